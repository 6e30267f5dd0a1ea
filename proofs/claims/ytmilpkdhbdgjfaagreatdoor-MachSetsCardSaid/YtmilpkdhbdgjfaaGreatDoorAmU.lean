/- A part of the machine and of its soundness; proves no statement. -/
import Derived.Test.YtmilpkdhbdgjfaaGreatDoorAmR
set_option linter.all false
namespace Go.Am
def oV(a b:WW):WW:= .seq a b
def oJ(c:Nat)(a b:WW):WW:= .cond (.tmp c) a b
def o5(n:Nat)(a:WW):WW:= .block n a
def o6(l:List (WH×List Nat)):WW:= .regionC l
instance:Coe WH (WH×List Nat):=⟨fun o=>(o,[])⟩
def Wq(t:WJ Value)(k:Nat)(v:Value):Prop:=zC t k=v
def WR(t:WJ Value)(x:Operand)(v:Value):Prop:=ev t x=v
def zIF(j:Nat):List Nat->Bool
 |[]=>true
 |k::l=>bif Nat.beq j k then false else zIF j l
def zHO(ws:List Nat)(t0 t:WJ Value):Prop:=∀ j,zIF j ws=true->zC t j=zC t0 j
theorem Wq.here{t:WJ Value}{k:Nat}{v:Value}:Wq (t.set k v) k v:=by unfold Wq;rw[yH,QG rfl]
theorem Vb{t:WJ Value}{k j:Nat}{v w:Value}(hn:Nat.beq j k=false)(s:Wq t j v):Wq (t.set k w) j v:=by
 unfold Wq at *;rw[yH,QC (fun e=>by subst e;simp at hn)];exact s
theorem Wq.same{ws t0 t j v}(hs:zHO ws t0 t)(hn:zIF j ws=true)(s:Wq t0 j v):Wq t j v:=(hs j hn).trans s
theorem WR.tmp{t k v}(s:Wq t k v):WR t (.tmp k) v:=s
theorem WR.const{t v}:WR t (.const v) v:=rfl
theorem WR.fn{t f}:WR t (.func f) (.func (.func f) #[] #[]):=rfl
theorem XC{t g}:WR t (.global g) (.pointer (some ⟨g,0,none⟩)):=rfl
def Bd(t:WJ Value)(xs:List Operand)(vs:List Value):Prop:=xs.map (ev t)=vs
theorem Bd.nil{t}:Bd t [] []:=rfl
theorem Bd.cons{t x xs v vs}(h:WR t x v)(k:Bd t xs vs):Bd t (x::xs) (v::vs):=by unfold Bd WR at *;simp[h,k]
def SA(n:Int)(i:Nat):Prop:=BI (I n)=some i
theorem Uh{i:Nat}:SA (i:Int) i:=rfl
theorem SA.lit{n:Int}{i:Nat}(h:n=(i:Int)):SA n i:=by subst h;rfl
theorem SA.int{n:Int}(h:0<=n):SA n n.toNat:=by
 obtain⟨i,rfl⟩:=Int.eq_ofNat_of_zero_le h;rfl
def BB(t:WJ Value)(ps:List (Nat×Nat×Operand))(vs:List (Nat×Nat×Value)):Prop:=zp t ps=vs
theorem BB.nil{t}:BB t [] []:=rfl
theorem BB.cons{t a b x ps v vs}(h:WR t x v)(k:BB t ps vs):BB t ((a,b,x)::ps) ((a,b,v)::vs):=by unfold BB WR at *;unfold zp at *;simp[h,k]
theorem Z1{j:Nat}:∀ {l:List Nat},zIF j l=true->l.contains j=false
 |[],_=>rfl
 |k::l,h=>by
  unfold zIF at h;cases hb:Nat.beq j k with
  |true=>rw[hb]at h;cases h
  |false=>
   rw[hb]at h;have:=Z1 (l:=l) h;simp only[List.contains_cons,this,Qo];have:j≠k:=fun e=>by subst e;simp at hb
   simpa using this
theorem YX{t k v}(h:Wq t k v:=by(repeat (first|((with_reducible apply Vb);rfl)|((with_reducible apply Wq.same);(with_reducible assumption);rfl)));first|with_reducible exact Wq.here|with_reducible assumption|(unfold Wq;with_reducible assumption)):Wq t k v:=h
theorem zN{t x v}(h:WR t x v:=by first|with_reducible exact WR.const|((with_reducible apply WR.tmp);(repeat (first|((with_reducible apply Vb);rfl)|((with_reducible apply Wq.same);(with_reducible assumption);rfl)));first|with_reducible exact Wq.here|with_reducible assumption|(unfold Wq;with_reducible assumption))|with_reducible exact WR.fn|with_reducible exact XC|fail):WR t x v:=h
theorem zKC{t xs vs}(h:Bd t xs vs:=by(repeat (apply Bd.cons;(exact zN)));exact Bd.nil):Bd t xs vs:=h
theorem zRC{b:Bool}(h:b=false):(!b)=true:=by rw[h];rfl
theorem zRA{b:Bool}(h:b=true):(!b)=false:=by rw[h];rfl
theorem DB:(∀ a:Prop,∀ [Decidable a],(decide a=true)=a)/\(∀ a:Prop,∀ [Decidable a],(decide a=false)=¬a)/\(∀ b:Bool,((!b)=true)=(b=false))/\(∀ b:Bool,((!b)=false)=(b=true))/\
  (∀ a b:Bool,((a||b)=true)=(a=true\/b=true))/\(∀ a b:Bool,((a&&b)=true)=(a=true/\b=true))/\(∀ a b:Bool,((a||b)=false)=(a=false/\b=false))/\(∀ a b:Bool,((a&&b)=false)=(a=false\/b=false))/\
  (∀ a b:Int,(¬a<b)=(b<=a))/\(∀ a b:Int,(¬a<=b)=(b<a))/\((true=true)=True)/\((false=false)=True)/\((true=false)=False)/\((false=true)=False):=
 ⟨fun a _=>by simp,fun a _=>by simp,fun b=>by simp,fun b=>by simp,fun a b=>by simp,fun a b=>by simp,fun a b=>by simp,fun a b=>by cases a<;>cases b<;>simp,fun a b=>by simp,fun a b=>by simp,by simp,by simp,by simp,by simp⟩
theorem zGW{p:Prop}(h:p:=by first|with_reducible rfl|with_reducible exact Qa|with_reducible exact QV|with_reducible assumption|exact QS (by first|with_reducible assumption|omega)|exact QM (by first|with_reducible assumption|omega)|exact zRC (by first|with_reducible assumption|exact QM (by first|with_reducible assumption|omega)|fail)|exact zRA (by first|with_reducible assumption|exact QS (by first|with_reducible assumption|omega)|fail)|(simp only[DB, *];done)|fail):p:=h
theorem zG5{p:Prop}(h:p:=by first|omega|with_reducible assumption|(simp only[GT,Q7,QW,JA,Gh]at *;omega)):p:=h
theorem zKt{n:Int}{i:Nat}(h:SA n i:=by first|exact Uh|exact SA.lit rfl|exact SA.int (by omega)|fail):SA n i:=h
theorem zQO{h:WG}{v:Value}{xs:List Int}(s:Wd h v xs:=by first|with_reducible assumption|exact Wd.ext (by with_reducible assumption) (by with_reducible assumption)|exact Wo.sl (by with_reducible assumption)|exact Wc.sl (by with_reducible assumption)|fail):Wd h v xs:=s
theorem zJM{o:Option Value}{r:Value}(h:o=some r:=by first|exact(rfl:_=some (Value.agg #[_,_]))|exact(rfl:_=some (Value.agg #[_,_,_]))|exact(rfl:_=some (Value.agg #[_,_,_,_]))|exact(rfl:_=some (Value.agg #[_,_,_,_,_]))|exact(rfl:_=some (Value.agg #[_,_,_,_,_,_]))|exact(rfl:_=some (Value.agg #[_,_,_,_,_,_,_]))|exact(rfl:_=some (Value.agg #[_,_,_,_,_,_,_,_]))|exact(rfl:_=some (Value.agg #[_,_,_,_,_,_,_,_,_,_]))|rfl):o=some r:=h
theorem zQ4{o:Option (List Value)}{r:List Value}(h:o=some r:=by first|exact(rfl:_=some [_,_])|exact(rfl:_=some [_,_,_])|exact(rfl:_=some [_,_,_,_])|exact(rfl:_=some [_,_,_,_,_])|exact(rfl:_=some [_,_,_,_,_,_])|exact(rfl:_=some [_,_,_,_,_,_,_])|exact(rfl:_=some [_,_,_,_,_,_,_,_])|rfl):o=some r:=h
def zG0(v:Value):Prop:=∃ a k m,v=.slice (some a) k m
section
variable {P:Program}{tab:Ww}{ds:List Deferred}{rd:Option Nat}
variable {h:WG}{l:List WH}{t:WJ Value}{Q:WT->WG->Prop}
theorem R.mov{d:Nat}{x:Operand}{v:Value}(hx:WR t x v)(k:WO P tab l ⟨t.set d v,ds,rd⟩ h Q):WO P tab (⟨some d,none,.mov x⟩::l) ⟨t,ds,rd⟩ h Q:=
 WO.op _ _ rfl (by unfold WR at *;simp only[WP,hx]) k
theorem R.add{d:Nat}{x y:Operand}{a b:Int}(hx:WR t x (I a))(hy:WR t y (I b))(h1: -9223372036854775808<=a+b)(h2:a+b<=9223372036854775807)(k:WO P tab l ⟨t.set d (I (a+b)),ds,rd⟩ h Q):WO P tab (⟨some d,none,.bin .add x y⟩::l) ⟨t,ds,rd⟩ h Q:=
 WO.op _ _ rfl (by unfold WR at *;simp only[WP,hx,hy,I,zNC,QH];rw[zEB h1 h2]) k
theorem R.sub{d:Nat}{x y:Operand}{a b:Int}(hx:WR t x (I a))(hy:WR t y (I b))(h1: -9223372036854775808<=a-b)(h2:a-b<=9223372036854775807)(k:WO P tab l ⟨t.set d (I (a-b)),ds,rd⟩ h Q):WO P tab (⟨some d,none,.bin .sub x y⟩::l) ⟨t,ds,rd⟩ h Q:=
 WO.op _ _ rfl (by unfold WR at *;simp only[WP,hx,hy,I,zNu,QH];rw[zEB h1 h2]) k
theorem R.mul{d:Nat}{x y:Operand}{a b:Int}(hx:WR t x (I a))(hy:WR t y (I b))(h1: -9223372036854775808<=a*b)(h2:a*b<=9223372036854775807)(k:WO P tab l ⟨t.set d (I (a*b)),ds,rd⟩ h Q):WO P tab (⟨some d,none,.bin .mul x y⟩::l) ⟨t,ds,rd⟩ h Q:=
 WO.op _ _ rfl (by unfold WR at *;simp only[WP,hx,hy,I,zM7,QH];rw[zEB h1 h2]) k
theorem R.lss{d:Nat}{x y:Operand}{a b:Int}{kk:IntKind}(hx:WR t x (.int kk a))(hy:WR t y (.int kk b))(k:WO P tab l ⟨t.set d (.bool (decide (a<b))),ds,rd⟩ h Q):WO P tab (⟨some d,none,.bin .lss x y⟩::l) ⟨t,ds,rd⟩ h Q:=
 WO.op _ _ rfl (by unfold WR at *;simp only[WP,hx,hy,zNd,QH]) k
theorem R.leq{d:Nat}{x y:Operand}{a b:Int}{kk:IntKind}(hx:WR t x (.int kk a))(hy:WR t y (.int kk b))(k:WO P tab l ⟨t.set d (.bool (decide (a<=b))),ds,rd⟩ h Q):WO P tab (⟨some d,none,.bin .leq x y⟩::l) ⟨t,ds,rd⟩ h Q:=
 WO.op _ _ rfl (by unfold WR at *;simp only[WP,hx,hy,zMR,QH]) k
theorem R.gtr{d:Nat}{x y:Operand}{a b:Int}{kk:IntKind}(hx:WR t x (.int kk a))(hy:WR t y (.int kk b))(k:WO P tab l ⟨t.set d (.bool (decide (b<a))),ds,rd⟩ h Q):WO P tab (⟨some d,none,.bin .gtr x y⟩::l) ⟨t,ds,rd⟩ h Q:=
 WO.op _ _ rfl (by unfold WR at *;simp only[WP,hx,hy,zLt,QH]) k
theorem R.geq{d:Nat}{x y:Operand}{a b:Int}{kk:IntKind}(hx:WR t x (.int kk a))(hy:WR t y (.int kk b))(k:WO P tab l ⟨t.set d (.bool (decide (b<=a))),ds,rd⟩ h Q):WO P tab (⟨some d,none,.bin .geq x y⟩::l) ⟨t,ds,rd⟩ h Q:=
 WO.op _ _ rfl (by unfold WR at *;simp only[WP,hx,hy,zNY,QH]) k
theorem R.eql{d:Nat}{x y:Operand}{a b:Int}{kk:IntKind}(hx:WR t x (.int kk a))(hy:WR t y (.int kk b))(k:WO P tab l ⟨t.set d (.bool (decide (a=b))),ds,rd⟩ h Q):WO P tab (⟨some d,none,.bin .eql x y⟩::l) ⟨t,ds,rd⟩ h Q:=
 WO.op _ _ rfl (by unfold WR at *;simp only[WP,hx,hy,zME,QH]) k
theorem R.neq{d:Nat}{x y:Operand}{a b:Int}{kk:IntKind}(hx:WR t x (.int kk a))(hy:WR t y (.int kk b))(k:WO P tab l ⟨t.set d (.bool (!decide (a=b))),ds,rd⟩ h Q):WO P tab (⟨some d,none,.bin .neq x y⟩::l) ⟨t,ds,rd⟩ h Q:=
 WO.op _ _ rfl (by unfold WR at *;simp only[WP,hx,hy,zMd,QH]) k
theorem R.not{d:Nat}{x:Operand}{b:Bool}(hx:WR t x (.bool b))(k:WO P tab l ⟨t.set d (.bool (!b)),ds,rd⟩ h Q):WO P tab (⟨some d,none,.un .not x⟩::l) ⟨t,ds,rd⟩ h Q:=
 WO.op _ _ rfl (by unfold WR at *;simp only[WP,hx,unV,QH]) k
theorem U9{d:Nat}{x y:Operand}{a b:Bool}(hx:WR t x (.bool a))(hy:WR t y (.bool b))(k:WO P tab l ⟨t.set d (.bool (a == b)),ds,rd⟩ h Q):WO P tab (⟨some d,none,.binB false x y⟩::l) ⟨t,ds,rd⟩ h Q:=
 WO.op _ _ rfl (by unfold WR at *;simp only[WP,hx,hy];rfl) k
theorem U6{d:Nat}{x y:Operand}{a b:Bool}(hx:WR t x (.bool a))(hy:WR t y (.bool b))(k:WO P tab l ⟨t.set d (.bool (a != b)),ds,rd⟩ h Q):WO P tab (⟨some d,none,.binB true x y⟩::l) ⟨t,ds,rd⟩ h Q:=
 WO.op _ _ rfl (by unfold WR at *;simp only[WP,hx,hy];rfl) k
theorem Xk{d:Nat}{x:Operand}{n:Int}{k2:IntKind}(hx:WR t x (.int k2 n))(h1: -9223372036854775808<=n)(h2:n<=9223372036854775807)(k:WO P tab l ⟨t.set d (I n),ds,rd⟩ h Q):WO P tab (⟨some d,none,.conv .i64 x⟩::l) ⟨t,ds,rd⟩ h Q:=
 WO.op _ _ rfl (by unfold WR at *;simp only[WP,hx,I];rw[zEB h1 h2]) k
theorem R.conv{d:Nat}{x:Operand}{n:Int}{kk k2:IntKind}(hx:WR t x (.int k2 n))(k:WO P tab l ⟨t.set d (.int kk (kk.wrap n)),ds,rd⟩ h Q):WO P tab (⟨some d,none,.conv kk x⟩::l) ⟨t,ds,rd⟩ h Q:=
 WO.op _ _ rfl (by unfold WR at *;simp only[WP,hx]) k
theorem Ui{d:Nat}{c x y:Operand}{v:Value}{b:Bool}(hc:WR t c (.bool b))(hb:b=true)(hx:WR t x v)(k:WO P tab l ⟨t.set d v,ds,rd⟩ h Q):WO P tab (⟨some d,none,.pick c x y⟩::l) ⟨t,ds,rd⟩ h Q:=
 WO.op _ _ rfl (by unfold WR at *;subst hb;simp only[WP,hc,hx,Q8]) k
theorem UJ{d:Nat}{c x y:Operand}{v:Value}{b:Bool}(hc:WR t c (.bool b))(hb:b=false)(hy:WR t y v)(k:WO P tab l ⟨t.set d v,ds,rd⟩ h Q):WO P tab (⟨some d,none,.pick c x y⟩::l) ⟨t,ds,rd⟩ h Q:=
 WO.op _ _ rfl (by unfold WR at *;subst hb;simp only[WP,hc,hy,Qs,Gw]) k
theorem Xr{d:Nat}{x:Operand}{v0 v1:Value}(hx:WR t x (.tuple #[v0,v1]))(k:WO P tab l ⟨t.set d v0,ds,rd⟩ h Q):WO P tab (⟨some d,none,.extract x 0⟩::l) ⟨t,ds,rd⟩ h Q:=
 WO.op _ _ rfl (by unfold WR at *;simp only[WP,hx];rfl) k
theorem X0{d:Nat}{x:Operand}{v0 v1:Value}(hx:WR t x (.tuple #[v0,v1]))(k:WO P tab l ⟨t.set d v1,ds,rd⟩ h Q):WO P tab (⟨some d,none,.extract x 1⟩::l) ⟨t,ds,rd⟩ h Q:=
 WO.op _ _ rfl (by unfold WR at *;simp only[WP,hx];rfl) k
theorem Xe{d:Nat}{x:Operand}{v0 v1 v2:Value}(hx:WR t x (.tuple #[v0,v1,v2]))(k:WO P tab l ⟨t.set d v0,ds,rd⟩ h Q):WO P tab (⟨some d,none,.extract x 0⟩::l) ⟨t,ds,rd⟩ h Q:=
 WO.op _ _ rfl (by unfold WR at *;simp only[WP,hx];rfl) k
theorem Xl{d:Nat}{x:Operand}{v0 v1 v2:Value}(hx:WR t x (.tuple #[v0,v1,v2]))(k:WO P tab l ⟨t.set d v1,ds,rd⟩ h Q):WO P tab (⟨some d,none,.extract x 1⟩::l) ⟨t,ds,rd⟩ h Q:=
 WO.op _ _ rfl (by unfold WR at *;simp only[WP,hx];rfl) k
theorem Xm{d:Nat}{x:Operand}{v0 v1 v2:Value}(hx:WR t x (.tuple #[v0,v1,v2]))(k:WO P tab l ⟨t.set d v2,ds,rd⟩ h Q):WO P tab (⟨some d,none,.extract x 2⟩::l) ⟨t,ds,rd⟩ h Q:=
 WO.op _ _ rfl (by unfold WR at *;simp only[WP,hx];rfl) k
theorem Xs{d:Nat}{x:Operand}{v0 v1 v2 v3:Value}(hx:WR t x (.tuple #[v0,v1,v2,v3]))(k:WO P tab l ⟨t.set d v0,ds,rd⟩ h Q):WO P tab (⟨some d,none,.extract x 0⟩::l) ⟨t,ds,rd⟩ h Q:=
 WO.op _ _ rfl (by unfold WR at *;simp only[WP,hx];rfl) k
theorem Xx{d:Nat}{x:Operand}{v0 v1 v2 v3:Value}(hx:WR t x (.tuple #[v0,v1,v2,v3]))(k:WO P tab l ⟨t.set d v1,ds,rd⟩ h Q):WO P tab (⟨some d,none,.extract x 1⟩::l) ⟨t,ds,rd⟩ h Q:=
 WO.op _ _ rfl (by unfold WR at *;simp only[WP,hx];rfl) k
theorem Xa{d:Nat}{x:Operand}{v0 v1 v2 v3:Value}(hx:WR t x (.tuple #[v0,v1,v2,v3]))(k:WO P tab l ⟨t.set d v2,ds,rd⟩ h Q):WO P tab (⟨some d,none,.extract x 2⟩::l) ⟨t,ds,rd⟩ h Q:=
 WO.op _ _ rfl (by unfold WR at *;simp only[WP,hx];rfl) k
theorem UC{d:Nat}{x:Operand}{v0 v1 v2 v3:Value}(hx:WR t x (.tuple #[v0,v1,v2,v3]))(k:WO P tab l ⟨t.set d v3,ds,rd⟩ h Q):WO P tab (⟨some d,none,.extract x 3⟩::l) ⟨t,ds,rd⟩ h Q:=
 WO.op _ _ rfl (by unfold WR at *;simp only[WP,hx];rfl) k
theorem R.lenC{d:Nat}{n:Nat}(k:WO P tab l ⟨t.set d (I n),ds,rd⟩ h Q):WO P tab (⟨some d,none,.lenC n⟩::l) ⟨t,ds,rd⟩ h Q:=
 WO.op _ _ rfl (by simp only[WP]) k
theorem R.nil{d:Nat}{x:Operand}{kind:Nat}{neg b:Bool}{v:Value}(hx:WR t x v)(hn:zDK kind v=some b)(k:WO P tab l ⟨t.set d (.bool (if neg then !b else b)),ds,rd⟩ h Q):WO P tab (⟨some d,none,.isNil kind neg x⟩::l) ⟨t,ds,rd⟩ h Q:=
 WO.op _ _ rfl (by unfold WR at *;simp only[WP,hx,hn,QH]) k
theorem Uo{d:Nat}{x:Operand}{v:Value}{xs:List Int}(hx:WR t x v)(s:Wd h v xs)(k:WO P tab l ⟨t.set d (I xs.length),ds,rd⟩ h Q):WO P tab (⟨some d,none,.len x⟩::l) ⟨t,ds,rd⟩ h Q:=
 WO.op _ _ rfl (by exact UH hx s) k
theorem Uw{d:Nat}{x:Operand}{v:Value}{α:Type}{c:Nat}{R:WG->List Value->α->Prop}{xs:List α}(hx:WR t x v)(s:Wy c R h v xs)(k:WO P tab l ⟨t.set d (I xs.length),ds,rd⟩ h Q):WO P tab (⟨some d,none,.len x⟩::l) ⟨t,ds,rd⟩ h Q:=
 WO.op _ _ rfl (by exact UF hx s) k
theorem Us{d:Nat}{x y:Operand}{v:Value}{n:Int}{i:Nat}{xs:List Int}(hx:WR t x v)(hy:WR t y (I n))(hi:SA n i)(s:Wd h v xs)(hl:i<xs.length)(k:WO P tab l ⟨t.set d (zR v i),ds,rd⟩ h Q):WO P tab (⟨some d,none,.idx 1 x y⟩::l) ⟨t,ds,rd⟩ h Q:=
 WO.op _ _ rfl (by unfold WR at hy;exact Xy hx (by rw[hy];exact hi) s hl) k
theorem Ur{d:Nat}{x y:Operand}{v:Value}{n:Int}{i:Nat}{α:Type}{c:Nat}{R:WG->List Value->α->Prop}{xs:List α}(hx:WR t x v)(hy:WR t y (I n))(hi:SA n i)(s:Wy c R h v xs)(hl:i<xs.length)(k:WO P tab l ⟨t.set d (zR v (i*c)),ds,rd⟩ h Q):WO P tab (⟨some d,none,.idx c x y⟩::l) ⟨t,ds,rd⟩ h Q:=
 WO.op _ _ rfl (by unfold WR at hy;exact Xo hx (by rw[hy];exact hi) s hl) k
theorem UM{d:Nat}{x:Operand}{v:Value}{i:Nat}{xs:List Int}(hx:WR t x (zR v i))(s:Wd h v xs)(hl:i<xs.length)(k:WO P tab l ⟨t.set d (I (xs.getD i 0)),ds,rd⟩ h Q):WO P tab (⟨some d,none,.load false 1 x⟩::l) ⟨t,ds,rd⟩ h Q:=
 WO.op _ _ rfl (by exact XW hx s hl) k
theorem Un{d:Nat}{x:Operand}{v r:Value}{j n off:Nat}{cs:List Value}(hx:WR t x (zR v (j+off)))(p:Wl h v j cs)(hn:0<n)(hr:(cut cs off n).bind (zI true)=some r)(k:WO P tab l ⟨t.set d r,ds,rd⟩ h Q):WO P tab (⟨some d,none,.load true n x⟩::l) ⟨t,ds,rd⟩ h Q:=
 WO.op _ _ rfl (by exact Wl.load hx p hn hr) k
theorem WA{d:Nat}{x:Operand}{v r:Value}{j n off:Nat}{cs:List Value}(hx:WR t x (zR v (j+off)))(p:Wl h v j cs)(hn:0<n)(hr:(cut cs off n).bind (zI false)=some r)(k:WO P tab l ⟨t.set d r,ds,rd⟩ h Q):WO P tab (⟨some d,none,.load false n x⟩::l) ⟨t,ds,rd⟩ h Q:=
 WO.op _ _ rfl (by exact Wl.load hx p hn hr) k
theorem UZ{d:Nat}{x:Operand}{v r:Value}{j n:Nat}{cs:List Value}(hx:WR t x (zR v j))(p:Wl h v j cs)(hn:0<n)(hr:(cut cs 0 n).bind (zI true)=some r)(k:WO P tab l ⟨t.set d r,ds,rd⟩ h Q):WO P tab (⟨some d,none,.load true n x⟩::l) ⟨t,ds,rd⟩ h Q:=
 WO.op _ _ rfl (by exact Vs hx p hn hr) k
theorem Uu{d:Nat}{x:Operand}{v r:Value}{j n:Nat}{cs:List Value}(hx:WR t x (zR v j))(p:Wl h v j cs)(hn:0<n)(hr:(cut cs 0 n).bind (zI false)=some r)(k:WO P tab l ⟨t.set d r,ds,rd⟩ h Q):WO P tab (⟨some d,none,.load false n x⟩::l) ⟨t,ds,rd⟩ h Q:=
 WO.op _ _ rfl (by exact Vs hx p hn hr) k
theorem R.fldP{d:Nat}{x:Operand}{v:Value}{j off:Nat}(hx:WR t x (zR v j))(hv:zG0 v)(k:WO P tab l ⟨t.set d (zR v (j+off)),ds,rd⟩ h Q):WO P tab (⟨some d,none,.fld off x⟩::l) ⟨t,ds,rd⟩ h Q:=
 WO.op _ _ rfl (by exact Go.Am.fldP hx hv) k
theorem UT{d:Nat}{x:Operand}{p:Value}{off:Nat}{h0:WG}{cs:List Value}(hx:WR t x p)(o:WI h0 h p cs)(k:WO P tab l ⟨t.set d (zu p off),ds,rd⟩ h Q):WO P tab (⟨some d,none,.fld off x⟩::l) ⟨t,ds,rd⟩ h Q:=
 WO.op _ _ rfl (by exact XT hx o) k
theorem Ux{d:Nat}{x:Operand}{p:Value}{j off:Nat}{h0:WG}{cs:List Value}(hx:WR t x (zu p j))(o:WI h0 h p cs)(k:WO P tab l ⟨t.set d (zu p (j+off)),ds,rd⟩ h Q):WO P tab (⟨some d,none,.fld off x⟩::l) ⟨t,ds,rd⟩ h Q:=
 WO.op _ _ rfl (by exact WI.fld hx o) k
theorem Uz{d:Nat}{x y:Operand}{p:Value}{n:Int}{i len:Nat}{kk:IntKind}{h0:WG}{cs:List Value}(hx:WR t x (zu p 0))(o:WI h0 h p cs)(hy:WR t y (.int kk n))(hi:SA n i)(hl:i<len)(k:WO P tab l ⟨t.set d (zu p i),ds,rd⟩ h Q):WO P tab (⟨some d,none,.idxArr len 1 x y⟩::l) ⟨t,ds,rd⟩ h Q:=
 WO.op _ _ rfl (by unfold WR at hx hy;have hi2:BI (ev t y)=some i:=(by rw[hy];exact(by cases n<;>rfl:BI (.int kk n)=BI (I n)).trans hi);have:=WI.idxArr (P:=P) (ih:=Ex.bot) (c:=1) hx hi2 o hl;rwa [Qk,Nat.mul_one]at this) k
theorem UY{d:Nat}{x y:Operand}{p:Value}{n:Int}{i len:Nat}{kk:IntKind}{h0:WG}{cs:List Value}(hx:WR t x p)(o:WI h0 h p cs)(hy:WR t y (.int kk n))(hi:SA n i)(hl:i<len)(k:WO P tab l ⟨t.set d (zu p i),ds,rd⟩ h Q):WO P tab (⟨some d,none,.idxArr len 1 x y⟩::l) ⟨t,ds,rd⟩ h Q:=
 WO.op _ _ rfl (by unfold WR at hx hy;have hi2:BI (ev t y)=some i:=(by rw[hy];exact(by cases n<;>rfl:BI (.int kk n)=BI (I n)).trans hi);have:=Vg (P:=P) (ih:=Ex.bot) (c:=1) hx hi2 o hl;rwa [Nat.mul_one]at this) k
theorem UV{d:Nat}{x y:Operand}{p:Value}{n:Int}{i j len:Nat}{kk:IntKind}{h0:WG}{cs:List Value}(hx:WR t x (zu p j))(o:WI h0 h p cs)(hy:WR t y (.int kk n))(hi:SA n i)(hl:i<len)(k:WO P tab l ⟨t.set d (zu p (j+i)),ds,rd⟩ h Q):WO P tab (⟨some d,none,.idxArr len 1 x y⟩::l) ⟨t,ds,rd⟩ h Q:=
 WO.op _ _ rfl (by unfold WR at hx hy;have hi2:BI (ev t y)=some i:=(by rw[hy];exact(by cases n<;>rfl:BI (.int kk n)=BI (I n)).trans hi);have:=WI.idxArr (P:=P) (ih:=Ex.bot) (c:=1) hx hi2 o hl;rwa [Nat.mul_one]at this) k
theorem Uc{d:Nat}{x:Operand}{p:Value}{q:Nat}{xs:List Int}{h0:WG}(hx:WR t x (zu p q))(o:WI h0 h p (xs.map I))(hl:q<xs.length)(k:WO P tab l ⟨t.set d (I (xs.getD q 0)),ds,rd⟩ h Q):WO P tab (⟨some d,none,.load false 1 x⟩::l) ⟨t,ds,rd⟩ h Q:=
 WO.op _ _ rfl (by refine WI.load hx o ?_;have h1:(xs.map I).drop q=I xs[q]::(xs.map I).drop (q+1):=(by rw[GJ (by simpa using hl),List.getElem_map]);have hc:cut (xs.map I) q 1=some [I (xs.getD q 0)]:=(by rw[yu (by simp;omega),h1];simp[List.getD,QB hl]);rw[hc];rfl) k
theorem XR{d:Nat}{x:Operand}{p r:Value}{n:Nat}{h0:WG}{cs:List Value}(hx:WR t x p)(o:WI h0 h p cs)(hr:(cut cs 0 n).bind (zI true)=some r)(k:WO P tab l ⟨t.set d r,ds,rd⟩ h Q):WO P tab (⟨some d,none,.load true n x⟩::l) ⟨t,ds,rd⟩ h Q:=
 WO.op _ _ rfl (by exact Vm hx o hr) k
theorem Xb{d:Nat}{x:Operand}{p r:Value}{n:Nat}{h0:WG}{cs:List Value}(hx:WR t x p)(o:WI h0 h p cs)(hr:(cut cs 0 n).bind (zI false)=some r)(k:WO P tab l ⟨t.set d r,ds,rd⟩ h Q):WO P tab (⟨some d,none,.load false n x⟩::l) ⟨t,ds,rd⟩ h Q:=
 WO.op _ _ rfl (by exact Vm hx o hr) k
theorem Xv{d:Nat}{x:Operand}{p r:Value}{n j:Nat}{h0:WG}{cs:List Value}(hx:WR t x (zu p j))(o:WI h0 h p cs)(hr:(cut cs j n).bind (zI true)=some r)(k:WO P tab l ⟨t.set d r,ds,rd⟩ h Q):WO P tab (⟨some d,none,.load true n x⟩::l) ⟨t,ds,rd⟩ h Q:=
 WO.op _ _ rfl (by exact WI.load hx o hr) k
theorem UX{d:Nat}{x:Operand}{p r:Value}{n j:Nat}{h0:WG}{cs:List Value}(hx:WR t x (zu p j))(o:WI h0 h p cs)(hr:(cut cs j n).bind (zI false)=some r)(k:WO P tab l ⟨t.set d r,ds,rd⟩ h Q):WO P tab (⟨some d,none,.load false n x⟩::l) ⟨t,ds,rd⟩ h Q:=
 WO.op _ _ rfl (by exact WI.load hx o hr) k
theorem UL{d:Nat}{x:Operand}{off n:Nat}{r:Value}{cs:Array Value}(hx:WR t x (.agg cs))(hr:(cut cs.toList off n).bind (zI true)=some r)(k:WO P tab l ⟨t.set d r,ds,rd⟩ h Q):WO P tab (⟨some d,none,.part true off n x⟩::l) ⟨t,ds,rd⟩ h Q:=
 WO.op _ _ rfl (by unfold WR at *;simp only[WP,hx,hr,QH]) k
theorem R.part{d:Nat}{x:Operand}{off n:Nat}{r:Value}{cs:Array Value}(hx:WR t x (.agg cs))(hr:(cut cs.toList off n).bind (zI false)=some r)(k:WO P tab l ⟨t.set d r,ds,rd⟩ h Q):WO P tab (⟨some d,none,.part false off n x⟩::l) ⟨t,ds,rd⟩ h Q:=
 WO.op _ _ rfl (by unfold WR at *;simp only[WP,hx,hr,QH]) k
theorem Uv{d:Nat}{len c g:Nat}{y:Operand}{n:Int}{i:Nat}{kk:IntKind}(hy:WR t y (.int kk n))(hi:SA n i)(hl:i<len)(k:WO P tab l ⟨t.set d (.pointer (some ⟨g,0+i*c,none⟩)),ds,rd⟩ h Q):WO P tab (⟨some d,none,.idxArr len c (.global g) y⟩::l) ⟨t,ds,rd⟩ h Q:=
 WO.op _ _ rfl (by unfold WR at hy;have hb:Nat.ble (i+1) len=true:=QF hl;have hi2:BI (ev t y)=some i:=(by rw[hy];exact(by cases n<;>rfl:BI (.int kk n)=BI (I n)).trans hi);simp only[WP,hi2];simp only[ev,hb,Qe,Qm,cond_true]) k
theorem UP{d:Nat}{x:Operand}{g off n:Nat}{r:Value}{cells:List Value}(hx:WR t x (.pointer (some ⟨g,off,none⟩)))(hg:zt h g=some cells)(hr:(cut cells off n).bind (zI true)=some r)(k:WO P tab l ⟨t.set d r,ds,rd⟩ h Q):WO P tab (⟨some d,none,.load true n x⟩::l) ⟨t,ds,rd⟩ h Q:=
 WO.op _ _ rfl (by unfold WR at *;simp only[WP,hx,hg,Qe,cond_true,QR,hr,QH]) k
theorem R.agg{d:Nat}{zero:List Value}{parts:List (Nat×Nat×Operand)}{vs:List (Nat×Nat×Value)}{cells:List Value}(hp:BB t parts vs)(hf:y8 zero vs=some cells)(k:WO P tab l ⟨t.set d (.agg cells.toArray),ds,rd⟩ h Q):WO P tab (⟨some d,none,.build zero parts⟩::l) ⟨t,ds,rd⟩ h Q:=
 WO.op _ _ rfl (by unfold BB at hp;simp only[WP,hp,hf,QH]) k
theorem Um{d:Nat}{x:Operand}{p:Value}{h0:WG}{cs:List Value}(hx:WR t x p)(o:WI h0 h p cs)(k:WO P tab l ⟨t.set d p,ds,rd⟩ h Q):WO P tab (⟨some d,none,.nilCheck x⟩::l) ⟨t,ds,rd⟩ h Q:=
 WO.op _ _ rfl (by unfold WR at *;obtain⟨g,_,_,rfl,_⟩:=o;simp only[WP,hx,Zp,QH]) k
theorem Uy{d:Nat}{x:Operand}{v:Value}{j:Nat}(hx:WR t x (zR v j))(hv:zG0 v)(k:WO P tab l ⟨t.set d (zR v j),ds,rd⟩ h Q):WO P tab (⟨some d,none,.nilCheck x⟩::l) ⟨t,ds,rd⟩ h Q:=
 WO.op _ _ rfl (by unfold WR at *;obtain⟨a,_,_,rfl⟩:=hv;simp only[WP,hx,zR,Zp,QH]) k
theorem U7{d:Nat}{x:Operand}{a:Addr}(hx:WR t x (.pointer (some a)))(k:WO P tab l ⟨t.set d (.pointer (some a)),ds,rd⟩ h Q):WO P tab (⟨some d,none,.nilCheck x⟩::l) ⟨t,ds,rd⟩ h Q:=
 WO.op _ _ rfl (by unfold WR at *;simp only[WP,hx,Zp,QH]) k
theorem Up{d:Nat}{x:Operand}{m:Value}{es:List (Int×Int)}{h0:WG}(hx:WR t x m)(o:BN h0 h m es)(k:WO P tab l ⟨t.set d (I es.length),ds,rd⟩ h Q):WO P tab (⟨some d,none,.lenMap x⟩::l) ⟨t,ds,rd⟩ h Q:=
 WO.op _ _ rfl (by unfold WR at *;obtain⟨g,c,es',_,_,rfl,hg,he⟩:=o;have hl:es'.length=es.length:=(by have:=congrArg List.length he;simpa using this);simp only[WP,hx,hg,hl]) k
theorem U5{d:Nat}{mm ky:Operand}{z m:Value}{a:Int}{es:List (Int×Int)}{h0:WG}(hx:WR t mm m)(hk:WR t ky (I a))(o:BN h0 h m es)(hl:es.lookup a=none)(k:WO P tab l ⟨t.set d (.tuple #[z,.bool false]),ds,rd⟩ h Q):WO P tab (⟨some d,none,.lookup true z mm ky⟩::l) ⟨t,ds,rd⟩ h Q:=
 WO.op _ _ rfl (by unfold WR at *;obtain⟨g,c,es',_,_,rfl,hg,he⟩:=o;simp only[WP,hx,hk,hg,zCf 0 he hl,Q8]) k
theorem WB{d:Nat}{mm ky:Operand}{z m:Value}{a v:Int}{es:List (Int×Int)}{h0:WG}(hx:WR t mm m)(hk:WR t ky (I a))(o:BN h0 h m es)(hl:es.lookup a=some v)(k:WO P tab l ⟨t.set d (.tuple #[I v,.bool true]),ds,rd⟩ h Q):WO P tab (⟨some d,none,.lookup true z mm ky⟩::l) ⟨t,ds,rd⟩ h Q:=
 WO.op _ _ rfl (by unfold WR at *;obtain⟨g,c,es',_,_,rfl,hg,he⟩:=o;obtain⟨j,hj⟩:=zE6 0 he hl;simp only[WP,hx,hk,hg,hj,Q8]) k
theorem U3{d:Nat}{f:FuncId}{xs ys:List Operand}{vs us:List Value}(hx:Bd t xs vs)(hy:Bd t ys us)(k:WO P tab l ⟨t.set d (.func (.func f) vs.toArray us.toArray),ds,rd⟩ h Q):WO P tab (⟨some d,none,.mkFunc (.func f) xs ys⟩::l) ⟨t,ds,rd⟩ h Q:=
 WO.op _ _ rfl (by unfold Bd at *;simp only[WP,hx,hy]) k
theorem WF{d:Option Nat}{j:Nat}{want b:Bool}{op:W6}(s:Wq t j (.bool b))(hb:b=want)(k:WO P tab (⟨d,none,op⟩::l) ⟨t,ds,rd⟩ h Q):WO P tab (⟨d,some (j,want),op⟩::l) ⟨t,ds,rd⟩ h Q:=
 XP (hb▸s) k
theorem U2{d j:Nat}{b:Bool}{op:W6}(s:Wq t j (.bool b))(hb:b=false)(k:WO P tab l ⟨t.set d undef,ds,rd⟩ h Q):WO P tab (⟨some d,some (j,true),op⟩::l) ⟨t,ds,rd⟩ h Q:=by
 subst hb;exact Vv s k
theorem U4{d j:Nat}{b:Bool}{op:W6}(s:Wq t j (.bool b))(hb:b=true)(k:WO P tab l ⟨t.set d undef,ds,rd⟩ h Q):WO P tab (⟨some d,some (j,false),op⟩::l) ⟨t,ds,rd⟩ h Q:=by
 subst hb;exact Vv s k
theorem WE{d j:Nat}{want:Bool}{op:W6}(s:Wq t j undef)(k:WO P tab l ⟨t.set d undef,ds,rd⟩ h Q):WO P tab (⟨some d,some (j,want),op⟩::l) ⟨t,ds,rd⟩ h Q:=
 XO s k
theorem VH{d:Option Nat}{j:Nat}{want b:Bool}{op:W6}(h1:b=true->WO P tab (⟨d,some (j,want),op⟩::l) ⟨t,ds,rd⟩ h Q)(h2:b=false->WO P tab (⟨d,some (j,want),op⟩::l) ⟨t,ds,rd⟩ h Q)(s:Wq t j (.bool b):=by exact YX):
  WO P tab (⟨d,some (j,want),op⟩::l) ⟨t,ds,rd⟩ h Q:=by
 cases b with
 |true=>exact h1 rfl
 |false=>exact h2 rfl
theorem VA{d:Nat}{f:FuncId}{args:List Operand}{as:List Value}{R:Value->WG->Prop}(hc:WC P tab f as h R)(k:∀ v h',R v h'->WO P tab l ⟨t.set d v,ds,rd⟩ h' Q)(ha:Bd t args as:=by exact zKC):
  WO P tab (⟨some d,none,.call (.func f) args⟩::l) ⟨t,ds,rd⟩ h Q:=WO.call ha (hc.mono k)
theorem VS{d:Nat}{f:Operand}{fv:Value}{args:List Operand}{as:List Value}{R:Value->WG->Prop}(hc:WV P tab fv as h R)(k:∀ v h',R v h'->WO P tab l ⟨t.set d v,ds,rd⟩ h' Q)(hf:WR t f fv:=by exact zN)(ha:Bd t args as:=by exact zKC):
  WO P tab (⟨some d,none,.call f args⟩::l) ⟨t,ds,rd⟩ h Q:=Xi hf ha (hc.mono k)
theorem VJ{d:Nat}{zero:List Value}(k:∀ p h',WL h h'->WI h h' p zero->WO P tab l ⟨t.set d p,ds,rd⟩ h' Q):WO P tab (⟨some d,none,.alloc zero⟩::l) ⟨t,ds,rd⟩ h Q:=XS k
theorem VF{x y:Operand}{p v:Value}{cells cs:List Value}{n:Nat}{h0:WG}(o:WI h0 h p cells)(e0:WL h0 h)(k:∀ h',WL h0 h'->WI h0 h' p cs->Wu p h h'->WO P tab l ⟨t,ds,rd⟩ h' Q)
  (hx:WR t x p:=by exact zN) (hy:WR t y v:=by exact zN) (hv:v.cells=cs.toArray:=by rfl) (hn:cs.length=n:=by rfl) (hl:cells.length=n:=by rfl) (h1:zH cs=true:=by rfl):WO P tab (⟨none,none,.store n x y⟩::l) ⟨t,ds,rd⟩ h Q:=
 XG hx hy hv h1 hn o e0 hl k
theorem Vj{x y:Operand}{p v:Value}{cells cs:List Value}{n j:Nat}{h0:WG}(o:WI h0 h p cells)(e0:WL h0 h)(k:∀ h',WL h0 h'->WI h0 h' p (zL cells j cs)->Wu p h h'->WO P tab l ⟨t,ds,rd⟩ h' Q)
  (hx:WR t x (zu p j):=by exact zN) (hy:WR t y v:=by exact zN) (hv:v.cells=cs.toArray:=by rfl) (hn:cs.length=n:=by rfl) (hl:j+n<=cells.length:=by decide) (h1:zH cs=true:=by rfl):WO P tab (⟨none,none,.store n x y⟩::l) ⟨t,ds,rd⟩ h Q:=
 Vq hx hy hv h1 hn o e0 hl k
theorem WO.bl{d n:Nat}{zero:List Value}{parts:List (Nat×Nat×Operand)}{vs:List (Nat×Nat×Value)}(xs:List Int)(k:∀ v h',WL h h'->Wo h h' v xs->WO P tab l ⟨t.set d v,ds,rd⟩ h' Q)
  (hp:BB t parts vs:=by(repeat (apply BB.cons;(exact zN)));exact BB.nil) (hn:xs.length=n:=by rfl) (hf:y8 (zS zero n) vs=some (xs.map I):=by rfl):WO P tab (⟨some d,none,.buildSlice n 1 zero parts⟩::l) ⟨t,ds,rd⟩ h Q:=
 XU xs hn (by unfold BB at hp;rw[hp];exact hf) k
theorem Va{d:Nat}{x y:Operand}{v w:Value}{xs ys:List Int}{h0:WG}(o:Wc h0 h v xs)(s:Wd h w ys)(e0:WL h0 h)(hr:xs.length+ys.length<=4294967296)(k:∀ v' h',WL h0 h'->Wc h0 h' v' (xs++ys)->WO P tab l ⟨t.set d v',ds,rd⟩ h' Q)
  (hx:WR t x v:=by exact zN) (hy:WR t y w:=by exact zN):WO P tab (⟨some d,none,.append 1 x y⟩::l) ⟨t,ds,rd⟩ h Q:=by
 by_cases hne:ys=[]
 ·subst hne;have hsrc:yN 1 h w=some []:=by simpa using ZH s
  have hv:∃ a n k,v=.slice a n k/\(a=none->n=0/\k=0):=by
   rcases o with⟨rfl,_⟩|⟨g,_,_,rfl,_⟩
   ·exact⟨_,_,_,rfl,fun _=>⟨rfl,rfl⟩⟩
   ·exact⟨_,_,_,rfl,fun h=>by cases h⟩
  refine WO.op v h rfl ?_ (k v h e0 (by simpa using o));unfold WR at hx hy;obtain⟨a,n,kk,rfl,ha⟩:=hv;cases a with
  |none=>obtain⟨rfl,rfl⟩:=ha rfl;simp only[WP,hx,hy,zz,hsrc]
  |some a=>simp only[WP,hx,hy,zz,hsrc]
 ·exact XE hx hy o s e0 hne hr fun v' h' a b _=>k v' h' a (.inr b)
theorem Vf{d:Nat}{op:BinOp}{ty:TypeId}{x y:Operand}{a b v:Value}(hp:zT P (do eqGuard op ty x y a b;binOp op ty a b)=some v)(k:WO P tab l ⟨t.set d v,ds,rd⟩ h Q)
  (hx:WR t x a:=by exact zN) (hy:WR t y b:=by exact zN) (hc:(Yc a&&Yc b)=true:=by rfl) (hv:yR v=true:=by rfl):WO P tab (⟨some d,none,.binP op ty x y⟩::l) ⟨t,ds,rd⟩ h Q:=by
 unfold WR at hx hy;refine WO.op v h rfl ?_ k;simp only[WP,hx,hy,hc,cond_true,hp,hv]
def zQ9(M:WJ Value->WG->Prop)(ds:List Deferred)(rd:Option Nat):WT->WG->Prop:=fun fr h=>fr.dfs=ds/\fr.round=rd/\M fr.tm h
theorem zBZ{ih:Ex}:∀ (a b:List WH) (fr:WT) (h:WG),yX P ih (a++b) fr h=(yX P ih a fr h).bind fun p=>yX P ih b p.1 p.2
 |[],b,fr,h=>rfl
 |o::a,b,fr,h=>by
  simp only[List.cons_append,yX];cases yD P ih o fr h with
  |none=>rfl
  |some p=>obtain⟨fr1,h1⟩:=p;exact zBZ a b fr1 h1
theorem VW(n:Nat)(M:WJ Value->WG->Prop){ws:List Nat}(h1:WO P tab (l.take n) ⟨t,ds,rd⟩ h (zQ9 M ds rd))(h2:∀ t' h',zHO ws t t'->M t' h'->WO P tab (l.drop n) ⟨t',ds,rd⟩ h' Q)(hw:(l.take n).filterMap (·.dst)=ws:=by rfl):WO P tab l ⟨t,ds,rd⟩ h Q:=by
 subst hw;unfold WO at h1;obtain⟨fr1,h',⟨q1,q2,q3⟩,ev1⟩:=h1;obtain⟨t1,ds1,rd1⟩:=fr1;simp only at q1 q2 q3;subst q1 q2;have hs:zHO ((l.take n).filterMap (·.dst)) t t1:=by
  intro j hj;obtain⟨N,a⟩:=(show ∃ N,∀ n',N<=n'->_ from by unfold Ev at ev1;exact ev1);exact zB1 (a N (QE _)) (fun hm=>by
   have:=Z1 hj;rw[List.contains_eq_mem,JD]at this;exact this hm)
 have:=h2 t1 h' hs q3;unfold WO at this |-;obtain⟨fr2,h2',q,ev2⟩:=this;refine⟨fr2,h2',q,(ev1.and ev2).mono fun k ⟨e1,e2⟩=> ?_⟩;rw[<-GG n l,zBZ,e1];exact e2
theorem Vi{d c i:Nat}{x y:Operand}{v r:Value}(hr:yW c v (some i) none none=some r)(k:WO P tab l ⟨t.set d r,ds,rd⟩ h Q)(hx:WR t x v:=by exact zN)(hy:WR t y (I (i:Int)):=by exact zN):
  WO P tab (⟨some d,none,.slice c x (some y) none none⟩::l) ⟨t,ds,rd⟩ h Q:=by
 unfold WR at hx hy;refine WO.op r h rfl ?_ k;have:BI (I (i:Int))=some i:=rfl;simp only[WP,Yq,hx,hy,this,QH,hr]
theorem Vl{d c i:Nat}{x y:Operand}{v r:Value}(hr:yW c v none (some i) none=some r)(k:WO P tab l ⟨t.set d r,ds,rd⟩ h Q)(hx:WR t x v:=by exact zN)(hy:WR t y (I (i:Int)):=by exact zN):
  WO P tab (⟨some d,none,.slice c x none (some y) none⟩::l) ⟨t,ds,rd⟩ h Q:=by
 unfold WR at hx hy;refine WO.op r h rfl ?_ k;have:BI (I (i:Int))=some i:=rfl;simp only[WP,Yq,hx,hy,this,QH,hr]
theorem U0{c:Nat}{zero:List Value}{x:Operand}{v:Value}{h':WG}(hr:zBM c zero v h=some (.tuple #[],h'))(k:WO P tab l ⟨t,ds,rd⟩ h' Q)(hx:WR t x v:=by exact zN):
  WO P tab (⟨none,none,.clearS c zero x⟩::l) ⟨t,ds,rd⟩ h Q:=by
 unfold WR at hx;exact VT (.tuple #[]) h' rfl (by simp only[WP,hx,hr]) k
theorem VG{d:Nat}{x:Operand}{v:Value}(k:∀ p h',WL h h'->WI h h' p v.cells.toList->WO P tab l ⟨t.set d p,ds,rd⟩ h' Q)(hx:WR t x v:=by exact zN):
  WO P tab (⟨some d,none,.box x⟩::l) ⟨t,ds,rd⟩ h Q:=UW v.cells.toList (by unfold WR at hx;rw[hx]) k
theorem Uk{c:Operand}{x y:WW}{K:WQ->WT->WG->Prop}{b:Bool}(s:WR t c (.bool b))(hb:b=true)(h1:WX P tab x ⟨t,ds,rd⟩ h K):WX P tab (.cond c x y) ⟨t,ds,rd⟩ h K:=
 UI (hb▸s) h1
theorem Ul{c:Operand}{x y:WW}{K:WQ->WT->WG->Prop}{b:Bool}(s:WR t c (.bool b))(hb:b=false)(h1:WX P tab y ⟨t,ds,rd⟩ h K):WX P tab (.cond c x y) ⟨t,ds,rd⟩ h K:=
 UG (hb▸s) h1
theorem VD{c:Operand}{x y:WW}{K:WQ->WT->WG->Prop}{b:Bool}(h1:b=true->WX P tab x ⟨t,ds,rd⟩ h K)(h2:b=false->WX P tab y ⟨t,ds,rd⟩ h K)(s:WR t c (.bool b):=by exact zN):WX P tab (.cond c x y) ⟨t,ds,rd⟩ h K:=
 WX.cond b s h1 h2
theorem WN{k:Nat}{v:Value}(s:Wq t k v:=by(repeat (first|((with_reducible apply Vb);rfl)|((with_reducible apply Wq.same);(with_reducible assumption);rfl)));first|with_reducible exact Wq.here|with_reducible assumption|(unfold Wq;with_reducible assumption)|exact Wq.here):zC t k=v:=s
theorem BG{k i:Nat}(s:Wq t k (I ((i:Int)+1)):=by(repeat (first|((with_reducible apply Vb);rfl)|((with_reducible apply Wq.same);(with_reducible assumption);rfl)));first|with_reducible exact Wq.here|with_reducible assumption|(unfold Wq;with_reducible assumption)|exact Wq.here):zC t k=I ((i+1:Nat):Int):=s
def W0(h:WG)(t:WJ Value)(rs:List (Nat×Option (Bool×Nat)))(vs:List Value):Prop:=zy h t rs=some vs
theorem W0.nil:W0 h t [] []:=rfl
theorem W0.cons{j:Nat}{v:Value}{rs:List (Nat×Option (Bool×Nat))}{vs:List Value}(s:Wq t j v)(k:W0 h t rs vs):W0 h t ((j,none)::rs) (v::vs):=by
 unfold W0 at *;unfold Wq at s;simp only[zy,YL,s,k]
theorem VL{j n:Nat}{p v:Value}{h0:WG}{cs:List Value}{rs:List (Nat×Option (Bool×Nat))}{vs:List Value}(s:Wq t j p)(o:WI h0 h p cs)(hr:(cut cs 0 n).bind (zI true)=some v)(k:W0 h t rs vs):W0 h t ((j,some (true,n))::rs) (v::vs):=by
 obtain⟨g,_,_,rfl,hg⟩:=o;unfold W0 at *;unfold Wq at s;simp only[zy,YL,s,ZP hg,Qe,cond_true,QR,hr,k]
theorem rt{rs:List (Nat×Option (Bool×Nat))}{Q:Value->WG->Prop}{vs:List Value}(hq:Q (one vs) h)(r:W0 h t rs vs:=by(repeat (first|(apply W0.cons;(exact YX))|(apply VL;(exact YX);(with_reducible assumption);(exact zJM))));exact W0.nil):zD0 P tab rs Q .ret ⟨t,[],rd⟩ h:=zNp r hq
theorem rtN{rs:List (Nat×Option (Bool×Nat))}{Q:Value->WG->Prop}{vs:List Value}(hq:Q (one vs) h)(r:W0 h t rs vs:=by(repeat (first|(apply W0.cons;(exact YX))|(apply VL;(exact YX);(with_reducible assumption);(exact zJM))));exact W0.nil):zD0 P tab rs Q .normal ⟨t,[],rd⟩ h:=zHu r hq
theorem VE{ws:List Nat}{α:Type}{b:WW}{K:WQ->WT->WG->Prop}(μ:α->Nat)(I:α->WJ Value->WG->Prop)(x:α)(h0:I x t h)
  (hb:∀ x t' h',zHO ws t t'->I x t' h'->WX P tab b ⟨t',ds,rd⟩ h' (zCa μ I x ds rd K)) (hw:yC b=ws:=by conv=>(lhs;reduce)):WX P tab (.loop b) ⟨t,ds,rd⟩ h K:=
 Xz μ I x h0 fun x t' h' hs hi=>hb x t' h' (fun j hj=>hs j (by rw[hw];exact Z1 hj)) hi
structure Wrap(G:Prop):Prop where
 out:G
theorem go{G' G:Prop}(k:G')(r:Wrap G'->G:=by
  intro hgo;repeat (first|refine WX.seq ?_|refine WX.region ?_|(apply R.mov;(exact zN))|(apply R.add;(exact zN);(exact zN);(omega);(omega))|(apply R.sub;(exact zN);(exact zN);(omega);(omega))|(apply R.mul;(exact zN);(exact zN);(omega);(omega))|(apply R.lss;(exact zN);(exact zN))|(apply R.leq;(exact zN);(exact zN))|(apply R.gtr;(exact zN);(exact zN))|(apply R.geq;(exact zN);(exact zN))|(apply R.eql;(exact zN);(exact zN))|(apply R.neq;(exact zN);(exact zN))|(apply R.not;(exact zN))|(apply U9;(exact zN);(exact zN))|(apply U6;(exact zN);(exact zN))|(apply Xk;(exact zN);(omega);(omega))|(apply R.conv;(exact zN))|(apply Ui;(exact zN);(exact zGW);(exact zN))|(apply UJ;(exact zN);(exact zGW);(exact zN))|(apply Xr;(exact zN))|(apply X0;(exact zN))|(apply Xe;(exact zN))|(apply Xl;(exact zN))|(apply Xm;(exact zN))|(apply Xs;(exact zN))|(apply Xx;(exact zN))|(apply Xa;(exact zN))|(apply UC;(exact zN))|(apply R.lenC)|(apply R.nil;(exact zN);(rfl))|(apply Uo;(exact zN);(exact zQO))|(apply Uw;(exact zN);(with_reducible assumption))|(apply Us;(exact zN);(exact zN);(exact zKt);(exact zQO);(exact zG5))|(apply Ur;(exact zN);(exact zN);(exact zKt);(with_reducible assumption);(exact zG5))|(apply UM;(exact zN);(exact zQO);(exact zG5))|(apply Un;(exact zN);(with_reducible assumption);(decide);(exact zJM))|(apply WA;(exact zN);(with_reducible assumption);(decide);(rfl))|(apply UZ;(exact zN);(with_reducible assumption);(decide);(exact zJM))|(apply Uu;(exact zN);(with_reducible assumption);(decide);(rfl))|(apply R.fldP;(exact zN);(with_reducible assumption))|(apply UT;(exact zN);(with_reducible assumption))|(apply Ux;(exact zN);(with_reducible assumption))|(apply Uz;(exact zN);(with_reducible assumption);(exact zN);(exact zKt);(exact zG5))|(apply UY;(exact zN);(with_reducible assumption);(exact zN);(exact zKt);(exact zG5))|(apply UV;(exact zN);(with_reducible assumption);(exact zN);(exact zKt);(exact zG5))|(apply Uc;(exact zN);(with_reducible assumption);(exact zG5))|(apply XR;(exact zN);(with_reducible assumption);(exact zJM))|(apply Xb;(exact zN);(with_reducible assumption);(rfl))|(apply Xv;(exact zN);(with_reducible assumption);(exact zJM))|(apply UX;(exact zN);(with_reducible assumption);(rfl))|(apply UL;(exact zN);(exact zJM))|(apply R.part;(exact zN);(rfl))|(apply Uv;(exact zN);(exact zKt);(exact zG5))|(apply UP;(exact zN);(with_reducible assumption);(with_reducible assumption))|(apply R.agg;((repeat (apply BB.cons;(exact zN)));exact BB.nil);(exact zQ4))|(apply Um;(exact zN);(with_reducible assumption))|(apply Uy;(exact zN);(with_reducible assumption))|(apply U7;(exact zN))|(apply Up;(exact zN);(with_reducible assumption))|(apply U5;(exact zN);(exact zN);(with_reducible assumption);(with_reducible assumption))|(apply WB;(exact zN);(exact zN);(with_reducible assumption);(with_reducible assumption))|(apply U3;(exact zKC);(exact zKC))|(apply WF;(exact YX);(exact zGW))|(apply U2;(exact YX);(exact zGW))|(apply U4;(exact YX);(exact zGW))|(apply WE;(exact YX))|refine WO.nil ?_|refine Z2 ?_|refine WX.skip ?_|refine WX.block ?_|refine WX.exit ?_|refine zC2 ?_|refine zBV ?_|refine zEf ?_|refine zA1 rfl ?_|refine zDw ?_|refine WX.ret ?_|refine zFK ?_|refine zED ?_|refine zFd ?_|(apply Uk;(exact zN);(exact zGW))|(apply Ul;(exact zN);(exact zGW))|refine WX.label ?_|refine WX.goto ?_|refine zD9 ?_|refine zC9 ?_|refine zEZ ?_|refine Vd rfl ?_)
  exact hgo.out):G:=r ⟨k⟩
theorem gr{G' G:Prop}(k:G')(r:Wrap G'->G:=by
  intro hgo;refine go ?_;refine rt ?_;exact hgo.out):G:=r ⟨k⟩
theorem goC{G' G:Prop}(k:G')(r:Wrap G'->G:=by
  intro hgo;repeat (first|refine WX.seq ?_|refine WX.region ?_|refine WO.nil ?_|refine Z2 ?_|refine WX.skip ?_|refine WX.block ?_|refine WX.exit ?_|refine zC2 ?_|refine zBV ?_|refine zEf ?_|refine zA1 rfl ?_|refine zDw ?_|refine WX.ret ?_|refine zFK ?_|refine zED ?_|refine zFd ?_|(apply Uk;(exact zN);(exact zGW))|(apply Ul;(exact zN);(exact zGW))|refine WX.label ?_|refine WX.goto ?_|refine zD9 ?_|refine zC9 ?_|refine zEZ ?_|refine Vd rfl ?_)
  exact hgo.out):G:=r ⟨k⟩
end
section
variable {P:Program}
theorem zK{α β:Type}(x:Sem α)(f:α->Sem β):zT P (x>>=f)=(zT P x).bind fun a=>zT P (f a):=by
 show zT P (x.bind f)=_;induction x with
 |pure a=>rfl
 |program k ih=>simp only[Sem.bind,zT];exact ih _
 |mark m k ih=>simp only[Sem.bind,zT];exact ih
 |_=>simp[Sem.bind,zT]
theorem zF2{α:Type}(a:α):zT P (pure a)=some a:=rfl
theorem yK:zT P program=some P:=rfl
theorem yV{t:TypeId}{d:TypeDesc}(h:P.underlying t=some d):zT P (underlying t)=some d:=by
 unfold underlying;rw[zK,yK];simp only[QR,h];rfl
def zBW:Value->Value->Bool
 | .int _ a,.int _ b=>a == b
 | .bool a,.bool b=>a == b
 |_,_=>false
def zMO(P:Program)(f:Field):Value->Value->Bool
 | .int k _,.int k' _=>decide (k=k')&&(match P.underlying f.type with|some (.int _)=>true|_=>false)
 | .bool _,.bool _=>(match P.underlying f.type with|some .bool=>true|_=>false)
 |_,_=>false
def zCm(P:Program):List Field->Nat->List Value->List Value->Bool
 |[],_,[],[]=>true
 |f::fs,i,x::xs,y::ys=>(f.name != "_")&&Nat.beq f.offset i&&(match zT P (isAgg f.type)with|some false=>true|_=>false)&&zMO P f x y&&zCm P fs (i+1) xs ys
 |_,_,_,_=>false
def Zs:List Value->List Value->Bool
 |x::xs,y::ys=>zBW x y&&Zs xs ys
 |_,_=>true
theorem zKj{f:Field}{x y:Value}{d:Nat}(h:zMO P f x y=true):zT P (Op.equalIn (d+1) f.type x y)=some (zBW x y):=by
 unfold zMO at h;split at h
 ·rename_i k a k' b;rw[QI]at h;obtain⟨h1,h2⟩:=h;have h1:=Gv h1;subst h1;split at h2;case h_2=>cases h2
  rename_i k2 hu;rw[Op.equalIn,zK,yV hu];simp only[QR,Q8];rfl
 ·split at h;case h_2=>cases h
  rename_i hu;rw[Op.equalIn,zK,yV hu];simp only[QR];rfl
 ·cases h
theorem zB2{t:TypeId}{cs:Array Value}{off:Nat}{v:Value}(h:(match zT P (isAgg t)with|some false=>true|_=>false)=true)(hv:cs[off]?=some v):zT P (part t cs off)=some v:=by
 have h':zT P (isAgg t)=some false:=by
  split at h
  ·assumption
  ·cases h
 unfold part;rw[zK,h'];simp only[QR,hv];rfl
theorem zJy{xs ys:Array Value}{n d:Nat}(hn:n=d+1):∀ (l:List Field) (i:Nat) (us vs:List Value),zCm P l i us vs=true->(∀ j,xs[i+j]?=us[j]?)->(∀ j,ys[i+j]?=vs[j]?)->
  zT P (do
   let s <-(forIn l (none,()) fun f (__s:Option Bool×Unit)=>
          if f.name≠ "_" then do
           let __do_lift <-part f.type xs f.offset
           let __do_lift_1 <-part f.type ys f.offset
           let __do_lift <-Op.equalIn n f.type __do_lift __do_lift_1
           if(!__do_lift)=true then pure (ForInStep.done (some false,()))
            else pure (ForInStep.yield (none,()))
          else pure (ForInStep.yield (none,())):Sem (Option Bool×Unit))
   match s.fst with
        |some r=>pure r
        |none=>pure true)=some (Zs us vs):=by
 intro l;induction l with
 |nil=>
  intro i us vs hk _ _;cases us with
  |cons _ _=>cases hk
  |nil=>cases vs with
   |cons _ _=>cases hk
   |nil=>rfl
 |cons f l ih=>
  intro i us vs hk hx hy;cases us with
  |nil=>cases hk
  |cons u us=>cases vs with
   |nil=>cases hk
   |cons v vs=>
   simp only[zCm,QI]at hk;obtain⟨⟨⟨⟨k1,k2⟩,k3⟩,k4⟩,k5⟩:=hk;have hoff:=QJ k2;have hname:f.name≠ "_":=by simpa using k1
   have hxu:xs[f.offset]?=some u:=by rw[hoff];simpa using hx 0
   have hyv:ys[f.offset]?=some v:=by rw[hoff];simpa using hy 0
   have ihl:=ih (i+1) us vs k5 (fun j=>by have:=hx (j+1);rw[List.getElem?_cons_succ]at this;rw[<-this];congr 1;omega) (fun j=>by have:=hy (j+1);rw[List.getElem?_cons_succ]at this;rw[<-this];congr 1;omega);have heq:zT P (Op.equalIn n f.type u v)=some (zBW u v):=by rw[hn];exact zKj k4
   rw[List.forIn_cons];simp only[bind_assoc,zK,QG hname,zB2 k3 hxu,zB2 k3 hyv,QR,heq];cases he:zBW u v with
   |false=>simp only[Zs,he,Qc];rfl
   |true=>
    simp only[Zs,he,Qb];rw[<-ihl,zK];rfl
theorem zK1{t:TypeId}{fs:Array Field}{xs ys:Array Value}{x y:Operand}(ht:P.underlying t=some (.struct fs))(hs:P.stoodInHeld t=false)(hg:P.eqGuardType P.depth t=false)(hk:zCm P fs.toList 0 xs.toList ys.toList=true):
  zT P (do eqGuard .eql t x y (.agg xs) (.agg ys);binOp .eql t (.agg xs) (.agg ys))=some (.bool (Zs xs.toList ys.toList)):=by
 have h1:zT P (eqGuard .eql t x y (.agg xs) (.agg ys))=some ():=by
  unfold eqGuard;simp only[QV,Qs,Gw];rw[zK,yK];simp only[QR];rw[zK,yK];simp only[QR,hg,Qa,Q8];rfl
 rw[zK,h1];simp only[QR];unfold binOp;simp only[];rw[zK];have h2:zT P (Op.equal t (.agg xs) (.agg ys))=some (Zs xs.toList ys.toList):=by
  unfold Op.equal Op.maxDepth;rw[show(10000:Nat)=9999+1 from rfl,Op.equalIn,zK,yV ht];simp only[QR];rw[zK,yK];simp only[QR,hs,Qs,Gw];have:=zJy (P:=P) (xs:=xs) (ys:=ys) (n:=9999) (d:=9998) rfl fs.toList 0 xs.toList ys.toList hk (fun j=>by simp) (fun j=>by simp);rw[<-this,<-Array.forIn_toList,zK,zK];congr 1;funext s;obtain⟨a,_⟩:=s;cases a<;>rfl
 rw[h2];rfl
def chk(P:Program)(t:TypeId)(xs ys:List Value):Bool:=
 (match P.underlying t with|some (.struct fs)=>zCm P fs.toList 0 xs ys|_=>false)&& !P.stoodInHeld t&& !P.eqGuardType P.depth t
theorem zEm{t:TypeId}{xs ys:Array Value}{x y:Operand}{b:Bool}(h:chk P t xs.toList ys.toList=true)(hb:Zs xs.toList ys.toList=b):zT P (do eqGuard .eql t x y (.agg xs) (.agg ys);binOp .eql t (.agg xs) (.agg ys))=some (.bool b):=by
 subst hb;unfold chk at h;simp only[QI,Gn]at h;obtain⟨⟨h1,h2⟩,h3⟩:=h;split at h1;case h_2=>cases h1
 rename_i fs hu;exact zK1 hu h2 h3 h1
end
section
variable {P:Program}
theorem zKa{t:TypeId}{fs:Array Field}{xs ys:Array Value}{x y:Operand}(ht:P.underlying t=some (.struct fs))(hs:P.stoodInHeld t=false)(hg:P.eqGuardType P.depth t=false)(hk:zCm P fs.toList 0 xs.toList ys.toList=true):
  zT P (do eqGuard .neq t x y (.agg xs) (.agg ys);binOp .neq t (.agg xs) (.agg ys))=some (.bool (!Zs xs.toList ys.toList)):=by
 have h1:zT P (eqGuard .neq t x y (.agg xs) (.agg ys))=some ():=by
  unfold eqGuard;simp only[QV,Qs,Gw];rw[zK,yK];simp only[QR];rw[zK,yK];simp only[QR,hg,Qa,Q8];rfl
 rw[zK,h1];simp only[QR];unfold binOp;simp only[];rw[zK];have h2:zT P (Op.equal t (.agg xs) (.agg ys))=some (Zs xs.toList ys.toList):=by
  unfold Op.equal Op.maxDepth;rw[show(10000:Nat)=9999+1 from rfl,Op.equalIn,zK,yV ht];simp only[QR];rw[zK,yK];simp only[QR,hs,Qs,Gw];have:=zJy (P:=P) (xs:=xs) (ys:=ys) (n:=9999) (d:=9998) rfl fs.toList 0 xs.toList ys.toList hk (fun j=>by simp) (fun j=>by simp);rw[<-this,<-Array.forIn_toList,zK,zK];congr 1;funext s;obtain⟨a,_⟩:=s;cases a<;>rfl
 rw[h2];rfl
theorem zGM{t:TypeId}{xs ys:Array Value}{x y:Operand}{b:Bool}(h:chk P t xs.toList ys.toList=true)(hb:Zs xs.toList ys.toList=b):zT P (do eqGuard .neq t x y (.agg xs) (.agg ys);binOp .neq t (.agg xs) (.agg ys))=some (.bool (!b)):=by
 subst hb;unfold chk at h;simp only[QI,Gn]at h;obtain⟨⟨h1,h2⟩,h3⟩:=h;split at h1;case h_2=>cases h1
 rename_i fs hu;exact zKa hu h2 h3 h1
end
section
variable {P:Program}{tab:Ww}
def okU(m N0:Nat)(un:List Nat)(cl:Bool)(t:WJ Value)(o:WH)(h h':WG):Prop:=
 (∀ g∈h'.wr,m<=g)/\h.n<=h'.n/\(un=[]\/(cl=true/\h'.wr=[]/\∀ g,zi t o=some g->g<N0))
def We(P:Program)(tab:Ww)(m N0:Nat):List (WH×List Nat)->Nat->Bool->WT->WG->(WT->WG->Prop)->Prop
 |[],_,_,fr,h,Q=>Q fr h
 |(o,un)::l,g,cl,fr,h,Q=>
  if Nat.beq (zG o.op) 3=true then
   un=[]/\((zW fr.tm o.guard=true/\m<=g/\∃ ob f,yg fr.tm o.op=some (ob,f)/\We P tab m N0 l (g+1) false (val o.dst fr (f g)) ((inC h).lay g ob) Q)\/
    (zW fr.tm o.guard=false/\We P tab m N0 l (g+1) cl (val o.dst fr undef) (inC h) Q))
  else WO P tab [o] fr (inC h) fun fr' h'=>okU m N0 un cl fr.tm o h h'/\We P tab m N0 l g (cl&&h'.wr.isEmpty) fr' h' Q
theorem zLZ{m N0:Nat}{un:List Nat}{cl:Bool}{t:WJ Value}{o:WH}{h h':WG}(hk:okU m N0 un cl t o h h'){ws:List (Nat×Nat)}(hw:cl=true->ws=[]){bs:List (Nat×Nat)}(hb:∀ e∈bs,N0<=e.2)(rs:List (Nat×Nat×Option (Nat×Nat×List Value))):
  ((match zi t o with
   |some g=>(ws.all fun x=> !(Nat.beq g x.2&&un.contains x.1))&&bs.all fun x=> !un.contains x.1||Nat.ble (g+1) x.2
   |none=>true)&&rs.all fun x=> !(un.contains x.1&&h'.wr.contains x.2.1)||zCz h' x.2.1 x.2.2)=true:=by
 obtain⟨_,_,rfl|⟨h1,h2,h3⟩⟩:=hk
 ·exact zNg o ws rs bs t h'
 ·rw[hw h1,h2];have e2:(rs.all fun x=> !(un.contains x.1&&([]:List Nat).contains x.2.1)||zCz h' x.2.1 x.2.2)=true:=by simp
  rw[e2,Qg];cases hr:zi t o with
  |none=>rfl
  |some g=>
   have hg:=h3 g hr;simp only[List.all_nil,Qb];rw[QX];intro x hx;have:Nat.ble (g+1) x.2=true:=QF (QK hg (hb x hx));rw[this,Qv]
theorem We.run{m N0:Nat}:∀ {ops:List (WH×List Nat)} {g:Nat} {cl:Bool} {fr:WT} {h:WG} {Q:WT->WG->Prop},N0<=h.n->We P tab m N0 ops g cl fr h Q->
  ∃ fr' h',Q fr' h'/\∀ (i:Nat) (ws:List (Nat×Nat)) (rs:List (Nat×Nat×Option (Nat×Nat×List Value))) (bs:List (Nat×Nat)),(∀ e∈ws,m<=e.2)->(cl=true->ws=[])->(∀ e∈bs,N0<=e.2)->
   ∃ ws',(∀ e∈ws',m<=e.2)/\Ev fun n=>yE P (BJ P tab n) ops i g ws rs bs fr h=some (fr',h',ws'):=by
 intro ops;induction ops with
 |nil=>intro g cl fr h Q _ hx;exact⟨fr,h,hx,fun i ws rs bs hw _ _=>⟨ws,hw,Ev.all fun n=>rfl⟩⟩
 |cons x ops ihl=>
  intro g cl fr h Q hn hx;obtain⟨o,un⟩:=x;simp only[We]at hx;have go:∀ {g':Nat} {cl':Bool} {fr1:WT} {h1:WG},(g'=bif Nat.beq (zG o.op) 3 then g+1 else g)->(cl'=true->cl=true/\h1.wr=[])->(Ev fun n=>yA P (BJ P tab n) g o fr (inC h)=some (fr1,h1))->okU m N0 un cl fr.tm o h h1->We P tab m N0 ops g' cl' fr1 h1 Q->
    ∃ fr' h',Q fr' h'/\∀ (i:Nat) (ws:List (Nat×Nat)) (rs:List (Nat×Nat×Option (Nat×Nat×List Value))) (bs:List (Nat×Nat)),(∀ e∈ws,m<=e.2)->(cl=true->ws=[])->(∀ e∈bs,N0<=e.2)->
     ∃ ws',(∀ e∈ws',m<=e.2)/\Ev fun n=>yE P (BJ P tab n) ((o,un)::ops) i g ws rs bs fr h=some (fr',h',ws'):=by
   intro g' cl' fr1 h1 hg hcl ev hk hx;obtain⟨fr',h',q,run⟩:=ihl (QO hn hk.2.1) hx;refine⟨fr',h',q,fun i ws rs bs hws hwc hbs=> ?_⟩;obtain⟨ws',w1,w2⟩:=run (i+1) (h1.wr.map (fun g=>(i,g))++ws) (match zi fr.tm o with
     |some g=>(i,g,Ys fr.tm h o.op)::rs
     |none=>rs) ((i,h.n)::bs) (fun e he=>by
      rcases Qy.1 he with he|he
      ·obtain⟨y,hy,rfl⟩:=GQ.1 he;exact hk.1 y hy
      ·exact hws e he) (fun hc=>by
      obtain⟨c1,c2⟩:=hcl hc;rw[hwc c1,c2];rfl) (fun e he=>by
      rcases GN.1 he with rfl|he
      ·exact hn
      ·exact hbs e he)
   refine⟨ws',w1,(ev.and w2).mono fun n ⟨e1,e2⟩=> ?_⟩;simp only[yE];have e1':yA P (BJ P tab n) g o fr {h with mark:=h.n,wr:=[]}=some (fr1,h1):=e1;rw[e1'];have hok:=zLZ hk hwc hbs rs;exact(congrArg (fun b:Bool=>bif b then yE P (BJ P tab n) ops (i+1) (bif Nat.beq (zG o.op) 3 then g+1 else g) (h1.wr.map (fun g=>(i,g))++ws) (match zi fr.tm o with
     |some g=>(i,g,Ys fr.tm h o.op)::rs
     |none=>rs) ((i,h.n)::bs) fr1 h1 else none) hok).trans (by rw[cond_true,<-hg];exact e2)
  by_cases hk:Nat.beq (zG o.op) 3=true
  ·rw[QG hk]at hx;obtain⟨rfl,⟨hw,hm,ob,f,hmade,hx⟩|⟨hw,hx⟩⟩:=hx;case inr=>
    refine go (g':=g+1) (cl':=cl) (by rw[hk];rfl) (fun h=>⟨h,rfl⟩) (Ev.all fun n=> ?_) (h1:=inC h) ⟨fun x hx=>(by cases hx),(show h.n<=h.n from QE _),.inl rfl⟩ hx;unfold yA;simp only[hk,hw,cond_true,QT]
   refine go (g':=g+1) (cl':=false) (by rw[hk];rfl) (fun h=>by cases h) (Ev.all fun n=> ?_) (h1:=(inC h).lay g ob) ⟨fun x hx=> ?_,(show h.n<=h.n from QE _),.inl rfl⟩ hx
   ·unfold yA;simp only[hk,hw,hmade,cond_true]
   ·rcases y9 hx with rfl|hx
    ·exact hm
    ·cases hx
  ·rw[QC hk]at hx;have hk':Nat.beq (zG o.op) 3=false:=by cases hb:Nat.beq (zG o.op) 3 with
    |false=>rfl
    |true=>exact absurd hb hk
   unfold WO at hx;obtain⟨fr1,h1,⟨q1,q2⟩,ev⟩:=hx;refine go (g':=g) (cl':=cl&&h1.wr.isEmpty) (by rw[hk'];rfl) (fun hc=>by
    rw[QI]at hc;exact⟨hc.1,List.isEmpty_iff.1 hc.2⟩) (ev.mono fun n e=> ?_) q1 q2
   unfold yA;simp only[hk',QT];simp only[yX]at e;cases ha:yD P (BJ P tab n) o fr (inC h)with
   |none=>rw[ha]at e;cases e
   |some p=>rw[ha]at e;exact e
def zB(k:Nat)(h:WG):WG:={h with n:=h.n+k}
theorem zO(k:Nat)(h:WG):WL h (zB k h):=⟨G8 _ _,fun _ _=>rfl,fun w g hg=>w g (QO (G8 _ _) hg),rfl,fun _=>rfl⟩
theorem VC{ops:List (WH×List Nat)}{fr:WT}{h:WG}{K:WQ->WT->WG->Prop}(k:Nat)(hk:zFt ops=k)(hne:ops.isEmpty=false)
  (hx:We P tab h.mark (h.n+k) ops h.n true fr (inC (zB k h)) (B1 K h)):WX P tab (.regionC ops) fr h K:=by
 subst hk;have hx':We P tab h.mark (h.n+zFt ops) ops h.n true fr (zB (zFt ops) h) (B1 K h):=by
  cases ops with
  |nil=>cases hne
  |cons x ops=>exact hx
 obtain⟨fr',h',q,run⟩:=We.run (h:=zB (zFt ops) h) (show h.n+zFt ops<=h.n+zFt ops from QE _) hx';obtain⟨ws',w1,w2⟩:=run 0 [] [] [] (fun e he=>by cases he) (fun _=>rfl) (fun e he=>by cases he);unfold WX;refine⟨.normal,fr',_,q,Ev.up (w2.mono fun n e=> ?_)⟩;rw[zo];simp only[zh,YK];have e':yE P (BJ P tab n) ops 0 h.n [] [] [] fr {h with n:=h.n+(ops.filter fun x=>Nat.beq (zG x.1.op) 3).length}=some (fr',h',ws'):=e;rw[e'];have:((ws'.map (·.2)).filter fun g=> !Nat.ble h.mark g)=[]:=by
  rw[List.filter_eq_nil_iff];intro g hg;obtain⟨y,hy,rfl⟩:=GQ.1 hg;have:Nat.ble h.mark y.2=true:=QF (w1 y hy);simp[this]
 simp[this,zx]
end
section
variable {P:Program}{tab:Ww}{m N0:Nat}{l:List (WH×List Nat)}{o:WH}{un:List Nat}{g:Nat}{cl:Bool}{fr:WT}{h h0 h':WG}{Q:WT->WG->Prop}{K:WQ->WT->WG->Prop}{x:WH×List Nat}
def uK2(P:Program)(tab:Ww)(m N0:Nat)(un:List Nat)(t:WJ Value)(o:WH)(h:WG)(l:List (WH×List Nat))(g:Nat)(cl:Bool)(Q:WT->WG->Prop):WT->WG->Prop:=
 fun fr' h'=>okU m N0 un cl t o h h'/\We P tab m N0 l g (cl&&h'.wr.isEmpty) fr' h' Q
theorem We.q(hk:Nat.beq (zG o.op) 3=false)(hx:WO P tab [o] fr (inC h) (uK2 P tab m N0 un fr.tm o (inC h) l g cl Q)):We P tab m N0 ((o,un)::l) g cl fr (inC h) Q:=by
 simp only[We];rw[QC (by rw[hk];exact Bool.noConfusion)];exact hx
theorem zPO{t:WJ Value}(hx:We P tab m N0 l g cl fr (inC h) Q):uK2 P tab m N0 [] t o (inC h) l g cl Q fr (inC h):=
 ⟨⟨fun g hg=>(by cases hg),QE _,.inl rfl⟩,by rw[show(cl&&(inC h).wr.isEmpty)=cl from by simp[inC]];exact hx⟩
theorem zJx{t:WJ Value}(hr:∀ g,zi t o=some g->g<N0)(hx:We P tab m N0 l g true fr (inC h) Q):uK2 P tab m N0 un t o (inC h) l g true Q fr (inC h):=
 ⟨⟨fun g hg=>(by cases hg),QE _,.inr ⟨rfl,rfl,hr⟩⟩,by rw[show(true&&(inC h).wr.isEmpty)=true from by simp[inC]];exact hx⟩
theorem zPM{t:WJ Value}(e:WL (inC h) h')(hr:zi t o=none)(hx:We P tab m N0 (x::l) g true fr (inC h') Q):uK2 P tab m N0 un t o (inC h) (x::l) g true Q fr h':=by
 have hw:=e.wrnil;refine⟨⟨fun g hg=>(by rw[hw]at hg;cases hg),e.n,?_⟩,?_⟩
 ·exact .inr ⟨rfl,hw,fun g hg=>by rw[hr]at hg;cases hg⟩
 ·rw[hw];exact hx
theorem zOM{t:WJ Value}(hx:K .normal fr (zx h0 (inC h))):uK2 P tab m N0 [] t o (inC h) [] g cl (B1 K h0) fr (inC h):=⟨⟨fun g hg=>(by cases hg),QE _,.inl rfl⟩,hx⟩
theorem Xq{t:WJ Value}{ds:List Deferred}{rd:Option Nat}{zero cs:List Value}{d n:Nat}{y:Operand}{v:Value}(hm:m<=g)(hg:g<h.n)(hz:zero.length=n)(hn:cs.length=n)(h1:zH cs=true)(hv:v.cells=cs.toArray)(hy:ev (t.set d (.pointer (some ⟨g,0,none⟩))) y=v)
  (hx:Q ⟨t.set d (.pointer (some ⟨g,0,none⟩)),ds,rd⟩ ((inC ((inC h).lay g (.row zero true 0))).set g (.row cs true 0))):
  We P tab m N0 [(⟨some d,none,.alloc zero⟩,[]),(⟨none,none,.store n (.tmp d) y⟩,[])] g cl ⟨t,ds,rd⟩ (inC h) Q:=by
 subst hn;rw[We,QG (show Nat.beq (zG (W6.alloc zero)) 3=true from rfl)];refine⟨rfl,.inl ⟨rfl,hm,_,_,rfl,?_⟩⟩;rw[show inC (inC h)=inC h from rfl];rw[We,QC (show ¬Nat.beq (zG (W6.store cs.length (.tmp d) y)) 3=true from Bool.noConfusion)];have hget:(inC ((inC h).lay g (.row zero true 0))).get g=some (.row zero true 0):=by
  show((inC h).tab.set g (.row zero true 0)).get g=_;rw[ze,QG rfl]
 have hst:zg (inC ((inC h).lay g (.row zero true 0))) ⟨g,0,none⟩ cs=some ((inC ((inC h).lay g (.row zero true 0))).set g (.row cs true 0)):=by
  have h2:Nat.ble (0+cs.length) zero.length=true:=QF (by omega);have h3:Nat.ble 0 0=true:=rfl;have h4:zL zero 0 cs=cs:=by simp[zL,hz]
  simp only[zg,hget,h2,h3,h1,h4,Qe,Qm,cond_true]
 refine VT undef ((inC ((inC h).lay g (.row zero true 0))).set g (.row cs true 0)) rfl (by
  simp only[WP];have e1:ev (val (some d) ⟨t,ds,rd⟩ (.pointer (some ⟨g,0,none⟩))).tm (.tmp d)=.pointer (some ⟨g,0,none⟩):=by simp only[val,ev,yH,Q8]
  have e2:ev (val (some d) ⟨t,ds,rd⟩ (.pointer (some ⟨g,0,none⟩))).tm y=v:=hy;have e1':ev (t.set d (.pointer (some ⟨g,0,none⟩))) (.tmp d)=.pointer (some ⟨g,0,none⟩):=e1;simp only[val,e1',hy,hv,Gx,GP,hst,QH,cond_true]) ?_
 refine WO.nil ⟨⟨fun k hk=> ?_,QE _,.inl rfl⟩,hx⟩;have hk2:k∈(inC ((inC h).lay g (.row zero true 0))).log g:=hk;rcases y9 hk2 with rfl|hk3
 ·exact hm
 ·cases hk3
theorem zH5{k:Nat}{o o':Wn}(e:WL (inC (zB 1 h0)) h):WL h0 (zx h0 ((inC ((inC h).lay h0.n o)).set h0.n o')):=by
 have hn:h0.n+1<=h.n:=e.n;refine⟨by show h0.n<=h.n;omega,fun k hk=> ?_,fun w k hk=> ?_,rfl,fun _=>rfl⟩
 ·show((h.tab.set h0.n o).set h0.n o').get k=_;rw[ze,QC (by omega),ze,QC (by omega)];exact e.get k (by show k<h0.n+1;omega)
 ·have hk:h.n<=k:=hk;show((h.tab.set h0.n o).set h0.n o').get k=_;rw[ze,QC (by omega),ze,QC (by omega)];exact e.wf (fun j hj=>w j (by have:h0.n+1<=j:=hj;omega)) k hk
theorem zHF{cs:List Value}{o:Wn}(e:WL (inC (zB 1 h0)) h):WI h0 (zx h0 ((inC ((inC h).lay h0.n o)).set h0.n (.row cs true 0))) (.pointer (some ⟨h0.n,0,none⟩)) cs:=by
 have hn:h0.n+1<=h.n:=e.n;exact⟨h0.n,QE _,by show h0.n<h.n;omega,rfl,by
  show((h.tab.set h0.n o).set h0.n (.row cs true 0)).get h0.n=_;rw[ze,QG rfl]⟩
end
section
variable {P:Program}{tab:Ww}{ds:List Deferred}{rd:Option Nat}{h:WG}{l:List WH}{t:WJ Value}
theorem Wg{G' G:Prop}(k:G')(r:Wrap G'->G:=by
  intro hgo;first|with_reducible show We _ _ _ _ (_::_) _ _ _ _ _|refine go ?_
  repeat (first|((apply We.q;rfl);refine go ?_)|refine zPO ?_|refine zOM ?_)
  first|with_reducible show We _ _ _ _ (_::_) _ _ _ _ _|refine go ?_
  exact hgo.out):G:=r ⟨k⟩
theorem gUr{G' G:Prop}(k:G')(r:Wrap G'->G:=by
  intro hgo;refine Wg ?_;refine rt ?_;exact hgo.out):G:=r ⟨k⟩
theorem XL{m N0 n g d:Nat}{cl:Bool}{y:Operand}{v:Value}{zero cs:List Value}{Q:WT->WG->Prop}(hm:m<=g)(hg:g<h.n)(hx:Q ⟨t.set d (.pointer (some ⟨g,0,none⟩)),ds,rd⟩ ((inC ((inC h).lay g (.row zero true 0))).set g (.row cs true 0)))
  (hy:WR (t.set d (.pointer (some ⟨g,0,none⟩))) y v:=by exact zN) (hv:v.cells=cs.toArray:=by rfl) (hz:zero.length=n:=by rfl) (hn:cs.length=n:=by rfl) (h1:zH cs=true:=by rfl):
  We P tab m N0 [(⟨some d,none,.alloc zero⟩,[]),(⟨none,none,.store n (.tmp d) y⟩,[])] g cl ⟨t,ds,rd⟩ (inC h) Q:=Xq hm hg hz hn h1 hv hy hx
theorem We.upd{N0 g:Nat}{cl:Bool}{mx kx vx:Operand}{mv:Value}{a b:Int}{es:List (Int×Int)}{h0 hS:WG}{K:WQ->WT->WG->Prop}(o:BN h0 hS mv es)(e0:WL h0 hS)(hm:hS.mark<=h0.n)(hl:es.lookup a=none)
  (k:∀ h1,WL h0 h1->BN h0 h1 mv (es++[(a,b)])->zMI mv hS h1->K .normal ⟨t,ds,rd⟩ h1) (hmx:WR t mx mv:=by exact zN) (hkx:WR t kx (I a):=by exact zN) (hvx:WR t vx (I b):=by exact zN):
  We P tab hS.mark N0 [(⟨none,none,.update mx kx vx⟩,[])] g cl ⟨t,ds,rd⟩ (inC (zB 0 hS)) (B1 K hS):=by
 obtain⟨q,c,es',g1,g2,rfl,g4,g5⟩:=o;unfold WR at hmx hkx hvx;have hf:=zCf 0 g5 hl;have g4':(inC (inC (zB 0 hS))).get q=some (.map es' c):=g4;rw[We,QC (show ¬Nat.beq (zG (W6.update mx kx vx)) 3=true from Bool.noConfusion)];refine VT undef ((inC (inC (zB 0 hS))).set q (.map (es'++[{key:=I a,val:=I b,born:=c}]) (c+1))) rfl (by simp only[WP,hmx,hkx,hvx,g4',hf]) ?_;refine WO.nil ⟨⟨fun x hx=> ?_,QE _,.inl rfl⟩,?_⟩
 ·have hx2:x∈(inC (inC (zB 0 hS))).log q:=hx;rcases y9 hx2 with rfl|hx3
  ·omega
  ·cases hx3
 ·refine k (zx hS ((inC (inC (zB 0 hS))).set q (.map (es'++[{key:=I a,val:=I b,born:=c}]) (c+1)))) ?_ ?_ ?_
  ·refine⟨e0.n,fun j hj=> ?_,fun w j hj=> ?_,e0.mark,fun hmk=>e0.wr hmk⟩
   ·show(hS.tab.set q _).get j=_;rw[ze,QC (by omega)];exact e0.get j hj
   ·have hj:hS.n<=j:=hj;show(hS.tab.set q _).get j=_;rw[ze,QC (by omega)];exact e0.wf w j hj
  ·refine⟨q,c+1,es'++[{key:=I a,val:=I b,born:=c}],g1,g2,rfl,?_,by simp[g5]⟩;show(hS.tab.set q _).get q=_;rw[ze,QG rfl]
  ·refine⟨QE _,fun j _ hj=> ?_⟩;show(hS.tab.set q _).get j=_;rw[ze,QC (fun e=>hj (by rw[e]))];rfl
theorem zY{x:Operand}{v:Value}(hx:WR t x v:=by exact zN):ev t x=v:=hx
theorem zDg{m N0 n g j:Nat}{un:List Nat}{d:Option Nat}{agg:Bool}{x:Operand}{p:Value}{cs:List Value}{h0 hs:WG}{l:List (WH×List Nat)}{fr:WT}{Q:WT->WG->Prop}(o:WI h0 hs p cs)(hN:hs.n<=N0)(hx:We P tab m N0 l g true fr (inC h) Q)
  (hr:WR t x (zu p j):=by exact zN):uK2 P tab m N0 un t ⟨d,none,.load agg n x⟩ (inC h) l g true Q fr (inC h):=by
 refine zJx (fun k hk=> ?_) hx;obtain⟨q,q1,q2,rfl,q3⟩:=o;unfold WR zu at hr;simp only[zi,zW,cond_true,hr,QA]at hk;omega
end
section
variable {P:Program}{tab:Ww}{t:WJ Value}{h:WG}{ds:List Deferred}{rd:Option Nat}{l:List WH}{Q:WT->WG->Prop}
def fl(n:Int):Value:= .float .f64 (FloatKind.nearest .f64 n)
end
open Go.RowKit
section
variable {H:Type}
theorem zF3{enc:TypeId×Value->H}{a:Assume}{C:Checked}{os:Os}{f:FuncId}{fn:Func}{s:ChangeSpec}{conds:List PathCond}{apart fresh handsOn again:Bool}{X:World->Array Value->Prop}
  (hX:∀ (w w':World) (args:Array Value),w.heap=w'.heap->X w args->X w' args)
  (own:ownKnob C.prog.godebug=none) (started:os.Started) (noInit:C.prog.inits.idxOf? f=none) (hfn:C.prog.funcs[f]?=some fn)
  (witness:∃ (w:World) (tape:Tape) (i:Input),w.os=os/\(w.forCall tape i).Shaped C.prog/\i.vars=[]/\Input.okWide C.prog (w.forCall tape i) .any w.heap.size f i/\
   ((s.pre enc C.prog fn conds apart (w.forCall tape i).memory i.args/\X (w.forCall tape i).memory i.args)/\sizedMet enc C.prog fn (OpenSpec.ofChange s) apart (w.forCall tape i).memory i.args)/\a.holds C.prog (lone (Frame.enter C.prog f i.args .normal) [] (w.forCall tape i)))
  (contract:∀ (W:World) (base:Nat) (args:Array Value) (ds gs:List (DataW H)) (before:List MemPlace),
   (∀ (j:Nat) t v,fn.params[j]?=some t->args[j]?=some v->Value.okWide C.prog W .any base t v)->
   DataW.Whole enc C.prog fn.params.toList s.vars apart W args.toList ds gs before->
   (DataW.weightsEach C.prog (fn.params.toList++(OpenSpec.ofChange s).bare.plain.varTypes C.prog) (ds++gs)).all (·<=reachBytes)=true->X W args->W.ShapedOpen C.prog->
   Calls C.prog f args W fun e W'=>∃ v,e=.returned v/\s.post enc C.prog fn apart fresh handsOn again W args v W'):
  ReturnsInHanded a C os f .any (fun w args=>(s.pre enc C.prog fn conds apart w args/\X w args)/\sizedMet enc C.prog fn (OpenSpec.ofChange s) apart w args) (s.post enc C.prog fn apart fresh handsOn again):=by
 refine returnsInHanded_of_calls own started noInit witness ?_;intro w tape i _ hsh _ hok hpre _;obtain⟨_,_,_,fn',hfn',_,_,_,_,hval⟩:=hok;have e:fn'=fn:=Q5 (hfn'.symm.trans hfn);subst e;obtain⟨⟨_,hx⟩,_,ds,gs,before,hw,hsz⟩:=hpre;have hw':=DataW.Whole.of_heap (w':=w.forCall tape i) (by rfl) hw;refine(contract (w.forCall tape i) w.heap.size i.args ds gs before hval hw' hsz (hX _ _ _ (by rfl) hx) hsh).mono fun e W' ⟨v,he,hp⟩=> ?_;subst he;exact ChangeSpec.post_blind hp
def BC(P:Program)(t:TypeId)(d:DataW H):Prop:=∀ n∈DataW.weights P t d,n<=reachBytes
variable {P:Program}{h:WG}
theorem zDs:∀ {ts:List TypeId} {ds:List (DataW H)},(∀ n∈DataW.weightsEach P ts ds,n<=reachBytes)->∀ (i:Nat) t d,ts[i]?=some t->ds[i]?=some d->BC P t d
 |[],_,_,i,t,d,ht,_=>by simp at ht
 |_::_,[],_,i,t,d,_,hd=>by simp at hd
 |t::ts,d::ds,hw,0,_,_,ht,hd=>by
  simp at ht hd;subst ht hd;exact fun n hn=>hw n (by unfold DataW.weightsEach;simp[hn])
 |t::ts,d::ds,hw,i+1,_,_,ht,hd=>
  zDs (ts:=ts) (ds:=ds) (fun n hn=>hw n (by unfold DataW.weightsEach;simp[hn])) i _ _ (by simpa using ht) (by simpa using hd)
theorem zKI{e:TypeId}:∀ {ds:List (DataW H)},(∀ n∈DataW.weightsAll P e ds,n<=reachBytes)->∀ (i:Nat) d,ds[i]?=some d->BC P e d
 |[],_,i,d,hd=>by simp at hd
 |d::ds,hw,0,_,hd=>by
  simp at hd;subst hd;exact fun n hn=>hw n (by unfold DataW.weightsAll;simp[hn])
 |d::ds,hw,i+1,_,hd=>zKI (ds:=ds) (fun n hn=>hw n (by unfold DataW.weightsAll;simp[hn])) i _ (by simpa using hd)
theorem zFF{t e:TypeId}{elems spare:List (DataW H)}(ht:P.underlying t=some (.slice e))(hw:BC P t (.slice elems spare)):elems.length*P.bytesOf e<=reachBytes/\∀ (i:Nat) d,elems[i]?=some d->BC P e d:=by
 unfold BC at hw;unfold DataW.weights at hw;rw[ht]at hw;simp only at hw;refine⟨?_,zKI fun n hn=>hw n (by simp[hn])⟩;have:=hw _ (Q0 ..);exact QO (Qr _ (G8 _ _)) this
theorem zIS{t:TypeId}{fs:Array Field}{parts:List (DataW H)}(ht:P.underlying t=some (.struct fs))(hw:BC P t (.agg parts))(i:Nat)(f:Field)(d:DataW H)(hf:fs[i]?=some f)(hd:parts[i]?=some d):BC P f.type d:=by
 unfold BC at hw;unfold DataW.weights at hw;rw[ht]at hw;exact zDs hw i f.type d (by simp[hf]) hd
theorem zAL{α:Type}{c:Nat}{R:WG->List Value->α->Prop}{t e:TypeId}{acs:List Value}{d:DataW H}(r:Rd P h t acs d)(ht:P.underlying t=some (.slice e))(hc:P.cellsOf e=c)(hb:1<=P.bytesOf e)(hw:BC P t d)
  (hR:∀ cs (d:DataW H),Rd P h e cs d->BC P e d->∃ a,R h cs a):∃ av l,acs=[av]/\Wy c R h av l/\(l.length:Int)<=1152921504606846976:=by
 subst hc;rcases zEQ r ht with⟨rfl,_⟩|⟨a,sp,rfl,_⟩|⟨g,cells,elems,sp,rfl,rfl,hg,hn,hl,hm,hr⟩
 ·exact⟨_,[],rfl,Wy.nil,by simp⟩
 ·exact⟨_,[],rfl,⟨[],⟨by simp,.inl ⟨rfl,.inr ⟨_,_,rfl⟩⟩⟩,fun i a ha=>by simp at ha⟩,by simp⟩
 ·obtain⟨w1,w2⟩:=zFF ht hw;obtain⟨l,h1,h2⟩:=zJl (p:=fun i a=>R h ((cells.drop (i*P.cellsOf e)).take (P.cellsOf e)) a) elems.length fun i hi=>hR _ _ (hr i _ (QB hi)) (w2 i _ (QB hi));refine⟨_,l,rfl,⟨cells,⟨by rw[h1];exact hl,.inr ⟨g,0,cells,by rw[h1],by simp[zt,hg],?_,hn⟩⟩,h2⟩,?_⟩
  ·rw[h1,<-hl];simp[cut,QF (QE _)]
  ·have:elems.length<=elems.length*P.bytesOf e:=Nat.le_mul_of_pos_right _ hb;unfold reachBytes at w1;rw[h1];omega
theorem zEI{t e:TypeId}{acs:List Value}{d:DataW H}(r:Rd P h t acs d)(ht:P.underlying t=some (.slice e))(he:P.underlying e=some (.int .i64))(hc:P.cellsOf e=1)(hb:1<=P.bytesOf e)(hw:BC P t d):
  ∃ av l,acs=[av]/\Wd h av l/\(l.length:Int)<=1152921504606846976/\∀ a∈l,(Lit.int .i64 a).wf=true:=by
 obtain⟨av,l,h1,h2,_,h4⟩:=zOa r ht he hc;refine⟨av,l,h1,h2,?_,h4⟩;rcases zEQ r ht with⟨rfl,_⟩|⟨a,sp,rfl,_⟩|⟨g,cells,elems,sp,rfl,rfl,_⟩
 ·cases h1;have:=h2.len (P:=P) (ih:=Ex.bot) (t:= .leaf) (x:= .const (.slice none 0 0)) rfl;rcases h2 with⟨_,⟨h0,_⟩|⟨g,off,row,hv,_⟩⟩
  ·omega
  ·cases hv
 ·cases h1;rcases h2 with⟨_,⟨h0,_⟩|⟨g,off,row,hv,_⟩⟩
  ·omega
  ·injection hv with _ e2 _;omega
 ·cases h1;obtain⟨w1,_⟩:=zFF ht hw;have hle:elems.length<=elems.length*P.bytesOf e:=Nat.le_mul_of_pos_right _ hb;unfold reachBytes at w1;rcases h2 with⟨_,⟨h0,_⟩|⟨g,off,row,hv,_⟩⟩
  ·omega
  ·injection hv with _ e2 _;omega
theorem ZV{t:TypeId}{fs:Array Field}{acs:List Value}{d:DataW H}(r:Rd P h t acs d)(ht:P.underlying t=some (.struct fs))(hw:BC P t d):
  acs.length=P.cellsOf t/\∀ (i:Nat) (f:Field),fs[i]?=some f->∃ d:DataW H,Rd P h f.type ((acs.drop f.offset).take (P.cellsOf f.type)) d/\BC P f.type d:=by
 cases r with
 |int n ht' wf=>rw[ht]at ht';cases ht'
 |bool _ ht'=>rw[ht]at ht';cases ht'
 |string _ ht'=>rw[ht]at ht';cases ht'
 |snil ht'=>rw[ht]at ht';cases ht'
 |szero a sp ht'=>rw[ht]at ht';cases ht'
 |slice g cells elems sp ht' hg hn hl hm hr=>rw[ht]at ht';cases ht'
 |array _ _ ht'=>rw[ht]at ht';cases ht'
 |struct cells parts ht' hl hp hr=>
  rw[ht]at ht';cases ht';refine⟨hl,fun i f hf=> ?_⟩;have hi:i<parts.length:=by rw[hp];exact(Gs.1 hf).1
  exact⟨_,hr i f _ hf (QB hi),zIS ht hw i f _ hf (QB hi)⟩
end
section
variable {H:Type}{P:Program}{h:WG}
end
def Wx(h:WG)(g:Nat)(o:Wn):Prop:=g<h.n/\h.get g=some o
def zKF:Wn->Bool
 | .loop .. | .deferred .. =>true
 |_=>false
theorem Wx.ext{h h':WG}{g:Nat}{o:Wn}(k:Wx h g o)(e:WL h h'):Wx h' g o:=⟨QK k.1 e.n,(e.get g k.1).trans k.2⟩
theorem Wx.updC{h0 h h':WG}{g:Nat}{o:Wn}{p:Value}{cs:List Value}(k:Wx h g o)(hr:zKF o=true)(w:WI h0 h p cs)(u:Wu p h h'):Wx h' g o:=by
 refine⟨QK k.1 u.1,(u.2 g k.1 fun e=> ?_).trans k.2⟩;obtain⟨g2,_,_,rfl,hg⟩:=w;cases e;have:=k.2;rw[hg]at this;cases this;cases hr
theorem Wx.upd{h0 h h':WG}{g:Nat}{o:Wn}{v:Value}{xs:List Int}(k:Wx h g o)(hr:zKF o=true)(w:Wc h0 h v xs)(u:Be v h h'):Wx h' g o:=by
 refine⟨QK k.1 u.1,(u.2 g k.1 fun a n c hv e=> ?_).trans k.2⟩;rcases w with⟨rfl,_⟩|⟨g2,_,_,rfl,hg⟩
 ·cases hv
 ·cases hv;simp only at e;subst e;have:=k.2;rw[hg]at this;cases this;cases hr
theorem Wx.set{h:WG}{g l:Nat}{o p:Wn}(k:Wx h g o)(hne:g≠l):Wx (h.set l p) g o:=⟨k.1,by rw[zU,QC hne];exact k.2⟩
theorem Wx.self{h:WG}{g:Nat}{o p:Wn}(k:Wx h g o):Wx (h.set g p) g p:=⟨k.1,by rw[zU,QG rfl]⟩
theorem WI.setR{h0 h:WG}{p:Value}{cs:List Value}{l:Nat}{o o':Wn}(w:WI h0 h p cs)(k:Wx h l o)(hr:zKF o=true):WI h0 (h.set l o') p cs:=by
 obtain⟨g,a,b,c,d⟩:=w;refine⟨g,a,b,c,?_⟩;rw[zU,QC (fun e=> ?_)]
 ·exact d
 ·subst e;have:=k.2;rw[d]at this;cases this;cases hr
theorem Wc.setR{h0 h:WG}{v:Value}{xs:List Int}{l:Nat}{o o':Wn}(w:Wc h0 h v xs)(k:Wx h l o)(hr:zKF o=true):Wc h0 (h.set l o') v xs:=by
 rcases w with w|⟨g,a,b,c,d⟩
 ·exact .inl w
 ·refine .inr ⟨g,a,b,c,?_⟩;rw[zU,QC (fun e=> ?_)]
  ·exact d
  ·subst e;have:=k.2;rw[d]at this;cases this;cases hr
theorem zBd{t:WJ Value}{d:Option Nat}{g:Option (Nat×Bool)}{f:Operand}{args:List Operand}:zi t ⟨d,g,.call f args⟩=none:=by
 unfold zi;cases zW t g<;>rfl
section
variable {P:Program}{tab:Ww}{m N0 g:Nat}{un:List Nat}{t:WJ Value}{h h':WG}{x:WH×List Nat}{l:List (WH×List Nat)}{fr:WT}{Q:WT->WG->Prop}
theorem nE{d:Option Nat}{gd:Option (Nat×Bool)}{f:Operand}{as:List Operand}(e:WL (inC h) h')(hx:We P tab m N0 (x::l) g true fr (inC h') Q):WO P tab [] fr h' (uK2 P tab m N0 un t ⟨d,gd,.call f as⟩ (inC h) (x::l) g true Q):=WO.nil (zPM e zBd hx)
theorem nQ{cl:Bool}{o:WH}(hx:We P tab m N0 l g cl fr (inC h) Q):WO P tab [] fr (inC h) (uK2 P tab m N0 [] t o (inC h) l g cl Q):=WO.nil (zPO hx)
end
section
variable {P:Program}{tab:Ww}
attribute [local semireducible] WX WV WC Ev
def zPq(l:Nat)(Q:Value->WG->Prop):WQ->WT->WG->Prop
 | .normal,fr,h2=>fr.dfs=[]/\∃ r2,Wx h2 l (.loop r2)/\Q (.bool true) (h2.set l (.loop {r2 with state:= .ready,pending:=none}))
 |_,_,_=>False
def zOg(P:Program)(tab:Ww)(l:Nat)(r:W2)(h0:WG)(Q:Value->WG->Prop):WQ->WT->WG->Prop
 | .normal,fr,h=>h=h0/\WX P tab r.body fr (h.set l (.loop {r with state:= .busy})) (zPq l Q)
 |_,_,_=>False
theorem WV.yield{l args h Q a b}{r:W2}(hl:Wx h l (.loop r))(hr:r.state=.ready)(hn:Nat.beq args.length r.params.length=true)
  (hx:WX P tab r.assign ⟨zBR r.params args r.tm,[],some l⟩ h (zOg P tab l r h Q)):WV P tab (.func (.yield l) a b) args h Q:=by
 obtain⟨e,fr,h1,k,ev⟩:=hx;cases e with
 |normal=>
  obtain⟨rfl,e2,fr2,h2,k2,ev2⟩:=k;cases e2 with
  |normal=>
   obtain⟨kd,r2,hl2,hq⟩:=k2;refine⟨_,_,hq,(ev.and ev2).mono fun n ⟨x1,x2⟩=> ?_⟩;have h1:=hl.2;have h2:=hl2.2;simp only[zAP,h1,hn,cond_true,zAU,x1,hr,x2,kd,h2,ZL]
  |exit i=>exact k2.elim
  |goto i=>exact k2.elim
  |ret=>exact k2.elim
 |exit i=>exact k.elim
 |goto i=>exact k.elim
 |ret=>exact k.elim
def zMS(t:WJ Value)(ps:List Nat)(a b:WW)(d:Nat):W2:={state:= .ready,pending:=none,fn:=0,tm:=t,params:=ps,assign:=a,body:=b,defers:=d}
def zDB(h:WG)(t:WJ Value)(ps:List Nat)(a b:WW):WG:=(h.push (.deferred (some []))).push (.loop (zMS t ps a b h.n))
theorem zLg(h:WG)(t ps a b):WL h (zDB h t ps a b):=((WL.refl h).push _).push _
theorem zKc(h:WG)(t ps a b):Wx (zDB h t ps a b) h.n (.deferred (some [])):=by
 refine⟨by simp[zDB,WG.push];omega,?_⟩;unfold zDB;rw[zX,QC (by simp[WG.push]),zX,QG rfl]
theorem zJF(h:WG)(t ps a b):Wx (zDB h t ps a b) (h.n+1) (.loop (zMS t ps a b h.n)):=by
 refine⟨by simp[zDB,WG.push],?_⟩;unfold zDB;rw[zX,QG (by simp[WG.push])]
theorem XQ{f ps a b t ds h K}(hx:WV P tab (ev t f) [.func (.yield (h.n+1)) #[] #[]] (zDB h t ps a b) fun _ h2=>∃ r,Wx h2 (h.n+1) (.loop r)/\r.state=.ready/\r.pending=none/\
   K .normal ⟨t,{target:= .collected h.n,args:=#[]}::ds,none⟩ (h2.set (h.n+1) (.loop {r with state:= .exhausted}))):WX P tab (.rangeFunc f ps a b) ⟨t,ds,none⟩ h K:=by
 obtain⟨v,h2,⟨r,hl,hs,hp,hk⟩,ev⟩:=hx;refine⟨_,_,_,hk,Ev.up (ev.mono fun n e=> ?_)⟩;rw[zo];simp only[zh,zAS,Yk];have hn:(h.push (.deferred (some []))).n=h.n+1:=rfl;have e':zAP (BJ P tab n) (Am.ev t f) [.func (.yield (h.push (.deferred (some []))).n) #[] #[]] ((h.push (.deferred (some []))).push (.loop {state:= .ready,pending:=none,fn:=0,tm:=t,params:=ps,assign:=a,body:=b,defers:=h.n}))=some (v,h2):=e;rw[e'];have hl2:=hl.2;simp only[hn,hl2,hs,hp,List.singleton_append]
theorem zIJ{rs Q t rd h g}(hg:Wx h g (.deferred (some [])))(hx:zD0 P tab rs Q .ret ⟨t,[],rd⟩ (h.set g (.deferred none))):zD0 P tab rs Q .ret ⟨t,[{target:= .collected g,args:=#[]}],rd⟩ h:=by
 unfold zD0 at *;exact WD.collected hg.2 hx
theorem Vy{h:WG}{t:WJ Value}{j n:Nat}{p v:Value}{h0:WG}{cs:List Value}{rs:List (Nat×Option (Bool×Nat))}{vs:List Value}(s:Wq t j p)(o:WI h0 h p cs)(hr:(cut cs 0 n).bind (zI false)=some v)(k:W0 h t rs vs):W0 h t ((j,some (false,n))::rs) (v::vs):=by
 obtain⟨g,_,_,rfl,hg⟩:=o;unfold W0 at *;unfold Wq at s;simp only[zy,YL,s,ZP hg,Qe,cond_true,QR,hr,k]
structure Ready(r:W2)(t:WJ Value)(ps:List Nat)(a b:WW):Prop where
 st:r.state=.ready
 pd:r.pending=none
 tm:r.tm=t
 ps:r.params=ps
 as:r.assign=a
 bd:r.body=b
def busy(r:W2):W2:={r with state:= .busy}
def zPZ(L:Nat)(r:W2)(Q:Value->WG->Prop):WQ->WT->WG->Prop
 | .normal,fr,h2=>fr.dfs=[]/\Wx h2 L (.loop (busy r))/\Q (.bool true) (h2.set L (.loop r))
 |_,_,_=>False
theorem zCw{L r Q t rd h}(hl:Wx h L (.loop (busy r)))(hq:Q (.bool true) (h.set L (.loop r))):zPZ L r Q .normal ⟨t,[],rd⟩ h:=⟨rfl,hl,hq⟩
def zQc(P:Program)(tab:Ww)(L:Nat)(r:W2)(b:WW)(h:WG)(Q:Value->WG->Prop):WQ->WT->WG->Prop
 | .normal,fr,h'=>h'=h/\WX P tab b fr (h.set L (.loop (busy r))) (zPZ L r Q)
 |_,_,_=>False
theorem zCs{L r b h Q fr}(hx:∀ h',h'=h.set L (.loop (busy r))->WX P tab b fr h' (zPZ L r Q)):zQc P tab L r b h Q .normal fr h:=⟨rfl,hx _ rfl⟩
theorem Vw{L args h Q t ps a b x y}{r:W2}(hl:Wx h L (.loop r))(hr:Ready r t ps a b)(hn:Nat.beq args.length ps.length=true)
  (hx:WX P tab a ⟨zBR ps args t,[],some L⟩ h (zQc P tab L r b h Q)):WV P tab (.func (.yield L) x y) args h Q:=by
 obtain⟨h1,h2,rfl,rfl,rfl,rfl⟩:=hr;refine WV.yield hl h1 hn ?_;refine WX.mono hx fun e fr h' k=> ?_;cases e with
 |normal=>
  refine⟨k.1,?_⟩;obtain⟨e1,k⟩:=k;subst e1;refine WX.mono k fun e fr h' k=> ?_;cases e with
  |normal=>
   obtain⟨k1,k2,k3⟩:=k;refine⟨k1,_,k2,?_⟩;have:({busy r with state:= .ready,pending:=none}:W2)=r:=by
    cases r;simp only[busy]at *;simp_all
   rw[this];exact k3
  |exit i=>exact k.elim
  |goto i=>exact k.elim
  |ret=>exact k.elim
 |exit i=>exact k.elim
 |goto i=>exact k.elim
 |ret=>exact k.elim
theorem Vx{f ps a b t ds h K}{fv:Value}(hx:∀ (L g:Nat) (r:W2) (hO:WG),Ready r t ps a b->WL h hO->h.n<=L->h.n<=g->Wx hO L (.loop r)->Wx hO g (.deferred (some []))->
   WV P tab fv [.func (.yield L) #[] #[]] hO fun _ h2=>Wx h2 L (.loop r)/\∀ r3,K .normal ⟨t,{target:= .collected g,args:=#[]}::ds,none⟩ (h2.set L (.loop r3))) (hf:WR t f fv:=by exact zY):WX P tab (.rangeFunc f ps a b) ⟨t,ds,none⟩ h K:=by
 refine XQ ?_;have hf:Am.ev t f=fv:=hf;rw[hf];refine WV.mono (hx (h.n+1) h.n _ _ ⟨rfl,rfl,rfl,rfl,rfl,rfl⟩ (zLg h t ps a b) (GO _) (QE _) (zJF ..) (zKc ..)) fun _ h2 ⟨k1,k2⟩=> ?_;exact⟨_,k1,rfl,rfl,k2 _⟩
end
structure Wt(p:Prop):Prop where
 out:p
def swp(xs:List Int)(i j:Int):List Int:=(xs.set i.toNat (xs.getD j.toNat 0)).set j.toNat (xs.getD i.toNat 0)
abbrev WU(xs:List Int)(i:Int):Int:=xs.getD i.toNat 0
theorem zJO(xs:List Int)(i j:Int):(swp xs i j).length=xs.length:=by simp[swp]
theorem zBN{xs:List Int}{i:Nat}{v:Int}{k:Nat}(hi:i<xs.length):(xs.set i v).getD k 0=if k=i then v else xs.getD k 0:=by
 simp only[QL,List.getElem?_set];by_cases h:i=k
 ·subst h;simp[hi]
 ·rw[QC h,QC (fun e=>h e.symm)]
theorem yU{xs:List Int}{i j k:Int}(hi:0<=i/\i<xs.length)(hj:0<=j/\j<xs.length)(hk:0<=k):WU (swp xs i j) k=if k=j then WU xs i else if k=i then WU xs j else WU xs k:=by
 unfold WU swp;rw[zBN (by simp;omega),zBN (by omega)];have e1:(k.toNat=j.toNat)↔k=j:=by omega
 have e2:(k.toNat=i.toNat)↔k=i:=by omega
 simp only[e1,e2]
theorem zCk(c v:Int):∀ (xs:List Int) (i:Nat),i<xs.length->(xs.set i v).count c+(if xs.getD i 0=c then 1 else 0)=xs.count c+(if v=c then 1 else 0)
 |[],i,h=>by simp at h
 |x::xs,0,_=>by
  simp only[List.set_cons_zero,List.count_cons,List.getD_cons_zero,beq_iff_eq];omega
 |x::xs,i+1,h=>by
  have:=zCk c v xs i (by simpa using h);simp only[List.set_cons_succ,List.count_cons,List.getD_cons_succ,beq_iff_eq]at *;omega
theorem zMo{xs:List Int}{i j:Int}(hi:0<=i/\i<xs.length)(hj:0<=j/\j<xs.length):(swp xs i j).Perm xs:=by
 rw[List.perm_iff_count];intro c;have h1:=zCk c (xs.getD j.toNat 0) xs i.toNat (by omega);have h2:=zCk c (xs.getD i.toNat 0) (xs.set i.toNat (xs.getD j.toNat 0)) j.toNat (by simp;omega);rw[zBN (by omega)]at h2;unfold swp;by_cases e:j.toNat=i.toNat
 ·rw[QG e]at h2;rw[e]at h1 h2 |-;omega
 ·rw[QC e]at h2;omega
structure PI(a b:Int)(xs ys:List Int):Prop where
 len:ys.length=xs.length
 perm:ys.Perm xs
 out:∀ k:Int,0<=k->(k<a\/b<=k)->WU ys k=WU xs k
theorem PI.refl(a b:Int)(xs:List Int):PI a b xs xs:=⟨rfl,.refl _,fun _ _ _=>rfl⟩
theorem PI.trans{a b:Int}{xs ys zs:List Int}(h:PI a b xs ys)(k:PI a b ys zs):PI a b xs zs:=⟨k.len.trans h.len,k.perm.trans h.perm,fun i h0 hi=>(k.out i h0 hi).trans (h.out i h0 hi)⟩
theorem PI.mono{a b a' b':Int}{xs ys:List Int}(h:PI a b xs ys)(ha:a'<=a)(hb:b<=b'):PI a' b' xs ys:=⟨h.len,h.perm,fun k h0 hk=>h.out k h0 (by omega)⟩
theorem PI.swp{a b i j:Int}{xs:List Int}(h0:0<=a)(hb:b<=xs.length)(hi:a<=i/\i<b)(hj:a<=j/\j<b):PI a b xs (swp xs i j):=
 ⟨zJO ..,zMo (by omega) (by omega),fun k hk ho=>by rw[yU (by omega) (by omega) hk,QC (by omega),QC (by omega)]⟩
theorem zEg(xs:List Int)(a b:Nat)(hab:a<=b):xs=xs.take a++((xs.drop a).take (b-a)++xs.drop b):=by
 have:xs.drop b=(xs.drop a).drop (b-a):=by rw[GZ];congr 1;omega
 rw[this,GG,GG]
theorem zBz{xs ys:List Int}(hl:xs.length=ys.length)(h:∀ k:Nat,k<xs.length->xs.getD k 0=ys.getD k 0):xs=ys:=by
 apply List.ext_getElem hl;intro i h1 h2;have:=h i h1;simpa [List.getD,QB h1,QB h2]using this
theorem PI.all{a b:Int}{xs ys:List Int}(h:PI a b xs ys)(h0:0<=a)(hb:b<=xs.length){p:Int->Prop}(hp:∀ k,a<=k->k<b->p (WU xs k)):∀ k,a<=k->k<b->p (WU ys k):=by
 intro k hk1 hk2;obtain⟨A,rfl⟩:∃ A:Nat,a=A:=⟨a.toNat,by omega⟩;obtain⟨B,rfl⟩:∃ B:Nat,b=B:=⟨b.toNat,by omega⟩;have hl:=h.len;have e1:=zEg xs A B (by omega);have e2:=zEg ys A B (by omega);have t1:ys.take A=xs.take A:=zBz (by simp[hl]) fun k hk=>by
  have hk':k<A:=by simp at hk;omega
  have:=h.out (k:Int) (by omega) (by omega);simpa [WU,QL,Q4,hk']using this
 have t2:ys.drop B=xs.drop B:=zBz (by simp[hl]) fun k hk=>by
  have:=h.out ((B+k:Nat):Int) (by omega) (by omega);simp only[WU,Q2]at this;simpa [QL,GF]using this
 have hp':=h.perm;rw[e1,e2,t1,t2]at hp';have hs:=(List.perm_append_right_iff _).1 ((List.perm_append_left_iff _).1 hp');have hmem:WU ys k∈(ys.drop A).take (B-A):=by
  rw[Gi];refine⟨k.toNat-A,?_⟩;rw[Q4,QG (by omega),GF,show A+(k.toNat-A)=k.toNat by omega];unfold WU;rw[QL,QB (by omega)];rfl
 obtain⟨m,hm⟩:=Gi.1 (hs.mem_iff.1 hmem);rw[Q4]at hm;split at hm
 ·rename_i hlt;rw[GF]at hm;have:=hp ((A+m:Nat):Int) (by omega) (by omega);unfold WU at this;rw[Q2,QL,hm]at this;exact this
 ·cases hm
def Bj(a b:Int)(xs:List Int):Prop:=∀ i j:Int,a<=i->i<=j->j<b->WU xs i<=WU xs j
theorem Bj.small{a b:Int}{xs:List Int}(h:b<=a+1):Bj a b xs:=fun i j h1 h2 h3=>by
 have:i=j:=by omega
 subst this;exact Qh _
theorem zIy{xs ys:List Int}(h:ys.Perm xs)(s:Bj 0 ys.length ys):ys=xs.mergeSort (fun a b=>decide (a<=b)):=by
 have hp:ys.Pairwise (fun a b=>decide (a<=b)=true):=by
  rw[List.pairwise_iff_getElem];intro i j hi hj hij;have:=s (i:Int) (j:Int) (by omega) (by omega) (by omega);simp only[WU,Q2,QL,QB hi,QB hj,Q3]at this;simpa using this
 refine List.Perm.eq_of_pairwise (le:=fun a b=>decide (a<=b)=true) (fun a b _ _ h1 h2=> ?_) hp ?_ (h.trans (List.mergeSort_perm xs _).symm)
 ·simp only[QY]at h1 h2;omega
 ·exact List.pairwise_mergeSort (fun a b c h1 h2=>by simp only[QY]at *;omega) (fun a b=>by simp only[GK,QY];omega) xs
theorem zAH(h:WG):zx h (inC (zB 0 h))=h:=rfl
theorem zHW{a i j:Int}{zs:List Int}(h0:0<=a)(hj:a<j)(hji:j<=i)(hil:i<zs.length)(hlt:WU zs j<WU zs (j-1))(r:∀ p q,a<=p->p<=q->q<=i->q≠j->WU zs p<=WU zs q):∀ p q,a<=p->p<=q->q<=i->q≠j-1->WU (swp zs j (j-1)) p<=WU (swp zs j (j-1)) q:=by
 intro p q h1 h2 h3 h4;rw[yU (by omega) (by omega) (by omega),yU (by omega) (by omega) (by omega),QC h4];by_cases hq:q=j
 ·rw[QG hq];by_cases hp:p=j-1
  ·rw[QG hp];omega
  ·rw[QC hp];by_cases hp2:p=j
   ·rw[QG hp2];exact Qh _
   ·rw[QC hp2];exact r p (j-1) h1 (by omega) (by omega) (by omega)
 ·rw[QC hq];by_cases hp:p=j-1
  ·rw[QG hp];exact r j q (by omega) (by omega) h3 hq
  ·rw[QC hp];by_cases hp2:p=j
   ·rw[QG hp2];exact r (j-1) q (by omega) (by omega) h3 hq
   ·rw[QC hp2];exact r p q h1 h2 h3 hq
theorem Be.trans{v:Value}{h h1 h2:WG}(a:Be v h h1)(b:Be v h1 h2):Be v h h2:=⟨QO a.1 b.1,fun g hg hv=>(b.2 g (QK hg a.1) hv).trans (a.2 g hg hv)⟩
theorem Be.refl(v:Value)(h:WG):Be v h h:=⟨QE _,fun _ _ _=>rfl⟩
structure SS(hB h:WG)(v:Value)(a b:Int)(xs ys:List Int)(h1:WG):Prop where
 own:Wo hB h1 v ys
 ext:WL hB h1
 upd:Be v h h1
 pi:PI a b xs ys
theorem VU{hB h:WG}{v:Value}{xs:List Int}(a b:Int)(o:Wo hB h v xs)(e:WL hB h):SS hB h v a b xs xs h:=⟨o,e,Be.refl v h,PI.refl ..⟩
theorem SS.swp{hB h h1 h3:WG}{v:Value}{a b i j:Int}{xs ys:List Int}(s:SS hB h v a b xs ys h1)(e3:WL hB h3)(o3:Wo hB h3 v (swp ys i j))(u3:Be v h1 h3)(h0:0<=a)(hb:b<=xs.length)(hi:a<=i/\i<b)(hj:a<=j/\j<b):SS hB h v a b xs (swp ys i j) h3:=
 ⟨o3,e3,s.upd.trans u3,s.pi.trans (PI.swp h0 (by rw[s.pi.len];exact hb) hi hj)⟩
theorem SS.call{hB h h1 h2:WG}{v:Value}{a b c d:Int}{xs ys zs:List Int}(s:SS hB h v a b xs ys h1)(k:SS hB h1 v c d ys zs h2)(ha:a<=c)(hb:d<=b):SS hB h v a b xs zs h2:=
 ⟨k.own,k.ext,s.upd.trans k.upd,s.pi.trans (k.pi.mono ha hb)⟩
theorem Wu.trans{p:Value}{h h1 h2:WG}(a:Wu p h h1)(b:Wu p h1 h2):Wu p h h2:=⟨QO a.1 b.1,fun g hg hv=>(b.2 g (QK hg a.1) hv).trans (a.2 g hg hv)⟩
theorem SS.extd{hB h h1 h2:WG}{v:Value}{a b:Int}{xs ys:List Int}(s:SS hB h v a b xs ys h1)(e:WL h1 h2):SS hB h v a b xs ys h2:=
 ⟨s.own.ext e,s.ext.trans e,s.upd.trans ⟨e.n,fun g hg _=>e.get g hg⟩,s.pi⟩
theorem SS.updC{hB h h1 h2:WG}{v:Value}{a b:Int}{xs ys:List Int}{g:Nat}(s:SS hB h v a b xs ys h1)(o:Wo hB h v xs)(hg:h.n<=g)(e:WL hB h2)(u:Wu (.pointer (some ⟨g,0,none⟩)) h1 h2):SS hB h v a b xs ys h2:=by
 obtain⟨q,q1,q2,qv,q3⟩:=s.own;obtain⟨q',_,q2',qv',_⟩:=o;rw[qv,s.pi.len]at qv';cases qv';refine⟨⟨q,q1,QK q2 u.1,qv,(u.2 q q2 fun e=>by cases e;omega).trans q3⟩,e,⟨QO s.upd.1 u.1,fun k hk hv=>(u.2 k (QK hk s.upd.1) fun e=>by cases e;omega).trans (s.upd.2 k hk hv)⟩,s.pi⟩
theorem WI.updV{hB hA h h1 h2:WG}{v:Value}{xs:List Int}{g:Nat}{cs:List Value}(w:WI hA h1 (.pointer (some ⟨g,0,none⟩)) cs)(o:Wo hB h v xs)(hg:h.n<=g)(u:Be v h1 h2):WI hA h2 (.pointer (some ⟨g,0,none⟩)) cs:=by
 obtain⟨q',_,q2',rfl,_⟩:=o;obtain⟨g',g1,g2,gv,g3⟩:=w;cases gv;exact⟨g,g1,QK g2 u.1,rfl,(u.2 g g2 fun a n c e=>by cases e;simp only;omega).trans g3⟩
theorem WI.offC{hA h h':WG}{p:Value}{cs:List Value}{g4:Nat}(o:WI hA h p cs)(u:Wu (.pointer (some ⟨g4,0,none⟩)) h h')(hg:g4<hA.n):WI hA h' p cs:=by
 obtain⟨g,g1,g2,rfl,g3⟩:=o;exact⟨g,g1,QK g2 u.1,rfl,(u.2 g g2 fun e=>by cases e;omega).trans g3⟩
theorem Wc.offC{hA h h':WG}{v:Value}{xs:List Int}{g4:Nat}(o:Wc hA h v xs)(u:Wu (.pointer (some ⟨g4,0,none⟩)) h h')(hg:g4<hA.n):Wc hA h' v xs:=by
 rcases o with o|⟨g,g1,g2,rfl,g3⟩
 ·exact .inl o
 ·exact .inr ⟨g,g1,QK g2 u.1,rfl,(u.2 g g2 fun e=>by cases e;omega).trans g3⟩
theorem Wu.setL{p:Value}{h h':WG}{L:Nat}{o:Wn}(u:Wu p h h')(hL:h.n<=L):Wu p h (h'.set L o):=⟨u.1,fun g hg hv=>by rw[zU,QC (by omega)];exact u.2 g hg hv⟩
theorem Wu.extd{p:Value}{h h' h2:WG}(u:Wu p h h')(e:WL h' h2):Wu p h h2:=⟨QO u.1 e.n,fun g hg hv=>(e.get g (QK hg u.1)).trans (u.2 g hg hv)⟩
theorem Wu.upd{p w:Value}{h h' h2:WG}{xs:List Int}(u:Wu p h h')(o:Wc h h' w xs)(u2:Be w h' h2):Wu p h h2:=⟨QO u.1 u2.1,fun g hg hv=>by
 refine(u2.2 g (QK hg u.1) fun a n c e=> ?_).trans (u.2 g hg hv);rcases o with⟨rfl,_⟩|⟨q,q1,_,rfl,_⟩
 ·cases e
 ·cases e;simp only;omega⟩
theorem Wu.refl(p:Value)(h:WG):Wu p h h:=⟨QE _,fun _ _ _=>rfl⟩
theorem Wo.rebase{hA hB h:WG}{g n k:Nat}{xs:List Int}(o:Wo hA h (.slice (some ⟨g,0,none⟩) n k) xs)(hg:hB.n<=g):Wo hB h (.slice (some ⟨g,0,none⟩) n k) xs:=by
 obtain⟨q,q1,q2,qv,q3⟩:=o;cases qv;exact⟨g,hg,q2,rfl,q3⟩
theorem SS.len{hB h h1:WG}{v:Value}{a b:Int}{xs ys:List Int}(k:SS hB h v a b xs ys h1):ys.length=xs.length:=k.pi.len
section
variable {P:Program}{tab:Ww}{t:WJ Value}{ds:List Deferred}{rd:Option Nat}
theorem Xg{N0 g d:Nat}{cl:Bool}{x y z w u:Operand}{v:Value}{xs:List Int}{i j:Nat}{h0 hS:WG}{K:WQ->WT->WG->Prop}{va vb:Int}(o:Wo h0 hS v xs)(e0:WL h0 hS)(hm:hS.mark<=h0.n)
  (hx:ev t x=zR v i) (hy:ev t y=I va) (hi:i<xs.length) (hj:j<xs.length) (hz:ev t z=v) (hw:BI (ev t w)=some j) (hu:ev (t.set d (zR v j)) u=I vb)
  (k:∀ h1,WL h0 h1->Wo h0 h1 v ((xs.set i va).set j vb)->Be v hS h1->K .normal ⟨t.set d (zR v j),ds,rd⟩ h1):
  We P tab hS.mark N0 [(⟨none,none,.store 1 x y⟩,[]),(⟨some d,none,.idx 1 z w⟩,[]),(⟨none,none,.store 1 (.tmp d) u⟩,[])] g cl ⟨t,ds,rd⟩ (inC (zB 0 hS)) (B1 K hS):=by
 obtain⟨q,g1,g2,rfl,g3⟩:=o;rw[We,QC (show ¬Nat.beq (zG (W6.store 1 x y)) 3=true from Bool.noConfusion)];have hst1:zg (inC (inC (zB 0 hS))) ⟨q,i,none⟩ [I va]=some ((inC (inC (zB 0 hS))).set q (.row (zL (xs.map I) i [I va]) true 0)):=by
  have h1:Nat.ble (i+1) (xs.map I).length=true:=QF (by simp;omega);have h0:Nat.ble 0 i=true:=QF (QU _);have g3':(inC (inC (zB 0 hS))).get q=some (.row (xs.map I) true 0):=g3;simp only[zg,g3',QZ,h1,h0,Qm];rfl
 rw[zAQ _ _ _ hi]at hst1;have hc:∀ a,(I a).cells=#[I a]:=fun _=>rfl;refine VT undef ((inC (inC (zB 0 hS))).set q (.row ((xs.set i va).map I) true 0)) rfl (by
  simp only[WP,hx,zR,hy,Qk,hc,hst1,QH];rfl) ?_
 refine WO.nil ⟨⟨fun k hk=> ?_,QE _,.inl rfl⟩,?_⟩
 ·have hk2:k∈(inC (inC (zB 0 hS))).log q:=hk;rcases y9 hk2 with rfl|hk3
  ·omega
  ·cases hk3
 generalize hh1:(inC (inC (zB 0 hS))).set q (.row ((xs.set i va).map I) true 0)=h1;have n1:h1.n=hS.n:=by rw[<-hh1];rfl
 have get1:∀ k,h1.get k=if k=q then some (.row ((xs.set i va).map I) true 0)else hS.get k:=fun k=>by
  rw[<-hh1,zU];rfl
 rw[We,QC (show ¬Nat.beq (zG (W6.idx 1 z w)) 3=true from Bool.noConfusion)];have hb:Nat.ble (j+1) xs.length=true:=QF hj;refine WO.op (zR (.slice (some ⟨q,0,none⟩) xs.length 1) j) (inC h1) rfl (by
  have hz':ev t z=.slice (some ⟨q,0,none⟩) xs.length 1:=hz;simp[WP,hz',hw,hb,zR]) ?_
 refine WO.nil ⟨⟨fun k hk=>(by cases hk),QE _,.inl rfl⟩,?_⟩;rw[We,QC (show ¬Nat.beq (zG (W6.store 1 (.tmp d) u)) 3=true from Bool.noConfusion)];have hst2:zg (inC (inC h1)) ⟨q,j,none⟩ [I vb]=some ((inC (inC h1)).set q (.row (zL ((xs.set i va).map I) j [I vb]) true 0)):=by
  have h1':Nat.ble (j+1) ((xs.set i va).map I).length=true:=QF (by simp;omega);have h0:Nat.ble 0 j=true:=QF (QU _);have g3':(inC (inC h1)).get q=some (.row ((xs.set i va).map I) true 0):=by
   have:=get1 q;rw[QG rfl]at this;exact this
  simp only[zg,g3',QZ,h1',h0,Qm];rfl
 rw[zAQ _ _ _ (by simp;omega)]at hst2;refine VT undef ((inC (inC h1)).set q (.row (((xs.set i va).set j vb).map I) true 0)) rfl (by
  have e1:ev (t.set d (zR (.slice (some ⟨q,0,none⟩) xs.length 1) j)) (.tmp d)=zR (.slice (some ⟨q,0,none⟩) xs.length 1) j:=by simp only[ev,yH,Q8]
  have hp:zR (.slice (some ⟨q,0,none⟩) xs.length 1) j=.pointer (some ⟨q,j,none⟩):=by simp[zR]
  rw[hp]at e1 hu;rw[hp];simp only[WP,e1,hu,hc,hst2,QH];rfl) ?_
 refine WO.nil ⟨⟨fun k hk=> ?_,QE _,.inl rfl⟩,?_⟩
 ·have hk2:k∈(inC (inC h1)).log q:=hk;rcases y9 hk2 with rfl|hk3
  ·omega
  ·cases hk3
 have get2:∀ k,(zx hS ((inC (inC h1)).set q (.row (((xs.set i va).set j vb).map I) true 0))).get k=if k=q then some (.row (((xs.set i va).set j vb).map I) true 0)else hS.get k:=fun k=>by
  have e1:((inC (inC h1)).set q (.row (((xs.set i va).set j vb).map I) true 0)).get k=if k=q then some (.row (((xs.set i va).set j vb).map I) true 0)else(inC (inC h1)).get k:=zU ..;have e2:(inC (inC h1)).get k=h1.get k:=rfl;have e3:(zx hS ((inC (inC h1)).set q (.row (((xs.set i va).set j vb).map I) true 0))).get k=((inC (inC h1)).set q (.row (((xs.set i va).set j vb).map I) true 0)).get k:=rfl;rw[e3,e1,e2,get1];by_cases e:k=q<;>simp[e]
 have nn:(zx hS ((inC (inC h1)).set q (.row (((xs.set i va).set j vb).map I) true 0))).n=hS.n:=n1;refine k (zx hS ((inC (inC h1)).set q (.row (((xs.set i va).set j vb).map I) true 0))) ?_ ?_ ?_
 ·refine⟨by rw[nn];exact e0.n,fun c hc=>by rw[get2,QC (by omega)];exact e0.get c hc,fun w c hc=> ?_,e0.mark,fun hmk=>e0.wr hmk⟩;rw[nn]at hc;rw[get2,QC (by omega)];exact e0.wf w c hc
 ·exact⟨q,g1,by rw[nn];exact g2,by simp,by rw[get2,QG rfl]⟩
 ·exact⟨by rw[nn];exact QE _,fun c _ hc=>by rw[get2,QC (fun e=>hc _ _ _ rfl e.symm)]⟩
theorem Ug{y:Operand}{n:Int}(h:WR t y (I n))(hn:0<=n):BI (ev t y)=some n.toNat:=by
 unfold WR at h;rw[h];obtain⟨k,rfl⟩:∃ k:Nat,n=k:=⟨n.toNat,by omega⟩;rfl
theorem VP{N0 g d:Nat}{cl:Bool}{x y z w u:Operand}{v:Value}{xs:List Int}{h0 hS:WG}{K:WQ->WT->WG->Prop}(i j:Int)(o:Wo h0 hS v xs)(e0:WL h0 hS)(hm:hS.mark<=h0.n)
  (k:∀ h1,WL h0 h1->Wo h0 h1 v (swp xs i j)->Be v hS h1->K .normal ⟨t.set d (zR v j.toNat),ds,rd⟩ h1)
  (hi:0<=i/\i<xs.length:=by omega) (hj:0<=j/\j<xs.length:=by omega)
  (hx:WR t x (zR v i.toNat):=by exact zY) (hy:WR t y (I (WU xs j)):=by exact zY) (hz:WR t z v:=by exact zY) (hw:WR t w (I j):=by exact zY) (hu:WR (t.set d (zR v j.toNat)) u (I (WU xs i)):=by exact zY):
  We P tab hS.mark N0 [(⟨none,none,.store 1 x y⟩,[]),(⟨some d,none,.idx 1 z w⟩,[]),(⟨none,none,.store 1 (.tmp d) u⟩,[])] g cl ⟨t,ds,rd⟩ (inC (zB 0 hS)) (B1 K hS):=
 Xg o e0 hm hx hy (by omega) (by omega) hz (Ug hw hj.1) hu k
theorem VK{c:WW}{h:WG}{K:WQ->WT->WG->Prop}{ws:List Nat}(M:WJ Value->WG->Prop)(h1:WX P tab c ⟨t,ds,rd⟩ h (zNE M ds rd K))(h2:∀ t' h',zHO ws t t'->M t' h'->K .normal ⟨t',ds,rd⟩ h')(hw:yC c=ws:=by conv=>(lhs;reduce)):WX P tab c ⟨t,ds,rd⟩ h K:=
 (WX.frame h1).mono fun e fr h ⟨hf,hx⟩=>by
  unfold zNE at hx;cases e with
  |normal=>
   obtain⟨t',ds',rd'⟩:=fr;obtain⟨e1,e2,e3⟩:=hx;simp only at e1 e2 e3;subst e1 e2;exact h2 _ _ (fun j hj=>hf j (by rw[hw];intro hc;have:=Z1 hj;simp[hc]at this)) e3
  |exit i=>exact hx
  |goto i=>exact hx
  |ret=>exact hx
theorem WO.bin{d:Nat}{op:BinOp}{x y:Operand}{vx vy v:Value}{h:WG}{l:List WH}{Q:WT->WG->Prop}(hx:WR t x vx)(hy:WR t y vy)(e:yB op vx vy=some v)(k:WO P tab l ⟨t.set d v,ds,rd⟩ h Q):WO P tab (⟨some d,none,.bin op x y⟩::l) ⟨t,ds,rd⟩ h Q:=
 UA (by
  have hx:ev t x=vx:=hx;have hy:ev t y=vy:=hy;simp only[WP,hx,hy,e,QH]) k
theorem UU{d:Nat}{x i:Operand}{s:ByteArray}{m:Int}{kk:IntKind}{n:Nat}{b:UInt8}{h:WG}{l:List WH}{Q:WT->WG->Prop}(hb:s[n]?=some b)(hn:BI (.int kk m)=some n)(k:WO P tab l ⟨t.set d (.int .u8 b.toNat),ds,rd⟩ h Q)(hx:WR t x (.string s):=by exact WR.const)(hi:WR t i (.int kk m):=by exact zY):WO P tab (⟨some d,none,.elemStr x i⟩::l) ⟨t,ds,rd⟩ h Q:=
 UA (by
  have hx:ev t x=.string s:=hx;have hi:ev t i=.int kk m:=hi;simp only[WP,hx,hi,hn,hb]) k
theorem WO.quo{d:Nat}{x:Operand}{a c:Int}{h:WG}{l:List WH}{Q:WT->WG->Prop}(hc:c≠0)(h1: -9223372036854775808<=a.tdiv c)(h2:a.tdiv c<=9223372036854775807)(k:WO P tab l ⟨t.set d (I (a.tdiv c)),ds,rd⟩ h Q)(hx:WR t x (I a):=by exact zY):WO P tab (⟨some d,none,.bin .quo x (.const (I c))⟩::l) ⟨t,ds,rd⟩ h Q:=
 WO.bin hx (vy:=I c) rfl (by simp only[yB,Q8,QC hc,zEB h1 h2]) k
theorem Ya{n:Int}(h1:0<=n)(h2:n<18446744073709551616):IntKind.wrap .u64 n=n:=by
 simp[IntKind.wrap,IntKind.signed,IntKind.bits];omega
theorem zQJ{n:Int}(h1:0<=n)(h2:n<256):IntKind.wrap .u8 n=n:=by
 simp[IntKind.wrap,IntKind.signed,IntKind.bits];omega
theorem zQs{n:Int}{kk:IntKind}(h:0<=n):yB .shr (.int .u64 n) (.int kk 16)=some (.int .u64 (n / 65536)):=by
 have e:(min (16:Int).toNat IntKind.u64.bits)=16:=rfl;simp only[yB,e];rw[QC (by decide),Int.fdiv_eq_ediv_of_nonneg _ (by decide)];rfl
theorem zQ8{n:Int}{kk:IntKind}(h:0<=n):yB .shr (.int .u64 n) (.int kk 8)=some (.int .u64 (n / 256)):=by
 have e:(min (8:Int).toNat IntKind.u64.bits)=8:=rfl;simp only[yB,e];rw[QC (by decide),Int.fdiv_eq_ediv_of_nonneg _ (by decide)];rfl
theorem zOA(y:Int){m:Int}(h:0<=m/\m<=9223372036854775807):∃ r:Int,yB .and (.int .u64 y) (.int .u64 m)=some (.int .u64 r)/\0<=r/\r<=m:=by
 have hb:(BitVec.ofInt 64 m).toNat=m.toNat:=by
  rw[BitVec.toNat_ofInt];omega
 have hle:(BitVec.ofInt 64 y&&& BitVec.ofInt 64 m).toNat<=m.toNat:=by
  rw[BitVec.toNat_and,hb];exact Nat.and_le_right
 refine⟨((BitVec.ofInt 64 y&&& BitVec.ofInt 64 m).toNat:Int),?_,by omega,by omega⟩;simp only[yB,Q8,IntKind.bits];rw[Ya (by omega) (by omega)];rfl
theorem XB{N0 g n:Nat}{cl:Bool}{x y:Operand}{p v:Value}{cells:List Value}{h0 hS:WG}{K:WQ->WT->WG->Prop}(cs:List Value)(o:WI h0 hS p cells)(e0:WL h0 hS)(hm:hS.mark<=h0.n)
  (k:∀ h1,WL h0 h1->WI h0 h1 p cs->Wu p hS h1->K .normal ⟨t,ds,rd⟩ h1) (hx:WR t x p:=by exact zY) (hy:WR t y v:=by exact zY) (hv:v.cells=cs.toArray:=by rfl) (h1:zH cs=true:=by rfl) (hn:cs.length=n:=by rfl) (hl:cells.length=n:=by rfl):
  We P tab hS.mark N0 [(⟨none,none,.store n x y⟩,[])] g cl ⟨t,ds,rd⟩ (inC (zB 0 hS)) (B1 K hS):=by
 obtain⟨q,g1,g2,rfl,g3⟩:=o;subst hn;have hx:ev t x=.pointer (some ⟨q,0,none⟩):=hx;have hy:ev t y=v:=hy;rw[We,QC (show ¬Nat.beq (zG (W6.store cs.length x y)) 3=true from Bool.noConfusion)];have hst:zg (inC (inC (zB 0 hS))) ⟨q,0,none⟩ cs=some ((inC (inC (zB 0 hS))).set q (.row cs true 0)):=by
  have h2:Nat.ble (0+cs.length) cells.length=true:=QF (by omega);have h3:Nat.ble 0 0=true:=rfl;have h4:zL cells 0 cs=cs:=by simp[zL,hl]
  have g3':(inC (inC (zB 0 hS))).get q=some (.row cells true 0):=g3;simp only[zg,g3',h2,h3,h1,h4,Qe,Qm,cond_true]
 refine VT undef ((inC (inC (zB 0 hS))).set q (.row cs true 0)) rfl (by
  simp only[WP,hx,hy,hv,Gx,GP,hst,QH,cond_true]) ?_
 refine WO.nil ⟨⟨fun k hk=> ?_,QE _,.inl rfl⟩,?_⟩
 ·have hk2:k∈(inC (inC (zB 0 hS))).log q:=hk;rcases y9 hk2 with rfl|hk3
  ·omega
  ·cases hk3
 have get2:∀ k,(zx hS ((inC (inC (zB 0 hS))).set q (.row cs true 0))).get k=if k=q then some (.row cs true 0)else hS.get k:=fun k=>by
  have e1:((inC (inC (zB 0 hS))).set q (.row cs true 0)).get k=if k=q then some (.row cs true 0)else(inC (inC (zB 0 hS))).get k:=zU ..;exact e1
 refine k (zx hS ((inC (inC (zB 0 hS))).set q (.row cs true 0))) ?_ ?_ ?_
 ·refine⟨e0.n,fun c hc=>by rw[get2,QC (by omega)];exact e0.get c hc,fun w c hc=> ?_,e0.mark,fun hmk=>e0.wr hmk⟩;have hc:hS.n<=c:=hc;rw[get2,QC (by omega)];exact e0.wf w c hc
 ·exact⟨q,g1,g2,rfl,by rw[get2,QG rfl]⟩
 ·exact⟨QE _,fun c _ hc=>by rw[get2,QC (fun e=>hc (by rw[e]))]⟩
theorem zDd{C D:Prop}[Decidable C][Decidable D](h:C):decide (C/\D)=decide D:=by simp[h]
theorem zBy{C D:Prop}[Decidable C][Decidable D](h:C):decide (C/\¬D)= !decide D:=by simp[h]
end
end Go.Am
