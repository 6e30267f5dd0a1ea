/- A part of the abstract machine for the model's programs and of the proof that what it yields the model's call yields (definitions, operations, runs, regions that draw their order); no statement of the seat is proved in this text. -/
import Derived.Test.YtmejfcakhpihlaaGreatDoorAmR
import Derived.Test.YtmejfcakhpihlaaGreatDoorAmA
import Derived.Test.YtmejfcakhpihlaaGreatDoorAmD
set_option linter.unusedVariables false
set_option linter.unusedSimpArgs false
namespace Go.Am
def oV (a b:U0):U0:= .seq a b
def oJ (c:Nat)(a b:U0):U0:= .cond (.tmp c) a b
def o5 (n:Nat)(a:U0):U0:= .block n a
def o6 (l:List (U1×List Nat)):U0:= .regionC l
instance:Coe U1 (U1×List Nat):=⟨fun o=>(o,[])⟩
def Wg (t:U4 Value)(k:Nat)(v:Value):Prop:=zB t k=v
def WE (t:U4 Value)(x:Operand)(v:Value):Prop:=ev t x=v
def zFy (j:Nat):List Nat->Bool
 |[]=>true
 |k::l=>bif Nat.beq j k then false else zFy j l
def zCE (ws:List Nat)(t0 t:U4 Value):Prop:=∀ j,zFy j ws=true->zB t j=zB t0 j
theorem Wg.here {t:U4 Value}{k:Nat}{v:Value}:Wg (t.set k v) k v:=by unfold Wg;rw[zd,QJ rfl]
theorem VX {t:U4 Value}{k j:Nat}{v w:Value}(hn:Nat.beq j k=false)(s:Wg t j v):Wg (t.set k w) j v:=by
 unfold Wg at *;rw[zd,QB (fun e=>by subst e;simp at hn)];exact s
theorem Wg.same {ws t0 t j v}(hs:zCE ws t0 t)(hn:zFy j ws=true)(s:Wg t0 j v):Wg t j v:=(hs j hn).trans s
theorem WE.tmp {t k v}(s:Wg t k v):WE t (.tmp k) v:=s
theorem WE.const {t v}:WE t (.const v) v:=rfl
theorem WE.fn {t f}:WE t (.func f) (.func (.func f) #[] #[]):=rfl
theorem V4 {t g}:WE t (.global g) (.pointer (some ⟨g,0,none⟩)):=rfl
def BF (t:U4 Value)(xs:List Operand)(vs:List Value):Prop:=xs.map (ev t)=vs
theorem BF.nil {t}:BF t [] []:=rfl
theorem BF.cons {t x xs v vs}(h:WE t x v)(k:BF t xs vs):BF t (x::xs) (v::vs):=by unfold BF WE at *;simp[h,k]
def Bs (n:Int)(i:Nat):Prop:=W4 (I n)=some i
theorem UD {i:Nat}:Bs (i:Int) i:=rfl
theorem Bs.lit {n:Int}{i:Nat}(h:n=(i:Int)):Bs n i:=by subst h;rfl
theorem Bs.int {n:Int}(h:0<=n):Bs n n.toNat:=by
 obtain⟨i,rfl⟩:=Int.eq_ofNat_of_zero_le h;rfl
def Wv (t:U4 Value)(ps:List (Nat×Nat×Operand))(vs:List (Nat×Nat×Value)):Prop:=zg t ps=vs
theorem Wv.nil {t}:Wv t [] []:=rfl
theorem Wv.cons {t a b x ps v vs}(h:WE t x v)(k:Wv t ps vs):Wv t ((a,b,x)::ps) ((a,b,v)::vs):=by unfold Wv WE at *;unfold zg at *;simp[h,k]
theorem ZI {j:Nat}:∀ {l:List Nat},zFy j l=true->l.contains j=false
 |[],_=>rfl
 |k::l,h=>by
  unfold zFy at h;cases hb:Nat.beq j k with
  |true=>rw[hb]at h;cases h
  |false=>
   rw[hb]at h;have:=ZI (l:=l) h;simp only[List.contains_cons,this,Qq];have:j≠k:=fun e=>by subst e;simp at hb
   simpa using this
theorem Yg {t k v}(h:Wg t k v:=by (repeat (first|((with_reducible apply VX);rfl)|((with_reducible apply Wg.same);(with_reducible assumption);rfl)));first|with_reducible exact Wg.here|with_reducible assumption|(unfold Wg;with_reducible assumption)):Wg t k v:=h
theorem zL {t x v}(h:WE t x v:=by first|with_reducible exact WE.const|((with_reducible apply WE.tmp);(repeat (first|((with_reducible apply VX);rfl)|((with_reducible apply Wg.same);(with_reducible assumption);rfl)));first|with_reducible exact Wg.here|with_reducible assumption|(unfold Wg;with_reducible assumption))|with_reducible exact WE.fn|with_reducible exact V4|fail):WE t x v:=h
theorem zKd {t xs vs}(h:BF t xs vs:=by (repeat (apply BF.cons;(exact zL)));exact BF.nil):BF t xs vs:=h
theorem zVW {b:Bool}(h:b=false):(!b)=true:=by rw[h];rfl
theorem zVS {b:Bool}(h:b=true):(!b)=false:=by rw[h];rfl
theorem DB:(∀ a:Prop,∀ [Decidable a],(decide a=true)=a)/\(∀ a:Prop,∀ [Decidable a],(decide a=false)=¬a)/\(∀ b:Bool,((!b)=true)=(b=false))/\(∀ b:Bool,((!b)=false)=(b=true))/\
  (∀ a b:Bool,((a||b)=true)=(a=true\/b=true))/\(∀ a b:Bool,((a&&b)=true)=(a=true/\b=true))/\(∀ a b:Bool,((a||b)=false)=(a=false/\b=false))/\(∀ a b:Bool,((a&&b)=false)=(a=false\/b=false))/\
  (∀ a b:Int,(¬a<b)=(b<=a))/\(∀ a b:Int,(¬a<=b)=(b<a))/\((true=true)=True)/\((false=false)=True)/\((true=false)=False)/\((false=true)=False):=
 ⟨fun a _=>by simp,fun a _=>by simp,fun b=>by simp,fun b=>by simp,fun a b=>by simp,fun a b=>by simp,fun a b=>by simp,fun a b=>by cases a<;>cases b<;>simp,fun a b=>by simp,fun a b=>by simp,by simp,by simp,by simp,by simp⟩
theorem zGf {p:Prop}(h:p:=by first|with_reducible rfl|with_reducible exact Qe|with_reducible exact QY|with_reducible assumption|exact Qg (by first|with_reducible assumption|omega)|exact Qb (by first|with_reducible assumption|omega)|exact zVW (by first|with_reducible assumption|exact Qb (by first|with_reducible assumption|omega)|fail)|exact zVS (by first|with_reducible assumption|exact Qg (by first|with_reducible assumption|omega)|fail)|(simp only[DB, *];done)|fail):p:=h
theorem zIN {p:Prop}(h:p:=by first|omega|with_reducible assumption|(simp only[Qz,List.length_set,QM,GF,G8]at *;omega)):p:=h
theorem zK9 {n:Int}{i:Nat}(h:Bs n i:=by first|exact UD|exact Bs.lit rfl|exact Bs.int (by omega)|fail):Bs n i:=h
theorem zUU {h:Uz}{v:Value}{xs:List Int}(s:WJ h v xs:=by first|with_reducible assumption|exact WJ.ext (by with_reducible assumption) (by with_reducible assumption)|exact Wc.sl (by with_reducible assumption)|exact WH.sl (by with_reducible assumption)|fail):WJ h v xs:=s
theorem zJJ {o:Option Value}{r:Value}(h:o=some r:=by first|exact(rfl:_=some (Value.agg #[_,_]))|exact(rfl:_=some (Value.agg #[_,_,_]))|exact(rfl:_=some (Value.agg #[_,_,_,_]))|exact(rfl:_=some (Value.agg #[_,_,_,_,_]))|exact(rfl:_=some (Value.agg #[_,_,_,_,_,_]))|exact(rfl:_=some (Value.agg #[_,_,_,_,_,_,_]))|exact(rfl:_=some (Value.agg #[_,_,_,_,_,_,_,_]))|rfl):o=some r:=h
theorem zVX {o:Option (List Value)}{r:List Value}(h:o=some r:=by first|exact(rfl:_=some [_,_])|exact(rfl:_=some [_,_,_])|exact(rfl:_=some [_,_,_,_])|exact(rfl:_=some [_,_,_,_,_])|exact(rfl:_=some [_,_,_,_,_,_])|exact(rfl:_=some [_,_,_,_,_,_,_])|exact(rfl:_=some [_,_,_,_,_,_,_,_])|rfl):o=some r:=h
def zM5 (v:Value):Prop:=∃ a k m,v= .slice (some a) k m
section
variable {P:Program}{tab:Wd}{ds:List Deferred}{rd:Option Nat}
variable {h:Uz}{l:List U1}{t:U4 Value}{Q:WA->Uz->Prop}
theorem R.mov {d:Nat}{x:Operand}{v:Value}(hx:WE t x v)(k:WO P tab l ⟨t.set d v,ds,rd⟩ h Q):WO P tab (⟨some d,none,.mov x⟩::l) ⟨t,ds,rd⟩ h Q:=
 WO.op _ _ rfl (by unfold WE at *;simp only[U9,hx]) k
theorem R.add {d:Nat}{x y:Operand}{a b:Int}(hx:WE t x (I a))(hy:WE t y (I b))(h1: -9223372036854775808<=a+b)(h2:a+b<=9223372036854775807)(k:WO P tab l ⟨t.set d (I (a+b)),ds,rd⟩ h Q):WO P tab (⟨some d,none,.bin .add x y⟩::l) ⟨t,ds,rd⟩ h Q:=
 WO.op _ _ rfl (by unfold WE at *;simp only[U9,hx,hy,I,zPL,QK];rw[zD0 h1 h2]) k
theorem R.sub {d:Nat}{x y:Operand}{a b:Int}(hx:WE t x (I a))(hy:WE t y (I b))(h1: -9223372036854775808<=a - b)(h2:a - b<=9223372036854775807)(k:WO P tab l ⟨t.set d (I (a - b)),ds,rd⟩ h Q):WO P tab (⟨some d,none,.bin .sub x y⟩::l) ⟨t,ds,rd⟩ h Q:=
 WO.op _ _ rfl (by unfold WE at *;simp only[U9,hx,hy,I,zNv,QK];rw[zD0 h1 h2]) k
theorem R.mul {d:Nat}{x y:Operand}{a b:Int}(hx:WE t x (I a))(hy:WE t y (I b))(h1: -9223372036854775808<=a * b)(h2:a * b<=9223372036854775807)(k:WO P tab l ⟨t.set d (I (a * b)),ds,rd⟩ h Q):WO P tab (⟨some d,none,.bin .mul x y⟩::l) ⟨t,ds,rd⟩ h Q:=
 WO.op _ _ rfl (by unfold WE at *;simp only[U9,hx,hy,I,zNf,QK];rw[zD0 h1 h2]) k
theorem R.lss {d:Nat}{x y:Operand}{a b:Int}{kk:IntKind}(hx:WE t x (.int kk a))(hy:WE t y (.int kk b))(k:WO P tab l ⟨t.set d (.bool (decide (a<b))),ds,rd⟩ h Q):WO P tab (⟨some d,none,.bin .lss x y⟩::l) ⟨t,ds,rd⟩ h Q:=
 WO.op _ _ rfl (by unfold WE at *;simp only[U9,hx,hy,zPg,QK]) k
theorem R.leq {d:Nat}{x y:Operand}{a b:Int}{kk:IntKind}(hx:WE t x (.int kk a))(hy:WE t y (.int kk b))(k:WO P tab l ⟨t.set d (.bool (decide (a<=b))),ds,rd⟩ h Q):WO P tab (⟨some d,none,.bin .leq x y⟩::l) ⟨t,ds,rd⟩ h Q:=
 WO.op _ _ rfl (by unfold WE at *;simp only[U9,hx,hy,zNJ,QK]) k
theorem R.gtr {d:Nat}{x y:Operand}{a b:Int}{kk:IntKind}(hx:WE t x (.int kk a))(hy:WE t y (.int kk b))(k:WO P tab l ⟨t.set d (.bool (decide (b<a))),ds,rd⟩ h Q):WO P tab (⟨some d,none,.bin .gtr x y⟩::l) ⟨t,ds,rd⟩ h Q:=
 WO.op _ _ rfl (by unfold WE at *;simp only[U9,hx,hy,zM6,QK]) k
theorem R.geq {d:Nat}{x y:Operand}{a b:Int}{kk:IntKind}(hx:WE t x (.int kk a))(hy:WE t y (.int kk b))(k:WO P tab l ⟨t.set d (.bool (decide (b<=a))),ds,rd⟩ h Q):WO P tab (⟨some d,none,.bin .geq x y⟩::l) ⟨t,ds,rd⟩ h Q:=
 WO.op _ _ rfl (by unfold WE at *;simp only[U9,hx,hy,zOE,QK]) k
theorem R.eql {d:Nat}{x y:Operand}{a b:Int}{kk:IntKind}(hx:WE t x (.int kk a))(hy:WE t y (.int kk b))(k:WO P tab l ⟨t.set d (.bool (decide (a=b))),ds,rd⟩ h Q):WO P tab (⟨some d,none,.bin .eql x y⟩::l) ⟨t,ds,rd⟩ h Q:=
 WO.op _ _ rfl (by unfold WE at *;simp only[U9,hx,hy,zOI,QK]) k
theorem R.neq {d:Nat}{x y:Operand}{a b:Int}{kk:IntKind}(hx:WE t x (.int kk a))(hy:WE t y (.int kk b))(k:WO P tab l ⟨t.set d (.bool (!decide (a=b))),ds,rd⟩ h Q):WO P tab (⟨some d,none,.bin .neq x y⟩::l) ⟨t,ds,rd⟩ h Q:=
 WO.op _ _ rfl (by unfold WE at *;simp only[U9,hx,hy,zNs,QK]) k
theorem R.not {d:Nat}{x:Operand}{b:Bool}(hx:WE t x (.bool b))(k:WO P tab l ⟨t.set d (.bool (!b)),ds,rd⟩ h Q):WO P tab (⟨some d,none,.un .not x⟩::l) ⟨t,ds,rd⟩ h Q:=
 WO.op _ _ rfl (by unfold WE at *;simp only[U9,hx,unV,QK]) k
theorem Us {d:Nat}{x y:Operand}{a b:Bool}(hx:WE t x (.bool a))(hy:WE t y (.bool b))(k:WO P tab l ⟨t.set d (.bool (a == b)),ds,rd⟩ h Q):WO P tab (⟨some d,none,.binB false x y⟩::l) ⟨t,ds,rd⟩ h Q:=
 WO.op _ _ rfl (by unfold WE at *;simp only[U9,hx,hy];rfl) k
theorem Up {d:Nat}{x y:Operand}{a b:Bool}(hx:WE t x (.bool a))(hy:WE t y (.bool b))(k:WO P tab l ⟨t.set d (.bool (a != b)),ds,rd⟩ h Q):WO P tab (⟨some d,none,.binB true x y⟩::l) ⟨t,ds,rd⟩ h Q:=
 WO.op _ _ rfl (by unfold WE at *;simp only[U9,hx,hy];rfl) k
theorem Xe {d:Nat}{x:Operand}{n:Int}{k2:IntKind}(hx:WE t x (.int k2 n))(h1: -9223372036854775808<=n)(h2:n<=9223372036854775807)(k:WO P tab l ⟨t.set d (I n),ds,rd⟩ h Q):WO P tab (⟨some d,none,.conv .i64 x⟩::l) ⟨t,ds,rd⟩ h Q:=
 WO.op _ _ rfl (by unfold WE at *;simp only[U9,hx,I];rw[zD0 h1 h2]) k
theorem R.conv {d:Nat}{x:Operand}{n:Int}{kk k2:IntKind}(hx:WE t x (.int k2 n))(k:WO P tab l ⟨t.set d (.int kk (kk.wrap n)),ds,rd⟩ h Q):WO P tab (⟨some d,none,.conv kk x⟩::l) ⟨t,ds,rd⟩ h Q:=
 WO.op _ _ rfl (by unfold WE at *;simp only[U9,hx]) k
theorem Xy {d:Nat}{c x y:Operand}{v:Value}{b:Bool}(hc:WE t c (.bool b))(hb:b=true)(hx:WE t x v)(k:WO P tab l ⟨t.set d v,ds,rd⟩ h Q):WO P tab (⟨some d,none,.pick c x y⟩::l) ⟨t,ds,rd⟩ h Q:=
 WO.op _ _ rfl (by unfold WE at *;subst hb;simp only[U9,hc,hx,Q3]) k
theorem Xx {d:Nat}{c x y:Operand}{v:Value}{b:Bool}(hc:WE t c (.bool b))(hb:b=false)(hy:WE t y v)(k:WO P tab l ⟨t.set d v,ds,rd⟩ h Q):WO P tab (⟨some d,none,.pick c x y⟩::l) ⟨t,ds,rd⟩ h Q:=
 WO.op _ _ rfl (by unfold WE at *;subst hb;simp only[U9,hc,hy,Qn,Gi]) k
theorem XW {d:Nat}{x:Operand}{v0 v1:Value}(hx:WE t x (.tuple #[v0,v1]))(k:WO P tab l ⟨t.set d v0,ds,rd⟩ h Q):WO P tab (⟨some d,none,.extract x 0⟩::l) ⟨t,ds,rd⟩ h Q:=
 WO.op _ _ rfl (by unfold WE at *;simp only[U9,hx];rfl) k
theorem XZ {d:Nat}{x:Operand}{v0 v1:Value}(hx:WE t x (.tuple #[v0,v1]))(k:WO P tab l ⟨t.set d v1,ds,rd⟩ h Q):WO P tab (⟨some d,none,.extract x 1⟩::l) ⟨t,ds,rd⟩ h Q:=
 WO.op _ _ rfl (by unfold WE at *;simp only[U9,hx];rfl) k
theorem Xg {d:Nat}{x:Operand}{v0 v1 v2:Value}(hx:WE t x (.tuple #[v0,v1,v2]))(k:WO P tab l ⟨t.set d v0,ds,rd⟩ h Q):WO P tab (⟨some d,none,.extract x 0⟩::l) ⟨t,ds,rd⟩ h Q:=
 WO.op _ _ rfl (by unfold WE at *;simp only[U9,hx];rfl) k
theorem Xn {d:Nat}{x:Operand}{v0 v1 v2:Value}(hx:WE t x (.tuple #[v0,v1,v2]))(k:WO P tab l ⟨t.set d v1,ds,rd⟩ h Q):WO P tab (⟨some d,none,.extract x 1⟩::l) ⟨t,ds,rd⟩ h Q:=
 WO.op _ _ rfl (by unfold WE at *;simp only[U9,hx];rfl) k
theorem Xs {d:Nat}{x:Operand}{v0 v1 v2:Value}(hx:WE t x (.tuple #[v0,v1,v2]))(k:WO P tab l ⟨t.set d v2,ds,rd⟩ h Q):WO P tab (⟨some d,none,.extract x 2⟩::l) ⟨t,ds,rd⟩ h Q:=
 WO.op _ _ rfl (by unfold WE at *;simp only[U9,hx];rfl) k
theorem Xj {d:Nat}{x:Operand}{v0 v1 v2 v3:Value}(hx:WE t x (.tuple #[v0,v1,v2,v3]))(k:WO P tab l ⟨t.set d v0,ds,rd⟩ h Q):WO P tab (⟨some d,none,.extract x 0⟩::l) ⟨t,ds,rd⟩ h Q:=
 WO.op _ _ rfl (by unfold WE at *;simp only[U9,hx];rfl) k
theorem Xl {d:Nat}{x:Operand}{v0 v1 v2 v3:Value}(hx:WE t x (.tuple #[v0,v1,v2,v3]))(k:WO P tab l ⟨t.set d v1,ds,rd⟩ h Q):WO P tab (⟨some d,none,.extract x 1⟩::l) ⟨t,ds,rd⟩ h Q:=
 WO.op _ _ rfl (by unfold WE at *;simp only[U9,hx];rfl) k
theorem Xr {d:Nat}{x:Operand}{v0 v1 v2 v3:Value}(hx:WE t x (.tuple #[v0,v1,v2,v3]))(k:WO P tab l ⟨t.set d v2,ds,rd⟩ h Q):WO P tab (⟨some d,none,.extract x 2⟩::l) ⟨t,ds,rd⟩ h Q:=
 WO.op _ _ rfl (by unfold WE at *;simp only[U9,hx];rfl) k
theorem XY {d:Nat}{x:Operand}{v0 v1 v2 v3:Value}(hx:WE t x (.tuple #[v0,v1,v2,v3]))(k:WO P tab l ⟨t.set d v3,ds,rd⟩ h Q):WO P tab (⟨some d,none,.extract x 3⟩::l) ⟨t,ds,rd⟩ h Q:=
 WO.op _ _ rfl (by unfold WE at *;simp only[U9,hx];rfl) k
theorem R.lenC {d:Nat}{n:Nat}(k:WO P tab l ⟨t.set d (I n),ds,rd⟩ h Q):WO P tab (⟨some d,none,.lenC n⟩::l) ⟨t,ds,rd⟩ h Q:=
 WO.op _ _ rfl (by simp only[U9]) k
theorem R.nil {d:Nat}{x:Operand}{kind:Nat}{neg b:Bool}{v:Value}(hx:WE t x v)(hn:zDb kind v=some b)(k:WO P tab l ⟨t.set d (.bool (if neg then !b else b)),ds,rd⟩ h Q):WO P tab (⟨some d,none,.isNil kind neg x⟩::l) ⟨t,ds,rd⟩ h Q:=
 WO.op _ _ rfl (by unfold WE at *;simp only[U9,hx,hn,QK]) k
theorem Uf {d:Nat}{x:Operand}{v:Value}{xs:List Int}(hx:WE t x v)(s:WJ h v xs)(k:WO P tab l ⟨t.set d (I xs.length),ds,rd⟩ h Q):WO P tab (⟨some d,none,.len x⟩::l) ⟨t,ds,rd⟩ h Q:=
 WO.op _ _ rfl (by exact Xq hx s) k
theorem Ub {d:Nat}{x:Operand}{v:Value}{α:Type}{c:Nat}{R:Uz->List Value->α->Prop}{xs:List α}(hx:WE t x v)(s:Wx c R h v xs)(k:WO P tab l ⟨t.set d (I xs.length),ds,rd⟩ h Q):WO P tab (⟨some d,none,.len x⟩::l) ⟨t,ds,rd⟩ h Q:=
 WO.op _ _ rfl (by exact Xh hx s) k
theorem UU {d:Nat}{x y:Operand}{v:Value}{n:Int}{i:Nat}{xs:List Int}(hx:WE t x v)(hy:WE t y (I n))(hi:Bs n i)(s:WJ h v xs)(hl:i<xs.length)(k:WO P tab l ⟨t.set d (yI v i),ds,rd⟩ h Q):WO P tab (⟨some d,none,.idx 1 x y⟩::l) ⟨t,ds,rd⟩ h Q:=
 WO.op _ _ rfl (by unfold WE at hy;exact XU hx (by rw[hy];exact hi) s hl) k
theorem Uh {d:Nat}{x y:Operand}{v:Value}{n:Int}{i:Nat}{α:Type}{c:Nat}{R:Uz->List Value->α->Prop}{xs:List α}(hx:WE t x v)(hy:WE t y (I n))(hi:Bs n i)(s:Wx c R h v xs)(hl:i<xs.length)(k:WO P tab l ⟨t.set d (yI v (i * c)),ds,rd⟩ h Q):WO P tab (⟨some d,none,.idx c x y⟩::l) ⟨t,ds,rd⟩ h Q:=
 WO.op _ _ rfl (by unfold WE at hy;exact XS hx (by rw[hy];exact hi) s hl) k
theorem Xw {d:Nat}{x:Operand}{v:Value}{i:Nat}{xs:List Int}(hx:WE t x (yI v i))(s:WJ h v xs)(hl:i<xs.length)(k:WO P tab l ⟨t.set d (I (xs.getD i 0)),ds,rd⟩ h Q):WO P tab (⟨some d,none,.load false 1 x⟩::l) ⟨t,ds,rd⟩ h Q:=
 WO.op _ _ rfl (by exact XI hx s hl) k
theorem Ul {d:Nat}{x:Operand}{v r:Value}{j n off:Nat}{cs:List Value}(hx:WE t x (yI v (j+off)))(p:Wp h v j cs)(hn:0<n)(hr:(cut cs off n).bind (zH true)=some r)(k:WO P tab l ⟨t.set d r,ds,rd⟩ h Q):WO P tab (⟨some d,none,.load true n x⟩::l) ⟨t,ds,rd⟩ h Q:=
 WO.op _ _ rfl (by exact Wp.load hx p hn hr) k
theorem Un {d:Nat}{x:Operand}{v r:Value}{j n off:Nat}{cs:List Value}(hx:WE t x (yI v (j+off)))(p:Wp h v j cs)(hn:0<n)(hr:(cut cs off n).bind (zH false)=some r)(k:WO P tab l ⟨t.set d r,ds,rd⟩ h Q):WO P tab (⟨some d,none,.load false n x⟩::l) ⟨t,ds,rd⟩ h Q:=
 WO.op _ _ rfl (by exact Wp.load hx p hn hr) k
theorem UF {d:Nat}{x:Operand}{v r:Value}{j n:Nat}{cs:List Value}(hx:WE t x (yI v j))(p:Wp h v j cs)(hn:0<n)(hr:(cut cs 0 n).bind (zH true)=some r)(k:WO P tab l ⟨t.set d r,ds,rd⟩ h Q):WO P tab (⟨some d,none,.load true n x⟩::l) ⟨t,ds,rd⟩ h Q:=
 WO.op _ _ rfl (by exact Vp hx p hn hr) k
theorem Ue {d:Nat}{x:Operand}{v r:Value}{j n:Nat}{cs:List Value}(hx:WE t x (yI v j))(p:Wp h v j cs)(hn:0<n)(hr:(cut cs 0 n).bind (zH false)=some r)(k:WO P tab l ⟨t.set d r,ds,rd⟩ h Q):WO P tab (⟨some d,none,.load false n x⟩::l) ⟨t,ds,rd⟩ h Q:=
 WO.op _ _ rfl (by exact Vp hx p hn hr) k
theorem R.fldP {d:Nat}{x:Operand}{v:Value}{j off:Nat}(hx:WE t x (yI v j))(hv:zM5 v)(k:WO P tab l ⟨t.set d (yI v (j+off)),ds,rd⟩ h Q):WO P tab (⟨some d,none,.fld off x⟩::l) ⟨t,ds,rd⟩ h Q:=
 WO.op _ _ rfl (by exact Go.Am.fldP hx hv) k
theorem UA {d:Nat}{x:Operand}{p:Value}{off:Nat}{h0:Uz}{cs:List Value}(hx:WE t x p)(o:U3 h0 h p cs)(k:WO P tab l ⟨t.set d (zz p off),ds,rd⟩ h Q):WO P tab (⟨some d,none,.fld off x⟩::l) ⟨t,ds,rd⟩ h Q:=
 WO.op _ _ rfl (by exact XN hx o) k
theorem Ug {d:Nat}{x:Operand}{p:Value}{j off:Nat}{h0:Uz}{cs:List Value}(hx:WE t x (zz p j))(o:U3 h0 h p cs)(k:WO P tab l ⟨t.set d (zz p (j+off)),ds,rd⟩ h Q):WO P tab (⟨some d,none,.fld off x⟩::l) ⟨t,ds,rd⟩ h Q:=
 WO.op _ _ rfl (by exact U3.fld hx o) k
theorem Ua {d:Nat}{x y:Operand}{p:Value}{n:Int}{i len:Nat}{kk:IntKind}{h0:Uz}{cs:List Value}(hx:WE t x (zz p 0))(o:U3 h0 h p cs)(hy:WE t y (.int kk n))(hi:Bs n i)(hl:i<len)(k:WO P tab l ⟨t.set d (zz p i),ds,rd⟩ h Q):WO P tab (⟨some d,none,.idxArr len 1 x y⟩::l) ⟨t,ds,rd⟩ h Q:=
 WO.op _ _ rfl (by unfold WE at hx hy;have hi2:W4 (ev t y)=some i:=(by rw[hy];exact(by cases n<;>rfl:W4 (.int kk n)=W4 (I n)).trans hi);have:=U3.idxArr (P:=P) (ih:=Ex.bot) (c:=1) hx hi2 o hl;rwa [Q4,G2]at this) k
theorem UJ {d:Nat}{x y:Operand}{p:Value}{n:Int}{i len:Nat}{kk:IntKind}{h0:Uz}{cs:List Value}(hx:WE t x p)(o:U3 h0 h p cs)(hy:WE t y (.int kk n))(hi:Bs n i)(hl:i<len)(k:WO P tab l ⟨t.set d (zz p i),ds,rd⟩ h Q):WO P tab (⟨some d,none,.idxArr len 1 x y⟩::l) ⟨t,ds,rd⟩ h Q:=
 WO.op _ _ rfl (by unfold WE at hx hy;have hi2:W4 (ev t y)=some i:=(by rw[hy];exact(by cases n<;>rfl:W4 (.int kk n)=W4 (I n)).trans hi);have:=Vk (P:=P) (ih:=Ex.bot) (c:=1) hx hi2 o hl;rwa [G2]at this) k
theorem UL {d:Nat}{x y:Operand}{p:Value}{n:Int}{i j len:Nat}{kk:IntKind}{h0:Uz}{cs:List Value}(hx:WE t x (zz p j))(o:U3 h0 h p cs)(hy:WE t y (.int kk n))(hi:Bs n i)(hl:i<len)(k:WO P tab l ⟨t.set d (zz p (j+i)),ds,rd⟩ h Q):WO P tab (⟨some d,none,.idxArr len 1 x y⟩::l) ⟨t,ds,rd⟩ h Q:=
 WO.op _ _ rfl (by unfold WE at hx hy;have hi2:W4 (ev t y)=some i:=(by rw[hy];exact(by cases n<;>rfl:W4 (.int kk n)=W4 (I n)).trans hi);have:=U3.idxArr (P:=P) (ih:=Ex.bot) (c:=1) hx hi2 o hl;rwa [G2]at this) k
theorem UI {d:Nat}{x:Operand}{p:Value}{q:Nat}{xs:List Int}{h0:Uz}(hx:WE t x (zz p q))(o:U3 h0 h p (xs.map I))(hl:q<xs.length)(k:WO P tab l ⟨t.set d (I (xs.getD q 0)),ds,rd⟩ h Q):WO P tab (⟨some d,none,.load false 1 x⟩::l) ⟨t,ds,rd⟩ h Q:=
 WO.op _ _ rfl (by refine U3.load hx o ?_;have h1:(xs.map I).drop q=I xs[q]::(xs.map I).drop (q+1):=(by rw[GH (by simpa using hl),List.getElem_map]);have hc:cut (xs.map I) q 1=some [I (xs.getD q 0)]:=(by rw[ZK (by simp;omega),h1];simp[List.getD,QD hl]);rw[hc];rfl) k
theorem XG {d:Nat}{x:Operand}{p r:Value}{n:Nat}{h0:Uz}{cs:List Value}(hx:WE t x p)(o:U3 h0 h p cs)(hr:(cut cs 0 n).bind (zH true)=some r)(k:WO P tab l ⟨t.set d r,ds,rd⟩ h Q):WO P tab (⟨some d,none,.load true n x⟩::l) ⟨t,ds,rd⟩ h Q:=
 WO.op _ _ rfl (by exact Vh hx o hr) k
theorem XQ {d:Nat}{x:Operand}{p r:Value}{n:Nat}{h0:Uz}{cs:List Value}(hx:WE t x p)(o:U3 h0 h p cs)(hr:(cut cs 0 n).bind (zH false)=some r)(k:WO P tab l ⟨t.set d r,ds,rd⟩ h Q):WO P tab (⟨some d,none,.load false n x⟩::l) ⟨t,ds,rd⟩ h Q:=
 WO.op _ _ rfl (by exact Vh hx o hr) k
theorem XT {d:Nat}{x:Operand}{p r:Value}{n j:Nat}{h0:Uz}{cs:List Value}(hx:WE t x (zz p j))(o:U3 h0 h p cs)(hr:(cut cs j n).bind (zH true)=some r)(k:WO P tab l ⟨t.set d r,ds,rd⟩ h Q):WO P tab (⟨some d,none,.load true n x⟩::l) ⟨t,ds,rd⟩ h Q:=
 WO.op _ _ rfl (by exact U3.load hx o hr) k
theorem UO {d:Nat}{x:Operand}{p r:Value}{n j:Nat}{h0:Uz}{cs:List Value}(hx:WE t x (zz p j))(o:U3 h0 h p cs)(hr:(cut cs j n).bind (zH false)=some r)(k:WO P tab l ⟨t.set d r,ds,rd⟩ h Q):WO P tab (⟨some d,none,.load false n x⟩::l) ⟨t,ds,rd⟩ h Q:=
 WO.op _ _ rfl (by exact U3.load hx o hr) k
theorem Xu {d:Nat}{x:Operand}{off n:Nat}{r:Value}{cs:Array Value}(hx:WE t x (.agg cs))(hr:(cut cs.toList off n).bind (zH true)=some r)(k:WO P tab l ⟨t.set d r,ds,rd⟩ h Q):WO P tab (⟨some d,none,.part true off n x⟩::l) ⟨t,ds,rd⟩ h Q:=
 WO.op _ _ rfl (by unfold WE at *;simp only[U9,hx,hr,QK]) k
theorem R.part {d:Nat}{x:Operand}{off n:Nat}{r:Value}{cs:Array Value}(hx:WE t x (.agg cs))(hr:(cut cs.toList off n).bind (zH false)=some r)(k:WO P tab l ⟨t.set d r,ds,rd⟩ h Q):WO P tab (⟨some d,none,.part false off n x⟩::l) ⟨t,ds,rd⟩ h Q:=
 WO.op _ _ rfl (by unfold WE at *;simp only[U9,hx,hr,QK]) k
theorem UY {d:Nat}{len c g:Nat}{y:Operand}{n:Int}{i:Nat}{kk:IntKind}(hy:WE t y (.int kk n))(hi:Bs n i)(hl:i<len)(k:WO P tab l ⟨t.set d (.pointer (some ⟨g,0+i * c,none⟩)),ds,rd⟩ h Q):WO P tab (⟨some d,none,.idxArr len c (.global g) y⟩::l) ⟨t,ds,rd⟩ h Q:=
 WO.op _ _ rfl (by unfold WE at hy;have hb:Nat.ble (i+1) len=true:=QH hl;have hi2:W4 (ev t y)=some i:=(by rw[hy];exact(by cases n<;>rfl:W4 (.int kk n)=W4 (I n)).trans hi);simp only[U9,hi2];simp only[ev,hb,Q0,Q2,cond_true]) k
theorem UG {d:Nat}{x:Operand}{g off n:Nat}{r:Value}{cells:List Value}(hx:WE t x (.pointer (some ⟨g,off,none⟩)))(hg:z8 h g=some cells)(hr:(cut cells off n).bind (zH true)=some r)(k:WO P tab l ⟨t.set d r,ds,rd⟩ h Q):WO P tab (⟨some d,none,.load true n x⟩::l) ⟨t,ds,rd⟩ h Q:=
 WO.op _ _ rfl (by unfold WE at *;simp only[U9,hx,hg,Q0,cond_true,QS,hr,QK]) k
theorem R.agg {d:Nat}{zero:List Value}{parts:List (Nat×Nat×Operand)}{vs:List (Nat×Nat×Value)}{cells:List Value}(hp:Wv t parts vs)(hf:yx zero vs=some cells)(k:WO P tab l ⟨t.set d (.agg cells.toArray),ds,rd⟩ h Q):WO P tab (⟨some d,none,.build zero parts⟩::l) ⟨t,ds,rd⟩ h Q:=
 WO.op _ _ rfl (by unfold Wv at hp;simp only[U9,hp,hf,QK]) k
theorem Ut {d:Nat}{x:Operand}{a:Addr}(hx:WE t x (.pointer (some a)))(k:WO P tab l ⟨t.set d (.pointer (some a)),ds,rd⟩ h Q):WO P tab (⟨some d,none,.nilCheck x⟩::l) ⟨t,ds,rd⟩ h Q:=
 WO.op _ _ rfl (by unfold WE at *;simp only[U9,hx,Yp,QK]) k
theorem UV {d:Nat}{x:Operand}{m:Value}{es:List (Int×Int)}{h0:Uz}(hx:WE t x m)(o:Wz h0 h m es)(k:WO P tab l ⟨t.set d (I es.length),ds,rd⟩ h Q):WO P tab (⟨some d,none,.lenMap x⟩::l) ⟨t,ds,rd⟩ h Q:=
 WO.op _ _ rfl (by unfold WE at *;obtain⟨g,c,es',_,_,rfl,hg,he⟩:=o;have hl:es'.length=es.length:=(by have:=congrArg List.length he;simpa using this);simp only[U9,hx,hg,hl]) k
theorem Uv {d:Nat}{mm ky:Operand}{z m:Value}{a:Int}{es:List (Int×Int)}{h0:Uz}(hx:WE t mm m)(hk:WE t ky (I a))(o:Wz h0 h m es)(hl:es.lookup a=none)(k:WO P tab l ⟨t.set d (.tuple #[z,.bool false]),ds,rd⟩ h Q):WO P tab (⟨some d,none,.lookup true z mm ky⟩::l) ⟨t,ds,rd⟩ h Q:=
 WO.op _ _ rfl (by unfold WE at *;obtain⟨g,c,es',_,_,rfl,hg,he⟩:=o;simp only[U9,hx,hk,hg,zCx 0 he hl,Q3]) k
theorem Uq {d:Nat}{mm ky:Operand}{z m:Value}{a v:Int}{es:List (Int×Int)}{h0:Uz}(hx:WE t mm m)(hk:WE t ky (I a))(o:Wz h0 h m es)(hl:es.lookup a=some v)(k:WO P tab l ⟨t.set d (.tuple #[I v,.bool true]),ds,rd⟩ h Q):WO P tab (⟨some d,none,.lookup true z mm ky⟩::l) ⟨t,ds,rd⟩ h Q:=
 WO.op _ _ rfl (by unfold WE at *;obtain⟨g,c,es',_,_,rfl,hg,he⟩:=o;obtain⟨j,hj⟩:=zFv 0 he hl;simp only[U9,hx,hk,hg,hj,Q3]) k
theorem Ur {d:Nat}{f:FuncId}{xs ys:List Operand}{vs us:List Value}(hx:BF t xs vs)(hy:BF t ys us)(k:WO P tab l ⟨t.set d (.func (.func f) vs.toArray us.toArray),ds,rd⟩ h Q):WO P tab (⟨some d,none,.mkFunc (.func f) xs ys⟩::l) ⟨t,ds,rd⟩ h Q:=
 WO.op _ _ rfl (by unfold BF at *;simp only[U9,hx,hy]) k
theorem Uy {d:Option Nat}{j:Nat}{want b:Bool}{op:Wk}(s:Wg t j (.bool b))(hb:b=want)(k:WO P tab (⟨d,none,op⟩::l) ⟨t,ds,rd⟩ h Q):WO P tab (⟨d,some (j,want),op⟩::l) ⟨t,ds,rd⟩ h Q:=
 XK (hb▸s) k
theorem Uo {d j:Nat}{b:Bool}{op:Wk}(s:Wg t j (.bool b))(hb:b=false)(k:WO P tab l ⟨t.set d undef,ds,rd⟩ h Q):WO P tab (⟨some d,some (j,true),op⟩::l) ⟨t,ds,rd⟩ h Q:=by
 subst hb;exact Vw s k
theorem Uu {d j:Nat}{b:Bool}{op:Wk}(s:Wg t j (.bool b))(hb:b=true)(k:WO P tab l ⟨t.set d undef,ds,rd⟩ h Q):WO P tab (⟨some d,some (j,false),op⟩::l) ⟨t,ds,rd⟩ h Q:=by
 subst hb;exact Vw s k
theorem Ux {d j:Nat}{want:Bool}{op:Wk}(s:Wg t j undef)(k:WO P tab l ⟨t.set d undef,ds,rd⟩ h Q):WO P tab (⟨some d,some (j,want),op⟩::l) ⟨t,ds,rd⟩ h Q:=
 XO s k
theorem VH {d:Option Nat}{j:Nat}{want b:Bool}{op:Wk}(h1:b=true->WO P tab (⟨d,some (j,want),op⟩::l) ⟨t,ds,rd⟩ h Q)(h2:b=false->WO P tab (⟨d,some (j,want),op⟩::l) ⟨t,ds,rd⟩ h Q)(s:Wg t j (.bool b):=by exact Yg):
  WO P tab (⟨d,some (j,want),op⟩::l) ⟨t,ds,rd⟩ h Q:=by
 cases b with
 |true=>exact h1 rfl
 |false=>exact h2 rfl
theorem VA {d:Nat}{f:FuncId}{args:List Operand}{as:List Value}{R:Value->Uz->Prop}(hc:WC P tab f as h R)(k:∀ v h',R v h'->WO P tab l ⟨t.set d v,ds,rd⟩ h' Q)(ha:BF t args as:=by exact zKd):
  WO P tab (⟨some d,none,.call (.func f) args⟩::l) ⟨t,ds,rd⟩ h Q:=WO.call ha (hc.mono k)
theorem VN {d:Nat}{f:Operand}{fv:Value}{args:List Operand}{as:List Value}{R:Value->Uz->Prop}(hc:WV P tab fv as h R)(k:∀ v h',R v h'->WO P tab l ⟨t.set d v,ds,rd⟩ h' Q)(hf:WE t f fv:=by exact zL)(ha:BF t args as:=by exact zKd):
  WO P tab (⟨some d,none,.call f args⟩::l) ⟨t,ds,rd⟩ h Q:=XV hf ha (hc.mono k)
theorem WO.al {d:Nat}{zero:List Value}(k:∀ p h',U5 h h'->U3 h h' p zero->WO P tab l ⟨t.set d p,ds,rd⟩ h' Q):WO P tab (⟨some d,none,.alloc zero⟩::l) ⟨t,ds,rd⟩ h Q:=XM k
theorem VG {x y:Operand}{p v:Value}{cells cs:List Value}{n:Nat}{h0:Uz}(o:U3 h0 h p cells)(e0:U5 h0 h)(k:∀ h',U5 h0 h'->U3 h0 h' p cs->Wb p h h'->WO P tab l ⟨t,ds,rd⟩ h' Q)
  (hx:WE t x p:=by exact zL) (hy:WE t y v:=by exact zL) (hv:v.cells=cs.toArray:=by rfl) (hn:cs.length=n:=by rfl) (hl:cells.length=n:=by rfl) (h1:zJ cs=true:=by rfl):WO P tab (⟨none,none,.store n x y⟩::l) ⟨t,ds,rd⟩ h Q:=
 V9 hx hy hv h1 hn o e0 hl k
theorem VZ {x y:Operand}{p v:Value}{cells cs:List Value}{n j:Nat}{h0:Uz}(o:U3 h0 h p cells)(e0:U5 h0 h)(k:∀ h',U5 h0 h'->U3 h0 h' p (za cells j cs)->Wb p h h'->WO P tab l ⟨t,ds,rd⟩ h' Q)
  (hx:WE t x (zz p j):=by exact zL) (hy:WE t y v:=by exact zL) (hv:v.cells=cs.toArray:=by rfl) (hn:cs.length=n:=by rfl) (hl:j+n<=cells.length:=by decide) (h1:zJ cs=true:=by rfl):WO P tab (⟨none,none,.store n x y⟩::l) ⟨t,ds,rd⟩ h Q:=
 Vl hx hy hv h1 hn o e0 hl k
theorem WO.bl {d n:Nat}{zero:List Value}{parts:List (Nat×Nat×Operand)}{vs:List (Nat×Nat×Value)}(xs:List Int)(k:∀ v h',U5 h h'->Wc h h' v xs->WO P tab l ⟨t.set d v,ds,rd⟩ h' Q)
  (hp:Wv t parts vs:=by (repeat (apply Wv.cons;(exact zL)));exact Wv.nil) (hn:xs.length=n:=by rfl) (hf:yx (zW zero n) vs=some (xs.map I):=by rfl):WO P tab (⟨some d,none,.buildSlice n 1 zero parts⟩::l) ⟨t,ds,rd⟩ h Q:=
 XL xs hn (by unfold Wv at hp;rw[hp];exact hf) k
theorem Vb {d:Nat}{x y:Operand}{v w:Value}{xs ys:List Int}{h0:Uz}(o:WH h0 h v xs)(s:WJ h w ys)(e0:U5 h0 h)(hr:xs.length+ys.length<=4294967296)(k:∀ v' h',U5 h0 h'->WH h0 h' v' (xs++ys)->WO P tab l ⟨t.set d v',ds,rd⟩ h' Q)
  (hx:WE t x v:=by exact zL) (hy:WE t y w:=by exact zL):WO P tab (⟨some d,none,.append 1 x y⟩::l) ⟨t,ds,rd⟩ h Q:=by
 by_cases hne:ys=[]
 ·subst hne;have hsrc:yi 1 h w=some []:=by simpa using Z2 s
  have hv:∃ a n k,v= .slice a n k/\(a=none->n=0/\k=0):=by
   rcases o with ⟨rfl,_⟩|⟨g,_,_,rfl,_⟩
   ·exact⟨_,_,_,rfl,fun _=>⟨rfl,rfl⟩⟩
   ·exact⟨_,_,_,rfl,fun h=>by cases h⟩
  refine WO.op v h rfl ?_ (k v h e0 (by simpa using o));unfold WE at hx hy;obtain⟨a,n,kk,rfl,ha⟩:=hv;cases a with
  |none=>obtain⟨rfl,rfl⟩:=ha rfl;simp only[U9,hx,hy,yT,hsrc]
  |some a=>simp only[U9,hx,hy,yT,hsrc]
 ·exact V7 hx hy o s e0 hne hr fun v' h' a b _=>k v' h' a (.inr b)
theorem Vs {d:Nat}{op:BinOp}{ty:TypeId}{x y:Operand}{a b v:Value}(hp:zT P (do eqGuard op ty x y a b;binOp op ty a b)=some v)(k:WO P tab l ⟨t.set d v,ds,rd⟩ h Q)
  (hx:WE t x a:=by exact zL) (hy:WE t y b:=by exact zL) (hc:(Ym a&&Ym b)=true:=by rfl) (hv:yO v=true:=by rfl):WO P tab (⟨some d,none,.binP op ty x y⟩::l) ⟨t,ds,rd⟩ h Q:=by
 unfold WE at hx hy;refine WO.op v h rfl ?_ k;simp only[U9,hx,hy,hc,cond_true,hp,hv]
def zVe (M:U4 Value->Uz->Prop)(ds:List Deferred)(rd:Option Nat):WA->Uz->Prop:=fun fr h=>fr.dfs=ds/\fr.round=rd/\M fr.tm h
theorem zBm {ih:Ex}:∀ (a b:List U1) (fr:WA) (h:Uz),yR P ih (a++b) fr h=(yR P ih a fr h).bind fun p=>yR P ih b p.1 p.2
 |[],b,fr,h=>rfl
 |o::a,b,fr,h=>by
  simp only[G5,yR];cases yD P ih o fr h with
  |none=>rfl
  |some p=>obtain⟨fr1,h1⟩:=p;exact zBm a b fr1 h1
theorem VU (n:Nat)(M:U4 Value->Uz->Prop){ws:List Nat}(h1:WO P tab (l.take n) ⟨t,ds,rd⟩ h (zVe M ds rd))(h2:∀ t' h',zCE ws t t'->M t' h'->WO P tab (l.drop n) ⟨t',ds,rd⟩ h' Q)(hw:(l.take n).filterMap (·.dst)=ws:=by rfl):WO P tab l ⟨t,ds,rd⟩ h Q:=by
 subst hw;unfold WO at h1;obtain⟨fr1,h',⟨q1,q2,q3⟩,ev1⟩:=h1;obtain⟨t1,ds1,rd1⟩:=fr1;simp only at q1 q2 q3;subst q1 q2;have hs:zCE ((l.take n).filterMap (·.dst)) t t1:=by
  intro j hj;obtain⟨N,a⟩:=(show ∃ N,∀ n',N<=n'->_ from by unfold Ev at ev1;exact ev1);exact zCR (a N (QE _)) (fun hm=>by
   have:=ZI hj;rw[List.contains_eq_mem,Gm]at this;exact this hm)
 have:=h2 t1 h' hs q3;unfold WO at this |-;obtain⟨fr2,h2',q,ev2⟩:=this;refine⟨fr2,h2',q,(ev1.and ev2).mono fun k ⟨e1,e2⟩=> ?_⟩;rw[<-GK n l,zBm,e1];exact e2
theorem Vj {d c i:Nat}{x y:Operand}{v r:Value}(hr:Zl c v (some i) none none=some r)(k:WO P tab l ⟨t.set d r,ds,rd⟩ h Q)(hx:WE t x v:=by exact zL)(hy:WE t y (I (i:Int)):=by exact zL):
  WO P tab (⟨some d,none,.slice c x (some y) none none⟩::l) ⟨t,ds,rd⟩ h Q:=by
 unfold WE at hx hy;refine WO.op r h rfl ?_ k;have:W4 (I (i:Int))=some i:=rfl;simp only[U9,Bj,hx,hy,this,QK,hr]
theorem Vz {d c i:Nat}{x y:Operand}{v r:Value}(hr:Zl c v none (some i) none=some r)(k:WO P tab l ⟨t.set d r,ds,rd⟩ h Q)(hx:WE t x v:=by exact zL)(hy:WE t y (I (i:Int)):=by exact zL):
  WO P tab (⟨some d,none,.slice c x none (some y) none⟩::l) ⟨t,ds,rd⟩ h Q:=by
 unfold WE at hx hy;refine WO.op r h rfl ?_ k;have:W4 (I (i:Int))=some i:=rfl;simp only[U9,Bj,hx,hy,this,QK,hr]
theorem Ud {c:Nat}{zero:List Value}{x:Operand}{v:Value}{h':Uz}(hr:zBX c zero v h=some (.tuple #[],h'))(k:WO P tab l ⟨t,ds,rd⟩ h' Q)(hx:WE t x v:=by exact zL):
  WO P tab (⟨none,none,.clearS c zero x⟩::l) ⟨t,ds,rd⟩ h Q:=by
 unfold WE at hx;exact VS (.tuple #[]) h' rfl (by simp only[U9,hx,hr]) k
theorem VI {d:Nat}{x:Operand}{v:Value}(k:∀ p h',U5 h h'->U3 h h' p v.cells.toList->WO P tab l ⟨t.set d p,ds,rd⟩ h' Q)(hx:WE t x v:=by exact zL):
  WO P tab (⟨some d,none,.box x⟩::l) ⟨t,ds,rd⟩ h Q:=UP v.cells.toList (by unfold WE at hx;rw[hx]) k
theorem US {c:Operand}{x y:U0}{K:U8->WA->Uz->Prop}{b:Bool}(s:WE t c (.bool b))(hb:b=true)(h1:WX P tab x ⟨t,ds,rd⟩ h K):WX P tab (.cond c x y) ⟨t,ds,rd⟩ h K:=
 Xp (hb▸s) h1
theorem UQ {c:Operand}{x y:U0}{K:U8->WA->Uz->Prop}{b:Bool}(s:WE t c (.bool b))(hb:b=false)(h1:WX P tab y ⟨t,ds,rd⟩ h K):WX P tab (.cond c x y) ⟨t,ds,rd⟩ h K:=
 XR (hb▸s) h1
theorem VE {c:Operand}{x y:U0}{K:U8->WA->Uz->Prop}{b:Bool}(h1:b=true->WX P tab x ⟨t,ds,rd⟩ h K)(h2:b=false->WX P tab y ⟨t,ds,rd⟩ h K)(s:WE t c (.bool b):=by exact zL):WX P tab (.cond c x y) ⟨t,ds,rd⟩ h K:=
 WX.cond b s h1 h2
theorem U7 {k:Nat}{v:Value}(s:Wg t k v:=by (repeat (first|((with_reducible apply VX);rfl)|((with_reducible apply Wg.same);(with_reducible assumption);rfl)));first|with_reducible exact Wg.here|with_reducible assumption|(unfold Wg;with_reducible assumption)|exact Wg.here):zB t k=v:=s
theorem Wo {k i:Nat}(s:Wg t k (I ((i:Int)+1)):=by (repeat (first|((with_reducible apply VX);rfl)|((with_reducible apply Wg.same);(with_reducible assumption);rfl)));first|with_reducible exact Wg.here|with_reducible assumption|(unfold Wg;with_reducible assumption)|exact Wg.here):zB t k=I ((i+1:Nat):Int):=s
def BC (h:Uz)(t:U4 Value)(rs:List (Nat×Option (Bool×Nat)))(vs:List Value):Prop:=z0 h t rs=some vs
theorem BC.nil:BC h t [] []:=rfl
theorem BC.cons {j:Nat}{v:Value}{rs:List (Nat×Option (Bool×Nat))}{vs:List Value}(s:Wg t j v)(k:BC h t rs vs):BC h t ((j,none)::rs) (v::vs):=by
 unfold BC at *;unfold Wg at s;simp only[z0,YY,s,k]
theorem Vo {j n:Nat}{p v:Value}{h0:Uz}{cs:List Value}{rs:List (Nat×Option (Bool×Nat))}{vs:List Value}(s:Wg t j p)(o:U3 h0 h p cs)(hr:(cut cs 0 n).bind (zH true)=some v)(k:BC h t rs vs):BC h t ((j,some (true,n))::rs) (v::vs):=by
 obtain⟨g,_,_,rfl,hg⟩:=o;unfold BC at *;unfold Wg at s;simp only[z0,YY,s,Zi hg,Q0,cond_true,QS,hr,k]
theorem rt {rs:List (Nat×Option (Bool×Nat))}{Q:Value->Uz->Prop}{vs:List Value}(hq:Q (one vs) h)(r:BC h t rs vs:=by (repeat (first|(apply BC.cons;(exact Yg))|(apply Vo;(exact Yg);(with_reducible assumption);(exact zJJ))));exact BC.nil):zEr P tab rs Q .ret ⟨t,[],rd⟩ h:=zNW r hq
theorem W5 {rs:List (Nat×Option (Bool×Nat))}{Q:Value->Uz->Prop}{vs:List Value}(hq:Q (one vs) h)(r:BC h t rs vs:=by (repeat (first|(apply BC.cons;(exact Yg))|(apply Vo;(exact Yg);(with_reducible assumption);(exact zJJ))));exact BC.nil):zEr P tab rs Q .normal ⟨t,[],rd⟩ h:=zII r hq
theorem VD (ws:List Nat){α:Type}{b:U0}{K:U8->WA->Uz->Prop}(hw:yA b=ws)(μ:α->Nat)(I:α->U4 Value->Uz->Prop)(x:α)(h0:I x t h)
  (hb:∀ x t' h',zCE ws t t'->I x t' h'->WX P tab b ⟨t',ds,rd⟩ h' (zCn μ I x ds rd K)):WX P tab (.loop b) ⟨t,ds,rd⟩ h K:=
 Xb μ I x h0 fun x t' h' hs hi=>hb x t' h' (fun j hj=>hs j (by rw[hw];exact ZI hj)) hi
structure Wrap (G:Prop):Prop where
 out:G
theorem go {G' G:Prop}(k:G')(r:Wrap G'->G:=by
  intro hgo;repeat (first|refine WX.seq ?_|refine WX.region ?_|(apply R.mov;(exact zL))|(apply R.add;(exact zL);(exact zL);(omega);(omega))|(apply R.sub;(exact zL);(exact zL);(omega);(omega))|(apply R.mul;(exact zL);(exact zL);(omega);(omega))|(apply R.lss;(exact zL);(exact zL))|(apply R.leq;(exact zL);(exact zL))|(apply R.gtr;(exact zL);(exact zL))|(apply R.geq;(exact zL);(exact zL))|(apply R.eql;(exact zL);(exact zL))|(apply R.neq;(exact zL);(exact zL))|(apply R.not;(exact zL))|(apply Us;(exact zL);(exact zL))|(apply Up;(exact zL);(exact zL))|(apply Xe;(exact zL);(omega);(omega))|(apply R.conv;(exact zL))|(apply Xy;(exact zL);(exact zGf);(exact zL))|(apply Xx;(exact zL);(exact zGf);(exact zL))|(apply XW;(exact zL))|(apply XZ;(exact zL))|(apply Xg;(exact zL))|(apply Xn;(exact zL))|(apply Xs;(exact zL))|(apply Xj;(exact zL))|(apply Xl;(exact zL))|(apply Xr;(exact zL))|(apply XY;(exact zL))|(apply R.lenC)|(apply R.nil;(exact zL);(rfl))|(apply Uf;(exact zL);(exact zUU))|(apply Ub;(exact zL);(with_reducible assumption))|(apply UU;(exact zL);(exact zL);(exact zK9);(exact zUU);(exact zIN))|(apply Uh;(exact zL);(exact zL);(exact zK9);(with_reducible assumption);(exact zIN))|(apply Xw;(exact zL);(exact zUU);(exact zIN))|(apply Ul;(exact zL);(with_reducible assumption);(decide);(exact zJJ))|(apply Un;(exact zL);(with_reducible assumption);(decide);(rfl))|(apply UF;(exact zL);(with_reducible assumption);(decide);(exact zJJ))|(apply Ue;(exact zL);(with_reducible assumption);(decide);(rfl))|(apply R.fldP;(exact zL);(with_reducible assumption))|(apply UA;(exact zL);(with_reducible assumption))|(apply Ug;(exact zL);(with_reducible assumption))|(apply Ua;(exact zL);(with_reducible assumption);(exact zL);(exact zK9);(exact zIN))|(apply UJ;(exact zL);(with_reducible assumption);(exact zL);(exact zK9);(exact zIN))|(apply UL;(exact zL);(with_reducible assumption);(exact zL);(exact zK9);(exact zIN))|(apply UI;(exact zL);(with_reducible assumption);(exact zIN))|(apply XG;(exact zL);(with_reducible assumption);(exact zJJ))|(apply XQ;(exact zL);(with_reducible assumption);(rfl))|(apply XT;(exact zL);(with_reducible assumption);(exact zJJ))|(apply UO;(exact zL);(with_reducible assumption);(rfl))|(apply Xu;(exact zL);(exact zJJ))|(apply R.part;(exact zL);(rfl))|(apply UY;(exact zL);(exact zK9);(exact zIN))|(apply UG;(exact zL);(with_reducible assumption);(with_reducible assumption))|(apply R.agg;((repeat (apply Wv.cons;(exact zL)));exact Wv.nil);(exact zVX))|(apply Ut;(exact zL))|(apply UV;(exact zL);(with_reducible assumption))|(apply Uv;(exact zL);(exact zL);(with_reducible assumption);(with_reducible assumption))|(apply Uq;(exact zL);(exact zL);(with_reducible assumption);(with_reducible assumption))|(apply Ur;(exact zKd);(exact zKd))|(apply Uy;(exact Yg);(exact zGf))|(apply Uo;(exact Yg);(exact zGf))|(apply Uu;(exact Yg);(exact zGf))|(apply Ux;(exact Yg))|refine WO.nil ?_|refine Z9 ?_|refine WX.skip ?_|refine WX.block ?_|refine WX.exit ?_|refine zDH ?_|refine zBd ?_|refine zEY ?_|refine zBF rfl ?_|refine zEU ?_|refine WX.ret ?_|refine zF3 ?_|refine zEo ?_|refine zGA ?_|(apply US;(exact zL);(exact zGf))|(apply UQ;(exact zL);(exact zGf))|refine WX.label ?_|refine WX.goto ?_|refine zEP ?_|refine zDP ?_|refine zEZ ?_|refine Vd rfl ?_)
  exact hgo.out):G:=r ⟨k⟩
theorem gr {G' G:Prop}(k:G')(r:Wrap G'->G:=by
  intro hgo;refine go ?_;refine rt ?_;exact hgo.out):G:=r ⟨k⟩
theorem goC {G' G:Prop}(k:G')(r:Wrap G'->G:=by
  intro hgo;repeat (first|refine WX.seq ?_|refine WX.region ?_|refine WO.nil ?_|refine Z9 ?_|refine WX.skip ?_|refine WX.block ?_|refine WX.exit ?_|refine zDH ?_|refine zBd ?_|refine zEY ?_|refine zBF rfl ?_|refine zEU ?_|refine WX.ret ?_|refine zF3 ?_|refine zEo ?_|refine zGA ?_|(apply US;(exact zL);(exact zGf))|(apply UQ;(exact zL);(exact zGf))|refine WX.label ?_|refine WX.goto ?_|refine zEP ?_|refine zDP ?_|refine zEZ ?_|refine Vd rfl ?_)
  exact hgo.out):G:=r ⟨k⟩
end
section
variable {P:Program}
theorem zO {α β:Type}(x:Sem α)(f:α->Sem β):zT P (x>>=f)=(zT P x).bind fun a=>zT P (f a):=by
 show zT P (x.bind f)=_;induction x with
 |pure a=>rfl
 |program k ih=>simp only[Sem.bind,zT];exact ih _
 |mark m k ih=>simp only[Sem.bind,zT];exact ih
 |_=>simp[Sem.bind,zT]
theorem zGN {α:Type}(a:α):zT P (pure a)=some a:=rfl
theorem yv:zT P program=some P:=rfl
theorem yq {t:TypeId}{d:TypeDesc}(h:P.underlying t=some d):zT P (underlying t)=some d:=by
 unfold underlying;rw[zO,yv];simp only[QS,h];rfl
def zFj:Value->Value->Bool
 | .int _ a,.int _ b=>a == b
 | .bool a,.bool b=>a == b
 |_,_=>false
def zPB (P:Program)(f:Field):Value->Value->Bool
 | .int k _,.int k' _=>decide (k=k')&&(match P.underlying f.type with|some (.int _)=>true|_=>false)
 | .bool _,.bool _=>(match P.underlying f.type with|some .bool=>true|_=>false)
 |_,_=>false
def zEI (P:Program):List Field->Nat->List Value->List Value->Bool
 |[],_,[],[]=>true
 |f::fs,i,x::xs,y::ys=>(f.name != "_")&&Nat.beq f.offset i&&(match zT P (isAgg f.type)with|some false=>true|_=>false)&&zPB P f x y&&zEI P fs (i+1) xs ys
 |_,_,_,_=>false
def zCV:List Value->List Value->Bool
 |x::xs,y::ys=>zFj x y&&zCV xs ys
 |_,_=>true
theorem zK7 {f:Field}{x y:Value}{d:Nat}(h:zPB P f x y=true):zT P (Op.equalIn (d+1) f.type x y)=some (zFj x y):=by
 unfold zPB at h;split at h
 ·rename_i k a k' b;rw[QF]at h;obtain⟨h1,h2⟩:=h;have h1:=of_decide_eq_true h1;subst h1;split at h2;case h_2=>cases h2
  rename_i k2 hu;rw[Op.equalIn,zO,yq hu];simp only[QS,Q3];rfl
 ·split at h;case h_2=>cases h
  rename_i hu;rw[Op.equalIn,zO,yq hu];simp only[QS];rfl
 ·cases h
theorem zCP {t:TypeId}{cs:Array Value}{off:Nat}{v:Value}(h:(match zT P (isAgg t)with|some false=>true|_=>false)=true)(hv:cs[off]?=some v):zT P (part t cs off)=some v:=by
 have h':zT P (isAgg t)=some false:=by
  split at h
  ·assumption
  ·cases h
 unfold part;rw[zO,h'];simp only[QS,hv];rfl
theorem zRK {xs ys:Array Value}{n d:Nat}(hn:n=d+1):∀ (l:List Field) (i:Nat) (us vs:List Value),zEI P l i us vs=true->(∀ j,xs[i+j]?=us[j]?)->(∀ j,ys[i+j]?=vs[j]?)->
  zT P (do
   let s <-(forIn l (none,()) fun f (__s:Option Bool×Unit)=>
          if f.name≠ "_" then do
           let __do_lift <-part f.type xs f.offset
           let __do_lift_1 <-part f.type ys f.offset
           let __do_lift <-Op.equalIn n f.type __do_lift __do_lift_1
           if (!__do_lift)=true then pure (ForInStep.done (some false,()))
            else pure (ForInStep.yield (none,()))
          else pure (ForInStep.yield (none,())):Sem (Option Bool×Unit))
   match s.fst with
        |some r=>pure r
        |none=>pure true)=some (zCV us vs):=by
 intro l;induction l with
 |nil=>
  intro i us vs hk _ _;cases us with
  |cons _ _=>cases hk
  |nil=>cases vs with
   |cons _ _=>cases hk
   |nil=>rfl
 |cons f l ih=>
  intro i us vs hk hx hy;cases us with
  |nil=>cases hk
  |cons u us=>cases vs with
   |nil=>cases hk
   |cons v vs=>
   simp only[zEI,QF]at hk;obtain⟨⟨⟨⟨k1,k2⟩,k3⟩,k4⟩,k5⟩:=hk;have hoff:=QI k2;have hname:f.name≠ "_":=by simpa using k1
   have hxu:xs[f.offset]?=some u:=by rw[hoff];simpa using hx 0
   have hyv:ys[f.offset]?=some v:=by rw[hoff];simpa using hy 0
   have ihl:=ih (i+1) us vs k5 (fun j=>by have:=hx (j+1);rw[List.getElem?_cons_succ]at this;rw[<-this];congr 1;omega) (fun j=>by have:=hy (j+1);rw[List.getElem?_cons_succ]at this;rw[<-this];congr 1;omega);have heq:zT P (Op.equalIn n f.type u v)=some (zFj u v):=by rw[hn];exact zK7 k4
   rw[List.forIn_cons];simp only[bind_assoc,zO,QJ hname,zCP k3 hxu,zCP k3 hyv,QS,heq];cases he:zFj u v with
   |false=>simp only[zCV,he,Qf];rfl
   |true=>
    simp only[zCV,he,Qc];rw[<-ihl,zO];rfl
theorem zLj {t:TypeId}{fs:Array Field}{xs ys:Array Value}{x y:Operand}(ht:P.underlying t=some (.struct fs))(hs:P.stoodInHeld t=false)(hg:P.eqGuardType P.depth t=false)(hk:zEI P fs.toList 0 xs.toList ys.toList=true):
  zT P (do eqGuard .eql t x y (.agg xs) (.agg ys);binOp .eql t (.agg xs) (.agg ys))=some (.bool (zCV xs.toList ys.toList)):=by
 have h1:zT P (eqGuard .eql t x y (.agg xs) (.agg ys))=some ():=by
  unfold eqGuard;simp only[QY,Qn,Gi];rw[zO,yv];simp only[QS];rw[zO,yv];simp only[QS,hg,Qe,Q3];rfl
 rw[zO,h1];simp only[QS];unfold binOp;simp only[];rw[zO];have h2:zT P (Op.equal t (.agg xs) (.agg ys))=some (zCV xs.toList ys.toList):=by
  unfold Op.equal Op.maxDepth;rw[show (10000:Nat)=9999+1 from rfl,Op.equalIn,zO,yq ht];simp only[QS];rw[zO,yv];simp only[QS,hs,Qn,Gi];have:=zRK (P:=P) (xs:=xs) (ys:=ys) (n:=9999) (d:=9998) rfl fs.toList 0 xs.toList ys.toList hk (fun j=>by simp) (fun j=>by simp);rw[<-this,<-Array.forIn_toList,zO,zO];congr 1;funext s;obtain⟨a,_⟩:=s;cases a<;>rfl
 rw[h2];rfl
def chk (P:Program)(t:TypeId)(xs ys:List Value):Bool:=
 (match P.underlying t with|some (.struct fs)=>zEI P fs.toList 0 xs ys|_=>false)&& !P.stoodInHeld t&& !P.eqGuardType P.depth t
theorem zIx {t:TypeId}{xs ys:Array Value}{x y:Operand}{b:Bool}(h:chk P t xs.toList ys.toList=true)(hb:zCV xs.toList ys.toList=b):zT P (do eqGuard .eql t x y (.agg xs) (.agg ys);binOp .eql t (.agg xs) (.agg ys))=some (.bool b):=by
 subst hb;unfold chk at h;simp only[QF,Gb]at h;obtain⟨⟨h1,h2⟩,h3⟩:=h;split at h1;case h_2=>cases h1
 rename_i fs hu;exact zLj hu h2 h3 h1
end
section
variable {P:Program}
end
section
variable {P:Program}{tab:Wd}
def okU (m N0:Nat)(un:List Nat)(cl:Bool)(t:U4 Value)(o:U1)(h h':Uz):Prop:=
 (∀ g∈h'.wr,m<=g)/\h.n<=h'.n/\(un=[]\/(cl=true/\h'.wr=[]/\∀ g,zX t o=some g->g<N0))
def WN (P:Program)(tab:Wd)(m N0:Nat):List (U1×List Nat)->Nat->Bool->WA->Uz->(WA->Uz->Prop)->Prop
 |[],_,_,fr,h,Q=>Q fr h
 |(o,un)::l,g,cl,fr,h,Q=>
  if Nat.beq (zE o.op) 3=true then
   un=[]/\((zP fr.tm o.guard=true/\m<=g/\∃ ob f,yb fr.tm o.op=some (ob,f)/\WN P tab m N0 l (g+1) false (val o.dst fr (f g)) ((inC h).lay g ob) Q)\/
    (zP fr.tm o.guard=false/\WN P tab m N0 l (g+1) cl (val o.dst fr undef) (inC h) Q))
  else WO P tab [o] fr (inC h) fun fr' h'=>okU m N0 un cl fr.tm o h h'/\WN P tab m N0 l g (cl&&h'.wr.isEmpty) fr' h' Q
theorem zK4 {m N0:Nat}{un:List Nat}{cl:Bool}{t:U4 Value}{o:U1}{h h':Uz}(hk:okU m N0 un cl t o h h'){ws:List (Nat×Nat)}(hw:cl=true->ws=[]){bs:List (Nat×Nat)}(hb:∀ e∈bs,N0<=e.2)(rs:List (Nat×Nat×Option (Nat×Nat×List Value))):
  ((match zX t o with
   |some g=>(ws.all fun x=> !(Nat.beq g x.2&&un.contains x.1))&&bs.all fun x=> !un.contains x.1||Nat.ble (g+1) x.2
   |none=>true)&&rs.all fun x=> !(un.contains x.1&&h'.wr.contains x.2.1)||zBg h' x.2.1 x.2.2)=true:=by
 obtain⟨_,_,rfl|⟨h1,h2,h3⟩⟩:=hk
 ·exact zJL o ws rs bs t h'
 ·rw[hw h1,h2];have e2:(rs.all fun x=> !(un.contains x.1&&([]:List Nat).contains x.2.1)||zBg h' x.2.1 x.2.2)=true:=by simp
  rw[e2,Qh];cases hr:zX t o with
  |none=>rfl
  |some g=>
   have hg:=h3 g hr;simp only[List.all_nil,Qc];rw[QV];intro x hx;have:Nat.ble (g+1) x.2=true:=QH (QG hg (hb x hx));rw[this,Qt]
theorem WN.run {m N0:Nat}:∀ {ops:List (U1×List Nat)} {g:Nat} {cl:Bool} {fr:WA} {h:Uz} {Q:WA->Uz->Prop},N0<=h.n->WN P tab m N0 ops g cl fr h Q->
  ∃ fr' h',Q fr' h'/\∀ (i:Nat) (ws:List (Nat×Nat)) (rs:List (Nat×Nat×Option (Nat×Nat×List Value))) (bs:List (Nat×Nat)),(∀ e∈ws,m<=e.2)->(cl=true->ws=[])->(∀ e∈bs,N0<=e.2)->
   ∃ ws',(∀ e∈ws',m<=e.2)/\Ev fun n=>zu P (Ws P tab n) ops i g ws rs bs fr h=some (fr',h',ws'):=by
 intro ops;induction ops with
 |nil=>intro g cl fr h Q _ hx;exact⟨fr,h,hx,fun i ws rs bs hw _ _=>⟨ws,hw,Ev.all fun n=>rfl⟩⟩
 |cons x ops ihl=>
  intro g cl fr h Q hn hx;obtain⟨o,un⟩:=x;simp only[WN]at hx;have go:∀ {g':Nat} {cl':Bool} {fr1:WA} {h1:Uz},(g'=bif Nat.beq (zE o.op) 3 then g+1 else g)->(cl'=true->cl=true/\h1.wr=[])->(Ev fun n=>zv P (Ws P tab n) g o fr (inC h)=some (fr1,h1))->okU m N0 un cl fr.tm o h h1->WN P tab m N0 ops g' cl' fr1 h1 Q->
    ∃ fr' h',Q fr' h'/\∀ (i:Nat) (ws:List (Nat×Nat)) (rs:List (Nat×Nat×Option (Nat×Nat×List Value))) (bs:List (Nat×Nat)),(∀ e∈ws,m<=e.2)->(cl=true->ws=[])->(∀ e∈bs,N0<=e.2)->
     ∃ ws',(∀ e∈ws',m<=e.2)/\Ev fun n=>zu P (Ws P tab n) ((o,un)::ops) i g ws rs bs fr h=some (fr',h',ws'):=by
   intro g' cl' fr1 h1 hg hcl ev hk hx;obtain⟨fr',h',q,run⟩:=ihl (QO hn hk.2.1) hx;refine⟨fr',h',q,fun i ws rs bs hws hwc hbs=> ?_⟩;obtain⟨ws',w1,w2⟩:=run (i+1) (h1.wr.map (fun g=>(i,g))++ws) (match zX fr.tm o with
     |some g=>(i,g,Yc fr.tm h o.op)::rs
     |none=>rs) ((i,h.n)::bs) (fun e he=>by
      rcases Qj.1 he with he|he
      ·obtain⟨y,hy,rfl⟩:=Q6.1 he;exact hk.1 y hy
      ·exact hws e he) (fun hc=>by
      obtain⟨c1,c2⟩:=hcl hc;rw[hwc c1,c2];rfl) (fun e he=>by
      rcases GL.1 he with rfl|he
      ·exact hn
      ·exact hbs e he)
   refine⟨ws',w1,(ev.and w2).mono fun n ⟨e1,e2⟩=> ?_⟩;simp only[zu];have e1':zv P (Ws P tab n) g o fr {h with mark:=h.n,wr:=[]}=some (fr1,h1):=e1;rw[e1'];have hok:=zK4 hk hwc hbs rs;exact(congrArg (fun b:Bool=>bif b then zu P (Ws P tab n) ops (i+1) (bif Nat.beq (zE o.op) 3 then g+1 else g) (h1.wr.map (fun g=>(i,g))++ws) (match zX fr.tm o with
     |some g=>(i,g,Yc fr.tm h o.op)::rs
     |none=>rs) ((i,h.n)::bs) fr1 h1 else none) hok).trans (by rw[cond_true,<-hg];exact e2)
  by_cases hk:Nat.beq (zE o.op) 3=true
  ·rw[QJ hk]at hx;obtain⟨rfl,⟨hw,hm,ob,f,hmade,hx⟩|⟨hw,hx⟩⟩:=hx;case inr=>
    refine go (g':=g+1) (cl':=cl) (by rw[hk];rfl) (fun h=>⟨h,rfl⟩) (Ev.all fun n=> ?_) (h1:=inC h) ⟨fun x hx=>(by cases hx),(show h.n<=h.n from QE _),.inl rfl⟩ hx;unfold zv;simp only[hk,hw,cond_true,QR]
   refine go (g':=g+1) (cl':=false) (by rw[hk];rfl) (fun h=>by cases h) (Ev.all fun n=> ?_) (h1:=(inC h).lay g ob) ⟨fun x hx=> ?_,(show h.n<=h.n from QE _),.inl rfl⟩ hx
   ·unfold zv;simp only[hk,hw,hmade,cond_true]
   ·rcases y9 hx with rfl|hx
    ·exact hm
    ·cases hx
  ·rw[QB hk]at hx;have hk':Nat.beq (zE o.op) 3=false:=by cases hb:Nat.beq (zE o.op) 3 with
    |false=>rfl
    |true=>exact absurd hb hk
   unfold WO at hx;obtain⟨fr1,h1,⟨q1,q2⟩,ev⟩:=hx;refine go (g':=g) (cl':=cl&&h1.wr.isEmpty) (by rw[hk'];rfl) (fun hc=>by
    rw[QF]at hc;exact⟨hc.1,List.isEmpty_iff.1 hc.2⟩) (ev.mono fun n e=> ?_) q1 q2
   unfold zv;simp only[hk',QR];simp only[yR]at e;cases ha:yD P (Ws P tab n) o fr (inC h)with
   |none=>rw[ha]at e;cases e
   |some p=>rw[ha]at e;exact e
def zC (k:Nat)(h:Uz):Uz:={h with n:=h.n+k}
theorem zZ (k:Nat)(h:Uz):U5 h (zC k h):=⟨G4 _ _,fun _ _=>rfl,fun w g hg=>w g (QO (G4 _ _) hg),rfl,fun _=>rfl⟩
theorem VC {ops:List (U1×List Nat)}{fr:WA}{h:Uz}{K:U8->WA->Uz->Prop}(k:Nat)(hk:zC2 ops=k)(hne:ops.isEmpty=false)
  (hx:WN P tab h.mark (h.n+k) ops h.n true fr (inC (zC k h)) (Bm K h)):WX P tab (.regionC ops) fr h K:=by
 subst hk;have hx':WN P tab h.mark (h.n+zC2 ops) ops h.n true fr (zC (zC2 ops) h) (Bm K h):=by
  cases ops with
  |nil=>cases hne
  |cons x ops=>exact hx
 obtain⟨fr',h',q,run⟩:=WN.run (h:=zC (zC2 ops) h) (show h.n+zC2 ops<=h.n+zC2 ops from QE _) hx';obtain⟨ws',w1,w2⟩:=run 0 [] [] [] (fun e he=>by cases he) (fun _=>rfl) (fun e he=>by cases he);unfold WX;refine⟨.normal,fr',_,q,Ev.up (w2.mono fun n e=> ?_)⟩;rw[zi];simp only[zb,Z8];have e':zu P (Ws P tab n) ops 0 h.n [] [] [] fr {h with n:=h.n+(ops.filter fun x=>Nat.beq (zE x.1.op) 3).length}=some (fr',h',ws'):=e;rw[e'];have:((ws'.map (·.2)).filter fun g=> !Nat.ble h.mark g)=[]:=by
  rw[List.filter_eq_nil_iff];intro g hg;obtain⟨y,hy,rfl⟩:=Q6.1 hg;have:Nat.ble h.mark y.2=true:=QH (w1 y hy);simp[this]
 simp[this,yu]
end
section
variable {P:Program}{tab:Wd}{m N0:Nat}{l:List (U1×List Nat)}{o:U1}{un:List Nat}{g:Nat}{cl:Bool}{fr:WA}{h h0 h':Uz}{Q:WA->Uz->Prop}{K:U8->WA->Uz->Prop}{x:U1×List Nat}
def uK2 (P:Program)(tab:Wd)(m N0:Nat)(un:List Nat)(t:U4 Value)(o:U1)(h:Uz)(l:List (U1×List Nat))(g:Nat)(cl:Bool)(Q:WA->Uz->Prop):WA->Uz->Prop:=
 fun fr' h'=>okU m N0 un cl t o h h'/\WN P tab m N0 l g (cl&&h'.wr.isEmpty) fr' h' Q
theorem WN.q (hk:Nat.beq (zE o.op) 3=false)(hx:WO P tab [o] fr (inC h) (uK2 P tab m N0 un fr.tm o (inC h) l g cl Q)):WN P tab m N0 ((o,un)::l) g cl fr (inC h) Q:=by
 simp only[WN];rw[QB (by rw[hk];exact Bool.noConfusion)];exact hx
theorem zSi {t:U4 Value}(hx:WN P tab m N0 l g cl fr (inC h) Q):uK2 P tab m N0 [] t o (inC h) l g cl Q fr (inC h):=
 ⟨⟨fun g hg=>(by cases hg),QE _,.inl rfl⟩,by rw[show (cl&&(inC h).wr.isEmpty)=cl from by simp[inC]];exact hx⟩
theorem zH6 {t:U4 Value}(hr:∀ g,zX t o=some g->g<N0)(hx:WN P tab m N0 l g true fr (inC h) Q):uK2 P tab m N0 un t o (inC h) l g true Q fr (inC h):=
 ⟨⟨fun g hg=>(by cases hg),QE _,.inr ⟨rfl,rfl,hr⟩⟩,by rw[show (true&&(inC h).wr.isEmpty)=true from by simp[inC]];exact hx⟩
theorem zSY {t:U4 Value}(e:U5 (inC h) h')(hr:zX t o=none)(hx:WN P tab m N0 (x::l) g true fr (inC h') Q):uK2 P tab m N0 un t o (inC h) (x::l) g true Q fr h':=by
 have hw:=e.wrnil;refine⟨⟨fun g hg=>(by rw[hw]at hg;cases hg),e.n,?_⟩,?_⟩
 ·exact .inr ⟨rfl,hw,fun g hg=>by rw[hr]at hg;cases hg⟩
 ·rw[hw];exact hx
theorem zQA {t:U4 Value}(hx:K .normal fr (yu h0 (inC h))):uK2 P tab m N0 [] t o (inC h) [] g cl (Bm K h0) fr (inC h):=⟨⟨fun g hg=>(by cases hg),QE _,.inl rfl⟩,hx⟩
theorem Xt {t:U4 Value}{ds:List Deferred}{rd:Option Nat}{zero cs:List Value}{d n:Nat}{y:Operand}{v:Value}(hm:m<=g)(hg:g<h.n)(hz:zero.length=n)(hn:cs.length=n)(h1:zJ cs=true)(hv:v.cells=cs.toArray)(hy:ev (t.set d (.pointer (some ⟨g,0,none⟩))) y=v)
  (hx:Q ⟨t.set d (.pointer (some ⟨g,0,none⟩)),ds,rd⟩ ((inC ((inC h).lay g (.row zero true 0))).set g (.row cs true 0))):
  WN P tab m N0 [(⟨some d,none,.alloc zero⟩,[]),(⟨none,none,.store n (.tmp d) y⟩,[])] g cl ⟨t,ds,rd⟩ (inC h) Q:=by
 subst hn;rw[WN,QJ (show Nat.beq (zE (Wk.alloc zero)) 3=true from rfl)];refine⟨rfl,.inl ⟨rfl,hm,_,_,rfl,?_⟩⟩;rw[show inC (inC h)=inC h from rfl];rw[WN,QB (show ¬Nat.beq (zE (Wk.store cs.length (.tmp d) y)) 3=true from Bool.noConfusion)];have hget:(inC ((inC h).lay g (.row zero true 0))).get g=some (.row zero true 0):=by
  show ((inC h).tab.set g (.row zero true 0)).get g=_;rw[zQ,QJ rfl]
 have hst:zc (inC ((inC h).lay g (.row zero true 0))) ⟨g,0,none⟩ cs=some ((inC ((inC h).lay g (.row zero true 0))).set g (.row cs true 0)):=by
  have h2:Nat.ble (0+cs.length) zero.length=true:=QH (by omega);have h3:Nat.ble 0 0=true:=rfl;have h4:za zero 0 cs=cs:=by simp[za,hz]
  simp only[zc,hget,h2,h3,h1,h4,Q0,Q2,cond_true]
 refine VS undef ((inC ((inC h).lay g (.row zero true 0))).set g (.row cs true 0)) rfl (by
  simp only[U9];have e1:ev (val (some d) ⟨t,ds,rd⟩ (.pointer (some ⟨g,0,none⟩))).tm (.tmp d)= .pointer (some ⟨g,0,none⟩):=by simp only[val,ev,zd,Q3]
  have e2:ev (val (some d) ⟨t,ds,rd⟩ (.pointer (some ⟨g,0,none⟩))).tm y=v:=hy;have e1':ev (t.set d (.pointer (some ⟨g,0,none⟩))) (.tmp d)= .pointer (some ⟨g,0,none⟩):=e1;simp only[val,e1',hy,hv,Gx,Gd,hst,QK,cond_true]) ?_
 refine WO.nil ⟨⟨fun k hk=> ?_,QE _,.inl rfl⟩,hx⟩;have hk2:k∈(inC ((inC h).lay g (.row zero true 0))).log g:=hk;rcases y9 hk2 with rfl|hk3
 ·exact hm
 ·cases hk3
theorem zHR {k:Nat}{o o':Wa}(e:U5 (inC (zC 1 h0)) h):U5 h0 (yu h0 ((inC ((inC h).lay h0.n o)).set h0.n o')):=by
 have hn:h0.n+1<=h.n:=e.n;refine⟨by show h0.n<=h.n;omega,fun k hk=> ?_,fun w k hk=> ?_,rfl,fun _=>rfl⟩
 ·show ((h.tab.set h0.n o).set h0.n o').get k=_;rw[zQ,QB (by omega),zQ,QB (by omega)];exact e.get k (by show k<h0.n+1;omega)
 ·have hk:h.n<=k:=hk;show ((h.tab.set h0.n o).set h0.n o').get k=_;rw[zQ,QB (by omega),zQ,QB (by omega)];exact e.wf (fun j hj=>w j (by have:h0.n+1<=j:=hj;omega)) k hk
theorem zHi {cs:List Value}{o:Wa}(e:U5 (inC (zC 1 h0)) h):U3 h0 (yu h0 ((inC ((inC h).lay h0.n o)).set h0.n (.row cs true 0))) (.pointer (some ⟨h0.n,0,none⟩)) cs:=by
 have hn:h0.n+1<=h.n:=e.n;exact⟨h0.n,QE _,by show h0.n<h.n;omega,rfl,by
  show ((h.tab.set h0.n o).set h0.n (.row cs true 0)).get h0.n=_;rw[zQ,QJ rfl]⟩
end
section
variable {P:Program}{tab:Wd}{ds:List Deferred}{rd:Option Nat}{h:Uz}{l:List U1}{t:U4 Value}
theorem WM {G' G:Prop}(k:G')(r:Wrap G'->G:=by
  intro hgo;first|with_reducible show WN _ _ _ _ (_::_) _ _ _ _ _|refine go ?_
  repeat (first|((apply WN.q;rfl);refine go ?_)|refine zSi ?_|refine zQA ?_)
  first|with_reducible show WN _ _ _ _ (_::_) _ _ _ _ _|refine go ?_
  exact hgo.out):G:=r ⟨k⟩
theorem gUr {G' G:Prop}(k:G')(r:Wrap G'->G:=by
  intro hgo;refine WM ?_;refine rt ?_;exact hgo.out):G:=r ⟨k⟩
theorem XC {m N0 n g d:Nat}{cl:Bool}{y:Operand}{v:Value}{zero cs:List Value}{Q:WA->Uz->Prop}(hm:m<=g)(hg:g<h.n)(hx:Q ⟨t.set d (.pointer (some ⟨g,0,none⟩)),ds,rd⟩ ((inC ((inC h).lay g (.row zero true 0))).set g (.row cs true 0)))
  (hy:WE (t.set d (.pointer (some ⟨g,0,none⟩))) y v:=by exact zL) (hv:v.cells=cs.toArray:=by rfl) (hz:zero.length=n:=by rfl) (hn:cs.length=n:=by rfl) (h1:zJ cs=true:=by rfl):
  WN P tab m N0 [(⟨some d,none,.alloc zero⟩,[]),(⟨none,none,.store n (.tmp d) y⟩,[])] g cl ⟨t,ds,rd⟩ (inC h) Q:=Xt hm hg hz hn h1 hv hy hx
theorem WN.upd {N0 g:Nat}{cl:Bool}{mx kx vx:Operand}{mv:Value}{a b:Int}{es:List (Int×Int)}{h0 hS:Uz}{K:U8->WA->Uz->Prop}(o:Wz h0 hS mv es)(e0:U5 h0 hS)(hm:hS.mark<=h0.n)(hl:es.lookup a=none)
  (k:∀ h1,U5 h0 h1->Wz h0 h1 mv (es++[(a,b)])->zNo mv hS h1->K .normal ⟨t,ds,rd⟩ h1) (hmx:WE t mx mv:=by exact zL) (hkx:WE t kx (I a):=by exact zL) (hvx:WE t vx (I b):=by exact zL):
  WN P tab hS.mark N0 [(⟨none,none,.update mx kx vx⟩,[])] g cl ⟨t,ds,rd⟩ (inC (zC 0 hS)) (Bm K hS):=by
 obtain⟨q,c,es',g1,g2,rfl,g4,g5⟩:=o;unfold WE at hmx hkx hvx;have hf:=zCx 0 g5 hl;have g4':(inC (inC (zC 0 hS))).get q=some (.map es' c):=g4;rw[WN,QB (show ¬Nat.beq (zE (Wk.update mx kx vx)) 3=true from Bool.noConfusion)];refine VS undef ((inC (inC (zC 0 hS))).set q (.map (es'++[{key:=I a,val:=I b,born:=c}]) (c+1))) rfl (by simp only[U9,hmx,hkx,hvx,g4',hf]) ?_;refine WO.nil ⟨⟨fun x hx=> ?_,QE _,.inl rfl⟩,?_⟩
 ·have hx2:x∈(inC (inC (zC 0 hS))).log q:=hx;rcases y9 hx2 with rfl|hx3
  ·omega
  ·cases hx3
 ·refine k (yu hS ((inC (inC (zC 0 hS))).set q (.map (es'++[{key:=I a,val:=I b,born:=c}]) (c+1)))) ?_ ?_ ?_
  ·refine⟨e0.n,fun j hj=> ?_,fun w j hj=> ?_,e0.mark,fun hmk=>e0.wr hmk⟩
   ·show (hS.tab.set q _).get j=_;rw[zQ,QB (by omega)];exact e0.get j hj
   ·have hj:hS.n<=j:=hj;show (hS.tab.set q _).get j=_;rw[zQ,QB (by omega)];exact e0.wf w j hj
  ·refine⟨q,c+1,es'++[{key:=I a,val:=I b,born:=c}],g1,g2,rfl,?_,by simp[g5]⟩;show (hS.tab.set q _).get q=_;rw[zQ,QJ rfl]
  ·refine⟨QE _,fun j _ hj=> ?_⟩;show (hS.tab.set q _).get j=_;rw[zQ,QB (fun e=>hj (by rw[e]))];rfl
theorem zk {x:Operand}{v:Value}(hx:WE t x v:=by exact zL):ev t x=v:=hx
theorem zRD {m N0 n g j:Nat}{un:List Nat}{d:Option Nat}{agg:Bool}{x:Operand}{p:Value}{cs:List Value}{h0 hs:Uz}{l:List (U1×List Nat)}{fr:WA}{Q:WA->Uz->Prop}(o:U3 h0 hs p cs)(hN:hs.n<=N0)(hx:WN P tab m N0 l g true fr (inC h) Q)
  (hr:WE t x (zz p j):=by exact zL):uK2 P tab m N0 un t ⟨d,none,.load agg n x⟩ (inC h) l g true Q fr (inC h):=by
 refine zH6 (fun k hk=> ?_) hx;obtain⟨q,q1,q2,rfl,q3⟩:=o;unfold WE zz at hr;simp only[zX,zP,cond_true,hr,QA]at hk;omega
end
section
variable {P:Program}{tab:Wd}{t:U4 Value}{h:Uz}{ds:List Deferred}{rd:Option Nat}{l:List U1}{Q:WA->Uz->Prop}
def fl (n:Int):Value:= .float .f64 (FloatKind.nearest .f64 n)
end
open Go.RowKit
section
variable {H:Type}
theorem zHB {enc:TypeId×Value->H}{a:Assume}{C:Checked}{os:Os}{f:FuncId}{fn:Func}{s:ChangeSpec}{conds:List PathCond}{apart fresh handsOn again:Bool}{X:World->Array Value->Prop}
  (hX:∀ (w w':World) (args:Array Value),w.heap=w'.heap->X w args->X w' args)
  (own:ownKnob C.prog.godebug=none) (started:os.Started) (noInit:C.prog.inits.idxOf? f=none) (hfn:C.prog.funcs[f]?=some fn)
  (witness:∃ (w:World) (tape:Tape) (i:Input),w.os=os/\(w.forCall tape i).Shaped C.prog/\i.vars=[]/\Input.okWide C.prog (w.forCall tape i) .any w.heap.size f i/\
   ((s.pre enc C.prog fn conds apart (w.forCall tape i).memory i.args/\X (w.forCall tape i).memory i.args)/\sizedMet enc C.prog fn (OpenSpec.ofChange s) apart (w.forCall tape i).memory i.args)/\a.holds C.prog (lone (Frame.enter C.prog f i.args .normal) [] (w.forCall tape i)))
  (contract:∀ (W:World) (base:Nat) (args:Array Value) (ds gs:List (DataW H)) (before:List MemPlace),
   (∀ (j:Nat) t v,fn.params[j]?=some t->args[j]?=some v->Value.okWide C.prog W .any base t v)->
   DataW.Whole enc C.prog fn.params.toList s.vars apart W args.toList ds gs before->
   (DataW.weightsEach C.prog (fn.params.toList++(OpenSpec.ofChange s).bare.plain.varTypes C.prog) (ds++gs)).all (·<=reachBytes)=true->X W args->W.ShapedOpen C.prog->
   Calls C.prog f args W fun e W'=>∃ v,e= .returned v/\s.post enc C.prog fn apart fresh handsOn again W args v W'):
  ReturnsInHanded a C os f .any (fun w args=>(s.pre enc C.prog fn conds apart w args/\X w args)/\sizedMet enc C.prog fn (OpenSpec.ofChange s) apart w args) (s.post enc C.prog fn apart fresh handsOn again):=by
 refine returnsInHanded_of_calls own started noInit witness ?_;intro w tape i _ hsh _ hok hpre _;obtain⟨_,_,_,fn',hfn',_,_,_,_,hval⟩:=hok;have e:fn'=fn:=Qy (hfn'.symm.trans hfn);subst e;obtain⟨⟨_,hx⟩,_,ds,gs,before,hw,hsz⟩:=hpre;have hw':=DataW.Whole.of_heap (w':=w.forCall tape i) (by rfl) hw;refine(contract (w.forCall tape i) w.heap.size i.args ds gs before hval hw' hsz (hX _ _ _ (by rfl) hx) hsh).mono fun e W' ⟨v,he,hp⟩=> ?_;subst he;exact ChangeSpec.post_blind hp
def W7 (P:Program)(t:TypeId)(d:DataW H):Prop:=∀ n∈DataW.weights P t d,n<=reachBytes
variable {P:Program}{h:Uz}
theorem zD1:∀ {ts:List TypeId} {ds:List (DataW H)},(∀ n∈DataW.weightsEach P ts ds,n<=reachBytes)->∀ (i:Nat) t d,ts[i]?=some t->ds[i]?=some d->W7 P t d
 |[],_,_,i,t,d,ht,_=>by simp at ht
 |_::_,[],_,i,t,d,_,hd=>by simp at hd
 |t::ts,d::ds,hw,0,_,_,ht,hd=>by
  simp at ht hd;subst ht hd;exact fun n hn=>hw n (by unfold DataW.weightsEach;simp[hn])
 |t::ts,d::ds,hw,i+1,_,_,ht,hd=>
  zD1 (ts:=ts) (ds:=ds) (fun n hn=>hw n (by unfold DataW.weightsEach;simp[hn])) i _ _ (by simpa using ht) (by simpa using hd)
theorem zKn {e:TypeId}:∀ {ds:List (DataW H)},(∀ n∈DataW.weightsAll P e ds,n<=reachBytes)->∀ (i:Nat) d,ds[i]?=some d->W7 P e d
 |[],_,i,d,hd=>by simp at hd
 |d::ds,hw,0,_,hd=>by
  simp at hd;subst hd;exact fun n hn=>hw n (by unfold DataW.weightsAll;simp[hn])
 |d::ds,hw,i+1,_,hd=>zKn (ds:=ds) (fun n hn=>hw n (by unfold DataW.weightsAll;simp[hn])) i _ (by simpa using hd)
theorem zF4 {t e:TypeId}{elems spare:List (DataW H)}(ht:P.underlying t=some (.slice e))(hw:W7 P t (.slice elems spare)):elems.length * P.bytesOf e<=reachBytes/\∀ (i:Nat) d,elems[i]?=some d->W7 P e d:=by
 unfold W7 at hw;unfold DataW.weights at hw;rw[ht]at hw;simp only at hw;refine⟨?_,zKn fun n hn=>hw n (by simp[hn])⟩;have:=hw _ (Qd ..);exact QO (GY _ (G4 _ _)) this
theorem zJg {t:TypeId}{fs:Array Field}{parts:List (DataW H)}(ht:P.underlying t=some (.struct fs))(hw:W7 P t (.agg parts))(i:Nat)(f:Field)(d:DataW H)(hf:fs[i]?=some f)(hd:parts[i]?=some d):W7 P f.type d:=by
 unfold W7 at hw;unfold DataW.weights at hw;rw[ht]at hw;exact zD1 hw i f.type d (by simp[hf]) hd
theorem zCb {α:Type}{c:Nat}{R:Uz->List Value->α->Prop}{t e:TypeId}{acs:List Value}{d:DataW H}(r:Rd P h t acs d)(ht:P.underlying t=some (.slice e))(hc:P.cellsOf e=c)(hb:1<=P.bytesOf e)(hw:W7 P t d)
  (hR:∀ cs (d:DataW H),Rd P h e cs d->W7 P e d->∃ a,R h cs a):∃ av l,acs=[av]/\Wx c R h av l/\(l.length:Int)<=1152921504606846976:=by
 subst hc;rcases zD7 r ht with ⟨rfl,_⟩|⟨a,sp,rfl,_⟩|⟨g,cells,elems,sp,rfl,rfl,hg,hn,hl,hm,hr⟩
 ·exact⟨_,[],rfl,Wx.nil,by simp⟩
 ·exact⟨_,[],rfl,⟨[],⟨by simp,.inl ⟨rfl,.inr ⟨_,_,rfl⟩⟩⟩,fun i a ha=>by simp at ha⟩,by simp⟩
 ·obtain⟨w1,w2⟩:=zF4 ht hw;obtain⟨l,h1,h2⟩:=zRa (p:=fun i a=>R h ((cells.drop (i * P.cellsOf e)).take (P.cellsOf e)) a) elems.length fun i hi=>hR _ _ (hr i _ (QD hi)) (w2 i _ (QD hi));refine⟨_,l,rfl,⟨cells,⟨by rw[h1];exact hl,.inr ⟨g,0,cells,by rw[h1],by simp[z8,hg],?_,hn⟩⟩,h2⟩,?_⟩
  ·rw[h1,<-hl];simp[cut,QH (QE _)]
  ·have:elems.length<=elems.length * P.bytesOf e:=Nat.le_mul_of_pos_right _ hb;unfold reachBytes at w1;rw[h1];omega
theorem zEL {t e:TypeId}{acs:List Value}{d:DataW H}(r:Rd P h t acs d)(ht:P.underlying t=some (.slice e))(he:P.underlying e=some (.int .i64))(hc:P.cellsOf e=1)(hb:1<=P.bytesOf e)(hw:W7 P t d):
  ∃ av l,acs=[av]/\WJ h av l/\(l.length:Int)<=1152921504606846976/\∀ a∈l,(Lit.int .i64 a).wf=true:=by
 obtain⟨av,l,h1,h2,_,h4⟩:=zR4 r ht he hc;refine⟨av,l,h1,h2,?_,h4⟩;rcases zD7 r ht with ⟨rfl,_⟩|⟨a,sp,rfl,_⟩|⟨g,cells,elems,sp,rfl,rfl,_⟩
 ·cases h1;have:=h2.len (P:=P) (ih:=Ex.bot) (t:= .leaf) (x:= .const (.slice none 0 0)) rfl;rcases h2 with ⟨_,⟨h0,_⟩|⟨g,off,row,hv,_⟩⟩
  ·omega
  ·cases hv
 ·cases h1;rcases h2 with ⟨_,⟨h0,_⟩|⟨g,off,row,hv,_⟩⟩
  ·omega
  ·injection hv with _ e2 _;omega
 ·cases h1;obtain⟨w1,_⟩:=zF4 ht hw;have hle:elems.length<=elems.length * P.bytesOf e:=Nat.le_mul_of_pos_right _ hb;unfold reachBytes at w1;rcases h2 with ⟨_,⟨h0,_⟩|⟨g,off,row,hv,_⟩⟩
  ·omega
  ·injection hv with _ e2 _;omega
theorem YW {t:TypeId}{fs:Array Field}{acs:List Value}{d:DataW H}(r:Rd P h t acs d)(ht:P.underlying t=some (.struct fs))(hw:W7 P t d):
  acs.length=P.cellsOf t/\∀ (i:Nat) (f:Field),fs[i]?=some f->∃ d:DataW H,Rd P h f.type ((acs.drop f.offset).take (P.cellsOf f.type)) d/\W7 P f.type d:=by
 cases r with
 |int n ht' wf=>rw[ht]at ht';cases ht'
 |bool _ ht'=>rw[ht]at ht';cases ht'
 |string _ ht'=>rw[ht]at ht';cases ht'
 |snil ht'=>rw[ht]at ht';cases ht'
 |szero a sp ht'=>rw[ht]at ht';cases ht'
 |slice g cells elems sp ht' hg hn hl hm hr=>rw[ht]at ht';cases ht'
 |array _ _ ht'=>rw[ht]at ht';cases ht'
 |struct cells parts ht' hl hp hr=>
  rw[ht]at ht';cases ht';refine⟨hl,fun i f hf=> ?_⟩;have hi:i<parts.length:=by rw[hp];exact(Gv.1 hf).1
  exact⟨_,hr i f _ hf (QD hi),zJg ht hw i f _ hf (QD hi)⟩
end
section
variable {H:Type}{P:Program}{h:Uz}
end
def Wi (h:Uz)(g:Nat)(o:Wa):Prop:=g<h.n/\h.get g=some o
def zKS:Wa->Bool
 | .loop .. | .deferred .. =>true
 |_=>false
theorem Wi.ext {h h':Uz}{g:Nat}{o:Wa}(k:Wi h g o)(e:U5 h h'):Wi h' g o:=⟨QG k.1 e.n,(e.get g k.1).trans k.2⟩
theorem Wi.updC {h0 h h':Uz}{g:Nat}{o:Wa}{p:Value}{cs:List Value}(k:Wi h g o)(hr:zKS o=true)(w:U3 h0 h p cs)(u:Wb p h h'):Wi h' g o:=by
 refine⟨QG k.1 u.1,(u.2 g k.1 fun e=> ?_).trans k.2⟩;obtain⟨g2,_,_,rfl,hg⟩:=w;cases e;have:=k.2;rw[hg]at this;cases this;cases hr
theorem Wi.upd {h0 h h':Uz}{g:Nat}{o:Wa}{v:Value}{xs:List Int}(k:Wi h g o)(hr:zKS o=true)(w:WH h0 h v xs)(u:BP v h h'):Wi h' g o:=by
 refine⟨QG k.1 u.1,(u.2 g k.1 fun a n c hv e=> ?_).trans k.2⟩;rcases w with ⟨rfl,_⟩|⟨g2,_,_,rfl,hg⟩
 ·cases hv
 ·cases hv;simp only at e;subst e;have:=k.2;rw[hg]at this;cases this;cases hr
theorem Wi.set {h:Uz}{g l:Nat}{o p:Wa}(k:Wi h g o)(hne:g≠l):Wi (h.set l p) g o:=⟨k.1,by rw[ze,QB hne];exact k.2⟩
theorem Wi.self {h:Uz}{g:Nat}{o p:Wa}(k:Wi h g o):Wi (h.set g p) g p:=⟨k.1,by rw[ze,QJ rfl]⟩
theorem U3.setR {h0 h:Uz}{p:Value}{cs:List Value}{l:Nat}{o o':Wa}(w:U3 h0 h p cs)(k:Wi h l o)(hr:zKS o=true):U3 h0 (h.set l o') p cs:=by
 obtain⟨g,a,b,c,d⟩:=w;refine⟨g,a,b,c,?_⟩;rw[ze,QB (fun e=> ?_)]
 ·exact d
 ·subst e;have:=k.2;rw[d]at this;cases this;cases hr
theorem WH.setR {h0 h:Uz}{v:Value}{xs:List Int}{l:Nat}{o o':Wa}(w:WH h0 h v xs)(k:Wi h l o)(hr:zKS o=true):WH h0 (h.set l o') v xs:=by
 rcases w with w|⟨g,a,b,c,d⟩
 ·exact .inl w
 ·refine .inr ⟨g,a,b,c,?_⟩;rw[ze,QB (fun e=> ?_)]
  ·exact d
  ·subst e;have:=k.2;rw[d]at this;cases this;cases hr
theorem zw {t:U4 Value}{d:Option Nat}{g:Option (Nat×Bool)}{f:Operand}{args:List Operand}:zX t ⟨d,g,.call f args⟩=none:=by
 unfold zX;cases zP t g<;>rfl
section
variable {P:Program}{tab:Wd}{m N0 g:Nat}{un:List Nat}{t:U4 Value}{h h':Uz}{x:U1×List Nat}{l:List (U1×List Nat)}{fr:WA}{Q:WA->Uz->Prop}
theorem nE {d:Option Nat}{gd:Option (Nat×Bool)}{f:Operand}{as:List Operand}(e:U5 (inC h) h')(hx:WN P tab m N0 (x::l) g true fr (inC h') Q):WO P tab [] fr h' (uK2 P tab m N0 un t ⟨d,gd,.call f as⟩ (inC h) (x::l) g true Q):=WO.nil (zSY e zw hx)
theorem nQ {cl:Bool}{o:U1}(hx:WN P tab m N0 l g cl fr (inC h) Q):WO P tab [] fr (inC h) (uK2 P tab m N0 [] t o (inC h) l g cl Q):=WO.nil (zSi hx)
end
section
variable {P:Program}{tab:Wd}
attribute [local semireducible] WX WV WC Ev
def zSv (l:Nat)(Q:Value->Uz->Prop):U8->WA->Uz->Prop
 | .normal,fr,h2=>fr.dfs=[]/\∃ r2,Wi h2 l (.loop r2)/\Q (.bool true) (h2.set l (.loop {r2 with state:= .ready,pending:=none}))
 |_,_,_=>False
def zQX (P:Program)(tab:Wd)(l:Nat)(r:Wm)(h0:Uz)(Q:Value->Uz->Prop):U8->WA->Uz->Prop
 | .normal,fr,h=>h=h0/\WX P tab r.body fr (h.set l (.loop {r with state:= .busy})) (zSv l Q)
 |_,_,_=>False
theorem WV.yield {l args h Q a b}{r:Wm}(hl:Wi h l (.loop r))(hr:r.state= .ready)(hn:Nat.beq args.length r.params.length=true)
  (hx:WX P tab r.assign ⟨zBf r.params args r.tm,[],some l⟩ h (zQX P tab l r h Q)):WV P tab (.func (.yield l) a b) args h Q:=by
 obtain⟨e,fr,h1,k,ev⟩:=hx;cases e with
 |normal=>
  obtain⟨rfl,e2,fr2,h2,k2,ev2⟩:=k;cases e2 with
  |normal=>
   obtain⟨kd,r2,hl2,hq⟩:=k2;refine⟨_,_,hq,(ev.and ev2).mono fun n ⟨x1,x2⟩=> ?_⟩;have h1:=hl.2;have h2:=hl2.2;simp only[zAV,h1,hn,cond_true,zAl,x1,hr,x2,kd,h2,ZR]
  |exit i=>exact k2.elim
  |goto i=>exact k2.elim
  |ret=>exact k2.elim
 |exit i=>exact k.elim
 |goto i=>exact k.elim
 |ret=>exact k.elim
def zO3 (t:U4 Value)(ps:List Nat)(a b:U0)(d:Nat):Wm:={state:= .ready,pending:=none,fn:=0,tm:=t,params:=ps,assign:=a,body:=b,defers:=d}
def zDA (h:Uz)(t:U4 Value)(ps:List Nat)(a b:U0):Uz:=(h.push (.deferred (some []))).push (.loop (zO3 t ps a b h.n))
theorem zLF (h:Uz)(t ps a b):U5 h (zDA h t ps a b):=((U5.refl h).push _).push _
theorem zLP (h:Uz)(t ps a b):Wi (zDA h t ps a b) h.n (.deferred (some [])):=by
 refine⟨by simp[zDA,Uz.push];omega,?_⟩;unfold zDA;rw[zN,QB (by simp[Uz.push]),zN,QJ rfl]
theorem zJv (h:Uz)(t ps a b):Wi (zDA h t ps a b) (h.n+1) (.loop (zO3 t ps a b h.n)):=by
 refine⟨by simp[zDA,Uz.push],?_⟩;unfold zDA;rw[zN,QJ (by simp[Uz.push])]
theorem XH {f ps a b t ds h K}(hx:WV P tab (ev t f) [.func (.yield (h.n+1)) #[] #[]] (zDA h t ps a b) fun _ h2=>∃ r,Wi h2 (h.n+1) (.loop r)/\r.state= .ready/\r.pending=none/\
   K .normal ⟨t,{target:= .collected h.n,args:=#[]}::ds,none⟩ (h2.set (h.n+1) (.loop {r with state:= .exhausted}))):WX P tab (.rangeFunc f ps a b) ⟨t,ds,none⟩ h K:=by
 obtain⟨v,h2,⟨r,hl,hs,hp,hk⟩,ev⟩:=hx;refine⟨_,_,_,hk,Ev.up (ev.mono fun n e=> ?_)⟩;rw[zi];simp only[zb,zAs,Y0];have hn:(h.push (.deferred (some []))).n=h.n+1:=rfl;have e':zAV (Ws P tab n) (Am.ev t f) [.func (.yield (h.push (.deferred (some []))).n) #[] #[]] ((h.push (.deferred (some []))).push (.loop {state:= .ready,pending:=none,fn:=0,tm:=t,params:=ps,assign:=a,body:=b,defers:=h.n}))=some (v,h2):=e;rw[e'];have hl2:=hl.2;simp only[hn,hl2,hs,hp,List.singleton_append]
theorem zIf {rs Q t rd h g}(hg:Wi h g (.deferred (some [])))(hx:zEr P tab rs Q .ret ⟨t,[],rd⟩ (h.set g (.deferred none))):zEr P tab rs Q .ret ⟨t,[{target:= .collected g,args:=#[]}],rd⟩ h:=by
 unfold zEr at *;exact WD.collected hg.2 hx
theorem Vc {h:Uz}{t:U4 Value}{j n:Nat}{p v:Value}{h0:Uz}{cs:List Value}{rs:List (Nat×Option (Bool×Nat))}{vs:List Value}(s:Wg t j p)(o:U3 h0 h p cs)(hr:(cut cs 0 n).bind (zH false)=some v)(k:BC h t rs vs):BC h t ((j,some (false,n))::rs) (v::vs):=by
 obtain⟨g,_,_,rfl,hg⟩:=o;unfold BC at *;unfold Wg at s;simp only[z0,YY,s,Zi hg,Q0,cond_true,QS,hr,k]
structure Ready (r:Wm)(t:U4 Value)(ps:List Nat)(a b:U0):Prop where
 st:r.state= .ready
 pd:r.pending=none
 tm:r.tm=t
 ps:r.params=ps
 as:r.assign=a
 bd:r.body=b
def busy (r:Wm):Wm:={r with state:= .busy}
def zUD (L:Nat)(r:Wm)(Q:Value->Uz->Prop):U8->WA->Uz->Prop
 | .normal,fr,h2=>fr.dfs=[]/\Wi h2 L (.loop (busy r))/\Q (.bool true) (h2.set L (.loop r))
 |_,_,_=>False
theorem zDC {L r Q t rd h}(hl:Wi h L (.loop (busy r)))(hq:Q (.bool true) (h.set L (.loop r))):zUD L r Q .normal ⟨t,[],rd⟩ h:=⟨rfl,hl,hq⟩
def zU1 (P:Program)(tab:Wd)(L:Nat)(r:Wm)(b:U0)(h:Uz)(Q:Value->Uz->Prop):U8->WA->Uz->Prop
 | .normal,fr,h'=>h'=h/\WX P tab b fr (h.set L (.loop (busy r))) (zUD L r Q)
 |_,_,_=>False
theorem zDE {L r b h Q fr}(hx:∀ h',h'=h.set L (.loop (busy r))->WX P tab b fr h' (zUD L r Q)):zU1 P tab L r b h Q .normal fr h:=⟨rfl,hx _ rfl⟩
theorem Vu {L args h Q t ps a b x y}{r:Wm}(hl:Wi h L (.loop r))(hr:Ready r t ps a b)(hn:Nat.beq args.length ps.length=true)
  (hx:WX P tab a ⟨zBf ps args t,[],some L⟩ h (zU1 P tab L r b h Q)):WV P tab (.func (.yield L) x y) args h Q:=by
 obtain⟨h1,h2,rfl,rfl,rfl,rfl⟩:=hr;refine WV.yield hl h1 hn ?_;refine WX.mono hx fun e fr h' k=> ?_;cases e with
 |normal=>
  refine⟨k.1,?_⟩;obtain⟨e1,k⟩:=k;subst e1;refine WX.mono k fun e fr h' k=> ?_;cases e with
  |normal=>
   obtain⟨k1,k2,k3⟩:=k;refine⟨k1,_,k2,?_⟩;have:({busy r with state:= .ready,pending:=none}:Wm)=r:=by
    cases r;simp only[busy]at *;simp_all
   rw[this];exact k3
  |exit i=>exact k.elim
  |goto i=>exact k.elim
  |ret=>exact k.elim
 |exit i=>exact k.elim
 |goto i=>exact k.elim
 |ret=>exact k.elim
theorem Vv {f ps a b t ds h K}{fv:Value}(hx:∀ (L g:Nat) (r:Wm) (hO:Uz),Ready r t ps a b->U5 h hO->h.n<=L->h.n<=g->Wi hO L (.loop r)->Wi hO g (.deferred (some []))->
   WV P tab fv [.func (.yield L) #[] #[]] hO fun _ h2=>Wi h2 L (.loop r)/\∀ r3,K .normal ⟨t,{target:= .collected g,args:=#[]}::ds,none⟩ (h2.set L (.loop r3))) (hf:WE t f fv:=by exact zk):WX P tab (.rangeFunc f ps a b) ⟨t,ds,none⟩ h K:=by
 refine XH ?_;have hf:Am.ev t f=fv:=hf;rw[hf];refine WV.mono (hx (h.n+1) h.n _ _ ⟨rfl,rfl,rfl,rfl,rfl,rfl⟩ (zLF h t ps a b) (GU _) (QE _) (zJv ..) (zLP ..)) fun _ h2 ⟨k1,k2⟩=> ?_;exact⟨_,k1,rfl,rfl,k2 _⟩
end
structure WW (p:Prop):Prop where
 out:p
def swp (xs:List Int)(i j:Int):List Int:=(xs.set i.toNat (xs.getD j.toNat 0)).set j.toNat (xs.getD i.toNat 0)
abbrev WB (xs:List Int)(i:Int):Int:=xs.getD i.toNat 0
theorem zIv (xs:List Int)(i j:Int):(swp xs i j).length=xs.length:=by simp[swp]
theorem zBc {xs:List Int}{i:Nat}{v:Int}{k:Nat}(hi:i<xs.length):(xs.set i v).getD k 0=if k=i then v else xs.getD k 0:=by
 simp only[QL,List.getElem?_set];by_cases h:i=k
 ·subst h;simp[hi]
 ·rw[QB h,QB (fun e=>h e.symm)]
theorem yU {xs:List Int}{i j k:Int}(hi:0<=i/\i<xs.length)(hj:0<=j/\j<xs.length)(hk:0<=k):WB (swp xs i j) k=if k=j then WB xs i else if k=i then WB xs j else WB xs k:=by
 unfold WB swp;rw[zBc (by simp;omega),zBc (by omega)];have e1:(k.toNat=j.toNat)↔k=j:=by omega
 have e2:(k.toNat=i.toNat)↔k=i:=by omega
 simp only[e1,e2]
theorem zC0 (c v:Int):∀ (xs:List Int) (i:Nat),i<xs.length->(xs.set i v).count c+(if xs.getD i 0=c then 1 else 0)=xs.count c+(if v=c then 1 else 0)
 |[],i,h=>by simp at h
 |x::xs,0,_=>by
  simp only[List.set_cons_zero,List.count_cons,List.getD_cons_zero,G1];omega
 |x::xs,i+1,h=>by
  have:=zC0 c v xs i (by simpa using h);simp only[List.set_cons_succ,List.count_cons,List.getD_cons_succ,G1]at *;omega
theorem zPJ {xs:List Int}{i j:Int}(hi:0<=i/\i<xs.length)(hj:0<=j/\j<xs.length):(swp xs i j).Perm xs:=by
 rw[List.perm_iff_count];intro c;have h1:=zC0 c (xs.getD j.toNat 0) xs i.toNat (by omega);have h2:=zC0 c (xs.getD i.toNat 0) (xs.set i.toNat (xs.getD j.toNat 0)) j.toNat (by simp;omega);rw[zBc (by omega)]at h2;unfold swp;by_cases e:j.toNat=i.toNat
 ·rw[QJ e]at h2;rw[e]at h1 h2 |-;omega
 ·rw[QB e]at h2;omega
structure PI (a b:Int)(xs ys:List Int):Prop where
 len:ys.length=xs.length
 perm:ys.Perm xs
 out:∀ k:Int,0<=k->(k<a\/b<=k)->WB ys k=WB xs k
theorem PI.refl (a b:Int)(xs:List Int):PI a b xs xs:=⟨rfl,.refl _,fun _ _ _=>rfl⟩
theorem PI.trans {a b:Int}{xs ys zs:List Int}(h:PI a b xs ys)(k:PI a b ys zs):PI a b xs zs:=⟨k.len.trans h.len,k.perm.trans h.perm,fun i h0 hi=>(k.out i h0 hi).trans (h.out i h0 hi)⟩
theorem PI.mono {a b a' b':Int}{xs ys:List Int}(h:PI a b xs ys)(ha:a'<=a)(hb:b<=b'):PI a' b' xs ys:=⟨h.len,h.perm,fun k h0 hk=>h.out k h0 (by omega)⟩
theorem PI.swp {a b i j:Int}{xs:List Int}(h0:0<=a)(hb:b<=xs.length)(hi:a<=i/\i<b)(hj:a<=j/\j<b):PI a b xs (swp xs i j):=
 ⟨zIv ..,zPJ (by omega) (by omega),fun k hk ho=>by rw[yU (by omega) (by omega) hk,QB (by omega),QB (by omega)]⟩
theorem zD9 (xs:List Int)(a b:Nat)(hab:a<=b):xs=xs.take a++((xs.drop a).take (b - a)++xs.drop b):=by
 have:xs.drop b=(xs.drop a).drop (b - a):=by rw[JD];congr 1;omega
 rw[this,GK,GK]
theorem zCC {xs ys:List Int}(hl:xs.length=ys.length)(h:∀ k:Nat,k<xs.length->xs.getD k 0=ys.getD k 0):xs=ys:=by
 apply JF hl;intro i h1 h2;have:=h i h1;simpa [List.getD,QD h1,QD h2]using this
theorem PI.all {a b:Int}{xs ys:List Int}(h:PI a b xs ys)(h0:0<=a)(hb:b<=xs.length){p:Int->Prop}(hp:∀ k,a<=k->k<b->p (WB xs k)):∀ k,a<=k->k<b->p (WB ys k):=by
 intro k hk1 hk2;obtain⟨A,rfl⟩:∃ A:Nat,a=A:=⟨a.toNat,by omega⟩;obtain⟨B,rfl⟩:∃ B:Nat,b=B:=⟨b.toNat,by omega⟩;have hl:=h.len;have e1:=zD9 xs A B (by omega);have e2:=zD9 ys A B (by omega);have t1:ys.take A=xs.take A:=zCC (by simp[hl]) fun k hk=>by
  have hk':k<A:=by simp at hk;omega
  have:=h.out (k:Int) (by omega) (by omega);simpa [WB,QL,Q9,hk']using this
 have t2:ys.drop B=xs.drop B:=zCC (by simp[hl]) fun k hk=>by
  have:=h.out ((B+k:Nat):Int) (by omega) (by omega);simp only[WB,QU]at this;simpa [QL,GO]using this
 have hp':=h.perm;rw[e1,e2,t1,t2]at hp';have hs:=(List.perm_append_right_iff _).1 ((List.perm_append_left_iff _).1 hp');have hmem:WB ys k∈(ys.drop A).take (B - A):=by
  rw[Gj];refine⟨k.toNat - A,?_⟩;rw[Q9,QJ (by omega),GO,show A+(k.toNat - A)=k.toNat by omega];unfold WB;rw[QL,QD (by omega)];rfl
 obtain⟨m,hm⟩:=Gj.1 (hs.mem_iff.1 hmem);rw[Q9]at hm;split at hm
 ·rename_i hlt;rw[GO]at hm;have:=hp ((A+m:Nat):Int) (by omega) (by omega);unfold WB at this;rw[QU,QL,hm]at this;exact this
 ·cases hm
def BR (a b:Int)(xs:List Int):Prop:=∀ i j:Int,a<=i->i<=j->j<b->WB xs i<=WB xs j
theorem VW {a b:Int}{xs:List Int}(h:b<=a+1):BR a b xs:=fun i j h1 h2 h3=>by
 have:i=j:=by omega
 subst this;exact Qk _
theorem zJh {xs ys:List Int}(h:ys.Perm xs)(s:BR 0 ys.length ys):ys=xs.mergeSort (fun a b=>decide (a<=b)):=by
 have hp:ys.Pairwise (fun a b=>decide (a<=b)=true):=by
  rw[List.pairwise_iff_getElem];intro i j hi hj hij;have:=s (i:Int) (j:Int) (by omega) (by omega) (by omega);simp only[WB,QU,QL,QD hi,QD hj,GC]at this;simpa using this
 refine List.Perm.eq_of_pairwise (le:=fun a b=>decide (a<=b)=true) (fun a b _ _ h1 h2=> ?_) hp ?_ (h.trans (List.mergeSort_perm xs _).symm)
 ·simp only[QX]at h1 h2;omega
 ·exact List.pairwise_mergeSort (fun a b c h1 h2=>by simp only[QX]at *;omega) (fun a b=>by simp only[GG,QX];omega) xs
theorem zAi (h:Uz):yu h (inC (zC 0 h))=h:=rfl
theorem zHe {a i j:Int}{zs:List Int}(h0:0<=a)(hj:a<j)(hji:j<=i)(hil:i<zs.length)(hlt:WB zs j<WB zs (j - 1))(r:∀ p q,a<=p->p<=q->q<=i->q≠j->WB zs p<=WB zs q):∀ p q,a<=p->p<=q->q<=i->q≠j - 1->WB (swp zs j (j - 1)) p<=WB (swp zs j (j - 1)) q:=by
 intro p q h1 h2 h3 h4;rw[yU (by omega) (by omega) (by omega),yU (by omega) (by omega) (by omega),QB h4];by_cases hq:q=j
 ·rw[QJ hq];by_cases hp:p=j - 1
  ·rw[QJ hp];omega
  ·rw[QB hp];by_cases hp2:p=j
   ·rw[QJ hp2];exact Qk _
   ·rw[QB hp2];exact r p (j - 1) h1 (by omega) (by omega) (by omega)
 ·rw[QB hq];by_cases hp:p=j - 1
  ·rw[QJ hp];exact r j q (by omega) (by omega) h3 hq
  ·rw[QB hp];by_cases hp2:p=j
   ·rw[QJ hp2];exact r (j - 1) q (by omega) (by omega) h3 hq
   ·rw[QB hp2];exact r p q h1 h2 h3 hq
theorem BP.trans {v:Value}{h h1 h2:Uz}(a:BP v h h1)(b:BP v h1 h2):BP v h h2:=⟨QO a.1 b.1,fun g hg hv=>(b.2 g (QG hg a.1) hv).trans (a.2 g hg hv)⟩
theorem BP.refl (v:Value)(h:Uz):BP v h h:=⟨QE _,fun _ _ _=>rfl⟩
structure SS (hB h:Uz)(v:Value)(a b:Int)(xs ys:List Int)(h1:Uz):Prop where
 own:Wc hB h1 v ys
 ext:U5 hB h1
 upd:BP v h h1
 pi:PI a b xs ys
theorem VR {hB h:Uz}{v:Value}{xs:List Int}(a b:Int)(o:Wc hB h v xs)(e:U5 hB h):SS hB h v a b xs xs h:=⟨o,e,BP.refl v h,PI.refl ..⟩
theorem SS.swp {hB h h1 h3:Uz}{v:Value}{a b i j:Int}{xs ys:List Int}(s:SS hB h v a b xs ys h1)(e3:U5 hB h3)(o3:Wc hB h3 v (swp ys i j))(u3:BP v h1 h3)(h0:0<=a)(hb:b<=xs.length)(hi:a<=i/\i<b)(hj:a<=j/\j<b):SS hB h v a b xs (swp ys i j) h3:=
 ⟨o3,e3,s.upd.trans u3,s.pi.trans (PI.swp h0 (by rw[s.pi.len];exact hb) hi hj)⟩
theorem SS.call {hB h h1 h2:Uz}{v:Value}{a b c d:Int}{xs ys zs:List Int}(s:SS hB h v a b xs ys h1)(k:SS hB h1 v c d ys zs h2)(ha:a<=c)(hb:d<=b):SS hB h v a b xs zs h2:=
 ⟨k.own,k.ext,s.upd.trans k.upd,s.pi.trans (k.pi.mono ha hb)⟩
theorem Wb.trans {p:Value}{h h1 h2:Uz}(a:Wb p h h1)(b:Wb p h1 h2):Wb p h h2:=⟨QO a.1 b.1,fun g hg hv=>(b.2 g (QG hg a.1) hv).trans (a.2 g hg hv)⟩
theorem SS.extd {hB h h1 h2:Uz}{v:Value}{a b:Int}{xs ys:List Int}(s:SS hB h v a b xs ys h1)(e:U5 h1 h2):SS hB h v a b xs ys h2:=
 ⟨s.own.ext e,s.ext.trans e,s.upd.trans ⟨e.n,fun g hg _=>e.get g hg⟩,s.pi⟩
theorem SS.updC {hB h h1 h2:Uz}{v:Value}{a b:Int}{xs ys:List Int}{g:Nat}(s:SS hB h v a b xs ys h1)(o:Wc hB h v xs)(hg:h.n<=g)(e:U5 hB h2)(u:Wb (.pointer (some ⟨g,0,none⟩)) h1 h2):SS hB h v a b xs ys h2:=by
 obtain⟨q,q1,q2,qv,q3⟩:=s.own;obtain⟨q',_,q2',qv',_⟩:=o;rw[qv,s.pi.len]at qv';cases qv';refine⟨⟨q,q1,QG q2 u.1,qv,(u.2 q q2 fun e=>by cases e;omega).trans q3⟩,e,⟨QO s.upd.1 u.1,fun k hk hv=>(u.2 k (QG hk s.upd.1) fun e=>by cases e;omega).trans (s.upd.2 k hk hv)⟩,s.pi⟩
theorem U3.updV {hB hA h h1 h2:Uz}{v:Value}{xs:List Int}{g:Nat}{cs:List Value}(w:U3 hA h1 (.pointer (some ⟨g,0,none⟩)) cs)(o:Wc hB h v xs)(hg:h.n<=g)(u:BP v h1 h2):U3 hA h2 (.pointer (some ⟨g,0,none⟩)) cs:=by
 obtain⟨q',_,q2',rfl,_⟩:=o;obtain⟨g',g1,g2,gv,g3⟩:=w;cases gv;exact⟨g,g1,QG g2 u.1,rfl,(u.2 g g2 fun a n c e=>by cases e;simp only;omega).trans g3⟩
theorem U3.offC {hA h h':Uz}{p:Value}{cs:List Value}{g4:Nat}(o:U3 hA h p cs)(u:Wb (.pointer (some ⟨g4,0,none⟩)) h h')(hg:g4<hA.n):U3 hA h' p cs:=by
 obtain⟨g,g1,g2,rfl,g3⟩:=o;exact⟨g,g1,QG g2 u.1,rfl,(u.2 g g2 fun e=>by cases e;omega).trans g3⟩
theorem WH.offC {hA h h':Uz}{v:Value}{xs:List Int}{g4:Nat}(o:WH hA h v xs)(u:Wb (.pointer (some ⟨g4,0,none⟩)) h h')(hg:g4<hA.n):WH hA h' v xs:=by
 rcases o with o|⟨g,g1,g2,rfl,g3⟩
 ·exact .inl o
 ·exact .inr ⟨g,g1,QG g2 u.1,rfl,(u.2 g g2 fun e=>by cases e;omega).trans g3⟩
theorem Wb.setL {p:Value}{h h':Uz}{L:Nat}{o:Wa}(u:Wb p h h')(hL:h.n<=L):Wb p h (h'.set L o):=⟨u.1,fun g hg hv=>by rw[ze,QB (by omega)];exact u.2 g hg hv⟩
theorem Wb.extd {p:Value}{h h' h2:Uz}(u:Wb p h h')(e:U5 h' h2):Wb p h h2:=⟨QO u.1 e.n,fun g hg hv=>(e.get g (QG hg u.1)).trans (u.2 g hg hv)⟩
theorem Wb.upd {p w:Value}{h h' h2:Uz}{xs:List Int}(u:Wb p h h')(o:WH h h' w xs)(u2:BP w h' h2):Wb p h h2:=⟨QO u.1 u2.1,fun g hg hv=>by
 refine(u2.2 g (QG hg u.1) fun a n c e=> ?_).trans (u.2 g hg hv);rcases o with ⟨rfl,_⟩|⟨q,q1,_,rfl,_⟩
 ·cases e
 ·cases e;simp only;omega⟩
theorem Wb.refl (p:Value)(h:Uz):Wb p h h:=⟨QE _,fun _ _ _=>rfl⟩
theorem Wc.rebase {hA hB h:Uz}{g n k:Nat}{xs:List Int}(o:Wc hA h (.slice (some ⟨g,0,none⟩) n k) xs)(hg:hB.n<=g):Wc hB h (.slice (some ⟨g,0,none⟩) n k) xs:=by
 obtain⟨q,q1,q2,qv,q3⟩:=o;cases qv;exact⟨g,hg,q2,rfl,q3⟩
theorem SS.len {hB h h1:Uz}{v:Value}{a b:Int}{xs ys:List Int}(k:SS hB h v a b xs ys h1):ys.length=xs.length:=k.pi.len
section
variable {P:Program}{tab:Wd}{t:U4 Value}{ds:List Deferred}{rd:Option Nat}
theorem Xo {N0 g d:Nat}{cl:Bool}{x y z w u:Operand}{v:Value}{xs:List Int}{i j:Nat}{h0 hS:Uz}{K:U8->WA->Uz->Prop}{va vb:Int}(o:Wc h0 hS v xs)(e0:U5 h0 hS)(hm:hS.mark<=h0.n)
  (hx:ev t x=yI v i) (hy:ev t y=I va) (hi:i<xs.length) (hj:j<xs.length) (hz:ev t z=v) (hw:W4 (ev t w)=some j) (hu:ev (t.set d (yI v j)) u=I vb)
  (k:∀ h1,U5 h0 h1->Wc h0 h1 v ((xs.set i va).set j vb)->BP v hS h1->K .normal ⟨t.set d (yI v j),ds,rd⟩ h1):
  WN P tab hS.mark N0 [(⟨none,none,.store 1 x y⟩,[]),(⟨some d,none,.idx 1 z w⟩,[]),(⟨none,none,.store 1 (.tmp d) u⟩,[])] g cl ⟨t,ds,rd⟩ (inC (zC 0 hS)) (Bm K hS):=by
 obtain⟨q,g1,g2,rfl,g3⟩:=o;rw[WN,QB (show ¬Nat.beq (zE (Wk.store 1 x y)) 3=true from Bool.noConfusion)];have hst1:zc (inC (inC (zC 0 hS))) ⟨q,i,none⟩ [I va]=some ((inC (inC (zC 0 hS))).set q (.row (za (xs.map I) i [I va]) true 0)):=by
  have h1:Nat.ble (i+1) (xs.map I).length=true:=QH (by simp;omega);have h0:Nat.ble 0 i=true:=QH (QT _);have g3':(inC (inC (zC 0 hS))).get q=some (.row (xs.map I) true 0):=g3;simp only[zc,g3',Qa,h1,h0,Q2];rfl
 rw[zAg _ _ _ hi]at hst1;have hc:∀ a,(I a).cells=#[I a]:=fun _=>rfl;refine VS undef ((inC (inC (zC 0 hS))).set q (.row ((xs.set i va).map I) true 0)) rfl (by
  simp only[U9,hx,yI,hy,Q4,hc,hst1,QK];rfl) ?_
 refine WO.nil ⟨⟨fun k hk=> ?_,QE _,.inl rfl⟩,?_⟩
 ·have hk2:k∈(inC (inC (zC 0 hS))).log q:=hk;rcases y9 hk2 with rfl|hk3
  ·omega
  ·cases hk3
 generalize hh1:(inC (inC (zC 0 hS))).set q (.row ((xs.set i va).map I) true 0)=h1;have n1:h1.n=hS.n:=by rw[<-hh1];rfl
 have get1:∀ k,h1.get k=if k=q then some (.row ((xs.set i va).map I) true 0) else hS.get k:=fun k=>by
  rw[<-hh1,ze];rfl
 rw[WN,QB (show ¬Nat.beq (zE (Wk.idx 1 z w)) 3=true from Bool.noConfusion)];have hb:Nat.ble (j+1) xs.length=true:=QH hj;refine WO.op (yI (.slice (some ⟨q,0,none⟩) xs.length 1) j) (inC h1) rfl (by
  have hz':ev t z= .slice (some ⟨q,0,none⟩) xs.length 1:=hz;simp[U9,hz',hw,hb,yI]) ?_
 refine WO.nil ⟨⟨fun k hk=>(by cases hk),QE _,.inl rfl⟩,?_⟩;rw[WN,QB (show ¬Nat.beq (zE (Wk.store 1 (.tmp d) u)) 3=true from Bool.noConfusion)];have hst2:zc (inC (inC h1)) ⟨q,j,none⟩ [I vb]=some ((inC (inC h1)).set q (.row (za ((xs.set i va).map I) j [I vb]) true 0)):=by
  have h1':Nat.ble (j+1) ((xs.set i va).map I).length=true:=QH (by simp;omega);have h0:Nat.ble 0 j=true:=QH (QT _);have g3':(inC (inC h1)).get q=some (.row ((xs.set i va).map I) true 0):=by
   have:=get1 q;rw[QJ rfl]at this;exact this
  simp only[zc,g3',Qa,h1',h0,Q2];rfl
 rw[zAg _ _ _ (by simp;omega)]at hst2;refine VS undef ((inC (inC h1)).set q (.row (((xs.set i va).set j vb).map I) true 0)) rfl (by
  have e1:ev (t.set d (yI (.slice (some ⟨q,0,none⟩) xs.length 1) j)) (.tmp d)=yI (.slice (some ⟨q,0,none⟩) xs.length 1) j:=by simp only[ev,zd,Q3]
  have hp:yI (.slice (some ⟨q,0,none⟩) xs.length 1) j= .pointer (some ⟨q,j,none⟩):=by simp[yI]
  rw[hp]at e1 hu;rw[hp];simp only[U9,e1,hu,hc,hst2,QK];rfl) ?_
 refine WO.nil ⟨⟨fun k hk=> ?_,QE _,.inl rfl⟩,?_⟩
 ·have hk2:k∈(inC (inC h1)).log q:=hk;rcases y9 hk2 with rfl|hk3
  ·omega
  ·cases hk3
 have get2:∀ k,(yu hS ((inC (inC h1)).set q (.row (((xs.set i va).set j vb).map I) true 0))).get k=if k=q then some (.row (((xs.set i va).set j vb).map I) true 0) else hS.get k:=fun k=>by
  have e1:((inC (inC h1)).set q (.row (((xs.set i va).set j vb).map I) true 0)).get k=if k=q then some (.row (((xs.set i va).set j vb).map I) true 0) else (inC (inC h1)).get k:=ze ..;have e2:(inC (inC h1)).get k=h1.get k:=rfl;have e3:(yu hS ((inC (inC h1)).set q (.row (((xs.set i va).set j vb).map I) true 0))).get k=((inC (inC h1)).set q (.row (((xs.set i va).set j vb).map I) true 0)).get k:=rfl;rw[e3,e1,e2,get1];by_cases e:k=q<;>simp[e]
 have nn:(yu hS ((inC (inC h1)).set q (.row (((xs.set i va).set j vb).map I) true 0))).n=hS.n:=n1;refine k (yu hS ((inC (inC h1)).set q (.row (((xs.set i va).set j vb).map I) true 0))) ?_ ?_ ?_
 ·refine⟨by rw[nn];exact e0.n,fun c hc=>by rw[get2,QB (by omega)];exact e0.get c hc,fun w c hc=> ?_,e0.mark,fun hmk=>e0.wr hmk⟩;rw[nn]at hc;rw[get2,QB (by omega)];exact e0.wf w c hc
 ·exact⟨q,g1,by rw[nn];exact g2,by simp,by rw[get2,QJ rfl]⟩
 ·exact⟨by rw[nn];exact QE _,fun c _ hc=>by rw[get2,QB (fun e=>hc _ _ _ rfl e.symm)]⟩
theorem UC {y:Operand}{n:Int}(h:WE t y (I n))(hn:0<=n):W4 (ev t y)=some n.toNat:=by
 unfold WE at h;rw[h];obtain⟨k,rfl⟩:∃ k:Nat,n=k:=⟨n.toNat,by omega⟩;rfl
theorem VM {N0 g d:Nat}{cl:Bool}{x y z w u:Operand}{v:Value}{xs:List Int}{h0 hS:Uz}{K:U8->WA->Uz->Prop}(i j:Int)(o:Wc h0 hS v xs)(e0:U5 h0 hS)(hm:hS.mark<=h0.n)
  (k:∀ h1,U5 h0 h1->Wc h0 h1 v (swp xs i j)->BP v hS h1->K .normal ⟨t.set d (yI v j.toNat),ds,rd⟩ h1)
  (hi:0<=i/\i<xs.length:=by omega) (hj:0<=j/\j<xs.length:=by omega)
  (hx:WE t x (yI v i.toNat):=by exact zk) (hy:WE t y (I (WB xs j)):=by exact zk) (hz:WE t z v:=by exact zk) (hw:WE t w (I j):=by exact zk) (hu:WE (t.set d (yI v j.toNat)) u (I (WB xs i)):=by exact zk):
  WN P tab hS.mark N0 [(⟨none,none,.store 1 x y⟩,[]),(⟨some d,none,.idx 1 z w⟩,[]),(⟨none,none,.store 1 (.tmp d) u⟩,[])] g cl ⟨t,ds,rd⟩ (inC (zC 0 hS)) (Bm K hS):=
 Xo o e0 hm hx hy (by omega) (by omega) hz (UC hw hj.1) hu k
theorem VJ {c:U0}{h:Uz}{K:U8->WA->Uz->Prop}(ws:List Nat)(hw:yA c=ws)(M:U4 Value->Uz->Prop)(h1:WX P tab c ⟨t,ds,rd⟩ h (zO7 M ds rd K))(h2:∀ t' h',zCE ws t t'->M t' h'->K .normal ⟨t',ds,rd⟩ h'):WX P tab c ⟨t,ds,rd⟩ h K:=
 (WX.frame h1).mono fun e fr h ⟨hf,hx⟩=>by
  unfold zO7 at hx;cases e with
  |normal=>
   obtain⟨t',ds',rd'⟩:=fr;obtain⟨e1,e2,e3⟩:=hx;simp only at e1 e2 e3;subst e1 e2;exact h2 _ _ (fun j hj=>hf j (by rw[hw];intro hc;have:=ZI hj;simp[hc]at this)) e3
  |exit i=>exact hx
  |goto i=>exact hx
  |ret=>exact hx
theorem WO.bin {d:Nat}{op:BinOp}{x y:Operand}{vx vy v:Value}{h:Uz}{l:List U1}{Q:WA->Uz->Prop}(hx:WE t x vx)(hy:WE t y vy)(e:yG op vx vy=some v)(k:WO P tab l ⟨t.set d v,ds,rd⟩ h Q):WO P tab (⟨some d,none,.bin op x y⟩::l) ⟨t,ds,rd⟩ h Q:=
 Xd (by
  have hx:ev t x=vx:=hx;have hy:ev t y=vy:=hy;simp only[U9,hx,hy,e,QK]) k
theorem UK {d:Nat}{x i:Operand}{s:ByteArray}{m:Int}{kk:IntKind}{n:Nat}{b:UInt8}{h:Uz}{l:List U1}{Q:WA->Uz->Prop}(hb:s[n]?=some b)(hn:W4 (.int kk m)=some n)(k:WO P tab l ⟨t.set d (.int .u8 b.toNat),ds,rd⟩ h Q)(hx:WE t x (.string s):=by exact WE.const)(hi:WE t i (.int kk m):=by exact zk):WO P tab (⟨some d,none,.elemStr x i⟩::l) ⟨t,ds,rd⟩ h Q:=
 Xd (by
  have hx:ev t x= .string s:=hx;have hi:ev t i= .int kk m:=hi;simp only[U9,hx,hi,hn,hb]) k
theorem WO.quo {d:Nat}{x:Operand}{a c:Int}{h:Uz}{l:List U1}{Q:WA->Uz->Prop}(hc:c≠0)(h1: -9223372036854775808<=a.tdiv c)(h2:a.tdiv c<=9223372036854775807)(k:WO P tab l ⟨t.set d (I (a.tdiv c)),ds,rd⟩ h Q)(hx:WE t x (I a):=by exact zk):WO P tab (⟨some d,none,.bin .quo x (.const (I c))⟩::l) ⟨t,ds,rd⟩ h Q:=
 WO.bin hx (vy:=I c) rfl (by simp only[yG,Q3,QB hc,zD0 h1 h2]) k
theorem Yj {n:Int}(h1:0<=n)(h2:n<18446744073709551616):IntKind.wrap .u64 n=n:=by
 simp[IntKind.wrap,IntKind.signed,IntKind.bits];omega
theorem zTp {n:Int}(h1:0<=n)(h2:n<256):IntKind.wrap .u8 n=n:=by
 simp[IntKind.wrap,IntKind.signed,IntKind.bits];omega
theorem zVK {n:Int}{kk:IntKind}(h:0<=n):yG .shr (.int .u64 n) (.int kk 16)=some (.int .u64 (n / 65536)):=by
 have e:(min (16:Int).toNat IntKind.u64.bits)=16:=rfl;simp only[yG,e];rw[QB (by decide),Int.fdiv_eq_ediv_of_nonneg _ (by decide)];rfl
theorem zVc {n:Int}{kk:IntKind}(h:0<=n):yG .shr (.int .u64 n) (.int kk 8)=some (.int .u64 (n / 256)):=by
 have e:(min (8:Int).toNat IntKind.u64.bits)=8:=rfl;simp only[yG,e];rw[QB (by decide),Int.fdiv_eq_ediv_of_nonneg _ (by decide)];rfl
theorem zPi (y:Int){m:Int}(h:0<=m/\m<=9223372036854775807):∃ r:Int,yG .and (.int .u64 y) (.int .u64 m)=some (.int .u64 r)/\0<=r/\r<=m:=by
 have hb:(BitVec.ofInt 64 m).toNat=m.toNat:=by
  rw[BitVec.toNat_ofInt];omega
 have hle:(BitVec.ofInt 64 y&&& BitVec.ofInt 64 m).toNat<=m.toNat:=by
  rw[BitVec.toNat_and,hb];exact Nat.and_le_right
 refine⟨((BitVec.ofInt 64 y&&& BitVec.ofInt 64 m).toNat:Int),?_,by omega,by omega⟩;simp only[yG,Q3,IntKind.bits];rw[Yj (by omega) (by omega)];rfl
theorem Vy {N0 g n:Nat}{cl:Bool}{x y:Operand}{p v:Value}{cells:List Value}{h0 hS:Uz}{K:U8->WA->Uz->Prop}(cs:List Value)(o:U3 h0 hS p cells)(e0:U5 h0 hS)(hm:hS.mark<=h0.n)
  (k:∀ h1,U5 h0 h1->U3 h0 h1 p cs->Wb p hS h1->K .normal ⟨t,ds,rd⟩ h1) (hx:WE t x p:=by exact zk) (hy:WE t y v:=by exact zk) (hv:v.cells=cs.toArray:=by rfl) (h1:zJ cs=true:=by rfl) (hn:cs.length=n:=by rfl) (hl:cells.length=n:=by rfl):
  WN P tab hS.mark N0 [(⟨none,none,.store n x y⟩,[])] g cl ⟨t,ds,rd⟩ (inC (zC 0 hS)) (Bm K hS):=by
 obtain⟨q,g1,g2,rfl,g3⟩:=o;subst hn;have hx:ev t x= .pointer (some ⟨q,0,none⟩):=hx;have hy:ev t y=v:=hy;rw[WN,QB (show ¬Nat.beq (zE (Wk.store cs.length x y)) 3=true from Bool.noConfusion)];have hst:zc (inC (inC (zC 0 hS))) ⟨q,0,none⟩ cs=some ((inC (inC (zC 0 hS))).set q (.row cs true 0)):=by
  have h2:Nat.ble (0+cs.length) cells.length=true:=QH (by omega);have h3:Nat.ble 0 0=true:=rfl;have h4:za cells 0 cs=cs:=by simp[za,hl]
  have g3':(inC (inC (zC 0 hS))).get q=some (.row cells true 0):=g3;simp only[zc,g3',h2,h3,h1,h4,Q0,Q2,cond_true]
 refine VS undef ((inC (inC (zC 0 hS))).set q (.row cs true 0)) rfl (by
  simp only[U9,hx,hy,hv,Gx,Gd,hst,QK,cond_true]) ?_
 refine WO.nil ⟨⟨fun k hk=> ?_,QE _,.inl rfl⟩,?_⟩
 ·have hk2:k∈(inC (inC (zC 0 hS))).log q:=hk;rcases y9 hk2 with rfl|hk3
  ·omega
  ·cases hk3
 have get2:∀ k,(yu hS ((inC (inC (zC 0 hS))).set q (.row cs true 0))).get k=if k=q then some (.row cs true 0) else hS.get k:=fun k=>by
  have e1:((inC (inC (zC 0 hS))).set q (.row cs true 0)).get k=if k=q then some (.row cs true 0) else (inC (inC (zC 0 hS))).get k:=ze ..;exact e1
 refine k (yu hS ((inC (inC (zC 0 hS))).set q (.row cs true 0))) ?_ ?_ ?_
 ·refine⟨e0.n,fun c hc=>by rw[get2,QB (by omega)];exact e0.get c hc,fun w c hc=> ?_,e0.mark,fun hmk=>e0.wr hmk⟩;have hc:hS.n<=c:=hc;rw[get2,QB (by omega)];exact e0.wf w c hc
 ·exact⟨q,g1,g2,rfl,by rw[get2,QJ rfl]⟩
 ·exact⟨QE _,fun c _ hc=>by rw[get2,QB (fun e=>hc (by rw[e]))]⟩
theorem zDh {C D:Prop}[Decidable C][Decidable D](h:C):decide (C/\D)=decide D:=by simp[h]
theorem zCc {C D:Prop}[Decidable C][Decidable D](h:C):decide (C/\¬D)= !decide D:=by simp[h]
end
end Go.Am
