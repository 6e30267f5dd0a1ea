/- A part of the machine and of its soundness; proves no statement. -/
import Derived.Test.YtfnndahpddkniaaGreatDoorAmR
set_option linter.all false
namespace Go.Am
def oV(a b:WK):WK:= .seq a b
def oJ(c:Nat)(a b:WK):WK:= .cond (.tmp c) a b
def o5(n:Nat)(a:WK):WK:= .block n a
def o6(l:List (U3×List Nat)):WK:= .regionC l
instance:Coe U3 (U3×List Nat):=⟨fun o=>(o,[])⟩
def Wb(t:U5 Value)(k:Nat)(v:Value):Prop:=zB t k=v
def WB(t:U5 Value)(x:Operand)(v:Value):Prop:=ev t x=v
def zHv(j:Nat):List Nat->Bool
 |[]=>true
 |k::l=>bif Nat.beq j k then false else zHv j l
def zEU(ws:List Nat)(t0 t:U5 Value):Prop:=∀ j,zHv j ws=true->zB t j=zB t0 j
theorem Wb.here{t:U5 Value}{k:Nat}{v:Value}:Wb (t.set k v) k v:=by unfold Wb;rw[ze,QF rfl]
theorem Va{t:U5 Value}{k j:Nat}{v w:Value}(hn:Nat.beq j k=false)(s:Wb t j v):Wb (t.set k w) j v:=by
 unfold Wb at *;rw[ze,QC (fun e=>by subst e;simp at hn)];exact s
theorem Wb.same{ws t0 t j v}(hs:zEU ws t0 t)(hn:zHv j ws=true)(s:Wb t0 j v):Wb t j v:=(hs j hn).trans s
theorem WB.tmp{t k v}(s:Wb t k v):WB t (.tmp k) v:=s
theorem WB.const{t v}:WB t (.const v) v:=rfl
theorem WB.fn{t f}:WB t (.func f) (.func (.func f) #[] #[]):=rfl
theorem V9{t g}:WB t (.global g) (.pointer (some ⟨g,0,none⟩)):=rfl
def BQ(t:U5 Value)(xs:List Operand)(vs:List Value):Prop:=xs.map (ev t)=vs
theorem BQ.nil{t}:BQ t [] []:=rfl
theorem BQ.cons{t x xs v vs}(h:WB t x v)(k:BQ t xs vs):BQ t (x::xs) (v::vs):=by unfold BQ WB at *;simp[h,k]
def Bs(n:Int)(i:Nat):Prop:=BE (I n)=some i
theorem UK{i:Nat}:Bs (i:Int) i:=rfl
theorem Bs.lit{n:Int}{i:Nat}(h:n=(i:Int)):Bs n i:=by subst h;rfl
theorem Bs.int{n:Int}(h:0<=n):Bs n n.toNat:=by
 obtain⟨i,rfl⟩:=Int.eq_ofNat_of_zero_le h;rfl
def Wx(t:U5 Value)(ps:List (Nat×Nat×Operand))(vs:List (Nat×Nat×Value)):Prop:=zw t ps=vs
theorem Wx.nil{t}:Wx t [] []:=rfl
theorem Wx.cons{t a b x ps v vs}(h:WB t x v)(k:Wx t ps vs):Wx t ((a,b,x)::ps) ((a,b,v)::vs):=by unfold Wx WB at *;unfold zw at *;simp[h,k]
theorem ZN{j:Nat}:∀ {l:List Nat},zHv j l=true->l.contains j=false
 |[],_=>rfl
 |k::l,h=>by
  unfold zHv at h;cases hb:Nat.beq j k with
  |true=>rw[hb]at h;cases h
  |false=>
   rw[hb]at h;have:=ZN (l:=l) h;simp only[List.contains_cons,this,Qw];have:j≠k:=fun e=>by subst e;simp at hb
   simpa using this
theorem YV{t k v}(h:Wb t k v:=by(repeat (first|((with_reducible apply Va);rfl)|((with_reducible apply Wb.same);(with_reducible assumption);rfl)));first|with_reducible exact Wb.here|with_reducible assumption|(unfold Wb;with_reducible assumption)):Wb t k v:=h
theorem zP{t x v}(h:WB t x v:=by first|with_reducible exact WB.const|((with_reducible apply WB.tmp);(repeat (first|((with_reducible apply Va);rfl)|((with_reducible apply Wb.same);(with_reducible assumption);rfl)));first|with_reducible exact Wb.here|with_reducible assumption|(unfold Wb;with_reducible assumption))|with_reducible exact WB.fn|with_reducible exact V9|fail):WB t x v:=h
theorem zJN{t xs vs}(h:BQ t xs vs:=by(repeat (apply BQ.cons;(exact zP)));exact BQ.nil):BQ t xs vs:=h
theorem zQW{b:Bool}(h:b=false):(!b)=true:=by rw[h];rfl
theorem zQc{b:Bool}(h:b=true):(!b)=false:=by rw[h];rfl
theorem DB:(∀ a:Prop,∀ [Decidable a],(decide a=true)=a)/\(∀ a:Prop,∀ [Decidable a],(decide a=false)=¬a)/\(∀ b:Bool,((!b)=true)=(b=false))/\(∀ b:Bool,((!b)=false)=(b=true))/\
  (∀ a b:Bool,((a||b)=true)=(a=true\/b=true))/\(∀ a b:Bool,((a&&b)=true)=(a=true/\b=true))/\(∀ a b:Bool,((a||b)=false)=(a=false/\b=false))/\(∀ a b:Bool,((a&&b)=false)=(a=false\/b=false))/\
  (∀ a b:Int,(¬a<b)=(b<=a))/\(∀ a b:Int,(¬a<=b)=(b<a))/\((true=true)=True)/\((false=false)=True)/\((true=false)=False)/\((false=true)=False):=
 ⟨fun a _=>by simp,fun a _=>by simp,fun b=>by simp,fun b=>by simp,fun a b=>by simp,fun a b=>by simp,fun a b=>by simp,fun a b=>by cases a<;>cases b<;>simp,fun a b=>by simp,fun a b=>by simp,by simp,by simp,by simp,by simp⟩
theorem zE2{p:Prop}(h:p:=by first|with_reducible rfl|with_reducible exact Qg|with_reducible exact QW|with_reducible assumption|exact QT (by first|with_reducible assumption|omega)|exact QQ (by first|with_reducible assumption|omega)|exact zQW (by first|with_reducible assumption|exact QQ (by first|with_reducible assumption|omega)|fail)|exact zQc (by first|with_reducible assumption|exact QT (by first|with_reducible assumption|omega)|fail)|(simp only[DB, *];done)|fail):p:=h
theorem zG1{p:Prop}(h:p:=by first|omega|with_reducible assumption|(simp only[Qv,Gv,QR,GE,Gw]at *;omega)):p:=h
theorem zKA{n:Int}{i:Nat}(h:Bs n i:=by first|exact UK|exact Bs.lit rfl|exact Bs.int (by omega)|fail):Bs n i:=h
theorem zPN{h:U0}{v:Value}{xs:List Int}(s:WJ h v xs:=by first|with_reducible assumption|exact WJ.ext (by with_reducible assumption) (by with_reducible assumption)|exact WT.sl (by with_reducible assumption)|exact U7.sl (by with_reducible assumption)|fail):WJ h v xs:=s
theorem zIt{o:Option Value}{r:Value}(h:o=some r:=by first|exact(rfl:_=some (Value.agg #[_,_]))|exact(rfl:_=some (Value.agg #[_,_,_]))|exact(rfl:_=some (Value.agg #[_,_,_,_]))|exact(rfl:_=some (Value.agg #[_,_,_,_,_]))|exact(rfl:_=some (Value.agg #[_,_,_,_,_,_]))|exact(rfl:_=some (Value.agg #[_,_,_,_,_,_,_]))|exact(rfl:_=some (Value.agg #[_,_,_,_,_,_,_,_]))|exact(rfl:_=some (Value.agg #[_,_,_,_,_,_,_,_,_,_]))|rfl):o=some r:=h
theorem zQV{o:Option (List Value)}{r:List Value}(h:o=some r:=by first|exact(rfl:_=some [_,_])|exact(rfl:_=some [_,_,_])|exact(rfl:_=some [_,_,_,_])|exact(rfl:_=some [_,_,_,_,_])|exact(rfl:_=some [_,_,_,_,_,_])|exact(rfl:_=some [_,_,_,_,_,_,_])|exact(rfl:_=some [_,_,_,_,_,_,_,_])|rfl):o=some r:=h
def zJ9(v:Value):Prop:=∃ a k m,v=.slice (some a) k m
section
variable {P:Program}{tab:Wo}{ds:List Deferred}{rd:Option Nat}
variable {h:U0}{l:List U3}{t:U5 Value}{Q:WH->U0->Prop}
theorem R.mov{d:Nat}{x:Operand}{v:Value}(hx:WB t x v)(k:WO P tab l ⟨t.set d v,ds,rd⟩ h Q):WO P tab (⟨some d,none,.mov x⟩::l) ⟨t,ds,rd⟩ h Q:=
 WO.op _ _ rfl (by unfold WB at *;simp only[U8,hx]) k
theorem R.add{d:Nat}{x y:Operand}{a b:Int}(hx:WB t x (I a))(hy:WB t y (I b))(h1: -9223372036854775808<=a+b)(h2:a+b<=9223372036854775807)(k:WO P tab l ⟨t.set d (I (a+b)),ds,rd⟩ h Q):WO P tab (⟨some d,none,.bin .add x y⟩::l) ⟨t,ds,rd⟩ h Q:=
 WO.op _ _ rfl (by unfold WB at *;simp only[U8,hx,hy,I,zNL,QI];rw[zEO h1 h2]) k
theorem R.sub{d:Nat}{x y:Operand}{a b:Int}(hx:WB t x (I a))(hy:WB t y (I b))(h1: -9223372036854775808<=a-b)(h2:a-b<=9223372036854775807)(k:WO P tab l ⟨t.set d (I (a-b)),ds,rd⟩ h Q):WO P tab (⟨some d,none,.bin .sub x y⟩::l) ⟨t,ds,rd⟩ h Q:=
 WO.op _ _ rfl (by unfold WB at *;simp only[U8,hx,hy,I,zLc,QI];rw[zEO h1 h2]) k
theorem R.mul{d:Nat}{x y:Operand}{a b:Int}(hx:WB t x (I a))(hy:WB t y (I b))(h1: -9223372036854775808<=a*b)(h2:a*b<=9223372036854775807)(k:WO P tab l ⟨t.set d (I (a*b)),ds,rd⟩ h Q):WO P tab (⟨some d,none,.bin .mul x y⟩::l) ⟨t,ds,rd⟩ h Q:=
 WO.op _ _ rfl (by unfold WB at *;simp only[U8,hx,hy,I,zLt,QI];rw[zEO h1 h2]) k
theorem R.lss{d:Nat}{x y:Operand}{a b:Int}{kk:IntKind}(hx:WB t x (.int kk a))(hy:WB t y (.int kk b))(k:WO P tab l ⟨t.set d (.bool (decide (a<b))),ds,rd⟩ h Q):WO P tab (⟨some d,none,.bin .lss x y⟩::l) ⟨t,ds,rd⟩ h Q:=
 WO.op _ _ rfl (by unfold WB at *;simp only[U8,hx,hy,zMR,QI]) k
theorem R.leq{d:Nat}{x y:Operand}{a b:Int}{kk:IntKind}(hx:WB t x (.int kk a))(hy:WB t y (.int kk b))(k:WO P tab l ⟨t.set d (.bool (decide (a<=b))),ds,rd⟩ h Q):WO P tab (⟨some d,none,.bin .leq x y⟩::l) ⟨t,ds,rd⟩ h Q:=
 WO.op _ _ rfl (by unfold WB at *;simp only[U8,hx,hy,zNa,QI]) k
theorem R.gtr{d:Nat}{x y:Operand}{a b:Int}{kk:IntKind}(hx:WB t x (.int kk a))(hy:WB t y (.int kk b))(k:WO P tab l ⟨t.set d (.bool (decide (b<a))),ds,rd⟩ h Q):WO P tab (⟨some d,none,.bin .gtr x y⟩::l) ⟨t,ds,rd⟩ h Q:=
 WO.op _ _ rfl (by unfold WB at *;simp only[U8,hx,hy,zMf,QI]) k
theorem R.geq{d:Nat}{x y:Operand}{a b:Int}{kk:IntKind}(hx:WB t x (.int kk a))(hy:WB t y (.int kk b))(k:WO P tab l ⟨t.set d (.bool (decide (b<=a))),ds,rd⟩ h Q):WO P tab (⟨some d,none,.bin .geq x y⟩::l) ⟨t,ds,rd⟩ h Q:=
 WO.op _ _ rfl (by unfold WB at *;simp only[U8,hx,hy,zLi,QI]) k
theorem R.eql{d:Nat}{x y:Operand}{a b:Int}{kk:IntKind}(hx:WB t x (.int kk a))(hy:WB t y (.int kk b))(k:WO P tab l ⟨t.set d (.bool (decide (a=b))),ds,rd⟩ h Q):WO P tab (⟨some d,none,.bin .eql x y⟩::l) ⟨t,ds,rd⟩ h Q:=
 WO.op _ _ rfl (by unfold WB at *;simp only[U8,hx,hy,zLj,QI]) k
theorem R.neq{d:Nat}{x y:Operand}{a b:Int}{kk:IntKind}(hx:WB t x (.int kk a))(hy:WB t y (.int kk b))(k:WO P tab l ⟨t.set d (.bool (!decide (a=b))),ds,rd⟩ h Q):WO P tab (⟨some d,none,.bin .neq x y⟩::l) ⟨t,ds,rd⟩ h Q:=
 WO.op _ _ rfl (by unfold WB at *;simp only[U8,hx,hy,zNA,QI]) k
theorem R.not{d:Nat}{x:Operand}{b:Bool}(hx:WB t x (.bool b))(k:WO P tab l ⟨t.set d (.bool (!b)),ds,rd⟩ h Q):WO P tab (⟨some d,none,.un .not x⟩::l) ⟨t,ds,rd⟩ h Q:=
 WO.op _ _ rfl (by unfold WB at *;simp only[U8,hx,unV,QI]) k
theorem Uu{d:Nat}{x y:Operand}{a b:Bool}(hx:WB t x (.bool a))(hy:WB t y (.bool b))(k:WO P tab l ⟨t.set d (.bool (a == b)),ds,rd⟩ h Q):WO P tab (⟨some d,none,.binB false x y⟩::l) ⟨t,ds,rd⟩ h Q:=
 WO.op _ _ rfl (by unfold WB at *;simp only[U8,hx,hy];rfl) k
theorem Uq{d:Nat}{x y:Operand}{a b:Bool}(hx:WB t x (.bool a))(hy:WB t y (.bool b))(k:WO P tab l ⟨t.set d (.bool (a != b)),ds,rd⟩ h Q):WO P tab (⟨some d,none,.binB true x y⟩::l) ⟨t,ds,rd⟩ h Q:=
 WO.op _ _ rfl (by unfold WB at *;simp only[U8,hx,hy];rfl) k
theorem Xs{d:Nat}{x:Operand}{n:Int}{k2:IntKind}(hx:WB t x (.int k2 n))(h1: -9223372036854775808<=n)(h2:n<=9223372036854775807)(k:WO P tab l ⟨t.set d (I n),ds,rd⟩ h Q):WO P tab (⟨some d,none,.conv .i64 x⟩::l) ⟨t,ds,rd⟩ h Q:=
 WO.op _ _ rfl (by unfold WB at *;simp only[U8,hx,I];rw[zEO h1 h2]) k
theorem R.conv{d:Nat}{x:Operand}{n:Int}{kk k2:IntKind}(hx:WB t x (.int k2 n))(k:WO P tab l ⟨t.set d (.int kk (kk.wrap n)),ds,rd⟩ h Q):WO P tab (⟨some d,none,.conv kk x⟩::l) ⟨t,ds,rd⟩ h Q:=
 WO.op _ _ rfl (by unfold WB at *;simp only[U8,hx]) k
theorem UQ{d:Nat}{c x y:Operand}{v:Value}{b:Bool}(hc:WB t c (.bool b))(hb:b=true)(hx:WB t x v)(k:WO P tab l ⟨t.set d v,ds,rd⟩ h Q):WO P tab (⟨some d,none,.pick c x y⟩::l) ⟨t,ds,rd⟩ h Q:=
 WO.op _ _ rfl (by unfold WB at *;subst hb;simp only[U8,hc,hx,Q0]) k
theorem Xz{d:Nat}{c x y:Operand}{v:Value}{b:Bool}(hc:WB t c (.bool b))(hb:b=false)(hy:WB t y v)(k:WO P tab l ⟨t.set d v,ds,rd⟩ h Q):WO P tab (⟨some d,none,.pick c x y⟩::l) ⟨t,ds,rd⟩ h Q:=
 WO.op _ _ rfl (by unfold WB at *;subst hb;simp only[U8,hc,hy,QZ,GX]) k
theorem Xv{d:Nat}{x:Operand}{v0 v1:Value}(hx:WB t x (.tuple #[v0,v1]))(k:WO P tab l ⟨t.set d v0,ds,rd⟩ h Q):WO P tab (⟨some d,none,.extract x 0⟩::l) ⟨t,ds,rd⟩ h Q:=
 WO.op _ _ rfl (by unfold WB at *;simp only[U8,hx];rfl) k
theorem Xd{d:Nat}{x:Operand}{v0 v1:Value}(hx:WB t x (.tuple #[v0,v1]))(k:WO P tab l ⟨t.set d v1,ds,rd⟩ h Q):WO P tab (⟨some d,none,.extract x 1⟩::l) ⟨t,ds,rd⟩ h Q:=
 WO.op _ _ rfl (by unfold WB at *;simp only[U8,hx];rfl) k
theorem Xk{d:Nat}{x:Operand}{v0 v1 v2:Value}(hx:WB t x (.tuple #[v0,v1,v2]))(k:WO P tab l ⟨t.set d v0,ds,rd⟩ h Q):WO P tab (⟨some d,none,.extract x 0⟩::l) ⟨t,ds,rd⟩ h Q:=
 WO.op _ _ rfl (by unfold WB at *;simp only[U8,hx];rfl) k
theorem Xh{d:Nat}{x:Operand}{v0 v1 v2:Value}(hx:WB t x (.tuple #[v0,v1,v2]))(k:WO P tab l ⟨t.set d v1,ds,rd⟩ h Q):WO P tab (⟨some d,none,.extract x 1⟩::l) ⟨t,ds,rd⟩ h Q:=
 WO.op _ _ rfl (by unfold WB at *;simp only[U8,hx];rfl) k
theorem Xg{d:Nat}{x:Operand}{v0 v1 v2:Value}(hx:WB t x (.tuple #[v0,v1,v2]))(k:WO P tab l ⟨t.set d v2,ds,rd⟩ h Q):WO P tab (⟨some d,none,.extract x 2⟩::l) ⟨t,ds,rd⟩ h Q:=
 WO.op _ _ rfl (by unfold WB at *;simp only[U8,hx];rfl) k
theorem XZ{d:Nat}{x:Operand}{v0 v1 v2 v3:Value}(hx:WB t x (.tuple #[v0,v1,v2,v3]))(k:WO P tab l ⟨t.set d v0,ds,rd⟩ h Q):WO P tab (⟨some d,none,.extract x 0⟩::l) ⟨t,ds,rd⟩ h Q:=
 WO.op _ _ rfl (by unfold WB at *;simp only[U8,hx];rfl) k
theorem Xn{d:Nat}{x:Operand}{v0 v1 v2 v3:Value}(hx:WB t x (.tuple #[v0,v1,v2,v3]))(k:WO P tab l ⟨t.set d v1,ds,rd⟩ h Q):WO P tab (⟨some d,none,.extract x 1⟩::l) ⟨t,ds,rd⟩ h Q:=
 WO.op _ _ rfl (by unfold WB at *;simp only[U8,hx];rfl) k
theorem XV{d:Nat}{x:Operand}{v0 v1 v2 v3:Value}(hx:WB t x (.tuple #[v0,v1,v2,v3]))(k:WO P tab l ⟨t.set d v2,ds,rd⟩ h Q):WO P tab (⟨some d,none,.extract x 2⟩::l) ⟨t,ds,rd⟩ h Q:=
 WO.op _ _ rfl (by unfold WB at *;simp only[U8,hx];rfl) k
theorem Xb{d:Nat}{x:Operand}{v0 v1 v2 v3:Value}(hx:WB t x (.tuple #[v0,v1,v2,v3]))(k:WO P tab l ⟨t.set d v3,ds,rd⟩ h Q):WO P tab (⟨some d,none,.extract x 3⟩::l) ⟨t,ds,rd⟩ h Q:=
 WO.op _ _ rfl (by unfold WB at *;simp only[U8,hx];rfl) k
theorem R.lenC{d:Nat}{n:Nat}(k:WO P tab l ⟨t.set d (I n),ds,rd⟩ h Q):WO P tab (⟨some d,none,.lenC n⟩::l) ⟨t,ds,rd⟩ h Q:=
 WO.op _ _ rfl (by simp only[U8]) k
theorem R.nil{d:Nat}{x:Operand}{kind:Nat}{neg b:Bool}{v:Value}(hx:WB t x v)(hn:zFv kind v=some b)(k:WO P tab l ⟨t.set d (.bool (if neg then !b else b)),ds,rd⟩ h Q):WO P tab (⟨some d,none,.isNil kind neg x⟩::l) ⟨t,ds,rd⟩ h Q:=
 WO.op _ _ rfl (by unfold WB at *;simp only[U8,hx,hn,QI]) k
theorem Ul{d:Nat}{x:Operand}{v:Value}{xs:List Int}(hx:WB t x v)(s:WJ h v xs)(k:WO P tab l ⟨t.set d (I xs.length),ds,rd⟩ h Q):WO P tab (⟨some d,none,.len x⟩::l) ⟨t,ds,rd⟩ h Q:=
 WO.op _ _ rfl (by exact Xq hx s) k
theorem Uk{d:Nat}{x:Operand}{v:Value}{α:Type}{c:Nat}{R:U0->List Value->α->Prop}{xs:List α}(hx:WB t x v)(s:Ww c R h v xs)(k:WO P tab l ⟨t.set d (I xs.length),ds,rd⟩ h Q):WO P tab (⟨some d,none,.len x⟩::l) ⟨t,ds,rd⟩ h Q:=
 WO.op _ _ rfl (by exact Xr hx s) k
theorem Uf{d:Nat}{x y:Operand}{v:Value}{n:Int}{i:Nat}{xs:List Int}(hx:WB t x v)(hy:WB t y (I n))(hi:Bs n i)(s:WJ h v xs)(hl:i<xs.length)(k:WO P tab l ⟨t.set d (zv v i),ds,rd⟩ h Q):WO P tab (⟨some d,none,.idx 1 x y⟩::l) ⟨t,ds,rd⟩ h Q:=
 WO.op _ _ rfl (by unfold WB at hy;exact Xe hx (by rw[hy];exact hi) s hl) k
theorem UW{d:Nat}{x y:Operand}{v:Value}{n:Int}{i:Nat}{α:Type}{c:Nat}{R:U0->List Value->α->Prop}{xs:List α}(hx:WB t x v)(hy:WB t y (I n))(hi:Bs n i)(s:Ww c R h v xs)(hl:i<xs.length)(k:WO P tab l ⟨t.set d (zv v (i*c)),ds,rd⟩ h Q):WO P tab (⟨some d,none,.idx c x y⟩::l) ⟨t,ds,rd⟩ h Q:=
 WO.op _ _ rfl (by unfold WB at hy;exact XW hx (by rw[hy];exact hi) s hl) k
theorem UN{d:Nat}{x:Operand}{v:Value}{i:Nat}{xs:List Int}(hx:WB t x (zv v i))(s:WJ h v xs)(hl:i<xs.length)(k:WO P tab l ⟨t.set d (I (xs.getD i 0)),ds,rd⟩ h Q):WO P tab (⟨some d,none,.load false 1 x⟩::l) ⟨t,ds,rd⟩ h Q:=
 WO.op _ _ rfl (by exact XL hx s hl) k
theorem UZ{d:Nat}{x:Operand}{v r:Value}{j n off:Nat}{cs:List Value}(hx:WB t x (zv v (j+off)))(p:We h v j cs)(hn:0<n)(hr:(cut cs off n).bind (zM true)=some r)(k:WO P tab l ⟨t.set d r,ds,rd⟩ h Q):WO P tab (⟨some d,none,.load true n x⟩::l) ⟨t,ds,rd⟩ h Q:=
 WO.op _ _ rfl (by exact We.load hx p hn hr) k
theorem Us{d:Nat}{x:Operand}{v r:Value}{j n off:Nat}{cs:List Value}(hx:WB t x (zv v (j+off)))(p:We h v j cs)(hn:0<n)(hr:(cut cs off n).bind (zM false)=some r)(k:WO P tab l ⟨t.set d r,ds,rd⟩ h Q):WO P tab (⟨some d,none,.load false n x⟩::l) ⟨t,ds,rd⟩ h Q:=
 WO.op _ _ rfl (by exact We.load hx p hn hr) k
theorem UP{d:Nat}{x:Operand}{v r:Value}{j n:Nat}{cs:List Value}(hx:WB t x (zv v j))(p:We h v j cs)(hn:0<n)(hr:(cut cs 0 n).bind (zM true)=some r)(k:WO P tab l ⟨t.set d r,ds,rd⟩ h Q):WO P tab (⟨some d,none,.load true n x⟩::l) ⟨t,ds,rd⟩ h Q:=
 WO.op _ _ rfl (by exact Vs hx p hn hr) k
theorem Un{d:Nat}{x:Operand}{v r:Value}{j n:Nat}{cs:List Value}(hx:WB t x (zv v j))(p:We h v j cs)(hn:0<n)(hr:(cut cs 0 n).bind (zM false)=some r)(k:WO P tab l ⟨t.set d r,ds,rd⟩ h Q):WO P tab (⟨some d,none,.load false n x⟩::l) ⟨t,ds,rd⟩ h Q:=
 WO.op _ _ rfl (by exact Vs hx p hn hr) k
theorem R.fldP{d:Nat}{x:Operand}{v:Value}{j off:Nat}(hx:WB t x (zv v j))(hv:zJ9 v)(k:WO P tab l ⟨t.set d (zv v (j+off)),ds,rd⟩ h Q):WO P tab (⟨some d,none,.fld off x⟩::l) ⟨t,ds,rd⟩ h Q:=
 WO.op _ _ rfl (by exact Go.Am.fldP hx hv) k
theorem UE{d:Nat}{x:Operand}{p:Value}{off:Nat}{h0:U0}{cs:List Value}(hx:WB t x p)(o:U1 h0 h p cs)(k:WO P tab l ⟨t.set d (yG p off),ds,rd⟩ h Q):WO P tab (⟨some d,none,.fld off x⟩::l) ⟨t,ds,rd⟩ h Q:=
 WO.op _ _ rfl (by exact XP hx o) k
theorem Ub{d:Nat}{x:Operand}{p:Value}{j off:Nat}{h0:U0}{cs:List Value}(hx:WB t x (yG p j))(o:U1 h0 h p cs)(k:WO P tab l ⟨t.set d (yG p (j+off)),ds,rd⟩ h Q):WO P tab (⟨some d,none,.fld off x⟩::l) ⟨t,ds,rd⟩ h Q:=
 WO.op _ _ rfl (by exact U1.fld hx o) k
theorem Um{d:Nat}{x y:Operand}{p:Value}{n:Int}{i len:Nat}{kk:IntKind}{h0:U0}{cs:List Value}(hx:WB t x (yG p 0))(o:U1 h0 h p cs)(hy:WB t y (.int kk n))(hi:Bs n i)(hl:i<len)(k:WO P tab l ⟨t.set d (yG p i),ds,rd⟩ h Q):WO P tab (⟨some d,none,.idxArr len 1 x y⟩::l) ⟨t,ds,rd⟩ h Q:=
 WO.op _ _ rfl (by unfold WB at hx hy;have hi2:BE (ev t y)=some i:=(by rw[hy];exact(by cases n<;>rfl:BE (.int kk n)=BE (I n)).trans hi);have:=U1.idxArr (P:=P) (ih:=Ex.bot) (c:=1) hx hi2 o hl;rwa [GC,JF]at this) k
theorem US{d:Nat}{x y:Operand}{p:Value}{n:Int}{i len:Nat}{kk:IntKind}{h0:U0}{cs:List Value}(hx:WB t x p)(o:U1 h0 h p cs)(hy:WB t y (.int kk n))(hi:Bs n i)(hl:i<len)(k:WO P tab l ⟨t.set d (yG p i),ds,rd⟩ h Q):WO P tab (⟨some d,none,.idxArr len 1 x y⟩::l) ⟨t,ds,rd⟩ h Q:=
 WO.op _ _ rfl (by unfold WB at hx hy;have hi2:BE (ev t y)=some i:=(by rw[hy];exact(by cases n<;>rfl:BE (.int kk n)=BE (I n)).trans hi);have:=Vm (P:=P) (ih:=Ex.bot) (c:=1) hx hi2 o hl;rwa [JF]at this) k
theorem UG{d:Nat}{x y:Operand}{p:Value}{n:Int}{i j len:Nat}{kk:IntKind}{h0:U0}{cs:List Value}(hx:WB t x (yG p j))(o:U1 h0 h p cs)(hy:WB t y (.int kk n))(hi:Bs n i)(hl:i<len)(k:WO P tab l ⟨t.set d (yG p (j+i)),ds,rd⟩ h Q):WO P tab (⟨some d,none,.idxArr len 1 x y⟩::l) ⟨t,ds,rd⟩ h Q:=
 WO.op _ _ rfl (by unfold WB at hx hy;have hi2:BE (ev t y)=some i:=(by rw[hy];exact(by cases n<;>rfl:BE (.int kk n)=BE (I n)).trans hi);have:=U1.idxArr (P:=P) (ih:=Ex.bot) (c:=1) hx hi2 o hl;rwa [JF]at this) k
theorem UC{d:Nat}{x:Operand}{p:Value}{q:Nat}{xs:List Int}{h0:U0}(hx:WB t x (yG p q))(o:U1 h0 h p (xs.map I))(hl:q<xs.length)(k:WO P tab l ⟨t.set d (I (xs.getD q 0)),ds,rd⟩ h Q):WO P tab (⟨some d,none,.load false 1 x⟩::l) ⟨t,ds,rd⟩ h Q:=
 WO.op _ _ rfl (by refine U1.load hx o ?_;have h1:(xs.map I).drop q=I xs[q]::(xs.map I).drop (q+1):=(by rw[GO (by simpa using hl),List.getElem_map]);have hc:cut (xs.map I) q 1=some [I (xs.getD q 0)]:=(by rw[ZG (by simp;omega),h1];simp[List.getD,QB hl]);rw[hc];rfl) k
theorem XI{d:Nat}{x:Operand}{p r:Value}{n:Nat}{h0:U0}{cs:List Value}(hx:WB t x p)(o:U1 h0 h p cs)(hr:(cut cs 0 n).bind (zM true)=some r)(k:WO P tab l ⟨t.set d r,ds,rd⟩ h Q):WO P tab (⟨some d,none,.load true n x⟩::l) ⟨t,ds,rd⟩ h Q:=
 WO.op _ _ rfl (by exact Vj hx o hr) k
theorem Xc{d:Nat}{x:Operand}{p r:Value}{n:Nat}{h0:U0}{cs:List Value}(hx:WB t x p)(o:U1 h0 h p cs)(hr:(cut cs 0 n).bind (zM false)=some r)(k:WO P tab l ⟨t.set d r,ds,rd⟩ h Q):WO P tab (⟨some d,none,.load false n x⟩::l) ⟨t,ds,rd⟩ h Q:=
 WO.op _ _ rfl (by exact Vj hx o hr) k
theorem XY{d:Nat}{x:Operand}{p r:Value}{n j:Nat}{h0:U0}{cs:List Value}(hx:WB t x (yG p j))(o:U1 h0 h p cs)(hr:(cut cs j n).bind (zM true)=some r)(k:WO P tab l ⟨t.set d r,ds,rd⟩ h Q):WO P tab (⟨some d,none,.load true n x⟩::l) ⟨t,ds,rd⟩ h Q:=
 WO.op _ _ rfl (by exact U1.load hx o hr) k
theorem UF{d:Nat}{x:Operand}{p r:Value}{n j:Nat}{h0:U0}{cs:List Value}(hx:WB t x (yG p j))(o:U1 h0 h p cs)(hr:(cut cs j n).bind (zM false)=some r)(k:WO P tab l ⟨t.set d r,ds,rd⟩ h Q):WO P tab (⟨some d,none,.load false n x⟩::l) ⟨t,ds,rd⟩ h Q:=
 WO.op _ _ rfl (by exact U1.load hx o hr) k
theorem UD{d:Nat}{x:Operand}{off n:Nat}{r:Value}{cs:Array Value}(hx:WB t x (.agg cs))(hr:(cut cs.toList off n).bind (zM true)=some r)(k:WO P tab l ⟨t.set d r,ds,rd⟩ h Q):WO P tab (⟨some d,none,.part true off n x⟩::l) ⟨t,ds,rd⟩ h Q:=
 WO.op _ _ rfl (by unfold WB at *;simp only[U8,hx,hr,QI]) k
theorem R.part{d:Nat}{x:Operand}{off n:Nat}{r:Value}{cs:Array Value}(hx:WB t x (.agg cs))(hr:(cut cs.toList off n).bind (zM false)=some r)(k:WO P tab l ⟨t.set d r,ds,rd⟩ h Q):WO P tab (⟨some d,none,.part false off n x⟩::l) ⟨t,ds,rd⟩ h Q:=
 WO.op _ _ rfl (by unfold WB at *;simp only[U8,hx,hr,QI]) k
theorem Ud{d:Nat}{len c g:Nat}{y:Operand}{n:Int}{i:Nat}{kk:IntKind}(hy:WB t y (.int kk n))(hi:Bs n i)(hl:i<len)(k:WO P tab l ⟨t.set d (.pointer (some ⟨g,0+i*c,none⟩)),ds,rd⟩ h Q):WO P tab (⟨some d,none,.idxArr len c (.global g) y⟩::l) ⟨t,ds,rd⟩ h Q:=
 WO.op _ _ rfl (by unfold WB at hy;have hb:Nat.ble (i+1) len=true:=QG hl;have hi2:BE (ev t y)=some i:=(by rw[hy];exact(by cases n<;>rfl:BE (.int kk n)=BE (I n)).trans hi);simp only[U8,hi2];simp only[ev,hb,Qn,Qt,cond_true]) k
theorem UO{d:Nat}{x:Operand}{g off n:Nat}{r:Value}{cells:List Value}(hx:WB t x (.pointer (some ⟨g,off,none⟩)))(hg:yW h g=some cells)(hr:(cut cells off n).bind (zM true)=some r)(k:WO P tab l ⟨t.set d r,ds,rd⟩ h Q):WO P tab (⟨some d,none,.load true n x⟩::l) ⟨t,ds,rd⟩ h Q:=
 WO.op _ _ rfl (by unfold WB at *;simp only[U8,hx,hg,Qn,cond_true,Qa,hr,QI]) k
theorem R.agg{d:Nat}{zero:List Value}{parts:List (Nat×Nat×Operand)}{vs:List (Nat×Nat×Value)}{cells:List Value}(hp:Wx t parts vs)(hf:Zg zero vs=some cells)(k:WO P tab l ⟨t.set d (.agg cells.toArray),ds,rd⟩ h Q):WO P tab (⟨some d,none,.build zero parts⟩::l) ⟨t,ds,rd⟩ h Q:=
 WO.op _ _ rfl (by unfold Wx at hp;simp only[U8,hp,hf,QI]) k
theorem Ui{d:Nat}{x:Operand}{p:Value}{h0:U0}{cs:List Value}(hx:WB t x p)(o:U1 h0 h p cs)(k:WO P tab l ⟨t.set d p,ds,rd⟩ h Q):WO P tab (⟨some d,none,.nilCheck x⟩::l) ⟨t,ds,rd⟩ h Q:=
 WO.op _ _ rfl (by unfold WB at *;obtain⟨g,_,_,rfl,_⟩:=o;simp only[U8,hx,zAL,QI]) k
theorem Ue{d:Nat}{x:Operand}{v:Value}{j:Nat}(hx:WB t x (zv v j))(hv:zJ9 v)(k:WO P tab l ⟨t.set d (zv v j),ds,rd⟩ h Q):WO P tab (⟨some d,none,.nilCheck x⟩::l) ⟨t,ds,rd⟩ h Q:=
 WO.op _ _ rfl (by unfold WB at *;obtain⟨a,_,_,rfl⟩:=hv;simp only[U8,hx,zv,zAL,QI]) k
theorem Uv{d:Nat}{x:Operand}{a:Addr}(hx:WB t x (.pointer (some a)))(k:WO P tab l ⟨t.set d (.pointer (some a)),ds,rd⟩ h Q):WO P tab (⟨some d,none,.nilCheck x⟩::l) ⟨t,ds,rd⟩ h Q:=
 WO.op _ _ rfl (by unfold WB at *;simp only[U8,hx,zAL,QI]) k
theorem Uh{d:Nat}{x:Operand}{m:Value}{es:List (Int×Int)}{h0:U0}(hx:WB t x m)(o:BC h0 h m es)(k:WO P tab l ⟨t.set d (I es.length),ds,rd⟩ h Q):WO P tab (⟨some d,none,.lenMap x⟩::l) ⟨t,ds,rd⟩ h Q:=
 WO.op _ _ rfl (by unfold WB at *;obtain⟨g,c,es',_,_,rfl,hg,he⟩:=o;have hl:es'.length=es.length:=(by have:=congrArg List.length he;simpa using this);simp only[U8,hx,hg,hl]) k
theorem Uw{d:Nat}{mm ky:Operand}{z m:Value}{a:Int}{es:List (Int×Int)}{h0:U0}(hx:WB t mm m)(hk:WB t ky (I a))(o:BC h0 h m es)(hl:es.lookup a=none)(k:WO P tab l ⟨t.set d (.tuple #[z,.bool false]),ds,rd⟩ h Q):WO P tab (⟨some d,none,.lookup true z mm ky⟩::l) ⟨t,ds,rd⟩ h Q:=
 WO.op _ _ rfl (by unfold WB at *;obtain⟨g,c,es',_,_,rfl,hg,he⟩:=o;simp only[U8,hx,hk,hg,zCm 0 he hl,Q0]) k
theorem Ut{d:Nat}{mm ky:Operand}{z m:Value}{a v:Int}{es:List (Int×Int)}{h0:U0}(hx:WB t mm m)(hk:WB t ky (I a))(o:BC h0 h m es)(hl:es.lookup a=some v)(k:WO P tab l ⟨t.set d (.tuple #[I v,.bool true]),ds,rd⟩ h Q):WO P tab (⟨some d,none,.lookup true z mm ky⟩::l) ⟨t,ds,rd⟩ h Q:=
 WO.op _ _ rfl (by unfold WB at *;obtain⟨g,c,es',_,_,rfl,hg,he⟩:=o;obtain⟨j,hj⟩:=zFV 0 he hl;simp only[U8,hx,hk,hg,hj,Q0]) k
theorem Up{d:Nat}{f:FuncId}{xs ys:List Operand}{vs us:List Value}(hx:BQ t xs vs)(hy:BQ t ys us)(k:WO P tab l ⟨t.set d (.func (.func f) vs.toArray us.toArray),ds,rd⟩ h Q):WO P tab (⟨some d,none,.mkFunc (.func f) xs ys⟩::l) ⟨t,ds,rd⟩ h Q:=
 WO.op _ _ rfl (by unfold BQ at *;simp only[U8,hx,hy]) k
theorem Uy{d:Option Nat}{j:Nat}{want b:Bool}{op:Wn}(s:Wb t j (.bool b))(hb:b=want)(k:WO P tab (⟨d,none,op⟩::l) ⟨t,ds,rd⟩ h Q):WO P tab (⟨d,some (j,want),op⟩::l) ⟨t,ds,rd⟩ h Q:=
 XM (hb▸s) k
theorem Uo{d j:Nat}{b:Bool}{op:Wn}(s:Wb t j (.bool b))(hb:b=false)(k:WO P tab l ⟨t.set d undef,ds,rd⟩ h Q):WO P tab (⟨some d,some (j,true),op⟩::l) ⟨t,ds,rd⟩ h Q:=by
 subst hb;exact V3 s k
theorem Ux{d j:Nat}{b:Bool}{op:Wn}(s:Wb t j (.bool b))(hb:b=true)(k:WO P tab l ⟨t.set d undef,ds,rd⟩ h Q):WO P tab (⟨some d,some (j,false),op⟩::l) ⟨t,ds,rd⟩ h Q:=by
 subst hb;exact V3 s k
theorem Uz{d j:Nat}{want:Bool}{op:Wn}(s:Wb t j undef)(k:WO P tab l ⟨t.set d undef,ds,rd⟩ h Q):WO P tab (⟨some d,some (j,want),op⟩::l) ⟨t,ds,rd⟩ h Q:=
 XJ s k
theorem VI{d:Option Nat}{j:Nat}{want b:Bool}{op:Wn}(h1:b=true->WO P tab (⟨d,some (j,want),op⟩::l) ⟨t,ds,rd⟩ h Q)(h2:b=false->WO P tab (⟨d,some (j,want),op⟩::l) ⟨t,ds,rd⟩ h Q)(s:Wb t j (.bool b):=by exact YV):
  WO P tab (⟨d,some (j,want),op⟩::l) ⟨t,ds,rd⟩ h Q:=by
 cases b with
 |true=>exact h1 rfl
 |false=>exact h2 rfl
theorem VA{d:Nat}{f:FuncId}{args:List Operand}{as:List Value}{R:Value->U0->Prop}(hc:WC P tab f as h R)(k:∀ v h',R v h'->WO P tab l ⟨t.set d v,ds,rd⟩ h' Q)(ha:BQ t args as:=by exact zJN):
  WO P tab (⟨some d,none,.call (.func f) args⟩::l) ⟨t,ds,rd⟩ h Q:=WO.call ha (hc.mono k)
theorem VV{d:Nat}{f:Operand}{fv:Value}{args:List Operand}{as:List Value}{R:Value->U0->Prop}(hc:WV P tab fv as h R)(k:∀ v h',R v h'->WO P tab l ⟨t.set d v,ds,rd⟩ h' Q)(hf:WB t f fv:=by exact zP)(ha:BQ t args as:=by exact zJN):
  WO P tab (⟨some d,none,.call f args⟩::l) ⟨t,ds,rd⟩ h Q:=Xu hf ha (hc.mono k)
theorem VL{d:Nat}{zero:List Value}(k:∀ p h',Ext h h'->U1 h h' p zero->WO P tab l ⟨t.set d p,ds,rd⟩ h' Q):WO P tab (⟨some d,none,.alloc zero⟩::l) ⟨t,ds,rd⟩ h Q:=XQ k
theorem VH{x y:Operand}{p v:Value}{cells cs:List Value}{n:Nat}{h0:U0}(o:U1 h0 h p cells)(e0:Ext h0 h)(k:∀ h',Ext h0 h'->U1 h0 h' p cs->Wg p h h'->WO P tab l ⟨t,ds,rd⟩ h' Q)
  (hx:WB t x p:=by exact zP) (hy:WB t y v:=by exact zP) (hv:v.cells=cs.toArray:=by rfl) (hn:cs.length=n:=by rfl) (hl:cells.length=n:=by rfl) (h1:zK cs=true:=by rfl):WO P tab (⟨none,none,.store n x y⟩::l) ⟨t,ds,rd⟩ h Q:=
 XD hx hy hv h1 hn o e0 hl k
theorem VT{x y:Operand}{p v:Value}{cells cs:List Value}{n j:Nat}{h0:U0}(o:U1 h0 h p cells)(e0:Ext h0 h)(k:∀ h',Ext h0 h'->U1 h0 h' p (zi cells j cs)->Wg p h h'->WO P tab l ⟨t,ds,rd⟩ h' Q)
  (hx:WB t x (yG p j):=by exact zP) (hy:WB t y v:=by exact zP) (hv:v.cells=cs.toArray:=by rfl) (hn:cs.length=n:=by rfl) (hl:j+n<=cells.length:=by decide) (h1:zK cs=true:=by rfl):WO P tab (⟨none,none,.store n x y⟩::l) ⟨t,ds,rd⟩ h Q:=
 Vr hx hy hv h1 hn o e0 hl k
theorem WO.bl{d n:Nat}{zero:List Value}{parts:List (Nat×Nat×Operand)}{vs:List (Nat×Nat×Value)}(xs:List Int)(k:∀ v h',Ext h h'->WT h h' v xs->WO P tab l ⟨t.set d v,ds,rd⟩ h' Q)
  (hp:Wx t parts vs:=by(repeat (apply Wx.cons;(exact zP)));exact Wx.nil) (hn:xs.length=n:=by rfl) (hf:Zg (zg zero n) vs=some (xs.map I):=by rfl):WO P tab (⟨some d,none,.buildSlice n 1 zero parts⟩::l) ⟨t,ds,rd⟩ h Q:=
 XH xs hn (by unfold Wx at hp;rw[hp];exact hf) k
theorem VO{d:Nat}{x y:Operand}{v w:Value}{xs ys:List Int}{h0:U0}(o:U7 h0 h v xs)(s:WJ h w ys)(e0:Ext h0 h)(hr:xs.length+ys.length<=4294967296)(k:∀ v' h',Ext h0 h'->U7 h0 h' v' (xs++ys)->WO P tab l ⟨t.set d v',ds,rd⟩ h' Q)
  (hx:WB t x v:=by exact zP) (hy:WB t y w:=by exact zP):WO P tab (⟨some d,none,.append 1 x y⟩::l) ⟨t,ds,rd⟩ h Q:=by
 by_cases hne:ys=[]
 ·subst hne;have hsrc:yT 1 h w=some []:=by simpa using Zv s
  have hv:∃ a n k,v=.slice a n k/\(a=none->n=0/\k=0):=by
   rcases o with⟨rfl,_⟩|⟨g,_,_,rfl,_⟩
   ·exact⟨_,_,_,rfl,fun _=>⟨rfl,rfl⟩⟩
   ·exact⟨_,_,_,rfl,fun h=>by cases h⟩
  refine WO.op v h rfl ?_ (k v h e0 (by simpa using o));unfold WB at hx hy;obtain⟨a,n,kk,rfl,ha⟩:=hv;cases a with
  |none=>obtain⟨rfl,rfl⟩:=ha rfl;simp only[U8,hx,hy,yP,hsrc]
  |some a=>simp only[U8,hx,hy,yP,hsrc]
 ·exact XC hx hy o s e0 hne hr fun v' h' a b _=>k v' h' a (.inr b)
theorem Vn{d:Nat}{op:BinOp}{ty:TypeId}{x y:Operand}{a b v:Value}(hp:zX P (do eqGuard op ty x y a b;binOp op ty a b)=some v)(k:WO P tab l ⟨t.set d v,ds,rd⟩ h Q)
  (hx:WB t x a:=by exact zP) (hy:WB t y b:=by exact zP) (hc:(Yd a&&Yd b)=true:=by rfl) (hv:yg v=true:=by rfl):WO P tab (⟨some d,none,.binP op ty x y⟩::l) ⟨t,ds,rd⟩ h Q:=by
 unfold WB at hx hy;refine WO.op v h rfl ?_ k;simp only[U8,hx,hy,hc,cond_true,hp,hv]
def zQT(M:U5 Value->U0->Prop)(ds:List Deferred)(rd:Option Nat):WH->U0->Prop:=fun fr h=>fr.dfs=ds/\fr.round=rd/\M fr.tm h
theorem zBc{ih:Ex}:∀ (a b:List U3) (fr:WH) (h:U0),yr P ih (a++b) fr h=(yr P ih a fr h).bind fun p=>yr P ih b p.1 p.2
 |[],b,fr,h=>rfl
 |o::a,b,fr,h=>by
  simp only[JC,yr];cases yK P ih o fr h with
  |none=>rfl
  |some p=>obtain⟨fr1,h1⟩:=p;exact zBc a b fr1 h1
theorem VR(n:Nat)(M:U5 Value->U0->Prop){ws:List Nat}(h1:WO P tab (l.take n) ⟨t,ds,rd⟩ h (zQT M ds rd))(h2:∀ t' h',zEU ws t t'->M t' h'->WO P tab (l.drop n) ⟨t',ds,rd⟩ h' Q)(hw:(l.take n).filterMap (·.dst)=ws:=by rfl):WO P tab l ⟨t,ds,rd⟩ h Q:=by
 subst hw;unfold WO at h1;obtain⟨fr1,h',⟨q1,q2,q3⟩,ev1⟩:=h1;obtain⟨t1,ds1,rd1⟩:=fr1;simp only at q1 q2 q3;subst q1 q2;have hs:zEU ((l.take n).filterMap (·.dst)) t t1:=by
  intro j hj;obtain⟨N,a⟩:=(show ∃ N,∀ n',N<=n'->_ from by unfold Ev at ev1;exact ev1);exact zCF (a N (QE _)) (fun hm=>by
   have:=ZN hj;rw[List.contains_eq_mem,Gf]at this;exact this hm)
 have:=h2 t1 h' hs q3;unfold WO at this |-;obtain⟨fr2,h2',q,ev2⟩:=this;refine⟨fr2,h2',q,(ev1.and ev2).mono fun k ⟨e1,e2⟩=> ?_⟩;rw[<-GN n l,zBc,e1];exact e2
theorem Vi{d c i:Nat}{x y:Operand}{v r:Value}(hr:ZY c v (some i) none none=some r)(k:WO P tab l ⟨t.set d r,ds,rd⟩ h Q)(hx:WB t x v:=by exact zP)(hy:WB t y (I (i:Int)):=by exact zP):
  WO P tab (⟨some d,none,.slice c x (some y) none none⟩::l) ⟨t,ds,rd⟩ h Q:=by
 unfold WB at hx hy;refine WO.op r h rfl ?_ k;have:BE (I (i:Int))=some i:=rfl;simp only[U8,Bn,hx,hy,this,QI,hr]
theorem Vu{d c i:Nat}{x y:Operand}{v r:Value}(hr:ZY c v none (some i) none=some r)(k:WO P tab l ⟨t.set d r,ds,rd⟩ h Q)(hx:WB t x v:=by exact zP)(hy:WB t y (I (i:Int)):=by exact zP):
  WO P tab (⟨some d,none,.slice c x none (some y) none⟩::l) ⟨t,ds,rd⟩ h Q:=by
 unfold WB at hx hy;refine WO.op r h rfl ?_ k;have:BE (I (i:Int))=some i:=rfl;simp only[U8,Bn,hx,hy,this,QI,hr]
theorem Uj{c:Nat}{zero:List Value}{x:Operand}{v:Value}{h':U0}(hr:zBP c zero v h=some (.tuple #[],h'))(k:WO P tab l ⟨t,ds,rd⟩ h' Q)(hx:WB t x v:=by exact zP):
  WO P tab (⟨none,none,.clearS c zero x⟩::l) ⟨t,ds,rd⟩ h Q:=by
 unfold WB at hx;exact VU (.tuple #[]) h' rfl (by simp only[U8,hx,hr]) k
theorem VF{d:Nat}{x:Operand}{v:Value}(k:∀ p h',Ext h h'->U1 h h' p v.cells.toList->WO P tab l ⟨t.set d p,ds,rd⟩ h' Q)(hx:WB t x v:=by exact zP):
  WO P tab (⟨some d,none,.box x⟩::l) ⟨t,ds,rd⟩ h Q:=UM v.cells.toList (by unfold WB at hx;rw[hx]) k
theorem UU{c:Operand}{x y:WK}{K:WF->WH->U0->Prop}{b:Bool}(s:WB t c (.bool b))(hb:b=true)(h1:WX P tab x ⟨t,ds,rd⟩ h K):WX P tab (.cond c x y) ⟨t,ds,rd⟩ h K:=
 Xo (hb▸s) h1
theorem UT{c:Operand}{x y:WK}{K:WF->WH->U0->Prop}{b:Bool}(s:WB t c (.bool b))(hb:b=false)(h1:WX P tab y ⟨t,ds,rd⟩ h K):WX P tab (.cond c x y) ⟨t,ds,rd⟩ h K:=
 XT (hb▸s) h1
theorem VE{c:Operand}{x y:WK}{K:WF->WH->U0->Prop}{b:Bool}(h1:b=true->WX P tab x ⟨t,ds,rd⟩ h K)(h2:b=false->WX P tab y ⟨t,ds,rd⟩ h K)(s:WB t c (.bool b):=by exact zP):WX P tab (.cond c x y) ⟨t,ds,rd⟩ h K:=
 WX.cond b s h1 h2
theorem U6{k:Nat}{v:Value}(s:Wb t k v:=by(repeat (first|((with_reducible apply Va);rfl)|((with_reducible apply Wb.same);(with_reducible assumption);rfl)));first|with_reducible exact Wb.here|with_reducible assumption|(unfold Wb;with_reducible assumption)|exact Wb.here):zB t k=v:=s
theorem Wc{k i:Nat}(s:Wb t k (I ((i:Int)+1)):=by(repeat (first|((with_reducible apply Va);rfl)|((with_reducible apply Wb.same);(with_reducible assumption);rfl)));first|with_reducible exact Wb.here|with_reducible assumption|(unfold Wb;with_reducible assumption)|exact Wb.here):zB t k=I ((i+1:Nat):Int):=s
def BH(h:U0)(t:U5 Value)(rs:List (Nat×Option (Bool×Nat)))(vs:List Value):Prop:=yN h t rs=some vs
theorem BH.nil:BH h t [] []:=rfl
theorem BH.cons{j:Nat}{v:Value}{rs:List (Nat×Option (Bool×Nat))}{vs:List Value}(s:Wb t j v)(k:BH h t rs vs):BH h t ((j,none)::rs) (v::vs):=by
 unfold BH at *;unfold Wb at s;simp only[yN,Y4,s,k]
theorem Vc{j n:Nat}{p v:Value}{h0:U0}{cs:List Value}{rs:List (Nat×Option (Bool×Nat))}{vs:List Value}(s:Wb t j p)(o:U1 h0 h p cs)(hr:(cut cs 0 n).bind (zM true)=some v)(k:BH h t rs vs):BH h t ((j,some (true,n))::rs) (v::vs):=by
 obtain⟨g,_,_,rfl,hg⟩:=o;unfold BH at *;unfold Wb at s;simp only[yN,Y4,s,ZW hg,Qn,cond_true,Qa,hr,k]
theorem rt{rs:List (Nat×Option (Bool×Nat))}{Q:Value->U0->Prop}{vs:List Value}(hq:Q (one vs) h)(r:BH h t rs vs:=by(repeat (first|(apply BH.cons;(exact YV))|(apply Vc;(exact YV);(with_reducible assumption);(exact zIt))));exact BH.nil):zDn P tab rs Q .ret ⟨t,[],rd⟩ h:=zLh r hq
theorem Bt{rs:List (Nat×Option (Bool×Nat))}{Q:Value->U0->Prop}{vs:List Value}(hq:Q (one vs) h)(r:BH h t rs vs:=by(repeat (first|(apply BH.cons;(exact YV))|(apply Vc;(exact YV);(with_reducible assumption);(exact zIt))));exact BH.nil):zDn P tab rs Q .normal ⟨t,[],rd⟩ h:=zHn r hq
theorem VD{ws:List Nat}{α:Type}{b:WK}{K:WF->WH->U0->Prop}(μ:α->Nat)(I:α->U5 Value->U0->Prop)(x:α)(h0:I x t h)
  (hb:∀ x t' h',zEU ws t t'->I x t' h'->WX P tab b ⟨t',ds,rd⟩ h' (zCZ μ I x ds rd K)) (hw:yA b=ws:=by conv=>(lhs;reduce)):WX P tab (.loop b) ⟨t,ds,rd⟩ h K:=
 Xj μ I x h0 fun x t' h' hs hi=>hb x t' h' (fun j hj=>hs j (by rw[hw];exact ZN hj)) hi
structure Wrap(G:Prop):Prop where
 out:G
theorem go{G' G:Prop}(k:G')(r:Wrap G'->G:=by
  intro hgo;repeat (first|refine WX.seq ?_|refine WX.region ?_|(apply R.mov;(exact zP))|(apply R.add;(exact zP);(exact zP);(omega);(omega))|(apply R.sub;(exact zP);(exact zP);(omega);(omega))|(apply R.mul;(exact zP);(exact zP);(omega);(omega))|(apply R.lss;(exact zP);(exact zP))|(apply R.leq;(exact zP);(exact zP))|(apply R.gtr;(exact zP);(exact zP))|(apply R.geq;(exact zP);(exact zP))|(apply R.eql;(exact zP);(exact zP))|(apply R.neq;(exact zP);(exact zP))|(apply R.not;(exact zP))|(apply Uu;(exact zP);(exact zP))|(apply Uq;(exact zP);(exact zP))|(apply Xs;(exact zP);(omega);(omega))|(apply R.conv;(exact zP))|(apply UQ;(exact zP);(exact zE2);(exact zP))|(apply Xz;(exact zP);(exact zE2);(exact zP))|(apply Xv;(exact zP))|(apply Xd;(exact zP))|(apply Xk;(exact zP))|(apply Xh;(exact zP))|(apply Xg;(exact zP))|(apply XZ;(exact zP))|(apply Xn;(exact zP))|(apply XV;(exact zP))|(apply Xb;(exact zP))|(apply R.lenC)|(apply R.nil;(exact zP);(rfl))|(apply Ul;(exact zP);(exact zPN))|(apply Uk;(exact zP);(with_reducible assumption))|(apply Uf;(exact zP);(exact zP);(exact zKA);(exact zPN);(exact zG1))|(apply UW;(exact zP);(exact zP);(exact zKA);(with_reducible assumption);(exact zG1))|(apply UN;(exact zP);(exact zPN);(exact zG1))|(apply UZ;(exact zP);(with_reducible assumption);(decide);(exact zIt))|(apply Us;(exact zP);(with_reducible assumption);(decide);(rfl))|(apply UP;(exact zP);(with_reducible assumption);(decide);(exact zIt))|(apply Un;(exact zP);(with_reducible assumption);(decide);(rfl))|(apply R.fldP;(exact zP);(with_reducible assumption))|(apply UE;(exact zP);(with_reducible assumption))|(apply Ub;(exact zP);(with_reducible assumption))|(apply Um;(exact zP);(with_reducible assumption);(exact zP);(exact zKA);(exact zG1))|(apply US;(exact zP);(with_reducible assumption);(exact zP);(exact zKA);(exact zG1))|(apply UG;(exact zP);(with_reducible assumption);(exact zP);(exact zKA);(exact zG1))|(apply UC;(exact zP);(with_reducible assumption);(exact zG1))|(apply XI;(exact zP);(with_reducible assumption);(exact zIt))|(apply Xc;(exact zP);(with_reducible assumption);(rfl))|(apply XY;(exact zP);(with_reducible assumption);(exact zIt))|(apply UF;(exact zP);(with_reducible assumption);(rfl))|(apply UD;(exact zP);(exact zIt))|(apply R.part;(exact zP);(rfl))|(apply Ud;(exact zP);(exact zKA);(exact zG1))|(apply UO;(exact zP);(with_reducible assumption);(with_reducible assumption))|(apply R.agg;((repeat (apply Wx.cons;(exact zP)));exact Wx.nil);(exact zQV))|(apply Ui;(exact zP);(with_reducible assumption))|(apply Ue;(exact zP);(with_reducible assumption))|(apply Uv;(exact zP))|(apply Uh;(exact zP);(with_reducible assumption))|(apply Uw;(exact zP);(exact zP);(with_reducible assumption);(with_reducible assumption))|(apply Ut;(exact zP);(exact zP);(with_reducible assumption);(with_reducible assumption))|(apply Up;(exact zJN);(exact zJN))|(apply Uy;(exact YV);(exact zE2))|(apply Uo;(exact YV);(exact zE2))|(apply Ux;(exact YV);(exact zE2))|(apply Uz;(exact YV))|refine WO.nil ?_|refine Zk ?_|refine WX.skip ?_|refine WX.block ?_|refine WX.exit ?_|refine zC1 ?_|refine zBg ?_|refine zEk ?_|refine zAy rfl ?_|refine zEB ?_|refine WX.ret ?_|refine zFA ?_|refine zEK ?_|refine zFS ?_|(apply UU;(exact zP);(exact zE2))|(apply UT;(exact zP);(exact zE2))|refine WX.label ?_|refine WX.goto ?_|refine zEF ?_|refine zDH ?_|refine zDv ?_|refine Ve rfl ?_)
  exact hgo.out):G:=r ⟨k⟩
theorem gr{G' G:Prop}(k:G')(r:Wrap G'->G:=by
  intro hgo;refine go ?_;refine rt ?_;exact hgo.out):G:=r ⟨k⟩
theorem goC{G' G:Prop}(k:G')(r:Wrap G'->G:=by
  intro hgo;repeat (first|refine WX.seq ?_|refine WX.region ?_|refine WO.nil ?_|refine Zk ?_|refine WX.skip ?_|refine WX.block ?_|refine WX.exit ?_|refine zC1 ?_|refine zBg ?_|refine zEk ?_|refine zAy rfl ?_|refine zEB ?_|refine WX.ret ?_|refine zFA ?_|refine zEK ?_|refine zFS ?_|(apply UU;(exact zP);(exact zE2))|(apply UT;(exact zP);(exact zE2))|refine WX.label ?_|refine WX.goto ?_|refine zEF ?_|refine zDH ?_|refine zDv ?_|refine Ve rfl ?_)
  exact hgo.out):G:=r ⟨k⟩
end
section
variable {P:Program}
theorem zL{α β:Type}(x:Sem α)(f:α->Sem β):zX P (x>>=f)=(zX P x).bind fun a=>zX P (f a):=by
 show zX P (x.bind f)=_;induction x with
 |pure a=>rfl
 |program k ih=>simp only[Sem.bind,zX];exact ih _
 |mark m k ih=>simp only[Sem.bind,zX];exact ih
 |_=>simp[Sem.bind,zX]
theorem zF0{α:Type}(a:α):zX P (pure a)=some a:=rfl
theorem yI:zX P program=some P:=rfl
theorem yc{t:TypeId}{d:TypeDesc}(h:P.underlying t=some d):zX P (underlying t)=some d:=by
 unfold underlying;rw[zL,yI];simp only[Qa,h];rfl
def zCW:Value->Value->Bool
 | .int _ a,.int _ b=>a == b
 | .bool a,.bool b=>a == b
 |_,_=>false
def zM2(P:Program)(f:Field):Value->Value->Bool
 | .int k _,.int k' _=>decide (k=k')&&(match P.underlying f.type with|some (.int _)=>true|_=>false)
 | .bool _,.bool _=>(match P.underlying f.type with|some .bool=>true|_=>false)
 |_,_=>false
def zCx(P:Program):List Field->Nat->List Value->List Value->Bool
 |[],_,[],[]=>true
 |f::fs,i,x::xs,y::ys=>(f.name != "_")&&Nat.beq f.offset i&&(match zX P (isAgg f.type)with|some false=>true|_=>false)&&zM2 P f x y&&zCx P fs (i+1) xs ys
 |_,_,_,_=>false
def YU:List Value->List Value->Bool
 |x::xs,y::ys=>zCW x y&&YU xs ys
 |_,_=>true
theorem zK2{f:Field}{x y:Value}{d:Nat}(h:zM2 P f x y=true):zX P (Op.equalIn (d+1) f.type x y)=some (zCW x y):=by
 unfold zM2 at h;split at h
 ·rename_i k a k' b;rw[QJ]at h;obtain⟨h1,h2⟩:=h;have h1:=G7 h1;subst h1;split at h2;case h_2=>cases h2
  rename_i k2 hu;rw[Op.equalIn,zL,yc hu];simp only[Qa,Q0];rfl
 ·split at h;case h_2=>cases h
  rename_i hu;rw[Op.equalIn,zL,yc hu];simp only[Qa];rfl
 ·cases h
theorem zB6{t:TypeId}{cs:Array Value}{off:Nat}{v:Value}(h:(match zX P (isAgg t)with|some false=>true|_=>false)=true)(hv:cs[off]?=some v):zX P (part t cs off)=some v:=by
 have h':zX P (isAgg t)=some false:=by
  split at h
  ·assumption
  ·cases h
 unfold part;rw[zL,h'];simp only[Qa,hv];rfl
theorem zJw{xs ys:Array Value}{n d:Nat}(hn:n=d+1):∀ (l:List Field) (i:Nat) (us vs:List Value),zCx P l i us vs=true->(∀ j,xs[i+j]?=us[j]?)->(∀ j,ys[i+j]?=vs[j]?)->
  zX P (do
   let s <-(forIn l (none,()) fun f (__s:Option Bool×Unit)=>
          if f.name≠ "_" then do
           let __do_lift <-part f.type xs f.offset
           let __do_lift_1 <-part f.type ys f.offset
           let __do_lift <-Op.equalIn n f.type __do_lift __do_lift_1
           if(!__do_lift)=true then pure (ForInStep.done (some false,()))
            else pure (ForInStep.yield (none,()))
          else pure (ForInStep.yield (none,())):Sem (Option Bool×Unit))
   match s.fst with
        |some r=>pure r
        |none=>pure true)=some (YU us vs):=by
 intro l;induction l with
 |nil=>
  intro i us vs hk _ _;cases us with
  |cons _ _=>cases hk
  |nil=>cases vs with
   |cons _ _=>cases hk
   |nil=>rfl
 |cons f l ih=>
  intro i us vs hk hx hy;cases us with
  |nil=>cases hk
  |cons u us=>cases vs with
   |nil=>cases hk
   |cons v vs=>
   simp only[zCx,QJ]at hk;obtain⟨⟨⟨⟨k1,k2⟩,k3⟩,k4⟩,k5⟩:=hk;have hoff:=QL k2;have hname:f.name≠ "_":=by simpa using k1
   have hxu:xs[f.offset]?=some u:=by rw[hoff];simpa using hx 0
   have hyv:ys[f.offset]?=some v:=by rw[hoff];simpa using hy 0
   have ihl:=ih (i+1) us vs k5 (fun j=>by have:=hx (j+1);rw[List.getElem?_cons_succ]at this;rw[<-this];congr 1;omega) (fun j=>by have:=hy (j+1);rw[List.getElem?_cons_succ]at this;rw[<-this];congr 1;omega);have heq:zX P (Op.equalIn n f.type u v)=some (zCW u v):=by rw[hn];exact zK2 k4
   rw[List.forIn_cons];simp only[bind_assoc,zL,QF hname,zB6 k3 hxu,zB6 k3 hyv,Qa,heq];cases he:zCW u v with
   |false=>simp only[YU,he,Qf];rfl
   |true=>
    simp only[YU,he,Qd];rw[<-ihl,zL];rfl
theorem zKv{t:TypeId}{fs:Array Field}{xs ys:Array Value}{x y:Operand}(ht:P.underlying t=some (.struct fs))(hs:P.stoodInHeld t=false)(hg:P.eqGuardType P.depth t=false)(hk:zCx P fs.toList 0 xs.toList ys.toList=true):
  zX P (do eqGuard .eql t x y (.agg xs) (.agg ys);binOp .eql t (.agg xs) (.agg ys))=some (.bool (YU xs.toList ys.toList)):=by
 have h1:zX P (eqGuard .eql t x y (.agg xs) (.agg ys))=some ():=by
  unfold eqGuard;simp only[QW,QZ,GX];rw[zL,yI];simp only[Qa];rw[zL,yI];simp only[Qa,hg,Qg,Q0];rfl
 rw[zL,h1];simp only[Qa];unfold binOp;simp only[];rw[zL];have h2:zX P (Op.equal t (.agg xs) (.agg ys))=some (YU xs.toList ys.toList):=by
  unfold Op.equal Op.maxDepth;rw[show(10000:Nat)=9999+1 from rfl,Op.equalIn,zL,yc ht];simp only[Qa];rw[zL,yI];simp only[Qa,hs,QZ,GX];have:=zJw (P:=P) (xs:=xs) (ys:=ys) (n:=9999) (d:=9998) rfl fs.toList 0 xs.toList ys.toList hk (fun j=>by simp) (fun j=>by simp);rw[<-this,<-Array.forIn_toList,zL,zL];congr 1;funext s;obtain⟨a,_⟩:=s;cases a<;>rfl
 rw[h2];rfl
def chk(P:Program)(t:TypeId)(xs ys:List Value):Bool:=
 (match P.underlying t with|some (.struct fs)=>zCx P fs.toList 0 xs ys|_=>false)&& !P.stoodInHeld t&& !P.eqGuardType P.depth t
theorem zIJ{t:TypeId}{xs ys:Array Value}{x y:Operand}{b:Bool}(h:chk P t xs.toList ys.toList=true)(hb:YU xs.toList ys.toList=b):zX P (do eqGuard .eql t x y (.agg xs) (.agg ys);binOp .eql t (.agg xs) (.agg ys))=some (.bool b):=by
 subst hb;unfold chk at h;simp only[QJ,Gk]at h;obtain⟨⟨h1,h2⟩,h3⟩:=h;split at h1;case h_2=>cases h1
 rename_i fs hu;exact zKv hu h2 h3 h1
end
section
variable {P:Program}
theorem zKX{t:TypeId}{fs:Array Field}{xs ys:Array Value}{x y:Operand}(ht:P.underlying t=some (.struct fs))(hs:P.stoodInHeld t=false)(hg:P.eqGuardType P.depth t=false)(hk:zCx P fs.toList 0 xs.toList ys.toList=true):
  zX P (do eqGuard .neq t x y (.agg xs) (.agg ys);binOp .neq t (.agg xs) (.agg ys))=some (.bool (!YU xs.toList ys.toList)):=by
 have h1:zX P (eqGuard .neq t x y (.agg xs) (.agg ys))=some ():=by
  unfold eqGuard;simp only[QW,QZ,GX];rw[zL,yI];simp only[Qa];rw[zL,yI];simp only[Qa,hg,Qg,Q0];rfl
 rw[zL,h1];simp only[Qa];unfold binOp;simp only[];rw[zL];have h2:zX P (Op.equal t (.agg xs) (.agg ys))=some (YU xs.toList ys.toList):=by
  unfold Op.equal Op.maxDepth;rw[show(10000:Nat)=9999+1 from rfl,Op.equalIn,zL,yc ht];simp only[Qa];rw[zL,yI];simp only[Qa,hs,QZ,GX];have:=zJw (P:=P) (xs:=xs) (ys:=ys) (n:=9999) (d:=9998) rfl fs.toList 0 xs.toList ys.toList hk (fun j=>by simp) (fun j=>by simp);rw[<-this,<-Array.forIn_toList,zL,zL];congr 1;funext s;obtain⟨a,_⟩:=s;cases a<;>rfl
 rw[h2];rfl
theorem zM5{t:TypeId}{xs ys:Array Value}{x y:Operand}{b:Bool}(h:chk P t xs.toList ys.toList=true)(hb:YU xs.toList ys.toList=b):zX P (do eqGuard .neq t x y (.agg xs) (.agg ys);binOp .neq t (.agg xs) (.agg ys))=some (.bool (!b)):=by
 subst hb;unfold chk at h;simp only[QJ,Gk]at h;obtain⟨⟨h1,h2⟩,h3⟩:=h;split at h1;case h_2=>cases h1
 rename_i fs hu;exact zKX hu h2 h3 h1
end
section
variable {P:Program}{tab:Wo}
def okU(m N0:Nat)(un:List Nat)(cl:Bool)(t:U5 Value)(o:U3)(h h':U0):Prop:=
 (∀ g∈h'.wr,m<=g)/\h.n<=h'.n/\(un=[]\/(cl=true/\h'.wr=[]/\∀ g,zh t o=some g->g<N0))
def WP(P:Program)(tab:Wo)(m N0:Nat):List (U3×List Nat)->Nat->Bool->WH->U0->(WH->U0->Prop)->Prop
 |[],_,_,fr,h,Q=>Q fr h
 |(o,un)::l,g,cl,fr,h,Q=>
  if Nat.beq (zH o.op) 3=true then
   un=[]/\((zS fr.tm o.guard=true/\m<=g/\∃ ob f,yh fr.tm o.op=some (ob,f)/\WP P tab m N0 l (g+1) false (val o.dst fr (f g)) ((inC h).lay g ob) Q)\/
    (zS fr.tm o.guard=false/\WP P tab m N0 l (g+1) cl (val o.dst fr undef) (inC h) Q))
  else WO P tab [o] fr (inC h) fun fr' h'=>okU m N0 un cl fr.tm o h h'/\WP P tab m N0 l g (cl&&h'.wr.isEmpty) fr' h' Q
theorem zKS{m N0:Nat}{un:List Nat}{cl:Bool}{t:U5 Value}{o:U3}{h h':U0}(hk:okU m N0 un cl t o h h'){ws:List (Nat×Nat)}(hw:cl=true->ws=[]){bs:List (Nat×Nat)}(hb:∀ e∈bs,N0<=e.2)(rs:List (Nat×Nat×Option (Nat×Nat×List Value))):
  ((match zh t o with
   |some g=>(ws.all fun x=> !(Nat.beq g x.2&&un.contains x.1))&&bs.all fun x=> !un.contains x.1||Nat.ble (g+1) x.2
   |none=>true)&&rs.all fun x=> !(un.contains x.1&&h'.wr.contains x.2.1)||zEc h' x.2.1 x.2.2)=true:=by
 obtain⟨_,_,rfl|⟨h1,h2,h3⟩⟩:=hk
 ·exact zM8 o ws rs bs t h'
 ·rw[hw h1,h2];have e2:(rs.all fun x=> !(un.contains x.1&&([]:List Nat).contains x.2.1)||zEc h' x.2.1 x.2.2)=true:=by simp
  rw[e2,Qs];cases hr:zh t o with
  |none=>rfl
  |some g=>
   have hg:=h3 g hr;simp only[List.all_nil,Qd];rw[QY];intro x hx;have:Nat.ble (g+1) x.2=true:=QG (QM hg (hb x hx));rw[this,Q2]
theorem WP.run{m N0:Nat}:∀ {ops:List (U3×List Nat)} {g:Nat} {cl:Bool} {fr:WH} {h:U0} {Q:WH->U0->Prop},N0<=h.n->WP P tab m N0 ops g cl fr h Q->
  ∃ fr' h',Q fr' h'/\∀ (i:Nat) (ws:List (Nat×Nat)) (rs:List (Nat×Nat×Option (Nat×Nat×List Value))) (bs:List (Nat×Nat)),(∀ e∈ws,m<=e.2)->(cl=true->ws=[])->(∀ e∈bs,N0<=e.2)->
   ∃ ws',(∀ e∈ws',m<=e.2)/\Ev fun n=>yU P (BI P tab n) ops i g ws rs bs fr h=some (fr',h',ws'):=by
 intro ops;induction ops with
 |nil=>intro g cl fr h Q _ hx;exact⟨fr,h,hx,fun i ws rs bs hw _ _=>⟨ws,hw,Ev.all fun n=>rfl⟩⟩
 |cons x ops ihl=>
  intro g cl fr h Q hn hx;obtain⟨o,un⟩:=x;simp only[WP]at hx;have go:∀ {g':Nat} {cl':Bool} {fr1:WH} {h1:U0},(g'=bif Nat.beq (zH o.op) 3 then g+1 else g)->(cl'=true->cl=true/\h1.wr=[])->(Ev fun n=>yb P (BI P tab n) g o fr (inC h)=some (fr1,h1))->okU m N0 un cl fr.tm o h h1->WP P tab m N0 ops g' cl' fr1 h1 Q->
    ∃ fr' h',Q fr' h'/\∀ (i:Nat) (ws:List (Nat×Nat)) (rs:List (Nat×Nat×Option (Nat×Nat×List Value))) (bs:List (Nat×Nat)),(∀ e∈ws,m<=e.2)->(cl=true->ws=[])->(∀ e∈bs,N0<=e.2)->
     ∃ ws',(∀ e∈ws',m<=e.2)/\Ev fun n=>yU P (BI P tab n) ((o,un)::ops) i g ws rs bs fr h=some (fr',h',ws'):=by
   intro g' cl' fr1 h1 hg hcl ev hk hx;obtain⟨fr',h',q,run⟩:=ihl (QU hn hk.2.1) hx;refine⟨fr',h',q,fun i ws rs bs hws hwc hbs=> ?_⟩;obtain⟨ws',w1,w2⟩:=run (i+1) (h1.wr.map (fun g=>(i,g))++ws) (match zh fr.tm o with
     |some g=>(i,g,zAR fr.tm h o.op)::rs
     |none=>rs) ((i,h.n)::bs) (fun e he=>by
      rcases Qu.1 he with he|he
      ·obtain⟨y,hy,rfl⟩:=Q8.1 he;exact hk.1 y hy
      ·exact hws e he) (fun hc=>by
      obtain⟨c1,c2⟩:=hcl hc;rw[hwc c1,c2];rfl) (fun e he=>by
      rcases GI.1 he with rfl|he
      ·exact hn
      ·exact hbs e he)
   refine⟨ws',w1,(ev.and w2).mono fun n ⟨e1,e2⟩=> ?_⟩;simp only[yU];have e1':yb P (BI P tab n) g o fr {h with mark:=h.n,wr:=[]}=some (fr1,h1):=e1;rw[e1'];have hok:=zKS hk hwc hbs rs;exact(congrArg (fun b:Bool=>bif b then yU P (BI P tab n) ops (i+1) (bif Nat.beq (zH o.op) 3 then g+1 else g) (h1.wr.map (fun g=>(i,g))++ws) (match zh fr.tm o with
     |some g=>(i,g,zAR fr.tm h o.op)::rs
     |none=>rs) ((i,h.n)::bs) fr1 h1 else none) hok).trans (by rw[cond_true,<-hg];exact e2)
  by_cases hk:Nat.beq (zH o.op) 3=true
  ·rw[QF hk]at hx;obtain⟨rfl,⟨hw,hm,ob,f,hmade,hx⟩|⟨hw,hx⟩⟩:=hx;case inr=>
    refine go (g':=g+1) (cl':=cl) (by rw[hk];rfl) (fun h=>⟨h,rfl⟩) (Ev.all fun n=> ?_) (h1:=inC h) ⟨fun x hx=>(by cases hx),(show h.n<=h.n from QE _),.inl rfl⟩ hx;unfold yb;simp only[hk,hw,cond_true,QV]
   refine go (g':=g+1) (cl':=false) (by rw[hk];rfl) (fun h=>by cases h) (Ev.all fun n=> ?_) (h1:=(inC h).lay g ob) ⟨fun x hx=> ?_,(show h.n<=h.n from QE _),.inl rfl⟩ hx
   ·unfold yb;simp only[hk,hw,hmade,cond_true]
   ·rcases yt hx with rfl|hx
    ·exact hm
    ·cases hx
  ·rw[QC hk]at hx;have hk':Nat.beq (zH o.op) 3=false:=by cases hb:Nat.beq (zH o.op) 3 with
    |false=>rfl
    |true=>exact absurd hb hk
   unfold WO at hx;obtain⟨fr1,h1,⟨q1,q2⟩,ev⟩:=hx;refine go (g':=g) (cl':=cl&&h1.wr.isEmpty) (by rw[hk'];rfl) (fun hc=>by
    rw[QJ]at hc;exact⟨hc.1,List.isEmpty_iff.1 hc.2⟩) (ev.mono fun n e=> ?_) q1 q2
   unfold yb;simp only[hk',QV];simp only[yr]at e;cases ha:yK P (BI P tab n) o fr (inC h)with
   |none=>rw[ha]at e;cases e
   |some p=>rw[ha]at e;exact e
def zC(k:Nat)(h:U0):U0:={h with n:=h.n+k}
theorem zI(k:Nat)(h:U0):Ext h (zC k h):=⟨JA _ _,fun _ _=>rfl,fun w g hg=>w g (QU (JA _ _) hg),rfl,fun _=>rfl⟩
theorem VC{ops:List (U3×List Nat)}{fr:WH}{h:U0}{K:WF->WH->U0->Prop}(k:Nat)(hk:zGC ops=k)(hne:ops.isEmpty=false)
  (hx:WP P tab h.mark (h.n+k) ops h.n true fr (inC (zC k h)) (zAv K h)):WX P tab (.regionC ops) fr h K:=by
 subst hk;have hx':WP P tab h.mark (h.n+zGC ops) ops h.n true fr (zC (zGC ops) h) (zAv K h):=by
  cases ops with
  |nil=>cases hne
  |cons x ops=>exact hx
 obtain⟨fr',h',q,run⟩:=WP.run (h:=zC (zGC ops) h) (show h.n+zGC ops<=h.n+zGC ops from QE _) hx';obtain⟨ws',w1,w2⟩:=run 0 [] [] [] (fun e he=>by cases he) (fun _=>rfl) (fun e he=>by cases he);unfold WX;refine⟨.normal,fr',_,q,Ev.up (w2.mono fun n e=> ?_)⟩;rw[zp];simp only[zl,Ye];have e':yU P (BI P tab n) ops 0 h.n [] [] [] fr {h with n:=h.n+(ops.filter fun x=>Nat.beq (zH x.1.op) 3).length}=some (fr',h',ws'):=e;rw[e'];have:((ws'.map (·.2)).filter fun g=> !Nat.ble h.mark g)=[]:=by
  rw[List.filter_eq_nil_iff];intro g hg;obtain⟨y,hy,rfl⟩:=Q8.1 hg;have:Nat.ble h.mark y.2=true:=QG (w1 y hy);simp[this]
 simp[this,outC]
end
section
variable {P:Program}{tab:Wo}{m N0:Nat}{l:List (U3×List Nat)}{o:U3}{un:List Nat}{g:Nat}{cl:Bool}{fr:WH}{h h0 h':U0}{Q:WH->U0->Prop}{K:WF->WH->U0->Prop}{x:U3×List Nat}
def uK2(P:Program)(tab:Wo)(m N0:Nat)(un:List Nat)(t:U5 Value)(o:U3)(h:U0)(l:List (U3×List Nat))(g:Nat)(cl:Bool)(Q:WH->U0->Prop):WH->U0->Prop:=
 fun fr' h'=>okU m N0 un cl t o h h'/\WP P tab m N0 l g (cl&&h'.wr.isEmpty) fr' h' Q
theorem WP.q(hk:Nat.beq (zH o.op) 3=false)(hx:WO P tab [o] fr (inC h) (uK2 P tab m N0 un fr.tm o (inC h) l g cl Q)):WP P tab m N0 ((o,un)::l) g cl fr (inC h) Q:=by
 simp only[WP];rw[QC (by rw[hk];exact Bool.noConfusion)];exact hx
theorem zOp{t:U5 Value}(hx:WP P tab m N0 l g cl fr (inC h) Q):uK2 P tab m N0 [] t o (inC h) l g cl Q fr (inC h):=
 ⟨⟨fun g hg=>(by cases hg),QE _,.inl rfl⟩,by rw[show(cl&&(inC h).wr.isEmpty)=cl from by simp[inC]];exact hx⟩
theorem zDB{t:U5 Value}(hr:∀ g,zh t o=some g->g<N0)(hx:WP P tab m N0 l g true fr (inC h) Q):uK2 P tab m N0 un t o (inC h) l g true Q fr (inC h):=
 ⟨⟨fun g hg=>(by cases hg),QE _,.inr ⟨rfl,rfl,hr⟩⟩,by rw[show(true&&(inC h).wr.isEmpty)=true from by simp[inC]];exact hx⟩
theorem zOr{t:U5 Value}(e:Ext (inC h) h')(hr:zh t o=none)(hx:WP P tab m N0 (x::l) g true fr (inC h') Q):uK2 P tab m N0 un t o (inC h) (x::l) g true Q fr h':=by
 have hw:=e.wrnil;refine⟨⟨fun g hg=>(by rw[hw]at hg;cases hg),e.n,?_⟩,?_⟩
 ·exact .inr ⟨rfl,hw,fun g hg=>by rw[hr]at hg;cases hg⟩
 ·rw[hw];exact hx
theorem zOB{t:U5 Value}(hx:K .normal fr (outC h0 (inC h))):uK2 P tab m N0 [] t o (inC h) [] g cl (zAv K h0) fr (inC h):=⟨⟨fun g hg=>(by cases hg),QE _,.inl rfl⟩,hx⟩
theorem XU{t:U5 Value}{ds:List Deferred}{rd:Option Nat}{zero cs:List Value}{d n:Nat}{y:Operand}{v:Value}(hm:m<=g)(hg:g<h.n)(hz:zero.length=n)(hn:cs.length=n)(h1:zK cs=true)(hv:v.cells=cs.toArray)(hy:ev (t.set d (.pointer (some ⟨g,0,none⟩))) y=v)
  (hx:Q ⟨t.set d (.pointer (some ⟨g,0,none⟩)),ds,rd⟩ ((inC ((inC h).lay g (.row zero true 0))).set g (.row cs true 0))):
  WP P tab m N0 [(⟨some d,none,.alloc zero⟩,[]),(⟨none,none,.store n (.tmp d) y⟩,[])] g cl ⟨t,ds,rd⟩ (inC h) Q:=by
 subst hn;rw[WP,QF (show Nat.beq (zH (Wn.alloc zero)) 3=true from rfl)];refine⟨rfl,.inl ⟨rfl,hm,_,_,rfl,?_⟩⟩;rw[show inC (inC h)=inC h from rfl];rw[WP,QC (show ¬Nat.beq (zH (Wn.store cs.length (.tmp d) y)) 3=true from Bool.noConfusion)];have hget:(inC ((inC h).lay g (.row zero true 0))).get g=some (.row zero true 0):=by
  show((inC h).tab.set g (.row zero true 0)).get g=_;rw[zQ,QF rfl]
 have hst:zo (inC ((inC h).lay g (.row zero true 0))) ⟨g,0,none⟩ cs=some ((inC ((inC h).lay g (.row zero true 0))).set g (.row cs true 0)):=by
  have h2:Nat.ble (0+cs.length) zero.length=true:=QG (by omega);have h3:Nat.ble 0 0=true:=rfl;have h4:zi zero 0 cs=cs:=by simp[zi,hz]
  simp only[zo,hget,h2,h3,h1,h4,Qn,Qt,cond_true]
 refine VU undef ((inC ((inC h).lay g (.row zero true 0))).set g (.row cs true 0)) rfl (by
  simp only[U8];have e1:ev (val (some d) ⟨t,ds,rd⟩ (.pointer (some ⟨g,0,none⟩))).tm (.tmp d)=.pointer (some ⟨g,0,none⟩):=by simp only[val,ev,ze,Q0]
  have e2:ev (val (some d) ⟨t,ds,rd⟩ (.pointer (some ⟨g,0,none⟩))).tm y=v:=hy;have e1':ev (t.set d (.pointer (some ⟨g,0,none⟩))) (.tmp d)=.pointer (some ⟨g,0,none⟩):=e1;simp only[val,e1',hy,hv,Gj,GS,hst,QI,cond_true]) ?_
 refine WO.nil ⟨⟨fun k hk=> ?_,QE _,.inl rfl⟩,hx⟩;have hk2:k∈(inC ((inC h).lay g (.row zero true 0))).log g:=hk;rcases yt hk2 with rfl|hk3
 ·exact hm
 ·cases hk3
theorem zG0{k:Nat}{o o':Wa}(e:Ext (inC (zC 1 h0)) h):Ext h0 (outC h0 ((inC ((inC h).lay h0.n o)).set h0.n o')):=by
 have hn:h0.n+1<=h.n:=e.n;refine⟨by show h0.n<=h.n;omega,fun k hk=> ?_,fun w k hk=> ?_,rfl,fun _=>rfl⟩
 ·show((h.tab.set h0.n o).set h0.n o').get k=_;rw[zQ,QC (by omega),zQ,QC (by omega)];exact e.get k (by show k<h0.n+1;omega)
 ·have hk:h.n<=k:=hk;show((h.tab.set h0.n o).set h0.n o').get k=_;rw[zQ,QC (by omega),zQ,QC (by omega)];exact e.wf (fun j hj=>w j (by have:h0.n+1<=j:=hj;omega)) k hk
theorem zGk{cs:List Value}{o:Wa}(e:Ext (inC (zC 1 h0)) h):U1 h0 (outC h0 ((inC ((inC h).lay h0.n o)).set h0.n (.row cs true 0))) (.pointer (some ⟨h0.n,0,none⟩)) cs:=by
 have hn:h0.n+1<=h.n:=e.n;exact⟨h0.n,QE _,by show h0.n<h.n;omega,rfl,by
  show((h.tab.set h0.n o).set h0.n (.row cs true 0)).get h0.n=_;rw[zQ,QF rfl]⟩
end
section
variable {P:Program}{tab:Wo}{ds:List Deferred}{rd:Option Nat}{h:U0}{l:List U3}{t:U5 Value}
theorem U9{G' G:Prop}(k:G')(r:Wrap G'->G:=by
  intro hgo;first|with_reducible show WP _ _ _ _ (_::_) _ _ _ _ _|refine go ?_
  repeat (first|((apply WP.q;rfl);refine go ?_)|refine zOp ?_|refine zOB ?_)
  first|with_reducible show WP _ _ _ _ (_::_) _ _ _ _ _|refine go ?_
  exact hgo.out):G:=r ⟨k⟩
theorem BM{G' G:Prop}(k:G')(r:Wrap G'->G:=by
  intro hgo;refine U9 ?_;refine rt ?_;exact hgo.out):G:=r ⟨k⟩
theorem XE{m N0 n g d:Nat}{cl:Bool}{y:Operand}{v:Value}{zero cs:List Value}{Q:WH->U0->Prop}(hm:m<=g)(hg:g<h.n)(hx:Q ⟨t.set d (.pointer (some ⟨g,0,none⟩)),ds,rd⟩ ((inC ((inC h).lay g (.row zero true 0))).set g (.row cs true 0)))
  (hy:WB (t.set d (.pointer (some ⟨g,0,none⟩))) y v:=by exact zP) (hv:v.cells=cs.toArray:=by rfl) (hz:zero.length=n:=by rfl) (hn:cs.length=n:=by rfl) (h1:zK cs=true:=by rfl):
  WP P tab m N0 [(⟨some d,none,.alloc zero⟩,[]),(⟨none,none,.store n (.tmp d) y⟩,[])] g cl ⟨t,ds,rd⟩ (inC h) Q:=XU hm hg hz hn h1 hv hy hx
theorem WP.upd{N0 g:Nat}{cl:Bool}{mx kx vx:Operand}{mv:Value}{a b:Int}{es:List (Int×Int)}{h0 hS:U0}{K:WF->WH->U0->Prop}(o:BC h0 hS mv es)(e0:Ext h0 hS)(hm:hS.mark<=h0.n)(hl:es.lookup a=none)
  (k:∀ h1,Ext h0 h1->BC h0 h1 mv (es++[(a,b)])->zMG mv hS h1->K .normal ⟨t,ds,rd⟩ h1) (hmx:WB t mx mv:=by exact zP) (hkx:WB t kx (I a):=by exact zP) (hvx:WB t vx (I b):=by exact zP):
  WP P tab hS.mark N0 [(⟨none,none,.update mx kx vx⟩,[])] g cl ⟨t,ds,rd⟩ (inC (zC 0 hS)) (zAv K hS):=by
 obtain⟨q,c,es',g1,g2,rfl,g4,g5⟩:=o;unfold WB at hmx hkx hvx;have hf:=zCm 0 g5 hl;have g4':(inC (inC (zC 0 hS))).get q=some (.map es' c):=g4;rw[WP,QC (show ¬Nat.beq (zH (Wn.update mx kx vx)) 3=true from Bool.noConfusion)];refine VU undef ((inC (inC (zC 0 hS))).set q (.map (es'++[{key:=I a,val:=I b,born:=c}]) (c+1))) rfl (by simp only[U8,hmx,hkx,hvx,g4',hf]) ?_;refine WO.nil ⟨⟨fun x hx=> ?_,QE _,.inl rfl⟩,?_⟩
 ·have hx2:x∈(inC (inC (zC 0 hS))).log q:=hx;rcases yt hx2 with rfl|hx3
  ·omega
  ·cases hx3
 ·refine k (outC hS ((inC (inC (zC 0 hS))).set q (.map (es'++[{key:=I a,val:=I b,born:=c}]) (c+1)))) ?_ ?_ ?_
  ·refine⟨e0.n,fun j hj=> ?_,fun w j hj=> ?_,e0.mark,fun hmk=>e0.wr hmk⟩
   ·show(hS.tab.set q _).get j=_;rw[zQ,QC (by omega)];exact e0.get j hj
   ·have hj:hS.n<=j:=hj;show(hS.tab.set q _).get j=_;rw[zQ,QC (by omega)];exact e0.wf w j hj
  ·refine⟨q,c+1,es'++[{key:=I a,val:=I b,born:=c}],g1,g2,rfl,?_,by simp[g5]⟩;show(hS.tab.set q _).get q=_;rw[zQ,QF rfl]
  ·refine⟨QE _,fun j _ hj=> ?_⟩;show(hS.tab.set q _).get j=_;rw[zQ,QC (fun e=>hj (by rw[e]))];rfl
theorem zj{x:Operand}{v:Value}(hx:WB t x v:=by exact zP):ev t x=v:=hx
theorem zDc{m N0 n g j:Nat}{un:List Nat}{d:Option Nat}{agg:Bool}{x:Operand}{p:Value}{cs:List Value}{h0 hs:U0}{l:List (U3×List Nat)}{fr:WH}{Q:WH->U0->Prop}(o:U1 h0 hs p cs)(hN:hs.n<=N0)(hx:WP P tab m N0 l g true fr (inC h) Q)
  (hr:WB t x (yG p j):=by exact zP):uK2 P tab m N0 un t ⟨d,none,.load agg n x⟩ (inC h) l g true Q fr (inC h):=by
 refine zDB (fun k hk=> ?_) hx;obtain⟨q,q1,q2,rfl,q3⟩:=o;unfold WB yG at hr;simp only[zh,zS,cond_true,hr,QA]at hk;omega
end
section
variable {P:Program}{tab:Wo}{t:U5 Value}{h:U0}{ds:List Deferred}{rd:Option Nat}{l:List U3}{Q:WH->U0->Prop}
def fl(n:Int):Value:= .float .f64 (FloatKind.nearest .f64 n)
end
open Go.RowKit
section
variable {H:Type}
theorem zGZ{enc:TypeId×Value->H}{a:Assume}{C:Checked}{os:Os}{f:FuncId}{fn:Func}{s:ChangeSpec}{conds:List PathCond}{apart fresh handsOn again:Bool}{X:World->Array Value->Prop}
  (hX:∀ (w w':World) (args:Array Value),w.heap=w'.heap->X w args->X w' args)
  (own:ownKnob C.prog.godebug=none) (started:os.Started) (noInit:C.prog.inits.idxOf? f=none) (hfn:C.prog.funcs[f]?=some fn)
  (witness:∃ (w:World) (tape:Tape) (i:Input),w.os=os/\(w.forCall tape i).Shaped C.prog/\i.vars=[]/\Input.okWide C.prog (w.forCall tape i) .any w.heap.size f i/\
   ((s.pre enc C.prog fn conds apart (w.forCall tape i).memory i.args/\X (w.forCall tape i).memory i.args)/\sizedMet enc C.prog fn (OpenSpec.ofChange s) apart (w.forCall tape i).memory i.args)/\a.holds C.prog (lone (Frame.enter C.prog f i.args .normal) [] (w.forCall tape i)))
  (contract:∀ (W:World) (base:Nat) (args:Array Value) (ds gs:List (DataW H)) (before:List MemPlace),
   (∀ (j:Nat) t v,fn.params[j]?=some t->args[j]?=some v->Value.okWide C.prog W .any base t v)->
   DataW.Whole enc C.prog fn.params.toList s.vars apart W args.toList ds gs before->
   (DataW.weightsEach C.prog (fn.params.toList++(OpenSpec.ofChange s).bare.plain.varTypes C.prog) (ds++gs)).all (·<=reachBytes)=true->X W args->W.ShapedOpen C.prog->
   Calls C.prog f args W fun e W'=>∃ v,e=.returned v/\s.post enc C.prog fn apart fresh handsOn again W args v W'):
  ReturnsInHanded a C os f .any (fun w args=>(s.pre enc C.prog fn conds apart w args/\X w args)/\sizedMet enc C.prog fn (OpenSpec.ofChange s) apart w args) (s.post enc C.prog fn apart fresh handsOn again):=by
 refine returnsInHanded_of_calls own started noInit witness ?_;intro w tape i _ hsh _ hok hpre _;obtain⟨_,_,_,fn',hfn',_,_,_,_,hval⟩:=hok;have e:fn'=fn:=GJ (hfn'.symm.trans hfn);subst e;obtain⟨⟨_,hx⟩,_,ds,gs,before,hw,hsz⟩:=hpre;have hw':=DataW.Whole.of_heap (w':=w.forCall tape i) (by rfl) hw;refine(contract (w.forCall tape i) w.heap.size i.args ds gs before hval hw' hsz (hX _ _ _ (by rfl) hx) hsh).mono fun e W' ⟨v,he,hp⟩=> ?_;subst he;exact ChangeSpec.post_blind hp
def Wy(P:Program)(t:TypeId)(d:DataW H):Prop:=∀ n∈DataW.weights P t d,n<=reachBytes
variable {P:Program}{h:U0}
theorem zDr:∀ {ts:List TypeId} {ds:List (DataW H)},(∀ n∈DataW.weightsEach P ts ds,n<=reachBytes)->∀ (i:Nat) t d,ts[i]?=some t->ds[i]?=some d->Wy P t d
 |[],_,_,i,t,d,ht,_=>by simp at ht
 |_::_,[],_,i,t,d,_,hd=>by simp at hd
 |t::ts,d::ds,hw,0,_,_,ht,hd=>by
  simp at ht hd;subst ht hd;exact fun n hn=>hw n (by unfold DataW.weightsEach;simp[hn])
 |t::ts,d::ds,hw,i+1,_,_,ht,hd=>
  zDr (ts:=ts) (ds:=ds) (fun n hn=>hw n (by unfold DataW.weightsEach;simp[hn])) i _ _ (by simpa using ht) (by simpa using hd)
theorem zJQ{e:TypeId}:∀ {ds:List (DataW H)},(∀ n∈DataW.weightsAll P e ds,n<=reachBytes)->∀ (i:Nat) d,ds[i]?=some d->Wy P e d
 |[],_,i,d,hd=>by simp at hd
 |d::ds,hw,0,_,hd=>by
  simp at hd;subst hd;exact fun n hn=>hw n (by unfold DataW.weightsAll;simp[hn])
 |d::ds,hw,i+1,_,hd=>zJQ (ds:=ds) (fun n hn=>hw n (by unfold DataW.weightsAll;simp[hn])) i _ (by simpa using hd)
theorem zFn{t e:TypeId}{elems spare:List (DataW H)}(ht:P.underlying t=some (.slice e))(hw:Wy P t (.slice elems spare)):elems.length*P.bytesOf e<=reachBytes/\∀ (i:Nat) d,elems[i]?=some d->Wy P e d:=by
 unfold Wy at hw;unfold DataW.weights at hw;rw[ht]at hw;simp only at hw;refine⟨?_,zJQ fun n hn=>hw n (by simp[hn])⟩;have:=hw _ (Qi ..);exact QU (GP _ (JA _ _)) this
theorem zIg{t:TypeId}{fs:Array Field}{parts:List (DataW H)}(ht:P.underlying t=some (.struct fs))(hw:Wy P t (.agg parts))(i:Nat)(f:Field)(d:DataW H)(hf:fs[i]?=some f)(hd:parts[i]?=some d):Wy P f.type d:=by
 unfold Wy at hw;unfold DataW.weights at hw;rw[ht]at hw;exact zDr hw i f.type d (by simp[hf]) hd
theorem zAN{α:Type}{c:Nat}{R:U0->List Value->α->Prop}{t e:TypeId}{acs:List Value}{d:DataW H}(r:Rd P h t acs d)(ht:P.underlying t=some (.slice e))(hc:P.cellsOf e=c)(hb:1<=P.bytesOf e)(hw:Wy P t d)
  (hR:∀ cs (d:DataW H),Rd P h e cs d->Wy P e d->∃ a,R h cs a):∃ av l,acs=[av]/\Ww c R h av l/\(l.length:Int)<=1152921504606846976:=by
 subst hc;rcases zEt r ht with⟨rfl,_⟩|⟨a,sp,rfl,_⟩|⟨g,cells,elems,sp,rfl,rfl,hg,hn,hl,hm,hr⟩
 ·exact⟨_,[],rfl,Ww.nil,by simp⟩
 ·exact⟨_,[],rfl,⟨[],⟨by simp,.inl ⟨rfl,.inr ⟨_,_,rfl⟩⟩⟩,fun i a ha=>by simp at ha⟩,by simp⟩
 ·obtain⟨w1,w2⟩:=zFn ht hw;obtain⟨l,h1,h2⟩:=zN4 (p:=fun i a=>R h ((cells.drop (i*P.cellsOf e)).take (P.cellsOf e)) a) elems.length fun i hi=>hR _ _ (hr i _ (QB hi)) (w2 i _ (QB hi));refine⟨_,l,rfl,⟨cells,⟨by rw[h1];exact hl,.inr ⟨g,0,cells,by rw[h1],by simp[yW,hg],?_,hn⟩⟩,h2⟩,?_⟩
  ·rw[h1,<-hl];simp[cut,QG (QE _)]
  ·have:elems.length<=elems.length*P.bytesOf e:=Nat.le_mul_of_pos_right _ hb;unfold reachBytes at w1;rw[h1];omega
theorem zDt{t e:TypeId}{acs:List Value}{d:DataW H}(r:Rd P h t acs d)(ht:P.underlying t=some (.slice e))(he:P.underlying e=some (.int .i64))(hc:P.cellsOf e=1)(hb:1<=P.bytesOf e)(hw:Wy P t d):
  ∃ av l,acs=[av]/\WJ h av l/\(l.length:Int)<=1152921504606846976/\∀ a∈l,(Lit.int .i64 a).wf=true:=by
 obtain⟨av,l,h1,h2,_,h4⟩:=zN7 r ht he hc;refine⟨av,l,h1,h2,?_,h4⟩;rcases zEt r ht with⟨rfl,_⟩|⟨a,sp,rfl,_⟩|⟨g,cells,elems,sp,rfl,rfl,_⟩
 ·cases h1;have:=h2.len (P:=P) (ih:=Ex.bot) (t:= .leaf) (x:= .const (.slice none 0 0)) rfl;rcases h2 with⟨_,⟨h0,_⟩|⟨g,off,row,hv,_⟩⟩
  ·omega
  ·cases hv
 ·cases h1;rcases h2 with⟨_,⟨h0,_⟩|⟨g,off,row,hv,_⟩⟩
  ·omega
  ·injection hv with _ e2 _;omega
 ·cases h1;obtain⟨w1,_⟩:=zFn ht hw;have hle:elems.length<=elems.length*P.bytesOf e:=Nat.le_mul_of_pos_right _ hb;unfold reachBytes at w1;rcases h2 with⟨_,⟨h0,_⟩|⟨g,off,row,hv,_⟩⟩
  ·omega
  ·injection hv with _ e2 _;omega
theorem Zf{t:TypeId}{fs:Array Field}{acs:List Value}{d:DataW H}(r:Rd P h t acs d)(ht:P.underlying t=some (.struct fs))(hw:Wy P t d):
  acs.length=P.cellsOf t/\∀ (i:Nat) (f:Field),fs[i]?=some f->∃ d:DataW H,Rd P h f.type ((acs.drop f.offset).take (P.cellsOf f.type)) d/\Wy P f.type d:=by
 cases r with
 |int n ht' wf=>rw[ht]at ht';cases ht'
 |bool _ ht'=>rw[ht]at ht';cases ht'
 |string _ ht'=>rw[ht]at ht';cases ht'
 |snil ht'=>rw[ht]at ht';cases ht'
 |szero a sp ht'=>rw[ht]at ht';cases ht'
 |slice g cells elems sp ht' hg hn hl hm hr=>rw[ht]at ht';cases ht'
 |array _ _ ht'=>rw[ht]at ht';cases ht'
 |struct cells parts ht' hl hp hr=>
  rw[ht]at ht';cases ht';refine⟨hl,fun i f hf=> ?_⟩;have hi:i<parts.length:=by rw[hp];exact(G2.1 hf).1
  exact⟨_,hr i f _ hf (QB hi),zIg ht hw i f _ hf (QB hi)⟩
end
section
variable {H:Type}{P:Program}{h:U0}
end
def Wl(h:U0)(g:Nat)(o:Wa):Prop:=g<h.n/\h.get g=some o
def zJY:Wa->Bool
 | .loop .. | .deferred .. =>true
 |_=>false
theorem Wl.ext{h h':U0}{g:Nat}{o:Wa}(k:Wl h g o)(e:Ext h h'):Wl h' g o:=⟨QM k.1 e.n,(e.get g k.1).trans k.2⟩
theorem Wl.updC{h0 h h':U0}{g:Nat}{o:Wa}{p:Value}{cs:List Value}(k:Wl h g o)(hr:zJY o=true)(w:U1 h0 h p cs)(u:Wg p h h'):Wl h' g o:=by
 refine⟨QM k.1 u.1,(u.2 g k.1 fun e=> ?_).trans k.2⟩;obtain⟨g2,_,_,rfl,hg⟩:=w;cases e;have:=k.2;rw[hg]at this;cases this;cases hr
theorem Wl.upd{h0 h h':U0}{g:Nat}{o:Wa}{v:Value}{xs:List Int}(k:Wl h g o)(hr:zJY o=true)(w:U7 h0 h v xs)(u:BP v h h'):Wl h' g o:=by
 refine⟨QM k.1 u.1,(u.2 g k.1 fun a n c hv e=> ?_).trans k.2⟩;rcases w with⟨rfl,_⟩|⟨g2,_,_,rfl,hg⟩
 ·cases hv
 ·cases hv;simp only at e;subst e;have:=k.2;rw[hg]at this;cases this;cases hr
theorem Wl.set{h:U0}{g l:Nat}{o p:Wa}(k:Wl h g o)(hne:g≠l):Wl (h.set l p) g o:=⟨k.1,by rw[zt,QC hne];exact k.2⟩
theorem Wl.self{h:U0}{g:Nat}{o p:Wa}(k:Wl h g o):Wl (h.set g p) g p:=⟨k.1,by rw[zt,QF rfl]⟩
theorem U1.setR{h0 h:U0}{p:Value}{cs:List Value}{l:Nat}{o o':Wa}(w:U1 h0 h p cs)(k:Wl h l o)(hr:zJY o=true):U1 h0 (h.set l o') p cs:=by
 obtain⟨g,a,b,c,d⟩:=w;refine⟨g,a,b,c,?_⟩;rw[zt,QC (fun e=> ?_)]
 ·exact d
 ·subst e;have:=k.2;rw[d]at this;cases this;cases hr
theorem U7.setR{h0 h:U0}{v:Value}{xs:List Int}{l:Nat}{o o':Wa}(w:U7 h0 h v xs)(k:Wl h l o)(hr:zJY o=true):U7 h0 (h.set l o') v xs:=by
 rcases w with w|⟨g,a,b,c,d⟩
 ·exact .inl w
 ·refine .inr ⟨g,a,b,c,?_⟩;rw[zt,QC (fun e=> ?_)]
  ·exact d
  ·subst e;have:=k.2;rw[d]at this;cases this;cases hr
theorem ZT{t:U5 Value}{d:Option Nat}{g:Option (Nat×Bool)}{f:Operand}{args:List Operand}:zh t ⟨d,g,.call f args⟩=none:=by
 unfold zh;cases zS t g<;>rfl
section
variable {P:Program}{tab:Wo}{m N0 g:Nat}{un:List Nat}{t:U5 Value}{h h':U0}{x:U3×List Nat}{l:List (U3×List Nat)}{fr:WH}{Q:WH->U0->Prop}
theorem nE{d:Option Nat}{gd:Option (Nat×Bool)}{f:Operand}{as:List Operand}(e:Ext (inC h) h')(hx:WP P tab m N0 (x::l) g true fr (inC h') Q):WO P tab [] fr h' (uK2 P tab m N0 un t ⟨d,gd,.call f as⟩ (inC h) (x::l) g true Q):=WO.nil (zOr e ZT hx)
theorem nQ{cl:Bool}{o:U3}(hx:WP P tab m N0 l g cl fr (inC h) Q):WO P tab [] fr (inC h) (uK2 P tab m N0 [] t o (inC h) l g cl Q):=WO.nil (zOp hx)
end
section
variable {P:Program}{tab:Wo}
attribute [local semireducible] WX WV WC Ev
def zPY(l:Nat)(Q:Value->U0->Prop):WF->WH->U0->Prop
 | .normal,fr,h2=>fr.dfs=[]/\∃ r2,Wl h2 l (.loop r2)/\Q (.bool true) (h2.set l (.loop {r2 with state:= .ready,pending:=none}))
 |_,_,_=>False
def zOW(P:Program)(tab:Wo)(l:Nat)(r:Wr)(h0:U0)(Q:Value->U0->Prop):WF->WH->U0->Prop
 | .normal,fr,h=>h=h0/\WX P tab r.body fr (h.set l (.loop {r with state:= .busy})) (zPY l Q)
 |_,_,_=>False
theorem WV.yield{l args h Q a b}{r:Wr}(hl:Wl h l (.loop r))(hr:r.state=.ready)(hn:Nat.beq args.length r.params.length=true)
  (hx:WX P tab r.assign ⟨zDF r.params args r.tm,[],some l⟩ h (zOW P tab l r h Q)):WV P tab (.func (.yield l) a b) args h Q:=by
 obtain⟨e,fr,h1,k,ev⟩:=hx;cases e with
 |normal=>
  obtain⟨rfl,e2,fr2,h2,k2,ev2⟩:=k;cases e2 with
  |normal=>
   obtain⟨kd,r2,hl2,hq⟩:=k2;refine⟨_,_,hq,(ev.and ev2).mono fun n ⟨x1,x2⟩=> ?_⟩;have h1:=hl.2;have h2:=hl2.2;simp only[zBE,h1,hn,cond_true,zCo,x1,hr,x2,kd,h2,Zo]
  |exit i=>exact k2.elim
  |goto i=>exact k2.elim
  |ret=>exact k2.elim
 |exit i=>exact k.elim
 |goto i=>exact k.elim
 |ret=>exact k.elim
def zND(t:U5 Value)(ps:List Nat)(a b:WK)(d:Nat):Wr:={state:= .ready,pending:=none,fn:=0,tm:=t,params:=ps,assign:=a,body:=b,defers:=d}
def zDO(h:U0)(t:U5 Value)(ps:List Nat)(a b:WK):U0:=(h.push (.deferred (some []))).push (.loop (zND t ps a b h.n))
theorem zKh(h:U0)(t ps a b):Ext h (zDO h t ps a b):=((Ext.refl h).push _).push _
theorem zJ7(h:U0)(t ps a b):Wl (zDO h t ps a b) h.n (.deferred (some [])):=by
 refine⟨by simp[zDO,U0.push];omega,?_⟩;unfold zDO;rw[zT,QC (by simp[U0.push]),zT,QF rfl]
theorem zIC(h:U0)(t ps a b):Wl (zDO h t ps a b) (h.n+1) (.loop (zND t ps a b h.n)):=by
 refine⟨by simp[zDO,U0.push],?_⟩;unfold zDO;rw[zT,QF (by simp[U0.push])]
theorem XK{f ps a b t ds h K}(hx:WV P tab (ev t f) [.func (.yield (h.n+1)) #[] #[]] (zDO h t ps a b) fun _ h2=>∃ r,Wl h2 (h.n+1) (.loop r)/\r.state=.ready/\r.pending=none/\
   K .normal ⟨t,{target:= .collected h.n,args:=#[]}::ds,none⟩ (h2.set (h.n+1) (.loop {r with state:= .exhausted}))):WX P tab (.rangeFunc f ps a b) ⟨t,ds,none⟩ h K:=by
 obtain⟨v,h2,⟨r,hl,hs,hp,hk⟩,ev⟩:=hx;refine⟨_,_,_,hk,Ev.up (ev.mono fun n e=> ?_)⟩;rw[zp];simp only[zl,zBv,zAl];have hn:(h.push (.deferred (some []))).n=h.n+1:=rfl;have e':zBE (BI P tab n) (Am.ev t f) [.func (.yield (h.push (.deferred (some []))).n) #[] #[]] ((h.push (.deferred (some []))).push (.loop {state:= .ready,pending:=none,fn:=0,tm:=t,params:=ps,assign:=a,body:=b,defers:=h.n}))=some (v,h2):=e;rw[e'];have hl2:=hl.2;simp only[hn,hl2,hs,hp,List.singleton_append]
theorem zG6{rs Q t rd h g}(hg:Wl h g (.deferred (some [])))(hx:zDn P tab rs Q .ret ⟨t,[],rd⟩ (h.set g (.deferred none))):zDn P tab rs Q .ret ⟨t,[{target:= .collected g,args:=#[]}],rd⟩ h:=by
 unfold zDn at *;exact WD.collected hg.2 hx
theorem Vq{h:U0}{t:U5 Value}{j n:Nat}{p v:Value}{h0:U0}{cs:List Value}{rs:List (Nat×Option (Bool×Nat))}{vs:List Value}(s:Wb t j p)(o:U1 h0 h p cs)(hr:(cut cs 0 n).bind (zM false)=some v)(k:BH h t rs vs):BH h t ((j,some (false,n))::rs) (v::vs):=by
 obtain⟨g,_,_,rfl,hg⟩:=o;unfold BH at *;unfold Wb at s;simp only[yN,Y4,s,ZW hg,Qn,cond_true,Qa,hr,k]
structure Ready(r:Wr)(t:U5 Value)(ps:List Nat)(a b:WK):Prop where
 st:r.state=.ready
 pd:r.pending=none
 tm:r.tm=t
 ps:r.params=ps
 as:r.assign=a
 bd:r.body=b
def busy(r:Wr):Wr:={r with state:= .busy}
def zPU(L:Nat)(r:Wr)(Q:Value->U0->Prop):WF->WH->U0->Prop
 | .normal,fr,h2=>fr.dfs=[]/\Wl h2 L (.loop (busy r))/\Q (.bool true) (h2.set L (.loop r))
 |_,_,_=>False
theorem zDK{L r Q t rd h}(hl:Wl h L (.loop (busy r)))(hq:Q (.bool true) (h.set L (.loop r))):zPU L r Q .normal ⟨t,[],rd⟩ h:=⟨rfl,hl,hq⟩
def zP9(P:Program)(tab:Wo)(L:Nat)(r:Wr)(b:WK)(h:U0)(Q:Value->U0->Prop):WF->WH->U0->Prop
 | .normal,fr,h'=>h'=h/\WX P tab b fr (h.set L (.loop (busy r))) (zPU L r Q)
 |_,_,_=>False
theorem zDN{L r b h Q fr}(hx:∀ h',h'=h.set L (.loop (busy r))->WX P tab b fr h' (zPU L r Q)):zP9 P tab L r b h Q .normal fr h:=⟨rfl,hx _ rfl⟩
theorem V5{L args h Q t ps a b x y}{r:Wr}(hl:Wl h L (.loop r))(hr:Ready r t ps a b)(hn:Nat.beq args.length ps.length=true)
  (hx:WX P tab a ⟨zDF ps args t,[],some L⟩ h (zP9 P tab L r b h Q)):WV P tab (.func (.yield L) x y) args h Q:=by
 obtain⟨h1,h2,rfl,rfl,rfl,rfl⟩:=hr;refine WV.yield hl h1 hn ?_;refine WX.mono hx fun e fr h' k=> ?_;cases e with
 |normal=>
  refine⟨k.1,?_⟩;obtain⟨e1,k⟩:=k;subst e1;refine WX.mono k fun e fr h' k=> ?_;cases e with
  |normal=>
   obtain⟨k1,k2,k3⟩:=k;refine⟨k1,_,k2,?_⟩;have:({busy r with state:= .ready,pending:=none}:Wr)=r:=by
    cases r;simp only[busy]at *;simp_all
   rw[this];exact k3
  |exit i=>exact k.elim
  |goto i=>exact k.elim
  |ret=>exact k.elim
 |exit i=>exact k.elim
 |goto i=>exact k.elim
 |ret=>exact k.elim
theorem Vz{f ps a b t ds h K}{fv:Value}(hx:∀ (L g:Nat) (r:Wr) (hO:U0),Ready r t ps a b->Ext h hO->h.n<=L->h.n<=g->Wl hO L (.loop r)->Wl hO g (.deferred (some []))->
   WV P tab fv [.func (.yield L) #[] #[]] hO fun _ h2=>Wl h2 L (.loop r)/\∀ r3,K .normal ⟨t,{target:= .collected g,args:=#[]}::ds,none⟩ (h2.set L (.loop r3))) (hf:WB t f fv:=by exact zj):WX P tab (.rangeFunc f ps a b) ⟨t,ds,none⟩ h K:=by
 refine XK ?_;have hf:Am.ev t f=fv:=hf;rw[hf];refine WV.mono (hx (h.n+1) h.n _ _ ⟨rfl,rfl,rfl,rfl,rfl,rfl⟩ (zKh h t ps a b) (GU _) (QE _) (zIC ..) (zJ7 ..)) fun _ h2 ⟨k1,k2⟩=> ?_;exact⟨_,k1,rfl,rfl,k2 _⟩
end
structure WE(p:Prop):Prop where
 out:p
def swp(xs:List Int)(i j:Int):List Int:=(xs.set i.toNat (xs.getD j.toNat 0)).set j.toNat (xs.getD i.toNat 0)
abbrev WA(xs:List Int)(i:Int):Int:=xs.getD i.toNat 0
theorem zIb(xs:List Int)(i j:Int):(swp xs i j).length=xs.length:=by simp[swp]
theorem zBK{xs:List Int}{i:Nat}{v:Int}{k:Nat}(hi:i<xs.length):(xs.set i v).getD k 0=if k=i then v else xs.getD k 0:=by
 simp only[QH,List.getElem?_set];by_cases h:i=k
 ·subst h;simp[hi]
 ·rw[QC h,QC (fun e=>h e.symm)]
theorem yY{xs:List Int}{i j k:Int}(hi:0<=i/\i<xs.length)(hj:0<=j/\j<xs.length)(hk:0<=k):WA (swp xs i j) k=if k=j then WA xs i else if k=i then WA xs j else WA xs k:=by
 unfold WA swp;rw[zBK (by simp;omega),zBK (by omega)];have e1:(k.toNat=j.toNat)↔k=j:=by omega
 have e2:(k.toNat=i.toNat)↔k=i:=by omega
 simp only[e1,e2]
theorem zCn(c v:Int):∀ (xs:List Int) (i:Nat),i<xs.length->(xs.set i v).count c+(if xs.getD i 0=c then 1 else 0)=xs.count c+(if v=c then 1 else 0)
 |[],i,h=>by simp at h
 |x::xs,0,_=>by
  simp only[List.set_cons_zero,List.count_cons,List.getD_cons_zero,beq_iff_eq];omega
 |x::xs,i+1,h=>by
  have:=zCn c v xs i (by simpa using h);simp only[List.set_cons_succ,List.count_cons,List.getD_cons_succ,beq_iff_eq]at *;omega
theorem zMr{xs:List Int}{i j:Int}(hi:0<=i/\i<xs.length)(hj:0<=j/\j<xs.length):(swp xs i j).Perm xs:=by
 rw[List.perm_iff_count];intro c;have h1:=zCn c (xs.getD j.toNat 0) xs i.toNat (by omega);have h2:=zCn c (xs.getD i.toNat 0) (xs.set i.toNat (xs.getD j.toNat 0)) j.toNat (by simp;omega);rw[zBK (by omega)]at h2;unfold swp;by_cases e:j.toNat=i.toNat
 ·rw[QF e]at h2;rw[e]at h1 h2 |-;omega
 ·rw[QC e]at h2;omega
structure PI(a b:Int)(xs ys:List Int):Prop where
 len:ys.length=xs.length
 perm:ys.Perm xs
 out:∀ k:Int,0<=k->(k<a\/b<=k)->WA ys k=WA xs k
theorem PI.refl(a b:Int)(xs:List Int):PI a b xs xs:=⟨rfl,.refl _,fun _ _ _=>rfl⟩
theorem PI.trans{a b:Int}{xs ys zs:List Int}(h:PI a b xs ys)(k:PI a b ys zs):PI a b xs zs:=⟨k.len.trans h.len,k.perm.trans h.perm,fun i h0 hi=>(k.out i h0 hi).trans (h.out i h0 hi)⟩
theorem PI.mono{a b a' b':Int}{xs ys:List Int}(h:PI a b xs ys)(ha:a'<=a)(hb:b<=b'):PI a' b' xs ys:=⟨h.len,h.perm,fun k h0 hk=>h.out k h0 (by omega)⟩
theorem PI.swp{a b i j:Int}{xs:List Int}(h0:0<=a)(hb:b<=xs.length)(hi:a<=i/\i<b)(hj:a<=j/\j<b):PI a b xs (swp xs i j):=
 ⟨zIb ..,zMr (by omega) (by omega),fun k hk ho=>by rw[yY (by omega) (by omega) hk,QC (by omega),QC (by omega)]⟩
theorem zEL(xs:List Int)(a b:Nat)(hab:a<=b):xs=xs.take a++((xs.drop a).take (b-a)++xs.drop b):=by
 have:xs.drop b=(xs.drop a).drop (b-a):=by rw[List.drop_drop];congr 1;omega
 rw[this,GN,GN]
theorem zCc{xs ys:List Int}(hl:xs.length=ys.length)(h:∀ k:Nat,k<xs.length->xs.getD k 0=ys.getD k 0):xs=ys:=by
 apply JB hl;intro i h1 h2;have:=h i h1;simpa [List.getD,QB h1,QB h2]using this
theorem PI.all{a b:Int}{xs ys:List Int}(h:PI a b xs ys)(h0:0<=a)(hb:b<=xs.length){p:Int->Prop}(hp:∀ k,a<=k->k<b->p (WA xs k)):∀ k,a<=k->k<b->p (WA ys k):=by
 intro k hk1 hk2;obtain⟨A,rfl⟩:∃ A:Nat,a=A:=⟨a.toNat,by omega⟩;obtain⟨B,rfl⟩:∃ B:Nat,b=B:=⟨b.toNat,by omega⟩;have hl:=h.len;have e1:=zEL xs A B (by omega);have e2:=zEL ys A B (by omega);have t1:ys.take A=xs.take A:=zCc (by simp[hl]) fun k hk=>by
  have hk':k<A:=by simp at hk;omega
  have:=h.out (k:Int) (by omega) (by omega);simpa [WA,QH,GL,hk']using this
 have t2:ys.drop B=xs.drop B:=zCc (by simp[hl]) fun k hk=>by
  have:=h.out ((B+k:Nat):Int) (by omega) (by omega);simp only[WA,QN]at this;simpa [QH,Ga]using this
 have hp':=h.perm;rw[e1,e2,t1,t2]at hp';have hs:=(List.perm_append_right_iff _).1 ((List.perm_append_left_iff _).1 hp');have hmem:WA ys k∈(ys.drop A).take (B-A):=by
  rw[Gp];refine⟨k.toNat-A,?_⟩;rw[GL,QF (by omega),Ga,show A+(k.toNat-A)=k.toNat by omega];unfold WA;rw[QH,QB (by omega)];rfl
 obtain⟨m,hm⟩:=Gp.1 (hs.mem_iff.1 hmem);rw[GL]at hm;split at hm
 ·rename_i hlt;rw[Ga]at hm;have:=hp ((A+m:Nat):Int) (by omega) (by omega);unfold WA at this;rw[QN,QH,hm]at this;exact this
 ·cases hm
def BX(a b:Int)(xs:List Int):Prop:=∀ i j:Int,a<=i->i<=j->j<b->WA xs i<=WA xs j
theorem VZ{a b:Int}{xs:List Int}(h:b<=a+1):BX a b xs:=fun i j h1 h2 h3=>by
 have:i=j:=by omega
 subst this;exact Qe _
theorem zI6{xs ys:List Int}(h:ys.Perm xs)(s:BX 0 ys.length ys):ys=xs.mergeSort (fun a b=>decide (a<=b)):=by
 have hp:ys.Pairwise (fun a b=>decide (a<=b)=true):=by
  rw[List.pairwise_iff_getElem];intro i j hi hj hij;have:=s (i:Int) (j:Int) (by omega) (by omega) (by omega);simp only[WA,QN,QH,QB hi,QB hj,GD]at this;simpa using this
 refine List.Perm.eq_of_pairwise (le:=fun a b=>decide (a<=b)=true) (fun a b _ _ h1 h2=> ?_) hp ?_ (h.trans (List.mergeSort_perm xs _).symm)
 ·simp only[Qc]at h1 h2;omega
 ·exact List.pairwise_mergeSort (fun a b c h1 h2=>by simp only[Qc]at *;omega) (fun a b=>by simp only[GG,Qc];omega) xs
theorem zAM(h:U0):outC h (inC (zC 0 h))=h:=rfl
theorem zHH{a i j:Int}{zs:List Int}(h0:0<=a)(hj:a<j)(hji:j<=i)(hil:i<zs.length)(hlt:WA zs j<WA zs (j-1))(r:∀ p q,a<=p->p<=q->q<=i->q≠j->WA zs p<=WA zs q):∀ p q,a<=p->p<=q->q<=i->q≠j-1->WA (swp zs j (j-1)) p<=WA (swp zs j (j-1)) q:=by
 intro p q h1 h2 h3 h4;rw[yY (by omega) (by omega) (by omega),yY (by omega) (by omega) (by omega),QC h4];by_cases hq:q=j
 ·rw[QF hq];by_cases hp:p=j-1
  ·rw[QF hp];omega
  ·rw[QC hp];by_cases hp2:p=j
   ·rw[QF hp2];exact Qe _
   ·rw[QC hp2];exact r p (j-1) h1 (by omega) (by omega) (by omega)
 ·rw[QC hq];by_cases hp:p=j-1
  ·rw[QF hp];exact r j q (by omega) (by omega) h3 hq
  ·rw[QC hp];by_cases hp2:p=j
   ·rw[QF hp2];exact r (j-1) q (by omega) (by omega) h3 hq
   ·rw[QC hp2];exact r p q h1 h2 h3 hq
theorem BP.trans{v:Value}{h h1 h2:U0}(a:BP v h h1)(b:BP v h1 h2):BP v h h2:=⟨QU a.1 b.1,fun g hg hv=>(b.2 g (QM hg a.1) hv).trans (a.2 g hg hv)⟩
theorem BP.refl(v:Value)(h:U0):BP v h h:=⟨QE _,fun _ _ _=>rfl⟩
structure SS(hB h:U0)(v:Value)(a b:Int)(xs ys:List Int)(h1:U0):Prop where
 own:WT hB h1 v ys
 ext:Ext hB h1
 upd:BP v h h1
 pi:PI a b xs ys
theorem VX{hB h:U0}{v:Value}{xs:List Int}(a b:Int)(o:WT hB h v xs)(e:Ext hB h):SS hB h v a b xs xs h:=⟨o,e,BP.refl v h,PI.refl ..⟩
theorem SS.swp{hB h h1 h3:U0}{v:Value}{a b i j:Int}{xs ys:List Int}(s:SS hB h v a b xs ys h1)(e3:Ext hB h3)(o3:WT hB h3 v (swp ys i j))(u3:BP v h1 h3)(h0:0<=a)(hb:b<=xs.length)(hi:a<=i/\i<b)(hj:a<=j/\j<b):SS hB h v a b xs (swp ys i j) h3:=
 ⟨o3,e3,s.upd.trans u3,s.pi.trans (PI.swp h0 (by rw[s.pi.len];exact hb) hi hj)⟩
theorem SS.call{hB h h1 h2:U0}{v:Value}{a b c d:Int}{xs ys zs:List Int}(s:SS hB h v a b xs ys h1)(k:SS hB h1 v c d ys zs h2)(ha:a<=c)(hb:d<=b):SS hB h v a b xs zs h2:=
 ⟨k.own,k.ext,s.upd.trans k.upd,s.pi.trans (k.pi.mono ha hb)⟩
theorem Wg.trans{p:Value}{h h1 h2:U0}(a:Wg p h h1)(b:Wg p h1 h2):Wg p h h2:=⟨QU a.1 b.1,fun g hg hv=>(b.2 g (QM hg a.1) hv).trans (a.2 g hg hv)⟩
theorem SS.extd{hB h h1 h2:U0}{v:Value}{a b:Int}{xs ys:List Int}(s:SS hB h v a b xs ys h1)(e:Ext h1 h2):SS hB h v a b xs ys h2:=
 ⟨s.own.ext e,s.ext.trans e,s.upd.trans ⟨e.n,fun g hg _=>e.get g hg⟩,s.pi⟩
theorem SS.updC{hB h h1 h2:U0}{v:Value}{a b:Int}{xs ys:List Int}{g:Nat}(s:SS hB h v a b xs ys h1)(o:WT hB h v xs)(hg:h.n<=g)(e:Ext hB h2)(u:Wg (.pointer (some ⟨g,0,none⟩)) h1 h2):SS hB h v a b xs ys h2:=by
 obtain⟨q,q1,q2,qv,q3⟩:=s.own;obtain⟨q',_,q2',qv',_⟩:=o;rw[qv,s.pi.len]at qv';cases qv';refine⟨⟨q,q1,QM q2 u.1,qv,(u.2 q q2 fun e=>by cases e;omega).trans q3⟩,e,⟨QU s.upd.1 u.1,fun k hk hv=>(u.2 k (QM hk s.upd.1) fun e=>by cases e;omega).trans (s.upd.2 k hk hv)⟩,s.pi⟩
theorem U1.updV{hB hA h h1 h2:U0}{v:Value}{xs:List Int}{g:Nat}{cs:List Value}(w:U1 hA h1 (.pointer (some ⟨g,0,none⟩)) cs)(o:WT hB h v xs)(hg:h.n<=g)(u:BP v h1 h2):U1 hA h2 (.pointer (some ⟨g,0,none⟩)) cs:=by
 obtain⟨q',_,q2',rfl,_⟩:=o;obtain⟨g',g1,g2,gv,g3⟩:=w;cases gv;exact⟨g,g1,QM g2 u.1,rfl,(u.2 g g2 fun a n c e=>by cases e;simp only;omega).trans g3⟩
theorem U1.offC{hA h h':U0}{p:Value}{cs:List Value}{g4:Nat}(o:U1 hA h p cs)(u:Wg (.pointer (some ⟨g4,0,none⟩)) h h')(hg:g4<hA.n):U1 hA h' p cs:=by
 obtain⟨g,g1,g2,rfl,g3⟩:=o;exact⟨g,g1,QM g2 u.1,rfl,(u.2 g g2 fun e=>by cases e;omega).trans g3⟩
theorem U7.offC{hA h h':U0}{v:Value}{xs:List Int}{g4:Nat}(o:U7 hA h v xs)(u:Wg (.pointer (some ⟨g4,0,none⟩)) h h')(hg:g4<hA.n):U7 hA h' v xs:=by
 rcases o with o|⟨g,g1,g2,rfl,g3⟩
 ·exact .inl o
 ·exact .inr ⟨g,g1,QM g2 u.1,rfl,(u.2 g g2 fun e=>by cases e;omega).trans g3⟩
theorem Wg.setL{p:Value}{h h':U0}{L:Nat}{o:Wa}(u:Wg p h h')(hL:h.n<=L):Wg p h (h'.set L o):=⟨u.1,fun g hg hv=>by rw[zt,QC (by omega)];exact u.2 g hg hv⟩
theorem Wg.extd{p:Value}{h h' h2:U0}(u:Wg p h h')(e:Ext h' h2):Wg p h h2:=⟨QU u.1 e.n,fun g hg hv=>(e.get g (QM hg u.1)).trans (u.2 g hg hv)⟩
theorem Wg.upd{p w:Value}{h h' h2:U0}{xs:List Int}(u:Wg p h h')(o:U7 h h' w xs)(u2:BP w h' h2):Wg p h h2:=⟨QU u.1 u2.1,fun g hg hv=>by
 refine(u2.2 g (QM hg u.1) fun a n c e=> ?_).trans (u.2 g hg hv);rcases o with⟨rfl,_⟩|⟨q,q1,_,rfl,_⟩
 ·cases e
 ·cases e;simp only;omega⟩
theorem Wg.refl(p:Value)(h:U0):Wg p h h:=⟨QE _,fun _ _ _=>rfl⟩
theorem WT.rebase{hA hB h:U0}{g n k:Nat}{xs:List Int}(o:WT hA h (.slice (some ⟨g,0,none⟩) n k) xs)(hg:hB.n<=g):WT hB h (.slice (some ⟨g,0,none⟩) n k) xs:=by
 obtain⟨q,q1,q2,qv,q3⟩:=o;cases qv;exact⟨g,hg,q2,rfl,q3⟩
theorem SS.len{hB h h1:U0}{v:Value}{a b:Int}{xs ys:List Int}(k:SS hB h v a b xs ys h1):ys.length=xs.length:=k.pi.len
section
variable {P:Program}{tab:Wo}{t:U5 Value}{ds:List Deferred}{rd:Option Nat}
theorem XR{N0 g d:Nat}{cl:Bool}{x y z w u:Operand}{v:Value}{xs:List Int}{i j:Nat}{h0 hS:U0}{K:WF->WH->U0->Prop}{va vb:Int}(o:WT h0 hS v xs)(e0:Ext h0 hS)(hm:hS.mark<=h0.n)
  (hx:ev t x=zv v i) (hy:ev t y=I va) (hi:i<xs.length) (hj:j<xs.length) (hz:ev t z=v) (hw:BE (ev t w)=some j) (hu:ev (t.set d (zv v j)) u=I vb)
  (k:∀ h1,Ext h0 h1->WT h0 h1 v ((xs.set i va).set j vb)->BP v hS h1->K .normal ⟨t.set d (zv v j),ds,rd⟩ h1):
  WP P tab hS.mark N0 [(⟨none,none,.store 1 x y⟩,[]),(⟨some d,none,.idx 1 z w⟩,[]),(⟨none,none,.store 1 (.tmp d) u⟩,[])] g cl ⟨t,ds,rd⟩ (inC (zC 0 hS)) (zAv K hS):=by
 obtain⟨q,g1,g2,rfl,g3⟩:=o;rw[WP,QC (show ¬Nat.beq (zH (Wn.store 1 x y)) 3=true from Bool.noConfusion)];have hst1:zo (inC (inC (zC 0 hS))) ⟨q,i,none⟩ [I va]=some ((inC (inC (zC 0 hS))).set q (.row (zi (xs.map I) i [I va]) true 0)):=by
  have h1:Nat.ble (i+1) (xs.map I).length=true:=QG (by simp;omega);have h0:Nat.ble 0 i=true:=QG (QK _);have g3':(inC (inC (zC 0 hS))).get q=some (.row (xs.map I) true 0):=g3;simp only[zo,g3',QX,h1,h0,Qt];rfl
 rw[zAQ _ _ _ hi]at hst1;have hc:∀ a,(I a).cells=#[I a]:=fun _=>rfl;refine VU undef ((inC (inC (zC 0 hS))).set q (.row ((xs.set i va).map I) true 0)) rfl (by
  simp only[U8,hx,zv,hy,GC,hc,hst1,QI];rfl) ?_
 refine WO.nil ⟨⟨fun k hk=> ?_,QE _,.inl rfl⟩,?_⟩
 ·have hk2:k∈(inC (inC (zC 0 hS))).log q:=hk;rcases yt hk2 with rfl|hk3
  ·omega
  ·cases hk3
 generalize hh1:(inC (inC (zC 0 hS))).set q (.row ((xs.set i va).map I) true 0)=h1;have n1:h1.n=hS.n:=by rw[<-hh1];rfl
 have get1:∀ k,h1.get k=if k=q then some (.row ((xs.set i va).map I) true 0)else hS.get k:=fun k=>by
  rw[<-hh1,zt];rfl
 rw[WP,QC (show ¬Nat.beq (zH (Wn.idx 1 z w)) 3=true from Bool.noConfusion)];have hb:Nat.ble (j+1) xs.length=true:=QG hj;refine WO.op (zv (.slice (some ⟨q,0,none⟩) xs.length 1) j) (inC h1) rfl (by
  have hz':ev t z=.slice (some ⟨q,0,none⟩) xs.length 1:=hz;simp[U8,hz',hw,hb,zv]) ?_
 refine WO.nil ⟨⟨fun k hk=>(by cases hk),QE _,.inl rfl⟩,?_⟩;rw[WP,QC (show ¬Nat.beq (zH (Wn.store 1 (.tmp d) u)) 3=true from Bool.noConfusion)];have hst2:zo (inC (inC h1)) ⟨q,j,none⟩ [I vb]=some ((inC (inC h1)).set q (.row (zi ((xs.set i va).map I) j [I vb]) true 0)):=by
  have h1':Nat.ble (j+1) ((xs.set i va).map I).length=true:=QG (by simp;omega);have h0:Nat.ble 0 j=true:=QG (QK _);have g3':(inC (inC h1)).get q=some (.row ((xs.set i va).map I) true 0):=by
   have:=get1 q;rw[QF rfl]at this;exact this
  simp only[zo,g3',QX,h1',h0,Qt];rfl
 rw[zAQ _ _ _ (by simp;omega)]at hst2;refine VU undef ((inC (inC h1)).set q (.row (((xs.set i va).set j vb).map I) true 0)) rfl (by
  have e1:ev (t.set d (zv (.slice (some ⟨q,0,none⟩) xs.length 1) j)) (.tmp d)=zv (.slice (some ⟨q,0,none⟩) xs.length 1) j:=by simp only[ev,ze,Q0]
  have hp:zv (.slice (some ⟨q,0,none⟩) xs.length 1) j=.pointer (some ⟨q,j,none⟩):=by simp[zv]
  rw[hp]at e1 hu;rw[hp];simp only[U8,e1,hu,hc,hst2,QI];rfl) ?_
 refine WO.nil ⟨⟨fun k hk=> ?_,QE _,.inl rfl⟩,?_⟩
 ·have hk2:k∈(inC (inC h1)).log q:=hk;rcases yt hk2 with rfl|hk3
  ·omega
  ·cases hk3
 have get2:∀ k,(outC hS ((inC (inC h1)).set q (.row (((xs.set i va).set j vb).map I) true 0))).get k=if k=q then some (.row (((xs.set i va).set j vb).map I) true 0)else hS.get k:=fun k=>by
  have e1:((inC (inC h1)).set q (.row (((xs.set i va).set j vb).map I) true 0)).get k=if k=q then some (.row (((xs.set i va).set j vb).map I) true 0)else(inC (inC h1)).get k:=zt ..;have e2:(inC (inC h1)).get k=h1.get k:=rfl;have e3:(outC hS ((inC (inC h1)).set q (.row (((xs.set i va).set j vb).map I) true 0))).get k=((inC (inC h1)).set q (.row (((xs.set i va).set j vb).map I) true 0)).get k:=rfl;rw[e3,e1,e2,get1];by_cases e:k=q<;>simp[e]
 have nn:(outC hS ((inC (inC h1)).set q (.row (((xs.set i va).set j vb).map I) true 0))).n=hS.n:=n1;refine k (outC hS ((inC (inC h1)).set q (.row (((xs.set i va).set j vb).map I) true 0))) ?_ ?_ ?_
 ·refine⟨by rw[nn];exact e0.n,fun c hc=>by rw[get2,QC (by omega)];exact e0.get c hc,fun w c hc=> ?_,e0.mark,fun hmk=>e0.wr hmk⟩;rw[nn]at hc;rw[get2,QC (by omega)];exact e0.wf w c hc
 ·exact⟨q,g1,by rw[nn];exact g2,by simp,by rw[get2,QF rfl]⟩
 ·exact⟨by rw[nn];exact QE _,fun c _ hc=>by rw[get2,QC (fun e=>hc _ _ _ rfl e.symm)]⟩
theorem Xx{y:Operand}{n:Int}(h:WB t y (I n))(hn:0<=n):BE (ev t y)=some n.toNat:=by
 unfold WB at h;rw[h];obtain⟨k,rfl⟩:∃ k:Nat,n=k:=⟨n.toNat,by omega⟩;rfl
theorem VQ{N0 g d:Nat}{cl:Bool}{x y z w u:Operand}{v:Value}{xs:List Int}{h0 hS:U0}{K:WF->WH->U0->Prop}(i j:Int)(o:WT h0 hS v xs)(e0:Ext h0 hS)(hm:hS.mark<=h0.n)
  (k:∀ h1,Ext h0 h1->WT h0 h1 v (swp xs i j)->BP v hS h1->K .normal ⟨t.set d (zv v j.toNat),ds,rd⟩ h1)
  (hi:0<=i/\i<xs.length:=by omega) (hj:0<=j/\j<xs.length:=by omega)
  (hx:WB t x (zv v i.toNat):=by exact zj) (hy:WB t y (I (WA xs j)):=by exact zj) (hz:WB t z v:=by exact zj) (hw:WB t w (I j):=by exact zj) (hu:WB (t.set d (zv v j.toNat)) u (I (WA xs i)):=by exact zj):
  WP P tab hS.mark N0 [(⟨none,none,.store 1 x y⟩,[]),(⟨some d,none,.idx 1 z w⟩,[]),(⟨none,none,.store 1 (.tmp d) u⟩,[])] g cl ⟨t,ds,rd⟩ (inC (zC 0 hS)) (zAv K hS):=
 XR o e0 hm hx hy (by omega) (by omega) hz (Xx hw hj.1) hu k
theorem VK{c:WK}{h:U0}{K:WF->WH->U0->Prop}{ws:List Nat}(M:U5 Value->U0->Prop)(h1:WX P tab c ⟨t,ds,rd⟩ h (zEv M ds rd K))(h2:∀ t' h',zEU ws t t'->M t' h'->K .normal ⟨t',ds,rd⟩ h')(hw:yA c=ws:=by conv=>(lhs;reduce)):WX P tab c ⟨t,ds,rd⟩ h K:=
 (WX.frame h1).mono fun e fr h ⟨hf,hx⟩=>by
  unfold zEv at hx;cases e with
  |normal=>
   obtain⟨t',ds',rd'⟩:=fr;obtain⟨e1,e2,e3⟩:=hx;simp only at e1 e2 e3;subst e1 e2;exact h2 _ _ (fun j hj=>hf j (by rw[hw];intro hc;have:=ZN hj;simp[hc]at this)) e3
  |exit i=>exact hx
  |goto i=>exact hx
  |ret=>exact hx
theorem WO.bin{d:Nat}{op:BinOp}{x y:Operand}{vx vy v:Value}{h:U0}{l:List U3}{Q:WH->U0->Prop}(hx:WB t x vx)(hy:WB t y vy)(e:ye op vx vy=some v)(k:WO P tab l ⟨t.set d v,ds,rd⟩ h Q):WO P tab (⟨some d,none,.bin op x y⟩::l) ⟨t,ds,rd⟩ h Q:=
 Xp (by
  have hx:ev t x=vx:=hx;have hy:ev t y=vy:=hy;simp only[U8,hx,hy,e,QI]) k
theorem UH{d:Nat}{x i:Operand}{s:ByteArray}{m:Int}{kk:IntKind}{n:Nat}{b:UInt8}{h:U0}{l:List U3}{Q:WH->U0->Prop}(hb:s[n]?=some b)(hn:BE (.int kk m)=some n)(k:WO P tab l ⟨t.set d (.int .u8 b.toNat),ds,rd⟩ h Q)(hx:WB t x (.string s):=by exact WB.const)(hi:WB t i (.int kk m):=by exact zj):WO P tab (⟨some d,none,.elemStr x i⟩::l) ⟨t,ds,rd⟩ h Q:=
 Xp (by
  have hx:ev t x=.string s:=hx;have hi:ev t i=.int kk m:=hi;simp only[U8,hx,hi,hn,hb]) k
theorem WO.quo{d:Nat}{x:Operand}{a c:Int}{h:U0}{l:List U3}{Q:WH->U0->Prop}(hc:c≠0)(h1: -9223372036854775808<=a.tdiv c)(h2:a.tdiv c<=9223372036854775807)(k:WO P tab l ⟨t.set d (I (a.tdiv c)),ds,rd⟩ h Q)(hx:WB t x (I a):=by exact zj):WO P tab (⟨some d,none,.bin .quo x (.const (I c))⟩::l) ⟨t,ds,rd⟩ h Q:=
 WO.bin hx (vy:=I c) rfl (by simp only[ye,Q0,QC hc,zEO h1 h2]) k
theorem Yb{n:Int}(h1:0<=n)(h2:n<18446744073709551616):IntKind.wrap .u64 n=n:=by
 simp[IntKind.wrap,IntKind.signed,IntKind.bits];omega
theorem zPG{n:Int}(h1:0<=n)(h2:n<256):IntKind.wrap .u8 n=n:=by
 simp[IntKind.wrap,IntKind.signed,IntKind.bits];omega
theorem zP1{n:Int}{kk:IntKind}(h:0<=n):ye .shr (.int .u64 n) (.int kk 16)=some (.int .u64 (n / 65536)):=by
 have e:(min (16:Int).toNat IntKind.u64.bits)=16:=rfl;simp only[ye,e];rw[QC (by decide),Int.fdiv_eq_ediv_of_nonneg _ (by decide)];rfl
theorem zQP{n:Int}{kk:IntKind}(h:0<=n):ye .shr (.int .u64 n) (.int kk 8)=some (.int .u64 (n / 256)):=by
 have e:(min (8:Int).toNat IntKind.u64.bits)=8:=rfl;simp only[ye,e];rw[QC (by decide),Int.fdiv_eq_ediv_of_nonneg _ (by decide)];rfl
theorem zOc(y:Int){m:Int}(h:0<=m/\m<=9223372036854775807):∃ r:Int,ye .and (.int .u64 y) (.int .u64 m)=some (.int .u64 r)/\0<=r/\r<=m:=by
 have hb:(BitVec.ofInt 64 m).toNat=m.toNat:=by
  rw[BitVec.toNat_ofInt];omega
 have hle:(BitVec.ofInt 64 y&&& BitVec.ofInt 64 m).toNat<=m.toNat:=by
  rw[BitVec.toNat_and,hb];exact Nat.and_le_right
 refine⟨((BitVec.ofInt 64 y&&& BitVec.ofInt 64 m).toNat:Int),?_,by omega,by omega⟩;simp only[ye,Q0,IntKind.bits];rw[Yb (by omega) (by omega)];rfl
theorem V7{N0 g n:Nat}{cl:Bool}{x y:Operand}{p v:Value}{cells:List Value}{h0 hS:U0}{K:WF->WH->U0->Prop}(cs:List Value)(o:U1 h0 hS p cells)(e0:Ext h0 hS)(hm:hS.mark<=h0.n)
  (k:∀ h1,Ext h0 h1->U1 h0 h1 p cs->Wg p hS h1->K .normal ⟨t,ds,rd⟩ h1) (hx:WB t x p:=by exact zj) (hy:WB t y v:=by exact zj) (hv:v.cells=cs.toArray:=by rfl) (h1:zK cs=true:=by rfl) (hn:cs.length=n:=by rfl) (hl:cells.length=n:=by rfl):
  WP P tab hS.mark N0 [(⟨none,none,.store n x y⟩,[])] g cl ⟨t,ds,rd⟩ (inC (zC 0 hS)) (zAv K hS):=by
 obtain⟨q,g1,g2,rfl,g3⟩:=o;subst hn;have hx:ev t x=.pointer (some ⟨q,0,none⟩):=hx;have hy:ev t y=v:=hy;rw[WP,QC (show ¬Nat.beq (zH (Wn.store cs.length x y)) 3=true from Bool.noConfusion)];have hst:zo (inC (inC (zC 0 hS))) ⟨q,0,none⟩ cs=some ((inC (inC (zC 0 hS))).set q (.row cs true 0)):=by
  have h2:Nat.ble (0+cs.length) cells.length=true:=QG (by omega);have h3:Nat.ble 0 0=true:=rfl;have h4:zi cells 0 cs=cs:=by simp[zi,hl]
  have g3':(inC (inC (zC 0 hS))).get q=some (.row cells true 0):=g3;simp only[zo,g3',h2,h3,h1,h4,Qn,Qt,cond_true]
 refine VU undef ((inC (inC (zC 0 hS))).set q (.row cs true 0)) rfl (by
  simp only[U8,hx,hy,hv,Gj,GS,hst,QI,cond_true]) ?_
 refine WO.nil ⟨⟨fun k hk=> ?_,QE _,.inl rfl⟩,?_⟩
 ·have hk2:k∈(inC (inC (zC 0 hS))).log q:=hk;rcases yt hk2 with rfl|hk3
  ·omega
  ·cases hk3
 have get2:∀ k,(outC hS ((inC (inC (zC 0 hS))).set q (.row cs true 0))).get k=if k=q then some (.row cs true 0)else hS.get k:=fun k=>by
  have e1:((inC (inC (zC 0 hS))).set q (.row cs true 0)).get k=if k=q then some (.row cs true 0)else(inC (inC (zC 0 hS))).get k:=zt ..;exact e1
 refine k (outC hS ((inC (inC (zC 0 hS))).set q (.row cs true 0))) ?_ ?_ ?_
 ·refine⟨e0.n,fun c hc=>by rw[get2,QC (by omega)];exact e0.get c hc,fun w c hc=> ?_,e0.mark,fun hmk=>e0.wr hmk⟩;have hc:hS.n<=c:=hc;rw[get2,QC (by omega)];exact e0.wf w c hc
 ·exact⟨q,g1,g2,rfl,by rw[get2,QF rfl]⟩
 ·exact⟨QE _,fun c _ hc=>by rw[get2,QC (fun e=>hc (by rw[e]))]⟩
theorem zDi{C D:Prop}[Decidable C][Decidable D](h:C):decide (C/\D)=decide D:=by simp[h]
theorem zCN{C D:Prop}[Decidable C][Decidable D](h:C):decide (C/\¬D)= !decide D:=by simp[h]
end
end Go.Am
