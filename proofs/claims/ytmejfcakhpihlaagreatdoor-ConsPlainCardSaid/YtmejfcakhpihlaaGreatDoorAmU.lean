/- A part of the machine and of its soundness; proves no statement. -/
import Derived.Test.YtmejfcakhpihlaaGreatDoorAmR
set_option linter.unusedVariables false
set_option linter.unusedSimpArgs false
namespace Go.Am
def oV(a b:U3):U3:= .seq a b
def oJ(c:Nat)(a b:U3):U3:= .cond (.tmp c) a b
def o5(n:Nat)(a:U3):U3:= .block n a
def o6(l:List (U4×List Nat)):U3:= .regionC l
instance:Coe U4 (U4×List Nat):=⟨fun o=>(o,[])⟩
def Wj(t:U7 Value)(k:Nat)(v:Value):Prop:=zB t k=v
def WI(t:U7 Value)(x:Operand)(v:Value):Prop:=ev t x=v
def zF1(j:Nat):List Nat->Bool
 |[]=>true
 |k::l=>bif Nat.beq j k then false else zF1 j l
def zCV(ws:List Nat)(t0 t:U7 Value):Prop:=∀ j,zF1 j ws=true->zB t j=zB t0 j
theorem Wj.here{t:U7 Value}{k:Nat}{v:Value}:Wj (t.set k v) k v:=by unfold Wj;rw[zh,QI rfl]
theorem VY{t:U7 Value}{k j:Nat}{v w:Value}(hn:Nat.beq j k=false)(s:Wj t j v):Wj (t.set k w) j v:=by
 unfold Wj at *;rw[zh,QC (fun e=>by subst e;simp at hn)];exact s
theorem Wj.same{ws t0 t j v}(hs:zCV ws t0 t)(hn:zF1 j ws=true)(s:Wj t0 j v):Wj t j v:=(hs j hn).trans s
theorem WI.tmp{t k v}(s:Wj t k v):WI t (.tmp k) v:=s
theorem WI.const{t v}:WI t (.const v) v:=rfl
theorem WI.fn{t f}:WI t (.func f) (.func (.func f) #[] #[]):=rfl
theorem V7{t g}:WI t (.global g) (.pointer (some ⟨g,0,none⟩)):=rfl
def BJ(t:U7 Value)(xs:List Operand)(vs:List Value):Prop:=xs.map (ev t)=vs
theorem BJ.nil{t}:BJ t [] []:=rfl
theorem BJ.cons{t x xs v vs}(h:WI t x v)(k:BJ t xs vs):BJ t (x::xs) (v::vs):=by unfold BJ WI at *;simp[h,k]
def Bx(n:Int)(i:Nat):Prop:=W9 (I n)=some i
theorem UA{i:Nat}:Bx (i:Int) i:=rfl
theorem Bx.lit{n:Int}{i:Nat}(h:n=(i:Int)):Bx n i:=by subst h;rfl
theorem Bx.int{n:Int}(h:0<=n):Bx n n.toNat:=by
 obtain⟨i,rfl⟩:=Int.eq_ofNat_of_zero_le h;rfl
def Wz(t:U7 Value)(ps:List (Nat×Nat×Operand))(vs:List (Nat×Nat×Value)):Prop:=zo t ps=vs
theorem Wz.nil{t}:Wz t [] []:=rfl
theorem Wz.cons{t a b x ps v vs}(h:WI t x v)(k:Wz t ps vs):Wz t ((a,b,x)::ps) ((a,b,v)::vs):=by unfold Wz WI at *;unfold zo at *;simp[h,k]
theorem ZI{j:Nat}:∀ {l:List Nat},zF1 j l=true->l.contains j=false
 |[],_=>rfl
 |k::l,h=>by
  unfold zF1 at h;cases hb:Nat.beq j k with
  |true=>rw[hb]at h;cases h
  |false=>
   rw[hb]at h;have:=ZI (l:=l) h;simp only[List.contains_cons,this,Qr];have:j≠k:=fun e=>by subst e;simp at hb
   simpa using this
theorem Yl{t k v}(h:Wj t k v:=by(repeat (first|((with_reducible apply VY);rfl)|((with_reducible apply Wj.same);(with_reducible assumption);rfl)));first|with_reducible exact Wj.here|with_reducible assumption|(unfold Wj;with_reducible assumption)):Wj t k v:=h
theorem zM{t x v}(h:WI t x v:=by first|with_reducible exact WI.const|((with_reducible apply WI.tmp);(repeat (first|((with_reducible apply VY);rfl)|((with_reducible apply Wj.same);(with_reducible assumption);rfl)));first|with_reducible exact Wj.here|with_reducible assumption|(unfold Wj;with_reducible assumption))|with_reducible exact WI.fn|with_reducible exact V7|fail):WI t x v:=h
theorem zKs{t xs vs}(h:BJ t xs vs:=by(repeat (apply BJ.cons;(exact zM)));exact BJ.nil):BJ t xs vs:=h
theorem zV1{b:Bool}(h:b=false):(!b)=true:=by rw[h];rfl
theorem zVz{b:Bool}(h:b=true):(!b)=false:=by rw[h];rfl
theorem DB:(∀ a:Prop,∀ [Decidable a],(decide a=true)=a)/\(∀ a:Prop,∀ [Decidable a],(decide a=false)=¬a)/\(∀ b:Bool,((!b)=true)=(b=false))/\(∀ b:Bool,((!b)=false)=(b=true))/\
  (∀ a b:Bool,((a||b)=true)=(a=true\/b=true))/\(∀ a b:Bool,((a&&b)=true)=(a=true/\b=true))/\(∀ a b:Bool,((a||b)=false)=(a=false/\b=false))/\(∀ a b:Bool,((a&&b)=false)=(a=false\/b=false))/\
  (∀ a b:Int,(¬a<b)=(b<=a))/\(∀ a b:Int,(¬a<=b)=(b<a))/\((true=true)=True)/\((false=false)=True)/\((true=false)=False)/\((false=true)=False):=
 ⟨fun a _=>by simp,fun a _=>by simp,fun b=>by simp,fun b=>by simp,fun a b=>by simp,fun a b=>by simp,fun a b=>by simp,fun a b=>by cases a<;>cases b<;>simp,fun a b=>by simp,fun a b=>by simp,by simp,by simp,by simp,by simp⟩
theorem zGw{p:Prop}(h:p:=by first|with_reducible rfl|with_reducible exact Qf|with_reducible exact QY|with_reducible assumption|exact Qe (by first|with_reducible assumption|omega)|exact Qb (by first|with_reducible assumption|omega)|exact zV1 (by first|with_reducible assumption|exact Qb (by first|with_reducible assumption|omega)|fail)|exact zVz (by first|with_reducible assumption|exact Qe (by first|with_reducible assumption|omega)|fail)|(simp only[DB, *];done)|fail):p:=h
theorem zIZ{p:Prop}(h:p:=by first|omega|with_reducible assumption|(simp only[Qp,List.length_set,QM,GT,Gz]at *;omega)):p:=h
theorem zLd{n:Int}{i:Nat}(h:Bx n i:=by first|exact UA|exact Bx.lit rfl|exact Bx.int (by omega)|fail):Bx n i:=h
theorem zT4{h:U2}{v:Value}{xs:List Int}(s:WM h v xs:=by first|with_reducible assumption|exact WM.ext (by with_reducible assumption) (by with_reducible assumption)|exact We.sl (by with_reducible assumption)|exact WJ.sl (by with_reducible assumption)|fail):WM h v xs:=s
theorem zJD{o:Option Value}{r:Value}(h:o=some r:=by first|exact(rfl:_=some (Value.agg #[_,_]))|exact(rfl:_=some (Value.agg #[_,_,_]))|exact(rfl:_=some (Value.agg #[_,_,_,_]))|exact(rfl:_=some (Value.agg #[_,_,_,_,_]))|exact(rfl:_=some (Value.agg #[_,_,_,_,_,_]))|exact(rfl:_=some (Value.agg #[_,_,_,_,_,_,_]))|exact(rfl:_=some (Value.agg #[_,_,_,_,_,_,_,_]))|rfl):o=some r:=h
theorem zWD{o:Option (List Value)}{r:List Value}(h:o=some r:=by first|exact(rfl:_=some [_,_])|exact(rfl:_=some [_,_,_])|exact(rfl:_=some [_,_,_,_])|exact(rfl:_=some [_,_,_,_,_])|exact(rfl:_=some [_,_,_,_,_,_])|exact(rfl:_=some [_,_,_,_,_,_,_])|exact(rfl:_=some [_,_,_,_,_,_,_,_])|rfl):o=some r:=h
def zOy(v:Value):Prop:=∃ a k m,v=.slice (some a) k m
section
variable {P:Program}{tab:Wi}{ds:List Deferred}{rd:Option Nat}
variable {h:U2}{l:List U4}{t:U7 Value}{Q:WF->U2->Prop}
theorem R.mov{d:Nat}{x:Operand}{v:Value}(hx:WI t x v)(k:WO P tab l ⟨t.set d v,ds,rd⟩ h Q):WO P tab (⟨some d,none,.mov x⟩::l) ⟨t,ds,rd⟩ h Q:=
 WO.op _ _ rfl (by unfold WI at *;simp only[WE,hx]) k
theorem R.add{d:Nat}{x y:Operand}{a b:Int}(hx:WI t x (I a))(hy:WI t y (I b))(h1: -9223372036854775808<=a+b)(h2:a+b<=9223372036854775807)(k:WO P tab l ⟨t.set d (I (a+b)),ds,rd⟩ h Q):WO P tab (⟨some d,none,.bin .add x y⟩::l) ⟨t,ds,rd⟩ h Q:=
 WO.op _ _ rfl (by unfold WI at *;simp only[WE,hx,hy,I,zOf,QL];rw[zEj h1 h2]) k
theorem R.sub{d:Nat}{x y:Operand}{a b:Int}(hx:WI t x (I a))(hy:WI t y (I b))(h1: -9223372036854775808<=a-b)(h2:a-b<=9223372036854775807)(k:WO P tab l ⟨t.set d (I (a-b)),ds,rd⟩ h Q):WO P tab (⟨some d,none,.bin .sub x y⟩::l) ⟨t,ds,rd⟩ h Q:=
 WO.op _ _ rfl (by unfold WI at *;simp only[WE,hx,hy,I,zON,QL];rw[zEj h1 h2]) k
theorem R.mul{d:Nat}{x y:Operand}{a b:Int}(hx:WI t x (I a))(hy:WI t y (I b))(h1: -9223372036854775808<=a*b)(h2:a*b<=9223372036854775807)(k:WO P tab l ⟨t.set d (I (a*b)),ds,rd⟩ h Q):WO P tab (⟨some d,none,.bin .mul x y⟩::l) ⟨t,ds,rd⟩ h Q:=
 WO.op _ _ rfl (by unfold WI at *;simp only[WE,hx,hy,I,zOC,QL];rw[zEj h1 h2]) k
theorem R.lss{d:Nat}{x y:Operand}{a b:Int}{kk:IntKind}(hx:WI t x (.int kk a))(hy:WI t y (.int kk b))(k:WO P tab l ⟨t.set d (.bool (decide (a<b))),ds,rd⟩ h Q):WO P tab (⟨some d,none,.bin .lss x y⟩::l) ⟨t,ds,rd⟩ h Q:=
 WO.op _ _ rfl (by unfold WI at *;simp only[WE,hx,hy,zNQ,QL]) k
theorem R.leq{d:Nat}{x y:Operand}{a b:Int}{kk:IntKind}(hx:WI t x (.int kk a))(hy:WI t y (.int kk b))(k:WO P tab l ⟨t.set d (.bool (decide (a<=b))),ds,rd⟩ h Q):WO P tab (⟨some d,none,.bin .leq x y⟩::l) ⟨t,ds,rd⟩ h Q:=
 WO.op _ _ rfl (by unfold WI at *;simp only[WE,hx,hy,zPF,QL]) k
theorem R.gtr{d:Nat}{x y:Operand}{a b:Int}{kk:IntKind}(hx:WI t x (.int kk a))(hy:WI t y (.int kk b))(k:WO P tab l ⟨t.set d (.bool (decide (b<a))),ds,rd⟩ h Q):WO P tab (⟨some d,none,.bin .gtr x y⟩::l) ⟨t,ds,rd⟩ h Q:=
 WO.op _ _ rfl (by unfold WI at *;simp only[WE,hx,hy,zNv,QL]) k
theorem R.geq{d:Nat}{x y:Operand}{a b:Int}{kk:IntKind}(hx:WI t x (.int kk a))(hy:WI t y (.int kk b))(k:WO P tab l ⟨t.set d (.bool (decide (b<=a))),ds,rd⟩ h Q):WO P tab (⟨some d,none,.bin .geq x y⟩::l) ⟨t,ds,rd⟩ h Q:=
 WO.op _ _ rfl (by unfold WI at *;simp only[WE,hx,hy,zOA,QL]) k
theorem R.eql{d:Nat}{x y:Operand}{a b:Int}{kk:IntKind}(hx:WI t x (.int kk a))(hy:WI t y (.int kk b))(k:WO P tab l ⟨t.set d (.bool (decide (a=b))),ds,rd⟩ h Q):WO P tab (⟨some d,none,.bin .eql x y⟩::l) ⟨t,ds,rd⟩ h Q:=
 WO.op _ _ rfl (by unfold WI at *;simp only[WE,hx,hy,zOs,QL]) k
theorem R.neq{d:Nat}{x y:Operand}{a b:Int}{kk:IntKind}(hx:WI t x (.int kk a))(hy:WI t y (.int kk b))(k:WO P tab l ⟨t.set d (.bool (!decide (a=b))),ds,rd⟩ h Q):WO P tab (⟨some d,none,.bin .neq x y⟩::l) ⟨t,ds,rd⟩ h Q:=
 WO.op _ _ rfl (by unfold WI at *;simp only[WE,hx,hy,zPY,QL]) k
theorem R.not{d:Nat}{x:Operand}{b:Bool}(hx:WI t x (.bool b))(k:WO P tab l ⟨t.set d (.bool (!b)),ds,rd⟩ h Q):WO P tab (⟨some d,none,.un .not x⟩::l) ⟨t,ds,rd⟩ h Q:=
 WO.op _ _ rfl (by unfold WI at *;simp only[WE,hx,unV,QL]) k
theorem Ux{d:Nat}{x y:Operand}{a b:Bool}(hx:WI t x (.bool a))(hy:WI t y (.bool b))(k:WO P tab l ⟨t.set d (.bool (a == b)),ds,rd⟩ h Q):WO P tab (⟨some d,none,.binB false x y⟩::l) ⟨t,ds,rd⟩ h Q:=
 WO.op _ _ rfl (by unfold WI at *;simp only[WE,hx,hy];rfl) k
theorem Uz{d:Nat}{x y:Operand}{a b:Bool}(hx:WI t x (.bool a))(hy:WI t y (.bool b))(k:WO P tab l ⟨t.set d (.bool (a != b)),ds,rd⟩ h Q):WO P tab (⟨some d,none,.binB true x y⟩::l) ⟨t,ds,rd⟩ h Q:=
 WO.op _ _ rfl (by unfold WI at *;simp only[WE,hx,hy];rfl) k
theorem Xs{d:Nat}{x:Operand}{n:Int}{k2:IntKind}(hx:WI t x (.int k2 n))(h1: -9223372036854775808<=n)(h2:n<=9223372036854775807)(k:WO P tab l ⟨t.set d (I n),ds,rd⟩ h Q):WO P tab (⟨some d,none,.conv .i64 x⟩::l) ⟨t,ds,rd⟩ h Q:=
 WO.op _ _ rfl (by unfold WI at *;simp only[WE,hx,I];rw[zEj h1 h2]) k
theorem R.conv{d:Nat}{x:Operand}{n:Int}{kk k2:IntKind}(hx:WI t x (.int k2 n))(k:WO P tab l ⟨t.set d (.int kk (kk.wrap n)),ds,rd⟩ h Q):WO P tab (⟨some d,none,.conv kk x⟩::l) ⟨t,ds,rd⟩ h Q:=
 WO.op _ _ rfl (by unfold WI at *;simp only[WE,hx]) k
theorem UL{d:Nat}{c x y:Operand}{v:Value}{b:Bool}(hc:WI t c (.bool b))(hb:b=true)(hx:WI t x v)(k:WO P tab l ⟨t.set d v,ds,rd⟩ h Q):WO P tab (⟨some d,none,.pick c x y⟩::l) ⟨t,ds,rd⟩ h Q:=
 WO.op _ _ rfl (by unfold WI at *;subst hb;simp only[WE,hc,hx,Q2]) k
theorem UK{d:Nat}{c x y:Operand}{v:Value}{b:Bool}(hc:WI t c (.bool b))(hb:b=false)(hy:WI t y v)(k:WO P tab l ⟨t.set d v,ds,rd⟩ h Q):WO P tab (⟨some d,none,.pick c x y⟩::l) ⟨t,ds,rd⟩ h Q:=
 WO.op _ _ rfl (by unfold WI at *;subst hb;simp only[WE,hc,hy,Qn,Gi]) k
theorem Xe{d:Nat}{x:Operand}{v0 v1:Value}(hx:WI t x (.tuple #[v0,v1]))(k:WO P tab l ⟨t.set d v0,ds,rd⟩ h Q):WO P tab (⟨some d,none,.extract x 0⟩::l) ⟨t,ds,rd⟩ h Q:=
 WO.op _ _ rfl (by unfold WI at *;simp only[WE,hx];rfl) k
theorem Xa{d:Nat}{x:Operand}{v0 v1:Value}(hx:WI t x (.tuple #[v0,v1]))(k:WO P tab l ⟨t.set d v1,ds,rd⟩ h Q):WO P tab (⟨some d,none,.extract x 1⟩::l) ⟨t,ds,rd⟩ h Q:=
 WO.op _ _ rfl (by unfold WI at *;simp only[WE,hx];rfl) k
theorem Xi{d:Nat}{x:Operand}{v0 v1 v2:Value}(hx:WI t x (.tuple #[v0,v1,v2]))(k:WO P tab l ⟨t.set d v0,ds,rd⟩ h Q):WO P tab (⟨some d,none,.extract x 0⟩::l) ⟨t,ds,rd⟩ h Q:=
 WO.op _ _ rfl (by unfold WI at *;simp only[WE,hx];rfl) k
theorem Xg{d:Nat}{x:Operand}{v0 v1 v2:Value}(hx:WI t x (.tuple #[v0,v1,v2]))(k:WO P tab l ⟨t.set d v1,ds,rd⟩ h Q):WO P tab (⟨some d,none,.extract x 1⟩::l) ⟨t,ds,rd⟩ h Q:=
 WO.op _ _ rfl (by unfold WI at *;simp only[WE,hx];rfl) k
theorem XS{d:Nat}{x:Operand}{v0 v1 v2:Value}(hx:WI t x (.tuple #[v0,v1,v2]))(k:WO P tab l ⟨t.set d v2,ds,rd⟩ h Q):WO P tab (⟨some d,none,.extract x 2⟩::l) ⟨t,ds,rd⟩ h Q:=
 WO.op _ _ rfl (by unfold WI at *;simp only[WE,hx];rfl) k
theorem XU{d:Nat}{x:Operand}{v0 v1 v2 v3:Value}(hx:WI t x (.tuple #[v0,v1,v2,v3]))(k:WO P tab l ⟨t.set d v0,ds,rd⟩ h Q):WO P tab (⟨some d,none,.extract x 0⟩::l) ⟨t,ds,rd⟩ h Q:=
 WO.op _ _ rfl (by unfold WI at *;simp only[WE,hx];rfl) k
theorem Xp{d:Nat}{x:Operand}{v0 v1 v2 v3:Value}(hx:WI t x (.tuple #[v0,v1,v2,v3]))(k:WO P tab l ⟨t.set d v1,ds,rd⟩ h Q):WO P tab (⟨some d,none,.extract x 1⟩::l) ⟨t,ds,rd⟩ h Q:=
 WO.op _ _ rfl (by unfold WI at *;simp only[WE,hx];rfl) k
theorem Xl{d:Nat}{x:Operand}{v0 v1 v2 v3:Value}(hx:WI t x (.tuple #[v0,v1,v2,v3]))(k:WO P tab l ⟨t.set d v2,ds,rd⟩ h Q):WO P tab (⟨some d,none,.extract x 2⟩::l) ⟨t,ds,rd⟩ h Q:=
 WO.op _ _ rfl (by unfold WI at *;simp only[WE,hx];rfl) k
theorem XW{d:Nat}{x:Operand}{v0 v1 v2 v3:Value}(hx:WI t x (.tuple #[v0,v1,v2,v3]))(k:WO P tab l ⟨t.set d v3,ds,rd⟩ h Q):WO P tab (⟨some d,none,.extract x 3⟩::l) ⟨t,ds,rd⟩ h Q:=
 WO.op _ _ rfl (by unfold WI at *;simp only[WE,hx];rfl) k
theorem R.lenC{d:Nat}{n:Nat}(k:WO P tab l ⟨t.set d (I n),ds,rd⟩ h Q):WO P tab (⟨some d,none,.lenC n⟩::l) ⟨t,ds,rd⟩ h Q:=
 WO.op _ _ rfl (by simp only[WE]) k
theorem R.nil{d:Nat}{x:Operand}{kind:Nat}{neg b:Bool}{v:Value}(hx:WI t x v)(hn:zDi kind v=some b)(k:WO P tab l ⟨t.set d (.bool (if neg then !b else b)),ds,rd⟩ h Q):WO P tab (⟨some d,none,.isNil kind neg x⟩::l) ⟨t,ds,rd⟩ h Q:=
 WO.op _ _ rfl (by unfold WI at *;simp only[WE,hx,hn,QL]) k
theorem Uk{d:Nat}{x:Operand}{v:Value}{xs:List Int}(hx:WI t x v)(s:WM h v xs)(k:WO P tab l ⟨t.set d (I xs.length),ds,rd⟩ h Q):WO P tab (⟨some d,none,.len x⟩::l) ⟨t,ds,rd⟩ h Q:=
 WO.op _ _ rfl (by exact XY hx s) k
theorem Ub{d:Nat}{x:Operand}{v:Value}{α:Type}{c:Nat}{R:U2->List Value->α->Prop}{xs:List α}(hx:WI t x v)(s:W4 c R h v xs)(k:WO P tab l ⟨t.set d (I xs.length),ds,rd⟩ h Q):WO P tab (⟨some d,none,.len x⟩::l) ⟨t,ds,rd⟩ h Q:=
 WO.op _ _ rfl (by exact Xh hx s) k
theorem Uj{d:Nat}{x y:Operand}{v:Value}{n:Int}{i:Nat}{xs:List Int}(hx:WI t x v)(hy:WI t y (I n))(hi:Bx n i)(s:WM h v xs)(hl:i<xs.length)(k:WO P tab l ⟨t.set d (yM v i),ds,rd⟩ h Q):WO P tab (⟨some d,none,.idx 1 x y⟩::l) ⟨t,ds,rd⟩ h Q:=
 WO.op _ _ rfl (by unfold WI at hy;exact Xv hx (by rw[hy];exact hi) s hl) k
theorem Ul{d:Nat}{x y:Operand}{v:Value}{n:Int}{i:Nat}{α:Type}{c:Nat}{R:U2->List Value->α->Prop}{xs:List α}(hx:WI t x v)(hy:WI t y (I n))(hi:Bx n i)(s:W4 c R h v xs)(hl:i<xs.length)(k:WO P tab l ⟨t.set d (yM v (i*c)),ds,rd⟩ h Q):WO P tab (⟨some d,none,.idx c x y⟩::l) ⟨t,ds,rd⟩ h Q:=
 WO.op _ _ rfl (by unfold WI at hy;exact XZ hx (by rw[hy];exact hi) s hl) k
theorem UE{d:Nat}{x:Operand}{v:Value}{i:Nat}{xs:List Int}(hx:WI t x (yM v i))(s:WM h v xs)(hl:i<xs.length)(k:WO P tab l ⟨t.set d (I (xs.getD i 0)),ds,rd⟩ h Q):WO P tab (⟨some d,none,.load false 1 x⟩::l) ⟨t,ds,rd⟩ h Q:=
 WO.op _ _ rfl (by exact XM hx s hl) k
theorem UY{d:Nat}{x:Operand}{v r:Value}{j n off:Nat}{cs:List Value}(hx:WI t x (yM v (j+off)))(p:Wt h v j cs)(hn:0<n)(hr:(cut cs off n).bind (zH true)=some r)(k:WO P tab l ⟨t.set d r,ds,rd⟩ h Q):WO P tab (⟨some d,none,.load true n x⟩::l) ⟨t,ds,rd⟩ h Q:=
 WO.op _ _ rfl (by exact Wt.load hx p hn hr) k
theorem Us{d:Nat}{x:Operand}{v r:Value}{j n off:Nat}{cs:List Value}(hx:WI t x (yM v (j+off)))(p:Wt h v j cs)(hn:0<n)(hr:(cut cs off n).bind (zH false)=some r)(k:WO P tab l ⟨t.set d r,ds,rd⟩ h Q):WO P tab (⟨some d,none,.load false n x⟩::l) ⟨t,ds,rd⟩ h Q:=
 WO.op _ _ rfl (by exact Wt.load hx p hn hr) k
theorem UD{d:Nat}{x:Operand}{v r:Value}{j n:Nat}{cs:List Value}(hx:WI t x (yM v j))(p:Wt h v j cs)(hn:0<n)(hr:(cut cs 0 n).bind (zH true)=some r)(k:WO P tab l ⟨t.set d r,ds,rd⟩ h Q):WO P tab (⟨some d,none,.load true n x⟩::l) ⟨t,ds,rd⟩ h Q:=
 WO.op _ _ rfl (by exact Vq hx p hn hr) k
theorem Ua{d:Nat}{x:Operand}{v r:Value}{j n:Nat}{cs:List Value}(hx:WI t x (yM v j))(p:Wt h v j cs)(hn:0<n)(hr:(cut cs 0 n).bind (zH false)=some r)(k:WO P tab l ⟨t.set d r,ds,rd⟩ h Q):WO P tab (⟨some d,none,.load false n x⟩::l) ⟨t,ds,rd⟩ h Q:=
 WO.op _ _ rfl (by exact Vq hx p hn hr) k
theorem R.fldP{d:Nat}{x:Operand}{v:Value}{j off:Nat}(hx:WI t x (yM v j))(hv:zOy v)(k:WO P tab l ⟨t.set d (yM v (j+off)),ds,rd⟩ h Q):WO P tab (⟨some d,none,.fld off x⟩::l) ⟨t,ds,rd⟩ h Q:=
 WO.op _ _ rfl (by exact Go.Am.fldP hx hv) k
theorem UH{d:Nat}{x:Operand}{p:Value}{off:Nat}{h0:U2}{cs:List Value}(hx:WI t x p)(o:U6 h0 h p cs)(k:WO P tab l ⟨t.set d (yC p off),ds,rd⟩ h Q):WO P tab (⟨some d,none,.fld off x⟩::l) ⟨t,ds,rd⟩ h Q:=
 WO.op _ _ rfl (by exact XL hx o) k
theorem Uh{d:Nat}{x:Operand}{p:Value}{j off:Nat}{h0:U2}{cs:List Value}(hx:WI t x (yC p j))(o:U6 h0 h p cs)(k:WO P tab l ⟨t.set d (yC p (j+off)),ds,rd⟩ h Q):WO P tab (⟨some d,none,.fld off x⟩::l) ⟨t,ds,rd⟩ h Q:=
 WO.op _ _ rfl (by exact U6.fld hx o) k
theorem Um{d:Nat}{x y:Operand}{p:Value}{n:Int}{i len:Nat}{kk:IntKind}{h0:U2}{cs:List Value}(hx:WI t x (yC p 0))(o:U6 h0 h p cs)(hy:WI t y (.int kk n))(hi:Bx n i)(hl:i<len)(k:WO P tab l ⟨t.set d (yC p i),ds,rd⟩ h Q):WO P tab (⟨some d,none,.idxArr len 1 x y⟩::l) ⟨t,ds,rd⟩ h Q:=
 WO.op _ _ rfl (by unfold WI at hx hy;have hi2:W9 (ev t y)=some i:=(by rw[hy];exact(by cases n<;>rfl:W9 (.int kk n)=W9 (I n)).trans hi);have:=U6.idxArr (P:=P) (ih:=Ex.bot) (c:=1) hx hi2 o hl;rwa [Q6,G4]at this) k
theorem US{d:Nat}{x y:Operand}{p:Value}{n:Int}{i len:Nat}{kk:IntKind}{h0:U2}{cs:List Value}(hx:WI t x p)(o:U6 h0 h p cs)(hy:WI t y (.int kk n))(hi:Bx n i)(hl:i<len)(k:WO P tab l ⟨t.set d (yC p i),ds,rd⟩ h Q):WO P tab (⟨some d,none,.idxArr len 1 x y⟩::l) ⟨t,ds,rd⟩ h Q:=
 WO.op _ _ rfl (by unfold WI at hx hy;have hi2:W9 (ev t y)=some i:=(by rw[hy];exact(by cases n<;>rfl:W9 (.int kk n)=W9 (I n)).trans hi);have:=Vl (P:=P) (ih:=Ex.bot) (c:=1) hx hi2 o hl;rwa [G4]at this) k
theorem UO{d:Nat}{x y:Operand}{p:Value}{n:Int}{i j len:Nat}{kk:IntKind}{h0:U2}{cs:List Value}(hx:WI t x (yC p j))(o:U6 h0 h p cs)(hy:WI t y (.int kk n))(hi:Bx n i)(hl:i<len)(k:WO P tab l ⟨t.set d (yC p (j+i)),ds,rd⟩ h Q):WO P tab (⟨some d,none,.idxArr len 1 x y⟩::l) ⟨t,ds,rd⟩ h Q:=
 WO.op _ _ rfl (by unfold WI at hx hy;have hi2:W9 (ev t y)=some i:=(by rw[hy];exact(by cases n<;>rfl:W9 (.int kk n)=W9 (I n)).trans hi);have:=U6.idxArr (P:=P) (ih:=Ex.bot) (c:=1) hx hi2 o hl;rwa [G4]at this) k
theorem UQ{d:Nat}{x:Operand}{p:Value}{q:Nat}{xs:List Int}{h0:U2}(hx:WI t x (yC p q))(o:U6 h0 h p (xs.map I))(hl:q<xs.length)(k:WO P tab l ⟨t.set d (I (xs.getD q 0)),ds,rd⟩ h Q):WO P tab (⟨some d,none,.load false 1 x⟩::l) ⟨t,ds,rd⟩ h Q:=
 WO.op _ _ rfl (by refine U6.load hx o ?_;have h1:(xs.map I).drop q=I xs[q]::(xs.map I).drop (q+1):=(by rw[GI (by simpa using hl),List.getElem_map]);have hc:cut (xs.map I) q 1=some [I (xs.getD q 0)]:=(by rw[ZE (by simp;omega),h1];simp[List.getD,QB hl]);rw[hc];rfl) k
theorem XK{d:Nat}{x:Operand}{p r:Value}{n:Nat}{h0:U2}{cs:List Value}(hx:WI t x p)(o:U6 h0 h p cs)(hr:(cut cs 0 n).bind (zH true)=some r)(k:WO P tab l ⟨t.set d r,ds,rd⟩ h Q):WO P tab (⟨some d,none,.load true n x⟩::l) ⟨t,ds,rd⟩ h Q:=
 WO.op _ _ rfl (by exact Vi hx o hr) k
theorem Xo{d:Nat}{x:Operand}{p r:Value}{n:Nat}{h0:U2}{cs:List Value}(hx:WI t x p)(o:U6 h0 h p cs)(hr:(cut cs 0 n).bind (zH false)=some r)(k:WO P tab l ⟨t.set d r,ds,rd⟩ h Q):WO P tab (⟨some d,none,.load false n x⟩::l) ⟨t,ds,rd⟩ h Q:=
 WO.op _ _ rfl (by exact Vi hx o hr) k
theorem Xc{d:Nat}{x:Operand}{p r:Value}{n j:Nat}{h0:U2}{cs:List Value}(hx:WI t x (yC p j))(o:U6 h0 h p cs)(hr:(cut cs j n).bind (zH true)=some r)(k:WO P tab l ⟨t.set d r,ds,rd⟩ h Q):WO P tab (⟨some d,none,.load true n x⟩::l) ⟨t,ds,rd⟩ h Q:=
 WO.op _ _ rfl (by exact U6.load hx o hr) k
theorem UP{d:Nat}{x:Operand}{p r:Value}{n j:Nat}{h0:U2}{cs:List Value}(hx:WI t x (yC p j))(o:U6 h0 h p cs)(hr:(cut cs j n).bind (zH false)=some r)(k:WO P tab l ⟨t.set d r,ds,rd⟩ h Q):WO P tab (⟨some d,none,.load false n x⟩::l) ⟨t,ds,rd⟩ h Q:=
 WO.op _ _ rfl (by exact U6.load hx o hr) k
theorem UM{d:Nat}{x:Operand}{off n:Nat}{r:Value}{cs:Array Value}(hx:WI t x (.agg cs))(hr:(cut cs.toList off n).bind (zH true)=some r)(k:WO P tab l ⟨t.set d r,ds,rd⟩ h Q):WO P tab (⟨some d,none,.part true off n x⟩::l) ⟨t,ds,rd⟩ h Q:=
 WO.op _ _ rfl (by unfold WI at *;simp only[WE,hx,hr,QL]) k
theorem R.part{d:Nat}{x:Operand}{off n:Nat}{r:Value}{cs:Array Value}(hx:WI t x (.agg cs))(hr:(cut cs.toList off n).bind (zH false)=some r)(k:WO P tab l ⟨t.set d r,ds,rd⟩ h Q):WO P tab (⟨some d,none,.part false off n x⟩::l) ⟨t,ds,rd⟩ h Q:=
 WO.op _ _ rfl (by unfold WI at *;simp only[WE,hx,hr,QL]) k
theorem Uf{d:Nat}{len c g:Nat}{y:Operand}{n:Int}{i:Nat}{kk:IntKind}(hy:WI t y (.int kk n))(hi:Bx n i)(hl:i<len)(k:WO P tab l ⟨t.set d (.pointer (some ⟨g,0+i*c,none⟩)),ds,rd⟩ h Q):WO P tab (⟨some d,none,.idxArr len c (.global g) y⟩::l) ⟨t,ds,rd⟩ h Q:=
 WO.op _ _ rfl (by unfold WI at hy;have hb:Nat.ble (i+1) len=true:=QH hl;have hi2:W9 (ev t y)=some i:=(by rw[hy];exact(by cases n<;>rfl:W9 (.int kk n)=W9 (I n)).trans hi);simp only[WE,hi2];simp only[ev,hb,Qz,Q1,cond_true]) k
theorem UF{d:Nat}{x:Operand}{g off n:Nat}{r:Value}{cells:List Value}(hx:WI t x (.pointer (some ⟨g,off,none⟩)))(hg:yF h g=some cells)(hr:(cut cells off n).bind (zH true)=some r)(k:WO P tab l ⟨t.set d r,ds,rd⟩ h Q):WO P tab (⟨some d,none,.load true n x⟩::l) ⟨t,ds,rd⟩ h Q:=
 WO.op _ _ rfl (by unfold WI at *;simp only[WE,hx,hg,Qz,cond_true,QS,hr,QL]) k
theorem R.agg{d:Nat}{zero:List Value}{parts:List (Nat×Nat×Operand)}{vs:List (Nat×Nat×Value)}{cells:List Value}(hp:Wz t parts vs)(hf:y8 zero vs=some cells)(k:WO P tab l ⟨t.set d (.agg cells.toArray),ds,rd⟩ h Q):WO P tab (⟨some d,none,.build zero parts⟩::l) ⟨t,ds,rd⟩ h Q:=
 WO.op _ _ rfl (by unfold Wz at hp;simp only[WE,hp,hf,QL]) k
theorem Ut{d:Nat}{x:Operand}{a:Addr}(hx:WI t x (.pointer (some a)))(k:WO P tab l ⟨t.set d (.pointer (some a)),ds,rd⟩ h Q):WO P tab (⟨some d,none,.nilCheck x⟩::l) ⟨t,ds,rd⟩ h Q:=
 WO.op _ _ rfl (by unfold WI at *;simp only[WE,hx,Yy,QL]) k
theorem UW{d:Nat}{x:Operand}{m:Value}{es:List (Int×Int)}{h0:U2}(hx:WI t x m)(o:W7 h0 h m es)(k:WO P tab l ⟨t.set d (I es.length),ds,rd⟩ h Q):WO P tab (⟨some d,none,.lenMap x⟩::l) ⟨t,ds,rd⟩ h Q:=
 WO.op _ _ rfl (by unfold WI at *;obtain⟨g,c,es',_,_,rfl,hg,he⟩:=o;have hl:es'.length=es.length:=(by have:=congrArg List.length he;simpa using this);simp only[WE,hx,hg,hl]) k
theorem Uq{d:Nat}{mm ky:Operand}{z m:Value}{a:Int}{es:List (Int×Int)}{h0:U2}(hx:WI t mm m)(hk:WI t ky (I a))(o:W7 h0 h m es)(hl:es.lookup a=none)(k:WO P tab l ⟨t.set d (.tuple #[z,.bool false]),ds,rd⟩ h Q):WO P tab (⟨some d,none,.lookup true z mm ky⟩::l) ⟨t,ds,rd⟩ h Q:=
 WO.op _ _ rfl (by unfold WI at *;obtain⟨g,c,es',_,_,rfl,hg,he⟩:=o;simp only[WE,hx,hk,hg,zDD 0 he hl,Q2]) k
theorem Uw{d:Nat}{mm ky:Operand}{z m:Value}{a v:Int}{es:List (Int×Int)}{h0:U2}(hx:WI t mm m)(hk:WI t ky (I a))(o:W7 h0 h m es)(hl:es.lookup a=some v)(k:WO P tab l ⟨t.set d (.tuple #[I v,.bool true]),ds,rd⟩ h Q):WO P tab (⟨some d,none,.lookup true z mm ky⟩::l) ⟨t,ds,rd⟩ h Q:=
 WO.op _ _ rfl (by unfold WI at *;obtain⟨g,c,es',_,_,rfl,hg,he⟩:=o;obtain⟨j,hj⟩:=zF7 0 he hl;simp only[WE,hx,hk,hg,hj,Q2]) k
theorem Ur{d:Nat}{f:FuncId}{xs ys:List Operand}{vs us:List Value}(hx:BJ t xs vs)(hy:BJ t ys us)(k:WO P tab l ⟨t.set d (.func (.func f) vs.toArray us.toArray),ds,rd⟩ h Q):WO P tab (⟨some d,none,.mkFunc (.func f) xs ys⟩::l) ⟨t,ds,rd⟩ h Q:=
 WO.op _ _ rfl (by unfold BJ at *;simp only[WE,hx,hy]) k
theorem U1{d:Option Nat}{j:Nat}{want b:Bool}{op:Wn}(s:Wj t j (.bool b))(hb:b=want)(k:WO P tab (⟨d,none,op⟩::l) ⟨t,ds,rd⟩ h Q):WO P tab (⟨d,some (j,want),op⟩::l) ⟨t,ds,rd⟩ h Q:=
 XR (hb▸s) k
theorem Uu{d j:Nat}{b:Bool}{op:Wn}(s:Wj t j (.bool b))(hb:b=false)(k:WO P tab l ⟨t.set d undef,ds,rd⟩ h Q):WO P tab (⟨some d,some (j,true),op⟩::l) ⟨t,ds,rd⟩ h Q:=by
 subst hb;exact Vx s k
theorem Uy{d j:Nat}{b:Bool}{op:Wn}(s:Wj t j (.bool b))(hb:b=true)(k:WO P tab l ⟨t.set d undef,ds,rd⟩ h Q):WO P tab (⟨some d,some (j,false),op⟩::l) ⟨t,ds,rd⟩ h Q:=by
 subst hb;exact Vx s k
theorem U0{d j:Nat}{want:Bool}{op:Wn}(s:Wj t j undef)(k:WO P tab l ⟨t.set d undef,ds,rd⟩ h Q):WO P tab (⟨some d,some (j,want),op⟩::l) ⟨t,ds,rd⟩ h Q:=
 XQ s k
theorem VI{d:Option Nat}{j:Nat}{want b:Bool}{op:Wn}(h1:b=true->WO P tab (⟨d,some (j,want),op⟩::l) ⟨t,ds,rd⟩ h Q)(h2:b=false->WO P tab (⟨d,some (j,want),op⟩::l) ⟨t,ds,rd⟩ h Q)(s:Wj t j (.bool b):=by exact Yl):
  WO P tab (⟨d,some (j,want),op⟩::l) ⟨t,ds,rd⟩ h Q:=by
 cases b with
 |true=>exact h1 rfl
 |false=>exact h2 rfl
theorem VA{d:Nat}{f:FuncId}{args:List Operand}{as:List Value}{R:Value->U2->Prop}(hc:WC P tab f as h R)(k:∀ v h',R v h'->WO P tab l ⟨t.set d v,ds,rd⟩ h' Q)(ha:BJ t args as:=by exact zKs):
  WO P tab (⟨some d,none,.call (.func f) args⟩::l) ⟨t,ds,rd⟩ h Q:=WO.call ha (hc.mono k)
theorem VN{d:Nat}{f:Operand}{fv:Value}{args:List Operand}{as:List Value}{R:Value->U2->Prop}(hc:WV P tab fv as h R)(k:∀ v h',R v h'->WO P tab l ⟨t.set d v,ds,rd⟩ h' Q)(hf:WI t f fv:=by exact zM)(ha:BJ t args as:=by exact zKs):
  WO P tab (⟨some d,none,.call f args⟩::l) ⟨t,ds,rd⟩ h Q:=Xu hf ha (hc.mono k)
theorem WO.al{d:Nat}{zero:List Value}(k:∀ p h',U8 h h'->U6 h h' p zero->WO P tab l ⟨t.set d p,ds,rd⟩ h' Q):WO P tab (⟨some d,none,.alloc zero⟩::l) ⟨t,ds,rd⟩ h Q:=XO k
theorem VG{x y:Operand}{p v:Value}{cells cs:List Value}{n:Nat}{h0:U2}(o:U6 h0 h p cells)(e0:U8 h0 h)(k:∀ h',U8 h0 h'->U6 h0 h' p cs->Wc p h h'->WO P tab l ⟨t,ds,rd⟩ h' Q)
  (hx:WI t x p:=by exact zM) (hy:WI t y v:=by exact zM) (hv:v.cells=cs.toArray:=by rfl) (hn:cs.length=n:=by rfl) (hl:cells.length=n:=by rfl) (h1:zK cs=true:=by rfl):WO P tab (⟨none,none,.store n x y⟩::l) ⟨t,ds,rd⟩ h Q:=
 XB hx hy hv h1 hn o e0 hl k
theorem VW{x y:Operand}{p v:Value}{cells cs:List Value}{n j:Nat}{h0:U2}(o:U6 h0 h p cells)(e0:U8 h0 h)(k:∀ h',U8 h0 h'->U6 h0 h' p (zd cells j cs)->Wc p h h'->WO P tab l ⟨t,ds,rd⟩ h' Q)
  (hx:WI t x (yC p j):=by exact zM) (hy:WI t y v:=by exact zM) (hv:v.cells=cs.toArray:=by rfl) (hn:cs.length=n:=by rfl) (hl:j+n<=cells.length:=by decide) (h1:zK cs=true:=by rfl):WO P tab (⟨none,none,.store n x y⟩::l) ⟨t,ds,rd⟩ h Q:=
 Vn hx hy hv h1 hn o e0 hl k
theorem WO.bl{d n:Nat}{zero:List Value}{parts:List (Nat×Nat×Operand)}{vs:List (Nat×Nat×Value)}(xs:List Int)(k:∀ v h',U8 h h'->We h h' v xs->WO P tab l ⟨t.set d v,ds,rd⟩ h' Q)
  (hp:Wz t parts vs:=by(repeat (apply Wz.cons;(exact zM)));exact Wz.nil) (hn:xs.length=n:=by rfl) (hf:y8 (zY zero n) vs=some (xs.map I):=by rfl):WO P tab (⟨some d,none,.buildSlice n 1 zero parts⟩::l) ⟨t,ds,rd⟩ h Q:=
 XN xs hn (by unfold Wz at hp;rw[hp];exact hf) k
theorem Vb{d:Nat}{x y:Operand}{v w:Value}{xs ys:List Int}{h0:U2}(o:WJ h0 h v xs)(s:WM h w ys)(e0:U8 h0 h)(hr:xs.length+ys.length<=4294967296)(k:∀ v' h',U8 h0 h'->WJ h0 h' v' (xs++ys)->WO P tab l ⟨t.set d v',ds,rd⟩ h' Q)
  (hx:WI t x v:=by exact zM) (hy:WI t y w:=by exact zM):WO P tab (⟨some d,none,.append 1 x y⟩::l) ⟨t,ds,rd⟩ h Q:=by
 by_cases hne:ys=[]
 ·subst hne;have hsrc:yi 1 h w=some []:=by simpa using Z7 s
  have hv:∃ a n k,v=.slice a n k/\(a=none->n=0/\k=0):=by
   rcases o with⟨rfl,_⟩|⟨g,_,_,rfl,_⟩
   ·exact⟨_,_,_,rfl,fun _=>⟨rfl,rfl⟩⟩
   ·exact⟨_,_,_,rfl,fun h=>by cases h⟩
  refine WO.op v h rfl ?_ (k v h e0 (by simpa using o));unfold WI at hx hy;obtain⟨a,n,kk,rfl,ha⟩:=hv;cases a with
  |none=>obtain⟨rfl,rfl⟩:=ha rfl;simp only[WE,hx,hy,yW,hsrc]
  |some a=>simp only[WE,hx,hy,yW,hsrc]
 ·exact XC hx hy o s e0 hne hr fun v' h' a b _=>k v' h' a (.inr b)
theorem Vu{d:Nat}{op:BinOp}{ty:TypeId}{x y:Operand}{a b v:Value}(hp:zT P (do eqGuard op ty x y a b;binOp op ty a b)=some v)(k:WO P tab l ⟨t.set d v,ds,rd⟩ h Q)
  (hx:WI t x a:=by exact zM) (hy:WI t y b:=by exact zM) (hc:(Yq a&&Yq b)=true:=by rfl) (hv:yT v=true:=by rfl):WO P tab (⟨some d,none,.binP op ty x y⟩::l) ⟨t,ds,rd⟩ h Q:=by
 unfold WI at hx hy;refine WO.op v h rfl ?_ k;simp only[WE,hx,hy,hc,cond_true,hp,hv]
def zV8(M:U7 Value->U2->Prop)(ds:List Deferred)(rd:Option Nat):WF->U2->Prop:=fun fr h=>fr.dfs=ds/\fr.round=rd/\M fr.tm h
theorem zBr{ih:Ex}:∀ (a b:List U4) (fr:WF) (h:U2),yV P ih (a++b) fr h=(yV P ih a fr h).bind fun p=>yV P ih b p.1 p.2
 |[],b,fr,h=>rfl
 |o::a,b,fr,h=>by
  simp only[G7,yV];cases yI P ih o fr h with
  |none=>rfl
  |some p=>obtain⟨fr1,h1⟩:=p;exact zBr a b fr1 h1
theorem VU(n:Nat)(M:U7 Value->U2->Prop){ws:List Nat}(h1:WO P tab (l.take n) ⟨t,ds,rd⟩ h (zV8 M ds rd))(h2:∀ t' h',zCV ws t t'->M t' h'->WO P tab (l.drop n) ⟨t',ds,rd⟩ h' Q)(hw:(l.take n).filterMap (·.dst)=ws:=by rfl):WO P tab l ⟨t,ds,rd⟩ h Q:=by
 subst hw;unfold WO at h1;obtain⟨fr1,h',⟨q1,q2,q3⟩,ev1⟩:=h1;obtain⟨t1,ds1,rd1⟩:=fr1;simp only at q1 q2 q3;subst q1 q2;have hs:zCV ((l.take n).filterMap (·.dst)) t t1:=by
  intro j hj;obtain⟨N,a⟩:=(show ∃ N,∀ n',N<=n'->_ from by unfold Ev at ev1;exact ev1);exact zCL (a N (QE _)) (fun hm=>by
   have:=ZI hj;rw[List.contains_eq_mem,Gh]at this;exact this hm)
 have:=h2 t1 h' hs q3;unfold WO at this |-;obtain⟨fr2,h2',q,ev2⟩:=this;refine⟨fr2,h2',q,(ev1.and ev2).mono fun k ⟨e1,e2⟩=> ?_⟩;rw[<-GH n l,zBr,e1];exact e2
theorem Vj{d c i:Nat}{x y:Operand}{v r:Value}(hr:ZZ c v (some i) none none=some r)(k:WO P tab l ⟨t.set d r,ds,rd⟩ h Q)(hx:WI t x v:=by exact zM)(hy:WI t y (I (i:Int)):=by exact zM):
  WO P tab (⟨some d,none,.slice c x (some y) none none⟩::l) ⟨t,ds,rd⟩ h Q:=by
 unfold WI at hx hy;refine WO.op r h rfl ?_ k;have:W9 (I (i:Int))=some i:=rfl;simp only[WE,Bn,hx,hy,this,QL,hr]
theorem Vs{d c i:Nat}{x y:Operand}{v r:Value}(hr:ZZ c v none (some i) none=some r)(k:WO P tab l ⟨t.set d r,ds,rd⟩ h Q)(hx:WI t x v:=by exact zM)(hy:WI t y (I (i:Int)):=by exact zM):
  WO P tab (⟨some d,none,.slice c x none (some y) none⟩::l) ⟨t,ds,rd⟩ h Q:=by
 unfold WI at hx hy;refine WO.op r h rfl ?_ k;have:W9 (I (i:Int))=some i:=rfl;simp only[WE,Bn,hx,hy,this,QL,hr]
theorem Ug{c:Nat}{zero:List Value}{x:Operand}{v:Value}{h':U2}(hr:zBa c zero v h=some (.tuple #[],h'))(k:WO P tab l ⟨t,ds,rd⟩ h' Q)(hx:WI t x v:=by exact zM):
  WO P tab (⟨none,none,.clearS c zero x⟩::l) ⟨t,ds,rd⟩ h Q:=by
 unfold WI at hx;exact VR (.tuple #[]) h' rfl (by simp only[WE,hx,hr]) k
theorem VH{d:Nat}{x:Operand}{v:Value}(k:∀ p h',U8 h h'->U6 h h' p v.cells.toList->WO P tab l ⟨t.set d p,ds,rd⟩ h' Q)(hx:WI t x v:=by exact zM):
  WO P tab (⟨some d,none,.box x⟩::l) ⟨t,ds,rd⟩ h Q:=Xz v.cells.toList (by unfold WI at hx;rw[hx]) k
theorem UV{c:Operand}{x y:U3}{K:WB->WF->U2->Prop}{b:Bool}(s:WI t c (.bool b))(hb:b=true)(h1:WX P tab x ⟨t,ds,rd⟩ h K):WX P tab (.cond c x y) ⟨t,ds,rd⟩ h K:=
 Xm (hb▸s) h1
theorem UT{c:Operand}{x y:U3}{K:WB->WF->U2->Prop}{b:Bool}(s:WI t c (.bool b))(hb:b=false)(h1:WX P tab y ⟨t,ds,rd⟩ h K):WX P tab (.cond c x y) ⟨t,ds,rd⟩ h K:=
 XT (hb▸s) h1
theorem VE{c:Operand}{x y:U3}{K:WB->WF->U2->Prop}{b:Bool}(h1:b=true->WX P tab x ⟨t,ds,rd⟩ h K)(h2:b=false->WX P tab y ⟨t,ds,rd⟩ h K)(s:WI t c (.bool b):=by exact zM):WX P tab (.cond c x y) ⟨t,ds,rd⟩ h K:=
 WX.cond b s h1 h2
theorem WA{k:Nat}{v:Value}(s:Wj t k v:=by(repeat (first|((with_reducible apply VY);rfl)|((with_reducible apply Wj.same);(with_reducible assumption);rfl)));first|with_reducible exact Wj.here|with_reducible assumption|(unfold Wj;with_reducible assumption)|exact Wj.here):zB t k=v:=s
theorem Wx{k i:Nat}(s:Wj t k (I ((i:Int)+1)):=by(repeat (first|((with_reducible apply VY);rfl)|((with_reducible apply Wj.same);(with_reducible assumption);rfl)));first|with_reducible exact Wj.here|with_reducible assumption|(unfold Wj;with_reducible assumption)|exact Wj.here):zB t k=I ((i+1:Nat):Int):=s
def W5(h:U2)(t:U7 Value)(rs:List (Nat×Option (Bool×Nat)))(vs:List Value):Prop:=yD h t rs=some vs
theorem W5.nil:W5 h t [] []:=rfl
theorem W5.cons{j:Nat}{v:Value}{rs:List (Nat×Option (Bool×Nat))}{vs:List Value}(s:Wj t j v)(k:W5 h t rs vs):W5 h t ((j,none)::rs) (v::vs):=by
 unfold W5 at *;unfold Wj at s;simp only[yD,Yb,s,k]
theorem Vd{j n:Nat}{p v:Value}{h0:U2}{cs:List Value}{rs:List (Nat×Option (Bool×Nat))}{vs:List Value}(s:Wj t j p)(o:U6 h0 h p cs)(hr:(cut cs 0 n).bind (zH true)=some v)(k:W5 h t rs vs):W5 h t ((j,some (true,n))::rs) (v::vs):=by
 obtain⟨g,_,_,rfl,hg⟩:=o;unfold W5 at *;unfold Wj at s;simp only[yD,Yb,s,ZX hg,Qz,cond_true,QS,hr,k]
theorem rt{rs:List (Nat×Option (Bool×Nat))}{Q:Value->U2->Prop}{vs:List Value}(hq:Q (one vs) h)(r:W5 h t rs vs:=by(repeat (first|(apply W5.cons;(exact Yl))|(apply Vd;(exact Yl);(with_reducible assumption);(exact zJD))));exact W5.nil):zEm P tab rs Q .ret ⟨t,[],rd⟩ h:=zNb r hq
theorem BB{rs:List (Nat×Option (Bool×Nat))}{Q:Value->U2->Prop}{vs:List Value}(hq:Q (one vs) h)(r:W5 h t rs vs:=by(repeat (first|(apply W5.cons;(exact Yl))|(apply Vd;(exact Yl);(with_reducible assumption);(exact zJD))));exact W5.nil):zEm P tab rs Q .normal ⟨t,[],rd⟩ h:=zHn r hq
theorem VD(ws:List Nat){α:Type}{b:U3}{K:WB->WF->U2->Prop}(hw:yH b=ws)(μ:α->Nat)(I:α->U7 Value->U2->Prop)(x:α)(h0:I x t h)
  (hb:∀ x t' h',zCV ws t t'->I x t' h'->WX P tab b ⟨t',ds,rd⟩ h' (zCS μ I x ds rd K)):WX P tab (.loop b) ⟨t,ds,rd⟩ h K:=
 Xq μ I x h0 fun x t' h' hs hi=>hb x t' h' (fun j hj=>hs j (by rw[hw];exact ZI hj)) hi
structure Wrap(G:Prop):Prop where
 out:G
theorem go{G' G:Prop}(k:G')(r:Wrap G'->G:=by
  intro hgo;repeat (first|refine WX.seq ?_|refine WX.region ?_|(apply R.mov;(exact zM))|(apply R.add;(exact zM);(exact zM);(omega);(omega))|(apply R.sub;(exact zM);(exact zM);(omega);(omega))|(apply R.mul;(exact zM);(exact zM);(omega);(omega))|(apply R.lss;(exact zM);(exact zM))|(apply R.leq;(exact zM);(exact zM))|(apply R.gtr;(exact zM);(exact zM))|(apply R.geq;(exact zM);(exact zM))|(apply R.eql;(exact zM);(exact zM))|(apply R.neq;(exact zM);(exact zM))|(apply R.not;(exact zM))|(apply Ux;(exact zM);(exact zM))|(apply Uz;(exact zM);(exact zM))|(apply Xs;(exact zM);(omega);(omega))|(apply R.conv;(exact zM))|(apply UL;(exact zM);(exact zGw);(exact zM))|(apply UK;(exact zM);(exact zGw);(exact zM))|(apply Xe;(exact zM))|(apply Xa;(exact zM))|(apply Xi;(exact zM))|(apply Xg;(exact zM))|(apply XS;(exact zM))|(apply XU;(exact zM))|(apply Xp;(exact zM))|(apply Xl;(exact zM))|(apply XW;(exact zM))|(apply R.lenC)|(apply R.nil;(exact zM);(rfl))|(apply Uk;(exact zM);(exact zT4))|(apply Ub;(exact zM);(with_reducible assumption))|(apply Uj;(exact zM);(exact zM);(exact zLd);(exact zT4);(exact zIZ))|(apply Ul;(exact zM);(exact zM);(exact zLd);(with_reducible assumption);(exact zIZ))|(apply UE;(exact zM);(exact zT4);(exact zIZ))|(apply UY;(exact zM);(with_reducible assumption);(decide);(exact zJD))|(apply Us;(exact zM);(with_reducible assumption);(decide);(rfl))|(apply UD;(exact zM);(with_reducible assumption);(decide);(exact zJD))|(apply Ua;(exact zM);(with_reducible assumption);(decide);(rfl))|(apply R.fldP;(exact zM);(with_reducible assumption))|(apply UH;(exact zM);(with_reducible assumption))|(apply Uh;(exact zM);(with_reducible assumption))|(apply Um;(exact zM);(with_reducible assumption);(exact zM);(exact zLd);(exact zIZ))|(apply US;(exact zM);(with_reducible assumption);(exact zM);(exact zLd);(exact zIZ))|(apply UO;(exact zM);(with_reducible assumption);(exact zM);(exact zLd);(exact zIZ))|(apply UQ;(exact zM);(with_reducible assumption);(exact zIZ))|(apply XK;(exact zM);(with_reducible assumption);(exact zJD))|(apply Xo;(exact zM);(with_reducible assumption);(rfl))|(apply Xc;(exact zM);(with_reducible assumption);(exact zJD))|(apply UP;(exact zM);(with_reducible assumption);(rfl))|(apply UM;(exact zM);(exact zJD))|(apply R.part;(exact zM);(rfl))|(apply Uf;(exact zM);(exact zLd);(exact zIZ))|(apply UF;(exact zM);(with_reducible assumption);(with_reducible assumption))|(apply R.agg;((repeat (apply Wz.cons;(exact zM)));exact Wz.nil);(exact zWD))|(apply Ut;(exact zM))|(apply UW;(exact zM);(with_reducible assumption))|(apply Uq;(exact zM);(exact zM);(with_reducible assumption);(with_reducible assumption))|(apply Uw;(exact zM);(exact zM);(with_reducible assumption);(with_reducible assumption))|(apply Ur;(exact zKs);(exact zKs))|(apply U1;(exact Yl);(exact zGw))|(apply Uu;(exact Yl);(exact zGw))|(apply Uy;(exact Yl);(exact zGw))|(apply U0;(exact Yl))|refine WO.nil ?_|refine YJ ?_|refine WX.skip ?_|refine WX.block ?_|refine WX.exit ?_|refine zDV ?_|refine zBn ?_|refine zEv ?_|refine zBU rfl ?_|refine zEs ?_|refine WX.ret ?_|refine zF2 ?_|refine zE6 ?_|refine zGN ?_|(apply UV;(exact zM);(exact zGw))|(apply UT;(exact zM);(exact zGw))|refine WX.label ?_|refine WX.goto ?_|refine zEQ ?_|refine zDb ?_|refine zE9 ?_|refine Ve rfl ?_)
  exact hgo.out):G:=r ⟨k⟩
theorem gr{G' G:Prop}(k:G')(r:Wrap G'->G:=by
  intro hgo;refine go ?_;refine rt ?_;exact hgo.out):G:=r ⟨k⟩
theorem goC{G' G:Prop}(k:G')(r:Wrap G'->G:=by
  intro hgo;repeat (first|refine WX.seq ?_|refine WX.region ?_|refine WO.nil ?_|refine YJ ?_|refine WX.skip ?_|refine WX.block ?_|refine WX.exit ?_|refine zDV ?_|refine zBn ?_|refine zEv ?_|refine zBU rfl ?_|refine zEs ?_|refine WX.ret ?_|refine zF2 ?_|refine zE6 ?_|refine zGN ?_|(apply UV;(exact zM);(exact zGw))|(apply UT;(exact zM);(exact zGw))|refine WX.label ?_|refine WX.goto ?_|refine zEQ ?_|refine zDb ?_|refine zE9 ?_|refine Ve rfl ?_)
  exact hgo.out):G:=r ⟨k⟩
end
section
variable {P:Program}
theorem zO{α β:Type}(x:Sem α)(f:α->Sem β):zT P (x>>=f)=(zT P x).bind fun a=>zT P (f a):=by
 show zT P (x.bind f)=_;induction x with
 |pure a=>rfl
 |program k ih=>simp only[Sem.bind,zT];exact ih _
 |mark m k ih=>simp only[Sem.bind,zT];exact ih
 |_=>simp[Sem.bind,zT]
theorem zG0{α:Type}(a:α):zT P (pure a)=some a:=rfl
theorem yw:zT P program=some P:=rfl
theorem yo{t:TypeId}{d:TypeDesc}(h:P.underlying t=some d):zT P (underlying t)=some d:=by
 unfold underlying;rw[zO,yw];simp only[QS,h];rfl
def zFp:Value->Value->Bool
 | .int _ a,.int _ b=>a == b
 | .bool a,.bool b=>a == b
 |_,_=>false
def zO4(P:Program)(f:Field):Value->Value->Bool
 | .int k _,.int k' _=>decide (k=k')&&(match P.underlying f.type with|some (.int _)=>true|_=>false)
 | .bool _,.bool _=>(match P.underlying f.type with|some .bool=>true|_=>false)
 |_,_=>false
def zEr(P:Program):List Field->Nat->List Value->List Value->Bool
 |[],_,[],[]=>true
 |f::fs,i,x::xs,y::ys=>(f.name != "_")&&Nat.beq f.offset i&&(match zT P (isAgg f.type)with|some false=>true|_=>false)&&zO4 P f x y&&zEr P fs (i+1) xs ys
 |_,_,_,_=>false
def zCq:List Value->List Value->Bool
 |x::xs,y::ys=>zFp x y&&zCq xs ys
 |_,_=>true
theorem zLI{f:Field}{x y:Value}{d:Nat}(h:zO4 P f x y=true):zT P (Op.equalIn (d+1) f.type x y)=some (zFp x y):=by
 unfold zO4 at h;split at h
 ·rename_i k a k' b;rw[QF]at h;obtain⟨h1,h2⟩:=h;have h1:=Gw h1;subst h1;split at h2;case h_2=>cases h2
  rename_i k2 hu;rw[Op.equalIn,zO,yo hu];simp only[QS,Q2];rfl
 ·split at h;case h_2=>cases h
  rename_i hu;rw[Op.equalIn,zO,yo hu];simp only[QS];rfl
 ·cases h
theorem zCu{t:TypeId}{cs:Array Value}{off:Nat}{v:Value}(h:(match zT P (isAgg t)with|some false=>true|_=>false)=true)(hv:cs[off]?=some v):zT P (part t cs off)=some v:=by
 have h':zT P (isAgg t)=some false:=by
  split at h
  ·assumption
  ·cases h
 unfold part;rw[zO,h'];simp only[QS,hv];rfl
theorem zRY{xs ys:Array Value}{n d:Nat}(hn:n=d+1):∀ (l:List Field) (i:Nat) (us vs:List Value),zEr P l i us vs=true->(∀ j,xs[i+j]?=us[j]?)->(∀ j,ys[i+j]?=vs[j]?)->
  zT P (do
   let s <-(forIn l (none,()) fun f (__s:Option Bool×Unit)=>
          if f.name≠ "_" then do
           let __do_lift <-part f.type xs f.offset
           let __do_lift_1 <-part f.type ys f.offset
           let __do_lift <-Op.equalIn n f.type __do_lift __do_lift_1
           if(!__do_lift)=true then pure (ForInStep.done (some false,()))
            else pure (ForInStep.yield (none,()))
          else pure (ForInStep.yield (none,())):Sem (Option Bool×Unit))
   match s.fst with
        |some r=>pure r
        |none=>pure true)=some (zCq us vs):=by
 intro l;induction l with
 |nil=>
  intro i us vs hk _ _;cases us with
  |cons _ _=>cases hk
  |nil=>cases vs with
   |cons _ _=>cases hk
   |nil=>rfl
 |cons f l ih=>
  intro i us vs hk hx hy;cases us with
  |nil=>cases hk
  |cons u us=>cases vs with
   |nil=>cases hk
   |cons v vs=>
   simp only[zEr,QF]at hk;obtain⟨⟨⟨⟨k1,k2⟩,k3⟩,k4⟩,k5⟩:=hk;have hoff:=QJ k2;have hname:f.name≠ "_":=by simpa using k1
   have hxu:xs[f.offset]?=some u:=by rw[hoff];simpa using hx 0
   have hyv:ys[f.offset]?=some v:=by rw[hoff];simpa using hy 0
   have ihl:=ih (i+1) us vs k5 (fun j=>by have:=hx (j+1);rw[List.getElem?_cons_succ]at this;rw[<-this];congr 1;omega) (fun j=>by have:=hy (j+1);rw[List.getElem?_cons_succ]at this;rw[<-this];congr 1;omega);have heq:zT P (Op.equalIn n f.type u v)=some (zFp u v):=by rw[hn];exact zLI k4
   rw[List.forIn_cons];simp only[bind_assoc,zO,QI hname,zCu k3 hxu,zCu k3 hyv,QS,heq];cases he:zFp u v with
   |false=>simp only[zCq,he,Qg];rfl
   |true=>
    simp only[zCq,he,Qd];rw[<-ihl,zO];rfl
theorem zMM{t:TypeId}{fs:Array Field}{xs ys:Array Value}{x y:Operand}(ht:P.underlying t=some (.struct fs))(hs:P.stoodInHeld t=false)(hg:P.eqGuardType P.depth t=false)(hk:zEr P fs.toList 0 xs.toList ys.toList=true):
  zT P (do eqGuard .eql t x y (.agg xs) (.agg ys);binOp .eql t (.agg xs) (.agg ys))=some (.bool (zCq xs.toList ys.toList)):=by
 have h1:zT P (eqGuard .eql t x y (.agg xs) (.agg ys))=some ():=by
  unfold eqGuard;simp only[QY,Qn,Gi];rw[zO,yw];simp only[QS];rw[zO,yw];simp only[QS,hg,Qf,Q2];rfl
 rw[zO,h1];simp only[QS];unfold binOp;simp only[];rw[zO];have h2:zT P (Op.equal t (.agg xs) (.agg ys))=some (zCq xs.toList ys.toList):=by
  unfold Op.equal Op.maxDepth;rw[show(10000:Nat)=9999+1 from rfl,Op.equalIn,zO,yo ht];simp only[QS];rw[zO,yw];simp only[QS,hs,Qn,Gi];have:=zRY (P:=P) (xs:=xs) (ys:=ys) (n:=9999) (d:=9998) rfl fs.toList 0 xs.toList ys.toList hk (fun j=>by simp) (fun j=>by simp);rw[<-this,<-Array.forIn_toList,zO,zO];congr 1;funext s;obtain⟨a,_⟩:=s;cases a<;>rfl
 rw[h2];rfl
def chk(P:Program)(t:TypeId)(xs ys:List Value):Bool:=
 (match P.underlying t with|some (.struct fs)=>zEr P fs.toList 0 xs ys|_=>false)&& !P.stoodInHeld t&& !P.eqGuardType P.depth t
theorem zJ3{t:TypeId}{xs ys:Array Value}{x y:Operand}{b:Bool}(h:chk P t xs.toList ys.toList=true)(hb:zCq xs.toList ys.toList=b):zT P (do eqGuard .eql t x y (.agg xs) (.agg ys);binOp .eql t (.agg xs) (.agg ys))=some (.bool b):=by
 subst hb;unfold chk at h;simp only[QF,GZ]at h;obtain⟨⟨h1,h2⟩,h3⟩:=h;split at h1;case h_2=>cases h1
 rename_i fs hu;exact zMM hu h2 h3 h1
end
section
variable {P:Program}
end
section
variable {P:Program}{tab:Wi}
def okU(m N0:Nat)(un:List Nat)(cl:Bool)(t:U7 Value)(o:U4)(h h':U2):Prop:=
 (∀ g∈h'.wr,m<=g)/\h.n<=h'.n/\(un=[]\/(cl=true/\h'.wr=[]/\∀ g,zZ t o=some g->g<N0))
def WU(P:Program)(tab:Wi)(m N0:Nat):List (U4×List Nat)->Nat->Bool->WF->U2->(WF->U2->Prop)->Prop
 |[],_,_,fr,h,Q=>Q fr h
 |(o,un)::l,g,cl,fr,h,Q=>
  if Nat.beq (zE o.op) 3=true then
   un=[]/\((zP fr.tm o.guard=true/\m<=g/\∃ ob f,ye fr.tm o.op=some (ob,f)/\WU P tab m N0 l (g+1) false (val o.dst fr (f g)) ((inC h).lay g ob) Q)\/
    (zP fr.tm o.guard=false/\WU P tab m N0 l (g+1) cl (val o.dst fr undef) (inC h) Q))
  else WO P tab [o] fr (inC h) fun fr' h'=>okU m N0 un cl fr.tm o h h'/\WU P tab m N0 l g (cl&&h'.wr.isEmpty) fr' h' Q
theorem zLF{m N0:Nat}{un:List Nat}{cl:Bool}{t:U7 Value}{o:U4}{h h':U2}(hk:okU m N0 un cl t o h h'){ws:List (Nat×Nat)}(hw:cl=true->ws=[]){bs:List (Nat×Nat)}(hb:∀ e∈bs,N0<=e.2)(rs:List (Nat×Nat×Option (Nat×Nat×List Value))):
  ((match zZ t o with
   |some g=>(ws.all fun x=> !(Nat.beq g x.2&&un.contains x.1))&&bs.all fun x=> !un.contains x.1||Nat.ble (g+1) x.2
   |none=>true)&&rs.all fun x=> !(un.contains x.1&&h'.wr.contains x.2.1)||zBo h' x.2.1 x.2.2)=true:=by
 obtain⟨_,_,rfl|⟨h1,h2,h3⟩⟩:=hk
 ·exact zJB o ws rs bs t h'
 ·rw[hw h1,h2];have e2:(rs.all fun x=> !(un.contains x.1&&([]:List Nat).contains x.2.1)||zBo h' x.2.1 x.2.2)=true:=by simp
  rw[e2,Qj];cases hr:zZ t o with
  |none=>rfl
  |some g=>
   have hg:=h3 g hr;simp only[List.all_nil,Qd];rw[QX];intro x hx;have:Nat.ble (g+1) x.2=true:=QH (QG hg (hb x hx));rw[this,Qv]
theorem WU.run{m N0:Nat}:∀ {ops:List (U4×List Nat)} {g:Nat} {cl:Bool} {fr:WF} {h:U2} {Q:WF->U2->Prop},N0<=h.n->WU P tab m N0 ops g cl fr h Q->
  ∃ fr' h',Q fr' h'/\∀ (i:Nat) (ws:List (Nat×Nat)) (rs:List (Nat×Nat×Option (Nat×Nat×List Value))) (bs:List (Nat×Nat)),(∀ e∈ws,m<=e.2)->(cl=true->ws=[])->(∀ e∈bs,N0<=e.2)->
   ∃ ws',(∀ e∈ws',m<=e.2)/\Ev fun n=>zz P (Wy P tab n) ops i g ws rs bs fr h=some (fr',h',ws'):=by
 intro ops;induction ops with
 |nil=>intro g cl fr h Q _ hx;exact⟨fr,h,hx,fun i ws rs bs hw _ _=>⟨ws,hw,Ev.all fun n=>rfl⟩⟩
 |cons x ops ihl=>
  intro g cl fr h Q hn hx;obtain⟨o,un⟩:=x;simp only[WU]at hx;have go:∀ {g':Nat} {cl':Bool} {fr1:WF} {h1:U2},(g'=bif Nat.beq (zE o.op) 3 then g+1 else g)->(cl'=true->cl=true/\h1.wr=[])->(Ev fun n=>z0 P (Wy P tab n) g o fr (inC h)=some (fr1,h1))->okU m N0 un cl fr.tm o h h1->WU P tab m N0 ops g' cl' fr1 h1 Q->
    ∃ fr' h',Q fr' h'/\∀ (i:Nat) (ws:List (Nat×Nat)) (rs:List (Nat×Nat×Option (Nat×Nat×List Value))) (bs:List (Nat×Nat)),(∀ e∈ws,m<=e.2)->(cl=true->ws=[])->(∀ e∈bs,N0<=e.2)->
     ∃ ws',(∀ e∈ws',m<=e.2)/\Ev fun n=>zz P (Wy P tab n) ((o,un)::ops) i g ws rs bs fr h=some (fr',h',ws'):=by
   intro g' cl' fr1 h1 hg hcl ev hk hx;obtain⟨fr',h',q,run⟩:=ihl (QO hn hk.2.1) hx;refine⟨fr',h',q,fun i ws rs bs hws hwc hbs=> ?_⟩;obtain⟨ws',w1,w2⟩:=run (i+1) (h1.wr.map (fun g=>(i,g))++ws) (match zZ fr.tm o with
     |some g=>(i,g,Yg fr.tm h o.op)::rs
     |none=>rs) ((i,h.n)::bs) (fun e he=>by
      rcases Qi.1 he with he|he
      ·obtain⟨y,hy,rfl⟩:=Qt.1 he;exact hk.1 y hy
      ·exact hws e he) (fun hc=>by
      obtain⟨c1,c2⟩:=hcl hc;rw[hwc c1,c2];rfl) (fun e he=>by
      rcases GL.1 he with rfl|he
      ·exact hn
      ·exact hbs e he)
   refine⟨ws',w1,(ev.and w2).mono fun n ⟨e1,e2⟩=> ?_⟩;simp only[zz];have e1':z0 P (Wy P tab n) g o fr {h with mark:=h.n,wr:=[]}=some (fr1,h1):=e1;rw[e1'];have hok:=zLF hk hwc hbs rs;exact(congrArg (fun b:Bool=>bif b then zz P (Wy P tab n) ops (i+1) (bif Nat.beq (zE o.op) 3 then g+1 else g) (h1.wr.map (fun g=>(i,g))++ws) (match zZ fr.tm o with
     |some g=>(i,g,Yg fr.tm h o.op)::rs
     |none=>rs) ((i,h.n)::bs) fr1 h1 else none) hok).trans (by rw[cond_true,<-hg];exact e2)
  by_cases hk:Nat.beq (zE o.op) 3=true
  ·rw[QI hk]at hx;obtain⟨rfl,⟨hw,hm,ob,f,hmade,hx⟩|⟨hw,hx⟩⟩:=hx;case inr=>
    refine go (g':=g+1) (cl':=cl) (by rw[hk];rfl) (fun h=>⟨h,rfl⟩) (Ev.all fun n=> ?_) (h1:=inC h) ⟨fun x hx=>(by cases hx),(show h.n<=h.n from QE _),.inl rfl⟩ hx;unfold z0;simp only[hk,hw,cond_true,QR]
   refine go (g':=g+1) (cl':=false) (by rw[hk];rfl) (fun h=>by cases h) (Ev.all fun n=> ?_) (h1:=(inC h).lay g ob) ⟨fun x hx=> ?_,(show h.n<=h.n from QE _),.inl rfl⟩ hx
   ·unfold z0;simp only[hk,hw,hmade,cond_true]
   ·rcases ZB hx with rfl|hx
    ·exact hm
    ·cases hx
  ·rw[QC hk]at hx;have hk':Nat.beq (zE o.op) 3=false:=by cases hb:Nat.beq (zE o.op) 3 with
    |false=>rfl
    |true=>exact absurd hb hk
   unfold WO at hx;obtain⟨fr1,h1,⟨q1,q2⟩,ev⟩:=hx;refine go (g':=g) (cl':=cl&&h1.wr.isEmpty) (by rw[hk'];rfl) (fun hc=>by
    rw[QF]at hc;exact⟨hc.1,List.isEmpty_iff.1 hc.2⟩) (ev.mono fun n e=> ?_) q1 q2
   unfold z0;simp only[hk',QR];simp only[yV]at e;cases ha:yI P (Wy P tab n) o fr (inC h)with
   |none=>rw[ha]at e;cases e
   |some p=>rw[ha]at e;exact e
def zC(k:Nat)(h:U2):U2:={h with n:=h.n+k}
theorem za(k:Nat)(h:U2):U8 h (zC k h):=⟨G6 _ _,fun _ _=>rfl,fun w g hg=>w g (QO (G6 _ _) hg),rfl,fun _=>rfl⟩
theorem VC{ops:List (U4×List Nat)}{fr:WF}{h:U2}{K:WB->WF->U2->Prop}(k:Nat)(hk:zC8 ops=k)(hne:ops.isEmpty=false)
  (hx:WU P tab h.mark (h.n+k) ops h.n true fr (inC (zC k h)) (Bq K h)):WX P tab (.regionC ops) fr h K:=by
 subst hk;have hx':WU P tab h.mark (h.n+zC8 ops) ops h.n true fr (zC (zC8 ops) h) (Bq K h):=by
  cases ops with
  |nil=>cases hne
  |cons x ops=>exact hx
 obtain⟨fr',h',q,run⟩:=WU.run (h:=zC (zC8 ops) h) (show h.n+zC8 ops<=h.n+zC8 ops from QE _) hx';obtain⟨ws',w1,w2⟩:=run 0 [] [] [] (fun e he=>by cases he) (fun _=>rfl) (fun e he=>by cases he);unfold WX;refine⟨.normal,fr',_,q,Ev.up (w2.mono fun n e=> ?_)⟩;rw[zq];simp only[ze,YB];have e':zz P (Wy P tab n) ops 0 h.n [] [] [] fr {h with n:=h.n+(ops.filter fun x=>Nat.beq (zE x.1.op) 3).length}=some (fr',h',ws'):=e;rw[e'];have:((ws'.map (·.2)).filter fun g=> !Nat.ble h.mark g)=[]:=by
  rw[List.filter_eq_nil_iff];intro g hg;obtain⟨y,hy,rfl⟩:=Qt.1 hg;have:Nat.ble h.mark y.2=true:=QH (w1 y hy);simp[this]
 simp[this,yu]
end
section
variable {P:Program}{tab:Wi}{m N0:Nat}{l:List (U4×List Nat)}{o:U4}{un:List Nat}{g:Nat}{cl:Bool}{fr:WF}{h h0 h':U2}{Q:WF->U2->Prop}{K:WB->WF->U2->Prop}{x:U4×List Nat}
def uK2(P:Program)(tab:Wi)(m N0:Nat)(un:List Nat)(t:U7 Value)(o:U4)(h:U2)(l:List (U4×List Nat))(g:Nat)(cl:Bool)(Q:WF->U2->Prop):WF->U2->Prop:=
 fun fr' h'=>okU m N0 un cl t o h h'/\WU P tab m N0 l g (cl&&h'.wr.isEmpty) fr' h' Q
theorem WU.q(hk:Nat.beq (zE o.op) 3=false)(hx:WO P tab [o] fr (inC h) (uK2 P tab m N0 un fr.tm o (inC h) l g cl Q)):WU P tab m N0 ((o,un)::l) g cl fr (inC h) Q:=by
 simp only[WU];rw[QC (by rw[hk];exact Bool.noConfusion)];exact hx
theorem zS7{t:U7 Value}(hx:WU P tab m N0 l g cl fr (inC h) Q):uK2 P tab m N0 [] t o (inC h) l g cl Q fr (inC h):=
 ⟨⟨fun g hg=>(by cases hg),QE _,.inl rfl⟩,by rw[show(cl&&(inC h).wr.isEmpty)=cl from by simp[inC]];exact hx⟩
theorem zIF{t:U7 Value}(hr:∀ g,zZ t o=some g->g<N0)(hx:WU P tab m N0 l g true fr (inC h) Q):uK2 P tab m N0 un t o (inC h) l g true Q fr (inC h):=
 ⟨⟨fun g hg=>(by cases hg),QE _,.inr ⟨rfl,rfl,hr⟩⟩,by rw[show(true&&(inC h).wr.isEmpty)=true from by simp[inC]];exact hx⟩
theorem zS0{t:U7 Value}(e:U8 (inC h) h')(hr:zZ t o=none)(hx:WU P tab m N0 (x::l) g true fr (inC h') Q):uK2 P tab m N0 un t o (inC h) (x::l) g true Q fr h':=by
 have hw:=e.wrnil;refine⟨⟨fun g hg=>(by rw[hw]at hg;cases hg),e.n,?_⟩,?_⟩
 ·exact .inr ⟨rfl,hw,fun g hg=>by rw[hr]at hg;cases hg⟩
 ·rw[hw];exact hx
theorem zQK{t:U7 Value}(hx:K .normal fr (yu h0 (inC h))):uK2 P tab m N0 [] t o (inC h) [] g cl (Bq K h0) fr (inC h):=⟨⟨fun g hg=>(by cases hg),QE _,.inl rfl⟩,hx⟩
theorem Xn{t:U7 Value}{ds:List Deferred}{rd:Option Nat}{zero cs:List Value}{d n:Nat}{y:Operand}{v:Value}(hm:m<=g)(hg:g<h.n)(hz:zero.length=n)(hn:cs.length=n)(h1:zK cs=true)(hv:v.cells=cs.toArray)(hy:ev (t.set d (.pointer (some ⟨g,0,none⟩))) y=v)
  (hx:Q ⟨t.set d (.pointer (some ⟨g,0,none⟩)),ds,rd⟩ ((inC ((inC h).lay g (.row zero true 0))).set g (.row cs true 0))):
  WU P tab m N0 [(⟨some d,none,.alloc zero⟩,[]),(⟨none,none,.store n (.tmp d) y⟩,[])] g cl ⟨t,ds,rd⟩ (inC h) Q:=by
 subst hn;rw[WU,QI (show Nat.beq (zE (Wn.alloc zero)) 3=true from rfl)];refine⟨rfl,.inl ⟨rfl,hm,_,_,rfl,?_⟩⟩;rw[show inC (inC h)=inC h from rfl];rw[WU,QC (show ¬Nat.beq (zE (Wn.store cs.length (.tmp d) y)) 3=true from Bool.noConfusion)];have hget:(inC ((inC h).lay g (.row zero true 0))).get g=some (.row zero true 0):=by
  show((inC h).tab.set g (.row zero true 0)).get g=_;rw[zQ,QI rfl]
 have hst:zg (inC ((inC h).lay g (.row zero true 0))) ⟨g,0,none⟩ cs=some ((inC ((inC h).lay g (.row zero true 0))).set g (.row cs true 0)):=by
  have h2:Nat.ble (0+cs.length) zero.length=true:=QH (by omega);have h3:Nat.ble 0 0=true:=rfl;have h4:zd zero 0 cs=cs:=by simp[zd,hz]
  simp only[zg,hget,h2,h3,h1,h4,Qz,Q1,cond_true]
 refine VR undef ((inC ((inC h).lay g (.row zero true 0))).set g (.row cs true 0)) rfl (by
  simp only[WE];have e1:ev (val (some d) ⟨t,ds,rd⟩ (.pointer (some ⟨g,0,none⟩))).tm (.tmp d)=.pointer (some ⟨g,0,none⟩):=by simp only[val,ev,zh,Q2]
  have e2:ev (val (some d) ⟨t,ds,rd⟩ (.pointer (some ⟨g,0,none⟩))).tm y=v:=hy;have e1':ev (t.set d (.pointer (some ⟨g,0,none⟩))) (.tmp d)=.pointer (some ⟨g,0,none⟩):=e1;simp only[val,e1',hy,hv,Gx,Ge,hst,QL,cond_true]) ?_
 refine WO.nil ⟨⟨fun k hk=> ?_,QE _,.inl rfl⟩,hx⟩;have hk2:k∈(inC ((inC h).lay g (.row zero true 0))).log g:=hk;rcases ZB hk2 with rfl|hk3
 ·exact hm
 ·cases hk3
theorem zIt{k:Nat}{o o':Wd}(e:U8 (inC (zC 1 h0)) h):U8 h0 (yu h0 ((inC ((inC h).lay h0.n o)).set h0.n o')):=by
 have hn:h0.n+1<=h.n:=e.n;refine⟨by show h0.n<=h.n;omega,fun k hk=> ?_,fun w k hk=> ?_,rfl,fun _=>rfl⟩
 ·show((h.tab.set h0.n o).set h0.n o').get k=_;rw[zQ,QC (by omega),zQ,QC (by omega)];exact e.get k (by show k<h0.n+1;omega)
 ·have hk:h.n<=k:=hk;show((h.tab.set h0.n o).set h0.n o').get k=_;rw[zQ,QC (by omega),zQ,QC (by omega)];exact e.wf (fun j hj=>w j (by have:h0.n+1<=j:=hj;omega)) k hk
theorem zIb{cs:List Value}{o:Wd}(e:U8 (inC (zC 1 h0)) h):U6 h0 (yu h0 ((inC ((inC h).lay h0.n o)).set h0.n (.row cs true 0))) (.pointer (some ⟨h0.n,0,none⟩)) cs:=by
 have hn:h0.n+1<=h.n:=e.n;exact⟨h0.n,QE _,by show h0.n<h.n;omega,rfl,by
  show((h.tab.set h0.n o).set h0.n (.row cs true 0)).get h0.n=_;rw[zQ,QI rfl]⟩
end
section
variable {P:Program}{tab:Wi}{ds:List Deferred}{rd:Option Nat}{h:U2}{l:List U4}{t:U7 Value}
theorem WT{G' G:Prop}(k:G')(r:Wrap G'->G:=by
  intro hgo;first|with_reducible show WU _ _ _ _ (_::_) _ _ _ _ _|refine go ?_
  repeat (first|((apply WU.q;rfl);refine go ?_)|refine zS7 ?_|refine zQK ?_)
  first|with_reducible show WU _ _ _ _ (_::_) _ _ _ _ _|refine go ?_
  exact hgo.out):G:=r ⟨k⟩
theorem gUr{G' G:Prop}(k:G')(r:Wrap G'->G:=by
  intro hgo;refine WT ?_;refine rt ?_;exact hgo.out):G:=r ⟨k⟩
theorem XD{m N0 n g d:Nat}{cl:Bool}{y:Operand}{v:Value}{zero cs:List Value}{Q:WF->U2->Prop}(hm:m<=g)(hg:g<h.n)(hx:Q ⟨t.set d (.pointer (some ⟨g,0,none⟩)),ds,rd⟩ ((inC ((inC h).lay g (.row zero true 0))).set g (.row cs true 0)))
  (hy:WI (t.set d (.pointer (some ⟨g,0,none⟩))) y v:=by exact zM) (hv:v.cells=cs.toArray:=by rfl) (hz:zero.length=n:=by rfl) (hn:cs.length=n:=by rfl) (h1:zK cs=true:=by rfl):
  WU P tab m N0 [(⟨some d,none,.alloc zero⟩,[]),(⟨none,none,.store n (.tmp d) y⟩,[])] g cl ⟨t,ds,rd⟩ (inC h) Q:=Xn hm hg hz hn h1 hv hy hx
theorem WU.upd{N0 g:Nat}{cl:Bool}{mx kx vx:Operand}{mv:Value}{a b:Int}{es:List (Int×Int)}{h0 hS:U2}{K:WB->WF->U2->Prop}(o:W7 h0 hS mv es)(e0:U8 h0 hS)(hm:hS.mark<=h0.n)(hl:es.lookup a=none)
  (k:∀ h1,U8 h0 h1->W7 h0 h1 mv (es++[(a,b)])->zNW mv hS h1->K .normal ⟨t,ds,rd⟩ h1) (hmx:WI t mx mv:=by exact zM) (hkx:WI t kx (I a):=by exact zM) (hvx:WI t vx (I b):=by exact zM):
  WU P tab hS.mark N0 [(⟨none,none,.update mx kx vx⟩,[])] g cl ⟨t,ds,rd⟩ (inC (zC 0 hS)) (Bq K hS):=by
 obtain⟨q,c,es',g1,g2,rfl,g4,g5⟩:=o;unfold WI at hmx hkx hvx;have hf:=zDD 0 g5 hl;have g4':(inC (inC (zC 0 hS))).get q=some (.map es' c):=g4;rw[WU,QC (show ¬Nat.beq (zE (Wn.update mx kx vx)) 3=true from Bool.noConfusion)];refine VR undef ((inC (inC (zC 0 hS))).set q (.map (es'++[{key:=I a,val:=I b,born:=c}]) (c+1))) rfl (by simp only[WE,hmx,hkx,hvx,g4',hf]) ?_;refine WO.nil ⟨⟨fun x hx=> ?_,QE _,.inl rfl⟩,?_⟩
 ·have hx2:x∈(inC (inC (zC 0 hS))).log q:=hx;rcases ZB hx2 with rfl|hx3
  ·omega
  ·cases hx3
 ·refine k (yu hS ((inC (inC (zC 0 hS))).set q (.map (es'++[{key:=I a,val:=I b,born:=c}]) (c+1)))) ?_ ?_ ?_
  ·refine⟨e0.n,fun j hj=> ?_,fun w j hj=> ?_,e0.mark,fun hmk=>e0.wr hmk⟩
   ·show(hS.tab.set q _).get j=_;rw[zQ,QC (by omega)];exact e0.get j hj
   ·have hj:hS.n<=j:=hj;show(hS.tab.set q _).get j=_;rw[zQ,QC (by omega)];exact e0.wf w j hj
  ·refine⟨q,c+1,es'++[{key:=I a,val:=I b,born:=c}],g1,g2,rfl,?_,by simp[g5]⟩;show(hS.tab.set q _).get q=_;rw[zQ,QI rfl]
  ·refine⟨QE _,fun j _ hj=> ?_⟩;show(hS.tab.set q _).get j=_;rw[zQ,QC (fun e=>hj (by rw[e]))];rfl
theorem zr{x:Operand}{v:Value}(hx:WI t x v:=by exact zM):ev t x=v:=hx
theorem zP7{m N0 n g j:Nat}{un:List Nat}{d:Option Nat}{agg:Bool}{x:Operand}{p:Value}{cs:List Value}{h0 hs:U2}{l:List (U4×List Nat)}{fr:WF}{Q:WF->U2->Prop}(o:U6 h0 hs p cs)(hN:hs.n<=N0)(hx:WU P tab m N0 l g true fr (inC h) Q)
  (hr:WI t x (yC p j):=by exact zM):uK2 P tab m N0 un t ⟨d,none,.load agg n x⟩ (inC h) l g true Q fr (inC h):=by
 refine zIF (fun k hk=> ?_) hx;obtain⟨q,q1,q2,rfl,q3⟩:=o;unfold WI yC at hr;simp only[zZ,zP,cond_true,hr,QA]at hk;omega
end
section
variable {P:Program}{tab:Wi}{t:U7 Value}{h:U2}{ds:List Deferred}{rd:Option Nat}{l:List U4}{Q:WF->U2->Prop}
def fl(n:Int):Value:= .float .f64 (FloatKind.nearest .f64 n)
end
open Go.RowKit
section
variable {H:Type}
theorem zGV{enc:TypeId×Value->H}{a:Assume}{C:Checked}{os:Os}{f:FuncId}{fn:Func}{s:ChangeSpec}{conds:List PathCond}{apart fresh handsOn again:Bool}{X:World->Array Value->Prop}
  (hX:∀ (w w':World) (args:Array Value),w.heap=w'.heap->X w args->X w' args)
  (own:ownKnob C.prog.godebug=none) (started:os.Started) (noInit:C.prog.inits.idxOf? f=none) (hfn:C.prog.funcs[f]?=some fn)
  (witness:∃ (w:World) (tape:Tape) (i:Input),w.os=os/\(w.forCall tape i).Shaped C.prog/\i.vars=[]/\Input.okWide C.prog (w.forCall tape i) .any w.heap.size f i/\
   ((s.pre enc C.prog fn conds apart (w.forCall tape i).memory i.args/\X (w.forCall tape i).memory i.args)/\sizedMet enc C.prog fn (OpenSpec.ofChange s) apart (w.forCall tape i).memory i.args)/\a.holds C.prog (lone (Frame.enter C.prog f i.args .normal) [] (w.forCall tape i)))
  (contract:∀ (W:World) (base:Nat) (args:Array Value) (ds gs:List (DataW H)) (before:List MemPlace),
   (∀ (j:Nat) t v,fn.params[j]?=some t->args[j]?=some v->Value.okWide C.prog W .any base t v)->
   DataW.Whole enc C.prog fn.params.toList s.vars apart W args.toList ds gs before->
   (DataW.weightsEach C.prog (fn.params.toList++(OpenSpec.ofChange s).bare.plain.varTypes C.prog) (ds++gs)).all (·<=reachBytes)=true->X W args->W.ShapedOpen C.prog->
   Calls C.prog f args W fun e W'=>∃ v,e=.returned v/\s.post enc C.prog fn apart fresh handsOn again W args v W'):
  ReturnsInHanded a C os f .any (fun w args=>(s.pre enc C.prog fn conds apart w args/\X w args)/\sizedMet enc C.prog fn (OpenSpec.ofChange s) apart w args) (s.post enc C.prog fn apart fresh handsOn again):=by
 refine returnsInHanded_of_calls own started noInit witness ?_;intro w tape i _ hsh _ hok hpre _;obtain⟨_,_,_,fn',hfn',_,_,_,_,hval⟩:=hok;have e:fn'=fn:=Q3 (hfn'.symm.trans hfn);subst e;obtain⟨⟨_,hx⟩,_,ds,gs,before,hw,hsz⟩:=hpre;have hw':=DataW.Whole.of_heap (w':=w.forCall tape i) (by rfl) hw;refine(contract (w.forCall tape i) w.heap.size i.args ds gs before hval hw' hsz (hX _ _ _ (by rfl) hx) hsh).mono fun e W' ⟨v,he,hp⟩=> ?_;subst he;exact ChangeSpec.post_blind hp
def BE(P:Program)(t:TypeId)(d:DataW H):Prop:=∀ n∈DataW.weights P t d,n<=reachBytes
variable {P:Program}{h:U2}
theorem zE2:∀ {ts:List TypeId} {ds:List (DataW H)},(∀ n∈DataW.weightsEach P ts ds,n<=reachBytes)->∀ (i:Nat) t d,ts[i]?=some t->ds[i]?=some d->BE P t d
 |[],_,_,i,t,d,ht,_=>by simp at ht
 |_::_,[],_,i,t,d,_,hd=>by simp at hd
 |t::ts,d::ds,hw,0,_,_,ht,hd=>by
  simp at ht hd;subst ht hd;exact fun n hn=>hw n (by unfold DataW.weightsEach;simp[hn])
 |t::ts,d::ds,hw,i+1,_,_,ht,hd=>
  zE2 (ts:=ts) (ds:=ds) (fun n hn=>hw n (by unfold DataW.weightsEach;simp[hn])) i _ _ (by simpa using ht) (by simpa using hd)
theorem zKy{e:TypeId}:∀ {ds:List (DataW H)},(∀ n∈DataW.weightsAll P e ds,n<=reachBytes)->∀ (i:Nat) d,ds[i]?=some d->BE P e d
 |[],_,i,d,hd=>by simp at hd
 |d::ds,hw,0,_,hd=>by
  simp at hd;subst hd;exact fun n hn=>hw n (by unfold DataW.weightsAll;simp[hn])
 |d::ds,hw,i+1,_,hd=>zKy (ds:=ds) (fun n hn=>hw n (by unfold DataW.weightsAll;simp[hn])) i _ (by simpa using hd)
theorem zFU{t e:TypeId}{elems spare:List (DataW H)}(ht:P.underlying t=some (.slice e))(hw:BE P t (.slice elems spare)):elems.length*P.bytesOf e<=reachBytes/\∀ (i:Nat) d,elems[i]?=some d->BE P e d:=by
 unfold BE at hw;unfold DataW.weights at hw;rw[ht]at hw;simp only at hw;refine⟨?_,zKy fun n hn=>hw n (by simp[hn])⟩;have:=hw _ (Qc ..);exact QO (Gc _ (G6 _ _)) this
theorem zI4{t:TypeId}{fs:Array Field}{parts:List (DataW H)}(ht:P.underlying t=some (.struct fs))(hw:BE P t (.agg parts))(i:Nat)(f:Field)(d:DataW H)(hf:fs[i]?=some f)(hd:parts[i]?=some d):BE P f.type d:=by
 unfold BE at hw;unfold DataW.weights at hw;rw[ht]at hw;exact zE2 hw i f.type d (by simp[hf]) hd
theorem zCX{α:Type}{c:Nat}{R:U2->List Value->α->Prop}{t e:TypeId}{acs:List Value}{d:DataW H}(r:Rd P h t acs d)(ht:P.underlying t=some (.slice e))(hc:P.cellsOf e=c)(hb:1<=P.bytesOf e)(hw:BE P t d)
  (hR:∀ cs (d:DataW H),Rd P h e cs d->BE P e d->∃ a,R h cs a):∃ av l,acs=[av]/\W4 c R h av l/\(l.length:Int)<=1152921504606846976:=by
 subst hc;rcases zEe r ht with⟨rfl,_⟩|⟨a,sp,rfl,_⟩|⟨g,cells,elems,sp,rfl,rfl,hg,hn,hl,hm,hr⟩
 ·exact⟨_,[],rfl,W4.nil,by simp⟩
 ·exact⟨_,[],rfl,⟨[],⟨by simp,.inl ⟨rfl,.inr ⟨_,_,rfl⟩⟩⟩,fun i a ha=>by simp at ha⟩,by simp⟩
 ·obtain⟨w1,w2⟩:=zFU ht hw;obtain⟨l,h1,h2⟩:=zQw (p:=fun i a=>R h ((cells.drop (i*P.cellsOf e)).take (P.cellsOf e)) a) elems.length fun i hi=>hR _ _ (hr i _ (QB hi)) (w2 i _ (QB hi));refine⟨_,l,rfl,⟨cells,⟨by rw[h1];exact hl,.inr ⟨g,0,cells,by rw[h1],by simp[yF,hg],?_,hn⟩⟩,h2⟩,?_⟩
  ·rw[h1,<-hl];simp[cut,QH (QE _)]
  ·have:elems.length<=elems.length*P.bytesOf e:=Nat.le_mul_of_pos_right _ hb;unfold reachBytes at w1;rw[h1];omega
theorem zEt{t e:TypeId}{acs:List Value}{d:DataW H}(r:Rd P h t acs d)(ht:P.underlying t=some (.slice e))(he:P.underlying e=some (.int .i64))(hc:P.cellsOf e=1)(hb:1<=P.bytesOf e)(hw:BE P t d):
  ∃ av l,acs=[av]/\WM h av l/\(l.length:Int)<=1152921504606846976/\∀ a∈l,(Lit.int .i64 a).wf=true:=by
 obtain⟨av,l,h1,h2,_,h4⟩:=zQI r ht he hc;refine⟨av,l,h1,h2,?_,h4⟩;rcases zEe r ht with⟨rfl,_⟩|⟨a,sp,rfl,_⟩|⟨g,cells,elems,sp,rfl,rfl,_⟩
 ·cases h1;have:=h2.len (P:=P) (ih:=Ex.bot) (t:= .leaf) (x:= .const (.slice none 0 0)) rfl;rcases h2 with⟨_,⟨h0,_⟩|⟨g,off,row,hv,_⟩⟩
  ·omega
  ·cases hv
 ·cases h1;rcases h2 with⟨_,⟨h0,_⟩|⟨g,off,row,hv,_⟩⟩
  ·omega
  ·injection hv with _ e2 _;omega
 ·cases h1;obtain⟨w1,_⟩:=zFU ht hw;have hle:elems.length<=elems.length*P.bytesOf e:=Nat.le_mul_of_pos_right _ hb;unfold reachBytes at w1;rcases h2 with⟨_,⟨h0,_⟩|⟨g,off,row,hv,_⟩⟩
  ·omega
  ·injection hv with _ e2 _;omega
theorem YX{t:TypeId}{fs:Array Field}{acs:List Value}{d:DataW H}(r:Rd P h t acs d)(ht:P.underlying t=some (.struct fs))(hw:BE P t d):
  acs.length=P.cellsOf t/\∀ (i:Nat) (f:Field),fs[i]?=some f->∃ d:DataW H,Rd P h f.type ((acs.drop f.offset).take (P.cellsOf f.type)) d/\BE P f.type d:=by
 cases r with
 |int n ht' wf=>rw[ht]at ht';cases ht'
 |bool _ ht'=>rw[ht]at ht';cases ht'
 |string _ ht'=>rw[ht]at ht';cases ht'
 |snil ht'=>rw[ht]at ht';cases ht'
 |szero a sp ht'=>rw[ht]at ht';cases ht'
 |slice g cells elems sp ht' hg hn hl hm hr=>rw[ht]at ht';cases ht'
 |array _ _ ht'=>rw[ht]at ht';cases ht'
 |struct cells parts ht' hl hp hr=>
  rw[ht]at ht';cases ht';refine⟨hl,fun i f hf=> ?_⟩;have hi:i<parts.length:=by rw[hp];exact(Gt.1 hf).1
  exact⟨_,hr i f _ hf (QB hi),zI4 ht hw i f _ hf (QB hi)⟩
end
section
variable {H:Type}{P:Program}{h:U2}
end
def Wl(h:U2)(g:Nat)(o:Wd):Prop:=g<h.n/\h.get g=some o
def zKr:Wd->Bool
 | .loop .. | .deferred .. =>true
 |_=>false
theorem Wl.ext{h h':U2}{g:Nat}{o:Wd}(k:Wl h g o)(e:U8 h h'):Wl h' g o:=⟨QG k.1 e.n,(e.get g k.1).trans k.2⟩
theorem Wl.updC{h0 h h':U2}{g:Nat}{o:Wd}{p:Value}{cs:List Value}(k:Wl h g o)(hr:zKr o=true)(w:U6 h0 h p cs)(u:Wc p h h'):Wl h' g o:=by
 refine⟨QG k.1 u.1,(u.2 g k.1 fun e=> ?_).trans k.2⟩;obtain⟨g2,_,_,rfl,hg⟩:=w;cases e;have:=k.2;rw[hg]at this;cases this;cases hr
theorem Wl.upd{h0 h h':U2}{g:Nat}{o:Wd}{v:Value}{xs:List Int}(k:Wl h g o)(hr:zKr o=true)(w:WJ h0 h v xs)(u:BN v h h'):Wl h' g o:=by
 refine⟨QG k.1 u.1,(u.2 g k.1 fun a n c hv e=> ?_).trans k.2⟩;rcases w with⟨rfl,_⟩|⟨g2,_,_,rfl,hg⟩
 ·cases hv
 ·cases hv;simp only at e;subst e;have:=k.2;rw[hg]at this;cases this;cases hr
theorem Wl.set{h:U2}{g l:Nat}{o p:Wd}(k:Wl h g o)(hne:g≠l):Wl (h.set l p) g o:=⟨k.1,by rw[zj,QC hne];exact k.2⟩
theorem Wl.self{h:U2}{g:Nat}{o p:Wd}(k:Wl h g o):Wl (h.set g p) g p:=⟨k.1,by rw[zj,QI rfl]⟩
theorem U6.setR{h0 h:U2}{p:Value}{cs:List Value}{l:Nat}{o o':Wd}(w:U6 h0 h p cs)(k:Wl h l o)(hr:zKr o=true):U6 h0 (h.set l o') p cs:=by
 obtain⟨g,a,b,c,d⟩:=w;refine⟨g,a,b,c,?_⟩;rw[zj,QC (fun e=> ?_)]
 ·exact d
 ·subst e;have:=k.2;rw[d]at this;cases this;cases hr
theorem WJ.setR{h0 h:U2}{v:Value}{xs:List Int}{l:Nat}{o o':Wd}(w:WJ h0 h v xs)(k:Wl h l o)(hr:zKr o=true):WJ h0 (h.set l o') v xs:=by
 rcases w with w|⟨g,a,b,c,d⟩
 ·exact .inl w
 ·refine .inr ⟨g,a,b,c,?_⟩;rw[zj,QC (fun e=> ?_)]
  ·exact d
  ·subst e;have:=k.2;rw[d]at this;cases this;cases hr
theorem zy{t:U7 Value}{d:Option Nat}{g:Option (Nat×Bool)}{f:Operand}{args:List Operand}:zZ t ⟨d,g,.call f args⟩=none:=by
 unfold zZ;cases zP t g<;>rfl
section
variable {P:Program}{tab:Wi}{m N0 g:Nat}{un:List Nat}{t:U7 Value}{h h':U2}{x:U4×List Nat}{l:List (U4×List Nat)}{fr:WF}{Q:WF->U2->Prop}
theorem nE{d:Option Nat}{gd:Option (Nat×Bool)}{f:Operand}{as:List Operand}(e:U8 (inC h) h')(hx:WU P tab m N0 (x::l) g true fr (inC h') Q):WO P tab [] fr h' (uK2 P tab m N0 un t ⟨d,gd,.call f as⟩ (inC h) (x::l) g true Q):=WO.nil (zS0 e zy hx)
theorem nQ{cl:Bool}{o:U4}(hx:WU P tab m N0 l g cl fr (inC h) Q):WO P tab [] fr (inC h) (uK2 P tab m N0 [] t o (inC h) l g cl Q):=WO.nil (zS7 hx)
end
section
variable {P:Program}{tab:Wi}
attribute [local semireducible] WX WV WC Ev
def zUF(l:Nat)(Q:Value->U2->Prop):WB->WF->U2->Prop
 | .normal,fr,h2=>fr.dfs=[]/\∃ r2,Wl h2 l (.loop r2)/\Q (.bool true) (h2.set l (.loop {r2 with state:= .ready,pending:=none}))
 |_,_,_=>False
def zSJ(P:Program)(tab:Wi)(l:Nat)(r:Wo)(h0:U2)(Q:Value->U2->Prop):WB->WF->U2->Prop
 | .normal,fr,h=>h=h0/\WX P tab r.body fr (h.set l (.loop {r with state:= .busy})) (zUF l Q)
 |_,_,_=>False
theorem WV.yield{l args h Q a b}{r:Wo}(hl:Wl h l (.loop r))(hr:r.state=.ready)(hn:Nat.beq args.length r.params.length=true)
  (hx:WX P tab r.assign ⟨zBp r.params args r.tm,[],some l⟩ h (zSJ P tab l r h Q)):WV P tab (.func (.yield l) a b) args h Q:=by
 obtain⟨e,fr,h1,k,ev⟩:=hx;cases e with
 |normal=>
  obtain⟨rfl,e2,fr2,h2,k2,ev2⟩:=k;cases e2 with
  |normal=>
   obtain⟨kd,r2,hl2,hq⟩:=k2;refine⟨_,_,hq,(ev.and ev2).mono fun n ⟨x1,x2⟩=> ?_⟩;have h1:=hl.2;have h2:=hl2.2;simp only[zAh,h1,hn,cond_true,zA1,x1,hr,x2,kd,h2,ZU]
  |exit i=>exact k2.elim
  |goto i=>exact k2.elim
  |ret=>exact k2.elim
 |exit i=>exact k.elim
 |goto i=>exact k.elim
 |ret=>exact k.elim
def zO6(t:U7 Value)(ps:List Nat)(a b:U3)(d:Nat):Wo:={state:= .ready,pending:=none,fn:=0,tm:=t,params:=ps,assign:=a,body:=b,defers:=d}
def zDg(h:U2)(t:U7 Value)(ps:List Nat)(a b:U3):U2:=(h.push (.deferred (some []))).push (.loop (zO6 t ps a b h.n))
theorem zLn(h:U2)(t ps a b):U8 h (zDg h t ps a b):=((U8.refl h).push _).push _
theorem zL9(h:U2)(t ps a b):Wl (zDg h t ps a b) h.n (.deferred (some [])):=by
 refine⟨by simp[zDg,U2.push];omega,?_⟩;unfold zDg;rw[zN,QC (by simp[U2.push]),zN,QI rfl]
theorem zJP(h:U2)(t ps a b):Wl (zDg h t ps a b) (h.n+1) (.loop (zO6 t ps a b h.n)):=by
 refine⟨by simp[zDg,U2.push],?_⟩;unfold zDg;rw[zN,QI (by simp[U2.push])]
theorem XJ{f ps a b t ds h K}(hx:WV P tab (ev t f) [.func (.yield (h.n+1)) #[] #[]] (zDg h t ps a b) fun _ h2=>∃ r,Wl h2 (h.n+1) (.loop r)/\r.state=.ready/\r.pending=none/\
   K .normal ⟨t,{target:= .collected h.n,args:=#[]}::ds,none⟩ (h2.set (h.n+1) (.loop {r with state:= .exhausted}))):WX P tab (.rangeFunc f ps a b) ⟨t,ds,none⟩ h K:=by
 obtain⟨v,h2,⟨r,hl,hs,hp,hk⟩,ev⟩:=hx;refine⟨_,_,_,hk,Ev.up (ev.mono fun n e=> ?_)⟩;rw[zq];simp only[ze,zAv,Y4];have hn:(h.push (.deferred (some []))).n=h.n+1:=rfl;have e':zAh (Wy P tab n) (Am.ev t f) [.func (.yield (h.push (.deferred (some []))).n) #[] #[]] ((h.push (.deferred (some []))).push (.loop {state:= .ready,pending:=none,fn:=0,tm:=t,params:=ps,assign:=a,body:=b,defers:=h.n}))=some (v,h2):=e;rw[e'];have hl2:=hl.2;simp only[hn,hl2,hs,hp,List.singleton_append]
theorem zIf{rs Q t rd h g}(hg:Wl h g (.deferred (some [])))(hx:zEm P tab rs Q .ret ⟨t,[],rd⟩ (h.set g (.deferred none))):zEm P tab rs Q .ret ⟨t,[{target:= .collected g,args:=#[]}],rd⟩ h:=by
 unfold zEm at *;exact WD.collected hg.2 hx
theorem Vc{h:U2}{t:U7 Value}{j n:Nat}{p v:Value}{h0:U2}{cs:List Value}{rs:List (Nat×Option (Bool×Nat))}{vs:List Value}(s:Wj t j p)(o:U6 h0 h p cs)(hr:(cut cs 0 n).bind (zH false)=some v)(k:W5 h t rs vs):W5 h t ((j,some (false,n))::rs) (v::vs):=by
 obtain⟨g,_,_,rfl,hg⟩:=o;unfold W5 at *;unfold Wj at s;simp only[yD,Yb,s,ZX hg,Qz,cond_true,QS,hr,k]
structure Ready(r:Wo)(t:U7 Value)(ps:List Nat)(a b:U3):Prop where
 st:r.state=.ready
 pd:r.pending=none
 tm:r.tm=t
 ps:r.params=ps
 as:r.assign=a
 bd:r.body=b
def busy(r:Wo):Wo:={r with state:= .busy}
def zTW(L:Nat)(r:Wo)(Q:Value->U2->Prop):WB->WF->U2->Prop
 | .normal,fr,h2=>fr.dfs=[]/\Wl h2 L (.loop (busy r))/\Q (.bool true) (h2.set L (.loop r))
 |_,_,_=>False
theorem zDa{L r Q t rd h}(hl:Wl h L (.loop (busy r)))(hq:Q (.bool true) (h.set L (.loop r))):zTW L r Q .normal ⟨t,[],rd⟩ h:=⟨rfl,hl,hq⟩
def zVU(P:Program)(tab:Wi)(L:Nat)(r:Wo)(b:U3)(h:U2)(Q:Value->U2->Prop):WB->WF->U2->Prop
 | .normal,fr,h'=>h'=h/\WX P tab b fr (h.set L (.loop (busy r))) (zTW L r Q)
 |_,_,_=>False
theorem zDY{L r b h Q fr}(hx:∀ h',h'=h.set L (.loop (busy r))->WX P tab b fr h' (zTW L r Q)):zVU P tab L r b h Q .normal fr h:=⟨rfl,hx _ rfl⟩
theorem Vz{L args h Q t ps a b x y}{r:Wo}(hl:Wl h L (.loop r))(hr:Ready r t ps a b)(hn:Nat.beq args.length ps.length=true)
  (hx:WX P tab a ⟨zBp ps args t,[],some L⟩ h (zVU P tab L r b h Q)):WV P tab (.func (.yield L) x y) args h Q:=by
 obtain⟨h1,h2,rfl,rfl,rfl,rfl⟩:=hr;refine WV.yield hl h1 hn ?_;refine WX.mono hx fun e fr h' k=> ?_;cases e with
 |normal=>
  refine⟨k.1,?_⟩;obtain⟨e1,k⟩:=k;subst e1;refine WX.mono k fun e fr h' k=> ?_;cases e with
  |normal=>
   obtain⟨k1,k2,k3⟩:=k;refine⟨k1,_,k2,?_⟩;have:({busy r with state:= .ready,pending:=none}:Wo)=r:=by
    cases r;simp only[busy]at *;simp_all
   rw[this];exact k3
  |exit i=>exact k.elim
  |goto i=>exact k.elim
  |ret=>exact k.elim
 |exit i=>exact k.elim
 |goto i=>exact k.elim
 |ret=>exact k.elim
theorem Vw{f ps a b t ds h K}{fv:Value}(hx:∀ (L g:Nat) (r:Wo) (hO:U2),Ready r t ps a b->U8 h hO->h.n<=L->h.n<=g->Wl hO L (.loop r)->Wl hO g (.deferred (some []))->
   WV P tab fv [.func (.yield L) #[] #[]] hO fun _ h2=>Wl h2 L (.loop r)/\∀ r3,K .normal ⟨t,{target:= .collected g,args:=#[]}::ds,none⟩ (h2.set L (.loop r3))) (hf:WI t f fv:=by exact zr):WX P tab (.rangeFunc f ps a b) ⟨t,ds,none⟩ h K:=by
 refine XJ ?_;have hf:Am.ev t f=fv:=hf;rw[hf];refine WV.mono (hx (h.n+1) h.n _ _ ⟨rfl,rfl,rfl,rfl,rfl,rfl⟩ (zLn h t ps a b) (GV _) (QE _) (zJP ..) (zL9 ..)) fun _ h2 ⟨k1,k2⟩=> ?_;exact⟨_,k1,rfl,rfl,k2 _⟩
end
structure Wa(p:Prop):Prop where
 out:p
def swp(xs:List Int)(i j:Int):List Int:=(xs.set i.toNat (xs.getD j.toNat 0)).set j.toNat (xs.getD i.toNat 0)
abbrev WH(xs:List Int)(i:Int):Int:=xs.getD i.toNat 0
theorem zI9(xs:List Int)(i j:Int):(swp xs i j).length=xs.length:=by simp[swp]
theorem zBg{xs:List Int}{i:Nat}{v:Int}{k:Nat}(hi:i<xs.length):(xs.set i v).getD k 0=if k=i then v else xs.getD k 0:=by
 simp only[QK,List.getElem?_set];by_cases h:i=k
 ·subst h;simp[hi]
 ·rw[QC h,QC (fun e=>h e.symm)]
theorem yY{xs:List Int}{i j k:Int}(hi:0<=i/\i<xs.length)(hj:0<=j/\j<xs.length)(hk:0<=k):WH (swp xs i j) k=if k=j then WH xs i else if k=i then WH xs j else WH xs k:=by
 unfold WH swp;rw[zBg (by simp;omega),zBg (by omega)];have e1:(k.toNat=j.toNat)↔k=j:=by omega
 have e2:(k.toNat=i.toNat)↔k=i:=by omega
 simp only[e1,e2]
theorem zC9(c v:Int):∀ (xs:List Int) (i:Nat),i<xs.length->(xs.set i v).count c+(if xs.getD i 0=c then 1 else 0)=xs.count c+(if v=c then 1 else 0)
 |[],i,h=>by simp at h
 |x::xs,0,_=>by
  simp only[List.set_cons_zero,List.count_cons,List.getD_cons_zero,G3];omega
 |x::xs,i+1,h=>by
  have:=zC9 c v xs i (by simpa using h);simp only[List.set_cons_succ,List.count_cons,List.getD_cons_succ,G3]at *;omega
theorem zPC{xs:List Int}{i j:Int}(hi:0<=i/\i<xs.length)(hj:0<=j/\j<xs.length):(swp xs i j).Perm xs:=by
 rw[List.perm_iff_count];intro c;have h1:=zC9 c (xs.getD j.toNat 0) xs i.toNat (by omega);have h2:=zC9 c (xs.getD i.toNat 0) (xs.set i.toNat (xs.getD j.toNat 0)) j.toNat (by simp;omega);rw[zBg (by omega)]at h2;unfold swp;by_cases e:j.toNat=i.toNat
 ·rw[QI e]at h2;rw[e]at h1 h2 |-;omega
 ·rw[QC e]at h2;omega
structure PI(a b:Int)(xs ys:List Int):Prop where
 len:ys.length=xs.length
 perm:ys.Perm xs
 out:∀ k:Int,0<=k->(k<a\/b<=k)->WH ys k=WH xs k
theorem PI.refl(a b:Int)(xs:List Int):PI a b xs xs:=⟨rfl,.refl _,fun _ _ _=>rfl⟩
theorem PI.trans{a b:Int}{xs ys zs:List Int}(h:PI a b xs ys)(k:PI a b ys zs):PI a b xs zs:=⟨k.len.trans h.len,k.perm.trans h.perm,fun i h0 hi=>(k.out i h0 hi).trans (h.out i h0 hi)⟩
theorem PI.mono{a b a' b':Int}{xs ys:List Int}(h:PI a b xs ys)(ha:a'<=a)(hb:b<=b'):PI a' b' xs ys:=⟨h.len,h.perm,fun k h0 hk=>h.out k h0 (by omega)⟩
theorem PI.swp{a b i j:Int}{xs:List Int}(h0:0<=a)(hb:b<=xs.length)(hi:a<=i/\i<b)(hj:a<=j/\j<b):PI a b xs (swp xs i j):=
 ⟨zI9 ..,zPC (by omega) (by omega),fun k hk ho=>by rw[yY (by omega) (by omega) hk,QC (by omega),QC (by omega)]⟩
theorem zEo(xs:List Int)(a b:Nat)(hab:a<=b):xs=xs.take a++((xs.drop a).take (b-a)++xs.drop b):=by
 have:xs.drop b=(xs.drop a).drop (b-a):=by rw[JE];congr 1;omega
 rw[this,GH,GH]
theorem zCv{xs ys:List Int}(hl:xs.length=ys.length)(h:∀ k:Nat,k<xs.length->xs.getD k 0=ys.getD k 0):xs=ys:=by
 apply List.ext_getElem hl;intro i h1 h2;have:=h i h1;simpa [List.getD,QB h1,QB h2]using this
theorem PI.all{a b:Int}{xs ys:List Int}(h:PI a b xs ys)(h0:0<=a)(hb:b<=xs.length){p:Int->Prop}(hp:∀ k,a<=k->k<b->p (WH xs k)):∀ k,a<=k->k<b->p (WH ys k):=by
 intro k hk1 hk2;obtain⟨A,rfl⟩:∃ A:Nat,a=A:=⟨a.toNat,by omega⟩;obtain⟨B,rfl⟩:∃ B:Nat,b=B:=⟨b.toNat,by omega⟩;have hl:=h.len;have e1:=zEo xs A B (by omega);have e2:=zEo ys A B (by omega);have t1:ys.take A=xs.take A:=zCv (by simp[hl]) fun k hk=>by
  have hk':k<A:=by simp at hk;omega
  have:=h.out (k:Int) (by omega) (by omega);simpa [WH,QK,GD,hk']using this
 have t2:ys.drop B=xs.drop B:=zCv (by simp[hl]) fun k hk=>by
  have:=h.out ((B+k:Nat):Int) (by omega) (by omega);simp only[WH,QU]at this;simpa [QK,GQ]using this
 have hp':=h.perm;rw[e1,e2,t1,t2]at hp';have hs:=(List.perm_append_right_iff _).1 ((List.perm_append_left_iff _).1 hp');have hmem:WH ys k∈(ys.drop A).take (B-A):=by
  rw[Gl];refine⟨k.toNat-A,?_⟩;rw[GD,QI (by omega),GQ,show A+(k.toNat-A)=k.toNat by omega];unfold WH;rw[QK,QB (by omega)];rfl
 obtain⟨m,hm⟩:=Gl.1 (hs.mem_iff.1 hmem);rw[GD]at hm;split at hm
 ·rename_i hlt;rw[GQ]at hm;have:=hp ((A+m:Nat):Int) (by omega) (by omega);unfold WH at this;rw[QU,QK,hm]at this;exact this
 ·cases hm
def BU(a b:Int)(xs:List Int):Prop:=∀ i j:Int,a<=i->i<=j->j<b->WH xs i<=WH xs j
theorem VX{a b:Int}{xs:List Int}(h:b<=a+1):BU a b xs:=fun i j h1 h2 h3=>by
 have:i=j:=by omega
 subst this;exact Qk _
theorem zJr{xs ys:List Int}(h:ys.Perm xs)(s:BU 0 ys.length ys):ys=xs.mergeSort (fun a b=>decide (a<=b)):=by
 have hp:ys.Pairwise (fun a b=>decide (a<=b)=true):=by
  rw[List.pairwise_iff_getElem];intro i j hi hj hij;have:=s (i:Int) (j:Int) (by omega) (by omega) (by omega);simp only[WH,QU,QK,QB hi,QB hj,GC]at this;simpa using this
 refine List.Perm.eq_of_pairwise (le:=fun a b=>decide (a<=b)=true) (fun a b _ _ h1 h2=> ?_) hp ?_ (h.trans (List.mergeSort_perm xs _).symm)
 ·simp only[QV]at h1 h2;omega
 ·exact List.pairwise_mergeSort (fun a b c h1 h2=>by simp only[QV]at *;omega) (fun a b=>by simp only[GB,QV];omega) xs
theorem zAp(h:U2):yu h (inC (zC 0 h))=h:=rfl
theorem zIp{a i j:Int}{zs:List Int}(h0:0<=a)(hj:a<j)(hji:j<=i)(hil:i<zs.length)(hlt:WH zs j<WH zs (j-1))(r:∀ p q,a<=p->p<=q->q<=i->q≠j->WH zs p<=WH zs q):∀ p q,a<=p->p<=q->q<=i->q≠j-1->WH (swp zs j (j-1)) p<=WH (swp zs j (j-1)) q:=by
 intro p q h1 h2 h3 h4;rw[yY (by omega) (by omega) (by omega),yY (by omega) (by omega) (by omega),QC h4];by_cases hq:q=j
 ·rw[QI hq];by_cases hp:p=j-1
  ·rw[QI hp];omega
  ·rw[QC hp];by_cases hp2:p=j
   ·rw[QI hp2];exact Qk _
   ·rw[QC hp2];exact r p (j-1) h1 (by omega) (by omega) (by omega)
 ·rw[QC hq];by_cases hp:p=j-1
  ·rw[QI hp];exact r j q (by omega) (by omega) h3 hq
  ·rw[QC hp];by_cases hp2:p=j
   ·rw[QI hp2];exact r (j-1) q (by omega) (by omega) h3 hq
   ·rw[QC hp2];exact r p q h1 h2 h3 hq
theorem BN.trans{v:Value}{h h1 h2:U2}(a:BN v h h1)(b:BN v h1 h2):BN v h h2:=⟨QO a.1 b.1,fun g hg hv=>(b.2 g (QG hg a.1) hv).trans (a.2 g hg hv)⟩
theorem BN.refl(v:Value)(h:U2):BN v h h:=⟨QE _,fun _ _ _=>rfl⟩
structure SS(hB h:U2)(v:Value)(a b:Int)(xs ys:List Int)(h1:U2):Prop where
 own:We hB h1 v ys
 ext:U8 hB h1
 upd:BN v h h1
 pi:PI a b xs ys
theorem VT{hB h:U2}{v:Value}{xs:List Int}(a b:Int)(o:We hB h v xs)(e:U8 hB h):SS hB h v a b xs xs h:=⟨o,e,BN.refl v h,PI.refl ..⟩
theorem SS.swp{hB h h1 h3:U2}{v:Value}{a b i j:Int}{xs ys:List Int}(s:SS hB h v a b xs ys h1)(e3:U8 hB h3)(o3:We hB h3 v (swp ys i j))(u3:BN v h1 h3)(h0:0<=a)(hb:b<=xs.length)(hi:a<=i/\i<b)(hj:a<=j/\j<b):SS hB h v a b xs (swp ys i j) h3:=
 ⟨o3,e3,s.upd.trans u3,s.pi.trans (PI.swp h0 (by rw[s.pi.len];exact hb) hi hj)⟩
theorem SS.call{hB h h1 h2:U2}{v:Value}{a b c d:Int}{xs ys zs:List Int}(s:SS hB h v a b xs ys h1)(k:SS hB h1 v c d ys zs h2)(ha:a<=c)(hb:d<=b):SS hB h v a b xs zs h2:=
 ⟨k.own,k.ext,s.upd.trans k.upd,s.pi.trans (k.pi.mono ha hb)⟩
theorem Wc.trans{p:Value}{h h1 h2:U2}(a:Wc p h h1)(b:Wc p h1 h2):Wc p h h2:=⟨QO a.1 b.1,fun g hg hv=>(b.2 g (QG hg a.1) hv).trans (a.2 g hg hv)⟩
theorem SS.extd{hB h h1 h2:U2}{v:Value}{a b:Int}{xs ys:List Int}(s:SS hB h v a b xs ys h1)(e:U8 h1 h2):SS hB h v a b xs ys h2:=
 ⟨s.own.ext e,s.ext.trans e,s.upd.trans ⟨e.n,fun g hg _=>e.get g hg⟩,s.pi⟩
theorem SS.updC{hB h h1 h2:U2}{v:Value}{a b:Int}{xs ys:List Int}{g:Nat}(s:SS hB h v a b xs ys h1)(o:We hB h v xs)(hg:h.n<=g)(e:U8 hB h2)(u:Wc (.pointer (some ⟨g,0,none⟩)) h1 h2):SS hB h v a b xs ys h2:=by
 obtain⟨q,q1,q2,qv,q3⟩:=s.own;obtain⟨q',_,q2',qv',_⟩:=o;rw[qv,s.pi.len]at qv';cases qv';refine⟨⟨q,q1,QG q2 u.1,qv,(u.2 q q2 fun e=>by cases e;omega).trans q3⟩,e,⟨QO s.upd.1 u.1,fun k hk hv=>(u.2 k (QG hk s.upd.1) fun e=>by cases e;omega).trans (s.upd.2 k hk hv)⟩,s.pi⟩
theorem U6.updV{hB hA h h1 h2:U2}{v:Value}{xs:List Int}{g:Nat}{cs:List Value}(w:U6 hA h1 (.pointer (some ⟨g,0,none⟩)) cs)(o:We hB h v xs)(hg:h.n<=g)(u:BN v h1 h2):U6 hA h2 (.pointer (some ⟨g,0,none⟩)) cs:=by
 obtain⟨q',_,q2',rfl,_⟩:=o;obtain⟨g',g1,g2,gv,g3⟩:=w;cases gv;exact⟨g,g1,QG g2 u.1,rfl,(u.2 g g2 fun a n c e=>by cases e;simp only;omega).trans g3⟩
theorem U6.offC{hA h h':U2}{p:Value}{cs:List Value}{g4:Nat}(o:U6 hA h p cs)(u:Wc (.pointer (some ⟨g4,0,none⟩)) h h')(hg:g4<hA.n):U6 hA h' p cs:=by
 obtain⟨g,g1,g2,rfl,g3⟩:=o;exact⟨g,g1,QG g2 u.1,rfl,(u.2 g g2 fun e=>by cases e;omega).trans g3⟩
theorem WJ.offC{hA h h':U2}{v:Value}{xs:List Int}{g4:Nat}(o:WJ hA h v xs)(u:Wc (.pointer (some ⟨g4,0,none⟩)) h h')(hg:g4<hA.n):WJ hA h' v xs:=by
 rcases o with o|⟨g,g1,g2,rfl,g3⟩
 ·exact .inl o
 ·exact .inr ⟨g,g1,QG g2 u.1,rfl,(u.2 g g2 fun e=>by cases e;omega).trans g3⟩
theorem Wc.setL{p:Value}{h h':U2}{L:Nat}{o:Wd}(u:Wc p h h')(hL:h.n<=L):Wc p h (h'.set L o):=⟨u.1,fun g hg hv=>by rw[zj,QC (by omega)];exact u.2 g hg hv⟩
theorem Wc.extd{p:Value}{h h' h2:U2}(u:Wc p h h')(e:U8 h' h2):Wc p h h2:=⟨QO u.1 e.n,fun g hg hv=>(e.get g (QG hg u.1)).trans (u.2 g hg hv)⟩
theorem Wc.upd{p w:Value}{h h' h2:U2}{xs:List Int}(u:Wc p h h')(o:WJ h h' w xs)(u2:BN w h' h2):Wc p h h2:=⟨QO u.1 u2.1,fun g hg hv=>by
 refine(u2.2 g (QG hg u.1) fun a n c e=> ?_).trans (u.2 g hg hv);rcases o with⟨rfl,_⟩|⟨q,q1,_,rfl,_⟩
 ·cases e
 ·cases e;simp only;omega⟩
theorem Wc.refl(p:Value)(h:U2):Wc p h h:=⟨QE _,fun _ _ _=>rfl⟩
theorem We.rebase{hA hB h:U2}{g n k:Nat}{xs:List Int}(o:We hA h (.slice (some ⟨g,0,none⟩) n k) xs)(hg:hB.n<=g):We hB h (.slice (some ⟨g,0,none⟩) n k) xs:=by
 obtain⟨q,q1,q2,qv,q3⟩:=o;cases qv;exact⟨g,hg,q2,rfl,q3⟩
theorem SS.len{hB h h1:U2}{v:Value}{a b:Int}{xs ys:List Int}(k:SS hB h v a b xs ys h1):ys.length=xs.length:=k.pi.len
section
variable {P:Program}{tab:Wi}{t:U7 Value}{ds:List Deferred}{rd:Option Nat}
theorem XV{N0 g d:Nat}{cl:Bool}{x y z w u:Operand}{v:Value}{xs:List Int}{i j:Nat}{h0 hS:U2}{K:WB->WF->U2->Prop}{va vb:Int}(o:We h0 hS v xs)(e0:U8 h0 hS)(hm:hS.mark<=h0.n)
  (hx:ev t x=yM v i) (hy:ev t y=I va) (hi:i<xs.length) (hj:j<xs.length) (hz:ev t z=v) (hw:W9 (ev t w)=some j) (hu:ev (t.set d (yM v j)) u=I vb)
  (k:∀ h1,U8 h0 h1->We h0 h1 v ((xs.set i va).set j vb)->BN v hS h1->K .normal ⟨t.set d (yM v j),ds,rd⟩ h1):
  WU P tab hS.mark N0 [(⟨none,none,.store 1 x y⟩,[]),(⟨some d,none,.idx 1 z w⟩,[]),(⟨none,none,.store 1 (.tmp d) u⟩,[])] g cl ⟨t,ds,rd⟩ (inC (zC 0 hS)) (Bq K hS):=by
 obtain⟨q,g1,g2,rfl,g3⟩:=o;rw[WU,QC (show ¬Nat.beq (zE (Wn.store 1 x y)) 3=true from Bool.noConfusion)];have hst1:zg (inC (inC (zC 0 hS))) ⟨q,i,none⟩ [I va]=some ((inC (inC (zC 0 hS))).set q (.row (zd (xs.map I) i [I va]) true 0)):=by
  have h1:Nat.ble (i+1) (xs.map I).length=true:=QH (by simp;omega);have h0:Nat.ble 0 i=true:=QH (QT _);have g3':(inC (inC (zC 0 hS))).get q=some (.row (xs.map I) true 0):=g3;simp only[zg,g3',Qa,h1,h0,Q1];rfl
 rw[zAm _ _ _ hi]at hst1;have hc:∀ a,(I a).cells=#[I a]:=fun _=>rfl;refine VR undef ((inC (inC (zC 0 hS))).set q (.row ((xs.set i va).map I) true 0)) rfl (by
  simp only[WE,hx,yM,hy,Q6,hc,hst1,QL];rfl) ?_
 refine WO.nil ⟨⟨fun k hk=> ?_,QE _,.inl rfl⟩,?_⟩
 ·have hk2:k∈(inC (inC (zC 0 hS))).log q:=hk;rcases ZB hk2 with rfl|hk3
  ·omega
  ·cases hk3
 generalize hh1:(inC (inC (zC 0 hS))).set q (.row ((xs.set i va).map I) true 0)=h1;have n1:h1.n=hS.n:=by rw[<-hh1];rfl
 have get1:∀ k,h1.get k=if k=q then some (.row ((xs.set i va).map I) true 0)else hS.get k:=fun k=>by
  rw[<-hh1,zj];rfl
 rw[WU,QC (show ¬Nat.beq (zE (Wn.idx 1 z w)) 3=true from Bool.noConfusion)];have hb:Nat.ble (j+1) xs.length=true:=QH hj;refine WO.op (yM (.slice (some ⟨q,0,none⟩) xs.length 1) j) (inC h1) rfl (by
  have hz':ev t z=.slice (some ⟨q,0,none⟩) xs.length 1:=hz;simp[WE,hz',hw,hb,yM]) ?_
 refine WO.nil ⟨⟨fun k hk=>(by cases hk),QE _,.inl rfl⟩,?_⟩;rw[WU,QC (show ¬Nat.beq (zE (Wn.store 1 (.tmp d) u)) 3=true from Bool.noConfusion)];have hst2:zg (inC (inC h1)) ⟨q,j,none⟩ [I vb]=some ((inC (inC h1)).set q (.row (zd ((xs.set i va).map I) j [I vb]) true 0)):=by
  have h1':Nat.ble (j+1) ((xs.set i va).map I).length=true:=QH (by simp;omega);have h0:Nat.ble 0 j=true:=QH (QT _);have g3':(inC (inC h1)).get q=some (.row ((xs.set i va).map I) true 0):=by
   have:=get1 q;rw[QI rfl]at this;exact this
  simp only[zg,g3',Qa,h1',h0,Q1];rfl
 rw[zAm _ _ _ (by simp;omega)]at hst2;refine VR undef ((inC (inC h1)).set q (.row (((xs.set i va).set j vb).map I) true 0)) rfl (by
  have e1:ev (t.set d (yM (.slice (some ⟨q,0,none⟩) xs.length 1) j)) (.tmp d)=yM (.slice (some ⟨q,0,none⟩) xs.length 1) j:=by simp only[ev,zh,Q2]
  have hp:yM (.slice (some ⟨q,0,none⟩) xs.length 1) j=.pointer (some ⟨q,j,none⟩):=by simp[yM]
  rw[hp]at e1 hu;rw[hp];simp only[WE,e1,hu,hc,hst2,QL];rfl) ?_
 refine WO.nil ⟨⟨fun k hk=> ?_,QE _,.inl rfl⟩,?_⟩
 ·have hk2:k∈(inC (inC h1)).log q:=hk;rcases ZB hk2 with rfl|hk3
  ·omega
  ·cases hk3
 have get2:∀ k,(yu hS ((inC (inC h1)).set q (.row (((xs.set i va).set j vb).map I) true 0))).get k=if k=q then some (.row (((xs.set i va).set j vb).map I) true 0)else hS.get k:=fun k=>by
  have e1:((inC (inC h1)).set q (.row (((xs.set i va).set j vb).map I) true 0)).get k=if k=q then some (.row (((xs.set i va).set j vb).map I) true 0)else(inC (inC h1)).get k:=zj ..;have e2:(inC (inC h1)).get k=h1.get k:=rfl;have e3:(yu hS ((inC (inC h1)).set q (.row (((xs.set i va).set j vb).map I) true 0))).get k=((inC (inC h1)).set q (.row (((xs.set i va).set j vb).map I) true 0)).get k:=rfl;rw[e3,e1,e2,get1];by_cases e:k=q<;>simp[e]
 have nn:(yu hS ((inC (inC h1)).set q (.row (((xs.set i va).set j vb).map I) true 0))).n=hS.n:=n1;refine k (yu hS ((inC (inC h1)).set q (.row (((xs.set i va).set j vb).map I) true 0))) ?_ ?_ ?_
 ·refine⟨by rw[nn];exact e0.n,fun c hc=>by rw[get2,QC (by omega)];exact e0.get c hc,fun w c hc=> ?_,e0.mark,fun hmk=>e0.wr hmk⟩;rw[nn]at hc;rw[get2,QC (by omega)];exact e0.wf w c hc
 ·exact⟨q,g1,by rw[nn];exact g2,by simp,by rw[get2,QI rfl]⟩
 ·exact⟨by rw[nn];exact QE _,fun c _ hc=>by rw[get2,QC (fun e=>hc _ _ _ rfl e.symm)]⟩
theorem Xx{y:Operand}{n:Int}(h:WI t y (I n))(hn:0<=n):W9 (ev t y)=some n.toNat:=by
 unfold WI at h;rw[h];obtain⟨k,rfl⟩:∃ k:Nat,n=k:=⟨n.toNat,by omega⟩;rfl
theorem VM{N0 g d:Nat}{cl:Bool}{x y z w u:Operand}{v:Value}{xs:List Int}{h0 hS:U2}{K:WB->WF->U2->Prop}(i j:Int)(o:We h0 hS v xs)(e0:U8 h0 hS)(hm:hS.mark<=h0.n)
  (k:∀ h1,U8 h0 h1->We h0 h1 v (swp xs i j)->BN v hS h1->K .normal ⟨t.set d (yM v j.toNat),ds,rd⟩ h1)
  (hi:0<=i/\i<xs.length:=by omega) (hj:0<=j/\j<xs.length:=by omega)
  (hx:WI t x (yM v i.toNat):=by exact zr) (hy:WI t y (I (WH xs j)):=by exact zr) (hz:WI t z v:=by exact zr) (hw:WI t w (I j):=by exact zr) (hu:WI (t.set d (yM v j.toNat)) u (I (WH xs i)):=by exact zr):
  WU P tab hS.mark N0 [(⟨none,none,.store 1 x y⟩,[]),(⟨some d,none,.idx 1 z w⟩,[]),(⟨none,none,.store 1 (.tmp d) u⟩,[])] g cl ⟨t,ds,rd⟩ (inC (zC 0 hS)) (Bq K hS):=
 XV o e0 hm hx hy (by omega) (by omega) hz (Xx hw hj.1) hu k
theorem VJ{c:U3}{h:U2}{K:WB->WF->U2->Prop}(ws:List Nat)(hw:yH c=ws)(M:U7 Value->U2->Prop)(h1:WX P tab c ⟨t,ds,rd⟩ h (zOe M ds rd K))(h2:∀ t' h',zCV ws t t'->M t' h'->K .normal ⟨t',ds,rd⟩ h'):WX P tab c ⟨t,ds,rd⟩ h K:=
 (WX.frame h1).mono fun e fr h ⟨hf,hx⟩=>by
  unfold zOe at hx;cases e with
  |normal=>
   obtain⟨t',ds',rd'⟩:=fr;obtain⟨e1,e2,e3⟩:=hx;simp only at e1 e2 e3;subst e1 e2;exact h2 _ _ (fun j hj=>hf j (by rw[hw];intro hc;have:=ZI hj;simp[hc]at this)) e3
  |exit i=>exact hx
  |goto i=>exact hx
  |ret=>exact hx
theorem WO.bin{d:Nat}{op:BinOp}{x y:Operand}{vx vy v:Value}{h:U2}{l:List U4}{Q:WF->U2->Prop}(hx:WI t x vx)(hy:WI t y vy)(e:yK op vx vy=some v)(k:WO P tab l ⟨t.set d v,ds,rd⟩ h Q):WO P tab (⟨some d,none,.bin op x y⟩::l) ⟨t,ds,rd⟩ h Q:=
 Xb (by
  have hx:ev t x=vx:=hx;have hy:ev t y=vy:=hy;simp only[WE,hx,hy,e,QL]) k
theorem UC{d:Nat}{x i:Operand}{s:ByteArray}{m:Int}{kk:IntKind}{n:Nat}{b:UInt8}{h:U2}{l:List U4}{Q:WF->U2->Prop}(hb:s[n]?=some b)(hn:W9 (.int kk m)=some n)(k:WO P tab l ⟨t.set d (.int .u8 b.toNat),ds,rd⟩ h Q)(hx:WI t x (.string s):=by exact WI.const)(hi:WI t i (.int kk m):=by exact zr):WO P tab (⟨some d,none,.elemStr x i⟩::l) ⟨t,ds,rd⟩ h Q:=
 Xb (by
  have hx:ev t x=.string s:=hx;have hi:ev t i=.int kk m:=hi;simp only[WE,hx,hi,hn,hb]) k
theorem WO.quo{d:Nat}{x:Operand}{a c:Int}{h:U2}{l:List U4}{Q:WF->U2->Prop}(hc:c≠0)(h1: -9223372036854775808<=a.tdiv c)(h2:a.tdiv c<=9223372036854775807)(k:WO P tab l ⟨t.set d (I (a.tdiv c)),ds,rd⟩ h Q)(hx:WI t x (I a):=by exact zr):WO P tab (⟨some d,none,.bin .quo x (.const (I c))⟩::l) ⟨t,ds,rd⟩ h Q:=
 WO.bin hx (vy:=I c) rfl (by simp only[yK,Q2,QC hc,zEj h1 h2]) k
theorem Yp{n:Int}(h1:0<=n)(h2:n<18446744073709551616):IntKind.wrap .u64 n=n:=by
 simp[IntKind.wrap,IntKind.signed,IntKind.bits];omega
theorem zTi{n:Int}(h1:0<=n)(h2:n<256):IntKind.wrap .u8 n=n:=by
 simp[IntKind.wrap,IntKind.signed,IntKind.bits];omega
theorem zU9{n:Int}{kk:IntKind}(h:0<=n):yK .shr (.int .u64 n) (.int kk 16)=some (.int .u64 (n / 65536)):=by
 have e:(min (16:Int).toNat IntKind.u64.bits)=16:=rfl;simp only[yK,e];rw[QC (by decide),Int.fdiv_eq_ediv_of_nonneg _ (by decide)];rfl
theorem zVv{n:Int}{kk:IntKind}(h:0<=n):yK .shr (.int .u64 n) (.int kk 8)=some (.int .u64 (n / 256)):=by
 have e:(min (8:Int).toNat IntKind.u64.bits)=8:=rfl;simp only[yK,e];rw[QC (by decide),Int.fdiv_eq_ediv_of_nonneg _ (by decide)];rfl
theorem zRB(y:Int){m:Int}(h:0<=m/\m<=9223372036854775807):∃ r:Int,yK .and (.int .u64 y) (.int .u64 m)=some (.int .u64 r)/\0<=r/\r<=m:=by
 have hb:(BitVec.ofInt 64 m).toNat=m.toNat:=by
  rw[BitVec.toNat_ofInt];omega
 have hle:(BitVec.ofInt 64 y&&& BitVec.ofInt 64 m).toNat<=m.toNat:=by
  rw[BitVec.toNat_and,hb];exact Nat.and_le_right
 refine⟨((BitVec.ofInt 64 y&&& BitVec.ofInt 64 m).toNat:Int),?_,by omega,by omega⟩;simp only[yK,Q2,IntKind.bits];rw[Yp (by omega) (by omega)];rfl
theorem V5{N0 g n:Nat}{cl:Bool}{x y:Operand}{p v:Value}{cells:List Value}{h0 hS:U2}{K:WB->WF->U2->Prop}(cs:List Value)(o:U6 h0 hS p cells)(e0:U8 h0 hS)(hm:hS.mark<=h0.n)
  (k:∀ h1,U8 h0 h1->U6 h0 h1 p cs->Wc p hS h1->K .normal ⟨t,ds,rd⟩ h1) (hx:WI t x p:=by exact zr) (hy:WI t y v:=by exact zr) (hv:v.cells=cs.toArray:=by rfl) (h1:zK cs=true:=by rfl) (hn:cs.length=n:=by rfl) (hl:cells.length=n:=by rfl):
  WU P tab hS.mark N0 [(⟨none,none,.store n x y⟩,[])] g cl ⟨t,ds,rd⟩ (inC (zC 0 hS)) (Bq K hS):=by
 obtain⟨q,g1,g2,rfl,g3⟩:=o;subst hn;have hx:ev t x=.pointer (some ⟨q,0,none⟩):=hx;have hy:ev t y=v:=hy;rw[WU,QC (show ¬Nat.beq (zE (Wn.store cs.length x y)) 3=true from Bool.noConfusion)];have hst:zg (inC (inC (zC 0 hS))) ⟨q,0,none⟩ cs=some ((inC (inC (zC 0 hS))).set q (.row cs true 0)):=by
  have h2:Nat.ble (0+cs.length) cells.length=true:=QH (by omega);have h3:Nat.ble 0 0=true:=rfl;have h4:zd cells 0 cs=cs:=by simp[zd,hl]
  have g3':(inC (inC (zC 0 hS))).get q=some (.row cells true 0):=g3;simp only[zg,g3',h2,h3,h1,h4,Qz,Q1,cond_true]
 refine VR undef ((inC (inC (zC 0 hS))).set q (.row cs true 0)) rfl (by
  simp only[WE,hx,hy,hv,Gx,Ge,hst,QL,cond_true]) ?_
 refine WO.nil ⟨⟨fun k hk=> ?_,QE _,.inl rfl⟩,?_⟩
 ·have hk2:k∈(inC (inC (zC 0 hS))).log q:=hk;rcases ZB hk2 with rfl|hk3
  ·omega
  ·cases hk3
 have get2:∀ k,(yu hS ((inC (inC (zC 0 hS))).set q (.row cs true 0))).get k=if k=q then some (.row cs true 0)else hS.get k:=fun k=>by
  have e1:((inC (inC (zC 0 hS))).set q (.row cs true 0)).get k=if k=q then some (.row cs true 0)else(inC (inC (zC 0 hS))).get k:=zj ..;exact e1
 refine k (yu hS ((inC (inC (zC 0 hS))).set q (.row cs true 0))) ?_ ?_ ?_
 ·refine⟨e0.n,fun c hc=>by rw[get2,QC (by omega)];exact e0.get c hc,fun w c hc=> ?_,e0.mark,fun hmk=>e0.wr hmk⟩;have hc:hS.n<=c:=hc;rw[get2,QC (by omega)];exact e0.wf w c hc
 ·exact⟨q,g1,g2,rfl,by rw[get2,QI rfl]⟩
 ·exact⟨QE _,fun c _ hc=>by rw[get2,QC (fun e=>hc (by rw[e]))]⟩
theorem zDu{C D:Prop}[Decidable C][Decidable D](h:C):decide (C/\D)=decide D:=by simp[h]
theorem zCa{C D:Prop}[Decidable C][Decidable D](h:C):decide (C/\¬D)= !decide D:=by simp[h]
end
end Go.Am
