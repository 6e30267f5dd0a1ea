/- A part of the machine and of its soundness; proves no statement. -/
import Derived.Test.YtmejfcakhpihlaaGreatDoorAmR
set_option linter.all false
namespace Go.Am
def oV(a b:WY):WY:= .seq a b
def oJ(c:Nat)(a b:WY):WY:= .cond (.tmp c) a b
def o5(n:Nat)(a:WY):WY:= .block n a
def o6(l:List (WF×List Nat)):WY:= .regionC l
instance:Coe WF (WF×List Nat):=⟨fun o=>(o,[])⟩
def Wt(t:WG Value)(k:Nat)(v:Value):Prop:=zC t k=v
def WM(t:WG Value)(x:Operand)(v:Value):Prop:=ev t x=v
def zFl(j:Nat):List Nat->Bool
 |[]=>true
 |k::l=>bif Nat.beq j k then false else zFl j l
def zCB(ws:List Nat)(t0 t:WG Value):Prop:=∀ j,zFl j ws=true->zC t j=zC t0 j
theorem Wt.here{t:WG Value}{k:Nat}{v:Value}:Wt (t.set k v) k v:=by unfold Wt;rw[zb,QF rfl]
theorem VY{t:WG Value}{k j:Nat}{v w:Value}(hn:Nat.beq j k=false)(s:Wt t j v):Wt (t.set k w) j v:=by
 unfold Wt at *;rw[zb,QC (fun e=>by subst e;simp at hn)];exact s
theorem Wt.same{ws t0 t j v}(hs:zCB ws t0 t)(hn:zFl j ws=true)(s:Wt t0 j v):Wt t j v:=(hs j hn).trans s
theorem WM.tmp{t k v}(s:Wt t k v):WM t (.tmp k) v:=s
theorem WM.const{t v}:WM t (.const v) v:=rfl
theorem WM.fn{t f}:WM t (.func f) (.func (.func f) #[] #[]):=rfl
theorem V9{t g}:WM t (.global g) (.pointer (some ⟨g,0,none⟩)):=rfl
def BX(t:WG Value)(xs:List Operand)(vs:List Value):Prop:=xs.map (ev t)=vs
theorem BX.nil{t}:BX t [] []:=rfl
theorem BX.cons{t x xs v vs}(h:WM t x v)(k:BX t xs vs):BX t (x::xs) (v::vs):=by unfold BX WM at *;simp[h,k]
def B8(n:Int)(i:Nat):Prop:=BO (I n)=some i
theorem UN{i:Nat}:B8 (i:Int) i:=rfl
theorem B8.lit{n:Int}{i:Nat}(h:n=(i:Int)):B8 n i:=by subst h;rfl
theorem B8.int{n:Int}(h:0<=n):B8 n n.toNat:=by
 obtain⟨i,rfl⟩:=Int.eq_ofNat_of_zero_le h;rfl
def BA(t:WG Value)(ps:List (Nat×Nat×Operand))(vs:List (Nat×Nat×Value)):Prop:=zu t ps=vs
theorem BA.nil{t}:BA t [] []:=rfl
theorem BA.cons{t a b x ps v vs}(h:WM t x v)(k:BA t ps vs):BA t ((a,b,x)::ps) ((a,b,v)::vs):=by unfold BA WM at *;unfold zu at *;simp[h,k]
theorem ZJ{j:Nat}:∀ {l:List Nat},zFl j l=true->l.contains j=false
 |[],_=>rfl
 |k::l,h=>by
  unfold zFl at h;cases hb:Nat.beq j k with
  |true=>rw[hb]at h;cases h
  |false=>
   rw[hb]at h;have:=ZJ (l:=l) h;simp only[List.contains_cons,this,Qz];have:j≠k:=fun e=>by subst e;simp at hb
   simpa using this
theorem Yq{t k v}(h:Wt t k v:=by(repeat (first|((with_reducible apply VY);rfl)|((with_reducible apply Wt.same);(with_reducible assumption);rfl)));first|with_reducible exact Wt.here|with_reducible assumption|(unfold Wt;with_reducible assumption)):Wt t k v:=h
theorem zQ{t x v}(h:WM t x v:=by first|with_reducible exact WM.const|((with_reducible apply WM.tmp);(repeat (first|((with_reducible apply VY);rfl)|((with_reducible apply Wt.same);(with_reducible assumption);rfl)));first|with_reducible exact Wt.here|with_reducible assumption|(unfold Wt;with_reducible assumption))|with_reducible exact WM.fn|with_reducible exact V9|fail):WM t x v:=h
theorem zKO{t xs vs}(h:BX t xs vs:=by(repeat (apply BX.cons;(exact zQ)));exact BX.nil):BX t xs vs:=h
theorem zRs{b:Bool}(h:b=false):(!b)=true:=by rw[h];rfl
theorem zRl{b:Bool}(h:b=true):(!b)=false:=by rw[h];rfl
theorem DB:(∀ a:Prop,∀ [Decidable a],(decide a=true)=a)/\(∀ a:Prop,∀ [Decidable a],(decide a=false)=¬a)/\(∀ b:Bool,((!b)=true)=(b=false))/\(∀ b:Bool,((!b)=false)=(b=true))/\
  (∀ a b:Bool,((a||b)=true)=(a=true\/b=true))/\(∀ a b:Bool,((a&&b)=true)=(a=true/\b=true))/\(∀ a b:Bool,((a||b)=false)=(a=false/\b=false))/\(∀ a b:Bool,((a&&b)=false)=(a=false\/b=false))/\
  (∀ a b:Int,(¬a<b)=(b<=a))/\(∀ a b:Int,(¬a<=b)=(b<a))/\((true=true)=True)/\((false=false)=True)/\((true=false)=False)/\((false=true)=False):=
 ⟨fun a _=>by simp,fun a _=>by simp,fun b=>by simp,fun b=>by simp,fun a b=>by simp,fun a b=>by simp,fun a b=>by simp,fun a b=>by cases a<;>cases b<;>simp,fun a b=>by simp,fun a b=>by simp,by simp,by simp,by simp,by simp⟩
theorem zFh{p:Prop}(h:p:=by first|with_reducible rfl|with_reducible exact Qh|with_reducible exact QW|with_reducible assumption|exact Qc (by first|with_reducible assumption|omega)|exact QY (by first|with_reducible assumption|omega)|exact zRs (by first|with_reducible assumption|exact QY (by first|with_reducible assumption|omega)|fail)|exact zRl (by first|with_reducible assumption|exact Qc (by first|with_reducible assumption|omega)|fail)|(simp only[DB, *];done)|fail):p:=h
theorem zHZ{p:Prop}(h:p:=by first|omega|with_reducible assumption|(simp only[Qi,Gh,QM,GF,G9]at *;omega)):p:=h
theorem zLr{n:Int}{i:Nat}(h:B8 n i:=by first|exact UN|exact B8.lit rfl|exact B8.int (by omega)|fail):B8 n i:=h
theorem zQF{h:WA}{v:Value}{xs:List Int}(s:WQ h v xs:=by first|with_reducible assumption|exact WQ.ext (by with_reducible assumption) (by with_reducible assumption)|exact Wq.sl (by with_reducible assumption)|exact WL.sl (by with_reducible assumption)|fail):WQ h v xs:=s
theorem zJA{o:Option Value}{r:Value}(h:o=some r:=by first|exact(rfl:_=some (Value.agg #[_,_]))|exact(rfl:_=some (Value.agg #[_,_,_]))|exact(rfl:_=some (Value.agg #[_,_,_,_]))|exact(rfl:_=some (Value.agg #[_,_,_,_,_]))|exact(rfl:_=some (Value.agg #[_,_,_,_,_,_]))|exact(rfl:_=some (Value.agg #[_,_,_,_,_,_,_]))|exact(rfl:_=some (Value.agg #[_,_,_,_,_,_,_,_]))|exact(rfl:_=some (Value.agg #[_,_,_,_,_,_,_,_,_,_]))|rfl):o=some r:=h
theorem zRh{o:Option (List Value)}{r:List Value}(h:o=some r:=by first|exact(rfl:_=some [_,_])|exact(rfl:_=some [_,_,_])|exact(rfl:_=some [_,_,_,_])|exact(rfl:_=some [_,_,_,_,_])|exact(rfl:_=some [_,_,_,_,_,_])|exact(rfl:_=some [_,_,_,_,_,_,_])|exact(rfl:_=some [_,_,_,_,_,_,_,_])|rfl):o=some r:=h
def zIq(v:Value):Prop:=∃ a k m,v=.slice (some a) k m
section
variable {P:Program}{tab:Wy}{ds:List Deferred}{rd:Option Nat}
variable {h:WA}{l:List WF}{t:WG Value}{Q:WR->WA->Prop}
theorem R.mov{d:Nat}{x:Operand}{v:Value}(hx:WM t x v)(k:WO P tab l ⟨t.set d v,ds,rd⟩ h Q):WO P tab (⟨some d,none,.mov x⟩::l) ⟨t,ds,rd⟩ h Q:=
 WO.op _ _ rfl (by unfold WM at *;simp only[WN,hx]) k
theorem R.add{d:Nat}{x y:Operand}{a b:Int}(hx:WM t x (I a))(hy:WM t y (I b))(h1: -9223372036854775808<=a+b)(h2:a+b<=9223372036854775807)(k:WO P tab l ⟨t.set d (I (a+b)),ds,rd⟩ h Q):WO P tab (⟨some d,none,.bin .add x y⟩::l) ⟨t,ds,rd⟩ h Q:=
 WO.op _ _ rfl (by unfold WM at *;simp only[WN,hx,hy,I,zOL,QJ];rw[zFS h1 h2]) k
theorem R.sub{d:Nat}{x y:Operand}{a b:Int}(hx:WM t x (I a))(hy:WM t y (I b))(h1: -9223372036854775808<=a-b)(h2:a-b<=9223372036854775807)(k:WO P tab l ⟨t.set d (I (a-b)),ds,rd⟩ h Q):WO P tab (⟨some d,none,.bin .sub x y⟩::l) ⟨t,ds,rd⟩ h Q:=
 WO.op _ _ rfl (by unfold WM at *;simp only[WN,hx,hy,I,zMd,QJ];rw[zFS h1 h2]) k
theorem R.mul{d:Nat}{x y:Operand}{a b:Int}(hx:WM t x (I a))(hy:WM t y (I b))(h1: -9223372036854775808<=a*b)(h2:a*b<=9223372036854775807)(k:WO P tab l ⟨t.set d (I (a*b)),ds,rd⟩ h Q):WO P tab (⟨some d,none,.bin .mul x y⟩::l) ⟨t,ds,rd⟩ h Q:=
 WO.op _ _ rfl (by unfold WM at *;simp only[WN,hx,hy,I,zOM,QJ];rw[zFS h1 h2]) k
theorem R.lss{d:Nat}{x y:Operand}{a b:Int}{kk:IntKind}(hx:WM t x (.int kk a))(hy:WM t y (.int kk b))(k:WO P tab l ⟨t.set d (.bool (decide (a<b))),ds,rd⟩ h Q):WO P tab (⟨some d,none,.bin .lss x y⟩::l) ⟨t,ds,rd⟩ h Q:=
 WO.op _ _ rfl (by unfold WM at *;simp only[WN,hx,hy,zMv,QJ]) k
theorem R.leq{d:Nat}{x y:Operand}{a b:Int}{kk:IntKind}(hx:WM t x (.int kk a))(hy:WM t y (.int kk b))(k:WO P tab l ⟨t.set d (.bool (decide (a<=b))),ds,rd⟩ h Q):WO P tab (⟨some d,none,.bin .leq x y⟩::l) ⟨t,ds,rd⟩ h Q:=
 WO.op _ _ rfl (by unfold WM at *;simp only[WN,hx,hy,zNC,QJ]) k
theorem R.gtr{d:Nat}{x y:Operand}{a b:Int}{kk:IntKind}(hx:WM t x (.int kk a))(hy:WM t y (.int kk b))(k:WO P tab l ⟨t.set d (.bool (decide (b<a))),ds,rd⟩ h Q):WO P tab (⟨some d,none,.bin .gtr x y⟩::l) ⟨t,ds,rd⟩ h Q:=
 WO.op _ _ rfl (by unfold WM at *;simp only[WN,hx,hy,zNb,QJ]) k
theorem R.geq{d:Nat}{x y:Operand}{a b:Int}{kk:IntKind}(hx:WM t x (.int kk a))(hy:WM t y (.int kk b))(k:WO P tab l ⟨t.set d (.bool (decide (b<=a))),ds,rd⟩ h Q):WO P tab (⟨some d,none,.bin .geq x y⟩::l) ⟨t,ds,rd⟩ h Q:=
 WO.op _ _ rfl (by unfold WM at *;simp only[WN,hx,hy,zNe,QJ]) k
theorem R.eql{d:Nat}{x y:Operand}{a b:Int}{kk:IntKind}(hx:WM t x (.int kk a))(hy:WM t y (.int kk b))(k:WO P tab l ⟨t.set d (.bool (decide (a=b))),ds,rd⟩ h Q):WO P tab (⟨some d,none,.bin .eql x y⟩::l) ⟨t,ds,rd⟩ h Q:=
 WO.op _ _ rfl (by unfold WM at *;simp only[WN,hx,hy,zOJ,QJ]) k
theorem R.neq{d:Nat}{x y:Operand}{a b:Int}{kk:IntKind}(hx:WM t x (.int kk a))(hy:WM t y (.int kk b))(k:WO P tab l ⟨t.set d (.bool (!decide (a=b))),ds,rd⟩ h Q):WO P tab (⟨some d,none,.bin .neq x y⟩::l) ⟨t,ds,rd⟩ h Q:=
 WO.op _ _ rfl (by unfold WM at *;simp only[WN,hx,hy,zNw,QJ]) k
theorem R.not{d:Nat}{x:Operand}{b:Bool}(hx:WM t x (.bool b))(k:WO P tab l ⟨t.set d (.bool (!b)),ds,rd⟩ h Q):WO P tab (⟨some d,none,.un .not x⟩::l) ⟨t,ds,rd⟩ h Q:=
 WO.op _ _ rfl (by unfold WM at *;simp only[WN,hx,unV,QJ]) k
theorem U7{d:Nat}{x y:Operand}{a b:Bool}(hx:WM t x (.bool a))(hy:WM t y (.bool b))(k:WO P tab l ⟨t.set d (.bool (a == b)),ds,rd⟩ h Q):WO P tab (⟨some d,none,.binB false x y⟩::l) ⟨t,ds,rd⟩ h Q:=
 WO.op _ _ rfl (by unfold WM at *;simp only[WN,hx,hy];rfl) k
theorem U6{d:Nat}{x y:Operand}{a b:Bool}(hx:WM t x (.bool a))(hy:WM t y (.bool b))(k:WO P tab l ⟨t.set d (.bool (a != b)),ds,rd⟩ h Q):WO P tab (⟨some d,none,.binB true x y⟩::l) ⟨t,ds,rd⟩ h Q:=
 WO.op _ _ rfl (by unfold WM at *;simp only[WN,hx,hy];rfl) k
theorem Xj{d:Nat}{x:Operand}{n:Int}{k2:IntKind}(hx:WM t x (.int k2 n))(h1: -9223372036854775808<=n)(h2:n<=9223372036854775807)(k:WO P tab l ⟨t.set d (I n),ds,rd⟩ h Q):WO P tab (⟨some d,none,.conv .i64 x⟩::l) ⟨t,ds,rd⟩ h Q:=
 WO.op _ _ rfl (by unfold WM at *;simp only[WN,hx,I];rw[zFS h1 h2]) k
theorem R.conv{d:Nat}{x:Operand}{n:Int}{kk k2:IntKind}(hx:WM t x (.int k2 n))(k:WO P tab l ⟨t.set d (.int kk (kk.wrap n)),ds,rd⟩ h Q):WO P tab (⟨some d,none,.conv kk x⟩::l) ⟨t,ds,rd⟩ h Q:=
 WO.op _ _ rfl (by unfold WM at *;simp only[WN,hx]) k
theorem UX{d:Nat}{c x y:Operand}{v:Value}{b:Bool}(hc:WM t c (.bool b))(hb:b=true)(hx:WM t x v)(k:WO P tab l ⟨t.set d v,ds,rd⟩ h Q):WO P tab (⟨some d,none,.pick c x y⟩::l) ⟨t,ds,rd⟩ h Q:=
 WO.op _ _ rfl (by unfold WM at *;subst hb;simp only[WN,hc,hx,Q6]) k
theorem UF{d:Nat}{c x y:Operand}{v:Value}{b:Bool}(hc:WM t c (.bool b))(hb:b=false)(hy:WM t y v)(k:WO P tab l ⟨t.set d v,ds,rd⟩ h Q):WO P tab (⟨some d,none,.pick c x y⟩::l) ⟨t,ds,rd⟩ h Q:=
 WO.op _ _ rfl (by unfold WM at *;subst hb;simp only[WN,hc,hy,Qa,Gb]) k
theorem Xu{d:Nat}{x:Operand}{v0 v1:Value}(hx:WM t x (.tuple #[v0,v1]))(k:WO P tab l ⟨t.set d v0,ds,rd⟩ h Q):WO P tab (⟨some d,none,.extract x 0⟩::l) ⟨t,ds,rd⟩ h Q:=
 WO.op _ _ rfl (by unfold WM at *;simp only[WN,hx];rfl) k
theorem Xy{d:Nat}{x:Operand}{v0 v1:Value}(hx:WM t x (.tuple #[v0,v1]))(k:WO P tab l ⟨t.set d v1,ds,rd⟩ h Q):WO P tab (⟨some d,none,.extract x 1⟩::l) ⟨t,ds,rd⟩ h Q:=
 WO.op _ _ rfl (by unfold WM at *;simp only[WN,hx];rfl) k
theorem Xk{d:Nat}{x:Operand}{v0 v1 v2:Value}(hx:WM t x (.tuple #[v0,v1,v2]))(k:WO P tab l ⟨t.set d v0,ds,rd⟩ h Q):WO P tab (⟨some d,none,.extract x 0⟩::l) ⟨t,ds,rd⟩ h Q:=
 WO.op _ _ rfl (by unfold WM at *;simp only[WN,hx];rfl) k
theorem XZ{d:Nat}{x:Operand}{v0 v1 v2:Value}(hx:WM t x (.tuple #[v0,v1,v2]))(k:WO P tab l ⟨t.set d v1,ds,rd⟩ h Q):WO P tab (⟨some d,none,.extract x 1⟩::l) ⟨t,ds,rd⟩ h Q:=
 WO.op _ _ rfl (by unfold WM at *;simp only[WN,hx];rfl) k
theorem Xn{d:Nat}{x:Operand}{v0 v1 v2:Value}(hx:WM t x (.tuple #[v0,v1,v2]))(k:WO P tab l ⟨t.set d v2,ds,rd⟩ h Q):WO P tab (⟨some d,none,.extract x 2⟩::l) ⟨t,ds,rd⟩ h Q:=
 WO.op _ _ rfl (by unfold WM at *;simp only[WN,hx];rfl) k
theorem Xr{d:Nat}{x:Operand}{v0 v1 v2 v3:Value}(hx:WM t x (.tuple #[v0,v1,v2,v3]))(k:WO P tab l ⟨t.set d v0,ds,rd⟩ h Q):WO P tab (⟨some d,none,.extract x 0⟩::l) ⟨t,ds,rd⟩ h Q:=
 WO.op _ _ rfl (by unfold WM at *;simp only[WN,hx];rfl) k
theorem UC{d:Nat}{x:Operand}{v0 v1 v2 v3:Value}(hx:WM t x (.tuple #[v0,v1,v2,v3]))(k:WO P tab l ⟨t.set d v1,ds,rd⟩ h Q):WO P tab (⟨some d,none,.extract x 1⟩::l) ⟨t,ds,rd⟩ h Q:=
 WO.op _ _ rfl (by unfold WM at *;simp only[WN,hx];rfl) k
theorem Xe{d:Nat}{x:Operand}{v0 v1 v2 v3:Value}(hx:WM t x (.tuple #[v0,v1,v2,v3]))(k:WO P tab l ⟨t.set d v2,ds,rd⟩ h Q):WO P tab (⟨some d,none,.extract x 2⟩::l) ⟨t,ds,rd⟩ h Q:=
 WO.op _ _ rfl (by unfold WM at *;simp only[WN,hx];rfl) k
theorem Xp{d:Nat}{x:Operand}{v0 v1 v2 v3:Value}(hx:WM t x (.tuple #[v0,v1,v2,v3]))(k:WO P tab l ⟨t.set d v3,ds,rd⟩ h Q):WO P tab (⟨some d,none,.extract x 3⟩::l) ⟨t,ds,rd⟩ h Q:=
 WO.op _ _ rfl (by unfold WM at *;simp only[WN,hx];rfl) k
theorem R.lenC{d:Nat}{n:Nat}(k:WO P tab l ⟨t.set d (I n),ds,rd⟩ h Q):WO P tab (⟨some d,none,.lenC n⟩::l) ⟨t,ds,rd⟩ h Q:=
 WO.op _ _ rfl (by simp only[WN]) k
theorem R.nil{d:Nat}{x:Operand}{kind:Nat}{neg b:Bool}{v:Value}(hx:WM t x v)(hn:zG1 kind v=some b)(k:WO P tab l ⟨t.set d (.bool (if neg then !b else b)),ds,rd⟩ h Q):WO P tab (⟨some d,none,.isNil kind neg x⟩::l) ⟨t,ds,rd⟩ h Q:=
 WO.op _ _ rfl (by unfold WM at *;simp only[WN,hx,hn,QJ]) k
theorem Un{d:Nat}{x:Operand}{v:Value}{xs:List Int}(hx:WM t x v)(s:WQ h v xs)(k:WO P tab l ⟨t.set d (I xs.length),ds,rd⟩ h Q):WO P tab (⟨some d,none,.len x⟩::l) ⟨t,ds,rd⟩ h Q:=
 WO.op _ _ rfl (by exact Xw hx s) k
theorem Ue{d:Nat}{x:Operand}{v:Value}{α:Type}{c:Nat}{R:WA->List Value->α->Prop}{xs:List α}(hx:WM t x v)(s:BE c R h v xs)(k:WO P tab l ⟨t.set d (I xs.length),ds,rd⟩ h Q):WO P tab (⟨some d,none,.len x⟩::l) ⟨t,ds,rd⟩ h Q:=
 WO.op _ _ rfl (by exact Xx hx s) k
theorem Us{d:Nat}{x y:Operand}{v:Value}{n:Int}{i:Nat}{xs:List Int}(hx:WM t x v)(hy:WM t y (I n))(hi:B8 n i)(s:WQ h v xs)(hl:i<xs.length)(k:WO P tab l ⟨t.set d (yB v i),ds,rd⟩ h Q):WO P tab (⟨some d,none,.idx 1 x y⟩::l) ⟨t,ds,rd⟩ h Q:=
 WO.op _ _ rfl (by unfold WM at hy;exact Xf hx (by rw[hy];exact hi) s hl) k
theorem Uq{d:Nat}{x y:Operand}{v:Value}{n:Int}{i:Nat}{α:Type}{c:Nat}{R:WA->List Value->α->Prop}{xs:List α}(hx:WM t x v)(hy:WM t y (I n))(hi:B8 n i)(s:BE c R h v xs)(hl:i<xs.length)(k:WO P tab l ⟨t.set d (yB v (i*c)),ds,rd⟩ h Q):WO P tab (⟨some d,none,.idx c x y⟩::l) ⟨t,ds,rd⟩ h Q:=
 WO.op _ _ rfl (by unfold WM at hy;exact Xc hx (by rw[hy];exact hi) s hl) k
theorem US{d:Nat}{x:Operand}{v:Value}{i:Nat}{xs:List Int}(hx:WM t x (yB v i))(s:WQ h v xs)(hl:i<xs.length)(k:WO P tab l ⟨t.set d (I (xs.getD i 0)),ds,rd⟩ h Q):WO P tab (⟨some d,none,.load false 1 x⟩::l) ⟨t,ds,rd⟩ h Q:=
 WO.op _ _ rfl (by exact XN hx s hl) k
theorem Ux{d:Nat}{x:Operand}{v r:Value}{j n off:Nat}{cs:List Value}(hx:WM t x (yB v (j+off)))(p:Wp h v j cs)(hn:0<n)(hr:(cut cs off n).bind (zO true)=some r)(k:WO P tab l ⟨t.set d r,ds,rd⟩ h Q):WO P tab (⟨some d,none,.load true n x⟩::l) ⟨t,ds,rd⟩ h Q:=
 WO.op _ _ rfl (by exact Wp.load hx p hn hr) k
theorem U0{d:Nat}{x:Operand}{v r:Value}{j n off:Nat}{cs:List Value}(hx:WM t x (yB v (j+off)))(p:Wp h v j cs)(hn:0<n)(hr:(cut cs off n).bind (zO false)=some r)(k:WO P tab l ⟨t.set d r,ds,rd⟩ h Q):WO P tab (⟨some d,none,.load false n x⟩::l) ⟨t,ds,rd⟩ h Q:=
 WO.op _ _ rfl (by exact Wp.load hx p hn hr) k
theorem UZ{d:Nat}{x:Operand}{v r:Value}{j n:Nat}{cs:List Value}(hx:WM t x (yB v j))(p:Wp h v j cs)(hn:0<n)(hr:(cut cs 0 n).bind (zO true)=some r)(k:WO P tab l ⟨t.set d r,ds,rd⟩ h Q):WO P tab (⟨some d,none,.load true n x⟩::l) ⟨t,ds,rd⟩ h Q:=
 WO.op _ _ rfl (by exact Vs hx p hn hr) k
theorem Ug{d:Nat}{x:Operand}{v r:Value}{j n:Nat}{cs:List Value}(hx:WM t x (yB v j))(p:Wp h v j cs)(hn:0<n)(hr:(cut cs 0 n).bind (zO false)=some r)(k:WO P tab l ⟨t.set d r,ds,rd⟩ h Q):WO P tab (⟨some d,none,.load false n x⟩::l) ⟨t,ds,rd⟩ h Q:=
 WO.op _ _ rfl (by exact Vs hx p hn hr) k
theorem R.fldP{d:Nat}{x:Operand}{v:Value}{j off:Nat}(hx:WM t x (yB v j))(hv:zIq v)(k:WO P tab l ⟨t.set d (yB v (j+off)),ds,rd⟩ h Q):WO P tab (⟨some d,none,.fld off x⟩::l) ⟨t,ds,rd⟩ h Q:=
 WO.op _ _ rfl (by exact Go.Am.fldP hx hv) k
theorem UI{d:Nat}{x:Operand}{p:Value}{off:Nat}{h0:WA}{cs:List Value}(hx:WM t x p)(o:WB h0 h p cs)(k:WO P tab l ⟨t.set d (yE p off),ds,rd⟩ h Q):WO P tab (⟨some d,none,.fld off x⟩::l) ⟨t,ds,rd⟩ h Q:=
 WO.op _ _ rfl (by exact XV hx o) k
theorem Uh{d:Nat}{x:Operand}{p:Value}{j off:Nat}{h0:WA}{cs:List Value}(hx:WM t x (yE p j))(o:WB h0 h p cs)(k:WO P tab l ⟨t.set d (yE p (j+off)),ds,rd⟩ h Q):WO P tab (⟨some d,none,.fld off x⟩::l) ⟨t,ds,rd⟩ h Q:=
 WO.op _ _ rfl (by exact WB.fld hx o) k
theorem Ui{d:Nat}{x y:Operand}{p:Value}{n:Int}{i len:Nat}{kk:IntKind}{h0:WA}{cs:List Value}(hx:WM t x (yE p 0))(o:WB h0 h p cs)(hy:WM t y (.int kk n))(hi:B8 n i)(hl:i<len)(k:WO P tab l ⟨t.set d (yE p i),ds,rd⟩ h Q):WO P tab (⟨some d,none,.idxArr len 1 x y⟩::l) ⟨t,ds,rd⟩ h Q:=
 WO.op _ _ rfl (by unfold WM at hx hy;have dt:BO (ev t y)=some i:=(by rw[hy];exact(by cases n<;>rfl:BO (.int kk n)=BO (I n)).trans hi);have:=WB.idxArr (P:=P) (ih:=Ex.bot) (c:=1) hx dt o hl;rwa [GH,G4]at this) k
theorem UL{d:Nat}{x y:Operand}{p:Value}{n:Int}{i len:Nat}{kk:IntKind}{h0:WA}{cs:List Value}(hx:WM t x p)(o:WB h0 h p cs)(hy:WM t y (.int kk n))(hi:B8 n i)(hl:i<len)(k:WO P tab l ⟨t.set d (yE p i),ds,rd⟩ h Q):WO P tab (⟨some d,none,.idxArr len 1 x y⟩::l) ⟨t,ds,rd⟩ h Q:=
 WO.op _ _ rfl (by unfold WM at hx hy;have dt:BO (ev t y)=some i:=(by rw[hy];exact(by cases n<;>rfl:BO (.int kk n)=BO (I n)).trans hi);have:=Vm (P:=P) (ih:=Ex.bot) (c:=1) hx dt o hl;rwa [G4]at this) k
theorem UG{d:Nat}{x y:Operand}{p:Value}{n:Int}{i j len:Nat}{kk:IntKind}{h0:WA}{cs:List Value}(hx:WM t x (yE p j))(o:WB h0 h p cs)(hy:WM t y (.int kk n))(hi:B8 n i)(hl:i<len)(k:WO P tab l ⟨t.set d (yE p (j+i)),ds,rd⟩ h Q):WO P tab (⟨some d,none,.idxArr len 1 x y⟩::l) ⟨t,ds,rd⟩ h Q:=
 WO.op _ _ rfl (by unfold WM at hx hy;have dt:BO (ev t y)=some i:=(by rw[hy];exact(by cases n<;>rfl:BO (.int kk n)=BO (I n)).trans hi);have:=WB.idxArr (P:=P) (ih:=Ex.bot) (c:=1) hx dt o hl;rwa [G4]at this) k
theorem UJ{d:Nat}{x:Operand}{p:Value}{q:Nat}{xs:List Int}{h0:WA}(hx:WM t x (yE p q))(o:WB h0 h p (xs.map I))(hl:q<xs.length)(k:WO P tab l ⟨t.set d (I (xs.getD q 0)),ds,rd⟩ h Q):WO P tab (⟨some d,none,.load false 1 x⟩::l) ⟨t,ds,rd⟩ h Q:=
 WO.op _ _ rfl (by refine WB.load hx o ?_;have h1:(xs.map I).drop q=I xs[q]::(xs.map I).drop (q+1):=(by rw[GU (by simpa using hl),List.getElem_map]);have hc:cut (xs.map I) q 1=some [I (xs.getD q 0)]:=(by rw[ZD (by simp;omega),h1];simp[List.getD,QB hl]);rw[hc];rfl) k
theorem XU{d:Nat}{x:Operand}{p r:Value}{n:Nat}{h0:WA}{cs:List Value}(hx:WM t x p)(o:WB h0 h p cs)(hr:(cut cs 0 n).bind (zO true)=some r)(k:WO P tab l ⟨t.set d r,ds,rd⟩ h Q):WO P tab (⟨some d,none,.load true n x⟩::l) ⟨t,ds,rd⟩ h Q:=
 WO.op _ _ rfl (by exact Vl hx o hr) k
theorem Xd{d:Nat}{x:Operand}{p r:Value}{n:Nat}{h0:WA}{cs:List Value}(hx:WM t x p)(o:WB h0 h p cs)(hr:(cut cs 0 n).bind (zO false)=some r)(k:WO P tab l ⟨t.set d r,ds,rd⟩ h Q):WO P tab (⟨some d,none,.load false n x⟩::l) ⟨t,ds,rd⟩ h Q:=
 WO.op _ _ rfl (by exact Vl hx o hr) k
theorem Xo{d:Nat}{x:Operand}{p r:Value}{n j:Nat}{h0:WA}{cs:List Value}(hx:WM t x (yE p j))(o:WB h0 h p cs)(hr:(cut cs j n).bind (zO true)=some r)(k:WO P tab l ⟨t.set d r,ds,rd⟩ h Q):WO P tab (⟨some d,none,.load true n x⟩::l) ⟨t,ds,rd⟩ h Q:=
 WO.op _ _ rfl (by exact WB.load hx o hr) k
theorem UY{d:Nat}{x:Operand}{p r:Value}{n j:Nat}{h0:WA}{cs:List Value}(hx:WM t x (yE p j))(o:WB h0 h p cs)(hr:(cut cs j n).bind (zO false)=some r)(k:WO P tab l ⟨t.set d r,ds,rd⟩ h Q):WO P tab (⟨some d,none,.load false n x⟩::l) ⟨t,ds,rd⟩ h Q:=
 WO.op _ _ rfl (by exact WB.load hx o hr) k
theorem UU{d:Nat}{x:Operand}{off n:Nat}{r:Value}{cs:Array Value}(hx:WM t x (.agg cs))(hr:(cut cs.toList off n).bind (zO true)=some r)(k:WO P tab l ⟨t.set d r,ds,rd⟩ h Q):WO P tab (⟨some d,none,.part true off n x⟩::l) ⟨t,ds,rd⟩ h Q:=
 WO.op _ _ rfl (by unfold WM at *;simp only[WN,hx,hr,QJ]) k
theorem R.part{d:Nat}{x:Operand}{off n:Nat}{r:Value}{cs:Array Value}(hx:WM t x (.agg cs))(hr:(cut cs.toList off n).bind (zO false)=some r)(k:WO P tab l ⟨t.set d r,ds,rd⟩ h Q):WO P tab (⟨some d,none,.part false off n x⟩::l) ⟨t,ds,rd⟩ h Q:=
 WO.op _ _ rfl (by unfold WM at *;simp only[WN,hx,hr,QJ]) k
theorem Ur{d:Nat}{len c g:Nat}{y:Operand}{n:Int}{i:Nat}{kk:IntKind}(hy:WM t y (.int kk n))(hi:B8 n i)(hl:i<len)(k:WO P tab l ⟨t.set d (.pointer (some ⟨g,0+i*c,none⟩)),ds,rd⟩ h Q):WO P tab (⟨some d,none,.idxArr len c (.global g) y⟩::l) ⟨t,ds,rd⟩ h Q:=
 WO.op _ _ rfl (by unfold WM at hy;have hb:Nat.ble (i+1) len=true:=QH hl;have dt:BO (ev t y)=some i:=(by rw[hy];exact(by cases n<;>rfl:BO (.int kk n)=BO (I n)).trans hi);simp only[WN,dt];simp only[ev,hb,Qp,Qv,cond_true]) k
theorem UM{d:Nat}{x:Operand}{g off n:Nat}{r:Value}{cells:List Value}(hx:WM t x (.pointer (some ⟨g,off,none⟩)))(hg:yj h g=some cells)(hr:(cut cells off n).bind (zO true)=some r)(k:WO P tab l ⟨t.set d r,ds,rd⟩ h Q):WO P tab (⟨some d,none,.load true n x⟩::l) ⟨t,ds,rd⟩ h Q:=
 WO.op _ _ rfl (by unfold WM at *;simp only[WN,hx,hg,Qp,cond_true,Qb,hr,QJ]) k
theorem R.agg{d:Nat}{zero:List Value}{parts:List (Nat×Nat×Operand)}{vs:List (Nat×Nat×Value)}{cells:List Value}(hp:BA t parts vs)(hf:Zy zero vs=some cells)(k:WO P tab l ⟨t.set d (.agg cells.toArray),ds,rd⟩ h Q):WO P tab (⟨some d,none,.build zero parts⟩::l) ⟨t,ds,rd⟩ h Q:=
 WO.op _ _ rfl (by unfold BA at hp;simp only[WN,hp,hf,QJ]) k
theorem Uw{d:Nat}{x:Operand}{p:Value}{h0:WA}{cs:List Value}(hx:WM t x p)(o:WB h0 h p cs)(k:WO P tab l ⟨t.set d p,ds,rd⟩ h Q):WO P tab (⟨some d,none,.nilCheck x⟩::l) ⟨t,ds,rd⟩ h Q:=
 WO.op _ _ rfl (by unfold WM at *;obtain⟨g,_,_,rfl,_⟩:=o;simp only[WN,hx,zAg,QJ]) k
theorem Um{d:Nat}{x:Operand}{v:Value}{j:Nat}(hx:WM t x (yB v j))(hv:zIq v)(k:WO P tab l ⟨t.set d (yB v j),ds,rd⟩ h Q):WO P tab (⟨some d,none,.nilCheck x⟩::l) ⟨t,ds,rd⟩ h Q:=
 WO.op _ _ rfl (by unfold WM at *;obtain⟨a,_,_,rfl⟩:=hv;simp only[WN,hx,yB,zAg,QJ]) k
theorem Uy{d:Nat}{x:Operand}{a:Addr}(hx:WM t x (.pointer (some a)))(k:WO P tab l ⟨t.set d (.pointer (some a)),ds,rd⟩ h Q):WO P tab (⟨some d,none,.nilCheck x⟩::l) ⟨t,ds,rd⟩ h Q:=
 WO.op _ _ rfl (by unfold WM at *;simp only[WN,hx,zAg,QJ]) k
theorem Uf{d:Nat}{x:Operand}{m:Value}{es:List (Int×Int)}{h0:WA}(hx:WM t x m)(o:BK h0 h m es)(k:WO P tab l ⟨t.set d (I es.length),ds,rd⟩ h Q):WO P tab (⟨some d,none,.lenMap x⟩::l) ⟨t,ds,rd⟩ h Q:=
 WO.op _ _ rfl (by unfold WM at *;obtain⟨g,c,aM,_,_,rfl,hg,he⟩:=o;have hl:aM.length=es.length:=(by have:=congrArg List.length he;simpa using this);simp only[WN,hx,hg,hl]) k
theorem U2{d:Nat}{mm ky:Operand}{z m:Value}{a:Int}{es:List (Int×Int)}{h0:WA}(hx:WM t mm m)(hk:WM t ky (I a))(o:BK h0 h m es)(hl:es.lookup a=none)(k:WO P tab l ⟨t.set d (.tuple #[z,.bool false]),ds,rd⟩ h Q):WO P tab (⟨some d,none,.lookup true z mm ky⟩::l) ⟨t,ds,rd⟩ h Q:=
 WO.op _ _ rfl (by unfold WM at *;obtain⟨g,c,aM,_,_,rfl,hg,he⟩:=o;simp only[WN,hx,hk,hg,zDY 0 he hl,Q6]) k
theorem U4{d:Nat}{mm ky:Operand}{z m:Value}{a v:Int}{es:List (Int×Int)}{h0:WA}(hx:WM t mm m)(hk:WM t ky (I a))(o:BK h0 h m es)(hl:es.lookup a=some v)(k:WO P tab l ⟨t.set d (.tuple #[I v,.bool true]),ds,rd⟩ h Q):WO P tab (⟨some d,none,.lookup true z mm ky⟩::l) ⟨t,ds,rd⟩ h Q:=
 WO.op _ _ rfl (by unfold WM at *;obtain⟨g,c,aM,_,_,rfl,hg,he⟩:=o;obtain⟨j,hj⟩:=zFy 0 he hl;simp only[WN,hx,hk,hg,hj,Q6]) k
theorem U3{d:Nat}{f:FuncId}{xs ys:List Operand}{vs us:List Value}(hx:BX t xs vs)(hy:BX t ys us)(k:WO P tab l ⟨t.set d (.func (.func f) vs.toArray us.toArray),ds,rd⟩ h Q):WO P tab (⟨some d,none,.mkFunc (.func f) xs ys⟩::l) ⟨t,ds,rd⟩ h Q:=
 WO.op _ _ rfl (by unfold BX at *;simp only[WN,hx,hy]) k
theorem U8{d:Option Nat}{j:Nat}{want b:Bool}{op:Wx}(s:Wt t j (.bool b))(hb:b=want)(k:WO P tab (⟨d,none,op⟩::l) ⟨t,ds,rd⟩ h Q):WO P tab (⟨d,some (j,want),op⟩::l) ⟨t,ds,rd⟩ h Q:=
 XR (hb▸s) k
theorem U1{d j:Nat}{b:Bool}{op:Wx}(s:Wt t j (.bool b))(hb:b=false)(k:WO P tab l ⟨t.set d undef,ds,rd⟩ h Q):WO P tab (⟨some d,some (j,true),op⟩::l) ⟨t,ds,rd⟩ h Q:=by
 subst hb;exact Vy s k
theorem U5{d j:Nat}{b:Bool}{op:Wx}(s:Wt t j (.bool b))(hb:b=true)(k:WO P tab l ⟨t.set d undef,ds,rd⟩ h Q):WO P tab (⟨some d,some (j,false),op⟩::l) ⟨t,ds,rd⟩ h Q:=by
 subst hb;exact Vy s k
theorem U9{d j:Nat}{want:Bool}{op:Wx}(s:Wt t j undef)(k:WO P tab l ⟨t.set d undef,ds,rd⟩ h Q):WO P tab (⟨some d,some (j,want),op⟩::l) ⟨t,ds,rd⟩ h Q:=
 XQ s k
theorem VJ{d:Option Nat}{j:Nat}{want b:Bool}{op:Wx}(h1:b=true->WO P tab (⟨d,some (j,want),op⟩::l) ⟨t,ds,rd⟩ h Q)(h2:b=false->WO P tab (⟨d,some (j,want),op⟩::l) ⟨t,ds,rd⟩ h Q)(s:Wt t j (.bool b):=by exact Yq):
  WO P tab (⟨d,some (j,want),op⟩::l) ⟨t,ds,rd⟩ h Q:=by
 cases b with
 |true=>exact h1 rfl
 |false=>exact h2 rfl
theorem VA{d:Nat}{f:FuncId}{args:List Operand}{as:List Value}{R:Value->WA->Prop}(hc:WC P tab f as h R)(k:∀ v h',R v h'->WO P tab l ⟨t.set d v,ds,rd⟩ h' Q)(ha:BX t args as:=by exact zKO):
  WO P tab (⟨some d,none,.call (.func f) args⟩::l) ⟨t,ds,rd⟩ h Q:=WO.call ha (hc.mono k)
theorem VQ{d:Nat}{f:Operand}{fv:Value}{args:List Operand}{as:List Value}{R:Value->WA->Prop}(hc:WV P tab fv as h R)(k:∀ v h',R v h'->WO P tab l ⟨t.set d v,ds,rd⟩ h' Q)(hf:WM t f fv:=by exact zQ)(ha:BX t args as:=by exact zKO):
  WO P tab (⟨some d,none,.call f args⟩::l) ⟨t,ds,rd⟩ h Q:=Xm hf ha (hc.mono k)
theorem WO.al{d:Nat}{zero:List Value}(k:∀ p h',Ext h h'->WB h h' p zero->WO P tab l ⟨t.set d p,ds,rd⟩ h' Q):WO P tab (⟨some d,none,.alloc zero⟩::l) ⟨t,ds,rd⟩ h Q:=XW k
theorem VH{x y:Operand}{p v:Value}{cells cs:List Value}{n:Nat}{h0:WA}(o:WB h0 h p cells)(e0:Ext h0 h)(k:∀ h',Ext h0 h'->WB h0 h' p cs->Wm p h h'->WO P tab l ⟨t,ds,rd⟩ h' Q)
  (hx:WM t x p:=by exact zQ) (hy:WM t y v:=by exact zQ) (hv:v.cells=cs.toArray:=by rfl) (hn:cs.length=n:=by rfl) (hl:cells.length=n:=by rfl) (h1:zL cs=true:=by rfl):WO P tab (⟨none,none,.store n x y⟩::l) ⟨t,ds,rd⟩ h Q:=
 XC hx hy hv h1 hn o e0 hl k
theorem VX{x y:Operand}{p v:Value}{cells cs:List Value}{n j:Nat}{h0:WA}(o:WB h0 h p cells)(e0:Ext h0 h)(k:∀ h',Ext h0 h'->WB h0 h' p (zh cells j cs)->Wm p h h'->WO P tab l ⟨t,ds,rd⟩ h' Q)
  (hx:WM t x (yE p j):=by exact zQ) (hy:WM t y v:=by exact zQ) (hv:v.cells=cs.toArray:=by rfl) (hn:cs.length=n:=by rfl) (hl:j+n<=cells.length:=by decide) (h1:zL cs=true:=by rfl):WO P tab (⟨none,none,.store n x y⟩::l) ⟨t,ds,rd⟩ h Q:=
 Vo hx hy hv h1 hn o e0 hl k
theorem WO.bl{d n:Nat}{zero:List Value}{parts:List (Nat×Nat×Operand)}{vs:List (Nat×Nat×Value)}(xs:List Int)(k:∀ v h',Ext h h'->Wq h h' v xs->WO P tab l ⟨t.set d v,ds,rd⟩ h' Q)
  (hp:BA t parts vs:=by(repeat (apply BA.cons;(exact zQ)));exact BA.nil) (hn:xs.length=n:=by rfl) (hf:Zy (zo zero n) vs=some (xs.map I):=by rfl):WO P tab (⟨some d,none,.buildSlice n 1 zero parts⟩::l) ⟨t,ds,rd⟩ h Q:=
 XT xs hn (by unfold BA at hp;rw[hp];exact hf) k
theorem VN{d:Nat}{x y:Operand}{v w:Value}{xs ys:List Int}{h0:WA}(o:WL h0 h v xs)(s:WQ h w ys)(e0:Ext h0 h)(hr:xs.length+ys.length<=4294967296)(k:∀ v' h',Ext h0 h'->WL h0 h' v' (xs++ys)->WO P tab l ⟨t.set d v',ds,rd⟩ h' Q)
  (hx:WM t x v:=by exact zQ) (hy:WM t y w:=by exact zQ):WO P tab (⟨some d,none,.append 1 x y⟩::l) ⟨t,ds,rd⟩ h Q:=by
 by_cases aq:ys=[]
 ·subst aq;have aT:yg 1 h w=some []:=by simpa using YF s
  have hv:∃ a n k,v=.slice a n k/\(a=none->n=0/\k=0):=by
   rcases o with⟨rfl,_⟩|⟨g,_,_,rfl,_⟩
   ·exact⟨_,_,_,rfl,fun _=>⟨rfl,rfl⟩⟩
   ·exact⟨_,_,_,rfl,fun h=>by cases h⟩
  refine WO.op v h rfl ?_ (k v h e0 (by simpa using o));unfold WM at hx hy;obtain⟨a,n,kk,rfl,ha⟩:=hv;cases a with
  |none=>obtain⟨rfl,rfl⟩:=ha rfl;simp only[WN,hx,hy,yb,aT]
  |some a=>simp only[WN,hx,hy,yb,aT]
 ·exact XE hx hy o s e0 aq hr fun v' h' a b _=>k v' h' a (.inr b)
theorem Vt{d:Nat}{op:BinOp}{ty:TypeId}{x y:Operand}{a b v:Value}(hp:zc P (do eqGuard op ty x y a b;binOp op ty a b)=some v)(k:WO P tab l ⟨t.set d v,ds,rd⟩ h Q)
  (hx:WM t x a:=by exact zQ) (hy:WM t y b:=by exact zQ) (hc:(Yy a&&Yy b)=true:=by rfl) (hv:yx v=true:=by rfl):WO P tab (⟨some d,none,.binP op ty x y⟩::l) ⟨t,ds,rd⟩ h Q:=by
 unfold WM at hx hy;refine WO.op v h rfl ?_ k;simp only[WN,hx,hy,hc,cond_true,hp,hv]
def zRr(M:WG Value->WA->Prop)(ds:List Deferred)(rd:Option Nat):WR->WA->Prop:=fun fr h=>fr.dfs=ds/\fr.round=rd/\M fr.tm h
theorem zCD{ih:Ex}:∀ (a b:List WF) (fr:WR) (h:WA),ZA P ih (a++b) fr h=(ZA P ih a fr h).bind fun p=>ZA P ih b p.1 p.2
 |[],b,fr,h=>rfl
 |o::a,b,fr,h=>by
  simp only[JC,ZA];cases yU P ih o fr h with
  |none=>rfl
  |some p=>obtain⟨bB,h1⟩:=p;exact zCD a b bB h1
theorem VT(n:Nat)(M:WG Value->WA->Prop){ws:List Nat}(h1:WO P tab (l.take n) ⟨t,ds,rd⟩ h (zRr M ds rd))(h2:∀ t' h',zCB ws t t'->M t' h'->WO P tab (l.drop n) ⟨t',ds,rd⟩ h' Q)(hw:(l.take n).filterMap (·.dst)=ws:=by rfl):WO P tab l ⟨t,ds,rd⟩ h Q:=by
 subst hw;unfold WO at h1;obtain⟨bB,h',⟨q1,q2,q3⟩,fu⟩:=h1;obtain⟨t1,ds1,eU⟩:=bB;simp only at q1 q2 q3;subst q1 q2;have hs:zCB ((l.take n).filterMap (·.dst)) t t1:=by
  intro j hj;obtain⟨N,a⟩:=(show ∃ N,∀ n',N<=n'->_ from by unfold Ev at fu;exact fu);exact zCr (a N (QE _)) (fun hm=>by
   have:=ZJ hj;rw[List.contains_eq_mem,Gk]at this;exact this hm)
 have:=h2 t1 h' hs q3;unfold WO at this |-;obtain⟨lr,Nw,q,eE⟩:=this;refine⟨lr,Nw,q,(fu.and eE).mono fun k ⟨e1,e2⟩=> ?_⟩;rw[<-GS n l,zCD,e1];exact e2
theorem Vi{d c i:Nat}{x y:Operand}{v r:Value}(hr:Zp c v (some i) none none=some r)(k:WO P tab l ⟨t.set d r,ds,rd⟩ h Q)(hx:WM t x v:=by exact zQ)(hy:WM t y (I (i:Int)):=by exact zQ):
  WO P tab (⟨some d,none,.slice c x (some y) none none⟩::l) ⟨t,ds,rd⟩ h Q:=by
 unfold WM at hx hy;refine WO.op r h rfl ?_ k;have:BO (I (i:Int))=some i:=rfl;simp only[WN,Bx,hx,hy,this,QJ,hr]
theorem Vu{d c i:Nat}{x y:Operand}{v r:Value}(hr:Zp c v none (some i) none=some r)(k:WO P tab l ⟨t.set d r,ds,rd⟩ h Q)(hx:WM t x v:=by exact zQ)(hy:WM t y (I (i:Int)):=by exact zQ):
  WO P tab (⟨some d,none,.slice c x none (some y) none⟩::l) ⟨t,ds,rd⟩ h Q:=by
 unfold WM at hx hy;refine WO.op r h rfl ?_ k;have:BO (I (i:Int))=some i:=rfl;simp only[WN,Bx,hx,hy,this,QJ,hr]
theorem Uu{c:Nat}{zero:List Value}{x:Operand}{v:Value}{h':WA}(hr:zBy c zero v h=some (.tuple #[],h'))(k:WO P tab l ⟨t,ds,rd⟩ h' Q)(hx:WM t x v:=by exact zQ):
  WO P tab (⟨none,none,.clearS c zero x⟩::l) ⟨t,ds,rd⟩ h Q:=by
 unfold WM at hx;exact VP (.tuple #[]) h' rfl (by simp only[WN,hx,hr]) k
theorem VF{d:Nat}{x:Operand}{v:Value}(k:∀ p h',Ext h h'->WB h h' p v.cells.toList->WO P tab l ⟨t.set d p,ds,rd⟩ h' Q)(hx:WM t x v:=by exact zQ):
  WO P tab (⟨some d,none,.box x⟩::l) ⟨t,ds,rd⟩ h Q:=Ub v.cells.toList (by unfold WM at hx;rw[hx]) k
theorem Ud{c:Operand}{x y:WY}{K:WP->WR->WA->Prop}{b:Bool}(s:WM t c (.bool b))(hb:b=true)(h1:WX P tab x ⟨t,ds,rd⟩ h K):WX P tab (.cond c x y) ⟨t,ds,rd⟩ h K:=
 Xb (hb▸s) h1
theorem Uc{c:Operand}{x y:WY}{K:WP->WR->WA->Prop}{b:Bool}(s:WM t c (.bool b))(hb:b=false)(h1:WX P tab y ⟨t,ds,rd⟩ h K):WX P tab (.cond c x y) ⟨t,ds,rd⟩ h K:=
 Xa (hb▸s) h1
theorem VE{c:Operand}{x y:WY}{K:WP->WR->WA->Prop}{b:Bool}(h1:b=true->WX P tab x ⟨t,ds,rd⟩ h K)(h2:b=false->WX P tab y ⟨t,ds,rd⟩ h K)(s:WM t c (.bool b):=by exact zQ):WX P tab (.cond c x y) ⟨t,ds,rd⟩ h K:=
 WX.cond b s h1 h2
theorem WH{k:Nat}{v:Value}(s:Wt t k v:=by(repeat (first|((with_reducible apply VY);rfl)|((with_reducible apply Wt.same);(with_reducible assumption);rfl)));first|with_reducible exact Wt.here|with_reducible assumption|(unfold Wt;with_reducible assumption)|exact Wt.here):zC t k=v:=s
theorem Wn{k i:Nat}(s:Wt t k (I ((i:Int)+1)):=by(repeat (first|((with_reducible apply VY);rfl)|((with_reducible apply Wt.same);(with_reducible assumption);rfl)));first|with_reducible exact Wt.here|with_reducible assumption|(unfold Wt;with_reducible assumption)|exact Wt.here):zC t k=I ((i+1:Nat):Int):=s
def BQ(h:WA)(t:WG Value)(rs:List (Nat×Option (Bool×Nat)))(vs:List Value):Prop:=yY h t rs=some vs
theorem BQ.nil:BQ h t [] []:=rfl
theorem BQ.cons{j:Nat}{v:Value}{rs:List (Nat×Option (Bool×Nat))}{vs:List Value}(s:Wt t j v)(k:BQ h t rs vs):BQ h t ((j,none)::rs) (v::vs):=by
 unfold BQ at *;unfold Wt at s;simp only[yY,zAQ,s,k]
theorem Vp{j n:Nat}{p v:Value}{h0:WA}{cs:List Value}{rs:List (Nat×Option (Bool×Nat))}{vs:List Value}(s:Wt t j p)(o:WB h0 h p cs)(hr:(cut cs 0 n).bind (zO true)=some v)(k:BQ h t rs vs):BQ h t ((j,some (true,n))::rs) (v::vs):=by
 obtain⟨g,_,_,rfl,hg⟩:=o;unfold BQ at *;unfold Wt at s;simp only[yY,zAQ,s,Za hg,Qp,cond_true,Qb,hr,k]
theorem rt{rs:List (Nat×Option (Bool×Nat))}{Q:Value->WA->Prop}{vs:List Value}(hq:Q (one vs) h)(r:BQ h t rs vs:=by(repeat (first|(apply BQ.cons;(exact Yq))|(apply Vp;(exact Yq);(with_reducible assumption);(exact zJA))));exact BQ.nil):zEe P tab rs Q .ret ⟨t,[],rd⟩ h:=zMB r hq
theorem BP{rs:List (Nat×Option (Bool×Nat))}{Q:Value->WA->Prop}{vs:List Value}(hq:Q (one vs) h)(r:BQ h t rs vs:=by(repeat (first|(apply BQ.cons;(exact Yq))|(apply Vp;(exact Yq);(with_reducible assumption);(exact zJA))));exact BQ.nil):zEe P tab rs Q .normal ⟨t,[],rd⟩ h:=zH7 r hq
theorem VD{ws:List Nat}{α:Type}{b:WY}{K:WP->WR->WA->Prop}(μ:α->Nat)(I:α->WG Value->WA->Prop)(x:α)(h0:I x t h)
  (hb:∀ x t' h',zCB ws t t'->I x t' h'->WX P tab b ⟨t',ds,rd⟩ h' (zCd μ I x ds rd K)) (hw:yJ b=ws:=by conv=>(lhs;reduce)):WX P tab (.loop b) ⟨t,ds,rd⟩ h K:=
 Xl μ I x h0 fun x t' h' hs hi=>hb x t' h' (fun j hj=>hs j (by rw[hw];exact ZJ hj)) hi
structure Wrap(G:Prop):Prop where
 out:G
theorem go{G' G:Prop}(k:G')(r:Wrap G'->G:=by
  intro fY;repeat (first|refine WX.seq ?_|refine WX.region ?_|(apply R.mov;(exact zQ))|(apply R.add;(exact zQ);(exact zQ);(omega);(omega))|(apply R.sub;(exact zQ);(exact zQ);(omega);(omega))|(apply R.mul;(exact zQ);(exact zQ);(omega);(omega))|(apply R.lss;(exact zQ);(exact zQ))|(apply R.leq;(exact zQ);(exact zQ))|(apply R.gtr;(exact zQ);(exact zQ))|(apply R.geq;(exact zQ);(exact zQ))|(apply R.eql;(exact zQ);(exact zQ))|(apply R.neq;(exact zQ);(exact zQ))|(apply R.not;(exact zQ))|(apply U7;(exact zQ);(exact zQ))|(apply U6;(exact zQ);(exact zQ))|(apply Xj;(exact zQ);(omega);(omega))|(apply R.conv;(exact zQ))|(apply UX;(exact zQ);(exact zFh);(exact zQ))|(apply UF;(exact zQ);(exact zFh);(exact zQ))|(apply Xu;(exact zQ))|(apply Xy;(exact zQ))|(apply Xk;(exact zQ))|(apply XZ;(exact zQ))|(apply Xn;(exact zQ))|(apply Xr;(exact zQ))|(apply UC;(exact zQ))|(apply Xe;(exact zQ))|(apply Xp;(exact zQ))|(apply R.lenC)|(apply R.nil;(exact zQ);(rfl))|(apply Un;(exact zQ);(exact zQF))|(apply Ue;(exact zQ);(with_reducible assumption))|(apply Us;(exact zQ);(exact zQ);(exact zLr);(exact zQF);(exact zHZ))|(apply Uq;(exact zQ);(exact zQ);(exact zLr);(with_reducible assumption);(exact zHZ))|(apply US;(exact zQ);(exact zQF);(exact zHZ))|(apply Ux;(exact zQ);(with_reducible assumption);(decide);(exact zJA))|(apply U0;(exact zQ);(with_reducible assumption);(decide);(rfl))|(apply UZ;(exact zQ);(with_reducible assumption);(decide);(exact zJA))|(apply Ug;(exact zQ);(with_reducible assumption);(decide);(rfl))|(apply R.fldP;(exact zQ);(with_reducible assumption))|(apply UI;(exact zQ);(with_reducible assumption))|(apply Uh;(exact zQ);(with_reducible assumption))|(apply Ui;(exact zQ);(with_reducible assumption);(exact zQ);(exact zLr);(exact zHZ))|(apply UL;(exact zQ);(with_reducible assumption);(exact zQ);(exact zLr);(exact zHZ))|(apply UG;(exact zQ);(with_reducible assumption);(exact zQ);(exact zLr);(exact zHZ))|(apply UJ;(exact zQ);(with_reducible assumption);(exact zHZ))|(apply XU;(exact zQ);(with_reducible assumption);(exact zJA))|(apply Xd;(exact zQ);(with_reducible assumption);(rfl))|(apply Xo;(exact zQ);(with_reducible assumption);(exact zJA))|(apply UY;(exact zQ);(with_reducible assumption);(rfl))|(apply UU;(exact zQ);(exact zJA))|(apply R.part;(exact zQ);(rfl))|(apply Ur;(exact zQ);(exact zLr);(exact zHZ))|(apply UM;(exact zQ);(with_reducible assumption);(with_reducible assumption))|(apply R.agg;((repeat (apply BA.cons;(exact zQ)));exact BA.nil);(exact zRh))|(apply Uw;(exact zQ);(with_reducible assumption))|(apply Um;(exact zQ);(with_reducible assumption))|(apply Uy;(exact zQ))|(apply Uf;(exact zQ);(with_reducible assumption))|(apply U2;(exact zQ);(exact zQ);(with_reducible assumption);(with_reducible assumption))|(apply U4;(exact zQ);(exact zQ);(with_reducible assumption);(with_reducible assumption))|(apply U3;(exact zKO);(exact zKO))|(apply U8;(exact Yq);(exact zFh))|(apply U1;(exact Yq);(exact zFh))|(apply U5;(exact Yq);(exact zFh))|(apply U9;(exact Yq))|refine WO.nil ?_|refine Z3 ?_|refine WX.skip ?_|refine WX.block ?_|refine WX.exit ?_|refine zDr ?_|refine zB7 ?_|refine zEh ?_|refine zBa rfl ?_|refine zE6 ?_|refine WX.ret ?_|refine zFr ?_|refine zEp ?_|refine zFk ?_|(apply Ud;(exact zQ);(exact zFh))|(apply Uc;(exact zQ);(exact zFh))|refine WX.label ?_|refine WX.goto ?_|refine zEr ?_|refine zDx ?_|refine zEd ?_|refine Vc rfl ?_)
  exact fY.out):G:=r ⟨k⟩
theorem gr{G' G:Prop}(k:G')(r:Wrap G'->G:=by
  intro fY;refine go ?_;refine rt ?_;exact fY.out):G:=r ⟨k⟩
theorem goC{G' G:Prop}(k:G')(r:Wrap G'->G:=by
  intro fY;repeat (first|refine WX.seq ?_|refine WX.region ?_|refine WO.nil ?_|refine Z3 ?_|refine WX.skip ?_|refine WX.block ?_|refine WX.exit ?_|refine zDr ?_|refine zB7 ?_|refine zEh ?_|refine zBa rfl ?_|refine zE6 ?_|refine WX.ret ?_|refine zFr ?_|refine zEp ?_|refine zFk ?_|(apply Ud;(exact zQ);(exact zFh))|(apply Uc;(exact zQ);(exact zFh))|refine WX.label ?_|refine WX.goto ?_|refine zEr ?_|refine zDx ?_|refine zEd ?_|refine Vc rfl ?_)
  exact fY.out):G:=r ⟨k⟩
end
section
variable {P:Program}
theorem zN{α β:Type}(x:Sem α)(f:α->Sem β):zc P (x>>=f)=(zc P x).bind fun a=>zc P (f a):=by
 show zc P (x.bind f)=_;induction x with
 |pure a=>rfl
 |program k ih=>simp only[Sem.bind,zc];exact ih _
 |mark m k ih=>simp only[Sem.bind,zc];exact ih
 |_=>simp[Sem.bind,zc]
theorem zHF{α:Type}(a:α):zc P (pure a)=some a:=rfl
theorem yV:zc P program=some P:=rfl
theorem yp{t:TypeId}{d:TypeDesc}(h:P.underlying t=some d):zc P (underlying t)=some d:=by
 unfold underlying;rw[zN,yV];simp only[Qb,h];rfl
def zFT:Value->Value->Bool
 | .int _ a,.int _ b=>a == b
 | .bool a,.bool b=>a == b
 |_,_=>false
def zN8(P:Program)(f:Field):Value->Value->Bool
 | .int k _,.int k' _=>decide (k=k')&&(match P.underlying f.type with|some (.int _)=>true|_=>false)
 | .bool _,.bool _=>(match P.underlying f.type with|some .bool=>true|_=>false)
 |_,_=>false
def zDe(P:Program):List Field->Nat->List Value->List Value->Bool
 |[],_,[],[]=>true
 |f::fs,i,x::xs,y::ys=>(f.name != "_")&&Nat.beq f.offset i&&(match zc P (isAgg f.type)with|some false=>true|_=>false)&&zN8 P f x y&&zDe P fs (i+1) xs ys
 |_,_,_,_=>false
def zAs:List Value->List Value->Bool
 |x::xs,y::ys=>zFT x y&&zAs xs ys
 |_,_=>true
theorem zLv{f:Field}{x y:Value}{d:Nat}(h:zN8 P f x y=true):zc P (Op.equalIn (d+1) f.type x y)=some (zFT x y):=by
 unfold zN8 at h;split at h
 ·rename_i k a k' b;rw[QN]at h;obtain⟨h1,h2⟩:=h;have h1:=of_decide_eq_true h1;subst h1;split at h2;case h_2=>cases h2
  rename_i k2 hu;rw[Op.equalIn,zN,yp hu];simp only[Qb,Q6];rfl
 ·split at h;case h_2=>cases h
  rename_i hu;rw[Op.equalIn,zN,yp hu];simp only[Qb];rfl
 ·cases h
theorem zCk{t:TypeId}{cs:Array Value}{off:Nat}{v:Value}(h:(match zc P (isAgg t)with|some false=>true|_=>false)=true)(hv:cs[off]?=some v):zc P (part t cs off)=some v:=by
 have h':zc P (isAgg t)=some false:=by
  split at h
  ·assumption
  ·cases h
 unfold part;rw[zN,h'];simp only[Qb,hv];rfl
theorem zKG{xs ys:Array Value}{n d:Nat}(hn:n=d+1):∀ (l:List Field) (i:Nat) (us vs:List Value),zDe P l i us vs=true->(∀ j,xs[i+j]?=us[j]?)->(∀ j,ys[i+j]?=vs[j]?)->
  zc P (do
   let s <-(forIn l (none,()) fun f (__s:Option Bool×Unit)=>
          if f.name≠ "_" then do
           let __do_lift <-part f.type xs f.offset
           let __do_lift_1 <-part f.type ys f.offset
           let __do_lift <-Op.equalIn n f.type __do_lift __do_lift_1
           if(!__do_lift)=true then pure (ForInStep.done (some false,()))
            else pure (ForInStep.yield (none,()))
          else pure (ForInStep.yield (none,())):Sem (Option Bool×Unit))
   match s.fst with
        |some r=>pure r
        |none=>pure true)=some (zAs us vs):=by
 intro l;induction l with
 |nil=>
  intro i us vs hk _ _;cases us with
  |cons _ _=>cases hk
  |nil=>cases vs with
   |cons _ _=>cases hk
   |nil=>rfl
 |cons f l ih=>
  intro i us vs hk hx hy;cases us with
  |nil=>cases hk
  |cons u us=>cases vs with
   |nil=>cases hk
   |cons v vs=>
   simp only[zDe,QN]at hk;obtain⟨⟨⟨⟨k1,k2⟩,k3⟩,k4⟩,k5⟩:=hk;have pt:=QO k2;have lU:f.name≠ "_":=by simpa using k1
   have Nx:xs[f.offset]?=some u:=by rw[pt];simpa using hx 0
   have iT:ys[f.offset]?=some v:=by rw[pt];simpa using hy 0
   have cI:=ih (i+1) us vs k5 (fun j=>by have:=hx (j+1);rw[List.getElem?_cons_succ]at this;rw[<-this];congr 1;omega) (fun j=>by have:=hy (j+1);rw[List.getElem?_cons_succ]at this;rw[<-this];congr 1;omega);have heq:zc P (Op.equalIn n f.type u v)=some (zFT u v):=by rw[hn];exact zLv k4
   rw[List.forIn_cons];simp only[bind_assoc,zN,QF lU,zCk k3 Nx,zCk k3 iT,Qb,heq];cases he:zFT u v with
   |false=>simp only[zAs,he,Qf];rfl
   |true=>
    simp only[zAs,he,Qe];rw[<-cI,zN];rfl
theorem zLY{t:TypeId}{fs:Array Field}{xs ys:Array Value}{x y:Operand}(ht:P.underlying t=some (.struct fs))(hs:P.stoodInHeld t=false)(hg:P.eqGuardType P.depth t=false)(hk:zDe P fs.toList 0 xs.toList ys.toList=true):
  zc P (do eqGuard .eql t x y (.agg xs) (.agg ys);binOp .eql t (.agg xs) (.agg ys))=some (.bool (zAs xs.toList ys.toList)):=by
 have h1:zc P (eqGuard .eql t x y (.agg xs) (.agg ys))=some ():=by
  unfold eqGuard;simp only[QW,Qa,Gb];rw[zN,yV];simp only[Qb];rw[zN,yV];simp only[Qb,hg,Qh,Q6];rfl
 rw[zN,h1];simp only[Qb];unfold binOp;simp only[];rw[zN];have h2:zc P (Op.equal t (.agg xs) (.agg ys))=some (zAs xs.toList ys.toList):=by
  unfold Op.equal Op.maxDepth;rw[show(10000:Nat)=9999+1 from rfl,Op.equalIn,zN,yp ht];simp only[Qb];rw[zN,yV];simp only[Qb,hs,Qa,Gb];have:=zKG (P:=P) (xs:=xs) (ys:=ys) (n:=9999) (d:=9998) rfl fs.toList 0 xs.toList ys.toList hk (fun j=>by simp) (fun j=>by simp);rw[<-this,<-Array.forIn_toList,zN,zN];congr 1;funext s;obtain⟨a,_⟩:=s;cases a<;>rfl
 rw[h2];rfl
def chk(P:Program)(t:TypeId)(xs ys:List Value):Bool:=
 (match P.underlying t with|some (.struct fs)=>zDe P fs.toList 0 xs ys|_=>false)&& !P.stoodInHeld t&& !P.eqGuardType P.depth t
theorem zJP{t:TypeId}{xs ys:Array Value}{x y:Operand}{b:Bool}(h:chk P t xs.toList ys.toList=true)(hb:zAs xs.toList ys.toList=b):zc P (do eqGuard .eql t x y (.agg xs) (.agg ys);binOp .eql t (.agg xs) (.agg ys))=some (.bool b):=by
 subst hb;unfold chk at h;simp only[QN,Gj]at h;obtain⟨⟨h1,h2⟩,h3⟩:=h;split at h1;case h_2=>cases h1
 rename_i fs hu;exact zLY hu h2 h3 h1
end
section
variable {P:Program}
theorem zKs{t:TypeId}{fs:Array Field}{xs ys:Array Value}{x y:Operand}(ht:P.underlying t=some (.struct fs))(hs:P.stoodInHeld t=false)(hg:P.eqGuardType P.depth t=false)(hk:zDe P fs.toList 0 xs.toList ys.toList=true):
  zc P (do eqGuard .neq t x y (.agg xs) (.agg ys);binOp .neq t (.agg xs) (.agg ys))=some (.bool (!zAs xs.toList ys.toList)):=by
 have h1:zc P (eqGuard .neq t x y (.agg xs) (.agg ys))=some ():=by
  unfold eqGuard;simp only[QW,Qa,Gb];rw[zN,yV];simp only[Qb];rw[zN,yV];simp only[Qb,hg,Qh,Q6];rfl
 rw[zN,h1];simp only[Qb];unfold binOp;simp only[];rw[zN];have h2:zc P (Op.equal t (.agg xs) (.agg ys))=some (zAs xs.toList ys.toList):=by
  unfold Op.equal Op.maxDepth;rw[show(10000:Nat)=9999+1 from rfl,Op.equalIn,zN,yp ht];simp only[Qb];rw[zN,yV];simp only[Qb,hs,Qa,Gb];have:=zKG (P:=P) (xs:=xs) (ys:=ys) (n:=9999) (d:=9998) rfl fs.toList 0 xs.toList ys.toList hk (fun j=>by simp) (fun j=>by simp);rw[<-this,<-Array.forIn_toList,zN,zN];congr 1;funext s;obtain⟨a,_⟩:=s;cases a<;>rfl
 rw[h2];rfl
theorem zP6{t:TypeId}{xs ys:Array Value}{x y:Operand}{b:Bool}(h:chk P t xs.toList ys.toList=true)(hb:zAs xs.toList ys.toList=b):zc P (do eqGuard .neq t x y (.agg xs) (.agg ys);binOp .neq t (.agg xs) (.agg ys))=some (.bool (!b)):=by
 subst hb;unfold chk at h;simp only[QN,Gj]at h;obtain⟨⟨h1,h2⟩,h3⟩:=h;split at h1;case h_2=>cases h1
 rename_i fs hu;exact zKs hu h2 h3 h1
end
section
variable {P:Program}{tab:Wy}
def okU(m N0:Nat)(un:List Nat)(cl:Bool)(t:WG Value)(o:WF)(h h':WA):Prop:=
 (∀ g∈h'.wr,m<=g)/\h.n<=h'.n/\(un=[]\/(cl=true/\h'.wr=[]/\∀ g,zl t o=some g->g<N0))
def Wb(P:Program)(tab:Wy)(m N0:Nat):List (WF×List Nat)->Nat->Bool->WR->WA->(WR->WA->Prop)->Prop
 |[],_,_,fr,h,Q=>Q fr h
 |(o,un)::l,g,cl,fr,h,Q=>
  if Nat.beq (zI o.op) 3=true then
   un=[]/\((zV fr.tm o.guard=true/\m<=g/\∃ ob f,yi fr.tm o.op=some (ob,f)/\Wb P tab m N0 l (g+1) false (val o.dst fr (f g)) ((inC h).lay g ob) Q)\/
    (zV fr.tm o.guard=false/\Wb P tab m N0 l (g+1) cl (val o.dst fr undef) (inC h) Q))
  else WO P tab [o] fr (inC h) fun af h'=>okU m N0 un cl fr.tm o h h'/\Wb P tab m N0 l g (cl&&h'.wr.isEmpty) af h' Q
theorem zLy{m N0:Nat}{un:List Nat}{cl:Bool}{t:WG Value}{o:WF}{h h':WA}(hk:okU m N0 un cl t o h h'){ws:List (Nat×Nat)}(hw:cl=true->ws=[]){bs:List (Nat×Nat)}(hb:∀ e∈bs,N0<=e.2)(rs:List (Nat×Nat×Option (Nat×Nat×List Value))):
  ((match zl t o with
   |some g=>(ws.all fun x=> !(Nat.beq g x.2&&un.contains x.1))&&bs.all fun x=> !un.contains x.1||Nat.ble (g+1) x.2
   |none=>true)&&rs.all fun x=> !(un.contains x.1&&h'.wr.contains x.2.1)||zCh h' x.2.1 x.2.2)=true:=by
 obtain⟨_,_,rfl|⟨h1,h2,h3⟩⟩:=hk
 ·exact zJs o ws rs bs t h'
 ·rw[hw h1,h2];have e2:(rs.all fun x=> !(un.contains x.1&&([]:List Nat).contains x.2.1)||zCh h' x.2.1 x.2.2)=true:=by simp
  rw[e2,Qq];cases hr:zl t o with
  |none=>rfl
  |some g=>
   have hg:=h3 g hr;simp only[List.all_nil,Qe];rw[QX];intro x hx;have:Nat.ble (g+1) x.2=true:=QH (QI hg (hb x hx));rw[this,Q8]
theorem Wb.run{m N0:Nat}:∀ {ops:List (WF×List Nat)} {g:Nat} {cl:Bool} {fr:WR} {h:WA} {Q:WR->WA->Prop},N0<=h.n->Wb P tab m N0 ops g cl fr h Q->
  ∃ af h',Q af h'/\∀ (i:Nat) (ws:List (Nat×Nat)) (rs:List (Nat×Nat×Option (Nat×Nat×List Value))) (bs:List (Nat×Nat)),(∀ e∈ws,m<=e.2)->(cl=true->ws=[])->(∀ e∈bs,N0<=e.2)->
   ∃ cj,(∀ e∈cj,m<=e.2)/\Ev fun n=>yH P (BI P tab n) ops i g ws rs bs fr h=some (af,h',cj):=by
 intro ops;induction ops with
 |nil=>intro g cl fr h Q _ hx;exact⟨fr,h,hx,fun i ws rs bs hw _ _=>⟨ws,hw,Ev.all fun n=>rfl⟩⟩
 |cons x ops cI=>
  intro g cl fr h Q hn hx;obtain⟨o,un⟩:=x;simp only[Wb]at hx;have go:∀ {g':Nat} {cm:Bool} {bB:WR} {h1:WA},(g'=bif Nat.beq (zI o.op) 3 then g+1 else g)->(cm=true->cl=true/\h1.wr=[])->(Ev fun n=>yT P (BI P tab n) g o fr (inC h)=some (bB,h1))->okU m N0 un cl fr.tm o h h1->Wb P tab m N0 ops g' cm bB h1 Q->
    ∃ af h',Q af h'/\∀ (i:Nat) (ws:List (Nat×Nat)) (rs:List (Nat×Nat×Option (Nat×Nat×List Value))) (bs:List (Nat×Nat)),(∀ e∈ws,m<=e.2)->(cl=true->ws=[])->(∀ e∈bs,N0<=e.2)->
     ∃ cj,(∀ e∈cj,m<=e.2)/\Ev fun n=>yH P (BI P tab n) ((o,un)::ops) i g ws rs bs fr h=some (af,h',cj):=by
   intro g' cm bB h1 hg a7 ev hk hx;obtain⟨af,h',q,run⟩:=cI (QP hn hk.2.1) hx;refine⟨af,h',q,fun i ws rs bs xp sF iU=> ?_⟩;obtain⟨cj,w1,w2⟩:=run (i+1) (h1.wr.map (fun g=>(i,g))++ws) (match zl fr.tm o with
     |some g=>(i,g,zAL fr.tm h o.op)::rs
     |none=>rs) ((i,h.n)::bs) (fun e he=>by
      rcases Qs.1 he with he|he
      ·obtain⟨y,hy,rfl⟩:=Qw.1 he;exact hk.1 y hy
      ·exact xp e he) (fun hc=>by
      obtain⟨c1,c2⟩:=a7 hc;rw[sF c1,c2];rfl) (fun e he=>by
      rcases GG.1 he with rfl|he
      ·exact hn
      ·exact iU e he)
   refine⟨cj,w1,(ev.and w2).mono fun n ⟨e1,e2⟩=> ?_⟩;simp only[yH];have sN:yT P (BI P tab n) g o fr {h with mark:=h.n,wr:=[]}=some (bB,h1):=e1;rw[sN];have a8:=zLy hk sF iU rs;exact(congrArg (fun b:Bool=>bif b then yH P (BI P tab n) ops (i+1) (bif Nat.beq (zI o.op) 3 then g+1 else g) (h1.wr.map (fun g=>(i,g))++ws) (match zl fr.tm o with
     |some g=>(i,g,zAL fr.tm h o.op)::rs
     |none=>rs) ((i,h.n)::bs) bB h1 else none) a8).trans (by rw[cond_true,<-hg];exact e2)
  by_cases hk:Nat.beq (zI o.op) 3=true
  ·rw[QF hk]at hx;obtain⟨rfl,⟨hw,hm,ob,f,aO,hx⟩|⟨hw,hx⟩⟩:=hx;case inr=>
    refine go (g':=g+1) (cm:=cl) (by rw[hk];rfl) (fun h=>⟨h,rfl⟩) (Ev.all fun n=> ?_) (h1:=inC h) ⟨fun x hx=>(by cases hx),(show h.n<=h.n from QE _),.inl rfl⟩ hx;unfold yT;simp only[hk,hw,cond_true,QU]
   refine go (g':=g+1) (cm:=false) (by rw[hk];rfl) (fun h=>by cases h) (Ev.all fun n=> ?_) (h1:=(inC h).lay g ob) ⟨fun x hx=> ?_,(show h.n<=h.n from QE _),.inl rfl⟩ hx
   ·unfold yT;simp only[hk,hw,aO,cond_true]
   ·rcases yc hx with rfl|hx
    ·exact hm
    ·cases hx
  ·rw[QC hk]at hx;have bK:Nat.beq (zI o.op) 3=false:=by cases hb:Nat.beq (zI o.op) 3 with
    |false=>rfl
    |true=>exact absurd hb hk
   unfold WO at hx;obtain⟨bB,h1,⟨q1,q2⟩,ev⟩:=hx;refine go (g':=g) (cm:=cl&&h1.wr.isEmpty) (by rw[bK];rfl) (fun hc=>by
    rw[QN]at hc;exact⟨hc.1,List.isEmpty_iff.1 hc.2⟩) (ev.mono fun n e=> ?_) q1 q2
   unfold yT;simp only[bK,QU];simp only[ZA]at e;cases ha:yU P (BI P tab n) o fr (inC h)with
   |none=>rw[ha]at e;cases e
   |some p=>rw[ha]at e;exact e
def zB(k:Nat)(h:WA):WA:={h with n:=h.n+k}
theorem zH(k:Nat)(h:WA):Ext h (zB k h):=⟨JB _ _,fun _ _=>rfl,fun w g hg=>w g (QP (JB _ _) hg),rfl,fun _=>rfl⟩
theorem VC{ops:List (WF×List Nat)}{fr:WR}{h:WA}{K:WP->WR->WA->Prop}(k:Nat)(hk:zDO ops=k)(aq:ops.isEmpty=false)
  (hx:Wb P tab h.mark (h.n+k) ops h.n true fr (inC (zB k h)) (Bt K h)):WX P tab (.regionC ops) fr h K:=by
 subst hk;have fS:Wb P tab h.mark (h.n+zDO ops) ops h.n true fr (zB (zDO ops) h) (Bt K h):=by
  cases ops with
  |nil=>cases aq
  |cons x ops=>exact hx
 obtain⟨af,h',q,run⟩:=Wb.run (h:=zB (zDO ops) h) (show h.n+zDO ops<=h.n+zDO ops from QE _) fS;obtain⟨cj,w1,w2⟩:=run 0 [] [] [] (fun e he=>by cases he) (fun _=>rfl) (fun e he=>by cases he);unfold WX;refine⟨.normal,af,_,q,Ev.up (w2.mono fun n e=> ?_)⟩;rw[zx];simp only[zv,Yo];have e':yH P (BI P tab n) ops 0 h.n [] [] [] fr {h with n:=h.n+(ops.filter fun x=>Nat.beq (zI x.1.op) 3).length}=some (af,h',cj):=e;rw[e'];have:((cj.map (·.2)).filter fun g=> !Nat.ble h.mark g)=[]:=by
  rw[List.filter_eq_nil_iff];intro g hg;obtain⟨y,hy,rfl⟩:=Qw.1 hg;have:Nat.ble h.mark y.2=true:=QH (w1 y hy);simp[this]
 simp[this,outC]
end
section
variable {P:Program}{tab:Wy}{m N0:Nat}{l:List (WF×List Nat)}{o:WF}{un:List Nat}{g:Nat}{cl:Bool}{fr:WR}{h h0 h':WA}{Q:WR->WA->Prop}{K:WP->WR->WA->Prop}{x:WF×List Nat}
def uK2(P:Program)(tab:Wy)(m N0:Nat)(un:List Nat)(t:WG Value)(o:WF)(h:WA)(l:List (WF×List Nat))(g:Nat)(cl:Bool)(Q:WR->WA->Prop):WR->WA->Prop:=
 fun af h'=>okU m N0 un cl t o h h'/\Wb P tab m N0 l g (cl&&h'.wr.isEmpty) af h' Q
theorem Wb.q(hk:Nat.beq (zI o.op) 3=false)(hx:WO P tab [o] fr (inC h) (uK2 P tab m N0 un fr.tm o (inC h) l g cl Q)):Wb P tab m N0 ((o,un)::l) g cl fr (inC h) Q:=by
 simp only[Wb];rw[QC (by rw[hk];exact Bool.noConfusion)];exact hx
theorem zPx{t:WG Value}(hx:Wb P tab m N0 l g cl fr (inC h) Q):uK2 P tab m N0 [] t o (inC h) l g cl Q fr (inC h):=
 ⟨⟨fun g hg=>(by cases hg),QE _,.inl rfl⟩,by rw[show(cl&&(inC h).wr.isEmpty)=cl from by simp[inC]];exact hx⟩
theorem zDw{t:WG Value}(hr:∀ g,zl t o=some g->g<N0)(hx:Wb P tab m N0 l g true fr (inC h) Q):uK2 P tab m N0 un t o (inC h) l g true Q fr (inC h):=
 ⟨⟨fun g hg=>(by cases hg),QE _,.inr ⟨rfl,rfl,hr⟩⟩,by rw[show(true&&(inC h).wr.isEmpty)=true from by simp[inC]];exact hx⟩
theorem zPz{t:WG Value}(e:Ext (inC h) h')(hr:zl t o=none)(hx:Wb P tab m N0 (x::l) g true fr (inC h') Q):uK2 P tab m N0 un t o (inC h) (x::l) g true Q fr h':=by
 have hw:=e.wrnil;refine⟨⟨fun g hg=>(by rw[hw]at hg;cases hg),e.n,?_⟩,?_⟩
 ·exact .inr ⟨rfl,hw,fun g hg=>by rw[hr]at hg;cases hg⟩
 ·rw[hw];exact hx
theorem zO5{t:WG Value}(hx:K .normal fr (outC h0 (inC h))):uK2 P tab m N0 [] t o (inC h) [] g cl (Bt K h0) fr (inC h):=⟨⟨fun g hg=>(by cases hg),QE _,.inl rfl⟩,hx⟩
theorem Xs{t:WG Value}{ds:List Deferred}{rd:Option Nat}{zero cs:List Value}{d n:Nat}{y:Operand}{v:Value}(hm:m<=g)(hg:g<h.n)(hz:zero.length=n)(hn:cs.length=n)(h1:zL cs=true)(hv:v.cells=cs.toArray)(hy:ev (t.set d (.pointer (some ⟨g,0,none⟩))) y=v)
  (hx:Q ⟨t.set d (.pointer (some ⟨g,0,none⟩)),ds,rd⟩ ((inC ((inC h).lay g (.row zero true 0))).set g (.row cs true 0))):
  Wb P tab m N0 [(⟨some d,none,.alloc zero⟩,[]),(⟨none,none,.store n (.tmp d) y⟩,[])] g cl ⟨t,ds,rd⟩ (inC h) Q:=by
 subst hn;rw[Wb,QF (show Nat.beq (zI (Wx.alloc zero)) 3=true from rfl)];refine⟨rfl,.inl ⟨rfl,hm,_,_,rfl,?_⟩⟩;rw[show inC (inC h)=inC h from rfl];rw[Wb,QC (show ¬Nat.beq (zI (Wx.store cs.length (.tmp d) y)) 3=true from Bool.noConfusion)];have bq:(inC ((inC h).lay g (.row zero true 0))).get g=some (.row zero true 0):=by
  show((inC h).tab.set g (.row zero true 0)).get g=_;rw[zT,QF rfl]
 have aX:zr (inC ((inC h).lay g (.row zero true 0))) ⟨g,0,none⟩ cs=some ((inC ((inC h).lay g (.row zero true 0))).set g (.row cs true 0)):=by
  have h2:Nat.ble (0+cs.length) zero.length=true:=QH (by omega);have h3:Nat.ble 0 0=true:=rfl;have h4:zh zero 0 cs=cs:=by simp[zh,hz]
  simp only[zr,bq,h2,h3,h1,h4,Qp,Qv,cond_true]
 refine VP undef ((inC ((inC h).lay g (.row zero true 0))).set g (.row cs true 0)) rfl (by
  simp only[WN];have e1:ev (val (some d) ⟨t,ds,rd⟩ (.pointer (some ⟨g,0,none⟩))).tm (.tmp d)=.pointer (some ⟨g,0,none⟩):=by simp only[val,ev,zb,Q6]
  have e2:ev (val (some d) ⟨t,ds,rd⟩ (.pointer (some ⟨g,0,none⟩))).tm y=v:=hy;have sN:ev (t.set d (.pointer (some ⟨g,0,none⟩))) (.tmp d)=.pointer (some ⟨g,0,none⟩):=e1;simp only[val,sN,hy,hv,Gc,GR,aX,QJ,cond_true]) ?_
 refine WO.nil ⟨⟨fun k hk=> ?_,QE _,.inl rfl⟩,hx⟩;have aS:k∈(inC ((inC h).lay g (.row zero true 0))).log g:=hk;rcases yc aS with rfl|cg
 ·exact hm
 ·cases cg
theorem zIW{k:Nat}{o o':Ws}(e:Ext (inC (zB 1 h0)) h):Ext h0 (outC h0 ((inC ((inC h).lay h0.n o)).set h0.n o')):=by
 have hn:h0.n+1<=h.n:=e.n;refine⟨by show h0.n<=h.n;omega,fun k hk=> ?_,fun w k hk=> ?_,rfl,fun _=>rfl⟩
 ·show((h.tab.set h0.n o).set h0.n o').get k=_;rw[zT,QC (by omega),zT,QC (by omega)];exact e.get k (by show k<h0.n+1;omega)
 ·have hk:h.n<=k:=hk;show((h.tab.set h0.n o).set h0.n o').get k=_;rw[zT,QC (by omega),zT,QC (by omega)];exact e.wf (fun j hj=>w j (by have:h0.n+1<=j:=hj;omega)) k hk
theorem zHP{cs:List Value}{o:Ws}(e:Ext (inC (zB 1 h0)) h):WB h0 (outC h0 ((inC ((inC h).lay h0.n o)).set h0.n (.row cs true 0))) (.pointer (some ⟨h0.n,0,none⟩)) cs:=by
 have hn:h0.n+1<=h.n:=e.n;exact⟨h0.n,QE _,by show h0.n<h.n;omega,rfl,by
  show((h.tab.set h0.n o).set h0.n (.row cs true 0)).get h0.n=_;rw[zT,QF rfl]⟩
end
section
variable {P:Program}{tab:Wy}{ds:List Deferred}{rd:Option Nat}{h:WA}{l:List WF}{t:WG Value}
theorem WJ{G' G:Prop}(k:G')(r:Wrap G'->G:=by
  intro fY;first|with_reducible show Wb _ _ _ _ (_::_) _ _ _ _ _|refine go ?_
  repeat (first|((apply Wb.q;rfl);refine go ?_)|refine zPx ?_|refine zO5 ?_)
  first|with_reducible show Wb _ _ _ _ (_::_) _ _ _ _ _|refine go ?_
  exact fY.out):G:=r ⟨k⟩
theorem BY{G' G:Prop}(k:G')(r:Wrap G'->G:=by
  intro fY;refine WJ ?_;refine rt ?_;exact fY.out):G:=r ⟨k⟩
theorem XL{m N0 n g d:Nat}{cl:Bool}{y:Operand}{v:Value}{zero cs:List Value}{Q:WR->WA->Prop}(hm:m<=g)(hg:g<h.n)(hx:Q ⟨t.set d (.pointer (some ⟨g,0,none⟩)),ds,rd⟩ ((inC ((inC h).lay g (.row zero true 0))).set g (.row cs true 0)))
  (hy:WM (t.set d (.pointer (some ⟨g,0,none⟩))) y v:=by exact zQ) (hv:v.cells=cs.toArray:=by rfl) (hz:zero.length=n:=by rfl) (hn:cs.length=n:=by rfl) (h1:zL cs=true:=by rfl):
  Wb P tab m N0 [(⟨some d,none,.alloc zero⟩,[]),(⟨none,none,.store n (.tmp d) y⟩,[])] g cl ⟨t,ds,rd⟩ (inC h) Q:=Xs hm hg hz hn h1 hv hy hx
theorem Wb.upd{N0 g:Nat}{cl:Bool}{mx kx vx:Operand}{mv:Value}{a b:Int}{es:List (Int×Int)}{h0 hS:WA}{K:WP->WR->WA->Prop}(o:BK h0 hS mv es)(e0:Ext h0 hS)(hm:hS.mark<=h0.n)(hl:es.lookup a=none)
  (k:∀ h1,Ext h0 h1->BK h0 h1 mv (es++[(a,b)])->zNx mv hS h1->K .normal ⟨t,ds,rd⟩ h1) (fG:WM t mx mv:=by exact zQ) (Kc:WM t kx (I a):=by exact zQ) (Kd:WM t vx (I b):=by exact zQ):
  Wb P tab hS.mark N0 [(⟨none,none,.update mx kx vx⟩,[])] g cl ⟨t,ds,rd⟩ (inC (zB 0 hS)) (Bt K hS):=by
 obtain⟨q,c,aM,g1,g2,rfl,g4,g5⟩:=o;unfold WM at fG Kc Kd;have hf:=zDY 0 g5 hl;have Ny:(inC (inC (zB 0 hS))).get q=some (.map aM c):=g4;rw[Wb,QC (show ¬Nat.beq (zI (Wx.update mx kx vx)) 3=true from Bool.noConfusion)];refine VP undef ((inC (inC (zB 0 hS))).set q (.map (aM++[{key:=I a,val:=I b,born:=c}]) (c+1))) rfl (by simp only[WN,fG,Kc,Kd,Ny,hf]) ?_;refine WO.nil ⟨⟨fun x hx=> ?_,QE _,.inl rfl⟩,?_⟩
 ·have iu:x∈(inC (inC (zB 0 hS))).log q:=hx;rcases yc iu with rfl|EG
  ·omega
  ·cases EG
 ·refine k (outC hS ((inC (inC (zB 0 hS))).set q (.map (aM++[{key:=I a,val:=I b,born:=c}]) (c+1)))) ?_ ?_ ?_
  ·refine⟨e0.n,fun j hj=> ?_,fun w j hj=> ?_,e0.mark,fun cT=>e0.wr cT⟩
   ·show(hS.tab.set q _).get j=_;rw[zT,QC (by omega)];exact e0.get j hj
   ·have hj:hS.n<=j:=hj;show(hS.tab.set q _).get j=_;rw[zT,QC (by omega)];exact e0.wf w j hj
  ·refine⟨q,c+1,aM++[{key:=I a,val:=I b,born:=c}],g1,g2,rfl,?_,by simp[g5]⟩;show(hS.tab.set q _).get q=_;rw[zT,QF rfl]
  ·refine⟨QE _,fun j _ hj=> ?_⟩;show(hS.tab.set q _).get j=_;rw[zT,QC (fun e=>hj (by rw[e]))];rfl
theorem zi{x:Operand}{v:Value}(hx:WM t x v:=by exact zQ):ev t x=v:=hx
theorem zCt{m N0 n g j:Nat}{un:List Nat}{d:Option Nat}{agg:Bool}{x:Operand}{p:Value}{cs:List Value}{h0 hs:WA}{l:List (WF×List Nat)}{fr:WR}{Q:WR->WA->Prop}(o:WB h0 hs p cs)(hN:hs.n<=N0)(hx:Wb P tab m N0 l g true fr (inC h) Q)
  (hr:WM t x (yE p j):=by exact zQ):uK2 P tab m N0 un t ⟨d,none,.load agg n x⟩ (inC h) l g true Q fr (inC h):=by
 refine zDw (fun k hk=> ?_) hx;obtain⟨q,q1,q2,rfl,q3⟩:=o;unfold WM yE at hr;simp only[zl,zV,cond_true,hr,QA]at hk;omega
end
section
variable {P:Program}{tab:Wy}{t:WG Value}{h:WA}{ds:List Deferred}{rd:Option Nat}{l:List WF}{Q:WR->WA->Prop}
def fl(n:Int):Value:= .float .f64 (FloatKind.nearest .f64 n)
end
open Go.RowKit
section
variable {H:Type}
theorem zGz{enc:TypeId×Value->H}{a:Assume}{C:Checked}{os:Os}{f:FuncId}{fn:Func}{s:ChangeSpec}{conds:List PathCond}{apart fresh handsOn again:Bool}{X:World->Array Value->Prop}
  (hX:∀ (w w':World) (args:Array Value),w.heap=w'.heap->X w args->X w' args)
  (own:ownKnob C.prog.godebug=none) (started:os.Started) (sP:C.prog.inits.idxOf? f=none) (hfn:C.prog.funcs[f]?=some fn)
  (witness:∃ (w:World) (tape:Tape) (i:Input),w.os=os/\(w.forCall tape i).Shaped C.prog/\i.vars=[]/\Input.okWide C.prog (w.forCall tape i) .any w.heap.size f i/\
   ((s.pre enc C.prog fn conds apart (w.forCall tape i).memory i.args/\X (w.forCall tape i).memory i.args)/\sizedMet enc C.prog fn (OpenSpec.ofChange s) apart (w.forCall tape i).memory i.args)/\a.holds C.prog (lone (Frame.enter C.prog f i.args .normal) [] (w.forCall tape i)))
  (ma:∀ (W:World) (base:Nat) (args:Array Value) (ds gs:List (DataW H)) (before:List MemPlace),
   (∀ (j:Nat) t v,fn.params[j]?=some t->args[j]?=some v->Value.okWide C.prog W .any base t v)->
   DataW.Whole enc C.prog fn.params.toList s.vars apart W args.toList ds gs before->
   (DataW.weightsEach C.prog (fn.params.toList++(OpenSpec.ofChange s).bare.plain.varTypes C.prog) (ds++gs)).all (·<=reachBytes)=true->X W args->W.ShapedOpen C.prog->
   Calls C.prog f args W fun e W'=>∃ v,e=.returned v/\s.post enc C.prog fn apart fresh handsOn again W args v W'):
  ReturnsInHanded a C os f .any (fun w args=>(s.pre enc C.prog fn conds apart w args/\X w args)/\sizedMet enc C.prog fn (OpenSpec.ofChange s) apart w args) (s.post enc C.prog fn apart fresh handsOn again):=by
 refine returnsInHanded_of_calls own started sP witness ?_;intro w tape i _ hsh _ a8 gQ _;obtain⟨_,_,_,gE,EH,_,_,_,_,hval⟩:=a8;have e:gE=fn:=GL (EH.symm.trans hfn);subst e;obtain⟨⟨_,hx⟩,_,ds,gs,before,hw,hsz⟩:=gQ;have Nz:=DataW.Whole.of_heap (w':=w.forCall tape i) (by rfl) hw;refine(ma (w.forCall tape i) w.heap.size i.args ds gs before hval Nz hsz (hX _ _ _ (by rfl) hx) hsh).mono fun e W' ⟨v,he,hp⟩=> ?_;subst he;exact ChangeSpec.post_blind hp
def BN(P:Program)(t:TypeId)(d:DataW H):Prop:=∀ n∈DataW.weights P t d,n<=reachBytes
variable {P:Program}{h:WA}
theorem zFE:∀ {ts:List TypeId} {ds:List (DataW H)},(∀ n∈DataW.weightsEach P ts ds,n<=reachBytes)->∀ (i:Nat) t d,ts[i]?=some t->ds[i]?=some d->BN P t d
 |[],_,_,i,t,d,ht,_=>by simp at ht
 |_::_,[],_,i,t,d,_,hd=>by simp at hd
 |t::ts,d::ds,hw,0,_,_,ht,hd=>by
  simp at ht hd;subst ht hd;exact fun n hn=>hw n (by unfold DataW.weightsEach;simp[hn])
 |t::ts,d::ds,hw,i+1,_,_,ht,hd=>
  zFE (ts:=ts) (ds:=ds) (fun n hn=>hw n (by unfold DataW.weightsEach;simp[hn])) i _ _ (by simpa using ht) (by simpa using hd)
theorem zJ9{e:TypeId}:∀ {ds:List (DataW H)},(∀ n∈DataW.weightsAll P e ds,n<=reachBytes)->∀ (i:Nat) d,ds[i]?=some d->BN P e d
 |[],_,i,d,hd=>by simp at hd
 |d::ds,hw,0,_,hd=>by
  simp at hd;subst hd;exact fun n hn=>hw n (by unfold DataW.weightsAll;simp[hn])
 |d::ds,hw,i+1,_,hd=>zJ9 (ds:=ds) (fun n hn=>hw n (by unfold DataW.weightsAll;simp[hn])) i _ (by simpa using hd)
theorem zF5{t e:TypeId}{elems spare:List (DataW H)}(ht:P.underlying t=some (.slice e))(hw:BN P t (.slice elems spare)):elems.length*P.bytesOf e<=reachBytes/\∀ (i:Nat) d,elems[i]?=some d->BN P e d:=by
 unfold BN at hw;unfold DataW.weights at hw;rw[ht]at hw;simp only at hw;refine⟨?_,zJ9 fun n hn=>hw n (by simp[hn])⟩;have:=hw _ (Qj ..);exact QP (GK _ (JB _ _)) this
theorem zIs{t:TypeId}{fs:Array Field}{parts:List (DataW H)}(ht:P.underlying t=some (.struct fs))(hw:BN P t (.agg parts))(i:Nat)(f:Field)(d:DataW H)(hf:fs[i]?=some f)(hd:parts[i]?=some d):BN P f.type d:=by
 unfold BN at hw;unfold DataW.weights at hw;rw[ht]at hw;exact zFE hw i f.type d (by simp[hf]) hd
theorem zCv{α:Type}{c:Nat}{R:WA->List Value->α->Prop}{t e:TypeId}{dc:List Value}{d:DataW H}(r:Rd P h t dc d)(ht:P.underlying t=some (.slice e))(hc:P.cellsOf e=c)(hb:1<=P.bytesOf e)(hw:BN P t d)
  (hR:∀ cs (d:DataW H),Rd P h e cs d->BN P e d->∃ a,R h cs a):∃ av l,dc=[av]/\BE c R h av l/\(l.length:Int)<=1152921504606846976:=by
 subst hc;rcases zE4 r ht with⟨rfl,_⟩|⟨a,sp,rfl,_⟩|⟨g,cells,elems,sp,rfl,rfl,hg,hn,hl,hm,hr⟩
 ·exact⟨_,[],rfl,BE.nil,by simp⟩
 ·exact⟨_,[],rfl,⟨[],⟨by simp,.inl ⟨rfl,.inr ⟨_,_,rfl⟩⟩⟩,fun i a ha=>by simp at ha⟩,by simp⟩
 ·obtain⟨w1,w2⟩:=zF5 ht hw;obtain⟨l,h1,h2⟩:=zOz (p:=fun i a=>R h ((cells.drop (i*P.cellsOf e)).take (P.cellsOf e)) a) elems.length fun i hi=>hR _ _ (hr i _ (QB hi)) (w2 i _ (QB hi));refine⟨_,l,rfl,⟨cells,⟨by rw[h1];exact hl,.inr ⟨g,0,cells,by rw[h1],by simp[yj,hg],?_,hn⟩⟩,h2⟩,?_⟩
  ·rw[h1,<-hl];simp[cut,QH (QE _)]
  ·have:elems.length<=elems.length*P.bytesOf e:=Nat.le_mul_of_pos_right _ hb;unfold reachBytes at w1;rw[h1];omega
theorem zFJ{t e:TypeId}{dc:List Value}{d:DataW H}(r:Rd P h t dc d)(ht:P.underlying t=some (.slice e))(he:P.underlying e=some (.int .i64))(hc:P.cellsOf e=1)(hb:1<=P.bytesOf e)(hw:BN P t d):
  ∃ av l,dc=[av]/\WQ h av l/\(l.length:Int)<=1152921504606846976/\∀ a∈l,(Lit.int .i64 a).wf=true:=by
 obtain⟨av,l,h1,h2,_,h4⟩:=zPE r ht he hc;refine⟨av,l,h1,h2,?_,h4⟩;rcases zE4 r ht with⟨rfl,_⟩|⟨a,sp,rfl,_⟩|⟨g,cells,elems,sp,rfl,rfl,_⟩
 ·cases h1;have:=h2.len (P:=P) (ih:=Ex.bot) (t:= .leaf) (x:= .const (.slice none 0 0)) rfl;rcases h2 with⟨_,⟨h0,_⟩|⟨g,off,row,hv,_⟩⟩
  ·omega
  ·cases hv
 ·cases h1;rcases h2 with⟨_,⟨h0,_⟩|⟨g,off,row,hv,_⟩⟩
  ·omega
  ·injection hv with _ e2 _;omega
 ·cases h1;obtain⟨w1,_⟩:=zF5 ht hw;have hle:elems.length<=elems.length*P.bytesOf e:=Nat.le_mul_of_pos_right _ hb;unfold reachBytes at w1;rcases h2 with⟨_,⟨h0,_⟩|⟨g,off,row,hv,_⟩⟩
  ·omega
  ·injection hv with _ e2 _;omega
theorem Yi{t:TypeId}{fs:Array Field}{dc:List Value}{d:DataW H}(r:Rd P h t dc d)(ht:P.underlying t=some (.struct fs))(hw:BN P t d):
  dc.length=P.cellsOf t/\∀ (i:Nat) (f:Field),fs[i]?=some f->∃ d:DataW H,Rd P h f.type ((dc.drop f.offset).take (P.cellsOf f.type)) d/\BN P f.type d:=by
 cases r with
 |int n aR wf=>rw[ht]at aR;cases aR
 |bool _ aR=>rw[ht]at aR;cases aR
 |string _ aR=>rw[ht]at aR;cases aR
 |snil aR=>rw[ht]at aR;cases aR
 |szero a sp aR=>rw[ht]at aR;cases aR
 |slice g cells elems sp aR hg hn hl hm hr=>rw[ht]at aR;cases aR
 |array _ _ aR=>rw[ht]at aR;cases aR
 |struct cells parts aR hl hp hr=>
  rw[ht]at aR;cases aR;refine⟨hl,fun i f hf=> ?_⟩;have hi:i<parts.length:=by rw[hp];exact(G1.1 hf).1
  exact⟨_,hr i f _ hf (QB hi),zIs ht hw i f _ hf (QB hi)⟩
end
section
variable {H:Type}{P:Program}{h:WA}
end
def Wz(h:WA)(g:Nat)(o:Ws):Prop:=g<h.n/\h.get g=some o
def zJ4:Ws->Bool
 | .loop .. | .deferred .. =>true
 |_=>false
theorem Wz.ext{h h':WA}{g:Nat}{o:Ws}(k:Wz h g o)(e:Ext h h'):Wz h' g o:=⟨QI k.1 e.n,(e.get g k.1).trans k.2⟩
theorem Wz.updC{h0 h h':WA}{g:Nat}{o:Ws}{p:Value}{cs:List Value}(k:Wz h g o)(hr:zJ4 o=true)(w:WB h0 h p cs)(u:Wm p h h'):Wz h' g o:=by
 refine⟨QI k.1 u.1,(u.2 g k.1 fun e=> ?_).trans k.2⟩;obtain⟨g2,_,_,rfl,hg⟩:=w;cases e;have:=k.2;rw[hg]at this;cases this;cases hr
theorem Wz.upd{h0 h h':WA}{g:Nat}{o:Ws}{v:Value}{xs:List Int}(k:Wz h g o)(hr:zJ4 o=true)(w:WL h0 h v xs)(u:Bh v h h'):Wz h' g o:=by
 refine⟨QI k.1 u.1,(u.2 g k.1 fun a n c hv e=> ?_).trans k.2⟩;rcases w with⟨rfl,_⟩|⟨g2,_,_,rfl,hg⟩
 ·cases hv
 ·cases hv;simp only at e;subst e;have:=k.2;rw[hg]at this;cases this;cases hr
theorem Wz.set{h:WA}{g l:Nat}{o p:Ws}(k:Wz h g o)(aq:g≠l):Wz (h.set l p) g o:=⟨k.1,by rw[zg,QC aq];exact k.2⟩
theorem Wz.self{h:WA}{g:Nat}{o p:Ws}(k:Wz h g o):Wz (h.set g p) g p:=⟨k.1,by rw[zg,QF rfl]⟩
theorem WB.setR{h0 h:WA}{p:Value}{cs:List Value}{l:Nat}{o o':Ws}(w:WB h0 h p cs)(k:Wz h l o)(hr:zJ4 o=true):WB h0 (h.set l o') p cs:=by
 obtain⟨g,a,b,c,d⟩:=w;refine⟨g,a,b,c,?_⟩;rw[zg,QC (fun e=> ?_)]
 ·exact d
 ·subst e;have:=k.2;rw[d]at this;cases this;cases hr
theorem WL.setR{h0 h:WA}{v:Value}{xs:List Int}{l:Nat}{o o':Ws}(w:WL h0 h v xs)(k:Wz h l o)(hr:zJ4 o=true):WL h0 (h.set l o') v xs:=by
 rcases w with w|⟨g,a,b,c,d⟩
 ·exact .inl w
 ·refine .inr ⟨g,a,b,c,?_⟩;rw[zg,QC (fun e=> ?_)]
  ·exact d
  ·subst e;have:=k.2;rw[d]at this;cases this;cases hr
theorem zw{t:WG Value}{d:Option Nat}{g:Option (Nat×Bool)}{f:Operand}{args:List Operand}:zl t ⟨d,g,.call f args⟩=none:=by
 unfold zl;cases zV t g<;>rfl
section
variable {P:Program}{tab:Wy}{m N0 g:Nat}{un:List Nat}{t:WG Value}{h h':WA}{x:WF×List Nat}{l:List (WF×List Nat)}{fr:WR}{Q:WR->WA->Prop}
theorem nE{d:Option Nat}{gd:Option (Nat×Bool)}{f:Operand}{as:List Operand}(e:Ext (inC h) h')(hx:Wb P tab m N0 (x::l) g true fr (inC h') Q):WO P tab [] fr h' (uK2 P tab m N0 un t ⟨d,gd,.call f as⟩ (inC h) (x::l) g true Q):=WO.nil (zPz e zw hx)
theorem nQ{cl:Bool}{o:WF}(hx:Wb P tab m N0 l g cl fr (inC h) Q):WO P tab [] fr (inC h) (uK2 P tab m N0 [] t o (inC h) l g cl Q):=WO.nil (zPx hx)
end
section
variable {P:Program}{tab:Wy}
attribute [local semireducible] WX WV WC Ev
def zQr(l:Nat)(Q:Value->WA->Prop):WP->WR->WA->Prop
 | .normal,fr,h2=>fr.dfs=[]/\∃ r2,Wz h2 l (.loop r2)/\Q (.bool true) (h2.set l (.loop {r2 with state:= .ready,pending:=none}))
 |_,_,_=>False
def zPC(P:Program)(tab:Wy)(l:Nat)(r:W4)(h0:WA)(Q:Value->WA->Prop):WP->WR->WA->Prop
 | .normal,fr,h=>h=h0/\WX P tab r.body fr (h.set l (.loop {r with state:= .busy})) (zQr l Q)
 |_,_,_=>False
theorem WV.yield{l args h Q a b}{r:W4}(hl:Wz h l (.loop r))(hr:r.state=.ready)(hn:Nat.beq args.length r.params.length=true)
  (hx:WX P tab r.assign ⟨zD1 r.params args r.tm,[],some l⟩ h (zPC P tab l r h Q)):WV P tab (.func (.yield l) a b) args h Q:=by
 obtain⟨e,fr,h1,k,ev⟩:=hx;cases e with
 |normal=>
  obtain⟨rfl,e2,lr,h2,k2,eE⟩:=k;cases e2 with
  |normal=>
   obtain⟨kd,r2,df,hq⟩:=k2;refine⟨_,_,hq,(ev.and eE).mono fun n ⟨x1,x2⟩=> ?_⟩;have h1:=hl.2;have h2:=df.2;simp only[zBZ,h1,hn,cond_true,zDf,x1,hr,x2,kd,h2,Z7]
  |exit i=>exact k2.elim
  |goto i=>exact k2.elim
  |ret=>exact k2.elim
 |exit i=>exact k.elim
 |goto i=>exact k.elim
 |ret=>exact k.elim
def zOH(t:WG Value)(ps:List Nat)(a b:WY)(d:Nat):W4:={state:= .ready,pending:=none,fn:=0,tm:=t,params:=ps,assign:=a,body:=b,defers:=d}
def zDs(h:WA)(t:WG Value)(ps:List Nat)(a b:WY):WA:=(h.push (.deferred (some []))).push (.loop (zOH t ps a b h.n))
theorem zLi(h:WA)(t ps a b):Ext h (zDs h t ps a b):=((Ext.refl h).push _).push _
theorem zKn(h:WA)(t ps a b):Wz (zDs h t ps a b) h.n (.deferred (some [])):=by
 refine⟨by simp[zDs,WA.push];omega,?_⟩;unfold zDs;rw[zS,QC (by simp[WA.push]),zS,QF rfl]
theorem zJo(h:WA)(t ps a b):Wz (zDs h t ps a b) (h.n+1) (.loop (zOH t ps a b h.n)):=by
 refine⟨by simp[zDs,WA.push],?_⟩;unfold zDs;rw[zS,QF (by simp[WA.push])]
theorem XO{f ps a b t ds h K}(hx:WV P tab (ev t f) [.func (.yield (h.n+1)) #[] #[]] (zDs h t ps a b) fun _ h2=>∃ r,Wz h2 (h.n+1) (.loop r)/\r.state=.ready/\r.pending=none/\
   K .normal ⟨t,{target:= .collected h.n,args:=#[]}::ds,none⟩ (h2.set (h.n+1) (.loop {r with state:= .exhausted}))):WX P tab (.rangeFunc f ps a b) ⟨t,ds,none⟩ h K:=by
 obtain⟨v,h2,⟨r,hl,hs,hp,hk⟩,ev⟩:=hx;refine⟨_,_,_,hk,Ev.up (ev.mono fun n e=> ?_)⟩;rw[zx];simp only[zv,zCU,zA0];have hn:(h.push (.deferred (some []))).n=h.n+1:=rfl;have e':zBZ (BI P tab n) (Am.ev t f) [.func (.yield (h.push (.deferred (some []))).n) #[] #[]] ((h.push (.deferred (some []))).push (.loop {state:= .ready,pending:=none,fn:=0,tm:=t,params:=ps,assign:=a,body:=b,defers:=h.n}))=some (v,h2):=e;rw[e'];have df:=hl.2;simp only[hn,df,hs,hp,List.singleton_append]
theorem zHs{rs Q t rd h g}(hg:Wz h g (.deferred (some [])))(hx:zEe P tab rs Q .ret ⟨t,[],rd⟩ (h.set g (.deferred none))):zEe P tab rs Q .ret ⟨t,[{target:= .collected g,args:=#[]}],rd⟩ h:=by
 unfold zEe at *;exact WD.collected hg.2 hx
theorem Ve{h:WA}{t:WG Value}{j n:Nat}{p v:Value}{h0:WA}{cs:List Value}{rs:List (Nat×Option (Bool×Nat))}{vs:List Value}(s:Wt t j p)(o:WB h0 h p cs)(hr:(cut cs 0 n).bind (zO false)=some v)(k:BQ h t rs vs):BQ h t ((j,some (false,n))::rs) (v::vs):=by
 obtain⟨g,_,_,rfl,hg⟩:=o;unfold BQ at *;unfold Wt at s;simp only[yY,zAQ,s,Za hg,Qp,cond_true,Qb,hr,k]
structure Ready(r:W4)(t:WG Value)(ps:List Nat)(a b:WY):Prop where
 st:r.state=.ready
 pd:r.pending=none
 tm:r.tm=t
 ps:r.params=ps
 as:r.assign=a
 bd:r.body=b
def busy(r:W4):W4:={r with state:= .busy}
def zQq(L:Nat)(r:W4)(Q:Value->WA->Prop):WP->WR->WA->Prop
 | .normal,fr,h2=>fr.dfs=[]/\Wz h2 L (.loop (busy r))/\Q (.bool true) (h2.set L (.loop r))
 |_,_,_=>False
theorem zDk{L r Q t rd h}(hl:Wz h L (.loop (busy r)))(hq:Q (.bool true) (h.set L (.loop r))):zQq L r Q .normal ⟨t,[],rd⟩ h:=⟨rfl,hl,hq⟩
def zRb(P:Program)(tab:Wy)(L:Nat)(r:W4)(b:WY)(h:WA)(Q:Value->WA->Prop):WP->WR->WA->Prop
 | .normal,fr,h'=>h'=h/\WX P tab b fr (h.set L (.loop (busy r))) (zQq L r Q)
 |_,_,_=>False
theorem zDz{L r b h Q fr}(hx:∀ h',h'=h.set L (.loop (busy r))->WX P tab b fr h' (zQq L r Q)):zRb P tab L r b h Q .normal fr h:=⟨rfl,hx _ rfl⟩
theorem V1{L args h Q t ps a b x y}{r:W4}(hl:Wz h L (.loop r))(hr:Ready r t ps a b)(hn:Nat.beq args.length ps.length=true)
  (hx:WX P tab a ⟨zD1 ps args t,[],some L⟩ h (zRb P tab L r b h Q)):WV P tab (.func (.yield L) x y) args h Q:=by
 obtain⟨h1,h2,rfl,rfl,rfl,rfl⟩:=hr;refine WV.yield hl h1 hn ?_;refine WX.mono hx fun e fr h' k=> ?_;cases e with
 |normal=>
  refine⟨k.1,?_⟩;obtain⟨e1,k⟩:=k;subst e1;refine WX.mono k fun e fr h' k=> ?_;cases e with
  |normal=>
   obtain⟨k1,k2,k3⟩:=k;refine⟨k1,_,k2,?_⟩;have:({busy r with state:= .ready,pending:=none}:W4)=r:=by
    cases r;simp only[busy]at *;simp_all
   rw[this];exact k3
  |exit i=>exact k.elim
  |goto i=>exact k.elim
  |ret=>exact k.elim
 |exit i=>exact k.elim
 |goto i=>exact k.elim
 |ret=>exact k.elim
theorem Vz{f ps a b t ds h K}{fv:Value}(hx:∀ (L g:Nat) (r:W4) (hO:WA),Ready r t ps a b->Ext h hO->h.n<=L->h.n<=g->Wz hO L (.loop r)->Wz hO g (.deferred (some []))->
   WV P tab fv [.func (.yield L) #[] #[]] hO fun _ h2=>Wz h2 L (.loop r)/\∀ r3,K .normal ⟨t,{target:= .collected g,args:=#[]}::ds,none⟩ (h2.set L (.loop r3))) (hf:WM t f fv:=by exact zi):WX P tab (.rangeFunc f ps a b) ⟨t,ds,none⟩ h K:=by
 refine XO ?_;have hf:Am.ev t f=fv:=hf;rw[hf];refine WV.mono (hx (h.n+1) h.n _ _ ⟨rfl,rfl,rfl,rfl,rfl,rfl⟩ (zLi h t ps a b) (Qr _) (QE _) (zJo ..) (zKn ..)) fun _ h2 ⟨k1,k2⟩=> ?_;exact⟨_,k1,rfl,rfl,k2 _⟩
end
structure WK(p:Prop):Prop where
 out:p
def swp(xs:List Int)(i j:Int):List Int:=(xs.set i.toNat (xs.getD j.toNat 0)).set j.toNat (xs.getD i.toNat 0)
abbrev WZ(xs:List Int)(i:Int):Int:=xs.getD i.toNat 0
theorem zJU(xs:List Int)(i j:Int):(swp xs i j).length=xs.length:=by simp[swp]
theorem zBz{xs:List Int}{i:Nat}{v:Int}{k:Nat}(hi:i<xs.length):(xs.set i v).getD k 0=if k=i then v else xs.getD k 0:=by
 simp only[QG,List.getElem?_set];by_cases h:i=k
 ·subst h;simp[hi]
 ·rw[QC h,QC (fun e=>h e.symm)]
theorem yy{xs:List Int}{i j k:Int}(hi:0<=i/\i<xs.length)(hj:0<=j/\j<xs.length)(hk:0<=k):WZ (swp xs i j) k=if k=j then WZ xs i else if k=i then WZ xs j else WZ xs k:=by
 unfold WZ swp;rw[zBz (by simp;omega),zBz (by omega)];have e1:(k.toNat=j.toNat)↔k=j:=by omega
 have e2:(k.toNat=i.toNat)↔k=i:=by omega
 simp only[e1,e2]
theorem zDP(c v:Int):∀ (xs:List Int) (i:Nat),i<xs.length->(xs.set i v).count c+(if xs.getD i 0=c then 1 else 0)=xs.count c+(if v=c then 1 else 0)
 |[],i,h=>by simp at h
 |x::xs,0,_=>by
  simp only[List.set_cons_zero,List.count_cons,List.getD_cons_zero,beq_iff_eq];omega
 |x::xs,i+1,h=>by
  have:=zDP c v xs i (by simpa using h);simp only[List.set_cons_succ,List.count_cons,List.getD_cons_succ,beq_iff_eq]at *;omega
theorem zMM{xs:List Int}{i j:Int}(hi:0<=i/\i<xs.length)(hj:0<=j/\j<xs.length):(swp xs i j).Perm xs:=by
 rw[List.perm_iff_count];intro c;have h1:=zDP c (xs.getD j.toNat 0) xs i.toNat (by omega);have h2:=zDP c (xs.getD i.toNat 0) (xs.set i.toNat (xs.getD j.toNat 0)) j.toNat (by simp;omega);rw[zBz (by omega)]at h2;unfold swp;by_cases e:j.toNat=i.toNat
 ·rw[QF e]at h2;rw[e]at h1 h2 |-;omega
 ·rw[QC e]at h2;omega
structure PI(a b:Int)(xs ys:List Int):Prop where
 len:ys.length=xs.length
 perm:ys.Perm xs
 out:∀ k:Int,0<=k->(k<a\/b<=k)->WZ ys k=WZ xs k
theorem PI.refl(a b:Int)(xs:List Int):PI a b xs xs:=⟨rfl,.refl _,fun _ _ _=>rfl⟩
theorem PI.trans{a b:Int}{xs ys zs:List Int}(h:PI a b xs ys)(k:PI a b ys zs):PI a b xs zs:=⟨k.len.trans h.len,k.perm.trans h.perm,fun i h0 hi=>(k.out i h0 hi).trans (h.out i h0 hi)⟩
theorem PI.mono{a b a' b':Int}{xs ys:List Int}(h:PI a b xs ys)(ha:a'<=a)(hb:b<=b'):PI a' b' xs ys:=⟨h.len,h.perm,fun k h0 hk=>h.out k h0 (by omega)⟩
theorem PI.swp{a b i j:Int}{xs:List Int}(h0:0<=a)(hb:b<=xs.length)(hi:a<=i/\i<b)(hj:a<=j/\j<b):PI a b xs (swp xs i j):=
 ⟨zJU ..,zMM (by omega) (by omega),fun k hk ho=>by rw[yy (by omega) (by omega) hk,QC (by omega),QC (by omega)]⟩
theorem zFH(xs:List Int)(a b:Nat)(du:a<=b):xs=xs.take a++((xs.drop a).take (b-a)++xs.drop b):=by
 have:xs.drop b=(xs.drop a).drop (b-a):=by rw[List.drop_drop];congr 1;omega
 rw[this,GS,GS]
theorem zDC{xs ys:List Int}(hl:xs.length=ys.length)(h:∀ k:Nat,k<xs.length->xs.getD k 0=ys.getD k 0):xs=ys:=by
 apply G6 hl;intro i h1 h2;have:=h i h1;simpa [List.getD,QB h1,QB h2]using this
theorem PI.all{a b:Int}{xs ys:List Int}(h:PI a b xs ys)(h0:0<=a)(hb:b<=xs.length){p:Int->Prop}(hp:∀ k,a<=k->k<b->p (WZ xs k)):∀ k,a<=k->k<b->p (WZ ys k):=by
 intro k dj aS;obtain⟨A,rfl⟩:∃ A:Nat,a=A:=⟨a.toNat,by omega⟩;obtain⟨B,rfl⟩:∃ B:Nat,b=B:=⟨b.toNat,by omega⟩;have hl:=h.len;have e1:=zFH xs A B (by omega);have e2:=zFH ys A B (by omega);have t1:ys.take A=xs.take A:=zDC (by simp[hl]) fun k hk=>by
  have bK:k<A:=by simp at hk;omega
  have:=h.out (k:Int) (by omega) (by omega);simpa [WZ,QG,GM,bK]using this
 have t2:ys.drop B=xs.drop B:=zDC (by simp[hl]) fun k hk=>by
  have:=h.out ((B+k:Nat):Int) (by omega) (by omega);simp only[WZ,QL]at this;simpa [QG,Gf]using this
 have f9:=h.perm;rw[e1,e2,t1,t2]at f9;have hs:=(List.perm_append_right_iff _).1 ((List.perm_append_left_iff _).1 f9);have aw:WZ ys k∈(ys.drop A).take (B-A):=by
  rw[Gt];refine⟨k.toNat-A,?_⟩;rw[GM,QF (by omega),Gf,show A+(k.toNat-A)=k.toNat by omega];unfold WZ;rw[QG,QB (by omega)];rfl
 obtain⟨m,hm⟩:=Gt.1 (hs.mem_iff.1 aw);rw[GM]at hm;split at hm
 ·rename_i aL;rw[Gf]at hm;have:=hp ((A+m:Nat):Int) (by omega) (by omega);unfold WZ at this;rw[QL,QG,hm]at this;exact this
 ·cases hm
def Bn(a b:Int)(xs:List Int):Prop:=∀ i j:Int,a<=i->i<=j->j<b->WZ xs i<=WZ xs j
theorem Vb{a b:Int}{xs:List Int}(h:b<=a+1):Bn a b xs:=fun i j h1 h2 h3=>by
 have:i=j:=by omega
 subst this;exact Ql _
theorem zIy{xs ys:List Int}(h:ys.Perm xs)(s:Bn 0 ys.length ys):ys=xs.mergeSort (fun a b=>decide (a<=b)):=by
 have hp:ys.Pairwise (fun a b=>decide (a<=b)=true):=by
  rw[List.pairwise_iff_getElem];intro i j hi hj ly;have:=s (i:Int) (j:Int) (by omega) (by omega) (by omega);simp only[WZ,QL,QG,QB hi,QB hj,GB]at this;simpa using this
 refine List.Perm.eq_of_pairwise (le:=fun a b=>decide (a<=b)=true) (fun a b _ _ h1 h2=> ?_) hp ?_ (h.trans (List.mergeSort_perm xs _).symm)
 ·simp only[Qd]at h1 h2;omega
 ·exact List.pairwise_mergeSort (fun a b c h1 h2=>by simp only[Qd]at *;omega) (fun a b=>by simp only[GN,Qd];omega) xs
theorem zBX(h:WA):outC h (inC (zB 0 h))=h:=rfl
theorem zHh{a i j:Int}{zs:List Int}(h0:0<=a)(hj:a<j)(Ew:j<=i)(dG:i<zs.length)(aL:WZ zs j<WZ zs (j-1))(r:∀ p q,a<=p->p<=q->q<=i->q≠j->WZ zs p<=WZ zs q):∀ p q,a<=p->p<=q->q<=i->q≠j-1->WZ (swp zs j (j-1)) p<=WZ (swp zs j (j-1)) q:=by
 intro p q h1 h2 h3 h4;rw[yy (by omega) (by omega) (by omega),yy (by omega) (by omega) (by omega),QC h4];by_cases hq:q=j
 ·rw[QF hq];by_cases hp:p=j-1
  ·rw[QF hp];omega
  ·rw[QC hp];by_cases cU:p=j
   ·rw[QF cU];exact Ql _
   ·rw[QC cU];exact r p (j-1) h1 (by omega) (by omega) (by omega)
 ·rw[QC hq];by_cases hp:p=j-1
  ·rw[QF hp];exact r j q (by omega) (by omega) h3 hq
  ·rw[QC hp];by_cases cU:p=j
   ·rw[QF cU];exact r (j-1) q (by omega) (by omega) h3 hq
   ·rw[QC cU];exact r p q h1 h2 h3 hq
theorem Bh.trans{v:Value}{h h1 h2:WA}(a:Bh v h h1)(b:Bh v h1 h2):Bh v h h2:=⟨QP a.1 b.1,fun g hg hv=>(b.2 g (QI hg a.1) hv).trans (a.2 g hg hv)⟩
theorem Bh.refl(v:Value)(h:WA):Bh v h h:=⟨QE _,fun _ _ _=>rfl⟩
structure SS(hB h:WA)(v:Value)(a b:Int)(xs ys:List Int)(h1:WA):Prop where
 own:Wq hB h1 v ys
 ext:Ext hB h1
 upd:Bh v h h1
 pi:PI a b xs ys
theorem VZ{hB h:WA}{v:Value}{xs:List Int}(a b:Int)(o:Wq hB h v xs)(e:Ext hB h):SS hB h v a b xs xs h:=⟨o,e,Bh.refl v h,PI.refl ..⟩
theorem SS.swp{hB h h1 h3:WA}{v:Value}{a b i j:Int}{xs ys:List Int}(s:SS hB h v a b xs ys h1)(e3:Ext hB h3)(o3:Wq hB h3 v (swp ys i j))(u3:Bh v h1 h3)(h0:0<=a)(hb:b<=xs.length)(hi:a<=i/\i<b)(hj:a<=j/\j<b):SS hB h v a b xs (swp ys i j) h3:=
 ⟨o3,e3,s.upd.trans u3,s.pi.trans (PI.swp h0 (by rw[s.pi.len];exact hb) hi hj)⟩
theorem SS.call{hB h h1 h2:WA}{v:Value}{a b c d:Int}{xs ys zs:List Int}(s:SS hB h v a b xs ys h1)(k:SS hB h1 v c d ys zs h2)(ha:a<=c)(hb:d<=b):SS hB h v a b xs zs h2:=
 ⟨k.own,k.ext,s.upd.trans k.upd,s.pi.trans (k.pi.mono ha hb)⟩
theorem Wm.trans{p:Value}{h h1 h2:WA}(a:Wm p h h1)(b:Wm p h1 h2):Wm p h h2:=⟨QP a.1 b.1,fun g hg hv=>(b.2 g (QI hg a.1) hv).trans (a.2 g hg hv)⟩
theorem SS.extd{hB h h1 h2:WA}{v:Value}{a b:Int}{xs ys:List Int}(s:SS hB h v a b xs ys h1)(e:Ext h1 h2):SS hB h v a b xs ys h2:=
 ⟨s.own.ext e,s.ext.trans e,s.upd.trans ⟨e.n,fun g hg _=>e.get g hg⟩,s.pi⟩
theorem SS.updC{hB h h1 h2:WA}{v:Value}{a b:Int}{xs ys:List Int}{g:Nat}(s:SS hB h v a b xs ys h1)(o:Wq hB h v xs)(hg:h.n<=g)(e:Ext hB h2)(u:Wm (.pointer (some ⟨g,0,none⟩)) h1 h2):SS hB h v a b xs ys h2:=by
 obtain⟨q,q1,q2,qv,q3⟩:=s.own;obtain⟨q',_,NA,Ke,_⟩:=o;rw[qv,s.pi.len]at Ke;cases Ke;refine⟨⟨q,q1,QI q2 u.1,qv,(u.2 q q2 fun e=>by cases e;omega).trans q3⟩,e,⟨QP s.upd.1 u.1,fun k hk hv=>(u.2 k (QI hk s.upd.1) fun e=>by cases e;omega).trans (s.upd.2 k hk hv)⟩,s.pi⟩
theorem WB.updV{hB hA h h1 h2:WA}{v:Value}{xs:List Int}{g:Nat}{cs:List Value}(w:WB hA h1 (.pointer (some ⟨g,0,none⟩)) cs)(o:Wq hB h v xs)(hg:h.n<=g)(u:Bh v h1 h2):WB hA h2 (.pointer (some ⟨g,0,none⟩)) cs:=by
 obtain⟨q',_,NA,rfl,_⟩:=o;obtain⟨g',g1,g2,gv,g3⟩:=w;cases gv;exact⟨g,g1,QI g2 u.1,rfl,(u.2 g g2 fun a n c e=>by cases e;simp only;omega).trans g3⟩
theorem WB.offC{hA h h':WA}{p:Value}{cs:List Value}{g4:Nat}(o:WB hA h p cs)(u:Wm (.pointer (some ⟨g4,0,none⟩)) h h')(hg:g4<hA.n):WB hA h' p cs:=by
 obtain⟨g,g1,g2,rfl,g3⟩:=o;exact⟨g,g1,QI g2 u.1,rfl,(u.2 g g2 fun e=>by cases e;omega).trans g3⟩
theorem WL.offC{hA h h':WA}{v:Value}{xs:List Int}{g4:Nat}(o:WL hA h v xs)(u:Wm (.pointer (some ⟨g4,0,none⟩)) h h')(hg:g4<hA.n):WL hA h' v xs:=by
 rcases o with o|⟨g,g1,g2,rfl,g3⟩
 ·exact .inl o
 ·exact .inr ⟨g,g1,QI g2 u.1,rfl,(u.2 g g2 fun e=>by cases e;omega).trans g3⟩
theorem Wm.setL{p:Value}{h h':WA}{L:Nat}{o:Ws}(u:Wm p h h')(hL:h.n<=L):Wm p h (h'.set L o):=⟨u.1,fun g hg hv=>by rw[zg,QC (by omega)];exact u.2 g hg hv⟩
theorem Wm.extd{p:Value}{h h' h2:WA}(u:Wm p h h')(e:Ext h' h2):Wm p h h2:=⟨QP u.1 e.n,fun g hg hv=>(e.get g (QI hg u.1)).trans (u.2 g hg hv)⟩
theorem Wm.upd{p w:Value}{h h' h2:WA}{xs:List Int}(u:Wm p h h')(o:WL h h' w xs)(u2:Bh w h' h2):Wm p h h2:=⟨QP u.1 u2.1,fun g hg hv=>by
 refine(u2.2 g (QI hg u.1) fun a n c e=> ?_).trans (u.2 g hg hv);rcases o with⟨rfl,_⟩|⟨q,q1,_,rfl,_⟩
 ·cases e
 ·cases e;simp only;omega⟩
theorem Wm.refl(p:Value)(h:WA):Wm p h h:=⟨QE _,fun _ _ _=>rfl⟩
theorem Wq.rebase{hA hB h:WA}{g n k:Nat}{xs:List Int}(o:Wq hA h (.slice (some ⟨g,0,none⟩) n k) xs)(hg:hB.n<=g):Wq hB h (.slice (some ⟨g,0,none⟩) n k) xs:=by
 obtain⟨q,q1,q2,qv,q3⟩:=o;cases qv;exact⟨g,hg,q2,rfl,q3⟩
theorem SS.len{hB h h1:WA}{v:Value}{a b:Int}{xs ys:List Int}(k:SS hB h v a b xs ys h1):ys.length=xs.length:=k.pi.len
section
variable {P:Program}{tab:Wy}{t:WG Value}{ds:List Deferred}{rd:Option Nat}
theorem Xz{N0 g d:Nat}{cl:Bool}{x y z w u:Operand}{v:Value}{xs:List Int}{i j:Nat}{h0 hS:WA}{K:WP->WR->WA->Prop}{va vb:Int}(o:Wq h0 hS v xs)(e0:Ext h0 hS)(hm:hS.mark<=h0.n)
  (hx:ev t x=yB v i) (hy:ev t y=I va) (hi:i<xs.length) (hj:j<xs.length) (hz:ev t z=v) (hw:BO (ev t w)=some j) (hu:ev (t.set d (yB v j)) u=I vb)
  (k:∀ h1,Ext h0 h1->Wq h0 h1 v ((xs.set i va).set j vb)->Bh v hS h1->K .normal ⟨t.set d (yB v j),ds,rd⟩ h1):
  Wb P tab hS.mark N0 [(⟨none,none,.store 1 x y⟩,[]),(⟨some d,none,.idx 1 z w⟩,[]),(⟨none,none,.store 1 (.tmp d) u⟩,[])] g cl ⟨t,ds,rd⟩ (inC (zB 0 hS)) (Bt K hS):=by
 obtain⟨q,g1,g2,rfl,g3⟩:=o;rw[Wb,QC (show ¬Nat.beq (zI (Wx.store 1 x y)) 3=true from Bool.noConfusion)];have xq:zr (inC (inC (zB 0 hS))) ⟨q,i,none⟩ [I va]=some ((inC (inC (zB 0 hS))).set q (.row (zh (xs.map I) i [I va]) true 0)):=by
  have h1:Nat.ble (i+1) (xs.map I).length=true:=QH (by simp;omega);have h0:Nat.ble 0 i=true:=QH (QK _);have sQ:(inC (inC (zB 0 hS))).get q=some (.row (xs.map I) true 0):=g3;simp only[zr,sQ,QV,h1,h0,Qv];rfl
 rw[zAh _ _ _ hi]at xq;have hc:∀ a,(I a).cells=#[I a]:=fun _=>rfl;refine VP undef ((inC (inC (zB 0 hS))).set q (.row ((xs.set i va).map I) true 0)) rfl (by
  simp only[WN,hx,yB,hy,GH,hc,xq,QJ];rfl) ?_
 refine WO.nil ⟨⟨fun k hk=> ?_,QE _,.inl rfl⟩,?_⟩
 ·have aS:k∈(inC (inC (zB 0 hS))).log q:=hk;rcases yc aS with rfl|cg
  ·omega
  ·cases cg
 generalize qI:(inC (inC (zB 0 hS))).set q (.row ((xs.set i va).map I) true 0)=h1;have n1:h1.n=hS.n:=by rw[<-qI];rfl
 have aH:∀ k,h1.get k=if k=q then some (.row ((xs.set i va).map I) true 0)else hS.get k:=fun k=>by
  rw[<-qI,zg];rfl
 rw[Wb,QC (show ¬Nat.beq (zI (Wx.idx 1 z w)) 3=true from Bool.noConfusion)];have hb:Nat.ble (j+1) xs.length=true:=QH hj;refine WO.op (yB (.slice (some ⟨q,0,none⟩) xs.length 1) j) (inC h1) rfl (by
  have iK:ev t z=.slice (some ⟨q,0,none⟩) xs.length 1:=hz;simp[WN,iK,hw,hb,yB]) ?_
 refine WO.nil ⟨⟨fun k hk=>(by cases hk),QE _,.inl rfl⟩,?_⟩;rw[Wb,QC (show ¬Nat.beq (zI (Wx.store 1 (.tmp d) u)) 3=true from Bool.noConfusion)];have xr:zr (inC (inC h1)) ⟨q,j,none⟩ [I vb]=some ((inC (inC h1)).set q (.row (zh ((xs.set i va).map I) j [I vb]) true 0)):=by
  have Kf:Nat.ble (j+1) ((xs.set i va).map I).length=true:=QH (by simp;omega);have h0:Nat.ble 0 j=true:=QH (QK _);have sQ:(inC (inC h1)).get q=some (.row ((xs.set i va).map I) true 0):=by
   have:=aH q;rw[QF rfl]at this;exact this
  simp only[zr,sQ,QV,Kf,h0,Qv];rfl
 rw[zAh _ _ _ (by simp;omega)]at xr;refine VP undef ((inC (inC h1)).set q (.row (((xs.set i va).set j vb).map I) true 0)) rfl (by
  have e1:ev (t.set d (yB (.slice (some ⟨q,0,none⟩) xs.length 1) j)) (.tmp d)=yB (.slice (some ⟨q,0,none⟩) xs.length 1) j:=by simp only[ev,zb,Q6]
  have hp:yB (.slice (some ⟨q,0,none⟩) xs.length 1) j=.pointer (some ⟨q,j,none⟩):=by simp[yB]
  rw[hp]at e1 hu;rw[hp];simp only[WN,e1,hu,hc,xr,QJ];rfl) ?_
 refine WO.nil ⟨⟨fun k hk=> ?_,QE _,.inl rfl⟩,?_⟩
 ·have aS:k∈(inC (inC h1)).log q:=hk;rcases yc aS with rfl|cg
  ·omega
  ·cases cg
 have bG:∀ k,(outC hS ((inC (inC h1)).set q (.row (((xs.set i va).set j vb).map I) true 0))).get k=if k=q then some (.row (((xs.set i va).set j vb).map I) true 0)else hS.get k:=fun k=>by
  have e1:((inC (inC h1)).set q (.row (((xs.set i va).set j vb).map I) true 0)).get k=if k=q then some (.row (((xs.set i va).set j vb).map I) true 0)else(inC (inC h1)).get k:=zg ..;have e2:(inC (inC h1)).get k=h1.get k:=rfl;have e3:(outC hS ((inC (inC h1)).set q (.row (((xs.set i va).set j vb).map I) true 0))).get k=((inC (inC h1)).set q (.row (((xs.set i va).set j vb).map I) true 0)).get k:=rfl;rw[e3,e1,e2,aH];by_cases e:k=q<;>simp[e]
 have nn:(outC hS ((inC (inC h1)).set q (.row (((xs.set i va).set j vb).map I) true 0))).n=hS.n:=n1;refine k (outC hS ((inC (inC h1)).set q (.row (((xs.set i va).set j vb).map I) true 0))) ?_ ?_ ?_
 ·refine⟨by rw[nn];exact e0.n,fun c hc=>by rw[bG,QC (by omega)];exact e0.get c hc,fun w c hc=> ?_,e0.mark,fun cT=>e0.wr cT⟩;rw[nn]at hc;rw[bG,QC (by omega)];exact e0.wf w c hc
 ·exact⟨q,g1,by rw[nn];exact g2,by simp,by rw[bG,QF rfl]⟩
 ·exact⟨by rw[nn];exact QE _,fun c _ hc=>by rw[bG,QC (fun e=>hc _ _ _ rfl e.symm)]⟩
theorem UD{y:Operand}{n:Int}(h:WM t y (I n))(hn:0<=n):BO (ev t y)=some n.toNat:=by
 unfold WM at h;rw[h];obtain⟨k,rfl⟩:∃ k:Nat,n=k:=⟨n.toNat,by omega⟩;rfl
theorem VU{N0 g d:Nat}{cl:Bool}{x y z w u:Operand}{v:Value}{xs:List Int}{h0 hS:WA}{K:WP->WR->WA->Prop}(i j:Int)(o:Wq h0 hS v xs)(e0:Ext h0 hS)(hm:hS.mark<=h0.n)
  (k:∀ h1,Ext h0 h1->Wq h0 h1 v (swp xs i j)->Bh v hS h1->K .normal ⟨t.set d (yB v j.toNat),ds,rd⟩ h1)
  (hi:0<=i/\i<xs.length:=by omega) (hj:0<=j/\j<xs.length:=by omega)
  (hx:WM t x (yB v i.toNat):=by exact zi) (hy:WM t y (I (WZ xs j)):=by exact zi) (hz:WM t z v:=by exact zi) (hw:WM t w (I j):=by exact zi) (hu:WM (t.set d (yB v j.toNat)) u (I (WZ xs i)):=by exact zi):
  Wb P tab hS.mark N0 [(⟨none,none,.store 1 x y⟩,[]),(⟨some d,none,.idx 1 z w⟩,[]),(⟨none,none,.store 1 (.tmp d) u⟩,[])] g cl ⟨t,ds,rd⟩ (inC (zB 0 hS)) (Bt K hS):=
 Xz o e0 hm hx hy (by omega) (by omega) hz (UD hw hj.1) hu k
theorem VL{c:WY}{h:WA}{K:WP->WR->WA->Prop}{ws:List Nat}(M:WG Value->WA->Prop)(h1:WX P tab c ⟨t,ds,rd⟩ h (zMg M ds rd K))(h2:∀ t' h',zCB ws t t'->M t' h'->K .normal ⟨t',ds,rd⟩ h')(hw:yJ c=ws:=by conv=>(lhs;reduce)):WX P tab c ⟨t,ds,rd⟩ h K:=
 (WX.frame h1).mono fun e fr h ⟨hf,hx⟩=>by
  unfold zMg at hx;cases e with
  |normal=>
   obtain⟨t',eS,xo⟩:=fr;obtain⟨e1,e2,e3⟩:=hx;simp only at e1 e2 e3;subst e1 e2;exact h2 _ _ (fun j hj=>hf j (by rw[hw];intro hc;have:=ZJ hj;simp[hc]at this)) e3
  |exit i=>exact hx
  |goto i=>exact hx
  |ret=>exact hx
theorem WO.bin{d:Nat}{op:BinOp}{x y:Operand}{vx vy v:Value}{h:WA}{l:List WF}{Q:WR->WA->Prop}(hx:WM t x vx)(hy:WM t y vy)(e:ZF op vx vy=some v)(k:WO P tab l ⟨t.set d v,ds,rd⟩ h Q):WO P tab (⟨some d,none,.bin op x y⟩::l) ⟨t,ds,rd⟩ h Q:=
 Xv (by
  have hx:ev t x=vx:=hx;have hy:ev t y=vy:=hy;simp only[WN,hx,hy,e,QJ]) k
theorem UK{d:Nat}{x i:Operand}{s:ByteArray}{m:Int}{kk:IntKind}{n:Nat}{b:UInt8}{h:WA}{l:List WF}{Q:WR->WA->Prop}(hb:s[n]?=some b)(hn:BO (.int kk m)=some n)(k:WO P tab l ⟨t.set d (.int .u8 b.toNat),ds,rd⟩ h Q)(hx:WM t x (.string s):=by exact WM.const)(hi:WM t i (.int kk m):=by exact zi):WO P tab (⟨some d,none,.elemStr x i⟩::l) ⟨t,ds,rd⟩ h Q:=
 Xv (by
  have hx:ev t x=.string s:=hx;have hi:ev t i=.int kk m:=hi;simp only[WN,hx,hi,hn,hb]) k
theorem WO.quo{d:Nat}{x:Operand}{a c:Int}{h:WA}{l:List WF}{Q:WR->WA->Prop}(hc:c≠0)(h1: -9223372036854775808<=a.tdiv c)(h2:a.tdiv c<=9223372036854775807)(k:WO P tab l ⟨t.set d (I (a.tdiv c)),ds,rd⟩ h Q)(hx:WM t x (I a):=by exact zi):WO P tab (⟨some d,none,.bin .quo x (.const (I c))⟩::l) ⟨t,ds,rd⟩ h Q:=
 WO.bin hx (vy:=I c) rfl (by simp only[ZF,Q6,QC hc,zFS h1 h2]) k
theorem Yx{n:Int}(h1:0<=n)(h2:n<18446744073709551616):IntKind.wrap .u64 n=n:=by
 simp[IntKind.wrap,IntKind.signed,IntKind.bits];omega
theorem zQc{n:Int}(h1:0<=n)(h2:n<256):IntKind.wrap .u8 n=n:=by
 simp[IntKind.wrap,IntKind.signed,IntKind.bits];omega
theorem zRu{n:Int}{kk:IntKind}(h:0<=n):ZF .shr (.int .u64 n) (.int kk 16)=some (.int .u64 (n / 65536)):=by
 have e:(min (16:Int).toNat IntKind.u64.bits)=16:=rfl;simp only[ZF,e];rw[QC (by decide),Int.fdiv_eq_ediv_of_nonneg _ (by decide)];rfl
theorem zRv{n:Int}{kk:IntKind}(h:0<=n):ZF .shr (.int .u64 n) (.int kk 8)=some (.int .u64 (n / 256)):=by
 have e:(min (8:Int).toNat IntKind.u64.bits)=8:=rfl;simp only[ZF,e];rw[QC (by decide),Int.fdiv_eq_ediv_of_nonneg _ (by decide)];rfl
theorem zOo(y:Int){m:Int}(h:0<=m/\m<=9223372036854775807):∃ r:Int,ZF .and (.int .u64 y) (.int .u64 m)=some (.int .u64 r)/\0<=r/\r<=m:=by
 have hb:(BitVec.ofInt 64 m).toNat=m.toNat:=by
  rw[BitVec.toNat_ofInt];omega
 have hle:(BitVec.ofInt 64 y&&& BitVec.ofInt 64 m).toNat<=m.toNat:=by
  rw[BitVec.toNat_and,hb];exact Nat.and_le_right
 refine⟨((BitVec.ofInt 64 y&&& BitVec.ofInt 64 m).toNat:Int),?_,by omega,by omega⟩;simp only[ZF,Q6,IntKind.bits];rw[Yx (by omega) (by omega)];rfl
theorem V4{N0 g n:Nat}{cl:Bool}{x y:Operand}{p v:Value}{cells:List Value}{h0 hS:WA}{K:WP->WR->WA->Prop}(cs:List Value)(o:WB h0 hS p cells)(e0:Ext h0 hS)(hm:hS.mark<=h0.n)
  (k:∀ h1,Ext h0 h1->WB h0 h1 p cs->Wm p hS h1->K .normal ⟨t,ds,rd⟩ h1) (hx:WM t x p:=by exact zi) (hy:WM t y v:=by exact zi) (hv:v.cells=cs.toArray:=by rfl) (h1:zL cs=true:=by rfl) (hn:cs.length=n:=by rfl) (hl:cells.length=n:=by rfl):
  Wb P tab hS.mark N0 [(⟨none,none,.store n x y⟩,[])] g cl ⟨t,ds,rd⟩ (inC (zB 0 hS)) (Bt K hS):=by
 obtain⟨q,g1,g2,rfl,g3⟩:=o;subst hn;have hx:ev t x=.pointer (some ⟨q,0,none⟩):=hx;have hy:ev t y=v:=hy;rw[Wb,QC (show ¬Nat.beq (zI (Wx.store cs.length x y)) 3=true from Bool.noConfusion)];have aX:zr (inC (inC (zB 0 hS))) ⟨q,0,none⟩ cs=some ((inC (inC (zB 0 hS))).set q (.row cs true 0)):=by
  have h2:Nat.ble (0+cs.length) cells.length=true:=QH (by omega);have h3:Nat.ble 0 0=true:=rfl;have h4:zh cells 0 cs=cs:=by simp[zh,hl]
  have sQ:(inC (inC (zB 0 hS))).get q=some (.row cells true 0):=g3;simp only[zr,sQ,h2,h3,h1,h4,Qp,Qv,cond_true]
 refine VP undef ((inC (inC (zB 0 hS))).set q (.row cs true 0)) rfl (by
  simp only[WN,hx,hy,hv,Gc,GR,aX,QJ,cond_true]) ?_
 refine WO.nil ⟨⟨fun k hk=> ?_,QE _,.inl rfl⟩,?_⟩
 ·have aS:k∈(inC (inC (zB 0 hS))).log q:=hk;rcases yc aS with rfl|cg
  ·omega
  ·cases cg
 have bG:∀ k,(outC hS ((inC (inC (zB 0 hS))).set q (.row cs true 0))).get k=if k=q then some (.row cs true 0)else hS.get k:=fun k=>by
  have e1:((inC (inC (zB 0 hS))).set q (.row cs true 0)).get k=if k=q then some (.row cs true 0)else(inC (inC (zB 0 hS))).get k:=zg ..;exact e1
 refine k (outC hS ((inC (inC (zB 0 hS))).set q (.row cs true 0))) ?_ ?_ ?_
 ·refine⟨e0.n,fun c hc=>by rw[bG,QC (by omega)];exact e0.get c hc,fun w c hc=> ?_,e0.mark,fun cT=>e0.wr cT⟩;have hc:hS.n<=c:=hc;rw[bG,QC (by omega)];exact e0.wf w c hc
 ·exact⟨q,g1,g2,rfl,by rw[bG,QF rfl]⟩
 ·exact⟨QE _,fun c _ hc=>by rw[bG,QC (fun e=>hc (by rw[e]))]⟩
theorem zGi{C D:Prop}[Decidable C][Decidable D](h:C):decide (C/\D)=decide D:=by simp[h]
theorem zCa{C D:Prop}[Decidable C][Decidable D](h:C):decide (C/\¬D)= !decide D:=by simp[h]
end
end Go.Am
