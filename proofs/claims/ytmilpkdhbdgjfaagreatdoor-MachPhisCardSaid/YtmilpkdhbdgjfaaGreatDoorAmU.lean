/- A part of the machine and of its soundness; proves no statement. -/
import Derived.Test.YtmilpkdhbdgjfaaGreatDoorAmR
set_option linter.all false
namespace Go.Am
def oV(a b:WU):WU:= .seq a b
def oJ(c:Nat)(a b:WU):WU:= .cond (.tmp c) a b
def o5(n:Nat)(a:WU):WU:= .block n a
def o6(l:List (WG×List Nat)):WU:= .regionC l
instance:Coe WG (WG×List Nat):=⟨fun o=>(o,[])⟩
def Wq(t:WI Value)(k:Nat)(v:Value):Prop:=zC t k=v
def WQ(t:WI Value)(x:Operand)(v:Value):Prop:=ev t x=v
def zHt(j:Nat):List Nat->Bool
 |[]=>true
 |k::l=>bif Nat.beq j k then false else zHt j l
def zHS(ws:List Nat)(t0 t:WI Value):Prop:=∀ j,zHt j ws=true->zC t j=zC t0 j
theorem Wq.here{t:WI Value}{k:Nat}{v:Value}:Wq (t.set k v) k v:=by unfold Wq;rw[yH,QG rfl]
theorem Va{t:WI Value}{k j:Nat}{v w:Value}(hn:Nat.beq j k=false)(s:Wq t j v):Wq (t.set k w) j v:=by
 unfold Wq at *;rw[yH,QC (fun e=>by subst e;simp at hn)];exact s
theorem Wq.same{ws t0 t j v}(hs:zHS ws t0 t)(hn:zHt j ws=true)(s:Wq t0 j v):Wq t j v:=(hs j hn).trans s
theorem WQ.tmp{t k v}(s:Wq t k v):WQ t (.tmp k) v:=s
theorem WQ.const{t v}:WQ t (.const v) v:=rfl
theorem WQ.fn{t f}:WQ t (.func f) (.func (.func f) #[] #[]):=rfl
theorem XB{t g}:WQ t (.global g) (.pointer (some ⟨g,0,none⟩)):=rfl
def Bb(t:WI Value)(xs:List Operand)(vs:List Value):Prop:=xs.map (ev t)=vs
theorem Bb.nil{t}:Bb t [] []:=rfl
theorem Bb.cons{t x xs v vs}(h:WQ t x v)(k:Bb t xs vs):Bb t (x::xs) (v::vs):=by unfold Bb WQ at *;simp[h,k]
def SC(n:Int)(i:Nat):Prop:=BH (I n)=some i
theorem Ud{i:Nat}:SC (i:Int) i:=rfl
theorem SC.lit{n:Int}{i:Nat}(h:n=(i:Int)):SC n i:=by subst h;rfl
theorem SC.int{n:Int}(h:0<=n):SC n n.toNat:=by
 obtain⟨i,rfl⟩:=Int.eq_ofNat_of_zero_le h;rfl
def BA(t:WI Value)(ps:List (Nat×Nat×Operand))(vs:List (Nat×Nat×Value)):Prop:=zr t ps=vs
theorem BA.nil{t}:BA t [] []:=rfl
theorem BA.cons{t a b x ps v vs}(h:WQ t x v)(k:BA t ps vs):BA t ((a,b,x)::ps) ((a,b,v)::vs):=by unfold BA WQ at *;unfold zr at *;simp[h,k]
theorem Z4{j:Nat}:∀ {l:List Nat},zHt j l=true->l.contains j=false
 |[],_=>rfl
 |k::l,h=>by
  unfold zHt at h;cases hb:Nat.beq j k with
  |true=>rw[hb]at h;cases h
  |false=>
   rw[hb]at h;have:=Z4 (l:=l) h;simp only[List.contains_cons,this,Qp];have:j≠k:=fun e=>by subst e;simp at hb
   simpa using this
theorem YZ{t k v}(h:Wq t k v:=by(repeat (first|((with_reducible apply Va);rfl)|((with_reducible apply Wq.same);(with_reducible assumption);rfl)));first|with_reducible exact Wq.here|with_reducible assumption|(unfold Wq;with_reducible assumption)):Wq t k v:=h
theorem zP{t x v}(h:WQ t x v:=by first|with_reducible exact WQ.const|((with_reducible apply WQ.tmp);(repeat (first|((with_reducible apply Va);rfl)|((with_reducible apply Wq.same);(with_reducible assumption);rfl)));first|with_reducible exact Wq.here|with_reducible assumption|(unfold Wq;with_reducible assumption))|with_reducible exact WQ.fn|with_reducible exact XB|fail):WQ t x v:=h
theorem zJm{t xs vs}(h:Bb t xs vs:=by(repeat (apply Bb.cons;(exact zP)));exact Bb.nil):Bb t xs vs:=h
theorem zQ4{b:Bool}(h:b=false):(!b)=true:=by rw[h];rfl
theorem zQ0{b:Bool}(h:b=true):(!b)=false:=by rw[h];rfl
theorem DB:(∀ a:Prop,∀ [Decidable a],(decide a=true)=a)/\(∀ a:Prop,∀ [Decidable a],(decide a=false)=¬a)/\(∀ b:Bool,((!b)=true)=(b=false))/\(∀ b:Bool,((!b)=false)=(b=true))/\
  (∀ a b:Bool,((a||b)=true)=(a=true\/b=true))/\(∀ a b:Bool,((a&&b)=true)=(a=true/\b=true))/\(∀ a b:Bool,((a||b)=false)=(a=false/\b=false))/\(∀ a b:Bool,((a&&b)=false)=(a=false\/b=false))/\
  (∀ a b:Int,(¬a<b)=(b<=a))/\(∀ a b:Int,(¬a<=b)=(b<a))/\((true=true)=True)/\((false=false)=True)/\((true=false)=False)/\((false=true)=False):=
 ⟨fun a _=>by simp,fun a _=>by simp,fun b=>by simp,fun b=>by simp,fun a b=>by simp,fun a b=>by simp,fun a b=>by simp,fun a b=>by cases a<;>cases b<;>simp,fun a b=>by simp,fun a b=>by simp,by simp,by simp,by simp,by simp⟩
theorem zFi{p:Prop}(h:p:=by first|with_reducible rfl|with_reducible exact Qa|with_reducible exact QS|with_reducible assumption|exact QX (by first|with_reducible assumption|omega)|exact QW (by first|with_reducible assumption|omega)|exact zQ4 (by first|with_reducible assumption|exact QW (by first|with_reducible assumption|omega)|fail)|exact zQ0 (by first|with_reducible assumption|exact QX (by first|with_reducible assumption|omega)|fail)|(simp only[DB, *];done)|fail):p:=h
theorem zHG{p:Prop}(h:p:=by first|omega|with_reducible assumption|(simp only[GR,GL,QT,JA,Gh]at *;omega)):p:=h
theorem zLp{n:Int}{i:Nat}(h:SC n i:=by first|exact Ud|exact SC.lit rfl|exact SC.int (by omega)|fail):SC n i:=h
theorem zPx{h:WF}{v:Value}{xs:List Int}(s:Wd h v xs:=by first|with_reducible assumption|exact Wd.ext (by with_reducible assumption) (by with_reducible assumption)|exact Wn.sl (by with_reducible assumption)|exact Wb.sl (by with_reducible assumption)|fail):Wd h v xs:=s
theorem zIy{o:Option Value}{r:Value}(h:o=some r:=by first|exact(rfl:_=some (Value.agg #[_,_]))|exact(rfl:_=some (Value.agg #[_,_,_]))|exact(rfl:_=some (Value.agg #[_,_,_,_]))|exact(rfl:_=some (Value.agg #[_,_,_,_,_]))|exact(rfl:_=some (Value.agg #[_,_,_,_,_,_]))|exact(rfl:_=some (Value.agg #[_,_,_,_,_,_,_]))|exact(rfl:_=some (Value.agg #[_,_,_,_,_,_,_,_]))|exact(rfl:_=some (Value.agg #[_,_,_,_,_,_,_,_,_,_]))|rfl):o=some r:=h
theorem zQz{o:Option (List Value)}{r:List Value}(h:o=some r:=by first|exact(rfl:_=some [_,_])|exact(rfl:_=some [_,_,_])|exact(rfl:_=some [_,_,_,_])|exact(rfl:_=some [_,_,_,_,_])|exact(rfl:_=some [_,_,_,_,_,_])|exact(rfl:_=some [_,_,_,_,_,_,_])|exact(rfl:_=some [_,_,_,_,_,_,_,_])|rfl):o=some r:=h
def zJB(v:Value):Prop:=∃ a k m,v=.slice (some a) k m
section
variable {P:Program}{tab:Wv}{ds:List Deferred}{rd:Option Nat}
variable {h:WF}{l:List WG}{t:WI Value}{Q:WR->WF->Prop}
theorem R.mov{d:Nat}{x:Operand}{v:Value}(hx:WQ t x v)(k:WO P tab l ⟨t.set d v,ds,rd⟩ h Q):WO P tab (⟨some d,none,.mov x⟩::l) ⟨t,ds,rd⟩ h Q:=
 WO.op _ _ rfl (by unfold WQ at *;simp only[WN,hx]) k
theorem R.add{d:Nat}{x y:Operand}{a b:Int}(hx:WQ t x (I a))(hy:WQ t y (I b))(h1: -9223372036854775808<=a+b)(h2:a+b<=9223372036854775807)(k:WO P tab l ⟨t.set d (I (a+b)),ds,rd⟩ h Q):WO P tab (⟨some d,none,.bin .add x y⟩::l) ⟨t,ds,rd⟩ h Q:=
 WO.op _ _ rfl (by unfold WQ at *;simp only[WN,hx,hy,I,zNQ,QH];rw[zEb h1 h2]) k
theorem R.sub{d:Nat}{x y:Operand}{a b:Int}(hx:WQ t x (I a))(hy:WQ t y (I b))(h1: -9223372036854775808<=a-b)(h2:a-b<=9223372036854775807)(k:WO P tab l ⟨t.set d (I (a-b)),ds,rd⟩ h Q):WO P tab (⟨some d,none,.bin .sub x y⟩::l) ⟨t,ds,rd⟩ h Q:=
 WO.op _ _ rfl (by unfold WQ at *;simp only[WN,hx,hy,I,zMt,QH];rw[zEb h1 h2]) k
theorem R.mul{d:Nat}{x y:Operand}{a b:Int}(hx:WQ t x (I a))(hy:WQ t y (I b))(h1: -9223372036854775808<=a*b)(h2:a*b<=9223372036854775807)(k:WO P tab l ⟨t.set d (I (a*b)),ds,rd⟩ h Q):WO P tab (⟨some d,none,.bin .mul x y⟩::l) ⟨t,ds,rd⟩ h Q:=
 WO.op _ _ rfl (by unfold WQ at *;simp only[WN,hx,hy,I,zNn,QH];rw[zEb h1 h2]) k
theorem R.lss{d:Nat}{x y:Operand}{a b:Int}{kk:IntKind}(hx:WQ t x (.int kk a))(hy:WQ t y (.int kk b))(k:WO P tab l ⟨t.set d (.bool (decide (a<b))),ds,rd⟩ h Q):WO P tab (⟨some d,none,.bin .lss x y⟩::l) ⟨t,ds,rd⟩ h Q:=
 WO.op _ _ rfl (by unfold WQ at *;simp only[WN,hx,hy,zNU,QH]) k
theorem R.leq{d:Nat}{x y:Operand}{a b:Int}{kk:IntKind}(hx:WQ t x (.int kk a))(hy:WQ t y (.int kk b))(k:WO P tab l ⟨t.set d (.bool (decide (a<=b))),ds,rd⟩ h Q):WO P tab (⟨some d,none,.bin .leq x y⟩::l) ⟨t,ds,rd⟩ h Q:=
 WO.op _ _ rfl (by unfold WQ at *;simp only[WN,hx,hy,zNc,QH]) k
theorem R.gtr{d:Nat}{x y:Operand}{a b:Int}{kk:IntKind}(hx:WQ t x (.int kk a))(hy:WQ t y (.int kk b))(k:WO P tab l ⟨t.set d (.bool (decide (b<a))),ds,rd⟩ h Q):WO P tab (⟨some d,none,.bin .gtr x y⟩::l) ⟨t,ds,rd⟩ h Q:=
 WO.op _ _ rfl (by unfold WQ at *;simp only[WN,hx,hy,zMq,QH]) k
theorem R.geq{d:Nat}{x y:Operand}{a b:Int}{kk:IntKind}(hx:WQ t x (.int kk a))(hy:WQ t y (.int kk b))(k:WO P tab l ⟨t.set d (.bool (decide (b<=a))),ds,rd⟩ h Q):WO P tab (⟨some d,none,.bin .geq x y⟩::l) ⟨t,ds,rd⟩ h Q:=
 WO.op _ _ rfl (by unfold WQ at *;simp only[WN,hx,hy,zLw,QH]) k
theorem R.eql{d:Nat}{x y:Operand}{a b:Int}{kk:IntKind}(hx:WQ t x (.int kk a))(hy:WQ t y (.int kk b))(k:WO P tab l ⟨t.set d (.bool (decide (a=b))),ds,rd⟩ h Q):WO P tab (⟨some d,none,.bin .eql x y⟩::l) ⟨t,ds,rd⟩ h Q:=
 WO.op _ _ rfl (by unfold WQ at *;simp only[WN,hx,hy,zMH,QH]) k
theorem R.neq{d:Nat}{x y:Operand}{a b:Int}{kk:IntKind}(hx:WQ t x (.int kk a))(hy:WQ t y (.int kk b))(k:WO P tab l ⟨t.set d (.bool (!decide (a=b))),ds,rd⟩ h Q):WO P tab (⟨some d,none,.bin .neq x y⟩::l) ⟨t,ds,rd⟩ h Q:=
 WO.op _ _ rfl (by unfold WQ at *;simp only[WN,hx,hy,zMM,QH]) k
theorem R.not{d:Nat}{x:Operand}{b:Bool}(hx:WQ t x (.bool b))(k:WO P tab l ⟨t.set d (.bool (!b)),ds,rd⟩ h Q):WO P tab (⟨some d,none,.un .not x⟩::l) ⟨t,ds,rd⟩ h Q:=
 WO.op _ _ rfl (by unfold WQ at *;simp only[WN,hx,unV,QH]) k
theorem U1{d:Nat}{x y:Operand}{a b:Bool}(hx:WQ t x (.bool a))(hy:WQ t y (.bool b))(k:WO P tab l ⟨t.set d (.bool (a == b)),ds,rd⟩ h Q):WO P tab (⟨some d,none,.binB false x y⟩::l) ⟨t,ds,rd⟩ h Q:=
 WO.op _ _ rfl (by unfold WQ at *;simp only[WN,hx,hy];rfl) k
theorem U5{d:Nat}{x y:Operand}{a b:Bool}(hx:WQ t x (.bool a))(hy:WQ t y (.bool b))(k:WO P tab l ⟨t.set d (.bool (a != b)),ds,rd⟩ h Q):WO P tab (⟨some d,none,.binB true x y⟩::l) ⟨t,ds,rd⟩ h Q:=
 WO.op _ _ rfl (by unfold WQ at *;simp only[WN,hx,hy];rfl) k
theorem Xb{d:Nat}{x:Operand}{n:Int}{k2:IntKind}(hx:WQ t x (.int k2 n))(h1: -9223372036854775808<=n)(h2:n<=9223372036854775807)(k:WO P tab l ⟨t.set d (I n),ds,rd⟩ h Q):WO P tab (⟨some d,none,.conv .i64 x⟩::l) ⟨t,ds,rd⟩ h Q:=
 WO.op _ _ rfl (by unfold WQ at *;simp only[WN,hx,I];rw[zEb h1 h2]) k
theorem R.conv{d:Nat}{x:Operand}{n:Int}{kk k2:IntKind}(hx:WQ t x (.int k2 n))(k:WO P tab l ⟨t.set d (.int kk (kk.wrap n)),ds,rd⟩ h Q):WO P tab (⟨some d,none,.conv kk x⟩::l) ⟨t,ds,rd⟩ h Q:=
 WO.op _ _ rfl (by unfold WQ at *;simp only[WN,hx]) k
theorem UY{d:Nat}{c x y:Operand}{v:Value}{b:Bool}(hc:WQ t c (.bool b))(hb:b=true)(hx:WQ t x v)(k:WO P tab l ⟨t.set d v,ds,rd⟩ h Q):WO P tab (⟨some d,none,.pick c x y⟩::l) ⟨t,ds,rd⟩ h Q:=
 WO.op _ _ rfl (by unfold WQ at *;subst hb;simp only[WN,hc,hx,Q9]) k
theorem Ui{d:Nat}{c x y:Operand}{v:Value}{b:Bool}(hc:WQ t c (.bool b))(hb:b=false)(hy:WQ t y v)(k:WO P tab l ⟨t.set d v,ds,rd⟩ h Q):WO P tab (⟨some d,none,.pick c x y⟩::l) ⟨t,ds,rd⟩ h Q:=
 WO.op _ _ rfl (by unfold WQ at *;subst hb;simp only[WN,hc,hy,Qs,G1]) k
theorem Xn{d:Nat}{x:Operand}{v0 v1:Value}(hx:WQ t x (.tuple #[v0,v1]))(k:WO P tab l ⟨t.set d v0,ds,rd⟩ h Q):WO P tab (⟨some d,none,.extract x 0⟩::l) ⟨t,ds,rd⟩ h Q:=
 WO.op _ _ rfl (by unfold WQ at *;simp only[WN,hx];rfl) k
theorem Xj{d:Nat}{x:Operand}{v0 v1:Value}(hx:WQ t x (.tuple #[v0,v1]))(k:WO P tab l ⟨t.set d v1,ds,rd⟩ h Q):WO P tab (⟨some d,none,.extract x 1⟩::l) ⟨t,ds,rd⟩ h Q:=
 WO.op _ _ rfl (by unfold WQ at *;simp only[WN,hx];rfl) k
theorem Xf{d:Nat}{x:Operand}{v0 v1 v2:Value}(hx:WQ t x (.tuple #[v0,v1,v2]))(k:WO P tab l ⟨t.set d v0,ds,rd⟩ h Q):WO P tab (⟨some d,none,.extract x 0⟩::l) ⟨t,ds,rd⟩ h Q:=
 WO.op _ _ rfl (by unfold WQ at *;simp only[WN,hx];rfl) k
theorem X0{d:Nat}{x:Operand}{v0 v1 v2:Value}(hx:WQ t x (.tuple #[v0,v1,v2]))(k:WO P tab l ⟨t.set d v1,ds,rd⟩ h Q):WO P tab (⟨some d,none,.extract x 1⟩::l) ⟨t,ds,rd⟩ h Q:=
 WO.op _ _ rfl (by unfold WQ at *;simp only[WN,hx];rfl) k
theorem Xr{d:Nat}{x:Operand}{v0 v1 v2:Value}(hx:WQ t x (.tuple #[v0,v1,v2]))(k:WO P tab l ⟨t.set d v2,ds,rd⟩ h Q):WO P tab (⟨some d,none,.extract x 2⟩::l) ⟨t,ds,rd⟩ h Q:=
 WO.op _ _ rfl (by unfold WQ at *;simp only[WN,hx];rfl) k
theorem UE{d:Nat}{x:Operand}{v0 v1 v2 v3:Value}(hx:WQ t x (.tuple #[v0,v1,v2,v3]))(k:WO P tab l ⟨t.set d v0,ds,rd⟩ h Q):WO P tab (⟨some d,none,.extract x 0⟩::l) ⟨t,ds,rd⟩ h Q:=
 WO.op _ _ rfl (by unfold WQ at *;simp only[WN,hx];rfl) k
theorem Xu{d:Nat}{x:Operand}{v0 v1 v2 v3:Value}(hx:WQ t x (.tuple #[v0,v1,v2,v3]))(k:WO P tab l ⟨t.set d v1,ds,rd⟩ h Q):WO P tab (⟨some d,none,.extract x 1⟩::l) ⟨t,ds,rd⟩ h Q:=
 WO.op _ _ rfl (by unfold WQ at *;simp only[WN,hx];rfl) k
theorem Xo{d:Nat}{x:Operand}{v0 v1 v2 v3:Value}(hx:WQ t x (.tuple #[v0,v1,v2,v3]))(k:WO P tab l ⟨t.set d v2,ds,rd⟩ h Q):WO P tab (⟨some d,none,.extract x 2⟩::l) ⟨t,ds,rd⟩ h Q:=
 WO.op _ _ rfl (by unfold WQ at *;simp only[WN,hx];rfl) k
theorem Xa{d:Nat}{x:Operand}{v0 v1 v2 v3:Value}(hx:WQ t x (.tuple #[v0,v1,v2,v3]))(k:WO P tab l ⟨t.set d v3,ds,rd⟩ h Q):WO P tab (⟨some d,none,.extract x 3⟩::l) ⟨t,ds,rd⟩ h Q:=
 WO.op _ _ rfl (by unfold WQ at *;simp only[WN,hx];rfl) k
theorem R.lenC{d:Nat}{n:Nat}(k:WO P tab l ⟨t.set d (I n),ds,rd⟩ h Q):WO P tab (⟨some d,none,.lenC n⟩::l) ⟨t,ds,rd⟩ h Q:=
 WO.op _ _ rfl (by simp only[WN]) k
theorem R.nil{d:Nat}{x:Operand}{kind:Nat}{neg b:Bool}{v:Value}(hx:WQ t x v)(hn:zDK kind v=some b)(k:WO P tab l ⟨t.set d (.bool (if neg then !b else b)),ds,rd⟩ h Q):WO P tab (⟨some d,none,.isNil kind neg x⟩::l) ⟨t,ds,rd⟩ h Q:=
 WO.op _ _ rfl (by unfold WQ at *;simp only[WN,hx,hn,QH]) k
theorem Uy{d:Nat}{x:Operand}{v:Value}{xs:List Int}(hx:WQ t x v)(s:Wd h v xs)(k:WO P tab l ⟨t.set d (I xs.length),ds,rd⟩ h Q):WO P tab (⟨some d,none,.len x⟩::l) ⟨t,ds,rd⟩ h Q:=
 WO.op _ _ rfl (by exact Xz hx s) k
theorem Ux{d:Nat}{x:Operand}{v:Value}{α:Type}{c:Nat}{R:WF->List Value->α->Prop}{xs:List α}(hx:WQ t x v)(s:Ww c R h v xs)(k:WO P tab l ⟨t.set d (I xs.length),ds,rd⟩ h Q):WO P tab (⟨some d,none,.len x⟩::l) ⟨t,ds,rd⟩ h Q:=
 WO.op _ _ rfl (by exact UH hx s) k
theorem Uu{d:Nat}{x y:Operand}{v:Value}{n:Int}{i:Nat}{xs:List Int}(hx:WQ t x v)(hy:WQ t y (I n))(hi:SC n i)(s:Wd h v xs)(hl:i<xs.length)(k:WO P tab l ⟨t.set d (zR v i),ds,rd⟩ h Q):WO P tab (⟨some d,none,.idx 1 x y⟩::l) ⟨t,ds,rd⟩ h Q:=
 WO.op _ _ rfl (by unfold WQ at hy;exact XY hx (by rw[hy];exact hi) s hl) k
theorem Uw{d:Nat}{x y:Operand}{v:Value}{n:Int}{i:Nat}{α:Type}{c:Nat}{R:WF->List Value->α->Prop}{xs:List α}(hx:WQ t x v)(hy:WQ t y (I n))(hi:SC n i)(s:Ww c R h v xs)(hl:i<xs.length)(k:WO P tab l ⟨t.set d (zR v (i*c)),ds,rd⟩ h Q):WO P tab (⟨some d,none,.idx c x y⟩::l) ⟨t,ds,rd⟩ h Q:=
 WO.op _ _ rfl (by unfold WQ at hy;exact Xm hx (by rw[hy];exact hi) s hl) k
theorem US{d:Nat}{x:Operand}{v:Value}{i:Nat}{xs:List Int}(hx:WQ t x (zR v i))(s:Wd h v xs)(hl:i<xs.length)(k:WO P tab l ⟨t.set d (I (xs.getD i 0)),ds,rd⟩ h Q):WO P tab (⟨some d,none,.load false 1 x⟩::l) ⟨t,ds,rd⟩ h Q:=
 WO.op _ _ rfl (by exact XX hx s hl) k
theorem Um{d:Nat}{x:Operand}{v r:Value}{j n off:Nat}{cs:List Value}(hx:WQ t x (zR v (j+off)))(p:Wh h v j cs)(hn:0<n)(hr:(cut cs off n).bind (zI true)=some r)(k:WO P tab l ⟨t.set d r,ds,rd⟩ h Q):WO P tab (⟨some d,none,.load true n x⟩::l) ⟨t,ds,rd⟩ h Q:=
 WO.op _ _ rfl (by exact Wh.load hx p hn hr) k
theorem U6{d:Nat}{x:Operand}{v r:Value}{j n off:Nat}{cs:List Value}(hx:WQ t x (zR v (j+off)))(p:Wh h v j cs)(hn:0<n)(hr:(cut cs off n).bind (zI false)=some r)(k:WO P tab l ⟨t.set d r,ds,rd⟩ h Q):WO P tab (⟨some d,none,.load false n x⟩::l) ⟨t,ds,rd⟩ h Q:=
 WO.op _ _ rfl (by exact Wh.load hx p hn hr) k
theorem Uh{d:Nat}{x:Operand}{v r:Value}{j n:Nat}{cs:List Value}(hx:WQ t x (zR v j))(p:Wh h v j cs)(hn:0<n)(hr:(cut cs 0 n).bind (zI true)=some r)(k:WO P tab l ⟨t.set d r,ds,rd⟩ h Q):WO P tab (⟨some d,none,.load true n x⟩::l) ⟨t,ds,rd⟩ h Q:=
 WO.op _ _ rfl (by exact Vs hx p hn hr) k
theorem Uo{d:Nat}{x:Operand}{v r:Value}{j n:Nat}{cs:List Value}(hx:WQ t x (zR v j))(p:Wh h v j cs)(hn:0<n)(hr:(cut cs 0 n).bind (zI false)=some r)(k:WO P tab l ⟨t.set d r,ds,rd⟩ h Q):WO P tab (⟨some d,none,.load false n x⟩::l) ⟨t,ds,rd⟩ h Q:=
 WO.op _ _ rfl (by exact Vs hx p hn hr) k
theorem R.fldP{d:Nat}{x:Operand}{v:Value}{j off:Nat}(hx:WQ t x (zR v j))(hv:zJB v)(k:WO P tab l ⟨t.set d (zR v (j+off)),ds,rd⟩ h Q):WO P tab (⟨some d,none,.fld off x⟩::l) ⟨t,ds,rd⟩ h Q:=
 WO.op _ _ rfl (by exact Go.Am.fldP hx hv) k
theorem UZ{d:Nat}{x:Operand}{p:Value}{off:Nat}{h0:WF}{cs:List Value}(hx:WQ t x p)(o:WH h0 h p cs)(k:WO P tab l ⟨t.set d (zw p off),ds,rd⟩ h Q):WO P tab (⟨some d,none,.fld off x⟩::l) ⟨t,ds,rd⟩ h Q:=
 WO.op _ _ rfl (by exact XR hx o) k
theorem Uq{d:Nat}{x:Operand}{p:Value}{j off:Nat}{h0:WF}{cs:List Value}(hx:WQ t x (zw p j))(o:WH h0 h p cs)(k:WO P tab l ⟨t.set d (zw p (j+off)),ds,rd⟩ h Q):WO P tab (⟨some d,none,.fld off x⟩::l) ⟨t,ds,rd⟩ h Q:=
 WO.op _ _ rfl (by exact WH.fld hx o) k
theorem Ur{d:Nat}{x y:Operand}{p:Value}{n:Int}{i len:Nat}{kk:IntKind}{h0:WF}{cs:List Value}(hx:WQ t x (zw p 0))(o:WH h0 h p cs)(hy:WQ t y (.int kk n))(hi:SC n i)(hl:i<len)(k:WO P tab l ⟨t.set d (zw p i),ds,rd⟩ h Q):WO P tab (⟨some d,none,.idxArr len 1 x y⟩::l) ⟨t,ds,rd⟩ h Q:=
 WO.op _ _ rfl (by unfold WQ at hx hy;have hi2:BH (ev t y)=some i:=(by rw[hy];exact(by cases n<;>rfl:BH (.int kk n)=BH (I n)).trans hi);have:=WH.idxArr (P:=P) (ih:=Ex.bot) (c:=1) hx hi2 o hl;rwa [Qk,Nat.mul_one]at this) k
theorem UL{d:Nat}{x y:Operand}{p:Value}{n:Int}{i len:Nat}{kk:IntKind}{h0:WF}{cs:List Value}(hx:WQ t x p)(o:WH h0 h p cs)(hy:WQ t y (.int kk n))(hi:SC n i)(hl:i<len)(k:WO P tab l ⟨t.set d (zw p i),ds,rd⟩ h Q):WO P tab (⟨some d,none,.idxArr len 1 x y⟩::l) ⟨t,ds,rd⟩ h Q:=
 WO.op _ _ rfl (by unfold WQ at hx hy;have hi2:BH (ev t y)=some i:=(by rw[hy];exact(by cases n<;>rfl:BH (.int kk n)=BH (I n)).trans hi);have:=Vf (P:=P) (ih:=Ex.bot) (c:=1) hx hi2 o hl;rwa [Nat.mul_one]at this) k
theorem UP{d:Nat}{x y:Operand}{p:Value}{n:Int}{i j len:Nat}{kk:IntKind}{h0:WF}{cs:List Value}(hx:WQ t x (zw p j))(o:WH h0 h p cs)(hy:WQ t y (.int kk n))(hi:SC n i)(hl:i<len)(k:WO P tab l ⟨t.set d (zw p (j+i)),ds,rd⟩ h Q):WO P tab (⟨some d,none,.idxArr len 1 x y⟩::l) ⟨t,ds,rd⟩ h Q:=
 WO.op _ _ rfl (by unfold WQ at hx hy;have hi2:BH (ev t y)=some i:=(by rw[hy];exact(by cases n<;>rfl:BH (.int kk n)=BH (I n)).trans hi);have:=WH.idxArr (P:=P) (ih:=Ex.bot) (c:=1) hx hi2 o hl;rwa [Nat.mul_one]at this) k
theorem Uf{d:Nat}{x:Operand}{p:Value}{q:Nat}{xs:List Int}{h0:WF}(hx:WQ t x (zw p q))(o:WH h0 h p (xs.map I))(hl:q<xs.length)(k:WO P tab l ⟨t.set d (I (xs.getD q 0)),ds,rd⟩ h Q):WO P tab (⟨some d,none,.load false 1 x⟩::l) ⟨t,ds,rd⟩ h Q:=
 WO.op _ _ rfl (by refine WH.load hx o ?_;have h1:(xs.map I).drop q=I xs[q]::(xs.map I).drop (q+1):=(by rw[GK (by simpa using hl),List.getElem_map]);have hc:cut (xs.map I) q 1=some [I (xs.getD q 0)]:=(by rw[yt (by simp;omega),h1];simp[List.getD,QB hl]);rw[hc];rfl) k
theorem XV{d:Nat}{x:Operand}{p r:Value}{n:Nat}{h0:WF}{cs:List Value}(hx:WQ t x p)(o:WH h0 h p cs)(hr:(cut cs 0 n).bind (zI true)=some r)(k:WO P tab l ⟨t.set d r,ds,rd⟩ h Q):WO P tab (⟨some d,none,.load true n x⟩::l) ⟨t,ds,rd⟩ h Q:=
 WO.op _ _ rfl (by exact Vn hx o hr) k
theorem Xg{d:Nat}{x:Operand}{p r:Value}{n:Nat}{h0:WF}{cs:List Value}(hx:WQ t x p)(o:WH h0 h p cs)(hr:(cut cs 0 n).bind (zI false)=some r)(k:WO P tab l ⟨t.set d r,ds,rd⟩ h Q):WO P tab (⟨some d,none,.load false n x⟩::l) ⟨t,ds,rd⟩ h Q:=
 WO.op _ _ rfl (by exact Vn hx o hr) k
theorem UC{d:Nat}{x:Operand}{p r:Value}{n j:Nat}{h0:WF}{cs:List Value}(hx:WQ t x (zw p j))(o:WH h0 h p cs)(hr:(cut cs j n).bind (zI true)=some r)(k:WO P tab l ⟨t.set d r,ds,rd⟩ h Q):WO P tab (⟨some d,none,.load true n x⟩::l) ⟨t,ds,rd⟩ h Q:=
 WO.op _ _ rfl (by exact WH.load hx o hr) k
theorem Ub{d:Nat}{x:Operand}{p r:Value}{n j:Nat}{h0:WF}{cs:List Value}(hx:WQ t x (zw p j))(o:WH h0 h p cs)(hr:(cut cs j n).bind (zI false)=some r)(k:WO P tab l ⟨t.set d r,ds,rd⟩ h Q):WO P tab (⟨some d,none,.load false n x⟩::l) ⟨t,ds,rd⟩ h Q:=
 WO.op _ _ rfl (by exact WH.load hx o hr) k
theorem Ue{d:Nat}{x:Operand}{off n:Nat}{r:Value}{cs:Array Value}(hx:WQ t x (.agg cs))(hr:(cut cs.toList off n).bind (zI true)=some r)(k:WO P tab l ⟨t.set d r,ds,rd⟩ h Q):WO P tab (⟨some d,none,.part true off n x⟩::l) ⟨t,ds,rd⟩ h Q:=
 WO.op _ _ rfl (by unfold WQ at *;simp only[WN,hx,hr,QH]) k
theorem R.part{d:Nat}{x:Operand}{off n:Nat}{r:Value}{cs:Array Value}(hx:WQ t x (.agg cs))(hr:(cut cs.toList off n).bind (zI false)=some r)(k:WO P tab l ⟨t.set d r,ds,rd⟩ h Q):WO P tab (⟨some d,none,.part false off n x⟩::l) ⟨t,ds,rd⟩ h Q:=
 WO.op _ _ rfl (by unfold WQ at *;simp only[WN,hx,hr,QH]) k
theorem Uv{d:Nat}{len c g:Nat}{y:Operand}{n:Int}{i:Nat}{kk:IntKind}(hy:WQ t y (.int kk n))(hi:SC n i)(hl:i<len)(k:WO P tab l ⟨t.set d (.pointer (some ⟨g,0+i*c,none⟩)),ds,rd⟩ h Q):WO P tab (⟨some d,none,.idxArr len c (.global g) y⟩::l) ⟨t,ds,rd⟩ h Q:=
 WO.op _ _ rfl (by unfold WQ at hy;have hb:Nat.ble (i+1) len=true:=QF hl;have hi2:BH (ev t y)=some i:=(by rw[hy];exact(by cases n<;>rfl:BH (.int kk n)=BH (I n)).trans hi);simp only[WN,hi2];simp only[ev,hb,Qf,Qn,cond_true]) k
theorem UQ{d:Nat}{x:Operand}{g off n:Nat}{r:Value}{cells:List Value}(hx:WQ t x (.pointer (some ⟨g,off,none⟩)))(hg:zv h g=some cells)(hr:(cut cells off n).bind (zI true)=some r)(k:WO P tab l ⟨t.set d r,ds,rd⟩ h Q):WO P tab (⟨some d,none,.load true n x⟩::l) ⟨t,ds,rd⟩ h Q:=
 WO.op _ _ rfl (by unfold WQ at *;simp only[WN,hx,hg,Qf,cond_true,QQ,hr,QH]) k
theorem R.agg{d:Nat}{zero:List Value}{parts:List (Nat×Nat×Operand)}{vs:List (Nat×Nat×Value)}{cells:List Value}(hp:BA t parts vs)(hf:y9 zero vs=some cells)(k:WO P tab l ⟨t.set d (.agg cells.toArray),ds,rd⟩ h Q):WO P tab (⟨some d,none,.build zero parts⟩::l) ⟨t,ds,rd⟩ h Q:=
 WO.op _ _ rfl (by unfold BA at hp;simp only[WN,hp,hf,QH]) k
theorem Up{d:Nat}{x:Operand}{p:Value}{h0:WF}{cs:List Value}(hx:WQ t x p)(o:WH h0 h p cs)(k:WO P tab l ⟨t.set d p,ds,rd⟩ h Q):WO P tab (⟨some d,none,.nilCheck x⟩::l) ⟨t,ds,rd⟩ h Q:=
 WO.op _ _ rfl (by unfold WQ at *;obtain⟨g,_,_,rfl,_⟩:=o;simp only[WN,hx,Zv,QH]) k
theorem Ul{d:Nat}{x:Operand}{v:Value}{j:Nat}(hx:WQ t x (zR v j))(hv:zJB v)(k:WO P tab l ⟨t.set d (zR v j),ds,rd⟩ h Q):WO P tab (⟨some d,none,.nilCheck x⟩::l) ⟨t,ds,rd⟩ h Q:=
 WO.op _ _ rfl (by unfold WQ at *;obtain⟨a,_,_,rfl⟩:=hv;simp only[WN,hx,zR,Zv,QH]) k
theorem U8{d:Nat}{x:Operand}{a:Addr}(hx:WQ t x (.pointer (some a)))(k:WO P tab l ⟨t.set d (.pointer (some a)),ds,rd⟩ h Q):WO P tab (⟨some d,none,.nilCheck x⟩::l) ⟨t,ds,rd⟩ h Q:=
 WO.op _ _ rfl (by unfold WQ at *;simp only[WN,hx,Zv,QH]) k
theorem Un{d:Nat}{x:Operand}{m:Value}{es:List (Int×Int)}{h0:WF}(hx:WQ t x m)(o:BJ h0 h m es)(k:WO P tab l ⟨t.set d (I es.length),ds,rd⟩ h Q):WO P tab (⟨some d,none,.lenMap x⟩::l) ⟨t,ds,rd⟩ h Q:=
 WO.op _ _ rfl (by unfold WQ at *;obtain⟨g,c,es',_,_,rfl,hg,he⟩:=o;have hl:es'.length=es.length:=(by have:=congrArg List.length he;simpa using this);simp only[WN,hx,hg,hl]) k
theorem U7{d:Nat}{mm ky:Operand}{z m:Value}{a:Int}{es:List (Int×Int)}{h0:WF}(hx:WQ t mm m)(hk:WQ t ky (I a))(o:BJ h0 h m es)(hl:es.lookup a=none)(k:WO P tab l ⟨t.set d (.tuple #[z,.bool false]),ds,rd⟩ h Q):WO P tab (⟨some d,none,.lookup true z mm ky⟩::l) ⟨t,ds,rd⟩ h Q:=
 WO.op _ _ rfl (by unfold WQ at *;obtain⟨g,c,es',_,_,rfl,hg,he⟩:=o;simp only[WN,hx,hk,hg,zCh 0 he hl,Q9]) k
theorem WA{d:Nat}{mm ky:Operand}{z m:Value}{a v:Int}{es:List (Int×Int)}{h0:WF}(hx:WQ t mm m)(hk:WQ t ky (I a))(o:BJ h0 h m es)(hl:es.lookup a=some v)(k:WO P tab l ⟨t.set d (.tuple #[I v,.bool true]),ds,rd⟩ h Q):WO P tab (⟨some d,none,.lookup true z mm ky⟩::l) ⟨t,ds,rd⟩ h Q:=
 WO.op _ _ rfl (by unfold WQ at *;obtain⟨g,c,es',_,_,rfl,hg,he⟩:=o;obtain⟨j,hj⟩:=zE8 0 he hl;simp only[WN,hx,hk,hg,hj,Q9]) k
theorem U0{d:Nat}{f:FuncId}{xs ys:List Operand}{vs us:List Value}(hx:Bb t xs vs)(hy:Bb t ys us)(k:WO P tab l ⟨t.set d (.func (.func f) vs.toArray us.toArray),ds,rd⟩ h Q):WO P tab (⟨some d,none,.mkFunc (.func f) xs ys⟩::l) ⟨t,ds,rd⟩ h Q:=
 WO.op _ _ rfl (by unfold Bb at *;simp only[WN,hx,hy]) k
theorem WE{d:Option Nat}{j:Nat}{want b:Bool}{op:W4}(s:Wq t j (.bool b))(hb:b=want)(k:WO P tab (⟨d,none,op⟩::l) ⟨t,ds,rd⟩ h Q):WO P tab (⟨d,some (j,want),op⟩::l) ⟨t,ds,rd⟩ h Q:=
 XS (hb▸s) k
theorem U3{d j:Nat}{b:Bool}{op:W4}(s:Wq t j (.bool b))(hb:b=false)(k:WO P tab l ⟨t.set d undef,ds,rd⟩ h Q):WO P tab (⟨some d,some (j,true),op⟩::l) ⟨t,ds,rd⟩ h Q:=by
 subst hb;exact Vx s k
theorem U2{d j:Nat}{b:Bool}{op:W4}(s:Wq t j (.bool b))(hb:b=true)(k:WO P tab l ⟨t.set d undef,ds,rd⟩ h Q):WO P tab (⟨some d,some (j,false),op⟩::l) ⟨t,ds,rd⟩ h Q:=by
 subst hb;exact Vx s k
theorem WB{d j:Nat}{want:Bool}{op:W4}(s:Wq t j undef)(k:WO P tab l ⟨t.set d undef,ds,rd⟩ h Q):WO P tab (⟨some d,some (j,want),op⟩::l) ⟨t,ds,rd⟩ h Q:=
 XQ s k
theorem VH{d:Option Nat}{j:Nat}{want b:Bool}{op:W4}(h1:b=true->WO P tab (⟨d,some (j,want),op⟩::l) ⟨t,ds,rd⟩ h Q)(h2:b=false->WO P tab (⟨d,some (j,want),op⟩::l) ⟨t,ds,rd⟩ h Q)(s:Wq t j (.bool b):=by exact YZ):
  WO P tab (⟨d,some (j,want),op⟩::l) ⟨t,ds,rd⟩ h Q:=by
 cases b with
 |true=>exact h1 rfl
 |false=>exact h2 rfl
theorem VA{d:Nat}{f:FuncId}{args:List Operand}{as:List Value}{R:Value->WF->Prop}(hc:WC P tab f as h R)(k:∀ v h',R v h'->WO P tab l ⟨t.set d v,ds,rd⟩ h' Q)(ha:Bb t args as:=by exact zJm):
  WO P tab (⟨some d,none,.call (.func f) args⟩::l) ⟨t,ds,rd⟩ h Q:=WO.call ha (hc.mono k)
theorem VY{d:Nat}{f:Operand}{fv:Value}{args:List Operand}{as:List Value}{R:Value->WF->Prop}(hc:WV P tab fv as h R)(k:∀ v h',R v h'->WO P tab l ⟨t.set d v,ds,rd⟩ h' Q)(hf:WQ t f fv:=by exact zP)(ha:Bb t args as:=by exact zJm):
  WO P tab (⟨some d,none,.call f args⟩::l) ⟨t,ds,rd⟩ h Q:=UF hf ha (hc.mono k)
theorem VJ{d:Nat}{zero:List Value}(k:∀ p h',WK h h'->WH h h' p zero->WO P tab l ⟨t.set d p,ds,rd⟩ h' Q):WO P tab (⟨some d,none,.alloc zero⟩::l) ⟨t,ds,rd⟩ h Q:=XP k
theorem VF{x y:Operand}{p v:Value}{cells cs:List Value}{n:Nat}{h0:WF}(o:WH h0 h p cells)(e0:WK h0 h)(k:∀ h',WK h0 h'->WH h0 h' p cs->Ws p h h'->WO P tab l ⟨t,ds,rd⟩ h' Q)
  (hx:WQ t x p:=by exact zP) (hy:WQ t y v:=by exact zP) (hv:v.cells=cs.toArray:=by rfl) (hn:cs.length=n:=by rfl) (hl:cells.length=n:=by rfl) (h1:zH cs=true:=by rfl):WO P tab (⟨none,none,.store n x y⟩::l) ⟨t,ds,rd⟩ h Q:=
 XD hx hy hv h1 hn o e0 hl k
theorem Vj{x y:Operand}{p v:Value}{cells cs:List Value}{n j:Nat}{h0:WF}(o:WH h0 h p cells)(e0:WK h0 h)(k:∀ h',WK h0 h'->WH h0 h' p (zO cells j cs)->Ws p h h'->WO P tab l ⟨t,ds,rd⟩ h' Q)
  (hx:WQ t x (zw p j):=by exact zP) (hy:WQ t y v:=by exact zP) (hv:v.cells=cs.toArray:=by rfl) (hn:cs.length=n:=by rfl) (hl:j+n<=cells.length:=by decide) (h1:zH cs=true:=by rfl):WO P tab (⟨none,none,.store n x y⟩::l) ⟨t,ds,rd⟩ h Q:=
 Vq hx hy hv h1 hn o e0 hl k
theorem WO.bl{d n:Nat}{zero:List Value}{parts:List (Nat×Nat×Operand)}{vs:List (Nat×Nat×Value)}(xs:List Int)(k:∀ v h',WK h h'->Wn h h' v xs->WO P tab l ⟨t.set d v,ds,rd⟩ h' Q)
  (hp:BA t parts vs:=by(repeat (apply BA.cons;(exact zP)));exact BA.nil) (hn:xs.length=n:=by rfl) (hf:y9 (zS zero n) vs=some (xs.map I):=by rfl):WO P tab (⟨some d,none,.buildSlice n 1 zero parts⟩::l) ⟨t,ds,rd⟩ h Q:=
 XO xs hn (by unfold BA at hp;rw[hp];exact hf) k
theorem Vb{d:Nat}{x y:Operand}{v w:Value}{xs ys:List Int}{h0:WF}(o:Wb h0 h v xs)(s:Wd h w ys)(e0:WK h0 h)(hr:xs.length+ys.length<=4294967296)(k:∀ v' h',WK h0 h'->Wb h0 h' v' (xs++ys)->WO P tab l ⟨t.set d v',ds,rd⟩ h' Q)
  (hx:WQ t x v:=by exact zP) (hy:WQ t y w:=by exact zP):WO P tab (⟨some d,none,.append 1 x y⟩::l) ⟨t,ds,rd⟩ h Q:=by
 by_cases hne:ys=[]
 ·subst hne;have hsrc:yM 1 h w=some []:=by simpa using ZI s
  have hv:∃ a n k,v=.slice a n k/\(a=none->n=0/\k=0):=by
   rcases o with⟨rfl,_⟩|⟨g,_,_,rfl,_⟩
   ·exact⟨_,_,_,rfl,fun _=>⟨rfl,rfl⟩⟩
   ·exact⟨_,_,_,rfl,fun h=>by cases h⟩
  refine WO.op v h rfl ?_ (k v h e0 (by simpa using o));unfold WQ at hx hy;obtain⟨a,n,kk,rfl,ha⟩:=hv;cases a with
  |none=>obtain⟨rfl,rfl⟩:=ha rfl;simp only[WN,hx,hy,z8,hsrc]
  |some a=>simp only[WN,hx,hy,z8,hsrc]
 ·exact XE hx hy o s e0 hne hr fun v' h' a b _=>k v' h' a (.inr b)
theorem Vl{d:Nat}{op:BinOp}{ty:TypeId}{x y:Operand}{a b v:Value}(hp:zU P (do eqGuard op ty x y a b;binOp op ty a b)=some v)(k:WO P tab l ⟨t.set d v,ds,rd⟩ h Q)
  (hx:WQ t x a:=by exact zP) (hy:WQ t y b:=by exact zP) (hc:(Yb a&&Yb b)=true:=by rfl) (hv:yS v=true:=by rfl):WO P tab (⟨some d,none,.binP op ty x y⟩::l) ⟨t,ds,rd⟩ h Q:=by
 unfold WQ at hx hy;refine WO.op v h rfl ?_ k;simp only[WN,hx,hy,hc,cond_true,hp,hv]
def zQx(M:WI Value->WF->Prop)(ds:List Deferred)(rd:Option Nat):WR->WF->Prop:=fun fr h=>fr.dfs=ds/\fr.round=rd/\M fr.tm h
theorem zBa{ih:Ex}:∀ (a b:List WG) (fr:WR) (h:WF),yT P ih (a++b) fr h=(yT P ih a fr h).bind fun p=>yT P ih b p.1 p.2
 |[],b,fr,h=>rfl
 |o::a,b,fr,h=>by
  simp only[List.cons_append,yT];cases yD P ih o fr h with
  |none=>rfl
  |some p=>obtain⟨fr1,h1⟩:=p;exact zBa a b fr1 h1
theorem VV(n:Nat)(M:WI Value->WF->Prop){ws:List Nat}(h1:WO P tab (l.take n) ⟨t,ds,rd⟩ h (zQx M ds rd))(h2:∀ t' h',zHS ws t t'->M t' h'->WO P tab (l.drop n) ⟨t',ds,rd⟩ h' Q)(hw:(l.take n).filterMap (·.dst)=ws:=by rfl):WO P tab l ⟨t,ds,rd⟩ h Q:=by
 subst hw;unfold WO at h1;obtain⟨fr1,h',⟨q1,q2,q3⟩,ev1⟩:=h1;obtain⟨t1,ds1,rd1⟩:=fr1;simp only at q1 q2 q3;subst q1 q2;have hs:zHS ((l.take n).filterMap (·.dst)) t t1:=by
  intro j hj;obtain⟨N,a⟩:=(show ∃ N,∀ n',N<=n'->_ from by unfold Ev at ev1;exact ev1);exact zCO (a N (QE _)) (fun hm=>by
   have:=Z4 hj;rw[List.contains_eq_mem,JD]at this;exact this hm)
 have:=h2 t1 h' hs q3;unfold WO at this |-;obtain⟨fr2,h2',q,ev2⟩:=this;refine⟨fr2,h2',q,(ev1.and ev2).mono fun k ⟨e1,e2⟩=> ?_⟩;rw[<-GG n l,zBa,e1];exact e2
theorem Vi{d c i:Nat}{x y:Operand}{v r:Value}(hr:yU c v (some i) none none=some r)(k:WO P tab l ⟨t.set d r,ds,rd⟩ h Q)(hx:WQ t x v:=by exact zP)(hy:WQ t y (I (i:Int)):=by exact zP):
  WO P tab (⟨some d,none,.slice c x (some y) none none⟩::l) ⟨t,ds,rd⟩ h Q:=by
 unfold WQ at hx hy;refine WO.op r h rfl ?_ k;have:BH (I (i:Int))=some i:=rfl;simp only[WN,Yv,hx,hy,this,QH,hr]
theorem Vh{d c i:Nat}{x y:Operand}{v r:Value}(hr:yU c v none (some i) none=some r)(k:WO P tab l ⟨t.set d r,ds,rd⟩ h Q)(hx:WQ t x v:=by exact zP)(hy:WQ t y (I (i:Int)):=by exact zP):
  WO P tab (⟨some d,none,.slice c x none (some y) none⟩::l) ⟨t,ds,rd⟩ h Q:=by
 unfold WQ at hx hy;refine WO.op r h rfl ?_ k;have:BH (I (i:Int))=some i:=rfl;simp only[WN,Yv,hx,hy,this,QH,hr]
theorem Us{c:Nat}{zero:List Value}{x:Operand}{v:Value}{h':WF}(hr:zBK c zero v h=some (.tuple #[],h'))(k:WO P tab l ⟨t,ds,rd⟩ h' Q)(hx:WQ t x v:=by exact zP):
  WO P tab (⟨none,none,.clearS c zero x⟩::l) ⟨t,ds,rd⟩ h Q:=by
 unfold WQ at hx;exact VS (.tuple #[]) h' rfl (by simp only[WN,hx,hr]) k
theorem VG{d:Nat}{x:Operand}{v:Value}(k:∀ p h',WK h h'->WH h h' p v.cells.toList->WO P tab l ⟨t.set d p,ds,rd⟩ h' Q)(hx:WQ t x v:=by exact zP):
  WO P tab (⟨some d,none,.box x⟩::l) ⟨t,ds,rd⟩ h Q:=Uc v.cells.toList (by unfold WQ at hx;rw[hx]) k
theorem Uk{c:Operand}{x y:WU}{K:WP->WR->WF->Prop}{b:Bool}(s:WQ t c (.bool b))(hb:b=true)(h1:WX P tab x ⟨t,ds,rd⟩ h K):WX P tab (.cond c x y) ⟨t,ds,rd⟩ h K:=
 Xq (hb▸s) h1
theorem Uj{c:Operand}{x y:WU}{K:WP->WR->WF->Prop}{b:Bool}(s:WQ t c (.bool b))(hb:b=false)(h1:WX P tab y ⟨t,ds,rd⟩ h K):WX P tab (.cond c x y) ⟨t,ds,rd⟩ h K:=
 Xt (hb▸s) h1
theorem VD{c:Operand}{x y:WU}{K:WP->WR->WF->Prop}{b:Bool}(h1:b=true->WX P tab x ⟨t,ds,rd⟩ h K)(h2:b=false->WX P tab y ⟨t,ds,rd⟩ h K)(s:WQ t c (.bool b):=by exact zP):WX P tab (.cond c x y) ⟨t,ds,rd⟩ h K:=
 WX.cond b s h1 h2
theorem WM{k:Nat}{v:Value}(s:Wq t k v:=by(repeat (first|((with_reducible apply Va);rfl)|((with_reducible apply Wq.same);(with_reducible assumption);rfl)));first|with_reducible exact Wq.here|with_reducible assumption|(unfold Wq;with_reducible assumption)|exact Wq.here):zC t k=v:=s
theorem BF{k i:Nat}(s:Wq t k (I ((i:Int)+1)):=by(repeat (first|((with_reducible apply Va);rfl)|((with_reducible apply Wq.same);(with_reducible assumption);rfl)));first|with_reducible exact Wq.here|with_reducible assumption|(unfold Wq;with_reducible assumption)|exact Wq.here):zC t k=I ((i+1:Nat):Int):=s
def Wz(h:WF)(t:WI Value)(rs:List (Nat×Option (Bool×Nat)))(vs:List Value):Prop:=z0 h t rs=some vs
theorem Wz.nil:Wz h t [] []:=rfl
theorem Wz.cons{j:Nat}{v:Value}{rs:List (Nat×Option (Bool×Nat))}{vs:List Value}(s:Wq t j v)(k:Wz h t rs vs):Wz h t ((j,none)::rs) (v::vs):=by
 unfold Wz at *;unfold Wq at s;simp only[z0,YM,s,k]
theorem VL{j n:Nat}{p v:Value}{h0:WF}{cs:List Value}{rs:List (Nat×Option (Bool×Nat))}{vs:List Value}(s:Wq t j p)(o:WH h0 h p cs)(hr:(cut cs 0 n).bind (zI true)=some v)(k:Wz h t rs vs):Wz h t ((j,some (true,n))::rs) (v::vs):=by
 obtain⟨g,_,_,rfl,hg⟩:=o;unfold Wz at *;unfold Wq at s;simp only[z0,YM,s,ZO hg,Qf,cond_true,QQ,hr,k]
theorem rt{rs:List (Nat×Option (Bool×Nat))}{Q:Value->WF->Prop}{vs:List Value}(hq:Q (one vs) h)(r:Wz h t rs vs:=by(repeat (first|(apply Wz.cons;(exact YZ))|(apply VL;(exact YZ);(with_reducible assumption);(exact zIy))));exact Wz.nil):zEB P tab rs Q .ret ⟨t,[],rd⟩ h:=zMn r hq
theorem rtN{rs:List (Nat×Option (Bool×Nat))}{Q:Value->WF->Prop}{vs:List Value}(hq:Q (one vs) h)(r:Wz h t rs vs:=by(repeat (first|(apply Wz.cons;(exact YZ))|(apply VL;(exact YZ);(with_reducible assumption);(exact zIy))));exact Wz.nil):zEB P tab rs Q .normal ⟨t,[],rd⟩ h:=zG1 r hq
theorem VE{ws:List Nat}{α:Type}{b:WU}{K:WP->WR->WF->Prop}(μ:α->Nat)(I:α->WI Value->WF->Prop)(x:α)(h0:I x t h)
  (hb:∀ x t' h',zHS ws t t'->I x t' h'->WX P tab b ⟨t',ds,rd⟩ h' (zCS μ I x ds rd K)) (hw:yE b=ws:=by conv=>(lhs;reduce)):WX P tab (.loop b) ⟨t,ds,rd⟩ h K:=
 Xy μ I x h0 fun x t' h' hs hi=>hb x t' h' (fun j hj=>hs j (by rw[hw];exact Z4 hj)) hi
structure Wrap(G:Prop):Prop where
 out:G
theorem go{G' G:Prop}(k:G')(r:Wrap G'->G:=by
  intro hgo;repeat (first|refine WX.seq ?_|refine WX.region ?_|(apply R.mov;(exact zP))|(apply R.add;(exact zP);(exact zP);(omega);(omega))|(apply R.sub;(exact zP);(exact zP);(omega);(omega))|(apply R.mul;(exact zP);(exact zP);(omega);(omega))|(apply R.lss;(exact zP);(exact zP))|(apply R.leq;(exact zP);(exact zP))|(apply R.gtr;(exact zP);(exact zP))|(apply R.geq;(exact zP);(exact zP))|(apply R.eql;(exact zP);(exact zP))|(apply R.neq;(exact zP);(exact zP))|(apply R.not;(exact zP))|(apply U1;(exact zP);(exact zP))|(apply U5;(exact zP);(exact zP))|(apply Xb;(exact zP);(omega);(omega))|(apply R.conv;(exact zP))|(apply UY;(exact zP);(exact zFi);(exact zP))|(apply Ui;(exact zP);(exact zFi);(exact zP))|(apply Xn;(exact zP))|(apply Xj;(exact zP))|(apply Xf;(exact zP))|(apply X0;(exact zP))|(apply Xr;(exact zP))|(apply UE;(exact zP))|(apply Xu;(exact zP))|(apply Xo;(exact zP))|(apply Xa;(exact zP))|(apply R.lenC)|(apply R.nil;(exact zP);(rfl))|(apply Uy;(exact zP);(exact zPx))|(apply Ux;(exact zP);(with_reducible assumption))|(apply Uu;(exact zP);(exact zP);(exact zLp);(exact zPx);(exact zHG))|(apply Uw;(exact zP);(exact zP);(exact zLp);(with_reducible assumption);(exact zHG))|(apply US;(exact zP);(exact zPx);(exact zHG))|(apply Um;(exact zP);(with_reducible assumption);(decide);(exact zIy))|(apply U6;(exact zP);(with_reducible assumption);(decide);(rfl))|(apply Uh;(exact zP);(with_reducible assumption);(decide);(exact zIy))|(apply Uo;(exact zP);(with_reducible assumption);(decide);(rfl))|(apply R.fldP;(exact zP);(with_reducible assumption))|(apply UZ;(exact zP);(with_reducible assumption))|(apply Uq;(exact zP);(with_reducible assumption))|(apply Ur;(exact zP);(with_reducible assumption);(exact zP);(exact zLp);(exact zHG))|(apply UL;(exact zP);(with_reducible assumption);(exact zP);(exact zLp);(exact zHG))|(apply UP;(exact zP);(with_reducible assumption);(exact zP);(exact zLp);(exact zHG))|(apply Uf;(exact zP);(with_reducible assumption);(exact zHG))|(apply XV;(exact zP);(with_reducible assumption);(exact zIy))|(apply Xg;(exact zP);(with_reducible assumption);(rfl))|(apply UC;(exact zP);(with_reducible assumption);(exact zIy))|(apply Ub;(exact zP);(with_reducible assumption);(rfl))|(apply Ue;(exact zP);(exact zIy))|(apply R.part;(exact zP);(rfl))|(apply Uv;(exact zP);(exact zLp);(exact zHG))|(apply UQ;(exact zP);(with_reducible assumption);(with_reducible assumption))|(apply R.agg;((repeat (apply BA.cons;(exact zP)));exact BA.nil);(exact zQz))|(apply Up;(exact zP);(with_reducible assumption))|(apply Ul;(exact zP);(with_reducible assumption))|(apply U8;(exact zP))|(apply Un;(exact zP);(with_reducible assumption))|(apply U7;(exact zP);(exact zP);(with_reducible assumption);(with_reducible assumption))|(apply WA;(exact zP);(exact zP);(with_reducible assumption);(with_reducible assumption))|(apply U0;(exact zJm);(exact zJm))|(apply WE;(exact YZ);(exact zFi))|(apply U3;(exact YZ);(exact zFi))|(apply U2;(exact YZ);(exact zFi))|(apply WB;(exact YZ))|refine WO.nil ?_|refine Zz ?_|refine WX.skip ?_|refine WX.block ?_|refine WX.exit ?_|refine zCu ?_|refine zBW ?_|refine zDv ?_|refine zAv rfl ?_|refine zD7 ?_|refine WX.ret ?_|refine zE7 ?_|refine zD2 ?_|refine zE2 ?_|(apply Uk;(exact zP);(exact zFi))|(apply Uj;(exact zP);(exact zFi))|refine WX.label ?_|refine WX.goto ?_|refine zEk ?_|refine zC2 ?_|refine zEF ?_|refine Ve rfl ?_)
  exact hgo.out):G:=r ⟨k⟩
theorem gr{G' G:Prop}(k:G')(r:Wrap G'->G:=by
  intro hgo;refine go ?_;refine rt ?_;exact hgo.out):G:=r ⟨k⟩
theorem goC{G' G:Prop}(k:G')(r:Wrap G'->G:=by
  intro hgo;repeat (first|refine WX.seq ?_|refine WX.region ?_|refine WO.nil ?_|refine Zz ?_|refine WX.skip ?_|refine WX.block ?_|refine WX.exit ?_|refine zCu ?_|refine zBW ?_|refine zDv ?_|refine zAv rfl ?_|refine zD7 ?_|refine WX.ret ?_|refine zE7 ?_|refine zD2 ?_|refine zE2 ?_|(apply Uk;(exact zP);(exact zFi))|(apply Uj;(exact zP);(exact zFi))|refine WX.label ?_|refine WX.goto ?_|refine zEk ?_|refine zC2 ?_|refine zEF ?_|refine Ve rfl ?_)
  exact hgo.out):G:=r ⟨k⟩
end
section
variable {P:Program}
theorem zK{α β:Type}(x:Sem α)(f:α->Sem β):zU P (x>>=f)=(zU P x).bind fun a=>zU P (f a):=by
 show zU P (x.bind f)=_;induction x with
 |pure a=>rfl
 |program k ih=>simp only[Sem.bind,zU];exact ih _
 |mark m k ih=>simp only[Sem.bind,zU];exact ih
 |_=>simp[Sem.bind,zU]
theorem zGl{α:Type}(a:α):zU P (pure a)=some a:=rfl
theorem yJ:zU P program=some P:=rfl
theorem yW{t:TypeId}{d:TypeDesc}(h:P.underlying t=some d):zU P (underlying t)=some d:=by
 unfold underlying;rw[zK,yJ];simp only[QQ,h];rfl
def zCx:Value->Value->Bool
 | .int _ a,.int _ b=>a == b
 | .bool a,.bool b=>a == b
 |_,_=>false
def zNW(P:Program)(f:Field):Value->Value->Bool
 | .int k _,.int k' _=>decide (k=k')&&(match P.underlying f.type with|some (.int _)=>true|_=>false)
 | .bool _,.bool _=>(match P.underlying f.type with|some .bool=>true|_=>false)
 |_,_=>false
def zCo(P:Program):List Field->Nat->List Value->List Value->Bool
 |[],_,[],[]=>true
 |f::fs,i,x::xs,y::ys=>(f.name != "_")&&Nat.beq f.offset i&&(match zU P (isAgg f.type)with|some false=>true|_=>false)&&zNW P f x y&&zCo P fs (i+1) xs ys
 |_,_,_,_=>false
def YY:List Value->List Value->Bool
 |x::xs,y::ys=>zCx x y&&YY xs ys
 |_,_=>true
theorem zLC{f:Field}{x y:Value}{d:Nat}(h:zNW P f x y=true):zU P (Op.equalIn (d+1) f.type x y)=some (zCx x y):=by
 unfold zNW at h;split at h
 ·rename_i k a k' b;rw[QJ]at h;obtain⟨h1,h2⟩:=h;have h1:=Gv h1;subst h1;split at h2;case h_2=>cases h2
  rename_i k2 hu;rw[Op.equalIn,zK,yW hu];simp only[QQ,Q9];rfl
 ·split at h;case h_2=>cases h
  rename_i hu;rw[Op.equalIn,zK,yW hu];simp only[QQ];rfl
 ·cases h
theorem zCN{t:TypeId}{cs:Array Value}{off:Nat}{v:Value}(h:(match zU P (isAgg t)with|some false=>true|_=>false)=true)(hv:cs[off]?=some v):zU P (part t cs off)=some v:=by
 have h':zU P (isAgg t)=some false:=by
  split at h
  ·assumption
  ·cases h
 unfold part;rw[zK,h'];simp only[QQ,hv];rfl
theorem zJ8{xs ys:Array Value}{n d:Nat}(hn:n=d+1):∀ (l:List Field) (i:Nat) (us vs:List Value),zCo P l i us vs=true->(∀ j,xs[i+j]?=us[j]?)->(∀ j,ys[i+j]?=vs[j]?)->
  zU P (do
   let s <-(forIn l (none,()) fun f (__s:Option Bool×Unit)=>
          if f.name≠ "_" then do
           let __do_lift <-part f.type xs f.offset
           let __do_lift_1 <-part f.type ys f.offset
           let __do_lift <-Op.equalIn n f.type __do_lift __do_lift_1
           if(!__do_lift)=true then pure (ForInStep.done (some false,()))
            else pure (ForInStep.yield (none,()))
          else pure (ForInStep.yield (none,())):Sem (Option Bool×Unit))
   match s.fst with
        |some r=>pure r
        |none=>pure true)=some (YY us vs):=by
 intro l;induction l with
 |nil=>
  intro i us vs hk _ _;cases us with
  |cons _ _=>cases hk
  |nil=>cases vs with
   |cons _ _=>cases hk
   |nil=>rfl
 |cons f l ih=>
  intro i us vs hk hx hy;cases us with
  |nil=>cases hk
  |cons u us=>cases vs with
   |nil=>cases hk
   |cons v vs=>
   simp only[zCo,QJ]at hk;obtain⟨⟨⟨⟨k1,k2⟩,k3⟩,k4⟩,k5⟩:=hk;have hoff:=QI k2;have hname:f.name≠ "_":=by simpa using k1
   have hxu:xs[f.offset]?=some u:=by rw[hoff];simpa using hx 0
   have hyv:ys[f.offset]?=some v:=by rw[hoff];simpa using hy 0
   have ihl:=ih (i+1) us vs k5 (fun j=>by have:=hx (j+1);rw[List.getElem?_cons_succ]at this;rw[<-this];congr 1;omega) (fun j=>by have:=hy (j+1);rw[List.getElem?_cons_succ]at this;rw[<-this];congr 1;omega);have heq:zU P (Op.equalIn n f.type u v)=some (zCx u v):=by rw[hn];exact zLC k4
   rw[List.forIn_cons];simp only[bind_assoc,zK,QG hname,zCN k3 hxu,zCN k3 hyv,QQ,heq];cases he:zCx u v with
   |false=>simp only[YY,he,Qd];rfl
   |true=>
    simp only[YY,he,Qb];rw[<-ihl,zK];rfl
theorem zK4{t:TypeId}{fs:Array Field}{xs ys:Array Value}{x y:Operand}(ht:P.underlying t=some (.struct fs))(hs:P.stoodInHeld t=false)(hg:P.eqGuardType P.depth t=false)(hk:zCo P fs.toList 0 xs.toList ys.toList=true):
  zU P (do eqGuard .eql t x y (.agg xs) (.agg ys);binOp .eql t (.agg xs) (.agg ys))=some (.bool (YY xs.toList ys.toList)):=by
 have h1:zU P (eqGuard .eql t x y (.agg xs) (.agg ys))=some ():=by
  unfold eqGuard;simp only[QS,Qs,G1];rw[zK,yJ];simp only[QQ];rw[zK,yJ];simp only[QQ,hg,Qa,Q9];rfl
 rw[zK,h1];simp only[QQ];unfold binOp;simp only[];rw[zK];have h2:zU P (Op.equal t (.agg xs) (.agg ys))=some (YY xs.toList ys.toList):=by
  unfold Op.equal Op.maxDepth;rw[show(10000:Nat)=9999+1 from rfl,Op.equalIn,zK,yW ht];simp only[QQ];rw[zK,yJ];simp only[QQ,hs,Qs,G1];have:=zJ8 (P:=P) (xs:=xs) (ys:=ys) (n:=9999) (d:=9998) rfl fs.toList 0 xs.toList ys.toList hk (fun j=>by simp) (fun j=>by simp);rw[<-this,<-Array.forIn_toList,zK,zK];congr 1;funext s;obtain⟨a,_⟩:=s;cases a<;>rfl
 rw[h2];rfl
def chk(P:Program)(t:TypeId)(xs ys:List Value):Bool:=
 (match P.underlying t with|some (.struct fs)=>zCo P fs.toList 0 xs ys|_=>false)&& !P.stoodInHeld t&& !P.eqGuardType P.depth t
theorem zF4{t:TypeId}{xs ys:Array Value}{x y:Operand}{b:Bool}(h:chk P t xs.toList ys.toList=true)(hb:YY xs.toList ys.toList=b):zU P (do eqGuard .eql t x y (.agg xs) (.agg ys);binOp .eql t (.agg xs) (.agg ys))=some (.bool b):=by
 subst hb;unfold chk at h;simp only[QJ,Gp]at h;obtain⟨⟨h1,h2⟩,h3⟩:=h;split at h1;case h_2=>cases h1
 rename_i fs hu;exact zK4 hu h2 h3 h1
end
section
variable {P:Program}
theorem zLR{t:TypeId}{fs:Array Field}{xs ys:Array Value}{x y:Operand}(ht:P.underlying t=some (.struct fs))(hs:P.stoodInHeld t=false)(hg:P.eqGuardType P.depth t=false)(hk:zCo P fs.toList 0 xs.toList ys.toList=true):
  zU P (do eqGuard .neq t x y (.agg xs) (.agg ys);binOp .neq t (.agg xs) (.agg ys))=some (.bool (!YY xs.toList ys.toList)):=by
 have h1:zU P (eqGuard .neq t x y (.agg xs) (.agg ys))=some ():=by
  unfold eqGuard;simp only[QS,Qs,G1];rw[zK,yJ];simp only[QQ];rw[zK,yJ];simp only[QQ,hg,Qa,Q9];rfl
 rw[zK,h1];simp only[QQ];unfold binOp;simp only[];rw[zK];have h2:zU P (Op.equal t (.agg xs) (.agg ys))=some (YY xs.toList ys.toList):=by
  unfold Op.equal Op.maxDepth;rw[show(10000:Nat)=9999+1 from rfl,Op.equalIn,zK,yW ht];simp only[QQ];rw[zK,yJ];simp only[QQ,hs,Qs,G1];have:=zJ8 (P:=P) (xs:=xs) (ys:=ys) (n:=9999) (d:=9998) rfl fs.toList 0 xs.toList ys.toList hk (fun j=>by simp) (fun j=>by simp);rw[<-this,<-Array.forIn_toList,zK,zK];congr 1;funext s;obtain⟨a,_⟩:=s;cases a<;>rfl
 rw[h2];rfl
theorem zMF{t:TypeId}{xs ys:Array Value}{x y:Operand}{b:Bool}(h:chk P t xs.toList ys.toList=true)(hb:YY xs.toList ys.toList=b):zU P (do eqGuard .neq t x y (.agg xs) (.agg ys);binOp .neq t (.agg xs) (.agg ys))=some (.bool (!b)):=by
 subst hb;unfold chk at h;simp only[QJ,Gp]at h;obtain⟨⟨h1,h2⟩,h3⟩:=h;split at h1;case h_2=>cases h1
 rename_i fs hu;exact zLR hu h2 h3 h1
end
section
variable {P:Program}{tab:Wv}
def okU(m N0:Nat)(un:List Nat)(cl:Bool)(t:WI Value)(o:WG)(h h':WF):Prop:=
 (∀ g∈h'.wr,m<=g)/\h.n<=h'.n/\(un=[]\/(cl=true/\h'.wr=[]/\∀ g,zi t o=some g->g<N0))
def We(P:Program)(tab:Wv)(m N0:Nat):List (WG×List Nat)->Nat->Bool->WR->WF->(WR->WF->Prop)->Prop
 |[],_,_,fr,h,Q=>Q fr h
 |(o,un)::l,g,cl,fr,h,Q=>
  if Nat.beq (zG o.op) 3=true then
   un=[]/\((zW fr.tm o.guard=true/\m<=g/\∃ ob f,yg fr.tm o.op=some (ob,f)/\We P tab m N0 l (g+1) false (val o.dst fr (f g)) ((inC h).lay g ob) Q)\/
    (zW fr.tm o.guard=false/\We P tab m N0 l (g+1) cl (val o.dst fr undef) (inC h) Q))
  else WO P tab [o] fr (inC h) fun fr' h'=>okU m N0 un cl fr.tm o h h'/\We P tab m N0 l g (cl&&h'.wr.isEmpty) fr' h' Q
theorem zKc{m N0:Nat}{un:List Nat}{cl:Bool}{t:WI Value}{o:WG}{h h':WF}(hk:okU m N0 un cl t o h h'){ws:List (Nat×Nat)}(hw:cl=true->ws=[]){bs:List (Nat×Nat)}(hb:∀ e∈bs,N0<=e.2)(rs:List (Nat×Nat×Option (Nat×Nat×List Value))):
  ((match zi t o with
   |some g=>(ws.all fun x=> !(Nat.beq g x.2&&un.contains x.1))&&bs.all fun x=> !un.contains x.1||Nat.ble (g+1) x.2
   |none=>true)&&rs.all fun x=> !(un.contains x.1&&h'.wr.contains x.2.1)||zDC h' x.2.1 x.2.2)=true:=by
 obtain⟨_,_,rfl|⟨h1,h2,h3⟩⟩:=hk
 ·exact zNJ o ws rs bs t h'
 ·rw[hw h1,h2];have e2:(rs.all fun x=> !(un.contains x.1&&([]:List Nat).contains x.2.1)||zDC h' x.2.1 x.2.2)=true:=by simp
  rw[e2,Qg];cases hr:zi t o with
  |none=>rfl
  |some g=>
   have hg:=h3 g hr;simp only[List.all_nil,Qb];rw[QV];intro x hx;have:Nat.ble (g+1) x.2=true:=QF (QK hg (hb x hx));rw[this,Qu]
theorem We.run{m N0:Nat}:∀ {ops:List (WG×List Nat)} {g:Nat} {cl:Bool} {fr:WR} {h:WF} {Q:WR->WF->Prop},N0<=h.n->We P tab m N0 ops g cl fr h Q->
  ∃ fr' h',Q fr' h'/\∀ (i:Nat) (ws:List (Nat×Nat)) (rs:List (Nat×Nat×Option (Nat×Nat×List Value))) (bs:List (Nat×Nat)),(∀ e∈ws,m<=e.2)->(cl=true->ws=[])->(∀ e∈bs,N0<=e.2)->
   ∃ ws',(∀ e∈ws',m<=e.2)/\Ev fun n=>yF P (BI P tab n) ops i g ws rs bs fr h=some (fr',h',ws'):=by
 intro ops;induction ops with
 |nil=>intro g cl fr h Q _ hx;exact⟨fr,h,hx,fun i ws rs bs hw _ _=>⟨ws,hw,Ev.all fun n=>rfl⟩⟩
 |cons x ops ihl=>
  intro g cl fr h Q hn hx;obtain⟨o,un⟩:=x;simp only[We]at hx;have go:∀ {g':Nat} {cl':Bool} {fr1:WR} {h1:WF},(g'=bif Nat.beq (zG o.op) 3 then g+1 else g)->(cl'=true->cl=true/\h1.wr=[])->(Ev fun n=>yB P (BI P tab n) g o fr (inC h)=some (fr1,h1))->okU m N0 un cl fr.tm o h h1->We P tab m N0 ops g' cl' fr1 h1 Q->
    ∃ fr' h',Q fr' h'/\∀ (i:Nat) (ws:List (Nat×Nat)) (rs:List (Nat×Nat×Option (Nat×Nat×List Value))) (bs:List (Nat×Nat)),(∀ e∈ws,m<=e.2)->(cl=true->ws=[])->(∀ e∈bs,N0<=e.2)->
     ∃ ws',(∀ e∈ws',m<=e.2)/\Ev fun n=>yF P (BI P tab n) ((o,un)::ops) i g ws rs bs fr h=some (fr',h',ws'):=by
   intro g' cl' fr1 h1 hg hcl ev hk hx;obtain⟨fr',h',q,run⟩:=ihl (QN hn hk.2.1) hx;refine⟨fr',h',q,fun i ws rs bs hws hwc hbs=> ?_⟩;obtain⟨ws',w1,w2⟩:=run (i+1) (h1.wr.map (fun g=>(i,g))++ws) (match zi fr.tm o with
     |some g=>(i,g,Yw fr.tm h o.op)::rs
     |none=>rs) ((i,h.n)::bs) (fun e he=>by
      rcases Qy.1 he with he|he
      ·obtain⟨y,hy,rfl⟩:=GQ.1 he;exact hk.1 y hy
      ·exact hws e he) (fun hc=>by
      obtain⟨c1,c2⟩:=hcl hc;rw[hwc c1,c2];rfl) (fun e he=>by
      rcases GI.1 he with rfl|he
      ·exact hn
      ·exact hbs e he)
   refine⟨ws',w1,(ev.and w2).mono fun n ⟨e1,e2⟩=> ?_⟩;simp only[yF];have e1':yB P (BI P tab n) g o fr {h with mark:=h.n,wr:=[]}=some (fr1,h1):=e1;rw[e1'];have hok:=zKc hk hwc hbs rs;exact(congrArg (fun b:Bool=>bif b then yF P (BI P tab n) ops (i+1) (bif Nat.beq (zG o.op) 3 then g+1 else g) (h1.wr.map (fun g=>(i,g))++ws) (match zi fr.tm o with
     |some g=>(i,g,Yw fr.tm h o.op)::rs
     |none=>rs) ((i,h.n)::bs) fr1 h1 else none) hok).trans (by rw[cond_true,<-hg];exact e2)
  by_cases hk:Nat.beq (zG o.op) 3=true
  ·rw[QG hk]at hx;obtain⟨rfl,⟨hw,hm,ob,f,hmade,hx⟩|⟨hw,hx⟩⟩:=hx;case inr=>
    refine go (g':=g+1) (cl':=cl) (by rw[hk];rfl) (fun h=>⟨h,rfl⟩) (Ev.all fun n=> ?_) (h1:=inC h) ⟨fun x hx=>(by cases hx),(show h.n<=h.n from QE _),.inl rfl⟩ hx;unfold yB;simp only[hk,hw,cond_true,QR]
   refine go (g':=g+1) (cl':=false) (by rw[hk];rfl) (fun h=>by cases h) (Ev.all fun n=> ?_) (h1:=(inC h).lay g ob) ⟨fun x hx=> ?_,(show h.n<=h.n from QE _),.inl rfl⟩ hx
   ·unfold yB;simp only[hk,hw,hmade,cond_true]
   ·rcases yw hx with rfl|hx
    ·exact hm
    ·cases hx
  ·rw[QC hk]at hx;have hk':Nat.beq (zG o.op) 3=false:=by cases hb:Nat.beq (zG o.op) 3 with
    |false=>rfl
    |true=>exact absurd hb hk
   unfold WO at hx;obtain⟨fr1,h1,⟨q1,q2⟩,ev⟩:=hx;refine go (g':=g) (cl':=cl&&h1.wr.isEmpty) (by rw[hk'];rfl) (fun hc=>by
    rw[QJ]at hc;exact⟨hc.1,List.isEmpty_iff.1 hc.2⟩) (ev.mono fun n e=> ?_) q1 q2
   unfold yB;simp only[hk',QR];simp only[yT]at e;cases ha:yD P (BI P tab n) o fr (inC h)with
   |none=>rw[ha]at e;cases e
   |some p=>rw[ha]at e;exact e
def zB(k:Nat)(h:WF):WF:={h with n:=h.n+k}
theorem zQ(k:Nat)(h:WF):WK h (zB k h):=⟨G8 _ _,fun _ _=>rfl,fun w g hg=>w g (QN (G8 _ _) hg),rfl,fun _=>rfl⟩
theorem VC{ops:List (WG×List Nat)}{fr:WR}{h:WF}{K:WP->WR->WF->Prop}(k:Nat)(hk:zFk ops=k)(hne:ops.isEmpty=false)
  (hx:We P tab h.mark (h.n+k) ops h.n true fr (inC (zB k h)) (B5 K h)):WX P tab (.regionC ops) fr h K:=by
 subst hk;have hx':We P tab h.mark (h.n+zFk ops) ops h.n true fr (zB (zFk ops) h) (B5 K h):=by
  cases ops with
  |nil=>cases hne
  |cons x ops=>exact hx
 obtain⟨fr',h',q,run⟩:=We.run (h:=zB (zFk ops) h) (show h.n+zFk ops<=h.n+zFk ops from QE _) hx';obtain⟨ws',w1,w2⟩:=run 0 [] [] [] (fun e he=>by cases he) (fun _=>rfl) (fun e he=>by cases he);unfold WX;refine⟨.normal,fr',_,q,Ev.up (w2.mono fun n e=> ?_)⟩;rw[zo];simp only[zh,YN];have e':yF P (BI P tab n) ops 0 h.n [] [] [] fr {h with n:=h.n+(ops.filter fun x=>Nat.beq (zG x.1.op) 3).length}=some (fr',h',ws'):=e;rw[e'];have:((ws'.map (·.2)).filter fun g=> !Nat.ble h.mark g)=[]:=by
  rw[List.filter_eq_nil_iff];intro g hg;obtain⟨y,hy,rfl⟩:=GQ.1 hg;have:Nat.ble h.mark y.2=true:=QF (w1 y hy);simp[this]
 simp[this,zq]
end
section
variable {P:Program}{tab:Wv}{m N0:Nat}{l:List (WG×List Nat)}{o:WG}{un:List Nat}{g:Nat}{cl:Bool}{fr:WR}{h h0 h':WF}{Q:WR->WF->Prop}{K:WP->WR->WF->Prop}{x:WG×List Nat}
def uK2(P:Program)(tab:Wv)(m N0:Nat)(un:List Nat)(t:WI Value)(o:WG)(h:WF)(l:List (WG×List Nat))(g:Nat)(cl:Bool)(Q:WR->WF->Prop):WR->WF->Prop:=
 fun fr' h'=>okU m N0 un cl t o h h'/\We P tab m N0 l g (cl&&h'.wr.isEmpty) fr' h' Q
theorem We.q(hk:Nat.beq (zG o.op) 3=false)(hx:WO P tab [o] fr (inC h) (uK2 P tab m N0 un fr.tm o (inC h) l g cl Q)):We P tab m N0 ((o,un)::l) g cl fr (inC h) Q:=by
 simp only[We];rw[QC (by rw[hk];exact Bool.noConfusion)];exact hx
theorem zPS{t:WI Value}(hx:We P tab m N0 l g cl fr (inC h) Q):uK2 P tab m N0 [] t o (inC h) l g cl Q fr (inC h):=
 ⟨⟨fun g hg=>(by cases hg),QE _,.inl rfl⟩,by rw[show(cl&&(inC h).wr.isEmpty)=cl from by simp[inC]];exact hx⟩
theorem zIB{t:WI Value}(hr:∀ g,zi t o=some g->g<N0)(hx:We P tab m N0 l g true fr (inC h) Q):uK2 P tab m N0 un t o (inC h) l g true Q fr (inC h):=
 ⟨⟨fun g hg=>(by cases hg),QE _,.inr ⟨rfl,rfl,hr⟩⟩,by rw[show(true&&(inC h).wr.isEmpty)=true from by simp[inC]];exact hx⟩
theorem zPN{t:WI Value}(e:WK (inC h) h')(hr:zi t o=none)(hx:We P tab m N0 (x::l) g true fr (inC h') Q):uK2 P tab m N0 un t o (inC h) (x::l) g true Q fr h':=by
 have hw:=e.wrnil;refine⟨⟨fun g hg=>(by rw[hw]at hg;cases hg),e.n,?_⟩,?_⟩
 ·exact .inr ⟨rfl,hw,fun g hg=>by rw[hr]at hg;cases hg⟩
 ·rw[hw];exact hx
theorem zPH{t:WI Value}(hx:K .normal fr (zq h0 (inC h))):uK2 P tab m N0 [] t o (inC h) [] g cl (B5 K h0) fr (inC h):=⟨⟨fun g hg=>(by cases hg),QE _,.inl rfl⟩,hx⟩
theorem Xc{t:WI Value}{ds:List Deferred}{rd:Option Nat}{zero cs:List Value}{d n:Nat}{y:Operand}{v:Value}(hm:m<=g)(hg:g<h.n)(hz:zero.length=n)(hn:cs.length=n)(h1:zH cs=true)(hv:v.cells=cs.toArray)(hy:ev (t.set d (.pointer (some ⟨g,0,none⟩))) y=v)
  (hx:Q ⟨t.set d (.pointer (some ⟨g,0,none⟩)),ds,rd⟩ ((inC ((inC h).lay g (.row zero true 0))).set g (.row cs true 0))):
  We P tab m N0 [(⟨some d,none,.alloc zero⟩,[]),(⟨none,none,.store n (.tmp d) y⟩,[])] g cl ⟨t,ds,rd⟩ (inC h) Q:=by
 subst hn;rw[We,QG (show Nat.beq (zG (W4.alloc zero)) 3=true from rfl)];refine⟨rfl,.inl ⟨rfl,hm,_,_,rfl,?_⟩⟩;rw[show inC (inC h)=inC h from rfl];rw[We,QC (show ¬Nat.beq (zG (W4.store cs.length (.tmp d) y)) 3=true from Bool.noConfusion)];have hget:(inC ((inC h).lay g (.row zero true 0))).get g=some (.row zero true 0):=by
  show((inC h).tab.set g (.row zero true 0)).get g=_;rw[zd,QG rfl]
 have hst:ze (inC ((inC h).lay g (.row zero true 0))) ⟨g,0,none⟩ cs=some ((inC ((inC h).lay g (.row zero true 0))).set g (.row cs true 0)):=by
  have h2:Nat.ble (0+cs.length) zero.length=true:=QF (by omega);have h3:Nat.ble 0 0=true:=rfl;have h4:zO zero 0 cs=cs:=by simp[zO,hz]
  simp only[ze,hget,h2,h3,h1,h4,Qf,Qn,cond_true]
 refine VS undef ((inC ((inC h).lay g (.row zero true 0))).set g (.row cs true 0)) rfl (by
  simp only[WN];have e1:ev (val (some d) ⟨t,ds,rd⟩ (.pointer (some ⟨g,0,none⟩))).tm (.tmp d)=.pointer (some ⟨g,0,none⟩):=by simp only[val,ev,yH,Q9]
  have e2:ev (val (some d) ⟨t,ds,rd⟩ (.pointer (some ⟨g,0,none⟩))).tm y=v:=hy;have e1':ev (t.set d (.pointer (some ⟨g,0,none⟩))) (.tmp d)=.pointer (some ⟨g,0,none⟩):=e1;simp only[val,e1',hy,hv,Gw,GP,hst,QH,cond_true]) ?_
 refine WO.nil ⟨⟨fun k hk=> ?_,QE _,.inl rfl⟩,hx⟩;have hk2:k∈(inC ((inC h).lay g (.row zero true 0))).log g:=hk;rcases yw hk2 with rfl|hk3
 ·exact hm
 ·cases hk3
theorem zHQ{k:Nat}{o o':Wm}(e:WK (inC (zB 1 h0)) h):WK h0 (zq h0 ((inC ((inC h).lay h0.n o)).set h0.n o')):=by
 have hn:h0.n+1<=h.n:=e.n;refine⟨by show h0.n<=h.n;omega,fun k hk=> ?_,fun w k hk=> ?_,rfl,fun _=>rfl⟩
 ·show((h.tab.set h0.n o).set h0.n o').get k=_;rw[zd,QC (by omega),zd,QC (by omega)];exact e.get k (by show k<h0.n+1;omega)
 ·have hk:h.n<=k:=hk;show((h.tab.set h0.n o).set h0.n o').get k=_;rw[zd,QC (by omega),zd,QC (by omega)];exact e.wf (fun j hj=>w j (by have:h0.n+1<=j:=hj;omega)) k hk
theorem zG6{cs:List Value}{o:Wm}(e:WK (inC (zB 1 h0)) h):WH h0 (zq h0 ((inC ((inC h).lay h0.n o)).set h0.n (.row cs true 0))) (.pointer (some ⟨h0.n,0,none⟩)) cs:=by
 have hn:h0.n+1<=h.n:=e.n;exact⟨h0.n,QE _,by show h0.n<h.n;omega,rfl,by
  show((h.tab.set h0.n o).set h0.n (.row cs true 0)).get h0.n=_;rw[zd,QG rfl]⟩
end
section
variable {P:Program}{tab:Wv}{ds:List Deferred}{rd:Option Nat}{h:WF}{l:List WG}{t:WI Value}
theorem Wc{G' G:Prop}(k:G')(r:Wrap G'->G:=by
  intro hgo;first|with_reducible show We _ _ _ _ (_::_) _ _ _ _ _|refine go ?_
  repeat (first|((apply We.q;rfl);refine go ?_)|refine zPS ?_|refine zPH ?_)
  first|with_reducible show We _ _ _ _ (_::_) _ _ _ _ _|refine go ?_
  exact hgo.out):G:=r ⟨k⟩
theorem gUr{G' G:Prop}(k:G')(r:Wrap G'->G:=by
  intro hgo;refine Wc ?_;refine rt ?_;exact hgo.out):G:=r ⟨k⟩
theorem XL{m N0 n g d:Nat}{cl:Bool}{y:Operand}{v:Value}{zero cs:List Value}{Q:WR->WF->Prop}(hm:m<=g)(hg:g<h.n)(hx:Q ⟨t.set d (.pointer (some ⟨g,0,none⟩)),ds,rd⟩ ((inC ((inC h).lay g (.row zero true 0))).set g (.row cs true 0)))
  (hy:WQ (t.set d (.pointer (some ⟨g,0,none⟩))) y v:=by exact zP) (hv:v.cells=cs.toArray:=by rfl) (hz:zero.length=n:=by rfl) (hn:cs.length=n:=by rfl) (h1:zH cs=true:=by rfl):
  We P tab m N0 [(⟨some d,none,.alloc zero⟩,[]),(⟨none,none,.store n (.tmp d) y⟩,[])] g cl ⟨t,ds,rd⟩ (inC h) Q:=Xc hm hg hz hn h1 hv hy hx
theorem We.upd{N0 g:Nat}{cl:Bool}{mx kx vx:Operand}{mv:Value}{a b:Int}{es:List (Int×Int)}{h0 hS:WF}{K:WP->WR->WF->Prop}(o:BJ h0 hS mv es)(e0:WK h0 hS)(hm:hS.mark<=h0.n)(hl:es.lookup a=none)
  (k:∀ h1,WK h0 h1->BJ h0 h1 mv (es++[(a,b)])->zMo mv hS h1->K .normal ⟨t,ds,rd⟩ h1) (hmx:WQ t mx mv:=by exact zP) (hkx:WQ t kx (I a):=by exact zP) (hvx:WQ t vx (I b):=by exact zP):
  We P tab hS.mark N0 [(⟨none,none,.update mx kx vx⟩,[])] g cl ⟨t,ds,rd⟩ (inC (zB 0 hS)) (B5 K hS):=by
 obtain⟨q,c,es',g1,g2,rfl,g4,g5⟩:=o;unfold WQ at hmx hkx hvx;have hf:=zCh 0 g5 hl;have g4':(inC (inC (zB 0 hS))).get q=some (.map es' c):=g4;rw[We,QC (show ¬Nat.beq (zG (W4.update mx kx vx)) 3=true from Bool.noConfusion)];refine VS undef ((inC (inC (zB 0 hS))).set q (.map (es'++[{key:=I a,val:=I b,born:=c}]) (c+1))) rfl (by simp only[WN,hmx,hkx,hvx,g4',hf]) ?_;refine WO.nil ⟨⟨fun x hx=> ?_,QE _,.inl rfl⟩,?_⟩
 ·have hx2:x∈(inC (inC (zB 0 hS))).log q:=hx;rcases yw hx2 with rfl|hx3
  ·omega
  ·cases hx3
 ·refine k (zq hS ((inC (inC (zB 0 hS))).set q (.map (es'++[{key:=I a,val:=I b,born:=c}]) (c+1)))) ?_ ?_ ?_
  ·refine⟨e0.n,fun j hj=> ?_,fun w j hj=> ?_,e0.mark,fun hmk=>e0.wr hmk⟩
   ·show(hS.tab.set q _).get j=_;rw[zd,QC (by omega)];exact e0.get j hj
   ·have hj:hS.n<=j:=hj;show(hS.tab.set q _).get j=_;rw[zd,QC (by omega)];exact e0.wf w j hj
  ·refine⟨q,c+1,es'++[{key:=I a,val:=I b,born:=c}],g1,g2,rfl,?_,by simp[g5]⟩;show(hS.tab.set q _).get q=_;rw[zd,QG rfl]
  ·refine⟨QE _,fun j _ hj=> ?_⟩;show(hS.tab.set q _).get j=_;rw[zd,QC (fun e=>hj (by rw[e]))];rfl
theorem zX{x:Operand}{v:Value}(hx:WQ t x v:=by exact zP):ev t x=v:=hx
theorem zBy{m N0 n g j:Nat}{un:List Nat}{d:Option Nat}{agg:Bool}{x:Operand}{p:Value}{cs:List Value}{h0 hs:WF}{l:List (WG×List Nat)}{fr:WR}{Q:WR->WF->Prop}(o:WH h0 hs p cs)(hN:hs.n<=N0)(hx:We P tab m N0 l g true fr (inC h) Q)
  (hr:WQ t x (zw p j):=by exact zP):uK2 P tab m N0 un t ⟨d,none,.load agg n x⟩ (inC h) l g true Q fr (inC h):=by
 refine zIB (fun k hk=> ?_) hx;obtain⟨q,q1,q2,rfl,q3⟩:=o;unfold WQ zw at hr;simp only[zi,zW,cond_true,hr,QA]at hk;omega
end
section
variable {P:Program}{tab:Wv}{t:WI Value}{h:WF}{ds:List Deferred}{rd:Option Nat}{l:List WG}{Q:WR->WF->Prop}
def fl(n:Int):Value:= .float .f64 (FloatKind.nearest .f64 n)
end
open Go.RowKit
section
variable {H:Type}
theorem zF6{enc:TypeId×Value->H}{a:Assume}{C:Checked}{os:Os}{f:FuncId}{fn:Func}{s:ChangeSpec}{conds:List PathCond}{apart fresh handsOn again:Bool}{X:World->Array Value->Prop}
  (hX:∀ (w w':World) (args:Array Value),w.heap=w'.heap->X w args->X w' args)
  (own:ownKnob C.prog.godebug=none) (started:os.Started) (noInit:C.prog.inits.idxOf? f=none) (hfn:C.prog.funcs[f]?=some fn)
  (witness:∃ (w:World) (tape:Tape) (i:Input),w.os=os/\(w.forCall tape i).Shaped C.prog/\i.vars=[]/\Input.okWide C.prog (w.forCall tape i) .any w.heap.size f i/\
   ((s.pre enc C.prog fn conds apart (w.forCall tape i).memory i.args/\X (w.forCall tape i).memory i.args)/\sizedMet enc C.prog fn (OpenSpec.ofChange s) apart (w.forCall tape i).memory i.args)/\a.holds C.prog (lone (Frame.enter C.prog f i.args .normal) [] (w.forCall tape i)))
  (contract:∀ (W:World) (base:Nat) (args:Array Value) (ds gs:List (DataW H)) (before:List MemPlace),
   (∀ (j:Nat) t v,fn.params[j]?=some t->args[j]?=some v->Value.okWide C.prog W .any base t v)->
   DataW.Whole enc C.prog fn.params.toList s.vars apart W args.toList ds gs before->
   (DataW.weightsEach C.prog (fn.params.toList++(OpenSpec.ofChange s).bare.plain.varTypes C.prog) (ds++gs)).all (·<=reachBytes)=true->X W args->W.ShapedOpen C.prog->
   Calls C.prog f args W fun e W'=>∃ v,e=.returned v/\s.post enc C.prog fn apart fresh handsOn again W args v W'):
  ReturnsInHanded a C os f .any (fun w args=>(s.pre enc C.prog fn conds apart w args/\X w args)/\sizedMet enc C.prog fn (OpenSpec.ofChange s) apart w args) (s.post enc C.prog fn apart fresh handsOn again):=by
 refine returnsInHanded_of_calls own started noInit witness ?_;intro w tape i _ hsh _ hok hpre _;obtain⟨_,_,_,fn',hfn',_,_,_,_,hval⟩:=hok;have e:fn'=fn:=Q5 (hfn'.symm.trans hfn);subst e;obtain⟨⟨_,hx⟩,_,ds,gs,before,hw,hsz⟩:=hpre;have hw':=DataW.Whole.of_heap (w':=w.forCall tape i) (by rfl) hw;refine(contract (w.forCall tape i) w.heap.size i.args ds gs before hval hw' hsz (hX _ _ _ (by rfl) hx) hsh).mono fun e W' ⟨v,he,hp⟩=> ?_;subst he;exact ChangeSpec.post_blind hp
def BB(P:Program)(t:TypeId)(d:DataW H):Prop:=∀ n∈DataW.weights P t d,n<=reachBytes
variable {P:Program}{h:WF}
theorem zDy:∀ {ts:List TypeId} {ds:List (DataW H)},(∀ n∈DataW.weightsEach P ts ds,n<=reachBytes)->∀ (i:Nat) t d,ts[i]?=some t->ds[i]?=some d->BB P t d
 |[],_,_,i,t,d,ht,_=>by simp at ht
 |_::_,[],_,i,t,d,_,hd=>by simp at hd
 |t::ts,d::ds,hw,0,_,_,ht,hd=>by
  simp at ht hd;subst ht hd;exact fun n hn=>hw n (by unfold DataW.weightsEach;simp[hn])
 |t::ts,d::ds,hw,i+1,_,_,ht,hd=>
  zDy (ts:=ts) (ds:=ds) (fun n hn=>hw n (by unfold DataW.weightsEach;simp[hn])) i _ _ (by simpa using ht) (by simpa using hd)
theorem zJd{e:TypeId}:∀ {ds:List (DataW H)},(∀ n∈DataW.weightsAll P e ds,n<=reachBytes)->∀ (i:Nat) d,ds[i]?=some d->BB P e d
 |[],_,i,d,hd=>by simp at hd
 |d::ds,hw,0,_,hd=>by
  simp at hd;subst hd;exact fun n hn=>hw n (by unfold DataW.weightsAll;simp[hn])
 |d::ds,hw,i+1,_,hd=>zJd (ds:=ds) (fun n hn=>hw n (by unfold DataW.weightsAll;simp[hn])) i _ (by simpa using hd)
theorem zFa{t e:TypeId}{elems spare:List (DataW H)}(ht:P.underlying t=some (.slice e))(hw:BB P t (.slice elems spare)):elems.length*P.bytesOf e<=reachBytes/\∀ (i:Nat) d,elems[i]?=some d->BB P e d:=by
 unfold BB at hw;unfold DataW.weights at hw;rw[ht]at hw;simp only at hw;refine⟨?_,zJd fun n hn=>hw n (by simp[hn])⟩;have:=hw _ (Q0 ..);exact QN (Qr _ (G8 _ _)) this
theorem zIZ{t:TypeId}{fs:Array Field}{parts:List (DataW H)}(ht:P.underlying t=some (.struct fs))(hw:BB P t (.agg parts))(i:Nat)(f:Field)(d:DataW H)(hf:fs[i]?=some f)(hd:parts[i]?=some d):BB P f.type d:=by
 unfold BB at hw;unfold DataW.weights at hw;rw[ht]at hw;exact zDy hw i f.type d (by simp[hf]) hd
theorem zAS{α:Type}{c:Nat}{R:WF->List Value->α->Prop}{t e:TypeId}{acs:List Value}{d:DataW H}(r:Rd P h t acs d)(ht:P.underlying t=some (.slice e))(hc:P.cellsOf e=c)(hb:1<=P.bytesOf e)(hw:BB P t d)
  (hR:∀ cs (d:DataW H),Rd P h e cs d->BB P e d->∃ a,R h cs a):∃ av l,acs=[av]/\Ww c R h av l/\(l.length:Int)<=1152921504606846976:=by
 subst hc;rcases zEH r ht with⟨rfl,_⟩|⟨a,sp,rfl,_⟩|⟨g,cells,elems,sp,rfl,rfl,hg,hn,hl,hm,hr⟩
 ·exact⟨_,[],rfl,Ww.nil,by simp⟩
 ·exact⟨_,[],rfl,⟨[],⟨by simp,.inl ⟨rfl,.inr ⟨_,_,rfl⟩⟩⟩,fun i a ha=>by simp at ha⟩,by simp⟩
 ·obtain⟨w1,w2⟩:=zFa ht hw;obtain⟨l,h1,h2⟩:=zJ2 (p:=fun i a=>R h ((cells.drop (i*P.cellsOf e)).take (P.cellsOf e)) a) elems.length fun i hi=>hR _ _ (hr i _ (QB hi)) (w2 i _ (QB hi));refine⟨_,l,rfl,⟨cells,⟨by rw[h1];exact hl,.inr ⟨g,0,cells,by rw[h1],by simp[zv,hg],?_,hn⟩⟩,h2⟩,?_⟩
  ·rw[h1,<-hl];simp[cut,QF (QE _)]
  ·have:elems.length<=elems.length*P.bytesOf e:=Nat.le_mul_of_pos_right _ hb;unfold reachBytes at w1;rw[h1];omega
theorem zEX{t e:TypeId}{acs:List Value}{d:DataW H}(r:Rd P h t acs d)(ht:P.underlying t=some (.slice e))(he:P.underlying e=some (.int .i64))(hc:P.cellsOf e=1)(hb:1<=P.bytesOf e)(hw:BB P t d):
  ∃ av l,acs=[av]/\Wd h av l/\(l.length:Int)<=1152921504606846976/\∀ a∈l,(Lit.int .i64 a).wf=true:=by
 obtain⟨av,l,h1,h2,_,h4⟩:=zPB r ht he hc;refine⟨av,l,h1,h2,?_,h4⟩;rcases zEH r ht with⟨rfl,_⟩|⟨a,sp,rfl,_⟩|⟨g,cells,elems,sp,rfl,rfl,_⟩
 ·cases h1;have:=h2.len (P:=P) (ih:=Ex.bot) (t:= .leaf) (x:= .const (.slice none 0 0)) rfl;rcases h2 with⟨_,⟨h0,_⟩|⟨g,off,row,hv,_⟩⟩
  ·omega
  ·cases hv
 ·cases h1;rcases h2 with⟨_,⟨h0,_⟩|⟨g,off,row,hv,_⟩⟩
  ·omega
  ·injection hv with _ e2 _;omega
 ·cases h1;obtain⟨w1,_⟩:=zFa ht hw;have hle:elems.length<=elems.length*P.bytesOf e:=Nat.le_mul_of_pos_right _ hb;unfold reachBytes at w1;rcases h2 with⟨_,⟨h0,_⟩|⟨g,off,row,hv,_⟩⟩
  ·omega
  ·injection hv with _ e2 _;omega
theorem Zb{t:TypeId}{fs:Array Field}{acs:List Value}{d:DataW H}(r:Rd P h t acs d)(ht:P.underlying t=some (.struct fs))(hw:BB P t d):
  acs.length=P.cellsOf t/\∀ (i:Nat) (f:Field),fs[i]?=some f->∃ d:DataW H,Rd P h f.type ((acs.drop f.offset).take (P.cellsOf f.type)) d/\BB P f.type d:=by
 cases r with
 |int n ht' wf=>rw[ht]at ht';cases ht'
 |bool _ ht'=>rw[ht]at ht';cases ht'
 |string _ ht'=>rw[ht]at ht';cases ht'
 |snil ht'=>rw[ht]at ht';cases ht'
 |szero a sp ht'=>rw[ht]at ht';cases ht'
 |slice g cells elems sp ht' hg hn hl hm hr=>rw[ht]at ht';cases ht'
 |array _ _ ht'=>rw[ht]at ht';cases ht'
 |struct cells parts ht' hl hp hr=>
  rw[ht]at ht';cases ht';refine⟨hl,fun i f hf=> ?_⟩;have hi:i<parts.length:=by rw[hp];exact(Gs.1 hf).1
  exact⟨_,hr i f _ hf (QB hi),zIZ ht hw i f _ hf (QB hi)⟩
end
section
variable {H:Type}{P:Program}{h:WF}
end
def Wx(h:WF)(g:Nat)(o:Wm):Prop:=g<h.n/\h.get g=some o
def zJ5:Wm->Bool
 | .loop .. | .deferred .. =>true
 |_=>false
theorem Wx.ext{h h':WF}{g:Nat}{o:Wm}(k:Wx h g o)(e:WK h h'):Wx h' g o:=⟨QK k.1 e.n,(e.get g k.1).trans k.2⟩
theorem Wx.updC{h0 h h':WF}{g:Nat}{o:Wm}{p:Value}{cs:List Value}(k:Wx h g o)(hr:zJ5 o=true)(w:WH h0 h p cs)(u:Ws p h h'):Wx h' g o:=by
 refine⟨QK k.1 u.1,(u.2 g k.1 fun e=> ?_).trans k.2⟩;obtain⟨g2,_,_,rfl,hg⟩:=w;cases e;have:=k.2;rw[hg]at this;cases this;cases hr
theorem Wx.upd{h0 h h':WF}{g:Nat}{o:Wm}{v:Value}{xs:List Int}(k:Wx h g o)(hr:zJ5 o=true)(w:Wb h0 h v xs)(u:Bh v h h'):Wx h' g o:=by
 refine⟨QK k.1 u.1,(u.2 g k.1 fun a n c hv e=> ?_).trans k.2⟩;rcases w with⟨rfl,_⟩|⟨g2,_,_,rfl,hg⟩
 ·cases hv
 ·cases hv;simp only at e;subst e;have:=k.2;rw[hg]at this;cases this;cases hr
theorem Wx.set{h:WF}{g l:Nat}{o p:Wm}(k:Wx h g o)(hne:g≠l):Wx (h.set l p) g o:=⟨k.1,by rw[zT,QC hne];exact k.2⟩
theorem Wx.self{h:WF}{g:Nat}{o p:Wm}(k:Wx h g o):Wx (h.set g p) g p:=⟨k.1,by rw[zT,QG rfl]⟩
theorem WH.setR{h0 h:WF}{p:Value}{cs:List Value}{l:Nat}{o o':Wm}(w:WH h0 h p cs)(k:Wx h l o)(hr:zJ5 o=true):WH h0 (h.set l o') p cs:=by
 obtain⟨g,a,b,c,d⟩:=w;refine⟨g,a,b,c,?_⟩;rw[zT,QC (fun e=> ?_)]
 ·exact d
 ·subst e;have:=k.2;rw[d]at this;cases this;cases hr
theorem Wb.setR{h0 h:WF}{v:Value}{xs:List Int}{l:Nat}{o o':Wm}(w:Wb h0 h v xs)(k:Wx h l o)(hr:zJ5 o=true):Wb h0 (h.set l o') v xs:=by
 rcases w with w|⟨g,a,b,c,d⟩
 ·exact .inl w
 ·refine .inr ⟨g,a,b,c,?_⟩;rw[zT,QC (fun e=> ?_)]
  ·exact d
  ·subst e;have:=k.2;rw[d]at this;cases this;cases hr
theorem zBq{t:WI Value}{d:Option Nat}{g:Option (Nat×Bool)}{f:Operand}{args:List Operand}:zi t ⟨d,g,.call f args⟩=none:=by
 unfold zi;cases zW t g<;>rfl
section
variable {P:Program}{tab:Wv}{m N0 g:Nat}{un:List Nat}{t:WI Value}{h h':WF}{x:WG×List Nat}{l:List (WG×List Nat)}{fr:WR}{Q:WR->WF->Prop}
theorem nE{d:Option Nat}{gd:Option (Nat×Bool)}{f:Operand}{as:List Operand}(e:WK (inC h) h')(hx:We P tab m N0 (x::l) g true fr (inC h') Q):WO P tab [] fr h' (uK2 P tab m N0 un t ⟨d,gd,.call f as⟩ (inC h) (x::l) g true Q):=WO.nil (zPN e zBq hx)
theorem nQ{cl:Bool}{o:WG}(hx:We P tab m N0 l g cl fr (inC h) Q):WO P tab [] fr (inC h) (uK2 P tab m N0 [] t o (inC h) l g cl Q):=WO.nil (zPS hx)
end
section
variable {P:Program}{tab:Wv}
attribute [local semireducible] WX WV WC Ev
def zPY(l:Nat)(Q:Value->WF->Prop):WP->WR->WF->Prop
 | .normal,fr,h2=>fr.dfs=[]/\∃ r2,Wx h2 l (.loop r2)/\Q (.bool true) (h2.set l (.loop {r2 with state:= .ready,pending:=none}))
 |_,_,_=>False
def zOG(P:Program)(tab:Wv)(l:Nat)(r:W2)(h0:WF)(Q:Value->WF->Prop):WP->WR->WF->Prop
 | .normal,fr,h=>h=h0/\WX P tab r.body fr (h.set l (.loop {r with state:= .busy})) (zPY l Q)
 |_,_,_=>False
theorem WV.yield{l args h Q a b}{r:W2}(hl:Wx h l (.loop r))(hr:r.state=.ready)(hn:Nat.beq args.length r.params.length=true)
  (hx:WX P tab r.assign ⟨zBT r.params args r.tm,[],some l⟩ h (zOG P tab l r h Q)):WV P tab (.func (.yield l) a b) args h Q:=by
 obtain⟨e,fr,h1,k,ev⟩:=hx;cases e with
 |normal=>
  obtain⟨rfl,e2,fr2,h2,k2,ev2⟩:=k;cases e2 with
  |normal=>
   obtain⟨kd,r2,hl2,hq⟩:=k2;refine⟨_,_,hq,(ev.and ev2).mono fun n ⟨x1,x2⟩=> ?_⟩;have h1:=hl.2;have h2:=hl2.2;simp only[zAK,h1,hn,cond_true,zAd,x1,hr,x2,kd,h2,ZL]
  |exit i=>exact k2.elim
  |goto i=>exact k2.elim
  |ret=>exact k2.elim
 |exit i=>exact k.elim
 |goto i=>exact k.elim
 |ret=>exact k.elim
def zNd(t:WI Value)(ps:List Nat)(a b:WU)(d:Nat):W2:={state:= .ready,pending:=none,fn:=0,tm:=t,params:=ps,assign:=a,body:=b,defers:=d}
def zDA(h:WF)(t:WI Value)(ps:List Nat)(a b:WU):WF:=(h.push (.deferred (some []))).push (.loop (zNd t ps a b h.n))
theorem zKp(h:WF)(t ps a b):WK h (zDA h t ps a b):=((WK.refl h).push _).push _
theorem zLI(h:WF)(t ps a b):Wx (zDA h t ps a b) h.n (.deferred (some [])):=by
 refine⟨by simp[zDA,WF.push];omega,?_⟩;unfold zDA;rw[zY,QC (by simp[WF.push]),zY,QG rfl]
theorem zIi(h:WF)(t ps a b):Wx (zDA h t ps a b) (h.n+1) (.loop (zNd t ps a b h.n)):=by
 refine⟨by simp[zDA,WF.push],?_⟩;unfold zDA;rw[zY,QG (by simp[WF.push])]
theorem XT{f ps a b t ds h K}(hx:WV P tab (ev t f) [.func (.yield (h.n+1)) #[] #[]] (zDA h t ps a b) fun _ h2=>∃ r,Wx h2 (h.n+1) (.loop r)/\r.state=.ready/\r.pending=none/\
   K .normal ⟨t,{target:= .collected h.n,args:=#[]}::ds,none⟩ (h2.set (h.n+1) (.loop {r with state:= .exhausted}))):WX P tab (.rangeFunc f ps a b) ⟨t,ds,none⟩ h K:=by
 obtain⟨v,h2,⟨r,hl,hs,hp,hk⟩,ev⟩:=hx;refine⟨_,_,_,hk,Ev.up (ev.mono fun n e=> ?_)⟩;rw[zo];simp only[zh,zAe,Yu];have hn:(h.push (.deferred (some []))).n=h.n+1:=rfl;have e':zAK (BI P tab n) (Am.ev t f) [.func (.yield (h.push (.deferred (some []))).n) #[] #[]] ((h.push (.deferred (some []))).push (.loop {state:= .ready,pending:=none,fn:=0,tm:=t,params:=ps,assign:=a,body:=b,defers:=h.n}))=some (v,h2):=e;rw[e'];have hl2:=hl.2;simp only[hn,hl2,hs,hp,List.singleton_append]
theorem zHP{rs Q t rd h g}(hg:Wx h g (.deferred (some [])))(hx:zEB P tab rs Q .ret ⟨t,[],rd⟩ (h.set g (.deferred none))):zEB P tab rs Q .ret ⟨t,[{target:= .collected g,args:=#[]}],rd⟩ h:=by
 unfold zEB at *;exact WD.collected hg.2 hx
theorem Vw{h:WF}{t:WI Value}{j n:Nat}{p v:Value}{h0:WF}{cs:List Value}{rs:List (Nat×Option (Bool×Nat))}{vs:List Value}(s:Wq t j p)(o:WH h0 h p cs)(hr:(cut cs 0 n).bind (zI false)=some v)(k:Wz h t rs vs):Wz h t ((j,some (false,n))::rs) (v::vs):=by
 obtain⟨g,_,_,rfl,hg⟩:=o;unfold Wz at *;unfold Wq at s;simp only[z0,YM,s,ZO hg,Qf,cond_true,QQ,hr,k]
structure Ready(r:W2)(t:WI Value)(ps:List Nat)(a b:WU):Prop where
 st:r.state=.ready
 pd:r.pending=none
 tm:r.tm=t
 ps:r.params=ps
 as:r.assign=a
 bd:r.body=b
def busy(r:W2):W2:={r with state:= .busy}
def zPz(L:Nat)(r:W2)(Q:Value->WF->Prop):WP->WR->WF->Prop
 | .normal,fr,h2=>fr.dfs=[]/\Wx h2 L (.loop (busy r))/\Q (.bool true) (h2.set L (.loop r))
 |_,_,_=>False
theorem zC7{L r Q t rd h}(hl:Wx h L (.loop (busy r)))(hq:Q (.bool true) (h.set L (.loop r))):zPz L r Q .normal ⟨t,[],rd⟩ h:=⟨rfl,hl,hq⟩
def zQf(P:Program)(tab:Wv)(L:Nat)(r:W2)(b:WU)(h:WF)(Q:Value->WF->Prop):WP->WR->WF->Prop
 | .normal,fr,h'=>h'=h/\WX P tab b fr (h.set L (.loop (busy r))) (zPz L r Q)
 |_,_,_=>False
theorem zDD{L r b h Q fr}(hx:∀ h',h'=h.set L (.loop (busy r))->WX P tab b fr h' (zPz L r Q)):zQf P tab L r b h Q .normal fr h:=⟨rfl,hx _ rfl⟩
theorem Vy{L args h Q t ps a b x y}{r:W2}(hl:Wx h L (.loop r))(hr:Ready r t ps a b)(hn:Nat.beq args.length ps.length=true)
  (hx:WX P tab a ⟨zBT ps args t,[],some L⟩ h (zQf P tab L r b h Q)):WV P tab (.func (.yield L) x y) args h Q:=by
 obtain⟨h1,h2,rfl,rfl,rfl,rfl⟩:=hr;refine WV.yield hl h1 hn ?_;refine WX.mono hx fun e fr h' k=> ?_;cases e with
 |normal=>
  refine⟨k.1,?_⟩;obtain⟨e1,k⟩:=k;subst e1;refine WX.mono k fun e fr h' k=> ?_;cases e with
  |normal=>
   obtain⟨k1,k2,k3⟩:=k;refine⟨k1,_,k2,?_⟩;have:({busy r with state:= .ready,pending:=none}:W2)=r:=by
    cases r;simp only[busy]at *;simp_all
   rw[this];exact k3
  |exit i=>exact k.elim
  |goto i=>exact k.elim
  |ret=>exact k.elim
 |exit i=>exact k.elim
 |goto i=>exact k.elim
 |ret=>exact k.elim
theorem Vv{f ps a b t ds h K}{fv:Value}(hx:∀ (L g:Nat) (r:W2) (hO:WF),Ready r t ps a b->WK h hO->h.n<=L->h.n<=g->Wx hO L (.loop r)->Wx hO g (.deferred (some []))->
   WV P tab fv [.func (.yield L) #[] #[]] hO fun _ h2=>Wx h2 L (.loop r)/\∀ r3,K .normal ⟨t,{target:= .collected g,args:=#[]}::ds,none⟩ (h2.set L (.loop r3))) (hf:WQ t f fv:=by exact zX):WX P tab (.rangeFunc f ps a b) ⟨t,ds,none⟩ h K:=by
 refine XT ?_;have hf:Am.ev t f=fv:=hf;rw[hf];refine WV.mono (hx (h.n+1) h.n _ _ ⟨rfl,rfl,rfl,rfl,rfl,rfl⟩ (zKp h t ps a b) (GO _) (QE _) (zIi ..) (zLI ..)) fun _ h2 ⟨k1,k2⟩=> ?_;exact⟨_,k1,rfl,rfl,k2 _⟩
end
structure Wu(p:Prop):Prop where
 out:p
def swp(xs:List Int)(i j:Int):List Int:=(xs.set i.toNat (xs.getD j.toNat 0)).set j.toNat (xs.getD i.toNat 0)
abbrev WT(xs:List Int)(i:Int):Int:=xs.getD i.toNat 0
theorem zIw(xs:List Int)(i j:Int):(swp xs i j).length=xs.length:=by simp[swp]
theorem zBF{xs:List Int}{i:Nat}{v:Int}{k:Nat}(hi:i<xs.length):(xs.set i v).getD k 0=if k=i then v else xs.getD k 0:=by
 simp only[QL,List.getElem?_set];by_cases h:i=k
 ·subst h;simp[hi]
 ·rw[QC h,QC (fun e=>h e.symm)]
theorem yV{xs:List Int}{i j k:Int}(hi:0<=i/\i<xs.length)(hj:0<=j/\j<xs.length)(hk:0<=k):WT (swp xs i j) k=if k=j then WT xs i else if k=i then WT xs j else WT xs k:=by
 unfold WT swp;rw[zBF (by simp;omega),zBF (by omega)];have e1:(k.toNat=j.toNat)↔k=j:=by omega
 have e2:(k.toNat=i.toNat)↔k=i:=by omega
 simp only[e1,e2]
theorem zCq(c v:Int):∀ (xs:List Int) (i:Nat),i<xs.length->(xs.set i v).count c+(if xs.getD i 0=c then 1 else 0)=xs.count c+(if v=c then 1 else 0)
 |[],i,h=>by simp at h
 |x::xs,0,_=>by
  simp only[List.set_cons_zero,List.count_cons,List.getD_cons_zero,beq_iff_eq];omega
 |x::xs,i+1,h=>by
  have:=zCq c v xs i (by simpa using h);simp only[List.set_cons_succ,List.count_cons,List.getD_cons_succ,beq_iff_eq]at *;omega
theorem zMx{xs:List Int}{i j:Int}(hi:0<=i/\i<xs.length)(hj:0<=j/\j<xs.length):(swp xs i j).Perm xs:=by
 rw[List.perm_iff_count];intro c;have h1:=zCq c (xs.getD j.toNat 0) xs i.toNat (by omega);have h2:=zCq c (xs.getD i.toNat 0) (xs.set i.toNat (xs.getD j.toNat 0)) j.toNat (by simp;omega);rw[zBF (by omega)]at h2;unfold swp;by_cases e:j.toNat=i.toNat
 ·rw[QG e]at h2;rw[e]at h1 h2 |-;omega
 ·rw[QC e]at h2;omega
structure PI(a b:Int)(xs ys:List Int):Prop where
 len:ys.length=xs.length
 perm:ys.Perm xs
 out:∀ k:Int,0<=k->(k<a\/b<=k)->WT ys k=WT xs k
theorem PI.refl(a b:Int)(xs:List Int):PI a b xs xs:=⟨rfl,.refl _,fun _ _ _=>rfl⟩
theorem PI.trans{a b:Int}{xs ys zs:List Int}(h:PI a b xs ys)(k:PI a b ys zs):PI a b xs zs:=⟨k.len.trans h.len,k.perm.trans h.perm,fun i h0 hi=>(k.out i h0 hi).trans (h.out i h0 hi)⟩
theorem PI.mono{a b a' b':Int}{xs ys:List Int}(h:PI a b xs ys)(ha:a'<=a)(hb:b<=b'):PI a' b' xs ys:=⟨h.len,h.perm,fun k h0 hk=>h.out k h0 (by omega)⟩
theorem PI.swp{a b i j:Int}{xs:List Int}(h0:0<=a)(hb:b<=xs.length)(hi:a<=i/\i<b)(hj:a<=j/\j<b):PI a b xs (swp xs i j):=
 ⟨zIw ..,zMx (by omega) (by omega),fun k hk ho=>by rw[yV (by omega) (by omega) hk,QC (by omega),QC (by omega)]⟩
theorem zEE(xs:List Int)(a b:Nat)(hab:a<=b):xs=xs.take a++((xs.drop a).take (b-a)++xs.drop b):=by
 have:xs.drop b=(xs.drop a).drop (b-a):=by rw[Gb];congr 1;omega
 rw[this,GG,GG]
theorem zCJ{xs ys:List Int}(hl:xs.length=ys.length)(h:∀ k:Nat,k<xs.length->xs.getD k 0=ys.getD k 0):xs=ys:=by
 apply List.ext_getElem hl;intro i h1 h2;have:=h i h1;simpa [List.getD,QB h1,QB h2]using this
theorem PI.all{a b:Int}{xs ys:List Int}(h:PI a b xs ys)(h0:0<=a)(hb:b<=xs.length){p:Int->Prop}(hp:∀ k,a<=k->k<b->p (WT xs k)):∀ k,a<=k->k<b->p (WT ys k):=by
 intro k hk1 hk2;obtain⟨A,rfl⟩:∃ A:Nat,a=A:=⟨a.toNat,by omega⟩;obtain⟨B,rfl⟩:∃ B:Nat,b=B:=⟨b.toNat,by omega⟩;have hl:=h.len;have e1:=zEE xs A B (by omega);have e2:=zEE ys A B (by omega);have t1:ys.take A=xs.take A:=zCJ (by simp[hl]) fun k hk=>by
  have hk':k<A:=by simp at hk;omega
  have:=h.out (k:Int) (by omega) (by omega);simpa [WT,QL,Q4,hk']using this
 have t2:ys.drop B=xs.drop B:=zCJ (by simp[hl]) fun k hk=>by
  have:=h.out ((B+k:Nat):Int) (by omega) (by omega);simp only[WT,Q7]at this;simpa [QL,Q8]using this
 have hp':=h.perm;rw[e1,e2,t1,t2]at hp';have hs:=(List.perm_append_right_iff _).1 ((List.perm_append_left_iff _).1 hp');have hmem:WT ys k∈(ys.drop A).take (B-A):=by
  rw[Gi];refine⟨k.toNat-A,?_⟩;rw[Q4,QG (by omega),Q8,show A+(k.toNat-A)=k.toNat by omega];unfold WT;rw[QL,QB (by omega)];rfl
 obtain⟨m,hm⟩:=Gi.1 (hs.mem_iff.1 hmem);rw[Q4]at hm;split at hm
 ·rename_i hlt;rw[Q8]at hm;have:=hp ((A+m:Nat):Int) (by omega) (by omega);unfold WT at this;rw[Q7,QL,hm]at this;exact this
 ·cases hm
def Bi(a b:Int)(xs:List Int):Prop:=∀ i j:Int,a<=i->i<=j->j<b->WT xs i<=WT xs j
theorem Bi.small{a b:Int}{xs:List Int}(h:b<=a+1):Bi a b xs:=fun i j h1 h2 h3=>by
 have:i=j:=by omega
 subst this;exact Qh _
theorem zIp{xs ys:List Int}(h:ys.Perm xs)(s:Bi 0 ys.length ys):ys=xs.mergeSort (fun a b=>decide (a<=b)):=by
 have hp:ys.Pairwise (fun a b=>decide (a<=b)=true):=by
  rw[List.pairwise_iff_getElem];intro i j hi hj hij;have:=s (i:Int) (j:Int) (by omega) (by omega) (by omega);simp only[WT,Q7,QL,QB hi,QB hj,Q1]at this;simpa using this
 refine List.Perm.eq_of_pairwise (le:=fun a b=>decide (a<=b)=true) (fun a b _ _ h1 h2=> ?_) hp ?_ (h.trans (List.mergeSort_perm xs _).symm)
 ·simp only[QY]at h1 h2;omega
 ·exact List.pairwise_mergeSort (fun a b c h1 h2=>by simp only[QY]at *;omega) (fun a b=>by simp only[GM,QY];omega) xs
theorem zAL(h:WF):zq h (inC (zB 0 h))=h:=rfl
theorem zH8{a i j:Int}{zs:List Int}(h0:0<=a)(hj:a<j)(hji:j<=i)(hil:i<zs.length)(hlt:WT zs j<WT zs (j-1))(r:∀ p q,a<=p->p<=q->q<=i->q≠j->WT zs p<=WT zs q):∀ p q,a<=p->p<=q->q<=i->q≠j-1->WT (swp zs j (j-1)) p<=WT (swp zs j (j-1)) q:=by
 intro p q h1 h2 h3 h4;rw[yV (by omega) (by omega) (by omega),yV (by omega) (by omega) (by omega),QC h4];by_cases hq:q=j
 ·rw[QG hq];by_cases hp:p=j-1
  ·rw[QG hp];omega
  ·rw[QC hp];by_cases hp2:p=j
   ·rw[QG hp2];exact Qh _
   ·rw[QC hp2];exact r p (j-1) h1 (by omega) (by omega) (by omega)
 ·rw[QC hq];by_cases hp:p=j-1
  ·rw[QG hp];exact r j q (by omega) (by omega) h3 hq
  ·rw[QC hp];by_cases hp2:p=j
   ·rw[QG hp2];exact r (j-1) q (by omega) (by omega) h3 hq
   ·rw[QC hp2];exact r p q h1 h2 h3 hq
theorem Bh.trans{v:Value}{h h1 h2:WF}(a:Bh v h h1)(b:Bh v h1 h2):Bh v h h2:=⟨QN a.1 b.1,fun g hg hv=>(b.2 g (QK hg a.1) hv).trans (a.2 g hg hv)⟩
theorem Bh.refl(v:Value)(h:WF):Bh v h h:=⟨QE _,fun _ _ _=>rfl⟩
structure SS(hB h:WF)(v:Value)(a b:Int)(xs ys:List Int)(h1:WF):Prop where
 own:Wn hB h1 v ys
 ext:WK hB h1
 upd:Bh v h h1
 pi:PI a b xs ys
theorem VU{hB h:WF}{v:Value}{xs:List Int}(a b:Int)(o:Wn hB h v xs)(e:WK hB h):SS hB h v a b xs xs h:=⟨o,e,Bh.refl v h,PI.refl ..⟩
theorem SS.swp{hB h h1 h3:WF}{v:Value}{a b i j:Int}{xs ys:List Int}(s:SS hB h v a b xs ys h1)(e3:WK hB h3)(o3:Wn hB h3 v (swp ys i j))(u3:Bh v h1 h3)(h0:0<=a)(hb:b<=xs.length)(hi:a<=i/\i<b)(hj:a<=j/\j<b):SS hB h v a b xs (swp ys i j) h3:=
 ⟨o3,e3,s.upd.trans u3,s.pi.trans (PI.swp h0 (by rw[s.pi.len];exact hb) hi hj)⟩
theorem SS.call{hB h h1 h2:WF}{v:Value}{a b c d:Int}{xs ys zs:List Int}(s:SS hB h v a b xs ys h1)(k:SS hB h1 v c d ys zs h2)(ha:a<=c)(hb:d<=b):SS hB h v a b xs zs h2:=
 ⟨k.own,k.ext,s.upd.trans k.upd,s.pi.trans (k.pi.mono ha hb)⟩
theorem Ws.trans{p:Value}{h h1 h2:WF}(a:Ws p h h1)(b:Ws p h1 h2):Ws p h h2:=⟨QN a.1 b.1,fun g hg hv=>(b.2 g (QK hg a.1) hv).trans (a.2 g hg hv)⟩
theorem SS.extd{hB h h1 h2:WF}{v:Value}{a b:Int}{xs ys:List Int}(s:SS hB h v a b xs ys h1)(e:WK h1 h2):SS hB h v a b xs ys h2:=
 ⟨s.own.ext e,s.ext.trans e,s.upd.trans ⟨e.n,fun g hg _=>e.get g hg⟩,s.pi⟩
theorem SS.updC{hB h h1 h2:WF}{v:Value}{a b:Int}{xs ys:List Int}{g:Nat}(s:SS hB h v a b xs ys h1)(o:Wn hB h v xs)(hg:h.n<=g)(e:WK hB h2)(u:Ws (.pointer (some ⟨g,0,none⟩)) h1 h2):SS hB h v a b xs ys h2:=by
 obtain⟨q,q1,q2,qv,q3⟩:=s.own;obtain⟨q',_,q2',qv',_⟩:=o;rw[qv,s.pi.len]at qv';cases qv';refine⟨⟨q,q1,QK q2 u.1,qv,(u.2 q q2 fun e=>by cases e;omega).trans q3⟩,e,⟨QN s.upd.1 u.1,fun k hk hv=>(u.2 k (QK hk s.upd.1) fun e=>by cases e;omega).trans (s.upd.2 k hk hv)⟩,s.pi⟩
theorem WH.updV{hB hA h h1 h2:WF}{v:Value}{xs:List Int}{g:Nat}{cs:List Value}(w:WH hA h1 (.pointer (some ⟨g,0,none⟩)) cs)(o:Wn hB h v xs)(hg:h.n<=g)(u:Bh v h1 h2):WH hA h2 (.pointer (some ⟨g,0,none⟩)) cs:=by
 obtain⟨q',_,q2',rfl,_⟩:=o;obtain⟨g',g1,g2,gv,g3⟩:=w;cases gv;exact⟨g,g1,QK g2 u.1,rfl,(u.2 g g2 fun a n c e=>by cases e;simp only;omega).trans g3⟩
theorem WH.offC{hA h h':WF}{p:Value}{cs:List Value}{g4:Nat}(o:WH hA h p cs)(u:Ws (.pointer (some ⟨g4,0,none⟩)) h h')(hg:g4<hA.n):WH hA h' p cs:=by
 obtain⟨g,g1,g2,rfl,g3⟩:=o;exact⟨g,g1,QK g2 u.1,rfl,(u.2 g g2 fun e=>by cases e;omega).trans g3⟩
theorem Wb.offC{hA h h':WF}{v:Value}{xs:List Int}{g4:Nat}(o:Wb hA h v xs)(u:Ws (.pointer (some ⟨g4,0,none⟩)) h h')(hg:g4<hA.n):Wb hA h' v xs:=by
 rcases o with o|⟨g,g1,g2,rfl,g3⟩
 ·exact .inl o
 ·exact .inr ⟨g,g1,QK g2 u.1,rfl,(u.2 g g2 fun e=>by cases e;omega).trans g3⟩
theorem Ws.setL{p:Value}{h h':WF}{L:Nat}{o:Wm}(u:Ws p h h')(hL:h.n<=L):Ws p h (h'.set L o):=⟨u.1,fun g hg hv=>by rw[zT,QC (by omega)];exact u.2 g hg hv⟩
theorem Ws.extd{p:Value}{h h' h2:WF}(u:Ws p h h')(e:WK h' h2):Ws p h h2:=⟨QN u.1 e.n,fun g hg hv=>(e.get g (QK hg u.1)).trans (u.2 g hg hv)⟩
theorem Ws.upd{p w:Value}{h h' h2:WF}{xs:List Int}(u:Ws p h h')(o:Wb h h' w xs)(u2:Bh w h' h2):Ws p h h2:=⟨QN u.1 u2.1,fun g hg hv=>by
 refine(u2.2 g (QK hg u.1) fun a n c e=> ?_).trans (u.2 g hg hv);rcases o with⟨rfl,_⟩|⟨q,q1,_,rfl,_⟩
 ·cases e
 ·cases e;simp only;omega⟩
theorem Ws.refl(p:Value)(h:WF):Ws p h h:=⟨QE _,fun _ _ _=>rfl⟩
theorem Wn.rebase{hA hB h:WF}{g n k:Nat}{xs:List Int}(o:Wn hA h (.slice (some ⟨g,0,none⟩) n k) xs)(hg:hB.n<=g):Wn hB h (.slice (some ⟨g,0,none⟩) n k) xs:=by
 obtain⟨q,q1,q2,qv,q3⟩:=o;cases qv;exact⟨g,hg,q2,rfl,q3⟩
theorem SS.len{hB h h1:WF}{v:Value}{a b:Int}{xs ys:List Int}(k:SS hB h v a b xs ys h1):ys.length=xs.length:=k.pi.len
section
variable {P:Program}{tab:Wv}{t:WI Value}{ds:List Deferred}{rd:Option Nat}
theorem Xw{N0 g d:Nat}{cl:Bool}{x y z w u:Operand}{v:Value}{xs:List Int}{i j:Nat}{h0 hS:WF}{K:WP->WR->WF->Prop}{va vb:Int}(o:Wn h0 hS v xs)(e0:WK h0 hS)(hm:hS.mark<=h0.n)
  (hx:ev t x=zR v i) (hy:ev t y=I va) (hi:i<xs.length) (hj:j<xs.length) (hz:ev t z=v) (hw:BH (ev t w)=some j) (hu:ev (t.set d (zR v j)) u=I vb)
  (k:∀ h1,WK h0 h1->Wn h0 h1 v ((xs.set i va).set j vb)->Bh v hS h1->K .normal ⟨t.set d (zR v j),ds,rd⟩ h1):
  We P tab hS.mark N0 [(⟨none,none,.store 1 x y⟩,[]),(⟨some d,none,.idx 1 z w⟩,[]),(⟨none,none,.store 1 (.tmp d) u⟩,[])] g cl ⟨t,ds,rd⟩ (inC (zB 0 hS)) (B5 K hS):=by
 obtain⟨q,g1,g2,rfl,g3⟩:=o;rw[We,QC (show ¬Nat.beq (zG (W4.store 1 x y)) 3=true from Bool.noConfusion)];have hst1:ze (inC (inC (zB 0 hS))) ⟨q,i,none⟩ [I va]=some ((inC (inC (zB 0 hS))).set q (.row (zO (xs.map I) i [I va]) true 0)):=by
  have h1:Nat.ble (i+1) (xs.map I).length=true:=QF (by simp;omega);have h0:Nat.ble 0 i=true:=QF (QU _);have g3':(inC (inC (zB 0 hS))).get q=some (.row (xs.map I) true 0):=g3;simp only[ze,g3',QZ,h1,h0,Qn];rfl
 rw[zAT _ _ _ hi]at hst1;have hc:∀ a,(I a).cells=#[I a]:=fun _=>rfl;refine VS undef ((inC (inC (zB 0 hS))).set q (.row ((xs.set i va).map I) true 0)) rfl (by
  simp only[WN,hx,zR,hy,Qk,hc,hst1,QH];rfl) ?_
 refine WO.nil ⟨⟨fun k hk=> ?_,QE _,.inl rfl⟩,?_⟩
 ·have hk2:k∈(inC (inC (zB 0 hS))).log q:=hk;rcases yw hk2 with rfl|hk3
  ·omega
  ·cases hk3
 generalize hh1:(inC (inC (zB 0 hS))).set q (.row ((xs.set i va).map I) true 0)=h1;have n1:h1.n=hS.n:=by rw[<-hh1];rfl
 have get1:∀ k,h1.get k=if k=q then some (.row ((xs.set i va).map I) true 0)else hS.get k:=fun k=>by
  rw[<-hh1,zT];rfl
 rw[We,QC (show ¬Nat.beq (zG (W4.idx 1 z w)) 3=true from Bool.noConfusion)];have hb:Nat.ble (j+1) xs.length=true:=QF hj;refine WO.op (zR (.slice (some ⟨q,0,none⟩) xs.length 1) j) (inC h1) rfl (by
  have hz':ev t z=.slice (some ⟨q,0,none⟩) xs.length 1:=hz;simp[WN,hz',hw,hb,zR]) ?_
 refine WO.nil ⟨⟨fun k hk=>(by cases hk),QE _,.inl rfl⟩,?_⟩;rw[We,QC (show ¬Nat.beq (zG (W4.store 1 (.tmp d) u)) 3=true from Bool.noConfusion)];have hst2:ze (inC (inC h1)) ⟨q,j,none⟩ [I vb]=some ((inC (inC h1)).set q (.row (zO ((xs.set i va).map I) j [I vb]) true 0)):=by
  have h1':Nat.ble (j+1) ((xs.set i va).map I).length=true:=QF (by simp;omega);have h0:Nat.ble 0 j=true:=QF (QU _);have g3':(inC (inC h1)).get q=some (.row ((xs.set i va).map I) true 0):=by
   have:=get1 q;rw[QG rfl]at this;exact this
  simp only[ze,g3',QZ,h1',h0,Qn];rfl
 rw[zAT _ _ _ (by simp;omega)]at hst2;refine VS undef ((inC (inC h1)).set q (.row (((xs.set i va).set j vb).map I) true 0)) rfl (by
  have e1:ev (t.set d (zR (.slice (some ⟨q,0,none⟩) xs.length 1) j)) (.tmp d)=zR (.slice (some ⟨q,0,none⟩) xs.length 1) j:=by simp only[ev,yH,Q9]
  have hp:zR (.slice (some ⟨q,0,none⟩) xs.length 1) j=.pointer (some ⟨q,j,none⟩):=by simp[zR]
  rw[hp]at e1 hu;rw[hp];simp only[WN,e1,hu,hc,hst2,QH];rfl) ?_
 refine WO.nil ⟨⟨fun k hk=> ?_,QE _,.inl rfl⟩,?_⟩
 ·have hk2:k∈(inC (inC h1)).log q:=hk;rcases yw hk2 with rfl|hk3
  ·omega
  ·cases hk3
 have get2:∀ k,(zq hS ((inC (inC h1)).set q (.row (((xs.set i va).set j vb).map I) true 0))).get k=if k=q then some (.row (((xs.set i va).set j vb).map I) true 0)else hS.get k:=fun k=>by
  have e1:((inC (inC h1)).set q (.row (((xs.set i va).set j vb).map I) true 0)).get k=if k=q then some (.row (((xs.set i va).set j vb).map I) true 0)else(inC (inC h1)).get k:=zT ..;have e2:(inC (inC h1)).get k=h1.get k:=rfl;have e3:(zq hS ((inC (inC h1)).set q (.row (((xs.set i va).set j vb).map I) true 0))).get k=((inC (inC h1)).set q (.row (((xs.set i va).set j vb).map I) true 0)).get k:=rfl;rw[e3,e1,e2,get1];by_cases e:k=q<;>simp[e]
 have nn:(zq hS ((inC (inC h1)).set q (.row (((xs.set i va).set j vb).map I) true 0))).n=hS.n:=n1;refine k (zq hS ((inC (inC h1)).set q (.row (((xs.set i va).set j vb).map I) true 0))) ?_ ?_ ?_
 ·refine⟨by rw[nn];exact e0.n,fun c hc=>by rw[get2,QC (by omega)];exact e0.get c hc,fun w c hc=> ?_,e0.mark,fun hmk=>e0.wr hmk⟩;rw[nn]at hc;rw[get2,QC (by omega)];exact e0.wf w c hc
 ·exact⟨q,g1,by rw[nn];exact g2,by simp,by rw[get2,QG rfl]⟩
 ·exact⟨by rw[nn];exact QE _,fun c _ hc=>by rw[get2,QC (fun e=>hc _ _ _ rfl e.symm)]⟩
theorem Ua{y:Operand}{n:Int}(h:WQ t y (I n))(hn:0<=n):BH (ev t y)=some n.toNat:=by
 unfold WQ at h;rw[h];obtain⟨k,rfl⟩:∃ k:Nat,n=k:=⟨n.toNat,by omega⟩;rfl
theorem VP{N0 g d:Nat}{cl:Bool}{x y z w u:Operand}{v:Value}{xs:List Int}{h0 hS:WF}{K:WP->WR->WF->Prop}(i j:Int)(o:Wn h0 hS v xs)(e0:WK h0 hS)(hm:hS.mark<=h0.n)
  (k:∀ h1,WK h0 h1->Wn h0 h1 v (swp xs i j)->Bh v hS h1->K .normal ⟨t.set d (zR v j.toNat),ds,rd⟩ h1)
  (hi:0<=i/\i<xs.length:=by omega) (hj:0<=j/\j<xs.length:=by omega)
  (hx:WQ t x (zR v i.toNat):=by exact zX) (hy:WQ t y (I (WT xs j)):=by exact zX) (hz:WQ t z v:=by exact zX) (hw:WQ t w (I j):=by exact zX) (hu:WQ (t.set d (zR v j.toNat)) u (I (WT xs i)):=by exact zX):
  We P tab hS.mark N0 [(⟨none,none,.store 1 x y⟩,[]),(⟨some d,none,.idx 1 z w⟩,[]),(⟨none,none,.store 1 (.tmp d) u⟩,[])] g cl ⟨t,ds,rd⟩ (inC (zB 0 hS)) (B5 K hS):=
 Xw o e0 hm hx hy (by omega) (by omega) hz (Ua hw hj.1) hu k
theorem VK{c:WU}{h:WF}{K:WP->WR->WF->Prop}{ws:List Nat}(M:WI Value->WF->Prop)(h1:WX P tab c ⟨t,ds,rd⟩ h (zM9 M ds rd K))(h2:∀ t' h',zHS ws t t'->M t' h'->K .normal ⟨t',ds,rd⟩ h')(hw:yE c=ws:=by conv=>(lhs;reduce)):WX P tab c ⟨t,ds,rd⟩ h K:=
 (WX.frame h1).mono fun e fr h ⟨hf,hx⟩=>by
  unfold zM9 at hx;cases e with
  |normal=>
   obtain⟨t',ds',rd'⟩:=fr;obtain⟨e1,e2,e3⟩:=hx;simp only at e1 e2 e3;subst e1 e2;exact h2 _ _ (fun j hj=>hf j (by rw[hw];intro hc;have:=Z4 hj;simp[hc]at this)) e3
  |exit i=>exact hx
  |goto i=>exact hx
  |ret=>exact hx
theorem WO.bin{d:Nat}{op:BinOp}{x y:Operand}{vx vy v:Value}{h:WF}{l:List WG}{Q:WR->WF->Prop}(hx:WQ t x vx)(hy:WQ t y vy)(e:yC op vx vy=some v)(k:WO P tab l ⟨t.set d v,ds,rd⟩ h Q):WO P tab (⟨some d,none,.bin op x y⟩::l) ⟨t,ds,rd⟩ h Q:=
 Xl (by
  have hx:ev t x=vx:=hx;have hy:ev t y=vy:=hy;simp only[WN,hx,hy,e,QH]) k
theorem UW{d:Nat}{x i:Operand}{s:ByteArray}{m:Int}{kk:IntKind}{n:Nat}{b:UInt8}{h:WF}{l:List WG}{Q:WR->WF->Prop}(hb:s[n]?=some b)(hn:BH (.int kk m)=some n)(k:WO P tab l ⟨t.set d (.int .u8 b.toNat),ds,rd⟩ h Q)(hx:WQ t x (.string s):=by exact WQ.const)(hi:WQ t i (.int kk m):=by exact zX):WO P tab (⟨some d,none,.elemStr x i⟩::l) ⟨t,ds,rd⟩ h Q:=
 Xl (by
  have hx:ev t x=.string s:=hx;have hi:ev t i=.int kk m:=hi;simp only[WN,hx,hi,hn,hb]) k
theorem WO.quo{d:Nat}{x:Operand}{a c:Int}{h:WF}{l:List WG}{Q:WR->WF->Prop}(hc:c≠0)(h1: -9223372036854775808<=a.tdiv c)(h2:a.tdiv c<=9223372036854775807)(k:WO P tab l ⟨t.set d (I (a.tdiv c)),ds,rd⟩ h Q)(hx:WQ t x (I a):=by exact zX):WO P tab (⟨some d,none,.bin .quo x (.const (I c))⟩::l) ⟨t,ds,rd⟩ h Q:=
 WO.bin hx (vy:=I c) rfl (by simp only[yC,Q9,QC hc,zEb h1 h2]) k
theorem Yd{n:Int}(h1:0<=n)(h2:n<18446744073709551616):IntKind.wrap .u64 n=n:=by
 simp[IntKind.wrap,IntKind.signed,IntKind.bits];omega
theorem zPl{n:Int}(h1:0<=n)(h2:n<256):IntKind.wrap .u8 n=n:=by
 simp[IntKind.wrap,IntKind.signed,IntKind.bits];omega
theorem zQm{n:Int}{kk:IntKind}(h:0<=n):yC .shr (.int .u64 n) (.int kk 16)=some (.int .u64 (n / 65536)):=by
 have e:(min (16:Int).toNat IntKind.u64.bits)=16:=rfl;simp only[yC,e];rw[QC (by decide),Int.fdiv_eq_ediv_of_nonneg _ (by decide)];rfl
theorem zRA{n:Int}{kk:IntKind}(h:0<=n):yC .shr (.int .u64 n) (.int kk 8)=some (.int .u64 (n / 256)):=by
 have e:(min (8:Int).toNat IntKind.u64.bits)=8:=rfl;simp only[yC,e];rw[QC (by decide),Int.fdiv_eq_ediv_of_nonneg _ (by decide)];rfl
theorem zOw(y:Int){m:Int}(h:0<=m/\m<=9223372036854775807):∃ r:Int,yC .and (.int .u64 y) (.int .u64 m)=some (.int .u64 r)/\0<=r/\r<=m:=by
 have hb:(BitVec.ofInt 64 m).toNat=m.toNat:=by
  rw[BitVec.toNat_ofInt];omega
 have hle:(BitVec.ofInt 64 y&&& BitVec.ofInt 64 m).toNat<=m.toNat:=by
  rw[BitVec.toNat_and,hb];exact Nat.and_le_right
 refine⟨((BitVec.ofInt 64 y&&& BitVec.ofInt 64 m).toNat:Int),?_,by omega,by omega⟩;simp only[yC,Q9,IntKind.bits];rw[Yd (by omega) (by omega)];rfl
theorem XA{N0 g n:Nat}{cl:Bool}{x y:Operand}{p v:Value}{cells:List Value}{h0 hS:WF}{K:WP->WR->WF->Prop}(cs:List Value)(o:WH h0 hS p cells)(e0:WK h0 hS)(hm:hS.mark<=h0.n)
  (k:∀ h1,WK h0 h1->WH h0 h1 p cs->Ws p hS h1->K .normal ⟨t,ds,rd⟩ h1) (hx:WQ t x p:=by exact zX) (hy:WQ t y v:=by exact zX) (hv:v.cells=cs.toArray:=by rfl) (h1:zH cs=true:=by rfl) (hn:cs.length=n:=by rfl) (hl:cells.length=n:=by rfl):
  We P tab hS.mark N0 [(⟨none,none,.store n x y⟩,[])] g cl ⟨t,ds,rd⟩ (inC (zB 0 hS)) (B5 K hS):=by
 obtain⟨q,g1,g2,rfl,g3⟩:=o;subst hn;have hx:ev t x=.pointer (some ⟨q,0,none⟩):=hx;have hy:ev t y=v:=hy;rw[We,QC (show ¬Nat.beq (zG (W4.store cs.length x y)) 3=true from Bool.noConfusion)];have hst:ze (inC (inC (zB 0 hS))) ⟨q,0,none⟩ cs=some ((inC (inC (zB 0 hS))).set q (.row cs true 0)):=by
  have h2:Nat.ble (0+cs.length) cells.length=true:=QF (by omega);have h3:Nat.ble 0 0=true:=rfl;have h4:zO cells 0 cs=cs:=by simp[zO,hl]
  have g3':(inC (inC (zB 0 hS))).get q=some (.row cells true 0):=g3;simp only[ze,g3',h2,h3,h1,h4,Qf,Qn,cond_true]
 refine VS undef ((inC (inC (zB 0 hS))).set q (.row cs true 0)) rfl (by
  simp only[WN,hx,hy,hv,Gw,GP,hst,QH,cond_true]) ?_
 refine WO.nil ⟨⟨fun k hk=> ?_,QE _,.inl rfl⟩,?_⟩
 ·have hk2:k∈(inC (inC (zB 0 hS))).log q:=hk;rcases yw hk2 with rfl|hk3
  ·omega
  ·cases hk3
 have get2:∀ k,(zq hS ((inC (inC (zB 0 hS))).set q (.row cs true 0))).get k=if k=q then some (.row cs true 0)else hS.get k:=fun k=>by
  have e1:((inC (inC (zB 0 hS))).set q (.row cs true 0)).get k=if k=q then some (.row cs true 0)else(inC (inC (zB 0 hS))).get k:=zT ..;exact e1
 refine k (zq hS ((inC (inC (zB 0 hS))).set q (.row cs true 0))) ?_ ?_ ?_
 ·refine⟨e0.n,fun c hc=>by rw[get2,QC (by omega)];exact e0.get c hc,fun w c hc=> ?_,e0.mark,fun hmk=>e0.wr hmk⟩;have hc:hS.n<=c:=hc;rw[get2,QC (by omega)];exact e0.wf w c hc
 ·exact⟨q,g1,g2,rfl,by rw[get2,QG rfl]⟩
 ·exact⟨QE _,fun c _ hc=>by rw[get2,QC (fun e=>hc (by rw[e]))]⟩
theorem zDc{C D:Prop}[Decidable C][Decidable D](h:C):decide (C/\D)=decide D:=by simp[h]
theorem zCb{C D:Prop}[Decidable C][Decidable D](h:C):decide (C/\¬D)= !decide D:=by simp[h]
end
end Go.Am
