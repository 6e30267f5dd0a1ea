/- A part of the machine and of its soundness; proves no statement. -/
import Derived.Test.YtndffgfnndoifaaGreatDoorAmR
set_option linter.all false
namespace Go.Am
def oV(a b:WT):WT:= .seq a b
def oJ(c:Nat)(a b:WT):WT:= .cond (.tmp c) a b
def o5(n:Nat)(a:WT):WT:= .block n a
def o6(l:List (WE×List Nat)):WT:= .regionC l
instance:Coe WE (WE×List Nat):=⟨fun o=>(o,[])⟩
def Wt(t:WG Value)(k:Nat)(v:Value):Prop:=zC t k=v
def WN(t:WG Value)(x:Operand)(v:Value):Prop:=ev t x=v
def zGv(j:Nat):List Nat->Bool
 |[]=>true
 |k::l=>bif Nat.beq j k then false else zGv j l
def zDg(ws:List Nat)(t0 t:WG Value):Prop:=∀ j,zGv j ws=true->zC t j=zC t0 j
def Wt.here{t:WG Value}{k:Nat}{v:Value}:Wt (t.set k v) k v:=by unfold Wt;rw[zg,QJ rfl]
def VY{t:WG Value}{k j:Nat}{v w:Value}(hn:Nat.beq j k=false)(s:Wt t j v):Wt (t.set k w) j v:=by
 unfold Wt at *;rw[zg,QC (fun e=>by subst e;simp at hn)];exact s
def Wt.same{ws t0 t j v}(hs:zDg ws t0 t)(hn:zGv j ws=true)(s:Wt t0 j v):Wt t j v:=(hs j hn).trans s
def WN.tmp{t k v}(s:Wt t k v):WN t (.tmp k) v:=s
def WN.const{t v}:WN t (.const v) v:=rfl
def WN.fn{t f}:WN t (.func f) (.func (.func f) #[] #[]):=rfl
def XD{t g}:WN t (.global g) (.pointer (some ⟨g,0,none⟩)):=rfl
def Bk(t:WG Value)(xs:List Operand)(vs:List Value):Prop:=xs.map (ev t)=vs
def Bk.nil{t}:Bk t [] []:=rfl
def Bk.cons{t x xs v vs}(h:WN t x v)(k:Bk t xs vs):Bk t (x::xs) (v::vs):=by unfold Bk WN at *;simp[h,k]
def SX(n:Int)(i:Nat):Prop:=BX (I n)=some i
def UD{i:Nat}:SX (i:Int) i:=rfl
def SX.lit{n:Int}{i:Nat}(h:n=(i:Int)):SX n i:=by subst h;rfl
def SX.int{n:Int}(h:0<=n):SX n n.toNat:=by
 obtain⟨i,rfl⟩:=Int.eq_ofNat_of_zero_le h;rfl
def BF(t:WG Value)(ps:List (Nat×Nat×Operand))(vs:List (Nat×Nat×Value)):Prop:=zr t ps=vs
def BF.nil{t}:BF t [] []:=rfl
def BF.cons{t a b x ps v vs}(h:WN t x v)(k:BF t ps vs):BF t ((a,b,x)::ps) ((a,b,v)::vs):=by unfold BF WN at *;unfold zr at *;simp[h,k]
def ZQ{j:Nat}:∀ {l:List Nat},zGv j l=true->l.contains j=false
 |[],_=>rfl
 |k::l,h=>by
  unfold zGv at h;cases hb:Nat.beq j k with
  |true=>rw[hb]at h;cases h
  |false=>
   rw[hb]at h;have:=ZQ (l:=l) h;simp only[List.contains_cons,this,Q0];have:j≠k:=fun e=>by subst e;simp at hb
   simpa using this
def Yd{t k v}(h:Wt t k v:=by(repeat (first|((with_reducible apply VY);rfl)|((with_reducible apply Wt.same);(with_reducible assumption);rfl)));first|with_reducible exact Wt.here|with_reducible assumption|(unfold Wt;with_reducible assumption)):Wt t k v:=h
def zN{t x v}(h:WN t x v:=by first|with_reducible exact WN.const|((with_reducible apply WN.tmp);(repeat (first|((with_reducible apply VY);rfl)|((with_reducible apply Wt.same);(with_reducible assumption);rfl)));first|with_reducible exact Wt.here|with_reducible assumption|(unfold Wt;with_reducible assumption))|with_reducible exact WN.fn|with_reducible exact XD|fail):WN t x v:=h
def zMp{t xs vs}(h:Bk t xs vs:=by(repeat (apply Bk.cons;(exact zN)));exact Bk.nil):Bk t xs vs:=h
def zVq{b:Bool}(h:b=false):(!b)=true:=by rw[h];rfl
def zVp{b:Bool}(h:b=true):(!b)=false:=by rw[h];rfl
def DB:(∀ a:Prop,∀ [Decidable a],(decide a=true)=a)/\(∀ a:Prop,∀ [Decidable a],(decide a=false)=¬a)/\(∀ b:Bool,((!b)=true)=(b=false))/\(∀ b:Bool,((!b)=false)=(b=true))/\
  (∀ a b:Bool,((a||b)=true)=(a=true\/b=true))/\(∀ a b:Bool,((a&&b)=true)=(a=true/\b=true))/\(∀ a b:Bool,((a||b)=false)=(a=false/\b=false))/\(∀ a b:Bool,((a&&b)=false)=(a=false\/b=false))/\
  (∀ a b:Int,(¬a<b)=(b<=a))/\(∀ a b:Int,(¬a<=b)=(b<a))/\((true=true)=True)/\((false=false)=True)/\((true=false)=False)/\((false=true)=False):=
 ⟨fun a _=>by simp,fun a _=>by simp,fun b=>by simp,fun b=>by simp,fun a b=>by simp,fun a b=>by simp,fun a b=>by simp,fun a b=>by cases a<;>cases b<;>simp,fun a b=>by simp,fun a b=>by simp,by simp,by simp,by simp,by simp⟩
def zGH{p:Prop}(h:p:=by first|with_reducible rfl|with_reducible exact Ql|with_reducible exact Qe|with_reducible assumption|exact Qa (by first|with_reducible assumption|omega)|exact QY (by first|with_reducible assumption|omega)|exact zVq (by first|with_reducible assumption|exact QY (by first|with_reducible assumption|omega)|fail)|exact zVp (by first|with_reducible assumption|exact Qa (by first|with_reducible assumption|omega)|fail)|(simp only[DB, *];done)|fail):p:=h
def zKT{p:Prop}(h:p:=by first|omega|with_reducible assumption|(simp only[Qr,Gh,QH,Qn,G5]at *;omega)):p:=h
def zNi{n:Int}{i:Nat}(h:SX n i:=by first|exact UD|exact SX.lit rfl|exact SX.int ω|fail):SX n i:=h
def zUe{h:WA}{v:Value}{xs:List Int}(s:Wc h v xs:=by first|with_reducible assumption|exact Wc.ext (by with_reducible assumption) (by with_reducible assumption)|exact Wq.sl (by with_reducible assumption)|exact WP.sl (by with_reducible assumption)|fail):Wc h v xs:=s
def zLA{o:Option Value}{r:Value}(h:o=some r:=by first|exact(rfl:_=some (Value.agg #[_,_]))|exact(rfl:_=some (Value.agg #[_,_,_]))|exact(rfl:_=some (Value.agg #[_,_,_,_]))|exact(rfl:_=some (Value.agg #[_,_,_,_,_]))|exact(rfl:_=some (Value.agg #[_,_,_,_,_,_]))|exact(rfl:_=some (Value.agg #[_,_,_,_,_,_,_]))|exact(rfl:_=some (Value.agg #[_,_,_,_,_,_,_,_]))|exact(rfl:_=some (Value.agg #[_,_,_,_,_,_,_,_,_,_]))|rfl):o=some r:=h
def zVY{o:Option (List Value)}{r:List Value}(h:o=some r:=by first|exact(rfl:_=some [_,_])|exact(rfl:_=some [_,_,_])|exact(rfl:_=some [_,_,_,_])|exact(rfl:_=some [_,_,_,_,_])|exact(rfl:_=some [_,_,_,_,_,_])|exact(rfl:_=some [_,_,_,_,_,_,_])|exact(rfl:_=some [_,_,_,_,_,_,_,_])|rfl):o=some r:=h
def zJQ(v:Value):Prop:=∃ a k m,v=.slice (some a) k m
section
variable {P:Program}{tab:Ws}{ds:List Deferred}{rd:Option Nat}
variable {h:WA}{l:List WE}{t:WG Value}{Q:WM->WA->Prop}
def R.mov{d:Nat}{x:Operand}{v:Value}(hx:WN t x v)(k:WO P tab l ⟨t.set d v,ds,rd⟩ h Q):WO P tab (⟨some d,none,.mov x⟩::l) ⟨t,ds,rd⟩ h Q:=
 WO.op _ _ rfl (by unfold WN at *;simp only[WK,hx]) k
def R.add{d:Nat}{x y:Operand}{a b:Int}(hx:WN t x (I a))(hy:WN t y (I b))(h1: -9223372036854775808<=a+b)(h2:a+b<=9223372036854775807)(k:WO P tab l ⟨t.set d (I (a+b)),ds,rd⟩ h Q):WO P tab (⟨some d,none,.bin .add x y⟩::l) ⟨t,ds,rd⟩ h Q:=
 WO.op _ _ rfl (by unfold WN at *;simp only[WK,hx,hy,I,zPQ,QL];rw[zC6 h1 h2]) k
def R.sub{d:Nat}{x y:Operand}{a b:Int}(hx:WN t x (I a))(hy:WN t y (I b))(h1: -9223372036854775808<=a-b)(h2:a-b<=9223372036854775807)(k:WO P tab l ⟨t.set d (I (a-b)),ds,rd⟩ h Q):WO P tab (⟨some d,none,.bin .sub x y⟩::l) ⟨t,ds,rd⟩ h Q:=
 WO.op _ _ rfl (by unfold WN at *;simp only[WK,hx,hy,I,zQ4,QL];rw[zC6 h1 h2]) k
def R.mul{d:Nat}{x y:Operand}{a b:Int}(hx:WN t x (I a))(hy:WN t y (I b))(h1: -9223372036854775808<=a*b)(h2:a*b<=9223372036854775807)(k:WO P tab l ⟨t.set d (I (a*b)),ds,rd⟩ h Q):WO P tab (⟨some d,none,.bin .mul x y⟩::l) ⟨t,ds,rd⟩ h Q:=
 WO.op _ _ rfl (by unfold WN at *;simp only[WK,hx,hy,I,zQY,QL];rw[zC6 h1 h2]) k
def R.lss{d:Nat}{x y:Operand}{a b:Int}{kk:IntKind}(hx:WN t x (.int kk a))(hy:WN t y (.int kk b))(k:WO P tab l ⟨t.set d (.bool (decide (a<b))),ds,rd⟩ h Q):WO P tab (⟨some d,none,.bin .lss x y⟩::l) ⟨t,ds,rd⟩ h Q:=
 WO.op _ _ rfl (by unfold WN at *;simp only[WK,hx,hy,zPu,QL]) k
def R.leq{d:Nat}{x y:Operand}{a b:Int}{kk:IntKind}(hx:WN t x (.int kk a))(hy:WN t y (.int kk b))(k:WO P tab l ⟨t.set d (.bool (decide (a<=b))),ds,rd⟩ h Q):WO P tab (⟨some d,none,.bin .leq x y⟩::l) ⟨t,ds,rd⟩ h Q:=
 WO.op _ _ rfl (by unfold WN at *;simp only[WK,hx,hy,zQy,QL]) k
def R.gtr{d:Nat}{x y:Operand}{a b:Int}{kk:IntKind}(hx:WN t x (.int kk a))(hy:WN t y (.int kk b))(k:WO P tab l ⟨t.set d (.bool (decide (b<a))),ds,rd⟩ h Q):WO P tab (⟨some d,none,.bin .gtr x y⟩::l) ⟨t,ds,rd⟩ h Q:=
 WO.op _ _ rfl (by unfold WN at *;simp only[WK,hx,hy,zPK,QL]) k
def R.geq{d:Nat}{x y:Operand}{a b:Int}{kk:IntKind}(hx:WN t x (.int kk a))(hy:WN t y (.int kk b))(k:WO P tab l ⟨t.set d (.bool (decide (b<=a))),ds,rd⟩ h Q):WO P tab (⟨some d,none,.bin .geq x y⟩::l) ⟨t,ds,rd⟩ h Q:=
 WO.op _ _ rfl (by unfold WN at *;simp only[WK,hx,hy,zO9,QL]) k
def R.eql{d:Nat}{x y:Operand}{a b:Int}{kk:IntKind}(hx:WN t x (.int kk a))(hy:WN t y (.int kk b))(k:WO P tab l ⟨t.set d (.bool (decide (a=b))),ds,rd⟩ h Q):WO P tab (⟨some d,none,.bin .eql x y⟩::l) ⟨t,ds,rd⟩ h Q:=
 WO.op _ _ rfl (by unfold WN at *;simp only[WK,hx,hy,zPc,QL]) k
def R.neq{d:Nat}{x y:Operand}{a b:Int}{kk:IntKind}(hx:WN t x (.int kk a))(hy:WN t y (.int kk b))(k:WO P tab l ⟨t.set d (.bool (!decide (a=b))),ds,rd⟩ h Q):WO P tab (⟨some d,none,.bin .neq x y⟩::l) ⟨t,ds,rd⟩ h Q:=
 WO.op _ _ rfl (by unfold WN at *;simp only[WK,hx,hy,zPk,QL]) k
def R.not{d:Nat}{x:Operand}{b:Bool}(hx:WN t x (.bool b))(k:WO P tab l ⟨t.set d (.bool (!b)),ds,rd⟩ h Q):WO P tab (⟨some d,none,.un .not x⟩::l) ⟨t,ds,rd⟩ h Q:=
 WO.op _ _ rfl (by unfold WN at *;simp only[WK,hx,unV,QL]) k
def U7{d:Nat}{x y:Operand}{a b:Bool}(hx:WN t x (.bool a))(hy:WN t y (.bool b))(k:WO P tab l ⟨t.set d (.bool (a == b)),ds,rd⟩ h Q):WO P tab (⟨some d,none,.binB false x y⟩::l) ⟨t,ds,rd⟩ h Q:=
 WO.op _ _ rfl (by unfold WN at *;simp only[WK,hx,hy];rfl) k
def U6{d:Nat}{x y:Operand}{a b:Bool}(hx:WN t x (.bool a))(hy:WN t y (.bool b))(k:WO P tab l ⟨t.set d (.bool (a != b)),ds,rd⟩ h Q):WO P tab (⟨some d,none,.binB true x y⟩::l) ⟨t,ds,rd⟩ h Q:=
 WO.op _ _ rfl (by unfold WN at *;simp only[WK,hx,hy];rfl) k
def Xt{d:Nat}{x:Operand}{n:Int}{k2:IntKind}(hx:WN t x (.int k2 n))(h1: -9223372036854775808<=n)(h2:n<=9223372036854775807)(k:WO P tab l ⟨t.set d (I n),ds,rd⟩ h Q):WO P tab (⟨some d,none,.conv .i64 x⟩::l) ⟨t,ds,rd⟩ h Q:=
 WO.op _ _ rfl (by unfold WN at *;simp only[WK,hx,I];rw[zC6 h1 h2]) k
def R.conv{d:Nat}{x:Operand}{n:Int}{kk k2:IntKind}(hx:WN t x (.int k2 n))(k:WO P tab l ⟨t.set d (.int kk (kk.wrap n)),ds,rd⟩ h Q):WO P tab (⟨some d,none,.conv kk x⟩::l) ⟨t,ds,rd⟩ h Q:=
 WO.op _ _ rfl (by unfold WN at *;simp only[WK,hx]) k
def UF{d:Nat}{c x y:Operand}{v:Value}{b:Bool}(hc:WN t c (.bool b))(hb:b=true)(hx:WN t x v)(k:WO P tab l ⟨t.set d v,ds,rd⟩ h Q):WO P tab (⟨some d,none,.pick c x y⟩::l) ⟨t,ds,rd⟩ h Q:=
 WO.op _ _ rfl (by unfold WN at *;subst hb;simp only[WK,hc,hx,Qz]) k
def UL{d:Nat}{c x y:Operand}{v:Value}{b:Bool}(hc:WN t c (.bool b))(hb:b=false)(hy:WN t y v)(k:WO P tab l ⟨t.set d v,ds,rd⟩ h Q):WO P tab (⟨some d,none,.pick c x y⟩::l) ⟨t,ds,rd⟩ h Q:=
 WO.op _ _ rfl (by unfold WN at *;subst hb;simp only[WK,hc,hy,Qy,Gt]) k
def Xr{d:Nat}{x:Operand}{v0 v1:Value}(hx:WN t x (.tuple #[v0,v1]))(k:WO P tab l ⟨t.set d v0,ds,rd⟩ h Q):WO P tab (⟨some d,none,.extract x 0⟩::l) ⟨t,ds,rd⟩ h Q:=
 WO.op _ _ rfl (by unfold WN at *;simp only[WK,hx];rfl) k
def Xw{d:Nat}{x:Operand}{v0 v1:Value}(hx:WN t x (.tuple #[v0,v1]))(k:WO P tab l ⟨t.set d v1,ds,rd⟩ h Q):WO P tab (⟨some d,none,.extract x 1⟩::l) ⟨t,ds,rd⟩ h Q:=
 WO.op _ _ rfl (by unfold WN at *;simp only[WK,hx];rfl) k
def Xb{d:Nat}{x:Operand}{v0 v1 v2:Value}(hx:WN t x (.tuple #[v0,v1,v2]))(k:WO P tab l ⟨t.set d v0,ds,rd⟩ h Q):WO P tab (⟨some d,none,.extract x 0⟩::l) ⟨t,ds,rd⟩ h Q:=
 WO.op _ _ rfl (by unfold WN at *;simp only[WK,hx];rfl) k
def Xs{d:Nat}{x:Operand}{v0 v1 v2:Value}(hx:WN t x (.tuple #[v0,v1,v2]))(k:WO P tab l ⟨t.set d v1,ds,rd⟩ h Q):WO P tab (⟨some d,none,.extract x 1⟩::l) ⟨t,ds,rd⟩ h Q:=
 WO.op _ _ rfl (by unfold WN at *;simp only[WK,hx];rfl) k
def Xk{d:Nat}{x:Operand}{v0 v1 v2:Value}(hx:WN t x (.tuple #[v0,v1,v2]))(k:WO P tab l ⟨t.set d v2,ds,rd⟩ h Q):WO P tab (⟨some d,none,.extract x 2⟩::l) ⟨t,ds,rd⟩ h Q:=
 WO.op _ _ rfl (by unfold WN at *;simp only[WK,hx];rfl) k
def XZ{d:Nat}{x:Operand}{v0 v1 v2 v3:Value}(hx:WN t x (.tuple #[v0,v1,v2,v3]))(k:WO P tab l ⟨t.set d v0,ds,rd⟩ h Q):WO P tab (⟨some d,none,.extract x 0⟩::l) ⟨t,ds,rd⟩ h Q:=
 WO.op _ _ rfl (by unfold WN at *;simp only[WK,hx];rfl) k
def Xc{d:Nat}{x:Operand}{v0 v1 v2 v3:Value}(hx:WN t x (.tuple #[v0,v1,v2,v3]))(k:WO P tab l ⟨t.set d v1,ds,rd⟩ h Q):WO P tab (⟨some d,none,.extract x 1⟩::l) ⟨t,ds,rd⟩ h Q:=
 WO.op _ _ rfl (by unfold WN at *;simp only[WK,hx];rfl) k
def Xo{d:Nat}{x:Operand}{v0 v1 v2 v3:Value}(hx:WN t x (.tuple #[v0,v1,v2,v3]))(k:WO P tab l ⟨t.set d v2,ds,rd⟩ h Q):WO P tab (⟨some d,none,.extract x 2⟩::l) ⟨t,ds,rd⟩ h Q:=
 WO.op _ _ rfl (by unfold WN at *;simp only[WK,hx];rfl) k
def Xf{d:Nat}{x:Operand}{v0 v1 v2 v3:Value}(hx:WN t x (.tuple #[v0,v1,v2,v3]))(k:WO P tab l ⟨t.set d v3,ds,rd⟩ h Q):WO P tab (⟨some d,none,.extract x 3⟩::l) ⟨t,ds,rd⟩ h Q:=
 WO.op _ _ rfl (by unfold WN at *;simp only[WK,hx];rfl) k
def R.lenC{d:Nat}{n:Nat}(k:WO P tab l ⟨t.set d (I n),ds,rd⟩ h Q):WO P tab (⟨some d,none,.lenC n⟩::l) ⟨t,ds,rd⟩ h Q:=
 WO.op _ _ rfl (by simp only[WK]) k
def R.nil{d:Nat}{x:Operand}{kind:Nat}{neg b:Bool}{v:Value}(hx:WN t x v)(hn:zE1 kind v=some b)(k:WO P tab l ⟨t.set d (.bool (if neg then !b else b)),ds,rd⟩ h Q):WO P tab (⟨some d,none,.isNil kind neg x⟩::l) ⟨t,ds,rd⟩ h Q:=
 WO.op _ _ rfl (by unfold WN at *;simp only[WK,hx,hn,QL]) k
def Uq{d:Nat}{x:Operand}{v:Value}{xs:List Int}(hx:WN t x v)(s:Wc h v xs)(k:WO P tab l ⟨t.set d (I xs.length),ds,rd⟩ h Q):WO P tab (⟨some d,none,.len x⟩::l) ⟨t,ds,rd⟩ h Q:=
 WO.op _ _ rfl (by exact Xg hx s) k
def Ur{d:Nat}{x:Operand}{v:Value}{α:Type}{c:Nat}{R:WA->List Value->α->Prop}{xs:List α}(hx:WN t x v)(s:W7 c R h v xs)(k:WO P tab l ⟨t.set d (I xs.length),ds,rd⟩ h Q):WO P tab (⟨some d,none,.len x⟩::l) ⟨t,ds,rd⟩ h Q:=
 WO.op _ _ rfl (by exact Xj hx s) k
def Up{d:Nat}{x y:Operand}{v:Value}{n:Int}{i:Nat}{xs:List Int}(hx:WN t x v)(hy:WN t y (I n))(hi:SX n i)(s:Wc h v xs)(hl:i<xs.length)(k:WO P tab l ⟨t.set d (yH v i),ds,rd⟩ h Q):WO P tab (⟨some d,none,.idx 1 x y⟩::l) ⟨t,ds,rd⟩ h Q:=
 WO.op _ _ rfl (by unfold WN at hy;exact Xd hx (by rw[hy];exact hi) s hl) k
def Uc{d:Nat}{x y:Operand}{v:Value}{n:Int}{i:Nat}{α:Type}{c:Nat}{R:WA->List Value->α->Prop}{xs:List α}(hx:WN t x v)(hy:WN t y (I n))(hi:SX n i)(s:W7 c R h v xs)(hl:i<xs.length)(k:WO P tab l ⟨t.set d (yH v (i*c)),ds,rd⟩ h Q):WO P tab (⟨some d,none,.idx c x y⟩::l) ⟨t,ds,rd⟩ h Q:=
 WO.op _ _ rfl (by unfold WN at hy;exact Xh hx (by rw[hy];exact hi) s hl) k
def UQ{d:Nat}{x:Operand}{v:Value}{i:Nat}{xs:List Int}(hx:WN t x (yH v i))(s:Wc h v xs)(hl:i<xs.length)(k:WO P tab l ⟨t.set d (I (xs.getD i 0)),ds,rd⟩ h Q):WO P tab (⟨some d,none,.load false 1 x⟩::l) ⟨t,ds,rd⟩ h Q:=
 WO.op _ _ rfl (by exact XR hx s hl) k
def Un{d:Nat}{x:Operand}{v r:Value}{j n off:Nat}{cs:List Value}(hx:WN t x (yH v (j+off)))(p:Wv h v j cs)(hn:0<n)(hr:(cut cs off n).bind (zI true)=some r)(k:WO P tab l ⟨t.set d r,ds,rd⟩ h Q):WO P tab (⟨some d,none,.load true n x⟩::l) ⟨t,ds,rd⟩ h Q:=
 WO.op _ _ rfl (by exact Wv.load hx p hn hr) k
def U3{d:Nat}{x:Operand}{v r:Value}{j n off:Nat}{cs:List Value}(hx:WN t x (yH v (j+off)))(p:Wv h v j cs)(hn:0<n)(hr:(cut cs off n).bind (zI false)=some r)(k:WO P tab l ⟨t.set d r,ds,rd⟩ h Q):WO P tab (⟨some d,none,.load false n x⟩::l) ⟨t,ds,rd⟩ h Q:=
 WO.op _ _ rfl (by exact Wv.load hx p hn hr) k
def UI{d:Nat}{x:Operand}{v r:Value}{j n:Nat}{cs:List Value}(hx:WN t x (yH v j))(p:Wv h v j cs)(hn:0<n)(hr:(cut cs 0 n).bind (zI true)=some r)(k:WO P tab l ⟨t.set d r,ds,rd⟩ h Q):WO P tab (⟨some d,none,.load true n x⟩::l) ⟨t,ds,rd⟩ h Q:=
 WO.op _ _ rfl (by exact Vw hx p hn hr) k
def Ue{d:Nat}{x:Operand}{v r:Value}{j n:Nat}{cs:List Value}(hx:WN t x (yH v j))(p:Wv h v j cs)(hn:0<n)(hr:(cut cs 0 n).bind (zI false)=some r)(k:WO P tab l ⟨t.set d r,ds,rd⟩ h Q):WO P tab (⟨some d,none,.load false n x⟩::l) ⟨t,ds,rd⟩ h Q:=
 WO.op _ _ rfl (by exact Vw hx p hn hr) k
def R.fldP{d:Nat}{x:Operand}{v:Value}{j off:Nat}(hx:WN t x (yH v j))(hv:zJQ v)(k:WO P tab l ⟨t.set d (yH v (j+off)),ds,rd⟩ h Q):WO P tab (⟨some d,none,.fld off x⟩::l) ⟨t,ds,rd⟩ h Q:=
 WO.op _ _ rfl (by exact Go.Am.fldP hx hv) k
def US{d:Nat}{x:Operand}{p:Value}{off:Nat}{h0:WA}{cs:List Value}(hx:WN t x p)(o:WB h0 h p cs)(k:WO P tab l ⟨t.set d (yJ p off),ds,rd⟩ h Q):WO P tab (⟨some d,none,.fld off x⟩::l) ⟨t,ds,rd⟩ h Q:=
 WO.op _ _ rfl (by exact XW hx o) k
def Ug{d:Nat}{x:Operand}{p:Value}{j off:Nat}{h0:WA}{cs:List Value}(hx:WN t x (yJ p j))(o:WB h0 h p cs)(k:WO P tab l ⟨t.set d (yJ p (j+off)),ds,rd⟩ h Q):WO P tab (⟨some d,none,.fld off x⟩::l) ⟨t,ds,rd⟩ h Q:=
 WO.op _ _ rfl (by exact WB.fld hx o) k
def Us{d:Nat}{x y:Operand}{p:Value}{n:Int}{i len:Nat}{kk:IntKind}{h0:WA}{cs:List Value}(hx:WN t x (yJ p 0))(o:WB h0 h p cs)(hy:WN t y (.int kk n))(hi:SX n i)(hl:i<len)(k:WO P tab l ⟨t.set d (yJ p i),ds,rd⟩ h Q):WO P tab (⟨some d,none,.idxArr len 1 x y⟩::l) ⟨t,ds,rd⟩ h Q:=
 WO.op _ _ rfl (by unfold WN at hx hy;have cN:BX (ev t y)=some i:=(by rw[hy];exact(by cases n<;>rfl:BX (.int kk n)=BX (I n)).trans hi);have:=WB.idxArr (P:=P) (ih:=Ex.bot) (c:=1) hx cN o hl;rwa [Q8,G7]at this) k
def UN{d:Nat}{x y:Operand}{p:Value}{n:Int}{i len:Nat}{kk:IntKind}{h0:WA}{cs:List Value}(hx:WN t x p)(o:WB h0 h p cs)(hy:WN t y (.int kk n))(hi:SX n i)(hl:i<len)(k:WO P tab l ⟨t.set d (yJ p i),ds,rd⟩ h Q):WO P tab (⟨some d,none,.idxArr len 1 x y⟩::l) ⟨t,ds,rd⟩ h Q:=
 WO.op _ _ rfl (by unfold WN at hx hy;have cN:BX (ev t y)=some i:=(by rw[hy];exact(by cases n<;>rfl:BX (.int kk n)=BX (I n)).trans hi);have:=Vm (P:=P) (ih:=Ex.bot) (c:=1) hx cN o hl;rwa [G7]at this) k
def UP{d:Nat}{x y:Operand}{p:Value}{n:Int}{i j len:Nat}{kk:IntKind}{h0:WA}{cs:List Value}(hx:WN t x (yJ p j))(o:WB h0 h p cs)(hy:WN t y (.int kk n))(hi:SX n i)(hl:i<len)(k:WO P tab l ⟨t.set d (yJ p (j+i)),ds,rd⟩ h Q):WO P tab (⟨some d,none,.idxArr len 1 x y⟩::l) ⟨t,ds,rd⟩ h Q:=
 WO.op _ _ rfl (by unfold WN at hx hy;have cN:BX (ev t y)=some i:=(by rw[hy];exact(by cases n<;>rfl:BX (.int kk n)=BX (I n)).trans hi);have:=WB.idxArr (P:=P) (ih:=Ex.bot) (c:=1) hx cN o hl;rwa [G7]at this) k
def UU{d:Nat}{x:Operand}{p:Value}{q:Nat}{xs:List Int}{h0:WA}(hx:WN t x (yJ p q))(o:WB h0 h p (xs.map I))(hl:q<xs.length)(k:WO P tab l ⟨t.set d (I (xs.getD q 0)),ds,rd⟩ h Q):WO P tab (⟨some d,none,.load false 1 x⟩::l) ⟨t,ds,rd⟩ h Q:=
 WO.op _ _ rfl (by refine WB.load hx o ?_;have h1:(xs.map I).drop q=I xs[q]::(xs.map I).drop (q+1):=(by rw[GB (by simpa using hl),List.getElem_map]);have hc:cut (xs.map I) q 1=some [I (xs.getD q 0)]:=(by rw[yz (by simp;omega),h1];simp[List.getD,QB hl]);rw[hc];rfl) k
def XX{d:Nat}{x:Operand}{p r:Value}{n:Nat}{h0:WA}{cs:List Value}(hx:WN t x p)(o:WB h0 h p cs)(hr:(cut cs 0 n).bind (zI true)=some r)(k:WO P tab l ⟨t.set d r,ds,rd⟩ h Q):WO P tab (⟨some d,none,.load true n x⟩::l) ⟨t,ds,rd⟩ h Q:=
 WO.op _ _ rfl (by exact Vj hx o hr) k
def Xe{d:Nat}{x:Operand}{p r:Value}{n:Nat}{h0:WA}{cs:List Value}(hx:WN t x p)(o:WB h0 h p cs)(hr:(cut cs 0 n).bind (zI false)=some r)(k:WO P tab l ⟨t.set d r,ds,rd⟩ h Q):WO P tab (⟨some d,none,.load false n x⟩::l) ⟨t,ds,rd⟩ h Q:=
 WO.op _ _ rfl (by exact Vj hx o hr) k
def Xp{d:Nat}{x:Operand}{p r:Value}{n j:Nat}{h0:WA}{cs:List Value}(hx:WN t x (yJ p j))(o:WB h0 h p cs)(hr:(cut cs j n).bind (zI true)=some r)(k:WO P tab l ⟨t.set d r,ds,rd⟩ h Q):WO P tab (⟨some d,none,.load true n x⟩::l) ⟨t,ds,rd⟩ h Q:=
 WO.op _ _ rfl (by exact WB.load hx o hr) k
def UW{d:Nat}{x:Operand}{p r:Value}{n j:Nat}{h0:WA}{cs:List Value}(hx:WN t x (yJ p j))(o:WB h0 h p cs)(hr:(cut cs j n).bind (zI false)=some r)(k:WO P tab l ⟨t.set d r,ds,rd⟩ h Q):WO P tab (⟨some d,none,.load false n x⟩::l) ⟨t,ds,rd⟩ h Q:=
 WO.op _ _ rfl (by exact WB.load hx o hr) k
def UH{d:Nat}{x:Operand}{off n:Nat}{r:Value}{cs:Array Value}(hx:WN t x (.agg cs))(hr:(cut cs.toList off n).bind (zI true)=some r)(k:WO P tab l ⟨t.set d r,ds,rd⟩ h Q):WO P tab (⟨some d,none,.part true off n x⟩::l) ⟨t,ds,rd⟩ h Q:=
 WO.op _ _ rfl (by unfold WN at *;simp only[WK,hx,hr,QL]) k
def R.part{d:Nat}{x:Operand}{off n:Nat}{r:Value}{cs:Array Value}(hx:WN t x (.agg cs))(hr:(cut cs.toList off n).bind (zI false)=some r)(k:WO P tab l ⟨t.set d r,ds,rd⟩ h Q):WO P tab (⟨some d,none,.part false off n x⟩::l) ⟨t,ds,rd⟩ h Q:=
 WO.op _ _ rfl (by unfold WN at *;simp only[WK,hx,hr,QL]) k
def Uh{d:Nat}{len c g:Nat}{y:Operand}{n:Int}{i:Nat}{kk:IntKind}(hy:WN t y (.int kk n))(hi:SX n i)(hl:i<len)(k:WO P tab l ⟨t.set d (.pointer (some ⟨g,0+i*c,none⟩)),ds,rd⟩ h Q):WO P tab (⟨some d,none,.idxArr len c (.global g) y⟩::l) ⟨t,ds,rd⟩ h Q:=
 WO.op _ _ rfl (by unfold WN at hy;have hb:Nat.ble (i+1) len=true:=QK hl;have cN:BX (ev t y)=some i:=(by rw[hy];exact(by cases n<;>rfl:BX (.int kk n)=BX (I n)).trans hi);simp only[WK,cN];simp only[ev,hb,Q2,GC,cond_true]) k
def UE{d:Nat}{x:Operand}{g off n:Nat}{r:Value}{cells:List Value}(hx:WN t x (.pointer (some ⟨g,off,none⟩)))(hg:z0 h g=some cells)(hr:(cut cells off n).bind (zI true)=some r)(k:WO P tab l ⟨t.set d r,ds,rd⟩ h Q):WO P tab (⟨some d,none,.load true n x⟩::l) ⟨t,ds,rd⟩ h Q:=
 WO.op _ _ rfl (by unfold WN at *;simp only[WK,hx,hg,Q2,cond_true,QV,hr,QL]) k
def R.agg{d:Nat}{zero:List Value}{parts:List (Nat×Nat×Operand)}{vs:List (Nat×Nat×Value)}{cells:List Value}(hp:BF t parts vs)(hf:ZE zero vs=some cells)(k:WO P tab l ⟨t.set d (.agg cells.toArray),ds,rd⟩ h Q):WO P tab (⟨some d,none,.build zero parts⟩::l) ⟨t,ds,rd⟩ h Q:=
 WO.op _ _ rfl (by unfold BF at hp;simp only[WK,hp,hf,QL]) k
def Uw{d:Nat}{x:Operand}{p:Value}{h0:WA}{cs:List Value}(hx:WN t x p)(o:WB h0 h p cs)(k:WO P tab l ⟨t.set d p,ds,rd⟩ h Q):WO P tab (⟨some d,none,.nilCheck x⟩::l) ⟨t,ds,rd⟩ h Q:=
 WO.op _ _ rfl (by unfold WN at *;obtain⟨g,_,_,rfl,_⟩:=o;simp only[WK,hx,YS,QL]) k
def Uf{d:Nat}{x:Operand}{v:Value}{j:Nat}(hx:WN t x (yH v j))(hv:zJQ v)(k:WO P tab l ⟨t.set d (yH v j),ds,rd⟩ h Q):WO P tab (⟨some d,none,.nilCheck x⟩::l) ⟨t,ds,rd⟩ h Q:=
 WO.op _ _ rfl (by unfold WN at *;obtain⟨a,_,_,rfl⟩:=hv;simp only[WK,hx,yH,YS,QL]) k
def U0{d:Nat}{x:Operand}{a:Addr}(hx:WN t x (.pointer (some a)))(k:WO P tab l ⟨t.set d (.pointer (some a)),ds,rd⟩ h Q):WO P tab (⟨some d,none,.nilCheck x⟩::l) ⟨t,ds,rd⟩ h Q:=
 WO.op _ _ rfl (by unfold WN at *;simp only[WK,hx,YS,QL]) k
def Ui{d:Nat}{x:Operand}{m:Value}{es:List (Int×Int)}{h0:WA}(hx:WN t x m)(o:BR h0 h m es)(k:WO P tab l ⟨t.set d (I es.length),ds,rd⟩ h Q):WO P tab (⟨some d,none,.lenMap x⟩::l) ⟨t,ds,rd⟩ h Q:=
 WO.op _ _ rfl (by unfold WN at *;obtain⟨g,c,aF,_,_,rfl,hg,he⟩:=o;have hl:aF.length=es.length:=(by have:=congrArg List.length he;simpa using this);simp only[WK,hx,hg,hl]) k
def Ux{d:Nat}{mm ky:Operand}{z m:Value}{a:Int}{es:List (Int×Int)}{h0:WA}(hx:WN t mm m)(hk:WN t ky (I a))(o:BR h0 h m es)(hl:es.lookup a=none)(k:WO P tab l ⟨t.set d (.tuple #[z,.bool false]),ds,rd⟩ h Q):WO P tab (⟨some d,none,.lookup true z mm ky⟩::l) ⟨t,ds,rd⟩ h Q:=
 WO.op _ _ rfl (by unfold WN at *;obtain⟨g,c,aF,_,_,rfl,hg,he⟩:=o;simp only[WK,hx,hk,hg,zEX 0 he hl,Qz]) k
def Uy{d:Nat}{mm ky:Operand}{z m:Value}{a v:Int}{es:List (Int×Int)}{h0:WA}(hx:WN t mm m)(hk:WN t ky (I a))(o:BR h0 h m es)(hl:es.lookup a=some v)(k:WO P tab l ⟨t.set d (.tuple #[I v,.bool true]),ds,rd⟩ h Q):WO P tab (⟨some d,none,.lookup true z mm ky⟩::l) ⟨t,ds,rd⟩ h Q:=
 WO.op _ _ rfl (by unfold WN at *;obtain⟨g,c,aF,_,_,rfl,hg,he⟩:=o;obtain⟨j,hj⟩:=zHs 0 he hl;simp only[WK,hx,hk,hg,hj,Qz]) k
def U1{d:Nat}{f:FuncId}{xs ys:List Operand}{vs us:List Value}(hx:Bk t xs vs)(hy:Bk t ys us)(k:WO P tab l ⟨t.set d (.func (.func f) vs.toArray us.toArray),ds,rd⟩ h Q):WO P tab (⟨some d,none,.mkFunc (.func f) xs ys⟩::l) ⟨t,ds,rd⟩ h Q:=
 WO.op _ _ rfl (by unfold Bk at *;simp only[WK,hx,hy]) k
def U8{d:Option Nat}{j:Nat}{want b:Bool}{op:Wz}(s:Wt t j (.bool b))(hb:b=want)(k:WO P tab (⟨d,none,op⟩::l) ⟨t,ds,rd⟩ h Q):WO P tab (⟨d,some (j,want),op⟩::l) ⟨t,ds,rd⟩ h Q:=
 XP (hb▸s) k
def U2{d j:Nat}{b:Bool}{op:Wz}(s:Wt t j (.bool b))(hb:b=false)(k:WO P tab l ⟨t.set d undef,ds,rd⟩ h Q):WO P tab (⟨some d,some (j,true),op⟩::l) ⟨t,ds,rd⟩ h Q:=by
 subst hb;exact V5 s k
def U5{d j:Nat}{b:Bool}{op:Wz}(s:Wt t j (.bool b))(hb:b=true)(k:WO P tab l ⟨t.set d undef,ds,rd⟩ h Q):WO P tab (⟨some d,some (j,false),op⟩::l) ⟨t,ds,rd⟩ h Q:=by
 subst hb;exact V5 s k
def U9{d j:Nat}{want:Bool}{op:Wz}(s:Wt t j undef)(k:WO P tab l ⟨t.set d undef,ds,rd⟩ h Q):WO P tab (⟨some d,some (j,want),op⟩::l) ⟨t,ds,rd⟩ h Q:=
 XV s k
def VI{d:Option Nat}{j:Nat}{want b:Bool}{op:Wz}(h1:b=true->WO P tab (⟨d,some (j,want),op⟩::l) ⟨t,ds,rd⟩ h Q)(h2:b=false->WO P tab (⟨d,some (j,want),op⟩::l) ⟨t,ds,rd⟩ h Q)(s:Wt t j (.bool b):=by exact Yd):
  WO P tab (⟨d,some (j,want),op⟩::l) ⟨t,ds,rd⟩ h Q:=by
 cases b with
 |true=>exact h1 rfl
 |false=>exact h2 rfl
def VA{d:Nat}{f:FuncId}{args:List Operand}{as:List Value}{R:Value->WA->Prop}(hc:WC P tab f as h R)(k:∀ v h',R v h'->WO P tab l ⟨t.set d v,ds,rd⟩ h' Q)(ha:Bk t args as:=by exact zMp):
  WO P tab (⟨some d,none,.call (.func f) args⟩::l) ⟨t,ds,rd⟩ h Q:=WO.call ha (hc.mono k)
def VJ{d:Nat}{f:Operand}{fv:Value}{args:List Operand}{as:List Value}{R:Value->WA->Prop}(hc:WV P tab fv as h R)(k:∀ v h',R v h'->WO P tab l ⟨t.set d v,ds,rd⟩ h' Q)(hf:WN t f fv:=by exact zN)(ha:Bk t args as:=by exact zMp):
  WO P tab (⟨some d,none,.call f args⟩::l) ⟨t,ds,rd⟩ h Q:=UA hf ha (hc.mono k)
def WO.al{d:Nat}{zero:List Value}(k:∀ p h',WH h h'->WB h h' p zero->WO P tab l ⟨t.set d p,ds,rd⟩ h' Q):WO P tab (⟨some d,none,.alloc zero⟩::l) ⟨t,ds,rd⟩ h Q:=XS k
def VG{x y:Operand}{p v:Value}{cells cs:List Value}{n:Nat}{h0:WA}(o:WB h0 h p cells)(e0:WH h0 h)(k:∀ h',WH h0 h'->WB h0 h' p cs->Wo p h h'->WO P tab l ⟨t,ds,rd⟩ h' Q)
  (hx:WN t x p:=by exact zN) (hy:WN t y v:=by exact zN) (hv:v.cells=cs.toArray:=by rfl) (hn:cs.length=n:=by rfl) (hl:cells.length=n:=by rfl) (h1:zK cs=true:=by rfl):WO P tab (⟨none,none,.store n x y⟩::l) ⟨t,ds,rd⟩ h Q:=
 XH hx hy hv h1 hn o e0 hl k
def VX{x y:Operand}{p v:Value}{cells cs:List Value}{n j:Nat}{h0:WA}(o:WB h0 h p cells)(e0:WH h0 h)(k:∀ h',WH h0 h'->WB h0 h' p (zX cells j cs)->Wo p h h'->WO P tab l ⟨t,ds,rd⟩ h' Q)
  (hx:WN t x (yJ p j):=by exact zN) (hy:WN t y v:=by exact zN) (hv:v.cells=cs.toArray:=by rfl) (hn:cs.length=n:=by rfl) (hl:j+n<=cells.length:=by decide) (h1:zK cs=true:=by rfl):WO P tab (⟨none,none,.store n x y⟩::l) ⟨t,ds,rd⟩ h Q:=
 Vt hx hy hv h1 hn o e0 hl k
def WO.bl{d n:Nat}{zero:List Value}{parts:List (Nat×Nat×Operand)}{vs:List (Nat×Nat×Value)}(xs:List Int)(k:∀ v h',WH h h'->Wq h h' v xs->WO P tab l ⟨t.set d v,ds,rd⟩ h' Q)
  (hp:BF t parts vs:=by(repeat (apply BF.cons;(exact zN)));exact BF.nil) (hn:xs.length=n:=by rfl) (hf:ZE (zi zero n) vs=some (xs.map I):=by rfl):WO P tab (⟨some d,none,.buildSlice n 1 zero parts⟩::l) ⟨t,ds,rd⟩ h Q:=
 XU xs hn (by unfold BF at hp;rw[hp];exact hf) k
def Uz{d:Nat}{x y:Operand}{v w:Value}{xs ys:List Int}{h0:WA}(o:WP h0 h v xs)(s:Wc h w ys)(e0:WH h0 h)(ah:ys≠[])(hr:xs.length+ys.length<=4294967296)(k:∀ v' h',WH h0 h'->Wq h0 h' v' (xs++ys)->Bm v h h'->WO P tab l ⟨t.set d v',ds,rd⟩ h' Q)
  (hx:WN t x v:=by exact zN) (hy:WN t y w:=by exact zN):WO P tab (⟨some d,none,.append 1 x y⟩::l) ⟨t,ds,rd⟩ h Q:=Vz hx hy o s e0 ah hr k
def Vc{d:Nat}{x y:Operand}{v w:Value}{xs ys:List Int}{h0:WA}(o:WP h0 h v xs)(s:Wc h w ys)(e0:WH h0 h)(hr:xs.length+ys.length<=4294967296)(k:∀ v' h',WH h0 h'->WP h0 h' v' (xs++ys)->WO P tab l ⟨t.set d v',ds,rd⟩ h' Q)
  (hx:WN t x v:=by exact zN) (hy:WN t y w:=by exact zN):WO P tab (⟨some d,none,.append 1 x y⟩::l) ⟨t,ds,rd⟩ h Q:=by
 by_cases ah:ys=[]
 ·subst ah;have aX:yq 1 h w=some []:=by simpa using Zu s
  have hv:∃ a n k,v=.slice a n k/\(a=none->n=0/\k=0):=by
   rcases o with⟨rfl,_⟩|⟨g,_,_,rfl,_⟩
   ·exact⟨_,_,_,rfl,fun _=>⟨rfl,rfl⟩⟩
   ·exact⟨_,_,_,rfl,fun h=>by cases h⟩
  refine WO.op v h rfl ?_ (k v h e0 (by simpa using o));unfold WN at hx hy;obtain⟨a,n,kk,rfl,ha⟩:=hv;cases a with
  |none=>obtain⟨rfl,rfl⟩:=ha rfl;simp only[WK,hx,hy,yR,aX]
  |some a=>simp only[WK,hx,hy,yR,aX]
 ·exact Vz hx hy o s e0 ah hr fun v' h' a b _=>k v' h' a (.inr b)
def V2{d:Nat}{op:BinOp}{ty:TypeId}{x y:Operand}{a b v:Value}(hp:ze P (do eqGuard op ty x y a b;binOp op ty a b)=some v)(k:WO P tab l ⟨t.set d v,ds,rd⟩ h Q)
  (hx:WN t x a:=by exact zN) (hy:WN t y b:=by exact zN) (hc:(zAJ a&&zAJ b)=true:=by rfl) (hv:yX v=true:=by rfl):WO P tab (⟨some d,none,.binP op ty x y⟩::l) ⟨t,ds,rd⟩ h Q:=by
 unfold WN at hx hy;refine WO.op v h rfl ?_ k;simp only[WK,hx,hy,hc,cond_true,hp,hv]
def zVc(M:WG Value->WA->Prop)(ds:List Deferred)(rd:Option Nat):WM->WA->Prop:=fun fr h=>fr.dfs=ds/\fr.round=rd/\M fr.tm h
def zCf{ih:Ex}:∀ (a b:List WE) (fr:WM) (h:WA),yd P ih (a++b) fr h=(yd P ih a fr h).bind fun p=>yd P ih b p.1 p.2
 |[],b,fr,h=>rfl
 |o::a,b,fr,h=>by
  simp only[JG,yd];cases yO P ih o fr h with
  |none=>rfl
  |some p=>obtain⟨a6,h1⟩:=p;exact zCf a b a6 h1
def VV(n:Nat)(M:WG Value->WA->Prop){ws:List Nat}(h1:WO P tab (l.take n) ⟨t,ds,rd⟩ h (zVc M ds rd))(h2:∀ t' h',zDg ws t t'->M t' h'->WO P tab (l.drop n) ⟨t',ds,rd⟩ h' Q)(hw:(l.take n).filterMap (·.dst)=ws:=by rfl):WO P tab l ⟨t,ds,rd⟩ h Q:=by
 subst hw;unfold WO at h1;obtain⟨a6,h',⟨q1,q2,q3⟩,d7⟩:=h1;obtain⟨t1,ds1,rd1⟩:=a6;simp only at q1 q2 q3;subst q1 q2;have hs:zDg ((l.take n).filterMap (·.dst)) t t1:=by
  intro j hj;obtain⟨N,a⟩:=(show ∃ N,∀ n',N<=n'->_ from by unfold Ev at d7;exact d7);exact zD8 (a N (QF _)) (fun hm=>by
   have:=ZQ hj;rw[List.contains_eq_mem,Gz]at this;exact this hm)
 have:=h2 t1 h' hs q3;unfold WO at this |-;obtain⟨gB,Lz,q,dO⟩:=this;refine⟨gB,Lz,q,(d7.and dO).mono fun k ⟨e1,e2⟩=> ?_⟩;rw[<-GR n l,zCf,e1];exact e2
def VT{d c i:Nat}{x y:Operand}{v r:Value}(hr:Zk c v (some i) none none=some r)(k:WO P tab l ⟨t.set d r,ds,rd⟩ h Q)(hx:WN t x v:=by exact zN)(hy:WN t y (I (i:Int)):=by exact zN):
  WO P tab (⟨some d,none,.slice c x (some y) none none⟩::l) ⟨t,ds,rd⟩ h Q:=by
 unfold WN at hx hy;refine WO.op r h rfl ?_ k;have:BX (I (i:Int))=some i:=rfl;simp only[WK,SM,hx,hy,this,QL,hr]
def V7{d c i:Nat}{x y:Operand}{v r:Value}(hr:Zk c v none (some i) none=some r)(k:WO P tab l ⟨t.set d r,ds,rd⟩ h Q)(hx:WN t x v:=by exact zN)(hy:WN t y (I (i:Int)):=by exact zN):
  WO P tab (⟨some d,none,.slice c x none (some y) none⟩::l) ⟨t,ds,rd⟩ h Q:=by
 unfold WN at hx hy;refine WO.op r h rfl ?_ k;have:BX (I (i:Int))=some i:=rfl;simp only[WK,SM,hx,hy,this,QL,hr]
def Uj{c:Nat}{zero:List Value}{x:Operand}{v:Value}{h':WA}(hr:zCP c zero v h=some (.tuple #[],h'))(k:WO P tab l ⟨t,ds,rd⟩ h' Q)(hx:WN t x v:=by exact zN):
  WO P tab (⟨none,none,.clearS c zero x⟩::l) ⟨t,ds,rd⟩ h Q:=by
 unfold WN at hx;exact VR (.tuple #[]) h' rfl (by simp only[WK,hx,hr]) k
def VH{d:Nat}{x:Operand}{v:Value}(k:∀ p h',WH h h'->WB h h' p v.cells.toList->WO P tab l ⟨t.set d p,ds,rd⟩ h' Q)(hx:WN t x v:=by exact zN):
  WO P tab (⟨some d,none,.box x⟩::l) ⟨t,ds,rd⟩ h Q:=UK v.cells.toList (by unfold WN at hx;rw[hx]) k
def UZ{c:Operand}{x y:WT}{K:WL->WM->WA->Prop}{b:Bool}(s:WN t c (.bool b))(hb:b=true)(h1:WX P tab x ⟨t,ds,rd⟩ h K):WX P tab (.cond c x y) ⟨t,ds,rd⟩ h K:=
 Xz (hb▸s) h1
def UY{c:Operand}{x y:WT}{K:WL->WM->WA->Prop}{b:Bool}(s:WN t c (.bool b))(hb:b=false)(h1:WX P tab y ⟨t,ds,rd⟩ h K):WX P tab (.cond c x y) ⟨t,ds,rd⟩ h K:=
 Xy (hb▸s) h1
def VE{c:Operand}{x y:WT}{K:WL->WM->WA->Prop}{b:Bool}(h1:b=true->WX P tab x ⟨t,ds,rd⟩ h K)(h2:b=false->WX P tab y ⟨t,ds,rd⟩ h K)(s:WN t c (.bool b):=by exact zN):WX P tab (.cond c x y) ⟨t,ds,rd⟩ h K:=
 WX.cond b s h1 h2
def WJ{k:Nat}{v:Value}(s:Wt t k v:=by(repeat (first|((with_reducible apply VY);rfl)|((with_reducible apply Wt.same);(with_reducible assumption);rfl)));first|with_reducible exact Wt.here|with_reducible assumption|(unfold Wt;with_reducible assumption)|exact Wt.here):zC t k=v:=s
def Wy{k i:Nat}(s:Wt t k (I ((i:Int)+1)):=by(repeat (first|((with_reducible apply VY);rfl)|((with_reducible apply Wt.same);(with_reducible assumption);rfl)));first|with_reducible exact Wt.here|with_reducible assumption|(unfold Wt;with_reducible assumption)|exact Wt.here):zC t k=I ((i+1:Nat):Int):=s
def BI(h:WA)(t:WG Value)(rs:List (Nat×Option (Bool×Nat)))(vs:List Value):Prop:=yI h t rs=some vs
def BI.nil:BI h t [] []:=rfl
def BI.cons{j:Nat}{v:Value}{rs:List (Nat×Option (Bool×Nat))}{vs:List Value}(s:Wt t j v)(k:BI h t rs vs):BI h t ((j,none)::rs) (v::vs):=by
 unfold BI at *;unfold Wt at s;simp only[yI,Y3,s,k]
def Vs{j n:Nat}{p v:Value}{h0:WA}{cs:List Value}{rs:List (Nat×Option (Bool×Nat))}{vs:List Value}(s:Wt t j p)(o:WB h0 h p cs)(hr:(cut cs 0 n).bind (zI true)=some v)(k:BI h t rs vs):BI h t ((j,some (true,n))::rs) (v::vs):=by
 obtain⟨g,_,_,rfl,hg⟩:=o;unfold BI at *;unfold Wt at s;simp only[yI,Y3,s,Z1 hg,Q2,cond_true,QV,hr,k]
def rt{rs:List (Nat×Option (Bool×Nat))}{Q:Value->WA->Prop}{vs:List Value}(hq:Q (one vs) h)(r:BI h t rs vs:=by(repeat (first|(apply BI.cons;(exact Yd))|(apply Vs;(exact Yd);(with_reducible assumption);(exact zLA))));exact BI.nil):zGN P tab rs Q .ret ⟨t,[],rd⟩ h:=zPt r hq
def BN{rs:List (Nat×Option (Bool×Nat))}{Q:Value->WA->Prop}{vs:List Value}(hq:Q (one vs) h)(r:BI h t rs vs:=by(repeat (first|(apply BI.cons;(exact Yd))|(apply Vs;(exact Yd);(with_reducible assumption);(exact zLA))));exact BI.nil):zGN P tab rs Q .normal ⟨t,[],rd⟩ h:=zJt r hq
def VD{ws:List Nat}{α:Type}{b:WT}{K:WL->WM->WA->Prop}(μ:α->Nat)(I:α->WG Value->WA->Prop)(x:α)(h0:I x t h)
  (hb:∀ x t' h',zDg ws t t'->I x t' h'->WX P tab b ⟨t',ds,rd⟩ h' (zDa μ I x ds rd K)) (hw:yL b=ws:=by conv=>(lhs;reduce)):WX P tab (.loop b) ⟨t,ds,rd⟩ h K:=
 Xl μ I x h0 fun x t' h' hs hi=>hb x t' h' (fun j hj=>hs j (by rw[hw];exact ZQ hj)) hi
structure Wrap(G:Prop):Prop where
 out:G
def go{G' G:Prop}(k:G')(r:Wrap G'->G:=by
  intro fe;repeat (first|refine WX.seq ?_|refine WX.region ?_|(apply R.mov;(exact zN))|(apply R.add;(exact zN);(exact zN);(omega);(omega))|(apply R.sub;(exact zN);(exact zN);(omega);(omega))|(apply R.mul;(exact zN);(exact zN);(omega);(omega))|(apply R.lss;(exact zN);(exact zN))|(apply R.leq;(exact zN);(exact zN))|(apply R.gtr;(exact zN);(exact zN))|(apply R.geq;(exact zN);(exact zN))|(apply R.eql;(exact zN);(exact zN))|(apply R.neq;(exact zN);(exact zN))|(apply R.not;(exact zN))|(apply U7;(exact zN);(exact zN))|(apply U6;(exact zN);(exact zN))|(apply Xt;(exact zN);(omega);(omega))|(apply R.conv;(exact zN))|(apply UF;(exact zN);(exact zGH);(exact zN))|(apply UL;(exact zN);(exact zGH);(exact zN))|(apply Xr;(exact zN))|(apply Xw;(exact zN))|(apply Xb;(exact zN))|(apply Xs;(exact zN))|(apply Xk;(exact zN))|(apply XZ;(exact zN))|(apply Xc;(exact zN))|(apply Xo;(exact zN))|(apply Xf;(exact zN))|(apply R.lenC)|(apply R.nil;(exact zN);(rfl))|(apply Uq;(exact zN);(exact zUe))|(apply Ur;(exact zN);(with_reducible assumption))|(apply Up;(exact zN);(exact zN);(exact zNi);(exact zUe);(exact zKT))|(apply Uc;(exact zN);(exact zN);(exact zNi);(with_reducible assumption);(exact zKT))|(apply UQ;(exact zN);(exact zUe);(exact zKT))|(apply Un;(exact zN);(with_reducible assumption);(decide);(exact zLA))|(apply U3;(exact zN);(with_reducible assumption);(decide);(rfl))|(apply UI;(exact zN);(with_reducible assumption);(decide);(exact zLA))|(apply Ue;(exact zN);(with_reducible assumption);(decide);(rfl))|(apply R.fldP;(exact zN);(with_reducible assumption))|(apply US;(exact zN);(with_reducible assumption))|(apply Ug;(exact zN);(with_reducible assumption))|(apply Us;(exact zN);(with_reducible assumption);(exact zN);(exact zNi);(exact zKT))|(apply UN;(exact zN);(with_reducible assumption);(exact zN);(exact zNi);(exact zKT))|(apply UP;(exact zN);(with_reducible assumption);(exact zN);(exact zNi);(exact zKT))|(apply UU;(exact zN);(with_reducible assumption);(exact zKT))|(apply XX;(exact zN);(with_reducible assumption);(exact zLA))|(apply Xe;(exact zN);(with_reducible assumption);(rfl))|(apply Xp;(exact zN);(with_reducible assumption);(exact zLA))|(apply UW;(exact zN);(with_reducible assumption);(rfl))|(apply UH;(exact zN);(exact zLA))|(apply R.part;(exact zN);(rfl))|(apply Uh;(exact zN);(exact zNi);(exact zKT))|(apply UE;(exact zN);(with_reducible assumption);(with_reducible assumption))|(apply R.agg;((repeat (apply BF.cons;(exact zN)));exact BF.nil);(exact zVY))|(apply Uw;(exact zN);(with_reducible assumption))|(apply Uf;(exact zN);(with_reducible assumption))|(apply U0;(exact zN))|(apply Ui;(exact zN);(with_reducible assumption))|(apply Ux;(exact zN);(exact zN);(with_reducible assumption);(with_reducible assumption))|(apply Uy;(exact zN);(exact zN);(with_reducible assumption);(with_reducible assumption))|(apply U1;(exact zMp);(exact zMp))|(apply U8;(exact Yd);(exact zGH))|(apply U2;(exact Yd);(exact zGH))|(apply U5;(exact Yd);(exact zGH))|(apply U9;(exact Yd))|refine WO.nil ?_|refine Yg ?_|refine WX.skip ?_|refine WX.block ?_|refine WX.exit ?_|refine zEY ?_|refine zCe ?_|refine zGd ?_|refine zBq rfl ?_|refine zFR ?_|refine WX.ret ?_|refine zHN ?_|refine zF9 ?_|refine zHh ?_|(apply UZ;(exact zN);(exact zGH))|(apply UY;(exact zN);(exact zGH))|refine WX.label ?_|refine WX.goto ?_|refine zF1 ?_|refine zEb ?_|refine zFL ?_|refine Vf rfl ?_)
  exact fe.out):G:=r ⟨k⟩
def gr{G' G:Prop}(k:G')(r:Wrap G'->G:=by
  intro fe;refine go ?_;refine rt ?_;exact fe.out):G:=r ⟨k⟩
def F0{A B C D G:Prop}(k:A->C)(l:B->D)(r:Wrap ((A->C)∧(B->D))->G:=by
  intro fe;refine go ?_;refine VE (fun hb=> ?_) (fun hb=> ?_)<;>simp only[DB]at hb
  ·exact fe.out.1 hb
  ·exact fe.out.2 hb):G:=r ⟨⟨k,l⟩⟩
def goC{G' G:Prop}(k:G')(r:Wrap G'->G:=by
  intro fe;repeat (first|refine WX.seq ?_|refine WX.region ?_|refine WO.nil ?_|refine Yg ?_|refine WX.skip ?_|refine WX.block ?_|refine WX.exit ?_|refine zEY ?_|refine zCe ?_|refine zGd ?_|refine zBq rfl ?_|refine zFR ?_|refine WX.ret ?_|refine zHN ?_|refine zF9 ?_|refine zHh ?_|(apply UZ;(exact zN);(exact zGH))|(apply UY;(exact zN);(exact zGH))|refine WX.label ?_|refine WX.goto ?_|refine zF1 ?_|refine zEb ?_|refine zFL ?_|refine Vf rfl ?_)
  exact fe.out):G:=r ⟨k⟩
end
section
variable {P:Program}
def zS{α β:Type}(x:Sem α)(f:α->Sem β):ze P (x>>=f)=(ze P x).bind fun a=>ze P (f a):=by
 show ze P (x.bind f)=_;induction x with
 |pure a=>rfl
 |program k ih=>simp only[Sem.bind,ze];exact ih _
 |mark m k ih=>simp only[Sem.bind,ze];exact ih
 |_=>simp[Sem.bind,ze]
def zH8{α:Type}(a:α):ze P (pure a)=some a:=rfl
def ZC:ze P program=some P:=rfl
def y9{t:TypeId}{d:TypeDesc}(h:P.underlying t=some d):ze P (underlying t)=some d:=by
 unfold underlying;rw[zS,ZC];simp only[QV,h];rfl
def zGu:Value->Value->Bool
 | .int _ a,.int _ b=>a == b
 | .bool a,.bool b=>a == b
 |_,_=>false
def zO8(P:Program)(f:Field):Value->Value->Bool
 | .int k _,.int k' _=>decide (k=k')&&(match P.underlying f.type with|some (.int _)=>true|_=>false)
 | .bool _,.bool _=>(match P.underlying f.type with|some .bool=>true|_=>false)
 |_,_=>false
def zF0(P:Program):List Field->Nat->List Value->List Value->Bool
 |[],_,[],[]=>true
 |f::fs,i,x::xs,y::ys=>(f.name != "_")&&Nat.beq f.offset i&&(match ze P (isAgg f.type)with|some false=>true|_=>false)&&zO8 P f x y&&zF0 P fs (i+1) xs ys
 |_,_,_,_=>false
def zD1:List Value->List Value->Bool
 |x::xs,y::ys=>zGu x y&&zD1 xs ys
 |_,_=>true
def zOZ{f:Field}{x y:Value}{d:Nat}(h:zO8 P f x y=true):ze P (Op.equalIn (d+1) f.type x y)=some (zGu x y):=by
 unfold zO8 at h;split at h
 ·rename_i k a k' b;rw[QI]at h;obtain⟨h1,h2⟩:=h;have h1:=JM h1;subst h1;split at h2;case h_2=>cases h2
  rename_i k2 hu;rw[Op.equalIn,zS,y9 hu];simp only[QV,Qz];rfl
 ·split at h;case h_2=>cases h
  rename_i hu;rw[Op.equalIn,zS,y9 hu];simp only[QV];rfl
 ·cases h
def zDF{t:TypeId}{cs:Array Value}{off:Nat}{v:Value}(h:(match ze P (isAgg t)with|some false=>true|_=>false)=true)(hv:cs[off]?=some v):ze P (part t cs off)=some v:=by
 have h':ze P (isAgg t)=some false:=by
  split at h
  ·assumption
  ·cases h
 unfold part;rw[zS,h'];simp only[QV,hv];rfl
def zS1{xs ys:Array Value}{n d:Nat}(hn:n=d+1):∀ (l:List Field) (i:Nat) (us vs:List Value),zF0 P l i us vs=true->(∀ j,xs[i+j]?=us[j]?)->(∀ j,ys[i+j]?=vs[j]?)->
  ze P (do
   let s <-(forIn l (none,()) fun f (__s:Option Bool×Unit)=>
          if f.name≠ "_" then do
           let __do_lift <-part f.type xs f.offset
           let __do_lift_1 <-part f.type ys f.offset
           let __do_lift <-Op.equalIn n f.type __do_lift __do_lift_1
           if(!__do_lift)=true then pure (ForInStep.done (some false,()))
            else pure (ForInStep.yield (none,()))
          else pure (ForInStep.yield (none,())):Sem (Option Bool×Unit))
   match s.fst with
        |some r=>pure r
        |none=>pure true)=some (zD1 us vs):=by
 intro l;induction l with
 |nil=>
  intro i us vs hk _ _;cases us with
  |cons _ _=>cases hk
  |nil=>cases vs with
   |cons _ _=>cases hk
   |nil=>rfl
 |cons f l ih=>
  intro i us vs hk hx hy;cases us with
  |nil=>cases hk
  |cons u us=>cases vs with
   |nil=>cases hk
   |cons v vs=>
   simp only[zF0,QI]at hk;obtain⟨⟨⟨⟨k1,k2⟩,k3⟩,k4⟩,k5⟩:=hk;have gN:=QN k2;have jI:f.name≠ "_":=by simpa using k1
   have LA:xs[f.offset]?=some u:=by rw[gN];simpa using hx 0
   have gO:ys[f.offset]?=some v:=by rw[gN];simpa using hy 0
   have cj:=ih (i+1) us vs k5 (fun j=>by have:=hx (j+1);rw[List.getElem?_cons_succ]at this;rw[<-this];congr 1;omega) (fun j=>by have:=hy (j+1);rw[List.getElem?_cons_succ]at this;rw[<-this];congr 1;omega);have heq:ze P (Op.equalIn n f.type u v)=some (zGu u v):=by rw[hn];exact zOZ k4
   rw[List.forIn_cons];simp only[bind_assoc,zS,QJ jI,zDF k3 LA,zDF k3 gO,QV,heq];cases he:zGu u v with
   |false=>simp only[zD1,he,Qj];rfl
   |true=>
    simp only[zD1,he,Qh];rw[<-cj,zS];rfl
def zOT{t:TypeId}{fs:Array Field}{xs ys:Array Value}{x y:Operand}(ht:P.underlying t=some (.struct fs))(hs:P.stoodInHeld t=false)(hg:P.eqGuardType P.depth t=false)(hk:zF0 P fs.toList 0 xs.toList ys.toList=true):
  ze P (do eqGuard .eql t x y (.agg xs) (.agg ys);binOp .eql t (.agg xs) (.agg ys))=some (.bool (zD1 xs.toList ys.toList)):=by
 have h1:ze P (eqGuard .eql t x y (.agg xs) (.agg ys))=some ():=by
  unfold eqGuard;simp only[Qe,Qy,Gt];rw[zS,ZC];simp only[QV];rw[zS,ZC];simp only[QV,hg,Ql,Qz];rfl
 rw[zS,h1];simp only[QV];unfold binOp;simp only[];rw[zS];have h2:ze P (Op.equal t (.agg xs) (.agg ys))=some (zD1 xs.toList ys.toList):=by
  unfold Op.equal Op.maxDepth;rw[show(10000:Nat)=9999+1 from rfl,Op.equalIn,zS,y9 ht];simp only[QV];rw[zS,ZC];simp only[QV,hs,Qy,Gt];have:=zS1 (P:=P) (xs:=xs) (ys:=ys) (n:=9999) (d:=9998) rfl fs.toList 0 xs.toList ys.toList hk (fun j=>by simp) (fun j=>by simp);rw[<-this,<-Array.forIn_toList,zS,zS];congr 1;funext s;obtain⟨a,_⟩:=s;cases a<;>rfl
 rw[h2];rfl
def chk(P:Program)(t:TypeId)(xs ys:List Value):Bool:=
 (match P.underlying t with|some (.struct fs)=>zF0 P fs.toList 0 xs ys|_=>false)&& !P.stoodInHeld t&& !P.eqGuardType P.depth t
def zLB{t:TypeId}{xs ys:Array Value}{x y:Operand}{b:Bool}(h:chk P t xs.toList ys.toList=true)(hb:zD1 xs.toList ys.toList=b):ze P (do eqGuard .eql t x y (.agg xs) (.agg ys);binOp .eql t (.agg xs) (.agg ys))=some (.bool b):=by
 subst hb;unfold chk at h;simp only[QI,Ge]at h;obtain⟨⟨h1,h2⟩,h3⟩:=h;split at h1;case h_2=>cases h1
 rename_i fs hu;exact zOT hu h2 h3 h1
end
section
variable {P:Program}
end
section
variable {P:Program}{tab:Ws}
def okU(m N0:Nat)(un:List Nat)(cl:Bool)(t:WG Value)(o:WE)(h h':WA):Prop:=
 (∀ g∈h'.wr,m<=g)/\h.n<=h'.n/\(un=[]\/(cl=true/\h'.wr=[]/\∀ g,zc t o=some g->g<N0))
def Wb(P:Program)(tab:Ws)(m N0:Nat):List (WE×List Nat)->Nat->Bool->WM->WA->(WM->WA->Prop)->Prop
 |[],_,_,fr,h,Q=>Q fr h
 |(o,un)::l,g,cl,fr,h,Q=>
  if Nat.beq (zE o.op) 3=true then
   un=[]/\((zP fr.tm o.guard=true/\m<=g/\∃ ob f,yh fr.tm o.op=some (ob,f)/\Wb P tab m N0 l (g+1) false (val o.dst fr (f g)) ((inC h).lay g ob) Q)\/
    (zP fr.tm o.guard=false/\Wb P tab m N0 l (g+1) cl (val o.dst fr undef) (inC h) Q))
  else WO P tab [o] fr (inC h) fun ae h'=>okU m N0 un cl fr.tm o h h'/\Wb P tab m N0 l g (cl&&h'.wr.isEmpty) ae h' Q
def zN0{m N0:Nat}{un:List Nat}{cl:Bool}{t:WG Value}{o:WE}{h h':WA}(hk:okU m N0 un cl t o h h'){ws:List (Nat×Nat)}(hw:cl=true->ws=[]){bs:List (Nat×Nat)}(hb:∀ e∈bs,N0<=e.2)(rs:List (Nat×Nat×Option (Nat×Nat×List Value))):
  ((match zc t o with
   |some g=>(ws.all fun x=> !(Nat.beq g x.2&&un.contains x.1))&&bs.all fun x=> !un.contains x.1||Nat.ble (g+1) x.2
   |none=>true)&&rs.all fun x=> !(un.contains x.1&&h'.wr.contains x.2.1)||zCi h' x.2.1 x.2.2)=true:=by
 obtain⟨_,_,rfl|⟨h1,h2,h3⟩⟩:=hk
 ·exact zK3 o ws rs bs t h'
 ·rw[hw h1,h2];have e2:(rs.all fun x=> !(un.contains x.1&&([]:List Nat).contains x.2.1)||zCi h' x.2.1 x.2.2)=true:=by simp
  rw[e2,Qq];cases hr:zc t o with
  |none=>rfl
  |some g=>
   have hg:=h3 g hr;simp only[List.all_nil,Qh];rw[QX];intro x hx;have:Nat.ble (g+1) x.2=true:=QK (QG hg (hb x hx));rw[this,Q7]
def Wb.run{m N0:Nat}:∀ {ops:List (WE×List Nat)} {g:Nat} {cl:Bool} {fr:WM} {h:WA} {Q:WM->WA->Prop},N0<=h.n->Wb P tab m N0 ops g cl fr h Q->
  ∃ ae h',Q ae h'/\∀ (i:Nat) (ws:List (Nat×Nat)) (rs:List (Nat×Nat×Option (Nat×Nat×List Value))) (bs:List (Nat×Nat)),(∀ e∈ws,m<=e.2)->(cl=true->ws=[])->(∀ e∈bs,N0<=e.2)->
   ∃ bG,(∀ e∈bG,m<=e.2)/\Ev fun n=>yD P (BE P tab n) ops i g ws rs bs fr h=some (ae,h',bG):=by
 intro ops;induction ops with
 |nil=>intro g cl fr h Q _ hx;exact⟨fr,h,hx,fun i ws rs bs hw _ _=>⟨ws,hw,Ev.all fun n=>rfl⟩⟩
 |cons x ops cj=>
  intro g cl fr h Q hn hx;obtain⟨o,un⟩:=x;simp only[Wb]at hx;have go:∀ {g':Nat} {bV:Bool} {a6:WM} {h1:WA},(g'=bif Nat.beq (zE o.op) 3 then g+1 else g)->(bV=true->cl=true/\h1.wr=[])->(Ev fun n=>yC P (BE P tab n) g o fr (inC h)=some (a6,h1))->okU m N0 un cl fr.tm o h h1->Wb P tab m N0 ops g' bV a6 h1 Q->
    ∃ ae h',Q ae h'/\∀ (i:Nat) (ws:List (Nat×Nat)) (rs:List (Nat×Nat×Option (Nat×Nat×List Value))) (bs:List (Nat×Nat)),(∀ e∈ws,m<=e.2)->(cl=true->ws=[])->(∀ e∈bs,N0<=e.2)->
     ∃ bG,(∀ e∈bG,m<=e.2)/\Ev fun n=>yD P (BE P tab n) ((o,un)::ops) i g ws rs bs fr h=some (ae,h',bG):=by
   intro g' bV a6 h1 hg aO ev hk hx;obtain⟨ae,h',q,run⟩:=cj (QM hn hk.2.1) hx;refine⟨ae,h',q,fun i ws rs bs uu mc gP=> ?_⟩;obtain⟨bG,w1,w2⟩:=run (i+1) (h1.wr.map (fun g=>(i,g))++ws) (match zc fr.tm o with
     |some g=>(i,g,Y6 fr.tm h o.op)::rs
     |none=>rs) ((i,h.n)::bs) (fun e he=>by
      rcases Qf.1 he with he|he
      ·obtain⟨y,hy,rfl⟩:=Qw.1 he;exact hk.1 y hy
      ·exact uu e he) (fun hc=>by
      obtain⟨c1,c2⟩:=aO hc;rw[mc c1,c2];rfl) (fun e he=>by
      rcases Qt.1 he with rfl|he
      ·exact hn
      ·exact gP e he)
   refine⟨bG,w1,(ev.and w2).mono fun n ⟨e1,e2⟩=> ?_⟩;simp only[yD];have pX:yC P (BE P tab n) g o fr {h with mark:=h.n,wr:=[]}=some (a6,h1):=e1;rw[pX];have aS:=zN0 hk mc gP rs;exact(congrArg (fun b:Bool=>bif b then yD P (BE P tab n) ops (i+1) (bif Nat.beq (zE o.op) 3 then g+1 else g) (h1.wr.map (fun g=>(i,g))++ws) (match zc fr.tm o with
     |some g=>(i,g,Y6 fr.tm h o.op)::rs
     |none=>rs) ((i,h.n)::bs) a6 h1 else none) aS).trans (by rw[cond_true,<-hg];exact e2)
  by_cases hk:Nat.beq (zE o.op) 3=true
  ·rw[QJ hk]at hx;obtain⟨rfl,⟨hw,hm,ob,f,aG,hx⟩|⟨hw,hx⟩⟩:=hx;case inr=>
    refine go (g':=g+1) (bV:=cl) (by rw[hk];rfl) (fun h=>⟨h,rfl⟩) (Ev.all fun n=> ?_) (h1:=inC h) ⟨fun x hx=>(by cases hx),(show h.n<=h.n from QF _),.inl rfl⟩ hx;unfold yC;simp only[hk,hw,cond_true,QU]
   refine go (g':=g+1) (bV:=false) (by rw[hk];rfl) (fun h=>by cases h) (Ev.all fun n=> ?_) (h1:=(inC h).lay g ob) ⟨fun x hx=> ?_,(show h.n<=h.n from QF _),.inl rfl⟩ hx
   ·unfold yC;simp only[hk,hw,aG,cond_true]
   ·rcases yj hx with rfl|hx
    ·exact hm
    ·cases hx
  ·rw[QC hk]at hx;have cF:Nat.beq (zE o.op) 3=false:=by cases hb:Nat.beq (zE o.op) 3 with
    |false=>rfl
    |true=>exact absurd hb hk
   unfold WO at hx;obtain⟨a6,h1,⟨q1,q2⟩,ev⟩:=hx;refine go (g':=g) (bV:=cl&&h1.wr.isEmpty) (by rw[cF];rfl) (fun hc=>by
    rw[QI]at hc;exact⟨hc.1,List.isEmpty_iff.1 hc.2⟩) (ev.mono fun n e=> ?_) q1 q2
   unfold yC;simp only[cF,QU];simp only[yd]at e;cases ha:yO P (BE P tab n) o fr (inC h)with
   |none=>rw[ha]at e;cases e
   |some p=>rw[ha]at e;exact e
def zB(k:Nat)(h:WA):WA:={h with n:=h.n+k}
def zG(k:Nat)(h:WA):WH h (zB k h):=⟨JP _ _,fun _ _=>rfl,fun w g hg=>w g (QM (JP _ _) hg),rfl,fun _=>rfl⟩
def VC{ops:List (WE×List Nat)}{fr:WM}{h:WA}{K:WL->WM->WA->Prop}(k:Nat)(hk:zEV ops=k)(ah:ops.isEmpty=false)
  (hx:Wb P tab h.mark (h.n+k) ops h.n true fr (inC (zB k h)) (SJ K h)):WX P tab (.regionC ops) fr h K:=by
 subst hk;have eS:Wb P tab h.mark (h.n+zEV ops) ops h.n true fr (zB (zEV ops) h) (SJ K h):=by
  cases ops with
  |nil=>cases ah
  |cons x ops=>exact hx
 obtain⟨ae,h',q,run⟩:=Wb.run (h:=zB (zEV ops) h) (show h.n+zEV ops<=h.n+zEV ops from QF _) eS;obtain⟨bG,w1,w2⟩:=run 0 [] [] [] (fun e he=>by cases he) (fun _=>rfl) (fun e he=>by cases he);unfold WX;refine⟨.normal,ae,_,q,Ev.up (w2.mono fun n e=> ?_)⟩;rw[zx];simp only[zo,YZ];have e':yD P (BE P tab n) ops 0 h.n [] [] [] fr {h with n:=h.n+(ops.filter fun x=>Nat.beq (zE x.1.op) 3).length}=some (ae,h',bG):=e;rw[e'];have:((bG.map (·.2)).filter fun g=> !Nat.ble h.mark g)=[]:=by
  rw[List.filter_eq_nil_iff];intro g hg;obtain⟨y,hy,rfl⟩:=Qw.1 hg;have:Nat.ble h.mark y.2=true:=QK (w1 y hy);simp[this]
 simp[this,z9]
end
section
variable {P:Program}{tab:Ws}{m N0:Nat}{l:List (WE×List Nat)}{o:WE}{un:List Nat}{g:Nat}{cl:Bool}{fr:WM}{h h0 h':WA}{Q:WM->WA->Prop}{K:WL->WM->WA->Prop}{x:WE×List Nat}
def uK2(P:Program)(tab:Ws)(m N0:Nat)(un:List Nat)(t:WG Value)(o:WE)(h:WA)(l:List (WE×List Nat))(g:Nat)(cl:Bool)(Q:WM->WA->Prop):WM->WA->Prop:=
 fun ae h'=>okU m N0 un cl t o h h'/\Wb P tab m N0 l g (cl&&h'.wr.isEmpty) ae h' Q
def Wb.q(hk:Nat.beq (zE o.op) 3=false)(hx:WO P tab [o] fr (inC h) (uK2 P tab m N0 un fr.tm o (inC h) l g cl Q)):Wb P tab m N0 ((o,un)::l) g cl fr (inC h) Q:=by
 simp only[Wb];rw[QC (by rw[hk];exact Bool.noConfusion)];exact hx
def zS6{t:WG Value}(hx:Wb P tab m N0 l g cl fr (inC h) Q):uK2 P tab m N0 [] t o (inC h) l g cl Q fr (inC h):=
 ⟨⟨fun g hg=>(by cases hg),QF _,.inl rfl⟩,by rw[show(cl&&(inC h).wr.isEmpty)=cl from by simp[inC]];exact hx⟩
def zDj{t:WG Value}(hr:∀ g,zc t o=some g->g<N0)(hx:Wb P tab m N0 l g true fr (inC h) Q):uK2 P tab m N0 un t o (inC h) l g true Q fr (inC h):=
 ⟨⟨fun g hg=>(by cases hg),QF _,.inr ⟨rfl,rfl,hr⟩⟩,by rw[show(true&&(inC h).wr.isEmpty)=true from by simp[inC]];exact hx⟩
def zDs{t:WG Value}(e:WH (inC h) h')(hr:zc t o=none)(hx:Wb P tab m N0 (x::l) g true fr (inC h') Q):uK2 P tab m N0 un t o (inC h) (x::l) g true Q fr h':=by
 have hw:=e.wrnil;refine⟨⟨fun g hg=>(by rw[hw]at hg;cases hg),e.n,?_⟩,?_⟩
 ·exact .inr ⟨rfl,hw,fun g hg=>by rw[hr]at hg;cases hg⟩
 ·rw[hw];exact hx
def zMJ{t:WG Value}(hx:K .normal fr (z9 h0 (inC h))):uK2 P tab m N0 [] t o (inC h) [] g cl (SJ K h0) fr (inC h):=⟨⟨fun g hg=>(by cases hg),QF _,.inl rfl⟩,hx⟩
def XY{t:WG Value}{ds:List Deferred}{rd:Option Nat}{zero cs:List Value}{d n:Nat}{y:Operand}{v:Value}(hm:m<=g)(hg:g<h.n)(hz:zero.length=n)(hn:cs.length=n)(h1:zK cs=true)(hv:v.cells=cs.toArray)(hy:ev (t.set d (.pointer (some ⟨g,0,none⟩))) y=v)
  (hx:Q ⟨t.set d (.pointer (some ⟨g,0,none⟩)),ds,rd⟩ ((inC ((inC h).lay g (.row zero true 0))).set g (.row cs true 0))):
  Wb P tab m N0 [(⟨some d,none,.alloc zero⟩,[]),(⟨none,none,.store n (.tmp d) y⟩,[])] g cl ⟨t,ds,rd⟩ (inC h) Q:=by
 subst hn;rw[Wb,QJ (show Nat.beq (zE (Wz.alloc zero)) 3=true from rfl)];refine⟨rfl,.inl ⟨rfl,hm,_,_,rfl,?_⟩⟩;rw[show inC (inC h)=inC h from rfl];rw[Wb,QC (show ¬Nat.beq (zE (Wz.store cs.length (.tmp d) y)) 3=true from Bool.noConfusion)];have a9:(inC ((inC h).lay g (.row zero true 0))).get g=some (.row zero true 0):=by
  show((inC h).tab.set g (.row zero true 0)).get g=_;rw[zU,QJ rfl]
 have aL:zk (inC ((inC h).lay g (.row zero true 0))) ⟨g,0,none⟩ cs=some ((inC ((inC h).lay g (.row zero true 0))).set g (.row cs true 0)):=by
  have h2:Nat.ble (0+cs.length) zero.length=true:=QK ω;have h3:Nat.ble 0 0=true:=rfl;have h4:zX zero 0 cs=cs:=by simp[zX,hz]
  simp only[zk,a9,h2,h3,h1,h4,Q2,GC,cond_true]
 refine VR undef ((inC ((inC h).lay g (.row zero true 0))).set g (.row cs true 0)) rfl (by
  simp only[WK];have e1:ev (val (some d) ⟨t,ds,rd⟩ (.pointer (some ⟨g,0,none⟩))).tm (.tmp d)=.pointer (some ⟨g,0,none⟩):=by simp only[val,ev,zg,Qz]
  have e2:ev (val (some d) ⟨t,ds,rd⟩ (.pointer (some ⟨g,0,none⟩))).tm y=v:=hy;have pX:ev (t.set d (.pointer (some ⟨g,0,none⟩))) (.tmp d)=.pointer (some ⟨g,0,none⟩):=e1;simp only[val,pX,hy,hv,G2,Gl,aL,QL,cond_true]) ?_
 refine WO.nil ⟨⟨fun k hk=> ?_,QF _,.inl rfl⟩,hx⟩;have aU:k∈(inC ((inC h).lay g (.row zero true 0))).log g:=hk;rcases yj aU with rfl|cG
 ·exact hm
 ·cases cG
def zI7{k:Nat}{o o':Wp}(e:WH (inC (zB 1 h0)) h):WH h0 (z9 h0 ((inC ((inC h).lay h0.n o)).set h0.n o')):=by
 have hn:h0.n+1<=h.n:=e.n;refine⟨by show h0.n<=h.n;omega,fun k hk=> ?_,fun w k hk=> ?_,rfl,fun _=>rfl⟩
 ·show((h.tab.set h0.n o).set h0.n o').get k=_;rw[zU,QC ω,zU,QC ω];exact e.get k (by show k<h0.n+1;omega)
 ·have hk:h.n<=k:=hk;show((h.tab.set h0.n o).set h0.n o').get k=_;rw[zU,QC ω,zU,QC ω];exact e.wf (fun j hj=>w j (by have:h0.n+1<=j:=hj;omega)) k hk
def zJs{cs:List Value}{o:Wp}(e:WH (inC (zB 1 h0)) h):WB h0 (z9 h0 ((inC ((inC h).lay h0.n o)).set h0.n (.row cs true 0))) (.pointer (some ⟨h0.n,0,none⟩)) cs:=by
 have hn:h0.n+1<=h.n:=e.n;exact⟨h0.n,QF _,by show h0.n<h.n;omega,rfl,by
  show((h.tab.set h0.n o).set h0.n (.row cs true 0)).get h0.n=_;rw[zU,QJ rfl]⟩
end
section
variable {P:Program}{tab:Ws}{ds:List Deferred}{rd:Option Nat}{h:WA}{l:List WE}{t:WG Value}
def WU{G' G:Prop}(k:G')(r:Wrap G'->G:=by
  intro fe;first|with_reducible show Wb _ _ _ _ (_::_) _ _ _ _ _|refine go ?_
  repeat (first|((apply Wb.q;rfl);refine go ?_)|refine zS6 ?_|refine zMJ ?_)
  first|with_reducible show Wb _ _ _ _ (_::_) _ _ _ _ _|refine go ?_
  exact fe.out):G:=r ⟨k⟩
def gUr{G' G:Prop}(k:G')(r:Wrap G'->G:=by
  intro fe;refine WU ?_;refine rt ?_;exact fe.out):G:=r ⟨k⟩
def XN{m N0 n g d:Nat}{cl:Bool}{y:Operand}{v:Value}{zero cs:List Value}{Q:WM->WA->Prop}(hm:m<=g)(hg:g<h.n)(hx:Q ⟨t.set d (.pointer (some ⟨g,0,none⟩)),ds,rd⟩ ((inC ((inC h).lay g (.row zero true 0))).set g (.row cs true 0)))
  (hy:WN (t.set d (.pointer (some ⟨g,0,none⟩))) y v:=by exact zN) (hv:v.cells=cs.toArray:=by rfl) (hz:zero.length=n:=by rfl) (hn:cs.length=n:=by rfl) (h1:zK cs=true:=by rfl):
  Wb P tab m N0 [(⟨some d,none,.alloc zero⟩,[]),(⟨none,none,.store n (.tmp d) y⟩,[])] g cl ⟨t,ds,rd⟩ (inC h) Q:=XY hm hg hz hn h1 hv hy hx
def Wb.upd{N0 g:Nat}{cl:Bool}{mx kx vx:Operand}{mv:Value}{a b:Int}{es:List (Int×Int)}{h0 hS:WA}{K:WL->WM->WA->Prop}(o:BR h0 hS mv es)(e0:WH h0 hS)(hm:hS.mark<=h0.n)(hl:es.lookup a=none)
  (k:∀ h1,WH h0 h1->BR h0 h1 mv (es++[(a,b)])->zQ0 mv hS h1->K .normal ⟨t,ds,rd⟩ h1) (kP:WN t mx mv:=by exact zN) (HI:WN t kx (I a):=by exact zN) (HJ:WN t vx (I b):=by exact zN):
  Wb P tab hS.mark N0 [(⟨none,none,.update mx kx vx⟩,[])] g cl ⟨t,ds,rd⟩ (inC (zB 0 hS)) (SJ K hS):=by
 obtain⟨q,c,aF,g1,g2,rfl,g4,g5⟩:=o;unfold WN at kP HI HJ;have hf:=zEX 0 g5 hl;have LB:(inC (inC (zB 0 hS))).get q=some (.map aF c):=g4;rw[Wb,QC (show ¬Nat.beq (zE (Wz.update mx kx vx)) 3=true from Bool.noConfusion)];refine VR undef ((inC (inC (zB 0 hS))).set q (.map (aF++[{key:=I a,val:=I b,born:=c}]) (c+1))) rfl (by simp only[WK,kP,HI,HJ,LB,hf]) ?_;refine WO.nil ⟨⟨fun x hx=> ?_,QF _,.inl rfl⟩,?_⟩
 ·have fN:x∈(inC (inC (zB 0 hS))).log q:=hx;rcases yj fN with rfl|CQ
  ·omega
  ·cases CQ
 ·refine k (z9 hS ((inC (inC (zB 0 hS))).set q (.map (aF++[{key:=I a,val:=I b,born:=c}]) (c+1)))) ?_ ?_ ?_
  ·refine⟨e0.n,fun j hj=> ?_,fun w j hj=> ?_,e0.mark,fun de=>e0.wr de⟩
   ·show(hS.tab.set q _).get j=_;rw[zU,QC ω];exact e0.get j hj
   ·have hj:hS.n<=j:=hj;show(hS.tab.set q _).get j=_;rw[zU,QC ω];exact e0.wf w j hj
  ·refine⟨q,c+1,aF++[{key:=I a,val:=I b,born:=c}],g1,g2,rfl,?_,by simp[g5]⟩;show(hS.tab.set q _).get q=_;rw[zU,QJ rfl]
  ·refine⟨QF _,fun j _ hj=> ?_⟩;show(hS.tab.set q _).get j=_;rw[zU,QC (fun e=>hj (by rw[e]))];rfl
def zO{x:Operand}{v:Value}(hx:WN t x v:=by exact zN):ev t x=v:=hx
def zRb{m N0 n g j:Nat}{un:List Nat}{d:Option Nat}{agg:Bool}{x:Operand}{p:Value}{cs:List Value}{h0 hs:WA}{l:List (WE×List Nat)}{fr:WM}{Q:WM->WA->Prop}(o:WB h0 hs p cs)(hN:hs.n<=N0)(hx:Wb P tab m N0 l g true fr (inC h) Q)
  (hr:WN t x (yJ p j):=by exact zN):uK2 P tab m N0 un t ⟨d,none,.load agg n x⟩ (inC h) l g true Q fr (inC h):=by
 refine zDj (fun k hk=> ?_) hx;obtain⟨q,q1,q2,rfl,q3⟩:=o;unfold WN yJ at hr;simp only[zc,zP,cond_true,hr,QA]at hk;omega
end
section
variable {P:Program}{tab:Ws}{t:WG Value}{h:WA}{ds:List Deferred}{rd:Option Nat}{l:List WE}{Q:WM->WA->Prop}
def fl(n:Int):Value:= .float .f64 (FloatKind.nearest .f64 n)
end
open Go.RowKit
section
variable {H:Type}
def zHu{enc:TypeId×Value->H}{a:Assume}{C:Checked}{os:Os}{f:FuncId}{fn:Func}{s:ChangeSpec}{conds:List PathCond}{apart fresh handsOn again:Bool}{X:World->Array Value->Prop}
  (hX:∀ (w w':World) (args:Array Value),w.heap=w'.heap->X w args->X w' args)
  (own:ownKnob C.prog.godebug=none) (started:os.Started) (pY:C.prog.inits.idxOf? f=none) (hfn:C.prog.funcs[f]?=some fn)
  (witness:∃ (w:World) (tape:Tape) (i:Input),w.os=os/\(w.forCall tape i).Shaped C.prog/\i.vars=[]/\Input.okWide C.prog (w.forCall tape i) .any w.heap.size f i/\
   ((s.pre enc C.prog fn conds apart (w.forCall tape i).memory i.args/\X (w.forCall tape i).memory i.args)/\sizedMet enc C.prog fn (OpenSpec.ofChange s) apart (w.forCall tape i).memory i.args)/\a.holds C.prog (lone (Frame.enter C.prog f i.args .normal) [] (w.forCall tape i)))
  (jP:∀ (W:World) (base:Nat) (args:Array Value) (ds gs:List (DataW H)) (before:List MemPlace),
   (∀ (j:Nat) t v,fn.params[j]?=some t->args[j]?=some v->Value.okWide C.prog W .any base t v)->
   DataW.Whole enc C.prog fn.params.toList s.vars apart W args.toList ds gs before->
   (DataW.weightsEach C.prog (fn.params.toList++(OpenSpec.ofChange s).bare.plain.varTypes C.prog) (ds++gs)).all (·<=reachBytes)=true->X W args->W.ShapedOpen C.prog->
   Calls C.prog f args W fun e W'=>∃ v,e=.returned v/\s.post enc C.prog fn apart fresh handsOn again W args v W'):
  ReturnsInHanded a C os f .any (fun w args=>(s.pre enc C.prog fn conds apart w args/\X w args)/\sizedMet enc C.prog fn (OpenSpec.ofChange s) apart w args) (s.post enc C.prog fn apart fresh handsOn again):=by
 refine returnsInHanded_of_calls own started pY witness ?_;intro w tape i _ hsh _ aS fQ _;obtain⟨_,_,_,fy,CR,_,_,_,_,hval⟩:=aS;have e:fy=fn:=Qm (CR.symm.trans hfn);subst e;obtain⟨⟨_,hx⟩,_,ds,gs,before,hw,hsz⟩:=fQ;have CS:=DataW.Whole.of_heap (w':=w.forCall tape i) (by rfl) hw;refine(jP (w.forCall tape i) w.heap.size i.args ds gs before hval CS hsz (hX _ _ _ (by rfl) hx) hsh).mono fun e W' ⟨v,he,hp⟩=> ?_;subst he;exact ChangeSpec.post_blind hp
def BS(P:Program)(t:TypeId)(d:DataW H):Prop:=∀ n∈DataW.weights P t d,n<=reachBytes
variable {P:Program}{h:WA}
def zFd:∀ {ts:List TypeId} {ds:List (DataW H)},(∀ n∈DataW.weightsEach P ts ds,n<=reachBytes)->∀ (i:Nat) t d,ts[i]?=some t->ds[i]?=some d->BS P t d
 |[],_,_,i,t,d,ht,_=>by simp at ht
 |_::_,[],_,i,t,d,_,hd=>by simp at hd
 |t::ts,d::ds,hw,0,_,_,ht,hd=>by
  simp at ht hd;subst ht hd;exact fun n hn=>hw n (by unfold DataW.weightsEach;simp[hn])
 |t::ts,d::ds,hw,i+1,_,_,ht,hd=>
  zFd (ts:=ts) (ds:=ds) (fun n hn=>hw n (by unfold DataW.weightsEach;simp[hn])) i _ _ (by simpa using ht) (by simpa using hd)
def zMk{e:TypeId}:∀ {ds:List (DataW H)},(∀ n∈DataW.weightsAll P e ds,n<=reachBytes)->∀ (i:Nat) d,ds[i]?=some d->BS P e d
 |[],_,i,d,hd=>by simp at hd
 |d::ds,hw,0,_,hd=>by
  simp at hd;subst hd;exact fun n hn=>hw n (by unfold DataW.weightsAll;simp[hn])
 |d::ds,hw,i+1,_,hd=>zMk (ds:=ds) (fun n hn=>hw n (by unfold DataW.weightsAll;simp[hn])) i _ (by simpa using hd)
def zHn{t e:TypeId}{elems spare:List (DataW H)}(ht:P.underlying t=some (.slice e))(hw:BS P t (.slice elems spare)):elems.length*P.bytesOf e<=reachBytes/\∀ (i:Nat) d,elems[i]?=some d->BS P e d:=by
 unfold BS at hw;unfold DataW.weights at hw;rw[ht]at hw;simp only at hw;refine⟨?_,zMk fun n hn=>hw n (by simp[hn])⟩;have:=hw _ (QR ..);exact QM (GH _ (JP _ _)) this
def zL7{t:TypeId}{fs:Array Field}{parts:List (DataW H)}(ht:P.underlying t=some (.struct fs))(hw:BS P t (.agg parts))(i:Nat)(f:Field)(d:DataW H)(hf:fs[i]?=some f)(hd:parts[i]?=some d):BS P f.type d:=by
 unfold BS at hw;unfold DataW.weights at hw;rw[ht]at hw;exact zFd hw i f.type d (by simp[hf]) hd
def zBK{α:Type}{c:Nat}{R:WA->List Value->α->Prop}{t e:TypeId}{cK:List Value}{d:DataW H}(r:Rd P h t cK d)(ht:P.underlying t=some (.slice e))(hc:P.cellsOf e=c)(hb:1<=P.bytesOf e)(hw:BS P t d)
  (hR:∀ cs (d:DataW H),Rd P h e cs d->BS P e d->∃ a,R h cs a):∃ av l,cK=[av]/\W7 c R h av l/\(l.length:Int)<=1152921504606846976:=by
 subst hc;rcases zFs r ht with⟨rfl,_⟩|⟨a,sp,rfl,_⟩|⟨g,cells,elems,sp,rfl,rfl,hg,hn,hl,hm,hr⟩
 ·exact⟨_,[],rfl,W7.nil,by simp⟩
 ·exact⟨_,[],rfl,⟨[],⟨by simp,.inl ⟨rfl,.inr ⟨_,_,rfl⟩⟩⟩,fun i a ha=>by simp at ha⟩,by simp⟩
 ·obtain⟨w1,w2⟩:=zHn ht hw;obtain⟨l,h1,h2⟩:=zRp (p:=fun i a=>R h ((cells.drop (i*P.cellsOf e)).take (P.cellsOf e)) a) elems.length fun i hi=>hR _ _ (hr i _ (QB hi)) (w2 i _ (QB hi));refine⟨_,l,rfl,⟨cells,⟨by rw[h1];exact hl,.inr ⟨g,0,cells,by rw[h1],by simp[z0,hg],?_,hn⟩⟩,h2⟩,?_⟩
  ·rw[h1,<-hl];simp[cut,QK (QF _)]
  ·have:elems.length<=elems.length*P.bytesOf e:=Nat.le_mul_of_pos_right _ hb;unfold reachBytes at w1;rw[h1];omega
def zGM{t e:TypeId}{cK:List Value}{d:DataW H}(r:Rd P h t cK d)(ht:P.underlying t=some (.slice e))(he:P.underlying e=some (.int .i64))(hc:P.cellsOf e=1)(hb:1<=P.bytesOf e)(hw:BS P t d):
  ∃ av l,cK=[av]/\Wc h av l/\(l.length:Int)<=1152921504606846976/\∀ a∈l,(Lit.int .i64 a).wf=true:=by
 obtain⟨av,l,h1,h2,_,h4⟩:=zR2 r ht he hc;refine⟨av,l,h1,h2,?_,h4⟩;rcases zFs r ht with⟨rfl,_⟩|⟨a,sp,rfl,_⟩|⟨g,cells,elems,sp,rfl,rfl,_⟩
 ·cases h1;have:=h2.len (P:=P) (ih:=Ex.bot) (t:= .leaf) (x:= .const (.slice none 0 0)) rfl;rcases h2 with⟨_,⟨h0,_⟩|⟨g,off,row,hv,_⟩⟩
  ·omega
  ·cases hv
 ·cases h1;rcases h2 with⟨_,⟨h0,_⟩|⟨g,off,row,hv,_⟩⟩
  ·omega
  ·injection hv with _ e2 _;omega
 ·cases h1;obtain⟨w1,_⟩:=zHn ht hw;have hle:elems.length<=elems.length*P.bytesOf e:=Nat.le_mul_of_pos_right _ hb;unfold reachBytes at w1;rcases h2 with⟨_,⟨h0,_⟩|⟨g,off,row,hv,_⟩⟩
  ·omega
  ·injection hv with _ e2 _;omega
def YL{t:TypeId}{fs:Array Field}{cK:List Value}{d:DataW H}(r:Rd P h t cK d)(ht:P.underlying t=some (.struct fs))(hw:BS P t d):
  cK.length=P.cellsOf t/\∀ (i:Nat) (f:Field),fs[i]?=some f->∃ d:DataW H,Rd P h f.type ((cK.drop f.offset).take (P.cellsOf f.type)) d/\BS P f.type d:=by
 cases r with
 |int n aJ wf=>rw[ht]at aJ;cases aJ
 |bool _ aJ=>rw[ht]at aJ;cases aJ
 |string _ aJ=>rw[ht]at aJ;cases aJ
 |snil aJ=>rw[ht]at aJ;cases aJ
 |szero a sp aJ=>rw[ht]at aJ;cases aJ
 |slice g cells elems sp aJ hg hn hl hm hr=>rw[ht]at aJ;cases aJ
 |array _ _ aJ=>rw[ht]at aJ;cases aJ
 |struct cells parts aJ hl hp hr=>
  rw[ht]at aJ;cases aJ;refine⟨hl,fun i f hf=> ?_⟩;have hi:i<parts.length:=by rw[hp];exact(JA.1 hf).1
  exact⟨_,hr i f _ hf (QB hi),zL7 ht hw i f _ hf (QB hi)⟩
end
section
variable {H:Type}{P:Program}{h:WA}
end
def Ww(h:WA)(g:Nat)(o:Wp):Prop:=g<h.n/\h.get g=some o
def zMo:Wp->Bool
 | .loop .. | .deferred .. =>true
 |_=>false
def Ww.ext{h h':WA}{g:Nat}{o:Wp}(k:Ww h g o)(e:WH h h'):Ww h' g o:=⟨QG k.1 e.n,(e.get g k.1).trans k.2⟩
def Ww.updC{h0 h h':WA}{g:Nat}{o:Wp}{p:Value}{cs:List Value}(k:Ww h g o)(hr:zMo o=true)(w:WB h0 h p cs)(u:Wo p h h'):Ww h' g o:=by
 refine⟨QG k.1 u.1,(u.2 g k.1 fun e=> ?_).trans k.2⟩;obtain⟨g2,_,_,rfl,hg⟩:=w;cases e;have:=k.2;rw[hg]at this;cases this;cases hr
def Ww.upd{h0 h h':WA}{g:Nat}{o:Wp}{v:Value}{xs:List Int}(k:Ww h g o)(hr:zMo o=true)(w:WP h0 h v xs)(u:Bm v h h'):Ww h' g o:=by
 refine⟨QG k.1 u.1,(u.2 g k.1 fun a n c hv e=> ?_).trans k.2⟩;rcases w with⟨rfl,_⟩|⟨g2,_,_,rfl,hg⟩
 ·cases hv
 ·cases hv;simp only at e;subst e;have:=k.2;rw[hg]at this;cases this;cases hr
def Ww.set{h:WA}{g l:Nat}{o p:Wp}(k:Ww h g o)(ah:g≠l):Ww (h.set l p) g o:=⟨k.1,by rw[zn,QC ah];exact k.2⟩
def Ww.self{h:WA}{g:Nat}{o p:Wp}(k:Ww h g o):Ww (h.set g p) g p:=⟨k.1,by rw[zn,QJ rfl]⟩
def WB.setR{h0 h:WA}{p:Value}{cs:List Value}{l:Nat}{o o':Wp}(w:WB h0 h p cs)(k:Ww h l o)(hr:zMo o=true):WB h0 (h.set l o') p cs:=by
 obtain⟨g,a,b,c,d⟩:=w;refine⟨g,a,b,c,?_⟩;rw[zn,QC (fun e=> ?_)]
 ·exact d
 ·subst e;have:=k.2;rw[d]at this;cases this;cases hr
def WP.setR{h0 h:WA}{v:Value}{xs:List Int}{l:Nat}{o o':Wp}(w:WP h0 h v xs)(k:Ww h l o)(hr:zMo o=true):WP h0 (h.set l o') v xs:=by
 rcases w with w|⟨g,a,b,c,d⟩
 ·exact .inl w
 ·refine .inr ⟨g,a,b,c,?_⟩;rw[zn,QC (fun e=> ?_)]
  ·exact d
  ·subst e;have:=k.2;rw[d]at this;cases this;cases hr
def za{t:WG Value}{d:Option Nat}{g:Option (Nat×Bool)}{f:Operand}{args:List Operand}:zc t ⟨d,g,.call f args⟩=none:=by
 unfold zc;cases zP t g<;>rfl
section
variable {P:Program}{tab:Ws}{m N0 g:Nat}{un:List Nat}{t:WG Value}{h h':WA}{x:WE×List Nat}{l:List (WE×List Nat)}{fr:WM}{Q:WM->WA->Prop}
def nE{d:Option Nat}{gd:Option (Nat×Bool)}{f:Operand}{as:List Operand}(e:WH (inC h) h')(hx:Wb P tab m N0 (x::l) g true fr (inC h') Q):WO P tab [] fr h' (uK2 P tab m N0 un t ⟨d,gd,.call f as⟩ (inC h) (x::l) g true Q):=WO.nil (zDs e za hx)
def nQ{cl:Bool}{o:WE}(hx:Wb P tab m N0 l g cl fr (inC h) Q):WO P tab [] fr (inC h) (uK2 P tab m N0 [] t o (inC h) l g cl Q):=WO.nil (zS6 hx)
end
section
variable {P:Program}{tab:Ws}
attribute [local semireducible] WX WV WC Ev
def zTy(l:Nat)(Q:Value->WA->Prop):WL->WM->WA->Prop
 | .normal,fr,h2=>fr.dfs=[]/\∃ r2,Ww h2 l (.loop r2)/\Q (.bool true) (h2.set l (.loop {r2 with state:= .ready,pending:=none}))
 |_,_,_=>False
def zRi(P:Program)(tab:Ws)(l:Nat)(r:W6)(h0:WA)(Q:Value->WA->Prop):WL->WM->WA->Prop
 | .normal,fr,h=>h=h0/\WX P tab r.body fr (h.set l (.loop {r with state:= .busy})) (zTy l Q)
 |_,_,_=>False
def WV.yield{l args h Q a b}{r:W6}(hl:Ww h l (.loop r))(hr:r.state=.ready)(hn:Nat.beq args.length r.params.length=true)
  (hx:WX P tab r.assign ⟨zCE r.params args r.tm,[],some l⟩ h (zRi P tab l r h Q)):WV P tab (.func (.yield l) a b) args h Q:=by
 obtain⟨e,fr,h1,k,ev⟩:=hx;cases e with
 |normal=>
  obtain⟨rfl,e2,gB,h2,k2,dO⟩:=k;cases e2 with
  |normal=>
   obtain⟨kd,r2,dK,hq⟩:=k2;refine⟨_,_,hq,(ev.and dO).mono fun n ⟨x1,x2⟩=> ?_⟩;have h1:=hl.2;have h2:=dK.2;simp only[zBO,h1,hn,cond_true,zBd,x1,hr,x2,kd,h2,Zf]
  |exit i=>exact k2.elim
  |goto i=>exact k2.elim
  |ret=>exact k2.elim
 |exit i=>exact k.elim
 |goto i=>exact k.elim
 |ret=>exact k.elim
def zQz(t:WG Value)(ps:List Nat)(a b:WT)(d:Nat):W6:={state:= .ready,pending:=none,fn:=0,tm:=t,params:=ps,assign:=a,body:=b,defers:=d}
def zEu(h:WA)(t:WG Value)(ps:List Nat)(a b:WT):WA:=(h.push (.deferred (some []))).push (.loop (zQz t ps a b h.n))
def zOh(h:WA)(t ps a b):WH h (zEu h t ps a b):=((WH.refl h).push _).push _
def zNb(h:WA)(t ps a b):Ww (zEu h t ps a b) h.n (.deferred (some [])):=by
 refine⟨by simp[zEu,WA.push];omega,?_⟩;unfold zEu;rw[zM,QC (by simp[WA.push]),zM,QJ rfl]
def zLG(h:WA)(t ps a b):Ww (zEu h t ps a b) (h.n+1) (.loop (zQz t ps a b h.n)):=by
 refine⟨by simp[zEu,WA.push],?_⟩;unfold zEu;rw[zM,QJ (by simp[WA.push])]
def XT{f ps a b t ds h K}(hx:WV P tab (ev t f) [.func (.yield (h.n+1)) #[] #[]] (zEu h t ps a b) fun _ h2=>∃ r,Ww h2 (h.n+1) (.loop r)/\r.state=.ready/\r.pending=none/\
   K .normal ⟨t,{target:= .collected h.n,args:=#[]}::ds,none⟩ (h2.set (h.n+1) (.loop {r with state:= .exhausted}))):WX P tab (.rangeFunc f ps a b) ⟨t,ds,none⟩ h K:=by
 obtain⟨v,h2,⟨r,hl,hs,hp,hk⟩,ev⟩:=hx;refine⟨_,_,_,hk,Ev.up (ev.mono fun n e=> ?_)⟩;rw[zx];simp only[zo,zBa,zAl];have hn:(h.push (.deferred (some []))).n=h.n+1:=rfl;have e':zBO (BE P tab n) (Am.ev t f) [.func (.yield (h.push (.deferred (some []))).n) #[] #[]] ((h.push (.deferred (some []))).push (.loop {state:= .ready,pending:=none,fn:=0,tm:=t,params:=ps,assign:=a,body:=b,defers:=h.n}))=some (v,h2):=e;rw[e'];have dK:=hl.2;simp only[hn,dK,hs,hp,JV]
def zFW{rs Q t rd h g}(hg:Ww h g (.deferred (some [])))(hx:zGN P tab rs Q .ret ⟨t,[],rd⟩ (h.set g (.deferred none))):zGN P tab rs Q .ret ⟨t,[{target:= .collected g,args:=#[]}],rd⟩ h:=by
 unfold zGN at *;exact WD.collected hg.2 hx
def VP{h:WA}{t:WG Value}{j n:Nat}{p v:Value}{h0:WA}{cs:List Value}{rs:List (Nat×Option (Bool×Nat))}{vs:List Value}(s:Wt t j p)(o:WB h0 h p cs)(hr:(cut cs 0 n).bind (zI false)=some v)(k:BI h t rs vs):BI h t ((j,some (false,n))::rs) (v::vs):=by
 obtain⟨g,_,_,rfl,hg⟩:=o;unfold BI at *;unfold Wt at s;simp only[yI,Y3,s,Z1 hg,Q2,cond_true,QV,hr,k]
structure Ready(r:W6)(t:WG Value)(ps:List Nat)(a b:WT):Prop where
 st:r.state=.ready
 pd:r.pending=none
 tm:r.tm=t
 ps:r.params=ps
 as:r.assign=a
 bd:r.body=b
def busy(r:W6):W6:={r with state:= .busy}
def zUg(L:Nat)(r:W6)(Q:Value->WA->Prop):WL->WM->WA->Prop
 | .normal,fr,h2=>fr.dfs=[]/\Ww h2 L (.loop (busy r))/\Q (.bool true) (h2.set L (.loop r))
 |_,_,_=>False
def zB9{L r Q t rd h}(hl:Ww h L (.loop (busy r)))(hq:Q (.bool true) (h.set L (.loop r))):zUg L r Q .normal ⟨t,[],rd⟩ h:=⟨rfl,hl,hq⟩
def zVB(P:Program)(tab:Ws)(L:Nat)(r:W6)(b:WT)(h:WA)(Q:Value->WA->Prop):WL->WM->WA->Prop
 | .normal,fr,h'=>h'=h/\WX P tab b fr (h.set L (.loop (busy r))) (zUg L r Q)
 |_,_,_=>False
def zCI{L r b h Q fr}(hx:∀ h',h'=h.set L (.loop (busy r))->WX P tab b fr h' (zUg L r Q)):zVB P tab L r b h Q .normal fr h:=⟨rfl,hx _ rfl⟩
def Vo{L args h Q t ps a b x y}{r:W6}(hl:Ww h L (.loop r))(hr:Ready r t ps a b)(hn:Nat.beq args.length ps.length=true)
  (hx:WX P tab a ⟨zCE ps args t,[],some L⟩ h (zVB P tab L r b h Q)):WV P tab (.func (.yield L) x y) args h Q:=by
 obtain⟨h1,h2,rfl,rfl,rfl,rfl⟩:=hr;refine WV.yield hl h1 hn ?_;refine WX.mono hx fun e fr h' k=> ?_;cases e with
 |normal=>
  refine⟨k.1,?_⟩;obtain⟨e1,k⟩:=k;subst e1;refine WX.mono k fun e fr h' k=> ?_;cases e with
  |normal=>
   obtain⟨k1,k2,k3⟩:=k;refine⟨k1,_,k2,?_⟩;have:({busy r with state:= .ready,pending:=none}:W6)=r:=by
    cases r;simp only[busy]at *;simp_all
   rw[this];exact k3
  |exit i=>exact k.elim
  |goto i=>exact k.elim
  |ret=>exact k.elim
 |exit i=>exact k.elim
 |goto i=>exact k.elim
 |ret=>exact k.elim
def Vq{f ps a b t ds h K}{fv:Value}(hx:∀ (L g:Nat) (r:W6) (hO:WA),Ready r t ps a b->WH h hO->h.n<=L->h.n<=g->Ww hO L (.loop r)->Ww hO g (.deferred (some []))->
   WV P tab fv [.func (.yield L) #[] #[]] hO fun _ h2=>Ww h2 L (.loop r)/\∀ r3,K .normal ⟨t,{target:= .collected g,args:=#[]}::ds,none⟩ (h2.set L (.loop r3))) (hf:WN t f fv:=by exact zO):WX P tab (.rangeFunc f ps a b) ⟨t,ds,none⟩ h K:=by
 refine XT ?_;have hf:Am.ev t f=fv:=hf;rw[hf];refine WV.mono (hx (h.n+1) h.n _ _ ⟨rfl,rfl,rfl,rfl,rfl,rfl⟩ (zOh h t ps a b) (GU _) (QF _) (zLG ..) (zNb ..)) fun _ h2 ⟨k1,k2⟩=> ?_;exact⟨_,k1,rfl,rfl,k2 _⟩
end
structure Wi(p:Prop):Prop where
 out:p
def swp(xs:List Int)(i j:Int):List Int:=(xs.set i.toNat (xs.getD j.toNat 0)).set j.toNat (xs.getD i.toNat 0)
abbrev WZ(xs:List Int)(i:Int):Int:=xs.getD i.toNat 0
def zLN(xs:List Int)(i j:Int):(swp xs i j).length=xs.length:=by simp[swp]
def zCO{xs:List Int}{i:Nat}{v:Int}{k:Nat}(hi:i<xs.length):(xs.set i v).getD k 0=if k=i then v else xs.getD k 0:=by
 simp only[QD,List.getElem?_set];by_cases h:i=k
 ·subst h;simp[hi]
 ·rw[QC h,QC (fun e=>h e.symm)]
def yo{xs:List Int}{i j k:Int}(hi:0<=i/\i<xs.length)(hj:0<=j/\j<xs.length)(hk:0<=k):WZ (swp xs i j) k=if k=j then WZ xs i else if k=i then WZ xs j else WZ xs k:=by
 unfold WZ swp;rw[zCO (by simp;omega),zCO ω];have e1:(k.toNat=j.toNat)↔k=j:=ω
 have e2:(k.toNat=i.toNat)↔k=i:=ω
 simp only[e1,e2]
def zES(c v:Int):∀ (xs:List Int) (i:Nat),i<xs.length->(xs.set i v).count c+(if xs.getD i 0=c then 1 else 0)=xs.count c+(if v=c then 1 else 0)
 |[],i,h=>by simp at h
 |x::xs,0,_=>by
  simp only[List.set_cons_zero,List.count_cons,List.getD_cons_zero,JN];omega
 |x::xs,i+1,h=>by
  have:=zES c v xs i (by simpa using h);simp only[List.set_cons_succ,List.count_cons,List.getD_cons_succ,JN]at *;omega
def zRL{xs:List Int}{i j:Int}(hi:0<=i/\i<xs.length)(hj:0<=j/\j<xs.length):(swp xs i j).Perm xs:=by
 rw[List.perm_iff_count];intro c;have h1:=zES c (xs.getD j.toNat 0) xs i.toNat ω;have h2:=zES c (xs.getD i.toNat 0) (xs.set i.toNat (xs.getD j.toNat 0)) j.toNat (by simp;omega);rw[zCO ω]at h2;unfold swp;by_cases e:j.toNat=i.toNat
 ·rw[QJ e]at h2;rw[e]at h1 h2 |-;omega
 ·rw[QC e]at h2;omega
structure PI(a b:Int)(xs ys:List Int):Prop where
 len:ys.length=xs.length
 perm:ys.Perm xs
 out:∀ k:Int,0<=k->(k<a\/b<=k)->WZ ys k=WZ xs k
def PI.refl(a b:Int)(xs:List Int):PI a b xs xs:=⟨rfl,.refl _,fun _ _ _=>rfl⟩
def PI.trans{a b:Int}{xs ys zs:List Int}(h:PI a b xs ys)(k:PI a b ys zs):PI a b xs zs:=⟨k.len.trans h.len,k.perm.trans h.perm,fun i h0 hi=>(k.out i h0 hi).trans (h.out i h0 hi)⟩
def PI.mono{a b a' b':Int}{xs ys:List Int}(h:PI a b xs ys)(ha:a'<=a)(hb:b<=b'):PI a' b' xs ys:=⟨h.len,h.perm,fun k h0 hk=>h.out k h0 ω⟩
def PI.swp{a b i j:Int}{xs:List Int}(h0:0<=a)(hb:b<=xs.length)(hi:a<=i/\i<b)(hj:a<=j/\j<b):PI a b xs (swp xs i j):=
 ⟨zLN ..,zRL ω ω,fun k hk ho=>by rw[yo ω ω hk,QC ω,QC ω]⟩
def zFa(xs:List Int)(a b:Nat)(dJ:a<=b):xs=xs.take a++((xs.drop a).take (b-a)++xs.drop b):=by
 have:xs.drop b=(xs.drop a).drop (b-a):=by rw[JF];congr 1;omega
 rw[this,GR,GR]
def zDh{xs ys:List Int}(hl:xs.length=ys.length)(h:∀ k:Nat,k<xs.length->xs.getD k 0=ys.getD k 0):xs=ys:=by
 apply List.ext_getElem hl;intro i h1 h2;have:=h i h1;simpa [List.getD,QB h1,QB h2]using this
def PI.all{a b:Int}{xs ys:List Int}(h:PI a b xs ys)(h0:0<=a)(hb:b<=xs.length){p:Int->Prop}(hp:∀ k,a<=k->k<b->p (WZ xs k)):∀ k,a<=k->k<b->p (WZ ys k):=by
 intro k cV aU;obtain⟨A,rfl⟩:∃ A:Nat,a=A:=⟨a.toNat,ω⟩;obtain⟨B,rfl⟩:∃ B:Nat,b=B:=⟨b.toNat,ω⟩;have hl:=h.len;have e1:=zFa xs A B ω;have e2:=zFa ys A B ω;have t1:ys.take A=xs.take A:=zDh (by simp[hl]) fun k hk=>by
  have cF:k<A:=by simp at hk;omega
  have:=h.out (k:Int) ω ω;simpa [WZ,QD,GE,cF]using this
 have t2:ys.drop B=xs.drop B:=zDh (by simp[hl]) fun k hk=>by
  have:=h.out ((B+k:Nat):Int) ω ω;simp only[WZ,QZ]at this;simpa [QD,GN]using this
 have dN:=h.perm;rw[e1,e2,t1,t2]at dN;have hs:=(List.perm_append_right_iff _).1 ((List.perm_append_left_iff _).1 dN);have az:WZ ys k∈(ys.drop A).take (B-A):=by
  rw[Gu];refine⟨k.toNat-A,?_⟩;rw[GE,QJ ω,GN,show A+(k.toNat-A)=k.toNat by omega];unfold WZ;rw[QD,QB ω];rfl
 obtain⟨m,hm⟩:=Gu.1 (hs.mem_iff.1 az);rw[GE]at hm;split at hm
 ·rename_i aD;rw[GN]at hm;have:=hp ((A+m:Nat):Int) ω ω;unfold WZ at this;rw[QZ,QD,hm]at this;exact this
 ·cases hm
def B0(a b:Int)(xs:List Int):Prop:=∀ i j:Int,a<=i->i<=j->j<b->WZ xs i<=WZ xs j
def Ve{a b:Int}{xs:List Int}(h:b<=a+1):B0 a b xs:=fun i j h1 h2 h3=>by
 have:i=j:=ω
 subst this;exact Q1 _
def zLf{xs ys:List Int}(h:ys.Perm xs)(s:B0 0 ys.length ys):ys=xs.mergeSort (fun a b=>decide (a<=b)):=by
 have hp:ys.Pairwise (fun a b=>decide (a<=b)=true):=by
  rw[List.pairwise_iff_getElem];intro i j hi hj jy;have:=s (i:Int) (j:Int) ω ω ω;simp only[WZ,QZ,QD,QB hi,QB hj,GG]at this;simpa using this
 refine List.Perm.eq_of_pairwise (le:=fun a b=>decide (a<=b)=true) (fun a b _ _ h1 h2=> ?_) hp ?_ (h.trans (JR xs _).symm)
 ·simp only[Qc]at h1 h2;omega
 ·exact List.pairwise_mergeSort (fun a b c h1 h2=>by simp only[Qc]at *;omega) (fun a b=>by simp only[GM,Qc];omega) xs
def zBp(h:WA):z9 h (inC (zB 0 h))=h:=rfl
def zJE{a i j:Int}{zs:List Int}(h0:0<=a)(hj:a<j)(Li:j<=i)(gb:i<zs.length)(aD:WZ zs j<WZ zs (j-1))(r:∀ p q,a<=p->p<=q->q<=i->q≠j->WZ zs p<=WZ zs q):∀ p q,a<=p->p<=q->q<=i->q≠j-1->WZ (swp zs j (j-1)) p<=WZ (swp zs j (j-1)) q:=by
 intro p q h1 h2 h3 h4;rw[yo ω ω ω,yo ω ω ω,QC h4];by_cases hq:q=j
 ·rw[QJ hq];by_cases hp:p=j-1
  ·rw[QJ hp];omega
  ·rw[QC hp];by_cases bO:p=j
   ·rw[QJ bO];exact Q1 _
   ·rw[QC bO];exact r p (j-1) h1 ω ω ω
 ·rw[QC hq];by_cases hp:p=j-1
  ·rw[QJ hp];exact r j q ω ω h3 hq
  ·rw[QC hp];by_cases bO:p=j
   ·rw[QJ bO];exact r (j-1) q ω ω h3 hq
   ·rw[QC bO];exact r p q h1 h2 h3 hq
def Bm.trans{v:Value}{h h1 h2:WA}(a:Bm v h h1)(b:Bm v h1 h2):Bm v h h2:=⟨QM a.1 b.1,fun g hg hv=>(b.2 g (QG hg a.1) hv).trans (a.2 g hg hv)⟩
def Bm.refl(v:Value)(h:WA):Bm v h h:=⟨QF _,fun _ _ _=>rfl⟩
structure SS(hB h:WA)(v:Value)(a b:Int)(xs ys:List Int)(h1:WA):Prop where
 own:Wq hB h1 v ys
 ext:WH hB h1
 upd:Bm v h h1
 pi:PI a b xs ys
def Vb{hB h:WA}{v:Value}{xs:List Int}(a b:Int)(o:Wq hB h v xs)(e:WH hB h):SS hB h v a b xs xs h:=⟨o,e,Bm.refl v h,PI.refl ..⟩
def SS.swp{hB h h1 h3:WA}{v:Value}{a b i j:Int}{xs ys:List Int}(s:SS hB h v a b xs ys h1)(e3:WH hB h3)(o3:Wq hB h3 v (swp ys i j))(u3:Bm v h1 h3)(h0:0<=a)(hb:b<=xs.length)(hi:a<=i/\i<b)(hj:a<=j/\j<b):SS hB h v a b xs (swp ys i j) h3:=
 ⟨o3,e3,s.upd.trans u3,s.pi.trans (PI.swp h0 (by rw[s.pi.len];exact hb) hi hj)⟩
def SS.call{hB h h1 h2:WA}{v:Value}{a b c d:Int}{xs ys zs:List Int}(s:SS hB h v a b xs ys h1)(k:SS hB h1 v c d ys zs h2)(ha:a<=c)(hb:d<=b):SS hB h v a b xs zs h2:=
 ⟨k.own,k.ext,s.upd.trans k.upd,s.pi.trans (k.pi.mono ha hb)⟩
def Wo.trans{p:Value}{h h1 h2:WA}(a:Wo p h h1)(b:Wo p h1 h2):Wo p h h2:=⟨QM a.1 b.1,fun g hg hv=>(b.2 g (QG hg a.1) hv).trans (a.2 g hg hv)⟩
def SS.extd{hB h h1 h2:WA}{v:Value}{a b:Int}{xs ys:List Int}(s:SS hB h v a b xs ys h1)(e:WH h1 h2):SS hB h v a b xs ys h2:=
 ⟨s.own.ext e,s.ext.trans e,s.upd.trans ⟨e.n,fun g hg _=>e.get g hg⟩,s.pi⟩
def SS.updC{hB h h1 h2:WA}{v:Value}{a b:Int}{xs ys:List Int}{g:Nat}(s:SS hB h v a b xs ys h1)(o:Wq hB h v xs)(hg:h.n<=g)(e:WH hB h2)(u:Wo (.pointer (some ⟨g,0,none⟩)) h1 h2):SS hB h v a b xs ys h2:=by
 obtain⟨q,q1,q2,qv,q3⟩:=s.own;obtain⟨q',_,LC,HK,_⟩:=o;rw[qv,s.pi.len]at HK;cases HK;refine⟨⟨q,q1,QG q2 u.1,qv,(u.2 q q2 fun e=>by cases e;omega).trans q3⟩,e,⟨QM s.upd.1 u.1,fun k hk hv=>(u.2 k (QG hk s.upd.1) fun e=>by cases e;omega).trans (s.upd.2 k hk hv)⟩,s.pi⟩
def WB.updV{hB hA h h1 h2:WA}{v:Value}{xs:List Int}{g:Nat}{cs:List Value}(w:WB hA h1 (.pointer (some ⟨g,0,none⟩)) cs)(o:Wq hB h v xs)(hg:h.n<=g)(u:Bm v h1 h2):WB hA h2 (.pointer (some ⟨g,0,none⟩)) cs:=by
 obtain⟨q',_,LC,rfl,_⟩:=o;obtain⟨g',g1,g2,gv,g3⟩:=w;cases gv;exact⟨g,g1,QG g2 u.1,rfl,(u.2 g g2 fun a n c e=>by cases e;simp only;omega).trans g3⟩
def WB.offC{hA h h':WA}{p:Value}{cs:List Value}{g4:Nat}(o:WB hA h p cs)(u:Wo (.pointer (some ⟨g4,0,none⟩)) h h')(hg:g4<hA.n):WB hA h' p cs:=by
 obtain⟨g,g1,g2,rfl,g3⟩:=o;exact⟨g,g1,QG g2 u.1,rfl,(u.2 g g2 fun e=>by cases e;omega).trans g3⟩
def WP.offC{hA h h':WA}{v:Value}{xs:List Int}{g4:Nat}(o:WP hA h v xs)(u:Wo (.pointer (some ⟨g4,0,none⟩)) h h')(hg:g4<hA.n):WP hA h' v xs:=by
 rcases o with o|⟨g,g1,g2,rfl,g3⟩
 ·exact .inl o
 ·exact .inr ⟨g,g1,QG g2 u.1,rfl,(u.2 g g2 fun e=>by cases e;omega).trans g3⟩
def Wo.setL{p:Value}{h h':WA}{L:Nat}{o:Wp}(u:Wo p h h')(hL:h.n<=L):Wo p h (h'.set L o):=⟨u.1,fun g hg hv=>by rw[zn,QC ω];exact u.2 g hg hv⟩
def Wo.extd{p:Value}{h h' h2:WA}(u:Wo p h h')(e:WH h' h2):Wo p h h2:=⟨QM u.1 e.n,fun g hg hv=>(e.get g (QG hg u.1)).trans (u.2 g hg hv)⟩
def Wo.upd{p w:Value}{h h' h2:WA}{xs:List Int}(u:Wo p h h')(o:WP h h' w xs)(u2:Bm w h' h2):Wo p h h2:=⟨QM u.1 u2.1,fun g hg hv=>by
 refine(u2.2 g (QG hg u.1) fun a n c e=> ?_).trans (u.2 g hg hv);rcases o with⟨rfl,_⟩|⟨q,q1,_,rfl,_⟩
 ·cases e
 ·cases e;simp only;omega⟩
def Wo.refl(p:Value)(h:WA):Wo p h h:=⟨QF _,fun _ _ _=>rfl⟩
def Wq.rebase{hA hB h:WA}{g n k:Nat}{xs:List Int}(o:Wq hA h (.slice (some ⟨g,0,none⟩) n k) xs)(hg:hB.n<=g):Wq hB h (.slice (some ⟨g,0,none⟩) n k) xs:=by
 obtain⟨q,q1,q2,qv,q3⟩:=o;cases qv;exact⟨g,hg,q2,rfl,q3⟩
def SS.len{hB h h1:WA}{v:Value}{a b:Int}{xs ys:List Int}(k:SS hB h v a b xs ys h1):ys.length=xs.length:=k.pi.len
section
variable {P:Program}{tab:Ws}{t:WG Value}{ds:List Deferred}{rd:Option Nat}
def Xq{N0 g d:Nat}{cl:Bool}{x y z w u:Operand}{v:Value}{xs:List Int}{i j:Nat}{h0 hS:WA}{K:WL->WM->WA->Prop}{va vb:Int}(o:Wq h0 hS v xs)(e0:WH h0 hS)(hm:hS.mark<=h0.n)
  (hx:ev t x=yH v i) (hy:ev t y=I va) (hi:i<xs.length) (hj:j<xs.length) (hz:ev t z=v) (hw:BX (ev t w)=some j) (hu:ev (t.set d (yH v j)) u=I vb)
  (k:∀ h1,WH h0 h1->Wq h0 h1 v ((xs.set i va).set j vb)->Bm v hS h1->K .normal ⟨t.set d (yH v j),ds,rd⟩ h1):
  Wb P tab hS.mark N0 [(⟨none,none,.store 1 x y⟩,[]),(⟨some d,none,.idx 1 z w⟩,[]),(⟨none,none,.store 1 (.tmp d) u⟩,[])] g cl ⟨t,ds,rd⟩ (inC (zB 0 hS)) (SJ K hS):=by
 obtain⟨q,g1,g2,rfl,g3⟩:=o;rw[Wb,QC (show ¬Nat.beq (zE (Wz.store 1 x y)) 3=true from Bool.noConfusion)];have uv:zk (inC (inC (zB 0 hS))) ⟨q,i,none⟩ [I va]=some ((inC (inC (zB 0 hS))).set q (.row (zX (xs.map I) i [I va]) true 0)):=by
  have h1:Nat.ble (i+1) (xs.map I).length=true:=QK (by simp;omega);have h0:Nat.ble 0 i=true:=QK (QQ _);have uw:(inC (inC (zB 0 hS))).get q=some (.row (xs.map I) true 0):=g3;simp only[zk,uw,Qb,h1,h0,GC];rfl
 rw[zBM _ _ _ hi]at uv;have hc:∀ a,(I a).cells=#[I a]:=fun _=>rfl;refine VR undef ((inC (inC (zB 0 hS))).set q (.row ((xs.set i va).map I) true 0)) rfl (by
  simp only[WK,hx,yH,hy,Q8,hc,uv,QL];rfl) ?_
 refine WO.nil ⟨⟨fun k hk=> ?_,QF _,.inl rfl⟩,?_⟩
 ·have aU:k∈(inC (inC (zB 0 hS))).log q:=hk;rcases yj aU with rfl|cG
  ·omega
  ·cases cG
 generalize uc:(inC (inC (zB 0 hS))).set q (.row ((xs.set i va).map I) true 0)=h1;have n1:h1.n=hS.n:=by rw[<-uc];rfl
 have aV:∀ k,h1.get k=if k=q then some (.row ((xs.set i va).map I) true 0)else hS.get k:=fun k=>by
  rw[<-uc,zn];rfl
 rw[Wb,QC (show ¬Nat.beq (zE (Wz.idx 1 z w)) 3=true from Bool.noConfusion)];have hb:Nat.ble (j+1) xs.length=true:=QK hj;refine WO.op (yH (.slice (some ⟨q,0,none⟩) xs.length 1) j) (inC h1) rfl (by
  have gE:ev t z=.slice (some ⟨q,0,none⟩) xs.length 1:=hz;simp[WK,gE,hw,hb,yH]) ?_
 refine WO.nil ⟨⟨fun k hk=>(by cases hk),QF _,.inl rfl⟩,?_⟩;rw[Wb,QC (show ¬Nat.beq (zE (Wz.store 1 (.tmp d) u)) 3=true from Bool.noConfusion)];have uy:zk (inC (inC h1)) ⟨q,j,none⟩ [I vb]=some ((inC (inC h1)).set q (.row (zX ((xs.set i va).map I) j [I vb]) true 0)):=by
  have LD:Nat.ble (j+1) ((xs.set i va).map I).length=true:=QK (by simp;omega);have h0:Nat.ble 0 j=true:=QK (QQ _);have uw:(inC (inC h1)).get q=some (.row ((xs.set i va).map I) true 0):=by
   have:=aV q;rw[QJ rfl]at this;exact this
  simp only[zk,uw,Qb,LD,h0,GC];rfl
 rw[zBM _ _ _ (by simp;omega)]at uy;refine VR undef ((inC (inC h1)).set q (.row (((xs.set i va).set j vb).map I) true 0)) rfl (by
  have e1:ev (t.set d (yH (.slice (some ⟨q,0,none⟩) xs.length 1) j)) (.tmp d)=yH (.slice (some ⟨q,0,none⟩) xs.length 1) j:=by simp only[ev,zg,Qz]
  have hp:yH (.slice (some ⟨q,0,none⟩) xs.length 1) j=.pointer (some ⟨q,j,none⟩):=by simp[yH]
  rw[hp]at e1 hu;rw[hp];simp only[WK,e1,hu,hc,uy,QL];rfl) ?_
 refine WO.nil ⟨⟨fun k hk=> ?_,QF _,.inl rfl⟩,?_⟩
 ·have aU:k∈(inC (inC h1)).log q:=hk;rcases yj aU with rfl|cG
  ·omega
  ·cases cG
 have bz:∀ k,(z9 hS ((inC (inC h1)).set q (.row (((xs.set i va).set j vb).map I) true 0))).get k=if k=q then some (.row (((xs.set i va).set j vb).map I) true 0)else hS.get k:=fun k=>by
  have e1:((inC (inC h1)).set q (.row (((xs.set i va).set j vb).map I) true 0)).get k=if k=q then some (.row (((xs.set i va).set j vb).map I) true 0)else(inC (inC h1)).get k:=zn ..;have e2:(inC (inC h1)).get k=h1.get k:=rfl;have e3:(z9 hS ((inC (inC h1)).set q (.row (((xs.set i va).set j vb).map I) true 0))).get k=((inC (inC h1)).set q (.row (((xs.set i va).set j vb).map I) true 0)).get k:=rfl;rw[e3,e1,e2,aV];by_cases e:k=q<;>simp[e]
 have nn:(z9 hS ((inC (inC h1)).set q (.row (((xs.set i va).set j vb).map I) true 0))).n=hS.n:=n1;refine k (z9 hS ((inC (inC h1)).set q (.row (((xs.set i va).set j vb).map I) true 0))) ?_ ?_ ?_
 ·refine⟨by rw[nn];exact e0.n,fun c hc=>by rw[bz,QC ω];exact e0.get c hc,fun w c hc=> ?_,e0.mark,fun de=>e0.wr de⟩;rw[nn]at hc;rw[bz,QC ω];exact e0.wf w c hc
 ·exact⟨q,g1,by rw[nn];exact g2,by simp,by rw[bz,QJ rfl]⟩
 ·exact⟨by rw[nn];exact QF _,fun c _ hc=>by rw[bz,QC (fun e=>hc _ _ _ rfl e.symm)]⟩
def UX{y:Operand}{n:Int}(h:WN t y (I n))(hn:0<=n):BX (ev t y)=some n.toNat:=by
 unfold WN at h;rw[h];obtain⟨k,rfl⟩:∃ k:Nat,n=k:=⟨n.toNat,ω⟩;rfl
def VQ{N0 g d:Nat}{cl:Bool}{x y z w u:Operand}{v:Value}{xs:List Int}{h0 hS:WA}{K:WL->WM->WA->Prop}(i j:Int)(o:Wq h0 hS v xs)(e0:WH h0 hS)(hm:hS.mark<=h0.n)
  (k:∀ h1,WH h0 h1->Wq h0 h1 v (swp xs i j)->Bm v hS h1->K .normal ⟨t.set d (yH v j.toNat),ds,rd⟩ h1)
  (hi:0<=i/\i<xs.length:=by omega) (hj:0<=j/\j<xs.length:=by omega)
  (hx:WN t x (yH v i.toNat):=by exact zO) (hy:WN t y (I (WZ xs j)):=by exact zO) (hz:WN t z v:=by exact zO) (hw:WN t w (I j):=by exact zO) (hu:WN (t.set d (yH v j.toNat)) u (I (WZ xs i)):=by exact zO):
  Wb P tab hS.mark N0 [(⟨none,none,.store 1 x y⟩,[]),(⟨some d,none,.idx 1 z w⟩,[]),(⟨none,none,.store 1 (.tmp d) u⟩,[])] g cl ⟨t,ds,rd⟩ (inC (zB 0 hS)) (SJ K hS):=
 Xq o e0 hm hx hy ω ω hz (UX hw hj.1) hu k
def VL{c:WT}{h:WA}{K:WL->WM->WA->Prop}{ws:List Nat}(M:WG Value->WA->Prop)(h1:WX P tab c ⟨t,ds,rd⟩ h (zQR M ds rd K))(h2:∀ t' h',zDg ws t t'->M t' h'->K .normal ⟨t',ds,rd⟩ h')(hw:yL c=ws:=by conv=>(lhs;reduce)):WX P tab c ⟨t,ds,rd⟩ h K:=
 (WX.frame h1).mono fun e fr h ⟨hf,hx⟩=>by
  unfold zQR at hx;cases e with
  |normal=>
   obtain⟨t',dT,uk⟩:=fr;obtain⟨e1,e2,e3⟩:=hx;simp only at e1 e2 e3;subst e1 e2;exact h2 _ _ (fun j hj=>hf j (by rw[hw];intro hc;have:=ZQ hj;simp[hc]at this)) e3
  |exit i=>exact hx
  |goto i=>exact hx
  |ret=>exact hx
def WO.bin{d:Nat}{op:BinOp}{x y:Operand}{vx vy v:Value}{h:WA}{l:List WE}{Q:WM->WA->Prop}(hx:WN t x vx)(hy:WN t y vy)(e:zj op vx vy=some v)(k:WO P tab l ⟨t.set d v,ds,rd⟩ h Q):WO P tab (⟨some d,none,.bin op x y⟩::l) ⟨t,ds,rd⟩ h Q:=
 WO.o (by
  have hx:ev t x=vx:=hx;have hy:ev t y=vy:=hy;simp only[WK,hx,hy,e,QL]) k
def UV{d:Nat}{x i:Operand}{s:ByteArray}{m:Int}{kk:IntKind}{n:Nat}{b:UInt8}{h:WA}{l:List WE}{Q:WM->WA->Prop}(hb:s[n]?=some b)(hn:BX (.int kk m)=some n)(k:WO P tab l ⟨t.set d (.int .u8 b.toNat),ds,rd⟩ h Q)(hx:WN t x (.string s):=by exact WN.const)(hi:WN t i (.int kk m):=by exact zO):WO P tab (⟨some d,none,.elemStr x i⟩::l) ⟨t,ds,rd⟩ h Q:=
 WO.o (by
  have hx:ev t x=.string s:=hx;have hi:ev t i=.int kk m:=hi;simp only[WK,hx,hi,hn,hb]) k
def WO.quo{d:Nat}{x:Operand}{a c:Int}{h:WA}{l:List WE}{Q:WM->WA->Prop}(hc:c≠0)(h1: -9223372036854775808<=a.tdiv c)(h2:a.tdiv c<=9223372036854775807)(k:WO P tab l ⟨t.set d (I (a.tdiv c)),ds,rd⟩ h Q)(hx:WN t x (I a):=by exact zO):WO P tab (⟨some d,none,.bin .quo x (.const (I c))⟩::l) ⟨t,ds,rd⟩ h Q:=
 WO.bin hx (vy:=I c) rfl (by simp only[zj,Qz,QC hc,zC6 h1 h2]) k
def Ze{n:Int}(h1:0<=n)(h2:n<18446744073709551616):IntKind.wrap .u64 n=n:=by
 simp[IntKind.wrap,IntKind.signed,IntKind.bits];omega
def zUV{n:Int}(h1:0<=n)(h2:n<256):IntKind.wrap .u8 n=n:=by
 simp[IntKind.wrap,IntKind.signed,IntKind.bits];omega
def zR3(y:Int){m:Int}(h:0<=m/\m<=9223372036854775807):∃ r:Int,zj .and (.int .u64 y) (.int .u64 m)=some (.int .u64 r)/\0<=r/\r<=m:=by
 have hb:(BitVec.ofInt 64 m).toNat=m.toNat:=by
  rw[BitVec.toNat_ofInt];omega
 have hle:(BitVec.ofInt 64 y&&& BitVec.ofInt 64 m).toNat<=m.toNat:=by
  rw[BitVec.toNat_and,hb];exact Nat.and_le_right
 refine⟨((BitVec.ofInt 64 y&&& BitVec.ofInt 64 m).toNat:Int),?_,ω,ω⟩;simp only[zj,Qz,IntKind.bits];rw[Ze ω ω];rfl
def XC{N0 g n:Nat}{cl:Bool}{x y:Operand}{p v:Value}{cells:List Value}{h0 hS:WA}{K:WL->WM->WA->Prop}(cs:List Value)(o:WB h0 hS p cells)(e0:WH h0 hS)(hm:hS.mark<=h0.n)
  (k:∀ h1,WH h0 h1->WB h0 h1 p cs->Wo p hS h1->K .normal ⟨t,ds,rd⟩ h1) (hx:WN t x p:=by exact zO) (hy:WN t y v:=by exact zO) (hv:v.cells=cs.toArray:=by rfl) (h1:zK cs=true:=by rfl) (hn:cs.length=n:=by rfl) (hl:cells.length=n:=by rfl):
  Wb P tab hS.mark N0 [(⟨none,none,.store n x y⟩,[])] g cl ⟨t,ds,rd⟩ (inC (zB 0 hS)) (SJ K hS):=by
 obtain⟨q,g1,g2,rfl,g3⟩:=o;subst hn;have hx:ev t x=.pointer (some ⟨q,0,none⟩):=hx;have hy:ev t y=v:=hy;rw[Wb,QC (show ¬Nat.beq (zE (Wz.store cs.length x y)) 3=true from Bool.noConfusion)];have aL:zk (inC (inC (zB 0 hS))) ⟨q,0,none⟩ cs=some ((inC (inC (zB 0 hS))).set q (.row cs true 0)):=by
  have h2:Nat.ble (0+cs.length) cells.length=true:=QK ω;have h3:Nat.ble 0 0=true:=rfl;have h4:zX cells 0 cs=cs:=by simp[zX,hl]
  have uw:(inC (inC (zB 0 hS))).get q=some (.row cells true 0):=g3;simp only[zk,uw,h2,h3,h1,h4,Q2,GC,cond_true]
 refine VR undef ((inC (inC (zB 0 hS))).set q (.row cs true 0)) rfl (by
  simp only[WK,hx,hy,hv,G2,Gl,aL,QL,cond_true]) ?_
 refine WO.nil ⟨⟨fun k hk=> ?_,QF _,.inl rfl⟩,?_⟩
 ·have aU:k∈(inC (inC (zB 0 hS))).log q:=hk;rcases yj aU with rfl|cG
  ·omega
  ·cases cG
 have bz:∀ k,(z9 hS ((inC (inC (zB 0 hS))).set q (.row cs true 0))).get k=if k=q then some (.row cs true 0)else hS.get k:=fun k=>by
  have e1:((inC (inC (zB 0 hS))).set q (.row cs true 0)).get k=if k=q then some (.row cs true 0)else(inC (inC (zB 0 hS))).get k:=zn ..;exact e1
 refine k (z9 hS ((inC (inC (zB 0 hS))).set q (.row cs true 0))) ?_ ?_ ?_
 ·refine⟨e0.n,fun c hc=>by rw[bz,QC ω];exact e0.get c hc,fun w c hc=> ?_,e0.mark,fun de=>e0.wr de⟩;have hc:hS.n<=c:=hc;rw[bz,QC ω];exact e0.wf w c hc
 ·exact⟨q,g1,g2,rfl,by rw[bz,QJ rfl]⟩
 ·exact⟨QF _,fun c _ hc=>by rw[bz,QC (fun e=>hc (by rw[e]))]⟩
def zI1{C D:Prop}[Decidable C][Decidable D](h:C):decide (C/\D)=decide D:=by simp[h]
def zDt{C D:Prop}[Decidable C][Decidable D](h:C):decide (C/\¬D)= !decide D:=by simp[h]
end
end Go.Am
