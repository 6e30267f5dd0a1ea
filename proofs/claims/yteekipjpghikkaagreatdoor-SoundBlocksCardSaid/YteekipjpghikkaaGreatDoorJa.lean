/- What functions of the program come to in the abstract machine, and plain laws about it; no statement of the seat is proved in this text. -/
import Derived.Test.YteekipjpghikkaaGreatDoorAmU
import Derived.Test.YteekipjpghikkaaGreatDoorRows
set_option linter.unusedVariables false
set_option linter.unusedSimpArgs false
set_option maxHeartbeats 4000000
namespace Go.Proofs.YteekipjpghikkaaGreatDoor
noncomputable section
open Go.Am
def hasT:List (Bool×Bool×Bool×Bool×Bool×Bool):=
 let f:=false;let t:=true
 [(f,f,f,f,f,f),(f,f,t,f,f,t),(f,f,f,f,f,t),(f,f,t,f,f,t),(t,t,f,f,f,t),(t,t,f,f,f,t),(t,t,f,f,f,t),(t,t,f,f,f,t),(t,t,f,f,f,t),(t,t,f,f,f,t),(t,t,f,f,f,t),(f,f,f,f,f,t),(f,f,f,f,f,t),(t,f,f,f,f,f),(t,f,t,f,f,t),(t,t,f,f,f,t),(t,f,f,f,f,t),(t,t,f,f,f,f),(f,f,t,t,f,t),(t,f,f,t,f,t),(f,f,f,f,f,t),(t,f,f,f,f,f),(f,f,f,t,t,t)]
def zo (op:Int):Bool×Bool×Bool×Bool×Bool×Bool:=hasT.getD op.toNat (false,false,false,false,false,false)
def YG (x:Bool×Bool×Bool×Bool×Bool×Bool):List Value:=[.bool x.1,.bool x.2.1,.bool x.2.2.1,.bool x.2.2.2.1,.bool x.2.2.2.2.1,.bool x.2.2.2.2.2]
def Z5:List Value:=(hasT.map YG).flatten
structure LType where
 kind:Int
 elem:Int
 many:Int
 parts:List Int
instance:Inhabited LType:=⟨⟨0,0,0,[]⟩⟩
def RTy (h:AHeap) (cs:List Value) (x:LType):Prop:=∃ va,cs=[.int .u8 x.kind,I x.elem,I x.many,va]/\SlI h va x.parts/\(x.parts.length:Int)<=9223372036854775807
theorem RTy.ext {h h' cs x} (r:RTy h cs x) (e:Ext h h'):RTy h' cs x:=let ⟨va,a,b,c⟩:=r;⟨va,a,b.ext e,c⟩
abbrev SlT (h:AHeap) (v:Value) (T:List LType):Prop:=SlR 4 RTy h v T
theorem SlT.ext {h h' v T} (s:SlT h v T) (e:Ext h h'):SlT h' v T:=SlR.ext (fun _ _ r=>RTy.ext r e) s e
theorem zTR {h:AHeap} {v:Value} {l:List Int} (s:SlI h v l) (k:IntKind) (a b n:Int):zN [.int k n,I a,I b,v]=true:=by
 obtain⟨_,_,_,rfl⟩:=SlC.shape s;rfl
def Zr (x:LType):Bool:=decide (1<=x.kind)&&decide (x.kind<=3)
def yp (m:Int) (l:List Int):Bool:=l.all fun n=>decide (0<=n)&&decide (n<m)
def yJ (x:LType):Bool:=
 (if x.kind=1\/x.kind=4 then decide (x.elem=0) else true)&&(if x.kind=1\/x.kind=2\/x.kind=3\/x.kind=4 then decide (x.many=0) else true)&&
  (if x.kind=1\/x.kind=2\/x.kind=5 then decide (x.parts.length=0) else true)
def ZQ (T:List LType) (x:LType) (k:Nat) (sizes:List Int):Int×Bool:=
 if x.kind=1 then (1,yJ x)
 else if x.kind=2 then (1,yJ x&&yp T.length [x.elem])
 else if x.kind=3 then (1,yJ x&&decide (x.parts.length<=4)&&yp T.length (x.elem::x.parts)&&(x.elem::x.parts).all fun n=>Zr (T.getD n.toNat default))
 else if x.kind=4 then (if yJ x&&yp k x.parts then ((x.parts.map fun n=>sizes.getD n.toNat 0).sum,decide (0<x.parts.length)&&decide (x.parts.length<=8)&&decide ((x.parts.map fun n=>sizes.getD n.toNat 0).sum<=32)) else (0,false))
 else if x.kind=5 then (if yJ x&&yp k [x.elem]&&decide (1<=x.many)&&decide (x.many<=16) then (x.many * sizes.getD x.elem.toNat 0,decide (x.many * sizes.getD x.elem.toNat 0<=32)) else (0,false))
 else (1,false)
theorem zH8 {T:List LType} {x:LType} {k:Nat} {s:List Int} (h:x.kind=3):ZQ T x k s=(1,yJ x&&decide (x.parts.length<=4)&&yp T.length (x.elem::x.parts)&&(x.elem::x.parts).all fun n=>Zr (T.getD n.toNat default)):=by
 unfold ZQ;rw[QD (by omega),QD (by omega),QI h]
theorem zS0 {T:List LType} {x:LType} {k:Nat} {s:List Int} (h:x.kind=4):ZQ T x k s=(if yJ x&&yp k x.parts then ((x.parts.map fun n=>s.getD n.toNat 0).sum,decide (0<x.parts.length)&&decide (x.parts.length<=8)&&decide ((x.parts.map fun n=>s.getD n.toNat 0).sum<=32)) else (0,false)):=by
 unfold ZQ;rw[QD (by omega),QD (by omega),QD (by omega),QI h]
theorem zOI {T:List LType} {x:LType} {k:Nat} {s:List Int} (h:x.kind=5):ZQ T x k s=(if yJ x&&yp k [x.elem]&&decide (1<=x.many)&&decide (x.many<=16) then (x.many * s.getD x.elem.toNat 0,decide (x.many * s.getD x.elem.toNat 0<=32)) else (0,false)):=by
 unfold ZQ;rw[QD (by omega),QD (by omega),QD (by omega),QD (by omega),QI h]
def Zm (T:List LType):Nat->Option (List Int)
 |0=>some []
 |k+1=>match Zm T k with
  |none=>none
  |some s=>if (ZQ T (T.getD k default) k s).2 then some (s++[(ZQ T (T.getD k default) k s).1]) else none
def ZR (T:List LType):Int:=if 16<T.length then 4 else match Zm T T.length with
 |some _=>0
 |none=>30
structure LWd where
 pos:Int
 bits:Nat
 deriving DecidableEq
instance:Inhabited LWd:=⟨⟨0,0⟩⟩
structure OkW (s:List LWd):Prop where
 rise:s.Pairwise (fun a b=>a.pos<b.pos)
 each:∀ w∈s,0<=w.pos/\w.pos<16384/\w.bits≠0/\w.bits<18446744073709551616
def InW (s:List LWd) (n:Int):Prop:=∃ w∈s,w.pos=n / 64/\w.bits.testBit (n % 64).toNat=true
def zAS (b:Nat):List Nat:=(List.range 64).filter b.testBit
def zv (s:List LWd):List Int:=s.flatMap fun w=>(zAS w.bits).map fun k:Nat=>64 * w.pos+(k:Int)
theorem OkW.nil:OkW []:=⟨.nil,fun w h=>by cases h⟩
theorem OkW.tail {w:LWd} {s:List LWd} (h:OkW (w::s)):OkW s:=⟨(GX.1 h.rise).2,fun x hx=>h.each x (Qc _ hx)⟩
theorem YQ {b:Nat} (h:b<18446744073709551616) {k:Nat} (hk:b.testBit k=true):k<64:=by
 by_cases h2:k<64
 ·exact h2
 ·have h3:2 ^ 64<=2 ^ k:=Nat.pow_le_pow_right (by decide) (Nat.le_of_not_lt h2);have:b.testBit k=false:=Nat.testBit_lt_two_pow (QG h h3);rw[this]at hk;cases hk
theorem zDw {b:Nat} (h:b≠0):∃ k,b.testBit k=true:=by
 by_cases h2:∃ k,b.testBit k=true
 ·exact h2
 ·exact absurd (Nat.eq_of_testBit_eq fun i=>by
   rw[JN];cases hb:b.testBit i with
   |false=>rfl
   |true=>exact absurd ⟨i,hb⟩ h2) h
theorem YC {b k:Nat}:k∈zAS b↔k<64/\b.testBit k=true:=by
 unfold zAS;rw[Gf,GH]
theorem YL {s:List LWd} (h:OkW s) {n:Int}:n∈zv s↔InW s n:=by
 unfold zv InW;rw[List.mem_flatMap];constructor
 ·rintro⟨w,hw,hn⟩;obtain⟨k,hk,rfl⟩:=Q0.1 hn;obtain⟨k1,k2⟩:=YC.1 hk;refine⟨w,hw,by omega,?_⟩;rw[show ((64 * w.pos+(k:Int)) % 64).toNat=k by omega];exact k2
 ·rintro⟨w,hw,e,hb⟩;refine⟨w,hw,Q0.2 ⟨(n % 64).toNat,YC.2 ⟨by omega,hb⟩,by omega⟩⟩
theorem zBo (b:Nat):(zAS b).Pairwise (·<·):=List.Pairwise.filter _ List.pairwise_lt_range
theorem zAj {s:List LWd} (h:OkW s):(zv s).Pairwise (·<·):=by
 unfold zv;rw[List.pairwise_flatMap];refine⟨fun w hw=> ?_,?_⟩
 ·rw[List.pairwise_map];exact(zBo w.bits).imp fun h=>by omega
 ·refine h.rise.imp fun {a b} hab x hx y hy=> ?_;obtain⟨k,hk,rfl⟩:=Q0.1 hx;obtain⟨j,hj,rfl⟩:=Q0.1 hy;have:=(YC.1 hk).1;omega
theorem InW.range {s:List LWd} (h:OkW s) {n:Int} (k:InW s n):0<=n/\n<1048576:=by
 obtain⟨w,hw,e,_⟩:=k;have:=h.each w hw;omega
theorem zCR {w:LWd} {s:List LWd} {n:Int}:InW (w::s) n↔(w.pos=n / 64/\w.bits.testBit (n % 64).toNat=true)\/InW s n:=by
 unfold InW;simp
theorem zHj {w:LWd} {s:List LWd} (h:OkW (w::s)) {n:Int}:InW s n↔InW (w::s) n/\w.pos≠n / 64:=by
 rw[zCR];constructor
 ·rintro⟨x,hx,e,hb⟩;have:=(GX.1 h.rise).1 x hx;exact⟨.inr ⟨x,hx,e,hb⟩,by omega⟩
 ·rintro⟨⟨e,_⟩|k,hne⟩
  ·exact absurd e hne
  ·exact k
theorem InW.le {w:LWd} {s:List LWd} (h:OkW (w::s)) {n:Int} (k:InW (w::s) n):w.pos<=n / 64:=by
 rcases zCR.1 k with ⟨e,_⟩|⟨x,hx,e,_⟩
 ·omega
 ·have:=(GX.1 h.rise).1 x hx;omega
theorem zCI {w:LWd} {s:List LWd} (h:OkW (w::s)):∃ n,InW (w::s) n/\n / 64=w.pos:=by
 obtain⟨a,b,c,d⟩:=h.each w (QS ..);obtain⟨k,hk⟩:=zDw c;have hk2:=YQ d hk;refine⟨64 * w.pos+k,zCR.2 (.inl ⟨by omega,?_⟩),by omega⟩;rw[show ((64 * w.pos+(k:Int)) % 64).toNat=k by omega];exact hk
theorem zPw {w:LWd} {s:List LWd} (h:OkW (w::s)) (k:Nat) (hk:k<64):InW (w::s) (64 * w.pos+k)↔w.bits.testBit k=true:=by
 rw[zCR];constructor
 ·rintro(⟨_,hb⟩|⟨x,hx,e,_⟩)
  ·rwa [show ((64 * w.pos+(k:Int)) % 64).toNat=k by omega]at hb
  ·have:=(GX.1 h.rise).1 x hx;omega
 ·intro hb;refine .inl ⟨by omega,?_⟩;rw[show ((64 * w.pos+(k:Int)) % 64).toNat=k by omega];exact hb
theorem zKR:∀ {s t:List LWd},OkW s->OkW t->(∀ n,InW s n↔InW t n)->s=t
 |[],[],_,_,_=>rfl
 |[],u::t,_,ht,e=>by
  obtain⟨n,hn,_⟩:=zCI ht;obtain⟨_,h,_⟩:=(e n).2 hn;cases h
 |w::s,[],hs,_,e=>by
  obtain⟨n,hn,_⟩:=zCI hs;obtain⟨_,h,_⟩:=(e n).1 hn;cases h
 |w::s,u::t,hs,ht,e=>by
  have hp:w.pos=u.pos:=by
   obtain⟨n,hn,en⟩:=zCI hs;obtain⟨m,hm,em⟩:=zCI ht;have h1:=((e n).1 hn).le ht;have h2:=((e m).2 hm).le hs;omega
  have hb:w.bits=u.bits:=by
   refine Nat.eq_of_testBit_eq fun k=> ?_;by_cases hk:k<64
   ·have h1:=zPw hs k hk;have h2:=zPw ht k hk;rw[<-hp]at h2;have h3:=h1.symm.trans ((e _).trans h2);cases h4:u.bits.testBit k with
    |true=>exact h3.2 h4
    |false=>
     cases h5:w.bits.testBit k with
     |false=>rfl
     |true=>rw[h3.1 h5]at h4;cases h4
   ·have h1:=(hs.each w (QS ..)).2.2.2;have h2:=(ht.each u (QS ..)).2.2.2;cases h4:u.bits.testBit k with
    |true=>exact absurd (YQ h2 h4) hk
    |false=>
     cases h5:w.bits.testBit k with
     |false=>rfl
     |true=>exact absurd (YQ h1 h5) hk
  have hw:w=u:=by cases w;cases u;cases hp;cases hb;rfl
  have hst:s=t:=zKR hs.tail ht.tail fun n=>by rw[zHj hs,zHj ht,e n,hp]
  rw[hw,hst]
structure Is (t:List LWd) (p:Int->Prop):Prop where
 ok:OkW t
 mem:∀ n,InW t n↔p n
abbrev W (n:Nat):Value:= .int .u64 (n:Int)
theorem Yj (a:Nat):BitVec.ofInt 64 (a:Int)=BitVec.ofNat 64 a:=by
 apply BitVec.eq_of_toNat_eq;simp
theorem b64:IntKind.bits .u64=64:=rfl
theorem zSu {a b:Nat} (ha:a<18446744073709551616) (hb:b<18446744073709551616):zd .and (W a) (W b)=some (W (a&&& b)):=by
 have h:a&&& b<18446744073709551616:=Nat.lt_of_le_of_lt Nat.and_le_left ha;have e:(BitVec.ofInt 64 (a:Int)&&& BitVec.ofInt 64 (b:Int)).toNat=a&&& b:=by
  rw[Yj,Yj,BitVec.toNat_and,BitVec.toNat_ofNat,BitVec.toNat_ofNat,JO (show a<2 ^ 64 from ha),JO (show b<2 ^ 64 from hb)]
 simp only[zd,Qv];rw[show ((BitVec.ofInt (IntKind.bits .u64) (a:Int)&&& BitVec.ofInt (IntKind.bits .u64) (b:Int)).toNat)=a&&& b from e,ZM (by omega) (by omega)]
theorem zPR {a b:Nat} (ha:a<18446744073709551616) (hb:b<18446744073709551616):zd .or (W a) (W b)=some (W (a|||b))/\a|||b<18446744073709551616:=by
 have h:a|||b<18446744073709551616:=Nat.or_lt_two_pow (n:=64) ha hb
 refine⟨?_,h⟩;have e:(BitVec.ofInt 64 (a:Int)|||BitVec.ofInt 64 (b:Int)).toNat=a|||b:=by
  rw[Yj,Yj,BitVec.toNat_or,BitVec.toNat_ofNat,BitVec.toNat_ofNat,JO (show a<2 ^ 64 from ha),JO (show b<2 ^ 64 from hb)]
 simp only[zd,Qv];rw[show ((BitVec.ofInt (IntKind.bits .u64) (a:Int)|||BitVec.ofInt (IntKind.bits .u64) (b:Int)).toNat)=a|||b from e,ZM (by omega) (by omega)]
def zC1 (a b:Nat):Nat:=(BitVec.ofNat 64 a&&& ~~~BitVec.ofNat 64 b).toNat
theorem zPW {a b:Nat} (ha:a<18446744073709551616) (hb:b<18446744073709551616):zd .andNot (W a) (W b)=some (W (zC1 a b))/\zC1 a b<18446744073709551616/\∀ i,(zC1 a b).testBit i=(a.testBit i&& !b.testBit i):=by
 have h:zC1 a b<18446744073709551616:=(BitVec.ofNat 64 a&&& ~~~BitVec.ofNat 64 b).isLt;refine⟨?_,h,fun i=> ?_⟩
 ·have e:(BitVec.ofInt 64 (a:Int)&&& ~~~BitVec.ofInt 64 (b:Int)).toNat=zC1 a b:=by rw[Yj,Yj];rfl
  simp only[zd,Qv];rw[show ((BitVec.ofInt (IntKind.bits .u64) (a:Int)&&& ~~~BitVec.ofInt (IntKind.bits .u64) (b:Int)).toNat)=zC1 a b from e,ZM (by omega) (by omega)]
 ·unfold zC1;rw[BitVec.testBit_toNat,BitVec.getLsbD_and,BitVec.getLsbD_not,BitVec.getLsbD_ofNat,BitVec.getLsbD_ofNat];by_cases hi:i<64
  ·simp[hi]
  ·have:a.testBit i=false:=by
    cases h:a.testBit i with
    |false=>rfl
    |true=>exact absurd (YQ ha h) hi
   simp[hi,this]
theorem zT2 {a:Nat} {k:Nat} (hk:k<64):zd .shr (W a) (W k)=some (W (a / 2 ^ k)):=by
 simp only[zd];rw[QD (by omega),GQ,show min k (IntKind.bits .u64)=k from Gl (by rw[b64];omega),Int.fdiv_eq_ediv_of_nonneg _ (by exact Int.le_of_lt (Int.pow_pos (by decide)))];congr 2
theorem zDB {k:Nat} (hk:k<64):zd .shl (W 1) (I k)=some (W (2 ^ k))/\2 ^ k<18446744073709551616:=by
 have h:2 ^ k<2 ^ 64:=Nat.pow_lt_pow_right (by decide) hk;refine⟨?_,h⟩;have h2:((2 ^ k:Nat):Int)<18446744073709551616:=by
  have h4:2 ^ k<18446744073709551616:=h;generalize 2 ^ k=z at h4 |-;omega
 have h3:(0:Int)<=((2 ^ k:Nat):Int):=Int.natCast_nonneg _;simp only[zd];rw[QD (by omega),GQ,show min k (IntKind.bits .u64)=k from Gl (by rw[b64];omega),show ((1:Nat):Int) * 2 ^ k=((2 ^ k:Nat):Int) by rw[Int.natCast_pow];exact Int.one_mul _,ZM h3 h2]
theorem zUx {a b:Nat} (ha:a<18446744073709551616) (h:b<=a):zd .sub (W a) (W b)=some (W (a - b)):=by
 simp only[zd,Qv];rw[ZM (by omega) (by omega)];congr 2;omega
theorem zKs (n:Int):IntKind.wrap .u64 n=n % 18446744073709551616:=rfl
theorem zVO (a b:Nat):zd .mul (W a) (W b)=some (W (a * b % 18446744073709551616)):=by
 simp only[zd,Qv];rw[zKs];congr 2
theorem zVT {a:Nat} (h:a≠0) (ha:a<18446744073709551616):unV .neg (W a)=some (W (18446744073709551616 - a)):=by
 simp only[unV];rw[zKs];congr 2;omega
theorem zHs:∀ {xs ys:List Nat},xs.Pairwise (·<·)->ys.Pairwise (·<·)->(∀ n,n∈xs↔n∈ys)->xs=ys
 |[],[],_,_,_=>rfl
 |[],y::ys,_,_,h=>absurd ((h y).2 (QS ..)) (by simp)
 |x::xs,[],_,_,h=>absurd ((h x).1 (QS ..)) (by simp)
 |x::xs,y::ys,hx,hy,h=>by
  obtain⟨x1,x2⟩:=GX.1 hx;obtain⟨y1,y2⟩:=GX.1 hy;have e:x=y:=by
   rcases Qj.1 ((h x).1 (QS ..))with e|e
   ·exact e
   ·rcases Qj.1 ((h y).2 (QS ..))with e2|e2
    ·exact e2.symm
    ·have:=y1 _ e;have:=x1 _ e2;omega
  subst e;rw[zHs x2 y2 fun n=> ?_];have:=h n;constructor
  ·intro hn;have hlt:=x1 n hn;rcases Qj.1 (this.1 (Qc _ hn))with e|e
   ·omega
   ·exact e
  ·intro hn;have hlt:=y1 n hn;rcases Qj.1 (this.2 (Qc _ hn))with e|e
   ·omega
   ·exact e
theorem zMc (b:Nat):b≠0->∃ k m,b=2 ^ (k+1) * m+2 ^ k:=by
 induction b using Nat.strongRecOn with
 |ind b ih=>
  intro h;by_cases h2:b % 2=1
  ·exact⟨0,b / 2,by simp;omega⟩
  ·obtain⟨k,m,e⟩:=ih (b / 2) (by omega) (by omega);refine⟨k+1,m,?_⟩;have e1:2 ^ (k+1+1) * m=2 ^ (k+1) * m * 2:=by rw[Nat.pow_succ 2 (k+1),Nat.mul_right_comm]
   have e2:2 ^ (k+1)=2 ^ k * 2:=Nat.pow_succ ..;rw[e1];generalize 2 ^ (k+1) * m=z at *;generalize 2 ^ k=y at *;omega
structure Low (b k:Nat):Prop where
 lt:k<64
 list:zAS b=k::zAS (b&&& (b - 1))
 one:b&&& (18446744073709551616 - b)=2 ^ k
 less:b&&& (b - 1)<b
theorem low {b:Nat} (h:b≠0) (hb:b<18446744073709551616):∃ k,Low b k:=by
 obtain⟨k,m,e⟩:=zMc b h;have hpos:0<2 ^ k:=Nat.pow_pos (by decide);have hs:2 ^ (k+1)=2 ^ k * 2:=Nat.pow_succ ..;have e1:b - 1=2 ^ (k+1) * m+(2 ^ k - 1):=by
  generalize 2 ^ (k+1) * m=z at *;omega
 have tb:∀ i,b.testBit i=if i<k+1 then decide (k=i) else m.testBit (i - (k+1)):=fun i=>by
  rw[e,Nat.testBit_two_pow_mul_add _ (by omega),Nat.testBit_two_pow]
 have tb1:∀ i,(b - 1).testBit i=if i<k+1 then decide (i<k) else m.testBit (i - (k+1)):=fun i=>by
  rw[e1,Nat.testBit_two_pow_mul_add _ (by omega),Nat.testBit_two_pow_sub_one]
 have hk:b.testBit k=true:=by rw[tb,QI (by omega)];simp
 have tand:∀ i,(b&&& (b - 1)).testBit i=(b.testBit i&& !decide (i=k)):=fun i=>by
  rw[Nat.testBit_and,tb,tb1];by_cases h1:i<k+1
  ·rw[QI h1,QI h1];by_cases h2:k=i
   ·subst h2;simp
   ·simp[h2]
  ·rw[QD h1,QD h1,show decide (i=k)=false from QT (by omega)];simp
 refine⟨k,YQ hb hk,zHs (zBo b) (GX.2 ⟨fun i hi=> ?_,zBo _⟩) fun i=> ?_,?_,?_⟩
 ·have:=(YC.1 hi).2;rw[tand,tb]at this;by_cases h1:i<k+1
  ·rw[QI h1]at this;simp at this;omega
  ·omega
 ·rw[Qj,YC,YC,tand];by_cases h1:i=k
  ·subst h1;simp[hk,YQ hb hk]
  ·simp[h1]
 ·refine Nat.eq_of_testBit_eq fun i=> ?_;rw[Nat.testBit_and,show 18446744073709551616 - b=2 ^ 64 - ((b - 1)+1) by omega,Nat.testBit_two_pow_sub_succ (by omega),Nat.testBit_two_pow,tb,tb1];by_cases h1:i<k+1
  ·rw[QI h1,QI h1];by_cases h2:k=i
   ·subst h2;simp[YQ hb hk]
   ·simp[h2]
  ·rw[QD h1,QD h1,show decide (k=i)=false from QT (by omega)];cases m.testBit (i - (k+1))<;>simp
 ·exact Nat.lt_of_le_of_lt Nat.and_le_right (by omega)
theorem zJK:zAS 0=[]:=by unfold zAS;simp
def tz64:List Nat:=[0,1,56,2,57,49,28,3,61,58,42,50,38,29,17,4,62,47,59,36,45,43,51,22,53,39,33,30,24,18,12,5,63,55,48,27,60,41,37,16,46,35,44,21,52,32,23,11,54,26,40,15,34,20,31,10,25,14,19,9,13,8,7,6]
def tzV:List Value:=tz64.map fun n:Nat=> .int .u8 (n:Int)
theorem zTW:∀ k,k<64->(2 ^ k * 285870213051353865 % 18446744073709551616 / 288230376151711744<64/\tz64.getD (2 ^ k * 285870213051353865 % 18446744073709551616 / 288230376151711744) 0=k):=by decide+kernel
theorem zTC {j k:Nat} (t1:j<64) (t2:tz64.getD j 0=k):tzV[j]?=some (.int .u8 (k:Int)):=by
 unfold tzV;have hl:j<tz64.length:=t1;rw[GR,QB hl];rw[QE,QB hl]at t2;rw[QK];simp only[Q7]at t2;rw[t2]
theorem zPq {k:Nat} (h:k<64):∃ m j:Nat,zd .mul (W (2 ^ k)) (W 285870213051353865)=some (W m)/\zd .shr (W m) (W 58)=some (W j)/\j<64/\tz64.getD j 0=k:=
 ⟨_,_,zVO (2 ^ k) 285870213051353865,zT2 (k:=58) (by decide),zTW k h⟩
def s1 (b:Nat):Nat:=(b / 2&&& 85)+(b&&& 85)
def s2 (b:Nat):Nat:=(b / 4&&& 51)+(b&&& 51)
def BdW (s:List LWd):Prop:=∀ w∈s,w.bits<18446744073709551616
theorem OkW.bd {s:List LWd} (h:OkW s):BdW s:=fun w hw=>(h.each w hw).2.2.2
theorem BdW.tail {w:LWd} {s:List LWd} (h:BdW (w::s)):BdW s:=fun x hx=>h x (Qc _ hx)
def yF:Int->List LWd->Bool
 |_,[]=>true
 |last,w::s=>decide (last<w.pos)&&decide (w.pos<16384)&&decide (w.bits≠0)&&yF w.pos s
theorem zBu:∀ {s:List LWd} {last:Int},-1<=last->BdW s->(yF last s=true↔OkW s/\∀ w∈s,last<w.pos)
 |[],last,_,_=>by simp[yF,OkW.nil]
 |w::s,last,hl,hb=>by
  unfold yF;rw[QJ,QJ,QJ,GF,GF,GF];constructor
  ·rintro⟨⟨⟨h1,h2⟩,h3⟩,h4⟩;obtain⟨h5,h6⟩:=(zBu (by omega) hb.tail).1 h4;refine⟨⟨GX.2 ⟨h6,h5.rise⟩,fun x hx=> ?_⟩,fun x hx=> ?_⟩
   ·rcases Qj.1 hx with rfl|hx
    ·exact⟨by omega,h2,h3,hb _ (QS ..)⟩
    ·exact h5.each x hx
   ·rcases Qj.1 hx with rfl|hx
    ·exact h1
    ·have:=h6 x hx;omega
  ·rintro⟨h1,h2⟩;obtain⟨a,b,c,_⟩:=h1.each w (QS ..);exact⟨⟨⟨h2 w (QS ..),b⟩,c⟩,(zBu (by omega) hb.tail).2 ⟨h1.tail,(GX.1 h1.rise).1⟩⟩
theorem zKv {s:List LWd} (hb:BdW s):yF (-1) s=true↔OkW s:=by
 rw[zBu (by decide) hb];exact⟨fun h=>h.1,fun h=>⟨h,fun w hw=>by have:=(h.each w hw).1;omega⟩⟩
def inB (s:List LWd) (n:Int):Bool:=s.any fun w=>decide (w.pos=n / 64)&&w.bits.testBit (n % 64).toNat
theorem YT {s:List LWd} {n:Int}:inB s n=true↔InW s n:=by
 unfold inB InW;rw[JD];simp only[QJ,GF]
theorem zFj {s:List LWd} {n:Int} (h:¬InW s n):inB s n=false:=by
 cases hb:inB s n with
 |false=>rfl
 |true=>exact absurd (YT.1 hb) h
theorem Yo (w:LWd) (s:List LWd) (n:Int):inB (w::s) n=(decide (w.pos=n / 64)&&w.bits.testBit (n % 64).toNat||inB s n):=by
 unfold inB;rw[List.any_cons]
theorem Y3 {s:List LWd} {n:Int} (h:∀ w∈s,n / 64<w.pos):inB s n=false:=zFj fun ⟨w,hw,e,_⟩=>by have:=h w hw;omega
def zAm (p:Int) (v:Nat) (s:List LWd):List LWd:=if v=0 then s else ⟨p,v⟩::s
theorem zCQ {p:Int} {v:Nat} {s:List LWd} (h:OkW s) (hp:0<=p/\p<16384) (hv:v<18446744073709551616) (hs:∀ w∈s,p<w.pos):OkW (zAm p v s):=by
 unfold zAm;split
 ·exact h
 ·rename_i hne;refine⟨GX.2 ⟨hs,h.rise⟩,fun x hx=> ?_⟩;rcases Qj.1 hx with rfl|hx
  ·exact⟨hp.1,hp.2,hne,hv⟩
  ·exact h.each x hx
theorem zCf (p:Int) (v:Nat) (s:List LWd) (n:Int):inB (zAm p v s) n=(decide (p=n / 64)&&v.testBit (n % 64).toNat||inB s n):=by
 unfold zAm;split
 ·rename_i h;subst h;simp
 ·rw[Yo]
theorem zA5 {p:Int} {v:Nat} {s:List LWd} {x:LWd} (h:x∈zAm p v s):x.pos=p\/x∈s:=by
 unfold zAm at h;split at h
 ·exact .inr h
 ·rcases Qj.1 h with rfl|h
  ·exact .inl rfl
  ·exact .inr h
def zn (f:Nat->Nat->Nat):List LWd->List LWd->List LWd
 |[],[]=>[]
 |x::a,[]=>zAm x.pos (f x.bits 0) (zn f a [])
 |[],y::b=>zAm y.pos (f 0 y.bits) (zn f [] b)
 |x::a,y::b=>if x.pos<y.pos then zAm x.pos (f x.bits 0) (zn f a (y::b)) else if y.pos<x.pos then zAm y.pos (f 0 y.bits) (zn f (x::a) b) else zAm x.pos (f x.bits y.bits) (zn f a b)
 termination_by a b=>a.length+b.length
structure Bitw (f:Nat->Nat->Nat) (g:Bool->Bool->Bool):Prop where
 nil:g false false=false
 bit:∀ a b,a<18446744073709551616->b<18446744073709551616->f a b<18446744073709551616/\∀ i,(f a b).testBit i=g (a.testBit i) (b.testBit i)
theorem yw {x:LWd} {a:List LWd} (h:OkW (x::a)):∀ w∈a,x.pos<w.pos:=(GX.1 h.rise).1
theorem YF {f:Nat->Nat->Nat} {g:Bool->Bool->Bool} (hf:Bitw f g):∀ {a b:List LWd},OkW a->OkW b->(OkW (zn f a b)/\(∀ n,inB (zn f a b) n=g (inB a n) (inB b n))/\∀ p,(∀ w∈a,p<w.pos)->(∀ w∈b,p<w.pos)->∀ w∈zn f a b,p<w.pos)
 |[],[],_,_=>by
  unfold zn;exact⟨OkW.nil,fun n=>by show false=g false false;rw[hf.nil],fun p _ _ w hw=>by cases hw⟩
 |x::a,[],ha,hb=>by
  obtain⟨i1,i2,i3⟩:=YF hf ha.tail hb;obtain⟨x1,x2,x3,x4⟩:=ha.each x (QS ..);obtain⟨f1,f2⟩:=hf.bit x.bits 0 x4 (by decide);unfold zn;refine⟨zCQ i1 ⟨x1,x2⟩ f1 (i3 _ (yw ha) (fun w hw=>by cases hw)),fun n=> ?_,fun p h1 h2 w hw=> ?_⟩
  ·rw[zCf,i2,Yo,f2,JN];by_cases e:x.pos=n / 64
   ·rw[Y3 (s:=a) (fun w hw=>by have:=yw ha w hw;omega),QZ e,show inB [] n=false from rfl,hf.nil];simp
   ·rw[QT e];simp
  ·rcases zA5 hw with e|hw
   ·rw[e];exact h1 x (QS ..)
   ·exact i3 p (fun w hw=>h1 w (Qc _ hw)) h2 w hw
 |[],y::b,ha,hb=>by
  obtain⟨i1,i2,i3⟩:=YF hf ha hb.tail;obtain⟨x1,x2,x3,x4⟩:=hb.each y (QS ..);obtain⟨f1,f2⟩:=hf.bit 0 y.bits (by decide) x4;unfold zn;refine⟨zCQ i1 ⟨x1,x2⟩ f1 (i3 _ (fun w hw=>by cases hw) (yw hb)),fun n=> ?_,fun p h1 h2 w hw=> ?_⟩
  ·rw[zCf,i2,Yo,f2,JN];by_cases e:y.pos=n / 64
   ·rw[Y3 (s:=b) (fun w hw=>by have:=yw hb w hw;omega),QZ e,show inB [] n=false from rfl,hf.nil];simp
   ·rw[QT e];simp
  ·rcases zA5 hw with e|hw
   ·rw[e];exact h2 y (QS ..)
   ·exact i3 p h1 (fun w hw=>h2 w (Qc _ hw)) w hw
 |x::a,y::b,ha,hb=>by
  obtain⟨x1,x2,x3,x4⟩:=ha.each x (QS ..);obtain⟨y1,y2,y3,y4⟩:=hb.each y (QS ..);unfold zn;by_cases c1:x.pos<y.pos
  ·rw[QI c1];obtain⟨i1,i2,i3⟩:=YF hf ha.tail hb;obtain⟨f1,f2⟩:=hf.bit x.bits 0 x4 (by decide);have hfar:∀ w∈y::b,x.pos<w.pos:=fun w hw=>by
    rcases Qj.1 hw with rfl|hw
    ·exact c1
    ·have:=yw hb w hw;omega
   refine⟨zCQ i1 ⟨x1,x2⟩ f1 (i3 _ (yw ha) hfar),fun n=> ?_,fun p h1 h2 w hw=> ?_⟩
   ·rw[zCf,i2,Yo x a,f2,JN];by_cases e:x.pos=n / 64
    ·rw[Y3 (s:=a) (fun w hw=>by have:=yw ha w hw;omega),Y3 (s:=y::b) (fun w hw=>by have:=hfar w hw;omega),QZ e,hf.nil];simp
    ·rw[QT e];simp
   ·rcases zA5 hw with e|hw
    ·rw[e];exact h1 x (QS ..)
    ·exact i3 p (fun w hw=>h1 w (Qc _ hw)) h2 w hw
  ·rw[QD c1];by_cases c2:y.pos<x.pos
   ·rw[QI c2];obtain⟨i1,i2,i3⟩:=YF hf ha hb.tail;obtain⟨f1,f2⟩:=hf.bit 0 y.bits (by decide) y4;have hfar:∀ w∈x::a,y.pos<w.pos:=fun w hw=>by
     rcases Qj.1 hw with rfl|hw
     ·exact c2
     ·have:=yw ha w hw;omega
    refine⟨zCQ i1 ⟨y1,y2⟩ f1 (i3 _ hfar (yw hb)),fun n=> ?_,fun p h1 h2 w hw=> ?_⟩
    ·rw[zCf,i2,Yo y b,f2,JN];by_cases e:y.pos=n / 64
     ·rw[Y3 (s:=b) (fun w hw=>by have:=yw hb w hw;omega),Y3 (s:=x::a) (fun w hw=>by have:=hfar w hw;omega),QZ e,hf.nil];simp
     ·rw[QT e];simp
    ·rcases zA5 hw with e|hw
     ·rw[e];exact h2 y (QS ..)
     ·exact i3 p h1 (fun w hw=>h2 w (Qc _ hw)) w hw
   ·rw[QD c2];obtain⟨i1,i2,i3⟩:=YF hf ha.tail hb.tail;obtain⟨f1,f2⟩:=hf.bit x.bits y.bits x4 y4;have e0:x.pos=y.pos:=by omega
    refine⟨zCQ i1 ⟨x1,x2⟩ f1 (i3 _ (yw ha) (fun w hw=>by have:=yw hb w hw;omega)),fun n=> ?_,fun p h1 h2 w hw=> ?_⟩
    ·rw[zCf,i2,Yo x a,Yo y b,f2,<-e0];by_cases e:x.pos=n / 64
     ·rw[Y3 (s:=a) (fun w hw=>by have:=yw ha w hw;omega),Y3 (s:=b) (fun w hw=>by have:=yw hb w hw;omega),QZ e,hf.nil];simp
     ·rw[QT e];simp
    ·rcases zA5 hw with e|hw
     ·rw[e];exact h1 x (QS ..)
     ·exact i3 p (fun w hw=>h1 w (Qc _ hw)) (fun w hw=>h2 w (Qc _ hw)) w hw
 termination_by a b=>a.length+b.length
theorem zSc {b k:Nat} (hk:k<64) (hb:b<18446744073709551616):b|||2 ^ k<18446744073709551616/\∀ i,(b|||2 ^ k).testBit i=(b.testBit i||decide (k=i)):=by
 have h:2 ^ k<2 ^ 64:=Nat.pow_lt_pow_right (by decide) hk;refine⟨Nat.or_lt_two_pow (n:=64) hb h,fun i=> ?_⟩;rw[Nat.testBit_or,Nat.testBit_two_pow]
theorem zUV (k:Nat):2 ^ k≠0:=Nat.ne_of_gt (Nat.pow_pos (by decide))
structure Upto (s:List LWd) (xs:List Int):Prop where
 ok:OkW s
 mem:∀ n,InW s n↔n∈xs
theorem zIZ {s:List LWd} {w:LWd} (h:OkW s) (h1:0<=w.pos/\w.pos<16384) (h2:w.bits≠0) (h3:w.bits<18446744073709551616) (hs:∀ x∈s,x.pos<w.pos):OkW (s++[w]):=
 ⟨List.pairwise_append.2 ⟨h.rise,List.pairwise_singleton ..,fun x hx y hy=>by rw[QQ]at hy;subst hy;exact hs x hx⟩,fun x hx=>by
  rcases Qf.1 hx with hx|hx
  ·exact h.each x hx
  ·rw[QQ]at hx;subst hx;exact⟨h1.1,h1.2,h2,h3⟩⟩
theorem zEr {s:List LWd} {w:LWd} {n:Int}:InW (s++[w]) n↔InW s n\/(w.pos=n / 64/\w.bits.testBit (n % 64).toNat=true):=by
 unfold InW;constructor
 ·rintro⟨x,hx,e⟩;rcases Qf.1 hx with hx|hx
  ·exact .inl ⟨x,hx,e⟩
  ·rw[QQ]at hx;subst hx;exact .inr e
 ·rintro(⟨x,hx,e⟩|e)
  ·exact⟨x,GS _ hx,e⟩
  ·exact⟨w,by simp,e⟩
theorem Upto.new {s:List LWd} {xs:List Int} {n:Int} (u:Upto s xs) (hn:0<=n/\n<1048576) (hs:∀ x∈s,x.pos<n / 64):Upto (s++[⟨n / 64,2 ^ (n % 64).toNat⟩]) (xs++[n]):=by
 have hlt:2 ^ (n % 64).toNat<2 ^ 64:=Nat.pow_lt_pow_right (by decide) (by omega);refine⟨zIZ u.ok ⟨by simp only;omega,by simp only;omega⟩ (zUV _) hlt hs,fun m=> ?_⟩;rw[zEr,u.mem,Nat.testBit_two_pow,GF,Qf,QQ];constructor
 ·rintro(h|⟨e,e2⟩)
  ·exact .inl h
  ·exact .inr (by simp only at e;omega)
 ·rintro(h|e)
  ·exact .inl h
  ·subst e;exact .inr ⟨rfl,rfl⟩
theorem Upto.old {s:List LWd} {w:LWd} {xs:List Int} {n:Int} (u:Upto (s++[w]) xs) (hn:0<=n/\n<1048576) (hw:w.pos=n / 64):Upto (s++[⟨w.pos,w.bits|||2 ^ (n % 64).toNat⟩]) (xs++[n]):=by
 obtain⟨w1,w2,w3,w4⟩:=u.ok.each w (by simp);obtain⟨s1,s2⟩:=zSc (k:=(n % 64).toNat) (by omega) w4;obtain⟨p1,p2,p3⟩:=List.pairwise_append.1 u.ok.rise;have hne:w.bits|||2 ^ (n % 64).toNat≠0:=fun e=>by
  have:=s2 (n % 64).toNat;rw[e,JN]at this;simp at this
 refine⟨zIZ ⟨p1,fun x hx=>u.ok.each x (GS _ hx)⟩ ⟨w1,w2⟩ hne s1 (fun x hx=>p3 x hx w (by simp)),fun m=> ?_⟩;have:=u.mem m;rw[zEr]at this;rw[zEr,s2,GA,GF,Qf,QQ,<-this];constructor
 ·rintro(h|⟨e,h|h⟩)
  ·exact .inl (.inl h)
  ·exact .inl (.inr ⟨e,h⟩)
  ·exact .inr (by simp only at e;omega)
 ·rintro((h|⟨e,h⟩)|e)
  ·exact .inl h
  ·exact .inr ⟨e,.inl h⟩
  ·subst e;exact .inr ⟨hw,.inr rfl⟩
def zCC:List (Nat×List Value):=[(0,Z5),(1,tzV)]
def tb:Tab:=⟨zEV Tryz.prog,fun f=>if f=15 then some (zAT zCC (.bool true)) else none⟩
theorem zT7 (f:Nat) (hf:Nat.beq f 15=false:=by rfl):tb.stub f=none:=QD (JI hf)
theorem zHe {h:AHeap} {g:Nat} {cs:List Value} (hs:zAJ cs cs=true) (ht:zk h g=some cs):Yq h [(g,cs)]=true:=by
 unfold zk at ht;unfold Yq;simp only[List.all_cons,List.all_nil,Ql];split at ht
 ·rename_i c o lo hg;cases ht;rw[hg];exact hs
 ·cases ht
theorem zPu {h:AHeap} {a b:Nat×List Value} (h1:Yq h [a]=true) (h2:Yq h [b]=true):Yq h [a,b]=true:=by
 unfold Yq at *;simp only[List.all_cons,List.all_nil,Ql]at *;rw[h1,h2];rfl
theorem zOV (h:AHeap) (ht:zk h 0=some Z5) (hz:zk h 1=some tzV):WC Tryz.prog tb 15 [] h fun r h'=>r= .bool true/\h=h':=by
 refine WC.stub (s:=zAT zCC (.bool true)) (by show (if 15=15 then some (zAT zCC (.bool true)) else none)=_;exact QI rfl) (v:= .bool true) (h':=h) ?_ ⟨rfl,rfl⟩;have hl:Yq h zCC=true:=zPu (zHe (by kernel_rfl) ht) (zHe (by kernel_rfl) hz);unfold zAT;rw[hl];rfl
theorem en {f:Nat} {args:List Value} {h:AHeap} {Q:Value->AHeap->Prop} (n:Nat) (rs:List (Nat×Option (Bool×Nat))) (b:ACode) {G':Prop} (k:G') (hs:tb.stub f=none:=by exact zT7 _) (hc:tb.code f=some ⟨n,rs,b⟩:=by kernel_rfl)
  (r:Wrap G'->WX Tryz.prog tb b ⟨zBs args 0 .leaf,[],none⟩ h (zE4 Tryz.prog tb rs Q):=by
  intro hgo;simp only[zBs,Q4,Nat.reduceAdd];refine go ?_;exact hgo.out):WC Tryz.prog tb f args h Q:=WC.of hs hc (r ⟨k⟩)
set_option maxRecDepth 100000
theorem zBK {α:Type} {p:α->Bool} {l:List α} (h:∀ x∈l,p x=false):l.any p=false:=by
 rw[G8];intro x hx;rw[h x hx];exact Bool.noConfusion
theorem yS {l:List Int} {i:Nat} (h:i<l.length):l.getD i 0∈l:=by
 simp[List.getD,QB h]
theorem zBF {l:List Int} {x:Int} (h:x∈l):∃ i,i<l.length/\l.getD i 0=x:=by
 obtain⟨i,hi,e⟩:=List.getElem_of_mem h;exact⟨i,hi,by simp[List.getD,QB hi,e]⟩
def zRM:ACode:=(oV (oR [oZ 3]) (oV (oR [oM 4 0,oC .lss 5 4 0,oM 6 5,oH 6 (oM 7 0),oH 6 (oL 8 1),oH 6 (oB .geq 9 7 8),oO 10 6 9,oM 3 10]) .ret))
theorem zLG (h:AHeap) (h0:AHeap) (p:Value) (n m:Int) (o:OwnC h0 h p [I m]):
  WC Tryz.prog tb 130 [I n,p] h fun r h'=>r= .bool (decide (n<0\/m<=n))/\Ext h h':=by
 refine en 11 [(3,none)] zRM ?_;repeat' (first|(refine WX.br (fun hb=> ?_) (fun hb=> ?_)<;>(try simp only[DB]at hb)<;>refine go ?_)|(refine WO.sp (fun hb=> ?_) (fun hb=> ?_)<;>(try simp only[DB]at hb)<;>refine go ?_))
 all_goals (refine rt ?_;exact⟨by first|(simp[one];done)|(simp[one];omega),Ext.refl h⟩)
def zLx:ACode:=(oV (oR [oB .lss 9 8 7]) (oV (oT 9 0) (oV (o5 1 (oV (oR [oM 10 8,oM 5 10]) (oV (oR [oM 11 1,oM 12 0,oM 13 5,oI 1 14 12 13,oL 15 14,⟨some 16,none,(.call (.tmp 11) [(.tmp 15)])⟩]) (oJ 16 (oV (oR [oM 17 5,oM 4 17]) .ret) .skip)))) (oR [oC .add 18 8 1,oM 8 18]))))
def zSK:ACode:=(oV (oR [oN 4 0]) (oV (oV (oR [oM 6 0,oQ 7 6,oN 8 0]) (o5 0 (.loop zLx))) (oV (oR [oN 4 (-1)]) .ret)))
theorem zOS (h:AHeap) (v fv:Value) (l:List Int) (p:Int->Bool) (s:SlI h v l) (hl:(l.length:Int)<=9223372036854775807) (hf:∀ x∈l,∀ h1,Ext h h1->WV Tryz.prog tb fv [I x] h1 fun r h'=>r= .bool (p x)/\Ext h1 h'):
  WC Tryz.prog tb 163 [v,fv] h fun r h'=>(∃ n:Int,r=I n/\(decide (0<=n))=l.any p)/\Ext h h':=by
 refine en 19 [(4,none)] zSK ?_;refine WX.loopA [9,10,5,11,12,13,14,15,16,17,4,18,8] (by kernel_rfl) (fun i=>l.length - i) (fun i t h1=>Ext h h1/\zB t 8=I i/\i<=l.length/\∀ j,j<i->p (l.getD j 0)=false) 0 ?_ ?_
 ·exact⟨Ext.refl h,sl_,QV _,fun j hj=>absurd hj (GG _)⟩
 rintro i t h1 hsame ⟨e1,s8,hi,hm⟩;have s1:=s.ext e1;refine go ?_;refine WX.br (fun hb=> ?_) (fun hb=> ?_)<;>simp only[DB]at hb
 ·have hi':i<l.length:=by omega
  refine go ?_;refine WO.conV (hf _ (yS hi') h1 e1) ?_;rintro _ h2 ⟨rfl,e2⟩;refine go ?_;refine WX.br (fun hb=> ?_) (fun hb=> ?_)
  ·refine gr ?_;refine⟨⟨i,rfl,?_⟩,e1.trans e2⟩;rw[JD.2 ⟨_,yS hi',hb⟩];simp
  ·refine go ?_;refine zA (i+1) (by omega) ⟨e1.trans e2,sln,by omega,fun j hj=> ?_⟩;by_cases e:j=i
   ·subst e;exact hb
   ·exact hm j (by omega)
 ·refine gr ?_;refine⟨⟨-1,rfl,?_⟩,e1⟩;rw[zBK fun x hx=>by obtain⟨j,hj,rfl⟩:=zBF hx;exact hm j (by omega)];rfl
def zQ4:ACode:=(oV (oR [oZ 4]) (oV (oR [oM 5 0,oM 6 1,o2 7 163 5 6,oC .geq 8 7 0,oM 4 8]) .ret))
theorem zAO (h:AHeap) (v fv:Value) (l:List Int) (p:Int->Bool) (s:SlI h v l) (hl:(l.length:Int)<=9223372036854775807) (hf:∀ x∈l,∀ h1,Ext h h1->WV Tryz.prog tb fv [I x] h1 fun r h'=>r= .bool (p x)/\Ext h1 h'):
  WC Tryz.prog tb 109 [v,fv] h fun r h'=>r= .bool (l.any p)/\Ext h h':=by
 refine en 9 [(4,none)] zQ4 ?_;refine WO.con (zOS h v fv l p s hl hf) ?_;rintro _ h1 ⟨⟨n,rfl,e⟩,e1⟩;refine gr ?_;exact⟨by rw[<-e];rfl,e1⟩
def zTg:ACode:=(oV (oR [oX 2 0,oZ 4]) (oV (oR [oM 5 1,⟨some 6,none,(.mkFunc (.func 130) [] [(.tmp 2)])⟩,o2 7 109 5 6,oW 8 7,oM 4 8]) .ret))
theorem zCT (h:AHeap) (v:Value) (m:Int) (l:List Int) (s:SlI h v l) (hl:(l.length:Int)<=9223372036854775807):
  WC Tryz.prog tb 77 [I m,v] h fun r h'=>r= .bool (yp m l)/\Ext h h':=by
 refine en 9 [(4,none)] zTg ?_;refine WO.bx ?_;intro p h1 e1 o1;refine go ?_;refine WO.con (zAO h1 v _ l (fun n=>decide (n<0\/m<=n)) (s.ext e1) hl ?_) ?_
 ·intro x hx h2 e2;exact WV.func (zLG h2 h p x m (o1.ext e2))
 rintro _ h2 ⟨rfl,e2⟩;refine gr ?_;refine⟨?_,e1.trans e2⟩;show Value.bool _=_;congr 1;rw[GP];simp only[yp,Gk,G8,QY,QJ,Qb];exact⟨fun h x hx=>by have:=h x hx;omega,fun h x hx=>by have:=h x hx;omega⟩
def zLK:ACode:=(oV (oR [oB .lss 8 7 6]) (oV (oT 8 0) (oV (o5 1 (oV (oR [oI 1 9 5 7,oL 10 9,oM 4 10]) (oR [oM 11 2,oM 12 4,oB .add 13 11 12,oM 2 13]))) (oR [oC .add 14 7 1,oM 7 14]))))
def zQo:ACode:=(oV (oR [oN 2 0]) (oV (oV (oR [oM 5 0,oQ 6 5,oN 7 0]) (o5 0 (.loop zLK))) (oV (oR [oM 15 2,oM 2 15]) .ret)))
theorem zPm (h:AHeap) (v:Value) (l:List Int) (s:SlI h v l) (hl:l.length<=1000) (hb:∀ x∈l,0<=x/\x<=1000):
  WC Tryz.prog tb 153 [v] h fun r h'=>r=I l.sum/\h=h':=by
 refine en 16 [(2,none)] zQo ?_;refine WX.loopA [8,9,10,4,11,12,13,2,14,7] (by kernel_rfl) (fun i=>l.length - i) (fun i t h1=>h=h1/\zB t 7=I i/\zB t 2=I (l.take i).sum/\i<=l.length/\0<=(l.take i).sum/\(l.take i).sum<=1000 * i) 0 ?_ ?_
 ·exact⟨rfl,sl_,sl_,QV _,by simp,by simp⟩
 rintro i t _ hsame ⟨rfl,s7,s2,hi,hm,hn⟩;refine go ?_;refine WX.br (fun hc=> ?_) (fun hc=> ?_)<;>simp only[DB]at hc
 ·have hi':i<l.length:=by omega
  have hx:=hb _ (yS hi');refine go ?_;have e:(l.take (i+1)).sum=(l.take i).sum+l.getD i 0:=by
   rw[GI,List.sum_append];simp[List.getD,QB hi']
  refine zA (i+1) (by omega) ⟨rfl,sln,by rw[e];exact sl_,by omega,by omega,by omega⟩
 ·refine gr ?_;have:i=l.length:=by omega
  subst this;exact⟨by simp[one],rfl⟩
def zS8:ACode:=(oV (oR [oX 1 0,oZ 2]) (oV (oR [oF 0 3 1,oL 4 3,oD .geq 5 4 1,oM 6 5,oG 6 (oF 0 7 1),oG 6 (oL 8 7),oG 6 (oD .leq 9 8 3),oP 10 6 9,oM 2 10]) .ret))
theorem zME (h:AHeap) (x:LType) (va:Value):
  WC Tryz.prog tb 42 [.agg #[.int .u8 x.kind,I x.elem,I x.many,va]] h fun r h'=>r= .bool (Zr x)/\Ext h h':=by
 refine en 11 [(2,none)] zS8 ?_;refine WO.bx ?_;intro p h1 e1 o1;refine go ?_;repeat' (first|(refine WX.br (fun hb=> ?_) (fun hb=> ?_)<;>(try simp only[DB]at hb)<;>refine go ?_)|(refine WO.sp (fun hb=> ?_) (fun hb=> ?_)<;>(try simp only[DB]at hb)<;>refine go ?_))
 all_goals (refine rt ?_;exact⟨by simp[one,Zr, *]<;>omega,e1⟩)
def zR5:ACode:=(oV (oR [oX 1 0,oZ 2]) (oV (oR [oK 3 (.bool true),oK 4 (.bool true),oK 5 (.bool true)]) (oV (oV (oR [oF 0 6 1,oL 7 6]) (o5 0 (oV (o5 5 (oV (o5 4 (oV (o5 3 (oV (o5 2 (oV (o5 1 (oV (oV (oV (oR [oD .eql 9 7 1,oM 8 9]) (oJ 8 (.exit 1) .skip)) (oV (oV (oR [oD .eql 11 7 2,oM 10 11]) (oJ 10 (.exit 2) .skip)) (oV (oV (oR [oD .eql 13 7 4,oM 12 13]) (oJ 12 (.exit 3) .skip)) (oV (oV (oR [oD .eql 15 7 3,oM 14 15]) (oJ 14 (.exit 4) .skip)) (oV (oR [oD .eql 17 7 5,oM 16 17]) (oJ 16 (.exit 5) .skip)))))) (.exit 0))) (oR [oF 1 18 1,oL 19 18,oC .eql 20 19 0,oM 3 20]))) (oV (o6 [oF 2 21 1,oL 22 21,oC .eql 23 22 0,oF 3 24 1,oL 25 24,oQ 26 25,oC .eql 27 26 0,oM 4 23,oM 5 27]) (.exit 0)))) (oR [oF 1 28 1,oL 29 28,oC .eql 30 29 0,oM 3 30]))) (oV (oR [oF 2 31 1,oL 32 31,oC .eql 33 32 0,oM 4 33]) (.exit 0)))) (oV (oR [oF 3 34 1,oL 35 34,oQ 36 35,oC .eql 37 36 0,oM 5 37]) (.exit 0))))) (oV (oR [oM 38 3,oM 39 38,oG 39 (oM 40 4),oP 41 39 40,oM 42 41,oG 42 (oM 43 5),oP 44 42 43,oM 2 44]) .ret))))
theorem zOL (h:AHeap) (x:LType) (va:Value) (s:SlI h va x.parts):
  WC Tryz.prog tb 151 [.agg #[.int .u8 x.kind,I x.elem,I x.many,va]] h fun r h'=>r= .bool (yJ x)/\Ext h h':=by
 refine en 45 [(2,none)] zR5 ?_;refine WO.bx ?_;intro p h1 e1 o1;have s1:=s.ext e1;refine go ?_;repeat' (first|(refine WX.br (fun hb=> ?_) (fun hb=> ?_)<;>(try simp only[DB]at hb)<;>refine go ?_)|(refine WO.sp (fun hb=> ?_) (fun hb=> ?_)<;>(try simp only[DB]at hb)<;>refine go ?_))
 all_goals (refine rt ?_;refine⟨?_,e1⟩;simp[one,yJ, *])
theorem zM {α:Type} {c:Nat} {R:AHeap->List Value->α->Prop} {h:AHeap} {v:Value} {T:List α} (s:SlR c R h v T):∃ a n k,v= .slice a n k:=let ⟨_,a,_⟩:=s;a.shape
theorem YI {h:AHeap} {v:Value} {T:List LType} {i:Nat} (s:SlT h v T) (hi:i<T.length):∃ cs,RTy h cs (T.getD i default)/\Piece h v (i * 4) cs/\zMY v:=by
 obtain⟨cs,a,_,c⟩:=s.at hi;exact⟨cs,by simpa [List.getD,QB hi]using a,c,s.some hi⟩
def zP7:ACode:=(oV (oR [oZ 3]) (oV (oR [oL 4 1,oM 5 0,oI 4 6 4 5,oA 4 7 6,o1 8 42 7,oW 9 8,oM 3 9]) .ret))
theorem zQP (h h0:AHeap) (p tv:Value) (T:List LType) (n:Int) (o:OwnC h0 h p [tv]) (s:SlT h tv T) (hn:0<=n/\n<T.length):
  WC Tryz.prog tb 152 [I n,p] h fun r h'=>r= .bool (!Zr (T.getD n.toNat default))/\Ext h h':=by
 obtain⟨i,rfl⟩:∃ i:Nat,n=i:=⟨n.toNat,by omega⟩;obtain⟨cs,⟨va,rfl,sv,hv⟩,pc,hs⟩:=YI (i:=i) s (by omega);refine en 10 [(3,none)] zP7 ?_;refine WO.con (zME h _ va) ?_;rintro _ h1 ⟨rfl,e1⟩;refine gr ?_;exact⟨rfl,e1⟩
def zOB:ACode:=(oV (oR [oB .lss 78 77 76]) (oV (oT 78 1) (oV (o5 2 (oV (oR [oI 1 79 75 77,oL 80 79,oM 14 80]) (oR [oM 81 12,oM 82 2,oM 83 14,oI 1 84 82 83,oL 85 84,⟨some 86,none,(.buildSlice 1 1 [(.int .i64 0)] [(0,1,(.tmp 85))])⟩,oY 1 87 81 86,oM 12 87]))) (oR [oC .add 88 77 1,oM 77 88]))))
def zTH:ACode:=(oV (oR [oX 3 0,oN 6 0,oZ 7]) (oV (oR [oL 15 3,oM 16 1,oI 4 17 15 16,oA 4 18 17,⟨some 8,none,(.alloc [(.int .u8 0),(.int .i64 0),(.int .i64 0),(.slice none 0 0)])⟩,oS 4 8 18]) (oV (oR [oA 4 19 8,o1 20 151 19,oM 9 20,oN 10 1]) (oV (oV (oR [oF 0 21 8,oL 22 21]) (o5 0 (oV (oR [oD .eql 24 22 1,oM 23 24]) (oJ 23 .skip (oV (oR [oD .eql 26 22 2,oM 25 26]) (oJ 25 (oR [oM 27 9,oM 28 27,oG 28 (oL 29 3),oG 28 (oQ 30 29),oG 28 (oF 1 31 8),oG 28 (oL 32 31),⟨some 33,some (28,true),(.buildSlice 1 1 [(.int .i64 0)] [(0,1,(.tmp 32))])⟩,oG 28 (o2 34 77 30 33),oP 35 28 34,oM 9 35]) (oV (oR [oD .eql 37 22 3,oM 36 37]) (oJ 36 (oV (oR [oF 1 38 8,oL 39 38,⟨some 40,none,(.buildSlice 1 1 [(.int .i64 0)] [(0,1,(.tmp 39))])⟩,oF 3 41 8,oL 42 41,oY 1 43 40 42,oM 11 43]) (oR [oM 44 9,oM 45 44,oG 45 (oF 3 46 8),oG 45 (oL 47 46),oG 45 (oQ 48 47),oG 45 (oC .leq 49 48 4),oP 50 45 49,oM 51 50,oG 51 (oL 52 3),oG 51 (oQ 53 52),oG 51 (oM 54 11),oG 51 (o2 55 77 53 54),oP 56 51 55,oM 57 56,oG 57 (oM 58 11),⟨some 59,some (57,true),(.mkFunc (.func 152) [] [(.tmp 3)])⟩,oG 57 (o2 60 109 58 59),oG 57 (oW 61 60),oP 62 57 61,oM 9 62])) (oV (oR [oD .eql 64 22 4,oM 63 64]) (oJ 63 (oV (oV (oR [oM 65 9,oM 66 65,oG 66 (oM 67 1),oG 66 (oF 3 68 8),oG 66 (oL 69 68),oG 66 (o2 70 77 67 69),oP 71 66 70,oM 9 71]) (oV (oR [oM 72 9,oW 73 72]) (oJ 73 (oV (oR [oN 6 0,oZ 7]) .ret) .skip))) (oV (oR [oK 12 (.slice none 0 0)]) (oV (oV (oR [oF 3 74 8,oL 75 74,oQ 76 75,oN 77 0]) (o5 1 (.loop zOB))) (oR [oM 89 12,oQ 90 89,oC .gtr 91 90 0,oM 92 91,oG 92 (oM 93 12),oG 92 (oQ 94 93),oG 92 (oC .leq 95 94 8),oP 96 92 95,oM 97 12,o1 98 153 97,oM 9 96,oM 10 98])))) (oV (oR [oD .eql 100 22 5,oM 99 100]) (oJ 99 (oV (oV (oR [oM 101 9,oM 102 101,oG 102 (oM 103 1),oG 102 (oF 1 104 8),oG 102 (oL 105 104),⟨some 106,some (102,true),(.buildSlice 1 1 [(.int .i64 0)] [(0,1,(.tmp 105))])⟩,oG 102 (o2 107 77 103 106),oP 108 102 107,oM 109 108,oG 109 (oF 2 110 8),oG 109 (oL 111 110),oG 109 (oC .geq 112 111 1),oP 113 109 112,oM 114 113,oG 114 (oF 2 115 8),oG 114 (oL 116 115),oG 114 (oC .leq 117 116 16),oP 118 114 117,oM 9 118]) (oV (oR [oM 119 9,oW 120 119]) (oJ 120 (oV (oR [oN 6 0,oZ 7]) .ret) .skip))) (o6 [oF 2 121 8,oL 122 121,oM 123 2,oF 1 124 8,oL 125 124,oI 1 126 123 125,oL 127 126,oB .mul 128 122 127,oM 10 128])) (oR [oZ 9]))))))))))))) (oV (oR [oM 129 10,oM 130 9,oM 131 130,oG 131 (oM 132 10),oG 131 (oC .leq 133 132 32),oP 134 131 133,oM 6 129,oM 7 134]) .ret)))))
theorem zUF (h:AHeap) (tv sv:Value) (T:List LType) (k:Nat) (sizes:List Int) (st:SlT h tv T) (ss:SlI h sv sizes) (hk:k<T.length) (hT:T.length<=100) (hp:∀ x∈T,x.parts.length<=100) (hsz:sizes.length=k)
  (hb0:∀ x∈sizes,0<=x/\x<=1000):
  WC Tryz.prog tb 98 [tv,I k,sv] h fun r h'=>r= .tuple #[I (ZQ T (T.getD k default) k sizes).1,.bool (ZQ T (T.getD k default) k sizes).2]/\Ext h h':=by
 have hxT:T.getD k default∈T:=by simp[List.getD,QB hk]
 have hpx:=hp _ hxT;generalize hx:T.getD k default=x at *;have hpx:x.parts.length<=100:=hpx;obtain⟨_,_,_,rfl⟩:=zM st;refine en 135 [(6,none),(7,none)] zTH ?_;refine WO.bx ?_;intro p3 h1 e1 o3;have st1:=st.ext e1;obtain⟨cs,hR,pc,hs⟩:=YI (i:=k) st1 hk;rw[hx]at hR;obtain⟨va,rfl,sv0,hv⟩:=hR;refine go ?_;refine WO.al ?_;intro p8 h2 e2 o8;refine go ?_;refine WO.stC0 o8 e2 ?_ (h1:=zTR (sv0.ext e2) _ _ _ _);intro h3 e3 o8 _;have o3:=o3.ext e3;have st3:=st1.ext e3;have ss3:=(ss.ext e1).ext e3;have sv3:=sv0.ext e3;refine go ?_;refine WO.con (zOL h3 x va sv3) ?_;rintro _ h4 ⟨rfl,e4⟩;have o3:=o3.ext e4;have o84:=o8.ext e4;have o8:=o84;have st4:=st3.ext e4;have ss4:=ss3.ext e4;have sv4:=sv3.ext e4;have e14:=(e1.trans e3).trans e4;clear st st1 st3 ss ss3 sv0 sv3 e1 e2 e3 e4 pc hs;refine go ?_;refine WX.br (fun hb=> ?_) (fun hb=> ?_)<;>simp only[DB]at hb<;>refine go ?_
 ·refine WO.sp (fun hc=> ?_) (fun hc=> ?_)<;>refine go ?_<;>refine rt ?_<;>exact⟨by simp[one,ZQ,hb,hc],e14⟩
 refine WX.br (fun hb2=> ?_) (fun hb2=> ?_)<;>simp only[DB]at hb2<;>refine go ?_
 ·refine WO.sp (fun hc=> ?_) (fun hc=> ?_)<;>refine go ?_
  ·refine WO.bl [x.elem] ?_;intro v5 h5 e5 o5;have st5:=st4.ext e5;have o3:=o3.ext e5;refine go ?_;refine WO.con (zCT h5 v5 _ [x.elem] o5.sl (by simp)) ?_;rintro _ h6 ⟨rfl,e6⟩;refine go ?_;refine WO.sp (fun hd=> ?_) (fun hd=> ?_)<;>refine go ?_<;>refine rt ?_<;>exact⟨by simp[one,ZQ,hb2,hc,hd],(e14.trans e5).trans e6⟩
  ·refine rt ?_;exact⟨by simp[one,ZQ,hb2,hc],e14⟩
 refine WX.br (fun hb3=> ?_) (fun hb3=> ?_)<;>simp only[DB]at hb3<;>refine go ?_
 ·refine WO.bl [x.elem] ?_;intro v5 h5 e5 o5;have sv5:=sv4.ext e5;have o8:=o8.ext e5;refine go ?_;refine WO.apN (.inr o5) sv5 e5 (by simp;omega) ?_;intro v6 h6 e6 o6;have st6:=st4.ext e6;have o3:=o3.ext e6;have sv6:=sv4.ext e6;have o8:=OwnC.ext o84 e6;have e16:=e14.trans e6;refine go ?_;refine WO.sp (fun hc=> ?_) (fun hc=> ?_)<;>refine go ?_
  ·refine WO.sp (fun hd=> ?_) (fun hd=> ?_)<;>simp only[DB]at hd<;>refine go ?_
   ·have hd':x.parts.length<=4:=by omega
    refine WO.con (zCT h6 v6 _ _ o6.sl (by simp;omega)) ?_;rintro _ h7 ⟨rfl,e7⟩;have o3:=o3.ext e7;have st7:=st6.ext e7;refine go ?_;refine WO.sp (fun he=> ?_) (fun he=> ?_)<;>refine go ?_
    ·have hin:∀ n∈[x.elem]++x.parts,0<=n/\n<(T.length:Int):=by
      intro n hn;have:=QY.1 he n hn;simpa using this
     refine WO.con (zAO h7 v6 _ _ (fun n=> !Zr (T.getD n.toNat default)) (o6.sl.ext e7) (by simp;omega) ?_) ?_
     ·intro n hn h8 e8;exact WV.func (zQP h8 h p3 _ T n (o3.ext e8) (st7.ext e8) (hin n hn))
     rintro _ h8 ⟨rfl,e8⟩;refine go ?_;have hnot:(!([x.elem]++x.parts).any fun n=> !Zr (T.getD n.toNat default))=([x.elem]++x.parts).all fun n=>Zr (T.getD n.toNat default):=by
      rw[List.not_any_eq_all_not];simp
     refine WO.sp (fun hf=> ?_) (fun hf=> ?_)<;>refine go ?_<;>refine rt ?_<;>refine⟨?_,(e16.trans e7).trans e8⟩<;>rw[hnot]at hf<;>rw[List.singleton_append]at hf he<;>rw[zH8 hb3,hc,he,hf,QZ hd']<;>rfl
    ·refine rt ?_;refine⟨?_,e16.trans e7⟩;rw[List.singleton_append]at he;rw[zH8 hb3,hc,he,QZ hd'];rfl
   ·refine rt ?_;refine⟨?_,e16⟩;rw[zH8 hb3,hc,QT (show ¬x.parts.length<=4 by omega)];rfl
  ·refine rt ?_;refine⟨?_,e16⟩;rw[zH8 hb3,hc];rfl
 refine WX.br (fun hb4=> ?_) (fun hb4=> ?_)<;>simp only[DB]at hb4<;>refine go ?_
 ·refine WO.sp (fun hc=> ?_) (fun hc=> ?_)<;>refine go ?_
  ·refine WO.con (zCT h4 va _ _ sv4 hv) ?_;rintro _ h5 ⟨rfl,e5⟩;have sv5:=sv4.ext e5;have ss5:=ss4.ext e5;have o8:=o8.ext e5;refine go ?_;refine WX.br (fun hd=> ?_) (fun hd=> ?_)<;>simp only[DB]at hd<;>refine go ?_
   ·refine rt ?_;exact⟨by simp[one,ZQ,hb4,hc,hd],e14.trans e5⟩
   have hin:∀ n∈x.parts,0<=n/\n<(k:Int):=by
    intro n hn;have:=QY.1 hd n hn;simpa using this
   refine WX.loopA [78,79,80,14,81,82,83,84,85,86,87,12,88,77] (by kernel_rfl) (fun i=>x.parts.length - i) (fun i t h1=>Ext h5 h1/\zB t 77=I i/\i<=x.parts.length/\∃ v,zB t 12=v/\OwnN h5 h1 v ((x.parts.take i).map fun n=>sizes.getD n.toNat 0)) 0 ?_ ?_
   ·exact⟨Ext.refl _,sl_,QV _,_,sl_,.inl ⟨rfl,rfl⟩⟩
   ·rintro i t h6 hsame ⟨e6,s77,hi,v,s12,o12⟩;have sv6:=sv5.ext e6;have ss6:=ss5.ext e6;refine go ?_;refine WX.br (fun he=> ?_) (fun he=> ?_)<;>simp only[DB]at he
    ·have hi':i<x.parts.length:=by omega
     have hx2:=hin _ (yS hi');refine go ?_;refine WO.bl [sizes.getD (x.parts.getD i 0).toNat 0] ?_;intro v7 h7 e7 o7;refine go ?_;refine WO.apN (o12.ext e7) o7.sl (e6.trans e7) (by simp;omega) ?_;intro v8 h8 e8 o8;refine go ?_;refine zA (i+1) (by omega) ⟨e8,sln,by omega,_,sl_,?_⟩;have e:(x.parts.take (i+1)).map (fun n=>sizes.getD n.toNat 0)=(x.parts.take i).map (fun n=>sizes.getD n.toNat 0)++[sizes.getD (x.parts.getD i 0).toNat 0]:=by
      rw[GI,Gg];simp[List.getD,QB hi']
     rw[e];exact o8
    ·have:i=x.parts.length:=by omega
     subst this;rw[GN]at o12;have hall:∀ y∈x.parts.map (fun n=>sizes.getD n.toNat 0),0<=y/\y<=1000:=by
      intro y hy;obtain⟨n,hn,rfl⟩:=Q0.1 hy;have:=hin n hn;exact hb0 _ (yS (by omega))
     have o12:=o12.sl;refine go ?_;have hml:(x.parts.map fun n=>sizes.getD n.toNat 0).length=x.parts.length:=GK ..;have e36:=(e14.trans e5).trans e6;have hr:∀ {b1 b2:Bool},decide (0<x.parts.length)=b1->decide (x.parts.length<=8)=b2->Value.tuple #[I (ZQ T x k sizes).1,.bool (ZQ T x k sizes).2]=
       .tuple #[I (x.parts.map fun n=>sizes.getD n.toNat 0).sum,.bool (b1&&b2&&decide ((x.parts.map fun n=>sizes.getD n.toNat 0).sum<=32))]:=by
      intro b1 b2 h1 h2;rw[zS0 hb4,hc,hd,h1,h2];rfl
     clear hb0 hp hx hxT o3 o8 o84 st4 ss4 sv4 ss5 sv5 ss6 sv6 hsame;refine WO.sp (fun hf=> ?_) (fun hf=> ?_)<;>simp only[DB,GK]at hf<;>refine go ?_
     ·refine WO.con (zPm h6 v _ o12 (by simp;omega) hall) ?_;rintro _ _ ⟨rfl,rfl⟩;refine go ?_;refine WO.sp (fun hg=> ?_) (fun hg=> ?_)<;>simp only[DB,GK]at hg<;>refine go ?_
      ·refine rt ?_;refine⟨?_,e36⟩;rw[hr (QZ (by omega)) (QZ (by omega))];rfl
      ·refine rt ?_;refine⟨?_,e36⟩;rw[hr (QZ (by omega)) (QT (by omega))];rfl
     ·refine WO.con (zPm h6 v _ o12 (by simp;omega) hall) ?_;rintro _ _ ⟨rfl,rfl⟩;refine gr ?_;refine⟨?_,e36⟩;rw[hr (QT (by omega)) rfl];rfl
  ·refine rt ?_;exact⟨by simp[one,ZQ,hb4,hc],e14⟩
 refine WX.br (fun hb5=> ?_) (fun hb5=> ?_)<;>simp only[DB]at hb5<;>refine go ?_
 ·refine WO.sp (fun hc=> ?_) (fun hc=> ?_)<;>refine go ?_
  ·refine WO.bl [x.elem] ?_;intro v5 h5 e5 o5;have ss5:=ss4.ext e5;have o8:=o8.ext e5;refine go ?_;refine WO.con (zCT h5 v5 _ [x.elem] o5.sl (by simp)) ?_;rintro _ h6 ⟨rfl,e6⟩;have ss6:=ss5.ext e6;have o8:=o8.ext e6;have e36:=(e14.trans e5).trans e6;have hr:∀ {b1 b2 b3:Bool},yp k [x.elem]=b1->decide (1<=x.many)=b2->decide (x.many<=16)=b3->Value.tuple #[I (ZQ T x k sizes).1,.bool (ZQ T x k sizes).2]=
     (if b1&&b2&&b3 then .tuple #[I (x.many * sizes.getD x.elem.toNat 0),.bool (decide (x.many * sizes.getD x.elem.toNat 0<=32))] else .tuple #[I 0,.bool false]):=by
    intro b1 b2 b3 h1 h2 h3;rw[zOI hb5,hc,h1,h2,h3];cases b1<;>cases b2<;>cases b3<;>rfl
   have hin:yp k [x.elem]=true->0<=x.elem/\x.elem<(k:Int):=by
    intro hd;have:=QY.1 hd x.elem (by simp);simpa using this
   have hs0:∀ n:Int,0<=n/\n<(k:Int)->0<=sizes.getD n.toNat 0/\sizes.getD n.toNat 0<=1000:=fun n hn=>hb0 _ (yS (by omega));clear hb0 hp hx hxT o3 o84 st4 ss4 sv4 ss5 o5;refine go ?_;refine WO.sp (fun hd=> ?_) (fun hd=> ?_)<;>refine go ?_
   ·have hin:=hin hd;have hs:=hs0 _ hin;refine WO.sp (fun he=> ?_) (fun he=> ?_)<;>simp only[DB]at he<;>refine go ?_
    ·refine WX.br (fun hf=> ?_) (fun hf=> ?_)<;>simp only[DB]at hf<;>refine go ?_
     ·refine rt ?_;refine⟨?_,e36⟩;rw[hr hd (QZ he) (QT (by omega))];rfl
     ·have hm1:x.many * sizes.getD x.elem.toNat 0<=16 * 1000:=Int.mul_le_mul (by omega) hs.2 hs.1 (by omega);have hm0:0<=x.many * sizes.getD x.elem.toNat 0:=Int.mul_nonneg (by omega) hs.1;refine gr ?_;refine⟨?_,e36⟩;rw[hr hd (QZ he) (QZ (by omega))];rfl
    ·refine rt ?_;refine⟨?_,e36⟩;rw[hr hd (QT (by omega)) rfl];cases (decide (x.many<=16))<;>rfl
   ·refine rt ?_;refine⟨?_,e36⟩;rw[hr hd rfl rfl];rfl
  ·refine rt ?_;refine⟨?_,e14⟩;rw[zOI hb5,hc];rfl
 ·refine rt ?_;exact⟨by simp[one,ZQ,hb,hb2,hb3,hb4,hb5],e14⟩
set_option maxRecDepth 100000
theorem zPl {T:List LType} {x:LType} {k:Nat} {s:List Int} (hs:∀ y∈s,0<=y/\y<=1000) (hk:s.length=k) (h:(ZQ T x k s).2=true):0<=(ZQ T x k s).1/\(ZQ T x k s).1<=1000:=by
 unfold ZQ at h |-;by_cases h1:x.kind=1
 ·rw[QI h1];simp
 rw[QD h1]at h |-;by_cases h2:x.kind=2
 ·rw[QI h2];simp
 rw[QD h2]at h |-;by_cases h3:x.kind=3
 ·rw[QI h3];simp
 rw[QD h3]at h |-;by_cases h4:x.kind=4
 ·rw[QI h4]at h |-;cases hc:(yJ x&&yp k x.parts)with
  |false=>rw[hc]at h;simp at h
  |true=>
   rw[hc]at h;simp only[Qv]at h |-;simp only[QJ,Qb]at h hc;have hpos:∀ l:List Int,(∀ y∈l,0<=y)->0<=l.sum:=by
    intro l;induction l with
    |nil=>intro _;simp
    |cons a l ih=>intro hl;have:=ih fun y hy=>hl y (by simp[hy]);have:=hl a (by simp);simp;omega
   have:=hpos (x.parts.map fun n=>s.getD n.toNat 0) fun y hy=>by
    obtain⟨n,hn,rfl⟩:=Q0.1 hy;have:=QY.1 hc.2 n hn;simp at this;exact(hs _ (yS (by omega))).1
   omega
 rw[QD h4]at h |-;by_cases h5:x.kind=5
 ·rw[QI h5]at h |-;cases hc:(yJ x&&yp k [x.elem]&&decide (1<=x.many)&&decide (x.many<=16))with
  |false=>rw[hc]at h;simp at h
  |true=>
   rw[hc]at h;simp only[Qv]at h |-;simp only[QJ,Qb]at h hc;have hin:0<=x.elem/\x.elem<(k:Int):=by
    have:=QY.1 hc.1.1.2 x.elem (by simp);simpa using this
   have:=Int.mul_nonneg (a:=x.many) (b:=s.getD x.elem.toNat 0) (by omega) (hs _ (yS (by omega))).1;omega
 rw[QD h5];simp
theorem zFA {T:List LType}:∀ {k:Nat} {s:List Int},Zm T k=some s->s.length=k/\∀ y∈s,0<=y/\y<=1000
 |0,s,h=>by cases h;simp
 |k+1,s,h=>by
  unfold Zm at h;cases hk:Zm T k with
  |none=>rw[hk]at h;cases h
  |some s0=>
   rw[hk]at h;obtain⟨h1,h2⟩:=zFA hk;simp only at h;split at h
   ·cases h;rename_i hm;refine⟨by simp[h1],fun y hy=> ?_⟩;rcases Qf.1 hy with hy|hy
    ·exact h2 y hy
    ·simp at hy;subst hy;exact zPl h2 h1 hm
   ·cases h
theorem zDP {T:List LType}:∀ {k m:Nat},Zm T k=none->k<=m->Zm T m=none
 |k,0,h,hm=>by have:k=0:=by omega
               subst this;exact h
 |k,m+1,h,hm=>by
  by_cases e:k=m+1
  ·subst e;exact h
  ·unfold Zm;rw[zDP h (by omega)]
def zNg:ACode:=(oV (oR [oB .lss 13 12 11]) (oV (oT 13 0) (oV (o5 1 (oV (oR [oM 14 12,oM 4 14]) (oV (oR [oM 16 0,oM 17 4,oM 18 3,o3 19 98 16 17 18,oM 15 19,oE 20 15 0,oE 21 15 1,oM 5 20,oM 6 21]) (oV (oV (oR [oM 22 6,oW 23 22]) (oJ 23 (oV (oR [oN 2 30]) .ret) .skip)) (oR [oM 24 3,oM 25 5,⟨some 26,none,(.buildSlice 1 1 [(.int .i64 0)] [(0,1,(.tmp 25))])⟩,oY 1 27 24 26,oM 3 27]))))) (oR [oC .add 28 12 1,oM 12 28]))))
def zTL:ACode:=(oV (oR [oN 2 0]) (oV (oV (oR [oM 7 0,oQ 8 7,oC .gtr 9 8 16]) (oJ 9 (oV (oR [oN 2 4]) .ret) .skip)) (oV (oR [oK 3 (.slice none 0 0)]) (oV (oV (oR [oM 10 0,oQ 11 10,oN 12 0]) (o5 0 (.loop zNg))) (oV (oR [oN 2 0]) .ret)))))
theorem zPA (h:AHeap) (tv:Value) (T:List LType) (st:SlT h tv T) (hT:T.length<=100) (hp:∀ x∈T,x.parts.length<=100):
  WC Tryz.prog tb 62 [tv] h fun r h'=>r=I (ZR T)/\Ext h h':=by
 obtain⟨_,_,_,rfl⟩:=zM st;refine en 29 [(2,none)] zTL ?_;refine WX.br (fun hb=> ?_) (fun hb=> ?_)<;>simp only[DB]at hb<;>refine go ?_
 ·refine rt ?_;refine⟨?_,Ext.refl h⟩;unfold ZR;rw[QI (by omega)];rfl
 have hb':¬16<T.length:=by omega
 refine WX.loopA [13,14,4,16,17,18,19,15,20,21,5,6,22,23,2,24,25,26,27,3,28,12] (by kernel_rfl) (fun i=>T.length - i) (fun i t h1=>Ext h h1/\zB t 12=I i/\i<=T.length/\∃ v s,zB t 3=v/\Zm T i=some s/\OwnN h h1 v s) 0 ?_ ?_
 ·exact⟨Ext.refl _,sl_,QV _,_,[],sl_,rfl,.inl ⟨rfl,rfl⟩⟩
 rintro i t h1 hsame ⟨e1,s12,hi,v,s,s3,hs,o⟩;have st1:=st.ext e1;obtain⟨hl,hr⟩:=zFA hs;refine go ?_;refine WX.br (fun hc=> ?_) (fun hc=> ?_)<;>simp only[DB]at hc<;>refine go ?_
 ·have hi':i<T.length:=by omega
  refine WO.con (zUF h1 _ v T i s st1 o.sl hi' hT hp hl hr) ?_;rintro _ h2 ⟨rfl,e2⟩;have o2:=o.ext e2;refine go ?_;have hst:Zm T (i+1)=if (ZQ T (T.getD i default) i s).2 then some (s++[(ZQ T (T.getD i default) i s).1]) else none:=by
   conv=>lhs;unfold Zm
   rw[hs]
  refine WX.br (fun hd=> ?_) (fun hd=> ?_)<;>simp only[DB]at hd<;>refine go ?_
  ·refine rt ?_;refine⟨?_,e1.trans e2⟩;rw[hd,QD (by simp)]at hst;unfold ZR;rw[QD hb',zDP hst (by omega)];rfl
  ·refine WO.bl [(ZQ T (T.getD i default) i s).1] ?_;intro v3 h3 e3 o3;refine go ?_;refine WO.apN (o2.ext e3) o3.sl ((e1.trans e2).trans e3) (by simp;omega) ?_;intro v4 h4 e4 o4;refine go ?_;rw[hd,QI rfl]at hst;exact zA (i+1) (by omega) ⟨e4,sln,by omega,_,_,sl_,hst,o4⟩
 ·refine rt ?_;refine⟨?_,e1⟩;have:i=T.length:=by omega
  subst this;unfold ZR;rw[QD hb',hs];rfl
end
end Go.Proofs.YteekipjpghikkaaGreatDoor
