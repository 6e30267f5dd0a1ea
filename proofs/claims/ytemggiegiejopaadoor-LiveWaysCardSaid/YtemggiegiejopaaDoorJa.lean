/- What functions of the program come to in the abstract machine, and plain laws about it; no statement of the seat is proved in this text. -/
import Derived.Test.YtemggiegiejopaaDoorAmU
import Derived.Test.YtemggiegiejopaaDoorRows
namespace Go.Proofs.YtemggiegiejopaaDoor
open Go.Am
set_option linter.unusedVariables false
set_option linter.unusedSimpArgs false
def hasT:List (Bool×Bool×Bool×Bool×Bool×Bool):=
 let f:=false;let t:=true
 [(f,f,f,f,f,f),(f,f,t,f,f,t),(f,f,f,f,f,t),(f,f,t,f,f,t),(t,t,f,f,f,t),(t,t,f,f,f,t),(t,t,f,f,f,t),(t,t,f,f,f,t),(t,t,f,f,f,t),(t,t,f,f,f,t),(t,t,f,f,f,t),(f,f,f,f,f,t),(f,f,f,f,f,t),(t,f,f,f,f,f),(t,f,t,f,f,t),(t,t,f,f,f,t),(t,f,f,f,f,t),(t,t,f,f,f,f),(f,f,t,t,f,t),(t,f,f,t,f,t),(f,f,f,f,f,t),(t,f,f,f,f,f),(f,f,f,t,t,t)]
def z9 (op:Int):Bool×Bool×Bool×Bool×Bool×Bool:=hasT.getD op.toNat (false,false,false,false,false,false)
def Zt (x:Bool×Bool×Bool×Bool×Bool×Bool):List Value:=[.bool x.1,.bool x.2.1,.bool x.2.2.1,.bool x.2.2.2.1,.bool x.2.2.2.2.1,.bool x.2.2.2.2.2]
def Zc:List Value:=(hasT.map Zt).flatten
structure LType where
 kind:Int
 elem:Int
 many:Int
 parts:List Int
instance:Inhabited LType:=⟨⟨0,0,0,[]⟩⟩
def RTy (h:AHeap) (cs:List Value) (x:LType):Prop:=∃ va,cs=[.int .u8 x.kind,I x.elem,I x.many,va]∧SlI h va x.parts∧(x.parts.length:Int)≤9223372036854775807
theorem RTy.ext {h h' cs x} (r:RTy h cs x) (e:Ext h h'):RTy h' cs x:=let ⟨va,a,b,c⟩:=r;⟨va,a,b.ext e,c⟩
abbrev SlT (h:AHeap) (v:Value) (T:List LType):Prop:=SlR 4 RTy h v T
theorem SlT.ext {h h' v T} (s:SlT h v T) (e:Ext h h'):SlT h' v T:=SlR.ext (fun _ _ r=>RTy.ext r e) s e
theorem ty_one {h:AHeap} {v:Value} {l:List Int} (s:SlI h v l) (k:IntKind) (a b n:Int):zR [.int k n,I a,I b,v]=true:=by
 obtain⟨_,_,_,rfl⟩:=SlC.shape s;rfl
def Yk (x:LType):Bool:=decide (1≤x.kind)&&decide (x.kind≤3)
def Zk (m:Int) (l:List Int):Bool:=l.all fun n=>decide (0≤n)&&decide (n<m)
def YC (x:LType):Bool:=
 (if x.kind=1∨x.kind=4 then decide (x.elem=0) else true)&&(if x.kind=1∨x.kind=2∨x.kind=3∨x.kind=4 then decide (x.many=0) else true)&&
  (if x.kind=1∨x.kind=2∨x.kind=5 then decide (x.parts.length=0) else true)
def Zi (T:List LType) (x:LType) (k:Nat) (sizes:List Int):Int×Bool:=
 if x.kind=1 then (1,YC x)
 else if x.kind=2 then (1,YC x&&Zk T.length [x.elem])
 else if x.kind=3 then (1,YC x&&decide (x.parts.length≤4)&&Zk T.length (x.elem::x.parts)&&(x.elem::x.parts).all fun n=>Yk (T.getD n.toNat default))
 else if x.kind=4 then (if YC x&&Zk k x.parts then ((x.parts.map fun n=>sizes.getD n.toNat 0).sum,decide (0<x.parts.length)&&decide (x.parts.length≤8)&&decide ((x.parts.map fun n=>sizes.getD n.toNat 0).sum≤32)) else (0,false))
 else if x.kind=5 then (if YC x&&Zk k [x.elem]&&decide (1≤x.many)&&decide (x.many≤16) then (x.many * sizes.getD x.elem.toNat 0,decide (x.many * sizes.getD x.elem.toNat 0≤32)) else (0,false))
 else (1,false)
theorem mayL3 {T:List LType} {x:LType} {k:Nat} {s:List Int} (h:x.kind=3):Zi T x k s=(1,YC x&&decide (x.parts.length≤4)&&Zk T.length (x.elem::x.parts)&&(x.elem::x.parts).all fun n=>Yk (T.getD n.toNat default)):=by
 unfold Zi;rw[if_neg (by omega),if_neg (by omega),if_pos h]
theorem mayL4 {T:List LType} {x:LType} {k:Nat} {s:List Int} (h:x.kind=4):Zi T x k s=(if YC x&&Zk k x.parts then ((x.parts.map fun n=>s.getD n.toNat 0).sum,decide (0<x.parts.length)&&decide (x.parts.length≤8)&&decide ((x.parts.map fun n=>s.getD n.toNat 0).sum≤32)) else (0,false)):=by
 unfold Zi;rw[if_neg (by omega),if_neg (by omega),if_neg (by omega),if_pos h]
theorem mayL5 {T:List LType} {x:LType} {k:Nat} {s:List Int} (h:x.kind=5):Zi T x k s=(if YC x&&Zk k [x.elem]&&decide (1≤x.many)&&decide (x.many≤16) then (x.many * s.getD x.elem.toNat 0,decide (x.many * s.getD x.elem.toNat 0≤32)) else (0,false)):=by
 unfold Zi;rw[if_neg (by omega),if_neg (by omega),if_neg (by omega),if_neg (by omega),if_pos h]
def YX (T:List LType):Nat→Option (List Int)
 |0=>some []
 |k+1=>match YX T k with
  |none=>none
  |some s=>if (Zi T (T.getD k default) k s).2 then some (s++[(Zi T (T.getD k default) k s).1]) else none
def zBO (T:List LType):Int:=if 16<T.length then 4 else match YX T T.length with
 |some _=>0
 |none=>30
end Go.Proofs.YtemggiegiejopaaDoor
namespace Go.Proofs.YtemggiegiejopaaDoor
open Go.Am
set_option linter.unusedVariables false
set_option linter.unusedSimpArgs false
structure LWd where
 pos:Int
 bits:Nat
 deriving DecidableEq
instance:Inhabited LWd:=⟨⟨0,0⟩⟩
structure OkW (s:List LWd):Prop where
 rise:s.Pairwise (fun a b=>a.pos<b.pos)
 each:∀ w∈s,0≤w.pos∧w.pos<16384∧w.bits≠0∧w.bits<18446744073709551616
def InW (s:List LWd) (n:Int):Prop:=∃ w∈s,w.pos=n / 64∧w.bits.testBit (n % 64).toNat=true
def Y0 (b:Nat):List Nat:=(List.range 64).filter b.testBit
def zp (s:List LWd):List Int:=s.flatMap fun w=>(Y0 w.bits).map fun k:Nat=>64 * w.pos+(k:Int)
theorem OkW.nil:OkW []:=⟨.nil,fun w h=>by cases h⟩
theorem OkW.tail {w:LWd} {s:List LWd} (h:OkW (w::s)):OkW s:=⟨(List.pairwise_cons.1 h.rise).2,fun x hx=>h.each x (List.mem_cons_of_mem _ hx)⟩
theorem Zx {b:Nat} (h:b<18446744073709551616) {k:Nat} (hk:b.testBit k=true):k<64:=by
 by_cases h2:k<64
 ·exact h2
 ·have h3:2 ^ 64≤2 ^ k:=Nat.pow_le_pow_right (by decide) (Nat.le_of_not_lt h2)
  have:b.testBit k=false:=Nat.testBit_lt_two_pow (Nat.lt_of_lt_of_le h h3)
  rw[this]at hk;cases hk
theorem zCz {b:Nat} (h:b≠0):∃ k,b.testBit k=true:=by
 by_cases h2:∃ k,b.testBit k=true
 ·exact h2
 ·exact absurd (Nat.eq_of_testBit_eq fun i=>by
   rw[Nat.zero_testBit]
   cases hb:b.testBit i with
   |false=>rfl
   |true=>exact absurd ⟨i,hb⟩ h2) h
theorem Ze {b k:Nat}:k∈Y0 b↔k<64∧b.testBit k=true:=by
 unfold Y0;rw[List.mem_filter,List.mem_range]
theorem Zj {s:List LWd} (h:OkW s) {n:Int}:n∈zp s↔InW s n:=by
 unfold zp InW
 rw[List.mem_flatMap]
 constructor
 ·rintro⟨w,hw,hn⟩
  obtain⟨k,hk,rfl⟩:=List.mem_map.1 hn
  obtain⟨k1,k2⟩:=Ze.1 hk
  refine⟨w,hw,by omega,?_⟩
  rw[show ((64 * w.pos+(k:Int)) % 64).toNat=k by omega];exact k2
 ·rintro⟨w,hw,e,hb⟩
  refine⟨w,hw,List.mem_map.2 ⟨(n % 64).toNat,Ze.2 ⟨by omega,hb⟩,by omega⟩⟩
theorem zBQ (b:Nat):(Y0 b).Pairwise (·<·):=List.Pairwise.filter _ List.pairwise_lt_range
theorem zAO {s:List LWd} (h:OkW s):(zp s).Pairwise (·<·):=by
 unfold zp
 rw[List.pairwise_flatMap]
 refine⟨fun w hw=> ?_,?_⟩
 ·rw[List.pairwise_map]
  exact(zBQ w.bits).imp fun h=>by omega
 ·refine h.rise.imp fun {a b} hab x hx y hy=> ?_
  obtain⟨k,hk,rfl⟩:=List.mem_map.1 hx
  obtain⟨j,hj,rfl⟩:=List.mem_map.1 hy
  have:=(Ze.1 hk).1
  omega
theorem InW.range {s:List LWd} (h:OkW s) {n:Int} (k:InW s n):0≤n∧n<1048576:=by
 obtain⟨w,hw,e,_⟩:=k
 have:=h.each w hw
 omega
theorem zBy {w:LWd} {s:List LWd} {n:Int}:InW (w::s) n↔(w.pos=n / 64∧w.bits.testBit (n % 64).toNat=true)∨InW s n:=by
 unfold InW;simp
theorem zGk {w:LWd} {s:List LWd} (h:OkW (w::s)) {n:Int}:InW s n↔InW (w::s) n∧w.pos≠n / 64:=by
 rw[zBy]
 constructor
 ·rintro⟨x,hx,e,hb⟩
  have:=(List.pairwise_cons.1 h.rise).1 x hx
  exact⟨.inr ⟨x,hx,e,hb⟩,by omega⟩
 ·rintro⟨⟨e,_⟩|k,hne⟩
  ·exact absurd e hne
  ·exact k
theorem InW.le {w:LWd} {s:List LWd} (h:OkW (w::s)) {n:Int} (k:InW (w::s) n):w.pos≤n / 64:=by
 rcases zBy.1 k with ⟨e,_⟩|⟨x,hx,e,_⟩
 ·omega
 ·have:=(List.pairwise_cons.1 h.rise).1 x hx;omega
theorem zBw {w:LWd} {s:List LWd} (h:OkW (w::s)):∃ n,InW (w::s) n∧n / 64=w.pos:=by
 obtain⟨a,b,c,d⟩:=h.each w (List.mem_cons_self ..)
 obtain⟨k,hk⟩:=zCz c
 have hk2:=Zx d hk
 refine⟨64 * w.pos+k,zBy.2 (.inl ⟨by omega,?_⟩),by omega⟩
 rw[show ((64 * w.pos+(k:Int)) % 64).toNat=k by omega];exact hk
theorem inW_at {w:LWd} {s:List LWd} (h:OkW (w::s)) (k:Nat) (hk:k<64):InW (w::s) (64 * w.pos+k)↔w.bits.testBit k=true:=by
 rw[zBy]
 constructor
 ·rintro(⟨_,hb⟩|⟨x,hx,e,_⟩)
  ·rwa [show ((64 * w.pos+(k:Int)) % 64).toNat=k by omega]at hb
  ·have:=(List.pairwise_cons.1 h.rise).1 x hx;omega
 ·intro hb
  refine .inl ⟨by omega,?_⟩
  rw[show ((64 * w.pos+(k:Int)) % 64).toNat=k by omega];exact hb
theorem zFQ:∀ {s t:List LWd},OkW s→OkW t→(∀ n,InW s n↔InW t n)→s=t
 |[],[],_,_,_=>rfl
 |[],u::t,_,ht,e=>by
  obtain⟨n,hn,_⟩:=zBw ht
  obtain⟨_,h,_⟩:=(e n).2 hn;cases h
 |w::s,[],hs,_,e=>by
  obtain⟨n,hn,_⟩:=zBw hs
  obtain⟨_,h,_⟩:=(e n).1 hn;cases h
 |w::s,u::t,hs,ht,e=>by
  have hp:w.pos=u.pos:=by
   obtain⟨n,hn,en⟩:=zBw hs
   obtain⟨m,hm,em⟩:=zBw ht
   have h1:=((e n).1 hn).le ht
   have h2:=((e m).2 hm).le hs
   omega
  have hb:w.bits=u.bits:=by
   refine Nat.eq_of_testBit_eq fun k=> ?_
   by_cases hk:k<64
   ·have h1:=inW_at hs k hk
    have h2:=inW_at ht k hk
    rw[←hp]at h2
    have h3:=h1.symm.trans ((e _).trans h2)
    cases h4:u.bits.testBit k with
    |true=>exact h3.2 h4
    |false=>
     cases h5:w.bits.testBit k with
     |false=>rfl
     |true=>rw[h3.1 h5]at h4;cases h4
   ·have h1:=(hs.each w (List.mem_cons_self ..)).2.2.2
    have h2:=(ht.each u (List.mem_cons_self ..)).2.2.2
    cases h4:u.bits.testBit k with
    |true=>exact absurd (Zx h2 h4) hk
    |false=>
     cases h5:w.bits.testBit k with
     |false=>rfl
     |true=>exact absurd (Zx h1 h5) hk
  have hw:w=u:=by cases w;cases u;cases hp;cases hb;rfl
  have hst:s=t:=zFQ hs.tail ht.tail fun n=>by rw[zGk hs,zGk ht,e n,hp]
  rw[hw,hst]
structure Is (t:List LWd) (p:Int→Prop):Prop where
 ok:OkW t
 mem:∀ n,InW t n↔p n
theorem Is.eq {s t:List LWd} {p q:Int→Prop} (h:Is s p) (k:Is t q) (e:∀ n,p n↔q n):s=t:=zFQ h.ok k.ok fun n=>(h.mem n).trans ((e n).trans (k.mem n).symm)
end Go.Proofs.YtemggiegiejopaaDoor
namespace Go.Proofs.YtemggiegiejopaaDoor
open Go.Am
set_option linter.unusedVariables false
set_option linter.unusedSimpArgs false
abbrev W (n:Nat):Value:= .int .u64 (n:Int)
theorem YN (a:Nat):BitVec.ofInt 64 (a:Int)=BitVec.ofNat 64 a:=by
 apply BitVec.eq_of_toNat_eq;simp
theorem b64:IntKind.bits .u64=64:=rfl
theorem u_and {a b:Nat} (ha:a<18446744073709551616) (hb:b<18446744073709551616):zi .and (W a) (W b)=some (W (a&&& b)):=by
 have h:a&&& b<18446744073709551616:=Nat.lt_of_le_of_lt Nat.and_le_left ha
 have e:(BitVec.ofInt 64 (a:Int)&&& BitVec.ofInt 64 (b:Int)).toNat=a&&& b:=by
  rw[YN,YN,BitVec.toNat_and,BitVec.toNat_ofNat,BitVec.toNat_ofNat,Nat.mod_eq_of_lt (show a<2 ^ 64 from ha),Nat.mod_eq_of_lt (show b<2 ^ 64 from hb)]
 simp only[zi,if_true]
 rw[show ((BitVec.ofInt (IntKind.bits .u64) (a:Int)&&& BitVec.ofInt (IntKind.bits .u64) (b:Int)).toNat)=a&&& b from e,Zv (by omega) (by omega)]
theorem u_or {a b:Nat} (ha:a<18446744073709551616) (hb:b<18446744073709551616):zi .or (W a) (W b)=some (W (a|||b))∧a|||b<18446744073709551616:=by
 have h:a|||b<18446744073709551616:=Nat.or_lt_two_pow (n:=64) ha hb
 refine⟨?_,h⟩
 have e:(BitVec.ofInt 64 (a:Int)|||BitVec.ofInt 64 (b:Int)).toNat=a|||b:=by
  rw[YN,YN,BitVec.toNat_or,BitVec.toNat_ofNat,BitVec.toNat_ofNat,Nat.mod_eq_of_lt (show a<2 ^ 64 from ha),Nat.mod_eq_of_lt (show b<2 ^ 64 from hb)]
 simp only[zi,if_true]
 rw[show ((BitVec.ofInt (IntKind.bits .u64) (a:Int)|||BitVec.ofInt (IntKind.bits .u64) (b:Int)).toNat)=a|||b from e,Zv (by omega) (by omega)]
def zCO (a b:Nat):Nat:=(BitVec.ofNat 64 a&&& ~~~BitVec.ofNat 64 b).toNat
theorem u_notN {a b:Nat} (ha:a<18446744073709551616) (hb:b<18446744073709551616):zi .andNot (W a) (W b)=some (W (zCO a b))∧zCO a b<18446744073709551616∧∀ i,(zCO a b).testBit i=(a.testBit i&& !b.testBit i):=by
 have h:zCO a b<18446744073709551616:=(BitVec.ofNat 64 a&&& ~~~BitVec.ofNat 64 b).isLt
 refine⟨?_,h,fun i=> ?_⟩
 ·have e:(BitVec.ofInt 64 (a:Int)&&& ~~~BitVec.ofInt 64 (b:Int)).toNat=zCO a b:=by rw[YN,YN];rfl
  simp only[zi,if_true]
  rw[show ((BitVec.ofInt (IntKind.bits .u64) (a:Int)&&& ~~~BitVec.ofInt (IntKind.bits .u64) (b:Int)).toNat)=zCO a b from e,Zv (by omega) (by omega)]
 ·unfold zCO
  rw[BitVec.testBit_toNat,BitVec.getLsbD_and,BitVec.getLsbD_not,BitVec.getLsbD_ofNat,BitVec.getLsbD_ofNat]
  by_cases hi:i<64
  ·simp[hi]
  ·have:a.testBit i=false:=by
    cases h:a.testBit i with
    |false=>rfl
    |true=>exact absurd (Zx ha h) hi
   simp[hi,this]
theorem u_shrW {a:Nat} {k:Nat} (hk:k<64):zi .shr (W a) (W k)=some (W (a / 2 ^ k)):=by
 simp only[zi]
 rw[if_neg (by omega),Int.toNat_natCast,show min k (IntKind.bits .u64)=k from Nat.min_eq_left (by rw[b64];omega),Int.fdiv_eq_ediv_of_nonneg _ (by exact Int.le_of_lt (Int.pow_pos (by decide)))]
 congr 2
theorem zCZ {k:Nat} (hk:k<64):zi .shl (W 1) (I k)=some (W (2 ^ k))∧2 ^ k<18446744073709551616:=by
 have h:2 ^ k<2 ^ 64:=Nat.pow_lt_pow_right (by decide) hk
 refine⟨?_,h⟩
 have h2:((2 ^ k:Nat):Int)<18446744073709551616:=by
  have h4:2 ^ k<18446744073709551616:=h
  generalize 2 ^ k=z at h4 ⊢
  omega
 have h3:(0:Int)≤((2 ^ k:Nat):Int):=Int.natCast_nonneg _
 simp only[zi]
 rw[if_neg (by omega),Int.toNat_natCast,show min k (IntKind.bits .u64)=k from Nat.min_eq_left (by rw[b64];omega),show ((1:Nat):Int) * 2 ^ k=((2 ^ k:Nat):Int) by rw[Int.natCast_pow];exact Int.one_mul _,Zv h3 h2]
theorem u_sub {a b:Nat} (ha:a<18446744073709551616) (h:b≤a):zi .sub (W a) (W b)=some (W (a - b)):=by
 simp only[zi,if_true];rw[Zv (by omega) (by omega)]
 congr 2;omega
theorem zH7 (n:Int):IntKind.wrap .u64 n=n % 18446744073709551616:=rfl
theorem u_mul (a b:Nat):zi .mul (W a) (W b)=some (W (a * b % 18446744073709551616)):=by
 simp only[zi,if_true];rw[zH7];congr 2
theorem u_neg {a:Nat} (h:a≠0) (ha:a<18446744073709551616):unV .neg (W a)=some (W (18446744073709551616 - a)):=by
 simp only[unV];rw[zH7];congr 2;omega
theorem zGd:∀ {xs ys:List Nat},xs.Pairwise (·<·)→ys.Pairwise (·<·)→(∀ n,n∈xs↔n∈ys)→xs=ys
 |[],[],_,_,_=>rfl
 |[],y::ys,_,_,h=>absurd ((h y).2 (List.mem_cons_self ..)) (by simp)
 |x::xs,[],_,_,h=>absurd ((h x).1 (List.mem_cons_self ..)) (by simp)
 |x::xs,y::ys,hx,hy,h=>by
  obtain⟨x1,x2⟩:=List.pairwise_cons.1 hx
  obtain⟨y1,y2⟩:=List.pairwise_cons.1 hy
  have e:x=y:=by
   rcases List.mem_cons.1 ((h x).1 (List.mem_cons_self ..))with e|e
   ·exact e
   ·rcases List.mem_cons.1 ((h y).2 (List.mem_cons_self ..))with e2|e2
    ·exact e2.symm
    ·have:=y1 _ e;have:=x1 _ e2;omega
  subst e
  rw[zGd x2 y2 fun n=> ?_]
  have:=h n
  constructor
  ·intro hn
   have hlt:=x1 n hn
   rcases List.mem_cons.1 (this.1 (List.mem_cons_of_mem _ hn))with e|e
   ·omega
   ·exact e
  ·intro hn
   have hlt:=y1 n hn
   rcases List.mem_cons.1 (this.2 (List.mem_cons_of_mem _ hn))with e|e
   ·omega
   ·exact e
theorem zJF (b:Nat):b≠0→∃ k m,b=2 ^ (k+1) * m+2 ^ k:=by
 induction b using Nat.strongRecOn with
 |ind b ih=>
  intro h
  by_cases h2:b % 2=1
  ·exact⟨0,b / 2,by simp;omega⟩
  ·obtain⟨k,m,e⟩:=ih (b / 2) (by omega) (by omega)
   refine⟨k+1,m,?_⟩
   have e1:2 ^ (k+1+1) * m=2 ^ (k+1) * m * 2:=by rw[Nat.pow_succ 2 (k+1),Nat.mul_right_comm]
   have e2:2 ^ (k+1)=2 ^ k * 2:=Nat.pow_succ ..
   rw[e1]
   generalize 2 ^ (k+1) * m=z at *
   generalize 2 ^ k=y at *
   omega
structure Low (b k:Nat):Prop where
 lt:k<64
 list:Y0 b=k::Y0 (b&&& (b - 1))
 one:b&&& (18446744073709551616 - b)=2 ^ k
 less:b&&& (b - 1)<b
theorem low {b:Nat} (h:b≠0) (hb:b<18446744073709551616):∃ k,Low b k:=by
 obtain⟨k,m,e⟩:=zJF b h
 have hpos:0<2 ^ k:=Nat.pow_pos (by decide)
 have hs:2 ^ (k+1)=2 ^ k * 2:=Nat.pow_succ ..
 have e1:b - 1=2 ^ (k+1) * m+(2 ^ k - 1):=by
  generalize 2 ^ (k+1) * m=z at *;omega
 have tb:∀ i,b.testBit i=if i<k+1 then decide (k=i) else m.testBit (i - (k+1)):=fun i=>by
  rw[e,Nat.testBit_two_pow_mul_add _ (by omega),Nat.testBit_two_pow]
 have tb1:∀ i,(b - 1).testBit i=if i<k+1 then decide (i<k) else m.testBit (i - (k+1)):=fun i=>by
  rw[e1,Nat.testBit_two_pow_mul_add _ (by omega),Nat.testBit_two_pow_sub_one]
 have hk:b.testBit k=true:=by rw[tb,if_pos (by omega)];simp
 have tand:∀ i,(b&&& (b - 1)).testBit i=(b.testBit i&& !decide (i=k)):=fun i=>by
  rw[Nat.testBit_and,tb,tb1]
  by_cases h1:i<k+1
  ·rw[if_pos h1,if_pos h1]
   by_cases h2:k=i
   ·subst h2;simp
   ·simp[h2]
  ·rw[if_neg h1,if_neg h1,show decide (i=k)=false from decide_eq_false (by omega)];simp
 refine⟨k,Zx hb hk,zGd (zBQ b) (List.pairwise_cons.2 ⟨fun i hi=> ?_,zBQ _⟩) fun i=> ?_,?_,?_⟩
 ·have:=(Ze.1 hi).2
  rw[tand,tb]at this
  by_cases h1:i<k+1
  ·rw[if_pos h1]at this;simp at this;omega
  ·omega
 ·rw[List.mem_cons,Ze,Ze,tand]
  by_cases h1:i=k
  ·subst h1;simp[hk,Zx hb hk]
  ·simp[h1]
 ·refine Nat.eq_of_testBit_eq fun i=> ?_
  rw[Nat.testBit_and,show 18446744073709551616 - b=2 ^ 64 - ((b - 1)+1) by omega,Nat.testBit_two_pow_sub_succ (by omega),Nat.testBit_two_pow,tb,tb1]
  by_cases h1:i<k+1
  ·rw[if_pos h1,if_pos h1]
   by_cases h2:k=i
   ·subst h2;simp[Zx hb hk]
   ·simp[h2]
  ·rw[if_neg h1,if_neg h1,show decide (k=i)=false from decide_eq_false (by omega)]
   cases m.testBit (i - (k+1))<;>simp
 ·exact Nat.lt_of_le_of_lt Nat.and_le_right (by omega)
theorem zHh:Y0 0=[]:=by unfold Y0;simp
end Go.Proofs.YtemggiegiejopaaDoor
namespace Go.Proofs.YtemggiegiejopaaDoor
open Go.Am
set_option linter.unusedVariables false
set_option linter.unusedSimpArgs false
def tz64:List Nat:=[0,1,56,2,57,49,28,3,61,58,42,50,38,29,17,4,62,47,59,36,45,43,51,22,53,39,33,30,24,18,12,5,63,55,48,27,60,41,37,16,46,35,44,21,52,32,23,11,54,26,40,15,34,20,31,10,25,14,19,9,13,8,7,6]
def tzV:List Value:=tz64.map fun n:Nat=> .int .u8 (n:Int)
theorem tz_all:∀ k,k<64→(2 ^ k * 285870213051353865 % 18446744073709551616 / 288230376151711744<64∧tz64.getD (2 ^ k * 285870213051353865 % 18446744073709551616 / 288230376151711744) 0=k):=by decide+kernel
theorem tzV_at {j k:Nat} (t1:j<64) (t2:tz64.getD j 0=k):tzV[j]?=some (.int .u8 (k:Int)):=by
 unfold tzV
 have hl:j<tz64.length:=t1
 rw[List.getElem?_map,List.getElem?_eq_getElem hl]
 rw[List.getD_eq_getElem?_getD,List.getElem?_eq_getElem hl]at t2
 rw[Option.map_some];simp only[Option.getD_some]at t2;rw[t2]
theorem tz_steps {k:Nat} (h:k<64):∃ m j:Nat,zi .mul (W (2 ^ k)) (W 285870213051353865)=some (W m)∧zi .shr (W m) (W 58)=some (W j)∧j<64∧tz64.getD j 0=k:=
 ⟨_,_,u_mul (2 ^ k) 285870213051353865,u_shrW (k:=58) (by decide),tz_all k h⟩
def s1 (b:Nat):Nat:=(b / 2&&& 85)+(b&&& 85)
def s2 (b:Nat):Nat:=(b / 4&&& 51)+(b&&& 51)
end Go.Proofs.YtemggiegiejopaaDoor
namespace Go.Proofs.YtemggiegiejopaaDoor
open Go.Am
set_option linter.unusedVariables false
set_option linter.unusedSimpArgs false
def BdW (s:List LWd):Prop:=∀ w∈s,w.bits<18446744073709551616
theorem OkW.bd {s:List LWd} (h:OkW s):BdW s:=fun w hw=>(h.each w hw).2.2.2
theorem BdW.tail {w:LWd} {s:List LWd} (h:BdW (w::s)):BdW s:=fun x hx=>h x (List.mem_cons_of_mem _ hx)
def z8:Int→List LWd→Bool
 |_,[]=>true
 |last,w::s=>decide (last<w.pos)&&decide (w.pos<16384)&&decide (w.bits≠0)&&z8 w.pos s
theorem zBK:∀ {s:List LWd} {last:Int},-1≤last→BdW s→(z8 last s=true↔OkW s∧∀ w∈s,last<w.pos)
 |[],last,_,_=>by simp[z8,OkW.nil]
 |w::s,last,hl,hb=>by
  unfold z8
  rw[Bool.and_eq_true,Bool.and_eq_true,Bool.and_eq_true,decide_eq_true_iff,decide_eq_true_iff,decide_eq_true_iff]
  constructor
  ·rintro⟨⟨⟨h1,h2⟩,h3⟩,h4⟩
   obtain⟨h5,h6⟩:=(zBK (by omega) hb.tail).1 h4
   refine⟨⟨List.pairwise_cons.2 ⟨h6,h5.rise⟩,fun x hx=> ?_⟩,fun x hx=> ?_⟩
   ·rcases List.mem_cons.1 hx with rfl|hx
    ·exact⟨by omega,h2,h3,hb _ (List.mem_cons_self ..)⟩
    ·exact h5.each x hx
   ·rcases List.mem_cons.1 hx with rfl|hx
    ·exact h1
    ·have:=h6 x hx;omega
  ·rintro⟨h1,h2⟩
   obtain⟨a,b,c,_⟩:=h1.each w (List.mem_cons_self ..)
   exact⟨⟨⟨h2 w (List.mem_cons_self ..),b⟩,c⟩,(zBK (by omega) hb.tail).2 ⟨h1.tail,(List.pairwise_cons.1 h1.rise).1⟩⟩
theorem zIN {s:List LWd} (hb:BdW s):z8 (-1) s=true↔OkW s:=by
 rw[zBK (by decide) hb]
 exact⟨fun h=>h.1,fun h=>⟨h,fun w hw=>by have:=(h.each w hw).1;omega⟩⟩
def inB (s:List LWd) (n:Int):Bool:=s.any fun w=>decide (w.pos=n / 64)&&w.bits.testBit (n % 64).toNat
theorem Zy {s:List LWd} {n:Int}:inB s n=true↔InW s n:=by
 unfold inB InW
 rw[List.any_eq_true]
 simp only[Bool.and_eq_true,decide_eq_true_iff]
theorem zEQ {s:List LWd} {n:Int} (h:¬InW s n):inB s n=false:=by
 cases hb:inB s n with
 |false=>rfl
 |true=>exact absurd (Zy.1 hb) h
theorem YZ (w:LWd) (s:List LWd) (n:Int):inB (w::s) n=(decide (w.pos=n / 64)&&w.bits.testBit (n % 64).toNat||inB s n):=by
 unfold inB;rw[List.any_cons]
theorem Yi {s:List LWd} {n:Int} (h:∀ w∈s,n / 64<w.pos):inB s n=false:=zEQ fun ⟨w,hw,e,_⟩=>by have:=h w hw;omega
def zAK (p:Int) (v:Nat) (s:List LWd):List LWd:=if v=0 then s else ⟨p,v⟩::s
theorem zBV {p:Int} {v:Nat} {s:List LWd} (h:OkW s) (hp:0≤p∧p<16384) (hv:v<18446744073709551616) (hs:∀ w∈s,p<w.pos):OkW (zAK p v s):=by
 unfold zAK
 split
 ·exact h
 ·rename_i hne
  refine⟨List.pairwise_cons.2 ⟨hs,h.rise⟩,fun x hx=> ?_⟩
  rcases List.mem_cons.1 hx with rfl|hx
  ·exact⟨hp.1,hp.2,hne,hv⟩
  ·exact h.each x hx
theorem zBp (p:Int) (v:Nat) (s:List LWd) (n:Int):inB (zAK p v s) n=(decide (p=n / 64)&&v.testBit (n % 64).toNat||inB s n):=by
 unfold zAK
 split
 ·rename_i h;subst h;simp
 ·rw[YZ]
theorem zAX {p:Int} {v:Nat} {s:List LWd} {x:LWd} (h:x∈zAK p v s):x.pos=p∨x∈s:=by
 unfold zAK at h
 split at h
 ·exact .inr h
 ·rcases List.mem_cons.1 h with rfl|h
  ·exact .inl rfl
  ·exact .inr h
def zj (f:Nat→Nat→Nat):List LWd→List LWd→List LWd
 |[],[]=>[]
 |x::a,[]=>zAK x.pos (f x.bits 0) (zj f a [])
 |[],y::b=>zAK y.pos (f 0 y.bits) (zj f [] b)
 |x::a,y::b=>if x.pos<y.pos then zAK x.pos (f x.bits 0) (zj f a (y::b)) else if y.pos<x.pos then zAK y.pos (f 0 y.bits) (zj f (x::a) b) else zAK x.pos (f x.bits y.bits) (zj f a b)
 termination_by a b=>a.length+b.length
structure Bitw (f:Nat→Nat→Nat) (g:Bool→Bool→Bool):Prop where
 nil:g false false=false
 bit:∀ a b,a<18446744073709551616→b<18446744073709551616→f a b<18446744073709551616∧∀ i,(f a b).testBit i=g (a.testBit i) (b.testBit i)
theorem yX {x:LWd} {a:List LWd} (h:OkW (x::a)):∀ w∈a,x.pos<w.pos:=(List.pairwise_cons.1 h.rise).1
theorem Zn {f:Nat→Nat→Nat} {g:Bool→Bool→Bool} (hf:Bitw f g):∀ {a b:List LWd},OkW a→OkW b→(OkW (zj f a b)∧(∀ n,inB (zj f a b) n=g (inB a n) (inB b n))∧∀ p,(∀ w∈a,p<w.pos)→(∀ w∈b,p<w.pos)→∀ w∈zj f a b,p<w.pos)
 |[],[],_,_=>by
  unfold zj
  exact⟨OkW.nil,fun n=>by show false=g false false;rw[hf.nil],fun p _ _ w hw=>by cases hw⟩
 |x::a,[],ha,hb=>by
  obtain⟨i1,i2,i3⟩:=Zn hf ha.tail hb
  obtain⟨x1,x2,x3,x4⟩:=ha.each x (List.mem_cons_self ..)
  obtain⟨f1,f2⟩:=hf.bit x.bits 0 x4 (by decide)
  unfold zj
  refine⟨zBV i1 ⟨x1,x2⟩ f1 (i3 _ (yX ha) (fun w hw=>by cases hw)),fun n=> ?_,fun p h1 h2 w hw=> ?_⟩
  ·rw[zBp,i2,YZ,f2,Nat.zero_testBit]
   by_cases e:x.pos=n / 64
   ·rw[Yi (s:=a) (fun w hw=>by have:=yX ha w hw;omega),decide_eq_true e,show inB [] n=false from rfl,hf.nil];simp
   ·rw[decide_eq_false e];simp
  ·rcases zAX hw with e|hw
   ·rw[e];exact h1 x (List.mem_cons_self ..)
   ·exact i3 p (fun w hw=>h1 w (List.mem_cons_of_mem _ hw)) h2 w hw
 |[],y::b,ha,hb=>by
  obtain⟨i1,i2,i3⟩:=Zn hf ha hb.tail
  obtain⟨x1,x2,x3,x4⟩:=hb.each y (List.mem_cons_self ..)
  obtain⟨f1,f2⟩:=hf.bit 0 y.bits (by decide) x4
  unfold zj
  refine⟨zBV i1 ⟨x1,x2⟩ f1 (i3 _ (fun w hw=>by cases hw) (yX hb)),fun n=> ?_,fun p h1 h2 w hw=> ?_⟩
  ·rw[zBp,i2,YZ,f2,Nat.zero_testBit]
   by_cases e:y.pos=n / 64
   ·rw[Yi (s:=b) (fun w hw=>by have:=yX hb w hw;omega),decide_eq_true e,show inB [] n=false from rfl,hf.nil];simp
   ·rw[decide_eq_false e];simp
  ·rcases zAX hw with e|hw
   ·rw[e];exact h2 y (List.mem_cons_self ..)
   ·exact i3 p h1 (fun w hw=>h2 w (List.mem_cons_of_mem _ hw)) w hw
 |x::a,y::b,ha,hb=>by
  obtain⟨x1,x2,x3,x4⟩:=ha.each x (List.mem_cons_self ..)
  obtain⟨y1,y2,y3,y4⟩:=hb.each y (List.mem_cons_self ..)
  unfold zj
  by_cases c1:x.pos<y.pos
  ·rw[if_pos c1]
   obtain⟨i1,i2,i3⟩:=Zn hf ha.tail hb
   obtain⟨f1,f2⟩:=hf.bit x.bits 0 x4 (by decide)
   have hfar:∀ w∈y::b,x.pos<w.pos:=fun w hw=>by
    rcases List.mem_cons.1 hw with rfl|hw
    ·exact c1
    ·have:=yX hb w hw;omega
   refine⟨zBV i1 ⟨x1,x2⟩ f1 (i3 _ (yX ha) hfar),fun n=> ?_,fun p h1 h2 w hw=> ?_⟩
   ·rw[zBp,i2,YZ x a,f2,Nat.zero_testBit]
    by_cases e:x.pos=n / 64
    ·rw[Yi (s:=a) (fun w hw=>by have:=yX ha w hw;omega),Yi (s:=y::b) (fun w hw=>by have:=hfar w hw;omega),decide_eq_true e,hf.nil];simp
    ·rw[decide_eq_false e];simp
   ·rcases zAX hw with e|hw
    ·rw[e];exact h1 x (List.mem_cons_self ..)
    ·exact i3 p (fun w hw=>h1 w (List.mem_cons_of_mem _ hw)) h2 w hw
  ·rw[if_neg c1]
   by_cases c2:y.pos<x.pos
   ·rw[if_pos c2]
    obtain⟨i1,i2,i3⟩:=Zn hf ha hb.tail
    obtain⟨f1,f2⟩:=hf.bit 0 y.bits (by decide) y4
    have hfar:∀ w∈x::a,y.pos<w.pos:=fun w hw=>by
     rcases List.mem_cons.1 hw with rfl|hw
     ·exact c2
     ·have:=yX ha w hw;omega
    refine⟨zBV i1 ⟨y1,y2⟩ f1 (i3 _ hfar (yX hb)),fun n=> ?_,fun p h1 h2 w hw=> ?_⟩
    ·rw[zBp,i2,YZ y b,f2,Nat.zero_testBit]
     by_cases e:y.pos=n / 64
     ·rw[Yi (s:=b) (fun w hw=>by have:=yX hb w hw;omega),Yi (s:=x::a) (fun w hw=>by have:=hfar w hw;omega),decide_eq_true e,hf.nil];simp
     ·rw[decide_eq_false e];simp
    ·rcases zAX hw with e|hw
     ·rw[e];exact h2 y (List.mem_cons_self ..)
     ·exact i3 p h1 (fun w hw=>h2 w (List.mem_cons_of_mem _ hw)) w hw
   ·rw[if_neg c2]
    obtain⟨i1,i2,i3⟩:=Zn hf ha.tail hb.tail
    obtain⟨f1,f2⟩:=hf.bit x.bits y.bits x4 y4
    have e0:x.pos=y.pos:=by omega
    refine⟨zBV i1 ⟨x1,x2⟩ f1 (i3 _ (yX ha) (fun w hw=>by have:=yX hb w hw;omega)),fun n=> ?_,fun p h1 h2 w hw=> ?_⟩
    ·rw[zBp,i2,YZ x a,YZ y b,f2,←e0]
     by_cases e:x.pos=n / 64
     ·rw[Yi (s:=a) (fun w hw=>by have:=yX ha w hw;omega),Yi (s:=b) (fun w hw=>by have:=yX hb w hw;omega),decide_eq_true e,hf.nil];simp
     ·rw[decide_eq_false e];simp
    ·rcases zAX hw with e|hw
     ·rw[e];exact h1 x (List.mem_cons_self ..)
     ·exact i3 p (fun w hw=>h1 w (List.mem_cons_of_mem _ hw)) (fun w hw=>h2 w (List.mem_cons_of_mem _ hw)) w hw
 termination_by a b=>a.length+b.length
end Go.Proofs.YtemggiegiejopaaDoor
namespace Go.Proofs.YtemggiegiejopaaDoor
open Go.Am
set_option linter.unusedVariables false
set_option linter.unusedSimpArgs false
theorem set_bit {b k:Nat} (hk:k<64) (hb:b<18446744073709551616):b|||2 ^ k<18446744073709551616∧∀ i,(b|||2 ^ k).testBit i=(b.testBit i||decide (k=i)):=by
 have h:2 ^ k<2 ^ 64:=Nat.pow_lt_pow_right (by decide) hk
 refine⟨Nat.or_lt_two_pow (n:=64) hb h,fun i=> ?_⟩
 rw[Nat.testBit_or,Nat.testBit_two_pow]
theorem pow_ne (k:Nat):2 ^ k≠0:=Nat.ne_of_gt (Nat.pow_pos (by decide))
structure Upto (s:List LWd) (xs:List Int):Prop where
 ok:OkW s
 mem:∀ n,InW s n↔n∈xs
theorem zFo {s:List LWd} {w:LWd} (h:OkW s) (h1:0≤w.pos∧w.pos<16384) (h2:w.bits≠0) (h3:w.bits<18446744073709551616) (hs:∀ x∈s,x.pos<w.pos):OkW (s++[w]):=
 ⟨List.pairwise_append.2 ⟨h.rise,List.pairwise_singleton ..,fun x hx y hy=>by rw[List.mem_singleton]at hy;subst hy;exact hs x hx⟩,fun x hx=>by
  rcases List.mem_append.1 hx with hx|hx
  ·exact h.each x hx
  ·rw[List.mem_singleton]at hx;subst hx;exact⟨h1.1,h1.2,h2,h3⟩⟩
theorem zD3 {s:List LWd} {w:LWd} {n:Int}:InW (s++[w]) n↔InW s n∨(w.pos=n / 64∧w.bits.testBit (n % 64).toNat=true):=by
 unfold InW
 constructor
 ·rintro⟨x,hx,e⟩
  rcases List.mem_append.1 hx with hx|hx
  ·exact .inl ⟨x,hx,e⟩
  ·rw[List.mem_singleton]at hx;subst hx;exact .inr e
 ·rintro(⟨x,hx,e⟩|e)
  ·exact⟨x,List.mem_append_left _ hx,e⟩
  ·exact⟨w,by simp,e⟩
theorem Upto.new {s:List LWd} {xs:List Int} {n:Int} (u:Upto s xs) (hn:0≤n∧n<1048576) (hs:∀ x∈s,x.pos<n / 64):Upto (s++[⟨n / 64,2 ^ (n % 64).toNat⟩]) (xs++[n]):=by
 have hlt:2 ^ (n % 64).toNat<2 ^ 64:=Nat.pow_lt_pow_right (by decide) (by omega)
 refine⟨zFo u.ok ⟨by simp only;omega,by simp only;omega⟩ (pow_ne _) hlt hs,fun m=> ?_⟩
 rw[zD3,u.mem,Nat.testBit_two_pow,decide_eq_true_iff,List.mem_append,List.mem_singleton]
 constructor
 ·rintro(h|⟨e,e2⟩)
  ·exact .inl h
  ·exact .inr (by simp only at e;omega)
 ·rintro(h|e)
  ·exact .inl h
  ·subst e;exact .inr ⟨rfl,rfl⟩
theorem Upto.old {s:List LWd} {w:LWd} {xs:List Int} {n:Int} (u:Upto (s++[w]) xs) (hn:0≤n∧n<1048576) (hw:w.pos=n / 64):Upto (s++[⟨w.pos,w.bits|||2 ^ (n % 64).toNat⟩]) (xs++[n]):=by
 obtain⟨w1,w2,w3,w4⟩:=u.ok.each w (by simp)
 obtain⟨s1,s2⟩:=set_bit (k:=(n % 64).toNat) (by omega) w4
 obtain⟨p1,p2,p3⟩:=List.pairwise_append.1 u.ok.rise
 have hne:w.bits|||2 ^ (n % 64).toNat≠0:=fun e=>by
  have:=s2 (n % 64).toNat;rw[e,Nat.zero_testBit]at this;simp at this
 refine⟨zFo ⟨p1,fun x hx=>u.ok.each x (List.mem_append_left _ hx)⟩ ⟨w1,w2⟩ hne s1 (fun x hx=>p3 x hx w (by simp)),fun m=> ?_⟩
 have:=u.mem m
 rw[zD3]at this
 rw[zD3,s2,Bool.or_eq_true,decide_eq_true_iff,List.mem_append,List.mem_singleton,←this]
 constructor
 ·rintro(h|⟨e,h|h⟩)
  ·exact .inl (.inl h)
  ·exact .inl (.inr ⟨e,h⟩)
  ·exact .inr (by simp only at e;omega)
 ·rintro((h|⟨e,h⟩)|e)
  ·exact .inl h
  ·exact .inr ⟨e,.inl h⟩
  ·subst e;exact .inr ⟨hw,.inr rfl⟩
end Go.Proofs.YtemggiegiejopaaDoor
namespace Go.Proofs.YtemggiegiejopaaDoor
open Go.Am
set_option linter.unusedVariables false
set_option linter.unusedSimpArgs false
set_option maxHeartbeats 4000000
def zBo:List (Nat×List Value):=[(0,Zc),(1,tzV)]
noncomputable def tb:Tab:=⟨zDZ Tryd.prog,fun f=>if f=10 then some (Y3 zBo (.bool true)) else none⟩
theorem zF (f:Nat) (hf:Nat.beq f 10=false:=by rfl):tb.stub f=none:=if_neg (Nat.ne_of_beq_eq_false hf)
theorem zGt {h:AHeap} {g:Nat} {cs:List Value} (hs:Y8 cs cs=true) (ht:zg h g=some cs):YR h [(g,cs)]=true:=by
 unfold zg at ht
 unfold YR
 simp only[List.all_cons,List.all_nil,Bool.and_true]
 split at ht
 ·rename_i c o lo hg
  cases ht
  rw[hg];exact hs
 ·cases ht
theorem laid_two {h:AHeap} {a b:Nat×List Value} (h1:YR h [a]=true) (h2:YR h [b]=true):YR h [a,b]=true:=by
 unfold YR at *
 simp only[List.all_cons,List.all_nil,Bool.and_true]at *
 rw[h1,h2];rfl
theorem alive_ok (h:AHeap) (ht:zg h 0=some Zc) (hz:zg h 1=some tzV):WC Tryd.prog tb 10 [] h fun r h'=>r= .bool true∧h=h':=by
 refine WC.stub (s:=Y3 zBo (.bool true)) (by show (if 10=10 then some (Y3 zBo (.bool true)) else none)=_;exact if_pos rfl) (v:= .bool true) (h':=h) ?_ ⟨rfl,rfl⟩
 have hl:YR h zBo=true:=laid_two (zGt (by kernel_rfl) ht) (zGt (by kernel_rfl) hz)
 unfold Y3
 rw[hl];rfl
end Go.Proofs.YtemggiegiejopaaDoor
namespace Go.Proofs.YtemggiegiejopaaDoor
open Go.Am
set_option linter.unusedVariables false
set_option linter.unusedSimpArgs false
set_option maxHeartbeats 4000000
theorem zAu {α:Type} {p:α→Bool} {l:List α} (h:∀ x∈l,p x=false):l.any p=false:=by
 rw[List.any_eq_false];intro x hx;rw[h x hx];exact Bool.noConfusion
theorem ZV {l:List Int} {i:Nat} (h:i<l.length):l.getD i 0∈l:=by
 simp[List.getD,List.getElem?_eq_getElem h]
theorem zGa {l:List Int} {x:Int} (h:x∈l):∃ i,i<l.length∧l.getD i 0=x:=by
 obtain⟨i,hi,e⟩:=List.getElem_of_mem h
 exact⟨i,hi,by simp[List.getD,List.getElem?_eq_getElem hi,e]⟩
noncomputable def body95:ACode:=(.seq (.region [⟨some 3,none,(.mov (.const (.bool false)))⟩]) (.seq (.region [⟨some 4,none,(.mov (.tmp 0))⟩,⟨some 5,none,(.bin .lss (.tmp 4) (.const (.int .i64 0)))⟩,⟨some 6,none,(.mov (.tmp 5))⟩,⟨some 7,some (6,false),(.mov (.tmp 0))⟩,⟨some 8,some (6,false),(.load false 1 (.tmp 1))⟩,⟨some 9,some (6,false),(.bin .geq (.tmp 7) (.tmp 8))⟩,⟨some 10,none,(.pick (.tmp 6) (.const (.bool true)) (.tmp 9))⟩,⟨some 3,none,(.mov (.tmp 10))⟩]) .ret))
set_option maxRecDepth 100000 in
theorem tab95:tb.code 95=some ⟨11,[(3,none)],body95⟩:=by kernel_rfl
theorem zIS (h:AHeap) (h0:AHeap) (p:Value) (n m:Int) (o:OwnC h0 h p [I m]):
  WC Tryd.prog tb 95 [I n,p] h fun r h'=>r= .bool (decide (n<0∨m≤n))∧Ext h h':=by
 refine WC.of (zF 95) tab95 ?_;simp only[zO,Nat.zero_add,Nat.reduceAdd]
 refine go ?_
 repeat' (first|(refine WX.br (fun hb=> ?_) (fun hb=> ?_)<;>(try simp only[DB]at hb)<;>refine go ?_)|(refine WO.sp (fun hb=> ?_) (fun hb=> ?_)<;>(try simp only[DB]at hb)<;>refine go ?_))
 all_goals (refine rt ?_;exact⟨by first|(simp[one];done)|(simp[one];omega),Ext.refl h⟩)
noncomputable def body96_0:ACode:=(.seq (.region [⟨some 9,none,(.bin .lss (.tmp 8) (.tmp 7))⟩]) (.seq (.cond (.tmp 9) .skip (.exit 0)) (.seq (.block 1 (.seq (.region [⟨some 10,none,(.mov (.tmp 8))⟩,⟨some 5,none,(.mov (.tmp 10))⟩]) (.seq (.region [⟨some 11,none,(.mov (.tmp 1))⟩,⟨some 12,none,(.mov (.tmp 0))⟩,⟨some 13,none,(.mov (.tmp 5))⟩,⟨some 14,none,(.idx 1 (.tmp 12) (.tmp 13))⟩,⟨some 15,none,(.load false 1 (.tmp 14))⟩,⟨some 16,none,(.call (.tmp 11) [(.tmp 15)])⟩]) (.cond (.tmp 16) (.seq (.region [⟨some 17,none,(.mov (.tmp 5))⟩,⟨some 4,none,(.mov (.tmp 17))⟩]) .ret) .skip)))) (.region [⟨some 18,none,(.bin .add (.tmp 8) (.const (.int .i64 1)))⟩,⟨some 8,none,(.mov (.tmp 18))⟩]))))
noncomputable def body96:ACode:=(.seq (.region [⟨some 4,none,(.mov (.const (.int .i64 0)))⟩]) (.seq (.seq (.region [⟨some 6,none,(.mov (.tmp 0))⟩,⟨some 7,none,(.len (.tmp 6))⟩,⟨some 8,none,(.mov (.const (.int .i64 0)))⟩]) (.block 0 (.loop body96_0))) (.seq (.region [⟨some 4,none,(.mov (.const (.int .i64 (-1))))⟩]) .ret)))
set_option maxRecDepth 100000 in
theorem tab96:tb.code 96=some ⟨19,[(4,none)],body96⟩:=by kernel_rfl
theorem idxf_int (h:AHeap) (v fv:Value) (l:List Int) (p:Int→Bool) (s:SlI h v l) (hl:(l.length:Int)≤9223372036854775807) (hf:∀ x∈l,∀ h1,Ext h h1→WV Tryd.prog tb fv [I x] h1 fun r h'=>r= .bool (p x)∧Ext h1 h'):
  WC Tryd.prog tb 96 [v,fv] h fun r h'=>(∃ n:Int,r=I n∧(decide (0≤n))=l.any p)∧Ext h h':=by
 refine WC.of (zF 96) tab96 ?_;simp only[zO,Nat.zero_add,Nat.reduceAdd]
 refine go ?_
 refine WX.loopA [9,10,5,11,12,13,14,15,16,17,4,18,8] (by kernel_rfl) (fun i=>l.length - i) (fun i t h1=>Ext h h1∧zC t 8=I i∧i≤l.length∧∀ j,j<i→p (l.getD j 0)=false) 0 ?_ ?_
 ·exact⟨Ext.refl h,sl_,Nat.zero_le _,fun j hj=>absurd hj (Nat.not_lt_zero _)⟩
 rintro i t h1 hsame ⟨e1,s8,hi,hm⟩
 have s1:=s.ext e1
 refine go ?_
 refine WX.br (fun hb=> ?_) (fun hb=> ?_)<;>simp only[DB]at hb
 ·have hi':i<l.length:=by omega
  refine go ?_
  refine WO.conV (hf _ (ZV hi') h1 e1) ?_
  rintro _ h2 ⟨rfl,e2⟩
  refine go ?_
  refine WX.br (fun hb=> ?_) (fun hb=> ?_)
  ·refine go ?_
   refine rt ?_
   refine⟨⟨i,rfl,?_⟩,e1.trans e2⟩
   rw[List.any_eq_true.2 ⟨_,ZV hi',hb⟩];simp
  ·refine go ?_
   refine zA (i+1) (by omega) ⟨e1.trans e2,sln,by omega,fun j hj=> ?_⟩
   by_cases e:j=i
   ·subst e;exact hb
   ·exact hm j (by omega)
 ·refine go ?_
  refine rt ?_
  refine⟨⟨-1,rfl,?_⟩,e1⟩
  rw[zAu fun x hx=>by obtain⟨j,hj,rfl⟩:=zGa hx;exact hm j (by omega)];rfl
noncomputable def body76:ACode:=(.seq (.region [⟨some 4,none,(.mov (.const (.bool false)))⟩]) (.seq (.region [⟨some 5,none,(.mov (.tmp 0))⟩,⟨some 6,none,(.mov (.tmp 1))⟩,⟨some 7,none,(.call (.func 96) [(.tmp 5),(.tmp 6)])⟩,⟨some 8,none,(.bin .geq (.tmp 7) (.const (.int .i64 0)))⟩,⟨some 4,none,(.mov (.tmp 8))⟩]) .ret))
set_option maxRecDepth 100000 in
theorem tab76:tb.code 76=some ⟨9,[(4,none)],body76⟩:=by kernel_rfl
theorem zDT (h:AHeap) (v fv:Value) (l:List Int) (p:Int→Bool) (s:SlI h v l) (hl:(l.length:Int)≤9223372036854775807) (hf:∀ x∈l,∀ h1,Ext h h1→WV Tryd.prog tb fv [I x] h1 fun r h'=>r= .bool (p x)∧Ext h1 h'):
  WC Tryd.prog tb 76 [v,fv] h fun r h'=>r= .bool (l.any p)∧Ext h h':=by
 refine WC.of (zF 76) tab76 ?_;simp only[zO,Nat.zero_add,Nat.reduceAdd]
 refine go ?_
 refine WO.con (idxf_int h v fv l p s hl hf) ?_
 rintro _ h1 ⟨⟨n,rfl,e⟩,e1⟩
 refine go ?_
 refine rt ?_
 exact⟨by rw[←e];rfl,e1⟩
noncomputable def body75:ACode:=(.seq (.region [⟨some 2,none,(.box (.tmp 0))⟩,⟨some 4,none,(.mov (.const (.bool false)))⟩]) (.seq (.region [⟨some 5,none,(.mov (.tmp 1))⟩,⟨some 6,none,(.mkFunc (.func 95) [] [(.tmp 2)])⟩,⟨some 7,none,(.call (.func 76) [(.tmp 5),(.tmp 6)])⟩,⟨some 8,none,(.un .not (.tmp 7))⟩,⟨some 4,none,(.mov (.tmp 8))⟩]) .ret))
set_option maxRecDepth 100000 in
theorem tab75:tb.code 75=some ⟨9,[(4,none)],body75⟩:=by kernel_rfl
theorem zBb (h:AHeap) (v:Value) (m:Int) (l:List Int) (s:SlI h v l) (hl:(l.length:Int)≤9223372036854775807):
  WC Tryd.prog tb 75 [I m,v] h fun r h'=>r= .bool (Zk m l)∧Ext h h':=by
 refine WC.of (zF 75) tab75 ?_;simp only[zO,Nat.zero_add,Nat.reduceAdd]
 refine go ?_
 refine WO.bx ?_
 intro p h1 e1 o1
 refine go ?_
 refine WO.con (zDT h1 v _ l (fun n=>decide (n<0∨m≤n)) (s.ext e1) hl ?_) ?_
 ·intro x hx h2 e2
  exact WV.func (zIS h2 h p x m (o1.ext e2))
 rintro _ h2 ⟨rfl,e2⟩
 refine go ?_
 refine rt ?_
 refine⟨?_,e1.trans e2⟩
 show Value.bool _=_
 congr 1
 rw[Bool.eq_iff_iff]
 simp only[Zk,Bool.not_eq_true',List.any_eq_false,List.all_eq_true,Bool.and_eq_true,decide_eq_true_eq]
 exact⟨fun h x hx=>by have:=h x hx;omega,fun h x hx=>by have:=h x hx;omega⟩
noncomputable def body79_0:ACode:=(.seq (.region [⟨some 8,none,(.bin .lss (.tmp 7) (.tmp 6))⟩]) (.seq (.cond (.tmp 8) .skip (.exit 0)) (.seq (.block 1 (.seq (.region [⟨some 9,none,(.idx 1 (.tmp 5) (.tmp 7))⟩,⟨some 10,none,(.load false 1 (.tmp 9))⟩,⟨some 4,none,(.mov (.tmp 10))⟩]) (.region [⟨some 11,none,(.mov (.tmp 2))⟩,⟨some 12,none,(.mov (.tmp 4))⟩,⟨some 13,none,(.bin .add (.tmp 11) (.tmp 12))⟩,⟨some 2,none,(.mov (.tmp 13))⟩]))) (.region [⟨some 14,none,(.bin .add (.tmp 7) (.const (.int .i64 1)))⟩,⟨some 7,none,(.mov (.tmp 14))⟩]))))
noncomputable def body79:ACode:=(.seq (.region [⟨some 2,none,(.mov (.const (.int .i64 0)))⟩]) (.seq (.seq (.region [⟨some 5,none,(.mov (.tmp 0))⟩,⟨some 6,none,(.len (.tmp 5))⟩,⟨some 7,none,(.mov (.const (.int .i64 0)))⟩]) (.block 0 (.loop body79_0))) (.seq (.region [⟨some 15,none,(.mov (.tmp 2))⟩,⟨some 2,none,(.mov (.tmp 15))⟩]) .ret)))
set_option maxRecDepth 100000 in
theorem tab79:tb.code 79=some ⟨16,[(2,none)],body79⟩:=by kernel_rfl
theorem sum_ok (h:AHeap) (v:Value) (l:List Int) (s:SlI h v l) (hl:l.length≤1000) (hb:∀ x∈l,0≤x∧x≤1000):
  WC Tryd.prog tb 79 [v] h fun r h'=>r=I l.sum∧h=h':=by
 refine WC.of (zF 79) tab79 ?_;simp only[zO,Nat.zero_add,Nat.reduceAdd]
 refine go ?_
 refine WX.loopA [8,9,10,4,11,12,13,2,14,7] (by kernel_rfl) (fun i=>l.length - i) (fun i t h1=>h=h1∧zC t 7=I i∧zC t 2=I (l.take i).sum∧i≤l.length∧0≤(l.take i).sum∧(l.take i).sum≤1000 * i) 0 ?_ ?_
 ·exact⟨rfl,sl_,sl_,Nat.zero_le _,by simp,by simp⟩
 rintro i t _ hsame ⟨rfl,s7,s2,hi,hm,hn⟩
 refine go ?_
 refine WX.br (fun hc=> ?_) (fun hc=> ?_)<;>simp only[DB]at hc
 ·have hi':i<l.length:=by omega
  have hx:=hb _ (ZV hi')
  refine go ?_
  have e:(l.take (i+1)).sum=(l.take i).sum+l.getD i 0:=by
   rw[List.take_add_one,List.sum_append];simp[List.getD,List.getElem?_eq_getElem hi']
  refine zA (i+1) (by omega) ⟨rfl,sln,by rw[e];exact sl_,by omega,by omega,by omega⟩
 ·refine go ?_
  refine rt ?_
  have:i=l.length:=by omega
  subst this
  exact⟨by simp[one],rfl⟩
noncomputable def body78:ACode:=(.seq (.region [⟨some 1,none,(.box (.tmp 0))⟩,⟨some 2,none,(.mov (.const (.bool false)))⟩]) (.seq (.region [⟨some 3,none,(.fld 0 (.tmp 1))⟩,⟨some 4,none,(.load false 1 (.tmp 3))⟩,⟨some 5,none,(.bin .geq (.tmp 4) (.const (.int .u8 1)))⟩,⟨some 6,none,(.mov (.tmp 5))⟩,⟨some 7,some (6,true),(.fld 0 (.tmp 1))⟩,⟨some 8,some (6,true),(.load false 1 (.tmp 7))⟩,⟨some 9,some (6,true),(.bin .leq (.tmp 8) (.const (.int .u8 3)))⟩,⟨some 10,none,(.pick (.tmp 6) (.tmp 9) (.const (.bool false)))⟩,⟨some 2,none,(.mov (.tmp 10))⟩]) .ret))
set_option maxRecDepth 100000 in
theorem tab78:tb.code 78=some ⟨11,[(2,none)],body78⟩:=by kernel_rfl
theorem zIk (h:AHeap) (x:LType) (va:Value):
  WC Tryd.prog tb 78 [.agg #[.int .u8 x.kind,I x.elem,I x.many,va]] h fun r h'=>r= .bool (Yk x)∧Ext h h':=by
 refine WC.of (zF 78) tab78 ?_;simp only[zO,Nat.zero_add,Nat.reduceAdd]
 refine go ?_
 refine WO.bx ?_
 intro p h1 e1 o1
 refine go ?_
 repeat' (first|(refine WX.br (fun hb=> ?_) (fun hb=> ?_)<;>(try simp only[DB]at hb)<;>refine go ?_)|(refine WO.sp (fun hb=> ?_) (fun hb=> ?_)<;>(try simp only[DB]at hb)<;>refine go ?_))
 all_goals (refine rt ?_;exact⟨by simp[one,Yk, *]<;>omega,e1⟩)
noncomputable def body74:ACode:=(.seq (.region [⟨some 1,none,(.box (.tmp 0))⟩,⟨some 2,none,(.mov (.const (.bool false)))⟩]) (.seq (.region [⟨some 3,none,(.mov (.const (.bool true)))⟩,⟨some 4,none,(.mov (.const (.bool true)))⟩,⟨some 5,none,(.mov (.const (.bool true)))⟩]) (.seq (.seq (.region [⟨some 6,none,(.fld 0 (.tmp 1))⟩,⟨some 7,none,(.load false 1 (.tmp 6))⟩]) (.block 0 (.seq (.block 5 (.seq (.block 4 (.seq (.block 3 (.seq (.block 2 (.seq (.block 1 (.seq (.seq (.seq (.region [⟨some 9,none,(.bin .eql (.tmp 7) (.const (.int .u8 1)))⟩,⟨some 8,none,(.mov (.tmp 9))⟩]) (.cond (.tmp 8) (.exit 1) .skip)) (.seq (.seq (.region [⟨some 11,none,(.bin .eql (.tmp 7) (.const (.int .u8 2)))⟩,⟨some 10,none,(.mov (.tmp 11))⟩]) (.cond (.tmp 10) (.exit 2) .skip)) (.seq (.seq (.region [⟨some 13,none,(.bin .eql (.tmp 7) (.const (.int .u8 4)))⟩,⟨some 12,none,(.mov (.tmp 13))⟩]) (.cond (.tmp 12) (.exit 3) .skip)) (.seq (.seq (.region [⟨some 15,none,(.bin .eql (.tmp 7) (.const (.int .u8 3)))⟩,⟨some 14,none,(.mov (.tmp 15))⟩]) (.cond (.tmp 14) (.exit 4) .skip)) (.seq (.region [⟨some 17,none,(.bin .eql (.tmp 7) (.const (.int .u8 5)))⟩,⟨some 16,none,(.mov (.tmp 17))⟩]) (.cond (.tmp 16) (.exit 5) .skip)))))) (.exit 0))) (.region [⟨some 18,none,(.fld 1 (.tmp 1))⟩,⟨some 19,none,(.load false 1 (.tmp 18))⟩,⟨some 20,none,(.bin .eql (.tmp 19) (.const (.int .i64 0)))⟩,⟨some 3,none,(.mov (.tmp 20))⟩]))) (.seq (.regionC [(⟨some 21,none,(.fld 2 (.tmp 1))⟩,[]),(⟨some 22,none,(.load false 1 (.tmp 21))⟩,[]),(⟨some 23,none,(.bin .eql (.tmp 22) (.const (.int .i64 0)))⟩,[]),(⟨some 24,none,(.fld 3 (.tmp 1))⟩,[]),(⟨some 25,none,(.load false 1 (.tmp 24))⟩,[]),(⟨some 26,none,(.len (.tmp 25))⟩,[]),(⟨some 27,none,(.bin .eql (.tmp 26) (.const (.int .i64 0)))⟩,[]),(⟨some 4,none,(.mov (.tmp 23))⟩,[]),(⟨some 5,none,(.mov (.tmp 27))⟩,[])]) (.exit 0)))) (.region [⟨some 28,none,(.fld 1 (.tmp 1))⟩,⟨some 29,none,(.load false 1 (.tmp 28))⟩,⟨some 30,none,(.bin .eql (.tmp 29) (.const (.int .i64 0)))⟩,⟨some 3,none,(.mov (.tmp 30))⟩]))) (.seq (.region [⟨some 31,none,(.fld 2 (.tmp 1))⟩,⟨some 32,none,(.load false 1 (.tmp 31))⟩,⟨some 33,none,(.bin .eql (.tmp 32) (.const (.int .i64 0)))⟩,⟨some 4,none,(.mov (.tmp 33))⟩]) (.exit 0)))) (.seq (.region [⟨some 34,none,(.fld 3 (.tmp 1))⟩,⟨some 35,none,(.load false 1 (.tmp 34))⟩,⟨some 36,none,(.len (.tmp 35))⟩,⟨some 37,none,(.bin .eql (.tmp 36) (.const (.int .i64 0)))⟩,⟨some 5,none,(.mov (.tmp 37))⟩]) (.exit 0))))) (.seq (.region [⟨some 38,none,(.mov (.tmp 3))⟩,⟨some 39,none,(.mov (.tmp 38))⟩,⟨some 40,some (39,true),(.mov (.tmp 4))⟩,⟨some 41,none,(.pick (.tmp 39) (.tmp 40) (.const (.bool false)))⟩,⟨some 42,none,(.mov (.tmp 41))⟩,⟨some 43,some (42,true),(.mov (.tmp 5))⟩,⟨some 44,none,(.pick (.tmp 42) (.tmp 43) (.const (.bool false)))⟩,⟨some 2,none,(.mov (.tmp 44))⟩]) .ret))))
set_option maxRecDepth 100000 in
theorem tab74:tb.code 74=some ⟨45,[(2,none)],body74⟩:=by kernel_rfl
theorem plain_ok (h:AHeap) (x:LType) (va:Value) (s:SlI h va x.parts):
  WC Tryd.prog tb 74 [.agg #[.int .u8 x.kind,I x.elem,I x.many,va]] h fun r h'=>r= .bool (YC x)∧Ext h h':=by
 refine WC.of (zF 74) tab74 ?_;simp only[zO,Nat.zero_add,Nat.reduceAdd]
 refine go ?_
 refine WO.bx ?_
 intro p h1 e1 o1
 have s1:=s.ext e1
 refine go ?_
 repeat' (first|(refine WX.br (fun hb=> ?_) (fun hb=> ?_)<;>(try simp only[DB]at hb)<;>refine go ?_)|(refine WO.sp (fun hb=> ?_) (fun hb=> ?_)<;>(try simp only[DB]at hb)<;>refine go ?_))
 all_goals (refine rt ?_;refine⟨?_,e1⟩;simp[one,YC, *])
theorem zI {α:Type} {c:Nat} {R:AHeap→List Value→α→Prop} {h:AHeap} {v:Value} {T:List α} (s:SlR c R h v T):∃ a n k,v= .slice a n k:=let ⟨_,a,_⟩:=s;a.shape
theorem zCR {h:AHeap} {v:Value} {T:List LType} {i:Nat} (s:SlT h v T) (hi:i<T.length):∃ cs,RTy h cs (T.getD i default)∧Piece h v (i * 4) cs∧IsSl v:=by
 obtain⟨cs,a,_,c⟩:=s.at hi
 exact⟨cs,by simpa [List.getD,List.getElem?_eq_getElem hi]using a,c,s.some hi⟩
noncomputable def body77:ACode:=(.seq (.region [⟨some 3,none,(.mov (.const (.bool false)))⟩]) (.seq (.region [⟨some 4,none,(.load false 1 (.tmp 1))⟩,⟨some 5,none,(.mov (.tmp 0))⟩,⟨some 6,none,(.idx 4 (.tmp 4) (.tmp 5))⟩,⟨some 7,none,(.load true 4 (.tmp 6))⟩,⟨some 8,none,(.call (.func 78) [(.tmp 7)])⟩,⟨some 9,none,(.un .not (.tmp 8))⟩,⟨some 3,none,(.mov (.tmp 9))⟩]) .ret))
set_option maxRecDepth 100000 in
theorem tab77:tb.code 77=some ⟨10,[(3,none)],body77⟩:=by kernel_rfl
theorem may1_ok (h h0:AHeap) (p tv:Value) (T:List LType) (n:Int) (o:OwnC h0 h p [tv]) (s:SlT h tv T) (hn:0≤n∧n<T.length):
  WC Tryd.prog tb 77 [I n,p] h fun r h'=>r= .bool (!Yk (T.getD n.toNat default))∧Ext h h':=by
 obtain⟨i,rfl⟩:∃ i:Nat,n=i:=⟨n.toNat,by omega⟩
 obtain⟨cs,⟨va,rfl,sv,hv⟩,pc,hs⟩:=zCR (i:=i) s (by omega)
 refine WC.of (zF 77) tab77 ?_;simp only[zO,Nat.zero_add,Nat.reduceAdd]
 refine go ?_
 refine WO.con (zIk h _ va) ?_
 rintro _ h1 ⟨rfl,e1⟩
 refine go ?_
 refine rt ?_
 exact⟨rfl,e1⟩
noncomputable def body60_0:ACode:=(.seq (.region [⟨some 78,none,(.bin .lss (.tmp 77) (.tmp 76))⟩]) (.seq (.cond (.tmp 78) .skip (.exit 1)) (.seq (.block 2 (.seq (.region [⟨some 79,none,(.idx 1 (.tmp 75) (.tmp 77))⟩,⟨some 80,none,(.load false 1 (.tmp 79))⟩,⟨some 14,none,(.mov (.tmp 80))⟩]) (.region [⟨some 81,none,(.mov (.tmp 12))⟩,⟨some 82,none,(.mov (.tmp 2))⟩,⟨some 83,none,(.mov (.tmp 14))⟩,⟨some 84,none,(.idx 1 (.tmp 82) (.tmp 83))⟩,⟨some 85,none,(.load false 1 (.tmp 84))⟩,⟨some 86,none,(.buildSlice 1 1 [(.int .i64 0)] [(0,1,(.tmp 85))])⟩,⟨some 87,none,(.append 1 (.tmp 81) (.tmp 86))⟩,⟨some 12,none,(.mov (.tmp 87))⟩]))) (.region [⟨some 88,none,(.bin .add (.tmp 77) (.const (.int .i64 1)))⟩,⟨some 77,none,(.mov (.tmp 88))⟩]))))
noncomputable def body60:ACode:=(.seq (.region [⟨some 3,none,(.box (.tmp 0))⟩,⟨some 6,none,(.mov (.const (.int .i64 0)))⟩,⟨some 7,none,(.mov (.const (.bool false)))⟩]) (.seq (.region [⟨some 15,none,(.load false 1 (.tmp 3))⟩,⟨some 16,none,(.mov (.tmp 1))⟩,⟨some 17,none,(.idx 4 (.tmp 15) (.tmp 16))⟩,⟨some 18,none,(.load true 4 (.tmp 17))⟩,⟨some 8,none,(.alloc [(.int .u8 0),(.int .i64 0),(.int .i64 0),(.slice none 0 0)])⟩,⟨none,none,(.store 4 (.tmp 8) (.tmp 18))⟩]) (.seq (.region [⟨some 19,none,(.load true 4 (.tmp 8))⟩,⟨some 20,none,(.call (.func 74) [(.tmp 19)])⟩,⟨some 9,none,(.mov (.tmp 20))⟩,⟨some 10,none,(.mov (.const (.int .i64 1)))⟩]) (.seq (.seq (.region [⟨some 21,none,(.fld 0 (.tmp 8))⟩,⟨some 22,none,(.load false 1 (.tmp 21))⟩]) (.block 0 (.seq (.region [⟨some 24,none,(.bin .eql (.tmp 22) (.const (.int .u8 1)))⟩,⟨some 23,none,(.mov (.tmp 24))⟩]) (.cond (.tmp 23) .skip (.seq (.region [⟨some 26,none,(.bin .eql (.tmp 22) (.const (.int .u8 2)))⟩,⟨some 25,none,(.mov (.tmp 26))⟩]) (.cond (.tmp 25) (.region [⟨some 27,none,(.mov (.tmp 9))⟩,⟨some 28,none,(.mov (.tmp 27))⟩,⟨some 29,some (28,true),(.load false 1 (.tmp 3))⟩,⟨some 30,some (28,true),(.len (.tmp 29))⟩,⟨some 31,some (28,true),(.fld 1 (.tmp 8))⟩,⟨some 32,some (28,true),(.load false 1 (.tmp 31))⟩,⟨some 33,some (28,true),(.buildSlice 1 1 [(.int .i64 0)] [(0,1,(.tmp 32))])⟩,⟨some 34,some (28,true),(.call (.func 75) [(.tmp 30),(.tmp 33)])⟩,⟨some 35,none,(.pick (.tmp 28) (.tmp 34) (.const (.bool false)))⟩,⟨some 9,none,(.mov (.tmp 35))⟩]) (.seq (.region [⟨some 37,none,(.bin .eql (.tmp 22) (.const (.int .u8 3)))⟩,⟨some 36,none,(.mov (.tmp 37))⟩]) (.cond (.tmp 36) (.seq (.region [⟨some 38,none,(.fld 1 (.tmp 8))⟩,⟨some 39,none,(.load false 1 (.tmp 38))⟩,⟨some 40,none,(.buildSlice 1 1 [(.int .i64 0)] [(0,1,(.tmp 39))])⟩,⟨some 41,none,(.fld 3 (.tmp 8))⟩,⟨some 42,none,(.load false 1 (.tmp 41))⟩,⟨some 43,none,(.append 1 (.tmp 40) (.tmp 42))⟩,⟨some 11,none,(.mov (.tmp 43))⟩]) (.region [⟨some 44,none,(.mov (.tmp 9))⟩,⟨some 45,none,(.mov (.tmp 44))⟩,⟨some 46,some (45,true),(.fld 3 (.tmp 8))⟩,⟨some 47,some (45,true),(.load false 1 (.tmp 46))⟩,⟨some 48,some (45,true),(.len (.tmp 47))⟩,⟨some 49,some (45,true),(.bin .leq (.tmp 48) (.const (.int .i64 4)))⟩,⟨some 50,none,(.pick (.tmp 45) (.tmp 49) (.const (.bool false)))⟩,⟨some 51,none,(.mov (.tmp 50))⟩,⟨some 52,some (51,true),(.load false 1 (.tmp 3))⟩,⟨some 53,some (51,true),(.len (.tmp 52))⟩,⟨some 54,some (51,true),(.mov (.tmp 11))⟩,⟨some 55,some (51,true),(.call (.func 75) [(.tmp 53),(.tmp 54)])⟩,⟨some 56,none,(.pick (.tmp 51) (.tmp 55) (.const (.bool false)))⟩,⟨some 57,none,(.mov (.tmp 56))⟩,⟨some 58,some (57,true),(.mov (.tmp 11))⟩,⟨some 59,some (57,true),(.mkFunc (.func 77) [] [(.tmp 3)])⟩,⟨some 60,some (57,true),(.call (.func 76) [(.tmp 58),(.tmp 59)])⟩,⟨some 61,some (57,true),(.un .not (.tmp 60))⟩,⟨some 62,none,(.pick (.tmp 57) (.tmp 61) (.const (.bool false)))⟩,⟨some 9,none,(.mov (.tmp 62))⟩])) (.seq (.region [⟨some 64,none,(.bin .eql (.tmp 22) (.const (.int .u8 4)))⟩,⟨some 63,none,(.mov (.tmp 64))⟩]) (.cond (.tmp 63) (.seq (.seq (.region [⟨some 65,none,(.mov (.tmp 9))⟩,⟨some 66,none,(.mov (.tmp 65))⟩,⟨some 67,some (66,true),(.mov (.tmp 1))⟩,⟨some 68,some (66,true),(.fld 3 (.tmp 8))⟩,⟨some 69,some (66,true),(.load false 1 (.tmp 68))⟩,⟨some 70,some (66,true),(.call (.func 75) [(.tmp 67),(.tmp 69)])⟩,⟨some 71,none,(.pick (.tmp 66) (.tmp 70) (.const (.bool false)))⟩,⟨some 9,none,(.mov (.tmp 71))⟩]) (.seq (.region [⟨some 72,none,(.mov (.tmp 9))⟩,⟨some 73,none,(.un .not (.tmp 72))⟩]) (.cond (.tmp 73) (.seq (.region [⟨some 6,none,(.mov (.const (.int .i64 0)))⟩,⟨some 7,none,(.mov (.const (.bool false)))⟩]) .ret) .skip))) (.seq (.region [⟨some 12,none,(.mov (.const (.slice none 0 0)))⟩]) (.seq (.seq (.region [⟨some 74,none,(.fld 3 (.tmp 8))⟩,⟨some 75,none,(.load false 1 (.tmp 74))⟩,⟨some 76,none,(.len (.tmp 75))⟩,⟨some 77,none,(.mov (.const (.int .i64 0)))⟩]) (.block 1 (.loop body60_0))) (.region [⟨some 89,none,(.mov (.tmp 12))⟩,⟨some 90,none,(.len (.tmp 89))⟩,⟨some 91,none,(.bin .gtr (.tmp 90) (.const (.int .i64 0)))⟩,⟨some 92,none,(.mov (.tmp 91))⟩,⟨some 93,some (92,true),(.mov (.tmp 12))⟩,⟨some 94,some (92,true),(.len (.tmp 93))⟩,⟨some 95,some (92,true),(.bin .leq (.tmp 94) (.const (.int .i64 8)))⟩,⟨some 96,none,(.pick (.tmp 92) (.tmp 95) (.const (.bool false)))⟩,⟨some 97,none,(.mov (.tmp 12))⟩,⟨some 98,none,(.call (.func 79) [(.tmp 97)])⟩,⟨some 9,none,(.mov (.tmp 96))⟩,⟨some 10,none,(.mov (.tmp 98))⟩])))) (.seq (.region [⟨some 100,none,(.bin .eql (.tmp 22) (.const (.int .u8 5)))⟩,⟨some 99,none,(.mov (.tmp 100))⟩]) (.cond (.tmp 99) (.seq (.seq (.region [⟨some 101,none,(.mov (.tmp 9))⟩,⟨some 102,none,(.mov (.tmp 101))⟩,⟨some 103,some (102,true),(.mov (.tmp 1))⟩,⟨some 104,some (102,true),(.fld 1 (.tmp 8))⟩,⟨some 105,some (102,true),(.load false 1 (.tmp 104))⟩,⟨some 106,some (102,true),(.buildSlice 1 1 [(.int .i64 0)] [(0,1,(.tmp 105))])⟩,⟨some 107,some (102,true),(.call (.func 75) [(.tmp 103),(.tmp 106)])⟩,⟨some 108,none,(.pick (.tmp 102) (.tmp 107) (.const (.bool false)))⟩,⟨some 109,none,(.mov (.tmp 108))⟩,⟨some 110,some (109,true),(.fld 2 (.tmp 8))⟩,⟨some 111,some (109,true),(.load false 1 (.tmp 110))⟩,⟨some 112,some (109,true),(.bin .geq (.tmp 111) (.const (.int .i64 1)))⟩,⟨some 113,none,(.pick (.tmp 109) (.tmp 112) (.const (.bool false)))⟩,⟨some 114,none,(.mov (.tmp 113))⟩,⟨some 115,some (114,true),(.fld 2 (.tmp 8))⟩,⟨some 116,some (114,true),(.load false 1 (.tmp 115))⟩,⟨some 117,some (114,true),(.bin .leq (.tmp 116) (.const (.int .i64 16)))⟩,⟨some 118,none,(.pick (.tmp 114) (.tmp 117) (.const (.bool false)))⟩,⟨some 9,none,(.mov (.tmp 118))⟩]) (.seq (.region [⟨some 119,none,(.mov (.tmp 9))⟩,⟨some 120,none,(.un .not (.tmp 119))⟩]) (.cond (.tmp 120) (.seq (.region [⟨some 6,none,(.mov (.const (.int .i64 0)))⟩,⟨some 7,none,(.mov (.const (.bool false)))⟩]) .ret) .skip))) (.regionC [(⟨some 121,none,(.fld 2 (.tmp 8))⟩,[]),(⟨some 122,none,(.load false 1 (.tmp 121))⟩,[]),(⟨some 123,none,(.mov (.tmp 2))⟩,[]),(⟨some 124,none,(.fld 1 (.tmp 8))⟩,[]),(⟨some 125,none,(.load false 1 (.tmp 124))⟩,[]),(⟨some 126,none,(.idx 1 (.tmp 123) (.tmp 125))⟩,[]),(⟨some 127,none,(.load false 1 (.tmp 126))⟩,[]),(⟨some 128,none,(.bin .mul (.tmp 122) (.tmp 127))⟩,[]),(⟨some 10,none,(.mov (.tmp 128))⟩,[])])) (.region [⟨some 9,none,(.mov (.const (.bool false)))⟩]))))))))))))) (.seq (.region [⟨some 129,none,(.mov (.tmp 10))⟩,⟨some 130,none,(.mov (.tmp 9))⟩,⟨some 131,none,(.mov (.tmp 130))⟩,⟨some 132,some (131,true),(.mov (.tmp 10))⟩,⟨some 133,some (131,true),(.bin .leq (.tmp 132) (.const (.int .i64 32)))⟩,⟨some 134,none,(.pick (.tmp 131) (.tmp 133) (.const (.bool false)))⟩,⟨some 6,none,(.mov (.tmp 129))⟩,⟨some 7,none,(.mov (.tmp 134))⟩]) .ret)))))
set_option maxRecDepth 100000 in
theorem tab60:tb.code 60=some ⟨135,[(6,none),(7,none)],body60⟩:=by kernel_rfl
theorem may_ok (h:AHeap) (tv sv:Value) (T:List LType) (k:Nat) (sizes:List Int) (st:SlT h tv T) (ss:SlI h sv sizes) (hk:k<T.length) (hT:T.length≤100) (hp:∀ x∈T,x.parts.length≤100) (hsz:sizes.length=k)
  (hb0:∀ x∈sizes,0≤x∧x≤1000):
  WC Tryd.prog tb 60 [tv,I k,sv] h fun r h'=>r= .tuple #[I (Zi T (T.getD k default) k sizes).1,.bool (Zi T (T.getD k default) k sizes).2]∧Ext h h':=by
 have hxT:T.getD k default∈T:=by simp[List.getD,List.getElem?_eq_getElem hk]
 have hpx:=hp _ hxT
 generalize hx:T.getD k default=x at *
 have hpx:x.parts.length≤100:=hpx
 obtain⟨_,_,_,rfl⟩:=zI st
 refine WC.of (zF 60) tab60 ?_;simp only[zO,Nat.zero_add,Nat.reduceAdd]
 refine go ?_
 refine WO.bx ?_
 intro p3 h1 e1 o3
 have st1:=st.ext e1
 obtain⟨cs,hR,pc,hs⟩:=zCR (i:=k) st1 hk
 rw[hx]at hR
 obtain⟨va,rfl,sv0,hv⟩:=hR
 refine go ?_
 refine WO.al ?_
 intro p8 h2 e2 o8
 refine go ?_
 refine WO.stC0 o8 e2 ?_ (h1:=ty_one (sv0.ext e2) _ _ _ _)
 intro h3 e3 o8 _
 have o3:=o3.ext e3
 have st3:=st1.ext e3
 have ss3:=(ss.ext e1).ext e3
 have sv3:=sv0.ext e3
 refine go ?_
 refine WO.con (plain_ok h3 x va sv3) ?_
 rintro _ h4 ⟨rfl,e4⟩
 have o3:=o3.ext e4
 have o84:=o8.ext e4
 have o8:=o84
 have st4:=st3.ext e4
 have ss4:=ss3.ext e4
 have sv4:=sv3.ext e4
 have e14:=(e1.trans e3).trans e4
 clear st st1 st3 ss ss3 sv0 sv3 e1 e2 e3 e4 pc hs
 refine go ?_
 refine WX.br (fun hb=> ?_) (fun hb=> ?_)<;>simp only[DB]at hb<;>refine go ?_
 ·refine WO.sp (fun hc=> ?_) (fun hc=> ?_)<;>refine go ?_<;>refine rt ?_<;>exact⟨by simp[one,Zi,hb,hc],e14⟩
 refine WX.br (fun hb2=> ?_) (fun hb2=> ?_)<;>simp only[DB]at hb2<;>refine go ?_
 ·refine WO.sp (fun hc=> ?_) (fun hc=> ?_)<;>refine go ?_
  ·refine WO.bl [x.elem] ?_
   intro v5 h5 e5 o5
   have st5:=st4.ext e5
   have o3:=o3.ext e5
   refine go ?_
   refine WO.con (zBb h5 v5 _ [x.elem] o5.sl (by simp)) ?_
   rintro _ h6 ⟨rfl,e6⟩
   refine go ?_
   refine WO.sp (fun hd=> ?_) (fun hd=> ?_)<;>refine go ?_<;>refine rt ?_<;>exact⟨by simp[one,Zi,hb2,hc,hd],(e14.trans e5).trans e6⟩
  ·refine rt ?_
   exact⟨by simp[one,Zi,hb2,hc],e14⟩
 refine WX.br (fun hb3=> ?_) (fun hb3=> ?_)<;>simp only[DB]at hb3<;>refine go ?_
 ·refine WO.bl [x.elem] ?_
  intro v5 h5 e5 o5
  have sv5:=sv4.ext e5
  have o8:=o8.ext e5
  refine go ?_
  refine WO.apN (.inr o5) sv5 e5 (by simp;omega) ?_
  intro v6 h6 e6 o6
  have st6:=st4.ext e6
  have o3:=o3.ext e6
  have sv6:=sv4.ext e6
  have o8:=OwnC.ext o84 e6
  have e16:=e14.trans e6
  refine go ?_
  refine WO.sp (fun hc=> ?_) (fun hc=> ?_)<;>refine go ?_
  ·refine WO.sp (fun hd=> ?_) (fun hd=> ?_)<;>simp only[DB]at hd<;>refine go ?_
   ·have hd':x.parts.length≤4:=by omega
    refine WO.con (zBb h6 v6 _ _ o6.sl (by simp;omega)) ?_
    rintro _ h7 ⟨rfl,e7⟩
    have o3:=o3.ext e7
    have st7:=st6.ext e7
    refine go ?_
    refine WO.sp (fun he=> ?_) (fun he=> ?_)<;>refine go ?_
    ·have hin:∀ n∈[x.elem]++x.parts,0≤n∧n<(T.length:Int):=by
      intro n hn
      have:=List.all_eq_true.1 he n hn
      simpa using this
     refine WO.con (zDT h7 v6 _ _ (fun n=> !Yk (T.getD n.toNat default)) (o6.sl.ext e7) (by simp;omega) ?_) ?_
     ·intro n hn h8 e8
      exact WV.func (may1_ok h8 h p3 _ T n (o3.ext e8) (st7.ext e8) (hin n hn))
     rintro _ h8 ⟨rfl,e8⟩
     refine go ?_
     have hnot:(!([x.elem]++x.parts).any fun n=> !Yk (T.getD n.toNat default))=([x.elem]++x.parts).all fun n=>Yk (T.getD n.toNat default):=by
      rw[List.not_any_eq_all_not];simp
     refine WO.sp (fun hf=> ?_) (fun hf=> ?_)<;>refine go ?_<;>refine rt ?_<;>refine⟨?_,(e16.trans e7).trans e8⟩<;>rw[hnot]at hf<;>rw[List.singleton_append]at hf he<;>rw[mayL3 hb3,hc,he,hf,decide_eq_true hd']<;>rfl
    ·refine rt ?_
     refine⟨?_,e16.trans e7⟩
     rw[List.singleton_append]at he
     rw[mayL3 hb3,hc,he,decide_eq_true hd'];rfl
   ·refine rt ?_
    refine⟨?_,e16⟩
    rw[mayL3 hb3,hc,decide_eq_false (show ¬x.parts.length≤4 by omega)];rfl
  ·refine rt ?_
   refine⟨?_,e16⟩
   rw[mayL3 hb3,hc];rfl
 refine WX.br (fun hb4=> ?_) (fun hb4=> ?_)<;>simp only[DB]at hb4<;>refine go ?_
 ·refine WO.sp (fun hc=> ?_) (fun hc=> ?_)<;>refine go ?_
  ·refine WO.con (zBb h4 va _ _ sv4 hv) ?_
   rintro _ h5 ⟨rfl,e5⟩
   have sv5:=sv4.ext e5
   have ss5:=ss4.ext e5
   have o8:=o8.ext e5
   refine go ?_
   refine WX.br (fun hd=> ?_) (fun hd=> ?_)<;>simp only[DB]at hd<;>refine go ?_
   ·refine rt ?_
    exact⟨by simp[one,Zi,hb4,hc,hd],e14.trans e5⟩
   have hin:∀ n∈x.parts,0≤n∧n<(k:Int):=by
    intro n hn
    have:=List.all_eq_true.1 hd n hn
    simpa using this
   refine WX.loopA [78,79,80,14,81,82,83,84,85,86,87,12,88,77] (by kernel_rfl) (fun i=>x.parts.length - i) (fun i t h1=>Ext h5 h1∧zC t 77=I i∧i≤x.parts.length∧∃ v,zC t 12=v∧OwnN h5 h1 v ((x.parts.take i).map fun n=>sizes.getD n.toNat 0)) 0 ?_ ?_
   ·exact⟨Ext.refl _,sl_,Nat.zero_le _,_,sl_,.inl ⟨rfl,rfl⟩⟩
   ·rintro i t h6 hsame ⟨e6,s77,hi,v,s12,o12⟩
    have sv6:=sv5.ext e6
    have ss6:=ss5.ext e6
    refine go ?_
    refine WX.br (fun he=> ?_) (fun he=> ?_)<;>simp only[DB]at he
    ·have hi':i<x.parts.length:=by omega
     have hx2:=hin _ (ZV hi')
     refine go ?_
     refine WO.bl [sizes.getD (x.parts.getD i 0).toNat 0] ?_
     intro v7 h7 e7 o7
     refine go ?_
     refine WO.apN (o12.ext e7) o7.sl (e6.trans e7) (by simp;omega) ?_
     intro v8 h8 e8 o8
     refine go ?_
     refine zA (i+1) (by omega) ⟨e8,sln,by omega,_,sl_,?_⟩
     have e:(x.parts.take (i+1)).map (fun n=>sizes.getD n.toNat 0)=(x.parts.take i).map (fun n=>sizes.getD n.toNat 0)++[sizes.getD (x.parts.getD i 0).toNat 0]:=by
      rw[List.take_add_one,List.map_append];simp[List.getD,List.getElem?_eq_getElem hi']
     rw[e];exact o8
    ·have:i=x.parts.length:=by omega
     subst this
     rw[List.take_length]at o12
     have hall:∀ y∈x.parts.map (fun n=>sizes.getD n.toNat 0),0≤y∧y≤1000:=by
      intro y hy
      obtain⟨n,hn,rfl⟩:=List.mem_map.1 hy
      have:=hin n hn
      exact hb0 _ (ZV (by omega))
     have o12:=o12.sl
     refine go ?_
     have hml:(x.parts.map fun n=>sizes.getD n.toNat 0).length=x.parts.length:=List.length_map ..
     have e36:=(e14.trans e5).trans e6
     have hr:∀ {b1 b2:Bool},decide (0<x.parts.length)=b1→decide (x.parts.length≤8)=b2→Value.tuple #[I (Zi T x k sizes).1,.bool (Zi T x k sizes).2]=
       .tuple #[I (x.parts.map fun n=>sizes.getD n.toNat 0).sum,.bool (b1&&b2&&decide ((x.parts.map fun n=>sizes.getD n.toNat 0).sum≤32))]:=by
      intro b1 b2 h1 h2
      rw[mayL4 hb4,hc,hd,h1,h2];rfl
     clear hb0 hp hx hxT o3 o8 o84 st4 ss4 sv4 ss5 sv5 ss6 sv6 hsame
     refine WO.sp (fun hf=> ?_) (fun hf=> ?_)<;>simp only[DB,List.length_map]at hf<;>refine go ?_
     ·refine WO.con (sum_ok h6 v _ o12 (by simp;omega) hall) ?_
      rintro _ _ ⟨rfl,rfl⟩
      refine go ?_
      refine WO.sp (fun hg=> ?_) (fun hg=> ?_)<;>simp only[DB,List.length_map]at hg<;>refine go ?_
      ·refine rt ?_
       refine⟨?_,e36⟩
       rw[hr (decide_eq_true (by omega)) (decide_eq_true (by omega))];rfl
      ·refine rt ?_
       refine⟨?_,e36⟩
       rw[hr (decide_eq_true (by omega)) (decide_eq_false (by omega))];rfl
     ·refine WO.con (sum_ok h6 v _ o12 (by simp;omega) hall) ?_
      rintro _ _ ⟨rfl,rfl⟩
      refine go ?_
      refine rt ?_
      refine⟨?_,e36⟩
      rw[hr (decide_eq_false (by omega)) rfl];rfl
  ·refine rt ?_
   exact⟨by simp[one,Zi,hb4,hc],e14⟩
 refine WX.br (fun hb5=> ?_) (fun hb5=> ?_)<;>simp only[DB]at hb5<;>refine go ?_
 ·refine WO.sp (fun hc=> ?_) (fun hc=> ?_)<;>refine go ?_
  ·refine WO.bl [x.elem] ?_
   intro v5 h5 e5 o5
   have ss5:=ss4.ext e5
   have o8:=o8.ext e5
   refine go ?_
   refine WO.con (zBb h5 v5 _ [x.elem] o5.sl (by simp)) ?_
   rintro _ h6 ⟨rfl,e6⟩
   have ss6:=ss5.ext e6
   have o8:=o8.ext e6
   have e36:=(e14.trans e5).trans e6
   have hr:∀ {b1 b2 b3:Bool},Zk k [x.elem]=b1→decide (1≤x.many)=b2→decide (x.many≤16)=b3→Value.tuple #[I (Zi T x k sizes).1,.bool (Zi T x k sizes).2]=
     (if b1&&b2&&b3 then .tuple #[I (x.many * sizes.getD x.elem.toNat 0),.bool (decide (x.many * sizes.getD x.elem.toNat 0≤32))] else .tuple #[I 0,.bool false]):=by
    intro b1 b2 b3 h1 h2 h3
    rw[mayL5 hb5,hc,h1,h2,h3]
    cases b1<;>cases b2<;>cases b3<;>rfl
   have hin:Zk k [x.elem]=true→0≤x.elem∧x.elem<(k:Int):=by
    intro hd
    have:=List.all_eq_true.1 hd x.elem (by simp)
    simpa using this
   have hs0:∀ n:Int,0≤n∧n<(k:Int)→0≤sizes.getD n.toNat 0∧sizes.getD n.toNat 0≤1000:=fun n hn=>hb0 _ (ZV (by omega))
   clear hb0 hp hx hxT o3 o84 st4 ss4 sv4 ss5 o5
   refine go ?_
   refine WO.sp (fun hd=> ?_) (fun hd=> ?_)<;>refine go ?_
   ·have hin:=hin hd
    have hs:=hs0 _ hin
    refine WO.sp (fun he=> ?_) (fun he=> ?_)<;>simp only[DB]at he<;>refine go ?_
    ·refine WX.br (fun hf=> ?_) (fun hf=> ?_)<;>simp only[DB]at hf<;>refine go ?_
     ·refine rt ?_
      refine⟨?_,e36⟩
      rw[hr hd (decide_eq_true he) (decide_eq_false (by omega))];rfl
     ·have hm1:x.many * sizes.getD x.elem.toNat 0≤16 * 1000:=Int.mul_le_mul (by omega) hs.2 hs.1 (by omega)
      have hm0:0≤x.many * sizes.getD x.elem.toNat 0:=Int.mul_nonneg (by omega) hs.1
      refine go ?_
      refine rt ?_
      refine⟨?_,e36⟩
      rw[hr hd (decide_eq_true he) (decide_eq_true (by omega))];rfl
    ·refine rt ?_
     refine⟨?_,e36⟩
     rw[hr hd (decide_eq_false (by omega)) rfl];cases (decide (x.many≤16))<;>rfl
   ·refine rt ?_
    refine⟨?_,e36⟩
    rw[hr hd rfl rfl];rfl
  ·refine rt ?_
   refine⟨?_,e14⟩
   rw[mayL5 hb5,hc];rfl
 ·refine rt ?_
  exact⟨by simp[one,Zi,hb,hb2,hb3,hb4,hb5],e14⟩
end Go.Proofs.YtemggiegiejopaaDoor
namespace Go.Proofs.YtemggiegiejopaaDoor
open Go.Am
set_option linter.unusedVariables false
set_option linter.unusedSimpArgs false
set_option maxHeartbeats 4000000
theorem mayL_pos {T:List LType} {x:LType} {k:Nat} {s:List Int} (hs:∀ y∈s,0≤y∧y≤1000) (hk:s.length=k) (h:(Zi T x k s).2=true):0≤(Zi T x k s).1∧(Zi T x k s).1≤1000:=by
 unfold Zi at h ⊢
 by_cases h1:x.kind=1
 ·rw[if_pos h1];simp
 rw[if_neg h1]at h ⊢
 by_cases h2:x.kind=2
 ·rw[if_pos h2];simp
 rw[if_neg h2]at h ⊢
 by_cases h3:x.kind=3
 ·rw[if_pos h3];simp
 rw[if_neg h3]at h ⊢
 by_cases h4:x.kind=4
 ·rw[if_pos h4]at h ⊢
  cases hc:(YC x&&Zk k x.parts)with
  |false=>rw[hc]at h;simp at h
  |true=>
   rw[hc]at h
   simp only[if_true]at h ⊢
   simp only[Bool.and_eq_true,decide_eq_true_eq]at h hc
   have hpos:∀ l:List Int,(∀ y∈l,0≤y)→0≤l.sum:=by
    intro l
    induction l with
    |nil=>intro _;simp
    |cons a l ih=>intro hl;have:=ih fun y hy=>hl y (by simp[hy]);have:=hl a (by simp);simp;omega
   have:=hpos (x.parts.map fun n=>s.getD n.toNat 0) fun y hy=>by
    obtain⟨n,hn,rfl⟩:=List.mem_map.1 hy
    have:=List.all_eq_true.1 hc.2 n hn
    simp at this
    exact(hs _ (ZV (by omega))).1
   omega
 rw[if_neg h4]at h ⊢
 by_cases h5:x.kind=5
 ·rw[if_pos h5]at h ⊢
  cases hc:(YC x&&Zk k [x.elem]&&decide (1≤x.many)&&decide (x.many≤16))with
  |false=>rw[hc]at h;simp at h
  |true=>
   rw[hc]at h
   simp only[if_true]at h ⊢
   simp only[Bool.and_eq_true,decide_eq_true_eq]at h hc
   have hin:0≤x.elem∧x.elem<(k:Int):=by
    have:=List.all_eq_true.1 hc.1.1.2 x.elem (by simp)
    simpa using this
   have:=Int.mul_nonneg (a:=x.many) (b:=s.getD x.elem.toNat 0) (by omega) (hs _ (ZV (by omega))).1
   omega
 rw[if_neg h5];simp
theorem zDP {T:List LType}:∀ {k:Nat} {s:List Int},YX T k=some s→s.length=k∧∀ y∈s,0≤y∧y≤1000
 |0,s,h=>by cases h;simp
 |k+1,s,h=>by
  unfold YX at h
  cases hk:YX T k with
  |none=>rw[hk]at h;cases h
  |some s0=>
   rw[hk]at h
   obtain⟨h1,h2⟩:=zDP hk
   simp only at h
   split at h
   ·cases h
    rename_i hm
    refine⟨by simp[h1],fun y hy=> ?_⟩
    rcases List.mem_append.1 hy with hy|hy
    ·exact h2 y hy
    ·simp at hy;subst hy;exact mayL_pos h2 h1 hm
   ·cases h
theorem zCp {T:List LType}:∀ {k m:Nat},YX T k=none→k≤m→YX T m=none
 |k,0,h,hm=>by have:k=0:=by omega
               subst this;exact h
 |k,m+1,h,hm=>by
  by_cases e:k=m+1
  ·subst e;exact h
  ·unfold YX;rw[zCp h (by omega)]
noncomputable def body48_0:ACode:=(.seq (.region [⟨some 13,none,(.bin .lss (.tmp 12) (.tmp 11))⟩]) (.seq (.cond (.tmp 13) .skip (.exit 0)) (.seq (.block 1 (.seq (.region [⟨some 14,none,(.mov (.tmp 12))⟩,⟨some 4,none,(.mov (.tmp 14))⟩]) (.seq (.region [⟨some 16,none,(.mov (.tmp 0))⟩,⟨some 17,none,(.mov (.tmp 4))⟩,⟨some 18,none,(.mov (.tmp 3))⟩,⟨some 19,none,(.call (.func 60) [(.tmp 16),(.tmp 17),(.tmp 18)])⟩,⟨some 15,none,(.mov (.tmp 19))⟩,⟨some 20,none,(.extract (.tmp 15) 0)⟩,⟨some 21,none,(.extract (.tmp 15) 1)⟩,⟨some 5,none,(.mov (.tmp 20))⟩,⟨some 6,none,(.mov (.tmp 21))⟩]) (.seq (.seq (.region [⟨some 22,none,(.mov (.tmp 6))⟩,⟨some 23,none,(.un .not (.tmp 22))⟩]) (.cond (.tmp 23) (.seq (.region [⟨some 2,none,(.mov (.const (.int .i64 30)))⟩]) .ret) .skip)) (.region [⟨some 24,none,(.mov (.tmp 3))⟩,⟨some 25,none,(.mov (.tmp 5))⟩,⟨some 26,none,(.buildSlice 1 1 [(.int .i64 0)] [(0,1,(.tmp 25))])⟩,⟨some 27,none,(.append 1 (.tmp 24) (.tmp 26))⟩,⟨some 3,none,(.mov (.tmp 27))⟩]))))) (.region [⟨some 28,none,(.bin .add (.tmp 12) (.const (.int .i64 1)))⟩,⟨some 12,none,(.mov (.tmp 28))⟩]))))
noncomputable def body48:ACode:=(.seq (.region [⟨some 2,none,(.mov (.const (.int .i64 0)))⟩]) (.seq (.seq (.region [⟨some 7,none,(.mov (.tmp 0))⟩,⟨some 8,none,(.len (.tmp 7))⟩,⟨some 9,none,(.bin .gtr (.tmp 8) (.const (.int .i64 16)))⟩]) (.cond (.tmp 9) (.seq (.region [⟨some 2,none,(.mov (.const (.int .i64 4)))⟩]) .ret) .skip)) (.seq (.region [⟨some 3,none,(.mov (.const (.slice none 0 0)))⟩]) (.seq (.seq (.region [⟨some 10,none,(.mov (.tmp 0))⟩,⟨some 11,none,(.len (.tmp 10))⟩,⟨some 12,none,(.mov (.const (.int .i64 0)))⟩]) (.block 0 (.loop body48_0))) (.seq (.region [⟨some 2,none,(.mov (.const (.int .i64 0)))⟩]) .ret)))))
set_option maxRecDepth 100000 in
theorem tab48:tb.code 48=some ⟨29,[(2,none)],body48⟩:=by kernel_rfl
theorem check_ok (h:AHeap) (tv:Value) (T:List LType) (st:SlT h tv T) (hT:T.length≤100) (hp:∀ x∈T,x.parts.length≤100):
  WC Tryd.prog tb 48 [tv] h fun r h'=>r=I (zBO T)∧Ext h h':=by
 obtain⟨_,_,_,rfl⟩:=zI st
 refine WC.of (zF 48) tab48 ?_;simp only[zO,Nat.zero_add,Nat.reduceAdd]
 refine go ?_
 refine WX.br (fun hb=> ?_) (fun hb=> ?_)<;>simp only[DB]at hb<;>refine go ?_
 ·refine rt ?_
  refine⟨?_,Ext.refl h⟩
  unfold zBO;rw[if_pos (by omega)];rfl
 have hb':¬16<T.length:=by omega
 refine WX.loopA [13,14,4,16,17,18,19,15,20,21,5,6,22,23,2,24,25,26,27,3,28,12] (by kernel_rfl) (fun i=>T.length - i) (fun i t h1=>Ext h h1∧zC t 12=I i∧i≤T.length∧∃ v s,zC t 3=v∧YX T i=some s∧OwnN h h1 v s) 0 ?_ ?_
 ·exact⟨Ext.refl _,sl_,Nat.zero_le _,_,[],sl_,rfl,.inl ⟨rfl,rfl⟩⟩
 rintro i t h1 hsame ⟨e1,s12,hi,v,s,s3,hs,o⟩
 have st1:=st.ext e1
 obtain⟨hl,hr⟩:=zDP hs
 refine go ?_
 refine WX.br (fun hc=> ?_) (fun hc=> ?_)<;>simp only[DB]at hc<;>refine go ?_
 ·have hi':i<T.length:=by omega
  refine WO.con (may_ok h1 _ v T i s st1 o.sl hi' hT hp hl hr) ?_
  rintro _ h2 ⟨rfl,e2⟩
  have o2:=o.ext e2
  refine go ?_
  have hst:YX T (i+1)=if (Zi T (T.getD i default) i s).2 then some (s++[(Zi T (T.getD i default) i s).1]) else none:=by
   conv=>lhs;unfold YX
   rw[hs]
  refine WX.br (fun hd=> ?_) (fun hd=> ?_)<;>simp only[DB]at hd<;>refine go ?_
  ·refine rt ?_
   refine⟨?_,e1.trans e2⟩
   rw[hd,if_neg (by simp)]at hst
   unfold zBO;rw[if_neg hb',zCp hst (by omega)];rfl
  ·refine WO.bl [(Zi T (T.getD i default) i s).1] ?_
   intro v3 h3 e3 o3
   refine go ?_
   refine WO.apN (o2.ext e3) o3.sl ((e1.trans e2).trans e3) (by simp;omega) ?_
   intro v4 h4 e4 o4
   refine go ?_
   rw[hd,if_pos rfl]at hst
   exact zA (i+1) (by omega) ⟨e4,sln,by omega,_,_,sl_,hst,o4⟩
 ·refine rt ?_
  refine⟨?_,e1⟩
  have:i=T.length:=by omega
  subst this
  unfold zBO;rw[if_neg hb',hs];rfl
end Go.Proofs.YtemggiegiejopaaDoor
namespace Go.Proofs.YtemggiegiejopaaDoor
open Go.Am
set_option linter.unusedVariables false
set_option linter.unusedSimpArgs false
structure LIns where
 op:Int
 ty:Int
 a:Int
 b:Int
 n:Int
 args:List Int
 frm:List Int
structure LEnd where
 kind:Int
 a:Int
 to:Int
 els:Int
structure LBlk where
 ins:List LIns
 fin:LEnd
structure LFn where
 sig:Int
 blocks:List LBlk
instance:Inhabited LIns:=⟨⟨0,0,0,0,0,[],[]⟩⟩
instance:Inhabited LBlk:=⟨⟨[],⟨0,0,0,0⟩⟩⟩
instance:Inhabited LFn:=⟨⟨0,[]⟩⟩
def RIns (h:AHeap) (cs:List Value) (x:LIns):Prop:=∃ va vf,cs=[.int .u8 x.op,I x.ty,I x.a,I x.b,I x.n,va,vf]∧SlI h va x.args∧SlI h vf x.frm∧(x.args.length:Int)≤1152921504606846976∧(x.frm.length:Int)≤1152921504606846976∧0≤x.op∧x.op≤255
theorem RIns.ext {h h' cs x} (r:RIns h cs x) (e:Ext h h'):RIns h' cs x:=let ⟨va,vf,a,b,c,d⟩:=r;⟨va,vf,a,b.ext e,c.ext e,d⟩
def RBlk (h:AHeap) (cs:List Value) (x:LBlk):Prop:=∃ vi,cs=[vi,.int .u8 x.fin.kind,I x.fin.a,I x.fin.to,I x.fin.els]∧SlR 7 RIns h vi x.ins∧(x.ins.length:Int)≤1152921504606846976
theorem RBlk.ext {h h' cs x} (r:RBlk h cs x) (e:Ext h h'):RBlk h' cs x:=let ⟨va,a,b,c⟩:=r;⟨va,a,SlR.ext (fun _ _ r=>RIns.ext r e) b e,c⟩
def RFn (h:AHeap) (cs:List Value) (x:LFn):Prop:=∃ vb,cs=[I x.sig,vb]∧SlR 5 RBlk h vb x.blocks∧(x.blocks.length:Int)≤1152921504606846976
theorem RFn.ext {h h' cs x} (r:RFn h cs x) (e:Ext h h'):RFn h' cs x:=let ⟨va,a,b,c⟩:=r;⟨va,a,SlR.ext (fun _ _ r=>RBlk.ext r e) b e,c⟩
abbrev SlN (h:AHeap) (v:Value) (l:List LIns):Prop:=SlR 7 RIns h v l
abbrev SlB (h:AHeap) (v:Value) (l:List LBlk):Prop:=SlR 5 RBlk h v l
abbrev SlF (h:AHeap) (v:Value) (l:List LFn):Prop:=SlR 2 RFn h v l
theorem SlN.ext {h h' v T} (s:SlN h v T) (e:Ext h h'):SlN h' v T:=SlR.ext (fun _ _ r=>RIns.ext r e) s e
theorem SlB.ext {h h' v T} (s:SlB h v T) (e:Ext h h'):SlB h' v T:=SlR.ext (fun _ _ r=>RBlk.ext r e) s e
theorem SlF.ext {h h' v T} (s:SlF h v T) (e:Ext h h'):SlF h' v T:=SlR.ext (fun _ _ r=>RFn.ext r e) s e
theorem yS {α:Type} [Inhabited α] {c:Nat} {R:AHeap→List Value→α→Prop} {h:AHeap} {v:Value} {T:List α} {i:Nat} (s:SlR c R h v T) (hi:i<T.length):∃ cs,R h cs (T.getD i default)∧Piece h v (i * c) cs∧IsSl v:=by
 obtain⟨cs,a,_,c⟩:=s.at hi
 exact⟨cs,by simpa [List.getD,List.getElem?_eq_getElem hi]using a,c,s.some hi⟩
theorem zFs (a n k):(Value.slice a n k).cells=#[.slice a n k]:=rfl
def Tbl (h:AHeap):Prop:=zg h 0=some Zc∧0<h.n
theorem Tbl.ext {h h'} (t:Tbl h) (e:Ext h h'):Tbl h':=⟨e.row t.2 t.1,Nat.lt_of_lt_of_le t.2 e.n⟩
theorem tbl0:(cut Zc (0+0 * 6) 6).bind (zH true)=some (.agg (Zt (hasT.getD 0 (false,false,false,false,false,false))).toArray):=by kernel_rfl
theorem tbl1:(cut Zc (0+1 * 6) 6).bind (zH true)=some (.agg (Zt (hasT.getD 1 (false,false,false,false,false,false))).toArray):=by kernel_rfl
theorem tbl2:(cut Zc (0+2 * 6) 6).bind (zH true)=some (.agg (Zt (hasT.getD 2 (false,false,false,false,false,false))).toArray):=by kernel_rfl
theorem tbl3:(cut Zc (0+3 * 6) 6).bind (zH true)=some (.agg (Zt (hasT.getD 3 (false,false,false,false,false,false))).toArray):=by kernel_rfl
theorem tbl4:(cut Zc (0+4 * 6) 6).bind (zH true)=some (.agg (Zt (hasT.getD 4 (false,false,false,false,false,false))).toArray):=by kernel_rfl
theorem tbl5:(cut Zc (0+5 * 6) 6).bind (zH true)=some (.agg (Zt (hasT.getD 5 (false,false,false,false,false,false))).toArray):=by kernel_rfl
theorem tbl6:(cut Zc (0+6 * 6) 6).bind (zH true)=some (.agg (Zt (hasT.getD 6 (false,false,false,false,false,false))).toArray):=by kernel_rfl
theorem tbl7:(cut Zc (0+7 * 6) 6).bind (zH true)=some (.agg (Zt (hasT.getD 7 (false,false,false,false,false,false))).toArray):=by kernel_rfl
theorem tbl8:(cut Zc (0+8 * 6) 6).bind (zH true)=some (.agg (Zt (hasT.getD 8 (false,false,false,false,false,false))).toArray):=by kernel_rfl
theorem tbl9:(cut Zc (0+9 * 6) 6).bind (zH true)=some (.agg (Zt (hasT.getD 9 (false,false,false,false,false,false))).toArray):=by kernel_rfl
theorem tbl10:(cut Zc (0+10 * 6) 6).bind (zH true)=some (.agg (Zt (hasT.getD 10 (false,false,false,false,false,false))).toArray):=by kernel_rfl
theorem tbl11:(cut Zc (0+11 * 6) 6).bind (zH true)=some (.agg (Zt (hasT.getD 11 (false,false,false,false,false,false))).toArray):=by kernel_rfl
theorem tbl12:(cut Zc (0+12 * 6) 6).bind (zH true)=some (.agg (Zt (hasT.getD 12 (false,false,false,false,false,false))).toArray):=by kernel_rfl
theorem tbl13:(cut Zc (0+13 * 6) 6).bind (zH true)=some (.agg (Zt (hasT.getD 13 (false,false,false,false,false,false))).toArray):=by kernel_rfl
theorem tbl14:(cut Zc (0+14 * 6) 6).bind (zH true)=some (.agg (Zt (hasT.getD 14 (false,false,false,false,false,false))).toArray):=by kernel_rfl
theorem tbl15:(cut Zc (0+15 * 6) 6).bind (zH true)=some (.agg (Zt (hasT.getD 15 (false,false,false,false,false,false))).toArray):=by kernel_rfl
theorem tbl16:(cut Zc (0+16 * 6) 6).bind (zH true)=some (.agg (Zt (hasT.getD 16 (false,false,false,false,false,false))).toArray):=by kernel_rfl
theorem tbl17:(cut Zc (0+17 * 6) 6).bind (zH true)=some (.agg (Zt (hasT.getD 17 (false,false,false,false,false,false))).toArray):=by kernel_rfl
theorem tbl18:(cut Zc (0+18 * 6) 6).bind (zH true)=some (.agg (Zt (hasT.getD 18 (false,false,false,false,false,false))).toArray):=by kernel_rfl
theorem tbl19:(cut Zc (0+19 * 6) 6).bind (zH true)=some (.agg (Zt (hasT.getD 19 (false,false,false,false,false,false))).toArray):=by kernel_rfl
theorem tbl20:(cut Zc (0+20 * 6) 6).bind (zH true)=some (.agg (Zt (hasT.getD 20 (false,false,false,false,false,false))).toArray):=by kernel_rfl
theorem tbl21:(cut Zc (0+21 * 6) 6).bind (zH true)=some (.agg (Zt (hasT.getD 21 (false,false,false,false,false,false))).toArray):=by kernel_rfl
theorem tbl22:(cut Zc (0+22 * 6) 6).bind (zH true)=some (.agg (Zt (hasT.getD 22 (false,false,false,false,false,false))).toArray):=by kernel_rfl
theorem tbl_at:∀ i,i<23→(cut Zc (0+i * 6) 6).bind (zH true)=some (.agg (Zt (hasT.getD i (false,false,false,false,false,false))).toArray):=by
 intro i hi
 match i,hi with
 |0,_=>exact tbl0
 |1,_=>exact tbl1
 |2,_=>exact tbl2
 |3,_=>exact tbl3
 |4,_=>exact tbl4
 |5,_=>exact tbl5
 |6,_=>exact tbl6
 |7,_=>exact tbl7
 |8,_=>exact tbl8
 |9,_=>exact tbl9
 |10,_=>exact tbl10
 |11,_=>exact tbl11
 |12,_=>exact tbl12
 |13,_=>exact tbl13
 |14,_=>exact tbl14
 |15,_=>exact tbl15
 |16,_=>exact tbl16
 |17,_=>exact tbl17
 |18,_=>exact tbl18
 |19,_=>exact tbl19
 |20,_=>exact tbl20
 |21,_=>exact tbl21
 |22,_=>exact tbl22
 |n+23,h=>exact absurd h (by omega)
def zQ (n m:Int):Bool:=decide (0≤n)&&decide (n<m)
def allL (l:List Int) (m:Int):Bool:=l.all fun n=>zQ n m
structure LSz where
 types:Int
 funcs:Int
 regs:Int
 blocks:Int
def Yl (x:LIns) (s:LSz):Bool:=
 if x.op=3∨x.op=18 then decide (0≤x.n)&&decide (x.n<s.funcs) else if x.op=14 then decide (0≤x.n)&&decide (x.n<8) else true
def yJ (l:List LBlk):Int:=(l.map fun b=>(b.ins.length:Int)).sum
def zBP (x:LEnd) (s:LSz):Bool:=
 if x.kind=1 then (decide (x.a=0)&&decide (x.els=0))&&zQ x.to s.blocks
 else if x.kind=2 then zQ x.a s.regs&&zQ x.to s.blocks&&zQ x.els s.blocks
 else if x.kind=3 then (decide (x.to=0)&&decide (x.els=0))&&zQ x.a s.regs
 else false
def oddL (x:LIns) (s:LSz):Bool:=
 let q:=z9 x.op
 ((((decide (q=(false,false,false,false,false,false))||(q.1&& !zQ x.a s.regs))||(q.2.1&& !zQ x.b s.regs))|| !allL x.args s.regs)|| !Yl x s)
def noneL (x:LIns):Bool:=
 let q:=z9 x.op
 ((((!q.1&& !decide (x.a=0))||(!q.2.1&& !decide (x.b=0)))||(!q.2.2.1&& !decide (x.n=0)))||(!q.2.2.2.1&&decide (0<(x.args.length:Int))))||(!q.2.2.2.2.1&&decide (0<(x.frm.length:Int)))
def kindL (x:LIns) (s:LSz):Bool:=
 let q:=z9 x.op
 (q.2.2.2.2.2&&zQ x.ty s.types)||(!q.2.2.2.2.2&&decide (x.ty=0))
def zCJ (x:LIns) (s:LSz):Bool:=
 !oddL x s&&(if (z9 x.op).2.2.2.2.1 then !noneL x&&kindL x s&&allL x.frm s.blocks&&decide (x.frm.length=x.args.length)&&decide (1≤x.frm.length)&&decide (x.frm.length≤16) else !noneL x&&kindL x s&&decide (x.args.length≤4))
def blkL (b:LBlk) (s:LSz):Bool:=(b.ins.any fun x=> !zCJ x s)|| !zBP b.fin s
def szL (T:List LType) (nf:Int) (f:LFn):LSz:=⟨T.length,nf,((T.getD f.sig.toNat default).parts.length:Int)+yJ f.blocks,f.blocks.length⟩
def zCK (T:List LType) (f:LFn):Bool:=
 (((!zQ f.sig T.length|| !decide ((T.getD f.sig.toNat default).kind=3))|| !zQ ((f.blocks.length:Int) - 1) 16)||decide (128<yJ f.blocks))
def fnL (T:List LType) (nf:Int) (f:LFn):Bool:=if zCK T f then false else !(f.blocks.any fun b=>blkL b (szL T nf f))
def Y9 (T:List LType) (F:List LFn):Int:=
 if zBO T≠0 then zBO T else if (!zQ ((F.length:Int) - 1) 8||F.any fun f=> !fnL T F.length f) then 60 else 0
def yV (T:List LType) (F:List LFn) (f:Int):Int×Int:=
 if Y9 T F≠0 then (0,Y9 T F) else if zQ f F.length then (((T.getD (F.getD f.toNat default).sig.toNat default).parts.length:Int),0) else (0,2)
def YE (T:List LType) (F:List LFn) (f:Int):Int×Int:=
 if (yV T F f).2≠0 then (0,(yV T F f).2) else ((yV T F f).1+yJ (F.getD f.toNat default).blocks,0)
structure Small (T:List LType) (F:List LFn):Prop where
 types:T.length≤100
 parts:∀ x∈T,x.parts.length≤100
 funcs:F.length≤1000
 blocks:∀ f∈F,f.blocks.length≤1000
 ins:∀ f∈F,∀ b∈f.blocks,b.ins.length≤1000
end Go.Proofs.YtemggiegiejopaaDoor
namespace Go.Proofs.YtemggiegiejopaaDoor
open Go.Am
set_option linter.unusedVariables false
set_option linter.unusedSimpArgs false
set_option maxHeartbeats 4000000
noncomputable def body29:ACode:=(.seq (.region [⟨some 4,none,(.mov (.const (.bool false)))⟩]) (.seq (.region [⟨some 5,none,(.mov (.tmp 0))⟩,⟨some 6,none,(.bin .geq (.tmp 5) (.const (.int .i64 0)))⟩,⟨some 7,none,(.mov (.tmp 6))⟩,⟨some 8,some (7,true),(.mov (.tmp 0))⟩,⟨some 9,some (7,true),(.mov (.tmp 1))⟩,⟨some 10,some (7,true),(.bin .lss (.tmp 8) (.tmp 9))⟩,⟨some 11,none,(.pick (.tmp 7) (.tmp 10) (.const (.bool false)))⟩,⟨some 4,none,(.mov (.tmp 11))⟩]) .ret))
set_option maxRecDepth 100000 in
theorem tab29:tb.code 29=some ⟨12,[(4,none)],body29⟩:=by kernel_rfl
theorem yR (h:AHeap) (n m:Int):WC Tryd.prog tb 29 [I n,I m] h fun r h'=>r= .bool (zQ n m)∧h=h':=by
 refine WC.of (zF 29) tab29 ?_;simp only[zO,Nat.zero_add,Nat.reduceAdd]
 refine go ?_
 repeat' (first|(refine WX.br (fun hb=> ?_) (fun hb=> ?_)<;>(try simp only[DB]at hb)<;>refine go ?_)|(refine WO.sp (fun hb=> ?_) (fun hb=> ?_)<;>(try simp only[DB]at hb)<;>refine go ?_))
 all_goals (refine rt ?_;exact⟨by simp[one,zQ, *]<;>omega,rfl⟩)
noncomputable def body97:ACode:=(.seq (.region [⟨some 3,none,(.mov (.const (.bool false)))⟩]) (.seq (.region [⟨some 4,none,(.mov (.tmp 0))⟩,⟨some 5,none,(.load false 1 (.tmp 1))⟩,⟨some 6,none,(.call (.func 29) [(.tmp 4),(.tmp 5)])⟩,⟨some 7,none,(.un .not (.tmp 6))⟩,⟨some 3,none,(.mov (.tmp 7))⟩]) .ret))
set_option maxRecDepth 100000 in
theorem tab97:tb.code 97=some ⟨8,[(3,none)],body97⟩:=by kernel_rfl
theorem all1_ok (h h0:AHeap) (p:Value) (n m:Int) (o:OwnC h0 h p [I m]):WC Tryd.prog tb 97 [I n,p] h fun r h'=>r= .bool (!zQ n m)∧Ext h h':=by
 refine WC.of (zF 97) tab97 ?_;simp only[zO,Nat.zero_add,Nat.reduceAdd]
 refine go ?_
 refine WO.con (yR h n m) ?_
 rintro _ _ ⟨rfl,rfl⟩
 refine go ?_
 refine rt ?_
 exact⟨rfl,Ext.refl h⟩
noncomputable def body80:ACode:=(.seq (.region [⟨some 3,none,(.box (.tmp 1))⟩,⟨some 4,none,(.mov (.const (.bool false)))⟩]) (.seq (.region [⟨some 5,none,(.mov (.tmp 0))⟩,⟨some 6,none,(.mkFunc (.func 97) [] [(.tmp 3)])⟩,⟨some 7,none,(.call (.func 76) [(.tmp 5),(.tmp 6)])⟩,⟨some 8,none,(.un .not (.tmp 7))⟩,⟨some 4,none,(.mov (.tmp 8))⟩]) .ret))
set_option maxRecDepth 100000 in
theorem tab80:tb.code 80=some ⟨9,[(4,none)],body80⟩:=by kernel_rfl
theorem all_ok (h:AHeap) (v:Value) (m:Int) (l:List Int) (s:SlI h v l) (hl:(l.length:Int)≤9223372036854775807):WC Tryd.prog tb 80 [v,I m] h fun r h'=>r= .bool (allL l m)∧Ext h h':=by
 refine WC.of (zF 80) tab80 ?_;simp only[zO,Nat.zero_add,Nat.reduceAdd]
 refine go ?_
 refine WO.bx ?_
 intro p h1 e1 o1
 have s1:=s.ext e1
 refine go ?_
 refine WO.con (zDT h1 v _ l (fun n=> !zQ n m) s1 hl ?_) ?_
 ·intro x hx h2 e2
  exact WV.func (all1_ok h2 h p x m (o1.ext e2))
 rintro _ h2 ⟨rfl,e2⟩
 refine go ?_
 refine rt ?_
 refine⟨?_,e1.trans e2⟩
 show Value.bool _=_
 rw[List.not_any_eq_all_not];simp[allL]
noncomputable def body81:ACode:=(.seq (.region [⟨some 2,none,(.box (.tmp 0))⟩,⟨some 3,none,(.box (.tmp 1))⟩,⟨some 4,none,(.mov (.const (.bool false)))⟩]) (.seq (.seq (.region [⟨some 5,none,(.fld 0 (.tmp 2))⟩,⟨some 6,none,(.load false 1 (.tmp 5))⟩]) (.block 0 (.seq (.seq (.region [⟨some 8,none,(.bin .eql (.tmp 6) (.const (.int .u8 3)))⟩,⟨some 7,none,(.mov (.tmp 8))⟩]) (.cond (.tmp 7) .skip (.region [⟨some 9,none,(.bin .eql (.tmp 6) (.const (.int .u8 18)))⟩,⟨some 7,none,(.mov (.tmp 9))⟩]))) (.cond (.tmp 7) (.seq (.region [⟨some 10,none,(.fld 4 (.tmp 2))⟩,⟨some 11,none,(.load false 1 (.tmp 10))⟩,⟨some 12,none,(.bin .geq (.tmp 11) (.const (.int .i64 0)))⟩,⟨some 13,none,(.mov (.tmp 12))⟩,⟨some 14,some (13,true),(.fld 4 (.tmp 2))⟩,⟨some 15,some (13,true),(.load false 1 (.tmp 14))⟩,⟨some 16,some (13,true),(.fld 1 (.tmp 3))⟩,⟨some 17,some (13,true),(.load false 1 (.tmp 16))⟩,⟨some 18,some (13,true),(.bin .lss (.tmp 15) (.tmp 17))⟩,⟨some 19,none,(.pick (.tmp 13) (.tmp 18) (.const (.bool false)))⟩,⟨some 4,none,(.mov (.tmp 19))⟩]) .ret) (.seq (.region [⟨some 21,none,(.bin .eql (.tmp 6) (.const (.int .u8 14)))⟩,⟨some 20,none,(.mov (.tmp 21))⟩]) (.cond (.tmp 20) (.seq (.region [⟨some 22,none,(.fld 4 (.tmp 2))⟩,⟨some 23,none,(.load false 1 (.tmp 22))⟩,⟨some 24,none,(.bin .geq (.tmp 23) (.const (.int .i64 0)))⟩,⟨some 25,none,(.mov (.tmp 24))⟩,⟨some 26,some (25,true),(.fld 4 (.tmp 2))⟩,⟨some 27,some (25,true),(.load false 1 (.tmp 26))⟩,⟨some 28,some (25,true),(.bin .lss (.tmp 27) (.const (.int .i64 8)))⟩,⟨some 29,none,(.pick (.tmp 25) (.tmp 28) (.const (.bool false)))⟩,⟨some 4,none,(.mov (.tmp 29))⟩]) .ret) .skip)))))) (.seq (.region [⟨some 4,none,(.mov (.const (.bool true)))⟩]) .ret)))
set_option maxRecDepth 100000 in
theorem tab81:tb.code 81=some ⟨30,[(4,none)],body81⟩:=by kernel_rfl
theorem zI6 (h:AHeap) (x:LIns) (va vf:Value) (s:LSz):
  WC Tryd.prog tb 81 [.agg #[.int .u8 x.op,I x.ty,I x.a,I x.b,I x.n,va,vf],.agg #[I s.types,I s.funcs,I s.regs,I s.blocks]] h fun r h'=>r= .bool (Yl x s)∧Ext h h':=by
 refine WC.of (zF 81) tab81 ?_;simp only[zO,Nat.zero_add,Nat.reduceAdd]
 refine go ?_
 refine WO.bx ?_
 intro p2 h1 e1 o1
 refine WO.bx ?_
 intro p3 h2 e2 o2
 have o1:=o1.ext e2
 refine go ?_
 repeat' (first|(refine WX.br (fun hb=> ?_) (fun hb=> ?_)<;>(try simp only[DB]at hb)<;>refine go ?_)|(refine WO.sp (fun hb=> ?_) (fun hb=> ?_)<;>(try simp only[DB]at hb)<;>refine go ?_))
 all_goals (refine rt ?_;exact⟨by simp[one,Yl, *]<;>omega,e1.trans e2⟩)
noncomputable def body28:ACode:=(.seq (.region [⟨some 2,none,(.alloc [(.bool false),(.bool false),(.bool false),(.bool false),(.bool false),(.bool false)])⟩]) (.seq (.seq (.region [⟨some 3,none,(.mov (.tmp 0))⟩,⟨some 4,none,(.conv .i64 (.tmp 3))⟩,⟨some 5,none,(.bin .lss (.tmp 4) (.const (.int .i64 23)))⟩]) (.cond (.tmp 5) (.seq (.region [⟨some 6,none,(.mov (.tmp 0))⟩,⟨some 7,none,(.idxArr 23 6 (.global 0) (.tmp 6))⟩,⟨some 8,none,(.load true 6 (.tmp 7))⟩,⟨none,none,(.store 6 (.tmp 2) (.tmp 8))⟩]) .ret) .skip)) (.seq (.region [⟨some 9,none,(.build [(.bool false),(.bool false),(.bool false),(.bool false),(.bool false),(.bool false)] [])⟩,⟨none,none,(.store 6 (.tmp 2) (.tmp 9))⟩]) .ret)))
set_option maxRecDepth 100000 in
theorem tab28:tb.code 28=some ⟨10,[(2,some (true,6))],body28⟩:=by kernel_rfl
theorem of_ok (h:AHeap) (op:Int) (tb:Tbl h) (h0:0≤op) (h255:op≤255):
  WC Tryd.prog Go.Proofs.YtemggiegiejopaaDoor.tb 28 [.int .u8 op] h fun r h'=>r= .agg (Zt (z9 op)).toArray∧Ext h h':=by
 refine WC.of (zF 28) tab28 ?_;simp only[zO,Nat.zero_add,Nat.reduceAdd]
 refine go ?_
 refine WO.al ?_
 intro p h1 e1 o1
 have t1:=(tb.ext e1).1
 refine go ?_
 refine WX.br (fun hb=> ?_) (fun hb=> ?_)<;>simp only[DB]at hb
 ·have ht:=tbl_at op.toNat (by omega)
  obtain⟨i,rfl⟩:∃ i:Nat,op=i:=⟨op.toNat,by omega⟩
  rw[Int.toNat_natCast]at ht
  refine go ?_
  refine WO.stC0 o1 e1 ?_
  intro h2 e2 o2 _
  refine go ?_
  refine rt ?_
  exact⟨rfl,e2⟩
 ·refine go ?_
  refine WO.stC0 o1 e1 ?_
  intro h2 e2 o2 _
  refine go ?_
  refine rt ?_
  refine⟨?_,e2⟩
  unfold z9
  have hl:hasT.length≤op.toNat:=by simp[hasT];omega
  rw[List.getD_eq_getElem?_getD,List.getElem?_eq_none hl];rfl
noncomputable def body27_0:ACode:=(.seq (.region [⟨some 9,none,(.bin .lss (.tmp 8) (.tmp 7))⟩]) (.seq (.cond (.tmp 9) .skip (.exit 0)) (.seq (.block 1 (.seq (.region [⟨some 10,none,(.idx 5 (.tmp 6) (.tmp 8))⟩,⟨some 11,none,(.load true 5 (.tmp 10))⟩,⟨some 4,none,(.alloc [(.slice none 0 0),(.int .u8 0),(.int .i64 0),(.int .i64 0),(.int .i64 0)])⟩,⟨none,none,(.store 5 (.tmp 4) (.tmp 11))⟩]) (.region [⟨some 12,none,(.mov (.tmp 2))⟩,⟨some 13,none,(.fld 0 (.tmp 4))⟩,⟨some 14,none,(.load false 1 (.tmp 13))⟩,⟨some 15,none,(.len (.tmp 14))⟩,⟨some 16,none,(.bin .add (.tmp 12) (.tmp 15))⟩,⟨some 2,none,(.mov (.tmp 16))⟩]))) (.region [⟨some 17,none,(.bin .add (.tmp 8) (.const (.int .i64 1)))⟩,⟨some 8,none,(.mov (.tmp 17))⟩]))))
noncomputable def body27:ACode:=(.seq (.region [⟨some 1,none,(.box (.tmp 0))⟩,⟨some 2,none,(.mov (.const (.int .i64 0)))⟩]) (.seq (.seq (.region [⟨some 5,none,(.fld 1 (.tmp 1))⟩,⟨some 6,none,(.load false 1 (.tmp 5))⟩,⟨some 7,none,(.len (.tmp 6))⟩,⟨some 8,none,(.mov (.const (.int .i64 0)))⟩]) (.block 0 (.loop body27_0))) (.seq (.region [⟨some 18,none,(.mov (.tmp 2))⟩,⟨some 2,none,(.mov (.tmp 18))⟩]) .ret)))
set_option maxRecDepth 100000 in
theorem tab27:tb.code 27=some ⟨19,[(2,none)],body27⟩:=by kernel_rfl
theorem zC1 (h:AHeap) (sig:Int) (vb:Value) (l:List LBlk) (s:SlB h vb l) (hl:l.length≤1000) (hb:∀ b∈l,b.ins.length≤1000):
  WC Tryd.prog tb 27 [.agg #[I sig,vb]] h fun r h'=>r=I (yJ l)∧Ext h h':=by
 refine WC.of (zF 27) tab27 ?_;simp only[zO,Nat.zero_add,Nat.reduceAdd]
 refine go ?_
 refine WO.bx ?_
 intro p h1 e1 o1
 have s1:=s.ext e1
 refine go ?_
 refine WX.loopA [9,10,11,4,12,13,14,15,16,2,17,8] (by kernel_rfl) (fun i=>l.length - i) (fun i t h2=>Ext h1 h2∧zC t 8=I i∧i≤l.length∧zC t 2=I (yJ (l.take i))∧0≤yJ (l.take i)∧yJ (l.take i)≤1000 * i) 0 ?_ ?_
 ·exact⟨Ext.refl _,sl_,Nat.zero_le _,sl_,by simp[yJ],by simp[yJ]⟩
 rintro i t h2 hsame ⟨e2,s8,hi,s2,hm,hn⟩
 have s3:=s1.ext e2
 refine go ?_
 refine WX.br (fun hc=> ?_) (fun hc=> ?_)<;>simp only[DB]at hc
 ·have hi':i<l.length:=by omega
  obtain⟨cs,⟨vi,rfl,si,hsi⟩,pc,hs⟩:=yS s3 hi'
  obtain⟨_,_,_,rfl⟩:=zI si
  have hbi:(l.getD i default).ins.length≤1000:=hb _ (by simp[List.getD,List.getElem?_eq_getElem hi'])
  refine go ?_
  refine WO.al ?_
  intro p4 h3 e3 o3
  refine WO.stC0 o3 e3 ?_
  intro h4 e4 o4 _
  have si:=SlN.ext si e4
  refine go ?_
  have e:yJ (l.take (i+1))=yJ (l.take i)+((l.getD i default).ins.length:Int):=by
   unfold yJ
   rw[List.take_add_one,List.map_append,List.sum_append];simp[List.getD,List.getElem?_eq_getElem hi']
  exact zA (i+1) (by omega) ⟨e2.trans e4,sln,by omega,by rw[e];exact sl_,by omega,by omega⟩
 ·refine go ?_
  refine rt ?_
  have:i=l.length:=by omega
  subst this
  exact⟨by simp[one],e1.trans e2⟩
end Go.Proofs.YtemggiegiejopaaDoor
namespace Go.Proofs.YtemggiegiejopaaDoor
open Go.Am
set_option linter.unusedVariables false
set_option linter.unusedSimpArgs false
set_option maxHeartbeats 4000000
noncomputable def body67:ACode:=(.seq (.region [⟨some 2,none,(.box (.tmp 0))⟩,⟨some 3,none,(.box (.tmp 1))⟩,⟨some 4,none,(.mov (.const (.bool false)))⟩]) (.seq (.seq (.region [⟨some 5,none,(.fld 0 (.tmp 2))⟩,⟨some 6,none,(.load false 1 (.tmp 5))⟩]) (.block 0 (.seq (.region [⟨some 8,none,(.bin .eql (.tmp 6) (.const (.int .u8 1)))⟩,⟨some 7,none,(.mov (.tmp 8))⟩]) (.cond (.tmp 7) (.seq (.region [⟨some 9,none,(.load true 4 (.tmp 2))⟩,⟨some 10,none,(.fld 0 (.tmp 2))⟩,⟨some 11,none,(.load false 1 (.tmp 10))⟩,⟨some 12,none,(.fld 2 (.tmp 2))⟩,⟨some 13,none,(.load false 1 (.tmp 12))⟩,⟨some 14,none,(.build [(.int .u8 0),(.int .i64 0),(.int .i64 0),(.int .i64 0)] [(0,1,(.tmp 11)),(2,1,(.tmp 13))])⟩,⟨some 15,none,(.binP .eql 39 (.tmp 9) (.tmp 14))⟩,⟨some 16,none,(.mov (.tmp 15))⟩,⟨some 17,some (16,true),(.fld 2 (.tmp 2))⟩,⟨some 18,some (16,true),(.load false 1 (.tmp 17))⟩,⟨some 19,some (16,true),(.fld 3 (.tmp 3))⟩,⟨some 20,some (16,true),(.load false 1 (.tmp 19))⟩,⟨some 21,some (16,true),(.call (.func 29) [(.tmp 18),(.tmp 20)])⟩,⟨some 22,none,(.pick (.tmp 16) (.tmp 21) (.const (.bool false)))⟩,⟨some 4,none,(.mov (.tmp 22))⟩]) .ret) (.seq (.region [⟨some 24,none,(.bin .eql (.tmp 6) (.const (.int .u8 2)))⟩,⟨some 23,none,(.mov (.tmp 24))⟩]) (.cond (.tmp 23) (.seq (.region [⟨some 25,none,(.fld 1 (.tmp 2))⟩,⟨some 26,none,(.load false 1 (.tmp 25))⟩,⟨some 27,none,(.fld 2 (.tmp 3))⟩,⟨some 28,none,(.load false 1 (.tmp 27))⟩,⟨some 29,none,(.call (.func 29) [(.tmp 26),(.tmp 28)])⟩,⟨some 30,none,(.mov (.tmp 29))⟩,⟨some 31,some (30,true),(.fld 2 (.tmp 2))⟩,⟨some 32,some (30,true),(.load false 1 (.tmp 31))⟩,⟨some 33,some (30,true),(.fld 3 (.tmp 3))⟩,⟨some 34,some (30,true),(.load false 1 (.tmp 33))⟩,⟨some 35,some (30,true),(.call (.func 29) [(.tmp 32),(.tmp 34)])⟩,⟨some 36,none,(.pick (.tmp 30) (.tmp 35) (.const (.bool false)))⟩,⟨some 37,none,(.mov (.tmp 36))⟩,⟨some 38,some (37,true),(.fld 3 (.tmp 2))⟩,⟨some 39,some (37,true),(.load false 1 (.tmp 38))⟩,⟨some 40,some (37,true),(.fld 3 (.tmp 3))⟩,⟨some 41,some (37,true),(.load false 1 (.tmp 40))⟩,⟨some 42,some (37,true),(.call (.func 29) [(.tmp 39),(.tmp 41)])⟩,⟨some 43,none,(.pick (.tmp 37) (.tmp 42) (.const (.bool false)))⟩,⟨some 4,none,(.mov (.tmp 43))⟩]) .ret) (.seq (.region [⟨some 45,none,(.bin .eql (.tmp 6) (.const (.int .u8 3)))⟩,⟨some 44,none,(.mov (.tmp 45))⟩]) (.cond (.tmp 44) (.seq (.region [⟨some 46,none,(.load true 4 (.tmp 2))⟩,⟨some 47,none,(.fld 0 (.tmp 2))⟩,⟨some 48,none,(.load false 1 (.tmp 47))⟩,⟨some 49,none,(.fld 1 (.tmp 2))⟩,⟨some 50,none,(.load false 1 (.tmp 49))⟩,⟨some 51,none,(.build [(.int .u8 0),(.int .i64 0),(.int .i64 0),(.int .i64 0)] [(0,1,(.tmp 48)),(1,1,(.tmp 50))])⟩,⟨some 52,none,(.binP .eql 39 (.tmp 46) (.tmp 51))⟩,⟨some 53,none,(.mov (.tmp 52))⟩,⟨some 54,some (53,true),(.fld 1 (.tmp 2))⟩,⟨some 55,some (53,true),(.load false 1 (.tmp 54))⟩,⟨some 56,some (53,true),(.fld 2 (.tmp 3))⟩,⟨some 57,some (53,true),(.load false 1 (.tmp 56))⟩,⟨some 58,some (53,true),(.call (.func 29) [(.tmp 55),(.tmp 57)])⟩,⟨some 59,none,(.pick (.tmp 53) (.tmp 58) (.const (.bool false)))⟩,⟨some 4,none,(.mov (.tmp 59))⟩]) .ret) .skip)))))))) (.seq (.region [⟨some 4,none,(.mov (.const (.bool false)))⟩]) .ret)))
set_option maxRecDepth 100000 in
theorem tab67:tb.code 67=some ⟨60,[(4,none)],body67⟩:=by kernel_rfl
theorem end_ok (h:AHeap) (x:LEnd) (s:LSz):
  WC Tryd.prog tb 67 [.agg #[.int .u8 x.kind,I x.a,I x.to,I x.els],.agg #[I s.types,I s.funcs,I s.regs,I s.blocks]] h fun r h'=>r= .bool (zBP x s)∧Ext h h':=by
 refine WC.of (zF 67) tab67 ?_;simp only[zO,Nat.zero_add,Nat.reduceAdd]
 refine go ?_
 refine WO.bx ?_
 intro p2 h1 e1 o1
 refine WO.bx ?_
 intro p3 h2 e2 o2
 have o1:=o1.ext e2
 refine go ?_
 refine WX.br (fun hb=> ?_) (fun hb=> ?_)<;>simp only[DB]at hb<;>refine go ?_
 ·refine WO.bp (zHW (xs:=#[.int .u8 x.kind,I x.a,I x.to,I x.els]) (ys:=#[.int .u8 x.kind,I 0,I x.to,I 0]) (b:=decide (x.a=0)&&decide (x.els=0)) (by kernel_rfl) (by simp[YG,zCc,I];rw[Bool.eq_iff_iff];simp)) ?_
  refine go ?_
  refine WO.sp (fun hc=> ?_) (fun hc=> ?_)<;>refine go ?_
  ·refine WO.con (yR h2 x.to s.blocks) ?_
   rintro _ _ ⟨rfl,rfl⟩
   refine go ?_
   refine rt ?_
   exact⟨by simp only[zBP,if_pos hb,hc,Bool.true_and];rfl,e1.trans e2⟩
  ·refine rt ?_
   exact⟨by simp only[zBP,if_pos hb,hc,Bool.false_and];rfl,e1.trans e2⟩
 refine WX.br (fun hb2=> ?_) (fun hb2=> ?_)<;>simp only[DB]at hb2<;>refine go ?_
 ·refine WO.con (yR h2 x.a s.regs) ?_
  rintro _ _ ⟨rfl,rfl⟩
  refine go ?_
  refine WO.sp (fun hc=> ?_) (fun hc=> ?_)<;>refine go ?_
  ·refine WO.con (yR h2 x.to s.blocks) ?_
   rintro _ _ ⟨rfl,rfl⟩
   refine go ?_
   refine WO.sp (fun hd=> ?_) (fun hd=> ?_)<;>refine go ?_
   ·refine WO.con (yR h2 x.els s.blocks) ?_
    rintro _ _ ⟨rfl,rfl⟩
    refine go ?_
    refine rt ?_
    exact⟨by simp only[zBP,if_neg hb,if_pos hb2,hc,hd,Bool.true_and];rfl,e1.trans e2⟩
   ·refine rt ?_
    exact⟨by simp only[zBP,if_neg hb,if_pos hb2,hc,hd,Bool.true_and,Bool.false_and];rfl,e1.trans e2⟩
  ·refine rt ?_
   exact⟨by simp only[zBP,if_neg hb,if_pos hb2,hc,Bool.true_and,Bool.false_and];rfl,e1.trans e2⟩
 refine WX.br (fun hb3=> ?_) (fun hb3=> ?_)<;>simp only[DB]at hb3<;>refine go ?_
 ·refine WO.bp (zHW (xs:=#[.int .u8 x.kind,I x.a,I x.to,I x.els]) (ys:=#[.int .u8 x.kind,I x.a,I 0,I 0]) (b:=decide (x.to=0)&&decide (x.els=0)) (by kernel_rfl) (by simp[YG,zCc,I];rw[Bool.eq_iff_iff];simp)) ?_
  refine go ?_
  refine WO.sp (fun hc=> ?_) (fun hc=> ?_)<;>refine go ?_
  ·refine WO.con (yR h2 x.a s.regs) ?_
   rintro _ _ ⟨rfl,rfl⟩
   refine go ?_
   refine rt ?_
   exact⟨by simp only[zBP,if_neg hb,if_neg hb2,if_pos hb3,hc,Bool.true_and];rfl,e1.trans e2⟩
  ·refine rt ?_
   exact⟨by simp only[zBP,if_neg hb,if_neg hb2,if_pos hb3,hc,Bool.false_and];rfl,e1.trans e2⟩
 ·refine rt ?_
  exact⟨by simp only[zBP,if_neg hb,if_neg hb2,if_neg hb3];rfl,e1.trans e2⟩
noncomputable def body63:ACode:=(.seq (.region [⟨some 2,none,(.box (.tmp 0))⟩,⟨some 3,none,(.box (.tmp 1))⟩,⟨some 4,none,(.mov (.const (.bool false)))⟩]) (.seq (.region [⟨some 8,none,(.fld 0 (.tmp 2))⟩,⟨some 9,none,(.load false 1 (.tmp 8))⟩,⟨some 10,none,(.call (.func 28) [(.tmp 9)])⟩,⟨some 5,none,(.alloc [(.bool false),(.bool false),(.bool false),(.bool false),(.bool false),(.bool false)])⟩,⟨none,none,(.store 6 (.tmp 5) (.tmp 10))⟩]) (.seq (.seq (.region [⟨some 11,none,(.load true 6 (.tmp 5))⟩,⟨some 12,none,(.build [(.bool false),(.bool false),(.bool false),(.bool false),(.bool false),(.bool false)] [])⟩,⟨some 13,none,(.binP .eql 73 (.tmp 11) (.tmp 12))⟩,⟨some 14,none,(.mov (.tmp 13))⟩,⟨some 15,some (14,false),(.fld 0 (.tmp 5))⟩,⟨some 16,some (14,false),(.load false 1 (.tmp 15))⟩,⟨some 17,some (14,false),(.mov (.tmp 16))⟩,⟨some 18,some (17,true),(.fld 2 (.tmp 2))⟩,⟨some 19,some (17,true),(.load false 1 (.tmp 18))⟩,⟨some 20,some (17,true),(.fld 2 (.tmp 3))⟩,⟨some 21,some (17,true),(.load false 1 (.tmp 20))⟩,⟨some 22,some (17,true),(.call (.func 29) [(.tmp 19),(.tmp 21)])⟩,⟨some 23,some (17,true),(.un .not (.tmp 22))⟩,⟨some 24,some (14,false),(.pick (.tmp 17) (.tmp 23) (.const (.bool false)))⟩,⟨some 25,none,(.pick (.tmp 14) (.const (.bool true)) (.tmp 24))⟩,⟨some 26,none,(.mov (.tmp 25))⟩,⟨some 27,some (26,false),(.fld 1 (.tmp 5))⟩,⟨some 28,some (26,false),(.load false 1 (.tmp 27))⟩,⟨some 29,some (26,false),(.mov (.tmp 28))⟩,⟨some 30,some (29,true),(.fld 3 (.tmp 2))⟩,⟨some 31,some (29,true),(.load false 1 (.tmp 30))⟩,⟨some 32,some (29,true),(.fld 2 (.tmp 3))⟩,⟨some 33,some (29,true),(.load false 1 (.tmp 32))⟩,⟨some 34,some (29,true),(.call (.func 29) [(.tmp 31),(.tmp 33)])⟩,⟨some 35,some (29,true),(.un .not (.tmp 34))⟩,⟨some 36,some (26,false),(.pick (.tmp 29) (.tmp 35) (.const (.bool false)))⟩,⟨some 37,none,(.pick (.tmp 26) (.const (.bool true)) (.tmp 36))⟩,⟨some 38,none,(.mov (.tmp 37))⟩,⟨some 39,some (38,false),(.fld 5 (.tmp 2))⟩,⟨some 40,some (38,false),(.load false 1 (.tmp 39))⟩,⟨some 41,some (38,false),(.fld 2 (.tmp 3))⟩,⟨some 42,some (38,false),(.load false 1 (.tmp 41))⟩,⟨some 43,some (38,false),(.call (.func 80) [(.tmp 40),(.tmp 42)])⟩,⟨some 44,some (38,false),(.un .not (.tmp 43))⟩,⟨some 45,none,(.pick (.tmp 38) (.const (.bool true)) (.tmp 44))⟩,⟨some 46,none,(.mov (.tmp 45))⟩,⟨some 47,some (46,false),(.load true 7 (.tmp 2))⟩,⟨some 48,some (46,false),(.load true 4 (.tmp 3))⟩,⟨some 49,some (46,false),(.call (.func 81) [(.tmp 47),(.tmp 48)])⟩,⟨some 50,some (46,false),(.un .not (.tmp 49))⟩,⟨some 51,none,(.pick (.tmp 46) (.const (.bool true)) (.tmp 50))⟩]) (.cond (.tmp 51) (.seq (.region [⟨some 4,none,(.mov (.const (.bool false)))⟩]) .ret) .skip)) (.seq (.region [⟨some 52,none,(.fld 0 (.tmp 5))⟩,⟨some 53,none,(.load false 1 (.tmp 52))⟩,⟨some 54,none,(.un .not (.tmp 53))⟩,⟨some 55,none,(.mov (.tmp 54))⟩,⟨some 56,some (55,true),(.fld 2 (.tmp 2))⟩,⟨some 57,some (55,true),(.load false 1 (.tmp 56))⟩,⟨some 58,some (55,true),(.bin .neq (.tmp 57) (.const (.int .i64 0)))⟩,⟨some 59,none,(.pick (.tmp 55) (.tmp 58) (.const (.bool false)))⟩,⟨some 60,none,(.mov (.tmp 59))⟩,⟨some 61,some (60,false),(.fld 1 (.tmp 5))⟩,⟨some 62,some (60,false),(.load false 1 (.tmp 61))⟩,⟨some 63,some (60,false),(.un .not (.tmp 62))⟩,⟨some 64,some (60,false),(.mov (.tmp 63))⟩,⟨some 65,some (64,true),(.fld 3 (.tmp 2))⟩,⟨some 66,some (64,true),(.load false 1 (.tmp 65))⟩,⟨some 67,some (64,true),(.bin .neq (.tmp 66) (.const (.int .i64 0)))⟩,⟨some 68,some (60,false),(.pick (.tmp 64) (.tmp 67) (.const (.bool false)))⟩,⟨some 69,none,(.pick (.tmp 60) (.const (.bool true)) (.tmp 68))⟩,⟨some 70,none,(.mov (.tmp 69))⟩,⟨some 71,some (70,false),(.fld 2 (.tmp 5))⟩,⟨some 72,some (70,false),(.load false 1 (.tmp 71))⟩,⟨some 73,some (70,false),(.un .not (.tmp 72))⟩,⟨some 74,some (70,false),(.mov (.tmp 73))⟩,⟨some 75,some (74,true),(.fld 4 (.tmp 2))⟩,⟨some 76,some (74,true),(.load false 1 (.tmp 75))⟩,⟨some 77,some (74,true),(.bin .neq (.tmp 76) (.const (.int .i64 0)))⟩,⟨some 78,some (70,false),(.pick (.tmp 74) (.tmp 77) (.const (.bool false)))⟩,⟨some 79,none,(.pick (.tmp 70) (.const (.bool true)) (.tmp 78))⟩,⟨some 80,none,(.mov (.tmp 79))⟩,⟨some 81,some (80,false),(.fld 3 (.tmp 5))⟩,⟨some 82,some (80,false),(.load false 1 (.tmp 81))⟩,⟨some 83,some (80,false),(.un .not (.tmp 82))⟩,⟨some 84,some (80,false),(.mov (.tmp 83))⟩,⟨some 85,some (84,true),(.fld 5 (.tmp 2))⟩,⟨some 86,some (84,true),(.load false 1 (.tmp 85))⟩,⟨some 87,some (84,true),(.len (.tmp 86))⟩,⟨some 88,some (84,true),(.bin .gtr (.tmp 87) (.const (.int .i64 0)))⟩,⟨some 89,some (80,false),(.pick (.tmp 84) (.tmp 88) (.const (.bool false)))⟩,⟨some 90,none,(.pick (.tmp 80) (.const (.bool true)) (.tmp 89))⟩,⟨some 91,none,(.mov (.tmp 90))⟩,⟨some 92,some (91,false),(.fld 4 (.tmp 5))⟩,⟨some 93,some (91,false),(.load false 1 (.tmp 92))⟩,⟨some 94,some (91,false),(.un .not (.tmp 93))⟩,⟨some 95,some (91,false),(.mov (.tmp 94))⟩,⟨some 96,some (95,true),(.fld 6 (.tmp 2))⟩,⟨some 97,some (95,true),(.load false 1 (.tmp 96))⟩,⟨some 98,some (95,true),(.len (.tmp 97))⟩,⟨some 99,some (95,true),(.bin .gtr (.tmp 98) (.const (.int .i64 0)))⟩,⟨some 100,some (91,false),(.pick (.tmp 95) (.tmp 99) (.const (.bool false)))⟩,⟨some 101,none,(.pick (.tmp 91) (.const (.bool true)) (.tmp 100))⟩,⟨some 6,none,(.mov (.tmp 101))⟩]) (.seq (.region [⟨some 102,none,(.fld 5 (.tmp 5))⟩,⟨some 103,none,(.load false 1 (.tmp 102))⟩,⟨some 104,none,(.mov (.tmp 103))⟩,⟨some 105,some (104,true),(.fld 1 (.tmp 2))⟩,⟨some 106,some (104,true),(.load false 1 (.tmp 105))⟩,⟨some 107,some (104,true),(.fld 0 (.tmp 3))⟩,⟨some 108,some (104,true),(.load false 1 (.tmp 107))⟩,⟨some 109,some (104,true),(.call (.func 29) [(.tmp 106),(.tmp 108)])⟩,⟨some 110,none,(.pick (.tmp 104) (.tmp 109) (.const (.bool false)))⟩,⟨some 111,none,(.mov (.tmp 110))⟩,⟨some 112,some (111,false),(.fld 5 (.tmp 5))⟩,⟨some 113,some (111,false),(.load false 1 (.tmp 112))⟩,⟨some 114,some (111,false),(.un .not (.tmp 113))⟩,⟨some 115,some (111,false),(.mov (.tmp 114))⟩,⟨some 116,some (115,true),(.fld 1 (.tmp 2))⟩,⟨some 117,some (115,true),(.load false 1 (.tmp 116))⟩,⟨some 118,some (115,true),(.bin .eql (.tmp 117) (.const (.int .i64 0)))⟩,⟨some 119,some (111,false),(.pick (.tmp 115) (.tmp 118) (.const (.bool false)))⟩,⟨some 120,none,(.pick (.tmp 111) (.const (.bool true)) (.tmp 119))⟩,⟨some 7,none,(.mov (.tmp 120))⟩]) (.seq (.seq (.region [⟨some 121,none,(.fld 4 (.tmp 5))⟩,⟨some 122,none,(.load false 1 (.tmp 121))⟩]) (.cond (.tmp 122) (.seq (.region [⟨some 123,none,(.mov (.tmp 6))⟩,⟨some 124,none,(.un .not (.tmp 123))⟩,⟨some 125,none,(.mov (.tmp 124))⟩,⟨some 126,some (125,true),(.mov (.tmp 7))⟩,⟨some 127,none,(.pick (.tmp 125) (.tmp 126) (.const (.bool false)))⟩,⟨some 128,none,(.mov (.tmp 127))⟩,⟨some 129,some (128,true),(.fld 6 (.tmp 2))⟩,⟨some 130,some (128,true),(.load false 1 (.tmp 129))⟩,⟨some 131,some (128,true),(.fld 3 (.tmp 3))⟩,⟨some 132,some (128,true),(.load false 1 (.tmp 131))⟩,⟨some 133,some (128,true),(.call (.func 80) [(.tmp 130),(.tmp 132)])⟩,⟨some 134,none,(.pick (.tmp 128) (.tmp 133) (.const (.bool false)))⟩,⟨some 135,none,(.mov (.tmp 134))⟩,⟨some 136,some (135,true),(.fld 6 (.tmp 2))⟩,⟨some 137,some (135,true),(.load false 1 (.tmp 136))⟩,⟨some 138,some (135,true),(.len (.tmp 137))⟩,⟨some 139,some (135,true),(.fld 5 (.tmp 2))⟩,⟨some 140,some (135,true),(.load false 1 (.tmp 139))⟩,⟨some 141,some (135,true),(.len (.tmp 140))⟩,⟨some 142,some (135,true),(.bin .eql (.tmp 138) (.tmp 141))⟩,⟨some 143,none,(.pick (.tmp 135) (.tmp 142) (.const (.bool false)))⟩,⟨some 144,none,(.mov (.tmp 143))⟩,⟨some 145,some (144,true),(.fld 6 (.tmp 2))⟩,⟨some 146,some (144,true),(.load false 1 (.tmp 145))⟩,⟨some 147,some (144,true),(.len (.tmp 146))⟩,⟨some 148,some (144,true),(.bin .geq (.tmp 147) (.const (.int .i64 1)))⟩,⟨some 149,none,(.pick (.tmp 144) (.tmp 148) (.const (.bool false)))⟩,⟨some 150,none,(.mov (.tmp 149))⟩,⟨some 151,some (150,true),(.fld 6 (.tmp 2))⟩,⟨some 152,some (150,true),(.load false 1 (.tmp 151))⟩,⟨some 153,some (150,true),(.len (.tmp 152))⟩,⟨some 154,some (150,true),(.bin .leq (.tmp 153) (.const (.int .i64 16)))⟩,⟨some 155,none,(.pick (.tmp 150) (.tmp 154) (.const (.bool false)))⟩,⟨some 4,none,(.mov (.tmp 155))⟩]) .ret) .skip)) (.seq (.region [⟨some 156,none,(.mov (.tmp 6))⟩,⟨some 157,none,(.un .not (.tmp 156))⟩,⟨some 158,none,(.mov (.tmp 157))⟩,⟨some 159,some (158,true),(.mov (.tmp 7))⟩,⟨some 160,none,(.pick (.tmp 158) (.tmp 159) (.const (.bool false)))⟩,⟨some 161,none,(.mov (.tmp 160))⟩,⟨some 162,some (161,true),(.fld 5 (.tmp 2))⟩,⟨some 163,some (161,true),(.load false 1 (.tmp 162))⟩,⟨some 164,some (161,true),(.len (.tmp 163))⟩,⟨some 165,some (161,true),(.bin .leq (.tmp 164) (.const (.int .i64 4)))⟩,⟨some 166,none,(.pick (.tmp 161) (.tmp 165) (.const (.bool false)))⟩,⟨some 4,none,(.mov (.tmp 166))⟩]) .ret)))))))
set_option maxRecDepth 100000 in
theorem tab63:tb.code 63=some ⟨167,[(4,none)],body63⟩:=by kernel_rfl
theorem ins_ok (h:AHeap) (x:LIns) (va vf:Value) (s:LSz) (T:Tbl h) (sa:SlI h va x.args) (sf:SlI h vf x.frm) (hla:(x.args.length:Int)≤9223372036854775807) (hlf:(x.frm.length:Int)≤9223372036854775807) (ho:0≤x.op∧x.op≤255):
  WC Tryd.prog tb 63 [.agg #[.int .u8 x.op,I x.ty,I x.a,I x.b,I x.n,va,vf],.agg #[I s.types,I s.funcs,I s.regs,I s.blocks]] h fun r h'=>r= .bool (zCJ x s)∧Ext h h':=by
 refine WC.of (zF 63) tab63 ?_;simp only[zO,Nat.zero_add,Nat.reduceAdd]
 refine go ?_
 refine WO.bx ?_
 intro p2 h1 e1 o1
 refine WO.bx ?_
 intro p3 h2 e2 o2
 have o1:=o1.ext e2
 have T2:=(T.ext e1).ext e2
 refine go ?_
 refine WO.con (of_ok h2 x.op T2 ho.1 ho.2) ?_
 rintro _ h3 ⟨rfl,e3⟩
 refine go ?_
 refine WO.al ?_
 intro p5 h4 e4 o5
 refine WO.stC0 o5 e4 ?_
 intro h5 e5 o5 _
 have o1:=(o1.ext e3).ext e5
 have o2:=(o2.ext e3).ext e5
 have e15:=((e1.trans e2).trans e3).trans e5
 have sa5:=sa.ext e15
 have sf5:=sf.ext e15
 have hins:zCJ x s=zCJ x s:=rfl
 conv at hins=>rhs;unfold zCJ oddL noneL kindL
 generalize hq:z9 x.op=q at *
 obtain⟨qa,qb,qn,qg,qf,qw⟩:=q
 simp only at hins
 refine go ?_
 refine WO.bp (zHW (xs:=#[.bool qa,.bool qb,.bool qn,.bool qg,.bool qf,.bool qw]) (ys:=#[.bool false,.bool false,.bool false,.bool false,.bool false,.bool false]) (b:=decide ((qa,qb,qn,qg,qf,qw)=(false,false,false,false,false,false))) (by kernel_rfl) (by cases qa<;>cases qb<;>cases qn<;>cases qg<;>cases qf<;>cases qw<;>rfl)) ?_
 replace o5:OwnC h3 h5 p5 [.bool qa,.bool qb,.bool qn,.bool qg,.bool qf,.bool qw]:=o5
 obtain⟨c0,hc0⟩:∃ c:Bool,c=decide ((qa,qb,qn,qg,qf,qw)=(false,false,false,false,false,false)):=⟨_,rfl⟩
 rw[←hc0]at hins
 rw[←hc0]
 refine WO.mid 12 (fun t' h'=>h5=h'∧zC t' 25= .bool (c0||(qa&& !zQ x.a s.regs))) ?_ ?_<;>simp only[List.take_succ_cons,List.take_zero,List.drop_succ_cons,List.drop_zero]
 ·refine go ?_
  refine WO.sp (fun hc=> ?_) (fun hc=> ?_)<;>refine go ?_
  ·exact⟨rfl,rfl,rfl,by simp only[hc,Bool.true_and,Bool.false_and,Bool.and_false,Bool.and_true,Bool.false_or,Bool.true_or,Bool.or_false,Bool.or_true,Bool.not_true,Bool.not_false];exact sl_⟩
  refine WO.sp (fun hd=> ?_) (fun hd=> ?_)<;>(try simp only[DB]at hd)<;>refine go ?_
  ·refine WO.con (yR h5 x.a s.regs) ?_
   rintro _ _ ⟨rfl,rfl⟩
   refine go ?_
   exact⟨rfl,rfl,rfl,by simp only[hc,hd,Bool.true_and,Bool.false_and,Bool.and_false,Bool.and_true,Bool.false_or,Bool.true_or,Bool.or_false,Bool.or_true,Bool.not_true,Bool.not_false];exact sl_⟩
  ·exact⟨rfl,rfl,rfl,by simp only[hc,hd,Bool.true_and,Bool.false_and,Bool.and_false,Bool.and_true,Bool.false_or,Bool.true_or,Bool.or_false,Bool.or_true,Bool.not_true,Bool.not_false];exact sl_⟩
 rintro t1 _ hs1 ⟨rfl,s25⟩
 obtain⟨c1,hc1⟩:∃ c:Bool,c=(c0||(qa&& !zQ x.a s.regs)):=⟨_,rfl⟩
 rw[←hc1]at s25 hins
 refine WO.mid 12 (fun t' h'=>h5=h'∧zC t' 37= .bool (c1||(qb&& !zQ x.b s.regs))) ?_ ?_<;>simp only[List.take_succ_cons,List.take_zero,List.drop_succ_cons,List.drop_zero]
 ·refine go ?_
  refine WO.sp (fun hc=> ?_) (fun hc=> ?_)<;>refine go ?_
  ·exact⟨rfl,rfl,rfl,by simp only[hc,Bool.true_and,Bool.false_and,Bool.and_false,Bool.and_true,Bool.false_or,Bool.true_or,Bool.or_false,Bool.or_true,Bool.not_true,Bool.not_false];exact sl_⟩
  refine WO.sp (fun hd=> ?_) (fun hd=> ?_)<;>(try simp only[DB]at hd)<;>refine go ?_
  ·refine WO.con (yR h5 x.b s.regs) ?_
   rintro _ _ ⟨rfl,rfl⟩
   refine go ?_
   exact⟨rfl,rfl,rfl,by simp only[hc,hd,Bool.true_and,Bool.false_and,Bool.and_false,Bool.and_true,Bool.false_or,Bool.true_or,Bool.or_false,Bool.or_true,Bool.not_true,Bool.not_false];exact sl_⟩
  ·exact⟨rfl,rfl,rfl,by simp only[hc,hd,Bool.true_and,Bool.false_and,Bool.and_false,Bool.and_true,Bool.false_or,Bool.true_or,Bool.or_false,Bool.or_true,Bool.not_true,Bool.not_false];exact sl_⟩
 rintro t2 _ hs2 ⟨rfl,s37⟩
 obtain⟨c2,hc2⟩:∃ c:Bool,c=(c1||(qb&& !zQ x.b s.regs)):=⟨_,rfl⟩
 rw[←hc2]at s37 hins
 refine WO.mid 8 (fun t' h'=>Ext h5 h'∧zC t' 45= .bool (c2|| !allL x.args s.regs)) ?_ ?_<;>simp only[List.take_succ_cons,List.take_zero,List.drop_succ_cons,List.drop_zero]
 ·refine go ?_
  refine WO.sp (fun hc=> ?_) (fun hc=> ?_)<;>refine go ?_
  ·exact⟨rfl,rfl,Ext.refl _,by simp only[hc,Bool.true_and,Bool.false_and,Bool.and_false,Bool.and_true,Bool.false_or,Bool.true_or,Bool.or_false,Bool.or_true,Bool.not_true,Bool.not_false];exact sl_⟩
  refine WO.con (all_ok h5 va s.regs x.args sa5 hla) ?_
  rintro _ h6 ⟨rfl,e6⟩
  refine go ?_
  exact⟨rfl,rfl,e6,by simp only[hc,Bool.true_and,Bool.false_and,Bool.and_false,Bool.and_true,Bool.false_or,Bool.true_or,Bool.or_false,Bool.or_true,Bool.not_true,Bool.not_false];exact sl_⟩
 rintro t3 h6 hs3 ⟨e6,s45⟩
 obtain⟨c3,hc3⟩:∃ c:Bool,c=(c2|| !allL x.args s.regs):=⟨_,rfl⟩
 rw[←hc3]at s45 hins
 have o1:=o1.ext e6
 have o2:=o2.ext e6
 have o5:=o5.ext e6
 have sa6:=sa5.ext e6
 have sf6:=sf5.ext e6
 have e16:=e15.trans e6
 refine WO.mid 6 (fun t' h'=>Ext h6 h'∧zC t' 51= .bool (c3|| !Yl x s)) ?_ ?_<;>simp only[List.take_succ_cons,List.take_zero,List.drop_succ_cons,List.drop_zero]
 ·refine go ?_
  refine WO.sp (fun hc=> ?_) (fun hc=> ?_)<;>refine go ?_
  ·exact⟨rfl,rfl,Ext.refl _,by simp only[hc,Bool.true_and,Bool.false_and,Bool.and_false,Bool.and_true,Bool.false_or,Bool.true_or,Bool.or_false,Bool.or_true,Bool.not_true,Bool.not_false];exact sl_⟩
  refine WO.con (zI6 h6 x va vf s) ?_
  rintro _ h7 ⟨rfl,e7⟩
  refine go ?_
  exact⟨rfl,rfl,e7,by simp only[hc,Bool.true_and,Bool.false_and,Bool.and_false,Bool.and_true,Bool.false_or,Bool.true_or,Bool.or_false,Bool.or_true,Bool.not_true,Bool.not_false];exact sl_⟩
 rintro t4 h7 hs4 ⟨e7,s51⟩
 obtain⟨c4,hc4⟩:∃ c:Bool,c=(c3|| !Yl x s):=⟨_,rfl⟩
 rw[←hc4]at s51 hins
 have o1:=o1.ext e7
 have o2:=o2.ext e7
 have o5:=o5.ext e7
 have sa7:=sa6.ext e7
 have sf7:=sf6.ext e7
 have e17:=e16.trans e7
 refine go ?_
 refine WX.br (fun hz=> ?_) (fun hz=> ?_)<;>rw[hz]at hins
 ·refine go ?_
  refine rt ?_
  exact⟨by rw[hins];rfl,e17⟩
 refine goC ?_
 refine goC ?_
 refine WO.mid 8 (fun t' h'=>h7=h'∧zC t' 59= .bool (!qa&& !decide (x.a=0))) ?_ ?_<;>simp only[List.take_succ_cons,List.take_zero,List.drop_succ_cons,List.drop_zero]
 ·refine go ?_
  refine WO.sp (fun hd=> ?_) (fun hd=> ?_)<;>(try simp only[DB]at hd)<;>refine go ?_
  ·exact⟨rfl,rfl,rfl,by simp only[hd,Bool.true_and,Bool.false_and,Bool.and_false,Bool.and_true,Bool.false_or,Bool.true_or,Bool.or_false,Bool.or_true,Bool.not_true,Bool.not_false];exact sl_⟩
  ·exact⟨rfl,rfl,rfl,by simp only[hd,Bool.true_and,Bool.false_and,Bool.and_false,Bool.and_true,Bool.false_or,Bool.true_or,Bool.or_false,Bool.or_true,Bool.not_true,Bool.not_false];exact sl_⟩
 rintro t5 _ hs5 ⟨rfl,s59⟩
 obtain⟨d0,hd0⟩:∃ c:Bool,c=(!qa&& !decide (x.a=0)):=⟨_,rfl⟩
 rw[←hd0]at s59 hins
 refine goC ?_
 refine WO.mid 10 (fun t' h'=>h7=h'∧zC t' 69= .bool (d0||(!qb&& !decide (x.b=0)))) ?_ ?_<;>simp only[List.take_succ_cons,List.take_zero,List.drop_succ_cons,List.drop_zero]
 ·refine go ?_
  refine WO.sp (fun hc=> ?_) (fun hc=> ?_)<;>refine go ?_
  ·exact⟨rfl,rfl,rfl,by simp only[hc,Bool.true_and,Bool.false_and,Bool.and_false,Bool.and_true,Bool.false_or,Bool.true_or,Bool.or_false,Bool.or_true,Bool.not_true,Bool.not_false];exact sl_⟩
  refine WO.sp (fun hd=> ?_) (fun hd=> ?_)<;>(try simp only[DB]at hd)<;>refine go ?_
  ·exact⟨rfl,rfl,rfl,by simp only[hc,hd,Bool.true_and,Bool.false_and,Bool.and_false,Bool.and_true,Bool.false_or,Bool.true_or,Bool.or_false,Bool.or_true,Bool.not_true,Bool.not_false];exact sl_⟩
  ·exact⟨rfl,rfl,rfl,by simp only[hc,hd,Bool.true_and,Bool.false_and,Bool.and_false,Bool.and_true,Bool.false_or,Bool.true_or,Bool.or_false,Bool.or_true,Bool.not_true,Bool.not_false];exact sl_⟩
 rintro t6 _ hs6 ⟨rfl,s69⟩
 obtain⟨d1,hd1⟩:∃ c:Bool,c=(d0||(!qb&& !decide (x.b=0))):=⟨_,rfl⟩
 rw[←hd1]at s69 hins
 refine goC ?_
 refine WO.mid 10 (fun t' h'=>h7=h'∧zC t' 79= .bool (d1||(!qn&& !decide (x.n=0)))) ?_ ?_<;>simp only[List.take_succ_cons,List.take_zero,List.drop_succ_cons,List.drop_zero]
 ·refine go ?_
  refine WO.sp (fun hc=> ?_) (fun hc=> ?_)<;>refine go ?_
  ·exact⟨rfl,rfl,rfl,by simp only[hc,Bool.true_and,Bool.false_and,Bool.and_false,Bool.and_true,Bool.false_or,Bool.true_or,Bool.or_false,Bool.or_true,Bool.not_true,Bool.not_false];exact sl_⟩
  refine WO.sp (fun hd=> ?_) (fun hd=> ?_)<;>(try simp only[DB]at hd)<;>refine go ?_
  ·exact⟨rfl,rfl,rfl,by simp only[hc,hd,Bool.true_and,Bool.false_and,Bool.and_false,Bool.and_true,Bool.false_or,Bool.true_or,Bool.or_false,Bool.or_true,Bool.not_true,Bool.not_false];exact sl_⟩
  ·exact⟨rfl,rfl,rfl,by simp only[hc,hd,Bool.true_and,Bool.false_and,Bool.and_false,Bool.and_true,Bool.false_or,Bool.true_or,Bool.or_false,Bool.or_true,Bool.not_true,Bool.not_false];exact sl_⟩
 rintro t7 _ hs7 ⟨rfl,s79⟩
 obtain⟨d2,hd2⟩:∃ c:Bool,c=(d1||(!qn&& !decide (x.n=0))):=⟨_,rfl⟩
 rw[←hd2]at s79 hins
 refine goC ?_
 refine WO.mid 11 (fun t' h'=>h7=h'∧zC t' 90= .bool (d2||(!qg&&decide (0<(x.args.length:Int))))) ?_ ?_<;>simp only[List.take_succ_cons,List.take_zero,List.drop_succ_cons,List.drop_zero]
 ·refine go ?_
  refine WO.sp (fun hc=> ?_) (fun hc=> ?_)<;>refine go ?_
  ·exact⟨rfl,rfl,rfl,by simp only[hc,Bool.true_and,Bool.false_and,Bool.and_false,Bool.and_true,Bool.false_or,Bool.true_or,Bool.or_false,Bool.or_true,Bool.not_true,Bool.not_false];exact sl_⟩
  refine WO.sp (fun hd=> ?_) (fun hd=> ?_)<;>(try simp only[DB]at hd)<;>refine go ?_
  ·exact⟨rfl,rfl,rfl,by simp only[hc,hd,Bool.true_and,Bool.false_and,Bool.and_false,Bool.and_true,Bool.false_or,Bool.true_or,Bool.or_false,Bool.or_true,Bool.not_true,Bool.not_false];exact sl_⟩
  ·exact⟨rfl,rfl,rfl,by simp only[hc,hd,Bool.true_and,Bool.false_and,Bool.and_false,Bool.and_true,Bool.false_or,Bool.true_or,Bool.or_false,Bool.or_true,Bool.not_true,Bool.not_false];exact sl_⟩
 rintro t8 _ hs8 ⟨rfl,s90⟩
 obtain⟨d3,hd3⟩:∃ c:Bool,c=(d2||(!qg&&decide (0<(x.args.length:Int)))):=⟨_,rfl⟩
 rw[←hd3]at s90 hins
 refine goC ?_
 refine WO.mid 12 (fun t' h'=>h7=h'∧zC t' 6= .bool (d3||(!qf&&decide (0<(x.frm.length:Int))))) ?_ ?_<;>simp only[List.take_succ_cons,List.take_zero,List.drop_succ_cons,List.drop_zero]
 ·refine go ?_
  refine WO.sp (fun hc=> ?_) (fun hc=> ?_)<;>refine go ?_
  ·exact⟨rfl,rfl,rfl,by simp only[hc,Bool.true_and,Bool.false_and,Bool.and_false,Bool.and_true,Bool.false_or,Bool.true_or,Bool.or_false,Bool.or_true,Bool.not_true,Bool.not_false];exact sl_⟩
  refine WO.sp (fun hd=> ?_) (fun hd=> ?_)<;>(try simp only[DB]at hd)<;>refine go ?_
  ·exact⟨rfl,rfl,rfl,by simp only[hc,hd,Bool.true_and,Bool.false_and,Bool.and_false,Bool.and_true,Bool.false_or,Bool.true_or,Bool.or_false,Bool.or_true,Bool.not_true,Bool.not_false];exact sl_⟩
  ·exact⟨rfl,rfl,rfl,by simp only[hc,hd,Bool.true_and,Bool.false_and,Bool.and_false,Bool.and_true,Bool.false_or,Bool.true_or,Bool.or_false,Bool.or_true,Bool.not_true,Bool.not_false];exact sl_⟩
 rintro t9 _ hs9 ⟨rfl,s6⟩
 obtain⟨d4,hd4⟩:∃ c:Bool,c=(d3||(!qf&&decide (0<(x.frm.length:Int)))):=⟨_,rfl⟩
 rw[←hd4]at s6 hins
 refine goC ?_
 refine WO.mid 9 (fun t' h'=>h7=h'∧zC t' 110= .bool (qw&&zQ x.ty s.types)) ?_ ?_<;>simp only[List.take_succ_cons,List.take_zero,List.drop_succ_cons,List.drop_zero]
 ·refine go ?_
  refine WO.sp (fun hd=> ?_) (fun hd=> ?_)<;>(try simp only[DB]at hd)<;>refine go ?_
  ·refine WO.con (yR h7 x.ty s.types) ?_
   rintro _ _ ⟨rfl,rfl⟩
   refine go ?_
   exact⟨rfl,rfl,rfl,by simp only[hd,Bool.true_and,Bool.false_and,Bool.and_false,Bool.and_true,Bool.false_or,Bool.true_or,Bool.or_false,Bool.or_true,Bool.not_true,Bool.not_false];exact sl_⟩
  ·exact⟨rfl,rfl,rfl,by simp only[hd,Bool.true_and,Bool.false_and,Bool.and_false,Bool.and_true,Bool.false_or,Bool.true_or,Bool.or_false,Bool.or_true,Bool.not_true,Bool.not_false];exact sl_⟩
 rintro t10 _ hs10 ⟨rfl,s110⟩
 obtain⟨k0,hk0⟩:∃ c:Bool,c=(qw&&zQ x.ty s.types):=⟨_,rfl⟩
 rw[←hk0]at s110 hins
 refine goC ?_
 refine WO.mid 11 (fun t' h'=>h7=h'∧zC t' 7= .bool (k0||(!qw&&decide (x.ty=0)))) ?_ ?_<;>simp only[List.take_succ_cons,List.take_zero,List.drop_succ_cons,List.drop_zero]
 ·refine go ?_
  refine WO.sp (fun hc=> ?_) (fun hc=> ?_)<;>refine go ?_
  ·exact⟨rfl,rfl,rfl,by simp only[hc,Bool.true_and,Bool.false_and,Bool.and_false,Bool.and_true,Bool.false_or,Bool.true_or,Bool.or_false,Bool.or_true,Bool.not_true,Bool.not_false];exact sl_⟩
  refine WO.sp (fun hd=> ?_) (fun hd=> ?_)<;>(try simp only[DB]at hd)<;>refine go ?_
  ·exact⟨rfl,rfl,rfl,by simp only[hc,hd,Bool.true_and,Bool.false_and,Bool.and_false,Bool.and_true,Bool.false_or,Bool.true_or,Bool.or_false,Bool.or_true,Bool.not_true,Bool.not_false];exact sl_⟩
  ·exact⟨rfl,rfl,rfl,by simp only[hc,hd,Bool.true_and,Bool.false_and,Bool.and_false,Bool.and_true,Bool.false_or,Bool.true_or,Bool.or_false,Bool.or_true,Bool.not_true,Bool.not_false];exact sl_⟩
 rintro t11 _ hs11 ⟨rfl,s7⟩
 obtain⟨k1,hk1⟩:∃ c:Bool,c=(k0||(!qw&&decide (x.ty=0))):=⟨_,rfl⟩
 rw[←hk1]at s7 hins
 refine go ?_
 refine WX.br (fun hf=> ?_) (fun hf=> ?_)<;>rw[hf]at hins<;>refine go ?_
 ·refine WO.sp (fun hd=> ?_) (fun hd=> ?_)<;>(try simp only[DB]at hd)<;>refine go ?_
  ·refine WO.sp (fun he=> ?_) (fun he=> ?_)<;>refine go ?_
   ·refine WO.con (all_ok h7 vf s.blocks x.frm sf7 hlf) ?_
    rintro _ h8 ⟨rfl,e8⟩
    have o1:=o1.ext e8
    have sa8:=sa7.ext e8
    have sf8:=sf7.ext e8
    refine go ?_
    refine WO.sp (fun hg=> ?_) (fun hg=> ?_)<;>refine go ?_
    ·refine WO.sp (fun hh=> ?_) (fun hh=> ?_)<;>simp only[DB]at hh<;>refine go ?_
     ·refine WO.sp (fun hi=> ?_) (fun hi=> ?_)<;>simp only[DB]at hi<;>refine go ?_
      ·refine rt ?_
       refine⟨?_,e17.trans e8⟩
       have hdec:decide ((x.frm.length:Int)≤16)=decide (x.frm.length≤16):=by rw[Bool.eq_iff_iff];simp only[decide_eq_true_eq];omega
       rw[hdec,hins,hd,he,hg,decide_eq_true (show x.frm.length=x.args.length by omega),decide_eq_true (show 1≤x.frm.length by omega)];rfl
      ·refine rt ?_
       refine⟨?_,e17.trans e8⟩
       rw[hins,hd,he,hg,decide_eq_true (show x.frm.length=x.args.length by omega),decide_eq_false (show ¬1≤x.frm.length by omega)];rfl
     ·refine rt ?_
      refine⟨?_,e17.trans e8⟩
      rw[hins,hd,he,hg,decide_eq_false (show ¬x.frm.length=x.args.length by omega)];rfl
    ·refine rt ?_
     refine⟨?_,e17.trans e8⟩
     rw[hins,hd,he,hg];rfl
   ·refine rt ?_
    refine⟨?_,e17⟩
    rw[hins,hd,he];rfl
  ·refine rt ?_
   refine⟨?_,e17⟩
   rw[hins,hd];rfl
 ·refine WO.sp (fun hd=> ?_) (fun hd=> ?_)<;>(try simp only[DB]at hd)<;>refine go ?_
  ·refine WO.sp (fun he=> ?_) (fun he=> ?_)<;>refine go ?_
   ·refine rt ?_
    refine⟨?_,e17⟩
    have hdec:decide ((x.args.length:Int)≤4)=decide (x.args.length≤4):=by rw[Bool.eq_iff_iff];simp only[decide_eq_true_eq];omega
    rw[hdec,hins,hd,he];rfl
   ·refine rt ?_
    refine⟨?_,e17⟩
    rw[hins,hd,he];rfl
  ·refine rt ?_
   refine⟨?_,e17⟩
   rw[hins,hd];rfl
end Go.Proofs.YtemggiegiejopaaDoor
namespace Go.Proofs.YtemggiegiejopaaDoor
open Go.Am
set_option linter.unusedVariables false
set_option linter.unusedSimpArgs false
set_option maxHeartbeats 4000000
theorem zL {α:Type} [Inhabited α] {l:List α} {i:Nat} (h:i<l.length):l.getD i default∈l:=by
 simp[List.getD,List.getElem?_eq_getElem h]
theorem Zg {α:Type} [Inhabited α] {l:List α} {x:α} (h:x∈l):∃ i,i<l.length∧l.getD i default=x:=by
 obtain⟨i,hi,e⟩:=List.getElem_of_mem h
 exact⟨i,hi,by simp[List.getD,List.getElem?_eq_getElem hi,e]⟩
noncomputable def body83_0:ACode:=(.seq (.region [⟨some 9,none,(.bin .lss (.tmp 8) (.tmp 7))⟩]) (.seq (.cond (.tmp 9) .skip (.exit 0)) (.seq (.block 1 (.seq (.region [⟨some 10,none,(.mov (.tmp 8))⟩,⟨some 5,none,(.mov (.tmp 10))⟩]) (.seq (.region [⟨some 11,none,(.mov (.tmp 1))⟩,⟨some 12,none,(.mov (.tmp 0))⟩,⟨some 13,none,(.mov (.tmp 5))⟩,⟨some 14,none,(.idx 7 (.tmp 12) (.tmp 13))⟩,⟨some 15,none,(.load true 7 (.tmp 14))⟩,⟨some 16,none,(.call (.tmp 11) [(.tmp 15)])⟩]) (.cond (.tmp 16) (.seq (.region [⟨some 17,none,(.mov (.tmp 5))⟩,⟨some 4,none,(.mov (.tmp 17))⟩]) .ret) .skip)))) (.region [⟨some 18,none,(.bin .add (.tmp 8) (.const (.int .i64 1)))⟩,⟨some 8,none,(.mov (.tmp 18))⟩]))))
noncomputable def body83:ACode:=(.seq (.region [⟨some 4,none,(.mov (.const (.int .i64 0)))⟩]) (.seq (.seq (.region [⟨some 6,none,(.mov (.tmp 0))⟩,⟨some 7,none,(.len (.tmp 6))⟩,⟨some 8,none,(.mov (.const (.int .i64 0)))⟩]) (.block 0 (.loop body83_0))) (.seq (.region [⟨some 4,none,(.mov (.const (.int .i64 (-1))))⟩]) .ret)))
set_option maxRecDepth 100000 in
theorem tab83:tb.code 83=some ⟨19,[(4,none)],body83⟩:=by kernel_rfl
theorem idxf_ins (h:AHeap) (v fv:Value) (l:List LIns) (p:LIns→Bool) (s:SlN h v l) (hl:(l.length:Int)≤9223372036854775807) (hf:∀ x∈l,∀ h1,Ext h h1→∀ cs,RIns h1 cs x→WV Tryd.prog tb fv [.agg cs.toArray] h1 fun r h'=>r= .bool (p x)∧Ext h1 h'):
  WC Tryd.prog tb 83 [v,fv] h fun r h'=>(∃ n:Int,r=I n∧(decide (0≤n))=l.any p)∧Ext h h':=by
 refine WC.of (zF 83) tab83 ?_;simp only[zO,Nat.zero_add,Nat.reduceAdd]
 refine go ?_
 refine WX.loopA [9,10,5,11,12,13,14,15,16,17,4,18,8] (by kernel_rfl) (fun i=>l.length - i) (fun i t h1=>Ext h h1∧zC t 8=I i∧i≤l.length∧∀ j,j<i→p (l.getD j default)=false) 0 ?_ ?_
 ·exact⟨Ext.refl h,sl_,Nat.zero_le _,fun j hj=>absurd hj (Nat.not_lt_zero _)⟩
 rintro i t h1 hsame ⟨e1,s8,hi,hm⟩
 have s1:=SlN.ext s e1
 refine go ?_
 refine WX.br (fun hb=> ?_) (fun hb=> ?_)<;>simp only[DB]at hb
 ·have hi':i<l.length:=by omega
  obtain⟨cs,hcs,pc,hs⟩:=yS s1 hi'
  have hff:=hf _ (zL hi') h1 e1 cs hcs
  obtain⟨va,vf,rfl,hR⟩:=hcs
  refine go ?_
  refine WO.conV hff ?_
  rintro _ h2 ⟨rfl,e2⟩
  refine go ?_
  refine WX.br (fun hb=> ?_) (fun hb=> ?_)
  ·refine go ?_
   refine rt ?_
   refine⟨⟨i,rfl,?_⟩,e1.trans e2⟩
   rw[List.any_eq_true.2 ⟨_,zL hi',hb⟩];simp
  ·refine go ?_
   refine zA (i+1) (by omega) ⟨e1.trans e2,sln,by omega,fun j hj=> ?_⟩
   by_cases e:j=i
   ·subst e;exact hb
   ·exact hm j (by omega)
 ·refine go ?_
  refine rt ?_
  refine⟨⟨-1,rfl,?_⟩,e1⟩
  rw[zAu fun x hx=>by obtain⟨j,hj,rfl⟩:=Zg hx;exact hm j (by omega)];rfl
noncomputable def body66:ACode:=(.seq (.region [⟨some 4,none,(.mov (.const (.bool false)))⟩]) (.seq (.region [⟨some 5,none,(.mov (.tmp 0))⟩,⟨some 6,none,(.mov (.tmp 1))⟩,⟨some 7,none,(.call (.func 83) [(.tmp 5),(.tmp 6)])⟩,⟨some 8,none,(.bin .geq (.tmp 7) (.const (.int .i64 0)))⟩,⟨some 4,none,(.mov (.tmp 8))⟩]) .ret))
set_option maxRecDepth 100000 in
theorem tab66:tb.code 66=some ⟨9,[(4,none)],body66⟩:=by kernel_rfl
theorem conf_ins (h:AHeap) (v fv:Value) (l:List LIns) (p:LIns→Bool) (s:SlN h v l) (hl:(l.length:Int)≤9223372036854775807) (hf:∀ x∈l,∀ h1,Ext h h1→∀ cs,RIns h1 cs x→WV Tryd.prog tb fv [.agg cs.toArray] h1 fun r h'=>r= .bool (p x)∧Ext h1 h'):
  WC Tryd.prog tb 66 [v,fv] h fun r h'=>r= .bool (l.any p)∧Ext h h':=by
 refine WC.of (zF 66) tab66 ?_;simp only[zO,Nat.zero_add,Nat.reduceAdd]
 refine go ?_
 refine WO.con (idxf_ins h v fv l p s hl hf) ?_
 rintro _ h1 ⟨⟨n,rfl,e⟩,e1⟩
 refine go ?_
 refine rt ?_
 exact⟨by rw[←e];rfl,e1⟩
noncomputable def body82_0:ACode:=(.seq (.region [⟨some 9,none,(.bin .lss (.tmp 8) (.tmp 7))⟩]) (.seq (.cond (.tmp 9) .skip (.exit 0)) (.seq (.block 1 (.seq (.region [⟨some 10,none,(.mov (.tmp 8))⟩,⟨some 5,none,(.mov (.tmp 10))⟩]) (.seq (.region [⟨some 11,none,(.mov (.tmp 1))⟩,⟨some 12,none,(.mov (.tmp 0))⟩,⟨some 13,none,(.mov (.tmp 5))⟩,⟨some 14,none,(.idx 5 (.tmp 12) (.tmp 13))⟩,⟨some 15,none,(.load true 5 (.tmp 14))⟩,⟨some 16,none,(.call (.tmp 11) [(.tmp 15)])⟩]) (.cond (.tmp 16) (.seq (.region [⟨some 17,none,(.mov (.tmp 5))⟩,⟨some 4,none,(.mov (.tmp 17))⟩]) .ret) .skip)))) (.region [⟨some 18,none,(.bin .add (.tmp 8) (.const (.int .i64 1)))⟩,⟨some 8,none,(.mov (.tmp 18))⟩]))))
noncomputable def body82:ACode:=(.seq (.region [⟨some 4,none,(.mov (.const (.int .i64 0)))⟩]) (.seq (.seq (.region [⟨some 6,none,(.mov (.tmp 0))⟩,⟨some 7,none,(.len (.tmp 6))⟩,⟨some 8,none,(.mov (.const (.int .i64 0)))⟩]) (.block 0 (.loop body82_0))) (.seq (.region [⟨some 4,none,(.mov (.const (.int .i64 (-1))))⟩]) .ret)))
set_option maxRecDepth 100000 in
theorem tab82:tb.code 82=some ⟨19,[(4,none)],body82⟩:=by kernel_rfl
theorem idxf_blk (h:AHeap) (v fv:Value) (l:List LBlk) (p:LBlk→Bool) (s:SlB h v l) (hl:(l.length:Int)≤9223372036854775807) (hf:∀ x∈l,∀ h1,Ext h h1→∀ cs,RBlk h1 cs x→WV Tryd.prog tb fv [.agg cs.toArray] h1 fun r h'=>r= .bool (p x)∧Ext h1 h'):
  WC Tryd.prog tb 82 [v,fv] h fun r h'=>(∃ n:Int,r=I n∧(decide (0≤n))=l.any p)∧Ext h h':=by
 refine WC.of (zF 82) tab82 ?_;simp only[zO,Nat.zero_add,Nat.reduceAdd]
 refine go ?_
 refine WX.loopA [9,10,5,11,12,13,14,15,16,17,4,18,8] (by kernel_rfl) (fun i=>l.length - i) (fun i t h1=>Ext h h1∧zC t 8=I i∧i≤l.length∧∀ j,j<i→p (l.getD j default)=false) 0 ?_ ?_
 ·exact⟨Ext.refl h,sl_,Nat.zero_le _,fun j hj=>absurd hj (Nat.not_lt_zero _)⟩
 rintro i t h1 hsame ⟨e1,s8,hi,hm⟩
 have s1:=SlB.ext s e1
 refine go ?_
 refine WX.br (fun hb=> ?_) (fun hb=> ?_)<;>simp only[DB]at hb
 ·have hi':i<l.length:=by omega
  obtain⟨cs,hcs,pc,hs⟩:=yS s1 hi'
  have hff:=hf _ (zL hi') h1 e1 cs hcs
  obtain⟨va,rfl,hR⟩:=hcs
  refine go ?_
  refine WO.conV hff ?_
  rintro _ h2 ⟨rfl,e2⟩
  refine go ?_
  refine WX.br (fun hb=> ?_) (fun hb=> ?_)
  ·refine go ?_
   refine rt ?_
   refine⟨⟨i,rfl,?_⟩,e1.trans e2⟩
   rw[List.any_eq_true.2 ⟨_,zL hi',hb⟩];simp
  ·refine go ?_
   refine zA (i+1) (by omega) ⟨e1.trans e2,sln,by omega,fun j hj=> ?_⟩
   by_cases e:j=i
   ·subst e;exact hb
   ·exact hm j (by omega)
 ·refine go ?_
  refine rt ?_
  refine⟨⟨-1,rfl,?_⟩,e1⟩
  rw[zAu fun x hx=>by obtain⟨j,hj,rfl⟩:=Zg hx;exact hm j (by omega)];rfl
noncomputable def body64:ACode:=(.seq (.region [⟨some 4,none,(.mov (.const (.bool false)))⟩]) (.seq (.region [⟨some 5,none,(.mov (.tmp 0))⟩,⟨some 6,none,(.mov (.tmp 1))⟩,⟨some 7,none,(.call (.func 82) [(.tmp 5),(.tmp 6)])⟩,⟨some 8,none,(.bin .geq (.tmp 7) (.const (.int .i64 0)))⟩,⟨some 4,none,(.mov (.tmp 8))⟩]) .ret))
set_option maxRecDepth 100000 in
theorem tab64:tb.code 64=some ⟨9,[(4,none)],body64⟩:=by kernel_rfl
theorem conf_blk (h:AHeap) (v fv:Value) (l:List LBlk) (p:LBlk→Bool) (s:SlB h v l) (hl:(l.length:Int)≤9223372036854775807) (hf:∀ x∈l,∀ h1,Ext h h1→∀ cs,RBlk h1 cs x→WV Tryd.prog tb fv [.agg cs.toArray] h1 fun r h'=>r= .bool (p x)∧Ext h1 h'):
  WC Tryd.prog tb 64 [v,fv] h fun r h'=>r= .bool (l.any p)∧Ext h h':=by
 refine WC.of (zF 64) tab64 ?_;simp only[zO,Nat.zero_add,Nat.reduceAdd]
 refine go ?_
 refine WO.con (idxf_blk h v fv l p s hl hf) ?_
 rintro _ h1 ⟨⟨n,rfl,e⟩,e1⟩
 refine go ?_
 refine rt ?_
 exact⟨by rw[←e];rfl,e1⟩
noncomputable def body61_0:ACode:=(.seq (.region [⟨some 9,none,(.bin .lss (.tmp 8) (.tmp 7))⟩]) (.seq (.cond (.tmp 9) .skip (.exit 0)) (.seq (.block 1 (.seq (.region [⟨some 10,none,(.mov (.tmp 8))⟩,⟨some 5,none,(.mov (.tmp 10))⟩]) (.seq (.region [⟨some 11,none,(.mov (.tmp 1))⟩,⟨some 12,none,(.mov (.tmp 0))⟩,⟨some 13,none,(.mov (.tmp 5))⟩,⟨some 14,none,(.idx 2 (.tmp 12) (.tmp 13))⟩,⟨some 15,none,(.load true 2 (.tmp 14))⟩,⟨some 16,none,(.call (.tmp 11) [(.tmp 15)])⟩]) (.cond (.tmp 16) (.seq (.region [⟨some 17,none,(.mov (.tmp 5))⟩,⟨some 4,none,(.mov (.tmp 17))⟩]) .ret) .skip)))) (.region [⟨some 18,none,(.bin .add (.tmp 8) (.const (.int .i64 1)))⟩,⟨some 8,none,(.mov (.tmp 18))⟩]))))
noncomputable def body61:ACode:=(.seq (.region [⟨some 4,none,(.mov (.const (.int .i64 0)))⟩]) (.seq (.seq (.region [⟨some 6,none,(.mov (.tmp 0))⟩,⟨some 7,none,(.len (.tmp 6))⟩,⟨some 8,none,(.mov (.const (.int .i64 0)))⟩]) (.block 0 (.loop body61_0))) (.seq (.region [⟨some 4,none,(.mov (.const (.int .i64 (-1))))⟩]) .ret)))
set_option maxRecDepth 100000 in
theorem tab61:tb.code 61=some ⟨19,[(4,none)],body61⟩:=by kernel_rfl
theorem idxf_fn (h:AHeap) (v fv:Value) (l:List LFn) (p:LFn→Bool) (s:SlF h v l) (hl:(l.length:Int)≤9223372036854775807) (hf:∀ x∈l,∀ h1,Ext h h1→∀ cs,RFn h1 cs x→WV Tryd.prog tb fv [.agg cs.toArray] h1 fun r h'=>r= .bool (p x)∧Ext h1 h'):
  WC Tryd.prog tb 61 [v,fv] h fun r h'=>(∃ n:Int,r=I n∧(decide (0≤n))=l.any p)∧Ext h h':=by
 refine WC.of (zF 61) tab61 ?_;simp only[zO,Nat.zero_add,Nat.reduceAdd]
 refine go ?_
 refine WX.loopA [9,10,5,11,12,13,14,15,16,17,4,18,8] (by kernel_rfl) (fun i=>l.length - i) (fun i t h1=>Ext h h1∧zC t 8=I i∧i≤l.length∧∀ j,j<i→p (l.getD j default)=false) 0 ?_ ?_
 ·exact⟨Ext.refl h,sl_,Nat.zero_le _,fun j hj=>absurd hj (Nat.not_lt_zero _)⟩
 rintro i t h1 hsame ⟨e1,s8,hi,hm⟩
 have s1:=SlF.ext s e1
 refine go ?_
 refine WX.br (fun hb=> ?_) (fun hb=> ?_)<;>simp only[DB]at hb
 ·have hi':i<l.length:=by omega
  obtain⟨cs,hcs,pc,hs⟩:=yS s1 hi'
  have hff:=hf _ (zL hi') h1 e1 cs hcs
  obtain⟨va,rfl,hR⟩:=hcs
  refine go ?_
  refine WO.conV hff ?_
  rintro _ h2 ⟨rfl,e2⟩
  refine go ?_
  refine WX.br (fun hb=> ?_) (fun hb=> ?_)
  ·refine go ?_
   refine rt ?_
   refine⟨⟨i,rfl,?_⟩,e1.trans e2⟩
   rw[List.any_eq_true.2 ⟨_,zL hi',hb⟩];simp
  ·refine go ?_
   refine zA (i+1) (by omega) ⟨e1.trans e2,sln,by omega,fun j hj=> ?_⟩
   by_cases e:j=i
   ·subst e;exact hb
   ·exact hm j (by omega)
 ·refine go ?_
  refine rt ?_
  refine⟨⟨-1,rfl,?_⟩,e1⟩
  rw[zAu fun x hx=>by obtain⟨j,hj,rfl⟩:=Zg hx;exact hm j (by omega)];rfl
noncomputable def body49:ACode:=(.seq (.region [⟨some 4,none,(.mov (.const (.bool false)))⟩]) (.seq (.region [⟨some 5,none,(.mov (.tmp 0))⟩,⟨some 6,none,(.mov (.tmp 1))⟩,⟨some 7,none,(.call (.func 61) [(.tmp 5),(.tmp 6)])⟩,⟨some 8,none,(.bin .geq (.tmp 7) (.const (.int .i64 0)))⟩,⟨some 4,none,(.mov (.tmp 8))⟩]) .ret))
set_option maxRecDepth 100000 in
theorem tab49:tb.code 49=some ⟨9,[(4,none)],body49⟩:=by kernel_rfl
theorem conf_fn (h:AHeap) (v fv:Value) (l:List LFn) (p:LFn→Bool) (s:SlF h v l) (hl:(l.length:Int)≤9223372036854775807) (hf:∀ x∈l,∀ h1,Ext h h1→∀ cs,RFn h1 cs x→WV Tryd.prog tb fv [.agg cs.toArray] h1 fun r h'=>r= .bool (p x)∧Ext h1 h'):
  WC Tryd.prog tb 49 [v,fv] h fun r h'=>r= .bool (l.any p)∧Ext h h':=by
 refine WC.of (zF 49) tab49 ?_;simp only[zO,Nat.zero_add,Nat.reduceAdd]
 refine go ?_
 refine WO.con (idxf_fn h v fv l p s hl hf) ?_
 rintro _ h1 ⟨⟨n,rfl,e⟩,e1⟩
 refine go ?_
 refine rt ?_
 exact⟨by rw[←e];rfl,e1⟩
end Go.Proofs.YtemggiegiejopaaDoor
