/- What functions of the program come to in the abstract machine, and plain laws about it; no statement of the seat is proved in this text. -/
import Derived.Test.YtejjibilgmlhdaaAmU
import Derived.Test.YtejjibilgmlhdaaRows
namespace Go.Proofs.Ytejjibilgmlhdaa
open Go.Am
set_option linter.unusedVariables false
set_option linter.unusedSimpArgs false
structure LWd where
 pos:Int
 bits:Nat
 deriving DecidableEq
instance:Inhabited LWd:=⟨⟨0,0⟩⟩
structure OkW (s:List LWd):Prop where
 rise:s.Pairwise (fun a b=>a.pos<b.pos)
 each:∀ w∈s,0≤w.pos∧w.pos<16384∧w.bits≠0∧w.bits<18446744073709551616
def InW (s:List LWd) (n:Int):Prop:=∃ w∈s,w.pos=n / 64∧w.bits.testBit (n % 64).toNat=true
def bitsL (b:Nat):List Nat:=(List.range 64).filter b.testBit
def numsL (s:List LWd):List Int:=s.flatMap fun w=>(bitsL w.bits).map fun k:Nat=>64 * w.pos+(k:Int)
theorem OkW.nil:OkW []:=⟨.nil,fun w h=>by cases h⟩
theorem OkW.tail {w:LWd} {s:List LWd} (h:OkW (w::s)):OkW s:=⟨(List.pairwise_cons.1 h.rise).2,fun x hx=>h.each x (List.mem_cons_of_mem _ hx)⟩
theorem bits_lt {b:Nat} (h:b<18446744073709551616) {k:Nat} (hk:b.testBit k=true):k<64:=by
 by_cases h2:k<64
 ·exact h2
 ·have h3:2 ^ 64≤2 ^ k:=Nat.pow_le_pow_right (by decide) (Nat.le_of_not_lt h2)
  have:b.testBit k=false:=Nat.testBit_lt_two_pow (Nat.lt_of_lt_of_le h h3)
  rw[this]at hk;cases hk
theorem bits_ex {b:Nat} (h:b≠0):∃ k,b.testBit k=true:=by
 by_cases h2:∃ k,b.testBit k=true
 ·exact h2
 ·exact absurd (Nat.eq_of_testBit_eq fun i=>by
   rw[Nat.zero_testBit]
   cases hb:b.testBit i with
   |false=>rfl
   |true=>exact absurd ⟨i,hb⟩ h2) h
theorem mem_bitsL {b k:Nat}:k∈bitsL b↔k<64∧b.testBit k=true:=by
 unfold bitsL;rw[List.mem_filter,List.mem_range]
theorem mem_numsL {s:List LWd} (h:OkW s) {n:Int}:n∈numsL s↔InW s n:=by
 unfold numsL InW
 rw[List.mem_flatMap]
 constructor
 ·rintro⟨w,hw,hn⟩
  obtain⟨k,hk,rfl⟩:=List.mem_map.1 hn
  obtain⟨k1,k2⟩:=mem_bitsL.1 hk
  refine⟨w,hw,by omega,?_⟩
  rw[show ((64 * w.pos+(k:Int)) % 64).toNat=k by omega];exact k2
 ·rintro⟨w,hw,e,hb⟩
  refine⟨w,hw,List.mem_map.2 ⟨(n % 64).toNat,mem_bitsL.2 ⟨by omega,hb⟩,by omega⟩⟩
theorem bitsL_rise (b:Nat):(bitsL b).Pairwise (·<·):=List.Pairwise.filter _ List.pairwise_lt_range
theorem InW.range {s:List LWd} (h:OkW s) {n:Int} (k:InW s n):0≤n∧n<1048576:=by
 obtain⟨w,hw,e,_⟩:=k
 have:=h.each w hw
 omega
theorem yL {w:LWd} {s:List LWd} {n:Int}:InW (w::s) n↔(w.pos=n / 64∧w.bits.testBit (n % 64).toNat=true)∨InW s n:=by
 unfold InW;simp
theorem inW_tail {w:LWd} {s:List LWd} (h:OkW (w::s)) {n:Int}:InW s n↔InW (w::s) n∧w.pos≠n / 64:=by
 rw[yL]
 constructor
 ·rintro⟨x,hx,e,hb⟩
  have:=(List.pairwise_cons.1 h.rise).1 x hx
  exact⟨.inr ⟨x,hx,e,hb⟩,by omega⟩
 ·rintro⟨⟨e,_⟩|k,hne⟩
  ·exact absurd e hne
  ·exact k
theorem InW.le {w:LWd} {s:List LWd} (h:OkW (w::s)) {n:Int} (k:InW (w::s) n):w.pos≤n / 64:=by
 rcases yL.1 k with ⟨e,_⟩|⟨x,hx,e,_⟩
 ·omega
 ·have:=(List.pairwise_cons.1 h.rise).1 x hx;omega
theorem inW_head {w:LWd} {s:List LWd} (h:OkW (w::s)):∃ n,InW (w::s) n∧n / 64=w.pos:=by
 obtain⟨a,b,c,d⟩:=h.each w (List.mem_cons_self ..)
 obtain⟨k,hk⟩:=bits_ex c
 have hk2:=bits_lt d hk
 refine⟨64 * w.pos+k,yL.2 (.inl ⟨by omega,?_⟩),by omega⟩
 rw[show ((64 * w.pos+(k:Int)) % 64).toNat=k by omega];exact hk
theorem inW_at {w:LWd} {s:List LWd} (h:OkW (w::s)) (k:Nat) (hk:k<64):InW (w::s) (64 * w.pos+k)↔w.bits.testBit k=true:=by
 rw[yL]
 constructor
 ·rintro(⟨_,hb⟩|⟨x,hx,e,_⟩)
  ·rwa [show ((64 * w.pos+(k:Int)) % 64).toNat=k by omega]at hb
  ·have:=(List.pairwise_cons.1 h.rise).1 x hx;omega
 ·intro hb
  refine .inl ⟨by omega,?_⟩
  rw[show ((64 * w.pos+(k:Int)) % 64).toNat=k by omega];exact hb
theorem okW_ext:∀ {s t:List LWd},OkW s→OkW t→(∀ n,InW s n↔InW t n)→s=t
 |[],[],_,_,_=>rfl
 |[],u::t,_,ht,e=>by
  obtain⟨n,hn,_⟩:=inW_head ht
  obtain⟨_,h,_⟩:=(e n).2 hn;cases h
 |w::s,[],hs,_,e=>by
  obtain⟨n,hn,_⟩:=inW_head hs
  obtain⟨_,h,_⟩:=(e n).1 hn;cases h
 |w::s,u::t,hs,ht,e=>by
  have hp:w.pos=u.pos:=by
   obtain⟨n,hn,en⟩:=inW_head hs
   obtain⟨m,hm,em⟩:=inW_head ht
   have h1:=((e n).1 hn).le ht
   have h2:=((e m).2 hm).le hs
   omega
  have hb:w.bits=u.bits:=by
   refine Nat.eq_of_testBit_eq fun k=> ?_
   by_cases hk:k<64
   ·have h1:=inW_at hs k hk
    have h2:=inW_at ht k hk
    rw[←hp]at h2
    have h3:=h1.symm.trans ((e _).trans h2)
    cases h4:u.bits.testBit k with
    |true=>exact h3.2 h4
    |false=>
     cases h5:w.bits.testBit k with
     |false=>rfl
     |true=>rw[h3.1 h5]at h4;cases h4
   ·have h1:=(hs.each w (List.mem_cons_self ..)).2.2.2
    have h2:=(ht.each u (List.mem_cons_self ..)).2.2.2
    cases h4:u.bits.testBit k with
    |true=>exact absurd (bits_lt h2 h4) hk
    |false=>
     cases h5:w.bits.testBit k with
     |false=>rfl
     |true=>exact absurd (bits_lt h1 h5) hk
  have hw:w=u:=by cases w;cases u;cases hp;cases hb;rfl
  have hst:s=t:=okW_ext hs.tail ht.tail fun n=>by rw[inW_tail hs,inW_tail ht,e n,hp]
  rw[hw,hst]
structure Is (t:List LWd) (p:Int→Prop):Prop where
 ok:OkW t
 mem:∀ n,InW t n↔p n
theorem Is.eq {s t:List LWd} {p q:Int→Prop} (h:Is s p) (k:Is t q) (e:∀ n,p n↔q n):s=t:=okW_ext h.ok k.ok fun n=>(h.mem n).trans ((e n).trans (k.mem n).symm)
end Go.Proofs.Ytejjibilgmlhdaa
namespace Go.Proofs.Ytejjibilgmlhdaa
open Go.Am
set_option linter.unusedVariables false
set_option linter.unusedSimpArgs false
abbrev W (n:Nat):Value:= .int .u64 (n:Int)
theorem ofInt_nat (a:Nat):BitVec.ofInt 64 (a:Int)=BitVec.ofNat 64 a:=by
 apply BitVec.eq_of_toNat_eq;simp
theorem b64:IntKind.bits .u64=64:=rfl
theorem u_and {a b:Nat} (ha:a<18446744073709551616) (hb:b<18446744073709551616):zb .and (W a) (W b)=some (W (a&&& b)):=by
 have h:a&&& b<18446744073709551616:=Nat.lt_of_le_of_lt Nat.and_le_left ha
 have e:(BitVec.ofInt 64 (a:Int)&&& BitVec.ofInt 64 (b:Int)).toNat=a&&& b:=by
  rw[ofInt_nat,ofInt_nat,BitVec.toNat_and,BitVec.toNat_ofNat,BitVec.toNat_ofNat,Nat.mod_eq_of_lt (show a<2 ^ 64 from ha),Nat.mod_eq_of_lt (show b<2 ^ 64 from hb)]
 simp only[zb,if_true]
 rw[show ((BitVec.ofInt (IntKind.bits .u64) (a:Int)&&& BitVec.ofInt (IntKind.bits .u64) (b:Int)).toNat)=a&&& b from e,wrapU64 (by omega) (by omega)]
theorem u_or {a b:Nat} (ha:a<18446744073709551616) (hb:b<18446744073709551616):zb .or (W a) (W b)=some (W (a|||b))∧a|||b<18446744073709551616:=by
 have h:a|||b<18446744073709551616:=Nat.or_lt_two_pow (n:=64) ha hb
 refine⟨?_,h⟩
 have e:(BitVec.ofInt 64 (a:Int)|||BitVec.ofInt 64 (b:Int)).toNat=a|||b:=by
  rw[ofInt_nat,ofInt_nat,BitVec.toNat_or,BitVec.toNat_ofNat,BitVec.toNat_ofNat,Nat.mod_eq_of_lt (show a<2 ^ 64 from ha),Nat.mod_eq_of_lt (show b<2 ^ 64 from hb)]
 simp only[zb,if_true]
 rw[show ((BitVec.ofInt (IntKind.bits .u64) (a:Int)|||BitVec.ofInt (IntKind.bits .u64) (b:Int)).toNat)=a|||b from e,wrapU64 (by omega) (by omega)]
def notN (a b:Nat):Nat:=(BitVec.ofNat 64 a&&& ~~~BitVec.ofNat 64 b).toNat
theorem u_notN {a b:Nat} (ha:a<18446744073709551616) (hb:b<18446744073709551616):zb .andNot (W a) (W b)=some (W (notN a b))∧notN a b<18446744073709551616∧∀ i,(notN a b).testBit i=(a.testBit i&& !b.testBit i):=by
 have h:notN a b<18446744073709551616:=(BitVec.ofNat 64 a&&& ~~~BitVec.ofNat 64 b).isLt
 refine⟨?_,h,fun i=> ?_⟩
 ·have e:(BitVec.ofInt 64 (a:Int)&&& ~~~BitVec.ofInt 64 (b:Int)).toNat=notN a b:=by rw[ofInt_nat,ofInt_nat];rfl
  simp only[zb,if_true]
  rw[show ((BitVec.ofInt (IntKind.bits .u64) (a:Int)&&& ~~~BitVec.ofInt (IntKind.bits .u64) (b:Int)).toNat)=notN a b from e,wrapU64 (by omega) (by omega)]
 ·unfold notN
  rw[BitVec.testBit_toNat,BitVec.getLsbD_and,BitVec.getLsbD_not,BitVec.getLsbD_ofNat,BitVec.getLsbD_ofNat]
  by_cases hi:i<64
  ·simp[hi]
  ·have:a.testBit i=false:=by
    cases h:a.testBit i with
    |false=>rfl
    |true=>exact absurd (bits_lt ha h) hi
   simp[hi,this]
theorem u_shl1 {k:Nat} (hk:k<64):zb .shl (W 1) (I k)=some (W (2 ^ k))∧2 ^ k<18446744073709551616:=by
 have h:2 ^ k<2 ^ 64:=Nat.pow_lt_pow_right (by decide) hk
 refine⟨?_,h⟩
 have h2:((2 ^ k:Nat):Int)<18446744073709551616:=by
  have h4:2 ^ k<18446744073709551616:=h
  generalize 2 ^ k=z at h4 ⊢
  omega
 have h3:(0:Int)≤((2 ^ k:Nat):Int):=Int.natCast_nonneg _
 simp only[zb]
 rw[if_neg (by omega),Int.toNat_natCast,show min k (IntKind.bits .u64)=k from Nat.min_eq_left (by rw[b64];omega),show ((1:Nat):Int) * 2 ^ k=((2 ^ k:Nat):Int) by rw[Int.natCast_pow];exact Int.one_mul _,wrapU64 h3 h2]
theorem u_add {a b:Nat} (h:a+b<18446744073709551616):zb .add (W a) (W b)=some (W (a+b)):=by
 simp only[zb,if_true];rw[wrapU64 (by omega) (by omega)];rfl
theorem u_quo {a b:Nat} (ha:a<18446744073709551616) (h:b≠0):zb .quo (W a) (W b)=some (W (a / b)):=by
 have:a / b≤a:=Nat.div_le_self ..
 simp only[zb,if_true]
 have h2:((a / b:Nat):Int)<18446744073709551616:=by omega
 have h3:(0:Int)≤((a / b:Nat):Int):=Int.natCast_nonneg _
 rw[if_neg (by omega),Int.tdiv_eq_ediv_of_nonneg (by omega),show (a:Int) / (b:Int)=((a / b:Nat):Int) by simp,wrapU64 h3 h2]
theorem u_rem {a b:Nat} (h:b≠0):zb .rem (W a) (W b)=some (W (a % b)):=by
 simp only[zb,if_true]
 rw[if_neg (by omega),Int.tmod_eq_emod_of_nonneg (by omega)]
 congr 2
theorem wrapMod (n:Int):IntKind.wrap .u64 n=n % 18446744073709551616:=rfl
theorem u_mul (a b:Nat):zb .mul (W a) (W b)=some (W (a * b % 18446744073709551616)):=by
 simp only[zb,if_true];rw[wrapMod];congr 2
theorem rise_ext:∀ {xs ys:List Nat},xs.Pairwise (·<·)→ys.Pairwise (·<·)→(∀ n,n∈xs↔n∈ys)→xs=ys
 |[],[],_,_,_=>rfl
 |[],y::ys,_,_,h=>absurd ((h y).2 (List.mem_cons_self ..)) (by simp)
 |x::xs,[],_,_,h=>absurd ((h x).1 (List.mem_cons_self ..)) (by simp)
 |x::xs,y::ys,hx,hy,h=>by
  obtain⟨x1,x2⟩:=List.pairwise_cons.1 hx
  obtain⟨y1,y2⟩:=List.pairwise_cons.1 hy
  have e:x=y:=by
   rcases List.mem_cons.1 ((h x).1 (List.mem_cons_self ..))with e|e
   ·exact e
   ·rcases List.mem_cons.1 ((h y).2 (List.mem_cons_self ..))with e2|e2
    ·exact e2.symm
    ·have:=y1 _ e;have:=x1 _ e2;omega
  subst e
  rw[rise_ext x2 y2 fun n=> ?_]
  have:=h n
  constructor
  ·intro hn
   have hlt:=x1 n hn
   rcases List.mem_cons.1 (this.1 (List.mem_cons_of_mem _ hn))with e|e
   ·omega
   ·exact e
  ·intro hn
   have hlt:=y1 n hn
   rcases List.mem_cons.1 (this.2 (List.mem_cons_of_mem _ hn))with e|e
   ·omega
   ·exact e
theorem low_shape (b:Nat):b≠0→∃ k m,b=2 ^ (k+1) * m+2 ^ k:=by
 induction b using Nat.strongRecOn with
 |ind b ih=>
  intro h
  by_cases h2:b % 2=1
  ·exact⟨0,b / 2,by simp;omega⟩
  ·obtain⟨k,m,e⟩:=ih (b / 2) (by omega) (by omega)
   refine⟨k+1,m,?_⟩
   have e1:2 ^ (k+1+1) * m=2 ^ (k+1) * m * 2:=by rw[Nat.pow_succ 2 (k+1),Nat.mul_right_comm]
   have e2:2 ^ (k+1)=2 ^ k * 2:=Nat.pow_succ ..
   rw[e1]
   generalize 2 ^ (k+1) * m=z at *
   generalize 2 ^ k=y at *
   omega
structure Low (b k:Nat):Prop where
 lt:k<64
 list:bitsL b=k::bitsL (b&&& (b - 1))
 one:b&&& (18446744073709551616 - b)=2 ^ k
 less:b&&& (b - 1)<b
theorem low {b:Nat} (h:b≠0) (hb:b<18446744073709551616):∃ k,Low b k:=by
 obtain⟨k,m,e⟩:=low_shape b h
 have hpos:0<2 ^ k:=Nat.pow_pos (by decide)
 have hs:2 ^ (k+1)=2 ^ k * 2:=Nat.pow_succ ..
 have e1:b - 1=2 ^ (k+1) * m+(2 ^ k - 1):=by
  generalize 2 ^ (k+1) * m=z at *;omega
 have tb:∀ i,b.testBit i=if i<k+1 then decide (k=i) else m.testBit (i - (k+1)):=fun i=>by
  rw[e,Nat.testBit_two_pow_mul_add _ (by omega),Nat.testBit_two_pow]
 have tb1:∀ i,(b - 1).testBit i=if i<k+1 then decide (i<k) else m.testBit (i - (k+1)):=fun i=>by
  rw[e1,Nat.testBit_two_pow_mul_add _ (by omega),Nat.testBit_two_pow_sub_one]
 have hk:b.testBit k=true:=by rw[tb,if_pos (by omega)];simp
 have tand:∀ i,(b&&& (b - 1)).testBit i=(b.testBit i&& !decide (i=k)):=fun i=>by
  rw[Nat.testBit_and,tb,tb1]
  by_cases h1:i<k+1
  ·rw[if_pos h1,if_pos h1]
   by_cases h2:k=i
   ·subst h2;simp
   ·simp[h2]
  ·rw[if_neg h1,if_neg h1,show decide (i=k)=false from decide_eq_false (by omega)];simp
 refine⟨k,bits_lt hb hk,rise_ext (bitsL_rise b) (List.pairwise_cons.2 ⟨fun i hi=> ?_,bitsL_rise _⟩) fun i=> ?_,?_,?_⟩
 ·have:=(mem_bitsL.1 hi).2
  rw[tand,tb]at this
  by_cases h1:i<k+1
  ·rw[if_pos h1]at this;simp at this;omega
  ·omega
 ·rw[List.mem_cons,mem_bitsL,mem_bitsL,tand]
  by_cases h1:i=k
  ·subst h1;simp[hk,bits_lt hb hk]
  ·simp[h1]
 ·refine Nat.eq_of_testBit_eq fun i=> ?_
  rw[Nat.testBit_and,show 18446744073709551616 - b=2 ^ 64 - ((b - 1)+1) by omega,Nat.testBit_two_pow_sub_succ (by omega),Nat.testBit_two_pow,tb,tb1]
  by_cases h1:i<k+1
  ·rw[if_pos h1,if_pos h1]
   by_cases h2:k=i
   ·subst h2;simp[bits_lt hb hk]
   ·simp[h2]
  ·rw[if_neg h1,if_neg h1,show decide (k=i)=false from decide_eq_false (by omega)]
   cases m.testBit (i - (k+1))<;>simp
 ·exact Nat.lt_of_le_of_lt Nat.and_le_right (by omega)
end Go.Proofs.Ytejjibilgmlhdaa
namespace Go.Proofs.Ytejjibilgmlhdaa
open Go.Am
set_option linter.unusedVariables false
set_option linter.unusedSimpArgs false
def s1 (b:Nat):Nat:=(b / 2&&& 85)+(b&&& 85)
def s2 (b:Nat):Nat:=(b / 4&&& 51)+(b&&& 51)
end Go.Proofs.Ytejjibilgmlhdaa
namespace Go.Proofs.Ytejjibilgmlhdaa
open Go.Am
set_option linter.unusedVariables false
set_option linter.unusedSimpArgs false
def BdW (s:List LWd):Prop:=∀ w∈s,w.bits<18446744073709551616
theorem OkW.bd {s:List LWd} (h:OkW s):BdW s:=fun w hw=>(h.each w hw).2.2.2
theorem BdW.tail {w:LWd} {s:List LWd} (h:BdW (w::s)):BdW s:=fun x hx=>h x (List.mem_cons_of_mem _ hx)
def zM:Int→List LWd→Bool
 |_,[]=>true
 |last,w::s=>decide (last<w.pos)&&decide (w.pos<16384)&&decide (w.bits≠0)&&zM w.pos s
theorem checkW_iff:∀ {s:List LWd} {last:Int},-1≤last→BdW s→(zM last s=true↔OkW s∧∀ w∈s,last<w.pos)
 |[],last,_,_=>by simp[zM,OkW.nil]
 |w::s,last,hl,hb=>by
  unfold zM
  rw[Bool.and_eq_true,Bool.and_eq_true,Bool.and_eq_true,decide_eq_true_iff,decide_eq_true_iff,decide_eq_true_iff]
  constructor
  ·rintro⟨⟨⟨h1,h2⟩,h3⟩,h4⟩
   obtain⟨h5,h6⟩:=(checkW_iff (by omega) hb.tail).1 h4
   refine⟨⟨List.pairwise_cons.2 ⟨h6,h5.rise⟩,fun x hx=> ?_⟩,fun x hx=> ?_⟩
   ·rcases List.mem_cons.1 hx with rfl|hx
    ·exact⟨by omega,h2,h3,hb _ (List.mem_cons_self ..)⟩
    ·exact h5.each x hx
   ·rcases List.mem_cons.1 hx with rfl|hx
    ·exact h1
    ·have:=h6 x hx;omega
  ·rintro⟨h1,h2⟩
   obtain⟨a,b,c,_⟩:=h1.each w (List.mem_cons_self ..)
   exact⟨⟨⟨h2 w (List.mem_cons_self ..),b⟩,c⟩,(checkW_iff (by omega) hb.tail).2 ⟨h1.tail,(List.pairwise_cons.1 h1.rise).1⟩⟩
theorem okW_iff {s:List LWd} (hb:BdW s):zM (-1) s=true↔OkW s:=by
 rw[checkW_iff (by decide) hb]
 exact⟨fun h=>h.1,fun h=>⟨h,fun w hw=>by have:=(h.each w hw).1;omega⟩⟩
def inB (s:List LWd) (n:Int):Bool:=s.any fun w=>decide (w.pos=n / 64)&&w.bits.testBit (n % 64).toNat
theorem inB_iff {s:List LWd} {n:Int}:inB s n=true↔InW s n:=by
 unfold inB InW
 rw[List.any_eq_true]
 simp only[Bool.and_eq_true,decide_eq_true_iff]
theorem inB_false {s:List LWd} {n:Int} (h:¬InW s n):inB s n=false:=by
 cases hb:inB s n with
 |false=>rfl
 |true=>exact absurd (inB_iff.1 hb) h
theorem inB_cons (w:LWd) (s:List LWd) (n:Int):inB (w::s) n=(decide (w.pos=n / 64)&&w.bits.testBit (n % 64).toNat||inB s n):=by
 unfold inB;rw[List.any_cons]
theorem inB_far {s:List LWd} {n:Int} (h:∀ w∈s,n / 64<w.pos):inB s n=false:=inB_false fun ⟨w,hw,e,_⟩=>by have:=h w hw;omega
def putW (p:Int) (v:Nat) (s:List LWd):List LWd:=if v=0 then s else ⟨p,v⟩::s
theorem putW_ok {p:Int} {v:Nat} {s:List LWd} (h:OkW s) (hp:0≤p∧p<16384) (hv:v<18446744073709551616) (hs:∀ w∈s,p<w.pos):OkW (putW p v s):=by
 unfold putW
 split
 ·exact h
 ·rename_i hne
  refine⟨List.pairwise_cons.2 ⟨hs,h.rise⟩,fun x hx=> ?_⟩
  rcases List.mem_cons.1 hx with rfl|hx
  ·exact⟨hp.1,hp.2,hne,hv⟩
  ·exact h.each x hx
theorem putW_in (p:Int) (v:Nat) (s:List LWd) (n:Int):inB (putW p v s) n=(decide (p=n / 64)&&v.testBit (n % 64).toNat||inB s n):=by
 unfold putW
 split
 ·rename_i h;subst h;simp
 ·rw[inB_cons]
theorem putW_mem {p:Int} {v:Nat} {s:List LWd} {x:LWd} (h:x∈putW p v s):x.pos=p∨x∈s:=by
 unfold putW at h
 split at h
 ·exact .inr h
 ·rcases List.mem_cons.1 h with rfl|h
  ·exact .inl rfl
  ·exact .inr h
def zR (f:Nat→Nat→Nat):List LWd→List LWd→List LWd
 |[],[]=>[]
 |x::a,[]=>putW x.pos (f x.bits 0) (zR f a [])
 |[],y::b=>putW y.pos (f 0 y.bits) (zR f [] b)
 |x::a,y::b=>if x.pos<y.pos then putW x.pos (f x.bits 0) (zR f a (y::b)) else if y.pos<x.pos then putW y.pos (f 0 y.bits) (zR f (x::a) b) else putW x.pos (f x.bits y.bits) (zR f a b)
 termination_by a b=>a.length+b.length
structure Bitw (f:Nat→Nat→Nat) (g:Bool→Bool→Bool):Prop where
 nil:g false false=false
 bit:∀ a b,a<18446744073709551616→b<18446744073709551616→f a b<18446744073709551616∧∀ i,(f a b).testBit i=g (a.testBit i) (b.testBit i)
theorem yB {x:LWd} {a:List LWd} (h:OkW (x::a)):∀ w∈a,x.pos<w.pos:=(List.pairwise_cons.1 h.rise).1
theorem mergeL_is {f:Nat→Nat→Nat} {g:Bool→Bool→Bool} (hf:Bitw f g):∀ {a b:List LWd},OkW a→OkW b→(OkW (zR f a b)∧(∀ n,inB (zR f a b) n=g (inB a n) (inB b n))∧∀ p,(∀ w∈a,p<w.pos)→(∀ w∈b,p<w.pos)→∀ w∈zR f a b,p<w.pos)
 |[],[],_,_=>by
  unfold zR
  exact⟨OkW.nil,fun n=>by show false=g false false;rw[hf.nil],fun p _ _ w hw=>by cases hw⟩
 |x::a,[],ha,hb=>by
  obtain⟨i1,i2,i3⟩:=mergeL_is hf ha.tail hb
  obtain⟨x1,x2,x3,x4⟩:=ha.each x (List.mem_cons_self ..)
  obtain⟨f1,f2⟩:=hf.bit x.bits 0 x4 (by decide)
  unfold zR
  refine⟨putW_ok i1 ⟨x1,x2⟩ f1 (i3 _ (yB ha) (fun w hw=>by cases hw)),fun n=> ?_,fun p h1 h2 w hw=> ?_⟩
  ·rw[putW_in,i2,inB_cons,f2,Nat.zero_testBit]
   by_cases e:x.pos=n / 64
   ·rw[inB_far (s:=a) (fun w hw=>by have:=yB ha w hw;omega),decide_eq_true e,show inB [] n=false from rfl,hf.nil];simp
   ·rw[decide_eq_false e];simp
  ·rcases putW_mem hw with e|hw
   ·rw[e];exact h1 x (List.mem_cons_self ..)
   ·exact i3 p (fun w hw=>h1 w (List.mem_cons_of_mem _ hw)) h2 w hw
 |[],y::b,ha,hb=>by
  obtain⟨i1,i2,i3⟩:=mergeL_is hf ha hb.tail
  obtain⟨x1,x2,x3,x4⟩:=hb.each y (List.mem_cons_self ..)
  obtain⟨f1,f2⟩:=hf.bit 0 y.bits (by decide) x4
  unfold zR
  refine⟨putW_ok i1 ⟨x1,x2⟩ f1 (i3 _ (fun w hw=>by cases hw) (yB hb)),fun n=> ?_,fun p h1 h2 w hw=> ?_⟩
  ·rw[putW_in,i2,inB_cons,f2,Nat.zero_testBit]
   by_cases e:y.pos=n / 64
   ·rw[inB_far (s:=b) (fun w hw=>by have:=yB hb w hw;omega),decide_eq_true e,show inB [] n=false from rfl,hf.nil];simp
   ·rw[decide_eq_false e];simp
  ·rcases putW_mem hw with e|hw
   ·rw[e];exact h2 y (List.mem_cons_self ..)
   ·exact i3 p h1 (fun w hw=>h2 w (List.mem_cons_of_mem _ hw)) w hw
 |x::a,y::b,ha,hb=>by
  obtain⟨x1,x2,x3,x4⟩:=ha.each x (List.mem_cons_self ..)
  obtain⟨y1,y2,y3,y4⟩:=hb.each y (List.mem_cons_self ..)
  unfold zR
  by_cases c1:x.pos<y.pos
  ·rw[if_pos c1]
   obtain⟨i1,i2,i3⟩:=mergeL_is hf ha.tail hb
   obtain⟨f1,f2⟩:=hf.bit x.bits 0 x4 (by decide)
   have hfar:∀ w∈y::b,x.pos<w.pos:=fun w hw=>by
    rcases List.mem_cons.1 hw with rfl|hw
    ·exact c1
    ·have:=yB hb w hw;omega
   refine⟨putW_ok i1 ⟨x1,x2⟩ f1 (i3 _ (yB ha) hfar),fun n=> ?_,fun p h1 h2 w hw=> ?_⟩
   ·rw[putW_in,i2,inB_cons x a,f2,Nat.zero_testBit]
    by_cases e:x.pos=n / 64
    ·rw[inB_far (s:=a) (fun w hw=>by have:=yB ha w hw;omega),inB_far (s:=y::b) (fun w hw=>by have:=hfar w hw;omega),decide_eq_true e,hf.nil];simp
    ·rw[decide_eq_false e];simp
   ·rcases putW_mem hw with e|hw
    ·rw[e];exact h1 x (List.mem_cons_self ..)
    ·exact i3 p (fun w hw=>h1 w (List.mem_cons_of_mem _ hw)) h2 w hw
  ·rw[if_neg c1]
   by_cases c2:y.pos<x.pos
   ·rw[if_pos c2]
    obtain⟨i1,i2,i3⟩:=mergeL_is hf ha hb.tail
    obtain⟨f1,f2⟩:=hf.bit 0 y.bits (by decide) y4
    have hfar:∀ w∈x::a,y.pos<w.pos:=fun w hw=>by
     rcases List.mem_cons.1 hw with rfl|hw
     ·exact c2
     ·have:=yB ha w hw;omega
    refine⟨putW_ok i1 ⟨y1,y2⟩ f1 (i3 _ hfar (yB hb)),fun n=> ?_,fun p h1 h2 w hw=> ?_⟩
    ·rw[putW_in,i2,inB_cons y b,f2,Nat.zero_testBit]
     by_cases e:y.pos=n / 64
     ·rw[inB_far (s:=b) (fun w hw=>by have:=yB hb w hw;omega),inB_far (s:=x::a) (fun w hw=>by have:=hfar w hw;omega),decide_eq_true e,hf.nil];simp
     ·rw[decide_eq_false e];simp
    ·rcases putW_mem hw with e|hw
     ·rw[e];exact h2 y (List.mem_cons_self ..)
     ·exact i3 p h1 (fun w hw=>h2 w (List.mem_cons_of_mem _ hw)) w hw
   ·rw[if_neg c2]
    obtain⟨i1,i2,i3⟩:=mergeL_is hf ha.tail hb.tail
    obtain⟨f1,f2⟩:=hf.bit x.bits y.bits x4 y4
    have e0:x.pos=y.pos:=by omega
    refine⟨putW_ok i1 ⟨x1,x2⟩ f1 (i3 _ (yB ha) (fun w hw=>by have:=yB hb w hw;omega)),fun n=> ?_,fun p h1 h2 w hw=> ?_⟩
    ·rw[putW_in,i2,inB_cons x a,inB_cons y b,f2,←e0]
     by_cases e:x.pos=n / 64
     ·rw[inB_far (s:=a) (fun w hw=>by have:=yB ha w hw;omega),inB_far (s:=b) (fun w hw=>by have:=yB hb w hw;omega),decide_eq_true e,hf.nil];simp
     ·rw[decide_eq_false e];simp
    ·rcases putW_mem hw with e|hw
     ·rw[e];exact h1 x (List.mem_cons_self ..)
     ·exact i3 p (fun w hw=>h1 w (List.mem_cons_of_mem _ hw)) (fun w hw=>h2 w (List.mem_cons_of_mem _ hw)) w hw
 termination_by a b=>a.length+b.length
end Go.Proofs.Ytejjibilgmlhdaa
namespace Go.Proofs.Ytejjibilgmlhdaa
open Go.Am
set_option linter.unusedVariables false
set_option linter.unusedSimpArgs false
theorem set_bit {b k:Nat} (hk:k<64) (hb:b<18446744073709551616):b|||2 ^ k<18446744073709551616∧∀ i,(b|||2 ^ k).testBit i=(b.testBit i||decide (k=i)):=by
 have h:2 ^ k<2 ^ 64:=Nat.pow_lt_pow_right (by decide) hk
 refine⟨Nat.or_lt_two_pow (n:=64) hb h,fun i=> ?_⟩
 rw[Nat.testBit_or,Nat.testBit_two_pow]
theorem add_bit {b k:Nat} (h:b.testBit k=false):b+2 ^ k=b|||2 ^ k:=by
 have hp:0<2 ^ k:=Nat.pow_pos (by decide)
 have hs:2 ^ (k+1)=2 ^ k * 2:=Nat.pow_succ ..
 have h0:b=2 ^ k * (b / 2 ^ k)+b % 2 ^ k:=(Nat.div_add_mod ..).symm
 have h1:b / 2 ^ k % 2=0:=by
  have:=h
  rw[Nat.testBit_eq_decide_div_mod_eq]at this
  have:=of_decide_eq_false this
  omega
 have h2:b / 2 ^ k=2 * (b / 2 ^ k / 2):=by omega
 generalize b / 2 ^ k / 2=m at h2
 have h3:b % 2 ^ k<2 ^ k:=Nat.mod_lt _ hp
 generalize hr:b % 2 ^ k=r at h0 h3
 have e:b=2 ^ (k+1) * m+r:=by rw[h0,h2,hs,Nat.mul_assoc]
 refine Nat.eq_of_testBit_eq fun i=> ?_
 rw[Nat.testBit_or,Nat.testBit_two_pow,e,Nat.add_assoc,Nat.testBit_two_pow_mul_add _ (by omega),Nat.testBit_two_pow_mul_add _ (by omega)]
 by_cases hi:i<k+1
 ·rw[if_pos hi,if_pos hi,Nat.add_comm r]
  by_cases hik:k=i
  ·subst hik
   rw[Nat.testBit_two_pow_add_eq,Nat.testBit_lt_two_pow h3];simp
  ·rw[Nat.testBit_two_pow_add_gt (by omega),decide_eq_false hik,Bool.or_false]
 ·rw[if_neg hi,if_neg hi,decide_eq_false (by omega),Bool.or_false]
theorem is_cons {w:LWd} {s:List LWd} (h:OkW s) (h1:0≤w.pos∧w.pos<16384) (h2:w.bits≠0) (h3:w.bits<18446744073709551616) (hs:∀ x∈s,w.pos<x.pos):OkW (w::s):=
 ⟨List.pairwise_cons.2 ⟨hs,h.rise⟩,fun x hx=>by
  rcases List.mem_cons.1 hx with rfl|hx
  ·exact⟨h1.1,h1.2,h2,h3⟩
  ·exact h.each x hx⟩
theorem pow_ne (k:Nat):2 ^ k≠0:=Nat.ne_of_gt (Nat.pow_pos (by decide))
def withL (q:Int) (m:Nat):List LWd→List LWd
 |[]=>[⟨q,m⟩]
 |w::s=>if w.pos=q then ⟨q,w.bits+m⟩::s else if q<w.pos then ⟨q,m⟩::w::s else w::withL q m s
theorem withL_is {q:Int} {k:Nat} (hq:0≤q∧q<16384) (hk:k<64):∀ {s:List LWd},OkW s→¬InW s (64 * q+k)→OkW (withL q (2 ^ k) s)∧(∀ n,InW (withL q (2 ^ k) s) n↔InW s n∨n=64 * q+k)∧∀ p,p<q→(∀ w∈s,p<w.pos)→∀ w∈withL q (2 ^ k) s,p<w.pos
 |[],_,_=>by
  have hlt:2 ^ k<2 ^ 64:=Nat.pow_lt_pow_right (by decide) hk
  unfold withL
  refine⟨is_cons OkW.nil hq (pow_ne k) hlt (fun x hx=>by cases hx),fun n=> ?_,fun p hp _ w hw=>by
   rcases List.mem_cons.1 hw with rfl|hw
   ·exact hp
   ·cases hw⟩
  rw[yL,Nat.testBit_two_pow,decide_eq_true_iff]
  constructor
  ·rintro(⟨e,hb⟩|h)
   ·exact .inr (by simp only at e;omega)
   ·exact .inl h
  ·rintro(h|e)
   ·exact .inr h
   ·exact .inl ⟨by simp only;omega,by omega⟩
 |w::s,h,hn=>by
  have hlt:2 ^ k<2 ^ 64:=Nat.pow_lt_pow_right (by decide) hk
  obtain⟨w1,w2,w3,w4⟩:=h.each w (List.mem_cons_self ..)
  have hfar:=yB h
  unfold withL
  by_cases c1:w.pos=q
  ·rw[if_pos c1]
   have hb:w.bits.testBit k=false:=by
    cases e:w.bits.testBit k with
    |false=>rfl
    |true=>exact absurd (yL.2 (.inl ⟨by omega,by rw[show ((64 * q+(k:Int)) % 64).toNat=k by omega];exact e⟩)) hn
   obtain⟨s1,s2⟩:=set_bit hk w4
   rw[add_bit hb]
   have hne:w.bits|||2 ^ k≠0:=fun e=>by
    have:=s2 k;rw[e,Nat.zero_testBit]at this;simp at this
   refine⟨is_cons h.tail hq hne s1 (fun x hx=>by have:=hfar x hx;simp only;omega),fun n=> ?_,fun p hp h2 x hx=> ?_⟩
   ·rw[yL,yL,s2,Bool.or_eq_true,decide_eq_true_iff]
    constructor
    ·rintro(⟨e,hb|hb⟩|h)
     ·exact .inl (.inl ⟨c1.trans e,hb⟩)
     ·exact .inr (by simp only at e;omega)
     ·exact .inl (.inr h)
    ·rintro((⟨e,hb⟩|h)|e)
     ·exact .inl ⟨c1.symm.trans e,.inl hb⟩
     ·exact .inr h
     ·exact .inl ⟨by simp only;omega,.inr (by omega)⟩
   ·rcases List.mem_cons.1 hx with rfl|hx
    ·exact hp
    ·exact h2 x (List.mem_cons_of_mem _ hx)
  ·rw[if_neg c1]
   by_cases c2:q<w.pos
   ·rw[if_pos c2]
    refine⟨is_cons h hq (pow_ne k) hlt (fun x hx=> ?_),fun n=> ?_,fun p hp h2 x hx=> ?_⟩
    ·rcases List.mem_cons.1 hx with rfl|hx
     ·exact c2
     ·have:=hfar x hx;simp only;omega
    ·rw[yL,Nat.testBit_two_pow,decide_eq_true_iff]
     constructor
     ·rintro(⟨e,hb⟩|h)
      ·exact .inr (by simp only at e;omega)
      ·exact .inl h
     ·rintro(h|e)
      ·exact .inr h
      ·exact .inl ⟨by simp only;omega,by omega⟩
    ·rcases List.mem_cons.1 hx with rfl|hx
     ·exact hp
     ·exact h2 x hx
   ·rw[if_neg c2]
    obtain⟨i1,i2,i3⟩:=withL_is hq hk h.tail (fun hh=>hn (yL.2 (.inr hh)))
    refine⟨is_cons i1 ⟨w1,w2⟩ w3 w4 (i3 _ (by omega) hfar),fun n=> ?_,fun p hp h2 x hx=> ?_⟩
    ·rw[yL,yL,i2,or_assoc]
    ·rcases List.mem_cons.1 hx with rfl|hx
     ·exact h2 x (List.mem_cons_self ..)
     ·exact i3 p hp (fun y hy=>h2 y (List.mem_cons_of_mem _ hy)) x hx
structure Upto (s:List LWd) (xs:List Int):Prop where
 ok:OkW s
 mem:∀ n,InW s n↔n∈xs
theorem okW_snoc {s:List LWd} {w:LWd} (h:OkW s) (h1:0≤w.pos∧w.pos<16384) (h2:w.bits≠0) (h3:w.bits<18446744073709551616) (hs:∀ x∈s,x.pos<w.pos):OkW (s++[w]):=
 ⟨List.pairwise_append.2 ⟨h.rise,List.pairwise_singleton ..,fun x hx y hy=>by rw[List.mem_singleton]at hy;subst hy;exact hs x hx⟩,fun x hx=>by
  rcases List.mem_append.1 hx with hx|hx
  ·exact h.each x hx
  ·rw[List.mem_singleton]at hx;subst hx;exact⟨h1.1,h1.2,h2,h3⟩⟩
theorem inW_snoc {s:List LWd} {w:LWd} {n:Int}:InW (s++[w]) n↔InW s n∨(w.pos=n / 64∧w.bits.testBit (n % 64).toNat=true):=by
 unfold InW
 constructor
 ·rintro⟨x,hx,e⟩
  rcases List.mem_append.1 hx with hx|hx
  ·exact .inl ⟨x,hx,e⟩
  ·rw[List.mem_singleton]at hx;subst hx;exact .inr e
 ·rintro(⟨x,hx,e⟩|e)
  ·exact⟨x,List.mem_append_left _ hx,e⟩
  ·exact⟨w,by simp,e⟩
theorem Upto.new {s:List LWd} {xs:List Int} {n:Int} (u:Upto s xs) (hn:0≤n∧n<1048576) (hs:∀ x∈s,x.pos<n / 64):Upto (s++[⟨n / 64,2 ^ (n % 64).toNat⟩]) (xs++[n]):=by
 have hlt:2 ^ (n % 64).toNat<2 ^ 64:=Nat.pow_lt_pow_right (by decide) (by omega)
 refine⟨okW_snoc u.ok ⟨by simp only;omega,by simp only;omega⟩ (pow_ne _) hlt hs,fun m=> ?_⟩
 rw[inW_snoc,u.mem,Nat.testBit_two_pow,decide_eq_true_iff,List.mem_append,List.mem_singleton]
 constructor
 ·rintro(h|⟨e,e2⟩)
  ·exact .inl h
  ·exact .inr (by simp only at e;omega)
 ·rintro(h|e)
  ·exact .inl h
  ·subst e;exact .inr ⟨rfl,rfl⟩
theorem Upto.old {s:List LWd} {w:LWd} {xs:List Int} {n:Int} (u:Upto (s++[w]) xs) (hn:0≤n∧n<1048576) (hw:w.pos=n / 64):Upto (s++[⟨w.pos,w.bits|||2 ^ (n % 64).toNat⟩]) (xs++[n]):=by
 obtain⟨w1,w2,w3,w4⟩:=u.ok.each w (by simp)
 obtain⟨s1,s2⟩:=set_bit (k:=(n % 64).toNat) (by omega) w4
 obtain⟨p1,p2,p3⟩:=List.pairwise_append.1 u.ok.rise
 have hne:w.bits|||2 ^ (n % 64).toNat≠0:=fun e=>by
  have:=s2 (n % 64).toNat;rw[e,Nat.zero_testBit]at this;simp at this
 refine⟨okW_snoc ⟨p1,fun x hx=>u.ok.each x (List.mem_append_left _ hx)⟩ ⟨w1,w2⟩ hne s1 (fun x hx=>p3 x hx w (by simp)),fun m=> ?_⟩
 have:=u.mem m
 rw[inW_snoc]at this
 rw[inW_snoc,s2,Bool.or_eq_true,decide_eq_true_iff,List.mem_append,List.mem_singleton,←this]
 constructor
 ·rintro(h|⟨e,h|h⟩)
  ·exact .inl (.inl h)
  ·exact .inl (.inr ⟨e,h⟩)
  ·exact .inr (by simp only at e;omega)
 ·rintro((h|⟨e,h⟩)|e)
  ·exact .inl h
  ·exact .inr ⟨e,.inl h⟩
  ·subst e;exact .inr ⟨hw,.inr rfl⟩
end Go.Proofs.Ytejjibilgmlhdaa
namespace Go.Proofs.Ytejjibilgmlhdaa
open Go.Am
set_option linter.unusedVariables false
set_option linter.unusedSimpArgs false
set_option maxHeartbeats 4000000
noncomputable def tb:Tab:=⟨cFunc Try.prog,fun _=>none⟩
theorem zH (f:Nat):tb.stub f=none:=rfl
end Go.Proofs.Ytejjibilgmlhdaa
namespace Go.Proofs.Ytejjibilgmlhdaa
open Go.Am
set_option linter.unusedVariables false
set_option linter.unusedSimpArgs false
set_option maxHeartbeats 400000
noncomputable def body52:ACode:=(.seq (.region [⟨some 2,none,(.mov (.const (.bool false)))⟩]) (.seq (.region [⟨some 3,none,(.mov (.tmp 0))⟩,⟨some 4,none,(.mov (.tmp 0))⟩,⟨some 5,none,(.bin .neq (.tmp 3) (.tmp 4))⟩,⟨some 2,none,(.mov (.tmp 5))⟩]) .ret))
set_option maxRecDepth 100000 in
theorem tab52:tb.code 52=some ⟨6,[(2,none)],body52⟩:=by kernel_rfl
theorem isNaN_ok (h:AHeap) (n:Int):WC Try.prog tb 52 [I n] h fun r h'=>r= .bool false∧h=h':=by
 refine WC.of (zH 52) tab52 ?_;simp only[zn,Nat.zero_add,Nat.reduceAdd]
 refine go ?_
 refine rt ?_
 exact⟨by simp[one],rfl⟩
noncomputable def body42:ACode:=(.seq (.region [⟨some 4,none,(.mov (.const (.bool false)))⟩]) (.seq (.region [⟨some 5,none,(.mov (.tmp 0))⟩,⟨some 6,none,(.call (.func 52) [(.tmp 5)])⟩,⟨some 7,none,(.mov (.tmp 6))⟩,⟨some 8,some (7,true),(.mov (.tmp 1))⟩,⟨some 9,some (7,true),(.call (.func 52) [(.tmp 8)])⟩,⟨some 10,some (7,true),(.un .not (.tmp 9))⟩,⟨some 11,none,(.pick (.tmp 7) (.tmp 10) (.const (.bool false)))⟩,⟨some 12,none,(.mov (.tmp 11))⟩,⟨some 13,some (12,false),(.mov (.tmp 0))⟩,⟨some 14,some (12,false),(.mov (.tmp 1))⟩,⟨some 15,some (12,false),(.bin .lss (.tmp 13) (.tmp 14))⟩,⟨some 16,none,(.pick (.tmp 12) (.const (.bool true)) (.tmp 15))⟩,⟨some 4,none,(.mov (.tmp 16))⟩]) .ret))
set_option maxRecDepth 100000 in
theorem tab42:tb.code 42=some ⟨17,[(4,none)],body42⟩:=by kernel_rfl
theorem yN (h:AHeap) (a b:Int):WC Try.prog tb 42 [I a,I b] h fun r h'=>r= .bool (decide (a<b))∧h=h':=by
 refine WC.of (zH 42) tab42 ?_;simp only[zn,Nat.zero_add,Nat.reduceAdd]
 refine go ?_
 refine WO.con (isNaN_ok h a) ?_
 rintro _ _ ⟨rfl,rfl⟩
 refine go ?_
 refine rt ?_
 exact⟨by simp[one],rfl⟩
noncomputable def body36_0:ACode:=(.seq (.seq (.regionC [(⟨some 16,none,(.mov (.tmp 7))⟩,[]),(⟨some 17,none,(.mov (.tmp 1))⟩,[]),(⟨some 18,none,(.bin .gtr (.tmp 16) (.tmp 17))⟩,[]),(⟨some 19,none,(.mov (.tmp 18))⟩,[]),(⟨some 20,some (19,true),(.mov (.tmp 0))⟩,[]),(⟨some 21,some (19,true),(.mov (.tmp 7))⟩,[]),(⟨some 22,some (19,true),(.idx 1 (.tmp 20) (.tmp 21))⟩,[]),(⟨some 23,some (19,true),(.load false 1 (.tmp 22))⟩,[]),(⟨some 24,some (19,true),(.mov (.tmp 0))⟩,[]),(⟨some 25,some (19,true),(.mov (.tmp 7))⟩,[]),(⟨some 26,some (19,true),(.bin .sub (.tmp 25) (.const (.int .i64 1)))⟩,[]),(⟨some 27,some (19,true),(.idx 1 (.tmp 24) (.tmp 26))⟩,[]),(⟨some 28,some (19,true),(.load false 1 (.tmp 27))⟩,[]),(⟨some 29,some (19,true),(.call (.func 42) [(.tmp 23),(.tmp 28)])⟩,[]),(⟨some 30,none,(.pick (.tmp 19) (.tmp 29) (.const (.bool false)))⟩,[])]) (.cond (.tmp 30) .skip (.exit 2))) (.seq (.block 3 (.regionC [(⟨some 33,none,(.mov (.tmp 0))⟩,[]),(⟨some 34,none,(.mov (.tmp 7))⟩,[]),(⟨some 35,none,(.mov (.tmp 0))⟩,[]),(⟨some 36,none,(.mov (.tmp 7))⟩,[]),(⟨some 37,none,(.bin .sub (.tmp 36) (.const (.int .i64 1)))⟩,[]),(⟨some 38,none,(.mov (.tmp 0))⟩,[]),(⟨some 39,none,(.mov (.tmp 7))⟩,[]),(⟨some 40,none,(.bin .sub (.tmp 39) (.const (.int .i64 1)))⟩,[]),(⟨some 41,none,(.idx 1 (.tmp 38) (.tmp 40))⟩,[]),(⟨some 42,none,(.load false 1 (.tmp 41))⟩,[]),(⟨some 43,none,(.mov (.tmp 0))⟩,[]),(⟨some 44,none,(.mov (.tmp 7))⟩,[]),(⟨some 45,none,(.idx 1 (.tmp 43) (.tmp 44))⟩,[]),(⟨some 46,none,(.load false 1 (.tmp 45))⟩,[]),(⟨some 47,none,(.idx 1 (.tmp 33) (.tmp 34))⟩,[]),(⟨none,none,(.store 1 (.tmp 47) (.tmp 42))⟩,[]),(⟨some 48,none,(.idx 1 (.tmp 35) (.tmp 37))⟩,[]),(⟨none,none,(.store 1 (.tmp 48) (.tmp 46))⟩,[])])) (.region [⟨some 31,none,(.mov (.tmp 7))⟩,⟨some 32,none,(.bin .sub (.tmp 31) (.const (.int .i64 1)))⟩,⟨some 7,none,(.mov (.tmp 32))⟩])))
noncomputable def body36_1:ACode:=(.seq (.seq (.region [⟨some 10,none,(.mov (.tmp 6))⟩,⟨some 11,none,(.mov (.tmp 2))⟩,⟨some 12,none,(.bin .lss (.tmp 10) (.tmp 11))⟩]) (.cond (.tmp 12) .skip (.exit 0))) (.seq (.block 1 (.seq (.region [⟨some 15,none,(.mov (.tmp 6))⟩,⟨some 7,none,(.mov (.tmp 15))⟩]) (.block 2 (.loop body36_0)))) (.region [⟨some 13,none,(.mov (.tmp 6))⟩,⟨some 14,none,(.bin .add (.tmp 13) (.const (.int .i64 1)))⟩,⟨some 6,none,(.mov (.tmp 14))⟩])))
noncomputable def body36:ACode:=(.seq (.region [⟨some 8,none,(.mov (.tmp 1))⟩,⟨some 9,none,(.bin .add (.tmp 8) (.const (.int .i64 1)))⟩,⟨some 6,none,(.mov (.tmp 9))⟩]) (.block 0 (.loop body36_1)))
set_option maxRecDepth 100000 in
theorem tab36:tb.code 36=some ⟨49,[],body36⟩:=by kernel_rfl
theorem insertion_ok (hB h:AHeap) (v:Value) (xs:List Int) (a b:Int) (e0:Ext hB h) (hmB:hB.mark≤hB.n) (o:OwnI hB h v xs) (h0:0≤a) (hab:a≤b) (hb:b≤xs.length) (hlen:xs.length≤1000000000):
  WC Try.prog tb 36 [v,I a,I b] h fun r h'=>∃ ys,OwnI hB h' v ys∧PI a b xs ys∧Srt a b ys∧Ext hB h'∧Upd v h h':=by
 refine WC.of (zH 36) tab36 ?_;simp only[zn,Nat.zero_add,Nat.reduceAdd]
 refine go ?_
 refine WX.loopA [10,11,12,15,7,16,17,18,19,20,21,22,23,24,25,26,27,28,29,30,33,34,35,36,37,38,39,40,41,42,43,44,45,46,47,48,31,32,7,13,14,6] (by kernel_rfl) (fun x=>(b - x.2).toNat) (fun (x:List Int×Int) t h1=>zB t 6=I x.2∧a+1≤x.2∧(x.2≤b∨x.2=a+1)∧OwnI hB h1 v x.1∧Ext hB h1∧Upd v h h1∧PI a b xs x.1∧Srt a x.2 x.1) (xs,a+1) ?_ ?_
 ·exact⟨sl_,by simp only;omega,.inr rfl,o,e0,⟨Nat.le_refl _,fun _ _ _=>rfl⟩,PI.refl ..,Srt.small (by simp only;omega)⟩
 rintro⟨ys,i⟩ t h1 hsame ⟨s6,hi1,hi2,o1,e1,u1,p1,r1⟩
 simp only at s6 hi1 hi2 o1 e1 u1 p1 r1
 have hyl:=p1.len
 refine go ?_
 refine WX.br (fun hc=> ?_) (fun hc=> ?_)<;>simp only[DB]at hc
 ·refine go ?_
  refine WX.loopA [16,17,18,19,20,21,22,23,24,25,26,27,28,29,30,33,34,35,36,37,38,39,40,41,42,43,44,45,46,47,48,31,32,7] (by kernel_rfl) (fun x=>(x.2 - a).toNat) (fun (x:List Int×Int) t h2=>zB t 7=I x.2∧a≤x.2∧x.2≤i∧OwnI hB h2 v x.1∧Ext hB h2∧Upd v h h2∧PI a b xs x.1∧∀ p q,a≤p→p≤q→q≤i→q≠x.2→atI x.1 p≤atI x.1 q) (ys,i) ?_ ?_
  ·exact⟨sl_,by simp only;omega,by simp only;omega,o1,e1,u1,p1,fun p q h1 h2 h3 h4=>r1 p q h1 h2 (by simp only at h4;omega)⟩
  rintro⟨zs,j⟩ t2 h2 hsame2 ⟨s7,hj1,hj2,o2,e2,u2,p2,r2⟩
  simp only at s7 hj1 hj2 o2 e2 u2 p2 r2
  have hzl:=p2.len
  refine goC ?_
  refine WX.regionU2 0 rfl rfl ?_
  have sr:SlI (inC (zC 0 h2)) v zs:=o2.sl
  refine goU ?_
  refine WO.sp (fun hd=> ?_) (fun hd=> ?_)<;>simp only[DB]at hd<;>refine goU ?_
  ·refine WO.con (yN _ (atI zs j) (atI zs (j - 1))) ?_
   rintro _ _ ⟨rfl,rfl⟩
   refine WO.nil ?_
   refine zy ?_
   refine goU ?_
   rw[out_self]
   refine WX.br (fun he=> ?_) (fun he=> ?_)<;>simp only[DB]at he<;>refine goC ?_
   ·refine WX.regionU2 0 rfl rfl ?_
    have sr2:SlI (inC (zC 0 h2)) v zs:=o2.sl
    refine goU ?_
    refine WU2.swA j (j - 1) o2 e2 (by rw[e2.mark];exact hmB) ?_
    intro h3 e3 o3 u3
    refine go ?_
    exact zA (swp zs j (j - 1),j - 1) (by simp only;omega) ⟨sl_,by simp only;omega,by simp only;omega,o3,e3,u2.trans u3,p2.trans (PI.swp (by omega) (by omega) (by omega) (by omega)),ins_step h0 hd hj2 (by omega) he r2⟩
   ·refine go ?_
    refine zA (zs,i+1) (by simp only;omega) ⟨sl_,by simp only;omega,by simp only;omega,o2,e2,u2,p2,fun p q h1 h2 h3=> ?_⟩
    by_cases hq:q=j
    ·subst hq
     by_cases hp:p=q
     ·subst hp;exact Int.le_refl _
     ·have:=r2 p (q - 1) h1 (by omega) (by omega) (by omega)
      simp only;omega
    ·exact r2 p q h1 h2 (by simp only at h3;omega) hq
  ·rw[out_self]
   refine goC ?_
   refine zA (zs,i+1) (by simp only;omega) ⟨sl_,by simp only;omega,by simp only;omega,o2,e2,u2,p2,fun p q h1 h2 h3=> ?_⟩
   by_cases hq:q=j
   ·have hp:p=q:=by omega
    subst hp;exact Int.le_refl _
   ·exact r2 p q h1 h2 (by simp only at h3;omega) hq
 ·refine go ?_
  refine rtN ?_
  exact⟨ys,o1,p1,fun p q h1 h2 h3=>r1 p q h1 h2 (by omega),e1,u1⟩
end Go.Proofs.Ytejjibilgmlhdaa
namespace Go.Proofs.Ytejjibilgmlhdaa
open Go.Am
set_option linter.unusedVariables false
set_option linter.unusedSimpArgs false
set_option maxHeartbeats 400000
noncomputable def body44_0:ACode:=(.seq (.seq (.regionC [(⟨some 30,none,(.mov (.tmp 10))⟩,[]),(⟨some 31,none,(.mov (.tmp 11))⟩,[]),(⟨some 32,none,(.bin .leq (.tmp 30) (.tmp 31))⟩,[]),(⟨some 33,none,(.mov (.tmp 32))⟩,[]),(⟨some 34,some (33,true),(.mov (.tmp 0))⟩,[]),(⟨some 35,some (33,true),(.mov (.tmp 10))⟩,[]),(⟨some 36,some (33,true),(.idx 1 (.tmp 34) (.tmp 35))⟩,[]),(⟨some 37,some (33,true),(.load false 1 (.tmp 36))⟩,[]),(⟨some 38,some (33,true),(.mov (.tmp 0))⟩,[]),(⟨some 39,some (33,true),(.mov (.tmp 1))⟩,[]),(⟨some 40,some (33,true),(.idx 1 (.tmp 38) (.tmp 39))⟩,[]),(⟨some 41,some (33,true),(.load false 1 (.tmp 40))⟩,[]),(⟨some 42,some (33,true),(.call (.func 42) [(.tmp 37),(.tmp 41)])⟩,[]),(⟨some 43,none,(.pick (.tmp 33) (.tmp 42) (.const (.bool false)))⟩,[])]) (.cond (.tmp 43) .skip (.exit 0))) (.block 1 (.region [⟨some 44,none,(.mov (.tmp 10))⟩,⟨some 45,none,(.bin .add (.tmp 44) (.const (.int .i64 1)))⟩,⟨some 10,none,(.mov (.tmp 45))⟩])))
noncomputable def body44_1:ACode:=(.seq (.seq (.regionC [(⟨some 46,none,(.mov (.tmp 10))⟩,[]),(⟨some 47,none,(.mov (.tmp 11))⟩,[]),(⟨some 48,none,(.bin .leq (.tmp 46) (.tmp 47))⟩,[]),(⟨some 49,none,(.mov (.tmp 48))⟩,[]),(⟨some 50,some (49,true),(.mov (.tmp 0))⟩,[]),(⟨some 51,some (49,true),(.mov (.tmp 11))⟩,[]),(⟨some 52,some (49,true),(.idx 1 (.tmp 50) (.tmp 51))⟩,[]),(⟨some 53,some (49,true),(.load false 1 (.tmp 52))⟩,[]),(⟨some 54,some (49,true),(.mov (.tmp 0))⟩,[]),(⟨some 55,some (49,true),(.mov (.tmp 1))⟩,[]),(⟨some 56,some (49,true),(.idx 1 (.tmp 54) (.tmp 55))⟩,[]),(⟨some 57,some (49,true),(.load false 1 (.tmp 56))⟩,[]),(⟨some 58,some (49,true),(.call (.func 42) [(.tmp 53),(.tmp 57)])⟩,[]),(⟨some 59,some (49,true),(.un .not (.tmp 58))⟩,[]),(⟨some 60,none,(.pick (.tmp 49) (.tmp 59) (.const (.bool false)))⟩,[])]) (.cond (.tmp 60) .skip (.exit 2))) (.block 3 (.region [⟨some 61,none,(.mov (.tmp 11))⟩,⟨some 62,none,(.bin .sub (.tmp 61) (.const (.int .i64 1)))⟩,⟨some 11,none,(.mov (.tmp 62))⟩])))
noncomputable def body44_2:ACode:=(.seq (.seq (.regionC [(⟨some 99,none,(.mov (.tmp 10))⟩,[]),(⟨some 100,none,(.mov (.tmp 11))⟩,[]),(⟨some 101,none,(.bin .leq (.tmp 99) (.tmp 100))⟩,[]),(⟨some 102,none,(.mov (.tmp 101))⟩,[]),(⟨some 103,some (102,true),(.mov (.tmp 0))⟩,[]),(⟨some 104,some (102,true),(.mov (.tmp 10))⟩,[]),(⟨some 105,some (102,true),(.idx 1 (.tmp 103) (.tmp 104))⟩,[]),(⟨some 106,some (102,true),(.load false 1 (.tmp 105))⟩,[]),(⟨some 107,some (102,true),(.mov (.tmp 0))⟩,[]),(⟨some 108,some (102,true),(.mov (.tmp 1))⟩,[]),(⟨some 109,some (102,true),(.idx 1 (.tmp 107) (.tmp 108))⟩,[]),(⟨some 110,some (102,true),(.load false 1 (.tmp 109))⟩,[]),(⟨some 111,some (102,true),(.call (.func 42) [(.tmp 106),(.tmp 110)])⟩,[]),(⟨some 112,none,(.pick (.tmp 102) (.tmp 111) (.const (.bool false)))⟩,[])]) (.cond (.tmp 112) .skip (.exit 6))) (.block 7 (.region [⟨some 113,none,(.mov (.tmp 10))⟩,⟨some 114,none,(.bin .add (.tmp 113) (.const (.int .i64 1)))⟩,⟨some 10,none,(.mov (.tmp 114))⟩])))
noncomputable def body44_3:ACode:=(.seq (.seq (.regionC [(⟨some 115,none,(.mov (.tmp 10))⟩,[]),(⟨some 116,none,(.mov (.tmp 11))⟩,[]),(⟨some 117,none,(.bin .leq (.tmp 115) (.tmp 116))⟩,[]),(⟨some 118,none,(.mov (.tmp 117))⟩,[]),(⟨some 119,some (118,true),(.mov (.tmp 0))⟩,[]),(⟨some 120,some (118,true),(.mov (.tmp 11))⟩,[]),(⟨some 121,some (118,true),(.idx 1 (.tmp 119) (.tmp 120))⟩,[]),(⟨some 122,some (118,true),(.load false 1 (.tmp 121))⟩,[]),(⟨some 123,some (118,true),(.mov (.tmp 0))⟩,[]),(⟨some 124,some (118,true),(.mov (.tmp 1))⟩,[]),(⟨some 125,some (118,true),(.idx 1 (.tmp 123) (.tmp 124))⟩,[]),(⟨some 126,some (118,true),(.load false 1 (.tmp 125))⟩,[]),(⟨some 127,some (118,true),(.call (.func 42) [(.tmp 122),(.tmp 126)])⟩,[]),(⟨some 128,some (118,true),(.un .not (.tmp 127))⟩,[]),(⟨some 129,none,(.pick (.tmp 118) (.tmp 128) (.const (.bool false)))⟩,[])]) (.cond (.tmp 129) .skip (.exit 8))) (.block 9 (.region [⟨some 130,none,(.mov (.tmp 11))⟩,⟨some 131,none,(.bin .sub (.tmp 130) (.const (.int .i64 1)))⟩,⟨some 11,none,(.mov (.tmp 131))⟩])))
noncomputable def body44_4:ACode:=(.block 5 (.seq (.block 6 (.loop body44_2)) (.seq (.block 8 (.loop body44_3)) (.seq (.seq (.region [⟨some 132,none,(.mov (.tmp 10))⟩,⟨some 133,none,(.mov (.tmp 11))⟩,⟨some 134,none,(.bin .gtr (.tmp 132) (.tmp 133))⟩]) (.cond (.tmp 134) (.exit 4) .skip)) (.seq (.regionC [(⟨some 135,none,(.mov (.tmp 0))⟩,[]),(⟨some 136,none,(.mov (.tmp 10))⟩,[]),(⟨some 137,none,(.mov (.tmp 0))⟩,[]),(⟨some 138,none,(.mov (.tmp 11))⟩,[]),(⟨some 139,none,(.mov (.tmp 0))⟩,[]),(⟨some 140,none,(.mov (.tmp 11))⟩,[]),(⟨some 141,none,(.idx 1 (.tmp 139) (.tmp 140))⟩,[]),(⟨some 142,none,(.load false 1 (.tmp 141))⟩,[]),(⟨some 143,none,(.mov (.tmp 0))⟩,[]),(⟨some 144,none,(.mov (.tmp 10))⟩,[]),(⟨some 145,none,(.idx 1 (.tmp 143) (.tmp 144))⟩,[]),(⟨some 146,none,(.load false 1 (.tmp 145))⟩,[]),(⟨some 147,none,(.idx 1 (.tmp 135) (.tmp 136))⟩,[]),(⟨none,none,(.store 1 (.tmp 147) (.tmp 142))⟩,[]),(⟨some 148,none,(.idx 1 (.tmp 137) (.tmp 138))⟩,[]),(⟨none,none,(.store 1 (.tmp 148) (.tmp 146))⟩,[])]) (.seq (.region [⟨some 149,none,(.mov (.tmp 10))⟩,⟨some 150,none,(.bin .add (.tmp 149) (.const (.int .i64 1)))⟩,⟨some 10,none,(.mov (.tmp 150))⟩]) (.region [⟨some 151,none,(.mov (.tmp 11))⟩,⟨some 152,none,(.bin .sub (.tmp 151) (.const (.int .i64 1)))⟩,⟨some 11,none,(.mov (.tmp 152))⟩])))))))
noncomputable def body44:ACode:=(.seq (.region [⟨some 8,none,(.mov (.const (.int .i64 0)))⟩,⟨some 9,none,(.mov (.const (.bool false)))⟩]) (.seq (.regionC [(⟨some 12,none,(.mov (.tmp 0))⟩,[]),(⟨some 13,none,(.mov (.tmp 1))⟩,[]),(⟨some 14,none,(.mov (.tmp 0))⟩,[]),(⟨some 15,none,(.mov (.tmp 3))⟩,[]),(⟨some 16,none,(.mov (.tmp 0))⟩,[]),(⟨some 17,none,(.mov (.tmp 3))⟩,[]),(⟨some 18,none,(.idx 1 (.tmp 16) (.tmp 17))⟩,[]),(⟨some 19,none,(.load false 1 (.tmp 18))⟩,[]),(⟨some 20,none,(.mov (.tmp 0))⟩,[]),(⟨some 21,none,(.mov (.tmp 1))⟩,[]),(⟨some 22,none,(.idx 1 (.tmp 20) (.tmp 21))⟩,[]),(⟨some 23,none,(.load false 1 (.tmp 22))⟩,[]),(⟨some 24,none,(.idx 1 (.tmp 12) (.tmp 13))⟩,[]),(⟨none,none,(.store 1 (.tmp 24) (.tmp 19))⟩,[]),(⟨some 25,none,(.idx 1 (.tmp 14) (.tmp 15))⟩,[]),(⟨none,none,(.store 1 (.tmp 25) (.tmp 23))⟩,[])]) (.seq (.region [⟨some 26,none,(.mov (.tmp 1))⟩,⟨some 27,none,(.bin .add (.tmp 26) (.const (.int .i64 1)))⟩,⟨some 28,none,(.mov (.tmp 2))⟩,⟨some 29,none,(.bin .sub (.tmp 28) (.const (.int .i64 1)))⟩,⟨some 10,none,(.mov (.tmp 27))⟩,⟨some 11,none,(.mov (.tmp 29))⟩]) (.seq (.block 0 (.loop body44_0)) (.seq (.block 2 (.loop body44_1)) (.seq (.seq (.region [⟨some 63,none,(.mov (.tmp 10))⟩,⟨some 64,none,(.mov (.tmp 11))⟩,⟨some 65,none,(.bin .gtr (.tmp 63) (.tmp 64))⟩]) (.cond (.tmp 65) (.seq (.regionC [(⟨some 66,none,(.mov (.tmp 0))⟩,[]),(⟨some 67,none,(.mov (.tmp 11))⟩,[]),(⟨some 68,none,(.mov (.tmp 0))⟩,[]),(⟨some 69,none,(.mov (.tmp 1))⟩,[]),(⟨some 70,none,(.mov (.tmp 0))⟩,[]),(⟨some 71,none,(.mov (.tmp 1))⟩,[]),(⟨some 72,none,(.idx 1 (.tmp 70) (.tmp 71))⟩,[]),(⟨some 73,none,(.load false 1 (.tmp 72))⟩,[]),(⟨some 74,none,(.mov (.tmp 0))⟩,[]),(⟨some 75,none,(.mov (.tmp 11))⟩,[]),(⟨some 76,none,(.idx 1 (.tmp 74) (.tmp 75))⟩,[]),(⟨some 77,none,(.load false 1 (.tmp 76))⟩,[]),(⟨some 78,none,(.idx 1 (.tmp 66) (.tmp 67))⟩,[]),(⟨none,none,(.store 1 (.tmp 78) (.tmp 73))⟩,[]),(⟨some 79,none,(.idx 1 (.tmp 68) (.tmp 69))⟩,[]),(⟨none,none,(.store 1 (.tmp 79) (.tmp 77))⟩,[])]) (.seq (.region [⟨some 80,none,(.mov (.tmp 11))⟩,⟨some 8,none,(.mov (.tmp 80))⟩,⟨some 9,none,(.mov (.const (.bool true)))⟩]) .ret)) .skip)) (.seq (.regionC [(⟨some 81,none,(.mov (.tmp 0))⟩,[]),(⟨some 82,none,(.mov (.tmp 10))⟩,[]),(⟨some 83,none,(.mov (.tmp 0))⟩,[]),(⟨some 84,none,(.mov (.tmp 11))⟩,[]),(⟨some 85,none,(.mov (.tmp 0))⟩,[]),(⟨some 86,none,(.mov (.tmp 11))⟩,[]),(⟨some 87,none,(.idx 1 (.tmp 85) (.tmp 86))⟩,[]),(⟨some 88,none,(.load false 1 (.tmp 87))⟩,[]),(⟨some 89,none,(.mov (.tmp 0))⟩,[]),(⟨some 90,none,(.mov (.tmp 10))⟩,[]),(⟨some 91,none,(.idx 1 (.tmp 89) (.tmp 90))⟩,[]),(⟨some 92,none,(.load false 1 (.tmp 91))⟩,[]),(⟨some 93,none,(.idx 1 (.tmp 81) (.tmp 82))⟩,[]),(⟨none,none,(.store 1 (.tmp 93) (.tmp 88))⟩,[]),(⟨some 94,none,(.idx 1 (.tmp 83) (.tmp 84))⟩,[]),(⟨none,none,(.store 1 (.tmp 94) (.tmp 92))⟩,[])]) (.seq (.region [⟨some 95,none,(.mov (.tmp 10))⟩,⟨some 96,none,(.bin .add (.tmp 95) (.const (.int .i64 1)))⟩,⟨some 10,none,(.mov (.tmp 96))⟩]) (.seq (.region [⟨some 97,none,(.mov (.tmp 11))⟩,⟨some 98,none,(.bin .sub (.tmp 97) (.const (.int .i64 1)))⟩,⟨some 11,none,(.mov (.tmp 98))⟩]) (.seq (.block 4 (.loop body44_4)) (.seq (.regionC [(⟨some 153,none,(.mov (.tmp 0))⟩,[]),(⟨some 154,none,(.mov (.tmp 11))⟩,[]),(⟨some 155,none,(.mov (.tmp 0))⟩,[]),(⟨some 156,none,(.mov (.tmp 1))⟩,[]),(⟨some 157,none,(.mov (.tmp 0))⟩,[]),(⟨some 158,none,(.mov (.tmp 1))⟩,[]),(⟨some 159,none,(.idx 1 (.tmp 157) (.tmp 158))⟩,[]),(⟨some 160,none,(.load false 1 (.tmp 159))⟩,[]),(⟨some 161,none,(.mov (.tmp 0))⟩,[]),(⟨some 162,none,(.mov (.tmp 11))⟩,[]),(⟨some 163,none,(.idx 1 (.tmp 161) (.tmp 162))⟩,[]),(⟨some 164,none,(.load false 1 (.tmp 163))⟩,[]),(⟨some 165,none,(.idx 1 (.tmp 153) (.tmp 154))⟩,[]),(⟨none,none,(.store 1 (.tmp 165) (.tmp 160))⟩,[]),(⟨some 166,none,(.idx 1 (.tmp 155) (.tmp 156))⟩,[]),(⟨none,none,(.store 1 (.tmp 166) (.tmp 164))⟩,[])]) (.seq (.region [⟨some 167,none,(.mov (.tmp 11))⟩,⟨some 8,none,(.mov (.tmp 167))⟩,⟨some 9,none,(.mov (.const (.bool false)))⟩]) .ret))))))))))))
set_option maxRecDepth 100000 in
theorem tab44:tb.code 44=some ⟨168,[(8,none),(9,none)],body44⟩:=by kernel_rfl
theorem partition_ok (hB h:AHeap) (v:Value) (xs:List Int) (a b pv:Int) (e0:Ext hB h) (hmB:hB.mark≤hB.n) (o:OwnI hB h v xs) (h0:0≤a) (hp:a≤pv∧pv<b) (hb:b≤xs.length) (hlen:xs.length≤1000000000):
  WC Try.prog tb 44 [v,I a,I b,I pv] h fun r h'=>∃ ys m w,r= .tuple #[I m,.bool w]∧SS hB h v a b xs ys h'∧(a≤m∧m<b)∧(∀ k,a≤k→k<m→atI ys k≤atI ys m)∧(∀ k,m<k→k<b→atI ys m≤atI ys k):=by
 have s0:=SS.start a b o e0
 refine WC.of (zH 44) tab44 ?_;simp only[zn,Nat.zero_add,Nat.reduceAdd]
 refine go ?_
 refine WX.regionU2 0 rfl rfl ?_
 have srX:SlI (inC (zC 0 h)) v xs:=(o).sl
 refine goU ?_
 refine WU2.swA (a) (pv) (s0).own (s0).ext (by rw[(s0).ext.mark];exact hmB) ?_
 intro h1 e1 o1 u1
 have s1:=s0.swp e1 o1 u1 h0 hb (by omega) (by omega)
 clear o1 e1 u1
 generalize swp xs a pv=ys at s1
 have hl1:=s1.len
 refine go ?_
 refine WX.loopA [30,31,32,33,34,35,36,37,38,39,40,41,42,43,44,45,10] (by kernel_rfl) (fun i=>(b - i).toNat) (fun (i:Int) t h2=>h1=h2∧zB t 10=I i∧(a+1≤i∧i≤b)∧∀ k,a<k→k<i→atI ys k<atI ys a) (a+1) ?_ ?_
 ·exact⟨rfl,sl_,by omega,fun k h1 h2=>by omega⟩
 rintro i t _ hsame ⟨rfl,s10,hi,hlow⟩
 refine go ?_
 refine WX.cutA [30,31,32,33,34,35,36,37,38,39,40,41,42,43] (by kernel_rfl) (fun t h'=>h1=h'∧zB t 43= .bool (decide (i≤b - 1∧(atI ys i<atI ys a)))) ?_ ?_
 ·refine WX.regionU2 0 rfl rfl ?_
  have srX:SlI (inC (zC 0 h1)) v ys:=(s1.own).sl
  refine goU ?_
  refine WO.sp (fun hd=> ?_) (fun hd=> ?_)<;>simp only[DB]at hd<;>refine goU ?_
  ·refine WO.con (yN _ (atI ys i) (atI ys a)) ?_
   rintro _ _ ⟨rfl,rfl⟩
   refine WO.nil ?_
   refine zy ?_
   refine goU ?_
   exact zE ⟨rfl,by rw[show decide (i≤b - 1∧(atI ys i<atI ys a))=decide (atI ys i<atI ys a) from dec_pos hd];exact sl_⟩
  ·exact zE ⟨rfl,by rw[show decide (i≤b - 1∧(atI ys i<atI ys a))=false from decide_eq_false (fun hh=>absurd hh.1 (by omega))];exact sl_⟩
 rintro t2 _ hs2 ⟨rfl,q2⟩
 refine go ?_
 refine WX.br (fun he=> ?_) (fun he=> ?_)<;>simp only[DB]at he
 ·refine go ?_
  refine zA (i+1) (by omega) ⟨rfl,sl_,by omega,fun k h1 h2=> ?_⟩
  by_cases e:k=i
  ·rw[e];exact he.2
  ·exact hlow k h1 (by omega)
 refine go ?_
 refine WX.loopA [46,47,48,49,50,51,52,53,54,55,56,57,58,59,60,61,62,11] (by kernel_rfl) (fun j=>(j+1 - a).toNat) (fun (j:Int) t h2=>h1=h2∧zB t 11=I j∧(i - 1≤j∧j≤b - 1)∧∀ k,j<k→k<b→atI ys a≤atI ys k) (b - 1) ?_ ?_
 ·exact⟨rfl,sl_,by omega,fun k h1 h2=>by omega⟩
 rintro j t _ hsame ⟨rfl,s11,hj,hhigh⟩
 refine go ?_
 refine WX.cutA [46,47,48,49,50,51,52,53,54,55,56,57,58,59,60] (by kernel_rfl) (fun t h'=>h1=h'∧zB t 60= .bool (decide (i≤j∧¬(atI ys j<atI ys a)))) ?_ ?_
 ·refine WX.regionU2 0 rfl rfl ?_
  have srX:SlI (inC (zC 0 h1)) v ys:=(s1.own).sl
  refine goU ?_
  refine WO.sp (fun hd=> ?_) (fun hd=> ?_)<;>simp only[DB]at hd<;>refine goU ?_
  ·refine WO.con (yN _ (atI ys j) (atI ys a)) ?_
   rintro _ _ ⟨rfl,rfl⟩
   refine WO.nil ?_
   refine zy ?_
   refine goU ?_
   exact zE ⟨rfl,by rw[show decide (i≤j∧¬(atI ys j<atI ys a))= !decide (atI ys j<atI ys a) from dec_neg hd];exact sl_⟩
  ·exact zE ⟨rfl,by rw[show decide (i≤j∧¬(atI ys j<atI ys a))=false from decide_eq_false (fun hh=>absurd hh.1 (by omega))];exact sl_⟩
 rintro t3 _ hs3 ⟨rfl,q3⟩
 refine go ?_
 refine WX.br (fun hf=> ?_) (fun hf=> ?_)<;>simp only[DB]at hf
 ·refine go ?_
  refine zA (j - 1) (by omega) ⟨rfl,sl_,by omega,fun k h1 h2=> ?_⟩
  by_cases e:k=j
  ·rw[e];omega
  ·exact hhigh k (by omega) h2
 refine go ?_
 refine WX.br (fun hg=> ?_) (fun hg=> ?_)<;>simp only[DB]at hg
 ·refine go ?_
  refine WX.regionU2 0 rfl rfl ?_
  have srX:SlI (inC (zC 0 h1)) v ys:=(s1.own).sl
  refine goU ?_
  refine WU2.swA (j) (a) (s1).own (s1).ext (by rw[(s1).ext.mark];exact hmB) ?_
  intro h3 e3 o3 u3
  have s3:=s1.swp e3 o3 u3 h0 hb (by omega) (by omega)
  refine go ?_
  refine rt ?_
  refine⟨_,_,_,rfl,s3,by omega,fun k h1 h2=> ?_,fun k h1 h2=> ?_⟩
  ·rw[zu (by omega) (by omega) (by omega),zu (by omega) (by omega) (by omega)]
   by_cases e:k=a
   ·rw[if_pos e,if_neg (by omega),if_pos rfl];have:=hlow j (by omega) (by omega);omega
   ·rw[if_neg e,if_neg (by omega),if_neg (by omega),if_pos rfl];have:=hlow k (by omega) (by omega);omega
  ·rw[zu (by omega) (by omega) (by omega),zu (by omega) (by omega) (by omega)]
   rw[if_neg (by omega:¬k=a),if_neg (by omega:¬k=j)]
   have:=hhigh k (by omega) (by omega)
   by_cases e:j=a
   ·rw[if_pos e,e];exact this
   ·rw[if_neg e,if_pos rfl];exact this
 refine go ?_
 refine WX.regionU2 0 rfl rfl ?_
 have srX:SlI (inC (zC 0 h1)) v ys:=(s1.own).sl
 refine goU ?_
 refine WU2.swA (i) (j) (s1).own (s1).ext (by rw[(s1).ext.mark];exact hmB) ?_
 intro h3 e3 o3 u3
 have s3:=s1.swp e3 o3 u3 h0 hb (by omega) (by omega)
 have hi2:¬atI ys i<atI ys a:=fun hh=>he ⟨by omega,hh⟩
 have hj2:atI ys j<atI ys a:=Int.not_le.1 fun hh=>hf ⟨by omega,hh⟩
 have hij:i≠j:=fun e=>by subst e;exact hi2 hj2
 have hP:(a+1≤i+1∧i+1≤j - 1+1∧j - 1≤b - 1)∧(∀ k,a<k→k<i+1→atI (swp ys i j) k<atI (swp ys i j) a)∧∀ k,j - 1<k→k<b→atI (swp ys i j) a≤atI (swp ys i j) k:=by
  have ea:atI (swp ys i j) a=atI ys a:=by rw[zu (by omega) (by omega) (by omega),if_neg (by omega),if_neg (by omega)]
  rw[ea]
  refine⟨by omega,fun k h1 h2=> ?_,fun k h1 h2=> ?_⟩
  ·rw[zu (by omega) (by omega) (by omega),if_neg (by omega)]
   by_cases e:k=i
   ·rw[if_pos e];exact hj2
   ·rw[if_neg e];exact hlow k h1 (by omega)
  ·rw[zu (by omega) (by omega) (by omega)]
   by_cases e:k=j
   ·rw[if_pos e];omega
   ·rw[if_neg e,if_neg (by omega)];exact hhigh k (by omega) h2
 clear o3 e3 u3 hlow hhigh
 generalize swp ys i j=zs at s3 hP
 refine go ?_
 refine WX.loopA [99,100,101,102,103,104,105,106,107,108,109,110,111,112,113,114,10,115,116,117,118,119,120,121,122,123,124,125,126,127,128,129,130,131,11,132,133,134,135,136,137,138,139,140,141,142,143,144,145,146,147,148,149,150,10,151,152,11] (by kernel_rfl) (fun x=>(x.2.2+1 - x.2.1).toNat) (fun (x:List Int×Int×Int) t h4=>SS hB h v a b xs x.1 h4∧zB t 10=I x.2.1∧zB t 11=I x.2.2∧(a+1≤x.2.1∧x.2.1≤x.2.2+1∧x.2.2≤b - 1)∧(∀ k,a<k→k<x.2.1→atI x.1 k<atI x.1 a)∧∀ k,x.2.2<k→k<b→atI x.1 a≤atI x.1 k) (zs,i+1,j - 1) ?_ ?_
 ·exact⟨s3,sl_,sl_,hP.1,hP.2.1,hP.2.2⟩
 clear hP s3 s10 s11 he hf hg hi2 hj2 hij q2 q3 hi hj
 rintro⟨ws,p,q⟩ t h4 hsame ⟨s4,s10,s11,hpq,hlow,hhigh⟩
 simp only at s4 s10 s11 hpq hlow hhigh
 have hl4:=s4.len
 refine go ?_
 refine WX.loopA [99,100,101,102,103,104,105,106,107,108,109,110,111,112,113,114,10] (by kernel_rfl) (fun i=>(b - i).toNat) (fun (i:Int) t h2=>h4=h2∧zB t 10=I i∧(p≤i∧i≤q+1)∧∀ k,a<k→k<i→atI ws k<atI ws a) p ?_ ?_
 ·exact⟨rfl,sl_,by omega,hlow⟩
 rintro i2 t _ hsame ⟨rfl,s10,hi,hlow2⟩
 refine go ?_
 refine WX.cutA [99,100,101,102,103,104,105,106,107,108,109,110,111,112] (by kernel_rfl) (fun t h'=>h4=h'∧zB t 112= .bool (decide (i2≤q∧(atI ws i2<atI ws a)))) ?_ ?_
 ·refine WX.regionU2 0 rfl rfl ?_
  have srX:SlI (inC (zC 0 h4)) v ws:=(s4.own).sl
  refine goU ?_
  refine WO.sp (fun hd=> ?_) (fun hd=> ?_)<;>simp only[DB]at hd<;>refine goU ?_
  ·refine WO.con (yN _ (atI ws i2) (atI ws a)) ?_
   rintro _ _ ⟨rfl,rfl⟩
   refine WO.nil ?_
   refine zy ?_
   refine goU ?_
   exact zE ⟨rfl,by rw[show decide (i2≤q∧(atI ws i2<atI ws a))=decide (atI ws i2<atI ws a) from dec_pos hd];exact sl_⟩
  ·exact zE ⟨rfl,by rw[show decide (i2≤q∧(atI ws i2<atI ws a))=false from decide_eq_false (fun hh=>absurd hh.1 (by omega))];exact sl_⟩
 rintro t5 _ hs5 ⟨rfl,q5⟩
 refine go ?_
 refine WX.br (fun he=> ?_) (fun he=> ?_)<;>simp only[DB]at he
 ·refine go ?_
  refine zA (i2+1) (by omega) ⟨rfl,sl_,by omega,fun k h1 h2=> ?_⟩
  by_cases e:k=i2
  ·rw[e];exact he.2
  ·exact hlow2 k h1 (by omega)
 refine go ?_
 refine WX.loopA [115,116,117,118,119,120,121,122,123,124,125,126,127,128,129,130,131,11] (by kernel_rfl) (fun j=>(j+1 - a).toNat) (fun (j:Int) t h2=>h4=h2∧zB t 11=I j∧(i2 - 1≤j∧j≤q)∧∀ k,j<k→k<b→atI ws a≤atI ws k) q ?_ ?_
 ·exact⟨rfl,sl_,by omega,hhigh⟩
 rintro j2 t _ hsame ⟨rfl,s11,hj,hhigh2⟩
 refine go ?_
 refine WX.cutA [115,116,117,118,119,120,121,122,123,124,125,126,127,128,129] (by kernel_rfl) (fun t h'=>h4=h'∧zB t 129= .bool (decide (i2≤j2∧¬(atI ws j2<atI ws a)))) ?_ ?_
 ·refine WX.regionU2 0 rfl rfl ?_
  have srX:SlI (inC (zC 0 h4)) v ws:=(s4.own).sl
  refine goU ?_
  refine WO.sp (fun hd=> ?_) (fun hd=> ?_)<;>simp only[DB]at hd<;>refine goU ?_
  ·refine WO.con (yN _ (atI ws j2) (atI ws a)) ?_
   rintro _ _ ⟨rfl,rfl⟩
   refine WO.nil ?_
   refine zy ?_
   refine goU ?_
   exact zE ⟨rfl,by rw[show decide (i2≤j2∧¬(atI ws j2<atI ws a))= !decide (atI ws j2<atI ws a) from dec_neg hd];exact sl_⟩
  ·exact zE ⟨rfl,by rw[show decide (i2≤j2∧¬(atI ws j2<atI ws a))=false from decide_eq_false (fun hh=>absurd hh.1 (by omega))];exact sl_⟩
 rintro t6 _ hs6 ⟨rfl,q6⟩
 refine go ?_
 refine WX.br (fun hf=> ?_) (fun hf=> ?_)<;>simp only[DB]at hf
 ·refine go ?_
  refine zA (j2 - 1) (by omega) ⟨rfl,sl_,by omega,fun k h1 h2=> ?_⟩
  by_cases e:k=j2
  ·rw[e];omega
  ·exact hhigh2 k (by omega) h2
 refine go ?_
 refine WX.br (fun hg=> ?_) (fun hg=> ?_)<;>simp only[DB]at hg
 ·refine go ?_
  refine WX.regionU2 0 rfl rfl ?_
  have srX:SlI (inC (zC 0 h4)) v ws:=(s4.own).sl
  refine goU ?_
  refine WU2.swA (j2) (a) (s4).own (s4).ext (by rw[(s4).ext.mark];exact hmB) ?_
  intro h3 e3 o3 u3
  have s3:=s4.swp e3 o3 u3 h0 hb (by omega) (by omega)
  refine go ?_
  refine rt ?_
  refine⟨_,_,_,rfl,s3,by omega,fun k h1 h2=> ?_,fun k h1 h2=> ?_⟩
  ·rw[zu (by omega) (by omega) (by omega),zu (by omega) (by omega) (by omega)]
   by_cases e:k=a
   ·rw[if_pos e,if_neg (by omega),if_pos rfl];have:=hlow2 j2 (by omega) (by omega);omega
   ·rw[if_neg e,if_neg (by omega),if_neg (by omega),if_pos rfl];have:=hlow2 k (by omega) (by omega);omega
  ·rw[zu (by omega) (by omega) (by omega),zu (by omega) (by omega) (by omega)]
   rw[if_neg (by omega:¬k=a),if_neg (by omega:¬k=j2)]
   have:=hhigh2 k (by omega) (by omega)
   by_cases e:j2=a
   ·rw[if_pos e,e];exact this
   ·rw[if_neg e,if_pos rfl];exact this
 refine go ?_
 refine WX.regionU2 0 rfl rfl ?_
 have srX:SlI (inC (zC 0 h4)) v ws:=(s4.own).sl
 refine goU ?_
 refine WU2.swA (i2) (j2) (s4).own (s4).ext (by rw[(s4).ext.mark];exact hmB) ?_
 intro h3 e3 o3 u3
 have s3:=s4.swp e3 o3 u3 h0 hb (by omega) (by omega)
 have hi2:¬atI ws i2<atI ws a:=fun hh=>he ⟨by omega,hh⟩
 have hj2:atI ws j2<atI ws a:=Int.not_le.1 fun hh=>hf ⟨by omega,hh⟩
 have hij:i2≠j2:=fun e=>by subst e;exact hi2 hj2
 have ea:atI (swp ws i2 j2) a=atI ws a:=by rw[zu (by omega) (by omega) (by omega),if_neg (by omega),if_neg (by omega)]
 refine go ?_
 refine zA (swp ws i2 j2,i2+1,j2 - 1) (by simp only;omega) ⟨s3,sl_,sl_,by simp only;omega,fun k h1 h2=> ?_,fun k h1 h2=> ?_⟩
 ·simp only at h2 ⊢
  rw[ea,zu (by omega) (by omega) (by omega),if_neg (by omega)]
  by_cases e:k=i2
  ·rw[if_pos e];exact hj2
  ·rw[if_neg e];exact hlow2 k h1 (by omega)
 ·simp only at h1 ⊢
  rw[ea,zu (by omega) (by omega) (by omega)]
  by_cases e:k=j2
  ·rw[if_pos e];omega
  ·rw[if_neg e,if_neg (by omega)];exact hhigh2 k (by omega) h2
end Go.Proofs.Ytejjibilgmlhdaa
namespace Go.Proofs.Ytejjibilgmlhdaa
open Go.Am
set_option linter.unusedVariables false
set_option linter.unusedSimpArgs false
set_option maxHeartbeats 400000
noncomputable def body43_0:ACode:=(.seq (.seq (.regionC [(⟨some 29,none,(.mov (.tmp 9))⟩,[]),(⟨some 30,none,(.mov (.tmp 10))⟩,[]),(⟨some 31,none,(.bin .leq (.tmp 29) (.tmp 30))⟩,[]),(⟨some 32,none,(.mov (.tmp 31))⟩,[]),(⟨some 33,some (32,true),(.mov (.tmp 0))⟩,[]),(⟨some 34,some (32,true),(.mov (.tmp 1))⟩,[]),(⟨some 35,some (32,true),(.idx 1 (.tmp 33) (.tmp 34))⟩,[]),(⟨some 36,some (32,true),(.load false 1 (.tmp 35))⟩,[]),(⟨some 37,some (32,true),(.mov (.tmp 0))⟩,[]),(⟨some 38,some (32,true),(.mov (.tmp 9))⟩,[]),(⟨some 39,some (32,true),(.idx 1 (.tmp 37) (.tmp 38))⟩,[]),(⟨some 40,some (32,true),(.load false 1 (.tmp 39))⟩,[]),(⟨some 41,some (32,true),(.call (.func 42) [(.tmp 36),(.tmp 40)])⟩,[]),(⟨some 42,some (32,true),(.un .not (.tmp 41))⟩,[]),(⟨some 43,none,(.pick (.tmp 32) (.tmp 42) (.const (.bool false)))⟩,[])]) (.cond (.tmp 43) .skip (.exit 2))) (.block 3 (.region [⟨some 44,none,(.mov (.tmp 9))⟩,⟨some 45,none,(.bin .add (.tmp 44) (.const (.int .i64 1)))⟩,⟨some 9,none,(.mov (.tmp 45))⟩])))
noncomputable def body43_1:ACode:=(.seq (.seq (.regionC [(⟨some 46,none,(.mov (.tmp 9))⟩,[]),(⟨some 47,none,(.mov (.tmp 10))⟩,[]),(⟨some 48,none,(.bin .leq (.tmp 46) (.tmp 47))⟩,[]),(⟨some 49,none,(.mov (.tmp 48))⟩,[]),(⟨some 50,some (49,true),(.mov (.tmp 0))⟩,[]),(⟨some 51,some (49,true),(.mov (.tmp 1))⟩,[]),(⟨some 52,some (49,true),(.idx 1 (.tmp 50) (.tmp 51))⟩,[]),(⟨some 53,some (49,true),(.load false 1 (.tmp 52))⟩,[]),(⟨some 54,some (49,true),(.mov (.tmp 0))⟩,[]),(⟨some 55,some (49,true),(.mov (.tmp 10))⟩,[]),(⟨some 56,some (49,true),(.idx 1 (.tmp 54) (.tmp 55))⟩,[]),(⟨some 57,some (49,true),(.load false 1 (.tmp 56))⟩,[]),(⟨some 58,some (49,true),(.call (.func 42) [(.tmp 53),(.tmp 57)])⟩,[]),(⟨some 59,none,(.pick (.tmp 49) (.tmp 58) (.const (.bool false)))⟩,[])]) (.cond (.tmp 59) .skip (.exit 4))) (.block 5 (.region [⟨some 60,none,(.mov (.tmp 10))⟩,⟨some 61,none,(.bin .sub (.tmp 60) (.const (.int .i64 1)))⟩,⟨some 10,none,(.mov (.tmp 61))⟩])))
noncomputable def body43_2:ACode:=(.block 1 (.seq (.block 2 (.loop body43_0)) (.seq (.block 4 (.loop body43_1)) (.seq (.seq (.region [⟨some 62,none,(.mov (.tmp 9))⟩,⟨some 63,none,(.mov (.tmp 10))⟩,⟨some 64,none,(.bin .gtr (.tmp 62) (.tmp 63))⟩]) (.cond (.tmp 64) (.exit 0) .skip)) (.seq (.regionC [(⟨some 65,none,(.mov (.tmp 0))⟩,[]),(⟨some 66,none,(.mov (.tmp 9))⟩,[]),(⟨some 67,none,(.mov (.tmp 0))⟩,[]),(⟨some 68,none,(.mov (.tmp 10))⟩,[]),(⟨some 69,none,(.mov (.tmp 0))⟩,[]),(⟨some 70,none,(.mov (.tmp 10))⟩,[]),(⟨some 71,none,(.idx 1 (.tmp 69) (.tmp 70))⟩,[]),(⟨some 72,none,(.load false 1 (.tmp 71))⟩,[]),(⟨some 73,none,(.mov (.tmp 0))⟩,[]),(⟨some 74,none,(.mov (.tmp 9))⟩,[]),(⟨some 75,none,(.idx 1 (.tmp 73) (.tmp 74))⟩,[]),(⟨some 76,none,(.load false 1 (.tmp 75))⟩,[]),(⟨some 77,none,(.idx 1 (.tmp 65) (.tmp 66))⟩,[]),(⟨none,none,(.store 1 (.tmp 77) (.tmp 72))⟩,[]),(⟨some 78,none,(.idx 1 (.tmp 67) (.tmp 68))⟩,[]),(⟨none,none,(.store 1 (.tmp 78) (.tmp 76))⟩,[])]) (.seq (.region [⟨some 79,none,(.mov (.tmp 9))⟩,⟨some 80,none,(.bin .add (.tmp 79) (.const (.int .i64 1)))⟩,⟨some 9,none,(.mov (.tmp 80))⟩]) (.region [⟨some 81,none,(.mov (.tmp 10))⟩,⟨some 82,none,(.bin .sub (.tmp 81) (.const (.int .i64 1)))⟩,⟨some 10,none,(.mov (.tmp 82))⟩])))))))
noncomputable def body43:ACode:=(.seq (.region [⟨some 8,none,(.mov (.const (.int .i64 0)))⟩]) (.seq (.regionC [(⟨some 11,none,(.mov (.tmp 0))⟩,[]),(⟨some 12,none,(.mov (.tmp 1))⟩,[]),(⟨some 13,none,(.mov (.tmp 0))⟩,[]),(⟨some 14,none,(.mov (.tmp 3))⟩,[]),(⟨some 15,none,(.mov (.tmp 0))⟩,[]),(⟨some 16,none,(.mov (.tmp 3))⟩,[]),(⟨some 17,none,(.idx 1 (.tmp 15) (.tmp 16))⟩,[]),(⟨some 18,none,(.load false 1 (.tmp 17))⟩,[]),(⟨some 19,none,(.mov (.tmp 0))⟩,[]),(⟨some 20,none,(.mov (.tmp 1))⟩,[]),(⟨some 21,none,(.idx 1 (.tmp 19) (.tmp 20))⟩,[]),(⟨some 22,none,(.load false 1 (.tmp 21))⟩,[]),(⟨some 23,none,(.idx 1 (.tmp 11) (.tmp 12))⟩,[]),(⟨none,none,(.store 1 (.tmp 23) (.tmp 18))⟩,[]),(⟨some 24,none,(.idx 1 (.tmp 13) (.tmp 14))⟩,[]),(⟨none,none,(.store 1 (.tmp 24) (.tmp 22))⟩,[])]) (.seq (.region [⟨some 25,none,(.mov (.tmp 1))⟩,⟨some 26,none,(.bin .add (.tmp 25) (.const (.int .i64 1)))⟩,⟨some 27,none,(.mov (.tmp 2))⟩,⟨some 28,none,(.bin .sub (.tmp 27) (.const (.int .i64 1)))⟩,⟨some 9,none,(.mov (.tmp 26))⟩,⟨some 10,none,(.mov (.tmp 28))⟩]) (.seq (.block 0 (.loop body43_2)) (.seq (.region [⟨some 83,none,(.mov (.tmp 9))⟩,⟨some 8,none,(.mov (.tmp 83))⟩]) .ret)))))
set_option maxRecDepth 100000 in
theorem tab43:tb.code 43=some ⟨84,[(8,none)],body43⟩:=by kernel_rfl
theorem partEqual_ok (hB h:AHeap) (v:Value) (xs:List Int) (a b pv:Int) (e0:Ext hB h) (hmB:hB.mark≤hB.n) (o:OwnI hB h v xs) (h0:0≤a) (hp:a≤pv∧pv<b) (hb:b≤xs.length) (hlen:xs.length≤1000000000):
  WC Try.prog tb 43 [v,I a,I b,I pv] h fun r h'=>∃ ys m,r=I m∧SS hB h v a b xs ys h'∧(a+1≤m∧m≤b)∧(∀ k,a≤k→k<m→atI ys k≤atI xs pv)∧(∀ k,m≤k→k<b→atI xs pv<atI ys k):=by
 have s0:=SS.start a b o e0
 refine WC.of (zH 43) tab43 ?_;simp only[zn,Nat.zero_add,Nat.reduceAdd]
 refine go ?_
 refine WX.regionU2 0 rfl rfl ?_
 have srX:SlI (inC (zC 0 h)) v xs:=(o).sl
 refine goU ?_
 refine WU2.swA (a) (pv) (s0).own (s0).ext (by rw[(s0).ext.mark];exact hmB) ?_
 intro h1 e1 o1 u1
 have s1:=s0.swp e1 o1 u1 h0 hb (by omega) (by omega)
 clear o1 e1 u1
 have ha:atI (swp xs a pv) a=atI xs pv:=by
  rw[zu (by omega) (by omega) (by omega)]
  by_cases e:a=pv
  ·rw[if_pos e,e]
  ·rw[if_neg e,if_pos rfl]
 generalize swp xs a pv=ys at s1 ha
 generalize atI xs pv=P at ha ⊢
 have hl1:=s1.len
 refine go ?_
 refine WX.loopA [29,30,31,32,33,34,35,36,37,38,39,40,41,42,43,44,45,9,46,47,48,49,50,51,52,53,54,55,56,57,58,59,60,61,10,62,63,64,65,66,67,68,69,70,71,72,73,74,75,76,77,78,79,80,9,81,82,10] (by kernel_rfl) (fun x=>(x.2.2+1 - x.2.1).toNat) (fun (x:List Int×Int×Int) t h4=>SS hB h v a b xs x.1 h4∧zB t 9=I x.2.1∧zB t 10=I x.2.2∧(a+1≤x.2.1∧x.2.1≤x.2.2+1∧x.2.2≤b - 1)∧atI x.1 a=P∧(∀ k,a<k→k<x.2.1→atI x.1 k≤P)∧∀ k,x.2.2<k→k<b→P<atI x.1 k) (ys,a+1,b - 1) ?_ ?_
 ·exact⟨s1,sl_,sl_,by simp only;omega,ha,fun k h1 h2=>by simp only at h2;omega,fun k h1 h2=>by simp only at h1;omega⟩
 clear s1 ha hl1
 rintro⟨ws,p,q⟩ t h4 hsame ⟨s4,s9,s10,hpq,ha,hlow,hhigh⟩
 simp only at s4 s9 s10 hpq ha hlow hhigh
 have hl4:=s4.len
 refine go ?_
 refine WX.loopA [29,30,31,32,33,34,35,36,37,38,39,40,41,42,43,44,45,9] (by kernel_rfl) (fun i=>(b - i).toNat) (fun (i:Int) t h2=>h4=h2∧zB t 9=I i∧(p≤i∧i≤q+1)∧∀ k,a<k→k<i→atI ws k≤P) p ?_ ?_
 ·exact⟨rfl,sl_,by omega,hlow⟩
 rintro i2 t _ hsame ⟨rfl,s9,hi,hlow2⟩
 refine go ?_
 refine WX.cutA [29,30,31,32,33,34,35,36,37,38,39,40,41,42,43] (by kernel_rfl) (fun t h'=>h4=h'∧zB t 43= .bool (decide (i2≤q∧¬(atI ws a<atI ws i2)))) ?_ ?_
 ·refine WX.regionU2 0 rfl rfl ?_
  have srX:SlI (inC (zC 0 h4)) v ws:=(s4.own).sl
  refine goU ?_
  refine WO.sp (fun hd=> ?_) (fun hd=> ?_)<;>simp only[DB]at hd<;>refine goU ?_
  ·refine WO.con (yN _ (atI ws a) (atI ws i2)) ?_
   rintro _ _ ⟨rfl,rfl⟩
   refine WO.nil ?_
   refine zy ?_
   refine goU ?_
   exact zE ⟨rfl,by rw[show decide (i2≤q∧¬(atI ws a<atI ws i2))= !decide (atI ws a<atI ws i2) from dec_neg hd];exact sl_⟩
  ·exact zE ⟨rfl,by rw[show decide (i2≤q∧¬(atI ws a<atI ws i2))=false from decide_eq_false (fun hh=>absurd hh.1 (by omega))];exact sl_⟩
 rintro t5 _ hs5 ⟨rfl,q5⟩
 refine go ?_
 refine WX.br (fun he=> ?_) (fun he=> ?_)<;>simp only[DB]at he
 ·refine go ?_
  refine zA (i2+1) (by omega) ⟨rfl,sl_,by omega,fun k h1 h2=> ?_⟩
  by_cases e:k=i2
  ·rw[e];omega
  ·exact hlow2 k h1 (by omega)
 refine go ?_
 refine WX.loopA [46,47,48,49,50,51,52,53,54,55,56,57,58,59,60,61,10] (by kernel_rfl) (fun j=>(j+1 - a).toNat) (fun (j:Int) t h2=>h4=h2∧zB t 10=I j∧(i2 - 1≤j∧j≤q)∧∀ k,j<k→k<b→P<atI ws k) q ?_ ?_
 ·exact⟨rfl,sl_,by omega,hhigh⟩
 rintro j2 t _ hsame ⟨rfl,s10,hj,hhigh2⟩
 refine go ?_
 refine WX.cutA [46,47,48,49,50,51,52,53,54,55,56,57,58,59] (by kernel_rfl) (fun t h'=>h4=h'∧zB t 59= .bool (decide (i2≤j2∧(atI ws a<atI ws j2)))) ?_ ?_
 ·refine WX.regionU2 0 rfl rfl ?_
  have srX:SlI (inC (zC 0 h4)) v ws:=(s4.own).sl
  refine goU ?_
  refine WO.sp (fun hd=> ?_) (fun hd=> ?_)<;>simp only[DB]at hd<;>refine goU ?_
  ·refine WO.con (yN _ (atI ws a) (atI ws j2)) ?_
   rintro _ _ ⟨rfl,rfl⟩
   refine WO.nil ?_
   refine zy ?_
   refine goU ?_
   exact zE ⟨rfl,by rw[show decide (i2≤j2∧(atI ws a<atI ws j2))=decide (atI ws a<atI ws j2) from dec_pos hd];exact sl_⟩
  ·exact zE ⟨rfl,by rw[show decide (i2≤j2∧(atI ws a<atI ws j2))=false from decide_eq_false (fun hh=>absurd hh.1 (by omega))];exact sl_⟩
 rintro t6 _ hs6 ⟨rfl,q6⟩
 refine go ?_
 refine WX.br (fun hf=> ?_) (fun hf=> ?_)<;>simp only[DB]at hf
 ·refine go ?_
  refine zA (j2 - 1) (by omega) ⟨rfl,sl_,by omega,fun k h1 h2=> ?_⟩
  by_cases e:k=j2
  ·rw[e];omega
  ·exact hhigh2 k (by omega) h2
 refine go ?_
 refine WX.br (fun hg=> ?_) (fun hg=> ?_)<;>simp only[DB]at hg
 ·refine go ?_
  refine rt ?_
  refine⟨_,_,rfl,s4,by omega,fun k h1 h2=> ?_,fun k h1 h2=> ?_⟩
  ·by_cases e:k=a
   ·rw[e,ha];exact Int.le_refl _
   ·exact hlow2 k (by omega) h2
  ·exact hhigh2 k (by omega) h2
 have hi2:P<atI ws i2:=by
  rw[←ha];exact Int.not_le.1 fun hh=>he ⟨by omega,hh⟩
 have hj2:atI ws j2≤P:=by
  rw[←ha];exact Int.not_lt.1 fun hh=>hf ⟨by omega,hh⟩
 have hij:i2≠j2:=fun e=>by subst e;omega
 refine go ?_
 refine WX.regionU2 0 rfl rfl ?_
 have srX:SlI (inC (zC 0 h4)) v ws:=(s4.own).sl
 refine goU ?_
 refine WU2.swA (i2) (j2) (s4).own (s4).ext (by rw[(s4).ext.mark];exact hmB) ?_
 intro h3 e3 o3 u3
 have s3:=s4.swp e3 o3 u3 h0 hb (by omega) (by omega)
 refine go ?_
 refine zA (swp ws i2 j2,i2+1,j2 - 1) (by simp only;omega) ⟨s3,sl_,sl_,by simp only;omega,?_,fun k h1 h2=> ?_,fun k h1 h2=> ?_⟩
 ·simp only
  rw[zu (by omega) (by omega) (by omega),if_neg (by omega),if_neg (by omega)];exact ha
 ·simp only at h2 ⊢
  rw[zu (by omega) (by omega) (by omega),if_neg (by omega)]
  by_cases e:k=i2
  ·rw[if_pos e];exact hj2
  ·rw[if_neg e];exact hlow2 k h1 (by omega)
 ·simp only at h1 ⊢
  rw[zu (by omega) (by omega) (by omega)]
  by_cases e:k=j2
  ·rw[if_pos e];omega
  ·rw[if_neg e,if_neg (by omega)];exact hhigh2 k (by omega) h2
noncomputable def body40_0:ACode:=(.seq (.seq (.region [⟨some 11,none,(.mov (.tmp 6))⟩,⟨some 12,none,(.mov (.tmp 7))⟩,⟨some 13,none,(.bin .lss (.tmp 11) (.tmp 12))⟩]) (.cond (.tmp 13) .skip (.exit 0))) (.block 1 (.seq (.regionC [(⟨some 14,none,(.mov (.tmp 0))⟩,[]),(⟨some 15,none,(.mov (.tmp 6))⟩,[]),(⟨some 16,none,(.mov (.tmp 0))⟩,[]),(⟨some 17,none,(.mov (.tmp 7))⟩,[]),(⟨some 18,none,(.mov (.tmp 0))⟩,[]),(⟨some 19,none,(.mov (.tmp 7))⟩,[]),(⟨some 20,none,(.idx 1 (.tmp 18) (.tmp 19))⟩,[]),(⟨some 21,none,(.load false 1 (.tmp 20))⟩,[]),(⟨some 22,none,(.mov (.tmp 0))⟩,[]),(⟨some 23,none,(.mov (.tmp 6))⟩,[]),(⟨some 24,none,(.idx 1 (.tmp 22) (.tmp 23))⟩,[]),(⟨some 25,none,(.load false 1 (.tmp 24))⟩,[]),(⟨some 26,none,(.idx 1 (.tmp 14) (.tmp 15))⟩,[]),(⟨none,none,(.store 1 (.tmp 26) (.tmp 21))⟩,[]),(⟨some 27,none,(.idx 1 (.tmp 16) (.tmp 17))⟩,[]),(⟨none,none,(.store 1 (.tmp 27) (.tmp 25))⟩,[])]) (.seq (.region [⟨some 28,none,(.mov (.tmp 6))⟩,⟨some 29,none,(.bin .add (.tmp 28) (.const (.int .i64 1)))⟩,⟨some 6,none,(.mov (.tmp 29))⟩]) (.region [⟨some 30,none,(.mov (.tmp 7))⟩,⟨some 31,none,(.bin .sub (.tmp 30) (.const (.int .i64 1)))⟩,⟨some 7,none,(.mov (.tmp 31))⟩])))))
noncomputable def body40:ACode:=(.seq (.region [⟨some 8,none,(.mov (.tmp 1))⟩,⟨some 6,none,(.mov (.tmp 8))⟩]) (.seq (.region [⟨some 9,none,(.mov (.tmp 2))⟩,⟨some 10,none,(.bin .sub (.tmp 9) (.const (.int .i64 1)))⟩,⟨some 7,none,(.mov (.tmp 10))⟩]) (.block 0 (.loop body40_0))))
set_option maxRecDepth 100000 in
theorem tab40:tb.code 40=some ⟨32,[],body40⟩:=by kernel_rfl
theorem reverse_ok (hB h:AHeap) (v:Value) (xs:List Int) (a b:Int) (e0:Ext hB h) (hmB:hB.mark≤hB.n) (o:OwnI hB h v xs) (h0:0≤a) (hab:a≤b) (hb:b≤xs.length) (hlen:xs.length≤1000000000):
  WC Try.prog tb 40 [v,I a,I b] h fun r h'=>∃ ys,SS hB h v a b xs ys h':=by
 have s0:=SS.start a b o e0
 refine WC.of (zH 40) tab40 ?_;simp only[zn,Nat.zero_add,Nat.reduceAdd]
 refine go ?_
 refine WX.loopA [11,12,13,14,15,16,17,18,19,20,21,22,23,24,25,26,27,28,29,6,30,31,7] (by kernel_rfl) (fun x=>(x.2.2+1 - x.2.1).toNat) (fun (x:List Int×Int×Int) t h4=>SS hB h v a b xs x.1 h4∧zB t 6=I x.2.1∧zB t 7=I x.2.2∧(a≤x.2.1∧x.2.2≤b - 1)∧(x.2.1≤b∧a - 1≤x.2.2)) (xs,a,b - 1) ?_ ?_
 ·exact⟨s0,sl_,sl_,by simp only;omega,by simp only;omega⟩
 rintro⟨ws,p,q⟩ t h4 hsame ⟨s4,s6,s7,hpq,hpq2⟩
 simp only at s4 s6 s7 hpq hpq2
 have hl4:=s4.len
 refine go ?_
 refine WX.br (fun he=> ?_) (fun he=> ?_)<;>simp only[DB]at he
 ·refine go ?_
  refine WX.regionU2 0 rfl rfl ?_
  have srX:SlI (inC (zC 0 h4)) v ws:=(s4.own).sl
  refine goU ?_
  refine WU2.swA (p) (q) (s4).own (s4).ext (by rw[(s4).ext.mark];exact hmB) ?_
  intro h3 e3 o3 u3
  have s3:=s4.swp e3 o3 u3 h0 hb (by omega) (by omega)
  refine go ?_
  exact zA (swp ws p q,p+1,q - 1) (by simp only;omega) ⟨s3,sl_,sl_,by simp only;omega,by simp only;omega⟩
 ·refine go ?_
  refine rtN ?_
  exact⟨ws,s4⟩
def Edge (lo hi k c:Int):Prop:=lo≤k∧(c=2 * k+1∨c=2 * k+2)∧c<hi
def Heapy (first lo hi:Int) (xs:List Int):Prop:=∀ k c,Edge lo hi k c→atI xs (first+c)≤atI xs (first+k)
theorem heap_max {first hi:Int} {xs:List Int} (h:Heapy first 0 hi xs):∀ (n:Nat) (k:Int),k=n→k<hi→atI xs (first+k)≤atI xs (first+0):=by
 intro n
 induction n using Nat.strongRecOn with
 |_ n ih=>
  intro k hk hlt
  by_cases e:k=0
  ·rw[e];exact Int.le_refl _
  ·have h1:=h ((k - 1) / 2) k ⟨by omega,by omega,hlt⟩
   have h2:=ih ((k - 1) / 2).toNat (by omega) ((k - 1) / 2) (by omega) (by omega)
   omega
noncomputable def body47_0:ACode:=(.block 1 (.seq (.region [⟨some 11,none,(.mov (.tmp 8))⟩,⟨some 12,none,(.bin .mul (.const (.int .i64 2)) (.tmp 11))⟩,⟨some 13,none,(.bin .add (.tmp 12) (.const (.int .i64 1)))⟩,⟨some 9,none,(.mov (.tmp 13))⟩]) (.seq (.seq (.region [⟨some 14,none,(.mov (.tmp 9))⟩,⟨some 15,none,(.mov (.tmp 2))⟩,⟨some 16,none,(.bin .geq (.tmp 14) (.tmp 15))⟩]) (.cond (.tmp 16) (.exit 0) .skip)) (.seq (.seq (.regionC [(⟨some 17,none,(.mov (.tmp 9))⟩,[]),(⟨some 18,none,(.bin .add (.tmp 17) (.const (.int .i64 1)))⟩,[]),(⟨some 19,none,(.mov (.tmp 2))⟩,[]),(⟨some 20,none,(.bin .lss (.tmp 18) (.tmp 19))⟩,[]),(⟨some 21,none,(.mov (.tmp 20))⟩,[]),(⟨some 22,some (21,true),(.mov (.tmp 0))⟩,[]),(⟨some 23,some (21,true),(.mov (.tmp 3))⟩,[]),(⟨some 24,some (21,true),(.mov (.tmp 9))⟩,[]),(⟨some 25,some (21,true),(.bin .add (.tmp 23) (.tmp 24))⟩,[]),(⟨some 26,some (21,true),(.idx 1 (.tmp 22) (.tmp 25))⟩,[]),(⟨some 27,some (21,true),(.load false 1 (.tmp 26))⟩,[]),(⟨some 28,some (21,true),(.mov (.tmp 0))⟩,[]),(⟨some 29,some (21,true),(.mov (.tmp 3))⟩,[]),(⟨some 30,some (21,true),(.mov (.tmp 9))⟩,[]),(⟨some 31,some (21,true),(.bin .add (.tmp 29) (.tmp 30))⟩,[]),(⟨some 32,some (21,true),(.bin .add (.tmp 31) (.const (.int .i64 1)))⟩,[]),(⟨some 33,some (21,true),(.idx 1 (.tmp 28) (.tmp 32))⟩,[]),(⟨some 34,some (21,true),(.load false 1 (.tmp 33))⟩,[]),(⟨some 35,some (21,true),(.call (.func 42) [(.tmp 27),(.tmp 34)])⟩,[]),(⟨some 36,none,(.pick (.tmp 21) (.tmp 35) (.const (.bool false)))⟩,[])]) (.cond (.tmp 36) (.region [⟨some 37,none,(.mov (.tmp 9))⟩,⟨some 38,none,(.bin .add (.tmp 37) (.const (.int .i64 1)))⟩,⟨some 9,none,(.mov (.tmp 38))⟩]) .skip)) (.seq (.seq (.regionC [(⟨some 39,none,(.mov (.tmp 0))⟩,[]),(⟨some 40,none,(.mov (.tmp 3))⟩,[]),(⟨some 41,none,(.mov (.tmp 8))⟩,[]),(⟨some 42,none,(.bin .add (.tmp 40) (.tmp 41))⟩,[]),(⟨some 43,none,(.idx 1 (.tmp 39) (.tmp 42))⟩,[]),(⟨some 44,none,(.load false 1 (.tmp 43))⟩,[]),(⟨some 45,none,(.mov (.tmp 0))⟩,[]),(⟨some 46,none,(.mov (.tmp 3))⟩,[]),(⟨some 47,none,(.mov (.tmp 9))⟩,[]),(⟨some 48,none,(.bin .add (.tmp 46) (.tmp 47))⟩,[]),(⟨some 49,none,(.idx 1 (.tmp 45) (.tmp 48))⟩,[]),(⟨some 50,none,(.load false 1 (.tmp 49))⟩,[]),(⟨some 51,none,(.call (.func 42) [(.tmp 44),(.tmp 50)])⟩,[]),(⟨some 52,none,(.un .not (.tmp 51))⟩,[])]) (.cond (.tmp 52) .ret .skip)) (.seq (.regionC [(⟨some 53,none,(.mov (.tmp 0))⟩,[]),(⟨some 54,none,(.mov (.tmp 3))⟩,[]),(⟨some 55,none,(.mov (.tmp 8))⟩,[]),(⟨some 56,none,(.bin .add (.tmp 54) (.tmp 55))⟩,[]),(⟨some 57,none,(.mov (.tmp 0))⟩,[]),(⟨some 58,none,(.mov (.tmp 3))⟩,[]),(⟨some 59,none,(.mov (.tmp 9))⟩,[]),(⟨some 60,none,(.bin .add (.tmp 58) (.tmp 59))⟩,[]),(⟨some 61,none,(.mov (.tmp 0))⟩,[]),(⟨some 62,none,(.mov (.tmp 3))⟩,[]),(⟨some 63,none,(.mov (.tmp 9))⟩,[]),(⟨some 64,none,(.bin .add (.tmp 62) (.tmp 63))⟩,[]),(⟨some 65,none,(.idx 1 (.tmp 61) (.tmp 64))⟩,[]),(⟨some 66,none,(.load false 1 (.tmp 65))⟩,[]),(⟨some 67,none,(.mov (.tmp 0))⟩,[]),(⟨some 68,none,(.mov (.tmp 3))⟩,[]),(⟨some 69,none,(.mov (.tmp 8))⟩,[]),(⟨some 70,none,(.bin .add (.tmp 68) (.tmp 69))⟩,[]),(⟨some 71,none,(.idx 1 (.tmp 67) (.tmp 70))⟩,[]),(⟨some 72,none,(.load false 1 (.tmp 71))⟩,[]),(⟨some 73,none,(.idx 1 (.tmp 53) (.tmp 56))⟩,[]),(⟨none,none,(.store 1 (.tmp 73) (.tmp 66))⟩,[]),(⟨some 74,none,(.idx 1 (.tmp 57) (.tmp 60))⟩,[]),(⟨none,none,(.store 1 (.tmp 74) (.tmp 72))⟩,[])]) (.region [⟨some 75,none,(.mov (.tmp 9))⟩,⟨some 8,none,(.mov (.tmp 75))⟩])))))))
noncomputable def body47:ACode:=(.seq (.region [⟨some 10,none,(.mov (.tmp 1))⟩,⟨some 8,none,(.mov (.tmp 10))⟩]) (.block 0 (.loop body47_0)))
set_option maxRecDepth 100000 in
theorem tab47:tb.code 47=some ⟨76,[],body47⟩:=by kernel_rfl
theorem sift_ok (hB h:AHeap) (v:Value) (xs:List Int) (lo hi first:Int) (e0:Ext hB h) (hmB:hB.mark≤hB.n) (o:OwnI hB h v xs) (h0:0≤lo) (hlo:lo≤1000000000) (hf:0≤first) (hb:first+hi≤xs.length) (hlen:xs.length≤1000000000) (hh:Heapy first (lo+1) hi xs):
  WC Try.prog tb 47 [v,I lo,I hi,I first] h fun r h'=>∃ ys,SS hB h v (first+lo) (first+hi) xs ys h'∧Heapy first lo hi ys:=by
 have s0:=SS.start (first+lo) (first+hi) o e0
 refine WC.of (zH 47) tab47 ?_;simp only[zn,Nat.zero_add,Nat.reduceAdd]
 refine go ?_
 refine WX.loopA [11,12,13,9,14,15,16,17,18,19,20,21,22,23,24,25,26,27,28,29,30,31,32,33,34,35,36,37,38,9,39,40,41,42,43,44,45,46,47,48,49,50,51,52,53,54,55,56,57,58,59,60,61,62,63,64,65,66,67,68,69,70,71,72,73,74,75,8] (by kernel_rfl) (fun x=>(hi+1 - x.2).toNat) (fun (x:List Int×Int) t h4=>SS hB h v (first+lo) (first+hi) xs x.1 h4∧zB t 8=I x.2∧(lo≤x.2∧(x.2=lo∨x.2<hi))∧(∀ k c,Edge lo hi k c→k≠x.2→atI x.1 (first+c)≤atI x.1 (first+k))∧∀ k c,Edge lo hi k x.2→Edge lo hi x.2 c→atI x.1 (first+c)≤atI x.1 (first+k)) (xs,lo) ?_ ?_
 ·refine⟨s0,sl_,⟨Int.le_refl _,.inl rfl⟩,fun k c hk hne=>hh k c ⟨by have:=hk.1;simp only at hne;omega,hk.2⟩,fun k c h1 h2=> ?_⟩
  obtain⟨a1,a2,a3⟩:=h1;simp only at a2;omega
 rintro⟨ws,r⟩ t h4 hsame ⟨s4,s8,hr,i1,i2⟩
 simp only at s4 s8 hr i1 i2
 have hl4:=s4.len
 refine go ?_
 refine WX.br (fun he=> ?_) (fun he=> ?_)<;>simp only[DB]at he
 ·refine go ?_
  refine rtN ?_
  refine⟨ws,s4,fun k c hk=> ?_⟩
  by_cases e:k=r
  ·obtain⟨a1,a2,a3⟩:=hk;subst e;omega
  ·exact i1 k c hk e
 refine go ?_
 refine WX.cutA [17,18,19,20,21,22,23,24,25,26,27,28,29,30,31,32,33,34,35,36] (by kernel_rfl) (fun t h'=>h4=h'∧zB t 36= .bool (decide (2 * r+1+1<hi∧(atI ws (first+(2 * r+1))<atI ws (first+(2 * r+1)+1))))) ?_ ?_
 ·refine WX.regionU2 0 rfl rfl ?_
  have srX:SlI (inC (zC 0 h4)) v ws:=(s4.own).sl
  refine goU ?_
  refine WO.sp (fun hd=> ?_) (fun hd=> ?_)<;>simp only[DB]at hd<;>refine goU ?_
  ·refine WO.con (yN _ (atI ws (first+(2 * r+1))) (atI ws (first+(2 * r+1)+1))) ?_
   rintro _ _ ⟨rfl,rfl⟩
   refine WO.nil ?_
   refine zy ?_
   refine goU ?_
   exact zE ⟨rfl,by rw[show decide (2 * r+1+1<hi∧(atI ws (first+(2 * r+1))<atI ws (first+(2 * r+1)+1)))=decide (atI ws (first+(2 * r+1))<atI ws (first+(2 * r+1)+1)) from dec_pos hd];exact sl_⟩
  ·exact zE ⟨rfl,by rw[show decide (2 * r+1+1<hi∧(atI ws (first+(2 * r+1))<atI ws (first+(2 * r+1)+1)))=false from decide_eq_false (fun hh=>absurd hh.1 (by omega))];exact sl_⟩
 rintro t5 _ hs5 ⟨rfl,q5⟩
 have hcut:∀ c:Int,(c=2 * r+1∨c=2 * r+2)→c<hi→(∀ d,Edge lo hi r d→atI ws (first+d)≤atI ws (first+c))→∀ (t:Trie Value) (K:AExit→AFr→AHeap→Prop),True:=fun _ _ _ _ _ _=>trivial
 refine go ?_
 refine WX.cutA [37,38,9] (by kernel_rfl) (fun t h'=>h4=h'∧∃ c:Int,zB t 9=I c∧(c=2 * r+1∨c=2 * r+2)∧c<hi∧∀ d,Edge lo hi r d→atI ws (first+d)≤atI ws (first+c)) ?_ ?_
 ·refine WX.br (fun hg=> ?_) (fun hg=> ?_)<;>simp only[DB]at hg<;>refine go ?_
  ·refine zE ⟨rfl,2 * r+1+1,sl_,by omega,by omega,fun d hd=> ?_⟩
   obtain⟨_,a2,_⟩:=hd
   have e1:first+(2 * r+1)+1=first+(2 * r+1+1):=by omega
   rw[e1]at hg
   rcases a2 with rfl|rfl
   ·omega
   ·have:first+(2 * r+2)=first+(2 * r+1+1):=by omega
    rw[this];exact Int.le_refl _
  ·refine zE ⟨rfl,2 * r+1,sl_,by omega,by omega,fun d hd=> ?_⟩
   obtain⟨_,a2,a3⟩:=hd
   rcases a2 with rfl|rfl
   ·exact Int.le_refl _
   ·have e1:first+(2 * r+1)+1=first+(2 * r+2):=by omega
    rw[e1]at hg
    exact Int.not_lt.1 fun hh=>hg ⟨by omega,hh⟩
 clear hcut
 rintro t7 _ hs7 ⟨rfl,c,q7,hc,hc2,hmax⟩
 refine go ?_
 refine WX.regionU2 0 rfl rfl ?_
 have srX:SlI (inC (zC 0 h4)) v ws:=(s4.own).sl
 refine goU ?_
 refine WO.con (yN _ (atI ws (first+r)) (atI ws (first+c))) ?_
 rintro _ _ ⟨rfl,rfl⟩
 refine WO.nil ?_
 refine zy ?_
 refine goU ?_
 rw[out_self]
 refine WX.br (fun hg=> ?_) (fun hg=> ?_)<;>simp only[DB]at hg
 ·refine go ?_
  refine rt ?_
  refine⟨ws,s4,fun k d hk=> ?_⟩
  by_cases e:k=r
  ·subst e;have:=hmax d hk;omega
  ·exact i1 k d hk e
 refine go ?_
 refine WX.regionU2 0 rfl rfl ?_
 have srX:SlI (inC (zC 0 h4)) v ws:=(s4.own).sl
 refine goU ?_
 refine WU2.swA (first+r) (first+c) (s4).own (s4).ext (by rw[(s4).ext.mark];exact hmB) ?_
 intro h3 e3 o3 u3
 have s3:=s4.swp e3 o3 u3 (by omega) hb (by omega) (by omega)
 refine go ?_
 have hat:∀ k,0≤k→atI (swp ws (first+r) (first+c)) (first+k)=if k=c then atI ws (first+r) else if k=r then atI ws (first+c) else atI ws (first+k):=by
  intro k hk
  rw[zu (by omega) (by omega) (by omega)]
  have e1:(first+k=first+c)↔k=c:=by omega
  have e2:(first+k=first+r)↔k=r:=by omega
  simp only[e1,e2]
 refine zA (swp ws (first+r) (first+c),c) (by simp only;omega) ⟨s3,sl_,by simp only;omega,fun k d hk hne=> ?_,fun k d hk hd=> ?_⟩
 ·simp only at hne ⊢
  have hk':=hk
  obtain⟨a1,a2,a3⟩:=hk'
  rw[hat d (by omega),hat k (by omega),if_neg hne]
  by_cases e:k=r
  ·rw[if_pos e]
   subst e
   by_cases e2:d=c
   ·rw[if_pos e2];omega
   ·rw[if_neg e2,if_neg (by omega)];exact hmax d hk
  ·rw[if_neg e,if_neg (by omega:¬d=c)]
   by_cases e2:d=r
   ·rw[if_pos e2];subst e2;exact i2 k c hk ⟨hr.1,hc,hc2⟩
   ·rw[if_neg e2];exact i1 k d hk e
 ·simp only at hk hd ⊢
  obtain⟨a1,a2,a3⟩:=hk
  have ek:k=r:=by omega
  have hd':=hd
  obtain⟨b1,b2,b3⟩:=hd'
  rw[hat d (by omega),hat k (by omega),if_neg (by omega),if_neg (by omega),if_neg (by omega),if_pos ek]
  exact i1 c d hd (by omega)
noncomputable def body37_0:ACode:=(.seq (.seq (.region [⟨some 18,none,(.mov (.tmp 9))⟩,⟨some 19,none,(.bin .geq (.tmp 18) (.const (.int .i64 0)))⟩]) (.cond (.tmp 19) .skip (.exit 0))) (.seq (.block 1 (.region [⟨some 22,none,(.mov (.tmp 0))⟩,⟨some 23,none,(.mov (.tmp 9))⟩,⟨some 24,none,(.mov (.tmp 8))⟩,⟨some 25,none,(.mov (.tmp 6))⟩,⟨some 26,none,(.call (.func 47) [(.tmp 22),(.tmp 23),(.tmp 24),(.tmp 25)])⟩])) (.region [⟨some 20,none,(.mov (.tmp 9))⟩,⟨some 21,none,(.bin .sub (.tmp 20) (.const (.int .i64 1)))⟩,⟨some 9,none,(.mov (.tmp 21))⟩])))
noncomputable def body37_1:ACode:=(.seq (.seq (.region [⟨some 29,none,(.mov (.tmp 10))⟩,⟨some 30,none,(.bin .geq (.tmp 29) (.const (.int .i64 0)))⟩]) (.cond (.tmp 30) .skip (.exit 2))) (.seq (.block 3 (.seq (.regionC [(⟨some 33,none,(.mov (.tmp 0))⟩,[]),(⟨some 34,none,(.mov (.tmp 6))⟩,[]),(⟨some 35,none,(.mov (.tmp 0))⟩,[]),(⟨some 36,none,(.mov (.tmp 6))⟩,[]),(⟨some 37,none,(.mov (.tmp 10))⟩,[]),(⟨some 38,none,(.bin .add (.tmp 36) (.tmp 37))⟩,[]),(⟨some 39,none,(.mov (.tmp 0))⟩,[]),(⟨some 40,none,(.mov (.tmp 6))⟩,[]),(⟨some 41,none,(.mov (.tmp 10))⟩,[]),(⟨some 42,none,(.bin .add (.tmp 40) (.tmp 41))⟩,[]),(⟨some 43,none,(.idx 1 (.tmp 39) (.tmp 42))⟩,[]),(⟨some 44,none,(.load false 1 (.tmp 43))⟩,[]),(⟨some 45,none,(.mov (.tmp 0))⟩,[]),(⟨some 46,none,(.mov (.tmp 6))⟩,[]),(⟨some 47,none,(.idx 1 (.tmp 45) (.tmp 46))⟩,[]),(⟨some 48,none,(.load false 1 (.tmp 47))⟩,[]),(⟨some 49,none,(.idx 1 (.tmp 33) (.tmp 34))⟩,[]),(⟨none,none,(.store 1 (.tmp 49) (.tmp 44))⟩,[]),(⟨some 50,none,(.idx 1 (.tmp 35) (.tmp 38))⟩,[]),(⟨none,none,(.store 1 (.tmp 50) (.tmp 48))⟩,[])]) (.region [⟨some 51,none,(.mov (.tmp 0))⟩,⟨some 52,none,(.mov (.tmp 7))⟩,⟨some 53,none,(.mov (.tmp 10))⟩,⟨some 54,none,(.mov (.tmp 6))⟩,⟨some 55,none,(.call (.func 47) [(.tmp 51),(.tmp 52),(.tmp 53),(.tmp 54)])⟩]))) (.region [⟨some 31,none,(.mov (.tmp 10))⟩,⟨some 32,none,(.bin .sub (.tmp 31) (.const (.int .i64 1)))⟩,⟨some 10,none,(.mov (.tmp 32))⟩])))
noncomputable def body37:ACode:=(.seq (.region [⟨some 11,none,(.mov (.tmp 1))⟩,⟨some 6,none,(.mov (.tmp 11))⟩]) (.seq (.region [⟨some 7,none,(.mov (.const (.int .i64 0)))⟩]) (.seq (.region [⟨some 12,none,(.mov (.tmp 2))⟩,⟨some 13,none,(.mov (.tmp 1))⟩,⟨some 14,none,(.bin .sub (.tmp 12) (.tmp 13))⟩,⟨some 8,none,(.mov (.tmp 14))⟩]) (.seq (.seq (.region [⟨some 15,none,(.mov (.tmp 8))⟩,⟨some 16,none,(.bin .sub (.tmp 15) (.const (.int .i64 1)))⟩,⟨some 17,none,(.bin .quo (.tmp 16) (.const (.int .i64 2)))⟩,⟨some 9,none,(.mov (.tmp 17))⟩]) (.block 0 (.loop body37_0))) (.seq (.region [⟨some 27,none,(.mov (.tmp 8))⟩,⟨some 28,none,(.bin .sub (.tmp 27) (.const (.int .i64 1)))⟩,⟨some 10,none,(.mov (.tmp 28))⟩]) (.block 2 (.loop body37_1)))))))
set_option maxRecDepth 100000 in
theorem tab37:tb.code 37=some ⟨56,[],body37⟩:=by kernel_rfl
theorem heap_ok (hB h:AHeap) (v:Value) (xs:List Int) (a b:Int) (e0:Ext hB h) (hmB:hB.mark≤hB.n) (o:OwnI hB h v xs) (h0:0≤a) (hab:a≤b) (hb:b≤xs.length) (hlen:xs.length≤1000000000):
  WC Try.prog tb 37 [v,I a,I b] h fun r h'=>∃ ys,SS hB h v a b xs ys h'∧Srt a b ys:=by
 have s0:=SS.start a b o e0
 refine WC.of (zH 37) tab37 ?_;simp only[zn,Nat.zero_add,Nat.reduceAdd]
 have hq:(b - a - 1).tdiv 2≤b - a∧0≤(b - a - 1).tdiv 2∧b - a - 2≤2 * (b - a - 1).tdiv 2:=by
  by_cases e:b - a=0
  ·rw[e];decide
  ·rw[Int.tdiv_eq_ediv_of_nonneg (by omega)];omega
 refine go ?_
 refine WO.quo (a:=b - a - 1) (c:=2) (by decide) (by omega) (by omega) ?_
 refine go ?_
 refine WX.loopA [18,19,22,23,24,25,26,20,21,9] (by kernel_rfl) (fun x=>(x.2+1).toNat) (fun (x:List Int×Int) t h4=>SS hB h v a b xs x.1 h4∧zB t 9=I x.2∧(-1≤x.2∧x.2≤b - a)∧Heapy a (x.2+1) (b - a) x.1) (xs,(b - a - 1).tdiv 2) ?_ ?_
 ·refine⟨s0,sl_,by simp only;omega,fun k c hk=> ?_⟩
  obtain⟨a1,a2,a3⟩:=hk
  simp only at a1;omega
 rintro⟨ws,i⟩ t h4 hsame ⟨s4,s9,hi,hh⟩
 simp only at s4 s9 hi hh
 have hl4:=s4.len
 refine go ?_
 refine WX.br (fun he=> ?_) (fun he=> ?_)<;>simp only[DB]at he
 ·refine go ?_
  refine WO.con (sift_ok hB h4 v ws i (b - a) a s4.ext hmB s4.own (by omega) (by omega) h0 (by omega) (by omega) hh) ?_
  rintro _ h5 ⟨ys,s5,hh5⟩
  refine go ?_
  exact zA (ys,i - 1) (by simp only;omega) ⟨s4.call s5 (by omega) (by omega),sl_,by simp only;omega,by simp only;rw[show i - 1+1=i by omega];exact hh5⟩
 have hi1:i= -1:=by omega
 subst hi1
 refine go ?_
 have hh0:Heapy a 0 (b - a - 1+1) ws:=by rw[show b - a - 1+1=b - a by omega];exact hh
 clear hh s9 he hi
 refine WX.loopA [29,30,33,34,35,36,37,38,39,40,41,42,43,44,45,46,47,48,49,50,51,52,53,54,55,31,32,10] (by kernel_rfl) (fun x=>(x.2+1).toNat) (fun (x:List Int×Int) t h5=>SS hB h v a b xs x.1 h5∧zB t 10=I x.2∧(-1≤x.2∧x.2≤b - a - 1)∧Heapy a 0 (x.2+1) x.1∧Srt (a+x.2+1) b x.1∧∀ p q,a≤p→p≤a+x.2→a+x.2<q→q<b→atI x.1 p≤atI x.1 q) (ws,b - a - 1) ?_ ?_
 ·exact⟨s4,sl_,by simp only;omega,hh0,Srt.small (by simp only;omega),fun p q h1 h2 h3 h4=>by simp only at h3;omega⟩
 clear hh0 s4 hl4
 rintro⟨zs,i⟩ t h4 hsame ⟨s4,s10,hi,hh,hs,hl⟩
 simp only at s4 s10 hi hh hs hl
 have hl4:=s4.len
 refine go ?_
 refine WX.br (fun he=> ?_) (fun he=> ?_)<;>simp only[DB]at he
 ·refine go ?_
  refine WX.regionU2 0 rfl rfl ?_
  have srX:SlI (inC (zC 0 h4)) v zs:=(s4.own).sl
  refine goU ?_
  refine WU2.swA (a) (a+i) (s4).own (s4).ext (by rw[(s4).ext.mark];exact hmB) ?_
  intro h3 e3 o3 u3
  have s3:=s4.swp e3 o3 u3 (by omega) hb (by omega) (by omega)
  have hat:∀ k,0≤k→atI (swp zs a (a+i)) (a+k)=if k=i then atI zs (a+0) else if k=0 then atI zs (a+i) else atI zs (a+k):=by
   intro k hk
   rw[zu (by omega) (by omega) (by omega)]
   have e1:(a+k=a+i)↔k=i:=by omega
   have e2:(a+k=a)↔k=0:=by omega
   have e3:a+0=a:=by omega
   simp only[e1,e2,e3]
  have hmax:∀ k,0≤k→k≤i→atI zs (a+k)≤atI zs (a+0):=fun k h1 h2=>heap_max hh k.toNat k (by omega) (by omega)
  refine go ?_
  refine WO.con (sift_ok hB h3 v _ 0 i a s3.ext hmB s3.own (by omega) (by omega) h0 (by rw[s3.len];omega) (by rw[s3.len];omega) (fun k c hk=> ?_)) ?_
  ·obtain⟨a1,a2,a3⟩:=hk
   rw[hat c (by omega),hat k (by omega),if_neg (by omega),if_neg (by omega),if_neg (by omega),if_neg (by omega)]
   exact hh k c ⟨by omega,a2,by omega⟩
  rintro _ h5 ⟨ys,s5,hh5⟩
  have p5:=s5.pi
  have out:∀ k,i≤k→atI ys (a+k)=atI (swp zs a (a+i)) (a+k):=fun k hk=>p5.out _ (by omega) (.inr (by omega))
  have low:∀ k,a+0≤k→k<a+i→atI ys k≤atI zs (a+0):=p5.all (p:=fun x=>x≤atI zs (a+0)) (by omega) (by rw[s3.len];omega) (fun k h1 h2=>by
   have:=hat (k - a) (by omega)
   rw[show a+(k - a)=k by omega]at this
   rw[this,if_neg (by omega)]
   by_cases e:k - a=0
   ·rw[if_pos e];exact hmax i (by omega) (by omega)
   ·rw[if_neg e];have:=hmax (k - a) (by omega) (by omega);rw[show a+(k - a)=k by omega]at this;exact this)
  have top:atI ys (a+i)=atI zs (a+0):=by rw[out i (Int.le_refl _),hat i (by omega),if_pos rfl]
  have rest:∀ k,a+i<k→atI ys k=atI zs k:=fun k hk=>by
   have h1:=out (k - a) (by omega)
   rw[hat (k - a) (by omega),if_neg (by omega),if_neg (by omega),show a+(k - a)=k by omega]at h1
   exact h1
  refine go ?_
  refine zA (ys,i - 1) (by simp only;omega) ⟨s3.call s5 (by omega) (by omega),sl_,by simp only;omega,by simp only;rw[show i - 1+1=i by omega];exact hh5,fun p q h1 h2 h3=> ?_,fun p q h1 h2 h3 h4=> ?_⟩
  ·simp only at h1 ⊢
   by_cases ep:p=a+i
   ·by_cases eq:q=a+i
    ·rw[ep,eq];exact Int.le_refl _
    ·rw[ep,top,rest q (by omega)];exact hl (a+0) q (by omega) (by omega) (by omega) h3
   ·rw[rest p (by omega),rest q (by omega)];exact hs p q (by omega) h2 h3
  ·simp only at h2 h3 ⊢
   have hp:=low p (by omega) (by omega)
   by_cases eq:q=a+i
   ·rw[eq,top];exact hp
   ·rw[rest q (by omega)];have:=hl (a+0) q (by omega) (by omega) (by omega) h4;omega
 ·refine go ?_
  refine rtN ?_
  have hi1:i= -1:=by omega
  subst hi1
  exact⟨zs,s4,fun p q h1 h2 h3=>hs p q (by omega) h2 h3⟩
end Go.Proofs.Ytejjibilgmlhdaa
namespace Go.Proofs.Ytejjibilgmlhdaa
open Go.Am
set_option linter.unusedVariables false
set_option linter.unusedSimpArgs false
set_option maxHeartbeats 400000
set_option maxRecDepth 100000 in
theorem len8_all:∀ i:Nat,i<256→(match (⟨#[0,1,2,2,3,3,3,3,4,4,4,4,4,4,4,4,5,5,5,5,5,5,5,5,5,5,5,5,5,5,5,5,6,6,6,6,6,6,6,6,6,6,6,6,6,6,6,6,6,6,6,6,6,6,6,6,6,6,6,6,6,6,6,6,7,7,7,7,7,7,7,7,7,7,7,7,7,7,7,7,7,7,7,7,7,7,7,7,7,7,7,7,7,7,7,7,7,7,7,7,7,7,7,7,7,7,7,7,7,7,7,7,7,7,7,7,7,7,7,7,7,7,7,7,7,7,7,7,8,8,8,8,8,8,8,8,8,8,8,8,8,8,8,8,8,8,8,8,8,8,8,8,8,8,8,8,8,8,8,8,8,8,8,8,8,8,8,8,8,8,8,8,8,8,8,8,8,8,8,8,8,8,8,8,8,8,8,8,8,8,8,8,8,8,8,8,8,8,8,8,8,8,8,8,8,8,8,8,8,8,8,8,8,8,8,8,8,8,8,8,8,8,8,8,8,8,8,8,8,8,8,8,8,8,8,8,8,8,8,8,8,8,8,8,8,8,8,8,8,8,8,8,8,8,8,8]⟩:ByteArray)[i]? with|some b=>Nat.ble b.toNat 8&&(Nat.beq i 0||Nat.ble (2 ^ b.toNat) (2 * i))|none=>false)=true:=by decide+kernel
theorem len8_at {i:Nat} (h:i<256):∃ b:UInt8,(⟨#[0,1,2,2,3,3,3,3,4,4,4,4,4,4,4,4,5,5,5,5,5,5,5,5,5,5,5,5,5,5,5,5,6,6,6,6,6,6,6,6,6,6,6,6,6,6,6,6,6,6,6,6,6,6,6,6,6,6,6,6,6,6,6,6,7,7,7,7,7,7,7,7,7,7,7,7,7,7,7,7,7,7,7,7,7,7,7,7,7,7,7,7,7,7,7,7,7,7,7,7,7,7,7,7,7,7,7,7,7,7,7,7,7,7,7,7,7,7,7,7,7,7,7,7,7,7,7,7,8,8,8,8,8,8,8,8,8,8,8,8,8,8,8,8,8,8,8,8,8,8,8,8,8,8,8,8,8,8,8,8,8,8,8,8,8,8,8,8,8,8,8,8,8,8,8,8,8,8,8,8,8,8,8,8,8,8,8,8,8,8,8,8,8,8,8,8,8,8,8,8,8,8,8,8,8,8,8,8,8,8,8,8,8,8,8,8,8,8,8,8,8,8,8,8,8,8,8,8,8,8,8,8,8,8,8,8,8,8,8,8,8,8,8,8,8,8,8,8,8,8,8,8,8,8,8,8]⟩:ByteArray)[i]?=some b∧b.toNat≤8∧(i≠0→2 ^ b.toNat≤2 * i):=by
 have:=len8_all i h
 split at this
 ·rename_i b hb
  rw[Bool.and_eq_true,Bool.or_eq_true]at this
  refine⟨b,hb,Nat.le_of_ble_eq_true this.1,fun hi=> ?_⟩
  rcases this.2 with h2|h2
  ·exact absurd (Nat.eq_of_beq_eq_true h2) hi
  ·exact Nat.le_of_ble_eq_true h2
 ·cases this
noncomputable def body46:ACode:=(.seq (.region [⟨some 2,none,(.mov (.const (.int .i64 0)))⟩]) (.seq (.seq (.region [⟨some 3,none,(.mov (.tmp 0))⟩,⟨some 4,none,(.bin .geq (.tmp 3) (.const (.int .u64 4294967296)))⟩]) (.cond (.tmp 4) (.seq (.region [⟨some 5,none,(.mov (.tmp 0))⟩,⟨some 6,none,(.bin .shr (.tmp 5) (.const (.int .u64 32)))⟩,⟨some 0,none,(.mov (.tmp 6))⟩]) (.region [⟨some 2,none,(.mov (.const (.int .i64 32)))⟩])) .skip)) (.seq (.seq (.region [⟨some 7,none,(.mov (.tmp 0))⟩,⟨some 8,none,(.bin .geq (.tmp 7) (.const (.int .u64 65536)))⟩]) (.cond (.tmp 8) (.seq (.region [⟨some 9,none,(.mov (.tmp 0))⟩,⟨some 10,none,(.bin .shr (.tmp 9) (.const (.int .u64 16)))⟩,⟨some 0,none,(.mov (.tmp 10))⟩]) (.region [⟨some 11,none,(.mov (.tmp 2))⟩,⟨some 12,none,(.bin .add (.tmp 11) (.const (.int .i64 16)))⟩,⟨some 2,none,(.mov (.tmp 12))⟩])) .skip)) (.seq (.seq (.region [⟨some 13,none,(.mov (.tmp 0))⟩,⟨some 14,none,(.bin .geq (.tmp 13) (.const (.int .u64 256)))⟩]) (.cond (.tmp 14) (.seq (.region [⟨some 15,none,(.mov (.tmp 0))⟩,⟨some 16,none,(.bin .shr (.tmp 15) (.const (.int .u64 8)))⟩,⟨some 0,none,(.mov (.tmp 16))⟩]) (.region [⟨some 17,none,(.mov (.tmp 2))⟩,⟨some 18,none,(.bin .add (.tmp 17) (.const (.int .i64 8)))⟩,⟨some 2,none,(.mov (.tmp 18))⟩])) .skip)) (.seq (.region [⟨some 19,none,(.mov (.tmp 2))⟩,⟨some 20,none,(.mov (.tmp 0))⟩,⟨some 21,none,(.conv .u8 (.tmp 20))⟩,⟨some 22,none,(.elemStr (.const (.string ⟨#[0,1,2,2,3,3,3,3,4,4,4,4,4,4,4,4,5,5,5,5,5,5,5,5,5,5,5,5,5,5,5,5,6,6,6,6,6,6,6,6,6,6,6,6,6,6,6,6,6,6,6,6,6,6,6,6,6,6,6,6,6,6,6,6,7,7,7,7,7,7,7,7,7,7,7,7,7,7,7,7,7,7,7,7,7,7,7,7,7,7,7,7,7,7,7,7,7,7,7,7,7,7,7,7,7,7,7,7,7,7,7,7,7,7,7,7,7,7,7,7,7,7,7,7,7,7,7,7,8,8,8,8,8,8,8,8,8,8,8,8,8,8,8,8,8,8,8,8,8,8,8,8,8,8,8,8,8,8,8,8,8,8,8,8,8,8,8,8,8,8,8,8,8,8,8,8,8,8,8,8,8,8,8,8,8,8,8,8,8,8,8,8,8,8,8,8,8,8,8,8,8,8,8,8,8,8,8,8,8,8,8,8,8,8,8,8,8,8,8,8,8,8,8,8,8,8,8,8,8,8,8,8,8,8,8,8,8,8,8,8,8,8,8,8,8,8,8,8,8,8,8,8,8,8,8,8]⟩)) (.tmp 21))⟩,⟨some 23,none,(.conv .i64 (.tmp 22))⟩,⟨some 24,none,(.bin .add (.tmp 19) (.tmp 23))⟩,⟨some 2,none,(.mov (.tmp 24))⟩]) .ret)))))
set_option maxRecDepth 100000 in
theorem tab46:tb.code 46=some ⟨25,[(2,none)],body46⟩:=by kernel_rfl
theorem len64_ok (h:AHeap) (n:Int) (h0:0≤n) (h1:n≤2000000000):
  WC Try.prog tb 46 [.int .u64 n] h fun r h'=>(∃ k:Nat,r=I k∧k≤40∧(n≠0→2 ^ k≤2 * n))∧h=h':=by
 refine WC.of (zH 46) tab46 ?_;simp only[zn,Nat.zero_add,Nat.reduceAdd]
 refine go ?_
 refine WX.cutA [9,10,0,11,12,2] (by kernel_rfl) (fun t h'=>h=h'∧∃ (m:Int) (k:Nat),zB t 0= .int .u64 m∧zB t 2=I k∧(0≤m∧m≤65535∧k≤16)∧(n≠0→m≠0)∧(n≠0→∀ j:Nat,2 ^ j≤2 * m→2 ^ (k+j)≤2 * n)) ?_ ?_
 ·refine WX.br (fun hb=> ?_) (fun hb=> ?_)<;>simp only[DB]at hb<;>refine go ?_
  ·refine WO.bin (vx:= .int .u64 n) (vy:= .int .u64 16) zP rfl (shr16 h0) ?_
   refine go ?_
   refine zE ⟨rfl,n / 65536,16,sl_,sl_,by omega,by omega,fun _ j hj=> ?_⟩
   rw[Int.pow_add]
   have e:(2:Int) ^ 16=65536:=rfl
   rw[e]
   generalize (2:Int) ^ j=z at hj ⊢
   omega
  ·exact zE ⟨rfl,n,0,sl_,sl_,by omega,id,fun _ j hj=>by rw[Nat.zero_add];exact hj⟩
 rintro t1 _ hs1 ⟨rfl,m,k,s0,s2,hm,hz,hj⟩
 refine go ?_
 refine WX.cutA [15,16,0,17,18,2] (by kernel_rfl) (fun t h'=>h=h'∧∃ (m:Int) (k:Nat),zB t 0= .int .u64 m∧zB t 2=I k∧(0≤m∧m≤255∧k≤24)∧(n≠0→m≠0)∧(n≠0→∀ j:Nat,2 ^ j≤2 * m→2 ^ (k+j)≤2 * n)) ?_ ?_
 ·refine WX.br (fun hb=> ?_) (fun hb=> ?_)<;>simp only[DB]at hb<;>refine go ?_
  ·refine WO.bin (vx:= .int .u64 m) (vy:= .int .u64 8) zP rfl (shr8 hm.1) ?_
   refine go ?_
   refine zE ⟨rfl,m / 256,k+8,sl_,sl_,by omega,by omega,fun hn j hj2=> ?_⟩
   have:=hj hn (8+j) (by
    rw[Int.pow_add]
    have e:(2:Int) ^ 8=256:=rfl
    rw[e]
    generalize (2:Int) ^ j=z at hj2 ⊢
    omega)
   rw[Nat.add_assoc];exact this
  ·exact zE ⟨rfl,m,k,sl_,sl_,by omega,hz,hj⟩
 clear hj hz hm s0 s2
 rintro t2 _ hs2 ⟨rfl,m,k,s0,s2,hm,hz,hj⟩
 obtain⟨b,hb1,hb2,hb3⟩:=len8_at (i:=m.toNat) (by omega)
 refine go ?_
 have e2:asN (.int .u8 m)=some m.toNat:=by
  obtain⟨q,rfl⟩:∃ q:Nat,m=q:=⟨m.toNat,by omega⟩
  rfl
 rw[wrapU8 (by omega) (by omega)]
 refine WO.eStr hb1 e2 ?_
 refine go ?_
 refine rt ?_
 refine⟨⟨k+b.toNat,by simp[one],by omega,fun hn=>hj hn _ ?_⟩,rfl⟩
 have:=hb3 (by have:=hz hn;omega)
 have h2:((2 ^ b.toNat:Nat):Int)≤((2 * m.toNat:Nat):Int):=by exact_mod_cast this
 rw[Int.natCast_pow]at h2
 have h3:((2 * m.toNat:Nat):Int)=2 * m:=by omega
 rw[h3]at h2
 exact h2
noncomputable def body28:ACode:=(.seq (.region [⟨some 2,none,(.mov (.const (.int .i64 0)))⟩]) (.seq (.cond (.const (.bool false)) (.seq (.region [⟨some 3,none,(.mov (.tmp 0))⟩,⟨some 4,none,(.conv .u32 (.tmp 3))⟩,⟨some 5,none,(.call (.func 45) [(.tmp 4)])⟩,⟨some 2,none,(.mov (.tmp 5))⟩]) .ret) .skip) (.seq (.region [⟨some 6,none,(.mov (.tmp 0))⟩,⟨some 7,none,(.call (.func 46) [(.tmp 6)])⟩,⟨some 2,none,(.mov (.tmp 7))⟩]) .ret)))
set_option maxRecDepth 100000 in
theorem tab28:tb.code 28=some ⟨8,[(2,none)],body28⟩:=by kernel_rfl
theorem len_ok (h:AHeap) (n:Int) (h0:0≤n) (h1:n≤2000000000):
  WC Try.prog tb 28 [.int .u64 n] h fun r h'=>(∃ k:Nat,r=I k∧k≤40∧(n≠0→2 ^ k≤2 * n))∧h=h':=by
 refine WC.of (zH 28) tab28 ?_;simp only[zn,Nat.zero_add,Nat.reduceAdd]
 refine go ?_
 refine WO.con (len64_ok h n h0 h1) ?_
 rintro _ _ ⟨⟨k,rfl,hk⟩,rfl⟩
 refine go ?_
 refine rt ?_
 exact⟨⟨k,rfl,hk⟩,rfl⟩
noncomputable def body48:ACode:=(.seq (.region [⟨some 2,none,(.mov (.const (.int .u64 0)))⟩]) (.seq (.region [⟨some 3,none,(.mov (.tmp 0))⟩,⟨some 4,none,(.conv .u64 (.tmp 3))⟩,⟨some 5,none,(.call (.func 28) [(.tmp 4)])⟩,⟨some 6,none,(.bin .shl (.const (.int .u64 1)) (.tmp 5))⟩,⟨some 2,none,(.mov (.tmp 6))⟩]) .ret))
set_option maxRecDepth 100000 in
theorem tab48:tb.code 48=some ⟨7,[(2,none)],body48⟩:=by kernel_rfl
theorem power_ok (h:AHeap) (n:Int) (h0:1≤n) (h1:n≤2000000000):
  WC Try.prog tb 48 [I n] h fun r h'=>(∃ m:Int,r= .int .u64 m∧1≤m∧m≤2 * n)∧h=h':=by
 refine WC.of (zH 48) tab48 ?_;simp only[zn,Nat.zero_add,Nat.reduceAdd]
 refine go ?_
 rw[wrapU64 (by omega) (by omega)]
 refine WO.con (len_ok h n (by omega) h1) ?_
 rintro _ _ ⟨⟨k,rfl,hk,hk2⟩,rfl⟩
 have hk3:=hk2 (by omega)
 have hpos:(0:Int)<2 ^ k:=Int.pow_pos (by decide)
 refine go ?_
 refine WO.bin (vx:= .int .u64 1) (vy:=I k) (v:= .int .u64 (2 ^ k)) rfl zP (by
  simp only[zb,IntKind.bits]
  rw[if_neg (by omega),Int.toNat_natCast,Nat.min_eq_left (by omega),Int.one_mul,wrapU64 (by omega) (by omega)]) ?_
 refine go ?_
 refine rt ?_
 exact⟨⟨_,rfl,by omega,hk3⟩,rfl⟩
noncomputable def body49:ACode:=(.seq (.region [⟨some 2,none,(.mov (.const (.int .u64 0)))⟩]) (.seq (.regionC [(⟨some 3,none,(.mov (.tmp 0))⟩,[]),(⟨some 4,none,(.nilCheck (.tmp 3))⟩,[]),(⟨some 5,none,(.load false 1 (.tmp 4))⟩,[]),(⟨some 6,none,(.mov (.tmp 0))⟩,[]),(⟨some 7,none,(.nilCheck (.tmp 6))⟩,[]),(⟨some 8,none,(.load false 1 (.tmp 7))⟩,[]),(⟨some 9,none,(.bin .shl (.tmp 8) (.const (.int .u64 13)))⟩,[]),(⟨some 10,none,(.bin .xor (.tmp 5) (.tmp 9))⟩,[]),(⟨some 11,none,(.nilCheck (.tmp 3))⟩,[]),(⟨none,none,(.store 1 (.tmp 11) (.tmp 10))⟩,[])]) (.seq (.regionC [(⟨some 12,none,(.mov (.tmp 0))⟩,[]),(⟨some 13,none,(.nilCheck (.tmp 12))⟩,[]),(⟨some 14,none,(.load false 1 (.tmp 13))⟩,[]),(⟨some 15,none,(.mov (.tmp 0))⟩,[]),(⟨some 16,none,(.nilCheck (.tmp 15))⟩,[]),(⟨some 17,none,(.load false 1 (.tmp 16))⟩,[]),(⟨some 18,none,(.bin .shr (.tmp 17) (.const (.int .u64 7)))⟩,[]),(⟨some 19,none,(.bin .xor (.tmp 14) (.tmp 18))⟩,[]),(⟨some 20,none,(.nilCheck (.tmp 12))⟩,[]),(⟨none,none,(.store 1 (.tmp 20) (.tmp 19))⟩,[])]) (.seq (.regionC [(⟨some 21,none,(.mov (.tmp 0))⟩,[]),(⟨some 22,none,(.nilCheck (.tmp 21))⟩,[]),(⟨some 23,none,(.load false 1 (.tmp 22))⟩,[]),(⟨some 24,none,(.mov (.tmp 0))⟩,[]),(⟨some 25,none,(.nilCheck (.tmp 24))⟩,[]),(⟨some 26,none,(.load false 1 (.tmp 25))⟩,[]),(⟨some 27,none,(.bin .shl (.tmp 26) (.const (.int .u64 17)))⟩,[]),(⟨some 28,none,(.bin .xor (.tmp 23) (.tmp 27))⟩,[]),(⟨some 29,none,(.nilCheck (.tmp 21))⟩,[]),(⟨none,none,(.store 1 (.tmp 29) (.tmp 28))⟩,[])]) (.seq (.region [⟨some 30,none,(.mov (.tmp 0))⟩,⟨some 31,none,(.nilCheck (.tmp 30))⟩,⟨some 32,none,(.load false 1 (.tmp 31))⟩,⟨some 2,none,(.mov (.tmp 32))⟩]) .ret)))))
set_option maxRecDepth 100000 in
theorem tab49:tb.code 49=some ⟨33,[(2,none)],body49⟩:=by kernel_rfl
theorem next_rnd (h0 h:AHeap) (p:Value) (n:Int) (e0:Ext h0 h) (hm:h0.mark≤h0.n) (o:OwnC h0 h p [.int .u64 n]):
  WC Try.prog tb 49 [p] h fun r h'=>(∃ m:Int,r= .int .u64 m∧OwnC h0 h' p [.int .u64 m])∧Ext h0 h'∧UpdC p h h':=by
 obtain⟨g,rfl⟩:∃ g,p= .pointer (some ⟨g,0,none⟩):=let ⟨g,_,_,e,_⟩:=o;⟨g,e⟩
 have shl:∀ (a:Int) (b:Int),0≤b→∃ r,zb .shl (.int .u64 a) (.int .u64 b)=some (.int .u64 r):=fun a b hb=>⟨_,by simp only[zb];rw[if_neg (by omega)]⟩
 have shr:∀ (a:Int) (b:Int),0≤b→∃ r,zb .shr (.int .u64 a) (.int .u64 b)=some (.int .u64 r):=fun a b hb=>⟨_,by simp only[zb];rw[if_neg (by omega)]⟩
 have xor:∀ (a b:Int),∃ r,zb .xor (.int .u64 a) (.int .u64 b)=some (.int .u64 r):=fun a b=>⟨_,by simp only[zb,if_true];rfl⟩
 refine WC.of (zH 49) tab49 ?_;simp only[zn,Nat.zero_add,Nat.reduceAdd]
 refine go ?_
 refine WX.regionU2 0 rfl rfl ?_
 have oX:OwnC h0 (inC (zC 0 h)) (.pointer (some ⟨g,0,none⟩)) [.int .u64 n]:=o
 refine goU ?_
 obtain⟨r1,hr1⟩:=shl n 13 (by decide)
 refine WO.bin zP rfl hr1 ?_
 refine WO.nil ?_
 refine zy ?_
 refine goU ?_
 obtain⟨x1,hx1⟩:=xor n r1
 refine WO.bin zP zP hx1 ?_
 refine WO.nil ?_
 refine zy ?_
 refine goU ?_
 refine WU2.stN [.int .u64 x1] o e0 (by rw[e0.mark];exact hm) ?_
 intro h1 e1 o1 u1
 refine go ?_
 refine WX.regionU2 0 rfl rfl ?_
 have oX1:OwnC h0 (inC (zC 0 h1)) (.pointer (some ⟨g,0,none⟩)) [.int .u64 x1]:=o1
 refine goU ?_
 obtain⟨r2,hr2⟩:=shr x1 7 (by decide)
 refine WO.bin zP rfl hr2 ?_
 refine WO.nil ?_
 refine zy ?_
 refine goU ?_
 obtain⟨x2,hx2⟩:=xor x1 r2
 refine WO.bin zP zP hx2 ?_
 refine WO.nil ?_
 refine zy ?_
 refine goU ?_
 refine WU2.stN [.int .u64 x2] o1 e1 (by rw[e1.mark];exact hm) ?_
 intro h2 e2 o2 u2
 refine go ?_
 refine WX.regionU2 0 rfl rfl ?_
 have oX2:OwnC h0 (inC (zC 0 h2)) (.pointer (some ⟨g,0,none⟩)) [.int .u64 x2]:=o2
 refine goU ?_
 obtain⟨r3,hr3⟩:=shl x2 17 (by decide)
 refine WO.bin zP rfl hr3 ?_
 refine WO.nil ?_
 refine zy ?_
 refine goU ?_
 obtain⟨x3,hx3⟩:=xor x2 r3
 refine WO.bin zP zP hx3 ?_
 refine WO.nil ?_
 refine zy ?_
 refine goU ?_
 refine WU2.stN [.int .u64 x3] o2 e2 (by rw[e2.mark];exact hm) ?_
 intro h3 e3 o3 u3
 refine go ?_
 refine rt ?_
 exact⟨⟨x3,rfl,o3⟩,e3,(u1.trans u2).trans u3⟩
noncomputable def body53:ACode:=(.seq (.region [⟨some 8,none,(.mov (.const (.int .i64 0)))⟩,⟨some 9,none,(.mov (.const (.int .i64 0)))⟩]) (.seq (.seq (.regionC [(⟨some 10,none,(.mov (.tmp 0))⟩,[]),(⟨some 11,none,(.mov (.tmp 2))⟩,[]),(⟨some 12,none,(.idx 1 (.tmp 10) (.tmp 11))⟩,[]),(⟨some 13,none,(.load false 1 (.tmp 12))⟩,[]),(⟨some 14,none,(.mov (.tmp 0))⟩,[]),(⟨some 15,none,(.mov (.tmp 1))⟩,[]),(⟨some 16,none,(.idx 1 (.tmp 14) (.tmp 15))⟩,[]),(⟨some 17,none,(.load false 1 (.tmp 16))⟩,[]),(⟨some 18,none,(.call (.func 42) [(.tmp 13),(.tmp 17)])⟩,[])]) (.cond (.tmp 18) (.seq (.region [⟨some 19,none,(.mov (.tmp 3))⟩,⟨some 20,none,(.nilCheck (.tmp 19))⟩,⟨some 21,none,(.load false 1 (.tmp 20))⟩,⟨some 22,none,(.bin .add (.tmp 21) (.const (.int .i64 1)))⟩,⟨some 23,none,(.nilCheck (.tmp 19))⟩,⟨none,none,(.store 1 (.tmp 23) (.tmp 22))⟩]) (.seq (.region [⟨some 24,none,(.mov (.tmp 2))⟩,⟨some 25,none,(.mov (.tmp 1))⟩,⟨some 8,none,(.mov (.tmp 24))⟩,⟨some 9,none,(.mov (.tmp 25))⟩]) .ret)) .skip)) (.seq (.region [⟨some 26,none,(.mov (.tmp 1))⟩,⟨some 27,none,(.mov (.tmp 2))⟩,⟨some 8,none,(.mov (.tmp 26))⟩,⟨some 9,none,(.mov (.tmp 27))⟩]) .ret)))
set_option maxRecDepth 100000 in
theorem tab53:tb.code 53=some ⟨28,[(8,none),(9,none)],body53⟩:=by kernel_rfl
theorem order2_ok (h0 h:AHeap) (v p:Value) (xs:List Int) (a b n:Int) (e0:Ext h0 h) (s:SlI h0 v xs) (o:OwnC h0 h p [I n]) (hn:0≤n∧n≤1000) (ha:0≤a∧a<xs.length) (hb:0≤b∧b<xs.length):
  WC Try.prog tb 53 [v,I a,I b,p] h fun r h'=>(∃ c d m:Int,r= .tuple #[I c,I d]∧((c=a∧d=b)∨(c=b∧d=a))∧(0≤m∧m≤n+1)∧OwnC h0 h' p [I m])∧Ext h0 h':=by
 obtain⟨g,rfl⟩:∃ g,p= .pointer (some ⟨g,0,none⟩):=let ⟨g,_,_,e,_⟩:=o;⟨g,e⟩
 refine WC.of (zH 53) tab53 ?_;simp only[zn,Nat.zero_add,Nat.reduceAdd]
 refine go ?_
 refine WX.regionU2 0 rfl rfl ?_
 have srX:SlI (inC (zC 0 h)) v xs:=by have:=s.ext e0;exact this
 refine goU ?_
 refine WO.con (yN _ (atI xs b) (atI xs a)) ?_
 rintro _ _ ⟨rfl,rfl⟩
 refine WO.nil ?_
 refine zy ?_
 refine goU ?_
 rw[out_self]
 refine WX.br (fun he=> ?_) (fun he=> ?_)<;>simp only[DB]at he<;>refine go ?_
 ·refine WO.stC0 o e0 ?_
  intro h1 e1 o1 _
  refine go ?_
  refine rt ?_
  exact⟨⟨b,a,n+1,rfl,.inr ⟨rfl,rfl⟩,by omega,o1⟩,e1⟩
 ·refine rt ?_
  exact⟨⟨a,b,n,rfl,.inl ⟨rfl,rfl⟩,by omega,o⟩,e0⟩
noncomputable def body51:ACode:=(.seq (.region [⟨some 10,none,(.mov (.const (.int .i64 0)))⟩]) (.seq (.region [⟨some 12,none,(.mov (.tmp 0))⟩,⟨some 13,none,(.mov (.tmp 1))⟩,⟨some 14,none,(.mov (.tmp 2))⟩,⟨some 15,none,(.mov (.tmp 4))⟩,⟨some 16,none,(.call (.func 53) [(.tmp 12),(.tmp 13),(.tmp 14),(.tmp 15)])⟩,⟨some 11,none,(.mov (.tmp 16))⟩,⟨some 17,none,(.extract (.tmp 11) 0)⟩,⟨some 18,none,(.extract (.tmp 11) 1)⟩,⟨some 1,none,(.mov (.tmp 17))⟩,⟨some 2,none,(.mov (.tmp 18))⟩]) (.seq (.region [⟨some 20,none,(.mov (.tmp 0))⟩,⟨some 21,none,(.mov (.tmp 2))⟩,⟨some 22,none,(.mov (.tmp 3))⟩,⟨some 23,none,(.mov (.tmp 4))⟩,⟨some 24,none,(.call (.func 53) [(.tmp 20),(.tmp 21),(.tmp 22),(.tmp 23)])⟩,⟨some 19,none,(.mov (.tmp 24))⟩,⟨some 25,none,(.extract (.tmp 19) 0)⟩,⟨some 26,none,(.extract (.tmp 19) 1)⟩,⟨some 2,none,(.mov (.tmp 25))⟩,⟨some 3,none,(.mov (.tmp 26))⟩]) (.seq (.region [⟨some 28,none,(.mov (.tmp 0))⟩,⟨some 29,none,(.mov (.tmp 1))⟩,⟨some 30,none,(.mov (.tmp 2))⟩,⟨some 31,none,(.mov (.tmp 4))⟩,⟨some 32,none,(.call (.func 53) [(.tmp 28),(.tmp 29),(.tmp 30),(.tmp 31)])⟩,⟨some 27,none,(.mov (.tmp 32))⟩,⟨some 33,none,(.extract (.tmp 27) 0)⟩,⟨some 34,none,(.extract (.tmp 27) 1)⟩,⟨some 1,none,(.mov (.tmp 33))⟩,⟨some 2,none,(.mov (.tmp 34))⟩]) (.seq (.region [⟨some 35,none,(.mov (.tmp 2))⟩,⟨some 10,none,(.mov (.tmp 35))⟩]) .ret)))))
set_option maxRecDepth 100000 in
theorem tab51:tb.code 51=some ⟨36,[(10,none)],body51⟩:=by kernel_rfl
theorem median_ok (h0 h:AHeap) (v p:Value) (xs:List Int) (a b c n:Int) (e0:Ext h0 h) (s:SlI h0 v xs) (o:OwnC h0 h p [I n]) (hn:0≤n∧n≤900) (ha:0≤a∧a<xs.length) (hb:0≤b∧b<xs.length) (hc:0≤c∧c<xs.length):
  WC Try.prog tb 51 [v,I a,I b,I c,p] h fun r h'=>(∃ d m:Int,r=I d∧(d=a∨d=b∨d=c)∧(0≤m∧m≤n+3)∧OwnC h0 h' p [I m])∧Ext h0 h':=by
 refine WC.of (zH 51) tab51 ?_;simp only[zn,Nat.zero_add,Nat.reduceAdd]
 refine go ?_
 refine WO.con (order2_ok h0 h v p xs a b n e0 s o (by omega) ha hb) ?_
 rintro _ h1 ⟨⟨a1,b1,n1,rfl,q1,m1,o1⟩,e1⟩
 refine go ?_
 refine WO.con (order2_ok h0 h1 v p xs b1 c n1 e1 s o1 (by omega) (by omega) hc) ?_
 rintro _ h2 ⟨⟨b2,c2,n2,rfl,q2,m2,o2⟩,e2⟩
 refine go ?_
 refine WO.con (order2_ok h0 h2 v p xs a1 b2 n2 e2 s o2 (by omega) (by omega) (by omega)) ?_
 rintro _ h3 ⟨⟨a3,b3,n3,rfl,q3,m3,o3⟩,e3⟩
 refine go ?_
 refine rt ?_
 exact⟨⟨b3,n3,rfl,by omega,by omega,o3⟩,e3⟩
noncomputable def body50:ACode:=(.seq (.region [⟨some 6,none,(.mov (.const (.int .i64 0)))⟩]) (.seq (.region [⟨some 7,none,(.mov (.tmp 0))⟩,⟨some 8,none,(.mov (.tmp 1))⟩,⟨some 9,none,(.bin .sub (.tmp 8) (.const (.int .i64 1)))⟩,⟨some 10,none,(.mov (.tmp 1))⟩,⟨some 11,none,(.mov (.tmp 1))⟩,⟨some 12,none,(.bin .add (.tmp 11) (.const (.int .i64 1)))⟩,⟨some 13,none,(.mov (.tmp 2))⟩,⟨some 14,none,(.call (.func 51) [(.tmp 7),(.tmp 9),(.tmp 10),(.tmp 12),(.tmp 13)])⟩,⟨some 6,none,(.mov (.tmp 14))⟩]) .ret))
set_option maxRecDepth 100000 in
theorem tab50:tb.code 50=some ⟨15,[(6,none)],body50⟩:=by kernel_rfl
theorem medianAdj_ok (h0 h:AHeap) (v p:Value) (xs:List Int) (a n:Int) (e0:Ext h0 h) (s:SlI h0 v xs) (o:OwnC h0 h p [I n]) (hn:0≤n∧n≤900) (ha:1≤a∧a+1<xs.length) (hl:xs.length≤1000000000):
  WC Try.prog tb 50 [v,I a,p] h fun r h'=>(∃ d m:Int,r=I d∧(a - 1≤d∧d≤a+1)∧(0≤m∧m≤n+3)∧OwnC h0 h' p [I m])∧Ext h0 h':=by
 refine WC.of (zH 50) tab50 ?_;simp only[zn,Nat.zero_add,Nat.reduceAdd]
 refine go ?_
 refine WO.con (median_ok h0 h v p xs (a - 1) a (a+1) n e0 s o hn (by omega) (by omega) (by omega)) ?_
 rintro _ h1 ⟨⟨d,m,rfl,q1,m1,o1⟩,e1⟩
 refine go ?_
 refine rt ?_
 exact⟨⟨d,m,rfl,by omega,m1,o1⟩,e1⟩
noncomputable def body39:ACode:=(.seq (.region [⟨some 6,none,(.mov (.const (.int .i64 0)))⟩,⟨some 7,none,(.mov (.const (.int .i64 0)))⟩]) (.seq (.region [⟨some 13,none,(.mov (.tmp 2))⟩,⟨some 14,none,(.mov (.tmp 1))⟩,⟨some 15,none,(.bin .sub (.tmp 13) (.tmp 14))⟩,⟨some 8,none,(.mov (.tmp 15))⟩]) (.seq (.region [⟨some 9,none,(.alloc [(.int .i64 0)])⟩]) (.seq (.region [⟨some 16,none,(.mov (.tmp 1))⟩,⟨some 17,none,(.mov (.tmp 8))⟩,⟨some 18,none,(.bin .quo (.tmp 17) (.const (.int .i64 4)))⟩,⟨some 19,none,(.bin .mul (.tmp 18) (.const (.int .i64 1)))⟩,⟨some 20,none,(.bin .add (.tmp 16) (.tmp 19))⟩,⟨some 10,none,(.mov (.tmp 20))⟩]) (.seq (.region [⟨some 21,none,(.mov (.tmp 1))⟩,⟨some 22,none,(.mov (.tmp 8))⟩,⟨some 23,none,(.bin .quo (.tmp 22) (.const (.int .i64 4)))⟩,⟨some 24,none,(.bin .mul (.tmp 23) (.const (.int .i64 2)))⟩,⟨some 25,none,(.bin .add (.tmp 21) (.tmp 24))⟩,⟨some 11,none,(.mov (.tmp 25))⟩]) (.seq (.region [⟨some 26,none,(.mov (.tmp 1))⟩,⟨some 27,none,(.mov (.tmp 8))⟩,⟨some 28,none,(.bin .quo (.tmp 27) (.const (.int .i64 4)))⟩,⟨some 29,none,(.bin .mul (.tmp 28) (.const (.int .i64 3)))⟩,⟨some 30,none,(.bin .add (.tmp 26) (.tmp 29))⟩,⟨some 12,none,(.mov (.tmp 30))⟩]) (.seq (.seq (.region [⟨some 31,none,(.mov (.tmp 8))⟩,⟨some 32,none,(.bin .geq (.tmp 31) (.const (.int .i64 8)))⟩]) (.cond (.tmp 32) (.seq (.seq (.region [⟨some 33,none,(.mov (.tmp 8))⟩,⟨some 34,none,(.bin .geq (.tmp 33) (.const (.int .i64 50)))⟩]) (.cond (.tmp 34) (.seq (.region [⟨some 35,none,(.mov (.tmp 0))⟩,⟨some 36,none,(.mov (.tmp 10))⟩,⟨some 37,none,(.call (.func 50) [(.tmp 35),(.tmp 36),(.tmp 9)])⟩,⟨some 10,none,(.mov (.tmp 37))⟩]) (.seq (.region [⟨some 38,none,(.mov (.tmp 0))⟩,⟨some 39,none,(.mov (.tmp 11))⟩,⟨some 40,none,(.call (.func 50) [(.tmp 38),(.tmp 39),(.tmp 9)])⟩,⟨some 11,none,(.mov (.tmp 40))⟩]) (.region [⟨some 41,none,(.mov (.tmp 0))⟩,⟨some 42,none,(.mov (.tmp 12))⟩,⟨some 43,none,(.call (.func 50) [(.tmp 41),(.tmp 42),(.tmp 9)])⟩,⟨some 12,none,(.mov (.tmp 43))⟩]))) .skip)) (.region [⟨some 44,none,(.mov (.tmp 0))⟩,⟨some 45,none,(.mov (.tmp 10))⟩,⟨some 46,none,(.mov (.tmp 11))⟩,⟨some 47,none,(.mov (.tmp 12))⟩,⟨some 48,none,(.call (.func 51) [(.tmp 44),(.tmp 45),(.tmp 46),(.tmp 47),(.tmp 9)])⟩,⟨some 11,none,(.mov (.tmp 48))⟩])) .skip)) (.seq (.region [⟨some 49,none,(.load false 1 (.tmp 9))⟩]) (.block 0 (.seq (.region [⟨some 52,none,(.bin .eql (.tmp 49) (.const (.int .i64 0)))⟩,⟨some 51,none,(.mov (.tmp 52))⟩]) (.cond (.tmp 51) (.seq (.region [⟨some 53,none,(.mov (.tmp 11))⟩,⟨some 6,none,(.mov (.tmp 53))⟩,⟨some 7,none,(.mov (.const (.int .i64 1)))⟩]) .ret) (.seq (.region [⟨some 55,none,(.bin .eql (.tmp 49) (.const (.int .i64 12)))⟩,⟨some 54,none,(.mov (.tmp 55))⟩]) (.cond (.tmp 54) (.seq (.region [⟨some 56,none,(.mov (.tmp 11))⟩,⟨some 6,none,(.mov (.tmp 56))⟩,⟨some 7,none,(.mov (.const (.int .i64 2)))⟩]) .ret) (.seq (.region [⟨some 50,none,(.mov (.tmp 11))⟩,⟨some 6,none,(.mov (.tmp 50))⟩,⟨some 7,none,(.mov (.const (.int .i64 0)))⟩]) .ret))))))))))))))
set_option maxRecDepth 100000 in
theorem tab39:tb.code 39=some ⟨57,[(6,none),(7,none)],body39⟩:=by kernel_rfl
theorem pivot_ok (h:AHeap) (v:Value) (xs:List Int) (a b:Int) (s:SlI h v xs) (h0:0≤a) (hab:a+12<b) (hb:b≤xs.length) (hlen:xs.length≤1000000000):
  WC Try.prog tb 39 [v,I a,I b] h fun r h'=>(∃ d hint:Int,r= .tuple #[I d,I hint]∧(a≤d∧d<b))∧Ext h h':=by
 have e4:(b - a).tdiv 4=(b - a) / 4:=Int.tdiv_eq_ediv_of_nonneg (by omega)
 refine WC.of (zH 39) tab39 ?_;simp only[zn,Nat.zero_add,Nat.reduceAdd]
 refine go ?_
 refine WO.al ?_
 intro p h1 e1 o1
 refine go ?_
 refine WO.quo (a:=b - a) (c:=4) (by decide) (by omega) (by omega) ?_
 rw[e4]
 refine go ?_
 refine WO.quo (a:=b - a) (c:=4) (by decide) (by omega) (by omega) ?_
 rw[e4]
 refine go ?_
 refine WO.quo (a:=b - a) (c:=4) (by decide) (by omega) (by omega) ?_
 rw[e4]
 refine go ?_
 refine WX.cutA [35,36,37,10,38,39,40,11,41,42,43,12] (by kernel_rfl) (fun t h'=>Ext h h'∧∃ i j k n:Int,zB t 10=I i∧zB t 11=I j∧zB t 12=I k∧(a≤i∧i<b)∧(a≤j∧j<b)∧(a≤k∧k<b)∧(0≤n∧n≤9)∧OwnC h h' p [I n]) ?_ ?_
 ·refine WX.br (fun he=> ?_) (fun he=> ?_)<;>simp only[DB]at he<;>refine go ?_
  ·refine WO.con (medianAdj_ok h h1 v p xs (a+(b - a) / 4 * 1) 0 e1 s o1 (by omega) (by omega) hlen) ?_
   rintro _ h2 ⟨⟨i,n1,rfl,q1,m1,o2⟩,e2⟩
   refine go ?_
   refine WO.con (medianAdj_ok h h2 v p xs (a+(b - a) / 4 * 2) n1 e2 s o2 (by omega) (by omega) hlen) ?_
   rintro _ h3 ⟨⟨j,n2,rfl,q2,m2,o3⟩,e3⟩
   refine go ?_
   refine WO.con (medianAdj_ok h h3 v p xs (a+(b - a) / 4 * 3) n2 e3 s o3 (by omega) (by omega) hlen) ?_
   rintro _ h4 ⟨⟨k,n3,rfl,q3,m3,o4⟩,e4⟩
   refine go ?_
   exact zE ⟨e4,i,j,k,n3,sl_,sl_,sl_,by omega,by omega,by omega,by omega,o4⟩
  ·exact zE ⟨e1,a+(b - a) / 4 * 1,a+(b - a) / 4 * 2,a+(b - a) / 4 * 3,0,sl_,sl_,sl_,by omega,by omega,by omega,by omega,o1⟩
 rintro t5 h5 hs5 ⟨e5,i,j,k,n,s10,s11,s12,hi,hj,hk,hn,o5⟩
 refine go ?_
 refine WO.con (median_ok h h5 v p xs i j k n e5 s o5 (by omega) (by omega) (by omega) (by omega)) ?_
 rintro _ h6 ⟨⟨d,m,rfl,q6,m6,o6⟩,e6⟩
 obtain⟨g,rfl⟩:∃ g,p= .pointer (some ⟨g,0,none⟩):=let ⟨g,_,_,e,_⟩:=o6;⟨g,e⟩
 refine go ?_
 refine WX.br (fun he=> ?_) (fun he=> ?_)<;>simp only[DB]at he<;>refine go ?_
 ·refine rt ?_
  exact⟨⟨_,_,rfl,by omega⟩,e6⟩
 refine WX.br (fun he=> ?_) (fun he=> ?_)<;>simp only[DB]at he<;>refine go ?_<;>refine rt ?_
 ·exact⟨⟨_,_,rfl,by omega⟩,e6⟩
 ·exact⟨⟨_,_,rfl,by omega⟩,e6⟩
noncomputable def body38_0:ACode:=(.seq (.seq (.region [⟨some 26,none,(.mov (.tmp 9))⟩,⟨some 27,none,(.mov (.tmp 1))⟩,⟨some 28,none,(.mov (.tmp 6))⟩,⟨some 29,none,(.bin .quo (.tmp 28) (.const (.int .i64 4)))⟩,⟨some 30,none,(.bin .mul (.tmp 29) (.const (.int .i64 2)))⟩,⟨some 31,none,(.bin .add (.tmp 27) (.tmp 30))⟩,⟨some 32,none,(.bin .add (.tmp 31) (.const (.int .i64 1)))⟩,⟨some 33,none,(.bin .leq (.tmp 26) (.tmp 32))⟩]) (.cond (.tmp 33) .skip (.exit 0))) (.seq (.block 1 (.seq (.region [⟨some 36,none,(.call (.func 49) [(.tmp 7)])⟩,⟨some 37,none,(.mov (.tmp 8))⟩,⟨some 38,none,(.bin .sub (.tmp 37) (.const (.int .u64 1)))⟩,⟨some 39,none,(.bin .and (.tmp 36) (.tmp 38))⟩,⟨some 40,none,(.conv .i64 (.tmp 39))⟩,⟨some 10,none,(.mov (.tmp 40))⟩]) (.seq (.seq (.region [⟨some 41,none,(.mov (.tmp 10))⟩,⟨some 42,none,(.mov (.tmp 6))⟩,⟨some 43,none,(.bin .geq (.tmp 41) (.tmp 42))⟩]) (.cond (.tmp 43) (.region [⟨some 44,none,(.mov (.tmp 10))⟩,⟨some 45,none,(.mov (.tmp 6))⟩,⟨some 46,none,(.bin .sub (.tmp 44) (.tmp 45))⟩,⟨some 10,none,(.mov (.tmp 46))⟩]) .skip)) (.regionC [(⟨some 47,none,(.mov (.tmp 0))⟩,[]),(⟨some 48,none,(.mov (.tmp 9))⟩,[]),(⟨some 49,none,(.mov (.tmp 0))⟩,[]),(⟨some 50,none,(.mov (.tmp 1))⟩,[]),(⟨some 51,none,(.mov (.tmp 10))⟩,[]),(⟨some 52,none,(.bin .add (.tmp 50) (.tmp 51))⟩,[]),(⟨some 53,none,(.mov (.tmp 0))⟩,[]),(⟨some 54,none,(.mov (.tmp 1))⟩,[]),(⟨some 55,none,(.mov (.tmp 10))⟩,[]),(⟨some 56,none,(.bin .add (.tmp 54) (.tmp 55))⟩,[]),(⟨some 57,none,(.idx 1 (.tmp 53) (.tmp 56))⟩,[]),(⟨some 58,none,(.load false 1 (.tmp 57))⟩,[]),(⟨some 59,none,(.mov (.tmp 0))⟩,[]),(⟨some 60,none,(.mov (.tmp 9))⟩,[]),(⟨some 61,none,(.idx 1 (.tmp 59) (.tmp 60))⟩,[]),(⟨some 62,none,(.load false 1 (.tmp 61))⟩,[]),(⟨some 63,none,(.idx 1 (.tmp 47) (.tmp 48))⟩,[]),(⟨none,none,(.store 1 (.tmp 63) (.tmp 58))⟩,[]),(⟨some 64,none,(.idx 1 (.tmp 49) (.tmp 52))⟩,[]),(⟨none,none,(.store 1 (.tmp 64) (.tmp 62))⟩,[])])))) (.region [⟨some 34,none,(.mov (.tmp 9))⟩,⟨some 35,none,(.bin .add (.tmp 34) (.const (.int .i64 1)))⟩,⟨some 9,none,(.mov (.tmp 35))⟩])))
noncomputable def body38:ACode:=(.seq (.region [⟨some 11,none,(.mov (.tmp 2))⟩,⟨some 12,none,(.mov (.tmp 1))⟩,⟨some 13,none,(.bin .sub (.tmp 11) (.tmp 12))⟩,⟨some 6,none,(.mov (.tmp 13))⟩]) (.seq (.region [⟨some 14,none,(.mov (.tmp 6))⟩,⟨some 15,none,(.bin .geq (.tmp 14) (.const (.int .i64 8)))⟩]) (.cond (.tmp 15) (.seq (.region [⟨some 16,none,(.mov (.tmp 6))⟩,⟨some 17,none,(.conv .u64 (.tmp 16))⟩,⟨some 7,none,(.alloc [(.int .u64 0)])⟩,⟨none,none,(.store 1 (.tmp 7) (.tmp 17))⟩]) (.seq (.region [⟨some 18,none,(.mov (.tmp 6))⟩,⟨some 19,none,(.call (.func 48) [(.tmp 18)])⟩,⟨some 8,none,(.mov (.tmp 19))⟩]) (.seq (.region [⟨some 20,none,(.mov (.tmp 1))⟩,⟨some 21,none,(.mov (.tmp 6))⟩,⟨some 22,none,(.bin .quo (.tmp 21) (.const (.int .i64 4)))⟩,⟨some 23,none,(.bin .mul (.tmp 22) (.const (.int .i64 2)))⟩,⟨some 24,none,(.bin .add (.tmp 20) (.tmp 23))⟩,⟨some 25,none,(.bin .sub (.tmp 24) (.const (.int .i64 1)))⟩,⟨some 9,none,(.mov (.tmp 25))⟩]) (.block 0 (.loop body38_0))))) .skip)))
set_option maxRecDepth 100000 in
theorem tab38:tb.code 38=some ⟨65,[],body38⟩:=by kernel_rfl
theorem break_ok (hB h:AHeap) (v:Value) (xs:List Int) (a b:Int) (e0:Ext hB h) (hmB:hB.mark≤hB.n) (o:OwnI hB h v xs) (h0:0≤a) (hab:a+12<b) (hb:b≤xs.length) (hlen:xs.length≤1000000000):
  WC Try.prog tb 38 [v,I a,I b] h fun r h'=>∃ ys,SS hB h v a b xs ys h':=by
 have e4:(b - a).tdiv 4=(b - a) / 4:=Int.tdiv_eq_ediv_of_nonneg (by omega)
 have s0:=SS.start a b o e0
 refine WC.of (zH 38) tab38 ?_;simp only[zn,Nat.zero_add,Nat.reduceAdd]
 refine go ?_
 refine WO.al ?_
 intro p h1 e1 o1
 have s1:=s0.extd e1
 obtain⟨g,hg,rfl⟩:∃ g,h.n≤g∧p= .pointer (some ⟨g,0,none⟩):=let ⟨g,hg,_,e,_⟩:=o1;⟨g,hg,e⟩
 have o1:=o1.since e0
 refine go ?_
 refine WO.stC0 o1 s1.ext ?_
 intro h2 e2 o2 u2
 have s2:=s1.updC o hg e2 u2
 refine go ?_
 refine WO.con (power_ok h2 (b - a) (by omega) (by omega)) ?_
 rintro _ _ ⟨⟨m,rfl,hm1,hm2⟩,rfl⟩
 refine go ?_
 refine WO.quo (a:=b - a) (c:=4) (by decide) (by omega) (by omega) ?_
 rw[e4]
 refine go ?_
 refine WX.loopA [26,27,28,29,30,31,32,33,36,37,38,39,40,10,41,42,43,44,45,46,10,47,48,49,50,51,52,53,54,55,56,57,58,59,60,61,62,63,64,34,35,9] (by kernel_rfl) (fun x=>(b - x.2.1).toNat) (fun (x:List Int×Int×Int) t h4=>SS hB h v a b xs x.1 h4∧zB t 9=I x.2.1∧(a≤x.2.1∧x.2.1<b)∧OwnC hB h4 (.pointer (some ⟨g,0,none⟩)) [.int .u64 x.2.2]) (xs,a+(b - a) / 4 * 2 - 1,IntKind.u64.wrap (b - a)) ?_ ?_
 ·exact⟨s2,sl_,by simp only;omega,o2⟩
 rintro⟨ys,i,x⟩ t h4 hsame ⟨s4,s9,hi,o4⟩
 simp only at s4 s9 hi o4
 have hl4:=s4.len
 refine go ?_
 refine WO.quo (a:=b - a) (c:=4) (by decide) (by omega) (by omega) ?_
 rw[e4]
 refine go ?_
 refine WX.br (fun he=> ?_) (fun he=> ?_)<;>simp only[DB]at he<;>refine go ?_
 ·refine WO.con (next_rnd hB h4 _ x s4.ext hmB o4) ?_
  rintro _ h5 ⟨⟨y,rfl,o5⟩,e5,u5⟩
  have s5:=s4.updC o hg e5 u5
  refine go ?_
  refine WO.bin (vy:= .int .u64 1) (v:= .int .u64 (m - 1)) zP rfl (by simp only[zb,if_true];rw[wrapU64 (by omega) (by omega)]) ?_
  refine go ?_
  obtain⟨r,hr,hr0,hr1⟩:=and_u64 y (m:=m - 1) (by omega)
  refine WO.bin zP zP hr ?_
  refine go ?_
  refine WX.cutA [44,45,46,10] (by kernel_rfl) (fun t h'=>h5=h'∧∃ k:Int,zB t 10=I k∧0≤k∧k<b - a) ?_ ?_
  ·refine WX.br (fun hf=> ?_) (fun hf=> ?_)<;>simp only[DB]at hf<;>refine go ?_
   ·exact zE ⟨rfl,_,sl_,by omega,by omega⟩
   ·exact zE ⟨rfl,_,sl_,by omega,by omega⟩
  rintro t6 _ hs6 ⟨rfl,k,s10,hk0,hk1⟩
  refine go ?_
  refine WX.regionU2 0 rfl rfl ?_
  have srX:SlI (inC (zC 0 h5)) v ys:=(s5.own).sl
  refine goU ?_
  refine WU2.swA (i) (a+k) (s5).own (s5).ext (by rw[(s5).ext.mark];exact hmB) ?_
  intro h7 e7 o7 u7
  have s7:=s5.swp e7 o7 u7 h0 hb (by omega) (by omega)
  have o7':=o5.updV o hg u7
  refine go ?_
  exact zA (swp ys i (a+k),i+1,y) (by simp only;omega) ⟨s7,sl_,by simp only;omega,o7'⟩
 ·refine rtN ?_
  exact⟨ys,s4⟩
end Go.Proofs.Ytejjibilgmlhdaa
