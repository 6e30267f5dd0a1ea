/- What functions of the program come to in the abstract machine, and plain laws about it; no statement of the seat is proved in this text. -/
import Derived.Test.YtejjibilgmlhdaaDoorAmU
import Derived.Test.YtejjibilgmlhdaaDoorRows
import Derived.Test.YtejjibilgmlhdaaDoorAmV
import Derived.Test.YtejjibilgmlhdaaDoorAmE
namespace Go.Proofs.YtejjibilgmlhdaaDoor
open Go.Am
set_option linter.unusedVariables false
set_option linter.unusedSimpArgs false
structure LWd where
 pos:Int
 bits:Nat
 deriving DecidableEq
instance:Inhabited LWd:=⟨⟨0,0⟩⟩
structure OkW (s:List LWd):Prop where
 rise:s.Pairwise (fun a b=>a.pos<b.pos)
 each:∀ w∈s,0≤w.pos∧w.pos<16384∧w.bits≠0∧w.bits<18446744073709551616
def InW (s:List LWd) (n:Int):Prop:=∃ w∈s,w.pos=n / 64∧w.bits.testBit (n % 64).toNat=true
theorem OkW.nil:OkW []:=⟨.nil,fun w h=>by cases h⟩
theorem OkW.tail {w:LWd} {s:List LWd} (h:OkW (w::s)):OkW s:=⟨(List.pairwise_cons.1 h.rise).2,fun x hx=>h.each x (List.mem_cons_of_mem _ hx)⟩
theorem bits_lt {b:Nat} (h:b<18446744073709551616) {k:Nat} (hk:b.testBit k=true):k<64:=by
 by_cases h2:k<64
 ·exact h2
 ·have h3:2 ^ 64≤2 ^ k:=Nat.pow_le_pow_right (by decide) (Nat.le_of_not_lt h2)
  have:b.testBit k=false:=Nat.testBit_lt_two_pow (Nat.lt_of_lt_of_le h h3)
  rw[this]at hk;cases hk
theorem bits_ex {b:Nat} (h:b≠0):∃ k,b.testBit k=true:=by
 by_cases h2:∃ k,b.testBit k=true
 ·exact h2
 ·exact absurd (Nat.eq_of_testBit_eq fun i=>by
   rw[Nat.zero_testBit]
   cases hb:b.testBit i with
   |false=>rfl
   |true=>exact absurd ⟨i,hb⟩ h2) h
theorem InW.range {s:List LWd} (h:OkW s) {n:Int} (k:InW s n):0≤n∧n<1048576:=by
 obtain⟨w,hw,e,_⟩:=k
 have:=h.each w hw
 omega
theorem inW_cons {w:LWd} {s:List LWd} {n:Int}:InW (w::s) n↔(w.pos=n / 64∧w.bits.testBit (n % 64).toNat=true)∨InW s n:=by
 unfold InW;simp
theorem inW_tail {w:LWd} {s:List LWd} (h:OkW (w::s)) {n:Int}:InW s n↔InW (w::s) n∧w.pos≠n / 64:=by
 rw[inW_cons]
 constructor
 ·rintro⟨x,hx,e,hb⟩
  have:=(List.pairwise_cons.1 h.rise).1 x hx
  exact⟨.inr ⟨x,hx,e,hb⟩,by omega⟩
 ·rintro⟨⟨e,_⟩|k,hne⟩
  ·exact absurd e hne
  ·exact k
theorem InW.le {w:LWd} {s:List LWd} (h:OkW (w::s)) {n:Int} (k:InW (w::s) n):w.pos≤n / 64:=by
 rcases inW_cons.1 k with ⟨e,_⟩|⟨x,hx,e,_⟩
 ·omega
 ·have:=(List.pairwise_cons.1 h.rise).1 x hx;omega
theorem inW_head {w:LWd} {s:List LWd} (h:OkW (w::s)):∃ n,InW (w::s) n∧n / 64=w.pos:=by
 obtain⟨a,b,c,d⟩:=h.each w (List.mem_cons_self ..)
 obtain⟨k,hk⟩:=bits_ex c
 have hk2:=bits_lt d hk
 refine⟨64 * w.pos+k,inW_cons.2 (.inl ⟨by omega,?_⟩),by omega⟩
 rw[show ((64 * w.pos+(k:Int)) % 64).toNat=k by omega];exact hk
theorem inW_at {w:LWd} {s:List LWd} (h:OkW (w::s)) (k:Nat) (hk:k<64):InW (w::s) (64 * w.pos+k)↔w.bits.testBit k=true:=by
 rw[inW_cons]
 constructor
 ·rintro(⟨_,hb⟩|⟨x,hx,e,_⟩)
  ·rwa [show ((64 * w.pos+(k:Int)) % 64).toNat=k by omega]at hb
  ·have:=(List.pairwise_cons.1 h.rise).1 x hx;omega
 ·intro hb
  refine .inl ⟨by omega,?_⟩
  rw[show ((64 * w.pos+(k:Int)) % 64).toNat=k by omega];exact hb
theorem okW_ext:∀ {s t:List LWd},OkW s→OkW t→(∀ n,InW s n↔InW t n)→s=t
 |[],[],_,_,_=>rfl
 |[],u::t,_,ht,e=>by
  obtain⟨n,hn,_⟩:=inW_head ht
  obtain⟨_,h,_⟩:=(e n).2 hn;cases h
 |w::s,[],hs,_,e=>by
  obtain⟨n,hn,_⟩:=inW_head hs
  obtain⟨_,h,_⟩:=(e n).1 hn;cases h
 |w::s,u::t,hs,ht,e=>by
  have hp:w.pos=u.pos:=by
   obtain⟨n,hn,en⟩:=inW_head hs
   obtain⟨m,hm,em⟩:=inW_head ht
   have h1:=((e n).1 hn).le ht
   have h2:=((e m).2 hm).le hs
   omega
  have hb:w.bits=u.bits:=by
   refine Nat.eq_of_testBit_eq fun k=> ?_
   by_cases hk:k<64
   ·have h1:=inW_at hs k hk
    have h2:=inW_at ht k hk
    rw[←hp]at h2
    have h3:=h1.symm.trans ((e _).trans h2)
    cases h4:u.bits.testBit k with
    |true=>exact h3.2 h4
    |false=>
     cases h5:w.bits.testBit k with
     |false=>rfl
     |true=>rw[h3.1 h5]at h4;cases h4
   ·have h1:=(hs.each w (List.mem_cons_self ..)).2.2.2
    have h2:=(ht.each u (List.mem_cons_self ..)).2.2.2
    cases h4:u.bits.testBit k with
    |true=>exact absurd (bits_lt h2 h4) hk
    |false=>
     cases h5:w.bits.testBit k with
     |false=>rfl
     |true=>exact absurd (bits_lt h1 h5) hk
  have hw:w=u:=by cases w;cases u;cases hp;cases hb;rfl
  have hst:s=t:=okW_ext hs.tail ht.tail fun n=>by rw[inW_tail hs,inW_tail ht,e n,hp]
  rw[hw,hst]
structure Is (t:List LWd) (p:Int→Prop):Prop where
 ok:OkW t
 mem:∀ n,InW t n↔p n
theorem Is.eq {s t:List LWd} {p q:Int→Prop} (h:Is s p) (k:Is t q) (e:∀ n,p n↔q n):s=t:=okW_ext h.ok k.ok fun n=>(h.mem n).trans ((e n).trans (k.mem n).symm)
end Go.Proofs.YtejjibilgmlhdaaDoor
namespace Go.Proofs.YtejjibilgmlhdaaDoor
open Go.Am
set_option linter.unusedVariables false
set_option linter.unusedSimpArgs false
abbrev W (n:Nat):Value:= .int .u64 (n:Int)
theorem ofInt_nat (a:Nat):BitVec.ofInt 64 (a:Int)=BitVec.ofNat 64 a:=by
 apply BitVec.eq_of_toNat_eq;simp
theorem b64:IntKind.bits .u64=64:=rfl
theorem u_and {a b:Nat} (ha:a<18446744073709551616) (hb:b<18446744073709551616):ze .and (W a) (W b)=some (W (a&&& b)):=by
 have h:a&&& b<18446744073709551616:=Nat.lt_of_le_of_lt Nat.and_le_left ha
 have e:(BitVec.ofInt 64 (a:Int)&&& BitVec.ofInt 64 (b:Int)).toNat=a&&& b:=by
  rw[ofInt_nat,ofInt_nat,BitVec.toNat_and,BitVec.toNat_ofNat,BitVec.toNat_ofNat,Nat.mod_eq_of_lt (show a<2 ^ 64 from ha),Nat.mod_eq_of_lt (show b<2 ^ 64 from hb)]
 simp only[ze,if_true]
 rw[show ((BitVec.ofInt (IntKind.bits .u64) (a:Int)&&& BitVec.ofInt (IntKind.bits .u64) (b:Int)).toNat)=a&&& b from e,wrapU64 (by omega) (by omega)]
theorem u_or {a b:Nat} (ha:a<18446744073709551616) (hb:b<18446744073709551616):ze .or (W a) (W b)=some (W (a|||b))∧a|||b<18446744073709551616:=by
 have h:a|||b<18446744073709551616:=Nat.or_lt_two_pow (n:=64) ha hb
 refine⟨?_,h⟩
 have e:(BitVec.ofInt 64 (a:Int)|||BitVec.ofInt 64 (b:Int)).toNat=a|||b:=by
  rw[ofInt_nat,ofInt_nat,BitVec.toNat_or,BitVec.toNat_ofNat,BitVec.toNat_ofNat,Nat.mod_eq_of_lt (show a<2 ^ 64 from ha),Nat.mod_eq_of_lt (show b<2 ^ 64 from hb)]
 simp only[ze,if_true]
 rw[show ((BitVec.ofInt (IntKind.bits .u64) (a:Int)|||BitVec.ofInt (IntKind.bits .u64) (b:Int)).toNat)=a|||b from e,wrapU64 (by omega) (by omega)]
def notN (a b:Nat):Nat:=(BitVec.ofNat 64 a&&& ~~~BitVec.ofNat 64 b).toNat
theorem u_notN {a b:Nat} (ha:a<18446744073709551616) (hb:b<18446744073709551616):ze .andNot (W a) (W b)=some (W (notN a b))∧notN a b<18446744073709551616∧∀ i,(notN a b).testBit i=(a.testBit i&& !b.testBit i):=by
 have h:notN a b<18446744073709551616:=(BitVec.ofNat 64 a&&& ~~~BitVec.ofNat 64 b).isLt
 refine⟨?_,h,fun i=> ?_⟩
 ·have e:(BitVec.ofInt 64 (a:Int)&&& ~~~BitVec.ofInt 64 (b:Int)).toNat=notN a b:=by rw[ofInt_nat,ofInt_nat];rfl
  simp only[ze,if_true]
  rw[show ((BitVec.ofInt (IntKind.bits .u64) (a:Int)&&& ~~~BitVec.ofInt (IntKind.bits .u64) (b:Int)).toNat)=notN a b from e,wrapU64 (by omega) (by omega)]
 ·unfold notN
  rw[BitVec.testBit_toNat,BitVec.getLsbD_and,BitVec.getLsbD_not,BitVec.getLsbD_ofNat,BitVec.getLsbD_ofNat]
  by_cases hi:i<64
  ·simp[hi]
  ·have:a.testBit i=false:=by
    cases h:a.testBit i with
    |false=>rfl
    |true=>exact absurd (bits_lt ha h) hi
   simp[hi,this]
theorem u_shr {a:Nat} {k:Nat} (hk:k<64):ze .shr (W a) (I k)=some (W (a / 2 ^ k)):=by
 simp only[ze]
 rw[if_neg (by omega),Int.toNat_natCast,show min k (IntKind.bits .u64)=k from Nat.min_eq_left (by rw[b64];omega),Int.fdiv_eq_ediv_of_nonneg _ (by exact Int.le_of_lt (Int.pow_pos (by decide)))]
 congr 2
theorem u_shrW {a:Nat} {k:Nat} (hk:k<64):ze .shr (W a) (W k)=some (W (a / 2 ^ k)):=by
 simp only[ze]
 rw[if_neg (by omega),Int.toNat_natCast,show min k (IntKind.bits .u64)=k from Nat.min_eq_left (by rw[b64];omega),Int.fdiv_eq_ediv_of_nonneg _ (by exact Int.le_of_lt (Int.pow_pos (by decide)))]
 congr 2
theorem wrapMod (n:Int):IntKind.wrap .u64 n=n % 18446744073709551616:=rfl
end Go.Proofs.YtejjibilgmlhdaaDoor
namespace Go.Proofs.YtejjibilgmlhdaaDoor
open Go.Am
set_option linter.unusedVariables false
set_option linter.unusedSimpArgs false
def tz64:List Nat:=[0,1,56,2,57,49,28,3,61,58,42,50,38,29,17,4,62,47,59,36,45,43,51,22,53,39,33,30,24,18,12,5,63,55,48,27,60,41,37,16,46,35,44,21,52,32,23,11,54,26,40,15,34,20,31,10,25,14,19,9,13,8,7,6]
def tzV:List Value:=tz64.map fun n:Nat=> .int .u8 (n:Int)
def s1 (b:Nat):Nat:=(b / 2&&& 85)+(b&&& 85)
def s2 (b:Nat):Nat:=(b / 4&&& 51)+(b&&& 51)
end Go.Proofs.YtejjibilgmlhdaaDoor
namespace Go.Proofs.YtejjibilgmlhdaaDoor
open Go.Am
set_option linter.unusedVariables false
set_option linter.unusedSimpArgs false
def BdW (s:List LWd):Prop:=∀ w∈s,w.bits<18446744073709551616
theorem OkW.bd {s:List LWd} (h:OkW s):BdW s:=fun w hw=>(h.each w hw).2.2.2
theorem BdW.tail {w:LWd} {s:List LWd} (h:BdW (w::s)):BdW s:=fun x hx=>h x (List.mem_cons_of_mem _ hx)
def zQ:Int→List LWd→Bool
 |_,[]=>true
 |last,w::s=>decide (last<w.pos)&&decide (w.pos<16384)&&decide (w.bits≠0)&&zQ w.pos s
theorem checkW_iff:∀ {s:List LWd} {last:Int},-1≤last→BdW s→(zQ last s=true↔OkW s∧∀ w∈s,last<w.pos)
 |[],last,_,_=>by simp[zQ,OkW.nil]
 |w::s,last,hl,hb=>by
  unfold zQ
  rw[Bool.and_eq_true,Bool.and_eq_true,Bool.and_eq_true,decide_eq_true_iff,decide_eq_true_iff,decide_eq_true_iff]
  constructor
  ·rintro⟨⟨⟨h1,h2⟩,h3⟩,h4⟩
   obtain⟨h5,h6⟩:=(checkW_iff (by omega) hb.tail).1 h4
   refine⟨⟨List.pairwise_cons.2 ⟨h6,h5.rise⟩,fun x hx=> ?_⟩,fun x hx=> ?_⟩
   ·rcases List.mem_cons.1 hx with rfl|hx
    ·exact⟨by omega,h2,h3,hb _ (List.mem_cons_self ..)⟩
    ·exact h5.each x hx
   ·rcases List.mem_cons.1 hx with rfl|hx
    ·exact h1
    ·have:=h6 x hx;omega
  ·rintro⟨h1,h2⟩
   obtain⟨a,b,c,_⟩:=h1.each w (List.mem_cons_self ..)
   exact⟨⟨⟨h2 w (List.mem_cons_self ..),b⟩,c⟩,(checkW_iff (by omega) hb.tail).2 ⟨h1.tail,(List.pairwise_cons.1 h1.rise).1⟩⟩
theorem okW_iff {s:List LWd} (hb:BdW s):zQ (-1) s=true↔OkW s:=by
 rw[checkW_iff (by decide) hb]
 exact⟨fun h=>h.1,fun h=>⟨h,fun w hw=>by have:=(h.each w hw).1;omega⟩⟩
def inB (s:List LWd) (n:Int):Bool:=s.any fun w=>decide (w.pos=n / 64)&&w.bits.testBit (n % 64).toNat
theorem inB_iff {s:List LWd} {n:Int}:inB s n=true↔InW s n:=by
 unfold inB InW
 rw[List.any_eq_true]
 simp only[Bool.and_eq_true,decide_eq_true_iff]
theorem inB_false {s:List LWd} {n:Int} (h:¬InW s n):inB s n=false:=by
 cases hb:inB s n with
 |false=>rfl
 |true=>exact absurd (inB_iff.1 hb) h
theorem inB_cons (w:LWd) (s:List LWd) (n:Int):inB (w::s) n=(decide (w.pos=n / 64)&&w.bits.testBit (n % 64).toNat||inB s n):=by
 unfold inB;rw[List.any_cons]
theorem inB_far {s:List LWd} {n:Int} (h:∀ w∈s,n / 64<w.pos):inB s n=false:=inB_false fun ⟨w,hw,e,_⟩=>by have:=h w hw;omega
def putW (p:Int) (v:Nat) (s:List LWd):List LWd:=if v=0 then s else ⟨p,v⟩::s
theorem putW_ok {p:Int} {v:Nat} {s:List LWd} (h:OkW s) (hp:0≤p∧p<16384) (hv:v<18446744073709551616) (hs:∀ w∈s,p<w.pos):OkW (putW p v s):=by
 unfold putW
 split
 ·exact h
 ·rename_i hne
  refine⟨List.pairwise_cons.2 ⟨hs,h.rise⟩,fun x hx=> ?_⟩
  rcases List.mem_cons.1 hx with rfl|hx
  ·exact⟨hp.1,hp.2,hne,hv⟩
  ·exact h.each x hx
theorem putW_in (p:Int) (v:Nat) (s:List LWd) (n:Int):inB (putW p v s) n=(decide (p=n / 64)&&v.testBit (n % 64).toNat||inB s n):=by
 unfold putW
 split
 ·rename_i h;subst h;simp
 ·rw[inB_cons]
theorem putW_mem {p:Int} {v:Nat} {s:List LWd} {x:LWd} (h:x∈putW p v s):x.pos=p∨x∈s:=by
 unfold putW at h
 split at h
 ·exact .inr h
 ·rcases List.mem_cons.1 h with rfl|h
  ·exact .inl rfl
  ·exact .inr h
def zN (f:Nat→Nat→Nat):List LWd→List LWd→List LWd
 |[],[]=>[]
 |x::a,[]=>putW x.pos (f x.bits 0) (zN f a [])
 |[],y::b=>putW y.pos (f 0 y.bits) (zN f [] b)
 |x::a,y::b=>if x.pos<y.pos then putW x.pos (f x.bits 0) (zN f a (y::b)) else if y.pos<x.pos then putW y.pos (f 0 y.bits) (zN f (x::a) b) else putW x.pos (f x.bits y.bits) (zN f a b)
 termination_by a b=>a.length+b.length
structure Bitw (f:Nat→Nat→Nat) (g:Bool→Bool→Bool):Prop where
 nil:g false false=false
 bit:∀ a b,a<18446744073709551616→b<18446744073709551616→f a b<18446744073709551616∧∀ i,(f a b).testBit i=g (a.testBit i) (b.testBit i)
theorem zu {x:LWd} {a:List LWd} (h:OkW (x::a)):∀ w∈a,x.pos<w.pos:=(List.pairwise_cons.1 h.rise).1
theorem mergeL_is {f:Nat→Nat→Nat} {g:Bool→Bool→Bool} (hf:Bitw f g):∀ {a b:List LWd},OkW a→OkW b→(OkW (zN f a b)∧(∀ n,inB (zN f a b) n=g (inB a n) (inB b n))∧∀ p,(∀ w∈a,p<w.pos)→(∀ w∈b,p<w.pos)→∀ w∈zN f a b,p<w.pos)
 |[],[],_,_=>by
  unfold zN
  exact⟨OkW.nil,fun n=>by show false=g false false;rw[hf.nil],fun p _ _ w hw=>by cases hw⟩
 |x::a,[],ha,hb=>by
  obtain⟨i1,i2,i3⟩:=mergeL_is hf ha.tail hb
  obtain⟨x1,x2,x3,x4⟩:=ha.each x (List.mem_cons_self ..)
  obtain⟨f1,f2⟩:=hf.bit x.bits 0 x4 (by decide)
  unfold zN
  refine⟨putW_ok i1 ⟨x1,x2⟩ f1 (i3 _ (zu ha) (fun w hw=>by cases hw)),fun n=> ?_,fun p h1 h2 w hw=> ?_⟩
  ·rw[putW_in,i2,inB_cons,f2,Nat.zero_testBit]
   by_cases e:x.pos=n / 64
   ·rw[inB_far (s:=a) (fun w hw=>by have:=zu ha w hw;omega),decide_eq_true e,show inB [] n=false from rfl,hf.nil];simp
   ·rw[decide_eq_false e];simp
  ·rcases putW_mem hw with e|hw
   ·rw[e];exact h1 x (List.mem_cons_self ..)
   ·exact i3 p (fun w hw=>h1 w (List.mem_cons_of_mem _ hw)) h2 w hw
 |[],y::b,ha,hb=>by
  obtain⟨i1,i2,i3⟩:=mergeL_is hf ha hb.tail
  obtain⟨x1,x2,x3,x4⟩:=hb.each y (List.mem_cons_self ..)
  obtain⟨f1,f2⟩:=hf.bit 0 y.bits (by decide) x4
  unfold zN
  refine⟨putW_ok i1 ⟨x1,x2⟩ f1 (i3 _ (fun w hw=>by cases hw) (zu hb)),fun n=> ?_,fun p h1 h2 w hw=> ?_⟩
  ·rw[putW_in,i2,inB_cons,f2,Nat.zero_testBit]
   by_cases e:y.pos=n / 64
   ·rw[inB_far (s:=b) (fun w hw=>by have:=zu hb w hw;omega),decide_eq_true e,show inB [] n=false from rfl,hf.nil];simp
   ·rw[decide_eq_false e];simp
  ·rcases putW_mem hw with e|hw
   ·rw[e];exact h2 y (List.mem_cons_self ..)
   ·exact i3 p h1 (fun w hw=>h2 w (List.mem_cons_of_mem _ hw)) w hw
 |x::a,y::b,ha,hb=>by
  obtain⟨x1,x2,x3,x4⟩:=ha.each x (List.mem_cons_self ..)
  obtain⟨y1,y2,y3,y4⟩:=hb.each y (List.mem_cons_self ..)
  unfold zN
  by_cases c1:x.pos<y.pos
  ·rw[if_pos c1]
   obtain⟨i1,i2,i3⟩:=mergeL_is hf ha.tail hb
   obtain⟨f1,f2⟩:=hf.bit x.bits 0 x4 (by decide)
   have hfar:∀ w∈y::b,x.pos<w.pos:=fun w hw=>by
    rcases List.mem_cons.1 hw with rfl|hw
    ·exact c1
    ·have:=zu hb w hw;omega
   refine⟨putW_ok i1 ⟨x1,x2⟩ f1 (i3 _ (zu ha) hfar),fun n=> ?_,fun p h1 h2 w hw=> ?_⟩
   ·rw[putW_in,i2,inB_cons x a,f2,Nat.zero_testBit]
    by_cases e:x.pos=n / 64
    ·rw[inB_far (s:=a) (fun w hw=>by have:=zu ha w hw;omega),inB_far (s:=y::b) (fun w hw=>by have:=hfar w hw;omega),decide_eq_true e,hf.nil];simp
    ·rw[decide_eq_false e];simp
   ·rcases putW_mem hw with e|hw
    ·rw[e];exact h1 x (List.mem_cons_self ..)
    ·exact i3 p (fun w hw=>h1 w (List.mem_cons_of_mem _ hw)) h2 w hw
  ·rw[if_neg c1]
   by_cases c2:y.pos<x.pos
   ·rw[if_pos c2]
    obtain⟨i1,i2,i3⟩:=mergeL_is hf ha hb.tail
    obtain⟨f1,f2⟩:=hf.bit 0 y.bits (by decide) y4
    have hfar:∀ w∈x::a,y.pos<w.pos:=fun w hw=>by
     rcases List.mem_cons.1 hw with rfl|hw
     ·exact c2
     ·have:=zu ha w hw;omega
    refine⟨putW_ok i1 ⟨y1,y2⟩ f1 (i3 _ hfar (zu hb)),fun n=> ?_,fun p h1 h2 w hw=> ?_⟩
    ·rw[putW_in,i2,inB_cons y b,f2,Nat.zero_testBit]
     by_cases e:y.pos=n / 64
     ·rw[inB_far (s:=b) (fun w hw=>by have:=zu hb w hw;omega),inB_far (s:=x::a) (fun w hw=>by have:=hfar w hw;omega),decide_eq_true e,hf.nil];simp
     ·rw[decide_eq_false e];simp
    ·rcases putW_mem hw with e|hw
     ·rw[e];exact h2 y (List.mem_cons_self ..)
     ·exact i3 p h1 (fun w hw=>h2 w (List.mem_cons_of_mem _ hw)) w hw
   ·rw[if_neg c2]
    obtain⟨i1,i2,i3⟩:=mergeL_is hf ha.tail hb.tail
    obtain⟨f1,f2⟩:=hf.bit x.bits y.bits x4 y4
    have e0:x.pos=y.pos:=by omega
    refine⟨putW_ok i1 ⟨x1,x2⟩ f1 (i3 _ (zu ha) (fun w hw=>by have:=zu hb w hw;omega)),fun n=> ?_,fun p h1 h2 w hw=> ?_⟩
    ·rw[putW_in,i2,inB_cons x a,inB_cons y b,f2,←e0]
     by_cases e:x.pos=n / 64
     ·rw[inB_far (s:=a) (fun w hw=>by have:=zu ha w hw;omega),inB_far (s:=b) (fun w hw=>by have:=zu hb w hw;omega),decide_eq_true e,hf.nil];simp
     ·rw[decide_eq_false e];simp
    ·rcases putW_mem hw with e|hw
     ·rw[e];exact h1 x (List.mem_cons_self ..)
     ·exact i3 p (fun w hw=>h1 w (List.mem_cons_of_mem _ hw)) (fun w hw=>h2 w (List.mem_cons_of_mem _ hw)) w hw
 termination_by a b=>a.length+b.length
end Go.Proofs.YtejjibilgmlhdaaDoor
namespace Go.Proofs.YtejjibilgmlhdaaDoor
open Go.Am
set_option linter.unusedVariables false
set_option linter.unusedSimpArgs false
theorem set_bit {b k:Nat} (hk:k<64) (hb:b<18446744073709551616):b|||2 ^ k<18446744073709551616∧∀ i,(b|||2 ^ k).testBit i=(b.testBit i||decide (k=i)):=by
 have h:2 ^ k<2 ^ 64:=Nat.pow_lt_pow_right (by decide) hk
 refine⟨Nat.or_lt_two_pow (n:=64) hb h,fun i=> ?_⟩
 rw[Nat.testBit_or,Nat.testBit_two_pow]
structure Upto (s:List LWd) (xs:List Int):Prop where
 ok:OkW s
 mem:∀ n,InW s n↔n∈xs
theorem okW_snoc {s:List LWd} {w:LWd} (h:OkW s) (h1:0≤w.pos∧w.pos<16384) (h2:w.bits≠0) (h3:w.bits<18446744073709551616) (hs:∀ x∈s,x.pos<w.pos):OkW (s++[w]):=
 ⟨List.pairwise_append.2 ⟨h.rise,List.pairwise_singleton ..,fun x hx y hy=>by rw[List.mem_singleton]at hy;subst hy;exact hs x hx⟩,fun x hx=>by
  rcases List.mem_append.1 hx with hx|hx
  ·exact h.each x hx
  ·rw[List.mem_singleton]at hx;subst hx;exact⟨h1.1,h1.2,h2,h3⟩⟩
theorem inW_snoc {s:List LWd} {w:LWd} {n:Int}:InW (s++[w]) n↔InW s n∨(w.pos=n / 64∧w.bits.testBit (n % 64).toNat=true):=by
 unfold InW
 constructor
 ·rintro⟨x,hx,e⟩
  rcases List.mem_append.1 hx with hx|hx
  ·exact .inl ⟨x,hx,e⟩
  ·rw[List.mem_singleton]at hx;subst hx;exact .inr e
 ·rintro(⟨x,hx,e⟩|e)
  ·exact⟨x,List.mem_append_left _ hx,e⟩
  ·exact⟨w,by simp,e⟩
theorem Upto.old {s:List LWd} {w:LWd} {xs:List Int} {n:Int} (u:Upto (s++[w]) xs) (hn:0≤n∧n<1048576) (hw:w.pos=n / 64):Upto (s++[⟨w.pos,w.bits|||2 ^ (n % 64).toNat⟩]) (xs++[n]):=by
 obtain⟨w1,w2,w3,w4⟩:=u.ok.each w (by simp)
 obtain⟨s1,s2⟩:=set_bit (k:=(n % 64).toNat) (by omega) w4
 obtain⟨p1,p2,p3⟩:=List.pairwise_append.1 u.ok.rise
 have hne:w.bits|||2 ^ (n % 64).toNat≠0:=fun e=>by
  have:=s2 (n % 64).toNat;rw[e,Nat.zero_testBit]at this;simp at this
 refine⟨okW_snoc ⟨p1,fun x hx=>u.ok.each x (List.mem_append_left _ hx)⟩ ⟨w1,w2⟩ hne s1 (fun x hx=>p3 x hx w (by simp)),fun m=> ?_⟩
 have:=u.mem m
 rw[inW_snoc]at this
 rw[inW_snoc,s2,Bool.or_eq_true,decide_eq_true_iff,List.mem_append,List.mem_singleton,←this]
 constructor
 ·rintro(h|⟨e,h|h⟩)
  ·exact .inl (.inl h)
  ·exact .inl (.inr ⟨e,h⟩)
  ·exact .inr (by simp only at e;omega)
 ·rintro((h|⟨e,h⟩)|e)
  ·exact .inl h
  ·exact .inr ⟨e,.inl h⟩
  ·subst e;exact .inr ⟨hw,.inr rfl⟩
end Go.Proofs.YtejjibilgmlhdaaDoor
namespace Go.Proofs.YtejjibilgmlhdaaDoor
open Go.Am
set_option linter.unusedVariables false
set_option linter.unusedSimpArgs false
set_option maxHeartbeats 4000000
noncomputable def tb:Tab:=⟨cFunc Tryd.prog,fun f=>if f=19 then some (known [(0,tzV)] (.bool true)) else none⟩
theorem nostub (f:Nat) (hf:Nat.beq f 19=false:=by rfl):tb.stub f=none:=if_neg (Nat.ne_of_beq_eq_false hf)
theorem alive_ok (h:AHeap) (ht:zb h 0=some tzV):WC Tryd.prog tb 19 [] h fun r h'=>r= .bool true∧h=h':=by
 refine WC.stub (s:=known [(0,tzV)] (.bool true)) (by show (if 19=19 then some (known [(0,tzV)] (.bool true)) else none)=_;exact if_pos rfl) (v:= .bool true) (h':=h) ?_ ⟨rfl,rfl⟩
 have hl:laidIn h [(0,tzV)]=true:=by
  unfold zb at ht
  unfold laidIn
  simp only[List.all_cons,List.all_nil,Bool.and_true]
  split at ht
  ·rename_i c o lo hg
   cases ht
   rw[hg]
   show sameCells tzV tzV=true
   kernel_rfl
  ·cases ht
 unfold known
 rw[hl];rfl
end Go.Proofs.YtejjibilgmlhdaaDoor
namespace Go.Proofs.YtejjibilgmlhdaaDoor
open Go.Am
set_option linter.unusedVariables false
set_option linter.unusedSimpArgs false
set_option maxHeartbeats 400000
end Go.Proofs.YtejjibilgmlhdaaDoor
namespace Go.Proofs.YtejjibilgmlhdaaDoor
open Go.Am
set_option linter.unusedVariables false
set_option linter.unusedSimpArgs false
set_option maxHeartbeats 400000
end Go.Proofs.YtejjibilgmlhdaaDoor
namespace Go.Proofs.YtejjibilgmlhdaaDoor
open Go.Am
set_option linter.unusedVariables false
set_option linter.unusedSimpArgs false
set_option maxHeartbeats 400000
def Edge (lo hi k c:Int):Prop:=lo≤k∧(c=2 * k+1∨c=2 * k+2)∧c<hi
end Go.Proofs.YtejjibilgmlhdaaDoor
namespace Go.Proofs.YtejjibilgmlhdaaDoor
open Go.Am
set_option linter.unusedVariables false
set_option linter.unusedSimpArgs false
set_option maxHeartbeats 400000
end Go.Proofs.YtejjibilgmlhdaaDoor
namespace Go.Proofs.YtejjibilgmlhdaaDoor
open Go.Am
set_option linter.unusedVariables false
set_option linter.unusedSimpArgs false
set_option maxHeartbeats 1000000
end Go.Proofs.YtejjibilgmlhdaaDoor
namespace Go.Proofs.YtejjibilgmlhdaaDoor
open Go.Am
set_option linter.unusedVariables false
set_option linter.unusedSimpArgs false
set_option maxHeartbeats 1000000
def RW (h:AHeap) (cs:List Value) (w:LWd):Prop:=cs=[I w.pos,W w.bits]∧w.bits<18446744073709551616∧ -9223372036854775808≤w.pos∧w.pos≤9223372036854775807
abbrev SlW (h:AHeap) (v:Value) (s:List LWd):Prop:=SlR 2 RW h v s
theorem SlW.ext {h h' v s} (k:SlW h v s) (e:Ext h h'):SlW h' v s:=SlR.ext (h:=h) (h':=h') (R:=RW) (fun cs a r=>r) k e
theorem SlW.bd {h v s} (k:SlW h v s):BdW s:=fun w hw=>by
 obtain⟨i,hi,e⟩:=List.mem_iff_getElem.1 hw
 obtain⟨cs,⟨_,h2,_⟩,_⟩:=k.at hi
 rw[←e];exact h2
noncomputable def body29:ACode:=(.seq (.region [⟨some 2,none,(.mov (.const (.bool false)))⟩]) (.seq (.region [⟨some 3,none,(.mov (.tmp 0))⟩,⟨some 4,none,(.bin .geq (.tmp 3) (.const (.int .i64 0)))⟩,⟨some 5,none,(.mov (.tmp 4))⟩,⟨some 6,some (5,true),(.mov (.tmp 0))⟩,⟨some 7,some (5,true),(.bin .lss (.tmp 6) (.const (.int .i64 1048576)))⟩,⟨some 8,none,(.pick (.tmp 5) (.tmp 7) (.const (.bool false)))⟩,⟨some 2,none,(.mov (.tmp 8))⟩]) .ret))
set_option maxRecDepth 100000 in
theorem tab29:tb.code 29=some ⟨9,[(2,none)],body29⟩:=by kernel_rfl
theorem within_ok (h:AHeap) (n:Int):WC Tryd.prog tb 29 [I n] h fun r h'=>r= .bool (decide (0≤n)&&decide (n<1048576))∧h=h':=by
 refine WC.of (nostub 29) tab29 ?_;simp only[mkTm,Nat.zero_add,Nat.reduceAdd]
 refine go ?_
 refine go ?_
 repeat' (first|(refine WX.br (fun hb=> ?_) (fun hb=> ?_)<;>(try simp only[DB]at hb)<;>refine go ?_)|(refine WO.sp (fun hb=> ?_) (fun hb=> ?_)<;>(try simp only[DB]at hb)<;>refine go ?_))<;>refine rt ?_<;>exact⟨by simp[one, *]<;>omega,rfl⟩
noncomputable def body36:ACode:=(.seq (.region [⟨some 4,none,(.mov (.const (.int .u64 0)))⟩]) (.seq (.region [⟨some 5,none,(.mov (.tmp 0))⟩,⟨some 6,none,(.mov (.tmp 1))⟩,⟨some 7,none,(.bin .or (.tmp 5) (.tmp 6))⟩,⟨some 4,none,(.mov (.tmp 7))⟩]) .ret))
set_option maxRecDepth 100000 in
theorem tab36:tb.code 36=some ⟨8,[(4,none)],body36⟩:=by kernel_rfl
theorem or1_ok (h:AHeap) (a b:Nat) (ha:a<18446744073709551616) (hb:b<18446744073709551616):WC Tryd.prog tb 36 [W a,W b] h fun r h'=>r=W (a|||b)∧h=h':=by
 refine WC.of (nostub 36) tab36 ?_;simp only[mkTm,Nat.zero_add,Nat.reduceAdd]
 refine go ?_
 refine WO.bin ope_ ope_ (u_or ha hb).1 ?_
 refine go ?_
 refine rt ?_
 exact⟨rfl,rfl⟩
noncomputable def body37:ACode:=(.seq (.region [⟨some 4,none,(.mov (.const (.int .u64 0)))⟩]) (.seq (.region [⟨some 5,none,(.mov (.tmp 0))⟩,⟨some 6,none,(.mov (.tmp 1))⟩,⟨some 7,none,(.bin .and (.tmp 5) (.tmp 6))⟩,⟨some 4,none,(.mov (.tmp 7))⟩]) .ret))
set_option maxRecDepth 100000 in
theorem tab37:tb.code 37=some ⟨8,[(4,none)],body37⟩:=by kernel_rfl
theorem and1_ok (h:AHeap) (a b:Nat) (ha:a<18446744073709551616) (hb:b<18446744073709551616):WC Tryd.prog tb 37 [W a,W b] h fun r h'=>r=W (a&&& b)∧h=h':=by
 refine WC.of (nostub 37) tab37 ?_;simp only[mkTm,Nat.zero_add,Nat.reduceAdd]
 refine go ?_
 refine WO.bin ope_ ope_ (u_and ha hb) ?_
 refine go ?_
 refine rt ?_
 exact⟨rfl,rfl⟩
noncomputable def body38:ACode:=(.seq (.region [⟨some 4,none,(.mov (.const (.int .u64 0)))⟩]) (.seq (.region [⟨some 5,none,(.mov (.tmp 0))⟩,⟨some 6,none,(.mov (.tmp 1))⟩,⟨some 7,none,(.bin .andNot (.tmp 5) (.tmp 6))⟩,⟨some 4,none,(.mov (.tmp 7))⟩]) .ret))
set_option maxRecDepth 100000 in
theorem tab38:tb.code 38=some ⟨8,[(4,none)],body38⟩:=by kernel_rfl
theorem minus1_ok (h:AHeap) (a b:Nat) (ha:a<18446744073709551616) (hb:b<18446744073709551616):WC Tryd.prog tb 38 [W a,W b] h fun r h'=>r=W (notN a b)∧h=h':=by
 refine WC.of (nostub 38) tab38 ?_;simp only[mkTm,Nat.zero_add,Nat.reduceAdd]
 refine go ?_
 refine WO.bin ope_ ope_ (u_notN ha hb).1 ?_
 refine go ?_
 refine rt ?_
 exact⟨rfl,rfl⟩
section
variable {P:Program} {tab:Tab} {t:Trie Value} {h:AHeap} {ds:List Deferred} {rd:Option Nat} {l:List AOper} {Q:AFr→AHeap→Prop}
end
def TzT (h:AHeap):Prop:=zb h 0=some tzV∧0<h.n
theorem TzT.ext {h h'} (t:TzT h) (e:Ext h h'):TzT h':=⟨e.row t.2 t.1,Nat.lt_of_lt_of_le t.2 e.n⟩
end Go.Proofs.YtejjibilgmlhdaaDoor
namespace Go.Proofs.YtejjibilgmlhdaaDoor
open Go.Am
set_option linter.unusedVariables false
set_option linter.unusedSimpArgs false
set_option maxHeartbeats 1000000
theorem drop_cons {s:List LWd} {i:Nat} (h:i<s.length):s.drop i=s.getD i default::s.drop (i+1):=by
 rw[List.drop_eq_getElem_cons h,List.getD_eq_getElem?_getD,List.getElem?_eq_getElem h];rfl
theorem wd_at {h:AHeap} {v:Value} {s:List LWd} {i:Nat} (k:SlW h v s) (hi:i<s.length):∃ cs,RW h cs (s.getD i default)∧Piece h v (i * 2) cs∧IsSl v:=by
 obtain⟨cs,a,_,c⟩:=k.at hi
 exact⟨cs,by rw[List.getD_eq_getElem?_getD,List.getElem?_eq_getElem hi];exact a,c,k.some hi⟩
def errW (b:Bool):Int:=if b then 0 else 8
theorem checkW_bad {last:Int} {w:LWd} {l:List LWd} (h:w.pos≤last∨16384≤w.pos∨(w.bits:Int)=0):zQ last (w::l)=false:=by
 unfold zQ
 rcases h with h|h|h
 ·rw[decide_eq_false (show ¬last<w.pos by omega)];rfl
 ·rw[decide_eq_false (show ¬w.pos<16384 by omega),Bool.and_false];rfl
 ·rw[decide_eq_false (show ¬w.bits≠0 by omega),Bool.and_false];rfl
theorem checkW_good {last:Int} {w:LWd} {l:List LWd} (h1:last<w.pos) (h2:w.pos<16384) (h3:w.bits≠0):zQ last (w::l)=zQ w.pos l:=by
 rw[zQ,decide_eq_true h1,decide_eq_true h2,decide_eq_true h3];rfl
noncomputable def body15_0:ACode:=(.seq (.region [⟨some 9,none,(.bin .lss (.tmp 8) (.tmp 7))⟩]) (.seq (.cond (.tmp 9) .skip (.exit 0)) (.seq (.block 1 (.seq (.region [⟨some 10,none,(.idx 2 (.tmp 6) (.tmp 8))⟩,⟨some 11,none,(.load true 2 (.tmp 10))⟩,⟨some 5,none,(.alloc [(.int .i64 0),(.int .u64 0)])⟩,⟨none,none,(.store 2 (.tmp 5) (.tmp 11))⟩]) (.seq (.seq (.region [⟨some 12,none,(.fld 0 (.tmp 5))⟩,⟨some 13,none,(.load false 1 (.tmp 12))⟩,⟨some 14,none,(.mov (.tmp 3))⟩,⟨some 15,none,(.bin .leq (.tmp 13) (.tmp 14))⟩,⟨some 16,none,(.mov (.tmp 15))⟩,⟨some 17,some (16,false),(.fld 0 (.tmp 5))⟩,⟨some 18,some (16,false),(.load false 1 (.tmp 17))⟩,⟨some 19,some (16,false),(.bin .geq (.tmp 18) (.const (.int .i64 16384)))⟩,⟨some 20,none,(.pick (.tmp 16) (.const (.bool true)) (.tmp 19))⟩,⟨some 21,none,(.mov (.tmp 20))⟩,⟨some 22,some (21,false),(.fld 1 (.tmp 5))⟩,⟨some 23,some (21,false),(.load false 1 (.tmp 22))⟩,⟨some 24,some (21,false),(.bin .eql (.tmp 23) (.const (.int .u64 0)))⟩,⟨some 25,none,(.pick (.tmp 21) (.const (.bool true)) (.tmp 24))⟩]) (.cond (.tmp 25) (.seq (.region [⟨some 2,none,(.mov (.const (.int .i64 8)))⟩]) .ret) .skip)) (.region [⟨some 26,none,(.fld 0 (.tmp 5))⟩,⟨some 27,none,(.load false 1 (.tmp 26))⟩,⟨some 3,none,(.mov (.tmp 27))⟩])))) (.region [⟨some 28,none,(.bin .add (.tmp 8) (.const (.int .i64 1)))⟩,⟨some 8,none,(.mov (.tmp 28))⟩]))))
noncomputable def body15:ACode:=(.seq (.region [⟨some 2,none,(.mov (.const (.int .i64 0)))⟩]) (.seq (.region [⟨some 3,none,(.mov (.const (.int .i64 (-1))))⟩]) (.seq (.seq (.region [⟨some 6,none,(.mov (.tmp 0))⟩,⟨some 7,none,(.len (.tmp 6))⟩,⟨some 8,none,(.mov (.const (.int .i64 0)))⟩]) (.block 0 (.loop body15_0))) (.seq (.region [⟨some 2,none,(.mov (.const (.int .i64 0)))⟩]) .ret))))
set_option maxRecDepth 100000 in
theorem tab15:tb.code 15=some ⟨29,[(2,none)],body15⟩:=by kernel_rfl
theorem check_ok (h:AHeap) (v:Value) (s:List LWd) (k:SlW h v s) (hl:(s.length:Int)≤1000000000):
  WC Tryd.prog tb 15 [v] h fun r h'=>r=I (errW (zQ (-1) s))∧Ext h h':=by
 refine WC.of (nostub 15) tab15 ?_;simp only[mkTm,Nat.zero_add,Nat.reduceAdd]
 refine go ?_
 refine WX.loopA [9,10,11,5,12,13,14,15,16,17,18,19,20,21,22,23,24,25,2,26,27,3,28,8] (by kernel_rfl) (fun i=>s.length - i) (fun i t h1=>Ext h h1∧zC t 8=I i∧i≤s.length∧∃ last:Int,zC t 3=I last∧Hid (zQ (-1) s=zQ last (s.drop i))) 0 ?_ ?_
 ·exact⟨Ext.refl _,sl_,Nat.zero_le _,-1,sl_,⟨rfl⟩⟩
 rintro i t h1 hsame ⟨e1,s8,hi,last,s3,hc⟩
 have k1:=SlW.ext k e1
 refine go ?_
 refine WX.br (fun hb=> ?_) (fun hb=> ?_)<;>simp only[DB]at hb
 ·have hi':i<s.length:=by omega
  obtain⟨cs,⟨rfl,w1,w2,w3⟩,pc,hs⟩:=wd_at k1 hi'
  have hd:=hc.out
  rw[drop_cons hi']at hd
  generalize s.getD i default=w at *
  have hd:=Hid.mk hd
  refine go ?_
  refine WO.al ?_
  intro p h2 e2 o2
  refine go ?_
  refine WO.stC0 (cs:=[I w.pos,W w.bits]) o2 e2 ?_
  intro h3 e3 o3 u3
  refine go ?_
  refine go ?_
  repeat' (first|(refine WX.br (fun hb=> ?_) (fun hb=> ?_)<;>(try simp only[DB]at hb)<;>refine go ?_)|(refine WO.sp (fun hb=> ?_) (fun hb=> ?_)<;>(try simp only[DB]at hb)<;>refine go ?_))
  ·refine rt ?_
   exact⟨by rw[hd.out,checkW_bad (.inl hb)];rfl,e1.trans e3⟩
  ·refine rt ?_
   exact⟨by rw[hd.out,checkW_bad (.inr (.inl hb))];rfl,e1.trans e3⟩
  ·refine rt ?_
   exact⟨by rw[hd.out,checkW_bad (.inr (.inr hb))];rfl,e1.trans e3⟩
  ·refine zx (i+1) (by omega) ⟨e1.trans e3,sln,by omega,w.pos,sl_,⟨?_⟩⟩
   rw[hd.out];exact checkW_good (by omega) (by omega) (by omega)
 ·refine go ?_
  refine rt ?_
  have:=hc.out
  rw[show i=s.length by omega,List.drop_length]at this
  exact⟨by rw[this];rfl,e1⟩
end Go.Proofs.YtejjibilgmlhdaaDoor
namespace Go.Proofs.YtejjibilgmlhdaaDoor
open Go.Am
set_option linter.unusedVariables false
set_option linter.unusedSimpArgs false
set_option maxHeartbeats 1000000
end Go.Proofs.YtejjibilgmlhdaaDoor
namespace Go.Proofs.YtejjibilgmlhdaaDoor
open Go.Am
set_option linter.unusedVariables false
set_option linter.unusedSimpArgs false
set_option maxHeartbeats 1000000
theorem b_quo {n:Int} (h0:0≤n) (h1:n<9223372036854775808):ze .quo (I n) (I 64)=some (I (n / 64)):=by
 simp only[ze,I,if_true];rw[if_neg (by decide),Int.tdiv_eq_ediv_of_nonneg h0,wrap64 (by omega) (by omega)]
theorem b_rem {n:Int} (h0:0≤n):ze .rem (I n) (I 64)=some (I (n % 64)):=by
 simp only[ze,I,if_true];rw[if_neg (by decide),Int.tmod_eq_emod_of_nonneg h0]
noncomputable def body31:ACode:=(.seq (.region [⟨some 2,none,(.box (.tmp 0))⟩,⟨some 4,none,(.mov (.const (.int .i64 0)))⟩]) (.seq (.region [⟨some 5,none,(.fld 0 (.tmp 2))⟩,⟨some 6,none,(.load false 1 (.tmp 5))⟩,⟨some 7,none,(.mov (.tmp 1))⟩,⟨some 8,none,(.bin .sub (.tmp 6) (.tmp 7))⟩,⟨some 4,none,(.mov (.tmp 8))⟩]) .ret))
set_option maxRecDepth 100000 in
theorem tab31:tb.code 31=some ⟨9,[(4,none)],body31⟩:=by kernel_rfl
theorem has1_ok (h:AHeap) (w:LWd) (at':Int) (hw:0≤w.pos∧w.pos<16384) (ha:0≤at'∧at'<16384):WC Tryd.prog tb 31 [.agg #[I w.pos,W w.bits],I at'] h fun r h'=>r=I (w.pos - at')∧Ext h h':=by
 refine WC.of (nostub 31) tab31 ?_;simp only[mkTm,Nat.zero_add,Nat.reduceAdd]
 refine go ?_
 refine WO.bx ?_
 intro p h1 e1 o1
 refine go ?_
 refine rt ?_
 exact⟨rfl,e1⟩
noncomputable def body30_0:ACode:=(.seq (.seq (.region [⟨some 15,none,(.mov (.tmp 9))⟩,⟨some 16,none,(.mov (.tmp 10))⟩,⟨some 17,none,(.bin .lss (.tmp 15) (.tmp 16))⟩]) (.cond (.tmp 17) .skip (.exit 0))) (.block 1 (.seq (.region [⟨some 18,none,(.mov (.tmp 9))⟩,⟨some 19,none,(.mov (.tmp 10))⟩,⟨some 20,none,(.bin .add (.tmp 18) (.tmp 19))⟩,⟨some 21,none,(.conv .u64 (.tmp 20))⟩,⟨some 22,none,(.bin .shr (.tmp 21) (.const (.int .u64 1)))⟩,⟨some 23,none,(.conv .i64 (.tmp 22))⟩,⟨some 11,none,(.mov (.tmp 23))⟩]) (.seq (.region [⟨some 24,none,(.mov (.tmp 2))⟩,⟨some 25,none,(.mov (.tmp 0))⟩,⟨some 26,none,(.mov (.tmp 11))⟩,⟨some 27,none,(.idx 2 (.tmp 25) (.tmp 26))⟩,⟨some 28,none,(.load true 2 (.tmp 27))⟩,⟨some 29,none,(.mov (.tmp 1))⟩,⟨some 30,none,(.call (.tmp 24) [(.tmp 28),(.tmp 29)])⟩,⟨some 31,none,(.bin .lss (.tmp 30) (.const (.int .i64 0)))⟩]) (.cond (.tmp 31) (.region [⟨some 32,none,(.mov (.tmp 11))⟩,⟨some 33,none,(.bin .add (.tmp 32) (.const (.int .i64 1)))⟩,⟨some 9,none,(.mov (.tmp 33))⟩]) (.region [⟨some 34,none,(.mov (.tmp 11))⟩,⟨some 10,none,(.mov (.tmp 34))⟩]))))))
noncomputable def body30:ACode:=(.seq (.region [⟨some 6,none,(.mov (.const (.int .i64 0)))⟩,⟨some 7,none,(.mov (.const (.bool false)))⟩]) (.seq (.region [⟨some 12,none,(.mov (.tmp 0))⟩,⟨some 13,none,(.len (.tmp 12))⟩,⟨some 8,none,(.mov (.tmp 13))⟩]) (.seq (.region [⟨some 14,none,(.mov (.tmp 8))⟩,⟨some 9,none,(.mov (.const (.int .i64 0)))⟩,⟨some 10,none,(.mov (.tmp 14))⟩]) (.seq (.block 0 (.loop body30_0)) (.seq (.region [⟨some 35,none,(.mov (.tmp 9))⟩,⟨some 36,none,(.mov (.tmp 9))⟩,⟨some 37,none,(.mov (.tmp 8))⟩,⟨some 38,none,(.bin .lss (.tmp 36) (.tmp 37))⟩,⟨some 39,none,(.mov (.tmp 38))⟩,⟨some 40,some (39,true),(.mov (.tmp 2))⟩,⟨some 41,some (39,true),(.mov (.tmp 0))⟩,⟨some 42,some (39,true),(.mov (.tmp 9))⟩,⟨some 43,some (39,true),(.idx 2 (.tmp 41) (.tmp 42))⟩,⟨some 44,some (39,true),(.load true 2 (.tmp 43))⟩,⟨some 45,some (39,true),(.mov (.tmp 1))⟩,⟨some 46,some (39,true),(.call (.tmp 40) [(.tmp 44),(.tmp 45)])⟩,⟨some 47,some (39,true),(.bin .eql (.tmp 46) (.const (.int .i64 0)))⟩,⟨some 48,none,(.pick (.tmp 39) (.tmp 47) (.const (.bool false)))⟩,⟨some 6,none,(.mov (.tmp 35))⟩,⟨some 7,none,(.mov (.tmp 48))⟩]) .ret)))))
set_option maxRecDepth 100000 in
theorem tab30:tb.code 30=some ⟨49,[(6,none),(7,none)],body30⟩:=by kernel_rfl
theorem bsf_ok (h:AHeap) (v:Value) (s:List LWd) (at':Int) (k:SlW h v s) (ok:OkW s) (hl:(s.length:Int)≤1000000000) (ha:0≤at'∧at'<16384):
  WC Tryd.prog tb 30 [v,I at',.func (.func 31) #[] #[]] h fun r h'=>(∃ (i:Nat) (b:Bool),r= .tuple #[I i,.bool b]∧(b=true→i<s.length∧(s.getD i default).pos=at')∧(b=false→∀ w∈s,w.pos≠at'))∧Ext h h':=by
 refine WC.of (nostub 30) tab30 ?_;simp only[mkTm,Nat.zero_add,Nat.reduceAdd]
 have hmem:∀ {i:Nat},i<s.length→s.getD i default∈s:=fun hi=>by
  rw[List.getD_eq_getElem?_getD,List.getElem?_eq_getElem hi];exact List.getElem_mem hi
 have hr:∀ {i j:Nat},i<j→j<s.length→(s.getD i default).pos<(s.getD j default).pos:=fun hij hj=>by
  rw[List.getD_eq_getElem?_getD,List.getD_eq_getElem?_getD,List.getElem?_eq_getElem hj,List.getElem?_eq_getElem (Nat.lt_trans hij hj)]
  exact List.pairwise_iff_getElem.1 ok.rise _ _ _ _ hij
 refine go ?_
 refine WX.loopA [15,16,17,18,19,20,21,22,23,11,24,25,26,27,28,29,30,31,32,33,9,34,10] (by kernel_rfl) (fun p:Nat×Nat=>p.2 - p.1) (fun p t h1=>Ext h h1∧zC t 9=I p.1∧zC t 10=I p.2∧p.1≤p.2∧p.2≤s.length∧Hid ((∀ i,i<p.1→(s.getD i default).pos<at')∧(∀ i,p.2≤i→i<s.length→at'≤(s.getD i default).pos))) (0,s.length) ?_ ?_
 ·exact⟨Ext.refl _,sl_,sl_,Nat.zero_le _,Nat.le_refl _,⟨fun i hi=>absurd hi (Nat.not_lt_zero _),fun i h1 h2=>absurd h2 (Nat.not_lt.2 h1)⟩⟩
 rintro⟨a,b⟩ t h1 hsame ⟨e1,s9,s10,hab,hbl,hI⟩
 simp only at s9 s10 hab hbl hI
 have k1:=SlW.ext k e1
 refine go ?_
 refine WX.br (fun hc=> ?_) (fun hc=> ?_)<;>simp only[DB]at hc
 ·have hsh:ze .shr (.int .u64 (IntKind.wrap .u64 ((a:Int)+b))) (.int .u64 1)=some (W ((a+b) / 2)):=by
   rw[wrapMod,show ((a:Int)+b) % 18446744073709551616=((a+b:Nat):Int) by omega]
   exact u_shrW (a:=a+b) (k:=1) (by decide)
  have hm:(a+b) / 2<s.length:=by omega
  have hm1:a≤(a+b) / 2:=by omega
  have hm2:(a+b) / 2<b:=by omega
  obtain⟨cs,⟨rfl,w1,w2,w3⟩,pc,hs⟩:=wd_at k1 hm
  refine go ?_
  refine WO.bin ope_ rfl hsh ?_
  clear hsh
  generalize hmm:(a+b) / 2=m at hm hm1 hm2 pc w1 w2 w3 ⊢
  have hp:=ok.each _ (hmem hm)
  refine go ?_
  refine WO.conV (WV.func (has1_ok h1 (s.getD m default) at' ⟨hp.1,hp.2.1⟩ ha)) ?_
  rintro _ h2 ⟨rfl,e2⟩
  refine go ?_
  repeat' (first|(refine WX.br (fun hb=> ?_) (fun hb=> ?_)<;>(try simp only[DB]at hb)<;>refine go ?_)|(refine WO.sp (fun hb=> ?_) (fun hb=> ?_)<;>(try simp only[DB]at hb)<;>refine go ?_))
  ·refine zx (m+1,b) (by simp only;omega) ⟨e1.trans e2,sln,sl_,hm2,hbl,⟨fun i hi=> ?_,hI.out.2⟩⟩
   by_cases e:i=m
   ·subst e;omega
   ·have:=hr (i:=i) (j:=m) (by simp only at hi;omega) hm;omega
  ·refine zx (a,m) (by simp only;omega) ⟨e1.trans e2,sl_,sl_,hm1,by simp only;omega,⟨hI.out.1,fun i h1 h2=> ?_⟩⟩
   by_cases e:i=m
   ·subst e;omega
   ·have:=hr (i:=m) (j:=i) (by simp only at h1;omega) h2;omega
 ·have hab2:a=b:=by omega
  subst hab2
  refine go ?_
  by_cases hlt:a<s.length
  ·obtain⟨cs,⟨rfl,w1,w2,w3⟩,pc,hs⟩:=wd_at k1 hlt
   have hp:=ok.each _ (hmem hlt)
   refine go ?_
   refine WO.conV (WV.func (has1_ok h1 (s.getD a default) at' ⟨hp.1,hp.2.1⟩ ha)) ?_
   rintro _ h2 ⟨rfl,e2⟩
   refine go ?_
   refine rt ?_
   refine⟨⟨a,_,rfl,fun hd=>⟨hlt,?_⟩,fun hd w hw e=> ?_⟩,e1.trans e2⟩
   ·have:=of_decide_eq_true hd;omega
   ·have:=of_decide_eq_false hd
    obtain⟨i,hi,e2⟩:=List.getElem_of_mem hw
    have e3:s.getD i default=w:=by rw[List.getD_eq_getElem?_getD,List.getElem?_eq_getElem hi];exact e2
    by_cases h1:i<a
    ·have:=hI.out.1 i h1;rw[e3]at this;omega
    ·by_cases h2:i=a
     ·subst h2;rw[e3]at this;omega
     ·have h3:=hr (i:=a) (j:=i) (by omega) hi
      have h4:=hI.out.2 a (Nat.le_refl _) hlt
      rw[e3]at h3;omega
  ·refine go ?_
   refine rt ?_
   refine⟨⟨a,false,rfl,(fun hd=>by cases hd),fun hd w hw e=> ?_⟩,e1⟩
   obtain⟨i,hi,e2⟩:=List.getElem_of_mem hw
   have e3:s.getD i default=w:=by rw[List.getD_eq_getElem?_getD,List.getElem?_eq_getElem hi];exact e2
   have:=hI.out.1 i (by omega);rw[e3]at this;omega
theorem has_word {s:List LWd} {i:Nat} {n:Int} (ok:OkW s) (hi:i<s.length) (hp:(s.getD i default).pos=n / 64):inB s n=(s.getD i default).bits.testBit (n % 64).toNat:=by
 have hm:s.getD i default∈s:=by rw[List.getD_eq_getElem?_getD,List.getElem?_eq_getElem hi];exact List.getElem_mem hi
 cases hb:(s.getD i default).bits.testBit (n % 64).toNat with
 |true=>exact inB_iff.2 ⟨_,hm,hp,hb⟩
 |false=>
  refine inB_false fun ⟨w,hw,e,hb2⟩=> ?_
  have:w=s.getD i default:=by
   obtain⟨j,hj,ej⟩:=List.getElem_of_mem hw
   by_cases h1:j=i
   ·subst h1;rw[←ej,List.getD_eq_getElem?_getD,List.getElem?_eq_getElem hj];rfl
   ·exfalso
    rw[List.getD_eq_getElem?_getD,List.getElem?_eq_getElem hi]at hp
    have hp:s[i].pos=n / 64:=hp
    rcases Nat.lt_or_gt_of_ne h1 with h|h
    ·have:=List.pairwise_iff_getElem.1 ok.rise _ _ hj hi h;rw[ej]at this;omega
    ·have:=List.pairwise_iff_getElem.1 ok.rise _ _ hi hj h;rw[ej]at this;omega
  rw[this,hb]at hb2;cases hb2
def hasE (s:List LWd) (n:Int):Int:=if zQ (-1) s=true then (if 0≤n∧n<1048576 then 0 else 2) else 8
def hasB (s:List LWd) (n:Int):Bool:=zQ (-1) s&&decide (0≤n∧n<1048576)&&inB s n
noncomputable def body10:ACode:=(.seq (.region [⟨some 4,none,(.mov (.const (.bool false)))⟩,⟨some 5,none,(.mov (.const (.int .i64 0)))⟩]) (.seq (.seq (.region [⟨some 9,none,(.mov (.tmp 0))⟩,⟨some 10,none,(.call (.func 15) [(.tmp 9)])⟩,⟨some 6,none,(.mov (.tmp 10))⟩]) (.seq (.region [⟨some 11,none,(.mov (.tmp 6))⟩,⟨some 12,none,(.bin .neq (.tmp 11) (.const (.int .i64 0)))⟩]) (.cond (.tmp 12) (.seq (.region [⟨some 13,none,(.mov (.tmp 6))⟩,⟨some 4,none,(.mov (.const (.bool false)))⟩,⟨some 5,none,(.mov (.tmp 13))⟩]) .ret) .skip))) (.seq (.seq (.region [⟨some 14,none,(.mov (.tmp 1))⟩,⟨some 15,none,(.call (.func 29) [(.tmp 14)])⟩,⟨some 16,none,(.un .not (.tmp 15))⟩]) (.cond (.tmp 16) (.seq (.region [⟨some 4,none,(.mov (.const (.bool false)))⟩,⟨some 5,none,(.mov (.const (.int .i64 2)))⟩]) .ret) .skip)) (.seq (.region [⟨some 18,none,(.mov (.tmp 0))⟩,⟨some 19,none,(.mov (.tmp 1))⟩,⟨some 20,none,(.bin .quo (.tmp 19) (.const (.int .i64 64)))⟩,⟨some 21,none,(.call (.func 30) [(.tmp 18),(.tmp 20),(.func 31)])⟩,⟨some 17,none,(.mov (.tmp 21))⟩,⟨some 22,none,(.extract (.tmp 17) 0)⟩,⟨some 23,none,(.extract (.tmp 17) 1)⟩,⟨some 7,none,(.mov (.tmp 22))⟩,⟨some 8,none,(.mov (.tmp 23))⟩]) (.seq (.region [⟨some 24,none,(.mov (.tmp 8))⟩,⟨some 25,none,(.mov (.tmp 24))⟩,⟨some 26,some (25,true),(.mov (.tmp 0))⟩,⟨some 27,some (25,true),(.mov (.tmp 7))⟩,⟨some 28,some (25,true),(.idx 2 (.tmp 26) (.tmp 27))⟩,⟨some 29,some (25,true),(.fld 1 (.tmp 28))⟩,⟨some 30,some (25,true),(.load false 1 (.tmp 29))⟩,⟨some 31,some (25,true),(.mov (.tmp 1))⟩,⟨some 32,some (25,true),(.bin .rem (.tmp 31) (.const (.int .i64 64)))⟩,⟨some 33,some (25,true),(.bin .shr (.tmp 30) (.tmp 32))⟩,⟨some 34,some (25,true),(.bin .and (.tmp 33) (.const (.int .u64 1)))⟩,⟨some 35,some (25,true),(.bin .eql (.tmp 34) (.const (.int .u64 1)))⟩,⟨some 36,none,(.pick (.tmp 25) (.tmp 35) (.const (.bool false)))⟩,⟨some 4,none,(.mov (.tmp 36))⟩,⟨some 5,none,(.mov (.const (.int .i64 0)))⟩]) .ret)))))
set_option maxRecDepth 100000 in
theorem tab10:tb.code 10=some ⟨37,[(4,none),(5,none)],body10⟩:=by kernel_rfl
theorem has_ok (h:AHeap) (v:Value) (s:List LWd) (n:Int) (k:SlW h v s) (hl:(s.length:Int)≤1000000000):
  WC Tryd.prog tb 10 [v,I n] h fun r h'=>r= .tuple #[.bool (hasB s n),I (hasE s n)]∧Ext h h':=by
 refine WC.of (nostub 10) tab10 ?_;simp only[mkTm,Nat.zero_add,Nat.reduceAdd]
 refine go ?_
 refine WO.con (check_ok h v s k hl) ?_
 rintro _ h1 ⟨rfl,e1⟩
 have k1:=SlW.ext k e1
 unfold hasB hasE
 by_cases hc:zQ (-1) s=true
 case neg=>
  have hc:zQ (-1) s=false:=by simpa using hc
  rw[hc,show errW false=8 from rfl]
  refine go ?_
  refine rt ?_
  exact⟨rfl,e1⟩
 have ok:=(okW_iff k.bd).1 hc
 rw[hc,show errW true=0 from rfl]
 refine go ?_
 refine WO.con (within_ok h1 n) ?_
 rintro _ _ ⟨rfl,rfl⟩
 by_cases hn:0≤n∧n<1048576
 case neg=>
  have hw:(decide (0≤n)&&decide (n<1048576))=false:=by simpa using hn
  rw[hw]
  refine go ?_
  refine rt ?_
  exact⟨by rw[if_pos rfl,if_neg hn,decide_eq_false hn];rfl,e1⟩
 have hw:(decide (0≤n)&&decide (n<1048576))=true:=by simpa using hn
 rw[hw,decide_eq_true hn]
 refine go ?_
 refine WO.bin ope_ rfl (b_quo hn.1 (by omega)) ?_
 refine go ?_
 refine WO.con (bsf_ok h1 v s (n / 64) k1 ok hl (by omega)) ?_
 rintro _ h2 ⟨⟨i,b,rfl,hT,hF⟩,e2⟩
 have k2:=SlW.ext k1 e2
 cases b with
 |false=>
  refine go ?_
  refine rt ?_
  refine⟨?_,e1.trans e2⟩
  rw[inB_false fun ⟨w,hw,e,_⟩=>hF rfl w hw e,if_pos rfl,if_pos hn];rfl
 |true=>
  obtain⟨hi,hp⟩:=hT rfl
  rw[has_word ok hi hp]
  obtain⟨cs,⟨rfl,w1,w2,w3⟩,pc,hs⟩:=wd_at k2 hi
  generalize s.getD i default=w at *
  refine go ?_
  refine WO.bin ope_ rfl (b_rem hn.1) ?_
  have hsh:ze .shr (W w.bits) (I (n % 64))=some (W (w.bits / 2 ^ (n % 64).toNat)):=by
   rw[show n % 64=((n % 64).toNat:Int) by omega];exact u_shr (by omega)
  refine go ?_
  refine WO.bin ope_ ope_ hsh ?_
  have han:ze .and (W (w.bits / 2 ^ (n % 64).toNat)) (W 1)=some (W (w.bits / 2 ^ (n % 64).toNat % 2)):=by
   rw[u_and (Nat.lt_of_le_of_lt (Nat.div_le_self _ _) w1) (by decide),Nat.and_one_is_mod]
  refine go ?_
  refine WO.bin ope_ rfl han ?_
  refine go ?_
  refine rt ?_
  refine⟨?_,e1.trans e2⟩
  rw[if_pos rfl,if_pos hn,Nat.testBit_eq_decide_div_mod_eq]
  have:decide (((w.bits / 2 ^ (n % 64).toNat % 2:Nat):Int)=1)=decide (w.bits / 2 ^ (n % 64).toNat % 2=1):=by
   congr 1;exact propext ⟨fun h=>by omega,fun h=>by omega⟩
  rw[this];rfl
end Go.Proofs.YtejjibilgmlhdaaDoor
namespace Go.Proofs.YtejjibilgmlhdaaDoor
open Go.Am
set_option linter.unusedVariables false
set_option linter.unusedSimpArgs false
set_option maxHeartbeats 1000000
abbrev OwnW (b:Nat) (h:AHeap) (v:Value) (s:List LWd):Prop:=OwnR 2 RW b h v s
theorem RW.dep {h:AHeap} {w:LWd} (h1:w.bits<18446744073709551616) (h2: -9223372036854775808≤w.pos) (h3:w.pos≤9223372036854775807) (D:Nat→Prop):Dep RW h [I w.pos,W w.bits] w D:=
 fun _ _ _=>⟨rfl,h1,h2,h3⟩
def DoOk (fv:Value) (f:Nat→Nat→Nat):Prop:=∀ (h:AHeap) (a b:Nat),a<18446744073709551616→b<18446744073709551616→WV Tryd.prog tb fv [W a,W b] h fun r h'=>r=W (f a b)∧h=h'
noncomputable def body45:ACode:=(.seq (.region [⟨some 1,none,(.box (.tmp 0))⟩,⟨some 2,none,(.mov (.const (.int .i64 0)))⟩]) (.seq (.region [⟨some 3,none,(.fld 0 (.tmp 1))⟩,⟨some 4,none,(.load false 1 (.tmp 3))⟩,⟨some 2,none,(.mov (.tmp 4))⟩]) .ret))
set_option maxRecDepth 100000 in
theorem tab45:tb.code 45=some ⟨5,[(2,none)],body45⟩:=by kernel_rfl
theorem both1_ok (h:AHeap) (w:LWd):WC Tryd.prog tb 45 [.agg #[I w.pos,W w.bits]] h fun r h'=>r=I w.pos∧Ext h h':=by
 refine WC.of (nostub 45) tab45 ?_;simp only[mkTm,Nat.zero_add,Nat.reduceAdd]
 refine go ?_
 refine WO.bx ?_
 intro p h1 e1 o1
 refine go ?_
 refine rt ?_
 exact⟨rfl,e1⟩
def putL (p:Int) (v:Nat) (out:List LWd):List LWd:=if v=0 then out else out++[⟨p,v⟩]
theorem putL_putW (p:Int) (v:Nat) (out s:List LWd):putL p v out++s=out++putW p v s:=by
 unfold putL putW;split<;>simp
structure PutS (hB h:AHeap) (b:Nat) (p5 p6 fv:Value) (out:List LWd):Prop where
 e:Ext hB h
 o5:OwnC hB h p5 [fv]
 bb:hB.n≤b∧b≤h.n
 p5b:∀ g,p5= .pointer (some ⟨g,0,none⟩)→g<b
 p6b:∀ g,p6= .pointer (some ⟨g,0,none⟩)→g<b
 ne:p5≠p6
 v:∃ v,OwnC hB h p6 [v]∧OwnW b h v out
theorem ownC_keepB {hB h h':AHeap} {p:Value} {cells:List Value} {b vn vk:Nat} {va:Option Addr} (o:OwnC hB h p cells) (hb:∀ g,p= .pointer (some ⟨g,0,none⟩)→g<b) (hv:∀ g,va=some ⟨g,0,none⟩→b≤g)
  (keep:∀ k,k<h.n→(∀ n k',Value.slice va vn vk≠ .slice (some ⟨k,0,none⟩) n k')→h'.get k=h.get k) (hn:h.n≤h'.n):OwnC hB h' p cells:=by
 obtain⟨g,g1,g2,rfl,g4⟩:=o
 refine⟨g,g1,Nat.lt_of_lt_of_le g2 hn,rfl,(keep g g2 fun n k' e=> ?_).trans g4⟩
 cases e
 have h1:=hb g rfl
 have h2:=hv g rfl
 omega
theorem ownC_keepU {hB h h':AHeap} {p q:Value} {cells:List Value} (o:OwnC hB h p cells) (u:UpdC q h h') (hne:p≠q):OwnC hB h' p cells:=by
 obtain⟨g,g1,g2,rfl,g4⟩:=o
 exact⟨g,g1,Nat.lt_of_lt_of_le g2 u.1,rfl,(u.2 g g2 fun e=>hne e.symm).trans g4⟩
theorem ownR_shape {α:Type} {c b:Nat} {R:AHeap→List Value→α→Prop} {h:AHeap} {v:Value} {xs:List α} (ow:OwnR c R b h v xs):∃ a n k,v= .slice a n k∧∀ g,a=some ⟨g,0,none⟩→b≤g∧g<h.n:=by
 rcases ow with ⟨rfl,_⟩|⟨g,_,_,g1,g2,rfl,_⟩
 ·exact⟨_,_,_,rfl,fun g e=>by cases e⟩
 ·exact⟨_,_,_,rfl,fun g' e=>by cases e;exact⟨g1,g2⟩⟩
noncomputable def body46:ACode:=(.seq (.region [⟨some 5,none,(.box (.tmp 0))⟩,⟨some 6,none,(.box (.tmp 1))⟩]) (.seq (.region [⟨some 9,none,(.load false 1 (.tmp 3))⟩,⟨some 10,none,(.fld 1 (.tmp 5))⟩,⟨some 11,none,(.load false 1 (.tmp 10))⟩,⟨some 12,none,(.fld 1 (.tmp 6))⟩,⟨some 13,none,(.load false 1 (.tmp 12))⟩,⟨some 14,none,(.call (.tmp 9) [(.tmp 11),(.tmp 13)])⟩,⟨some 8,none,(.mov (.tmp 14))⟩]) (.seq (.region [⟨some 15,none,(.mov (.tmp 8))⟩,⟨some 16,none,(.bin .neq (.tmp 15) (.const (.int .u64 0)))⟩]) (.cond (.tmp 16) (.region [⟨some 17,none,(.load false 1 (.tmp 4))⟩,⟨some 18,none,(.mov (.tmp 2))⟩,⟨some 19,none,(.mov (.tmp 8))⟩,⟨some 20,none,(.build [(.int .i64 0),(.int .u64 0)] [(0,1,(.tmp 18)),(1,1,(.tmp 19))])⟩,⟨some 21,none,(.buildSlice 1 2 [(.int .i64 0),(.int .u64 0)] [(0,2,(.tmp 20))])⟩,⟨some 22,none,(.append 2 (.tmp 17) (.tmp 21))⟩,⟨none,none,(.store 1 (.tmp 4) (.tmp 22))⟩]) .skip))))
set_option maxRecDepth 100000 in
theorem tab46:tb.code 46=some ⟨23,[],body46⟩:=by kernel_rfl
theorem both2_ok (hB h:AHeap) (b:Nat) (p5 p6 fv:Value) (f:Nat→Nat→Nat) (hf:DoOk fv f) (out:List LWd) (x y:LWd) (at':Int) (S:PutS hB h b p5 p6 fv out) (hx:x.bits<18446744073709551616) (hy:y.bits<18446744073709551616) (hl:out.length≤100000)
  (hz:f x.bits y.bits<18446744073709551616) (ha: -9223372036854775808≤at'∧at'≤9223372036854775807) (hm:h.mark≤h.n):
  WC Tryd.prog tb 46 [.agg #[I x.pos,W x.bits],.agg #[I y.pos,W y.bits],I at',p5,p6] h fun r h'=>PutS hB h' b p5 p6 fv (putL at' (f x.bits y.bits) out)∧h.n≤h'.n∧(∀ k∈h'.wr,k∈h.wr∨hB.n≤k)∧
   (∀ p cells,OwnC hB h p cells→p≠p6→(∀ g,p= .pointer (some ⟨g,0,none⟩)→g<b)→OwnC hB h' p cells):=by
 obtain⟨e0,o5,⟨b1,b2⟩,h5,h6,hne,v,o6,ow⟩:=S
 obtain⟨va,vn,vk,rfl,hvn⟩:=ownR_shape ow
 refine WC.of (nostub 46) tab46 ?_;simp only[mkTm,Nat.zero_add,Nat.reduceAdd]
 refine go ?_
 refine WO.bx ?_
 intro p3 h1 e1 o3
 refine go ?_
 refine WO.bx ?_
 intro p4 h2 e2 o4
 have o3:=o3.ext e2
 have o5':=o5.ext (e1.trans e2)
 have o6':=o6.ext (e1.trans e2)
 have ow':=OwnR.ext ow (e1.trans e2)
 have e02:=e0.trans (e1.trans e2)
 have hn12:=(e1.trans e2).n
 refine go ?_
 refine WO.conV (hf h2 x.bits y.bits hx hy) ?_
 rintro _ _ ⟨rfl,rfl⟩
 have hw12:h2.wr=h.wr:=(e1.trans e2).wr hm
 refine go ?_
 refine WX.br (fun hc=> ?_) (fun hc=> ?_)<;>simp only[DB]at hc
 ·refine go ?_
  refine WO.apRw (b:=b) (R:=RW) (h:=h2) ⟨at',f x.bits y.bits⟩ (fun _=>False) ow' e02 b1 (by omega) (by decide) hl (RW.dep hz ha.1 ha.2 _) (fun k hk=>hk.elim) (fun _ _ _ _ h=>h) ?_
  intro v' h3 lit e3 ow3 n3 keep3 w3
  obtain⟨va',vn',vk',rfl,hvn'⟩:=ownR_shape ow3
  have hvb:∀ g,va=some ⟨g,0,none⟩→b≤g:=fun g e=>(hvn g e).1
  have o6'':OwnC hB h3 p6 [.slice va vn vk]:=ownC_keepB o6' h6 hvb keep3 n3
  refine go ?_
  refine WO.stC0w (cs:=[.slice va' vn' vk']) o6'' e3 ?_
  intro h4 e4 o4' u4 w4
  refine go ?_
  refine rtN ?_
  refine⟨⟨e4,ownC_keepU (ownC_keepB o5' h5 hvb keep3 n3) u4 hne,⟨b1,by have:=u4.1;omega⟩,h5,h6,hne,_,o4',?_⟩,by have:=u4.1;omega,fun k hk=> ?_,fun p cells o hp hpb=>ownC_keepU (ownC_keepB (o.ext (e1.trans e2)) hpb hvb keep3 n3) u4 hp⟩
  ·unfold putL
   rw[if_neg (by omega)]
   refine OwnR.upd ow3 (fun k k1 k2=>u4.2 k k2 fun e=> ?_) u4.1
   have:=h6 k e;omega
  ·rcases w4 k hk with h|h
   ·rcases w3 k h with h|h
    ·rw[hw12]at h;exact .inl h
    ·exact .inr (by omega)
   ·exact .inr h
 ·refine go ?_
  refine rtN ?_
  refine⟨⟨e02,o5',⟨b1,by omega⟩,h5,h6,hne,_,o6',?_⟩,hn12,fun k hk=> ?_,fun p cells o _ _=>o.ext (e1.trans e2)⟩
  ·unfold putL
   rw[if_pos (by omega)];exact ow'
  ·rw[hw12]at hk;exact .inl hk
theorem PutS.enter {hB h X:AHeap} {b:Nat} {p5 p6 fv:Value} {out:List LWd} (S:PutS hB h b p5 p6 fv out) (e:Ext (inC (zG 0 h)) X):PutS {hB with mark:=X.n,wr:=[]} (inC X) b p5 p6 fv out:=by
 obtain⟨e0,o5,⟨b1,b2⟩,h5,h6,hne,v,o6,ow⟩:=S
 have o5:OwnC hB X p5 [fv]:=OwnC.ext (h:=inC (zG 0 h)) o5 e
 have o6:OwnC hB X p6 [v]:=OwnC.ext (h:=inC (zG 0 h)) o6 e
 have ow:OwnW b X v out:=OwnR.upd ow (fun k _ hk=>e.get k hk) e.n
 have hn:h.n≤X.n:=e.n
 refine⟨⟨Nat.le_trans e0.n hn,fun g hg=>(e.get g (Nat.lt_of_lt_of_le hg e0.n)).trans (e0.get g hg),fun w=>e.wf (e0.wf w),rfl,fun _=>rfl⟩,o5,⟨b1,Nat.le_trans b2 hn⟩,h5,h6,hne,v,o6,OwnR.upd ow (fun _ _ _=>rfl) (Nat.le_refl _)⟩
theorem PutS.leave {hB h h':AHeap} {b m:Nat} {p5 p6 fv:Value} {out:List LWd} (S:PutS {hB with mark:=m,wr:=[]} h' b p5 p6 fv out) (e:Ext hB h):PutS hB (outC h h') b p5 p6 fv out:=by
 obtain⟨e0,o5,⟨b1,b2⟩,h5,h6,hne,v,o6,ow⟩:=S
 exact⟨⟨e0.n,e0.get,fun w=>e0.wf w,e.mark,fun hm=>e.wr hm⟩,o5,⟨b1,b2⟩,h5,h6,hne,v,o6,OwnR.upd ow (fun _ _ _=>rfl) (Nat.le_refl _)⟩
theorem merge_a {f:Nat→Nat→Nat} {A B:List LWd} (hA:0<A.length) (h:B.length=0∨(A.getD 0 default).pos<(B.getD 0 default).pos):zN f A B=putW (A.getD 0 default).pos (f (A.getD 0 default).bits 0) (zN f (A.drop 1) B):=by
 cases A with
 |nil=>simp at hA
 |cons x a=>
  cases B with
  |nil=>rw[zN];rfl
  |cons y b=>
   have h:x.pos<y.pos:=h.resolve_left (by simp)
   rw[zN,if_pos h];rfl
theorem merge_b {f:Nat→Nat→Nat} {A B:List LWd} (hB:0<B.length) (h:A.length=0∨(B.getD 0 default).pos<(A.getD 0 default).pos):zN f A B=putW (B.getD 0 default).pos (f 0 (B.getD 0 default).bits) (zN f A (B.drop 1)):=by
 cases B with
 |nil=>simp at hB
 |cons y b=>
  cases A with
  |nil=>rw[zN];rfl
  |cons x a=>
   have h:y.pos<x.pos:=h.resolve_left (by simp)
   rw[zN,if_neg (by omega),if_pos h];rfl
theorem merge_c {f:Nat→Nat→Nat} {A B:List LWd} (hA:0<A.length) (hB:0<B.length) (h:(A.getD 0 default).pos=(B.getD 0 default).pos):zN f A B=putW (A.getD 0 default).pos (f (A.getD 0 default).bits (B.getD 0 default).bits) (zN f (A.drop 1) (B.drop 1)):=by
 cases A with
 |nil=>simp at hA
 |cons x a=>
  cases B with
  |nil=>simp at hB
  |cons y b=>
   have h:x.pos=y.pos:=h
   rw[zN,if_neg (by omega),if_neg (by omega)];rfl
theorem putL_len {p:Int} {v:Nat} {out:List LWd}:(putL p v out).length≤out.length+1:=by
 unfold putL;split<;>simp
theorem ext_reg {h h':AHeap} (e:Ext (inC (zG 0 h)) h'):Ext h (outC h (inC h')):=⟨e.n,e.get,fun w=>e.wf w,rfl,fun _=>rfl⟩
theorem ext_reg2 {h h' h2:AHeap} (e:Ext (inC (zG 0 h)) h') (e2:Ext (inC h') h2):Ext h (outC h (inC h2)):=⟨Nat.le_trans e.n e2.n,fun g hg=>(e2.get g (Nat.lt_of_lt_of_le hg e.n)).trans (e.get g hg),fun w=>e2.wf (e.wf w),rfl,fun _=>rfl⟩
theorem PutS.ext {hB h h':AHeap} {b:Nat} {p5 p6 fv:Value} {out:List LWd} (S:PutS hB h b p5 p6 fv out) (e:Ext h h'):PutS hB h' b p5 p6 fv out:=by
 obtain⟨e0,o5,⟨b1,b2⟩,h5,h6,hne,v,o6,ow⟩:=S
 exact⟨e0.trans e,o5.ext e,⟨b1,Nat.le_trans b2 e.n⟩,h5,h6,hne,v,o6.ext e,OwnR.ext ow e⟩
theorem out_in (h:AHeap):outC h (inC (zG 0 h))=h:=rfl
noncomputable def body44_0:ACode:=(.seq (.seq (.region [⟨some 9,none,(.mov (.tmp 0))⟩,⟨some 10,none,(.len (.tmp 9))⟩,⟨some 11,none,(.bin .gtr (.tmp 10) (.const (.int .i64 0)))⟩,⟨some 12,none,(.mov (.tmp 11))⟩,⟨some 13,some (12,false),(.mov (.tmp 1))⟩,⟨some 14,some (12,false),(.len (.tmp 13))⟩,⟨some 15,some (12,false),(.bin .gtr (.tmp 14) (.const (.int .i64 0)))⟩,⟨some 16,none,(.pick (.tmp 12) (.const (.bool true)) (.tmp 15))⟩]) (.cond (.tmp 16) .skip (.exit 0))) (.block 1 (.block 2 (.seq (.regionC [(⟨some 35,none,(.mov (.tmp 1))⟩,[]),(⟨some 36,none,(.len (.tmp 35))⟩,[]),(⟨some 37,none,(.bin .eql (.tmp 36) (.const (.int .i64 0)))⟩,[]),(⟨some 38,none,(.mov (.tmp 37))⟩,[]),(⟨some 39,some (38,false),(.mov (.tmp 0))⟩,[]),(⟨some 40,some (38,false),(.len (.tmp 39))⟩,[]),(⟨some 41,some (38,false),(.bin .gtr (.tmp 40) (.const (.int .i64 0)))⟩,[]),(⟨some 42,some (38,false),(.mov (.tmp 41))⟩,[]),(⟨some 43,some (42,true),(.mov (.tmp 2))⟩,[]),(⟨some 44,some (42,true),(.mov (.tmp 0))⟩,[]),(⟨some 45,some (42,true),(.idx 2 (.tmp 44) (.const (.int .i64 0)))⟩,[]),(⟨some 46,some (42,true),(.load true 2 (.tmp 45))⟩,[]),(⟨some 47,some (42,true),(.call (.tmp 43) [(.tmp 46)])⟩,[]),(⟨some 48,some (42,true),(.mov (.tmp 2))⟩,[]),(⟨some 49,some (42,true),(.mov (.tmp 1))⟩,[]),(⟨some 50,some (42,true),(.idx 2 (.tmp 49) (.const (.int .i64 0)))⟩,[]),(⟨some 51,some (42,true),(.load true 2 (.tmp 50))⟩,[12]),(⟨some 52,some (42,true),(.call (.tmp 48) [(.tmp 51)])⟩,[]),(⟨some 53,some (42,true),(.bin .lss (.tmp 47) (.tmp 52))⟩,[]),(⟨some 54,some (38,false),(.pick (.tmp 42) (.tmp 53) (.const (.bool false)))⟩,[]),(⟨some 55,none,(.pick (.tmp 38) (.const (.bool true)) (.tmp 54))⟩,[]),(⟨some 34,none,(.mov (.tmp 55))⟩,[])]) (.cond (.tmp 34) (.seq (.regionC [(⟨some 56,none,(.mov (.tmp 3))⟩,[]),(⟨some 57,none,(.mov (.tmp 0))⟩,[]),(⟨some 58,none,(.idx 2 (.tmp 57) (.const (.int .i64 0)))⟩,[]),(⟨some 59,none,(.load true 2 (.tmp 58))⟩,[]),(⟨some 60,none,(.load true 2 (.tmp 8))⟩,[]),(⟨some 61,none,(.mov (.tmp 2))⟩,[]),(⟨some 62,none,(.mov (.tmp 0))⟩,[]),(⟨some 63,none,(.idx 2 (.tmp 62) (.const (.int .i64 0)))⟩,[]),(⟨some 64,none,(.load true 2 (.tmp 63))⟩,[]),(⟨some 65,none,(.call (.tmp 61) [(.tmp 64)])⟩,[3,4]),(⟨some 66,none,(.call (.tmp 56) [(.tmp 59),(.tmp 60),(.tmp 65)])⟩,[])]) (.region [⟨some 67,none,(.mov (.tmp 0))⟩,⟨some 68,none,(.slice 2 (.tmp 67) (some (.const (.int .i64 1))) none none)⟩,⟨some 0,none,(.mov (.tmp 68))⟩])) (.seq (.regionC [(⟨some 70,none,(.mov (.tmp 0))⟩,[]),(⟨some 71,none,(.len (.tmp 70))⟩,[]),(⟨some 72,none,(.bin .eql (.tmp 71) (.const (.int .i64 0)))⟩,[]),(⟨some 73,none,(.mov (.tmp 72))⟩,[]),(⟨some 74,some (73,false),(.mov (.tmp 2))⟩,[]),(⟨some 75,some (73,false),(.mov (.tmp 1))⟩,[]),(⟨some 76,some (73,false),(.idx 2 (.tmp 75) (.const (.int .i64 0)))⟩,[]),(⟨some 77,some (73,false),(.load true 2 (.tmp 76))⟩,[]),(⟨some 78,some (73,false),(.call (.tmp 74) [(.tmp 77)])⟩,[]),(⟨some 79,some (73,false),(.mov (.tmp 2))⟩,[]),(⟨some 80,some (73,false),(.mov (.tmp 0))⟩,[]),(⟨some 81,some (73,false),(.idx 2 (.tmp 80) (.const (.int .i64 0)))⟩,[]),(⟨some 82,some (73,false),(.load true 2 (.tmp 81))⟩,[8]),(⟨some 83,some (73,false),(.call (.tmp 79) [(.tmp 82)])⟩,[]),(⟨some 84,some (73,false),(.bin .lss (.tmp 78) (.tmp 83))⟩,[]),(⟨some 85,none,(.pick (.tmp 73) (.const (.bool true)) (.tmp 84))⟩,[]),(⟨some 69,none,(.mov (.tmp 85))⟩,[])]) (.cond (.tmp 69) (.seq (.regionC [(⟨some 86,none,(.mov (.tmp 3))⟩,[]),(⟨some 87,none,(.load true 2 (.tmp 8))⟩,[]),(⟨some 88,none,(.mov (.tmp 1))⟩,[]),(⟨some 89,none,(.idx 2 (.tmp 88) (.const (.int .i64 0)))⟩,[]),(⟨some 90,none,(.load true 2 (.tmp 89))⟩,[]),(⟨some 91,none,(.mov (.tmp 2))⟩,[]),(⟨some 92,none,(.mov (.tmp 1))⟩,[]),(⟨some 93,none,(.idx 2 (.tmp 92) (.const (.int .i64 0)))⟩,[]),(⟨some 94,none,(.load true 2 (.tmp 93))⟩,[]),(⟨some 95,none,(.call (.tmp 91) [(.tmp 94)])⟩,[1,4]),(⟨some 96,none,(.call (.tmp 86) [(.tmp 87),(.tmp 90),(.tmp 95)])⟩,[])]) (.region [⟨some 97,none,(.mov (.tmp 1))⟩,⟨some 98,none,(.slice 2 (.tmp 97) (some (.const (.int .i64 1))) none none)⟩,⟨some 1,none,(.mov (.tmp 98))⟩])) (.seq (.regionC [(⟨some 17,none,(.mov (.tmp 3))⟩,[]),(⟨some 18,none,(.mov (.tmp 0))⟩,[]),(⟨some 19,none,(.idx 2 (.tmp 18) (.const (.int .i64 0)))⟩,[]),(⟨some 20,none,(.load true 2 (.tmp 19))⟩,[]),(⟨some 21,none,(.mov (.tmp 1))⟩,[]),(⟨some 22,none,(.idx 2 (.tmp 21) (.const (.int .i64 0)))⟩,[]),(⟨some 23,none,(.load true 2 (.tmp 22))⟩,[]),(⟨some 24,none,(.mov (.tmp 2))⟩,[]),(⟨some 25,none,(.mov (.tmp 0))⟩,[]),(⟨some 26,none,(.idx 2 (.tmp 25) (.const (.int .i64 0)))⟩,[]),(⟨some 27,none,(.load true 2 (.tmp 26))⟩,[]),(⟨some 28,none,(.call (.tmp 24) [(.tmp 27)])⟩,[3,6]),(⟨some 29,none,(.call (.tmp 17) [(.tmp 20),(.tmp 23),(.tmp 28)])⟩,[])]) (.regionC [(⟨some 30,none,(.mov (.tmp 0))⟩,[]),(⟨some 31,none,(.slice 2 (.tmp 30) (some (.const (.int .i64 1))) none none)⟩,[]),(⟨some 32,none,(.mov (.tmp 1))⟩,[]),(⟨some 33,none,(.slice 2 (.tmp 32) (some (.const (.int .i64 1))) none none)⟩,[]),(⟨some 0,none,(.mov (.tmp 31))⟩,[]),(⟨some 1,none,(.mov (.tmp 33))⟩,[])])))))))))
noncomputable def body44:ACode:=(.seq (.region [⟨some 8,none,(.alloc [(.int .i64 0),(.int .u64 0)])⟩]) (.block 0 (.loop body44_0)))
set_option maxRecDepth 100000 in
theorem tab44:tb.code 44=some ⟨99,[],body44⟩:=by kernel_rfl
theorem merge_ok (hB h:AHeap) (va vb p5 p6 fv:Value) (f:Nat→Nat→Nat) (hf:DoOk fv f) (hfz:∀ x y,x<18446744073709551616→y<18446744073709551616→f x y<18446744073709551616) (A B:List LWd) (ka:SlW hB va A) (kb:SlW hB vb B) (la:A.length≤1000) (lb:B.length≤1000)
  (e:Ext hB h) (hm:hB.mark≤hB.n) (o5:OwnC hB h p5 [fv]) (o6:OwnC hB h p6 [.slice none 0 0]) (hne:p5≠p6):
  WC Tryd.prog tb 44 [va,vb,.func (.func 45) #[] #[],.func (.func 46) #[] #[p5,p6]] h fun r h'=>Ext hB h'∧∃ v b,hB.n≤b∧OwnC hB h' p6 [v]∧OwnW b h' v (zN f A B)∧∀ g,p6= .pointer (some ⟨g,0,none⟩)→g<b:=by
 refine WC.of (nostub 44) tab44 ?_;simp only[mkTm,Nat.zero_add,Nat.reduceAdd]
 refine go ?_
 refine WO.al ?_
 intro p8 h0 e0 o8
 refine go ?_
 obtain⟨g8,g81,g82,rfl,g84⟩:=id o8
 have o8:=o8.since e
 have S0:PutS hB h0 h0.n p5 p6 fv []:=⟨e.trans e0,o5.ext e0,⟨(e.trans e0).n,Nat.le_refl _⟩,fun g eg=>by
  obtain⟨g',_,a,b,_⟩:=o5;rw[b]at eg;cases eg;have:=e0.n;omega,fun g eg=>by
  obtain⟨g',_,a,b,_⟩:=o6;rw[b]at eg;cases eg;have:=e0.n;omega,hne,_,o6.ext e0,OwnR.nil⟩
 have h86:Value.pointer (some ⟨g8,0,none⟩)≠p6:=fun eq=>by
  obtain⟨g',_,a,b,_⟩:=o6;rw[b]at eq;cases eq;omega
 have hb8:∀ g,Value.pointer (some ⟨g8,0,none⟩)= .pointer (some ⟨g,0,none⟩)→g<h0.n:=fun g eg=>by cases eg;exact g82
 generalize hbb:h0.n=bb at S0 hb8
 generalize Value.pointer (some ⟨g8,0,none⟩)=p8 at *
 clear e0 g81 g82 g84 o5 o6
 refine WX.loopA [9,10,11,12,13,14,15,16,35,36,37,38,39,40,41,42,43,44,45,46,47,48,49,50,51,52,53,54,55,34,56,57,58,59,60,61,62,63,64,65,66,67,68,0,70,71,72,73,74,75,76,77,78,79,80,81,82,83,84,85,69,86,87,88,89,90,91,92,93,94,95,96,97,98,1,17,18,19,20,21,22,23,24,25,26,27,28,29,30,31,32,33,0,1] (by kernel_rfl) (fun p:List LWd×List LWd=>p.1.length+p.2.length) (fun p t h1=>∃ va' vb' out,zC t 0=va'∧zC t 1=vb'∧SlW hB va' p.1∧SlW hB vb' p.2∧PutS hB h1 bb p5 p6 fv out∧OwnC hB h1 p8 [I 0,W 0]∧Hid (zN f A B=out++zN f p.1 p.2)∧p.1.length≤1000∧p.2.length≤1000∧out.length+(p.1.length+p.2.length)≤2000) (A,B) ?_ ?_
 ·exact⟨va,vb,[],sl_,sl_,ka,kb,S0,o8,⟨rfl⟩,la,lb,by simp only[List.length_nil];omega⟩
 clear S0 o8 ka kb la lb
 rintro⟨a,b⟩ t h1 hsame ⟨va',vb',out,s0,s1,ka,kb,S,o8,hI,la,lb,lo⟩
 simp only at ka kb hI la lb lo
 have e1:=S.e
 have ka1:=SlW.ext ka e1
 have kb1:=SlW.ext kb e1
 have hm1:h1.mark≤h1.n:=by have:=e1.mark;have:=e1.n;omega
 have hmB:h1.mark≤hB.n:=by have:=e1.mark;omega
 by_cases hA:0<a.length
 case neg=>
  by_cases hBl:0<b.length
  case neg=>
   refine go ?_
   refine rtN ?_
   obtain⟨e1,o5,⟨b1,b2⟩,h5,h6,hne,v,o6,ow⟩:=S
   have:zN f a b=[]:=by
    have ha:a=[]:=List.eq_nil_of_length_eq_zero (by omega)
    have hb:b=[]:=List.eq_nil_of_length_eq_zero (by omega)
    subst ha hb;rw[zN]
   rw[hI.out,this,List.append_nil]
   exact⟨e1,v,bb,b1,o6,ow,h6⟩
  have hmg:=merge_b (f:=f) hBl (.inl (by omega:a.length=0))
  have kaX:SlW (inC (zG 0 h1)) va' a:=ka1
  have kbX:SlW (inC (zG 0 h1)) vb' b:=kb1
  have o8X:OwnC hB (inC (zG 0 h1)) p8 [I 0,W 0]:=o8
  obtain⟨cb,⟨rfl,y1,y2,y3⟩,pcb,hsb⟩:=slr_atX kb1 hBl
  have pcbX:=(pcb _ (Ext.refl _)).2
  have pcbX:Piece (inC (zG 0 h1)) vb' (0 * 2) [I (b.getD 0 default).pos,W (b.getD 0 default).bits]:=pcbX
  obtain⟨qa,qn,qk,hqv,hqb⟩:=slr_block (i:=0) kb1 hBl
  generalize b.getD 0 default=y at *
  have hI:=hI.out.trans (congrArg (out++·) hmg)
  have hI:=Hid.mk hI
  clear hmg
  refine go ?_
  refine WX.regionU2 0 rfl rfl ?_
  refine goU ?_
  refine uK2_gT ?_
  refine goU ?_
  rw[out_in]
  refine WX.regionU2 0 rfl rfl ?_
  refine goU ?_
  refine uK2_gF ?_
  refine goU ?_
  rw[out_in]
  refine WX.regionU2 0 rfl rfl ?_
  refine goU ?_
  refine WO.conV (WV.func (both1_ok _ y)) ?_
  rintro _ h2 ⟨rfl,e2⟩
  refine WO.nil ?_
  refine uK2_e e2 yC ?_
  have S2:=S.enter e2
  refine goU ?_
  refine WO.conV (WV.func (both2_ok _ (inC h2) bb p5 p6 fv f hf out ⟨0,0⟩ y y.pos S2 (by decide) y1 (by omega) (hfz _ _ (by decide) y1) ⟨y2,y3⟩ (Nat.le_refl _))) ?_
  rintro _ h3 ⟨S3,n3,w3,f3⟩
  refine WO.nil ?_
  refine uK2_w (fun k hk=> ?_) n3 ?_
  ·rcases w3 k hk with h|h
   ·cases h
   ·have h:hB.n≤k:=h
    omega
  have S4:=S3.leave e1
  have o84:OwnC hB (outC h1 h3) p8 [I 0,W 0]:=f3 p8 _ (by have:=OwnC.ext (h:=inC (zG 0 h1)) o8 e2;exact this) h86 hb8
  generalize outC h1 h3=h4 at S4 o84 ⊢
  obtain⟨vb2,hsl,kb2⟩:=slr_tail (i:=1) kb hBl (by omega)
  refine goU ?_
  refine WO.slLo (i:=1) (hy:=rfl) hsl ?_
  refine go ?_
  have hpl:=putL_len (p:=y.pos) (v:=f 0 y.bits) (out:=out)
  have hdl:(b.drop 1).length=b.length - 1:=List.length_drop ..
  refine zx (a,b.drop 1) (by simp only;omega) ⟨va',vb2,_,sl_,sl_,ka,kb2,S4,o84,⟨?_⟩,la,by simp only;omega,by simp only;omega⟩
  rw[putL_putW];exact hI.out
 by_cases hBl:0<b.length
 case neg=>
  have hmg:=merge_a (f:=f) hA (.inl (by omega:b.length=0))
  have kaX:SlW (inC (zG 0 h1)) va' a:=ka1
  have kbX:SlW (inC (zG 0 h1)) vb' b:=kb1
  have o8X:OwnC hB (inC (zG 0 h1)) p8 [I 0,W 0]:=o8
  obtain⟨ca,⟨rfl,y1,y2,y3⟩,pca,hsa⟩:=slr_atX ka1 hA
  have pcaX:=(pca _ (Ext.refl _)).2
  have pcaX:Piece (inC (zG 0 h1)) va' (0 * 2) [I (a.getD 0 default).pos,W (a.getD 0 default).bits]:=pcaX
  generalize a.getD 0 default=y at *
  have hI:=hI.out.trans (congrArg (out++·) hmg)
  have hI:=Hid.mk hI
  clear hmg
  refine go ?_
  refine WX.regionU2 0 rfl rfl ?_
  refine goU ?_
  refine uK2_gU ?_
  refine goU ?_
  rw[out_in]
  refine WX.regionU2 0 rfl rfl ?_
  refine goU ?_
  refine WO.conV (WV.func (both1_ok _ y)) ?_
  rintro _ h2 ⟨rfl,e2⟩
  refine WO.nil ?_
  refine uK2_e e2 yC ?_
  have S2:=S.enter e2
  refine goU ?_
  refine WO.conV (WV.func (both2_ok _ (inC h2) bb p5 p6 fv f hf out y ⟨0,0⟩ y.pos S2 y1 (by decide) (by omega) (hfz _ _ y1 (by decide)) ⟨y2,y3⟩ (Nat.le_refl _))) ?_
  rintro _ h3 ⟨S3,n3,w3,f3⟩
  refine WO.nil ?_
  refine uK2_w (fun k hk=> ?_) n3 ?_
  ·rcases w3 k hk with h|h
   ·cases h
   ·have h:hB.n≤k:=h
    omega
  have S4:=S3.leave e1
  have o84:OwnC hB (outC h1 h3) p8 [I 0,W 0]:=f3 p8 _ (by have:=OwnC.ext (h:=inC (zG 0 h1)) o8 e2;exact this) h86 hb8
  generalize outC h1 h3=h4 at S4 o84 ⊢
  obtain⟨va2,hsl,ka2⟩:=slr_tail (i:=1) ka hA (by omega)
  refine goU ?_
  refine WO.slLo (i:=1) (hy:=rfl) hsl ?_
  refine go ?_
  have hpl:=putL_len (p:=y.pos) (v:=f y.bits 0) (out:=out)
  have hdl:(a.drop 1).length=a.length - 1:=List.length_drop ..
  refine zx (a.drop 1,b) (by simp only;omega) ⟨va2,vb',_,sl_,sl_,ka2,kb,S4,o84,⟨?_⟩,by simp only;omega,lb,by simp only;omega⟩
  rw[putL_putW];exact hI.out
 have kaX:SlW (inC (zG 0 h1)) va' a:=ka1
 have kbX:SlW (inC (zG 0 h1)) vb' b:=kb1
 have o8X:OwnC hB (inC (zG 0 h1)) p8 [I 0,W 0]:=o8
 obtain⟨ca,⟨rfl,x1,x2,x3⟩,pca,hsa⟩:=slr_atX ka1 hA
 have pcaX:=(pca _ (Ext.refl _)).2
 have pcaX:Piece (inC (zG 0 h1)) va' (0 * 2) [I (a.getD 0 default).pos,W (a.getD 0 default).bits]:=pcaX
 obtain⟨cb,⟨rfl,y1,y2,y3⟩,pcb,hsb⟩:=slr_atX kb1 hBl
 have pcbX:=(pcb _ (Ext.refl _)).2
 have pcbX:Piece (inC (zG 0 h1)) vb' (0 * 2) [I (b.getD 0 default).pos,W (b.getD 0 default).bits]:=pcbX
 obtain⟨qa,qn,qk,hqv,hqb⟩:=slr_block (i:=0) kb1 hBl
 obtain⟨ra,rn,rk,hrv,hrb⟩:=slr_block (i:=0) ka1 hA
 have hma:=fun h=>merge_a (f:=f) hA (.inr h:b.length=0∨(a.getD 0 default).pos<(b.getD 0 default).pos)
 have hmb:=fun h=>merge_b (f:=f) hBl (.inr h:a.length=0∨(b.getD 0 default).pos<(a.getD 0 default).pos)
 have hmc:=merge_c (f:=f) hA hBl
 generalize a.getD 0 default=x at *
 generalize b.getD 0 default=y at *
 have hma:=Hid.mk hma
 have hmb:=Hid.mk hmb
 have hmc:=Hid.mk hmc
 refine go ?_
 refine WX.regionU2 0 rfl rfl ?_
 refine goU ?_
 refine WO.conV (WV.func (both1_ok _ x)) ?_
 rintro _ h2 ⟨rfl,e2⟩
 refine WO.nil ?_
 refine uK2_e e2 yC ?_
 have e3:Ext h1 (outC h1 (inC h2)):=ext_reg e2
 have kaY:SlW (inC h2) va' a:=by have:=SlW.ext ka1 e3;exact this
 have kbY:SlW (inC h2) vb' b:=by have:=SlW.ext kb1 e3;exact this
 have pcbY:Piece (inC h2) vb' (0 * 2) [I y.pos,W y.bits]:=by have:=(pcb _ e3).2;exact this
 refine goU ?_
 refine uK2_elg ⟨qa,qn,qk,hqv,hqb⟩ ?_
 refine goU ?_
 refine WO.conV (WV.func (both1_ok _ y)) ?_
 rintro _ h4 ⟨rfl,e4⟩
 refine WO.nil ?_
 refine uK2_e e4 yC ?_
 have e5:Ext h1 (outC h1 (inC h4)):=ext_reg2 e2 e4
 by_cases hlt:x.pos<y.pos
 ·have hI:=Hid.mk (hI.out.trans (congrArg (out++·) (hma.out hlt)))
  clear hma hmb hmc
  refine goU ?_
  generalize outC h1 (inC h4)=h5 at e5 ⊢
  have S:=S.ext e5
  have o8:=o8.ext e5
  have e15:=e1.trans e5
  have hmB:h5.mark≤hB.n:=by have:=e15.mark;omega
  have kaX:SlW (inC (zG 0 h5)) va' a:=by have:=SlW.ext ka1 e5;exact this
  have o8X:OwnC hB (inC (zG 0 h5)) p8 [I 0,W 0]:=o8
  have pcaX:Piece (inC (zG 0 h5)) va' (0 * 2) [I x.pos,W x.bits]:=by have:=(pca _ e5).2;exact this
  refine WX.regionU2 0 rfl rfl ?_
  refine goU ?_
  refine WO.conV (WV.func (both1_ok _ x)) ?_
  rintro _ h6 ⟨rfl,e6⟩
  refine WO.nil ?_
  refine uK2_e e6 yC ?_
  have S2:=S.enter e6
  refine goU ?_
  refine WO.conV (WV.func (both2_ok _ (inC h6) bb p5 p6 fv f hf out x ⟨0,0⟩ x.pos S2 x1 (by decide) (by omega) (hfz _ _ x1 (by decide)) ⟨x2,x3⟩ (Nat.le_refl _))) ?_
  rintro _ h3 ⟨S3,n3,w3,f3⟩
  refine WO.nil ?_
  refine uK2_w (fun k hk=> ?_) n3 ?_
  ·rcases w3 k hk with h|h
   ·cases h
   ·have h:hB.n≤k:=h
    omega
  have S4:=S3.leave e15
  have o84:OwnC hB (outC h5 h3) p8 [I 0,W 0]:=f3 p8 _ (by have:=OwnC.ext (h:=inC (zG 0 h5)) o8 e6;exact this) h86 hb8
  generalize outC h5 h3=h7 at S4 o84 ⊢
  obtain⟨va2,hsl,ka2⟩:=slr_tail (i:=1) ka hA (by omega)
  refine goU ?_
  refine WO.slLo (i:=1) (hy:=rfl) hsl ?_
  refine go ?_
  have hpl:=putL_len (p:=x.pos) (v:=f x.bits 0) (out:=out)
  have hdl:(a.drop 1).length=a.length - 1:=List.length_drop ..
  refine zx (a.drop 1,b) (by simp only;omega) ⟨va2,vb',_,sl_,sl_,ka2,kb,S4,o84,⟨?_⟩,by simp only;omega,lb,by simp only;omega⟩
  rw[putL_putW];exact hI.out
 refine goU ?_
 generalize outC h1 (inC h4)=h5 at e5 ⊢
 clear e3 kaY kbY pcbY e2 e4 kaX kbX o8X pcaX pcbX
 have S:=S.ext e5
 have o8:=o8.ext e5
 have e15:=e1.trans e5
 have hmB:h5.mark≤hB.n:=by have:=e15.mark;omega
 have ka5:=SlW.ext ka1 e5
 have kb5:=SlW.ext kb1 e5
 have kaX:SlW (inC (zG 0 h5)) va' a:=ka5
 have kbX:SlW (inC (zG 0 h5)) vb' b:=kb5
 have o8X:OwnC hB (inC (zG 0 h5)) p8 [I 0,W 0]:=o8
 have pcaX:Piece (inC (zG 0 h5)) va' (0 * 2) [I x.pos,W x.bits]:=by have:=(pca _ e5).2;exact this
 have pcbX:Piece (inC (zG 0 h5)) vb' (0 * 2) [I y.pos,W y.bits]:=by have:=(pcb _ e5).2;exact this
 refine WX.regionU2 0 rfl rfl ?_
 refine goU ?_
 refine WO.conV (WV.func (both1_ok _ y)) ?_
 rintro _ h2 ⟨rfl,e2⟩
 refine WO.nil ?_
 refine uK2_e e2 yC ?_
 have e3:Ext h5 (outC h5 (inC h2)):=ext_reg e2
 have kaY:SlW (inC h2) va' a:=by have:=SlW.ext ka5 e3;exact this
 have pcaY:Piece (inC h2) va' (0 * 2) [I x.pos,W x.bits]:=by have:=(pca _ (e5.trans e3)).2;exact this
 have hrb5:ra.block<h5.n:=Nat.lt_of_lt_of_le hrb e5.n
 have hqb5:qa.block<h5.n:=Nat.lt_of_lt_of_le hqb e5.n
 refine goU ?_
 refine uK2_elg ⟨ra,rn,rk,hrv,hrb5⟩ ?_
 refine goU ?_
 refine WO.conV (WV.func (both1_ok _ x)) ?_
 rintro _ h4 ⟨rfl,e4⟩
 refine WO.nil ?_
 refine uK2_e e4 yC ?_
 have e6:Ext h5 (outC h5 (inC h4)):=ext_reg2 e2 e4
 by_cases hgt:y.pos<x.pos
 ·have hI:=Hid.mk (hI.out.trans (congrArg (out++·) (hmb.out hgt)))
  clear hma hmb hmc
  refine goU ?_
  generalize outC h5 (inC h4)=h6 at e6 ⊢
  have S:=S.ext e6
  have o8:=o8.ext e6
  have e16:=e15.trans e6
  have hmB:h6.mark≤hB.n:=by have:=e16.mark;omega
  have kbX:SlW (inC (zG 0 h6)) vb' b:=by have:=SlW.ext kb5 e6;exact this
  have o8X:OwnC hB (inC (zG 0 h6)) p8 [I 0,W 0]:=o8
  have pcbX:Piece (inC (zG 0 h6)) vb' (0 * 2) [I y.pos,W y.bits]:=by have:=(pcb _ (e5.trans e6)).2;exact this
  refine WX.regionU2 0 rfl rfl ?_
  refine goU ?_
  refine WO.conV (WV.func (both1_ok _ y)) ?_
  rintro _ h7 ⟨rfl,e7⟩
  refine WO.nil ?_
  refine uK2_e e7 yC ?_
  have S2:=S.enter e7
  refine goU ?_
  refine WO.conV (WV.func (both2_ok _ (inC h7) bb p5 p6 fv f hf out ⟨0,0⟩ y y.pos S2 (by decide) y1 (by omega) (hfz _ _ (by decide) y1) ⟨y2,y3⟩ (Nat.le_refl _))) ?_
  rintro _ h3 ⟨S3,n3,w3,f3⟩
  refine WO.nil ?_
  refine uK2_w (fun k hk=> ?_) n3 ?_
  ·rcases w3 k hk with h|h
   ·cases h
   ·have h:hB.n≤k:=h
    omega
  have S4:=S3.leave e16
  have o84:OwnC hB (outC h6 h3) p8 [I 0,W 0]:=f3 p8 _ (by have:=OwnC.ext (h:=inC (zG 0 h6)) o8 e7;exact this) h86 hb8
  generalize outC h6 h3=h8 at S4 o84 ⊢
  obtain⟨vb2,hsl,kb2⟩:=slr_tail (i:=1) kb hBl (by omega)
  refine goU ?_
  refine WO.slLo (i:=1) (hy:=rfl) hsl ?_
  refine go ?_
  have hpl:=putL_len (p:=y.pos) (v:=f 0 y.bits) (out:=out)
  have hdl:(b.drop 1).length=b.length - 1:=List.length_drop ..
  refine zx (a,b.drop 1) (by simp only;omega) ⟨va',vb2,_,sl_,sl_,ka,kb2,S4,o84,⟨?_⟩,la,by simp only;omega,by simp only;omega⟩
  rw[putL_putW];exact hI.out
 have hI:=Hid.mk (hI.out.trans (congrArg (out++·) (hmc.out (by omega))))
 clear hma hmb hmc
 refine goU ?_
 generalize outC h5 (inC h4)=h6 at e6 ⊢
 clear kaX kbX o8X pcaX pcbX kaY pcaY
 have S:=S.ext e6
 have o8:=o8.ext e6
 have e16:=e15.trans e6
 have hmB:h6.mark≤hB.n:=by have:=e16.mark;omega
 have kaX:SlW (inC (zG 0 h6)) va' a:=by have:=SlW.ext ka5 e6;exact this
 have kbX:SlW (inC (zG 0 h6)) vb' b:=by have:=SlW.ext kb5 e6;exact this
 have o8X:OwnC hB (inC (zG 0 h6)) p8 [I 0,W 0]:=o8
 have pcaX:Piece (inC (zG 0 h6)) va' (0 * 2) [I x.pos,W x.bits]:=by have:=(pca _ (e5.trans e6)).2;exact this
 have pcbX:Piece (inC (zG 0 h6)) vb' (0 * 2) [I y.pos,W y.bits]:=by have:=(pcb _ (e5.trans e6)).2;exact this
 refine WX.regionU2 0 rfl rfl ?_
 refine goU ?_
 refine WO.conV (WV.func (both1_ok _ x)) ?_
 rintro _ h7 ⟨rfl,e7⟩
 refine WO.nil ?_
 refine uK2_e e7 yC ?_
 have S2:=S.enter e7
 refine goU ?_
 refine WO.conV (WV.func (both2_ok _ (inC h7) bb p5 p6 fv f hf out x y x.pos S2 x1 y1 (by omega) (hfz _ _ x1 y1) ⟨x2,x3⟩ (Nat.le_refl _))) ?_
 rintro _ h3 ⟨S3,n3,w3,f3⟩
 refine WO.nil ?_
 refine uK2_w (fun k hk=> ?_) n3 ?_
 ·rcases w3 k hk with h|h
  ·cases h
  ·have h:hB.n≤k:=h
   omega
 have S4:=S3.leave e16
 have o84:OwnC hB (outC h6 h3) p8 [I 0,W 0]:=f3 p8 _ (by have:=OwnC.ext (h:=inC (zG 0 h6)) o8 e7;exact this) h86 hb8
 generalize outC h6 h3=h8 at S4 o84 ⊢
 obtain⟨va2,hsa2,ka2⟩:=slr_tail (i:=1) ka hA (by omega)
 obtain⟨vb2,hsb2,kb2⟩:=slr_tail (i:=1) kb hBl (by omega)
 refine goU ?_
 refine WO.slLo (i:=1) (hy:=rfl) hsa2 ?_
 refine go ?_
 refine WO.slLo (i:=1) (hy:=rfl) hsb2 ?_
 refine go ?_
 have hpl:=putL_len (p:=x.pos) (v:=f x.bits y.bits) (out:=out)
 have hda:(a.drop 1).length=a.length - 1:=List.length_drop ..
 have hdb:(b.drop 1).length=b.length - 1:=List.length_drop ..
 refine zx (a.drop 1,b.drop 1) (by simp only;omega) ⟨va2,vb2,_,sl_,sl_,ka2,kb2,S4,o84,⟨?_⟩,by simp only;omega,by simp only;omega,by simp only;omega⟩
 rw[putL_putW];exact hI.out
end Go.Proofs.YtejjibilgmlhdaaDoor
namespace Go.Proofs.YtejjibilgmlhdaaDoor
open Go.Am
set_option linter.unusedVariables false
set_option linter.unusedSimpArgs false
set_option maxHeartbeats 1000000
def bothE (A B:List LWd):Int:=if zQ (-1) A&&zQ (-1) B then 0 else 8
def bothL (f:Nat→Nat→Nat) (A B:List LWd):List LWd:=if zQ (-1) A&&zQ (-1) B then zN f A B else []
def MineW (h h':AHeap) (v:Value) (s:List LWd):Prop:=∃ b,h.n≤b∧OwnW b h' v s
theorem MineW.sl {h h' v s} (m:MineW h h' v s):SlW h' v s:=let ⟨_,_,o⟩:=m;OwnR.sl o
theorem MineW.ext {h h1 h2 v s} (m:MineW h h1 v s) (e:Ext h1 h2):MineW h h2 v s:=let ⟨b,hb,o⟩:=m;⟨b,hb,OwnR.ext o e⟩
theorem MineW.nil {h h':AHeap}:MineW h h' (.slice none 0 0) []:=⟨h.n,Nat.le_refl _,OwnR.nil⟩
section
variable {P:Program} {tab:Tab} {t:Trie Value} {h:AHeap} {ds:List Deferred} {rd:Option Nat} {l:List AOper} {Q:AFr→AHeap→Prop}
theorem WO.max2 {d:Nat} {x y:Operand} {a b r:Int} (hr:r=if a<b then b else a) (k:WO P tab l ⟨t.set d (I r),ds,rd⟩ h Q) (hx:Ope t x (I a):=by exact ope_) (hy:Ope t y (I b):=by exact ope_):WO P tab (⟨some d,none,.maxmin true [x,y]⟩::l) ⟨t,ds,rd⟩ h Q:=by
 have hx:ev t x=I a:=hx
 have hy:ev t y=I b:=hy
 refine WO.op (I r) h rfl ?_ k
 subst hr
 simp only[aop,hx,hy,List.map_cons,List.map_nil]
 rfl
end
noncomputable def body35:ACode:=(.seq (.region [⟨some 5,none,(.box (.tmp 2))⟩,⟨some 6,none,(.alloc [(.slice none 0 0)])⟩,⟨some 7,none,(.mov (.const (.int .i64 0)))⟩]) (.seq (.seq (.region [⟨some 9,none,(.mov (.tmp 0))⟩,⟨some 10,none,(.call (.func 15) [(.tmp 9)])⟩,⟨some 11,none,(.mov (.tmp 1))⟩,⟨some 12,none,(.call (.func 15) [(.tmp 11)])⟩,⟨some 13,none,(.maxmin true [(.tmp 10),(.tmp 12)])⟩,⟨some 8,none,(.mov (.tmp 13))⟩]) (.seq (.region [⟨some 14,none,(.mov (.tmp 8))⟩,⟨some 15,none,(.bin .neq (.tmp 14) (.const (.int .i64 0)))⟩]) (.cond (.tmp 15) (.seq (.region [⟨some 16,none,(.mov (.tmp 8))⟩,⟨none,none,(.store 1 (.tmp 6) (.const (.slice none 0 0)))⟩,⟨some 7,none,(.mov (.tmp 16))⟩]) .ret) .skip))) (.seq (.region [⟨some 17,none,(.mov (.tmp 0))⟩,⟨some 18,none,(.mov (.tmp 1))⟩,⟨some 19,none,(.mkFunc (.func 46) [] [(.tmp 5),(.tmp 6)])⟩,⟨some 20,none,(.call (.func 44) [(.tmp 17),(.tmp 18),(.func 45),(.tmp 19)])⟩]) (.seq (.region [⟨some 21,none,(.load false 1 (.tmp 6))⟩,⟨none,none,(.store 1 (.tmp 6) (.tmp 21))⟩,⟨some 7,none,(.mov (.const (.int .i64 0)))⟩]) .ret))))
set_option maxRecDepth 100000 in
theorem tab35:tb.code 35=some ⟨22,[(6,some (false,1)),(7,none)],body35⟩:=by kernel_rfl
theorem both_ok (h:AHeap) (va vb fv:Value) (f:Nat→Nat→Nat) (hf:DoOk fv f) (hfz:∀ x y,x<18446744073709551616→y<18446744073709551616→f x y<18446744073709551616) (hfc:fv.cells=#[fv]) (A B:List LWd) (ka:SlW h va A) (kb:SlW h vb B) (la:A.length≤1000) (lb:B.length≤1000) (hm:h.mark≤h.n):
  WC Tryd.prog tb 35 [va,vb,fv] h fun r h'=>(∃ v,r= .tuple #[v,I (bothE A B)]∧MineW h h' v (bothL f A B))∧Ext h h':=by
 refine WC.of (nostub 35) tab35 ?_;simp only[mkTm,Nat.zero_add,Nat.reduceAdd]
 refine go ?_
 refine WO.bx ?_
 intro p5 h1 e1 o5
 rw[hfc]at o5
 have o5:OwnC h h1 p5 [fv]:=o5
 refine go ?_
 refine WO.al ?_
 intro p6 h2 e2 o6
 have o5':=o5.ext e2
 have e12:=e1.trans e2
 have hne:p5≠p6:=fun e=>by
  obtain⟨g,_,g2,a,_⟩:=o5
  obtain⟨g',g1,_,b,_⟩:=o6
  rw[a,b]at e;cases e;omega
 have ka2:=SlW.ext ka e12
 refine go ?_
 refine WO.con (check_ok h2 va A ka2 (by omega)) ?_
 rintro _ h3 ⟨rfl,e3⟩
 have kb3:=SlW.ext kb (e12.trans e3)
 refine go ?_
 refine WO.con (check_ok h3 vb B kb3 (by omega)) ?_
 rintro _ h4 ⟨rfl,e4⟩
 have e14:=e12.trans (e3.trans e4)
 have o5:=o5'.ext (e3.trans e4)
 have o6:=o6.ext (e3.trans e4)
 have o6h:=o6.since e1
 have hm4:h4.mark≤h4.n:=by have:=e14.mark;have:=e14.n;omega
 refine go ?_
 refine WO.max2 (a:=errW (zQ (-1) A)) (b:=errW (zQ (-1) B)) (r:=bothE A B) (by unfold bothE errW;cases zQ (-1) A<;>cases zQ (-1) B<;>rfl) ?_
 have hE:bothE A B=if (zQ (-1) A&&zQ (-1) B)=true then 0 else 8:=rfl
 have hL:bothL f A B=if (zQ (-1) A&&zQ (-1) B)=true then zN f A B else []:=rfl
 by_cases hc:(zQ (-1) A&&zQ (-1) B)=true
 ·rw[if_pos hc]at hE hL
  rw[hE,hL]
  refine go ?_
  refine WO.con (merge_ok h h4 va vb p5 p6 fv f hf hfz A B ka kb la lb e14 hm o5 o6h hne) ?_
  rintro _ h5 ⟨e5,v,b,hb,o65,ow,h6b⟩
  obtain⟨va',vn',vk',rfl,hvn⟩:=ownR_shape ow
  refine go ?_
  refine WO.stC0 (cs:=[.slice va' vn' vk']) o65 e5 ?_
  intro h6 e6 o66 u6
  refine go ?_
  refine rt (vs:=[.slice va' vn' vk',I 0]) ?_ (Res.consB sl_ o66 rfl (Res.cons sl_ Res.nil))
  exact⟨⟨_,rfl,b,hb,OwnR.upd ow (fun k k1 k2=>u6.2 k k2 fun e=>by have:=h6b k e;omega) u6.1⟩,e6⟩
 ·rw[if_neg hc]at hE hL
  rw[hE,hL]
  refine go ?_
  refine WO.stC0 (cs:=[.slice none 0 0]) o6h e14 ?_
  intro h6 e6 o66 u6
  refine go ?_
  refine rt (vs:=[.slice none 0 0,I 8]) ?_ (Res.consB sl_ o66 rfl (Res.cons sl_ Res.nil))
  exact⟨⟨_,rfl,MineW.nil⟩,e6⟩
theorem bit_or:Bitw (fun a b=>a|||b) (fun a b=>a||b):=⟨rfl,fun a b ha hb=>⟨(u_or ha hb).2,fun i=>Nat.testBit_or ..⟩⟩
theorem bit_and:Bitw (fun a b=>a&&& b) (fun a b=>a&&b):=⟨rfl,fun a b ha hb=>⟨Nat.lt_of_le_of_lt Nat.and_le_left ha,fun i=>Nat.testBit_and ..⟩⟩
theorem bit_not:Bitw notN (fun a b=>a&& !b):=⟨rfl,fun a b ha hb=>(u_notN ha hb).2⟩
noncomputable def body20:ACode:=(.seq (.region [⟨some 4,none,(.mov (.const (.slice none 0 0)))⟩,⟨some 5,none,(.mov (.const (.int .i64 0)))⟩]) (.seq (.region [⟨some 6,none,(.mov (.tmp 0))⟩,⟨some 7,none,(.mov (.tmp 1))⟩,⟨some 8,none,(.call (.func 35) [(.tmp 6),(.tmp 7),(.func 36)])⟩,⟨some 9,none,(.extract (.tmp 8) 0)⟩,⟨some 10,none,(.extract (.tmp 8) 1)⟩,⟨some 4,none,(.mov (.tmp 9))⟩,⟨some 5,none,(.mov (.tmp 10))⟩]) .ret))
set_option maxRecDepth 100000 in
theorem tab20:tb.code 20=some ⟨11,[(4,none),(5,none)],body20⟩:=by kernel_rfl
theorem or_ok (h:AHeap) (va vb:Value) (A B:List LWd) (ka:SlW h va A) (kb:SlW h vb B) (la:A.length≤1000) (lb:B.length≤1000) (hm:h.mark≤h.n):
  WC Tryd.prog tb 20 [va,vb] h fun r h'=>(∃ v,r= .tuple #[v,I (bothE A B)]∧MineW h h' v (bothL (fun a b=>a|||b) A B))∧Ext h h':=by
 refine WC.of (nostub 20) tab20 ?_;simp only[mkTm,Nat.zero_add,Nat.reduceAdd]
 refine go ?_
 refine WO.con (both_ok h va vb (.func (.func 36) #[] #[]) (fun a b=>a|||b) (fun h a b ha hb=>WV.func (or1_ok h a b ha hb)) (fun x y hx hy=>(bit_or.bit x y hx hy).1) rfl A B ka kb la lb hm) ?_
 rintro _ h1 ⟨⟨v,rfl,m⟩,e1⟩
 refine go ?_
 refine rt ?_
 exact⟨⟨v,rfl,m⟩,e1⟩
noncomputable def body21:ACode:=(.seq (.region [⟨some 4,none,(.mov (.const (.slice none 0 0)))⟩,⟨some 5,none,(.mov (.const (.int .i64 0)))⟩]) (.seq (.region [⟨some 6,none,(.mov (.tmp 0))⟩,⟨some 7,none,(.mov (.tmp 1))⟩,⟨some 8,none,(.call (.func 35) [(.tmp 6),(.tmp 7),(.func 37)])⟩,⟨some 9,none,(.extract (.tmp 8) 0)⟩,⟨some 10,none,(.extract (.tmp 8) 1)⟩,⟨some 4,none,(.mov (.tmp 9))⟩,⟨some 5,none,(.mov (.tmp 10))⟩]) .ret))
set_option maxRecDepth 100000 in
theorem tab21:tb.code 21=some ⟨11,[(4,none),(5,none)],body21⟩:=by kernel_rfl
theorem and_ok (h:AHeap) (va vb:Value) (A B:List LWd) (ka:SlW h va A) (kb:SlW h vb B) (la:A.length≤1000) (lb:B.length≤1000) (hm:h.mark≤h.n):
  WC Tryd.prog tb 21 [va,vb] h fun r h'=>(∃ v,r= .tuple #[v,I (bothE A B)]∧MineW h h' v (bothL (fun a b=>a&&& b) A B))∧Ext h h':=by
 refine WC.of (nostub 21) tab21 ?_;simp only[mkTm,Nat.zero_add,Nat.reduceAdd]
 refine go ?_
 refine WO.con (both_ok h va vb (.func (.func 37) #[] #[]) (fun a b=>a&&& b) (fun h a b ha hb=>WV.func (and1_ok h a b ha hb)) (fun x y hx hy=>(bit_and.bit x y hx hy).1) rfl A B ka kb la lb hm) ?_
 rintro _ h1 ⟨⟨v,rfl,m⟩,e1⟩
 refine go ?_
 refine rt ?_
 exact⟨⟨v,rfl,m⟩,e1⟩
noncomputable def body22:ACode:=(.seq (.region [⟨some 4,none,(.mov (.const (.slice none 0 0)))⟩,⟨some 5,none,(.mov (.const (.int .i64 0)))⟩]) (.seq (.region [⟨some 6,none,(.mov (.tmp 0))⟩,⟨some 7,none,(.mov (.tmp 1))⟩,⟨some 8,none,(.call (.func 35) [(.tmp 6),(.tmp 7),(.func 38)])⟩,⟨some 9,none,(.extract (.tmp 8) 0)⟩,⟨some 10,none,(.extract (.tmp 8) 1)⟩,⟨some 4,none,(.mov (.tmp 9))⟩,⟨some 5,none,(.mov (.tmp 10))⟩]) .ret))
set_option maxRecDepth 100000 in
theorem tab22:tb.code 22=some ⟨11,[(4,none),(5,none)],body22⟩:=by kernel_rfl
theorem minus_ok (h:AHeap) (va vb:Value) (A B:List LWd) (ka:SlW h va A) (kb:SlW h vb B) (la:A.length≤1000) (lb:B.length≤1000) (hm:h.mark≤h.n):
  WC Tryd.prog tb 22 [va,vb] h fun r h'=>(∃ v,r= .tuple #[v,I (bothE A B)]∧MineW h h' v (bothL notN A B))∧Ext h h':=by
 refine WC.of (nostub 22) tab22 ?_;simp only[mkTm,Nat.zero_add,Nat.reduceAdd]
 refine go ?_
 refine WO.con (both_ok h va vb (.func (.func 38) #[] #[]) notN (fun h a b ha hb=>WV.func (minus1_ok h a b ha hb)) (fun x y hx hy=>(bit_not.bit x y hx hy).1) rfl A B ka kb la lb hm) ?_
 rintro _ h1 ⟨⟨v,rfl,m⟩,e1⟩
 refine go ?_
 refine rt ?_
 exact⟨⟨v,rfl,m⟩,e1⟩
end Go.Proofs.YtejjibilgmlhdaaDoor
namespace Go.Proofs.YtejjibilgmlhdaaDoor
open Go.Am
set_option linter.unusedVariables false
set_option linter.unusedSimpArgs false
set_option maxHeartbeats 1000000
end Go.Proofs.YtejjibilgmlhdaaDoor
namespace Go.Proofs.YtejjibilgmlhdaaDoor
open Go.Am
set_option linter.unusedVariables false
set_option linter.unusedSimpArgs false
set_option maxHeartbeats 1000000
structure ExtN (h h':AHeap):Prop where
 n:h.n≤h'.n
 get:∀ g,g<h.n→h'.get g=h.get g
 wf:Wf h→Wf h'
theorem ExtN.of {h h':AHeap} (e:Ext h h'):ExtN h h':=⟨e.n,e.get,e.wf⟩
theorem ExtN.refl (h:AHeap):ExtN h h:=⟨Nat.le_refl _,fun _ _=>rfl,id⟩
theorem ExtN.trans {a b c:AHeap} (h:ExtN a b) (k:ExtN b c):ExtN a c:=⟨Nat.le_trans h.n k.n,fun g hg=>(k.get g (Nat.lt_of_lt_of_le hg h.n)).trans (h.get g hg),fun w=>k.wf (h.wf w)⟩
theorem ExtN.to {h h':AHeap} (e:ExtN h h'):Ext {h with mark:=h'.mark,wr:=h'.wr} h':=⟨e.n,e.get,fun w=>e.wf w,rfl,fun _=>rfl⟩
theorem ExtN.outC {h h1 h':AHeap} (e:Ext h h1) (k:ExtN h h'):Ext h (outC h1 h'):=⟨k.n,k.get,fun w=>k.wf w,e.mark,fun hm=>e.wr hm⟩
end Go.Proofs.YtejjibilgmlhdaaDoor
namespace Go.Proofs.YtejjibilgmlhdaaDoor
open Go.Am
set_option linter.unusedVariables false
set_option linter.unusedSimpArgs false
set_option maxHeartbeats 1000000
theorem Upto.perm {s:List LWd} {xs ys:List Int} (u:Upto s xs) (h:∀ n,n∈xs↔n∈ys):Upto s ys:=⟨u.ok,fun n=>(u.mem n).trans (h n)⟩
end Go.Proofs.YtejjibilgmlhdaaDoor
namespace Go.Proofs.YtejjibilgmlhdaaDoor
open Go.Am
set_option maxRecDepth 1000000 in
theorem ev0_alive:(aexK Tryd.prog (codeTab Tryd.prog) 400).call 19 [] (heapL Tryd.prog.globals.size [(0,tzV)]) (fun v _=>some v)=some (.bool true):=by kernel_rfl
theorem ev_alive:((aex Tryd.prog (codeTab Tryd.prog) 400).call 19 [] (heapL Tryd.prog.globals.size [(0,tzV)])).map (·.1)=some (.bool true):=run_fast ev0_alive
set_option maxRecDepth 1000000 in
theorem alive_closed:([(0,tzV)]:List (Nat×List Value)).all (fun x=>Nat.ble (x.1+1) Tryd.prog.globals.size&&zw x.2)=true:=by kernel_rfl
set_option maxRecDepth 1000000 in
theorem tb_ok:tb.Ok Tryd.prog where
 code:=fun _ _ h=>h
 stub:=fun f s hs=>by
  have hs:(if f=19 then some (known [(0,tzV)] (.bool true)) else none)=some s:=hs
  split at hs
  ·rename_i e;subst e;cases hs
   exact known_sound Tryd.checked.mixed (codeTab_ok _) rfl (fun x hx=>by
    have h1:=List.all_eq_true.1 alive_closed x hx
    rw[Bool.and_eq_true]at h1
    exact⟨Nat.le_of_ble_eq_true h1.1,h1.2⟩) ev_alive
  ·cases hs
 grow:=fun f s hs args h v h' hk=>by
  have hs:(if f=19 then some (known [(0,tzV)] (.bool true)) else none)=some s:=hs
  split at hs
  ·cases hs;exact known_grow args h v h' hk
  ·cases hs
end Go.Proofs.YtejjibilgmlhdaaDoor
namespace Go.Proofs.YtejjibilgmlhdaaDoor
open Go.Am
set_option linter.unusedVariables false
set_option linter.unusedSimpArgs false
set_option maxHeartbeats 2000000
theorem yF (f:Nat→Nat→Nat):∀ A B:List LWd,(zN f A B).length≤A.length+B.length
 |[],[]=>by rw[zN];exact Nat.le_refl _
 |x::a,[]=>by
  have:=yF f a []
  rw[zN];unfold putW;split<;>simp only[List.length_cons,List.length_nil]at * <;>omega
 |[],y::b=>by
  have:=yF f [] b
  rw[zN];unfold putW;split<;>simp only[List.length_cons,List.length_nil]at * <;>omega
 |x::a,y::b=>by
  rw[zN]
  have h1:=yF f a (y::b)
  have h2:=yF f (x::a) b
  have h3:=yF f a b
  unfold putW
  split
  ·split<;>simp only[List.length_cons]at * <;>omega
  ·split
   ·split<;>simp only[List.length_cons]at * <;>omega
   ·split<;>simp only[List.length_cons]at * <;>omega
 termination_by A B=>A.length+B.length
theorem check_of {s:List LWd} (h:OkW s):zQ (-1) s=true:=(okW_iff h.bd).2 h
abbrev orL (A B:List LWd):=zN (fun a b=>a|||b) A B
abbrev andL (A B:List LWd):=zN (fun a b=>a&&& b) A B
abbrev minL (A B:List LWd):=zN notN A B
theorem or_is {A B:List LWd} (ha:OkW A) (hb:OkW B):OkW (orL A B)∧∀ n,inB (orL A B) n=(inB A n||inB B n):=let ⟨a,b,_⟩:=mergeL_is bit_or ha hb;⟨a,b⟩
theorem and_is {A B:List LWd} (ha:OkW A) (hb:OkW B):OkW (andL A B)∧∀ n,inB (andL A B) n=(inB A n&&inB B n):=let ⟨a,b,_⟩:=mergeL_is bit_and ha hb;⟨a,b⟩
theorem min_is {A B:List LWd} (ha:OkW A) (hb:OkW B):OkW (minL A B)∧∀ n,inB (minL A B) n=(inB A n&& !inB B n):=let ⟨a,b,_⟩:=mergeL_is bit_not ha hb;⟨a,b⟩
theorem bothE_ok {A B:List LWd} (ha:OkW A) (hb:OkW B):bothE A B=0:=by unfold bothE;rw[check_of ha,check_of hb];rfl
theorem bothL_ok {f:Nat→Nat→Nat} {A B:List LWd} (ha:OkW A) (hb:OkW B):bothL f A B=zN f A B:=by unfold bothL;rw[check_of ha,check_of hb];rfl
theorem hasE_ok {A:List LWd} {n:Int} (ha:OkW A) (hn:0≤n∧n<1048576):hasE A n=0:=by unfold hasE;rw[if_pos (check_of ha),if_pos hn]
theorem hasB_ok {A:List LWd} {n:Int} (ha:OkW A) (hn:0≤n∧n<1048576):hasB A n=inB A n:=by unfold hasB;rw[check_of ha,decide_eq_true hn];rfl
section
variable {P:Program} {tab:Tab} {t:Trie Value} {h:AHeap} {ds:List Deferred} {rd:Option Nat} {l:List AOper} {Q:AFr→AHeap→Prop}
theorem WO.maxZ3 {d:Nat} {x y z:Operand} (k:WO P tab l ⟨t.set d (I 0),ds,rd⟩ h Q) (hx:Ope t x (I 0):=by exact ope_) (hy:Ope t y (I 0):=by exact ope_) (hz:Ope t z (I 0):=by exact ope_):WO P tab (⟨some d,none,.maxmin true [x,y,z]⟩::l) ⟨t,ds,rd⟩ h Q:=by
 have hx:ev t x=I 0:=hx
 have hy:ev t y=I 0:=hy
 have hz:ev t z=I 0:=hz
 refine WO.op (I 0) h rfl ?_ k
 simp only[aop,hx,hy,hz,List.map_cons,List.map_nil]
 rfl
end
theorem okk {h v s} (k:SlW h v s) (hc:zQ (-1) s=true):OkW s:=(okW_iff k.bd).1 hc
noncomputable def body4:ACode:=(.seq (.region [⟨some 6,none,(.mov (.const (.bool false)))⟩]) (.seq (.region [⟨some 24,none,(.call (.func 19) [])⟩,⟨some 7,none,(.mov (.tmp 24))⟩]) (.seq (.seq (.region [⟨some 25,none,(.mov (.tmp 0))⟩,⟨some 26,none,(.len (.tmp 25))⟩,⟨some 27,none,(.bin .gtr (.tmp 26) (.const (.int .i64 10)))⟩,⟨some 28,none,(.mov (.tmp 27))⟩,⟨some 29,some (28,false),(.mov (.tmp 1))⟩,⟨some 30,some (28,false),(.len (.tmp 29))⟩,⟨some 31,some (28,false),(.bin .gtr (.tmp 30) (.const (.int .i64 10)))⟩,⟨some 32,none,(.pick (.tmp 28) (.const (.bool true)) (.tmp 31))⟩,⟨some 33,none,(.mov (.tmp 32))⟩,⟨some 34,some (33,false),(.mov (.tmp 0))⟩,⟨some 35,some (33,false),(.call (.func 15) [(.tmp 34)])⟩,⟨some 36,some (33,false),(.bin .neq (.tmp 35) (.const (.int .i64 0)))⟩,⟨some 37,none,(.pick (.tmp 33) (.const (.bool true)) (.tmp 36))⟩,⟨some 38,none,(.mov (.tmp 37))⟩,⟨some 39,some (38,false),(.mov (.tmp 1))⟩,⟨some 40,some (38,false),(.call (.func 15) [(.tmp 39)])⟩,⟨some 41,some (38,false),(.bin .neq (.tmp 40) (.const (.int .i64 0)))⟩,⟨some 42,none,(.pick (.tmp 38) (.const (.bool true)) (.tmp 41))⟩,⟨some 43,none,(.mov (.tmp 42))⟩,⟨some 44,some (43,false),(.mov (.tmp 2))⟩,⟨some 45,some (43,false),(.bin .lss (.tmp 44) (.const (.int .i64 0)))⟩,⟨some 46,none,(.pick (.tmp 43) (.const (.bool true)) (.tmp 45))⟩,⟨some 47,none,(.mov (.tmp 46))⟩,⟨some 48,some (47,false),(.mov (.tmp 2))⟩,⟨some 49,some (47,false),(.bin .geq (.tmp 48) (.const (.int .i64 1048576)))⟩,⟨some 50,none,(.pick (.tmp 47) (.const (.bool true)) (.tmp 49))⟩,⟨some 51,none,(.mov (.tmp 50))⟩,⟨some 52,some (51,false),(.mov (.tmp 7))⟩,⟨some 53,some (51,false),(.un .not (.tmp 52))⟩,⟨some 54,none,(.pick (.tmp 51) (.const (.bool true)) (.tmp 53))⟩]) (.cond (.tmp 54) (.seq (.region [⟨some 55,none,(.mov (.tmp 7))⟩,⟨some 6,none,(.mov (.tmp 55))⟩]) .ret) .skip)) (.seq (.region [⟨some 57,none,(.mov (.tmp 0))⟩,⟨some 58,none,(.mov (.tmp 1))⟩,⟨some 59,none,(.call (.func 20) [(.tmp 57),(.tmp 58)])⟩,⟨some 56,none,(.mov (.tmp 59))⟩,⟨some 60,none,(.extract (.tmp 56) 0)⟩,⟨some 61,none,(.extract (.tmp 56) 1)⟩,⟨some 8,none,(.mov (.tmp 60))⟩,⟨some 9,none,(.mov (.tmp 61))⟩]) (.seq (.region [⟨some 63,none,(.mov (.tmp 0))⟩,⟨some 64,none,(.mov (.tmp 1))⟩,⟨some 65,none,(.call (.func 21) [(.tmp 63),(.tmp 64)])⟩,⟨some 62,none,(.mov (.tmp 65))⟩,⟨some 66,none,(.extract (.tmp 62) 0)⟩,⟨some 67,none,(.extract (.tmp 62) 1)⟩,⟨some 10,none,(.mov (.tmp 66))⟩,⟨some 11,none,(.mov (.tmp 67))⟩]) (.seq (.region [⟨some 69,none,(.mov (.tmp 0))⟩,⟨some 70,none,(.mov (.tmp 1))⟩,⟨some 71,none,(.call (.func 22) [(.tmp 69),(.tmp 70)])⟩,⟨some 68,none,(.mov (.tmp 71))⟩,⟨some 72,none,(.extract (.tmp 68) 0)⟩,⟨some 73,none,(.extract (.tmp 68) 1)⟩,⟨some 12,none,(.mov (.tmp 72))⟩,⟨some 13,none,(.mov (.tmp 73))⟩]) (.seq (.region [⟨some 75,none,(.mov (.tmp 0))⟩,⟨some 76,none,(.mov (.tmp 2))⟩,⟨some 77,none,(.call (.func 10) [(.tmp 75),(.tmp 76)])⟩,⟨some 74,none,(.mov (.tmp 77))⟩,⟨some 78,none,(.extract (.tmp 74) 0)⟩,⟨some 79,none,(.extract (.tmp 74) 1)⟩,⟨some 14,none,(.mov (.tmp 78))⟩,⟨some 15,none,(.mov (.tmp 79))⟩]) (.seq (.region [⟨some 81,none,(.mov (.tmp 1))⟩,⟨some 82,none,(.mov (.tmp 2))⟩,⟨some 83,none,(.call (.func 10) [(.tmp 81),(.tmp 82)])⟩,⟨some 80,none,(.mov (.tmp 83))⟩,⟨some 84,none,(.extract (.tmp 80) 0)⟩,⟨some 85,none,(.extract (.tmp 80) 1)⟩,⟨some 16,none,(.mov (.tmp 84))⟩,⟨some 17,none,(.mov (.tmp 85))⟩]) (.seq (.region [⟨some 87,none,(.mov (.tmp 8))⟩,⟨some 88,none,(.mov (.tmp 2))⟩,⟨some 89,none,(.call (.func 10) [(.tmp 87),(.tmp 88)])⟩,⟨some 86,none,(.mov (.tmp 89))⟩,⟨some 90,none,(.extract (.tmp 86) 0)⟩,⟨some 91,none,(.extract (.tmp 86) 1)⟩,⟨some 18,none,(.mov (.tmp 90))⟩,⟨some 19,none,(.mov (.tmp 91))⟩]) (.seq (.region [⟨some 93,none,(.mov (.tmp 10))⟩,⟨some 94,none,(.mov (.tmp 2))⟩,⟨some 95,none,(.call (.func 10) [(.tmp 93),(.tmp 94)])⟩,⟨some 92,none,(.mov (.tmp 95))⟩,⟨some 96,none,(.extract (.tmp 92) 0)⟩,⟨some 97,none,(.extract (.tmp 92) 1)⟩,⟨some 20,none,(.mov (.tmp 96))⟩,⟨some 21,none,(.mov (.tmp 97))⟩]) (.seq (.region [⟨some 99,none,(.mov (.tmp 12))⟩,⟨some 100,none,(.mov (.tmp 2))⟩,⟨some 101,none,(.call (.func 10) [(.tmp 99),(.tmp 100)])⟩,⟨some 98,none,(.mov (.tmp 101))⟩,⟨some 102,none,(.extract (.tmp 98) 0)⟩,⟨some 103,none,(.extract (.tmp 98) 1)⟩,⟨some 22,none,(.mov (.tmp 102))⟩,⟨some 23,none,(.mov (.tmp 103))⟩]) (.seq (.region [⟨some 104,none,(.mov (.tmp 7))⟩,⟨some 105,none,(.mov (.tmp 104))⟩,⟨some 106,some (105,true),(.mov (.tmp 9))⟩,⟨some 107,some (105,true),(.mov (.tmp 11))⟩,⟨some 108,some (105,true),(.mov (.tmp 13))⟩,⟨some 109,some (105,true),(.maxmin true [(.tmp 106),(.tmp 107),(.tmp 108)])⟩,⟨some 110,some (105,true),(.bin .eql (.tmp 109) (.const (.int .i64 0)))⟩,⟨some 111,none,(.pick (.tmp 105) (.tmp 110) (.const (.bool false)))⟩,⟨some 112,none,(.mov (.tmp 111))⟩,⟨some 113,some (112,true),(.mov (.tmp 15))⟩,⟨some 114,some (112,true),(.mov (.tmp 17))⟩,⟨some 115,some (112,true),(.mov (.tmp 19))⟩,⟨some 116,some (112,true),(.maxmin true [(.tmp 113),(.tmp 114),(.tmp 115)])⟩,⟨some 117,some (112,true),(.bin .eql (.tmp 116) (.const (.int .i64 0)))⟩,⟨some 118,none,(.pick (.tmp 112) (.tmp 117) (.const (.bool false)))⟩,⟨some 119,none,(.mov (.tmp 118))⟩,⟨some 120,some (119,true),(.mov (.tmp 21))⟩,⟨some 121,some (119,true),(.mov (.tmp 23))⟩,⟨some 122,some (119,true),(.maxmin true [(.tmp 120),(.tmp 121)])⟩,⟨some 123,some (119,true),(.bin .eql (.tmp 122) (.const (.int .i64 0)))⟩,⟨some 124,none,(.pick (.tmp 119) (.tmp 123) (.const (.bool false)))⟩,⟨some 125,none,(.mov (.tmp 124))⟩,⟨some 126,some (125,true),(.mov (.tmp 18))⟩,⟨some 127,some (125,true),(.mov (.tmp 14))⟩,⟨some 128,some (125,true),(.mov (.tmp 127))⟩,⟨some 129,some (128,false),(.mov (.tmp 16))⟩,⟨some 130,some (125,true),(.pick (.tmp 128) (.const (.bool true)) (.tmp 129))⟩,⟨some 131,some (125,true),(.binB false (.tmp 126) (.tmp 130))⟩,⟨some 132,none,(.pick (.tmp 125) (.tmp 131) (.const (.bool false)))⟩,⟨some 133,none,(.mov (.tmp 132))⟩,⟨some 134,some (133,true),(.mov (.tmp 20))⟩,⟨some 135,some (133,true),(.mov (.tmp 14))⟩,⟨some 136,some (133,true),(.mov (.tmp 135))⟩,⟨some 137,some (136,true),(.mov (.tmp 16))⟩,⟨some 138,some (133,true),(.pick (.tmp 136) (.tmp 137) (.const (.bool false)))⟩,⟨some 139,some (133,true),(.binB false (.tmp 134) (.tmp 138))⟩,⟨some 140,none,(.pick (.tmp 133) (.tmp 139) (.const (.bool false)))⟩,⟨some 141,none,(.mov (.tmp 140))⟩,⟨some 142,some (141,true),(.mov (.tmp 22))⟩,⟨some 143,some (141,true),(.mov (.tmp 14))⟩,⟨some 144,some (141,true),(.mov (.tmp 143))⟩,⟨some 145,some (144,true),(.mov (.tmp 16))⟩,⟨some 146,some (144,true),(.un .not (.tmp 145))⟩,⟨some 147,some (141,true),(.pick (.tmp 144) (.tmp 146) (.const (.bool false)))⟩,⟨some 148,some (141,true),(.binB false (.tmp 142) (.tmp 147))⟩,⟨some 149,none,(.pick (.tmp 141) (.tmp 148) (.const (.bool false)))⟩,⟨some 6,none,(.mov (.tmp 149))⟩]) .ret))))))))))))
set_option maxRecDepth 100000 in
theorem tab4:tb.code 4=some ⟨150,[(6,none)],body4⟩:=by kernel_rfl
theorem BitsMembers_ok (h:AHeap) (va:Value) (A:List LWd) (vb:Value) (B:List LWd) (n:Int) (T:TzT h) (hm:h.mark≤h.n) (ka:SlW h va A) (kb:SlW h vb B) (la:(A.length:Int)≤1152921504606846976) (lb:(B.length:Int)≤1152921504606846976):
  WC Tryd.prog tb 4 [va,vb,I n] h fun r _=>r= .bool true:=by
 refine WC.of (nostub 4) tab4 ?_;simp only[mkTm,Nat.zero_add,Nat.reduceAdd]
 refine go ?_
 refine WO.con (alive_ok h T.1) ?_
 rintro _ _ ⟨rfl,rfl⟩
 by_cases c1:10<(A.length:Int)
 ·refine go ?_
  refine rt ?_
  rfl
 by_cases c2:10<(B.length:Int)
 ·refine go ?_
  refine rt ?_
  rfl
 refine go ?_
 refine WO.con (check_ok h va A ka (by omega)) ?_
 rintro _ h1 ⟨rfl,e1⟩
 by_cases hca:zQ (-1) A=true
 case neg=>
  have hca:zQ (-1) A=false:=by simpa using hca
  rw[hca,show errW false=8 from rfl]
  refine go ?_
  refine rt ?_
  rfl
 have oa:=okk ka hca
 rw[hca,show errW true=0 from rfl]
 have kb1:=SlW.ext kb e1
 refine go ?_
 refine WO.con (check_ok h1 vb B kb1 (by omega)) ?_
 rintro _ h2 ⟨rfl,e2⟩
 by_cases hcb:zQ (-1) B=true
 case neg=>
  have hcb:zQ (-1) B=false:=by simpa using hcb
  rw[hcb,show errW false=8 from rfl]
  refine go ?_
  refine rt ?_
  rfl
 have ob:=okk kb hcb
 rw[hcb,show errW true=0 from rfl]
 by_cases c3:n<0
 ·refine go ?_
  refine rt ?_
  rfl
 by_cases c4:1048576≤n
 ·refine go ?_
  refine rt ?_
  rfl
 have hn:0≤n∧n<1048576:=by omega
 have e12:=e1.trans e2
 have hm2:h2.mark≤h2.n:=by have:=e12.mark;have:=e12.n;omega
 have oE:=bothE_ok oa ob
 obtain⟨oo,io⟩:=or_is oa ob
 obtain⟨od,id'⟩:=and_is oa ob
 obtain⟨om,im⟩:=min_is oa ob
 have lo:=yF (fun a b=>a|||b) A B
 have ld:=yF (fun a b=>a&&& b) A B
 have lm:=yF notN A B
 have ka2:=SlW.ext ka e12
 have kb2:=SlW.ext kb e12
 refine go ?_
 refine WO.con (or_ok h2 va vb A B ka2 kb2 (by omega) (by omega) hm2) ?_
 rintro _ h3 ⟨⟨x,rfl,mx⟩,e3⟩
 rw[oE]
 rw[bothL_ok oa ob]at mx
 have hm3:h3.mark≤h3.n:=by have:=e3.mark;have:=e3.n;omega
 refine go ?_
 refine WO.con (and_ok h3 va vb A B (SlW.ext ka2 e3) (SlW.ext kb2 e3) (by omega) (by omega) hm3) ?_
 rintro _ h4 ⟨⟨y,rfl,my⟩,e4⟩
 rw[oE]
 rw[bothL_ok oa ob]at my
 have hm4:h4.mark≤h4.n:=by have:=e4.mark;have:=e4.n;omega
 have e34:=e3.trans e4
 refine go ?_
 refine WO.con (minus_ok h4 va vb A B (SlW.ext ka2 e34) (SlW.ext kb2 e34) (by omega) (by omega) hm4) ?_
 rintro _ h5 ⟨⟨z,rfl,mz⟩,e5⟩
 rw[oE]
 rw[bothL_ok oa ob]at mz
 have e35:=e34.trans e5
 refine go ?_
 refine WO.con (has_ok h5 va A n (SlW.ext ka2 e35) (by omega)) ?_
 rintro _ h6 ⟨rfl,e6⟩
 rw[hasE_ok oa hn,hasB_ok oa hn]
 have e36:=e35.trans e6
 refine go ?_
 refine WO.con (has_ok h6 vb B n (SlW.ext kb2 e36) (by omega)) ?_
 rintro _ h7 ⟨rfl,e7⟩
 rw[hasE_ok ob hn,hasB_ok ob hn]
 refine go ?_
 refine WO.con (has_ok h7 x _ n (SlW.ext mx.sl (e4.trans (e5.trans (e6.trans e7)))) (by omega)) ?_
 rintro _ h8 ⟨rfl,e8⟩
 rw[hasE_ok oo hn,hasB_ok oo hn,io n]
 refine go ?_
 refine WO.con (has_ok h8 y _ n (SlW.ext my.sl (e5.trans (e6.trans (e7.trans e8)))) (by omega)) ?_
 rintro _ h9 ⟨rfl,e9⟩
 rw[hasE_ok od hn,hasB_ok od hn,id' n]
 refine go ?_
 refine WO.con (has_ok h9 z _ n (SlW.ext mz.sl (e6.trans (e7.trans (e8.trans e9)))) (by omega)) ?_
 rintro _ h10 ⟨rfl,e10⟩
 rw[hasE_ok om hn,hasB_ok om hn,im n]
 clear io id' im
 generalize inB A n=ia
 generalize inB B n=ib
 have t1:(true == true)=true:=rfl
 have t2:(false == false)=true:=rfl
 have t3:(true == (true||true))=true:=rfl
 refine go ?_
 refine WO.maxZ3 ?_
 refine go ?_
 refine WO.maxZ3 ?_
 refine go ?_
 refine WO.max2 (a:=0) (b:=0) (r:=0) rfl ?_
 cases ia<;>cases ib<;>simp only[Bool.or_false,Bool.or_true,Bool.and_false,Bool.and_true,Bool.or_self,Bool.and_self,Bool.not_true,Bool.not_false]
 all_goals refine go ?_
 all_goals first|rw[t1]|rw[t2]|skip
 all_goals refine go ?_
 all_goals first|rw[t1]|rw[t2]|skip
 all_goals refine go ?_
 all_goals refine rt ?_
 all_goals rfl
end Go.Proofs.YtejjibilgmlhdaaDoor
namespace Go.Proofs.YtejjibilgmlhdaaDoor
open Go.Am
set_option linter.unusedVariables false
set_option linter.unusedSimpArgs false
theorem wf_u64 {n:Int} (h:(Lit.int .u64 n).wf=true):0≤n∧n≤18446744073709551615:=by
 simp[Lit.wf,IntKind.wrap,IntKind.signed,IntKind.bits]at h
 have h1:IntKind.min .u64=0:=by decide
 have h2:IntKind.max .u64=18446744073709551615:=by decide
 omega
theorem wf_i64 {n:Int} (h:(Lit.int .i64 n).wf=true): -9223372036854775808≤n∧n≤9223372036854775807:=by
 simp[Lit.wf,IntKind.wrap,IntKind.signed,IntKind.bits]at h
 have h1:IntKind.min .i64= -9223372036854775808:=by decide
 have h2:IntKind.max .i64=9223372036854775807:=by decide
 omega
theorem lenW2 {l:List Value} (h:l.length=2):∃ a b,l=[a,b]:=by
 match l,h with
 |[a,b],_=>exact⟨a,b,rfl⟩
theorem rd_word {H:Type} {h:AHeap} (cs:List Value) (d:DataW H) (r:Rd Tryd.prog h 52 cs d) (hw:wOk Tryd.prog 52 d):∃ a,RW h cs a:=by
 obtain⟨hl,hr⟩:=rd_structW r Tryd.underlying52 hw
 have hc:Tryd.prog.cellsOf 52=2:=by kernel_rfl
 rw[hc]at hl
 obtain⟨x0,x1,rfl⟩:=lenW2 hl
 obtain⟨d0,r0,w0⟩:=hr 0 _ rfl
 have c0:Tryd.prog.cellsOf 3=1:=by kernel_rfl
 replace r0:Rd Tryd.prog h 3 (([x0,x1].drop 0).take (Tryd.prog.cellsOf 3)) d0:=r0
 rw[c0]at r0
 replace r0:Rd Tryd.prog h 3 [x0] d0:=r0
 obtain⟨d1,r1,w1⟩:=hr 1 _ rfl
 have c1:Tryd.prog.cellsOf 50=1:=by kernel_rfl
 replace r1:Rd Tryd.prog h 50 (([x0,x1].drop 1).take (Tryd.prog.cellsOf 50)) d1:=r1
 rw[c1]at r1
 replace r1:Rd Tryd.prog h 50 [x1] d1:=r1
 obtain⟨a,e0,f0⟩:=rd_int r0 Tryd.underlying3
 cases e0
 obtain⟨b,e1,f1⟩:=rd_int r1 Tryd.underlying50
 cases e1
 have g0:=wf_i64 f0
 have g1:=wf_u64 f1
 obtain⟨m,rfl⟩:∃ m:Nat,b=m:=⟨b.toNat,by omega⟩
 exact⟨⟨a,m⟩,rfl,by simp only;omega,g0.1,g0.2⟩
end Go.Proofs.YtejjibilgmlhdaaDoor
