/- What functions of the program come to in the abstract machine, and plain laws about it; no statement of the seat is proved in this text. -/
import Derived.Test.YtejjibilgmlhdaaDoorAmU
import Derived.Test.YtejjibilgmlhdaaDoorRows
import Derived.Test.YtejjibilgmlhdaaDoorAmV
import Derived.Test.YtejjibilgmlhdaaDoorAmE
namespace Go.Proofs.YtejjibilgmlhdaaDoor
open Go.Am
set_option linter.unusedVariables false
set_option linter.unusedSimpArgs false
structure LWd where
 pos:Int
 bits:Nat
 deriving DecidableEq
instance:Inhabited LWd:=⟨⟨0,0⟩⟩
structure OkW (s:List LWd):Prop where
 rise:s.Pairwise (fun a b=>a.pos<b.pos)
 each:∀ w∈s,0≤w.pos∧w.pos<16384∧w.bits≠0∧w.bits<18446744073709551616
def InW (s:List LWd) (n:Int):Prop:=∃ w∈s,w.pos=n / 64∧w.bits.testBit (n % 64).toNat=true
def bitsL (b:Nat):List Nat:=(List.range 64).filter b.testBit
def zV (s:List LWd):List Int:=s.flatMap fun w=>(bitsL w.bits).map fun k:Nat=>64 * w.pos+(k:Int)
theorem OkW.nil:OkW []:=⟨.nil,fun w h=>by cases h⟩
theorem OkW.tail {w:LWd} {s:List LWd} (h:OkW (w::s)):OkW s:=⟨(List.pairwise_cons.1 h.rise).2,fun x hx=>h.each x (List.mem_cons_of_mem _ hx)⟩
theorem bits_lt {b:Nat} (h:b<18446744073709551616) {k:Nat} (hk:b.testBit k=true):k<64:=by
 by_cases h2:k<64
 ·exact h2
 ·have h3:2 ^ 64≤2 ^ k:=Nat.pow_le_pow_right (by decide) (Nat.le_of_not_lt h2)
  have:b.testBit k=false:=Nat.testBit_lt_two_pow (Nat.lt_of_lt_of_le h h3)
  rw[this]at hk;cases hk
theorem bits_ex {b:Nat} (h:b≠0):∃ k,b.testBit k=true:=by
 by_cases h2:∃ k,b.testBit k=true
 ·exact h2
 ·exact absurd (Nat.eq_of_testBit_eq fun i=>by
   rw[Nat.zero_testBit]
   cases hb:b.testBit i with
   |false=>rfl
   |true=>exact absurd ⟨i,hb⟩ h2) h
theorem mem_bitsL {b k:Nat}:k∈bitsL b↔k<64∧b.testBit k=true:=by
 unfold bitsL;rw[List.mem_filter,List.mem_range]
theorem bitsL_rise (b:Nat):(bitsL b).Pairwise (·<·):=List.Pairwise.filter _ List.pairwise_lt_range
theorem InW.range {s:List LWd} (h:OkW s) {n:Int} (k:InW s n):0≤n∧n<1048576:=by
 obtain⟨w,hw,e,_⟩:=k
 have:=h.each w hw
 omega
theorem inW_cons {w:LWd} {s:List LWd} {n:Int}:InW (w::s) n↔(w.pos=n / 64∧w.bits.testBit (n % 64).toNat=true)∨InW s n:=by
 unfold InW;simp
theorem inW_tail {w:LWd} {s:List LWd} (h:OkW (w::s)) {n:Int}:InW s n↔InW (w::s) n∧w.pos≠n / 64:=by
 rw[inW_cons]
 constructor
 ·rintro⟨x,hx,e,hb⟩
  have:=(List.pairwise_cons.1 h.rise).1 x hx
  exact⟨.inr ⟨x,hx,e,hb⟩,by omega⟩
 ·rintro⟨⟨e,_⟩|k,hne⟩
  ·exact absurd e hne
  ·exact k
theorem InW.le {w:LWd} {s:List LWd} (h:OkW (w::s)) {n:Int} (k:InW (w::s) n):w.pos≤n / 64:=by
 rcases inW_cons.1 k with ⟨e,_⟩|⟨x,hx,e,_⟩
 ·omega
 ·have:=(List.pairwise_cons.1 h.rise).1 x hx;omega
theorem inW_head {w:LWd} {s:List LWd} (h:OkW (w::s)):∃ n,InW (w::s) n∧n / 64=w.pos:=by
 obtain⟨a,b,c,d⟩:=h.each w (List.mem_cons_self ..)
 obtain⟨k,hk⟩:=bits_ex c
 have hk2:=bits_lt d hk
 refine⟨64 * w.pos+k,inW_cons.2 (.inl ⟨by omega,?_⟩),by omega⟩
 rw[show ((64 * w.pos+(k:Int)) % 64).toNat=k by omega];exact hk
theorem inW_at {w:LWd} {s:List LWd} (h:OkW (w::s)) (k:Nat) (hk:k<64):InW (w::s) (64 * w.pos+k)↔w.bits.testBit k=true:=by
 rw[inW_cons]
 constructor
 ·rintro(⟨_,hb⟩|⟨x,hx,e,_⟩)
  ·rwa [show ((64 * w.pos+(k:Int)) % 64).toNat=k by omega]at hb
  ·have:=(List.pairwise_cons.1 h.rise).1 x hx;omega
 ·intro hb
  refine .inl ⟨by omega,?_⟩
  rw[show ((64 * w.pos+(k:Int)) % 64).toNat=k by omega];exact hb
theorem okW_ext:∀ {s t:List LWd},OkW s→OkW t→(∀ n,InW s n↔InW t n)→s=t
 |[],[],_,_,_=>rfl
 |[],u::t,_,ht,e=>by
  obtain⟨n,hn,_⟩:=inW_head ht
  obtain⟨_,h,_⟩:=(e n).2 hn;cases h
 |w::s,[],hs,_,e=>by
  obtain⟨n,hn,_⟩:=inW_head hs
  obtain⟨_,h,_⟩:=(e n).1 hn;cases h
 |w::s,u::t,hs,ht,e=>by
  have hp:w.pos=u.pos:=by
   obtain⟨n,hn,en⟩:=inW_head hs
   obtain⟨m,hm,em⟩:=inW_head ht
   have h1:=((e n).1 hn).le ht
   have h2:=((e m).2 hm).le hs
   omega
  have hb:w.bits=u.bits:=by
   refine Nat.eq_of_testBit_eq fun k=> ?_
   by_cases hk:k<64
   ·have h1:=inW_at hs k hk
    have h2:=inW_at ht k hk
    rw[←hp]at h2
    have h3:=h1.symm.trans ((e _).trans h2)
    cases h4:u.bits.testBit k with
    |true=>exact h3.2 h4
    |false=>
     cases h5:w.bits.testBit k with
     |false=>rfl
     |true=>rw[h3.1 h5]at h4;cases h4
   ·have h1:=(hs.each w (List.mem_cons_self ..)).2.2.2
    have h2:=(ht.each u (List.mem_cons_self ..)).2.2.2
    cases h4:u.bits.testBit k with
    |true=>exact absurd (bits_lt h2 h4) hk
    |false=>
     cases h5:w.bits.testBit k with
     |false=>rfl
     |true=>exact absurd (bits_lt h1 h5) hk
  have hw:w=u:=by cases w;cases u;cases hp;cases hb;rfl
  have hst:s=t:=okW_ext hs.tail ht.tail fun n=>by rw[inW_tail hs,inW_tail ht,e n,hp]
  rw[hw,hst]
structure Is (t:List LWd) (p:Int→Prop):Prop where
 ok:OkW t
 mem:∀ n,InW t n↔p n
theorem Is.eq {s t:List LWd} {p q:Int→Prop} (h:Is s p) (k:Is t q) (e:∀ n,p n↔q n):s=t:=okW_ext h.ok k.ok fun n=>(h.mem n).trans ((e n).trans (k.mem n).symm)
end Go.Proofs.YtejjibilgmlhdaaDoor
namespace Go.Proofs.YtejjibilgmlhdaaDoor
open Go.Am
set_option linter.unusedVariables false
set_option linter.unusedSimpArgs false
abbrev W (n:Nat):Value:= .int .u64 (n:Int)
theorem ofInt_nat (a:Nat):BitVec.ofInt 64 (a:Int)=BitVec.ofNat 64 a:=by
 apply BitVec.eq_of_toNat_eq;simp
theorem b64:IntKind.bits .u64=64:=rfl
theorem u_and {a b:Nat} (ha:a<18446744073709551616) (hb:b<18446744073709551616):zG .and (W a) (W b)=some (W (a&&& b)):=by
 have h:a&&& b<18446744073709551616:=Nat.lt_of_le_of_lt Nat.and_le_left ha
 have e:(BitVec.ofInt 64 (a:Int)&&& BitVec.ofInt 64 (b:Int)).toNat=a&&& b:=by
  rw[ofInt_nat,ofInt_nat,BitVec.toNat_and,BitVec.toNat_ofNat,BitVec.toNat_ofNat,Nat.mod_eq_of_lt (show a<2 ^ 64 from ha),Nat.mod_eq_of_lt (show b<2 ^ 64 from hb)]
 simp only[zG,if_true]
 rw[show ((BitVec.ofInt (IntKind.bits .u64) (a:Int)&&& BitVec.ofInt (IntKind.bits .u64) (b:Int)).toNat)=a&&& b from e,wrapU64 (by omega) (by omega)]
theorem u_shr {a:Nat} {k:Nat} (hk:k<64):zG .shr (W a) (I k)=some (W (a / 2 ^ k)):=by
 simp only[zG]
 rw[if_neg (by omega),Int.toNat_natCast,show min k (IntKind.bits .u64)=k from Nat.min_eq_left (by rw[b64];omega),Int.fdiv_eq_ediv_of_nonneg _ (by exact Int.le_of_lt (Int.pow_pos (by decide)))]
 congr 2
theorem u_shrW {a:Nat} {k:Nat} (hk:k<64):zG .shr (W a) (W k)=some (W (a / 2 ^ k)):=by
 simp only[zG]
 rw[if_neg (by omega),Int.toNat_natCast,show min k (IntKind.bits .u64)=k from Nat.min_eq_left (by rw[b64];omega),Int.fdiv_eq_ediv_of_nonneg _ (by exact Int.le_of_lt (Int.pow_pos (by decide)))]
 congr 2
theorem u_add {a b:Nat} (h:a+b<18446744073709551616):zG .add (W a) (W b)=some (W (a+b)):=by
 simp only[zG,if_true];rw[wrapU64 (by omega) (by omega)];rfl
theorem u_sub {a b:Nat} (ha:a<18446744073709551616) (h:b≤a):zG .sub (W a) (W b)=some (W (a - b)):=by
 simp only[zG,if_true];rw[wrapU64 (by omega) (by omega)]
 congr 2;omega
theorem u_quo {a b:Nat} (ha:a<18446744073709551616) (h:b≠0):zG .quo (W a) (W b)=some (W (a / b)):=by
 have:a / b≤a:=Nat.div_le_self ..
 simp only[zG,if_true]
 have h2:((a / b:Nat):Int)<18446744073709551616:=by omega
 have h3:(0:Int)≤((a / b:Nat):Int):=Int.natCast_nonneg _
 rw[if_neg (by omega),Int.tdiv_eq_ediv_of_nonneg (by omega),show (a:Int) / (b:Int)=((a / b:Nat):Int) by simp,wrapU64 h3 h2]
theorem u_rem {a b:Nat} (h:b≠0):zG .rem (W a) (W b)=some (W (a % b)):=by
 simp only[zG,if_true]
 rw[if_neg (by omega),Int.tmod_eq_emod_of_nonneg (by omega)]
 congr 2
theorem wrapMod (n:Int):IntKind.wrap .u64 n=n % 18446744073709551616:=rfl
theorem u_mul (a b:Nat):zG .mul (W a) (W b)=some (W (a * b % 18446744073709551616)):=by
 simp only[zG,if_true];rw[wrapMod];congr 2
theorem u_neg {a:Nat} (h:a≠0) (ha:a<18446744073709551616):unV .neg (W a)=some (W (18446744073709551616 - a)):=by
 simp only[unV];rw[wrapMod];congr 2;omega
theorem i_and127 {a:Nat} (ha:a<9223372036854775808):zG .and (I a) (I 127)=some (I ((a % 128:Nat):Int)):=by
 have e:(BitVec.ofInt 64 (a:Int)&&& BitVec.ofInt 64 (127:Int)).toNat=a % 128:=by
  rw[ofInt_nat,show BitVec.ofInt 64 127=BitVec.ofNat 64 127 from rfl,BitVec.toNat_and,BitVec.toNat_ofNat,BitVec.toNat_ofNat,Nat.mod_eq_of_lt (show a<2 ^ 64 by omega)]
  exact Nat.and_two_pow_sub_one_eq_mod a 7
 simp only[zG,I,if_true]
 rw[show ((BitVec.ofInt (IntKind.bits .i64) (a:Int)&&& BitVec.ofInt (IntKind.bits .i64) (127:Int)).toNat)=a % 128 from e,wrap64 (by omega) (by omega)]
theorem rise_ext:∀ {xs ys:List Nat},xs.Pairwise (·<·)→ys.Pairwise (·<·)→(∀ n,n∈xs↔n∈ys)→xs=ys
 |[],[],_,_,_=>rfl
 |[],y::ys,_,_,h=>absurd ((h y).2 (List.mem_cons_self ..)) (by simp)
 |x::xs,[],_,_,h=>absurd ((h x).1 (List.mem_cons_self ..)) (by simp)
 |x::xs,y::ys,hx,hy,h=>by
  obtain⟨x1,x2⟩:=List.pairwise_cons.1 hx
  obtain⟨y1,y2⟩:=List.pairwise_cons.1 hy
  have e:x=y:=by
   rcases List.mem_cons.1 ((h x).1 (List.mem_cons_self ..))with e|e
   ·exact e
   ·rcases List.mem_cons.1 ((h y).2 (List.mem_cons_self ..))with e2|e2
    ·exact e2.symm
    ·have:=y1 _ e;have:=x1 _ e2;omega
  subst e
  rw[rise_ext x2 y2 fun n=> ?_]
  have:=h n
  constructor
  ·intro hn
   have hlt:=x1 n hn
   rcases List.mem_cons.1 (this.1 (List.mem_cons_of_mem _ hn))with e|e
   ·omega
   ·exact e
  ·intro hn
   have hlt:=y1 n hn
   rcases List.mem_cons.1 (this.2 (List.mem_cons_of_mem _ hn))with e|e
   ·omega
   ·exact e
theorem low_shape (b:Nat):b≠0→∃ k m,b=2 ^ (k+1) * m+2 ^ k:=by
 induction b using Nat.strongRecOn with
 |ind b ih=>
  intro h
  by_cases h2:b % 2=1
  ·exact⟨0,b / 2,by simp;omega⟩
  ·obtain⟨k,m,e⟩:=ih (b / 2) (by omega) (by omega)
   refine⟨k+1,m,?_⟩
   have e1:2 ^ (k+1+1) * m=2 ^ (k+1) * m * 2:=by rw[Nat.pow_succ 2 (k+1),Nat.mul_right_comm]
   have e2:2 ^ (k+1)=2 ^ k * 2:=Nat.pow_succ ..
   rw[e1]
   generalize 2 ^ (k+1) * m=z at *
   generalize 2 ^ k=y at *
   omega
structure Low (b k:Nat):Prop where
 lt:k<64
 list:bitsL b=k::bitsL (b&&& (b - 1))
 one:b&&& (18446744073709551616 - b)=2 ^ k
 less:b&&& (b - 1)<b
theorem low {b:Nat} (h:b≠0) (hb:b<18446744073709551616):∃ k,Low b k:=by
 obtain⟨k,m,e⟩:=low_shape b h
 have hpos:0<2 ^ k:=Nat.pow_pos (by decide)
 have hs:2 ^ (k+1)=2 ^ k * 2:=Nat.pow_succ ..
 have e1:b - 1=2 ^ (k+1) * m+(2 ^ k - 1):=by
  generalize 2 ^ (k+1) * m=z at *;omega
 have tb:∀ i,b.testBit i=if i<k+1 then decide (k=i) else m.testBit (i - (k+1)):=fun i=>by
  rw[e,Nat.testBit_two_pow_mul_add _ (by omega),Nat.testBit_two_pow]
 have tb1:∀ i,(b - 1).testBit i=if i<k+1 then decide (i<k) else m.testBit (i - (k+1)):=fun i=>by
  rw[e1,Nat.testBit_two_pow_mul_add _ (by omega),Nat.testBit_two_pow_sub_one]
 have hk:b.testBit k=true:=by rw[tb,if_pos (by omega)];simp
 have tand:∀ i,(b&&& (b - 1)).testBit i=(b.testBit i&& !decide (i=k)):=fun i=>by
  rw[Nat.testBit_and,tb,tb1]
  by_cases h1:i<k+1
  ·rw[if_pos h1,if_pos h1]
   by_cases h2:k=i
   ·subst h2;simp
   ·simp[h2]
  ·rw[if_neg h1,if_neg h1,show decide (i=k)=false from decide_eq_false (by omega)];simp
 refine⟨k,bits_lt hb hk,rise_ext (bitsL_rise b) (List.pairwise_cons.2 ⟨fun i hi=> ?_,bitsL_rise _⟩) fun i=> ?_,?_,?_⟩
 ·have:=(mem_bitsL.1 hi).2
  rw[tand,tb]at this
  by_cases h1:i<k+1
  ·rw[if_pos h1]at this;simp at this;omega
  ·omega
 ·rw[List.mem_cons,mem_bitsL,mem_bitsL,tand]
  by_cases h1:i=k
  ·subst h1;simp[hk,bits_lt hb hk]
  ·simp[h1]
 ·refine Nat.eq_of_testBit_eq fun i=> ?_
  rw[Nat.testBit_and,show 18446744073709551616 - b=2 ^ 64 - ((b - 1)+1) by omega,Nat.testBit_two_pow_sub_succ (by omega),Nat.testBit_two_pow,tb,tb1]
  by_cases h1:i<k+1
  ·rw[if_pos h1,if_pos h1]
   by_cases h2:k=i
   ·subst h2;simp[bits_lt hb hk]
   ·simp[h2]
  ·rw[if_neg h1,if_neg h1,show decide (k=i)=false from decide_eq_false (by omega)]
   cases m.testBit (i - (k+1))<;>simp
 ·exact Nat.lt_of_le_of_lt Nat.and_le_right (by omega)
theorem bitsL_zero:bitsL 0=[]:=by unfold bitsL;simp
end Go.Proofs.YtejjibilgmlhdaaDoor
namespace Go.Proofs.YtejjibilgmlhdaaDoor
open Go.Am
set_option linter.unusedVariables false
set_option linter.unusedSimpArgs false
def tz64:List Nat:=[0,1,56,2,57,49,28,3,61,58,42,50,38,29,17,4,62,47,59,36,45,43,51,22,53,39,33,30,24,18,12,5,63,55,48,27,60,41,37,16,46,35,44,21,52,32,23,11,54,26,40,15,34,20,31,10,25,14,19,9,13,8,7,6]
def tzV:List Value:=tz64.map fun n:Nat=> .int .u8 (n:Int)
theorem tz_all:∀ k,k<64→(2 ^ k * 285870213051353865 % 18446744073709551616 / 288230376151711744<64∧tz64.getD (2 ^ k * 285870213051353865 % 18446744073709551616 / 288230376151711744) 0=k):=by decide+kernel
theorem tzV_at {j k:Nat} (t1:j<64) (t2:tz64.getD j 0=k):tzV[j]?=some (.int .u8 (k:Int)):=by
 unfold tzV
 have hl:j<tz64.length:=t1
 rw[List.getElem?_map,List.getElem?_eq_getElem hl]
 rw[List.getD_eq_getElem?_getD,List.getElem?_eq_getElem hl]at t2
 rw[Option.map_some];simp only[Option.getD_some]at t2;rw[t2]
theorem tz_steps {k:Nat} (h:k<64):∃ m j:Nat,zG .mul (W (2 ^ k)) (W 285870213051353865)=some (W m)∧zG .shr (W m) (W 58)=some (W j)∧j<64∧tz64.getD j 0=k:=
 ⟨_,_,u_mul (2 ^ k) 285870213051353865,u_shrW (k:=58) (by decide),tz_all k h⟩
def popN (k n:Nat):Nat:=((List.range k).filter n.testBit).length
theorem popN_add (k b n:Nat) (hb:b<256):popN (8+k) (b+256 * n)=popN 8 b+popN k n:=by
 unfold popN
 rw[List.range_add,List.filter_append,List.length_append,List.filter_map,List.length_map]
 have tb:∀ i,(b+256 * n).testBit i=if i<8 then b.testBit i else n.testBit (i - 8):=fun i=>by
  rw[Nat.add_comm,show 256=2 ^ 8 from rfl,Nat.testBit_two_pow_mul_add _ hb]
 congr 1
 ·congr 1
  refine List.filter_congr fun i hi=> ?_
  rw[tb,if_pos (List.mem_range.1 hi)]
 ·congr 1
  refine List.filter_congr fun i hi=> ?_
  show (b+256 * n).testBit (8+i)=_
  rw[tb,if_neg (by omega),Nat.add_sub_cancel_left]
def mask (c:Nat):Nat→Nat
 |0=>0
 |j+1=>c+256 * mask c j
theorem and_mask {c:Nat} (hc:c<256) (a n j:Nat) (ha:a<256):(a+256 * n)&&& mask c (j+1)=(a&&& c)+256 * (n&&& mask c j):=by
 have hac:a&&& c<256:=Nat.lt_of_le_of_lt Nat.and_le_left ha
 refine Nat.eq_of_testBit_eq fun i=> ?_
 show ((a+256 * n)&&& (c+256 * mask c j)).testBit i=_
 rw[Nat.testBit_and,Nat.add_comm a,Nat.add_comm c,Nat.add_comm (a&&& c),show 256=2 ^ 8 from rfl,Nat.testBit_two_pow_mul_add _ ha,Nat.testBit_two_pow_mul_add _ hc,Nat.testBit_two_pow_mul_add _ hac]
 split<;>rw[Nat.testBit_and]
def sw1 (j n:Nat):Nat:=(n / 2&&& mask 85 j)+(n&&& mask 85 j)
def sw2 (j n:Nat):Nat:=(n / 4&&& mask 51 j)+(n&&& mask 51 j)
def sw3 (j n:Nat):Nat:=(n / 16+n)&&& mask 15 j
def s1 (b:Nat):Nat:=(b / 2&&& 85)+(b&&& 85)
def s2 (b:Nat):Nat:=(b / 4&&& 51)+(b&&& 51)
theorem low1:∀ t,t<2→∀ b,b<256→(b / 2+128 * t)&&& 85=b / 2&&& 85:=by decide+kernel
theorem low2:∀ t,t<4→∀ b,b<256→(b / 4+64 * t)&&& 51=b / 4&&& 51:=by decide+kernel
theorem byte_all:∀ b,b<256→s1 b<256∧s2 (s1 b)<256∧s2 (s1 b) % 16≤4∧s2 (s1 b) / 16≤4∧s2 (s1 b) / 16+s2 (s1 b) % 16=popN 8 b∧popN 8 b≤8:=by decide+kernel
theorem sw1_step (j b n:Nat) (hb:b<256):sw1 (j+1) (b+256 * n)=s1 b+256 * sw1 j n:=by
 unfold sw1 s1
 rw[show (b+256 * n) / 2=(b / 2+128 * (n % 2))+256 * (n / 2) by omega,and_mask (by decide) _ _ _ (by omega),and_mask (by decide) _ _ _ hb,low1 _ (by omega) _ hb]
 omega
theorem sw2_step (j b n:Nat) (hb:b<256):sw2 (j+1) (b+256 * n)=s2 b+256 * sw2 j n:=by
 unfold sw2 s2
 rw[show (b+256 * n) / 4=(b / 4+64 * (n % 4))+256 * (n / 4) by omega,and_mask (by decide) _ _ _ (by omega),and_mask (by decide) _ _ _ hb,low2 _ (by omega) _ hb]
 omega
theorem low_and (a:Nat):a&&& 15=a % 16:=Nat.and_two_pow_sub_one_eq_mod a 4
theorem sw3_step (j b n:Nat) (hb:b<256) (h1:b % 16≤4) (h2:b / 16≤4) (h3:n % 16≤4):sw3 (j+1) (b+256 * n)=(b / 16+b % 16)+256 * sw3 j n:=by
 unfold sw3
 rw[show (b+256 * n) / 16+(b+256 * n)=(b / 16+16 * (n % 16)+b)+256 * (n / 16+n) by omega,and_mask (by decide) _ _ _ (by omega),low_and]
 omega
def packB:Nat→Nat→Nat
 |0,_=>0
 |j+1,n=>popN 8 (n % 256)+256 * packB j (n / 256)
theorem sw_pack:∀ j n:Nat,sw3 j (sw2 j (sw1 j n))=packB j n∧sw2 j (sw1 j n) % 16≤4
 |0,n=>by
  have e0:∀ c,mask c 0=0:=fun _=>rfl
  simp only[sw1,sw2,sw3,e0,Nat.and_zero];exact⟨rfl,by decide⟩
 |j+1,n=>by
  obtain⟨i1,i2⟩:=sw_pack j (n / 256)
  obtain⟨a1,a2,a3,a4,a5,_⟩:=byte_all (n % 256) (Nat.mod_lt _ (by decide))
  have e:n=n % 256+256 * (n / 256):=by omega
  have e1:sw1 (j+1) n=s1 (n % 256)+256 * sw1 j (n / 256):=by
   have:=sw1_step j (n % 256) (n / 256) (Nat.mod_lt _ (by decide));rwa [←e]at this
  rw[e1,sw2_step _ _ _ a1]
  refine⟨?_,by omega⟩
  rw[sw3_step _ _ _ a2 a3 a4 i2,i1,a5];rfl
theorem popN_byte (k m:Nat):popN (8+k) m=popN 8 (m % 256)+popN k (m / 256):=by
 have:=popN_add k (m % 256) (m / 256) (Nat.mod_lt _ (by decide))
 rwa [show m % 256+256 * (m / 256)=m by omega]at this
theorem popN_le (m:Nat):popN 8 (m % 256)≤8:=(byte_all _ (Nat.mod_lt _ (by decide))).2.2.2.2.2
theorem pack_cons (j n:Nat):packB (j+1) n=popN 8 (n % 256)+256 * packB j (n / 256):=rfl
theorem packB_at (n:Nat):∃ p0 p1 p2 p3 p4 p5 p6 p7:Nat,(p0≤8∧p1≤8∧p2≤8∧p3≤8∧p4≤8∧p5≤8∧p6≤8∧p7≤8)∧popN 64 n=p0+(p1+(p2+(p3+(p4+(p5+(p6+p7))))))∧
  packB 8 n=p0+256 * (p1+256 * (p2+256 * (p3+256 * (p4+256 * (p5+256 * (p6+256 * p7)))))):=by
 refine⟨_,_,_,_,_,_,_,_,⟨popN_le n,popN_le (n / 256),popN_le (n / 256 / 256),popN_le (n / 256 / 256 / 256),popN_le (n / 256 / 256 / 256 / 256),popN_le (n / 256 / 256 / 256 / 256 / 256),popN_le (n / 256 / 256 / 256 / 256 / 256 / 256),popN_le (n / 256 / 256 / 256 / 256 / 256 / 256 / 256)⟩,?_,?_⟩
 case refine_2=>rw[pack_cons 7,pack_cons 6,pack_cons 5,pack_cons 4,pack_cons 3,pack_cons 2,pack_cons 1,pack_cons 0,show ∀ m,packB 0 m=0 from fun _=>rfl,Nat.mul_zero,Nat.add_zero]
 case refine_1=>rw[popN_byte 56,popN_byte 48,popN_byte 40,popN_byte 32,popN_byte 24,popN_byte 16,popN_byte 8,show popN 8 (n / 256 / 256 / 256 / 256 / 256 / 256 / 256)=popN 8 (n / 256 / 256 / 256 / 256 / 256 / 256 / 256 % 256) from popN_byte 0 _]
theorem div_lo {c r q:Nat} (h:r<c):(r+c * q) / c=q:=by
 rw[Nat.add_mul_div_left _ _ (by omega),Nat.div_eq_of_lt h,Nat.zero_add]
theorem pack_sum {p0 p1 p2 p3 p4 p5 p6 p7:Nat} (h:p0≤8∧p1≤8∧p2≤8∧p3≤8∧p4≤8∧p5≤8∧p6≤8∧p7≤8) {x y z u:Nat} (hx:x=p0+256 * (p1+256 * (p2+256 * (p3+256 * (p4+256 * (p5+256 * (p6+256 * p7))))))) (hy:y=x+x / 256) (hz:z=y+y / 65536) (hu:u=z+z / 4294967296):
  y<18446744073709551616∧z<18446744073709551616∧u<9223372036854775808∧u % 128=p0+(p1+(p2+(p3+(p4+(p5+(p6+p7)))))):=by
 have x1:x / 256=p1+256 * (p2+256 * (p3+256 * (p4+256 * (p5+256 * (p6+256 * p7))))):=by rw[hx];exact div_lo (by omega)
 rw[x1,hx]at hy
 clear hx x1
 have hy2:y=((p0+p1)+256 * (p1+p2))+65536 * ((p2+p3)+256 * ((p3+p4)+256 * ((p4+p5)+256 * ((p5+p6)+256 * ((p6+p7)+256 * p7))))):=by omega
 clear hy
 have y1:y / 65536=(p2+p3)+256 * ((p3+p4)+256 * ((p4+p5)+256 * ((p5+p6)+256 * ((p6+p7)+256 * p7)))):=by rw[hy2];exact div_lo (by omega)
 have h1:y<18446744073709551616:=by omega
 rw[y1,hy2]at hz
 clear hy2 y1
 have hz2:z=((p0+p1+p2+p3)+256 * ((p1+p2+p3+p4)+256 * ((p2+p3+p4+p5)+256 * (p3+p4+p5+p6))))+4294967296 * ((p4+p5+p6+p7)+256 * ((p5+p6+p7)+256 * ((p6+p7)+256 * p7))):=by omega
 clear hz
 have z1:z / 4294967296=(p4+p5+p6+p7)+256 * ((p5+p6+p7)+256 * ((p6+p7)+256 * p7)):=by rw[hz2];exact div_lo (by omega)
 have h2:z<18446744073709551616:=by omega
 rw[z1,hz2]at hu
 clear hz2 z1
 have hu2:∃ q,u=(p0+(p1+(p2+(p3+(p4+(p5+(p6+p7)))))))+128 * q:=⟨2 * (((p1+p2+p3+p4)+(p5+p6+p7))+256 * (((p2+p3+p4+p5)+(p6+p7))+256 * ((p3+p4+p5+p6+p7)+256 * ((p4+p5+p6+p7)+256 * ((p5+p6+p7)+256 * ((p6+p7)+256 * p7)))))),by omega⟩
 refine⟨h1,h2,by omega,?_⟩
 obtain⟨q,hq⟩:=hu2
 clear hu
 rw[hq,Nat.add_mul_mod_self_left]
 exact Nat.mod_eq_of_lt (by omega)
theorem pop64 (n:Nat):popN 64 n=(bitsL n).length:=rfl
end Go.Proofs.YtejjibilgmlhdaaDoor
namespace Go.Proofs.YtejjibilgmlhdaaDoor
open Go.Am
set_option linter.unusedVariables false
set_option linter.unusedSimpArgs false
def BdW (s:List LWd):Prop:=∀ w∈s,w.bits<18446744073709551616
theorem OkW.bd {s:List LWd} (h:OkW s):BdW s:=fun w hw=>(h.each w hw).2.2.2
theorem BdW.tail {w:LWd} {s:List LWd} (h:BdW (w::s)):BdW s:=fun x hx=>h x (List.mem_cons_of_mem _ hx)
def zH:Int→List LWd→Bool
 |_,[]=>true
 |last,w::s=>decide (last<w.pos)&&decide (w.pos<16384)&&decide (w.bits≠0)&&zH w.pos s
theorem checkW_iff:∀ {s:List LWd} {last:Int},-1≤last→BdW s→(zH last s=true↔OkW s∧∀ w∈s,last<w.pos)
 |[],last,_,_=>by simp[zH,OkW.nil]
 |w::s,last,hl,hb=>by
  unfold zH
  rw[Bool.and_eq_true,Bool.and_eq_true,Bool.and_eq_true,decide_eq_true_iff,decide_eq_true_iff,decide_eq_true_iff]
  constructor
  ·rintro⟨⟨⟨h1,h2⟩,h3⟩,h4⟩
   obtain⟨h5,h6⟩:=(checkW_iff (by omega) hb.tail).1 h4
   refine⟨⟨List.pairwise_cons.2 ⟨h6,h5.rise⟩,fun x hx=> ?_⟩,fun x hx=> ?_⟩
   ·rcases List.mem_cons.1 hx with rfl|hx
    ·exact⟨by omega,h2,h3,hb _ (List.mem_cons_self ..)⟩
    ·exact h5.each x hx
   ·rcases List.mem_cons.1 hx with rfl|hx
    ·exact h1
    ·have:=h6 x hx;omega
  ·rintro⟨h1,h2⟩
   obtain⟨a,b,c,_⟩:=h1.each w (List.mem_cons_self ..)
   exact⟨⟨⟨h2 w (List.mem_cons_self ..),b⟩,c⟩,(checkW_iff (by omega) hb.tail).2 ⟨h1.tail,(List.pairwise_cons.1 h1.rise).1⟩⟩
theorem okW_iff {s:List LWd} (hb:BdW s):zH (-1) s=true↔OkW s:=by
 rw[checkW_iff (by decide) hb]
 exact⟨fun h=>h.1,fun h=>⟨h,fun w hw=>by have:=(h.each w hw).1;omega⟩⟩
def inB (s:List LWd) (n:Int):Bool:=s.any fun w=>decide (w.pos=n / 64)&&w.bits.testBit (n % 64).toNat
theorem inB_iff {s:List LWd} {n:Int}:inB s n=true↔InW s n:=by
 unfold inB InW
 rw[List.any_eq_true]
 simp only[Bool.and_eq_true,decide_eq_true_iff]
theorem inB_false {s:List LWd} {n:Int} (h:¬InW s n):inB s n=false:=by
 cases hb:inB s n with
 |false=>rfl
 |true=>exact absurd (inB_iff.1 hb) h
end Go.Proofs.YtejjibilgmlhdaaDoor
namespace Go.Proofs.YtejjibilgmlhdaaDoor
open Go.Am
set_option linter.unusedVariables false
set_option linter.unusedSimpArgs false
theorem set_bit {b k:Nat} (hk:k<64) (hb:b<18446744073709551616):b|||2 ^ k<18446744073709551616∧∀ i,(b|||2 ^ k).testBit i=(b.testBit i||decide (k=i)):=by
 have h:2 ^ k<2 ^ 64:=Nat.pow_lt_pow_right (by decide) hk
 refine⟨Nat.or_lt_two_pow (n:=64) hb h,fun i=> ?_⟩
 rw[Nat.testBit_or,Nat.testBit_two_pow]
theorem pow_ne (k:Nat):2 ^ k≠0:=Nat.ne_of_gt (Nat.pow_pos (by decide))
structure Upto (s:List LWd) (xs:List Int):Prop where
 ok:OkW s
 mem:∀ n,InW s n↔n∈xs
theorem okW_snoc {s:List LWd} {w:LWd} (h:OkW s) (h1:0≤w.pos∧w.pos<16384) (h2:w.bits≠0) (h3:w.bits<18446744073709551616) (hs:∀ x∈s,x.pos<w.pos):OkW (s++[w]):=
 ⟨List.pairwise_append.2 ⟨h.rise,List.pairwise_singleton ..,fun x hx y hy=>by rw[List.mem_singleton]at hy;subst hy;exact hs x hx⟩,fun x hx=>by
  rcases List.mem_append.1 hx with hx|hx
  ·exact h.each x hx
  ·rw[List.mem_singleton]at hx;subst hx;exact⟨h1.1,h1.2,h2,h3⟩⟩
theorem inW_snoc {s:List LWd} {w:LWd} {n:Int}:InW (s++[w]) n↔InW s n∨(w.pos=n / 64∧w.bits.testBit (n % 64).toNat=true):=by
 unfold InW
 constructor
 ·rintro⟨x,hx,e⟩
  rcases List.mem_append.1 hx with hx|hx
  ·exact .inl ⟨x,hx,e⟩
  ·rw[List.mem_singleton]at hx;subst hx;exact .inr e
 ·rintro(⟨x,hx,e⟩|e)
  ·exact⟨x,List.mem_append_left _ hx,e⟩
  ·exact⟨w,by simp,e⟩
theorem Upto.old {s:List LWd} {w:LWd} {xs:List Int} {n:Int} (u:Upto (s++[w]) xs) (hn:0≤n∧n<1048576) (hw:w.pos=n / 64):Upto (s++[⟨w.pos,w.bits|||2 ^ (n % 64).toNat⟩]) (xs++[n]):=by
 obtain⟨w1,w2,w3,w4⟩:=u.ok.each w (by simp)
 obtain⟨s1,s2⟩:=set_bit (k:=(n % 64).toNat) (by omega) w4
 obtain⟨p1,p2,p3⟩:=List.pairwise_append.1 u.ok.rise
 have hne:w.bits|||2 ^ (n % 64).toNat≠0:=fun e=>by
  have:=s2 (n % 64).toNat;rw[e,Nat.zero_testBit]at this;simp at this
 refine⟨okW_snoc ⟨p1,fun x hx=>u.ok.each x (List.mem_append_left _ hx)⟩ ⟨w1,w2⟩ hne s1 (fun x hx=>p3 x hx w (by simp)),fun m=> ?_⟩
 have:=u.mem m
 rw[inW_snoc]at this
 rw[inW_snoc,s2,Bool.or_eq_true,decide_eq_true_iff,List.mem_append,List.mem_singleton,←this]
 constructor
 ·rintro(h|⟨e,h|h⟩)
  ·exact .inl (.inl h)
  ·exact .inl (.inr ⟨e,h⟩)
  ·exact .inr (by simp only at e;omega)
 ·rintro((h|⟨e,h⟩)|e)
  ·exact .inl h
  ·exact .inr ⟨e,.inl h⟩
  ·subst e;exact .inr ⟨hw,.inr rfl⟩
end Go.Proofs.YtejjibilgmlhdaaDoor
namespace Go.Proofs.YtejjibilgmlhdaaDoor
open Go.Am
set_option linter.unusedVariables false
set_option linter.unusedSimpArgs false
set_option maxHeartbeats 4000000
noncomputable def tb:Tab:=⟨cFunc Tryd.prog,fun f=>if f=19 then some (known [(0,tzV)] (.bool true)) else none⟩
theorem zx (f:Nat) (hf:Nat.beq f 19=false:=by rfl):tb.stub f=none:=if_neg (Nat.ne_of_beq_eq_false hf)
end Go.Proofs.YtejjibilgmlhdaaDoor
namespace Go.Proofs.YtejjibilgmlhdaaDoor
open Go.Am
set_option linter.unusedVariables false
set_option linter.unusedSimpArgs false
set_option maxHeartbeats 400000
end Go.Proofs.YtejjibilgmlhdaaDoor
namespace Go.Proofs.YtejjibilgmlhdaaDoor
open Go.Am
set_option linter.unusedVariables false
set_option linter.unusedSimpArgs false
set_option maxHeartbeats 400000
end Go.Proofs.YtejjibilgmlhdaaDoor
namespace Go.Proofs.YtejjibilgmlhdaaDoor
open Go.Am
set_option linter.unusedVariables false
set_option linter.unusedSimpArgs false
set_option maxHeartbeats 400000
def Edge (lo hi k c:Int):Prop:=lo≤k∧(c=2 * k+1∨c=2 * k+2)∧c<hi
end Go.Proofs.YtejjibilgmlhdaaDoor
namespace Go.Proofs.YtejjibilgmlhdaaDoor
open Go.Am
set_option linter.unusedVariables false
set_option linter.unusedSimpArgs false
set_option maxHeartbeats 400000
end Go.Proofs.YtejjibilgmlhdaaDoor
namespace Go.Proofs.YtejjibilgmlhdaaDoor
open Go.Am
set_option linter.unusedVariables false
set_option linter.unusedSimpArgs false
set_option maxHeartbeats 1000000
end Go.Proofs.YtejjibilgmlhdaaDoor
namespace Go.Proofs.YtejjibilgmlhdaaDoor
open Go.Am
set_option linter.unusedVariables false
set_option linter.unusedSimpArgs false
set_option maxHeartbeats 1000000
def RW (h:AHeap) (cs:List Value) (w:LWd):Prop:=cs=[I w.pos,W w.bits]∧w.bits<18446744073709551616∧ -9223372036854775808≤w.pos∧w.pos≤9223372036854775807
abbrev SlW (h:AHeap) (v:Value) (s:List LWd):Prop:=SlR 2 RW h v s
theorem SlW.ext {h h' v s} (k:SlW h v s) (e:Ext h h'):SlW h' v s:=SlR.ext (h:=h) (h':=h') (R:=RW) (fun cs a r=>r) k e
theorem SlW.bd {h v s} (k:SlW h v s):BdW s:=fun w hw=>by
 obtain⟨i,hi,e⟩:=List.mem_iff_getElem.1 hw
 obtain⟨cs,⟨_,h2,_⟩,_⟩:=k.at hi
 rw[←e];exact h2
noncomputable def body29:ACode:=(.seq (.region [⟨some 2,none,(.mov (.const (.bool false)))⟩]) (.seq (.region [⟨some 3,none,(.mov (.tmp 0))⟩,⟨some 4,none,(.bin .geq (.tmp 3) (.const (.int .i64 0)))⟩,⟨some 5,none,(.mov (.tmp 4))⟩,⟨some 6,some (5,true),(.mov (.tmp 0))⟩,⟨some 7,some (5,true),(.bin .lss (.tmp 6) (.const (.int .i64 1048576)))⟩,⟨some 8,none,(.pick (.tmp 5) (.tmp 7) (.const (.bool false)))⟩,⟨some 2,none,(.mov (.tmp 8))⟩]) .ret))
set_option maxRecDepth 100000 in
theorem tab29:tb.code 29=some ⟨9,[(2,none)],body29⟩:=by kernel_rfl
theorem within_ok (h:AHeap) (n:Int):WC Tryd.prog tb 29 [I n] h fun r h'=>r= .bool (decide (0≤n)&&decide (n<1048576))∧h=h':=by
 refine WC.of (zx 29) tab29 ?_;simp only[mkTm,Nat.zero_add,Nat.reduceAdd]
 refine go ?_
 refine go ?_
 repeat' (first|(refine WX.br (fun hb=> ?_) (fun hb=> ?_)<;>(try simp only[DB]at hb)<;>refine go ?_)|(refine WO.sp (fun hb=> ?_) (fun hb=> ?_)<;>(try simp only[DB]at hb)<;>refine go ?_))<;>refine rt ?_<;>exact⟨by simp[one, *]<;>omega,rfl⟩
noncomputable def body43_0:ACode:=(.seq (.seq (.region [⟨some 5,none,(.mov (.tmp 4))⟩,⟨some 6,none,(.mov (.tmp 0))⟩,⟨some 7,none,(.bin .rem (.tmp 6) (.const (.int .i64 64)))⟩,⟨some 8,none,(.bin .lss (.tmp 5) (.tmp 7))⟩]) (.cond (.tmp 8) .skip (.exit 0))) (.seq (.block 1 (.region [⟨some 11,none,(.mov (.tmp 3))⟩,⟨some 12,none,(.bin .mul (.const (.int .u64 2)) (.tmp 11))⟩,⟨some 3,none,(.mov (.tmp 12))⟩])) (.region [⟨some 9,none,(.mov (.tmp 4))⟩,⟨some 10,none,(.bin .add (.tmp 9) (.const (.int .i64 1)))⟩,⟨some 4,none,(.mov (.tmp 10))⟩])))
noncomputable def body43:ACode:=(.seq (.region [⟨some 2,none,(.mov (.const (.int .u64 0)))⟩]) (.seq (.region [⟨some 3,none,(.mov (.const (.int .u64 1)))⟩]) (.seq (.seq (.region [⟨some 4,none,(.mov (.const (.int .i64 0)))⟩]) (.block 0 (.loop body43_0))) (.seq (.region [⟨some 13,none,(.mov (.tmp 3))⟩,⟨some 2,none,(.mov (.tmp 13))⟩]) .ret))))
set_option maxRecDepth 100000 in
theorem tab43:tb.code 43=some ⟨14,[(2,none)],body43⟩:=by kernel_rfl
theorem rbit_ok (h:AHeap) (n:Int) (h0:0≤n) (h1:n<9223372036854775807):WC Tryd.prog tb 43 [I n] h fun r h'=>r=W (2 ^ (n % 64).toNat)∧h=h':=by
 refine WC.of (zx 43) tab43 ?_;simp only[mkTm,Nat.zero_add,Nat.reduceAdd]
 refine go ?_
 refine WX.loopA [5,6,7,8,11,12,3,9,10,4] (by kernel_rfl) (fun i=>64 - i) (fun i t h1=>h=h1∧zC t 4=I i∧zC t 3=W (2 ^ i)∧i≤(n % 64).toNat) 0 ?_ ?_
 ·exact⟨rfl,sl_,sl_,Nat.zero_le _⟩
 rintro i t _ hsame ⟨rfl,s4,s3,hi⟩
 refine go ?_
 have hr:zG .rem (I n) (I 64)=some (I (n % 64)):=by
  simp only[zG,I,if_true];rw[if_neg (by decide),Int.tmod_eq_emod_of_nonneg h0]
 refine WO.bin zj zj hr ?_
 refine go ?_
 refine WX.br (fun hb=> ?_) (fun hb=> ?_)<;>simp only[DB]at hb
 ·refine go ?_
  have hlt:2 ^ (i+1)<2 ^ 64:=Nat.pow_lt_pow_right (by decide) (by omega)
  have hm:zG .mul (W 2) (W (2 ^ i))=some (W (2 ^ (i+1))):=by
   rw[u_mul,Nat.mod_eq_of_lt (show 2 * 2 ^ i<2 ^ 64 by rw[Nat.pow_succ]at hlt;omega),Nat.pow_succ,Nat.mul_comm]
  refine WO.bin rfl zj hm ?_
  refine go ?_
  exact zM (i+1) (by omega) ⟨rfl,sln,sl_,by omega⟩
 ·refine go ?_
  refine rt ?_
  exact⟨by rw[show (n % 64).toNat=i by omega];rfl,rfl⟩
noncomputable def body33:ACode:=(.seq (.region [⟨some 2,none,(.mov (.const (.int .i64 0)))⟩]) (.seq (.region [⟨some 3,none,(.mov (.tmp 0))⟩,⟨some 4,none,(.bin .shr (.tmp 3) (.const (.int .u64 1)))⟩,⟨some 5,none,(.bin .and (.tmp 4) (.const (.int .u64 6148914691236517205)))⟩,⟨some 6,none,(.mov (.tmp 0))⟩,⟨some 7,none,(.bin .and (.tmp 6) (.const (.int .u64 6148914691236517205)))⟩,⟨some 8,none,(.bin .add (.tmp 5) (.tmp 7))⟩,⟨some 0,none,(.mov (.tmp 8))⟩]) (.seq (.region [⟨some 9,none,(.mov (.tmp 0))⟩,⟨some 10,none,(.bin .shr (.tmp 9) (.const (.int .u64 2)))⟩,⟨some 11,none,(.bin .and (.tmp 10) (.const (.int .u64 3689348814741910323)))⟩,⟨some 12,none,(.mov (.tmp 0))⟩,⟨some 13,none,(.bin .and (.tmp 12) (.const (.int .u64 3689348814741910323)))⟩,⟨some 14,none,(.bin .add (.tmp 11) (.tmp 13))⟩,⟨some 0,none,(.mov (.tmp 14))⟩]) (.seq (.region [⟨some 15,none,(.mov (.tmp 0))⟩,⟨some 16,none,(.bin .shr (.tmp 15) (.const (.int .u64 4)))⟩,⟨some 17,none,(.mov (.tmp 0))⟩,⟨some 18,none,(.bin .add (.tmp 16) (.tmp 17))⟩,⟨some 19,none,(.bin .and (.tmp 18) (.const (.int .u64 1085102592571150095)))⟩,⟨some 0,none,(.mov (.tmp 19))⟩]) (.seq (.region [⟨some 20,none,(.mov (.tmp 0))⟩,⟨some 21,none,(.mov (.tmp 0))⟩,⟨some 22,none,(.bin .shr (.tmp 21) (.const (.int .u64 8)))⟩,⟨some 23,none,(.bin .add (.tmp 20) (.tmp 22))⟩,⟨some 0,none,(.mov (.tmp 23))⟩]) (.seq (.region [⟨some 24,none,(.mov (.tmp 0))⟩,⟨some 25,none,(.mov (.tmp 0))⟩,⟨some 26,none,(.bin .shr (.tmp 25) (.const (.int .u64 16)))⟩,⟨some 27,none,(.bin .add (.tmp 24) (.tmp 26))⟩,⟨some 0,none,(.mov (.tmp 27))⟩]) (.seq (.region [⟨some 28,none,(.mov (.tmp 0))⟩,⟨some 29,none,(.mov (.tmp 0))⟩,⟨some 30,none,(.bin .shr (.tmp 29) (.const (.int .u64 32)))⟩,⟨some 31,none,(.bin .add (.tmp 28) (.tmp 30))⟩,⟨some 0,none,(.mov (.tmp 31))⟩]) (.seq (.region [⟨some 32,none,(.mov (.tmp 0))⟩,⟨some 33,none,(.conv .i64 (.tmp 32))⟩,⟨some 34,none,(.bin .and (.tmp 33) (.const (.int .i64 127)))⟩,⟨some 2,none,(.mov (.tmp 34))⟩]) .ret))))))))
set_option maxRecDepth 100000 in
theorem tab33:tb.code 33=some ⟨35,[(2,none)],body33⟩:=by kernel_rfl
theorem ones_ok (h:AHeap) (n:Nat) (hn:n<18446744073709551616):WC Tryd.prog tb 33 [W n] h fun r h'=>r=I ((bitsL n).length:Nat)∧h=h':=by
 refine WC.of (zx 33) tab33 ?_;simp only[mkTm,Nat.zero_add,Nat.reduceAdd]
 obtain⟨p0,p1,p2,p3,p4,p5,p6,p7,hp,hs,hx⟩:=packB_at n
 obtain⟨A,hA⟩:∃ A,A=(n / 2&&& 6148914691236517205)+(n&&& 6148914691236517205):=⟨_,rfl⟩
 obtain⟨B,hB⟩:∃ B,B=(A / 4&&& 3689348814741910323)+(A&&& 3689348814741910323):=⟨_,rfl⟩
 obtain⟨C,hC⟩:∃ C,C=(B / 16+B)&&& 1085102592571150095:=⟨_,rfl⟩
 obtain⟨y,hy⟩:∃ y,y=C+C / 256:=⟨_,rfl⟩
 obtain⟨z,hz⟩:∃ z,z=y+y / 65536:=⟨_,rfl⟩
 obtain⟨u,hu⟩:∃ u,u=z+z / 4294967296:=⟨_,rfl⟩
 have hk:C=packB 8 n:=by
  rw[←(sw_pack 8 n).1]
  have e1:sw1 8 n=A:=hA.symm
  have e2:sw2 8 A=B:=hB.symm
  rw[e1,e2];exact hC
 obtain⟨y1,y2,y3,y4⟩:=pack_sum hp (hk.trans hx) hy hz hu
 rw[←hs,pop64]at y4
 have bA:A<18446744073709551616:=by
  have h1:n / 2&&& 6148914691236517205≤6148914691236517205:=Nat.and_le_right
  have h2:n&&& 6148914691236517205≤6148914691236517205:=Nat.and_le_right
  omega
 have bB:B≤7378697629483820646:=by
  have h1:A / 4&&& 3689348814741910323≤3689348814741910323:=Nat.and_le_right
  have h2:A&&& 3689348814741910323≤3689348814741910323:=Nat.and_le_right
  omega
 have bC:C<18446744073709551616:=by
  have h1:C≤1085102592571150095:=by rw[hC];exact Nat.and_le_right
  omega
 have a1:zG .shr (W n) (W 1)=some (W (n / 2)):=u_shrW (k:=1) (by decide)
 have a2:zG .and (W (n / 2)) (W 6148914691236517205)=some (W (n / 2&&& 6148914691236517205)):=u_and (by omega) (by decide)
 have a3:zG .and (W n) (W 6148914691236517205)=some (W (n&&& 6148914691236517205)):=u_and hn (by decide)
 have a4:zG .add (W (n / 2&&& 6148914691236517205)) (W (n&&& 6148914691236517205))=some (W A):=by rw[u_add (by omega),hA]
 have b1:zG .shr (W A) (W 2)=some (W (A / 4)):=u_shrW (k:=2) (by decide)
 have b2:zG .and (W (A / 4)) (W 3689348814741910323)=some (W (A / 4&&& 3689348814741910323)):=u_and (by omega) (by decide)
 have b3:zG .and (W A) (W 3689348814741910323)=some (W (A&&& 3689348814741910323)):=u_and bA (by decide)
 have b4:zG .add (W (A / 4&&& 3689348814741910323)) (W (A&&& 3689348814741910323))=some (W B):=by rw[u_add (by omega),hB]
 have c1:zG .shr (W B) (W 4)=some (W (B / 16)):=u_shrW (k:=4) (by decide)
 have c2:zG .add (W (B / 16)) (W B)=some (W (B / 16+B)):=u_add (by omega)
 have c3:zG .and (W (B / 16+B)) (W 1085102592571150095)=some (W C):=by rw[u_and (by omega) (by decide),hC]
 have d1:zG .shr (W C) (W 8)=some (W (C / 256)):=u_shrW (k:=8) (by decide)
 have d2:zG .add (W C) (W (C / 256))=some (W y):=by rw[u_add (by omega),hy]
 have e1:zG .shr (W y) (W 16)=some (W (y / 65536)):=u_shrW (k:=16) (by decide)
 have e2:zG .add (W y) (W (y / 65536))=some (W z):=by rw[u_add (by omega),hz]
 have f1:zG .shr (W z) (W 32)=some (W (z / 4294967296)):=u_shrW (k:=32) (by decide)
 have f2:zG .add (W z) (W (z / 4294967296))=some (W u):=by rw[u_add (by omega),hu]
 have g1:=i_and127 y3
 rw[y4]at g1
 clear hp hs hx hk hA hB hC hy hz hu
 refine go ?_
 refine WO.bin zj rfl a1 ?_
 refine go ?_
 refine WO.bin zj rfl a2 ?_
 refine go ?_
 refine WO.bin zj rfl a3 ?_
 refine go ?_
 refine WO.bin zj zj a4 ?_
 refine go ?_
 refine WO.bin zj rfl b1 ?_
 refine go ?_
 refine WO.bin zj rfl b2 ?_
 refine go ?_
 refine WO.bin zj rfl b3 ?_
 refine go ?_
 refine WO.bin zj zj b4 ?_
 refine go ?_
 refine WO.bin zj rfl c1 ?_
 refine go ?_
 refine WO.bin zj zj c2 ?_
 refine go ?_
 refine WO.bin zj rfl c3 ?_
 refine go ?_
 refine WO.bin zj rfl d1 ?_
 refine go ?_
 refine WO.bin zj zj d2 ?_
 refine go ?_
 refine WO.bin zj rfl e1 ?_
 refine go ?_
 refine WO.bin zj zj e2 ?_
 refine go ?_
 refine WO.bin zj rfl f1 ?_
 refine go ?_
 refine WO.bin zj zj f2 ?_
 refine go ?_
 refine WO.bin zj zj g1 ?_
 refine go ?_
 refine rt ?_
 exact⟨rfl,rfl⟩
section
variable {P:Program} {tab:Tab} {t:Trie Value} {h:AHeap} {ds:List Deferred} {rd:Option Nat} {l:List AOper} {Q:AFr→AHeap→Prop}
theorem WO.ldG {d g off:Nat} {x:Operand} {cells:List Value} {v:Value} (hg:ze h g=some cells) (hr:cells[off]?=some v) (hx:Ope t x (.pointer (some ⟨g,off,none⟩))) (k:WO P tab l ⟨t.set d v,ds,rd⟩ h Q):
  WO P tab (⟨some d,none,.load false 1 x⟩::l) ⟨t,ds,rd⟩ h Q:=by
 have hx:ev t x= .pointer (some ⟨g,off,none⟩):=hx
 have hlt:off<cells.length:=(List.getElem?_eq_some_iff.1 hr).1
 have hc:cut cells off 1=some [v]:=by
  rw[cut_ok (by omega),List.drop_eq_getElem_cons hlt,List.take_succ_cons,List.take_zero]
  have:=(List.getElem?_eq_some_iff.1 hr).2
  rw[this]
 refine WO.op v h rfl ?_ k
 simp only[aop,hx,hg,Option.isNone_none,cond_true,Option.bind_some,hc,zD,cond_false,Option.map_some]
theorem WO.unA {d:Nat} {op:UnOp} {x:Operand} {vx v:Value} (hx:Ope t x vx) (hv:unV op vx=some v) (k:WO P tab l ⟨t.set d v,ds,rd⟩ h Q):WO P tab (⟨some d,none,.un op x⟩::l) ⟨t,ds,rd⟩ h Q:=by
 have hx:ev t x=vx:=hx
 exact WO.op v h rfl (by simp only[aop,hx,hv,Option.map_some]) k
end
end Go.Proofs.YtejjibilgmlhdaaDoor
namespace Go.Proofs.YtejjibilgmlhdaaDoor
open Go.Am
set_option linter.unusedVariables false
set_option linter.unusedSimpArgs false
set_option maxHeartbeats 1000000
def TzT (h:AHeap):Prop:=ze h 0=some tzV∧0<h.n
theorem TzT.ext {h h'} (t:TzT h) (e:Ext h h'):TzT h':=⟨e.row t.2 t.1,Nat.lt_of_lt_of_le t.2 e.n⟩
noncomputable def body42:ACode:=(.seq (.region [⟨some 2,none,(.mov (.const (.int .i64 0)))⟩]) (.seq (.seq (.region [⟨some 3,none,(.mov (.tmp 0))⟩,⟨some 4,none,(.bin .eql (.tmp 3) (.const (.int .u64 0)))⟩]) (.cond (.tmp 4) (.seq (.region [⟨some 2,none,(.mov (.const (.int .i64 64)))⟩]) .ret) .skip)) (.seq (.region [⟨some 5,none,(.mov (.tmp 0))⟩,⟨some 6,none,(.mov (.tmp 0))⟩,⟨some 7,none,(.un .neg (.tmp 6))⟩,⟨some 8,none,(.bin .and (.tmp 5) (.tmp 7))⟩,⟨some 9,none,(.bin .mul (.tmp 8) (.const (.int .u64 285870213051353865)))⟩,⟨some 10,none,(.bin .shr (.tmp 9) (.const (.int .u64 58)))⟩,⟨some 11,none,(.idxArr 64 1 (.global 0) (.tmp 10))⟩,⟨some 12,none,(.load false 1 (.tmp 11))⟩,⟨some 13,none,(.conv .i64 (.tmp 12))⟩,⟨some 2,none,(.mov (.tmp 13))⟩]) .ret)))
set_option maxRecDepth 100000 in
theorem tab42:tb.code 42=some ⟨14,[(2,none)],body42⟩:=by kernel_rfl
theorem trail_ok (h:AHeap) (n k:Nat) (T:TzT h) (hn:n<18446744073709551616) (hz:n≠0) (L:Low n k):WC Tryd.prog tb 42 [W n] h fun r h'=>r=I k∧h=h':=by
 refine WC.of (zx 42) tab42 ?_;simp only[mkTm,Nat.zero_add,Nat.reduceAdd]
 have hz1:¬(n:Int)=0:=by omega
 have a1:=u_neg hz hn
 have a2:zG .and (W n) (W (18446744073709551616 - n))=some (W (2 ^ k)):=by rw[u_and hn (by omega),L.one]
 obtain⟨m,j,a3,a4,t1,t2⟩:=tz_steps L.lt
 have hv:=tzV_at t1 t2
 have hk:=L.lt
 refine go ?_
 refine WO.unA zj a1 ?_
 refine go ?_
 refine WO.bin zj zj a2 ?_
 refine go ?_
 refine WO.bin zj rfl a3 ?_
 refine go ?_
 refine WO.bin zj rfl a4 ?_
 refine go ?_
 refine WO.ldG (v:= .int .u8 (k:Int)) T.1 (off:=0+j * 1) (by rw[Nat.zero_add,Nat.mul_one];exact hv) zj ?_
 refine go ?_
 refine rt ?_
 exact⟨rfl,rfl⟩
end Go.Proofs.YtejjibilgmlhdaaDoor
namespace Go.Proofs.YtejjibilgmlhdaaDoor
open Go.Am
set_option linter.unusedVariables false
set_option linter.unusedSimpArgs false
set_option maxHeartbeats 1000000
theorem drop_cons {s:List LWd} {i:Nat} (h:i<s.length):s.drop i=s.getD i default::s.drop (i+1):=by
 rw[List.drop_eq_getElem_cons h,List.getD_eq_getElem?_getD,List.getElem?_eq_getElem h];rfl
theorem wd_at {h:AHeap} {v:Value} {s:List LWd} {i:Nat} (k:SlW h v s) (hi:i<s.length):∃ cs,RW h cs (s.getD i default)∧Piece h v (i * 2) cs∧IsSl v:=by
 obtain⟨cs,a,_,c⟩:=k.at hi
 exact⟨cs,by rw[List.getD_eq_getElem?_getD,List.getElem?_eq_getElem hi];exact a,c,k.some hi⟩
def errW (b:Bool):Int:=if b then 0 else 8
theorem yC {last:Int} {w:LWd} {l:List LWd} (h:w.pos≤last∨16384≤w.pos∨(w.bits:Int)=0):zH last (w::l)=false:=by
 unfold zH
 rcases h with h|h|h
 ·rw[decide_eq_false (show ¬last<w.pos by omega)];rfl
 ·rw[decide_eq_false (show ¬w.pos<16384 by omega),Bool.and_false];rfl
 ·rw[decide_eq_false (show ¬w.bits≠0 by omega),Bool.and_false];rfl
theorem checkW_good {last:Int} {w:LWd} {l:List LWd} (h1:last<w.pos) (h2:w.pos<16384) (h3:w.bits≠0):zH last (w::l)=zH w.pos l:=by
 rw[zH,decide_eq_true h1,decide_eq_true h2,decide_eq_true h3];rfl
noncomputable def body15_0:ACode:=(.seq (.region [⟨some 9,none,(.bin .lss (.tmp 8) (.tmp 7))⟩]) (.seq (.cond (.tmp 9) .skip (.exit 0)) (.seq (.block 1 (.seq (.region [⟨some 10,none,(.idx 2 (.tmp 6) (.tmp 8))⟩,⟨some 11,none,(.load true 2 (.tmp 10))⟩,⟨some 5,none,(.alloc [(.int .i64 0),(.int .u64 0)])⟩,⟨none,none,(.store 2 (.tmp 5) (.tmp 11))⟩]) (.seq (.seq (.region [⟨some 12,none,(.fld 0 (.tmp 5))⟩,⟨some 13,none,(.load false 1 (.tmp 12))⟩,⟨some 14,none,(.mov (.tmp 3))⟩,⟨some 15,none,(.bin .leq (.tmp 13) (.tmp 14))⟩,⟨some 16,none,(.mov (.tmp 15))⟩,⟨some 17,some (16,false),(.fld 0 (.tmp 5))⟩,⟨some 18,some (16,false),(.load false 1 (.tmp 17))⟩,⟨some 19,some (16,false),(.bin .geq (.tmp 18) (.const (.int .i64 16384)))⟩,⟨some 20,none,(.pick (.tmp 16) (.const (.bool true)) (.tmp 19))⟩,⟨some 21,none,(.mov (.tmp 20))⟩,⟨some 22,some (21,false),(.fld 1 (.tmp 5))⟩,⟨some 23,some (21,false),(.load false 1 (.tmp 22))⟩,⟨some 24,some (21,false),(.bin .eql (.tmp 23) (.const (.int .u64 0)))⟩,⟨some 25,none,(.pick (.tmp 21) (.const (.bool true)) (.tmp 24))⟩]) (.cond (.tmp 25) (.seq (.region [⟨some 2,none,(.mov (.const (.int .i64 8)))⟩]) .ret) .skip)) (.region [⟨some 26,none,(.fld 0 (.tmp 5))⟩,⟨some 27,none,(.load false 1 (.tmp 26))⟩,⟨some 3,none,(.mov (.tmp 27))⟩])))) (.region [⟨some 28,none,(.bin .add (.tmp 8) (.const (.int .i64 1)))⟩,⟨some 8,none,(.mov (.tmp 28))⟩]))))
noncomputable def body15:ACode:=(.seq (.region [⟨some 2,none,(.mov (.const (.int .i64 0)))⟩]) (.seq (.region [⟨some 3,none,(.mov (.const (.int .i64 (-1))))⟩]) (.seq (.seq (.region [⟨some 6,none,(.mov (.tmp 0))⟩,⟨some 7,none,(.len (.tmp 6))⟩,⟨some 8,none,(.mov (.const (.int .i64 0)))⟩]) (.block 0 (.loop body15_0))) (.seq (.region [⟨some 2,none,(.mov (.const (.int .i64 0)))⟩]) .ret))))
set_option maxRecDepth 100000 in
theorem tab15:tb.code 15=some ⟨29,[(2,none)],body15⟩:=by kernel_rfl
theorem check_ok (h:AHeap) (v:Value) (s:List LWd) (k:SlW h v s) (hl:(s.length:Int)≤1000000000):
  WC Tryd.prog tb 15 [v] h fun r h'=>r=I (errW (zH (-1) s))∧Ext h h':=by
 refine WC.of (zx 15) tab15 ?_;simp only[mkTm,Nat.zero_add,Nat.reduceAdd]
 refine go ?_
 refine WX.loopA [9,10,11,5,12,13,14,15,16,17,18,19,20,21,22,23,24,25,2,26,27,3,28,8] (by kernel_rfl) (fun i=>s.length - i) (fun i t h1=>Ext h h1∧zC t 8=I i∧i≤s.length∧∃ last:Int,zC t 3=I last∧Hid (zH (-1) s=zH last (s.drop i))) 0 ?_ ?_
 ·exact⟨Ext.refl _,sl_,Nat.zero_le _,-1,sl_,⟨rfl⟩⟩
 rintro i t h1 hsame ⟨e1,s8,hi,last,s3,hc⟩
 have k1:=SlW.ext k e1
 refine go ?_
 refine WX.br (fun hb=> ?_) (fun hb=> ?_)<;>simp only[DB]at hb
 ·have hi':i<s.length:=by omega
  obtain⟨cs,⟨rfl,w1,w2,w3⟩,pc,hs⟩:=wd_at k1 hi'
  have hd:=hc.out
  rw[drop_cons hi']at hd
  generalize s.getD i default=w at *
  have hd:=Hid.mk hd
  refine go ?_
  refine WO.al ?_
  intro p h2 e2 o2
  refine go ?_
  refine WO.stC0 (cs:=[I w.pos,W w.bits]) o2 e2 ?_
  intro h3 e3 o3 u3
  refine go ?_
  refine go ?_
  repeat' (first|(refine WX.br (fun hb=> ?_) (fun hb=> ?_)<;>(try simp only[DB]at hb)<;>refine go ?_)|(refine WO.sp (fun hb=> ?_) (fun hb=> ?_)<;>(try simp only[DB]at hb)<;>refine go ?_))
  ·refine rt ?_
   exact⟨by rw[hd.out,yC (.inl hb)];rfl,e1.trans e3⟩
  ·refine rt ?_
   exact⟨by rw[hd.out,yC (.inr (.inl hb))];rfl,e1.trans e3⟩
  ·refine rt ?_
   exact⟨by rw[hd.out,yC (.inr (.inr hb))];rfl,e1.trans e3⟩
  ·refine zM (i+1) (by omega) ⟨e1.trans e3,sln,by omega,w.pos,sl_,⟨?_⟩⟩
   rw[hd.out];exact checkW_good (by omega) (by omega) (by omega)
 ·refine go ?_
  refine rt ?_
  have:=hc.out
  rw[show i=s.length by omega,List.drop_length]at this
  exact⟨by rw[this];rfl,e1⟩
end Go.Proofs.YtejjibilgmlhdaaDoor
namespace Go.Proofs.YtejjibilgmlhdaaDoor
open Go.Am
set_option linter.unusedVariables false
set_option linter.unusedSimpArgs false
set_option maxHeartbeats 1000000
noncomputable def body27_0:ACode:=(.seq (.seq (.region [⟨some 4,none,(.mov (.tmp 3))⟩,⟨some 5,none,(.mov (.tmp 0))⟩,⟨some 6,none,(.len (.tmp 5))⟩,⟨some 7,none,(.bin .lss (.tmp 4) (.tmp 6))⟩]) (.cond (.tmp 7) .skip (.exit 0))) (.seq (.block 1 (.seq (.regionC [(⟨some 10,none,(.mov (.tmp 0))⟩,[]),(⟨some 11,none,(.mov (.tmp 3))⟩,[]),(⟨some 12,none,(.idx 2 (.tmp 10) (.tmp 11))⟩,[]),(⟨some 13,none,(.fld 0 (.tmp 12))⟩,[]),(⟨some 14,none,(.load false 1 (.tmp 13))⟩,[]),(⟨some 15,none,(.bin .lss (.tmp 14) (.const (.int .i64 0)))⟩,[]),(⟨some 16,none,(.mov (.tmp 15))⟩,[]),(⟨some 17,some (16,false),(.mov (.tmp 0))⟩,[]),(⟨some 18,some (16,false),(.mov (.tmp 3))⟩,[]),(⟨some 19,some (16,false),(.idx 2 (.tmp 17) (.tmp 18))⟩,[]),(⟨some 20,some (16,false),(.fld 0 (.tmp 19))⟩,[]),(⟨some 21,some (16,false),(.load false 1 (.tmp 20))⟩,[]),(⟨some 22,some (16,false),(.bin .geq (.tmp 21) (.const (.int .i64 16384)))⟩,[]),(⟨some 23,none,(.pick (.tmp 16) (.const (.bool true)) (.tmp 22))⟩,[]),(⟨some 24,none,(.mov (.tmp 23))⟩,[]),(⟨some 25,some (24,false),(.mov (.tmp 0))⟩,[]),(⟨some 26,some (24,false),(.mov (.tmp 3))⟩,[]),(⟨some 27,some (24,false),(.idx 2 (.tmp 25) (.tmp 26))⟩,[]),(⟨some 28,some (24,false),(.fld 1 (.tmp 27))⟩,[]),(⟨some 29,some (24,false),(.load false 1 (.tmp 28))⟩,[]),(⟨some 30,some (24,false),(.bin .eql (.tmp 29) (.const (.int .u64 0)))⟩,[]),(⟨some 31,none,(.pick (.tmp 24) (.const (.bool true)) (.tmp 30))⟩,[]),(⟨some 32,none,(.mov (.tmp 31))⟩,[]),(⟨some 33,some (32,false),(.mov (.tmp 3))⟩,[]),(⟨some 34,some (32,false),(.bin .gtr (.tmp 33) (.const (.int .i64 0)))⟩,[]),(⟨some 35,some (32,false),(.mov (.tmp 34))⟩,[]),(⟨some 36,some (35,true),(.mov (.tmp 0))⟩,[]),(⟨some 37,some (35,true),(.mov (.tmp 3))⟩,[]),(⟨some 38,some (35,true),(.bin .sub (.tmp 37) (.const (.int .i64 1)))⟩,[]),(⟨some 39,some (35,true),(.idx 2 (.tmp 36) (.tmp 38))⟩,[]),(⟨some 40,some (35,true),(.fld 0 (.tmp 39))⟩,[]),(⟨some 41,some (35,true),(.load false 1 (.tmp 40))⟩,[]),(⟨some 42,some (35,true),(.mov (.tmp 0))⟩,[]),(⟨some 43,some (35,true),(.mov (.tmp 3))⟩,[]),(⟨some 44,some (35,true),(.idx 2 (.tmp 42) (.tmp 43))⟩,[]),(⟨some 45,some (35,true),(.fld 0 (.tmp 44))⟩,[]),(⟨some 46,some (35,true),(.load false 1 (.tmp 45))⟩,[]),(⟨some 47,some (35,true),(.bin .geq (.tmp 41) (.tmp 46))⟩,[]),(⟨some 48,some (32,false),(.pick (.tmp 35) (.tmp 47) (.const (.bool false)))⟩,[]),(⟨some 49,none,(.pick (.tmp 32) (.const (.bool true)) (.tmp 48))⟩,[])]) (.cond (.tmp 49) (.seq (.region [⟨some 2,none,(.mov (.const (.bool false)))⟩]) .ret) .skip))) (.region [⟨some 8,none,(.mov (.tmp 3))⟩,⟨some 9,none,(.bin .add (.tmp 8) (.const (.int .i64 1)))⟩,⟨some 3,none,(.mov (.tmp 9))⟩])))
noncomputable def body27:ACode:=(.seq (.region [⟨some 2,none,(.mov (.const (.bool false)))⟩]) (.seq (.seq (.region [⟨some 3,none,(.mov (.const (.int .i64 0)))⟩]) (.block 0 (.loop body27_0))) (.seq (.region [⟨some 2,none,(.mov (.const (.bool true)))⟩]) .ret)))
set_option maxRecDepth 100000 in
theorem tab27:tb.code 27=some ⟨50,[(2,none)],body27⟩:=by kernel_rfl
theorem rMay_ok (h:AHeap) (v:Value) (s:List LWd) (k:SlW h v s) (hl:(s.length:Int)≤1000000000):
  WC Tryd.prog tb 27 [v] h fun r h'=>r= .bool (zH (-1) s)∧h=h':=by
 refine WC.of (zx 27) tab27 ?_;simp only[mkTm,Nat.zero_add,Nat.reduceAdd]
 refine go ?_
 refine WX.loopA [4,5,6,7,10,11,12,13,14,15,16,17,18,19,20,21,22,23,24,25,26,27,28,29,30,31,32,33,34,35,36,37,38,39,40,41,42,43,44,45,46,47,48,49,2,8,9,3] (by kernel_rfl) (fun i=>s.length - i) (fun i t h1=>h=h1∧zC t 3=I i∧i≤s.length∧∃ last:Int,Hid (zH (-1) s=zH last (s.drop i))∧(i=0→last= -1)∧(0<i→(s.getD (i - 1) default).pos=last∧0≤last)) 0 ?_ ?_
 ·exact⟨rfl,sl_,Nat.zero_le _,-1,⟨rfl⟩,fun _=>rfl,fun h=>absurd h (Nat.lt_irrefl _)⟩
 rintro i t _ hsame ⟨rfl,s3,hi,last,hc,hc0,hc1⟩
 refine go ?_
 refine WX.br (fun hb=> ?_) (fun hb=> ?_)<;>simp only[DB]at hb
 ·have hi':i<s.length:=by omega
  obtain⟨cs,⟨rfl,w1,w2,w3⟩,pc,hs⟩:=wd_at k hi'
  have hd:=hc.out
  rw[drop_cons hi']at hd
  have hg:(s.getD (i+1 - 1) default)=s.getD i default:=rfl
  rw[←hg]at hd w1 w2 w3 pc
  generalize hw:s.getD (i+1 - 1) default=w at hd w1 w2 w3 pc
  have hd:=Hid.mk hd
  have hw:=Hid.mk hw
  by_cases h0:i=0
  ·subst h0
   have hlast:=hc0 rfl
   clear hc0 hc1
   refine go ?_
   repeat' (first|(refine WX.br (fun hb=> ?_) (fun hb=> ?_)<;>(try simp only[DB]at hb)<;>refine go ?_)|(refine WO.sp (fun hb=> ?_) (fun hb=> ?_)<;>(try simp only[DB]at hb)<;>refine go ?_))
   ·refine rt ?_
    exact⟨by rw[hd.out,yC (by omega)];rfl,rfl⟩
   ·refine rt ?_
    exact⟨by rw[hd.out,yC (by omega)];rfl,rfl⟩
   ·refine rt ?_
    exact⟨by rw[hd.out,yC (by omega)];rfl,rfl⟩
   ·exact zM (0+1) (by omega) ⟨rfl,sln,by omega,w.pos,⟨hd.out.trans (checkW_good (by omega) (by omega) (by omega))⟩,fun h=>absurd h (by omega),fun _=>⟨by rw[hw.out],by omega⟩⟩
  ·obtain⟨j,rfl⟩:∃ j,i=j+1:=⟨i - 1,by omega⟩
   obtain⟨hp,hp0⟩:=hc1 (by omega)
   obtain⟨cs2,⟨rfl,y1,y2,y3⟩,pc2,_⟩:=wd_at k (show j<s.length by omega)
   rw[show s.getD (j+1 - 1) default=s.getD j default from rfl]at hp
   rw[hp]at y2 y3 pc2
   rw[show j * 2=(((j+1:Nat):Int) - 1).toNat * 2 by omega]at pc2
   clear hc0 hc1 hp
   refine go ?_
   repeat' (first|(refine WX.br (fun hb=> ?_) (fun hb=> ?_)<;>(try simp only[DB]at hb)<;>refine go ?_)|(refine WO.sp (fun hb=> ?_) (fun hb=> ?_)<;>(try simp only[DB]at hb)<;>refine go ?_))
   ·refine rt ?_
    exact⟨by rw[hd.out,yC (by omega)];rfl,rfl⟩
   ·refine rt ?_
    exact⟨by rw[hd.out,yC (by omega)];rfl,rfl⟩
   ·refine rt ?_
    exact⟨by rw[hd.out,yC (by omega)];rfl,rfl⟩
   ·refine rt ?_
    exact⟨by rw[hd.out,yC (by omega)];rfl,rfl⟩
   ·exact zM (j+1+1) (by omega) ⟨rfl,sln,by omega,w.pos,⟨hd.out.trans (checkW_good (by omega) (by omega) (by omega))⟩,fun h=>absurd h (by omega),fun _=>⟨by rw[hw.out],by omega⟩⟩
 ·refine go ?_
  refine rt ?_
  have:=hc.out
  rw[show i=s.length by omega,List.drop_length]at this
  exact⟨by rw[this];rfl,rfl⟩
end Go.Proofs.YtejjibilgmlhdaaDoor
namespace Go.Proofs.YtejjibilgmlhdaaDoor
open Go.Am
set_option linter.unusedVariables false
set_option linter.unusedSimpArgs false
set_option maxHeartbeats 1000000
theorem b_quo {n:Int} (h0:0≤n) (h1:n<9223372036854775808):zG .quo (I n) (I 64)=some (I (n / 64)):=by
 simp only[zG,I,if_true];rw[if_neg (by decide),Int.tdiv_eq_ediv_of_nonneg h0,wrap64 (by omega) (by omega)]
theorem b_rem {n:Int} (h0:0≤n):zG .rem (I n) (I 64)=some (I (n % 64)):=by
 simp only[zG,I,if_true];rw[if_neg (by decide),Int.tmod_eq_emod_of_nonneg h0]
noncomputable def body31:ACode:=(.seq (.region [⟨some 2,none,(.box (.tmp 0))⟩,⟨some 4,none,(.mov (.const (.int .i64 0)))⟩]) (.seq (.region [⟨some 5,none,(.fld 0 (.tmp 2))⟩,⟨some 6,none,(.load false 1 (.tmp 5))⟩,⟨some 7,none,(.mov (.tmp 1))⟩,⟨some 8,none,(.bin .sub (.tmp 6) (.tmp 7))⟩,⟨some 4,none,(.mov (.tmp 8))⟩]) .ret))
set_option maxRecDepth 100000 in
theorem tab31:tb.code 31=some ⟨9,[(4,none)],body31⟩:=by kernel_rfl
theorem has1_ok (h:AHeap) (w:LWd) (at':Int) (hw:0≤w.pos∧w.pos<16384) (ha:0≤at'∧at'<16384):WC Tryd.prog tb 31 [.agg #[I w.pos,W w.bits],I at'] h fun r h'=>r=I (w.pos - at')∧Ext h h':=by
 refine WC.of (zx 31) tab31 ?_;simp only[mkTm,Nat.zero_add,Nat.reduceAdd]
 refine go ?_
 refine WO.bx ?_
 intro p h1 e1 o1
 refine go ?_
 refine rt ?_
 exact⟨rfl,e1⟩
noncomputable def body30_0:ACode:=(.seq (.seq (.region [⟨some 15,none,(.mov (.tmp 9))⟩,⟨some 16,none,(.mov (.tmp 10))⟩,⟨some 17,none,(.bin .lss (.tmp 15) (.tmp 16))⟩]) (.cond (.tmp 17) .skip (.exit 0))) (.block 1 (.seq (.region [⟨some 18,none,(.mov (.tmp 9))⟩,⟨some 19,none,(.mov (.tmp 10))⟩,⟨some 20,none,(.bin .add (.tmp 18) (.tmp 19))⟩,⟨some 21,none,(.conv .u64 (.tmp 20))⟩,⟨some 22,none,(.bin .shr (.tmp 21) (.const (.int .u64 1)))⟩,⟨some 23,none,(.conv .i64 (.tmp 22))⟩,⟨some 11,none,(.mov (.tmp 23))⟩]) (.seq (.region [⟨some 24,none,(.mov (.tmp 2))⟩,⟨some 25,none,(.mov (.tmp 0))⟩,⟨some 26,none,(.mov (.tmp 11))⟩,⟨some 27,none,(.idx 2 (.tmp 25) (.tmp 26))⟩,⟨some 28,none,(.load true 2 (.tmp 27))⟩,⟨some 29,none,(.mov (.tmp 1))⟩,⟨some 30,none,(.call (.tmp 24) [(.tmp 28),(.tmp 29)])⟩,⟨some 31,none,(.bin .lss (.tmp 30) (.const (.int .i64 0)))⟩]) (.cond (.tmp 31) (.region [⟨some 32,none,(.mov (.tmp 11))⟩,⟨some 33,none,(.bin .add (.tmp 32) (.const (.int .i64 1)))⟩,⟨some 9,none,(.mov (.tmp 33))⟩]) (.region [⟨some 34,none,(.mov (.tmp 11))⟩,⟨some 10,none,(.mov (.tmp 34))⟩]))))))
noncomputable def body30:ACode:=(.seq (.region [⟨some 6,none,(.mov (.const (.int .i64 0)))⟩,⟨some 7,none,(.mov (.const (.bool false)))⟩]) (.seq (.region [⟨some 12,none,(.mov (.tmp 0))⟩,⟨some 13,none,(.len (.tmp 12))⟩,⟨some 8,none,(.mov (.tmp 13))⟩]) (.seq (.region [⟨some 14,none,(.mov (.tmp 8))⟩,⟨some 9,none,(.mov (.const (.int .i64 0)))⟩,⟨some 10,none,(.mov (.tmp 14))⟩]) (.seq (.block 0 (.loop body30_0)) (.seq (.region [⟨some 35,none,(.mov (.tmp 9))⟩,⟨some 36,none,(.mov (.tmp 9))⟩,⟨some 37,none,(.mov (.tmp 8))⟩,⟨some 38,none,(.bin .lss (.tmp 36) (.tmp 37))⟩,⟨some 39,none,(.mov (.tmp 38))⟩,⟨some 40,some (39,true),(.mov (.tmp 2))⟩,⟨some 41,some (39,true),(.mov (.tmp 0))⟩,⟨some 42,some (39,true),(.mov (.tmp 9))⟩,⟨some 43,some (39,true),(.idx 2 (.tmp 41) (.tmp 42))⟩,⟨some 44,some (39,true),(.load true 2 (.tmp 43))⟩,⟨some 45,some (39,true),(.mov (.tmp 1))⟩,⟨some 46,some (39,true),(.call (.tmp 40) [(.tmp 44),(.tmp 45)])⟩,⟨some 47,some (39,true),(.bin .eql (.tmp 46) (.const (.int .i64 0)))⟩,⟨some 48,none,(.pick (.tmp 39) (.tmp 47) (.const (.bool false)))⟩,⟨some 6,none,(.mov (.tmp 35))⟩,⟨some 7,none,(.mov (.tmp 48))⟩]) .ret)))))
set_option maxRecDepth 100000 in
theorem tab30:tb.code 30=some ⟨49,[(6,none),(7,none)],body30⟩:=by kernel_rfl
theorem bsf_ok (h:AHeap) (v:Value) (s:List LWd) (at':Int) (k:SlW h v s) (ok:OkW s) (hl:(s.length:Int)≤1000000000) (ha:0≤at'∧at'<16384):
  WC Tryd.prog tb 30 [v,I at',.func (.func 31) #[] #[]] h fun r h'=>(∃ (i:Nat) (b:Bool),r= .tuple #[I i,.bool b]∧(b=true→i<s.length∧(s.getD i default).pos=at')∧(b=false→∀ w∈s,w.pos≠at'))∧Ext h h':=by
 refine WC.of (zx 30) tab30 ?_;simp only[mkTm,Nat.zero_add,Nat.reduceAdd]
 have hmem:∀ {i:Nat},i<s.length→s.getD i default∈s:=fun hi=>by
  rw[List.getD_eq_getElem?_getD,List.getElem?_eq_getElem hi];exact List.getElem_mem hi
 have hr:∀ {i j:Nat},i<j→j<s.length→(s.getD i default).pos<(s.getD j default).pos:=fun hij hj=>by
  rw[List.getD_eq_getElem?_getD,List.getD_eq_getElem?_getD,List.getElem?_eq_getElem hj,List.getElem?_eq_getElem (Nat.lt_trans hij hj)]
  exact List.pairwise_iff_getElem.1 ok.rise _ _ _ _ hij
 refine go ?_
 refine WX.loopA [15,16,17,18,19,20,21,22,23,11,24,25,26,27,28,29,30,31,32,33,9,34,10] (by kernel_rfl) (fun p:Nat×Nat=>p.2 - p.1) (fun p t h1=>Ext h h1∧zC t 9=I p.1∧zC t 10=I p.2∧p.1≤p.2∧p.2≤s.length∧Hid ((∀ i,i<p.1→(s.getD i default).pos<at')∧(∀ i,p.2≤i→i<s.length→at'≤(s.getD i default).pos))) (0,s.length) ?_ ?_
 ·exact⟨Ext.refl _,sl_,sl_,Nat.zero_le _,Nat.le_refl _,⟨fun i hi=>absurd hi (Nat.not_lt_zero _),fun i h1 h2=>absurd h2 (Nat.not_lt.2 h1)⟩⟩
 rintro⟨a,b⟩ t h1 hsame ⟨e1,s9,s10,hab,hbl,hI⟩
 simp only at s9 s10 hab hbl hI
 have k1:=SlW.ext k e1
 refine go ?_
 refine WX.br (fun hc=> ?_) (fun hc=> ?_)<;>simp only[DB]at hc
 ·have hsh:zG .shr (.int .u64 (IntKind.wrap .u64 ((a:Int)+b))) (.int .u64 1)=some (W ((a+b) / 2)):=by
   rw[wrapMod,show ((a:Int)+b) % 18446744073709551616=((a+b:Nat):Int) by omega]
   exact u_shrW (a:=a+b) (k:=1) (by decide)
  have hm:(a+b) / 2<s.length:=by omega
  have hm1:a≤(a+b) / 2:=by omega
  have hm2:(a+b) / 2<b:=by omega
  obtain⟨cs,⟨rfl,w1,w2,w3⟩,pc,hs⟩:=wd_at k1 hm
  refine go ?_
  refine WO.bin zj rfl hsh ?_
  clear hsh
  generalize hmm:(a+b) / 2=m at hm hm1 hm2 pc w1 w2 w3 ⊢
  have hp:=ok.each _ (hmem hm)
  refine go ?_
  refine WO.conV (WV.func (has1_ok h1 (s.getD m default) at' ⟨hp.1,hp.2.1⟩ ha)) ?_
  rintro _ h2 ⟨rfl,e2⟩
  refine go ?_
  repeat' (first|(refine WX.br (fun hb=> ?_) (fun hb=> ?_)<;>(try simp only[DB]at hb)<;>refine go ?_)|(refine WO.sp (fun hb=> ?_) (fun hb=> ?_)<;>(try simp only[DB]at hb)<;>refine go ?_))
  ·refine zM (m+1,b) (by simp only;omega) ⟨e1.trans e2,sln,sl_,hm2,hbl,⟨fun i hi=> ?_,hI.out.2⟩⟩
   by_cases e:i=m
   ·subst e;omega
   ·have:=hr (i:=i) (j:=m) (by simp only at hi;omega) hm;omega
  ·refine zM (a,m) (by simp only;omega) ⟨e1.trans e2,sl_,sl_,hm1,by simp only;omega,⟨hI.out.1,fun i h1 h2=> ?_⟩⟩
   by_cases e:i=m
   ·subst e;omega
   ·have:=hr (i:=m) (j:=i) (by simp only at h1;omega) h2;omega
 ·have hab2:a=b:=by omega
  subst hab2
  refine go ?_
  by_cases hlt:a<s.length
  ·obtain⟨cs,⟨rfl,w1,w2,w3⟩,pc,hs⟩:=wd_at k1 hlt
   have hp:=ok.each _ (hmem hlt)
   refine go ?_
   refine WO.conV (WV.func (has1_ok h1 (s.getD a default) at' ⟨hp.1,hp.2.1⟩ ha)) ?_
   rintro _ h2 ⟨rfl,e2⟩
   refine go ?_
   refine rt ?_
   refine⟨⟨a,_,rfl,fun hd=>⟨hlt,?_⟩,fun hd w hw e=> ?_⟩,e1.trans e2⟩
   ·have:=of_decide_eq_true hd;omega
   ·have:=of_decide_eq_false hd
    obtain⟨i,hi,e2⟩:=List.getElem_of_mem hw
    have e3:s.getD i default=w:=by rw[List.getD_eq_getElem?_getD,List.getElem?_eq_getElem hi];exact e2
    by_cases h1:i<a
    ·have:=hI.out.1 i h1;rw[e3]at this;omega
    ·by_cases h2:i=a
     ·subst h2;rw[e3]at this;omega
     ·have h3:=hr (i:=a) (j:=i) (by omega) hi
      have h4:=hI.out.2 a (Nat.le_refl _) hlt
      rw[e3]at h3;omega
  ·refine go ?_
   refine rt ?_
   refine⟨⟨a,false,rfl,(fun hd=>by cases hd),fun hd w hw e=> ?_⟩,e1⟩
   obtain⟨i,hi,e2⟩:=List.getElem_of_mem hw
   have e3:s.getD i default=w:=by rw[List.getD_eq_getElem?_getD,List.getElem?_eq_getElem hi];exact e2
   have:=hI.out.1 i (by omega);rw[e3]at this;omega
theorem has_word {s:List LWd} {i:Nat} {n:Int} (ok:OkW s) (hi:i<s.length) (hp:(s.getD i default).pos=n / 64):inB s n=(s.getD i default).bits.testBit (n % 64).toNat:=by
 have hm:s.getD i default∈s:=by rw[List.getD_eq_getElem?_getD,List.getElem?_eq_getElem hi];exact List.getElem_mem hi
 cases hb:(s.getD i default).bits.testBit (n % 64).toNat with
 |true=>exact inB_iff.2 ⟨_,hm,hp,hb⟩
 |false=>
  refine inB_false fun ⟨w,hw,e,hb2⟩=> ?_
  have:w=s.getD i default:=by
   obtain⟨j,hj,ej⟩:=List.getElem_of_mem hw
   by_cases h1:j=i
   ·subst h1;rw[←ej,List.getD_eq_getElem?_getD,List.getElem?_eq_getElem hj];rfl
   ·exfalso
    rw[List.getD_eq_getElem?_getD,List.getElem?_eq_getElem hi]at hp
    have hp:s[i].pos=n / 64:=hp
    rcases Nat.lt_or_gt_of_ne h1 with h|h
    ·have:=List.pairwise_iff_getElem.1 ok.rise _ _ hj hi h;rw[ej]at this;omega
    ·have:=List.pairwise_iff_getElem.1 ok.rise _ _ hi hj h;rw[ej]at this;omega
  rw[this,hb]at hb2;cases hb2
def hasE (s:List LWd) (n:Int):Int:=if zH (-1) s=true then (if 0≤n∧n<1048576 then 0 else 2) else 8
def hasB (s:List LWd) (n:Int):Bool:=zH (-1) s&&decide (0≤n∧n<1048576)&&inB s n
noncomputable def body10:ACode:=(.seq (.region [⟨some 4,none,(.mov (.const (.bool false)))⟩,⟨some 5,none,(.mov (.const (.int .i64 0)))⟩]) (.seq (.seq (.region [⟨some 9,none,(.mov (.tmp 0))⟩,⟨some 10,none,(.call (.func 15) [(.tmp 9)])⟩,⟨some 6,none,(.mov (.tmp 10))⟩]) (.seq (.region [⟨some 11,none,(.mov (.tmp 6))⟩,⟨some 12,none,(.bin .neq (.tmp 11) (.const (.int .i64 0)))⟩]) (.cond (.tmp 12) (.seq (.region [⟨some 13,none,(.mov (.tmp 6))⟩,⟨some 4,none,(.mov (.const (.bool false)))⟩,⟨some 5,none,(.mov (.tmp 13))⟩]) .ret) .skip))) (.seq (.seq (.region [⟨some 14,none,(.mov (.tmp 1))⟩,⟨some 15,none,(.call (.func 29) [(.tmp 14)])⟩,⟨some 16,none,(.un .not (.tmp 15))⟩]) (.cond (.tmp 16) (.seq (.region [⟨some 4,none,(.mov (.const (.bool false)))⟩,⟨some 5,none,(.mov (.const (.int .i64 2)))⟩]) .ret) .skip)) (.seq (.region [⟨some 18,none,(.mov (.tmp 0))⟩,⟨some 19,none,(.mov (.tmp 1))⟩,⟨some 20,none,(.bin .quo (.tmp 19) (.const (.int .i64 64)))⟩,⟨some 21,none,(.call (.func 30) [(.tmp 18),(.tmp 20),(.func 31)])⟩,⟨some 17,none,(.mov (.tmp 21))⟩,⟨some 22,none,(.extract (.tmp 17) 0)⟩,⟨some 23,none,(.extract (.tmp 17) 1)⟩,⟨some 7,none,(.mov (.tmp 22))⟩,⟨some 8,none,(.mov (.tmp 23))⟩]) (.seq (.region [⟨some 24,none,(.mov (.tmp 8))⟩,⟨some 25,none,(.mov (.tmp 24))⟩,⟨some 26,some (25,true),(.mov (.tmp 0))⟩,⟨some 27,some (25,true),(.mov (.tmp 7))⟩,⟨some 28,some (25,true),(.idx 2 (.tmp 26) (.tmp 27))⟩,⟨some 29,some (25,true),(.fld 1 (.tmp 28))⟩,⟨some 30,some (25,true),(.load false 1 (.tmp 29))⟩,⟨some 31,some (25,true),(.mov (.tmp 1))⟩,⟨some 32,some (25,true),(.bin .rem (.tmp 31) (.const (.int .i64 64)))⟩,⟨some 33,some (25,true),(.bin .shr (.tmp 30) (.tmp 32))⟩,⟨some 34,some (25,true),(.bin .and (.tmp 33) (.const (.int .u64 1)))⟩,⟨some 35,some (25,true),(.bin .eql (.tmp 34) (.const (.int .u64 1)))⟩,⟨some 36,none,(.pick (.tmp 25) (.tmp 35) (.const (.bool false)))⟩,⟨some 4,none,(.mov (.tmp 36))⟩,⟨some 5,none,(.mov (.const (.int .i64 0)))⟩]) .ret)))))
set_option maxRecDepth 100000 in
theorem tab10:tb.code 10=some ⟨37,[(4,none),(5,none)],body10⟩:=by kernel_rfl
theorem has_ok (h:AHeap) (v:Value) (s:List LWd) (n:Int) (k:SlW h v s) (hl:(s.length:Int)≤1000000000):
  WC Tryd.prog tb 10 [v,I n] h fun r h'=>r= .tuple #[.bool (hasB s n),I (hasE s n)]∧Ext h h':=by
 refine WC.of (zx 10) tab10 ?_;simp only[mkTm,Nat.zero_add,Nat.reduceAdd]
 refine go ?_
 refine WO.con (check_ok h v s k hl) ?_
 rintro _ h1 ⟨rfl,e1⟩
 have k1:=SlW.ext k e1
 unfold hasB hasE
 by_cases hc:zH (-1) s=true
 case neg=>
  have hc:zH (-1) s=false:=by simpa using hc
  rw[hc,show errW false=8 from rfl]
  refine go ?_
  refine rt ?_
  exact⟨rfl,e1⟩
 have ok:=(okW_iff k.bd).1 hc
 rw[hc,show errW true=0 from rfl]
 refine go ?_
 refine WO.con (within_ok h1 n) ?_
 rintro _ _ ⟨rfl,rfl⟩
 by_cases hn:0≤n∧n<1048576
 case neg=>
  have hw:(decide (0≤n)&&decide (n<1048576))=false:=by simpa using hn
  rw[hw]
  refine go ?_
  refine rt ?_
  exact⟨by rw[if_pos rfl,if_neg hn,decide_eq_false hn];rfl,e1⟩
 have hw:(decide (0≤n)&&decide (n<1048576))=true:=by simpa using hn
 rw[hw,decide_eq_true hn]
 refine go ?_
 refine WO.bin zj rfl (b_quo hn.1 (by omega)) ?_
 refine go ?_
 refine WO.con (bsf_ok h1 v s (n / 64) k1 ok hl (by omega)) ?_
 rintro _ h2 ⟨⟨i,b,rfl,hT,hF⟩,e2⟩
 have k2:=SlW.ext k1 e2
 cases b with
 |false=>
  refine go ?_
  refine rt ?_
  refine⟨?_,e1.trans e2⟩
  rw[inB_false fun ⟨w,hw,e,_⟩=>hF rfl w hw e,if_pos rfl,if_pos hn];rfl
 |true=>
  obtain⟨hi,hp⟩:=hT rfl
  rw[has_word ok hi hp]
  obtain⟨cs,⟨rfl,w1,w2,w3⟩,pc,hs⟩:=wd_at k2 hi
  generalize s.getD i default=w at *
  refine go ?_
  refine WO.bin zj rfl (b_rem hn.1) ?_
  have hsh:zG .shr (W w.bits) (I (n % 64))=some (W (w.bits / 2 ^ (n % 64).toNat)):=by
   rw[show n % 64=((n % 64).toNat:Int) by omega];exact u_shr (by omega)
  refine go ?_
  refine WO.bin zj zj hsh ?_
  have han:zG .and (W (w.bits / 2 ^ (n % 64).toNat)) (W 1)=some (W (w.bits / 2 ^ (n % 64).toNat % 2)):=by
   rw[u_and (Nat.lt_of_le_of_lt (Nat.div_le_self _ _) w1) (by decide),Nat.and_one_is_mod]
  refine go ?_
  refine WO.bin zj rfl han ?_
  refine go ?_
  refine rt ?_
  refine⟨?_,e1.trans e2⟩
  rw[if_pos rfl,if_pos hn,Nat.testBit_eq_decide_div_mod_eq]
  have:decide (((w.bits / 2 ^ (n % 64).toNat % 2:Nat):Int)=1)=decide (w.bits / 2 ^ (n % 64).toNat % 2=1):=by
   congr 1;exact propext ⟨fun h=>by omega,fun h=>by omega⟩
  rw[this];rfl
def sizeL (s:List LWd):Int:=((zV s).length:Nat)
theorem numsL_cons (w:LWd) (s:List LWd):(zV (w::s)).length=(bitsL w.bits).length+(zV s).length:=by
 unfold zV;simp
theorem bitsL_le (b:Nat):(bitsL b).length≤64:=by
 have:=List.length_filter_le b.testBit (List.range 64)
 rw[List.length_range]at this;exact this
noncomputable def body12_0:ACode:=(.seq (.region [⟨some 15,none,(.bin .lss (.tmp 14) (.tmp 13))⟩]) (.seq (.cond (.tmp 15) .skip (.exit 0)) (.seq (.block 1 (.seq (.region [⟨some 16,none,(.idx 2 (.tmp 12) (.tmp 14))⟩,⟨some 17,none,(.load true 2 (.tmp 16))⟩,⟨some 6,none,(.alloc [(.int .i64 0),(.int .u64 0)])⟩,⟨none,none,(.store 2 (.tmp 6) (.tmp 17))⟩]) (.region [⟨some 18,none,(.mov (.tmp 2))⟩,⟨some 19,none,(.fld 1 (.tmp 6))⟩,⟨some 20,none,(.load false 1 (.tmp 19))⟩,⟨some 21,none,(.call (.func 33) [(.tmp 20)])⟩,⟨some 22,none,(.bin .add (.tmp 18) (.tmp 21))⟩,⟨some 2,none,(.mov (.tmp 22))⟩]))) (.region [⟨some 23,none,(.bin .add (.tmp 14) (.const (.int .i64 1)))⟩,⟨some 14,none,(.mov (.tmp 23))⟩]))))
noncomputable def body12:ACode:=(.seq (.region [⟨some 2,none,(.mov (.const (.int .i64 0)))⟩,⟨some 3,none,(.mov (.const (.int .i64 0)))⟩]) (.seq (.seq (.region [⟨some 7,none,(.mov (.tmp 0))⟩,⟨some 8,none,(.call (.func 15) [(.tmp 7)])⟩,⟨some 4,none,(.mov (.tmp 8))⟩]) (.seq (.region [⟨some 9,none,(.mov (.tmp 4))⟩,⟨some 10,none,(.bin .neq (.tmp 9) (.const (.int .i64 0)))⟩]) (.cond (.tmp 10) (.seq (.region [⟨some 11,none,(.mov (.tmp 4))⟩,⟨some 2,none,(.mov (.const (.int .i64 0)))⟩,⟨some 3,none,(.mov (.tmp 11))⟩]) .ret) .skip))) (.seq (.seq (.region [⟨some 12,none,(.mov (.tmp 0))⟩,⟨some 13,none,(.len (.tmp 12))⟩,⟨some 14,none,(.mov (.const (.int .i64 0)))⟩]) (.block 0 (.loop body12_0))) (.seq (.region [⟨some 24,none,(.mov (.tmp 2))⟩,⟨some 2,none,(.mov (.tmp 24))⟩,⟨some 3,none,(.mov (.const (.int .i64 0)))⟩]) .ret))))
set_option maxRecDepth 100000 in
theorem tab12:tb.code 12=some ⟨25,[(2,none),(3,none)],body12⟩:=by kernel_rfl
theorem size_ok (h:AHeap) (v:Value) (s:List LWd) (k:SlW h v s) (hl:(s.length:Int)≤1000000000):
  WC Tryd.prog tb 12 [v] h fun r h'=>r= .tuple #[I (if zH (-1) s then sizeL s else 0),I (errW (zH (-1) s))]∧Ext h h':=by
 refine WC.of (zx 12) tab12 ?_;simp only[mkTm,Nat.zero_add,Nat.reduceAdd]
 refine go ?_
 refine WO.con (check_ok h v s k hl) ?_
 rintro _ h1 ⟨rfl,e1⟩
 have k1:=SlW.ext k e1
 by_cases hc:zH (-1) s=true
 case neg=>
  have hc:zH (-1) s=false:=by simpa using hc
  rw[hc,show errW false=8 from rfl]
  refine go ?_
  refine rt ?_
  exact⟨rfl,e1⟩
 rw[hc,show errW true=0 from rfl]
 refine go ?_
 refine WX.loopA [15,16,17,6,18,19,20,21,22,2,23,14] (by kernel_rfl) (fun i=>s.length - i) (fun i t h2=>Ext h1 h2∧zC t 14=I i∧i≤s.length∧∃ q:Nat,zC t 2=I q∧q≤64 * i∧Hid (q+(zV (s.drop i)).length=(zV s).length)) 0 ?_ ?_
 ·exact⟨Ext.refl _,sl_,Nat.zero_le _,0,sl_,Nat.le_refl _,⟨by rw[List.drop_zero,Nat.zero_add]⟩⟩
 rintro i t h2 hsame ⟨e2,s14,hi,q,s2,hq,hc⟩
 have k2:=SlW.ext k1 e2
 refine go ?_
 refine WX.br (fun hb=> ?_) (fun hb=> ?_)<;>simp only[DB]at hb
 ·have hi':i<s.length:=by omega
  obtain⟨cs,⟨rfl,w1,w2,w3⟩,pc,hs⟩:=wd_at k2 hi'
  have hd:=hc.out
  rw[drop_cons hi',numsL_cons]at hd
  generalize s.getD i default=w at *
  have hd:=Hid.mk hd
  have hbl:=bitsL_le w.bits
  refine go ?_
  refine WO.al ?_
  intro p h3 e3 o3
  refine go ?_
  refine WO.stC0 (cs:=[I w.pos,W w.bits]) o3 e3 ?_
  intro h4 e4 o4 u4
  refine go ?_
  refine WO.con (ones_ok h4 w.bits w1) ?_
  rintro _ _ ⟨rfl,rfl⟩
  refine go ?_
  refine zM (i+1) (by omega) ⟨e2.trans e4,sln,by omega,q+(bitsL w.bits).length,sl_,by omega,⟨?_⟩⟩
  have:=hd.out;omega
 ·refine go ?_
  refine rt ?_
  have:=hc.out
  rw[show i=s.length by omega,List.drop_length,show (zV []).length=0 from rfl,Nat.add_zero]at this
  exact⟨by rw[this];rfl,e1.trans e2⟩
end Go.Proofs.YtejjibilgmlhdaaDoor
namespace Go.Proofs.YtejjibilgmlhdaaDoor
open Go.Am
set_option linter.unusedVariables false
set_option linter.unusedSimpArgs false
set_option maxHeartbeats 1000000
abbrev OwnW (b:Nat) (h:AHeap) (v:Value) (s:List LWd):Prop:=OwnR 2 RW b h v s
theorem RW.dep {h:AHeap} {w:LWd} (h1:w.bits<18446744073709551616) (h2: -9223372036854775808≤w.pos) (h3:w.pos≤9223372036854775807) (D:Nat→Prop):Dep RW h [I w.pos,W w.bits] w D:=
 fun _ _ _=>⟨rfl,h1,h2,h3⟩
structure PutS (hB h:AHeap) (b:Nat) (p5 p6 fv:Value) (out:List LWd):Prop where
 e:Ext hB h
 o5:OwnC hB h p5 [fv]
 bb:hB.n≤b∧b≤h.n
 p5b:∀ g,p5= .pointer (some ⟨g,0,none⟩)→g<b
 p6b:∀ g,p6= .pointer (some ⟨g,0,none⟩)→g<b
 ne:p5≠p6
 v:∃ v,OwnC hB h p6 [v]∧OwnW b h v out
theorem PutS.enter {hB h X:AHeap} {b:Nat} {p5 p6 fv:Value} {out:List LWd} (S:PutS hB h b p5 p6 fv out) (e:Ext (inC (asideN 0 h)) X):PutS {hB with mark:=X.n,wr:=[]} (inC X) b p5 p6 fv out:=by
 obtain⟨e0,o5,⟨b1,b2⟩,h5,h6,hne,v,o6,ow⟩:=S
 have o5:OwnC hB X p5 [fv]:=OwnC.ext (h:=inC (asideN 0 h)) o5 e
 have o6:OwnC hB X p6 [v]:=OwnC.ext (h:=inC (asideN 0 h)) o6 e
 have ow:OwnW b X v out:=OwnR.upd ow (fun k _ hk=>e.get k hk) e.n
 have hn:h.n≤X.n:=e.n
 refine⟨⟨Nat.le_trans e0.n hn,fun g hg=>(e.get g (Nat.lt_of_lt_of_le hg e0.n)).trans (e0.get g hg),fun w=>e.wf (e0.wf w),rfl,fun _=>rfl⟩,o5,⟨b1,Nat.le_trans b2 hn⟩,h5,h6,hne,v,o6,OwnR.upd ow (fun _ _ _=>rfl) (Nat.le_refl _)⟩
theorem PutS.leave {hB h h':AHeap} {b m:Nat} {p5 p6 fv:Value} {out:List LWd} (S:PutS {hB with mark:=m,wr:=[]} h' b p5 p6 fv out) (e:Ext hB h):PutS hB (outC h h') b p5 p6 fv out:=by
 obtain⟨e0,o5,⟨b1,b2⟩,h5,h6,hne,v,o6,ow⟩:=S
 exact⟨⟨e0.n,e0.get,fun w=>e0.wf w,e.mark,fun hm=>e.wr hm⟩,o5,⟨b1,b2⟩,h5,h6,hne,v,o6,OwnR.upd ow (fun _ _ _=>rfl) (Nat.le_refl _)⟩
theorem PutS.ext {hB h h':AHeap} {b:Nat} {p5 p6 fv:Value} {out:List LWd} (S:PutS hB h b p5 p6 fv out) (e:Ext h h'):PutS hB h' b p5 p6 fv out:=by
 obtain⟨e0,o5,⟨b1,b2⟩,h5,h6,hne,v,o6,ow⟩:=S
 exact⟨e0.trans e,o5.ext e,⟨b1,Nat.le_trans b2 e.n⟩,h5,h6,hne,v,o6.ext e,OwnR.ext ow e⟩
end Go.Proofs.YtejjibilgmlhdaaDoor
namespace Go.Proofs.YtejjibilgmlhdaaDoor
open Go.Am
set_option linter.unusedVariables false
set_option linter.unusedSimpArgs false
set_option maxHeartbeats 1000000
def MineW (h h':AHeap) (v:Value) (s:List LWd):Prop:=∃ b,h.n≤b∧OwnW b h' v s
theorem MineW.sl {h h' v s} (m:MineW h h' v s):SlW h' v s:=let ⟨_,_,o⟩:=m;OwnR.sl o
theorem MineW.ext {h h1 h2 v s} (m:MineW h h1 v s) (e:Ext h1 h2):MineW h h2 v s:=let ⟨b,hb,o⟩:=m;⟨b,hb,OwnR.ext o e⟩
theorem MineW.nil {h h':AHeap}:MineW h h' (.slice none 0 0) []:=⟨h.n,Nat.le_refl _,OwnR.nil⟩
section
variable {P:Program} {tab:Tab} {t:Trie Value} {h:AHeap} {ds:List Deferred} {rd:Option Nat} {l:List AOper} {Q:AFr→AHeap→Prop}
theorem WO.max2 {d:Nat} {x y:Operand} {a b r:Int} (hr:r=if a<b then b else a) (k:WO P tab l ⟨t.set d (I r),ds,rd⟩ h Q) (hx:Ope t x (I a):=by exact zj) (hy:Ope t y (I b):=by exact zj):WO P tab (⟨some d,none,.maxmin true [x,y]⟩::l) ⟨t,ds,rd⟩ h Q:=by
 have hx:ev t x=I a:=hx
 have hy:ev t y=I b:=hy
 refine WO.op (I r) h rfl ?_ k
 subst hr
 simp only[aop,hx,hy,List.map_cons,List.map_nil]
 rfl
end
end Go.Proofs.YtejjibilgmlhdaaDoor
namespace Go.Proofs.YtejjibilgmlhdaaDoor
open Go.Am
set_option linter.unusedVariables false
set_option linter.unusedSimpArgs false
set_option maxHeartbeats 1000000
theorem w_ext {a b:LWd} (h1:a.pos=b.pos) (h2:a.bits=b.bits):a=b:=by cases a;cases b;cases h1;cases h2;rfl
theorem lw_ext {A B:List LWd} (hl:A.length=B.length) (h:∀ i,i<A.length→A.getD i default=B.getD i default):A=B:=by
 refine List.ext_getElem hl fun i h1 h2=> ?_
 have:=h i h1
 rwa [List.getD_eq_getElem?_getD,List.getD_eq_getElem?_getD,List.getElem?_eq_getElem h1,List.getElem?_eq_getElem h2]at this
theorem eq_wd (x y:LWd):eqAll [I x.pos,W x.bits] [I y.pos,W y.bits]=decide (x=y):=by
 by_cases h:x=y
 ·subst h;simp[eqAll,eqOne,I]
 ·rw[decide_eq_false h]
  cases hb:eqAll [I x.pos,W x.bits] [I y.pos,W y.bits]with
  |false=>rfl
  |true=>
   exfalso
   simp[eqAll,eqOne,I]at hb
   exact h (w_ext hb.1 (by omega))
noncomputable def body34_0:ACode:=(.seq (.region [⟨some 14,none,(.bin .lss (.tmp 13) (.tmp 12))⟩]) (.seq (.cond (.tmp 14) .skip (.exit 0)) (.seq (.block 1 (.seq (.region [⟨some 15,none,(.mov (.tmp 13))⟩,⟨some 5,none,(.mov (.tmp 15))⟩]) (.seq (.regionC [(⟨some 16,none,(.mov (.tmp 0))⟩,[]),(⟨some 17,none,(.mov (.tmp 5))⟩,[]),(⟨some 18,none,(.idx 2 (.tmp 16) (.tmp 17))⟩,[]),(⟨some 19,none,(.load true 2 (.tmp 18))⟩,[]),(⟨some 20,none,(.mov (.tmp 1))⟩,[]),(⟨some 21,none,(.mov (.tmp 5))⟩,[]),(⟨some 22,none,(.idx 2 (.tmp 20) (.tmp 21))⟩,[]),(⟨some 23,none,(.load true 2 (.tmp 22))⟩,[]),(⟨some 24,none,(.binP .neq 52 (.tmp 19) (.tmp 23))⟩,[])]) (.cond (.tmp 24) (.seq (.region [⟨some 4,none,(.mov (.const (.bool false)))⟩]) .ret) .skip)))) (.region [⟨some 25,none,(.bin .add (.tmp 13) (.const (.int .i64 1)))⟩,⟨some 13,none,(.mov (.tmp 25))⟩]))))
noncomputable def body34:ACode:=(.seq (.region [⟨some 4,none,(.mov (.const (.bool false)))⟩]) (.seq (.seq (.region [⟨some 6,none,(.mov (.tmp 0))⟩,⟨some 7,none,(.len (.tmp 6))⟩,⟨some 8,none,(.mov (.tmp 1))⟩,⟨some 9,none,(.len (.tmp 8))⟩,⟨some 10,none,(.bin .neq (.tmp 7) (.tmp 9))⟩]) (.cond (.tmp 10) (.seq (.region [⟨some 4,none,(.mov (.const (.bool false)))⟩]) .ret) .skip)) (.seq (.seq (.region [⟨some 11,none,(.mov (.tmp 0))⟩,⟨some 12,none,(.len (.tmp 11))⟩,⟨some 13,none,(.mov (.const (.int .i64 0)))⟩]) (.block 0 (.loop body34_0))) (.seq (.region [⟨some 4,none,(.mov (.const (.bool true)))⟩]) .ret))))
set_option maxRecDepth 100000 in
theorem tab34:tb.code 34=some ⟨26,[(4,none)],body34⟩:=by kernel_rfl
theorem equal_ok (h:AHeap) (va vb:Value) (A B:List LWd) (ka:SlW h va A) (kb:SlW h vb B) (la:(A.length:Int)≤1000000000):WC Tryd.prog tb 34 [va,vb] h fun r h'=>r= .bool (decide (A=B))∧h=h':=by
 refine WC.of (zx 34) tab34 ?_;simp only[mkTm,Nat.zero_add,Nat.reduceAdd]
 by_cases hl:A.length=B.length
 case neg=>
  refine go ?_
  refine rt ?_
  exact⟨by rw[decide_eq_false (fun e=>hl (by rw[e]))];rfl,rfl⟩
 refine go ?_
 refine WX.loopA [14,15,5,16,17,18,19,20,21,22,23,24,4,25,13] (by kernel_rfl) (fun i=>A.length - i) (fun i t h1=>h=h1∧zC t 13=I i∧i≤A.length∧Hid (∀ j,j<i→A.getD j default=B.getD j default)) 0 ?_ ?_
 ·exact⟨rfl,sl_,Nat.zero_le _,⟨fun j hj=>absurd hj (Nat.not_lt_zero _)⟩⟩
 rintro i t _ hsame ⟨rfl,s13,hi,hI⟩
 refine go ?_
 refine WX.br (fun hb=> ?_) (fun hb=> ?_)<;>simp only[DB]at hb
 ·obtain⟨ca,⟨rfl,x1,x2,x3⟩,pca,hsa⟩:=wd_at ka (show i<A.length by omega)
  obtain⟨cb,⟨rfl,y1,y2,y3⟩,pcb,hsb⟩:=wd_at kb (show i<B.length by omega)
  refine go ?_
  refine WO.bp (ne_chk (xs:=#[I (A.getD i default).pos,W (A.getD i default).bits]) (ys:=#[I (B.getD i default).pos,W (B.getD i default).bits]) (b:=decide (A.getD i default=B.getD i default)) (by kernel_rfl) (eq_wd _ _)) ?_
  refine go ?_
  repeat' (first|(refine WX.br (fun hb=> ?_) (fun hb=> ?_)<;>(try simp only[DB]at hb)<;>refine go ?_)|(refine WO.sp (fun hb=> ?_) (fun hb=> ?_)<;>(try simp only[DB]at hb)<;>refine go ?_))
  ·refine rt ?_
   refine⟨?_,rfl⟩
   rw[decide_eq_false (fun e=>by subst e;exact hb rfl)];rfl
  ·refine zM (i+1) (by omega) ⟨rfl,sln,by omega,⟨fun j hj=> ?_⟩⟩
   by_cases e:j=i
   ·subst e;exact hb
   ·exact hI.out j (by omega)
 ·refine go ?_
  refine rt ?_
  exact⟨by rw[decide_eq_true (lw_ext hl fun j hj=>hI.out j (by omega))];rfl,rfl⟩
noncomputable def body17:ACode:=(.seq (.region [⟨some 4,none,(.mov (.const (.bool false)))⟩]) (.seq (.region [⟨some 5,none,(.mov (.tmp 0))⟩,⟨some 6,none,(.mov (.tmp 1))⟩,⟨some 7,none,(.call (.func 34) [(.tmp 5),(.tmp 6)])⟩,⟨some 4,none,(.mov (.tmp 7))⟩]) .ret))
set_option maxRecDepth 100000 in
theorem tab17:tb.code 17=some ⟨8,[(4,none)],body17⟩:=by kernel_rfl
theorem same_ok (h:AHeap) (va vb:Value) (A B:List LWd) (ka:SlW h va A) (kb:SlW h vb B) (la:(A.length:Int)≤1000000000):WC Tryd.prog tb 17 [va,vb] h fun r h'=>r= .bool (decide (A=B))∧h=h':=by
 refine WC.of (zx 17) tab17 ?_;simp only[mkTm,Nat.zero_add,Nat.reduceAdd]
 refine go ?_
 refine WO.con (equal_ok h va vb A B ka kb la) ?_
 rintro _ _ ⟨rfl,rfl⟩
 refine go ?_
 refine rt ?_
 exact⟨rfl,rfl⟩
noncomputable def body18_0:ACode:=(.seq (.seq (.region [⟨some 11,none,(.mov (.tmp 5))⟩,⟨some 12,none,(.mov (.tmp 0))⟩,⟨some 13,none,(.len (.tmp 12))⟩,⟨some 14,none,(.bin .lss (.tmp 11) (.tmp 13))⟩]) (.cond (.tmp 14) .skip (.exit 0))) (.seq (.block 1 (.seq (.regionC [(⟨some 17,none,(.mov (.tmp 0))⟩,[]),(⟨some 18,none,(.mov (.tmp 5))⟩,[]),(⟨some 19,none,(.idx 2 (.tmp 17) (.tmp 18))⟩,[]),(⟨some 20,none,(.load true 2 (.tmp 19))⟩,[]),(⟨some 21,none,(.mov (.tmp 1))⟩,[]),(⟨some 22,none,(.mov (.tmp 5))⟩,[]),(⟨some 23,none,(.idx 2 (.tmp 21) (.tmp 22))⟩,[]),(⟨some 24,none,(.load true 2 (.tmp 23))⟩,[]),(⟨some 25,none,(.binP .neq 52 (.tmp 20) (.tmp 24))⟩,[])]) (.cond (.tmp 25) (.seq (.region [⟨some 4,none,(.mov (.const (.bool false)))⟩]) .ret) .skip))) (.region [⟨some 15,none,(.mov (.tmp 5))⟩,⟨some 16,none,(.bin .add (.tmp 15) (.const (.int .i64 1)))⟩,⟨some 5,none,(.mov (.tmp 16))⟩])))
noncomputable def body18:ACode:=(.seq (.region [⟨some 4,none,(.mov (.const (.bool false)))⟩]) (.seq (.seq (.region [⟨some 6,none,(.mov (.tmp 0))⟩,⟨some 7,none,(.len (.tmp 6))⟩,⟨some 8,none,(.mov (.tmp 1))⟩,⟨some 9,none,(.len (.tmp 8))⟩,⟨some 10,none,(.bin .neq (.tmp 7) (.tmp 9))⟩]) (.cond (.tmp 10) (.seq (.region [⟨some 4,none,(.mov (.const (.bool false)))⟩]) .ret) .skip)) (.seq (.seq (.region [⟨some 5,none,(.mov (.const (.int .i64 0)))⟩]) (.block 0 (.loop body18_0))) (.seq (.region [⟨some 4,none,(.mov (.const (.bool true)))⟩]) .ret))))
set_option maxRecDepth 100000 in
theorem tab18:tb.code 18=some ⟨26,[(4,none)],body18⟩:=by kernel_rfl
theorem rSame_ok (h:AHeap) (va vb:Value) (A B:List LWd) (ka:SlW h va A) (kb:SlW h vb B) (la:(A.length:Int)≤1000000000):WC Tryd.prog tb 18 [va,vb] h fun r h'=>r= .bool (decide (A=B))∧h=h':=by
 refine WC.of (zx 18) tab18 ?_;simp only[mkTm,Nat.zero_add,Nat.reduceAdd]
 by_cases hl:A.length=B.length
 case neg=>
  refine go ?_
  refine rt ?_
  exact⟨by rw[decide_eq_false (fun e=>hl (by rw[e]))];rfl,rfl⟩
 refine go ?_
 refine WX.loopA [11,12,13,14,17,18,19,20,21,22,23,24,25,4,15,16,5] (by kernel_rfl) (fun i=>A.length - i) (fun i t h1=>h=h1∧zC t 5=I i∧i≤A.length∧Hid (∀ j,j<i→A.getD j default=B.getD j default)) 0 ?_ ?_
 ·exact⟨rfl,sl_,Nat.zero_le _,⟨fun j hj=>absurd hj (Nat.not_lt_zero _)⟩⟩
 rintro i t _ hsame ⟨rfl,s5,hi,hI⟩
 refine go ?_
 refine WX.br (fun hb=> ?_) (fun hb=> ?_)<;>simp only[DB]at hb
 ·obtain⟨ca,⟨rfl,x1,x2,x3⟩,pca,hsa⟩:=wd_at ka (show i<A.length by omega)
  obtain⟨cb,⟨rfl,y1,y2,y3⟩,pcb,hsb⟩:=wd_at kb (show i<B.length by omega)
  refine go ?_
  refine WO.bp (ne_chk (xs:=#[I (A.getD i default).pos,W (A.getD i default).bits]) (ys:=#[I (B.getD i default).pos,W (B.getD i default).bits]) (b:=decide (A.getD i default=B.getD i default)) (by kernel_rfl) (eq_wd _ _)) ?_
  refine go ?_
  repeat' (first|(refine WX.br (fun hb=> ?_) (fun hb=> ?_)<;>(try simp only[DB]at hb)<;>refine go ?_)|(refine WO.sp (fun hb=> ?_) (fun hb=> ?_)<;>(try simp only[DB]at hb)<;>refine go ?_))
  ·refine rt ?_
   refine⟨?_,rfl⟩
   rw[decide_eq_false (fun e=>by subst e;exact hb rfl)];rfl
  ·refine zM (i+1) (by omega) ⟨rfl,sln,by omega,⟨fun j hj=> ?_⟩⟩
   by_cases e:j=i
   ·subst e;exact hb
   ·exact hI.out j (by omega)
 ·refine go ?_
  refine rt ?_
  exact⟨by rw[decide_eq_true (lw_ext hl fun j hj=>hI.out j (by omega))];rfl,rfl⟩
noncomputable def body16:ACode:=(.seq (.region [⟨some 2,none,(.mov (.const (.int .i64 0)))⟩]) (.seq (.seq (.region [⟨some 3,none,(.mov (.tmp 0))⟩,⟨some 4,none,(.call (.func 27) [(.tmp 3)])⟩,⟨some 5,none,(.un .not (.tmp 4))⟩]) (.cond (.tmp 5) (.seq (.region [⟨some 2,none,(.mov (.const (.int .i64 8)))⟩]) .ret) .skip)) (.seq (.region [⟨some 2,none,(.mov (.const (.int .i64 0)))⟩]) .ret)))
set_option maxRecDepth 100000 in
theorem tab16:tb.code 16=some ⟨6,[(2,none)],body16⟩:=by kernel_rfl
theorem rCheck_ok (h:AHeap) (v:Value) (s:List LWd) (k:SlW h v s) (hl:(s.length:Int)≤1000000000):WC Tryd.prog tb 16 [v] h fun r h'=>r=I (errW (zH (-1) s))∧h=h':=by
 refine WC.of (zx 16) tab16 ?_;simp only[mkTm,Nat.zero_add,Nat.reduceAdd]
 refine go ?_
 refine WO.con (rMay_ok h v s k hl) ?_
 rintro _ _ ⟨rfl,rfl⟩
 cases hc:zH (-1) s with
 |true=>
  refine go ?_
  refine rt ?_
  exact⟨rfl,rfl⟩
 |false=>
  refine go ?_
  refine rt ?_
  exact⟨rfl,rfl⟩
end Go.Proofs.YtejjibilgmlhdaaDoor
namespace Go.Proofs.YtejjibilgmlhdaaDoor
open Go.Am
set_option linter.unusedVariables false
set_option linter.unusedSimpArgs false
set_option maxHeartbeats 1000000
structure ExtN (h h':AHeap):Prop where
 n:h.n≤h'.n
 get:∀ g,g<h.n→h'.get g=h.get g
 wf:Wf h→Wf h'
theorem ExtN.of {h h':AHeap} (e:Ext h h'):ExtN h h':=⟨e.n,e.get,e.wf⟩
theorem ExtN.refl (h:AHeap):ExtN h h:=⟨Nat.le_refl _,fun _ _=>rfl,id⟩
theorem ExtN.trans {a b c:AHeap} (h:ExtN a b) (k:ExtN b c):ExtN a c:=⟨Nat.le_trans h.n k.n,fun g hg=>(k.get g (Nat.lt_of_lt_of_le hg h.n)).trans (h.get g hg),fun w=>k.wf (h.wf w)⟩
theorem ExtN.to {h h':AHeap} (e:ExtN h h'):Ext {h with mark:=h'.mark,wr:=h'.wr} h':=⟨e.n,e.get,fun w=>e.wf w,rfl,fun _=>rfl⟩
theorem ExtN.outC {h h1 h':AHeap} (e:Ext h h1) (k:ExtN h h'):Ext h (outC h1 h'):=⟨k.n,k.get,fun w=>k.wf w,e.mark,fun hm=>e.wr hm⟩
theorem slw_shape {h v s} (k:SlW h v s):∃ a n m,v= .slice a n m:=let ⟨_,a,_⟩:=k;a.shape
theorem SlW.extN {h h' v s} (k:SlW h v s) (e:ExtN h h'):SlW h' v s:=by
 have:=SlW.ext (h:={h with mark:=h'.mark,wr:=h'.wr}) (by exact k) e.to
 exact this
theorem TzT.extN {h h'} (T:TzT h) (e:ExtN h h'):TzT h':=by
 have:=TzT.ext (h:={h with mark:=h'.mark,wr:=h'.wr}) (by exact T) e.to
 exact this
theorem numsL_cons2 (w:LWd) (s:List LWd):zV (w::s)=(bitsL w.bits).map (fun k:Nat=>64 * w.pos+(k:Int))++zV s:=rfl
theorem drop_head {l r:List Int} {j:Nat} {x:Int} (h:l.drop j=x::r):j<l.length∧l.getD j 0=x∧l.drop (j+1)=r:=by
 have hj:j<l.length:=by
  rcases Nat.lt_or_ge j l.length with h1|h1
  ·exact h1
  ·rw[List.drop_eq_nil_of_le h1]at h;cases h
 rw[List.drop_eq_getElem_cons hj]at h
 cases h
 exact⟨hj,by rw[List.getD_eq_getElem?_getD,List.getElem?_eq_getElem hj];rfl,rfl⟩
noncomputable def body41_0:ACode:=(.seq (.seq (.region [⟨some 14,none,(.mov (.tmp 5))⟩,⟨some 15,none,(.bin .neq (.tmp 14) (.const (.int .u64 0)))⟩]) (.cond (.tmp 15) .skip (.exit 2))) (.seq (.block 3 (.seq (.regionC [(⟨some 20,none,(.mov (.tmp 0))⟩,[]),(⟨some 21,none,(.fld 0 (.tmp 4))⟩,[]),(⟨some 22,none,(.load false 1 (.tmp 21))⟩,[]),(⟨some 23,none,(.bin .mul (.const (.int .i64 64)) (.tmp 22))⟩,[]),(⟨some 24,none,(.mov (.tmp 5))⟩,[]),(⟨some 25,none,(.call (.func 42) [(.tmp 24)])⟩,[2]),(⟨some 26,none,(.bin .add (.tmp 23) (.tmp 25))⟩,[]),(⟨some 27,none,(.call (.tmp 20) [(.tmp 26)])⟩,[]),(⟨some 28,none,(.un .not (.tmp 27))⟩,[])]) (.cond (.tmp 28) .ret .skip))) (.region [⟨some 16,none,(.mov (.tmp 5))⟩,⟨some 17,none,(.mov (.tmp 5))⟩,⟨some 18,none,(.bin .sub (.tmp 17) (.const (.int .u64 1)))⟩,⟨some 19,none,(.bin .and (.tmp 16) (.tmp 18))⟩,⟨some 5,none,(.mov (.tmp 19))⟩])))
noncomputable def body41_1:ACode:=(.seq (.region [⟨some 9,none,(.bin .lss (.tmp 8) (.tmp 7))⟩]) (.seq (.cond (.tmp 9) .skip (.exit 0)) (.seq (.block 1 (.seq (.region [⟨some 10,none,(.idx 2 (.tmp 6) (.tmp 8))⟩,⟨some 11,none,(.load true 2 (.tmp 10))⟩,⟨some 4,none,(.alloc [(.int .i64 0),(.int .u64 0)])⟩,⟨none,none,(.store 2 (.tmp 4) (.tmp 11))⟩]) (.seq (.region [⟨some 12,none,(.fld 1 (.tmp 4))⟩,⟨some 13,none,(.load false 1 (.tmp 12))⟩,⟨some 5,none,(.mov (.tmp 13))⟩]) (.block 2 (.loop body41_0))))) (.region [⟨some 29,none,(.bin .add (.tmp 8) (.const (.int .i64 1)))⟩,⟨some 8,none,(.mov (.tmp 29))⟩]))))
noncomputable def body41:ACode:=(.seq (.region [⟨some 6,none,(.load false 1 (.tmp 1))⟩,⟨some 7,none,(.len (.tmp 6))⟩,⟨some 8,none,(.mov (.const (.int .i64 0)))⟩]) (.block 0 (.loop body41_1)))
set_option maxRecDepth 100000 in
theorem tab41:tb.code 41=some ⟨30,[],body41⟩:=by kernel_rfl
theorem numbers1_ok (hA hB h:AHeap) (y p v:Value) (s:List LWd) (ok:OkW s) (hl:(s.length:Int)≤1000000000) (J:Nat→(Nat→Prop)→AHeap→Prop) (W0:Nat→Prop) (h0:J 0 W0 h) (o:OwnC hA h p [v]) (k:SlW hB v s) (T:TzT hB) (eB:ExtN hB h) (hm:h.mark≤hB.n)
  (hp:∀ i Wr h',J i Wr h'→ExtN hB h'∧∀ k,Wr k→hB.n≤k∧k<h'.n) (hk:∀ i Wr h' h'',J i Wr h'→ExtN h' h''→J i Wr h'')
  (hy:∀ i Wr h',i<(zV s).length→J i Wr h'→h'.mark≤h'.n→WV Tryd.prog tb y [I ((zV s).getD i 0)] h' fun r h''=>r= .bool true∧h'.n≤h''.n∧(∀ k,k<h'.n→¬Wr k→h''.get k=h'.get k)∧(∀ g∈h''.wr,g∈h'.wr∨hB.n≤g)∧∃ Wr',J (i+1) Wr' h''∧∀ k,Wr' k→Wr k∨h'.n≤k):
  WC Tryd.prog tb 41 [y,p] h fun _ h'=>(∃ Wr,J (zV s).length Wr h')∧h'.mark=h.mark∧h'.wr=h.wr:=by
 have kh:=k.extN eB
 have hp:=Hid.mk hp
 have hk:=Hid.mk hk
 have hy:=Hid.mk hy
 have ok:=Hid.mk ok
 obtain⟨_,_,_,rfl⟩:=slw_shape k
 refine WC.of (zx 41) tab41 ?_;simp only[mkTm,Nat.zero_add,Nat.reduceAdd]
 refine go ?_
 refine WX.loopA [9,10,11,4,12,13,5,14,15,20,21,22,23,24,25,26,27,28,16,17,18,19,5,29,8] (by kernel_rfl) (fun i=>s.length - i) (fun i t h1=>∃ j Wr,zC t 8=I i∧i≤s.length∧j≤(zV s).length∧J j Wr h1∧ExtN hB h1∧h1.mark=h.mark∧h1.wr=h.wr∧Hid ((zV s).drop j=zV (s.drop i))) 0 ?_ ?_
 ·exact⟨0,W0,sl_,Nat.zero_le _,Nat.zero_le _,h0,eB,rfl,rfl,⟨rfl⟩⟩
 clear h0 eB kh
 rintro i t h1 hsame ⟨j,Wr,s8,hi,hjl,j1,e1,m1,r1,hI⟩
 have k1:=k.extN e1
 refine go ?_
 refine WX.br (fun hb=> ?_) (fun hb=> ?_)<;>simp only[DB]at hb
 ·have hi':i<s.length:=by omega
  obtain⟨cs,⟨rfl,w1,w2,w3⟩,pc,hs⟩:=wd_at k1 hi'
  have hd:=hI.out
  rw[drop_cons hi',numsL_cons2]at hd
  have hw4:=ok.out.each (s.getD i default) (by rw[List.getD_eq_getElem?_getD,List.getElem?_eq_getElem hi'];exact List.getElem_mem hi')
  generalize s.getD i default=w at *
  have hd:=Hid.mk hd
  refine go ?_
  refine WO.al ?_
  intro p4 h2 e2 o4
  refine go ?_
  refine WO.stC0 (cs:=[I w.pos,W w.bits]) o4 e2 ?_
  intro h3 e3 o43 u3
  refine go ?_
  obtain⟨g4,g41,g42,rfl,g44⟩:=id o43
  refine WX.loopA [14,15,20,21,22,23,24,25,26,27,28,16,17,18,19,5] (by kernel_rfl) (fun rest=>rest) (fun rest t h4=>∃ j Wr,zC t 5=W rest∧j≤(zV s).length∧rest<18446744073709551616∧J j Wr h4∧ExtN hB h4∧h4.mark=h.mark∧h4.wr=h.wr∧OwnC h1 h4 (.pointer (some ⟨g4,0,none⟩)) [I w.pos,W w.bits]∧¬Wr g4∧Hid ((zV s).drop j=(bitsL rest).map (fun k:Nat=>64 * w.pos+(k:Int))++zV (s.drop (i+1)))) w.bits ?_ ?_
  ·refine⟨j,Wr,sl_,hjl,w1,hk.out _ _ _ _ j1 (ExtN.of e3),e1.trans (ExtN.of e3),e3.mark.trans m1,?_,o43,fun hw=> ?_,hd⟩
   ·have:=e1.n
    rw[e3.wr (by rw[m1];omega)];exact r1
   ·have:=((hp.out _ _ _ j1).2 _ hw).2;omega
  clear hd hI j1 e1 m1 r1 k1 pc hs e2 o4 u3 o43 e3 g44
  rintro rest t4 h4 hsame4 ⟨j,Wr,s5,hjl,hr,j4,e4,m4,r4,o4,hw,hI⟩
  refine go ?_
  refine WX.br (fun hb2=> ?_) (fun hb2=> ?_)<;>simp only[DB]at hb2
  ·have hr0:rest≠0:=by omega
   obtain⟨kk,L⟩:=low hr0 hr
   have hlt:=L.lt
   have hI:=hI.out
   rw[L.list,List.map_cons,List.cons_append]at hI
   obtain⟨hj1,hj2,hj3⟩:=drop_head hI
   have hI:=Hid.mk hj3
   have hless:=L.less
   refine go ?_
   refine WX.regionU2 0 rfl rfl ?_
   have o4X:OwnC h1 (inC (asideN 0 h4)) (.pointer (some ⟨g4,0,none⟩)) [I w.pos,W w.bits]:=o4
   have TX:TzT (inC (asideN 0 h4)):=by have:=T.extN e4;exact this
   refine goU ?_
   refine WO.con (trail_ok _ rest kk TX hr hr0 L) ?_
   rintro _ _ ⟨rfl,rfl⟩
   refine WO.nil ?_
   refine uK2_e (Ext.refl _) reads_call ?_
   refine goU ?_
   have hyy:=hy.out j Wr (inC (inC (asideN 0 h4))) hj1 (hk.out _ _ _ _ j4 ⟨Nat.le_refl _,fun _ _=>rfl,id⟩) (Nat.le_refl _)
   rw[hj2]at hyy
   refine WO.conV hyy ?_
   rintro _ h5 ⟨rfl,n5,k5,w5,Wr',j5,hW'⟩
   refine WO.nil ?_
   refine uK2_wl (fun k hk=> ?_) n5 (fun cl'=> ?_)
   ·rcases w5 k hk with h|h
    ·cases h
    ·rw[m4];omega
   refine goU ?_
   have n5:h4.n≤h5.n:=n5
   have o45:OwnC h1 (outC h4 (inC h5)) (.pointer (some ⟨g4,0,none⟩)) [I w.pos,W w.bits]:=by
    obtain⟨q,q1,q2,q3,q4⟩:=o4
    cases q3
    exact⟨g4,q1,Nat.lt_of_lt_of_le q2 n5,rfl,(k5 g4 q2 hw).trans q4⟩
   have j6:=hk.out _ _ _ (outC h4 (inC h5)) j5 ⟨Nat.le_refl _,fun _ _=>rfl,id⟩
   have e5:ExtN hB (outC h4 (inC h5)):=(hp.out _ _ _ j6).1
   have m6:(outC h4 (inC h5)).mark=h.mark:=m4
   have r6:(outC h4 (inC h5)).wr=h.wr:=r4
   have hw6:¬Wr' g4:=fun hW=>by
    rcases hW' g4 hW with h|h
    ·exact hw h
    ·obtain⟨q,q1,q2,q3,q4⟩:=o4
     cases q3
     have:h4.n≤g4:=h
     omega
   generalize outC h4 (inC h5)=h6 at *
   refine WO.bin zj rfl (u_sub (a:=rest) (b:=1) hr (by omega)) ?_
   refine go ?_
   refine WO.bin zj zj (u_and (a:=rest) (b:=rest - 1) hr (by omega)) ?_
   refine go ?_
   exact zM (rest&&& (rest - 1)) hless ⟨j+1,Wr',sl_,hj1,Nat.lt_trans hless hr,j6,e5,m6,r6,o45,hw6,hI⟩
  ·have hr0:rest=0:=by omega
   subst hr0
   refine go ?_
   have hI:=hI.out
   rw[bitsL_zero]at hI
   exact zM (i+1) (by omega) ⟨j,Wr,sln,by omega,hjl,j4,e4,m4,r4,⟨hI⟩⟩
 ·refine go ?_
  refine rtN ?_
  have hI:=hI.out
  rw[show i=s.length by omega,List.drop_length,show zV []=[] from rfl]at hI
  have hje:j=(zV s).length:=by
   have:=congrArg List.length hI
   rw[List.length_drop,List.length_nil]at this;omega
  subst hje
  exact⟨⟨Wr,j1⟩,m1,r1⟩
noncomputable def body26:ACode:=(.seq (.region [⟨some 1,none,(.box (.tmp 0))⟩,⟨some 2,none,(.mov (.const .nilFunc))⟩]) (.seq (.region [⟨some 3,none,(.mkFunc (.func 41) [] [(.tmp 1)])⟩,⟨some 2,none,(.mov (.tmp 3))⟩]) .ret))
set_option maxRecDepth 100000 in
theorem tab26:tb.code 26=some ⟨4,[(2,none)],body26⟩:=by kernel_rfl
theorem numbers_ok (h:AHeap) (v:Value) (s:List LWd) (k:SlW h v s):WC Tryd.prog tb 26 [v] h fun r h'=>(∃ p,r= .func (.func 41) #[] #[p]∧OwnC h h' p [v])∧Ext h h':=by
 obtain⟨_,_,_,rfl⟩:=slw_shape k
 refine WC.of (zx 26) tab26 ?_;simp only[mkTm,Nat.zero_add,Nat.reduceAdd]
 refine go ?_
 refine WO.bx ?_
 intro p h1 e1 o1
 refine go ?_
 refine rt ?_
 exact⟨⟨p,rfl,o1⟩,e1⟩
theorem Lies.extN {h h':AHeap} {g:Nat} {o:AObj} (k:Lies h g o) (e:ExtN h h'):Lies h' g o:=⟨Nat.lt_of_lt_of_le k.1 e.n,(e.get g k.1).trans k.2⟩
theorem OwnC.extN {h0 h h' p cells} (o:OwnC h0 h p cells) (e:ExtN h h'):OwnC h0 h' p cells:=by
 obtain⟨g,a,b,c,d⟩:=o;exact⟨g,a,Nat.lt_of_lt_of_le b e.n,c,(e.get g b).trans d⟩
theorem OwnN.extN {h0 h h' v xs} (o:OwnN h0 h v xs) (e:ExtN h h'):OwnN h0 h' v xs:=by
 rcases o with o|⟨g,a,b,c,d⟩
 ·exact .inl o
 ·exact .inr ⟨g,a,Nat.lt_of_lt_of_le b e.n,c,(e.get g b).trans d⟩
theorem listB_ne {h0 h1 h:AHeap} {p v:Value} {a:Option Addr} {n k:Nat} {cs:List Value} {xs:List Int} (o:OwnC h0 h p (.slice a n k::cs)) (i:OwnN h1 h v xs):∀ b m c,v= .slice (some b) m c→p≠ .pointer (some ⟨b.block,0,none⟩):=by
 intro b m c hv hp
 obtain⟨g,_,_,rfl,hg⟩:=o
 rcases i with ⟨rfl,_⟩|⟨g2,_,_,rfl,hg2⟩
 ·cases hv
 ·cases hv;cases hp
  rw[hg]at hg2
  cases xs with
  |nil=>cases hg2
  |cons x xs=>cases hg2
theorem listB_upd {h0 h h':AHeap} {p v:Value} {a:Option Addr} {n k:Nat} {cs:List Value} {xs:List Int} (o:OwnC h0 h p (.slice a n k::cs)) (i:OwnN h0 h v xs) (u:Upd v h h'):OwnC h0 h' p (.slice a n k::cs):=by
 have hne:=listB_ne o i
 obtain⟨g,g1,g2,rfl,hg⟩:=o
 exact⟨g,g1,Nat.lt_of_lt_of_le g2 u.1,rfl,(u.2 g g2 fun b m c hv e=>hne b m c hv (by rw[e])).trans hg⟩
theorem listB_updC {h0 h h':AHeap} {p v:Value} {a:Option Addr} {n k:Nat} {cs:List Value} {xs:List Int} (i:OwnI h0 h v xs) (o:OwnC h0 h p (.slice a n k::cs)) (u:UpdC p h h'):OwnI h0 h' v xs:=by
 have hne:=listB_ne o (.inr i)
 obtain⟨g,g1,g2,rfl,hg⟩:=i
 exact⟨g,g1,Nat.lt_of_lt_of_le g2 u.1,rfl,(u.2 g g2 fun e=>hne _ _ _ rfl e).trans hg⟩
noncomputable def body8:ACode:=(.seq (.region [⟨some 2,none,(.alloc [(.slice none 0 0)])⟩,⟨some 3,none,(.mov (.const (.int .i64 0)))⟩]) (.seq (.seq (.region [⟨some 6,none,(.mov (.tmp 0))⟩,⟨some 7,none,(.call (.func 15) [(.tmp 6)])⟩,⟨some 4,none,(.mov (.tmp 7))⟩]) (.seq (.region [⟨some 8,none,(.mov (.tmp 4))⟩,⟨some 9,none,(.bin .neq (.tmp 8) (.const (.int .i64 0)))⟩]) (.cond (.tmp 9) (.seq (.region [⟨some 10,none,(.mov (.tmp 4))⟩,⟨none,none,(.store 1 (.tmp 2) (.const (.slice none 0 0)))⟩,⟨some 3,none,(.mov (.tmp 10))⟩]) .ret) .skip))) (.seq (.seq (.region [⟨some 11,none,(.mov (.tmp 0))⟩,⟨some 12,none,(.call (.func 26) [(.tmp 11)])⟩]) (.block 0 (.rangeFunc (.tmp 12) [13] (.region [⟨some 5,none,(.mov (.tmp 13))⟩]) (.block 1 (.region [⟨some 14,none,(.load false 1 (.tmp 2))⟩,⟨some 15,none,(.mov (.tmp 5))⟩,⟨some 16,none,(.buildSlice 1 1 [(.int .i64 0)] [(0,1,(.tmp 15))])⟩,⟨some 17,none,(.append 1 (.tmp 14) (.tmp 16))⟩,⟨none,none,(.store 1 (.tmp 2) (.tmp 17))⟩]))))) (.seq (.region [⟨some 18,none,(.load false 1 (.tmp 2))⟩,⟨none,none,(.store 1 (.tmp 2) (.tmp 18))⟩,⟨some 3,none,(.mov (.const (.int .i64 0)))⟩]) .ret))))
set_option maxRecDepth 100000 in
theorem tab8:tb.code 8=some ⟨19,[(2,some (false,1)),(3,none)],body8⟩:=by kernel_rfl
theorem list_ok (h:AHeap) (v:Value) (s:List LWd) (k:SlW h v s) (T:TzT h) (hl:(s.length:Int)≤1000000) (hm:h.mark≤h.n):
  WC Tryd.prog tb 8 [v] h fun r h'=>(∃ w,r= .tuple #[w,I (errW (zH (-1) s))]∧OwnN h h' w (if zH (-1) s then zV s else []))∧Ext h h':=by
 refine WC.of (zx 8) tab8 ?_;simp only[mkTm,Nat.zero_add,Nat.reduceAdd]
 refine go ?_
 refine WO.al ?_
 intro p2 h1 e1 o1
 have k1:=SlW.ext k e1
 refine go ?_
 refine WO.con (check_ok h1 v s k1 (by omega)) ?_
 rintro _ h2 ⟨rfl,e2⟩
 have e12:=e1.trans e2
 have o2:=o1.ext e2
 have k2:=SlW.ext k e12
 by_cases hc:zH (-1) s=true
 case neg=>
  have hc:zH (-1) s=false:=by simpa using hc
  rw[hc,show errW false=8 from rfl]
  refine go ?_
  refine WO.stC0 (cs:=[.slice none 0 0]) o2 e12 ?_
  intro h3 e3 o3 u3
  refine go ?_
  refine rt (vs:=[.slice none 0 0,I 8]) ?_ (Res.consB sl_ o3 rfl (Res.cons sl_ Res.nil))
  exact⟨⟨_,rfl,.inl ⟨rfl,rfl⟩⟩,e3⟩
 have ok:=(okW_iff k.bd).1 hc
 rw[hc,show errW true=0 from rfl]
 refine go ?_
 refine WO.con (numbers_ok h2 v s k2) ?_
 rintro _ h3 ⟨⟨p,rfl,o3⟩,e3⟩
 have o23:=o2.ext e3
 have e13:=e12.trans e3
 refine go ?_
 refine WX.rangeG ?_
 intro L g r hO rdy eO hL hg lL lg
 have eb:=e13.trans eO
 have hnL:h.n≤L:=Nat.le_trans e13.n hL
 have o2O:=o23.ext eO
 have hlen:((zV s).length:Int)≤64 * s.length:=by
  have:∀ l:List LWd,(zV l).length≤64 * l.length:=fun l=>by
   induction l with
   |nil=>exact Nat.le_refl _
   |cons w l ih=>rw[numsL_cons,List.length_cons];have:=bitsL_le w.bits;omega
  have:=this s;omega
 have hmO:hO.mark≤h.n:=by rw[eb.mark];exact hm
 refine WV.func ?_
 refine WC.mono (numbers1_ok h2 h hO _ p v s ok (by omega) (fun i Wr h'=>ExtN h h'∧Lies h' L (.loop r)∧Lies h' g (.deferred (some []))∧∃ w,OwnC h h' p2 [w]∧OwnN h h' w ((zV s).take i)∧Wr=fun k=>p2= .pointer (some ⟨k,0,none⟩)∨k=L∨∃ n c,w= .slice (some ⟨k,0,none⟩) n c)
  (fun k=>p2= .pointer (some ⟨k,0,none⟩)∨k=L∨∃ n c,Value.slice none 0 0= .slice (some ⟨k,0,none⟩) n c) ?_ (o3.ext eO) k T (ExtN.of eb) hmO ?_ ?_ ?_) ?_
 ·exact⟨ExtN.of eb,lL,lg,_,o2O,.inl ⟨rfl,rfl⟩,rfl⟩
 ·rintro i _ h' ⟨e',lL',lg',w,ow,on,rfl⟩
  refine⟨e',fun k hk=> ?_⟩
  rcases hk with hk|rfl|⟨n,c,hk⟩
  ·obtain⟨q,q1,q2,q3,q4⟩:=ow
   rw[q3]at hk;cases hk;exact⟨q1,q2⟩
  ·exact⟨hnL,lL'.1⟩
  ·rcases on with ⟨q,_⟩|⟨q,q1,q2,q3,q4⟩
   ·rw[q]at hk;cases hk
   ·rw[q3]at hk;cases hk;exact⟨q1,q2⟩
 ·rintro i _ h' h'' ⟨e',lL',lg',w,ow,on,rfl⟩ e''
  exact⟨e'.trans e'',Lies.extN lL' e'',Lies.extN lg' e'',w,OwnC.extN ow e'',OwnN.extN on e'',rfl⟩
 ·rintro i _ h' hi ⟨e',lL',lg',w,ow,on,rfl⟩ hm'
  refine WV.yieldG lL' rdy rfl ?_
  simp only[setTm]
  refine go ?_
  refine rndK_normal ?_
  intro h4 hh4
  have eB:=e'.to
  generalize hBB:({h with mark:=h'.mark,wr:=h'.wr}:AHeap)=hb at eB
  have hbn:hb.n=h.n:=by rw[←hBB]
  have ownb:∀ {hx p cells},OwnC h hx p cells→OwnC hb hx p cells:=fun o=>by rw[←hBB];exact o
  have ownb':∀ {hx p cells},OwnC hb hx p cells→OwnC h hx p cells:=fun o=>by rw[←hBB]at o;exact o
  have ownn:∀ {hx v xs},OwnN h hx v xs→OwnN hb hx v xs:=fun o=>by rw[←hBB];exact o
  have ownn':∀ {hx v xs},OwnN hb hx v xs→OwnN h hx v xs:=fun o=>by rw[←hBB]at o;exact o
  have e4:Ext hb h4:=by rw[hh4];exact eB.set (by omega) lL'.1 _
  have n4:h4.n=h'.n:=by rw[hh4];rfl
  have m4:h4.mark=h'.mark:=by rw[hh4];rfl
  have w4:∀ k∈h4.wr,k∈h'.wr∨h.n≤k:=fun k hk=>by
   rw[hh4]at hk
   have hk:k∈h'.log L:=hk
   rcases log_mem hk with rfl|h
   ·exact .inr hnL
   ·exact .inl h
  have g4:∀ k,k≠L→h4.get k=h'.get k:=fun k hk=>by rw[hh4,zo,if_neg hk]
  have ow4:OwnC hb h4 p2 [w]:=by rw[hh4];exact(ownb ow).setR lL' rfl
  have on4:OwnN hb h4 w ((zV s).take i):=by rw[hh4];exact OwnN.setR (ownn on) lL' rfl
  have lL4:Lies h4 L (.loop (busy r)):=by rw[hh4];exact lL'.self
  have lg4:Lies h4 g (.deferred (some [])):=by
   rw[hh4];refine lg'.set ?_
   intro e;subst e;have:=lg'.2;rw[lL'.2]at this;cases this
  clear hh4
  obtain⟨wa,wn,wk,rfl⟩:=SlC.shape on4.sl
  refine go ?_
  refine WO.bl [(zV s).getD i 0] ?_
  intro v5 h5 e5 o5
  have m5:h4.mark≤h4.n:=by omega
  have w5:h5.wr=h4.wr:=e5.wr m5
  refine go ?_
  have e05:=e4.trans e5
  have htl:((zV s).take i).length≤i:=by rw[List.length_take];omega
  refine WO.apNw (OwnN.ext on4 e5) o5.sl e05 (by simp) (by simp only[List.length_singleton];omega) ?_
  intro v6 h6 e6 o6 u6 w6 f6
  have ow6:=listB_upd (ow4.ext e5) (OwnN.ext on4 e5) u6
  have lL6:=(lL4.ext e5).upd rfl (OwnN.ext on4 e5) u6
  have lg6:=(lg4.ext e5).upd rfl (OwnN.ext on4 e5) u6
  obtain⟨va,vn,vk,rfl⟩:=SlC.shape o6.sl
  refine go ?_
  refine WO.stC0w (cs:=[.slice va vn vk]) ow6 e6 ?_
  intro h7 e7 ow7 u7 w7
  have o6I:OwnI hb h6 (.slice va vn vk) ((zV s).take i++[(zV s).getD i 0]):=by
   rcases o6 with ⟨_,q⟩|q
   ·simp at q
   ·exact q
  have on7:=listB_updC o6I ow6 u7
  have lL7:=lL6.updC rfl ow6 u7
  have lg7:=lg6.updC rfl ow6 u7
  refine go ?_
  refine rndE_normal lL7 ?_
  have tk:(zV s).take (i+1)=(zV s).take i++[(zV s).getD i 0]:=by rw[List.take_add_one];simp[List.getD,List.getElem?_eq_getElem hi]
  have n57:h'.n≤h7.n:=by have:=e5.n;have:=u6.1;have:=u7.1;omega
  have e8:Ext hb (h7.set L (.loop r)):=e7.set (by omega) lL7.1 _
  have oldg:∀ k,k<h'.n→¬(p2= .pointer (some ⟨k,0,none⟩)∨k=L∨∃ n c,Value.slice wa wn wk= .slice (some ⟨k,0,none⟩) n c)→(h7.set L (.loop r)).get k=h'.get k:=fun k hk hnW=>by
   have h1:k≠L:=fun e=>hnW (.inr (.inl e))
   have a1:=e5.n
   have a2:=u6.1
   rw[zo,if_neg h1,u7.2 k (by omega) (fun e=>hnW (.inl e)),u6.2 k (by omega) (fun b m c e1 e2=> ?_),e5.get k (by omega),g4 k h1]
   subst e2
   rcases on with ⟨q,_⟩|⟨q,q1,q2,q3,q4⟩
   ·rw[q]at e1;cases e1
   ·rw[q3]at e1;cases e1
    exact hnW (.inr (.inr ⟨_,_,q3⟩))
  have belowN:∀ k,k<h.n→¬(p2= .pointer (some ⟨k,0,none⟩)∨k=L∨∃ n c,Value.slice wa wn wk= .slice (some ⟨k,0,none⟩) n c):=fun k hk hW=>by
   rcases hW with hW|rfl|⟨n,c,hW⟩
   ·obtain⟨q,q1,q2,q3,q4⟩:=ow
    rw[q3]at hW;cases hW;omega
   ·omega
   ·rcases on with ⟨q,_⟩|⟨q,q1,q2,q3,q4⟩
    ·rw[q]at hW;cases hW
    ·rw[q3]at hW;cases hW;omega
  have eN:ExtN h (h7.set L (.loop r)):=⟨Nat.le_trans e'.n n57,fun k hk=>(oldg k (Nat.lt_of_lt_of_le hk e'.n) (belowN k hk)).trans (e'.get k hk),fun wf=>e8.wf (by rw[←hBB];exact wf)⟩
  refine⟨rfl,n57,oldg,fun k hk=> ?_,_,⟨eN,lL7.self,lg7.set ?_,_,ownb' (ow7.setR lL7 rfl),?_,rfl⟩,fun k hk=> ?_⟩
  ·have hk:k∈h7.log L:=hk
   rcases log_mem hk with rfl|hk
   ·exact .inr hnL
   rcases w7 k hk with hk|hk
   ·rcases w6 k hk with hk|hk
    ·rw[w5]at hk;exact w4 k hk
    ·exact .inr (by omega)
   ·exact .inr (by omega)
  ·intro e;subst e;have:=lg7.2;rw[lL7.2]at this;cases this
  ·rw[tk];exact ownn' (OwnN.setR (.inr on7) lL7 rfl)
  ·rcases hk with hk|hk|⟨n,c,hk⟩
   ·exact .inl (.inl hk)
   ·exact .inl (.inr (.inl hk))
   ·refine .inr ?_
    have:=f6 _ _ _ hk
    have:=e5.n;omega
 ·rintro _ h4 ⟨⟨_,e4,lL4,lg4,w,ow4,on4,rfl⟩,m4,r4⟩
  refine⟨lL4,fun r3=> ?_⟩
  have lgL:g≠L:=by intro e;subst e;have:=lg4.2;rw[lL4.2]at this;cases this
  have E4:Ext h h4:=⟨e4.n,e4.get,e4.wf,m4.trans eb.mark,fun hm=>r4.trans (eb.wr hm)⟩
  obtain⟨h5,hh5⟩:∃ h5,h5=h4.set L (.loop r3):=⟨_,rfl⟩
  have e5:Ext h h5:=by rw[hh5];exact E4.set hnL lL4.1 _
  have ow5:OwnC h h5 p2 [w]:=by rw[hh5];exact ow4.setR lL4 rfl
  have on5:OwnN h h5 w ((zV s).take (zV s).length):=by rw[hh5];exact OwnN.setR on4 lL4 rfl
  have lg5:Lies h5 g (.deferred (some [])):=by rw[hh5];exact lg4.set lgL
  rw[←hh5]
  clear hh5
  obtain⟨wa,wn,wk,rfl⟩:=SlC.shape on5.sl
  refine go ?_
  refine WO.stC0 ow5 e5 ?_
  intro h6 e6 ow6 u6
  have on6:OwnN h h6 (.slice wa wn wk) ((zV s).take (zV s).length):=by
   rcases on5 with q|q
   ·exact .inl q
   ·exact .inr (listB_updC q ow5 u6)
  have lg6:=lg5.updC rfl ow5 u6
  refine go ?_
  refine retK_col lg6 ?_
  refine rt (vs:=[.slice wa wn wk,I 0]) ?_ (Res.consB sl_ (ow6.setR lg6 rfl) rfl (Res.cons sl_ Res.nil))
  rw[List.take_length]at on6
  refine⟨⟨_,rfl,OwnN.setR on6 lg6 rfl⟩,e6.set (by have:=e13.n;omega) lg6.1 _⟩
end Go.Proofs.YtejjibilgmlhdaaDoor
namespace Go.Proofs.YtejjibilgmlhdaaDoor
open Go.Am
set_option linter.unusedVariables false
set_option linter.unusedSimpArgs false
set_option maxHeartbeats 1000000
theorem Upto.perm {s:List LWd} {xs ys:List Int} (u:Upto s xs) (h:∀ n,n∈xs↔n∈ys):Upto s ys:=⟨u.ok,fun n=>(u.mem n).trans (h n)⟩
end Go.Proofs.YtejjibilgmlhdaaDoor
namespace Go.Proofs.YtejjibilgmlhdaaDoor
open Go.Am
set_option maxRecDepth 1000000 in
theorem ev0_alive:(aexK Tryd.prog (codeTab Tryd.prog) 400).call 19 [] (heapL Tryd.prog.globals.size [(0,tzV)]) (fun v _=>some v)=some (.bool true):=by kernel_rfl
theorem ev_alive:((aex Tryd.prog (codeTab Tryd.prog) 400).call 19 [] (heapL Tryd.prog.globals.size [(0,tzV)])).map (·.1)=some (.bool true):=run_fast ev0_alive
set_option maxRecDepth 1000000 in
theorem alive_closed:([(0,tzV)]:List (Nat×List Value)).all (fun x=>Nat.ble (x.1+1) Tryd.prog.globals.size&&z9 x.2)=true:=by kernel_rfl
set_option maxRecDepth 1000000 in
theorem tb_ok:tb.Ok Tryd.prog where
 code:=fun _ _ h=>h
 stub:=fun f s hs=>by
  have hs:(if f=19 then some (known [(0,tzV)] (.bool true)) else none)=some s:=hs
  split at hs
  ·rename_i e;subst e;cases hs
   exact known_sound Tryd.checked.mixed (codeTab_ok _) rfl (fun x hx=>by
    have h1:=List.all_eq_true.1 alive_closed x hx
    rw[Bool.and_eq_true]at h1
    exact⟨Nat.le_of_ble_eq_true h1.1,h1.2⟩) ev_alive
  ·cases hs
 grow:=fun f s hs args h v h' hk=>by
  have hs:(if f=19 then some (known [(0,tzV)] (.bool true)) else none)=some s:=hs
  split at hs
  ·cases hs;exact known_grow args h v h' hk
  ·cases hs
end Go.Proofs.YtejjibilgmlhdaaDoor
namespace Go.Proofs.YtejjibilgmlhdaaDoor
open Go.Am
set_option linter.unusedVariables false
set_option linter.unusedSimpArgs false
set_option maxHeartbeats 1000000
noncomputable def body14_0:ACode:=(.seq (.seq (.region [⟨some 11,none,(.mov (.tmp 5))⟩,⟨some 12,none,(.mov (.tmp 0))⟩,⟨some 13,none,(.len (.tmp 12))⟩,⟨some 14,none,(.bin .lss (.tmp 11) (.tmp 13))⟩]) (.cond (.tmp 14) .skip (.exit 0))) (.seq (.block 1 (.seq (.regionC [(⟨some 17,none,(.mov (.tmp 0))⟩,[]),(⟨some 18,none,(.mov (.tmp 5))⟩,[]),(⟨some 19,none,(.idx 1 (.tmp 17) (.tmp 18))⟩,[]),(⟨some 20,none,(.load false 1 (.tmp 19))⟩,[]),(⟨some 21,none,(.mov (.tmp 1))⟩,[]),(⟨some 22,none,(.mov (.tmp 5))⟩,[]),(⟨some 23,none,(.idx 1 (.tmp 21) (.tmp 22))⟩,[]),(⟨some 24,none,(.load false 1 (.tmp 23))⟩,[]),(⟨some 25,none,(.bin .neq (.tmp 20) (.tmp 24))⟩,[])]) (.cond (.tmp 25) (.seq (.region [⟨some 4,none,(.mov (.const (.bool false)))⟩]) .ret) .skip))) (.region [⟨some 15,none,(.mov (.tmp 5))⟩,⟨some 16,none,(.bin .add (.tmp 15) (.const (.int .i64 1)))⟩,⟨some 5,none,(.mov (.tmp 16))⟩])))
noncomputable def body14:ACode:=(.seq (.region [⟨some 4,none,(.mov (.const (.bool false)))⟩]) (.seq (.seq (.region [⟨some 6,none,(.mov (.tmp 0))⟩,⟨some 7,none,(.len (.tmp 6))⟩,⟨some 8,none,(.mov (.tmp 1))⟩,⟨some 9,none,(.len (.tmp 8))⟩,⟨some 10,none,(.bin .neq (.tmp 7) (.tmp 9))⟩]) (.cond (.tmp 10) (.seq (.region [⟨some 4,none,(.mov (.const (.bool false)))⟩]) .ret) .skip)) (.seq (.seq (.region [⟨some 5,none,(.mov (.const (.int .i64 0)))⟩]) (.block 0 (.loop body14_0))) (.seq (.region [⟨some 4,none,(.mov (.const (.bool true)))⟩]) .ret))))
set_option maxRecDepth 100000 in
theorem tab14:tb.code 14=some ⟨26,[(4,none)],body14⟩:=by kernel_rfl
theorem sameIntsB_ok (h:AHeap) (v w:Value) (a b:List Int) (sa:SlI h v a) (sb:SlI h w b) (ha:(a.length:Int)≤1000000000):
  WC Tryd.prog tb 14 [v,w] h fun r h'=>r= .bool (decide (a=b))∧h=h':=by
 refine WC.of (zx 14) tab14 ?_;simp only[mkTm,Nat.zero_add,Nat.reduceAdd]
 by_cases hl:(a.length:Int)=(b.length:Int)
 case neg=>
  have hne:a≠b:=fun e=>hl (by rw[e])
  refine go ?_
  refine rt ?_
  exact⟨by rw[decide_eq_false hne];rfl,rfl⟩
 refine go ?_
 refine WX.loopA [11,12,13,14,17,18,19,20,21,22,23,24,25,4,15,16,5] (by kernel_rfl) (fun i=>a.length - i) (fun i t h1=>h=h1∧zC t 5=I i∧i≤a.length∧Hid (∀ j,j<i→a.getD j 0=b.getD j 0)) 0 ?_ ?_
 ·exact⟨rfl,sl_,Nat.zero_le _,⟨fun j hj=>absurd hj (Nat.not_lt_zero _)⟩⟩
 rintro i t _ hsame ⟨rfl,s5,hi,hm⟩
 refine go ?_
 refine WX.br (fun hb=> ?_) (fun hb=> ?_)<;>simp only[DB]at hb
 ·have hi':i<a.length:=by omega
  by_cases he:a.getD i 0=b.getD i 0
  ·refine go ?_
   refine zM (i+1) (by omega) ⟨rfl,sln,by omega,⟨fun j hj=> ?_⟩⟩
   by_cases e:j=i
   ·subst e;exact he
   ·exact hm.out j (by omega)
  ·have hne:a≠b:=fun e=>he (by rw[e])
   refine go ?_
   refine rt ?_
   exact⟨by rw[decide_eq_false hne];rfl,rfl⟩
 ·have heq:a=b:=by
   refine List.ext_getElem (by omega) fun j h1 h2=> ?_
   have:=hm.out j (by omega)
   simpa [List.getD,List.getElem?_eq_getElem h1,List.getElem?_eq_getElem h2]using this
  refine go ?_
  refine rt ?_
  exact⟨by rw[decide_eq_true heq];rfl,rfl⟩
def bitsTo (b n:Nat):List Nat:=(List.range n).filter b.testBit
theorem bitsTo_succ (b n:Nat):bitsTo b (n+1)=bitsTo b n++(if b / 2 ^ n % 2=1 then [n] else []):=by
 unfold bitsTo
 rw[List.range_succ,List.filter_append]
 congr 1
 have e:=Nat.testBit_eq_decide_div_mod_eq (x:=b) (i:=n)
 by_cases h:b / 2 ^ n % 2=1
 ·rw[decide_eq_true h]at e
  rw[if_pos h];simp[e]
 ·rw[decide_eq_false h]at e
  rw[if_neg h];simp[e]
theorem bitsTo_le (b n:Nat):(bitsTo b n).length≤n:=by
 have:=List.length_filter_le b.testBit (List.range n)
 rw[List.length_range]at this;exact this
theorem numsL_take {s:List LWd} {i:Nat} (h:i<s.length):zV (s.take (i+1))=zV (s.take i)++(bitsL (s.getD i default).bits).map (fun k:Nat=>64 * (s.getD i default).pos+(k:Int)):=by
 unfold zV
 rw[List.take_add_one,List.getElem?_eq_getElem h,List.flatMap_append,List.getD_eq_getElem?_getD,List.getElem?_eq_getElem h]
 simp
theorem nums_take_le (s:List LWd) (i:Nat):(zV (s.take i)).length≤64 * i:=by
 have:∀ l:List LWd,(zV l).length≤64 * l.length:=fun l=>by
  induction l with
  |nil=>exact Nat.le_refl _
  |cons w l ih=>rw[numsL_cons,List.length_cons];have:=bitsL_le w.bits;omega
 have h1:=this (s.take i)
 have h2:(s.take i).length≤i:=by rw[List.length_take];omega
 omega
noncomputable def body28_0:ACode:=(.seq (.seq (.region [⟨some 18,none,(.mov (.tmp 6))⟩,⟨some 19,none,(.bin .lss (.tmp 18) (.const (.int .i64 64)))⟩]) (.cond (.tmp 19) .skip (.exit 2))) (.seq (.block 3 (.seq (.seq (.region [⟨some 22,none,(.mov (.tmp 5))⟩,⟨some 23,none,(.bin .rem (.tmp 22) (.const (.int .u64 2)))⟩,⟨some 24,none,(.bin .eql (.tmp 23) (.const (.int .u64 1)))⟩]) (.cond (.tmp 24) (.region [⟨some 25,none,(.mov (.tmp 3))⟩,⟨some 26,none,(.mov (.tmp 0))⟩,⟨some 27,none,(.mov (.tmp 4))⟩,⟨some 28,none,(.idx 2 (.tmp 26) (.tmp 27))⟩,⟨some 29,none,(.fld 0 (.tmp 28))⟩,⟨some 30,none,(.load false 1 (.tmp 29))⟩,⟨some 31,none,(.bin .mul (.const (.int .i64 64)) (.tmp 30))⟩,⟨some 32,none,(.mov (.tmp 6))⟩,⟨some 33,none,(.bin .add (.tmp 31) (.tmp 32))⟩,⟨some 34,none,(.buildSlice 1 1 [(.int .i64 0)] [(0,1,(.tmp 33))])⟩,⟨some 35,none,(.append 1 (.tmp 25) (.tmp 34))⟩,⟨some 3,none,(.mov (.tmp 35))⟩]) .skip)) (.region [⟨some 36,none,(.mov (.tmp 5))⟩,⟨some 37,none,(.bin .quo (.tmp 36) (.const (.int .u64 2)))⟩,⟨some 5,none,(.mov (.tmp 37))⟩]))) (.region [⟨some 20,none,(.mov (.tmp 6))⟩,⟨some 21,none,(.bin .add (.tmp 20) (.const (.int .i64 1)))⟩,⟨some 6,none,(.mov (.tmp 21))⟩])))
noncomputable def body28_1:ACode:=(.seq (.seq (.region [⟨some 7,none,(.mov (.tmp 4))⟩,⟨some 8,none,(.mov (.tmp 0))⟩,⟨some 9,none,(.len (.tmp 8))⟩,⟨some 10,none,(.bin .lss (.tmp 7) (.tmp 9))⟩]) (.cond (.tmp 10) .skip (.exit 0))) (.seq (.block 1 (.seq (.region [⟨some 13,none,(.mov (.tmp 0))⟩,⟨some 14,none,(.mov (.tmp 4))⟩,⟨some 15,none,(.idx 2 (.tmp 13) (.tmp 14))⟩,⟨some 16,none,(.fld 1 (.tmp 15))⟩,⟨some 17,none,(.load false 1 (.tmp 16))⟩,⟨some 5,none,(.mov (.tmp 17))⟩]) (.seq (.region [⟨some 6,none,(.mov (.const (.int .i64 0)))⟩]) (.block 2 (.loop body28_0))))) (.region [⟨some 11,none,(.mov (.tmp 4))⟩,⟨some 12,none,(.bin .add (.tmp 11) (.const (.int .i64 1)))⟩,⟨some 4,none,(.mov (.tmp 12))⟩])))
noncomputable def body28:ACode:=(.seq (.region [⟨some 2,none,(.mov (.const (.slice none 0 0)))⟩]) (.seq (.region [⟨some 3,none,(.mov (.const (.slice none 0 0)))⟩]) (.seq (.seq (.region [⟨some 4,none,(.mov (.const (.int .i64 0)))⟩]) (.block 0 (.loop body28_1))) (.seq (.region [⟨some 38,none,(.mov (.tmp 3))⟩,⟨some 2,none,(.mov (.tmp 38))⟩]) .ret))))
set_option maxRecDepth 100000 in
theorem tab28:tb.code 28=some ⟨39,[(2,none)],body28⟩:=by kernel_rfl
theorem rNumbers_ok (h:AHeap) (v:Value) (s:List LWd) (k:SlW h v s) (ok:OkW s) (hl:s.length≤100000):
  WC Tryd.prog tb 28 [v] h fun r h'=>OwnN h h' r (zV s)∧Ext h h':=by
 have ok:=Hid.mk ok
 refine WC.of (zx 28) tab28 ?_;simp only[mkTm,Nat.zero_add,Nat.reduceAdd]
 refine go ?_
 refine WX.loopA [7,8,9,10,13,14,15,16,17,5,6,18,19,22,23,24,25,26,27,28,29,30,31,32,33,34,35,3,36,37,5,20,21,6,11,12,4] (by kernel_rfl) (fun i=>s.length - i) (fun i t h1=>∃ w,zC t 4=I i∧i≤s.length∧Ext h h1∧zC t 3=w∧OwnN h h1 w (zV (s.take i))) 0 ?_ ?_
 ·exact⟨_,sl_,Nat.zero_le _,Ext.refl _,sl_,.inl ⟨rfl,rfl⟩⟩
 rintro i t h1 hsame ⟨w,s4,hi,e1,s3,ow⟩
 have k1:=SlW.ext k e1
 refine go ?_
 refine WX.br (fun hb=> ?_) (fun hb=> ?_)<;>simp only[DB]at hb
 ·have hi':i<s.length:=by omega
  obtain⟨cs,⟨rfl,w1,w2,w3⟩,pc,hs⟩:=wd_at k1 hi'
  have hwp:=ok.out.each (s.getD i default) (by rw[List.getD_eq_getElem?_getD,List.getElem?_eq_getElem hi'];exact List.getElem_mem hi')
  have htk:=numsL_take hi'
  have hpl:=nums_take_le s i
  generalize hP:zV (s.take i)=P at ow htk hpl
  generalize hwd:s.getD i default=wd at *
  have htk:=Hid.mk htk
  have hwd:=Hid.mk hwd
  refine go ?_
  refine WX.loopA [18,19,22,23,24,25,26,27,28,29,30,31,32,33,34,35,3,36,37,5,20,21,6] (by kernel_rfl) (fun n=>64 - n) (fun n t h2=>∃ w,zC t 6=I n∧n≤64∧Ext h h2∧zC t 5=W (wd.bits / 2 ^ n)∧zC t 3=w∧OwnN h h2 w (P++(bitsTo wd.bits n).map (fun k:Nat=>64 * wd.pos+(k:Int)))) 0 ?_ ?_
  ·refine⟨w,sl_,Nat.zero_le _,e1,?_,sl_,by simpa [bitsTo]using ow⟩
   rw[Nat.pow_zero,Nat.div_one];exact sl_
  ·rintro n t2 h2 hsame2 ⟨w',s6,hn,e2,s5,s3',ow'⟩
   have k2:=SlW.ext k e2
   have hdl:wd.bits / 2 ^ n<18446744073709551616:=Nat.lt_of_le_of_lt (Nat.div_le_self _ _) w1
   have hnext:wd.bits / 2 ^ n / 2=wd.bits / 2 ^ (n+1):=by rw[Nat.div_div_eq_div_mul,Nat.pow_succ]
   have hbt:=bitsTo_succ wd.bits n
   have hbl:=bitsTo_le wd.bits n
   generalize hq:wd.bits / 2 ^ n=q at *
   have hquo:zG .quo (W q) (W 2)=some (W (q / 2)):=u_quo hdl (by decide)
   rw[hnext]at hquo
   refine go ?_
   refine WX.br (fun hb2=> ?_) (fun hb2=> ?_)<;>simp only[DB]at hb2
   ·refine go ?_
    refine WO.bin zj rfl (u_rem (a:=q) (b:=2) (by decide)) ?_
    by_cases hq1:q % 2=1
    ·have hq1':((q % 2:Nat):Int)=1:=by omega
     rw[if_pos hq1]at hbt
     obtain⟨cs2,⟨rfl,y1,y2,y3⟩,pc2,hs2⟩:=wd_at k2 hi'
     rw[hwd.out]at y1 y2 y3 pc2
     refine go ?_
     refine WO.bl [64 * wd.pos+(n:Int)] ?_
     intro v3 h3 e3 o3
     refine go ?_
     refine WO.apN (OwnN.ext ow' e3) o3.sl (e2.trans e3) (by simp only[List.length_append,List.length_map,List.length_singleton];omega) ?_
     intro v4 h4 e4 o4
     refine go ?_
     refine WO.bin zj rfl hquo ?_
     refine go ?_
     refine zM (n+1) (by omega) ⟨_,sln,by omega,e4,sl_,sl_,?_⟩
     rw[hbt,List.map_append,←List.append_assoc];exact o4
    ·have hq1':¬((q % 2:Nat):Int)=1:=by omega
     rw[if_neg hq1,List.append_nil]at hbt
     refine go ?_
     refine WO.bin zj rfl hquo ?_
     refine go ?_
     refine zM (n+1) (by omega) ⟨_,sln,by omega,e2,sl_,sl_,?_⟩
     rw[hbt];exact ow'
   ·have hn64:n=64:=by omega
    subst hn64
    refine go ?_
    refine zM (i+1) (by omega) ⟨_,sln,by omega,e2,sl_,?_⟩
    rw[htk.out];exact ow'
 ·refine go ?_
  refine rt ?_
  rw[show i=s.length by omega,List.take_length]at ow
  subst s3
  exact⟨ow,e1⟩
noncomputable def body32_0:ACode:=(.seq (.seq (.region [⟨some 6,none,(.mov (.tmp 5))⟩,⟨some 7,none,(.mov (.tmp 0))⟩,⟨some 8,none,(.len (.tmp 7))⟩,⟨some 9,none,(.bin .lss (.tmp 6) (.tmp 8))⟩]) (.cond (.tmp 9) .skip (.exit 0))) (.seq (.block 1 (.seq (.region [⟨some 12,none,(.mov (.tmp 0))⟩,⟨some 13,none,(.mov (.tmp 5))⟩,⟨some 14,none,(.idx 2 (.tmp 12) (.tmp 13))⟩,⟨some 15,none,(.fld 0 (.tmp 14))⟩,⟨some 16,none,(.load false 1 (.tmp 15))⟩,⟨some 17,none,(.mov (.tmp 1))⟩,⟨some 18,none,(.bin .quo (.tmp 17) (.const (.int .i64 64)))⟩,⟨some 19,none,(.bin .eql (.tmp 16) (.tmp 18))⟩]) (.cond (.tmp 19) (.seq (.regionC [(⟨some 20,none,(.mov (.tmp 0))⟩,[]),(⟨some 21,none,(.mov (.tmp 5))⟩,[]),(⟨some 22,none,(.idx 2 (.tmp 20) (.tmp 21))⟩,[]),(⟨some 23,none,(.fld 1 (.tmp 22))⟩,[]),(⟨some 24,none,(.load false 1 (.tmp 23))⟩,[]),(⟨some 25,none,(.mov (.tmp 1))⟩,[]),(⟨some 26,none,(.call (.func 43) [(.tmp 25)])⟩,[4]),(⟨some 27,none,(.bin .quo (.tmp 24) (.tmp 26))⟩,[]),(⟨some 28,none,(.bin .rem (.tmp 27) (.const (.int .u64 2)))⟩,[]),(⟨some 29,none,(.bin .eql (.tmp 28) (.const (.int .u64 1)))⟩,[]),(⟨some 4,none,(.mov (.tmp 29))⟩,[])]) .ret) .skip))) (.region [⟨some 10,none,(.mov (.tmp 5))⟩,⟨some 11,none,(.bin .add (.tmp 10) (.const (.int .i64 1)))⟩,⟨some 5,none,(.mov (.tmp 11))⟩])))
noncomputable def body32:ACode:=(.seq (.region [⟨some 4,none,(.mov (.const (.bool false)))⟩]) (.seq (.seq (.region [⟨some 5,none,(.mov (.const (.int .i64 0)))⟩]) (.block 0 (.loop body32_0))) (.seq (.region [⟨some 4,none,(.mov (.const (.bool false)))⟩]) .ret)))
set_option maxRecDepth 100000 in
theorem tab32:tb.code 32=some ⟨30,[(4,none)],body32⟩:=by kernel_rfl
theorem rIn_ok (h:AHeap) (v:Value) (s:List LWd) (n:Int) (k:SlW h v s) (ok:OkW s) (hl:(s.length:Int)≤1000000000) (hn:0≤n∧n<1048576):WC Tryd.prog tb 32 [v,I n] h fun r h'=>r= .bool (inB s n)∧h=h':=by
 refine WC.of (zx 32) tab32 ?_;simp only[mkTm,Nat.zero_add,Nat.reduceAdd]
 have ok:=Hid.mk ok
 refine go ?_
 refine WX.loopA [6,7,8,9,12,13,14,15,16,17,18,19,20,21,22,23,24,25,26,27,28,29,4,10,11,5] (by kernel_rfl) (fun i=>s.length - i) (fun i t h1=>h=h1∧zC t 5=I i∧i≤s.length∧Hid (∀ j,j<i→(s.getD j default).pos≠n / 64)) 0 ?_ ?_
 ·exact⟨rfl,sl_,Nat.zero_le _,⟨fun j hj=>absurd hj (Nat.not_lt_zero _)⟩⟩
 rintro i t _ hsame ⟨rfl,s5,hi,hI⟩
 refine go ?_
 refine WX.br (fun hb=> ?_) (fun hb=> ?_)<;>simp only[DB]at hb
 ·have hi':i<s.length:=by omega
  obtain⟨cs,⟨rfl,w1,w2,w3⟩,pcx,hs⟩:=slr_atX k hi'
  have pc:=(pcx _ (Ext.refl _)).1
  have hpX:=(pcx _ (Ext.refl _)).2
  have hpX:Piece (inC (asideN 0 h)) v (i * 2) [I (s.getD i default).pos,W (s.getD i default).bits]:=hpX
  have kX:SlW (inC (asideN 0 h)) v s:=k
  obtain⟨qa,qn,qk,hqv,hqb⟩:=slr_block (i:=i) k hi'
  have hw:=fun hp=>has_word (n:=n) ok.out hi' hp
  refine go ?_
  refine WO.bin zj rfl (b_quo hn.1 (by omega)) ?_
  by_cases hp:(s.getD i default).pos=n / 64
  ·have hw:=hw hp
   generalize hbit:(s.getD i default).bits=b at *
   have hquo:zG .quo (W b) (W (2 ^ (n % 64).toNat))=some (W (b / 2 ^ (n % 64).toNat)):=u_quo w1 (pow_ne _)
   rw[Nat.testBit_eq_decide_div_mod_eq]at hw
   have hrb:=rbit_ok (inC (asideN 0 h)) n hn.1 (by omega)
   generalize 2 ^ (n % 64).toNat=p2 at *
   refine go ?_
   refine WX.regionU2 0 rfl rfl ?_
   refine goU ?_
   refine WO.con hrb ?_
   rintro _ _ ⟨rfl,rfl⟩
   refine WO.nil ?_
   refine uK2_e (Ext.refl _) reads_call ?_
   refine goU ?_
   refine WO.bin zj zj hquo ?_
   refine WO.nil ?_
   refine uK2_q ?_
   refine goU ?_
   refine WO.bin zj rfl (u_rem (a:=b / p2) (b:=2) (by decide)) ?_
   refine WO.nil ?_
   refine uK2_q ?_
   refine goU ?_
   refine rt ?_
   refine⟨?_,rfl⟩
   rw[hw]
   show Value.bool _=Value.bool _
   congr 1
   exact decide_eq_decide.2 ⟨fun h=>by omega,fun h=>by omega⟩
  ·refine go ?_
   refine zM (i+1) (by omega) ⟨rfl,sln,by omega,⟨fun j hj=> ?_⟩⟩
   by_cases e:j=i
   ·subst e;exact hp
   ·exact hI.out j (by omega)
 ·refine go ?_
  refine rt ?_
  refine⟨?_,rfl⟩
  rw[inB_false fun ⟨w,hw,e,_⟩=>by
   obtain⟨j,hj,ej⟩:=List.getElem_of_mem hw
   refine hI.out j (by omega) ?_
   rw[List.getD_eq_getElem?_getD,List.getElem?_eq_getElem hj];subst ej;exact e]
  rfl
noncomputable def body9:ACode:=(.seq (.region [⟨some 2,none,(.mov (.const (.slice none 0 0)))⟩,⟨some 3,none,(.mov (.const (.int .i64 0)))⟩]) (.seq (.seq (.region [⟨some 4,none,(.mov (.tmp 0))⟩,⟨some 5,none,(.call (.func 27) [(.tmp 4)])⟩,⟨some 6,none,(.un .not (.tmp 5))⟩]) (.cond (.tmp 6) (.seq (.region [⟨some 2,none,(.mov (.const (.slice none 0 0)))⟩,⟨some 3,none,(.mov (.const (.int .i64 8)))⟩]) .ret) .skip)) (.seq (.region [⟨some 7,none,(.mov (.tmp 0))⟩,⟨some 8,none,(.call (.func 28) [(.tmp 7)])⟩,⟨some 2,none,(.mov (.tmp 8))⟩,⟨some 3,none,(.mov (.const (.int .i64 0)))⟩]) .ret)))
set_option maxRecDepth 100000 in
theorem tab9:tb.code 9=some ⟨9,[(2,none),(3,none)],body9⟩:=by kernel_rfl
theorem rList_ok (h:AHeap) (v:Value) (s:List LWd) (k:SlW h v s) (hl:s.length≤100000):
  WC Tryd.prog tb 9 [v] h fun r h'=>(∃ w,r= .tuple #[w,I (errW (zH (-1) s))]∧OwnN h h' w (if zH (-1) s then zV s else []))∧Ext h h':=by
 refine WC.of (zx 9) tab9 ?_;simp only[mkTm,Nat.zero_add,Nat.reduceAdd]
 refine go ?_
 refine WO.con (rMay_ok h v s k (by omega)) ?_
 rintro _ _ ⟨rfl,rfl⟩
 by_cases hc:zH (-1) s=true
 case neg=>
  have hc:zH (-1) s=false:=by simpa using hc
  rw[hc]
  refine go ?_
  refine rt ?_
  exact⟨⟨_,rfl,.inl ⟨rfl,rfl⟩⟩,Ext.refl _⟩
 have ok:=(okW_iff k.bd).1 hc
 rw[hc]
 refine go ?_
 refine WO.con (rNumbers_ok h v s k ok hl) ?_
 rintro w h1 ⟨o1,e1⟩
 refine go ?_
 refine rt ?_
 exact⟨⟨_,rfl,o1⟩,e1⟩
noncomputable def body13:ACode:=(.seq (.region [⟨some 2,none,(.mov (.const (.int .i64 0)))⟩,⟨some 3,none,(.mov (.const (.int .i64 0)))⟩]) (.seq (.seq (.region [⟨some 4,none,(.mov (.tmp 0))⟩,⟨some 5,none,(.call (.func 27) [(.tmp 4)])⟩,⟨some 6,none,(.un .not (.tmp 5))⟩]) (.cond (.tmp 6) (.seq (.region [⟨some 2,none,(.mov (.const (.int .i64 0)))⟩,⟨some 3,none,(.mov (.const (.int .i64 8)))⟩]) .ret) .skip)) (.seq (.region [⟨some 7,none,(.mov (.tmp 0))⟩,⟨some 8,none,(.call (.func 28) [(.tmp 7)])⟩,⟨some 9,none,(.len (.tmp 8))⟩,⟨some 2,none,(.mov (.tmp 9))⟩,⟨some 3,none,(.mov (.const (.int .i64 0)))⟩]) .ret)))
set_option maxRecDepth 100000 in
theorem tab13:tb.code 13=some ⟨10,[(2,none),(3,none)],body13⟩:=by kernel_rfl
theorem rSize_ok (h:AHeap) (v:Value) (s:List LWd) (k:SlW h v s) (hl:s.length≤100000):
  WC Tryd.prog tb 13 [v] h fun r h'=>r= .tuple #[I (if zH (-1) s then sizeL s else 0),I (errW (zH (-1) s))]∧Ext h h':=by
 refine WC.of (zx 13) tab13 ?_;simp only[mkTm,Nat.zero_add,Nat.reduceAdd]
 refine go ?_
 refine WO.con (rMay_ok h v s k (by omega)) ?_
 rintro _ _ ⟨rfl,rfl⟩
 by_cases hc:zH (-1) s=true
 case neg=>
  have hc:zH (-1) s=false:=by simpa using hc
  rw[hc]
  refine go ?_
  refine rt ?_
  exact⟨rfl,Ext.refl _⟩
 have ok:=(okW_iff k.bd).1 hc
 rw[hc]
 refine go ?_
 refine WO.con (rNumbers_ok h v s k ok hl) ?_
 rintro w h1 ⟨o1,e1⟩
 have sl1:=o1.sl
 refine go ?_
 refine rt ?_
 exact⟨rfl,e1⟩
noncomputable def body11:ACode:=(.seq (.region [⟨some 4,none,(.mov (.const (.bool false)))⟩,⟨some 5,none,(.mov (.const (.int .i64 0)))⟩]) (.seq (.seq (.region [⟨some 6,none,(.mov (.tmp 0))⟩,⟨some 7,none,(.call (.func 27) [(.tmp 6)])⟩,⟨some 8,none,(.un .not (.tmp 7))⟩]) (.cond (.tmp 8) (.seq (.region [⟨some 4,none,(.mov (.const (.bool false)))⟩,⟨some 5,none,(.mov (.const (.int .i64 8)))⟩]) .ret) .skip)) (.seq (.seq (.region [⟨some 9,none,(.mov (.tmp 1))⟩,⟨some 10,none,(.bin .lss (.tmp 9) (.const (.int .i64 0)))⟩,⟨some 11,none,(.mov (.tmp 10))⟩,⟨some 12,some (11,false),(.mov (.tmp 1))⟩,⟨some 13,some (11,false),(.bin .geq (.tmp 12) (.const (.int .i64 1048576)))⟩,⟨some 14,none,(.pick (.tmp 11) (.const (.bool true)) (.tmp 13))⟩]) (.cond (.tmp 14) (.seq (.region [⟨some 4,none,(.mov (.const (.bool false)))⟩,⟨some 5,none,(.mov (.const (.int .i64 2)))⟩]) .ret) .skip)) (.seq (.region [⟨some 15,none,(.mov (.tmp 0))⟩,⟨some 16,none,(.mov (.tmp 1))⟩,⟨some 17,none,(.call (.func 32) [(.tmp 15),(.tmp 16)])⟩,⟨some 4,none,(.mov (.tmp 17))⟩,⟨some 5,none,(.mov (.const (.int .i64 0)))⟩]) .ret))))
set_option maxRecDepth 100000 in
theorem tab11:tb.code 11=some ⟨18,[(4,none),(5,none)],body11⟩:=by kernel_rfl
theorem rHas_ok (h:AHeap) (v:Value) (s:List LWd) (n:Int) (k:SlW h v s) (hl:(s.length:Int)≤1000000000):
  WC Tryd.prog tb 11 [v,I n] h fun r h'=>r= .tuple #[.bool (hasB s n),I (hasE s n)]∧h=h':=by
 refine WC.of (zx 11) tab11 ?_;simp only[mkTm,Nat.zero_add,Nat.reduceAdd]
 refine go ?_
 refine WO.con (rMay_ok h v s k hl) ?_
 rintro _ _ ⟨rfl,rfl⟩
 unfold hasB hasE
 by_cases hc:zH (-1) s=true
 case neg=>
  have hc:zH (-1) s=false:=by simpa using hc
  rw[hc]
  refine go ?_
  refine rt ?_
  exact⟨rfl,rfl⟩
 have ok:=(okW_iff k.bd).1 hc
 rw[hc]
 by_cases c1:n<0
 ·refine go ?_
  refine rt ?_
  exact⟨by rw[if_pos rfl,if_neg (by omega),decide_eq_false (show ¬(0≤n∧n<1048576) by omega)];rfl,rfl⟩
 by_cases c2:1048576≤n
 ·refine go ?_
  refine rt ?_
  exact⟨by rw[if_pos rfl,if_neg (by omega),decide_eq_false (show ¬(0≤n∧n<1048576) by omega)];rfl,rfl⟩
 refine go ?_
 refine WO.con (rIn_ok h v s n k ok hl (by omega)) ?_
 rintro _ _ ⟨rfl,rfl⟩
 refine go ?_
 refine rt ?_
 exact⟨by rw[if_pos rfl,if_pos (by omega),decide_eq_true (show 0≤n∧n<1048576 by omega)];rfl,rfl⟩
end Go.Proofs.YtejjibilgmlhdaaDoor
namespace Go.Proofs.YtejjibilgmlhdaaDoor
open Go.Am
set_option linter.unusedVariables false
set_option linter.unusedSimpArgs false
set_option maxHeartbeats 4000000
theorem RW.ind {h:AHeap} (cs:List Value) (a:LWd) (r:RW h cs a):Dep RW h cs a (fun _=>False):=fun _ _ _=>r
theorem RW.one {h:AHeap} (cs:List Value) (a:LWd) (r:RW h cs a):zW cs=true:=by
 obtain⟨rfl,_⟩:=r;rfl
noncomputable def body3:ACode:=(.seq (.region [⟨some 6,none,(.mov (.const (.bool false)))⟩]) (.seq (.seq (.region [⟨some 21,none,(.mov (.tmp 0))⟩,⟨some 22,none,(.len (.tmp 21))⟩,⟨some 23,none,(.bin .gtr (.tmp 22) (.const (.int .i64 10)))⟩,⟨some 24,none,(.mov (.tmp 23))⟩,⟨some 25,some (24,false),(.mov (.tmp 1))⟩,⟨some 26,some (24,false),(.len (.tmp 25))⟩,⟨some 27,some (24,false),(.bin .gtr (.tmp 26) (.const (.int .i64 10)))⟩,⟨some 28,none,(.pick (.tmp 24) (.const (.bool true)) (.tmp 27))⟩]) (.cond (.tmp 28) (.seq (.region [⟨some 6,none,(.mov (.const (.bool true)))⟩]) .ret) .skip)) (.seq (.region [⟨some 29,none,(.buildSlice 0 2 [(.int .i64 0),(.int .u64 0)] [])⟩,⟨some 30,none,(.mov (.tmp 0))⟩,⟨some 31,none,(.append 2 (.tmp 29) (.tmp 30))⟩,⟨some 7,none,(.mov (.tmp 31))⟩]) (.seq (.region [⟨some 33,none,(.mov (.tmp 7))⟩,⟨some 34,none,(.call (.func 8) [(.tmp 33)])⟩,⟨some 32,none,(.mov (.tmp 34))⟩,⟨some 35,none,(.extract (.tmp 32) 0)⟩,⟨some 36,none,(.extract (.tmp 32) 1)⟩,⟨some 8,none,(.mov (.tmp 35))⟩,⟨some 9,none,(.mov (.tmp 36))⟩]) (.seq (.region [⟨some 38,none,(.mov (.tmp 0))⟩,⟨some 39,none,(.call (.func 9) [(.tmp 38)])⟩,⟨some 37,none,(.mov (.tmp 39))⟩,⟨some 40,none,(.extract (.tmp 37) 0)⟩,⟨some 41,none,(.extract (.tmp 37) 1)⟩,⟨some 10,none,(.mov (.tmp 40))⟩,⟨some 11,none,(.mov (.tmp 41))⟩]) (.seq (.region [⟨some 43,none,(.mov (.tmp 7))⟩,⟨some 44,none,(.mov (.tmp 2))⟩,⟨some 45,none,(.call (.func 10) [(.tmp 43),(.tmp 44)])⟩,⟨some 42,none,(.mov (.tmp 45))⟩,⟨some 46,none,(.extract (.tmp 42) 0)⟩,⟨some 47,none,(.extract (.tmp 42) 1)⟩,⟨some 12,none,(.mov (.tmp 46))⟩,⟨some 13,none,(.mov (.tmp 47))⟩]) (.seq (.region [⟨some 49,none,(.mov (.tmp 0))⟩,⟨some 50,none,(.mov (.tmp 2))⟩,⟨some 51,none,(.call (.func 11) [(.tmp 49),(.tmp 50)])⟩,⟨some 48,none,(.mov (.tmp 51))⟩,⟨some 52,none,(.extract (.tmp 48) 0)⟩,⟨some 53,none,(.extract (.tmp 48) 1)⟩,⟨some 14,none,(.mov (.tmp 52))⟩,⟨some 15,none,(.mov (.tmp 53))⟩]) (.seq (.region [⟨some 55,none,(.mov (.tmp 7))⟩,⟨some 56,none,(.call (.func 12) [(.tmp 55)])⟩,⟨some 54,none,(.mov (.tmp 56))⟩,⟨some 57,none,(.extract (.tmp 54) 0)⟩,⟨some 58,none,(.extract (.tmp 54) 1)⟩,⟨some 16,none,(.mov (.tmp 57))⟩,⟨some 17,none,(.mov (.tmp 58))⟩]) (.seq (.region [⟨some 60,none,(.mov (.tmp 0))⟩,⟨some 61,none,(.call (.func 13) [(.tmp 60)])⟩,⟨some 59,none,(.mov (.tmp 61))⟩,⟨some 62,none,(.extract (.tmp 59) 0)⟩,⟨some 63,none,(.extract (.tmp 59) 1)⟩,⟨some 18,none,(.mov (.tmp 62))⟩,⟨some 19,none,(.mov (.tmp 63))⟩]) (.seq (.region [⟨some 64,none,(.mov (.tmp 8))⟩,⟨some 65,none,(.mov (.tmp 10))⟩,⟨some 66,none,(.call (.func 14) [(.tmp 64),(.tmp 65)])⟩,⟨some 67,none,(.mov (.tmp 66))⟩,⟨some 68,some (67,true),(.mov (.tmp 9))⟩,⟨some 69,some (67,true),(.mov (.tmp 11))⟩,⟨some 70,some (67,true),(.bin .eql (.tmp 68) (.tmp 69))⟩,⟨some 71,none,(.pick (.tmp 67) (.tmp 70) (.const (.bool false)))⟩,⟨some 72,none,(.mov (.tmp 71))⟩,⟨some 73,some (72,true),(.mov (.tmp 12))⟩,⟨some 74,some (72,true),(.mov (.tmp 14))⟩,⟨some 75,some (72,true),(.binB false (.tmp 73) (.tmp 74))⟩,⟨some 76,none,(.pick (.tmp 72) (.tmp 75) (.const (.bool false)))⟩,⟨some 77,none,(.mov (.tmp 76))⟩,⟨some 78,some (77,true),(.mov (.tmp 13))⟩,⟨some 79,some (77,true),(.mov (.tmp 15))⟩,⟨some 80,some (77,true),(.bin .eql (.tmp 78) (.tmp 79))⟩,⟨some 81,none,(.pick (.tmp 77) (.tmp 80) (.const (.bool false)))⟩,⟨some 82,none,(.mov (.tmp 81))⟩,⟨some 83,some (82,true),(.mov (.tmp 16))⟩,⟨some 84,some (82,true),(.mov (.tmp 18))⟩,⟨some 85,some (82,true),(.bin .eql (.tmp 83) (.tmp 84))⟩,⟨some 86,none,(.pick (.tmp 82) (.tmp 85) (.const (.bool false)))⟩,⟨some 87,none,(.mov (.tmp 86))⟩,⟨some 88,some (87,true),(.mov (.tmp 17))⟩,⟨some 89,some (87,true),(.mov (.tmp 19))⟩,⟨some 90,some (87,true),(.bin .eql (.tmp 88) (.tmp 89))⟩,⟨some 91,none,(.pick (.tmp 87) (.tmp 90) (.const (.bool false)))⟩,⟨some 20,none,(.mov (.tmp 91))⟩]) (.seq (.region [⟨some 92,none,(.mov (.tmp 20))⟩,⟨some 93,none,(.mov (.tmp 92))⟩,⟨some 94,some (93,true),(.mov (.tmp 7))⟩,⟨some 95,some (93,true),(.call (.func 15) [(.tmp 94)])⟩,⟨some 96,some (93,true),(.mov (.tmp 0))⟩,⟨some 97,some (93,true),(.call (.func 16) [(.tmp 96)])⟩,⟨some 98,some (93,true),(.bin .eql (.tmp 95) (.tmp 97))⟩,⟨some 99,none,(.pick (.tmp 93) (.tmp 98) (.const (.bool false)))⟩,⟨some 100,none,(.mov (.tmp 99))⟩,⟨some 101,some (100,true),(.mov (.tmp 7))⟩,⟨some 102,some (100,true),(.mov (.tmp 1))⟩,⟨some 103,some (100,true),(.call (.func 17) [(.tmp 101),(.tmp 102)])⟩,⟨some 104,some (100,true),(.mov (.tmp 0))⟩,⟨some 105,some (100,true),(.mov (.tmp 1))⟩,⟨some 106,some (100,true),(.call (.func 18) [(.tmp 104),(.tmp 105)])⟩,⟨some 107,some (100,true),(.binB false (.tmp 103) (.tmp 106))⟩,⟨some 108,none,(.pick (.tmp 100) (.tmp 107) (.const (.bool false)))⟩,⟨some 109,none,(.mov (.tmp 108))⟩,⟨some 110,some (109,true),(.mov (.tmp 7))⟩,⟨some 111,some (109,true),(.mov (.tmp 0))⟩,⟨some 112,some (109,true),(.call (.func 18) [(.tmp 110),(.tmp 111)])⟩,⟨some 113,none,(.pick (.tmp 109) (.tmp 112) (.const (.bool false)))⟩,⟨some 6,none,(.mov (.tmp 113))⟩]) .ret)))))))))))
set_option maxRecDepth 100000 in
theorem tab3:tb.code 3=some ⟨114,[(6,none)],body3⟩:=by kernel_rfl
theorem BitsTells_ok (h:AHeap) (va:Value) (A:List LWd) (vb:Value) (B:List LWd) (n:Int) (T:TzT h) (hm:h.mark≤h.n) (ka:SlW h va A) (kb:SlW h vb B) (la:(A.length:Int)≤1152921504606846976) (lb:(B.length:Int)≤1152921504606846976):
  WC Tryd.prog tb 3 [va,vb,I n] h fun r _=>r= .bool true:=by
 refine WC.of (zx 3) tab3 ?_;simp only[mkTm,Nat.zero_add,Nat.reduceAdd]
 by_cases c1:10<(A.length:Int)
 ·refine go ?_
  refine rt ?_
  rfl
 by_cases c2:10<(B.length:Int)
 ·refine go ?_
  refine rt ?_
  rfl
 refine go ?_
 refine WO.bl0 (c:=2) RW ?_
 intro v1 h1 e1 o1
 have ka1:=SlW.ext ka e1
 refine go ?_
 refine WO.apAll o1 ka1 (by decide) RW.ind RW.one e1 (Nat.le_refl _) e1.n (by omega) ?_
 intro vo h2 e2 oo
 have ko:=OwnR.sl oo
 obtain⟨_,_,_,rfl⟩:=slw_shape ko
 have hm2:h2.mark≤h2.n:=by have:=e2.mark;have:=e2.n;omega
 have ka:=SlW.ext ka e2
 have kb:=SlW.ext kb e2
 have T2:=T.ext e2
 refine go ?_
 refine WO.con (list_ok h2 _ A ko T2 (by omega) hm2) ?_
 rintro _ h3 ⟨⟨l1,rfl,ol1⟩,e3⟩
 have ka:=SlW.ext ka e3
 refine go ?_
 refine WO.con (rList_ok h3 va A ka (by omega)) ?_
 rintro _ h4 ⟨⟨l2,rfl,ol2⟩,e4⟩
 have ko:=SlW.ext ko (e3.trans e4)
 have ka:=SlW.ext ka e4
 have kb:=SlW.ext kb (e3.trans e4)
 have sl1:=SlI.ext ol1.sl e4
 have sl2:=ol2.sl
 have hll:((if zH (-1) A then zV A else []).length:Int)≤1000:=by
  have:(zV A).length≤64 * A.length:=by
   have:∀ l:List LWd,(zV l).length≤64 * l.length:=fun l=>by
    induction l with
    |nil=>exact Nat.le_refl _
    |cons w l ih=>rw[numsL_cons,List.length_cons];have:=bitsL_le w.bits;omega
   exact this A
  split
  ·omega
  ·simp
 generalize (if zH (-1) A then zV A else [])=L at *
 clear ol1 ol2 e1 o1 oo e2 e3 ka1 hm2 T2 T hm
 refine go ?_
 refine WO.con (has_ok h4 _ A n ko (by omega)) ?_
 rintro _ h5 ⟨rfl,e5⟩
 have ka:=SlW.ext ka e5
 refine go ?_
 refine WO.con (rHas_ok h5 va A n ka (by omega)) ?_
 rintro _ _ ⟨rfl,rfl⟩
 have ko:=SlW.ext ko e5
 have kb:=SlW.ext kb e5
 have sl1:=SlI.ext sl1 e5
 have sl2:=SlI.ext sl2 e5
 refine go ?_
 refine WO.con (size_ok h5 _ A ko (by omega)) ?_
 rintro _ h6 ⟨rfl,e6⟩
 have ka:=SlW.ext ka e6
 refine go ?_
 refine WO.con (rSize_ok h6 va A ka (by omega)) ?_
 rintro _ h7 ⟨rfl,e7⟩
 have e67:=e6.trans e7
 have ko:=SlW.ext ko e67
 have ka:=SlW.ext ka e7
 have kb:=SlW.ext kb e67
 have sl1:=SlI.ext sl1 e67
 have sl2:=SlI.ext sl2 e67
 clear e4 e5 e6 e7 e67
 refine go ?_
 refine WO.con (sameIntsB_ok h7 l1 l2 L L sl1 sl2 (by omega)) ?_
 rintro _ _ ⟨rfl,rfl⟩
 rw[decide_eq_true rfl]
 generalize (if zH (-1) A=true then sizeL A else 0)=z
 generalize hasE A n=he
 have t1:(true == true)=true:=rfl
 have t2:(false == false)=true:=rfl
 cases hasB A n
 all_goals refine go ?_
 all_goals first|rw[t1]|rw[t2]|skip
 all_goals refine go ?_
 all_goals refine WO.con (check_ok h7 _ A ko (by omega)) ?_
 all_goals rintro _ h8 ⟨rfl,e8⟩
 all_goals have ka:=SlW.ext ka e8
 all_goals have ko:=SlW.ext ko e8
 all_goals have kb:=SlW.ext kb e8
 all_goals refine go ?_
 all_goals refine WO.con (rCheck_ok h8 va A ka (by omega)) ?_
 all_goals rintro _ _ ⟨rfl,rfl⟩
 all_goals refine go ?_
 all_goals refine WO.con (same_ok h8 _ vb A B ko kb (by omega)) ?_
 all_goals rintro _ _ ⟨rfl,rfl⟩
 all_goals refine go ?_
 all_goals refine WO.con (rSame_ok h8 va vb A B ka kb (by omega)) ?_
 all_goals rintro _ _ ⟨rfl,rfl⟩
 all_goals have t3:(decide (A=B) == decide (A=B))=true:=beq_self_eq_true _
 all_goals refine go ?_
 all_goals rw[t3]
 all_goals refine go ?_
 all_goals refine WO.con (rSame_ok h8 _ va A A ko ka (by omega)) ?_
 all_goals rintro _ _ ⟨rfl,rfl⟩
 all_goals rw[decide_eq_true (rfl:A=A)]
 all_goals refine go ?_
 all_goals refine rt ?_
 all_goals rfl
end Go.Proofs.YtejjibilgmlhdaaDoor
namespace Go.Proofs.YtejjibilgmlhdaaDoor
open Go.Am
set_option linter.unusedVariables false
set_option linter.unusedSimpArgs false
theorem wf_u64 {n:Int} (h:(Lit.int .u64 n).wf=true):0≤n∧n≤18446744073709551615:=by
 simp[Lit.wf,IntKind.wrap,IntKind.signed,IntKind.bits]at h
 have h1:IntKind.min .u64=0:=by decide
 have h2:IntKind.max .u64=18446744073709551615:=by decide
 omega
theorem wf_i64 {n:Int} (h:(Lit.int .i64 n).wf=true): -9223372036854775808≤n∧n≤9223372036854775807:=by
 simp[Lit.wf,IntKind.wrap,IntKind.signed,IntKind.bits]at h
 have h1:IntKind.min .i64= -9223372036854775808:=by decide
 have h2:IntKind.max .i64=9223372036854775807:=by decide
 omega
theorem lenW2 {l:List Value} (h:l.length=2):∃ a b,l=[a,b]:=by
 match l,h with
 |[a,b],_=>exact⟨a,b,rfl⟩
theorem rd_word {H:Type} {h:AHeap} (cs:List Value) (d:DataW H) (r:Rd Tryd.prog h 52 cs d) (hw:wOk Tryd.prog 52 d):∃ a,RW h cs a:=by
 obtain⟨hl,hr⟩:=rd_structW r Tryd.underlying52 hw
 have hc:Tryd.prog.cellsOf 52=2:=by kernel_rfl
 rw[hc]at hl
 obtain⟨x0,x1,rfl⟩:=lenW2 hl
 obtain⟨d0,r0,w0⟩:=hr 0 _ rfl
 have c0:Tryd.prog.cellsOf 3=1:=by kernel_rfl
 replace r0:Rd Tryd.prog h 3 (([x0,x1].drop 0).take (Tryd.prog.cellsOf 3)) d0:=r0
 rw[c0]at r0
 replace r0:Rd Tryd.prog h 3 [x0] d0:=r0
 obtain⟨d1,r1,w1⟩:=hr 1 _ rfl
 have c1:Tryd.prog.cellsOf 50=1:=by kernel_rfl
 replace r1:Rd Tryd.prog h 50 (([x0,x1].drop 1).take (Tryd.prog.cellsOf 50)) d1:=r1
 rw[c1]at r1
 replace r1:Rd Tryd.prog h 50 [x1] d1:=r1
 obtain⟨a,e0,f0⟩:=rd_int r0 Tryd.underlying3
 cases e0
 obtain⟨b,e1,f1⟩:=rd_int r1 Tryd.underlying50
 cases e1
 have g0:=wf_i64 f0
 have g1:=wf_u64 f1
 obtain⟨m,rfl⟩:∃ m:Nat,b=m:=⟨b.toNat,by omega⟩
 exact⟨⟨a,m⟩,rfl,by simp only;omega,g0.1,g0.2⟩
end Go.Proofs.YtejjibilgmlhdaaDoor
