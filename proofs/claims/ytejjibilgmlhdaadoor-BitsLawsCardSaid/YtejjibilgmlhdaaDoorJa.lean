/- What functions of the program come to in the abstract machine, and plain laws about it; no statement of the seat is proved in this text. -/
import Derived.Test.YtejjibilgmlhdaaDoorAmU
import Derived.Test.YtejjibilgmlhdaaDoorRows
import Derived.Test.YtejjibilgmlhdaaDoorAmV
import Derived.Test.YtejjibilgmlhdaaDoorAmE
namespace Go.Proofs.YtejjibilgmlhdaaDoor
open Go.Am
set_option linter.unusedVariables false
set_option linter.unusedSimpArgs false
structure LWd where
 pos:Int
 bits:Nat
 deriving DecidableEq
instance:Inhabited LWd:=⟨⟨0,0⟩⟩
structure OkW (s:List LWd):Prop where
 rise:s.Pairwise (fun a b=>a.pos<b.pos)
 each:∀ w∈s,0≤w.pos∧w.pos<16384∧w.bits≠0∧w.bits<18446744073709551616
def InW (s:List LWd) (n:Int):Prop:=∃ w∈s,w.pos=n / 64∧w.bits.testBit (n % 64).toNat=true
def bitsL (b:Nat):List Nat:=(List.range 64).filter b.testBit
def numsL (s:List LWd):List Int:=s.flatMap fun w=>(bitsL w.bits).map fun k:Nat=>64 * w.pos+(k:Int)
theorem OkW.nil:OkW []:=⟨.nil,fun w h=>by cases h⟩
theorem OkW.tail {w:LWd} {s:List LWd} (h:OkW (w::s)):OkW s:=⟨(List.pairwise_cons.1 h.rise).2,fun x hx=>h.each x (List.mem_cons_of_mem _ hx)⟩
theorem bits_lt {b:Nat} (h:b<18446744073709551616) {k:Nat} (hk:b.testBit k=true):k<64:=by
 by_cases h2:k<64
 ·exact h2
 ·have h3:2 ^ 64≤2 ^ k:=Nat.pow_le_pow_right (by decide) (Nat.le_of_not_lt h2)
  have:b.testBit k=false:=Nat.testBit_lt_two_pow (Nat.lt_of_lt_of_le h h3)
  rw[this]at hk;cases hk
theorem bits_ex {b:Nat} (h:b≠0):∃ k,b.testBit k=true:=by
 by_cases h2:∃ k,b.testBit k=true
 ·exact h2
 ·exact absurd (Nat.eq_of_testBit_eq fun i=>by
   rw[Nat.zero_testBit]
   cases hb:b.testBit i with
   |false=>rfl
   |true=>exact absurd ⟨i,hb⟩ h2) h
theorem mem_bitsL {b k:Nat}:k∈bitsL b↔k<64∧b.testBit k=true:=by
 unfold bitsL;rw[List.mem_filter,List.mem_range]
theorem mem_numsL {s:List LWd} (h:OkW s) {n:Int}:n∈numsL s↔InW s n:=by
 unfold numsL InW
 rw[List.mem_flatMap]
 constructor
 ·rintro⟨w,hw,hn⟩
  obtain⟨k,hk,rfl⟩:=List.mem_map.1 hn
  obtain⟨k1,k2⟩:=mem_bitsL.1 hk
  refine⟨w,hw,by omega,?_⟩
  rw[show ((64 * w.pos+(k:Int)) % 64).toNat=k by omega];exact k2
 ·rintro⟨w,hw,e,hb⟩
  refine⟨w,hw,List.mem_map.2 ⟨(n % 64).toNat,mem_bitsL.2 ⟨by omega,hb⟩,by omega⟩⟩
theorem bitsL_rise (b:Nat):(bitsL b).Pairwise (·<·):=List.Pairwise.filter _ List.pairwise_lt_range
theorem numsL_rise {s:List LWd} (h:OkW s):(numsL s).Pairwise (·<·):=by
 unfold numsL
 rw[List.pairwise_flatMap]
 refine⟨fun w hw=> ?_,?_⟩
 ·rw[List.pairwise_map]
  exact(bitsL_rise w.bits).imp fun h=>by omega
 ·refine h.rise.imp fun {a b} hab x hx y hy=> ?_
  obtain⟨k,hk,rfl⟩:=List.mem_map.1 hx
  obtain⟨j,hj,rfl⟩:=List.mem_map.1 hy
  have:=(mem_bitsL.1 hk).1
  omega
theorem InW.range {s:List LWd} (h:OkW s) {n:Int} (k:InW s n):0≤n∧n<1048576:=by
 obtain⟨w,hw,e,_⟩:=k
 have:=h.each w hw
 omega
theorem inW_cons {w:LWd} {s:List LWd} {n:Int}:InW (w::s) n↔(w.pos=n / 64∧w.bits.testBit (n % 64).toNat=true)∨InW s n:=by
 unfold InW;simp
theorem inW_tail {w:LWd} {s:List LWd} (h:OkW (w::s)) {n:Int}:InW s n↔InW (w::s) n∧w.pos≠n / 64:=by
 rw[inW_cons]
 constructor
 ·rintro⟨x,hx,e,hb⟩
  have:=(List.pairwise_cons.1 h.rise).1 x hx
  exact⟨.inr ⟨x,hx,e,hb⟩,by omega⟩
 ·rintro⟨⟨e,_⟩|k,hne⟩
  ·exact absurd e hne
  ·exact k
theorem InW.le {w:LWd} {s:List LWd} (h:OkW (w::s)) {n:Int} (k:InW (w::s) n):w.pos≤n / 64:=by
 rcases inW_cons.1 k with ⟨e,_⟩|⟨x,hx,e,_⟩
 ·omega
 ·have:=(List.pairwise_cons.1 h.rise).1 x hx;omega
theorem inW_head {w:LWd} {s:List LWd} (h:OkW (w::s)):∃ n,InW (w::s) n∧n / 64=w.pos:=by
 obtain⟨a,b,c,d⟩:=h.each w (List.mem_cons_self ..)
 obtain⟨k,hk⟩:=bits_ex c
 have hk2:=bits_lt d hk
 refine⟨64 * w.pos+k,inW_cons.2 (.inl ⟨by omega,?_⟩),by omega⟩
 rw[show ((64 * w.pos+(k:Int)) % 64).toNat=k by omega];exact hk
theorem inW_at {w:LWd} {s:List LWd} (h:OkW (w::s)) (k:Nat) (hk:k<64):InW (w::s) (64 * w.pos+k)↔w.bits.testBit k=true:=by
 rw[inW_cons]
 constructor
 ·rintro(⟨_,hb⟩|⟨x,hx,e,_⟩)
  ·rwa [show ((64 * w.pos+(k:Int)) % 64).toNat=k by omega]at hb
  ·have:=(List.pairwise_cons.1 h.rise).1 x hx;omega
 ·intro hb
  refine .inl ⟨by omega,?_⟩
  rw[show ((64 * w.pos+(k:Int)) % 64).toNat=k by omega];exact hb
theorem okW_ext:∀ {s t:List LWd},OkW s→OkW t→(∀ n,InW s n↔InW t n)→s=t
 |[],[],_,_,_=>rfl
 |[],u::t,_,ht,e=>by
  obtain⟨n,hn,_⟩:=inW_head ht
  obtain⟨_,h,_⟩:=(e n).2 hn;cases h
 |w::s,[],hs,_,e=>by
  obtain⟨n,hn,_⟩:=inW_head hs
  obtain⟨_,h,_⟩:=(e n).1 hn;cases h
 |w::s,u::t,hs,ht,e=>by
  have hp:w.pos=u.pos:=by
   obtain⟨n,hn,en⟩:=inW_head hs
   obtain⟨m,hm,em⟩:=inW_head ht
   have h1:=((e n).1 hn).le ht
   have h2:=((e m).2 hm).le hs
   omega
  have hb:w.bits=u.bits:=by
   refine Nat.eq_of_testBit_eq fun k=> ?_
   by_cases hk:k<64
   ·have h1:=inW_at hs k hk
    have h2:=inW_at ht k hk
    rw[←hp]at h2
    have h3:=h1.symm.trans ((e _).trans h2)
    cases h4:u.bits.testBit k with
    |true=>exact h3.2 h4
    |false=>
     cases h5:w.bits.testBit k with
     |false=>rfl
     |true=>rw[h3.1 h5]at h4;cases h4
   ·have h1:=(hs.each w (List.mem_cons_self ..)).2.2.2
    have h2:=(ht.each u (List.mem_cons_self ..)).2.2.2
    cases h4:u.bits.testBit k with
    |true=>exact absurd (bits_lt h2 h4) hk
    |false=>
     cases h5:w.bits.testBit k with
     |false=>rfl
     |true=>exact absurd (bits_lt h1 h5) hk
  have hw:w=u:=by cases w;cases u;cases hp;cases hb;rfl
  have hst:s=t:=okW_ext hs.tail ht.tail fun n=>by rw[inW_tail hs,inW_tail ht,e n,hp]
  rw[hw,hst]
theorem count_one {n:Int}:∀ {l:List Int},l.Nodup→n∈l→l.count n=1
 |[],_,h=>by cases h
 |x::l,hd,h=>by
  obtain⟨h1,h2⟩:=List.nodup_cons.1 hd
  rw[List.count_cons]
  rcases List.mem_cons.1 h with rfl|h
  ·rw[List.count_eq_zero_of_not_mem h1];simp
  ·rw[count_one h2 h,if_neg (by intro e;have e:=eq_of_beq e;subst e;exact h1 h)]
theorem size_sum {a b c d:List LWd} (ha:OkW a) (hb:OkW b) (hc:OkW c) (hd:OkW d) (h1:∀ n,InW c n↔(InW a n∨InW b n)) (h2:∀ n,InW d n↔(InW a n∧InW b n)):(numsL a).length+(numsL b).length=(numsL c).length+(numsL d).length:=by
 have nd:∀ {s:List LWd},OkW s→(numsL s).Nodup:=fun h=>(numsL_rise h).imp fun h=>by omega
 have hp:(numsL a++numsL b).Perm (numsL c++numsL d):=by
  rw[List.perm_iff_count]
  intro n
  have cn:∀ {s:List LWd},OkW s→(numsL s).count n=if n∈numsL s then 1 else 0:=fun h=>by
   split
   ·rename_i hm;exact count_one (nd h) hm
   ·rename_i hm;exact List.count_eq_zero_of_not_mem hm
  rw[List.count_append,List.count_append,cn ha,cn hb,cn hc,cn hd]
  have e1:=(mem_numsL ha (n:=n));have e2:=(mem_numsL hb (n:=n));have e3:=(mem_numsL hc (n:=n)).trans (h1 n);have e4:=(mem_numsL hd (n:=n)).trans (h2 n)
  by_cases x:InW a n<;>by_cases y:InW b n
  ·rw[if_pos (e1.2 x),if_pos (e2.2 y),if_pos (e3.2 (.inl x)),if_pos (e4.2 ⟨x,y⟩)]
  ·rw[if_pos (e1.2 x),if_neg (fun h=>y (e2.1 h)),if_pos (e3.2 (.inl x)),if_neg (fun h=>y (e4.1 h).2)]
  ·rw[if_neg (fun h=>x (e1.1 h)),if_pos (e2.2 y),if_pos (e3.2 (.inr y)),if_neg (fun h=>x (e4.1 h).1)]
  ·rw[if_neg (fun h=>x (e1.1 h)),if_neg (fun h=>y (e2.1 h)),if_neg (fun h=>(e3.1 h).elim x y),if_neg (fun h=>x (e4.1 h).1)]
 have:=hp.length_eq
 rwa [List.length_append,List.length_append]at this
structure Is (t:List LWd) (p:Int→Prop):Prop where
 ok:OkW t
 mem:∀ n,InW t n↔p n
theorem Is.eq {s t:List LWd} {p q:Int→Prop} (h:Is s p) (k:Is t q) (e:∀ n,p n↔q n):s=t:=okW_ext h.ok k.ok fun n=>(h.mem n).trans ((e n).trans (k.mem n).symm)
end Go.Proofs.YtejjibilgmlhdaaDoor
namespace Go.Proofs.YtejjibilgmlhdaaDoor
open Go.Am
set_option linter.unusedVariables false
set_option linter.unusedSimpArgs false
abbrev W (n:Nat):Value:= .int .u64 (n:Int)
theorem ofInt_nat (a:Nat):BitVec.ofInt 64 (a:Int)=BitVec.ofNat 64 a:=by
 apply BitVec.eq_of_toNat_eq;simp
theorem b64:IntKind.bits .u64=64:=rfl
theorem u_and {a b:Nat} (ha:a<18446744073709551616) (hb:b<18446744073709551616):zU .and (W a) (W b)=some (W (a&&& b)):=by
 have h:a&&& b<18446744073709551616:=Nat.lt_of_le_of_lt Nat.and_le_left ha
 have e:(BitVec.ofInt 64 (a:Int)&&& BitVec.ofInt 64 (b:Int)).toNat=a&&& b:=by
  rw[ofInt_nat,ofInt_nat,BitVec.toNat_and,BitVec.toNat_ofNat,BitVec.toNat_ofNat,Nat.mod_eq_of_lt (show a<2 ^ 64 from ha),Nat.mod_eq_of_lt (show b<2 ^ 64 from hb)]
 simp only[zU,if_true]
 rw[show ((BitVec.ofInt (IntKind.bits .u64) (a:Int)&&& BitVec.ofInt (IntKind.bits .u64) (b:Int)).toNat)=a&&& b from e,wrapU64 (by omega) (by omega)]
theorem u_or {a b:Nat} (ha:a<18446744073709551616) (hb:b<18446744073709551616):zU .or (W a) (W b)=some (W (a|||b))∧a|||b<18446744073709551616:=by
 have h:a|||b<18446744073709551616:=Nat.or_lt_two_pow (n:=64) ha hb
 refine⟨?_,h⟩
 have e:(BitVec.ofInt 64 (a:Int)|||BitVec.ofInt 64 (b:Int)).toNat=a|||b:=by
  rw[ofInt_nat,ofInt_nat,BitVec.toNat_or,BitVec.toNat_ofNat,BitVec.toNat_ofNat,Nat.mod_eq_of_lt (show a<2 ^ 64 from ha),Nat.mod_eq_of_lt (show b<2 ^ 64 from hb)]
 simp only[zU,if_true]
 rw[show ((BitVec.ofInt (IntKind.bits .u64) (a:Int)|||BitVec.ofInt (IntKind.bits .u64) (b:Int)).toNat)=a|||b from e,wrapU64 (by omega) (by omega)]
def notN (a b:Nat):Nat:=(BitVec.ofNat 64 a&&& ~~~BitVec.ofNat 64 b).toNat
theorem u_notN {a b:Nat} (ha:a<18446744073709551616) (hb:b<18446744073709551616):zU .andNot (W a) (W b)=some (W (notN a b))∧notN a b<18446744073709551616∧∀ i,(notN a b).testBit i=(a.testBit i&& !b.testBit i):=by
 have h:notN a b<18446744073709551616:=(BitVec.ofNat 64 a&&& ~~~BitVec.ofNat 64 b).isLt
 refine⟨?_,h,fun i=> ?_⟩
 ·have e:(BitVec.ofInt 64 (a:Int)&&& ~~~BitVec.ofInt 64 (b:Int)).toNat=notN a b:=by rw[ofInt_nat,ofInt_nat];rfl
  simp only[zU,if_true]
  rw[show ((BitVec.ofInt (IntKind.bits .u64) (a:Int)&&& ~~~BitVec.ofInt (IntKind.bits .u64) (b:Int)).toNat)=notN a b from e,wrapU64 (by omega) (by omega)]
 ·unfold notN
  rw[BitVec.testBit_toNat,BitVec.getLsbD_and,BitVec.getLsbD_not,BitVec.getLsbD_ofNat,BitVec.getLsbD_ofNat]
  by_cases hi:i<64
  ·simp[hi]
  ·have:a.testBit i=false:=by
    cases h:a.testBit i with
    |false=>rfl
    |true=>exact absurd (bits_lt ha h) hi
   simp[hi,this]
theorem u_shrW {a:Nat} {k:Nat} (hk:k<64):zU .shr (W a) (W k)=some (W (a / 2 ^ k)):=by
 simp only[zU]
 rw[if_neg (by omega),Int.toNat_natCast,show min k (IntKind.bits .u64)=k from Nat.min_eq_left (by rw[b64];omega),Int.fdiv_eq_ediv_of_nonneg _ (by exact Int.le_of_lt (Int.pow_pos (by decide)))]
 congr 2
theorem u_add {a b:Nat} (h:a+b<18446744073709551616):zU .add (W a) (W b)=some (W (a+b)):=by
 simp only[zU,if_true];rw[wrapU64 (by omega) (by omega)];rfl
theorem i_and127 {a:Nat} (ha:a<9223372036854775808):zU .and (I a) (I 127)=some (I ((a % 128:Nat):Int)):=by
 have e:(BitVec.ofInt 64 (a:Int)&&& BitVec.ofInt 64 (127:Int)).toNat=a % 128:=by
  rw[ofInt_nat,show BitVec.ofInt 64 127=BitVec.ofNat 64 127 from rfl,BitVec.toNat_and,BitVec.toNat_ofNat,BitVec.toNat_ofNat,Nat.mod_eq_of_lt (show a<2 ^ 64 by omega)]
  exact Nat.and_two_pow_sub_one_eq_mod a 7
 simp only[zU,I,if_true]
 rw[show ((BitVec.ofInt (IntKind.bits .i64) (a:Int)&&& BitVec.ofInt (IntKind.bits .i64) (127:Int)).toNat)=a % 128 from e,wrap64 (by omega) (by omega)]
end Go.Proofs.YtejjibilgmlhdaaDoor
namespace Go.Proofs.YtejjibilgmlhdaaDoor
open Go.Am
set_option linter.unusedVariables false
set_option linter.unusedSimpArgs false
def tz64:List Nat:=[0,1,56,2,57,49,28,3,61,58,42,50,38,29,17,4,62,47,59,36,45,43,51,22,53,39,33,30,24,18,12,5,63,55,48,27,60,41,37,16,46,35,44,21,52,32,23,11,54,26,40,15,34,20,31,10,25,14,19,9,13,8,7,6]
def tzV:List Value:=tz64.map fun n:Nat=> .int .u8 (n:Int)
def popN (k n:Nat):Nat:=((List.range k).filter n.testBit).length
theorem popN_add (k b n:Nat) (hb:b<256):popN (8+k) (b+256 * n)=popN 8 b+popN k n:=by
 unfold popN
 rw[List.range_add,List.filter_append,List.length_append,List.filter_map,List.length_map]
 have tb:∀ i,(b+256 * n).testBit i=if i<8 then b.testBit i else n.testBit (i - 8):=fun i=>by
  rw[Nat.add_comm,show 256=2 ^ 8 from rfl,Nat.testBit_two_pow_mul_add _ hb]
 congr 1
 ·congr 1
  refine List.filter_congr fun i hi=> ?_
  rw[tb,if_pos (List.mem_range.1 hi)]
 ·congr 1
  refine List.filter_congr fun i hi=> ?_
  show (b+256 * n).testBit (8+i)=_
  rw[tb,if_neg (by omega),Nat.add_sub_cancel_left]
def mask (c:Nat):Nat→Nat
 |0=>0
 |j+1=>c+256 * mask c j
theorem and_mask {c:Nat} (hc:c<256) (a n j:Nat) (ha:a<256):(a+256 * n)&&& mask c (j+1)=(a&&& c)+256 * (n&&& mask c j):=by
 have hac:a&&& c<256:=Nat.lt_of_le_of_lt Nat.and_le_left ha
 refine Nat.eq_of_testBit_eq fun i=> ?_
 show ((a+256 * n)&&& (c+256 * mask c j)).testBit i=_
 rw[Nat.testBit_and,Nat.add_comm a,Nat.add_comm c,Nat.add_comm (a&&& c),show 256=2 ^ 8 from rfl,Nat.testBit_two_pow_mul_add _ ha,Nat.testBit_two_pow_mul_add _ hc,Nat.testBit_two_pow_mul_add _ hac]
 split<;>rw[Nat.testBit_and]
def sw1 (j n:Nat):Nat:=(n / 2&&& mask 85 j)+(n&&& mask 85 j)
def sw2 (j n:Nat):Nat:=(n / 4&&& mask 51 j)+(n&&& mask 51 j)
def sw3 (j n:Nat):Nat:=(n / 16+n)&&& mask 15 j
def s1 (b:Nat):Nat:=(b / 2&&& 85)+(b&&& 85)
def s2 (b:Nat):Nat:=(b / 4&&& 51)+(b&&& 51)
theorem low1:∀ t,t<2→∀ b,b<256→(b / 2+128 * t)&&& 85=b / 2&&& 85:=by decide+kernel
theorem low2:∀ t,t<4→∀ b,b<256→(b / 4+64 * t)&&& 51=b / 4&&& 51:=by decide+kernel
theorem byte_all:∀ b,b<256→s1 b<256∧s2 (s1 b)<256∧s2 (s1 b) % 16≤4∧s2 (s1 b) / 16≤4∧s2 (s1 b) / 16+s2 (s1 b) % 16=popN 8 b∧popN 8 b≤8:=by decide+kernel
theorem sw1_step (j b n:Nat) (hb:b<256):sw1 (j+1) (b+256 * n)=s1 b+256 * sw1 j n:=by
 unfold sw1 s1
 rw[show (b+256 * n) / 2=(b / 2+128 * (n % 2))+256 * (n / 2) by omega,and_mask (by decide) _ _ _ (by omega),and_mask (by decide) _ _ _ hb,low1 _ (by omega) _ hb]
 omega
theorem sw2_step (j b n:Nat) (hb:b<256):sw2 (j+1) (b+256 * n)=s2 b+256 * sw2 j n:=by
 unfold sw2 s2
 rw[show (b+256 * n) / 4=(b / 4+64 * (n % 4))+256 * (n / 4) by omega,and_mask (by decide) _ _ _ (by omega),and_mask (by decide) _ _ _ hb,low2 _ (by omega) _ hb]
 omega
theorem low_and (a:Nat):a&&& 15=a % 16:=Nat.and_two_pow_sub_one_eq_mod a 4
theorem sw3_step (j b n:Nat) (hb:b<256) (h1:b % 16≤4) (h2:b / 16≤4) (h3:n % 16≤4):sw3 (j+1) (b+256 * n)=(b / 16+b % 16)+256 * sw3 j n:=by
 unfold sw3
 rw[show (b+256 * n) / 16+(b+256 * n)=(b / 16+16 * (n % 16)+b)+256 * (n / 16+n) by omega,and_mask (by decide) _ _ _ (by omega),low_and]
 omega
def packB:Nat→Nat→Nat
 |0,_=>0
 |j+1,n=>popN 8 (n % 256)+256 * packB j (n / 256)
theorem sw_pack:∀ j n:Nat,sw3 j (sw2 j (sw1 j n))=packB j n∧sw2 j (sw1 j n) % 16≤4
 |0,n=>by
  have e0:∀ c,mask c 0=0:=fun _=>rfl
  simp only[sw1,sw2,sw3,e0,Nat.and_zero];exact⟨rfl,by decide⟩
 |j+1,n=>by
  obtain⟨i1,i2⟩:=sw_pack j (n / 256)
  obtain⟨a1,a2,a3,a4,a5,_⟩:=byte_all (n % 256) (Nat.mod_lt _ (by decide))
  have e:n=n % 256+256 * (n / 256):=by omega
  have e1:sw1 (j+1) n=s1 (n % 256)+256 * sw1 j (n / 256):=by
   have:=sw1_step j (n % 256) (n / 256) (Nat.mod_lt _ (by decide));rwa [←e]at this
  rw[e1,sw2_step _ _ _ a1]
  refine⟨?_,by omega⟩
  rw[sw3_step _ _ _ a2 a3 a4 i2,i1,a5];rfl
theorem popN_byte (k m:Nat):popN (8+k) m=popN 8 (m % 256)+popN k (m / 256):=by
 have:=popN_add k (m % 256) (m / 256) (Nat.mod_lt _ (by decide))
 rwa [show m % 256+256 * (m / 256)=m by omega]at this
theorem popN_le (m:Nat):popN 8 (m % 256)≤8:=(byte_all _ (Nat.mod_lt _ (by decide))).2.2.2.2.2
theorem pack_cons (j n:Nat):packB (j+1) n=popN 8 (n % 256)+256 * packB j (n / 256):=rfl
theorem packB_at (n:Nat):∃ p0 p1 p2 p3 p4 p5 p6 p7:Nat,(p0≤8∧p1≤8∧p2≤8∧p3≤8∧p4≤8∧p5≤8∧p6≤8∧p7≤8)∧popN 64 n=p0+(p1+(p2+(p3+(p4+(p5+(p6+p7))))))∧
  packB 8 n=p0+256 * (p1+256 * (p2+256 * (p3+256 * (p4+256 * (p5+256 * (p6+256 * p7)))))):=by
 refine⟨_,_,_,_,_,_,_,_,⟨popN_le n,popN_le (n / 256),popN_le (n / 256 / 256),popN_le (n / 256 / 256 / 256),popN_le (n / 256 / 256 / 256 / 256),popN_le (n / 256 / 256 / 256 / 256 / 256),popN_le (n / 256 / 256 / 256 / 256 / 256 / 256),popN_le (n / 256 / 256 / 256 / 256 / 256 / 256 / 256)⟩,?_,?_⟩
 case refine_2=>rw[pack_cons 7,pack_cons 6,pack_cons 5,pack_cons 4,pack_cons 3,pack_cons 2,pack_cons 1,pack_cons 0,show ∀ m,packB 0 m=0 from fun _=>rfl,Nat.mul_zero,Nat.add_zero]
 case refine_1=>rw[popN_byte 56,popN_byte 48,popN_byte 40,popN_byte 32,popN_byte 24,popN_byte 16,popN_byte 8,show popN 8 (n / 256 / 256 / 256 / 256 / 256 / 256 / 256)=popN 8 (n / 256 / 256 / 256 / 256 / 256 / 256 / 256 % 256) from popN_byte 0 _]
theorem div_lo {c r q:Nat} (h:r<c):(r+c * q) / c=q:=by
 rw[Nat.add_mul_div_left _ _ (by omega),Nat.div_eq_of_lt h,Nat.zero_add]
theorem pack_sum {p0 p1 p2 p3 p4 p5 p6 p7:Nat} (h:p0≤8∧p1≤8∧p2≤8∧p3≤8∧p4≤8∧p5≤8∧p6≤8∧p7≤8) {x y z u:Nat} (hx:x=p0+256 * (p1+256 * (p2+256 * (p3+256 * (p4+256 * (p5+256 * (p6+256 * p7))))))) (hy:y=x+x / 256) (hz:z=y+y / 65536) (hu:u=z+z / 4294967296):
  y<18446744073709551616∧z<18446744073709551616∧u<9223372036854775808∧u % 128=p0+(p1+(p2+(p3+(p4+(p5+(p6+p7)))))):=by
 have x1:x / 256=p1+256 * (p2+256 * (p3+256 * (p4+256 * (p5+256 * (p6+256 * p7))))):=by rw[hx];exact div_lo (by omega)
 rw[x1,hx]at hy
 clear hx x1
 have hy2:y=((p0+p1)+256 * (p1+p2))+65536 * ((p2+p3)+256 * ((p3+p4)+256 * ((p4+p5)+256 * ((p5+p6)+256 * ((p6+p7)+256 * p7))))):=by omega
 clear hy
 have y1:y / 65536=(p2+p3)+256 * ((p3+p4)+256 * ((p4+p5)+256 * ((p5+p6)+256 * ((p6+p7)+256 * p7)))):=by rw[hy2];exact div_lo (by omega)
 have h1:y<18446744073709551616:=by omega
 rw[y1,hy2]at hz
 clear hy2 y1
 have hz2:z=((p0+p1+p2+p3)+256 * ((p1+p2+p3+p4)+256 * ((p2+p3+p4+p5)+256 * (p3+p4+p5+p6))))+4294967296 * ((p4+p5+p6+p7)+256 * ((p5+p6+p7)+256 * ((p6+p7)+256 * p7))):=by omega
 clear hz
 have z1:z / 4294967296=(p4+p5+p6+p7)+256 * ((p5+p6+p7)+256 * ((p6+p7)+256 * p7)):=by rw[hz2];exact div_lo (by omega)
 have h2:z<18446744073709551616:=by omega
 rw[z1,hz2]at hu
 clear hz2 z1
 have hu2:∃ q,u=(p0+(p1+(p2+(p3+(p4+(p5+(p6+p7)))))))+128 * q:=⟨2 * (((p1+p2+p3+p4)+(p5+p6+p7))+256 * (((p2+p3+p4+p5)+(p6+p7))+256 * ((p3+p4+p5+p6+p7)+256 * ((p4+p5+p6+p7)+256 * ((p5+p6+p7)+256 * ((p6+p7)+256 * p7)))))),by omega⟩
 refine⟨h1,h2,by omega,?_⟩
 obtain⟨q,hq⟩:=hu2
 clear hu
 rw[hq,Nat.add_mul_mod_self_left]
 exact Nat.mod_eq_of_lt (by omega)
theorem pop64 (n:Nat):popN 64 n=(bitsL n).length:=rfl
end Go.Proofs.YtejjibilgmlhdaaDoor
namespace Go.Proofs.YtejjibilgmlhdaaDoor
open Go.Am
set_option linter.unusedVariables false
set_option linter.unusedSimpArgs false
def BdW (s:List LWd):Prop:=∀ w∈s,w.bits<18446744073709551616
theorem OkW.bd {s:List LWd} (h:OkW s):BdW s:=fun w hw=>(h.each w hw).2.2.2
theorem BdW.tail {w:LWd} {s:List LWd} (h:BdW (w::s)):BdW s:=fun x hx=>h x (List.mem_cons_of_mem _ hx)
def zP:Int→List LWd→Bool
 |_,[]=>true
 |last,w::s=>decide (last<w.pos)&&decide (w.pos<16384)&&decide (w.bits≠0)&&zP w.pos s
theorem checkW_iff:∀ {s:List LWd} {last:Int},-1≤last→BdW s→(zP last s=true↔OkW s∧∀ w∈s,last<w.pos)
 |[],last,_,_=>by simp[zP,OkW.nil]
 |w::s,last,hl,hb=>by
  unfold zP
  rw[Bool.and_eq_true,Bool.and_eq_true,Bool.and_eq_true,decide_eq_true_iff,decide_eq_true_iff,decide_eq_true_iff]
  constructor
  ·rintro⟨⟨⟨h1,h2⟩,h3⟩,h4⟩
   obtain⟨h5,h6⟩:=(checkW_iff (by omega) hb.tail).1 h4
   refine⟨⟨List.pairwise_cons.2 ⟨h6,h5.rise⟩,fun x hx=> ?_⟩,fun x hx=> ?_⟩
   ·rcases List.mem_cons.1 hx with rfl|hx
    ·exact⟨by omega,h2,h3,hb _ (List.mem_cons_self ..)⟩
    ·exact h5.each x hx
   ·rcases List.mem_cons.1 hx with rfl|hx
    ·exact h1
    ·have:=h6 x hx;omega
  ·rintro⟨h1,h2⟩
   obtain⟨a,b,c,_⟩:=h1.each w (List.mem_cons_self ..)
   exact⟨⟨⟨h2 w (List.mem_cons_self ..),b⟩,c⟩,(checkW_iff (by omega) hb.tail).2 ⟨h1.tail,(List.pairwise_cons.1 h1.rise).1⟩⟩
theorem okW_iff {s:List LWd} (hb:BdW s):zP (-1) s=true↔OkW s:=by
 rw[checkW_iff (by decide) hb]
 exact⟨fun h=>h.1,fun h=>⟨h,fun w hw=>by have:=(h.each w hw).1;omega⟩⟩
def inB (s:List LWd) (n:Int):Bool:=s.any fun w=>decide (w.pos=n / 64)&&w.bits.testBit (n % 64).toNat
theorem inB_iff {s:List LWd} {n:Int}:inB s n=true↔InW s n:=by
 unfold inB InW
 rw[List.any_eq_true]
 simp only[Bool.and_eq_true,decide_eq_true_iff]
theorem inB_false {s:List LWd} {n:Int} (h:¬InW s n):inB s n=false:=by
 cases hb:inB s n with
 |false=>rfl
 |true=>exact absurd (inB_iff.1 hb) h
theorem inB_cons (w:LWd) (s:List LWd) (n:Int):inB (w::s) n=(decide (w.pos=n / 64)&&w.bits.testBit (n % 64).toNat||inB s n):=by
 unfold inB;rw[List.any_cons]
theorem inB_far {s:List LWd} {n:Int} (h:∀ w∈s,n / 64<w.pos):inB s n=false:=inB_false fun ⟨w,hw,e,_⟩=>by have:=h w hw;omega
def putW (p:Int) (v:Nat) (s:List LWd):List LWd:=if v=0 then s else ⟨p,v⟩::s
theorem putW_ok {p:Int} {v:Nat} {s:List LWd} (h:OkW s) (hp:0≤p∧p<16384) (hv:v<18446744073709551616) (hs:∀ w∈s,p<w.pos):OkW (putW p v s):=by
 unfold putW
 split
 ·exact h
 ·rename_i hne
  refine⟨List.pairwise_cons.2 ⟨hs,h.rise⟩,fun x hx=> ?_⟩
  rcases List.mem_cons.1 hx with rfl|hx
  ·exact⟨hp.1,hp.2,hne,hv⟩
  ·exact h.each x hx
theorem putW_in (p:Int) (v:Nat) (s:List LWd) (n:Int):inB (putW p v s) n=(decide (p=n / 64)&&v.testBit (n % 64).toNat||inB s n):=by
 unfold putW
 split
 ·rename_i h;subst h;simp
 ·rw[inB_cons]
theorem putW_mem {p:Int} {v:Nat} {s:List LWd} {x:LWd} (h:x∈putW p v s):x.pos=p∨x∈s:=by
 unfold putW at h
 split at h
 ·exact .inr h
 ·rcases List.mem_cons.1 h with rfl|h
  ·exact .inl rfl
  ·exact .inr h
def zF (f:Nat→Nat→Nat):List LWd→List LWd→List LWd
 |[],[]=>[]
 |x::a,[]=>putW x.pos (f x.bits 0) (zF f a [])
 |[],y::b=>putW y.pos (f 0 y.bits) (zF f [] b)
 |x::a,y::b=>if x.pos<y.pos then putW x.pos (f x.bits 0) (zF f a (y::b)) else if y.pos<x.pos then putW y.pos (f 0 y.bits) (zF f (x::a) b) else putW x.pos (f x.bits y.bits) (zF f a b)
 termination_by a b=>a.length+b.length
structure Bitw (f:Nat→Nat→Nat) (g:Bool→Bool→Bool):Prop where
 nil:g false false=false
 bit:∀ a b,a<18446744073709551616→b<18446744073709551616→f a b<18446744073709551616∧∀ i,(f a b).testBit i=g (a.testBit i) (b.testBit i)
theorem z8 {x:LWd} {a:List LWd} (h:OkW (x::a)):∀ w∈a,x.pos<w.pos:=(List.pairwise_cons.1 h.rise).1
theorem mergeL_is {f:Nat→Nat→Nat} {g:Bool→Bool→Bool} (hf:Bitw f g):∀ {a b:List LWd},OkW a→OkW b→(OkW (zF f a b)∧(∀ n,inB (zF f a b) n=g (inB a n) (inB b n))∧∀ p,(∀ w∈a,p<w.pos)→(∀ w∈b,p<w.pos)→∀ w∈zF f a b,p<w.pos)
 |[],[],_,_=>by
  unfold zF
  exact⟨OkW.nil,fun n=>by show false=g false false;rw[hf.nil],fun p _ _ w hw=>by cases hw⟩
 |x::a,[],ha,hb=>by
  obtain⟨i1,i2,i3⟩:=mergeL_is hf ha.tail hb
  obtain⟨x1,x2,x3,x4⟩:=ha.each x (List.mem_cons_self ..)
  obtain⟨f1,f2⟩:=hf.bit x.bits 0 x4 (by decide)
  unfold zF
  refine⟨putW_ok i1 ⟨x1,x2⟩ f1 (i3 _ (z8 ha) (fun w hw=>by cases hw)),fun n=> ?_,fun p h1 h2 w hw=> ?_⟩
  ·rw[putW_in,i2,inB_cons,f2,Nat.zero_testBit]
   by_cases e:x.pos=n / 64
   ·rw[inB_far (s:=a) (fun w hw=>by have:=z8 ha w hw;omega),decide_eq_true e,show inB [] n=false from rfl,hf.nil];simp
   ·rw[decide_eq_false e];simp
  ·rcases putW_mem hw with e|hw
   ·rw[e];exact h1 x (List.mem_cons_self ..)
   ·exact i3 p (fun w hw=>h1 w (List.mem_cons_of_mem _ hw)) h2 w hw
 |[],y::b,ha,hb=>by
  obtain⟨i1,i2,i3⟩:=mergeL_is hf ha hb.tail
  obtain⟨x1,x2,x3,x4⟩:=hb.each y (List.mem_cons_self ..)
  obtain⟨f1,f2⟩:=hf.bit 0 y.bits (by decide) x4
  unfold zF
  refine⟨putW_ok i1 ⟨x1,x2⟩ f1 (i3 _ (fun w hw=>by cases hw) (z8 hb)),fun n=> ?_,fun p h1 h2 w hw=> ?_⟩
  ·rw[putW_in,i2,inB_cons,f2,Nat.zero_testBit]
   by_cases e:y.pos=n / 64
   ·rw[inB_far (s:=b) (fun w hw=>by have:=z8 hb w hw;omega),decide_eq_true e,show inB [] n=false from rfl,hf.nil];simp
   ·rw[decide_eq_false e];simp
  ·rcases putW_mem hw with e|hw
   ·rw[e];exact h2 y (List.mem_cons_self ..)
   ·exact i3 p h1 (fun w hw=>h2 w (List.mem_cons_of_mem _ hw)) w hw
 |x::a,y::b,ha,hb=>by
  obtain⟨x1,x2,x3,x4⟩:=ha.each x (List.mem_cons_self ..)
  obtain⟨y1,y2,y3,y4⟩:=hb.each y (List.mem_cons_self ..)
  unfold zF
  by_cases c1:x.pos<y.pos
  ·rw[if_pos c1]
   obtain⟨i1,i2,i3⟩:=mergeL_is hf ha.tail hb
   obtain⟨f1,f2⟩:=hf.bit x.bits 0 x4 (by decide)
   have hfar:∀ w∈y::b,x.pos<w.pos:=fun w hw=>by
    rcases List.mem_cons.1 hw with rfl|hw
    ·exact c1
    ·have:=z8 hb w hw;omega
   refine⟨putW_ok i1 ⟨x1,x2⟩ f1 (i3 _ (z8 ha) hfar),fun n=> ?_,fun p h1 h2 w hw=> ?_⟩
   ·rw[putW_in,i2,inB_cons x a,f2,Nat.zero_testBit]
    by_cases e:x.pos=n / 64
    ·rw[inB_far (s:=a) (fun w hw=>by have:=z8 ha w hw;omega),inB_far (s:=y::b) (fun w hw=>by have:=hfar w hw;omega),decide_eq_true e,hf.nil];simp
    ·rw[decide_eq_false e];simp
   ·rcases putW_mem hw with e|hw
    ·rw[e];exact h1 x (List.mem_cons_self ..)
    ·exact i3 p (fun w hw=>h1 w (List.mem_cons_of_mem _ hw)) h2 w hw
  ·rw[if_neg c1]
   by_cases c2:y.pos<x.pos
   ·rw[if_pos c2]
    obtain⟨i1,i2,i3⟩:=mergeL_is hf ha hb.tail
    obtain⟨f1,f2⟩:=hf.bit 0 y.bits (by decide) y4
    have hfar:∀ w∈x::a,y.pos<w.pos:=fun w hw=>by
     rcases List.mem_cons.1 hw with rfl|hw
     ·exact c2
     ·have:=z8 ha w hw;omega
    refine⟨putW_ok i1 ⟨y1,y2⟩ f1 (i3 _ hfar (z8 hb)),fun n=> ?_,fun p h1 h2 w hw=> ?_⟩
    ·rw[putW_in,i2,inB_cons y b,f2,Nat.zero_testBit]
     by_cases e:y.pos=n / 64
     ·rw[inB_far (s:=b) (fun w hw=>by have:=z8 hb w hw;omega),inB_far (s:=x::a) (fun w hw=>by have:=hfar w hw;omega),decide_eq_true e,hf.nil];simp
     ·rw[decide_eq_false e];simp
    ·rcases putW_mem hw with e|hw
     ·rw[e];exact h2 y (List.mem_cons_self ..)
     ·exact i3 p h1 (fun w hw=>h2 w (List.mem_cons_of_mem _ hw)) w hw
   ·rw[if_neg c2]
    obtain⟨i1,i2,i3⟩:=mergeL_is hf ha.tail hb.tail
    obtain⟨f1,f2⟩:=hf.bit x.bits y.bits x4 y4
    have e0:x.pos=y.pos:=by omega
    refine⟨putW_ok i1 ⟨x1,x2⟩ f1 (i3 _ (z8 ha) (fun w hw=>by have:=z8 hb w hw;omega)),fun n=> ?_,fun p h1 h2 w hw=> ?_⟩
    ·rw[putW_in,i2,inB_cons x a,inB_cons y b,f2,←e0]
     by_cases e:x.pos=n / 64
     ·rw[inB_far (s:=a) (fun w hw=>by have:=z8 ha w hw;omega),inB_far (s:=b) (fun w hw=>by have:=z8 hb w hw;omega),decide_eq_true e,hf.nil];simp
     ·rw[decide_eq_false e];simp
    ·rcases putW_mem hw with e|hw
     ·rw[e];exact h1 x (List.mem_cons_self ..)
     ·exact i3 p (fun w hw=>h1 w (List.mem_cons_of_mem _ hw)) (fun w hw=>h2 w (List.mem_cons_of_mem _ hw)) w hw
 termination_by a b=>a.length+b.length
end Go.Proofs.YtejjibilgmlhdaaDoor
namespace Go.Proofs.YtejjibilgmlhdaaDoor
open Go.Am
set_option linter.unusedVariables false
set_option linter.unusedSimpArgs false
theorem set_bit {b k:Nat} (hk:k<64) (hb:b<18446744073709551616):b|||2 ^ k<18446744073709551616∧∀ i,(b|||2 ^ k).testBit i=(b.testBit i||decide (k=i)):=by
 have h:2 ^ k<2 ^ 64:=Nat.pow_lt_pow_right (by decide) hk
 refine⟨Nat.or_lt_two_pow (n:=64) hb h,fun i=> ?_⟩
 rw[Nat.testBit_or,Nat.testBit_two_pow]
structure Upto (s:List LWd) (xs:List Int):Prop where
 ok:OkW s
 mem:∀ n,InW s n↔n∈xs
theorem okW_snoc {s:List LWd} {w:LWd} (h:OkW s) (h1:0≤w.pos∧w.pos<16384) (h2:w.bits≠0) (h3:w.bits<18446744073709551616) (hs:∀ x∈s,x.pos<w.pos):OkW (s++[w]):=
 ⟨List.pairwise_append.2 ⟨h.rise,List.pairwise_singleton ..,fun x hx y hy=>by rw[List.mem_singleton]at hy;subst hy;exact hs x hx⟩,fun x hx=>by
  rcases List.mem_append.1 hx with hx|hx
  ·exact h.each x hx
  ·rw[List.mem_singleton]at hx;subst hx;exact⟨h1.1,h1.2,h2,h3⟩⟩
theorem inW_snoc {s:List LWd} {w:LWd} {n:Int}:InW (s++[w]) n↔InW s n∨(w.pos=n / 64∧w.bits.testBit (n % 64).toNat=true):=by
 unfold InW
 constructor
 ·rintro⟨x,hx,e⟩
  rcases List.mem_append.1 hx with hx|hx
  ·exact .inl ⟨x,hx,e⟩
  ·rw[List.mem_singleton]at hx;subst hx;exact .inr e
 ·rintro(⟨x,hx,e⟩|e)
  ·exact⟨x,List.mem_append_left _ hx,e⟩
  ·exact⟨w,by simp,e⟩
theorem Upto.old {s:List LWd} {w:LWd} {xs:List Int} {n:Int} (u:Upto (s++[w]) xs) (hn:0≤n∧n<1048576) (hw:w.pos=n / 64):Upto (s++[⟨w.pos,w.bits|||2 ^ (n % 64).toNat⟩]) (xs++[n]):=by
 obtain⟨w1,w2,w3,w4⟩:=u.ok.each w (by simp)
 obtain⟨s1,s2⟩:=set_bit (k:=(n % 64).toNat) (by omega) w4
 obtain⟨p1,p2,p3⟩:=List.pairwise_append.1 u.ok.rise
 have hne:w.bits|||2 ^ (n % 64).toNat≠0:=fun e=>by
  have:=s2 (n % 64).toNat;rw[e,Nat.zero_testBit]at this;simp at this
 refine⟨okW_snoc ⟨p1,fun x hx=>u.ok.each x (List.mem_append_left _ hx)⟩ ⟨w1,w2⟩ hne s1 (fun x hx=>p3 x hx w (by simp)),fun m=> ?_⟩
 have:=u.mem m
 rw[inW_snoc]at this
 rw[inW_snoc,s2,Bool.or_eq_true,decide_eq_true_iff,List.mem_append,List.mem_singleton,←this]
 constructor
 ·rintro(h|⟨e,h|h⟩)
  ·exact .inl (.inl h)
  ·exact .inl (.inr ⟨e,h⟩)
  ·exact .inr (by simp only at e;omega)
 ·rintro((h|⟨e,h⟩)|e)
  ·exact .inl h
  ·exact .inr ⟨e,.inl h⟩
  ·subst e;exact .inr ⟨hw,.inr rfl⟩
end Go.Proofs.YtejjibilgmlhdaaDoor
namespace Go.Proofs.YtejjibilgmlhdaaDoor
open Go.Am
set_option linter.unusedVariables false
set_option linter.unusedSimpArgs false
set_option maxHeartbeats 4000000
noncomputable def tb:Tab:=⟨cFunc Tryd.prog,fun f=>if f=19 then some (known [(0,tzV)] (.bool true)) else none⟩
theorem nostub (f:Nat) (hf:Nat.beq f 19=false:=by rfl):tb.stub f=none:=if_neg (Nat.ne_of_beq_eq_false hf)
theorem alive_ok (h:AHeap) (ht:ze h 0=some tzV):WC Tryd.prog tb 19 [] h fun r h'=>r= .bool true∧h=h':=by
 refine WC.stub (s:=known [(0,tzV)] (.bool true)) (by show (if 19=19 then some (known [(0,tzV)] (.bool true)) else none)=_;exact if_pos rfl) (v:= .bool true) (h':=h) ?_ ⟨rfl,rfl⟩
 have hl:laidIn h [(0,tzV)]=true:=by
  unfold ze at ht
  unfold laidIn
  simp only[List.all_cons,List.all_nil,Bool.and_true]
  split at ht
  ·rename_i c o lo hg
   cases ht
   rw[hg]
   show sameCells tzV tzV=true
   kernel_rfl
  ·cases ht
 unfold known
 rw[hl];rfl
end Go.Proofs.YtejjibilgmlhdaaDoor
namespace Go.Proofs.YtejjibilgmlhdaaDoor
open Go.Am
set_option linter.unusedVariables false
set_option linter.unusedSimpArgs false
set_option maxHeartbeats 400000
end Go.Proofs.YtejjibilgmlhdaaDoor
namespace Go.Proofs.YtejjibilgmlhdaaDoor
open Go.Am
set_option linter.unusedVariables false
set_option linter.unusedSimpArgs false
set_option maxHeartbeats 400000
end Go.Proofs.YtejjibilgmlhdaaDoor
namespace Go.Proofs.YtejjibilgmlhdaaDoor
open Go.Am
set_option linter.unusedVariables false
set_option linter.unusedSimpArgs false
set_option maxHeartbeats 400000
def Edge (lo hi k c:Int):Prop:=lo≤k∧(c=2 * k+1∨c=2 * k+2)∧c<hi
end Go.Proofs.YtejjibilgmlhdaaDoor
namespace Go.Proofs.YtejjibilgmlhdaaDoor
open Go.Am
set_option linter.unusedVariables false
set_option linter.unusedSimpArgs false
set_option maxHeartbeats 400000
end Go.Proofs.YtejjibilgmlhdaaDoor
namespace Go.Proofs.YtejjibilgmlhdaaDoor
open Go.Am
set_option linter.unusedVariables false
set_option linter.unusedSimpArgs false
set_option maxHeartbeats 1000000
end Go.Proofs.YtejjibilgmlhdaaDoor
namespace Go.Proofs.YtejjibilgmlhdaaDoor
open Go.Am
set_option linter.unusedVariables false
set_option linter.unusedSimpArgs false
set_option maxHeartbeats 1000000
def RW (h:AHeap) (cs:List Value) (w:LWd):Prop:=cs=[I w.pos,W w.bits]∧w.bits<18446744073709551616∧ -9223372036854775808≤w.pos∧w.pos≤9223372036854775807
abbrev SlW (h:AHeap) (v:Value) (s:List LWd):Prop:=SlR 2 RW h v s
theorem SlW.ext {h h' v s} (k:SlW h v s) (e:Ext h h'):SlW h' v s:=SlR.ext (h:=h) (h':=h') (R:=RW) (fun cs a r=>r) k e
theorem SlW.bd {h v s} (k:SlW h v s):BdW s:=fun w hw=>by
 obtain⟨i,hi,e⟩:=List.mem_iff_getElem.1 hw
 obtain⟨cs,⟨_,h2,_⟩,_⟩:=k.at hi
 rw[←e];exact h2
noncomputable def body36:ACode:=(.seq (.region [⟨some 4,none,(.mov (.const (.int .u64 0)))⟩]) (.seq (.region [⟨some 5,none,(.mov (.tmp 0))⟩,⟨some 6,none,(.mov (.tmp 1))⟩,⟨some 7,none,(.bin .or (.tmp 5) (.tmp 6))⟩,⟨some 4,none,(.mov (.tmp 7))⟩]) .ret))
set_option maxRecDepth 100000 in
theorem tab36:tb.code 36=some ⟨8,[(4,none)],body36⟩:=by kernel_rfl
theorem or1_ok (h:AHeap) (a b:Nat) (ha:a<18446744073709551616) (hb:b<18446744073709551616):WC Tryd.prog tb 36 [W a,W b] h fun r h'=>r=W (a|||b)∧h=h':=by
 refine WC.of (nostub 36) tab36 ?_;simp only[mkTm,Nat.zero_add,Nat.reduceAdd]
 refine go ?_
 refine WO.bin ope_ ope_ (u_or ha hb).1 ?_
 refine go ?_
 refine rt ?_
 exact⟨rfl,rfl⟩
noncomputable def body37:ACode:=(.seq (.region [⟨some 4,none,(.mov (.const (.int .u64 0)))⟩]) (.seq (.region [⟨some 5,none,(.mov (.tmp 0))⟩,⟨some 6,none,(.mov (.tmp 1))⟩,⟨some 7,none,(.bin .and (.tmp 5) (.tmp 6))⟩,⟨some 4,none,(.mov (.tmp 7))⟩]) .ret))
set_option maxRecDepth 100000 in
theorem tab37:tb.code 37=some ⟨8,[(4,none)],body37⟩:=by kernel_rfl
theorem and1_ok (h:AHeap) (a b:Nat) (ha:a<18446744073709551616) (hb:b<18446744073709551616):WC Tryd.prog tb 37 [W a,W b] h fun r h'=>r=W (a&&& b)∧h=h':=by
 refine WC.of (nostub 37) tab37 ?_;simp only[mkTm,Nat.zero_add,Nat.reduceAdd]
 refine go ?_
 refine WO.bin ope_ ope_ (u_and ha hb) ?_
 refine go ?_
 refine rt ?_
 exact⟨rfl,rfl⟩
noncomputable def body38:ACode:=(.seq (.region [⟨some 4,none,(.mov (.const (.int .u64 0)))⟩]) (.seq (.region [⟨some 5,none,(.mov (.tmp 0))⟩,⟨some 6,none,(.mov (.tmp 1))⟩,⟨some 7,none,(.bin .andNot (.tmp 5) (.tmp 6))⟩,⟨some 4,none,(.mov (.tmp 7))⟩]) .ret))
set_option maxRecDepth 100000 in
theorem tab38:tb.code 38=some ⟨8,[(4,none)],body38⟩:=by kernel_rfl
theorem minus1_ok (h:AHeap) (a b:Nat) (ha:a<18446744073709551616) (hb:b<18446744073709551616):WC Tryd.prog tb 38 [W a,W b] h fun r h'=>r=W (notN a b)∧h=h':=by
 refine WC.of (nostub 38) tab38 ?_;simp only[mkTm,Nat.zero_add,Nat.reduceAdd]
 refine go ?_
 refine WO.bin ope_ ope_ (u_notN ha hb).1 ?_
 refine go ?_
 refine rt ?_
 exact⟨rfl,rfl⟩
noncomputable def body33:ACode:=(.seq (.region [⟨some 2,none,(.mov (.const (.int .i64 0)))⟩]) (.seq (.region [⟨some 3,none,(.mov (.tmp 0))⟩,⟨some 4,none,(.bin .shr (.tmp 3) (.const (.int .u64 1)))⟩,⟨some 5,none,(.bin .and (.tmp 4) (.const (.int .u64 6148914691236517205)))⟩,⟨some 6,none,(.mov (.tmp 0))⟩,⟨some 7,none,(.bin .and (.tmp 6) (.const (.int .u64 6148914691236517205)))⟩,⟨some 8,none,(.bin .add (.tmp 5) (.tmp 7))⟩,⟨some 0,none,(.mov (.tmp 8))⟩]) (.seq (.region [⟨some 9,none,(.mov (.tmp 0))⟩,⟨some 10,none,(.bin .shr (.tmp 9) (.const (.int .u64 2)))⟩,⟨some 11,none,(.bin .and (.tmp 10) (.const (.int .u64 3689348814741910323)))⟩,⟨some 12,none,(.mov (.tmp 0))⟩,⟨some 13,none,(.bin .and (.tmp 12) (.const (.int .u64 3689348814741910323)))⟩,⟨some 14,none,(.bin .add (.tmp 11) (.tmp 13))⟩,⟨some 0,none,(.mov (.tmp 14))⟩]) (.seq (.region [⟨some 15,none,(.mov (.tmp 0))⟩,⟨some 16,none,(.bin .shr (.tmp 15) (.const (.int .u64 4)))⟩,⟨some 17,none,(.mov (.tmp 0))⟩,⟨some 18,none,(.bin .add (.tmp 16) (.tmp 17))⟩,⟨some 19,none,(.bin .and (.tmp 18) (.const (.int .u64 1085102592571150095)))⟩,⟨some 0,none,(.mov (.tmp 19))⟩]) (.seq (.region [⟨some 20,none,(.mov (.tmp 0))⟩,⟨some 21,none,(.mov (.tmp 0))⟩,⟨some 22,none,(.bin .shr (.tmp 21) (.const (.int .u64 8)))⟩,⟨some 23,none,(.bin .add (.tmp 20) (.tmp 22))⟩,⟨some 0,none,(.mov (.tmp 23))⟩]) (.seq (.region [⟨some 24,none,(.mov (.tmp 0))⟩,⟨some 25,none,(.mov (.tmp 0))⟩,⟨some 26,none,(.bin .shr (.tmp 25) (.const (.int .u64 16)))⟩,⟨some 27,none,(.bin .add (.tmp 24) (.tmp 26))⟩,⟨some 0,none,(.mov (.tmp 27))⟩]) (.seq (.region [⟨some 28,none,(.mov (.tmp 0))⟩,⟨some 29,none,(.mov (.tmp 0))⟩,⟨some 30,none,(.bin .shr (.tmp 29) (.const (.int .u64 32)))⟩,⟨some 31,none,(.bin .add (.tmp 28) (.tmp 30))⟩,⟨some 0,none,(.mov (.tmp 31))⟩]) (.seq (.region [⟨some 32,none,(.mov (.tmp 0))⟩,⟨some 33,none,(.conv .i64 (.tmp 32))⟩,⟨some 34,none,(.bin .and (.tmp 33) (.const (.int .i64 127)))⟩,⟨some 2,none,(.mov (.tmp 34))⟩]) .ret))))))))
set_option maxRecDepth 100000 in
theorem tab33:tb.code 33=some ⟨35,[(2,none)],body33⟩:=by kernel_rfl
theorem ones_ok (h:AHeap) (n:Nat) (hn:n<18446744073709551616):WC Tryd.prog tb 33 [W n] h fun r h'=>r=I ((bitsL n).length:Nat)∧h=h':=by
 refine WC.of (nostub 33) tab33 ?_;simp only[mkTm,Nat.zero_add,Nat.reduceAdd]
 obtain⟨p0,p1,p2,p3,p4,p5,p6,p7,hp,hs,hx⟩:=packB_at n
 obtain⟨A,hA⟩:∃ A,A=(n / 2&&& 6148914691236517205)+(n&&& 6148914691236517205):=⟨_,rfl⟩
 obtain⟨B,hB⟩:∃ B,B=(A / 4&&& 3689348814741910323)+(A&&& 3689348814741910323):=⟨_,rfl⟩
 obtain⟨C,hC⟩:∃ C,C=(B / 16+B)&&& 1085102592571150095:=⟨_,rfl⟩
 obtain⟨y,hy⟩:∃ y,y=C+C / 256:=⟨_,rfl⟩
 obtain⟨z,hz⟩:∃ z,z=y+y / 65536:=⟨_,rfl⟩
 obtain⟨u,hu⟩:∃ u,u=z+z / 4294967296:=⟨_,rfl⟩
 have hk:C=packB 8 n:=by
  rw[←(sw_pack 8 n).1]
  have e1:sw1 8 n=A:=hA.symm
  have e2:sw2 8 A=B:=hB.symm
  rw[e1,e2];exact hC
 obtain⟨y1,y2,y3,y4⟩:=pack_sum hp (hk.trans hx) hy hz hu
 rw[←hs,pop64]at y4
 have bA:A<18446744073709551616:=by
  have h1:n / 2&&& 6148914691236517205≤6148914691236517205:=Nat.and_le_right
  have h2:n&&& 6148914691236517205≤6148914691236517205:=Nat.and_le_right
  omega
 have bB:B≤7378697629483820646:=by
  have h1:A / 4&&& 3689348814741910323≤3689348814741910323:=Nat.and_le_right
  have h2:A&&& 3689348814741910323≤3689348814741910323:=Nat.and_le_right
  omega
 have bC:C<18446744073709551616:=by
  have h1:C≤1085102592571150095:=by rw[hC];exact Nat.and_le_right
  omega
 have a1:zU .shr (W n) (W 1)=some (W (n / 2)):=u_shrW (k:=1) (by decide)
 have a2:zU .and (W (n / 2)) (W 6148914691236517205)=some (W (n / 2&&& 6148914691236517205)):=u_and (by omega) (by decide)
 have a3:zU .and (W n) (W 6148914691236517205)=some (W (n&&& 6148914691236517205)):=u_and hn (by decide)
 have a4:zU .add (W (n / 2&&& 6148914691236517205)) (W (n&&& 6148914691236517205))=some (W A):=by rw[u_add (by omega),hA]
 have b1:zU .shr (W A) (W 2)=some (W (A / 4)):=u_shrW (k:=2) (by decide)
 have b2:zU .and (W (A / 4)) (W 3689348814741910323)=some (W (A / 4&&& 3689348814741910323)):=u_and (by omega) (by decide)
 have b3:zU .and (W A) (W 3689348814741910323)=some (W (A&&& 3689348814741910323)):=u_and bA (by decide)
 have b4:zU .add (W (A / 4&&& 3689348814741910323)) (W (A&&& 3689348814741910323))=some (W B):=by rw[u_add (by omega),hB]
 have c1:zU .shr (W B) (W 4)=some (W (B / 16)):=u_shrW (k:=4) (by decide)
 have c2:zU .add (W (B / 16)) (W B)=some (W (B / 16+B)):=u_add (by omega)
 have c3:zU .and (W (B / 16+B)) (W 1085102592571150095)=some (W C):=by rw[u_and (by omega) (by decide),hC]
 have d1:zU .shr (W C) (W 8)=some (W (C / 256)):=u_shrW (k:=8) (by decide)
 have d2:zU .add (W C) (W (C / 256))=some (W y):=by rw[u_add (by omega),hy]
 have e1:zU .shr (W y) (W 16)=some (W (y / 65536)):=u_shrW (k:=16) (by decide)
 have e2:zU .add (W y) (W (y / 65536))=some (W z):=by rw[u_add (by omega),hz]
 have f1:zU .shr (W z) (W 32)=some (W (z / 4294967296)):=u_shrW (k:=32) (by decide)
 have f2:zU .add (W z) (W (z / 4294967296))=some (W u):=by rw[u_add (by omega),hu]
 have g1:=i_and127 y3
 rw[y4]at g1
 clear hp hs hx hk hA hB hC hy hz hu
 refine go ?_
 refine WO.bin ope_ rfl a1 ?_
 refine go ?_
 refine WO.bin ope_ rfl a2 ?_
 refine go ?_
 refine WO.bin ope_ rfl a3 ?_
 refine go ?_
 refine WO.bin ope_ ope_ a4 ?_
 refine go ?_
 refine WO.bin ope_ rfl b1 ?_
 refine go ?_
 refine WO.bin ope_ rfl b2 ?_
 refine go ?_
 refine WO.bin ope_ rfl b3 ?_
 refine go ?_
 refine WO.bin ope_ ope_ b4 ?_
 refine go ?_
 refine WO.bin ope_ rfl c1 ?_
 refine go ?_
 refine WO.bin ope_ ope_ c2 ?_
 refine go ?_
 refine WO.bin ope_ rfl c3 ?_
 refine go ?_
 refine WO.bin ope_ rfl d1 ?_
 refine go ?_
 refine WO.bin ope_ ope_ d2 ?_
 refine go ?_
 refine WO.bin ope_ rfl e1 ?_
 refine go ?_
 refine WO.bin ope_ ope_ e2 ?_
 refine go ?_
 refine WO.bin ope_ rfl f1 ?_
 refine go ?_
 refine WO.bin ope_ ope_ f2 ?_
 refine go ?_
 refine WO.bin ope_ ope_ g1 ?_
 refine go ?_
 refine rt ?_
 exact⟨rfl,rfl⟩
section
variable {P:Program} {tab:Tab} {t:Trie Value} {h:AHeap} {ds:List Deferred} {rd:Option Nat} {l:List AOper} {Q:AFr→AHeap→Prop}
end
def TzT (h:AHeap):Prop:=ze h 0=some tzV∧0<h.n
theorem TzT.ext {h h'} (t:TzT h) (e:Ext h h'):TzT h':=⟨e.row t.2 t.1,Nat.lt_of_lt_of_le t.2 e.n⟩
end Go.Proofs.YtejjibilgmlhdaaDoor
namespace Go.Proofs.YtejjibilgmlhdaaDoor
open Go.Am
set_option linter.unusedVariables false
set_option linter.unusedSimpArgs false
set_option maxHeartbeats 1000000
theorem drop_cons {s:List LWd} {i:Nat} (h:i<s.length):s.drop i=s.getD i default::s.drop (i+1):=by
 rw[List.drop_eq_getElem_cons h,List.getD_eq_getElem?_getD,List.getElem?_eq_getElem h];rfl
theorem wd_at {h:AHeap} {v:Value} {s:List LWd} {i:Nat} (k:SlW h v s) (hi:i<s.length):∃ cs,RW h cs (s.getD i default)∧Piece h v (i * 2) cs∧IsSl v:=by
 obtain⟨cs,a,_,c⟩:=k.at hi
 exact⟨cs,by rw[List.getD_eq_getElem?_getD,List.getElem?_eq_getElem hi];exact a,c,k.some hi⟩
def errW (b:Bool):Int:=if b then 0 else 8
theorem checkW_bad {last:Int} {w:LWd} {l:List LWd} (h:w.pos≤last∨16384≤w.pos∨(w.bits:Int)=0):zP last (w::l)=false:=by
 unfold zP
 rcases h with h|h|h
 ·rw[decide_eq_false (show ¬last<w.pos by omega)];rfl
 ·rw[decide_eq_false (show ¬w.pos<16384 by omega),Bool.and_false];rfl
 ·rw[decide_eq_false (show ¬w.bits≠0 by omega),Bool.and_false];rfl
theorem checkW_good {last:Int} {w:LWd} {l:List LWd} (h1:last<w.pos) (h2:w.pos<16384) (h3:w.bits≠0):zP last (w::l)=zP w.pos l:=by
 rw[zP,decide_eq_true h1,decide_eq_true h2,decide_eq_true h3];rfl
noncomputable def body15_0:ACode:=(.seq (.region [⟨some 9,none,(.bin .lss (.tmp 8) (.tmp 7))⟩]) (.seq (.cond (.tmp 9) .skip (.exit 0)) (.seq (.block 1 (.seq (.region [⟨some 10,none,(.idx 2 (.tmp 6) (.tmp 8))⟩,⟨some 11,none,(.load true 2 (.tmp 10))⟩,⟨some 5,none,(.alloc [(.int .i64 0),(.int .u64 0)])⟩,⟨none,none,(.store 2 (.tmp 5) (.tmp 11))⟩]) (.seq (.seq (.region [⟨some 12,none,(.fld 0 (.tmp 5))⟩,⟨some 13,none,(.load false 1 (.tmp 12))⟩,⟨some 14,none,(.mov (.tmp 3))⟩,⟨some 15,none,(.bin .leq (.tmp 13) (.tmp 14))⟩,⟨some 16,none,(.mov (.tmp 15))⟩,⟨some 17,some (16,false),(.fld 0 (.tmp 5))⟩,⟨some 18,some (16,false),(.load false 1 (.tmp 17))⟩,⟨some 19,some (16,false),(.bin .geq (.tmp 18) (.const (.int .i64 16384)))⟩,⟨some 20,none,(.pick (.tmp 16) (.const (.bool true)) (.tmp 19))⟩,⟨some 21,none,(.mov (.tmp 20))⟩,⟨some 22,some (21,false),(.fld 1 (.tmp 5))⟩,⟨some 23,some (21,false),(.load false 1 (.tmp 22))⟩,⟨some 24,some (21,false),(.bin .eql (.tmp 23) (.const (.int .u64 0)))⟩,⟨some 25,none,(.pick (.tmp 21) (.const (.bool true)) (.tmp 24))⟩]) (.cond (.tmp 25) (.seq (.region [⟨some 2,none,(.mov (.const (.int .i64 8)))⟩]) .ret) .skip)) (.region [⟨some 26,none,(.fld 0 (.tmp 5))⟩,⟨some 27,none,(.load false 1 (.tmp 26))⟩,⟨some 3,none,(.mov (.tmp 27))⟩])))) (.region [⟨some 28,none,(.bin .add (.tmp 8) (.const (.int .i64 1)))⟩,⟨some 8,none,(.mov (.tmp 28))⟩]))))
noncomputable def body15:ACode:=(.seq (.region [⟨some 2,none,(.mov (.const (.int .i64 0)))⟩]) (.seq (.region [⟨some 3,none,(.mov (.const (.int .i64 (-1))))⟩]) (.seq (.seq (.region [⟨some 6,none,(.mov (.tmp 0))⟩,⟨some 7,none,(.len (.tmp 6))⟩,⟨some 8,none,(.mov (.const (.int .i64 0)))⟩]) (.block 0 (.loop body15_0))) (.seq (.region [⟨some 2,none,(.mov (.const (.int .i64 0)))⟩]) .ret))))
set_option maxRecDepth 100000 in
theorem tab15:tb.code 15=some ⟨29,[(2,none)],body15⟩:=by kernel_rfl
theorem check_ok (h:AHeap) (v:Value) (s:List LWd) (k:SlW h v s) (hl:(s.length:Int)≤1000000000):
  WC Tryd.prog tb 15 [v] h fun r h'=>r=I (errW (zP (-1) s))∧Ext h h':=by
 refine WC.of (nostub 15) tab15 ?_;simp only[mkTm,Nat.zero_add,Nat.reduceAdd]
 refine go ?_
 refine WX.loopA [9,10,11,5,12,13,14,15,16,17,18,19,20,21,22,23,24,25,2,26,27,3,28,8] (by kernel_rfl) (fun i=>s.length - i) (fun i t h1=>Ext h h1∧zC t 8=I i∧i≤s.length∧∃ last:Int,zC t 3=I last∧Hid (zP (-1) s=zP last (s.drop i))) 0 ?_ ?_
 ·exact⟨Ext.refl _,sl_,Nat.zero_le _,-1,sl_,⟨rfl⟩⟩
 rintro i t h1 hsame ⟨e1,s8,hi,last,s3,hc⟩
 have k1:=SlW.ext k e1
 refine go ?_
 refine WX.br (fun hb=> ?_) (fun hb=> ?_)<;>simp only[DB]at hb
 ·have hi':i<s.length:=by omega
  obtain⟨cs,⟨rfl,w1,w2,w3⟩,pc,hs⟩:=wd_at k1 hi'
  have hd:=hc.out
  rw[drop_cons hi']at hd
  generalize s.getD i default=w at *
  have hd:=Hid.mk hd
  refine go ?_
  refine WO.al ?_
  intro p h2 e2 o2
  refine go ?_
  refine WO.stC0 (cs:=[I w.pos,W w.bits]) o2 e2 ?_
  intro h3 e3 o3 u3
  refine go ?_
  refine go ?_
  repeat' (first|(refine WX.br (fun hb=> ?_) (fun hb=> ?_)<;>(try simp only[DB]at hb)<;>refine go ?_)|(refine WO.sp (fun hb=> ?_) (fun hb=> ?_)<;>(try simp only[DB]at hb)<;>refine go ?_))
  ·refine rt ?_
   exact⟨by rw[hd.out,checkW_bad (.inl hb)];rfl,e1.trans e3⟩
  ·refine rt ?_
   exact⟨by rw[hd.out,checkW_bad (.inr (.inl hb))];rfl,e1.trans e3⟩
  ·refine rt ?_
   exact⟨by rw[hd.out,checkW_bad (.inr (.inr hb))];rfl,e1.trans e3⟩
  ·refine yC (i+1) (by omega) ⟨e1.trans e3,sln,by omega,w.pos,sl_,⟨?_⟩⟩
   rw[hd.out];exact checkW_good (by omega) (by omega) (by omega)
 ·refine go ?_
  refine rt ?_
  have:=hc.out
  rw[show i=s.length by omega,List.drop_length]at this
  exact⟨by rw[this];rfl,e1⟩
end Go.Proofs.YtejjibilgmlhdaaDoor
namespace Go.Proofs.YtejjibilgmlhdaaDoor
open Go.Am
set_option linter.unusedVariables false
set_option linter.unusedSimpArgs false
set_option maxHeartbeats 1000000
end Go.Proofs.YtejjibilgmlhdaaDoor
namespace Go.Proofs.YtejjibilgmlhdaaDoor
open Go.Am
set_option linter.unusedVariables false
set_option linter.unusedSimpArgs false
set_option maxHeartbeats 1000000
def sizeL (s:List LWd):Int:=((numsL s).length:Nat)
theorem numsL_cons (w:LWd) (s:List LWd):(numsL (w::s)).length=(bitsL w.bits).length+(numsL s).length:=by
 unfold numsL;simp
theorem bitsL_le (b:Nat):(bitsL b).length≤64:=by
 have:=List.length_filter_le b.testBit (List.range 64)
 rw[List.length_range]at this;exact this
noncomputable def body12_0:ACode:=(.seq (.region [⟨some 15,none,(.bin .lss (.tmp 14) (.tmp 13))⟩]) (.seq (.cond (.tmp 15) .skip (.exit 0)) (.seq (.block 1 (.seq (.region [⟨some 16,none,(.idx 2 (.tmp 12) (.tmp 14))⟩,⟨some 17,none,(.load true 2 (.tmp 16))⟩,⟨some 6,none,(.alloc [(.int .i64 0),(.int .u64 0)])⟩,⟨none,none,(.store 2 (.tmp 6) (.tmp 17))⟩]) (.region [⟨some 18,none,(.mov (.tmp 2))⟩,⟨some 19,none,(.fld 1 (.tmp 6))⟩,⟨some 20,none,(.load false 1 (.tmp 19))⟩,⟨some 21,none,(.call (.func 33) [(.tmp 20)])⟩,⟨some 22,none,(.bin .add (.tmp 18) (.tmp 21))⟩,⟨some 2,none,(.mov (.tmp 22))⟩]))) (.region [⟨some 23,none,(.bin .add (.tmp 14) (.const (.int .i64 1)))⟩,⟨some 14,none,(.mov (.tmp 23))⟩]))))
noncomputable def body12:ACode:=(.seq (.region [⟨some 2,none,(.mov (.const (.int .i64 0)))⟩,⟨some 3,none,(.mov (.const (.int .i64 0)))⟩]) (.seq (.seq (.region [⟨some 7,none,(.mov (.tmp 0))⟩,⟨some 8,none,(.call (.func 15) [(.tmp 7)])⟩,⟨some 4,none,(.mov (.tmp 8))⟩]) (.seq (.region [⟨some 9,none,(.mov (.tmp 4))⟩,⟨some 10,none,(.bin .neq (.tmp 9) (.const (.int .i64 0)))⟩]) (.cond (.tmp 10) (.seq (.region [⟨some 11,none,(.mov (.tmp 4))⟩,⟨some 2,none,(.mov (.const (.int .i64 0)))⟩,⟨some 3,none,(.mov (.tmp 11))⟩]) .ret) .skip))) (.seq (.seq (.region [⟨some 12,none,(.mov (.tmp 0))⟩,⟨some 13,none,(.len (.tmp 12))⟩,⟨some 14,none,(.mov (.const (.int .i64 0)))⟩]) (.block 0 (.loop body12_0))) (.seq (.region [⟨some 24,none,(.mov (.tmp 2))⟩,⟨some 2,none,(.mov (.tmp 24))⟩,⟨some 3,none,(.mov (.const (.int .i64 0)))⟩]) .ret))))
set_option maxRecDepth 100000 in
theorem tab12:tb.code 12=some ⟨25,[(2,none),(3,none)],body12⟩:=by kernel_rfl
theorem size_ok (h:AHeap) (v:Value) (s:List LWd) (k:SlW h v s) (hl:(s.length:Int)≤1000000000):
  WC Tryd.prog tb 12 [v] h fun r h'=>r= .tuple #[I (if zP (-1) s then sizeL s else 0),I (errW (zP (-1) s))]∧Ext h h':=by
 refine WC.of (nostub 12) tab12 ?_;simp only[mkTm,Nat.zero_add,Nat.reduceAdd]
 refine go ?_
 refine WO.con (check_ok h v s k hl) ?_
 rintro _ h1 ⟨rfl,e1⟩
 have k1:=SlW.ext k e1
 by_cases hc:zP (-1) s=true
 case neg=>
  have hc:zP (-1) s=false:=by simpa using hc
  rw[hc,show errW false=8 from rfl]
  refine go ?_
  refine rt ?_
  exact⟨rfl,e1⟩
 rw[hc,show errW true=0 from rfl]
 refine go ?_
 refine WX.loopA [15,16,17,6,18,19,20,21,22,2,23,14] (by kernel_rfl) (fun i=>s.length - i) (fun i t h2=>Ext h1 h2∧zC t 14=I i∧i≤s.length∧∃ q:Nat,zC t 2=I q∧q≤64 * i∧Hid (q+(numsL (s.drop i)).length=(numsL s).length)) 0 ?_ ?_
 ·exact⟨Ext.refl _,sl_,Nat.zero_le _,0,sl_,Nat.le_refl _,⟨by rw[List.drop_zero,Nat.zero_add]⟩⟩
 rintro i t h2 hsame ⟨e2,s14,hi,q,s2,hq,hc⟩
 have k2:=SlW.ext k1 e2
 refine go ?_
 refine WX.br (fun hb=> ?_) (fun hb=> ?_)<;>simp only[DB]at hb
 ·have hi':i<s.length:=by omega
  obtain⟨cs,⟨rfl,w1,w2,w3⟩,pc,hs⟩:=wd_at k2 hi'
  have hd:=hc.out
  rw[drop_cons hi',numsL_cons]at hd
  generalize s.getD i default=w at *
  have hd:=Hid.mk hd
  have hbl:=bitsL_le w.bits
  refine go ?_
  refine WO.al ?_
  intro p h3 e3 o3
  refine go ?_
  refine WO.stC0 (cs:=[I w.pos,W w.bits]) o3 e3 ?_
  intro h4 e4 o4 u4
  refine go ?_
  refine WO.con (ones_ok h4 w.bits w1) ?_
  rintro _ _ ⟨rfl,rfl⟩
  refine go ?_
  refine yC (i+1) (by omega) ⟨e2.trans e4,sln,by omega,q+(bitsL w.bits).length,sl_,by omega,⟨?_⟩⟩
  have:=hd.out;omega
 ·refine go ?_
  refine rt ?_
  have:=hc.out
  rw[show i=s.length by omega,List.drop_length,show (numsL []).length=0 from rfl,Nat.add_zero]at this
  exact⟨by rw[this];rfl,e1.trans e2⟩
end Go.Proofs.YtejjibilgmlhdaaDoor
namespace Go.Proofs.YtejjibilgmlhdaaDoor
open Go.Am
set_option linter.unusedVariables false
set_option linter.unusedSimpArgs false
set_option maxHeartbeats 1000000
abbrev OwnW (b:Nat) (h:AHeap) (v:Value) (s:List LWd):Prop:=OwnR 2 RW b h v s
theorem RW.dep {h:AHeap} {w:LWd} (h1:w.bits<18446744073709551616) (h2: -9223372036854775808≤w.pos) (h3:w.pos≤9223372036854775807) (D:Nat→Prop):Dep RW h [I w.pos,W w.bits] w D:=
 fun _ _ _=>⟨rfl,h1,h2,h3⟩
def DoOk (fv:Value) (f:Nat→Nat→Nat):Prop:=∀ (h:AHeap) (a b:Nat),a<18446744073709551616→b<18446744073709551616→WV Tryd.prog tb fv [W a,W b] h fun r h'=>r=W (f a b)∧h=h'
noncomputable def body45:ACode:=(.seq (.region [⟨some 1,none,(.box (.tmp 0))⟩,⟨some 2,none,(.mov (.const (.int .i64 0)))⟩]) (.seq (.region [⟨some 3,none,(.fld 0 (.tmp 1))⟩,⟨some 4,none,(.load false 1 (.tmp 3))⟩,⟨some 2,none,(.mov (.tmp 4))⟩]) .ret))
set_option maxRecDepth 100000 in
theorem tab45:tb.code 45=some ⟨5,[(2,none)],body45⟩:=by kernel_rfl
theorem both1_ok (h:AHeap) (w:LWd):WC Tryd.prog tb 45 [.agg #[I w.pos,W w.bits]] h fun r h'=>r=I w.pos∧Ext h h':=by
 refine WC.of (nostub 45) tab45 ?_;simp only[mkTm,Nat.zero_add,Nat.reduceAdd]
 refine go ?_
 refine WO.bx ?_
 intro p h1 e1 o1
 refine go ?_
 refine rt ?_
 exact⟨rfl,e1⟩
def putL (p:Int) (v:Nat) (out:List LWd):List LWd:=if v=0 then out else out++[⟨p,v⟩]
theorem putL_putW (p:Int) (v:Nat) (out s:List LWd):putL p v out++s=out++putW p v s:=by
 unfold putL putW;split<;>simp
structure PutS (hB h:AHeap) (b:Nat) (p5 p6 fv:Value) (out:List LWd):Prop where
 e:Ext hB h
 o5:OwnC hB h p5 [fv]
 bb:hB.n≤b∧b≤h.n
 p5b:∀ g,p5= .pointer (some ⟨g,0,none⟩)→g<b
 p6b:∀ g,p6= .pointer (some ⟨g,0,none⟩)→g<b
 ne:p5≠p6
 v:∃ v,OwnC hB h p6 [v]∧OwnW b h v out
theorem ownC_keepB {hB h h':AHeap} {p:Value} {cells:List Value} {b vn vk:Nat} {va:Option Addr} (o:OwnC hB h p cells) (hb:∀ g,p= .pointer (some ⟨g,0,none⟩)→g<b) (hv:∀ g,va=some ⟨g,0,none⟩→b≤g)
  (keep:∀ k,k<h.n→(∀ n k',Value.slice va vn vk≠ .slice (some ⟨k,0,none⟩) n k')→h'.get k=h.get k) (hn:h.n≤h'.n):OwnC hB h' p cells:=by
 obtain⟨g,g1,g2,rfl,g4⟩:=o
 refine⟨g,g1,Nat.lt_of_lt_of_le g2 hn,rfl,(keep g g2 fun n k' e=> ?_).trans g4⟩
 cases e
 have h1:=hb g rfl
 have h2:=hv g rfl
 omega
theorem ownC_keepU {hB h h':AHeap} {p q:Value} {cells:List Value} (o:OwnC hB h p cells) (u:UpdC q h h') (hne:p≠q):OwnC hB h' p cells:=by
 obtain⟨g,g1,g2,rfl,g4⟩:=o
 exact⟨g,g1,Nat.lt_of_lt_of_le g2 u.1,rfl,(u.2 g g2 fun e=>hne e.symm).trans g4⟩
theorem ownR_shape {α:Type} {c b:Nat} {R:AHeap→List Value→α→Prop} {h:AHeap} {v:Value} {xs:List α} (ow:OwnR c R b h v xs):∃ a n k,v= .slice a n k∧∀ g,a=some ⟨g,0,none⟩→b≤g∧g<h.n:=by
 rcases ow with ⟨rfl,_⟩|⟨g,_,_,g1,g2,rfl,_⟩
 ·exact⟨_,_,_,rfl,fun g e=>by cases e⟩
 ·exact⟨_,_,_,rfl,fun g' e=>by cases e;exact⟨g1,g2⟩⟩
noncomputable def body46:ACode:=(.seq (.region [⟨some 5,none,(.box (.tmp 0))⟩,⟨some 6,none,(.box (.tmp 1))⟩]) (.seq (.region [⟨some 9,none,(.load false 1 (.tmp 3))⟩,⟨some 10,none,(.fld 1 (.tmp 5))⟩,⟨some 11,none,(.load false 1 (.tmp 10))⟩,⟨some 12,none,(.fld 1 (.tmp 6))⟩,⟨some 13,none,(.load false 1 (.tmp 12))⟩,⟨some 14,none,(.call (.tmp 9) [(.tmp 11),(.tmp 13)])⟩,⟨some 8,none,(.mov (.tmp 14))⟩]) (.seq (.region [⟨some 15,none,(.mov (.tmp 8))⟩,⟨some 16,none,(.bin .neq (.tmp 15) (.const (.int .u64 0)))⟩]) (.cond (.tmp 16) (.region [⟨some 17,none,(.load false 1 (.tmp 4))⟩,⟨some 18,none,(.mov (.tmp 2))⟩,⟨some 19,none,(.mov (.tmp 8))⟩,⟨some 20,none,(.build [(.int .i64 0),(.int .u64 0)] [(0,1,(.tmp 18)),(1,1,(.tmp 19))])⟩,⟨some 21,none,(.buildSlice 1 2 [(.int .i64 0),(.int .u64 0)] [(0,2,(.tmp 20))])⟩,⟨some 22,none,(.append 2 (.tmp 17) (.tmp 21))⟩,⟨none,none,(.store 1 (.tmp 4) (.tmp 22))⟩]) .skip))))
set_option maxRecDepth 100000 in
theorem tab46:tb.code 46=some ⟨23,[],body46⟩:=by kernel_rfl
theorem both2_ok (hB h:AHeap) (b:Nat) (p5 p6 fv:Value) (f:Nat→Nat→Nat) (hf:DoOk fv f) (out:List LWd) (x y:LWd) (at':Int) (S:PutS hB h b p5 p6 fv out) (hx:x.bits<18446744073709551616) (hy:y.bits<18446744073709551616) (hl:out.length≤100000)
  (hz:f x.bits y.bits<18446744073709551616) (ha: -9223372036854775808≤at'∧at'≤9223372036854775807) (hm:h.mark≤h.n):
  WC Tryd.prog tb 46 [.agg #[I x.pos,W x.bits],.agg #[I y.pos,W y.bits],I at',p5,p6] h fun r h'=>PutS hB h' b p5 p6 fv (putL at' (f x.bits y.bits) out)∧h.n≤h'.n∧(∀ k∈h'.wr,k∈h.wr∨hB.n≤k)∧
   (∀ p cells,OwnC hB h p cells→p≠p6→(∀ g,p= .pointer (some ⟨g,0,none⟩)→g<b)→OwnC hB h' p cells):=by
 obtain⟨e0,o5,⟨b1,b2⟩,h5,h6,hne,v,o6,ow⟩:=S
 obtain⟨va,vn,vk,rfl,hvn⟩:=ownR_shape ow
 refine WC.of (nostub 46) tab46 ?_;simp only[mkTm,Nat.zero_add,Nat.reduceAdd]
 refine go ?_
 refine WO.bx ?_
 intro p3 h1 e1 o3
 refine go ?_
 refine WO.bx ?_
 intro p4 h2 e2 o4
 have o3:=o3.ext e2
 have o5':=o5.ext (e1.trans e2)
 have o6':=o6.ext (e1.trans e2)
 have ow':=OwnR.ext ow (e1.trans e2)
 have e02:=e0.trans (e1.trans e2)
 have hn12:=(e1.trans e2).n
 refine go ?_
 refine WO.conV (hf h2 x.bits y.bits hx hy) ?_
 rintro _ _ ⟨rfl,rfl⟩
 have hw12:h2.wr=h.wr:=(e1.trans e2).wr hm
 refine go ?_
 refine WX.br (fun hc=> ?_) (fun hc=> ?_)<;>simp only[DB]at hc
 ·refine go ?_
  refine WO.apRw (b:=b) (R:=RW) (h:=h2) ⟨at',f x.bits y.bits⟩ (fun _=>False) ow' e02 b1 (by omega) (by decide) hl (RW.dep hz ha.1 ha.2 _) (fun k hk=>hk.elim) (fun _ _ _ _ h=>h) ?_
  intro v' h3 lit e3 ow3 n3 keep3 w3
  obtain⟨va',vn',vk',rfl,hvn'⟩:=ownR_shape ow3
  have hvb:∀ g,va=some ⟨g,0,none⟩→b≤g:=fun g e=>(hvn g e).1
  have o6'':OwnC hB h3 p6 [.slice va vn vk]:=ownC_keepB o6' h6 hvb keep3 n3
  refine go ?_
  refine WO.stC0w (cs:=[.slice va' vn' vk']) o6'' e3 ?_
  intro h4 e4 o4' u4 w4
  refine go ?_
  refine rtN ?_
  refine⟨⟨e4,ownC_keepU (ownC_keepB o5' h5 hvb keep3 n3) u4 hne,⟨b1,by have:=u4.1;omega⟩,h5,h6,hne,_,o4',?_⟩,by have:=u4.1;omega,fun k hk=> ?_,fun p cells o hp hpb=>ownC_keepU (ownC_keepB (o.ext (e1.trans e2)) hpb hvb keep3 n3) u4 hp⟩
  ·unfold putL
   rw[if_neg (by omega)]
   refine OwnR.upd ow3 (fun k k1 k2=>u4.2 k k2 fun e=> ?_) u4.1
   have:=h6 k e;omega
  ·rcases w4 k hk with h|h
   ·rcases w3 k h with h|h
    ·rw[hw12]at h;exact .inl h
    ·exact .inr (by omega)
   ·exact .inr h
 ·refine go ?_
  refine rtN ?_
  refine⟨⟨e02,o5',⟨b1,by omega⟩,h5,h6,hne,_,o6',?_⟩,hn12,fun k hk=> ?_,fun p cells o _ _=>o.ext (e1.trans e2)⟩
  ·unfold putL
   rw[if_pos (by omega)];exact ow'
  ·rw[hw12]at hk;exact .inl hk
theorem PutS.enter {hB h X:AHeap} {b:Nat} {p5 p6 fv:Value} {out:List LWd} (S:PutS hB h b p5 p6 fv out) (e:Ext (inC (zH 0 h)) X):PutS {hB with mark:=X.n,wr:=[]} (inC X) b p5 p6 fv out:=by
 obtain⟨e0,o5,⟨b1,b2⟩,h5,h6,hne,v,o6,ow⟩:=S
 have o5:OwnC hB X p5 [fv]:=OwnC.ext (h:=inC (zH 0 h)) o5 e
 have o6:OwnC hB X p6 [v]:=OwnC.ext (h:=inC (zH 0 h)) o6 e
 have ow:OwnW b X v out:=OwnR.upd ow (fun k _ hk=>e.get k hk) e.n
 have hn:h.n≤X.n:=e.n
 refine⟨⟨Nat.le_trans e0.n hn,fun g hg=>(e.get g (Nat.lt_of_lt_of_le hg e0.n)).trans (e0.get g hg),fun w=>e.wf (e0.wf w),rfl,fun _=>rfl⟩,o5,⟨b1,Nat.le_trans b2 hn⟩,h5,h6,hne,v,o6,OwnR.upd ow (fun _ _ _=>rfl) (Nat.le_refl _)⟩
theorem PutS.leave {hB h h':AHeap} {b m:Nat} {p5 p6 fv:Value} {out:List LWd} (S:PutS {hB with mark:=m,wr:=[]} h' b p5 p6 fv out) (e:Ext hB h):PutS hB (outC h h') b p5 p6 fv out:=by
 obtain⟨e0,o5,⟨b1,b2⟩,h5,h6,hne,v,o6,ow⟩:=S
 exact⟨⟨e0.n,e0.get,fun w=>e0.wf w,e.mark,fun hm=>e.wr hm⟩,o5,⟨b1,b2⟩,h5,h6,hne,v,o6,OwnR.upd ow (fun _ _ _=>rfl) (Nat.le_refl _)⟩
theorem merge_a {f:Nat→Nat→Nat} {A B:List LWd} (hA:0<A.length) (h:B.length=0∨(A.getD 0 default).pos<(B.getD 0 default).pos):zF f A B=putW (A.getD 0 default).pos (f (A.getD 0 default).bits 0) (zF f (A.drop 1) B):=by
 cases A with
 |nil=>simp at hA
 |cons x a=>
  cases B with
  |nil=>rw[zF];rfl
  |cons y b=>
   have h:x.pos<y.pos:=h.resolve_left (by simp)
   rw[zF,if_pos h];rfl
theorem merge_b {f:Nat→Nat→Nat} {A B:List LWd} (hB:0<B.length) (h:A.length=0∨(B.getD 0 default).pos<(A.getD 0 default).pos):zF f A B=putW (B.getD 0 default).pos (f 0 (B.getD 0 default).bits) (zF f A (B.drop 1)):=by
 cases B with
 |nil=>simp at hB
 |cons y b=>
  cases A with
  |nil=>rw[zF];rfl
  |cons x a=>
   have h:y.pos<x.pos:=h.resolve_left (by simp)
   rw[zF,if_neg (by omega),if_pos h];rfl
theorem merge_c {f:Nat→Nat→Nat} {A B:List LWd} (hA:0<A.length) (hB:0<B.length) (h:(A.getD 0 default).pos=(B.getD 0 default).pos):zF f A B=putW (A.getD 0 default).pos (f (A.getD 0 default).bits (B.getD 0 default).bits) (zF f (A.drop 1) (B.drop 1)):=by
 cases A with
 |nil=>simp at hA
 |cons x a=>
  cases B with
  |nil=>simp at hB
  |cons y b=>
   have h:x.pos=y.pos:=h
   rw[zF,if_neg (by omega),if_neg (by omega)];rfl
theorem putL_len {p:Int} {v:Nat} {out:List LWd}:(putL p v out).length≤out.length+1:=by
 unfold putL;split<;>simp
theorem ext_reg {h h':AHeap} (e:Ext (inC (zH 0 h)) h'):Ext h (outC h (inC h')):=⟨e.n,e.get,fun w=>e.wf w,rfl,fun _=>rfl⟩
theorem ext_reg2 {h h' h2:AHeap} (e:Ext (inC (zH 0 h)) h') (e2:Ext (inC h') h2):Ext h (outC h (inC h2)):=⟨Nat.le_trans e.n e2.n,fun g hg=>(e2.get g (Nat.lt_of_lt_of_le hg e.n)).trans (e.get g hg),fun w=>e2.wf (e.wf w),rfl,fun _=>rfl⟩
theorem PutS.ext {hB h h':AHeap} {b:Nat} {p5 p6 fv:Value} {out:List LWd} (S:PutS hB h b p5 p6 fv out) (e:Ext h h'):PutS hB h' b p5 p6 fv out:=by
 obtain⟨e0,o5,⟨b1,b2⟩,h5,h6,hne,v,o6,ow⟩:=S
 exact⟨e0.trans e,o5.ext e,⟨b1,Nat.le_trans b2 e.n⟩,h5,h6,hne,v,o6.ext e,OwnR.ext ow e⟩
theorem out_in (h:AHeap):outC h (inC (zH 0 h))=h:=rfl
noncomputable def body44_0:ACode:=(.seq (.seq (.region [⟨some 9,none,(.mov (.tmp 0))⟩,⟨some 10,none,(.len (.tmp 9))⟩,⟨some 11,none,(.bin .gtr (.tmp 10) (.const (.int .i64 0)))⟩,⟨some 12,none,(.mov (.tmp 11))⟩,⟨some 13,some (12,false),(.mov (.tmp 1))⟩,⟨some 14,some (12,false),(.len (.tmp 13))⟩,⟨some 15,some (12,false),(.bin .gtr (.tmp 14) (.const (.int .i64 0)))⟩,⟨some 16,none,(.pick (.tmp 12) (.const (.bool true)) (.tmp 15))⟩]) (.cond (.tmp 16) .skip (.exit 0))) (.block 1 (.block 2 (.seq (.regionC [(⟨some 35,none,(.mov (.tmp 1))⟩,[]),(⟨some 36,none,(.len (.tmp 35))⟩,[]),(⟨some 37,none,(.bin .eql (.tmp 36) (.const (.int .i64 0)))⟩,[]),(⟨some 38,none,(.mov (.tmp 37))⟩,[]),(⟨some 39,some (38,false),(.mov (.tmp 0))⟩,[]),(⟨some 40,some (38,false),(.len (.tmp 39))⟩,[]),(⟨some 41,some (38,false),(.bin .gtr (.tmp 40) (.const (.int .i64 0)))⟩,[]),(⟨some 42,some (38,false),(.mov (.tmp 41))⟩,[]),(⟨some 43,some (42,true),(.mov (.tmp 2))⟩,[]),(⟨some 44,some (42,true),(.mov (.tmp 0))⟩,[]),(⟨some 45,some (42,true),(.idx 2 (.tmp 44) (.const (.int .i64 0)))⟩,[]),(⟨some 46,some (42,true),(.load true 2 (.tmp 45))⟩,[]),(⟨some 47,some (42,true),(.call (.tmp 43) [(.tmp 46)])⟩,[]),(⟨some 48,some (42,true),(.mov (.tmp 2))⟩,[]),(⟨some 49,some (42,true),(.mov (.tmp 1))⟩,[]),(⟨some 50,some (42,true),(.idx 2 (.tmp 49) (.const (.int .i64 0)))⟩,[]),(⟨some 51,some (42,true),(.load true 2 (.tmp 50))⟩,[12]),(⟨some 52,some (42,true),(.call (.tmp 48) [(.tmp 51)])⟩,[]),(⟨some 53,some (42,true),(.bin .lss (.tmp 47) (.tmp 52))⟩,[]),(⟨some 54,some (38,false),(.pick (.tmp 42) (.tmp 53) (.const (.bool false)))⟩,[]),(⟨some 55,none,(.pick (.tmp 38) (.const (.bool true)) (.tmp 54))⟩,[]),(⟨some 34,none,(.mov (.tmp 55))⟩,[])]) (.cond (.tmp 34) (.seq (.regionC [(⟨some 56,none,(.mov (.tmp 3))⟩,[]),(⟨some 57,none,(.mov (.tmp 0))⟩,[]),(⟨some 58,none,(.idx 2 (.tmp 57) (.const (.int .i64 0)))⟩,[]),(⟨some 59,none,(.load true 2 (.tmp 58))⟩,[]),(⟨some 60,none,(.load true 2 (.tmp 8))⟩,[]),(⟨some 61,none,(.mov (.tmp 2))⟩,[]),(⟨some 62,none,(.mov (.tmp 0))⟩,[]),(⟨some 63,none,(.idx 2 (.tmp 62) (.const (.int .i64 0)))⟩,[]),(⟨some 64,none,(.load true 2 (.tmp 63))⟩,[]),(⟨some 65,none,(.call (.tmp 61) [(.tmp 64)])⟩,[3,4]),(⟨some 66,none,(.call (.tmp 56) [(.tmp 59),(.tmp 60),(.tmp 65)])⟩,[])]) (.region [⟨some 67,none,(.mov (.tmp 0))⟩,⟨some 68,none,(.slice 2 (.tmp 67) (some (.const (.int .i64 1))) none none)⟩,⟨some 0,none,(.mov (.tmp 68))⟩])) (.seq (.regionC [(⟨some 70,none,(.mov (.tmp 0))⟩,[]),(⟨some 71,none,(.len (.tmp 70))⟩,[]),(⟨some 72,none,(.bin .eql (.tmp 71) (.const (.int .i64 0)))⟩,[]),(⟨some 73,none,(.mov (.tmp 72))⟩,[]),(⟨some 74,some (73,false),(.mov (.tmp 2))⟩,[]),(⟨some 75,some (73,false),(.mov (.tmp 1))⟩,[]),(⟨some 76,some (73,false),(.idx 2 (.tmp 75) (.const (.int .i64 0)))⟩,[]),(⟨some 77,some (73,false),(.load true 2 (.tmp 76))⟩,[]),(⟨some 78,some (73,false),(.call (.tmp 74) [(.tmp 77)])⟩,[]),(⟨some 79,some (73,false),(.mov (.tmp 2))⟩,[]),(⟨some 80,some (73,false),(.mov (.tmp 0))⟩,[]),(⟨some 81,some (73,false),(.idx 2 (.tmp 80) (.const (.int .i64 0)))⟩,[]),(⟨some 82,some (73,false),(.load true 2 (.tmp 81))⟩,[8]),(⟨some 83,some (73,false),(.call (.tmp 79) [(.tmp 82)])⟩,[]),(⟨some 84,some (73,false),(.bin .lss (.tmp 78) (.tmp 83))⟩,[]),(⟨some 85,none,(.pick (.tmp 73) (.const (.bool true)) (.tmp 84))⟩,[]),(⟨some 69,none,(.mov (.tmp 85))⟩,[])]) (.cond (.tmp 69) (.seq (.regionC [(⟨some 86,none,(.mov (.tmp 3))⟩,[]),(⟨some 87,none,(.load true 2 (.tmp 8))⟩,[]),(⟨some 88,none,(.mov (.tmp 1))⟩,[]),(⟨some 89,none,(.idx 2 (.tmp 88) (.const (.int .i64 0)))⟩,[]),(⟨some 90,none,(.load true 2 (.tmp 89))⟩,[]),(⟨some 91,none,(.mov (.tmp 2))⟩,[]),(⟨some 92,none,(.mov (.tmp 1))⟩,[]),(⟨some 93,none,(.idx 2 (.tmp 92) (.const (.int .i64 0)))⟩,[]),(⟨some 94,none,(.load true 2 (.tmp 93))⟩,[]),(⟨some 95,none,(.call (.tmp 91) [(.tmp 94)])⟩,[1,4]),(⟨some 96,none,(.call (.tmp 86) [(.tmp 87),(.tmp 90),(.tmp 95)])⟩,[])]) (.region [⟨some 97,none,(.mov (.tmp 1))⟩,⟨some 98,none,(.slice 2 (.tmp 97) (some (.const (.int .i64 1))) none none)⟩,⟨some 1,none,(.mov (.tmp 98))⟩])) (.seq (.regionC [(⟨some 17,none,(.mov (.tmp 3))⟩,[]),(⟨some 18,none,(.mov (.tmp 0))⟩,[]),(⟨some 19,none,(.idx 2 (.tmp 18) (.const (.int .i64 0)))⟩,[]),(⟨some 20,none,(.load true 2 (.tmp 19))⟩,[]),(⟨some 21,none,(.mov (.tmp 1))⟩,[]),(⟨some 22,none,(.idx 2 (.tmp 21) (.const (.int .i64 0)))⟩,[]),(⟨some 23,none,(.load true 2 (.tmp 22))⟩,[]),(⟨some 24,none,(.mov (.tmp 2))⟩,[]),(⟨some 25,none,(.mov (.tmp 0))⟩,[]),(⟨some 26,none,(.idx 2 (.tmp 25) (.const (.int .i64 0)))⟩,[]),(⟨some 27,none,(.load true 2 (.tmp 26))⟩,[]),(⟨some 28,none,(.call (.tmp 24) [(.tmp 27)])⟩,[3,6]),(⟨some 29,none,(.call (.tmp 17) [(.tmp 20),(.tmp 23),(.tmp 28)])⟩,[])]) (.regionC [(⟨some 30,none,(.mov (.tmp 0))⟩,[]),(⟨some 31,none,(.slice 2 (.tmp 30) (some (.const (.int .i64 1))) none none)⟩,[]),(⟨some 32,none,(.mov (.tmp 1))⟩,[]),(⟨some 33,none,(.slice 2 (.tmp 32) (some (.const (.int .i64 1))) none none)⟩,[]),(⟨some 0,none,(.mov (.tmp 31))⟩,[]),(⟨some 1,none,(.mov (.tmp 33))⟩,[])])))))))))
noncomputable def body44:ACode:=(.seq (.region [⟨some 8,none,(.alloc [(.int .i64 0),(.int .u64 0)])⟩]) (.block 0 (.loop body44_0)))
set_option maxRecDepth 100000 in
theorem tab44:tb.code 44=some ⟨99,[],body44⟩:=by kernel_rfl
theorem merge_ok (hB h:AHeap) (va vb p5 p6 fv:Value) (f:Nat→Nat→Nat) (hf:DoOk fv f) (hfz:∀ x y,x<18446744073709551616→y<18446744073709551616→f x y<18446744073709551616) (A B:List LWd) (ka:SlW hB va A) (kb:SlW hB vb B) (la:A.length≤1000) (lb:B.length≤1000)
  (e:Ext hB h) (hm:hB.mark≤hB.n) (o5:OwnC hB h p5 [fv]) (o6:OwnC hB h p6 [.slice none 0 0]) (hne:p5≠p6):
  WC Tryd.prog tb 44 [va,vb,.func (.func 45) #[] #[],.func (.func 46) #[] #[p5,p6]] h fun r h'=>Ext hB h'∧∃ v b,hB.n≤b∧OwnC hB h' p6 [v]∧OwnW b h' v (zF f A B)∧∀ g,p6= .pointer (some ⟨g,0,none⟩)→g<b:=by
 refine WC.of (nostub 44) tab44 ?_;simp only[mkTm,Nat.zero_add,Nat.reduceAdd]
 refine go ?_
 refine WO.al ?_
 intro p8 h0 e0 o8
 refine go ?_
 obtain⟨g8,g81,g82,rfl,g84⟩:=id o8
 have o8:=o8.since e
 have S0:PutS hB h0 h0.n p5 p6 fv []:=⟨e.trans e0,o5.ext e0,⟨(e.trans e0).n,Nat.le_refl _⟩,fun g eg=>by
  obtain⟨g',_,a,b,_⟩:=o5;rw[b]at eg;cases eg;have:=e0.n;omega,fun g eg=>by
  obtain⟨g',_,a,b,_⟩:=o6;rw[b]at eg;cases eg;have:=e0.n;omega,hne,_,o6.ext e0,OwnR.nil⟩
 have h86:Value.pointer (some ⟨g8,0,none⟩)≠p6:=fun eq=>by
  obtain⟨g',_,a,b,_⟩:=o6;rw[b]at eq;cases eq;omega
 have hb8:∀ g,Value.pointer (some ⟨g8,0,none⟩)= .pointer (some ⟨g,0,none⟩)→g<h0.n:=fun g eg=>by cases eg;exact g82
 generalize hbb:h0.n=bb at S0 hb8
 generalize Value.pointer (some ⟨g8,0,none⟩)=p8 at *
 clear e0 g81 g82 g84 o5 o6
 refine WX.loopA [9,10,11,12,13,14,15,16,35,36,37,38,39,40,41,42,43,44,45,46,47,48,49,50,51,52,53,54,55,34,56,57,58,59,60,61,62,63,64,65,66,67,68,0,70,71,72,73,74,75,76,77,78,79,80,81,82,83,84,85,69,86,87,88,89,90,91,92,93,94,95,96,97,98,1,17,18,19,20,21,22,23,24,25,26,27,28,29,30,31,32,33,0,1] (by kernel_rfl) (fun p:List LWd×List LWd=>p.1.length+p.2.length) (fun p t h1=>∃ va' vb' out,zC t 0=va'∧zC t 1=vb'∧SlW hB va' p.1∧SlW hB vb' p.2∧PutS hB h1 bb p5 p6 fv out∧OwnC hB h1 p8 [I 0,W 0]∧Hid (zF f A B=out++zF f p.1 p.2)∧p.1.length≤1000∧p.2.length≤1000∧out.length+(p.1.length+p.2.length)≤2000) (A,B) ?_ ?_
 ·exact⟨va,vb,[],sl_,sl_,ka,kb,S0,o8,⟨rfl⟩,la,lb,by simp only[List.length_nil];omega⟩
 clear S0 o8 ka kb la lb
 rintro⟨a,b⟩ t h1 hsame ⟨va',vb',out,s0,s1,ka,kb,S,o8,hI,la,lb,lo⟩
 simp only at ka kb hI la lb lo
 have e1:=S.e
 have ka1:=SlW.ext ka e1
 have kb1:=SlW.ext kb e1
 have hm1:h1.mark≤h1.n:=by have:=e1.mark;have:=e1.n;omega
 have hmB:h1.mark≤hB.n:=by have:=e1.mark;omega
 by_cases hA:0<a.length
 case neg=>
  by_cases hBl:0<b.length
  case neg=>
   refine go ?_
   refine rtN ?_
   obtain⟨e1,o5,⟨b1,b2⟩,h5,h6,hne,v,o6,ow⟩:=S
   have:zF f a b=[]:=by
    have ha:a=[]:=List.eq_nil_of_length_eq_zero (by omega)
    have hb:b=[]:=List.eq_nil_of_length_eq_zero (by omega)
    subst ha hb;rw[zF]
   rw[hI.out,this,List.append_nil]
   exact⟨e1,v,bb,b1,o6,ow,h6⟩
  have hmg:=merge_b (f:=f) hBl (.inl (by omega:a.length=0))
  have kaX:SlW (inC (zH 0 h1)) va' a:=ka1
  have kbX:SlW (inC (zH 0 h1)) vb' b:=kb1
  have o8X:OwnC hB (inC (zH 0 h1)) p8 [I 0,W 0]:=o8
  obtain⟨cb,⟨rfl,y1,y2,y3⟩,pcb,hsb⟩:=slr_atX kb1 hBl
  have pcbX:=(pcb _ (Ext.refl _)).2
  have pcbX:Piece (inC (zH 0 h1)) vb' (0 * 2) [I (b.getD 0 default).pos,W (b.getD 0 default).bits]:=pcbX
  obtain⟨qa,qn,qk,hqv,hqb⟩:=slr_block (i:=0) kb1 hBl
  generalize b.getD 0 default=y at *
  have hI:=hI.out.trans (congrArg (out++·) hmg)
  have hI:=Hid.mk hI
  clear hmg
  refine go ?_
  refine WX.regionU2 0 rfl rfl ?_
  refine goU ?_
  refine uK2_gT ?_
  refine goU ?_
  rw[out_in]
  refine WX.regionU2 0 rfl rfl ?_
  refine goU ?_
  refine uK2_gF ?_
  refine goU ?_
  rw[out_in]
  refine WX.regionU2 0 rfl rfl ?_
  refine goU ?_
  refine WO.conV (WV.func (both1_ok _ y)) ?_
  rintro _ h2 ⟨rfl,e2⟩
  refine WO.nil ?_
  refine uK2_e e2 yG ?_
  have S2:=S.enter e2
  refine goU ?_
  refine WO.conV (WV.func (both2_ok _ (inC h2) bb p5 p6 fv f hf out ⟨0,0⟩ y y.pos S2 (by decide) y1 (by omega) (hfz _ _ (by decide) y1) ⟨y2,y3⟩ (Nat.le_refl _))) ?_
  rintro _ h3 ⟨S3,n3,w3,f3⟩
  refine WO.nil ?_
  refine uK2_w (fun k hk=> ?_) n3 ?_
  ·rcases w3 k hk with h|h
   ·cases h
   ·have h:hB.n≤k:=h
    omega
  have S4:=S3.leave e1
  have o84:OwnC hB (outC h1 h3) p8 [I 0,W 0]:=f3 p8 _ (by have:=OwnC.ext (h:=inC (zH 0 h1)) o8 e2;exact this) h86 hb8
  generalize outC h1 h3=h4 at S4 o84 ⊢
  obtain⟨vb2,hsl,kb2⟩:=slr_tail (i:=1) kb hBl (by omega)
  refine goU ?_
  refine WO.slLo (i:=1) (hy:=rfl) hsl ?_
  refine go ?_
  have hpl:=putL_len (p:=y.pos) (v:=f 0 y.bits) (out:=out)
  have hdl:(b.drop 1).length=b.length - 1:=List.length_drop ..
  refine yC (a,b.drop 1) (by simp only;omega) ⟨va',vb2,_,sl_,sl_,ka,kb2,S4,o84,⟨?_⟩,la,by simp only;omega,by simp only;omega⟩
  rw[putL_putW];exact hI.out
 by_cases hBl:0<b.length
 case neg=>
  have hmg:=merge_a (f:=f) hA (.inl (by omega:b.length=0))
  have kaX:SlW (inC (zH 0 h1)) va' a:=ka1
  have kbX:SlW (inC (zH 0 h1)) vb' b:=kb1
  have o8X:OwnC hB (inC (zH 0 h1)) p8 [I 0,W 0]:=o8
  obtain⟨ca,⟨rfl,y1,y2,y3⟩,pca,hsa⟩:=slr_atX ka1 hA
  have pcaX:=(pca _ (Ext.refl _)).2
  have pcaX:Piece (inC (zH 0 h1)) va' (0 * 2) [I (a.getD 0 default).pos,W (a.getD 0 default).bits]:=pcaX
  generalize a.getD 0 default=y at *
  have hI:=hI.out.trans (congrArg (out++·) hmg)
  have hI:=Hid.mk hI
  clear hmg
  refine go ?_
  refine WX.regionU2 0 rfl rfl ?_
  refine goU ?_
  refine uK2_gU ?_
  refine goU ?_
  rw[out_in]
  refine WX.regionU2 0 rfl rfl ?_
  refine goU ?_
  refine WO.conV (WV.func (both1_ok _ y)) ?_
  rintro _ h2 ⟨rfl,e2⟩
  refine WO.nil ?_
  refine uK2_e e2 yG ?_
  have S2:=S.enter e2
  refine goU ?_
  refine WO.conV (WV.func (both2_ok _ (inC h2) bb p5 p6 fv f hf out y ⟨0,0⟩ y.pos S2 y1 (by decide) (by omega) (hfz _ _ y1 (by decide)) ⟨y2,y3⟩ (Nat.le_refl _))) ?_
  rintro _ h3 ⟨S3,n3,w3,f3⟩
  refine WO.nil ?_
  refine uK2_w (fun k hk=> ?_) n3 ?_
  ·rcases w3 k hk with h|h
   ·cases h
   ·have h:hB.n≤k:=h
    omega
  have S4:=S3.leave e1
  have o84:OwnC hB (outC h1 h3) p8 [I 0,W 0]:=f3 p8 _ (by have:=OwnC.ext (h:=inC (zH 0 h1)) o8 e2;exact this) h86 hb8
  generalize outC h1 h3=h4 at S4 o84 ⊢
  obtain⟨va2,hsl,ka2⟩:=slr_tail (i:=1) ka hA (by omega)
  refine goU ?_
  refine WO.slLo (i:=1) (hy:=rfl) hsl ?_
  refine go ?_
  have hpl:=putL_len (p:=y.pos) (v:=f y.bits 0) (out:=out)
  have hdl:(a.drop 1).length=a.length - 1:=List.length_drop ..
  refine yC (a.drop 1,b) (by simp only;omega) ⟨va2,vb',_,sl_,sl_,ka2,kb,S4,o84,⟨?_⟩,by simp only;omega,lb,by simp only;omega⟩
  rw[putL_putW];exact hI.out
 have kaX:SlW (inC (zH 0 h1)) va' a:=ka1
 have kbX:SlW (inC (zH 0 h1)) vb' b:=kb1
 have o8X:OwnC hB (inC (zH 0 h1)) p8 [I 0,W 0]:=o8
 obtain⟨ca,⟨rfl,x1,x2,x3⟩,pca,hsa⟩:=slr_atX ka1 hA
 have pcaX:=(pca _ (Ext.refl _)).2
 have pcaX:Piece (inC (zH 0 h1)) va' (0 * 2) [I (a.getD 0 default).pos,W (a.getD 0 default).bits]:=pcaX
 obtain⟨cb,⟨rfl,y1,y2,y3⟩,pcb,hsb⟩:=slr_atX kb1 hBl
 have pcbX:=(pcb _ (Ext.refl _)).2
 have pcbX:Piece (inC (zH 0 h1)) vb' (0 * 2) [I (b.getD 0 default).pos,W (b.getD 0 default).bits]:=pcbX
 obtain⟨qa,qn,qk,hqv,hqb⟩:=slr_block (i:=0) kb1 hBl
 obtain⟨ra,rn,rk,hrv,hrb⟩:=slr_block (i:=0) ka1 hA
 have hma:=fun h=>merge_a (f:=f) hA (.inr h:b.length=0∨(a.getD 0 default).pos<(b.getD 0 default).pos)
 have hmb:=fun h=>merge_b (f:=f) hBl (.inr h:a.length=0∨(b.getD 0 default).pos<(a.getD 0 default).pos)
 have hmc:=merge_c (f:=f) hA hBl
 generalize a.getD 0 default=x at *
 generalize b.getD 0 default=y at *
 have hma:=Hid.mk hma
 have hmb:=Hid.mk hmb
 have hmc:=Hid.mk hmc
 refine go ?_
 refine WX.regionU2 0 rfl rfl ?_
 refine goU ?_
 refine WO.conV (WV.func (both1_ok _ x)) ?_
 rintro _ h2 ⟨rfl,e2⟩
 refine WO.nil ?_
 refine uK2_e e2 yG ?_
 have e3:Ext h1 (outC h1 (inC h2)):=ext_reg e2
 have kaY:SlW (inC h2) va' a:=by have:=SlW.ext ka1 e3;exact this
 have kbY:SlW (inC h2) vb' b:=by have:=SlW.ext kb1 e3;exact this
 have pcbY:Piece (inC h2) vb' (0 * 2) [I y.pos,W y.bits]:=by have:=(pcb _ e3).2;exact this
 refine goU ?_
 refine uK2_elg ⟨qa,qn,qk,hqv,hqb⟩ ?_
 refine goU ?_
 refine WO.conV (WV.func (both1_ok _ y)) ?_
 rintro _ h4 ⟨rfl,e4⟩
 refine WO.nil ?_
 refine uK2_e e4 yG ?_
 have e5:Ext h1 (outC h1 (inC h4)):=ext_reg2 e2 e4
 by_cases hlt:x.pos<y.pos
 ·have hI:=Hid.mk (hI.out.trans (congrArg (out++·) (hma.out hlt)))
  clear hma hmb hmc
  refine goU ?_
  generalize outC h1 (inC h4)=h5 at e5 ⊢
  have S:=S.ext e5
  have o8:=o8.ext e5
  have e15:=e1.trans e5
  have hmB:h5.mark≤hB.n:=by have:=e15.mark;omega
  have kaX:SlW (inC (zH 0 h5)) va' a:=by have:=SlW.ext ka1 e5;exact this
  have o8X:OwnC hB (inC (zH 0 h5)) p8 [I 0,W 0]:=o8
  have pcaX:Piece (inC (zH 0 h5)) va' (0 * 2) [I x.pos,W x.bits]:=by have:=(pca _ e5).2;exact this
  refine WX.regionU2 0 rfl rfl ?_
  refine goU ?_
  refine WO.conV (WV.func (both1_ok _ x)) ?_
  rintro _ h6 ⟨rfl,e6⟩
  refine WO.nil ?_
  refine uK2_e e6 yG ?_
  have S2:=S.enter e6
  refine goU ?_
  refine WO.conV (WV.func (both2_ok _ (inC h6) bb p5 p6 fv f hf out x ⟨0,0⟩ x.pos S2 x1 (by decide) (by omega) (hfz _ _ x1 (by decide)) ⟨x2,x3⟩ (Nat.le_refl _))) ?_
  rintro _ h3 ⟨S3,n3,w3,f3⟩
  refine WO.nil ?_
  refine uK2_w (fun k hk=> ?_) n3 ?_
  ·rcases w3 k hk with h|h
   ·cases h
   ·have h:hB.n≤k:=h
    omega
  have S4:=S3.leave e15
  have o84:OwnC hB (outC h5 h3) p8 [I 0,W 0]:=f3 p8 _ (by have:=OwnC.ext (h:=inC (zH 0 h5)) o8 e6;exact this) h86 hb8
  generalize outC h5 h3=h7 at S4 o84 ⊢
  obtain⟨va2,hsl,ka2⟩:=slr_tail (i:=1) ka hA (by omega)
  refine goU ?_
  refine WO.slLo (i:=1) (hy:=rfl) hsl ?_
  refine go ?_
  have hpl:=putL_len (p:=x.pos) (v:=f x.bits 0) (out:=out)
  have hdl:(a.drop 1).length=a.length - 1:=List.length_drop ..
  refine yC (a.drop 1,b) (by simp only;omega) ⟨va2,vb',_,sl_,sl_,ka2,kb,S4,o84,⟨?_⟩,by simp only;omega,lb,by simp only;omega⟩
  rw[putL_putW];exact hI.out
 refine goU ?_
 generalize outC h1 (inC h4)=h5 at e5 ⊢
 clear e3 kaY kbY pcbY e2 e4 kaX kbX o8X pcaX pcbX
 have S:=S.ext e5
 have o8:=o8.ext e5
 have e15:=e1.trans e5
 have hmB:h5.mark≤hB.n:=by have:=e15.mark;omega
 have ka5:=SlW.ext ka1 e5
 have kb5:=SlW.ext kb1 e5
 have kaX:SlW (inC (zH 0 h5)) va' a:=ka5
 have kbX:SlW (inC (zH 0 h5)) vb' b:=kb5
 have o8X:OwnC hB (inC (zH 0 h5)) p8 [I 0,W 0]:=o8
 have pcaX:Piece (inC (zH 0 h5)) va' (0 * 2) [I x.pos,W x.bits]:=by have:=(pca _ e5).2;exact this
 have pcbX:Piece (inC (zH 0 h5)) vb' (0 * 2) [I y.pos,W y.bits]:=by have:=(pcb _ e5).2;exact this
 refine WX.regionU2 0 rfl rfl ?_
 refine goU ?_
 refine WO.conV (WV.func (both1_ok _ y)) ?_
 rintro _ h2 ⟨rfl,e2⟩
 refine WO.nil ?_
 refine uK2_e e2 yG ?_
 have e3:Ext h5 (outC h5 (inC h2)):=ext_reg e2
 have kaY:SlW (inC h2) va' a:=by have:=SlW.ext ka5 e3;exact this
 have pcaY:Piece (inC h2) va' (0 * 2) [I x.pos,W x.bits]:=by have:=(pca _ (e5.trans e3)).2;exact this
 have hrb5:ra.block<h5.n:=Nat.lt_of_lt_of_le hrb e5.n
 have hqb5:qa.block<h5.n:=Nat.lt_of_lt_of_le hqb e5.n
 refine goU ?_
 refine uK2_elg ⟨ra,rn,rk,hrv,hrb5⟩ ?_
 refine goU ?_
 refine WO.conV (WV.func (both1_ok _ x)) ?_
 rintro _ h4 ⟨rfl,e4⟩
 refine WO.nil ?_
 refine uK2_e e4 yG ?_
 have e6:Ext h5 (outC h5 (inC h4)):=ext_reg2 e2 e4
 by_cases hgt:y.pos<x.pos
 ·have hI:=Hid.mk (hI.out.trans (congrArg (out++·) (hmb.out hgt)))
  clear hma hmb hmc
  refine goU ?_
  generalize outC h5 (inC h4)=h6 at e6 ⊢
  have S:=S.ext e6
  have o8:=o8.ext e6
  have e16:=e15.trans e6
  have hmB:h6.mark≤hB.n:=by have:=e16.mark;omega
  have kbX:SlW (inC (zH 0 h6)) vb' b:=by have:=SlW.ext kb5 e6;exact this
  have o8X:OwnC hB (inC (zH 0 h6)) p8 [I 0,W 0]:=o8
  have pcbX:Piece (inC (zH 0 h6)) vb' (0 * 2) [I y.pos,W y.bits]:=by have:=(pcb _ (e5.trans e6)).2;exact this
  refine WX.regionU2 0 rfl rfl ?_
  refine goU ?_
  refine WO.conV (WV.func (both1_ok _ y)) ?_
  rintro _ h7 ⟨rfl,e7⟩
  refine WO.nil ?_
  refine uK2_e e7 yG ?_
  have S2:=S.enter e7
  refine goU ?_
  refine WO.conV (WV.func (both2_ok _ (inC h7) bb p5 p6 fv f hf out ⟨0,0⟩ y y.pos S2 (by decide) y1 (by omega) (hfz _ _ (by decide) y1) ⟨y2,y3⟩ (Nat.le_refl _))) ?_
  rintro _ h3 ⟨S3,n3,w3,f3⟩
  refine WO.nil ?_
  refine uK2_w (fun k hk=> ?_) n3 ?_
  ·rcases w3 k hk with h|h
   ·cases h
   ·have h:hB.n≤k:=h
    omega
  have S4:=S3.leave e16
  have o84:OwnC hB (outC h6 h3) p8 [I 0,W 0]:=f3 p8 _ (by have:=OwnC.ext (h:=inC (zH 0 h6)) o8 e7;exact this) h86 hb8
  generalize outC h6 h3=h8 at S4 o84 ⊢
  obtain⟨vb2,hsl,kb2⟩:=slr_tail (i:=1) kb hBl (by omega)
  refine goU ?_
  refine WO.slLo (i:=1) (hy:=rfl) hsl ?_
  refine go ?_
  have hpl:=putL_len (p:=y.pos) (v:=f 0 y.bits) (out:=out)
  have hdl:(b.drop 1).length=b.length - 1:=List.length_drop ..
  refine yC (a,b.drop 1) (by simp only;omega) ⟨va',vb2,_,sl_,sl_,ka,kb2,S4,o84,⟨?_⟩,la,by simp only;omega,by simp only;omega⟩
  rw[putL_putW];exact hI.out
 have hI:=Hid.mk (hI.out.trans (congrArg (out++·) (hmc.out (by omega))))
 clear hma hmb hmc
 refine goU ?_
 generalize outC h5 (inC h4)=h6 at e6 ⊢
 clear kaX kbX o8X pcaX pcbX kaY pcaY
 have S:=S.ext e6
 have o8:=o8.ext e6
 have e16:=e15.trans e6
 have hmB:h6.mark≤hB.n:=by have:=e16.mark;omega
 have kaX:SlW (inC (zH 0 h6)) va' a:=by have:=SlW.ext ka5 e6;exact this
 have kbX:SlW (inC (zH 0 h6)) vb' b:=by have:=SlW.ext kb5 e6;exact this
 have o8X:OwnC hB (inC (zH 0 h6)) p8 [I 0,W 0]:=o8
 have pcaX:Piece (inC (zH 0 h6)) va' (0 * 2) [I x.pos,W x.bits]:=by have:=(pca _ (e5.trans e6)).2;exact this
 have pcbX:Piece (inC (zH 0 h6)) vb' (0 * 2) [I y.pos,W y.bits]:=by have:=(pcb _ (e5.trans e6)).2;exact this
 refine WX.regionU2 0 rfl rfl ?_
 refine goU ?_
 refine WO.conV (WV.func (both1_ok _ x)) ?_
 rintro _ h7 ⟨rfl,e7⟩
 refine WO.nil ?_
 refine uK2_e e7 yG ?_
 have S2:=S.enter e7
 refine goU ?_
 refine WO.conV (WV.func (both2_ok _ (inC h7) bb p5 p6 fv f hf out x y x.pos S2 x1 y1 (by omega) (hfz _ _ x1 y1) ⟨x2,x3⟩ (Nat.le_refl _))) ?_
 rintro _ h3 ⟨S3,n3,w3,f3⟩
 refine WO.nil ?_
 refine uK2_w (fun k hk=> ?_) n3 ?_
 ·rcases w3 k hk with h|h
  ·cases h
  ·have h:hB.n≤k:=h
   omega
 have S4:=S3.leave e16
 have o84:OwnC hB (outC h6 h3) p8 [I 0,W 0]:=f3 p8 _ (by have:=OwnC.ext (h:=inC (zH 0 h6)) o8 e7;exact this) h86 hb8
 generalize outC h6 h3=h8 at S4 o84 ⊢
 obtain⟨va2,hsa2,ka2⟩:=slr_tail (i:=1) ka hA (by omega)
 obtain⟨vb2,hsb2,kb2⟩:=slr_tail (i:=1) kb hBl (by omega)
 refine goU ?_
 refine WO.slLo (i:=1) (hy:=rfl) hsa2 ?_
 refine go ?_
 refine WO.slLo (i:=1) (hy:=rfl) hsb2 ?_
 refine go ?_
 have hpl:=putL_len (p:=x.pos) (v:=f x.bits y.bits) (out:=out)
 have hda:(a.drop 1).length=a.length - 1:=List.length_drop ..
 have hdb:(b.drop 1).length=b.length - 1:=List.length_drop ..
 refine yC (a.drop 1,b.drop 1) (by simp only;omega) ⟨va2,vb2,_,sl_,sl_,ka2,kb2,S4,o84,⟨?_⟩,by simp only;omega,by simp only;omega,by simp only;omega⟩
 rw[putL_putW];exact hI.out
end Go.Proofs.YtejjibilgmlhdaaDoor
namespace Go.Proofs.YtejjibilgmlhdaaDoor
open Go.Am
set_option linter.unusedVariables false
set_option linter.unusedSimpArgs false
set_option maxHeartbeats 1000000
def bothE (A B:List LWd):Int:=if zP (-1) A&&zP (-1) B then 0 else 8
def bothL (f:Nat→Nat→Nat) (A B:List LWd):List LWd:=if zP (-1) A&&zP (-1) B then zF f A B else []
def MineW (h h':AHeap) (v:Value) (s:List LWd):Prop:=∃ b,h.n≤b∧OwnW b h' v s
theorem MineW.sl {h h' v s} (m:MineW h h' v s):SlW h' v s:=let ⟨_,_,o⟩:=m;OwnR.sl o
theorem MineW.ext {h h1 h2 v s} (m:MineW h h1 v s) (e:Ext h1 h2):MineW h h2 v s:=let ⟨b,hb,o⟩:=m;⟨b,hb,OwnR.ext o e⟩
theorem MineW.nil {h h':AHeap}:MineW h h' (.slice none 0 0) []:=⟨h.n,Nat.le_refl _,OwnR.nil⟩
section
variable {P:Program} {tab:Tab} {t:Trie Value} {h:AHeap} {ds:List Deferred} {rd:Option Nat} {l:List AOper} {Q:AFr→AHeap→Prop}
theorem WO.max2 {d:Nat} {x y:Operand} {a b r:Int} (hr:r=if a<b then b else a) (k:WO P tab l ⟨t.set d (I r),ds,rd⟩ h Q) (hx:Ope t x (I a):=by exact ope_) (hy:Ope t y (I b):=by exact ope_):WO P tab (⟨some d,none,.maxmin true [x,y]⟩::l) ⟨t,ds,rd⟩ h Q:=by
 have hx:ev t x=I a:=hx
 have hy:ev t y=I b:=hy
 refine WO.op (I r) h rfl ?_ k
 subst hr
 simp only[aop,hx,hy,List.map_cons,List.map_nil]
 rfl
end
noncomputable def body35:ACode:=(.seq (.region [⟨some 5,none,(.box (.tmp 2))⟩,⟨some 6,none,(.alloc [(.slice none 0 0)])⟩,⟨some 7,none,(.mov (.const (.int .i64 0)))⟩]) (.seq (.seq (.region [⟨some 9,none,(.mov (.tmp 0))⟩,⟨some 10,none,(.call (.func 15) [(.tmp 9)])⟩,⟨some 11,none,(.mov (.tmp 1))⟩,⟨some 12,none,(.call (.func 15) [(.tmp 11)])⟩,⟨some 13,none,(.maxmin true [(.tmp 10),(.tmp 12)])⟩,⟨some 8,none,(.mov (.tmp 13))⟩]) (.seq (.region [⟨some 14,none,(.mov (.tmp 8))⟩,⟨some 15,none,(.bin .neq (.tmp 14) (.const (.int .i64 0)))⟩]) (.cond (.tmp 15) (.seq (.region [⟨some 16,none,(.mov (.tmp 8))⟩,⟨none,none,(.store 1 (.tmp 6) (.const (.slice none 0 0)))⟩,⟨some 7,none,(.mov (.tmp 16))⟩]) .ret) .skip))) (.seq (.region [⟨some 17,none,(.mov (.tmp 0))⟩,⟨some 18,none,(.mov (.tmp 1))⟩,⟨some 19,none,(.mkFunc (.func 46) [] [(.tmp 5),(.tmp 6)])⟩,⟨some 20,none,(.call (.func 44) [(.tmp 17),(.tmp 18),(.func 45),(.tmp 19)])⟩]) (.seq (.region [⟨some 21,none,(.load false 1 (.tmp 6))⟩,⟨none,none,(.store 1 (.tmp 6) (.tmp 21))⟩,⟨some 7,none,(.mov (.const (.int .i64 0)))⟩]) .ret))))
set_option maxRecDepth 100000 in
theorem tab35:tb.code 35=some ⟨22,[(6,some (false,1)),(7,none)],body35⟩:=by kernel_rfl
theorem both_ok (h:AHeap) (va vb fv:Value) (f:Nat→Nat→Nat) (hf:DoOk fv f) (hfz:∀ x y,x<18446744073709551616→y<18446744073709551616→f x y<18446744073709551616) (hfc:fv.cells=#[fv]) (A B:List LWd) (ka:SlW h va A) (kb:SlW h vb B) (la:A.length≤1000) (lb:B.length≤1000) (hm:h.mark≤h.n):
  WC Tryd.prog tb 35 [va,vb,fv] h fun r h'=>(∃ v,r= .tuple #[v,I (bothE A B)]∧MineW h h' v (bothL f A B))∧Ext h h':=by
 refine WC.of (nostub 35) tab35 ?_;simp only[mkTm,Nat.zero_add,Nat.reduceAdd]
 refine go ?_
 refine WO.bx ?_
 intro p5 h1 e1 o5
 rw[hfc]at o5
 have o5:OwnC h h1 p5 [fv]:=o5
 refine go ?_
 refine WO.al ?_
 intro p6 h2 e2 o6
 have o5':=o5.ext e2
 have e12:=e1.trans e2
 have hne:p5≠p6:=fun e=>by
  obtain⟨g,_,g2,a,_⟩:=o5
  obtain⟨g',g1,_,b,_⟩:=o6
  rw[a,b]at e;cases e;omega
 have ka2:=SlW.ext ka e12
 refine go ?_
 refine WO.con (check_ok h2 va A ka2 (by omega)) ?_
 rintro _ h3 ⟨rfl,e3⟩
 have kb3:=SlW.ext kb (e12.trans e3)
 refine go ?_
 refine WO.con (check_ok h3 vb B kb3 (by omega)) ?_
 rintro _ h4 ⟨rfl,e4⟩
 have e14:=e12.trans (e3.trans e4)
 have o5:=o5'.ext (e3.trans e4)
 have o6:=o6.ext (e3.trans e4)
 have o6h:=o6.since e1
 have hm4:h4.mark≤h4.n:=by have:=e14.mark;have:=e14.n;omega
 refine go ?_
 refine WO.max2 (a:=errW (zP (-1) A)) (b:=errW (zP (-1) B)) (r:=bothE A B) (by unfold bothE errW;cases zP (-1) A<;>cases zP (-1) B<;>rfl) ?_
 have hE:bothE A B=if (zP (-1) A&&zP (-1) B)=true then 0 else 8:=rfl
 have hL:bothL f A B=if (zP (-1) A&&zP (-1) B)=true then zF f A B else []:=rfl
 by_cases hc:(zP (-1) A&&zP (-1) B)=true
 ·rw[if_pos hc]at hE hL
  rw[hE,hL]
  refine go ?_
  refine WO.con (merge_ok h h4 va vb p5 p6 fv f hf hfz A B ka kb la lb e14 hm o5 o6h hne) ?_
  rintro _ h5 ⟨e5,v,b,hb,o65,ow,h6b⟩
  obtain⟨va',vn',vk',rfl,hvn⟩:=ownR_shape ow
  refine go ?_
  refine WO.stC0 (cs:=[.slice va' vn' vk']) o65 e5 ?_
  intro h6 e6 o66 u6
  refine go ?_
  refine rt (vs:=[.slice va' vn' vk',I 0]) ?_ (Res.consB sl_ o66 rfl (Res.cons sl_ Res.nil))
  exact⟨⟨_,rfl,b,hb,OwnR.upd ow (fun k k1 k2=>u6.2 k k2 fun e=>by have:=h6b k e;omega) u6.1⟩,e6⟩
 ·rw[if_neg hc]at hE hL
  rw[hE,hL]
  refine go ?_
  refine WO.stC0 (cs:=[.slice none 0 0]) o6h e14 ?_
  intro h6 e6 o66 u6
  refine go ?_
  refine rt (vs:=[.slice none 0 0,I 8]) ?_ (Res.consB sl_ o66 rfl (Res.cons sl_ Res.nil))
  exact⟨⟨_,rfl,MineW.nil⟩,e6⟩
theorem bit_or:Bitw (fun a b=>a|||b) (fun a b=>a||b):=⟨rfl,fun a b ha hb=>⟨(u_or ha hb).2,fun i=>Nat.testBit_or ..⟩⟩
theorem bit_and:Bitw (fun a b=>a&&& b) (fun a b=>a&&b):=⟨rfl,fun a b ha hb=>⟨Nat.lt_of_le_of_lt Nat.and_le_left ha,fun i=>Nat.testBit_and ..⟩⟩
theorem bit_not:Bitw notN (fun a b=>a&& !b):=⟨rfl,fun a b ha hb=>(u_notN ha hb).2⟩
noncomputable def body20:ACode:=(.seq (.region [⟨some 4,none,(.mov (.const (.slice none 0 0)))⟩,⟨some 5,none,(.mov (.const (.int .i64 0)))⟩]) (.seq (.region [⟨some 6,none,(.mov (.tmp 0))⟩,⟨some 7,none,(.mov (.tmp 1))⟩,⟨some 8,none,(.call (.func 35) [(.tmp 6),(.tmp 7),(.func 36)])⟩,⟨some 9,none,(.extract (.tmp 8) 0)⟩,⟨some 10,none,(.extract (.tmp 8) 1)⟩,⟨some 4,none,(.mov (.tmp 9))⟩,⟨some 5,none,(.mov (.tmp 10))⟩]) .ret))
set_option maxRecDepth 100000 in
theorem tab20:tb.code 20=some ⟨11,[(4,none),(5,none)],body20⟩:=by kernel_rfl
theorem or_ok (h:AHeap) (va vb:Value) (A B:List LWd) (ka:SlW h va A) (kb:SlW h vb B) (la:A.length≤1000) (lb:B.length≤1000) (hm:h.mark≤h.n):
  WC Tryd.prog tb 20 [va,vb] h fun r h'=>(∃ v,r= .tuple #[v,I (bothE A B)]∧MineW h h' v (bothL (fun a b=>a|||b) A B))∧Ext h h':=by
 refine WC.of (nostub 20) tab20 ?_;simp only[mkTm,Nat.zero_add,Nat.reduceAdd]
 refine go ?_
 refine WO.con (both_ok h va vb (.func (.func 36) #[] #[]) (fun a b=>a|||b) (fun h a b ha hb=>WV.func (or1_ok h a b ha hb)) (fun x y hx hy=>(bit_or.bit x y hx hy).1) rfl A B ka kb la lb hm) ?_
 rintro _ h1 ⟨⟨v,rfl,m⟩,e1⟩
 refine go ?_
 refine rt ?_
 exact⟨⟨v,rfl,m⟩,e1⟩
noncomputable def body21:ACode:=(.seq (.region [⟨some 4,none,(.mov (.const (.slice none 0 0)))⟩,⟨some 5,none,(.mov (.const (.int .i64 0)))⟩]) (.seq (.region [⟨some 6,none,(.mov (.tmp 0))⟩,⟨some 7,none,(.mov (.tmp 1))⟩,⟨some 8,none,(.call (.func 35) [(.tmp 6),(.tmp 7),(.func 37)])⟩,⟨some 9,none,(.extract (.tmp 8) 0)⟩,⟨some 10,none,(.extract (.tmp 8) 1)⟩,⟨some 4,none,(.mov (.tmp 9))⟩,⟨some 5,none,(.mov (.tmp 10))⟩]) .ret))
set_option maxRecDepth 100000 in
theorem tab21:tb.code 21=some ⟨11,[(4,none),(5,none)],body21⟩:=by kernel_rfl
theorem and_ok (h:AHeap) (va vb:Value) (A B:List LWd) (ka:SlW h va A) (kb:SlW h vb B) (la:A.length≤1000) (lb:B.length≤1000) (hm:h.mark≤h.n):
  WC Tryd.prog tb 21 [va,vb] h fun r h'=>(∃ v,r= .tuple #[v,I (bothE A B)]∧MineW h h' v (bothL (fun a b=>a&&& b) A B))∧Ext h h':=by
 refine WC.of (nostub 21) tab21 ?_;simp only[mkTm,Nat.zero_add,Nat.reduceAdd]
 refine go ?_
 refine WO.con (both_ok h va vb (.func (.func 37) #[] #[]) (fun a b=>a&&& b) (fun h a b ha hb=>WV.func (and1_ok h a b ha hb)) (fun x y hx hy=>(bit_and.bit x y hx hy).1) rfl A B ka kb la lb hm) ?_
 rintro _ h1 ⟨⟨v,rfl,m⟩,e1⟩
 refine go ?_
 refine rt ?_
 exact⟨⟨v,rfl,m⟩,e1⟩
noncomputable def body22:ACode:=(.seq (.region [⟨some 4,none,(.mov (.const (.slice none 0 0)))⟩,⟨some 5,none,(.mov (.const (.int .i64 0)))⟩]) (.seq (.region [⟨some 6,none,(.mov (.tmp 0))⟩,⟨some 7,none,(.mov (.tmp 1))⟩,⟨some 8,none,(.call (.func 35) [(.tmp 6),(.tmp 7),(.func 38)])⟩,⟨some 9,none,(.extract (.tmp 8) 0)⟩,⟨some 10,none,(.extract (.tmp 8) 1)⟩,⟨some 4,none,(.mov (.tmp 9))⟩,⟨some 5,none,(.mov (.tmp 10))⟩]) .ret))
set_option maxRecDepth 100000 in
theorem tab22:tb.code 22=some ⟨11,[(4,none),(5,none)],body22⟩:=by kernel_rfl
theorem minus_ok (h:AHeap) (va vb:Value) (A B:List LWd) (ka:SlW h va A) (kb:SlW h vb B) (la:A.length≤1000) (lb:B.length≤1000) (hm:h.mark≤h.n):
  WC Tryd.prog tb 22 [va,vb] h fun r h'=>(∃ v,r= .tuple #[v,I (bothE A B)]∧MineW h h' v (bothL notN A B))∧Ext h h':=by
 refine WC.of (nostub 22) tab22 ?_;simp only[mkTm,Nat.zero_add,Nat.reduceAdd]
 refine go ?_
 refine WO.con (both_ok h va vb (.func (.func 38) #[] #[]) notN (fun h a b ha hb=>WV.func (minus1_ok h a b ha hb)) (fun x y hx hy=>(bit_not.bit x y hx hy).1) rfl A B ka kb la lb hm) ?_
 rintro _ h1 ⟨⟨v,rfl,m⟩,e1⟩
 refine go ?_
 refine rt ?_
 exact⟨⟨v,rfl,m⟩,e1⟩
end Go.Proofs.YtejjibilgmlhdaaDoor
namespace Go.Proofs.YtejjibilgmlhdaaDoor
open Go.Am
set_option linter.unusedVariables false
set_option linter.unusedSimpArgs false
set_option maxHeartbeats 1000000
theorem w_ext {a b:LWd} (h1:a.pos=b.pos) (h2:a.bits=b.bits):a=b:=by cases a;cases b;cases h1;cases h2;rfl
theorem lw_ext {A B:List LWd} (hl:A.length=B.length) (h:∀ i,i<A.length→A.getD i default=B.getD i default):A=B:=by
 refine List.ext_getElem hl fun i h1 h2=> ?_
 have:=h i h1
 rwa [List.getD_eq_getElem?_getD,List.getD_eq_getElem?_getD,List.getElem?_eq_getElem h1,List.getElem?_eq_getElem h2]at this
theorem eq_wd (x y:LWd):eqAll [I x.pos,W x.bits] [I y.pos,W y.bits]=decide (x=y):=by
 by_cases h:x=y
 ·subst h;simp[eqAll,eqOne,I]
 ·rw[decide_eq_false h]
  cases hb:eqAll [I x.pos,W x.bits] [I y.pos,W y.bits]with
  |false=>rfl
  |true=>
   exfalso
   simp[eqAll,eqOne,I]at hb
   exact h (w_ext hb.1 (by omega))
noncomputable def body34_0:ACode:=(.seq (.region [⟨some 14,none,(.bin .lss (.tmp 13) (.tmp 12))⟩]) (.seq (.cond (.tmp 14) .skip (.exit 0)) (.seq (.block 1 (.seq (.region [⟨some 15,none,(.mov (.tmp 13))⟩,⟨some 5,none,(.mov (.tmp 15))⟩]) (.seq (.regionC [(⟨some 16,none,(.mov (.tmp 0))⟩,[]),(⟨some 17,none,(.mov (.tmp 5))⟩,[]),(⟨some 18,none,(.idx 2 (.tmp 16) (.tmp 17))⟩,[]),(⟨some 19,none,(.load true 2 (.tmp 18))⟩,[]),(⟨some 20,none,(.mov (.tmp 1))⟩,[]),(⟨some 21,none,(.mov (.tmp 5))⟩,[]),(⟨some 22,none,(.idx 2 (.tmp 20) (.tmp 21))⟩,[]),(⟨some 23,none,(.load true 2 (.tmp 22))⟩,[]),(⟨some 24,none,(.binP .neq 52 (.tmp 19) (.tmp 23))⟩,[])]) (.cond (.tmp 24) (.seq (.region [⟨some 4,none,(.mov (.const (.bool false)))⟩]) .ret) .skip)))) (.region [⟨some 25,none,(.bin .add (.tmp 13) (.const (.int .i64 1)))⟩,⟨some 13,none,(.mov (.tmp 25))⟩]))))
noncomputable def body34:ACode:=(.seq (.region [⟨some 4,none,(.mov (.const (.bool false)))⟩]) (.seq (.seq (.region [⟨some 6,none,(.mov (.tmp 0))⟩,⟨some 7,none,(.len (.tmp 6))⟩,⟨some 8,none,(.mov (.tmp 1))⟩,⟨some 9,none,(.len (.tmp 8))⟩,⟨some 10,none,(.bin .neq (.tmp 7) (.tmp 9))⟩]) (.cond (.tmp 10) (.seq (.region [⟨some 4,none,(.mov (.const (.bool false)))⟩]) .ret) .skip)) (.seq (.seq (.region [⟨some 11,none,(.mov (.tmp 0))⟩,⟨some 12,none,(.len (.tmp 11))⟩,⟨some 13,none,(.mov (.const (.int .i64 0)))⟩]) (.block 0 (.loop body34_0))) (.seq (.region [⟨some 4,none,(.mov (.const (.bool true)))⟩]) .ret))))
set_option maxRecDepth 100000 in
theorem tab34:tb.code 34=some ⟨26,[(4,none)],body34⟩:=by kernel_rfl
theorem equal_ok (h:AHeap) (va vb:Value) (A B:List LWd) (ka:SlW h va A) (kb:SlW h vb B) (la:(A.length:Int)≤1000000000):WC Tryd.prog tb 34 [va,vb] h fun r h'=>r= .bool (decide (A=B))∧h=h':=by
 refine WC.of (nostub 34) tab34 ?_;simp only[mkTm,Nat.zero_add,Nat.reduceAdd]
 by_cases hl:A.length=B.length
 case neg=>
  refine go ?_
  refine rt ?_
  exact⟨by rw[decide_eq_false (fun e=>hl (by rw[e]))];rfl,rfl⟩
 refine go ?_
 refine WX.loopA [14,15,5,16,17,18,19,20,21,22,23,24,4,25,13] (by kernel_rfl) (fun i=>A.length - i) (fun i t h1=>h=h1∧zC t 13=I i∧i≤A.length∧Hid (∀ j,j<i→A.getD j default=B.getD j default)) 0 ?_ ?_
 ·exact⟨rfl,sl_,Nat.zero_le _,⟨fun j hj=>absurd hj (Nat.not_lt_zero _)⟩⟩
 rintro i t _ hsame ⟨rfl,s13,hi,hI⟩
 refine go ?_
 refine WX.br (fun hb=> ?_) (fun hb=> ?_)<;>simp only[DB]at hb
 ·obtain⟨ca,⟨rfl,x1,x2,x3⟩,pca,hsa⟩:=wd_at ka (show i<A.length by omega)
  obtain⟨cb,⟨rfl,y1,y2,y3⟩,pcb,hsb⟩:=wd_at kb (show i<B.length by omega)
  refine go ?_
  refine WO.bp (ne_chk (xs:=#[I (A.getD i default).pos,W (A.getD i default).bits]) (ys:=#[I (B.getD i default).pos,W (B.getD i default).bits]) (b:=decide (A.getD i default=B.getD i default)) (by kernel_rfl) (eq_wd _ _)) ?_
  refine go ?_
  repeat' (first|(refine WX.br (fun hb=> ?_) (fun hb=> ?_)<;>(try simp only[DB]at hb)<;>refine go ?_)|(refine WO.sp (fun hb=> ?_) (fun hb=> ?_)<;>(try simp only[DB]at hb)<;>refine go ?_))
  ·refine rt ?_
   refine⟨?_,rfl⟩
   rw[decide_eq_false (fun e=>by subst e;exact hb rfl)];rfl
  ·refine yC (i+1) (by omega) ⟨rfl,sln,by omega,⟨fun j hj=> ?_⟩⟩
   by_cases e:j=i
   ·subst e;exact hb
   ·exact hI.out j (by omega)
 ·refine go ?_
  refine rt ?_
  exact⟨by rw[decide_eq_true (lw_ext hl fun j hj=>hI.out j (by omega))];rfl,rfl⟩
noncomputable def body17:ACode:=(.seq (.region [⟨some 4,none,(.mov (.const (.bool false)))⟩]) (.seq (.region [⟨some 5,none,(.mov (.tmp 0))⟩,⟨some 6,none,(.mov (.tmp 1))⟩,⟨some 7,none,(.call (.func 34) [(.tmp 5),(.tmp 6)])⟩,⟨some 4,none,(.mov (.tmp 7))⟩]) .ret))
set_option maxRecDepth 100000 in
theorem tab17:tb.code 17=some ⟨8,[(4,none)],body17⟩:=by kernel_rfl
theorem same_ok (h:AHeap) (va vb:Value) (A B:List LWd) (ka:SlW h va A) (kb:SlW h vb B) (la:(A.length:Int)≤1000000000):WC Tryd.prog tb 17 [va,vb] h fun r h'=>r= .bool (decide (A=B))∧h=h':=by
 refine WC.of (nostub 17) tab17 ?_;simp only[mkTm,Nat.zero_add,Nat.reduceAdd]
 refine go ?_
 refine WO.con (equal_ok h va vb A B ka kb la) ?_
 rintro _ _ ⟨rfl,rfl⟩
 refine go ?_
 refine rt ?_
 exact⟨rfl,rfl⟩
end Go.Proofs.YtejjibilgmlhdaaDoor
namespace Go.Proofs.YtejjibilgmlhdaaDoor
open Go.Am
set_option linter.unusedVariables false
set_option linter.unusedSimpArgs false
set_option maxHeartbeats 1000000
structure ExtN (h h':AHeap):Prop where
 n:h.n≤h'.n
 get:∀ g,g<h.n→h'.get g=h.get g
 wf:Wf h→Wf h'
theorem ExtN.of {h h':AHeap} (e:Ext h h'):ExtN h h':=⟨e.n,e.get,e.wf⟩
theorem ExtN.refl (h:AHeap):ExtN h h:=⟨Nat.le_refl _,fun _ _=>rfl,id⟩
theorem ExtN.trans {a b c:AHeap} (h:ExtN a b) (k:ExtN b c):ExtN a c:=⟨Nat.le_trans h.n k.n,fun g hg=>(k.get g (Nat.lt_of_lt_of_le hg h.n)).trans (h.get g hg),fun w=>k.wf (h.wf w)⟩
theorem ExtN.to {h h':AHeap} (e:ExtN h h'):Ext {h with mark:=h'.mark,wr:=h'.wr} h':=⟨e.n,e.get,fun w=>e.wf w,rfl,fun _=>rfl⟩
theorem ExtN.outC {h h1 h':AHeap} (e:Ext h h1) (k:ExtN h h'):Ext h (outC h1 h'):=⟨k.n,k.get,fun w=>k.wf w,e.mark,fun hm=>e.wr hm⟩
end Go.Proofs.YtejjibilgmlhdaaDoor
namespace Go.Proofs.YtejjibilgmlhdaaDoor
open Go.Am
set_option linter.unusedVariables false
set_option linter.unusedSimpArgs false
set_option maxHeartbeats 1000000
theorem Upto.perm {s:List LWd} {xs ys:List Int} (u:Upto s xs) (h:∀ n,n∈xs↔n∈ys):Upto s ys:=⟨u.ok,fun n=>(u.mem n).trans (h n)⟩
end Go.Proofs.YtejjibilgmlhdaaDoor
namespace Go.Proofs.YtejjibilgmlhdaaDoor
open Go.Am
set_option maxRecDepth 1000000 in
theorem ev0_alive:(aexK Tryd.prog (codeTab Tryd.prog) 400).call 19 [] (heapL Tryd.prog.globals.size [(0,tzV)]) (fun v _=>some v)=some (.bool true):=by kernel_rfl
theorem ev_alive:((aex Tryd.prog (codeTab Tryd.prog) 400).call 19 [] (heapL Tryd.prog.globals.size [(0,tzV)])).map (·.1)=some (.bool true):=run_fast ev0_alive
set_option maxRecDepth 1000000 in
theorem alive_closed:([(0,tzV)]:List (Nat×List Value)).all (fun x=>Nat.ble (x.1+1) Tryd.prog.globals.size&&yB x.2)=true:=by kernel_rfl
set_option maxRecDepth 1000000 in
theorem tb_ok:tb.Ok Tryd.prog where
 code:=fun _ _ h=>h
 stub:=fun f s hs=>by
  have hs:(if f=19 then some (known [(0,tzV)] (.bool true)) else none)=some s:=hs
  split at hs
  ·rename_i e;subst e;cases hs
   exact known_sound Tryd.checked.mixed (codeTab_ok _) rfl (fun x hx=>by
    have h1:=List.all_eq_true.1 alive_closed x hx
    rw[Bool.and_eq_true]at h1
    exact⟨Nat.le_of_ble_eq_true h1.1,h1.2⟩) ev_alive
  ·cases hs
 grow:=fun f s hs args h v h' hk=>by
  have hs:(if f=19 then some (known [(0,tzV)] (.bool true)) else none)=some s:=hs
  split at hs
  ·cases hs;exact known_grow args h v h' hk
  ·cases hs
end Go.Proofs.YtejjibilgmlhdaaDoor
namespace Go.Proofs.YtejjibilgmlhdaaDoor
open Go.Am
set_option linter.unusedVariables false
set_option linter.unusedSimpArgs false
set_option maxHeartbeats 2000000
theorem zY (f:Nat→Nat→Nat):∀ A B:List LWd,(zF f A B).length≤A.length+B.length
 |[],[]=>by rw[zF];exact Nat.le_refl _
 |x::a,[]=>by
  have:=zY f a []
  rw[zF];unfold putW;split<;>simp only[List.length_cons,List.length_nil]at * <;>omega
 |[],y::b=>by
  have:=zY f [] b
  rw[zF];unfold putW;split<;>simp only[List.length_cons,List.length_nil]at * <;>omega
 |x::a,y::b=>by
  rw[zF]
  have h1:=zY f a (y::b)
  have h2:=zY f (x::a) b
  have h3:=zY f a b
  unfold putW
  split
  ·split<;>simp only[List.length_cons]at * <;>omega
  ·split
   ·split<;>simp only[List.length_cons]at * <;>omega
   ·split<;>simp only[List.length_cons]at * <;>omega
 termination_by A B=>A.length+B.length
theorem zr {s:List LWd} (h:OkW s):zP (-1) s=true:=(okW_iff h.bd).2 h
abbrev orL (A B:List LWd):=zF (fun a b=>a|||b) A B
abbrev andL (A B:List LWd):=zF (fun a b=>a&&& b) A B
abbrev minL (A B:List LWd):=zF notN A B
theorem or_is {A B:List LWd} (ha:OkW A) (hb:OkW B):OkW (orL A B)∧∀ n,inB (orL A B) n=(inB A n||inB B n):=let ⟨a,b,_⟩:=mergeL_is bit_or ha hb;⟨a,b⟩
theorem and_is {A B:List LWd} (ha:OkW A) (hb:OkW B):OkW (andL A B)∧∀ n,inB (andL A B) n=(inB A n&&inB B n):=let ⟨a,b,_⟩:=mergeL_is bit_and ha hb;⟨a,b⟩
theorem min_is {A B:List LWd} (ha:OkW A) (hb:OkW B):OkW (minL A B)∧∀ n,inB (minL A B) n=(inB A n&& !inB B n):=let ⟨a,b,_⟩:=mergeL_is bit_not ha hb;⟨a,b⟩
theorem yJ {A B:List LWd} (ha:OkW A) (hb:OkW B):bothE A B=0:=by unfold bothE;rw[zr ha,zr hb];rfl
theorem yH {f:Nat→Nat→Nat} {A B:List LWd} (ha:OkW A) (hb:OkW B):bothL f A B=zF f A B:=by unfold bothL;rw[zr ha,zr hb];rfl
section
variable {P:Program} {tab:Tab} {t:Trie Value} {h:AHeap} {ds:List Deferred} {rd:Option Nat} {l:List AOper} {Q:AFr→AHeap→Prop}
end
theorem okk {h v s} (k:SlW h v s) (hc:zP (-1) s=true):OkW s:=(okW_iff k.bd).1 hc
end Go.Proofs.YtejjibilgmlhdaaDoor
namespace Go.Proofs.YtejjibilgmlhdaaDoor
open Go.Am
set_option linter.unusedVariables false
set_option linter.unusedSimpArgs false
set_option maxHeartbeats 4000000
theorem eq_in {s t:List LWd} (hs:OkW s) (ht:OkW t) (h:∀ n,inB s n=inB t n):s=t:=okW_ext hs ht fun n=>by rw[←inB_iff,←inB_iff,h n]
theorem size_in {a b:List LWd} (ha:OkW a) (hb:OkW b):sizeL a+sizeL b=sizeL (orL a b)+sizeL (andL a b):=by
 obtain⟨o1,o2⟩:=or_is ha hb
 obtain⟨d1,d2⟩:=and_is ha hb
 have:=size_sum ha hb o1 d1 (fun n=>by rw[←inB_iff,←inB_iff,←inB_iff,o2 n,Bool.or_eq_true]) (fun n=>by rw[←inB_iff,←inB_iff,←inB_iff,d2 n,Bool.and_eq_true])
 unfold sizeL;omega
theorem sizeL_le (s:List LWd):0≤sizeL s∧sizeL s≤64 * s.length:=by
 unfold sizeL
 have:(numsL s).length≤64 * s.length:=by
  induction s with
  |nil=>exact Nat.le_refl _
  |cons w l ih=>rw[numsL_cons,List.length_cons];have:=bitsL_le w.bits;omega
 omega
noncomputable def body6:ACode:=(.seq (.region [⟨some 6,none,(.mov (.const (.bool false)))⟩]) (.seq (.region [⟨some 41,none,(.call (.func 19) [])⟩,⟨some 7,none,(.mov (.tmp 41))⟩]) (.seq (.seq (.region [⟨some 42,none,(.mov (.tmp 0))⟩,⟨some 43,none,(.len (.tmp 42))⟩,⟨some 44,none,(.bin .gtr (.tmp 43) (.const (.int .i64 10)))⟩,⟨some 45,none,(.mov (.tmp 44))⟩,⟨some 46,some (45,false),(.mov (.tmp 1))⟩,⟨some 47,some (45,false),(.len (.tmp 46))⟩,⟨some 48,some (45,false),(.bin .gtr (.tmp 47) (.const (.int .i64 10)))⟩,⟨some 49,none,(.pick (.tmp 45) (.const (.bool true)) (.tmp 48))⟩,⟨some 50,none,(.mov (.tmp 49))⟩,⟨some 51,some (50,false),(.mov (.tmp 2))⟩,⟨some 52,some (50,false),(.len (.tmp 51))⟩,⟨some 53,some (50,false),(.bin .gtr (.tmp 52) (.const (.int .i64 10)))⟩,⟨some 54,none,(.pick (.tmp 50) (.const (.bool true)) (.tmp 53))⟩,⟨some 55,none,(.mov (.tmp 54))⟩,⟨some 56,some (55,false),(.mov (.tmp 0))⟩,⟨some 57,some (55,false),(.call (.func 15) [(.tmp 56)])⟩,⟨some 58,some (55,false),(.bin .neq (.tmp 57) (.const (.int .i64 0)))⟩,⟨some 59,none,(.pick (.tmp 55) (.const (.bool true)) (.tmp 58))⟩,⟨some 60,none,(.mov (.tmp 59))⟩,⟨some 61,some (60,false),(.mov (.tmp 1))⟩,⟨some 62,some (60,false),(.call (.func 15) [(.tmp 61)])⟩,⟨some 63,some (60,false),(.bin .neq (.tmp 62) (.const (.int .i64 0)))⟩,⟨some 64,none,(.pick (.tmp 60) (.const (.bool true)) (.tmp 63))⟩,⟨some 65,none,(.mov (.tmp 64))⟩,⟨some 66,some (65,false),(.mov (.tmp 2))⟩,⟨some 67,some (65,false),(.call (.func 15) [(.tmp 66)])⟩,⟨some 68,some (65,false),(.bin .neq (.tmp 67) (.const (.int .i64 0)))⟩,⟨some 69,none,(.pick (.tmp 65) (.const (.bool true)) (.tmp 68))⟩,⟨some 70,none,(.mov (.tmp 69))⟩,⟨some 71,some (70,false),(.mov (.tmp 7))⟩,⟨some 72,some (70,false),(.un .not (.tmp 71))⟩,⟨some 73,none,(.pick (.tmp 70) (.const (.bool true)) (.tmp 72))⟩]) (.cond (.tmp 73) (.seq (.region [⟨some 74,none,(.mov (.tmp 7))⟩,⟨some 6,none,(.mov (.tmp 74))⟩]) .ret) .skip)) (.seq (.region [⟨some 76,none,(.mov (.tmp 0))⟩,⟨some 77,none,(.mov (.tmp 1))⟩,⟨some 78,none,(.call (.func 20) [(.tmp 76),(.tmp 77)])⟩,⟨some 75,none,(.mov (.tmp 78))⟩,⟨some 79,none,(.extract (.tmp 75) 0)⟩,⟨some 80,none,(.extract (.tmp 75) 1)⟩,⟨some 8,none,(.mov (.tmp 79))⟩,⟨some 9,none,(.mov (.tmp 80))⟩]) (.seq (.region [⟨some 82,none,(.mov (.tmp 1))⟩,⟨some 83,none,(.mov (.tmp 0))⟩,⟨some 84,none,(.call (.func 20) [(.tmp 82),(.tmp 83)])⟩,⟨some 81,none,(.mov (.tmp 84))⟩,⟨some 85,none,(.extract (.tmp 81) 0)⟩,⟨some 86,none,(.extract (.tmp 81) 1)⟩,⟨some 10,none,(.mov (.tmp 85))⟩,⟨some 11,none,(.mov (.tmp 86))⟩]) (.seq (.region [⟨some 88,none,(.mov (.tmp 1))⟩,⟨some 89,none,(.mov (.tmp 2))⟩,⟨some 90,none,(.call (.func 20) [(.tmp 88),(.tmp 89)])⟩,⟨some 87,none,(.mov (.tmp 90))⟩,⟨some 91,none,(.extract (.tmp 87) 0)⟩,⟨some 92,none,(.extract (.tmp 87) 1)⟩,⟨some 12,none,(.mov (.tmp 91))⟩,⟨some 13,none,(.mov (.tmp 92))⟩]) (.seq (.region [⟨some 94,none,(.mov (.tmp 8))⟩,⟨some 95,none,(.mov (.tmp 2))⟩,⟨some 96,none,(.call (.func 20) [(.tmp 94),(.tmp 95)])⟩,⟨some 93,none,(.mov (.tmp 96))⟩,⟨some 97,none,(.extract (.tmp 93) 0)⟩,⟨some 98,none,(.extract (.tmp 93) 1)⟩,⟨some 14,none,(.mov (.tmp 97))⟩,⟨some 15,none,(.mov (.tmp 98))⟩]) (.seq (.region [⟨some 100,none,(.mov (.tmp 0))⟩,⟨some 101,none,(.mov (.tmp 12))⟩,⟨some 102,none,(.call (.func 20) [(.tmp 100),(.tmp 101)])⟩,⟨some 99,none,(.mov (.tmp 102))⟩,⟨some 103,none,(.extract (.tmp 99) 0)⟩,⟨some 104,none,(.extract (.tmp 99) 1)⟩,⟨some 16,none,(.mov (.tmp 103))⟩,⟨some 17,none,(.mov (.tmp 104))⟩]) (.seq (.region [⟨some 106,none,(.mov (.tmp 0))⟩,⟨some 107,none,(.mov (.tmp 1))⟩,⟨some 108,none,(.call (.func 21) [(.tmp 106),(.tmp 107)])⟩,⟨some 105,none,(.mov (.tmp 108))⟩,⟨some 109,none,(.extract (.tmp 105) 0)⟩,⟨some 110,none,(.extract (.tmp 105) 1)⟩,⟨some 18,none,(.mov (.tmp 109))⟩,⟨some 19,none,(.mov (.tmp 110))⟩]) (.seq (.region [⟨some 112,none,(.mov (.tmp 0))⟩,⟨some 113,none,(.mov (.tmp 2))⟩,⟨some 114,none,(.call (.func 21) [(.tmp 112),(.tmp 113)])⟩,⟨some 111,none,(.mov (.tmp 114))⟩,⟨some 115,none,(.extract (.tmp 111) 0)⟩,⟨some 116,none,(.extract (.tmp 111) 1)⟩,⟨some 20,none,(.mov (.tmp 115))⟩,⟨some 21,none,(.mov (.tmp 116))⟩]) (.seq (.region [⟨some 118,none,(.mov (.tmp 0))⟩,⟨some 119,none,(.mov (.tmp 12))⟩,⟨some 120,none,(.call (.func 21) [(.tmp 118),(.tmp 119)])⟩,⟨some 117,none,(.mov (.tmp 120))⟩,⟨some 121,none,(.extract (.tmp 117) 0)⟩,⟨some 122,none,(.extract (.tmp 117) 1)⟩,⟨some 22,none,(.mov (.tmp 121))⟩,⟨some 23,none,(.mov (.tmp 122))⟩]) (.seq (.region [⟨some 124,none,(.mov (.tmp 18))⟩,⟨some 125,none,(.mov (.tmp 20))⟩,⟨some 126,none,(.call (.func 20) [(.tmp 124),(.tmp 125)])⟩,⟨some 123,none,(.mov (.tmp 126))⟩,⟨some 127,none,(.extract (.tmp 123) 0)⟩,⟨some 128,none,(.extract (.tmp 123) 1)⟩,⟨some 24,none,(.mov (.tmp 127))⟩,⟨some 25,none,(.mov (.tmp 128))⟩]) (.seq (.region [⟨some 130,none,(.mov (.tmp 0))⟩,⟨some 131,none,(.mov (.tmp 1))⟩,⟨some 132,none,(.call (.func 22) [(.tmp 130),(.tmp 131)])⟩,⟨some 129,none,(.mov (.tmp 132))⟩,⟨some 133,none,(.extract (.tmp 129) 0)⟩,⟨some 134,none,(.extract (.tmp 129) 1)⟩,⟨some 26,none,(.mov (.tmp 133))⟩,⟨some 27,none,(.mov (.tmp 134))⟩]) (.seq (.region [⟨some 136,none,(.mov (.tmp 0))⟩,⟨some 137,none,(.mov (.tmp 18))⟩,⟨some 138,none,(.call (.func 22) [(.tmp 136),(.tmp 137)])⟩,⟨some 135,none,(.mov (.tmp 138))⟩,⟨some 139,none,(.extract (.tmp 135) 0)⟩,⟨some 140,none,(.extract (.tmp 135) 1)⟩,⟨some 28,none,(.mov (.tmp 139))⟩,⟨some 29,none,(.mov (.tmp 140))⟩]) (.seq (.region [⟨some 142,none,(.mov (.tmp 26))⟩,⟨some 143,none,(.mov (.tmp 18))⟩,⟨some 144,none,(.call (.func 20) [(.tmp 142),(.tmp 143)])⟩,⟨some 141,none,(.mov (.tmp 144))⟩,⟨some 145,none,(.extract (.tmp 141) 0)⟩,⟨some 146,none,(.extract (.tmp 141) 1)⟩,⟨some 30,none,(.mov (.tmp 145))⟩,⟨some 31,none,(.mov (.tmp 146))⟩]) (.seq (.region [⟨some 148,none,(.mov (.tmp 0))⟩,⟨some 149,none,(.call (.func 12) [(.tmp 148)])⟩,⟨some 147,none,(.mov (.tmp 149))⟩,⟨some 150,none,(.extract (.tmp 147) 0)⟩,⟨some 151,none,(.extract (.tmp 147) 1)⟩,⟨some 32,none,(.mov (.tmp 150))⟩,⟨some 33,none,(.mov (.tmp 151))⟩]) (.seq (.region [⟨some 153,none,(.mov (.tmp 1))⟩,⟨some 154,none,(.call (.func 12) [(.tmp 153)])⟩,⟨some 152,none,(.mov (.tmp 154))⟩,⟨some 155,none,(.extract (.tmp 152) 0)⟩,⟨some 156,none,(.extract (.tmp 152) 1)⟩,⟨some 34,none,(.mov (.tmp 155))⟩,⟨some 35,none,(.mov (.tmp 156))⟩]) (.seq (.region [⟨some 158,none,(.mov (.tmp 8))⟩,⟨some 159,none,(.call (.func 12) [(.tmp 158)])⟩,⟨some 157,none,(.mov (.tmp 159))⟩,⟨some 160,none,(.extract (.tmp 157) 0)⟩,⟨some 161,none,(.extract (.tmp 157) 1)⟩,⟨some 36,none,(.mov (.tmp 160))⟩,⟨some 37,none,(.mov (.tmp 161))⟩]) (.seq (.region [⟨some 163,none,(.mov (.tmp 18))⟩,⟨some 164,none,(.call (.func 12) [(.tmp 163)])⟩,⟨some 162,none,(.mov (.tmp 164))⟩,⟨some 165,none,(.extract (.tmp 162) 0)⟩,⟨some 166,none,(.extract (.tmp 162) 1)⟩,⟨some 38,none,(.mov (.tmp 165))⟩,⟨some 39,none,(.mov (.tmp 166))⟩]) (.seq (.region [⟨some 167,none,(.mov (.tmp 8))⟩,⟨some 168,none,(.mov (.tmp 10))⟩,⟨some 169,none,(.call (.func 17) [(.tmp 167),(.tmp 168)])⟩,⟨some 170,none,(.mov (.tmp 169))⟩,⟨some 171,some (170,true),(.mov (.tmp 14))⟩,⟨some 172,some (170,true),(.mov (.tmp 16))⟩,⟨some 173,some (170,true),(.call (.func 17) [(.tmp 171),(.tmp 172)])⟩,⟨some 174,none,(.pick (.tmp 170) (.tmp 173) (.const (.bool false)))⟩,⟨some 175,none,(.mov (.tmp 174))⟩,⟨some 176,some (175,true),(.mov (.tmp 22))⟩,⟨some 177,some (175,true),(.mov (.tmp 24))⟩,⟨some 178,some (175,true),(.call (.func 17) [(.tmp 176),(.tmp 177)])⟩,⟨some 179,none,(.pick (.tmp 175) (.tmp 178) (.const (.bool false)))⟩,⟨some 180,none,(.mov (.tmp 179))⟩,⟨some 181,some (180,true),(.mov (.tmp 26))⟩,⟨some 182,some (180,true),(.mov (.tmp 28))⟩,⟨some 183,some (180,true),(.call (.func 17) [(.tmp 181),(.tmp 182)])⟩,⟨some 184,none,(.pick (.tmp 180) (.tmp 183) (.const (.bool false)))⟩,⟨some 185,none,(.mov (.tmp 184))⟩,⟨some 186,some (185,true),(.mov (.tmp 30))⟩,⟨some 187,some (185,true),(.mov (.tmp 0))⟩,⟨some 188,some (185,true),(.call (.func 17) [(.tmp 186),(.tmp 187)])⟩,⟨some 189,none,(.pick (.tmp 185) (.tmp 188) (.const (.bool false)))⟩,⟨some 40,none,(.mov (.tmp 189))⟩]) (.seq (.region [⟨some 190,none,(.mov (.tmp 7))⟩,⟨some 191,none,(.mov (.tmp 190))⟩,⟨some 192,some (191,true),(.mov (.tmp 40))⟩,⟨some 193,none,(.pick (.tmp 191) (.tmp 192) (.const (.bool false)))⟩,⟨some 194,none,(.mov (.tmp 193))⟩,⟨some 195,some (194,true),(.mov (.tmp 32))⟩,⟨some 196,some (194,true),(.mov (.tmp 34))⟩,⟨some 197,some (194,true),(.bin .add (.tmp 195) (.tmp 196))⟩,⟨some 198,some (194,true),(.mov (.tmp 36))⟩,⟨some 199,some (194,true),(.mov (.tmp 38))⟩,⟨some 200,some (194,true),(.bin .add (.tmp 198) (.tmp 199))⟩,⟨some 201,some (194,true),(.bin .eql (.tmp 197) (.tmp 200))⟩,⟨some 202,none,(.pick (.tmp 194) (.tmp 201) (.const (.bool false)))⟩,⟨some 6,none,(.mov (.tmp 202))⟩]) .ret)))))))))))))))))))))
set_option maxRecDepth 100000 in
theorem tab6:tb.code 6=some ⟨203,[(6,none)],body6⟩:=by kernel_rfl
theorem BitsLaws_ok (h:AHeap) (va:Value) (A:List LWd) (vb:Value) (B:List LWd) (vc:Value) (C:List LWd) (T:TzT h) (hm:h.mark≤h.n) (ka:SlW h va A) (kb:SlW h vb B) (kc:SlW h vc C) (la:(A.length:Int)≤1152921504606846976) (lb:(B.length:Int)≤1152921504606846976) (lc:(C.length:Int)≤1152921504606846976):
  WC Tryd.prog tb 6 [va,vb,vc] h fun r _=>r= .bool true:=by
 refine WC.of (nostub 6) tab6 ?_;simp only[mkTm,Nat.zero_add,Nat.reduceAdd]
 refine go ?_
 refine WO.con (alive_ok h T.1) ?_
 rintro _ _ ⟨rfl,rfl⟩
 by_cases cA:10<(A.length:Int)
 ·refine go ?_
  refine rt ?_
  rfl
 by_cases cB:10<(B.length:Int)
 ·refine go ?_
  refine rt ?_
  rfl
 by_cases cC:10<(C.length:Int)
 ·refine go ?_
  refine rt ?_
  rfl
 refine go ?_
 refine WO.con (check_ok h va A ka (by omega)) ?_
 rintro _ h1 ⟨rfl,e1⟩
 have E1:=e1
 by_cases hcA:zP (-1) A=true
 case neg=>
  have hcA:zP (-1) A=false:=by simpa using hcA
  rw[hcA,show errW false=8 from rfl]
  refine go ?_
  refine rt ?_
  rfl
 have oA:=okk ka hcA
 rw[hcA,show errW true=0 from rfl]
 refine go ?_
 refine WO.con (check_ok h1 vb B (SlW.ext kb E1) (by omega)) ?_
 rintro _ h2 ⟨rfl,e2⟩
 have E2:=E1.trans e2
 by_cases hcB:zP (-1) B=true
 case neg=>
  have hcB:zP (-1) B=false:=by simpa using hcB
  rw[hcB,show errW false=8 from rfl]
  refine go ?_
  refine rt ?_
  rfl
 have oB:=okk kb hcB
 rw[hcB,show errW true=0 from rfl]
 refine go ?_
 refine WO.con (check_ok h2 vc C (SlW.ext kc E2) (by omega)) ?_
 rintro _ h3 ⟨rfl,e3⟩
 have E3:=E2.trans e3
 by_cases hcC:zP (-1) C=true
 case neg=>
  have hcC:zP (-1) C=false:=by simpa using hcC
  rw[hcC,show errW false=8 from rfl]
  refine go ?_
  refine rt ?_
  rfl
 have oC:=okk kc hcC
 rw[hcC,show errW true=0 from rfl]
 have ka:=SlW.ext ka E3
 have kb:=SlW.ext kb E3
 have kc:=SlW.ext kc E3
 have hm:=(by have:=E3.mark;have:=E3.n;omega:h3.mark≤h3.n)
 obtain⟨abL,eabL⟩:∃ L,L=orL A B:=⟨_,rfl⟩
 have oab:OkW abL∧∀ n,inB abL n=(inB A n||inB B n):=by rw[eabL];exact or_is oA oB
 have lenab:abL.length≤A.length+B.length:=by rw[eabL];exact zY _ _ _
 obtain⟨baL,ebaL⟩:∃ L,L=orL B A:=⟨_,rfl⟩
 have oba:OkW baL∧∀ n,inB baL n=(inB B n||inB A n):=by rw[ebaL];exact or_is oB oA
 have lenba:baL.length≤B.length+A.length:=by rw[ebaL];exact zY _ _ _
 obtain⟨bcL,ebcL⟩:∃ L,L=orL B C:=⟨_,rfl⟩
 have obc:OkW bcL∧∀ n,inB bcL n=(inB B n||inB C n):=by rw[ebcL];exact or_is oB oC
 have lenbc:bcL.length≤B.length+C.length:=by rw[ebcL];exact zY _ _ _
 obtain⟨lL,elL⟩:∃ L,L=orL abL C:=⟨_,rfl⟩
 have ol:OkW lL∧∀ n,inB lL n=(inB abL n||inB C n):=by rw[elL];exact or_is oab.1 oC
 have lenl:lL.length≤abL.length+C.length:=by rw[elL];exact zY _ _ _
 obtain⟨rL,erL⟩:∃ L,L=orL A bcL:=⟨_,rfl⟩
 have or':OkW rL∧∀ n,inB rL n=(inB A n||inB bcL n):=by rw[erL];exact or_is oA obc.1
 have lenr:rL.length≤A.length+bcL.length:=by rw[erL];exact zY _ _ _
 obtain⟨meetL,emeetL⟩:∃ L,L=andL A B:=⟨_,rfl⟩
 have omeet:OkW meetL∧∀ n,inB meetL n=(inB A n&&inB B n):=by rw[emeetL];exact and_is oA oB
 have lenmeet:meetL.length≤A.length+B.length:=by rw[emeetL];exact zY _ _ _
 obtain⟨otherL,eotherL⟩:∃ L,L=andL A C:=⟨_,rfl⟩
 have oother:OkW otherL∧∀ n,inB otherL n=(inB A n&&inB C n):=by rw[eotherL];exact and_is oA oC
 have lenother:otherL.length≤A.length+C.length:=by rw[eotherL];exact zY _ _ _
 obtain⟨distL,edistL⟩:∃ L,L=andL A bcL:=⟨_,rfl⟩
 have odist:OkW distL∧∀ n,inB distL n=(inB A n&&inB bcL n):=by rw[edistL];exact and_is oA obc.1
 have lendist:distL.length≤A.length+bcL.length:=by rw[edistL];exact zY _ _ _
 obtain⟨sumL,esumL⟩:∃ L,L=orL meetL otherL:=⟨_,rfl⟩
 have osum:OkW sumL∧∀ n,inB sumL n=(inB meetL n||inB otherL n):=by rw[esumL];exact or_is omeet.1 oother.1
 have lensum:sumL.length≤meetL.length+otherL.length:=by rw[esumL];exact zY _ _ _
 obtain⟨leftL,eleftL⟩:∃ L,L=minL A B:=⟨_,rfl⟩
 have oleft:OkW leftL∧∀ n,inB leftL n=(inB A n&& !inB B n):=by rw[eleftL];exact min_is oA oB
 have lenleft:leftL.length≤A.length+B.length:=by rw[eleftL];exact zY _ _ _
 obtain⟨againL,eagainL⟩:∃ L,L=minL A meetL:=⟨_,rfl⟩
 have oagain:OkW againL∧∀ n,inB againL n=(inB A n&& !inB meetL n):=by rw[eagainL];exact min_is oA omeet.1
 have lenagain:againL.length≤A.length+meetL.length:=by rw[eagainL];exact zY _ _ _
 obtain⟨wholeL,ewholeL⟩:∃ L,L=orL leftL meetL:=⟨_,rfl⟩
 have owhole:OkW wholeL∧∀ n,inB wholeL n=(inB leftL n||inB meetL n):=by rw[ewholeL];exact or_is oleft.1 omeet.1
 have lenwhole:wholeL.length≤leftL.length+meetL.length:=by rw[ewholeL];exact zY _ _ _
 have q1:abL=baL:=eq_in oab.1 oba.1 fun n=>by rw[oab.2,oba.2,Bool.or_comm]
 have q2:lL=rL:=eq_in ol.1 or'.1 fun n=>by rw[ol.2,or'.2,oab.2,obc.2,Bool.or_assoc]
 have q3:distL=sumL:=eq_in odist.1 osum.1 fun n=>by rw[odist.2,osum.2,obc.2,omeet.2,oother.2];cases inB A n<;>cases inB B n<;>cases inB C n<;>rfl
 have q4:leftL=againL:=eq_in oleft.1 oagain.1 fun n=>by rw[oleft.2,oagain.2,omeet.2];cases inB A n<;>cases inB B n<;>rfl
 have q5:wholeL=A:=eq_in owhole.1 oA fun n=>by rw[owhole.2,oleft.2,omeet.2];cases inB A n<;>cases inB B n<;>rfl
 have q6:sizeL A+sizeL B=sizeL abL+sizeL meetL:=by rw[eabL,emeetL];exact size_in oA oB
 have cab:=zr oab.1
 have cba:=zr oba.1
 have cbc:=zr obc.1
 have cl:=zr ol.1
 have cr:=zr or'.1
 have cmeet:=zr omeet.1
 have cother:=zr oother.1
 have cdist:=zr odist.1
 have csum:=zr osum.1
 have cleft:=zr oleft.1
 have cagain:=zr oagain.1
 have cwhole:=zr owhole.1
 refine go ?_
 refine WO.con (or_ok h3 va vb A B ka kb (by omega) (by omega) hm) ?_
 rintro _ h4 ⟨⟨vab,rfl,mab⟩,e⟩
 rw[yJ oA oB]
 rw[yH oA oB,show zF (fun a b=>a|||b) A B=abL from eabL.symm]at mab
 have kab:=mab.sl
 clear mab
 have hm:=(by have:=e.mark;have:=e.n;omega:h4.mark≤h4.n)
 have ka:=SlW.ext ka e
 have kb:=SlW.ext kb e
 have kc:=SlW.ext kc e
 clear e
 refine go ?_
 refine WO.con (or_ok h4 vb va B A kb ka (by omega) (by omega) hm) ?_
 rintro _ h5 ⟨⟨vba,rfl,mba⟩,e⟩
 rw[yJ oB oA]
 rw[yH oB oA,show zF (fun a b=>a|||b) B A=baL from ebaL.symm]at mba
 have kba:=mba.sl
 clear mba
 have hm:=(by have:=e.mark;have:=e.n;omega:h5.mark≤h5.n)
 have ka:=SlW.ext ka e
 have kb:=SlW.ext kb e
 have kc:=SlW.ext kc e
 have kab:=SlW.ext kab e
 clear e
 refine go ?_
 refine WO.con (or_ok h5 vb vc B C kb kc (by omega) (by omega) hm) ?_
 rintro _ h6 ⟨⟨vbc,rfl,mbc⟩,e⟩
 rw[yJ oB oC]
 rw[yH oB oC,show zF (fun a b=>a|||b) B C=bcL from ebcL.symm]at mbc
 have kbc:=mbc.sl
 clear mbc
 have hm:=(by have:=e.mark;have:=e.n;omega:h6.mark≤h6.n)
 have ka:=SlW.ext ka e
 have kb:=SlW.ext kb e
 have kc:=SlW.ext kc e
 have kab:=SlW.ext kab e
 have kba:=SlW.ext kba e
 clear e
 refine go ?_
 refine WO.con (or_ok h6 vab vc abL C kab kc (by omega) (by omega) hm) ?_
 rintro _ h7 ⟨⟨vl,rfl,ml⟩,e⟩
 rw[yJ oab.1 oC]
 rw[yH oab.1 oC,show zF (fun a b=>a|||b) abL C=lL from elL.symm]at ml
 have kl:=ml.sl
 clear ml
 have hm:=(by have:=e.mark;have:=e.n;omega:h7.mark≤h7.n)
 have ka:=SlW.ext ka e
 have kb:=SlW.ext kb e
 have kc:=SlW.ext kc e
 have kab:=SlW.ext kab e
 have kba:=SlW.ext kba e
 have kbc:=SlW.ext kbc e
 clear e
 refine go ?_
 refine WO.con (or_ok h7 va vbc A bcL ka kbc (by omega) (by omega) hm) ?_
 rintro _ h8 ⟨⟨vr,rfl,mr⟩,e⟩
 rw[yJ oA obc.1]
 rw[yH oA obc.1,show zF (fun a b=>a|||b) A bcL=rL from erL.symm]at mr
 have kr:=mr.sl
 clear mr
 have hm:=(by have:=e.mark;have:=e.n;omega:h8.mark≤h8.n)
 have ka:=SlW.ext ka e
 have kb:=SlW.ext kb e
 have kc:=SlW.ext kc e
 have kab:=SlW.ext kab e
 have kba:=SlW.ext kba e
 have kbc:=SlW.ext kbc e
 have kl:=SlW.ext kl e
 clear e
 refine go ?_
 refine WO.con (and_ok h8 va vb A B ka kb (by omega) (by omega) hm) ?_
 rintro _ h9 ⟨⟨vmeet,rfl,mmeet⟩,e⟩
 rw[yJ oA oB]
 rw[yH oA oB,show zF (fun a b=>a&&& b) A B=meetL from emeetL.symm]at mmeet
 have kmeet:=mmeet.sl
 clear mmeet
 have hm:=(by have:=e.mark;have:=e.n;omega:h9.mark≤h9.n)
 have ka:=SlW.ext ka e
 have kb:=SlW.ext kb e
 have kc:=SlW.ext kc e
 have kab:=SlW.ext kab e
 have kba:=SlW.ext kba e
 have kbc:=SlW.ext kbc e
 have kl:=SlW.ext kl e
 have kr:=SlW.ext kr e
 clear e
 refine go ?_
 refine WO.con (and_ok h9 va vc A C ka kc (by omega) (by omega) hm) ?_
 rintro _ h10 ⟨⟨vother,rfl,mother⟩,e⟩
 rw[yJ oA oC]
 rw[yH oA oC,show zF (fun a b=>a&&& b) A C=otherL from eotherL.symm]at mother
 have kother:=mother.sl
 clear mother
 have hm:=(by have:=e.mark;have:=e.n;omega:h10.mark≤h10.n)
 have ka:=SlW.ext ka e
 have kb:=SlW.ext kb e
 have kc:=SlW.ext kc e
 have kab:=SlW.ext kab e
 have kba:=SlW.ext kba e
 have kbc:=SlW.ext kbc e
 have kl:=SlW.ext kl e
 have kr:=SlW.ext kr e
 have kmeet:=SlW.ext kmeet e
 clear e
 refine go ?_
 refine WO.con (and_ok h10 va vbc A bcL ka kbc (by omega) (by omega) hm) ?_
 rintro _ h11 ⟨⟨vdist,rfl,mdist⟩,e⟩
 rw[yJ oA obc.1]
 rw[yH oA obc.1,show zF (fun a b=>a&&& b) A bcL=distL from edistL.symm]at mdist
 have kdist:=mdist.sl
 clear mdist
 have hm:=(by have:=e.mark;have:=e.n;omega:h11.mark≤h11.n)
 have ka:=SlW.ext ka e
 have kb:=SlW.ext kb e
 have kc:=SlW.ext kc e
 have kab:=SlW.ext kab e
 have kba:=SlW.ext kba e
 have kbc:=SlW.ext kbc e
 have kl:=SlW.ext kl e
 have kr:=SlW.ext kr e
 have kmeet:=SlW.ext kmeet e
 have kother:=SlW.ext kother e
 clear e
 refine go ?_
 refine WO.con (or_ok h11 vmeet vother meetL otherL kmeet kother (by omega) (by omega) hm) ?_
 rintro _ h12 ⟨⟨vsum,rfl,msum⟩,e⟩
 rw[yJ omeet.1 oother.1]
 rw[yH omeet.1 oother.1,show zF (fun a b=>a|||b) meetL otherL=sumL from esumL.symm]at msum
 have ksum:=msum.sl
 clear msum
 have hm:=(by have:=e.mark;have:=e.n;omega:h12.mark≤h12.n)
 have ka:=SlW.ext ka e
 have kb:=SlW.ext kb e
 have kc:=SlW.ext kc e
 have kab:=SlW.ext kab e
 have kba:=SlW.ext kba e
 have kbc:=SlW.ext kbc e
 have kl:=SlW.ext kl e
 have kr:=SlW.ext kr e
 have kmeet:=SlW.ext kmeet e
 have kother:=SlW.ext kother e
 have kdist:=SlW.ext kdist e
 clear e
 refine go ?_
 refine WO.con (minus_ok h12 va vb A B ka kb (by omega) (by omega) hm) ?_
 rintro _ h13 ⟨⟨vleft,rfl,mleft⟩,e⟩
 rw[yJ oA oB]
 rw[yH oA oB,show zF notN A B=leftL from eleftL.symm]at mleft
 have kleft:=mleft.sl
 clear mleft
 have hm:=(by have:=e.mark;have:=e.n;omega:h13.mark≤h13.n)
 have ka:=SlW.ext ka e
 have kb:=SlW.ext kb e
 have kc:=SlW.ext kc e
 have kab:=SlW.ext kab e
 have kba:=SlW.ext kba e
 have kbc:=SlW.ext kbc e
 have kl:=SlW.ext kl e
 have kr:=SlW.ext kr e
 have kmeet:=SlW.ext kmeet e
 have kother:=SlW.ext kother e
 have kdist:=SlW.ext kdist e
 have ksum:=SlW.ext ksum e
 clear e
 refine go ?_
 refine WO.con (minus_ok h13 va vmeet A meetL ka kmeet (by omega) (by omega) hm) ?_
 rintro _ h14 ⟨⟨vagain,rfl,magain⟩,e⟩
 rw[yJ oA omeet.1]
 rw[yH oA omeet.1,show zF notN A meetL=againL from eagainL.symm]at magain
 have kagain:=magain.sl
 clear magain
 have hm:=(by have:=e.mark;have:=e.n;omega:h14.mark≤h14.n)
 have ka:=SlW.ext ka e
 have kb:=SlW.ext kb e
 have kc:=SlW.ext kc e
 have kab:=SlW.ext kab e
 have kba:=SlW.ext kba e
 have kbc:=SlW.ext kbc e
 have kl:=SlW.ext kl e
 have kr:=SlW.ext kr e
 have kmeet:=SlW.ext kmeet e
 have kother:=SlW.ext kother e
 have kdist:=SlW.ext kdist e
 have ksum:=SlW.ext ksum e
 have kleft:=SlW.ext kleft e
 clear e
 refine go ?_
 refine WO.con (or_ok h14 vleft vmeet leftL meetL kleft kmeet (by omega) (by omega) hm) ?_
 rintro _ h15 ⟨⟨vwhole,rfl,mwhole⟩,e⟩
 rw[yJ oleft.1 omeet.1]
 rw[yH oleft.1 omeet.1,show zF (fun a b=>a|||b) leftL meetL=wholeL from ewholeL.symm]at mwhole
 have kwhole:=mwhole.sl
 clear mwhole
 have hm:=(by have:=e.mark;have:=e.n;omega:h15.mark≤h15.n)
 have ka:=SlW.ext ka e
 have kb:=SlW.ext kb e
 have kc:=SlW.ext kc e
 have kab:=SlW.ext kab e
 have kba:=SlW.ext kba e
 have kbc:=SlW.ext kbc e
 have kl:=SlW.ext kl e
 have kr:=SlW.ext kr e
 have kmeet:=SlW.ext kmeet e
 have kother:=SlW.ext kother e
 have kdist:=SlW.ext kdist e
 have ksum:=SlW.ext ksum e
 have kleft:=SlW.ext kleft e
 have kagain:=SlW.ext kagain e
 clear e
 refine go ?_
 refine WO.con (size_ok h15 va A ka (by omega)) ?_
 rintro _ h16 ⟨rfl,e⟩
 rw[hcA,if_pos rfl,show errW true=0 from rfl]
 have ka:=SlW.ext ka e
 have kb:=SlW.ext kb e
 have kc:=SlW.ext kc e
 have kab:=SlW.ext kab e
 have kba:=SlW.ext kba e
 have kbc:=SlW.ext kbc e
 have kl:=SlW.ext kl e
 have kr:=SlW.ext kr e
 have kmeet:=SlW.ext kmeet e
 have kother:=SlW.ext kother e
 have kdist:=SlW.ext kdist e
 have ksum:=SlW.ext ksum e
 have kleft:=SlW.ext kleft e
 have kagain:=SlW.ext kagain e
 have kwhole:=SlW.ext kwhole e
 clear e
 refine go ?_
 refine WO.con (size_ok h16 vb B kb (by omega)) ?_
 rintro _ h17 ⟨rfl,e⟩
 rw[hcB,if_pos rfl,show errW true=0 from rfl]
 have ka:=SlW.ext ka e
 have kb:=SlW.ext kb e
 have kc:=SlW.ext kc e
 have kab:=SlW.ext kab e
 have kba:=SlW.ext kba e
 have kbc:=SlW.ext kbc e
 have kl:=SlW.ext kl e
 have kr:=SlW.ext kr e
 have kmeet:=SlW.ext kmeet e
 have kother:=SlW.ext kother e
 have kdist:=SlW.ext kdist e
 have ksum:=SlW.ext ksum e
 have kleft:=SlW.ext kleft e
 have kagain:=SlW.ext kagain e
 have kwhole:=SlW.ext kwhole e
 clear e
 refine go ?_
 refine WO.con (size_ok h17 vab abL kab (by omega)) ?_
 rintro _ h18 ⟨rfl,e⟩
 rw[cab,if_pos rfl,show errW true=0 from rfl]
 have ka:=SlW.ext ka e
 have kb:=SlW.ext kb e
 have kc:=SlW.ext kc e
 have kab:=SlW.ext kab e
 have kba:=SlW.ext kba e
 have kbc:=SlW.ext kbc e
 have kl:=SlW.ext kl e
 have kr:=SlW.ext kr e
 have kmeet:=SlW.ext kmeet e
 have kother:=SlW.ext kother e
 have kdist:=SlW.ext kdist e
 have ksum:=SlW.ext ksum e
 have kleft:=SlW.ext kleft e
 have kagain:=SlW.ext kagain e
 have kwhole:=SlW.ext kwhole e
 clear e
 refine go ?_
 refine WO.con (size_ok h18 vmeet meetL kmeet (by omega)) ?_
 rintro _ h19 ⟨rfl,e⟩
 rw[cmeet,if_pos rfl,show errW true=0 from rfl]
 have ka:=SlW.ext ka e
 have kb:=SlW.ext kb e
 have kc:=SlW.ext kc e
 have kab:=SlW.ext kab e
 have kba:=SlW.ext kba e
 have kbc:=SlW.ext kbc e
 have kl:=SlW.ext kl e
 have kr:=SlW.ext kr e
 have kmeet:=SlW.ext kmeet e
 have kother:=SlW.ext kother e
 have kdist:=SlW.ext kdist e
 have ksum:=SlW.ext ksum e
 have kleft:=SlW.ext kleft e
 have kagain:=SlW.ext kagain e
 have kwhole:=SlW.ext kwhole e
 clear e
 refine go ?_
 refine WO.con (same_ok h19 vab vba abL baL kab kba (by omega)) ?_
 rintro _ _ ⟨rfl,rfl⟩
 rw[decide_eq_true q1]
 refine go ?_
 refine WO.con (same_ok h19 vl vr lL rL kl kr (by omega)) ?_
 rintro _ _ ⟨rfl,rfl⟩
 rw[decide_eq_true q2]
 refine go ?_
 refine WO.con (same_ok h19 vdist vsum distL sumL kdist ksum (by omega)) ?_
 rintro _ _ ⟨rfl,rfl⟩
 rw[decide_eq_true q3]
 refine go ?_
 refine WO.con (same_ok h19 vleft vagain leftL againL kleft kagain (by omega)) ?_
 rintro _ _ ⟨rfl,rfl⟩
 rw[decide_eq_true q4]
 refine go ?_
 refine WO.con (same_ok h19 vwhole va wholeL A kwhole ka (by omega)) ?_
 rintro _ _ ⟨rfl,rfl⟩
 rw[decide_eq_true q5]
 have z1:=sizeL_le A
 have z2:=sizeL_le B
 have z3:=sizeL_le abL
 have z4:=sizeL_le meetL
 refine go ?_
 refine rt ?_
 show Value.bool _=_
 rw[decide_eq_true q6]
end Go.Proofs.YtejjibilgmlhdaaDoor
namespace Go.Proofs.YtejjibilgmlhdaaDoor
open Go.Am
set_option linter.unusedVariables false
set_option linter.unusedSimpArgs false
theorem wf_u64 {n:Int} (h:(Lit.int .u64 n).wf=true):0≤n∧n≤18446744073709551615:=by
 simp[Lit.wf,IntKind.wrap,IntKind.signed,IntKind.bits]at h
 have h1:IntKind.min .u64=0:=by decide
 have h2:IntKind.max .u64=18446744073709551615:=by decide
 omega
theorem wf_i64 {n:Int} (h:(Lit.int .i64 n).wf=true): -9223372036854775808≤n∧n≤9223372036854775807:=by
 simp[Lit.wf,IntKind.wrap,IntKind.signed,IntKind.bits]at h
 have h1:IntKind.min .i64= -9223372036854775808:=by decide
 have h2:IntKind.max .i64=9223372036854775807:=by decide
 omega
theorem lenW2 {l:List Value} (h:l.length=2):∃ a b,l=[a,b]:=by
 match l,h with
 |[a,b],_=>exact⟨a,b,rfl⟩
theorem rd_word {H:Type} {h:AHeap} (cs:List Value) (d:DataW H) (r:Rd Tryd.prog h 52 cs d) (hw:wOk Tryd.prog 52 d):∃ a,RW h cs a:=by
 obtain⟨hl,hr⟩:=rd_structW r Tryd.underlying52 hw
 have hc:Tryd.prog.cellsOf 52=2:=by kernel_rfl
 rw[hc]at hl
 obtain⟨x0,x1,rfl⟩:=lenW2 hl
 obtain⟨d0,r0,w0⟩:=hr 0 _ rfl
 have c0:Tryd.prog.cellsOf 3=1:=by kernel_rfl
 replace r0:Rd Tryd.prog h 3 (([x0,x1].drop 0).take (Tryd.prog.cellsOf 3)) d0:=r0
 rw[c0]at r0
 replace r0:Rd Tryd.prog h 3 [x0] d0:=r0
 obtain⟨d1,r1,w1⟩:=hr 1 _ rfl
 have c1:Tryd.prog.cellsOf 50=1:=by kernel_rfl
 replace r1:Rd Tryd.prog h 50 (([x0,x1].drop 1).take (Tryd.prog.cellsOf 50)) d1:=r1
 rw[c1]at r1
 replace r1:Rd Tryd.prog h 50 [x1] d1:=r1
 obtain⟨a,e0,f0⟩:=rd_int r0 Tryd.underlying3
 cases e0
 obtain⟨b,e1,f1⟩:=rd_int r1 Tryd.underlying50
 cases e1
 have g0:=wf_i64 f0
 have g1:=wf_u64 f1
 obtain⟨m,rfl⟩:∃ m:Nat,b=m:=⟨b.toNat,by omega⟩
 exact⟨⟨a,m⟩,rfl,by simp only;omega,g0.1,g0.2⟩
end Go.Proofs.YtejjibilgmlhdaaDoor
