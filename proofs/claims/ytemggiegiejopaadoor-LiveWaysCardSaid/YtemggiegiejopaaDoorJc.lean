/- What functions of the program come to in the abstract machine, and plain laws about it; no statement of the seat is proved in this text. -/
import Derived.Test.YtemggiegiejopaaDoorJb
import Derived.Test.YtemggiegiejopaaDoorJa
import Derived.Test.YtemggiegiejopaaDoorAmU
import Derived.Test.YtemggiegiejopaaDoorAmV
namespace Go.Proofs.YtemggiegiejopaaDoor
open Go.Am
set_option linter.unusedVariables false
set_option linter.unusedSimpArgs false
set_option maxHeartbeats 400000
set_option maxRecDepth 100000 in
theorem len8_all:∀ i:Nat,i<256→(match (⟨#[0,1,2,2,3,3,3,3,4,4,4,4,4,4,4,4,5,5,5,5,5,5,5,5,5,5,5,5,5,5,5,5,6,6,6,6,6,6,6,6,6,6,6,6,6,6,6,6,6,6,6,6,6,6,6,6,6,6,6,6,6,6,6,6,7,7,7,7,7,7,7,7,7,7,7,7,7,7,7,7,7,7,7,7,7,7,7,7,7,7,7,7,7,7,7,7,7,7,7,7,7,7,7,7,7,7,7,7,7,7,7,7,7,7,7,7,7,7,7,7,7,7,7,7,7,7,7,7,8,8,8,8,8,8,8,8,8,8,8,8,8,8,8,8,8,8,8,8,8,8,8,8,8,8,8,8,8,8,8,8,8,8,8,8,8,8,8,8,8,8,8,8,8,8,8,8,8,8,8,8,8,8,8,8,8,8,8,8,8,8,8,8,8,8,8,8,8,8,8,8,8,8,8,8,8,8,8,8,8,8,8,8,8,8,8,8,8,8,8,8,8,8,8,8,8,8,8,8,8,8,8,8,8,8,8,8,8,8,8,8,8,8,8,8,8,8,8,8,8,8,8,8,8,8,8,8]⟩:ByteArray)[i]? with|some b=>Nat.ble b.toNat 8&&(Nat.beq i 0||Nat.ble (2 ^ b.toNat) (2 * i))|none=>false)=true:=by decide+kernel
theorem len8_at {i:Nat} (h:i<256):∃ b:UInt8,(⟨#[0,1,2,2,3,3,3,3,4,4,4,4,4,4,4,4,5,5,5,5,5,5,5,5,5,5,5,5,5,5,5,5,6,6,6,6,6,6,6,6,6,6,6,6,6,6,6,6,6,6,6,6,6,6,6,6,6,6,6,6,6,6,6,6,7,7,7,7,7,7,7,7,7,7,7,7,7,7,7,7,7,7,7,7,7,7,7,7,7,7,7,7,7,7,7,7,7,7,7,7,7,7,7,7,7,7,7,7,7,7,7,7,7,7,7,7,7,7,7,7,7,7,7,7,7,7,7,7,8,8,8,8,8,8,8,8,8,8,8,8,8,8,8,8,8,8,8,8,8,8,8,8,8,8,8,8,8,8,8,8,8,8,8,8,8,8,8,8,8,8,8,8,8,8,8,8,8,8,8,8,8,8,8,8,8,8,8,8,8,8,8,8,8,8,8,8,8,8,8,8,8,8,8,8,8,8,8,8,8,8,8,8,8,8,8,8,8,8,8,8,8,8,8,8,8,8,8,8,8,8,8,8,8,8,8,8,8,8,8,8,8,8,8,8,8,8,8,8,8,8,8,8,8,8,8,8]⟩:ByteArray)[i]?=some b∧b.toNat≤8∧(i≠0→2 ^ b.toNat≤2 * i):=by
 have:=len8_all i h
 split at this
 ·rename_i b hb
  rw[Bool.and_eq_true,Bool.or_eq_true]at this
  refine⟨b,hb,Nat.le_of_ble_eq_true this.1,fun hi=> ?_⟩
  rcases this.2 with h2|h2
  ·exact absurd (Nat.eq_of_beq_eq_true h2) hi
  ·exact Nat.le_of_ble_eq_true h2
 ·cases this
noncomputable def body94:ACode:=(.seq (.region [⟨some 2,none,(.mov (.const (.int .i64 0)))⟩]) (.seq (.seq (.region [⟨some 3,none,(.mov (.tmp 0))⟩,⟨some 4,none,(.bin .geq (.tmp 3) (.const (.int .u64 4294967296)))⟩]) (.cond (.tmp 4) (.seq (.region [⟨some 5,none,(.mov (.tmp 0))⟩,⟨some 6,none,(.bin .shr (.tmp 5) (.const (.int .u64 32)))⟩,⟨some 0,none,(.mov (.tmp 6))⟩]) (.region [⟨some 2,none,(.mov (.const (.int .i64 32)))⟩])) .skip)) (.seq (.seq (.region [⟨some 7,none,(.mov (.tmp 0))⟩,⟨some 8,none,(.bin .geq (.tmp 7) (.const (.int .u64 65536)))⟩]) (.cond (.tmp 8) (.seq (.region [⟨some 9,none,(.mov (.tmp 0))⟩,⟨some 10,none,(.bin .shr (.tmp 9) (.const (.int .u64 16)))⟩,⟨some 0,none,(.mov (.tmp 10))⟩]) (.region [⟨some 11,none,(.mov (.tmp 2))⟩,⟨some 12,none,(.bin .add (.tmp 11) (.const (.int .i64 16)))⟩,⟨some 2,none,(.mov (.tmp 12))⟩])) .skip)) (.seq (.seq (.region [⟨some 13,none,(.mov (.tmp 0))⟩,⟨some 14,none,(.bin .geq (.tmp 13) (.const (.int .u64 256)))⟩]) (.cond (.tmp 14) (.seq (.region [⟨some 15,none,(.mov (.tmp 0))⟩,⟨some 16,none,(.bin .shr (.tmp 15) (.const (.int .u64 8)))⟩,⟨some 0,none,(.mov (.tmp 16))⟩]) (.region [⟨some 17,none,(.mov (.tmp 2))⟩,⟨some 18,none,(.bin .add (.tmp 17) (.const (.int .i64 8)))⟩,⟨some 2,none,(.mov (.tmp 18))⟩])) .skip)) (.seq (.region [⟨some 19,none,(.mov (.tmp 2))⟩,⟨some 20,none,(.mov (.tmp 0))⟩,⟨some 21,none,(.conv .u8 (.tmp 20))⟩,⟨some 22,none,(.elemStr (.const (.string ⟨#[0,1,2,2,3,3,3,3,4,4,4,4,4,4,4,4,5,5,5,5,5,5,5,5,5,5,5,5,5,5,5,5,6,6,6,6,6,6,6,6,6,6,6,6,6,6,6,6,6,6,6,6,6,6,6,6,6,6,6,6,6,6,6,6,7,7,7,7,7,7,7,7,7,7,7,7,7,7,7,7,7,7,7,7,7,7,7,7,7,7,7,7,7,7,7,7,7,7,7,7,7,7,7,7,7,7,7,7,7,7,7,7,7,7,7,7,7,7,7,7,7,7,7,7,7,7,7,7,8,8,8,8,8,8,8,8,8,8,8,8,8,8,8,8,8,8,8,8,8,8,8,8,8,8,8,8,8,8,8,8,8,8,8,8,8,8,8,8,8,8,8,8,8,8,8,8,8,8,8,8,8,8,8,8,8,8,8,8,8,8,8,8,8,8,8,8,8,8,8,8,8,8,8,8,8,8,8,8,8,8,8,8,8,8,8,8,8,8,8,8,8,8,8,8,8,8,8,8,8,8,8,8,8,8,8,8,8,8,8,8,8,8,8,8,8,8,8,8,8,8,8,8,8,8,8,8]⟩)) (.tmp 21))⟩,⟨some 23,none,(.conv .i64 (.tmp 22))⟩,⟨some 24,none,(.bin .add (.tmp 19) (.tmp 23))⟩,⟨some 2,none,(.mov (.tmp 24))⟩]) .ret)))))
set_option maxRecDepth 100000 in
theorem tab94:tb.code 94=some ⟨25,[(2,none)],body94⟩:=by kernel_rfl
theorem len64_ok (h:AHeap) (n:Int) (h0:0≤n) (h1:n≤2000000000):
  WC Tryd.prog tb 94 [.int .u64 n] h fun r h'=>(∃ k:Nat,r=I k∧k≤40∧(n≠0→2 ^ k≤2 * n))∧h=h':=by
 refine WC.of (zF 94) tab94 ?_;simp only[zO,Nat.zero_add,Nat.reduceAdd]
 refine go ?_
 refine WX.cutA [9,10,0,11,12,2] (by kernel_rfl) (fun t h'=>h=h'∧∃ (m:Int) (k:Nat),zC t 0= .int .u64 m∧zC t 2=I k∧(0≤m∧m≤65535∧k≤16)∧(n≠0→m≠0)∧(n≠0→∀ j:Nat,2 ^ j≤2 * m→2 ^ (k+j)≤2 * n)) ?_ ?_
 ·refine WX.br (fun hb=> ?_) (fun hb=> ?_)<;>simp only[DB]at hb<;>refine go ?_
  ·refine WO.bin (vx:= .int .u64 n) (vy:= .int .u64 16) ze rfl (shr16 h0) ?_
   refine go ?_
   refine zE ⟨rfl,n / 65536,16,sl_,sl_,by omega,by omega,fun _ j hj=> ?_⟩
   rw[Int.pow_add]
   have e:(2:Int) ^ 16=65536:=rfl
   rw[e]
   generalize (2:Int) ^ j=z at hj ⊢
   omega
  ·exact zE ⟨rfl,n,0,sl_,sl_,by omega,id,fun _ j hj=>by rw[Nat.zero_add];exact hj⟩
 rintro t1 _ hs1 ⟨rfl,m,k,s0,s2,hm,hz,hj⟩
 refine go ?_
 refine WX.cutA [15,16,0,17,18,2] (by kernel_rfl) (fun t h'=>h=h'∧∃ (m:Int) (k:Nat),zC t 0= .int .u64 m∧zC t 2=I k∧(0≤m∧m≤255∧k≤24)∧(n≠0→m≠0)∧(n≠0→∀ j:Nat,2 ^ j≤2 * m→2 ^ (k+j)≤2 * n)) ?_ ?_
 ·refine WX.br (fun hb=> ?_) (fun hb=> ?_)<;>simp only[DB]at hb<;>refine go ?_
  ·refine WO.bin (vx:= .int .u64 m) (vy:= .int .u64 8) ze rfl (shr8 hm.1) ?_
   refine go ?_
   refine zE ⟨rfl,m / 256,k+8,sl_,sl_,by omega,by omega,fun hn j hj2=> ?_⟩
   have:=hj hn (8+j) (by
    rw[Int.pow_add]
    have e:(2:Int) ^ 8=256:=rfl
    rw[e]
    generalize (2:Int) ^ j=z at hj2 ⊢
    omega)
   rw[Nat.add_assoc];exact this
  ·exact zE ⟨rfl,m,k,sl_,sl_,by omega,hz,hj⟩
 clear hj hz hm s0 s2
 rintro t2 _ hs2 ⟨rfl,m,k,s0,s2,hm,hz,hj⟩
 obtain⟨b,hb1,hb2,hb3⟩:=len8_at (i:=m.toNat) (by omega)
 refine go ?_
 have e2:asN (.int .u8 m)=some m.toNat:=by
  obtain⟨q,rfl⟩:∃ q:Nat,m=q:=⟨m.toNat,by omega⟩
  rfl
 rw[wrapU8 (by omega) (by omega)]
 refine WO.eStr hb1 e2 ?_
 refine go ?_
 refine rt ?_
 refine⟨⟨k+b.toNat,by simp[one],by omega,fun hn=>hj hn _ ?_⟩,rfl⟩
 have:=hb3 (by have:=hz hn;omega)
 have h2:((2 ^ b.toNat:Nat):Int)≤((2 * m.toNat:Nat):Int):=by exact_mod_cast this
 rw[Int.natCast_pow]at h2
 have h3:((2 * m.toNat:Nat):Int)=2 * m:=by omega
 rw[h3]at h2
 exact h2
noncomputable def body73:ACode:=(.seq (.region [⟨some 2,none,(.mov (.const (.int .i64 0)))⟩]) (.seq (.cond (.const (.bool false)) (.seq (.region [⟨some 3,none,(.mov (.tmp 0))⟩,⟨some 4,none,(.conv .u32 (.tmp 3))⟩,⟨some 5,none,(.call (.func 93) [(.tmp 4)])⟩,⟨some 2,none,(.mov (.tmp 5))⟩]) .ret) .skip) (.seq (.region [⟨some 6,none,(.mov (.tmp 0))⟩,⟨some 7,none,(.call (.func 94) [(.tmp 6)])⟩,⟨some 2,none,(.mov (.tmp 7))⟩]) .ret)))
set_option maxRecDepth 100000 in
theorem tab73:tb.code 73=some ⟨8,[(2,none)],body73⟩:=by kernel_rfl
theorem len_ok (h:AHeap) (n:Int) (h0:0≤n) (h1:n≤2000000000):
  WC Tryd.prog tb 73 [.int .u64 n] h fun r h'=>(∃ k:Nat,r=I k∧k≤40∧(n≠0→2 ^ k≤2 * n))∧h=h':=by
 refine WC.of (zF 73) tab73 ?_;simp only[zO,Nat.zero_add,Nat.reduceAdd]
 refine go ?_
 refine WO.con (len64_ok h n h0 h1) ?_
 rintro _ _ ⟨⟨k,rfl,hk⟩,rfl⟩
 refine go ?_
 refine rt ?_
 exact⟨⟨k,rfl,hk⟩,rfl⟩
noncomputable def body99:ACode:=(.seq (.region [⟨some 2,none,(.mov (.const (.int .u64 0)))⟩]) (.seq (.region [⟨some 3,none,(.mov (.tmp 0))⟩,⟨some 4,none,(.conv .u64 (.tmp 3))⟩,⟨some 5,none,(.call (.func 73) [(.tmp 4)])⟩,⟨some 6,none,(.bin .shl (.const (.int .u64 1)) (.tmp 5))⟩,⟨some 2,none,(.mov (.tmp 6))⟩]) .ret))
set_option maxRecDepth 100000 in
theorem tab99:tb.code 99=some ⟨7,[(2,none)],body99⟩:=by kernel_rfl
theorem power_ok (h:AHeap) (n:Int) (h0:1≤n) (h1:n≤2000000000):
  WC Tryd.prog tb 99 [I n] h fun r h'=>(∃ m:Int,r= .int .u64 m∧1≤m∧m≤2 * n)∧h=h':=by
 refine WC.of (zF 99) tab99 ?_;simp only[zO,Nat.zero_add,Nat.reduceAdd]
 refine go ?_
 rw[Zv (by omega) (by omega)]
 refine WO.con (len_ok h n (by omega) h1) ?_
 rintro _ _ ⟨⟨k,rfl,hk,hk2⟩,rfl⟩
 have hk3:=hk2 (by omega)
 have hpos:(0:Int)<2 ^ k:=Int.pow_pos (by decide)
 refine go ?_
 refine WO.bin (vx:= .int .u64 1) (vy:=I k) (v:= .int .u64 (2 ^ k)) rfl ze (by
  simp only[zi,IntKind.bits]
  rw[if_neg (by omega),Int.toNat_natCast,Nat.min_eq_left (by omega),Int.one_mul,Zv (by omega) (by omega)]) ?_
 refine go ?_
 refine rt ?_
 exact⟨⟨_,rfl,by omega,hk3⟩,rfl⟩
noncomputable def body100:ACode:=(.seq (.region [⟨some 2,none,(.mov (.const (.int .u64 0)))⟩]) (.seq (.regionC [(⟨some 3,none,(.mov (.tmp 0))⟩,[]),(⟨some 4,none,(.nilCheck (.tmp 3))⟩,[]),(⟨some 5,none,(.load false 1 (.tmp 4))⟩,[]),(⟨some 6,none,(.mov (.tmp 0))⟩,[]),(⟨some 7,none,(.nilCheck (.tmp 6))⟩,[]),(⟨some 8,none,(.load false 1 (.tmp 7))⟩,[]),(⟨some 9,none,(.bin .shl (.tmp 8) (.const (.int .u64 13)))⟩,[]),(⟨some 10,none,(.bin .xor (.tmp 5) (.tmp 9))⟩,[]),(⟨some 11,none,(.nilCheck (.tmp 3))⟩,[]),(⟨none,none,(.store 1 (.tmp 11) (.tmp 10))⟩,[])]) (.seq (.regionC [(⟨some 12,none,(.mov (.tmp 0))⟩,[]),(⟨some 13,none,(.nilCheck (.tmp 12))⟩,[]),(⟨some 14,none,(.load false 1 (.tmp 13))⟩,[]),(⟨some 15,none,(.mov (.tmp 0))⟩,[]),(⟨some 16,none,(.nilCheck (.tmp 15))⟩,[]),(⟨some 17,none,(.load false 1 (.tmp 16))⟩,[]),(⟨some 18,none,(.bin .shr (.tmp 17) (.const (.int .u64 7)))⟩,[]),(⟨some 19,none,(.bin .xor (.tmp 14) (.tmp 18))⟩,[]),(⟨some 20,none,(.nilCheck (.tmp 12))⟩,[]),(⟨none,none,(.store 1 (.tmp 20) (.tmp 19))⟩,[])]) (.seq (.regionC [(⟨some 21,none,(.mov (.tmp 0))⟩,[]),(⟨some 22,none,(.nilCheck (.tmp 21))⟩,[]),(⟨some 23,none,(.load false 1 (.tmp 22))⟩,[]),(⟨some 24,none,(.mov (.tmp 0))⟩,[]),(⟨some 25,none,(.nilCheck (.tmp 24))⟩,[]),(⟨some 26,none,(.load false 1 (.tmp 25))⟩,[]),(⟨some 27,none,(.bin .shl (.tmp 26) (.const (.int .u64 17)))⟩,[]),(⟨some 28,none,(.bin .xor (.tmp 23) (.tmp 27))⟩,[]),(⟨some 29,none,(.nilCheck (.tmp 21))⟩,[]),(⟨none,none,(.store 1 (.tmp 29) (.tmp 28))⟩,[])]) (.seq (.region [⟨some 30,none,(.mov (.tmp 0))⟩,⟨some 31,none,(.nilCheck (.tmp 30))⟩,⟨some 32,none,(.load false 1 (.tmp 31))⟩,⟨some 2,none,(.mov (.tmp 32))⟩]) .ret)))))
set_option maxRecDepth 100000 in
theorem tab100:tb.code 100=some ⟨33,[(2,none)],body100⟩:=by kernel_rfl
theorem next_rnd (h0 h:AHeap) (p:Value) (n:Int) (e0:Ext h0 h) (hm:h0.mark≤h0.n) (o:OwnC h0 h p [.int .u64 n]):
  WC Tryd.prog tb 100 [p] h fun r h'=>(∃ m:Int,r= .int .u64 m∧OwnC h0 h' p [.int .u64 m])∧Ext h0 h'∧UpdC p h h':=by
 obtain⟨g,rfl⟩:∃ g,p= .pointer (some ⟨g,0,none⟩):=let ⟨g,_,_,e,_⟩:=o;⟨g,e⟩
 have shl:∀ (a:Int) (b:Int),0≤b→∃ r,zi .shl (.int .u64 a) (.int .u64 b)=some (.int .u64 r):=fun a b hb=>⟨_,by simp only[zi];rw[if_neg (by omega)]⟩
 have shr:∀ (a:Int) (b:Int),0≤b→∃ r,zi .shr (.int .u64 a) (.int .u64 b)=some (.int .u64 r):=fun a b hb=>⟨_,by simp only[zi];rw[if_neg (by omega)]⟩
 have xor:∀ (a b:Int),∃ r,zi .xor (.int .u64 a) (.int .u64 b)=some (.int .u64 r):=fun a b=>⟨_,by simp only[zi,if_true];rfl⟩
 refine WC.of (zF 100) tab100 ?_;simp only[zO,Nat.zero_add,Nat.reduceAdd]
 refine go ?_
 refine WX.regionU2 0 rfl rfl ?_
 have oX:OwnC h0 (inC (zB 0 h)) (.pointer (some ⟨g,0,none⟩)) [.int .u64 n]:=o
 refine goU ?_
 obtain⟨r1,hr1⟩:=shl n 13 (by decide)
 refine WO.bin ze rfl hr1 ?_
 refine WO.nil ?_
 refine yU ?_
 refine goU ?_
 obtain⟨x1,hx1⟩:=xor n r1
 refine WO.bin ze ze hx1 ?_
 refine WO.nil ?_
 refine yU ?_
 refine goU ?_
 refine WU2.stN [.int .u64 x1] o e0 (by rw[e0.mark];exact hm) ?_
 intro h1 e1 o1 u1
 refine go ?_
 refine WX.regionU2 0 rfl rfl ?_
 have oX1:OwnC h0 (inC (zB 0 h1)) (.pointer (some ⟨g,0,none⟩)) [.int .u64 x1]:=o1
 refine goU ?_
 obtain⟨r2,hr2⟩:=shr x1 7 (by decide)
 refine WO.bin ze rfl hr2 ?_
 refine WO.nil ?_
 refine yU ?_
 refine goU ?_
 obtain⟨x2,hx2⟩:=xor x1 r2
 refine WO.bin ze ze hx2 ?_
 refine WO.nil ?_
 refine yU ?_
 refine goU ?_
 refine WU2.stN [.int .u64 x2] o1 e1 (by rw[e1.mark];exact hm) ?_
 intro h2 e2 o2 u2
 refine go ?_
 refine WX.regionU2 0 rfl rfl ?_
 have oX2:OwnC h0 (inC (zB 0 h2)) (.pointer (some ⟨g,0,none⟩)) [.int .u64 x2]:=o2
 refine goU ?_
 obtain⟨r3,hr3⟩:=shl x2 17 (by decide)
 refine WO.bin ze rfl hr3 ?_
 refine WO.nil ?_
 refine yU ?_
 refine goU ?_
 obtain⟨x3,hx3⟩:=xor x2 r3
 refine WO.bin ze ze hx3 ?_
 refine WO.nil ?_
 refine yU ?_
 refine goU ?_
 refine WU2.stN [.int .u64 x3] o2 e2 (by rw[e2.mark];exact hm) ?_
 intro h3 e3 o3 u3
 refine go ?_
 refine rt ?_
 exact⟨⟨x3,rfl,o3⟩,e3,(u1.trans u2).trans u3⟩
noncomputable def body104:ACode:=(.seq (.region [⟨some 8,none,(.mov (.const (.int .i64 0)))⟩,⟨some 9,none,(.mov (.const (.int .i64 0)))⟩]) (.seq (.seq (.regionC [(⟨some 10,none,(.mov (.tmp 0))⟩,[]),(⟨some 11,none,(.mov (.tmp 2))⟩,[]),(⟨some 12,none,(.idx 1 (.tmp 10) (.tmp 11))⟩,[]),(⟨some 13,none,(.load false 1 (.tmp 12))⟩,[]),(⟨some 14,none,(.mov (.tmp 0))⟩,[]),(⟨some 15,none,(.mov (.tmp 1))⟩,[]),(⟨some 16,none,(.idx 1 (.tmp 14) (.tmp 15))⟩,[]),(⟨some 17,none,(.load false 1 (.tmp 16))⟩,[]),(⟨some 18,none,(.call (.func 90) [(.tmp 13),(.tmp 17)])⟩,[])]) (.cond (.tmp 18) (.seq (.region [⟨some 19,none,(.mov (.tmp 3))⟩,⟨some 20,none,(.nilCheck (.tmp 19))⟩,⟨some 21,none,(.load false 1 (.tmp 20))⟩,⟨some 22,none,(.bin .add (.tmp 21) (.const (.int .i64 1)))⟩,⟨some 23,none,(.nilCheck (.tmp 19))⟩,⟨none,none,(.store 1 (.tmp 23) (.tmp 22))⟩]) (.seq (.region [⟨some 24,none,(.mov (.tmp 2))⟩,⟨some 25,none,(.mov (.tmp 1))⟩,⟨some 8,none,(.mov (.tmp 24))⟩,⟨some 9,none,(.mov (.tmp 25))⟩]) .ret)) .skip)) (.seq (.region [⟨some 26,none,(.mov (.tmp 1))⟩,⟨some 27,none,(.mov (.tmp 2))⟩,⟨some 8,none,(.mov (.tmp 26))⟩,⟨some 9,none,(.mov (.tmp 27))⟩]) .ret)))
set_option maxRecDepth 100000 in
theorem tab104:tb.code 104=some ⟨28,[(8,none),(9,none)],body104⟩:=by kernel_rfl
theorem zCG (h0 h:AHeap) (v p:Value) (xs:List Int) (a b n:Int) (e0:Ext h0 h) (s:SlI h0 v xs) (o:OwnC h0 h p [I n]) (hn:0≤n∧n≤1000) (ha:0≤a∧a<xs.length) (hb:0≤b∧b<xs.length):
  WC Tryd.prog tb 104 [v,I a,I b,p] h fun r h'=>(∃ c d m:Int,r= .tuple #[I c,I d]∧((c=a∧d=b)∨(c=b∧d=a))∧(0≤m∧m≤n+1)∧OwnC h0 h' p [I m])∧Ext h0 h':=by
 obtain⟨g,rfl⟩:∃ g,p= .pointer (some ⟨g,0,none⟩):=let ⟨g,_,_,e,_⟩:=o;⟨g,e⟩
 refine WC.of (zF 104) tab104 ?_;simp only[zO,Nat.zero_add,Nat.reduceAdd]
 refine go ?_
 refine WX.regionU2 0 rfl rfl ?_
 have srX:SlI (inC (zB 0 h)) v xs:=by have:=s.ext e0;exact this
 refine goU ?_
 refine WO.con (yz _ (atI xs b) (atI xs a)) ?_
 rintro _ _ ⟨rfl,rfl⟩
 refine WO.nil ?_
 refine yU ?_
 refine goU ?_
 rw[Yx]
 refine WX.br (fun he=> ?_) (fun he=> ?_)<;>simp only[DB]at he<;>refine go ?_
 ·refine WO.stC0 o e0 ?_
  intro h1 e1 o1 _
  refine go ?_
  refine rt ?_
  exact⟨⟨b,a,n+1,rfl,.inr ⟨rfl,rfl⟩,by omega,o1⟩,e1⟩
 ·refine rt ?_
  exact⟨⟨a,b,n,rfl,.inl ⟨rfl,rfl⟩,by omega,o⟩,e0⟩
noncomputable def body102:ACode:=(.seq (.region [⟨some 10,none,(.mov (.const (.int .i64 0)))⟩]) (.seq (.region [⟨some 12,none,(.mov (.tmp 0))⟩,⟨some 13,none,(.mov (.tmp 1))⟩,⟨some 14,none,(.mov (.tmp 2))⟩,⟨some 15,none,(.mov (.tmp 4))⟩,⟨some 16,none,(.call (.func 104) [(.tmp 12),(.tmp 13),(.tmp 14),(.tmp 15)])⟩,⟨some 11,none,(.mov (.tmp 16))⟩,⟨some 17,none,(.extract (.tmp 11) 0)⟩,⟨some 18,none,(.extract (.tmp 11) 1)⟩,⟨some 1,none,(.mov (.tmp 17))⟩,⟨some 2,none,(.mov (.tmp 18))⟩]) (.seq (.region [⟨some 20,none,(.mov (.tmp 0))⟩,⟨some 21,none,(.mov (.tmp 2))⟩,⟨some 22,none,(.mov (.tmp 3))⟩,⟨some 23,none,(.mov (.tmp 4))⟩,⟨some 24,none,(.call (.func 104) [(.tmp 20),(.tmp 21),(.tmp 22),(.tmp 23)])⟩,⟨some 19,none,(.mov (.tmp 24))⟩,⟨some 25,none,(.extract (.tmp 19) 0)⟩,⟨some 26,none,(.extract (.tmp 19) 1)⟩,⟨some 2,none,(.mov (.tmp 25))⟩,⟨some 3,none,(.mov (.tmp 26))⟩]) (.seq (.region [⟨some 28,none,(.mov (.tmp 0))⟩,⟨some 29,none,(.mov (.tmp 1))⟩,⟨some 30,none,(.mov (.tmp 2))⟩,⟨some 31,none,(.mov (.tmp 4))⟩,⟨some 32,none,(.call (.func 104) [(.tmp 28),(.tmp 29),(.tmp 30),(.tmp 31)])⟩,⟨some 27,none,(.mov (.tmp 32))⟩,⟨some 33,none,(.extract (.tmp 27) 0)⟩,⟨some 34,none,(.extract (.tmp 27) 1)⟩,⟨some 1,none,(.mov (.tmp 33))⟩,⟨some 2,none,(.mov (.tmp 34))⟩]) (.seq (.region [⟨some 35,none,(.mov (.tmp 2))⟩,⟨some 10,none,(.mov (.tmp 35))⟩]) .ret)))))
set_option maxRecDepth 100000 in
theorem tab102:tb.code 102=some ⟨36,[(10,none)],body102⟩:=by kernel_rfl
theorem zEb (h0 h:AHeap) (v p:Value) (xs:List Int) (a b c n:Int) (e0:Ext h0 h) (s:SlI h0 v xs) (o:OwnC h0 h p [I n]) (hn:0≤n∧n≤900) (ha:0≤a∧a<xs.length) (hb:0≤b∧b<xs.length) (hc:0≤c∧c<xs.length):
  WC Tryd.prog tb 102 [v,I a,I b,I c,p] h fun r h'=>(∃ d m:Int,r=I d∧(d=a∨d=b∨d=c)∧(0≤m∧m≤n+3)∧OwnC h0 h' p [I m])∧Ext h0 h':=by
 refine WC.of (zF 102) tab102 ?_;simp only[zO,Nat.zero_add,Nat.reduceAdd]
 refine go ?_
 refine WO.con (zCG h0 h v p xs a b n e0 s o (by omega) ha hb) ?_
 rintro _ h1 ⟨⟨a1,b1,n1,rfl,q1,m1,o1⟩,e1⟩
 refine go ?_
 refine WO.con (zCG h0 h1 v p xs b1 c n1 e1 s o1 (by omega) (by omega) hc) ?_
 rintro _ h2 ⟨⟨b2,c2,n2,rfl,q2,m2,o2⟩,e2⟩
 refine go ?_
 refine WO.con (zCG h0 h2 v p xs a1 b2 n2 e2 s o2 (by omega) (by omega) (by omega)) ?_
 rintro _ h3 ⟨⟨a3,b3,n3,rfl,q3,m3,o3⟩,e3⟩
 refine go ?_
 refine rt ?_
 exact⟨⟨b3,n3,rfl,by omega,by omega,o3⟩,e3⟩
noncomputable def body101:ACode:=(.seq (.region [⟨some 6,none,(.mov (.const (.int .i64 0)))⟩]) (.seq (.region [⟨some 7,none,(.mov (.tmp 0))⟩,⟨some 8,none,(.mov (.tmp 1))⟩,⟨some 9,none,(.bin .sub (.tmp 8) (.const (.int .i64 1)))⟩,⟨some 10,none,(.mov (.tmp 1))⟩,⟨some 11,none,(.mov (.tmp 1))⟩,⟨some 12,none,(.bin .add (.tmp 11) (.const (.int .i64 1)))⟩,⟨some 13,none,(.mov (.tmp 2))⟩,⟨some 14,none,(.call (.func 102) [(.tmp 7),(.tmp 9),(.tmp 10),(.tmp 12),(.tmp 13)])⟩,⟨some 6,none,(.mov (.tmp 14))⟩]) .ret))
set_option maxRecDepth 100000 in
theorem tab101:tb.code 101=some ⟨15,[(6,none)],body101⟩:=by kernel_rfl
theorem zAA (h0 h:AHeap) (v p:Value) (xs:List Int) (a n:Int) (e0:Ext h0 h) (s:SlI h0 v xs) (o:OwnC h0 h p [I n]) (hn:0≤n∧n≤900) (ha:1≤a∧a+1<xs.length) (hl:xs.length≤1000000000):
  WC Tryd.prog tb 101 [v,I a,p] h fun r h'=>(∃ d m:Int,r=I d∧(a - 1≤d∧d≤a+1)∧(0≤m∧m≤n+3)∧OwnC h0 h' p [I m])∧Ext h0 h':=by
 refine WC.of (zF 101) tab101 ?_;simp only[zO,Nat.zero_add,Nat.reduceAdd]
 refine go ?_
 refine WO.con (zEb h0 h v p xs (a - 1) a (a+1) n e0 s o hn (by omega) (by omega) (by omega)) ?_
 rintro _ h1 ⟨⟨d,m,rfl,q1,m1,o1⟩,e1⟩
 refine go ?_
 refine rt ?_
 exact⟨⟨d,m,rfl,by omega,m1,o1⟩,e1⟩
noncomputable def body87:ACode:=(.seq (.region [⟨some 6,none,(.mov (.const (.int .i64 0)))⟩,⟨some 7,none,(.mov (.const (.int .i64 0)))⟩]) (.seq (.region [⟨some 13,none,(.mov (.tmp 2))⟩,⟨some 14,none,(.mov (.tmp 1))⟩,⟨some 15,none,(.bin .sub (.tmp 13) (.tmp 14))⟩,⟨some 8,none,(.mov (.tmp 15))⟩]) (.seq (.region [⟨some 9,none,(.alloc [(.int .i64 0)])⟩]) (.seq (.region [⟨some 16,none,(.mov (.tmp 1))⟩,⟨some 17,none,(.mov (.tmp 8))⟩,⟨some 18,none,(.bin .quo (.tmp 17) (.const (.int .i64 4)))⟩,⟨some 19,none,(.bin .mul (.tmp 18) (.const (.int .i64 1)))⟩,⟨some 20,none,(.bin .add (.tmp 16) (.tmp 19))⟩,⟨some 10,none,(.mov (.tmp 20))⟩]) (.seq (.region [⟨some 21,none,(.mov (.tmp 1))⟩,⟨some 22,none,(.mov (.tmp 8))⟩,⟨some 23,none,(.bin .quo (.tmp 22) (.const (.int .i64 4)))⟩,⟨some 24,none,(.bin .mul (.tmp 23) (.const (.int .i64 2)))⟩,⟨some 25,none,(.bin .add (.tmp 21) (.tmp 24))⟩,⟨some 11,none,(.mov (.tmp 25))⟩]) (.seq (.region [⟨some 26,none,(.mov (.tmp 1))⟩,⟨some 27,none,(.mov (.tmp 8))⟩,⟨some 28,none,(.bin .quo (.tmp 27) (.const (.int .i64 4)))⟩,⟨some 29,none,(.bin .mul (.tmp 28) (.const (.int .i64 3)))⟩,⟨some 30,none,(.bin .add (.tmp 26) (.tmp 29))⟩,⟨some 12,none,(.mov (.tmp 30))⟩]) (.seq (.seq (.region [⟨some 31,none,(.mov (.tmp 8))⟩,⟨some 32,none,(.bin .geq (.tmp 31) (.const (.int .i64 8)))⟩]) (.cond (.tmp 32) (.seq (.seq (.region [⟨some 33,none,(.mov (.tmp 8))⟩,⟨some 34,none,(.bin .geq (.tmp 33) (.const (.int .i64 50)))⟩]) (.cond (.tmp 34) (.seq (.region [⟨some 35,none,(.mov (.tmp 0))⟩,⟨some 36,none,(.mov (.tmp 10))⟩,⟨some 37,none,(.call (.func 101) [(.tmp 35),(.tmp 36),(.tmp 9)])⟩,⟨some 10,none,(.mov (.tmp 37))⟩]) (.seq (.region [⟨some 38,none,(.mov (.tmp 0))⟩,⟨some 39,none,(.mov (.tmp 11))⟩,⟨some 40,none,(.call (.func 101) [(.tmp 38),(.tmp 39),(.tmp 9)])⟩,⟨some 11,none,(.mov (.tmp 40))⟩]) (.region [⟨some 41,none,(.mov (.tmp 0))⟩,⟨some 42,none,(.mov (.tmp 12))⟩,⟨some 43,none,(.call (.func 101) [(.tmp 41),(.tmp 42),(.tmp 9)])⟩,⟨some 12,none,(.mov (.tmp 43))⟩]))) .skip)) (.region [⟨some 44,none,(.mov (.tmp 0))⟩,⟨some 45,none,(.mov (.tmp 10))⟩,⟨some 46,none,(.mov (.tmp 11))⟩,⟨some 47,none,(.mov (.tmp 12))⟩,⟨some 48,none,(.call (.func 102) [(.tmp 44),(.tmp 45),(.tmp 46),(.tmp 47),(.tmp 9)])⟩,⟨some 11,none,(.mov (.tmp 48))⟩])) .skip)) (.seq (.region [⟨some 49,none,(.load false 1 (.tmp 9))⟩]) (.block 0 (.seq (.region [⟨some 52,none,(.bin .eql (.tmp 49) (.const (.int .i64 0)))⟩,⟨some 51,none,(.mov (.tmp 52))⟩]) (.cond (.tmp 51) (.seq (.region [⟨some 53,none,(.mov (.tmp 11))⟩,⟨some 6,none,(.mov (.tmp 53))⟩,⟨some 7,none,(.mov (.const (.int .i64 1)))⟩]) .ret) (.seq (.region [⟨some 55,none,(.bin .eql (.tmp 49) (.const (.int .i64 12)))⟩,⟨some 54,none,(.mov (.tmp 55))⟩]) (.cond (.tmp 54) (.seq (.region [⟨some 56,none,(.mov (.tmp 11))⟩,⟨some 6,none,(.mov (.tmp 56))⟩,⟨some 7,none,(.mov (.const (.int .i64 2)))⟩]) .ret) (.seq (.region [⟨some 50,none,(.mov (.tmp 11))⟩,⟨some 6,none,(.mov (.tmp 50))⟩,⟨some 7,none,(.mov (.const (.int .i64 0)))⟩]) .ret))))))))))))))
set_option maxRecDepth 100000 in
theorem tab87:tb.code 87=some ⟨57,[(6,none),(7,none)],body87⟩:=by kernel_rfl
theorem pivot_ok (h:AHeap) (v:Value) (xs:List Int) (a b:Int) (s:SlI h v xs) (h0:0≤a) (hab:a+12<b) (hb:b≤xs.length) (hlen:xs.length≤1000000000):
  WC Tryd.prog tb 87 [v,I a,I b] h fun r h'=>(∃ d hint:Int,r= .tuple #[I d,I hint]∧(a≤d∧d<b))∧Ext h h':=by
 have e4:(b - a).tdiv 4=(b - a) / 4:=Int.tdiv_eq_ediv_of_nonneg (by omega)
 refine WC.of (zF 87) tab87 ?_;simp only[zO,Nat.zero_add,Nat.reduceAdd]
 refine go ?_
 refine WO.al ?_
 intro p h1 e1 o1
 refine go ?_
 refine WO.quo (a:=b - a) (c:=4) (by decide) (by omega) (by omega) ?_
 rw[e4]
 refine go ?_
 refine WO.quo (a:=b - a) (c:=4) (by decide) (by omega) (by omega) ?_
 rw[e4]
 refine go ?_
 refine WO.quo (a:=b - a) (c:=4) (by decide) (by omega) (by omega) ?_
 rw[e4]
 refine go ?_
 refine WX.cutA [35,36,37,10,38,39,40,11,41,42,43,12] (by kernel_rfl) (fun t h'=>Ext h h'∧∃ i j k n:Int,zC t 10=I i∧zC t 11=I j∧zC t 12=I k∧(a≤i∧i<b)∧(a≤j∧j<b)∧(a≤k∧k<b)∧(0≤n∧n≤9)∧OwnC h h' p [I n]) ?_ ?_
 ·refine WX.br (fun he=> ?_) (fun he=> ?_)<;>simp only[DB]at he<;>refine go ?_
  ·refine WO.con (zAA h h1 v p xs (a+(b - a) / 4 * 1) 0 e1 s o1 (by omega) (by omega) hlen) ?_
   rintro _ h2 ⟨⟨i,n1,rfl,q1,m1,o2⟩,e2⟩
   refine go ?_
   refine WO.con (zAA h h2 v p xs (a+(b - a) / 4 * 2) n1 e2 s o2 (by omega) (by omega) hlen) ?_
   rintro _ h3 ⟨⟨j,n2,rfl,q2,m2,o3⟩,e3⟩
   refine go ?_
   refine WO.con (zAA h h3 v p xs (a+(b - a) / 4 * 3) n2 e3 s o3 (by omega) (by omega) hlen) ?_
   rintro _ h4 ⟨⟨k,n3,rfl,q3,m3,o4⟩,e4⟩
   refine go ?_
   exact zE ⟨e4,i,j,k,n3,sl_,sl_,sl_,by omega,by omega,by omega,by omega,o4⟩
  ·exact zE ⟨e1,a+(b - a) / 4 * 1,a+(b - a) / 4 * 2,a+(b - a) / 4 * 3,0,sl_,sl_,sl_,by omega,by omega,by omega,by omega,o1⟩
 rintro t5 h5 hs5 ⟨e5,i,j,k,n,s10,s11,s12,hi,hj,hk,hn,o5⟩
 refine go ?_
 refine WO.con (zEb h h5 v p xs i j k n e5 s o5 (by omega) (by omega) (by omega) (by omega)) ?_
 rintro _ h6 ⟨⟨d,m,rfl,q6,m6,o6⟩,e6⟩
 obtain⟨g,rfl⟩:∃ g,p= .pointer (some ⟨g,0,none⟩):=let ⟨g,_,_,e,_⟩:=o6;⟨g,e⟩
 refine go ?_
 refine WX.br (fun he=> ?_) (fun he=> ?_)<;>simp only[DB]at he<;>refine go ?_
 ·refine rt ?_
  exact⟨⟨_,_,rfl,by omega⟩,e6⟩
 refine WX.br (fun he=> ?_) (fun he=> ?_)<;>simp only[DB]at he<;>refine go ?_<;>refine rt ?_
 ·exact⟨⟨_,_,rfl,by omega⟩,e6⟩
 ·exact⟨⟨_,_,rfl,by omega⟩,e6⟩
noncomputable def body86_0:ACode:=(.seq (.seq (.region [⟨some 26,none,(.mov (.tmp 9))⟩,⟨some 27,none,(.mov (.tmp 1))⟩,⟨some 28,none,(.mov (.tmp 6))⟩,⟨some 29,none,(.bin .quo (.tmp 28) (.const (.int .i64 4)))⟩,⟨some 30,none,(.bin .mul (.tmp 29) (.const (.int .i64 2)))⟩,⟨some 31,none,(.bin .add (.tmp 27) (.tmp 30))⟩,⟨some 32,none,(.bin .add (.tmp 31) (.const (.int .i64 1)))⟩,⟨some 33,none,(.bin .leq (.tmp 26) (.tmp 32))⟩]) (.cond (.tmp 33) .skip (.exit 0))) (.seq (.block 1 (.seq (.region [⟨some 36,none,(.call (.func 100) [(.tmp 7)])⟩,⟨some 37,none,(.mov (.tmp 8))⟩,⟨some 38,none,(.bin .sub (.tmp 37) (.const (.int .u64 1)))⟩,⟨some 39,none,(.bin .and (.tmp 36) (.tmp 38))⟩,⟨some 40,none,(.conv .i64 (.tmp 39))⟩,⟨some 10,none,(.mov (.tmp 40))⟩]) (.seq (.seq (.region [⟨some 41,none,(.mov (.tmp 10))⟩,⟨some 42,none,(.mov (.tmp 6))⟩,⟨some 43,none,(.bin .geq (.tmp 41) (.tmp 42))⟩]) (.cond (.tmp 43) (.region [⟨some 44,none,(.mov (.tmp 10))⟩,⟨some 45,none,(.mov (.tmp 6))⟩,⟨some 46,none,(.bin .sub (.tmp 44) (.tmp 45))⟩,⟨some 10,none,(.mov (.tmp 46))⟩]) .skip)) (.regionC [(⟨some 47,none,(.mov (.tmp 0))⟩,[]),(⟨some 48,none,(.mov (.tmp 9))⟩,[]),(⟨some 49,none,(.mov (.tmp 0))⟩,[]),(⟨some 50,none,(.mov (.tmp 1))⟩,[]),(⟨some 51,none,(.mov (.tmp 10))⟩,[]),(⟨some 52,none,(.bin .add (.tmp 50) (.tmp 51))⟩,[]),(⟨some 53,none,(.mov (.tmp 0))⟩,[]),(⟨some 54,none,(.mov (.tmp 1))⟩,[]),(⟨some 55,none,(.mov (.tmp 10))⟩,[]),(⟨some 56,none,(.bin .add (.tmp 54) (.tmp 55))⟩,[]),(⟨some 57,none,(.idx 1 (.tmp 53) (.tmp 56))⟩,[]),(⟨some 58,none,(.load false 1 (.tmp 57))⟩,[]),(⟨some 59,none,(.mov (.tmp 0))⟩,[]),(⟨some 60,none,(.mov (.tmp 9))⟩,[]),(⟨some 61,none,(.idx 1 (.tmp 59) (.tmp 60))⟩,[]),(⟨some 62,none,(.load false 1 (.tmp 61))⟩,[]),(⟨some 63,none,(.idx 1 (.tmp 47) (.tmp 48))⟩,[]),(⟨none,none,(.store 1 (.tmp 63) (.tmp 58))⟩,[]),(⟨some 64,none,(.idx 1 (.tmp 49) (.tmp 52))⟩,[]),(⟨none,none,(.store 1 (.tmp 64) (.tmp 62))⟩,[])])))) (.region [⟨some 34,none,(.mov (.tmp 9))⟩,⟨some 35,none,(.bin .add (.tmp 34) (.const (.int .i64 1)))⟩,⟨some 9,none,(.mov (.tmp 35))⟩])))
noncomputable def body86:ACode:=(.seq (.region [⟨some 11,none,(.mov (.tmp 2))⟩,⟨some 12,none,(.mov (.tmp 1))⟩,⟨some 13,none,(.bin .sub (.tmp 11) (.tmp 12))⟩,⟨some 6,none,(.mov (.tmp 13))⟩]) (.seq (.region [⟨some 14,none,(.mov (.tmp 6))⟩,⟨some 15,none,(.bin .geq (.tmp 14) (.const (.int .i64 8)))⟩]) (.cond (.tmp 15) (.seq (.region [⟨some 16,none,(.mov (.tmp 6))⟩,⟨some 17,none,(.conv .u64 (.tmp 16))⟩,⟨some 7,none,(.alloc [(.int .u64 0)])⟩,⟨none,none,(.store 1 (.tmp 7) (.tmp 17))⟩]) (.seq (.region [⟨some 18,none,(.mov (.tmp 6))⟩,⟨some 19,none,(.call (.func 99) [(.tmp 18)])⟩,⟨some 8,none,(.mov (.tmp 19))⟩]) (.seq (.region [⟨some 20,none,(.mov (.tmp 1))⟩,⟨some 21,none,(.mov (.tmp 6))⟩,⟨some 22,none,(.bin .quo (.tmp 21) (.const (.int .i64 4)))⟩,⟨some 23,none,(.bin .mul (.tmp 22) (.const (.int .i64 2)))⟩,⟨some 24,none,(.bin .add (.tmp 20) (.tmp 23))⟩,⟨some 25,none,(.bin .sub (.tmp 24) (.const (.int .i64 1)))⟩,⟨some 9,none,(.mov (.tmp 25))⟩]) (.block 0 (.loop body86_0))))) .skip)))
set_option maxRecDepth 100000 in
theorem tab86:tb.code 86=some ⟨65,[],body86⟩:=by kernel_rfl
theorem break_ok (hB h:AHeap) (v:Value) (xs:List Int) (a b:Int) (e0:Ext hB h) (hmB:hB.mark≤hB.n) (o:OwnI hB h v xs) (h0:0≤a) (hab:a+12<b) (hb:b≤xs.length) (hlen:xs.length≤1000000000):
  WC Tryd.prog tb 86 [v,I a,I b] h fun r h'=>∃ ys,SS hB h v a b xs ys h':=by
 have e4:(b - a).tdiv 4=(b - a) / 4:=Int.tdiv_eq_ediv_of_nonneg (by omega)
 have s0:=SS.start a b o e0
 refine WC.of (zF 86) tab86 ?_;simp only[zO,Nat.zero_add,Nat.reduceAdd]
 refine go ?_
 refine WO.al ?_
 intro p h1 e1 o1
 have s1:=s0.extd e1
 obtain⟨g,hg,rfl⟩:∃ g,h.n≤g∧p= .pointer (some ⟨g,0,none⟩):=let ⟨g,hg,_,e,_⟩:=o1;⟨g,hg,e⟩
 have o1:=o1.since e0
 refine go ?_
 refine WO.stC0 o1 s1.ext ?_
 intro h2 e2 o2 u2
 have s2:=s1.updC o hg e2 u2
 refine go ?_
 refine WO.con (power_ok h2 (b - a) (by omega) (by omega)) ?_
 rintro _ _ ⟨⟨m,rfl,hm1,hm2⟩,rfl⟩
 refine go ?_
 refine WO.quo (a:=b - a) (c:=4) (by decide) (by omega) (by omega) ?_
 rw[e4]
 refine go ?_
 refine WX.loopA [26,27,28,29,30,31,32,33,36,37,38,39,40,10,41,42,43,44,45,46,10,47,48,49,50,51,52,53,54,55,56,57,58,59,60,61,62,63,64,34,35,9] (by kernel_rfl) (fun x=>(b - x.2.1).toNat) (fun (x:List Int×Int×Int) t h4=>SS hB h v a b xs x.1 h4∧zC t 9=I x.2.1∧(a≤x.2.1∧x.2.1<b)∧OwnC hB h4 (.pointer (some ⟨g,0,none⟩)) [.int .u64 x.2.2]) (xs,a+(b - a) / 4 * 2 - 1,IntKind.u64.wrap (b - a)) ?_ ?_
 ·exact⟨s2,sl_,by simp only;omega,o2⟩
 rintro⟨ys,i,x⟩ t h4 hsame ⟨s4,s9,hi,o4⟩
 simp only at s4 s9 hi o4
 have hl4:=s4.len
 refine go ?_
 refine WO.quo (a:=b - a) (c:=4) (by decide) (by omega) (by omega) ?_
 rw[e4]
 refine go ?_
 refine WX.br (fun he=> ?_) (fun he=> ?_)<;>simp only[DB]at he<;>refine go ?_
 ·refine WO.con (next_rnd hB h4 _ x s4.ext hmB o4) ?_
  rintro _ h5 ⟨⟨y,rfl,o5⟩,e5,u5⟩
  have s5:=s4.updC o hg e5 u5
  refine go ?_
  refine WO.bin (vy:= .int .u64 1) (v:= .int .u64 (m - 1)) ze rfl (by simp only[zi,if_true];rw[Zv (by omega) (by omega)]) ?_
  refine go ?_
  obtain⟨r,hr,hr0,hr1⟩:=and_u64 y (m:=m - 1) (by omega)
  refine WO.bin ze ze hr ?_
  refine go ?_
  refine WX.cutA [44,45,46,10] (by kernel_rfl) (fun t h'=>h5=h'∧∃ k:Int,zC t 10=I k∧0≤k∧k<b - a) ?_ ?_
  ·refine WX.br (fun hf=> ?_) (fun hf=> ?_)<;>simp only[DB]at hf<;>refine go ?_
   ·exact zE ⟨rfl,_,sl_,by omega,by omega⟩
   ·exact zE ⟨rfl,_,sl_,by omega,by omega⟩
  rintro t6 _ hs6 ⟨rfl,k,s10,hk0,hk1⟩
  refine go ?_
  refine WX.regionU2 0 rfl rfl ?_
  have srX:SlI (inC (zB 0 h5)) v ys:=(s5.own).sl
  refine goU ?_
  refine WU2.swA (i) (a+k) (s5).own (s5).ext (by rw[(s5).ext.mark];exact hmB) ?_
  intro h7 e7 o7 u7
  have s7:=s5.swp e7 o7 u7 h0 hb (by omega) (by omega)
  have o7':=o5.updV o hg u7
  refine go ?_
  exact zA (swp ys i (a+k),i+1,y) (by simp only;omega) ⟨s7,sl_,by simp only;omega,o7'⟩
 ·refine rtN ?_
  exact⟨ys,s4⟩
end Go.Proofs.YtemggiegiejopaaDoor
namespace Go.Proofs.YtemggiegiejopaaDoor
open Go.Am
set_option linter.unusedVariables false
set_option linter.unusedSimpArgs false
set_option maxHeartbeats 1000000
theorem srt_swp {a b i j:Int} {zs:List Int} (h0:0≤a) (hi:b≤i∧i<zs.length) (hj:b≤j∧j<zs.length) (s:Srt a b zs):Srt a b (swp zs i j):=fun p q h1 h2 h3=>by
 rw[yH (by omega) (by omega) (by omega),yH (by omega) (by omega) (by omega),if_neg (by omega),if_neg (by omega),if_neg (by omega),if_neg (by omega)]
 exact s p q h1 h2 h3
noncomputable def body89_0:ACode:=(.seq (.seq (.regionC [(⟨some 17,none,(.mov (.tmp 7))⟩,[]),(⟨some 18,none,(.mov (.tmp 2))⟩,[]),(⟨some 19,none,(.bin .lss (.tmp 17) (.tmp 18))⟩,[]),(⟨some 20,none,(.mov (.tmp 19))⟩,[]),(⟨some 21,some (20,true),(.mov (.tmp 0))⟩,[]),(⟨some 22,some (20,true),(.mov (.tmp 7))⟩,[]),(⟨some 23,some (20,true),(.idx 1 (.tmp 21) (.tmp 22))⟩,[]),(⟨some 24,some (20,true),(.load false 1 (.tmp 23))⟩,[]),(⟨some 25,some (20,true),(.mov (.tmp 0))⟩,[]),(⟨some 26,some (20,true),(.mov (.tmp 7))⟩,[]),(⟨some 27,some (20,true),(.bin .sub (.tmp 26) (.const (.int .i64 1)))⟩,[]),(⟨some 28,some (20,true),(.idx 1 (.tmp 25) (.tmp 27))⟩,[]),(⟨some 29,some (20,true),(.load false 1 (.tmp 28))⟩,[]),(⟨some 30,some (20,true),(.call (.func 90) [(.tmp 24),(.tmp 29)])⟩,[]),(⟨some 31,some (20,true),(.un .not (.tmp 30))⟩,[]),(⟨some 32,none,(.pick (.tmp 20) (.tmp 31) (.const (.bool false)))⟩,[])]) (.cond (.tmp 32) .skip (.exit 2))) (.block 3 (.region [⟨some 33,none,(.mov (.tmp 7))⟩,⟨some 34,none,(.bin .add (.tmp 33) (.const (.int .i64 1)))⟩,⟨some 7,none,(.mov (.tmp 34))⟩])))
noncomputable def body89_1:ACode:=(.seq (.seq (.region [⟨some 64,none,(.mov (.tmp 9))⟩,⟨some 65,none,(.bin .geq (.tmp 64) (.const (.int .i64 1)))⟩]) (.cond (.tmp 65) .skip (.exit 4))) (.seq (.block 5 (.seq (.seq (.regionC [(⟨some 68,none,(.mov (.tmp 0))⟩,[]),(⟨some 69,none,(.mov (.tmp 9))⟩,[]),(⟨some 70,none,(.idx 1 (.tmp 68) (.tmp 69))⟩,[]),(⟨some 71,none,(.load false 1 (.tmp 70))⟩,[]),(⟨some 72,none,(.mov (.tmp 0))⟩,[]),(⟨some 73,none,(.mov (.tmp 9))⟩,[]),(⟨some 74,none,(.bin .sub (.tmp 73) (.const (.int .i64 1)))⟩,[]),(⟨some 75,none,(.idx 1 (.tmp 72) (.tmp 74))⟩,[]),(⟨some 76,none,(.load false 1 (.tmp 75))⟩,[]),(⟨some 77,none,(.call (.func 90) [(.tmp 71),(.tmp 76)])⟩,[]),(⟨some 78,none,(.un .not (.tmp 77))⟩,[])]) (.cond (.tmp 78) (.exit 4) .skip)) (.regionC [(⟨some 79,none,(.mov (.tmp 0))⟩,[]),(⟨some 80,none,(.mov (.tmp 9))⟩,[]),(⟨some 81,none,(.mov (.tmp 0))⟩,[]),(⟨some 82,none,(.mov (.tmp 9))⟩,[]),(⟨some 83,none,(.bin .sub (.tmp 82) (.const (.int .i64 1)))⟩,[]),(⟨some 84,none,(.mov (.tmp 0))⟩,[]),(⟨some 85,none,(.mov (.tmp 9))⟩,[]),(⟨some 86,none,(.bin .sub (.tmp 85) (.const (.int .i64 1)))⟩,[]),(⟨some 87,none,(.idx 1 (.tmp 84) (.tmp 86))⟩,[]),(⟨some 88,none,(.load false 1 (.tmp 87))⟩,[]),(⟨some 89,none,(.mov (.tmp 0))⟩,[]),(⟨some 90,none,(.mov (.tmp 9))⟩,[]),(⟨some 91,none,(.idx 1 (.tmp 89) (.tmp 90))⟩,[]),(⟨some 92,none,(.load false 1 (.tmp 91))⟩,[]),(⟨some 93,none,(.idx 1 (.tmp 79) (.tmp 80))⟩,[]),(⟨none,none,(.store 1 (.tmp 93) (.tmp 88))⟩,[]),(⟨some 94,none,(.idx 1 (.tmp 81) (.tmp 83))⟩,[]),(⟨none,none,(.store 1 (.tmp 94) (.tmp 92))⟩,[])]))) (.region [⟨some 66,none,(.mov (.tmp 9))⟩,⟨some 67,none,(.bin .sub (.tmp 66) (.const (.int .i64 1)))⟩,⟨some 9,none,(.mov (.tmp 67))⟩])))
noncomputable def body89_2:ACode:=(.seq (.seq (.region [⟨some 101,none,(.mov (.tmp 10))⟩,⟨some 102,none,(.mov (.tmp 2))⟩,⟨some 103,none,(.bin .lss (.tmp 101) (.tmp 102))⟩]) (.cond (.tmp 103) .skip (.exit 6))) (.seq (.block 7 (.seq (.seq (.regionC [(⟨some 106,none,(.mov (.tmp 0))⟩,[]),(⟨some 107,none,(.mov (.tmp 10))⟩,[]),(⟨some 108,none,(.idx 1 (.tmp 106) (.tmp 107))⟩,[]),(⟨some 109,none,(.load false 1 (.tmp 108))⟩,[]),(⟨some 110,none,(.mov (.tmp 0))⟩,[]),(⟨some 111,none,(.mov (.tmp 10))⟩,[]),(⟨some 112,none,(.bin .sub (.tmp 111) (.const (.int .i64 1)))⟩,[]),(⟨some 113,none,(.idx 1 (.tmp 110) (.tmp 112))⟩,[]),(⟨some 114,none,(.load false 1 (.tmp 113))⟩,[]),(⟨some 115,none,(.call (.func 90) [(.tmp 109),(.tmp 114)])⟩,[]),(⟨some 116,none,(.un .not (.tmp 115))⟩,[])]) (.cond (.tmp 116) (.exit 6) .skip)) (.regionC [(⟨some 117,none,(.mov (.tmp 0))⟩,[]),(⟨some 118,none,(.mov (.tmp 10))⟩,[]),(⟨some 119,none,(.mov (.tmp 0))⟩,[]),(⟨some 120,none,(.mov (.tmp 10))⟩,[]),(⟨some 121,none,(.bin .sub (.tmp 120) (.const (.int .i64 1)))⟩,[]),(⟨some 122,none,(.mov (.tmp 0))⟩,[]),(⟨some 123,none,(.mov (.tmp 10))⟩,[]),(⟨some 124,none,(.bin .sub (.tmp 123) (.const (.int .i64 1)))⟩,[]),(⟨some 125,none,(.idx 1 (.tmp 122) (.tmp 124))⟩,[]),(⟨some 126,none,(.load false 1 (.tmp 125))⟩,[]),(⟨some 127,none,(.mov (.tmp 0))⟩,[]),(⟨some 128,none,(.mov (.tmp 10))⟩,[]),(⟨some 129,none,(.idx 1 (.tmp 127) (.tmp 128))⟩,[]),(⟨some 130,none,(.load false 1 (.tmp 129))⟩,[]),(⟨some 131,none,(.idx 1 (.tmp 117) (.tmp 118))⟩,[]),(⟨none,none,(.store 1 (.tmp 131) (.tmp 126))⟩,[]),(⟨some 132,none,(.idx 1 (.tmp 119) (.tmp 121))⟩,[]),(⟨none,none,(.store 1 (.tmp 132) (.tmp 130))⟩,[])]))) (.region [⟨some 104,none,(.mov (.tmp 10))⟩,⟨some 105,none,(.bin .add (.tmp 104) (.const (.int .i64 1)))⟩,⟨some 10,none,(.mov (.tmp 105))⟩])))
noncomputable def body89_3:ACode:=(.seq (.seq (.region [⟨some 13,none,(.mov (.tmp 8))⟩,⟨some 14,none,(.bin .lss (.tmp 13) (.const (.int .i64 5)))⟩]) (.cond (.tmp 14) .skip (.exit 0))) (.seq (.block 1 (.seq (.block 2 (.loop body89_0)) (.seq (.seq (.region [⟨some 35,none,(.mov (.tmp 7))⟩,⟨some 36,none,(.mov (.tmp 2))⟩,⟨some 37,none,(.bin .eql (.tmp 35) (.tmp 36))⟩]) (.cond (.tmp 37) (.seq (.region [⟨some 6,none,(.mov (.const (.bool true)))⟩]) .ret) .skip)) (.seq (.seq (.region [⟨some 38,none,(.mov (.tmp 2))⟩,⟨some 39,none,(.mov (.tmp 1))⟩,⟨some 40,none,(.bin .sub (.tmp 38) (.tmp 39))⟩,⟨some 41,none,(.bin .lss (.tmp 40) (.const (.int .i64 50)))⟩]) (.cond (.tmp 41) (.seq (.region [⟨some 6,none,(.mov (.const (.bool false)))⟩]) .ret) .skip)) (.seq (.regionC [(⟨some 42,none,(.mov (.tmp 0))⟩,[]),(⟨some 43,none,(.mov (.tmp 7))⟩,[]),(⟨some 44,none,(.mov (.tmp 0))⟩,[]),(⟨some 45,none,(.mov (.tmp 7))⟩,[]),(⟨some 46,none,(.bin .sub (.tmp 45) (.const (.int .i64 1)))⟩,[]),(⟨some 47,none,(.mov (.tmp 0))⟩,[]),(⟨some 48,none,(.mov (.tmp 7))⟩,[]),(⟨some 49,none,(.bin .sub (.tmp 48) (.const (.int .i64 1)))⟩,[]),(⟨some 50,none,(.idx 1 (.tmp 47) (.tmp 49))⟩,[]),(⟨some 51,none,(.load false 1 (.tmp 50))⟩,[]),(⟨some 52,none,(.mov (.tmp 0))⟩,[]),(⟨some 53,none,(.mov (.tmp 7))⟩,[]),(⟨some 54,none,(.idx 1 (.tmp 52) (.tmp 53))⟩,[]),(⟨some 55,none,(.load false 1 (.tmp 54))⟩,[]),(⟨some 56,none,(.idx 1 (.tmp 42) (.tmp 43))⟩,[]),(⟨none,none,(.store 1 (.tmp 56) (.tmp 51))⟩,[]),(⟨some 57,none,(.idx 1 (.tmp 44) (.tmp 46))⟩,[]),(⟨none,none,(.store 1 (.tmp 57) (.tmp 55))⟩,[])]) (.seq (.seq (.region [⟨some 58,none,(.mov (.tmp 7))⟩,⟨some 59,none,(.mov (.tmp 1))⟩,⟨some 60,none,(.bin .sub (.tmp 58) (.tmp 59))⟩,⟨some 61,none,(.bin .geq (.tmp 60) (.const (.int .i64 2)))⟩]) (.cond (.tmp 61) (.seq (.region [⟨some 62,none,(.mov (.tmp 7))⟩,⟨some 63,none,(.bin .sub (.tmp 62) (.const (.int .i64 1)))⟩,⟨some 9,none,(.mov (.tmp 63))⟩]) (.block 4 (.loop body89_1))) .skip)) (.seq (.region [⟨some 95,none,(.mov (.tmp 2))⟩,⟨some 96,none,(.mov (.tmp 7))⟩,⟨some 97,none,(.bin .sub (.tmp 95) (.tmp 96))⟩,⟨some 98,none,(.bin .geq (.tmp 97) (.const (.int .i64 2)))⟩]) (.cond (.tmp 98) (.seq (.region [⟨some 99,none,(.mov (.tmp 7))⟩,⟨some 100,none,(.bin .add (.tmp 99) (.const (.int .i64 1)))⟩,⟨some 10,none,(.mov (.tmp 100))⟩]) (.block 6 (.loop body89_2))) .skip)))))))) (.region [⟨some 15,none,(.mov (.tmp 8))⟩,⟨some 16,none,(.bin .add (.tmp 15) (.const (.int .i64 1)))⟩,⟨some 8,none,(.mov (.tmp 16))⟩])))
noncomputable def body89:ACode:=(.seq (.region [⟨some 6,none,(.mov (.const (.bool false)))⟩]) (.seq (.region [⟨some 11,none,(.mov (.tmp 1))⟩,⟨some 12,none,(.bin .add (.tmp 11) (.const (.int .i64 1)))⟩,⟨some 7,none,(.mov (.tmp 12))⟩]) (.seq (.seq (.region [⟨some 8,none,(.mov (.const (.int .i64 0)))⟩]) (.block 0 (.loop body89_3))) (.seq (.region [⟨some 6,none,(.mov (.const (.bool false)))⟩]) .ret))))
set_option maxRecDepth 100000 in
theorem tab89:tb.code 89=some ⟨133,[(6,none)],body89⟩:=by kernel_rfl
theorem zHF (hB h:AHeap) (v:Value) (xs:List Int) (a b:Int) (e0:Ext hB h) (hmB:hB.mark≤hB.n) (o:OwnI hB h v xs) (h0:0≤a) (hab:a<b) (hb:b≤xs.length) (hlen:xs.length≤1000000000) (hpre:0<a→∀ k,a≤k→k<b→atI xs (a - 1)≤atI xs k):
  WC Tryd.prog tb 89 [v,I a,I b] h fun r h'=>∃ ys w,r= .bool w∧SS hB h v a b xs ys h'∧(w=true→Srt a b ys):=by
 have s0:=SS.start a b o e0
 have low:Hid (∀ ys,PI a b xs ys→0<a→∀ k,a≤k→k<b→atI ys (a - 1)≤atI ys k):=Hid.mk fun ys p ha=>by
  have e1:atI ys (a - 1)=atI xs (a - 1):=p.out _ (by omega) (.inl (by omega))
  rw[e1]
  exact p.all (p:=fun x=>atI xs (a - 1)≤x) h0 hb (hpre ha)
 refine WC.of (zF 89) tab89 ?_;simp only[zO,Nat.zero_add,Nat.reduceAdd]
 refine go ?_
 refine WX.loopA [13,14,17,18,19,20,21,22,23,24,25,26,27,28,29,30,31,32,33,34,7,35,36,37,6,38,39,40,41,6,42,43,44,45,46,47,48,49,50,51,52,53,54,55,56,57,58,59,60,61,62,63,9,64,65,68,69,70,71,72,73,74,75,76,77,78,79,80,81,82,83,84,85,86,87,88,89,90,91,92,93,94,66,67,9,95,96,97,98,99,100,10,101,102,103,106,107,108,109,110,111,112,113,114,115,116,117,118,119,120,121,122,123,124,125,126,127,128,129,130,131,132,104,105,10,15,16,8] (by kernel_rfl) (fun x=>(5 - x.2.2).toNat) (fun (x:List Int×Int×Int) t h4=>SS hB h v a b xs x.1 h4∧zC t 7=I x.2.1∧zC t 8=I x.2.2∧(a+1≤x.2.1∧x.2.1≤b)∧(0≤x.2.2∧x.2.2≤5)∧Srt a x.2.1 x.1) (xs,a+1,0) ?_ ?_
 ·exact⟨s0,sl_,sl_,by simp only;omega,by simp only;omega,Srt.small (by simp only;omega)⟩
 rintro⟨ys,i,c⟩ t h4 hsame ⟨s4,s7,s8,hi,hc,hs⟩
 simp only at s4 s7 s8 hi hc hs
 have hl4:=s4.len
 refine go ?_
 refine WX.br (fun hx=> ?_) (fun hx=> ?_)<;>simp only[DB]at hx
 case refine_2=>
  refine go ?_
  refine rt ?_
  exact⟨_,_,rfl,s4,fun h=>by cases h⟩
 refine go ?_
 refine WX.loopA [17,18,19,20,21,22,23,24,25,26,27,28,29,30,31,32,33,34,7] (by kernel_rfl) (fun i=>(b - i).toNat) (fun (i:Int) t h2=>h4=h2∧zC t 7=I i∧(a+1≤i∧i≤b)∧Srt a i ys) i ?_ ?_
 ·exact⟨rfl,sl_,hi,hs⟩
 clear hs hi s7
 rintro i t _ hsame2 ⟨rfl,s7,hi,hs⟩
 refine go ?_
 refine WX.cutA [17,18,19,20,21,22,23,24,25,26,27,28,29,30,31,32] (by kernel_rfl) (fun t h'=>h4=h'∧zC t 32= .bool (decide (i<b∧¬(atI ys i<atI ys (i - 1))))) ?_ ?_
 ·refine WX.regionU2 0 rfl rfl ?_
  have srX:SlI (inC (zB 0 h4)) v ys:=(s4.own).sl
  refine goU ?_
  refine WO.sp (fun hd=> ?_) (fun hd=> ?_)<;>simp only[DB]at hd<;>refine goU ?_
  ·refine WO.con (yz _ (atI ys i) (atI ys (i - 1))) ?_
   rintro _ _ ⟨rfl,rfl⟩
   refine WO.nil ?_
   refine yU ?_
   refine goU ?_
   exact zE ⟨rfl,by rw[show decide (i<b∧¬(atI ys i<atI ys (i - 1)))= !decide (atI ys i<atI ys (i - 1)) from zBd hd];exact sl_⟩
  ·exact zE ⟨rfl,by rw[show decide (i<b∧¬(atI ys i<atI ys (i - 1)))=false from decide_eq_false (fun hh=>absurd hh.1 (by omega))];exact sl_⟩
 rintro t5 _ hs5 ⟨rfl,q5⟩
 refine go ?_
 refine WX.br (fun he=> ?_) (fun he=> ?_)<;>simp only[DB]at he
 ·refine go ?_
  refine zA (i+1) (by omega) ⟨rfl,sl_,by omega,fun p q h1 h2 h3=> ?_⟩
  by_cases e:q=i
  ·by_cases e2:p=i
   ·rw[e,e2];exact Int.le_refl _
   ·have:=hs p (i - 1) h1 (by omega) (by omega)
    rw[e];omega
  ·exact hs p q h1 h2 (by omega)
 refine go ?_
 refine WX.br (fun hf=> ?_) (fun hf=> ?_)<;>simp only[DB]at hf
 ·refine go ?_
  refine rt ?_
  subst hf
  exact⟨_,_,rfl,s4,fun _=>hs⟩
 refine go ?_
 refine WX.br (fun hg=> ?_) (fun hg=> ?_)<;>simp only[DB]at hg
 ·refine go ?_
  refine rt ?_
  exact⟨_,_,rfl,s4,fun h=>by cases h⟩
 have hlt:atI ys i<atI ys (i - 1):=Int.not_le.1 fun hh=>he ⟨by omega,hh⟩
 refine go ?_
 refine WX.regionU2 0 rfl rfl ?_
 have srX:SlI (inC (zB 0 h4)) v ys:=(s4.own).sl
 refine goU ?_
 refine WU2.swA (i) (i - 1) (s4).own (s4).ext (by rw[(s4).ext.mark];exact hmB) ?_
 intro h6 e6 o6 u6
 have s6:=s4.swp e6 o6 u6 h0 hb (by omega) (by omega)
 have hz:∀ p q,a≤p→p≤q→q<i→q≠i - 1→atI (swp ys i (i - 1)) p≤atI (swp ys i (i - 1)) q:=fun p q h1 h2 h3 h4=>by
  rw[yH (by omega) (by omega) (by omega),yH (by omega) (by omega) (by omega),if_neg (by omega),if_neg (by omega),if_neg (by omega),if_neg (by omega)]
  exact hs p q h1 h2 h3
 clear o6 e6 u6 s4 hl4 hs he hlt
 generalize swp ys i (i - 1)=zs at s6 hz
 have hl6:=s6.len
 refine go ?_
 refine WX.cutA [62,63,9,64,65,68,69,70,71,72,73,74,75,76,77,78,79,80,81,82,83,84,85,86,87,88,89,90,91,92,93,94,66,67,9] (by kernel_rfl) (fun t h'=>∃ ws,SS hB h v a b xs ws h'∧Srt a i ws) ?_ ?_
 ·refine WX.br (fun hj=> ?_) (fun hj=> ?_)<;>simp only[DB]at hj<;>refine go ?_
  ·refine WX.loopA [64,65,68,69,70,71,72,73,74,75,76,77,78,79,80,81,82,83,84,85,86,87,88,89,90,91,92,93,94,66,67,9] (by kernel_rfl) (fun x=>(x.2+1).toNat) (fun (x:List Int×Int) t h7=>SS hB h v a b xs x.1 h7∧zC t 9=I x.2∧(a≤x.2∧x.2≤i - 1)∧∀ p q,a≤p→p≤q→q<i→q≠x.2→atI x.1 p≤atI x.1 q) (zs,i - 1) ?_ ?_
   ·exact⟨s6,sl_,by simp only;omega,hz⟩
   rintro⟨ws,j⟩ t h7 hsame3 ⟨s7',s9,hj2,hw⟩
   simp only at s7' s9 hj2 hw
   have hl7:=s7'.len
   have fin:(j<1∨¬atI ws j<atI ws (j - 1))→Srt a i ws:=fun hor p q h1 h2 h3=>by
    by_cases e:q=j
    ·by_cases e2:p=j
     ·rw[e,e2];exact Int.le_refl _
     ·have:=hw p (j - 1) h1 (by omega) (by omega) (by omega)
      rw[e]
      rcases hor with hh|hh
      ·omega
      ·omega
    ·exact hw p q h1 h2 h3 e
   refine go ?_
   refine WX.br (fun hk=> ?_) (fun hk=> ?_)<;>simp only[DB]at hk
   case refine_2=>
    refine go ?_
    exact zE ⟨ws,s7',fin (.inl (by omega))⟩
   refine go ?_
   refine WX.regionU2 0 rfl rfl ?_
   have srX:SlI (inC (zB 0 h7)) v ws:=(s7'.own).sl
   refine goU ?_
   refine WO.con (yz _ (atI ws j) (atI ws (j - 1))) ?_
   rintro _ _ ⟨rfl,rfl⟩
   refine WO.nil ?_
   refine yU ?_
   refine goU ?_
   rw[Yx]
   refine WX.br (fun hm=> ?_) (fun hm=> ?_)<;>simp only[DB]at hm
   ·refine go ?_
    exact zE ⟨ws,s7',fin (.inr (by omega))⟩
   have hja:a<j:=by
    by_cases e:a<j
    ·exact e
    ·have ej:j=a:=by omega
     subst ej
     have:=low.out ws s7'.pi (by omega) j (by omega) (by omega)
     omega
   refine go ?_
   refine WX.regionU2 0 rfl rfl ?_
   have srX:SlI (inC (zB 0 h7)) v ws:=(s7'.own).sl
   refine goU ?_
   refine WU2.swA (j) (j - 1) (s7').own (s7').ext (by rw[(s7').ext.mark];exact hmB) ?_
   intro h8 e8 o8 u8
   have s8':=s7'.swp e8 o8 u8 h0 hb (by omega) (by omega)
   refine go ?_
   refine zA (swp ws j (j - 1),j - 1) (by simp only;omega) ⟨s8',sl_,by simp only;omega,fun p q h1 h2 h3 h4=> ?_⟩
   exact zGJ (i:=i - 1) h0 hja (by omega) (by omega) hm (fun p q h1 h2 h3 h4=>hw p q h1 h2 (by omega) h4) p q h1 h2 (by omega) h4
  ·exact zE ⟨zs,s6,Srt.small (by omega)⟩
 clear s6 hz hl6
 rintro t7 h7 hs7 ⟨zs,s6,hz⟩
 have hl6:=s6.len
 refine go ?_
 refine WX.cutA [99,100,10,101,102,103,106,107,108,109,110,111,112,113,114,115,116,117,118,119,120,121,122,123,124,125,126,127,128,129,130,131,132,104,105,10] (by kernel_rfl) (fun t h'=>∃ ws,SS hB h v a b xs ws h'∧Srt a i ws) ?_ ?_
 ·refine WX.br (fun hj=> ?_) (fun hj=> ?_)<;>simp only[DB]at hj<;>refine go ?_
  ·refine WX.loopA [101,102,103,106,107,108,109,110,111,112,113,114,115,116,117,118,119,120,121,122,123,124,125,126,127,128,129,130,131,132,104,105,10] (by kernel_rfl) (fun x=>(b - x.2).toNat) (fun (x:List Int×Int) t h7=>SS hB h v a b xs x.1 h7∧zC t 10=I x.2∧(i+1≤x.2∧x.2≤b)∧Srt a i x.1) (zs,i+1) ?_ ?_
   ·exact⟨s6,sl_,by simp only;omega,hz⟩
   rintro⟨ws,j⟩ t h7 hsame3 ⟨s7',s10,hj2,hw⟩
   simp only at s7' s10 hj2 hw
   have hl7:=s7'.len
   refine go ?_
   refine WX.br (fun hk=> ?_) (fun hk=> ?_)<;>simp only[DB]at hk
   case refine_2=>
    refine go ?_
    exact zE ⟨ws,s7',hw⟩
   refine go ?_
   refine WX.regionU2 0 rfl rfl ?_
   have srX:SlI (inC (zB 0 h7)) v ws:=(s7'.own).sl
   refine goU ?_
   refine WO.con (yz _ (atI ws j) (atI ws (j - 1))) ?_
   rintro _ _ ⟨rfl,rfl⟩
   refine WO.nil ?_
   refine yU ?_
   refine goU ?_
   rw[Yx]
   refine WX.br (fun hm=> ?_) (fun hm=> ?_)<;>simp only[DB]at hm
   ·refine go ?_
    exact zE ⟨ws,s7',hw⟩
   refine go ?_
   refine WX.regionU2 0 rfl rfl ?_
   have srX:SlI (inC (zB 0 h7)) v ws:=(s7'.own).sl
   refine goU ?_
   refine WU2.swA (j) (j - 1) (s7').own (s7').ext (by rw[(s7').ext.mark];exact hmB) ?_
   intro h8 e8 o8 u8
   have s8':=s7'.swp e8 o8 u8 h0 hb (by omega) (by omega)
   refine go ?_
   exact zA (swp ws j (j - 1),j+1) (by simp only;omega) ⟨s8',sl_,by simp only;omega,srt_swp h0 (by omega) (by omega) hw⟩
  ·exact zE ⟨zs,s6,hz⟩
 clear s6 hz hl6
 rintro t8 h8 hs8 ⟨zs,s6,hz⟩
 refine go ?_
 exact zA (zs,i,c+1) (by simp only;omega) ⟨s6,sl_,sl_,hi,by simp only;omega,hz⟩
noncomputable def body72_0:ACode:=(.block 1 (.seq (.region [⟨some 19,none,(.mov (.tmp 2))⟩,⟨some 20,none,(.mov (.tmp 1))⟩,⟨some 21,none,(.bin .sub (.tmp 19) (.tmp 20))⟩,⟨some 10,none,(.mov (.tmp 21))⟩]) (.seq (.seq (.region [⟨some 22,none,(.mov (.tmp 10))⟩,⟨some 23,none,(.bin .leq (.tmp 22) (.const (.int .i64 12)))⟩]) (.cond (.tmp 23) (.seq (.region [⟨some 24,none,(.mov (.tmp 0))⟩,⟨some 25,none,(.mov (.tmp 1))⟩,⟨some 26,none,(.mov (.tmp 2))⟩,⟨some 27,none,(.call (.func 84) [(.tmp 24),(.tmp 25),(.tmp 26)])⟩]) .ret) .skip)) (.seq (.seq (.region [⟨some 28,none,(.mov (.tmp 3))⟩,⟨some 29,none,(.bin .eql (.tmp 28) (.const (.int .i64 0)))⟩]) (.cond (.tmp 29) (.seq (.region [⟨some 30,none,(.mov (.tmp 0))⟩,⟨some 31,none,(.mov (.tmp 1))⟩,⟨some 32,none,(.mov (.tmp 2))⟩,⟨some 33,none,(.call (.func 85) [(.tmp 30),(.tmp 31),(.tmp 32)])⟩]) .ret) .skip)) (.seq (.seq (.region [⟨some 34,none,(.mov (.tmp 8))⟩,⟨some 35,none,(.un .not (.tmp 34))⟩]) (.cond (.tmp 35) (.seq (.region [⟨some 36,none,(.mov (.tmp 0))⟩,⟨some 37,none,(.mov (.tmp 1))⟩,⟨some 38,none,(.mov (.tmp 2))⟩,⟨some 39,none,(.call (.func 86) [(.tmp 36),(.tmp 37),(.tmp 38)])⟩]) (.region [⟨some 40,none,(.mov (.tmp 3))⟩,⟨some 41,none,(.bin .sub (.tmp 40) (.const (.int .i64 1)))⟩,⟨some 3,none,(.mov (.tmp 41))⟩])) .skip)) (.seq (.region [⟨some 43,none,(.mov (.tmp 0))⟩,⟨some 44,none,(.mov (.tmp 1))⟩,⟨some 45,none,(.mov (.tmp 2))⟩,⟨some 46,none,(.call (.func 87) [(.tmp 43),(.tmp 44),(.tmp 45)])⟩,⟨some 42,none,(.mov (.tmp 46))⟩,⟨some 47,none,(.extract (.tmp 42) 0)⟩,⟨some 48,none,(.extract (.tmp 42) 1)⟩,⟨some 11,none,(.mov (.tmp 47))⟩,⟨some 12,none,(.mov (.tmp 48))⟩]) (.seq (.seq (.region [⟨some 49,none,(.mov (.tmp 12))⟩,⟨some 50,none,(.bin .eql (.tmp 49) (.const (.int .i64 2)))⟩]) (.cond (.tmp 50) (.seq (.region [⟨some 51,none,(.mov (.tmp 0))⟩,⟨some 52,none,(.mov (.tmp 1))⟩,⟨some 53,none,(.mov (.tmp 2))⟩,⟨some 54,none,(.call (.func 88) [(.tmp 51),(.tmp 52),(.tmp 53)])⟩]) (.seq (.region [⟨some 55,none,(.mov (.tmp 2))⟩,⟨some 56,none,(.bin .sub (.tmp 55) (.const (.int .i64 1)))⟩,⟨some 57,none,(.mov (.tmp 11))⟩,⟨some 58,none,(.mov (.tmp 1))⟩,⟨some 59,none,(.bin .sub (.tmp 57) (.tmp 58))⟩,⟨some 60,none,(.bin .sub (.tmp 56) (.tmp 59))⟩,⟨some 11,none,(.mov (.tmp 60))⟩]) (.region [⟨some 12,none,(.mov (.const (.int .i64 1)))⟩]))) .skip)) (.seq (.seq (.region [⟨some 61,none,(.mov (.tmp 8))⟩,⟨some 62,none,(.mov (.tmp 61))⟩,⟨some 63,some (62,true),(.mov (.tmp 9))⟩,⟨some 64,none,(.pick (.tmp 62) (.tmp 63) (.const (.bool false)))⟩,⟨some 65,none,(.mov (.tmp 64))⟩,⟨some 66,some (65,true),(.mov (.tmp 12))⟩,⟨some 67,some (65,true),(.bin .eql (.tmp 66) (.const (.int .i64 1)))⟩,⟨some 68,none,(.pick (.tmp 65) (.tmp 67) (.const (.bool false)))⟩]) (.cond (.tmp 68) (.seq (.region [⟨some 69,none,(.mov (.tmp 0))⟩,⟨some 70,none,(.mov (.tmp 1))⟩,⟨some 71,none,(.mov (.tmp 2))⟩,⟨some 72,none,(.call (.func 89) [(.tmp 69),(.tmp 70),(.tmp 71)])⟩]) (.cond (.tmp 72) .ret .skip)) .skip)) (.seq (.seq (.regionC [(⟨some 73,none,(.mov (.tmp 1))⟩,[]),(⟨some 74,none,(.bin .gtr (.tmp 73) (.const (.int .i64 0)))⟩,[]),(⟨some 75,none,(.mov (.tmp 74))⟩,[]),(⟨some 76,some (75,true),(.mov (.tmp 0))⟩,[]),(⟨some 77,some (75,true),(.mov (.tmp 1))⟩,[]),(⟨some 78,some (75,true),(.bin .sub (.tmp 77) (.const (.int .i64 1)))⟩,[]),(⟨some 79,some (75,true),(.idx 1 (.tmp 76) (.tmp 78))⟩,[]),(⟨some 80,some (75,true),(.load false 1 (.tmp 79))⟩,[]),(⟨some 81,some (75,true),(.mov (.tmp 0))⟩,[]),(⟨some 82,some (75,true),(.mov (.tmp 11))⟩,[]),(⟨some 83,some (75,true),(.idx 1 (.tmp 81) (.tmp 82))⟩,[]),(⟨some 84,some (75,true),(.load false 1 (.tmp 83))⟩,[]),(⟨some 85,some (75,true),(.call (.func 90) [(.tmp 80),(.tmp 84)])⟩,[]),(⟨some 86,some (75,true),(.un .not (.tmp 85))⟩,[]),(⟨some 87,none,(.pick (.tmp 75) (.tmp 86) (.const (.bool false)))⟩,[])]) (.cond (.tmp 87) (.seq (.region [⟨some 88,none,(.mov (.tmp 0))⟩,⟨some 89,none,(.mov (.tmp 1))⟩,⟨some 90,none,(.mov (.tmp 2))⟩,⟨some 91,none,(.mov (.tmp 11))⟩,⟨some 92,none,(.call (.func 91) [(.tmp 88),(.tmp 89),(.tmp 90),(.tmp 91)])⟩,⟨some 13,none,(.mov (.tmp 92))⟩]) (.seq (.region [⟨some 93,none,(.mov (.tmp 13))⟩,⟨some 1,none,(.mov (.tmp 93))⟩]) (.exit 1))) .skip)) (.seq (.region [⟨some 95,none,(.mov (.tmp 0))⟩,⟨some 96,none,(.mov (.tmp 1))⟩,⟨some 97,none,(.mov (.tmp 2))⟩,⟨some 98,none,(.mov (.tmp 11))⟩,⟨some 99,none,(.call (.func 92) [(.tmp 95),(.tmp 96),(.tmp 97),(.tmp 98)])⟩,⟨some 94,none,(.mov (.tmp 99))⟩,⟨some 100,none,(.extract (.tmp 94) 0)⟩,⟨some 101,none,(.extract (.tmp 94) 1)⟩,⟨some 14,none,(.mov (.tmp 100))⟩,⟨some 15,none,(.mov (.tmp 101))⟩]) (.seq (.region [⟨some 102,none,(.mov (.tmp 15))⟩,⟨some 9,none,(.mov (.tmp 102))⟩]) (.seq (.region [⟨some 103,none,(.mov (.tmp 14))⟩,⟨some 104,none,(.mov (.tmp 1))⟩,⟨some 105,none,(.bin .sub (.tmp 103) (.tmp 104))⟩,⟨some 106,none,(.mov (.tmp 2))⟩,⟨some 107,none,(.mov (.tmp 14))⟩,⟨some 108,none,(.bin .sub (.tmp 106) (.tmp 107))⟩,⟨some 16,none,(.mov (.tmp 105))⟩,⟨some 17,none,(.mov (.tmp 108))⟩]) (.seq (.region [⟨some 109,none,(.mov (.tmp 10))⟩,⟨some 110,none,(.bin .quo (.tmp 109) (.const (.int .i64 8)))⟩,⟨some 18,none,(.mov (.tmp 110))⟩]) (.seq (.region [⟨some 111,none,(.mov (.tmp 16))⟩,⟨some 112,none,(.mov (.tmp 17))⟩,⟨some 113,none,(.bin .lss (.tmp 111) (.tmp 112))⟩]) (.cond (.tmp 113) (.seq (.region [⟨some 114,none,(.mov (.tmp 16))⟩,⟨some 115,none,(.mov (.tmp 18))⟩,⟨some 116,none,(.bin .geq (.tmp 114) (.tmp 115))⟩,⟨some 8,none,(.mov (.tmp 116))⟩]) (.seq (.region [⟨some 117,none,(.mov (.tmp 0))⟩,⟨some 118,none,(.mov (.tmp 1))⟩,⟨some 119,none,(.mov (.tmp 14))⟩,⟨some 120,none,(.mov (.tmp 3))⟩,⟨some 121,none,(.call (.func 72) [(.tmp 117),(.tmp 118),(.tmp 119),(.tmp 120)])⟩]) (.region [⟨some 122,none,(.mov (.tmp 14))⟩,⟨some 123,none,(.bin .add (.tmp 122) (.const (.int .i64 1)))⟩,⟨some 1,none,(.mov (.tmp 123))⟩]))) (.seq (.region [⟨some 124,none,(.mov (.tmp 17))⟩,⟨some 125,none,(.mov (.tmp 18))⟩,⟨some 126,none,(.bin .geq (.tmp 124) (.tmp 125))⟩,⟨some 8,none,(.mov (.tmp 126))⟩]) (.seq (.region [⟨some 127,none,(.mov (.tmp 0))⟩,⟨some 128,none,(.mov (.tmp 14))⟩,⟨some 129,none,(.bin .add (.tmp 128) (.const (.int .i64 1)))⟩,⟨some 130,none,(.mov (.tmp 2))⟩,⟨some 131,none,(.mov (.tmp 3))⟩,⟨some 132,none,(.call (.func 72) [(.tmp 127),(.tmp 129),(.tmp 130),(.tmp 131)])⟩]) (.region [⟨some 133,none,(.mov (.tmp 14))⟩,⟨some 2,none,(.mov (.tmp 133))⟩]))))))))))))))))))
noncomputable def body72:ACode:=(.seq (.region [⟨some 8,none,(.mov (.const (.bool true)))⟩]) (.seq (.region [⟨some 9,none,(.mov (.const (.bool true)))⟩]) (.block 0 (.loop body72_0))))
set_option maxRecDepth 100000 in
theorem tab72:tb.code 72=some ⟨134,[],body72⟩:=by kernel_rfl
theorem pdq_ok (n:Nat):∀ (hB h:AHeap) (v:Value) (xs:List Int) (a b lim:Int) (e0:Ext hB h) (hmB:hB.mark≤hB.n) (o:OwnI hB h v xs) (h0:0≤a) (hab:a≤b) (hb:b≤xs.length) (hn:b - a≤n) (hlen:xs.length≤1000000000) (hlim:0≤lim∧lim≤1000) (hpre:0<a→∀ k,a≤k→k<b→atI xs (a - 1)≤atI xs k),
  WC Tryd.prog tb 72 [v,I a,I b,I lim] h fun r h'=>∃ ys,SS hB h v a b xs ys h'∧Srt a b ys:=by
 induction n using Nat.strongRecOn with
 |_ n IH=>
 intro hB h v xs a b lim e0 hmB o h0 hab hb hn hlen hlim hpre
 have IH:=Hid.mk IH
 have s0:=SS.start a b o e0
 refine WC.of (zF 72) tab72 ?_;simp only[zO,Nat.zero_add,Nat.reduceAdd]
 refine go ?_
 refine WX.loopA [19,20,21,10,22,23,24,25,26,27,28,29,30,31,32,33,34,35,36,37,38,39,40,41,3,43,44,45,46,42,47,48,11,12,49,50,51,52,53,54,55,56,57,58,59,60,11,12,61,62,63,64,65,66,67,68,69,70,71,72,73,74,75,76,77,78,79,80,81,82,83,84,85,86,87,88,89,90,91,92,13,93,1,95,96,97,98,99,94,100,101,14,15,102,9,103,104,105,106,107,108,16,17,109,110,18,111,112,113,114,115,116,8,117,118,119,120,121,122,123,1,124,125,126,8,127,128,129,130,131,132,133,2] (by kernel_rfl) (fun x=>(x.2.2.1 - x.2.1).toNat) (fun (x:List Int×Int×Int×Int×Bool×Bool) t h4=>SS hB h v a b xs x.1 h4∧zC t 1=I x.2.1∧zC t 2=I x.2.2.1∧zC t 3=I x.2.2.2.1∧zC t 8= .bool x.2.2.2.2.1∧zC t 9= .bool x.2.2.2.2.2∧(a≤x.2.1∧x.2.1≤x.2.2.1∧x.2.2.1≤b)∧(0≤x.2.2.2.1∧x.2.2.2.1≤1000)∧Srt a x.2.1 x.1∧Srt x.2.2.1 b x.1∧(∀ p q,a≤p→p<x.2.1→x.2.1≤q→q<b→atI x.1 p≤atI x.1 q)∧(∀ p q,a≤p→p<x.2.2.1→x.2.2.1≤q→q<b→atI x.1 p≤atI x.1 q)∧(0<x.2.1→∀ k,x.2.1≤k→k<x.2.2.1→atI x.1 (x.2.1 - 1)≤atI x.1 k)) (xs,a,b,lim,true,true) ?_ ?_
 ·exact⟨s0,sl_,sl_,sl_,sl_,sl_,by simp only;omega,hlim,Srt.small (by simp only;omega),Srt.small (by simp only;omega),fun p q h1 h2=>by simp only at h2;omega,fun p q h1 h2 h3 h4=>by simp only at h3;omega,hpre⟩
 rintro⟨ys,c,d,lm,wb,wp⟩ t h4 hsame ⟨s4,s1,s2,s3,s8,s9,hcd,hlm,rA,rB,rL,rH,hpr⟩
 simp only at s4 s1 s2 s3 s8 s9 hcd hlm rA rB rL rH hpr
 have hl4:=s4.len
 have whole:Hid (∀ zs h5,SS hB h4 v c d ys zs h5→Srt c d zs→SS hB h v a b xs zs h5∧Srt a b zs):=Hid.mk fun zs h5 s5 r5=>by
  refine⟨s4.call s5 hcd.1 hcd.2.2,fun p q h1 h2 h3=> ?_⟩
  have p5:=s5.pi
  have o5:=p5.out
  by_cases hq:q<c
  ·rw[o5 p (by omega) (.inl (by omega)),o5 q (by omega) (.inl hq)];exact rA p q h1 h2 hq
  by_cases hp:d≤p
  ·rw[o5 p (by omega) (.inr hp),o5 q (by omega) (.inr (by omega))];exact rB p q hp h2 h3
  by_cases hp2:p<c
  ·rw[o5 p (by omega) (.inl hp2)]
   by_cases hq2:d≤q
   ·rw[o5 q (by omega) (.inr hq2)];exact rL p q h1 hp2 (by omega) h3
   ·exact p5.all (p:=fun x=>atI ys p≤x) (by omega) (by omega) (fun k hk1 hk2=>rL p k h1 hp2 hk1 (by omega)) q (by omega) (by omega)
  ·by_cases hq2:d≤q
   ·rw[o5 q (by omega) (.inr hq2)]
    exact p5.all (p:=fun x=>x≤atI ys q) (by omega) (by omega) (fun k hk1 hk2=>rH k q (by omega) hk2 hq2 h3) p (by omega) (by omega)
   ·exact r5 p q (by omega) h2 (by omega)
 refine go ?_
 refine WX.br (fun hx=> ?_) (fun hx=> ?_)<;>simp only[DB]at hx
 ·refine go ?_
  refine WO.con (zEx hB h4 v ys c d s4.ext hmB s4.own (by omega) (by omega) (by omega) (by omega)) ?_
  rintro _ h5 ⟨zs,o5,p5,r5,e5,u5⟩
  refine go ?_
  refine rt ?_
  exact⟨zs,whole.out zs h5 ⟨o5,e5,u5,p5⟩ r5⟩
 refine go ?_
 refine WX.br (fun hy=> ?_) (fun hy=> ?_)<;>simp only[DB]at hy
 ·refine go ?_
  refine WO.con (heap_ok hB h4 v ys c d s4.ext hmB s4.own (by omega) (by omega) (by omega) (by omega)) ?_
  rintro _ h5 ⟨zs,s5,r5⟩
  refine go ?_
  refine rt ?_
  exact⟨zs,whole.out zs h5 s5 r5⟩
 refine go ?_
 refine WX.cutA [36,37,38,39,40,41,3] (by kernel_rfl) (fun t h'=>∃ zs l2,SS hB h4 v c d ys zs h'∧zC t 3=I l2∧0≤l2∧l2≤1000) ?_ ?_
 ·refine WX.br (fun hz=> ?_) (fun hz=> ?_)<;>simp only[DB]at hz<;>refine go ?_
  ·refine WO.con (break_ok hB h4 v ys c d s4.ext hmB s4.own (by omega) (by omega) (by omega) (by omega)) ?_
   rintro _ h5 ⟨zs,s5⟩
   refine go ?_
   exact zE ⟨zs,lm - 1,s5,sl_,by omega,by omega⟩
  ·exact zE ⟨ys,lm,SS.start c d s4.own s4.ext,sl_,hlm.1,hlm.2⟩
 rintro t5 h5 hs5 ⟨zs,l2,s5,q3,hl2⟩
 have hl5:=s5.len
 refine go ?_
 refine WO.con (pivot_ok h5 v zs c d s5.own.sl (by omega) (by omega) (by omega) (by omega)) ?_
 rintro _ h6 ⟨⟨pv,hint,rfl,hpv⟩,e6⟩
 have s6:=s5.extd e6
 refine go ?_
 refine WX.cutA [51,52,53,54,55,56,57,58,59,60,11,12] (by kernel_rfl) (fun t h'=>∃ ws p2 hi2,SS hB h4 v c d ys ws h'∧zC t 11=I p2∧zC t 12=I hi2∧c≤p2∧p2<d) ?_ ?_
 ·refine WX.br (fun hz=> ?_) (fun hz=> ?_)<;>simp only[DB]at hz<;>refine go ?_
  ·refine WO.con (zHc hB h6 v zs c d s6.ext hmB s6.own (by omega) (by omega) (by omega) (by omega)) ?_
   rintro _ h7 ⟨ws,s7⟩
   refine go ?_
   exact zE ⟨ws,_,1,s6.call s7 (by omega) (by omega),sl_,sl_,by omega,by omega⟩
  ·exact zE ⟨zs,pv,hint,s6,sl_,sl_,hpv.1,hpv.2⟩
 clear s5 s6 hl5
 rintro t7 h7 hs7 ⟨ws,p2,hi2,s7,q11,q12,hp2⟩
 have hl7:=s7.len
 have low7:Hid (∀ us,PI c d ys us→0<c→∀ k,c≤k→k<d→atI us (c - 1)≤atI us k):=Hid.mk fun us p hc=>by
  rw[p.out (c - 1) (by omega) (.inl (by omega))]
  exact p.all (p:=fun x=>atI ys (c - 1)≤x) (by omega) (by omega) (hpr hc)
 have env:Hid (∀ us,PI c d ys us→Srt a c us∧Srt d b us∧(∀ p q,a≤p→p<c→c≤q→q<b→atI us p≤atI us q)∧(∀ p q,a≤p→p<d→d≤q→q<b→atI us p≤atI us q)):=Hid.mk fun us p5=>by
  have o5:=p5.out
  refine⟨fun p q h1 h2 h3=> ?_,fun p q h1 h2 h3=> ?_,fun p q h1 h2 h3 h4=> ?_,fun p q h1 h2 h3 h4=> ?_⟩
  ·rw[o5 p (by omega) (.inl (by omega)),o5 q (by omega) (.inl h3)];exact rA p q h1 h2 h3
  ·rw[o5 p (by omega) (.inr (by omega)),o5 q (by omega) (.inr (by omega))];exact rB p q h1 h2 h3
  ·rw[o5 p (by omega) (.inl (by omega))]
   by_cases hq2:d≤q
   ·rw[o5 q (by omega) (.inr hq2)];exact rL p q h1 h2 h3 h4
   ·exact p5.all (p:=fun x=>atI ys p≤x) (by omega) (by omega) (fun k hk1 hk2=>rL p k h1 h2 hk1 (by omega)) q h3 (by omega)
  ·rw[o5 q (by omega) (.inr (by omega))]
   by_cases hp:p<c
   ·rw[o5 p (by omega) (.inl hp)];exact rH p q h1 h2 h3 h4
   ·exact p5.all (p:=fun x=>x≤atI ys q) (by omega) (by omega) (fun k hk1 hk2=>rH k q (by omega) hk2 h3 h4) p (by omega) h2
 clear rA rB rL rH hpr
 refine go ?_
 refine WO.mid 6 (fun t' h'=>h7=h'∧∃ bb,zC t' 68= .bool bb) ?_ ?_<;>simp only[List.take_succ_cons,List.take_zero,List.drop_succ_cons,List.drop_zero]
 ·cases wb<;>cases wp<;>refine go ?_<;>exact⟨rfl,rfl,rfl,_,sl_⟩
 rintro t8 _ hs8 ⟨rfl,bb,q68⟩
 refine go ?_
 refine WX.cutA [69,70,71,72] (by kernel_rfl) (fun t h'=>∃ us,SS hB h4 v c d ys us h') ?_ ?_
 ·refine WX.br (fun hz=> ?_) (fun hz=> ?_)<;>refine go ?_
  ·refine WO.con (zHF hB h7 v ws c d s7.ext hmB s7.own (by omega) (by omega) (by omega) (by omega) (low7.out ws s7.pi)) ?_
   rintro _ h9 ⟨us,w,rfl,s9',r9⟩
   have r9:=Hid.mk r9
   refine WO.nil ?_
   refine YK ?_
   refine WX.br (fun hw=> ?_) (fun hw=> ?_)
   ·refine WX.ret ?_
    refine cutK_ret ?_
    refine go ?_
    refine rt ?_
    exact⟨us,whole.out us h9 (s7.call s9' (by omega) (by omega)) (r9.out hw)⟩
   ·refine WX.skip ?_
    exact zE ⟨us,s7.call s9' (by omega) (by omega)⟩
  ·exact zE ⟨ws,s7⟩
 clear s7 hl7
 rintro t9 h9 hs9 ⟨us,s9'⟩
 have hl9:=s9'.len
 refine go ?_
 refine WX.cutA [73,74,75,76,77,78,79,80,81,82,83,84,85,86,87] (by kernel_rfl) (fun t h'=>h9=h'∧zC t 87= .bool (decide (0<c∧¬(atI us (c - 1)<atI us p2)))) ?_ ?_
 ·refine WX.regionU2 0 rfl rfl ?_
  have srX:SlI (inC (zB 0 h9)) v us:=(s9'.own).sl
  refine goU ?_
  refine WO.sp (fun hd=> ?_) (fun hd=> ?_)<;>simp only[DB]at hd<;>refine goU ?_
  ·refine WO.con (yz _ (atI us (c - 1)) (atI us p2)) ?_
   rintro _ _ ⟨rfl,rfl⟩
   refine WO.nil ?_
   refine yU ?_
   refine goU ?_
   exact zE ⟨rfl,by rw[show decide (0<c∧¬(atI us (c - 1)<atI us p2))= !decide (atI us (c - 1)<atI us p2) from zBd hd];exact sl_⟩
  ·exact zE ⟨rfl,by rw[show decide (0<c∧¬(atI us (c - 1)<atI us p2))=false from decide_eq_false (fun hh=>absurd hh.1 (by omega))];exact sl_⟩
 rintro t10 _ hs10 ⟨rfl,q10⟩
 refine go ?_
 refine WX.br (fun hz=> ?_) (fun hz=> ?_)<;>simp only[DB]at hz<;>refine go ?_
 ·refine WO.con (zFI hB h9 v us c d p2 s9'.ext hmB s9'.own (by omega) (by omega) (by omega) (by omega)) ?_
  rintro _ h11 ⟨zs,m,rfl,s11,hm,lo,hi⟩
  have sw:=s9'.call s11 (Int.le_refl _) (Int.le_refl _)
  obtain⟨eA,eB,eL,eH⟩:=env.out zs sw.pi
  have lz:=low7.out zs sw.pi hz.1
  have hP:atI us p2≤atI zs (c - 1):=by
   rw[s11.pi.out (c - 1) (by omega) (.inl (by omega))];omega
  refine go ?_
  refine zA (zs,m,d,l2,wb,wp) (by simp only;omega) ⟨s4.call sw hcd.1 hcd.2.2,sl_,sl_,sl_,sl_,sl_,by simp only;omega,hl2,fun p q h1 h2 h3=> ?_,eB,fun p q h1 h2 h3 h4=> ?_,eH,fun h1 k h2 h3=> ?_⟩
  ·simp only at h3 ⊢
   by_cases hq:q<c
   ·exact eA p q h1 h2 hq
   by_cases hp:p<c
   ·exact eL p q h1 hp (by omega) (by omega)
   ·have x1:=lo p (by omega) (by omega);have x2:=lz q (by omega) (by omega);omega
  ·simp only at h2 h3 ⊢
   by_cases hp:p<c
   ·exact eL p q h1 hp (by omega) h4
   by_cases hq:d≤q
   ·exact eH p q h1 (by omega) hq h4
   ·have x1:=lo p (by omega) (by omega);have x2:=hi q (by omega) (by omega);omega
  ·simp only at h1 h2 h3 ⊢
   have x1:=lo (m - 1) (by omega) (by omega);have x2:=hi k (by omega) (by omega);omega
 ·refine WO.con (zFX hB h9 v us c d p2 s9'.ext hmB s9'.own (by omega) (by omega) (by omega) (by omega)) ?_
  rintro _ h11 ⟨zs,m,w,rfl,s11,hm,lo,hi⟩
  have sw:=s9'.call s11 (Int.le_refl _) (Int.le_refl _)
  have hlw:=sw.len
  refine go ?_
  refine WO.quo (a:=d - c) (c:=8) (by decide) (by rw[Int.tdiv_eq_ediv_of_nonneg (by omega)];omega) (by rw[Int.tdiv_eq_ediv_of_nonneg (by omega)];omega) ?_
  refine go ?_
  refine WX.br (fun hy2=> ?_) (fun hy2=> ?_)<;>simp only[DB]at hy2<;>refine go ?_
  ·refine WO.con (IH.out (m - c).toNat (by omega) hB h11 v zs c m l2 sw.ext hmB sw.own (by omega) (by omega) (by omega) (by omega) (by omega) hl2 (fun h1 k h2 h3=>low7.out zs sw.pi h1 k h2 (by omega))) ?_
   rintro _ h12 ⟨vs,s12,r12⟩
   have st:=sw.call s12 (Int.le_refl _) (by omega)
   obtain⟨eA,eB,eL,eH⟩:=env.out vs st.pi
   have same:∀ k,m≤k→atI vs k=atI zs k:=fun k hk=>s12.pi.out k (by omega) (.inr hk)
   have left:∀ k,c≤k→k<m→atI vs k≤atI zs m:=s12.pi.all (p:=fun x=>x≤atI zs m) (by omega) (by omega) (fun k h1 h2=>lo k h1 h2)
   refine go ?_
   refine zA (vs,m+1,d,l2,decide ((d - c).tdiv 8≤m - c),w) (by simp only;omega) ⟨s4.call st hcd.1 hcd.2.2,sl_,sl_,sl_,sl_,sl_,by simp only;omega,hl2,fun p q h1 h2 h3=> ?_,eB,fun p q h1 h2 h3 h4=> ?_,eH,fun h1 k h2 h3=> ?_⟩
   ·simp only at h3 ⊢
    by_cases hq:q<c
    ·exact eA p q h1 h2 hq
    by_cases hp:p<c
    ·exact eL p q h1 hp (by omega) (by omega)
    by_cases hqm:q=m
    ·by_cases hpm:p=m
     ·rw[hqm,hpm];exact Int.le_refl _
     ·rw[hqm,same m (Int.le_refl _)];exact left p (by omega) (by omega)
    ·exact r12 p q (by omega) h2 (by omega)
   ·simp only at h2 h3 ⊢
    by_cases hp:p<c
    ·exact eL p q h1 hp (by omega) h4
    by_cases hq:d≤q
    ·exact eH p q h1 (by omega) hq h4
    ·rw[same q (by omega)]
     have x2:=hi q (by omega) (by omega)
     by_cases hpm:p=m
     ·rw[hpm,same m (Int.le_refl _)];exact x2
     ·have x1:=left p (by omega) (by omega);omega
   ·simp only at h1 h2 h3 ⊢
    rw[show m+1 - 1=m by omega,same m (Int.le_refl _),same k (by omega)]
    exact hi k (by omega) h3
  ·refine WO.con (IH.out (d - (m+1)).toNat (by omega) hB h11 v zs (m+1) d l2 sw.ext hmB sw.own (by omega) (by omega) (by omega) (by omega) (by omega) hl2 (fun h1 k h2 h3=>by rw[show m+1 - 1=m by omega];exact hi k (by omega) h3)) ?_
   rintro _ h12 ⟨vs,s12,r12⟩
   have st:=sw.call s12 (by omega) (Int.le_refl _)
   obtain⟨eA,eB,eL,eH⟩:=env.out vs st.pi
   have same:∀ k,0≤k→k≤m→atI vs k=atI zs k:=fun k h0 hk=>s12.pi.out k h0 (.inl (by omega))
   have right:∀ k,m+1≤k→k<d→atI zs m≤atI vs k:=s12.pi.all (p:=fun x=>atI zs m≤x) (by omega) (by omega) (fun k h1 h2=>hi k (by omega) h2)
   refine go ?_
   refine zA (vs,c,m,l2,decide ((d - c).tdiv 8≤d - m),w) (by simp only;omega) ⟨s4.call st hcd.1 hcd.2.2,sl_,sl_,sl_,sl_,sl_,by simp only;omega,hl2,eA,fun p q h1 h2 h3=> ?_,eL,fun p q h1 h2 h3 h4=> ?_,fun h1 k h2 h3=> ?_⟩
   ·simp only at h1 ⊢
    by_cases hp:d≤p
    ·exact eB p q hp h2 h3
    by_cases hq:d≤q
    ·exact eH p q (by omega) (by omega) hq h3
    by_cases hpm:p=m
    ·by_cases hqm:q=m
     ·rw[hqm,hpm];exact Int.le_refl _
     ·rw[hpm,same m (by omega) (Int.le_refl _)];exact right q (by omega) (by omega)
    ·exact r12 p q (by omega) h2 (by omega)
   ·simp only at h2 h3 ⊢
    by_cases hp:p<c
    ·exact eL p q h1 hp (by omega) h4
    by_cases hq:d≤q
    ·exact eH p q h1 (by omega) hq h4
    ·have x1:=lo p (by omega) h2
     rw[same p (by omega) (by omega)]
     by_cases hqm:q=m
     ·rw[hqm,same m (by omega) (Int.le_refl _)];exact x1
     ·have x2:=right q (by omega) (by omega);omega
   ·simp only at h1 h2 h3 ⊢
    exact low7.out vs st.pi h1 k h2 (by omega)
theorem zEG (h:AHeap):WC Tryd.prog tb 84 [.slice none 0 0,I 0,I 0] h fun r h'=>h=h':=by
 refine WC.of (zF 84) tab84 ?_;simp only[zO,Nat.zero_add,Nat.reduceAdd]
 refine go ?_
 refine WX.loopA [10,11,12,15,7,16,17,18,19,20,21,22,23,24,25,26,27,28,29,30,33,34,35,36,37,38,39,40,41,42,43,44,45,46,47,48,31,32,7,13,14,6] (by kernel_rfl) (fun _=>0) (fun (_:Unit) t h1=>h=h1∧zC t 6=I 1) () ?_ ?_
 ·exact⟨rfl,sl_⟩
 rintro _ t _ hsame ⟨rfl,s6⟩
 refine go ?_
 refine rtN ?_
 rfl
theorem pdq_nil (h:AHeap) (k:Int):WC Tryd.prog tb 72 [.slice none 0 0,I 0,I 0,I k] h fun r h'=>h=h':=by
 refine WC.of (zF 72) tab72 ?_;simp only[zO,Nat.zero_add,Nat.reduceAdd]
 refine go ?_
 refine WX.loopA [19,20,21,10,22,23,24,25,26,27,28,29,30,31,32,33,34,35,36,37,38,39,40,41,3,43,44,45,46,42,47,48,11,12,49,50,51,52,53,54,55,56,57,58,59,60,11,12,61,62,63,64,65,66,67,68,69,70,71,72,73,74,75,76,77,78,79,80,81,82,83,84,85,86,87,88,89,90,91,92,13,93,1,95,96,97,98,99,94,100,101,14,15,102,9,103,104,105,106,107,108,16,17,109,110,18,111,112,113,114,115,116,8,117,118,119,120,121,122,123,1,124,125,126,8,127,128,129,130,131,132,133,2] (by kernel_rfl) (fun _=>0) (fun (_:Unit) t h1=>h=h1∧zC t 1=I 0∧zC t 2=I 0) () ?_ ?_
 ·exact⟨rfl,sl_,sl_⟩
 rintro _ t _ hsame ⟨rfl,s1,s2⟩
 refine go ?_
 refine WO.con (zEG h) ?_
 rintro _ _ rfl
 refine go ?_
 refine rt ?_
 rfl
def zBz (xs:List Int):List Int:=xs.mergeSort (fun a b=>decide (a≤b))
noncomputable def body57:ACode:=(.seq (.region [⟨some 3,none,(.mov (.tmp 0))⟩,⟨some 4,none,(.len (.tmp 3))⟩,⟨some 2,none,(.mov (.tmp 4))⟩]) (.region [⟨some 5,none,(.mov (.tmp 0))⟩,⟨some 6,none,(.mov (.tmp 2))⟩,⟨some 7,none,(.mov (.tmp 2))⟩,⟨some 8,none,(.conv .u64 (.tmp 7))⟩,⟨some 9,none,(.call (.func 73) [(.tmp 8)])⟩,⟨some 10,none,(.call (.func 72) [(.tmp 5),(.const (.int .i64 0)),(.tmp 6),(.tmp 9)])⟩]))
set_option maxRecDepth 100000 in
theorem tab57:tb.code 57=some ⟨11,[],body57⟩:=by kernel_rfl
theorem sort_ok (hB h:AHeap) (v:Value) (xs:List Int) (e0:Ext hB h) (hmB:hB.mark≤hB.n) (o:OwnN hB h v xs) (hlen:xs.length≤1000000000):
  WC Tryd.prog tb 57 [v] h fun r h'=>OwnN hB h' v (zBz xs)∧Ext hB h'∧Upd v h h':=by
 have s:SlI h v xs:=o.sl
 refine WC.of (zF 57) tab57 ?_;simp only[zO,Nat.zero_add,Nat.reduceAdd]
 refine go ?_
 rw[Zv (by omega) (by omega)]
 refine WO.con (len_ok h xs.length (by omega) (by omega)) ?_
 rintro _ _ ⟨⟨k,rfl,hk,hk2⟩,rfl⟩
 refine go ?_
 rcases o with ⟨rfl,rfl⟩|o
 ·rw[show ((([]:List Int).length:Nat):Int)=0 from rfl]
  refine WO.con (pdq_nil h k) ?_
  rintro _ _ rfl
  refine go ?_
  refine rtN ?_
  exact⟨.inl ⟨rfl,by simp[zBz]⟩,e0,Upd.refl _ _⟩
 refine WO.con (pdq_ok xs.length hB h v xs 0 xs.length k e0 hmB o (by omega) (by omega) (by omega) (by omega) hlen (by omega) (fun h=>by omega)) ?_
 rintro _ h2 ⟨ys,s2,r2⟩
 refine go ?_
 refine rtN ?_
 have:ys=zBz xs:=zG8 s2.pi.perm (by rw[s2.len];exact r2)
 exact⟨.inr (this▸s2.own),s2.ext,s2.upd⟩
end Go.Proofs.YtemggiegiejopaaDoor
namespace Go.Proofs.YtemggiegiejopaaDoor
open Go.Am
set_option linter.unusedVariables false
set_option linter.unusedSimpArgs false
theorem wf_u8 {n:Int} (h:(Lit.int .u8 n).wf=true):0≤n∧n≤255:=by
 simp[Lit.wf,IntKind.wrap,IntKind.signed,IntKind.bits]at h
 have h1:IntKind.min .u8=0:=by decide
 have h2:IntKind.max .u8=255:=by decide
 omega
theorem len2 {l:List Value} (h:l.length=2):∃ a b,l=[a,b]:=by
 match l,h with
 |[a,b],_=>exact⟨a,b,rfl⟩
theorem len4 {l:List Value} (h:l.length=4):∃ a b c d,l=[a,b,c,d]:=by
 match l,h with
 |[a,b,c,d],_=>exact⟨a,b,c,d,rfl⟩
theorem len5 {l:List Value} (h:l.length=5):∃ a b c d e,l=[a,b,c,d,e]:=by
 match l,h with
 |[a,b,c,d,e],_=>exact⟨a,b,c,d,e,rfl⟩
theorem len7 {l:List Value} (h:l.length=7):∃ a b c d e f g,l=[a,b,c,d,e,f,g]:=by
 match l,h with
 |[a,b,c,d,e,f,g],_=>exact⟨a,b,c,d,e,f,g,rfl⟩
section
variable {H:Type} {h:AHeap}
theorem rd_type (cs:List Value) (d:DataW H) (r:Rd Tryd.prog h 65 cs d) (hw:wOk Tryd.prog 65 d):∃ a,RTy h cs a:=by
 obtain⟨hl,hr⟩:=Zq r Tryd.underlying65 hw
 have hc:Tryd.prog.cellsOf 65=4:=by kernel_rfl
 rw[hc]at hl
 obtain⟨x0,x1,x2,x3,rfl⟩:∃ x0 x1 x2 x3,cs=[x0,x1,x2,x3]:=by
  exact len4 hl
 obtain⟨d0,r0,w0⟩:=hr 0 _ rfl
 have c0:Tryd.prog.cellsOf 5=1:=by kernel_rfl
 replace r0:Rd Tryd.prog h 5 (([x0,x1,x2,x3].drop 0).take (Tryd.prog.cellsOf 5)) d0:=r0
 replace w0:wOk Tryd.prog 5 d0:=w0
 rw[c0]at r0
 replace r0:Rd Tryd.prog h 5 [x0] d0:=r0
 obtain⟨d1,r1,w1⟩:=hr 1 _ rfl
 have c1:Tryd.prog.cellsOf 3=1:=by kernel_rfl
 replace r1:Rd Tryd.prog h 3 (([x0,x1,x2,x3].drop 1).take (Tryd.prog.cellsOf 3)) d1:=r1
 replace w1:wOk Tryd.prog 3 d1:=w1
 rw[c1]at r1
 replace r1:Rd Tryd.prog h 3 [x1] d1:=r1
 obtain⟨d2,r2,w2⟩:=hr 2 _ rfl
 have c2:Tryd.prog.cellsOf 3=1:=by kernel_rfl
 replace r2:Rd Tryd.prog h 3 (([x0,x1,x2,x3].drop 2).take (Tryd.prog.cellsOf 3)) d2:=r2
 replace w2:wOk Tryd.prog 3 d2:=w2
 rw[c2]at r2
 replace r2:Rd Tryd.prog h 3 [x2] d2:=r2
 obtain⟨d3,r3,w3⟩:=hr 3 _ rfl
 have c3:Tryd.prog.cellsOf 22=1:=by kernel_rfl
 replace r3:Rd Tryd.prog h 22 (([x0,x1,x2,x3].drop 3).take (Tryd.prog.cellsOf 22)) d3:=r3
 replace w3:wOk Tryd.prog 22 d3:=w3
 rw[c3]at r3
 replace r3:Rd Tryd.prog h 22 [x3] d3:=r3
 obtain⟨k,e0,f0⟩:=yv r0 Tryd.underlying5
 cases e0
 obtain⟨e,e1,f1⟩:=yv r1 Tryd.underlying3
 cases e1
 obtain⟨m,e2,f2⟩:=yv r2 Tryd.underlying3
 cases e2
 obtain⟨va,l,e3,s3,b3,_⟩:=zDn r3 Tryd.underlying22 Tryd.underlying3 (by kernel_rfl) (by decide+kernel) w3
 cases e3
 exact⟨⟨k,e,m,l⟩,_,rfl,s3,by simp only;omega⟩
theorem rd_ins (cs:List Value) (d:DataW H) (r:Rd Tryd.prog h 48 cs d) (hw:wOk Tryd.prog 48 d):∃ a,RIns h cs a:=by
 obtain⟨hl,hr⟩:=Zq r Tryd.underlying48 hw
 have hc:Tryd.prog.cellsOf 48=7:=by kernel_rfl
 rw[hc]at hl
 obtain⟨x0,x1,x2,x3,x4,x5,x6,rfl⟩:∃ x0 x1 x2 x3 x4 x5 x6,cs=[x0,x1,x2,x3,x4,x5,x6]:=by
  exact len7 hl
 obtain⟨d0,r0,w0⟩:=hr 0 _ rfl
 have c0:Tryd.prog.cellsOf 5=1:=by kernel_rfl
 replace r0:Rd Tryd.prog h 5 (([x0,x1,x2,x3,x4,x5,x6].drop 0).take (Tryd.prog.cellsOf 5)) d0:=r0
 replace w0:wOk Tryd.prog 5 d0:=w0
 rw[c0]at r0
 replace r0:Rd Tryd.prog h 5 [x0] d0:=r0
 obtain⟨d1,r1,w1⟩:=hr 1 _ rfl
 have c1:Tryd.prog.cellsOf 3=1:=by kernel_rfl
 replace r1:Rd Tryd.prog h 3 (([x0,x1,x2,x3,x4,x5,x6].drop 1).take (Tryd.prog.cellsOf 3)) d1:=r1
 replace w1:wOk Tryd.prog 3 d1:=w1
 rw[c1]at r1
 replace r1:Rd Tryd.prog h 3 [x1] d1:=r1
 obtain⟨d2,r2,w2⟩:=hr 2 _ rfl
 have c2:Tryd.prog.cellsOf 3=1:=by kernel_rfl
 replace r2:Rd Tryd.prog h 3 (([x0,x1,x2,x3,x4,x5,x6].drop 2).take (Tryd.prog.cellsOf 3)) d2:=r2
 replace w2:wOk Tryd.prog 3 d2:=w2
 rw[c2]at r2
 replace r2:Rd Tryd.prog h 3 [x2] d2:=r2
 obtain⟨d3,r3,w3⟩:=hr 3 _ rfl
 have c3:Tryd.prog.cellsOf 3=1:=by kernel_rfl
 replace r3:Rd Tryd.prog h 3 (([x0,x1,x2,x3,x4,x5,x6].drop 3).take (Tryd.prog.cellsOf 3)) d3:=r3
 replace w3:wOk Tryd.prog 3 d3:=w3
 rw[c3]at r3
 replace r3:Rd Tryd.prog h 3 [x3] d3:=r3
 obtain⟨d4,r4,w4⟩:=hr 4 _ rfl
 have c4:Tryd.prog.cellsOf 2=1:=by kernel_rfl
 replace r4:Rd Tryd.prog h 2 (([x0,x1,x2,x3,x4,x5,x6].drop 4).take (Tryd.prog.cellsOf 2)) d4:=r4
 replace w4:wOk Tryd.prog 2 d4:=w4
 rw[c4]at r4
 replace r4:Rd Tryd.prog h 2 [x4] d4:=r4
 obtain⟨d5,r5,w5⟩:=hr 5 _ rfl
 have c5:Tryd.prog.cellsOf 22=1:=by kernel_rfl
 replace r5:Rd Tryd.prog h 22 (([x0,x1,x2,x3,x4,x5,x6].drop 5).take (Tryd.prog.cellsOf 22)) d5:=r5
 replace w5:wOk Tryd.prog 22 d5:=w5
 rw[c5]at r5
 replace r5:Rd Tryd.prog h 22 [x5] d5:=r5
 obtain⟨d6,r6,w6⟩:=hr 6 _ rfl
 have c6:Tryd.prog.cellsOf 22=1:=by kernel_rfl
 replace r6:Rd Tryd.prog h 22 (([x0,x1,x2,x3,x4,x5,x6].drop 6).take (Tryd.prog.cellsOf 22)) d6:=r6
 replace w6:wOk Tryd.prog 22 d6:=w6
 rw[c6]at r6
 replace r6:Rd Tryd.prog h 22 [x6] d6:=r6
 obtain⟨op,e0,f0⟩:=yv r0 Tryd.underlying5
 cases e0
 obtain⟨ty,e1,f1⟩:=yv r1 Tryd.underlying3
 cases e1
 obtain⟨a,e2,f2⟩:=yv r2 Tryd.underlying3
 cases e2
 obtain⟨b,e3,f3⟩:=yv r3 Tryd.underlying3
 cases e3
 obtain⟨n,e4,f4⟩:=yv r4 Tryd.underlying2
 cases e4
 obtain⟨va,la,e5,s5,b5,_⟩:=zDn r5 Tryd.underlying22 Tryd.underlying3 (by kernel_rfl) (by decide+kernel) w5
 cases e5
 obtain⟨vf,lf,e6,s6,b6,_⟩:=zDn r6 Tryd.underlying22 Tryd.underlying3 (by kernel_rfl) (by decide+kernel) w6
 cases e6
 exact⟨⟨op,ty,a,b,n,la,lf⟩,_,_,rfl,s5,s6,b5,b6,wf_u8 f0⟩
theorem rd_end (cs:List Value) (d:DataW H) (r:Rd Tryd.prog h 39 cs d) (hw:wOk Tryd.prog 39 d):∃ x:LEnd,cs=[.int .u8 x.kind,I x.a,I x.to,I x.els]:=by
 obtain⟨hl,hr⟩:=Zq r Tryd.underlying39 hw
 have hc:Tryd.prog.cellsOf 39=4:=by kernel_rfl
 rw[hc]at hl
 obtain⟨x0,x1,x2,x3,rfl⟩:∃ x0 x1 x2 x3,cs=[x0,x1,x2,x3]:=by
  exact len4 hl
 obtain⟨d0,r0,w0⟩:=hr 0 _ rfl
 have c0:Tryd.prog.cellsOf 5=1:=by kernel_rfl
 replace r0:Rd Tryd.prog h 5 (([x0,x1,x2,x3].drop 0).take (Tryd.prog.cellsOf 5)) d0:=r0
 replace w0:wOk Tryd.prog 5 d0:=w0
 rw[c0]at r0
 replace r0:Rd Tryd.prog h 5 [x0] d0:=r0
 obtain⟨d1,r1,w1⟩:=hr 1 _ rfl
 have c1:Tryd.prog.cellsOf 3=1:=by kernel_rfl
 replace r1:Rd Tryd.prog h 3 (([x0,x1,x2,x3].drop 1).take (Tryd.prog.cellsOf 3)) d1:=r1
 replace w1:wOk Tryd.prog 3 d1:=w1
 rw[c1]at r1
 replace r1:Rd Tryd.prog h 3 [x1] d1:=r1
 obtain⟨d2,r2,w2⟩:=hr 2 _ rfl
 have c2:Tryd.prog.cellsOf 3=1:=by kernel_rfl
 replace r2:Rd Tryd.prog h 3 (([x0,x1,x2,x3].drop 2).take (Tryd.prog.cellsOf 3)) d2:=r2
 replace w2:wOk Tryd.prog 3 d2:=w2
 rw[c2]at r2
 replace r2:Rd Tryd.prog h 3 [x2] d2:=r2
 obtain⟨d3,r3,w3⟩:=hr 3 _ rfl
 have c3:Tryd.prog.cellsOf 3=1:=by kernel_rfl
 replace r3:Rd Tryd.prog h 3 (([x0,x1,x2,x3].drop 3).take (Tryd.prog.cellsOf 3)) d3:=r3
 replace w3:wOk Tryd.prog 3 d3:=w3
 rw[c3]at r3
 replace r3:Rd Tryd.prog h 3 [x3] d3:=r3
 obtain⟨k,e0,f0⟩:=yv r0 Tryd.underlying5
 cases e0
 obtain⟨a,e1,f1⟩:=yv r1 Tryd.underlying3
 cases e1
 obtain⟨t,e2,f2⟩:=yv r2 Tryd.underlying3
 cases e2
 obtain⟨e,e3,f3⟩:=yv r3 Tryd.underlying3
 cases e3
 exact⟨⟨k,a,t,e⟩,rfl⟩
theorem rd_block (cs:List Value) (d:DataW H) (r:Rd Tryd.prog h 41 cs d) (hw:wOk Tryd.prog 41 d):∃ a,RBlk h cs a:=by
 obtain⟨hl,hr⟩:=Zq r Tryd.underlying41 hw
 have hc:Tryd.prog.cellsOf 41=5:=by kernel_rfl
 rw[hc]at hl
 obtain⟨x0,x1,x2,x3,x4,rfl⟩:∃ x0 x1 x2 x3 x4,cs=[x0,x1,x2,x3,x4]:=by
  exact len5 hl
 obtain⟨d0,r0,w0⟩:=hr 0 _ rfl
 have c0:Tryd.prog.cellsOf 37=1:=by kernel_rfl
 replace r0:Rd Tryd.prog h 37 (([x0,x1,x2,x3,x4].drop 0).take (Tryd.prog.cellsOf 37)) d0:=r0
 replace w0:wOk Tryd.prog 37 d0:=w0
 rw[c0]at r0
 replace r0:Rd Tryd.prog h 37 [x0] d0:=r0
 obtain⟨d1,r1,w1⟩:=hr 1 _ rfl
 have c1:Tryd.prog.cellsOf 39=4:=by kernel_rfl
 replace r1:Rd Tryd.prog h 39 (([x0,x1,x2,x3,x4].drop 1).take (Tryd.prog.cellsOf 39)) d1:=r1
 replace w1:wOk Tryd.prog 39 d1:=w1
 rw[c1]at r1
 replace r1:Rd Tryd.prog h 39 [x1,x2,x3,x4] d1:=r1
 obtain⟨vi,li,e0,s0,b0⟩:=zBj r0 Tryd.underlying37 (c:=7) (by kernel_rfl) (by decide+kernel) w0 rd_ins
 cases e0
 obtain⟨en,e1⟩:=rd_end _ _ r1 w1
 cases e1
 exact⟨⟨li,en⟩,_,rfl,s0,b0⟩
theorem rd_func (cs:List Value) (d:DataW H) (r:Rd Tryd.prog h 44 cs d) (hw:wOk Tryd.prog 44 d):∃ a,RFn h cs a:=by
 obtain⟨hl,hr⟩:=Zq r Tryd.underlying44 hw
 have hc:Tryd.prog.cellsOf 44=2:=by kernel_rfl
 rw[hc]at hl
 obtain⟨x0,x1,rfl⟩:∃ x0 x1,cs=[x0,x1]:=by
  exact len2 hl
 obtain⟨d0,r0,w0⟩:=hr 0 _ rfl
 have c0:Tryd.prog.cellsOf 3=1:=by kernel_rfl
 replace r0:Rd Tryd.prog h 3 (([x0,x1].drop 0).take (Tryd.prog.cellsOf 3)) d0:=r0
 replace w0:wOk Tryd.prog 3 d0:=w0
 rw[c0]at r0
 replace r0:Rd Tryd.prog h 3 [x0] d0:=r0
 obtain⟨d1,r1,w1⟩:=hr 1 _ rfl
 have c1:Tryd.prog.cellsOf 42=1:=by kernel_rfl
 replace r1:Rd Tryd.prog h 42 (([x0,x1].drop 1).take (Tryd.prog.cellsOf 42)) d1:=r1
 replace w1:wOk Tryd.prog 42 d1:=w1
 rw[c1]at r1
 replace r1:Rd Tryd.prog h 42 [x1] d1:=r1
 obtain⟨sg,e0,f0⟩:=yv r0 Tryd.underlying3
 cases e0
 obtain⟨vb,lb,e1,s1,b1⟩:=zBj r1 Tryd.underlying42 (c:=5) (by kernel_rfl) (by decide+kernel) w1 rd_block
 cases e1
 exact⟨⟨sg,lb⟩,_,rfl,s1,b1⟩
theorem rd_prog (cs:List Value) (d:DataW H) (r:Rd Tryd.prog h 29 cs d) (hw:wOk Tryd.prog 29 d):∃ vt vf T F,cs=[vt,vf]∧SlT h vt T∧SlF h vf F∧(T.length:Int)≤1152921504606846976∧(F.length:Int)≤1152921504606846976:=by
 obtain⟨hl,hr⟩:=Zq r Tryd.underlying29 hw
 have hc:Tryd.prog.cellsOf 29=2:=by kernel_rfl
 rw[hc]at hl
 obtain⟨x0,x1,rfl⟩:∃ x0 x1,cs=[x0,x1]:=by
  exact len2 hl
 obtain⟨d0,r0,w0⟩:=hr 0 _ rfl
 have c0:Tryd.prog.cellsOf 26=1:=by kernel_rfl
 replace r0:Rd Tryd.prog h 26 (([x0,x1].drop 0).take (Tryd.prog.cellsOf 26)) d0:=r0
 replace w0:wOk Tryd.prog 26 d0:=w0
 rw[c0]at r0
 replace r0:Rd Tryd.prog h 26 [x0] d0:=r0
 obtain⟨d1,r1,w1⟩:=hr 1 _ rfl
 have c1:Tryd.prog.cellsOf 27=1:=by kernel_rfl
 replace r1:Rd Tryd.prog h 27 (([x0,x1].drop 1).take (Tryd.prog.cellsOf 27)) d1:=r1
 replace w1:wOk Tryd.prog 27 d1:=w1
 rw[c1]at r1
 replace r1:Rd Tryd.prog h 27 [x1] d1:=r1
 obtain⟨vt,lt,e0,s0,b0⟩:=zBj r0 Tryd.underlying26 (c:=4) (by kernel_rfl) (by decide+kernel) w0 rd_type
 cases e0
 obtain⟨vf,lf,e1,s1,b1⟩:=zBj r1 Tryd.underlying27 (c:=2) (by kernel_rfl) (by decide+kernel) w1 rd_func
 cases e1
 exact⟨_,_,lt,lf,rfl,s0,s1,b0,b1⟩
end
end Go.Proofs.YtemggiegiejopaaDoor
namespace Go.Proofs.YtemggiegiejopaaDoor
open Go.Am
set_option linter.unusedVariables false
set_option linter.unusedSimpArgs false
set_option maxHeartbeats 1000000
def RW (h:AHeap) (cs:List Value) (w:LWd):Prop:=cs=[I w.pos,W w.bits]∧w.bits<18446744073709551616∧ -9223372036854775808≤w.pos∧w.pos≤9223372036854775807
abbrev SlW (h:AHeap) (v:Value) (s:List LWd):Prop:=SlR 2 RW h v s
theorem SlW.ext {h h' v s} (k:SlW h v s) (e:Ext h h'):SlW h' v s:=SlR.ext (h:=h) (h':=h') (R:=RW) (fun cs a r=>r) k e
theorem SlW.bd {h v s} (k:SlW h v s):BdW s:=fun w hw=>by
 obtain⟨i,hi,e⟩:=List.mem_iff_getElem.1 hw
 obtain⟨cs,⟨_,h2,_⟩,_⟩:=k.at hi
 rw[←e];exact h2
noncomputable def body58:ACode:=(.seq (.region [⟨some 2,none,(.mov (.const (.bool false)))⟩]) (.seq (.region [⟨some 3,none,(.mov (.tmp 0))⟩,⟨some 4,none,(.bin .geq (.tmp 3) (.const (.int .i64 0)))⟩,⟨some 5,none,(.mov (.tmp 4))⟩,⟨some 6,some (5,true),(.mov (.tmp 0))⟩,⟨some 7,some (5,true),(.bin .lss (.tmp 6) (.const (.int .i64 1048576)))⟩,⟨some 8,none,(.pick (.tmp 5) (.tmp 7) (.const (.bool false)))⟩,⟨some 2,none,(.mov (.tmp 8))⟩]) .ret))
set_option maxRecDepth 100000 in
theorem tab58:tb.code 58=some ⟨9,[(2,none)],body58⟩:=by kernel_rfl
theorem zJG (h:AHeap) (n:Int):WC Tryd.prog tb 58 [I n] h fun r h'=>r= .bool (decide (0≤n)&&decide (n<1048576))∧h=h':=by
 refine WC.of (zF 58) tab58 ?_;simp only[zO,Nat.zero_add,Nat.reduceAdd]
 refine go ?_
 refine go ?_
 repeat' (first|(refine WX.br (fun hb=> ?_) (fun hb=> ?_)<;>(try simp only[DB]at hb)<;>refine go ?_)|(refine WO.sp (fun hb=> ?_) (fun hb=> ?_)<;>(try simp only[DB]at hb)<;>refine go ?_))<;>refine rt ?_<;>exact⟨by simp[one, *]<;>omega,rfl⟩
noncomputable def body53:ACode:=(.seq (.region [⟨some 4,none,(.mov (.const (.int .u64 0)))⟩]) (.seq (.region [⟨some 5,none,(.mov (.tmp 0))⟩,⟨some 6,none,(.mov (.tmp 1))⟩,⟨some 7,none,(.bin .or (.tmp 5) (.tmp 6))⟩,⟨some 4,none,(.mov (.tmp 7))⟩]) .ret))
set_option maxRecDepth 100000 in
theorem tab53:tb.code 53=some ⟨8,[(4,none)],body53⟩:=by kernel_rfl
theorem or1_ok (h:AHeap) (a b:Nat) (ha:a<18446744073709551616) (hb:b<18446744073709551616):WC Tryd.prog tb 53 [W a,W b] h fun r h'=>r=W (a|||b)∧h=h':=by
 refine WC.of (zF 53) tab53 ?_;simp only[zO,Nat.zero_add,Nat.reduceAdd]
 refine go ?_
 refine WO.bin ze ze (u_or ha hb).1 ?_
 refine go ?_
 refine rt ?_
 exact⟨rfl,rfl⟩
noncomputable def body59:ACode:=(.seq (.region [⟨some 4,none,(.mov (.const (.int .u64 0)))⟩]) (.seq (.region [⟨some 5,none,(.mov (.tmp 0))⟩,⟨some 6,none,(.mov (.tmp 1))⟩,⟨some 7,none,(.bin .andNot (.tmp 5) (.tmp 6))⟩,⟨some 4,none,(.mov (.tmp 7))⟩]) .ret))
set_option maxRecDepth 100000 in
theorem tab59:tb.code 59=some ⟨8,[(4,none)],body59⟩:=by kernel_rfl
theorem zIu (h:AHeap) (a b:Nat) (ha:a<18446744073709551616) (hb:b<18446744073709551616):WC Tryd.prog tb 59 [W a,W b] h fun r h'=>r=W (zCO a b)∧h=h':=by
 refine WC.of (zF 59) tab59 ?_;simp only[zO,Nat.zero_add,Nat.reduceAdd]
 refine go ?_
 refine WO.bin ze ze (u_notN ha hb).1 ?_
 refine go ?_
 refine rt ?_
 exact⟨rfl,rfl⟩
section
variable {P:Program} {tab:Tab} {t:Trie Value} {h:AHeap} {ds:List Deferred} {rd:Option Nat} {l:List AOper} {Q:AFr→AHeap→Prop}
theorem WO.ldG {d g off:Nat} {x:Operand} {cells:List Value} {v:Value} (hg:zg h g=some cells) (hr:cells[off]?=some v) (hx:Ope t x (.pointer (some ⟨g,off,none⟩))) (k:WO P tab l ⟨t.set d v,ds,rd⟩ h Q):
  WO P tab (⟨some d,none,.load false 1 x⟩::l) ⟨t,ds,rd⟩ h Q:=by
 have hx:ev t x= .pointer (some ⟨g,off,none⟩):=hx
 have hlt:off<cells.length:=(List.getElem?_eq_some_iff.1 hr).1
 have hc:cut cells off 1=some [v]:=by
  rw[ZY (by omega),List.drop_eq_getElem_cons hlt,List.take_succ_cons,List.take_zero]
  have:=(List.getElem?_eq_some_iff.1 hr).2
  rw[this]
 refine WO.op v h rfl ?_ k
 simp only[aop,hx,hg,Option.isNone_none,cond_true,Option.bind_some,hc,zH,cond_false,Option.map_some]
theorem WO.unA {d:Nat} {op:UnOp} {x:Operand} {vx v:Value} (hx:Ope t x vx) (hv:unV op vx=some v) (k:WO P tab l ⟨t.set d v,ds,rd⟩ h Q):WO P tab (⟨some d,none,.un op x⟩::l) ⟨t,ds,rd⟩ h Q:=by
 have hx:ev t x=vx:=hx
 exact WO.op v h rfl (by simp only[aop,hx,hv,Option.map_some]) k
end
end Go.Proofs.YtemggiegiejopaaDoor
namespace Go.Proofs.YtemggiegiejopaaDoor
open Go.Am
set_option linter.unusedVariables false
set_option linter.unusedSimpArgs false
set_option maxHeartbeats 1000000
def TzT (h:AHeap):Prop:=zg h 1=some tzV∧1<h.n
theorem TzT.ext {h h'} (t:TzT h) (e:Ext h h'):TzT h':=⟨e.row t.2 t.1,Nat.lt_of_lt_of_le t.2 e.n⟩
noncomputable def body41:ACode:=(.seq (.region [⟨some 2,none,(.mov (.const (.int .i64 0)))⟩]) (.seq (.seq (.region [⟨some 3,none,(.mov (.tmp 0))⟩,⟨some 4,none,(.bin .eql (.tmp 3) (.const (.int .u64 0)))⟩]) (.cond (.tmp 4) (.seq (.region [⟨some 2,none,(.mov (.const (.int .i64 64)))⟩]) .ret) .skip)) (.seq (.region [⟨some 5,none,(.mov (.tmp 0))⟩,⟨some 6,none,(.mov (.tmp 0))⟩,⟨some 7,none,(.un .neg (.tmp 6))⟩,⟨some 8,none,(.bin .and (.tmp 5) (.tmp 7))⟩,⟨some 9,none,(.bin .mul (.tmp 8) (.const (.int .u64 285870213051353865)))⟩,⟨some 10,none,(.bin .shr (.tmp 9) (.const (.int .u64 58)))⟩,⟨some 11,none,(.idxArr 64 1 (.global 1) (.tmp 10))⟩,⟨some 12,none,(.load false 1 (.tmp 11))⟩,⟨some 13,none,(.conv .i64 (.tmp 12))⟩,⟨some 2,none,(.mov (.tmp 13))⟩]) .ret)))
set_option maxRecDepth 100000 in
theorem tab41:tb.code 41=some ⟨14,[(2,none)],body41⟩:=by kernel_rfl
theorem trail_ok (h:AHeap) (n k:Nat) (T:TzT h) (hn:n<18446744073709551616) (hz:n≠0) (L:Low n k):WC Tryd.prog tb 41 [W n] h fun r h'=>r=I k∧h=h':=by
 refine WC.of (zF 41) tab41 ?_;simp only[zO,Nat.zero_add,Nat.reduceAdd]
 have hz1:¬(n:Int)=0:=by omega
 have a1:=u_neg hz hn
 have a2:zi .and (W n) (W (18446744073709551616 - n))=some (W (2 ^ k)):=by rw[u_and hn (by omega),L.one]
 obtain⟨m,j,a3,a4,t1,t2⟩:=tz_steps L.lt
 have hv:=tzV_at t1 t2
 have hk:=L.lt
 refine go ?_
 refine WO.unA ze a1 ?_
 refine go ?_
 refine WO.bin ze ze a2 ?_
 refine go ?_
 refine WO.bin ze rfl a3 ?_
 refine go ?_
 refine WO.bin ze rfl a4 ?_
 refine go ?_
 refine WO.ldG (v:= .int .u8 (k:Int)) T.1 (off:=0+j * 1) (by rw[Nat.zero_add,Nat.mul_one];exact hv) ze ?_
 refine go ?_
 refine rt ?_
 exact⟨rfl,rfl⟩
end Go.Proofs.YtemggiegiejopaaDoor
namespace Go.Proofs.YtemggiegiejopaaDoor
open Go.Am
set_option linter.unusedVariables false
set_option linter.unusedSimpArgs false
set_option maxHeartbeats 1000000
theorem zEN {s:List LWd} {i:Nat} (h:i<s.length):s.drop i=s.getD i default::s.drop (i+1):=by
 rw[List.drop_eq_getElem_cons h,List.getD_eq_getElem?_getD,List.getElem?_eq_getElem h];rfl
theorem zCg {h:AHeap} {v:Value} {s:List LWd} {i:Nat} (k:SlW h v s) (hi:i<s.length):∃ cs,RW h cs (s.getD i default)∧Piece h v (i * 2) cs∧IsSl v:=by
 obtain⟨cs,a,_,c⟩:=k.at hi
 exact⟨cs,by rw[List.getD_eq_getElem?_getD,List.getElem?_eq_getElem hi];exact a,c,k.some hi⟩
def errW (b:Bool):Int:=if b then 0 else 8
theorem zA8 {last:Int} {w:LWd} {l:List LWd} (h:w.pos≤last∨16384≤w.pos∨(w.bits:Int)=0):z8 last (w::l)=false:=by
 unfold z8
 rcases h with h|h|h
 ·rw[decide_eq_false (show ¬last<w.pos by omega)];rfl
 ·rw[decide_eq_false (show ¬w.pos<16384 by omega),Bool.and_false];rfl
 ·rw[decide_eq_false (show ¬w.bits≠0 by omega),Bool.and_false];rfl
theorem zGl {last:Int} {w:LWd} {l:List LWd} (h1:last<w.pos) (h2:w.pos<16384) (h3:w.bits≠0):z8 last (w::l)=z8 w.pos l:=by
 rw[z8,decide_eq_true h1,decide_eq_true h2,decide_eq_true h3];rfl
noncomputable def body32_0:ACode:=(.seq (.region [⟨some 9,none,(.bin .lss (.tmp 8) (.tmp 7))⟩]) (.seq (.cond (.tmp 9) .skip (.exit 0)) (.seq (.block 1 (.seq (.region [⟨some 10,none,(.idx 2 (.tmp 6) (.tmp 8))⟩,⟨some 11,none,(.load true 2 (.tmp 10))⟩,⟨some 5,none,(.alloc [(.int .i64 0),(.int .u64 0)])⟩,⟨none,none,(.store 2 (.tmp 5) (.tmp 11))⟩]) (.seq (.seq (.region [⟨some 12,none,(.fld 0 (.tmp 5))⟩,⟨some 13,none,(.load false 1 (.tmp 12))⟩,⟨some 14,none,(.mov (.tmp 3))⟩,⟨some 15,none,(.bin .leq (.tmp 13) (.tmp 14))⟩,⟨some 16,none,(.mov (.tmp 15))⟩,⟨some 17,some (16,false),(.fld 0 (.tmp 5))⟩,⟨some 18,some (16,false),(.load false 1 (.tmp 17))⟩,⟨some 19,some (16,false),(.bin .geq (.tmp 18) (.const (.int .i64 16384)))⟩,⟨some 20,none,(.pick (.tmp 16) (.const (.bool true)) (.tmp 19))⟩,⟨some 21,none,(.mov (.tmp 20))⟩,⟨some 22,some (21,false),(.fld 1 (.tmp 5))⟩,⟨some 23,some (21,false),(.load false 1 (.tmp 22))⟩,⟨some 24,some (21,false),(.bin .eql (.tmp 23) (.const (.int .u64 0)))⟩,⟨some 25,none,(.pick (.tmp 21) (.const (.bool true)) (.tmp 24))⟩]) (.cond (.tmp 25) (.seq (.region [⟨some 2,none,(.mov (.const (.int .i64 8)))⟩]) .ret) .skip)) (.region [⟨some 26,none,(.fld 0 (.tmp 5))⟩,⟨some 27,none,(.load false 1 (.tmp 26))⟩,⟨some 3,none,(.mov (.tmp 27))⟩])))) (.region [⟨some 28,none,(.bin .add (.tmp 8) (.const (.int .i64 1)))⟩,⟨some 8,none,(.mov (.tmp 28))⟩]))))
noncomputable def body32:ACode:=(.seq (.region [⟨some 2,none,(.mov (.const (.int .i64 0)))⟩]) (.seq (.region [⟨some 3,none,(.mov (.const (.int .i64 (-1))))⟩]) (.seq (.seq (.region [⟨some 6,none,(.mov (.tmp 0))⟩,⟨some 7,none,(.len (.tmp 6))⟩,⟨some 8,none,(.mov (.const (.int .i64 0)))⟩]) (.block 0 (.loop body32_0))) (.seq (.region [⟨some 2,none,(.mov (.const (.int .i64 0)))⟩]) .ret))))
set_option maxRecDepth 100000 in
theorem tab32:tb.code 32=some ⟨29,[(2,none)],body32⟩:=by kernel_rfl
theorem zCN (h:AHeap) (v:Value) (s:List LWd) (k:SlW h v s) (hl:(s.length:Int)≤1000000000):
  WC Tryd.prog tb 32 [v] h fun r h'=>r=I (errW (z8 (-1) s))∧Ext h h':=by
 refine WC.of (zF 32) tab32 ?_;simp only[zO,Nat.zero_add,Nat.reduceAdd]
 refine go ?_
 refine WX.loopA [9,10,11,5,12,13,14,15,16,17,18,19,20,21,22,23,24,25,2,26,27,3,28,8] (by kernel_rfl) (fun i=>s.length - i) (fun i t h1=>Ext h h1∧zC t 8=I i∧i≤s.length∧∃ last:Int,zC t 3=I last∧Hid (z8 (-1) s=z8 last (s.drop i))) 0 ?_ ?_
 ·exact⟨Ext.refl _,sl_,Nat.zero_le _,-1,sl_,⟨rfl⟩⟩
 rintro i t h1 hsame ⟨e1,s8,hi,last,s3,hc⟩
 have k1:=SlW.ext k e1
 refine go ?_
 refine WX.br (fun hb=> ?_) (fun hb=> ?_)<;>simp only[DB]at hb
 ·have hi':i<s.length:=by omega
  obtain⟨cs,⟨rfl,w1,w2,w3⟩,pc,hs⟩:=zCg k1 hi'
  have hd:=hc.out
  rw[zEN hi']at hd
  generalize s.getD i default=w at *
  have hd:=Hid.mk hd
  refine go ?_
  refine WO.al ?_
  intro p h2 e2 o2
  refine go ?_
  refine WO.stC0 (cs:=[I w.pos,W w.bits]) o2 e2 ?_
  intro h3 e3 o3 u3
  refine go ?_
  refine go ?_
  repeat' (first|(refine WX.br (fun hb=> ?_) (fun hb=> ?_)<;>(try simp only[DB]at hb)<;>refine go ?_)|(refine WO.sp (fun hb=> ?_) (fun hb=> ?_)<;>(try simp only[DB]at hb)<;>refine go ?_))
  ·refine rt ?_
   exact⟨by rw[hd.out,zA8 (.inl hb)];rfl,e1.trans e3⟩
  ·refine rt ?_
   exact⟨by rw[hd.out,zA8 (.inr (.inl hb))];rfl,e1.trans e3⟩
  ·refine rt ?_
   exact⟨by rw[hd.out,zA8 (.inr (.inr hb))];rfl,e1.trans e3⟩
  ·refine zA (i+1) (by omega) ⟨e1.trans e3,sln,by omega,w.pos,sl_,⟨?_⟩⟩
   rw[hd.out];exact zGl (by omega) (by omega) (by omega)
 ·refine go ?_
  refine rt ?_
  have:=hc.out
  rw[show i=s.length by omega,List.drop_length]at this
  exact⟨by rw[this];rfl,e1⟩
end Go.Proofs.YtemggiegiejopaaDoor
namespace Go.Proofs.YtemggiegiejopaaDoor
open Go.Am
set_option linter.unusedVariables false
set_option linter.unusedSimpArgs false
set_option maxHeartbeats 1000000
end Go.Proofs.YtemggiegiejopaaDoor
namespace Go.Proofs.YtemggiegiejopaaDoor
open Go.Am
set_option linter.unusedVariables false
set_option linter.unusedSimpArgs false
set_option maxHeartbeats 1000000
theorem b_quo {n:Int} (h0:0≤n) (h1:n<9223372036854775808):zi .quo (I n) (I 64)=some (I (n / 64)):=by
 simp only[zi,I,if_true];rw[if_neg (by decide),Int.tdiv_eq_ediv_of_nonneg h0,zCU (by omega) (by omega)]
theorem b_rem {n:Int} (h0:0≤n):zi .rem (I n) (I 64)=some (I (n % 64)):=by
 simp only[zi,I,if_true];rw[if_neg (by decide),Int.tmod_eq_emod_of_nonneg h0]
theorem zEB (w:LWd) (s:List LWd):(zp (w::s)).length=(Y0 w.bits).length+(zp s).length:=by
 unfold zp;simp
theorem bitsL_le (b:Nat):(Y0 b).length≤64:=by
 have:=List.length_filter_le b.testBit (List.range 64)
 rw[List.length_range]at this;exact this
end Go.Proofs.YtemggiegiejopaaDoor
namespace Go.Proofs.YtemggiegiejopaaDoor
open Go.Am
set_option linter.unusedVariables false
set_option linter.unusedSimpArgs false
set_option maxHeartbeats 1000000
abbrev OwnW (b:Nat) (h:AHeap) (v:Value) (s:List LWd):Prop:=OwnR 2 RW b h v s
theorem RW.dep {h:AHeap} {w:LWd} (h1:w.bits<18446744073709551616) (h2: -9223372036854775808≤w.pos) (h3:w.pos≤9223372036854775807) (D:Nat→Prop):Dep RW h [I w.pos,W w.bits] w D:=
 fun _ _ _=>⟨rfl,h1,h2,h3⟩
def DoOk (fv:Value) (f:Nat→Nat→Nat):Prop:=∀ (h:AHeap) (a b:Nat),a<18446744073709551616→b<18446744073709551616→WV Tryd.prog tb fv [W a,W b] h fun r h'=>r=W (f a b)∧h=h'
noncomputable def body69:ACode:=(.seq (.region [⟨some 1,none,(.box (.tmp 0))⟩,⟨some 2,none,(.mov (.const (.int .i64 0)))⟩]) (.seq (.region [⟨some 3,none,(.fld 0 (.tmp 1))⟩,⟨some 4,none,(.load false 1 (.tmp 3))⟩,⟨some 2,none,(.mov (.tmp 4))⟩]) .ret))
set_option maxRecDepth 100000 in
theorem tab69:tb.code 69=some ⟨5,[(2,none)],body69⟩:=by kernel_rfl
theorem ZT (h:AHeap) (w:LWd):WC Tryd.prog tb 69 [.agg #[I w.pos,W w.bits]] h fun r h'=>r=I w.pos∧Ext h h':=by
 refine WC.of (zF 69) tab69 ?_;simp only[zO,Nat.zero_add,Nat.reduceAdd]
 refine go ?_
 refine WO.bx ?_
 intro p h1 e1 o1
 refine go ?_
 refine rt ?_
 exact⟨rfl,e1⟩
def putL (p:Int) (v:Nat) (out:List LWd):List LWd:=if v=0 then out else out++[⟨p,v⟩]
theorem Yv (p:Int) (v:Nat) (out s:List LWd):putL p v out++s=out++zAK p v s:=by
 unfold putL zAK;split<;>simp
structure PutS (hB h:AHeap) (b:Nat) (p5 p6 fv:Value) (out:List LWd):Prop where
 e:Ext hB h
 o5:OwnC hB h p5 [fv]
 bb:hB.n≤b∧b≤h.n
 p5b:∀ g,p5= .pointer (some ⟨g,0,none⟩)→g<b
 p6b:∀ g,p6= .pointer (some ⟨g,0,none⟩)→g<b
 ne:p5≠p6
 v:∃ v,OwnC hB h p6 [v]∧OwnW b h v out
theorem zBF {hB h h':AHeap} {p:Value} {cells:List Value} {b vn vk:Nat} {va:Option Addr} (o:OwnC hB h p cells) (hb:∀ g,p= .pointer (some ⟨g,0,none⟩)→g<b) (hv:∀ g,va=some ⟨g,0,none⟩→b≤g)
  (keep:∀ k,k<h.n→(∀ n k',Value.slice va vn vk≠ .slice (some ⟨k,0,none⟩) n k')→h'.get k=h.get k) (hn:h.n≤h'.n):OwnC hB h' p cells:=by
 obtain⟨g,g1,g2,rfl,g4⟩:=o
 refine⟨g,g1,Nat.lt_of_lt_of_le g2 hn,rfl,(keep g g2 fun n k' e=> ?_).trans g4⟩
 cases e
 have h1:=hb g rfl
 have h2:=hv g rfl
 omega
theorem zDe {hB h h':AHeap} {p q:Value} {cells:List Value} (o:OwnC hB h p cells) (u:UpdC q h h') (hne:p≠q):OwnC hB h' p cells:=by
 obtain⟨g,g1,g2,rfl,g4⟩:=o
 exact⟨g,g1,Nat.lt_of_lt_of_le g2 u.1,rfl,(u.2 g g2 fun e=>hne e.symm).trans g4⟩
theorem Z7 {α:Type} {c b:Nat} {R:AHeap→List Value→α→Prop} {h:AHeap} {v:Value} {xs:List α} (ow:OwnR c R b h v xs):∃ a n k,v= .slice a n k∧∀ g,a=some ⟨g,0,none⟩→b≤g∧g<h.n:=by
 rcases ow with ⟨rfl,_⟩|⟨g,_,_,g1,g2,rfl,_⟩
 ·exact⟨_,_,_,rfl,fun g e=>by cases e⟩
 ·exact⟨_,_,_,rfl,fun g' e=>by cases e;exact⟨g1,g2⟩⟩
noncomputable def body70:ACode:=(.seq (.region [⟨some 5,none,(.box (.tmp 0))⟩,⟨some 6,none,(.box (.tmp 1))⟩]) (.seq (.region [⟨some 9,none,(.load false 1 (.tmp 3))⟩,⟨some 10,none,(.fld 1 (.tmp 5))⟩,⟨some 11,none,(.load false 1 (.tmp 10))⟩,⟨some 12,none,(.fld 1 (.tmp 6))⟩,⟨some 13,none,(.load false 1 (.tmp 12))⟩,⟨some 14,none,(.call (.tmp 9) [(.tmp 11),(.tmp 13)])⟩,⟨some 8,none,(.mov (.tmp 14))⟩]) (.seq (.region [⟨some 15,none,(.mov (.tmp 8))⟩,⟨some 16,none,(.bin .neq (.tmp 15) (.const (.int .u64 0)))⟩]) (.cond (.tmp 16) (.region [⟨some 17,none,(.load false 1 (.tmp 4))⟩,⟨some 18,none,(.mov (.tmp 2))⟩,⟨some 19,none,(.mov (.tmp 8))⟩,⟨some 20,none,(.build [(.int .i64 0),(.int .u64 0)] [(0,1,(.tmp 18)),(1,1,(.tmp 19))])⟩,⟨some 21,none,(.buildSlice 1 2 [(.int .i64 0),(.int .u64 0)] [(0,2,(.tmp 20))])⟩,⟨some 22,none,(.append 2 (.tmp 17) (.tmp 21))⟩,⟨none,none,(.store 1 (.tmp 4) (.tmp 22))⟩]) .skip))))
set_option maxRecDepth 100000 in
theorem tab70:tb.code 70=some ⟨23,[],body70⟩:=by kernel_rfl
theorem zAk (hB h:AHeap) (b:Nat) (p5 p6 fv:Value) (f:Nat→Nat→Nat) (hf:DoOk fv f) (out:List LWd) (x y:LWd) (at':Int) (S:PutS hB h b p5 p6 fv out) (hx:x.bits<18446744073709551616) (hy:y.bits<18446744073709551616) (hl:out.length≤100000)
  (hz:f x.bits y.bits<18446744073709551616) (ha: -9223372036854775808≤at'∧at'≤9223372036854775807) (hm:h.mark≤h.n):
  WC Tryd.prog tb 70 [.agg #[I x.pos,W x.bits],.agg #[I y.pos,W y.bits],I at',p5,p6] h fun r h'=>PutS hB h' b p5 p6 fv (putL at' (f x.bits y.bits) out)∧h.n≤h'.n∧(∀ k∈h'.wr,k∈h.wr∨hB.n≤k)∧
   (∀ p cells,OwnC hB h p cells→p≠p6→(∀ g,p= .pointer (some ⟨g,0,none⟩)→g<b)→OwnC hB h' p cells):=by
 obtain⟨e0,o5,⟨b1,b2⟩,h5,h6,hne,v,o6,ow⟩:=S
 obtain⟨va,vn,vk,rfl,hvn⟩:=Z7 ow
 refine WC.of (zF 70) tab70 ?_;simp only[zO,Nat.zero_add,Nat.reduceAdd]
 refine go ?_
 refine WO.bx ?_
 intro p3 h1 e1 o3
 refine go ?_
 refine WO.bx ?_
 intro p4 h2 e2 o4
 have o3:=o3.ext e2
 have o5':=o5.ext (e1.trans e2)
 have o6':=o6.ext (e1.trans e2)
 have ow':=OwnR.ext ow (e1.trans e2)
 have e02:=e0.trans (e1.trans e2)
 have hn12:=(e1.trans e2).n
 refine go ?_
 refine WO.conV (hf h2 x.bits y.bits hx hy) ?_
 rintro _ _ ⟨rfl,rfl⟩
 have hw12:h2.wr=h.wr:=(e1.trans e2).wr hm
 refine go ?_
 refine WX.br (fun hc=> ?_) (fun hc=> ?_)<;>simp only[DB]at hc
 ·refine go ?_
  refine WO.apRw (b:=b) (R:=RW) (h:=h2) ⟨at',f x.bits y.bits⟩ (fun _=>False) ow' e02 b1 (by omega) (by decide) hl (RW.dep hz ha.1 ha.2 _) (fun k hk=>hk.elim) (fun _ _ _ _ h=>h) ?_
  intro v' h3 lit e3 ow3 n3 keep3 w3
  obtain⟨va',vn',vk',rfl,hvn'⟩:=Z7 ow3
  have hvb:∀ g,va=some ⟨g,0,none⟩→b≤g:=fun g e=>(hvn g e).1
  have o6'':OwnC hB h3 p6 [.slice va vn vk]:=zBF o6' h6 hvb keep3 n3
  refine go ?_
  refine WO.stC0w (cs:=[.slice va' vn' vk']) o6'' e3 ?_
  intro h4 e4 o4' u4 w4
  refine go ?_
  refine rtN ?_
  refine⟨⟨e4,zDe (zBF o5' h5 hvb keep3 n3) u4 hne,⟨b1,by have:=u4.1;omega⟩,h5,h6,hne,_,o4',?_⟩,by have:=u4.1;omega,fun k hk=> ?_,fun p cells o hp hpb=>zDe (zBF (o.ext (e1.trans e2)) hpb hvb keep3 n3) u4 hp⟩
  ·unfold putL
   rw[if_neg (by omega)]
   refine OwnR.upd ow3 (fun k k1 k2=>u4.2 k k2 fun e=> ?_) u4.1
   have:=h6 k e;omega
  ·rcases w4 k hk with h|h
   ·rcases w3 k h with h|h
    ·rw[hw12]at h;exact .inl h
    ·exact .inr (by omega)
   ·exact .inr h
 ·refine go ?_
  refine rtN ?_
  refine⟨⟨e02,o5',⟨b1,by omega⟩,h5,h6,hne,_,o6',?_⟩,hn12,fun k hk=> ?_,fun p cells o _ _=>o.ext (e1.trans e2)⟩
  ·unfold putL
   rw[if_pos (by omega)];exact ow'
  ·rw[hw12]at hk;exact .inl hk
theorem PutS.enter {hB h X:AHeap} {b:Nat} {p5 p6 fv:Value} {out:List LWd} (S:PutS hB h b p5 p6 fv out) (e:Ext (inC (zB 0 h)) X):PutS {hB with mark:=X.n,wr:=[]} (inC X) b p5 p6 fv out:=by
 obtain⟨e0,o5,⟨b1,b2⟩,h5,h6,hne,v,o6,ow⟩:=S
 have o5:OwnC hB X p5 [fv]:=OwnC.ext (h:=inC (zB 0 h)) o5 e
 have o6:OwnC hB X p6 [v]:=OwnC.ext (h:=inC (zB 0 h)) o6 e
 have ow:OwnW b X v out:=OwnR.upd ow (fun k _ hk=>e.get k hk) e.n
 have hn:h.n≤X.n:=e.n
 refine⟨⟨Nat.le_trans e0.n hn,fun g hg=>(e.get g (Nat.lt_of_lt_of_le hg e0.n)).trans (e0.get g hg),fun w=>e.wf (e0.wf w),rfl,fun _=>rfl⟩,o5,⟨b1,Nat.le_trans b2 hn⟩,h5,h6,hne,v,o6,OwnR.upd ow (fun _ _ _=>rfl) (Nat.le_refl _)⟩
theorem PutS.leave {hB h h':AHeap} {b m:Nat} {p5 p6 fv:Value} {out:List LWd} (S:PutS {hB with mark:=m,wr:=[]} h' b p5 p6 fv out) (e:Ext hB h):PutS hB (outC h h') b p5 p6 fv out:=by
 obtain⟨e0,o5,⟨b1,b2⟩,h5,h6,hne,v,o6,ow⟩:=S
 exact⟨⟨e0.n,e0.get,fun w=>e0.wf w,e.mark,fun hm=>e.wr hm⟩,o5,⟨b1,b2⟩,h5,h6,hne,v,o6,OwnR.upd ow (fun _ _ _=>rfl) (Nat.le_refl _)⟩
theorem zHv {f:Nat→Nat→Nat} {A B:List LWd} (hA:0<A.length) (h:B.length=0∨(A.getD 0 default).pos<(B.getD 0 default).pos):zj f A B=zAK (A.getD 0 default).pos (f (A.getD 0 default).bits 0) (zj f (A.drop 1) B):=by
 cases A with
 |nil=>simp at hA
 |cons x a=>
  cases B with
  |nil=>rw[zj];rfl
  |cons y b=>
   have h:x.pos<y.pos:=h.resolve_left (by simp)
   rw[zj,if_pos h];rfl
theorem zIC {f:Nat→Nat→Nat} {A B:List LWd} (hB:0<B.length) (h:A.length=0∨(B.getD 0 default).pos<(A.getD 0 default).pos):zj f A B=zAK (B.getD 0 default).pos (f 0 (B.getD 0 default).bits) (zj f A (B.drop 1)):=by
 cases B with
 |nil=>simp at hB
 |cons y b=>
  cases A with
  |nil=>rw[zj];rfl
  |cons x a=>
   have h:y.pos<x.pos:=h.resolve_left (by simp)
   rw[zj,if_neg (by omega),if_pos h];rfl
theorem merge_c {f:Nat→Nat→Nat} {A B:List LWd} (hA:0<A.length) (hB:0<B.length) (h:(A.getD 0 default).pos=(B.getD 0 default).pos):zj f A B=zAK (A.getD 0 default).pos (f (A.getD 0 default).bits (B.getD 0 default).bits) (zj f (A.drop 1) (B.drop 1)):=by
 cases A with
 |nil=>simp at hA
 |cons x a=>
  cases B with
  |nil=>simp at hB
  |cons y b=>
   have h:x.pos=y.pos:=h
   rw[zj,if_neg (by omega),if_neg (by omega)];rfl
theorem zAZ {p:Int} {v:Nat} {out:List LWd}:(putL p v out).length≤out.length+1:=by
 unfold putL;split<;>simp
theorem zH3 {h h':AHeap} (e:Ext (inC (zB 0 h)) h'):Ext h (outC h (inC h')):=⟨e.n,e.get,fun w=>e.wf w,rfl,fun _=>rfl⟩
theorem zF4 {h h' h2:AHeap} (e:Ext (inC (zB 0 h)) h') (e2:Ext (inC h') h2):Ext h (outC h (inC h2)):=⟨Nat.le_trans e.n e2.n,fun g hg=>(e2.get g (Nat.lt_of_lt_of_le hg e.n)).trans (e.get g hg),fun w=>e2.wf (e.wf w),rfl,fun _=>rfl⟩
theorem PutS.ext {hB h h':AHeap} {b:Nat} {p5 p6 fv:Value} {out:List LWd} (S:PutS hB h b p5 p6 fv out) (e:Ext h h'):PutS hB h' b p5 p6 fv out:=by
 obtain⟨e0,o5,⟨b1,b2⟩,h5,h6,hne,v,o6,ow⟩:=S
 exact⟨e0.trans e,o5.ext e,⟨b1,Nat.le_trans b2 e.n⟩,h5,h6,hne,v,o6.ext e,OwnR.ext ow e⟩
theorem zHP (h:AHeap):outC h (inC (zB 0 h))=h:=rfl
noncomputable def body68_0:ACode:=(.seq (.seq (.region [⟨some 9,none,(.mov (.tmp 0))⟩,⟨some 10,none,(.len (.tmp 9))⟩,⟨some 11,none,(.bin .gtr (.tmp 10) (.const (.int .i64 0)))⟩,⟨some 12,none,(.mov (.tmp 11))⟩,⟨some 13,some (12,false),(.mov (.tmp 1))⟩,⟨some 14,some (12,false),(.len (.tmp 13))⟩,⟨some 15,some (12,false),(.bin .gtr (.tmp 14) (.const (.int .i64 0)))⟩,⟨some 16,none,(.pick (.tmp 12) (.const (.bool true)) (.tmp 15))⟩]) (.cond (.tmp 16) .skip (.exit 0))) (.block 1 (.block 2 (.seq (.regionC [(⟨some 35,none,(.mov (.tmp 1))⟩,[]),(⟨some 36,none,(.len (.tmp 35))⟩,[]),(⟨some 37,none,(.bin .eql (.tmp 36) (.const (.int .i64 0)))⟩,[]),(⟨some 38,none,(.mov (.tmp 37))⟩,[]),(⟨some 39,some (38,false),(.mov (.tmp 0))⟩,[]),(⟨some 40,some (38,false),(.len (.tmp 39))⟩,[]),(⟨some 41,some (38,false),(.bin .gtr (.tmp 40) (.const (.int .i64 0)))⟩,[]),(⟨some 42,some (38,false),(.mov (.tmp 41))⟩,[]),(⟨some 43,some (42,true),(.mov (.tmp 2))⟩,[]),(⟨some 44,some (42,true),(.mov (.tmp 0))⟩,[]),(⟨some 45,some (42,true),(.idx 2 (.tmp 44) (.const (.int .i64 0)))⟩,[]),(⟨some 46,some (42,true),(.load true 2 (.tmp 45))⟩,[]),(⟨some 47,some (42,true),(.call (.tmp 43) [(.tmp 46)])⟩,[]),(⟨some 48,some (42,true),(.mov (.tmp 2))⟩,[]),(⟨some 49,some (42,true),(.mov (.tmp 1))⟩,[]),(⟨some 50,some (42,true),(.idx 2 (.tmp 49) (.const (.int .i64 0)))⟩,[]),(⟨some 51,some (42,true),(.load true 2 (.tmp 50))⟩,[12]),(⟨some 52,some (42,true),(.call (.tmp 48) [(.tmp 51)])⟩,[]),(⟨some 53,some (42,true),(.bin .lss (.tmp 47) (.tmp 52))⟩,[]),(⟨some 54,some (38,false),(.pick (.tmp 42) (.tmp 53) (.const (.bool false)))⟩,[]),(⟨some 55,none,(.pick (.tmp 38) (.const (.bool true)) (.tmp 54))⟩,[]),(⟨some 34,none,(.mov (.tmp 55))⟩,[])]) (.cond (.tmp 34) (.seq (.regionC [(⟨some 56,none,(.mov (.tmp 3))⟩,[]),(⟨some 57,none,(.mov (.tmp 0))⟩,[]),(⟨some 58,none,(.idx 2 (.tmp 57) (.const (.int .i64 0)))⟩,[]),(⟨some 59,none,(.load true 2 (.tmp 58))⟩,[]),(⟨some 60,none,(.load true 2 (.tmp 8))⟩,[]),(⟨some 61,none,(.mov (.tmp 2))⟩,[]),(⟨some 62,none,(.mov (.tmp 0))⟩,[]),(⟨some 63,none,(.idx 2 (.tmp 62) (.const (.int .i64 0)))⟩,[]),(⟨some 64,none,(.load true 2 (.tmp 63))⟩,[]),(⟨some 65,none,(.call (.tmp 61) [(.tmp 64)])⟩,[3,4]),(⟨some 66,none,(.call (.tmp 56) [(.tmp 59),(.tmp 60),(.tmp 65)])⟩,[])]) (.region [⟨some 67,none,(.mov (.tmp 0))⟩,⟨some 68,none,(.slice 2 (.tmp 67) (some (.const (.int .i64 1))) none none)⟩,⟨some 0,none,(.mov (.tmp 68))⟩])) (.seq (.regionC [(⟨some 70,none,(.mov (.tmp 0))⟩,[]),(⟨some 71,none,(.len (.tmp 70))⟩,[]),(⟨some 72,none,(.bin .eql (.tmp 71) (.const (.int .i64 0)))⟩,[]),(⟨some 73,none,(.mov (.tmp 72))⟩,[]),(⟨some 74,some (73,false),(.mov (.tmp 2))⟩,[]),(⟨some 75,some (73,false),(.mov (.tmp 1))⟩,[]),(⟨some 76,some (73,false),(.idx 2 (.tmp 75) (.const (.int .i64 0)))⟩,[]),(⟨some 77,some (73,false),(.load true 2 (.tmp 76))⟩,[]),(⟨some 78,some (73,false),(.call (.tmp 74) [(.tmp 77)])⟩,[]),(⟨some 79,some (73,false),(.mov (.tmp 2))⟩,[]),(⟨some 80,some (73,false),(.mov (.tmp 0))⟩,[]),(⟨some 81,some (73,false),(.idx 2 (.tmp 80) (.const (.int .i64 0)))⟩,[]),(⟨some 82,some (73,false),(.load true 2 (.tmp 81))⟩,[8]),(⟨some 83,some (73,false),(.call (.tmp 79) [(.tmp 82)])⟩,[]),(⟨some 84,some (73,false),(.bin .lss (.tmp 78) (.tmp 83))⟩,[]),(⟨some 85,none,(.pick (.tmp 73) (.const (.bool true)) (.tmp 84))⟩,[]),(⟨some 69,none,(.mov (.tmp 85))⟩,[])]) (.cond (.tmp 69) (.seq (.regionC [(⟨some 86,none,(.mov (.tmp 3))⟩,[]),(⟨some 87,none,(.load true 2 (.tmp 8))⟩,[]),(⟨some 88,none,(.mov (.tmp 1))⟩,[]),(⟨some 89,none,(.idx 2 (.tmp 88) (.const (.int .i64 0)))⟩,[]),(⟨some 90,none,(.load true 2 (.tmp 89))⟩,[]),(⟨some 91,none,(.mov (.tmp 2))⟩,[]),(⟨some 92,none,(.mov (.tmp 1))⟩,[]),(⟨some 93,none,(.idx 2 (.tmp 92) (.const (.int .i64 0)))⟩,[]),(⟨some 94,none,(.load true 2 (.tmp 93))⟩,[]),(⟨some 95,none,(.call (.tmp 91) [(.tmp 94)])⟩,[1,4]),(⟨some 96,none,(.call (.tmp 86) [(.tmp 87),(.tmp 90),(.tmp 95)])⟩,[])]) (.region [⟨some 97,none,(.mov (.tmp 1))⟩,⟨some 98,none,(.slice 2 (.tmp 97) (some (.const (.int .i64 1))) none none)⟩,⟨some 1,none,(.mov (.tmp 98))⟩])) (.seq (.regionC [(⟨some 17,none,(.mov (.tmp 3))⟩,[]),(⟨some 18,none,(.mov (.tmp 0))⟩,[]),(⟨some 19,none,(.idx 2 (.tmp 18) (.const (.int .i64 0)))⟩,[]),(⟨some 20,none,(.load true 2 (.tmp 19))⟩,[]),(⟨some 21,none,(.mov (.tmp 1))⟩,[]),(⟨some 22,none,(.idx 2 (.tmp 21) (.const (.int .i64 0)))⟩,[]),(⟨some 23,none,(.load true 2 (.tmp 22))⟩,[]),(⟨some 24,none,(.mov (.tmp 2))⟩,[]),(⟨some 25,none,(.mov (.tmp 0))⟩,[]),(⟨some 26,none,(.idx 2 (.tmp 25) (.const (.int .i64 0)))⟩,[]),(⟨some 27,none,(.load true 2 (.tmp 26))⟩,[]),(⟨some 28,none,(.call (.tmp 24) [(.tmp 27)])⟩,[3,6]),(⟨some 29,none,(.call (.tmp 17) [(.tmp 20),(.tmp 23),(.tmp 28)])⟩,[])]) (.regionC [(⟨some 30,none,(.mov (.tmp 0))⟩,[]),(⟨some 31,none,(.slice 2 (.tmp 30) (some (.const (.int .i64 1))) none none)⟩,[]),(⟨some 32,none,(.mov (.tmp 1))⟩,[]),(⟨some 33,none,(.slice 2 (.tmp 32) (some (.const (.int .i64 1))) none none)⟩,[]),(⟨some 0,none,(.mov (.tmp 31))⟩,[]),(⟨some 1,none,(.mov (.tmp 33))⟩,[])])))))))))
noncomputable def body68:ACode:=(.seq (.region [⟨some 8,none,(.alloc [(.int .i64 0),(.int .u64 0)])⟩]) (.block 0 (.loop body68_0)))
set_option maxRecDepth 100000 in
theorem tab68:tb.code 68=some ⟨99,[],body68⟩:=by kernel_rfl
theorem merge_ok (hB h:AHeap) (va vb p5 p6 fv:Value) (f:Nat→Nat→Nat) (hf:DoOk fv f) (hfz:∀ x y,x<18446744073709551616→y<18446744073709551616→f x y<18446744073709551616) (A B:List LWd) (ka:SlW hB va A) (kb:SlW hB vb B) (la:A.length≤1000) (lb:B.length≤1000)
  (e:Ext hB h) (hm:hB.mark≤hB.n) (o5:OwnC hB h p5 [fv]) (o6:OwnC hB h p6 [.slice none 0 0]) (hne:p5≠p6):
  WC Tryd.prog tb 68 [va,vb,.func (.func 69) #[] #[],.func (.func 70) #[] #[p5,p6]] h fun r h'=>Ext hB h'∧∃ v b,hB.n≤b∧OwnC hB h' p6 [v]∧OwnW b h' v (zj f A B)∧∀ g,p6= .pointer (some ⟨g,0,none⟩)→g<b:=by
 refine WC.of (zF 68) tab68 ?_;simp only[zO,Nat.zero_add,Nat.reduceAdd]
 refine go ?_
 refine WO.al ?_
 intro p8 h0 e0 o8
 refine go ?_
 obtain⟨g8,g81,g82,rfl,g84⟩:=id o8
 have o8:=o8.since e
 have S0:PutS hB h0 h0.n p5 p6 fv []:=⟨e.trans e0,o5.ext e0,⟨(e.trans e0).n,Nat.le_refl _⟩,fun g eg=>by
  obtain⟨g',_,a,b,_⟩:=o5;rw[b]at eg;cases eg;have:=e0.n;omega,fun g eg=>by
  obtain⟨g',_,a,b,_⟩:=o6;rw[b]at eg;cases eg;have:=e0.n;omega,hne,_,o6.ext e0,OwnR.nil⟩
 have h86:Value.pointer (some ⟨g8,0,none⟩)≠p6:=fun eq=>by
  obtain⟨g',_,a,b,_⟩:=o6;rw[b]at eq;cases eq;omega
 have hb8:∀ g,Value.pointer (some ⟨g8,0,none⟩)= .pointer (some ⟨g,0,none⟩)→g<h0.n:=fun g eg=>by cases eg;exact g82
 generalize hbb:h0.n=bb at S0 hb8
 generalize Value.pointer (some ⟨g8,0,none⟩)=p8 at *
 clear e0 g81 g82 g84 o5 o6
 refine WX.loopA [9,10,11,12,13,14,15,16,35,36,37,38,39,40,41,42,43,44,45,46,47,48,49,50,51,52,53,54,55,34,56,57,58,59,60,61,62,63,64,65,66,67,68,0,70,71,72,73,74,75,76,77,78,79,80,81,82,83,84,85,69,86,87,88,89,90,91,92,93,94,95,96,97,98,1,17,18,19,20,21,22,23,24,25,26,27,28,29,30,31,32,33,0,1] (by kernel_rfl) (fun p:List LWd×List LWd=>p.1.length+p.2.length) (fun p t h1=>∃ va' vb' out,zC t 0=va'∧zC t 1=vb'∧SlW hB va' p.1∧SlW hB vb' p.2∧PutS hB h1 bb p5 p6 fv out∧OwnC hB h1 p8 [I 0,W 0]∧Hid (zj f A B=out++zj f p.1 p.2)∧p.1.length≤1000∧p.2.length≤1000∧out.length+(p.1.length+p.2.length)≤2000) (A,B) ?_ ?_
 ·exact⟨va,vb,[],sl_,sl_,ka,kb,S0,o8,⟨rfl⟩,la,lb,by simp only[List.length_nil];omega⟩
 clear S0 o8 ka kb la lb
 rintro⟨a,b⟩ t h1 hsame ⟨va',vb',out,s0,s1,ka,kb,S,o8,hI,la,lb,lo⟩
 simp only at ka kb hI la lb lo
 have e1:=S.e
 have ka1:=SlW.ext ka e1
 have kb1:=SlW.ext kb e1
 have hm1:h1.mark≤h1.n:=by have:=e1.mark;have:=e1.n;omega
 have hmB:h1.mark≤hB.n:=by have:=e1.mark;omega
 by_cases hA:0<a.length
 case neg=>
  by_cases hBl:0<b.length
  case neg=>
   refine go ?_
   refine rtN ?_
   obtain⟨e1,o5,⟨b1,b2⟩,h5,h6,hne,v,o6,ow⟩:=S
   have:zj f a b=[]:=by
    have ha:a=[]:=List.eq_nil_of_length_eq_zero (by omega)
    have hb:b=[]:=List.eq_nil_of_length_eq_zero (by omega)
    subst ha hb;rw[zj]
   rw[hI.out,this,List.append_nil]
   exact⟨e1,v,bb,b1,o6,ow,h6⟩
  have hmg:=zIC (f:=f) hBl (.inl (by omega:a.length=0))
  have kaX:SlW (inC (zB 0 h1)) va' a:=ka1
  have kbX:SlW (inC (zB 0 h1)) vb' b:=kb1
  have o8X:OwnC hB (inC (zB 0 h1)) p8 [I 0,W 0]:=o8
  obtain⟨cb,⟨rfl,y1,y2,y3⟩,pcb,hsb⟩:=y8 kb1 hBl
  have pcbX:=(pcb _ (Ext.refl _)).2
  have pcbX:Piece (inC (zB 0 h1)) vb' (0 * 2) [I (b.getD 0 default).pos,W (b.getD 0 default).bits]:=pcbX
  obtain⟨qa,qn,qk,hqv,hqb⟩:=zAt (i:=0) kb1 hBl
  generalize b.getD 0 default=y at *
  have hI:=hI.out.trans (congrArg (out++·) hmg)
  have hI:=Hid.mk hI
  clear hmg
  refine go ?_
  refine WX.regionU2 0 rfl rfl ?_
  refine goU ?_
  refine uK2_gT ?_
  refine goU ?_
  rw[zHP]
  refine WX.regionU2 0 rfl rfl ?_
  refine goU ?_
  refine uK2_gF ?_
  refine goU ?_
  rw[zHP]
  refine WX.regionU2 0 rfl rfl ?_
  refine goU ?_
  refine WO.conV (WV.func (ZT _ y)) ?_
  rintro _ h2 ⟨rfl,e2⟩
  refine WO.nil ?_
  refine yq e2 zP ?_
  have S2:=S.enter e2
  refine goU ?_
  refine WO.conV (WV.func (zAk _ (inC h2) bb p5 p6 fv f hf out ⟨0,0⟩ y y.pos S2 (by decide) y1 (by omega) (hfz _ _ (by decide) y1) ⟨y2,y3⟩ (Nat.le_refl _))) ?_
  rintro _ h3 ⟨S3,n3,w3,f3⟩
  refine WO.nil ?_
  refine zF3 (fun k hk=> ?_) n3 ?_
  ·rcases w3 k hk with h|h
   ·cases h
   ·have h:hB.n≤k:=h
    omega
  have S4:=S3.leave e1
  have o84:OwnC hB (outC h1 h3) p8 [I 0,W 0]:=f3 p8 _ (by have:=OwnC.ext (h:=inC (zB 0 h1)) o8 e2;exact this) h86 hb8
  generalize outC h1 h3=h4 at S4 o84 ⊢
  obtain⟨vb2,hsl,kb2⟩:=Y5 (i:=1) kb hBl (by omega)
  refine goU ?_
  refine WO.slLo (i:=1) (hy:=rfl) hsl ?_
  refine go ?_
  have hpl:=zAZ (p:=y.pos) (v:=f 0 y.bits) (out:=out)
  have hdl:(b.drop 1).length=b.length - 1:=List.length_drop ..
  refine zA (a,b.drop 1) (by simp only;omega) ⟨va',vb2,_,sl_,sl_,ka,kb2,S4,o84,⟨?_⟩,la,by simp only;omega,by simp only;omega⟩
  rw[Yv];exact hI.out
 by_cases hBl:0<b.length
 case neg=>
  have hmg:=zHv (f:=f) hA (.inl (by omega:b.length=0))
  have kaX:SlW (inC (zB 0 h1)) va' a:=ka1
  have kbX:SlW (inC (zB 0 h1)) vb' b:=kb1
  have o8X:OwnC hB (inC (zB 0 h1)) p8 [I 0,W 0]:=o8
  obtain⟨ca,⟨rfl,y1,y2,y3⟩,pca,hsa⟩:=y8 ka1 hA
  have pcaX:=(pca _ (Ext.refl _)).2
  have pcaX:Piece (inC (zB 0 h1)) va' (0 * 2) [I (a.getD 0 default).pos,W (a.getD 0 default).bits]:=pcaX
  generalize a.getD 0 default=y at *
  have hI:=hI.out.trans (congrArg (out++·) hmg)
  have hI:=Hid.mk hI
  clear hmg
  refine go ?_
  refine WX.regionU2 0 rfl rfl ?_
  refine goU ?_
  refine uK2_gU ?_
  refine goU ?_
  rw[zHP]
  refine WX.regionU2 0 rfl rfl ?_
  refine goU ?_
  refine WO.conV (WV.func (ZT _ y)) ?_
  rintro _ h2 ⟨rfl,e2⟩
  refine WO.nil ?_
  refine yq e2 zP ?_
  have S2:=S.enter e2
  refine goU ?_
  refine WO.conV (WV.func (zAk _ (inC h2) bb p5 p6 fv f hf out y ⟨0,0⟩ y.pos S2 y1 (by decide) (by omega) (hfz _ _ y1 (by decide)) ⟨y2,y3⟩ (Nat.le_refl _))) ?_
  rintro _ h3 ⟨S3,n3,w3,f3⟩
  refine WO.nil ?_
  refine zF3 (fun k hk=> ?_) n3 ?_
  ·rcases w3 k hk with h|h
   ·cases h
   ·have h:hB.n≤k:=h
    omega
  have S4:=S3.leave e1
  have o84:OwnC hB (outC h1 h3) p8 [I 0,W 0]:=f3 p8 _ (by have:=OwnC.ext (h:=inC (zB 0 h1)) o8 e2;exact this) h86 hb8
  generalize outC h1 h3=h4 at S4 o84 ⊢
  obtain⟨va2,hsl,ka2⟩:=Y5 (i:=1) ka hA (by omega)
  refine goU ?_
  refine WO.slLo (i:=1) (hy:=rfl) hsl ?_
  refine go ?_
  have hpl:=zAZ (p:=y.pos) (v:=f y.bits 0) (out:=out)
  have hdl:(a.drop 1).length=a.length - 1:=List.length_drop ..
  refine zA (a.drop 1,b) (by simp only;omega) ⟨va2,vb',_,sl_,sl_,ka2,kb,S4,o84,⟨?_⟩,by simp only;omega,lb,by simp only;omega⟩
  rw[Yv];exact hI.out
 have kaX:SlW (inC (zB 0 h1)) va' a:=ka1
 have kbX:SlW (inC (zB 0 h1)) vb' b:=kb1
 have o8X:OwnC hB (inC (zB 0 h1)) p8 [I 0,W 0]:=o8
 obtain⟨ca,⟨rfl,x1,x2,x3⟩,pca,hsa⟩:=y8 ka1 hA
 have pcaX:=(pca _ (Ext.refl _)).2
 have pcaX:Piece (inC (zB 0 h1)) va' (0 * 2) [I (a.getD 0 default).pos,W (a.getD 0 default).bits]:=pcaX
 obtain⟨cb,⟨rfl,y1,y2,y3⟩,pcb,hsb⟩:=y8 kb1 hBl
 have pcbX:=(pcb _ (Ext.refl _)).2
 have pcbX:Piece (inC (zB 0 h1)) vb' (0 * 2) [I (b.getD 0 default).pos,W (b.getD 0 default).bits]:=pcbX
 obtain⟨qa,qn,qk,hqv,hqb⟩:=zAt (i:=0) kb1 hBl
 obtain⟨ra,rn,rk,hrv,hrb⟩:=zAt (i:=0) ka1 hA
 have hma:=fun h=>zHv (f:=f) hA (.inr h:b.length=0∨(a.getD 0 default).pos<(b.getD 0 default).pos)
 have hmb:=fun h=>zIC (f:=f) hBl (.inr h:a.length=0∨(b.getD 0 default).pos<(a.getD 0 default).pos)
 have hmc:=merge_c (f:=f) hA hBl
 generalize a.getD 0 default=x at *
 generalize b.getD 0 default=y at *
 have hma:=Hid.mk hma
 have hmb:=Hid.mk hmb
 have hmc:=Hid.mk hmc
 refine go ?_
 refine WX.regionU2 0 rfl rfl ?_
 refine goU ?_
 refine WO.conV (WV.func (ZT _ x)) ?_
 rintro _ h2 ⟨rfl,e2⟩
 refine WO.nil ?_
 refine yq e2 zP ?_
 have e3:Ext h1 (outC h1 (inC h2)):=zH3 e2
 have kaY:SlW (inC h2) va' a:=by have:=SlW.ext ka1 e3;exact this
 have kbY:SlW (inC h2) vb' b:=by have:=SlW.ext kb1 e3;exact this
 have pcbY:Piece (inC h2) vb' (0 * 2) [I y.pos,W y.bits]:=by have:=(pcb _ e3).2;exact this
 refine goU ?_
 refine zIB ⟨qa,qn,qk,hqv,hqb⟩ ?_
 refine goU ?_
 refine WO.conV (WV.func (ZT _ y)) ?_
 rintro _ h4 ⟨rfl,e4⟩
 refine WO.nil ?_
 refine yq e4 zP ?_
 have e5:Ext h1 (outC h1 (inC h4)):=zF4 e2 e4
 by_cases hlt:x.pos<y.pos
 ·have hI:=Hid.mk (hI.out.trans (congrArg (out++·) (hma.out hlt)))
  clear hma hmb hmc
  refine goU ?_
  generalize outC h1 (inC h4)=h5 at e5 ⊢
  have S:=S.ext e5
  have o8:=o8.ext e5
  have e15:=e1.trans e5
  have hmB:h5.mark≤hB.n:=by have:=e15.mark;omega
  have kaX:SlW (inC (zB 0 h5)) va' a:=by have:=SlW.ext ka1 e5;exact this
  have o8X:OwnC hB (inC (zB 0 h5)) p8 [I 0,W 0]:=o8
  have pcaX:Piece (inC (zB 0 h5)) va' (0 * 2) [I x.pos,W x.bits]:=by have:=(pca _ e5).2;exact this
  refine WX.regionU2 0 rfl rfl ?_
  refine goU ?_
  refine WO.conV (WV.func (ZT _ x)) ?_
  rintro _ h6 ⟨rfl,e6⟩
  refine WO.nil ?_
  refine yq e6 zP ?_
  have S2:=S.enter e6
  refine goU ?_
  refine WO.conV (WV.func (zAk _ (inC h6) bb p5 p6 fv f hf out x ⟨0,0⟩ x.pos S2 x1 (by decide) (by omega) (hfz _ _ x1 (by decide)) ⟨x2,x3⟩ (Nat.le_refl _))) ?_
  rintro _ h3 ⟨S3,n3,w3,f3⟩
  refine WO.nil ?_
  refine zF3 (fun k hk=> ?_) n3 ?_
  ·rcases w3 k hk with h|h
   ·cases h
   ·have h:hB.n≤k:=h
    omega
  have S4:=S3.leave e15
  have o84:OwnC hB (outC h5 h3) p8 [I 0,W 0]:=f3 p8 _ (by have:=OwnC.ext (h:=inC (zB 0 h5)) o8 e6;exact this) h86 hb8
  generalize outC h5 h3=h7 at S4 o84 ⊢
  obtain⟨va2,hsl,ka2⟩:=Y5 (i:=1) ka hA (by omega)
  refine goU ?_
  refine WO.slLo (i:=1) (hy:=rfl) hsl ?_
  refine go ?_
  have hpl:=zAZ (p:=x.pos) (v:=f x.bits 0) (out:=out)
  have hdl:(a.drop 1).length=a.length - 1:=List.length_drop ..
  refine zA (a.drop 1,b) (by simp only;omega) ⟨va2,vb',_,sl_,sl_,ka2,kb,S4,o84,⟨?_⟩,by simp only;omega,lb,by simp only;omega⟩
  rw[Yv];exact hI.out
 refine goU ?_
 generalize outC h1 (inC h4)=h5 at e5 ⊢
 clear e3 kaY kbY pcbY e2 e4 kaX kbX o8X pcaX pcbX
 have S:=S.ext e5
 have o8:=o8.ext e5
 have e15:=e1.trans e5
 have hmB:h5.mark≤hB.n:=by have:=e15.mark;omega
 have ka5:=SlW.ext ka1 e5
 have kb5:=SlW.ext kb1 e5
 have kaX:SlW (inC (zB 0 h5)) va' a:=ka5
 have kbX:SlW (inC (zB 0 h5)) vb' b:=kb5
 have o8X:OwnC hB (inC (zB 0 h5)) p8 [I 0,W 0]:=o8
 have pcaX:Piece (inC (zB 0 h5)) va' (0 * 2) [I x.pos,W x.bits]:=by have:=(pca _ e5).2;exact this
 have pcbX:Piece (inC (zB 0 h5)) vb' (0 * 2) [I y.pos,W y.bits]:=by have:=(pcb _ e5).2;exact this
 refine WX.regionU2 0 rfl rfl ?_
 refine goU ?_
 refine WO.conV (WV.func (ZT _ y)) ?_
 rintro _ h2 ⟨rfl,e2⟩
 refine WO.nil ?_
 refine yq e2 zP ?_
 have e3:Ext h5 (outC h5 (inC h2)):=zH3 e2
 have kaY:SlW (inC h2) va' a:=by have:=SlW.ext ka5 e3;exact this
 have pcaY:Piece (inC h2) va' (0 * 2) [I x.pos,W x.bits]:=by have:=(pca _ (e5.trans e3)).2;exact this
 have hrb5:ra.block<h5.n:=Nat.lt_of_lt_of_le hrb e5.n
 have hqb5:qa.block<h5.n:=Nat.lt_of_lt_of_le hqb e5.n
 refine goU ?_
 refine zIB ⟨ra,rn,rk,hrv,hrb5⟩ ?_
 refine goU ?_
 refine WO.conV (WV.func (ZT _ x)) ?_
 rintro _ h4 ⟨rfl,e4⟩
 refine WO.nil ?_
 refine yq e4 zP ?_
 have e6:Ext h5 (outC h5 (inC h4)):=zF4 e2 e4
 by_cases hgt:y.pos<x.pos
 ·have hI:=Hid.mk (hI.out.trans (congrArg (out++·) (hmb.out hgt)))
  clear hma hmb hmc
  refine goU ?_
  generalize outC h5 (inC h4)=h6 at e6 ⊢
  have S:=S.ext e6
  have o8:=o8.ext e6
  have e16:=e15.trans e6
  have hmB:h6.mark≤hB.n:=by have:=e16.mark;omega
  have kbX:SlW (inC (zB 0 h6)) vb' b:=by have:=SlW.ext kb5 e6;exact this
  have o8X:OwnC hB (inC (zB 0 h6)) p8 [I 0,W 0]:=o8
  have pcbX:Piece (inC (zB 0 h6)) vb' (0 * 2) [I y.pos,W y.bits]:=by have:=(pcb _ (e5.trans e6)).2;exact this
  refine WX.regionU2 0 rfl rfl ?_
  refine goU ?_
  refine WO.conV (WV.func (ZT _ y)) ?_
  rintro _ h7 ⟨rfl,e7⟩
  refine WO.nil ?_
  refine yq e7 zP ?_
  have S2:=S.enter e7
  refine goU ?_
  refine WO.conV (WV.func (zAk _ (inC h7) bb p5 p6 fv f hf out ⟨0,0⟩ y y.pos S2 (by decide) y1 (by omega) (hfz _ _ (by decide) y1) ⟨y2,y3⟩ (Nat.le_refl _))) ?_
  rintro _ h3 ⟨S3,n3,w3,f3⟩
  refine WO.nil ?_
  refine zF3 (fun k hk=> ?_) n3 ?_
  ·rcases w3 k hk with h|h
   ·cases h
   ·have h:hB.n≤k:=h
    omega
  have S4:=S3.leave e16
  have o84:OwnC hB (outC h6 h3) p8 [I 0,W 0]:=f3 p8 _ (by have:=OwnC.ext (h:=inC (zB 0 h6)) o8 e7;exact this) h86 hb8
  generalize outC h6 h3=h8 at S4 o84 ⊢
  obtain⟨vb2,hsl,kb2⟩:=Y5 (i:=1) kb hBl (by omega)
  refine goU ?_
  refine WO.slLo (i:=1) (hy:=rfl) hsl ?_
  refine go ?_
  have hpl:=zAZ (p:=y.pos) (v:=f 0 y.bits) (out:=out)
  have hdl:(b.drop 1).length=b.length - 1:=List.length_drop ..
  refine zA (a,b.drop 1) (by simp only;omega) ⟨va',vb2,_,sl_,sl_,ka,kb2,S4,o84,⟨?_⟩,la,by simp only;omega,by simp only;omega⟩
  rw[Yv];exact hI.out
 have hI:=Hid.mk (hI.out.trans (congrArg (out++·) (hmc.out (by omega))))
 clear hma hmb hmc
 refine goU ?_
 generalize outC h5 (inC h4)=h6 at e6 ⊢
 clear kaX kbX o8X pcaX pcbX kaY pcaY
 have S:=S.ext e6
 have o8:=o8.ext e6
 have e16:=e15.trans e6
 have hmB:h6.mark≤hB.n:=by have:=e16.mark;omega
 have kaX:SlW (inC (zB 0 h6)) va' a:=by have:=SlW.ext ka5 e6;exact this
 have kbX:SlW (inC (zB 0 h6)) vb' b:=by have:=SlW.ext kb5 e6;exact this
 have o8X:OwnC hB (inC (zB 0 h6)) p8 [I 0,W 0]:=o8
 have pcaX:Piece (inC (zB 0 h6)) va' (0 * 2) [I x.pos,W x.bits]:=by have:=(pca _ (e5.trans e6)).2;exact this
 have pcbX:Piece (inC (zB 0 h6)) vb' (0 * 2) [I y.pos,W y.bits]:=by have:=(pcb _ (e5.trans e6)).2;exact this
 refine WX.regionU2 0 rfl rfl ?_
 refine goU ?_
 refine WO.conV (WV.func (ZT _ x)) ?_
 rintro _ h7 ⟨rfl,e7⟩
 refine WO.nil ?_
 refine yq e7 zP ?_
 have S2:=S.enter e7
 refine goU ?_
 refine WO.conV (WV.func (zAk _ (inC h7) bb p5 p6 fv f hf out x y x.pos S2 x1 y1 (by omega) (hfz _ _ x1 y1) ⟨x2,x3⟩ (Nat.le_refl _))) ?_
 rintro _ h3 ⟨S3,n3,w3,f3⟩
 refine WO.nil ?_
 refine zF3 (fun k hk=> ?_) n3 ?_
 ·rcases w3 k hk with h|h
  ·cases h
  ·have h:hB.n≤k:=h
   omega
 have S4:=S3.leave e16
 have o84:OwnC hB (outC h6 h3) p8 [I 0,W 0]:=f3 p8 _ (by have:=OwnC.ext (h:=inC (zB 0 h6)) o8 e7;exact this) h86 hb8
 generalize outC h6 h3=h8 at S4 o84 ⊢
 obtain⟨va2,hsa2,ka2⟩:=Y5 (i:=1) ka hA (by omega)
 obtain⟨vb2,hsb2,kb2⟩:=Y5 (i:=1) kb hBl (by omega)
 refine goU ?_
 refine WO.slLo (i:=1) (hy:=rfl) hsa2 ?_
 refine go ?_
 refine WO.slLo (i:=1) (hy:=rfl) hsb2 ?_
 refine go ?_
 have hpl:=zAZ (p:=x.pos) (v:=f x.bits y.bits) (out:=out)
 have hda:(a.drop 1).length=a.length - 1:=List.length_drop ..
 have hdb:(b.drop 1).length=b.length - 1:=List.length_drop ..
 refine zA (a.drop 1,b.drop 1) (by simp only;omega) ⟨va2,vb2,_,sl_,sl_,ka2,kb2,S4,o84,⟨?_⟩,by simp only;omega,by simp only;omega,by simp only;omega⟩
 rw[Yv];exact hI.out
end Go.Proofs.YtemggiegiejopaaDoor
namespace Go.Proofs.YtemggiegiejopaaDoor
open Go.Am
set_option linter.unusedVariables false
set_option linter.unusedSimpArgs false
set_option maxHeartbeats 1000000
def zCi (A B:List LWd):Int:=if z8 (-1) A&&z8 (-1) B then 0 else 8
def zEO (f:Nat→Nat→Nat) (A B:List LWd):List LWd:=if z8 (-1) A&&z8 (-1) B then zj f A B else []
def MineW (h h':AHeap) (v:Value) (s:List LWd):Prop:=∃ b,h.n≤b∧OwnW b h' v s
theorem MineW.sl {h h' v s} (m:MineW h h' v s):SlW h' v s:=let ⟨_,_,o⟩:=m;OwnR.sl o
theorem MineW.ext {h h1 h2 v s} (m:MineW h h1 v s) (e:Ext h1 h2):MineW h h2 v s:=let ⟨b,hb,o⟩:=m;⟨b,hb,OwnR.ext o e⟩
theorem MineW.nil {h h':AHeap}:MineW h h' (.slice none 0 0) []:=⟨h.n,Nat.le_refl _,OwnR.nil⟩
section
variable {P:Program} {tab:Tab} {t:Trie Value} {h:AHeap} {ds:List Deferred} {rd:Option Nat} {l:List AOper} {Q:AFr→AHeap→Prop}
theorem WO.max2 {d:Nat} {x y:Operand} {a b r:Int} (hr:r=if a<b then b else a) (k:WO P tab l ⟨t.set d (I r),ds,rd⟩ h Q) (hx:Ope t x (I a):=by exact ze) (hy:Ope t y (I b):=by exact ze):WO P tab (⟨some d,none,.maxmin true [x,y]⟩::l) ⟨t,ds,rd⟩ h Q:=by
 have hx:ev t x=I a:=hx
 have hy:ev t y=I b:=hy
 refine WO.op (I r) h rfl ?_ k
 subst hr
 simp only[aop,hx,hy,List.map_cons,List.map_nil]
 rfl
end
noncomputable def body52:ACode:=(.seq (.region [⟨some 5,none,(.box (.tmp 2))⟩,⟨some 6,none,(.alloc [(.slice none 0 0)])⟩,⟨some 7,none,(.mov (.const (.int .i64 0)))⟩]) (.seq (.seq (.region [⟨some 9,none,(.mov (.tmp 0))⟩,⟨some 10,none,(.call (.func 32) [(.tmp 9)])⟩,⟨some 11,none,(.mov (.tmp 1))⟩,⟨some 12,none,(.call (.func 32) [(.tmp 11)])⟩,⟨some 13,none,(.maxmin true [(.tmp 10),(.tmp 12)])⟩,⟨some 8,none,(.mov (.tmp 13))⟩]) (.seq (.region [⟨some 14,none,(.mov (.tmp 8))⟩,⟨some 15,none,(.bin .neq (.tmp 14) (.const (.int .i64 0)))⟩]) (.cond (.tmp 15) (.seq (.region [⟨some 16,none,(.mov (.tmp 8))⟩,⟨none,none,(.store 1 (.tmp 6) (.const (.slice none 0 0)))⟩,⟨some 7,none,(.mov (.tmp 16))⟩]) .ret) .skip))) (.seq (.region [⟨some 17,none,(.mov (.tmp 0))⟩,⟨some 18,none,(.mov (.tmp 1))⟩,⟨some 19,none,(.mkFunc (.func 70) [] [(.tmp 5),(.tmp 6)])⟩,⟨some 20,none,(.call (.func 68) [(.tmp 17),(.tmp 18),(.func 69),(.tmp 19)])⟩]) (.seq (.region [⟨some 21,none,(.load false 1 (.tmp 6))⟩,⟨none,none,(.store 1 (.tmp 6) (.tmp 21))⟩,⟨some 7,none,(.mov (.const (.int .i64 0)))⟩]) .ret))))
set_option maxRecDepth 100000 in
theorem tab52:tb.code 52=some ⟨22,[(6,some (false,1)),(7,none)],body52⟩:=by kernel_rfl
theorem zIO (h:AHeap) (va vb fv:Value) (f:Nat→Nat→Nat) (hf:DoOk fv f) (hfz:∀ x y,x<18446744073709551616→y<18446744073709551616→f x y<18446744073709551616) (hfc:fv.cells=#[fv]) (A B:List LWd) (ka:SlW h va A) (kb:SlW h vb B) (la:A.length≤1000) (lb:B.length≤1000) (hm:h.mark≤h.n):
  WC Tryd.prog tb 52 [va,vb,fv] h fun r h'=>(∃ v,r= .tuple #[v,I (zCi A B)]∧MineW h h' v (zEO f A B))∧Ext h h':=by
 refine WC.of (zF 52) tab52 ?_;simp only[zO,Nat.zero_add,Nat.reduceAdd]
 refine go ?_
 refine WO.bx ?_
 intro p5 h1 e1 o5
 rw[hfc]at o5
 have o5:OwnC h h1 p5 [fv]:=o5
 refine go ?_
 refine WO.al ?_
 intro p6 h2 e2 o6
 have o5':=o5.ext e2
 have e12:=e1.trans e2
 have hne:p5≠p6:=fun e=>by
  obtain⟨g,_,g2,a,_⟩:=o5
  obtain⟨g',g1,_,b,_⟩:=o6
  rw[a,b]at e;cases e;omega
 have ka2:=SlW.ext ka e12
 refine go ?_
 refine WO.con (zCN h2 va A ka2 (by omega)) ?_
 rintro _ h3 ⟨rfl,e3⟩
 have kb3:=SlW.ext kb (e12.trans e3)
 refine go ?_
 refine WO.con (zCN h3 vb B kb3 (by omega)) ?_
 rintro _ h4 ⟨rfl,e4⟩
 have e14:=e12.trans (e3.trans e4)
 have o5:=o5'.ext (e3.trans e4)
 have o6:=o6.ext (e3.trans e4)
 have o6h:=o6.since e1
 have hm4:h4.mark≤h4.n:=by have:=e14.mark;have:=e14.n;omega
 refine go ?_
 refine WO.max2 (a:=errW (z8 (-1) A)) (b:=errW (z8 (-1) B)) (r:=zCi A B) (by unfold zCi errW;cases z8 (-1) A<;>cases z8 (-1) B<;>rfl) ?_
 have hE:zCi A B=if (z8 (-1) A&&z8 (-1) B)=true then 0 else 8:=rfl
 have hL:zEO f A B=if (z8 (-1) A&&z8 (-1) B)=true then zj f A B else []:=rfl
 by_cases hc:(z8 (-1) A&&z8 (-1) B)=true
 ·rw[if_pos hc]at hE hL
  rw[hE,hL]
  refine go ?_
  refine WO.con (merge_ok h h4 va vb p5 p6 fv f hf hfz A B ka kb la lb e14 hm o5 o6h hne) ?_
  rintro _ h5 ⟨e5,v,b,hb,o65,ow,h6b⟩
  obtain⟨va',vn',vk',rfl,hvn⟩:=Z7 ow
  refine go ?_
  refine WO.stC0 (cs:=[.slice va' vn' vk']) o65 e5 ?_
  intro h6 e6 o66 u6
  refine go ?_
  refine rt (vs:=[.slice va' vn' vk',I 0]) ?_ (Res.consB sl_ o66 rfl (Res.cons sl_ Res.nil))
  exact⟨⟨_,rfl,b,hb,OwnR.upd ow (fun k k1 k2=>u6.2 k k2 fun e=>by have:=h6b k e;omega) u6.1⟩,e6⟩
 ·rw[if_neg hc]at hE hL
  rw[hE,hL]
  refine go ?_
  refine WO.stC0 (cs:=[.slice none 0 0]) o6h e14 ?_
  intro h6 e6 o66 u6
  refine go ?_
  refine rt (vs:=[.slice none 0 0,I 8]) ?_ (Res.consB sl_ o66 rfl (Res.cons sl_ Res.nil))
  exact⟨⟨_,rfl,MineW.nil⟩,e6⟩
theorem bit_or:Bitw (fun a b=>a|||b) (fun a b=>a||b):=⟨rfl,fun a b ha hb=>⟨(u_or ha hb).2,fun i=>Nat.testBit_or ..⟩⟩
theorem bit_not:Bitw zCO (fun a b=>a&& !b):=⟨rfl,fun a b ha hb=>(u_notN ha hb).2⟩
noncomputable def body42:ACode:=(.seq (.region [⟨some 4,none,(.mov (.const (.slice none 0 0)))⟩,⟨some 5,none,(.mov (.const (.int .i64 0)))⟩]) (.seq (.region [⟨some 6,none,(.mov (.tmp 0))⟩,⟨some 7,none,(.mov (.tmp 1))⟩,⟨some 8,none,(.call (.func 52) [(.tmp 6),(.tmp 7),(.func 53)])⟩,⟨some 9,none,(.extract (.tmp 8) 0)⟩,⟨some 10,none,(.extract (.tmp 8) 1)⟩,⟨some 4,none,(.mov (.tmp 9))⟩,⟨some 5,none,(.mov (.tmp 10))⟩]) .ret))
set_option maxRecDepth 100000 in
theorem tab42:tb.code 42=some ⟨11,[(4,none),(5,none)],body42⟩:=by kernel_rfl
theorem or_ok (h:AHeap) (va vb:Value) (A B:List LWd) (ka:SlW h va A) (kb:SlW h vb B) (la:A.length≤1000) (lb:B.length≤1000) (hm:h.mark≤h.n):
  WC Tryd.prog tb 42 [va,vb] h fun r h'=>(∃ v,r= .tuple #[v,I (zCi A B)]∧MineW h h' v (zEO (fun a b=>a|||b) A B))∧Ext h h':=by
 refine WC.of (zF 42) tab42 ?_;simp only[zO,Nat.zero_add,Nat.reduceAdd]
 refine go ?_
 refine WO.con (zIO h va vb (.func (.func 53) #[] #[]) (fun a b=>a|||b) (fun h a b ha hb=>WV.func (or1_ok h a b ha hb)) (fun x y hx hy=>(bit_or.bit x y hx hy).1) rfl A B ka kb la lb hm) ?_
 rintro _ h1 ⟨⟨v,rfl,m⟩,e1⟩
 refine go ?_
 refine rt ?_
 exact⟨⟨v,rfl,m⟩,e1⟩
noncomputable def body47:ACode:=(.seq (.region [⟨some 4,none,(.mov (.const (.slice none 0 0)))⟩,⟨some 5,none,(.mov (.const (.int .i64 0)))⟩]) (.seq (.region [⟨some 6,none,(.mov (.tmp 0))⟩,⟨some 7,none,(.mov (.tmp 1))⟩,⟨some 8,none,(.call (.func 52) [(.tmp 6),(.tmp 7),(.func 59)])⟩,⟨some 9,none,(.extract (.tmp 8) 0)⟩,⟨some 10,none,(.extract (.tmp 8) 1)⟩,⟨some 4,none,(.mov (.tmp 9))⟩,⟨some 5,none,(.mov (.tmp 10))⟩]) .ret))
set_option maxRecDepth 100000 in
theorem tab47:tb.code 47=some ⟨11,[(4,none),(5,none)],body47⟩:=by kernel_rfl
theorem minus_ok (h:AHeap) (va vb:Value) (A B:List LWd) (ka:SlW h va A) (kb:SlW h vb B) (la:A.length≤1000) (lb:B.length≤1000) (hm:h.mark≤h.n):
  WC Tryd.prog tb 47 [va,vb] h fun r h'=>(∃ v,r= .tuple #[v,I (zCi A B)]∧MineW h h' v (zEO zCO A B))∧Ext h h':=by
 refine WC.of (zF 47) tab47 ?_;simp only[zO,Nat.zero_add,Nat.reduceAdd]
 refine go ?_
 refine WO.con (zIO h va vb (.func (.func 59) #[] #[]) zCO (fun h a b ha hb=>WV.func (zIu h a b ha hb)) (fun x y hx hy=>(bit_not.bit x y hx hy).1) rfl A B ka kb la lb hm) ?_
 rintro _ h1 ⟨⟨v,rfl,m⟩,e1⟩
 refine go ?_
 refine rt ?_
 exact⟨⟨v,rfl,m⟩,e1⟩
end Go.Proofs.YtemggiegiejopaaDoor
namespace Go.Proofs.YtemggiegiejopaaDoor
open Go.Am
set_option linter.unusedVariables false
set_option linter.unusedSimpArgs false
set_option maxHeartbeats 1000000
theorem w_ext {a b:LWd} (h1:a.pos=b.pos) (h2:a.bits=b.bits):a=b:=by cases a;cases b;cases h1;cases h2;rfl
theorem lw_ext {A B:List LWd} (hl:A.length=B.length) (h:∀ i,i<A.length→A.getD i default=B.getD i default):A=B:=by
 refine List.ext_getElem hl fun i h1 h2=> ?_
 have:=h i h1
 rwa [List.getD_eq_getElem?_getD,List.getD_eq_getElem?_getD,List.getElem?_eq_getElem h1,List.getElem?_eq_getElem h2]at this
theorem eq_wd (x y:LWd):YG [I x.pos,W x.bits] [I y.pos,W y.bits]=decide (x=y):=by
 by_cases h:x=y
 ·subst h;simp[YG,zCc,I]
 ·rw[decide_eq_false h]
  cases hb:YG [I x.pos,W x.bits] [I y.pos,W y.bits]with
  |false=>rfl
  |true=>
   exfalso
   simp[YG,zCc,I]at hb
   exact h (w_ext hb.1 (by omega))
noncomputable def body54_0:ACode:=(.seq (.region [⟨some 14,none,(.bin .lss (.tmp 13) (.tmp 12))⟩]) (.seq (.cond (.tmp 14) .skip (.exit 0)) (.seq (.block 1 (.seq (.region [⟨some 15,none,(.mov (.tmp 13))⟩,⟨some 5,none,(.mov (.tmp 15))⟩]) (.seq (.regionC [(⟨some 16,none,(.mov (.tmp 0))⟩,[]),(⟨some 17,none,(.mov (.tmp 5))⟩,[]),(⟨some 18,none,(.idx 2 (.tmp 16) (.tmp 17))⟩,[]),(⟨some 19,none,(.load true 2 (.tmp 18))⟩,[]),(⟨some 20,none,(.mov (.tmp 1))⟩,[]),(⟨some 21,none,(.mov (.tmp 5))⟩,[]),(⟨some 22,none,(.idx 2 (.tmp 20) (.tmp 21))⟩,[]),(⟨some 23,none,(.load true 2 (.tmp 22))⟩,[]),(⟨some 24,none,(.binP .neq 91 (.tmp 19) (.tmp 23))⟩,[])]) (.cond (.tmp 24) (.seq (.region [⟨some 4,none,(.mov (.const (.bool false)))⟩]) .ret) .skip)))) (.region [⟨some 25,none,(.bin .add (.tmp 13) (.const (.int .i64 1)))⟩,⟨some 13,none,(.mov (.tmp 25))⟩]))))
noncomputable def body54:ACode:=(.seq (.region [⟨some 4,none,(.mov (.const (.bool false)))⟩]) (.seq (.seq (.region [⟨some 6,none,(.mov (.tmp 0))⟩,⟨some 7,none,(.len (.tmp 6))⟩,⟨some 8,none,(.mov (.tmp 1))⟩,⟨some 9,none,(.len (.tmp 8))⟩,⟨some 10,none,(.bin .neq (.tmp 7) (.tmp 9))⟩]) (.cond (.tmp 10) (.seq (.region [⟨some 4,none,(.mov (.const (.bool false)))⟩]) .ret) .skip)) (.seq (.seq (.region [⟨some 11,none,(.mov (.tmp 0))⟩,⟨some 12,none,(.len (.tmp 11))⟩,⟨some 13,none,(.mov (.const (.int .i64 0)))⟩]) (.block 0 (.loop body54_0))) (.seq (.region [⟨some 4,none,(.mov (.const (.bool true)))⟩]) .ret))))
set_option maxRecDepth 100000 in
theorem tab54:tb.code 54=some ⟨26,[(4,none)],body54⟩:=by kernel_rfl
theorem equal_ok (h:AHeap) (va vb:Value) (A B:List LWd) (ka:SlW h va A) (kb:SlW h vb B) (la:(A.length:Int)≤1000000000):WC Tryd.prog tb 54 [va,vb] h fun r h'=>r= .bool (decide (A=B))∧h=h':=by
 refine WC.of (zF 54) tab54 ?_;simp only[zO,Nat.zero_add,Nat.reduceAdd]
 by_cases hl:A.length=B.length
 case neg=>
  refine go ?_
  refine rt ?_
  exact⟨by rw[decide_eq_false (fun e=>hl (by rw[e]))];rfl,rfl⟩
 refine go ?_
 refine WX.loopA [14,15,5,16,17,18,19,20,21,22,23,24,4,25,13] (by kernel_rfl) (fun i=>A.length - i) (fun i t h1=>h=h1∧zC t 13=I i∧i≤A.length∧Hid (∀ j,j<i→A.getD j default=B.getD j default)) 0 ?_ ?_
 ·exact⟨rfl,sl_,Nat.zero_le _,⟨fun j hj=>absurd hj (Nat.not_lt_zero _)⟩⟩
 rintro i t _ hsame ⟨rfl,s13,hi,hI⟩
 refine go ?_
 refine WX.br (fun hb=> ?_) (fun hb=> ?_)<;>simp only[DB]at hb
 ·obtain⟨ca,⟨rfl,x1,x2,x3⟩,pca,hsa⟩:=zCg ka (show i<A.length by omega)
  obtain⟨cb,⟨rfl,y1,y2,y3⟩,pcb,hsb⟩:=zCg kb (show i<B.length by omega)
  refine go ?_
  refine WO.bp (ne_chk (xs:=#[I (A.getD i default).pos,W (A.getD i default).bits]) (ys:=#[I (B.getD i default).pos,W (B.getD i default).bits]) (b:=decide (A.getD i default=B.getD i default)) (by kernel_rfl) (eq_wd _ _)) ?_
  refine go ?_
  repeat' (first|(refine WX.br (fun hb=> ?_) (fun hb=> ?_)<;>(try simp only[DB]at hb)<;>refine go ?_)|(refine WO.sp (fun hb=> ?_) (fun hb=> ?_)<;>(try simp only[DB]at hb)<;>refine go ?_))
  ·refine rt ?_
   refine⟨?_,rfl⟩
   rw[decide_eq_false (fun e=>by subst e;exact hb rfl)];rfl
  ·refine zA (i+1) (by omega) ⟨rfl,sln,by omega,⟨fun j hj=> ?_⟩⟩
   by_cases e:j=i
   ·subst e;exact hb
   ·exact hI.out j (by omega)
 ·refine go ?_
  refine rt ?_
  exact⟨by rw[decide_eq_true (lw_ext hl fun j hj=>hI.out j (by omega))];rfl,rfl⟩
noncomputable def body44:ACode:=(.seq (.region [⟨some 4,none,(.mov (.const (.bool false)))⟩]) (.seq (.region [⟨some 5,none,(.mov (.tmp 0))⟩,⟨some 6,none,(.mov (.tmp 1))⟩,⟨some 7,none,(.call (.func 54) [(.tmp 5),(.tmp 6)])⟩,⟨some 4,none,(.mov (.tmp 7))⟩]) .ret))
set_option maxRecDepth 100000 in
theorem tab44:tb.code 44=some ⟨8,[(4,none)],body44⟩:=by kernel_rfl
theorem same_ok (h:AHeap) (va vb:Value) (A B:List LWd) (ka:SlW h va A) (kb:SlW h vb B) (la:(A.length:Int)≤1000000000):WC Tryd.prog tb 44 [va,vb] h fun r h'=>r= .bool (decide (A=B))∧h=h':=by
 refine WC.of (zF 44) tab44 ?_;simp only[zO,Nat.zero_add,Nat.reduceAdd]
 refine go ?_
 refine WO.con (equal_ok h va vb A B ka kb la) ?_
 rintro _ _ ⟨rfl,rfl⟩
 refine go ?_
 refine rt ?_
 exact⟨rfl,rfl⟩
end Go.Proofs.YtemggiegiejopaaDoor
