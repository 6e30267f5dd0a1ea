/- What functions of the program come to in the abstract machine, and plain laws about it; no statement of the seat is proved in this text. -/
import Derived.Test.YtdcgdfbblnljjaaGreatDoorJb
import Derived.Test.YtdcgdfbblnljjaaGreatDoorJa
import Derived.Test.YtdcgdfbblnljjaaGreatDoorAmD
import Derived.Test.YtdcgdfbblnljjaaGreatDoorAmU
namespace Go.Proofs.YtdcgdfbblnljjaaGreatDoor
open Go.Am
set_option linter.unusedVariables false
set_option linter.unusedSimpArgs false
set_option maxHeartbeats 400000
set_option maxRecDepth 100000 in
theorem len8_all:∀ i:Nat,i<256→(match (⟨#[0,1,2,2,3,3,3,3,4,4,4,4,4,4,4,4,5,5,5,5,5,5,5,5,5,5,5,5,5,5,5,5,6,6,6,6,6,6,6,6,6,6,6,6,6,6,6,6,6,6,6,6,6,6,6,6,6,6,6,6,6,6,6,6,7,7,7,7,7,7,7,7,7,7,7,7,7,7,7,7,7,7,7,7,7,7,7,7,7,7,7,7,7,7,7,7,7,7,7,7,7,7,7,7,7,7,7,7,7,7,7,7,7,7,7,7,7,7,7,7,7,7,7,7,7,7,7,7,8,8,8,8,8,8,8,8,8,8,8,8,8,8,8,8,8,8,8,8,8,8,8,8,8,8,8,8,8,8,8,8,8,8,8,8,8,8,8,8,8,8,8,8,8,8,8,8,8,8,8,8,8,8,8,8,8,8,8,8,8,8,8,8,8,8,8,8,8,8,8,8,8,8,8,8,8,8,8,8,8,8,8,8,8,8,8,8,8,8,8,8,8,8,8,8,8,8,8,8,8,8,8,8,8,8,8,8,8,8,8,8,8,8,8,8,8,8,8,8,8,8,8,8,8,8,8,8]⟩:ByteArray)[i]? with|some b=>Nat.ble b.toNat 8&&(Nat.beq i 0||Nat.ble (2 ^ b.toNat) (2 * i))|none=>false)=true:=by decide+kernel
theorem len8_at {i:Nat} (h:i<256):∃ b:UInt8,(⟨#[0,1,2,2,3,3,3,3,4,4,4,4,4,4,4,4,5,5,5,5,5,5,5,5,5,5,5,5,5,5,5,5,6,6,6,6,6,6,6,6,6,6,6,6,6,6,6,6,6,6,6,6,6,6,6,6,6,6,6,6,6,6,6,6,7,7,7,7,7,7,7,7,7,7,7,7,7,7,7,7,7,7,7,7,7,7,7,7,7,7,7,7,7,7,7,7,7,7,7,7,7,7,7,7,7,7,7,7,7,7,7,7,7,7,7,7,7,7,7,7,7,7,7,7,7,7,7,7,8,8,8,8,8,8,8,8,8,8,8,8,8,8,8,8,8,8,8,8,8,8,8,8,8,8,8,8,8,8,8,8,8,8,8,8,8,8,8,8,8,8,8,8,8,8,8,8,8,8,8,8,8,8,8,8,8,8,8,8,8,8,8,8,8,8,8,8,8,8,8,8,8,8,8,8,8,8,8,8,8,8,8,8,8,8,8,8,8,8,8,8,8,8,8,8,8,8,8,8,8,8,8,8,8,8,8,8,8,8,8,8,8,8,8,8,8,8,8,8,8,8,8,8,8,8,8,8]⟩:ByteArray)[i]?=some b∧b.toNat≤8∧(i≠0→2 ^ b.toNat≤2 * i):=by
 have:=len8_all i h
 split at this
 ·rename_i b hb
  rw[Bool.and_eq_true,Bool.or_eq_true]at this
  refine⟨b,hb,Nat.le_of_ble_eq_true this.1,fun hi=> ?_⟩
  rcases this.2 with h2|h2
  ·exact absurd (Nat.eq_of_beq_eq_true h2) hi
  ·exact Nat.le_of_ble_eq_true h2
 ·cases this
noncomputable def body103:ACode:=(.seq (.region [⟨some 2,none,(.mov (.const (.int .i64 0)))⟩]) (.seq (.seq (.region [⟨some 3,none,(.mov (.tmp 0))⟩,⟨some 4,none,(.bin .geq (.tmp 3) (.const (.int .u64 4294967296)))⟩]) (.cond (.tmp 4) (.seq (.region [⟨some 5,none,(.mov (.tmp 0))⟩,⟨some 6,none,(.bin .shr (.tmp 5) (.const (.int .u64 32)))⟩,⟨some 0,none,(.mov (.tmp 6))⟩]) (.region [⟨some 2,none,(.mov (.const (.int .i64 32)))⟩])) .skip)) (.seq (.seq (.region [⟨some 7,none,(.mov (.tmp 0))⟩,⟨some 8,none,(.bin .geq (.tmp 7) (.const (.int .u64 65536)))⟩]) (.cond (.tmp 8) (.seq (.region [⟨some 9,none,(.mov (.tmp 0))⟩,⟨some 10,none,(.bin .shr (.tmp 9) (.const (.int .u64 16)))⟩,⟨some 0,none,(.mov (.tmp 10))⟩]) (.region [⟨some 11,none,(.mov (.tmp 2))⟩,⟨some 12,none,(.bin .add (.tmp 11) (.const (.int .i64 16)))⟩,⟨some 2,none,(.mov (.tmp 12))⟩])) .skip)) (.seq (.seq (.region [⟨some 13,none,(.mov (.tmp 0))⟩,⟨some 14,none,(.bin .geq (.tmp 13) (.const (.int .u64 256)))⟩]) (.cond (.tmp 14) (.seq (.region [⟨some 15,none,(.mov (.tmp 0))⟩,⟨some 16,none,(.bin .shr (.tmp 15) (.const (.int .u64 8)))⟩,⟨some 0,none,(.mov (.tmp 16))⟩]) (.region [⟨some 17,none,(.mov (.tmp 2))⟩,⟨some 18,none,(.bin .add (.tmp 17) (.const (.int .i64 8)))⟩,⟨some 2,none,(.mov (.tmp 18))⟩])) .skip)) (.seq (.region [⟨some 19,none,(.mov (.tmp 2))⟩,⟨some 20,none,(.mov (.tmp 0))⟩,⟨some 21,none,(.conv .u8 (.tmp 20))⟩,⟨some 22,none,(.elemStr (.const (.string ⟨#[0,1,2,2,3,3,3,3,4,4,4,4,4,4,4,4,5,5,5,5,5,5,5,5,5,5,5,5,5,5,5,5,6,6,6,6,6,6,6,6,6,6,6,6,6,6,6,6,6,6,6,6,6,6,6,6,6,6,6,6,6,6,6,6,7,7,7,7,7,7,7,7,7,7,7,7,7,7,7,7,7,7,7,7,7,7,7,7,7,7,7,7,7,7,7,7,7,7,7,7,7,7,7,7,7,7,7,7,7,7,7,7,7,7,7,7,7,7,7,7,7,7,7,7,7,7,7,7,8,8,8,8,8,8,8,8,8,8,8,8,8,8,8,8,8,8,8,8,8,8,8,8,8,8,8,8,8,8,8,8,8,8,8,8,8,8,8,8,8,8,8,8,8,8,8,8,8,8,8,8,8,8,8,8,8,8,8,8,8,8,8,8,8,8,8,8,8,8,8,8,8,8,8,8,8,8,8,8,8,8,8,8,8,8,8,8,8,8,8,8,8,8,8,8,8,8,8,8,8,8,8,8,8,8,8,8,8,8,8,8,8,8,8,8,8,8,8,8,8,8,8,8,8,8,8,8]⟩)) (.tmp 21))⟩,⟨some 23,none,(.conv .i64 (.tmp 22))⟩,⟨some 24,none,(.bin .add (.tmp 19) (.tmp 23))⟩,⟨some 2,none,(.mov (.tmp 24))⟩]) .ret)))))
set_option maxRecDepth 100000 in
theorem tab103:tb.code 103=some ⟨25,[(2,none)],body103⟩:=by kernel_rfl
theorem len64_ok (h:AHeap) (n:Int) (h0:0≤n) (h1:n≤2000000000):
  WC Tryz.prog tb 103 [.int .u64 n] h fun r h'=>(∃ k:Nat,r=I k∧k≤40∧(n≠0→2 ^ k≤2 * n))∧h=h':=by
 refine WC.of (zG 103) tab103 ?_;simp only[zN,Nat.zero_add,Nat.reduceAdd]
 refine go ?_
 refine WX.cutA [9,10,0,11,12,2] (by kernel_rfl) (fun t h'=>h=h'∧∃ (m:Int) (k:Nat),zB t 0= .int .u64 m∧zB t 2=I k∧(0≤m∧m≤65535∧k≤16)∧(n≠0→m≠0)∧(n≠0→∀ j:Nat,2 ^ j≤2 * m→2 ^ (k+j)≤2 * n)) ?_ ?_
 ·refine WX.br (fun hb=> ?_) (fun hb=> ?_)<;>simp only[DB]at hb<;>refine go ?_
  ·refine WO.bin (vx:= .int .u64 n) (vy:= .int .u64 16) yD rfl (shr16 h0) ?_
   refine go ?_
   refine zI ⟨rfl,n / 65536,16,sl_,sl_,by omega,by omega,fun _ j hj=> ?_⟩
   rw[Int.pow_add]
   have e:(2:Int) ^ 16=65536:=rfl
   rw[e]
   generalize (2:Int) ^ j=z at hj ⊢
   omega
  ·exact zI ⟨rfl,n,0,sl_,sl_,by omega,id,fun _ j hj=>by rw[Nat.zero_add];exact hj⟩
 rintro t1 _ hs1 ⟨rfl,m,k,s0,s2,hm,hz,hj⟩
 refine go ?_
 refine WX.cutA [15,16,0,17,18,2] (by kernel_rfl) (fun t h'=>h=h'∧∃ (m:Int) (k:Nat),zB t 0= .int .u64 m∧zB t 2=I k∧(0≤m∧m≤255∧k≤24)∧(n≠0→m≠0)∧(n≠0→∀ j:Nat,2 ^ j≤2 * m→2 ^ (k+j)≤2 * n)) ?_ ?_
 ·refine WX.br (fun hb=> ?_) (fun hb=> ?_)<;>simp only[DB]at hb<;>refine go ?_
  ·refine WO.bin (vx:= .int .u64 m) (vy:= .int .u64 8) yD rfl (shr8 hm.1) ?_
   refine go ?_
   refine zI ⟨rfl,m / 256,k+8,sl_,sl_,by omega,by omega,fun hn j hj2=> ?_⟩
   have:=hj hn (8+j) (by
    rw[Int.pow_add]
    have e:(2:Int) ^ 8=256:=rfl
    rw[e]
    generalize (2:Int) ^ j=z at hj2 ⊢
    omega)
   rw[Nat.add_assoc];exact this
  ·exact zI ⟨rfl,m,k,sl_,sl_,by omega,hz,hj⟩
 clear hj hz hm s0 s2
 rintro t2 _ hs2 ⟨rfl,m,k,s0,s2,hm,hz,hj⟩
 obtain⟨b,hb1,hb2,hb3⟩:=len8_at (i:=m.toNat) (by omega)
 refine go ?_
 have e2:asN (.int .u8 m)=some m.toNat:=by
  obtain⟨q,rfl⟩:∃ q:Nat,m=q:=⟨m.toNat,by omega⟩
  rfl
 rw[wrapU8 (by omega) (by omega)]
 refine WO.eStr hb1 e2 ?_
 refine go ?_
 refine rt ?_
 refine⟨⟨k+b.toNat,by simp[one],by omega,fun hn=>hj hn _ ?_⟩,rfl⟩
 have:=hb3 (by have:=hz hn;omega)
 have h2:((2 ^ b.toNat:Nat):Int)≤((2 * m.toNat:Nat):Int):=by exact_mod_cast this
 rw[Int.natCast_pow]at h2
 have h3:((2 * m.toNat:Nat):Int)=2 * m:=by omega
 rw[h3]at h2
 exact h2
noncomputable def body79:ACode:=(.seq (.region [⟨some 2,none,(.mov (.const (.int .i64 0)))⟩]) (.seq (.cond (.const (.bool false)) (.seq (.region [⟨some 3,none,(.mov (.tmp 0))⟩,⟨some 4,none,(.conv .u32 (.tmp 3))⟩,⟨some 5,none,(.call (.func 102) [(.tmp 4)])⟩,⟨some 2,none,(.mov (.tmp 5))⟩]) .ret) .skip) (.seq (.region [⟨some 6,none,(.mov (.tmp 0))⟩,⟨some 7,none,(.call (.func 103) [(.tmp 6)])⟩,⟨some 2,none,(.mov (.tmp 7))⟩]) .ret)))
set_option maxRecDepth 100000 in
theorem tab79:tb.code 79=some ⟨8,[(2,none)],body79⟩:=by kernel_rfl
theorem len_ok (h:AHeap) (n:Int) (h0:0≤n) (h1:n≤2000000000):
  WC Tryz.prog tb 79 [.int .u64 n] h fun r h'=>(∃ k:Nat,r=I k∧k≤40∧(n≠0→2 ^ k≤2 * n))∧h=h':=by
 refine WC.of (zG 79) tab79 ?_;simp only[zN,Nat.zero_add,Nat.reduceAdd]
 refine go ?_
 refine WO.con (len64_ok h n h0 h1) ?_
 rintro _ _ ⟨⟨k,rfl,hk⟩,rfl⟩
 refine go ?_
 refine rt ?_
 exact⟨⟨k,rfl,hk⟩,rfl⟩
noncomputable def body125:ACode:=(.seq (.region [⟨some 2,none,(.mov (.const (.int .u64 0)))⟩]) (.seq (.region [⟨some 3,none,(.mov (.tmp 0))⟩,⟨some 4,none,(.conv .u64 (.tmp 3))⟩,⟨some 5,none,(.call (.func 79) [(.tmp 4)])⟩,⟨some 6,none,(.bin .shl (.const (.int .u64 1)) (.tmp 5))⟩,⟨some 2,none,(.mov (.tmp 6))⟩]) .ret))
set_option maxRecDepth 100000 in
theorem tab125:tb.code 125=some ⟨7,[(2,none)],body125⟩:=by kernel_rfl
theorem power_ok (h:AHeap) (n:Int) (h0:1≤n) (h1:n≤2000000000):
  WC Tryz.prog tb 125 [I n] h fun r h'=>(∃ m:Int,r= .int .u64 m∧1≤m∧m≤2 * n)∧h=h':=by
 refine WC.of (zG 125) tab125 ?_;simp only[zN,Nat.zero_add,Nat.reduceAdd]
 refine go ?_
 rw[zBR (by omega) (by omega)]
 refine WO.con (len_ok h n (by omega) h1) ?_
 rintro _ _ ⟨⟨k,rfl,hk,hk2⟩,rfl⟩
 have hk3:=hk2 (by omega)
 have hpos:(0:Int)<2 ^ k:=Int.pow_pos (by decide)
 refine go ?_
 refine WO.bin (vx:= .int .u64 1) (vy:=I k) (v:= .int .u64 (2 ^ k)) rfl yD (by
  simp only[yl,IntKind.bits]
  rw[if_neg (by omega),Int.toNat_natCast,Nat.min_eq_left (by omega),Int.one_mul,zBR (by omega) (by omega)]) ?_
 refine go ?_
 refine rt ?_
 exact⟨⟨_,rfl,by omega,hk3⟩,rfl⟩
noncomputable def body126:ACode:=(.seq (.region [⟨some 2,none,(.mov (.const (.int .u64 0)))⟩]) (.seq (.regionC [(⟨some 3,none,(.mov (.tmp 0))⟩,[]),(⟨some 4,none,(.nilCheck (.tmp 3))⟩,[]),(⟨some 5,none,(.load false 1 (.tmp 4))⟩,[]),(⟨some 6,none,(.mov (.tmp 0))⟩,[]),(⟨some 7,none,(.nilCheck (.tmp 6))⟩,[]),(⟨some 8,none,(.load false 1 (.tmp 7))⟩,[]),(⟨some 9,none,(.bin .shl (.tmp 8) (.const (.int .u64 13)))⟩,[]),(⟨some 10,none,(.bin .xor (.tmp 5) (.tmp 9))⟩,[]),(⟨some 11,none,(.nilCheck (.tmp 3))⟩,[]),(⟨none,none,(.store 1 (.tmp 11) (.tmp 10))⟩,[])]) (.seq (.regionC [(⟨some 12,none,(.mov (.tmp 0))⟩,[]),(⟨some 13,none,(.nilCheck (.tmp 12))⟩,[]),(⟨some 14,none,(.load false 1 (.tmp 13))⟩,[]),(⟨some 15,none,(.mov (.tmp 0))⟩,[]),(⟨some 16,none,(.nilCheck (.tmp 15))⟩,[]),(⟨some 17,none,(.load false 1 (.tmp 16))⟩,[]),(⟨some 18,none,(.bin .shr (.tmp 17) (.const (.int .u64 7)))⟩,[]),(⟨some 19,none,(.bin .xor (.tmp 14) (.tmp 18))⟩,[]),(⟨some 20,none,(.nilCheck (.tmp 12))⟩,[]),(⟨none,none,(.store 1 (.tmp 20) (.tmp 19))⟩,[])]) (.seq (.regionC [(⟨some 21,none,(.mov (.tmp 0))⟩,[]),(⟨some 22,none,(.nilCheck (.tmp 21))⟩,[]),(⟨some 23,none,(.load false 1 (.tmp 22))⟩,[]),(⟨some 24,none,(.mov (.tmp 0))⟩,[]),(⟨some 25,none,(.nilCheck (.tmp 24))⟩,[]),(⟨some 26,none,(.load false 1 (.tmp 25))⟩,[]),(⟨some 27,none,(.bin .shl (.tmp 26) (.const (.int .u64 17)))⟩,[]),(⟨some 28,none,(.bin .xor (.tmp 23) (.tmp 27))⟩,[]),(⟨some 29,none,(.nilCheck (.tmp 21))⟩,[]),(⟨none,none,(.store 1 (.tmp 29) (.tmp 28))⟩,[])]) (.seq (.region [⟨some 30,none,(.mov (.tmp 0))⟩,⟨some 31,none,(.nilCheck (.tmp 30))⟩,⟨some 32,none,(.load false 1 (.tmp 31))⟩,⟨some 2,none,(.mov (.tmp 32))⟩]) .ret)))))
set_option maxRecDepth 100000 in
theorem tab126:tb.code 126=some ⟨33,[(2,none)],body126⟩:=by kernel_rfl
theorem next_rnd (h0 h:AHeap) (p:Value) (n:Int) (e0:Ext h0 h) (hm:h0.mark≤h0.n) (o:OwnC h0 h p [.int .u64 n]):
  WC Tryz.prog tb 126 [p] h fun r h'=>(∃ m:Int,r= .int .u64 m∧OwnC h0 h' p [.int .u64 m])∧Ext h0 h'∧UpdC p h h':=by
 obtain⟨g,rfl⟩:∃ g,p= .pointer (some ⟨g,0,none⟩):=let ⟨g,_,_,e,_⟩:=o;⟨g,e⟩
 have shl:∀ (a:Int) (b:Int),0≤b→∃ r,yl .shl (.int .u64 a) (.int .u64 b)=some (.int .u64 r):=fun a b hb=>⟨_,by simp only[yl];rw[if_neg (by omega)]⟩
 have shr:∀ (a:Int) (b:Int),0≤b→∃ r,yl .shr (.int .u64 a) (.int .u64 b)=some (.int .u64 r):=fun a b hb=>⟨_,by simp only[yl];rw[if_neg (by omega)]⟩
 have xor:∀ (a b:Int),∃ r,yl .xor (.int .u64 a) (.int .u64 b)=some (.int .u64 r):=fun a b=>⟨_,by simp only[yl,if_true];rfl⟩
 refine WC.of (zG 126) tab126 ?_;simp only[zN,Nat.zero_add,Nat.reduceAdd]
 refine go ?_
 refine WX.regionU2 0 rfl rfl ?_
 have oX:OwnC h0 (inC (zF 0 h)) (.pointer (some ⟨g,0,none⟩)) [.int .u64 n]:=o
 refine goU ?_
 obtain⟨r1,hr1⟩:=shl n 13 (by decide)
 refine WO.bin yD rfl hr1 ?_
 refine WO.nil ?_
 refine yo ?_
 refine goU ?_
 obtain⟨x1,hx1⟩:=xor n r1
 refine WO.bin yD yD hx1 ?_
 refine WO.nil ?_
 refine yo ?_
 refine goU ?_
 refine WU2.stN [.int .u64 x1] o e0 (by rw[e0.mark];exact hm) ?_
 intro h1 e1 o1 u1
 refine go ?_
 refine WX.regionU2 0 rfl rfl ?_
 have oX1:OwnC h0 (inC (zF 0 h1)) (.pointer (some ⟨g,0,none⟩)) [.int .u64 x1]:=o1
 refine goU ?_
 obtain⟨r2,hr2⟩:=shr x1 7 (by decide)
 refine WO.bin yD rfl hr2 ?_
 refine WO.nil ?_
 refine yo ?_
 refine goU ?_
 obtain⟨x2,hx2⟩:=xor x1 r2
 refine WO.bin yD yD hx2 ?_
 refine WO.nil ?_
 refine yo ?_
 refine goU ?_
 refine WU2.stN [.int .u64 x2] o1 e1 (by rw[e1.mark];exact hm) ?_
 intro h2 e2 o2 u2
 refine go ?_
 refine WX.regionU2 0 rfl rfl ?_
 have oX2:OwnC h0 (inC (zF 0 h2)) (.pointer (some ⟨g,0,none⟩)) [.int .u64 x2]:=o2
 refine goU ?_
 obtain⟨r3,hr3⟩:=shl x2 17 (by decide)
 refine WO.bin yD rfl hr3 ?_
 refine WO.nil ?_
 refine yo ?_
 refine goU ?_
 obtain⟨x3,hx3⟩:=xor x2 r3
 refine WO.bin yD yD hx3 ?_
 refine WO.nil ?_
 refine yo ?_
 refine goU ?_
 refine WU2.stN [.int .u64 x3] o2 e2 (by rw[e2.mark];exact hm) ?_
 intro h3 e3 o3 u3
 refine go ?_
 refine rt ?_
 exact⟨⟨x3,rfl,o3⟩,e3,(u1.trans u2).trans u3⟩
noncomputable def body134:ACode:=(.seq (.region [⟨some 8,none,(.mov (.const (.int .i64 0)))⟩,⟨some 9,none,(.mov (.const (.int .i64 0)))⟩]) (.seq (.seq (.regionC [(⟨some 10,none,(.mov (.tmp 0))⟩,[]),(⟨some 11,none,(.mov (.tmp 2))⟩,[]),(⟨some 12,none,(.idx 1 (.tmp 10) (.tmp 11))⟩,[]),(⟨some 13,none,(.load false 1 (.tmp 12))⟩,[]),(⟨some 14,none,(.mov (.tmp 0))⟩,[]),(⟨some 15,none,(.mov (.tmp 1))⟩,[]),(⟨some 16,none,(.idx 1 (.tmp 14) (.tmp 15))⟩,[]),(⟨some 17,none,(.load false 1 (.tmp 16))⟩,[]),(⟨some 18,none,(.call (.func 99) [(.tmp 13),(.tmp 17)])⟩,[])]) (.cond (.tmp 18) (.seq (.region [⟨some 19,none,(.mov (.tmp 3))⟩,⟨some 20,none,(.nilCheck (.tmp 19))⟩,⟨some 21,none,(.load false 1 (.tmp 20))⟩,⟨some 22,none,(.bin .add (.tmp 21) (.const (.int .i64 1)))⟩,⟨some 23,none,(.nilCheck (.tmp 19))⟩,⟨none,none,(.store 1 (.tmp 23) (.tmp 22))⟩]) (.seq (.region [⟨some 24,none,(.mov (.tmp 2))⟩,⟨some 25,none,(.mov (.tmp 1))⟩,⟨some 8,none,(.mov (.tmp 24))⟩,⟨some 9,none,(.mov (.tmp 25))⟩]) .ret)) .skip)) (.seq (.region [⟨some 26,none,(.mov (.tmp 1))⟩,⟨some 27,none,(.mov (.tmp 2))⟩,⟨some 8,none,(.mov (.tmp 26))⟩,⟨some 9,none,(.mov (.tmp 27))⟩]) .ret)))
set_option maxRecDepth 100000 in
theorem tab134:tb.code 134=some ⟨28,[(8,none),(9,none)],body134⟩:=by kernel_rfl
theorem zBS (h0 h:AHeap) (v p:Value) (xs:List Int) (a b n:Int) (e0:Ext h0 h) (s:SlI h0 v xs) (o:OwnC h0 h p [I n]) (hn:0≤n∧n≤1000) (ha:0≤a∧a<xs.length) (hb:0≤b∧b<xs.length):
  WC Tryz.prog tb 134 [v,I a,I b,p] h fun r h'=>(∃ c d m:Int,r= .tuple #[I c,I d]∧((c=a∧d=b)∨(c=b∧d=a))∧(0≤m∧m≤n+1)∧OwnC h0 h' p [I m])∧Ext h0 h':=by
 obtain⟨g,rfl⟩:∃ g,p= .pointer (some ⟨g,0,none⟩):=let ⟨g,_,_,e,_⟩:=o;⟨g,e⟩
 refine WC.of (zG 134) tab134 ?_;simp only[zN,Nat.zero_add,Nat.reduceAdd]
 refine go ?_
 refine WX.regionU2 0 rfl rfl ?_
 have srX:SlI (inC (zF 0 h)) v xs:=by have:=s.ext e0;exact this
 refine goU ?_
 refine WO.con (yy _ (atI xs b) (atI xs a)) ?_
 rintro _ _ ⟨rfl,rfl⟩
 refine WO.nil ?_
 refine yo ?_
 refine goU ?_
 rw[YY]
 refine WX.br (fun he=> ?_) (fun he=> ?_)<;>simp only[DB]at he<;>refine go ?_
 ·refine WO.stC0 o e0 ?_
  intro h1 e1 o1 _
  refine go ?_
  refine rt ?_
  exact⟨⟨b,a,n+1,rfl,.inr ⟨rfl,rfl⟩,by omega,o1⟩,e1⟩
 ·refine rt ?_
  exact⟨⟨a,b,n,rfl,.inl ⟨rfl,rfl⟩,by omega,o⟩,e0⟩
noncomputable def body128:ACode:=(.seq (.region [⟨some 10,none,(.mov (.const (.int .i64 0)))⟩]) (.seq (.region [⟨some 12,none,(.mov (.tmp 0))⟩,⟨some 13,none,(.mov (.tmp 1))⟩,⟨some 14,none,(.mov (.tmp 2))⟩,⟨some 15,none,(.mov (.tmp 4))⟩,⟨some 16,none,(.call (.func 134) [(.tmp 12),(.tmp 13),(.tmp 14),(.tmp 15)])⟩,⟨some 11,none,(.mov (.tmp 16))⟩,⟨some 17,none,(.extract (.tmp 11) 0)⟩,⟨some 18,none,(.extract (.tmp 11) 1)⟩,⟨some 1,none,(.mov (.tmp 17))⟩,⟨some 2,none,(.mov (.tmp 18))⟩]) (.seq (.region [⟨some 20,none,(.mov (.tmp 0))⟩,⟨some 21,none,(.mov (.tmp 2))⟩,⟨some 22,none,(.mov (.tmp 3))⟩,⟨some 23,none,(.mov (.tmp 4))⟩,⟨some 24,none,(.call (.func 134) [(.tmp 20),(.tmp 21),(.tmp 22),(.tmp 23)])⟩,⟨some 19,none,(.mov (.tmp 24))⟩,⟨some 25,none,(.extract (.tmp 19) 0)⟩,⟨some 26,none,(.extract (.tmp 19) 1)⟩,⟨some 2,none,(.mov (.tmp 25))⟩,⟨some 3,none,(.mov (.tmp 26))⟩]) (.seq (.region [⟨some 28,none,(.mov (.tmp 0))⟩,⟨some 29,none,(.mov (.tmp 1))⟩,⟨some 30,none,(.mov (.tmp 2))⟩,⟨some 31,none,(.mov (.tmp 4))⟩,⟨some 32,none,(.call (.func 134) [(.tmp 28),(.tmp 29),(.tmp 30),(.tmp 31)])⟩,⟨some 27,none,(.mov (.tmp 32))⟩,⟨some 33,none,(.extract (.tmp 27) 0)⟩,⟨some 34,none,(.extract (.tmp 27) 1)⟩,⟨some 1,none,(.mov (.tmp 33))⟩,⟨some 2,none,(.mov (.tmp 34))⟩]) (.seq (.region [⟨some 35,none,(.mov (.tmp 2))⟩,⟨some 10,none,(.mov (.tmp 35))⟩]) .ret)))))
set_option maxRecDepth 100000 in
theorem tab128:tb.code 128=some ⟨36,[(10,none)],body128⟩:=by kernel_rfl
theorem zDj (h0 h:AHeap) (v p:Value) (xs:List Int) (a b c n:Int) (e0:Ext h0 h) (s:SlI h0 v xs) (o:OwnC h0 h p [I n]) (hn:0≤n∧n≤900) (ha:0≤a∧a<xs.length) (hb:0≤b∧b<xs.length) (hc:0≤c∧c<xs.length):
  WC Tryz.prog tb 128 [v,I a,I b,I c,p] h fun r h'=>(∃ d m:Int,r=I d∧(d=a∨d=b∨d=c)∧(0≤m∧m≤n+3)∧OwnC h0 h' p [I m])∧Ext h0 h':=by
 refine WC.of (zG 128) tab128 ?_;simp only[zN,Nat.zero_add,Nat.reduceAdd]
 refine go ?_
 refine WO.con (zBS h0 h v p xs a b n e0 s o (by omega) ha hb) ?_
 rintro _ h1 ⟨⟨a1,b1,n1,rfl,q1,m1,o1⟩,e1⟩
 refine go ?_
 refine WO.con (zBS h0 h1 v p xs b1 c n1 e1 s o1 (by omega) (by omega) hc) ?_
 rintro _ h2 ⟨⟨b2,c2,n2,rfl,q2,m2,o2⟩,e2⟩
 refine go ?_
 refine WO.con (zBS h0 h2 v p xs a1 b2 n2 e2 s o2 (by omega) (by omega) (by omega)) ?_
 rintro _ h3 ⟨⟨a3,b3,n3,rfl,q3,m3,o3⟩,e3⟩
 refine go ?_
 refine rt ?_
 exact⟨⟨b3,n3,rfl,by omega,by omega,o3⟩,e3⟩
noncomputable def body127:ACode:=(.seq (.region [⟨some 6,none,(.mov (.const (.int .i64 0)))⟩]) (.seq (.region [⟨some 7,none,(.mov (.tmp 0))⟩,⟨some 8,none,(.mov (.tmp 1))⟩,⟨some 9,none,(.bin .sub (.tmp 8) (.const (.int .i64 1)))⟩,⟨some 10,none,(.mov (.tmp 1))⟩,⟨some 11,none,(.mov (.tmp 1))⟩,⟨some 12,none,(.bin .add (.tmp 11) (.const (.int .i64 1)))⟩,⟨some 13,none,(.mov (.tmp 2))⟩,⟨some 14,none,(.call (.func 128) [(.tmp 7),(.tmp 9),(.tmp 10),(.tmp 12),(.tmp 13)])⟩,⟨some 6,none,(.mov (.tmp 14))⟩]) .ret))
set_option maxRecDepth 100000 in
theorem tab127:tb.code 127=some ⟨15,[(6,none)],body127⟩:=by kernel_rfl
theorem Yq (h0 h:AHeap) (v p:Value) (xs:List Int) (a n:Int) (e0:Ext h0 h) (s:SlI h0 v xs) (o:OwnC h0 h p [I n]) (hn:0≤n∧n≤900) (ha:1≤a∧a+1<xs.length) (hl:xs.length≤1000000000):
  WC Tryz.prog tb 127 [v,I a,p] h fun r h'=>(∃ d m:Int,r=I d∧(a - 1≤d∧d≤a+1)∧(0≤m∧m≤n+3)∧OwnC h0 h' p [I m])∧Ext h0 h':=by
 refine WC.of (zG 127) tab127 ?_;simp only[zN,Nat.zero_add,Nat.reduceAdd]
 refine go ?_
 refine WO.con (zDj h0 h v p xs (a - 1) a (a+1) n e0 s o hn (by omega) (by omega) (by omega)) ?_
 rintro _ h1 ⟨⟨d,m,rfl,q1,m1,o1⟩,e1⟩
 refine go ?_
 refine rt ?_
 exact⟨⟨d,m,rfl,by omega,m1,o1⟩,e1⟩
noncomputable def body96:ACode:=(.seq (.region [⟨some 6,none,(.mov (.const (.int .i64 0)))⟩,⟨some 7,none,(.mov (.const (.int .i64 0)))⟩]) (.seq (.region [⟨some 13,none,(.mov (.tmp 2))⟩,⟨some 14,none,(.mov (.tmp 1))⟩,⟨some 15,none,(.bin .sub (.tmp 13) (.tmp 14))⟩,⟨some 8,none,(.mov (.tmp 15))⟩]) (.seq (.region [⟨some 9,none,(.alloc [(.int .i64 0)])⟩]) (.seq (.region [⟨some 16,none,(.mov (.tmp 1))⟩,⟨some 17,none,(.mov (.tmp 8))⟩,⟨some 18,none,(.bin .quo (.tmp 17) (.const (.int .i64 4)))⟩,⟨some 19,none,(.bin .mul (.tmp 18) (.const (.int .i64 1)))⟩,⟨some 20,none,(.bin .add (.tmp 16) (.tmp 19))⟩,⟨some 10,none,(.mov (.tmp 20))⟩]) (.seq (.region [⟨some 21,none,(.mov (.tmp 1))⟩,⟨some 22,none,(.mov (.tmp 8))⟩,⟨some 23,none,(.bin .quo (.tmp 22) (.const (.int .i64 4)))⟩,⟨some 24,none,(.bin .mul (.tmp 23) (.const (.int .i64 2)))⟩,⟨some 25,none,(.bin .add (.tmp 21) (.tmp 24))⟩,⟨some 11,none,(.mov (.tmp 25))⟩]) (.seq (.region [⟨some 26,none,(.mov (.tmp 1))⟩,⟨some 27,none,(.mov (.tmp 8))⟩,⟨some 28,none,(.bin .quo (.tmp 27) (.const (.int .i64 4)))⟩,⟨some 29,none,(.bin .mul (.tmp 28) (.const (.int .i64 3)))⟩,⟨some 30,none,(.bin .add (.tmp 26) (.tmp 29))⟩,⟨some 12,none,(.mov (.tmp 30))⟩]) (.seq (.seq (.region [⟨some 31,none,(.mov (.tmp 8))⟩,⟨some 32,none,(.bin .geq (.tmp 31) (.const (.int .i64 8)))⟩]) (.cond (.tmp 32) (.seq (.seq (.region [⟨some 33,none,(.mov (.tmp 8))⟩,⟨some 34,none,(.bin .geq (.tmp 33) (.const (.int .i64 50)))⟩]) (.cond (.tmp 34) (.seq (.region [⟨some 35,none,(.mov (.tmp 0))⟩,⟨some 36,none,(.mov (.tmp 10))⟩,⟨some 37,none,(.call (.func 127) [(.tmp 35),(.tmp 36),(.tmp 9)])⟩,⟨some 10,none,(.mov (.tmp 37))⟩]) (.seq (.region [⟨some 38,none,(.mov (.tmp 0))⟩,⟨some 39,none,(.mov (.tmp 11))⟩,⟨some 40,none,(.call (.func 127) [(.tmp 38),(.tmp 39),(.tmp 9)])⟩,⟨some 11,none,(.mov (.tmp 40))⟩]) (.region [⟨some 41,none,(.mov (.tmp 0))⟩,⟨some 42,none,(.mov (.tmp 12))⟩,⟨some 43,none,(.call (.func 127) [(.tmp 41),(.tmp 42),(.tmp 9)])⟩,⟨some 12,none,(.mov (.tmp 43))⟩]))) .skip)) (.region [⟨some 44,none,(.mov (.tmp 0))⟩,⟨some 45,none,(.mov (.tmp 10))⟩,⟨some 46,none,(.mov (.tmp 11))⟩,⟨some 47,none,(.mov (.tmp 12))⟩,⟨some 48,none,(.call (.func 128) [(.tmp 44),(.tmp 45),(.tmp 46),(.tmp 47),(.tmp 9)])⟩,⟨some 11,none,(.mov (.tmp 48))⟩])) .skip)) (.seq (.region [⟨some 49,none,(.load false 1 (.tmp 9))⟩]) (.block 0 (.seq (.region [⟨some 52,none,(.bin .eql (.tmp 49) (.const (.int .i64 0)))⟩,⟨some 51,none,(.mov (.tmp 52))⟩]) (.cond (.tmp 51) (.seq (.region [⟨some 53,none,(.mov (.tmp 11))⟩,⟨some 6,none,(.mov (.tmp 53))⟩,⟨some 7,none,(.mov (.const (.int .i64 1)))⟩]) .ret) (.seq (.region [⟨some 55,none,(.bin .eql (.tmp 49) (.const (.int .i64 12)))⟩,⟨some 54,none,(.mov (.tmp 55))⟩]) (.cond (.tmp 54) (.seq (.region [⟨some 56,none,(.mov (.tmp 11))⟩,⟨some 6,none,(.mov (.tmp 56))⟩,⟨some 7,none,(.mov (.const (.int .i64 2)))⟩]) .ret) (.seq (.region [⟨some 50,none,(.mov (.tmp 11))⟩,⟨some 6,none,(.mov (.tmp 50))⟩,⟨some 7,none,(.mov (.const (.int .i64 0)))⟩]) .ret))))))))))))))
set_option maxRecDepth 100000 in
theorem tab96:tb.code 96=some ⟨57,[(6,none),(7,none)],body96⟩:=by kernel_rfl
theorem pivot_ok (h:AHeap) (v:Value) (xs:List Int) (a b:Int) (s:SlI h v xs) (h0:0≤a) (hab:a+12<b) (hb:b≤xs.length) (hlen:xs.length≤1000000000):
  WC Tryz.prog tb 96 [v,I a,I b] h fun r h'=>(∃ d hint:Int,r= .tuple #[I d,I hint]∧(a≤d∧d<b))∧Ext h h':=by
 have e4:(b - a).tdiv 4=(b - a) / 4:=Int.tdiv_eq_ediv_of_nonneg (by omega)
 refine WC.of (zG 96) tab96 ?_;simp only[zN,Nat.zero_add,Nat.reduceAdd]
 refine go ?_
 refine WO.al ?_
 intro p h1 e1 o1
 refine go ?_
 refine WO.quo (a:=b - a) (c:=4) (by decide) (by omega) (by omega) ?_
 rw[e4]
 refine go ?_
 refine WO.quo (a:=b - a) (c:=4) (by decide) (by omega) (by omega) ?_
 rw[e4]
 refine go ?_
 refine WO.quo (a:=b - a) (c:=4) (by decide) (by omega) (by omega) ?_
 rw[e4]
 refine go ?_
 refine WX.cutA [35,36,37,10,38,39,40,11,41,42,43,12] (by kernel_rfl) (fun t h'=>Ext h h'∧∃ i j k n:Int,zB t 10=I i∧zB t 11=I j∧zB t 12=I k∧(a≤i∧i<b)∧(a≤j∧j<b)∧(a≤k∧k<b)∧(0≤n∧n≤9)∧OwnC h h' p [I n]) ?_ ?_
 ·refine WX.br (fun he=> ?_) (fun he=> ?_)<;>simp only[DB]at he<;>refine go ?_
  ·refine WO.con (Yq h h1 v p xs (a+(b - a) / 4 * 1) 0 e1 s o1 (by omega) (by omega) hlen) ?_
   rintro _ h2 ⟨⟨i,n1,rfl,q1,m1,o2⟩,e2⟩
   refine go ?_
   refine WO.con (Yq h h2 v p xs (a+(b - a) / 4 * 2) n1 e2 s o2 (by omega) (by omega) hlen) ?_
   rintro _ h3 ⟨⟨j,n2,rfl,q2,m2,o3⟩,e3⟩
   refine go ?_
   refine WO.con (Yq h h3 v p xs (a+(b - a) / 4 * 3) n2 e3 s o3 (by omega) (by omega) hlen) ?_
   rintro _ h4 ⟨⟨k,n3,rfl,q3,m3,o4⟩,e4⟩
   refine go ?_
   exact zI ⟨e4,i,j,k,n3,sl_,sl_,sl_,by omega,by omega,by omega,by omega,o4⟩
  ·exact zI ⟨e1,a+(b - a) / 4 * 1,a+(b - a) / 4 * 2,a+(b - a) / 4 * 3,0,sl_,sl_,sl_,by omega,by omega,by omega,by omega,o1⟩
 rintro t5 h5 hs5 ⟨e5,i,j,k,n,s10,s11,s12,hi,hj,hk,hn,o5⟩
 refine go ?_
 refine WO.con (zDj h h5 v p xs i j k n e5 s o5 (by omega) (by omega) (by omega) (by omega)) ?_
 rintro _ h6 ⟨⟨d,m,rfl,q6,m6,o6⟩,e6⟩
 obtain⟨g,rfl⟩:∃ g,p= .pointer (some ⟨g,0,none⟩):=let ⟨g,_,_,e,_⟩:=o6;⟨g,e⟩
 refine go ?_
 refine WX.br (fun he=> ?_) (fun he=> ?_)<;>simp only[DB]at he<;>refine go ?_
 ·refine rt ?_
  exact⟨⟨_,_,rfl,by omega⟩,e6⟩
 refine WX.br (fun he=> ?_) (fun he=> ?_)<;>simp only[DB]at he<;>refine go ?_<;>refine rt ?_
 ·exact⟨⟨_,_,rfl,by omega⟩,e6⟩
 ·exact⟨⟨_,_,rfl,by omega⟩,e6⟩
noncomputable def body95_0:ACode:=(.seq (.seq (.region [⟨some 26,none,(.mov (.tmp 9))⟩,⟨some 27,none,(.mov (.tmp 1))⟩,⟨some 28,none,(.mov (.tmp 6))⟩,⟨some 29,none,(.bin .quo (.tmp 28) (.const (.int .i64 4)))⟩,⟨some 30,none,(.bin .mul (.tmp 29) (.const (.int .i64 2)))⟩,⟨some 31,none,(.bin .add (.tmp 27) (.tmp 30))⟩,⟨some 32,none,(.bin .add (.tmp 31) (.const (.int .i64 1)))⟩,⟨some 33,none,(.bin .leq (.tmp 26) (.tmp 32))⟩]) (.cond (.tmp 33) .skip (.exit 0))) (.seq (.block 1 (.seq (.region [⟨some 36,none,(.call (.func 126) [(.tmp 7)])⟩,⟨some 37,none,(.mov (.tmp 8))⟩,⟨some 38,none,(.bin .sub (.tmp 37) (.const (.int .u64 1)))⟩,⟨some 39,none,(.bin .and (.tmp 36) (.tmp 38))⟩,⟨some 40,none,(.conv .i64 (.tmp 39))⟩,⟨some 10,none,(.mov (.tmp 40))⟩]) (.seq (.seq (.region [⟨some 41,none,(.mov (.tmp 10))⟩,⟨some 42,none,(.mov (.tmp 6))⟩,⟨some 43,none,(.bin .geq (.tmp 41) (.tmp 42))⟩]) (.cond (.tmp 43) (.region [⟨some 44,none,(.mov (.tmp 10))⟩,⟨some 45,none,(.mov (.tmp 6))⟩,⟨some 46,none,(.bin .sub (.tmp 44) (.tmp 45))⟩,⟨some 10,none,(.mov (.tmp 46))⟩]) .skip)) (.regionC [(⟨some 47,none,(.mov (.tmp 0))⟩,[]),(⟨some 48,none,(.mov (.tmp 9))⟩,[]),(⟨some 49,none,(.mov (.tmp 0))⟩,[]),(⟨some 50,none,(.mov (.tmp 1))⟩,[]),(⟨some 51,none,(.mov (.tmp 10))⟩,[]),(⟨some 52,none,(.bin .add (.tmp 50) (.tmp 51))⟩,[]),(⟨some 53,none,(.mov (.tmp 0))⟩,[]),(⟨some 54,none,(.mov (.tmp 1))⟩,[]),(⟨some 55,none,(.mov (.tmp 10))⟩,[]),(⟨some 56,none,(.bin .add (.tmp 54) (.tmp 55))⟩,[]),(⟨some 57,none,(.idx 1 (.tmp 53) (.tmp 56))⟩,[]),(⟨some 58,none,(.load false 1 (.tmp 57))⟩,[]),(⟨some 59,none,(.mov (.tmp 0))⟩,[]),(⟨some 60,none,(.mov (.tmp 9))⟩,[]),(⟨some 61,none,(.idx 1 (.tmp 59) (.tmp 60))⟩,[]),(⟨some 62,none,(.load false 1 (.tmp 61))⟩,[]),(⟨some 63,none,(.idx 1 (.tmp 47) (.tmp 48))⟩,[]),(⟨none,none,(.store 1 (.tmp 63) (.tmp 58))⟩,[]),(⟨some 64,none,(.idx 1 (.tmp 49) (.tmp 52))⟩,[]),(⟨none,none,(.store 1 (.tmp 64) (.tmp 62))⟩,[])])))) (.region [⟨some 34,none,(.mov (.tmp 9))⟩,⟨some 35,none,(.bin .add (.tmp 34) (.const (.int .i64 1)))⟩,⟨some 9,none,(.mov (.tmp 35))⟩])))
noncomputable def body95:ACode:=(.seq (.region [⟨some 11,none,(.mov (.tmp 2))⟩,⟨some 12,none,(.mov (.tmp 1))⟩,⟨some 13,none,(.bin .sub (.tmp 11) (.tmp 12))⟩,⟨some 6,none,(.mov (.tmp 13))⟩]) (.seq (.region [⟨some 14,none,(.mov (.tmp 6))⟩,⟨some 15,none,(.bin .geq (.tmp 14) (.const (.int .i64 8)))⟩]) (.cond (.tmp 15) (.seq (.region [⟨some 16,none,(.mov (.tmp 6))⟩,⟨some 17,none,(.conv .u64 (.tmp 16))⟩,⟨some 7,none,(.alloc [(.int .u64 0)])⟩,⟨none,none,(.store 1 (.tmp 7) (.tmp 17))⟩]) (.seq (.region [⟨some 18,none,(.mov (.tmp 6))⟩,⟨some 19,none,(.call (.func 125) [(.tmp 18)])⟩,⟨some 8,none,(.mov (.tmp 19))⟩]) (.seq (.region [⟨some 20,none,(.mov (.tmp 1))⟩,⟨some 21,none,(.mov (.tmp 6))⟩,⟨some 22,none,(.bin .quo (.tmp 21) (.const (.int .i64 4)))⟩,⟨some 23,none,(.bin .mul (.tmp 22) (.const (.int .i64 2)))⟩,⟨some 24,none,(.bin .add (.tmp 20) (.tmp 23))⟩,⟨some 25,none,(.bin .sub (.tmp 24) (.const (.int .i64 1)))⟩,⟨some 9,none,(.mov (.tmp 25))⟩]) (.block 0 (.loop body95_0))))) .skip)))
set_option maxRecDepth 100000 in
theorem tab95:tb.code 95=some ⟨65,[],body95⟩:=by kernel_rfl
theorem break_ok (hB h:AHeap) (v:Value) (xs:List Int) (a b:Int) (e0:Ext hB h) (hmB:hB.mark≤hB.n) (o:OwnI hB h v xs) (h0:0≤a) (hab:a+12<b) (hb:b≤xs.length) (hlen:xs.length≤1000000000):
  WC Tryz.prog tb 95 [v,I a,I b] h fun r h'=>∃ ys,SS hB h v a b xs ys h':=by
 have e4:(b - a).tdiv 4=(b - a) / 4:=Int.tdiv_eq_ediv_of_nonneg (by omega)
 have s0:=SS.start a b o e0
 refine WC.of (zG 95) tab95 ?_;simp only[zN,Nat.zero_add,Nat.reduceAdd]
 refine go ?_
 refine WO.al ?_
 intro p h1 e1 o1
 have s1:=s0.extd e1
 obtain⟨g,hg,rfl⟩:∃ g,h.n≤g∧p= .pointer (some ⟨g,0,none⟩):=let ⟨g,hg,_,e,_⟩:=o1;⟨g,hg,e⟩
 have o1:=o1.since e0
 refine go ?_
 refine WO.stC0 o1 s1.ext ?_
 intro h2 e2 o2 u2
 have s2:=s1.updC o hg e2 u2
 refine go ?_
 refine WO.con (power_ok h2 (b - a) (by omega) (by omega)) ?_
 rintro _ _ ⟨⟨m,rfl,hm1,hm2⟩,rfl⟩
 refine go ?_
 refine WO.quo (a:=b - a) (c:=4) (by decide) (by omega) (by omega) ?_
 rw[e4]
 refine go ?_
 refine WX.loopA [26,27,28,29,30,31,32,33,36,37,38,39,40,10,41,42,43,44,45,46,10,47,48,49,50,51,52,53,54,55,56,57,58,59,60,61,62,63,64,34,35,9] (by kernel_rfl) (fun x=>(b - x.2.1).toNat) (fun (x:List Int×Int×Int) t h4=>SS hB h v a b xs x.1 h4∧zB t 9=I x.2.1∧(a≤x.2.1∧x.2.1<b)∧OwnC hB h4 (.pointer (some ⟨g,0,none⟩)) [.int .u64 x.2.2]) (xs,a+(b - a) / 4 * 2 - 1,IntKind.u64.wrap (b - a)) ?_ ?_
 ·exact⟨s2,sl_,by simp only;omega,o2⟩
 rintro⟨ys,i,x⟩ t h4 hsame ⟨s4,s9,hi,o4⟩
 simp only at s4 s9 hi o4
 have hl4:=s4.len
 refine go ?_
 refine WO.quo (a:=b - a) (c:=4) (by decide) (by omega) (by omega) ?_
 rw[e4]
 refine go ?_
 refine WX.br (fun he=> ?_) (fun he=> ?_)<;>simp only[DB]at he<;>refine go ?_
 ·refine WO.con (next_rnd hB h4 _ x s4.ext hmB o4) ?_
  rintro _ h5 ⟨⟨y,rfl,o5⟩,e5,u5⟩
  have s5:=s4.updC o hg e5 u5
  refine go ?_
  refine WO.bin (vy:= .int .u64 1) (v:= .int .u64 (m - 1)) yD rfl (by simp only[yl,if_true];rw[zBR (by omega) (by omega)]) ?_
  refine go ?_
  obtain⟨r,hr,hr0,hr1⟩:=and_u64 y (m:=m - 1) (by omega)
  refine WO.bin yD yD hr ?_
  refine go ?_
  refine WX.cutA [44,45,46,10] (by kernel_rfl) (fun t h'=>h5=h'∧∃ k:Int,zB t 10=I k∧0≤k∧k<b - a) ?_ ?_
  ·refine WX.br (fun hf=> ?_) (fun hf=> ?_)<;>simp only[DB]at hf<;>refine go ?_
   ·exact zI ⟨rfl,_,sl_,by omega,by omega⟩
   ·exact zI ⟨rfl,_,sl_,by omega,by omega⟩
  rintro t6 _ hs6 ⟨rfl,k,s10,hk0,hk1⟩
  refine go ?_
  refine WX.regionU2 0 rfl rfl ?_
  have srX:SlI (inC (zF 0 h5)) v ys:=(s5.own).sl
  refine goU ?_
  refine WU2.swA (i) (a+k) (s5).own (s5).ext (by rw[(s5).ext.mark];exact hmB) ?_
  intro h7 e7 o7 u7
  have s7:=s5.swp e7 o7 u7 h0 hb (by omega) (by omega)
  have o7':=o5.updV o hg u7
  refine go ?_
  exact zA (swp ys i (a+k),i+1,y) (by simp only;omega) ⟨s7,sl_,by simp only;omega,o7'⟩
 ·refine rtN ?_
  exact⟨ys,s4⟩
end Go.Proofs.YtdcgdfbblnljjaaGreatDoor
namespace Go.Proofs.YtdcgdfbblnljjaaGreatDoor
open Go.Am
set_option linter.unusedVariables false
set_option linter.unusedSimpArgs false
set_option maxHeartbeats 1000000
theorem srt_swp {a b i j:Int} {zs:List Int} (h0:0≤a) (hi:b≤i∧i<zs.length) (hj:b≤j∧j<zs.length) (s:Srt a b zs):Srt a b (swp zs i j):=fun p q h1 h2 h3=>by
 rw[yK (by omega) (by omega) (by omega),yK (by omega) (by omega) (by omega),if_neg (by omega),if_neg (by omega),if_neg (by omega),if_neg (by omega)]
 exact s p q h1 h2 h3
noncomputable def body98_0:ACode:=(.seq (.seq (.regionC [(⟨some 17,none,(.mov (.tmp 7))⟩,[]),(⟨some 18,none,(.mov (.tmp 2))⟩,[]),(⟨some 19,none,(.bin .lss (.tmp 17) (.tmp 18))⟩,[]),(⟨some 20,none,(.mov (.tmp 19))⟩,[]),(⟨some 21,some (20,true),(.mov (.tmp 0))⟩,[]),(⟨some 22,some (20,true),(.mov (.tmp 7))⟩,[]),(⟨some 23,some (20,true),(.idx 1 (.tmp 21) (.tmp 22))⟩,[]),(⟨some 24,some (20,true),(.load false 1 (.tmp 23))⟩,[]),(⟨some 25,some (20,true),(.mov (.tmp 0))⟩,[]),(⟨some 26,some (20,true),(.mov (.tmp 7))⟩,[]),(⟨some 27,some (20,true),(.bin .sub (.tmp 26) (.const (.int .i64 1)))⟩,[]),(⟨some 28,some (20,true),(.idx 1 (.tmp 25) (.tmp 27))⟩,[]),(⟨some 29,some (20,true),(.load false 1 (.tmp 28))⟩,[]),(⟨some 30,some (20,true),(.call (.func 99) [(.tmp 24),(.tmp 29)])⟩,[]),(⟨some 31,some (20,true),(.un .not (.tmp 30))⟩,[]),(⟨some 32,none,(.pick (.tmp 20) (.tmp 31) (.const (.bool false)))⟩,[])]) (.cond (.tmp 32) .skip (.exit 2))) (.block 3 (.region [⟨some 33,none,(.mov (.tmp 7))⟩,⟨some 34,none,(.bin .add (.tmp 33) (.const (.int .i64 1)))⟩,⟨some 7,none,(.mov (.tmp 34))⟩])))
noncomputable def body98_1:ACode:=(.seq (.seq (.region [⟨some 64,none,(.mov (.tmp 9))⟩,⟨some 65,none,(.bin .geq (.tmp 64) (.const (.int .i64 1)))⟩]) (.cond (.tmp 65) .skip (.exit 4))) (.seq (.block 5 (.seq (.seq (.regionC [(⟨some 68,none,(.mov (.tmp 0))⟩,[]),(⟨some 69,none,(.mov (.tmp 9))⟩,[]),(⟨some 70,none,(.idx 1 (.tmp 68) (.tmp 69))⟩,[]),(⟨some 71,none,(.load false 1 (.tmp 70))⟩,[]),(⟨some 72,none,(.mov (.tmp 0))⟩,[]),(⟨some 73,none,(.mov (.tmp 9))⟩,[]),(⟨some 74,none,(.bin .sub (.tmp 73) (.const (.int .i64 1)))⟩,[]),(⟨some 75,none,(.idx 1 (.tmp 72) (.tmp 74))⟩,[]),(⟨some 76,none,(.load false 1 (.tmp 75))⟩,[]),(⟨some 77,none,(.call (.func 99) [(.tmp 71),(.tmp 76)])⟩,[]),(⟨some 78,none,(.un .not (.tmp 77))⟩,[])]) (.cond (.tmp 78) (.exit 4) .skip)) (.regionC [(⟨some 79,none,(.mov (.tmp 0))⟩,[]),(⟨some 80,none,(.mov (.tmp 9))⟩,[]),(⟨some 81,none,(.mov (.tmp 0))⟩,[]),(⟨some 82,none,(.mov (.tmp 9))⟩,[]),(⟨some 83,none,(.bin .sub (.tmp 82) (.const (.int .i64 1)))⟩,[]),(⟨some 84,none,(.mov (.tmp 0))⟩,[]),(⟨some 85,none,(.mov (.tmp 9))⟩,[]),(⟨some 86,none,(.bin .sub (.tmp 85) (.const (.int .i64 1)))⟩,[]),(⟨some 87,none,(.idx 1 (.tmp 84) (.tmp 86))⟩,[]),(⟨some 88,none,(.load false 1 (.tmp 87))⟩,[]),(⟨some 89,none,(.mov (.tmp 0))⟩,[]),(⟨some 90,none,(.mov (.tmp 9))⟩,[]),(⟨some 91,none,(.idx 1 (.tmp 89) (.tmp 90))⟩,[]),(⟨some 92,none,(.load false 1 (.tmp 91))⟩,[]),(⟨some 93,none,(.idx 1 (.tmp 79) (.tmp 80))⟩,[]),(⟨none,none,(.store 1 (.tmp 93) (.tmp 88))⟩,[]),(⟨some 94,none,(.idx 1 (.tmp 81) (.tmp 83))⟩,[]),(⟨none,none,(.store 1 (.tmp 94) (.tmp 92))⟩,[])]))) (.region [⟨some 66,none,(.mov (.tmp 9))⟩,⟨some 67,none,(.bin .sub (.tmp 66) (.const (.int .i64 1)))⟩,⟨some 9,none,(.mov (.tmp 67))⟩])))
noncomputable def body98_2:ACode:=(.seq (.seq (.region [⟨some 101,none,(.mov (.tmp 10))⟩,⟨some 102,none,(.mov (.tmp 2))⟩,⟨some 103,none,(.bin .lss (.tmp 101) (.tmp 102))⟩]) (.cond (.tmp 103) .skip (.exit 6))) (.seq (.block 7 (.seq (.seq (.regionC [(⟨some 106,none,(.mov (.tmp 0))⟩,[]),(⟨some 107,none,(.mov (.tmp 10))⟩,[]),(⟨some 108,none,(.idx 1 (.tmp 106) (.tmp 107))⟩,[]),(⟨some 109,none,(.load false 1 (.tmp 108))⟩,[]),(⟨some 110,none,(.mov (.tmp 0))⟩,[]),(⟨some 111,none,(.mov (.tmp 10))⟩,[]),(⟨some 112,none,(.bin .sub (.tmp 111) (.const (.int .i64 1)))⟩,[]),(⟨some 113,none,(.idx 1 (.tmp 110) (.tmp 112))⟩,[]),(⟨some 114,none,(.load false 1 (.tmp 113))⟩,[]),(⟨some 115,none,(.call (.func 99) [(.tmp 109),(.tmp 114)])⟩,[]),(⟨some 116,none,(.un .not (.tmp 115))⟩,[])]) (.cond (.tmp 116) (.exit 6) .skip)) (.regionC [(⟨some 117,none,(.mov (.tmp 0))⟩,[]),(⟨some 118,none,(.mov (.tmp 10))⟩,[]),(⟨some 119,none,(.mov (.tmp 0))⟩,[]),(⟨some 120,none,(.mov (.tmp 10))⟩,[]),(⟨some 121,none,(.bin .sub (.tmp 120) (.const (.int .i64 1)))⟩,[]),(⟨some 122,none,(.mov (.tmp 0))⟩,[]),(⟨some 123,none,(.mov (.tmp 10))⟩,[]),(⟨some 124,none,(.bin .sub (.tmp 123) (.const (.int .i64 1)))⟩,[]),(⟨some 125,none,(.idx 1 (.tmp 122) (.tmp 124))⟩,[]),(⟨some 126,none,(.load false 1 (.tmp 125))⟩,[]),(⟨some 127,none,(.mov (.tmp 0))⟩,[]),(⟨some 128,none,(.mov (.tmp 10))⟩,[]),(⟨some 129,none,(.idx 1 (.tmp 127) (.tmp 128))⟩,[]),(⟨some 130,none,(.load false 1 (.tmp 129))⟩,[]),(⟨some 131,none,(.idx 1 (.tmp 117) (.tmp 118))⟩,[]),(⟨none,none,(.store 1 (.tmp 131) (.tmp 126))⟩,[]),(⟨some 132,none,(.idx 1 (.tmp 119) (.tmp 121))⟩,[]),(⟨none,none,(.store 1 (.tmp 132) (.tmp 130))⟩,[])]))) (.region [⟨some 104,none,(.mov (.tmp 10))⟩,⟨some 105,none,(.bin .add (.tmp 104) (.const (.int .i64 1)))⟩,⟨some 10,none,(.mov (.tmp 105))⟩])))
noncomputable def body98_3:ACode:=(.seq (.seq (.region [⟨some 13,none,(.mov (.tmp 8))⟩,⟨some 14,none,(.bin .lss (.tmp 13) (.const (.int .i64 5)))⟩]) (.cond (.tmp 14) .skip (.exit 0))) (.seq (.block 1 (.seq (.block 2 (.loop body98_0)) (.seq (.seq (.region [⟨some 35,none,(.mov (.tmp 7))⟩,⟨some 36,none,(.mov (.tmp 2))⟩,⟨some 37,none,(.bin .eql (.tmp 35) (.tmp 36))⟩]) (.cond (.tmp 37) (.seq (.region [⟨some 6,none,(.mov (.const (.bool true)))⟩]) .ret) .skip)) (.seq (.seq (.region [⟨some 38,none,(.mov (.tmp 2))⟩,⟨some 39,none,(.mov (.tmp 1))⟩,⟨some 40,none,(.bin .sub (.tmp 38) (.tmp 39))⟩,⟨some 41,none,(.bin .lss (.tmp 40) (.const (.int .i64 50)))⟩]) (.cond (.tmp 41) (.seq (.region [⟨some 6,none,(.mov (.const (.bool false)))⟩]) .ret) .skip)) (.seq (.regionC [(⟨some 42,none,(.mov (.tmp 0))⟩,[]),(⟨some 43,none,(.mov (.tmp 7))⟩,[]),(⟨some 44,none,(.mov (.tmp 0))⟩,[]),(⟨some 45,none,(.mov (.tmp 7))⟩,[]),(⟨some 46,none,(.bin .sub (.tmp 45) (.const (.int .i64 1)))⟩,[]),(⟨some 47,none,(.mov (.tmp 0))⟩,[]),(⟨some 48,none,(.mov (.tmp 7))⟩,[]),(⟨some 49,none,(.bin .sub (.tmp 48) (.const (.int .i64 1)))⟩,[]),(⟨some 50,none,(.idx 1 (.tmp 47) (.tmp 49))⟩,[]),(⟨some 51,none,(.load false 1 (.tmp 50))⟩,[]),(⟨some 52,none,(.mov (.tmp 0))⟩,[]),(⟨some 53,none,(.mov (.tmp 7))⟩,[]),(⟨some 54,none,(.idx 1 (.tmp 52) (.tmp 53))⟩,[]),(⟨some 55,none,(.load false 1 (.tmp 54))⟩,[]),(⟨some 56,none,(.idx 1 (.tmp 42) (.tmp 43))⟩,[]),(⟨none,none,(.store 1 (.tmp 56) (.tmp 51))⟩,[]),(⟨some 57,none,(.idx 1 (.tmp 44) (.tmp 46))⟩,[]),(⟨none,none,(.store 1 (.tmp 57) (.tmp 55))⟩,[])]) (.seq (.seq (.region [⟨some 58,none,(.mov (.tmp 7))⟩,⟨some 59,none,(.mov (.tmp 1))⟩,⟨some 60,none,(.bin .sub (.tmp 58) (.tmp 59))⟩,⟨some 61,none,(.bin .geq (.tmp 60) (.const (.int .i64 2)))⟩]) (.cond (.tmp 61) (.seq (.region [⟨some 62,none,(.mov (.tmp 7))⟩,⟨some 63,none,(.bin .sub (.tmp 62) (.const (.int .i64 1)))⟩,⟨some 9,none,(.mov (.tmp 63))⟩]) (.block 4 (.loop body98_1))) .skip)) (.seq (.region [⟨some 95,none,(.mov (.tmp 2))⟩,⟨some 96,none,(.mov (.tmp 7))⟩,⟨some 97,none,(.bin .sub (.tmp 95) (.tmp 96))⟩,⟨some 98,none,(.bin .geq (.tmp 97) (.const (.int .i64 2)))⟩]) (.cond (.tmp 98) (.seq (.region [⟨some 99,none,(.mov (.tmp 7))⟩,⟨some 100,none,(.bin .add (.tmp 99) (.const (.int .i64 1)))⟩,⟨some 10,none,(.mov (.tmp 100))⟩]) (.block 6 (.loop body98_2))) .skip)))))))) (.region [⟨some 15,none,(.mov (.tmp 8))⟩,⟨some 16,none,(.bin .add (.tmp 15) (.const (.int .i64 1)))⟩,⟨some 8,none,(.mov (.tmp 16))⟩])))
noncomputable def body98:ACode:=(.seq (.region [⟨some 6,none,(.mov (.const (.bool false)))⟩]) (.seq (.region [⟨some 11,none,(.mov (.tmp 1))⟩,⟨some 12,none,(.bin .add (.tmp 11) (.const (.int .i64 1)))⟩,⟨some 7,none,(.mov (.tmp 12))⟩]) (.seq (.seq (.region [⟨some 8,none,(.mov (.const (.int .i64 0)))⟩]) (.block 0 (.loop body98_3))) (.seq (.region [⟨some 6,none,(.mov (.const (.bool false)))⟩]) .ret))))
set_option maxRecDepth 100000 in
theorem tab98:tb.code 98=some ⟨133,[(6,none)],body98⟩:=by kernel_rfl
theorem zGA (hB h:AHeap) (v:Value) (xs:List Int) (a b:Int) (e0:Ext hB h) (hmB:hB.mark≤hB.n) (o:OwnI hB h v xs) (h0:0≤a) (hab:a<b) (hb:b≤xs.length) (hlen:xs.length≤1000000000) (hpre:0<a→∀ k,a≤k→k<b→atI xs (a - 1)≤atI xs k):
  WC Tryz.prog tb 98 [v,I a,I b] h fun r h'=>∃ ys w,r= .bool w∧SS hB h v a b xs ys h'∧(w=true→Srt a b ys):=by
 have s0:=SS.start a b o e0
 have low:Hid (∀ ys,PI a b xs ys→0<a→∀ k,a≤k→k<b→atI ys (a - 1)≤atI ys k):=Hid.mk fun ys p ha=>by
  have e1:atI ys (a - 1)=atI xs (a - 1):=p.out _ (by omega) (.inl (by omega))
  rw[e1]
  exact p.all (p:=fun x=>atI xs (a - 1)≤x) h0 hb (hpre ha)
 refine WC.of (zG 98) tab98 ?_;simp only[zN,Nat.zero_add,Nat.reduceAdd]
 refine go ?_
 refine WX.loopA [13,14,17,18,19,20,21,22,23,24,25,26,27,28,29,30,31,32,33,34,7,35,36,37,6,38,39,40,41,6,42,43,44,45,46,47,48,49,50,51,52,53,54,55,56,57,58,59,60,61,62,63,9,64,65,68,69,70,71,72,73,74,75,76,77,78,79,80,81,82,83,84,85,86,87,88,89,90,91,92,93,94,66,67,9,95,96,97,98,99,100,10,101,102,103,106,107,108,109,110,111,112,113,114,115,116,117,118,119,120,121,122,123,124,125,126,127,128,129,130,131,132,104,105,10,15,16,8] (by kernel_rfl) (fun x=>(5 - x.2.2).toNat) (fun (x:List Int×Int×Int) t h4=>SS hB h v a b xs x.1 h4∧zB t 7=I x.2.1∧zB t 8=I x.2.2∧(a+1≤x.2.1∧x.2.1≤b)∧(0≤x.2.2∧x.2.2≤5)∧Srt a x.2.1 x.1) (xs,a+1,0) ?_ ?_
 ·exact⟨s0,sl_,sl_,by simp only;omega,by simp only;omega,Srt.small (by simp only;omega)⟩
 rintro⟨ys,i,c⟩ t h4 hsame ⟨s4,s7,s8,hi,hc,hs⟩
 simp only at s4 s7 s8 hi hc hs
 have hl4:=s4.len
 refine go ?_
 refine WX.br (fun hx=> ?_) (fun hx=> ?_)<;>simp only[DB]at hx
 case refine_2=>
  refine go ?_
  refine rt ?_
  exact⟨_,_,rfl,s4,fun h=>by cases h⟩
 refine go ?_
 refine WX.loopA [17,18,19,20,21,22,23,24,25,26,27,28,29,30,31,32,33,34,7] (by kernel_rfl) (fun i=>(b - i).toNat) (fun (i:Int) t h2=>h4=h2∧zB t 7=I i∧(a+1≤i∧i≤b)∧Srt a i ys) i ?_ ?_
 ·exact⟨rfl,sl_,hi,hs⟩
 clear hs hi s7
 rintro i t _ hsame2 ⟨rfl,s7,hi,hs⟩
 refine go ?_
 refine WX.cutA [17,18,19,20,21,22,23,24,25,26,27,28,29,30,31,32] (by kernel_rfl) (fun t h'=>h4=h'∧zB t 32= .bool (decide (i<b∧¬(atI ys i<atI ys (i - 1))))) ?_ ?_
 ·refine WX.regionU2 0 rfl rfl ?_
  have srX:SlI (inC (zF 0 h4)) v ys:=(s4.own).sl
  refine goU ?_
  refine WO.sp (fun hd=> ?_) (fun hd=> ?_)<;>simp only[DB]at hd<;>refine goU ?_
  ·refine WO.con (yy _ (atI ys i) (atI ys (i - 1))) ?_
   rintro _ _ ⟨rfl,rfl⟩
   refine WO.nil ?_
   refine yo ?_
   refine goU ?_
   exact zI ⟨rfl,by rw[show decide (i<b∧¬(atI ys i<atI ys (i - 1)))= !decide (atI ys i<atI ys (i - 1)) from zBK hd];exact sl_⟩
  ·exact zI ⟨rfl,by rw[show decide (i<b∧¬(atI ys i<atI ys (i - 1)))=false from decide_eq_false (fun hh=>absurd hh.1 (by omega))];exact sl_⟩
 rintro t5 _ hs5 ⟨rfl,q5⟩
 refine go ?_
 refine WX.br (fun he=> ?_) (fun he=> ?_)<;>simp only[DB]at he
 ·refine go ?_
  refine zA (i+1) (by omega) ⟨rfl,sl_,by omega,fun p q h1 h2 h3=> ?_⟩
  by_cases e:q=i
  ·by_cases e2:p=i
   ·rw[e,e2];exact Int.le_refl _
   ·have:=hs p (i - 1) h1 (by omega) (by omega)
    rw[e];omega
  ·exact hs p q h1 h2 (by omega)
 refine go ?_
 refine WX.br (fun hf=> ?_) (fun hf=> ?_)<;>simp only[DB]at hf
 ·refine go ?_
  refine rt ?_
  subst hf
  exact⟨_,_,rfl,s4,fun _=>hs⟩
 refine go ?_
 refine WX.br (fun hg=> ?_) (fun hg=> ?_)<;>simp only[DB]at hg
 ·refine go ?_
  refine rt ?_
  exact⟨_,_,rfl,s4,fun h=>by cases h⟩
 have hlt:atI ys i<atI ys (i - 1):=Int.not_le.1 fun hh=>he ⟨by omega,hh⟩
 refine go ?_
 refine WX.regionU2 0 rfl rfl ?_
 have srX:SlI (inC (zF 0 h4)) v ys:=(s4.own).sl
 refine goU ?_
 refine WU2.swA (i) (i - 1) (s4).own (s4).ext (by rw[(s4).ext.mark];exact hmB) ?_
 intro h6 e6 o6 u6
 have s6:=s4.swp e6 o6 u6 h0 hb (by omega) (by omega)
 have hz:∀ p q,a≤p→p≤q→q<i→q≠i - 1→atI (swp ys i (i - 1)) p≤atI (swp ys i (i - 1)) q:=fun p q h1 h2 h3 h4=>by
  rw[yK (by omega) (by omega) (by omega),yK (by omega) (by omega) (by omega),if_neg (by omega),if_neg (by omega),if_neg (by omega),if_neg (by omega)]
  exact hs p q h1 h2 h3
 clear o6 e6 u6 s4 hl4 hs he hlt
 generalize swp ys i (i - 1)=zs at s6 hz
 have hl6:=s6.len
 refine go ?_
 refine WX.cutA [62,63,9,64,65,68,69,70,71,72,73,74,75,76,77,78,79,80,81,82,83,84,85,86,87,88,89,90,91,92,93,94,66,67,9] (by kernel_rfl) (fun t h'=>∃ ws,SS hB h v a b xs ws h'∧Srt a i ws) ?_ ?_
 ·refine WX.br (fun hj=> ?_) (fun hj=> ?_)<;>simp only[DB]at hj<;>refine go ?_
  ·refine WX.loopA [64,65,68,69,70,71,72,73,74,75,76,77,78,79,80,81,82,83,84,85,86,87,88,89,90,91,92,93,94,66,67,9] (by kernel_rfl) (fun x=>(x.2+1).toNat) (fun (x:List Int×Int) t h7=>SS hB h v a b xs x.1 h7∧zB t 9=I x.2∧(a≤x.2∧x.2≤i - 1)∧∀ p q,a≤p→p≤q→q<i→q≠x.2→atI x.1 p≤atI x.1 q) (zs,i - 1) ?_ ?_
   ·exact⟨s6,sl_,by simp only;omega,hz⟩
   rintro⟨ws,j⟩ t h7 hsame3 ⟨s7',s9,hj2,hw⟩
   simp only at s7' s9 hj2 hw
   have hl7:=s7'.len
   have fin:(j<1∨¬atI ws j<atI ws (j - 1))→Srt a i ws:=fun hor p q h1 h2 h3=>by
    by_cases e:q=j
    ·by_cases e2:p=j
     ·rw[e,e2];exact Int.le_refl _
     ·have:=hw p (j - 1) h1 (by omega) (by omega) (by omega)
      rw[e]
      rcases hor with hh|hh
      ·omega
      ·omega
    ·exact hw p q h1 h2 h3 e
   refine go ?_
   refine WX.br (fun hk=> ?_) (fun hk=> ?_)<;>simp only[DB]at hk
   case refine_2=>
    refine go ?_
    exact zI ⟨ws,s7',fin (.inl (by omega))⟩
   refine go ?_
   refine WX.regionU2 0 rfl rfl ?_
   have srX:SlI (inC (zF 0 h7)) v ws:=(s7'.own).sl
   refine goU ?_
   refine WO.con (yy _ (atI ws j) (atI ws (j - 1))) ?_
   rintro _ _ ⟨rfl,rfl⟩
   refine WO.nil ?_
   refine yo ?_
   refine goU ?_
   rw[YY]
   refine WX.br (fun hm=> ?_) (fun hm=> ?_)<;>simp only[DB]at hm
   ·refine go ?_
    exact zI ⟨ws,s7',fin (.inr (by omega))⟩
   have hja:a<j:=by
    by_cases e:a<j
    ·exact e
    ·have ej:j=a:=by omega
     subst ej
     have:=low.out ws s7'.pi (by omega) j (by omega) (by omega)
     omega
   refine go ?_
   refine WX.regionU2 0 rfl rfl ?_
   have srX:SlI (inC (zF 0 h7)) v ws:=(s7'.own).sl
   refine goU ?_
   refine WU2.swA (j) (j - 1) (s7').own (s7').ext (by rw[(s7').ext.mark];exact hmB) ?_
   intro h8 e8 o8 u8
   have s8':=s7'.swp e8 o8 u8 h0 hb (by omega) (by omega)
   refine go ?_
   refine zA (swp ws j (j - 1),j - 1) (by simp only;omega) ⟨s8',sl_,by simp only;omega,fun p q h1 h2 h3 h4=> ?_⟩
   exact zEp (i:=i - 1) h0 hja (by omega) (by omega) hm (fun p q h1 h2 h3 h4=>hw p q h1 h2 (by omega) h4) p q h1 h2 (by omega) h4
  ·exact zI ⟨zs,s6,Srt.small (by omega)⟩
 clear s6 hz hl6
 rintro t7 h7 hs7 ⟨zs,s6,hz⟩
 have hl6:=s6.len
 refine go ?_
 refine WX.cutA [99,100,10,101,102,103,106,107,108,109,110,111,112,113,114,115,116,117,118,119,120,121,122,123,124,125,126,127,128,129,130,131,132,104,105,10] (by kernel_rfl) (fun t h'=>∃ ws,SS hB h v a b xs ws h'∧Srt a i ws) ?_ ?_
 ·refine WX.br (fun hj=> ?_) (fun hj=> ?_)<;>simp only[DB]at hj<;>refine go ?_
  ·refine WX.loopA [101,102,103,106,107,108,109,110,111,112,113,114,115,116,117,118,119,120,121,122,123,124,125,126,127,128,129,130,131,132,104,105,10] (by kernel_rfl) (fun x=>(b - x.2).toNat) (fun (x:List Int×Int) t h7=>SS hB h v a b xs x.1 h7∧zB t 10=I x.2∧(i+1≤x.2∧x.2≤b)∧Srt a i x.1) (zs,i+1) ?_ ?_
   ·exact⟨s6,sl_,by simp only;omega,hz⟩
   rintro⟨ws,j⟩ t h7 hsame3 ⟨s7',s10,hj2,hw⟩
   simp only at s7' s10 hj2 hw
   have hl7:=s7'.len
   refine go ?_
   refine WX.br (fun hk=> ?_) (fun hk=> ?_)<;>simp only[DB]at hk
   case refine_2=>
    refine go ?_
    exact zI ⟨ws,s7',hw⟩
   refine go ?_
   refine WX.regionU2 0 rfl rfl ?_
   have srX:SlI (inC (zF 0 h7)) v ws:=(s7'.own).sl
   refine goU ?_
   refine WO.con (yy _ (atI ws j) (atI ws (j - 1))) ?_
   rintro _ _ ⟨rfl,rfl⟩
   refine WO.nil ?_
   refine yo ?_
   refine goU ?_
   rw[YY]
   refine WX.br (fun hm=> ?_) (fun hm=> ?_)<;>simp only[DB]at hm
   ·refine go ?_
    exact zI ⟨ws,s7',hw⟩
   refine go ?_
   refine WX.regionU2 0 rfl rfl ?_
   have srX:SlI (inC (zF 0 h7)) v ws:=(s7'.own).sl
   refine goU ?_
   refine WU2.swA (j) (j - 1) (s7').own (s7').ext (by rw[(s7').ext.mark];exact hmB) ?_
   intro h8 e8 o8 u8
   have s8':=s7'.swp e8 o8 u8 h0 hb (by omega) (by omega)
   refine go ?_
   exact zA (swp ws j (j - 1),j+1) (by simp only;omega) ⟨s8',sl_,by simp only;omega,srt_swp h0 (by omega) (by omega) hw⟩
  ·exact zI ⟨zs,s6,hz⟩
 clear s6 hz hl6
 rintro t8 h8 hs8 ⟨zs,s6,hz⟩
 refine go ?_
 exact zA (zs,i,c+1) (by simp only;omega) ⟨s6,sl_,sl_,hi,by simp only;omega,hz⟩
noncomputable def body78_0:ACode:=(.block 1 (.seq (.region [⟨some 19,none,(.mov (.tmp 2))⟩,⟨some 20,none,(.mov (.tmp 1))⟩,⟨some 21,none,(.bin .sub (.tmp 19) (.tmp 20))⟩,⟨some 10,none,(.mov (.tmp 21))⟩]) (.seq (.seq (.region [⟨some 22,none,(.mov (.tmp 10))⟩,⟨some 23,none,(.bin .leq (.tmp 22) (.const (.int .i64 12)))⟩]) (.cond (.tmp 23) (.seq (.region [⟨some 24,none,(.mov (.tmp 0))⟩,⟨some 25,none,(.mov (.tmp 1))⟩,⟨some 26,none,(.mov (.tmp 2))⟩,⟨some 27,none,(.call (.func 93) [(.tmp 24),(.tmp 25),(.tmp 26)])⟩]) .ret) .skip)) (.seq (.seq (.region [⟨some 28,none,(.mov (.tmp 3))⟩,⟨some 29,none,(.bin .eql (.tmp 28) (.const (.int .i64 0)))⟩]) (.cond (.tmp 29) (.seq (.region [⟨some 30,none,(.mov (.tmp 0))⟩,⟨some 31,none,(.mov (.tmp 1))⟩,⟨some 32,none,(.mov (.tmp 2))⟩,⟨some 33,none,(.call (.func 94) [(.tmp 30),(.tmp 31),(.tmp 32)])⟩]) .ret) .skip)) (.seq (.seq (.region [⟨some 34,none,(.mov (.tmp 8))⟩,⟨some 35,none,(.un .not (.tmp 34))⟩]) (.cond (.tmp 35) (.seq (.region [⟨some 36,none,(.mov (.tmp 0))⟩,⟨some 37,none,(.mov (.tmp 1))⟩,⟨some 38,none,(.mov (.tmp 2))⟩,⟨some 39,none,(.call (.func 95) [(.tmp 36),(.tmp 37),(.tmp 38)])⟩]) (.region [⟨some 40,none,(.mov (.tmp 3))⟩,⟨some 41,none,(.bin .sub (.tmp 40) (.const (.int .i64 1)))⟩,⟨some 3,none,(.mov (.tmp 41))⟩])) .skip)) (.seq (.region [⟨some 43,none,(.mov (.tmp 0))⟩,⟨some 44,none,(.mov (.tmp 1))⟩,⟨some 45,none,(.mov (.tmp 2))⟩,⟨some 46,none,(.call (.func 96) [(.tmp 43),(.tmp 44),(.tmp 45)])⟩,⟨some 42,none,(.mov (.tmp 46))⟩,⟨some 47,none,(.extract (.tmp 42) 0)⟩,⟨some 48,none,(.extract (.tmp 42) 1)⟩,⟨some 11,none,(.mov (.tmp 47))⟩,⟨some 12,none,(.mov (.tmp 48))⟩]) (.seq (.seq (.region [⟨some 49,none,(.mov (.tmp 12))⟩,⟨some 50,none,(.bin .eql (.tmp 49) (.const (.int .i64 2)))⟩]) (.cond (.tmp 50) (.seq (.region [⟨some 51,none,(.mov (.tmp 0))⟩,⟨some 52,none,(.mov (.tmp 1))⟩,⟨some 53,none,(.mov (.tmp 2))⟩,⟨some 54,none,(.call (.func 97) [(.tmp 51),(.tmp 52),(.tmp 53)])⟩]) (.seq (.region [⟨some 55,none,(.mov (.tmp 2))⟩,⟨some 56,none,(.bin .sub (.tmp 55) (.const (.int .i64 1)))⟩,⟨some 57,none,(.mov (.tmp 11))⟩,⟨some 58,none,(.mov (.tmp 1))⟩,⟨some 59,none,(.bin .sub (.tmp 57) (.tmp 58))⟩,⟨some 60,none,(.bin .sub (.tmp 56) (.tmp 59))⟩,⟨some 11,none,(.mov (.tmp 60))⟩]) (.region [⟨some 12,none,(.mov (.const (.int .i64 1)))⟩]))) .skip)) (.seq (.seq (.region [⟨some 61,none,(.mov (.tmp 8))⟩,⟨some 62,none,(.mov (.tmp 61))⟩,⟨some 63,some (62,true),(.mov (.tmp 9))⟩,⟨some 64,none,(.pick (.tmp 62) (.tmp 63) (.const (.bool false)))⟩,⟨some 65,none,(.mov (.tmp 64))⟩,⟨some 66,some (65,true),(.mov (.tmp 12))⟩,⟨some 67,some (65,true),(.bin .eql (.tmp 66) (.const (.int .i64 1)))⟩,⟨some 68,none,(.pick (.tmp 65) (.tmp 67) (.const (.bool false)))⟩]) (.cond (.tmp 68) (.seq (.region [⟨some 69,none,(.mov (.tmp 0))⟩,⟨some 70,none,(.mov (.tmp 1))⟩,⟨some 71,none,(.mov (.tmp 2))⟩,⟨some 72,none,(.call (.func 98) [(.tmp 69),(.tmp 70),(.tmp 71)])⟩]) (.cond (.tmp 72) .ret .skip)) .skip)) (.seq (.seq (.regionC [(⟨some 73,none,(.mov (.tmp 1))⟩,[]),(⟨some 74,none,(.bin .gtr (.tmp 73) (.const (.int .i64 0)))⟩,[]),(⟨some 75,none,(.mov (.tmp 74))⟩,[]),(⟨some 76,some (75,true),(.mov (.tmp 0))⟩,[]),(⟨some 77,some (75,true),(.mov (.tmp 1))⟩,[]),(⟨some 78,some (75,true),(.bin .sub (.tmp 77) (.const (.int .i64 1)))⟩,[]),(⟨some 79,some (75,true),(.idx 1 (.tmp 76) (.tmp 78))⟩,[]),(⟨some 80,some (75,true),(.load false 1 (.tmp 79))⟩,[]),(⟨some 81,some (75,true),(.mov (.tmp 0))⟩,[]),(⟨some 82,some (75,true),(.mov (.tmp 11))⟩,[]),(⟨some 83,some (75,true),(.idx 1 (.tmp 81) (.tmp 82))⟩,[]),(⟨some 84,some (75,true),(.load false 1 (.tmp 83))⟩,[]),(⟨some 85,some (75,true),(.call (.func 99) [(.tmp 80),(.tmp 84)])⟩,[]),(⟨some 86,some (75,true),(.un .not (.tmp 85))⟩,[]),(⟨some 87,none,(.pick (.tmp 75) (.tmp 86) (.const (.bool false)))⟩,[])]) (.cond (.tmp 87) (.seq (.region [⟨some 88,none,(.mov (.tmp 0))⟩,⟨some 89,none,(.mov (.tmp 1))⟩,⟨some 90,none,(.mov (.tmp 2))⟩,⟨some 91,none,(.mov (.tmp 11))⟩,⟨some 92,none,(.call (.func 100) [(.tmp 88),(.tmp 89),(.tmp 90),(.tmp 91)])⟩,⟨some 13,none,(.mov (.tmp 92))⟩]) (.seq (.region [⟨some 93,none,(.mov (.tmp 13))⟩,⟨some 1,none,(.mov (.tmp 93))⟩]) (.exit 1))) .skip)) (.seq (.region [⟨some 95,none,(.mov (.tmp 0))⟩,⟨some 96,none,(.mov (.tmp 1))⟩,⟨some 97,none,(.mov (.tmp 2))⟩,⟨some 98,none,(.mov (.tmp 11))⟩,⟨some 99,none,(.call (.func 101) [(.tmp 95),(.tmp 96),(.tmp 97),(.tmp 98)])⟩,⟨some 94,none,(.mov (.tmp 99))⟩,⟨some 100,none,(.extract (.tmp 94) 0)⟩,⟨some 101,none,(.extract (.tmp 94) 1)⟩,⟨some 14,none,(.mov (.tmp 100))⟩,⟨some 15,none,(.mov (.tmp 101))⟩]) (.seq (.region [⟨some 102,none,(.mov (.tmp 15))⟩,⟨some 9,none,(.mov (.tmp 102))⟩]) (.seq (.region [⟨some 103,none,(.mov (.tmp 14))⟩,⟨some 104,none,(.mov (.tmp 1))⟩,⟨some 105,none,(.bin .sub (.tmp 103) (.tmp 104))⟩,⟨some 106,none,(.mov (.tmp 2))⟩,⟨some 107,none,(.mov (.tmp 14))⟩,⟨some 108,none,(.bin .sub (.tmp 106) (.tmp 107))⟩,⟨some 16,none,(.mov (.tmp 105))⟩,⟨some 17,none,(.mov (.tmp 108))⟩]) (.seq (.region [⟨some 109,none,(.mov (.tmp 10))⟩,⟨some 110,none,(.bin .quo (.tmp 109) (.const (.int .i64 8)))⟩,⟨some 18,none,(.mov (.tmp 110))⟩]) (.seq (.region [⟨some 111,none,(.mov (.tmp 16))⟩,⟨some 112,none,(.mov (.tmp 17))⟩,⟨some 113,none,(.bin .lss (.tmp 111) (.tmp 112))⟩]) (.cond (.tmp 113) (.seq (.region [⟨some 114,none,(.mov (.tmp 16))⟩,⟨some 115,none,(.mov (.tmp 18))⟩,⟨some 116,none,(.bin .geq (.tmp 114) (.tmp 115))⟩,⟨some 8,none,(.mov (.tmp 116))⟩]) (.seq (.region [⟨some 117,none,(.mov (.tmp 0))⟩,⟨some 118,none,(.mov (.tmp 1))⟩,⟨some 119,none,(.mov (.tmp 14))⟩,⟨some 120,none,(.mov (.tmp 3))⟩,⟨some 121,none,(.call (.func 78) [(.tmp 117),(.tmp 118),(.tmp 119),(.tmp 120)])⟩]) (.region [⟨some 122,none,(.mov (.tmp 14))⟩,⟨some 123,none,(.bin .add (.tmp 122) (.const (.int .i64 1)))⟩,⟨some 1,none,(.mov (.tmp 123))⟩]))) (.seq (.region [⟨some 124,none,(.mov (.tmp 17))⟩,⟨some 125,none,(.mov (.tmp 18))⟩,⟨some 126,none,(.bin .geq (.tmp 124) (.tmp 125))⟩,⟨some 8,none,(.mov (.tmp 126))⟩]) (.seq (.region [⟨some 127,none,(.mov (.tmp 0))⟩,⟨some 128,none,(.mov (.tmp 14))⟩,⟨some 129,none,(.bin .add (.tmp 128) (.const (.int .i64 1)))⟩,⟨some 130,none,(.mov (.tmp 2))⟩,⟨some 131,none,(.mov (.tmp 3))⟩,⟨some 132,none,(.call (.func 78) [(.tmp 127),(.tmp 129),(.tmp 130),(.tmp 131)])⟩]) (.region [⟨some 133,none,(.mov (.tmp 14))⟩,⟨some 2,none,(.mov (.tmp 133))⟩]))))))))))))))))))
noncomputable def body78:ACode:=(.seq (.region [⟨some 8,none,(.mov (.const (.bool true)))⟩]) (.seq (.region [⟨some 9,none,(.mov (.const (.bool true)))⟩]) (.block 0 (.loop body78_0))))
set_option maxRecDepth 100000 in
theorem tab78:tb.code 78=some ⟨134,[],body78⟩:=by kernel_rfl
theorem pdq_ok (n:Nat):∀ (hB h:AHeap) (v:Value) (xs:List Int) (a b lim:Int) (e0:Ext hB h) (hmB:hB.mark≤hB.n) (o:OwnI hB h v xs) (h0:0≤a) (hab:a≤b) (hb:b≤xs.length) (hn:b - a≤n) (hlen:xs.length≤1000000000) (hlim:0≤lim∧lim≤1000) (hpre:0<a→∀ k,a≤k→k<b→atI xs (a - 1)≤atI xs k),
  WC Tryz.prog tb 78 [v,I a,I b,I lim] h fun r h'=>∃ ys,SS hB h v a b xs ys h'∧Srt a b ys:=by
 induction n using Nat.strongRecOn with
 |_ n IH=>
 intro hB h v xs a b lim e0 hmB o h0 hab hb hn hlen hlim hpre
 have IH:=Hid.mk IH
 have s0:=SS.start a b o e0
 refine WC.of (zG 78) tab78 ?_;simp only[zN,Nat.zero_add,Nat.reduceAdd]
 refine go ?_
 refine WX.loopA [19,20,21,10,22,23,24,25,26,27,28,29,30,31,32,33,34,35,36,37,38,39,40,41,3,43,44,45,46,42,47,48,11,12,49,50,51,52,53,54,55,56,57,58,59,60,11,12,61,62,63,64,65,66,67,68,69,70,71,72,73,74,75,76,77,78,79,80,81,82,83,84,85,86,87,88,89,90,91,92,13,93,1,95,96,97,98,99,94,100,101,14,15,102,9,103,104,105,106,107,108,16,17,109,110,18,111,112,113,114,115,116,8,117,118,119,120,121,122,123,1,124,125,126,8,127,128,129,130,131,132,133,2] (by kernel_rfl) (fun x=>(x.2.2.1 - x.2.1).toNat) (fun (x:List Int×Int×Int×Int×Bool×Bool) t h4=>SS hB h v a b xs x.1 h4∧zB t 1=I x.2.1∧zB t 2=I x.2.2.1∧zB t 3=I x.2.2.2.1∧zB t 8= .bool x.2.2.2.2.1∧zB t 9= .bool x.2.2.2.2.2∧(a≤x.2.1∧x.2.1≤x.2.2.1∧x.2.2.1≤b)∧(0≤x.2.2.2.1∧x.2.2.2.1≤1000)∧Srt a x.2.1 x.1∧Srt x.2.2.1 b x.1∧(∀ p q,a≤p→p<x.2.1→x.2.1≤q→q<b→atI x.1 p≤atI x.1 q)∧(∀ p q,a≤p→p<x.2.2.1→x.2.2.1≤q→q<b→atI x.1 p≤atI x.1 q)∧(0<x.2.1→∀ k,x.2.1≤k→k<x.2.2.1→atI x.1 (x.2.1 - 1)≤atI x.1 k)) (xs,a,b,lim,true,true) ?_ ?_
 ·exact⟨s0,sl_,sl_,sl_,sl_,sl_,by simp only;omega,hlim,Srt.small (by simp only;omega),Srt.small (by simp only;omega),fun p q h1 h2=>by simp only at h2;omega,fun p q h1 h2 h3 h4=>by simp only at h3;omega,hpre⟩
 rintro⟨ys,c,d,lm,wb,wp⟩ t h4 hsame ⟨s4,s1,s2,s3,s8,s9,hcd,hlm,rA,rB,rL,rH,hpr⟩
 simp only at s4 s1 s2 s3 s8 s9 hcd hlm rA rB rL rH hpr
 have hl4:=s4.len
 have whole:Hid (∀ zs h5,SS hB h4 v c d ys zs h5→Srt c d zs→SS hB h v a b xs zs h5∧Srt a b zs):=Hid.mk fun zs h5 s5 r5=>by
  refine⟨s4.call s5 hcd.1 hcd.2.2,fun p q h1 h2 h3=> ?_⟩
  have p5:=s5.pi
  have o5:=p5.out
  by_cases hq:q<c
  ·rw[o5 p (by omega) (.inl (by omega)),o5 q (by omega) (.inl hq)];exact rA p q h1 h2 hq
  by_cases hp:d≤p
  ·rw[o5 p (by omega) (.inr hp),o5 q (by omega) (.inr (by omega))];exact rB p q hp h2 h3
  by_cases hp2:p<c
  ·rw[o5 p (by omega) (.inl hp2)]
   by_cases hq2:d≤q
   ·rw[o5 q (by omega) (.inr hq2)];exact rL p q h1 hp2 (by omega) h3
   ·exact p5.all (p:=fun x=>atI ys p≤x) (by omega) (by omega) (fun k hk1 hk2=>rL p k h1 hp2 hk1 (by omega)) q (by omega) (by omega)
  ·by_cases hq2:d≤q
   ·rw[o5 q (by omega) (.inr hq2)]
    exact p5.all (p:=fun x=>x≤atI ys q) (by omega) (by omega) (fun k hk1 hk2=>rH k q (by omega) hk2 hq2 h3) p (by omega) (by omega)
   ·exact r5 p q (by omega) h2 (by omega)
 refine go ?_
 refine WX.br (fun hx=> ?_) (fun hx=> ?_)<;>simp only[DB]at hx
 ·refine go ?_
  refine WO.con (zDp hB h4 v ys c d s4.ext hmB s4.own (by omega) (by omega) (by omega) (by omega)) ?_
  rintro _ h5 ⟨zs,o5,p5,r5,e5,u5⟩
  refine go ?_
  refine rt ?_
  exact⟨zs,whole.out zs h5 ⟨o5,e5,u5,p5⟩ r5⟩
 refine go ?_
 refine WX.br (fun hy=> ?_) (fun hy=> ?_)<;>simp only[DB]at hy
 ·refine go ?_
  refine WO.con (heap_ok hB h4 v ys c d s4.ext hmB s4.own (by omega) (by omega) (by omega) (by omega)) ?_
  rintro _ h5 ⟨zs,s5,r5⟩
  refine go ?_
  refine rt ?_
  exact⟨zs,whole.out zs h5 s5 r5⟩
 refine go ?_
 refine WX.cutA [36,37,38,39,40,41,3] (by kernel_rfl) (fun t h'=>∃ zs l2,SS hB h4 v c d ys zs h'∧zB t 3=I l2∧0≤l2∧l2≤1000) ?_ ?_
 ·refine WX.br (fun hz=> ?_) (fun hz=> ?_)<;>simp only[DB]at hz<;>refine go ?_
  ·refine WO.con (break_ok hB h4 v ys c d s4.ext hmB s4.own (by omega) (by omega) (by omega) (by omega)) ?_
   rintro _ h5 ⟨zs,s5⟩
   refine go ?_
   exact zI ⟨zs,lm - 1,s5,sl_,by omega,by omega⟩
  ·exact zI ⟨ys,lm,SS.start c d s4.own s4.ext,sl_,hlm.1,hlm.2⟩
 rintro t5 h5 hs5 ⟨zs,l2,s5,q3,hl2⟩
 have hl5:=s5.len
 refine go ?_
 refine WO.con (pivot_ok h5 v zs c d s5.own.sl (by omega) (by omega) (by omega) (by omega)) ?_
 rintro _ h6 ⟨⟨pv,hint,rfl,hpv⟩,e6⟩
 have s6:=s5.extd e6
 refine go ?_
 refine WX.cutA [51,52,53,54,55,56,57,58,59,60,11,12] (by kernel_rfl) (fun t h'=>∃ ws p2 hi2,SS hB h4 v c d ys ws h'∧zB t 11=I p2∧zB t 12=I hi2∧c≤p2∧p2<d) ?_ ?_
 ·refine WX.br (fun hz=> ?_) (fun hz=> ?_)<;>simp only[DB]at hz<;>refine go ?_
  ·refine WO.con (zF9 hB h6 v zs c d s6.ext hmB s6.own (by omega) (by omega) (by omega) (by omega)) ?_
   rintro _ h7 ⟨ws,s7⟩
   refine go ?_
   exact zI ⟨ws,_,1,s6.call s7 (by omega) (by omega),sl_,sl_,by omega,by omega⟩
  ·exact zI ⟨zs,pv,hint,s6,sl_,sl_,hpv.1,hpv.2⟩
 clear s5 s6 hl5
 rintro t7 h7 hs7 ⟨ws,p2,hi2,s7,q11,q12,hp2⟩
 have hl7:=s7.len
 have low7:Hid (∀ us,PI c d ys us→0<c→∀ k,c≤k→k<d→atI us (c - 1)≤atI us k):=Hid.mk fun us p hc=>by
  rw[p.out (c - 1) (by omega) (.inl (by omega))]
  exact p.all (p:=fun x=>atI ys (c - 1)≤x) (by omega) (by omega) (hpr hc)
 have env:Hid (∀ us,PI c d ys us→Srt a c us∧Srt d b us∧(∀ p q,a≤p→p<c→c≤q→q<b→atI us p≤atI us q)∧(∀ p q,a≤p→p<d→d≤q→q<b→atI us p≤atI us q)):=Hid.mk fun us p5=>by
  have o5:=p5.out
  refine⟨fun p q h1 h2 h3=> ?_,fun p q h1 h2 h3=> ?_,fun p q h1 h2 h3 h4=> ?_,fun p q h1 h2 h3 h4=> ?_⟩
  ·rw[o5 p (by omega) (.inl (by omega)),o5 q (by omega) (.inl h3)];exact rA p q h1 h2 h3
  ·rw[o5 p (by omega) (.inr (by omega)),o5 q (by omega) (.inr (by omega))];exact rB p q h1 h2 h3
  ·rw[o5 p (by omega) (.inl (by omega))]
   by_cases hq2:d≤q
   ·rw[o5 q (by omega) (.inr hq2)];exact rL p q h1 h2 h3 h4
   ·exact p5.all (p:=fun x=>atI ys p≤x) (by omega) (by omega) (fun k hk1 hk2=>rL p k h1 h2 hk1 (by omega)) q h3 (by omega)
  ·rw[o5 q (by omega) (.inr (by omega))]
   by_cases hp:p<c
   ·rw[o5 p (by omega) (.inl hp)];exact rH p q h1 h2 h3 h4
   ·exact p5.all (p:=fun x=>x≤atI ys q) (by omega) (by omega) (fun k hk1 hk2=>rH k q (by omega) hk2 h3 h4) p (by omega) h2
 clear rA rB rL rH hpr
 refine go ?_
 refine WO.mid 6 (fun t' h'=>h7=h'∧∃ bb,zB t' 68= .bool bb) ?_ ?_<;>simp only[List.take_succ_cons,List.take_zero,List.drop_succ_cons,List.drop_zero]
 ·cases wb<;>cases wp<;>refine go ?_<;>exact⟨rfl,rfl,rfl,_,sl_⟩
 rintro t8 _ hs8 ⟨rfl,bb,q68⟩
 refine go ?_
 refine WX.cutA [69,70,71,72] (by kernel_rfl) (fun t h'=>∃ us,SS hB h4 v c d ys us h') ?_ ?_
 ·refine WX.br (fun hz=> ?_) (fun hz=> ?_)<;>refine go ?_
  ·refine WO.con (zGA hB h7 v ws c d s7.ext hmB s7.own (by omega) (by omega) (by omega) (by omega) (low7.out ws s7.pi)) ?_
   rintro _ h9 ⟨us,w,rfl,s9',r9⟩
   have r9:=Hid.mk r9
   refine WO.nil ?_
   refine ZW ?_
   refine WX.br (fun hw=> ?_) (fun hw=> ?_)
   ·refine WX.ret ?_
    refine cutK_ret ?_
    refine go ?_
    refine rt ?_
    exact⟨us,whole.out us h9 (s7.call s9' (by omega) (by omega)) (r9.out hw)⟩
   ·refine WX.skip ?_
    exact zI ⟨us,s7.call s9' (by omega) (by omega)⟩
  ·exact zI ⟨ws,s7⟩
 clear s7 hl7
 rintro t9 h9 hs9 ⟨us,s9'⟩
 have hl9:=s9'.len
 refine go ?_
 refine WX.cutA [73,74,75,76,77,78,79,80,81,82,83,84,85,86,87] (by kernel_rfl) (fun t h'=>h9=h'∧zB t 87= .bool (decide (0<c∧¬(atI us (c - 1)<atI us p2)))) ?_ ?_
 ·refine WX.regionU2 0 rfl rfl ?_
  have srX:SlI (inC (zF 0 h9)) v us:=(s9'.own).sl
  refine goU ?_
  refine WO.sp (fun hd=> ?_) (fun hd=> ?_)<;>simp only[DB]at hd<;>refine goU ?_
  ·refine WO.con (yy _ (atI us (c - 1)) (atI us p2)) ?_
   rintro _ _ ⟨rfl,rfl⟩
   refine WO.nil ?_
   refine yo ?_
   refine goU ?_
   exact zI ⟨rfl,by rw[show decide (0<c∧¬(atI us (c - 1)<atI us p2))= !decide (atI us (c - 1)<atI us p2) from zBK hd];exact sl_⟩
  ·exact zI ⟨rfl,by rw[show decide (0<c∧¬(atI us (c - 1)<atI us p2))=false from decide_eq_false (fun hh=>absurd hh.1 (by omega))];exact sl_⟩
 rintro t10 _ hs10 ⟨rfl,q10⟩
 refine go ?_
 refine WX.br (fun hz=> ?_) (fun hz=> ?_)<;>simp only[DB]at hz<;>refine go ?_
 ·refine WO.con (zD6 hB h9 v us c d p2 s9'.ext hmB s9'.own (by omega) (by omega) (by omega) (by omega)) ?_
  rintro _ h11 ⟨zs,m,rfl,s11,hm,lo,hi⟩
  have sw:=s9'.call s11 (Int.le_refl _) (Int.le_refl _)
  obtain⟨eA,eB,eL,eH⟩:=env.out zs sw.pi
  have lz:=low7.out zs sw.pi hz.1
  have hP:atI us p2≤atI zs (c - 1):=by
   rw[s11.pi.out (c - 1) (by omega) (.inl (by omega))];omega
  refine go ?_
  refine zA (zs,m,d,l2,wb,wp) (by simp only;omega) ⟨s4.call sw hcd.1 hcd.2.2,sl_,sl_,sl_,sl_,sl_,by simp only;omega,hl2,fun p q h1 h2 h3=> ?_,eB,fun p q h1 h2 h3 h4=> ?_,eH,fun h1 k h2 h3=> ?_⟩
  ·simp only at h3 ⊢
   by_cases hq:q<c
   ·exact eA p q h1 h2 hq
   by_cases hp:p<c
   ·exact eL p q h1 hp (by omega) (by omega)
   ·have x1:=lo p (by omega) (by omega);have x2:=lz q (by omega) (by omega);omega
  ·simp only at h2 h3 ⊢
   by_cases hp:p<c
   ·exact eL p q h1 hp (by omega) h4
   by_cases hq:d≤q
   ·exact eH p q h1 (by omega) hq h4
   ·have x1:=lo p (by omega) (by omega);have x2:=hi q (by omega) (by omega);omega
  ·simp only at h1 h2 h3 ⊢
   have x1:=lo (m - 1) (by omega) (by omega);have x2:=hi k (by omega) (by omega);omega
 ·refine WO.con (zES hB h9 v us c d p2 s9'.ext hmB s9'.own (by omega) (by omega) (by omega) (by omega)) ?_
  rintro _ h11 ⟨zs,m,w,rfl,s11,hm,lo,hi⟩
  have sw:=s9'.call s11 (Int.le_refl _) (Int.le_refl _)
  have hlw:=sw.len
  refine go ?_
  refine WO.quo (a:=d - c) (c:=8) (by decide) (by rw[Int.tdiv_eq_ediv_of_nonneg (by omega)];omega) (by rw[Int.tdiv_eq_ediv_of_nonneg (by omega)];omega) ?_
  refine go ?_
  refine WX.br (fun hy2=> ?_) (fun hy2=> ?_)<;>simp only[DB]at hy2<;>refine go ?_
  ·refine WO.con (IH.out (m - c).toNat (by omega) hB h11 v zs c m l2 sw.ext hmB sw.own (by omega) (by omega) (by omega) (by omega) (by omega) hl2 (fun h1 k h2 h3=>low7.out zs sw.pi h1 k h2 (by omega))) ?_
   rintro _ h12 ⟨vs,s12,r12⟩
   have st:=sw.call s12 (Int.le_refl _) (by omega)
   obtain⟨eA,eB,eL,eH⟩:=env.out vs st.pi
   have same:∀ k,m≤k→atI vs k=atI zs k:=fun k hk=>s12.pi.out k (by omega) (.inr hk)
   have left:∀ k,c≤k→k<m→atI vs k≤atI zs m:=s12.pi.all (p:=fun x=>x≤atI zs m) (by omega) (by omega) (fun k h1 h2=>lo k h1 h2)
   refine go ?_
   refine zA (vs,m+1,d,l2,decide ((d - c).tdiv 8≤m - c),w) (by simp only;omega) ⟨s4.call st hcd.1 hcd.2.2,sl_,sl_,sl_,sl_,sl_,by simp only;omega,hl2,fun p q h1 h2 h3=> ?_,eB,fun p q h1 h2 h3 h4=> ?_,eH,fun h1 k h2 h3=> ?_⟩
   ·simp only at h3 ⊢
    by_cases hq:q<c
    ·exact eA p q h1 h2 hq
    by_cases hp:p<c
    ·exact eL p q h1 hp (by omega) (by omega)
    by_cases hqm:q=m
    ·by_cases hpm:p=m
     ·rw[hqm,hpm];exact Int.le_refl _
     ·rw[hqm,same m (Int.le_refl _)];exact left p (by omega) (by omega)
    ·exact r12 p q (by omega) h2 (by omega)
   ·simp only at h2 h3 ⊢
    by_cases hp:p<c
    ·exact eL p q h1 hp (by omega) h4
    by_cases hq:d≤q
    ·exact eH p q h1 (by omega) hq h4
    ·rw[same q (by omega)]
     have x2:=hi q (by omega) (by omega)
     by_cases hpm:p=m
     ·rw[hpm,same m (Int.le_refl _)];exact x2
     ·have x1:=left p (by omega) (by omega);omega
   ·simp only at h1 h2 h3 ⊢
    rw[show m+1 - 1=m by omega,same m (Int.le_refl _),same k (by omega)]
    exact hi k (by omega) h3
  ·refine WO.con (IH.out (d - (m+1)).toNat (by omega) hB h11 v zs (m+1) d l2 sw.ext hmB sw.own (by omega) (by omega) (by omega) (by omega) (by omega) hl2 (fun h1 k h2 h3=>by rw[show m+1 - 1=m by omega];exact hi k (by omega) h3)) ?_
   rintro _ h12 ⟨vs,s12,r12⟩
   have st:=sw.call s12 (by omega) (Int.le_refl _)
   obtain⟨eA,eB,eL,eH⟩:=env.out vs st.pi
   have same:∀ k,0≤k→k≤m→atI vs k=atI zs k:=fun k h0 hk=>s12.pi.out k h0 (.inl (by omega))
   have right:∀ k,m+1≤k→k<d→atI zs m≤atI vs k:=s12.pi.all (p:=fun x=>atI zs m≤x) (by omega) (by omega) (fun k h1 h2=>hi k (by omega) h2)
   refine go ?_
   refine zA (vs,c,m,l2,decide ((d - c).tdiv 8≤d - m),w) (by simp only;omega) ⟨s4.call st hcd.1 hcd.2.2,sl_,sl_,sl_,sl_,sl_,by simp only;omega,hl2,eA,fun p q h1 h2 h3=> ?_,eL,fun p q h1 h2 h3 h4=> ?_,fun h1 k h2 h3=> ?_⟩
   ·simp only at h1 ⊢
    by_cases hp:d≤p
    ·exact eB p q hp h2 h3
    by_cases hq:d≤q
    ·exact eH p q (by omega) (by omega) hq h3
    by_cases hpm:p=m
    ·by_cases hqm:q=m
     ·rw[hqm,hpm];exact Int.le_refl _
     ·rw[hpm,same m (by omega) (Int.le_refl _)];exact right q (by omega) (by omega)
    ·exact r12 p q (by omega) h2 (by omega)
   ·simp only at h2 h3 ⊢
    by_cases hp:p<c
    ·exact eL p q h1 hp (by omega) h4
    by_cases hq:d≤q
    ·exact eH p q h1 (by omega) hq h4
    ·have x1:=lo p (by omega) h2
     rw[same p (by omega) (by omega)]
     by_cases hqm:q=m
     ·rw[hqm,same m (by omega) (Int.le_refl _)];exact x1
     ·have x2:=right q (by omega) (by omega);omega
   ·simp only at h1 h2 h3 ⊢
    exact low7.out vs st.pi h1 k h2 (by omega)
theorem zDB (h:AHeap):WC Tryz.prog tb 93 [.slice none 0 0,I 0,I 0] h fun r h'=>h=h':=by
 refine WC.of (zG 93) tab93 ?_;simp only[zN,Nat.zero_add,Nat.reduceAdd]
 refine go ?_
 refine WX.loopA [10,11,12,15,7,16,17,18,19,20,21,22,23,24,25,26,27,28,29,30,33,34,35,36,37,38,39,40,41,42,43,44,45,46,47,48,31,32,7,13,14,6] (by kernel_rfl) (fun _=>0) (fun (_:Unit) t h1=>h=h1∧zB t 6=I 1) () ?_ ?_
 ·exact⟨rfl,sl_⟩
 rintro _ t _ hsame ⟨rfl,s6⟩
 refine go ?_
 refine rtN ?_
 rfl
theorem pdq_nil (h:AHeap) (k:Int):WC Tryz.prog tb 78 [.slice none 0 0,I 0,I 0,I k] h fun r h'=>h=h':=by
 refine WC.of (zG 78) tab78 ?_;simp only[zN,Nat.zero_add,Nat.reduceAdd]
 refine go ?_
 refine WX.loopA [19,20,21,10,22,23,24,25,26,27,28,29,30,31,32,33,34,35,36,37,38,39,40,41,3,43,44,45,46,42,47,48,11,12,49,50,51,52,53,54,55,56,57,58,59,60,11,12,61,62,63,64,65,66,67,68,69,70,71,72,73,74,75,76,77,78,79,80,81,82,83,84,85,86,87,88,89,90,91,92,13,93,1,95,96,97,98,99,94,100,101,14,15,102,9,103,104,105,106,107,108,16,17,109,110,18,111,112,113,114,115,116,8,117,118,119,120,121,122,123,1,124,125,126,8,127,128,129,130,131,132,133,2] (by kernel_rfl) (fun _=>0) (fun (_:Unit) t h1=>h=h1∧zB t 1=I 0∧zB t 2=I 0) () ?_ ?_
 ·exact⟨rfl,sl_,sl_⟩
 rintro _ t _ hsame ⟨rfl,s1,s2⟩
 refine go ?_
 refine WO.con (zDB h) ?_
 rintro _ _ rfl
 refine go ?_
 refine rt ?_
 rfl
def Zr (xs:List Int):List Int:=xs.mergeSort (fun a b=>decide (a≤b))
noncomputable def body66:ACode:=(.seq (.region [⟨some 3,none,(.mov (.tmp 0))⟩,⟨some 4,none,(.len (.tmp 3))⟩,⟨some 2,none,(.mov (.tmp 4))⟩]) (.region [⟨some 5,none,(.mov (.tmp 0))⟩,⟨some 6,none,(.mov (.tmp 2))⟩,⟨some 7,none,(.mov (.tmp 2))⟩,⟨some 8,none,(.conv .u64 (.tmp 7))⟩,⟨some 9,none,(.call (.func 79) [(.tmp 8)])⟩,⟨some 10,none,(.call (.func 78) [(.tmp 5),(.const (.int .i64 0)),(.tmp 6),(.tmp 9)])⟩]))
set_option maxRecDepth 100000 in
theorem tab66:tb.code 66=some ⟨11,[],body66⟩:=by kernel_rfl
theorem sort_ok (hB h:AHeap) (v:Value) (xs:List Int) (e0:Ext hB h) (hmB:hB.mark≤hB.n) (o:OwnN hB h v xs) (hlen:xs.length≤1000000000):
  WC Tryz.prog tb 66 [v] h fun r h'=>OwnN hB h' v (Zr xs)∧Ext hB h'∧Upd v h h':=by
 have s:SlI h v xs:=o.sl
 refine WC.of (zG 66) tab66 ?_;simp only[zN,Nat.zero_add,Nat.reduceAdd]
 refine go ?_
 rw[zBR (by omega) (by omega)]
 refine WO.con (len_ok h xs.length (by omega) (by omega)) ?_
 rintro _ _ ⟨⟨k,rfl,hk,hk2⟩,rfl⟩
 refine go ?_
 rcases o with ⟨rfl,rfl⟩|o
 ·rw[show ((([]:List Int).length:Nat):Int)=0 from rfl]
  refine WO.con (pdq_nil h k) ?_
  rintro _ _ rfl
  refine go ?_
  refine rtN ?_
  exact⟨.inl ⟨rfl,by simp[Zr]⟩,e0,Upd.refl _ _⟩
 refine WO.con (pdq_ok xs.length hB h v xs 0 xs.length k e0 hmB o (by omega) (by omega) (by omega) (by omega) hlen (by omega) (fun h=>by omega)) ?_
 rintro _ h2 ⟨ys,s2,r2⟩
 refine go ?_
 refine rtN ?_
 have:ys=Zr xs:=zGI s2.pi.perm (by rw[s2.len];exact r2)
 exact⟨.inr (this▸s2.own),s2.ext,s2.upd⟩
end Go.Proofs.YtdcgdfbblnljjaaGreatDoor
namespace Go.Proofs.YtdcgdfbblnljjaaGreatDoor
open Go.Am
set_option linter.unusedVariables false
set_option linter.unusedSimpArgs false
set_option maxHeartbeats 1000000
noncomputable def body67_0:ACode:=(.seq (.region [⟨some 8,none,(.bin .lss (.tmp 7) (.tmp 6))⟩]) (.seq (.cond (.tmp 8) .skip (.exit 0)) (.seq (.block 1 (.seq (.region [⟨some 9,none,(.idx 1 (.tmp 5) (.tmp 7))⟩,⟨some 10,none,(.load false 1 (.tmp 9))⟩,⟨some 4,none,(.mov (.tmp 10))⟩]) (.seq (.region [⟨some 11,none,(.mov (.tmp 0))⟩,⟨some 12,none,(.mov (.tmp 4))⟩,⟨some 13,none,(.call (.tmp 11) [(.tmp 12)])⟩,⟨some 14,none,(.un .not (.tmp 13))⟩]) (.cond (.tmp 14) .ret .skip)))) (.region [⟨some 15,none,(.bin .add (.tmp 7) (.const (.int .i64 1)))⟩,⟨some 7,none,(.mov (.tmp 15))⟩]))))
noncomputable def body67:ACode:=(.seq (.region [⟨some 5,none,(.load false 1 (.tmp 1))⟩,⟨some 6,none,(.len (.tmp 5))⟩,⟨some 7,none,(.mov (.const (.int .i64 0)))⟩]) (.block 0 (.loop body67_0)))
set_option maxRecDepth 100000 in
theorem tab67:tb.code 67=some ⟨16,[],body67⟩:=by kernel_rfl
theorem zGW (hA h:AHeap) (y p v:Value) (l:List Int) (hl:(l.length:Int)≤1000000000) (J:Nat→AHeap→Prop) (h0:J 0 h) (hr:∀ i h',J i h'→OwnC hA h' p [v]∧SlI h' v l)
  (hy:∀ i h',i<l.length→J i h'→WV Tryz.prog tb y [I (l.getD i 0)] h' fun r h''=>r= .bool true∧J (i+1) h''):
  WC Tryz.prog tb 67 [y,p] h fun _ h'=>J l.length h':=by
 obtain⟨o,s⟩:=hr 0 h h0
 obtain⟨_,_,_,rfl⟩:=SlC.shape s
 have hr:=Hid.mk hr
 have hy:=Hid.mk hy
 refine WC.of (zG 67) tab67 ?_;simp only[zN,Nat.zero_add,Nat.reduceAdd]
 refine go ?_
 refine WX.loopA [8,9,10,4,11,12,13,14,15,7] (by kernel_rfl) (fun i=>l.length - i) (fun i t h1=>zB t 7=I i∧i≤l.length∧J i h1) 0 ?_ ?_
 ·exact⟨sl_,Nat.zero_le _,h0⟩
 rintro i t h1 hsame ⟨s7,hi,j1⟩
 obtain⟨o1,s1⟩:=hr.out i h1 j1
 refine go ?_
 refine WX.br (fun hb=> ?_) (fun hb=> ?_)<;>simp only[DB]at hb
 ·have hi':i<l.length:=by omega
  refine go ?_
  refine WO.conV (hy.out i h1 hi' j1) ?_
  rintro _ h2 ⟨rfl,j2⟩
  refine go ?_
  exact zA (i+1) (by omega) ⟨sln,by omega,j2⟩
 ·refine go ?_
  refine rtN ?_
  have:i=l.length:=by omega
  subst this
  exact j1
noncomputable def body53:ACode:=(.seq (.region [⟨some 1,none,(.box (.tmp 0))⟩,⟨some 2,none,(.mov (.const .nilFunc))⟩]) (.seq (.region [⟨some 3,none,(.mkFunc (.func 67) [] [(.tmp 1)])⟩,⟨some 2,none,(.mov (.tmp 3))⟩]) .ret))
set_option maxRecDepth 100000 in
theorem tab53:tb.code 53=some ⟨4,[(2,none)],body53⟩:=by kernel_rfl
theorem zIE (h:AHeap) (v:Value):
  WC Tryz.prog tb 53 [v] h fun r h'=>(∃ p,r= .func (.func 67) #[] #[p]∧OwnC h h' p v.cells.toList)∧Ext h h':=by
 refine WC.of (zG 53) tab53 ?_;simp only[zN,Nat.zero_add,Nat.reduceAdd]
 refine go ?_
 refine WO.bx ?_
 intro p h1 e1 o1
 refine go ?_
 refine rt ?_
 exact⟨⟨p,rfl,o1⟩,e1⟩
noncomputable def body77:ACode:=(.seq (.region [⟨some 2,none,(.box (.tmp 0))⟩,⟨some 4,none,(.mov (.const (.slice none 0 0)))⟩]) (.seq (.seq (.region [⟨some 6,none,(.mov (.tmp 1))⟩]) (.block 0 (.rangeFunc (.tmp 6) [7] (.region [⟨some 5,none,(.mov (.tmp 7))⟩]) (.block 1 (.region [⟨some 8,none,(.load false 1 (.tmp 2))⟩,⟨some 9,none,(.mov (.tmp 5))⟩,⟨some 10,none,(.buildSlice 1 1 [(.int .i64 0)] [(0,1,(.tmp 9))])⟩,⟨some 11,none,(.append 1 (.tmp 8) (.tmp 10))⟩,⟨none,none,(.store 1 (.tmp 2) (.tmp 11))⟩]))))) (.seq (.region [⟨some 12,none,(.load false 1 (.tmp 2))⟩,⟨some 4,none,(.mov (.tmp 12))⟩]) .ret)))
set_option maxRecDepth 100000 in
theorem tab77:tb.code 77=some ⟨13,[(4,none)],body77⟩:=by kernel_rfl
theorem zDu (h:AHeap) (p v:Value) (l:List Int) (hA:AHeap) (hl:(l.length:Int)≤1000000000) (o:OwnC hA h p [v]) (s:SlI h v l):
  WC Tryz.prog tb 77 [.slice none 0 0,.func (.func 67) #[] #[p]] h fun r h'=>OwnN h h' r l∧Ext h h':=by
 refine WC.of (zG 77) tab77 ?_;simp only[zN,Nat.zero_add,Nat.reduceAdd]
 refine go ?_
 refine WO.bx ?_
 intro p2 h1 e1 o1
 refine go ?_
 refine WX.rangeG ?_
 intro L g r hO rdy eO hL hg lL lg
 have o2:=o1.ext eO
 have eb:=e1.trans eO
 refine WV.func ?_
 refine WC.mono (zGW hA hO _ p v l hl (fun i h'=>Ext h h'∧Lies h' L (.loop r)∧Lies h' g (.deferred (some []))∧∃ w,OwnC h h' p2 [w]∧OwnN h h' w (l.take i)) ?_ ?_ ?_) ?_
 ·exact⟨eb,lL,lg,.slice none 0 0,o2,.inl ⟨rfl,rfl⟩⟩
 ·rintro i h' ⟨e',_⟩
  exact⟨o.ext e',s.ext e'⟩
 ·rintro i h' hi ⟨e',lL',lg',w,ow,on⟩
  refine WV.yieldG lL' rdy rfl ?_
  simp only[zBp]
  refine go ?_
  refine zBo ?_
  intro h2 hh2
  have e2:Ext h h2:=by rw[hh2];exact e'.set (by have:=e1.n;omega) lL'.1 _
  have ow2:OwnC h h2 p2 [w]:=by rw[hh2];exact ow.setR lL' rfl
  have on2:OwnN h h2 w (l.take i):=by rw[hh2];exact on.setR lL' rfl
  have lL2:Lies h2 L (.loop (busy r)):=by rw[hh2];exact lL'.self
  have lg2:Lies h2 g (.deferred (some [])):=by
   rw[hh2];refine lg'.set ?_
   intro e;subst e;have:=lg'.2;rw[lL'.2]at this;cases this
  clear hh2
  obtain⟨_,_,_,rfl⟩:=SlC.shape on2.sl
  refine go ?_
  refine WO.bl [l.getD i 0] ?_
  intro v3 h3 e3 o3
  refine go ?_
  have e03:=e2.trans e3
  have htl:(l.take i).length≤i:=by rw[List.length_take];omega
  refine WO.appendF (v:= .slice _ _ _) (w:=v3) (by exact yD) (by exact yD) (on2.ext e3) o3.sl e03 (by simp) (by simp only[List.length_singleton];omega) ?_
  intro h4 e4 o4 u4
  have ow4:=OwnC.upd (ow2.ext e3) (on2.ext e3) u4
  have lL4:=(lL2.ext e3).upd rfl (on2.ext e3) u4
  have lg4:=(lg2.ext e3).upd rfl (on2.ext e3) u4
  refine go ?_
  refine WO.stC0 ow4 e4 ?_
  intro h5 e5 ow5 u5
  have on5:=OwnI.updC o4 ow4 u5
  have lL5:=lL4.updC rfl ow4 u5
  have lg5:=lg4.updC rfl ow4 u5
  refine go ?_
  refine zBu lL5 ?_
  have tk:l.take (i+1)=l.take i++[l.getD i 0]:=by rw[List.take_add_one];simp[List.getD,List.getElem?_eq_getElem hi]
  refine⟨rfl,e5.set (by have:=e1.n;omega) lL5.1 _,lL5.self,lg5.set ?_,_,ow5.setR lL5 rfl,?_⟩
  ·intro e;subst e;have:=lg5.2;rw[lL5.2]at this;cases this
  ·rw[tk];exact(OwnN.setR (.inr on5) lL5 rfl)
 ·rintro _ h2 ⟨e2,lL2,lg2,w,ow,on⟩
  refine⟨lL2,fun r3=> ?_⟩
  have lgL:g≠L:=by intro e;subst e;have:=lg2.2;rw[lL2.2]at this;cases this
  obtain⟨h3,hh3⟩:∃ h3,h3=h2.set L (.loop r3):=⟨_,rfl⟩
  have e3:Ext h h3:=by rw[hh3];exact e2.set (by have:=e1.n;omega) lL2.1 _
  have ow3:OwnC h h3 p2 [w]:=by rw[hh3];exact ow.setR lL2 rfl
  have on3:OwnN h h3 w (l.take l.length):=by rw[hh3];exact on.setR lL2 rfl
  have lg3:Lies h3 g (.deferred (some [])):=by rw[hh3];exact lg2.set lgL
  rw[←hh3]
  clear hh3
  obtain⟨_,_,_,rfl⟩:=SlC.shape on3.sl
  refine go ?_
  refine zFI lg3 ?_
  refine rt ?_
  rw[List.take_length]at on3
  exact⟨on3.setR lg3 rfl,e3.set (by have:=e1.n;omega) lg3.1 _⟩
noncomputable def body65:ACode:=(.seq (.region [⟨some 2,none,(.mov (.const (.slice none 0 0)))⟩]) (.seq (.region [⟨some 3,none,(.mov (.tmp 0))⟩,⟨some 4,none,(.call (.func 77) [(.const (.slice none 0 0)),(.tmp 3)])⟩,⟨some 2,none,(.mov (.tmp 4))⟩]) .ret))
set_option maxRecDepth 100000 in
theorem tab65:tb.code 65=some ⟨5,[(2,none)],body65⟩:=by kernel_rfl
theorem zFx (h:AHeap) (p v:Value) (l:List Int) (hA:AHeap) (hl:(l.length:Int)≤1000000000) (o:OwnC hA h p [v]) (s:SlI h v l):
  WC Tryz.prog tb 65 [.func (.func 67) #[] #[p]] h fun r h'=>OwnN h h' r l∧Ext h h':=by
 refine WC.of (zG 65) tab65 ?_;simp only[zN,Nat.zero_add,Nat.reduceAdd]
 refine go ?_
 refine WO.con (zDu h p v l hA hl o s) ?_
 rintro r h1 ⟨o1,e1⟩
 refine go ?_
 refine rt ?_
 exact⟨o1,e1⟩
noncomputable def body52:ACode:=(.seq (.region [⟨some 2,none,(.mov (.const (.slice none 0 0)))⟩]) (.seq (.region [⟨some 4,none,(.mov (.tmp 0))⟩,⟨some 5,none,(.call (.func 65) [(.tmp 4)])⟩,⟨some 3,none,(.mov (.tmp 5))⟩]) (.seq (.region [⟨some 6,none,(.mov (.tmp 3))⟩,⟨some 7,none,(.call (.func 66) [(.tmp 6)])⟩]) (.seq (.region [⟨some 8,none,(.mov (.tmp 3))⟩,⟨some 2,none,(.mov (.tmp 8))⟩]) .ret))))
set_option maxRecDepth 100000 in
theorem tab52:tb.code 52=some ⟨9,[(2,none)],body52⟩:=by kernel_rfl
theorem zIB (h:AHeap) (p v:Value) (l:List Int) (hA:AHeap) (hl:(l.length:Int)≤1000000000) (hm:h.mark≤h.n) (o:OwnC hA h p [v]) (s:SlI h v l):
  WC Tryz.prog tb 52 [.func (.func 67) #[] #[p]] h fun r h'=>OwnN h h' r (Zr l)∧Ext h h':=by
 refine WC.of (zG 52) tab52 ?_;simp only[zN,Nat.zero_add,Nat.reduceAdd]
 refine go ?_
 refine WO.con (zFx h p v l hA hl o s) ?_
 rintro r h1 ⟨o1,e1⟩
 refine go ?_
 refine WO.con (sort_ok h h1 r l e1 hm o1 (by omega)) ?_
 rintro _ h2 ⟨o2,e2,u2⟩
 refine go ?_
 refine rt ?_
 exact⟨o2,e2⟩
def Z6 (T:List LType) (F:List LFn) (f:Int):List Int:=(ZL (nxL (zD T F f 0).1) (zD T F f 0).1.length [0] ([],[])).2
theorem zCK {L:List LBlk} (hin:∀ b,0≤b∧b<(L.length:Int)→∀ c∈nxL L b,0≤c∧c<(L.length:Int)) (m:List Int) (hm:∀ c∈m,0≤c∧c<(L.length:Int)):(ZL (nxL L) L.length m ([],[])).2.length≤L.length:=by
 have:∀ (m:List Int) (s:DS),(∀ c∈m,0≤c∧c<(L.length:Int))→(ZL (nxL L) L.length m s).2.length+unb L.length (ZL (nxL L) L.length m s).1≤s.2.length+unb L.length s.1:=by
  intro m
  induction m with
  |nil=>intro s _;exact Nat.le_refl _
  |cons x m ih=>intro s hm;exact Nat.le_trans (ih _ fun c hc=>hm c (by simp[hc])) (zBV hin _ x s (hm x (by simp)))
 have h1:=this m ([],[]) hm
 have h2:=zCN L.length []
 simp only[List.length_nil]at h1
 omega
def yW (T:List LType) (F:List LFn) (f:Int):List Int×Int:=
 if (zD T F f 0).2≠0 then ([],(zD T F f 0).2) else (Zr (Z6 T F f),0)
def zU (T:List LType) (F:List LFn) (f:Int):List Int×Int:=
 if (zD T F f 0).2≠0 then ([],(zD T F f 0).2) else ((Z6 T F f).reverse,0)
noncomputable def body37:ACode:=(.seq (.region [⟨some 2,none,(.box (.tmp 0))⟩,⟨some 4,none,(.mov (.const (.slice none 0 0)))⟩,⟨some 5,none,(.mov (.const (.int .i64 0)))⟩]) (.seq (.region [⟨some 9,none,(.load true 2 (.tmp 2))⟩,⟨some 10,none,(.mov (.tmp 1))⟩,⟨some 11,none,(.call (.func 35) [(.tmp 9),(.tmp 10),(.const (.int .i64 0))])⟩,⟨some 8,none,(.mov (.tmp 11))⟩,⟨some 12,none,(.extract (.tmp 8) 0)⟩,⟨some 13,none,(.extract (.tmp 8) 1)⟩,⟨some 6,none,(.mov (.tmp 12))⟩,⟨some 7,none,(.mov (.tmp 13))⟩]) (.seq (.seq (.region [⟨some 14,none,(.mov (.tmp 7))⟩,⟨some 15,none,(.bin .neq (.tmp 14) (.const (.int .i64 0)))⟩]) (.cond (.tmp 15) (.seq (.region [⟨some 16,none,(.mov (.tmp 7))⟩,⟨some 4,none,(.mov (.const (.slice none 0 0)))⟩,⟨some 5,none,(.mov (.tmp 16))⟩]) .ret) .skip)) (.seq (.region [⟨some 17,none,(.mov (.tmp 6))⟩,⟨some 18,none,(.buildSlice 1 1 [(.int .i64 0)] [(0,1,(.const (.int .i64 0)))])⟩,⟨some 19,none,(.call (.func 54) [(.tmp 17),(.tmp 18)])⟩,⟨some 20,none,(.call (.func 53) [(.tmp 19)])⟩,⟨some 21,none,(.call (.func 52) [(.tmp 20)])⟩,⟨some 4,none,(.mov (.tmp 21))⟩,⟨some 5,none,(.mov (.const (.int .i64 0)))⟩]) .ret))))
set_option maxRecDepth 100000 in
theorem tab37:tb.code 37=some ⟨22,[(4,none),(5,none)],body37⟩:=by kernel_rfl
theorem Reach_ok (h:AHeap) (vt vf:Value) (T:List LType) (F:List LFn) (f:Int) (tt:Tbl h) (hm:h.mark≤h.n) (sm:Small T F) (st:SlT h vt T) (sf:SlF h vf F):
  WC Tryz.prog tb 37 [.agg #[vt,vf],I f] h fun r h'=>(∃ v,r= .tuple #[v,I (yW T F f).2]∧OwnN h h' v (yW T F f).1)∧Ext h h':=by
 refine WC.of (zG 37) tab37 ?_;simp only[zN,Nat.zero_add,Nat.reduceAdd]
 refine go ?_
 refine WO.bx ?_
 intro p h1 e1 o1
 refine go ?_
 refine WO.con (zDd h1 vt vf T F f 0 (tt.ext e1) (zh e1 hm) sm (st.ext e1) (SlF.ext sf e1)) ?_
 rintro _ h2 ⟨⟨v,rfl,sb⟩,e2⟩
 have e12:=e1.trans e2
 refine go ?_
 refine WX.br (fun hb=> ?_) (fun hb=> ?_)<;>simp only[DB]at hb<;>refine go ?_
 ·refine rt ?_
  rw[show yW T F f=([],(zD T F f 0).2) from by rw[yW,if_pos hb]]
  exact⟨⟨_,rfl,.inl ⟨rfl,rfl⟩⟩,e12⟩
 have hb0:(zD T F f 0).2=0:=by omega
 obtain⟨hlen,hnx⟩:=yv hb0
 obtain⟨_,hpos,_,_⟩:=yN hb0
 have hr0:∀ c∈([0]:List Int),0≤c∧c<((zD T F f 0).1.length:Int):=fun c hc=>by
  rw[List.mem_singleton]at hc;subst hc;exact⟨Int.le_refl _,hpos⟩
 have hlp:=zCK hnx [0] hr0
 rw[show yW T F f=(Zr (Z6 T F f),0) from by rw[yW,if_neg (by omega)]]
 refine WO.bl [0] ?_
 intro v3 h3 e3 o3
 have e13:=e12.trans e3
 refine go ?_
 refine WO.con (zGm h3 (zh e13 hm) _ v v3 [0] (SlB.ext sb e3) (by omega) hnx o3.sl (by decide) hr0) ?_
 rintro q h4 ⟨o4,e4⟩
 have e14:=e13.trans e4
 obtain⟨qa,qn,qk,rfl⟩:=SlC.shape o4.sl
 refine go ?_
 refine WO.con (zIE h4 _) ?_
 rintro _ h5 ⟨⟨p5,rfl,o5⟩,e5⟩
 have e15:=e14.trans e5
 refine go ?_
 refine WO.con (zIB h5 p5 _ _ h4 (by omega) (zh e15 hm) o5 (o4.sl.ext e5)) ?_
 rintro r h6 ⟨o6,e6⟩
 refine go ?_
 refine rt ?_
 exact⟨⟨_,rfl,o6.since e15⟩,e15.trans e6⟩
end Go.Proofs.YtdcgdfbblnljjaaGreatDoor
namespace Go.Proofs.YtdcgdfbblnljjaaGreatDoor
open Go.Am
set_option linter.unusedVariables false
set_option linter.unusedSimpArgs false
set_option maxHeartbeats 1000000
theorem zDR {x:Int} {l:List Int}:x∈Zr l↔x∈l:=(List.mergeSort_perm l _).mem_iff
theorem zHO (l:List Int):(Zr l).length=l.length:=(List.mergeSort_perm l _).length_eq
theorem zCJ {L:List LBlk} {a b:Int} (h:0≤a∧a<(L.length:Int)):a∈zS L b L.length↔b∈nxL L a:=by
 unfold zS nxL
 simp only[List.mem_map,List.mem_filter,List.mem_range,decide_eq_true_eq]
 constructor
 ·rintro⟨i,⟨_,h1⟩,rfl⟩;rw[Int.toNat_natCast];exact h1
 ·intro h1;exact⟨a.toNat,⟨by omega,h1⟩,by omega⟩
theorem zBz {L:List LBlk} {a b:Int}:a∈zS L b L.length↔(0≤a∧a<(L.length:Int))∧b∈nxL L a:=by
 constructor
 ·intro h
  have h':=h
  unfold zS at h'
  simp only[List.mem_map,List.mem_filter,List.mem_range]at h'
  obtain⟨i,⟨hi,_⟩,rfl⟩:=h'
  exact⟨by omega,(zCJ (by omega)).1 h⟩
 ·rintro⟨h1,h2⟩;exact(zCJ h1).2 h2
theorem zAB {T:List LType} {F:List LFn} {f b:Int} (h:(zD T F f 0).2=0):b∈(yW T F f).1↔Way (nxL (zD T F f 0).1) 0 b:=by
 obtain⟨_,hpos,_,_⟩:=yN h
 obtain⟨hlen,hin⟩:=yv h
 unfold yW
 rw[if_neg (by rw[h];exact fun e=>e rfl)]
 simp only
 rw[zDR]
 unfold Z6
 rw[zGg hin (fun c hc=>by rw[List.mem_singleton]at hc;subst hc;exact⟨Int.le_refl _,hpos⟩)]
 simp
theorem zH4 {T:List LType} {F:List LFn} {f:Int}:(yW T F f).2=(zD T F f 0).2:=by
 unfold yW;split
 ·rfl
 ·rename_i h;simp only[ne_eq,Decidable.not_not]at h;exact h.symm
end Go.Proofs.YtdcgdfbblnljjaaGreatDoor
namespace Go.Proofs.YtdcgdfbblnljjaaGreatDoor
open Go.Am
set_option linter.unusedVariables false
set_option linter.unusedSimpArgs false
set_option maxHeartbeats 1000000
noncomputable def body80_0:ACode:=(.seq (.seq (.region [⟨some 7,none,(.mov (.tmp 3))⟩,⟨some 8,none,(.bin .geq (.tmp 7) (.const (.int .i64 0)))⟩]) (.cond (.tmp 8) .skip (.exit 0))) (.seq (.block 1 (.seq (.region [⟨some 11,none,(.mov (.tmp 0))⟩,⟨some 12,none,(.mov (.tmp 3))⟩,⟨some 13,none,(.load false 1 (.tmp 1))⟩,⟨some 14,none,(.mov (.tmp 3))⟩,⟨some 15,none,(.idx 1 (.tmp 13) (.tmp 14))⟩,⟨some 16,none,(.load false 1 (.tmp 15))⟩,⟨some 17,none,(.call (.tmp 11) [(.tmp 12),(.tmp 16)])⟩,⟨some 18,none,(.un .not (.tmp 17))⟩]) (.cond (.tmp 18) .ret .skip))) (.region [⟨some 9,none,(.mov (.tmp 3))⟩,⟨some 10,none,(.bin .sub (.tmp 9) (.const (.int .i64 1)))⟩,⟨some 3,none,(.mov (.tmp 10))⟩])))
noncomputable def body80:ACode:=(.seq (.region [⟨some 4,none,(.load false 1 (.tmp 1))⟩,⟨some 5,none,(.len (.tmp 4))⟩,⟨some 6,none,(.bin .sub (.tmp 5) (.const (.int .i64 1)))⟩,⟨some 3,none,(.mov (.tmp 6))⟩]) (.block 0 (.loop body80_0)))
set_option maxRecDepth 100000 in
theorem tab80:tb.code 80=some ⟨19,[],body80⟩:=by kernel_rfl
theorem zEP (hA h:AHeap) (y p v:Value) (l:List Int) (hl:(l.length:Int)≤1000000000) (J:Nat→AHeap→Prop) (h0:J 0 h) (hr:∀ i h',J i h'→OwnC hA h' p [v]∧SlI h' v l)
  (hy:∀ i h',i<l.length→J i h'→WV Tryz.prog tb y [I ((l.length:Int) - 1 - i),I (l.getD (l.length - 1 - i) 0)] h' fun r h''=>r= .bool true∧J (i+1) h''):
  WC Tryz.prog tb 80 [y,p] h fun _ h'=>J l.length h':=by
 obtain⟨o,s⟩:=hr 0 h h0
 obtain⟨_,_,_,rfl⟩:=SlC.shape s
 have hr:=Hid.mk hr
 have hy:=Hid.mk hy
 refine WC.of (zG 80) tab80 ?_;simp only[zN,Nat.zero_add,Nat.reduceAdd]
 refine go ?_
 refine WX.loopA [7,8,11,12,13,14,15,16,17,18,9,10,3] (by kernel_rfl) (fun i=>l.length - i) (fun i t h1=>zB t 3=I ((l.length:Int) - 1 - i)∧i≤l.length∧J i h1) 0 ?_ ?_
 ·exact⟨by rw[show (l.length:Int) - 1 - ((0:Nat):Int)=l.length - 1 by omega];exact sl_,Nat.zero_le _,h0⟩
 rintro i t h1 hsame ⟨s3,hi,j1⟩
 obtain⟨o1,s1⟩:=hr.out i h1 j1
 refine go ?_
 refine WX.br (fun hb=> ?_) (fun hb=> ?_)<;>simp only[DB]at hb
 ·have hi':i<l.length:=by omega
  have hidx:((l.length:Int) - 1 - i).toNat=l.length - 1 - i:=by omega
  refine go ?_
  have hyi:=hy.out i h1 hi' j1
  rw[←hidx]at hyi
  refine WO.conV hyi ?_
  rintro _ h2 ⟨rfl,j2⟩
  refine go ?_
  exact zA (i+1) (by omega) ⟨by rw[show (l.length:Int) - 1 - ((i+1:Nat):Int)=l.length - 1 - i - 1 by omega];exact sl_,by omega,j2⟩
 ·refine go ?_
  refine rtN ?_
  have:i=l.length:=by omega
  subst this
  exact j1
noncomputable def body70:ACode:=(.seq (.region [⟨some 1,none,(.box (.tmp 0))⟩,⟨some 2,none,(.mov (.const .nilFunc))⟩]) (.seq (.region [⟨some 3,none,(.mkFunc (.func 80) [] [(.tmp 1)])⟩,⟨some 2,none,(.mov (.tmp 3))⟩]) .ret))
set_option maxRecDepth 100000 in
theorem tab70:tb.code 70=some ⟨4,[(2,none)],body70⟩:=by kernel_rfl
theorem zFV (h:AHeap) (v:Value):
  WC Tryz.prog tb 70 [v] h fun r h'=>(∃ p,r= .func (.func 80) #[] #[p]∧OwnC h h' p v.cells.toList)∧Ext h h':=by
 refine WC.of (zG 70) tab70 ?_;simp only[zN,Nat.zero_add,Nat.reduceAdd]
 refine go ?_
 refine WO.bx ?_
 intro p h1 e1 o1
 refine go ?_
 refine rt ?_
 exact⟨⟨p,rfl,o1⟩,e1⟩
theorem rev_take (l:List Int) {i:Nat} (hi:i<l.length):l.reverse.take (i+1)=l.reverse.take i++[l.getD (l.length - 1 - i) 0]:=by
 rw[List.take_add_one,List.getElem?_reverse hi]
 simp[List.getD,List.getElem?_eq_getElem (show l.length - 1 - i<l.length by omega)]
noncomputable def body56:ACode:=(.seq (.region [⟨some 2,none,(.box (.tmp 0))⟩,⟨some 4,none,(.alloc [(.slice none 0 0)])⟩,⟨some 5,none,(.mov (.const (.int .i64 0)))⟩]) (.seq (.region [⟨some 10,none,(.load true 2 (.tmp 2))⟩,⟨some 11,none,(.mov (.tmp 1))⟩,⟨some 12,none,(.call (.func 35) [(.tmp 10),(.tmp 11),(.const (.int .i64 0))])⟩,⟨some 9,none,(.mov (.tmp 12))⟩,⟨some 13,none,(.extract (.tmp 9) 0)⟩,⟨some 14,none,(.extract (.tmp 9) 1)⟩,⟨some 6,none,(.mov (.tmp 13))⟩,⟨some 5,none,(.mov (.tmp 14))⟩]) (.seq (.seq (.region [⟨some 15,none,(.mov (.tmp 5))⟩,⟨some 16,none,(.bin .neq (.tmp 15) (.const (.int .i64 0)))⟩]) (.cond (.tmp 16) (.seq (.region [⟨some 17,none,(.mov (.tmp 5))⟩,⟨none,none,(.store 1 (.tmp 4) (.const (.slice none 0 0)))⟩,⟨some 5,none,(.mov (.tmp 17))⟩]) .ret) .skip)) (.seq (.seq (.region [⟨some 18,none,(.mov (.tmp 6))⟩,⟨some 19,none,(.buildSlice 1 1 [(.int .i64 0)] [(0,1,(.const (.int .i64 0)))])⟩,⟨some 20,none,(.call (.func 54) [(.tmp 18),(.tmp 19)])⟩,⟨some 21,none,(.call (.func 70) [(.tmp 20)])⟩]) (.block 0 (.rangeFunc (.tmp 21) [22,23] (.region [⟨some 8,none,(.mov (.tmp 23))⟩]) (.block 1 (.region [⟨some 24,none,(.load false 1 (.tmp 4))⟩,⟨some 25,none,(.mov (.tmp 8))⟩,⟨some 26,none,(.buildSlice 1 1 [(.int .i64 0)] [(0,1,(.tmp 25))])⟩,⟨some 27,none,(.append 1 (.tmp 24) (.tmp 26))⟩,⟨none,none,(.store 1 (.tmp 4) (.tmp 27))⟩]))))) (.seq (.region [⟨some 28,none,(.load false 1 (.tmp 4))⟩,⟨none,none,(.store 1 (.tmp 4) (.tmp 28))⟩,⟨some 5,none,(.mov (.const (.int .i64 0)))⟩]) .ret)))))
set_option maxRecDepth 100000 in
theorem tab56:tb.code 56=some ⟨29,[(4,some (false,1)),(5,none)],body56⟩:=by kernel_rfl
theorem Order_ok (h:AHeap) (vt vf:Value) (T:List LType) (F:List LFn) (f:Int) (tt:Tbl h) (hm:h.mark≤h.n) (sm:Small T F) (st:SlT h vt T) (sf:SlF h vf F):
  WC Tryz.prog tb 56 [.agg #[vt,vf],I f] h fun r h'=>(∃ v,r= .tuple #[v,I (zU T F f).2]∧OwnN h h' v (zU T F f).1)∧Ext h h':=by
 refine WC.of (zG 56) tab56 ?_;simp only[zN,Nat.zero_add,Nat.reduceAdd]
 refine go ?_
 refine WO.bx ?_
 intro p h1 e1 o1
 refine go ?_
 refine WO.al ?_
 intro p4 h2 e2 o2
 have o2:=o2.since e1
 have o1:=o1.ext e2
 have e02:=e1.trans e2
 refine go ?_
 refine WO.con (zDd h2 vt vf T F f 0 (tt.ext e02) (zh e02 hm) sm (st.ext e02) (SlF.ext sf e02)) ?_
 rintro _ h3 ⟨⟨v,rfl,sb⟩,e3⟩
 have e03:=e02.trans e3
 have o3:=o2.ext e3
 refine go ?_
 refine WX.br (fun hb=> ?_) (fun hb=> ?_)<;>simp only[DB]at hb<;>refine go ?_
 ·refine WO.stC0 o3 e03 ?_
  intro h4 e4 o4 _
  refine go ?_
  rw[show zU T F f=([],(zD T F f 0).2) from by rw[zU,if_pos hb]]
  refine rt ?_ (Res.consB sl_ o4 rfl (Res.cons sl_ Res.nil))
  exact⟨⟨_,rfl,.inl ⟨rfl,rfl⟩⟩,e4⟩
 have hb0:(zD T F f 0).2=0:=by omega
 obtain⟨hlen,hnx⟩:=yv hb0
 obtain⟨_,hpos,_,_⟩:=yN hb0
 have hr0:∀ c∈([0]:List Int),0≤c∧c<((zD T F f 0).1.length:Int):=fun c hc=>by
  rw[List.mem_singleton]at hc;subst hc;exact⟨Int.le_refl _,hpos⟩
 have hlp:=zCK hnx [0] hr0
 rw[show zU T F f=((Z6 T F f).reverse,0) from by rw[zU,if_neg (by omega)]]
 refine WO.bl [0] ?_
 intro v4 h4 e4 o4
 have e04:=e03.trans e4
 have o24:=o3.ext e4
 refine go ?_
 refine WO.con (zGm h4 (zh e04 hm) _ v v4 [0] (SlB.ext sb e4) (by omega) hnx o4.sl (by decide) hr0) ?_
 rintro q h5 ⟨o5,e5⟩
 have e05:=e04.trans e5
 have o25:=o24.ext e5
 obtain⟨qa,qn,qk,rfl⟩:=SlC.shape o5.sl
 refine go ?_
 refine WO.con (zFV h5 _) ?_
 rintro _ h6 ⟨⟨p6,rfl,o6⟩,e6⟩
 have e06:=e05.trans e6
 have o26:=o25.ext e6
 have o56:=(o5.ext e6).since (Ext.refl h4)
 have hpl:Z6 T F f=(ZL (nxL (zD T F f 0).1) (zD T F f 0).1.length [0] ([],[])).2:=rfl
 rw[←hpl]at hlp o56 o5
 generalize Z6 T F f=l at hlp o56 o5 ⊢
 clear hpl
 refine go ?_
 refine WX.rangeG ?_
 intro L g r hO rdy eO hL hg lL lg
 have eOb:=e06.trans eO
 obtain⟨g4,hg4,rfl⟩:∃ g4,g4<h4.n∧p4= .pointer (some ⟨g4,0,none⟩):=let ⟨g,_,a,b,_⟩:=o24;⟨g,a,b⟩
 have oO:=o26.ext eO
 refine WV.func ?_
 refine WC.mono (zEP h5 hO _ p6 (.slice qa qn qk) l (by omega) (fun i h'=>Ext h h'∧UpdC (.pointer (some ⟨g4,0,none⟩)) h6 h'∧Lies h' L (.loop r)∧Lies h' g (.deferred (some []))∧∃ w,OwnC h h' (.pointer (some ⟨g4,0,none⟩)) [w]∧OwnN h6 h' w (l.reverse.take i)) ?_ ?_ ?_) ?_
 ·exact⟨eOb,(UpdC.refl _ h6).extd eO,lL,lg,.slice none 0 0,oO,.inl ⟨rfl,rfl⟩⟩
 ·rintro i h' ⟨_,u',_⟩
  exact⟨o6.offC u' (Nat.lt_of_lt_of_le hg4 e5.n),(o56.offC u' hg4).sl⟩
 ·rintro i h' hi ⟨e',u',lL',lg',w,ow,on⟩
  refine WV.yieldG lL' rdy rfl ?_
  simp only[zBp]
  refine go ?_
  refine zBo ?_
  intro j2 hh2
  have e2':Ext h j2:=by rw[hh2];exact e'.set (Nat.le_trans e06.n hL) lL'.1 _
  have u2':UpdC (.pointer (some ⟨g4,0,none⟩)) h6 j2:=by rw[hh2];exact u'.setL hL
  have ow2:OwnC h j2 (.pointer (some ⟨g4,0,none⟩)) [w]:=by rw[hh2];exact ow.setR lL' rfl
  have on2:OwnN h6 j2 w (l.reverse.take i):=by rw[hh2];exact on.setR lL' rfl
  have lL2:Lies j2 L (.loop (busy r)):=by rw[hh2];exact lL'.self
  have lg2:Lies j2 g (.deferred (some [])):=by
   rw[hh2];refine lg'.set ?_
   intro e;subst e;have:=lg'.2;rw[lL'.2]at this;cases this
  clear hh2
  obtain⟨_,_,_,rfl⟩:=SlC.shape on2.sl
  refine go ?_
  refine WO.bl [l.getD (l.length - 1 - i) 0] ?_
  intro v3 j3 e3' o3'
  refine go ?_
  have e03':=e2'.trans e3'
  have htl:(l.reverse.take i).length≤i:=by rw[List.length_take];omega
  have on3:=on2.ext e3'
  refine WO.appendF (v:= .slice _ _ _) (w:=v3) (by exact yD) (by exact yD) (on3.since e06) o3'.sl e03' (by simp) (by simp only[List.length_singleton];omega) ?_
  intro j4 e4' o4' u4'
  have ow4:=OwnC.upd (ow2.ext e3') (on3.since e06) u4'
  have lL4:=(lL2.ext e3').upd rfl on3 u4'
  have lg4:=(lg2.ext e3').upd rfl on3 u4'
  have u4:=(u2'.extd e3').upd on3 u4'
  refine go ?_
  refine WO.stC0 ow4 e4' ?_
  intro j5 e5' ow5 u5'
  have on5:=(OwnI.updC o4' ow4 u5').rebase (Nat.le_trans u2'.1 e3'.n)
  have lL5:=lL4.updC rfl ow4 u5'
  have lg5:=lg4.updC rfl ow4 u5'
  have u5:=u4.trans u5'
  refine go ?_
  refine zBu lL5 ?_
  have tk:=rev_take l hi
  refine⟨rfl,e5'.set (Nat.le_trans e06.n hL) lL5.1 _,u5.setL hL,lL5.self,lg5.set ?_,_,ow5.setR lL5 rfl,?_⟩
  ·intro e;subst e;have:=lg5.2;rw[lL5.2]at this;cases this
  ·rw[tk];exact(OwnN.setR (.inr on5) lL5 rfl)
 ·rintro _ j2 ⟨e2',u2',lL2,lg2,w,ow,on⟩
  refine⟨lL2,fun r3=> ?_⟩
  have lgL:g≠L:=by intro e;subst e;have:=lg2.2;rw[lL2.2]at this;cases this
  obtain⟨j3,hh3⟩:∃ j3,j3=j2.set L (.loop r3):=⟨_,rfl⟩
  have e3':Ext h j3:=by rw[hh3];exact e2'.set (Nat.le_trans e06.n hL) lL2.1 _
  have ow3:OwnC h j3 (.pointer (some ⟨g4,0,none⟩)) [w]:=by rw[hh3];exact ow.setR lL2 rfl
  have on3:OwnN h6 j3 w (l.reverse.take l.length):=by rw[hh3];exact on.setR lL2 rfl
  have lg3:Lies j3 g (.deferred (some [])):=by rw[hh3];exact lg2.set lgL
  rw[←hh3]
  clear hh3
  obtain⟨_,_,_,rfl⟩:=SlC.shape on3.sl
  rw[List.take_of_length_le (by rw[List.length_reverse];exact Nat.le_refl _)]at on3
  refine go ?_
  refine WO.stC0 ow3 e3' ?_
  intro j4 e4' ow4 u4'
  have lg4:=lg3.updC rfl ow3 u4'
  have on4:=on3.offC u4' (Nat.lt_of_lt_of_le hg4 (e5.trans e6).n)
  refine go ?_
  refine zFI lg4 ?_
  refine rt ?_ (Res.consB sl_ (ow4.setR lg4 rfl) rfl (Res.cons sl_ Res.nil))
  exact⟨⟨_,rfl,(on4.setR lg4 rfl).since e06⟩,e4'.set (Nat.le_trans e06.n hg) lg4.1 _⟩
end Go.Proofs.YtdcgdfbblnljjaaGreatDoor
namespace Go.Proofs.YtdcgdfbblnljjaaGreatDoor
open Go.Am
set_option linter.unusedVariables false
set_option linter.unusedSimpArgs false
def Ord (nx:Int→List Int) (d:List Int):Prop:=∀ d1 u d2,d=d1++u::d2→∀ v∈nx u,v∈d1∨Way nx v u
theorem Ord.snoc {nx:Int→List Int} {d:List Int} {b:Int} (h:Ord nx d) (k:∀ v∈nx b,v∈d∨Way nx v b):Ord nx (d++[b]):=by
 intro d1 u d2 e v hv
 rcases List.eq_nil_or_concat d2 with rfl|⟨d3,x,rfl⟩
 ·have:=List.append_inj' (s₁:=d) (t₁:=[b]) (s₂:=d1) (t₂:=[u]) e rfl
  obtain⟨rfl,e2⟩:=this
  cases e2
  exact k v hv
 ·have e':d++[b]=(d1++u::d3)++[x]:=by rw[e];simp
  obtain⟨e1,e2⟩:=List.append_inj' e' rfl
  exact h d1 u d3 e1 v hv
structure Lv (nx:Int→List Int) (s t:DS):Prop where
 bg:∀ c,Bg s c→Bg t c
 dn:∀ c∈t.2,Bg t c
 nd:t.2.Nodup
 ord:Ord nx t.2
 open_:∀ c,Bg t c→c∈t.2∨Bg s c∧c∉s.2
 old:∀ c∈t.2,c∈s.2∨¬Bg s c
 keep:∀ c∈s.2,c∈t.2
theorem Lv.refl {nx:Int→List Int} {s:DS} (dn:∀ c∈s.2,Bg s c) (nd:s.2.Nodup) (ord:Ord nx s.2):Lv nx s s:=
 ⟨fun _ h=>h,dn,nd,ord,fun c h=>by by_cases e:c∈s.2<;>simp[e,h],fun c h=> .inl h,fun _ h=>h⟩
theorem Lv.trans {nx:Int→List Int} {s t u:DS} (a:Lv nx s t) (b:Lv nx t u):Lv nx s u where
 bg:=fun c h=>b.bg c (a.bg c h)
 dn:=b.dn
 nd:=b.nd
 ord:=b.ord
 open_:=fun c h=>by
  rcases b.open_ c h with h|⟨h1,h2⟩
  ·exact .inl h
  ·rcases a.open_ c h1 with h|h
   ·exact absurd h h2
   ·exact .inr h
 old:=fun c h=>by
  rcases b.old c h with h|h
  ·exact a.old c h
  ·exact .inr fun e=>h (a.bg c e)
 keep:=fun c h=>b.keep c (a.keep c h)
theorem dfs_lv {nx:Int→List Int} {N:Nat} (hin:∀ b,0≤b∧b<(N:Int)→∀ c∈nx b,0≤c∧c<(N:Int)):∀ (n:Nat) (b:Int) (s:DS),unb N s.1≤n→0≤b∧b<(N:Int)→
  (∀ c∈s.2,Bg s c)→s.2.Nodup→Ord nx s.2→(∀ c,Bg s c→c∈s.2∨Way nx c b)→Lv nx s (yj nx n b s):=by
 intro n
 induction n with
 |zero=>intro b s h hb dn nd ord hw;exact Lv.refl dn nd ord
 |succ n ih=>
  intro b s h hb dn nd ord hw
  by_cases hbb:Bg s b
  ·rw[zAL hbb];exact Lv.refl dn nd ord
  ·have hnone:s.1.lookup b=none:=by
    unfold Bg at hbb;cases hq:s.1.lookup b with
    |none=>rfl
    |some w=>rw[hq]at hbb;exact absurd rfl hbb
   have hlt:=zC4 (v:=(s.1.length:Int)) hnone hb
   have go:∀ (l:List Int) (t:DS),unb N t.1≤n→(∀ c∈l,c∈nx b)→(∀ c∈t.2,Bg t c)→t.2.Nodup→Ord nx t.2→(∀ c,Bg t c→c∈t.2∨Way nx c b)→Lv nx t (l.foldl (fun (t:DS) (c:Int)=>yj nx n c t) t):=by
    intro l
    induction l with
    |nil=>intro t _ _ dn nd ord _;exact Lv.refl dn nd ord
    |cons x l ihl=>
     intro t ht hl dn nd ord hw
     have hxn:=hl x (by simp)
     have hx:=ih x t ht (hin b hb x hxn) dn nd ord (fun c hc=>(hw c hc).imp id fun w=> .step w hxn)
     refine hx.trans (ihl _ (Nat.le_trans (zA0 fun c hc=>hx.bg c hc) ht) (fun c hc=>hl c (by simp[hc])) hx.dn hx.nd hx.ord fun c hc=> ?_)
     rcases hx.open_ c hc with h|⟨h1,h2⟩
     ·exact .inl h
     ·rcases hw c h1 with h|h
      ·exact absurd h h2
      ·exact .inr h
   have dn0:∀ c∈s.2,Bg (s.1++[(b,(s.1.length:Int))],s.2) c:=fun c hc=>YU.2 (.inl (dn c hc))
   have hw0:∀ c,Bg (s.1++[(b,(s.1.length:Int))],s.2) c→c∈s.2∨Way nx c b:=fun c hc=>by
    rcases YU.1 hc with h|rfl
    ·exact hw c h
    ·exact .inr .here
   have k:=go (nx b) (s.1++[(b,(s.1.length:Int))],s.2) (by simp only;omega) (fun c hc=>hc) dn0 nd ord hw0
   have k2:=zBW (nx:=nx) (n:=n) hin (nx b) (s.1++[(b,(s.1.length:Int))],s.2) (by simp only;omega) (hin b hb)
   have hu:yj nx (n+1) b s=(((nx b).foldl (fun (t:DS) (c:Int)=>yj nx n c t) (s.1++[(b,(s.1.length:Int))],s.2)).1,((nx b).foldl (fun (t:DS) (c:Int)=>yj nx n c t) (s.1++[(b,(s.1.length:Int))],s.2)).2++[b]):=by
    conv=>lhs;unfold yj
    rw[if_neg (by rw[hnone];exact Bool.noConfusion)]
   have hk2:ZL nx n (nx b) (s.1++[(b,(s.1.length:Int))],s.2)=(nx b).foldl (fun (t:DS) (c:Int)=>yj nx n c t) (s.1++[(b,(s.1.length:Int))],s.2):=rfl
   rw[hk2]at k2
   rw[hu]
   generalize (nx b).foldl (fun (t:DS) (c:Int)=>yj nx n c t) (s.1++[(b,(s.1.length:Int))],s.2)=t at k k2 ⊢
   have hbs:b∉s.2:=fun e=>hbb (dn b e)
   have hb0:Bg (s.1++[(b,(s.1.length:Int))],s.2) b:=YU.2 (.inr rfl)
   have hbt:b∉t.2:=fun e=>by
    rcases k.old b e with h|h
    ·exact hbs h
    ·exact h hb0
   have opn:∀ c,Bg t c→c∈t.2∨c=b∨Bg s c∧c∉s.2:=fun c hc=>by
    rcases k.open_ c hc with h|⟨h1,h2⟩
    ·exact .inl h
    ·rcases YU.1 h1 with h|h
     ·exact .inr (.inr ⟨h,h2⟩)
     ·exact .inr (.inl h)
   refine⟨fun c h=>k.bg c (YU.2 (.inl h)),fun c hc=> ?_,?_,k.ord.snoc fun v hv=> ?_,fun c hc=> ?_,fun c hc=> ?_,fun c hc=> ?_⟩
   ·simp only[List.mem_append,List.mem_singleton]at hc
    rcases hc with h|rfl
    ·exact k.dn c h
    ·exact k.bg _ hb0
   ·simp only
    rw[List.nodup_append]
    exact⟨k.nd,by simp,fun a ha c hc=>by rw[List.mem_singleton]at hc;subst hc;exact fun e=>hbt (e▸ha)⟩
   ·rcases opn v (k2.all v hv)with h|rfl|⟨h1,h2⟩
    ·exact .inl h
    ·exact .inr .here
    ·rcases hw v h1 with h|h
     ·exact absurd h h2
     ·exact .inr h
   ·simp only[List.mem_append,List.mem_singleton]
    rcases opn c hc with h|h|h
    ·exact .inl (.inl h)
    ·exact .inl (.inr h)
    ·exact .inr h
   ·simp only[List.mem_append,List.mem_singleton]at hc
    rcases hc with h|rfl
    ·rcases k.old c h with h|h
     ·exact .inl h
     ·exact .inr fun e=>h (YU.2 (.inl e))
    ·exact .inr hbb
   ·simp only[List.mem_append];exact .inl (k.keep c hc)
theorem zFA {nx:Int→List Int} {N:Nat} (hin:∀ b,0≤b∧b<(N:Int)→∀ c∈nx b,0≤c∧c<(N:Int)) {a:Int} (ha:0≤a∧a<(N:Int)):
  (ZL nx N [a] ([],[])).2.Nodup∧Ord nx (ZL nx N [a] ([],[])).2∧∃ d,(ZL nx N [a] ([],[])).2=d++[a]:=by
 have e:ZL nx N [a] ([],[])=yj nx N a ([],[]):=rfl
 have no:∀ d,¬Bg (([],[]):DS) d:=fun d h=>by unfold Bg at h;exact Bool.noConfusion h
 have k:=dfs_lv (nx:=nx) hin N a ([],[]) (zCN _ _) ha (fun c h=>by cases h) .nil (fun d1 u d2 e=>by cases d1<;>cases e) (fun c h=>absurd h (no c))
 rw[e]
 refine⟨k.nd,k.ord,?_⟩
 obtain⟨n,rfl⟩:∃ n,N=n+1:=⟨N - 1,by omega⟩
 unfold yj
 rw[if_neg (by simp)]
 exact⟨_,rfl⟩
theorem zHK (l:List Int) (hn:l.Nodup):∀ i,i+1<(Zr l).length→(Zr l).getD i 0<(Zr l).getD (i+1) 0:=by
 intro i hi
 have hp:(Zr l).Pairwise (fun a b=>decide (a≤b)=true):=List.pairwise_mergeSort (fun a b c h1 h2=>by simp only[decide_eq_true_eq]at *;omega) (fun a b=>by simp only[Bool.or_eq_true,decide_eq_true_eq];omega) l
 have hd:(Zr l).Nodup:=(List.mergeSort_perm l _).nodup_iff.2 hn
 have h1:=List.pairwise_iff_getElem.1 hp i (i+1) (by omega) hi (by omega)
 have h2:(Zr l)[i]≠(Zr l)[i+1]:=fun e=>by
  have:=(List.getElem_inj hd).1 e;omega
 simp only[decide_eq_true_eq]at h1
 simp only[List.getD_eq_getElem?_getD,List.getElem?_eq_getElem hi,List.getElem?_eq_getElem (show i<(Zr l).length by omega),Option.getD_some]
 omega
theorem zBb {T:List LType} {F:List LFn} {f:Int} (h:(zD T F f 0).2=0):
  (zU T F f).1.length=(yW T F f).1.length∧(zU T F f).1.length≤16∧(∃ l,(zU T F f).1=0::l)∧(∀ c,c∈(yW T F f).1→c∈(zU T F f).1)∧
  (∀ n,n+1<(yW T F f).1.length→(yW T F f).1.getD n 0<(yW T F f).1.getD (n+1) 0)∧(∀ c∈(zU T F f).1,0≤c∧c<((zD T F f 0).1.length:Int))∧
  (∀ i k,i<(zU T F f).1.length→k<(zU T F f).1.length→(zU T F f).1.getD k 0∈nxL (zD T F f 0).1 ((zU T F f).1.getD i 0)→¬Way (nxL (zD T F f 0).1) ((zU T F f).1.getD k 0) ((zU T F f).1.getD i 0)→i<k):=by
 obtain⟨_,hpos,_,_⟩:=yN h
 obtain⟨hlen,hin⟩:=yv h
 have hr0:∀ c∈([0]:List Int),0≤c∧c<((zD T F f 0).1.length:Int):=fun c hc=>by
  rw[List.mem_singleton]at hc;subst hc;exact⟨Int.le_refl _,hpos⟩
 obtain⟨nd,ord,d,hd⟩:=zFA hin (hr0 0 (by simp))
 have hl:=zCK hin [0] hr0
 have eO:(zU T F f).1=(Z6 T F f).reverse:=by unfold zU;rw[if_neg (by rw[h];exact fun e=>e rfl)]
 have eR:(yW T F f).1=Zr (Z6 T F f):=by unfold yW;rw[if_neg (by rw[h];exact fun e=>e rfl)]
 have eP:Z6 T F f=(ZL (nxL (zD T F f 0).1) (zD T F f 0).1.length [0] ([],[])).2:=rfl
 have hmem:∀ c,c∈Z6 T F f→0≤c∧c<((zD T F f 0).1.length:Int):=fun c hc=>by
  rw[eP,zGg hin hr0]at hc
  obtain⟨a,ha,w⟩:=hc
  have ha':=hr0 a ha
  clear ha
  induction w with
  |here=>exact ha'
  |step _ hd ih=>exact hin _ ih _ hd
 rw[←eP]at nd ord hd hl
 rw[eO,eR]
 generalize Z6 T F f=l at *
 refine⟨by rw[List.length_reverse,zHO],by rw[List.length_reverse];omega,⟨d.reverse,by rw[hd];simp⟩,fun c hc=>by rw[List.mem_reverse];exact zDR.1 hc,zHK l nd,fun c hc=>hmem c (List.mem_reverse.1 hc),fun i k hi hk he hw=> ?_⟩
 rw[List.length_reverse]at hi hk
 have ei:l.reverse.getD i 0=l.getD (l.length - 1 - i) 0:=by
  rw[List.getD_eq_getElem?_getD,List.getElem?_reverse hi,List.getD_eq_getElem?_getD]
 have ek:l.reverse.getD k 0=l.getD (l.length - 1 - k) 0:=by
  rw[List.getD_eq_getElem?_getD,List.getElem?_reverse hk,List.getD_eq_getElem?_getD]
 rw[ei,ek]at he hw
 have hi2:l.length - 1 - i<l.length:=by omega
 have hk2:l.length - 1 - k<l.length:=by omega
 have hsplit:l=l.take (l.length - 1 - i)++l.getD (l.length - 1 - i) 0::l.drop (l.length - 1 - i+1):=by
  conv=>lhs;rw[←List.take_append_drop (l.length - 1 - i) l,List.drop_eq_getElem_cons hi2]
  simp[List.getD,List.getElem?_eq_getElem hi2]
 rcases ord _ _ _ hsplit _ he with hm|hm
 ·obtain⟨j,hj,e⟩:=List.mem_iff_getElem.1 hm
  rw[List.length_take]at hj
  rw[List.getElem_take]at e
  have e2:l.getD (l.length - 1 - k) 0=l[l.length - 1 - k]:=by simp[List.getD,List.getElem?_eq_getElem hk2]
  rw[e2]at e
  have:=(List.getElem_inj nd).1 e
  omega
 ·exact absurd hm hw
end Go.Proofs.YtdcgdfbblnljjaaGreatDoor
namespace Go.Proofs.YtdcgdfbblnljjaaGreatDoor
open Go.Am
set_option maxRecDepth 1000000 in
theorem tb_ok:tb.Ok Tryz.prog where
 code:=fun _ _ h=>h
 stub:=fun f s hs=>by cases hs
 grow:=fun f s hs args h v h' hk=>by cases hs
end Go.Proofs.YtdcgdfbblnljjaaGreatDoor
namespace Go.Proofs.YtdcgdfbblnljjaaGreatDoor
open Go.Am
set_option linter.unusedVariables false
set_option linter.unusedSimpArgs false
theorem wf_u8 {n:Int} (h:(Lit.int .u8 n).wf=true):0≤n∧n≤255:=by
 simp[Lit.wf,IntKind.wrap,IntKind.signed,IntKind.bits]at h
 have h1:IntKind.min .u8=0:=by decide
 have h2:IntKind.max .u8=255:=by decide
 omega
theorem len2 {l:List Value} (h:l.length=2):∃ a b,l=[a,b]:=by
 match l,h with
 |[a,b],_=>exact⟨a,b,rfl⟩
theorem len4 {l:List Value} (h:l.length=4):∃ a b c d,l=[a,b,c,d]:=by
 match l,h with
 |[a,b,c,d],_=>exact⟨a,b,c,d,rfl⟩
theorem len5 {l:List Value} (h:l.length=5):∃ a b c d e,l=[a,b,c,d,e]:=by
 match l,h with
 |[a,b,c,d,e],_=>exact⟨a,b,c,d,e,rfl⟩
theorem len7 {l:List Value} (h:l.length=7):∃ a b c d e f g,l=[a,b,c,d,e,f,g]:=by
 match l,h with
 |[a,b,c,d,e,f,g],_=>exact⟨a,b,c,d,e,f,g,rfl⟩
section
variable {H:Type} {h:AHeap}
theorem rd_type (cs:List Value) (d:DataW H) (r:Rd Tryz.prog h 88 cs d) (hw:wOk Tryz.prog 88 d):∃ a,RTy h cs a:=by
 obtain⟨hl,hr⟩:=Zf r Tryz.underlying88 hw
 have hc:Tryz.prog.cellsOf 88=4:=by kernel_rfl
 rw[hc]at hl
 obtain⟨x0,x1,x2,x3,rfl⟩:∃ x0 x1 x2 x3,cs=[x0,x1,x2,x3]:=by
  exact len4 hl
 obtain⟨d0,r0,w0⟩:=hr 0 _ rfl
 have c0:Tryz.prog.cellsOf 5=1:=by kernel_rfl
 replace r0:Rd Tryz.prog h 5 (([x0,x1,x2,x3].drop 0).take (Tryz.prog.cellsOf 5)) d0:=r0
 replace w0:wOk Tryz.prog 5 d0:=w0
 rw[c0]at r0
 replace r0:Rd Tryz.prog h 5 [x0] d0:=r0
 obtain⟨d1,r1,w1⟩:=hr 1 _ rfl
 have c1:Tryz.prog.cellsOf 3=1:=by kernel_rfl
 replace r1:Rd Tryz.prog h 3 (([x0,x1,x2,x3].drop 1).take (Tryz.prog.cellsOf 3)) d1:=r1
 replace w1:wOk Tryz.prog 3 d1:=w1
 rw[c1]at r1
 replace r1:Rd Tryz.prog h 3 [x1] d1:=r1
 obtain⟨d2,r2,w2⟩:=hr 2 _ rfl
 have c2:Tryz.prog.cellsOf 3=1:=by kernel_rfl
 replace r2:Rd Tryz.prog h 3 (([x0,x1,x2,x3].drop 2).take (Tryz.prog.cellsOf 3)) d2:=r2
 replace w2:wOk Tryz.prog 3 d2:=w2
 rw[c2]at r2
 replace r2:Rd Tryz.prog h 3 [x2] d2:=r2
 obtain⟨d3,r3,w3⟩:=hr 3 _ rfl
 have c3:Tryz.prog.cellsOf 37=1:=by kernel_rfl
 replace r3:Rd Tryz.prog h 37 (([x0,x1,x2,x3].drop 3).take (Tryz.prog.cellsOf 37)) d3:=r3
 replace w3:wOk Tryz.prog 37 d3:=w3
 rw[c3]at r3
 replace r3:Rd Tryz.prog h 37 [x3] d3:=r3
 obtain⟨k,e0,f0⟩:=yx r0 Tryz.underlying5
 cases e0
 obtain⟨e,e1,f1⟩:=yx r1 Tryz.underlying3
 cases e1
 obtain⟨m,e2,f2⟩:=yx r2 Tryz.underlying3
 cases e2
 obtain⟨va,l,e3,s3,b3,_⟩:=zCT r3 Tryz.underlying37 Tryz.underlying3 (by kernel_rfl) (by decide+kernel) w3
 cases e3
 exact⟨⟨k,e,m,l⟩,_,rfl,s3,by simp only;omega⟩
theorem rd_ins (cs:List Value) (d:DataW H) (r:Rd Tryz.prog h 60 cs d) (hw:wOk Tryz.prog 60 d):∃ a,RIns h cs a:=by
 obtain⟨hl,hr⟩:=Zf r Tryz.underlying60 hw
 have hc:Tryz.prog.cellsOf 60=7:=by kernel_rfl
 rw[hc]at hl
 obtain⟨x0,x1,x2,x3,x4,x5,x6,rfl⟩:∃ x0 x1 x2 x3 x4 x5 x6,cs=[x0,x1,x2,x3,x4,x5,x6]:=by
  exact len7 hl
 obtain⟨d0,r0,w0⟩:=hr 0 _ rfl
 have c0:Tryz.prog.cellsOf 5=1:=by kernel_rfl
 replace r0:Rd Tryz.prog h 5 (([x0,x1,x2,x3,x4,x5,x6].drop 0).take (Tryz.prog.cellsOf 5)) d0:=r0
 replace w0:wOk Tryz.prog 5 d0:=w0
 rw[c0]at r0
 replace r0:Rd Tryz.prog h 5 [x0] d0:=r0
 obtain⟨d1,r1,w1⟩:=hr 1 _ rfl
 have c1:Tryz.prog.cellsOf 3=1:=by kernel_rfl
 replace r1:Rd Tryz.prog h 3 (([x0,x1,x2,x3,x4,x5,x6].drop 1).take (Tryz.prog.cellsOf 3)) d1:=r1
 replace w1:wOk Tryz.prog 3 d1:=w1
 rw[c1]at r1
 replace r1:Rd Tryz.prog h 3 [x1] d1:=r1
 obtain⟨d2,r2,w2⟩:=hr 2 _ rfl
 have c2:Tryz.prog.cellsOf 3=1:=by kernel_rfl
 replace r2:Rd Tryz.prog h 3 (([x0,x1,x2,x3,x4,x5,x6].drop 2).take (Tryz.prog.cellsOf 3)) d2:=r2
 replace w2:wOk Tryz.prog 3 d2:=w2
 rw[c2]at r2
 replace r2:Rd Tryz.prog h 3 [x2] d2:=r2
 obtain⟨d3,r3,w3⟩:=hr 3 _ rfl
 have c3:Tryz.prog.cellsOf 3=1:=by kernel_rfl
 replace r3:Rd Tryz.prog h 3 (([x0,x1,x2,x3,x4,x5,x6].drop 3).take (Tryz.prog.cellsOf 3)) d3:=r3
 replace w3:wOk Tryz.prog 3 d3:=w3
 rw[c3]at r3
 replace r3:Rd Tryz.prog h 3 [x3] d3:=r3
 obtain⟨d4,r4,w4⟩:=hr 4 _ rfl
 have c4:Tryz.prog.cellsOf 2=1:=by kernel_rfl
 replace r4:Rd Tryz.prog h 2 (([x0,x1,x2,x3,x4,x5,x6].drop 4).take (Tryz.prog.cellsOf 2)) d4:=r4
 replace w4:wOk Tryz.prog 2 d4:=w4
 rw[c4]at r4
 replace r4:Rd Tryz.prog h 2 [x4] d4:=r4
 obtain⟨d5,r5,w5⟩:=hr 5 _ rfl
 have c5:Tryz.prog.cellsOf 37=1:=by kernel_rfl
 replace r5:Rd Tryz.prog h 37 (([x0,x1,x2,x3,x4,x5,x6].drop 5).take (Tryz.prog.cellsOf 37)) d5:=r5
 replace w5:wOk Tryz.prog 37 d5:=w5
 rw[c5]at r5
 replace r5:Rd Tryz.prog h 37 [x5] d5:=r5
 obtain⟨d6,r6,w6⟩:=hr 6 _ rfl
 have c6:Tryz.prog.cellsOf 37=1:=by kernel_rfl
 replace r6:Rd Tryz.prog h 37 (([x0,x1,x2,x3,x4,x5,x6].drop 6).take (Tryz.prog.cellsOf 37)) d6:=r6
 replace w6:wOk Tryz.prog 37 d6:=w6
 rw[c6]at r6
 replace r6:Rd Tryz.prog h 37 [x6] d6:=r6
 obtain⟨op,e0,f0⟩:=yx r0 Tryz.underlying5
 cases e0
 obtain⟨ty,e1,f1⟩:=yx r1 Tryz.underlying3
 cases e1
 obtain⟨a,e2,f2⟩:=yx r2 Tryz.underlying3
 cases e2
 obtain⟨b,e3,f3⟩:=yx r3 Tryz.underlying3
 cases e3
 obtain⟨n,e4,f4⟩:=yx r4 Tryz.underlying2
 cases e4
 obtain⟨va,la,e5,s5,b5,_⟩:=zCT r5 Tryz.underlying37 Tryz.underlying3 (by kernel_rfl) (by decide+kernel) w5
 cases e5
 obtain⟨vf,lf,e6,s6,b6,_⟩:=zCT r6 Tryz.underlying37 Tryz.underlying3 (by kernel_rfl) (by decide+kernel) w6
 cases e6
 exact⟨⟨op,ty,a,b,n,la,lf⟩,_,_,rfl,s5,s6,b5,b6,wf_u8 f0⟩
theorem rd_end (cs:List Value) (d:DataW H) (r:Rd Tryz.prog h 56 cs d) (hw:wOk Tryz.prog 56 d):∃ x:LEnd,cs=[.int .u8 x.kind,I x.a,I x.to,I x.els]:=by
 obtain⟨hl,hr⟩:=Zf r Tryz.underlying56 hw
 have hc:Tryz.prog.cellsOf 56=4:=by kernel_rfl
 rw[hc]at hl
 obtain⟨x0,x1,x2,x3,rfl⟩:∃ x0 x1 x2 x3,cs=[x0,x1,x2,x3]:=by
  exact len4 hl
 obtain⟨d0,r0,w0⟩:=hr 0 _ rfl
 have c0:Tryz.prog.cellsOf 5=1:=by kernel_rfl
 replace r0:Rd Tryz.prog h 5 (([x0,x1,x2,x3].drop 0).take (Tryz.prog.cellsOf 5)) d0:=r0
 replace w0:wOk Tryz.prog 5 d0:=w0
 rw[c0]at r0
 replace r0:Rd Tryz.prog h 5 [x0] d0:=r0
 obtain⟨d1,r1,w1⟩:=hr 1 _ rfl
 have c1:Tryz.prog.cellsOf 3=1:=by kernel_rfl
 replace r1:Rd Tryz.prog h 3 (([x0,x1,x2,x3].drop 1).take (Tryz.prog.cellsOf 3)) d1:=r1
 replace w1:wOk Tryz.prog 3 d1:=w1
 rw[c1]at r1
 replace r1:Rd Tryz.prog h 3 [x1] d1:=r1
 obtain⟨d2,r2,w2⟩:=hr 2 _ rfl
 have c2:Tryz.prog.cellsOf 3=1:=by kernel_rfl
 replace r2:Rd Tryz.prog h 3 (([x0,x1,x2,x3].drop 2).take (Tryz.prog.cellsOf 3)) d2:=r2
 replace w2:wOk Tryz.prog 3 d2:=w2
 rw[c2]at r2
 replace r2:Rd Tryz.prog h 3 [x2] d2:=r2
 obtain⟨d3,r3,w3⟩:=hr 3 _ rfl
 have c3:Tryz.prog.cellsOf 3=1:=by kernel_rfl
 replace r3:Rd Tryz.prog h 3 (([x0,x1,x2,x3].drop 3).take (Tryz.prog.cellsOf 3)) d3:=r3
 replace w3:wOk Tryz.prog 3 d3:=w3
 rw[c3]at r3
 replace r3:Rd Tryz.prog h 3 [x3] d3:=r3
 obtain⟨k,e0,f0⟩:=yx r0 Tryz.underlying5
 cases e0
 obtain⟨a,e1,f1⟩:=yx r1 Tryz.underlying3
 cases e1
 obtain⟨t,e2,f2⟩:=yx r2 Tryz.underlying3
 cases e2
 obtain⟨e,e3,f3⟩:=yx r3 Tryz.underlying3
 cases e3
 exact⟨⟨k,a,t,e⟩,rfl⟩
theorem rd_block (cs:List Value) (d:DataW H) (r:Rd Tryz.prog h 58 cs d) (hw:wOk Tryz.prog 58 d):∃ a,RBlk h cs a:=by
 obtain⟨hl,hr⟩:=Zf r Tryz.underlying58 hw
 have hc:Tryz.prog.cellsOf 58=5:=by kernel_rfl
 rw[hc]at hl
 obtain⟨x0,x1,x2,x3,x4,rfl⟩:∃ x0 x1 x2 x3 x4,cs=[x0,x1,x2,x3,x4]:=by
  exact len5 hl
 obtain⟨d0,r0,w0⟩:=hr 0 _ rfl
 have c0:Tryz.prog.cellsOf 54=1:=by kernel_rfl
 replace r0:Rd Tryz.prog h 54 (([x0,x1,x2,x3,x4].drop 0).take (Tryz.prog.cellsOf 54)) d0:=r0
 replace w0:wOk Tryz.prog 54 d0:=w0
 rw[c0]at r0
 replace r0:Rd Tryz.prog h 54 [x0] d0:=r0
 obtain⟨d1,r1,w1⟩:=hr 1 _ rfl
 have c1:Tryz.prog.cellsOf 56=4:=by kernel_rfl
 replace r1:Rd Tryz.prog h 56 (([x0,x1,x2,x3,x4].drop 1).take (Tryz.prog.cellsOf 56)) d1:=r1
 replace w1:wOk Tryz.prog 56 d1:=w1
 rw[c1]at r1
 replace r1:Rd Tryz.prog h 56 [x1,x2,x3,x4] d1:=r1
 obtain⟨vi,li,e0,s0,b0⟩:=zBQ r0 Tryz.underlying54 (c:=7) (by kernel_rfl) (by decide+kernel) w0 rd_ins
 cases e0
 obtain⟨en,e1⟩:=rd_end _ _ r1 w1
 cases e1
 exact⟨⟨li,en⟩,_,rfl,s0,b0⟩
theorem rd_func (cs:List Value) (d:DataW H) (r:Rd Tryz.prog h 53 cs d) (hw:wOk Tryz.prog 53 d):∃ a,RFn h cs a:=by
 obtain⟨hl,hr⟩:=Zf r Tryz.underlying53 hw
 have hc:Tryz.prog.cellsOf 53=2:=by kernel_rfl
 rw[hc]at hl
 obtain⟨x0,x1,rfl⟩:∃ x0 x1,cs=[x0,x1]:=by
  exact len2 hl
 obtain⟨d0,r0,w0⟩:=hr 0 _ rfl
 have c0:Tryz.prog.cellsOf 3=1:=by kernel_rfl
 replace r0:Rd Tryz.prog h 3 (([x0,x1].drop 0).take (Tryz.prog.cellsOf 3)) d0:=r0
 replace w0:wOk Tryz.prog 3 d0:=w0
 rw[c0]at r0
 replace r0:Rd Tryz.prog h 3 [x0] d0:=r0
 obtain⟨d1,r1,w1⟩:=hr 1 _ rfl
 have c1:Tryz.prog.cellsOf 51=1:=by kernel_rfl
 replace r1:Rd Tryz.prog h 51 (([x0,x1].drop 1).take (Tryz.prog.cellsOf 51)) d1:=r1
 replace w1:wOk Tryz.prog 51 d1:=w1
 rw[c1]at r1
 replace r1:Rd Tryz.prog h 51 [x1] d1:=r1
 obtain⟨sg,e0,f0⟩:=yx r0 Tryz.underlying3
 cases e0
 obtain⟨vb,lb,e1,s1,b1⟩:=zBQ r1 Tryz.underlying51 (c:=5) (by kernel_rfl) (by decide+kernel) w1 rd_block
 cases e1
 exact⟨⟨sg,lb⟩,_,rfl,s1,b1⟩
theorem rd_prog (cs:List Value) (d:DataW H) (r:Rd Tryz.prog h 25 cs d) (hw:wOk Tryz.prog 25 d):∃ vt vf T F,cs=[vt,vf]∧SlT h vt T∧SlF h vf F∧(T.length:Int)≤1152921504606846976∧(F.length:Int)≤1152921504606846976:=by
 obtain⟨hl,hr⟩:=Zf r Tryz.underlying25 hw
 have hc:Tryz.prog.cellsOf 25=2:=by kernel_rfl
 rw[hc]at hl
 obtain⟨x0,x1,rfl⟩:∃ x0 x1,cs=[x0,x1]:=by
  exact len2 hl
 obtain⟨d0,r0,w0⟩:=hr 0 _ rfl
 have c0:Tryz.prog.cellsOf 22=1:=by kernel_rfl
 replace r0:Rd Tryz.prog h 22 (([x0,x1].drop 0).take (Tryz.prog.cellsOf 22)) d0:=r0
 replace w0:wOk Tryz.prog 22 d0:=w0
 rw[c0]at r0
 replace r0:Rd Tryz.prog h 22 [x0] d0:=r0
 obtain⟨d1,r1,w1⟩:=hr 1 _ rfl
 have c1:Tryz.prog.cellsOf 23=1:=by kernel_rfl
 replace r1:Rd Tryz.prog h 23 (([x0,x1].drop 1).take (Tryz.prog.cellsOf 23)) d1:=r1
 replace w1:wOk Tryz.prog 23 d1:=w1
 rw[c1]at r1
 replace r1:Rd Tryz.prog h 23 [x1] d1:=r1
 obtain⟨vt,lt,e0,s0,b0⟩:=zBQ r0 Tryz.underlying22 (c:=4) (by kernel_rfl) (by decide+kernel) w0 rd_type
 cases e0
 obtain⟨vf,lf,e1,s1,b1⟩:=zBQ r1 Tryz.underlying23 (c:=2) (by kernel_rfl) (by decide+kernel) w1 rd_func
 cases e1
 exact⟨_,_,lt,lf,rfl,s0,s1,b0,b1⟩
end
end Go.Proofs.YtdcgdfbblnljjaaGreatDoor
namespace Go.Proofs.YtdcgdfbblnljjaaGreatDoor
open Go.Am
set_option linter.unusedVariables false
set_option linter.unusedSimpArgs false
set_option maxHeartbeats 4000000
end Go.Proofs.YtdcgdfbblnljjaaGreatDoor
namespace Go.Proofs.YtdcgdfbblnljjaaGreatDoor
open Go.Am
set_option linter.unusedVariables false
set_option linter.unusedSimpArgs false
theorem DBI:(∀ a:Prop,∀ [Decidable a],(decide a=true)=a)∧(∀ a:Prop,∀ [Decidable a],(decide a=false)=¬a)∧(∀ b:Bool,((!b)=true)=(b=false))∧(∀ b:Bool,((!b)=false)=(b=true))∧
  ((true=true)=True)∧((false=false)=True)∧((true=false)=False)∧((false=true)=False)∧(∀ a:Prop,(True↔a)=a)∧(∀ a:Prop,(False↔a)=¬a)∧(∀ a b:Bool,((a&&b)=true)=(a=true∧b=true))∧(∀ a b:Bool,((a||b)=true)=(a=true∨b=true)):=
 ⟨fun a _=>by simp,fun a _=>by simp,fun b=>by simp,fun b=>by simp,by simp,by simp,by simp,by simp,fun a=>by simp,fun a=>by simp,fun a b=>by simp,fun a b=>by simp⟩
def PlT (T:List LType) (k:Int):Prop:=0≤k∧k<(T.length:Int)∧((T.getD k.toNat default).kind=1∨(T.getD k.toNat default).kind=2∨(T.getD k.toNat default).kind=3)
def zB0 (T:List LType) (x:LType):Prop:=(∀ p∈x.parts,PlT T p)∧PlT T x.elem∧x.parts.length≤4∧x.many=0
def MayX (T:List LType) (x:LType) (k:Nat):Prop:=
 (x.kind=1∧x.elem=0∧x.many=0∧x.parts.length=0)∨
 (x.kind=2∧0≤x.elem∧x.elem<(T.length:Int)∧x.many=0∧x.parts.length=0)∨
 (x.kind=3∧zB0 T x)∨
 (x.kind=4∧x.elem=0∧x.many=0∧1≤x.parts.length∧x.parts.length≤8∧∀ p∈x.parts,0≤p∧p<(k:Int))∨
 (x.kind=5∧0≤x.elem∧x.elem<(k:Int)∧1≤x.many∧x.many≤16∧x.parts.length=0)
def Yb (T:List LType) (k:Nat):Prop:=MayX T (T.getD k default) k
def ofF (T:List LType):Nat→Int→List Int
 |0,k=>[k]
 |n+1,k=>let x:=T.getD k.toNat default
  if x.kind=4 then (x.parts.map (ofF T n)).flatten else if x.kind=5 then (List.replicate x.many.toNat (ofF T n x.elem)).flatten else [k]
def ofL (T:List LType) (k:Nat):List Int:=ofF T (k+1) k
def LowT (T:List LType) (k:Nat):Prop:=∀ j,j<k→Yb T j∧(ofL T j).length≤32
theorem zEl {T:List LType}:∀ (n m:Nat) (k:Nat),k<n→k<m→(∀ j,j≤k→Yb T j)→ofF T n k=ofF T m k:=by
 intro n
 induction n with
 |zero=>intro m k h;omega
 |succ n ih=>
  intro m k h1 h2 hM
  obtain⟨m,rfl⟩:∃ q,m=q+1:=⟨m - 1,by omega⟩
  have hk:=hM k (Nat.le_refl _)
  unfold ofF
  simp only[Int.toNat_natCast]
  split
  ·rename_i h4
   congr 1
   refine List.map_congr_left fun p hp=> ?_
   unfold Yb MayX at hk
   have hp':0≤p∧p<(k:Int):=by
    rcases hk with h|h|h|h|h
    ·omega
    ·omega
    ·omega
    ·exact h.2.2.2.2.2 p hp
    ·omega
   obtain⟨q,rfl⟩:∃ q:Nat,p=q:=⟨p.toNat,by omega⟩
   exact ih m q (by omega) (by omega) fun j hj=>hM j (by omega)
  ·split
   ·rename_i h4 h5
    unfold Yb MayX at hk
    have hp':0≤(T.getD k default).elem∧(T.getD k default).elem<(k:Int):=by omega
    obtain⟨q,hq⟩:∃ q:Nat,(T.getD k default).elem=q:=⟨(T.getD k default).elem.toNat,by omega⟩
    rw[hq,ih m q (by omega) (by omega) fun j hj=>hM j (by omega)]
   ·rfl
theorem zCr {T:List LType} {k:Nat} (hM:∀ j,j≤k→Yb T j):ofL T k=let x:=T.getD k default
  if x.kind=4 then (x.parts.map fun p=>ofL T p.toNat).flatten else if x.kind=5 then (List.replicate x.many.toNat (ofL T x.elem.toNat)).flatten else [(k:Int)]:=by
 have hk:=hM k (Nat.le_refl _)
 unfold Yb MayX at hk
 unfold ofL
 rw[ofF]
 simp only[Int.toNat_natCast]
 split
 ·rename_i h4
  congr 1
  refine List.map_congr_left fun p hp=> ?_
  have hp':0≤p∧p<(k:Int):=by
   rcases hk with h|h|h|h|h
   ·omega
   ·omega
   ·omega
   ·exact h.2.2.2.2.2 p hp
   ·omega
  obtain⟨q,rfl⟩:∃ q:Nat,p=q:=⟨p.toNat,by omega⟩
  exact zEl _ _ q (by omega) (by omega) fun j hj=>hM j (by omega)
 ·split
  ·rename_i h4 h5
   have hp':0≤(T.getD k default).elem∧(T.getD k default).elem<(k:Int):=by omega
   obtain⟨q,hq⟩:∃ q:Nat,(T.getD k default).elem=q:=⟨(T.getD k default).elem.toNat,by omega⟩
   rw[hq,Int.toNat_natCast,zEl k (q+1) q (by omega) (by omega) fun j hj=>hM j (by omega)]
  ·rfl
theorem Yj {m:Int} {l:List Int}:yX m l=true↔∀ p∈l,0≤p∧p<m:=by
 unfold yX
 rw[List.all_eq_true]
 simp
theorem zEg {x:LType}:ZV x=true↔x.kind=1∨x.kind=2∨x.kind=3:=by
 unfold ZV;simp;omega
theorem len_flat (l:List Int) (f:Int→List Int):((l.map f).flatten.length:Int)=(l.map fun p=>((f p).length:Int)).sum:=by
 induction l with
 |nil=>rfl
 |cons a l ih=>simp only[List.map_cons,List.flatten_cons,List.length_append,List.sum_cons,Int.natCast_add,ih]
theorem zGa (n:Nat) (l:List Int):(List.replicate n l).flatten.length=n * l.length:=by
 induction n with
 |zero=>simp
 |succ n ih=>rw[List.replicate_succ,List.flatten_cons,List.length_append,ih,Nat.succ_mul];omega
theorem zEr {T:List LType} {k:Nat} {s:List Int} (hk:k<T.length) (hl:LowT T k) (hs:s.length=k) (hv:∀ j,j<k→s.getD j 0=((ofL T j).length:Int)):
  ((y9 T (T.getD k default) k s).2=true↔Yb T k∧(ofL T k).length≤32)∧((y9 T (T.getD k default) k s).2=true→(y9 T (T.getD k default) k s).1=((ofL T k).length:Int)):=by
 have hun:Yb T k→ofL T k=_:=fun h=>zCr fun j hj=>by
  by_cases e:j=k
  ·subst e;exact h
  ·exact(hl j (by omega)).1
 generalize hx:T.getD k default=x at *
 have hM:Yb T k↔MayX T x k:=by unfold Yb;rw[hx]
 unfold MayX at hM
 have plain1:x.kind=1→(yG x=true↔x.elem=0∧x.many=0∧x.parts.length=0):=fun h=>by unfold yG;simp[h,and_assoc]
 have plain2:x.kind=2→(yG x=true↔x.many=0∧x.parts.length=0):=fun h=>by unfold yG;simp[h]
 have plain3:x.kind=3→(yG x=true↔x.many=0):=fun h=>by unfold yG;simp[h]
 have plain4:x.kind=4→(yG x=true↔x.elem=0∧x.many=0):=fun h=>by unfold yG;simp[h]
 have plain5:x.kind=5→(yG x=true↔x.parts.length=0):=fun h=>by unfold yG;simp[h]
 by_cases h1:x.kind=1
 ·have e:y9 T x k s=(1,yG x):=by unfold y9;rw[if_pos h1]
  rw[e,plain1 h1]
  refine⟨⟨fun h=> ?_,fun h=> ?_⟩,fun h=> ?_⟩
  ·have:=hM.2 (.inl ⟨h1,h⟩)
   refine⟨this,?_⟩
   rw[hun this];simp[h1]
  ·have:=hM.1 h.1;omega
  ·have:=hM.2 (.inl ⟨h1,h⟩)
   rw[hun this];simp[h1]
 by_cases h2:x.kind=2
 ·have e:y9 T x k s=(1,yG x&&yX T.length [x.elem]):=by unfold y9;rw[if_neg h1,if_pos h2]
  have e2:(yG x&&yX T.length [x.elem])=true↔(x.many=0∧x.parts.length=0)∧0≤x.elem∧x.elem<(T.length:Int):=by
   rw[Bool.and_eq_true,plain2 h2,Yj];simp
  rw[e,e2]
  have key:(x.many=0∧x.parts.length=0)∧0≤x.elem∧x.elem<(T.length:Int)→Yb T k:=fun h=>hM.2 (.inr (.inl ⟨h2,h.2.1,h.2.2,h.1.1,h.1.2⟩))
  refine⟨⟨fun h=>⟨key h,?_⟩,fun h=> ?_⟩,fun h=> ?_⟩
  ·rw[hun (key h)];simp[h2]
  ·have:=hM.1 h.1;omega
  ·rw[hun (key h)];simp[h2]
 by_cases h3:x.kind=3
 ·rw[zEY h3]
  have e2:(yG x&&decide (x.parts.length≤4)&&yX T.length (x.elem::x.parts)&&(x.elem::x.parts).all fun n=>ZV (T.getD n.toNat default))=true↔zB0 T x:=by
   unfold zB0 PlT
   simp only[Bool.and_eq_true,plain3 h3,decide_eq_true_eq,Yj,List.all_eq_true,zEg,List.mem_cons]
   constructor
   ·rintro⟨⟨⟨a,b⟩,c⟩,d⟩
    exact⟨fun p hp=>⟨(c p (.inr hp)).1,(c p (.inr hp)).2,d p (.inr hp)⟩,⟨(c _ (.inl rfl)).1,(c _ (.inl rfl)).2,d _ (.inl rfl)⟩,b,a⟩
   ·rintro⟨a,b,c,d⟩
    refine⟨⟨⟨d,c⟩,?_⟩,?_⟩
    ·rintro p (rfl|hp)
     ·exact⟨b.1,b.2.1⟩
     ·exact⟨(a p hp).1,(a p hp).2.1⟩
    ·rintro p (rfl|hp)
     ·exact b.2.2
     ·exact(a p hp).2.2
  simp only[e2]
  have key:zB0 T x→Yb T k:=fun h=>hM.2 (.inr (.inr (.inl ⟨h3,h⟩)))
  refine⟨⟨fun h=>⟨key h,?_⟩,fun h=> ?_⟩,fun h=> ?_⟩
  ·rw[hun (key h)];simp[h3]
  ·rcases hM.1 h.1 with h|h|h|h|h
   ·omega
   ·omega
   ·exact h.2
   ·omega
   ·omega
  ·rw[hun (key h)];simp[h3]
 by_cases h4:x.kind=4
 ·rw[mayL4 h4]
  have e2:(yG x&&yX k x.parts)=true↔(x.elem=0∧x.many=0)∧∀ p∈x.parts,0≤p∧p<(k:Int):=by
   rw[Bool.and_eq_true,plain4 h4,Yj]
  by_cases hp:(yG x&&yX k x.parts)=true
  ·rw[if_pos hp]
   have hp2:=e2.1 hp
   have hsum:(x.parts.map fun n=>s.getD n.toNat 0).sum=(x.parts.map fun p=>((ofL T p.toNat).length:Int)).sum:=by
    congr 1
    refine List.map_congr_left fun p hpp=> ?_
    have:=hp2.2 p hpp
    exact hv p.toNat (by omega)
   have key:1≤x.parts.length∧x.parts.length≤8→Yb T k:=fun h=>hM.2 (.inr (.inr (.inr (.inl ⟨h4,hp2.1.1,hp2.1.2,h.1,h.2,hp2.2⟩))))
   have hlen:Yb T k→((ofL T k).length:Int)=(x.parts.map fun p=>((ofL T p.toNat).length:Int)).sum:=fun h=>by
    rw[hun h];simp only[h4,if_true];rw[len_flat]
   simp only[Bool.and_eq_true,decide_eq_true_eq]
   refine⟨⟨fun h=> ?_,fun h=> ?_⟩,fun h=> ?_⟩
   ·have hk2:=key (by omega)
    have:=hlen hk2
    exact⟨hk2,by omega⟩
   ·have:=hlen h.1
    have h5:=hM.1 h.1
    omega
   ·rw[hsum,hlen (key (by omega))]
  ·rw[if_neg hp]
   simp only[Bool.false_eq_true,false_iff,false_implies,and_true]
   intro h
   refine hp (e2.2 ?_)
   rcases hM.1 h.1 with h|h|h|h|h
   ·omega
   ·omega
   ·omega
   ·exact⟨⟨h.2.1,h.2.2.1⟩,h.2.2.2.2.2⟩
   ·omega
 by_cases h5:x.kind=5
 ·rw[mayL5 h5]
  have e2:(yG x&&yX k [x.elem]&&decide (1≤x.many)&&decide (x.many≤16))=true↔x.parts.length=0∧(0≤x.elem∧x.elem<(k:Int))∧1≤x.many∧x.many≤16:=by
   simp only[Bool.and_eq_true,plain5 h5,Yj,decide_eq_true_eq]
   simp[and_assoc]
  by_cases hp:(yG x&&yX k [x.elem]&&decide (1≤x.many)&&decide (x.many≤16))=true
  ·rw[if_pos hp]
   have hp2:=e2.1 hp
   have key:Yb T k:=hM.2 (.inr (.inr (.inr (.inr ⟨h5,hp2.2.1.1,hp2.2.1.2,hp2.2.2.1,hp2.2.2.2,hp2.1⟩))))
   have hs1:=hv x.elem.toNat (by omega)
   have hlen:((ofL T k).length:Int)=x.many * s.getD x.elem.toNat 0:=by
    rw[hun key];simp only[h5,if_true]
    rw[if_neg (by omega),zGa,hs1,Int.natCast_mul,Int.toNat_of_nonneg (by omega)]
   simp only[decide_eq_true_eq]
   rw[←hlen]
   exact⟨⟨fun h=>⟨key,by omega⟩,fun h=>by omega⟩,fun _=>rfl⟩
  ·rw[if_neg hp]
   simp only[Bool.false_eq_true,false_iff,false_implies,and_true]
   intro h
   refine hp (e2.2 ?_)
   have:=hM.1 h.1
   omega
 ·have e:y9 T x k s=(1,false):=by unfold y9;rw[if_neg h1,if_neg h2,if_neg h3,if_neg h4,if_neg h5]
  rw[e]
  simp only[Bool.false_eq_true,false_iff,false_implies,and_true]
  intro h
  have:=hM.1 h.1
  omega
theorem zGN {T:List LType}:∀ k,k≤T.length→(∀ s,ZM T k=some s→LowT T k∧s.length=k∧∀ j,j<k→s.getD j 0=((ofL T j).length:Int))∧(LowT T k→∃ s,ZM T k=some s):=by
 intro k
 induction k with
 |zero=>exact fun _=>⟨fun s hs=>by cases hs;exact⟨fun j hj=>absurd hj (Nat.not_lt_zero _),rfl,fun j hj=>absurd hj (Nat.not_lt_zero _)⟩,fun _=>⟨[],rfl⟩⟩
 |succ k ih=>
  intro hk
  obtain⟨i1,i2⟩:=ih (by omega)
  refine⟨fun s hs=> ?_,fun hl=> ?_⟩
  ·unfold ZM at hs
   split at hs
   ·cases hs
   ·rename_i s0 h0
    obtain⟨a,b,c⟩:=i1 s0 h0
    obtain⟨m1,m2⟩:=zEr (T:=T) (k:=k) (by omega) a b c
    split at hs
    ·rename_i hm
     cases hs
     have h1:=m1.1 hm
     have h2:=m2 hm
     refine⟨fun j hj=> ?_,by simp[b],fun j hj=> ?_⟩
     ·by_cases e:j=k
      ·subst e;exact h1
      ·exact a j (by omega)
     ·by_cases e:j=k
      ·subst e
       rw[←h2];simp[List.getD,←b]
      ·rw[←c j (by omega)]
       simp[List.getD,List.getElem?_append_left (show j<s0.length by omega)]
    ·cases hs
  ·obtain⟨s0,h0⟩:=i2 fun j hj=>hl j (by omega)
   obtain⟨a,b,c⟩:=i1 s0 h0
   obtain⟨m1,m2⟩:=zEr (T:=T) (k:=k) (by omega) a b c
   unfold ZM
   rw[h0]
   simp only
   rw[if_pos (m1.2 (hl k (by omega)))]
   exact⟨_,rfl⟩
theorem zGV {T:List LType}:Zt T=if 16<T.length then 4 else (open Classical in if LowT T T.length then 0 else 30):=by
 classical
 unfold Zt
 split
 ·rfl
 ·obtain⟨i1,i2⟩:=zGN T.length (Nat.le_refl _)
  split
  ·rename_i s hs
   rw[if_pos (i1 s hs).1]
  ·rename_i hs
   rw[if_neg]
   intro h
   obtain⟨s,h2⟩:=i2 h
   rw[h2]at hs;cases hs
end Go.Proofs.YtdcgdfbblnljjaaGreatDoor
