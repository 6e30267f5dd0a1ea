/- Lists of numbers sorted: where they are parted. -/
import Derived.Test.YtbhdfhiecgebnaaDoorSortHeap
namespace Go.Proofs.YtbhdfhiecgebnaaDoor
open Go.Am
set_option linter.unusedVariables false
set_option linter.unusedSimpArgs false
set_option maxHeartbeats 400000

set_option maxRecDepth 100000 in
theorem len8_all : ∀ i : Nat, i < 256 → (match (⟨#[0, 1, 2, 2, 3, 3, 3, 3, 4, 4, 4, 4, 4, 4, 4, 4, 5, 5, 5, 5, 5, 5, 5, 5, 5, 5, 5, 5, 5, 5, 5, 5, 6, 6, 6, 6, 6, 6, 6, 6, 6, 6, 6, 6, 6, 6, 6, 6, 6, 6, 6, 6, 6, 6, 6, 6, 6, 6, 6, 6, 6, 6, 6, 6, 7, 7, 7, 7, 7, 7, 7, 7, 7, 7, 7, 7, 7, 7, 7, 7, 7, 7, 7, 7, 7, 7, 7, 7, 7, 7, 7, 7, 7, 7, 7, 7, 7, 7, 7, 7, 7, 7, 7, 7, 7, 7, 7, 7, 7, 7, 7, 7, 7, 7, 7, 7, 7, 7, 7, 7, 7, 7, 7, 7, 7, 7, 7, 7, 8, 8, 8, 8, 8, 8, 8, 8, 8, 8, 8, 8, 8, 8, 8, 8, 8, 8, 8, 8, 8, 8, 8, 8, 8, 8, 8, 8, 8, 8, 8, 8, 8, 8, 8, 8, 8, 8, 8, 8, 8, 8, 8, 8, 8, 8, 8, 8, 8, 8, 8, 8, 8, 8, 8, 8, 8, 8, 8, 8, 8, 8, 8, 8, 8, 8, 8, 8, 8, 8, 8, 8, 8, 8, 8, 8, 8, 8, 8, 8, 8, 8, 8, 8, 8, 8, 8, 8, 8, 8, 8, 8, 8, 8, 8, 8, 8, 8, 8, 8, 8, 8, 8, 8, 8, 8, 8, 8, 8, 8, 8, 8, 8, 8, 8, 8, 8, 8, 8, 8, 8, 8, 8, 8, 8, 8, 8, 8]⟩ : ByteArray)[i]? with | some b => Nat.ble b.toNat 8 && (Nat.beq i 0 || Nat.ble (2 ^ b.toNat) (2 * i)) | none => false) = true := by decide +kernel
theorem len8_at {i : Nat} (h : i < 256) : ∃ b : UInt8, (⟨#[0, 1, 2, 2, 3, 3, 3, 3, 4, 4, 4, 4, 4, 4, 4, 4, 5, 5, 5, 5, 5, 5, 5, 5, 5, 5, 5, 5, 5, 5, 5, 5, 6, 6, 6, 6, 6, 6, 6, 6, 6, 6, 6, 6, 6, 6, 6, 6, 6, 6, 6, 6, 6, 6, 6, 6, 6, 6, 6, 6, 6, 6, 6, 6, 7, 7, 7, 7, 7, 7, 7, 7, 7, 7, 7, 7, 7, 7, 7, 7, 7, 7, 7, 7, 7, 7, 7, 7, 7, 7, 7, 7, 7, 7, 7, 7, 7, 7, 7, 7, 7, 7, 7, 7, 7, 7, 7, 7, 7, 7, 7, 7, 7, 7, 7, 7, 7, 7, 7, 7, 7, 7, 7, 7, 7, 7, 7, 7, 8, 8, 8, 8, 8, 8, 8, 8, 8, 8, 8, 8, 8, 8, 8, 8, 8, 8, 8, 8, 8, 8, 8, 8, 8, 8, 8, 8, 8, 8, 8, 8, 8, 8, 8, 8, 8, 8, 8, 8, 8, 8, 8, 8, 8, 8, 8, 8, 8, 8, 8, 8, 8, 8, 8, 8, 8, 8, 8, 8, 8, 8, 8, 8, 8, 8, 8, 8, 8, 8, 8, 8, 8, 8, 8, 8, 8, 8, 8, 8, 8, 8, 8, 8, 8, 8, 8, 8, 8, 8, 8, 8, 8, 8, 8, 8, 8, 8, 8, 8, 8, 8, 8, 8, 8, 8, 8, 8, 8, 8, 8, 8, 8, 8, 8, 8, 8, 8, 8, 8, 8, 8, 8, 8, 8, 8, 8, 8]⟩ : ByteArray)[i]? = some b ∧ b.toNat ≤ 8 ∧ (i ≠ 0 → 2 ^ b.toNat ≤ 2 * i) := by
  have := len8_all i h
  split at this
  · rename_i b hb
    rw [Bool.and_eq_true, Bool.or_eq_true] at this
    refine ⟨b, hb, Nat.le_of_ble_eq_true this.1, fun hi => ?_⟩
    rcases this.2 with h2 | h2
    · exact absurd (Nat.eq_of_beq_eq_true h2) hi
    · exact Nat.le_of_ble_eq_true h2
  · cases this

noncomputable def body75 : ACode := (.seq (.region [⟨some 2, none, (.mov (.const (.int .i64 0)))⟩]) (.seq (.seq (.region [⟨some 3, none, (.mov (.tmp 0))⟩, ⟨some 4, none, (.bin .geq (.tmp 3) (.const (.int .u64 4294967296)))⟩]) (.cond (.tmp 4) (.seq (.region [⟨some 5, none, (.mov (.tmp 0))⟩, ⟨some 6, none, (.bin .shr (.tmp 5) (.const (.int .u64 32)))⟩, ⟨some 0, none, (.mov (.tmp 6))⟩]) (.region [⟨some 2, none, (.mov (.const (.int .i64 32)))⟩])) .skip)) (.seq (.seq (.region [⟨some 7, none, (.mov (.tmp 0))⟩, ⟨some 8, none, (.bin .geq (.tmp 7) (.const (.int .u64 65536)))⟩]) (.cond (.tmp 8) (.seq (.region [⟨some 9, none, (.mov (.tmp 0))⟩, ⟨some 10, none, (.bin .shr (.tmp 9) (.const (.int .u64 16)))⟩, ⟨some 0, none, (.mov (.tmp 10))⟩]) (.region [⟨some 11, none, (.mov (.tmp 2))⟩, ⟨some 12, none, (.bin .add (.tmp 11) (.const (.int .i64 16)))⟩, ⟨some 2, none, (.mov (.tmp 12))⟩])) .skip)) (.seq (.seq (.region [⟨some 13, none, (.mov (.tmp 0))⟩, ⟨some 14, none, (.bin .geq (.tmp 13) (.const (.int .u64 256)))⟩]) (.cond (.tmp 14) (.seq (.region [⟨some 15, none, (.mov (.tmp 0))⟩, ⟨some 16, none, (.bin .shr (.tmp 15) (.const (.int .u64 8)))⟩, ⟨some 0, none, (.mov (.tmp 16))⟩]) (.region [⟨some 17, none, (.mov (.tmp 2))⟩, ⟨some 18, none, (.bin .add (.tmp 17) (.const (.int .i64 8)))⟩, ⟨some 2, none, (.mov (.tmp 18))⟩])) .skip)) (.seq (.region [⟨some 19, none, (.mov (.tmp 2))⟩, ⟨some 20, none, (.mov (.tmp 0))⟩, ⟨some 21, none, (.conv .u8 (.tmp 20))⟩, ⟨some 22, none, (.elemStr (.const (.string ⟨#[0, 1, 2, 2, 3, 3, 3, 3, 4, 4, 4, 4, 4, 4, 4, 4, 5, 5, 5, 5, 5, 5, 5, 5, 5, 5, 5, 5, 5, 5, 5, 5, 6, 6, 6, 6, 6, 6, 6, 6, 6, 6, 6, 6, 6, 6, 6, 6, 6, 6, 6, 6, 6, 6, 6, 6, 6, 6, 6, 6, 6, 6, 6, 6, 7, 7, 7, 7, 7, 7, 7, 7, 7, 7, 7, 7, 7, 7, 7, 7, 7, 7, 7, 7, 7, 7, 7, 7, 7, 7, 7, 7, 7, 7, 7, 7, 7, 7, 7, 7, 7, 7, 7, 7, 7, 7, 7, 7, 7, 7, 7, 7, 7, 7, 7, 7, 7, 7, 7, 7, 7, 7, 7, 7, 7, 7, 7, 7, 8, 8, 8, 8, 8, 8, 8, 8, 8, 8, 8, 8, 8, 8, 8, 8, 8, 8, 8, 8, 8, 8, 8, 8, 8, 8, 8, 8, 8, 8, 8, 8, 8, 8, 8, 8, 8, 8, 8, 8, 8, 8, 8, 8, 8, 8, 8, 8, 8, 8, 8, 8, 8, 8, 8, 8, 8, 8, 8, 8, 8, 8, 8, 8, 8, 8, 8, 8, 8, 8, 8, 8, 8, 8, 8, 8, 8, 8, 8, 8, 8, 8, 8, 8, 8, 8, 8, 8, 8, 8, 8, 8, 8, 8, 8, 8, 8, 8, 8, 8, 8, 8, 8, 8, 8, 8, 8, 8, 8, 8, 8, 8, 8, 8, 8, 8, 8, 8, 8, 8, 8, 8, 8, 8, 8, 8, 8, 8]⟩)) (.tmp 21))⟩, ⟨some 23, none, (.conv .i64 (.tmp 22))⟩, ⟨some 24, none, (.bin .add (.tmp 19) (.tmp 23))⟩, ⟨some 2, none, (.mov (.tmp 24))⟩]) .ret)))))
set_option maxRecDepth 100000 in
theorem tab75 : tb.code 75 = some ⟨25, [(2, none)], body75⟩ := by kernel_rfl
theorem len64_ok (h : AHeap) (n : Int) (h0 : 0 ≤ n) (h1 : n ≤ 2000000000) :
    WC Tryd.prog tb 75 [.int .u64 n] h fun r h' => (∃ k : Nat, r = I k ∧ k ≤ 40 ∧ (n ≠ 0 → 2 ^ k ≤ 2 * n)) ∧ h = h' := by
  refine WC.of (nostub 75) tab75 ?_; simp only [mkTm, Nat.zero_add, Nat.reduceAdd]
  refine go ?_
  refine WX.cutA [9, 10, 0, 11, 12, 2] (by kernel_rfl) (fun t h' => h = h' ∧ ∃ (m : Int) (k : Nat), tmGet t 0 = .int .u64 m ∧ tmGet t 2 = I k ∧ (0 ≤ m ∧ m ≤ 65535 ∧ k ≤ 16) ∧ (n ≠ 0 → m ≠ 0) ∧ (n ≠ 0 → ∀ j : Nat, 2 ^ j ≤ 2 * m → 2 ^ (k + j) ≤ 2 * n)) ?_ ?_
  · refine WX.br (fun hb => ?_) (fun hb => ?_) <;> simp only [DB] at hb <;> refine go ?_
    · refine WO.bin (vx := .int .u64 n) (vy := .int .u64 16) ope_ rfl (shr16 h0) ?_
      refine go ?_
      refine cutK_normal ⟨rfl, n / 65536, 16, sl_, sl_, by omega, by omega, fun _ j hj => ?_⟩
      rw [Int.pow_add]
      have e : (2 : Int) ^ 16 = 65536 := rfl
      rw [e]
      generalize (2 : Int) ^ j = z at hj ⊢
      omega
    · exact cutK_normal ⟨rfl, n, 0, sl_, sl_, by omega, id, fun _ j hj => by rw [Nat.zero_add]; exact hj⟩
  rintro t1 _ hs1 ⟨rfl, m, k, s0, s2, hm, hz, hj⟩
  refine go ?_
  refine WX.cutA [15, 16, 0, 17, 18, 2] (by kernel_rfl) (fun t h' => h = h' ∧ ∃ (m : Int) (k : Nat), tmGet t 0 = .int .u64 m ∧ tmGet t 2 = I k ∧ (0 ≤ m ∧ m ≤ 255 ∧ k ≤ 24) ∧ (n ≠ 0 → m ≠ 0) ∧ (n ≠ 0 → ∀ j : Nat, 2 ^ j ≤ 2 * m → 2 ^ (k + j) ≤ 2 * n)) ?_ ?_
  · refine WX.br (fun hb => ?_) (fun hb => ?_) <;> simp only [DB] at hb <;> refine go ?_
    · refine WO.bin (vx := .int .u64 m) (vy := .int .u64 8) ope_ rfl (shr8 hm.1) ?_
      refine go ?_
      refine cutK_normal ⟨rfl, m / 256, k + 8, sl_, sl_, by omega, by omega, fun hn j hj2 => ?_⟩
      have := hj hn (8 + j) (by
        rw [Int.pow_add]
        have e : (2 : Int) ^ 8 = 256 := rfl
        rw [e]
        generalize (2 : Int) ^ j = z at hj2 ⊢
        omega)
      rw [Nat.add_assoc]; exact this
    · exact cutK_normal ⟨rfl, m, k, sl_, sl_, by omega, hz, hj⟩
  clear hj hz hm s0 s2
  rintro t2 _ hs2 ⟨rfl, m, k, s0, s2, hm, hz, hj⟩
  obtain ⟨b, hb1, hb2, hb3⟩ := len8_at (i := m.toNat) (by omega)
  refine go ?_
  have e2 : asN (.int .u8 m) = some m.toNat := by
    obtain ⟨q, rfl⟩ : ∃ q : Nat, m = q := ⟨m.toNat, by omega⟩
    rfl
  rw [wrapU8 (by omega) (by omega)]
  refine WO.eStr hb1 e2 ?_
  refine go ?_
  refine rt ?_
  refine ⟨⟨k + b.toNat, by simp [one], by omega, fun hn => hj hn _ ?_⟩, rfl⟩
  have := hb3 (by have := hz hn; omega)
  have h2 : ((2 ^ b.toNat : Nat) : Int) ≤ ((2 * m.toNat : Nat) : Int) := by exact_mod_cast this
  rw [Int.natCast_pow] at h2
  have h3 : ((2 * m.toNat : Nat) : Int) = 2 * m := by omega
  rw [h3] at h2
  exact h2

noncomputable def body59 : ACode := (.seq (.region [⟨some 2, none, (.mov (.const (.int .i64 0)))⟩]) (.seq (.cond (.const (.bool false)) (.seq (.region [⟨some 3, none, (.mov (.tmp 0))⟩, ⟨some 4, none, (.conv .u32 (.tmp 3))⟩, ⟨some 5, none, (.call (.func 74) [(.tmp 4)])⟩, ⟨some 2, none, (.mov (.tmp 5))⟩]) .ret) .skip) (.seq (.region [⟨some 6, none, (.mov (.tmp 0))⟩, ⟨some 7, none, (.call (.func 75) [(.tmp 6)])⟩, ⟨some 2, none, (.mov (.tmp 7))⟩]) .ret)))
set_option maxRecDepth 100000 in
theorem tab59 : tb.code 59 = some ⟨8, [(2, none)], body59⟩ := by kernel_rfl
theorem len_ok (h : AHeap) (n : Int) (h0 : 0 ≤ n) (h1 : n ≤ 2000000000) :
    WC Tryd.prog tb 59 [.int .u64 n] h fun r h' => (∃ k : Nat, r = I k ∧ k ≤ 40 ∧ (n ≠ 0 → 2 ^ k ≤ 2 * n)) ∧ h = h' := by
  refine WC.of (nostub 59) tab59 ?_; simp only [mkTm, Nat.zero_add, Nat.reduceAdd]
  refine go ?_
  refine WO.con (len64_ok h n h0 h1) ?_
  rintro _ _ ⟨⟨k, rfl, hk⟩, rfl⟩
  refine go ?_
  refine rt ?_
  exact ⟨⟨k, rfl, hk⟩, rfl⟩

noncomputable def body83 : ACode := (.seq (.region [⟨some 2, none, (.mov (.const (.int .u64 0)))⟩]) (.seq (.region [⟨some 3, none, (.mov (.tmp 0))⟩, ⟨some 4, none, (.conv .u64 (.tmp 3))⟩, ⟨some 5, none, (.call (.func 59) [(.tmp 4)])⟩, ⟨some 6, none, (.bin .shl (.const (.int .u64 1)) (.tmp 5))⟩, ⟨some 2, none, (.mov (.tmp 6))⟩]) .ret))
set_option maxRecDepth 100000 in
theorem tab83 : tb.code 83 = some ⟨7, [(2, none)], body83⟩ := by kernel_rfl
theorem power_ok (h : AHeap) (n : Int) (h0 : 1 ≤ n) (h1 : n ≤ 2000000000) :
    WC Tryd.prog tb 83 [I n] h fun r h' => (∃ m : Int, r = .int .u64 m ∧ 1 ≤ m ∧ m ≤ 2 * n) ∧ h = h' := by
  refine WC.of (nostub 83) tab83 ?_; simp only [mkTm, Nat.zero_add, Nat.reduceAdd]
  refine go ?_
  rw [wrapU64 (by omega) (by omega)]
  refine WO.con (len_ok h n (by omega) h1) ?_
  rintro _ _ ⟨⟨k, rfl, hk, hk2⟩, rfl⟩
  have hk3 := hk2 (by omega)
  have hpos : (0 : Int) < 2 ^ k := Int.pow_pos (by decide)
  refine go ?_
  refine WO.bin (vx := .int .u64 1) (vy := I k) (v := .int .u64 (2 ^ k)) rfl ope_ (by
    simp only [binV, IntKind.bits]
    rw [if_neg (by omega), Int.toNat_natCast, Nat.min_eq_left (by omega), Int.one_mul, wrapU64 (by omega) (by omega)]) ?_
  refine go ?_
  refine rt ?_
  exact ⟨⟨_, rfl, by omega, hk3⟩, rfl⟩

noncomputable def body84 : ACode := (.seq (.region [⟨some 2, none, (.mov (.const (.int .u64 0)))⟩]) (.seq (.regionC [(⟨some 3, none, (.mov (.tmp 0))⟩, []), (⟨some 4, none, (.nilCheck (.tmp 3))⟩, []), (⟨some 5, none, (.load false 1 (.tmp 4))⟩, []), (⟨some 6, none, (.mov (.tmp 0))⟩, []), (⟨some 7, none, (.nilCheck (.tmp 6))⟩, []), (⟨some 8, none, (.load false 1 (.tmp 7))⟩, []), (⟨some 9, none, (.bin .shl (.tmp 8) (.const (.int .u64 13)))⟩, []), (⟨some 10, none, (.bin .xor (.tmp 5) (.tmp 9))⟩, []), (⟨some 11, none, (.nilCheck (.tmp 3))⟩, []), (⟨none, none, (.store 1 (.tmp 11) (.tmp 10))⟩, [])]) (.seq (.regionC [(⟨some 12, none, (.mov (.tmp 0))⟩, []), (⟨some 13, none, (.nilCheck (.tmp 12))⟩, []), (⟨some 14, none, (.load false 1 (.tmp 13))⟩, []), (⟨some 15, none, (.mov (.tmp 0))⟩, []), (⟨some 16, none, (.nilCheck (.tmp 15))⟩, []), (⟨some 17, none, (.load false 1 (.tmp 16))⟩, []), (⟨some 18, none, (.bin .shr (.tmp 17) (.const (.int .u64 7)))⟩, []), (⟨some 19, none, (.bin .xor (.tmp 14) (.tmp 18))⟩, []), (⟨some 20, none, (.nilCheck (.tmp 12))⟩, []), (⟨none, none, (.store 1 (.tmp 20) (.tmp 19))⟩, [])]) (.seq (.regionC [(⟨some 21, none, (.mov (.tmp 0))⟩, []), (⟨some 22, none, (.nilCheck (.tmp 21))⟩, []), (⟨some 23, none, (.load false 1 (.tmp 22))⟩, []), (⟨some 24, none, (.mov (.tmp 0))⟩, []), (⟨some 25, none, (.nilCheck (.tmp 24))⟩, []), (⟨some 26, none, (.load false 1 (.tmp 25))⟩, []), (⟨some 27, none, (.bin .shl (.tmp 26) (.const (.int .u64 17)))⟩, []), (⟨some 28, none, (.bin .xor (.tmp 23) (.tmp 27))⟩, []), (⟨some 29, none, (.nilCheck (.tmp 21))⟩, []), (⟨none, none, (.store 1 (.tmp 29) (.tmp 28))⟩, [])]) (.seq (.region [⟨some 30, none, (.mov (.tmp 0))⟩, ⟨some 31, none, (.nilCheck (.tmp 30))⟩, ⟨some 32, none, (.load false 1 (.tmp 31))⟩, ⟨some 2, none, (.mov (.tmp 32))⟩]) .ret)))))
set_option maxRecDepth 100000 in
theorem tab84 : tb.code 84 = some ⟨33, [(2, none)], body84⟩ := by kernel_rfl
theorem next_rnd (h0 h : AHeap) (p : Value) (n : Int) (e0 : Ext h0 h) (hm : h0.mark ≤ h0.n) (o : OwnC h0 h p [.int .u64 n]) :
    WC Tryd.prog tb 84 [p] h fun r h' => (∃ m : Int, r = .int .u64 m ∧ OwnC h0 h' p [.int .u64 m]) ∧ Ext h0 h' ∧ UpdC p h h' := by
  obtain ⟨g, rfl⟩ : ∃ g, p = .pointer (some ⟨g, 0, none⟩) := let ⟨g, _, _, e, _⟩ := o; ⟨g, e⟩
  have shl : ∀ (a : Int) (b : Int), 0 ≤ b → ∃ r, binV .shl (.int .u64 a) (.int .u64 b) = some (.int .u64 r) := fun a b hb => ⟨_, by simp only [binV]; rw [if_neg (by omega)]⟩
  have shr : ∀ (a : Int) (b : Int), 0 ≤ b → ∃ r, binV .shr (.int .u64 a) (.int .u64 b) = some (.int .u64 r) := fun a b hb => ⟨_, by simp only [binV]; rw [if_neg (by omega)]⟩
  have xor : ∀ (a b : Int), ∃ r, binV .xor (.int .u64 a) (.int .u64 b) = some (.int .u64 r) := fun a b => ⟨_, by simp only [binV, if_true]; rfl⟩
  refine WC.of (nostub 84) tab84 ?_; simp only [mkTm, Nat.zero_add, Nat.reduceAdd]
  refine go ?_
  refine WX.regionU2 0 rfl rfl ?_
  have oX : OwnC h0 (inC (asideN 0 h)) (.pointer (some ⟨g, 0, none⟩)) [.int .u64 n] := o
  refine goU ?_
  obtain ⟨r1, hr1⟩ := shl n 13 (by decide)
  refine WO.bin ope_ rfl hr1 ?_
  refine WO.nil ?_
  refine uK2_q ?_
  refine goU ?_
  obtain ⟨x1, hx1⟩ := xor n r1
  refine WO.bin ope_ ope_ hx1 ?_
  refine WO.nil ?_
  refine uK2_q ?_
  refine goU ?_
  refine WU2.stN [.int .u64 x1] o e0 (by rw [e0.mark]; exact hm) ?_
  intro h1 e1 o1 u1
  refine go ?_
  refine WX.regionU2 0 rfl rfl ?_
  have oX1 : OwnC h0 (inC (asideN 0 h1)) (.pointer (some ⟨g, 0, none⟩)) [.int .u64 x1] := o1
  refine goU ?_
  obtain ⟨r2, hr2⟩ := shr x1 7 (by decide)
  refine WO.bin ope_ rfl hr2 ?_
  refine WO.nil ?_
  refine uK2_q ?_
  refine goU ?_
  obtain ⟨x2, hx2⟩ := xor x1 r2
  refine WO.bin ope_ ope_ hx2 ?_
  refine WO.nil ?_
  refine uK2_q ?_
  refine goU ?_
  refine WU2.stN [.int .u64 x2] o1 e1 (by rw [e1.mark]; exact hm) ?_
  intro h2 e2 o2 u2
  refine go ?_
  refine WX.regionU2 0 rfl rfl ?_
  have oX2 : OwnC h0 (inC (asideN 0 h2)) (.pointer (some ⟨g, 0, none⟩)) [.int .u64 x2] := o2
  refine goU ?_
  obtain ⟨r3, hr3⟩ := shl x2 17 (by decide)
  refine WO.bin ope_ rfl hr3 ?_
  refine WO.nil ?_
  refine uK2_q ?_
  refine goU ?_
  obtain ⟨x3, hx3⟩ := xor x2 r3
  refine WO.bin ope_ ope_ hx3 ?_
  refine WO.nil ?_
  refine uK2_q ?_
  refine goU ?_
  refine WU2.stN [.int .u64 x3] o2 e2 (by rw [e2.mark]; exact hm) ?_
  intro h3 e3 o3 u3
  refine go ?_
  refine rt ?_
  exact ⟨⟨x3, rfl, o3⟩, e3, (u1.trans u2).trans u3⟩

noncomputable def body100 : ACode := (.seq (.region [⟨some 8, none, (.mov (.const (.int .i64 0)))⟩, ⟨some 9, none, (.mov (.const (.int .i64 0)))⟩]) (.seq (.seq (.regionC [(⟨some 10, none, (.mov (.tmp 0))⟩, []), (⟨some 11, none, (.mov (.tmp 2))⟩, []), (⟨some 12, none, (.idx 1 (.tmp 10) (.tmp 11))⟩, []), (⟨some 13, none, (.load false 1 (.tmp 12))⟩, []), (⟨some 14, none, (.mov (.tmp 0))⟩, []), (⟨some 15, none, (.mov (.tmp 1))⟩, []), (⟨some 16, none, (.idx 1 (.tmp 14) (.tmp 15))⟩, []), (⟨some 17, none, (.load false 1 (.tmp 16))⟩, []), (⟨some 18, none, (.call (.func 71) [(.tmp 13), (.tmp 17)])⟩, [])]) (.cond (.tmp 18) (.seq (.region [⟨some 19, none, (.mov (.tmp 3))⟩, ⟨some 20, none, (.nilCheck (.tmp 19))⟩, ⟨some 21, none, (.load false 1 (.tmp 20))⟩, ⟨some 22, none, (.bin .add (.tmp 21) (.const (.int .i64 1)))⟩, ⟨some 23, none, (.nilCheck (.tmp 19))⟩, ⟨none, none, (.store 1 (.tmp 23) (.tmp 22))⟩]) (.seq (.region [⟨some 24, none, (.mov (.tmp 2))⟩, ⟨some 25, none, (.mov (.tmp 1))⟩, ⟨some 8, none, (.mov (.tmp 24))⟩, ⟨some 9, none, (.mov (.tmp 25))⟩]) .ret)) .skip)) (.seq (.region [⟨some 26, none, (.mov (.tmp 1))⟩, ⟨some 27, none, (.mov (.tmp 2))⟩, ⟨some 8, none, (.mov (.tmp 26))⟩, ⟨some 9, none, (.mov (.tmp 27))⟩]) .ret)))
set_option maxRecDepth 100000 in
theorem tab100 : tb.code 100 = some ⟨28, [(8, none), (9, none)], body100⟩ := by kernel_rfl
theorem order2_ok (h0 h : AHeap) (v p : Value) (xs : List Int) (a b n : Int) (e0 : Ext h0 h) (s : SlI h0 v xs) (o : OwnC h0 h p [I n]) (hn : 0 ≤ n ∧ n ≤ 1000) (ha : 0 ≤ a ∧ a < xs.length) (hb : 0 ≤ b ∧ b < xs.length) :
    WC Tryd.prog tb 100 [v, I a, I b, p] h fun r h' => (∃ c d m : Int, r = .tuple #[I c, I d] ∧ ((c = a ∧ d = b) ∨ (c = b ∧ d = a)) ∧ (0 ≤ m ∧ m ≤ n + 1) ∧ OwnC h0 h' p [I m]) ∧ Ext h0 h' := by
  obtain ⟨g, rfl⟩ : ∃ g, p = .pointer (some ⟨g, 0, none⟩) := let ⟨g, _, _, e, _⟩ := o; ⟨g, e⟩
  refine WC.of (nostub 100) tab100 ?_; simp only [mkTm, Nat.zero_add, Nat.reduceAdd]
  refine go ?_
  refine WX.regionU2 0 rfl rfl ?_
  have srX : SlI (inC (asideN 0 h)) v xs := by have := s.ext e0; exact this
  refine goU ?_
  refine WO.con (less_ok _ (atI xs b) (atI xs a)) ?_
  rintro _ _ ⟨rfl, rfl⟩
  refine WO.nil ?_
  refine uK2_q ?_
  refine goU ?_
  rw [out_self]
  refine WX.br (fun he => ?_) (fun he => ?_) <;> simp only [DB] at he <;> refine go ?_
  · refine WO.stC0 o e0 ?_
    intro h1 e1 o1 _
    refine go ?_
    refine rt ?_
    exact ⟨⟨b, a, n + 1, rfl, .inr ⟨rfl, rfl⟩, by omega, o1⟩, e1⟩
  · refine rt ?_
    exact ⟨⟨a, b, n, rfl, .inl ⟨rfl, rfl⟩, by omega, o⟩, e0⟩

noncomputable def body86 : ACode := (.seq (.region [⟨some 10, none, (.mov (.const (.int .i64 0)))⟩]) (.seq (.region [⟨some 12, none, (.mov (.tmp 0))⟩, ⟨some 13, none, (.mov (.tmp 1))⟩, ⟨some 14, none, (.mov (.tmp 2))⟩, ⟨some 15, none, (.mov (.tmp 4))⟩, ⟨some 16, none, (.call (.func 100) [(.tmp 12), (.tmp 13), (.tmp 14), (.tmp 15)])⟩, ⟨some 11, none, (.mov (.tmp 16))⟩, ⟨some 17, none, (.extract (.tmp 11) 0)⟩, ⟨some 18, none, (.extract (.tmp 11) 1)⟩, ⟨some 1, none, (.mov (.tmp 17))⟩, ⟨some 2, none, (.mov (.tmp 18))⟩]) (.seq (.region [⟨some 20, none, (.mov (.tmp 0))⟩, ⟨some 21, none, (.mov (.tmp 2))⟩, ⟨some 22, none, (.mov (.tmp 3))⟩, ⟨some 23, none, (.mov (.tmp 4))⟩, ⟨some 24, none, (.call (.func 100) [(.tmp 20), (.tmp 21), (.tmp 22), (.tmp 23)])⟩, ⟨some 19, none, (.mov (.tmp 24))⟩, ⟨some 25, none, (.extract (.tmp 19) 0)⟩, ⟨some 26, none, (.extract (.tmp 19) 1)⟩, ⟨some 2, none, (.mov (.tmp 25))⟩, ⟨some 3, none, (.mov (.tmp 26))⟩]) (.seq (.region [⟨some 28, none, (.mov (.tmp 0))⟩, ⟨some 29, none, (.mov (.tmp 1))⟩, ⟨some 30, none, (.mov (.tmp 2))⟩, ⟨some 31, none, (.mov (.tmp 4))⟩, ⟨some 32, none, (.call (.func 100) [(.tmp 28), (.tmp 29), (.tmp 30), (.tmp 31)])⟩, ⟨some 27, none, (.mov (.tmp 32))⟩, ⟨some 33, none, (.extract (.tmp 27) 0)⟩, ⟨some 34, none, (.extract (.tmp 27) 1)⟩, ⟨some 1, none, (.mov (.tmp 33))⟩, ⟨some 2, none, (.mov (.tmp 34))⟩]) (.seq (.region [⟨some 35, none, (.mov (.tmp 2))⟩, ⟨some 10, none, (.mov (.tmp 35))⟩]) .ret)))))
set_option maxRecDepth 100000 in
theorem tab86 : tb.code 86 = some ⟨36, [(10, none)], body86⟩ := by kernel_rfl
theorem median_ok (h0 h : AHeap) (v p : Value) (xs : List Int) (a b c n : Int) (e0 : Ext h0 h) (s : SlI h0 v xs) (o : OwnC h0 h p [I n]) (hn : 0 ≤ n ∧ n ≤ 900) (ha : 0 ≤ a ∧ a < xs.length) (hb : 0 ≤ b ∧ b < xs.length) (hc : 0 ≤ c ∧ c < xs.length) :
    WC Tryd.prog tb 86 [v, I a, I b, I c, p] h fun r h' => (∃ d m : Int, r = I d ∧ (d = a ∨ d = b ∨ d = c) ∧ (0 ≤ m ∧ m ≤ n + 3) ∧ OwnC h0 h' p [I m]) ∧ Ext h0 h' := by
  refine WC.of (nostub 86) tab86 ?_; simp only [mkTm, Nat.zero_add, Nat.reduceAdd]
  refine go ?_
  refine WO.con (order2_ok h0 h v p xs a b n e0 s o (by omega) ha hb) ?_
  rintro _ h1 ⟨⟨a1, b1, n1, rfl, q1, m1, o1⟩, e1⟩
  refine go ?_
  refine WO.con (order2_ok h0 h1 v p xs b1 c n1 e1 s o1 (by omega) (by omega) hc) ?_
  rintro _ h2 ⟨⟨b2, c2, n2, rfl, q2, m2, o2⟩, e2⟩
  refine go ?_
  refine WO.con (order2_ok h0 h2 v p xs a1 b2 n2 e2 s o2 (by omega) (by omega) (by omega)) ?_
  rintro _ h3 ⟨⟨a3, b3, n3, rfl, q3, m3, o3⟩, e3⟩
  refine go ?_
  refine rt ?_
  exact ⟨⟨b3, n3, rfl, by omega, by omega, o3⟩, e3⟩

noncomputable def body85 : ACode := (.seq (.region [⟨some 6, none, (.mov (.const (.int .i64 0)))⟩]) (.seq (.region [⟨some 7, none, (.mov (.tmp 0))⟩, ⟨some 8, none, (.mov (.tmp 1))⟩, ⟨some 9, none, (.bin .sub (.tmp 8) (.const (.int .i64 1)))⟩, ⟨some 10, none, (.mov (.tmp 1))⟩, ⟨some 11, none, (.mov (.tmp 1))⟩, ⟨some 12, none, (.bin .add (.tmp 11) (.const (.int .i64 1)))⟩, ⟨some 13, none, (.mov (.tmp 2))⟩, ⟨some 14, none, (.call (.func 86) [(.tmp 7), (.tmp 9), (.tmp 10), (.tmp 12), (.tmp 13)])⟩, ⟨some 6, none, (.mov (.tmp 14))⟩]) .ret))
set_option maxRecDepth 100000 in
theorem tab85 : tb.code 85 = some ⟨15, [(6, none)], body85⟩ := by kernel_rfl
theorem medianAdj_ok (h0 h : AHeap) (v p : Value) (xs : List Int) (a n : Int) (e0 : Ext h0 h) (s : SlI h0 v xs) (o : OwnC h0 h p [I n]) (hn : 0 ≤ n ∧ n ≤ 900) (ha : 1 ≤ a ∧ a + 1 < xs.length) (hl : xs.length ≤ 1000000000) :
    WC Tryd.prog tb 85 [v, I a, p] h fun r h' => (∃ d m : Int, r = I d ∧ (a - 1 ≤ d ∧ d ≤ a + 1) ∧ (0 ≤ m ∧ m ≤ n + 3) ∧ OwnC h0 h' p [I m]) ∧ Ext h0 h' := by
  refine WC.of (nostub 85) tab85 ?_; simp only [mkTm, Nat.zero_add, Nat.reduceAdd]
  refine go ?_
  refine WO.con (median_ok h0 h v p xs (a - 1) a (a + 1) n e0 s o hn (by omega) (by omega) (by omega)) ?_
  rintro _ h1 ⟨⟨d, m, rfl, q1, m1, o1⟩, e1⟩
  refine go ?_
  refine rt ?_
  exact ⟨⟨d, m, rfl, by omega, m1, o1⟩, e1⟩

noncomputable def body68 : ACode := (.seq (.region [⟨some 6, none, (.mov (.const (.int .i64 0)))⟩, ⟨some 7, none, (.mov (.const (.int .i64 0)))⟩]) (.seq (.region [⟨some 13, none, (.mov (.tmp 2))⟩, ⟨some 14, none, (.mov (.tmp 1))⟩, ⟨some 15, none, (.bin .sub (.tmp 13) (.tmp 14))⟩, ⟨some 8, none, (.mov (.tmp 15))⟩]) (.seq (.region [⟨some 9, none, (.alloc [(.int .i64 0)])⟩]) (.seq (.region [⟨some 16, none, (.mov (.tmp 1))⟩, ⟨some 17, none, (.mov (.tmp 8))⟩, ⟨some 18, none, (.bin .quo (.tmp 17) (.const (.int .i64 4)))⟩, ⟨some 19, none, (.bin .mul (.tmp 18) (.const (.int .i64 1)))⟩, ⟨some 20, none, (.bin .add (.tmp 16) (.tmp 19))⟩, ⟨some 10, none, (.mov (.tmp 20))⟩]) (.seq (.region [⟨some 21, none, (.mov (.tmp 1))⟩, ⟨some 22, none, (.mov (.tmp 8))⟩, ⟨some 23, none, (.bin .quo (.tmp 22) (.const (.int .i64 4)))⟩, ⟨some 24, none, (.bin .mul (.tmp 23) (.const (.int .i64 2)))⟩, ⟨some 25, none, (.bin .add (.tmp 21) (.tmp 24))⟩, ⟨some 11, none, (.mov (.tmp 25))⟩]) (.seq (.region [⟨some 26, none, (.mov (.tmp 1))⟩, ⟨some 27, none, (.mov (.tmp 8))⟩, ⟨some 28, none, (.bin .quo (.tmp 27) (.const (.int .i64 4)))⟩, ⟨some 29, none, (.bin .mul (.tmp 28) (.const (.int .i64 3)))⟩, ⟨some 30, none, (.bin .add (.tmp 26) (.tmp 29))⟩, ⟨some 12, none, (.mov (.tmp 30))⟩]) (.seq (.seq (.region [⟨some 31, none, (.mov (.tmp 8))⟩, ⟨some 32, none, (.bin .geq (.tmp 31) (.const (.int .i64 8)))⟩]) (.cond (.tmp 32) (.seq (.seq (.region [⟨some 33, none, (.mov (.tmp 8))⟩, ⟨some 34, none, (.bin .geq (.tmp 33) (.const (.int .i64 50)))⟩]) (.cond (.tmp 34) (.seq (.region [⟨some 35, none, (.mov (.tmp 0))⟩, ⟨some 36, none, (.mov (.tmp 10))⟩, ⟨some 37, none, (.call (.func 85) [(.tmp 35), (.tmp 36), (.tmp 9)])⟩, ⟨some 10, none, (.mov (.tmp 37))⟩]) (.seq (.region [⟨some 38, none, (.mov (.tmp 0))⟩, ⟨some 39, none, (.mov (.tmp 11))⟩, ⟨some 40, none, (.call (.func 85) [(.tmp 38), (.tmp 39), (.tmp 9)])⟩, ⟨some 11, none, (.mov (.tmp 40))⟩]) (.region [⟨some 41, none, (.mov (.tmp 0))⟩, ⟨some 42, none, (.mov (.tmp 12))⟩, ⟨some 43, none, (.call (.func 85) [(.tmp 41), (.tmp 42), (.tmp 9)])⟩, ⟨some 12, none, (.mov (.tmp 43))⟩]))) .skip)) (.region [⟨some 44, none, (.mov (.tmp 0))⟩, ⟨some 45, none, (.mov (.tmp 10))⟩, ⟨some 46, none, (.mov (.tmp 11))⟩, ⟨some 47, none, (.mov (.tmp 12))⟩, ⟨some 48, none, (.call (.func 86) [(.tmp 44), (.tmp 45), (.tmp 46), (.tmp 47), (.tmp 9)])⟩, ⟨some 11, none, (.mov (.tmp 48))⟩])) .skip)) (.seq (.region [⟨some 49, none, (.load false 1 (.tmp 9))⟩]) (.block 0 (.seq (.region [⟨some 52, none, (.bin .eql (.tmp 49) (.const (.int .i64 0)))⟩, ⟨some 51, none, (.mov (.tmp 52))⟩]) (.cond (.tmp 51) (.seq (.region [⟨some 53, none, (.mov (.tmp 11))⟩, ⟨some 6, none, (.mov (.tmp 53))⟩, ⟨some 7, none, (.mov (.const (.int .i64 1)))⟩]) .ret) (.seq (.region [⟨some 55, none, (.bin .eql (.tmp 49) (.const (.int .i64 12)))⟩, ⟨some 54, none, (.mov (.tmp 55))⟩]) (.cond (.tmp 54) (.seq (.region [⟨some 56, none, (.mov (.tmp 11))⟩, ⟨some 6, none, (.mov (.tmp 56))⟩, ⟨some 7, none, (.mov (.const (.int .i64 2)))⟩]) .ret) (.seq (.region [⟨some 50, none, (.mov (.tmp 11))⟩, ⟨some 6, none, (.mov (.tmp 50))⟩, ⟨some 7, none, (.mov (.const (.int .i64 0)))⟩]) .ret))))))))))))))
set_option maxRecDepth 100000 in
theorem tab68 : tb.code 68 = some ⟨57, [(6, none), (7, none)], body68⟩ := by kernel_rfl
theorem pivot_ok (h : AHeap) (v : Value) (xs : List Int) (a b : Int) (s : SlI h v xs) (h0 : 0 ≤ a) (hab : a + 12 < b) (hb : b ≤ xs.length) (hlen : xs.length ≤ 1000000000) :
    WC Tryd.prog tb 68 [v, I a, I b] h fun r h' => (∃ d hint : Int, r = .tuple #[I d, I hint] ∧ (a ≤ d ∧ d < b)) ∧ Ext h h' := by
  have e4 : (b - a).tdiv 4 = (b - a) / 4 := Int.tdiv_eq_ediv_of_nonneg (by omega)
  refine WC.of (nostub 68) tab68 ?_; simp only [mkTm, Nat.zero_add, Nat.reduceAdd]
  refine go ?_
  refine WO.al ?_
  intro p h1 e1 o1
  refine go ?_
  refine WO.quo (a := b - a) (c := 4) (by decide) (by omega) (by omega) ?_
  rw [e4]
  refine go ?_
  refine WO.quo (a := b - a) (c := 4) (by decide) (by omega) (by omega) ?_
  rw [e4]
  refine go ?_
  refine WO.quo (a := b - a) (c := 4) (by decide) (by omega) (by omega) ?_
  rw [e4]
  refine go ?_
  refine WX.cutA [35, 36, 37, 10, 38, 39, 40, 11, 41, 42, 43, 12] (by kernel_rfl) (fun t h' => Ext h h' ∧ ∃ i j k n : Int, tmGet t 10 = I i ∧ tmGet t 11 = I j ∧ tmGet t 12 = I k ∧ (a ≤ i ∧ i < b) ∧ (a ≤ j ∧ j < b) ∧ (a ≤ k ∧ k < b) ∧ (0 ≤ n ∧ n ≤ 9) ∧ OwnC h h' p [I n]) ?_ ?_
  · refine WX.br (fun he => ?_) (fun he => ?_) <;> simp only [DB] at he <;> refine go ?_
    · refine WO.con (medianAdj_ok h h1 v p xs (a + (b - a) / 4 * 1) 0 e1 s o1 (by omega) (by omega) hlen) ?_
      rintro _ h2 ⟨⟨i, n1, rfl, q1, m1, o2⟩, e2⟩
      refine go ?_
      refine WO.con (medianAdj_ok h h2 v p xs (a + (b - a) / 4 * 2) n1 e2 s o2 (by omega) (by omega) hlen) ?_
      rintro _ h3 ⟨⟨j, n2, rfl, q2, m2, o3⟩, e3⟩
      refine go ?_
      refine WO.con (medianAdj_ok h h3 v p xs (a + (b - a) / 4 * 3) n2 e3 s o3 (by omega) (by omega) hlen) ?_
      rintro _ h4 ⟨⟨k, n3, rfl, q3, m3, o4⟩, e4⟩
      refine go ?_
      exact cutK_normal ⟨e4, i, j, k, n3, sl_, sl_, sl_, by omega, by omega, by omega, by omega, o4⟩
    · exact cutK_normal ⟨e1, a + (b - a) / 4 * 1, a + (b - a) / 4 * 2, a + (b - a) / 4 * 3, 0, sl_, sl_, sl_, by omega, by omega, by omega, by omega, o1⟩
  rintro t5 h5 hs5 ⟨e5, i, j, k, n, s10, s11, s12, hi, hj, hk, hn, o5⟩
  refine go ?_
  refine WO.con (median_ok h h5 v p xs i j k n e5 s o5 (by omega) (by omega) (by omega) (by omega)) ?_
  rintro _ h6 ⟨⟨d, m, rfl, q6, m6, o6⟩, e6⟩
  obtain ⟨g, rfl⟩ : ∃ g, p = .pointer (some ⟨g, 0, none⟩) := let ⟨g, _, _, e, _⟩ := o6; ⟨g, e⟩
  refine go ?_
  refine WX.br (fun he => ?_) (fun he => ?_) <;> simp only [DB] at he <;> refine go ?_
  · refine rt ?_
    exact ⟨⟨_, _, rfl, by omega⟩, e6⟩
  refine WX.br (fun he => ?_) (fun he => ?_) <;> simp only [DB] at he <;> refine go ?_ <;> refine rt ?_
  · exact ⟨⟨_, _, rfl, by omega⟩, e6⟩
  · exact ⟨⟨_, _, rfl, by omega⟩, e6⟩

noncomputable def body67_0 : ACode := (.seq (.seq (.region [⟨some 26, none, (.mov (.tmp 9))⟩, ⟨some 27, none, (.mov (.tmp 1))⟩, ⟨some 28, none, (.mov (.tmp 6))⟩, ⟨some 29, none, (.bin .quo (.tmp 28) (.const (.int .i64 4)))⟩, ⟨some 30, none, (.bin .mul (.tmp 29) (.const (.int .i64 2)))⟩, ⟨some 31, none, (.bin .add (.tmp 27) (.tmp 30))⟩, ⟨some 32, none, (.bin .add (.tmp 31) (.const (.int .i64 1)))⟩, ⟨some 33, none, (.bin .leq (.tmp 26) (.tmp 32))⟩]) (.cond (.tmp 33) .skip (.exit 0))) (.seq (.block 1 (.seq (.region [⟨some 36, none, (.call (.func 84) [(.tmp 7)])⟩, ⟨some 37, none, (.mov (.tmp 8))⟩, ⟨some 38, none, (.bin .sub (.tmp 37) (.const (.int .u64 1)))⟩, ⟨some 39, none, (.bin .and (.tmp 36) (.tmp 38))⟩, ⟨some 40, none, (.conv .i64 (.tmp 39))⟩, ⟨some 10, none, (.mov (.tmp 40))⟩]) (.seq (.seq (.region [⟨some 41, none, (.mov (.tmp 10))⟩, ⟨some 42, none, (.mov (.tmp 6))⟩, ⟨some 43, none, (.bin .geq (.tmp 41) (.tmp 42))⟩]) (.cond (.tmp 43) (.region [⟨some 44, none, (.mov (.tmp 10))⟩, ⟨some 45, none, (.mov (.tmp 6))⟩, ⟨some 46, none, (.bin .sub (.tmp 44) (.tmp 45))⟩, ⟨some 10, none, (.mov (.tmp 46))⟩]) .skip)) (.regionC [(⟨some 47, none, (.mov (.tmp 0))⟩, []), (⟨some 48, none, (.mov (.tmp 9))⟩, []), (⟨some 49, none, (.mov (.tmp 0))⟩, []), (⟨some 50, none, (.mov (.tmp 1))⟩, []), (⟨some 51, none, (.mov (.tmp 10))⟩, []), (⟨some 52, none, (.bin .add (.tmp 50) (.tmp 51))⟩, []), (⟨some 53, none, (.mov (.tmp 0))⟩, []), (⟨some 54, none, (.mov (.tmp 1))⟩, []), (⟨some 55, none, (.mov (.tmp 10))⟩, []), (⟨some 56, none, (.bin .add (.tmp 54) (.tmp 55))⟩, []), (⟨some 57, none, (.idx 1 (.tmp 53) (.tmp 56))⟩, []), (⟨some 58, none, (.load false 1 (.tmp 57))⟩, []), (⟨some 59, none, (.mov (.tmp 0))⟩, []), (⟨some 60, none, (.mov (.tmp 9))⟩, []), (⟨some 61, none, (.idx 1 (.tmp 59) (.tmp 60))⟩, []), (⟨some 62, none, (.load false 1 (.tmp 61))⟩, []), (⟨some 63, none, (.idx 1 (.tmp 47) (.tmp 48))⟩, []), (⟨none, none, (.store 1 (.tmp 63) (.tmp 58))⟩, []), (⟨some 64, none, (.idx 1 (.tmp 49) (.tmp 52))⟩, []), (⟨none, none, (.store 1 (.tmp 64) (.tmp 62))⟩, [])])))) (.region [⟨some 34, none, (.mov (.tmp 9))⟩, ⟨some 35, none, (.bin .add (.tmp 34) (.const (.int .i64 1)))⟩, ⟨some 9, none, (.mov (.tmp 35))⟩])))
noncomputable def body67 : ACode := (.seq (.region [⟨some 11, none, (.mov (.tmp 2))⟩, ⟨some 12, none, (.mov (.tmp 1))⟩, ⟨some 13, none, (.bin .sub (.tmp 11) (.tmp 12))⟩, ⟨some 6, none, (.mov (.tmp 13))⟩]) (.seq (.region [⟨some 14, none, (.mov (.tmp 6))⟩, ⟨some 15, none, (.bin .geq (.tmp 14) (.const (.int .i64 8)))⟩]) (.cond (.tmp 15) (.seq (.region [⟨some 16, none, (.mov (.tmp 6))⟩, ⟨some 17, none, (.conv .u64 (.tmp 16))⟩, ⟨some 7, none, (.alloc [(.int .u64 0)])⟩, ⟨none, none, (.store 1 (.tmp 7) (.tmp 17))⟩]) (.seq (.region [⟨some 18, none, (.mov (.tmp 6))⟩, ⟨some 19, none, (.call (.func 83) [(.tmp 18)])⟩, ⟨some 8, none, (.mov (.tmp 19))⟩]) (.seq (.region [⟨some 20, none, (.mov (.tmp 1))⟩, ⟨some 21, none, (.mov (.tmp 6))⟩, ⟨some 22, none, (.bin .quo (.tmp 21) (.const (.int .i64 4)))⟩, ⟨some 23, none, (.bin .mul (.tmp 22) (.const (.int .i64 2)))⟩, ⟨some 24, none, (.bin .add (.tmp 20) (.tmp 23))⟩, ⟨some 25, none, (.bin .sub (.tmp 24) (.const (.int .i64 1)))⟩, ⟨some 9, none, (.mov (.tmp 25))⟩]) (.block 0 (.loop body67_0))))) .skip)))
set_option maxRecDepth 100000 in
theorem tab67 : tb.code 67 = some ⟨65, [], body67⟩ := by kernel_rfl
theorem break_ok (hB h : AHeap) (v : Value) (xs : List Int) (a b : Int) (e0 : Ext hB h) (hmB : hB.mark ≤ hB.n) (o : OwnI hB h v xs) (h0 : 0 ≤ a) (hab : a + 12 < b) (hb : b ≤ xs.length) (hlen : xs.length ≤ 1000000000) :
    WC Tryd.prog tb 67 [v, I a, I b] h fun r h' => ∃ ys, SS hB h v a b xs ys h' := by
  have e4 : (b - a).tdiv 4 = (b - a) / 4 := Int.tdiv_eq_ediv_of_nonneg (by omega)
  have s0 := SS.start a b o e0
  refine WC.of (nostub 67) tab67 ?_; simp only [mkTm, Nat.zero_add, Nat.reduceAdd]
  refine go ?_
  refine WO.al ?_
  intro p h1 e1 o1
  have s1 := s0.extd e1
  obtain ⟨g, hg, rfl⟩ : ∃ g, h.n ≤ g ∧ p = .pointer (some ⟨g, 0, none⟩) := let ⟨g, hg, _, e, _⟩ := o1; ⟨g, hg, e⟩
  have o1 := o1.since e0
  refine go ?_
  refine WO.stC0 o1 s1.ext ?_
  intro h2 e2 o2 u2
  have s2 := s1.updC o hg e2 u2
  refine go ?_
  refine WO.con (power_ok h2 (b - a) (by omega) (by omega)) ?_
  rintro _ _ ⟨⟨m, rfl, hm1, hm2⟩, rfl⟩
  refine go ?_
  refine WO.quo (a := b - a) (c := 4) (by decide) (by omega) (by omega) ?_
  rw [e4]
  refine go ?_
  refine WX.loopA [26, 27, 28, 29, 30, 31, 32, 33, 36, 37, 38, 39, 40, 10, 41, 42, 43, 44, 45, 46, 10, 47, 48, 49, 50, 51, 52, 53, 54, 55, 56, 57, 58, 59, 60, 61, 62, 63, 64, 34, 35, 9] (by kernel_rfl) (fun x => (b - x.2.1).toNat) (fun (x : List Int × Int × Int) t h4 => SS hB h v a b xs x.1 h4 ∧ tmGet t 9 = I x.2.1 ∧ (a ≤ x.2.1 ∧ x.2.1 < b) ∧ OwnC hB h4 (.pointer (some ⟨g, 0, none⟩)) [.int .u64 x.2.2]) (xs, a + (b - a) / 4 * 2 - 1, IntKind.u64.wrap (b - a)) ?_ ?_
  · exact ⟨s2, sl_, by simp only; omega, o2⟩
  rintro ⟨ys, i, x⟩ t h4 hsame ⟨s4, s9, hi, o4⟩
  simp only at s4 s9 hi o4
  have hl4 := s4.len
  refine go ?_
  refine WO.quo (a := b - a) (c := 4) (by decide) (by omega) (by omega) ?_
  rw [e4]
  refine go ?_
  refine WX.br (fun he => ?_) (fun he => ?_) <;> simp only [DB] at he <;> refine go ?_
  · refine WO.con (next_rnd hB h4 _ x s4.ext hmB o4) ?_
    rintro _ h5 ⟨⟨y, rfl, o5⟩, e5, u5⟩
    have s5 := s4.updC o hg e5 u5
    refine go ?_
    refine WO.bin (vy := .int .u64 1) (v := .int .u64 (m - 1)) ope_ rfl (by simp only [binV, if_true]; rw [wrapU64 (by omega) (by omega)]) ?_
    refine go ?_
    obtain ⟨r, hr, hr0, hr1⟩ := and_u64 y (m := m - 1) (by omega)
    refine WO.bin ope_ ope_ hr ?_
    refine go ?_
    refine WX.cutA [44, 45, 46, 10] (by kernel_rfl) (fun t h' => h5 = h' ∧ ∃ k : Int, tmGet t 10 = I k ∧ 0 ≤ k ∧ k < b - a) ?_ ?_
    · refine WX.br (fun hf => ?_) (fun hf => ?_) <;> simp only [DB] at hf <;> refine go ?_
      · exact cutK_normal ⟨rfl, _, sl_, by omega, by omega⟩
      · exact cutK_normal ⟨rfl, _, sl_, by omega, by omega⟩
    rintro t6 _ hs6 ⟨rfl, k, s10, hk0, hk1⟩
    refine go ?_
    refine WX.regionU2 0 rfl rfl ?_
    have srX : SlI (inC (asideN 0 h5)) v ys := (s5.own).sl
    refine goU ?_
    refine WU2.swA (i) (a + k) (s5).own (s5).ext (by rw [(s5).ext.mark]; exact hmB) ?_
    intro h7 e7 o7 u7
    have s7 := s5.swp e7 o7 u7 h0 hb (by omega) (by omega)
    have o7' := o5.updV o hg u7
    refine go ?_
    exact loopK_normal (swp ys i (a + k), i + 1, y) (by simp only; omega) ⟨s7, sl_, by simp only; omega, o7'⟩
  · refine rtN ?_
    exact ⟨ys, s4⟩
end Go.Proofs.YtbhdfhiecgebnaaDoor
