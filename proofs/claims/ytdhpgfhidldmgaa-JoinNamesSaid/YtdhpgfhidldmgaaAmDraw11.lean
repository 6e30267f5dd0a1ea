/-
  The abstract machine: regions that draw their order (11): the whole.
-/
import Derived.Test.YtdhpgfhidldmgaaAmDraw10
import Derived.Orders
namespace Go.Am
open Go.RowKit

section
variable {P : Program} {ih : Ex} {B : Nat} {nt : Nat} {ops : Array Oper} {as : List AOper} {l : List (AOper × List Nat)} {FR : Nat → AFr} {H : Nat → AHeap} {G : Nat → Nat} {σ0 : Nat → Option Pl} {h0 : AHeap} {w0 : World} {b : Frame}

/-- The numbers that are not listed yet. -/
def left (ops : Array Oper) (listed : Array Bool) : List Nat := (List.range ops.size).filter fun i => !listed.getD i true

theorem Inv.congr {S S' : Nat → Prop} {p : Nat} {tS : Trie Value} {HS : AHeap} {σ : Nat → Option Pl} {w : World} {a : Act} (he : ∀ j, S j ↔ S' j) (iv : Inv P B nt ops as FR H G σ0 h0 w0 b S p tS HS σ w a) : Inv P B nt ops as FR H G σ0 h0 w0 b S' p tS HS σ w a := by
  have : S = S' := funext fun j => propext (he j)
  rw [← this]; exact iv

theorem run_all (hex : ExecSound P ih) (hcall : CallSound P ih) (d : Dr P ih nt ops as l FR H G) (h0n : h0.n ≤ G 0) (hed : edgesOk ops = true) : ∀ (fuel t : Nat) (listed : Array Bool) {p : Nat} {tS : Trie Value} {HS : AHeap} {σ : Nat → Option Pl} {w : World} {a : Act},
    listed.size = ops.size → (left ops listed).length ≤ fuel →
    (∀ (j : Nat) (o : Oper), listed.getD j false = true → ops[j]? = some o → ∀ e ∈ o.after.toList, Region.binds .any e = true → listed.getD e.on false = true) →
    Inv P B nt ops as FR H G σ0 h0 w0 b (fun j => listed.getD j false = true) p tS HS σ w a →
    ∃ p' tS' HS' σ' w' a', Inv P B nt ops as FR H G σ0 h0 w0 b (fun j => j < ops.size) p' tS' HS' σ' w' a' ∧
      ∀ (k : List Item) (cs : List Frame), Steps P (lone (At b a (.inRegion ops (Region.linearise.go .any ops fuel t listed []) :: k)) cs w) (lone (At b a' (.inRegion ops [] :: k)) cs w') := by
  intro fuel
  have fin : ∀ (listed : Array Bool) {p : Nat} {tS : Trie Value} {HS : AHeap} {σ : Nat → Option Pl} {w : World} {a : Act}, listed.size = ops.size → left ops listed = [] → Inv P B nt ops as FR H G σ0 h0 w0 b (fun j => listed.getD j false = true) p tS HS σ w a →
      Inv P B nt ops as FR H G σ0 h0 w0 b (fun j => j < ops.size) p tS HS σ w a := by
    intro listed p tS HS σ w a hsz hl iv
    refine iv.congr fun j => ⟨fun hj => ?_, fun hj => ?_⟩
    · rcases Nat.lt_or_ge j ops.size with q | q
      · exact q
      · rw [Array.getD_eq_getD_getElem?, Array.getElem?_eq_none (by omega)] at hj
        cases hj
    · have hm : j ∉ left ops listed := by rw [hl]; simp
      have hq : listed.getD j true = true := by
        cases hv : listed.getD j true with
        | true => rfl
        | false => exact absurd (List.mem_filter.2 ⟨List.mem_range.2 hj, by simp [hv]⟩) hm
      rw [Array.getD_eq_getD_getElem?, Array.getElem?_eq_getElem (by omega)] at hq ⊢
      exact hq
  induction fuel with
  | zero =>
    intro t listed p tS HS σ w a hsz hlen hcl iv
    exact ⟨p, tS, HS, σ, w, a, fin listed hsz (List.length_eq_zero_iff.1 (by omega)) iv, fun k cs => Steps.refl P _⟩
  | succ fuel ihf =>
    intro t listed p tS HS σ w a hsz hlen hcl iv
    simp only [Region.linearise.go]
    change ∃ p' tS' HS' σ' w' a', _ ∧ ∀ (k : List Item) (cs : List Frame), Steps P (lone (At b a (.inRegion ops (match (Region.ready .any ops listed)[t % (Region.ready .any ops listed).length]? with
      | some i => Region.linearise.go .any ops fuel (t / (Region.ready .any ops listed).length) (listed.setIfInBounds i true) [i]
      | none => [].reverse) :: k)) cs w) _
    cases hi : (Region.ready .any ops listed)[t % (Region.ready .any ops listed).length]? with
    | none =>
      have hnil : Region.ready .any ops listed = [] := by
        cases hr : Region.ready .any ops listed with
        | nil => rfl
        | cons x xs =>
          rw [hr] at hi
          have hlt : t % (x :: xs).length < (x :: xs).length := Nat.mod_lt _ (by simp)
          simp at hi
          simp at hlt
          omega
      refine ⟨p, tS, HS, σ, w, a, fin listed hsz ?_ iv, fun k cs => Steps.refl P _⟩
      -- the least that is left would be ready
      cases hL : left ops listed with
      | nil => rfl
      | cons x xs =>
        exfalso
        have key : ∀ n j, j < n → j ∈ left ops listed → False := by
          intro n
          induction n with
          | zero => intro j hj; omega
          | succ n ihn =>
            intro j hj hm
            obtain ⟨hm1, hm2⟩ := List.mem_filter.1 hm
            have hjs := List.mem_range.1 hm1
            have hr : j ∈ Region.ready .any ops listed := by
              refine List.mem_filter.2 ⟨hm1, ?_⟩
              rw [Array.getElem?_eq_getElem hjs]
              simp only [Option.map_some, Option.getD_some, Bool.and_eq_true]
              refine ⟨hm2, ?_⟩
              rw [Array.all_eq_true']
              intro e he
              cases hb : Region.binds .any e with
              | false => rfl
              | true =>
                have hlt := edges_get hed (Array.getElem?_eq_getElem hjs) (by simpa using he) hb
                have hno := ihn e.on (by omega)
                have : listed.getD e.on true = true := by
                  cases hv : listed.getD e.on true with
                  | true => rfl
                  | false => exact absurd (List.mem_filter.2 ⟨List.mem_range.2 (by omega), by simp [hv]⟩) hno
                rw [Array.getD_eq_getD_getElem?, Array.getElem?_eq_getElem (by omega)] at this ⊢
                simpa using this
            rw [hnil] at hr
            cases hr
        exact key (x + 1) x (by omega) (by rw [hL]; exact List.mem_cons_self ..)
    | some i =>
      simp only []
      have him := List.mem_of_getElem? hi
      obtain ⟨hm1, hm2⟩ := List.mem_filter.1 him
      have his := List.mem_range.1 hm1
      obtain ⟨o, ao, un, ho, ha, _⟩ := d.get his
      rw [ho] at hm2
      simp only [Option.map_some, Option.getD_some, Bool.and_eq_true] at hm2
      have hnl : listed.getD i true = false := by simpa using hm2.1
      have hS : ¬ listed.getD i false = true := by
        rw [Array.getD_eq_getD_getElem?, Array.getElem?_eq_getElem (by omega)] at hnl ⊢
        simp only [Option.getD_some] at hnl ⊢
        rw [hnl]; simp
      have hready : ∀ e ∈ o.after.toList, Region.binds .any e = true → listed.getD e.on false = true := by
        intro e he hb
        have := Array.all_eq_true'.1 hm2.2 e (by simpa using he)
        rw [hb] at this
        simpa using this
      have pre : ∀ j, Bf (befs ops.toList []) i j = true → listed.getD j false = true := bf_closed (S := fun j => listed.getD j false = true) hcl (i + 1) i o (by omega) ho hready
      have suc : ∀ j aj, as[j]? = some aj → listed.getD j false = true → Bf (befs ops.toList []) j i = false := by
        intro j aj hja hSj
        cases hb : Bf (befs ops.toList []) j i with
        | false => rfl
        | true =>
          have hjs := d.lt hja
          exact absurd (bf_closed (S := fun j => listed.getD j false = true) hcl (j + 1) j ops[j] (by omega) (Array.getElem?_eq_getElem hjs) (hcl j _ hSj (Array.getElem?_eq_getElem hjs)) i hb) hS
      have hnext : Next1 P B nt ops as FR H G σ0 h0 w0 b (fun j => listed.getD j false = true) i w a := by
        have hle := kind_le ao.op
        rcases (by omega : (kindA ao.op = 0 ∨ kindA ao.op = 1) ∨ kindA ao.op = 2 ∨ kindA ao.op = 3) with hk | hk | hk
        · exact step_quiet hex hcall d iv ho ha hS hk pre suc
        · exact step_loud hex hcall d iv ho ha hS hk pre suc
        · exact step_alloc hex hcall d iv h0n ho ha hS hk pre suc
      obtain ⟨p1, tS1, HS1, σ1, w1, a1, iv1, st1⟩ := hnext
      have hset : ∀ j, (listed.setIfInBounds i true).getD j false = true ↔ listed.getD j false = true ∨ j = i := by
        intro j
        rw [Array.getD_eq_getD_getElem?, Array.getD_eq_getD_getElem?, Array.getElem?_setIfInBounds]
        by_cases hj : i = j
        · subst hj; simp [hsz, his]
        · rw [if_neg hj]
          constructor
          · exact .inl
          · rintro (q | q)
            · exact q
            · exact absurd q.symm hj
      obtain ⟨p2, tS2, HS2, σ2, w2, a2, iv2, st2⟩ := ihf (t / (Region.ready .any ops listed).length) (listed.setIfInBounds i true) (by simpa using hsz) (by
          have : (left ops (listed.setIfInBounds i true)).length < (left ops listed).length := by
            have e : left ops (listed.setIfInBounds i true) = (left ops listed).filter fun j => !(listed.setIfInBounds i true).getD j true := by
              unfold left
              rw [List.filter_filter]
              refine List.filter_congr fun j hj => ?_
              have hjs := List.mem_range.1 hj
              rw [Array.getD_eq_getD_getElem?, Array.getD_eq_getD_getElem?, Array.getElem?_setIfInBounds]
              by_cases hq : i = j
              · subst hq; simp [hsz, his]
              · rw [if_neg hq]; simp
            rw [e]
            refine List.length_filter_lt_length_iff_exists.2 ⟨i, List.mem_filter.2 ⟨hm1, by simp [hnl]⟩, ?_⟩
            rw [Array.getD_eq_getD_getElem?, Array.getElem?_setIfInBounds]
            simp [hsz, his]
          omega)
        (fun j o' hj ho' e he hb => by
          rw [hset] at hj ⊢
          rcases hj with hj | rfl
          · exact .inl (hcl j o' hj ho' e he hb)
          · rw [ho] at ho'; cases ho'
            exact .inl (hready e he hb)) (iv1.congr fun j => (hset j).symm)
      refine ⟨p2, tS2, HS2, σ2, w2, a2, iv2, fun k cs => ?_⟩
      rw [linearise_go_acc, List.reverse_singleton, List.singleton_append]
      exact Steps.trans (st1 _ k cs) (st2 k cs)

end
end Go.Am
