/-
  The abstract machine: regions that draw their order (8): one operation more.
-/
import Derived.Test.YtdhpgfhidldmgaaAmDraw7
namespace Go.Am
open Go.RowKit

section
variable {P : Program} {ih : Ex} {B : Nat} {nt : Nat} {ops : Array Oper} {as : List AOper} {l : List (AOper × List Nat)} {FR : Nat → AFr} {H : Nat → AHeap} {G : Nat → Nat} {σ0 : Nat → Option Pl} {h0 : AHeap} {w0 : World} {b : Frame}
variable {S : Nat → Prop} {p : Nat} {tS : Trie Value} {HS : AHeap} {σ : Nat → Option Pl} {w : World} {a : Act}

theorem names_step (d : Dr P ih nt ops as l FR H G) (iv : Inv P B nt ops as FR H G σ0 h0 w0 b S p tS HS σ w a) {i : Nat} {ao : AOper} (ha : as[i]? = some ao) (hS : ¬ S i)
    (pre : ∀ j, Bf (befs ops.toList []) i j = true → S j) (suc : ∀ j aj, as[j]? = some aj → S j → Bf (befs ops.toList []) j i = false) : ∀ s ∈ namesOf ao, tmGet (FR i).tm s = tmGet tS s := by
  intro s hs
  have hi := d.lt ha
  refine (iv.slots s i (by omega) (fun j aj hj hja hd => ?_) (fun j aj hj hja hd hSj => ?_)).symm
  · rcases d.pair j i aj ao hj hja ha with q | ⟨_, q, _⟩
    · exact pre j q
    · exact absurd hs (q s hd).1
  · rcases Nat.lt_or_ge i j with z | z
    · rcases d.pair i j ao aj z ha hja with q | ⟨_, _, q⟩
      · rw [suc j aj hja hSj] at q; cases q
      · exact q s hd hs
    · have : j = i := by omega
      subst this
      exact hS hSj

theorem slots_step (d : Dr P ih nt ops as l FR H G) (iv : Inv P B nt ops as FR H G σ0 h0 w0 b S p tS HS σ w a) {i : Nat} {ao : AOper} (ha : as[i]? = some ao) (hS : ¬ S i)
    (suc : ∀ j aj, as[j]? = some aj → S j → Bf (befs ops.toList []) j i = false) {v : Value} {ds : List Deferred} (hf : FR (i + 1) = val ao.dst { FR i with dfs := ds ++ (FR i).dfs } v) (x : List Deferred) (y : Option Nat) :
    ∀ (s m : Nat), m ≤ ops.size → (∀ (j : Nat) (aj : AOper), j < m → as[j]? = some aj → aj.dst = some s → S j ∨ j = i) → (∀ (j : Nat) (aj : AOper), m ≤ j → as[j]? = some aj → aj.dst = some s → ¬ (S j ∨ j = i)) →
      tmGet (val ao.dst ⟨tS, x, y⟩ v).tm s = tmGet (FR m).tm s := by
  intro s m hm c1 c2
  by_cases hd : ao.dst = some s
  · have him : i < m := by
      rcases Nat.lt_or_ge i m with q | q
      · exact q
      · exact absurd (.inr rfl) (c2 i ao q ha hd)
    have e1 : tmGet (FR m).tm s = tmGet (FR (i + 1)).tm s := d.slot (by omega) hm fun j aj h1 h2 hja hdj => by
      have hSj : S j := by
        rcases c1 j aj h2 hja hdj with q | q
        · exact q
        · omega
      rcases d.pair i j ao aj (by omega) ha hja with q | ⟨_, q, _⟩
      · rw [suc j aj hja hSj] at q; cases q
      · exact (q s hd).2 hdj
    rw [e1, hf, hd]
    show tmGet (tS.set s v) s = tmGet ((FR i).tm.set s v) s
    rw [tmGet_set, tmGet_set, if_pos rfl, if_pos rfl]
  · have e1 : tmGet (val ao.dst ⟨tS, x, y⟩ v).tm s = tmGet tS s := by
      cases hq : ao.dst with
      | none => rfl
      | some e =>
        show tmGet (tS.set e v) s = _
        rw [tmGet_set, if_neg (fun z => hd (by rw [hq, z]))]
    rw [e1]
    refine iv.slots s m hm (fun j aj h1 hja hdj => ?_) (fun j aj h1 hja hdj hSj => c2 j aj h1 hja hdj (.inl hSj))
    rcases c1 j aj h1 hja hdj with q | q
    · exact q
    · subst q; rw [ha] at hja; cases hja; exact absurd hdj hd

/-- What is to be shown of one operation more. -/
def Next1 (P : Program) (B nt : Nat) (ops : Array Oper) (as : List AOper) (FR : Nat → AFr) (H : Nat → AHeap) (G : Nat → Nat) (σ0 : Nat → Option Pl) (h0 : AHeap) (w0 : World) (b : Frame) (S : Nat → Prop) (i : Nat) (w : World) (a : Act) : Prop :=
  ∃ p' tS' HS' σ' w' a', Inv P B nt ops as FR H G σ0 h0 w0 b (fun j => S j ∨ j = i) p' tS' HS' σ' w' a' ∧
    ∀ (rest : List Nat) (k : List Item) (cs : List Frame), Steps P (lone (At b a (.inRegion ops (i :: rest) :: k)) cs w) (lone (At b a' (.inRegion ops rest :: k)) cs w')

theorem step_quiet (hex : ExecSound P ih) (hcall : CallSound P ih) (d : Dr P ih nt ops as l FR H G) (iv : Inv P B nt ops as FR H G σ0 h0 w0 b S p tS HS σ w a) {i : Nat} {o : Oper} {ao : AOper} (ho : ops[i]? = some o) (ha : as[i]? = some ao) (hS : ¬ S i)
    (hk : kindA ao.op = 0 ∨ kindA ao.op = 1) (pre : ∀ j, Bf (befs ops.toList []) i j = true → S j) (suc : ∀ j aj, as[j]? = some aj → S j → Bf (befs ops.toList []) j i = false) :
    Next1 P B nt ops as FR H G σ0 h0 w0 b S i w a := by
  have hs := d.step ha
  obtain ⟨_, ds, hf, hds, _⟩ := aoperC_spec hs
  have hb : Nat.beq (kindA ao.op) 3 = false := by rcases hk with q | q <;> rw [q] <;> rfl
  have hs2 := hs
  unfold aoperC at hs2
  rw [hb] at hs2
  simp only [cond_false] at hs2
  obtain ⟨v, hf2, hq⟩ := quiet_at hk hs2
  have hrun := hq tS (FR p).dfs (FR 0).round HS (names_step d iv ha hS pre suc) (fun g hg hl => read_same d iv ha hS hk pre suc hg hl)
  obtain ⟨σ', w', a', e1, F1, _, st⟩ := aoper_sound hex hcall ho (d.op i o ao ho ha) iv.evo.rel iv.rel hrun
  have hpd : ∀ j g ob, Pd as FR G (fun j => S j ∨ j = i) p j g ob ↔ Pd as FR G S p j g ob := by
    intro j g ob
    constructor
    · rintro ⟨h1, h2, am, f, h3, h4, h5⟩
      refine ⟨h1.resolve_right ?_, h2, am, f, h3, h4, h5⟩
      rintro rfl
      rw [ha] at h3; cases h3
      omega
    · rintro ⟨h1, h2⟩
      exact ⟨.inl h1, h2⟩
  refine ⟨p, _, HS, σ', w', a', ⟨iv.pn, slots_step d iv ha hS suc (ds := []) (by rw [hf2]; rfl) (FR p).dfs (FR 0).round, fun j am h1 h2 h3 => .inl (iv.loud1 j am h1 h2 h3), fun j am h1 h2 h3 => ?_, iv.hn, fun g => ?_, fun j am h1 h2 h3 => ?_, ?_, iv.evo.trans e1⟩, st⟩
  · rintro (q | rfl)
    · exact iv.loud2 j am h1 h2 h3 q
    · rw [ha] at h2; cases h2; omega
  · simp only [hpd]
    exact iv.pend g
  · have hfr := iv.free j am h1 h2 fun q => h3 (.inl q)
    have hlt : G j < HS.n := by
      rw [iv.hn]
      have := (d.below h1 h2).2
      have := d.n_le (i := 0) (j := p) (by omega) iv.pn
      omega
    rw [e1.old.2 _ hlt]
    exact hfr
  · have : (⟨(val ao.dst ⟨tS, (FR p).dfs, (FR 0).round⟩ v).tm, (FR p).dfs, (FR 0).round⟩ : AFr) = val ao.dst ⟨tS, (FR p).dfs, (FR 0).round⟩ v := by cases ao.dst <;> rfl
    rw [this]
    exact F1

end
end Go.Am
