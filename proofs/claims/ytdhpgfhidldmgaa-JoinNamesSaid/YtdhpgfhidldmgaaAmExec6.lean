/-
  The abstract machine: runs. What it does, the model's machine does (6): all forms of code, but for regions that draw their order; calls; the whole.
-/
import Derived.Test.YtdhpgfhidldmgaaAmExec5
namespace Go.Am
open Go.RowKit

/-- What is shown of regions that draw their order. -/
def DrawSound (P : Program) (ih : Ex) : Prop := ∀ (nt id : Nat) (ops : Array Oper) (as : List AOper) (l : List (AOper × List Nat)), cOpers P nt ops ops.toList = some as → cDraw ops as = some (.regionC l) →
  ∀ (B : Nat) (σ : Nat → Option Pl) (h : AHeap) (w : World) (fr fr' : AFr) (a : Act) (b : Frame) (h' : AHeap), HRel P B σ h w → FRel P σ nt fr a b → regionA P ih l fr h = some (fr', h') →
    ∃ σ' w' a', Evo P B σ h w σ' h' w' ∧ FRel P σ' nt fr' a' b ∧ fr'.round = fr.round ∧
      ∀ (k : List Item) (cs : List Frame), Steps P (lone (At b a (.code (.region id ops true) :: k)) cs w) (lone (At b a' k) cs w')

section
variable {P : Program} {B : Nat} {σ : Nat → Option Pl} {h : AHeap} {w : World}

theorem cDraw_form {ops : Array Oper} {as : List AOper} {c : ACode} (hc : cDraw ops as = some c) : ∃ l, c = .regionC l := by
  unfold cDraw at hc
  simp only [Bool.cond_eq_ite] at hc
  split at hc
  · cases hc; exact ⟨_, rfl⟩
  · cases hc

theorem execA_sound {ih : Ex} (hex : ExecSound P ih) (hcall : CallSound P ih) (hdr : DrawSound P ih) : ExecSound P ⟨execA P ih, ih.call⟩ := by
  intro nt c ac hc fr h e fr' h' hx B σ w hr a b hF
  have hc : cCode P nt c = some ac := hc
  have hx : execA P ih ac fr h = some (e, fr', h') := hx
  have same : ∀ {x : AExit}, (e = x ∧ fr' = fr ∧ h' = h) → (∀ (k : List Item) (cs : List Frame), Arr P (lone (At b a (.code c :: k)) cs w) b k cs x a w) → CSound P B σ h w nt c fr a b e fr' h' := by
    rintro x ⟨rfl, rfl, rfl⟩ hs
    exact ⟨σ, w, a, .refl hr, hF, rfl, hs⟩
  cases c with
  | skip =>
    simp only [cCode, Option.some.injEq] at hc
    subst hc
    simp only [execA, Option.some.injEq, Prod.mk.injEq] at hx
    exact same ⟨hx.1.symm, hx.2.1.symm, hx.2.2.symm⟩ fun k cs => .one st_skip
  | label l =>
    simp only [cCode, Option.some.injEq] at hc
    subst hc
    simp only [execA, Option.some.injEq, Prod.mk.injEq] at hx
    exact same ⟨hx.1.symm, hx.2.1.symm, hx.2.2.symm⟩ fun k cs => .one st_label
  | exit id =>
    simp only [cCode, Option.some.injEq] at hc
    subst hc
    simp only [execA, Option.some.injEq, Prod.mk.injEq] at hx
    exact same ⟨hx.1.symm, hx.2.1.symm, hx.2.2.symm⟩ fun k cs => ⟨k, rfl, Steps.refl P _⟩
  | goto l =>
    simp only [cCode, Option.some.injEq] at hc
    subst hc
    simp only [execA, Option.some.injEq, Prod.mk.injEq] at hx
    exact same ⟨hx.1.symm, hx.2.1.symm, hx.2.2.symm⟩ fun k cs => ⟨k, rfl, Steps.refl P _⟩
  | ret =>
    simp only [cCode, Option.some.injEq] at hc
    subst hc
    simp only [execA, Option.some.injEq, Prod.mk.injEq] at hx
    exact same ⟨hx.1.symm, hx.2.1.symm, hx.2.2.symm⟩ fun k cs => ⟨k, Steps.refl P _⟩
  | refuse _ => simp [cCode] at hc
  | region id ops draw =>
    simp only [cCode] at hc
    cases h1 : cOpers P nt ops ops.toList with
    | none => simp [h1] at hc
    | some as =>
    simp only [h1] at hc
    cases draw with
    | false =>
      simp only [cond_false, Option.some.injEq] at hc
      subst hc
      simp only [execA, Option.map_eq_some_iff, Prod.mk.injEq] at hx
      obtain ⟨⟨fr1, hh1⟩, hx2, rfl, rfl, rfl⟩ := hx
      exact region_sound hex hcall h1 hr hF hx2
    | true =>
      simp only [cond_true] at hc
      obtain ⟨l, rfl⟩ := cDraw_form hc
      simp only [execA, Option.map_eq_some_iff, Prod.mk.injEq] at hx
      obtain ⟨⟨fr1, hh1⟩, hx2, rfl, rfl, rfl⟩ := hx
      exact hdr nt id ops as l h1 hc B σ h w fr _ a b _ hr hF hx2
  | seq x y =>
    simp only [cCode] at hc
    cases h1 : cCode P nt x with
    | none => simp [h1] at hc
    | some ax =>
    cases h2 : cCode P nt y with
    | none => simp [h1, h2] at hc
    | some ay =>
    simp only [h1, h2, Option.some.injEq] at hc
    subst hc
    simp only [execA] at hx
    cases hx0 : ih.exec ax fr h with
    | none => simp [hx0] at hx
    | some p =>
    obtain ⟨e0, fr0, h0⟩ := p
    obtain ⟨σ1, w1, a1, e1, F1, rd1, st1⟩ := hex nt x ax h1 fr h e0 fr0 h0 hx0 B σ w hr a b hF
    have leave : e0 ≠ .normal → e = e0 ∧ fr' = fr0 ∧ h' = h0 → CSound P B σ h w nt (.seq x y) fr a b e fr' h' := by
      rintro hne ⟨rfl, rfl, rfl⟩
      refine ⟨σ1, w1, a1, e1, F1, rd1, fun k cs => Arr.head (.one st_seq) ?_⟩
      have := st1 (.code y :: k) cs
      cases e with
      | normal => exact absurd rfl hne
      | ret => exact this
      | exit id => obtain ⟨k1, q1, q2⟩ := this; exact ⟨k1, q1, q2⟩
      | goto l => obtain ⟨k1, q1, q2⟩ := this; exact ⟨k1, q1, q2⟩
    cases e0 with
    | normal =>
      simp only [hx0] at hx
      obtain ⟨σ2, w2, a2, e2, F2, rd2, st2⟩ := hex nt y ay h2 fr0 h0 e fr' h' hx B σ1 w1 e1.rel a1 b F1
      exact ⟨σ2, w2, a2, e1.trans e2, F2, rd2.trans rd1, fun k cs => Arr.head (Steps.trans (.one st_seq) (st1 (.code y :: k) cs)) (st2 k cs)⟩
    | ret => simp only [hx0, Option.some.injEq, Prod.mk.injEq] at hx; exact leave (by simp) ⟨hx.1.symm, hx.2.1.symm, hx.2.2.symm⟩
    | exit id => simp only [hx0, Option.some.injEq, Prod.mk.injEq] at hx; exact leave (by simp) ⟨hx.1.symm, hx.2.1.symm, hx.2.2.symm⟩
    | goto l => simp only [hx0, Option.some.injEq, Prod.mk.injEq] at hx; exact leave (by simp) ⟨hx.1.symm, hx.2.1.symm, hx.2.2.symm⟩
  | cond t x y =>
    simp only [cCode] at hc
    cases h0 : opdOk P t with
    | false => simp [h0] at hc
    | true =>
    cases h1 : cCode P nt x with
    | none => simp [h0, h1] at hc
    | some ax =>
    cases h2 : cCode P nt y with
    | none => simp [h0, h1, h2] at hc
    | some ay =>
    simp only [h0, h1, h2, Option.some.injEq] at hc
    subst hc
    simp only [execA] at hx
    have ht := ev_rel hr hF.tm h0
    cases hv : ev fr.tm t with
    | bool tb =>
      rw [hv] at hx ht
      have ha : a.eval t = .bool tb := by
        generalize a.eval t = q at ht
        cases ht; rfl
      cases tb with
      | true =>
        obtain ⟨σ1, w1, a1, e1, F1, rd1, st1⟩ := hex nt x ax h1 fr h e fr' h' hx B σ w hr a b hF
        exact ⟨σ1, w1, a1, e1, F1, rd1, fun k cs => Arr.head (.one (by have := st_cond (P := P) (b := b) (k := k) (cs := cs) (w := w) (x := x) (y := y) ha; exact this)) (st1 k cs)⟩
      | false =>
        obtain ⟨σ1, w1, a1, e1, F1, rd1, st1⟩ := hex nt y ay h2 fr h e fr' h' hx B σ w hr a b hF
        exact ⟨σ1, w1, a1, e1, F1, rd1, fun k cs => Arr.head (.one (by have := st_cond (P := P) (b := b) (k := k) (cs := cs) (w := w) (x := x) (y := y) ha; exact this)) (st1 k cs)⟩
    | _ => simp [hv] at hx
  | block id x =>
    simp only [cCode, Option.map_eq_some_iff] at hc
    obtain ⟨ax, h1, rfl⟩ := hc
    simp only [execA] at hx
    cases hx0 : ih.exec ax fr h with
    | none => simp [hx0] at hx
    | some p =>
    obtain ⟨e0, fr0, h0⟩ := p
    obtain ⟨σ1, w1, a1, e1, F1, rd1, st1⟩ := hex nt x ax h1 fr h e0 fr0 h0 hx0 B σ w hr a b hF
    rw [hx0] at hx
    have leave : ((e0 = .normal ∧ e = .normal ∨ e0 = .ret ∧ e = .ret ∨ ∃ l, e0 = .goto l ∧ e = .goto l) ∨ ∃ id', e0 = .exit id' ∧ ((id' = id ∧ e = .normal) ∨ (id' ≠ id ∧ e = .exit id'))) → fr' = fr0 ∧ h' = h0 →
        CSound P B σ h w nt (.block id x) fr a b e fr' h' := by
      rintro hh ⟨rfl, rfl⟩
      refine ⟨σ1, w1, a1, e1, F1, rd1, fun k cs => Arr.head (.one st_block) ?_⟩
      have := st1 (.inBlock id :: k) cs
      rcases hh with (⟨rfl, rfl⟩ | ⟨rfl, rfl⟩ | ⟨l, rfl, rfl⟩) | ⟨id', rfl, ⟨rfl, rfl⟩ | ⟨hne, rfl⟩⟩
      · exact Steps.trans this (.one st_inBlock)
      · exact this
      · obtain ⟨k1, q1, q2⟩ := this; exact ⟨k1, q1, q2⟩
      · obtain ⟨k1, q1, q2⟩ := this
        exact Steps.trans q2 (.one (st_exit (by rw [q1]; simp [exitTo])))
      · obtain ⟨k1, q1, q2⟩ := this
        exact ⟨k1, by rw [q1]; simp [exitTo, Ne.symm hne], q2⟩
    cases e0 with
    | normal => simp only [Option.some.injEq, Prod.mk.injEq] at hx; exact leave (.inl (.inl ⟨rfl, hx.1.symm⟩)) ⟨hx.2.1.symm, hx.2.2.symm⟩
    | ret => simp only [Option.some.injEq, Prod.mk.injEq] at hx; exact leave (.inl (.inr (.inl ⟨rfl, hx.1.symm⟩))) ⟨hx.2.1.symm, hx.2.2.symm⟩
    | goto l => simp only [Option.some.injEq, Prod.mk.injEq] at hx; exact leave (.inl (.inr (.inr ⟨l, rfl, hx.1.symm⟩))) ⟨hx.2.1.symm, hx.2.2.symm⟩
    | exit id' =>
      simp only at hx
      by_cases hid : id' = id
      · rw [if_pos hid] at hx
        simp only [Option.some.injEq, Prod.mk.injEq] at hx
        exact leave (.inr ⟨id', rfl, .inl ⟨hid, hx.1.symm⟩⟩) ⟨hx.2.1.symm, hx.2.2.symm⟩
      · rw [if_neg hid] at hx
        simp only [Option.some.injEq, Prod.mk.injEq] at hx
        exact leave (.inr ⟨id', rfl, .inr ⟨hid, hx.1.symm⟩⟩) ⟨hx.2.1.symm, hx.2.2.symm⟩
  | loop x =>
    simp only [cCode, Option.map_eq_some_iff] at hc
    obtain ⟨ax, h1, rfl⟩ := hc
    simp only [execA] at hx
    cases hx0 : ih.exec ax fr h with
    | none => simp [hx0] at hx
    | some p =>
    obtain ⟨e0, fr0, h0⟩ := p
    obtain ⟨σ1, w1, a1, e1, F1, rd1, st1⟩ := hex nt x ax h1 fr h e0 fr0 h0 hx0 B σ w hr a b hF
    rw [hx0] at hx
    have leave : e0 ≠ .normal → e = e0 ∧ fr' = fr0 ∧ h' = h0 → CSound P B σ h w nt (.loop x) fr a b e fr' h' := by
      rintro hne ⟨rfl, rfl, rfl⟩
      refine ⟨σ1, w1, a1, e1, F1, rd1, fun k cs => Arr.head (.one st_loop) ?_⟩
      have := st1 (.inLoop x :: k) cs
      cases e with
      | normal => exact absurd rfl hne
      | ret => exact this
      | exit id => obtain ⟨k1, q1, q2⟩ := this; exact ⟨k1, q1, q2⟩
      | goto l => obtain ⟨k1, q1, q2⟩ := this; exact ⟨k1, q1, q2⟩
    cases e0 with
    | normal =>
      simp only at hx
      obtain ⟨σ2, w2, a2, e2, F2, rd2, st2⟩ := hex nt (.loop x) (.loop ax) (by simp [CodeRel, cCode, h1]) fr0 h0 e fr' h' hx B σ1 w1 e1.rel a1 b F1
      refine ⟨σ2, w2, a2, e1.trans e2, F2, rd2.trans rd1, fun k cs => Arr.head (Steps.trans (.one st_loop) (.trans (st1 (.inLoop x :: k) cs) (.one st_inLoop))) ?_⟩
      have q := st2 k cs
      have hs : step P (lone (At b a1 (.code (.loop x) :: k)) cs w1) = .next (lone (At b a1 (.code x :: .inLoop x :: k)) cs w1) := st_loop
      have hne : ∀ (t : List Item) (a2 : Act) (w2 : World), t ≠ .code (.loop x) :: k → lone (At b a1 (.code (.loop x) :: k)) cs w1 ≠ lone (At b a2 t) cs w2 := by
        intro t a2 w2 hn he
        apply hn
        have h3 := congrArg (fun m : Machine => m.gs.toList.map fun g => g.frame.todo) he
        simpa [lone, At] using h3.symm
      cases e with
      | normal => exact Steps.peel q (hne _ _ _ (fun hh => by have := congrArg List.length hh; simp at this)) hs
      | ret => obtain ⟨k1, q⟩ := q; exact ⟨k1, Steps.peel q (hne _ _ _ (by simp)) hs⟩
      | exit id => obtain ⟨k1, q1, q⟩ := q; exact ⟨k1, q1, Steps.peel q (hne _ _ _ (by simp)) hs⟩
      | goto l => obtain ⟨k1, q1, q⟩ := q; exact ⟨k1, q1, Steps.peel q (hne _ _ _ (by simp)) hs⟩
    | ret => simp only [Option.some.injEq, Prod.mk.injEq] at hx; exact leave (by simp) ⟨hx.1.symm, hx.2.1.symm, hx.2.2.symm⟩
    | exit id => simp only [Option.some.injEq, Prod.mk.injEq] at hx; exact leave (by simp) ⟨hx.1.symm, hx.2.1.symm, hx.2.2.symm⟩
    | goto l => simp only [Option.some.injEq, Prod.mk.injEq] at hx; exact leave (by simp) ⟨hx.1.symm, hx.2.1.symm, hx.2.2.symm⟩
  | scope x =>
    simp only [cCode, Option.map_eq_some_iff] at hc
    obtain ⟨ax, h1, rfl⟩ := hc
    simp only [execA] at hx
    obtain ⟨σ1, w1, a1, e1, F1, rd1, st1⟩ := scope_sound hex h1 64 h1 hr hF hx
    exact ⟨σ1, w1, a1, e1, F1, rd1, fun k cs => Arr.head (.one st_scope) (st1 k cs)⟩
  | rangeFunc f ps x y =>
    simp only [cCode] at hc
    cases h0 : opdOk P f with
    | false => simp [h0] at hc
    | true =>
    cases h1 : cCode P nt x with
    | none => simp [h0, h1] at hc
    | some ax =>
    cases h2 : cCode P nt y with
    | none => simp [h0, h1, h2] at hc
    | some ay =>
    cases h3 : ps.toList.all (fun p => Nat.ble (p + 1) nt) with
    | false => simp only [h0, h1, h2, h3, cond_false] at hc; cases hc
    | true =>
    simp only [h0, h1, h2, h3, cond_true, Option.some.injEq] at hc
    subst hc
    simp only [execA] at hx
    exact rangeA_sound hex hcall h1 h2 (fun p hp => Nat.le_of_ble_eq_true (List.all_eq_true.1 h3 p hp)) h0 hr hF hx

end
end Go.Am
