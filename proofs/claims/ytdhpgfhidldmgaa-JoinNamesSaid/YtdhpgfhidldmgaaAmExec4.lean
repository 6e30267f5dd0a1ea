/-
  The abstract machine: runs. What it does, the model's machine does (4): regions in the text's order, the forms of code.
-/
import Derived.Test.YtdhpgfhidldmgaaAmExec3
namespace Go.Am
open Go.RowKit

theorem Steps.peel {P : Program} {m m1 m2 : Machine} (h : Steps P m m2) (hne : m ≠ m2) (hs : step P m = .next m1) : Steps P m1 m2 := by
  obtain ⟨n, hn⟩ := h
  cases n with
  | zero => simp [runN] at hn; exact absurd hn hne
  | succ n => exact ⟨n, by simpa [runN, hs] using hn⟩

section
variable {P : Program} {B : Nat} {σ : Nat → Option Pl} {h : AHeap} {w : World}

/-- Operations, in the text's order. -/
theorem aopers_sound {ih : Ex} (hex : ExecSound P ih) (hcall : CallSound P ih) {nt : Nat} {ops : Array Oper} {b : Frame} : ∀ (l : List Oper) (j : Nat) (as : List AOper) {σ : Nat → Option Pl} {h : AHeap} {w : World} {fr fr' : AFr} {a : Act} {h' : AHeap},
    (∀ i o, l[i]? = some o → ops[j + i]? = some o) → cOpers P nt ops l = some as → HRel P B σ h w → FRel P σ nt fr a b → aopers P ih as fr h = some (fr', h') →
    ∃ σ' w' a', Evo P B σ h w σ' h' w' ∧ FRel P σ' nt fr' a' b ∧ fr'.round = fr.round ∧
      ∀ (k : List Item) (cs : List Frame), Steps P (lone (At b a (.inRegion ops (List.range' j l.length) :: k)) cs w) (lone (At b a' (.inRegion ops [] :: k)) cs w') := by
  intro l
  induction l with
  | nil =>
    intro j as σ h w fr fr' a h' _ hc hr hF hx
    simp only [cOpers, Option.some.injEq] at hc
    subst hc
    simp only [aopers, Option.some.injEq, Prod.mk.injEq] at hx
    obtain ⟨rfl, rfl⟩ := hx
    exact ⟨σ, w, a, .refl hr, hF, rfl, fun k cs => Steps.refl P _⟩
  | cons o l ihl =>
    intro j as σ h w fr fr' a h' hl hc hr hF hx
    simp only [cOpers] at hc
    cases h1 : cOper P nt ops o with
    | none => simp [h1] at hc
    | some ao =>
    cases h2 : cOpers P nt ops l with
    | none => simp [h1, h2] at hc
    | some as2 =>
    simp only [h1, h2, Option.some.injEq] at hc
    subst hc
    simp only [aopers] at hx
    cases h3 : aoper P ih ao fr h with
    | none => simp [h3] at hx
    | some p =>
    obtain ⟨fr1, hh1⟩ := p
    simp only [h3] at hx
    obtain ⟨σ1, w1, a1, e1, F1, rd1, st1⟩ := aoper_sound hex hcall (i := j) (by simpa using hl 0 o rfl) h1 hr hF h3
    obtain ⟨σ2, w2, a2, e2, F2, rd2, st2⟩ := ihl (j + 1) as2 (fun i o' hi => by have := hl (i + 1) o' (by simpa using hi); rw [← this]; congr 1; omega) h2 e1.rel F1 hx
    refine ⟨σ2, w2, a2, e1.trans e2, F2, rd2.trans rd1, fun k cs => ?_⟩
    rw [List.length_cons, List.range'_succ]
    exact Steps.trans (st1 _ k cs) (st2 k cs)

theorem region_sound {ih : Ex} (hex : ExecSound P ih) (hcall : CallSound P ih) {nt id : Nat} {ops : Array Oper} {b : Frame} {as : List AOper} {fr fr' : AFr} {a : Act} {h' : AHeap}
    (hc : cOpers P nt ops ops.toList = some as) (hr : HRel P B σ h w) (hF : FRel P σ nt fr a b) (hx : aopers P ih as fr h = some (fr', h')) :
    ∃ σ' w' a', Evo P B σ h w σ' h' w' ∧ FRel P σ' nt fr' a' b ∧ fr'.round = fr.round ∧
      ∀ (k : List Item) (cs : List Frame), Steps P (lone (At b a (.code (.region id ops false) :: k)) cs w) (lone (At b a' k) cs w') := by
  obtain ⟨σ1, w1, a1, e1, F1, rd1, st1⟩ := aopers_sound hex hcall ops.toList 0 as (fun i o hi => by simpa using hi) hc hr hF hx
  refine ⟨σ1, w1, a1, e1, F1, rd1, fun k cs => ?_⟩
  refine Steps.trans (.one st_region) (.trans ?_ (.one (st_region_end (ops := ops))))
  have := st1 k cs
  rw [← List.range_eq_range'] at this
  simpa using this

theorem findLabel_rel {nt : Nat} : ∀ {c : Code} {ac : ACode} {l : Nat}, cCode P nt c = some ac →
    (findLabel c l = none ∧ findLabelA ac l = none) ∨ ∃ r r', findLabel c l = some r ∧ findLabelA ac l = some r' ∧ cCode P nt r = some r' := by
  intro c
  induction c with
  | seq x y ihx ihy =>
    intro ac l hc
    simp only [cCode] at hc
    cases h1 : cCode P nt x with
    | none => simp [h1] at hc
    | some ax =>
    cases h2 : cCode P nt y with
    | none => simp [h1, h2] at hc
    | some ay =>
    simp only [h1, h2, Option.some.injEq] at hc
    subst hc
    simp only [findLabel, findLabelA]
    rcases ihx (l := l) h1 with ⟨a1, a2⟩ | ⟨r, r', a1, a2, a3⟩
    · rw [a1, a2]
      exact ihy (l := l) h2
    · rw [a1, a2]
      exact .inr ⟨_, _, rfl, rfl, by simp [cCode, a3, h2]⟩
  | label l' =>
    intro ac l hc
    simp only [cCode, Option.some.injEq] at hc
    subst hc
    simp only [findLabel, findLabelA]
    by_cases e : l' == l
    · simp only [e, if_true]
      exact .inr ⟨_, _, rfl, rfl, rfl⟩
    · simp only [e]
      exact .inl ⟨rfl, rfl⟩
  | _ =>
    intro ac l hc
    refine .inl ⟨rfl, ?_⟩
    simp only [cCode, Bool.cond_eq_ite] at hc
    repeat' split at hc
    all_goals first
      | (cases hc; done)
      | (cases hc; rfl)
      | (simp only [Option.map_eq_some_iff] at hc; obtain ⟨_, _, rfl⟩ := hc; rfl)
      | (simp only [cDraw, Bool.cond_eq_ite] at hc; split at hc <;> cases hc; rfl)

/-- What a frame may come to, ahead of one item more. -/
theorem Arr.skipItem {m : Machine} {b : Frame} {it : Item} {k : List Item} {cs : List Frame} {e : AExit} {a : Act} {w : World} (hn : step P (lone (At b a (it :: k)) cs w) = .next (lone (At b a k) cs w))
    (hx : ∀ id, exitTo id (it :: k) = exitTo id k) (hg : ∀ l, gotoIn l (it :: k) = gotoIn l k) (h : Arr P m b (it :: k) cs e a w) : Arr P m b k cs e a w := by
  cases e with
  | normal => exact Steps.trans h (.one hn)
  | ret => exact h
  | exit id => obtain ⟨k1, h1, h2⟩ := h; exact ⟨k1, h1.trans (hx id), h2⟩
  | goto l => obtain ⟨k1, h1, h2⟩ := h; exact ⟨k1, h1.trans (hg l), h2⟩

theorem Arr.head {m m1 : Machine} {b : Frame} {k : List Item} {cs : List Frame} {e : AExit} {a : Act} {w : World} (hs : Steps P m m1) (h : Arr P m1 b k cs e a w) : Arr P m b k cs e a w := by
  cases e with
  | normal => exact Steps.trans hs h
  | ret => obtain ⟨k1, h⟩ := h; exact ⟨k1, Steps.trans hs h⟩
  | exit id => obtain ⟨k1, h1, h2⟩ := h; exact ⟨k1, h1, Steps.trans hs h2⟩
  | goto l => obtain ⟨k1, h1, h2⟩ := h; exact ⟨k1, h1, Steps.trans hs h2⟩

/-- The states are what 'ExecSound' says of one code. -/
def CSound (P : Program) (B : Nat) (σ : Nat → Option Pl) (h : AHeap) (w : World) (nt : Nat) (c : Code) (fr : AFr) (a : Act) (b : Frame) (e : AExit) (fr' : AFr) (h' : AHeap) : Prop :=
  ∃ σ' w' a', Evo P B σ h w σ' h' w' ∧ FRel P σ' nt fr' a' b ∧ fr'.round = fr.round ∧ ∀ (k : List Item) (cs : List Frame), Arr P (lone (At b a (.code c :: k)) cs w) b k cs e a' w'

theorem scope_sound {ih : Ex} (hex : ExecSound P ih) {nt : Nat} {c0 : Code} {ac0 : ACode} (hc0 : cCode P nt c0 = some ac0) {b : Frame} : ∀ (n : Nat) {c : Code} {ac : ACode} {σ : Nat → Option Pl} {h : AHeap} {w : World} {fr fr' : AFr} {a : Act} {e : AExit} {h' : AHeap},
    cCode P nt c = some ac → HRel P B σ h w → FRel P σ nt fr a b → scopeA ih n ac0 ac fr h = some (e, fr', h') →
    ∃ σ' w' a', Evo P B σ h w σ' h' w' ∧ FRel P σ' nt fr' a' b ∧ fr'.round = fr.round ∧ ∀ (k : List Item) (cs : List Frame), Arr P (lone (At b a (.code c :: .inScope c0 :: k)) cs w) b k cs e a' w' := by
  intro n
  induction n with
  | zero => intro c ac σ h w fr fr' a e h' _ _ _ hx; simp [scopeA] at hx
  | succ n ihn =>
    intro c ac σ h w fr fr' a e h' hc hr hF hx
    simp only [scopeA] at hx
    have leave : ∀ {e0 fr0 h0}, ih.exec ac fr h = some (e0, fr0, h0) → (∀ l, e0 = .goto l → findLabelA ac0 l = none) →
        ∃ σ' w' a', Evo P B σ h w σ' h0 w' ∧ FRel P σ' nt fr0 a' b ∧ fr0.round = fr.round ∧ ∀ (k : List Item) (cs : List Frame), Arr P (lone (At b a (.code c :: .inScope c0 :: k)) cs w) b k cs e0 a' w' := by
      intro e0 fr0 h0 hx0 hno
      obtain ⟨σ1, w1, a1, e1, F1, rd1, st1⟩ := hex nt c ac hc fr h e0 fr0 h0 hx0 B σ w hr a b hF
      refine ⟨σ1, w1, a1, e1, F1, rd1, fun k cs => ?_⟩
      have := st1 (.inScope c0 :: k) cs
      cases e0 with
      | normal => exact Steps.trans this (.one st_inScope)
      | ret => exact this
      | exit id => obtain ⟨k1, h1, h2⟩ := this; exact ⟨k1, h1, h2⟩
      | goto l =>
        obtain ⟨k1, h1, h2⟩ := this
        have hn : findLabel c0 l = none := by
          rcases findLabel_rel (l := l) hc0 with ⟨q, _⟩ | ⟨r, r', _, q, _⟩
          · exact q
          · rw [hno l rfl] at q; cases q
        exact ⟨k1, by rw [h1]; simp [gotoIn, hn], h2⟩
    cases hx0 : ih.exec ac fr h with
    | none => simp [hx0] at hx
    | some p =>
    obtain ⟨e0, fr0, h0⟩ := p
    rw [hx0] at hx
    cases e0 with
    | goto l =>
      simp only at hx
      cases hfl : findLabelA ac0 l with
      | none =>
        simp only [hfl, Option.some.injEq, Prod.mk.injEq] at hx
        obtain ⟨rfl, rfl, rfl⟩ := hx
        exact leave hx0 fun l' e => by cases e; exact hfl
      | some rest =>
        simp only [hfl] at hx
        rcases findLabel_rel (l := l) hc0 with ⟨_, q⟩ | ⟨r, r', q1, q2, q3⟩
        · rw [hfl] at q; cases q
        · rw [hfl] at q2; cases q2
          obtain ⟨σ1, w1, a1, e1, F1, rd1, st1⟩ := hex nt c ac hc fr h _ fr0 h0 hx0 B σ w hr a b hF
          obtain ⟨σ2, w2, a2, e2, F2, rd2, st2⟩ := ihn q3 e1.rel F1 hx
          refine ⟨σ2, w2, a2, e1.trans e2, F2, rd2.trans rd1, fun k cs => ?_⟩
          obtain ⟨k1, h1, h2⟩ := st1 (.inScope c0 :: k) cs
          have hg : gotoIn l k1 = some (.code r :: .inScope c0 :: k) := by rw [h1]; simp [gotoIn, q1]
          exact Arr.head (Steps.trans h2 (.one (st_goto hg))) (st2 k cs)
    | normal =>
      simp only [Option.some.injEq, Prod.mk.injEq] at hx
      obtain ⟨rfl, rfl, rfl⟩ := hx
      exact leave hx0 fun l e => by cases e
    | ret =>
      simp only [Option.some.injEq, Prod.mk.injEq] at hx
      obtain ⟨rfl, rfl, rfl⟩ := hx
      exact leave hx0 fun l e => by cases e
    | exit id =>
      simp only [Option.some.injEq, Prod.mk.injEq] at hx
      obtain ⟨rfl, rfl, rfl⟩ := hx
      exact leave hx0 fun l e => by cases e

/-! ### A range over a function -/
theorem step_enter {f : Operand} {params : Array Tmp} {assign body : Code} {b : Frame} {a : Act} {k : List Item} {cs : List Frame} {l : Nat} {mark : List Deferred} {w' w'' : World} {nx : Next} {fr0 : Frame}
    (he : (Instr.enterLoop b.fn a.tmps params assign body b.roundOf).run P w = .ok (l, mark) w')
    (hr : ((do let d ← Deferred.ofValue (a.eval f) #[.func (.yield l) #[] #[]]; invoke d.target d.args) : Sem Next).run P w' = .ok nx w'') (hf : frameOf P nx = some fr0) :
    step P (lone (At b a (.code (.rangeFunc f params assign body) :: k)) cs w) = .next (lone fr0 (At b { a with defers := mark ++ a.defers } (.inRangeFunc l :: k) :: cs) w'') := by
  refine step_lone_go ?_
  have hev := congrFun (at_eval b { a with defers := mark ++ a.defers } (.inRangeFunc l :: k)) f
  simp only [At] at hev
  have hev' : (At b { a with defers := mark ++ a.defers } (.inRangeFunc l :: k)).eval f = a.eval f := hev
  have hargs : (#[Operand.const (.func (.yield l) #[] #[])].map (At b { a with defers := mark ++ a.defers } (.inRangeFunc l :: k)).eval) = #[.func (.yield l) #[] #[]] := by simp [Frame.eval]
  have hrun : ((do let d ← resolve (At b { a with defers := mark ++ a.defers } (.inRangeFunc l :: k)).eval { callee := .value f, args := #[.const (.func (.yield l) #[] #[])], argTypes := #[] } 0; invoke d.target d.args) : Sem Next).run P w' = .ok nx w'' := by
    simp only [resolve, hev', hargs]
    exact hr
  simp only [stepG, stepG.exec, At, Sem.runT_eq, he, GStep.bare_after] at hrun ⊢
  cases nx <;> simp only [frameOf, Option.some.injEq] at hf <;> try (cases hf; done)
  all_goals
    subst hf
    simp [stepG.apply, hrun]

theorem st_endRange {b : Frame} {a : Act} {k : List Item} {cs : List Frame} {l : Nat} {w' : World} {jump : Option Code} (he : (Instr.endLoop l).run P w = .ok jump w') :
    step P (lone (At b a (.endRangeFunc l :: k)) cs w) = .next (lone (At b a ((jump.map Item.code).toList ++ k)) cs w') := by
  refine step_lone_go ?_
  simp [stepG, stepG.exec, At, Sem.runT_eq, he]

end
end Go.Am
