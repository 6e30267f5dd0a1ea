/-
  The abstract machine: runs. What it does, the model's machine does (3): one operation of a region, calls among them; regions in the text's order.
-/
import Derived.Test.YtdhpgfhidldmgaaAmExec2
namespace Go.Am
open Go.RowKit

section
variable {P : Program} {B : Nat} {σ : Nat → Option Pl} {h : AHeap} {w : World}

theorem cOper_spec {nt : Nat} {ops : Array Oper} {o : Oper} {ao : AOper} (hc : cOper P nt ops o = some ao) :
    (∀ d, o.dst = some d → d < nt) ∧ ao.dst = o.dst ∧ ao.op = (cOp P o).getD .stuck ∧
      ((o.guard = none ∧ ao.guard = none) ∨ ∃ j want s, o.guard = some (j, want) ∧ (ops[j]?).bind (·.dst) = some s ∧ ao.guard = some (s, want)) := by
  have key : ∀ (x : Option AOper), x = (match o.guard with
      | none => some ⟨o.dst, none, (cOp P o).getD .stuck⟩
      | some (j, want) => match (ops[j]?).bind (·.dst) with
        | some s => some ⟨o.dst, some (s, want), (cOp P o).getD .stuck⟩
        | none => none) → x = some ao → ao.dst = o.dst ∧ ao.op = (cOp P o).getD .stuck ∧
      ((o.guard = none ∧ ao.guard = none) ∨ ∃ j want s, o.guard = some (j, want) ∧ (ops[j]?).bind (·.dst) = some s ∧ ao.guard = some (s, want)) := by
    intro x hx hxa
    subst hxa
    cases hg : o.guard with
    | none =>
      rw [hg] at hx
      cases hx
      exact ⟨rfl, rfl, .inl ⟨rfl, rfl⟩⟩
    | some p =>
      obtain ⟨j, want⟩ := p
      rw [hg] at hx
      cases hs : (ops[j]?).bind (·.dst) with
      | none => simp only [hs] at hx; cases hx
      | some s =>
        simp only [hs] at hx
        cases hx
        exact ⟨rfl, rfl, .inr ⟨j, want, s, rfl, hs, rfl⟩⟩
  unfold cOper at hc
  cases hd : o.dst with
  | none =>
    simp only [hd, cond_true] at hc
    have k := key _ (by first | (rw [hd]; done) | (rw [hd]; rfl)) hc
    rw [hd] at k
    exact ⟨(fun d e => by cases e), k⟩
  | some d =>
    cases hl : Nat.ble (d + 1) nt with
    | false => simp [hd, hl] at hc
    | true =>
      simp only [hd, hl, cond_true] at hc
      have k := key _ (by first | (rw [hd]; done) | (rw [hd]; rfl)) hc
      rw [hd] at k
      exact ⟨fun d' e => by cases e; exact Nat.le_of_ble_eq_true hl, k⟩

theorem wanted_eq {nt : Nat} {ops : Array Oper} {o : Oper} {ao : AOper} (hc : cOper P nt ops o = some ao) {t : Trie Value} {a : Act} (ht : ∀ k, VRel σ (tmGet t k) (a.tmps.getD k Go.undef)) :
    Region.wanted o (yielded ops a.tmps) = wantedA t ao.guard := by
  obtain ⟨_, _, _, hg⟩ := cOper_spec hc
  unfold Region.wanted wantedA
  rcases hg with ⟨h1, h2⟩ | ⟨j, want, s, h1, h2, h3⟩
  · rw [h1, h2]
  · rw [h1, h3]
    have hv := ht s
    simp only [yielded, h2, Option.bind_some]
    rw [Array.getD_eq_getD_getElem?] at hv
    generalize tmGet t s = x at hv
    cases hx : a.tmps[s]? with
    | none =>
      rw [hx] at hv
      simp only [Option.getD_none, Go.undef] at hv
      cases hv
      simp
    | some y =>
      rw [hx] at hv
      simp only [Option.getD_some] at hv
      cases hv <;> simp

def isCallA : AOp → Bool
  | .call .. | .dfr .. | .dfrClear .. => true
  | _ => false

theorem cOp_ok {o : Oper} {op : AOp} (hc : cOp P o = some op) : ∀ x ∈ o.op.operands.toList, opdOk P x = true := by
  unfold cOp at hc
  cases hok : opdsOk P o.op.operands.toList with
  | false => simp [hok] at hc
  | true => exact fun x hx => List.all_eq_true.1 hok x hx

theorem isCall_builtin {b : Builtin} {args : List Operand} {ts : List TypeId} {op : AOp} (hc : cBuiltin P b args ts = some op) : isCallA op = false := by
  unfold cBuiltin at hc
  simp only [Bool.cond_eq_ite] at hc
  repeat' split at hc
  all_goals first
    | (cases hc; done)
    | (cases hc; rfl)
    | (simp only [Option.map_eq_some_iff] at hc; obtain ⟨_, _, rfl⟩ := hc; rfl)

theorem cOp_call {o : Oper} {op : AOp} (hc : cOp P o = some op) (hk : isCallA op = true) : (∃ c, o.op = .call c) ∨ ∃ c, o.op = .defer c := by
  unfold cOp at hc
  cases hok : opdsOk P o.op.operands.toList with
  | false => simp [hok] at hc
  | true =>
    simp only [hok, Bool.not_true, cond_false] at hc
    clear hok
    cases hq : o.op with
    | call c => exact .inl ⟨c, rfl⟩
    | defer c => exact .inr ⟨c, rfl⟩
    | _ =>
      exfalso
      try simp only [hq, Bool.cond_eq_ite] at hc
      repeat' split at hc
      all_goals first
        | (cases hc; done)
        | (cases hc; cases hk; done)
        | (simp only [Option.map_eq_some_iff] at hc; obtain ⟨_, _, rfl⟩ := hc; cases hk; done)
        | (simp_all; done)

/-- A call of a value, compiled. -/
theorem cOp_call_of {o : Oper} {op : AOp} {c : Call} (hc : cOp P o = some op) (hq : o.op = .call c) : (∃ f, c.callee = .value f ∧ op = .call f c.args.toList) ∨ isCallA op = false := by
  unfold cOp at hc
  cases hok : opdsOk P o.op.operands.toList with
  | false => simp [hok] at hc
  | true =>
    simp only [hok, Bool.not_true, cond_false] at hc
    clear hok
    simp only [hq] at hc
    split at hc
    · rename_i f hf
      cases hc
      exact .inl ⟨f, hf, rfl⟩
    · exact .inr (isCall_builtin hc)
    · cases hc

/-- A deferred call, compiled. -/
theorem cOp_defer_of {o : Oper} {op : AOp} {c : Call} (hc : cOp P o = some op) (hq : o.op = .defer c) :
    (∃ f, c.callee = .value f ∧ op = .dfr f c.args.toList) ∨
    (∃ m t kt e, c.callee = .builtin .clear ∧ c.args = #[m] ∧ c.argTypes = #[t] ∧ P.underlying t = some (.map kt e) ∧ op = .dfrClear t o.type (c.args.map fun | .const _ => true | _ => false) m) := by
  unfold cOp at hc
  cases hok : opdsOk P o.op.operands.toList with
  | false => simp [hok] at hc
  | true =>
    simp only [hok, Bool.not_true, cond_false] at hc
    clear hok
    simp only [hq] at hc
    split at hc
    · rename_i f hf
      cases hc
      exact .inl ⟨f, hf, rfl⟩
    · rename_i hcl
      split at hc
      · rename_i m t hm ht
        split at hc
        · rename_i kt e hu
          cases hc
          exact .inr ⟨m, t, kt, e, hcl, by rw [← Array.toArray_toList (xs := c.args), hm], by rw [← Array.toArray_toList (xs := c.argTypes), ht], hu, rfl⟩
        · cases hc
      · cases hc
    · cases hc

/-- One operation, carried out. -/
theorem aoper_sound {ih : Ex} (hex : ExecSound P ih) (hcall : CallSound P ih) {nt : Nat} {ops : Array Oper} {i : Nat} {o : Oper} {ao : AOper} (ho : ops[i]? = some o) (hc : cOper P nt ops o = some ao)
    (hr : HRel P B σ h w) {fr fr' : AFr} {a : Act} {b : Frame} (hF : FRel P σ nt fr a b) {h' : AHeap} (hx : aoper P ih ao fr h = some (fr', h')) :
    ∃ σ' w' a', Evo P B σ h w σ' h' w' ∧ FRel P σ' nt fr' a' b ∧ fr'.round = fr.round ∧
      ∀ (rest : List Nat) (k : List Item) (cs : List Frame), Steps P (lone (At b a (.inRegion ops (i :: rest) :: k)) cs w) (lone (At b a' (.inRegion ops rest :: k)) cs w') := by
  obtain ⟨s1, s2, s3, _⟩ := cOper_spec hc
  have hw := wanted_eq hc hF.tm
  unfold aoper at hx
  cases hwt : wantedA fr.tm ao.guard with
  | false =>
    simp only [hwt, cond_false, Option.some.injEq, Prod.mk.injEq] at hx
    obtain ⟨rfl, rfl⟩ := hx
    refine ⟨σ, w, a.put o.dst Go.undef, .refl hr, ?_, ?_, fun rest k cs => ?_⟩
    · rw [s2]; exact hF.val s1 (VRel.undef σ)
    · cases ao.dst <;> rfl
    · have := step_skip' (P := P) (b := b) (a := a) (k := k) (cs := cs) (w := w) (ops := ops) (i := i) (rest := rest) (by rw [ho]; simp [hw, hwt])
      rw [ho] at this
      exact .one this
  | true =>
    simp only [hwt, cond_true] at hx
    rw [hwt] at hw
    cases hv : aoperV P ih fr.tm fr.round h ao.op with
    | none => simp [hv] at hx
    | some r =>
    obtain ⟨v, ds, h1⟩ := r
    simp only [hv, Option.some.injEq, Prod.mk.injEq] at hx
    obtain ⟨rfl, rfl⟩ := hx
    have hrd : (val ao.dst { fr with dfs := ds ++ fr.dfs } v).round = fr.round := by cases ao.dst <;> rfl
    -- what is compiled
    cases hcop : cOp P o with
    | none =>
      rw [hcop, Option.getD_none] at s3
      rw [s3] at hv
      simp [aoperV, aop] at hv
    | some op =>
    rw [hcop, Option.getD_some] at s3
    subst s3
    have hok := cOp_ok hcop
    have E : ∀ x ∈ o.op.operands.toList, VRel σ (ev fr.tm x) (a.eval x) := fun x hx => ev_rel hr hF.tm (hok x hx)
    -- a value, or none
    have fin : ∀ {σ' w' cv}, Evo P B σ h w σ' h1 w' → VRel σ' v cv → ds = [] →
        (∀ (rest : List Nat) (k : List Item) (cs : List Frame), Steps P (lone (At b a (.inRegion ops (i :: rest) :: k)) cs w) (lone (At b (a.put o.dst cv) (.inRegion ops rest :: k)) cs w')) →
        ∃ σ' w' a', Evo P B σ h w σ' h1 w' ∧ FRel P σ' nt (val ao.dst { fr with dfs := ds ++ fr.dfs } v) a' b ∧ (val ao.dst { fr with dfs := ds ++ fr.dfs } v).round = fr.round ∧
          ∀ (rest : List Nat) (k : List Item) (cs : List Frame), Steps P (lone (At b a (.inRegion ops (i :: rest) :: k)) cs w) (lone (At b a' (.inRegion ops rest :: k)) cs w') := by
      intro σ' w' cv e1 e2 e3 e4
      subst e3
      exact ⟨σ', w', a.put o.dst cv, e1, by rw [s2]; exact (hF.mono e1.le).val s1 e2, hrd, e4⟩
    cases hcall' : isCallA ao.op with
    | false =>
      have hnd : ∀ c, o.op = .defer c → b.roundOf = none := fun c hq => by
        rcases cOp_defer_of hcop hq with ⟨f, _, e⟩ | ⟨m, t, kt, e', _, _, _, _, e⟩ <;> rw [e] at hcall' <;> cases hcall'
      have hv' : ∃ v0, aop P ih fr.tm h ao.op = some (v, v0) ∧ h1 = v0 ∧ ds = [] := by
        unfold aoperV at hv
        split at hv
        · rename_i e; rw [e] at hcall'; cases hcall'
        · rename_i e; rw [e] at hcall'; cases hcall'
        · cases hx : aop P ih fr.tm h ao.op with
          | none => simp [hx] at hv
          | some p =>
            obtain ⟨v0, h0⟩ := p
            simp only [hx, Option.some.injEq, Prod.mk.injEq] at hv
            obtain ⟨rfl, rfl, rfl⟩ := hv
            exact ⟨_, rfl, rfl, rfl⟩
      obtain ⟨v0, hv1, rfl, hds⟩ := hv'
      obtain ⟨σ', w', hres, hevo⟩ := aop_rel hr hF.tm hcop (fun f args e => by rw [e] at hcall'; cases hcall') hv1
      rcases hres with ⟨cv, h2, h3⟩ | ⟨h2, h3⟩
      · exact fin hevo h3 hds fun rest k cs => .one (step_value ho hw hnd h2)
      · subst h3
        exact fin hevo (VRel.undef _) hds fun rest k cs => .one (step_unit ho hw hnd h2)
    | true =>
      rcases cOp_call hcop hcall' with ⟨c, hq⟩ | ⟨c, hq⟩
      · rcases cOp_call_of hcop hq with ⟨f, hf, he⟩ | he
        · have hnd : ∀ c, o.op = .defer c → b.roundOf = none := fun c' hq' => by rw [hq] at hq'; cases hq'
          rw [he] at hv
          simp only [aoperV, aop] at hv
          have hops : ∀ x, x = f ∨ x ∈ c.args → x ∈ o.op.operands.toList := fun x hx => by
            rw [hq]
            simp only [Op.operands, Call.operands, hf]
            rcases hx with rfl | hx <;> simp [*]
          cases hcv : callV ih (ev fr.tm f) (c.args.toList.map (ev fr.tm)) h with
          | none => simp [hcv] at hv
          | some p =>
            obtain ⟨v0, h0⟩ := p
            simp only [hcv, Option.some.injEq, Prod.mk.injEq] at hv
            obtain ⟨rfl, rfl, rfl⟩ := hv
            have hargs : LRel σ (c.args.toList.map (ev fr.tm)) (c.args.toList.map a.eval) :=
              evs_rel hr hF.tm fun x hx => hok x (hops x (.inr (by simpa using hx)))
            obtain ⟨nx, fr0, σ', w', cv, r1, r2, r3, r4, r5⟩ := callV_sound hex hcall hr (E f (hops f (.inl rfl))) hargs hcv
            refine fin r3 r4 rfl fun rest k cs => ?_
            have hrun : (execOp a.eval o).run P w = .ok nx w := by
              have : (c.args.toList.map a.eval).toArray = c.args.map a.eval := by rw [← Array.toList_map, Array.toArray_toList]
              rw [this] at r1
              simp only [execOp, hq, resolve, hf]
              exact r1
            have := r5 (At b a (.inRegion ops (i :: rest) :: k)) cs
            rw [at_finish, ho] at this
            exact Steps.trans (.one (step_call ho hw hnd hrun r2)) this
        · rw [he] at hcall'; cases hcall'
      · have hdfr : ∀ d ds' : Deferred, True := fun _ _ => trivial
        rcases cOp_defer_of hcop hq with ⟨f, hf, he⟩ | ⟨m, t, kt, e, hf, hargs, hts, hu, he⟩
        · rw [he] at hv
          simp only [aoperV] at hv
          split at hv
          · rename_i fi first cap hrd0 hfv
            simp only [Option.some.injEq, Prod.mk.injEq] at hv
            obtain ⟨rfl, rfl, rfl⟩ := hv
            have hbr : b.roundOf = none := by have := hF.round; rw [hrd0] at this; exact this
            have hops : ∀ x, x = f ∨ x ∈ c.args → x ∈ o.op.operands.toList := fun x hx => by
              rw [hq]
              simp only [Op.operands, Call.operands, hf]
              rcases hx with rfl | hx <;> simp [*]
            have hargs : LRel σ (c.args.toList.map (ev fr.tm)) (c.args.toList.map a.eval) :=
              evs_rel hr hF.tm fun x hx => hok x (hops x (.inr (by simpa using hx)))
            have hfr := E f (hops f (.inl rfl))
            rw [hfv] at hfr
            cases hfe : a.eval f with
            | func fn' first' cap' =>
              rw [hfe] at hfr
              cases hfr with
              | func _ ha hcp ra rc =>
              have hrun : (execOp a.eval o).run P w = .ok (.defer { target := .fn (.func fi) cap', args := first' ++ c.args.map a.eval }) w := by
                simp only [execOp, hq, resolve, hf, hfe]
                simp [Deferred.ofValue]
              refine ⟨σ, w, _, .refl hr, ?_, hrd, fun rest k cs => .one (step_defer' ho hw (fun c _ => hbr) hrun)⟩
              rw [s2]
              have hd0 : DRel P σ { target := .fn (.func fi) cap, args := first ++ (c.args.toList.map (ev fr.tm)).toArray } { target := .fn (.func fi) cap', args := first' ++ c.args.map a.eval } := ?_
              exact FRel.val (fr := { fr with dfs := _ :: fr.dfs }) (a := { a with defers := _ :: a.defers }) ⟨hF.size, hF.tm, And.intro hd0 hF.dfs, hF.round⟩ s1 (VRel.undef σ)
              refine ⟨cap', rfl, ⟨by simpa using hcp, fun i x y hx hy => rc i x y (by simpa using hx) (by simpa using hy)⟩, ?_⟩
              have := LRel.append (σ := σ) (a := first.toList) (a' := first'.toList) ⟨by simpa using ha, fun i x y hx hy => ra i x y (by simpa using hx) (by simpa using hy)⟩ hargs
              simpa using this
            | _ => rw [hfe] at hfr; cases hfr
          · cases hv
        · rw [he] at hv
          simp only [aoperV] at hv
          split at hv
          · rename_i g hrd0 hmv
            simp only [Option.some.injEq, Prod.mk.injEq] at hv
            obtain ⟨rfl, rfl, rfl⟩ := hv
            have hbr : b.roundOf = none := by have := hF.round; rw [hrd0] at this; exact this
            have hmr := E m (by rw [hq]; simp [Op.operands, Call.operands, hargs, hf])
            rw [hmv] at hmr
            have hrun : (execOp a.eval o).run P w = .ok (.defer { target := .builtin .clear #[t] o.type (c.args.map fun | .const _ => true | _ => false), args := #[a.eval m] }) w := by
              simp only [execOp, hq, resolve, hf, hts]
              simp [hargs]
              cases m <;> rfl
            refine ⟨σ, w, _, .refl hr, ?_, hrd, fun rest k cs => .one (step_defer' ho hw (fun c _ => hbr) hrun)⟩
            rw [s2]
            have hd0 : DRel P σ { target := .builtin .clear #[t] o.type (c.args.map fun | .const _ => true | _ => false), args := #[.map (some g)] }
                { target := .builtin .clear #[t] o.type (c.args.map fun | .const _ => true | _ => false), args := #[a.eval m] } := ⟨t, kt, e, rfl, hu, rfl, LRel.cons hmr (LRel.nil _)⟩
            exact FRel.val (fr := { fr with dfs := _ :: fr.dfs }) (a := { a with defers := _ :: a.defers }) ⟨hF.size, hF.tm, And.intro hd0 hF.dfs, hF.round⟩ s1 (VRel.undef σ)
          · cases hv

end
end Go.Am
