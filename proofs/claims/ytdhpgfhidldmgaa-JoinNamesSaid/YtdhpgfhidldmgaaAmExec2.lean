/-
  The abstract machine: runs. What it does, the model's machine does (2): rounds, calls of values, ends of calls.
-/
import Derived.Test.YtdhpgfhidldmgaaAmExec
import Derived.RangeFuncNested
namespace Go.Am
open Go.RowKit

section
variable {P : Program} {b : Frame} {a : Act} {k : List Item} {cs : List Frame} {w : World}

theorem st_skip : step P (lone (At b a (.code .skip :: k)) cs w) = .next (lone (At b a k) cs w) := step_lone_go (by simp [stepG, stepG.exec, At])
theorem st_label {l : Nat} : step P (lone (At b a (.code (.label l) :: k)) cs w) = .next (lone (At b a k) cs w) := step_lone_go (by simp [stepG, stepG.exec, At])
theorem st_inBlock {id : Nat} : step P (lone (At b a (.inBlock id :: k)) cs w) = .next (lone (At b a k) cs w) := step_lone_go (by simp [stepG, stepG.exec, At])
theorem st_inScope {c : Code} : step P (lone (At b a (.inScope c :: k)) cs w) = .next (lone (At b a k) cs w) := step_lone_go (by simp [stepG, stepG.exec, At])
theorem st_seq {x y : Code} : step P (lone (At b a (.code (.seq x y) :: k)) cs w) = .next (lone (At b a (.code x :: .code y :: k)) cs w) := step_lone_go (by simp [stepG, stepG.exec, At])
theorem st_cond {c : Operand} {x y : Code} {t : Bool} (h : a.eval c = .bool t) :
    step P (lone (At b a (.code (.cond c x y) :: k)) cs w) = .next (lone (At b a (.code (if t then x else y) :: k)) cs w) :=
  step_lone_go (by
    have he := at_eval b a (.code (.cond c x y) :: k)
    have := congrFun he c
    simp only [At] at this
    simp [stepG, stepG.exec, At, this, h])
theorem st_block {id : Nat} {c : Code} : step P (lone (At b a (.code (.block id c) :: k)) cs w) = .next (lone (At b a (.code c :: .inBlock id :: k)) cs w) := step_lone_go (by simp [stepG, stepG.exec, At])
theorem st_loop {c : Code} : step P (lone (At b a (.code (.loop c) :: k)) cs w) = .next (lone (At b a (.code c :: .inLoop c :: k)) cs w) := step_lone_go (by simp [stepG, stepG.exec, At])
theorem st_inLoop {c : Code} : step P (lone (At b a (.inLoop c :: k)) cs w) = .next (lone (At b a (.code c :: .inLoop c :: k)) cs w) := step_lone_go (by simp [stepG, stepG.exec, At])
theorem st_scope {c : Code} : step P (lone (At b a (.code (.scope c) :: k)) cs w) = .next (lone (At b a (.code c :: .inScope c :: k)) cs w) := step_lone_go (by simp [stepG, stepG.exec, At])
theorem st_exit {id : Nat} {k' : List Item} (h : exitTo id k = some k') : step P (lone (At b a (.code (.exit id) :: k)) cs w) = .next (lone (At b a k') cs w) := step_lone_go (by simp [stepG, stepG.exec, At, h])
theorem st_goto {l : Nat} {k' : List Item} (h : gotoIn l k = some k') : step P (lone (At b a (.code (.goto l) :: k)) cs w) = .next (lone (At b a k') cs w) := step_lone_go (by simp [stepG, stepG.exec, At, h])
theorem st_region {id : Nat} {ops : Array Oper} : step P (lone (At b a (.code (.region id ops false) :: k)) cs w) = .next (lone (At b a (.inRegion ops (List.range ops.size) :: k)) cs w) := step_lone_go (by simp [stepG, stepG.exec, At])
theorem st_region_draw {id : Nat} {ops : Array Oper} : step P (lone (At b a (.code (.region id ops true) :: k)) cs w) =
    .next (lone (At b a (.inRegion ops (Region.schedule (P.follows .mixedOrders) ops (w.tape w.drawn (.order b.fn id))) :: k)) cs { w with drawn := w.drawn + 1 }) :=
  step_lone_go (by simp [stepG, stepG.exec, At, choose, Sem.run, Question.forced, Question.cut])
theorem st_region_end {ops : Array Oper} : step P (lone (At b a (.inRegion ops [] :: k)) cs w) = .next (lone (At b a k) cs w) := step_lone_go (by simp [stepG, stepG.exec, At])

/-- Off the end, or by a return, of a plain frame. -/
theorem st_ret (hr : b.roundOf = none) : step P (lone (At b a (.code .ret :: k)) cs w) = .next (lone { At b a (.code .ret :: k) with mode := .returning } cs w) := step_lone_go (by simp [stepG, stepG.exec, At, hr])
theorem st_end (hr : b.roundOf = none) : step P (lone (At b a []) cs w) = .next (lone { At b a [] with mode := .returning } cs w) := step_lone_go (by simp [stepG, stepG.exec, At, hr])

/-! ### Rounds of a range over a function -/
theorem st_begin {l : Nat} {w' : World} (hr : b.roundOf = some l) (hb : (Instr.beginRound l).run P w = .ok () w') : step P (lone (At b a (.beginRound :: k)) cs w) = .next (lone (At b a k) cs w') := by
  refine step_lone_go ?_
  simp only [stepG, stepG.exec, At, hr, Option.elim]
  simp [stepG.apply, hb, Frame.finish]

theorem st_round_end {l : Nat} {c : Frame} {w' : World} {v : Value} (hr : b.roundOf = some l) (hk : b.kind = .normal) (he : (Instr.endRound l none).run P w = .ok v w') :
    step P (lone (At b a []) (c :: cs) w) = .next (lone (c.finish v) cs w') := by
  refine step_lone_go ?_
  simp [stepG, stepG.exec, At, hr, Sem.runT_eq, he, doReturn, hk]

theorem st_round_ret {l : Nat} {c : Frame} {w' : World} {v : Value} (hr : b.roundOf = some l) (hk : b.kind = .normal) (he : (Instr.endRound l (some .ret)).run P w = .ok v w') :
    step P (lone (At b a (.code .ret :: k)) (c :: cs) w) = .next (lone (c.finish v) cs w') := by
  refine step_lone_go ?_
  simp [stepG, stepG.exec, At, hr, Sem.runT_eq, he, doReturn, hk]

theorem st_round_exit {l id : Nat} {c : Frame} {w' : World} {v : Value} (hr : b.roundOf = some l) (hk : b.kind = .normal) (hx : exitTo id k = none) (he : (Instr.endRound l (some (.exit id))).run P w = .ok v w') :
    step P (lone (At b a (.code (.exit id) :: k)) (c :: cs) w) = .next (lone (c.finish v) cs w') := by
  refine step_lone_go ?_
  simp [stepG, stepG.exec, At, hr, hx, Sem.runT_eq, he, doReturn, hk]

theorem st_round_goto {l g : Nat} {c : Frame} {w' : World} {v : Value} (hr : b.roundOf = some l) (hk : b.kind = .normal) (hx : gotoIn g k = none) (he : (Instr.endRound l (some (.goto g))).run P w = .ok v w') :
    step P (lone (At b a (.code (.goto g) :: k)) (c :: cs) w) = .next (lone (c.finish v) cs w') := by
  refine step_lone_go ?_
  simp [stepG, stepG.exec, At, hr, hx, Sem.runT_eq, he, doReturn, hk]

theorem step_returned {f : FuncId} {fr c : Frame} {v : Value} (h : Returns P f .normal fr v w) : step P (lone fr (c :: cs) w) = .next (lone (c.finish v) cs w) := by
  obtain ⟨hm, hd, hk, rfl, fn, hf, hr⟩ := h
  exact step_lone_go (by simp [stepG, unwind, doReturn, hm, hd, hk, hf, hr])

theorem step_returned_d {f : FuncId} {fr c : Frame} {v : Value} (h : Returns P f .deferred fr v w) (hc : c.mode = .returning) : step P (lone fr (c :: cs) w) = .next (lone c cs w) := by
  obtain ⟨hm, hd, hk, rfl, fn, hf, hr⟩ := h
  refine step_lone_go ?_
  simp only [stepG, unwind, doReturn, hm, hd, hk, hf, Sem.runT_eq, hr, GStep.bare_after, GStep.bare_go, hc]
end

section
variable {P : Program} {B : Nat} {σ : Nat → Option Pl} {h : AHeap} {w : World}

theorem loop_live (hr : HRel P B σ h w) {l : Nat} {r : ALoop} (hl : h.get l = some (.loop r)) : ∃ pl r', σ l = some pl ∧ w.heap[pl.b]? = some (.loop r') ∧ LoopRel P σ r r' := by
  obtain ⟨pl, h1, ⟨r', h2, h3⟩, _⟩ := hr.live _ _ hl
  exact ⟨pl, r', h1, h2, h3⟩

/-- A loop's record is written over. -/
theorem loop_put (hr : HRel P B σ h w) {l : Nat} {r r2 : ALoop} {r2' : Loop} (hl : h.get l = some (.loop r)) {pl : Pl} (hp : σ l = some pl) (hrel : LoopRel P σ r2 r2') :
    Evo P B σ h w σ (h.set l (.loop r2)) { w with heap := w.heap.setIfInBounds pl.b (.loop r2') } := by
  have hlt : pl.b < w.heap.size := (hr.lt _ _ hp).2
  refine hr.put (O' := .loop r2') hl rfl rfl hp ⟨by simp, by simp [hlt], fun b hne => ?_⟩ ⟨rfl, rfl, rfl⟩ ⟨r2', by simp [hlt], hrel⟩ (fun g2 o2 pl2 _ _ _ _ k => by cases o2 <;> exact k.elim)
  simp only [Array.getElem?_setIfInBounds]
  rw [if_neg (by omega)]

theorem setTm_rel : ∀ {ps : List Nat} {vs vs' : List Value} {t : Trie Value} {tm : Array Value}, (∀ p ∈ ps, p < tm.size) → ps.length = vs.length → LRel σ vs vs' → (∀ k, VRel σ (tmGet t k) (tm.getD k Go.undef)) →
    (∀ k, VRel σ (tmGet (setTm ps vs t) k) (((ps.zip vs').foldl (fun tm (t, a) => tm.setIfInBounds t a) tm).getD k Go.undef)) ∧ ((ps.zip vs').foldl (fun tm (t, a) => tm.setIfInBounds t a) tm).size = tm.size := by
  intro ps
  induction ps with
  | nil => intro vs vs' t tm _ _ _ ht; cases vs <;> exact ⟨ht, rfl⟩
  | cons p ps ih =>
    intro vs vs' t tm hp hlen hl ht
    match vs, vs', hl with
    | [], _, _ => simp at hlen
    | v :: vs, [], hl => have := hl.1; simp at this
    | v :: vs, v' :: vs', hl =>
      have hv := hl.2 0 v v' rfl rfl
      have hl' : LRel σ vs vs' := ⟨by simpa using hl.1, fun i a b h1 h2 => hl.2 (i + 1) a b (by simpa using h1) (by simpa using h2)⟩
      have hpt : p < tm.size := hp p (List.mem_cons_self ..)
      obtain ⟨a1, a2⟩ := ih (t := t.set p v) (tm := tm.setIfInBounds p v') (fun q hq => by simpa using hp q (List.mem_cons_of_mem _ hq)) (by simpa using hlen) hl' (fun k => by
        rw [tmGet_set, getD_set _ _ _ _ hpt]
        split
        · exact hv
        · exact ht k)
      exact ⟨a1, by rw [List.zip_cons_cons, List.foldl_cons, a2]; simp⟩

def jumpOf : AExit → Option Code
  | .normal => none
  | .ret => some .ret
  | .exit id => some (.exit id)
  | .goto g => some (.goto g)

/-- The end of a round: its record. -/
theorem roundEnd_rel {l : Nat} {r : ALoop} {e : AExit} {v : Value} {h' : AHeap} (hr : HRel P B σ h w) (hl : h.get l = some (.loop r)) {pl : Pl} (hp : σ l = some pl) (he : roundEnd l r h e = (v, h')) :
    ∃ w' b, v = .bool b ∧ Evo P B σ h w σ h' w' ∧ (Instr.endRound pl.b (jumpOf e)).run P w = .ok (.bool b) w' := by
  obtain ⟨pl0, r', k1, k2, k3⟩ := loop_live hr hl
  rw [hp] at k1; cases k1
  have key : ∀ (st : LoopState) (pn : Option ACode) (st' : LoopState) (pn' : Option Code), st' = st → PendRel pn pn' →
      Evo P B σ h w σ (h.set l (.loop { r with state := st, pending := pn })) (w.putObj pl.b (.loop { r' with state := st', pending := pn' })) :=
    fun st pn st' pn' h1 h2 => loop_put hr hl hp ⟨h1, h2, k3.tm, k3.params, k3.code, k3.defers⟩
  have hend := run_endRound (P := P) (jumpOf e) k2
  cases e with
  | normal =>
    simp only [roundEnd, Prod.mk.injEq] at he
    obtain ⟨rfl, rfl⟩ := he
    exact ⟨_, true, rfl, key .ready none _ none rfl trivial, hend⟩
  | ret =>
    simp only [roundEnd, Prod.mk.injEq] at he
    obtain ⟨rfl, rfl⟩ := he
    exact ⟨_, false, rfl, key .done (some .ret) _ (some .ret) rfl trivial, hend⟩
  | exit id =>
    simp only [roundEnd, Prod.mk.injEq] at he
    obtain ⟨rfl, rfl⟩ := he
    exact ⟨_, false, rfl, key .done (some (.exit id)) _ (some (.exit id)) rfl rfl, hend⟩
  | goto g =>
    simp only [roundEnd, Prod.mk.injEq] at he
    obtain ⟨rfl, rfl⟩ := he
    exact ⟨_, false, rfl, key .done (some (.goto g)) _ (some (.goto g)) rfl rfl, hend⟩

/-- A round: its frame comes back with what it yields. -/
theorem round_sound {ih : Ex} (hex : ExecSound P ih) (hr : HRel P B σ h w) {l : Nat} {pl : Pl} (hp : σ l = some pl) {r : ALoop} {r' : Loop} (hb : w.heap[pl.b]? = some (.loop r')) (hl0 : h.get l = some (.loop r)) (k3 : LoopRel P σ r r')
    {args args' : List Value} (hl : LRel σ args args') (hlen : args.length = r.params.length) {v : Value} {h' : AHeap} (hc : roundA ih l r args h = some (v, h')) :
    ∃ σ' w' cv, Evo P B σ h w σ' h' w' ∧ VRel σ' v cv ∧ ∀ (c : Frame) (cs : List Frame),
      Steps P (lone (Frame.round pl.b r'.fn ((r'.params.zip args'.toArray).foldl (fun tmps (t, a) => tmps.setIfInBounds t a) r'.tmps) r'.assign r'.body .normal) (c :: cs) w) (lone (c.finish cv) cs w') := by
  obtain ⟨nt, c1, c2, c3, c4⟩ := k3.code
  have hset := setTm_rel (tm := r'.tmps) (t := r.tm) (fun p hp' => Nat.lt_of_lt_of_le (c2 p hp') c1) hlen.symm hl k3.tm
  rw [← k3.params] at hset
  have htm : ((r'.params.zip args'.toArray).foldl (fun tmps (t, a) => tmps.setIfInBounds t a) r'.tmps) = ((r'.params.toList.zip args').foldl (fun tm (t, a) => tm.setIfInBounds t a) r'.tmps) := by
    rw [← Array.foldl_toList]; simp
  rw [htm]
  generalize ((r'.params.toList.zip args').foldl (fun tm (t, a) => tm.setIfInBounds t a) r'.tmps) = tm at hset
  unfold roundA at hc
  rw [← k3.params] at hc
  split at hc
  · rename_i fr1 h1 hex1
    split at hc
    · rename_i r1 hl1
      have hst : r1.state = .ready := by
        cases hs : r1.state <;> first | rfl | (rw [hs] at hc; cases hc)
      rw [hst] at hc
      dsimp only [cond_true] at hc
      split at hc
      · rename_i e fr2 h2 hex2
        split at hc
        · rename_i r2 hdf hl2
          cases hre : roundEnd l r2 h2 e with
          | mk v0 h0 =>
          rw [hre] at hc
          cases hc
          let b : Frame := { (default : Frame) with fn := r'.fn, kind := .normal, roundOf := some pl.b }
          have hF : FRel P σ nt ⟨setTm r'.params.toList args r.tm, [], some l⟩ { tmps := tm, defers := [] } b :=
            ⟨by rw [hset.2]; exact c1, hset.1, trivial, ⟨pl, hp, rfl⟩⟩
          obtain ⟨σ1, w1, a1, ev1, hF1, hrd1, arr1⟩ := hex nt r'.assign r.assign c3 _ h _ _ _ hex1 B σ w hr _ b hF
          obtain ⟨pl1, r1', m1, m2, m3⟩ := loop_live ev1.rel hl1
          have hp1 := ev1.le _ _ hp
          rw [hp1] at m1; cases m1
          have hbegin := run_beginRound (P := P) m2 (by rw [m3.state, hst])
          have ev2 := loop_put (r2 := { r1 with state := .busy }) (r2' := { r1' with state := .busy }) ev1.rel hl1 hp1 ⟨rfl, m3.pending, m3.tm, m3.params, m3.code, m3.defers⟩
          obtain ⟨σ3, w3, a3, ev3, hF3, hrd3, arr3⟩ := hex nt r'.body r.body c4 _ _ _ _ _ hex2 B σ1 _ ev2.rel _ b hF1
          have hp3 := ev3.le _ _ hp1
          obtain ⟨w4, bv, rfl, ev4, hend⟩ := roundEnd_rel ev3.rel hl2 hp3 hre
          refine ⟨σ3, w4, .bool bv, ((ev1.trans ev2).trans ev3).trans ev4, .bool bv, fun c cs => ?_⟩
          have s1 := arr1 [.beginRound, .code r'.body] (c :: cs)
          have s2 := arr3 [] (c :: cs)
          refine Steps.trans s1 (.trans (.one (st_begin rfl hbegin)) ?_)
          cases e with
          | normal => exact Steps.trans s2 (.one (st_round_end rfl rfl hend))
          | ret => obtain ⟨k1, s2⟩ := s2; exact Steps.trans s2 (.one (st_round_ret rfl rfl hend))
          | exit id => obtain ⟨k1, hx, s2⟩ := s2; exact Steps.trans s2 (.one (st_round_exit rfl rfl hx hend))
          | goto g => obtain ⟨k1, hx, s2⟩ := s2; exact Steps.trans s2 (.one (st_round_goto rfl rfl hx hend))
        · cases hc
      · cases hc
    · cases hc
  · cases hc

/-- A call of a function value: what it enters comes back with what the abstract call yields. -/
theorem callV_sound {ih : Ex} (hex : ExecSound P ih) (hcall : CallSound P ih) (hr : HRel P B σ h w) {f f' : Value} {args args' : List Value} {v : Value} {h' : AHeap} (hf : VRel σ f f') (hl : LRel σ args args')
    (hc : callV ih f args h = some (v, h')) :
    ∃ nx fr0 σ' w' cv, ((do let d ← Deferred.ofValue f' args'.toArray; invoke d.target d.args) : Sem Next).run P w = .ok nx w ∧ frameOf P nx = some fr0 ∧ Evo P B σ h w σ' h' w' ∧ VRel σ' v cv ∧
      ∀ (c : Frame) (cs : List Frame), Steps P (lone fr0 (c :: cs) w) (lone (c.finish cv) cs w') := by
  unfold callV at hc
  split at hc
  · rename_i fi first cap
    obtain ⟨h1, h2⟩ := hcall _ _ _ _ _ hc
    cases hf with
    | func _ ha hcp ra rc =>
      rename_i first' cap'
      have hl2 : LRel σ (first.toList ++ args ++ cap.toList) (first'.toList ++ args' ++ cap'.toList) :=
        (LRel.append ⟨by simpa using ha, fun i x y hx hy => ra i x y (by simpa using hx) (by simpa using hy)⟩ hl).append ⟨by simpa using hcp, fun i x y hx hy => rc i x y (by simpa using hx) (by simpa using hy)⟩
      obtain ⟨σ', w', cv, e1, e2, e3⟩ := h2 B σ w hr (first' ++ args'.toArray ++ cap') (by simpa using hl2) .normal (.inl rfl)
      refine ⟨.enter fi (first' ++ args'.toArray ++ cap'), _, σ', w', cv, ?_, rfl, e1, e2, fun c cs => ?_⟩
      · simp [Deferred.ofValue, invoke, h1]
      · obtain ⟨fr', e4, e5⟩ := e3 (c :: cs)
        exact e4.trans (.one (step_returned e5))
  · rename_i l first cap
    split at hc
    · rename_i r hl0
      cases hlen : Nat.beq args.length r.params.length with
      | false => simp [hlen] at hc
      | true =>
      simp only [hlen, cond_true] at hc
      have hlen := Nat.eq_of_beq_eq_true hlen
      cases hf with
      | yield hp =>
        rename_i pl
        obtain ⟨pl0, r', k1, k2, k3⟩ := loop_live hr hl0
        rw [hp] at k1; cases k1
        obtain ⟨σ', w', cv, e1, e2, e3⟩ := round_sound hex hr hp k2 hl0 k3 hl hlen hc
        have hsz : args'.toArray.size = r'.params.size := by
          have := congrArg List.length k3.params
          simp only [Array.length_toList] at this
          simp [← hl.1, hlen, this]
        refine ⟨.round pl.b r'.fn ((r'.params.zip args'.toArray).foldl (fun tmps (t, a) => tmps.setIfInBounds t a) r'.tmps) r'.assign r'.body, _, σ', w', cv, ?_, rfl, e1, e2, e3⟩
        have := run_yield (P := P) k2 hsz
        simp only [List.size_toArray] at hsz
        simp [Deferred.ofValue, invoke, this]
    · cases hc
  · cases hc
end
end Go.Am
