/-
  The abstract machine: runs. What it does, the model's machine does (5): ranges over functions; all forms of code.
-/
import Derived.Test.YtdhpgfhidldmgaaAmExec4
namespace Go.Am
open Go.RowKit

section
variable {P : Program} {B : Nat} {σ : Nat → Option Pl} {h : AHeap} {w : World}

theorem DRels.append {l l' m m' : List Deferred} (hl : DRels P σ l l') (hm : DRels P σ m m') : DRels P σ (l ++ m) (l' ++ m') := by
  induction l generalizing l' with
  | nil => cases l' with
    | nil => exact hm
    | cons _ _ => exact hl.elim
  | cons d l ih => cases l' with
    | nil => exact hl.elim
    | cons d' l' => exact ⟨hl.1, ih hl.2⟩

theorem rangeB_sound {ih : Ex} (hex : ExecSound P ih) (hcall : CallSound P ih) {nt : Nat} {f : Operand} {params : Array Tmp} {assign body : Code} {aA aB : ACode} {b : Frame} {fr fr' : AFr} {a : Act} {e : AExit} {h' : AHeap}
    (hcA : cCode P nt assign = some aA) (hcB : cCode P nt body = some aB) (hps : ∀ p ∈ params.toList, p < nt) (hok : opdOk P f = true) (hr : HRel P B σ h w) (hF : FRel P σ nt fr a b)
    {d : Nat} {pd : Pl} (hd : σ d = some pd) {mark mark' : List Deferred} (hm : DRels P σ mark mark')
    {w0 : World} {l : Nat} (hl : l = w.heap.size) (hent : (Instr.enterLoop b.fn a.tmps params assign body b.roundOf).run P w0 = .ok (l, mark') (w.alloc (.loop { state := .ready, pending := none, fn := b.fn, tmps := a.tmps, params, assign, body, defers := pd.b })))
    (hx : rangeB ih (ev fr.tm f) params.toList aA aB fr d mark h = some (e, fr', h')) :
    ∃ σ' w' a', Evo P B σ h w σ' h' w' ∧ FRel P σ' nt fr' a' b ∧ fr'.round = fr.round ∧ ∀ (k : List Item) (cs : List Frame), Arr P (lone (At b a (.code (.rangeFunc f params assign body) :: k)) cs w0) b k cs e a' w' := by
  subst hl
  unfold rangeB at hx
  have hsame := more_same σ h.n ⟨w.heap.size, 0, 0⟩
  have hle := more_le hr ⟨w.heap.size, 0, 0⟩
  have hcell := World.alloc_heap_new w (.loop { state := .ready, pending := none, fn := b.fn, tmps := a.tmps, params, assign, body, defers := pd.b })
  have hheap : (w.alloc (.loop { state := .ready, pending := none, fn := b.fn, tmps := a.tmps, params, assign, body, defers := pd.b })).heap = w.heap.push (.loop { state := .ready, pending := none, fn := b.fn, tmps := a.tmps, params, assign, body, defers := pd.b }) := rfl
  have hrest : (w.alloc (.loop { state := .ready, pending := none, fn := b.fn, tmps := a.tmps, params, assign, body, defers := pd.b })).os = w.os ∧ (w.alloc (.loop { state := .ready, pending := none, fn := b.fn, tmps := a.tmps, params, assign, body, defers := pd.b })).tape = w.tape ∧ (w.alloc (.loop { state := .ready, pending := none, fn := b.fn, tmps := a.tmps, params, assign, body, defers := pd.b })).output = w.output := ⟨rfl, rfl, rfl⟩
  generalize w.alloc (.loop { state := .ready, pending := none, fn := b.fn, tmps := a.tmps, params, assign, body, defers := pd.b }) = W1 at hent hcell hheap hrest
  have ev1 : Evo P B σ h w (more σ h.n ⟨w.heap.size, 0, 0⟩) (h.push (.loop { state := .ready, pending := none, fn := 0, tm := fr.tm, params := params.toList, assign := aA, body := aB, defers := d }))
      W1 :=
    HRel.push hr hheap hrest
      ⟨_, hcell, ⟨rfl, trivial, fun k => (hF.tm k).mono hle, rfl, ⟨nt, hF.size, hps, hcA, hcB⟩, ⟨pd, hle _ _ hd, rfl⟩⟩⟩
  split at hx
  · cases hx
  · rename_i v0 h2 hcv
    obtain ⟨nx, fr0, σ2, w2, cv, r1, r2, r3, r4, r5⟩ := callV_sound hex hcall ev1.rel (ev_rel ev1.rel (fun k => (hF.tm k).mono hle) hok) (LRel.cons (VRel.yield hsame) (LRel.nil _)) hcv
    have r1 : ((do let d ← Deferred.ofValue (a.eval f) #[.func (.yield w.heap.size) #[] #[]]; invoke d.target d.args) : Sem Next).run P W1 = .ok nx W1 := r1
    split at hx
    · rename_i r hl2
      obtain ⟨pl2, r', m1, m2, m3⟩ := loop_live r3.rel hl2
      have hp2 := r3.le _ _ hsame
      rw [hp2] at m1; cases m1
      have hnb : r.state ≠ .busy := by
        intro hb
        rw [hb] at hx
        cases hx
      have hend := run_endLoop (P := P) m2 (by rw [m3.state]; exact hnb)
      have ev4 := loop_put (r2 := { r with state := .exhausted }) (r2' := { r' with state := .exhausted }) r3.rel hl2 hp2 ⟨rfl, m3.pending, m3.tm, m3.params, m3.code, m3.defers⟩
      have evs := (ev1.trans r3).trans ev4
      have hF' : FRel P σ2 nt { fr with dfs := mark ++ fr.dfs } { a with defers := mark' ++ a.defers } b :=
        ⟨hF.size, fun k => (hF.tm k).mono evs.le, (hm.append hF.dfs).mono evs.le, hF.round.mono evs.le⟩
      have steps : ∀ (k : List Item) (cs : List Frame), Steps P (lone (At b a (.code (.rangeFunc f params assign body) :: k)) cs w0)
          (lone (At b { a with defers := mark' ++ a.defers } ((r'.pending.map Item.code).toList ++ k)) cs (w2.putObj w.heap.size (.loop { r' with state := .exhausted }))) := fun k cs => by
        have q := r5 (At b { a with defers := mark' ++ a.defers } (.inRangeFunc w.heap.size :: k)) cs
        have hfin : (At b { a with defers := mark' ++ a.defers } (.inRangeFunc w.heap.size :: k)).finish cv = At b { a with defers := mark' ++ a.defers } (.endRangeFunc w.heap.size :: k) := rfl
        rw [hfin] at q
        exact Steps.trans (.one (step_enter hent r1 r2)) (.trans q (.one (st_endRange hend)))
      have hp := m3.pending
      have hx' : (match r.pending with
        | none => some (AExit.normal, ({ fr with dfs := mark ++ fr.dfs } : AFr), h2.set h.n (.loop { r with state := .exhausted }))
        | some .ret => some (.ret, { fr with dfs := mark ++ fr.dfs }, h2.set h.n (.loop { r with state := .exhausted }))
        | some (.exit id) => some (.exit id, { fr with dfs := mark ++ fr.dfs }, h2.set h.n (.loop { r with state := .exhausted }))
        | some (.goto g) => some (.goto g, { fr with dfs := mark ++ fr.dfs }, h2.set h.n (.loop { r with state := .exhausted }))
        | some _ => none) = some (e, fr', h') := by
        cases hs : r.state <;> rw [hs] at hx <;> first | exact hx | exact absurd hs hnb
      clear hx
      have evs : Evo P B σ h w σ2 _ (w2.putObj w.heap.size (.loop { r' with state := .exhausted })) := evs
      generalize w2.putObj w.heap.size (.loop { r' with state := .exhausted }) = W3 at evs steps
      generalize h2.set h.n (.loop { r with state := .exhausted }) = H3 at evs hx'
      rcases hq : r.pending with _ | c
      · rw [hq] at hx' hp
        simp only [Option.some.injEq, Prod.mk.injEq] at hx'
        obtain ⟨rfl, rfl, rfl⟩ := hx'
        cases hq' : r'.pending with
        | some c => rw [hq'] at hp; exact hp.elim
        | none =>
          rw [hq'] at steps
          exact ⟨σ2, _, _, evs, hF', rfl, fun k cs => steps k cs⟩
      · rw [hq] at hx' hp
        cases hq' : r'.pending with
        | none => rw [hq'] at hp; cases c <;> exact hp.elim
        | some c' =>
          rw [hq'] at steps hp
          cases c with
          | ret =>
            cases c' with
            | ret =>
              simp only [Option.some.injEq, Prod.mk.injEq] at hx'
              obtain ⟨rfl, rfl, rfl⟩ := hx'
              exact ⟨σ2, _, _, evs, hF', rfl, fun k cs => ⟨k, steps k cs⟩⟩
            | _ => exact hp.elim
          | exit i =>
            cases c' with
            | exit j =>
              simp only [Option.some.injEq, Prod.mk.injEq] at hx'
              obtain ⟨rfl, rfl, rfl⟩ := hx'
              have hp : i = j := hp
              subst hp
              exact ⟨σ2, _, _, evs, hF', rfl, fun k cs => ⟨k, rfl, steps k cs⟩⟩
            | _ => exact hp.elim
          | goto i =>
            cases c' with
            | goto j =>
              simp only [Option.some.injEq, Prod.mk.injEq] at hx'
              obtain ⟨rfl, rfl, rfl⟩ := hx'
              have hp : i = j := hp
              subst hp
              exact ⟨σ2, _, _, evs, hF', rfl, fun k cs => ⟨k, rfl, steps k cs⟩⟩
            | _ => exact hp.elim
          | _ => exact absurd hx' (by simp)
    · cases hx

theorem rangeA_sound {ih : Ex} (hex : ExecSound P ih) (hcall : CallSound P ih) {nt : Nat} {f : Operand} {params : Array Tmp} {assign body : Code} {aA aB : ACode} {b : Frame} {fr fr' : AFr} {a : Act} {e : AExit} {h' : AHeap}
    (hcA : cCode P nt assign = some aA) (hcB : cCode P nt body = some aB) (hps : ∀ p ∈ params.toList, p < nt) (hok : opdOk P f = true) (hr : HRel P B σ h w) (hF : FRel P σ nt fr a b)
    (hx : rangeA ih (ev fr.tm f) params.toList aA aB fr h = some (e, fr', h')) : CSound P B σ h w nt (.rangeFunc f params assign body) fr a b e fr' h' := by
  unfold rangeA at hx
  have hrd := hF.round
  split at hx
  · rename_i hn
    rw [hn] at hrd
    have hbr : b.roundOf = none := hrd
    have hle := more_le hr ⟨w.heap.size, 0, 0⟩
    have hsame := more_same σ h.n ⟨w.heap.size, 0, 0⟩
    have ev0 : Evo P B σ h w (more σ h.n ⟨w.heap.size, 0, 0⟩) (h.push (.deferred (some []))) (w.alloc (.deferred (some []))) :=
      HRel.push hr (O := .deferred (some [])) rfl ⟨rfl, rfl, rfl⟩ ⟨rfl, World.alloc_heap_new w _⟩
    have hent := run_enterLoop_outer (P := P) (w := w) b.fn a.tmps params assign body
    rw [← hbr] at hent
    have hm : DRels P (more σ h.n ⟨w.heap.size, 0, 0⟩) [{ target := .collected h.n, args := #[] }] [{ target := .collected w.heap.size, args := #[] }] := ⟨⟨_, hsame, rfl⟩, trivial⟩
    obtain ⟨σ', w', a', e1, e2, e3, e4⟩ := rangeB_sound hex hcall hcA hcB hps hok ev0.rel (hF.mono hle) hsame hm (by simp) hent hx
    exact ⟨σ', w', a', ev0.trans e1, e2, e3, e4⟩
  · rename_i l hn
    rw [hn] at hrd
    obtain ⟨pl, p1, p2⟩ := hrd
    split at hx
    · rename_i r hl
      obtain ⟨pl0, r', k1, k2, k3⟩ := loop_live hr hl
      rw [p1] at k1; cases k1
      obtain ⟨pd, d1, d2⟩ := k3.defers
      have hent := run_enterLoop_inner (P := P) k2 b.fn a.tmps params assign body
      rw [← p2, d2] at hent
      exact rangeB_sound hex hcall hcA hcB hps hok hr hF d1 (mark := []) (mark' := []) trivial rfl hent hx
    · cases hx

end
end Go.Am
