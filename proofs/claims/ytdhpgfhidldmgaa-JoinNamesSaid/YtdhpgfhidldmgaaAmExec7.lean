/-
  The abstract machine: runs. What it does, the model's machine does (7): calls.
-/
import Derived.Test.YtdhpgfhidldmgaaAmExec6
namespace Go.Am
open Go.RowKit

section
variable {P : Program} {B : Nat} {σ : Nat → Option Pl} {h : AHeap} {w : World}

theorem mkTm_rel : ∀ {l l' : List Value} (k0 : Nat) {t : Trie Value} {f : Nat → Value}, LRel σ l l' → (∀ k, VRel σ (tmGet t k) (f k)) →
    ∀ k, VRel σ (tmGet (mkTm l k0 t) k) (if k0 ≤ k then (l'[k - k0]?).getD (f k) else f k) := by
  intro l
  induction l with
  | nil =>
    intro l' k0 t f hl ht k
    have : l' = [] := by have := hl.1; cases l' <;> simp_all
    subst this
    simp only [mkTm]
    split <;> simpa using ht k
  | cons v l ih =>
    intro l' k0 t f hl ht k
    match l', hl with
    | [], hl => have := hl.1; simp at this
    | v' :: l', hl =>
      have hv := hl.2 0 v v' rfl rfl
      have hl' : LRel σ l l' := ⟨by simpa using hl.1, fun i a b h1 h2 => hl.2 (i + 1) a b (by simpa using h1) (by simpa using h2)⟩
      have := ih (l' := l') (k0 + 1) (t := t.set k0 v) (f := fun k => if k = k0 then v' else f k) hl' (fun j => by
        rw [tmGet_set]
        by_cases hj : j = k0
        · simp only [hj, if_true]; exact hv
        · simp only [hj, if_false]; exact ht j) k
      simp only [mkTm]
      by_cases h1 : k0 + 1 ≤ k
      · rw [if_pos h1, if_neg (by omega)] at this
        rw [if_pos (by omega)]
        have e : k - k0 = (k - (k0 + 1)) + 1 := by omega
        rw [e]
        simpa using this
      · rw [if_neg h1] at this
        by_cases h2 : k = k0
        · subst h2
          simpa using this
        · rw [if_neg h2] at this
          rw [if_neg (by omega)]
          exact this

/-- A result variable, read. -/
def readVar (tm : Array Value) : ResultVar → Sem Value
  | .tmp t => pure (tm.getD t Go.undef)
  | .cell a t => do loadVar t (← asAddr (tm.getD a Go.undef))

theorem cells_load {t : TypeId} {agg : Bool} {n ad : Nat} {tr : Trie Value} {tm : Array Value} (hg : tagg P t = some agg) (hn : tsize P t = some n) (hr : HRel P B σ h w) (hv : VRel σ (tmGet tr ad) (tm.getD ad Go.undef)) {u : Value}
    (hx : resultA h tr (ad, some (agg, n)) = some u) :
    ∃ cu, (readVar tm (.cell ad t)).run P w = .ok cu w ∧ VRel σ u cu := by
  simp only [resultA] at hx
  simp only [readVar]
  generalize tm.getD ad Go.undef = v' at hv
  generalize tmGet tr ad = v at hx hv
  split at hx
  · rename_i _ ad
    cases hsp : ad.spot with
    | some s => simp [hsp] at hx
    | none =>
      simp only [hsp, Option.isNone_none, cond_true] at hx
      cases hrow : rowOf h ad.block with
      | none => simp [hrow] at hx
      | some cells =>
        simp only [hrow, Option.bind_some] at hx
        cases hcut : cut cells ad.off n with
        | none => simp [hcut] at hx
        | some xs =>
          simp only [hcut, Option.bind_some] at hx
          obtain ⟨pl, ys, c1, c2, c3, c4, c5⟩ := cut_cells hr hrow hcut
          obtain ⟨cv, d1, d2⟩ := ofCells_rel c2 hx
          obtain ⟨b, off, sp⟩ := ad
          simp only at hsp c1 c5
          subst hsp
          cases hv with
          | ptr hp =>
            rw [c1] at hp; cases hp
            refine ⟨cv, ?_, d2⟩
            have := run_loadVar_of (P := P) (w := w) hg hn c3 c5 d1
            simp [asAddr, this]
  · cases hx

theorem results_rel (hr : HRel P B σ h w) {t : Trie Value} {tm : Array Value} (ht : ∀ k, VRel σ (tmGet t k) (tm.getD k Go.undef)) : ∀ {l : List ResultVar} {rs : List (Nat × Option (Bool × Nat))} {vs : List Value},
    cResults P l = some rs → resultsA h t rs = some vs → ∃ cvs, (l.mapM (readVar tm)).run P w = .ok cvs w ∧ LRel σ vs cvs := by
  intro l
  induction l with
  | nil =>
    intro rs vs hc hx
    simp only [cResults, Option.some.injEq] at hc
    subst hc
    simp only [resultsA, Option.some.injEq] at hx
    subst hx
    exact ⟨[], by simp, LRel.nil _⟩
  | cons r l ih =>
    intro rs vs hc hx
    cases r with
    | tmp k =>
      simp only [cResults, Option.map_eq_some_iff] at hc
      obtain ⟨rs2, hc2, rfl⟩ := hc
      simp only [resultsA, resultA] at hx
      cases hx2 : resultsA h t rs2 with
      | none => simp [hx2] at hx
      | some vs2 =>
        simp only [hx2, Option.some.injEq] at hx
        subst hx
        obtain ⟨cvs, e1, e2⟩ := ih hc2 hx2
        refine ⟨tm.getD k Go.undef :: cvs, ?_, LRel.cons (ht k) e2⟩
        rw [List.mapM_cons]
        simp only [Sem.run_bind, readVar, Sem.run_pure, Result.andThen_ok, e1]
    | cell ad ty =>
      simp only [cResults] at hc
      cases h1 : tagg P ty with
      | none => simp [h1] at hc
      | some g =>
      cases h2 : tsize P ty with
      | none => simp [h1, h2] at hc
      | some n =>
      cases h3 : cResults P l with
      | none => simp [h1, h2, h3] at hc
      | some rs2 =>
      simp only [h1, h2, h3, Option.some.injEq] at hc
      subst hc
      simp only [resultsA] at hx
      cases hx1 : resultA h t (ad, some (g, n)) with
      | none => simp [hx1] at hx
      | some v =>
      simp only [hx1] at hx
      cases hx2 : resultsA h t rs2 with
      | none => simp [hx2] at hx
      | some vs2 =>
        simp only [hx2, Option.some.injEq] at hx
        subst hx
        obtain ⟨cvs, e1, e2⟩ := ih h3 hx2
        obtain ⟨cu, d1, d2⟩ := cells_load h1 h2 hr (ht ad) hx1
        refine ⟨cu :: cvs, ?_, LRel.cons d2 e2⟩
        rw [List.mapM_cons]
        simp only [Sem.run_bind, d1, Sem.run_pure, Result.andThen_ok, e1]

theorem one_rel {vs cvs : List Value} (hl : LRel σ vs cvs) : VRel σ (one vs) (if h : cvs.toArray.size = 1 then cvs.toArray[0] else .tuple cvs.toArray) := by
  match vs, cvs, hl with
  | [], [], _ => exact VRel.tuple rfl (fun i x y h => by simp at h)
  | [v], [c], hl => exact hl.2 0 v c rfl rfl
  | a :: b :: l, a' :: b' :: l', hl =>
    have : ¬ (a' :: b' :: l').toArray.size = 1 := by simp
    rw [dif_neg this]
    exact VRel.tuple (by simpa using hl.1) (fun i x y h1 h2 => hl.2 i x y (by simpa using h1) (by simpa using h2))
  | [], _ :: _, hl => have := hl.1; simp at this
  | [_], [], hl => have := hl.1; simp at this
  | [_], _ :: _ :: _, hl => have := hl.1; simp at this
  | _ :: _ :: _, [], hl => have := hl.1; simp at this
  | _ :: _ :: _, [_], hl => have := hl.1; simp at this

theorem run_results {f : Func} {tm : Array Value} {cvs : List Value} (hm : (f.results.toList.mapM (readVar tm)).run P w = .ok cvs w) :
    (results f tm).run P w = .ok (if h : cvs.toArray.size = 1 then cvs.toArray[0] else .tuple cvs.toArray) w := by
  have hf : results f tm = (do
    let vs ← f.results.mapM (readVar tm)
    pure (if h : vs.size = 1 then vs[0] else .tuple vs)) := by
    unfold results
    congr 1
  have ha : (f.results.mapM (readVar tm)).run P w = .ok cvs.toArray w := by
    rw [Array.mapM_eq_mapM_toList, Sem.run_map, hm]
    rfl
  rw [hf]
  simp only [Sem.run_bind, ha, Result.andThen_ok, Sem.run_pure]

/-- The deferred calls, one by one. -/
theorem defers_sound {ih : Ex} (hcall : CallSound P ih) : ∀ {ds ds' : List Deferred} {σ : Nat → Option Pl} {h : AHeap} {w : World} {h' : AHeap}, DRels P σ ds ds' → HRel P B σ h w → defersA ih ds h = some h' →
    ∃ σ' w', Evo P B σ h w σ' h' w' ∧ ∀ (X : Frame) (cs : List Frame), X.mode = .returning → X.defers = ds' → Steps P (lone X cs w) (lone { X with defers := [] } cs w') := by
  intro ds
  induction ds with
  | nil =>
    intro ds' σ h w h' hd hr hx
    cases ds' with
    | cons _ _ => exact hd.elim
    | nil =>
      simp only [defersA, Option.some.injEq] at hx
      subst hx
      refine ⟨σ, w, .refl hr, fun X cs _ hX => ?_⟩
      have : { X with defers := [] } = X := by rw [← hX]
      rw [this]
      exact Steps.refl P _
  | cons d ds ihd =>
    intro ds' σ h w h' hd hr hx
    cases ds' with
    | nil => exact hd.elim
    | cons d' ds' =>
    obtain ⟨hd1, hd2⟩ := hd
    obtain ⟨tgt, dargs⟩ := d
    obtain ⟨tgt', dargs'⟩ := d'
    unfold DRel at hd1
    simp only [defersA] at hx
    split at hd1
    · -- a function
      rename_i f cap heq
      simp only at heq
      subst heq
      obtain ⟨cap', e1, e2, e3⟩ := hd1
      simp only at e1
      subst e1
      simp only at hx
      cases hc : ih.call f (dargs.toList ++ cap.toList) h with
      | none => simp [hc] at hx
      | some p =>
      obtain ⟨v0, h0⟩ := p
      simp only [hc] at hx
      obtain ⟨k1, k2⟩ := hcall _ _ _ _ _ hc
      obtain ⟨σ1, w1, cv, ev1, _, st⟩ := k2 B σ w hr (dargs' ++ cap') (by simpa using e3.append e2) .deferred (.inr rfl)
      obtain ⟨σ2, w2, ev2, st2⟩ := ihd (hd2.mono ev1.le) ev1.rel hx
      refine ⟨σ2, w2, ev1.trans ev2, fun X cs hm hX => ?_⟩
      have hs := step_defer (P := P) (fr := X) (cs := cs) (w := w) (d := ⟨.fn (.func f) cap', dargs'⟩) (ds := ds') (fv := .func f) (cap := cap') (f := f) (args := dargs' ++ cap') (by rw [hm]; simp) hX rfl (by simp [invoke, k1])
      obtain ⟨fr', s1, s2⟩ := st ({ X with defers := ds' } :: cs)
      have s3 := step_returned_d (cs := cs) s2 (c := { X with defers := ds' }) hm
      exact Steps.trans (.one hs) (Steps.trans s1 (Steps.trans (.one s3) (st2 { X with defers := ds' } cs hm rfl)))
    · -- clear
      rename_i ts ty cs0 heq
      simp only at heq
      subst heq
      obtain ⟨t, kt, e, rfl, hu, e1, e3⟩ := hd1
      simp only at e1
      subst e1
      simp only at hx
      split at hx
      · rename_i g hga
        split at hx
        · rename_i es clock hg
          rw [hga] at e3
          have hlen := e3.1
          obtain ⟨m', hm'⟩ : ∃ m', dargs'.toList = [m'] := by
            match hq : dargs'.toList with
            | [m'] => exact ⟨m', rfl⟩
            | [] => rw [hq] at hlen; simp at hlen
            | _ :: _ :: _ => rw [hq] at hlen; simp at hlen
          have harr : dargs' = #[m'] := by rw [← Array.toArray_toList (xs := dargs'), hm']
          rw [hm'] at e3
          have hmr := e3.2 0 _ _ rfl rfl
          obtain ⟨w1, r1, r2⟩ := clear_rel (ty := ty) (ts := []) hr hu hg hmr
          obtain ⟨σ2, w2, ev2, st2⟩ := ihd (hd2.mono r2.le) r2.rel hx
          refine ⟨σ2, w2, r2.trans ev2, fun X cs hm hX => ?_⟩
          refine Steps.trans (.one (m₁ := lone { X with defers := ds' } cs w1) ?_) (st2 { X with defers := ds' } cs hm rfl)
          refine step_lone_go ?_
          subst harr
          have hin : (invoke (.builtin .clear #[t] ty cs0) #[m']).run P w = .ok (.value (.tuple #[])) w1 := by
            simp only [invoke, builtin]
            simp [r1]
          simp [stepG, unwind, callDeferred, hm, hX, Sem.runT_eq, hin]
        · cases hx
      · cases hx
    · -- the mark of a range over a function
      rename_i g heq
      simp only at heq
      subst heq
      obtain ⟨pl, p1, e1⟩ := hd1
      simp only at e1
      subst e1
      simp only at hx
      split at hx
      · rename_i hg
        obtain ⟨pl0, q1, q2, q3⟩ := hr.live _ _ hg
        rw [p1] at q1; cases q1
        have hblk : w.heap[pl.b]? = some (.deferred (some [])) := q2.2
        have hlt : pl.b < w.heap.size := (hr.lt _ _ p1).2
        have ev1 : Evo P B σ h w σ (h.set g (.deferred none)) (w.putObj pl.b (.deferred none)) :=
          hr.put (O' := .deferred none) hg rfl rfl p1 ⟨by simp, World.putObj_heap_same hlt, fun b hne => World.putObj_heap_other hne⟩ ⟨rfl, rfl, rfl⟩ (World.putObj_heap_same hlt)
            (fun g2 o2 pl2 _ _ _ _ k => by cases o2 <;> exact k.elim)
        obtain ⟨σ2, w2, ev2, st2⟩ := ihd hd2 ev1.rel hx
        refine ⟨σ2, w2, ev1.trans ev2, fun X cs hm hX => ?_⟩
        refine Steps.trans (.one (m₁ := lone { X with defers := ds' } cs (w.putObj pl.b (.deferred none))) ?_) (st2 { X with defers := ds' } cs hm rfl)
        refine step_lone_go ?_
        have := run_takeDeferred (P := P) hblk
        simp [stepG, unwind, hm, hX, Sem.runT_eq, this]
      · cases hx
    · exact hd1.elim

theorem cFunc_spec {f : FuncId} {fn : AFunc} (hc : cFunc P f = some fn) :
    ∃ fn' c, P.funcs[f]? = some fn' ∧ fn'.body = some c ∧ cResults P fn'.results.toList = some fn.results ∧ (fn'.name == "runtime.NumGoroutine") = false ∧ cCode P fn'.ntmps c = some fn.body := by
  unfold cFunc at hc
  split at hc
  · rename_i fn' hf
    split at hc
    · rename_i c rs hb hrs
      cases hn : (fn'.name == "runtime.NumGoroutine") with
      | true => simp [hn] at hc
      | false =>
        simp only [hn, cond_false] at hc
        split at hc
        · rename_i b hb2
          cases hc
          exact ⟨fn', c, hf, hb, hrs, hn, hb2⟩
        · cases hc
    · cases hc
  · cases hc

theorem callA_sound {ih : Ex} (hex : ExecSound P ih) (hcall : CallSound P ih) {tab : FuncId → Option AFunc} (htab : ∀ f a, tab f = some a → cFunc P f = some a) : CallSound P ⟨ih.exec, callA P tab ih⟩ := by
  intro f args h v h' hx
  have hx : callA P tab ih f args h = some (v, h') := hx
  unfold callA at hx
  cases ht : tab f with
  | none => simp [ht] at hx
  | some fn =>
  simp only [ht] at hx
  obtain ⟨fn', c, hf, hb, hrs, hname, hcode⟩ := cFunc_spec (htab f fn ht)
  refine ⟨fun as w => ?_, fun B σ w hr as hl kind hk => ?_⟩
  · have h1 : fn'.name ≠ "runtime.NumGoroutine" := by simpa using hname
    simp [callFunc, hf, h1, hb]
  · cases hx0 : ih.exec fn.body ⟨mkTm args 0 .leaf, [], none⟩ h with
    | none => simp [hx0] at hx
    | some p =>
    obtain ⟨e, fr1, h1⟩ := p
    simp only [hx0] at hx
    have hent : Frame.enter P f as kind = At { (default : Frame) with fn := f, kind := kind } { tmps := as ++ Array.replicate (fn'.ntmps - as.size) Go.undef, defers := [] } [.code c] := by
      simp [Frame.enter, At, hf, hb]
      rfl
    have hF : FRel P σ fn'.ntmps ⟨mkTm args 0 .leaf, [], none⟩ { tmps := as ++ Array.replicate (fn'.ntmps - as.size) Go.undef, defers := [] } { (default : Frame) with fn := f, kind := kind } := by
      refine ⟨by simp; omega, fun k => ?_, trivial, rfl⟩
      have := mkTm_rel 0 (t := .leaf) (f := fun _ => Go.undef) hl (fun k => by simp only [tmGet, Trie.get]; exact VRel.undef σ) k
      simp only [Nat.zero_le, if_true, Nat.sub_zero] at this
      have e : (as ++ Array.replicate (fn'.ntmps - as.size) Go.undef).getD k Go.undef = (as.toList[k]?).getD Go.undef := by
        rw [Array.getD_eq_getD_getElem?, Array.getElem?_append]
        split
        · simp
        · rename_i hk'
          rw [Array.getElem?_replicate]
          have : as[k]? = none := by simp; omega
          simp only [Array.getElem?_toList, this]
          split <;> rfl
      simp only
      rw [e]
      exact this
    obtain ⟨σ1, w1, a1, ev1, F1, rd1, st1⟩ := hex _ _ _ hcode _ _ _ _ _ hx0 B σ w hr _ _ hF
    have hend : (e = .normal ∨ e = .ret) ∧ ∃ h2 vs, defersA ih fr1.dfs h1 = some h2 ∧ resultsA h2 fr1.tm fn.results = some vs ∧ v = one vs ∧ h' = h2 := by
      have tail : (match defersA ih fr1.dfs h1 with
          | none => none
          | some h => match resultsA h fr1.tm fn.results with
            | none => none
            | some vs => some (one vs, h)) = some (v, h') → ∃ h2 vs, defersA ih fr1.dfs h1 = some h2 ∧ resultsA h2 fr1.tm fn.results = some vs ∧ v = one vs ∧ h' = h2 := by
        intro ht
        cases hd : defersA ih fr1.dfs h1 with
        | none => simp [hd] at ht
        | some h2 =>
          simp only [hd] at ht
          cases hv : resultsA h2 fr1.tm fn.results with
          | none => simp [hv] at ht
          | some vs =>
            simp only [hv, Option.some.injEq, Prod.mk.injEq] at ht
            exact ⟨h2, vs, rfl, hv, ht.1.symm, ht.2.symm⟩
      cases e with
      | normal => exact ⟨.inl rfl, tail hx⟩
      | ret => exact ⟨.inr rfl, tail hx⟩
      | exit id => exact absurd hx (by simp)
      | goto l => exact absurd hx (by simp)
    obtain ⟨he, h2, vs, hd, hv, rfl, rfl⟩ := hend
    obtain ⟨σ2, w2, ev2, st2⟩ := defers_sound hcall F1.dfs ev1.rel hd
    obtain ⟨cvs, r1, r2⟩ := results_rel ev2.rel (fun k => (F1.tm k).mono ev2.le) hrs hv
    refine ⟨σ2, w2, _, ev1.trans ev2, one_rel r2, fun cs => ?_⟩
    rw [hent]
    have fin : ∀ todo : List Item, ∃ fr', Steps P (lone { At { (default : Frame) with fn := f, kind := kind } a1 todo with mode := .returning } cs w1) (lone fr' cs w2) ∧
        Returns P f kind fr' (if h : cvs.toArray.size = 1 then cvs.toArray[0] else .tuple cvs.toArray) w2 := fun todo =>
      ⟨_, st2 { At { (default : Frame) with fn := f, kind := kind } a1 todo with mode := .returning } cs rfl rfl, rfl, rfl, rfl, rfl, fn', hf, run_results r1⟩
    have := st1 [] cs
    rcases he with rfl | rfl
    · obtain ⟨fr', s1, s2⟩ := fin []
      exact ⟨fr', Steps.trans this (Steps.trans (.one (st_end rfl)) s1), s2⟩
    · obtain ⟨k1, this⟩ := this
      obtain ⟨fr', s1, s2⟩ := fin (.code .ret :: k1)
      exact ⟨fr', Steps.trans this (Steps.trans (.one (st_ret rfl)) s1), s2⟩

theorem aex_sound (hdr : ∀ ih : Ex, ExecSound P ih → CallSound P ih → DrawSound P ih) {tab : FuncId → Option AFunc} (htab : ∀ f a, tab f = some a → cFunc P f = some a) :
    ∀ n, ExecSound P (aex P tab n) ∧ CallSound P (aex P tab n) := by
  intro n
  induction n with
  | zero => exact ⟨(fun nt c ac _ fr h e fr' h' hx => by cases hx), (fun f args h v h' hx => by cases hx)⟩
  | succ n ih => exact ⟨execA_sound ih.1 ih.2 (hdr _ ih.1 ih.2), callA_sound ih.1 ih.2 htab⟩

end
end Go.Am
