/-
  The abstract machine by itself: how its heap grows: what it never does.
-/
import Derived.Test.YtdhpgfhidldmgaaAmRel
namespace Go.Am

/-- From h to h': nothing that is gone below m comes back; what is written below the mark is logged; what is not ours stays as it was. -/
structure Grow (m : Nat) (h h' : AHeap) : Prop where
  n : h.n ≤ h'.n
  gone : ∀ g, g < m → h.get g = none → h'.get g = none
  mark : h'.mark = h.mark
  wr : ∀ g, g ∈ h.wr → g ∈ h'.wr
  log : ∀ g, g < h.mark → g < m → g ∉ h'.wr → h'.get g = h.get g
  notown : ∀ g o, h'.get g = some o → ownO o = false → h.get g = some o
  wf : (∀ g, h.n ≤ g → h.get g = none) → ∀ g, h'.n ≤ g → h'.get g = none

theorem Grow.refl (m : Nat) (h : AHeap) : Grow m h h := ⟨Nat.le_refl _, fun _ _ x => x, rfl, fun _ x => x, fun _ _ _ _ => rfl, fun _ _ x _ => x, fun x => x⟩
theorem Grow.le {m m' : Nat} {h h' : AHeap} (x : Grow m h h') (hm : m' ≤ m) : Grow m' h h' :=
  ⟨x.n, fun g hg => x.gone g (Nat.lt_of_lt_of_le hg hm), x.mark, x.wr, fun g h1 h2 => x.log g h1 (Nat.lt_of_lt_of_le h2 hm), x.notown, x.wf⟩
theorem Grow.trans {m : Nat} {h h' h'' : AHeap} (x : Grow m h h') (y : Grow m h' h'') : Grow m h h'' :=
  ⟨Nat.le_trans x.n y.n, fun g hg e => y.gone g hg (x.gone g hg e), y.mark.trans x.mark, fun g e => y.wr g (x.wr g e),
    fun g h1 h2 h3 => (y.log g (by rw [x.mark]; exact h1) h2 h3).trans (x.log g h1 h2 fun e => h3 (y.wr g e)), fun g o e k => x.notown g o (y.notown g o e k) k, fun e => y.wf (x.wf e)⟩
theorem Grow.on {h h' h'' : AHeap} (x : Grow h.n h h') (y : Grow h'.n h' h'') : Grow h.n h h'' := x.trans (y.le x.n)

theorem grow_push (h : AHeap) {o : AObj} (ho : ownO o = true) : Grow h.n h (h.push o) := by
  refine ⟨Nat.le_succ _, fun g hg e => ?_, rfl, fun _ x => x, fun g _ hg _ => ?_, fun g o' e k => ?_, fun e g hg => ?_⟩
  · rw [get_push, if_neg (Nat.ne_of_lt hg)]; exact e
  · rw [get_push, if_neg (Nat.ne_of_lt hg)]
  · rw [get_push] at e
    split at e
    · cases e; rw [ho] at k; cases k
    · exact e
  · have : h.n + 1 ≤ g := hg
    rw [get_push, if_neg (by omega)]
    exact e g (by omega)

theorem mem_log {h : AHeap} {g k : Nat} (hk : k ∈ h.wr) : k ∈ h.log g := by
  unfold AHeap.log
  cases Nat.ble h.mark g <;> simp [hk]
theorem mem_log_self {h : AHeap} {g : Nat} (hg : g < h.mark) : g ∈ h.log g := by
  unfold AHeap.log
  have : Nat.ble h.mark g = false := by
    cases hb : Nat.ble h.mark g with
    | false => rfl
    | true => have := Nat.le_of_ble_eq_true hb; omega
  simp [this]

theorem grow_set (h : AHeap) {g : Nat} {o o' : AObj} (hg : h.get g = some o') (ho : ownO o = true) (m : Nat) : Grow m h (h.set g o) := by
  refine ⟨Nat.le_refl _, fun k _ e => ?_, rfl, fun k hk => mem_log hk, fun k h1 _ h3 => ?_, fun k o2 e q => ?_, fun e k hk => ?_⟩
  · rw [get_set]
    split
    · rename_i e'; subst e'; rw [hg] at e; cases e
    · exact e
  · rw [get_set]
    split
    · rename_i e'; subst e'; exact absurd (mem_log_self h1) h3
    · rfl
  · rw [get_set] at e
    split at e
    · cases e; rw [ho] at q; cases q
    · exact e
  · have hk : h.n ≤ k := hk
    rw [get_set]
    split
    · rename_i e'; subst e'; rw [e k hk] at hg; cases hg
    · exact e k hk

theorem grow_kill (h : AHeap) (g m : Nat) : Grow m h (h.kill g) := by
  refine ⟨Nat.le_refl _, fun k _ e => ?_, rfl, fun k hk => mem_log hk, fun k h1 _ h3 => ?_, fun k o2 e q => ?_, fun e k hk => ?_⟩
  · rw [get_kill]
    split
    · rfl
    · exact e
  · rw [get_kill]
    split
    · rename_i e'; subst e'; exact absurd (mem_log_self h1) h3
    · rfl
  · rw [get_kill] at e
    split at e
    · cases e
    · exact e
  · rw [get_kill]
    split
    · rfl
    · exact e k hk

theorem get_lay (h : AHeap) (k : Nat) (o : AObj) (g : Nat) : (h.lay k o).get g = if g = k then some o else h.get g := trie_get_set _ _ _ _
theorem grow_lay (h : AHeap) {g m : Nat} {o : AObj} (hg : m ≤ g) (hn : g < h.n) (ho : ownO o = true) : Grow m h (h.lay g o) := by
  refine ⟨Nat.le_refl _, fun k hk e => ?_, rfl, fun k hk => mem_log hk, fun k h1 hk h3 => ?_, fun k o2 e q => ?_, fun e k hk => ?_⟩
  · rw [get_lay, if_neg (by omega)]; exact e
  · rw [get_lay, if_neg (by omega)]
  · rw [get_lay] at e
    split at e
    · cases e; rw [ho] at q; cases q
    · exact e
  · have hk : h.n ≤ k := hk
    rw [get_lay, if_neg (by omega)]
    exact e k hk

def ExGrow (ih : Ex) : Prop := (∀ c fr h e fr' h', ih.exec c fr h = some (e, fr', h') → Grow h.n h h') ∧ ∀ f args h v h', ih.call f args h = some (v, h') → Grow h.n h h'

theorem storeA_grow {h h' : AHeap} {a : Addr} {vs : List Value} (hx : storeA h a vs = some h') : Grow h.n h h' := by
  unfold storeA at hx
  split at hx
  · rename_i cells lo hg
    simp only [Bool.cond_eq_ite] at hx
    split at hx
    · cases hx; exact grow_set h hg rfl _
    · cases hx
  · cases hx

theorem appendA_grow {c : Nat} {s x v : Value} {h h' : AHeap} (hx : appendA c s x h = some (v, h')) : Grow h.n h h' := by
  have hm : ∀ {y ys n}, some (mk h (y :: ys) n c) = some (v, h') → Grow h.n h h' := fun {y ys n} e => by
    simp only [mk, Option.some.injEq, Prod.mk.injEq] at e
    obtain ⟨rfl, rfl⟩ := e
    exact grow_push h rfl
  unfold appendA at hx
  simp only [Bool.cond_eq_ite] at hx
  repeat' split at hx
  all_goals first
    | (cases hx; done)
    | exact hm hx
    | (simp only [Option.some.injEq, Prod.mk.injEq] at hx
       obtain ⟨rfl, rfl⟩ := hx
       first
         | exact Grow.refl _ _
         | exact Grow.on (grow_kill h _ _) (grow_push _ rfl))

theorem roundEnd_grow {l : Nat} {r : ALoop} {h h' : AHeap} {e : AExit} {v : Value} (hl : h.get l = some (.loop r)) (hx : roundEnd l r h e = (v, h')) : Grow h.n h h' := by
  cases e <;> (
    simp only [roundEnd, Prod.mk.injEq] at hx
    obtain ⟨rfl, rfl⟩ := hx
    exact grow_set h hl rfl _)

theorem roundA_grow {ih : Ex} (hi : ExGrow ih) {l : Nat} {r : ALoop} {args : List Value} {h h' : AHeap} {v : Value} (hx : roundA ih l r args h = some (v, h')) : Grow h.n h h' := by
  unfold roundA at hx
  split at hx
  · rename_i fr1 h1 hex1
    split at hx
    · rename_i r1 hl1
      have hst : r1.state = .ready := by
        cases hs : r1.state <;> first | rfl | (rw [hs] at hx; cases hx)
      rw [hst] at hx
      dsimp only [cond_true] at hx
      split at hx
      · rename_i e fr2 h2 hex2
        split at hx
        · rename_i r2 _ hl2
          have g1 := hi.1 _ _ _ _ _ _ hex1
          have g2 := grow_set h1 (o := .loop { r1 with state := .busy }) hl1 rfl h1.n
          have g3 := hi.1 _ _ _ _ _ _ hex2
          have g4 : Grow h2.n h2 h' := by
            simp only [Option.some.injEq] at hx
            exact roundEnd_grow hl2 hx
          exact ((g1.on g2).on g3).on g4
        · cases hx
      · cases hx
    · cases hx
  · cases hx

theorem callV_grow {ih : Ex} (hi : ExGrow ih) {f : Value} {args : List Value} {h h' : AHeap} {v : Value} (hx : callV ih f args h = some (v, h')) : Grow h.n h h' := by
  unfold callV at hx
  split at hx
  · exact hi.2 _ _ _ _ _ hx
  · split at hx
    · simp only [Bool.cond_eq_ite] at hx
      split at hx
      · exact roundA_grow hi hx
      · cases hx
    · cases hx
  · cases hx

theorem aop_grow {P : Program} {ih : Ex} (hi : ExGrow ih) {t : Trie Value} {h h' : AHeap} {op : AOp} {v : Value} (hx : aop P ih t h op = some (v, h')) : Grow h.n h h' := by
  cases op with
  | store n a x =>
    simp only [aop, Bool.cond_eq_ite] at hx
    repeat' split at hx
    all_goals first
      | (cases hx; done)
      | (simp only [Option.map_eq_some_iff, Prod.mk.injEq] at hx; obtain ⟨h1, hs, _, rfl⟩ := hx; exact storeA_grow hs)
  | append c s x => exact appendA_grow hx
  | copy c d s =>
    simp only [aop, Bool.cond_eq_ite] at hx
    repeat' split at hx
    all_goals first
      | (cases hx; done)
      | (cases hx; exact Grow.refl _ _)
      | (simp only [Option.map_eq_some_iff, Prod.mk.injEq] at hx; obtain ⟨h1, hs, _, rfl⟩ := hx; exact storeA_grow hs)
  | call f args => exact callV_grow hi hx
  | update m k v0 =>
    simp only [aop] at hx
    repeat' split at hx
    all_goals first
      | (cases hx; done)
      | (simp only [Option.some.injEq, Prod.mk.injEq] at hx
         obtain ⟨rfl, rfl⟩ := hx
         exact grow_set h (by assumption) rfl _)
  | delete m k =>
    simp only [aop] at hx
    repeat' split at hx
    all_goals first
      | (cases hx; done)
      | (simp only [Option.some.injEq, Prod.mk.injEq] at hx
         obtain ⟨rfl, rfl⟩ := hx
         exact grow_set h (by assumption) rfl _)
  | clear m =>
    simp only [aop] at hx
    repeat' split at hx
    all_goals first
      | (cases hx; done)
      | (simp only [Option.some.injEq, Prod.mk.injEq] at hx
         obtain ⟨rfl, rfl⟩ := hx
         exact grow_set h (by assumption) rfl _)
  | _ =>
    simp only [aop, Bool.cond_eq_ite, mk] at hx
    repeat' split at hx
    all_goals first
      | (cases hx; done)
      | (cases hx; exact Grow.refl _ _)
      | (cases hx; exact grow_push h rfl)
      | (simp only [Option.map_eq_some_iff, Prod.mk.injEq] at hx
         obtain ⟨_, _, _, rfl⟩ := hx
         first
           | exact Grow.refl _ _
           | exact grow_push h rfl)

end Go.Am
