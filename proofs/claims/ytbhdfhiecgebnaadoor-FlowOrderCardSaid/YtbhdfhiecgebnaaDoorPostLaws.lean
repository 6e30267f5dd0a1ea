/- The order in which going through blocks is done with them: plain laws. -/
import Derived.Test.YtbhdfhiecgebnaaDoorFlowBoth
namespace Go.Proofs.YtbhdfhiecgebnaaDoor
open Go.Am
set_option linter.unusedVariables false
set_option linter.unusedSimpArgs false

/-- Each one stands behind those that it goes to, but for those from which it can be come to. -/
def Ord (nx : Int → List Int) (d : List Int) : Prop := ∀ d1 u d2, d = d1 ++ u :: d2 → ∀ v ∈ nx u, v ∈ d1 ∨ Way nx v u
theorem Ord.snoc {nx : Int → List Int} {d : List Int} {b : Int} (h : Ord nx d) (k : ∀ v ∈ nx b, v ∈ d ∨ Way nx v b) : Ord nx (d ++ [b]) := by
  intro d1 u d2 e v hv
  rcases List.eq_nil_or_concat d2 with rfl | ⟨d3, x, rfl⟩
  · have := List.append_inj' (s₁ := d) (t₁ := [b]) (s₂ := d1) (t₂ := [u]) e rfl
    obtain ⟨rfl, e2⟩ := this
    cases e2
    exact k v hv
  · have e' : d ++ [b] = (d1 ++ u :: d3) ++ [x] := by rw [e]; simp
    obtain ⟨e1, e2⟩ := List.append_inj' e' rfl
    exact h d1 u d3 e1 v hv
/-- What going through some leaves. -/
structure Lv (nx : Int → List Int) (s t : DS) : Prop where
  bg : ∀ c, Bg s c → Bg t c
  dn : ∀ c ∈ t.2, Bg t c
  nd : t.2.Nodup
  ord : Ord nx t.2
  open_ : ∀ c, Bg t c → c ∈ t.2 ∨ Bg s c ∧ c ∉ s.2
  old : ∀ c ∈ t.2, c ∈ s.2 ∨ ¬ Bg s c
  keep : ∀ c ∈ s.2, c ∈ t.2
theorem Lv.refl {nx : Int → List Int} {s : DS} (dn : ∀ c ∈ s.2, Bg s c) (nd : s.2.Nodup) (ord : Ord nx s.2) : Lv nx s s :=
  ⟨fun _ h => h, dn, nd, ord, fun c h => by by_cases e : c ∈ s.2 <;> simp [e, h], fun c h => .inl h, fun _ h => h⟩
theorem Lv.trans {nx : Int → List Int} {s t u : DS} (a : Lv nx s t) (b : Lv nx t u) : Lv nx s u where
  bg := fun c h => b.bg c (a.bg c h)
  dn := b.dn
  nd := b.nd
  ord := b.ord
  open_ := fun c h => by
    rcases b.open_ c h with h | ⟨h1, h2⟩
    · exact .inl h
    · rcases a.open_ c h1 with h | h
      · exact absurd h h2
      · exact .inr h
  old := fun c h => by
    rcases b.old c h with h | h
    · exact a.old c h
    · exact .inr fun e => h (a.bg c e)
  keep := fun c h => b.keep c (a.keep c h)

theorem dfs_lv {nx : Int → List Int} {N : Nat} (hin : ∀ b, 0 ≤ b ∧ b < (N : Int) → ∀ c ∈ nx b, 0 ≤ c ∧ c < (N : Int)) : ∀ (n : Nat) (b : Int) (s : DS), unb N s.1 ≤ n → 0 ≤ b ∧ b < (N : Int) →
    (∀ c ∈ s.2, Bg s c) → s.2.Nodup → Ord nx s.2 → (∀ c, Bg s c → c ∈ s.2 ∨ Way nx c b) → Lv nx s (dfsB nx n b s) := by
  intro n
  induction n with
  | zero => intro b s h hb dn nd ord hw; exact Lv.refl dn nd ord
  | succ n ih =>
    intro b s h hb dn nd ord hw
    by_cases hbb : Bg s b
    · rw [dfsB_some hbb]; exact Lv.refl dn nd ord
    · have hnone : s.1.lookup b = none := by
        unfold Bg at hbb; cases hq : s.1.lookup b with
        | none => rfl
        | some w => rw [hq] at hbb; exact absurd rfl hbb
      have hlt := unb_lt (v := (s.1.length : Int)) hnone hb
      have go : ∀ (l : List Int) (t : DS), unb N t.1 ≤ n → (∀ c ∈ l, c ∈ nx b) → (∀ c ∈ t.2, Bg t c) → t.2.Nodup → Ord nx t.2 → (∀ c, Bg t c → c ∈ t.2 ∨ Way nx c b) → Lv nx t (l.foldl (fun (t : DS) (c : Int) => dfsB nx n c t) t) := by
        intro l
        induction l with
        | nil => intro t _ _ dn nd ord _; exact Lv.refl dn nd ord
        | cons x l ihl =>
          intro t ht hl dn nd ord hw
          have hxn := hl x (by simp)
          have hx := ih x t ht (hin b hb x hxn) dn nd ord (fun c hc => (hw c hc).imp id fun w => .step w hxn)
          refine hx.trans (ihl _ (Nat.le_trans (unb_mono fun c hc => hx.bg c hc) ht) (fun c hc => hl c (by simp [hc])) hx.dn hx.nd hx.ord fun c hc => ?_)
          rcases hx.open_ c hc with h | ⟨h1, h2⟩
          · exact .inl h
          · rcases hw c h1 with h | h
            · exact absurd h h2
            · exact .inr h
      have dn0 : ∀ c ∈ s.2, Bg (s.1 ++ [(b, (s.1.length : Int))], s.2) c := fun c hc => bg_app.2 (.inl (dn c hc))
      have hw0 : ∀ c, Bg (s.1 ++ [(b, (s.1.length : Int))], s.2) c → c ∈ s.2 ∨ Way nx c b := fun c hc => by
        rcases bg_app.1 hc with h | rfl
        · exact hw c h
        · exact .inr .here
      have k := go (nx b) (s.1 ++ [(b, (s.1.length : Int))], s.2) (by simp only; omega) (fun c hc => hc) dn0 nd ord hw0
      have k2 := dfsL_thru (nx := nx) (n := n) hin (nx b) (s.1 ++ [(b, (s.1.length : Int))], s.2) (by simp only; omega) (hin b hb)
      have hu : dfsB nx (n + 1) b s = (((nx b).foldl (fun (t : DS) (c : Int) => dfsB nx n c t) (s.1 ++ [(b, (s.1.length : Int))], s.2)).1, ((nx b).foldl (fun (t : DS) (c : Int) => dfsB nx n c t) (s.1 ++ [(b, (s.1.length : Int))], s.2)).2 ++ [b]) := by
        conv => lhs; unfold dfsB
        rw [if_neg (by rw [hnone]; exact Bool.noConfusion)]
      have hk2 : dfsL nx n (nx b) (s.1 ++ [(b, (s.1.length : Int))], s.2) = (nx b).foldl (fun (t : DS) (c : Int) => dfsB nx n c t) (s.1 ++ [(b, (s.1.length : Int))], s.2) := rfl
      rw [hk2] at k2
      rw [hu]
      generalize (nx b).foldl (fun (t : DS) (c : Int) => dfsB nx n c t) (s.1 ++ [(b, (s.1.length : Int))], s.2) = t at k k2 ⊢
      have hbs : b ∉ s.2 := fun e => hbb (dn b e)
      have hb0 : Bg (s.1 ++ [(b, (s.1.length : Int))], s.2) b := bg_app.2 (.inr rfl)
      have hbt : b ∉ t.2 := fun e => by
        rcases k.old b e with h | h
        · exact hbs h
        · exact h hb0
      have opn : ∀ c, Bg t c → c ∈ t.2 ∨ c = b ∨ Bg s c ∧ c ∉ s.2 := fun c hc => by
        rcases k.open_ c hc with h | ⟨h1, h2⟩
        · exact .inl h
        · rcases bg_app.1 h1 with h | h
          · exact .inr (.inr ⟨h, h2⟩)
          · exact .inr (.inl h)
      refine ⟨fun c h => k.bg c (bg_app.2 (.inl h)), fun c hc => ?_, ?_, k.ord.snoc fun v hv => ?_, fun c hc => ?_, fun c hc => ?_, fun c hc => ?_⟩
      · simp only [List.mem_append, List.mem_singleton] at hc
        rcases hc with h | rfl
        · exact k.dn c h
        · exact k.bg _ hb0
      · simp only
        rw [List.nodup_append]
        exact ⟨k.nd, by simp, fun a ha c hc => by rw [List.mem_singleton] at hc; subst hc; exact fun e => hbt (e ▸ ha)⟩
      · rcases opn v (k2.all v hv) with h | rfl | ⟨h1, h2⟩
        · exact .inl h
        · exact .inr .here
        · rcases hw v h1 with h | h
          · exact absurd h h2
          · exact .inr h
      · simp only [List.mem_append, List.mem_singleton]
        rcases opn c hc with h | h | h
        · exact .inl (.inl h)
        · exact .inl (.inr h)
        · exact .inr h
      · simp only [List.mem_append, List.mem_singleton] at hc
        rcases hc with h | rfl
        · rcases k.old c h with h | h
          · exact .inl h
          · exact .inr fun e => h (bg_app.2 (.inl e))
        · exact .inr hbb
      · simp only [List.mem_append]; exact .inl (k.keep c hc)
/-- What going through all from one on yields. -/
theorem post_ord {nx : Int → List Int} {N : Nat} (hin : ∀ b, 0 ≤ b ∧ b < (N : Int) → ∀ c ∈ nx b, 0 ≤ c ∧ c < (N : Int)) {a : Int} (ha : 0 ≤ a ∧ a < (N : Int)) :
    (dfsL nx N [a] ([], [])).2.Nodup ∧ Ord nx (dfsL nx N [a] ([], [])).2 ∧ ∃ d, (dfsL nx N [a] ([], [])).2 = d ++ [a] := by
  have e : dfsL nx N [a] ([], []) = dfsB nx N a ([], []) := rfl
  have no : ∀ d, ¬ Bg (([], []) : DS) d := fun d h => by unfold Bg at h; exact Bool.noConfusion h
  have k := dfs_lv (nx := nx) hin N a ([], []) (unb_le _ _) ha (fun c h => by cases h) .nil (fun d1 u d2 e => by cases d1 <;> cases e) (fun c h => absurd h (no c))
  rw [e]
  refine ⟨k.nd, k.ord, ?_⟩
  obtain ⟨n, rfl⟩ : ∃ n, N = n + 1 := ⟨N - 1, by omega⟩
  unfold dfsB
  rw [if_neg (by simp)]
  exact ⟨_, rfl⟩
theorem sortL_srt (l : List Int) (hn : l.Nodup) : ∀ i, i + 1 < (sortL l).length → (sortL l).getD i 0 < (sortL l).getD (i + 1) 0 := by
  intro i hi
  have hp : (sortL l).Pairwise (fun a b => decide (a ≤ b) = true) := List.pairwise_mergeSort (fun a b c h1 h2 => by simp only [decide_eq_true_eq] at *; omega) (fun a b => by simp only [Bool.or_eq_true, decide_eq_true_eq]; omega) l
  have hd : (sortL l).Nodup := (List.mergeSort_perm l _).nodup_iff.2 hn
  have h1 := List.pairwise_iff_getElem.1 hp i (i + 1) (by omega) hi (by omega)
  have h2 : (sortL l)[i] ≠ (sortL l)[i + 1] := fun e => by
    have := (List.getElem_inj hd).1 e; omega
  simp only [decide_eq_true_eq] at h1
  simp only [List.getD_eq_getElem?_getD, List.getElem?_eq_getElem hi, List.getElem?_eq_getElem (show i < (sortL l).length by omega), Option.getD_some]
  omega
/-- The stage's law. -/
theorem order_law {T : List LType} {F : List LFn} {f : Int} (h : (blocksL T F f 0).2 = 0) :
    (OrderL T F f).1.length = (ReachL T F f).1.length ∧ (OrderL T F f).1.length ≤ 16 ∧ (∃ l, (OrderL T F f).1 = 0 :: l) ∧ (∀ c, c ∈ (ReachL T F f).1 → c ∈ (OrderL T F f).1) ∧
    (∀ n, n + 1 < (ReachL T F f).1.length → (ReachL T F f).1.getD n 0 < (ReachL T F f).1.getD (n + 1) 0) ∧ (∀ c ∈ (OrderL T F f).1, 0 ≤ c ∧ c < ((blocksL T F f 0).1.length : Int)) ∧
    (∀ i k, i < (OrderL T F f).1.length → k < (OrderL T F f).1.length → (OrderL T F f).1.getD k 0 ∈ nxL (blocksL T F f 0).1 ((OrderL T F f).1.getD i 0) → ¬ Way (nxL (blocksL T F f 0).1) ((OrderL T F f).1.getD k 0) ((OrderL T F f).1.getD i 0) → i < k) := by
  obtain ⟨_, hpos, _, _⟩ := blocks_in h
  obtain ⟨hlen, hin⟩ := blocks_nx h
  have hr0 : ∀ c ∈ ([0] : List Int), 0 ≤ c ∧ c < ((blocksL T F f 0).1.length : Int) := fun c hc => by
    rw [List.mem_singleton] at hc; subst hc; exact ⟨Int.le_refl _, hpos⟩
  obtain ⟨nd, ord, d, hd⟩ := post_ord hin (hr0 0 (by simp))
  have hl := dfsL_len hin [0] hr0
  have eO : (OrderL T F f).1 = (postL T F f).reverse := by unfold OrderL; rw [if_neg (by rw [h]; exact fun e => e rfl)]
  have eR : (ReachL T F f).1 = sortL (postL T F f) := by unfold ReachL; rw [if_neg (by rw [h]; exact fun e => e rfl)]
  have eP : postL T F f = (dfsL (nxL (blocksL T F f 0).1) (blocksL T F f 0).1.length [0] ([], [])).2 := rfl
  have hmem : ∀ c, c ∈ postL T F f → 0 ≤ c ∧ c < ((blocksL T F f 0).1.length : Int) := fun c hc => by
    rw [eP, dfs_mem hin hr0] at hc
    obtain ⟨a, ha, w⟩ := hc
    have ha' := hr0 a ha
    clear ha
    induction w with
    | here => exact ha'
    | step _ hd ih => exact hin _ ih _ hd
  rw [← eP] at nd ord hd hl
  rw [eO, eR]
  generalize postL T F f = l at *
  refine ⟨by rw [List.length_reverse, sortL_len], by rw [List.length_reverse]; omega, ⟨d.reverse, by rw [hd]; simp⟩, fun c hc => by rw [List.mem_reverse]; exact mem_sortL.1 hc, sortL_srt l nd, fun c hc => hmem c (List.mem_reverse.1 hc), fun i k hi hk he hw => ?_⟩
  rw [List.length_reverse] at hi hk
  have ei : l.reverse.getD i 0 = l.getD (l.length - 1 - i) 0 := by
    rw [List.getD_eq_getElem?_getD, List.getElem?_reverse hi, List.getD_eq_getElem?_getD]
  have ek : l.reverse.getD k 0 = l.getD (l.length - 1 - k) 0 := by
    rw [List.getD_eq_getElem?_getD, List.getElem?_reverse hk, List.getD_eq_getElem?_getD]
  rw [ei, ek] at he hw
  have hi2 : l.length - 1 - i < l.length := by omega
  have hk2 : l.length - 1 - k < l.length := by omega
  have hsplit : l = l.take (l.length - 1 - i) ++ l.getD (l.length - 1 - i) 0 :: l.drop (l.length - 1 - i + 1) := by
    conv => lhs; rw [← List.take_append_drop (l.length - 1 - i) l, List.drop_eq_getElem_cons hi2]
    simp [List.getD, List.getElem?_eq_getElem hi2]
  rcases ord _ _ _ hsplit _ he with hm | hm
  · obtain ⟨j, hj, e⟩ := List.mem_iff_getElem.1 hm
    rw [List.length_take] at hj
    rw [List.getElem_take] at e
    have e2 : l.getD (l.length - 1 - k) 0 = l[l.length - 1 - k] := by simp [List.getD, List.getElem?_eq_getElem hk2]
    rw [e2] at e
    have := (List.getElem_inj nd).1 e
    omega
  · exact absurd hm hw
end Go.Proofs.YtbhdfhiecgebnaaDoor
