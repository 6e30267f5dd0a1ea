/-
  The abstract machine: regions that draw their order (2): what is checked of them as they are compiled.
-/
import Derived.Test.YtdhpgfhidldmgaaAmDraw
namespace Go.Am

section
variable {P : Program}

theorem cOpers_get {nt : Nat} {ops : Array Oper} : ∀ {l : List Oper} {as : List AOper}, cOpers P nt ops l = some as → as.length = l.length ∧ ∀ (i : Nat) (o : Oper) (ao : AOper), l[i]? = some o → as[i]? = some ao → cOper P nt ops o = some ao := by
  intro l
  induction l with
  | nil => intro as hc; simp only [cOpers, Option.some.injEq] at hc; subst hc; exact ⟨rfl, fun i o ao h => by simp at h⟩
  | cons x l ih =>
    intro as hc
    simp only [cOpers] at hc
    cases h1 : cOper P nt ops x with
    | none => simp [h1] at hc
    | some a =>
    cases h2 : cOpers P nt ops l with
    | none => simp [h1, h2] at hc
    | some as2 =>
    simp only [h1, h2, Option.some.injEq] at hc
    subst hc
    obtain ⟨e1, e2⟩ := ih h2
    refine ⟨by simp [e1], fun i o ao ho ha => ?_⟩
    cases i with
    | zero => simp at ho ha; subst ho ha; exact h1
    | succ i => exact e2 i o ao (by simpa using ho) (by simpa using ha)

/-- i comes ahead of j in every order. -/
def Bf (b : List Nat) (j i : Nat) : Bool := (b.getD j 0).testBit i

theorem pairs_get {b : List Nat} : ∀ {l : List (Nat × AOper)}, pairsOk b l = true → ∀ (i j : Nat) (x y : Nat × AOper), i < j → l[i]? = some x → l[j]? = some y → pairOk b x y = true := by
  intro l
  induction l with
  | nil => intro _ i j x y _ hx; simp at hx
  | cons z l ih =>
    intro hp i j x y hij hx hy
    simp only [pairsOk, Bool.and_eq_true] at hp
    cases j with
    | zero => omega
    | succ j =>
      have hy' : l[j]? = some y := by simpa using hy
      cases i with
      | zero =>
        simp only [List.getElem?_cons_zero, Option.some.injEq] at hx
        subst hx
        exact List.all_eq_true.1 hp.1 y (List.mem_of_getElem? hy')
      | succ i => exact ih hp.2 i j x y (by omega) (by simpa using hx) hy'

theorem zip_range_get {as : List AOper} {n i : Nat} {ao : AOper} (hn : as.length = n) (ha : as[i]? = some ao) : ((List.range n).zip as)[i]? = some (i, ao) := by
  have hi : i < as.length := (List.getElem?_eq_some_iff.1 ha).1
  rw [List.getElem?_zip_eq_some]
  exact ⟨by rw [List.getElem?_range (by omega)], ha⟩

theorem pair_spec {b : List Nat} {i j : Nat} {ai aj : AOper} (h : pairOk b (i, ai) (j, aj) = true) : Bf b j i = true ∨
    (¬ (kindA aj.op = 2 ∧ 2 ≤ kindA ai.op) ∧ (∀ d, ai.dst = some d → d ∉ namesOf aj ∧ aj.dst ≠ some d) ∧ ∀ d, aj.dst = some d → d ∉ namesOf ai) := by
  simp only [pairOk, Bool.or_eq_true, Bool.and_eq_true] at h
  rcases h with h | ⟨⟨h1, h2⟩, h3⟩
  · exact .inl h
  · refine .inr ⟨fun ⟨k1, k2⟩ => ?_, fun d hd => ?_, fun d hd => ?_⟩
    · rw [k1] at h1
      have : Nat.ble 2 (kindA ai.op) = true := Nat.ble_eq_true_of_le k2
      rw [this] at h1
      cases h1
    · rw [hd] at h2
      simp only [Bool.and_eq_true, Bool.not_eq_true', List.contains_eq_mem, decide_eq_false_iff_not] at h2
      refine ⟨h2.1, fun e => ?_⟩
      rw [e] at h2
      simp at h2
    · rw [hd] at h3
      simpa using h3

theorem uns_get {b : List Nat} : ∀ {as : List AOper} {before : List (Nat × AOp)} {j : Nat}, (unsOf b before j as).length = as.length ∧
    ∀ (k : Nat) (ao : AOper), as[k]? = some ao → ∃ un, (unsOf b before j as)[k]? = some (ao, un) ∧
      (∀ i o, (i, o) ∈ before → Bf b (j + k) i = false → ((kindA o = 1 ∧ kindA ao.op = 2) ∨ (2 ≤ kindA o ∧ kindA ao.op = 1)) → i ∈ un) ∧
      ∀ k2 ao2, k2 < k → as[k2]? = some ao2 → Bf b (j + k) (j + k2) = false → ((kindA ao2.op = 1 ∧ kindA ao.op = 2) ∨ (2 ≤ kindA ao2.op ∧ kindA ao.op = 1)) → (j + k2) ∈ un := by
  intro as
  induction as with
  | nil => intro before j; exact ⟨rfl, fun k ao h => by simp at h⟩
  | cons a as ih =>
    intro before j
    obtain ⟨e1, e2⟩ := ih (before := before ++ [(j, a.op)]) (j := j + 1)
    refine ⟨by simp [unsOf, e1], fun k ao ha => ?_⟩
    cases k with
    | zero =>
      simp only [List.getElem?_cons_zero, Option.some.injEq] at ha
      subst ha
      refine ⟨_, rfl, fun i o hm hb hk => ?_, fun k2 ao2 hk => by omega⟩
      refine List.mem_filterMap.2 ⟨(i, o), hm, ?_⟩
      have hb' : ((b.getD j 0).testBit i) = false := hb
      have hk' : ((Nat.beq (kindA o) 1 && Nat.beq (kindA a.op) 2) || (Nat.ble 2 (kindA o) && Nat.beq (kindA a.op) 1)) = true := by
        rcases hk with ⟨q1, q2⟩ | ⟨q1, q2⟩
        · rw [q1, q2]; rfl
        · rw [q2, Nat.ble_eq_true_of_le q1]; simp
      simp only [hb', hk', Bool.not_false, Bool.and_true, cond_true]
    | succ k =>
      obtain ⟨un, u1, u2, u3⟩ := e2 k ao (by simpa using ha)
      refine ⟨un, by simpa [unsOf] using u1, fun i o hm hb hk => u2 i o (List.mem_append_left _ hm) (by rw [show j + 1 + k = j + (k + 1) by omega]; exact hb) hk, fun k2 ao2 hk2 ha2 hb hk => ?_⟩
      cases k2 with
      | zero =>
        simp only [List.getElem?_cons_zero, Option.some.injEq] at ha2
        subst ha2
        exact u2 j a.op (List.mem_append_right _ (List.mem_singleton.2 rfl)) (by rw [show j + 1 + k = j + (k + 1) by omega]; exact hb) hk
      | succ k2 =>
        have := u3 k2 ao2 (by omega) (by simpa using ha2) (by rw [show j + 1 + k = j + (k + 1) by omega, show j + 1 + k2 = j + (k2 + 1) by omega]; exact hb) hk
        rw [show j + (k2 + 1) = j + 1 + k2 by omega]
        exact this

/-- The bits of one operation. -/
def bits (acc : List Nat) (o : Oper) : Nat := o.after.toList.foldl (fun s e => bif Region.binds .any e then s ||| 2 ^ e.on ||| acc.getD e.on 0 else s) 0

theorem bits_fold (acc : List Nat) (i : Nat) : ∀ (l : List Edge) (s : Nat), (l.foldl (fun s e => bif Region.binds .any e then s ||| 2 ^ e.on ||| acc.getD e.on 0 else s) s).testBit i = true →
    s.testBit i = true ∨ ∃ e ∈ l, Region.binds .any e = true ∧ (i = e.on ∨ (acc.getD e.on 0).testBit i = true) := by
  intro l
  induction l with
  | nil => intro s h; exact .inl h
  | cons e l ih =>
    intro s h
    rw [List.foldl_cons] at h
    rcases ih _ h with h1 | ⟨e', h1, h2⟩
    · cases hb : Region.binds .any e with
      | false => rw [hb] at h1; exact .inl h1
      | true =>
        rw [hb] at h1
        simp only [cond_true, Nat.testBit_or, Bool.or_eq_true, Nat.testBit_two_pow, decide_eq_true_eq] at h1
        rcases h1 with (h1 | h1) | h1
        · exact .inl h1
        · exact .inr ⟨e, List.mem_cons_self .., hb, .inl h1.symm⟩
        · exact .inr ⟨e, List.mem_cons_self .., hb, .inr h1⟩
    · exact .inr ⟨e', List.mem_cons_of_mem _ h1, h2⟩

theorem befs_get : ∀ (l : List Oper) (acc : List Nat), (∃ r, befs l acc = acc ++ r) ∧ ∀ (k : Nat) (o : Oper), l[k]? = some o → (befs l acc).getD (acc.length + k) 0 = bits ((befs l acc).take (acc.length + k)) o := by
  intro l
  induction l with
  | nil => intro acc; exact ⟨⟨[], by simp [befs]⟩, fun k o h => by simp at h⟩
  | cons x l ih =>
    intro acc
    obtain ⟨⟨r, hr⟩, hk⟩ := ih (acc ++ [bits acc x])
    have hb : befs (x :: l) acc = befs l (acc ++ [bits acc x]) := rfl
    refine ⟨⟨bits acc x :: r, by rw [hb, hr]; simp⟩, fun k o ho => ?_⟩
    cases k with
    | zero =>
      simp only [List.getElem?_cons_zero, Option.some.injEq] at ho
      subst ho
      rw [hb, hr]
      simp [List.getD_eq_getElem?_getD]
    | succ k =>
      have := hk k o (by simpa using ho)
      rw [hb, show acc.length + (k + 1) = (acc ++ [bits acc x]).length + k by simp; omega]
      exact this

theorem befs_len : ∀ (l : List Oper) (acc : List Nat), (befs l acc).length = acc.length + l.length := by
  intro l
  induction l with
  | nil => intro acc; rfl
  | cons x l ih => intro acc; rw [show befs (x :: l) acc = befs l (acc ++ [bits acc x]) from rfl, ih]; simp; omega

/-- What comes ahead of an operation in every order is in each set that holds its direct ones and, with each operation, its direct ones. -/
theorem bf_closed {ops : Array Oper} {S : Nat → Prop} (hS : ∀ j o, S j → ops[j]? = some o → ∀ e ∈ o.after.toList, Region.binds .any e = true → S e.on) :
    ∀ (n j : Nat) (o : Oper), j < n → ops[j]? = some o → (∀ e ∈ o.after.toList, Region.binds .any e = true → S e.on) → ∀ i, Bf (befs ops.toList []) j i = true → S i := by
  intro n
  induction n with
  | zero => intro j o h; omega
  | succ n ih =>
    intro j o hj ho hd i hb
    have h1 := (befs_get ops.toList []).2 j o (by simpa using ho)
    simp only [List.length_nil, Nat.zero_add] at h1
    unfold Bf at hb
    rw [h1] at hb
    rcases bits_fold _ i _ 0 hb with h2 | ⟨e, h2, h3, h4⟩
    · simp at h2
    · rcases h4 with rfl | h4
      · exact hd e h2 h3
      · have hlt : e.on < j := by
          rcases Nat.lt_or_ge e.on j with q | q
          · exact q
          · rw [List.getD_eq_getElem?_getD, List.getElem?_take, if_neg (by omega)] at h4
            simp at h4
        rw [List.getD_eq_getElem?_getD, List.getElem?_take, if_pos hlt, ← List.getD_eq_getElem?_getD] at h4
        have hlen : e.on < ops.size := by
          have := (Array.getElem?_eq_some_iff.1 ho).1
          omega
        exact ih e.on ops[e.on] (by omega) (Array.getElem?_eq_getElem hlen) (fun e' he' hb' => hS e.on _ (hd e h2 h3) (Array.getElem?_eq_getElem hlen) e' he' hb') i h4

theorem edges_get {ops : Array Oper} (he : edgesOk ops = true) {j : Nat} {o : Oper} (ho : ops[j]? = some o) {e : Edge} (hm : e ∈ o.after.toList) (hb : Region.binds .any e = true) : e.on < j := by
  unfold edgesOk at he
  rw [List.all_eq_true] at he
  have h1 : (o, j) ∈ ops.toList.zipIdx := by
    rw [List.mem_zipIdx_iff_getElem?]
    simpa using ho
  have := he _ h1
  simp only [List.all_eq_true] at this
  have := this e hm
  rw [hb] at this
  simp at this
  omega

end
end Go.Am
