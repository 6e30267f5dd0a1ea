/- Going through blocks: what the program's walk comes to in the abstract machine. -/
import Derived.Test.YtbhdfhiecgebnaaDoorDfsDef
namespace Go.Am
section
variable {P : Program} {tab : Tab} {t : Trie Value} {h h0 : AHeap} {ds : List Deferred} {rd : Option Nat} {l : List AOper} {Q : AFr → AHeap → Prop} {d : Nat}
/-- An append that is known to make new memory. -/
theorem WO.appendF {x y : Operand} {v w : Value} {xs ys : List Int} (hx : ev t x = v) (hy : ev t y = w) (o : OwnN h0 h v xs) (s : SlI h w ys) (e0 : Ext h0 h) (hne : ys ≠ []) (hr : xs.length + ys.length ≤ 4294967296)
    (k : ∀ h', Ext h0 h' → OwnI h0 h' (.slice (some ⟨h.n, 0, none⟩) (xs ++ ys).length 1) (xs ++ ys) → Upd v h h' → WO P tab l ⟨t.set d (.slice (some ⟨h.n, 0, none⟩) (xs ++ ys).length 1), ds, rd⟩ h' Q) : WO P tab (⟨some d, none, .append 1 x y⟩ :: l) ⟨t, ds, rd⟩ h Q := by
  have hsrc := srcCells_of s
  have hroom : room = 4294967296 := rfl
  obtain ⟨z, zs, rfl⟩ : ∃ z zs, ys = z :: zs := by
    cases ys with
    | nil => exact absurd rfl hne
    | cons z zs => exact ⟨z, zs, rfl⟩
  have hone : oneCells (I z :: zs.map I) = true := one_ints (z :: zs)
  have hlen : (I z :: zs.map I).length / 1 = (z :: zs).length := by simp
  rcases o with ⟨rfl, rfl⟩ | ⟨g, g1, g2, rfl, g3⟩
  · have h1 : Nat.ble (z :: zs).length room = true := Nat.ble_eq_true_of_le (by rw [hroom]; simpa using hr)
    refine WO.op (.slice (some ⟨h.n, 0, none⟩) (z :: zs).length 1) (h.push (.row ((z :: zs).map I) true 0)) rfl ?_ (k _ (e0.push _) ⟨h.n, e0.n, by simp [AHeap.push], rfl, get_push_self _ _⟩ ⟨Nat.le_succ _, fun k hk _ => ?_⟩)
    · simp only [aop, hx, hy, appendA, hsrc, List.map_cons, hone, hlen, h1, Bool.not_true, cond_true, cond_false]
      rfl
    · rw [get_push, if_neg (by omega)]
  · have h1 : Nat.ble (xs.length + (z :: zs).length) room = true := Nat.ble_eq_true_of_le (by rw [hroom]; exact hr)
    have h2 : cut (xs.map I) 0 (xs.length * 1) = some (xs.map I) := by rw [cut_ok (by simp)]; simp [List.take_of_length_le]
    have hn : (h.kill g).n = h.n := rfl
    have h3 : Nat.ble 0 (0 + xs.length * 1) = true := Nat.ble_eq_true_of_le (Nat.zero_le _)
    have hl : xs.length + (z :: zs).length = (xs ++ z :: zs).length := (List.length_append ..).symm
    refine WO.op (.slice (some ⟨h.n, 0, none⟩) (xs ++ z :: zs).length 1) ((h.kill g).push (.row (xs.map I ++ (z :: zs).map I) true (0 - 0))) rfl ?_
      (k _ ((e0.kill g1).push _) ⟨h.n, e0.n, by simp [AHeap.push, AHeap.kill], rfl, ?_⟩ ⟨Nat.le_succ _, fun k hk hv => ?_⟩)
    · rw [← hl]
      simp only [aop, hx, hy, appendA, hsrc, List.map_cons, hone, hlen, h1, g3, h2, h3, Bool.not_true, cond_true, cond_false]
      rfl
    · have := get_push_self (h.kill g) (.row (xs.map I ++ (z :: zs).map I) true (0 - 0))
      rw [hn] at this
      rw [this]; simp
    · rw [get_push, if_neg (by rw [hn]; omega), get_kill, if_neg (fun e => hv _ _ _ rfl e.symm)]
end
end Go.Am
namespace Go.Proofs.YtbhdfhiecgebnaaDoor
open Go.Am
set_option linter.unusedVariables false
set_option linter.unusedSimpArgs false
set_option maxHeartbeats 4000000

/-- A group that is none of the walk's. -/
def NotW (p vm vd : Value) (g : Nat) : Prop := p ≠ .pointer (some ⟨g, 0, none⟩) ∧ vm ≠ .map (some g) ∧ ∀ a n c, vd = .slice (some a) n c → a.block ≠ g
/-- The walk's own memory. -/
structure WS (hB h : AHeap) (p vl vm vd : Value) (s : DS) : Prop where
  own : OwnC hB h p [vl, vm, vd]
  map : OwnM hB h vm s.1
  dn : OwnN hB h vd s.2
  ext : Ext hB h
def Keep (h h' : AHeap) (p vm vd vd' : Value) : Prop := h.n ≤ h'.n ∧ ∀ g, g < h.n → NotW p vm vd g → h'.get g = h.get g ∧ NotW p vm vd' g
theorem Keep.refl (h : AHeap) (p vm vd : Value) : Keep h h p vm vd vd := ⟨Nat.le_refl _, fun _ _ n => ⟨rfl, n⟩⟩
theorem Keep.trans {h h1 h2 : AHeap} {p vm vd vd1 vd2 : Value} (a : Keep h h1 p vm vd vd1) (b : Keep h1 h2 p vm vd1 vd2) : Keep h h2 p vm vd vd2 :=
  ⟨Nat.le_trans a.1 b.1, fun g hg nw => let ⟨x, y⟩ := a.2 g hg nw; let ⟨u, v⟩ := b.2 g (Nat.lt_of_lt_of_le hg a.1) y; ⟨u.trans x, v⟩⟩
theorem Keep.ext {h h' : AHeap} (e : Ext h h') (p vm vd : Value) : Keep h h' p vm vd vd := ⟨e.n, fun g hg n => ⟨e.get g hg, n⟩⟩
/-- A slice that lies elsewhere. -/
def Off (h : AHeap) (p vm vd v : Value) (l : List Int) : Prop := l = [] ∨ ∃ g off, v = .slice (some ⟨g, off, none⟩) l.length 1 ∧ g < h.n ∧ NotW p vm vd g
theorem sl_empty {h h' : AHeap} {v : Value} (s : SlI h v []) : SlI h' v [] := by
  refine ⟨rfl, .inl ⟨rfl, ?_⟩⟩
  rcases s.2 with ⟨_, hv⟩ | ⟨g, off, row, hv, _⟩
  · exact hv
  · exact .inr ⟨_, _, hv⟩
theorem Keep.sl {h h' : AHeap} {p vm vd vd' v : Value} {l : List Int} (k : Keep h h' p vm vd vd') (s : SlI h v l) (o : Off h p vm vd v l) : SlI h' v l ∧ Off h' p vm vd' v l := by
  rcases o with rfl | ⟨g, off, rfl, hg, nw⟩
  · exact ⟨sl_empty s, .inl rfl⟩
  · obtain ⟨e1, e2⟩ := k.2 g hg nw
    refine ⟨⟨s.1, ?_⟩, .inr ⟨g, off, rfl, Nat.lt_of_lt_of_le hg k.1, e2⟩⟩
    rcases s.2 with ⟨h0, hv⟩ | ⟨g', off', row, hv, hr, hc, hl⟩
    · exact .inl ⟨h0, hv⟩
    · cases hv
      exact .inr ⟨g, off, row, rfl, by unfold rowOf at *; rw [e1]; exact hr, hc, Nat.lt_of_lt_of_le hg k.1⟩
theorem off_fresh {hB h h2 : AHeap} {p vl vm vd v : Value} {s : DS} {l : List Int} (w : WS hB h p vl vm vd s) (f : Fresh h v) (sl : SlI h2 v l) : Off h2 p vm vd v l := by
  rcases sl.2 with ⟨h0, hv⟩ | ⟨g, off, row, hv, hr, hc, hl⟩
  · exact .inl (List.length_eq_zero_iff.1 h0)
  · refine .inr ⟨g, off, hv, hl, ?_⟩
    have hg : h.n ≤ g := f _ _ _ hv
    obtain ⟨g1, _, a1, rfl, _⟩ := w.own
    obtain ⟨g2, _, _, _, a2, rfl, _⟩ := w.map
    refine ⟨fun e => by cases e; omega, fun e => by cases e; omega, fun a n c e he => ?_⟩
    rcases w.dn with ⟨rfl, _⟩ | ⟨g3, _, a3, rfl, _⟩
    · cases e
    · cases e; simp only at he; omega
/-- The walk's record and the list are apart. -/
theorem own_ne {h0 h1 h : AHeap} {p v : Value} {a : Option Addr} {n k : Nat} {cs : List Value} {xs : List Int} (o : OwnC h0 h p (.slice a n k :: cs)) (i : OwnN h1 h v xs) : ∀ b m c, v = .slice (some b) m c → p ≠ .pointer (some ⟨b.block, 0, none⟩) := by
  intro b m c hv hp
  obtain ⟨g, _, _, rfl, hg⟩ := o
  rcases i with ⟨rfl, _⟩ | ⟨g2, _, _, rfl, hg2⟩
  · cases hv
  · cases hv; cases hp
    rw [hg] at hg2
    cases xs with
    | nil => cases hg2
    | cons x xs => cases hg2
theorem OwnC.upd {h0 h h' : AHeap} {p v : Value} {a : Option Addr} {n k : Nat} {cs : List Value} {xs : List Int} (o : OwnC h0 h p (.slice a n k :: cs)) (i : OwnN h0 h v xs) (u : Upd v h h') : OwnC h0 h' p (.slice a n k :: cs) := by
  have hne := own_ne o i
  obtain ⟨g, g1, g2, rfl, hg⟩ := o
  exact ⟨g, g1, Nat.lt_of_lt_of_le g2 u.1, rfl, (u.2 g g2 fun b m c hv e => hne b m c hv (by rw [e])).trans hg⟩
theorem OwnC.updM {h0 h h' : AHeap} {p m : Value} {cs : List Value} {es : List (Int × Int)} (o : OwnC h0 h p cs) (i : OwnM h0 h m es) (u : UpdM m h h') : OwnC h0 h' p cs := by
  obtain ⟨g, g1, g2, rfl, hg⟩ := o
  refine ⟨g, g1, Nat.lt_of_lt_of_le g2 u.1, rfl, (u.2 g g2 fun e => ?_).trans hg⟩
  obtain ⟨g3, _, _, _, _, rfl, h3, _⟩ := i
  cases e; rw [hg] at h3; cases h3
theorem OwnM.updC {h0 h h' : AHeap} {p m : Value} {cs : List Value} {es : List (Int × Int)} (i : OwnM h0 h m es) (o : OwnC h0 h p cs) (u : UpdC p h h') : OwnM h0 h' m es := by
  obtain ⟨g3, c, es', g1, g2, rfl, h3, h4⟩ := i
  refine ⟨g3, c, es', g1, Nat.lt_of_lt_of_le g2 u.1, rfl, (u.2 g3 g2 fun e => ?_).trans h3, h4⟩
  obtain ⟨g, _, _, rfl, hg⟩ := o
  cases e; rw [h3] at hg; cases hg
theorem OwnI.updC {h0 h h' : AHeap} {p v : Value} {a : Option Addr} {n k : Nat} {cs : List Value} {xs : List Int} (i : OwnI h0 h v xs) (o : OwnC h0 h p (.slice a n k :: cs)) (u : UpdC p h h') : OwnI h0 h' v xs := by
  have hne := own_ne o (.inr i)
  obtain ⟨g, g1, g2, rfl, hg⟩ := i
  exact ⟨g, g1, Nat.lt_of_lt_of_le g2 u.1, rfl, (u.2 g g2 fun e => hne _ _ _ rfl e).trans hg⟩

def nxL (L : List LBlk) (b : Int) : List Int := nextL (L.getD b.toNat default).fin
theorem dfsB_some {nx : Int → List Int} {n : Nat} {b : Int} {s : DS} (h : (s.1.lookup b).isSome) : dfsB nx n b s = s := by
  cases n with
  | zero => rfl
  | succ n => unfold dfsB; rw [if_pos h]

noncomputable def body45_0 : ACode := (.seq (.region [⟨some 11, none, (.bin .lss (.tmp 10) (.tmp 9))⟩]) (.seq (.cond (.tmp 11) .skip (.exit 0)) (.seq (.block 1 (.seq (.region [⟨some 12, none, (.idx 1 (.tmp 8) (.tmp 10))⟩, ⟨some 13, none, (.load false 1 (.tmp 12))⟩, ⟨some 7, none, (.mov (.tmp 13))⟩]) (.region [⟨some 14, none, (.mov (.tmp 2))⟩, ⟨some 15, none, (.mov (.tmp 0))⟩, ⟨some 16, none, (.mov (.tmp 7))⟩, ⟨some 17, none, (.call (.tmp 14) [(.tmp 15), (.tmp 16)])⟩]))) (.region [⟨some 18, none, (.bin .add (.tmp 10) (.const (.int .i64 1)))⟩, ⟨some 10, none, (.mov (.tmp 18))⟩]))))
noncomputable def body45 : ACode := (.seq (.region [⟨some 8, none, (.mov (.tmp 1))⟩, ⟨some 9, none, (.len (.tmp 8))⟩, ⟨some 10, none, (.mov (.const (.int .i64 0)))⟩]) (.block 0 (.loop body45_0)))
set_option maxRecDepth 100000 in
theorem tab45 : tb.code 45 = some ⟨19, [], body45⟩ := by kernel_rfl
theorem each_ok (hB : AHeap) (L : List LBlk) (vl : Value) (hin : ∀ b, 0 ≤ b ∧ b < (L.length : Int) → ∀ c ∈ nxL L b, 0 ≤ c ∧ c < (L.length : Int)) (n : Nat)
    (IH : ∀ (h : AHeap) (p vm vd : Value) (s : DS) (b : Int), WS hB h p vl vm vd s → 0 ≤ b ∧ b < (L.length : Int) → unb L.length s.1 ≤ n → s.2.length + unb L.length s.1 ≤ L.length →
      WC Tryd.prog tb 46 [p, I b] h fun r h' => ∃ vd', WS hB h' p vl vm vd' (dfsB (nxL L) n b s) ∧ Keep h h' p vm vd vd')
    (h : AHeap) (p vm vd nlv : Value) (s : DS) (l : List Int) (w : WS hB h p vl vm vd s) (sl : SlI h nlv l) (hl : (l.length : Int) ≤ 1000) (o : Off h p vm vd nlv l) (hr : ∀ c ∈ l, 0 ≤ c ∧ c < (L.length : Int)) (hu : unb L.length s.1 ≤ n) (hd : s.2.length + unb L.length s.1 ≤ L.length) :
    WC Tryd.prog tb 45 [p, nlv, .func (.func 46) #[] #[]] h fun r h' => ∃ vd', WS hB h' p vl vm vd' (dfsL (nxL L) n l s) ∧ Keep h h' p vm vd vd' := by
  refine WC.of (nostub 45) tab45 ?_; simp only [mkTm, Nat.zero_add, Nat.reduceAdd]
  refine go ?_
  refine WX.loopA [11, 12, 13, 7, 14, 15, 16, 17, 18, 10] (by kernel_rfl) (fun i => l.length - i) (fun i t h1 => tmGet t 10 = I i ∧ i ≤ l.length ∧ ∃ vd1, WS hB h1 p vl vm vd1 (dfsL (nxL L) n (l.take i) s) ∧ Keep h h1 p vm vd vd1) 0 ?_ ?_
  · exact ⟨sl_, Nat.zero_le _, vd, w, Keep.refl ..⟩
  rintro i t h1 hsame ⟨s10, hi, vd1, w1, k1⟩
  obtain ⟨sl1, o1⟩ := k1.sl sl o
  refine go ?_
  refine WX.br (fun hc => ?_) (fun hc => ?_) <;> simp only [DB] at hc
  · have hi' : i < l.length := by omega
    refine go ?_
    have hm := getD_mem hi'
    have hu1 : unb L.length (dfsL (nxL L) n (l.take i) s).1 ≤ n := Nat.le_trans (unb_mono fun c hc => dfsL_mono _ _ hc) hu
    have hd1 : (dfsL (nxL L) n (l.take i) s).2.length + unb L.length (dfsL (nxL L) n (l.take i) s).1 ≤ L.length := by
      have : ∀ (m : List Int) (s : DS), (∀ c ∈ m, 0 ≤ c ∧ c < (L.length : Int)) → (dfsL (nxL L) n m s).2.length + unb L.length (dfsL (nxL L) n m s).1 ≤ s.2.length + unb L.length s.1 := by
        intro m
        induction m with
        | nil => intro s _; exact Nat.le_refl _
        | cons x m ih => intro s hm; exact Nat.le_trans (ih _ fun c hc => hm c (by simp [hc])) (dfs_bound hin n x s (hm x (by simp)))
      exact Nat.le_trans (this _ _ fun c hc => hr c (List.mem_of_mem_take hc)) hd
    refine WO.conV (WV.func (IH h1 p vm vd1 _ (l.getD i 0) w1 (hr _ hm) hu1 hd1)) ?_
    rintro r h2 ⟨vd2, w2, k2⟩
    refine go ?_
    refine loopK_normal (i + 1) (by omega) ⟨sln, by omega, vd2, ?_, k1.trans k2⟩
    have e : dfsL (nxL L) n (l.take (i + 1)) s = dfsB (nxL L) n (l.getD i 0) (dfsL (nxL L) n (l.take i) s) := by
      unfold dfsL
      rw [List.take_add_one, List.foldl_append]; simp [List.getD, List.getElem?_eq_getElem hi']
    rw [e]; exact w2
  · refine go ?_
    refine rtN ?_
    have : i = l.length := by omega
    subst this
    rw [List.take_length] at w1
    exact ⟨vd1, w1, k1⟩
end Go.Proofs.YtbhdfhiecgebnaaDoor
