/-
  The abstract machine: regions that draw their order (3): heaps with objects that are laid ahead of their time.
-/
import Derived.Test.YtdhpgfhidldmgaaAmDraw2
import Derived.Test.YtdhpgfhidldmgaaAmExec7
namespace Go.Am
open Go.RowKit

section
variable {P : Program} {B : Nat} {σ σ' : Nat → Option Pl} {h h2 : AHeap} {w w' : World}

/-- A heap with less in it. -/
theorem HRel.sub (hr : HRel P B σ h w) (hs : ∀ g o, h2.get g = some o → h.get g = some o) (hn : h2.n = h.n) : HRel P B σ h2 w :=
  ⟨hr.globals, fun g pl hg => by rw [hn]; exact hr.lt g pl hg, fun g o hg => hr.live g o (hs g o hg), fun g o g' o' pl pl' a b => hr.apart g o g' o' pl pl' (hs _ _ a) (hs _ _ b), hr.le⟩

theorem Evo.same (hr : HRel P B σ h w) (hs : ∀ g o, h2.get g = some o → h.get g = some o) (hn : h2.n = h.n) : Evo P B σ h w σ h2 w :=
  ⟨.refl _, hr.sub hs hn, rfl, rfl, rfl, Nat.le_refl _, fun _ _ _ => rfl, fun b ⟨g, o, pl, h1, h3⟩ => .inr ⟨g, o, pl, hs _ _ h1, h3⟩, Nat.le_of_eq hn.symm, fun _ _ => rfl⟩

theorem exists_lay (Q : Nat → Nat → AObj → Prop) (hQ : ∀ j g ob g' ob', Q j g ob → Q j g' ob' → g = g' ∧ ob = ob') (h : AHeap) : ∀ N, ∃ h2 : AHeap, h2.n = h.n ∧
    ∀ g, (∃ j ob, j < N ∧ Q j g ob ∧ h2.get g = some ob) ∨ ((∀ j ob, j < N → ¬ Q j g ob) ∧ h2.get g = h.get g) := by
  intro N
  induction N with
  | zero => exact ⟨h, rfl, fun g => .inr ⟨fun j ob hj => by omega, rfl⟩⟩
  | succ N ih =>
    obtain ⟨h2, e1, e2⟩ := ih
    by_cases hq : ∃ g ob, Q N g ob
    · obtain ⟨g0, ob0, hq⟩ := hq
      refine ⟨h2.lay g0 ob0, e1, fun g => ?_⟩
      by_cases hg : g = g0
      · subst hg
        exact .inl ⟨N, ob0, by omega, hq, by rw [get_lay, if_pos rfl]⟩
      · rcases e2 g with ⟨j, ob, a1, a2, a3⟩ | ⟨a1, a2⟩
        · exact .inl ⟨j, ob, by omega, a2, by rw [get_lay, if_neg hg]; exact a3⟩
        · refine .inr ⟨fun j ob hj hjq => ?_, by rw [get_lay, if_neg hg]; exact a2⟩
          rcases Nat.lt_or_ge j N with q | q
          · exact a1 j ob q hjq
          · have : j = N := by omega
            subst this
            exact hg (hQ _ _ _ _ _ hjq hq).1
    · refine ⟨h2, e1, fun g => ?_⟩
      rcases e2 g with ⟨j, ob, a1, a2, a3⟩ | ⟨a1, a2⟩
      · exact .inl ⟨j, ob, by omega, a2, a3⟩
      · refine .inr ⟨fun j ob hj hjq => ?_, a2⟩
        rcases Nat.lt_or_ge j N with q | q
        · exact a1 j ob q hjq
        · have : j = N := by omega
          subst this
          exact hq ⟨_, _, hjq⟩

theorem Apart.symm' {pl o pl' o'} (h : Apart pl o pl' o') : Apart pl' o' pl o := by
  cases o <;> cases o' <;> first | exact h.elim | exact ⟨fun x => h.1 ⟨x.2, x.1⟩, h.2.2, h.2.1⟩

/-- An operation on a heap, in a world with more of ours in it: what is more stays. -/
theorem frame_evo {HS Hi H1 HS1 : AHeap} (hr : HRel P B σ HS w) (hsub : ∀ g o, Hi.get g = some o → HS.get g = some o) (hn : HS.n = Hi.n) (ev : Evo P B σ Hi w σ' H1 w') (hgr : Grow Hi.n Hi H1) (hn1 : HS1.n = H1.n)
    (hp : ∀ g o, HS1.get g = some o → H1.get g = some o ∨ (HS.get g = some o ∧ ownO o = true ∧ Hi.get g = none)) : Evo P B σ HS w σ' HS1 w' := by
  -- what is more: where it lies, unturned
  have more' : ∀ g o, HS.get g = some o → ownO o = true → Hi.get g = none → ∃ pl, σ g = some pl ∧ σ' g = some pl ∧ ORel P σ' pl o w' ∧ B ≤ pl.b ∧ pl.b < w.heap.size ∧ ¬ Owns σ Hi pl.b := by
    intro g o hg ho hno
    obtain ⟨pl, h1, h3, h4⟩ := hr.live g o hg
    have hnot : ¬ Owns σ Hi pl.b := by
      rintro ⟨g2, o2, pl2, k1, k2, k3, k4⟩
      have hne : g2 ≠ g := fun e => by subst e; rw [hno] at k1; cases k1
      have := hr.apart g2 o2 g o pl2 pl (hsub _ _ k1) hg hne k3 h1 k4
      cases o2 with
      | row c own lo =>
        cases o with
        | row c' own' lo' => exact this.1 ⟨k2, ho⟩
        | _ => exact this.elim
      | _ => exact this.elim
    exact ⟨pl, h1, ev.le _ _ h1, h3.keep ev.le (ev.kept _ (hr.lt _ _ h1).2 hnot), h4 ho, (hr.lt _ _ h1).2, hnot⟩
  have rel : HRel P B σ' HS1 w' := by
    refine ⟨ev.rel.globals, fun g pl hg => by rw [hn1]; exact ev.rel.lt g pl hg, fun g o hg => ?_, ?_, ev.rel.le⟩
    · rcases hp g o hg with h1 | ⟨h1, h3, h4⟩
      · exact ev.rel.live g o h1
      · obtain ⟨pl, _, q2, q3, q4, _⟩ := more' g o h1 h3 h4
        exact ⟨pl, q2, q3, fun _ => q4⟩
    · have cross : ∀ g o g2 o2 pl pl2, H1.get g = some o → HS.get g2 = some o2 → ownO o2 = true → Hi.get g2 = none → g ≠ g2 → σ' g = some pl → σ' g2 = some pl2 → pl.b = pl2.b → Apart pl o pl2 o2 := by
        intro g o g2 o2 pl pl2 a1 a2 a3 a4 hne s1 s2 hb
        obtain ⟨pm, q1, q2, _, _, q5, q6⟩ := more' g2 o2 a2 a3 a4
        rw [s2] at q2; cases q2
        cases hown : ownO o with
        | true =>
          rcases ev.from_ pl.b ⟨g, o, pl, a1, hown, s1, rfl⟩ with k | k
          · rw [hb] at k; omega
          · rw [hb] at k; exact absurd k q6
        | false =>
          have k := hgr.notown g o a1 hown
          obtain ⟨pl3, z1, _⟩ := hr.live g o (hsub _ _ k)
          have := ev.le _ _ z1
          rw [s1] at this; cases this
          exact hr.apart g o g2 o2 pl pl2 (hsub _ _ k) a2 hne z1 q1 hb
      intro g o g2 o2 pl pl2 a1 a2 hne s1 s2 hb
      rcases hp g o a1 with h1 | ⟨h1, h3, h4⟩ <;> rcases hp g2 o2 a2 with k1 | ⟨k1, k3, k4⟩
      · exact ev.rel.apart g o g2 o2 pl pl2 h1 k1 hne s1 s2 hb
      · exact cross g o g2 o2 pl pl2 h1 k1 k3 k4 hne s1 s2 hb
      · exact (cross g2 o2 g o pl2 pl k1 h1 h3 h4 (fun e => hne e.symm) s2 s1 hb.symm).symm'
      · obtain ⟨p1, u1, u2, _⟩ := more' g o h1 h3 h4
        obtain ⟨p2, v1, v2, _⟩ := more' g2 o2 k1 k3 k4
        rw [s1] at u2; cases u2
        rw [s2] at v2; cases v2
        exact hr.apart g o g2 o2 pl pl2 h1 k1 hne u1 v1 hb
  refine ⟨ev.le, rel, ev.os, ev.tape, ev.output, ev.size, fun b hb hno => ev.kept b hb fun ⟨g, o, pl, h1, h3⟩ => hno ⟨g, o, pl, hsub _ _ h1, h3⟩, ?_, ?_⟩
  · rintro b ⟨g, o, pl, h1, h3, h4, h5⟩
    rcases hp g o h1 with k | ⟨k1, k2, k3⟩
    · rcases ev.from_ b ⟨g, o, pl, k, h3, h4, h5⟩ with q | ⟨g2, o2, pl2, q1, q2⟩
      · exact .inl q
      · exact .inr ⟨g2, o2, pl2, hsub _ _ q1, q2⟩
    · obtain ⟨p1, u1, u2, _⟩ := more' g o k1 k2 k3
      rw [h4] at u2; cases u2
      exact .inr ⟨g, o, pl, k1, h3, u1, h5⟩
  · rw [hn1, hn]
    exact ev.old

/-- A new object in a new block, at a group that was set aside. -/
theorem lay_evo {g : Nat} {O : Obj} {o : AObj} {n : Nat} (hr : HRel P B σ h w) (hg : σ g = none) (hlt : g < h.n) (hh : w'.heap = w.heap.push O) (hd : w'.os = w.os ∧ w'.tape = w.tape ∧ w'.output = w.output)
    (ho : ∀ σ', Le σ σ' → ORel P σ' ⟨w.heap.size, 0, n⟩ o w') : HRel P B (more σ g ⟨w.heap.size, 0, n⟩) (h.lay g o) w' ∧ Le σ (more σ g ⟨w.heap.size, 0, n⟩) ∧ w.heap.size ≤ w'.heap.size ∧ (∀ b, b < w.heap.size → w'.heap[b]? = w.heap[b]?) ∧
      ∀ b, Owns (more σ g ⟨w.heap.size, 0, n⟩) (h.lay g o) b → w.heap.size ≤ b ∨ Owns σ h b := by
  have hsz : w'.heap.size = w.heap.size + 1 := by rw [hh]; simp
  have hle : Le σ (more σ g ⟨w.heap.size, 0, n⟩) := fun k p hk => by
    unfold more
    rw [if_neg (fun e => by subst e; rw [hg] at hk; cases hk)]
    exact hk
  have hkeep : ∀ b, b < w.heap.size → w'.heap[b]? = w.heap[b]? := fun b hb => by
    rw [hh, Array.getElem?_push_lt hb, Array.getElem?_eq_getElem hb]
  have hsame : ∀ k pl, more σ g ⟨w.heap.size, 0, n⟩ k = some pl → k = g ∧ pl = ⟨w.heap.size, 0, n⟩ ∨ k ≠ g ∧ σ k = some pl := fun k pl hk => by
    unfold more at hk
    split at hk
    · exact .inl ⟨by assumption, (Option.some.inj hk).symm⟩
    · exact .inr ⟨by assumption, hk⟩
  refine ⟨⟨fun k hk => ?_, fun k pl hk => ?_, fun k o' hk => ?_, ?_, by rw [hsz]; have := hr.le; omega⟩, hle, by omega, hkeep, fun b ⟨k, o', pl, h1, h2, h3, h4⟩ => ?_⟩
  · obtain ⟨pl, h1, h2⟩ := hr.globals k hk
    exact ⟨pl, hle _ _ h1, h2⟩
  · rcases hsame k pl hk with ⟨rfl, rfl⟩ | ⟨_, h1⟩
    · exact ⟨hlt, by simp [hsz]⟩
    · have := hr.lt k pl h1
      exact ⟨this.1, by omega⟩
  · rw [get_lay] at hk
    split at hk
    · rename_i e
      subst e
      cases hk
      exact ⟨_, more_same _ _ _, ho _ hle, fun _ => hr.le⟩
    · obtain ⟨pl, h1, h2, h3⟩ := hr.live k o' hk
      exact ⟨pl, hle _ _ h1, h2.keep hle (hkeep _ (hr.lt _ _ h1).2), h3⟩
  · intro k o1 k' o2 pl pl' h1 h2 hne h3 h4 hb
    rw [get_lay] at h1 h2
    rcases hsame k pl h3 with ⟨e, rfl⟩ | ⟨e, h3'⟩ <;> rcases hsame k' pl' h4 with ⟨e', rfl⟩ | ⟨e', h4'⟩
    · exact absurd (e.trans e'.symm) hne
    · have := (hr.lt _ _ h4').2; simp at hb; omega
    · have := (hr.lt _ _ h3').2; simp at hb; omega
    · rw [if_neg e] at h1
      rw [if_neg e'] at h2
      exact hr.apart k o1 k' o2 pl pl' h1 h2 hne h3' h4' hb
  · rw [get_lay] at h1
    rcases hsame k pl h3 with ⟨e, rfl⟩ | ⟨e, h3'⟩
    · left; rw [← h4]; exact Nat.le_refl _
    · rw [if_neg e] at h1
      exact .inr ⟨k, o', pl, h1, h2, h3', h4⟩

end
end Go.Am
