/-
  The abstract machine: regions that draw their order (12): sound; and with that all runs.
-/
import Derived.Test.YtdhpgfhidldmgaaAmDraw11
namespace Go.Am
open Go.RowKit

section
variable {P : Program} {ih : Ex}

theorem draw_sound (hmix : P.follows .mixedOrders = true) (hgr : ExGrow ih) (hex : ExecSound P ih) (hcall : CallSound P ih) : DrawSound P ih := by
  intro nt id ops as l hc hd B σ h w fr fr' a b h' hr hF hx
  unfold cDraw at hd
  simp only [Bool.cond_eq_ite] at hd
  split at hd
  case isFalse => cases hd
  case isTrue hok =>
  simp only [Option.some.injEq, ACode.regionC.injEq] at hd
  subst hd
  rw [Bool.and_eq_true] at hok
  obtain ⟨hed, hpairs⟩ := hok
  obtain ⟨c1, c2⟩ := cOpers_get hc
  simp only [Array.length_toList] at c1
  unfold regionA at hx
  cases hcx : aopersC P ih (unsOf (befs ops.toList []) [] 0 as) 0 h.n [] [] [] fr { h with n := h.n + ((unsOf (befs ops.toList []) [] 0 as).filter fun x => Nat.beq (kindA x.1.op) 3).length } with
  | none => simp [hcx] at hx
  | some q =>
  obtain ⟨fr1, h1, ws⟩ := q
  simp only [hcx, Option.some.injEq, Prod.mk.injEq] at hx
  obtain ⟨rfl, rfl⟩ := hx
  obtain ⟨FR, H, G, f0, f1, f2, f3, f4, tr, _, _, _, _⟩ := trace hcx
  obtain ⟨u1, u2⟩ := uns_get (b := befs ops.toList []) (as := as) (before := []) (j := 0)
  have hnone : ∀ g, h.n ≤ g → h.get g = none := fun g hg => by
    cases hq : h.get g with
    | none => rfl
    | some o => obtain ⟨pl, z, _⟩ := hr.live _ _ hq; have := (hr.lt _ _ z).1; omega
  have d : Dr P ih nt ops as (unsOf (befs ops.toList []) [] 0 as) FR H G := by
    refine ⟨c1, u1, fun i o ao ho ha => c2 i o ao (by simpa using ho) ha, fun k ao ha => ?_, fun i j ai aj hij hai haj => ?_, tr, hgr, by rw [f1, f2]; exact Nat.le_refl _, fun g hg => ?_⟩
    · obtain ⟨un, a1, _, a3⟩ := u2 k ao ha
      exact ⟨un, a1, fun k2 ao2 h1 h2 h3 h4 => by have := a3 k2 ao2 h1 h2 (by simpa using h3) h4; simpa using this⟩
    · exact pair_spec (pairs_get hpairs i j _ _ hij (zip_range_get c1 hai) (zip_range_get c1 haj))
    · rw [f1]
      exact hnone g (by rw [← f2]; exact hg)
  have hH0 : ∀ g, (H 0).get g = h.get g := fun g => by rw [f1]; rfl
  have hrel0 : HRel P B σ (H 0) w := by
    have hn : h.n ≤ (H 0).n := by rw [f1]; exact Nat.le_add_right _ _
    refine ⟨hr.globals, fun g pl hg => ⟨Nat.lt_of_lt_of_le (hr.lt g pl hg).1 hn, (hr.lt g pl hg).2⟩, fun g o hg => hr.live g o (by rw [← hH0]; exact hg),
      fun g o g' o' pl pl' a1 a2 => hr.apart g o g' o' pl pl' (by rw [← hH0]; exact a1) (by rw [← hH0]; exact a2), hr.le⟩
  have hev0 : Evo P B σ h w σ (H 0) { w with drawn := w.drawn + 1 } := by
    refine ⟨.refl _, hrel0.drew _, rfl, rfl, rfl, Nat.le_refl _, fun _ _ _ => rfl, fun b' ⟨g, o, pl, a1, a2⟩ => .inr ⟨g, o, pl, by rw [← hH0]; exact a1, a2⟩, by rw [f1]; exact Nat.le_add_right _ _, fun _ _ => rfl⟩
  have hfr0 : (⟨fr.tm, (FR 0).dfs, (FR 0).round⟩ : AFr) = fr := by rw [f0]
  have hS0 : ∀ j, ¬ (Array.replicate ops.size false).getD j false = true := fun j => by
    rw [Array.getD_eq_getD_getElem?, Array.getElem?_replicate]
    split <;> simp
  have iv0 : Inv P B nt ops as FR H G σ h w b (fun j => (Array.replicate ops.size false).getD j false = true) 0 fr.tm (H 0) σ { w with drawn := w.drawn + 1 } a := by
    refine ⟨Nat.zero_le _, fun s m hm k1 k2 => ?_, fun j ao hj => by omega, fun j ao _ _ _ hj => hS0 j hj, rfl, fun g => .inr ⟨fun j ob hp => hS0 j hp.1, rfl⟩, fun j ao hja hk _ => ?_, ?_, hev0⟩
    · have := d.slot (s := s) (i := 0) (j := m) (by omega) hm fun j ao _ h2 hja hdj => hS0 j (k1 j ao h2 hja hdj)
      rw [this, f0]
    · have := (d.below hja hk).1
      rw [f2] at this
      cases hq : σ (G j) with
      | none => rfl
      | some pl => have := (hr.lt _ _ hq).1; omega
    · rw [hfr0]; exact hF
  obtain ⟨p, tS, HS, σ', w', a', iv, st⟩ := run_all hex hcall d (by rw [f2]; exact Nat.le_refl _) hed ops.size (w.tape w.drawn (.order b.fn id)) (Array.replicate ops.size false) (by simp)
    (by have := List.length_filter_le (fun i => !(Array.replicate ops.size false).getD i true) (List.range ops.size); simpa [left] using this) (fun j o hj => absurd hj (hS0 j)) iv0
  have hlen : (unsOf (befs ops.toList []) [] 0 as).length = ops.size := by rw [u1, c1]
  rw [hlen] at f3 f4
  subst f3 f4
  -- no loud from p on: what is pending is all that is left
  have hquiet : ∀ (m : Nat) (am : AOper), p ≤ m → m < ops.size → as[m]? = some am → kindA am.op ≠ 2 := fun m am a1 a2 a3 a4 => iv.loud2 m am a1 a3 a4 a2
  have hget : ∀ g, HS.get g = (H ops.size).get g := fun g => by
    have hw := d.walk (S := fun j => j < ops.size) (p := p) (g := g) iv.pn (Nat.le_refl _) (fun m am a1 a2 hm => ⟨fun hk2 => absurd hk2 (hquiet m am a1 a2 hm), fun _ hSm _ _ => hSm a2⟩)
    rcases hw with ⟨j, ob', hj, q1, q2⟩ | ⟨q1, q2⟩
    · rcases iv.pend g with ⟨j', ob2, r1, r2⟩ | ⟨r1, _⟩
      · obtain ⟨_, e2⟩ := d.pd_fun q1 r1
        rw [r2, ← e2, q2]
      · exact absurd q1 (r1 j ob')
    · rcases iv.pend g with ⟨j', ob2, r1, r2⟩ | ⟨_, r2⟩
      · exact absurd r1 (q1 j' ob2 r1.1)
      · rw [r2, q2]
  have hn : HS.n = (H ops.size).n := iv.hn.trans (d.n_eq iv.pn (Nat.le_refl _) hquiet).symm
  refine ⟨σ', w', a', ?_, ?_, ?_, fun k cs => ?_⟩
  · exact iv.evo.trans (Evo.same (h2 := { H ops.size with mark := h.mark, wr := ((ws.map (·.2)).filter fun g => !Nat.ble h.mark g) ++ h.wr }) iv.evo.rel (fun g o hg => by rw [hget]; exact hg) hn.symm)
  · refine ⟨iv.rel.size, fun k => ?_, ?_, ?_⟩
    · have := iv.slots k ops.size (Nat.le_refl _) (fun j ao hj _ _ => hj) (fun j ao hj hja _ hjs => by omega)
      rw [← this]
      exact iv.rel.tm k
    · rw [d.dfs iv.pn (Nat.le_refl _) hquiet]
      exact iv.rel.dfs
    · rw [d.round (Nat.le_refl _)]
      exact iv.rel.round
  · rw [d.round (Nat.le_refl _), f0]
  · refine Steps.trans (.one st_region_draw) (.trans ?_ (.one (st_region_end (ops := ops))))
    have := st k cs
    unfold Region.schedule
    rw [hmix]
    simp only [Bool.true_or, if_true]
    exact this

theorem sound (hmix : P.follows .mixedOrders = true) {tab : FuncId → Option AFunc} (htab : ∀ f a, tab f = some a → cFunc P f = some a) (n : Nat) : ExecSound P (aex P tab n) ∧ CallSound P (aex P tab n) := by
  induction n with
  | zero => exact ⟨(fun nt c ac _ fr h e fr' h' hx => by cases hx), (fun f args h v h' hx => by cases hx)⟩
  | succ n ih => exact ⟨execA_sound ih.1 ih.2 (draw_sound hmix (aex_grow n) ih.1 ih.2), callA_sound ih.1 ih.2 htab⟩

end
end Go.Am
