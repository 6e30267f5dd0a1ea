/- How blocks follow each other: what the program's functions come to in the abstract machine. -/
import Derived.Test.YtbhdfhiecgebnaaDoorGreatWalk
namespace Go.Proofs.YtbhdfhiecgebnaaDoor
open Go.Am
set_option linter.unusedVariables false
set_option linter.unusedSimpArgs false
set_option maxHeartbeats 4000000

/-- The blocks that an end names. -/
def nextL (x : LEnd) : List Int := if x.kind = 1 then [x.to] else if x.kind = 2 then (if x.to = x.els then [x.to] else [x.to, x.els]) else []

/-- A slice that lies in memory made since. -/
def Fresh (h : AHeap) (v : Value) : Prop := ∀ a n c, v = .slice (some a) n c → h.n ≤ a.block
theorem Fresh.since {h h' : AHeap} {v : Value} (f : Fresh h' v) (n : h.n ≤ h'.n) : Fresh h v := fun a k c e => Nat.le_trans n (f a k c e)
theorem fresh_own {h0 h : AHeap} {v : Value} {l : List Int} (o : OwnI h0 h v l) : Fresh h0 v := by
  obtain ⟨g, a, _, rfl, _⟩ := o
  intro a n c e; cases e; assumption

noncomputable def body41_0 : ACode := (.seq (.seq (.region [⟨some 29, none, (.mov (.tmp 5))⟩, ⟨some 30, none, (.mov (.tmp 4))⟩, ⟨some 31, none, (.len (.tmp 30))⟩, ⟨some 32, none, (.bin .lss (.tmp 29) (.tmp 31))⟩]) (.cond (.tmp 32) .skip (.exit 2))) (.seq (.block 3 (.seq (.regionC [(⟨some 35, none, (.mov (.tmp 4))⟩, []), (⟨some 36, none, (.mov (.tmp 5))⟩, []), (⟨some 37, none, (.idx 1 (.tmp 35) (.tmp 36))⟩, []), (⟨some 38, none, (.load false 1 (.tmp 37))⟩, []), (⟨some 39, none, (.mov (.tmp 4))⟩, []), (⟨some 40, none, (.mov (.tmp 5))⟩, []), (⟨some 41, none, (.bin .sub (.tmp 40) (.const (.int .i64 1)))⟩, []), (⟨some 42, none, (.idx 1 (.tmp 39) (.tmp 41))⟩, []), (⟨some 43, none, (.load false 1 (.tmp 42))⟩, []), (⟨some 44, none, (.bin .neq (.tmp 38) (.tmp 43))⟩, [])]) (.cond (.tmp 44) (.seq (.region [⟨some 45, none, (.mov (.tmp 0))⟩, ⟨some 46, none, (.mov (.tmp 3))⟩, ⟨some 47, none, (.mov (.tmp 4))⟩, ⟨some 48, none, (.mov (.tmp 5))⟩, ⟨some 49, none, (.idx 1 (.tmp 47) (.tmp 48))⟩, ⟨some 50, none, (.load false 1 (.tmp 49))⟩, ⟨some 51, none, (.idx 1 (.tmp 45) (.tmp 46))⟩, ⟨none, none, (.store 1 (.tmp 51) (.tmp 50))⟩]) (.region [⟨some 52, none, (.mov (.tmp 3))⟩, ⟨some 53, none, (.bin .add (.tmp 52) (.const (.int .i64 1)))⟩, ⟨some 3, none, (.mov (.tmp 53))⟩])) .skip))) (.region [⟨some 33, none, (.mov (.tmp 5))⟩, ⟨some 34, none, (.bin .add (.tmp 33) (.const (.int .i64 1)))⟩, ⟨some 5, none, (.mov (.tmp 34))⟩])))
noncomputable def body41_1 : ACode := (.seq (.seq (.region [⟨some 10, none, (.mov (.tmp 3))⟩, ⟨some 11, none, (.mov (.tmp 0))⟩, ⟨some 12, none, (.len (.tmp 11))⟩, ⟨some 13, none, (.bin .lss (.tmp 10) (.tmp 12))⟩]) (.cond (.tmp 13) .skip (.exit 0))) (.seq (.block 1 (.seq (.regionC [(⟨some 16, none, (.mov (.tmp 0))⟩, []), (⟨some 17, none, (.mov (.tmp 3))⟩, []), (⟨some 18, none, (.idx 1 (.tmp 16) (.tmp 17))⟩, []), (⟨some 19, none, (.load false 1 (.tmp 18))⟩, []), (⟨some 20, none, (.mov (.tmp 0))⟩, []), (⟨some 21, none, (.mov (.tmp 3))⟩, []), (⟨some 22, none, (.bin .sub (.tmp 21) (.const (.int .i64 1)))⟩, []), (⟨some 23, none, (.idx 1 (.tmp 20) (.tmp 22))⟩, []), (⟨some 24, none, (.load false 1 (.tmp 23))⟩, []), (⟨some 25, none, (.bin .eql (.tmp 19) (.tmp 24))⟩, [])]) (.cond (.tmp 25) (.seq (.region [⟨some 26, none, (.mov (.tmp 0))⟩, ⟨some 27, none, (.mov (.tmp 3))⟩, ⟨some 28, none, (.slice 1 (.tmp 26) (some (.tmp 27)) none none)⟩, ⟨some 4, none, (.mov (.tmp 28))⟩]) (.seq (.seq (.region [⟨some 5, none, (.mov (.const (.int .i64 1)))⟩]) (.block 2 (.loop body41_0))) (.seq (.region [⟨some 54, none, (.mov (.tmp 0))⟩, ⟨some 55, none, (.mov (.tmp 3))⟩, ⟨some 56, none, (.slice 1 (.tmp 54) (some (.tmp 55)) none none)⟩, ⟨none, none, (.clearS 1 [(.int .i64 0)] (.tmp 56))⟩]) (.seq (.region [⟨some 57, none, (.mov (.tmp 0))⟩, ⟨some 58, none, (.mov (.tmp 3))⟩, ⟨some 59, none, (.slice 1 (.tmp 57) none (some (.tmp 58)) none)⟩, ⟨some 2, none, (.mov (.tmp 59))⟩]) .ret)))) .skip))) (.region [⟨some 14, none, (.mov (.tmp 3))⟩, ⟨some 15, none, (.bin .add (.tmp 14) (.const (.int .i64 1)))⟩, ⟨some 3, none, (.mov (.tmp 15))⟩])))
noncomputable def body41 : ACode := (.seq (.region [⟨some 2, none, (.mov (.const (.slice none 0 0)))⟩]) (.seq (.seq (.region [⟨some 6, none, (.mov (.tmp 0))⟩, ⟨some 7, none, (.len (.tmp 6))⟩, ⟨some 8, none, (.bin .lss (.tmp 7) (.const (.int .i64 2)))⟩]) (.cond (.tmp 8) (.seq (.region [⟨some 9, none, (.mov (.tmp 0))⟩, ⟨some 2, none, (.mov (.tmp 9))⟩]) .ret) .skip)) (.seq (.seq (.region [⟨some 3, none, (.mov (.const (.int .i64 1)))⟩]) (.block 0 (.loop body41_1))) (.seq (.region [⟨some 60, none, (.mov (.tmp 0))⟩, ⟨some 2, none, (.mov (.tmp 60))⟩]) .ret))))
set_option maxRecDepth 100000 in
theorem tab41 : tb.code 41 = some ⟨61, [(2, none)], body41⟩ := by kernel_rfl
theorem compact_ok (h0 h : AHeap) (v : Value) (a b : Int) (e0 : Ext h0 h) (o : OwnI h0 h v [a, b]) :
    WC Tryd.prog tb 41 [v] h fun r h' => SlI h' r (if a = b then [a] else [a, b]) ∧ Fresh h0 r ∧ Ext h0 h' := by
  have s : SlI h v [a, b] := o.sl
  have fr := fresh_own o
  refine WC.of (nostub 41) tab41 ?_; simp only [mkTm, Nat.zero_add, Nat.reduceAdd]
  refine go ?_
  refine WX.br (fun hb => ?_) (fun hb => ?_) <;> simp only [DB] at hb
  · exact absurd hb (by simp)
  refine go ?_
  refine WX.loopA [10, 11, 12, 13, 16, 17, 18, 19, 20, 21, 22, 23, 24, 25, 26, 27, 28, 4, 5, 29, 30, 31, 32, 35, 36, 37, 38, 39, 40, 41, 42, 43, 44, 45, 46, 47, 48, 49, 50, 51, 52, 53, 3, 33, 34, 5, 54, 55, 56, 57, 58, 59, 2, 14, 15, 3] (by kernel_rfl) (fun i => 2 - i) (fun i t h1 => h = h1 ∧ tmGet t 3 = I i ∧ (i = 1 ∨ i = 2 ∧ a ≠ b)) 1 ?_ ?_
  · exact ⟨rfl, sl_, .inl rfl⟩
  rintro i t _ hsame ⟨rfl, s3, hi⟩
  have hlen : ([a, b] : List Int).length = 2 := rfl
  refine go ?_
  refine WX.br (fun hc => ?_) (fun hc => ?_) <;> simp only [DB] at hc
  · have hi1 : i = 1 := by rw [hlen] at hc; omega
    subst hi1
    refine go ?_
    refine WX.br (fun hd => ?_) (fun hd => ?_) <;> simp only [DB] at hd
    · have hab : a = b := by simpa [List.getD] using hd.symm
      subst hab
      obtain ⟨g, g1, g2, rfl, g3⟩ := o
      refine go ?_
      refine WO.slLo (i := 1) (v := .slice (some ⟨g, 0, none⟩) [a, a].length 1) (r := .slice (some ⟨g, 1, none⟩) 1 1) (by rfl) ?_
      have s4 : SlI h (.slice (some ⟨g, 1, none⟩) 1 1) [a] := ⟨rfl, .inr ⟨g, 1, _, rfl, rowOf_get g3, by rfl, g2⟩⟩
      refine go ?_
      refine WX.loopA [29, 30, 31, 32, 35, 36, 37, 38, 39, 40, 41, 42, 43, 44, 45, 46, 47, 48, 49, 50, 51, 52, 53, 3, 33, 34, 5] (by kernel_rfl) (fun i => 1) (fun (i : Unit) t h1 => h = h1 ∧ tmGet t 5 = I 1 ∧ tmGet t 3 = I ((1 : Nat) : Int)) () ?_ ?_
      · exact ⟨rfl, sl_, sl_⟩
      rintro _ t2 _ hsame2 ⟨rfl, s5, s3b⟩
      have hlen1 : ([a] : List Int).length = 1 := rfl
      refine go ?_
      refine WO.slLo (i := 1) (v := .slice (some ⟨g, 0, none⟩) [a, a].length 1) (r := .slice (some ⟨g, 1, none⟩) 1 1) (by rfl) ?_
      have hcl : clearSA 1 [I 0] (.slice (some ⟨g, 1, none⟩) 1 1) h = some (.tuple #[], h.set g (.row [I a, I 0] true 0)) := by
        show ((storeA h ⟨g, 1, none⟩ [I 0]).map (Value.tuple #[], ·)) = _
        have : storeA h ⟨g, 1, none⟩ [I 0] = some (h.set g (.row [I a, I 0] true 0)) := by
          unfold storeA; rw [g3]; rfl
        rw [this]; rfl
      refine WO.clS hcl ?_
      have e1 : Ext h0 (h.set g (.row [I a, I 0] true 0)) := e0.set g1 g2 _
      refine go ?_
      refine WO.slHi (i := 1) (v := .slice (some ⟨g, 0, none⟩) [a, a].length 1) (r := .slice (some ⟨g, 0, none⟩) 1 1) (by rfl) ?_
      refine go ?_
      refine rt ?_
      refine ⟨?_, (fun a k c e => by cases e; exact g1), e1⟩
      rw [if_pos rfl]
      exact ⟨rfl, .inr ⟨g, 0, [I a, I 0], rfl, by unfold rowOf; rw [get_set, if_pos rfl], by rfl, g2⟩⟩
    · have hab : a ≠ b := fun e => hd (by simp [List.getD, e])
      refine go ?_
      exact loopK_normal 2 (by omega) ⟨rfl, sl_, .inr ⟨rfl, hab⟩⟩
  · refine go ?_
    refine rt ?_
    have : a ≠ b := by rcases hi with rfl | ⟨_, h⟩; · exact absurd hc (by simp)
                       · exact h
    exact ⟨by rw [if_neg this]; exact s, fr, e0⟩

noncomputable def body28 : ACode := (.seq (.region [⟨some 1, none, (.box (.tmp 0))⟩, ⟨some 2, none, (.mov (.const (.slice none 0 0)))⟩]) (.seq (.seq (.region [⟨some 3, none, (.fld 0 (.tmp 1))⟩, ⟨some 4, none, (.load false 1 (.tmp 3))⟩]) (.block 0 (.seq (.region [⟨some 6, none, (.bin .eql (.tmp 4) (.const (.int .u8 1)))⟩, ⟨some 5, none, (.mov (.tmp 6))⟩]) (.cond (.tmp 5) (.seq (.region [⟨some 7, none, (.fld 2 (.tmp 1))⟩, ⟨some 8, none, (.load false 1 (.tmp 7))⟩, ⟨some 9, none, (.buildSlice 1 1 [(.int .i64 0)] [(0, 1, (.tmp 8))])⟩, ⟨some 2, none, (.mov (.tmp 9))⟩]) .ret) (.seq (.region [⟨some 11, none, (.bin .eql (.tmp 4) (.const (.int .u8 2)))⟩, ⟨some 10, none, (.mov (.tmp 11))⟩]) (.cond (.tmp 10) (.seq (.region [⟨some 12, none, (.fld 2 (.tmp 1))⟩, ⟨some 13, none, (.load false 1 (.tmp 12))⟩, ⟨some 14, none, (.fld 3 (.tmp 1))⟩, ⟨some 15, none, (.load false 1 (.tmp 14))⟩, ⟨some 16, none, (.buildSlice 2 1 [(.int .i64 0)] [(0, 1, (.tmp 13)), (1, 1, (.tmp 15))])⟩, ⟨some 17, none, (.call (.func 41) [(.tmp 16)])⟩, ⟨some 2, none, (.mov (.tmp 17))⟩]) .ret) .skip)))))) (.seq (.region [⟨some 2, none, (.mov (.const (.slice none 0 0)))⟩]) .ret)))
set_option maxRecDepth 100000 in
theorem tab28 : tb.code 28 = some ⟨18, [(2, none)], body28⟩ := by kernel_rfl
theorem next_ok (h : AHeap) (x : LEnd) :
    WC Tryd.prog tb 28 [.agg #[.int .u8 x.kind, I x.a, I x.to, I x.els]] h fun r h' => SlI h' r (nextL x) ∧ Fresh h r ∧ Ext h h' := by
  refine WC.of (nostub 28) tab28 ?_; simp only [mkTm, Nat.zero_add, Nat.reduceAdd]
  refine go ?_
  refine WO.bx ?_
  intro p h1 e1 o1
  refine go ?_
  refine WX.br (fun hb => ?_) (fun hb => ?_) <;> simp only [DB] at hb <;> refine go ?_
  · refine WO.bl [x.to] ?_
    intro v h2 e2 o2
    refine go ?_
    refine rt ?_
    refine ⟨?_, (fresh_own o2).since e1.n, e1.trans e2⟩
    rw [nextL, if_pos hb]; exact o2.sl
  refine WX.br (fun hc => ?_) (fun hc => ?_) <;> simp only [DB] at hc <;> refine go ?_
  · refine WO.bl [x.to, x.els] ?_
    intro v h2 e2 o2
    refine go ?_
    refine WO.con (compact_ok h1 h2 v x.to x.els e2 o2) ?_
    rintro r h3 ⟨s3, f3, e3⟩
    refine go ?_
    refine rt ?_
    refine ⟨?_, f3.since e1.n, e1.trans e3⟩
    rw [nextL, if_neg hb, if_pos hc]; exact s3
  · refine rt ?_
    refine ⟨?_, (fun a k c e => by cases e), e1⟩
    rw [nextL, if_neg hb, if_neg hc]; exact SlI.nil _

/-- What is asked for: a function's blocks, or the error. -/
def blocksL (T : List LType) (F : List LFn) (f b : Int) : List LBlk × Int :=
  if (regsL T F f).2 ≠ 0 then ([], (regsL T F f).2) else if b < 0 ∨ ((F.getD f.toNat default).blocks.length : Int) ≤ b then ([], 2) else ((F.getD f.toNat default).blocks, 0)
theorem regs_in {T : List LType} {F : List LFn} {f : Int} (h : (regsL T F f).2 = 0) : 0 ≤ f ∧ f < (F.length : Int) ∧ progL T F = 0 := by
  have hb2 : (askedL T F f).2 = 0 := by
    unfold regsL at h
    split at h
    · rename_i hn; exact absurd h hn
    · rename_i hn; omega
  unfold askedL at hb2
  split at hb2
  · rename_i hp; exact absurd hb2 hp
  · rename_i hp
    split at hb2
    · rename_i hc; unfold belowL at hc; simp at hc; exact ⟨hc.1, hc.2, by omega⟩
    · cases hb2

noncomputable def body27 : ACode := (.seq (.region [⟨some 3, none, (.box (.tmp 0))⟩, ⟨some 6, none, (.mov (.const (.slice none 0 0)))⟩, ⟨some 7, none, (.mov (.const (.int .i64 0)))⟩]) (.seq (.seq (.region [⟨some 11, none, (.load true 2 (.tmp 3))⟩, ⟨some 12, none, (.mov (.tmp 1))⟩, ⟨some 13, none, (.call (.func 40) [(.tmp 11), (.tmp 12)])⟩, ⟨some 10, none, (.mov (.tmp 13))⟩, ⟨some 14, none, (.extract (.tmp 10) 0)⟩, ⟨some 15, none, (.extract (.tmp 10) 1)⟩, ⟨some 8, none, (.mov (.tmp 14))⟩, ⟨some 9, none, (.mov (.tmp 15))⟩]) (.seq (.region [⟨some 16, none, (.mov (.tmp 9))⟩, ⟨some 17, none, (.bin .neq (.tmp 16) (.const (.int .i64 0)))⟩]) (.cond (.tmp 17) (.seq (.region [⟨some 18, none, (.mov (.tmp 9))⟩, ⟨some 6, none, (.mov (.const (.slice none 0 0)))⟩, ⟨some 7, none, (.mov (.tmp 18))⟩]) .ret) .skip))) (.seq (.seq (.region [⟨some 19, none, (.mov (.tmp 2))⟩, ⟨some 20, none, (.bin .lss (.tmp 19) (.const (.int .i64 0)))⟩, ⟨some 21, none, (.mov (.tmp 20))⟩, ⟨some 22, some (21, false), (.mov (.tmp 2))⟩, ⟨some 23, some (21, false), (.fld 1 (.tmp 3))⟩, ⟨some 24, some (21, false), (.load false 1 (.tmp 23))⟩, ⟨some 25, some (21, false), (.mov (.tmp 1))⟩, ⟨some 26, some (21, false), (.idx 2 (.tmp 24) (.tmp 25))⟩, ⟨some 27, some (21, false), (.fld 1 (.tmp 26))⟩, ⟨some 28, some (21, false), (.load false 1 (.tmp 27))⟩, ⟨some 29, some (21, false), (.len (.tmp 28))⟩, ⟨some 30, some (21, false), (.bin .geq (.tmp 22) (.tmp 29))⟩, ⟨some 31, none, (.pick (.tmp 21) (.const (.bool true)) (.tmp 30))⟩]) (.cond (.tmp 31) (.seq (.region [⟨some 6, none, (.mov (.const (.slice none 0 0)))⟩, ⟨some 7, none, (.mov (.const (.int .i64 2)))⟩]) .ret) .skip)) (.seq (.region [⟨some 32, none, (.fld 1 (.tmp 3))⟩, ⟨some 33, none, (.load false 1 (.tmp 32))⟩, ⟨some 34, none, (.mov (.tmp 1))⟩, ⟨some 35, none, (.idx 2 (.tmp 33) (.tmp 34))⟩, ⟨some 36, none, (.fld 1 (.tmp 35))⟩, ⟨some 37, none, (.load false 1 (.tmp 36))⟩, ⟨some 6, none, (.mov (.tmp 37))⟩, ⟨some 7, none, (.mov (.const (.int .i64 0)))⟩]) .ret))))
set_option maxRecDepth 100000 in
theorem tab27 : tb.code 27 = some ⟨38, [(6, none), (7, none)], body27⟩ := by kernel_rfl
theorem fasked_ok (h : AHeap) (vt vf : Value) (T : List LType) (F : List LFn) (f b : Int) (tt : Tbl h) (hm : h.mark ≤ h.n) (sm : Small T F) (st : SlT h vt T) (sf : SlF h vf F) :
    WC Tryd.prog tb 27 [.agg #[vt, vf], I f, I b] h fun r h' => (∃ v, r = .tuple #[v, I (blocksL T F f b).2] ∧ SlB h' v (blocksL T F f b).1) ∧ Ext h h' := by
  refine WC.of (nostub 27) tab27 ?_; simp only [mkTm, Nat.zero_add, Nat.reduceAdd]
  refine go ?_
  refine WO.bx ?_
  intro p h1 e1 o1
  refine go ?_
  refine WO.con (regs_ok h1 vt vf T F f (tt.ext e1) (mark_ext e1 hm) sm (st.ext e1) (SlF.ext sf e1)) ?_
  rintro _ h2 ⟨rfl, e2⟩
  have e12 := e1.trans e2
  have o1 := o1.ext e2
  have sf2 := SlF.ext sf e12
  have hF := sm.funcs
  refine go ?_
  refine WX.br (fun hb => ?_) (fun hb => ?_) <;> simp only [DB] at hb <;> refine go ?_
  · refine rt ?_
    rw [show blocksL T F f b = ([], (regsL T F f).2) from by rw [blocksL, if_pos hb]]
    exact ⟨⟨_, rfl, SlR.nil⟩, e12⟩
  have hb0 : (regsL T F f).2 = 0 := by omega
  have hin := regs_in hb0
  obtain ⟨csF, ⟨vb, rfl, sb, hlb⟩, pcF, hsF⟩ := slr_at (i := f.toNat) sf2 (by omega)
  refine WO.sp (fun hc => ?_) (fun hc => ?_) <;> simp only [DB] at hc <;> refine go ?_
  · refine rt ?_
    rw [show blocksL T F f b = ([], 2) from by rw [blocksL, if_neg (by omega), if_pos (.inl hc)]]
    exact ⟨⟨_, rfl, SlR.nil⟩, e12⟩
  refine WX.br (fun hd => ?_) (fun hd => ?_) <;> simp only [DB] at hd <;> refine go ?_ <;> refine rt ?_
  · rw [show blocksL T F f b = ([], 2) from by rw [blocksL, if_neg (by omega), if_pos (.inr hd)]]
    exact ⟨⟨_, rfl, SlR.nil⟩, e12⟩
  · rw [show blocksL T F f b = ((F.getD f.toNat default).blocks, 0) from by rw [blocksL, if_neg (by omega), if_neg (by omega)]]
    exact ⟨⟨_, rfl, sb⟩, e12⟩

noncomputable def body10 : ACode := (.seq (.region [⟨some 3, none, (.box (.tmp 0))⟩, ⟨some 6, none, (.mov (.const (.slice none 0 0)))⟩, ⟨some 7, none, (.mov (.const (.int .i64 0)))⟩]) (.seq (.region [⟨some 11, none, (.load true 2 (.tmp 3))⟩, ⟨some 12, none, (.mov (.tmp 1))⟩, ⟨some 13, none, (.mov (.tmp 2))⟩, ⟨some 14, none, (.call (.func 27) [(.tmp 11), (.tmp 12), (.tmp 13)])⟩, ⟨some 10, none, (.mov (.tmp 14))⟩, ⟨some 15, none, (.extract (.tmp 10) 0)⟩, ⟨some 16, none, (.extract (.tmp 10) 1)⟩, ⟨some 8, none, (.mov (.tmp 15))⟩, ⟨some 9, none, (.mov (.tmp 16))⟩]) (.seq (.seq (.region [⟨some 17, none, (.mov (.tmp 9))⟩, ⟨some 18, none, (.bin .neq (.tmp 17) (.const (.int .i64 0)))⟩]) (.cond (.tmp 18) (.seq (.region [⟨some 19, none, (.mov (.tmp 9))⟩, ⟨some 6, none, (.mov (.const (.slice none 0 0)))⟩, ⟨some 7, none, (.mov (.tmp 19))⟩]) .ret) .skip)) (.seq (.region [⟨some 20, none, (.mov (.tmp 8))⟩, ⟨some 21, none, (.mov (.tmp 2))⟩, ⟨some 22, none, (.idx 5 (.tmp 20) (.tmp 21))⟩, ⟨some 23, none, (.fld 1 (.tmp 22))⟩, ⟨some 24, none, (.load true 4 (.tmp 23))⟩, ⟨some 25, none, (.call (.func 28) [(.tmp 24)])⟩, ⟨some 6, none, (.mov (.tmp 25))⟩, ⟨some 7, none, (.mov (.const (.int .i64 0)))⟩]) .ret))))
set_option maxRecDepth 100000 in
theorem tab10 : tb.code 10 = some ⟨26, [(6, none), (7, none)], body10⟩ := by kernel_rfl
def NextL (T : List LType) (F : List LFn) (f b : Int) : List Int × Int :=
  if (blocksL T F f b).2 ≠ 0 then ([], (blocksL T F f b).2) else (nextL ((blocksL T F f b).1.getD b.toNat default).fin, 0)
theorem blocks_in {T : List LType} {F : List LFn} {f b : Int} (h : (blocksL T F f b).2 = 0) : 0 ≤ b ∧ b < ((blocksL T F f b).1.length : Int) ∧ (blocksL T F f b).1 = (F.getD f.toNat default).blocks ∧ (regsL T F f).2 = 0 := by
  unfold blocksL at h ⊢
  split at h
  · rename_i hn; exact absurd h hn
  · rename_i hn
    rw [if_neg hn]
    split at h
    · cases h
    · rename_i hb
      rw [if_neg hb]
      exact ⟨by omega, by simp only; omega, rfl, by omega⟩
theorem Next_ok (h : AHeap) (vt vf : Value) (T : List LType) (F : List LFn) (f b : Int) (tt : Tbl h) (hm : h.mark ≤ h.n) (sm : Small T F) (st : SlT h vt T) (sf : SlF h vf F) :
    WC Tryd.prog tb 10 [.agg #[vt, vf], I f, I b] h fun r h' => (∃ v, r = .tuple #[v, I (NextL T F f b).2] ∧ SlI h' v (NextL T F f b).1 ∧ Fresh h v) ∧ Ext h h' := by
  refine WC.of (nostub 10) tab10 ?_; simp only [mkTm, Nat.zero_add, Nat.reduceAdd]
  refine go ?_
  refine WO.bx ?_
  intro p h1 e1 o1
  refine go ?_
  refine WO.con (fasked_ok h1 vt vf T F f b (tt.ext e1) (mark_ext e1 hm) sm (st.ext e1) (SlF.ext sf e1)) ?_
  rintro _ h2 ⟨⟨v, rfl, sb⟩, e2⟩
  have e12 := e1.trans e2
  refine go ?_
  refine WX.br (fun hb => ?_) (fun hb => ?_) <;> simp only [DB] at hb <;> refine go ?_
  · refine rt ?_
    rw [show NextL T F f b = ([], (blocksL T F f b).2) from by rw [NextL, if_pos hb]]
    exact ⟨⟨_, rfl, SlI.nil _, (fun a k c e => by cases e)⟩, e12⟩
  have hb0 : (blocksL T F f b).2 = 0 := by omega
  have hin := blocks_in hb0
  obtain ⟨csB, ⟨vi, rfl, si, hli⟩, pcB, hsB⟩ := slr_at (i := b.toNat) sb (by omega)
  refine go ?_
  refine WO.con (next_ok h2 _) ?_
  rintro r h3 ⟨s3, f3, e3⟩
  refine go ?_
  refine rt ?_
  rw [show NextL T F f b = (nextL ((blocksL T F f b).1.getD b.toNat default).fin, 0) from by rw [NextL, if_neg (by omega)]]
  exact ⟨⟨_, rfl, s3, f3.since e12.n⟩, e12.trans e3⟩
end Go.Proofs.YtbhdfhiecgebnaaDoor
