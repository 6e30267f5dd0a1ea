/- Functions of programs: what their check comes to in the abstract machine. -/
import Derived.Test.YtbhdfhiecgebnaaDoorShapeRecs
import Derived.Test.YtbhdfhiecgebnaaDoorAmU
namespace Go.Proofs.YtbhdfhiecgebnaaDoor
open Go.Am
set_option linter.unusedVariables false
set_option linter.unusedSimpArgs false
set_option maxHeartbeats 4000000

abbrev szV (s : LSz) : List Value := [I s.types, I s.funcs, I s.regs, I s.blocks]
noncomputable def body90 : ACode := (.seq (.region [⟨some 2, none, (.box (.tmp 0))⟩, ⟨some 3, none, (.mov (.const (.bool false)))⟩]) (.seq (.region [⟨some 4, none, (.load true 7 (.tmp 2))⟩, ⟨some 5, none, (.load true 4 (.tmp 1))⟩, ⟨some 6, none, (.call (.func 91) [(.tmp 4), (.tmp 5)])⟩, ⟨some 7, none, (.un .not (.tmp 6))⟩, ⟨some 3, none, (.mov (.tmp 7))⟩]) .ret))
set_option maxRecDepth 100000 in
theorem tab90 : tb.code 90 = some ⟨8, [(3, none)], body90⟩ := by kernel_rfl
theorem fn1_ok (h h0 : AHeap) (p : Value) (x : LIns) (s : LSz) (cs : List Value) (T : Tbl h) (hR : RIns h cs x) (o : OwnC h0 h p (szV s)) :
    WC Tryd.prog tb 90 [.agg cs.toArray, p] h fun r h' => r = .bool (!insL x s) ∧ Ext h h' := by
  obtain ⟨va, vf, rfl, sa, sf, hla, hlf, ho⟩ := hR
  refine WC.of (nostub 90) tab90 ?_; simp only [mkTm, Nat.zero_add, Nat.reduceAdd]
  refine go ?_
  refine WO.bx ?_
  intro p2 h1 e1 o1
  have o := o.ext e1
  refine go ?_
  refine WO.con (ins_ok h1 x va vf s (T.ext e1) (sa.ext e1) (sf.ext e1) (by omega) (by omega) ho) ?_
  rintro _ h2 ⟨rfl, e2⟩
  refine go ?_
  refine rt ?_
  exact ⟨rfl, e1.trans e2⟩

noncomputable def body93 : ACode := (.seq (.region [⟨some 3, none, (.box (.tmp 0))⟩, ⟨some 4, none, (.mov (.const (.bool false)))⟩]) (.seq (.region [⟨some 5, none, (.fld 0 (.tmp 3))⟩, ⟨some 6, none, (.load false 1 (.tmp 5))⟩, ⟨some 7, none, (.load false 1 (.tmp 1))⟩, ⟨some 8, none, (.call (.func 94) [(.tmp 6), (.tmp 7)])⟩, ⟨some 9, none, (.mov (.tmp 8))⟩, ⟨some 10, some (9, false), (.fld 1 (.tmp 3))⟩, ⟨some 11, some (9, false), (.load true 4 (.tmp 10))⟩, ⟨some 12, some (9, false), (.load true 4 (.tmp 2))⟩, ⟨some 13, some (9, false), (.call (.func 95) [(.tmp 11), (.tmp 12)])⟩, ⟨some 14, some (9, false), (.un .not (.tmp 13))⟩, ⟨some 15, none, (.pick (.tmp 9) (.const (.bool true)) (.tmp 14))⟩, ⟨some 4, none, (.mov (.tmp 15))⟩]) .ret))
set_option maxRecDepth 100000 in
theorem tab93 : tb.code 93 = some ⟨16, [(4, none)], body93⟩ := by kernel_rfl
theorem fn2_ok (h h0 h00 : AHeap) (p1 p2 : Value) (b : LBlk) (s : LSz) (cs : List Value) (T : Tbl h) (hR : RBlk h cs b) (o1 : OwnC h0 h p1 [.func (.func 90) #[] #[p2]]) (o2 : OwnC h00 h p2 (szV s)) :
    WC Tryd.prog tb 93 [.agg cs.toArray, p1, p2] h fun r h' => r = .bool (blkL b s) ∧ Ext h h' := by
  obtain ⟨vi, rfl, si, hl⟩ := hR
  refine WC.of (nostub 93) tab93 ?_; simp only [mkTm, Nat.zero_add, Nat.reduceAdd]
  refine go ?_
  refine WO.bx ?_
  intro p3 h1 e1 o3
  have o1 := o1.ext e1
  have o2 := o2.ext e1
  have T1 := T.ext e1
  refine go ?_
  refine WO.con (conf_ins h1 vi _ b.ins (fun x => !insL x s) (SlN.ext si e1) (by omega) ?_) ?_
  · intro x hx h2 e2 cs hcs
    exact WV.func (fn1_ok h2 h00 p2 x s cs (T1.ext e2) hcs (o2.ext e2))
  rintro _ h2 ⟨rfl, e2⟩
  have o3 := o3.ext e2
  have o2 := o2.ext e2
  refine go ?_
  refine WO.sp (fun hb => ?_) (fun hb => ?_) <;> refine go ?_
  · refine rt ?_
    exact ⟨by simp only [blkL, hb, Bool.true_or]; rfl, e1.trans e2⟩
  · refine WO.con (end_ok h2 b.fin s) ?_
    rintro _ h3 ⟨rfl, e3⟩
    refine go ?_
    refine rt ?_
    exact ⟨by simp only [blkL, hb, Bool.false_or]; rfl, (e1.trans e2).trans e3⟩

theorem manyL_pos (l : List LBlk) : 0 ≤ manyL l := by
  unfold manyL
  induction l with
  | nil => simp
  | cons b l ih => simp only [List.map_cons, List.sum_cons]; omega

noncomputable def body79 : ACode := (.seq (.region [⟨some 2, none, (.box (.tmp 0))⟩, ⟨some 3, none, (.box (.tmp 1))⟩, ⟨some 4, none, (.mov (.const (.bool false)))⟩]) (.seq (.seq (.region [⟨some 7, none, (.fld 0 (.tmp 3))⟩, ⟨some 8, none, (.load false 1 (.tmp 7))⟩, ⟨some 9, none, (.fld 0 (.tmp 2))⟩, ⟨some 10, none, (.load false 1 (.tmp 9))⟩, ⟨some 11, none, (.len (.tmp 10))⟩, ⟨some 12, none, (.call (.func 61) [(.tmp 8), (.tmp 11)])⟩, ⟨some 13, none, (.un .not (.tmp 12))⟩, ⟨some 14, none, (.mov (.tmp 13))⟩, ⟨some 15, some (14, false), (.fld 0 (.tmp 2))⟩, ⟨some 16, some (14, false), (.load false 1 (.tmp 15))⟩, ⟨some 17, some (14, false), (.fld 0 (.tmp 3))⟩, ⟨some 18, some (14, false), (.load false 1 (.tmp 17))⟩, ⟨some 19, some (14, false), (.idx 4 (.tmp 16) (.tmp 18))⟩, ⟨some 20, some (14, false), (.fld 0 (.tmp 19))⟩, ⟨some 21, some (14, false), (.load false 1 (.tmp 20))⟩, ⟨some 22, some (14, false), (.bin .neq (.tmp 21) (.const (.int .u8 3)))⟩, ⟨some 23, none, (.pick (.tmp 14) (.const (.bool true)) (.tmp 22))⟩, ⟨some 24, none, (.mov (.tmp 23))⟩, ⟨some 25, some (24, false), (.fld 1 (.tmp 3))⟩, ⟨some 26, some (24, false), (.load false 1 (.tmp 25))⟩, ⟨some 27, some (24, false), (.len (.tmp 26))⟩, ⟨some 28, some (24, false), (.bin .sub (.tmp 27) (.const (.int .i64 1)))⟩, ⟨some 29, some (24, false), (.call (.func 61) [(.tmp 28), (.const (.int .i64 16))])⟩, ⟨some 30, some (24, false), (.un .not (.tmp 29))⟩, ⟨some 31, none, (.pick (.tmp 24) (.const (.bool true)) (.tmp 30))⟩, ⟨some 32, none, (.mov (.tmp 31))⟩, ⟨some 33, some (32, false), (.load true 2 (.tmp 3))⟩, ⟨some 34, some (32, false), (.call (.func 54) [(.tmp 33)])⟩, ⟨some 35, some (32, false), (.bin .gtr (.tmp 34) (.const (.int .i64 128)))⟩, ⟨some 36, none, (.pick (.tmp 32) (.const (.bool true)) (.tmp 35))⟩]) (.cond (.tmp 36) (.seq (.region [⟨some 4, none, (.mov (.const (.bool false)))⟩]) .ret) .skip)) (.seq (.regionC [(⟨some 37, none, (.fld 0 (.tmp 2))⟩, []), (⟨some 38, none, (.load false 1 (.tmp 37))⟩, []), (⟨some 39, none, (.len (.tmp 38))⟩, []), (⟨some 40, none, (.fld 1 (.tmp 2))⟩, []), (⟨some 41, none, (.load false 1 (.tmp 40))⟩, []), (⟨some 42, none, (.len (.tmp 41))⟩, []), (⟨some 43, none, (.fld 0 (.tmp 2))⟩, []), (⟨some 44, none, (.load false 1 (.tmp 43))⟩, []), (⟨some 45, none, (.fld 0 (.tmp 3))⟩, []), (⟨some 46, none, (.load false 1 (.tmp 45))⟩, []), (⟨some 47, none, (.idx 4 (.tmp 44) (.tmp 46))⟩, []), (⟨some 48, none, (.fld 3 (.tmp 47))⟩, []), (⟨some 49, none, (.load false 1 (.tmp 48))⟩, []), (⟨some 50, none, (.len (.tmp 49))⟩, []), (⟨some 51, none, (.load true 2 (.tmp 3))⟩, []), (⟨some 52, none, (.call (.func 54) [(.tmp 51)])⟩, [1, 4, 7, 9, 12]), (⟨some 53, none, (.bin .add (.tmp 50) (.tmp 52))⟩, []), (⟨some 54, none, (.fld 1 (.tmp 3))⟩, []), (⟨some 55, none, (.load false 1 (.tmp 54))⟩, [15]), (⟨some 56, none, (.len (.tmp 55))⟩, []), (⟨some 57, none, (.build [(.int .i64 0), (.int .i64 0), (.int .i64 0), (.int .i64 0)] [(0, 1, (.tmp 39)), (1, 1, (.tmp 42)), (2, 1, (.tmp 53)), (3, 1, (.tmp 56))])⟩, []), (⟨some 5, none, (.alloc [(.int .i64 0), (.int .i64 0), (.int .i64 0), (.int .i64 0)])⟩, []), (⟨none, none, (.store 4 (.tmp 5) (.tmp 57))⟩, [])]) (.seq (.region [⟨some 58, none, (.mkFunc (.func 90) [] [(.tmp 5)])⟩, ⟨some 6, none, (.alloc [.nilFunc])⟩, ⟨none, none, (.store 1 (.tmp 6) (.tmp 58))⟩]) (.seq (.region [⟨some 59, none, (.fld 1 (.tmp 3))⟩, ⟨some 60, none, (.load false 1 (.tmp 59))⟩, ⟨some 61, none, (.mkFunc (.func 93) [] [(.tmp 6), (.tmp 5)])⟩, ⟨some 62, none, (.call (.func 92) [(.tmp 60), (.tmp 61)])⟩, ⟨some 63, none, (.un .not (.tmp 62))⟩, ⟨some 4, none, (.mov (.tmp 63))⟩]) .ret)))))
set_option maxRecDepth 100000 in
theorem tab79 : tb.code 79 = some ⟨64, [(4, none)], body79⟩ := by kernel_rfl
theorem fn_ok (h : AHeap) (vt vf vb : Value) (T : List LType) (F : List LFn) (f : LFn) (tt : Tbl h) (hm : h.mark ≤ h.n) (st : SlT h vt T) (sf : SlF h vf F) (sb : SlB h vb f.blocks) (hT : T.length ≤ 100) (hp : ∀ x ∈ T, x.parts.length ≤ 100) (hF : (F.length : Int) ≤ 9223372036854775807) (hB : f.blocks.length ≤ 1000) (hI : ∀ b ∈ f.blocks, b.ins.length ≤ 1000) :
    WC Tryd.prog tb 79 [.agg #[vt, vf], .agg #[I f.sig, vb]] h fun r h' => r = .bool (fnL T F.length f) ∧ Ext h h' := by
  refine WC.of (nostub 79) tab79 ?_; simp only [mkTm, Nat.zero_add, Nat.reduceAdd]
  refine go ?_
  refine WO.bx ?_
  intro p2 h1 e1 o1
  refine WO.bx ?_
  intro p3 h2 e2 o2
  have o1 := o1.ext e2
  have e12 := e1.trans e2
  have st2 := st.ext e12
  have sf2 := SlF.ext sf e12
  have sb2 := SlB.ext sb e12
  have tt2 := tt.ext e12
  have hm2 : h2.mark ≤ h2.n := by have := e12.mark; have := e12.n; omega
  have hbad : badL T f = badL T f := rfl
  conv at hbad => rhs; unfold badL
  refine go ?_
  refine WO.con (below_ok h2 f.sig T.length) ?_
  rintro _ _ ⟨rfl, rfl⟩
  refine go ?_
  refine WO.sp (fun hb => ?_) (fun hb => ?_) <;> simp only [DB] at hb <;> refine go ?_
  · refine rt ?_
    refine ⟨?_, e12⟩
    rw [fnL, if_pos (show badL T f = true by rw [hbad, hb]; rfl)]; rfl
  have hsig : 0 ≤ f.sig ∧ f.sig < (T.length : Int) := by
    unfold belowL at hb; simpa using hb
  obtain ⟨csT, ⟨vp, rfl, sp, hsp⟩, pcT, hsT⟩ := slt_at (i := f.sig.toNat) st2 (by omega)
  have hpx : (T.getD f.sig.toNat default).parts.length ≤ 100 := hp _ (getD_memR (by omega))
  refine go ?_
  refine WO.sp (fun hc => ?_) (fun hc => ?_) <;> simp only [DB] at hc <;> refine go ?_
  · refine rt ?_
    refine ⟨?_, e12⟩
    rw [fnL, if_pos (show badL T f = true by rw [hbad, hb, decide_eq_false hc]; rfl)]; rfl
  refine WO.con (below_ok h2 ((f.blocks.length : Int) - 1) 16) ?_
  rintro _ _ ⟨rfl, rfl⟩
  refine go ?_
  refine WO.sp (fun hd => ?_) (fun hd => ?_) <;> simp only [DB] at hd <;> refine go ?_
  · refine rt ?_
    refine ⟨?_, e12⟩
    rw [fnL, if_pos (show badL T f = true by rw [hbad, hb, decide_eq_true hc, hd]; rfl)]; rfl
  refine WO.con (many_ok h2 f.sig vb f.blocks sb2 hB hI) ?_
  rintro _ h3 ⟨rfl, e3⟩
  have e13 := e12.trans e3
  have o1 := o1.ext e3
  have o2 := o2.ext e3
  have st3 := st2.ext e3
  have sf3 := SlF.ext sf2 e3
  have sb3 := SlB.ext sb2 e3
  have tt3 := tt2.ext e3
  have hm3 : h3.mark ≤ h3.n := by have := e3.mark; have := e3.n; omega
  refine go ?_
  refine WX.br (fun he => ?_) (fun he => ?_) <;> simp only [DB] at he <;> refine go ?_
  · refine rt ?_
    refine ⟨?_, e13⟩
    rw [fnL, if_pos (show badL T f = true by rw [hbad, hb, decide_eq_true hc, hd, decide_eq_true he]; rfl)]; rfl
  refine goC ?_
  have hbadF : badL T f = false := by rw [hbad, hb, decide_eq_true hc, hd, decide_eq_false (by omega)]; rfl
  obtain ⟨a', n', k', rfl⟩ := slr_shape st3
  clear hbad hb hd pcT
  refine WX.regionU2 1 rfl rfl ?_
  have e4 := ext_aside 1 h3
  generalize hqq : asideN 1 h3 = h4 at *
  have hn4 : h4.n = h3.n + 1 := by rw [← hqq]; rfl
  have o1r : OwnC h (inC h4) p2 [.slice a' n' k', vf] := by have := o1.ext e4; exact this
  have o2r : OwnC h1 (inC h4) p3 [I f.sig, vb] := by have := o2.ext e4; exact this
  have str : SlT (inC h4) (.slice a' n' k') T := by have := st3.ext e4; exact this
  have sfr : SlF (inC h4) vf F := by have := SlF.ext sf3 e4; exact this
  have sbr : SlB (inC h4) vb f.blocks := by have := SlB.ext sb3 e4; exact this
  obtain ⟨csr, ⟨vpr, rfl, spr, hspr⟩, pcr, hsr⟩ := slt_at (i := f.sig.toNat) str (by omega)
  refine goU ?_
  refine WO.con (many_ok (inC h4) f.sig vb f.blocks sbr hB hI) ?_
  rintro _ h5 ⟨rfl, e5⟩
  refine WO.nil ?_
  refine uK2_e e5 rfl ?_
  have o1s : OwnC h (inC h5) p2 [.slice a' n' k', vf] := by have := o1r.ext e5; exact this
  have o2s : OwnC h1 (inC h5) p3 [I f.sig, vb] := by have := o2r.ext e5; exact this
  have sbs : SlB (inC h5) vb f.blocks := by have := SlB.ext sbr e5; exact this
  have hmp := manyL_pos f.blocks
  refine goU ?_
  refine uK2_own o2 (by omega) ?_
  refine goU ?_
  have hn5 : h3.n < h5.n := by have : h4.n ≤ h5.n := e5.n; omega
  refine WU2.al2 hm3 hn5 ?_
  rw [← hqq] at e5
  have e6 := ext_alst (o := .row [I 0, I 0, I 0, I 0] true 0) (o' := .row [I (T.length : Int), I (F.length : Int), I (((T.getD f.sig.toNat default).parts.length : Int) + manyL f.blocks), I (f.blocks.length : Int)] true 0) (k := 0) e5
  have o5 := own_alst (cs := [I (T.length : Int), I (F.length : Int), I (((T.getD f.sig.toNat default).parts.length : Int) + manyL f.blocks), I (f.blocks.length : Int)]) (o := .row [I 0, I 0, I 0, I 0] true 0) e5
  unfold regQ
  refine (?_ : ∀ h6, Ext h3 h6 → OwnC h3 h6 (.pointer (some ⟨h3.n, 0, none⟩)) (szV (szL T F.length f)) → thenK _ _ _ _ _ _ h6) _ e6 o5
  clear e6 o5
  intro h6 e6 o5
  generalize Value.pointer (some ⟨h3.n, 0, none⟩) = p5 at *
  have o2 := o2.ext e6
  have sb6 := SlB.ext sb3 e6
  have tt6 := tt3.ext e6
  have e16 := e13.trans e6
  refine go ?_
  refine WO.al ?_
  intro p6 h7 e7 o6
  refine WO.stC0 o6 e7 ?_
  intro h8 e8 o6 _
  have o2 := o2.ext e8
  have o5 := o5.ext e8
  have sb8 := SlB.ext sb6 e8
  have tt8 := tt6.ext e8
  refine go ?_
  refine WO.con (conf_blk h8 vb _ f.blocks (fun b => blkL b (szL T F.length f)) sb8 (by omega) ?_) ?_
  · intro b hb h9 e9 cs hcs
    exact WV.func (fn2_ok h9 h6 h3 p6 p5 b (szL T F.length f) cs (tt8.ext e9) hcs (o6.ext e9) (o5.ext e9))
  rintro _ h9 ⟨rfl, e9⟩
  refine go ?_
  refine rt ?_
  exact ⟨by rw [fnL, if_neg (by rw [hbadF]; exact Bool.noConfusion)]; rfl, (e16.trans e8).trans e9⟩
end Go.Proofs.YtbhdfhiecgebnaaDoor
