/- What functions of the program come to in the abstract machine, and plain laws about it; no statement of the seat is proved in this text. -/
import Derived.Test.YtemggiegiejopaaGreatDoorJb
import Derived.Test.YtemggiegiejopaaGreatDoorAmU
import Derived.Test.YtemggiegiejopaaGreatDoorJa
set_option linter.unusedVariables false
set_option linter.unusedSimpArgs false
set_option maxHeartbeats 4000000
set_option maxRecDepth 100000
namespace Go.Proofs.YtemggiegiejopaaGreatDoor
open Go.Am
theorem yY {h h':AHeap} (e:Ext h h') (hm:h.mark≤h.n):h'.mark≤h'.n:=by have:=e.mark;have:=e.n;omega
noncomputable def body83:ACode:=(.seq (oR [oX 2 0,oZ 3]) (.seq (oR [oA 2 4 1,oA 2 5 2,o2 6 84 4 5,oW 7 6,oM 3 7]) .ret))
theorem tab83:tb.code 83=some ⟨8,[(3,none)],body83⟩:=by kernel_rfl
theorem chk1_ok (h h0:AHeap) (p vt vf:Value) (T:List LType) (F:List LFn) (f:LFn) (cs:List Value) (tt:Tbl h) (hm:h.mark≤h.n) (sm:Small T F) (hf:f∈F) (st:SlT h vt T) (sf:SlF h vf F) (hR:RFn h cs f) (o:OwnC h0 h p [vt,vf]):
  WC Tryz.prog tb 83 [.agg cs.toArray,p] h fun r h'=>r= .bool (!fnL T F.length f)∧Ext h h':=by
 obtain⟨vb,rfl,sb,hl⟩:=hR;refine WC.of (zE 83) tab83 ?_;simp only[zK,Nat.zero_add,Nat.reduceAdd];refine go ?_;refine WO.bx ?_;intro p2 h1 e1 o1;have o:=o.ext e1;refine go ?_;refine WO.con (fn_ok h1 vt vf vb T F f (tt.ext e1) (yY e1 hm) (st.ext e1) (SlF.ext sf e1) (SlB.ext sb e1) sm.types sm.parts (by have:=sm.funcs;omega) (sm.blocks f hf) (sm.ins f hf)) ?_;rintro _ h2 ⟨rfl,e2⟩;refine go ?_;refine rt ?_;exact⟨rfl,e1.trans e2⟩
noncomputable def body71:ACode:=(.seq (oR [oX 1 0,oN 2 0]) (.seq (.seq (oR [oF 0 4 1,oL 5 4,o1 6 81 5,oM 3 6]) (.seq (oR [oM 7 3,oC .neq 8 7 0]) (.cond (.tmp 8) (.seq (oR [oM 9 3,oM 2 9]) .ret) .skip))) (.seq (.seq (oR [oF 1 10 1,oL 11 10,oQ 12 11,oC .sub 13 12 1,⟨some 14,none,(.call (.func 51) [(.tmp 13),(.const (.int .i64 8))])⟩,oW 15 14,oM 16 15,oH 16 (oF 1 17 1),oH 16 (oL 18 17),⟨some 19,some (16,false),(.mkFunc (.func 83) [] [(.tmp 1)])⟩,oH 16 (o2 20 82 18 19),oO 21 16 20]) (.cond (.tmp 21) (.seq (oR [oN 2 60]) .ret) .skip)) (.seq (oR [oN 2 0]) .ret))))
theorem tab71:tb.code 71=some ⟨22,[(2,none)],body71⟩:=by kernel_rfl
theorem prog_ok (h:AHeap) (vt vf:Value) (T:List LType) (F:List LFn) (tt:Tbl h) (hm:h.mark≤h.n) (sm:Small T F) (st:SlT h vt T) (sf:SlF h vf F):
  WC Tryz.prog tb 71 [.agg #[vt,vf]] h fun r h'=>r=I (Ze T F)∧Ext h h':=by
 refine WC.of (zE 71) tab71 ?_;simp only[zK,Nat.zero_add,Nat.reduceAdd];refine go ?_;refine WO.bx ?_;intro p h1 e1 o1;have st1:=st.ext e1;refine go ?_;refine WO.con (check_ok h1 vt T st1 sm.types sm.parts) ?_;rintro _ h2 ⟨rfl,e2⟩;have e12:=e1.trans e2;have o1:=o1.ext e2;have st2:=st1.ext e2;have sf2:=SlF.ext sf e12;have tt2:=tt.ext e12;have hF:=sm.funcs;refine go ?_;refine WX.br (fun hb=> ?_) (fun hb=> ?_)<;>simp only[DB]at hb<;>refine go ?_
 ·refine rt ?_;exact⟨by rw[Ze,if_pos hb];rfl,e12⟩
 refine WO.con (yZ h2 ((F.length:Int) - 1) 8) ?_;rintro _ _ ⟨rfl,rfl⟩;refine go ?_;refine WO.sp (fun hc=> ?_) (fun hc=> ?_)<;>simp only[DB]at hc<;>refine go ?_
 ·refine rt ?_;exact⟨by rw[Ze,if_neg (by omega),hc];simp[one],e12⟩
 refine WO.con (conf_fn h2 vf _ F (fun f=> !fnL T F.length f) sf2 (by omega) ?_) ?_
 ·intro f hf h3 e3 cs hcs;exact WV.func (chk1_ok h3 h p vt vf T F f cs (tt2.ext e3) (yY (e12.trans e3) hm) sm hf (st2.ext e3) (SlF.ext sf2 e3) hcs (o1.ext e3))
 rintro _ h3 ⟨rfl,e3⟩;refine go ?_;refine WX.br (fun hd=> ?_) (fun hd=> ?_)<;>refine go ?_<;>refine rt ?_<;>refine⟨?_,e12.trans e3⟩<;>rw[Ze,if_neg (by omega),hc,hd]
 ·simp[one]
 ·simp[one]
theorem zAY {T:List LType} {F:List LFn} (h:Ze T F=0):YI T=0∧1≤F.length∧F.length≤8∧∀ f∈F,fnL T F.length f=true:=by
 unfold Ze at h;split at h
 ·rename_i hc;exact absurd h hc
 ·rename_i hc;split at h
  ·cases h
  ·rename_i hd;simp only[Bool.or_eq_true,not_or,Bool.not_eq_true,Bool.not_eq_false']at hd;have h1:zN ((F.length:Int) - 1) 8=true:=by simpa using hd.1
   unfold zN at h1;simp only[Bool.and_eq_true,decide_eq_true_eq]at h1;refine⟨by omega,by omega,by omega,fun f hf=> ?_⟩;have:=List.any_eq_false.1 hd.2 f hf;simpa using this
theorem zHg {T:List LType} {n:Int} {f:LFn} (h:fnL T n f=true):0≤f.sig∧f.sig<(T.length:Int):=by
 unfold fnL at h;split at h
 ·cases h
 ·rename_i hb;unfold zAT at hb;simp only[Bool.or_eq_true,not_or,Bool.not_eq_true,Bool.not_eq_false']at hb;have h1:zN f.sig T.length=true:=by simpa using hb.1.1.1
  unfold zN at h1;simpa using h1
noncomputable def body50:ACode:=(.seq (oR [oX 2 0,oN 4 0,oN 5 0]) (.seq (.seq (oR [oA 2 7 2,o1 8 71 7,oM 6 8]) (.seq (oR [oM 9 6,oC .neq 10 9 0]) (.cond (.tmp 10) (.seq (oR [oM 11 6,oN 4 0,oM 5 11]) .ret) .skip))) (.seq (.seq (oR [oM 12 1,oF 1 13 2,oL 14 13,oQ 15 14,o2 16 51 12 15,oW 17 16]) (.cond (.tmp 17) (.seq (oR [oN 4 0,oN 5 2]) .ret) .skip)) (.seq (.regionC [oU (oF 0 18 2),oU (oL 19 18),oU (oF 1 20 2),oU (oL 21 20),oU (oM 22 1),oU (oI 2 23 21 22),oU (oF 0 24 23),oU (oL 25 24),oU (oI 4 26 19 25),oU (oF 3 27 26),oU (oL 28 27),oU (oQ 29 28),oU (oM 4 29),oU (oN 5 0)]) .ret))))
theorem tab50:tb.code 50=some ⟨30,[(4,none),(5,none)],body50⟩:=by kernel_rfl
theorem zGn (h:AHeap) (vt vf:Value) (T:List LType) (F:List LFn) (f:Int) (tt:Tbl h) (hm:h.mark≤h.n) (sm:Small T F) (st:SlT h vt T) (sf:SlF h vf F):
  WC Tryz.prog tb 50 [.agg #[vt,vf],I f] h fun r h'=>r= .tuple #[I (zq T F f).1,I (zq T F f).2]∧Ext h h':=by
 refine WC.of (zE 50) tab50 ?_;simp only[zK,Nat.zero_add,Nat.reduceAdd];refine go ?_;refine WO.bx ?_;intro p h1 e1 o1;refine go ?_;refine WO.con (prog_ok h1 vt vf T F (tt.ext e1) (yY e1 hm) sm (st.ext e1) (SlF.ext sf e1)) ?_;rintro _ h2 ⟨rfl,e2⟩;have e12:=e1.trans e2;have o1:=o1.ext e2;have st2:=st.ext e12;have sf2:=SlF.ext sf e12;have hF:=sm.funcs;refine go ?_;refine WX.br (fun hb=> ?_) (fun hb=> ?_)<;>simp only[DB]at hb<;>refine go ?_
 ·refine rt ?_;exact⟨by rw[zq,if_pos hb];rfl,e12⟩
 have hb:Ze T F=0:=by omega
 refine WO.con (yZ h2 f F.length) ?_;rintro _ _ ⟨rfl,rfl⟩;refine go ?_;refine WX.br (fun hc=> ?_) (fun hc=> ?_)<;>simp only[DB]at hc<;>refine go ?_
 ·refine rt ?_;exact⟨by rw[zq,if_neg (by omega),hc,if_neg (by exact Bool.noConfusion)];rfl,e12⟩
 have hf:0≤f∧f<(F.length:Int):=by unfold zN at hc;simpa using hc
 obtain⟨csF,⟨vb,rfl,sb,hlb⟩,pcF,hsF⟩:=zZ (i:=f.toNat) sf2 (by omega);have hsig:=zHg ((zAY hb).2.2.2 _ (zI (l:=F) (i:=f.toNat) (by omega)));obtain⟨csT,⟨vp,rfl,sp,hsp⟩,pcT,hsT⟩:=Zg (i:=(F.getD f.toNat default).sig.toNat) st2 (by omega);refine go ?_;refine rt ?_;exact⟨by rw[zq,if_neg (by omega),hc,if_pos rfl];rfl,e12⟩
noncomputable def body62:ACode:=(.seq (oR [oX 2 0,oN 4 0,oN 5 0]) (.seq (oR [oA 2 9 2,oM 10 1,o2 11 50 9 10,oM 8 11,oE 12 8 0,oE 13 8 1,oM 6 12,oM 7 13]) (.seq (.seq (oR [oM 14 7,oC .neq 15 14 0]) (.cond (.tmp 15) (.seq (oR [oM 16 7,oN 4 0,oM 5 16]) .ret) .skip)) (.seq (oR [oM 17 6,oF 1 18 2,oL 19 18,oM 20 1,oI 2 21 19 20,oA 2 22 21,o1 23 52 22,oB .add 24 17 23,oM 4 24,oN 5 0]) .ret))))
theorem tab62:tb.code 62=some ⟨25,[(4,none),(5,none)],body62⟩:=by kernel_rfl
theorem regs_ok (h:AHeap) (vt vf:Value) (T:List LType) (F:List LFn) (f:Int) (tt:Tbl h) (hm:h.mark≤h.n) (sm:Small T F) (st:SlT h vt T) (sf:SlF h vf F):
  WC Tryz.prog tb 62 [.agg #[vt,vf],I f] h fun r h'=>r= .tuple #[I (ZV T F f).1,I (ZV T F f).2]∧Ext h h':=by
 refine WC.of (zE 62) tab62 ?_;simp only[zK,Nat.zero_add,Nat.reduceAdd];refine go ?_;refine WO.bx ?_;intro p h1 e1 o1;refine go ?_;refine WO.con (zGn h1 vt vf T F f (tt.ext e1) (yY e1 hm) sm (st.ext e1) (SlF.ext sf e1)) ?_;rintro _ h2 ⟨rfl,e2⟩;have e12:=e1.trans e2;have o1:=o1.ext e2;have sf2:=SlF.ext sf e12;have hF:=sm.funcs;refine go ?_;refine WX.br (fun hb=> ?_) (fun hb=> ?_)<;>simp only[DB]at hb<;>refine go ?_
 ·refine rt ?_;exact⟨by rw[ZV,if_pos hb];rfl,e12⟩
 have hb2:(zq T F f).2=0:=by omega
 have hin:0≤f∧f<(F.length:Int)∧Ze T F=0:=by
  unfold zq at hb2;split at hb2
  ·rename_i hp;exact absurd hb2 hp
  ·rename_i hp;split at hb2
   ·rename_i hc;unfold zN at hc;simp at hc;exact⟨hc.1,hc.2,by omega⟩
   ·cases hb2
 obtain⟨csF,⟨vb,rfl,sb,hlb⟩,pcF,hsF⟩:=zZ (i:=f.toNat) sf2 (by omega);have hmem:=zI (l:=F) (i:=f.toNat) (by omega);refine go ?_;refine WO.con (zC3 h2 _ vb _ sb (sm.blocks _ hmem) (sm.ins _ hmem)) ?_;rintro _ h3 ⟨rfl,e3⟩;have hfn:=(zAY hin.2.2).2.2.2 _ hmem;have hbd:zo (F.getD f.toNat default).blocks≤128:=by
  unfold fnL at hfn;split at hfn
  ·cases hfn
  ·rename_i hbad;unfold zAT at hbad;simp only[Bool.or_eq_true,not_or,Bool.not_eq_true,decide_eq_false_iff_not]at hbad;omega
 have hpos:=yQ (F.getD f.toNat default).blocks;have hn:0≤(zq T F f).1∧(zq T F f).1≤100:=by
  unfold zq;split
  ·simp
  ·split
   ·have hs:=zHg hfn;have:=sm.parts _ (zI (l:=T) (i:=(F.getD f.toNat default).sig.toNat) (by omega));simp only;omega
   ·simp
 refine go ?_;refine rt ?_;exact⟨by rw[ZV,if_neg (by omega)];rfl,e12.trans e3⟩
noncomputable def body12_0:ACode:=(.seq (.seq (oR [oM 4 3,oM 5 0,oQ 6 5,oB .lss 7 4 6,oM 8 7,oG 8 (oM 9 3),oG 8 (oC .lss 10 9 30),oP 11 8 10]) (oT 11 0)) (.seq (.block 1 (.seq (oR [oM 14 0,oM 15 3,oI 4 16 14 15,oF 3 17 16,oL 18 17,oQ 19 18,oC .gtr 20 19 20]) (.cond (.tmp 20) (.seq (oR [oK 2 (.bool true)]) .ret) .skip))) (oR [oM 12 3,oC .add 13 12 1,oM 3 13])))
noncomputable def body12:ACode:=(.seq (oR [oZ 2]) (.seq (.seq (oR [oN 3 0]) (.block 0 (.loop body12_0))) (.seq (oR [oM 21 0,oQ 22 21,oC .gtr 23 22 20,oM 2 23]) .ret)))
theorem tab12:tb.code 12=some ⟨24,[(2,none)],body12⟩:=by kernel_rfl
theorem zJV (h:AHeap) (vt:Value) (T:List LType) (st:SlT h vt T) (hT:(T.length:Int)≤9223372036854775807):
  WC Tryz.prog tb 12 [vt] h fun r h'=>(r= .bool true∨r= .bool false∧T.length≤20∧∀ x∈T,x.parts.length≤20)∧h=h':=by
 refine WC.of (zE 12) tab12 ?_;simp only[zK,Nat.zero_add,Nat.reduceAdd];refine go ?_;refine WX.loopA [4,5,6,7,8,9,10,11,14,15,16,17,18,19,20,2,12,13,3] (by kernel_rfl) (fun i=>T.length - i) (fun i t h1=>h=h1∧zC t 3=I i∧i≤T.length∧∀ j,j<i→(T.getD j default).parts.length≤20) 0 ?_ ?_
 ·exact⟨rfl,sl_,Nat.zero_le _,fun j hj=>absurd hj (Nat.not_lt_zero _)⟩
 rintro i t _ hsame ⟨rfl,s3,hi,hm⟩;have fin:(20<(T.length:Int))∨(i=T.length∧T.length≤20)∨i<T.length:=by omega
 refine go ?_;refine WO.sp (fun hb=> ?_) (fun hb=> ?_)<;>simp only[DB]at hb<;>refine go ?_
 ·obtain⟨cs,⟨va,rfl,sa,hla⟩,pc,hs⟩:=Zg st (show i<T.length by omega);refine WX.br (fun hc=> ?_) (fun hc=> ?_)<;>simp only[DB]at hc
  ·refine go ?_;refine WX.br (fun hd=> ?_) (fun hd=> ?_)<;>simp only[DB]at hd
   ·refine go ?_;refine rt ?_;exact⟨.inl rfl,rfl⟩
   ·refine go ?_;refine zA (i+1) (by omega) ⟨rfl,sln,by omega,fun j hj=> ?_⟩;by_cases e:j=i
    ·subst e;omega
    ·exact hm j (by omega)
  ·refine go ?_;refine rt ?_;refine⟨.inl ?_,rfl⟩;rw[decide_eq_true (show (20:Int)<T.length by omega)];rfl
 ·refine rt ?_;refine⟨?_,rfl⟩;by_cases hg:20<(T.length:Int)
  ·left;rw[decide_eq_true hg];rfl
  ·right;refine⟨by rw[decide_eq_false hg];rfl,by omega,fun x hx=> ?_⟩;obtain⟨j,hj,rfl⟩:=yy hx;exact hm j (by omega)
def zDY (F:List LFn):Prop:=∀ f∈F,∀ b∈f.blocks,∀ x∈b.ins,x.args.length≤20∧x.frm.length≤20
theorem small_of {T:List LType} {F:List LFn} (h1:T.length≤20) (h2:∀ x∈T,x.parts.length≤20) (h3:F.length≤10) (h4:∀ f∈F,f.blocks.length≤20∧∀ b∈f.blocks,b.ins.length≤1000):Small T F:=
 ⟨by omega,fun x hx=>by have:=h2 x hx;omega,by omega,fun f hf=>by have:=(h4 f hf).1;omega,fun f hf=>(h4 f hf).2⟩
noncomputable def body4_0:ACode:=(.seq (.seq (oR [oM 62 9,oM 63 8,oQ 64 63,oB .lss 65 62 64]) (oT 65 4)) (.seq (.block 5 (.seq (oR [oM 68 8,oM 69 9,oI 7 70 68 69,oF 5 71 70,oL 72 71,oQ 73 72,oC .gtr 74 73 20,oM 75 74,oH 75 (oM 76 8),oH 75 (oM 77 9),oH 75 (oI 7 78 76 77),oH 75 (oF 6 79 78),oH 75 (oL 80 79),oH 75 (oQ 81 80),oH 75 (oC .gtr 82 81 20),oO 83 75 82]) (.cond (.tmp 83) (.seq (oR [oK 4 (.bool true)]) .ret) .skip))) (oR [oM 66 9,oC .add 67 66 1,oM 9 67])))
noncomputable def body4_1:ACode:=(.seq (.seq (oR [oM 34 7,oF 1 35 2,oL 36 35,oM 37 6,oI 2 38 36 37,oF 1 39 38,oL 40 39,oQ 41 40,oB .lss 42 34 41]) (oT 42 2)) (.seq (.block 3 (.seq (oR [oF 1 45 2,oL 46 45,oM 47 6,oI 2 48 46 47,oF 1 49 48,oL 50 49,oM 51 7,oI 5 52 50 51,oF 0 53 52,oL 54 53,oM 8 54]) (.seq (oR [oM 55 5,oM 56 8,oQ 57 56,oB .add 58 55 57,oM 5 58]) (.seq (.seq (oR [oM 59 5,oM 60 1,oB .gtr 61 59 60]) (.cond (.tmp 61) (.seq (oR [oK 4 (.bool true)]) .ret) .skip)) (.seq (oR [oN 9 0]) (.block 4 (.loop body4_0))))))) (oR [oM 43 7,oC .add 44 43 1,oM 7 44])))
noncomputable def body4_2:ACode:=(.seq (.seq (oR [oM 19 6,oF 1 20 2,oL 21 20,oQ 22 21,oB .lss 23 19 22]) (oT 23 0)) (.seq (.block 1 (.seq (.seq (oR [oF 1 26 2,oL 27 26,oM 28 6,oI 2 29 27 28,oF 1 30 29,oL 31 30,oQ 32 31,oC .gtr 33 32 20]) (.cond (.tmp 33) (.seq (oR [oK 4 (.bool true)]) .ret) .skip)) (.seq (oR [oN 7 0]) (.block 2 (.loop body4_1))))) (oR [oM 24 6,oC .add 25 24 1,oM 6 25])))
noncomputable def body4:ACode:=(.seq (oR [oX 2 0,oZ 4]) (.seq (.seq (oR [oF 0 10 2,oL 11 10,o1 12 12 11,oM 13 12,oH 13 (oF 1 14 2),oH 13 (oL 15 14),oH 13 (oQ 16 15),oH 13 (oC .gtr 17 16 10),oO 18 13 17]) (.cond (.tmp 18) (.seq (oR [oK 4 (.bool true)]) .ret) .skip)) (.seq (oR [oN 5 0]) (.seq (.seq (oR [oN 6 0]) (.block 0 (.loop body4_2))) (.seq (oR [oZ 4]) .ret)))))
theorem tab4:tb.code 4=some ⟨84,[(4,none)],body4⟩:=by kernel_rfl
theorem zIz (h:AHeap) (vt vf:Value) (T:List LType) (F:List LFn) (most:Int) (hmost:0≤most∧most≤1000) (st:SlT h vt T) (sf:SlF h vf F) (hT:(T.length:Int)≤9223372036854775807) (hF:(F.length:Int)≤9223372036854775807):
  WC Tryz.prog tb 4 [.agg #[vt,vf],I most] h fun r h'=>(r= .bool true∨r= .bool false∧Small T F∧zDY F)∧Ext h h':=by
 refine WC.of (zE 4) tab4 ?_;simp only[zK,Nat.zero_add,Nat.reduceAdd];refine go ?_;refine WO.bx ?_;intro p h1 e1 o1;have st1:=st.ext e1;have sf1:=SlF.ext sf e1;refine go ?_;refine WO.con (zJV h1 vt T st1 hT) ?_;rintro r _ ⟨hr,rfl⟩;refine go ?_;rcases hr with rfl|⟨rfl,hT2,hp2⟩
 ·refine go ?_;refine rt ?_;exact⟨.inl rfl,e1⟩
 refine go ?_;refine WX.br (fun hb=> ?_) (fun hb=> ?_)<;>simp only[DB]at hb<;>refine go ?_
 ·refine rt ?_;exact⟨.inl rfl,e1⟩
 refine WX.loopA [19,20,21,22,23,26,27,28,29,30,31,32,33,4,7,34,35,36,37,38,39,40,41,42,45,46,47,48,49,50,51,52,53,54,8,55,56,57,58,5,59,60,61,4,9,62,63,64,65,68,69,70,71,72,73,74,75,76,77,78,79,80,81,82,83,4,66,67,9,43,44,7,24,25,6] (by kernel_rfl) (fun i=>F.length - i) (fun i t h2=>h1=h2∧zC t 6=I i∧i≤F.length∧(∃ n,zC t 5=I n∧0≤n∧n≤most)∧∀ j,j<i→(F.getD j default).blocks.length≤20∧∀ b∈(F.getD j default).blocks,b.ins.length≤1000∧∀ x∈b.ins,x.args.length≤20∧x.frm.length≤20) 0 ?_ ?_
 ·exact⟨rfl,sl_,Nat.zero_le _,⟨0,sl_,by omega,by omega⟩,fun j hj=>absurd hj (Nat.not_lt_zero _)⟩
 rintro i t _ hsame ⟨rfl,s6,hi,⟨n,s5,hn0,hn⟩,hm⟩;refine go ?_;refine WX.br (fun hc=> ?_) (fun hc=> ?_)<;>simp only[DB]at hc
 ·have hi':i<F.length:=by omega
  obtain⟨csF,⟨vb,rfl,sb,hlb⟩,pcF,hsF⟩:=zZ sf1 hi';refine go ?_;refine WX.br (fun hd=> ?_) (fun hd=> ?_)<;>simp only[DB]at hd<;>refine go ?_
  ·refine rt ?_;exact⟨.inl rfl,e1⟩
  refine WX.loopA [34,35,36,37,38,39,40,41,42,45,46,47,48,49,50,51,52,53,54,8,55,56,57,58,5,59,60,61,4,9,62,63,64,65,68,69,70,71,72,73,74,75,76,77,78,79,80,81,82,83,4,66,67,9,43,44,7] (by kernel_rfl) (fun k=>(F.getD i default).blocks.length - k) (fun k t h2=>h1=h2∧zC t 7=I k∧k≤(F.getD i default).blocks.length∧(∃ n,zC t 5=I n∧0≤n∧n≤most)∧∀ j,j<k→((F.getD i default).blocks.getD j default).ins.length≤1000∧∀ x∈((F.getD i default).blocks.getD j default).ins,x.args.length≤20∧x.frm.length≤20) 0 ?_ ?_
  ·exact⟨rfl,sl_,Nat.zero_le _,⟨n,sl_,hn0,hn⟩,fun j hj=>absurd hj (Nat.not_lt_zero _)⟩
  rintro k t2 _ hsame2 ⟨rfl,s7,hk,⟨n2,s5b,hn20,hn2⟩,hm2⟩;refine go ?_;refine WX.br (fun he=> ?_) (fun he=> ?_)<;>simp only[DB]at he
  ·have hk':k<(F.getD i default).blocks.length:=by omega
   obtain⟨csB,⟨vi,rfl,si,hli⟩,pcB,hsB⟩:=zZ sb hk';refine go ?_;refine WX.br (fun hf=> ?_) (fun hf=> ?_)<;>simp only[DB]at hf<;>refine go ?_
   ·refine rt ?_;exact⟨.inl rfl,e1⟩
   refine WX.loopA [62,63,64,65,68,69,70,71,72,73,74,75,76,77,78,79,80,81,82,83,4,66,67,9] (by kernel_rfl) (fun j=>((F.getD i default).blocks.getD k default).ins.length - j) (fun j t h2=>h1=h2∧zC t 9=I j∧j≤((F.getD i default).blocks.getD k default).ins.length∧∀ q,q<j→(((F.getD i default).blocks.getD k default).ins.getD q default).args.length≤20∧(((F.getD i default).blocks.getD k default).ins.getD q default).frm.length≤20) 0 ?_ ?_
   ·exact⟨rfl,sl_,Nat.zero_le _,fun q hq=>absurd hq (Nat.not_lt_zero _)⟩
   rintro j t3 _ hsame3 ⟨rfl,s9,hj,hq9⟩;refine go ?_;refine WX.br (fun hg=> ?_) (fun hg=> ?_)<;>simp only[DB]at hg
   ·have hj':j<((F.getD i default).blocks.getD k default).ins.length:=by omega
    obtain⟨csI,⟨va,vfr,rfl,sa,sfr,hla,hlf,ho⟩,pcI,hsI⟩:=zZ si hj';refine go ?_;refine WO.sp (fun hh=> ?_) (fun hh=> ?_)<;>simp only[DB]at hh<;>refine go ?_
    ·refine rt ?_;exact⟨.inl rfl,e1⟩
    refine WX.br (fun hh2=> ?_) (fun hh2=> ?_)<;>simp only[DB]at hh2<;>refine go ?_
    ·refine rt ?_;exact⟨.inl rfl,e1⟩
    ·refine zA (j+1) (by omega) ⟨rfl,sln,by omega,fun q hq=> ?_⟩;by_cases e:q=j
     ·subst e;omega
     ·exact hq9 q (by omega)
   ·refine go ?_;refine zA (k+1) (by omega) ⟨rfl,sln,by omega,⟨n2+(((F.getD i default).blocks.getD k default).ins.length:Int),sl_,by omega,by omega⟩,fun q hq=> ?_⟩;by_cases e:q=k
    ·subst e;refine⟨by omega,fun x hx=> ?_⟩;obtain⟨y,hy,rfl⟩:=yy hx;exact hq9 y (by omega)
    ·exact hm2 q (by omega)
  ·refine go ?_;refine zA (i+1) (by omega) ⟨rfl,sln,by omega,⟨n2,sl_,hn20,hn2⟩,fun q hq=> ?_⟩;by_cases e:q=i
   ·subst e;refine⟨by omega,fun b hb=> ?_⟩;obtain⟨y,hy,rfl⟩:=yy hb;exact hm2 y (by omega)
   ·exact hm q (by omega)
 ·refine go ?_;refine rt ?_;have hall:∀ f∈F,f.blocks.length≤20∧∀ b∈f.blocks,b.ins.length≤1000∧∀ x∈b.ins,x.args.length≤20∧x.frm.length≤20:=fun f hf=>by
   obtain⟨y,hy,rfl⟩:=yy hf;exact hm y (by omega)
  exact⟨.inr ⟨rfl,small_of hT2 hp2 (by omega) fun f hf=>⟨(hall f hf).1,fun b hb=>((hall f hf).2 b hb).1⟩,fun f hf b hb=>((hall f hf).2 b hb).2⟩,e1⟩
def Zk (x:LEnd):List Int:=if x.kind=1 then [x.to] else if x.kind=2 then (if x.to=x.els then [x.to] else [x.to,x.els]) else []
def Fresh (h:AHeap) (v:Value):Prop:=∀ a n c,v= .slice (some a) n c→h.n≤a.block
theorem Fresh.since {h h':AHeap} {v:Value} (f:Fresh h' v) (n:h.n≤h'.n):Fresh h v:=fun a k c e=>Nat.le_trans n (f a k c e)
theorem zEp {h0 h:AHeap} {v:Value} {l:List Int} (o:OwnI h0 h v l):Fresh h0 v:=by
 obtain⟨g,a,_,rfl,_⟩:=o;intro a n c e;cases e;assumption
noncomputable def body63_0:ACode:=(.seq (.seq (oR [oM 29 5,oM 30 4,oQ 31 30,oB .lss 32 29 31]) (oT 32 2)) (.seq (.block 3 (.seq (.regionC [oU (oM 35 4),oU (oM 36 5),oU (oI 1 37 35 36),oU (oL 38 37),oU (oM 39 4),oU (oM 40 5),oU (oC .sub 41 40 1),oU (oI 1 42 39 41),oU (oL 43 42),oU (oB .neq 44 38 43)]) (.cond (.tmp 44) (.seq (oR [oM 45 0,oM 46 3,oM 47 4,oM 48 5,oI 1 49 47 48,oL 50 49,oI 1 51 45 46,oS 1 51 50]) (oR [oM 52 3,oC .add 53 52 1,oM 3 53])) .skip))) (oR [oM 33 5,oC .add 34 33 1,oM 5 34])))
noncomputable def body63_1:ACode:=(.seq (.seq (oR [oM 10 3,oM 11 0,oQ 12 11,oB .lss 13 10 12]) (oT 13 0)) (.seq (.block 1 (.seq (.regionC [oU (oM 16 0),oU (oM 17 3),oU (oI 1 18 16 17),oU (oL 19 18),oU (oM 20 0),oU (oM 21 3),oU (oC .sub 22 21 1),oU (oI 1 23 20 22),oU (oL 24 23),oU (oB .eql 25 19 24)]) (.cond (.tmp 25) (.seq (oR [oM 26 0,oM 27 3,⟨some 28,none,(.slice 1 (.tmp 26) (some (.tmp 27)) none none)⟩,oM 4 28]) (.seq (.seq (oR [oN 5 1]) (.block 2 (.loop body63_0))) (.seq (oR [oM 54 0,oM 55 3,⟨some 56,none,(.slice 1 (.tmp 54) (some (.tmp 55)) none none)⟩,⟨none,none,(.clearS 1 [(.int .i64 0)] (.tmp 56))⟩]) (.seq (oR [oM 57 0,oM 58 3,⟨some 59,none,(.slice 1 (.tmp 57) none (some (.tmp 58)) none)⟩,oM 2 59]) .ret)))) .skip))) (oR [oM 14 3,oC .add 15 14 1,oM 3 15])))
noncomputable def body63:ACode:=(.seq (oR [oK 2 (.slice none 0 0)]) (.seq (.seq (oR [oM 6 0,oQ 7 6,oC .lss 8 7 2]) (.cond (.tmp 8) (.seq (oR [oM 9 0,oM 2 9]) .ret) .skip)) (.seq (.seq (oR [oN 3 1]) (.block 0 (.loop body63_1))) (.seq (oR [oM 60 0,oM 2 60]) .ret))))
theorem tab63:tb.code 63=some ⟨61,[(2,none)],body63⟩:=by kernel_rfl
theorem zG6 (h0 h:AHeap) (v:Value) (a b:Int) (e0:Ext h0 h) (o:OwnI h0 h v [a,b]):
  WC Tryz.prog tb 63 [v] h fun r h'=>SlI h' r (if a=b then [a] else [a,b])∧Fresh h0 r∧Ext h0 h':=by
 have s:SlI h v [a,b]:=o.sl;have fr:=zEp o;refine WC.of (zE 63) tab63 ?_;simp only[zK,Nat.zero_add,Nat.reduceAdd];refine go ?_;refine WX.br (fun hb=> ?_) (fun hb=> ?_)<;>simp only[DB]at hb
 ·exact absurd hb (by simp)
 refine go ?_;refine WX.loopA [10,11,12,13,16,17,18,19,20,21,22,23,24,25,26,27,28,4,5,29,30,31,32,35,36,37,38,39,40,41,42,43,44,45,46,47,48,49,50,51,52,53,3,33,34,5,54,55,56,57,58,59,2,14,15,3] (by kernel_rfl) (fun i=>2 - i) (fun i t h1=>h=h1∧zC t 3=I i∧(i=1∨i=2∧a≠b)) 1 ?_ ?_
 ·exact⟨rfl,sl_,.inl rfl⟩
 rintro i t _ hsame ⟨rfl,s3,hi⟩;have hlen:([a,b]:List Int).length=2:=rfl;refine go ?_;refine WX.br (fun hc=> ?_) (fun hc=> ?_)<;>simp only[DB]at hc
 ·have hi1:i=1:=by rw[hlen]at hc;omega
  subst hi1;refine go ?_;refine WX.br (fun hd=> ?_) (fun hd=> ?_)<;>simp only[DB]at hd
  ·have hab:a=b:=by simpa [List.getD]using hd.symm
   subst hab;obtain⟨g,g1,g2,rfl,g3⟩:=o;refine go ?_;refine WO.slLo (i:=1) (v:= .slice (some ⟨g,0,none⟩) [a,a].length 1) (r:= .slice (some ⟨g,1,none⟩) 1 1) (by rfl) ?_;have s4:SlI h (.slice (some ⟨g,1,none⟩) 1 1) [a]:=⟨rfl,.inr ⟨g,1,_,rfl,Zv g3,by rfl,g2⟩⟩;refine go ?_;refine WX.loopA [29,30,31,32,35,36,37,38,39,40,41,42,43,44,45,46,47,48,49,50,51,52,53,3,33,34,5] (by kernel_rfl) (fun i=>1) (fun (i:Unit) t h1=>h=h1∧zC t 5=I 1∧zC t 3=I ((1:Nat):Int)) () ?_ ?_
   ·exact⟨rfl,sl_,sl_⟩
   rintro _ t2 _ hsame2 ⟨rfl,s5,s3b⟩;have hlen1:([a]:List Int).length=1:=rfl;refine go ?_;refine WO.slLo (i:=1) (v:= .slice (some ⟨g,0,none⟩) [a,a].length 1) (r:= .slice (some ⟨g,1,none⟩) 1 1) (by rfl) ?_;have hcl:zAq 1 [I 0] (.slice (some ⟨g,1,none⟩) 1 1) h=some (.tuple #[],h.set g (.row [I a,I 0] true 0)):=by
    show ((zg h ⟨g,1,none⟩ [I 0]).map (Value.tuple #[],·))=_;have:zg h ⟨g,1,none⟩ [I 0]=some (h.set g (.row [I a,I 0] true 0)):=by
     unfold zg;rw[g3];rfl
    rw[this];rfl
   refine WO.clS hcl ?_;have e1:Ext h0 (h.set g (.row [I a,I 0] true 0)):=e0.set g1 g2 _;refine go ?_;refine WO.slHi (i:=1) (v:= .slice (some ⟨g,0,none⟩) [a,a].length 1) (r:= .slice (some ⟨g,0,none⟩) 1 1) (by rfl) ?_;refine go ?_;refine rt ?_;refine⟨?_,(fun a k c e=>by cases e;exact g1),e1⟩;rw[if_pos rfl];exact⟨rfl,.inr ⟨g,0,[I a,I 0],rfl,by unfold yA;rw[zP,if_pos rfl],by rfl,g2⟩⟩
  ·have hab:a≠b:=fun e=>hd (by simp[List.getD,e]);refine go ?_;exact zA 2 (by omega) ⟨rfl,sl_,.inr ⟨rfl,hab⟩⟩
 ·refine go ?_;refine rt ?_
  have:a≠b:=by rcases hi with rfl|⟨_,h⟩;· exact absurd hc (by simp)
               ·exact h
  exact⟨by rw[if_neg this];exact s,fr,e0⟩
noncomputable def body42:ACode:=(.seq (oR [oX 1 0,oK 2 (.slice none 0 0)]) (.seq (.seq (oR [oF 0 3 1,oL 4 3]) (.block 0 (.seq (oR [oD .eql 6 4 1,oM 5 6]) (.cond (.tmp 5) (.seq (oR [oF 2 7 1,oL 8 7,⟨some 9,none,(.buildSlice 1 1 [(.int .i64 0)] [(0,1,(.tmp 8))])⟩,oM 2 9]) .ret) (.seq (oR [oD .eql 11 4 2,oM 10 11]) (.cond (.tmp 10) (.seq (oR [oF 2 12 1,oL 13 12,oF 3 14 1,oL 15 14,⟨some 16,none,(.buildSlice 2 1 [(.int .i64 0)] [(0,1,(.tmp 13)),(1,1,(.tmp 15))])⟩,o1 17 63 16,oM 2 17]) .ret) .skip)))))) (.seq (oR [oK 2 (.slice none 0 0)]) .ret)))
theorem tab42:tb.code 42=some ⟨18,[(2,none)],body42⟩:=by kernel_rfl
theorem zHo (h:AHeap) (x:LEnd):
  WC Tryz.prog tb 42 [.agg #[.int .u8 x.kind,I x.a,I x.to,I x.els]] h fun r h'=>SlI h' r (Zk x)∧Fresh h r∧Ext h h':=by
 refine WC.of (zE 42) tab42 ?_;simp only[zK,Nat.zero_add,Nat.reduceAdd];refine go ?_;refine WO.bx ?_;intro p h1 e1 o1;refine go ?_;refine WX.br (fun hb=> ?_) (fun hb=> ?_)<;>simp only[DB]at hb<;>refine go ?_
 ·refine WO.bl [x.to] ?_;intro v h2 e2 o2;refine go ?_;refine rt ?_;refine⟨?_,(zEp o2).since e1.n,e1.trans e2⟩;rw[Zk,if_pos hb];exact o2.sl
 refine WX.br (fun hc=> ?_) (fun hc=> ?_)<;>simp only[DB]at hc<;>refine go ?_
 ·refine WO.bl [x.to,x.els] ?_;intro v h2 e2 o2;refine go ?_;refine WO.con (zG6 h1 h2 v x.to x.els e2 o2) ?_;rintro r h3 ⟨s3,f3,e3⟩;refine go ?_;refine rt ?_;refine⟨?_,f3.since e1.n,e1.trans e3⟩;rw[Zk,if_neg hb,if_pos hc];exact s3
 ·refine rt ?_;refine⟨?_,(fun a k c e=>by cases e),e1⟩;rw[Zk,if_neg hb,if_neg hc];exact SlI.nil _
def zT (T:List LType) (F:List LFn) (f b:Int):List LBlk×Int:=
 if (ZV T F f).2≠0 then ([],(ZV T F f).2) else if b<0∨((F.getD f.toNat default).blocks.length:Int)≤b then ([],2) else ((F.getD f.toNat default).blocks,0)
theorem zCo {T:List LType} {F:List LFn} {f:Int} (h:(ZV T F f).2=0):0≤f∧f<(F.length:Int)∧Ze T F=0:=by
 have hb2:(zq T F f).2=0:=by
  unfold ZV at h;split at h
  ·rename_i hn;exact absurd h hn
  ·rename_i hn;omega
 unfold zq at hb2;split at hb2
 ·rename_i hp;exact absurd hb2 hp
 ·rename_i hp;split at hb2
  ·rename_i hc;unfold zN at hc;simp at hc;exact⟨hc.1,hc.2,by omega⟩
  ·cases hb2
noncomputable def body41:ACode:=(.seq (oR [oX 3 0,oK 6 (.slice none 0 0),oN 7 0]) (.seq (.seq (oR [oA 2 11 3,oM 12 1,o2 13 62 11 12,oM 10 13,oE 14 10 0,oE 15 10 1,oM 8 14,oM 9 15]) (.seq (oR [oM 16 9,oC .neq 17 16 0]) (.cond (.tmp 17) (.seq (oR [oM 18 9,oK 6 (.slice none 0 0),oM 7 18]) .ret) .skip))) (.seq (.seq (oR [oM 19 2,oC .lss 20 19 0,oM 21 20,oH 21 (oM 22 2),oH 21 (oF 1 23 3),oH 21 (oL 24 23),oH 21 (oM 25 1),oH 21 (oI 2 26 24 25),oH 21 (oF 1 27 26),oH 21 (oL 28 27),oH 21 (oQ 29 28),oH 21 (oB .geq 30 22 29),oO 31 21 30]) (.cond (.tmp 31) (.seq (oR [oK 6 (.slice none 0 0),oN 7 2]) .ret) .skip)) (.seq (oR [oF 1 32 3,oL 33 32,oM 34 1,oI 2 35 33 34,oF 1 36 35,oL 37 36,oM 6 37,oN 7 0]) .ret))))
theorem tab41:tb.code 41=some ⟨38,[(6,none),(7,none)],body41⟩:=by kernel_rfl
theorem zEm (h:AHeap) (vt vf:Value) (T:List LType) (F:List LFn) (f b:Int) (tt:Tbl h) (hm:h.mark≤h.n) (sm:Small T F) (st:SlT h vt T) (sf:SlF h vf F):
  WC Tryz.prog tb 41 [.agg #[vt,vf],I f,I b] h fun r h'=>(∃ v,r= .tuple #[v,I (zT T F f b).2]∧SlB h' v (zT T F f b).1)∧Ext h h':=by
 refine WC.of (zE 41) tab41 ?_;simp only[zK,Nat.zero_add,Nat.reduceAdd];refine go ?_;refine WO.bx ?_;intro p h1 e1 o1;refine go ?_;refine WO.con (regs_ok h1 vt vf T F f (tt.ext e1) (yY e1 hm) sm (st.ext e1) (SlF.ext sf e1)) ?_;rintro _ h2 ⟨rfl,e2⟩;have e12:=e1.trans e2;have o1:=o1.ext e2;have sf2:=SlF.ext sf e12;have hF:=sm.funcs;refine go ?_;refine WX.br (fun hb=> ?_) (fun hb=> ?_)<;>simp only[DB]at hb<;>refine go ?_
 ·refine rt ?_;rw[show zT T F f b=([],(ZV T F f).2) from by rw[zT,if_pos hb]];exact⟨⟨_,rfl,SlR.nil⟩,e12⟩
 have hb0:(ZV T F f).2=0:=by omega
 have hin:=zCo hb0;obtain⟨csF,⟨vb,rfl,sb,hlb⟩,pcF,hsF⟩:=zZ (i:=f.toNat) sf2 (by omega);refine WO.sp (fun hc=> ?_) (fun hc=> ?_)<;>simp only[DB]at hc<;>refine go ?_
 ·refine rt ?_;rw[show zT T F f b=([],2) from by rw[zT,if_neg (by omega),if_pos (.inl hc)]];exact⟨⟨_,rfl,SlR.nil⟩,e12⟩
 refine WX.br (fun hd=> ?_) (fun hd=> ?_)<;>simp only[DB]at hd<;>refine go ?_<;>refine rt ?_
 ·rw[show zT T F f b=([],2) from by rw[zT,if_neg (by omega),if_pos (.inr hd)]];exact⟨⟨_,rfl,SlR.nil⟩,e12⟩
 ·rw[show zT T F f b=((F.getD f.toNat default).blocks,0) from by rw[zT,if_neg (by omega),if_neg (by omega)]];exact⟨⟨_,rfl,sb⟩,e12⟩
noncomputable def body25:ACode:=(.seq (oR [oX 3 0,oK 6 (.slice none 0 0),oN 7 0]) (.seq (oR [oA 2 11 3,oM 12 1,oM 13 2,o3 14 41 11 12 13,oM 10 14,oE 15 10 0,oE 16 10 1,oM 8 15,oM 9 16]) (.seq (.seq (oR [oM 17 9,oC .neq 18 17 0]) (.cond (.tmp 18) (.seq (oR [oM 19 9,oK 6 (.slice none 0 0),oM 7 19]) .ret) .skip)) (.seq (oR [oM 20 8,oM 21 2,oI 5 22 20 21,oF 1 23 22,oA 4 24 23,o1 25 42 24,oM 6 25,oN 7 0]) .ret))))
theorem tab25:tb.code 25=some ⟨26,[(6,none),(7,none)],body25⟩:=by kernel_rfl
def yT (T:List LType) (F:List LFn) (f b:Int):List Int×Int:=
 if (zT T F f b).2≠0 then ([],(zT T F f b).2) else (Zk ((zT T F f b).1.getD b.toNat default).fin,0)
theorem zAz {T:List LType} {F:List LFn} {f b:Int} (h:(zT T F f b).2=0):0≤b∧b<((zT T F f b).1.length:Int)∧(zT T F f b).1=(F.getD f.toNat default).blocks∧(ZV T F f).2=0:=by
 unfold zT at h ⊢;split at h
 ·rename_i hn;exact absurd h hn
 ·rename_i hn;rw[if_neg hn];split at h
  ·cases h
  ·rename_i hb;rw[if_neg hb];exact⟨by omega,by simp only;omega,rfl,by omega⟩
theorem zH3 (h:AHeap) (vt vf:Value) (T:List LType) (F:List LFn) (f b:Int) (tt:Tbl h) (hm:h.mark≤h.n) (sm:Small T F) (st:SlT h vt T) (sf:SlF h vf F):
  WC Tryz.prog tb 25 [.agg #[vt,vf],I f,I b] h fun r h'=>(∃ v,r= .tuple #[v,I (yT T F f b).2]∧SlI h' v (yT T F f b).1∧Fresh h v)∧Ext h h':=by
 refine WC.of (zE 25) tab25 ?_;simp only[zK,Nat.zero_add,Nat.reduceAdd];refine go ?_;refine WO.bx ?_;intro p h1 e1 o1;refine go ?_;refine WO.con (zEm h1 vt vf T F f b (tt.ext e1) (yY e1 hm) sm (st.ext e1) (SlF.ext sf e1)) ?_;rintro _ h2 ⟨⟨v,rfl,sb⟩,e2⟩;have e12:=e1.trans e2;refine go ?_;refine WX.br (fun hb=> ?_) (fun hb=> ?_)<;>simp only[DB]at hb<;>refine go ?_
 ·refine rt ?_;rw[show yT T F f b=([],(zT T F f b).2) from by rw[yT,if_pos hb]];exact⟨⟨_,rfl,SlI.nil _,(fun a k c e=>by cases e)⟩,e12⟩
 have hb0:(zT T F f b).2=0:=by omega
 have hin:=zAz hb0;obtain⟨csB,⟨vi,rfl,si,hli⟩,pcB,hsB⟩:=zZ (i:=b.toNat) sb (by omega);refine go ?_;refine WO.con (zHo h2 _) ?_;rintro r h3 ⟨s3,f3,e3⟩;refine go ?_;refine rt ?_;rw[show yT T F f b=(Zk ((zT T F f b).1.getD b.toNat default).fin,0) from by rw[yT,if_neg (by omega)]];exact⟨⟨_,rfl,s3,f3.since e12.n⟩,e12.trans e3⟩
theorem mem_of {l:List Int} {n:Int} {i:Nat} (h:i<l.length) (e:l.getD i 0=n):n∈l:=e▸yH h
theorem zHH {l:List Int} {n:Int} (h:∀ i,i<l.length→l.getD i 0≠n):n∉l:=fun hn=>by
 obtain⟨i,hi,e⟩:=zAi hn;exact h i hi e
noncomputable def body78_0:ACode:=(.seq (oR [oB .lss 9 8 7]) (.seq (oT 9 0) (.seq (.block 1 (.seq (oR [oM 10 8,oM 5 10]) (.seq (oR [oM 11 1,oM 12 0,oM 13 5,oI 1 14 12 13,oL 15 14,oB .eql 16 11 15]) (.cond (.tmp 16) (.seq (oR [oM 17 5,oM 4 17]) .ret) .skip)))) (oR [oC .add 18 8 1,oM 8 18]))))
noncomputable def body78:ACode:=(.seq (oR [oN 4 0]) (.seq (.seq (oR [oM 6 0,oQ 7 6,oN 8 0]) (.block 0 (.loop body78_0))) (.seq (oR [oN 4 (-1)]) .ret)))
theorem tab78:tb.code 78=some ⟨19,[(4,none)],body78⟩:=by kernel_rfl
theorem index_ok (h:AHeap) (v:Value) (l:List Int) (n:Int) (s:SlI h v l) (hl:(l.length:Int)≤9223372036854775807):
  WC Tryz.prog tb 78 [v,I n] h fun r h'=>(∃ k:Int,r=I k∧decide (0≤k)=decide (n∈l))∧h=h':=by
 refine WC.of (zE 78) tab78 ?_;simp only[zK,Nat.zero_add,Nat.reduceAdd];refine go ?_;refine WX.loopA [9,10,5,11,12,13,14,15,16,17,4,18,8] (by kernel_rfl) (fun i=>l.length - i) (fun i t h1=>h=h1∧zC t 8=I i∧i≤l.length∧∀ j,j<i→l.getD j 0≠n) 0 ?_ ?_
 ·exact⟨rfl,sl_,Nat.zero_le _,fun j hj=>absurd hj (Nat.not_lt_zero _)⟩
 rintro i t _ hsame ⟨rfl,s8,hi,hm⟩;refine go ?_;refine WX.br (fun hb=> ?_) (fun hb=> ?_)<;>simp only[DB]at hb
 ·have hi':i<l.length:=by omega
  refine go ?_;refine WX.br (fun hc=> ?_) (fun hc=> ?_)<;>simp only[DB]at hc<;>refine go ?_
  ·refine rt ?_;exact⟨⟨i,rfl,by rw[decide_eq_true (mem_of hi' hc.symm)];simp⟩,rfl⟩
  ·refine zA (i+1) (by omega) ⟨rfl,sln,by omega,fun j hj=> ?_⟩;by_cases e:j=i
   ·subst e;exact fun h=>hc h.symm
   ·exact hm j (by omega)
 ·refine go ?_;refine rt ?_;exact⟨⟨-1,rfl,by rw[decide_eq_false (zHH fun j hj=>hm j (by omega))];rfl⟩,rfl⟩
noncomputable def body67:ACode:=(.seq (oR [oZ 4]) (.seq (oR [oM 5 0,oM 6 1,o2 7 78 5 6,oC .geq 8 7 0,oM 4 8]) .ret))
theorem tab67:tb.code 67=some ⟨9,[(4,none)],body67⟩:=by kernel_rfl
theorem zFl (h:AHeap) (v:Value) (l:List Int) (n:Int) (s:SlI h v l) (hl:(l.length:Int)≤9223372036854775807):
  WC Tryz.prog tb 67 [v,I n] h fun r h'=>r= .bool (decide (n∈l))∧h=h':=by
 refine WC.of (zE 67) tab67 ?_;simp only[zK,Nat.zero_add,Nat.reduceAdd];refine go ?_;refine WO.con (index_ok h v l n s hl) ?_;rintro _ _ ⟨⟨k,rfl,e⟩,rfl⟩;refine go ?_;refine rt ?_;exact⟨by rw[←e];rfl,rfl⟩
abbrev DS:=List (Int×Int)×List Int
end Go.Proofs.YtemggiegiejopaaGreatDoor
namespace Go.Am
section
variable {P:Program} {tab:Tab} {t:Trie Value} {h h0:AHeap} {ds:List Deferred} {rd:Option Nat} {l:List AOper} {Q:AFr→AHeap→Prop} {d:Nat}
end
end Go.Am
namespace Go.Proofs.YtemggiegiejopaaGreatDoor
open Go.Am
def nxL (L:List LBlk) (b:Int):List Int:=Zk (L.getD b.toNat default).fin
section
variable {t:Trie Value}
end
theorem zFq (x:LEnd):(Zk x).length≤2:=by
 unfold Zk;split
 ·simp
 ·split
  ·split<;>simp
  ·simp
theorem ends_in {T:List LType} {n:Int} {f:LFn} (h:fnL T n f=true):f.blocks.length≤16∧∀ b,0≤b∧b<(f.blocks.length:Int)→∀ c∈nxL f.blocks b,0≤c∧c<(f.blocks.length:Int):=by
 unfold fnL at h;split at h
 ·cases h
 ·rename_i hbad;have hlen:f.blocks.length≤16:=by
   unfold zAT at hbad;simp only[Bool.or_eq_true,not_or,Bool.not_eq_true,Bool.not_eq_false']at hbad;have h1:zN ((f.blocks.length:Int) - 1) 16=true:=by simpa using hbad.1.2
   unfold zN at h1;simp only[Bool.and_eq_true,decide_eq_true_eq]at h1;omega
  refine⟨hlen,fun b hb c hc=> ?_⟩;rw[Bool.not_eq_true',List.any_eq_false]at h;have hmem:=zI (l:=f.blocks) (i:=b.toNat) (by omega);have hblk:=h _ hmem;unfold zAR at hblk;simp only[Bool.or_eq_true,not_or,Bool.not_eq_true,Bool.not_eq_false']at hblk;have he:zAX (f.blocks.getD b.toNat default).fin (szL T n f)=true:=by simpa using hblk.2
  unfold nxL Zk at hc;unfold zAX zN szL at he;split at hc
  ·rename_i hk;rw[if_pos hk]at he;simp only[Bool.and_eq_true,decide_eq_true_eq]at he;simp only[List.mem_singleton]at hc;omega
  ·rename_i hk;rw[if_neg hk]at he;split at hc
   ·rename_i hk2;rw[if_pos hk2]at he;simp only[Bool.and_eq_true,decide_eq_true_eq]at he;split at hc
    ·simp only[List.mem_singleton]at hc;omega
    ·simp only[List.mem_cons,List.mem_nil_iff,or_false]at hc;rcases hc with rfl|rfl<;>omega
   ·cases hc
theorem zJZ {T:List LType} {F:List LFn} {f b:Int} (h:(zT T F f b).2=0):(zT T F f b).1.length≤16∧∀ c,0≤c∧c<((zT T F f b).1.length:Int)→∀ d∈nxL (zT T F f b).1 c,0≤d∧d<((zT T F f b).1.length:Int):=by
 obtain⟨_,_,h3,h4⟩:=zAz h;have hin:=zCo h4;rw[h3];exact ends_in ((zAY hin.2.2).2.2.2 _ (zI (l:=F) (i:=f.toNat) (by omega)))
def Bg (s:DS) (c:Int):Prop:=(s.1.lookup c).isSome=true
def ZH (L:List LBlk) (b:Int) (k:Nat):List Int:=((List.range k).filter fun (i:Nat)=>decide (b∈Zk (L.getD i default).fin)).map fun (i:Nat)=>(i:Int)
theorem zGK (L:List LBlk) (b:Int) (k:Nat):ZH L b (k+1)=if b∈Zk (L.getD k default).fin then ZH L b k++[(k:Int)] else ZH L b k:=by
 unfold ZH;rw[List.range_succ,List.filter_append,List.map_append];by_cases h:b∈Zk (L.getD k default).fin
 ·rw[if_pos h,List.filter_cons_of_pos (by simpa using h)];rfl
 ·rw[if_neg h,List.filter_cons_of_neg (by simpa using h)];simp
theorem zDJ (L:List LBlk) (b:Int) (k:Nat):(ZH L b k).length≤k:=by
 unfold ZH;rw[List.length_map];exact Nat.le_trans (List.length_filter_le _ _) (by simp)
def zAh (T:List LType) (F:List LFn) (f b:Int):List Int×Int:=
 if (zT T F f b).2≠0 then ([],(zT T F f b).2) else (ZH (zT T F f b).1 b (zT T F f b).1.length,0)
noncomputable def body48_0:ACode:=(.seq (oR [oB .lss 24 23 22]) (.seq (oT 24 0) (.seq (.block 1 (.seq (oR [oM 25 23,oI 5 26 21 23,oA 5 27 26,⟨some 10,none,(.alloc [(.slice none 0 0),(.int .u8 0),(.int .i64 0),(.int .i64 0),(.int .i64 0)])⟩,oM 9 25,oS 5 10 27]) (.seq (oR [oF 1 28 10,oA 4 29 28,o1 30 42 29,oM 31 2,o2 32 67 30 31]) (.cond (.tmp 32) (oR [oM 33 6,oM 34 9,⟨some 35,none,(.buildSlice 1 1 [(.int .i64 0)] [(0,1,(.tmp 34))])⟩,oY 1 36 33 35,oM 6 36]) .skip)))) (oR [oC .add 37 23 1,oM 23 37]))))
noncomputable def body48:ACode:=(.seq (oR [oX 3 0,oK 6 (.slice none 0 0),oN 7 0]) (.seq (oR [oA 2 12 3,oM 13 1,oM 14 2,o3 15 41 12 13 14,oM 11 15,oE 16 11 0,oE 17 11 1,oM 8 16,oM 7 17]) (.seq (.seq (oR [oM 18 7,oC .neq 19 18 0]) (.cond (.tmp 19) (.seq (oR [oM 20 7,oK 6 (.slice none 0 0),oM 7 20]) .ret) .skip)) (.seq (.seq (oR [oM 21 8,oQ 22 21,oN 23 0]) (.block 0 (.loop body48_0))) (.seq (oR [oM 38 6,oM 6 38,oN 7 0]) .ret)))))
theorem tab48:tb.code 48=some ⟨39,[(6,none),(7,none)],body48⟩:=by kernel_rfl
theorem Preds_ok (h:AHeap) (vt vf:Value) (T:List LType) (F:List LFn) (f b:Int) (tt:Tbl h) (hm:h.mark≤h.n) (sm:Small T F) (st:SlT h vt T) (sf:SlF h vf F):
  WC Tryz.prog tb 48 [.agg #[vt,vf],I f,I b] h fun r h'=>(∃ v,r= .tuple #[v,I (zAh T F f b).2]∧OwnN h h' v (zAh T F f b).1)∧Ext h h':=by
 refine WC.of (zE 48) tab48 ?_;simp only[zK,Nat.zero_add,Nat.reduceAdd];refine go ?_;refine WO.bx ?_;intro p h1 e1 o1;refine go ?_;refine WO.con (zEm h1 vt vf T F f b (tt.ext e1) (yY e1 hm) sm (st.ext e1) (SlF.ext sf e1)) ?_;rintro _ h2 ⟨⟨v,rfl,sb⟩,e2⟩;have e12:=e1.trans e2;refine go ?_;refine WX.br (fun hb=> ?_) (fun hb=> ?_)<;>simp only[DB]at hb<;>refine go ?_
 ·refine rt ?_;rw[show zAh T F f b=([],(zT T F f b).2) from by rw[zAh,if_pos hb]];exact⟨⟨_,rfl,.inl ⟨rfl,rfl⟩⟩,e12⟩
 have hb0:(zT T F f b).2=0:=by omega
 obtain⟨hlen,hnx⟩:=zJZ hb0;rw[show zAh T F f b=(ZH (zT T F f b).1 b (zT T F f b).1.length,0) from by rw[zAh,if_neg (by omega)]];generalize (zT T F f b).1=L at *;refine WX.loopA [24,25,26,27,10,9,28,29,30,31,32,33,34,35,36,6,37,23] (by kernel_rfl) (fun k=>L.length - k) (fun k t h3=>zC t 23=I k∧k≤L.length∧Ext h2 h3∧∃ w,zC t 6=w∧OwnN h2 h3 w (ZH L b k)) 0 ?_ ?_
 ·exact⟨sl_,Nat.zero_le _,Ext.refl _,.slice none 0 0,sl_,.inl ⟨rfl,rfl⟩⟩
 rintro k t h3 hsame ⟨s23,hk,e23,w,s6,ow⟩;have sb3:=SlB.ext sb e23;refine go ?_;refine WX.br (fun hc=> ?_) (fun hc=> ?_)<;>simp only[DB]at hc
 ·have hk':k<L.length:=by omega
  obtain⟨cs,⟨vi,rfl,si,hsi⟩,pc,hs⟩:=zZ sb3 hk';obtain⟨_,_,_,rfl⟩:=zD si;refine go ?_;refine WO.al ?_;intro p4 h4 e4 o4;refine go ?_;refine WO.stC0 o4 e4 ?_;intro h5 e5 o5 _;refine go ?_;refine WO.con (zHo h5 (L.getD k default).fin) ?_;rintro r h6 ⟨s6',_,e6⟩;have hn2:=zFq (L.getD k default).fin;refine go ?_;refine WO.con (zFl h6 r _ b s6' (by omega)) ?_;rintro _ _ ⟨rfl,rfl⟩;have ow6:=(ow.ext e5).ext e6;have e36:=e5.trans e6;have hsucc:=zGK L b k;have hal:=zDJ L b k;refine go ?_;refine WX.br (fun hd=> ?_) (fun hd=> ?_)<;>simp only[DB]at hd<;>refine go ?_
  ·rw[if_pos hd]at hsucc;refine WO.bl [(k:Int)] ?_;intro v7 h7 e7 o7;refine go ?_;refine WO.apN (ow6.ext e7) o7.sl ((e23.trans e36).trans e7) (by simp only[List.length_singleton];omega) ?_;intro v8 h8 e8 o8;refine go ?_;exact zA (k+1) (by omega) ⟨sln,by omega,e8,v8,sl_,by rw[hsucc];exact o8⟩
  ·rw[if_neg hd]at hsucc;exact zA (k+1) (by omega) ⟨sln,by omega,e23.trans e36,w,sl_,by rw[hsucc];exact ow6⟩
 ·have hkk:k=L.length:=by omega
  subst hkk;refine go ?_;refine rt ?_;exact⟨⟨_,rfl,ow.since e12⟩,e12.trans e23⟩
noncomputable def body111:ACode:=(.seq (oR [oZ 2]) (.seq (oR [oM 3 0,oM 4 0,oB .neq 5 3 4,oM 2 5]) .ret))
theorem tab111:tb.code 111=some ⟨6,[(2,none)],body111⟩:=by kernel_rfl
theorem isNaN_ok (h:AHeap) (n:Int):WC Tryz.prog tb 111 [I n] h fun r h'=>r= .bool false∧h=h':=by
 refine WC.of (zE 111) tab111 ?_;simp only[zK,Nat.zero_add,Nat.reduceAdd];refine go ?_;refine rt ?_;exact⟨by simp[one],rfl⟩
noncomputable def body92:ACode:=(.seq (oR [oZ 4]) (.seq (oR [oM 5 0,o1 6 111 5,oM 7 6,oG 7 (oM 8 1),oG 7 (o1 9 111 8),oG 7 (oW 10 9),oP 11 7 10,oM 12 11,oH 12 (oM 13 0),oH 12 (oM 14 1),oH 12 (oB .lss 15 13 14),oO 16 12 15,oM 4 16]) .ret))
theorem tab92:tb.code 92=some ⟨17,[(4,none)],body92⟩:=by kernel_rfl
theorem ZA (h:AHeap) (a b:Int):WC Tryz.prog tb 92 [I a,I b] h fun r h'=>r= .bool (decide (a<b))∧h=h':=by
 refine WC.of (zE 92) tab92 ?_;simp only[zK,Nat.zero_add,Nat.reduceAdd];refine go ?_;refine WO.con (isNaN_ok h a) ?_;rintro _ _ ⟨rfl,rfl⟩;refine go ?_;refine rt ?_;exact⟨by simp[one],rfl⟩
noncomputable def body86_0:ACode:=(.seq (.seq (.regionC [oU (oM 16 7),oU (oM 17 1),oU (oB .gtr 18 16 17),oU (oM 19 18),oU (oG 19 (oM 20 0)),oU (oG 19 (oM 21 7)),oU (oG 19 (oI 1 22 20 21)),oU (oG 19 (oL 23 22)),oU (oG 19 (oM 24 0)),oU (oG 19 (oM 25 7)),oU (oG 19 (oC .sub 26 25 1)),oU (oG 19 (oI 1 27 24 26)),oU (oG 19 (oL 28 27)),oU (oG 19 (o2 29 92 23 28)),oU (oP 30 19 29)]) (oT 30 2)) (.seq (.block 3 (.regionC [oU (oM 33 0),oU (oM 34 7),oU (oM 35 0),oU (oM 36 7),oU (oC .sub 37 36 1),oU (oM 38 0),oU (oM 39 7),oU (oC .sub 40 39 1),oU (oI 1 41 38 40),oU (oL 42 41),oU (oM 43 0),oU (oM 44 7),oU (oI 1 45 43 44),oU (oL 46 45),oU (oI 1 47 33 34),oU (oS 1 47 42),oU (oI 1 48 35 37),oU (oS 1 48 46)])) (oR [oM 31 7,oC .sub 32 31 1,oM 7 32])))
noncomputable def body86_1:ACode:=(.seq (.seq (oR [oM 10 6,oM 11 2,oB .lss 12 10 11]) (oT 12 0)) (.seq (.block 1 (.seq (oR [oM 15 6,oM 7 15]) (.block 2 (.loop body86_0)))) (oR [oM 13 6,oC .add 14 13 1,oM 6 14])))
noncomputable def body86:ACode:=(.seq (oR [oM 8 1,oC .add 9 8 1,oM 6 9]) (.block 0 (.loop body86_1)))
theorem tab86:tb.code 86=some ⟨49,[],body86⟩:=by kernel_rfl
theorem zFG (hB h:AHeap) (v:Value) (xs:List Int) (a b:Int) (e0:Ext hB h) (hmB:hB.mark≤hB.n) (o:OwnI hB h v xs) (h0:0≤a) (hab:a≤b) (hb:b≤xs.length) (hlen:xs.length≤1000000000):
  WC Tryz.prog tb 86 [v,I a,I b] h fun r h'=>∃ ys,OwnI hB h' v ys∧PI a b xs ys∧Srt a b ys∧Ext hB h'∧Upd v h h':=by
 refine WC.of (zE 86) tab86 ?_;simp only[zK,Nat.zero_add,Nat.reduceAdd];refine go ?_;refine WX.loopA [10,11,12,15,7,16,17,18,19,20,21,22,23,24,25,26,27,28,29,30,33,34,35,36,37,38,39,40,41,42,43,44,45,46,47,48,31,32,7,13,14,6] (by kernel_rfl) (fun x=>(b - x.2).toNat) (fun (x:List Int×Int) t h1=>zC t 6=I x.2∧a+1≤x.2∧(x.2≤b∨x.2=a+1)∧OwnI hB h1 v x.1∧Ext hB h1∧Upd v h h1∧PI a b xs x.1∧Srt a x.2 x.1) (xs,a+1) ?_ ?_
 ·exact⟨sl_,by simp only;omega,.inr rfl,o,e0,⟨Nat.le_refl _,fun _ _ _=>rfl⟩,PI.refl ..,Srt.small (by simp only;omega)⟩
 rintro⟨ys,i⟩ t h1 hsame ⟨s6,hi1,hi2,o1,e1,u1,p1,r1⟩;simp only at s6 hi1 hi2 o1 e1 u1 p1 r1;have hyl:=p1.len;refine go ?_;refine WX.br (fun hc=> ?_) (fun hc=> ?_)<;>simp only[DB]at hc
 ·refine go ?_;refine WX.loopA [16,17,18,19,20,21,22,23,24,25,26,27,28,29,30,33,34,35,36,37,38,39,40,41,42,43,44,45,46,47,48,31,32,7] (by kernel_rfl) (fun x=>(x.2 - a).toNat) (fun (x:List Int×Int) t h2=>zC t 7=I x.2∧a≤x.2∧x.2≤i∧OwnI hB h2 v x.1∧Ext hB h2∧Upd v h h2∧PI a b xs x.1∧∀ p q,a≤p→p≤q→q≤i→q≠x.2→atI x.1 p≤atI x.1 q) (ys,i) ?_ ?_
  ·exact⟨sl_,by simp only;omega,by simp only;omega,o1,e1,u1,p1,fun p q h1 h2 h3 h4=>r1 p q h1 h2 (by simp only at h4;omega)⟩
  rintro⟨zs,j⟩ t2 h2 hsame2 ⟨s7,hj1,hj2,o2,e2,u2,p2,r2⟩;simp only at s7 hj1 hj2 o2 e2 u2 p2 r2;have hzl:=p2.len;refine goC ?_;refine WX.regionU2 0 rfl rfl ?_;have sr:SlI (inC (zB 0 h2)) v zs:=o2.sl;refine goU ?_;refine WO.sp (fun hd=> ?_) (fun hd=> ?_)<;>simp only[DB]at hd<;>refine goU ?_
  ·refine WO.con (ZA _ (atI zs j) (atI zs (j - 1))) ?_;rintro _ _ ⟨rfl,rfl⟩;refine WO.nil ?_;refine yO ?_;refine goU ?_;rw[Y8];refine WX.br (fun he=> ?_) (fun he=> ?_)<;>simp only[DB]at he<;>refine goC ?_
   ·refine WX.regionU2 0 rfl rfl ?_;have sr2:SlI (inC (zB 0 h2)) v zs:=o2.sl;refine goU ?_;refine WU2.swA j (j - 1) o2 e2 (by rw[e2.mark];exact hmB) ?_;intro h3 e3 o3 u3;refine go ?_;exact zA (swp zs j (j - 1),j - 1) (by simp only;omega) ⟨sl_,by simp only;omega,by simp only;omega,o3,e3,u2.trans u3,p2.trans (PI.swp (by omega) (by omega) (by omega) (by omega)),zGe h0 hd hj2 (by omega) he r2⟩
   ·refine go ?_;refine zA (zs,i+1) (by simp only;omega) ⟨sl_,by simp only;omega,by simp only;omega,o2,e2,u2,p2,fun p q h1 h2 h3=> ?_⟩;by_cases hq:q=j
    ·subst hq;by_cases hp:p=q
     ·subst hp;exact Int.le_refl _
     ·have:=r2 p (q - 1) h1 (by omega) (by omega) (by omega);simp only;omega
    ·exact r2 p q h1 h2 (by simp only at h3;omega) hq
  ·rw[Y8];refine goC ?_;refine zA (zs,i+1) (by simp only;omega) ⟨sl_,by simp only;omega,by simp only;omega,o2,e2,u2,p2,fun p q h1 h2 h3=> ?_⟩;by_cases hq:q=j
   ·have hp:p=q:=by omega
    subst hp;exact Int.le_refl _
   ·exact r2 p q h1 h2 (by simp only at h3;omega) hq
 ·refine go ?_;refine rtN ?_;exact⟨ys,o1,p1,fun p q h1 h2 h3=>r1 p q h1 h2 (by omega),e1,u1⟩
end Go.Proofs.YtemggiegiejopaaGreatDoor
