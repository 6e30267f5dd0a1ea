/- What functions of the program come to in the abstract machine, and plain laws about it; no statement of the seat is proved in this text. -/
import Derived.Test.YtemggiegiejopaaDoorJa
import Derived.Test.YtemggiegiejopaaDoorAmU
namespace Go.Proofs.YtemggiegiejopaaDoor
open Go.Am
set_option linter.unusedVariables false
set_option linter.unusedSimpArgs false
set_option maxHeartbeats 4000000
abbrev szV (s:LSz):List Value:=[I s.types,I s.funcs,I s.regs,I s.blocks]
noncomputable def body62:ACode:=(.seq (.region [⟨some 2,none,(.box (.tmp 0))⟩,⟨some 3,none,(.mov (.const (.bool false)))⟩]) (.seq (.region [⟨some 4,none,(.load true 7 (.tmp 2))⟩,⟨some 5,none,(.load true 4 (.tmp 1))⟩,⟨some 6,none,(.call (.func 63) [(.tmp 4),(.tmp 5)])⟩,⟨some 7,none,(.un .not (.tmp 6))⟩,⟨some 3,none,(.mov (.tmp 7))⟩]) .ret))
set_option maxRecDepth 100000 in
theorem tab62:tb.code 62=some ⟨8,[(3,none)],body62⟩:=by kernel_rfl
theorem fn1_ok (h h0:AHeap) (p:Value) (x:LIns) (s:LSz) (cs:List Value) (T:Tbl h) (hR:RIns h cs x) (o:OwnC h0 h p (szV s)):
  WC Tryd.prog tb 62 [.agg cs.toArray,p] h fun r h'=>r= .bool (!zCJ x s)∧Ext h h':=by
 obtain⟨va,vf,rfl,sa,sf,hla,hlf,ho⟩:=hR
 refine WC.of (zF 62) tab62 ?_;simp only[zO,Nat.zero_add,Nat.reduceAdd]
 refine go ?_
 refine WO.bx ?_
 intro p2 h1 e1 o1
 have o:=o.ext e1
 refine go ?_
 refine WO.con (ins_ok h1 x va vf s (T.ext e1) (sa.ext e1) (sf.ext e1) (by omega) (by omega) ho) ?_
 rintro _ h2 ⟨rfl,e2⟩
 refine go ?_
 refine rt ?_
 exact⟨rfl,e1.trans e2⟩
noncomputable def body65:ACode:=(.seq (.region [⟨some 3,none,(.box (.tmp 0))⟩,⟨some 4,none,(.mov (.const (.bool false)))⟩]) (.seq (.region [⟨some 5,none,(.fld 0 (.tmp 3))⟩,⟨some 6,none,(.load false 1 (.tmp 5))⟩,⟨some 7,none,(.load false 1 (.tmp 1))⟩,⟨some 8,none,(.call (.func 66) [(.tmp 6),(.tmp 7)])⟩,⟨some 9,none,(.mov (.tmp 8))⟩,⟨some 10,some (9,false),(.fld 1 (.tmp 3))⟩,⟨some 11,some (9,false),(.load true 4 (.tmp 10))⟩,⟨some 12,some (9,false),(.load true 4 (.tmp 2))⟩,⟨some 13,some (9,false),(.call (.func 67) [(.tmp 11),(.tmp 12)])⟩,⟨some 14,some (9,false),(.un .not (.tmp 13))⟩,⟨some 15,none,(.pick (.tmp 9) (.const (.bool true)) (.tmp 14))⟩,⟨some 4,none,(.mov (.tmp 15))⟩]) .ret))
set_option maxRecDepth 100000 in
theorem tab65:tb.code 65=some ⟨16,[(4,none)],body65⟩:=by kernel_rfl
theorem fn2_ok (h h0 h00:AHeap) (p1 p2:Value) (b:LBlk) (s:LSz) (cs:List Value) (T:Tbl h) (hR:RBlk h cs b) (o1:OwnC h0 h p1 [.func (.func 62) #[] #[p2]]) (o2:OwnC h00 h p2 (szV s)):
  WC Tryd.prog tb 65 [.agg cs.toArray,p1,p2] h fun r h'=>r= .bool (blkL b s)∧Ext h h':=by
 obtain⟨vi,rfl,si,hl⟩:=hR
 refine WC.of (zF 65) tab65 ?_;simp only[zO,Nat.zero_add,Nat.reduceAdd]
 refine go ?_
 refine WO.bx ?_
 intro p3 h1 e1 o3
 have o1:=o1.ext e1
 have o2:=o2.ext e1
 have T1:=T.ext e1
 refine go ?_
 refine WO.con (conf_ins h1 vi _ b.ins (fun x=> !zCJ x s) (SlN.ext si e1) (by omega) ?_) ?_
 ·intro x hx h2 e2 cs hcs
  exact WV.func (fn1_ok h2 h00 p2 x s cs (T1.ext e2) hcs (o2.ext e2))
 rintro _ h2 ⟨rfl,e2⟩
 have o3:=o3.ext e2
 have o2:=o2.ext e2
 refine go ?_
 refine WO.sp (fun hb=> ?_) (fun hb=> ?_)<;>refine go ?_
 ·refine rt ?_
  exact⟨by simp only[blkL,hb,Bool.true_or];rfl,e1.trans e2⟩
 ·refine WO.con (end_ok h2 b.fin s) ?_
  rintro _ h3 ⟨rfl,e3⟩
  refine go ?_
  refine rt ?_
  exact⟨by simp only[blkL,hb,Bool.false_or];rfl,(e1.trans e2).trans e3⟩
theorem yp (l:List LBlk):0≤yJ l:=by
 unfold yJ
 induction l with
 |nil=>simp
 |cons b l ih=>simp only[List.map_cons,List.sum_cons];omega
noncomputable def body51:ACode:=(.seq (.region [⟨some 2,none,(.box (.tmp 0))⟩,⟨some 3,none,(.box (.tmp 1))⟩,⟨some 4,none,(.mov (.const (.bool false)))⟩]) (.seq (.seq (.region [⟨some 7,none,(.fld 0 (.tmp 3))⟩,⟨some 8,none,(.load false 1 (.tmp 7))⟩,⟨some 9,none,(.fld 0 (.tmp 2))⟩,⟨some 10,none,(.load false 1 (.tmp 9))⟩,⟨some 11,none,(.len (.tmp 10))⟩,⟨some 12,none,(.call (.func 29) [(.tmp 8),(.tmp 11)])⟩,⟨some 13,none,(.un .not (.tmp 12))⟩,⟨some 14,none,(.mov (.tmp 13))⟩,⟨some 15,some (14,false),(.fld 0 (.tmp 2))⟩,⟨some 16,some (14,false),(.load false 1 (.tmp 15))⟩,⟨some 17,some (14,false),(.fld 0 (.tmp 3))⟩,⟨some 18,some (14,false),(.load false 1 (.tmp 17))⟩,⟨some 19,some (14,false),(.idx 4 (.tmp 16) (.tmp 18))⟩,⟨some 20,some (14,false),(.fld 0 (.tmp 19))⟩,⟨some 21,some (14,false),(.load false 1 (.tmp 20))⟩,⟨some 22,some (14,false),(.bin .neq (.tmp 21) (.const (.int .u8 3)))⟩,⟨some 23,none,(.pick (.tmp 14) (.const (.bool true)) (.tmp 22))⟩,⟨some 24,none,(.mov (.tmp 23))⟩,⟨some 25,some (24,false),(.fld 1 (.tmp 3))⟩,⟨some 26,some (24,false),(.load false 1 (.tmp 25))⟩,⟨some 27,some (24,false),(.len (.tmp 26))⟩,⟨some 28,some (24,false),(.bin .sub (.tmp 27) (.const (.int .i64 1)))⟩,⟨some 29,some (24,false),(.call (.func 29) [(.tmp 28),(.const (.int .i64 16))])⟩,⟨some 30,some (24,false),(.un .not (.tmp 29))⟩,⟨some 31,none,(.pick (.tmp 24) (.const (.bool true)) (.tmp 30))⟩,⟨some 32,none,(.mov (.tmp 31))⟩,⟨some 33,some (32,false),(.load true 2 (.tmp 3))⟩,⟨some 34,some (32,false),(.call (.func 27) [(.tmp 33)])⟩,⟨some 35,some (32,false),(.bin .gtr (.tmp 34) (.const (.int .i64 128)))⟩,⟨some 36,none,(.pick (.tmp 32) (.const (.bool true)) (.tmp 35))⟩]) (.cond (.tmp 36) (.seq (.region [⟨some 4,none,(.mov (.const (.bool false)))⟩]) .ret) .skip)) (.seq (.regionC [(⟨some 37,none,(.fld 0 (.tmp 2))⟩,[]),(⟨some 38,none,(.load false 1 (.tmp 37))⟩,[]),(⟨some 39,none,(.len (.tmp 38))⟩,[]),(⟨some 40,none,(.fld 1 (.tmp 2))⟩,[]),(⟨some 41,none,(.load false 1 (.tmp 40))⟩,[]),(⟨some 42,none,(.len (.tmp 41))⟩,[]),(⟨some 43,none,(.fld 0 (.tmp 2))⟩,[]),(⟨some 44,none,(.load false 1 (.tmp 43))⟩,[]),(⟨some 45,none,(.fld 0 (.tmp 3))⟩,[]),(⟨some 46,none,(.load false 1 (.tmp 45))⟩,[]),(⟨some 47,none,(.idx 4 (.tmp 44) (.tmp 46))⟩,[]),(⟨some 48,none,(.fld 3 (.tmp 47))⟩,[]),(⟨some 49,none,(.load false 1 (.tmp 48))⟩,[]),(⟨some 50,none,(.len (.tmp 49))⟩,[]),(⟨some 51,none,(.load true 2 (.tmp 3))⟩,[]),(⟨some 52,none,(.call (.func 27) [(.tmp 51)])⟩,[1,4,7,9,12]),(⟨some 53,none,(.bin .add (.tmp 50) (.tmp 52))⟩,[]),(⟨some 54,none,(.fld 1 (.tmp 3))⟩,[]),(⟨some 55,none,(.load false 1 (.tmp 54))⟩,[15]),(⟨some 56,none,(.len (.tmp 55))⟩,[]),(⟨some 57,none,(.build [(.int .i64 0),(.int .i64 0),(.int .i64 0),(.int .i64 0)] [(0,1,(.tmp 39)),(1,1,(.tmp 42)),(2,1,(.tmp 53)),(3,1,(.tmp 56))])⟩,[]),(⟨some 5,none,(.alloc [(.int .i64 0),(.int .i64 0),(.int .i64 0),(.int .i64 0)])⟩,[]),(⟨none,none,(.store 4 (.tmp 5) (.tmp 57))⟩,[])]) (.seq (.region [⟨some 58,none,(.mkFunc (.func 62) [] [(.tmp 5)])⟩,⟨some 6,none,(.alloc [.nilFunc])⟩,⟨none,none,(.store 1 (.tmp 6) (.tmp 58))⟩]) (.seq (.region [⟨some 59,none,(.fld 1 (.tmp 3))⟩,⟨some 60,none,(.load false 1 (.tmp 59))⟩,⟨some 61,none,(.mkFunc (.func 65) [] [(.tmp 6),(.tmp 5)])⟩,⟨some 62,none,(.call (.func 64) [(.tmp 60),(.tmp 61)])⟩,⟨some 63,none,(.un .not (.tmp 62))⟩,⟨some 4,none,(.mov (.tmp 63))⟩]) .ret)))))
set_option maxRecDepth 100000 in
theorem tab51:tb.code 51=some ⟨64,[(4,none)],body51⟩:=by kernel_rfl
theorem fn_ok (h:AHeap) (vt vf vb:Value) (T:List LType) (F:List LFn) (f:LFn) (tt:Tbl h) (hm:h.mark≤h.n) (st:SlT h vt T) (sf:SlF h vf F) (sb:SlB h vb f.blocks) (hT:T.length≤100) (hp:∀ x∈T,x.parts.length≤100) (hF:(F.length:Int)≤9223372036854775807) (hB:f.blocks.length≤1000) (hI:∀ b∈f.blocks,b.ins.length≤1000):
  WC Tryd.prog tb 51 [.agg #[vt,vf],.agg #[I f.sig,vb]] h fun r h'=>r= .bool (fnL T F.length f)∧Ext h h':=by
 refine WC.of (zF 51) tab51 ?_;simp only[zO,Nat.zero_add,Nat.reduceAdd]
 refine go ?_
 refine WO.bx ?_
 intro p2 h1 e1 o1
 refine WO.bx ?_
 intro p3 h2 e2 o2
 have o1:=o1.ext e2
 have e12:=e1.trans e2
 have st2:=st.ext e12
 have sf2:=SlF.ext sf e12
 have sb2:=SlB.ext sb e12
 have tt2:=tt.ext e12
 have hm2:h2.mark≤h2.n:=by have:=e12.mark;have:=e12.n;omega
 have hbad:zCK T f=zCK T f:=rfl
 conv at hbad=>rhs;unfold zCK
 refine go ?_
 refine WO.con (yR h2 f.sig T.length) ?_
 rintro _ _ ⟨rfl,rfl⟩
 refine go ?_
 refine WO.sp (fun hb=> ?_) (fun hb=> ?_)<;>simp only[DB]at hb<;>refine go ?_
 ·refine rt ?_
  refine⟨?_,e12⟩
  rw[fnL,if_pos (show zCK T f=true by rw[hbad,hb];rfl)];rfl
 have hsig:0≤f.sig∧f.sig<(T.length:Int):=by
  unfold zQ at hb;simpa using hb
 obtain⟨csT,⟨vp,rfl,sp,hsp⟩,pcT,hsT⟩:=zCR (i:=f.sig.toNat) st2 (by omega)
 have hpx:(T.getD f.sig.toNat default).parts.length≤100:=hp _ (zL (by omega))
 refine go ?_
 refine WO.sp (fun hc=> ?_) (fun hc=> ?_)<;>simp only[DB]at hc<;>refine go ?_
 ·refine rt ?_
  refine⟨?_,e12⟩
  rw[fnL,if_pos (show zCK T f=true by rw[hbad,hb,decide_eq_false hc];rfl)];rfl
 refine WO.con (yR h2 ((f.blocks.length:Int) - 1) 16) ?_
 rintro _ _ ⟨rfl,rfl⟩
 refine go ?_
 refine WO.sp (fun hd=> ?_) (fun hd=> ?_)<;>simp only[DB]at hd<;>refine go ?_
 ·refine rt ?_
  refine⟨?_,e12⟩
  rw[fnL,if_pos (show zCK T f=true by rw[hbad,hb,decide_eq_true hc,hd];rfl)];rfl
 refine WO.con (zC1 h2 f.sig vb f.blocks sb2 hB hI) ?_
 rintro _ h3 ⟨rfl,e3⟩
 have e13:=e12.trans e3
 have o1:=o1.ext e3
 have o2:=o2.ext e3
 have st3:=st2.ext e3
 have sf3:=SlF.ext sf2 e3
 have sb3:=SlB.ext sb2 e3
 have tt3:=tt2.ext e3
 have hm3:h3.mark≤h3.n:=by have:=e3.mark;have:=e3.n;omega
 refine go ?_
 refine WX.br (fun he=> ?_) (fun he=> ?_)<;>simp only[DB]at he<;>refine go ?_
 ·refine rt ?_
  refine⟨?_,e13⟩
  rw[fnL,if_pos (show zCK T f=true by rw[hbad,hb,decide_eq_true hc,hd,decide_eq_true he];rfl)];rfl
 refine goC ?_
 have hbadF:zCK T f=false:=by rw[hbad,hb,decide_eq_true hc,hd,decide_eq_false (by omega)];rfl
 obtain⟨a',n',k',rfl⟩:=zI st3
 clear hbad hb hd pcT
 refine WX.regionU2 1 rfl rfl ?_
 have e4:=zCF 1 h3
 generalize hqq:zB 1 h3=h4 at *
 have hn4:h4.n=h3.n+1:=by rw[←hqq];rfl
 have o1r:OwnC h (inC h4) p2 [.slice a' n' k',vf]:=by have:=o1.ext e4;exact this
 have o2r:OwnC h1 (inC h4) p3 [I f.sig,vb]:=by have:=o2.ext e4;exact this
 have str:SlT (inC h4) (.slice a' n' k') T:=by have:=st3.ext e4;exact this
 have sfr:SlF (inC h4) vf F:=by have:=SlF.ext sf3 e4;exact this
 have sbr:SlB (inC h4) vb f.blocks:=by have:=SlB.ext sb3 e4;exact this
 obtain⟨csr,⟨vpr,rfl,spr,hspr⟩,pcr,hsr⟩:=zCR (i:=f.sig.toNat) str (by omega)
 refine goU ?_
 refine WO.con (zC1 (inC h4) f.sig vb f.blocks sbr hB hI) ?_
 rintro _ h5 ⟨rfl,e5⟩
 refine WO.nil ?_
 refine yq e5 rfl ?_
 have o1s:OwnC h (inC h5) p2 [.slice a' n' k',vf]:=by have:=o1r.ext e5;exact this
 have o2s:OwnC h1 (inC h5) p3 [I f.sig,vb]:=by have:=o2r.ext e5;exact this
 have sbs:SlB (inC h5) vb f.blocks:=by have:=SlB.ext sbr e5;exact this
 have hmp:=yp f.blocks
 refine goU ?_
 refine zHt o2 (by omega) ?_
 refine goU ?_
 have hn5:h3.n<h5.n:=by have:h4.n≤h5.n:=e5.n;omega
 refine WU2.al2 hm3 hn5 ?_
 rw[←hqq]at e5
 have e6:=zGH (o:= .row [I 0,I 0,I 0,I 0] true 0) (o':= .row [I (T.length:Int),I (F.length:Int),I (((T.getD f.sig.toNat default).parts.length:Int)+yJ f.blocks),I (f.blocks.length:Int)] true 0) (k:=0) e5
 have o5:=zGz (cs:=[I (T.length:Int),I (F.length:Int),I (((T.getD f.sig.toNat default).parts.length:Int)+yJ f.blocks),I (f.blocks.length:Int)]) (o:= .row [I 0,I 0,I 0,I 0] true 0) e5
 unfold zCx
 refine(?_:∀ h6,Ext h3 h6→OwnC h3 h6 (.pointer (some ⟨h3.n,0,none⟩)) (szV (szL T F.length f))→zDb _ _ _ _ _ _ h6) _ e6 o5
 clear e6 o5
 intro h6 e6 o5
 generalize Value.pointer (some ⟨h3.n,0,none⟩)=p5 at *
 have o2:=o2.ext e6
 have sb6:=SlB.ext sb3 e6
 have tt6:=tt3.ext e6
 have e16:=e13.trans e6
 refine go ?_
 refine WO.al ?_
 intro p6 h7 e7 o6
 refine WO.stC0 o6 e7 ?_
 intro h8 e8 o6 _
 have o2:=o2.ext e8
 have o5:=o5.ext e8
 have sb8:=SlB.ext sb6 e8
 have tt8:=tt6.ext e8
 refine go ?_
 refine WO.con (conf_blk h8 vb _ f.blocks (fun b=>blkL b (szL T F.length f)) sb8 (by omega) ?_) ?_
 ·intro b hb h9 e9 cs hcs
  exact WV.func (fn2_ok h9 h6 h3 p6 p5 b (szL T F.length f) cs (tt8.ext e9) hcs (o6.ext e9) (o5.ext e9))
 rintro _ h9 ⟨rfl,e9⟩
 refine go ?_
 refine rt ?_
 exact⟨by rw[fnL,if_neg (by rw[hbadF];exact Bool.noConfusion)];rfl,(e16.trans e8).trans e9⟩
end Go.Proofs.YtemggiegiejopaaDoor
namespace Go.Proofs.YtemggiegiejopaaDoor
open Go.Am
set_option linter.unusedVariables false
set_option linter.unusedSimpArgs false
set_option maxHeartbeats 4000000
theorem ZH {h h':AHeap} (e:Ext h h') (hm:h.mark≤h.n):h'.mark≤h'.n:=by have:=e.mark;have:=e.n;omega
noncomputable def body50:ACode:=(.seq (.region [⟨some 2,none,(.box (.tmp 0))⟩,⟨some 3,none,(.mov (.const (.bool false)))⟩]) (.seq (.region [⟨some 4,none,(.load true 2 (.tmp 1))⟩,⟨some 5,none,(.load true 2 (.tmp 2))⟩,⟨some 6,none,(.call (.func 51) [(.tmp 4),(.tmp 5)])⟩,⟨some 7,none,(.un .not (.tmp 6))⟩,⟨some 3,none,(.mov (.tmp 7))⟩]) .ret))
set_option maxRecDepth 100000 in
theorem tab50:tb.code 50=some ⟨8,[(3,none)],body50⟩:=by kernel_rfl
theorem chk1_ok (h h0:AHeap) (p vt vf:Value) (T:List LType) (F:List LFn) (f:LFn) (cs:List Value) (tt:Tbl h) (hm:h.mark≤h.n) (sm:Small T F) (hf:f∈F) (st:SlT h vt T) (sf:SlF h vf F) (hR:RFn h cs f) (o:OwnC h0 h p [vt,vf]):
  WC Tryd.prog tb 50 [.agg cs.toArray,p] h fun r h'=>r= .bool (!fnL T F.length f)∧Ext h h':=by
 obtain⟨vb,rfl,sb,hl⟩:=hR
 refine WC.of (zF 50) tab50 ?_;simp only[zO,Nat.zero_add,Nat.reduceAdd]
 refine go ?_
 refine WO.bx ?_
 intro p2 h1 e1 o1
 have o:=o.ext e1
 refine go ?_
 refine WO.con (fn_ok h1 vt vf vb T F f (tt.ext e1) (ZH e1 hm) (st.ext e1) (SlF.ext sf e1) (SlB.ext sb e1) sm.types sm.parts (by have:=sm.funcs;omega) (sm.blocks f hf) (sm.ins f hf)) ?_
 rintro _ h2 ⟨rfl,e2⟩
 refine go ?_
 refine rt ?_
 exact⟨rfl,e1.trans e2⟩
noncomputable def body38:ACode:=(.seq (.region [⟨some 1,none,(.box (.tmp 0))⟩,⟨some 2,none,(.mov (.const (.int .i64 0)))⟩]) (.seq (.seq (.region [⟨some 4,none,(.fld 0 (.tmp 1))⟩,⟨some 5,none,(.load false 1 (.tmp 4))⟩,⟨some 6,none,(.call (.func 48) [(.tmp 5)])⟩,⟨some 3,none,(.mov (.tmp 6))⟩]) (.seq (.region [⟨some 7,none,(.mov (.tmp 3))⟩,⟨some 8,none,(.bin .neq (.tmp 7) (.const (.int .i64 0)))⟩]) (.cond (.tmp 8) (.seq (.region [⟨some 9,none,(.mov (.tmp 3))⟩,⟨some 2,none,(.mov (.tmp 9))⟩]) .ret) .skip))) (.seq (.seq (.region [⟨some 10,none,(.fld 1 (.tmp 1))⟩,⟨some 11,none,(.load false 1 (.tmp 10))⟩,⟨some 12,none,(.len (.tmp 11))⟩,⟨some 13,none,(.bin .sub (.tmp 12) (.const (.int .i64 1)))⟩,⟨some 14,none,(.call (.func 29) [(.tmp 13),(.const (.int .i64 8))])⟩,⟨some 15,none,(.un .not (.tmp 14))⟩,⟨some 16,none,(.mov (.tmp 15))⟩,⟨some 17,some (16,false),(.fld 1 (.tmp 1))⟩,⟨some 18,some (16,false),(.load false 1 (.tmp 17))⟩,⟨some 19,some (16,false),(.mkFunc (.func 50) [] [(.tmp 1)])⟩,⟨some 20,some (16,false),(.call (.func 49) [(.tmp 18),(.tmp 19)])⟩,⟨some 21,none,(.pick (.tmp 16) (.const (.bool true)) (.tmp 20))⟩]) (.cond (.tmp 21) (.seq (.region [⟨some 2,none,(.mov (.const (.int .i64 60)))⟩]) .ret) .skip)) (.seq (.region [⟨some 2,none,(.mov (.const (.int .i64 0)))⟩]) .ret))))
set_option maxRecDepth 100000 in
theorem tab38:tb.code 38=some ⟨22,[(2,none)],body38⟩:=by kernel_rfl
theorem prog_ok (h:AHeap) (vt vf:Value) (T:List LType) (F:List LFn) (tt:Tbl h) (hm:h.mark≤h.n) (sm:Small T F) (st:SlT h vt T) (sf:SlF h vf F):
  WC Tryd.prog tb 38 [.agg #[vt,vf]] h fun r h'=>r=I (Y9 T F)∧Ext h h':=by
 refine WC.of (zF 38) tab38 ?_;simp only[zO,Nat.zero_add,Nat.reduceAdd]
 refine go ?_
 refine WO.bx ?_
 intro p h1 e1 o1
 have st1:=st.ext e1
 refine go ?_
 refine WO.con (check_ok h1 vt T st1 sm.types sm.parts) ?_
 rintro _ h2 ⟨rfl,e2⟩
 have e12:=e1.trans e2
 have o1:=o1.ext e2
 have st2:=st1.ext e2
 have sf2:=SlF.ext sf e12
 have tt2:=tt.ext e12
 have hF:=sm.funcs
 refine go ?_
 refine WX.br (fun hb=> ?_) (fun hb=> ?_)<;>simp only[DB]at hb<;>refine go ?_
 ·refine rt ?_
  exact⟨by rw[Y9,if_pos hb];rfl,e12⟩
 refine WO.con (yR h2 ((F.length:Int) - 1) 8) ?_
 rintro _ _ ⟨rfl,rfl⟩
 refine go ?_
 refine WO.sp (fun hc=> ?_) (fun hc=> ?_)<;>simp only[DB]at hc<;>refine go ?_
 ·refine rt ?_
  exact⟨by rw[Y9,if_neg (by omega),hc];simp[one],e12⟩
 refine WO.con (conf_fn h2 vf _ F (fun f=> !fnL T F.length f) sf2 (by omega) ?_) ?_
 ·intro f hf h3 e3 cs hcs
  exact WV.func (chk1_ok h3 h p vt vf T F f cs (tt2.ext e3) (ZH (e12.trans e3) hm) sm hf (st2.ext e3) (SlF.ext sf2 e3) hcs (o1.ext e3))
 rintro _ h3 ⟨rfl,e3⟩
 refine go ?_
 refine WX.br (fun hd=> ?_) (fun hd=> ?_)<;>refine go ?_<;>refine rt ?_<;>refine⟨?_,e12.trans e3⟩<;>rw[Y9,if_neg (by omega),hc,hd]
 ·simp[one]
 ·simp[one]
theorem zBl {T:List LType} {F:List LFn} (h:Y9 T F=0):zBO T=0∧1≤F.length∧F.length≤8∧∀ f∈F,fnL T F.length f=true:=by
 unfold Y9 at h
 split at h
 ·rename_i hc;exact absurd h hc
 ·rename_i hc
  split at h
  ·cases h
  ·rename_i hd
   simp only[Bool.or_eq_true,not_or,Bool.not_eq_true,Bool.not_eq_false']at hd
   have h1:zQ ((F.length:Int) - 1) 8=true:=by simpa using hd.1
   unfold zQ at h1
   simp only[Bool.and_eq_true,decide_eq_true_eq]at h1
   refine⟨by omega,by omega,by omega,fun f hf=> ?_⟩
   have:=List.any_eq_false.1 hd.2 f hf
   simpa using this
theorem fn_sig {T:List LType} {n:Int} {f:LFn} (h:fnL T n f=true):0≤f.sig∧f.sig<(T.length:Int):=by
 unfold fnL at h
 split at h
 ·cases h
 ·rename_i hb
  unfold zCK at hb
  simp only[Bool.or_eq_true,not_or,Bool.not_eq_true,Bool.not_eq_false']at hb
  have h1:zQ f.sig T.length=true:=by simpa using hb.1.1.1
  unfold zQ at h1
  simpa using h1
noncomputable def body26:ACode:=(.seq (.region [⟨some 2,none,(.box (.tmp 0))⟩,⟨some 4,none,(.mov (.const (.int .i64 0)))⟩,⟨some 5,none,(.mov (.const (.int .i64 0)))⟩]) (.seq (.seq (.region [⟨some 7,none,(.load true 2 (.tmp 2))⟩,⟨some 8,none,(.call (.func 38) [(.tmp 7)])⟩,⟨some 6,none,(.mov (.tmp 8))⟩]) (.seq (.region [⟨some 9,none,(.mov (.tmp 6))⟩,⟨some 10,none,(.bin .neq (.tmp 9) (.const (.int .i64 0)))⟩]) (.cond (.tmp 10) (.seq (.region [⟨some 11,none,(.mov (.tmp 6))⟩,⟨some 4,none,(.mov (.const (.int .i64 0)))⟩,⟨some 5,none,(.mov (.tmp 11))⟩]) .ret) .skip))) (.seq (.seq (.region [⟨some 12,none,(.mov (.tmp 1))⟩,⟨some 13,none,(.fld 1 (.tmp 2))⟩,⟨some 14,none,(.load false 1 (.tmp 13))⟩,⟨some 15,none,(.len (.tmp 14))⟩,⟨some 16,none,(.call (.func 29) [(.tmp 12),(.tmp 15)])⟩,⟨some 17,none,(.un .not (.tmp 16))⟩]) (.cond (.tmp 17) (.seq (.region [⟨some 4,none,(.mov (.const (.int .i64 0)))⟩,⟨some 5,none,(.mov (.const (.int .i64 2)))⟩]) .ret) .skip)) (.seq (.regionC [(⟨some 18,none,(.fld 0 (.tmp 2))⟩,[]),(⟨some 19,none,(.load false 1 (.tmp 18))⟩,[]),(⟨some 20,none,(.fld 1 (.tmp 2))⟩,[]),(⟨some 21,none,(.load false 1 (.tmp 20))⟩,[]),(⟨some 22,none,(.mov (.tmp 1))⟩,[]),(⟨some 23,none,(.idx 2 (.tmp 21) (.tmp 22))⟩,[]),(⟨some 24,none,(.fld 0 (.tmp 23))⟩,[]),(⟨some 25,none,(.load false 1 (.tmp 24))⟩,[]),(⟨some 26,none,(.idx 4 (.tmp 19) (.tmp 25))⟩,[]),(⟨some 27,none,(.fld 3 (.tmp 26))⟩,[]),(⟨some 28,none,(.load false 1 (.tmp 27))⟩,[]),(⟨some 29,none,(.len (.tmp 28))⟩,[]),(⟨some 4,none,(.mov (.tmp 29))⟩,[]),(⟨some 5,none,(.mov (.const (.int .i64 0)))⟩,[])]) .ret))))
set_option maxRecDepth 100000 in
theorem tab26:tb.code 26=some ⟨30,[(4,none),(5,none)],body26⟩:=by kernel_rfl
theorem zGf (h:AHeap) (vt vf:Value) (T:List LType) (F:List LFn) (f:Int) (tt:Tbl h) (hm:h.mark≤h.n) (sm:Small T F) (st:SlT h vt T) (sf:SlF h vf F):
  WC Tryd.prog tb 26 [.agg #[vt,vf],I f] h fun r h'=>r= .tuple #[I (yV T F f).1,I (yV T F f).2]∧Ext h h':=by
 refine WC.of (zF 26) tab26 ?_;simp only[zO,Nat.zero_add,Nat.reduceAdd]
 refine go ?_
 refine WO.bx ?_
 intro p h1 e1 o1
 refine go ?_
 refine WO.con (prog_ok h1 vt vf T F (tt.ext e1) (ZH e1 hm) sm (st.ext e1) (SlF.ext sf e1)) ?_
 rintro _ h2 ⟨rfl,e2⟩
 have e12:=e1.trans e2
 have o1:=o1.ext e2
 have st2:=st.ext e12
 have sf2:=SlF.ext sf e12
 have hF:=sm.funcs
 refine go ?_
 refine WX.br (fun hb=> ?_) (fun hb=> ?_)<;>simp only[DB]at hb<;>refine go ?_
 ·refine rt ?_
  exact⟨by rw[yV,if_pos hb];rfl,e12⟩
 have hb:Y9 T F=0:=by omega
 refine WO.con (yR h2 f F.length) ?_
 rintro _ _ ⟨rfl,rfl⟩
 refine go ?_
 refine WX.br (fun hc=> ?_) (fun hc=> ?_)<;>simp only[DB]at hc<;>refine go ?_
 ·refine rt ?_
  exact⟨by rw[yV,if_neg (by omega),hc,if_neg (by exact Bool.noConfusion)];rfl,e12⟩
 have hf:0≤f∧f<(F.length:Int):=by unfold zQ at hc;simpa using hc
 obtain⟨csF,⟨vb,rfl,sb,hlb⟩,pcF,hsF⟩:=yS (i:=f.toNat) sf2 (by omega)
 have hsig:=fn_sig ((zBl hb).2.2.2 _ (zL (l:=F) (i:=f.toNat) (by omega)))
 obtain⟨csT,⟨vp,rfl,sp,hsp⟩,pcT,hsT⟩:=zCR (i:=(F.getD f.toNat default).sig.toNat) st2 (by omega)
 refine go ?_
 refine rt ?_
 exact⟨by rw[yV,if_neg (by omega),hc,if_pos rfl];rfl,e12⟩
noncomputable def body13:ACode:=(.seq (.region [⟨some 2,none,(.box (.tmp 0))⟩,⟨some 4,none,(.mov (.const (.int .i64 0)))⟩,⟨some 5,none,(.mov (.const (.int .i64 0)))⟩]) (.seq (.region [⟨some 9,none,(.load true 2 (.tmp 2))⟩,⟨some 10,none,(.mov (.tmp 1))⟩,⟨some 11,none,(.call (.func 26) [(.tmp 9),(.tmp 10)])⟩,⟨some 8,none,(.mov (.tmp 11))⟩,⟨some 12,none,(.extract (.tmp 8) 0)⟩,⟨some 13,none,(.extract (.tmp 8) 1)⟩,⟨some 6,none,(.mov (.tmp 12))⟩,⟨some 7,none,(.mov (.tmp 13))⟩]) (.seq (.seq (.region [⟨some 14,none,(.mov (.tmp 7))⟩,⟨some 15,none,(.bin .neq (.tmp 14) (.const (.int .i64 0)))⟩]) (.cond (.tmp 15) (.seq (.region [⟨some 16,none,(.mov (.tmp 7))⟩,⟨some 4,none,(.mov (.const (.int .i64 0)))⟩,⟨some 5,none,(.mov (.tmp 16))⟩]) .ret) .skip)) (.seq (.region [⟨some 17,none,(.mov (.tmp 6))⟩,⟨some 18,none,(.fld 1 (.tmp 2))⟩,⟨some 19,none,(.load false 1 (.tmp 18))⟩,⟨some 20,none,(.mov (.tmp 1))⟩,⟨some 21,none,(.idx 2 (.tmp 19) (.tmp 20))⟩,⟨some 22,none,(.load true 2 (.tmp 21))⟩,⟨some 23,none,(.call (.func 27) [(.tmp 22)])⟩,⟨some 24,none,(.bin .add (.tmp 17) (.tmp 23))⟩,⟨some 4,none,(.mov (.tmp 24))⟩,⟨some 5,none,(.mov (.const (.int .i64 0)))⟩]) .ret))))
set_option maxRecDepth 100000 in
theorem tab13:tb.code 13=some ⟨25,[(4,none),(5,none)],body13⟩:=by kernel_rfl
theorem zH1 (h:AHeap) (vt vf:Value) (T:List LType) (F:List LFn) (f:Int) (tt:Tbl h) (hm:h.mark≤h.n) (sm:Small T F) (st:SlT h vt T) (sf:SlF h vf F):
  WC Tryd.prog tb 13 [.agg #[vt,vf],I f] h fun r h'=>r= .tuple #[I (YE T F f).1,I (YE T F f).2]∧Ext h h':=by
 refine WC.of (zF 13) tab13 ?_;simp only[zO,Nat.zero_add,Nat.reduceAdd]
 refine go ?_
 refine WO.bx ?_
 intro p h1 e1 o1
 refine go ?_
 refine WO.con (zGf h1 vt vf T F f (tt.ext e1) (ZH e1 hm) sm (st.ext e1) (SlF.ext sf e1)) ?_
 rintro _ h2 ⟨rfl,e2⟩
 have e12:=e1.trans e2
 have o1:=o1.ext e2
 have sf2:=SlF.ext sf e12
 have hF:=sm.funcs
 refine go ?_
 refine WX.br (fun hb=> ?_) (fun hb=> ?_)<;>simp only[DB]at hb<;>refine go ?_
 ·refine rt ?_
  exact⟨by rw[YE,if_pos hb];rfl,e12⟩
 have hb2:(yV T F f).2=0:=by omega
 have hin:0≤f∧f<(F.length:Int)∧Y9 T F=0:=by
  unfold yV at hb2
  split at hb2
  ·rename_i hp;exact absurd hb2 hp
  ·rename_i hp
   split at hb2
   ·rename_i hc;unfold zQ at hc;simp at hc;exact⟨hc.1,hc.2,by omega⟩
   ·cases hb2
 obtain⟨csF,⟨vb,rfl,sb,hlb⟩,pcF,hsF⟩:=yS (i:=f.toNat) sf2 (by omega)
 have hmem:=zL (l:=F) (i:=f.toNat) (by omega)
 refine go ?_
 refine WO.con (zC1 h2 _ vb _ sb (sm.blocks _ hmem) (sm.ins _ hmem)) ?_
 rintro _ h3 ⟨rfl,e3⟩
 have hfn:=(zBl hin.2.2).2.2.2 _ hmem
 have hbd:yJ (F.getD f.toNat default).blocks≤128:=by
  unfold fnL at hfn
  split at hfn
  ·cases hfn
  ·rename_i hbad
   unfold zCK at hbad
   simp only[Bool.or_eq_true,not_or,Bool.not_eq_true,decide_eq_false_iff_not]at hbad
   omega
 have hpos:=yp (F.getD f.toNat default).blocks
 have hn:0≤(yV T F f).1∧(yV T F f).1≤100:=by
  unfold yV
  split
  ·simp
  ·split
   ·have hs:=fn_sig hfn
    have:=sm.parts _ (zL (l:=T) (i:=(F.getD f.toNat default).sig.toNat) (by omega))
    simp only;omega
   ·simp
 refine go ?_
 refine rt ?_
 exact⟨by rw[YE,if_neg (by omega)];rfl,e12.trans e3⟩
end Go.Proofs.YtemggiegiejopaaDoor
namespace Go.Proofs.YtemggiegiejopaaDoor
open Go.Am
set_option linter.unusedVariables false
set_option linter.unusedSimpArgs false
set_option maxHeartbeats 4000000
noncomputable def body25_0:ACode:=(.seq (.seq (.region [⟨some 4,none,(.mov (.tmp 3))⟩,⟨some 5,none,(.mov (.tmp 0))⟩,⟨some 6,none,(.len (.tmp 5))⟩,⟨some 7,none,(.bin .lss (.tmp 4) (.tmp 6))⟩,⟨some 8,none,(.mov (.tmp 7))⟩,⟨some 9,some (8,true),(.mov (.tmp 3))⟩,⟨some 10,some (8,true),(.bin .lss (.tmp 9) (.const (.int .i64 30)))⟩,⟨some 11,none,(.pick (.tmp 8) (.tmp 10) (.const (.bool false)))⟩]) (.cond (.tmp 11) .skip (.exit 0))) (.seq (.block 1 (.seq (.region [⟨some 14,none,(.mov (.tmp 0))⟩,⟨some 15,none,(.mov (.tmp 3))⟩,⟨some 16,none,(.idx 4 (.tmp 14) (.tmp 15))⟩,⟨some 17,none,(.fld 3 (.tmp 16))⟩,⟨some 18,none,(.load false 1 (.tmp 17))⟩,⟨some 19,none,(.len (.tmp 18))⟩,⟨some 20,none,(.bin .gtr (.tmp 19) (.const (.int .i64 20)))⟩]) (.cond (.tmp 20) (.seq (.region [⟨some 2,none,(.mov (.const (.bool true)))⟩]) .ret) .skip))) (.region [⟨some 12,none,(.mov (.tmp 3))⟩,⟨some 13,none,(.bin .add (.tmp 12) (.const (.int .i64 1)))⟩,⟨some 3,none,(.mov (.tmp 13))⟩])))
noncomputable def body25:ACode:=(.seq (.region [⟨some 2,none,(.mov (.const (.bool false)))⟩]) (.seq (.seq (.region [⟨some 3,none,(.mov (.const (.int .i64 0)))⟩]) (.block 0 (.loop body25_0))) (.seq (.region [⟨some 21,none,(.mov (.tmp 0))⟩,⟨some 22,none,(.len (.tmp 21))⟩,⟨some 23,none,(.bin .gtr (.tmp 22) (.const (.int .i64 20)))⟩,⟨some 2,none,(.mov (.tmp 23))⟩]) .ret)))
set_option maxRecDepth 100000 in
theorem tab25:tb.code 25=some ⟨24,[(2,none)],body25⟩:=by kernel_rfl
theorem zJD (h:AHeap) (vt:Value) (T:List LType) (st:SlT h vt T) (hT:(T.length:Int)≤9223372036854775807):
  WC Tryd.prog tb 25 [vt] h fun r h'=>(r= .bool true∨r= .bool false∧T.length≤20∧∀ x∈T,x.parts.length≤20)∧h=h':=by
 refine WC.of (zF 25) tab25 ?_;simp only[zO,Nat.zero_add,Nat.reduceAdd]
 refine go ?_
 refine WX.loopA [4,5,6,7,8,9,10,11,14,15,16,17,18,19,20,2,12,13,3] (by kernel_rfl) (fun i=>T.length - i) (fun i t h1=>h=h1∧zC t 3=I i∧i≤T.length∧∀ j,j<i→(T.getD j default).parts.length≤20) 0 ?_ ?_
 ·exact⟨rfl,sl_,Nat.zero_le _,fun j hj=>absurd hj (Nat.not_lt_zero _)⟩
 rintro i t _ hsame ⟨rfl,s3,hi,hm⟩
 have fin:(20<(T.length:Int))∨(i=T.length∧T.length≤20)∨i<T.length:=by omega
 refine go ?_
 refine WO.sp (fun hb=> ?_) (fun hb=> ?_)<;>simp only[DB]at hb<;>refine go ?_
 ·obtain⟨cs,⟨va,rfl,sa,hla⟩,pc,hs⟩:=zCR st (show i<T.length by omega)
  refine WX.br (fun hc=> ?_) (fun hc=> ?_)<;>simp only[DB]at hc
  ·refine go ?_
   refine WX.br (fun hd=> ?_) (fun hd=> ?_)<;>simp only[DB]at hd
   ·refine go ?_
    refine rt ?_
    exact⟨.inl rfl,rfl⟩
   ·refine go ?_
    refine zA (i+1) (by omega) ⟨rfl,sln,by omega,fun j hj=> ?_⟩
    by_cases e:j=i
    ·subst e;omega
    ·exact hm j (by omega)
  ·refine go ?_
   refine rt ?_
   refine⟨.inl ?_,rfl⟩
   rw[decide_eq_true (show (20:Int)<T.length by omega)];rfl
 ·refine rt ?_
  refine⟨?_,rfl⟩
  by_cases hg:20<(T.length:Int)
  ·left;rw[decide_eq_true hg];rfl
  ·right
   refine⟨by rw[decide_eq_false hg];rfl,by omega,fun x hx=> ?_⟩
   obtain⟨j,hj,rfl⟩:=Zg hx
   exact hm j (by omega)
def SmallI (F:List LFn):Prop:=∀ f∈F,∀ b∈f.blocks,∀ x∈b.ins,x.args.length≤20∧x.frm.length≤20
theorem small_of {T:List LType} {F:List LFn} (h1:T.length≤20) (h2:∀ x∈T,x.parts.length≤20) (h3:F.length≤10) (h4:∀ f∈F,f.blocks.length≤20∧∀ b∈f.blocks,b.ins.length≤1000):Small T F:=
 ⟨by omega,fun x hx=>by have:=h2 x hx;omega,by omega,fun f hf=>by have:=(h4 f hf).1;omega,fun f hf=>(h4 f hf).2⟩
noncomputable def body12_0:ACode:=(.seq (.seq (.region [⟨some 62,none,(.mov (.tmp 9))⟩,⟨some 63,none,(.mov (.tmp 8))⟩,⟨some 64,none,(.len (.tmp 63))⟩,⟨some 65,none,(.bin .lss (.tmp 62) (.tmp 64))⟩]) (.cond (.tmp 65) .skip (.exit 4))) (.seq (.block 5 (.seq (.region [⟨some 68,none,(.mov (.tmp 8))⟩,⟨some 69,none,(.mov (.tmp 9))⟩,⟨some 70,none,(.idx 7 (.tmp 68) (.tmp 69))⟩,⟨some 71,none,(.fld 5 (.tmp 70))⟩,⟨some 72,none,(.load false 1 (.tmp 71))⟩,⟨some 73,none,(.len (.tmp 72))⟩,⟨some 74,none,(.bin .gtr (.tmp 73) (.const (.int .i64 20)))⟩,⟨some 75,none,(.mov (.tmp 74))⟩,⟨some 76,some (75,false),(.mov (.tmp 8))⟩,⟨some 77,some (75,false),(.mov (.tmp 9))⟩,⟨some 78,some (75,false),(.idx 7 (.tmp 76) (.tmp 77))⟩,⟨some 79,some (75,false),(.fld 6 (.tmp 78))⟩,⟨some 80,some (75,false),(.load false 1 (.tmp 79))⟩,⟨some 81,some (75,false),(.len (.tmp 80))⟩,⟨some 82,some (75,false),(.bin .gtr (.tmp 81) (.const (.int .i64 20)))⟩,⟨some 83,none,(.pick (.tmp 75) (.const (.bool true)) (.tmp 82))⟩]) (.cond (.tmp 83) (.seq (.region [⟨some 4,none,(.mov (.const (.bool true)))⟩]) .ret) .skip))) (.region [⟨some 66,none,(.mov (.tmp 9))⟩,⟨some 67,none,(.bin .add (.tmp 66) (.const (.int .i64 1)))⟩,⟨some 9,none,(.mov (.tmp 67))⟩])))
noncomputable def body12_1:ACode:=(.seq (.seq (.region [⟨some 34,none,(.mov (.tmp 7))⟩,⟨some 35,none,(.fld 1 (.tmp 2))⟩,⟨some 36,none,(.load false 1 (.tmp 35))⟩,⟨some 37,none,(.mov (.tmp 6))⟩,⟨some 38,none,(.idx 2 (.tmp 36) (.tmp 37))⟩,⟨some 39,none,(.fld 1 (.tmp 38))⟩,⟨some 40,none,(.load false 1 (.tmp 39))⟩,⟨some 41,none,(.len (.tmp 40))⟩,⟨some 42,none,(.bin .lss (.tmp 34) (.tmp 41))⟩]) (.cond (.tmp 42) .skip (.exit 2))) (.seq (.block 3 (.seq (.region [⟨some 45,none,(.fld 1 (.tmp 2))⟩,⟨some 46,none,(.load false 1 (.tmp 45))⟩,⟨some 47,none,(.mov (.tmp 6))⟩,⟨some 48,none,(.idx 2 (.tmp 46) (.tmp 47))⟩,⟨some 49,none,(.fld 1 (.tmp 48))⟩,⟨some 50,none,(.load false 1 (.tmp 49))⟩,⟨some 51,none,(.mov (.tmp 7))⟩,⟨some 52,none,(.idx 5 (.tmp 50) (.tmp 51))⟩,⟨some 53,none,(.fld 0 (.tmp 52))⟩,⟨some 54,none,(.load false 1 (.tmp 53))⟩,⟨some 8,none,(.mov (.tmp 54))⟩]) (.seq (.region [⟨some 55,none,(.mov (.tmp 5))⟩,⟨some 56,none,(.mov (.tmp 8))⟩,⟨some 57,none,(.len (.tmp 56))⟩,⟨some 58,none,(.bin .add (.tmp 55) (.tmp 57))⟩,⟨some 5,none,(.mov (.tmp 58))⟩]) (.seq (.seq (.region [⟨some 59,none,(.mov (.tmp 5))⟩,⟨some 60,none,(.mov (.tmp 1))⟩,⟨some 61,none,(.bin .gtr (.tmp 59) (.tmp 60))⟩]) (.cond (.tmp 61) (.seq (.region [⟨some 4,none,(.mov (.const (.bool true)))⟩]) .ret) .skip)) (.seq (.region [⟨some 9,none,(.mov (.const (.int .i64 0)))⟩]) (.block 4 (.loop body12_0))))))) (.region [⟨some 43,none,(.mov (.tmp 7))⟩,⟨some 44,none,(.bin .add (.tmp 43) (.const (.int .i64 1)))⟩,⟨some 7,none,(.mov (.tmp 44))⟩])))
noncomputable def body12_2:ACode:=(.seq (.seq (.region [⟨some 19,none,(.mov (.tmp 6))⟩,⟨some 20,none,(.fld 1 (.tmp 2))⟩,⟨some 21,none,(.load false 1 (.tmp 20))⟩,⟨some 22,none,(.len (.tmp 21))⟩,⟨some 23,none,(.bin .lss (.tmp 19) (.tmp 22))⟩]) (.cond (.tmp 23) .skip (.exit 0))) (.seq (.block 1 (.seq (.seq (.region [⟨some 26,none,(.fld 1 (.tmp 2))⟩,⟨some 27,none,(.load false 1 (.tmp 26))⟩,⟨some 28,none,(.mov (.tmp 6))⟩,⟨some 29,none,(.idx 2 (.tmp 27) (.tmp 28))⟩,⟨some 30,none,(.fld 1 (.tmp 29))⟩,⟨some 31,none,(.load false 1 (.tmp 30))⟩,⟨some 32,none,(.len (.tmp 31))⟩,⟨some 33,none,(.bin .gtr (.tmp 32) (.const (.int .i64 20)))⟩]) (.cond (.tmp 33) (.seq (.region [⟨some 4,none,(.mov (.const (.bool true)))⟩]) .ret) .skip)) (.seq (.region [⟨some 7,none,(.mov (.const (.int .i64 0)))⟩]) (.block 2 (.loop body12_1))))) (.region [⟨some 24,none,(.mov (.tmp 6))⟩,⟨some 25,none,(.bin .add (.tmp 24) (.const (.int .i64 1)))⟩,⟨some 6,none,(.mov (.tmp 25))⟩])))
noncomputable def body12:ACode:=(.seq (.region [⟨some 2,none,(.box (.tmp 0))⟩,⟨some 4,none,(.mov (.const (.bool false)))⟩]) (.seq (.seq (.region [⟨some 10,none,(.fld 0 (.tmp 2))⟩,⟨some 11,none,(.load false 1 (.tmp 10))⟩,⟨some 12,none,(.call (.func 25) [(.tmp 11)])⟩,⟨some 13,none,(.mov (.tmp 12))⟩,⟨some 14,some (13,false),(.fld 1 (.tmp 2))⟩,⟨some 15,some (13,false),(.load false 1 (.tmp 14))⟩,⟨some 16,some (13,false),(.len (.tmp 15))⟩,⟨some 17,some (13,false),(.bin .gtr (.tmp 16) (.const (.int .i64 10)))⟩,⟨some 18,none,(.pick (.tmp 13) (.const (.bool true)) (.tmp 17))⟩]) (.cond (.tmp 18) (.seq (.region [⟨some 4,none,(.mov (.const (.bool true)))⟩]) .ret) .skip)) (.seq (.region [⟨some 5,none,(.mov (.const (.int .i64 0)))⟩]) (.seq (.seq (.region [⟨some 6,none,(.mov (.const (.int .i64 0)))⟩]) (.block 0 (.loop body12_2))) (.seq (.region [⟨some 4,none,(.mov (.const (.bool false)))⟩]) .ret)))))
set_option maxRecDepth 100000 in
theorem tab12:tb.code 12=some ⟨84,[(4,none)],body12⟩:=by kernel_rfl
theorem zIT (h:AHeap) (vt vf:Value) (T:List LType) (F:List LFn) (most:Int) (hmost:0≤most∧most≤1000) (st:SlT h vt T) (sf:SlF h vf F) (hT:(T.length:Int)≤9223372036854775807) (hF:(F.length:Int)≤9223372036854775807):
  WC Tryd.prog tb 12 [.agg #[vt,vf],I most] h fun r h'=>(r= .bool true∨r= .bool false∧Small T F∧SmallI F)∧Ext h h':=by
 refine WC.of (zF 12) tab12 ?_;simp only[zO,Nat.zero_add,Nat.reduceAdd]
 refine go ?_
 refine WO.bx ?_
 intro p h1 e1 o1
 have st1:=st.ext e1
 have sf1:=SlF.ext sf e1
 refine go ?_
 refine WO.con (zJD h1 vt T st1 hT) ?_
 rintro r _ ⟨hr,rfl⟩
 refine go ?_
 rcases hr with rfl|⟨rfl,hT2,hp2⟩
 ·refine go ?_
  refine rt ?_
  exact⟨.inl rfl,e1⟩
 refine go ?_
 refine WX.br (fun hb=> ?_) (fun hb=> ?_)<;>simp only[DB]at hb<;>refine go ?_
 ·refine rt ?_
  exact⟨.inl rfl,e1⟩
 refine WX.loopA [19,20,21,22,23,26,27,28,29,30,31,32,33,4,7,34,35,36,37,38,39,40,41,42,45,46,47,48,49,50,51,52,53,54,8,55,56,57,58,5,59,60,61,4,9,62,63,64,65,68,69,70,71,72,73,74,75,76,77,78,79,80,81,82,83,4,66,67,9,43,44,7,24,25,6] (by kernel_rfl) (fun i=>F.length - i) (fun i t h2=>h1=h2∧zC t 6=I i∧i≤F.length∧(∃ n,zC t 5=I n∧0≤n∧n≤most)∧∀ j,j<i→(F.getD j default).blocks.length≤20∧∀ b∈(F.getD j default).blocks,b.ins.length≤1000∧∀ x∈b.ins,x.args.length≤20∧x.frm.length≤20) 0 ?_ ?_
 ·exact⟨rfl,sl_,Nat.zero_le _,⟨0,sl_,by omega,by omega⟩,fun j hj=>absurd hj (Nat.not_lt_zero _)⟩
 rintro i t _ hsame ⟨rfl,s6,hi,⟨n,s5,hn0,hn⟩,hm⟩
 refine go ?_
 refine WX.br (fun hc=> ?_) (fun hc=> ?_)<;>simp only[DB]at hc
 ·have hi':i<F.length:=by omega
  obtain⟨csF,⟨vb,rfl,sb,hlb⟩,pcF,hsF⟩:=yS sf1 hi'
  refine go ?_
  refine WX.br (fun hd=> ?_) (fun hd=> ?_)<;>simp only[DB]at hd<;>refine go ?_
  ·refine rt ?_
   exact⟨.inl rfl,e1⟩
  refine WX.loopA [34,35,36,37,38,39,40,41,42,45,46,47,48,49,50,51,52,53,54,8,55,56,57,58,5,59,60,61,4,9,62,63,64,65,68,69,70,71,72,73,74,75,76,77,78,79,80,81,82,83,4,66,67,9,43,44,7] (by kernel_rfl) (fun k=>(F.getD i default).blocks.length - k) (fun k t h2=>h1=h2∧zC t 7=I k∧k≤(F.getD i default).blocks.length∧(∃ n,zC t 5=I n∧0≤n∧n≤most)∧∀ j,j<k→((F.getD i default).blocks.getD j default).ins.length≤1000∧∀ x∈((F.getD i default).blocks.getD j default).ins,x.args.length≤20∧x.frm.length≤20) 0 ?_ ?_
  ·exact⟨rfl,sl_,Nat.zero_le _,⟨n,sl_,hn0,hn⟩,fun j hj=>absurd hj (Nat.not_lt_zero _)⟩
  rintro k t2 _ hsame2 ⟨rfl,s7,hk,⟨n2,s5b,hn20,hn2⟩,hm2⟩
  refine go ?_
  refine WX.br (fun he=> ?_) (fun he=> ?_)<;>simp only[DB]at he
  ·have hk':k<(F.getD i default).blocks.length:=by omega
   obtain⟨csB,⟨vi,rfl,si,hli⟩,pcB,hsB⟩:=yS sb hk'
   refine go ?_
   refine WX.br (fun hf=> ?_) (fun hf=> ?_)<;>simp only[DB]at hf<;>refine go ?_
   ·refine rt ?_
    exact⟨.inl rfl,e1⟩
   refine WX.loopA [62,63,64,65,68,69,70,71,72,73,74,75,76,77,78,79,80,81,82,83,4,66,67,9] (by kernel_rfl) (fun j=>((F.getD i default).blocks.getD k default).ins.length - j) (fun j t h2=>h1=h2∧zC t 9=I j∧j≤((F.getD i default).blocks.getD k default).ins.length∧∀ q,q<j→(((F.getD i default).blocks.getD k default).ins.getD q default).args.length≤20∧(((F.getD i default).blocks.getD k default).ins.getD q default).frm.length≤20) 0 ?_ ?_
   ·exact⟨rfl,sl_,Nat.zero_le _,fun q hq=>absurd hq (Nat.not_lt_zero _)⟩
   rintro j t3 _ hsame3 ⟨rfl,s9,hj,hq9⟩
   refine go ?_
   refine WX.br (fun hg=> ?_) (fun hg=> ?_)<;>simp only[DB]at hg
   ·have hj':j<((F.getD i default).blocks.getD k default).ins.length:=by omega
    obtain⟨csI,⟨va,vfr,rfl,sa,sfr,hla,hlf,ho⟩,pcI,hsI⟩:=yS si hj'
    refine go ?_
    refine WO.sp (fun hh=> ?_) (fun hh=> ?_)<;>simp only[DB]at hh<;>refine go ?_
    ·refine rt ?_
     exact⟨.inl rfl,e1⟩
    refine WX.br (fun hh2=> ?_) (fun hh2=> ?_)<;>simp only[DB]at hh2<;>refine go ?_
    ·refine rt ?_
     exact⟨.inl rfl,e1⟩
    ·refine zA (j+1) (by omega) ⟨rfl,sln,by omega,fun q hq=> ?_⟩
     by_cases e:q=j
     ·subst e;omega
     ·exact hq9 q (by omega)
   ·refine go ?_
    refine zA (k+1) (by omega) ⟨rfl,sln,by omega,⟨n2+(((F.getD i default).blocks.getD k default).ins.length:Int),sl_,by omega,by omega⟩,fun q hq=> ?_⟩
    by_cases e:q=k
    ·subst e
     refine⟨by omega,fun x hx=> ?_⟩
     obtain⟨y,hy,rfl⟩:=Zg hx
     exact hq9 y (by omega)
    ·exact hm2 q (by omega)
  ·refine go ?_
   refine zA (i+1) (by omega) ⟨rfl,sln,by omega,⟨n2,sl_,hn20,hn2⟩,fun q hq=> ?_⟩
   by_cases e:q=i
   ·subst e
    refine⟨by omega,fun b hb=> ?_⟩
    obtain⟨y,hy,rfl⟩:=Zg hb
    exact hm2 y (by omega)
   ·exact hm q (by omega)
 ·refine go ?_
  refine rt ?_
  have hall:∀ f∈F,f.blocks.length≤20∧∀ b∈f.blocks,b.ins.length≤1000∧∀ x∈b.ins,x.args.length≤20∧x.frm.length≤20:=fun f hf=>by
   obtain⟨y,hy,rfl⟩:=Zg hf
   exact hm y (by omega)
  exact⟨.inr ⟨rfl,small_of hT2 hp2 (by omega) fun f hf=>⟨(hall f hf).1,fun b hb=>((hall f hf).2 b hb).1⟩,fun f hf b hb=>((hall f hf).2 b hb).2⟩,e1⟩
theorem great_ok (h:AHeap) (vt vf:Value) (T:List LType) (F:List LFn) (most:Int) (hmost:0≤most∧most≤1000) (st:SlT h vt T) (sf:SlF h vf F) (hT:(T.length:Int)≤9223372036854775807) (hF:(F.length:Int)≤9223372036854775807):
  WC Tryd.prog tb 12 [.agg #[vt,vf],I most] h fun r h'=>(r= .bool true∨r= .bool false∧Small T F)∧Ext h h':=
 (zIT h vt vf T F most hmost st sf hT hF).mono fun r h' ⟨hr,e⟩=>⟨hr.imp id fun h=>⟨h.1,h.2.1⟩,e⟩
end Go.Proofs.YtemggiegiejopaaDoor
namespace Go.Proofs.YtemggiegiejopaaDoor
open Go.Am
set_option linter.unusedVariables false
set_option linter.unusedSimpArgs false
set_option maxHeartbeats 4000000
def Z0 (x:LEnd):List Int:=if x.kind=1 then [x.to] else if x.kind=2 then (if x.to=x.els then [x.to] else [x.to,x.els]) else []
def Fresh (h:AHeap) (v:Value):Prop:=∀ a n c,v= .slice (some a) n c→h.n≤a.block
theorem Fresh.since {h h':AHeap} {v:Value} (f:Fresh h' v) (n:h.n≤h'.n):Fresh h v:=fun a k c e=>Nat.le_trans n (f a k c e)
theorem zEZ {h0 h:AHeap} {v:Value} {l:List Int} (o:OwnI h0 h v l):Fresh h0 v:=by
 obtain⟨g,a,_,rfl,_⟩:=o
 intro a n c e;cases e;assumption
noncomputable def body39_0:ACode:=(.seq (.seq (.region [⟨some 29,none,(.mov (.tmp 5))⟩,⟨some 30,none,(.mov (.tmp 4))⟩,⟨some 31,none,(.len (.tmp 30))⟩,⟨some 32,none,(.bin .lss (.tmp 29) (.tmp 31))⟩]) (.cond (.tmp 32) .skip (.exit 2))) (.seq (.block 3 (.seq (.regionC [(⟨some 35,none,(.mov (.tmp 4))⟩,[]),(⟨some 36,none,(.mov (.tmp 5))⟩,[]),(⟨some 37,none,(.idx 1 (.tmp 35) (.tmp 36))⟩,[]),(⟨some 38,none,(.load false 1 (.tmp 37))⟩,[]),(⟨some 39,none,(.mov (.tmp 4))⟩,[]),(⟨some 40,none,(.mov (.tmp 5))⟩,[]),(⟨some 41,none,(.bin .sub (.tmp 40) (.const (.int .i64 1)))⟩,[]),(⟨some 42,none,(.idx 1 (.tmp 39) (.tmp 41))⟩,[]),(⟨some 43,none,(.load false 1 (.tmp 42))⟩,[]),(⟨some 44,none,(.bin .neq (.tmp 38) (.tmp 43))⟩,[])]) (.cond (.tmp 44) (.seq (.region [⟨some 45,none,(.mov (.tmp 0))⟩,⟨some 46,none,(.mov (.tmp 3))⟩,⟨some 47,none,(.mov (.tmp 4))⟩,⟨some 48,none,(.mov (.tmp 5))⟩,⟨some 49,none,(.idx 1 (.tmp 47) (.tmp 48))⟩,⟨some 50,none,(.load false 1 (.tmp 49))⟩,⟨some 51,none,(.idx 1 (.tmp 45) (.tmp 46))⟩,⟨none,none,(.store 1 (.tmp 51) (.tmp 50))⟩]) (.region [⟨some 52,none,(.mov (.tmp 3))⟩,⟨some 53,none,(.bin .add (.tmp 52) (.const (.int .i64 1)))⟩,⟨some 3,none,(.mov (.tmp 53))⟩])) .skip))) (.region [⟨some 33,none,(.mov (.tmp 5))⟩,⟨some 34,none,(.bin .add (.tmp 33) (.const (.int .i64 1)))⟩,⟨some 5,none,(.mov (.tmp 34))⟩])))
noncomputable def body39_1:ACode:=(.seq (.seq (.region [⟨some 10,none,(.mov (.tmp 3))⟩,⟨some 11,none,(.mov (.tmp 0))⟩,⟨some 12,none,(.len (.tmp 11))⟩,⟨some 13,none,(.bin .lss (.tmp 10) (.tmp 12))⟩]) (.cond (.tmp 13) .skip (.exit 0))) (.seq (.block 1 (.seq (.regionC [(⟨some 16,none,(.mov (.tmp 0))⟩,[]),(⟨some 17,none,(.mov (.tmp 3))⟩,[]),(⟨some 18,none,(.idx 1 (.tmp 16) (.tmp 17))⟩,[]),(⟨some 19,none,(.load false 1 (.tmp 18))⟩,[]),(⟨some 20,none,(.mov (.tmp 0))⟩,[]),(⟨some 21,none,(.mov (.tmp 3))⟩,[]),(⟨some 22,none,(.bin .sub (.tmp 21) (.const (.int .i64 1)))⟩,[]),(⟨some 23,none,(.idx 1 (.tmp 20) (.tmp 22))⟩,[]),(⟨some 24,none,(.load false 1 (.tmp 23))⟩,[]),(⟨some 25,none,(.bin .eql (.tmp 19) (.tmp 24))⟩,[])]) (.cond (.tmp 25) (.seq (.region [⟨some 26,none,(.mov (.tmp 0))⟩,⟨some 27,none,(.mov (.tmp 3))⟩,⟨some 28,none,(.slice 1 (.tmp 26) (some (.tmp 27)) none none)⟩,⟨some 4,none,(.mov (.tmp 28))⟩]) (.seq (.seq (.region [⟨some 5,none,(.mov (.const (.int .i64 1)))⟩]) (.block 2 (.loop body39_0))) (.seq (.region [⟨some 54,none,(.mov (.tmp 0))⟩,⟨some 55,none,(.mov (.tmp 3))⟩,⟨some 56,none,(.slice 1 (.tmp 54) (some (.tmp 55)) none none)⟩,⟨none,none,(.clearS 1 [(.int .i64 0)] (.tmp 56))⟩]) (.seq (.region [⟨some 57,none,(.mov (.tmp 0))⟩,⟨some 58,none,(.mov (.tmp 3))⟩,⟨some 59,none,(.slice 1 (.tmp 57) none (some (.tmp 58)) none)⟩,⟨some 2,none,(.mov (.tmp 59))⟩]) .ret)))) .skip))) (.region [⟨some 14,none,(.mov (.tmp 3))⟩,⟨some 15,none,(.bin .add (.tmp 14) (.const (.int .i64 1)))⟩,⟨some 3,none,(.mov (.tmp 15))⟩])))
noncomputable def body39:ACode:=(.seq (.region [⟨some 2,none,(.mov (.const (.slice none 0 0)))⟩]) (.seq (.seq (.region [⟨some 6,none,(.mov (.tmp 0))⟩,⟨some 7,none,(.len (.tmp 6))⟩,⟨some 8,none,(.bin .lss (.tmp 7) (.const (.int .i64 2)))⟩]) (.cond (.tmp 8) (.seq (.region [⟨some 9,none,(.mov (.tmp 0))⟩,⟨some 2,none,(.mov (.tmp 9))⟩]) .ret) .skip)) (.seq (.seq (.region [⟨some 3,none,(.mov (.const (.int .i64 1)))⟩]) (.block 0 (.loop body39_1))) (.seq (.region [⟨some 60,none,(.mov (.tmp 0))⟩,⟨some 2,none,(.mov (.tmp 60))⟩]) .ret))))
set_option maxRecDepth 100000 in
theorem tab39:tb.code 39=some ⟨61,[(2,none)],body39⟩:=by kernel_rfl
theorem zG3 (h0 h:AHeap) (v:Value) (a b:Int) (e0:Ext h0 h) (o:OwnI h0 h v [a,b]):
  WC Tryd.prog tb 39 [v] h fun r h'=>SlI h' r (if a=b then [a] else [a,b])∧Fresh h0 r∧Ext h0 h':=by
 have s:SlI h v [a,b]:=o.sl
 have fr:=zEZ o
 refine WC.of (zF 39) tab39 ?_;simp only[zO,Nat.zero_add,Nat.reduceAdd]
 refine go ?_
 refine WX.br (fun hb=> ?_) (fun hb=> ?_)<;>simp only[DB]at hb
 ·exact absurd hb (by simp)
 refine go ?_
 refine WX.loopA [10,11,12,13,16,17,18,19,20,21,22,23,24,25,26,27,28,4,5,29,30,31,32,35,36,37,38,39,40,41,42,43,44,45,46,47,48,49,50,51,52,53,3,33,34,5,54,55,56,57,58,59,2,14,15,3] (by kernel_rfl) (fun i=>2 - i) (fun i t h1=>h=h1∧zC t 3=I i∧(i=1∨i=2∧a≠b)) 1 ?_ ?_
 ·exact⟨rfl,sl_,.inl rfl⟩
 rintro i t _ hsame ⟨rfl,s3,hi⟩
 have hlen:([a,b]:List Int).length=2:=rfl
 refine go ?_
 refine WX.br (fun hc=> ?_) (fun hc=> ?_)<;>simp only[DB]at hc
 ·have hi1:i=1:=by rw[hlen]at hc;omega
  subst hi1
  refine go ?_
  refine WX.br (fun hd=> ?_) (fun hd=> ?_)<;>simp only[DB]at hd
  ·have hab:a=b:=by simpa [List.getD]using hd.symm
   subst hab
   obtain⟨g,g1,g2,rfl,g3⟩:=o
   refine go ?_
   refine WO.slLo (i:=1) (v:= .slice (some ⟨g,0,none⟩) [a,a].length 1) (r:= .slice (some ⟨g,1,none⟩) 1 1) (by rfl) ?_
   have s4:SlI h (.slice (some ⟨g,1,none⟩) 1 1) [a]:=⟨rfl,.inr ⟨g,1,_,rfl,ZO g3,by rfl,g2⟩⟩
   refine go ?_
   refine WX.loopA [29,30,31,32,35,36,37,38,39,40,41,42,43,44,45,46,47,48,49,50,51,52,53,3,33,34,5] (by kernel_rfl) (fun i=>1) (fun (i:Unit) t h1=>h=h1∧zC t 5=I 1∧zC t 3=I ((1:Nat):Int)) () ?_ ?_
   ·exact⟨rfl,sl_,sl_⟩
   rintro _ t2 _ hsame2 ⟨rfl,s5,s3b⟩
   have hlen1:([a]:List Int).length=1:=rfl
   refine go ?_
   refine WO.slLo (i:=1) (v:= .slice (some ⟨g,0,none⟩) [a,a].length 1) (r:= .slice (some ⟨g,1,none⟩) 1 1) (by rfl) ?_
   have hcl:zAy 1 [I 0] (.slice (some ⟨g,1,none⟩) 1 1) h=some (.tuple #[],h.set g (.row [I a,I 0] true 0)):=by
    show ((zU h ⟨g,1,none⟩ [I 0]).map (Value.tuple #[],·))=_
    have:zU h ⟨g,1,none⟩ [I 0]=some (h.set g (.row [I a,I 0] true 0)):=by
     unfold zU;rw[g3];rfl
    rw[this];rfl
   refine WO.clS hcl ?_
   have e1:Ext h0 (h.set g (.row [I a,I 0] true 0)):=e0.set g1 g2 _
   refine go ?_
   refine WO.slHi (i:=1) (v:= .slice (some ⟨g,0,none⟩) [a,a].length 1) (r:= .slice (some ⟨g,0,none⟩) 1 1) (by rfl) ?_
   refine go ?_
   refine rt ?_
   refine⟨?_,(fun a k c e=>by cases e;exact g1),e1⟩
   rw[if_pos rfl]
   exact⟨rfl,.inr ⟨g,0,[I a,I 0],rfl,by unfold zg;rw[zM,if_pos rfl],by rfl,g2⟩⟩
  ·have hab:a≠b:=fun e=>hd (by simp[List.getD,e])
   refine go ?_
   exact zA 2 (by omega) ⟨rfl,sl_,.inr ⟨rfl,hab⟩⟩
 ·refine go ?_
  refine rt ?_
  have:a≠b:=by rcases hi with rfl|⟨_,h⟩;· exact absurd hc (by simp)
               ·exact h
  exact⟨by rw[if_neg this];exact s,fr,e0⟩
noncomputable def body31:ACode:=(.seq (.region [⟨some 1,none,(.box (.tmp 0))⟩,⟨some 2,none,(.mov (.const (.slice none 0 0)))⟩]) (.seq (.seq (.region [⟨some 3,none,(.fld 0 (.tmp 1))⟩,⟨some 4,none,(.load false 1 (.tmp 3))⟩]) (.block 0 (.seq (.region [⟨some 6,none,(.bin .eql (.tmp 4) (.const (.int .u8 1)))⟩,⟨some 5,none,(.mov (.tmp 6))⟩]) (.cond (.tmp 5) (.seq (.region [⟨some 7,none,(.fld 2 (.tmp 1))⟩,⟨some 8,none,(.load false 1 (.tmp 7))⟩,⟨some 9,none,(.buildSlice 1 1 [(.int .i64 0)] [(0,1,(.tmp 8))])⟩,⟨some 2,none,(.mov (.tmp 9))⟩]) .ret) (.seq (.region [⟨some 11,none,(.bin .eql (.tmp 4) (.const (.int .u8 2)))⟩,⟨some 10,none,(.mov (.tmp 11))⟩]) (.cond (.tmp 10) (.seq (.region [⟨some 12,none,(.fld 2 (.tmp 1))⟩,⟨some 13,none,(.load false 1 (.tmp 12))⟩,⟨some 14,none,(.fld 3 (.tmp 1))⟩,⟨some 15,none,(.load false 1 (.tmp 14))⟩,⟨some 16,none,(.buildSlice 2 1 [(.int .i64 0)] [(0,1,(.tmp 13)),(1,1,(.tmp 15))])⟩,⟨some 17,none,(.call (.func 39) [(.tmp 16)])⟩,⟨some 2,none,(.mov (.tmp 17))⟩]) .ret) .skip)))))) (.seq (.region [⟨some 2,none,(.mov (.const (.slice none 0 0)))⟩]) .ret)))
set_option maxRecDepth 100000 in
theorem tab31:tb.code 31=some ⟨18,[(2,none)],body31⟩:=by kernel_rfl
theorem zHz (h:AHeap) (x:LEnd):
  WC Tryd.prog tb 31 [.agg #[.int .u8 x.kind,I x.a,I x.to,I x.els]] h fun r h'=>SlI h' r (Z0 x)∧Fresh h r∧Ext h h':=by
 refine WC.of (zF 31) tab31 ?_;simp only[zO,Nat.zero_add,Nat.reduceAdd]
 refine go ?_
 refine WO.bx ?_
 intro p h1 e1 o1
 refine go ?_
 refine WX.br (fun hb=> ?_) (fun hb=> ?_)<;>simp only[DB]at hb<;>refine go ?_
 ·refine WO.bl [x.to] ?_
  intro v h2 e2 o2
  refine go ?_
  refine rt ?_
  refine⟨?_,(zEZ o2).since e1.n,e1.trans e2⟩
  rw[Z0,if_pos hb];exact o2.sl
 refine WX.br (fun hc=> ?_) (fun hc=> ?_)<;>simp only[DB]at hc<;>refine go ?_
 ·refine WO.bl [x.to,x.els] ?_
  intro v h2 e2 o2
  refine go ?_
  refine WO.con (zG3 h1 h2 v x.to x.els e2 o2) ?_
  rintro r h3 ⟨s3,f3,e3⟩
  refine go ?_
  refine rt ?_
  refine⟨?_,f3.since e1.n,e1.trans e3⟩
  rw[Z0,if_neg hb,if_pos hc];exact s3
 ·refine rt ?_
  refine⟨?_,(fun a k c e=>by cases e),e1⟩
  rw[Z0,if_neg hb,if_neg hc];exact SlI.nil _
def zW (T:List LType) (F:List LFn) (f b:Int):List LBlk×Int:=
 if (YE T F f).2≠0 then ([],(YE T F f).2) else if b<0∨((F.getD f.toNat default).blocks.length:Int)≤b then ([],2) else ((F.getD f.toNat default).blocks,0)
theorem zH5 {T:List LType} {F:List LFn} {f:Int} (h:(YE T F f).2=0):0≤f∧f<(F.length:Int)∧Y9 T F=0:=by
 have hb2:(yV T F f).2=0:=by
  unfold YE at h
  split at h
  ·rename_i hn;exact absurd h hn
  ·rename_i hn;omega
 unfold yV at hb2
 split at hb2
 ·rename_i hp;exact absurd hb2 hp
 ·rename_i hp
  split at hb2
  ·rename_i hc;unfold zQ at hc;simp at hc;exact⟨hc.1,hc.2,by omega⟩
  ·cases hb2
noncomputable def body30:ACode:=(.seq (.region [⟨some 3,none,(.box (.tmp 0))⟩,⟨some 6,none,(.mov (.const (.slice none 0 0)))⟩,⟨some 7,none,(.mov (.const (.int .i64 0)))⟩]) (.seq (.seq (.region [⟨some 11,none,(.load true 2 (.tmp 3))⟩,⟨some 12,none,(.mov (.tmp 1))⟩,⟨some 13,none,(.call (.func 13) [(.tmp 11),(.tmp 12)])⟩,⟨some 10,none,(.mov (.tmp 13))⟩,⟨some 14,none,(.extract (.tmp 10) 0)⟩,⟨some 15,none,(.extract (.tmp 10) 1)⟩,⟨some 8,none,(.mov (.tmp 14))⟩,⟨some 9,none,(.mov (.tmp 15))⟩]) (.seq (.region [⟨some 16,none,(.mov (.tmp 9))⟩,⟨some 17,none,(.bin .neq (.tmp 16) (.const (.int .i64 0)))⟩]) (.cond (.tmp 17) (.seq (.region [⟨some 18,none,(.mov (.tmp 9))⟩,⟨some 6,none,(.mov (.const (.slice none 0 0)))⟩,⟨some 7,none,(.mov (.tmp 18))⟩]) .ret) .skip))) (.seq (.seq (.region [⟨some 19,none,(.mov (.tmp 2))⟩,⟨some 20,none,(.bin .lss (.tmp 19) (.const (.int .i64 0)))⟩,⟨some 21,none,(.mov (.tmp 20))⟩,⟨some 22,some (21,false),(.mov (.tmp 2))⟩,⟨some 23,some (21,false),(.fld 1 (.tmp 3))⟩,⟨some 24,some (21,false),(.load false 1 (.tmp 23))⟩,⟨some 25,some (21,false),(.mov (.tmp 1))⟩,⟨some 26,some (21,false),(.idx 2 (.tmp 24) (.tmp 25))⟩,⟨some 27,some (21,false),(.fld 1 (.tmp 26))⟩,⟨some 28,some (21,false),(.load false 1 (.tmp 27))⟩,⟨some 29,some (21,false),(.len (.tmp 28))⟩,⟨some 30,some (21,false),(.bin .geq (.tmp 22) (.tmp 29))⟩,⟨some 31,none,(.pick (.tmp 21) (.const (.bool true)) (.tmp 30))⟩]) (.cond (.tmp 31) (.seq (.region [⟨some 6,none,(.mov (.const (.slice none 0 0)))⟩,⟨some 7,none,(.mov (.const (.int .i64 2)))⟩]) .ret) .skip)) (.seq (.region [⟨some 32,none,(.fld 1 (.tmp 3))⟩,⟨some 33,none,(.load false 1 (.tmp 32))⟩,⟨some 34,none,(.mov (.tmp 1))⟩,⟨some 35,none,(.idx 2 (.tmp 33) (.tmp 34))⟩,⟨some 36,none,(.fld 1 (.tmp 35))⟩,⟨some 37,none,(.load false 1 (.tmp 36))⟩,⟨some 6,none,(.mov (.tmp 37))⟩,⟨some 7,none,(.mov (.const (.int .i64 0)))⟩]) .ret))))
set_option maxRecDepth 100000 in
theorem tab30:tb.code 30=some ⟨38,[(6,none),(7,none)],body30⟩:=by kernel_rfl
theorem zEl (h:AHeap) (vt vf:Value) (T:List LType) (F:List LFn) (f b:Int) (tt:Tbl h) (hm:h.mark≤h.n) (sm:Small T F) (st:SlT h vt T) (sf:SlF h vf F):
  WC Tryd.prog tb 30 [.agg #[vt,vf],I f,I b] h fun r h'=>(∃ v,r= .tuple #[v,I (zW T F f b).2]∧SlB h' v (zW T F f b).1)∧Ext h h':=by
 refine WC.of (zF 30) tab30 ?_;simp only[zO,Nat.zero_add,Nat.reduceAdd]
 refine go ?_
 refine WO.bx ?_
 intro p h1 e1 o1
 refine go ?_
 refine WO.con (zH1 h1 vt vf T F f (tt.ext e1) (ZH e1 hm) sm (st.ext e1) (SlF.ext sf e1)) ?_
 rintro _ h2 ⟨rfl,e2⟩
 have e12:=e1.trans e2
 have o1:=o1.ext e2
 have sf2:=SlF.ext sf e12
 have hF:=sm.funcs
 refine go ?_
 refine WX.br (fun hb=> ?_) (fun hb=> ?_)<;>simp only[DB]at hb<;>refine go ?_
 ·refine rt ?_
  rw[show zW T F f b=([],(YE T F f).2) from by rw[zW,if_pos hb]]
  exact⟨⟨_,rfl,SlR.nil⟩,e12⟩
 have hb0:(YE T F f).2=0:=by omega
 have hin:=zH5 hb0
 obtain⟨csF,⟨vb,rfl,sb,hlb⟩,pcF,hsF⟩:=yS (i:=f.toNat) sf2 (by omega)
 refine WO.sp (fun hc=> ?_) (fun hc=> ?_)<;>simp only[DB]at hc<;>refine go ?_
 ·refine rt ?_
  rw[show zW T F f b=([],2) from by rw[zW,if_neg (by omega),if_pos (.inl hc)]]
  exact⟨⟨_,rfl,SlR.nil⟩,e12⟩
 refine WX.br (fun hd=> ?_) (fun hd=> ?_)<;>simp only[DB]at hd<;>refine go ?_<;>refine rt ?_
 ·rw[show zW T F f b=([],2) from by rw[zW,if_neg (by omega),if_pos (.inr hd)]]
  exact⟨⟨_,rfl,SlR.nil⟩,e12⟩
 ·rw[show zW T F f b=((F.getD f.toNat default).blocks,0) from by rw[zW,if_neg (by omega),if_neg (by omega)]]
  exact⟨⟨_,rfl,sb⟩,e12⟩
noncomputable def body18:ACode:=(.seq (.region [⟨some 3,none,(.box (.tmp 0))⟩,⟨some 6,none,(.mov (.const (.slice none 0 0)))⟩,⟨some 7,none,(.mov (.const (.int .i64 0)))⟩]) (.seq (.region [⟨some 11,none,(.load true 2 (.tmp 3))⟩,⟨some 12,none,(.mov (.tmp 1))⟩,⟨some 13,none,(.mov (.tmp 2))⟩,⟨some 14,none,(.call (.func 30) [(.tmp 11),(.tmp 12),(.tmp 13)])⟩,⟨some 10,none,(.mov (.tmp 14))⟩,⟨some 15,none,(.extract (.tmp 10) 0)⟩,⟨some 16,none,(.extract (.tmp 10) 1)⟩,⟨some 8,none,(.mov (.tmp 15))⟩,⟨some 9,none,(.mov (.tmp 16))⟩]) (.seq (.seq (.region [⟨some 17,none,(.mov (.tmp 9))⟩,⟨some 18,none,(.bin .neq (.tmp 17) (.const (.int .i64 0)))⟩]) (.cond (.tmp 18) (.seq (.region [⟨some 19,none,(.mov (.tmp 9))⟩,⟨some 6,none,(.mov (.const (.slice none 0 0)))⟩,⟨some 7,none,(.mov (.tmp 19))⟩]) .ret) .skip)) (.seq (.region [⟨some 20,none,(.mov (.tmp 8))⟩,⟨some 21,none,(.mov (.tmp 2))⟩,⟨some 22,none,(.idx 5 (.tmp 20) (.tmp 21))⟩,⟨some 23,none,(.fld 1 (.tmp 22))⟩,⟨some 24,none,(.load true 4 (.tmp 23))⟩,⟨some 25,none,(.call (.func 31) [(.tmp 24)])⟩,⟨some 6,none,(.mov (.tmp 25))⟩,⟨some 7,none,(.mov (.const (.int .i64 0)))⟩]) .ret))))
set_option maxRecDepth 100000 in
theorem tab18:tb.code 18=some ⟨26,[(6,none),(7,none)],body18⟩:=by kernel_rfl
def YU (T:List LType) (F:List LFn) (f b:Int):List Int×Int:=
 if (zW T F f b).2≠0 then ([],(zW T F f b).2) else (Z0 ((zW T F f b).1.getD b.toNat default).fin,0)
theorem zCV {T:List LType} {F:List LFn} {f b:Int} (h:(zW T F f b).2=0):0≤b∧b<((zW T F f b).1.length:Int)∧(zW T F f b).1=(F.getD f.toNat default).blocks∧(YE T F f).2=0:=by
 unfold zW at h ⊢
 split at h
 ·rename_i hn;exact absurd h hn
 ·rename_i hn
  rw[if_neg hn]
  split at h
  ·cases h
  ·rename_i hb
   rw[if_neg hb]
   exact⟨by omega,by simp only;omega,rfl,by omega⟩
theorem zE4 (h:AHeap) (vt vf:Value) (T:List LType) (F:List LFn) (f b:Int) (tt:Tbl h) (hm:h.mark≤h.n) (sm:Small T F) (st:SlT h vt T) (sf:SlF h vf F):
  WC Tryd.prog tb 18 [.agg #[vt,vf],I f,I b] h fun r h'=>(∃ v,r= .tuple #[v,I (YU T F f b).2]∧SlI h' v (YU T F f b).1∧Fresh h v)∧Ext h h':=by
 refine WC.of (zF 18) tab18 ?_;simp only[zO,Nat.zero_add,Nat.reduceAdd]
 refine go ?_
 refine WO.bx ?_
 intro p h1 e1 o1
 refine go ?_
 refine WO.con (zEl h1 vt vf T F f b (tt.ext e1) (ZH e1 hm) sm (st.ext e1) (SlF.ext sf e1)) ?_
 rintro _ h2 ⟨⟨v,rfl,sb⟩,e2⟩
 have e12:=e1.trans e2
 refine go ?_
 refine WX.br (fun hb=> ?_) (fun hb=> ?_)<;>simp only[DB]at hb<;>refine go ?_
 ·refine rt ?_
  rw[show YU T F f b=([],(zW T F f b).2) from by rw[YU,if_pos hb]]
  exact⟨⟨_,rfl,SlI.nil _,(fun a k c e=>by cases e)⟩,e12⟩
 have hb0:(zW T F f b).2=0:=by omega
 have hin:=zCV hb0
 obtain⟨csB,⟨vi,rfl,si,hli⟩,pcB,hsB⟩:=yS (i:=b.toNat) sb (by omega)
 refine go ?_
 refine WO.con (zHz h2 _) ?_
 rintro r h3 ⟨s3,f3,e3⟩
 refine go ?_
 refine rt ?_
 rw[show YU T F f b=(Z0 ((zW T F f b).1.getD b.toNat default).fin,0) from by rw[YU,if_neg (by omega)]]
 exact⟨⟨_,rfl,s3,f3.since e12.n⟩,e12.trans e3⟩
end Go.Proofs.YtemggiegiejopaaDoor
namespace Go.Proofs.YtemggiegiejopaaDoor
open Go.Am
set_option linter.unusedVariables false
set_option linter.unusedSimpArgs false
set_option maxHeartbeats 4000000
theorem mem_of {l:List Int} {n:Int} {i:Nat} (h:i<l.length) (e:l.getD i 0=n):n∈l:=e▸ZV h
theorem zDL {l:List Int} {n:Int} (h:∀ i,i<l.length→l.getD i 0≠n):n∉l:=fun hn=>by
 obtain⟨i,hi,e⟩:=zGa hn
 exact h i hi e
noncomputable def body71_0:ACode:=(.seq (.region [⟨some 9,none,(.bin .lss (.tmp 8) (.tmp 7))⟩]) (.seq (.cond (.tmp 9) .skip (.exit 0)) (.seq (.block 1 (.seq (.region [⟨some 10,none,(.mov (.tmp 8))⟩,⟨some 5,none,(.mov (.tmp 10))⟩]) (.seq (.region [⟨some 11,none,(.mov (.tmp 1))⟩,⟨some 12,none,(.mov (.tmp 0))⟩,⟨some 13,none,(.mov (.tmp 5))⟩,⟨some 14,none,(.idx 1 (.tmp 12) (.tmp 13))⟩,⟨some 15,none,(.load false 1 (.tmp 14))⟩,⟨some 16,none,(.bin .eql (.tmp 11) (.tmp 15))⟩]) (.cond (.tmp 16) (.seq (.region [⟨some 17,none,(.mov (.tmp 5))⟩,⟨some 4,none,(.mov (.tmp 17))⟩]) .ret) .skip)))) (.region [⟨some 18,none,(.bin .add (.tmp 8) (.const (.int .i64 1)))⟩,⟨some 8,none,(.mov (.tmp 18))⟩]))))
noncomputable def body71:ACode:=(.seq (.region [⟨some 4,none,(.mov (.const (.int .i64 0)))⟩]) (.seq (.seq (.region [⟨some 6,none,(.mov (.tmp 0))⟩,⟨some 7,none,(.len (.tmp 6))⟩,⟨some 8,none,(.mov (.const (.int .i64 0)))⟩]) (.block 0 (.loop body71_0))) (.seq (.region [⟨some 4,none,(.mov (.const (.int .i64 (-1))))⟩]) .ret)))
set_option maxRecDepth 100000 in
theorem tab71:tb.code 71=some ⟨19,[(4,none)],body71⟩:=by kernel_rfl
theorem index_ok (h:AHeap) (v:Value) (l:List Int) (n:Int) (s:SlI h v l) (hl:(l.length:Int)≤9223372036854775807):
  WC Tryd.prog tb 71 [v,I n] h fun r h'=>(∃ k:Int,r=I k∧decide (0≤k)=decide (n∈l))∧h=h':=by
 refine WC.of (zF 71) tab71 ?_;simp only[zO,Nat.zero_add,Nat.reduceAdd]
 refine go ?_
 refine WX.loopA [9,10,5,11,12,13,14,15,16,17,4,18,8] (by kernel_rfl) (fun i=>l.length - i) (fun i t h1=>h=h1∧zC t 8=I i∧i≤l.length∧∀ j,j<i→l.getD j 0≠n) 0 ?_ ?_
 ·exact⟨rfl,sl_,Nat.zero_le _,fun j hj=>absurd hj (Nat.not_lt_zero _)⟩
 rintro i t _ hsame ⟨rfl,s8,hi,hm⟩
 refine go ?_
 refine WX.br (fun hb=> ?_) (fun hb=> ?_)<;>simp only[DB]at hb
 ·have hi':i<l.length:=by omega
  refine go ?_
  refine WX.br (fun hc=> ?_) (fun hc=> ?_)<;>simp only[DB]at hc<;>refine go ?_
  ·refine rt ?_
   exact⟨⟨i,rfl,by rw[decide_eq_true (mem_of hi' hc.symm)];simp⟩,rfl⟩
  ·refine zA (i+1) (by omega) ⟨rfl,sln,by omega,fun j hj=> ?_⟩
   by_cases e:j=i
   ·subst e;exact fun h=>hc h.symm
   ·exact hm j (by omega)
 ·refine go ?_
  refine rt ?_
  exact⟨⟨-1,rfl,by rw[decide_eq_false (zDL fun j hj=>hm j (by omega))];rfl⟩,rfl⟩
noncomputable def body55:ACode:=(.seq (.region [⟨some 4,none,(.mov (.const (.bool false)))⟩]) (.seq (.region [⟨some 5,none,(.mov (.tmp 0))⟩,⟨some 6,none,(.mov (.tmp 1))⟩,⟨some 7,none,(.call (.func 71) [(.tmp 5),(.tmp 6)])⟩,⟨some 8,none,(.bin .geq (.tmp 7) (.const (.int .i64 0)))⟩,⟨some 4,none,(.mov (.tmp 8))⟩]) .ret))
set_option maxRecDepth 100000 in
theorem tab55:tb.code 55=some ⟨9,[(4,none)],body55⟩:=by kernel_rfl
theorem zGL (h:AHeap) (v:Value) (l:List Int) (n:Int) (s:SlI h v l) (hl:(l.length:Int)≤9223372036854775807):
  WC Tryd.prog tb 55 [v,I n] h fun r h'=>r= .bool (decide (n∈l))∧h=h':=by
 refine WC.of (zF 55) tab55 ?_;simp only[zO,Nat.zero_add,Nat.reduceAdd]
 refine go ?_
 refine WO.con (index_ok h v l n s hl) ?_
 rintro _ _ ⟨⟨k,rfl,e⟩,rfl⟩
 refine go ?_
 refine rt ?_
 exact⟨by rw[←e];rfl,rfl⟩
end Go.Proofs.YtemggiegiejopaaDoor
namespace Go.Proofs.YtemggiegiejopaaDoor
open Go.Am
set_option linter.unusedVariables false
set_option linter.unusedSimpArgs false
abbrev DS:=List (Int×Int)×List Int
end Go.Proofs.YtemggiegiejopaaDoor
namespace Go.Am
section
variable {P:Program} {tab:Tab} {t:Trie Value} {h h0:AHeap} {ds:List Deferred} {rd:Option Nat} {l:List AOper} {Q:AFr→AHeap→Prop} {d:Nat}
end
end Go.Am
namespace Go.Proofs.YtemggiegiejopaaDoor
open Go.Am
set_option linter.unusedVariables false
set_option linter.unusedSimpArgs false
set_option maxHeartbeats 4000000
def NotW (p vm vd:Value) (g:Nat):Prop:=p≠ .pointer (some ⟨g,0,none⟩)∧vm≠ .map (some g)∧∀ a n c,vd= .slice (some a) n c→a.block≠g
def Keep (h h':AHeap) (p vm vd vd':Value):Prop:=h.n≤h'.n∧∀ g,g<h.n→NotW p vm vd g→h'.get g=h.get g∧NotW p vm vd' g
theorem Keep.refl (h:AHeap) (p vm vd:Value):Keep h h p vm vd vd:=⟨Nat.le_refl _,fun _ _ n=>⟨rfl,n⟩⟩
theorem Keep.trans {h h1 h2:AHeap} {p vm vd vd1 vd2:Value} (a:Keep h h1 p vm vd vd1) (b:Keep h1 h2 p vm vd1 vd2):Keep h h2 p vm vd vd2:=
 ⟨Nat.le_trans a.1 b.1,fun g hg nw=>let ⟨x,y⟩:=a.2 g hg nw;let ⟨u,v⟩:=b.2 g (Nat.lt_of_lt_of_le hg a.1) y;⟨u.trans x,v⟩⟩
theorem Keep.ext {h h':AHeap} (e:Ext h h') (p vm vd:Value):Keep h h' p vm vd vd:=⟨e.n,fun g hg n=>⟨e.get g hg,n⟩⟩
def Off (h:AHeap) (p vm vd v:Value) (l:List Int):Prop:=l=[]∨∃ g off,v= .slice (some ⟨g,off,none⟩) l.length 1∧g<h.n∧NotW p vm vd g
theorem sl_empty {h h':AHeap} {v:Value} (s:SlI h v []):SlI h' v []:=by
 refine⟨rfl,.inl ⟨rfl,?_⟩⟩
 rcases s.2 with ⟨_,hv⟩|⟨g,off,row,hv,_⟩
 ·exact hv
 ·exact .inr ⟨_,_,hv⟩
theorem Keep.sl {h h':AHeap} {p vm vd vd' v:Value} {l:List Int} (k:Keep h h' p vm vd vd') (s:SlI h v l) (o:Off h p vm vd v l):SlI h' v l∧Off h' p vm vd' v l:=by
 rcases o with rfl|⟨g,off,rfl,hg,nw⟩
 ·exact⟨sl_empty s,.inl rfl⟩
 ·obtain⟨e1,e2⟩:=k.2 g hg nw
  refine⟨⟨s.1,?_⟩,.inr ⟨g,off,rfl,Nat.lt_of_lt_of_le hg k.1,e2⟩⟩
  rcases s.2 with ⟨h0,hv⟩|⟨g',off',row,hv,hr,hc,hl⟩
  ·exact .inl ⟨h0,hv⟩
  ·cases hv
   exact .inr ⟨g,off,row,rfl,by unfold zg at *;rw[e1];exact hr,hc,Nat.lt_of_lt_of_le hg k.1⟩
theorem own_ne {h0 h1 h:AHeap} {p v:Value} {a:Option Addr} {n k:Nat} {cs:List Value} {xs:List Int} (o:OwnC h0 h p (.slice a n k::cs)) (i:OwnN h1 h v xs):∀ b m c,v= .slice (some b) m c→p≠ .pointer (some ⟨b.block,0,none⟩):=by
 intro b m c hv hp
 obtain⟨g,_,_,rfl,hg⟩:=o
 rcases i with ⟨rfl,_⟩|⟨g2,_,_,rfl,hg2⟩
 ·cases hv
 ·cases hv;cases hp
  rw[hg]at hg2
  cases xs with
  |nil=>cases hg2
  |cons x xs=>cases hg2
theorem OwnC.upd {h0 h h':AHeap} {p v:Value} {a:Option Addr} {n k:Nat} {cs:List Value} {xs:List Int} (o:OwnC h0 h p (.slice a n k::cs)) (i:OwnN h0 h v xs) (u:Upd v h h'):OwnC h0 h' p (.slice a n k::cs):=by
 have hne:=own_ne o i
 obtain⟨g,g1,g2,rfl,hg⟩:=o
 exact⟨g,g1,Nat.lt_of_lt_of_le g2 u.1,rfl,(u.2 g g2 fun b m c hv e=>hne b m c hv (by rw[e])).trans hg⟩
theorem OwnM.updC {h0 h h':AHeap} {p m:Value} {cs:List Value} {es:List (Int×Int)} (i:OwnM h0 h m es) (o:OwnC h0 h p cs) (u:UpdC p h h'):OwnM h0 h' m es:=by
 obtain⟨g3,c,es',g1,g2,rfl,h3,h4⟩:=i
 refine⟨g3,c,es',g1,Nat.lt_of_lt_of_le g2 u.1,rfl,(u.2 g3 g2 fun e=> ?_).trans h3,h4⟩
 obtain⟨g,_,_,rfl,hg⟩:=o
 cases e;rw[h3]at hg;cases hg
theorem OwnI.updC {h0 h h':AHeap} {p v:Value} {a:Option Addr} {n k:Nat} {cs:List Value} {xs:List Int} (i:OwnI h0 h v xs) (o:OwnC h0 h p (.slice a n k::cs)) (u:UpdC p h h'):OwnI h0 h' v xs:=by
 have hne:=own_ne o (.inr i)
 obtain⟨g,g1,g2,rfl,hg⟩:=i
 exact⟨g,g1,Nat.lt_of_lt_of_le g2 u.1,rfl,(u.2 g g2 fun e=>hne _ _ _ rfl e).trans hg⟩
def nxL (L:List LBlk) (b:Int):List Int:=Z0 (L.getD b.toNat default).fin
end Go.Proofs.YtemggiegiejopaaDoor
namespace Go.Proofs.YtemggiegiejopaaDoor
open Go.Am
set_option linter.unusedVariables false
set_option linter.unusedSimpArgs false
set_option maxHeartbeats 4000000
section
variable {t:Trie Value}
end
theorem next_len (x:LEnd):(Z0 x).length≤2:=by
 unfold Z0
 split
 ·simp
 ·split
  ·split<;>simp
  ·simp
end Go.Proofs.YtemggiegiejopaaDoor
namespace Go.Proofs.YtemggiegiejopaaDoor
open Go.Am
set_option linter.unusedVariables false
set_option linter.unusedSimpArgs false
set_option maxHeartbeats 4000000
theorem ends_in {T:List LType} {n:Int} {f:LFn} (h:fnL T n f=true):f.blocks.length≤16∧∀ b,0≤b∧b<(f.blocks.length:Int)→∀ c∈nxL f.blocks b,0≤c∧c<(f.blocks.length:Int):=by
 unfold fnL at h
 split at h
 ·cases h
 ·rename_i hbad
  have hlen:f.blocks.length≤16:=by
   unfold zCK at hbad
   simp only[Bool.or_eq_true,not_or,Bool.not_eq_true,Bool.not_eq_false']at hbad
   have h1:zQ ((f.blocks.length:Int) - 1) 16=true:=by simpa using hbad.1.2
   unfold zQ at h1
   simp only[Bool.and_eq_true,decide_eq_true_eq]at h1
   omega
  refine⟨hlen,fun b hb c hc=> ?_⟩
  rw[Bool.not_eq_true',List.any_eq_false]at h
  have hmem:=zL (l:=f.blocks) (i:=b.toNat) (by omega)
  have hblk:=h _ hmem
  unfold blkL at hblk
  simp only[Bool.or_eq_true,not_or,Bool.not_eq_true,Bool.not_eq_false']at hblk
  have he:zBP (f.blocks.getD b.toNat default).fin (szL T n f)=true:=by simpa using hblk.2
  unfold nxL Z0 at hc
  unfold zBP zQ szL at he
  split at hc
  ·rename_i hk
   rw[if_pos hk]at he
   simp only[Bool.and_eq_true,decide_eq_true_eq]at he
   simp only[List.mem_singleton]at hc
   omega
  ·rename_i hk
   rw[if_neg hk]at he
   split at hc
   ·rename_i hk2
    rw[if_pos hk2]at he
    simp only[Bool.and_eq_true,decide_eq_true_eq]at he
    split at hc
    ·simp only[List.mem_singleton]at hc;omega
    ·simp only[List.mem_cons,List.mem_nil_iff,or_false]at hc
     rcases hc with rfl|rfl<;>omega
   ·cases hc
theorem zIx {T:List LType} {F:List LFn} {f b:Int} (h:(zW T F f b).2=0):(zW T F f b).1.length≤16∧∀ c,0≤c∧c<((zW T F f b).1.length:Int)→∀ d∈nxL (zW T F f b).1 c,0≤d∧d<((zW T F f b).1.length:Int):=by
 obtain⟨_,_,h3,h4⟩:=zCV h
 have hin:=zH5 h4
 rw[h3]
 exact ends_in ((zBl hin.2.2).2.2.2 _ (zL (l:=F) (i:=f.toNat) (by omega)))
end Go.Proofs.YtemggiegiejopaaDoor
namespace Go.Proofs.YtemggiegiejopaaDoor
open Go.Am
set_option linter.unusedVariables false
set_option linter.unusedSimpArgs false
inductive Way (nx:Int→List Int) (a:Int):Int→Prop
 |here:Way nx a a
 |step {b c:Int}:Way nx a b→c∈nx b→Way nx a c
theorem Way.trans {nx:Int→List Int} {a b c:Int} (h:Way nx a b) (k:Way nx b c):Way nx a c:=by
 induction k with
 |here=>exact h
 |step _ hc ih=>exact .step ih hc
def Bg (s:DS) (c:Int):Prop:=(s.1.lookup c).isSome=true
structure Thru (nx:Int→List Int) (l:List Int) (s s':DS):Prop where
 mono:∀ c,Bg s c→Bg s' c
 keep:∀ c∈s.2,c∈s'.2
 all:∀ c∈l,Bg s' c
 way:∀ c,Bg s' c→Bg s c∨∃ a∈l,Way nx a c
 done:∀ c,Bg s' c→Bg s c∨c∈s'.2∧∀ d∈nx c,Bg s' d
 of:∀ c∈s'.2,c∈s.2∨Bg s' c
theorem Thru.nil (nx:Int→List Int) (s:DS):Thru nx [] s s:=
 ⟨fun _ h=>h,fun _ h=>h,(fun _ h=>by cases h),fun _ h=> .inl h,fun _ h=> .inl h,fun _ h=> .inl h⟩
theorem Thru.cons {nx:Int→List Int} {x:Int} {l:List Int} {s t u:DS} (a:Thru nx [x] s t) (b:Thru nx l t u):Thru nx (x::l) s u where
 mono:=fun c h=>b.mono c (a.mono c h)
 keep:=fun c h=>b.keep c (a.keep c h)
 all:=fun c h=>by
  rcases List.mem_cons.1 h with rfl|h
  ·exact b.mono _ (a.all _ (by simp))
  ·exact b.all _ h
 way:=fun c h=>by
  rcases b.way c h with h|⟨y,hy,w⟩
  ·rcases a.way c h with h|⟨y,hy,w⟩
   ·exact .inl h
   ·exact .inr ⟨y,by simp at hy;simp[hy],w⟩
  ·exact .inr ⟨y,by simp[hy],w⟩
 done:=fun c h=>by
  rcases b.done c h with h|h
  ·rcases a.done c h with h|⟨h,k⟩
   ·exact .inl h
   ·exact .inr ⟨b.keep _ h,fun d hd=>b.mono _ (k d hd)⟩
  ·exact .inr h
 of:=fun c h=>by
  rcases b.of c h with h|h
  ·rcases a.of c h with h|h
   ·exact .inl h
   ·exact .inr (b.mono _ h)
  ·exact .inr h
end Go.Proofs.YtemggiegiejopaaDoor
namespace Go.Proofs.YtemggiegiejopaaDoor
open Go.Am
set_option linter.unusedVariables false
set_option linter.unusedSimpArgs false
end Go.Proofs.YtemggiegiejopaaDoor
namespace Go.Proofs.YtemggiegiejopaaDoor
open Go.Am
set_option linter.unusedVariables false
set_option linter.unusedSimpArgs false
set_option maxHeartbeats 1000000
def ZB (L:List LBlk) (b:Int) (k:Nat):List Int:=((List.range k).filter fun (i:Nat)=>decide (b∈Z0 (L.getD i default).fin)).map fun (i:Nat)=>(i:Int)
theorem zF9 (L:List LBlk) (b:Int) (k:Nat):ZB L b (k+1)=if b∈Z0 (L.getD k default).fin then ZB L b k++[(k:Int)] else ZB L b k:=by
 unfold ZB
 rw[List.range_succ,List.filter_append,List.map_append]
 by_cases h:b∈Z0 (L.getD k default).fin
 ·rw[if_pos h,List.filter_cons_of_pos (by simpa using h)];rfl
 ·rw[if_neg h,List.filter_cons_of_neg (by simpa using h)];simp
theorem zD6 (L:List LBlk) (b:Int) (k:Nat):(ZB L b k).length≤k:=by
 unfold ZB
 rw[List.length_map]
 exact Nat.le_trans (List.length_filter_le _ _) (by simp)
def zAe (T:List LType) (F:List LFn) (f b:Int):List Int×Int:=
 if (zW T F f b).2≠0 then ([],(zW T F f b).2) else (ZB (zW T F f b).1 b (zW T F f b).1.length,0)
noncomputable def body45_0:ACode:=(.seq (.region [⟨some 24,none,(.bin .lss (.tmp 23) (.tmp 22))⟩]) (.seq (.cond (.tmp 24) .skip (.exit 0)) (.seq (.block 1 (.seq (.region [⟨some 25,none,(.mov (.tmp 23))⟩,⟨some 26,none,(.idx 5 (.tmp 21) (.tmp 23))⟩,⟨some 27,none,(.load true 5 (.tmp 26))⟩,⟨some 10,none,(.alloc [(.slice none 0 0),(.int .u8 0),(.int .i64 0),(.int .i64 0),(.int .i64 0)])⟩,⟨some 9,none,(.mov (.tmp 25))⟩,⟨none,none,(.store 5 (.tmp 10) (.tmp 27))⟩]) (.seq (.region [⟨some 28,none,(.fld 1 (.tmp 10))⟩,⟨some 29,none,(.load true 4 (.tmp 28))⟩,⟨some 30,none,(.call (.func 31) [(.tmp 29)])⟩,⟨some 31,none,(.mov (.tmp 2))⟩,⟨some 32,none,(.call (.func 55) [(.tmp 30),(.tmp 31)])⟩]) (.cond (.tmp 32) (.region [⟨some 33,none,(.mov (.tmp 6))⟩,⟨some 34,none,(.mov (.tmp 9))⟩,⟨some 35,none,(.buildSlice 1 1 [(.int .i64 0)] [(0,1,(.tmp 34))])⟩,⟨some 36,none,(.append 1 (.tmp 33) (.tmp 35))⟩,⟨some 6,none,(.mov (.tmp 36))⟩]) .skip)))) (.region [⟨some 37,none,(.bin .add (.tmp 23) (.const (.int .i64 1)))⟩,⟨some 23,none,(.mov (.tmp 37))⟩]))))
noncomputable def body45:ACode:=(.seq (.region [⟨some 3,none,(.box (.tmp 0))⟩,⟨some 6,none,(.mov (.const (.slice none 0 0)))⟩,⟨some 7,none,(.mov (.const (.int .i64 0)))⟩]) (.seq (.region [⟨some 12,none,(.load true 2 (.tmp 3))⟩,⟨some 13,none,(.mov (.tmp 1))⟩,⟨some 14,none,(.mov (.tmp 2))⟩,⟨some 15,none,(.call (.func 30) [(.tmp 12),(.tmp 13),(.tmp 14)])⟩,⟨some 11,none,(.mov (.tmp 15))⟩,⟨some 16,none,(.extract (.tmp 11) 0)⟩,⟨some 17,none,(.extract (.tmp 11) 1)⟩,⟨some 8,none,(.mov (.tmp 16))⟩,⟨some 7,none,(.mov (.tmp 17))⟩]) (.seq (.seq (.region [⟨some 18,none,(.mov (.tmp 7))⟩,⟨some 19,none,(.bin .neq (.tmp 18) (.const (.int .i64 0)))⟩]) (.cond (.tmp 19) (.seq (.region [⟨some 20,none,(.mov (.tmp 7))⟩,⟨some 6,none,(.mov (.const (.slice none 0 0)))⟩,⟨some 7,none,(.mov (.tmp 20))⟩]) .ret) .skip)) (.seq (.seq (.region [⟨some 21,none,(.mov (.tmp 8))⟩,⟨some 22,none,(.len (.tmp 21))⟩,⟨some 23,none,(.mov (.const (.int .i64 0)))⟩]) (.block 0 (.loop body45_0))) (.seq (.region [⟨some 38,none,(.mov (.tmp 6))⟩,⟨some 6,none,(.mov (.tmp 38))⟩,⟨some 7,none,(.mov (.const (.int .i64 0)))⟩]) .ret)))))
set_option maxRecDepth 100000 in
theorem tab45:tb.code 45=some ⟨39,[(6,none),(7,none)],body45⟩:=by kernel_rfl
theorem Preds_ok (h:AHeap) (vt vf:Value) (T:List LType) (F:List LFn) (f b:Int) (tt:Tbl h) (hm:h.mark≤h.n) (sm:Small T F) (st:SlT h vt T) (sf:SlF h vf F):
  WC Tryd.prog tb 45 [.agg #[vt,vf],I f,I b] h fun r h'=>(∃ v,r= .tuple #[v,I (zAe T F f b).2]∧OwnN h h' v (zAe T F f b).1)∧Ext h h':=by
 refine WC.of (zF 45) tab45 ?_;simp only[zO,Nat.zero_add,Nat.reduceAdd]
 refine go ?_
 refine WO.bx ?_
 intro p h1 e1 o1
 refine go ?_
 refine WO.con (zEl h1 vt vf T F f b (tt.ext e1) (ZH e1 hm) sm (st.ext e1) (SlF.ext sf e1)) ?_
 rintro _ h2 ⟨⟨v,rfl,sb⟩,e2⟩
 have e12:=e1.trans e2
 refine go ?_
 refine WX.br (fun hb=> ?_) (fun hb=> ?_)<;>simp only[DB]at hb<;>refine go ?_
 ·refine rt ?_
  rw[show zAe T F f b=([],(zW T F f b).2) from by rw[zAe,if_pos hb]]
  exact⟨⟨_,rfl,.inl ⟨rfl,rfl⟩⟩,e12⟩
 have hb0:(zW T F f b).2=0:=by omega
 obtain⟨hlen,hnx⟩:=zIx hb0
 rw[show zAe T F f b=(ZB (zW T F f b).1 b (zW T F f b).1.length,0) from by rw[zAe,if_neg (by omega)]]
 generalize (zW T F f b).1=L at *
 refine WX.loopA [24,25,26,27,10,9,28,29,30,31,32,33,34,35,36,6,37,23] (by kernel_rfl) (fun k=>L.length - k) (fun k t h3=>zC t 23=I k∧k≤L.length∧Ext h2 h3∧∃ w,zC t 6=w∧OwnN h2 h3 w (ZB L b k)) 0 ?_ ?_
 ·exact⟨sl_,Nat.zero_le _,Ext.refl _,.slice none 0 0,sl_,.inl ⟨rfl,rfl⟩⟩
 rintro k t h3 hsame ⟨s23,hk,e23,w,s6,ow⟩
 have sb3:=SlB.ext sb e23
 refine go ?_
 refine WX.br (fun hc=> ?_) (fun hc=> ?_)<;>simp only[DB]at hc
 ·have hk':k<L.length:=by omega
  obtain⟨cs,⟨vi,rfl,si,hsi⟩,pc,hs⟩:=yS sb3 hk'
  obtain⟨_,_,_,rfl⟩:=zI si
  refine go ?_
  refine WO.al ?_
  intro p4 h4 e4 o4
  refine go ?_
  refine WO.stC0 o4 e4 ?_
  intro h5 e5 o5 _
  refine go ?_
  refine WO.con (zHz h5 (L.getD k default).fin) ?_
  rintro r h6 ⟨s6',_,e6⟩
  have hn2:=next_len (L.getD k default).fin
  refine go ?_
  refine WO.con (zGL h6 r _ b s6' (by omega)) ?_
  rintro _ _ ⟨rfl,rfl⟩
  have ow6:=(ow.ext e5).ext e6
  have e36:=e5.trans e6
  have hsucc:=zF9 L b k
  have hal:=zD6 L b k
  refine go ?_
  refine WX.br (fun hd=> ?_) (fun hd=> ?_)<;>simp only[DB]at hd<;>refine go ?_
  ·rw[if_pos hd]at hsucc
   refine WO.bl [(k:Int)] ?_
   intro v7 h7 e7 o7
   refine go ?_
   refine WO.apN (ow6.ext e7) o7.sl ((e23.trans e36).trans e7) (by simp only[List.length_singleton];omega) ?_
   intro v8 h8 e8 o8
   refine go ?_
   exact zA (k+1) (by omega) ⟨sln,by omega,e8,v8,sl_,by rw[hsucc];exact o8⟩
  ·rw[if_neg hd]at hsucc
   exact zA (k+1) (by omega) ⟨sln,by omega,e23.trans e36,w,sl_,by rw[hsucc];exact ow6⟩
 ·have hkk:k=L.length:=by omega
  subst hkk
  refine go ?_
  refine rt ?_
  exact⟨⟨_,rfl,ow.since e12⟩,e12.trans e23⟩
end Go.Proofs.YtemggiegiejopaaDoor
namespace Go.Proofs.YtemggiegiejopaaDoor
open Go.Am
set_option linter.unusedVariables false
set_option linter.unusedSimpArgs false
set_option maxHeartbeats 400000
noncomputable def body103:ACode:=(.seq (.region [⟨some 2,none,(.mov (.const (.bool false)))⟩]) (.seq (.region [⟨some 3,none,(.mov (.tmp 0))⟩,⟨some 4,none,(.mov (.tmp 0))⟩,⟨some 5,none,(.bin .neq (.tmp 3) (.tmp 4))⟩,⟨some 2,none,(.mov (.tmp 5))⟩]) .ret))
set_option maxRecDepth 100000 in
theorem tab103:tb.code 103=some ⟨6,[(2,none)],body103⟩:=by kernel_rfl
theorem isNaN_ok (h:AHeap) (n:Int):WC Tryd.prog tb 103 [I n] h fun r h'=>r= .bool false∧h=h':=by
 refine WC.of (zF 103) tab103 ?_;simp only[zO,Nat.zero_add,Nat.reduceAdd]
 refine go ?_
 refine rt ?_
 exact⟨by simp[one],rfl⟩
noncomputable def body90:ACode:=(.seq (.region [⟨some 4,none,(.mov (.const (.bool false)))⟩]) (.seq (.region [⟨some 5,none,(.mov (.tmp 0))⟩,⟨some 6,none,(.call (.func 103) [(.tmp 5)])⟩,⟨some 7,none,(.mov (.tmp 6))⟩,⟨some 8,some (7,true),(.mov (.tmp 1))⟩,⟨some 9,some (7,true),(.call (.func 103) [(.tmp 8)])⟩,⟨some 10,some (7,true),(.un .not (.tmp 9))⟩,⟨some 11,none,(.pick (.tmp 7) (.tmp 10) (.const (.bool false)))⟩,⟨some 12,none,(.mov (.tmp 11))⟩,⟨some 13,some (12,false),(.mov (.tmp 0))⟩,⟨some 14,some (12,false),(.mov (.tmp 1))⟩,⟨some 15,some (12,false),(.bin .lss (.tmp 13) (.tmp 14))⟩,⟨some 16,none,(.pick (.tmp 12) (.const (.bool true)) (.tmp 15))⟩,⟨some 4,none,(.mov (.tmp 16))⟩]) .ret))
set_option maxRecDepth 100000 in
theorem tab90:tb.code 90=some ⟨17,[(4,none)],body90⟩:=by kernel_rfl
theorem yz (h:AHeap) (a b:Int):WC Tryd.prog tb 90 [I a,I b] h fun r h'=>r= .bool (decide (a<b))∧h=h':=by
 refine WC.of (zF 90) tab90 ?_;simp only[zO,Nat.zero_add,Nat.reduceAdd]
 refine go ?_
 refine WO.con (isNaN_ok h a) ?_
 rintro _ _ ⟨rfl,rfl⟩
 refine go ?_
 refine rt ?_
 exact⟨by simp[one],rfl⟩
noncomputable def body84_0:ACode:=(.seq (.seq (.regionC [(⟨some 16,none,(.mov (.tmp 7))⟩,[]),(⟨some 17,none,(.mov (.tmp 1))⟩,[]),(⟨some 18,none,(.bin .gtr (.tmp 16) (.tmp 17))⟩,[]),(⟨some 19,none,(.mov (.tmp 18))⟩,[]),(⟨some 20,some (19,true),(.mov (.tmp 0))⟩,[]),(⟨some 21,some (19,true),(.mov (.tmp 7))⟩,[]),(⟨some 22,some (19,true),(.idx 1 (.tmp 20) (.tmp 21))⟩,[]),(⟨some 23,some (19,true),(.load false 1 (.tmp 22))⟩,[]),(⟨some 24,some (19,true),(.mov (.tmp 0))⟩,[]),(⟨some 25,some (19,true),(.mov (.tmp 7))⟩,[]),(⟨some 26,some (19,true),(.bin .sub (.tmp 25) (.const (.int .i64 1)))⟩,[]),(⟨some 27,some (19,true),(.idx 1 (.tmp 24) (.tmp 26))⟩,[]),(⟨some 28,some (19,true),(.load false 1 (.tmp 27))⟩,[]),(⟨some 29,some (19,true),(.call (.func 90) [(.tmp 23),(.tmp 28)])⟩,[]),(⟨some 30,none,(.pick (.tmp 19) (.tmp 29) (.const (.bool false)))⟩,[])]) (.cond (.tmp 30) .skip (.exit 2))) (.seq (.block 3 (.regionC [(⟨some 33,none,(.mov (.tmp 0))⟩,[]),(⟨some 34,none,(.mov (.tmp 7))⟩,[]),(⟨some 35,none,(.mov (.tmp 0))⟩,[]),(⟨some 36,none,(.mov (.tmp 7))⟩,[]),(⟨some 37,none,(.bin .sub (.tmp 36) (.const (.int .i64 1)))⟩,[]),(⟨some 38,none,(.mov (.tmp 0))⟩,[]),(⟨some 39,none,(.mov (.tmp 7))⟩,[]),(⟨some 40,none,(.bin .sub (.tmp 39) (.const (.int .i64 1)))⟩,[]),(⟨some 41,none,(.idx 1 (.tmp 38) (.tmp 40))⟩,[]),(⟨some 42,none,(.load false 1 (.tmp 41))⟩,[]),(⟨some 43,none,(.mov (.tmp 0))⟩,[]),(⟨some 44,none,(.mov (.tmp 7))⟩,[]),(⟨some 45,none,(.idx 1 (.tmp 43) (.tmp 44))⟩,[]),(⟨some 46,none,(.load false 1 (.tmp 45))⟩,[]),(⟨some 47,none,(.idx 1 (.tmp 33) (.tmp 34))⟩,[]),(⟨none,none,(.store 1 (.tmp 47) (.tmp 42))⟩,[]),(⟨some 48,none,(.idx 1 (.tmp 35) (.tmp 37))⟩,[]),(⟨none,none,(.store 1 (.tmp 48) (.tmp 46))⟩,[])])) (.region [⟨some 31,none,(.mov (.tmp 7))⟩,⟨some 32,none,(.bin .sub (.tmp 31) (.const (.int .i64 1)))⟩,⟨some 7,none,(.mov (.tmp 32))⟩])))
noncomputable def body84_1:ACode:=(.seq (.seq (.region [⟨some 10,none,(.mov (.tmp 6))⟩,⟨some 11,none,(.mov (.tmp 2))⟩,⟨some 12,none,(.bin .lss (.tmp 10) (.tmp 11))⟩]) (.cond (.tmp 12) .skip (.exit 0))) (.seq (.block 1 (.seq (.region [⟨some 15,none,(.mov (.tmp 6))⟩,⟨some 7,none,(.mov (.tmp 15))⟩]) (.block 2 (.loop body84_0)))) (.region [⟨some 13,none,(.mov (.tmp 6))⟩,⟨some 14,none,(.bin .add (.tmp 13) (.const (.int .i64 1)))⟩,⟨some 6,none,(.mov (.tmp 14))⟩])))
noncomputable def body84:ACode:=(.seq (.region [⟨some 8,none,(.mov (.tmp 1))⟩,⟨some 9,none,(.bin .add (.tmp 8) (.const (.int .i64 1)))⟩,⟨some 6,none,(.mov (.tmp 9))⟩]) (.block 0 (.loop body84_1)))
set_option maxRecDepth 100000 in
theorem tab84:tb.code 84=some ⟨49,[],body84⟩:=by kernel_rfl
theorem zEx (hB h:AHeap) (v:Value) (xs:List Int) (a b:Int) (e0:Ext hB h) (hmB:hB.mark≤hB.n) (o:OwnI hB h v xs) (h0:0≤a) (hab:a≤b) (hb:b≤xs.length) (hlen:xs.length≤1000000000):
  WC Tryd.prog tb 84 [v,I a,I b] h fun r h'=>∃ ys,OwnI hB h' v ys∧PI a b xs ys∧Srt a b ys∧Ext hB h'∧Upd v h h':=by
 refine WC.of (zF 84) tab84 ?_;simp only[zO,Nat.zero_add,Nat.reduceAdd]
 refine go ?_
 refine WX.loopA [10,11,12,15,7,16,17,18,19,20,21,22,23,24,25,26,27,28,29,30,33,34,35,36,37,38,39,40,41,42,43,44,45,46,47,48,31,32,7,13,14,6] (by kernel_rfl) (fun x=>(b - x.2).toNat) (fun (x:List Int×Int) t h1=>zC t 6=I x.2∧a+1≤x.2∧(x.2≤b∨x.2=a+1)∧OwnI hB h1 v x.1∧Ext hB h1∧Upd v h h1∧PI a b xs x.1∧Srt a x.2 x.1) (xs,a+1) ?_ ?_
 ·exact⟨sl_,by simp only;omega,.inr rfl,o,e0,⟨Nat.le_refl _,fun _ _ _=>rfl⟩,PI.refl ..,Srt.small (by simp only;omega)⟩
 rintro⟨ys,i⟩ t h1 hsame ⟨s6,hi1,hi2,o1,e1,u1,p1,r1⟩
 simp only at s6 hi1 hi2 o1 e1 u1 p1 r1
 have hyl:=p1.len
 refine go ?_
 refine WX.br (fun hc=> ?_) (fun hc=> ?_)<;>simp only[DB]at hc
 ·refine go ?_
  refine WX.loopA [16,17,18,19,20,21,22,23,24,25,26,27,28,29,30,33,34,35,36,37,38,39,40,41,42,43,44,45,46,47,48,31,32,7] (by kernel_rfl) (fun x=>(x.2 - a).toNat) (fun (x:List Int×Int) t h2=>zC t 7=I x.2∧a≤x.2∧x.2≤i∧OwnI hB h2 v x.1∧Ext hB h2∧Upd v h h2∧PI a b xs x.1∧∀ p q,a≤p→p≤q→q≤i→q≠x.2→atI x.1 p≤atI x.1 q) (ys,i) ?_ ?_
  ·exact⟨sl_,by simp only;omega,by simp only;omega,o1,e1,u1,p1,fun p q h1 h2 h3 h4=>r1 p q h1 h2 (by simp only at h4;omega)⟩
  rintro⟨zs,j⟩ t2 h2 hsame2 ⟨s7,hj1,hj2,o2,e2,u2,p2,r2⟩
  simp only at s7 hj1 hj2 o2 e2 u2 p2 r2
  have hzl:=p2.len
  refine goC ?_
  refine WX.regionU2 0 rfl rfl ?_
  have sr:SlI (inC (zB 0 h2)) v zs:=o2.sl
  refine goU ?_
  refine WO.sp (fun hd=> ?_) (fun hd=> ?_)<;>simp only[DB]at hd<;>refine goU ?_
  ·refine WO.con (yz _ (atI zs j) (atI zs (j - 1))) ?_
   rintro _ _ ⟨rfl,rfl⟩
   refine WO.nil ?_
   refine yU ?_
   refine goU ?_
   rw[Yx]
   refine WX.br (fun he=> ?_) (fun he=> ?_)<;>simp only[DB]at he<;>refine goC ?_
   ·refine WX.regionU2 0 rfl rfl ?_
    have sr2:SlI (inC (zB 0 h2)) v zs:=o2.sl
    refine goU ?_
    refine WU2.swA j (j - 1) o2 e2 (by rw[e2.mark];exact hmB) ?_
    intro h3 e3 o3 u3
    refine go ?_
    exact zA (swp zs j (j - 1),j - 1) (by simp only;omega) ⟨sl_,by simp only;omega,by simp only;omega,o3,e3,u2.trans u3,p2.trans (PI.swp (by omega) (by omega) (by omega) (by omega)),zGJ h0 hd hj2 (by omega) he r2⟩
   ·refine go ?_
    refine zA (zs,i+1) (by simp only;omega) ⟨sl_,by simp only;omega,by simp only;omega,o2,e2,u2,p2,fun p q h1 h2 h3=> ?_⟩
    by_cases hq:q=j
    ·subst hq
     by_cases hp:p=q
     ·subst hp;exact Int.le_refl _
     ·have:=r2 p (q - 1) h1 (by omega) (by omega) (by omega)
      simp only;omega
    ·exact r2 p q h1 h2 (by simp only at h3;omega) hq
  ·rw[Yx]
   refine goC ?_
   refine zA (zs,i+1) (by simp only;omega) ⟨sl_,by simp only;omega,by simp only;omega,o2,e2,u2,p2,fun p q h1 h2 h3=> ?_⟩
   by_cases hq:q=j
   ·have hp:p=q:=by omega
    subst hp;exact Int.le_refl _
   ·exact r2 p q h1 h2 (by simp only at h3;omega) hq
 ·refine go ?_
  refine rtN ?_
  exact⟨ys,o1,p1,fun p q h1 h2 h3=>r1 p q h1 h2 (by omega),e1,u1⟩
end Go.Proofs.YtemggiegiejopaaDoor
namespace Go.Proofs.YtemggiegiejopaaDoor
open Go.Am
set_option linter.unusedVariables false
set_option linter.unusedSimpArgs false
set_option maxHeartbeats 400000
noncomputable def body92_0:ACode:=(.seq (.seq (.regionC [(⟨some 30,none,(.mov (.tmp 10))⟩,[]),(⟨some 31,none,(.mov (.tmp 11))⟩,[]),(⟨some 32,none,(.bin .leq (.tmp 30) (.tmp 31))⟩,[]),(⟨some 33,none,(.mov (.tmp 32))⟩,[]),(⟨some 34,some (33,true),(.mov (.tmp 0))⟩,[]),(⟨some 35,some (33,true),(.mov (.tmp 10))⟩,[]),(⟨some 36,some (33,true),(.idx 1 (.tmp 34) (.tmp 35))⟩,[]),(⟨some 37,some (33,true),(.load false 1 (.tmp 36))⟩,[]),(⟨some 38,some (33,true),(.mov (.tmp 0))⟩,[]),(⟨some 39,some (33,true),(.mov (.tmp 1))⟩,[]),(⟨some 40,some (33,true),(.idx 1 (.tmp 38) (.tmp 39))⟩,[]),(⟨some 41,some (33,true),(.load false 1 (.tmp 40))⟩,[]),(⟨some 42,some (33,true),(.call (.func 90) [(.tmp 37),(.tmp 41)])⟩,[]),(⟨some 43,none,(.pick (.tmp 33) (.tmp 42) (.const (.bool false)))⟩,[])]) (.cond (.tmp 43) .skip (.exit 0))) (.block 1 (.region [⟨some 44,none,(.mov (.tmp 10))⟩,⟨some 45,none,(.bin .add (.tmp 44) (.const (.int .i64 1)))⟩,⟨some 10,none,(.mov (.tmp 45))⟩])))
noncomputable def body92_1:ACode:=(.seq (.seq (.regionC [(⟨some 46,none,(.mov (.tmp 10))⟩,[]),(⟨some 47,none,(.mov (.tmp 11))⟩,[]),(⟨some 48,none,(.bin .leq (.tmp 46) (.tmp 47))⟩,[]),(⟨some 49,none,(.mov (.tmp 48))⟩,[]),(⟨some 50,some (49,true),(.mov (.tmp 0))⟩,[]),(⟨some 51,some (49,true),(.mov (.tmp 11))⟩,[]),(⟨some 52,some (49,true),(.idx 1 (.tmp 50) (.tmp 51))⟩,[]),(⟨some 53,some (49,true),(.load false 1 (.tmp 52))⟩,[]),(⟨some 54,some (49,true),(.mov (.tmp 0))⟩,[]),(⟨some 55,some (49,true),(.mov (.tmp 1))⟩,[]),(⟨some 56,some (49,true),(.idx 1 (.tmp 54) (.tmp 55))⟩,[]),(⟨some 57,some (49,true),(.load false 1 (.tmp 56))⟩,[]),(⟨some 58,some (49,true),(.call (.func 90) [(.tmp 53),(.tmp 57)])⟩,[]),(⟨some 59,some (49,true),(.un .not (.tmp 58))⟩,[]),(⟨some 60,none,(.pick (.tmp 49) (.tmp 59) (.const (.bool false)))⟩,[])]) (.cond (.tmp 60) .skip (.exit 2))) (.block 3 (.region [⟨some 61,none,(.mov (.tmp 11))⟩,⟨some 62,none,(.bin .sub (.tmp 61) (.const (.int .i64 1)))⟩,⟨some 11,none,(.mov (.tmp 62))⟩])))
noncomputable def body92_2:ACode:=(.seq (.seq (.regionC [(⟨some 99,none,(.mov (.tmp 10))⟩,[]),(⟨some 100,none,(.mov (.tmp 11))⟩,[]),(⟨some 101,none,(.bin .leq (.tmp 99) (.tmp 100))⟩,[]),(⟨some 102,none,(.mov (.tmp 101))⟩,[]),(⟨some 103,some (102,true),(.mov (.tmp 0))⟩,[]),(⟨some 104,some (102,true),(.mov (.tmp 10))⟩,[]),(⟨some 105,some (102,true),(.idx 1 (.tmp 103) (.tmp 104))⟩,[]),(⟨some 106,some (102,true),(.load false 1 (.tmp 105))⟩,[]),(⟨some 107,some (102,true),(.mov (.tmp 0))⟩,[]),(⟨some 108,some (102,true),(.mov (.tmp 1))⟩,[]),(⟨some 109,some (102,true),(.idx 1 (.tmp 107) (.tmp 108))⟩,[]),(⟨some 110,some (102,true),(.load false 1 (.tmp 109))⟩,[]),(⟨some 111,some (102,true),(.call (.func 90) [(.tmp 106),(.tmp 110)])⟩,[]),(⟨some 112,none,(.pick (.tmp 102) (.tmp 111) (.const (.bool false)))⟩,[])]) (.cond (.tmp 112) .skip (.exit 6))) (.block 7 (.region [⟨some 113,none,(.mov (.tmp 10))⟩,⟨some 114,none,(.bin .add (.tmp 113) (.const (.int .i64 1)))⟩,⟨some 10,none,(.mov (.tmp 114))⟩])))
noncomputable def body92_3:ACode:=(.seq (.seq (.regionC [(⟨some 115,none,(.mov (.tmp 10))⟩,[]),(⟨some 116,none,(.mov (.tmp 11))⟩,[]),(⟨some 117,none,(.bin .leq (.tmp 115) (.tmp 116))⟩,[]),(⟨some 118,none,(.mov (.tmp 117))⟩,[]),(⟨some 119,some (118,true),(.mov (.tmp 0))⟩,[]),(⟨some 120,some (118,true),(.mov (.tmp 11))⟩,[]),(⟨some 121,some (118,true),(.idx 1 (.tmp 119) (.tmp 120))⟩,[]),(⟨some 122,some (118,true),(.load false 1 (.tmp 121))⟩,[]),(⟨some 123,some (118,true),(.mov (.tmp 0))⟩,[]),(⟨some 124,some (118,true),(.mov (.tmp 1))⟩,[]),(⟨some 125,some (118,true),(.idx 1 (.tmp 123) (.tmp 124))⟩,[]),(⟨some 126,some (118,true),(.load false 1 (.tmp 125))⟩,[]),(⟨some 127,some (118,true),(.call (.func 90) [(.tmp 122),(.tmp 126)])⟩,[]),(⟨some 128,some (118,true),(.un .not (.tmp 127))⟩,[]),(⟨some 129,none,(.pick (.tmp 118) (.tmp 128) (.const (.bool false)))⟩,[])]) (.cond (.tmp 129) .skip (.exit 8))) (.block 9 (.region [⟨some 130,none,(.mov (.tmp 11))⟩,⟨some 131,none,(.bin .sub (.tmp 130) (.const (.int .i64 1)))⟩,⟨some 11,none,(.mov (.tmp 131))⟩])))
noncomputable def body92_4:ACode:=(.block 5 (.seq (.block 6 (.loop body92_2)) (.seq (.block 8 (.loop body92_3)) (.seq (.seq (.region [⟨some 132,none,(.mov (.tmp 10))⟩,⟨some 133,none,(.mov (.tmp 11))⟩,⟨some 134,none,(.bin .gtr (.tmp 132) (.tmp 133))⟩]) (.cond (.tmp 134) (.exit 4) .skip)) (.seq (.regionC [(⟨some 135,none,(.mov (.tmp 0))⟩,[]),(⟨some 136,none,(.mov (.tmp 10))⟩,[]),(⟨some 137,none,(.mov (.tmp 0))⟩,[]),(⟨some 138,none,(.mov (.tmp 11))⟩,[]),(⟨some 139,none,(.mov (.tmp 0))⟩,[]),(⟨some 140,none,(.mov (.tmp 11))⟩,[]),(⟨some 141,none,(.idx 1 (.tmp 139) (.tmp 140))⟩,[]),(⟨some 142,none,(.load false 1 (.tmp 141))⟩,[]),(⟨some 143,none,(.mov (.tmp 0))⟩,[]),(⟨some 144,none,(.mov (.tmp 10))⟩,[]),(⟨some 145,none,(.idx 1 (.tmp 143) (.tmp 144))⟩,[]),(⟨some 146,none,(.load false 1 (.tmp 145))⟩,[]),(⟨some 147,none,(.idx 1 (.tmp 135) (.tmp 136))⟩,[]),(⟨none,none,(.store 1 (.tmp 147) (.tmp 142))⟩,[]),(⟨some 148,none,(.idx 1 (.tmp 137) (.tmp 138))⟩,[]),(⟨none,none,(.store 1 (.tmp 148) (.tmp 146))⟩,[])]) (.seq (.region [⟨some 149,none,(.mov (.tmp 10))⟩,⟨some 150,none,(.bin .add (.tmp 149) (.const (.int .i64 1)))⟩,⟨some 10,none,(.mov (.tmp 150))⟩]) (.region [⟨some 151,none,(.mov (.tmp 11))⟩,⟨some 152,none,(.bin .sub (.tmp 151) (.const (.int .i64 1)))⟩,⟨some 11,none,(.mov (.tmp 152))⟩])))))))
noncomputable def body92:ACode:=(.seq (.region [⟨some 8,none,(.mov (.const (.int .i64 0)))⟩,⟨some 9,none,(.mov (.const (.bool false)))⟩]) (.seq (.regionC [(⟨some 12,none,(.mov (.tmp 0))⟩,[]),(⟨some 13,none,(.mov (.tmp 1))⟩,[]),(⟨some 14,none,(.mov (.tmp 0))⟩,[]),(⟨some 15,none,(.mov (.tmp 3))⟩,[]),(⟨some 16,none,(.mov (.tmp 0))⟩,[]),(⟨some 17,none,(.mov (.tmp 3))⟩,[]),(⟨some 18,none,(.idx 1 (.tmp 16) (.tmp 17))⟩,[]),(⟨some 19,none,(.load false 1 (.tmp 18))⟩,[]),(⟨some 20,none,(.mov (.tmp 0))⟩,[]),(⟨some 21,none,(.mov (.tmp 1))⟩,[]),(⟨some 22,none,(.idx 1 (.tmp 20) (.tmp 21))⟩,[]),(⟨some 23,none,(.load false 1 (.tmp 22))⟩,[]),(⟨some 24,none,(.idx 1 (.tmp 12) (.tmp 13))⟩,[]),(⟨none,none,(.store 1 (.tmp 24) (.tmp 19))⟩,[]),(⟨some 25,none,(.idx 1 (.tmp 14) (.tmp 15))⟩,[]),(⟨none,none,(.store 1 (.tmp 25) (.tmp 23))⟩,[])]) (.seq (.region [⟨some 26,none,(.mov (.tmp 1))⟩,⟨some 27,none,(.bin .add (.tmp 26) (.const (.int .i64 1)))⟩,⟨some 28,none,(.mov (.tmp 2))⟩,⟨some 29,none,(.bin .sub (.tmp 28) (.const (.int .i64 1)))⟩,⟨some 10,none,(.mov (.tmp 27))⟩,⟨some 11,none,(.mov (.tmp 29))⟩]) (.seq (.block 0 (.loop body92_0)) (.seq (.block 2 (.loop body92_1)) (.seq (.seq (.region [⟨some 63,none,(.mov (.tmp 10))⟩,⟨some 64,none,(.mov (.tmp 11))⟩,⟨some 65,none,(.bin .gtr (.tmp 63) (.tmp 64))⟩]) (.cond (.tmp 65) (.seq (.regionC [(⟨some 66,none,(.mov (.tmp 0))⟩,[]),(⟨some 67,none,(.mov (.tmp 11))⟩,[]),(⟨some 68,none,(.mov (.tmp 0))⟩,[]),(⟨some 69,none,(.mov (.tmp 1))⟩,[]),(⟨some 70,none,(.mov (.tmp 0))⟩,[]),(⟨some 71,none,(.mov (.tmp 1))⟩,[]),(⟨some 72,none,(.idx 1 (.tmp 70) (.tmp 71))⟩,[]),(⟨some 73,none,(.load false 1 (.tmp 72))⟩,[]),(⟨some 74,none,(.mov (.tmp 0))⟩,[]),(⟨some 75,none,(.mov (.tmp 11))⟩,[]),(⟨some 76,none,(.idx 1 (.tmp 74) (.tmp 75))⟩,[]),(⟨some 77,none,(.load false 1 (.tmp 76))⟩,[]),(⟨some 78,none,(.idx 1 (.tmp 66) (.tmp 67))⟩,[]),(⟨none,none,(.store 1 (.tmp 78) (.tmp 73))⟩,[]),(⟨some 79,none,(.idx 1 (.tmp 68) (.tmp 69))⟩,[]),(⟨none,none,(.store 1 (.tmp 79) (.tmp 77))⟩,[])]) (.seq (.region [⟨some 80,none,(.mov (.tmp 11))⟩,⟨some 8,none,(.mov (.tmp 80))⟩,⟨some 9,none,(.mov (.const (.bool true)))⟩]) .ret)) .skip)) (.seq (.regionC [(⟨some 81,none,(.mov (.tmp 0))⟩,[]),(⟨some 82,none,(.mov (.tmp 10))⟩,[]),(⟨some 83,none,(.mov (.tmp 0))⟩,[]),(⟨some 84,none,(.mov (.tmp 11))⟩,[]),(⟨some 85,none,(.mov (.tmp 0))⟩,[]),(⟨some 86,none,(.mov (.tmp 11))⟩,[]),(⟨some 87,none,(.idx 1 (.tmp 85) (.tmp 86))⟩,[]),(⟨some 88,none,(.load false 1 (.tmp 87))⟩,[]),(⟨some 89,none,(.mov (.tmp 0))⟩,[]),(⟨some 90,none,(.mov (.tmp 10))⟩,[]),(⟨some 91,none,(.idx 1 (.tmp 89) (.tmp 90))⟩,[]),(⟨some 92,none,(.load false 1 (.tmp 91))⟩,[]),(⟨some 93,none,(.idx 1 (.tmp 81) (.tmp 82))⟩,[]),(⟨none,none,(.store 1 (.tmp 93) (.tmp 88))⟩,[]),(⟨some 94,none,(.idx 1 (.tmp 83) (.tmp 84))⟩,[]),(⟨none,none,(.store 1 (.tmp 94) (.tmp 92))⟩,[])]) (.seq (.region [⟨some 95,none,(.mov (.tmp 10))⟩,⟨some 96,none,(.bin .add (.tmp 95) (.const (.int .i64 1)))⟩,⟨some 10,none,(.mov (.tmp 96))⟩]) (.seq (.region [⟨some 97,none,(.mov (.tmp 11))⟩,⟨some 98,none,(.bin .sub (.tmp 97) (.const (.int .i64 1)))⟩,⟨some 11,none,(.mov (.tmp 98))⟩]) (.seq (.block 4 (.loop body92_4)) (.seq (.regionC [(⟨some 153,none,(.mov (.tmp 0))⟩,[]),(⟨some 154,none,(.mov (.tmp 11))⟩,[]),(⟨some 155,none,(.mov (.tmp 0))⟩,[]),(⟨some 156,none,(.mov (.tmp 1))⟩,[]),(⟨some 157,none,(.mov (.tmp 0))⟩,[]),(⟨some 158,none,(.mov (.tmp 1))⟩,[]),(⟨some 159,none,(.idx 1 (.tmp 157) (.tmp 158))⟩,[]),(⟨some 160,none,(.load false 1 (.tmp 159))⟩,[]),(⟨some 161,none,(.mov (.tmp 0))⟩,[]),(⟨some 162,none,(.mov (.tmp 11))⟩,[]),(⟨some 163,none,(.idx 1 (.tmp 161) (.tmp 162))⟩,[]),(⟨some 164,none,(.load false 1 (.tmp 163))⟩,[]),(⟨some 165,none,(.idx 1 (.tmp 153) (.tmp 154))⟩,[]),(⟨none,none,(.store 1 (.tmp 165) (.tmp 160))⟩,[]),(⟨some 166,none,(.idx 1 (.tmp 155) (.tmp 156))⟩,[]),(⟨none,none,(.store 1 (.tmp 166) (.tmp 164))⟩,[])]) (.seq (.region [⟨some 167,none,(.mov (.tmp 11))⟩,⟨some 8,none,(.mov (.tmp 167))⟩,⟨some 9,none,(.mov (.const (.bool false)))⟩]) .ret))))))))))))
set_option maxRecDepth 100000 in
theorem tab92:tb.code 92=some ⟨168,[(8,none),(9,none)],body92⟩:=by kernel_rfl
theorem zFX (hB h:AHeap) (v:Value) (xs:List Int) (a b pv:Int) (e0:Ext hB h) (hmB:hB.mark≤hB.n) (o:OwnI hB h v xs) (h0:0≤a) (hp:a≤pv∧pv<b) (hb:b≤xs.length) (hlen:xs.length≤1000000000):
  WC Tryd.prog tb 92 [v,I a,I b,I pv] h fun r h'=>∃ ys m w,r= .tuple #[I m,.bool w]∧SS hB h v a b xs ys h'∧(a≤m∧m<b)∧(∀ k,a≤k→k<m→atI ys k≤atI ys m)∧(∀ k,m<k→k<b→atI ys m≤atI ys k):=by
 have s0:=SS.start a b o e0
 refine WC.of (zF 92) tab92 ?_;simp only[zO,Nat.zero_add,Nat.reduceAdd]
 refine go ?_
 refine WX.regionU2 0 rfl rfl ?_
 have srX:SlI (inC (zB 0 h)) v xs:=(o).sl
 refine goU ?_
 refine WU2.swA (a) (pv) (s0).own (s0).ext (by rw[(s0).ext.mark];exact hmB) ?_
 intro h1 e1 o1 u1
 have s1:=s0.swp e1 o1 u1 h0 hb (by omega) (by omega)
 clear o1 e1 u1
 generalize swp xs a pv=ys at s1
 have hl1:=s1.len
 refine go ?_
 refine WX.loopA [30,31,32,33,34,35,36,37,38,39,40,41,42,43,44,45,10] (by kernel_rfl) (fun i=>(b - i).toNat) (fun (i:Int) t h2=>h1=h2∧zC t 10=I i∧(a+1≤i∧i≤b)∧∀ k,a<k→k<i→atI ys k<atI ys a) (a+1) ?_ ?_
 ·exact⟨rfl,sl_,by omega,fun k h1 h2=>by omega⟩
 rintro i t _ hsame ⟨rfl,s10,hi,hlow⟩
 refine go ?_
 refine WX.cutA [30,31,32,33,34,35,36,37,38,39,40,41,42,43] (by kernel_rfl) (fun t h'=>h1=h'∧zC t 43= .bool (decide (i≤b - 1∧(atI ys i<atI ys a)))) ?_ ?_
 ·refine WX.regionU2 0 rfl rfl ?_
  have srX:SlI (inC (zB 0 h1)) v ys:=(s1.own).sl
  refine goU ?_
  refine WO.sp (fun hd=> ?_) (fun hd=> ?_)<;>simp only[DB]at hd<;>refine goU ?_
  ·refine WO.con (yz _ (atI ys i) (atI ys a)) ?_
   rintro _ _ ⟨rfl,rfl⟩
   refine WO.nil ?_
   refine yU ?_
   refine goU ?_
   exact zE ⟨rfl,by rw[show decide (i≤b - 1∧(atI ys i<atI ys a))=decide (atI ys i<atI ys a) from zC8 hd];exact sl_⟩
  ·exact zE ⟨rfl,by rw[show decide (i≤b - 1∧(atI ys i<atI ys a))=false from decide_eq_false (fun hh=>absurd hh.1 (by omega))];exact sl_⟩
 rintro t2 _ hs2 ⟨rfl,q2⟩
 refine go ?_
 refine WX.br (fun he=> ?_) (fun he=> ?_)<;>simp only[DB]at he
 ·refine go ?_
  refine zA (i+1) (by omega) ⟨rfl,sl_,by omega,fun k h1 h2=> ?_⟩
  by_cases e:k=i
  ·rw[e];exact he.2
  ·exact hlow k h1 (by omega)
 refine go ?_
 refine WX.loopA [46,47,48,49,50,51,52,53,54,55,56,57,58,59,60,61,62,11] (by kernel_rfl) (fun j=>(j+1 - a).toNat) (fun (j:Int) t h2=>h1=h2∧zC t 11=I j∧(i - 1≤j∧j≤b - 1)∧∀ k,j<k→k<b→atI ys a≤atI ys k) (b - 1) ?_ ?_
 ·exact⟨rfl,sl_,by omega,fun k h1 h2=>by omega⟩
 rintro j t _ hsame ⟨rfl,s11,hj,hhigh⟩
 refine go ?_
 refine WX.cutA [46,47,48,49,50,51,52,53,54,55,56,57,58,59,60] (by kernel_rfl) (fun t h'=>h1=h'∧zC t 60= .bool (decide (i≤j∧¬(atI ys j<atI ys a)))) ?_ ?_
 ·refine WX.regionU2 0 rfl rfl ?_
  have srX:SlI (inC (zB 0 h1)) v ys:=(s1.own).sl
  refine goU ?_
  refine WO.sp (fun hd=> ?_) (fun hd=> ?_)<;>simp only[DB]at hd<;>refine goU ?_
  ·refine WO.con (yz _ (atI ys j) (atI ys a)) ?_
   rintro _ _ ⟨rfl,rfl⟩
   refine WO.nil ?_
   refine yU ?_
   refine goU ?_
   exact zE ⟨rfl,by rw[show decide (i≤j∧¬(atI ys j<atI ys a))= !decide (atI ys j<atI ys a) from zBd hd];exact sl_⟩
  ·exact zE ⟨rfl,by rw[show decide (i≤j∧¬(atI ys j<atI ys a))=false from decide_eq_false (fun hh=>absurd hh.1 (by omega))];exact sl_⟩
 rintro t3 _ hs3 ⟨rfl,q3⟩
 refine go ?_
 refine WX.br (fun hf=> ?_) (fun hf=> ?_)<;>simp only[DB]at hf
 ·refine go ?_
  refine zA (j - 1) (by omega) ⟨rfl,sl_,by omega,fun k h1 h2=> ?_⟩
  by_cases e:k=j
  ·rw[e];omega
  ·exact hhigh k (by omega) h2
 refine go ?_
 refine WX.br (fun hg=> ?_) (fun hg=> ?_)<;>simp only[DB]at hg
 ·refine go ?_
  refine WX.regionU2 0 rfl rfl ?_
  have srX:SlI (inC (zB 0 h1)) v ys:=(s1.own).sl
  refine goU ?_
  refine WU2.swA (j) (a) (s1).own (s1).ext (by rw[(s1).ext.mark];exact hmB) ?_
  intro h3 e3 o3 u3
  have s3:=s1.swp e3 o3 u3 h0 hb (by omega) (by omega)
  refine go ?_
  refine rt ?_
  refine⟨_,_,_,rfl,s3,by omega,fun k h1 h2=> ?_,fun k h1 h2=> ?_⟩
  ·rw[yH (by omega) (by omega) (by omega),yH (by omega) (by omega) (by omega)]
   by_cases e:k=a
   ·rw[if_pos e,if_neg (by omega),if_pos rfl];have:=hlow j (by omega) (by omega);omega
   ·rw[if_neg e,if_neg (by omega),if_neg (by omega),if_pos rfl];have:=hlow k (by omega) (by omega);omega
  ·rw[yH (by omega) (by omega) (by omega),yH (by omega) (by omega) (by omega)]
   rw[if_neg (by omega:¬k=a),if_neg (by omega:¬k=j)]
   have:=hhigh k (by omega) (by omega)
   by_cases e:j=a
   ·rw[if_pos e,e];exact this
   ·rw[if_neg e,if_pos rfl];exact this
 refine go ?_
 refine WX.regionU2 0 rfl rfl ?_
 have srX:SlI (inC (zB 0 h1)) v ys:=(s1.own).sl
 refine goU ?_
 refine WU2.swA (i) (j) (s1).own (s1).ext (by rw[(s1).ext.mark];exact hmB) ?_
 intro h3 e3 o3 u3
 have s3:=s1.swp e3 o3 u3 h0 hb (by omega) (by omega)
 have hi2:¬atI ys i<atI ys a:=fun hh=>he ⟨by omega,hh⟩
 have hj2:atI ys j<atI ys a:=Int.not_le.1 fun hh=>hf ⟨by omega,hh⟩
 have hij:i≠j:=fun e=>by subst e;exact hi2 hj2
 have hP:(a+1≤i+1∧i+1≤j - 1+1∧j - 1≤b - 1)∧(∀ k,a<k→k<i+1→atI (swp ys i j) k<atI (swp ys i j) a)∧∀ k,j - 1<k→k<b→atI (swp ys i j) a≤atI (swp ys i j) k:=by
  have ea:atI (swp ys i j) a=atI ys a:=by rw[yH (by omega) (by omega) (by omega),if_neg (by omega),if_neg (by omega)]
  rw[ea]
  refine⟨by omega,fun k h1 h2=> ?_,fun k h1 h2=> ?_⟩
  ·rw[yH (by omega) (by omega) (by omega),if_neg (by omega)]
   by_cases e:k=i
   ·rw[if_pos e];exact hj2
   ·rw[if_neg e];exact hlow k h1 (by omega)
  ·rw[yH (by omega) (by omega) (by omega)]
   by_cases e:k=j
   ·rw[if_pos e];omega
   ·rw[if_neg e,if_neg (by omega)];exact hhigh k (by omega) h2
 clear o3 e3 u3 hlow hhigh
 generalize swp ys i j=zs at s3 hP
 refine go ?_
 refine WX.loopA [99,100,101,102,103,104,105,106,107,108,109,110,111,112,113,114,10,115,116,117,118,119,120,121,122,123,124,125,126,127,128,129,130,131,11,132,133,134,135,136,137,138,139,140,141,142,143,144,145,146,147,148,149,150,10,151,152,11] (by kernel_rfl) (fun x=>(x.2.2+1 - x.2.1).toNat) (fun (x:List Int×Int×Int) t h4=>SS hB h v a b xs x.1 h4∧zC t 10=I x.2.1∧zC t 11=I x.2.2∧(a+1≤x.2.1∧x.2.1≤x.2.2+1∧x.2.2≤b - 1)∧(∀ k,a<k→k<x.2.1→atI x.1 k<atI x.1 a)∧∀ k,x.2.2<k→k<b→atI x.1 a≤atI x.1 k) (zs,i+1,j - 1) ?_ ?_
 ·exact⟨s3,sl_,sl_,hP.1,hP.2.1,hP.2.2⟩
 clear hP s3 s10 s11 he hf hg hi2 hj2 hij q2 q3 hi hj
 rintro⟨ws,p,q⟩ t h4 hsame ⟨s4,s10,s11,hpq,hlow,hhigh⟩
 simp only at s4 s10 s11 hpq hlow hhigh
 have hl4:=s4.len
 refine go ?_
 refine WX.loopA [99,100,101,102,103,104,105,106,107,108,109,110,111,112,113,114,10] (by kernel_rfl) (fun i=>(b - i).toNat) (fun (i:Int) t h2=>h4=h2∧zC t 10=I i∧(p≤i∧i≤q+1)∧∀ k,a<k→k<i→atI ws k<atI ws a) p ?_ ?_
 ·exact⟨rfl,sl_,by omega,hlow⟩
 rintro i2 t _ hsame ⟨rfl,s10,hi,hlow2⟩
 refine go ?_
 refine WX.cutA [99,100,101,102,103,104,105,106,107,108,109,110,111,112] (by kernel_rfl) (fun t h'=>h4=h'∧zC t 112= .bool (decide (i2≤q∧(atI ws i2<atI ws a)))) ?_ ?_
 ·refine WX.regionU2 0 rfl rfl ?_
  have srX:SlI (inC (zB 0 h4)) v ws:=(s4.own).sl
  refine goU ?_
  refine WO.sp (fun hd=> ?_) (fun hd=> ?_)<;>simp only[DB]at hd<;>refine goU ?_
  ·refine WO.con (yz _ (atI ws i2) (atI ws a)) ?_
   rintro _ _ ⟨rfl,rfl⟩
   refine WO.nil ?_
   refine yU ?_
   refine goU ?_
   exact zE ⟨rfl,by rw[show decide (i2≤q∧(atI ws i2<atI ws a))=decide (atI ws i2<atI ws a) from zC8 hd];exact sl_⟩
  ·exact zE ⟨rfl,by rw[show decide (i2≤q∧(atI ws i2<atI ws a))=false from decide_eq_false (fun hh=>absurd hh.1 (by omega))];exact sl_⟩
 rintro t5 _ hs5 ⟨rfl,q5⟩
 refine go ?_
 refine WX.br (fun he=> ?_) (fun he=> ?_)<;>simp only[DB]at he
 ·refine go ?_
  refine zA (i2+1) (by omega) ⟨rfl,sl_,by omega,fun k h1 h2=> ?_⟩
  by_cases e:k=i2
  ·rw[e];exact he.2
  ·exact hlow2 k h1 (by omega)
 refine go ?_
 refine WX.loopA [115,116,117,118,119,120,121,122,123,124,125,126,127,128,129,130,131,11] (by kernel_rfl) (fun j=>(j+1 - a).toNat) (fun (j:Int) t h2=>h4=h2∧zC t 11=I j∧(i2 - 1≤j∧j≤q)∧∀ k,j<k→k<b→atI ws a≤atI ws k) q ?_ ?_
 ·exact⟨rfl,sl_,by omega,hhigh⟩
 rintro j2 t _ hsame ⟨rfl,s11,hj,hhigh2⟩
 refine go ?_
 refine WX.cutA [115,116,117,118,119,120,121,122,123,124,125,126,127,128,129] (by kernel_rfl) (fun t h'=>h4=h'∧zC t 129= .bool (decide (i2≤j2∧¬(atI ws j2<atI ws a)))) ?_ ?_
 ·refine WX.regionU2 0 rfl rfl ?_
  have srX:SlI (inC (zB 0 h4)) v ws:=(s4.own).sl
  refine goU ?_
  refine WO.sp (fun hd=> ?_) (fun hd=> ?_)<;>simp only[DB]at hd<;>refine goU ?_
  ·refine WO.con (yz _ (atI ws j2) (atI ws a)) ?_
   rintro _ _ ⟨rfl,rfl⟩
   refine WO.nil ?_
   refine yU ?_
   refine goU ?_
   exact zE ⟨rfl,by rw[show decide (i2≤j2∧¬(atI ws j2<atI ws a))= !decide (atI ws j2<atI ws a) from zBd hd];exact sl_⟩
  ·exact zE ⟨rfl,by rw[show decide (i2≤j2∧¬(atI ws j2<atI ws a))=false from decide_eq_false (fun hh=>absurd hh.1 (by omega))];exact sl_⟩
 rintro t6 _ hs6 ⟨rfl,q6⟩
 refine go ?_
 refine WX.br (fun hf=> ?_) (fun hf=> ?_)<;>simp only[DB]at hf
 ·refine go ?_
  refine zA (j2 - 1) (by omega) ⟨rfl,sl_,by omega,fun k h1 h2=> ?_⟩
  by_cases e:k=j2
  ·rw[e];omega
  ·exact hhigh2 k (by omega) h2
 refine go ?_
 refine WX.br (fun hg=> ?_) (fun hg=> ?_)<;>simp only[DB]at hg
 ·refine go ?_
  refine WX.regionU2 0 rfl rfl ?_
  have srX:SlI (inC (zB 0 h4)) v ws:=(s4.own).sl
  refine goU ?_
  refine WU2.swA (j2) (a) (s4).own (s4).ext (by rw[(s4).ext.mark];exact hmB) ?_
  intro h3 e3 o3 u3
  have s3:=s4.swp e3 o3 u3 h0 hb (by omega) (by omega)
  refine go ?_
  refine rt ?_
  refine⟨_,_,_,rfl,s3,by omega,fun k h1 h2=> ?_,fun k h1 h2=> ?_⟩
  ·rw[yH (by omega) (by omega) (by omega),yH (by omega) (by omega) (by omega)]
   by_cases e:k=a
   ·rw[if_pos e,if_neg (by omega),if_pos rfl];have:=hlow2 j2 (by omega) (by omega);omega
   ·rw[if_neg e,if_neg (by omega),if_neg (by omega),if_pos rfl];have:=hlow2 k (by omega) (by omega);omega
  ·rw[yH (by omega) (by omega) (by omega),yH (by omega) (by omega) (by omega)]
   rw[if_neg (by omega:¬k=a),if_neg (by omega:¬k=j2)]
   have:=hhigh2 k (by omega) (by omega)
   by_cases e:j2=a
   ·rw[if_pos e,e];exact this
   ·rw[if_neg e,if_pos rfl];exact this
 refine go ?_
 refine WX.regionU2 0 rfl rfl ?_
 have srX:SlI (inC (zB 0 h4)) v ws:=(s4.own).sl
 refine goU ?_
 refine WU2.swA (i2) (j2) (s4).own (s4).ext (by rw[(s4).ext.mark];exact hmB) ?_
 intro h3 e3 o3 u3
 have s3:=s4.swp e3 o3 u3 h0 hb (by omega) (by omega)
 have hi2:¬atI ws i2<atI ws a:=fun hh=>he ⟨by omega,hh⟩
 have hj2:atI ws j2<atI ws a:=Int.not_le.1 fun hh=>hf ⟨by omega,hh⟩
 have hij:i2≠j2:=fun e=>by subst e;exact hi2 hj2
 have ea:atI (swp ws i2 j2) a=atI ws a:=by rw[yH (by omega) (by omega) (by omega),if_neg (by omega),if_neg (by omega)]
 refine go ?_
 refine zA (swp ws i2 j2,i2+1,j2 - 1) (by simp only;omega) ⟨s3,sl_,sl_,by simp only;omega,fun k h1 h2=> ?_,fun k h1 h2=> ?_⟩
 ·simp only at h2 ⊢
  rw[ea,yH (by omega) (by omega) (by omega),if_neg (by omega)]
  by_cases e:k=i2
  ·rw[if_pos e];exact hj2
  ·rw[if_neg e];exact hlow2 k h1 (by omega)
 ·simp only at h1 ⊢
  rw[ea,yH (by omega) (by omega) (by omega)]
  by_cases e:k=j2
  ·rw[if_pos e];omega
  ·rw[if_neg e,if_neg (by omega)];exact hhigh2 k (by omega) h2
end Go.Proofs.YtemggiegiejopaaDoor
namespace Go.Proofs.YtemggiegiejopaaDoor
open Go.Am
set_option linter.unusedVariables false
set_option linter.unusedSimpArgs false
set_option maxHeartbeats 400000
noncomputable def body91_0:ACode:=(.seq (.seq (.regionC [(⟨some 29,none,(.mov (.tmp 9))⟩,[]),(⟨some 30,none,(.mov (.tmp 10))⟩,[]),(⟨some 31,none,(.bin .leq (.tmp 29) (.tmp 30))⟩,[]),(⟨some 32,none,(.mov (.tmp 31))⟩,[]),(⟨some 33,some (32,true),(.mov (.tmp 0))⟩,[]),(⟨some 34,some (32,true),(.mov (.tmp 1))⟩,[]),(⟨some 35,some (32,true),(.idx 1 (.tmp 33) (.tmp 34))⟩,[]),(⟨some 36,some (32,true),(.load false 1 (.tmp 35))⟩,[]),(⟨some 37,some (32,true),(.mov (.tmp 0))⟩,[]),(⟨some 38,some (32,true),(.mov (.tmp 9))⟩,[]),(⟨some 39,some (32,true),(.idx 1 (.tmp 37) (.tmp 38))⟩,[]),(⟨some 40,some (32,true),(.load false 1 (.tmp 39))⟩,[]),(⟨some 41,some (32,true),(.call (.func 90) [(.tmp 36),(.tmp 40)])⟩,[]),(⟨some 42,some (32,true),(.un .not (.tmp 41))⟩,[]),(⟨some 43,none,(.pick (.tmp 32) (.tmp 42) (.const (.bool false)))⟩,[])]) (.cond (.tmp 43) .skip (.exit 2))) (.block 3 (.region [⟨some 44,none,(.mov (.tmp 9))⟩,⟨some 45,none,(.bin .add (.tmp 44) (.const (.int .i64 1)))⟩,⟨some 9,none,(.mov (.tmp 45))⟩])))
noncomputable def body91_1:ACode:=(.seq (.seq (.regionC [(⟨some 46,none,(.mov (.tmp 9))⟩,[]),(⟨some 47,none,(.mov (.tmp 10))⟩,[]),(⟨some 48,none,(.bin .leq (.tmp 46) (.tmp 47))⟩,[]),(⟨some 49,none,(.mov (.tmp 48))⟩,[]),(⟨some 50,some (49,true),(.mov (.tmp 0))⟩,[]),(⟨some 51,some (49,true),(.mov (.tmp 1))⟩,[]),(⟨some 52,some (49,true),(.idx 1 (.tmp 50) (.tmp 51))⟩,[]),(⟨some 53,some (49,true),(.load false 1 (.tmp 52))⟩,[]),(⟨some 54,some (49,true),(.mov (.tmp 0))⟩,[]),(⟨some 55,some (49,true),(.mov (.tmp 10))⟩,[]),(⟨some 56,some (49,true),(.idx 1 (.tmp 54) (.tmp 55))⟩,[]),(⟨some 57,some (49,true),(.load false 1 (.tmp 56))⟩,[]),(⟨some 58,some (49,true),(.call (.func 90) [(.tmp 53),(.tmp 57)])⟩,[]),(⟨some 59,none,(.pick (.tmp 49) (.tmp 58) (.const (.bool false)))⟩,[])]) (.cond (.tmp 59) .skip (.exit 4))) (.block 5 (.region [⟨some 60,none,(.mov (.tmp 10))⟩,⟨some 61,none,(.bin .sub (.tmp 60) (.const (.int .i64 1)))⟩,⟨some 10,none,(.mov (.tmp 61))⟩])))
noncomputable def body91_2:ACode:=(.block 1 (.seq (.block 2 (.loop body91_0)) (.seq (.block 4 (.loop body91_1)) (.seq (.seq (.region [⟨some 62,none,(.mov (.tmp 9))⟩,⟨some 63,none,(.mov (.tmp 10))⟩,⟨some 64,none,(.bin .gtr (.tmp 62) (.tmp 63))⟩]) (.cond (.tmp 64) (.exit 0) .skip)) (.seq (.regionC [(⟨some 65,none,(.mov (.tmp 0))⟩,[]),(⟨some 66,none,(.mov (.tmp 9))⟩,[]),(⟨some 67,none,(.mov (.tmp 0))⟩,[]),(⟨some 68,none,(.mov (.tmp 10))⟩,[]),(⟨some 69,none,(.mov (.tmp 0))⟩,[]),(⟨some 70,none,(.mov (.tmp 10))⟩,[]),(⟨some 71,none,(.idx 1 (.tmp 69) (.tmp 70))⟩,[]),(⟨some 72,none,(.load false 1 (.tmp 71))⟩,[]),(⟨some 73,none,(.mov (.tmp 0))⟩,[]),(⟨some 74,none,(.mov (.tmp 9))⟩,[]),(⟨some 75,none,(.idx 1 (.tmp 73) (.tmp 74))⟩,[]),(⟨some 76,none,(.load false 1 (.tmp 75))⟩,[]),(⟨some 77,none,(.idx 1 (.tmp 65) (.tmp 66))⟩,[]),(⟨none,none,(.store 1 (.tmp 77) (.tmp 72))⟩,[]),(⟨some 78,none,(.idx 1 (.tmp 67) (.tmp 68))⟩,[]),(⟨none,none,(.store 1 (.tmp 78) (.tmp 76))⟩,[])]) (.seq (.region [⟨some 79,none,(.mov (.tmp 9))⟩,⟨some 80,none,(.bin .add (.tmp 79) (.const (.int .i64 1)))⟩,⟨some 9,none,(.mov (.tmp 80))⟩]) (.region [⟨some 81,none,(.mov (.tmp 10))⟩,⟨some 82,none,(.bin .sub (.tmp 81) (.const (.int .i64 1)))⟩,⟨some 10,none,(.mov (.tmp 82))⟩])))))))
noncomputable def body91:ACode:=(.seq (.region [⟨some 8,none,(.mov (.const (.int .i64 0)))⟩]) (.seq (.regionC [(⟨some 11,none,(.mov (.tmp 0))⟩,[]),(⟨some 12,none,(.mov (.tmp 1))⟩,[]),(⟨some 13,none,(.mov (.tmp 0))⟩,[]),(⟨some 14,none,(.mov (.tmp 3))⟩,[]),(⟨some 15,none,(.mov (.tmp 0))⟩,[]),(⟨some 16,none,(.mov (.tmp 3))⟩,[]),(⟨some 17,none,(.idx 1 (.tmp 15) (.tmp 16))⟩,[]),(⟨some 18,none,(.load false 1 (.tmp 17))⟩,[]),(⟨some 19,none,(.mov (.tmp 0))⟩,[]),(⟨some 20,none,(.mov (.tmp 1))⟩,[]),(⟨some 21,none,(.idx 1 (.tmp 19) (.tmp 20))⟩,[]),(⟨some 22,none,(.load false 1 (.tmp 21))⟩,[]),(⟨some 23,none,(.idx 1 (.tmp 11) (.tmp 12))⟩,[]),(⟨none,none,(.store 1 (.tmp 23) (.tmp 18))⟩,[]),(⟨some 24,none,(.idx 1 (.tmp 13) (.tmp 14))⟩,[]),(⟨none,none,(.store 1 (.tmp 24) (.tmp 22))⟩,[])]) (.seq (.region [⟨some 25,none,(.mov (.tmp 1))⟩,⟨some 26,none,(.bin .add (.tmp 25) (.const (.int .i64 1)))⟩,⟨some 27,none,(.mov (.tmp 2))⟩,⟨some 28,none,(.bin .sub (.tmp 27) (.const (.int .i64 1)))⟩,⟨some 9,none,(.mov (.tmp 26))⟩,⟨some 10,none,(.mov (.tmp 28))⟩]) (.seq (.block 0 (.loop body91_2)) (.seq (.region [⟨some 83,none,(.mov (.tmp 9))⟩,⟨some 8,none,(.mov (.tmp 83))⟩]) .ret)))))
set_option maxRecDepth 100000 in
theorem tab91:tb.code 91=some ⟨84,[(8,none)],body91⟩:=by kernel_rfl
theorem zFI (hB h:AHeap) (v:Value) (xs:List Int) (a b pv:Int) (e0:Ext hB h) (hmB:hB.mark≤hB.n) (o:OwnI hB h v xs) (h0:0≤a) (hp:a≤pv∧pv<b) (hb:b≤xs.length) (hlen:xs.length≤1000000000):
  WC Tryd.prog tb 91 [v,I a,I b,I pv] h fun r h'=>∃ ys m,r=I m∧SS hB h v a b xs ys h'∧(a+1≤m∧m≤b)∧(∀ k,a≤k→k<m→atI ys k≤atI xs pv)∧(∀ k,m≤k→k<b→atI xs pv<atI ys k):=by
 have s0:=SS.start a b o e0
 refine WC.of (zF 91) tab91 ?_;simp only[zO,Nat.zero_add,Nat.reduceAdd]
 refine go ?_
 refine WX.regionU2 0 rfl rfl ?_
 have srX:SlI (inC (zB 0 h)) v xs:=(o).sl
 refine goU ?_
 refine WU2.swA (a) (pv) (s0).own (s0).ext (by rw[(s0).ext.mark];exact hmB) ?_
 intro h1 e1 o1 u1
 have s1:=s0.swp e1 o1 u1 h0 hb (by omega) (by omega)
 clear o1 e1 u1
 have ha:atI (swp xs a pv) a=atI xs pv:=by
  rw[yH (by omega) (by omega) (by omega)]
  by_cases e:a=pv
  ·rw[if_pos e,e]
  ·rw[if_neg e,if_pos rfl]
 generalize swp xs a pv=ys at s1 ha
 generalize atI xs pv=P at ha ⊢
 have hl1:=s1.len
 refine go ?_
 refine WX.loopA [29,30,31,32,33,34,35,36,37,38,39,40,41,42,43,44,45,9,46,47,48,49,50,51,52,53,54,55,56,57,58,59,60,61,10,62,63,64,65,66,67,68,69,70,71,72,73,74,75,76,77,78,79,80,9,81,82,10] (by kernel_rfl) (fun x=>(x.2.2+1 - x.2.1).toNat) (fun (x:List Int×Int×Int) t h4=>SS hB h v a b xs x.1 h4∧zC t 9=I x.2.1∧zC t 10=I x.2.2∧(a+1≤x.2.1∧x.2.1≤x.2.2+1∧x.2.2≤b - 1)∧atI x.1 a=P∧(∀ k,a<k→k<x.2.1→atI x.1 k≤P)∧∀ k,x.2.2<k→k<b→P<atI x.1 k) (ys,a+1,b - 1) ?_ ?_
 ·exact⟨s1,sl_,sl_,by simp only;omega,ha,fun k h1 h2=>by simp only at h2;omega,fun k h1 h2=>by simp only at h1;omega⟩
 clear s1 ha hl1
 rintro⟨ws,p,q⟩ t h4 hsame ⟨s4,s9,s10,hpq,ha,hlow,hhigh⟩
 simp only at s4 s9 s10 hpq ha hlow hhigh
 have hl4:=s4.len
 refine go ?_
 refine WX.loopA [29,30,31,32,33,34,35,36,37,38,39,40,41,42,43,44,45,9] (by kernel_rfl) (fun i=>(b - i).toNat) (fun (i:Int) t h2=>h4=h2∧zC t 9=I i∧(p≤i∧i≤q+1)∧∀ k,a<k→k<i→atI ws k≤P) p ?_ ?_
 ·exact⟨rfl,sl_,by omega,hlow⟩
 rintro i2 t _ hsame ⟨rfl,s9,hi,hlow2⟩
 refine go ?_
 refine WX.cutA [29,30,31,32,33,34,35,36,37,38,39,40,41,42,43] (by kernel_rfl) (fun t h'=>h4=h'∧zC t 43= .bool (decide (i2≤q∧¬(atI ws a<atI ws i2)))) ?_ ?_
 ·refine WX.regionU2 0 rfl rfl ?_
  have srX:SlI (inC (zB 0 h4)) v ws:=(s4.own).sl
  refine goU ?_
  refine WO.sp (fun hd=> ?_) (fun hd=> ?_)<;>simp only[DB]at hd<;>refine goU ?_
  ·refine WO.con (yz _ (atI ws a) (atI ws i2)) ?_
   rintro _ _ ⟨rfl,rfl⟩
   refine WO.nil ?_
   refine yU ?_
   refine goU ?_
   exact zE ⟨rfl,by rw[show decide (i2≤q∧¬(atI ws a<atI ws i2))= !decide (atI ws a<atI ws i2) from zBd hd];exact sl_⟩
  ·exact zE ⟨rfl,by rw[show decide (i2≤q∧¬(atI ws a<atI ws i2))=false from decide_eq_false (fun hh=>absurd hh.1 (by omega))];exact sl_⟩
 rintro t5 _ hs5 ⟨rfl,q5⟩
 refine go ?_
 refine WX.br (fun he=> ?_) (fun he=> ?_)<;>simp only[DB]at he
 ·refine go ?_
  refine zA (i2+1) (by omega) ⟨rfl,sl_,by omega,fun k h1 h2=> ?_⟩
  by_cases e:k=i2
  ·rw[e];omega
  ·exact hlow2 k h1 (by omega)
 refine go ?_
 refine WX.loopA [46,47,48,49,50,51,52,53,54,55,56,57,58,59,60,61,10] (by kernel_rfl) (fun j=>(j+1 - a).toNat) (fun (j:Int) t h2=>h4=h2∧zC t 10=I j∧(i2 - 1≤j∧j≤q)∧∀ k,j<k→k<b→P<atI ws k) q ?_ ?_
 ·exact⟨rfl,sl_,by omega,hhigh⟩
 rintro j2 t _ hsame ⟨rfl,s10,hj,hhigh2⟩
 refine go ?_
 refine WX.cutA [46,47,48,49,50,51,52,53,54,55,56,57,58,59] (by kernel_rfl) (fun t h'=>h4=h'∧zC t 59= .bool (decide (i2≤j2∧(atI ws a<atI ws j2)))) ?_ ?_
 ·refine WX.regionU2 0 rfl rfl ?_
  have srX:SlI (inC (zB 0 h4)) v ws:=(s4.own).sl
  refine goU ?_
  refine WO.sp (fun hd=> ?_) (fun hd=> ?_)<;>simp only[DB]at hd<;>refine goU ?_
  ·refine WO.con (yz _ (atI ws a) (atI ws j2)) ?_
   rintro _ _ ⟨rfl,rfl⟩
   refine WO.nil ?_
   refine yU ?_
   refine goU ?_
   exact zE ⟨rfl,by rw[show decide (i2≤j2∧(atI ws a<atI ws j2))=decide (atI ws a<atI ws j2) from zC8 hd];exact sl_⟩
  ·exact zE ⟨rfl,by rw[show decide (i2≤j2∧(atI ws a<atI ws j2))=false from decide_eq_false (fun hh=>absurd hh.1 (by omega))];exact sl_⟩
 rintro t6 _ hs6 ⟨rfl,q6⟩
 refine go ?_
 refine WX.br (fun hf=> ?_) (fun hf=> ?_)<;>simp only[DB]at hf
 ·refine go ?_
  refine zA (j2 - 1) (by omega) ⟨rfl,sl_,by omega,fun k h1 h2=> ?_⟩
  by_cases e:k=j2
  ·rw[e];omega
  ·exact hhigh2 k (by omega) h2
 refine go ?_
 refine WX.br (fun hg=> ?_) (fun hg=> ?_)<;>simp only[DB]at hg
 ·refine go ?_
  refine rt ?_
  refine⟨_,_,rfl,s4,by omega,fun k h1 h2=> ?_,fun k h1 h2=> ?_⟩
  ·by_cases e:k=a
   ·rw[e,ha];exact Int.le_refl _
   ·exact hlow2 k (by omega) h2
  ·exact hhigh2 k (by omega) h2
 have hi2:P<atI ws i2:=by
  rw[←ha];exact Int.not_le.1 fun hh=>he ⟨by omega,hh⟩
 have hj2:atI ws j2≤P:=by
  rw[←ha];exact Int.not_lt.1 fun hh=>hf ⟨by omega,hh⟩
 have hij:i2≠j2:=fun e=>by subst e;omega
 refine go ?_
 refine WX.regionU2 0 rfl rfl ?_
 have srX:SlI (inC (zB 0 h4)) v ws:=(s4.own).sl
 refine goU ?_
 refine WU2.swA (i2) (j2) (s4).own (s4).ext (by rw[(s4).ext.mark];exact hmB) ?_
 intro h3 e3 o3 u3
 have s3:=s4.swp e3 o3 u3 h0 hb (by omega) (by omega)
 refine go ?_
 refine zA (swp ws i2 j2,i2+1,j2 - 1) (by simp only;omega) ⟨s3,sl_,sl_,by simp only;omega,?_,fun k h1 h2=> ?_,fun k h1 h2=> ?_⟩
 ·simp only
  rw[yH (by omega) (by omega) (by omega),if_neg (by omega),if_neg (by omega)];exact ha
 ·simp only at h2 ⊢
  rw[yH (by omega) (by omega) (by omega),if_neg (by omega)]
  by_cases e:k=i2
  ·rw[if_pos e];exact hj2
  ·rw[if_neg e];exact hlow2 k h1 (by omega)
 ·simp only at h1 ⊢
  rw[yH (by omega) (by omega) (by omega)]
  by_cases e:k=j2
  ·rw[if_pos e];omega
  ·rw[if_neg e,if_neg (by omega)];exact hhigh2 k (by omega) h2
noncomputable def body88_0:ACode:=(.seq (.seq (.region [⟨some 11,none,(.mov (.tmp 6))⟩,⟨some 12,none,(.mov (.tmp 7))⟩,⟨some 13,none,(.bin .lss (.tmp 11) (.tmp 12))⟩]) (.cond (.tmp 13) .skip (.exit 0))) (.block 1 (.seq (.regionC [(⟨some 14,none,(.mov (.tmp 0))⟩,[]),(⟨some 15,none,(.mov (.tmp 6))⟩,[]),(⟨some 16,none,(.mov (.tmp 0))⟩,[]),(⟨some 17,none,(.mov (.tmp 7))⟩,[]),(⟨some 18,none,(.mov (.tmp 0))⟩,[]),(⟨some 19,none,(.mov (.tmp 7))⟩,[]),(⟨some 20,none,(.idx 1 (.tmp 18) (.tmp 19))⟩,[]),(⟨some 21,none,(.load false 1 (.tmp 20))⟩,[]),(⟨some 22,none,(.mov (.tmp 0))⟩,[]),(⟨some 23,none,(.mov (.tmp 6))⟩,[]),(⟨some 24,none,(.idx 1 (.tmp 22) (.tmp 23))⟩,[]),(⟨some 25,none,(.load false 1 (.tmp 24))⟩,[]),(⟨some 26,none,(.idx 1 (.tmp 14) (.tmp 15))⟩,[]),(⟨none,none,(.store 1 (.tmp 26) (.tmp 21))⟩,[]),(⟨some 27,none,(.idx 1 (.tmp 16) (.tmp 17))⟩,[]),(⟨none,none,(.store 1 (.tmp 27) (.tmp 25))⟩,[])]) (.seq (.region [⟨some 28,none,(.mov (.tmp 6))⟩,⟨some 29,none,(.bin .add (.tmp 28) (.const (.int .i64 1)))⟩,⟨some 6,none,(.mov (.tmp 29))⟩]) (.region [⟨some 30,none,(.mov (.tmp 7))⟩,⟨some 31,none,(.bin .sub (.tmp 30) (.const (.int .i64 1)))⟩,⟨some 7,none,(.mov (.tmp 31))⟩])))))
noncomputable def body88:ACode:=(.seq (.region [⟨some 8,none,(.mov (.tmp 1))⟩,⟨some 6,none,(.mov (.tmp 8))⟩]) (.seq (.region [⟨some 9,none,(.mov (.tmp 2))⟩,⟨some 10,none,(.bin .sub (.tmp 9) (.const (.int .i64 1)))⟩,⟨some 7,none,(.mov (.tmp 10))⟩]) (.block 0 (.loop body88_0))))
set_option maxRecDepth 100000 in
theorem tab88:tb.code 88=some ⟨32,[],body88⟩:=by kernel_rfl
theorem zHc (hB h:AHeap) (v:Value) (xs:List Int) (a b:Int) (e0:Ext hB h) (hmB:hB.mark≤hB.n) (o:OwnI hB h v xs) (h0:0≤a) (hab:a≤b) (hb:b≤xs.length) (hlen:xs.length≤1000000000):
  WC Tryd.prog tb 88 [v,I a,I b] h fun r h'=>∃ ys,SS hB h v a b xs ys h':=by
 have s0:=SS.start a b o e0
 refine WC.of (zF 88) tab88 ?_;simp only[zO,Nat.zero_add,Nat.reduceAdd]
 refine go ?_
 refine WX.loopA [11,12,13,14,15,16,17,18,19,20,21,22,23,24,25,26,27,28,29,6,30,31,7] (by kernel_rfl) (fun x=>(x.2.2+1 - x.2.1).toNat) (fun (x:List Int×Int×Int) t h4=>SS hB h v a b xs x.1 h4∧zC t 6=I x.2.1∧zC t 7=I x.2.2∧(a≤x.2.1∧x.2.2≤b - 1)∧(x.2.1≤b∧a - 1≤x.2.2)) (xs,a,b - 1) ?_ ?_
 ·exact⟨s0,sl_,sl_,by simp only;omega,by simp only;omega⟩
 rintro⟨ws,p,q⟩ t h4 hsame ⟨s4,s6,s7,hpq,hpq2⟩
 simp only at s4 s6 s7 hpq hpq2
 have hl4:=s4.len
 refine go ?_
 refine WX.br (fun he=> ?_) (fun he=> ?_)<;>simp only[DB]at he
 ·refine go ?_
  refine WX.regionU2 0 rfl rfl ?_
  have srX:SlI (inC (zB 0 h4)) v ws:=(s4.own).sl
  refine goU ?_
  refine WU2.swA (p) (q) (s4).own (s4).ext (by rw[(s4).ext.mark];exact hmB) ?_
  intro h3 e3 o3 u3
  have s3:=s4.swp e3 o3 u3 h0 hb (by omega) (by omega)
  refine go ?_
  exact zA (swp ws p q,p+1,q - 1) (by simp only;omega) ⟨s3,sl_,sl_,by simp only;omega,by simp only;omega⟩
 ·refine go ?_
  refine rtN ?_
  exact⟨ws,s4⟩
def Edge (lo hi k c:Int):Prop:=lo≤k∧(c=2 * k+1∨c=2 * k+2)∧c<hi
def zES (first lo hi:Int) (xs:List Int):Prop:=∀ k c,Edge lo hi k c→atI xs (first+c)≤atI xs (first+k)
theorem heap_max {first hi:Int} {xs:List Int} (h:zES first 0 hi xs):∀ (n:Nat) (k:Int),k=n→k<hi→atI xs (first+k)≤atI xs (first+0):=by
 intro n
 induction n using Nat.strongRecOn with
 |_ n ih=>
  intro k hk hlt
  by_cases e:k=0
  ·rw[e];exact Int.le_refl _
  ·have h1:=h ((k - 1) / 2) k ⟨by omega,by omega,hlt⟩
   have h2:=ih ((k - 1) / 2).toNat (by omega) ((k - 1) / 2) (by omega) (by omega)
   omega
noncomputable def body98_0:ACode:=(.block 1 (.seq (.region [⟨some 11,none,(.mov (.tmp 8))⟩,⟨some 12,none,(.bin .mul (.const (.int .i64 2)) (.tmp 11))⟩,⟨some 13,none,(.bin .add (.tmp 12) (.const (.int .i64 1)))⟩,⟨some 9,none,(.mov (.tmp 13))⟩]) (.seq (.seq (.region [⟨some 14,none,(.mov (.tmp 9))⟩,⟨some 15,none,(.mov (.tmp 2))⟩,⟨some 16,none,(.bin .geq (.tmp 14) (.tmp 15))⟩]) (.cond (.tmp 16) (.exit 0) .skip)) (.seq (.seq (.regionC [(⟨some 17,none,(.mov (.tmp 9))⟩,[]),(⟨some 18,none,(.bin .add (.tmp 17) (.const (.int .i64 1)))⟩,[]),(⟨some 19,none,(.mov (.tmp 2))⟩,[]),(⟨some 20,none,(.bin .lss (.tmp 18) (.tmp 19))⟩,[]),(⟨some 21,none,(.mov (.tmp 20))⟩,[]),(⟨some 22,some (21,true),(.mov (.tmp 0))⟩,[]),(⟨some 23,some (21,true),(.mov (.tmp 3))⟩,[]),(⟨some 24,some (21,true),(.mov (.tmp 9))⟩,[]),(⟨some 25,some (21,true),(.bin .add (.tmp 23) (.tmp 24))⟩,[]),(⟨some 26,some (21,true),(.idx 1 (.tmp 22) (.tmp 25))⟩,[]),(⟨some 27,some (21,true),(.load false 1 (.tmp 26))⟩,[]),(⟨some 28,some (21,true),(.mov (.tmp 0))⟩,[]),(⟨some 29,some (21,true),(.mov (.tmp 3))⟩,[]),(⟨some 30,some (21,true),(.mov (.tmp 9))⟩,[]),(⟨some 31,some (21,true),(.bin .add (.tmp 29) (.tmp 30))⟩,[]),(⟨some 32,some (21,true),(.bin .add (.tmp 31) (.const (.int .i64 1)))⟩,[]),(⟨some 33,some (21,true),(.idx 1 (.tmp 28) (.tmp 32))⟩,[]),(⟨some 34,some (21,true),(.load false 1 (.tmp 33))⟩,[]),(⟨some 35,some (21,true),(.call (.func 90) [(.tmp 27),(.tmp 34)])⟩,[]),(⟨some 36,none,(.pick (.tmp 21) (.tmp 35) (.const (.bool false)))⟩,[])]) (.cond (.tmp 36) (.region [⟨some 37,none,(.mov (.tmp 9))⟩,⟨some 38,none,(.bin .add (.tmp 37) (.const (.int .i64 1)))⟩,⟨some 9,none,(.mov (.tmp 38))⟩]) .skip)) (.seq (.seq (.regionC [(⟨some 39,none,(.mov (.tmp 0))⟩,[]),(⟨some 40,none,(.mov (.tmp 3))⟩,[]),(⟨some 41,none,(.mov (.tmp 8))⟩,[]),(⟨some 42,none,(.bin .add (.tmp 40) (.tmp 41))⟩,[]),(⟨some 43,none,(.idx 1 (.tmp 39) (.tmp 42))⟩,[]),(⟨some 44,none,(.load false 1 (.tmp 43))⟩,[]),(⟨some 45,none,(.mov (.tmp 0))⟩,[]),(⟨some 46,none,(.mov (.tmp 3))⟩,[]),(⟨some 47,none,(.mov (.tmp 9))⟩,[]),(⟨some 48,none,(.bin .add (.tmp 46) (.tmp 47))⟩,[]),(⟨some 49,none,(.idx 1 (.tmp 45) (.tmp 48))⟩,[]),(⟨some 50,none,(.load false 1 (.tmp 49))⟩,[]),(⟨some 51,none,(.call (.func 90) [(.tmp 44),(.tmp 50)])⟩,[]),(⟨some 52,none,(.un .not (.tmp 51))⟩,[])]) (.cond (.tmp 52) .ret .skip)) (.seq (.regionC [(⟨some 53,none,(.mov (.tmp 0))⟩,[]),(⟨some 54,none,(.mov (.tmp 3))⟩,[]),(⟨some 55,none,(.mov (.tmp 8))⟩,[]),(⟨some 56,none,(.bin .add (.tmp 54) (.tmp 55))⟩,[]),(⟨some 57,none,(.mov (.tmp 0))⟩,[]),(⟨some 58,none,(.mov (.tmp 3))⟩,[]),(⟨some 59,none,(.mov (.tmp 9))⟩,[]),(⟨some 60,none,(.bin .add (.tmp 58) (.tmp 59))⟩,[]),(⟨some 61,none,(.mov (.tmp 0))⟩,[]),(⟨some 62,none,(.mov (.tmp 3))⟩,[]),(⟨some 63,none,(.mov (.tmp 9))⟩,[]),(⟨some 64,none,(.bin .add (.tmp 62) (.tmp 63))⟩,[]),(⟨some 65,none,(.idx 1 (.tmp 61) (.tmp 64))⟩,[]),(⟨some 66,none,(.load false 1 (.tmp 65))⟩,[]),(⟨some 67,none,(.mov (.tmp 0))⟩,[]),(⟨some 68,none,(.mov (.tmp 3))⟩,[]),(⟨some 69,none,(.mov (.tmp 8))⟩,[]),(⟨some 70,none,(.bin .add (.tmp 68) (.tmp 69))⟩,[]),(⟨some 71,none,(.idx 1 (.tmp 67) (.tmp 70))⟩,[]),(⟨some 72,none,(.load false 1 (.tmp 71))⟩,[]),(⟨some 73,none,(.idx 1 (.tmp 53) (.tmp 56))⟩,[]),(⟨none,none,(.store 1 (.tmp 73) (.tmp 66))⟩,[]),(⟨some 74,none,(.idx 1 (.tmp 57) (.tmp 60))⟩,[]),(⟨none,none,(.store 1 (.tmp 74) (.tmp 72))⟩,[])]) (.region [⟨some 75,none,(.mov (.tmp 9))⟩,⟨some 8,none,(.mov (.tmp 75))⟩])))))))
noncomputable def body98:ACode:=(.seq (.region [⟨some 10,none,(.mov (.tmp 1))⟩,⟨some 8,none,(.mov (.tmp 10))⟩]) (.block 0 (.loop body98_0)))
set_option maxRecDepth 100000 in
theorem tab98:tb.code 98=some ⟨76,[],body98⟩:=by kernel_rfl
theorem zIA (hB h:AHeap) (v:Value) (xs:List Int) (lo hi first:Int) (e0:Ext hB h) (hmB:hB.mark≤hB.n) (o:OwnI hB h v xs) (h0:0≤lo) (hlo:lo≤1000000000) (hf:0≤first) (hb:first+hi≤xs.length) (hlen:xs.length≤1000000000) (hh:zES first (lo+1) hi xs):
  WC Tryd.prog tb 98 [v,I lo,I hi,I first] h fun r h'=>∃ ys,SS hB h v (first+lo) (first+hi) xs ys h'∧zES first lo hi ys:=by
 have s0:=SS.start (first+lo) (first+hi) o e0
 refine WC.of (zF 98) tab98 ?_;simp only[zO,Nat.zero_add,Nat.reduceAdd]
 refine go ?_
 refine WX.loopA [11,12,13,9,14,15,16,17,18,19,20,21,22,23,24,25,26,27,28,29,30,31,32,33,34,35,36,37,38,9,39,40,41,42,43,44,45,46,47,48,49,50,51,52,53,54,55,56,57,58,59,60,61,62,63,64,65,66,67,68,69,70,71,72,73,74,75,8] (by kernel_rfl) (fun x=>(hi+1 - x.2).toNat) (fun (x:List Int×Int) t h4=>SS hB h v (first+lo) (first+hi) xs x.1 h4∧zC t 8=I x.2∧(lo≤x.2∧(x.2=lo∨x.2<hi))∧(∀ k c,Edge lo hi k c→k≠x.2→atI x.1 (first+c)≤atI x.1 (first+k))∧∀ k c,Edge lo hi k x.2→Edge lo hi x.2 c→atI x.1 (first+c)≤atI x.1 (first+k)) (xs,lo) ?_ ?_
 ·refine⟨s0,sl_,⟨Int.le_refl _,.inl rfl⟩,fun k c hk hne=>hh k c ⟨by have:=hk.1;simp only at hne;omega,hk.2⟩,fun k c h1 h2=> ?_⟩
  obtain⟨a1,a2,a3⟩:=h1;simp only at a2;omega
 rintro⟨ws,r⟩ t h4 hsame ⟨s4,s8,hr,i1,i2⟩
 simp only at s4 s8 hr i1 i2
 have hl4:=s4.len
 refine go ?_
 refine WX.br (fun he=> ?_) (fun he=> ?_)<;>simp only[DB]at he
 ·refine go ?_
  refine rtN ?_
  refine⟨ws,s4,fun k c hk=> ?_⟩
  by_cases e:k=r
  ·obtain⟨a1,a2,a3⟩:=hk;subst e;omega
  ·exact i1 k c hk e
 refine go ?_
 refine WX.cutA [17,18,19,20,21,22,23,24,25,26,27,28,29,30,31,32,33,34,35,36] (by kernel_rfl) (fun t h'=>h4=h'∧zC t 36= .bool (decide (2 * r+1+1<hi∧(atI ws (first+(2 * r+1))<atI ws (first+(2 * r+1)+1))))) ?_ ?_
 ·refine WX.regionU2 0 rfl rfl ?_
  have srX:SlI (inC (zB 0 h4)) v ws:=(s4.own).sl
  refine goU ?_
  refine WO.sp (fun hd=> ?_) (fun hd=> ?_)<;>simp only[DB]at hd<;>refine goU ?_
  ·refine WO.con (yz _ (atI ws (first+(2 * r+1))) (atI ws (first+(2 * r+1)+1))) ?_
   rintro _ _ ⟨rfl,rfl⟩
   refine WO.nil ?_
   refine yU ?_
   refine goU ?_
   exact zE ⟨rfl,by rw[show decide (2 * r+1+1<hi∧(atI ws (first+(2 * r+1))<atI ws (first+(2 * r+1)+1)))=decide (atI ws (first+(2 * r+1))<atI ws (first+(2 * r+1)+1)) from zC8 hd];exact sl_⟩
  ·exact zE ⟨rfl,by rw[show decide (2 * r+1+1<hi∧(atI ws (first+(2 * r+1))<atI ws (first+(2 * r+1)+1)))=false from decide_eq_false (fun hh=>absurd hh.1 (by omega))];exact sl_⟩
 rintro t5 _ hs5 ⟨rfl,q5⟩
 have hcut:∀ c:Int,(c=2 * r+1∨c=2 * r+2)→c<hi→(∀ d,Edge lo hi r d→atI ws (first+d)≤atI ws (first+c))→∀ (t:Trie Value) (K:AExit→AFr→AHeap→Prop),True:=fun _ _ _ _ _ _=>trivial
 refine go ?_
 refine WX.cutA [37,38,9] (by kernel_rfl) (fun t h'=>h4=h'∧∃ c:Int,zC t 9=I c∧(c=2 * r+1∨c=2 * r+2)∧c<hi∧∀ d,Edge lo hi r d→atI ws (first+d)≤atI ws (first+c)) ?_ ?_
 ·refine WX.br (fun hg=> ?_) (fun hg=> ?_)<;>simp only[DB]at hg<;>refine go ?_
  ·refine zE ⟨rfl,2 * r+1+1,sl_,by omega,by omega,fun d hd=> ?_⟩
   obtain⟨_,a2,_⟩:=hd
   have e1:first+(2 * r+1)+1=first+(2 * r+1+1):=by omega
   rw[e1]at hg
   rcases a2 with rfl|rfl
   ·omega
   ·have:first+(2 * r+2)=first+(2 * r+1+1):=by omega
    rw[this];exact Int.le_refl _
  ·refine zE ⟨rfl,2 * r+1,sl_,by omega,by omega,fun d hd=> ?_⟩
   obtain⟨_,a2,a3⟩:=hd
   rcases a2 with rfl|rfl
   ·exact Int.le_refl _
   ·have e1:first+(2 * r+1)+1=first+(2 * r+2):=by omega
    rw[e1]at hg
    exact Int.not_lt.1 fun hh=>hg ⟨by omega,hh⟩
 clear hcut
 rintro t7 _ hs7 ⟨rfl,c,q7,hc,hc2,hmax⟩
 refine go ?_
 refine WX.regionU2 0 rfl rfl ?_
 have srX:SlI (inC (zB 0 h4)) v ws:=(s4.own).sl
 refine goU ?_
 refine WO.con (yz _ (atI ws (first+r)) (atI ws (first+c))) ?_
 rintro _ _ ⟨rfl,rfl⟩
 refine WO.nil ?_
 refine yU ?_
 refine goU ?_
 rw[Yx]
 refine WX.br (fun hg=> ?_) (fun hg=> ?_)<;>simp only[DB]at hg
 ·refine go ?_
  refine rt ?_
  refine⟨ws,s4,fun k d hk=> ?_⟩
  by_cases e:k=r
  ·subst e;have:=hmax d hk;omega
  ·exact i1 k d hk e
 refine go ?_
 refine WX.regionU2 0 rfl rfl ?_
 have srX:SlI (inC (zB 0 h4)) v ws:=(s4.own).sl
 refine goU ?_
 refine WU2.swA (first+r) (first+c) (s4).own (s4).ext (by rw[(s4).ext.mark];exact hmB) ?_
 intro h3 e3 o3 u3
 have s3:=s4.swp e3 o3 u3 (by omega) hb (by omega) (by omega)
 refine go ?_
 have hat:∀ k,0≤k→atI (swp ws (first+r) (first+c)) (first+k)=if k=c then atI ws (first+r) else if k=r then atI ws (first+c) else atI ws (first+k):=by
  intro k hk
  rw[yH (by omega) (by omega) (by omega)]
  have e1:(first+k=first+c)↔k=c:=by omega
  have e2:(first+k=first+r)↔k=r:=by omega
  simp only[e1,e2]
 refine zA (swp ws (first+r) (first+c),c) (by simp only;omega) ⟨s3,sl_,by simp only;omega,fun k d hk hne=> ?_,fun k d hk hd=> ?_⟩
 ·simp only at hne ⊢
  have hk':=hk
  obtain⟨a1,a2,a3⟩:=hk'
  rw[hat d (by omega),hat k (by omega),if_neg hne]
  by_cases e:k=r
  ·rw[if_pos e]
   subst e
   by_cases e2:d=c
   ·rw[if_pos e2];omega
   ·rw[if_neg e2,if_neg (by omega)];exact hmax d hk
  ·rw[if_neg e,if_neg (by omega:¬d=c)]
   by_cases e2:d=r
   ·rw[if_pos e2];subst e2;exact i2 k c hk ⟨hr.1,hc,hc2⟩
   ·rw[if_neg e2];exact i1 k d hk e
 ·simp only at hk hd ⊢
  obtain⟨a1,a2,a3⟩:=hk
  have ek:k=r:=by omega
  have hd':=hd
  obtain⟨b1,b2,b3⟩:=hd'
  rw[hat d (by omega),hat k (by omega),if_neg (by omega),if_neg (by omega),if_neg (by omega),if_pos ek]
  exact i1 c d hd (by omega)
noncomputable def body85_0:ACode:=(.seq (.seq (.region [⟨some 18,none,(.mov (.tmp 9))⟩,⟨some 19,none,(.bin .geq (.tmp 18) (.const (.int .i64 0)))⟩]) (.cond (.tmp 19) .skip (.exit 0))) (.seq (.block 1 (.region [⟨some 22,none,(.mov (.tmp 0))⟩,⟨some 23,none,(.mov (.tmp 9))⟩,⟨some 24,none,(.mov (.tmp 8))⟩,⟨some 25,none,(.mov (.tmp 6))⟩,⟨some 26,none,(.call (.func 98) [(.tmp 22),(.tmp 23),(.tmp 24),(.tmp 25)])⟩])) (.region [⟨some 20,none,(.mov (.tmp 9))⟩,⟨some 21,none,(.bin .sub (.tmp 20) (.const (.int .i64 1)))⟩,⟨some 9,none,(.mov (.tmp 21))⟩])))
noncomputable def body85_1:ACode:=(.seq (.seq (.region [⟨some 29,none,(.mov (.tmp 10))⟩,⟨some 30,none,(.bin .geq (.tmp 29) (.const (.int .i64 0)))⟩]) (.cond (.tmp 30) .skip (.exit 2))) (.seq (.block 3 (.seq (.regionC [(⟨some 33,none,(.mov (.tmp 0))⟩,[]),(⟨some 34,none,(.mov (.tmp 6))⟩,[]),(⟨some 35,none,(.mov (.tmp 0))⟩,[]),(⟨some 36,none,(.mov (.tmp 6))⟩,[]),(⟨some 37,none,(.mov (.tmp 10))⟩,[]),(⟨some 38,none,(.bin .add (.tmp 36) (.tmp 37))⟩,[]),(⟨some 39,none,(.mov (.tmp 0))⟩,[]),(⟨some 40,none,(.mov (.tmp 6))⟩,[]),(⟨some 41,none,(.mov (.tmp 10))⟩,[]),(⟨some 42,none,(.bin .add (.tmp 40) (.tmp 41))⟩,[]),(⟨some 43,none,(.idx 1 (.tmp 39) (.tmp 42))⟩,[]),(⟨some 44,none,(.load false 1 (.tmp 43))⟩,[]),(⟨some 45,none,(.mov (.tmp 0))⟩,[]),(⟨some 46,none,(.mov (.tmp 6))⟩,[]),(⟨some 47,none,(.idx 1 (.tmp 45) (.tmp 46))⟩,[]),(⟨some 48,none,(.load false 1 (.tmp 47))⟩,[]),(⟨some 49,none,(.idx 1 (.tmp 33) (.tmp 34))⟩,[]),(⟨none,none,(.store 1 (.tmp 49) (.tmp 44))⟩,[]),(⟨some 50,none,(.idx 1 (.tmp 35) (.tmp 38))⟩,[]),(⟨none,none,(.store 1 (.tmp 50) (.tmp 48))⟩,[])]) (.region [⟨some 51,none,(.mov (.tmp 0))⟩,⟨some 52,none,(.mov (.tmp 7))⟩,⟨some 53,none,(.mov (.tmp 10))⟩,⟨some 54,none,(.mov (.tmp 6))⟩,⟨some 55,none,(.call (.func 98) [(.tmp 51),(.tmp 52),(.tmp 53),(.tmp 54)])⟩]))) (.region [⟨some 31,none,(.mov (.tmp 10))⟩,⟨some 32,none,(.bin .sub (.tmp 31) (.const (.int .i64 1)))⟩,⟨some 10,none,(.mov (.tmp 32))⟩])))
noncomputable def body85:ACode:=(.seq (.region [⟨some 11,none,(.mov (.tmp 1))⟩,⟨some 6,none,(.mov (.tmp 11))⟩]) (.seq (.region [⟨some 7,none,(.mov (.const (.int .i64 0)))⟩]) (.seq (.region [⟨some 12,none,(.mov (.tmp 2))⟩,⟨some 13,none,(.mov (.tmp 1))⟩,⟨some 14,none,(.bin .sub (.tmp 12) (.tmp 13))⟩,⟨some 8,none,(.mov (.tmp 14))⟩]) (.seq (.seq (.region [⟨some 15,none,(.mov (.tmp 8))⟩,⟨some 16,none,(.bin .sub (.tmp 15) (.const (.int .i64 1)))⟩,⟨some 17,none,(.bin .quo (.tmp 16) (.const (.int .i64 2)))⟩,⟨some 9,none,(.mov (.tmp 17))⟩]) (.block 0 (.loop body85_0))) (.seq (.region [⟨some 27,none,(.mov (.tmp 8))⟩,⟨some 28,none,(.bin .sub (.tmp 27) (.const (.int .i64 1)))⟩,⟨some 10,none,(.mov (.tmp 28))⟩]) (.block 2 (.loop body85_1)))))))
set_option maxRecDepth 100000 in
theorem tab85:tb.code 85=some ⟨56,[],body85⟩:=by kernel_rfl
theorem heap_ok (hB h:AHeap) (v:Value) (xs:List Int) (a b:Int) (e0:Ext hB h) (hmB:hB.mark≤hB.n) (o:OwnI hB h v xs) (h0:0≤a) (hab:a≤b) (hb:b≤xs.length) (hlen:xs.length≤1000000000):
  WC Tryd.prog tb 85 [v,I a,I b] h fun r h'=>∃ ys,SS hB h v a b xs ys h'∧Srt a b ys:=by
 have s0:=SS.start a b o e0
 refine WC.of (zF 85) tab85 ?_;simp only[zO,Nat.zero_add,Nat.reduceAdd]
 have hq:(b - a - 1).tdiv 2≤b - a∧0≤(b - a - 1).tdiv 2∧b - a - 2≤2 * (b - a - 1).tdiv 2:=by
  by_cases e:b - a=0
  ·rw[e];decide
  ·rw[Int.tdiv_eq_ediv_of_nonneg (by omega)];omega
 refine go ?_
 refine WO.quo (a:=b - a - 1) (c:=2) (by decide) (by omega) (by omega) ?_
 refine go ?_
 refine WX.loopA [18,19,22,23,24,25,26,20,21,9] (by kernel_rfl) (fun x=>(x.2+1).toNat) (fun (x:List Int×Int) t h4=>SS hB h v a b xs x.1 h4∧zC t 9=I x.2∧(-1≤x.2∧x.2≤b - a)∧zES a (x.2+1) (b - a) x.1) (xs,(b - a - 1).tdiv 2) ?_ ?_
 ·refine⟨s0,sl_,by simp only;omega,fun k c hk=> ?_⟩
  obtain⟨a1,a2,a3⟩:=hk
  simp only at a1;omega
 rintro⟨ws,i⟩ t h4 hsame ⟨s4,s9,hi,hh⟩
 simp only at s4 s9 hi hh
 have hl4:=s4.len
 refine go ?_
 refine WX.br (fun he=> ?_) (fun he=> ?_)<;>simp only[DB]at he
 ·refine go ?_
  refine WO.con (zIA hB h4 v ws i (b - a) a s4.ext hmB s4.own (by omega) (by omega) h0 (by omega) (by omega) hh) ?_
  rintro _ h5 ⟨ys,s5,hh5⟩
  refine go ?_
  exact zA (ys,i - 1) (by simp only;omega) ⟨s4.call s5 (by omega) (by omega),sl_,by simp only;omega,by simp only;rw[show i - 1+1=i by omega];exact hh5⟩
 have hi1:i= -1:=by omega
 subst hi1
 refine go ?_
 have hh0:zES a 0 (b - a - 1+1) ws:=by rw[show b - a - 1+1=b - a by omega];exact hh
 clear hh s9 he hi
 refine WX.loopA [29,30,33,34,35,36,37,38,39,40,41,42,43,44,45,46,47,48,49,50,51,52,53,54,55,31,32,10] (by kernel_rfl) (fun x=>(x.2+1).toNat) (fun (x:List Int×Int) t h5=>SS hB h v a b xs x.1 h5∧zC t 10=I x.2∧(-1≤x.2∧x.2≤b - a - 1)∧zES a 0 (x.2+1) x.1∧Srt (a+x.2+1) b x.1∧∀ p q,a≤p→p≤a+x.2→a+x.2<q→q<b→atI x.1 p≤atI x.1 q) (ws,b - a - 1) ?_ ?_
 ·exact⟨s4,sl_,by simp only;omega,hh0,Srt.small (by simp only;omega),fun p q h1 h2 h3 h4=>by simp only at h3;omega⟩
 clear hh0 s4 hl4
 rintro⟨zs,i⟩ t h4 hsame ⟨s4,s10,hi,hh,hs,hl⟩
 simp only at s4 s10 hi hh hs hl
 have hl4:=s4.len
 refine go ?_
 refine WX.br (fun he=> ?_) (fun he=> ?_)<;>simp only[DB]at he
 ·refine go ?_
  refine WX.regionU2 0 rfl rfl ?_
  have srX:SlI (inC (zB 0 h4)) v zs:=(s4.own).sl
  refine goU ?_
  refine WU2.swA (a) (a+i) (s4).own (s4).ext (by rw[(s4).ext.mark];exact hmB) ?_
  intro h3 e3 o3 u3
  have s3:=s4.swp e3 o3 u3 (by omega) hb (by omega) (by omega)
  have hat:∀ k,0≤k→atI (swp zs a (a+i)) (a+k)=if k=i then atI zs (a+0) else if k=0 then atI zs (a+i) else atI zs (a+k):=by
   intro k hk
   rw[yH (by omega) (by omega) (by omega)]
   have e1:(a+k=a+i)↔k=i:=by omega
   have e2:(a+k=a)↔k=0:=by omega
   have e3:a+0=a:=by omega
   simp only[e1,e2,e3]
  have hmax:∀ k,0≤k→k≤i→atI zs (a+k)≤atI zs (a+0):=fun k h1 h2=>heap_max hh k.toNat k (by omega) (by omega)
  refine go ?_
  refine WO.con (zIA hB h3 v _ 0 i a s3.ext hmB s3.own (by omega) (by omega) h0 (by rw[s3.len];omega) (by rw[s3.len];omega) (fun k c hk=> ?_)) ?_
  ·obtain⟨a1,a2,a3⟩:=hk
   rw[hat c (by omega),hat k (by omega),if_neg (by omega),if_neg (by omega),if_neg (by omega),if_neg (by omega)]
   exact hh k c ⟨by omega,a2,by omega⟩
  rintro _ h5 ⟨ys,s5,hh5⟩
  have p5:=s5.pi
  have out:∀ k,i≤k→atI ys (a+k)=atI (swp zs a (a+i)) (a+k):=fun k hk=>p5.out _ (by omega) (.inr (by omega))
  have low:∀ k,a+0≤k→k<a+i→atI ys k≤atI zs (a+0):=p5.all (p:=fun x=>x≤atI zs (a+0)) (by omega) (by rw[s3.len];omega) (fun k h1 h2=>by
   have:=hat (k - a) (by omega)
   rw[show a+(k - a)=k by omega]at this
   rw[this,if_neg (by omega)]
   by_cases e:k - a=0
   ·rw[if_pos e];exact hmax i (by omega) (by omega)
   ·rw[if_neg e];have:=hmax (k - a) (by omega) (by omega);rw[show a+(k - a)=k by omega]at this;exact this)
  have top:atI ys (a+i)=atI zs (a+0):=by rw[out i (Int.le_refl _),hat i (by omega),if_pos rfl]
  have rest:∀ k,a+i<k→atI ys k=atI zs k:=fun k hk=>by
   have h1:=out (k - a) (by omega)
   rw[hat (k - a) (by omega),if_neg (by omega),if_neg (by omega),show a+(k - a)=k by omega]at h1
   exact h1
  refine go ?_
  refine zA (ys,i - 1) (by simp only;omega) ⟨s3.call s5 (by omega) (by omega),sl_,by simp only;omega,by simp only;rw[show i - 1+1=i by omega];exact hh5,fun p q h1 h2 h3=> ?_,fun p q h1 h2 h3 h4=> ?_⟩
  ·simp only at h1 ⊢
   by_cases ep:p=a+i
   ·by_cases eq:q=a+i
    ·rw[ep,eq];exact Int.le_refl _
    ·rw[ep,top,rest q (by omega)];exact hl (a+0) q (by omega) (by omega) (by omega) h3
   ·rw[rest p (by omega),rest q (by omega)];exact hs p q (by omega) h2 h3
  ·simp only at h2 h3 ⊢
   have hp:=low p (by omega) (by omega)
   by_cases eq:q=a+i
   ·rw[eq,top];exact hp
   ·rw[rest q (by omega)];have:=hl (a+0) q (by omega) (by omega) (by omega) h4;omega
 ·refine go ?_
  refine rtN ?_
  have hi1:i= -1:=by omega
  subst hi1
  exact⟨zs,s4,fun p q h1 h2 h3=>hs p q (by omega) h2 h3⟩
end Go.Proofs.YtemggiegiejopaaDoor
