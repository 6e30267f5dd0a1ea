/- What functions of the program come to in the abstract machine, and plain laws about it; no statement of the seat is proved in this text. -/
import Derived.Test.YtemggiegiejopaaGreatDoorJj
import Derived.Test.YtemggiegiejopaaGreatDoorJc
import Derived.Test.YtemggiegiejopaaGreatDoorAmV
import Derived.Test.YtemggiegiejopaaGreatDoorAmU
set_option linter.unusedVariables false
set_option linter.unusedSimpArgs false
set_option maxHeartbeats 1000000
set_option maxRecDepth 100000
namespace Go.Proofs.YtemggiegiejopaaGreatDoor
noncomputable section
open Go.Am
theorem _root_.Go.Am.Ext.reg {h h':AHeap} (e:Ext (inC (zB 0 h)) h'):Ext h (outC h (inC h')):=by
 have x:Ext h (outC h h'):=Ext.outC e;exact x
def body57:ACode:=(.seq (oR [oX 2 0,oX 3 1,oN 4 0]) (.seq (oR [oF 0 5 2,oL 6 5,oF 0 7 3,oL 8 7,oI 4 9 6 8,oF 3 10 9,oL 11 10,oQ 12 11,oM 4 12]) .ret))
theorem tab57:tb.code 57=some ⟨13,[(4,none)],body57⟩:=by kernel_rfl
theorem zBG (h:AHeap) (vt vf vb:Value) (T:List LType) (F:List LFn) (sig:Int) (st:SlT h vt T) (sf:SlF h vf F) (hb:∃ a n k,vb= .slice a n k) (hs:0≤sig∧sig<(T.length:Int)) (hp:(T.getD sig.toNat default).parts.length≤1000):
  WC Tryz.prog tb 57 [.agg #[vt,vf],.agg #[I sig,vb]] h fun r h'=>r=I ((T.getD sig.toNat default).parts.length:Int)∧Ext h h':=by
 obtain⟨ta,tn,tk,rfl⟩:=zD st;obtain⟨ga,gn,gk,rfl⟩:=zD sf;obtain⟨ba,bn,bk,rfl⟩:=hb;refine WC.of (zE 57) tab57 ?_;simp only[zK,Nat.zero_add,Nat.reduceAdd];refine go ?_;refine WO.bx ?_;intro p h1 e1 o1;refine go ?_;refine WO.bx ?_;intro q h2 e2 o2;have o1:=o1.ext e2;have st2:=(st.ext e1).ext e2;obtain⟨cs,⟨va,rfl,sa,hla⟩,pc,hss⟩:=Zg (i:=sig.toNat) st2 (by omega);refine go ?_;refine rt ?_;exact⟨rfl,e1.trans e2⟩
def body58_0:ACode:=(.seq (.seq (oR [oM 5 4,oM 6 0,oQ 7 6,oB .lss 8 5 7]) (oT 8 0)) (.seq (.block 1 (oR [oM 11 3,oM 12 0,oM 13 4,oI 5 14 12 13,oF 0 15 14,oL 16 15,oQ 17 16,oB .add 18 11 17,oM 3 18])) (oR [oM 9 4,oC .add 10 9 1,oM 4 10])))
def body58:ACode:=(.seq (oR [oN 2 0]) (.seq (oR [oN 3 0]) (.seq (.seq (oR [oN 4 0]) (.block 0 (.loop body58_0))) (.seq (oR [oM 19 3,oM 2 19]) .ret))))
theorem tab58:tb.code 58=some ⟨20,[(2,none)],body58⟩:=by kernel_rfl
theorem zHi (l:List LBlk) {i:Nat} (h:i<l.length):zo (l.take (i+1))=zo (l.take i)+((l.getD i default).ins.length:Int):=by
 unfold zo;rw[List.take_add_one,List.getElem?_eq_getElem h];simp only[List.map_append,List.sum_append,Option.toList_some,List.map_cons,List.map_nil,List.sum_cons,List.sum_nil,List.getD,List.getElem?_eq_getElem h,Option.getD_some,Int.add_zero]
theorem zDg {l:List LBlk} (h:∀ b∈l,b.ins.length≤1000):0≤zo l∧zo l≤1000 * l.length:=by
 unfold zo;induction l with
 |nil=>simp
 |cons b l ih=>
  have h1:=h b (by simp);have:=ih fun x hx=>h x (by simp[hx]);simp only[List.map_cons,List.sum_cons,List.length_cons];omega
theorem zBp (h:AHeap) (v:Value) (l:List LBlk) (s:SlB h v l) (hl:l.length≤1000) (hi:∀ b∈l,b.ins.length≤1000):
  WC Tryz.prog tb 58 [v] h fun r h'=>r=I (zo l)∧h=h':=by
 refine WC.of (zE 58) tab58 ?_;simp only[zK,Nat.zero_add,Nat.reduceAdd];refine go ?_;refine WX.loopA [5,6,7,8,11,12,13,14,15,16,17,18,3,9,10,4] (by kernel_rfl) (fun i=>l.length - i) (fun i t h1=>h=h1∧zC t 4=I i∧i≤l.length∧zC t 3=I (zo (l.take i))) 0 ?_ ?_
 ·exact⟨rfl,sl_,Nat.zero_le _,sl_⟩
 rintro i t _ hsame ⟨rfl,s4,hin,s3⟩;have hbd:=zDg (l:=l.take i) fun b hb=>hi b (List.mem_of_mem_take hb);have htl:(l.take i).length≤i:=List.length_take_le _ _;refine go ?_;refine WX.br (fun hc=> ?_) (fun hc=> ?_)<;>simp only[DB]at hc
 ·have hi':i<l.length:=by omega
  obtain⟨cs,⟨vi,rfl,si,hli⟩,pc,hs⟩:=zZ s hi';have hmt:=zHi l hi';have hin2:=hi _ (zI (l:=l) hi');refine go ?_;exact zA (i+1) (by omega) ⟨rfl,sln,by omega,by rw[hmt];exact sl_⟩
 ·have hii:i=l.length:=by omega
  subst hii;rw[List.take_length]at s3;refine go ?_;refine rt ?_;exact⟨rfl,rfl⟩
def zIN:ACode:=(.seq (.seq (oR [oM 61 7,oF 1 62 3,oL 63 62,oM 64 6,oI 5 65 63 64,oF 0 66 65,oL 67 66,oQ 68 67,oB .lss 69 61 68]) (oT 69 2)) (.seq (.block 3 (.seq (.regionC [oU (oA 2 72 2),oU (oF 1 73 3),oU (oL 74 73),oU (oM 75 6),oU (oI 5 76 74 75),oU (oF 0 77 76),oU (oL 78 77),oU (oM 79 7),oU (oI 7 80 78 79),oU (oA 7 81 80),oU (oM 82 5),oU (oF 1 83 3),oU (oL 84 83),oU (oQ 85 84),oU (o4 86 130 72 81 82 85),oU (oW 87 86)]) (.cond (.tmp 87) (.seq (oR [oZ 4]) .ret) .skip))) (oR [oM 70 7,oC .add 71 70 1,oM 7 71])))
def zIL:ACode:=(.seq (.seq (oR [oM 54 6,oF 1 55 3,oL 56 55,oQ 57 56,oB .lss 58 54 57]) (oT 58 0)) (.seq (.block 1 (.seq (.seq (oR [oN 7 0]) (.block 2 (.loop zIN))) (.seq (.regionC [oU (oF 1 88 3),oU (oL 89 88),oU (oM 90 6),oU (oI 5 91 89 90),oU (oF 1 92 91),oU (oA 4 93 92),oU (oM 94 5),oU (oF 1 95 3),oU (oL 96 95),oU (oQ 97 96),oU (o3 98 131 93 94 97),oU (oW 99 98)]) (.cond (.tmp 99) (.seq (oR [oZ 4]) .ret) .skip)))) (oR [oM 59 6,oC .add 60 59 1,oM 6 60])))
def body123:ACode:=(.seq (oR [oX 2 0,oX 3 1,oZ 4]) (.seq (.seq (oR [oF 0 8 3,oL 9 8,oC .lss 10 9 0,oM 11 10,oH 11 (oF 0 12 3),oH 11 (oL 13 12),oH 11 (oF 0 14 2),oH 11 (oL 15 14),oH 11 (oQ 16 15),oH 11 (oB .geq 17 13 16),oO 18 11 17,oM 19 18,oH 19 (oF 0 20 2),oH 19 (oL 21 20),oH 19 (oF 0 22 3),oH 19 (oL 23 22),oH 19 (oI 4 24 21 23),oH 19 (oF 0 25 24),oH 19 (oL 26 25),oH 19 (oD .neq 27 26 3),oO 28 19 27,oM 29 28,oH 29 (oF 1 30 3),oH 29 (oL 31 30),oH 29 (oQ 32 31),oH 29 (oC .lss 33 32 1),oO 34 29 33,oM 35 34,oH 35 (oF 1 36 3),oH 35 (oL 37 36),oH 35 (oQ 38 37),oH 35 (oC .gtr 39 38 16),oO 40 35 39,oM 41 40,oH 41 (oF 1 42 3),oH 41 (oL 43 42),oH 41 (o1 44 58 43),oH 41 (oC .gtr 45 44 128),oO 46 41 45]) (.cond (.tmp 46) (.seq (oR [oZ 4]) .ret) .skip)) (.seq (.regionC [oU (oA 2 47 2),oU (oA 2 48 3),oU (o2 49 57 47 48),oU (oF 1 50 3),(oL 51 50,[2]),oU (o1 52 58 51),oU (oB .add 53 49 52),oU (oM 5 53)]) (.seq (.seq (oR [oN 6 0]) (.block 0 (.loop zIL))) (.seq (oR [oK 4 (.bool true)]) .ret)))))
theorem tab123:tb.code 123=some ⟨100,[(4,none)],body123⟩:=by kernel_rfl
theorem zFm (h:AHeap) (vt vf:Value) (T:List LType) (F:List LFn) (f:LFn) (cs:List Value) (sm:Small T F) (si:zDY F) (hf:f∈F) (hm:h.mark≤h.n) (st:SlT h vt T) (sf:SlF h vf F) (hcs:RFn h cs f):
  WC Tryz.prog tb 123 [.agg #[vt,vf],.agg cs.toArray] h fun r h'=>r= .bool (fnL T F.length f)∧Ext h h':=by
 obtain⟨vb,rfl,sb,hlb⟩:=hcs;obtain⟨ta,tn,tk,rfl⟩:=zD st;obtain⟨ga,gn,gk,rfl⟩:=zD sf;obtain⟨ba,bn,bk,rfl⟩:=zD sb;have hT:=sm.types;have hF:=sm.funcs;have hB:=sm.blocks f hf;have hI:=sm.ins f hf;have hX:=si f hf;have hmany:=zDg hI;refine WC.of (zE 123) tab123 ?_;simp only[zK,Nat.zero_add,Nat.reduceAdd];refine go ?_;refine WO.bx ?_;intro p h1 e1 o1;refine go ?_;refine WO.bx ?_;intro q h2 e2 o2;have o1:=o1.ext e2;have e12:=e1.trans e2;have st2:=st.ext e12;have sf2:=SlF.ext sf e12;have sb2:=SlB.ext sb e12;have hm2:=yY e12 hm;have bad:zAT T f=true→fnL T F.length f=false:=fun h=>by unfold fnL;rw[if_pos h]
 have badI:zAT T f=true↔¬((0≤f.sig∧f.sig<(T.length:Int))∧(T.getD f.sig.toNat default).kind=3∧(1≤(f.blocks.length:Int)∧(f.blocks.length:Int)≤16)∧zo f.blocks≤128):=by
  unfold zAT zN;simp only[Bool.or_eq_true,Bool.not_eq_true',Bool.and_eq_false_iff,decide_eq_false_iff_not,decide_eq_true_eq];omega
 by_cases c1:0≤f.sig;case neg=>
  refine go ?_;refine rt ?_;exact⟨by rw[bad (badI.2 fun h=>c1 h.1.1)];rfl,e12⟩
 by_cases c2:f.sig<(T.length:Int);case neg=>
  refine go ?_;refine rt ?_;exact⟨by rw[bad (badI.2 fun h=>c2 h.1.2)];rfl,e12⟩
 have hpart:=sm.parts _ (zI (l:=T) (i:=f.sig.toNat) (by omega));obtain⟨csT,⟨vp,rfl,sp,hlp⟩,pcT,hsT⟩:=Zg (i:=f.sig.toNat) st2 (by omega);by_cases c3:(T.getD f.sig.toNat default).kind=3;case neg=>
  refine go ?_;refine rt ?_;exact⟨by rw[bad (badI.2 fun h=>c3 h.2.1)];simp[one,c3],e12⟩
 by_cases c4:1≤(f.blocks.length:Int);case neg=>
  refine go ?_;refine rt ?_;exact⟨by rw[bad (badI.2 fun h=>c4 h.2.2.1.1)];rfl,e12⟩
 by_cases c5:(f.blocks.length:Int)≤16;case neg=>
  refine go ?_;refine rt ?_;exact⟨by rw[bad (badI.2 fun h=>c5 h.2.2.1.2)];rfl,e12⟩
 refine go ?_;refine WO.con (zBp h2 _ f.blocks sb2 hB hI) ?_;rintro _ _ ⟨rfl,rfl⟩;by_cases c6:zo f.blocks≤128;case neg=>
  refine go ?_;refine rt ?_;exact⟨by rw[bad (badI.2 fun h=>c6 h.2.2.2)];rfl,e12⟩
 have hbadF:zAT T f=false:=by
  cases hh:zAT T f with
  |false=>rfl
  |true=>exact absurd ⟨⟨c1,c2⟩,c3,⟨c4,c5⟩,c6⟩ (badI.1 hh)
 have hfn:fnL T F.length f= !(f.blocks.any fun b=>zAR b (szL T F.length f)):=by unfold fnL;rw[hbadF];rfl
 rw[hfn];clear bad badI hbadF hfn;refine go ?_;refine WX.regionU2 0 rfl rfl ?_;have o1X:OwnC h (inC (zB 0 h2)) p [_,_]:=o1;have o2X:OwnC h1 (inC (zB 0 h2)) q [_,_]:=o2;have stX:SlT (inC (zB 0 h2)) _ T:=st2;have sfX:SlF (inC (zB 0 h2)) _ F:=sf2;have sbX:SlB (inC (zB 0 h2)) _ f.blocks:=sb2;refine goU ?_;refine WO.con (zBG (inC (zB 0 h2)) _ _ _ T F f.sig stX sfX ⟨_,_,_,rfl⟩ ⟨c1,c2⟩ (by omega)) ?_;rintro _ h3 ⟨rfl,e3⟩;refine WO.nil ?_;refine yP e3 zM ?_;have o2Y:OwnC h1 (inC h3) q [I f.sig,.slice ba bn bk]:=by have:=o2X.ext e3;exact this
 have sbY:SlB (inC h3) (.slice ba bn bk) f.blocks:=by have:=SlB.ext sbX e3;exact this
 refine goU ?_;refine zBu o2 (Nat.le_refl _) ?_;refine goU ?_;refine WO.con (zBp (inC h3) _ f.blocks sbY hB hI) ?_;rintro _ _ ⟨rfl,rfl⟩;refine WO.nil ?_;refine yO ?_;refine goU ?_;have e5:Ext h2 (outC h2 (inC h3)):=e3.reg;obtain⟨h5,hh5⟩:∃ h5,h5=outC h2 (inC h3):=⟨_,rfl⟩;rw[←hh5]at e5;rw[←hh5];clear o1X o2X stX sfX sbX o2Y sbY e3 hh5;have o1:=o1.ext e5;have o2:=o2.ext e5;have e15:=e12.trans e5;have st5:=st2.ext e5;have sf5:=SlF.ext sf2 e5;have sb5:=SlB.ext sb2 e5;have hsz:szL T F.length f=⟨T.length,F.length,((T.getD f.sig.toNat default).parts.length:Int)+zo f.blocks,f.blocks.length⟩:=rfl;rw[hsz];clear hsz pcT sp e12 e1 e2;generalize ((T.getD f.sig.toNat default).parts.length:Int)+zo f.blocks=regs at *;obtain⟨s,hs⟩:∃ s:LSz,s=⟨T.length,F.length,regs,f.blocks.length⟩:=⟨_,rfl⟩;rw[←hs];refine go ?_;refine WX.loopA [54,55,56,57,58,7,61,62,63,64,65,66,67,68,69,72,73,74,75,76,77,78,79,80,81,82,83,84,85,86,87,4,70,71,7,88,89,90,91,92,93,94,95,96,97,98,99,4,59,60,6] (by kernel_rfl) (fun i=>f.blocks.length - i) (fun i t h6=>Ext h5 h6∧zC t 6=I i∧i≤f.blocks.length∧Hid (∀ j,j<i→zAR (f.blocks.getD j default) s=false)) 0 ?_ ?_
 ·exact⟨Ext.refl _,sl_,Nat.zero_le _,⟨fun j hj=>absurd hj (Nat.not_lt_zero _)⟩⟩
 rintro i t h6 hsame ⟨e6,s6,hi,hall⟩;have o1:=o1.ext e6;have o2:=o2.ext e6;have e16:=e15.trans e6;have st6:=st5.ext e6;have sf6:=SlF.ext sf5 e6;have sb6:=SlB.ext sb5 e6;refine go ?_;refine WX.br (fun hc=> ?_) (fun hc=> ?_)<;>simp only[DB]at hc;case refine_2=>
  have hany:(f.blocks.any fun b=>zAR b s)=false:=Zt fun b hb=>by
   obtain⟨j,hj,rfl⟩:=yy hb;exact hall.out j (by omega)
  refine go ?_;refine rt ?_;exact⟨by rw[hany];rfl,e16⟩
 have hi':i<f.blocks.length:=by omega
 obtain⟨csB,⟨vi,rfl,sn,hln⟩,pcB,hsB⟩:=zZ sb6 hi';have hmemB:=zI (l:=f.blocks) hi';have hIB:=hI _ hmemB;have hXB:=hX _ hmemB;have bad:zAR (f.blocks.getD i default) s=true→(!f.blocks.any fun b=>zAR b s)=false:=fun hb=>by
  rw[List.any_eq_true.2 ⟨_,hmemB,hb⟩];rfl
 generalize hB0:f.blocks.getD i default=B at *;refine go ?_;refine WX.loopA [61,62,63,64,65,66,67,68,69,72,73,74,75,76,77,78,79,80,81,82,83,84,85,86,87,4,70,71,7] (by kernel_rfl) (fun k=>B.ins.length - k) (fun k t h7=>Ext h6 h7∧zC t 7=I k∧k≤B.ins.length∧Hid (∀ j,j<k→zAW (B.ins.getD j default) s=true)) 0 ?_ ?_
 ·exact⟨Ext.refl _,sl_,Nat.zero_le _,⟨fun j hj=>absurd hj (Nat.not_lt_zero _)⟩⟩
 rintro k t2 h7 hsame2 ⟨e7,s7,hk,hallk⟩;have o1:=o1.ext e7;have o2:=o2.ext e7;have e17:=e16.trans e7;have st7:=st6.ext e7;have sf7:=SlF.ext sf6 e7;have sb7:=SlB.ext sb6 e7;obtain⟨csB,hcsB,pcB,hsB⟩:=zZ sb7 hi';rw[hB0]at hcsB;obtain⟨vi,rfl,sn,hln⟩:=hcsB;refine go ?_;refine WX.br (fun hd=> ?_) (fun hd=> ?_)<;>simp only[DB]at hd
 ·have hk':k<B.ins.length:=by omega
  have hmemI:=zI (l:=B.ins) hk';obtain⟨csI,hcsI,pcI,hsI⟩:=zZ sn hk';obtain⟨va,vfr,rfl,sa,sfr,hla,hlf,ho,ho2⟩:=id hcsI;refine go ?_;refine WX.regionU2 0 rfl rfl ?_;have o1X:OwnC h (inC (zB 0 h7)) p [_,_]:=o1;have o2X:OwnC h1 (inC (zB 0 h7)) q [_,_]:=o2;have stX:SlT (inC (zB 0 h7)) _ T:=st7;have sfX:SlF (inC (zB 0 h7)) _ F:=sf7;have sbX:SlB (inC (zB 0 h7)) _ f.blocks:=sb7;obtain⟨csX,hcsX,pcX,hsX⟩:=zZ sbX hi';rw[hB0]at hcsX;obtain⟨viX,rfl,snX,hlnX⟩:=hcsX;obtain⟨csIX,riX,pcIX,hsIX⟩:=zZ snX hk';obtain⟨vaX,vfrX,rfl,saX,sfrX,_,_,_,_⟩:=id riX;obtain⟨xa,xn,xk,rfl⟩:=zv saX;obtain⟨ya,yn,yk,rfl⟩:=zv sfrX;refine goU ?_;refine WO.con (zG0 (inC (zB 0 h7)) _ _ T F (B.ins.getD k default) _ regs f.blocks.length stX sfX (by omega) (by omega) riX (hXB _ hmemI)) ?_;rintro _ h8 ⟨rfl,e8⟩;refine WO.nil ?_;refine yP e8 zM ?_;refine goU ?_;have e9:Ext h7 (outC h7 (inC h8)):=e8.reg;obtain⟨h9,hh9⟩:∃ h9,h9=outC h7 (inC h8):=⟨_,rfl⟩;rw[←hh9]at e9;rw[←hh9];rw[←hs];clear o1X o2X stX sfX sbX pcX snX pcIX riX e8 hh9 saX sfrX;cases hins:zAW (B.ins.getD k default) s with
  |false=>
   refine go ?_;refine rt ?_;refine⟨?_,e17.trans e9⟩;rw[bad (by unfold zAR;rw[List.any_eq_true.2 ⟨_,hmemI,by rw[hins];rfl⟩];rfl)];rfl
  |true=>
   refine go ?_;refine zA (k+1) (by omega) ⟨e7.trans e9,sln,by omega,⟨fun j hj=> ?_⟩⟩;by_cases e:j=k
   ·subst e;exact hins
   ·exact hallk.out j (by omega)
 ·have hanyI:(B.ins.any fun x=> !zAW x s)=false:=Zt fun x hx=>by
   obtain⟨j,hj,rfl⟩:=yy hx;rw[hallk.out j (by omega)];rfl
  refine go ?_;refine WX.regionU2 0 rfl rfl ?_;have o2X:OwnC h1 (inC (zB 0 h7)) q [_,_]:=o2;have sbX:SlB (inC (zB 0 h7)) _ f.blocks:=sb7;obtain⟨csX,hcsX,pcX,hsX⟩:=zZ sbX hi';rw[hB0]at hcsX;obtain⟨viX,rfl,snX,hlnX⟩:=hcsX;obtain⟨xa,xn,xk,rfl⟩:=zD snX;refine goU ?_;refine WO.con (zGx (inC (zB 0 h7)) B.fin T.length F.length regs f.blocks.length) ?_;rintro _ h8 ⟨rfl,e8⟩;refine WO.nil ?_;refine yP e8 zM ?_;refine goU ?_;have e9:Ext h7 (outC h7 (inC h8)):=e8.reg;obtain⟨h9,hh9⟩:∃ h9,h9=outC h7 (inC h8):=⟨_,rfl⟩;rw[←hh9]at e9;rw[←hh9];rw[←hs];clear o2X sbX pcX snX e8 hh9;cases hend:zAX B.fin s with
  |false=>
   refine go ?_;refine rt ?_;refine⟨?_,e17.trans e9⟩;rw[bad (by unfold zAR;rw[hend,hanyI];rfl)];rfl
  |true=>
   refine go ?_;refine zA (i+1) (by omega) ⟨(e6.trans e7).trans e9,sln,by omega,⟨fun j hj=> ?_⟩⟩;by_cases e:j=i
   ·subst e;rw[hB0];unfold zAR;rw[hend,hanyI];rfl
   ·exact hall.out j (by omega)
theorem _root_.Go.Am.OwnR.lt {α:Type} {c b:Nat} {R:AHeap→List Value→α→Prop} {h:AHeap} {v:Value} {xs:List α} (o:OwnR c R b h v xs) {g n k:Nat} (e:v= .slice (some ⟨g,0,none⟩) n k):b≤g∧g<h.n:=by
 rcases o with ⟨e2,_⟩|⟨g1,_,_,g2,g3,e2,_⟩
 ·rw[e2]at e;cases e
 ·rw[e2]at e;cases e;exact⟨g2,g3⟩
theorem zAr {hb h h':AHeap} {p w:Value} {l:List Int} (o:OwnN hb h w l) (u:UpdC p h h') (hp:∀ g,p= .pointer (some ⟨g,0,none⟩)→g<hb.n):OwnN hb h' w l:=by
 rcases o with o|⟨g,g1,g2,g3,g4⟩
 ·exact .inl o
 ·exact .inr ⟨g,g1,Nat.lt_of_lt_of_le g2 u.1,g3,(u.2 g g2 (fun e=>by have:=hp g e;omega)).trans g4⟩
theorem zBH {hb h:AHeap} {w:Value} {l:List Int} (o:OwnN hb h w l):∃ a n k,w= .slice a n k:=SlC.shape o.sl
theorem zCR {h0 h:AHeap} {p:Value} {cs:List Value} (o:OwnC h0 h p cs):∀ g,p= .pointer (some ⟨g,0,none⟩)→h0.n≤g∧g<h.n:=by
 obtain⟨g,a,b,rfl,_⟩:=o;intro g' e;cases e;exact⟨a,b⟩
theorem dep_ty {hb h:AHeap} {x:LType} {w:Value} (o:OwnN hb h w x.parts) (hl:(x.parts.length:Int)≤9223372036854775807):Dep RTy h [.int .u8 x.kind,I x.elem,I x.many,w] x (fun k=>hb.n≤k∧k<h.n):=
 fun hx hk hn=>⟨w,rfl,o.depI (fun k o a b e=>hk k o ⟨a,b⟩ e) hn,hl⟩
theorem dep_ins {hb h:AHeap} {x:LIns} {va vf:Value} (oa:OwnN hb h va x.args) (of:OwnN hb h vf x.frm) (hla:(x.args.length:Int)≤1152921504606846976) (hlf:(x.frm.length:Int)≤1152921504606846976) (ho:0≤x.op∧x.op≤255):Dep RIns h [.int .u8 x.op,I x.ty,I x.a,I x.b,I x.n,va,vf] x (fun k=>hb.n≤k∧k<h.n):=
 fun hx hk hn=>⟨va,vf,rfl,oa.depI (fun k o a b e=>hk k o ⟨a,b⟩ e) hn,of.depI (fun k o a b e=>hk k o ⟨a,b⟩ e) hn,hla,hlf,ho⟩
theorem dep_blk {b:Nat} {h:AHeap} {x:LBlk} {vi:Value} (o:OwnR 7 RIns b h vi x.ins) (hl:(x.ins.length:Int)≤1152921504606846976):Dep RBlk h [vi,.int .u8 x.fin.kind,I x.fin.a,I x.fin.to,I x.fin.els] x (fun k=>b≤k∧k<h.n):=
 fun hx hk hn=>⟨vi,rfl,o.dep (fun k o a b e=>hk k o ⟨a,b⟩ e) hn,hl⟩
theorem dep_fn {b:Nat} {h:AHeap} {x:LFn} {vb:Value} (o:OwnR 5 RBlk b h vb x.blocks) (hl:(x.blocks.length:Int)≤1152921504606846976):Dep RFn h [I x.sig,vb] x (fun k=>b≤k∧k<h.n):=
 fun hx hk hn=>⟨vb,rfl,o.dep (fun k o a b e=>hk k o ⟨a,b⟩ e) hn,hl⟩
theorem YV {α:Type} {c b:Nat} {R:AHeap→List Value→α→Prop} {h:AHeap} {v:Value} {xs:List α} (o:OwnR c R b h v xs):∃ a n k,v= .slice a n k:=zD o.sl
theorem zAM {α:Type} [Inhabited α] {l:List α} {i:Nat} (h:i<l.length):l.take (i+1)=l.take i++[l.getD i default]:=by
 rw[List.take_add_one,List.getElem?_eq_getElem h];simp[List.getD,List.getElem?_eq_getElem h]
def body13_0:ACode:=(.seq (.seq (oR [oM 6 4,oM 7 0,oQ 8 7,oB .lss 9 6 8]) (oT 9 0)) (.seq (.block 1 (.seq (oR [oM 12 0,oM 13 4,oI 4 14 12 13,oA 4 15 14,⟨some 5,none,(.alloc [(.int .u8 0),(.int .i64 0),(.int .i64 0),(.slice none 0 0)])⟩,oS 4 5 15]) (.seq (oR [⟨some 16,none,(.buildSlice 0 1 [(.int .i64 0)] [])⟩,oF 3 17 5,oL 18 17,oY 1 19 16 18,oF 3 20 5,oS 1 20 19]) (oR [oM 21 3,oA 4 22 5,⟨some 23,none,(.buildSlice 1 4 [(.int .u8 0),(.int .i64 0),(.int .i64 0),(.slice none 0 0)] [(0,4,(.tmp 22))])⟩,oY 4 24 21 23,oM 3 24])))) (oR [oM 10 4,oC .add 11 10 1,oM 4 11])))
def body13:ACode:=(.seq (oR [oK 2 (.slice none 0 0)]) (.seq (oR [oK 3 (.slice none 0 0)]) (.seq (.seq (oR [oN 4 0]) (.block 0 (.loop body13_0))) (.seq (oR [oM 25 3,oM 2 25]) .ret))))
theorem tab13:tb.code 13=some ⟨26,[(2,none)],body13⟩:=by kernel_rfl
theorem zI9 (h:AHeap) (vt:Value) (T:List LType) (st:SlT h vt T) (hT:T.length≤1000) (hp:∀ x∈T,x.parts.length≤1000):
  WC Tryz.prog tb 13 [vt] h fun r h'=>OwnR 4 RTy h.n h' r T∧Ext h h':=by
 refine WC.of (zE 13) tab13 ?_;simp only[zK,Nat.zero_add,Nat.reduceAdd];replace hp:=Hid.mk hp;refine go ?_;refine WX.loopA [6,7,8,9,12,13,14,15,5,16,17,18,19,20,21,22,23,24,3,10,11,4] (by kernel_rfl) (fun i=>T.length - i) (fun i t h1=>Ext h h1∧zC t 4=I i∧i≤T.length∧∃ w,zC t 3=w∧OwnR 4 RTy h.n h1 w (T.take i)) 0 ?_ ?_
 ·exact⟨Ext.refl _,sl_,Nat.zero_le _,_,sl_,OwnR.nil⟩
 rintro i t h1 hsame ⟨e1,s4,hi,w,s3,ow⟩;have st1:=st.ext e1;refine go ?_;refine WX.br (fun hc=> ?_) (fun hc=> ?_)<;>simp only[DB]at hc
 ·have hi':i<T.length:=by omega
  obtain⟨cs,⟨va,rfl,sa,hla⟩,pc,hs⟩:=Zg st1 hi';have hpl:=hp.out _ (zI (l:=T) hi');have hsucc:=zAM (l:=T) hi';generalize T.getD i default=x at *;obtain⟨aa,an,ak,rfl⟩:=zv sa;refine go ?_;refine WO.al ?_;intro p h2 e2 o2;have hpn:=zCR o2;refine go ?_;refine WO.stC0 o2 e2 ?_;intro h3 e3 o3 u3;have sa3:=sa.ext e3;have e23:h2.n≤h3.n:=u3.1;refine go ?_;refine WO.bl [] ?_;intro v4 h4 e4 o4;have o3:=o3.ext e4;have sa4:=sa3.ext e4;refine go ?_;refine WO.apN (h0:=h3) (.inr o4) sa4 e4 (by simp;omega) ?_;intro v5 h5 e5 o5;rw[List.nil_append]at o5;obtain⟨b5,n5,k5,rfl⟩:=zBH o5;have o3:=(by assumption:OwnC h1 h3 p _).ext e5;refine go ?_;refine WO.stC (cs:=[.slice b5 n5 k5]) (j:=3) (hl:=by simp[zR]) o3 (e3.trans e5) ?_;intro h6 e6 o6 u6;have o5':=zAr o5 u6 (fun g e=>by have:=(hpn g e).2;omega);have e06:=e1.trans e6;refine go ?_;have hn6:h3.n≤h6.n:=by have:=e5.n;have:=u6.1;omega
  have hn1:h1.n≤h3.n:=e3.n;refine WO.apR x (fun k=>h3.n≤k∧k<h6.n) (ow.ext e6) e06 (Nat.le_refl _) (by have:=e1.n;omega) (by decide) (by rw[List.length_take];omega) (dep_ty o5' hla) (fun k hk=>⟨by have:=e1.n;omega,hk.2⟩) (fun g n k e hk=>by have:=(ow.lt e).2;omega) ?_;intro v7 h7 lit e7 o7 _ _;refine go ?_;exact zA (i+1) (by omega) ⟨e7,sln,by omega,v7,sl_,by rw[hsucc];exact o7⟩
 ·have hii:i=T.length:=by omega
  subst hii;rw[List.take_length]at ow;refine go ?_;refine rt ?_;exact⟨ow,e1⟩
def body14_0:ACode:=(.seq (.seq (oR [oM 20 6,oM 21 0,oM 22 4,oI 5 23 21 22,oF 0 24 23,oL 25 24,oQ 26 25,oB .lss 27 20 26]) (oT 27 2)) (.seq (.block 3 (.seq (oR [oM 30 0,oM 31 4,oI 5 32 30 31,oF 0 33 32,oL 34 33,oM 35 6,oI 7 36 34 35,oA 7 37 36,⟨some 7,none,(.alloc [(.int .u8 0),(.int .i64 0),(.int .i64 0),(.int .i64 0),(.int .i64 0),(.slice none 0 0),(.slice none 0 0)])⟩,oS 7 7 37]) (.seq (oR [⟨some 38,none,(.buildSlice 0 1 [(.int .i64 0)] [])⟩,oF 5 39 7,oL 40 39,oY 1 41 38 40,oF 5 42 7,oS 1 42 41]) (.seq (oR [⟨some 43,none,(.buildSlice 0 1 [(.int .i64 0)] [])⟩,oF 6 44 7,oL 45 44,oY 1 46 43 45,oF 6 47 7,oS 1 47 46]) (oR [oF 0 48 5,oL 49 48,oA 7 50 7,⟨some 51,none,(.buildSlice 1 7 [(.int .u8 0),(.int .i64 0),(.int .i64 0),(.int .i64 0),(.int .i64 0),(.slice none 0 0),(.slice none 0 0)] [(0,7,(.tmp 50))])⟩,oY 7 52 49 51,oF 0 53 5,oS 1 53 52]))))) (oR [oM 28 6,oC .add 29 28 1,oM 6 29])))
def body14_1:ACode:=(.seq (.seq (oR [oM 8 4,oM 9 0,oQ 10 9,oB .lss 11 8 10]) (oT 11 0)) (.seq (.block 1 (.seq (oR [oM 14 0,oM 15 4,oI 5 16 14 15,oF 1 17 16,oA 4 18 17,⟨some 19,none,(.build [(.slice none 0 0),(.int .u8 0),(.int .i64 0),(.int .i64 0),(.int .i64 0)] [(1,4,(.tmp 18))])⟩,⟨some 5,none,(.alloc [(.slice none 0 0),(.int .u8 0),(.int .i64 0),(.int .i64 0),(.int .i64 0)])⟩,oS 5 5 19]) (.seq (.seq (oR [oN 6 0]) (.block 2 (.loop body14_0))) (oR [oM 54 3,oA 5 55 5,⟨some 56,none,(.buildSlice 1 5 [(.slice none 0 0),(.int .u8 0),(.int .i64 0),(.int .i64 0),(.int .i64 0)] [(0,5,(.tmp 55))])⟩,oY 5 57 54 56,oM 3 57])))) (oR [oM 12 4,oC .add 13 12 1,oM 4 13])))
def body14:ACode:=(.seq (oR [oK 2 (.slice none 0 0)]) (.seq (oR [oK 3 (.slice none 0 0)]) (.seq (.seq (oR [oN 4 0]) (.block 0 (.loop body14_1))) (.seq (oR [oM 58 3,oM 2 58]) .ret))))
theorem tab14:tb.code 14=some ⟨59,[(2,none)],body14⟩:=by kernel_rfl
theorem zJE (h:AHeap) (vb:Value) (L:List LBlk) (sb:SlB h vb L) (hL:L.length≤1000) (hI:∀ b∈L,b.ins.length≤1000) (hX:∀ b∈L,∀ x∈b.ins,x.args.length≤20∧x.frm.length≤20):
  WC Tryz.prog tb 14 [vb] h fun r h'=>OwnR 5 RBlk h.n h' r L∧Ext h h':=by
 refine WC.of (zE 14) tab14 ?_;simp only[zK,Nat.zero_add,Nat.reduceAdd];replace hI:=Hid.mk hI;replace hX:=Hid.mk hX;refine go ?_;refine WX.loopA [8,9,10,11,14,15,16,17,18,19,5,6,20,21,22,23,24,25,26,27,30,31,32,33,34,35,36,37,7,38,39,40,41,42,43,44,45,46,47,48,49,50,51,52,53,28,29,6,54,55,56,57,3,12,13,4] (by kernel_rfl) (fun i=>L.length - i) (fun i t h1=>Ext h h1∧zC t 4=I i∧i≤L.length∧∃ w,zC t 3=w∧OwnR 5 RBlk h.n h1 w (L.take i)) 0 ?_ ?_
 ·exact⟨Ext.refl _,sl_,Nat.zero_le _,_,sl_,OwnR.nil⟩
 rintro i t h1 hsame ⟨e1,s4,hi,w,s3,ow⟩;have sb1:=SlB.ext sb e1;refine go ?_;refine WX.br (fun hc=> ?_) (fun hc=> ?_)<;>simp only[DB]at hc
 ·have hi':i<L.length:=by omega
  obtain⟨cs,⟨vi,rfl,si,hli⟩,pc,hs⟩:=zZ sb1 hi';have hIl:=hI.out _ (zI (l:=L) hi');have hXl:=hX.out _ (zI (l:=L) hi');have hsucc:=zAM (l:=L) hi';obtain⟨B,hB0⟩:∃ B,L.getD i default=B:=⟨_,rfl⟩;rw[hB0]at si hli hIl hXl hsucc pc;replace hXl:=Hid.mk hXl;have pf:Piece h1 vb (i * 5) [vi,.int .u8 B.fin.kind,I B.fin.a,I B.fin.to,I B.fin.els]:=pc;obtain⟨ia,iN,ik,rfl⟩:=zD si;refine go ?_;refine WO.al ?_;intro p h2 e2 o2;have hpn:=zCR o2;refine go ?_;refine WO.stC0 o2 e2 ?_;intro h3 e3 o3 u3;have hn3:h2.n≤h3.n:=u3.1;refine go ?_;refine WX.loopA [20,21,22,23,24,25,26,27,30,31,32,33,34,35,36,37,7,38,39,40,41,42,43,44,45,46,47,48,49,50,51,52,53,28,29,6] (by kernel_rfl) (fun k=>B.ins.length - k) (fun k t h4=>Ext h1 h4∧h3.n≤h4.n∧zC t 6=I k∧k≤B.ins.length∧∃ v',OwnC h1 h4 p [v',.int .u8 B.fin.kind,I B.fin.a,I B.fin.to,I B.fin.els]∧OwnR 7 RIns h3.n h4 v' (B.ins.take k)) 0 ?_ ?_
  ·exact⟨e3,Nat.le_refl _,sl_,Nat.zero_le _,_,o3,OwnR.nil⟩
  rintro k t2 h4 hsame2 ⟨e4,hn4,s6,hk,v',o4,ov⟩;have sb4:=SlB.ext sb1 e4;obtain⟨cs4,hcs4,pc4,hs4⟩:=zZ sb4 hi';rw[hB0]at hcs4;obtain⟨vi4,rfl,si4,hli4⟩:=hcs4;obtain⟨va',vn',vk',rfl⟩:=YV ov;refine go ?_;refine WX.br (fun hd=> ?_) (fun hd=> ?_)<;>simp only[DB]at hd
  ·have hk':k<B.ins.length:=by omega
   obtain⟨csx,⟨xa,xf,rfl,sxa,sxf,hla,hlf,ho⟩,pcx,hsx⟩:=zZ si4 hk';have hxl:=hXl.out _ (zI (l:=B.ins) hk');have hsuccI:=zAM (l:=B.ins) hk';generalize B.ins.getD k default=x at *;obtain⟨a1,a2,a3,rfl⟩:=zv sxa;obtain⟨f1,f2,f3,rfl⟩:=zv sxf;refine go ?_;refine WO.al ?_;intro q h5 e5 o5;have hqn:=zCR o5;have o4':=o4.ext e5;refine go ?_;refine WO.stC0 o5 e5 ?_;intro h6 e6 o6 u6;have hn6:h5.n≤h6.n:=u6.1;have hn46:=e6.n;have sxa6:=sxa.ext e6;have sxf6:=sxf.ext e6;have o4'':=o4.ext e6;refine go ?_;refine WO.bl [] ?_;intro v7 h7 e7 o7;have o6:=o6.ext e7;have sxa7:=sxa6.ext e7;refine go ?_;refine WO.apN (h0:=h6) (.inr o7) sxa7 e7 (by simp;omega) ?_;intro v8 h8 e8 o8;rw[List.nil_append]at o8;obtain⟨b8,n8,k8,rfl⟩:=zBH o8;have o6:=(by assumption:OwnC h4 h6 q _).ext e8;refine go ?_;refine WO.stC (cs:=[.slice b8 n8 k8]) (j:=5) (hl:=by simp[zR]) o6 (e6.trans e8) ?_;intro h9 e9 o9 u9;have o8:=zAr o8 u9 (fun g e=>by have:=(hqn g e).2;omega);have sxf9:=sxf.ext e9;have hn9:h6.n≤h9.n:=by have:=e8.n;have:=u9.1;omega
   refine go ?_;refine WO.bl [] ?_;intro v10 h10 e10 o10;have o9:=o9.ext e10;have sxf10:=sxf9.ext e10;have o8:=o8.ext e10;refine go ?_;refine WO.apN (h0:=h9) (.inr o10) sxf10 e10 (by simp;omega) ?_;intro v11 h11 e11 o11;rw[List.nil_append]at o11;obtain⟨b11,n11,k11,rfl⟩:=zBH o11;have o8:=(by assumption:OwnN h6 h9 (.slice b8 n8 k8) x.args).ext e11;have o9:=(by assumption:OwnC h4 h9 q _).ext e11;refine go ?_;refine WO.stC (cs:=[.slice b11 n11 k11]) (j:=6) (hl:=by simp[zR]) o9 (e9.trans e11) ?_;intro h12 e12 o12 u12;have hn12:h9.n≤h12.n:=by have:=e11.n;have:=u12.1;omega
   have o8:=zAr o8 u12 (fun g e=>by have:=(hqn g e).2;omega);have o11:=zAr o11 u12 (fun g e=>by have:=(hqn g e).2;omega);have o12p:=o4.ext e12;have ov12:=ov.ext e12;refine go ?_;have o11':OwnN h6 h12 (.slice b11 n11 k11) x.frm:=by
    rcases o11 with o|⟨g,g1,g2⟩
    ·exact .inl o
    ·exact .inr ⟨g,by omega,g2⟩
   have hh1:=e3.n;refine WO.apR x (fun k=>h6.n≤k∧k<h12.n) ov12 (e4.trans e12) hh1 (by omega) (by decide) (by rw[List.length_take];omega) (dep_ins o8 o11' hla hlf ho) (fun k hk=>⟨by omega,hk.2⟩) (fun g n k e hk=>by have:=(ov.lt e).2;omega) ?_;intro v13 h13 lit e13 o13 hn13 keep13;obtain⟨b13,n13,k13,rfl⟩:=YV o13;have o13p:OwnC h1 h13 p [.slice va' vn' vk',.int .u8 B.fin.kind,I B.fin.a,I B.fin.to,I B.fin.els]:=by
    obtain⟨g,g1,g2,hg,g3⟩:=o12p;refine⟨g,g1,by omega,hg,(keep13 g g2 (fun n k e=> ?_)).trans g3⟩;have h1:=(ov.lt e).1;have h2:=(hpn g hg).2;omega
   refine go ?_;refine WO.stC (cs:=[.slice b13 n13 k13]) (j:=0) (hl:=by simp[zR]) o13p e13 ?_;intro h14 e14 o14 u14;have o13':=o13.upd (h':=h14) (fun k hk1 hk2=>u14.2 k hk2 (fun e=>by have:=(hpn k e).2;omega)) u14.1;refine go ?_;refine zA (k+1) (by omega) ⟨e14,by have:=u14.1;omega,sln,by omega,_,o14,?_⟩;rw[hsuccI];exact o13'
  ·have hkk:k=B.ins.length:=by omega
   subst hkk;rw[List.take_length]at ov;refine go ?_;have hh1:=e3.n;refine WO.apR B (fun k=>h3.n≤k∧k<h4.n) (ow.ext e4) (e1.trans e4) (Nat.le_refl _) (by have:=e1.n;omega) (by decide) (by rw[List.length_take];omega) (dep_blk ov hli) (fun k hk=>⟨by have:=e1.n;omega,hk.2⟩) (fun g n k e hk=>by have:=(ow.lt e).2;omega) ?_;intro v5 h5 lit e5 o5 _ _;refine go ?_;exact zA (i+1) (by omega) ⟨e5,sln,by omega,v5,sl_,by rw[hsucc];exact o5⟩
 ·have hii:i=L.length:=by omega
  subst hii;rw[List.take_length]at ow;refine go ?_;refine rt ?_;exact⟨ow,e1⟩
def body5_0:ACode:=(.seq (.seq (oR [oM 9 4,oF 1 10 1,oL 11 10,oQ 12 11,oB .lss 13 9 12]) (oT 13 0)) (.seq (.block 1 (.regionC [oU (oF 1 16 3),oU (oL 17 16),oU (oF 1 18 1),oU (oL 19 18),oU (oM 20 4),oU (oI 2 21 19 20),oU (oF 0 22 21),oU (oL 23 22),oU (oF 1 24 1),oU (oL 25 24),oU (oM 26 4),oU (oI 2 27 25 26),oU (oF 1 28 27),oU (oL 29 28),(o1 30 14 29,[1,3,7]),oU (⟨some 31,none,(.build [(.int .i64 0),(.slice none 0 0)] [(0,1,(.tmp 23)),(1,1,(.tmp 30))])⟩),oU (⟨some 32,none,(.buildSlice 1 2 [(.int .i64 0),(.slice none 0 0)] [(0,2,(.tmp 31))])⟩),oU (oY 2 33 17 32),oU (oF 1 34 3),oU (oS 1 34 33)])) (oR [oM 14 4,oC .add 15 14 1,oM 4 15])))
def body5:ACode:=(.seq (oR [oX 1 0,⟨some 2,none,(.alloc [(.slice none 0 0),(.slice none 0 0)])⟩]) (.seq (oR [oF 0 5 1,oL 6 5,o1 7 13 6,⟨some 8,none,(.build [(.slice none 0 0),(.slice none 0 0)] [(0,1,(.tmp 7))])⟩,⟨some 3,none,(.alloc [(.slice none 0 0),(.slice none 0 0)])⟩,oS 2 3 8]) (.seq (.seq (oR [oN 4 0]) (.block 0 (.loop body5_0))) (.seq (oR [oA 2 35 3,oS 2 2 35]) .ret))))
theorem tab5:tb.code 5=some ⟨36,[(2,some (true,2))],body5⟩:=by kernel_rfl
theorem rTwin_ok (h:AHeap) (vt vf:Value) (T:List LType) (F:List LFn) (sm:Small T F) (smi:zDY F) (hm:h.mark≤h.n) (st:SlT h vt T) (sf:SlF h vf F):
  WC Tryz.prog tb 5 [.agg #[vt,vf]] h fun r h'=>(∃ vt' vf',r= .agg #[vt',vf']∧SlT h' vt' T∧SlF h' vf' F)∧Ext h h':=by
 have hT:=sm.types;have hF:=sm.funcs;obtain⟨ta,tn,tk,rfl⟩:=zD st;obtain⟨ga,gn,gk,rfl⟩:=zD sf;refine WC.of (zE 5) tab5 ?_;simp only[zK,Nat.zero_add,Nat.reduceAdd];refine go ?_;refine WO.bx ?_;intro p1 h1 e1 o1;refine go ?_;refine WO.al ?_;intro p2 h2 e2 o2;have hp2:=zCR o2;have o1:=o1.ext e2;have e02:=e1.trans e2;have st2:=st.ext e02;refine go ?_;refine WO.con (zI9 h2 _ T st2 (by omega) (fun x hx=>by have:=sm.parts x hx;omega)) ?_;rintro w h3 ⟨ow,e3⟩;have swT:=ow.sl;obtain⟨wa,wn,wk,rfl⟩:=YV ow;have o1:=o1.ext e3;have o2:=o2.ext e3;have e03:=e02.trans e3;have sf3:=SlF.ext sf e03;have hm3:=yY e03 hm;refine go ?_;refine WO.al ?_;intro p4 h4 e4 o4;have hpn:=zCR o4;refine go ?_;refine WO.stC0 o4 e4 ?_;intro h5 e5 o5 u5;have hn5:h4.n≤h5.n:=u5.1;have hn4:=e5.n;have o1:=o1.ext e5;have o2:=o2.ext e5;refine go ?_;refine WX.loopA [9,10,11,12,13,16,17,18,19,20,21,22,23,24,25,26,27,28,29,30,31,32,33,34,14,15,4] (by kernel_rfl) (fun i=>F.length - i) (fun i t h6=>Ext h3 h6∧h5.n≤h6.n∧zC t 4=I i∧i≤F.length∧∃ v',OwnC h3 h6 p4 [.slice wa wn wk,v']∧OwnR 2 RFn h5.n h6 v' (F.take i)) 0 ?_ ?_
 ·exact⟨e5,Nat.le_refl _,sl_,Nat.zero_le _,_,o5,OwnR.nil⟩
 rintro i t h6 hsame ⟨e6,hn6,s4,hi,v',o6,ov⟩;have o1:=(by assumption:OwnC h h3 p1 _).ext e6;have o2:=(by assumption:OwnC h1 h3 p2 _).ext e6;have sf6:=SlF.ext sf3 e6;obtain⟨va',vn',vk',rfl⟩:=YV ov;refine go ?_;refine WX.br (fun hd=> ?_) (fun hd=> ?_)<;>simp only[DB]at hd
 ·have hi':i<F.length:=by omega
  have hmem:=zI (l:=F) hi';have hsucc:=zAM (l:=F) hi';refine go ?_;refine WX.regionU2 1 rfl rfl ?_;have o1X:OwnC h (inC (zB 1 h6)) p1 [.slice ta tn tk,.slice ga gn gk]:=by have:=o1.ext (yz 1 h6);exact this
  have o6X:OwnC h3 (inC (zB 1 h6)) p4 [.slice wa wn wk,.slice va' vn' vk']:=by have:=o6.ext (yz 1 h6);exact this
  have sfX:SlF (inC (zB 1 h6)) (.slice ga gn gk) F:=by have:=SlF.ext sf6 (yz 1 h6);exact this
  obtain⟨cs,⟨vb,rfl,sb,hlb⟩,pc,hs⟩:=zZ sfX hi';have hB:=sm.blocks _ hmem;have hI:=sm.ins _ hmem;have hX:=smi _ hmem;generalize F.getD i default=f at *;obtain⟨ba,bn,bk,rfl⟩:=zD sb;refine goU ?_;refine WO.con (zJE (inC (zB 1 h6)) _ f.blocks sb hB hI hX) ?_;rintro v h7 ⟨ow7,e7⟩;obtain⟨ca,cn,ck,rfl⟩:=YV ow7;refine WO.nil ?_;refine yP e7 zM ?_;have hn7:h6.n+1≤h7.n:=e7.n;refine goU ?_;have hbn:(inC (zB 1 h6)).n=h6.n+1:=rfl;refine WU2.apR (hB:=h3) (p:=p4) (cells:=[.slice wa wn wk,.slice va' vn' vk']) f (fun k=>h6.n+1≤k∧k<h7.n) e7 ov e6 (by rw[e6.mark];exact hm3) (by omega) hn6 (by decide) (by rw[List.length_take];omega) o6 (fun g e=>by have:=(hpn g e).2;omega) (dep_fn (b:=h6.n+1) ow7 (by omega)) (fun k hk=>⟨by omega,hk.2⟩) (fun g n k e hk=>by have:=(ov.lt e).2;omega) (fun hk=>by omega) (by simp) rfl ?_;intro H v8 t8 hs8 eH oH _ ovH _ hnH;refine go ?_;exact zA (i+1) (by omega) ⟨eH,by omega,sln,by omega,v8,oH,by rw[hsucc];exact ovH⟩
 ·have hii:i=F.length:=by omega
  subst hii;rw[List.take_length]at ov;refine go ?_;refine WO.stC0 o2 (e2.trans (e3.trans e6)) ?_;intro h7 e7 o7 u7;refine go ?_;refine rt ?_;have keep:∀ k,h2.n≤k→k<h6.n→h7.get k=h6.get k:=fun k hk1 hk2=>u7.2 k hk2 (fun e=>by
   have:=hp2 k e;omega)
  exact⟨⟨_,_,rfl,((ow.ext e6).upd keep u7.1).sl,(ov.upd (fun k hk1 hk2=>keep k (by have:=e3.n;omega) hk2) u7.1).sl⟩,e1.trans e7⟩
def body10_0:ACode:=(.seq (.seq (oR [oM 11 5,oM 12 0,oQ 13 12,oB .lss 14 11 13]) (oT 14 0)) (.seq (.block 1 (.seq (.regionC [oU (oM 17 0),oU (oM 18 5),oU (oI 1 19 17 18),oU (oL 20 19),oU (oM 21 1),oU (oM 22 5),oU (oI 1 23 21 22),oU (oL 24 23),oU (oB .neq 25 20 24)]) (.cond (.tmp 25) (.seq (oR [oZ 4]) .ret) .skip))) (oR [oM 15 5,oC .add 16 15 1,oM 5 16])))
def body10:ACode:=(.seq (oR [oZ 4]) (.seq (.seq (oR [oM 6 0,oQ 7 6,oM 8 1,oQ 9 8,oB .neq 10 7 9]) (.cond (.tmp 10) (.seq (oR [oZ 4]) .ret) .skip)) (.seq (.seq (oR [oN 5 0]) (.block 0 (.loop body10_0))) (.seq (oR [oK 4 (.bool true)]) .ret))))
theorem tab10:tb.code 10=some ⟨26,[(4,none)],body10⟩:=by kernel_rfl
theorem Ym (h:AHeap) (v w:Value) (a b:List Int) (sa:SlI h v a) (sb:SlI h w b) (ha:(a.length:Int)≤1000000000):
  WC Tryz.prog tb 10 [v,w] h fun r h'=>r= .bool (decide (a=b))∧h=h':=by
 refine WC.of (zE 10) tab10 ?_;simp only[zK,Nat.zero_add,Nat.reduceAdd];by_cases hl:(a.length:Int)=(b.length:Int);case neg=>
  have hne:a≠b:=fun e=>hl (by rw[e]);refine go ?_;refine rt ?_;exact⟨by rw[decide_eq_false hne];rfl,rfl⟩
 refine go ?_;refine WX.loopA [11,12,13,14,17,18,19,20,21,22,23,24,25,4,15,16,5] (by kernel_rfl) (fun i=>a.length - i) (fun i t h1=>h=h1∧zC t 5=I i∧i≤a.length∧Hid (∀ j,j<i→a.getD j 0=b.getD j 0)) 0 ?_ ?_
 ·exact⟨rfl,sl_,Nat.zero_le _,⟨fun j hj=>absurd hj (Nat.not_lt_zero _)⟩⟩
 rintro i t _ hsame ⟨rfl,s5,hi,hm⟩;refine go ?_;refine WX.br (fun hb=> ?_) (fun hb=> ?_)<;>simp only[DB]at hb
 ·have hi':i<a.length:=by omega
  by_cases he:a.getD i 0=b.getD i 0
  ·refine go ?_;refine zA (i+1) (by omega) ⟨rfl,sln,by omega,⟨fun j hj=> ?_⟩⟩;by_cases e:j=i
   ·subst e;exact he
   ·exact hm.out j (by omega)
  ·have hne:a≠b:=fun e=>he (by rw[e]);refine go ?_;refine rt ?_;exact⟨by rw[decide_eq_false hne];rfl,rfl⟩
 ·have heq:a=b:=by
   refine List.ext_getElem (by omega) fun j h1 h2=> ?_;have:=hm.out j (by omega);simpa [List.getD,List.getElem?_eq_getElem h1,List.getElem?_eq_getElem h2]using this
  refine go ?_;refine rt ?_;exact⟨by rw[decide_eq_true heq];rfl,rfl⟩
def body23_0:ACode:=(.seq (.seq (oR [oM 70 6,oM 71 0,oM 72 5,oI 4 73 71 72,oF 3 74 73,oL 75 74,oQ 76 75,oB .lss 77 70 76]) (oT 77 2)) (.seq (.block 3 (.seq (.regionC [oU (oM 80 0),oU (oM 81 5),oU (oI 4 82 80 81),oU (oF 3 83 82),oU (oL 84 83),oU (oM 85 6),oU (oI 1 86 84 85),oU (oL 87 86),oU (oM 88 1),oU (oM 89 5),oU (oI 4 90 88 89),oU (oF 3 91 90),oU (oL 92 91),oU (oM 93 6),oU (oI 1 94 92 93),oU (oL 95 94),oU (oB .neq 96 87 95)]) (.cond (.tmp 96) (.seq (oR [oZ 4]) .ret) .skip))) (oR [oM 78 6,oC .add 79 78 1,oM 6 79])))
def body23_1:ACode:=(.seq (.seq (oR [oM 12 5,oM 13 0,oQ 14 13,oB .lss 15 12 14]) (oT 15 0)) (.seq (.block 1 (.seq (.seq (.regionC [oU (oM 18 0),oU (oM 19 5),oU (oI 4 20 18 19),oU (oF 0 21 20),oU (oL 22 21),oU (oM 23 1),oU (oM 24 5),oU (oI 4 25 23 24),oU (oF 0 26 25),oU (oL 27 26),oU (oB .neq 28 22 27),oU (oM 29 28),oU (oH 29 (oM 30 0)),oU (oH 29 (oM 31 5)),oU (oH 29 (oI 4 32 30 31)),oU (oH 29 (oF 1 33 32)),oU (oH 29 (oL 34 33)),oU (oH 29 (oM 35 1)),oU (oH 29 (oM 36 5)),oU (oH 29 (oI 4 37 35 36)),oU (oH 29 (oF 1 38 37)),oU (oH 29 (oL 39 38)),oU (oH 29 (oB .neq 40 34 39)),oU (oO 41 29 40),oU (oM 42 41),oU (oH 42 (oM 43 0)),oU (oH 42 (oM 44 5)),oU (oH 42 (oI 4 45 43 44)),oU (oH 42 (oF 2 46 45)),oU (oH 42 (oL 47 46)),oU (oH 42 (oM 48 1)),oU (oH 42 (oM 49 5)),oU (oH 42 (oI 4 50 48 49)),oU (oH 42 (oF 2 51 50)),oU (oH 42 (oL 52 51)),oU (oH 42 (oB .neq 53 47 52)),oU (oO 54 42 53),oU (oM 55 54),oU (oH 55 (oM 56 0)),oU (oH 55 (oM 57 5)),oU (oH 55 (oI 4 58 56 57)),oU (oH 55 (oF 3 59 58)),oU (oH 55 (oL 60 59)),oU (oH 55 (oQ 61 60)),oU (oH 55 (oM 62 1)),oU (oH 55 (oM 63 5)),oU (oH 55 (oI 4 64 62 63)),oU (oH 55 (oF 3 65 64)),oU (oH 55 (oL 66 65)),oU (oH 55 (oQ 67 66)),oU (oH 55 (oB .neq 68 61 67)),oU (oO 69 55 68)]) (.cond (.tmp 69) (.seq (oR [oZ 4]) .ret) .skip)) (.seq (oR [oN 6 0]) (.block 2 (.loop body23_0))))) (oR [oM 16 5,oC .add 17 16 1,oM 5 17])))
def body23:ACode:=(.seq (oR [oZ 4]) (.seq (.seq (oR [oM 7 0,oQ 8 7,oM 9 1,oQ 10 9,oB .neq 11 8 10]) (.cond (.tmp 11) (.seq (oR [oZ 4]) .ret) .skip)) (.seq (.seq (oR [oN 5 0]) (.block 0 (.loop body23_1))) (.seq (oR [oK 4 (.bool true)]) .ret))))
theorem tab23:tb.code 23=some ⟨97,[(4,none)],body23⟩:=by kernel_rfl
theorem zIw (h:AHeap) (v w:Value) (T:List LType) (sa:SlT h v T) (sb:SlT h w T) (hT:T.length≤1000) (hp:∀ x∈T,x.parts.length≤1000):
  WC Tryz.prog tb 23 [v,w] h fun r h'=>r= .bool true∧h=h':=by
 refine WC.of (zE 23) tab23 ?_;simp only[zK,Nat.zero_add,Nat.reduceAdd];replace hp:=Hid.mk hp;refine go ?_;refine WX.loopA [12,13,14,15,18,19,20,21,22,23,24,25,26,27,28,29,30,31,32,33,34,35,36,37,38,39,40,41,42,43,44,45,46,47,48,49,50,51,52,53,54,55,56,57,58,59,60,61,62,63,64,65,66,67,68,69,4,6,70,71,72,73,74,75,76,77,80,81,82,83,84,85,86,87,88,89,90,91,92,93,94,95,96,4,78,79,6,16,17,5] (by kernel_rfl) (fun i=>T.length - i) (fun i t h1=>h=h1∧zC t 5=I i∧i≤T.length) 0 ?_ ?_
 ·exact⟨rfl,sl_,Nat.zero_le _⟩
 rintro i t _ hsame ⟨rfl,s5,hi⟩;refine go ?_;refine WX.br (fun hb=> ?_) (fun hb=> ?_)<;>simp only[DB]at hb
 ·have hi':i<T.length:=by omega
  have hpl:=hp.out _ (zI (l:=T) hi');obtain⟨cs1,⟨va1,rfl,sa1,hla1⟩,pc1,hs1⟩:=Zg sa hi';obtain⟨cs2,⟨va2,rfl,sa2,hla2⟩,pc2,hs2⟩:=Zg sb hi';generalize T.getD i default=x at *;refine go ?_;refine WX.loopA [70,71,72,73,74,75,76,77,80,81,82,83,84,85,86,87,88,89,90,91,92,93,94,95,96,4,78,79,6] (by kernel_rfl) (fun k=>x.parts.length - k) (fun k t h1=>h=h1∧zC t 6=I k∧k≤x.parts.length) 0 ?_ ?_
  ·exact⟨rfl,sl_,Nat.zero_le _⟩
  rintro k t2 _ hsame2 ⟨rfl,s6,hk⟩;refine go ?_;refine WX.br (fun hc=> ?_) (fun hc=> ?_)<;>simp only[DB]at hc
  ·have hk':k<x.parts.length:=by omega
   refine go ?_;exact zA (k+1) (by omega) ⟨rfl,sln,by omega⟩
  ·refine go ?_;exact zA (i+1) (by omega) ⟨rfl,sln,by omega⟩
 ·refine go ?_;refine rt ?_;exact⟨rfl,rfl⟩
def body40_0:ACode:=(.seq (.seq (oR [oM 13 5,oM 14 0,oQ 15 14,oB .lss 16 13 15]) (oT 16 0)) (.seq (.block 1 (.seq (.regionC [oU (oM 19 0),oU (oM 20 5),oU (oI 7 21 19 20),oU (oA 7 22 21),oU (oM 23 1),oU (oM 24 5),oU (oI 7 25 23 24),oU (oA 7 26 25),oU (⟨some 6,none,(.alloc [(.int .u8 0),(.int .i64 0),(.int .i64 0),(.int .i64 0),(.int .i64 0),(.slice none 0 0),(.slice none 0 0)])⟩),oU (⟨some 7,none,(.alloc [(.int .u8 0),(.int .i64 0),(.int .i64 0),(.int .i64 0),(.int .i64 0),(.slice none 0 0),(.slice none 0 0)])⟩),(oS 7 6 22,[7]),oU (oS 7 7 26)]) (.seq (oR [oF 0 27 6,oL 28 27,oF 0 29 7,oL 30 29,oB .neq 31 28 30,oM 32 31,oH 32 (oF 1 33 6),oH 32 (oL 34 33),oH 32 (oF 1 35 7),oH 32 (oL 36 35),oH 32 (oB .neq 37 34 36),oO 38 32 37,oM 39 38,oH 39 (oF 2 40 6),oH 39 (oL 41 40),oH 39 (oF 2 42 7),oH 39 (oL 43 42),oH 39 (oB .neq 44 41 43),oO 45 39 44,oM 46 45,oH 46 (oF 3 47 6),oH 46 (oL 48 47),oH 46 (oF 3 49 7),oH 46 (oL 50 49),oH 46 (oB .neq 51 48 50),oO 52 46 51,oM 53 52,oH 53 (oF 4 54 6),oH 53 (oL 55 54),oH 53 (oF 4 56 7),oH 53 (oL 57 56),oH 53 (oB .neq 58 55 57),oO 59 53 58,oM 60 59,oH 60 (oF 5 61 6),oH 60 (oL 62 61),oH 60 (oF 5 63 7),oH 60 (oL 64 63),oH 60 (o2 65 10 62 64),oH 60 (oW 66 65),oO 67 60 66,oM 68 67,oH 68 (oF 6 69 6),oH 68 (oL 70 69),oH 68 (oF 6 71 7),oH 68 (oL 72 71),oH 68 (o2 73 10 70 72),oH 68 (oW 74 73),oO 75 68 74]) (.cond (.tmp 75) (.seq (oR [oZ 4]) .ret) .skip)))) (oR [oM 17 5,oC .add 18 17 1,oM 5 18])))
def body40:ACode:=(.seq (oR [oZ 4]) (.seq (.seq (oR [oM 8 0,oQ 9 8,oM 10 1,oQ 11 10,oB .neq 12 9 11]) (.cond (.tmp 12) (.seq (oR [oZ 4]) .ret) .skip)) (.seq (.seq (oR [oN 5 0]) (.block 0 (.loop body40_0))) (.seq (oR [oK 4 (.bool true)]) .ret))))
theorem tab40:tb.code 40=some ⟨76,[(4,none)],body40⟩:=by kernel_rfl
theorem zGC (h:AHeap) (v w:Value) (L:List LIns) (sa:SlN h v L) (sb:SlN h w L) (hm:h.mark≤h.n) (hL:L.length≤1000) (hX:∀ x∈L,x.args.length≤20∧x.frm.length≤20):
  WC Tryz.prog tb 40 [v,w] h fun r h'=>r= .bool true∧Ext h h':=by
 refine WC.of (zE 40) tab40 ?_;simp only[zK,Nat.zero_add,Nat.reduceAdd];replace hX:=Hid.mk hX;refine go ?_;refine WX.loopA [13,14,15,16,19,20,21,22,23,24,25,26,6,7,27,28,29,30,31,32,33,34,35,36,37,38,39,40,41,42,43,44,45,46,47,48,49,50,51,52,53,54,55,56,57,58,59,60,61,62,63,64,65,66,67,68,69,70,71,72,73,74,75,4,17,18,5] (by kernel_rfl) (fun i=>L.length - i) (fun i t h1=>Ext h h1∧zC t 5=I i∧i≤L.length) 0 ?_ ?_
 ·exact⟨Ext.refl _,sl_,Nat.zero_le _⟩
 rintro i t h1 hsame ⟨e1,s5,hi⟩;have sa1:=SlN.ext sa e1;have sb1:=SlN.ext sb e1;have hm1:=yY e1 hm;refine go ?_;refine WX.br (fun hb=> ?_) (fun hb=> ?_)<;>simp only[DB]at hb
 ·have hi':i<L.length:=by omega
  have hxl:=hX.out _ (zI (l:=L) hi');obtain⟨aa,an,ak,hav,hab⟩:=Zd sa1 hi';obtain⟨ba,bn,bk,hbv,hbb⟩:=Zd sb1 hi';refine go ?_;refine WX.regionU6 (fun g=>g=h1.n∨g=h1.n+1) 2 rfl rfl ?_;have saX:SlN (inC (zB 2 h1)) v L:=by have:=SlN.ext sa1 (yz 2 h1);exact this
  have sbX:SlN (inC (zB 2 h1)) w L:=by have:=SlN.ext sb1 (yz 2 h1);exact this
  obtain⟨cs1,⟨xa,xf,rfl,sxa,sxf,hla,hlf,ho⟩,px1,hs1⟩:=zh sa1 hi';obtain⟨cs2,⟨ya,yf,rfl,sya,syf,hlb,hlg,ho2⟩,px2,hs2⟩:=zh sb1 hi';have pc1:=(px1 _ (yz 2 h1)).2;have pc2:=(px2 _ (yz 2 h1)).2;generalize L.getD i default=x at *;obtain⟨a1,a2,a3,rfl⟩:=zv sxa;obtain⟨f1,f2,f3,rfl⟩:=zv sxf;obtain⟨b1,b2,b3,rfl⟩:=zv sya;obtain⟨g1,g2,g3,rfl⟩:=zv syf;refine goV ?_;refine uK6_el ⟨aa,an,ak,hav,by omega⟩ ?_;refine goV ?_;refine uK6_el ⟨ba,bn,bk,hbv,by omega⟩ ?_;refine goV ?_;refine WU6.al2 hm1 ?_;intro h2 p q e2 op oq;have sxa2:SlI h2 (.slice a1 a2 a3) x.args:=sxa.ext e2;have sxf2:SlI h2 (.slice f1 f2 f3) x.frm:=sxf.ext e2;have sya2:SlI h2 (.slice b1 b2 b3) x.args:=sya.ext e2;have syf2:SlI h2 (.slice g1 g2 g3) x.frm:=syf.ext e2;refine go ?_;refine WO.con (Ym h2 _ _ x.args x.args sxa2 sya2 (by omega)) ?_;rintro _ _ ⟨rfl,rfl⟩;refine go ?_;refine WO.con (Ym h2 _ _ x.frm x.frm sxf2 syf2 (by omega)) ?_;rintro _ _ ⟨rfl,rfl⟩;refine go ?_;exact zA (i+1) (by omega) ⟨e1.trans e2,sln,by omega⟩
 ·refine go ?_;refine rt ?_;exact⟨rfl,e1⟩
def body24_0:ACode:=(.seq (.seq (oR [oM 11 5,oM 12 0,oQ 13 12,oB .lss 14 11 13]) (oT 14 0)) (.seq (.block 1 (.seq (.regionC [oU (oM 17 0),oU (oM 18 5),oU (oI 5 19 17 18),oU (oF 1 20 19),oU (oA 4 21 20),oU (oM 22 1),oU (oM 23 5),oU (oI 5 24 22 23),oU (oF 1 25 24),oU (oA 4 26 25),oU (⟨some 27,none,(.binP .neq 45 (.tmp 21) (.tmp 26))⟩),oU (oM 28 27),oU (oH 28 (oM 29 0)),oU (oH 28 (oM 30 5)),oU (oH 28 (oI 5 31 29 30)),oU (oH 28 (oF 0 32 31)),oU (oH 28 (oL 33 32)),oU (oH 28 (oM 34 1)),oU (oH 28 (oM 35 5)),oU (oH 28 (oI 5 36 34 35)),oU (oH 28 (oF 0 37 36)),oU (oH 28 (oL 38 37)),oU (oH 28 (o2 39 40 33 38)),oU (oH 28 (oW 40 39)),oU (oO 41 28 40)]) (.cond (.tmp 41) (.seq (oR [oZ 4]) .ret) .skip))) (oR [oM 15 5,oC .add 16 15 1,oM 5 16])))
def body24:ACode:=(.seq (oR [oZ 4]) (.seq (.seq (oR [oM 6 0,oQ 7 6,oM 8 1,oQ 9 8,oB .neq 10 7 9]) (.cond (.tmp 10) (.seq (oR [oZ 4]) .ret) .skip)) (.seq (.seq (oR [oN 5 0]) (.block 0 (.loop body24_0))) (.seq (oR [oK 4 (.bool true)]) .ret))))
theorem tab24:tb.code 24=some ⟨42,[(4,none)],body24⟩:=by kernel_rfl
theorem zIl (h:AHeap) (v w:Value) (L:List LBlk) (sa:SlB h v L) (sb:SlB h w L) (hm:h.mark≤h.n) (hL:L.length≤1000) (hI:∀ b∈L,b.ins.length≤1000) (hX:∀ b∈L,∀ x∈b.ins,x.args.length≤20∧x.frm.length≤20):
  WC Tryz.prog tb 24 [v,w] h fun r h'=>r= .bool true∧Ext h h':=by
 refine WC.of (zE 24) tab24 ?_;simp only[zK,Nat.zero_add,Nat.reduceAdd];replace hI:=Hid.mk hI;replace hX:=Hid.mk hX;refine go ?_;refine WX.loopA [11,12,13,14,17,18,19,20,21,22,23,24,25,26,27,28,29,30,31,32,33,34,35,36,37,38,39,40,41,4,15,16,5] (by kernel_rfl) (fun i=>L.length - i) (fun i t h1=>Ext h h1∧zC t 5=I i∧i≤L.length) 0 ?_ ?_
 ·exact⟨Ext.refl _,sl_,Nat.zero_le _⟩
 rintro i t h1 hsame ⟨e1,s5,hi⟩;have sa1:=SlB.ext sa e1;have sb1:=SlB.ext sb e1;refine go ?_;refine WX.br (fun hb=> ?_) (fun hb=> ?_)<;>simp only[DB]at hb
 ·have hi':i<L.length:=by omega
  have hmem:=zI (l:=L) hi';have hIl:=hI.out _ hmem;have hXl:=hX.out _ hmem;refine go ?_;refine WX.regionU2 0 rfl rfl ?_;have saX:SlB (inC (zB 0 h1)) v L:=sa1;have sbX:SlB (inC (zB 0 h1)) w L:=sb1;obtain⟨cs1,⟨v1,rfl,sn1,hl1⟩,pc1,hs1⟩:=zZ saX hi';obtain⟨cs2,⟨v2,rfl,sn2,hl2⟩,pc2,hs2⟩:=zZ sbX hi';generalize L.getD i default=B at *;obtain⟨a1,a2,a3,rfl⟩:=zD sn1;obtain⟨b1,b2,b3,rfl⟩:=zD sn2;refine goU ?_;refine WO.bp (ne_chk (xs:=#[.int .u8 B.fin.kind,I B.fin.a,I B.fin.to,I B.fin.els]) (ys:=#[.int .u8 B.fin.kind,I B.fin.a,I B.fin.to,I B.fin.els]) (b:=true) (by kernel_rfl) (by simp[YF,zBy,I])) ?_;refine WO.nil ?_;refine yO ?_;refine goU ?_;refine WO.con (zGC _ _ _ B.ins sn1 sn2 (Nat.le_refl _) hIl hXl) ?_;rintro _ h2 ⟨rfl,e2⟩;refine WO.nil ?_;refine yP e2 zM ?_;refine goU ?_;have e3:Ext h1 (outC h1 (inC h2)):=e2.reg;refine go ?_;exact zA (i+1) (by omega) ⟨e1.trans e3,sln,by omega⟩
 ·refine go ?_;refine rt ?_;exact⟨rfl,e1⟩
def body11_0:ACode:=(.seq (.seq (oR [oM 21 5,oF 1 22 2,oL 23 22,oQ 24 23,oB .lss 25 21 24]) (oT 25 0)) (.seq (.block 1 (.seq (.regionC [oU (oF 1 28 2),oU (oL 29 28),oU (oM 30 5),oU (oI 2 31 29 30),oU (oF 0 32 31),oU (oL 33 32),oU (oF 1 34 3),oU (oL 35 34),oU (oM 36 5),oU (oI 2 37 35 36),oU (oF 0 38 37),oU (oL 39 38),oU (oB .neq 40 33 39),oU (oM 41 40),oU (oH 41 (oF 1 42 2)),oU (oH 41 (oL 43 42)),oU (oH 41 (oM 44 5)),oU (oH 41 (oI 2 45 43 44)),oU (oH 41 (oF 1 46 45)),oU (oH 41 (oL 47 46)),oU (oH 41 (oF 1 48 3)),oU (oH 41 (oL 49 48)),oU (oH 41 (oM 50 5)),oU (oH 41 (oI 2 51 49 50)),oU (oH 41 (oF 1 52 51)),oU (oH 41 (oL 53 52)),oU (oH 41 (o2 54 24 47 53)),oU (oH 41 (oW 55 54)),oU (oO 56 41 55)]) (.cond (.tmp 56) (.seq (oR [oZ 4]) .ret) .skip))) (oR [oM 26 5,oC .add 27 26 1,oM 5 27])))
def body11:ACode:=(.seq (oR [oX 2 0,oX 3 1,oZ 4]) (.seq (.seq (oR [oF 1 6 2,oL 7 6,oQ 8 7,oF 1 9 3,oL 10 9,oQ 11 10,oB .neq 12 8 11,oM 13 12,oH 13 (oF 0 14 2),oH 13 (oL 15 14),oH 13 (oF 0 16 3),oH 13 (oL 17 16),oH 13 (o2 18 23 15 17),oH 13 (oW 19 18),oO 20 13 19]) (.cond (.tmp 20) (.seq (oR [oZ 4]) .ret) .skip)) (.seq (.seq (oR [oN 5 0]) (.block 0 (.loop body11_0))) (.seq (oR [oK 4 (.bool true)]) .ret))))
theorem tab11:tb.code 11=some ⟨57,[(4,none)],body11⟩:=by kernel_rfl
theorem rSame_ok (h:AHeap) (vt vf wt wf:Value) (T:List LType) (F:List LFn) (sm:Small T F) (smi:zDY F) (hm:h.mark≤h.n) (st:SlT h vt T) (sf:SlF h vf F) (st2:SlT h wt T) (sf2:SlF h wf F):
  WC Tryz.prog tb 11 [.agg #[vt,vf],.agg #[wt,wf]] h fun r h'=>r= .bool true∧Ext h h':=by
 have hT:=sm.types;have hF:=sm.funcs;obtain⟨ta,tn,tk,rfl⟩:=zD st;obtain⟨ga,gn,gk,rfl⟩:=zD sf;obtain⟨ua,un,uk,rfl⟩:=zD st2;obtain⟨za,zn,zk,rfl⟩:=zD sf2;refine WC.of (zE 11) tab11 ?_;simp only[zK,Nat.zero_add,Nat.reduceAdd];refine go ?_;refine WO.bx ?_;intro p h1 e1 o1;refine go ?_;refine WO.bx ?_;intro q h2 e2 o2;have o1:=o1.ext e2;have e12:=e1.trans e2;have st_2:=st.ext e12;have sf_2:=SlF.ext sf e12;have st2_2:=st2.ext e12;have sf2_2:=SlF.ext sf2 e12;have hm2:=yY e12 hm;refine go ?_;refine WO.con (zIw h2 _ _ T st_2 st2_2 (by omega) (fun x hx=>by have:=sm.parts x hx;omega)) ?_;rintro _ _ ⟨rfl,rfl⟩;refine go ?_;refine WX.loopA [21,22,23,24,25,28,29,30,31,32,33,34,35,36,37,38,39,40,41,42,43,44,45,46,47,48,49,50,51,52,53,54,55,56,4,26,27,5] (by kernel_rfl) (fun i=>F.length - i) (fun i t h3=>Ext h2 h3∧zC t 5=I i∧i≤F.length) 0 ?_ ?_
 ·exact⟨Ext.refl _,sl_,Nat.zero_le _⟩
 rintro i t h3 hsame ⟨e3,s5,hi⟩;have o1:=o1.ext e3;have o2:=o2.ext e3;have sf3:=SlF.ext sf_2 e3;have sf23:=SlF.ext sf2_2 e3;refine go ?_;refine WX.br (fun hb=> ?_) (fun hb=> ?_)<;>simp only[DB]at hb
 ·have hi':i<F.length:=by omega
  have hmem:=zI (l:=F) hi';have hB:=sm.blocks _ hmem;have hI:=sm.ins _ hmem;have hX:=smi _ hmem;refine go ?_;refine WX.regionU2 0 rfl rfl ?_;have o1X:OwnC h (inC (zB 0 h3)) p [_,_]:=o1;have o2X:OwnC h1 (inC (zB 0 h3)) q [_,_]:=o2;have saX:SlF (inC (zB 0 h3)) _ F:=sf3;have sbX:SlF (inC (zB 0 h3)) _ F:=sf23;obtain⟨cs1,⟨v1,rfl,sn1,hl1⟩,pc1,hs1⟩:=zZ saX hi';obtain⟨cs2,⟨v2,rfl,sn2,hl2⟩,pc2,hs2⟩:=zZ sbX hi';generalize F.getD i default=f at *;obtain⟨a1,a2,a3,rfl⟩:=zD sn1;obtain⟨b1,b2,b3,rfl⟩:=zD sn2;refine goU ?_;refine WO.con (zIl _ _ _ f.blocks sn1 sn2 (Nat.le_refl _) hB hI hX) ?_;rintro _ h4 ⟨rfl,e4⟩;refine WO.nil ?_;refine yP e4 zM ?_;refine goU ?_;have e5:Ext h3 (outC h3 (inC h4)):=e4.reg;refine go ?_;exact zA (i+1) (by omega) ⟨e3.trans e5,sln,by omega⟩
 ·refine go ?_;refine rt ?_;exact⟨rfl,e12.trans e3⟩
abbrev bO (bs:List Bool) (j:Int):Bool:=bs.getD j.toNat false
theorem bO_set {bs:List Bool} {j c:Int} {b:Bool} (hc:0≤c∧c<(bs.length:Int)) (hj:0≤j):bO (bs.set c.toNat b) j=if j=c then b else bO bs j:=by
 unfold bO;rw[List.getD_eq_getElem?_getD,List.getElem?_set];by_cases e:j=c
 ·subst e;rw[if_pos rfl,if_pos (by omega),if_pos rfl];rfl
 ·rw[if_neg (by omega),if_neg e,List.getD_eq_getElem?_getD]
def body56:ACode:=(.seq (oR [oX 1 0,oK 2 (.slice none 0 0)]) (.seq (.seq (oR [oF 0 3 1,oL 4 3,oD .eql 5 4 1,oM 6 5,oH 6 (oF 0 7 1),oH 6 (oL 8 7),oH 6 (oD .eql 9 8 2),oH 6 (oM 10 9),oG 10 (oF 2 11 1),oG 10 (oL 12 11),oG 10 (oF 3 13 1),oG 10 (oL 14 13),oG 10 (oB .eql 15 12 14),oH 6 (oP 16 10 15),oO 17 6 16]) (.cond (.tmp 17) (.seq (oR [oF 2 18 1,oL 19 18,⟨some 20,none,(.buildSlice 1 1 [(.int .i64 0)] [(0,1,(.tmp 19))])⟩,oM 2 20]) .ret) .skip)) (.seq (.seq (oR [oF 0 21 1,oL 22 21,oD .eql 23 22 2]) (.cond (.tmp 23) (.seq (oR [oF 2 24 1,oL 25 24,oF 3 26 1,oL 27 26,⟨some 28,none,(.buildSlice 2 1 [(.int .i64 0)] [(0,1,(.tmp 25)),(1,1,(.tmp 27))])⟩,oM 2 28]) .ret) .skip)) (.seq (oR [oK 2 (.slice none 0 0)]) .ret))))
theorem tab56:tb.code 56=some ⟨29,[(2,none)],body56⟩:=by kernel_rfl
theorem to_ok (h:AHeap) (x:LEnd):
  WC Tryz.prog tb 56 [.agg #[.int .u8 x.kind,I x.a,I x.to,I x.els]] h fun r h'=>OwnN h h' r (Zk x)∧Ext h h':=by
 refine WC.of (zE 56) tab56 ?_;simp only[zK,Nat.zero_add,Nat.reduceAdd];refine go ?_;refine WO.bx ?_;intro p h1 e1 o1;unfold Zk;by_cases k1:x.kind=1
 ·rw[if_pos k1];refine go ?_;refine WO.bl [x.to] ?_;intro v h2 e2 o2;refine go ?_;refine rt ?_;exact⟨.inr (o2.since e1),e1.trans e2⟩
 rw[if_neg k1];by_cases k2:x.kind=2
 ·rw[if_pos k2];by_cases k3:x.to=x.els
  ·rw[if_pos k3];refine go ?_;refine WO.bl [x.to] ?_;intro v h2 e2 o2;refine go ?_;refine rt ?_;exact⟨.inr (o2.since e1),e1.trans e2⟩
  ·rw[if_neg k3];refine go ?_;refine WO.bl [x.to,x.els] ?_;intro v h2 e2 o2;refine go ?_;refine rt ?_;exact⟨.inr (o2.since e1),e1.trans e2⟩
 ·rw[if_neg k2];refine go ?_;refine rt ?_;exact⟨.inl ⟨rfl,rfl⟩,e1⟩
end
end Go.Proofs.YtemggiegiejopaaGreatDoor
