/- What functions of the program come to in the abstract machine, and plain laws about it; no statement of the seat is proved in this text. -/
import Derived.Test.YteekipjpghikkaaGreatDoorJk
import Derived.Test.YteekipjpghikkaaGreatDoorJb
import Derived.Test.YteekipjpghikkaaGreatDoorAmV
import Derived.Test.YteekipjpghikkaaGreatDoorAmU
import Derived.Test.YteekipjpghikkaaGreatDoorJc
set_option linter.unusedVariables false
set_option linter.unusedSimpArgs false
set_option maxHeartbeats 1000000
namespace Go.Proofs.YteekipjpghikkaaGreatDoor
noncomputable section
open Go.Am
set_option maxRecDepth 100000
theorem _root_.Go.Am.Ext.reg {h h':AHeap} (e:Ext (inC (zC 0 h)) h'):Ext h (outC h (inC h')):=by
 have x:Ext h (outC h h'):=Ext.outC e;exact x
def zR0:ACode:=(oV (oR [oX 2 0,oX 3 1,oN 4 0]) (oV (oR [oF 0 5 2,oL 6 5,oF 0 7 3,oL 8 7,oI 4 9 6 8,oF 3 10 9,oL 11 10,oQ 12 11,oM 4 12]) .ret))
theorem zBI (h:AHeap) (vt vf vb:Value) (T:List LType) (F:List LFn) (sig:Int) (st:SlT h vt T) (sf:SlF h vf F) (hb:∃ a n k,vb= .slice a n k) (hs:0≤sig∧sig<(T.length:Int)) (hp:(T.getD sig.toNat default).parts.length≤1000):
  WC Tryz.prog tb 95 [.agg #[vt,vf],.agg #[I sig,vb]] h fun r h'=>r=I ((T.getD sig.toNat default).parts.length:Int)∧Ext h h':=by
 obtain⟨ta,tn,tk,rfl⟩:=zF st;obtain⟨ga,gn,gk,rfl⟩:=zF sf;obtain⟨ba,bn,bk,rfl⟩:=hb;refine en 13 [(4,none)] zR0 ?_;refine WO.bx ?_;intro p h1 e1 o1;refine go ?_;refine WO.bx ?_;intro q h2 e2 o2;have o1:=o1.ext e2;have st2:=(st.ext e1).ext e2;obtain⟨cs,⟨va,rfl,sa,hla⟩,pc,hss⟩:=yQ (i:=sig.toNat) st2 (by omega);refine gr ?_;exact⟨rfl,e1.trans e2⟩
def zNE:ACode:=(oV (oV (oR [oM 5 4,oM 6 0,oQ 7 6,oB .lss 8 5 7]) (oT 8 0)) (oV (o5 1 (oR [oM 11 3,oM 12 0,oM 13 4,oI 5 14 12 13,oF 0 15 14,oL 16 15,oQ 17 16,oB .add 18 11 17,oM 3 18])) (oR [oM 9 4,oC .add 10 9 1,oM 4 10])))
def zQv:ACode:=(oV (oR [oN 2 0]) (oV (oR [oN 3 0]) (oV (oV (oR [oN 4 0]) (o5 0 (.loop zNE))) (oV (oR [oM 19 3,oM 2 19]) .ret))))
theorem zDT (l:List LBlk) {i:Nat} (h:i<l.length):zW (l.take (i+1))=zW (l.take i)+((l.getD i default).ins.length:Int):=by
 unfold zW;rw[List.take_add_one,List.getElem?_eq_getElem h];simp only[List.map_append,List.sum_append,Option.toList_some,List.map_cons,List.map_nil,List.sum_cons,List.sum_nil,List.getD,List.getElem?_eq_getElem h,Option.getD_some,Int.add_zero]
theorem zBV {l:List LBlk} (h:∀ b∈l,b.ins.length≤1000):0≤zW l∧zW l≤1000 * l.length:=by
 unfold zW;induction l with
 |nil=>simp
 |cons b l ih=>
  have h1:=h b (by simp);have:=ih fun x hx=>h x (by simp[hx]);simp only[List.map_cons,List.sum_cons,List.length_cons];omega
theorem zB2 (h:AHeap) (v:Value) (l:List LBlk) (s:SlB h v l) (hl:l.length≤1000) (hi:∀ b∈l,b.ins.length≤1000):
  WC Tryz.prog tb 96 [v] h fun r h'=>r=I (zW l)∧h=h':=by
 refine en 20 [(2,none)] zQv ?_;refine WX.loopA [5,6,7,8,11,12,13,14,15,16,17,18,3,9,10,4] (by kernel_rfl) (fun i=>l.length - i) (fun i t h1=>h=h1∧zB t 4=I i∧i≤l.length∧zB t 3=I (zW (l.take i))) 0 ?_ ?_
 ·exact⟨rfl,sl_,Nat.zero_le _,sl_⟩
 rintro i t _ hsame ⟨rfl,s4,hin,s3⟩;have hbd:=zBV (l:=l.take i) fun b hb=>hi b (List.mem_of_mem_take hb);have htl:(l.take i).length≤i:=List.length_take_le _ _;refine go ?_;refine WX.br (fun hc=> ?_) (fun hc=> ?_)<;>simp only[DB]at hc
 ·have hi':i<l.length:=by omega
  obtain⟨cs,⟨vi,rfl,si,hli⟩,pc,hs⟩:=zd s hi';have hmt:=zDT l hi';have hin2:=hi _ (zH (l:=l) hi');refine go ?_;exact zA (i+1) (by omega) ⟨rfl,sln,by omega,by rw[hmt];exact sl_⟩
 ·have hii:i=l.length:=by omega
  subst hii;rw[List.take_length]at s3;refine gr ?_;exact⟨rfl,rfl⟩
def zNA:ACode:=(oV (oV (oR [oM 61 7,oF 1 62 3,oL 63 62,oM 64 6,oI 5 65 63 64,oF 0 66 65,oL 67 66,oQ 68 67,oB .lss 69 61 68]) (oT 69 2)) (oV (o5 3 (oV (o6 [oA 2 72 2,oF 1 73 3,oL 74 73,oM 75 6,oI 5 76 74 75,oF 0 77 76,oL 78 77,oM 79 7,oI 7 80 78 79,oA 7 81 80,oM 82 5,oF 1 83 3,oL 84 83,oQ 85 84,o4 86 118 72 81 82 85,oW 87 86]) (oJ 87 (oV (oR [oZ 4]) .ret) .skip))) (oR [oM 70 7,oC .add 71 70 1,oM 7 71])))
def zNL:ACode:=(oV (oV (oR [oM 54 6,oF 1 55 3,oL 56 55,oQ 57 56,oB .lss 58 54 57]) (oT 58 0)) (oV (o5 1 (oV (oV (oR [oN 7 0]) (o5 2 (.loop zNA))) (oV (o6 [oF 1 88 3,oL 89 88,oM 90 6,oI 5 91 89 90,oF 1 92 91,oA 4 93 92,oM 94 5,oF 1 95 3,oL 96 95,oQ 97 96,o3 98 119 93 94 97,oW 99 98]) (oJ 99 (oV (oR [oZ 4]) .ret) .skip)))) (oR [oM 59 6,oC .add 60 59 1,oM 6 60])))
def zRQ:ACode:=(oV (oR [oX 2 0,oX 3 1,oZ 4]) (oV (oV (oR (oF 0 8 3::oL 9 8::oC .lss 10 9 0::oM 11 10::oH 11 (oF 0 12 3)::oH 11 (oL 13 12)::oH 11 (oF 0 14 2)::oH 11 (oL 15 14)::oH 11 (oQ 16 15)::oH 11 (oB .geq 17 13 16)::oO 18 11 17::oM 19 18::oH 19 (oF 0 20 2)::oH 19 (oL 21 20)::oH 19 (oF 0 22 3)::oH 19 (oL 23 22)::oH 19 (oI 4 24 21 23)::oH 19 (oF 0 25 24)::oH 19 (oL 26 25)::oH 19 (oD .neq 27 26 3)::oO 28 19 27::oM 29 28::oH 29 (oF 1 30 3)::oH 29 (oL 31 30)::oH 29 (oQ 32 31)::oH 29 (oC .lss 33 32 1)::oO 34 29 33::oM 35 34::oH 35 (oF 1 36 3)::oH 35 (oL 37 36)::oH 35 (oQ 38 37)::oH 35 (oC .gtr 39 38 16)::oO 40 35 39::oM 41 40::oH 41 (oF 1 42 3)::oH 41 (oL 43 42)::oH 41 (o1 44 96 43)::oH 41 (oC .gtr 45 44 128)::oO 46 41 45::[])) (oJ 46 (oV (oR [oZ 4]) .ret) .skip)) (oV (o6 [oA 2 47 2,oA 2 48 3,o2 49 95 47 48,oF 1 50 3,(oL 51 50,[2]),o1 52 96 51,oB .add 53 49 52,oM 5 53]) (oV (oV (oR [oN 6 0]) (o5 0 (.loop zNL))) (oV (oR [oK 4 (.bool true)]) .ret)))))
theorem zGD (h:AHeap) (vt vf:Value) (T:List LType) (F:List LFn) (f:LFn) (cs:List Value) (sm:Small T F) (si:zDG F) (hf:f∈F) (hm:h.mark≤h.n) (st:SlT h vt T) (sf:SlF h vf F) (hcs:RFn h cs f):
  WC Tryz.prog tb 72 [.agg #[vt,vf],.agg cs.toArray] h fun r h'=>r= .bool (fnL T F.length f)∧Ext h h':=by
 obtain⟨vb,rfl,sb,hlb⟩:=hcs;obtain⟨ta,tn,tk,rfl⟩:=zF st;obtain⟨ga,gn,gk,rfl⟩:=zF sf;obtain⟨ba,bn,bk,rfl⟩:=zF sb;have hT:=sm.types;have hF:=sm.funcs;have hB:=sm.blocks f hf;have hI:=sm.ins f hf;have hX:=si f hf;have hmany:=zBV hI;refine en 100 [(4,none)] zRQ ?_;refine WO.bx ?_;intro p h1 e1 o1;refine go ?_;refine WO.bx ?_;intro q h2 e2 o2;have o1:=o1.ext e2;have e12:=e1.trans e2;have st2:=st.ext e12;have sf2:=SlF.ext sf e12;have sb2:=SlB.ext sb e12;have hm2:=zp e12 hm;have bad:Ys T f=true→fnL T F.length f=false:=fun h=>by unfold fnL;rw[if_pos h]
 have badI:Ys T f=true↔¬((0≤f.sig∧f.sig<(T.length:Int))∧(T.getD f.sig.toNat default).kind=3∧(1≤(f.blocks.length:Int)∧(f.blocks.length:Int)≤16)∧zW f.blocks≤128):=by
  unfold Ys zO;simp only[Bool.or_eq_true,Bool.not_eq_true',Bool.and_eq_false_iff,decide_eq_false_iff_not,decide_eq_true_eq];omega
 by_cases c1:0≤f.sig;case neg=>
  refine gr ?_;exact⟨by rw[bad (badI.2 fun h=>c1 h.1.1)];rfl,e12⟩
 by_cases c2:f.sig<(T.length:Int);case neg=>
  refine gr ?_;exact⟨by rw[bad (badI.2 fun h=>c2 h.1.2)];rfl,e12⟩
 have hpart:=sm.parts _ (zH (l:=T) (i:=f.sig.toNat) (by omega));obtain⟨csT,⟨vp,rfl,sp,hlp⟩,pcT,hsT⟩:=yQ (i:=f.sig.toNat) st2 (by omega);by_cases c3:(T.getD f.sig.toNat default).kind=3;case neg=>
  refine gr ?_;exact⟨by rw[bad (badI.2 fun h=>c3 h.2.1)];simp[one,c3],e12⟩
 by_cases c4:1≤(f.blocks.length:Int);case neg=>
  refine gr ?_;exact⟨by rw[bad (badI.2 fun h=>c4 h.2.2.1.1)];rfl,e12⟩
 by_cases c5:(f.blocks.length:Int)≤16;case neg=>
  refine gr ?_;exact⟨by rw[bad (badI.2 fun h=>c5 h.2.2.1.2)];rfl,e12⟩
 refine go ?_;refine WO.con (zB2 h2 _ f.blocks sb2 hB hI) ?_;rintro _ _ ⟨rfl,rfl⟩;by_cases c6:zW f.blocks≤128;case neg=>
  refine gr ?_;exact⟨by rw[bad (badI.2 fun h=>c6 h.2.2.2)];rfl,e12⟩
 have hbadF:Ys T f=false:=by
  cases hh:Ys T f with
  |false=>rfl
  |true=>exact absurd ⟨⟨c1,c2⟩,c3,⟨c4,c5⟩,c6⟩ (badI.1 hh)
 have hfn:fnL T F.length f= !(f.blocks.any fun b=>YC b (szL T F.length f)):=by unfold fnL;rw[hbadF];rfl
 rw[hfn];clear bad badI hbadF hfn;refine go ?_;refine WX.regionU2 0 rfl rfl ?_;have o1X:OwnC h (inC (zC 0 h2)) p [_,_]:=o1;have o2X:OwnC h1 (inC (zC 0 h2)) q [_,_]:=o2;have stX:SlT (inC (zC 0 h2)) _ T:=st2;have sfX:SlF (inC (zC 0 h2)) _ F:=sf2;have sbX:SlB (inC (zC 0 h2)) _ f.blocks:=sb2;refine goU ?_;refine WO.con (zBI (inC (zC 0 h2)) _ _ _ T F f.sig stX sfX ⟨_,_,_,rfl⟩ ⟨c1,c2⟩ (by omega)) ?_;rintro _ h3 ⟨rfl,e3⟩;refine nE e3 ?_;have o2Y:OwnC h1 (inC h3) q [I f.sig,.slice ba bn bk]:=by have:=o2X.ext e3;exact this
 have sbY:SlB (inC h3) (.slice ba bn bk) f.blocks:=by have:=SlB.ext sbX e3;exact this
 refine goU ?_;refine zBn o2 (Nat.le_refl _) ?_;refine goU ?_;refine WO.con (zB2 (inC h3) _ f.blocks sbY hB hI) ?_;rintro _ _ ⟨rfl,rfl⟩;refine nQ ?_;refine goU ?_;have e5:Ext h2 (outC h2 (inC h3)):=e3.reg;obtain⟨h5,hh5⟩:∃ h5,h5=outC h2 (inC h3):=⟨_,rfl⟩;rw[←hh5]at e5;rw[←hh5];clear o1X o2X stX sfX sbX o2Y sbY e3 hh5;have o1:=o1.ext e5;have o2:=o2.ext e5;have e15:=e12.trans e5;have st5:=st2.ext e5;have sf5:=SlF.ext sf2 e5;have sb5:=SlB.ext sb2 e5;have hsz:szL T F.length f=⟨T.length,F.length,((T.getD f.sig.toNat default).parts.length:Int)+zW f.blocks,f.blocks.length⟩:=rfl;rw[hsz];clear hsz pcT sp e12 e1 e2;generalize ((T.getD f.sig.toNat default).parts.length:Int)+zW f.blocks=regs at *;obtain⟨s,hs⟩:∃ s:LSz,s=⟨T.length,F.length,regs,f.blocks.length⟩:=⟨_,rfl⟩;rw[←hs];refine go ?_;refine WX.loopA [54,55,56,57,58,7,61,62,63,64,65,66,67,68,69,72,73,74,75,76,77,78,79,80,81,82,83,84,85,86,87,4,70,71,7,88,89,90,91,92,93,94,95,96,97,98,99,4,59,60,6] (by kernel_rfl) (fun i=>f.blocks.length - i) (fun i t h6=>Ext h5 h6∧zB t 6=I i∧i≤f.blocks.length∧Hid (∀ j,j<i→YC (f.blocks.getD j default) s=false)) 0 ?_ ?_
 ·exact⟨Ext.refl _,sl_,Nat.zero_le _,⟨fun j hj=>absurd hj (Nat.not_lt_zero _)⟩⟩
 rintro i t h6 hsame ⟨e6,s6,hi,hall⟩;have o1:=o1.ext e6;have o2:=o2.ext e6;have e16:=e15.trans e6;have st6:=st5.ext e6;have sf6:=SlF.ext sf5 e6;have sb6:=SlB.ext sb5 e6;refine go ?_;refine WX.br (fun hc=> ?_) (fun hc=> ?_)<;>simp only[DB]at hc;case refine_2=>
  have hany:(f.blocks.any fun b=>YC b s)=false:=Zy fun b hb=>by
   obtain⟨j,hj,rfl⟩:=ZG hb;exact hall.out j (by omega)
  refine gr ?_;exact⟨by rw[hany];rfl,e16⟩
 have hi':i<f.blocks.length:=by omega
 obtain⟨csB,⟨vi,rfl,sn,hln⟩,pcB,hsB⟩:=zd sb6 hi';have hmemB:=zH (l:=f.blocks) hi';have hIB:=hI _ hmemB;have hXB:=hX _ hmemB;have bad:YC (f.blocks.getD i default) s=true→(!f.blocks.any fun b=>YC b s)=false:=fun hb=>by
  rw[List.any_eq_true.2 ⟨_,hmemB,hb⟩];rfl
 generalize hB0:f.blocks.getD i default=B at *;refine go ?_;refine WX.loopA [61,62,63,64,65,66,67,68,69,72,73,74,75,76,77,78,79,80,81,82,83,84,85,86,87,4,70,71,7] (by kernel_rfl) (fun k=>B.ins.length - k) (fun k t h7=>Ext h6 h7∧zB t 7=I k∧k≤B.ins.length∧Hid (∀ j,j<k→Y3 (B.ins.getD j default) s=true)) 0 ?_ ?_
 ·exact⟨Ext.refl _,sl_,Nat.zero_le _,⟨fun j hj=>absurd hj (Nat.not_lt_zero _)⟩⟩
 rintro k t2 h7 hsame2 ⟨e7,s7,hk,hallk⟩;have o1:=o1.ext e7;have o2:=o2.ext e7;have e17:=e16.trans e7;have st7:=st6.ext e7;have sf7:=SlF.ext sf6 e7;have sb7:=SlB.ext sb6 e7;obtain⟨csB,hcsB,pcB,hsB⟩:=zd sb7 hi';rw[hB0]at hcsB;obtain⟨vi,rfl,sn,hln⟩:=hcsB;refine go ?_;refine WX.br (fun hd=> ?_) (fun hd=> ?_)<;>simp only[DB]at hd
 ·have hk':k<B.ins.length:=by omega
  have hmemI:=zH (l:=B.ins) hk';obtain⟨csI,hcsI,pcI,hsI⟩:=zd sn hk';obtain⟨va,vfr,rfl,sa,sfr,hla,hlf,ho,ho2⟩:=id hcsI;refine go ?_;refine WX.regionU2 0 rfl rfl ?_;have o1X:OwnC h (inC (zC 0 h7)) p [_,_]:=o1;have o2X:OwnC h1 (inC (zC 0 h7)) q [_,_]:=o2;have stX:SlT (inC (zC 0 h7)) _ T:=st7;have sfX:SlF (inC (zC 0 h7)) _ F:=sf7;have sbX:SlB (inC (zC 0 h7)) _ f.blocks:=sb7;obtain⟨csX,hcsX,pcX,hsX⟩:=zd sbX hi';rw[hB0]at hcsX;obtain⟨viX,rfl,snX,hlnX⟩:=hcsX;obtain⟨csIX,riX,pcIX,hsIX⟩:=zd snX hk';obtain⟨vaX,vfrX,rfl,saX,sfrX,_,_,_,_⟩:=id riX;obtain⟨xa,xn,xk,rfl⟩:=yV saX;obtain⟨ya,yn,yk,rfl⟩:=yV sfrX;refine goU ?_;refine WO.con (zHp (inC (zC 0 h7)) _ _ T F (B.ins.getD k default) _ regs f.blocks.length stX sfX (by omega) (by omega) riX (hXB _ hmemI)) ?_;rintro _ h8 ⟨rfl,e8⟩;refine nE e8 ?_;refine goU ?_;have e9:Ext h7 (outC h7 (inC h8)):=e8.reg;obtain⟨h9,hh9⟩:∃ h9,h9=outC h7 (inC h8):=⟨_,rfl⟩;rw[←hh9]at e9;rw[←hh9];rw[←hs];clear o1X o2X stX sfX sbX pcX snX pcIX riX e8 hh9 saX sfrX;cases hins:Y3 (B.ins.getD k default) s with
  |false=>
   refine gr ?_;refine⟨?_,e17.trans e9⟩;rw[bad (by unfold YC;rw[List.any_eq_true.2 ⟨_,hmemI,by rw[hins];rfl⟩];rfl)];rfl
  |true=>
   refine go ?_;refine zA (k+1) (by omega) ⟨e7.trans e9,sln,by omega,⟨fun j hj=> ?_⟩⟩;by_cases e:j=k
   ·subst e;exact hins
   ·exact hallk.out j (by omega)
 ·have hanyI:(B.ins.any fun x=> !Y3 x s)=false:=Zy fun x hx=>by
   obtain⟨j,hj,rfl⟩:=ZG hx;rw[hallk.out j (by omega)];rfl
  refine go ?_;refine WX.regionU2 0 rfl rfl ?_;have o2X:OwnC h1 (inC (zC 0 h7)) q [_,_]:=o2;have sbX:SlB (inC (zC 0 h7)) _ f.blocks:=sb7;obtain⟨csX,hcsX,pcX,hsX⟩:=zd sbX hi';rw[hB0]at hcsX;obtain⟨viX,rfl,snX,hlnX⟩:=hcsX;obtain⟨xa,xn,xk,rfl⟩:=zF snX;refine goU ?_;refine WO.con (zHL (inC (zC 0 h7)) B.fin T.length F.length regs f.blocks.length) ?_;rintro _ h8 ⟨rfl,e8⟩;refine nE e8 ?_;refine goU ?_;have e9:Ext h7 (outC h7 (inC h8)):=e8.reg;obtain⟨h9,hh9⟩:∃ h9,h9=outC h7 (inC h8):=⟨_,rfl⟩;rw[←hh9]at e9;rw[←hh9];rw[←hs];clear o2X sbX pcX snX e8 hh9;cases hend:zAF B.fin s with
  |false=>
   refine gr ?_;refine⟨?_,e17.trans e9⟩;rw[bad (by unfold YC;rw[hend,hanyI];rfl)];rfl
  |true=>
   refine go ?_;refine zA (i+1) (by omega) ⟨(e6.trans e7).trans e9,sln,by omega,⟨fun j hj=> ?_⟩⟩;by_cases e:j=i
   ·subst e;rw[hB0];unfold YC;rw[hend,hanyI];rfl
   ·exact hall.out j (by omega)
set_option maxRecDepth 100000
theorem _root_.Go.Am.OwnR.lt {α:Type} {c b:Nat} {R:AHeap→List Value→α→Prop} {h:AHeap} {v:Value} {xs:List α} (o:OwnR c R b h v xs) {g n k:Nat} (e:v= .slice (some ⟨g,0,none⟩) n k):b≤g∧g<h.n:=by
 rcases o with ⟨e2,_⟩|⟨g1,_,_,g2,g3,e2,_⟩
 ·rw[e2]at e;cases e
 ·rw[e2]at e;cases e;exact⟨g2,g3⟩
theorem zAq {hb h h':AHeap} {p w:Value} {l:List Int} (o:OwnN hb h w l) (u:UpdC p h h') (hp:∀ g,p= .pointer (some ⟨g,0,none⟩)→g<hb.n):OwnN hb h' w l:=by
 rcases o with o|⟨g,g1,g2,g3,g4⟩
 ·exact .inl o
 ·exact .inr ⟨g,g1,Nat.lt_of_lt_of_le g2 u.1,g3,(u.2 g g2 (fun e=>by have:=hp g e;omega)).trans g4⟩
theorem zBH {hb h:AHeap} {w:Value} {l:List Int} (o:OwnN hb h w l):∃ a n k,w= .slice a n k:=SlC.shape o.sl
theorem zDK {h0 h:AHeap} {p:Value} {cs:List Value} (o:OwnC h0 h p cs):∀ g,p= .pointer (some ⟨g,0,none⟩)→h0.n≤g∧g<h.n:=by
 obtain⟨g,a,b,rfl,_⟩:=o;intro g' e;cases e;exact⟨a,b⟩
theorem zSE {hb h:AHeap} {x:LType} {w:Value} (o:OwnN hb h w x.parts) (hl:(x.parts.length:Int)≤9223372036854775807):Dep RTy h [.int .u8 x.kind,I x.elem,I x.many,w] x (fun k=>hb.n≤k∧k<h.n):=
 fun hx hk hn=>⟨w,rfl,o.depI (fun k o a b e=>hk k o ⟨a,b⟩ e) hn,hl⟩
theorem zQC {hb h:AHeap} {x:LIns} {va vf:Value} (oa:OwnN hb h va x.args) (of:OwnN hb h vf x.frm) (hla:(x.args.length:Int)≤1152921504606846976) (hlf:(x.frm.length:Int)≤1152921504606846976) (ho:0≤x.op∧x.op≤255):Dep RIns h [.int .u8 x.op,I x.ty,I x.a,I x.b,I x.n,va,vf] x (fun k=>hb.n≤k∧k<h.n):=
 fun hx hk hn=>⟨va,vf,rfl,oa.depI (fun k o a b e=>hk k o ⟨a,b⟩ e) hn,of.depI (fun k o a b e=>hk k o ⟨a,b⟩ e) hn,hla,hlf,ho⟩
theorem zOX {b:Nat} {h:AHeap} {x:LBlk} {vi:Value} (o:OwnR 7 RIns b h vi x.ins) (hl:(x.ins.length:Int)≤1152921504606846976):Dep RBlk h [vi,.int .u8 x.fin.kind,I x.fin.a,I x.fin.to,I x.fin.els] x (fun k=>b≤k∧k<h.n):=
 fun hx hk hn=>⟨vi,rfl,o.dep (fun k o a b e=>hk k o ⟨a,b⟩ e) hn,hl⟩
theorem zRh {b:Nat} {h:AHeap} {x:LFn} {vb:Value} (o:OwnR 5 RBlk b h vb x.blocks) (hl:(x.blocks.length:Int)≤1152921504606846976):Dep RFn h [I x.sig,vb] x (fun k=>b≤k∧k<h.n):=
 fun hx hk hn=>⟨vb,rfl,o.dep (fun k o a b e=>hk k o ⟨a,b⟩ e) hn,hl⟩
theorem YW {α:Type} {c b:Nat} {R:AHeap→List Value→α→Prop} {h:AHeap} {v:Value} {xs:List α} (o:OwnR c R b h v xs):∃ a n k,v= .slice a n k:=zF o.sl
theorem zAI {α:Type} [Inhabited α] {l:List α} {i:Nat} (h:i<l.length):l.take (i+1)=l.take i++[l.getD i default]:=by
 rw[List.take_add_one,List.getElem?_eq_getElem h];simp[List.getD,List.getElem?_eq_getElem h]
def zNK:ACode:=(oV (oV (oR [oM 6 4,oM 7 0,oQ 8 7,oB .lss 9 6 8]) (oT 9 0)) (oV (o5 1 (oV (oR [oM 12 0,oM 13 4,oI 4 14 12 13,oA 4 15 14,⟨some 5,none,(.alloc [(.int .u8 0),(.int .i64 0),(.int .i64 0),(.slice none 0 0)])⟩,oS 4 5 15]) (oV (oR [⟨some 16,none,(.buildSlice 0 1 [(.int .i64 0)] [])⟩,oF 3 17 5,oL 18 17,oY 1 19 16 18,oF 3 20 5,oS 1 20 19]) (oR [oM 21 3,oA 4 22 5,⟨some 23,none,(.buildSlice 1 4 [(.int .u8 0),(.int .i64 0),(.int .i64 0),(.slice none 0 0)] [(0,4,(.tmp 22))])⟩,oY 4 24 21 23,oM 3 24])))) (oR [oM 10 4,oC .add 11 10 1,oM 4 11])))
def zRv:ACode:=(oV (oR [oK 2 (.slice none 0 0)]) (oV (oR [oK 3 (.slice none 0 0)]) (oV (oV (oR [oN 4 0]) (o5 0 (.loop zNK))) (oV (oR [oM 25 3,oM 2 25]) .ret))))
theorem zJN (h:AHeap) (vt:Value) (T:List LType) (st:SlT h vt T) (hT:T.length≤1000) (hp:∀ x∈T,x.parts.length≤1000):
  WC Tryz.prog tb 25 [vt] h fun r h'=>OwnR 4 RTy h.n h' r T∧Ext h h':=by
 refine en 26 [(2,none)] zRv ?_;replace hp:=Hid.mk hp;refine go ?_;refine WX.loopA [6,7,8,9,12,13,14,15,5,16,17,18,19,20,21,22,23,24,3,10,11,4] (by kernel_rfl) (fun i=>T.length - i) (fun i t h1=>Ext h h1∧zB t 4=I i∧i≤T.length∧∃ w,zB t 3=w∧OwnR 4 RTy h.n h1 w (T.take i)) 0 ?_ ?_
 ·exact⟨Ext.refl _,sl_,Nat.zero_le _,_,sl_,OwnR.nil⟩
 rintro i t h1 hsame ⟨e1,s4,hi,w,s3,ow⟩;have st1:=st.ext e1;refine go ?_;refine WX.br (fun hc=> ?_) (fun hc=> ?_)<;>simp only[DB]at hc
 ·have hi':i<T.length:=by omega
  obtain⟨cs,⟨va,rfl,sa,hla⟩,pc,hs⟩:=yQ st1 hi';have hpl:=hp.out _ (zH (l:=T) hi');have hsucc:=zAI (l:=T) hi';generalize T.getD i default=x at *;obtain⟨aa,an,ak,rfl⟩:=yV sa;refine go ?_;refine WO.al ?_;intro p h2 e2 o2;have hpn:=zDK o2;refine go ?_;refine WO.stC0 o2 e2 ?_;intro h3 e3 o3 u3;have sa3:=sa.ext e3;have e23:h2.n≤h3.n:=u3.1;refine go ?_;refine WO.bl [] ?_;intro v4 h4 e4 o4;have o3:=o3.ext e4;have sa4:=sa3.ext e4;refine go ?_;refine WO.apN (h0:=h3) (.inr o4) sa4 e4 (by simp;omega) ?_;intro v5 h5 e5 o5;rw[List.nil_append]at o5;obtain⟨b5,n5,k5,rfl⟩:=zBH o5;have o3:=(by assumption:OwnC h1 h3 p _).ext e5;refine go ?_;refine WO.stC (cs:=[.slice b5 n5 k5]) (j:=3) (hl:=by simp[zg]) o3 (e3.trans e5) ?_;intro h6 e6 o6 u6;have o5':=zAq o5 u6 (fun g e=>by have:=(hpn g e).2;omega);have e06:=e1.trans e6;refine go ?_;have hn6:h3.n≤h6.n:=by have:=e5.n;have:=u6.1;omega
  have hn1:h1.n≤h3.n:=e3.n;refine WO.apR x (fun k=>h3.n≤k∧k<h6.n) (ow.ext e6) e06 (Nat.le_refl _) (by have:=e1.n;omega) (by decide) (by rw[List.length_take];omega) (zSE o5' hla) (fun k hk=>⟨by have:=e1.n;omega,hk.2⟩) (fun g n k e hk=>by have:=(ow.lt e).2;omega) ?_;intro v7 h7 lit e7 o7 _ _;refine go ?_;exact zA (i+1) (by omega) ⟨e7,sln,by omega,v7,sl_,by rw[hsucc];exact o7⟩
 ·have hii:i=T.length:=by omega
  subst hii;rw[List.take_length]at ow;refine gr ?_;exact⟨ow,e1⟩
def zL3:ACode:=(oV (oV (oR [oM 20 6,oM 21 0,oM 22 4,oI 5 23 21 22,oF 0 24 23,oL 25 24,oQ 26 25,oB .lss 27 20 26]) (oT 27 2)) (oV (o5 3 (oV (oR [oM 30 0,oM 31 4,oI 5 32 30 31,oF 0 33 32,oL 34 33,oM 35 6,oI 7 36 34 35,oA 7 37 36,⟨some 7,none,(.alloc [(.int .u8 0),(.int .i64 0),(.int .i64 0),(.int .i64 0),(.int .i64 0),(.slice none 0 0),(.slice none 0 0)])⟩,oS 7 7 37]) (oV (oR [⟨some 38,none,(.buildSlice 0 1 [(.int .i64 0)] [])⟩,oF 5 39 7,oL 40 39,oY 1 41 38 40,oF 5 42 7,oS 1 42 41]) (oV (oR [⟨some 43,none,(.buildSlice 0 1 [(.int .i64 0)] [])⟩,oF 6 44 7,oL 45 44,oY 1 46 43 45,oF 6 47 7,oS 1 47 46]) (oR [oF 0 48 5,oL 49 48,oA 7 50 7,⟨some 51,none,(.buildSlice 1 7 [(.int .u8 0),(.int .i64 0),(.int .i64 0),(.int .i64 0),(.int .i64 0),(.slice none 0 0),(.slice none 0 0)] [(0,7,(.tmp 50))])⟩,oY 7 52 49 51,oF 0 53 5,oS 1 53 52]))))) (oR [oM 28 6,oC .add 29 28 1,oM 6 29])))
def zMc:ACode:=(oV (oV (oR [oM 8 4,oM 9 0,oQ 10 9,oB .lss 11 8 10]) (oT 11 0)) (oV (o5 1 (oV (oR [oM 14 0,oM 15 4,oI 5 16 14 15,oF 1 17 16,oA 4 18 17,⟨some 19,none,(.build [(.slice none 0 0),(.int .u8 0),(.int .i64 0),(.int .i64 0),(.int .i64 0)] [(1,4,(.tmp 18))])⟩,⟨some 5,none,(.alloc [(.slice none 0 0),(.int .u8 0),(.int .i64 0),(.int .i64 0),(.int .i64 0)])⟩,oS 5 5 19]) (oV (oV (oR [oN 6 0]) (o5 2 (.loop zL3))) (oR [oM 54 3,oA 5 55 5,⟨some 56,none,(.buildSlice 1 5 [(.slice none 0 0),(.int .u8 0),(.int .i64 0),(.int .i64 0),(.int .i64 0)] [(0,5,(.tmp 55))])⟩,oY 5 57 54 56,oM 3 57])))) (oR [oM 12 4,oC .add 13 12 1,oM 4 13])))
def zQu:ACode:=(oV (oR [oK 2 (.slice none 0 0)]) (oV (oR [oK 3 (.slice none 0 0)]) (oV (oV (oR [oN 4 0]) (o5 0 (.loop zMc))) (oV (oR [oM 58 3,oM 2 58]) .ret))))
theorem zJl (h:AHeap) (vb:Value) (L:List LBlk) (sb:SlB h vb L) (hL:L.length≤1000) (hI:∀ b∈L,b.ins.length≤1000) (hX:∀ b∈L,∀ x∈b.ins,x.args.length≤20∧x.frm.length≤20):
  WC Tryz.prog tb 26 [vb] h fun r h'=>OwnR 5 RBlk h.n h' r L∧Ext h h':=by
 refine en 59 [(2,none)] zQu ?_;replace hI:=Hid.mk hI;replace hX:=Hid.mk hX;refine go ?_;refine WX.loopA [8,9,10,11,14,15,16,17,18,19,5,6,20,21,22,23,24,25,26,27,30,31,32,33,34,35,36,37,7,38,39,40,41,42,43,44,45,46,47,48,49,50,51,52,53,28,29,6,54,55,56,57,3,12,13,4] (by kernel_rfl) (fun i=>L.length - i) (fun i t h1=>Ext h h1∧zB t 4=I i∧i≤L.length∧∃ w,zB t 3=w∧OwnR 5 RBlk h.n h1 w (L.take i)) 0 ?_ ?_
 ·exact⟨Ext.refl _,sl_,Nat.zero_le _,_,sl_,OwnR.nil⟩
 rintro i t h1 hsame ⟨e1,s4,hi,w,s3,ow⟩;have sb1:=SlB.ext sb e1;refine go ?_;refine WX.br (fun hc=> ?_) (fun hc=> ?_)<;>simp only[DB]at hc
 ·have hi':i<L.length:=by omega
  obtain⟨cs,⟨vi,rfl,si,hli⟩,pc,hs⟩:=zd sb1 hi';have hIl:=hI.out _ (zH (l:=L) hi');have hXl:=hX.out _ (zH (l:=L) hi');have hsucc:=zAI (l:=L) hi';obtain⟨B,hB0⟩:∃ B,L.getD i default=B:=⟨_,rfl⟩;rw[hB0]at si hli hIl hXl hsucc pc;replace hXl:=Hid.mk hXl;have pf:Piece h1 vb (i * 5) [vi,.int .u8 B.fin.kind,I B.fin.a,I B.fin.to,I B.fin.els]:=pc;obtain⟨ia,iN,ik,rfl⟩:=zF si;refine go ?_;refine WO.al ?_;intro p h2 e2 o2;have hpn:=zDK o2;refine go ?_;refine WO.stC0 o2 e2 ?_;intro h3 e3 o3 u3;have hn3:h2.n≤h3.n:=u3.1;refine go ?_;refine WX.loopA [20,21,22,23,24,25,26,27,30,31,32,33,34,35,36,37,7,38,39,40,41,42,43,44,45,46,47,48,49,50,51,52,53,28,29,6] (by kernel_rfl) (fun k=>B.ins.length - k) (fun k t h4=>Ext h1 h4∧h3.n≤h4.n∧zB t 6=I k∧k≤B.ins.length∧∃ v',OwnC h1 h4 p [v',.int .u8 B.fin.kind,I B.fin.a,I B.fin.to,I B.fin.els]∧OwnR 7 RIns h3.n h4 v' (B.ins.take k)) 0 ?_ ?_
  ·exact⟨e3,Nat.le_refl _,sl_,Nat.zero_le _,_,o3,OwnR.nil⟩
  rintro k t2 h4 hsame2 ⟨e4,hn4,s6,hk,v',o4,ov⟩;have sb4:=SlB.ext sb1 e4;obtain⟨cs4,hcs4,pc4,hs4⟩:=zd sb4 hi';rw[hB0]at hcs4;obtain⟨vi4,rfl,si4,hli4⟩:=hcs4;obtain⟨va',vn',vk',rfl⟩:=YW ov;refine go ?_;refine WX.br (fun hd=> ?_) (fun hd=> ?_)<;>simp only[DB]at hd
  ·have hk':k<B.ins.length:=by omega
   obtain⟨csx,⟨xa,xf,rfl,sxa,sxf,hla,hlf,ho⟩,pcx,hsx⟩:=zd si4 hk';have hxl:=hXl.out _ (zH (l:=B.ins) hk');have hsuccI:=zAI (l:=B.ins) hk';generalize B.ins.getD k default=x at *;obtain⟨a1,a2,a3,rfl⟩:=yV sxa;obtain⟨f1,f2,f3,rfl⟩:=yV sxf;refine go ?_;refine WO.al ?_;intro q h5 e5 o5;have hqn:=zDK o5;have o4':=o4.ext e5;refine go ?_;refine WO.stC0 o5 e5 ?_;intro h6 e6 o6 u6;have hn6:h5.n≤h6.n:=u6.1;have hn46:=e6.n;have sxa6:=sxa.ext e6;have sxf6:=sxf.ext e6;have o4'':=o4.ext e6;refine go ?_;refine WO.bl [] ?_;intro v7 h7 e7 o7;have o6:=o6.ext e7;have sxa7:=sxa6.ext e7;refine go ?_;refine WO.apN (h0:=h6) (.inr o7) sxa7 e7 (by simp;omega) ?_;intro v8 h8 e8 o8;rw[List.nil_append]at o8;obtain⟨b8,n8,k8,rfl⟩:=zBH o8;have o6:=(by assumption:OwnC h4 h6 q _).ext e8;refine go ?_;refine WO.stC (cs:=[.slice b8 n8 k8]) (j:=5) (hl:=by simp[zg]) o6 (e6.trans e8) ?_;intro h9 e9 o9 u9;have o8:=zAq o8 u9 (fun g e=>by have:=(hqn g e).2;omega);have sxf9:=sxf.ext e9;have hn9:h6.n≤h9.n:=by have:=e8.n;have:=u9.1;omega
   refine go ?_;refine WO.bl [] ?_;intro v10 h10 e10 o10;have o9:=o9.ext e10;have sxf10:=sxf9.ext e10;have o8:=o8.ext e10;refine go ?_;refine WO.apN (h0:=h9) (.inr o10) sxf10 e10 (by simp;omega) ?_;intro v11 h11 e11 o11;rw[List.nil_append]at o11;obtain⟨b11,n11,k11,rfl⟩:=zBH o11;have o8:=(by assumption:OwnN h6 h9 (.slice b8 n8 k8) x.args).ext e11;have o9:=(by assumption:OwnC h4 h9 q _).ext e11;refine go ?_;refine WO.stC (cs:=[.slice b11 n11 k11]) (j:=6) (hl:=by simp[zg]) o9 (e9.trans e11) ?_;intro h12 e12 o12 u12;have hn12:h9.n≤h12.n:=by have:=e11.n;have:=u12.1;omega
   have o8:=zAq o8 u12 (fun g e=>by have:=(hqn g e).2;omega);have o11:=zAq o11 u12 (fun g e=>by have:=(hqn g e).2;omega);have o12p:=o4.ext e12;have ov12:=ov.ext e12;refine go ?_;have o11':OwnN h6 h12 (.slice b11 n11 k11) x.frm:=by
    rcases o11 with o|⟨g,g1,g2⟩
    ·exact .inl o
    ·exact .inr ⟨g,by omega,g2⟩
   have hh1:=e3.n;refine WO.apR x (fun k=>h6.n≤k∧k<h12.n) ov12 (e4.trans e12) hh1 (by omega) (by decide) (by rw[List.length_take];omega) (zQC o8 o11' hla hlf ho) (fun k hk=>⟨by omega,hk.2⟩) (fun g n k e hk=>by have:=(ov.lt e).2;omega) ?_;intro v13 h13 lit e13 o13 hn13 keep13;obtain⟨b13,n13,k13,rfl⟩:=YW o13;have o13p:OwnC h1 h13 p [.slice va' vn' vk',.int .u8 B.fin.kind,I B.fin.a,I B.fin.to,I B.fin.els]:=by
    obtain⟨g,g1,g2,hg,g3⟩:=o12p;refine⟨g,g1,by omega,hg,(keep13 g g2 (fun n k e=> ?_)).trans g3⟩;have h1:=(ov.lt e).1;have h2:=(hpn g hg).2;omega
   refine go ?_;refine WO.stC (cs:=[.slice b13 n13 k13]) (j:=0) (hl:=by simp[zg]) o13p e13 ?_;intro h14 e14 o14 u14;have o13':=o13.upd (h':=h14) (fun k hk1 hk2=>u14.2 k hk2 (fun e=>by have:=(hpn k e).2;omega)) u14.1;refine go ?_;refine zA (k+1) (by omega) ⟨e14,by have:=u14.1;omega,sln,by omega,_,o14,?_⟩;rw[hsuccI];exact o13'
  ·have hkk:k=B.ins.length:=by omega
   subst hkk;rw[List.take_length]at ov;refine go ?_;have hh1:=e3.n;refine WO.apR B (fun k=>h3.n≤k∧k<h4.n) (ow.ext e4) (e1.trans e4) (Nat.le_refl _) (by have:=e1.n;omega) (by decide) (by rw[List.length_take];omega) (zOX ov hli) (fun k hk=>⟨by have:=e1.n;omega,hk.2⟩) (fun g n k e hk=>by have:=(ow.lt e).2;omega) ?_;intro v5 h5 lit e5 o5 _ _;refine go ?_;exact zA (i+1) (by omega) ⟨e5,sln,by omega,v5,sl_,by rw[hsucc];exact o5⟩
 ·have hii:i=L.length:=by omega
  subst hii;rw[List.take_length]at ow;refine gr ?_;exact⟨ow,e1⟩
def zOp:ACode:=(oV (oV (oR [oM 9 4,oF 1 10 1,oL 11 10,oQ 12 11,oB .lss 13 9 12]) (oT 13 0)) (oV (o5 1 (o6 [oF 1 16 3,oL 17 16,oF 1 18 1,oL 19 18,oM 20 4,oI 2 21 19 20,oF 0 22 21,oL 23 22,oF 1 24 1,oL 25 24,oM 26 4,oI 2 27 25 26,oF 1 28 27,oL 29 28,(o1 30 26 29,[1,3,7]),(⟨some 31,none,(.build [(.int .i64 0),(.slice none 0 0)] [(0,1,(.tmp 23)),(1,1,(.tmp 30))])⟩,[]),(⟨some 32,none,(.buildSlice 1 2 [(.int .i64 0),(.slice none 0 0)] [(0,2,(.tmp 31))])⟩,[]),oY 2 33 17 32,oF 1 34 3,oS 1 34 33])) (oR [oM 14 4,oC .add 15 14 1,oM 4 15])))
def zS3:ACode:=(oV (oR [oX 1 0,⟨some 2,none,(.alloc [(.slice none 0 0),(.slice none 0 0)])⟩]) (oV (oR [oF 0 5 1,oL 6 5,o1 7 25 6,⟨some 8,none,(.build [(.slice none 0 0),(.slice none 0 0)] [(0,1,(.tmp 7))])⟩,⟨some 3,none,(.alloc [(.slice none 0 0),(.slice none 0 0)])⟩,oS 2 3 8]) (oV (oV (oR [oN 4 0]) (o5 0 (.loop zOp))) (oV (oR [oA 2 35 3,oS 2 2 35]) .ret))))
theorem zMH (h:AHeap) (vt vf:Value) (T:List LType) (F:List LFn) (sm:Small T F) (smi:zDG F) (hm:h.mark≤h.n) (st:SlT h vt T) (sf:SlF h vf F):
  WC Tryz.prog tb 9 [.agg #[vt,vf]] h fun r h'=>(∃ vt' vf',r= .agg #[vt',vf']∧SlT h' vt' T∧SlF h' vf' F)∧Ext h h':=by
 have hT:=sm.types;have hF:=sm.funcs;obtain⟨ta,tn,tk,rfl⟩:=zF st;obtain⟨ga,gn,gk,rfl⟩:=zF sf;refine en 36 [(2,some (true,2))] zS3 ?_;refine WO.bx ?_;intro p1 h1 e1 o1;refine go ?_;refine WO.al ?_;intro p2 h2 e2 o2;have hp2:=zDK o2;have o1:=o1.ext e2;have e02:=e1.trans e2;have st2:=st.ext e02;refine go ?_;refine WO.con (zJN h2 _ T st2 (by omega) (fun x hx=>by have:=sm.parts x hx;omega)) ?_;rintro w h3 ⟨ow,e3⟩;have swT:=ow.sl;obtain⟨wa,wn,wk,rfl⟩:=YW ow;have o1:=o1.ext e3;have o2:=o2.ext e3;have e03:=e02.trans e3;have sf3:=SlF.ext sf e03;have hm3:=zp e03 hm;refine go ?_;refine WO.al ?_;intro p4 h4 e4 o4;have hpn:=zDK o4;refine go ?_;refine WO.stC0 o4 e4 ?_;intro h5 e5 o5 u5;have hn5:h4.n≤h5.n:=u5.1;have hn4:=e5.n;have o1:=o1.ext e5;have o2:=o2.ext e5;refine go ?_;refine WX.loopA [9,10,11,12,13,16,17,18,19,20,21,22,23,24,25,26,27,28,29,30,31,32,33,34,14,15,4] (by kernel_rfl) (fun i=>F.length - i) (fun i t h6=>Ext h3 h6∧h5.n≤h6.n∧zB t 4=I i∧i≤F.length∧∃ v',OwnC h3 h6 p4 [.slice wa wn wk,v']∧OwnR 2 RFn h5.n h6 v' (F.take i)) 0 ?_ ?_
 ·exact⟨e5,Nat.le_refl _,sl_,Nat.zero_le _,_,o5,OwnR.nil⟩
 rintro i t h6 hsame ⟨e6,hn6,s4,hi,v',o6,ov⟩;have o1:=(by assumption:OwnC h h3 p1 _).ext e6;have o2:=(by assumption:OwnC h1 h3 p2 _).ext e6;have sf6:=SlF.ext sf3 e6;obtain⟨va',vn',vk',rfl⟩:=YW ov;refine go ?_;refine WX.br (fun hd=> ?_) (fun hd=> ?_)<;>simp only[DB]at hd
 ·have hi':i<F.length:=by omega
  have hmem:=zH (l:=F) hi';have hsucc:=zAI (l:=F) hi';refine go ?_;refine WX.regionU2 1 rfl rfl ?_;have o1X:OwnC h (inC (zC 1 h6)) p1 [.slice ta tn tk,.slice ga gn gk]:=by have:=o1.ext (zI 1 h6);exact this
  have o6X:OwnC h3 (inC (zC 1 h6)) p4 [.slice wa wn wk,.slice va' vn' vk']:=by have:=o6.ext (zI 1 h6);exact this
  have sfX:SlF (inC (zC 1 h6)) (.slice ga gn gk) F:=by have:=SlF.ext sf6 (zI 1 h6);exact this
  obtain⟨cs,⟨vb,rfl,sb,hlb⟩,pc,hs⟩:=zd sfX hi';have hB:=sm.blocks _ hmem;have hI:=sm.ins _ hmem;have hX:=smi _ hmem;generalize F.getD i default=f at *;obtain⟨ba,bn,bk,rfl⟩:=zF sb;refine goU ?_;refine WO.con (zJl (inC (zC 1 h6)) _ f.blocks sb hB hI hX) ?_;rintro v h7 ⟨ow7,e7⟩;obtain⟨ca,cn,ck,rfl⟩:=YW ow7;refine nE e7 ?_;have hn7:h6.n+1≤h7.n:=e7.n;refine goU ?_;have hbn:(inC (zC 1 h6)).n=h6.n+1:=rfl;refine WU2.apR (hB:=h3) (p:=p4) (cells:=[.slice wa wn wk,.slice va' vn' vk']) f (fun k=>h6.n+1≤k∧k<h7.n) e7 ov e6 (by rw[e6.mark];exact hm3) (by omega) hn6 (by decide) (by rw[List.length_take];omega) o6 (fun g e=>by have:=(hpn g e).2;omega) (zRh (b:=h6.n+1) ow7 (by omega)) (fun k hk=>⟨by omega,hk.2⟩) (fun g n k e hk=>by have:=(ov.lt e).2;omega) (fun hk=>by omega) (by simp) rfl ?_;intro H v8 t8 hs8 eH oH _ ovH _ hnH;refine go ?_;exact zA (i+1) (by omega) ⟨eH,by omega,sln,by omega,v8,oH,by rw[hsucc];exact ovH⟩
 ·have hii:i=F.length:=by omega
  subst hii;rw[List.take_length]at ov;refine go ?_;refine WO.stC0 o2 (e2.trans (e3.trans e6)) ?_;intro h7 e7 o7 u7;refine gr ?_;have keep:∀ k,h2.n≤k→k<h6.n→h7.get k=h6.get k:=fun k hk1 hk2=>u7.2 k hk2 (fun e=>by
   have:=hp2 k e;omega)
  exact⟨⟨_,_,rfl,((ow.ext e6).upd keep u7.1).sl,(ov.upd (fun k hk1 hk2=>keep k (by have:=e3.n;omega) hk2) u7.1).sl⟩,e1.trans e7⟩
set_option maxRecDepth 100000
def zKX:ACode:=(oV (oV (oR [oM 11 5,oM 12 0,oQ 13 12,oB .lss 14 11 13]) (oT 14 0)) (oV (o5 1 (oV (o6 [oM 17 0,oM 18 5,oI 1 19 17 18,oL 20 19,oM 21 1,oM 22 5,oI 1 23 21 22,oL 24 23,oB .neq 25 20 24]) (oJ 25 (oV (oR [oZ 4]) .ret) .skip))) (oR [oM 15 5,oC .add 16 15 1,oM 5 16])))
def zOI:ACode:=(oV (oR [oZ 4]) (oV (oV (oR [oM 6 0,oQ 7 6,oM 8 1,oQ 9 8,oB .neq 10 7 9]) (oJ 10 (oV (oR [oZ 4]) .ret) .skip)) (oV (oV (oR [oN 5 0]) (o5 0 (.loop zKX))) (oV (oR [oK 4 (.bool true)]) .ret))))
theorem YZ (h:AHeap) (v w:Value) (a b:List Int) (sa:SlI h v a) (sb:SlI h w b) (ha:(a.length:Int)≤1000000000):
  WC Tryz.prog tb 129 [v,w] h fun r h'=>r= .bool (decide (a=b))∧h=h':=by
 refine en 26 [(4,none)] zOI ?_;by_cases hl:(a.length:Int)=(b.length:Int);case neg=>
  have hne:a≠b:=fun e=>hl (by rw[e]);refine gr ?_;exact⟨by rw[decide_eq_false hne];rfl,rfl⟩
 refine go ?_;refine WX.loopA [11,12,13,14,17,18,19,20,21,22,23,24,25,4,15,16,5] (by kernel_rfl) (fun i=>a.length - i) (fun i t h1=>h=h1∧zB t 5=I i∧i≤a.length∧Hid (∀ j,j<i→a.getD j 0=b.getD j 0)) 0 ?_ ?_
 ·exact⟨rfl,sl_,Nat.zero_le _,⟨fun j hj=>absurd hj (Nat.not_lt_zero _)⟩⟩
 rintro i t _ hsame ⟨rfl,s5,hi,hm⟩;refine go ?_;refine WX.br (fun hb=> ?_) (fun hb=> ?_)<;>simp only[DB]at hb
 ·have hi':i<a.length:=by omega
  by_cases he:a.getD i 0=b.getD i 0
  ·refine go ?_;refine zA (i+1) (by omega) ⟨rfl,sln,by omega,⟨fun j hj=> ?_⟩⟩;by_cases e:j=i
   ·subst e;exact he
   ·exact hm.out j (by omega)
  ·have hne:a≠b:=fun e=>he (by rw[e]);refine gr ?_;exact⟨by rw[decide_eq_false hne];rfl,rfl⟩
 ·have heq:a=b:=by
   refine List.ext_getElem (by omega) fun j h1 h2=> ?_;have:=hm.out j (by omega);simpa [List.getD,List.getElem?_eq_getElem h1,List.getElem?_eq_getElem h2]using this
  refine gr ?_;exact⟨by rw[decide_eq_true heq];rfl,rfl⟩
def zLc:ACode:=(oV (oV (oR [oM 70 6,oM 71 0,oM 72 5,oI 4 73 71 72,oF 3 74 73,oL 75 74,oQ 76 75,oB .lss 77 70 76]) (oT 77 2)) (oV (o5 3 (oV (o6 [oM 80 0,oM 81 5,oI 4 82 80 81,oF 3 83 82,oL 84 83,oM 85 6,oI 1 86 84 85,oL 87 86,oM 88 1,oM 89 5,oI 4 90 88 89,oF 3 91 90,oL 92 91,oM 93 6,oI 1 94 92 93,oL 95 94,oB .neq 96 87 95]) (oJ 96 (oV (oR [oZ 4]) .ret) .skip))) (oR [oM 78 6,oC .add 79 78 1,oM 6 79])))
def zL2:ACode:=(oV (oV (oR [oM 12 5,oM 13 0,oQ 14 13,oB .lss 15 12 14]) (oT 15 0)) (oV (o5 1 (oV (oV (o6 (oM 18 0::oM 19 5::oI 4 20 18 19::oF 0 21 20::oL 22 21::oM 23 1::oM 24 5::oI 4 25 23 24::oF 0 26 25::oL 27 26::oB .neq 28 22 27::oM 29 28::oH 29 (oM 30 0)::oH 29 (oM 31 5)::oH 29 (oI 4 32 30 31)::oH 29 (oF 1 33 32)::oH 29 (oL 34 33)::oH 29 (oM 35 1)::oH 29 (oM 36 5)::oH 29 (oI 4 37 35 36)::oH 29 (oF 1 38 37)::oH 29 (oL 39 38)::oH 29 (oB .neq 40 34 39)::oO 41 29 40::oM 42 41::oH 42 (oM 43 0)::oH 42 (oM 44 5)::oH 42 (oI 4 45 43 44)::oH 42 (oF 2 46 45)::oH 42 (oL 47 46)::oH 42 (oM 48 1)::oH 42 (oM 49 5)::oH 42 (oI 4 50 48 49)::oH 42 (oF 2 51 50)::oH 42 (oL 52 51)::oH 42 (oB .neq 53 47 52)::oO 54 42 53::oM 55 54::oH 55 (oM 56 0)::oH 55 (oM 57 5)::oH 55 (oI 4 58 56 57)::oH 55 (oF 3 59 58)::oH 55 (oL 60 59)::oH 55 (oQ 61 60)::oH 55 (oM 62 1)::oH 55 (oM 63 5)::oH 55 (oI 4 64 62 63)::oH 55 (oF 3 65 64)::oH 55 (oL 66 65)::oH 55 (oQ 67 66)::oH 55 (oB .neq 68 61 67)::oO 69 55 68::[])) (oJ 69 (oV (oR [oZ 4]) .ret) .skip)) (oV (oR [oN 6 0]) (o5 2 (.loop zLc))))) (oR [oM 16 5,oC .add 17 16 1,oM 5 17])))
def zSc:ACode:=(oV (oR [oZ 4]) (oV (oV (oR [oM 7 0,oQ 8 7,oM 9 1,oQ 10 9,oB .neq 11 8 10]) (oJ 11 (oV (oR [oZ 4]) .ret) .skip)) (oV (oV (oR [oN 5 0]) (o5 0 (.loop zL2))) (oV (oR [oK 4 (.bool true)]) .ret))))
theorem zKd (h:AHeap) (v w:Value) (T:List LType) (sa:SlT h v T) (sb:SlT h w T) (hT:T.length≤1000) (hp:∀ x∈T,x.parts.length≤1000):
  WC Tryz.prog tb 36 [v,w] h fun r h'=>r= .bool true∧h=h':=by
 refine en 97 [(4,none)] zSc ?_;replace hp:=Hid.mk hp;refine go ?_;refine WX.loopA [12,13,14,15,18,19,20,21,22,23,24,25,26,27,28,29,30,31,32,33,34,35,36,37,38,39,40,41,42,43,44,45,46,47,48,49,50,51,52,53,54,55,56,57,58,59,60,61,62,63,64,65,66,67,68,69,4,6,70,71,72,73,74,75,76,77,80,81,82,83,84,85,86,87,88,89,90,91,92,93,94,95,96,4,78,79,6,16,17,5] (by kernel_rfl) (fun i=>T.length - i) (fun i t h1=>h=h1∧zB t 5=I i∧i≤T.length) 0 ?_ ?_
 ·exact⟨rfl,sl_,Nat.zero_le _⟩
 rintro i t _ hsame ⟨rfl,s5,hi⟩;refine go ?_;refine WX.br (fun hb=> ?_) (fun hb=> ?_)<;>simp only[DB]at hb
 ·have hi':i<T.length:=by omega
  have hpl:=hp.out _ (zH (l:=T) hi');obtain⟨cs1,⟨va1,rfl,sa1,hla1⟩,pc1,hs1⟩:=yQ sa hi';obtain⟨cs2,⟨va2,rfl,sa2,hla2⟩,pc2,hs2⟩:=yQ sb hi';generalize T.getD i default=x at *;refine go ?_;refine WX.loopA [70,71,72,73,74,75,76,77,80,81,82,83,84,85,86,87,88,89,90,91,92,93,94,95,96,4,78,79,6] (by kernel_rfl) (fun k=>x.parts.length - k) (fun k t h1=>h=h1∧zB t 6=I k∧k≤x.parts.length) 0 ?_ ?_
  ·exact⟨rfl,sl_,Nat.zero_le _⟩
  rintro k t2 _ hsame2 ⟨rfl,s6,hk⟩;refine go ?_;refine WX.br (fun hc=> ?_) (fun hc=> ?_)<;>simp only[DB]at hc
  ·have hk':k<x.parts.length:=by omega
   refine go ?_;exact zA (k+1) (by omega) ⟨rfl,sln,by omega⟩
  ·refine go ?_;exact zA (i+1) (by omega) ⟨rfl,sln,by omega⟩
 ·refine gr ?_;exact⟨rfl,rfl⟩
def zLi:ACode:=(oV (oV (oR [oM 13 5,oM 14 0,oQ 15 14,oB .lss 16 13 15]) (oT 16 0)) (oV (o5 1 (oV (o6 [oM 19 0,oM 20 5,oI 7 21 19 20,oA 7 22 21,oM 23 1,oM 24 5,oI 7 25 23 24,oA 7 26 25,(⟨some 6,none,(.alloc [(.int .u8 0),(.int .i64 0),(.int .i64 0),(.int .i64 0),(.int .i64 0),(.slice none 0 0),(.slice none 0 0)])⟩,[]),(⟨some 7,none,(.alloc [(.int .u8 0),(.int .i64 0),(.int .i64 0),(.int .i64 0),(.int .i64 0),(.slice none 0 0),(.slice none 0 0)])⟩,[]),(oS 7 6 22,[7]),oS 7 7 26]) (oV (oR (oF 0 27 6::oL 28 27::oF 0 29 7::oL 30 29::oB .neq 31 28 30::oM 32 31::oH 32 (oF 1 33 6)::oH 32 (oL 34 33)::oH 32 (oF 1 35 7)::oH 32 (oL 36 35)::oH 32 (oB .neq 37 34 36)::oO 38 32 37::oM 39 38::oH 39 (oF 2 40 6)::oH 39 (oL 41 40)::oH 39 (oF 2 42 7)::oH 39 (oL 43 42)::oH 39 (oB .neq 44 41 43)::oO 45 39 44::oM 46 45::oH 46 (oF 3 47 6)::oH 46 (oL 48 47)::oH 46 (oF 3 49 7)::oH 46 (oL 50 49)::oH 46 (oB .neq 51 48 50)::oO 52 46 51::oM 53 52::oH 53 (oF 4 54 6)::oH 53 (oL 55 54)::oH 53 (oF 4 56 7)::oH 53 (oL 57 56)::oH 53 (oB .neq 58 55 57)::oO 59 53 58::oM 60 59::oH 60 (oF 5 61 6)::oH 60 (oL 62 61)::oH 60 (oF 5 63 7)::oH 60 (oL 64 63)::oH 60 (o2 65 129 62 64)::oH 60 (oW 66 65)::oO 67 60 66::oM 68 67::oH 68 (oF 6 69 6)::oH 68 (oL 70 69)::oH 68 (oF 6 71 7)::oH 68 (oL 72 71)::oH 68 (o2 73 129 70 72)::oH 68 (oW 74 73)::oO 75 68 74::[])) (oJ 75 (oV (oR [oZ 4]) .ret) .skip)))) (oR [oM 17 5,oC .add 18 17 1,oM 5 18])))
def zRb:ACode:=(oV (oR [oZ 4]) (oV (oV (oR [oM 8 0,oQ 9 8,oM 10 1,oQ 11 10,oB .neq 12 9 11]) (oJ 12 (oV (oR [oZ 4]) .ret) .skip)) (oV (oV (oR [oN 5 0]) (o5 0 (.loop zLi))) (oV (oR [oK 4 (.bool true)]) .ret))))
theorem zGR (h:AHeap) (v w:Value) (L:List LIns) (sa:SlN h v L) (sb:SlN h w L) (hm:h.mark≤h.n) (hL:L.length≤1000) (hX:∀ x∈L,x.args.length≤20∧x.frm.length≤20):
  WC Tryz.prog tb 76 [v,w] h fun r h'=>r= .bool true∧Ext h h':=by
 refine en 76 [(4,none)] zRb ?_;replace hX:=Hid.mk hX;refine go ?_;refine WX.loopA [13,14,15,16,19,20,21,22,23,24,25,26,6,7,27,28,29,30,31,32,33,34,35,36,37,38,39,40,41,42,43,44,45,46,47,48,49,50,51,52,53,54,55,56,57,58,59,60,61,62,63,64,65,66,67,68,69,70,71,72,73,74,75,4,17,18,5] (by kernel_rfl) (fun i=>L.length - i) (fun i t h1=>Ext h h1∧zB t 5=I i∧i≤L.length) 0 ?_ ?_
 ·exact⟨Ext.refl _,sl_,Nat.zero_le _⟩
 rintro i t h1 hsame ⟨e1,s5,hi⟩;have sa1:=SlN.ext sa e1;have sb1:=SlN.ext sb e1;have hm1:=zp e1 hm;refine go ?_;refine WX.br (fun hb=> ?_) (fun hb=> ?_)<;>simp only[DB]at hb
 ·have hi':i<L.length:=by omega
  have hxl:=hX.out _ (zH (l:=L) hi');obtain⟨aa,an,ak,hav,hab⟩:=Y0 sa1 hi';obtain⟨ba,bn,bk,hbv,hbb⟩:=Y0 sb1 hi';refine go ?_;refine WX.regionU6 (fun g=>g=h1.n∨g=h1.n+1) 2 rfl rfl ?_;have saX:SlN (inC (zC 2 h1)) v L:=by have:=SlN.ext sa1 (zI 2 h1);exact this
  have sbX:SlN (inC (zC 2 h1)) w L:=by have:=SlN.ext sb1 (zI 2 h1);exact this
  obtain⟨cs1,⟨xa,xf,rfl,sxa,sxf,hla,hlf,ho⟩,px1,hs1⟩:=zo sa1 hi';obtain⟨cs2,⟨ya,yf,rfl,sya,syf,hlb,hlg,ho2⟩,px2,hs2⟩:=zo sb1 hi';have pc1:=(px1 _ (zI 2 h1)).2;have pc2:=(px2 _ (zI 2 h1)).2;generalize L.getD i default=x at *;obtain⟨a1,a2,a3,rfl⟩:=yV sxa;obtain⟨f1,f2,f3,rfl⟩:=yV sxf;obtain⟨b1,b2,b3,rfl⟩:=yV sya;obtain⟨g1,g2,g3,rfl⟩:=yV syf;refine goV ?_;refine zMi ⟨aa,an,ak,hav,by omega⟩ ?_;refine goV ?_;refine zMi ⟨ba,bn,bk,hbv,by omega⟩ ?_;refine goV ?_;refine WU6.al2 hm1 ?_;intro h2 p q e2 op oq;have sxa2:SlI h2 (.slice a1 a2 a3) x.args:=sxa.ext e2;have sxf2:SlI h2 (.slice f1 f2 f3) x.frm:=sxf.ext e2;have sya2:SlI h2 (.slice b1 b2 b3) x.args:=sya.ext e2;have syf2:SlI h2 (.slice g1 g2 g3) x.frm:=syf.ext e2;refine go ?_;refine WO.con (YZ h2 _ _ x.args x.args sxa2 sya2 (by omega)) ?_;rintro _ _ ⟨rfl,rfl⟩;refine go ?_;refine WO.con (YZ h2 _ _ x.frm x.frm sxf2 syf2 (by omega)) ?_;rintro _ _ ⟨rfl,rfl⟩;refine go ?_;exact zA (i+1) (by omega) ⟨e1.trans e2,sln,by omega⟩
 ·refine gr ?_;exact⟨rfl,e1⟩
def zLm:ACode:=(oV (oV (oR [oM 11 5,oM 12 0,oQ 13 12,oB .lss 14 11 13]) (oT 14 0)) (oV (o5 1 (oV (o6 [oM 17 0,oM 18 5,oI 5 19 17 18,oF 1 20 19,oA 4 21 20,oM 22 1,oM 23 5,oI 5 24 22 23,oF 1 25 24,oA 4 26 25,(⟨some 27,none,(.binP .neq 48 (.tmp 21) (.tmp 26))⟩,[]),oM 28 27,oH 28 (oM 29 0),oH 28 (oM 30 5),oH 28 (oI 5 31 29 30),oH 28 (oF 0 32 31),oH 28 (oL 33 32),oH 28 (oM 34 1),oH 28 (oM 35 5),oH 28 (oI 5 36 34 35),oH 28 (oF 0 37 36),oH 28 (oL 38 37),oH 28 (o2 39 76 33 38),oH 28 (oW 40 39),oO 41 28 40]) (oJ 41 (oV (oR [oZ 4]) .ret) .skip))) (oR [oM 15 5,oC .add 16 15 1,oM 5 16])))
def zSF:ACode:=(oV (oR [oZ 4]) (oV (oV (oR [oM 6 0,oQ 7 6,oM 8 1,oQ 9 8,oB .neq 10 7 9]) (oJ 10 (oV (oR [oZ 4]) .ret) .skip)) (oV (oV (oR [oN 5 0]) (o5 0 (.loop zLm))) (oV (oR [oK 4 (.bool true)]) .ret))))
theorem zK5 (h:AHeap) (v w:Value) (L:List LBlk) (sa:SlB h v L) (sb:SlB h w L) (hm:h.mark≤h.n) (hL:L.length≤1000) (hI:∀ b∈L,b.ins.length≤1000) (hX:∀ b∈L,∀ x∈b.ins,x.args.length≤20∧x.frm.length≤20):
  WC Tryz.prog tb 37 [v,w] h fun r h'=>r= .bool true∧Ext h h':=by
 refine en 42 [(4,none)] zSF ?_;replace hI:=Hid.mk hI;replace hX:=Hid.mk hX;refine go ?_;refine WX.loopA [11,12,13,14,17,18,19,20,21,22,23,24,25,26,27,28,29,30,31,32,33,34,35,36,37,38,39,40,41,4,15,16,5] (by kernel_rfl) (fun i=>L.length - i) (fun i t h1=>Ext h h1∧zB t 5=I i∧i≤L.length) 0 ?_ ?_
 ·exact⟨Ext.refl _,sl_,Nat.zero_le _⟩
 rintro i t h1 hsame ⟨e1,s5,hi⟩;have sa1:=SlB.ext sa e1;have sb1:=SlB.ext sb e1;refine go ?_;refine WX.br (fun hb=> ?_) (fun hb=> ?_)<;>simp only[DB]at hb
 ·have hi':i<L.length:=by omega
  have hmem:=zH (l:=L) hi';have hIl:=hI.out _ hmem;have hXl:=hX.out _ hmem;refine go ?_;refine WX.regionU2 0 rfl rfl ?_;have saX:SlB (inC (zC 0 h1)) v L:=sa1;have sbX:SlB (inC (zC 0 h1)) w L:=sb1;obtain⟨cs1,⟨v1,rfl,sn1,hl1⟩,pc1,hs1⟩:=zd saX hi';obtain⟨cs2,⟨v2,rfl,sn2,hl2⟩,pc2,hs2⟩:=zd sbX hi';generalize L.getD i default=B at *;obtain⟨a1,a2,a3,rfl⟩:=zF sn1;obtain⟨b1,b2,b3,rfl⟩:=zF sn2;refine goU ?_;refine WO.bp (zRY (xs:=#[.int .u8 B.fin.kind,I B.fin.a,I B.fin.to,I B.fin.els]) (ys:=#[.int .u8 B.fin.kind,I B.fin.a,I B.fin.to,I B.fin.els]) (b:=true) (by kernel_rfl) (by simp[Yv,zDc,I])) ?_;refine nQ ?_;refine goU ?_;refine WO.con (zGR _ _ _ B.ins sn1 sn2 (Nat.le_refl _) hIl hXl) ?_;rintro _ h2 ⟨rfl,e2⟩;refine nE e2 ?_;refine goU ?_;have e3:Ext h1 (outC h1 (inC h2)):=e2.reg;refine go ?_;exact zA (i+1) (by omega) ⟨e1.trans e3,sln,by omega⟩
 ·refine gr ?_;exact⟨rfl,e1⟩
def zNQ:ACode:=(oV (oV (oR [oM 21 5,oF 1 22 2,oL 23 22,oQ 24 23,oB .lss 25 21 24]) (oT 25 0)) (oV (o5 1 (oV (o6 [oF 1 28 2,oL 29 28,oM 30 5,oI 2 31 29 30,oF 0 32 31,oL 33 32,oF 1 34 3,oL 35 34,oM 36 5,oI 2 37 35 36,oF 0 38 37,oL 39 38,oB .neq 40 33 39,oM 41 40,oH 41 (oF 1 42 2),oH 41 (oL 43 42),oH 41 (oM 44 5),oH 41 (oI 2 45 43 44),oH 41 (oF 1 46 45),oH 41 (oL 47 46),oH 41 (oF 1 48 3),oH 41 (oL 49 48),oH 41 (oM 50 5),oH 41 (oI 2 51 49 50),oH 41 (oF 1 52 51),oH 41 (oL 53 52),oH 41 (o2 54 37 47 53),oH 41 (oW 55 54),oO 56 41 55]) (oJ 56 (oV (oR [oZ 4]) .ret) .skip))) (oR [oM 26 5,oC .add 27 26 1,oM 5 27])))
def zRg:ACode:=(oV (oR [oX 2 0,oX 3 1,oZ 4]) (oV (oV (oR [oF 1 6 2,oL 7 6,oQ 8 7,oF 1 9 3,oL 10 9,oQ 11 10,oB .neq 12 8 11,oM 13 12,oH 13 (oF 0 14 2),oH 13 (oL 15 14),oH 13 (oF 0 16 3),oH 13 (oL 17 16),oH 13 (o2 18 36 15 17),oH 13 (oW 19 18),oO 20 13 19]) (oJ 20 (oV (oR [oZ 4]) .ret) .skip)) (oV (oV (oR [oN 5 0]) (o5 0 (.loop zNQ))) (oV (oR [oK 4 (.bool true)]) .ret))))
theorem zMF (h:AHeap) (vt vf wt wf:Value) (T:List LType) (F:List LFn) (sm:Small T F) (smi:zDG F) (hm:h.mark≤h.n) (st:SlT h vt T) (sf:SlF h vf F) (st2:SlT h wt T) (sf2:SlF h wf F):
  WC Tryz.prog tb 14 [.agg #[vt,vf],.agg #[wt,wf]] h fun r h'=>r= .bool true∧Ext h h':=by
 have hT:=sm.types;have hF:=sm.funcs;obtain⟨ta,tn,tk,rfl⟩:=zF st;obtain⟨ga,gn,gk,rfl⟩:=zF sf;obtain⟨ua,un,uk,rfl⟩:=zF st2;obtain⟨za,zn,zk,rfl⟩:=zF sf2;refine en 57 [(4,none)] zRg ?_;refine WO.bx ?_;intro p h1 e1 o1;refine go ?_;refine WO.bx ?_;intro q h2 e2 o2;have o1:=o1.ext e2;have e12:=e1.trans e2;have st_2:=st.ext e12;have sf_2:=SlF.ext sf e12;have st2_2:=st2.ext e12;have sf2_2:=SlF.ext sf2 e12;have hm2:=zp e12 hm;refine go ?_;refine WO.con (zKd h2 _ _ T st_2 st2_2 (by omega) (fun x hx=>by have:=sm.parts x hx;omega)) ?_;rintro _ _ ⟨rfl,rfl⟩;refine go ?_;refine WX.loopA [21,22,23,24,25,28,29,30,31,32,33,34,35,36,37,38,39,40,41,42,43,44,45,46,47,48,49,50,51,52,53,54,55,56,4,26,27,5] (by kernel_rfl) (fun i=>F.length - i) (fun i t h3=>Ext h2 h3∧zB t 5=I i∧i≤F.length) 0 ?_ ?_
 ·exact⟨Ext.refl _,sl_,Nat.zero_le _⟩
 rintro i t h3 hsame ⟨e3,s5,hi⟩;have o1:=o1.ext e3;have o2:=o2.ext e3;have sf3:=SlF.ext sf_2 e3;have sf23:=SlF.ext sf2_2 e3;refine go ?_;refine WX.br (fun hb=> ?_) (fun hb=> ?_)<;>simp only[DB]at hb
 ·have hi':i<F.length:=by omega
  have hmem:=zH (l:=F) hi';have hB:=sm.blocks _ hmem;have hI:=sm.ins _ hmem;have hX:=smi _ hmem;refine go ?_;refine WX.regionU2 0 rfl rfl ?_;have o1X:OwnC h (inC (zC 0 h3)) p [_,_]:=o1;have o2X:OwnC h1 (inC (zC 0 h3)) q [_,_]:=o2;have saX:SlF (inC (zC 0 h3)) _ F:=sf3;have sbX:SlF (inC (zC 0 h3)) _ F:=sf23;obtain⟨cs1,⟨v1,rfl,sn1,hl1⟩,pc1,hs1⟩:=zd saX hi';obtain⟨cs2,⟨v2,rfl,sn2,hl2⟩,pc2,hs2⟩:=zd sbX hi';generalize F.getD i default=f at *;obtain⟨a1,a2,a3,rfl⟩:=zF sn1;obtain⟨b1,b2,b3,rfl⟩:=zF sn2;refine goU ?_;refine WO.con (zK5 _ _ _ f.blocks sn1 sn2 (Nat.le_refl _) hB hI hX) ?_;rintro _ h4 ⟨rfl,e4⟩;refine nE e4 ?_;refine goU ?_;have e5:Ext h3 (outC h3 (inC h4)):=e4.reg;refine go ?_;exact zA (i+1) (by omega) ⟨e3.trans e5,sln,by omega⟩
 ·refine gr ?_;exact⟨rfl,e12.trans e3⟩
inductive Rch (nx:Int→List Int) (first:List Int) (but:Int):Int→Prop
 |here {a:Int}:a∈first→a≠but→Rch nx first but a
 |step {b c:Int}:Rch nx first but b→c∈nx b→c≠but→Rch nx first but c
theorem Rch.way {nx:Int→List Int} {first:List Int} {but c:Int} (h:Rch nx first but c):∃ a∈first,Way nx a c:=by
 induction h with
 |here h _=>exact⟨_,h,.here⟩
 |step _ hc _ ih=>obtain⟨a,h1,h2⟩:=ih;exact⟨a,h1,.step h2 hc⟩
theorem Rch.in {nx:Int→List Int} {first:List Int} {but c:Int} {N:Nat} (hin:∀ b,0≤b∧b<(N:Int)→∀ c∈nx b,0≤c∧c<(N:Int)) (hf:∀ a∈first,0≤a∧a<(N:Int)) (h:Rch nx first but c):0≤c∧c<(N:Int):=by
 induction h with
 |here h _=>exact hf _ h
 |step _ hc _ ih=>exact hin _ ih _ hc
theorem zIz {nx:Int→List Int} {first:List Int} {c:Int} {N:Nat} (hin:∀ b,0≤b∧b<(N:Int)→∀ c∈nx b,0≤c∧c<(N:Int)) (hf:∀ a∈first,0≤a∧a<(N:Int)):Rch nx first (-1) c↔∃ a∈first,Way nx a c:=by
 refine⟨Rch.way,fun hh=> ?_⟩;obtain⟨a,h1,h2⟩:=hh;have:Rch nx first (-1) c∧0≤c∧c<(N:Int):=by
  induction h2 with
  |here=>exact⟨.here h1 (by have:=hf a h1;omega),hf a h1⟩
  |step _ hc ih=>
   have:=hin _ ih.2 _ hc;exact⟨.step ih.1 hc (by omega),this⟩
 exact this.1
abbrev bO (bs:List Bool) (j:Int):Bool:=bs.getD j.toNat false
theorem zMl {bs:List Bool} {j c:Int} {b:Bool} (hc:0≤c∧c<(bs.length:Int)) (hj:0≤j):bO (bs.set c.toNat b) j=if j=c then b else bO bs j:=by
 unfold bO;rw[List.getD_eq_getElem?_getD,List.getElem?_set];by_cases e:j=c
 ·subst e;rw[if_pos rfl,if_pos (by omega),if_pos rfl];rfl
 ·rw[if_neg (by omega),if_neg e,List.getD_eq_getElem?_getD]
theorem zEu {xs ys:List Bool} (hl:xs.length=ys.length) (h:∀ j:Int,0≤j∧j<(xs.length:Int)→bO xs j=bO ys j):xs=ys:=by
 refine List.ext_getElem hl fun j h1 h2=> ?_;have:=h (j:Int) (by omega);simpa [bO,List.getD,List.getElem?_eq_getElem h1,List.getElem?_eq_getElem h2]using this
def zRN (nx:Int→List Int) (but:Int) (bs:List Bool) (j:Int):Prop:=bO bs j=true→∀ c∈nx j,c≠but→bO bs c=true
def Cl (nx:Int→List Int) (but:Int) (bs:List Bool):Prop:=∀ j:Int,0≤j∧j<(bs.length:Int)→zRN nx but bs j
structure Swp (nx:Int→List Int) (first:List Int) (but:Int) (N:Nat) (bs0 bs:List Bool) (i:Nat):Prop where
 len0:bs0.length=N
 len:bs.length=N
 le:∀ j:Int,0≤j→bO bs0 j=true→bO bs j=true
 sound:∀ j:Int,0≤j→bO bs j=true→Rch nx first but j
 cl:Cl nx but bs0→bs=bs0
 fix:bs=bs0→∀ j:Int,0≤j∧j<(i:Int)→zRN nx but bs j
theorem Swp.start {nx:Int→List Int} {first:List Int} {but:Int} {N:Nat} {bs:List Bool} (hl:bs.length=N) (hs:∀ j:Int,0≤j→bO bs j=true→Rch nx first but j):Swp nx first but N bs bs 0:=
 ⟨hl,hl,fun _ _ h=>h,hs,fun _=>rfl,fun _ j hj=>by omega⟩
theorem Swp.add {nx:Int→List Int} {first:List Int} {but:Int} {N i:Nat} {bs0 bs:List Bool} {c:Int} (s:Swp nx first but N bs0 bs i) (hi:bO bs i=true) (hc:c∈nx i) (hin:0≤c∧c<(N:Int)) (hiN:i<N):
  Swp nx first but N bs0 (bs.set c.toNat (bO bs c|| !decide (c=but))) i∧(bs.set c.toNat (bO bs c|| !decide (c=but))=bs0→bs=bs0)∧bO (bs.set c.toNat (bO bs c|| !decide (c=but))) i=true∧(c≠but→bO (bs.set c.toNat (bO bs c|| !decide (c=but))) c=true):=by
 have hlc:0≤c∧c<(bs.length:Int):=by rw[s.len];exact hin
 have get:∀ j:Int,0≤j→bO (bs.set c.toNat (bO bs c|| !decide (c=but))) j=if j=c then (bO bs c|| !decide (c=but)) else bO bs j:=fun j hj=>zMl hlc hj;have up:∀ j:Int,0≤j→bO bs j=true→bO (bs.set c.toNat (bO bs c|| !decide (c=but))) j=true:=fun j hj h=>by
  rw[get j hj];split
  ·rename_i e;subst e;rw[h];rfl
  ·exact h
 have back:bs.set c.toNat (bO bs c|| !decide (c=but))=bs0→bs=bs0:=fun e=>by
  refine zEu (by rw[s.len,s.len0]) fun j hj=> ?_;cases h1:bO bs j with
  |true=>have:=up j hj.1 h1;rw[e]at this;exact this.symm
  |false=>
   cases h2:bO bs0 j with
   |false=>rfl
   |true=>rw[s.le j hj.1 h2]at h1;cases h1
 refine⟨⟨s.len0,by rw[List.length_set];exact s.len,fun j hj h=>up j hj (s.le j hj h),fun j hj h=> ?_,fun h=> ?_,fun e j hj=> ?_⟩,back,up i (by omega) hi,fun h=> ?_⟩
 ·rw[get j hj]at h;split at h
  ·rename_i e;subst e;rw[Bool.or_eq_true]at h;rcases h with h|h
   ·exact s.sound _ hj h
   ·exact .step (s.sound i (by omega) hi) hc (by simpa using h)
  ·exact s.sound j hj h
 ·have e:=s.cl h;subst e;refine zEu (by rw[List.length_set]) fun j hj=> ?_;rw[List.length_set]at hj;rw[get j hj.1];split
  ·rename_i e;subst e;by_cases hb:j=but
   ·simp[hb]
   ·rw[h i (by rw[s.len];omega) hi j hc hb];rfl
  ·rfl
 ·have e2:=back e;have:=s.fix e2 j hj;subst e2;rw[e];exact this
 ·rw[get c hin.1,if_pos rfl];simp[h]
theorem Swp.next {nx:Int→List Int} {first:List Int} {but:Int} {N i:Nat} {bs0 bs:List Bool} (s:Swp nx first but N bs0 bs i) (h:bs=bs0→zRN nx but bs i):Swp nx first but N bs0 bs (i+1):=
 ⟨s.len0,s.len,s.le,s.sound,s.cl,fun e j hj=>by
  by_cases hji:j=i
  ·rw[hji];exact h e
  ·exact s.fix e j (by omega)⟩
def zJ0 (bs:List Bool):Nat:=bs.countP id
theorem zOR {xs ys:List Bool} (hl:xs.length=ys.length) (hle:∀ j:Int,0≤j→bO xs j=true→bO ys j=true) (hne:xs≠ys):zJ0 xs<zJ0 ys:=by
 unfold zJ0;induction xs generalizing ys with
 |nil=>cases ys with
  |nil=>exact absurd rfl hne
  |cons=>cases hl
 |cons x xs ih=>
  cases ys with
  |nil=>cases hl
  |cons y ys=>
   have hle':∀ j:Int,0≤j→bO xs j=true→bO ys j=true:=fun j hj h=>by
    have:=hle (j+1) (by omega);have e:(j+1).toNat=j.toNat+1:=by omega
    unfold bO at this h ⊢;rw[e]at this;simpa [List.getD]using this (by simpa [List.getD]using h)
   have h0:x=true→y=true:=fun h=>by have:=hle 0 (Int.le_refl _);simpa [bO,List.getD,h]using this
   have hlen:xs.length=ys.length:=by simpa using hl
   have mono:∀ {ps qs:List Bool},ps.length=qs.length→(∀ j:Int,0≤j→bO ps j=true→bO qs j=true)→ps.countP id≤qs.countP id:=by
    intro ps;induction ps with
    |nil=>intro qs _ _;simp
    |cons a ps iha=>
     intro qs hl2 h2;cases qs with
     |nil=>cases hl2
     |cons b qs=>
      have h3:∀ j:Int,0≤j→bO ps j=true→bO qs j=true:=fun j hj h=>by
       have:=h2 (j+1) (by omega);have e:(j+1).toNat=j.toNat+1:=by omega
       unfold bO at this h ⊢;rw[e]at this;simpa [List.getD]using this (by simpa [List.getD]using h)
      have h4:a=true→b=true:=fun h=>by have:=h2 0 (Int.le_refl _);simpa [bO,List.getD,h]using this
      have:=iha (by simpa using hl2) h3;simp only[List.countP_cons,id];cases a with
      |true=>rw[h4 rfl];omega
      |false=>cases b<;>simp<;>omega
   have hm:=mono hlen hle';simp only[List.countP_cons,id];by_cases hxy:x=y
   ·subst hxy;have:=ih hlen hle' (fun e=>hne (by rw[e]));omega
   ·cases x with
    |true=>exact absurd (h0 rfl).symm hxy
    |false=>
     cases y with
     |true=>simp;omega
     |false=>exact absurd rfl hxy
theorem zNJ {bs:List Bool} (h:bs.length≤zJ0 bs) {j:Int} (hj:0≤j∧j<(bs.length:Int)):bO bs j=true:=by
 unfold zJ0 at h;have h2:bs.countP id=bs.length:=Nat.le_antisymm List.countP_le_length h;rw[List.countP_eq_length]at h2;have hi:j.toNat<bs.length:=by omega
 have:=h2 (bs[j.toNat]) (List.getElem_mem hi);simpa [bO,List.getD,List.getElem?_eq_getElem hi]using this
structure Rds (nx:Int→List Int) (first:List Int) (but:Int) (N:Nat) (bs:List Bool) (n:Nat):Prop where
 len:bs.length=N
 sound:∀ j:Int,0≤j→bO bs j=true→Rch nx first but j
 init:∀ a∈first,a≠but→bO bs a=true
 cl:Cl nx but bs∨n≤zJ0 bs
theorem Rds.next {nx:Int→List Int} {first:List Int} {but:Int} {N n:Nat} {bs0 bs:List Bool} (hf:∀ a∈first,0≤a) (r:Rds nx first but N bs0 n) (s:Swp nx first but N bs0 bs N):Rds nx first but N bs (n+1):=by
 refine⟨s.len,s.sound,fun a ha hb=>s.le a (hf a ha) (r.init a ha hb),?_⟩;by_cases e:bs=bs0
 ·left;intro j hj;exact s.fix e j (by rw[s.len]at hj;exact hj)
 ·right;rcases r.cl with h|h
  ·exact absurd (s.cl h) e
  ·have:=zOR (by rw[s.len,s.len0]) s.le (Ne.symm e);omega
theorem Rds.done {nx:Int→List Int} {first:List Int} {but:Int} {N:Nat} {bs:List Bool} (hin:∀ b,0≤b∧b<(N:Int)→∀ c∈nx b,0≤c∧c<(N:Int)) (hf:∀ a∈first,0≤a∧a<(N:Int)) (r:Rds nx first but N bs N) (j:Int) (hj:0≤j∧j<(N:Int)):bO bs j=true↔Rch nx first but j:=by
 refine⟨r.sound j hj.1,fun h=> ?_⟩;have hcl:Cl nx but bs:=by
  rcases r.cl with h|h
  ·exact h
  ·intro i hi _ c hc _;rw[r.len]at hi;exact zNJ (by rw[r.len];exact h) (by rw[r.len];exact hin i hi c hc)
 clear hj;induction h with
 |here ha hb=>exact r.init _ ha hb
 |step hb hc hne ih=>exact hcl _ (by rw[r.len];exact hb.in hin hf) ih _ hc hne
end
end Go.Proofs.YteekipjpghikkaaGreatDoor
