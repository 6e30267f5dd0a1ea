/- What functions of the program come to in the abstract machine, and plain laws about it; no statement of the seat is proved in this text. -/
import Derived.Test.YteekipjpghikkaaGreatDoorJj
import Derived.Test.YteekipjpghikkaaGreatDoorJb
import Derived.Test.YteekipjpghikkaaGreatDoorJa
import Derived.Test.YteekipjpghikkaaGreatDoorAmE
set_option linter.unusedVariables false
set_option linter.unusedSimpArgs false
set_option maxHeartbeats 2000000
namespace Go.Proofs.YteekipjpghikkaaGreatDoor
open Go.Am
set_option maxRecDepth 100000
theorem zDF {T:List LType} {t:Int} (h:InT T t) (hn:t≠ -1):ZB (T.getD t.toNat default)=true↔PlT T t:=by
 obtain⟨h0,h1⟩:=h.resolve_left hn;unfold ZB PlT;simp only[Bool.and_eq_true,decide_eq_true_eq];constructor
 ·intro q;exact⟨h0,h1,by omega⟩
 ·intro q;have:=q.2.2;omega
noncomputable def zQH:ACode:=(oV (oR [oN 4 0]) (oV (oV (oR [oM 6 0,o1 7 62 6,oM 5 7]) (oV (oR [oM 8 5,oC .neq 9 8 0]) (oJ 9 (oV (oR [oM 10 5,oM 4 10]) .ret) .skip))) (oV (oV (oR [oM 11 0,oQ 12 11,oM 13 1,⟨some 14,none,(.buildSlice 1 1 [(.int .i64 0)] [(0,1,(.tmp 13))])⟩,o2 15 77 12 14,oW 16 15]) (oJ 16 (oV (oR [oN 4 2]) .ret) .skip)) (oV (oR [oN 4 0]) .ret))))
theorem zKW (h:AHeap) (vt:Value) (T:List LType) (k:Int) (st:SlT h vt T) (hT:T.length≤100) (hp:∀ x∈T,x.parts.length≤100) (hc:yj T=0) (hk:0≤k∧k<(T.length:Int)):
  WC Tryz.prog tb 41 [vt,I k] h fun r h'=>r=I 0∧Ext h h':=by
 obtain⟨t1,t2,t3,rfl⟩:=zn st;have ht:yU (T.length:Int) [k]=true:=by unfold yU;simp[hk.1,hk.2]
 refine en 17 [(4,none)] zQH ?_;refine WO.con (zGW h _ T st hT hp) ?_;rintro _ h2 ⟨rfl,e2⟩;rw[hc];have st2:=SlT.ext st e2;refine go ?_;refine WO.bl [k] ?_;intro v3 h3 e3 o3;refine go ?_;refine WO.con (zAG h3 v3 (T.length:Int) [k] o3.sl (by simp)) ?_;rintro _ h4 ⟨rfl,e4⟩;rw[ht];refine gr ?_;exact⟨rfl,e2.trans (e3.trans e4)⟩
noncomputable def zQQ:ACode:=(oV (oR [oZ 4,oN 5 0]) (oV (oV (oR [oM 7 0,oM 8 1,o2 9 41 7 8,oM 6 9]) (oV (oR [oM 10 6,oC .neq 11 10 0]) (oJ 11 (oV (oR [oM 12 6,oZ 4,oM 5 12]) .ret) .skip))) (oV (oR [oM 13 0,oM 14 1,oI 4 15 13 14,oA 4 16 15,o1 17 42 16,oM 4 17,oN 5 0]) .ret)))
theorem zA6 (h:AHeap) (vt:Value) (T:List LType) (k:Int) (st:SlT h vt T) (hT:T.length≤100) (hp:∀ x∈T,x.parts.length≤100) (hc:yj T=0) (hk:0≤k∧k<(T.length:Int)):
  WC Tryz.prog tb 17 [vt,I k] h fun r h'=>r= .tuple #[.bool (ZB (T.getD k.toNat default)),I 0]∧Ext h h':=by
 obtain⟨t1,t2,t3,rfl⟩:=zn st;refine en 18 [(4,none),(5,none)] zQQ ?_;refine WO.con (zKW h _ T k st hT hp hc hk) ?_;rintro _ h2 ⟨rfl,e2⟩;have st2:=SlT.ext st e2;obtain⟨cs,⟨va,rfl,sa,hla⟩,pc,hs⟩:=Zg (i:=k.toNat) st2 (by omega);obtain⟨a1,a2,a3,rfl⟩:=SlC.shape sa;refine go ?_;refine WO.con (zD2 h2 (T.getD k.toNat default) _) ?_;rintro _ h3 ⟨rfl,e3⟩;refine gr ?_;exact⟨rfl,e2.trans e3⟩
noncomputable def zRF:ACode:=(oV (oR [oX 3 0,oZ 6]) (oV (oR [⟨some 15,none,(.call (.func 15) [])⟩,oM 7 15]) (oV (oV (oR [oA 2 16 3,⟨some 17,none,(.call (.func 8) [(.tmp 16),(.const (.int .i64 150))])⟩,oM 18 17,oH 18 (oM 19 7),oH 18 (oW 20 19),oO 21 18 20]) (oJ 21 (oV (oR [oM 22 7,oM 6 22]) .ret) .skip)) (oV (oR [oA 2 24 3,oM 25 1,oM 26 2,o3 27 10 24 25 26,oM 23 27,oE 28 23 0,oE 29 23 1,oM 8 28,oM 9 29]) (oV (oR [oA 2 31 3,oM 32 1,oM 33 2,o3 34 16 31 32 33,oM 30 34,oE 35 30 0,oE 36 30 1,oE 37 30 2,oM 10 35,oM 11 36,oM 12 37]) (oV (oV (oR [oM 38 9,oC .neq 39 38 0,oM 40 39,oG 40 (oM 41 9),oG 40 (oC .neq 42 41 6),oP 43 40 42,oM 44 43,oH 44 (oM 45 12),oH 44 (oC .neq 46 45 0),oO 47 44 46]) (oJ 47 (oV (oR [oM 48 7,oM 49 48,oG 49 (oM 50 8),oG 49 (oC .eql 51 50 0),oP 52 49 51,oM 6 52]) .ret) .skip)) (oV (oR [oF 0 54 3,oL 55 54,oM 56 8,o2 57 17 55 56,oM 53 57,oE 58 53 0,oE 59 53 1,oM 13 58,oM 14 59]) (oV (oR (oM 60 7::oM 61 60::oG 61 (oM 62 9)::oG 61 (oC .eql 63 62 0)::oG 61 (oM 64 10)::oG 61 (oC .lss 65 64 0)::oG 61 (oM 66 65)::oH 66 (oF 1 67 3)::oH 66 (oL 68 67)::oH 66 (oM 69 1)::oH 66 (oI 2 70 68 69)::oH 66 (oF 1 71 70)::oH 66 (oL 72 71)::oH 66 (oM 73 10)::oH 66 (oI 5 74 72 73)::oH 66 (oF 0 75 74)::oH 66 (oL 76 75)::oH 66 (oM 77 11)::oH 66 (oI 7 78 76 77)::oH 66 (oF 0 79 78)::oH 66 (oL 80 79)::oH 66 (o1 81 18 80)::oG 61 (oO 82 66 81)::⟨some 83,some (61,true),(.binB false (.tmp 63) (.tmp 82))⟩::oP 84 61 83::oM 85 84::oG 85 (oM 86 9)::oG 85 (oC .neq 87 86 0)::oG 85 (oM 88 87)::oH 88 (oM 89 14)::oH 88 (oC .eql 90 89 0)::oH 88 (oM 91 90)::oG 91 (oM 92 13)::oH 88 (oP 93 91 92)::oG 85 (oO 94 88 93)::oP 95 85 94::oM 6 95::[])) .ret))))))))
theorem zCW (h:AHeap) (vt vf:Value) (T:List LType) (F:List LFn) (f r:Int) (tt:Tbl h) (hm:h.mark≤h.n) (st:SlT h vt T) (sf:SlF h vf F) (hT:(T.length:Int)≤1152921504606846976) (hF:(F.length:Int)≤1152921504606846976)
  (hal:∀ h',Ext h h'→WC Tryz.prog tb 15 [] h' fun r h''=>r= .bool true∧h'=h''):WC Tryz.prog tb 4 [.agg #[vt,vf],I f,I r] h fun r h'=>r= .bool true:=by
 refine en 96 [(6,none)] zRF ?_;refine WO.bx ?_;intro p h1 e1 o1;refine go ?_;refine WO.con (hal h1 e1) ?_;rintro _ _ ⟨rfl,rfl⟩;refine go ?_;refine WO.con (zJJ h1 vt vf T F 150 (by omega) (st.ext e1) (SlF.ext sf e1) (by omega) (by omega)) ?_;rintro rr h2 ⟨hr,e2⟩;have o1:=o1.ext e2;rcases hr with rfl|⟨rfl,sm,si⟩
 ·refine gr ?_;rfl
 have E:Env h2 vt vf T F:=⟨(tt.ext e1).ext e2,yA e2 (yA e1 hm),sm,(st.ext e1).ext e2,SlF.ext (SlF.ext sf e1) e2⟩;clear st sf tt hm e1 e2 hal;replace o1:OwnC h h2 p [vt,vf]:=o1;refine go ?_;refine WO.con (zLc h2 vt vf T F f r E) ?_;rintro _ h3 ⟨rfl,e3⟩;have o1:=o1.ext e3;have E:=E.ext e3;refine go ?_;refine WO.con (zGX h3 vt vf T F f r E) ?_;rintro _ h4 ⟨rfl,e4⟩;have o1:=o1.ext e4;have E:=E.ext e4;unfold zIR;by_cases hs:Z4 T F=0;case neg=>
  have hs':Z4 T F≠0:=hs;have h6:Z4 T F≠6:=by
   unfold Z4;split
   ·rename_i hp;intro e;unfold ZF at e;split at e
    ·rename_i hc;rw[zDn]at e;split at e
     ·omega
     ·split at e<;>omega
    ·split at e<;>omega
   ·split<;>omega
  rw[if_pos hs];refine gr ?_;rfl
 obtain⟨hp,hw⟩:=zCw hs;rw[if_neg (fun e=>e hs)];have hpl:=zEQ (f:=f) (r:=r) hp;by_cases hq:(yz T F f r).2.2=0;case neg=>
  have hq':(yz T F f r).2.2≠0:=hq;rw[if_pos hq];by_cases h6:(yz T F f r).2.2=6
  ·refine gr ?_;rfl
  ·have h6':(yz T F f r).2.2≠6:=h6;refine gr ?_;rfl
 rw[if_neg (fun e=>e hq)];have hin:¬(f<0∨(F.length:Int)≤f∨r<0∨zBN ((yM T F f).parts.length:Int) (zV F f)≤r):=fun hb=>by
  rw[hpl,if_pos hb]at hq;cases hq
 have hf:0≤f∧f<(F.length:Int):=by omega
 have Z:=zMe hp hf;have hreg:=Z.reg;have hn16:=Z.n16;have hT1:1≤T.length:=by have:=Z.sig;omega
 have hks:=zIx hp hw hf (by omega) (show r<_ by omega);have hkin:=Z.ks _ (z8 (l:=ksF T F f) (i:=r.toNat) (by omega));rw[if_neg hin]at hpl;rw[hpl];by_cases hr:r<((yM T F f).parts.length:Int)
 ·rw[if_pos hr]at hks ⊢;obtain⟨k,hk⟩:∃ k,(ksF T F f).getD r.toNat 0=k:=⟨_,rfl⟩;rw[hk]at hks hkin ⊢;have hk1:k≠ -1:=by have:=hks.1;omega
  have hsc:=(zDF hkin hk1).2 hks;rw[if_neg hk1];have st4:=E.st;dsimp only;refine go ?_;refine WO.con (zA6 h4 vt T k st4 sm.types sm.parts Z.hc ⟨hks.1,hks.2.1⟩) ?_;rintro _ h5 ⟨rfl,e5⟩;rw[hsc];refine go ?_;rw[show (decide ((0:Int)=0) == true)=true from rfl];refine gr ?_;rfl
 ·rw[if_neg hr]at hks ⊢;obtain⟨⟨a0,a1⟩,b0,b1⟩:=zD3 (T:=T) (F:=F) (f:=f) (r:=r) (by omega) (by omega);generalize zW (zV F f) (r - ((yM T F f).parts.length:Int))=w at *;obtain⟨wb,wi⟩:=w;simp only at a0 a1 b0 b1 hks ⊢;have hLb:(F.getD f.toNat default).blocks=zV F f:=rfl;obtain⟨k,hk⟩:∃ k,(ksF T F f).getD r.toNat 0=k:=⟨_,rfl⟩;rw[hk]at hks hkin ⊢;cases hans:(ze (((zV F f).getD wb.toNat default).ins.getD wi.toNat default).op).2.2.2.2.2 with
  |true=>
   rw[hans,if_pos rfl]at hks;have hk1:k≠ -1:=by have:=hks.1;omega
   have hsc:=(zDF hkin hk1).2 hks;rw[if_neg hk1];have st4:=E.st;dsimp only;refine go ?_;refine WO.con (zA6 h4 vt T k st4 sm.types sm.parts Z.hc ⟨hks.1,hks.2.1⟩) ?_;rintro _ h5 ⟨rfl,e5⟩;rw[hsc];have o5:=o1.ext e5;have E5:=E.ext e5;have sf5:=E5.sf;obtain⟨cs,⟨vb,rfl,sb,hlb⟩,pc,hs⟩:=yQ (i:=f.toNat) sf5 (by omega);have sb:SlB h5 vb (zV F f):=sb;obtain⟨csb,⟨vi,rfl,si,hli⟩,pcb,hsb⟩:=yQ (i:=wb.toNat) sb (by omega);obtain⟨csi,⟨xa,xf,rfl,sxa,sxf,hla,hlf,ho⟩,pci,hsi⟩:=yQ (i:=wi.toNat) si (by omega);generalize ((zV F f).getD wb.toNat default).ins.getD wi.toNat default=x at *;refine go ?_;refine WO.con (zAJ h5 x.op E5.tt ho.1 ho.2) ?_;rintro _ h6 ⟨rfl,e6⟩;rw[hans];refine go ?_;rw[show (decide ((0:Int)=0) == true)=true from rfl];refine gr ?_;rfl
  |false=>
   rw[hans]at hks;simp only[Bool.false_eq_true,if_false]at hks;rw[if_pos hks];have st4:=E.st;dsimp only;refine go ?_;refine WO.con (zA6 h4 vt T 0 st4 sm.types sm.parts Z.hc ⟨Int.le_refl 0,by omega⟩) ?_;rintro _ h5 ⟨rfl,e5⟩;have o5:=o1.ext e5;have E5:=E.ext e5;have sf5:=E5.sf;obtain⟨cs,⟨vb,rfl,sb,hlb⟩,pc,hs⟩:=yQ (i:=f.toNat) sf5 (by omega);have sb:SlB h5 vb (zV F f):=sb;obtain⟨csb,⟨vi,rfl,si,hli⟩,pcb,hsb⟩:=yQ (i:=wb.toNat) sb (by omega);obtain⟨csi,⟨xa,xf,rfl,sxa,sxf,hla,hlf,ho⟩,pci,hsi⟩:=yQ (i:=wi.toNat) si (by omega);generalize ((zV F f).getD wb.toNat default).ins.getD wi.toNat default=x at *;refine go ?_;refine WO.con (zAJ h5 x.op E5.tt ho.1 ho.2) ?_;rintro _ h6 ⟨rfl,e6⟩;rw[hans];refine go ?_;rw[show (decide ((6:Int)=0) == false)=true from rfl];refine gr ?_;rfl
theorem zDr (h:AHeap) (vt vf:Value) (T:List LType) (F:List LFn) (f r:Int) (tt:Tbl h) (hm:h.mark≤h.n) (st:SlT h vt T) (sf:SlF h vf F) (hT:(T.length:Int)≤1152921504606846976) (hF:(F.length:Int)≤1152921504606846976):
  WC Tryz.prog tb 4 [.agg #[vt,vf],I f,I r] h fun r h'=>r= .bool true:=
 zCW h vt vf T F f r tt hm st sf hT hF fun h' e=>zME h' (tt.ext e).1
set_option maxRecDepth 1000000 in
theorem zJ4:(zKQ Tryz.prog (zEy Tryz.prog) 400).call 15 [] (Z5 Tryz.prog.globals.size [(0,yv)]) (fun v _=>some v)=some (.bool true):=by kernel_rfl
theorem zLv:((aex Tryz.prog (zEy Tryz.prog) 400).call 15 [] (Z5 Tryz.prog.globals.size [(0,yv)])).map (·.1)=some (.bool true):=zKw zJ4
set_option maxRecDepth 1000000 in
theorem zFI:([(0,yv)]:List (Nat×List Value)).all (fun x=>Nat.ble (x.1+1) Tryz.prog.globals.size&&ye x.2)=true:=by kernel_rfl
set_option maxRecDepth 1000000 in
theorem tb_ok:tb.Ok Tryz.prog where
 code:=fun _ _ h=>h
 stub:=fun f s hs=>by
  have hs:(if f=15 then some (zAA [(0,yv)] (.bool true)) else none)=some s:=hs;split at hs
  ·rename_i e;subst e;cases hs;exact zFy Tryz.checked.mixed (zHM _) rfl (fun x hx=>by
    have h1:=List.all_eq_true.1 zFI x hx;rw[Bool.and_eq_true]at h1;exact⟨Nat.le_of_ble_eq_true h1.1,h1.2⟩) zLv
  ·cases hs
 grow:=fun f s hs args h v h' hk=>by
  have hs:(if f=15 then some (zAA [(0,yv)] (.bool true)) else none)=some s:=hs;split at hs
  ·cases hs;exact zHA args h v h' hk
  ·cases hs
end Go.Proofs.YteekipjpghikkaaGreatDoor
