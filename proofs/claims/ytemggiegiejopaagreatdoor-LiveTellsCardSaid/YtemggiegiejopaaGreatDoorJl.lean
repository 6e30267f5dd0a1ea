/- What functions of the program come to in the abstract machine, and plain laws about it; no statement of the seat is proved in this text. -/
import Derived.Test.YtemggiegiejopaaGreatDoorJk
import Derived.Test.YtemggiegiejopaaGreatDoorJc
import Derived.Test.YtemggiegiejopaaGreatDoorAmV
import Derived.Test.YtemggiegiejopaaGreatDoorJj
import Derived.Test.YtemggiegiejopaaGreatDoorJh
set_option linter.unusedVariables false
set_option linter.unusedSimpArgs false
set_option maxHeartbeats 1000000
set_option maxRecDepth 100000
namespace Go.Proofs.YtemggiegiejopaaGreatDoor
noncomputable section
open Go.Am
structure En (h:AHeap) (vt vf:Value) (T:List LType) (F:List LFn):Prop where
 tt:Tbl h
 hm:h.mark≤h.n
 sm:Small T F
 si:zDY F
 st:SlT h vt T
 sf:SlF h vf F
theorem En.ext {h h':AHeap} {vt vf:Value} {T:List LType} {F:List LFn} (E:En h vt vf T F) (e:Ext h h'):En h' vt vf T F:=
 ⟨E.tt.ext e,yY e E.hm,E.sm,E.si,E.st.ext e,SlF.ext E.sf e⟩
theorem En.inC {h:AHeap} {vt vf:Value} {T:List LType} {F:List LFn} (E:En h vt vf T F):En (inC (zB 0 h)) vt vf T F:=⟨E.tt,Nat.le_refl _,E.sm,E.si,E.st,E.sf⟩
def zIW:ACode:=(.seq (.seq (oR [oM 11 4,oF 1 12 1,oL 13 12,oQ 14 13,oB .lss 15 11 14]) (oT 15 0)) (.seq (.block 1 (.seq (.regionC [oU (oA 2 18 1),oU (oF 1 19 1),oU (oL 20 19),oU (oM 21 4),oU (oI 2 22 20 21),oU (oA 2 23 22),oU (o2 24 123 18 23),oU (oW 25 24)]) (.cond (.tmp 25) (.seq (oR [oN 2 60]) .ret) .skip))) (oR [oM 16 4,oC .add 17 16 1,oM 4 17])))
def body105:ACode:=(.seq (oR [oX 1 0,oN 2 0]) (.seq (oR [oF 0 5 1,oL 6 5,o1 7 122 6,oM 3 7]) (.seq (.seq (oR [oM 8 3,oC .neq 9 8 0]) (.cond (.tmp 9) (.seq (oR [oM 10 3,oM 2 10]) .ret) .skip)) (.seq (.seq (oR [oN 4 0]) (.block 0 (.loop zIW))) (.seq (.seq (oR [oF 1 26 1,oL 27 26,oQ 28 27,oC .lss 29 28 1,oM 30 29,oH 30 (oF 1 31 1),oH 30 (oL 32 31),oH 30 (oQ 33 32),oH 30 (oC .gtr 34 33 8),oO 35 30 34]) (.cond (.tmp 35) (.seq (oR [oN 2 60]) .ret) .skip)) (.seq (oR [oN 2 0]) .ret))))))
theorem tab105:tb.code 105=some ⟨36,[(2,none)],body105⟩:=by kernel_rfl
theorem zG9 (h:AHeap) (vt vf:Value) (T:List LType) (F:List LFn) (E:En h vt vf T F):
  WC Tryz.prog tb 105 [.agg #[vt,vf]] h fun r h'=>r=I (Ze T F)∧Ext h h':=by
 have st:=E.st;have sf:=E.sf;have hT:=E.sm.types;have hF:=E.sm.funcs;obtain⟨ta,tn,tk,rfl⟩:=zD st;obtain⟨ga,gn,gk,rfl⟩:=zD sf;refine WC.of (zE 105) tab105 ?_;simp only[zK,Nat.zero_add,Nat.reduceAdd];refine go ?_;refine WO.bx ?_;intro p h1 e1 o1;have st1:=st.ext e1;have sf1:=SlF.ext sf e1;refine go ?_;refine WO.con (zJY h1 _ T st1 (by omega) (fun x hx=>by have:=E.sm.parts x hx;omega)) ?_;rintro _ h2 ⟨rfl,e2⟩;have o1:=o1.ext e2;have e02:=e1.trans e2;by_cases hc:YI T=0;case neg=>
  have hc':YI T≠0:=hc;refine go ?_;refine rt ?_;exact⟨by unfold Ze;rw[if_pos hc];rfl,e02⟩
 have E2:=E.ext e02;rw[hc];have hp0:Ze T F=if (!zN ((F.length:Int) - 1) 8||F.any fun f=> !fnL T F.length f) then 60 else 0:=by unfold Ze;rw[if_neg (fun e=>e hc)]
 refine go ?_;refine WX.loopA [11,12,13,14,15,18,19,20,21,22,23,24,25,2,16,17,4] (by kernel_rfl) (fun i=>F.length - i) (fun i t h3=>Ext h2 h3∧zC t 4=I i∧i≤F.length∧Hid (∀ j,j<i→fnL T F.length (F.getD j default)=true)) 0 ?_ ?_
 ·exact⟨Ext.refl _,sl_,Nat.zero_le _,⟨fun j hj=>absurd hj (Nat.not_lt_zero _)⟩⟩
 rintro i t h3 hsame ⟨e3,s4,hi,hall⟩;have o1:=o1.ext e3;have e03:=e02.trans e3;have E3:=E2.ext e3;have sf3:=E3.sf;refine go ?_;refine WX.br (fun hd=> ?_) (fun hd=> ?_)<;>simp only[DB]at hd
 ·have hi':i<F.length:=by omega
  have hmem:=zI (l:=F) hi';refine go ?_;refine WX.regionU2 0 rfl rfl ?_;have o1X:OwnC h (inC (zB 0 h3)) p [_,_]:=o1;have sfX:SlF (inC (zB 0 h3)) _ F:=sf3;obtain⟨cs,⟨vb,rfl,sb,hlb⟩,pc,hs⟩:=zZ sfX hi';obtain⟨ba,bn,bk,rfl⟩:=zD sb;refine goU ?_;refine WO.con (zFm (inC (zB 0 h3)) _ _ T F (F.getD i default) [I (F.getD i default).sig,.slice ba bn bk] E.sm E.si hmem (Nat.le_refl _) E3.inC.st sfX ⟨_,rfl,sb,hlb⟩) ?_;rintro _ h4 ⟨rfl,e4⟩;refine WO.nil ?_;refine yP e4 zM ?_;refine goU ?_;have e5:Ext h3 (outC h3 (inC h4)):=e4.reg;obtain⟨h5,hh5⟩:∃ h5,h5=outC h3 (inC h4):=⟨_,rfl⟩;rw[←hh5]at e5;rw[←hh5];clear o1X sfX pc e4 hh5 sb;cases hfn:fnL T F.length (F.getD i default)with
  |false=>
   refine go ?_;refine rt ?_;refine⟨?_,e03.trans e5⟩;rw[hp0,List.any_eq_true.2 ⟨_,hmem,by rw[hfn];rfl⟩,Bool.or_true];rfl
  |true=>
   refine go ?_;refine zA (i+1) (by omega) ⟨e3.trans e5,sln,by omega,⟨fun j hj=> ?_⟩⟩;by_cases e:j=i
   ·subst e;exact hfn
   ·exact hall.out j (by omega)
 ·have hany:(F.any fun f=> !fnL T F.length f)=false:=Zt fun f hf=>by
   obtain⟨j,hj,rfl⟩:=yy hf;rw[hall.out j (by omega)];rfl
  rw[hany,Bool.or_false]at hp0;by_cases c1:(F.length:Int)<1
  ·refine go ?_;refine rt ?_;refine⟨?_,e03⟩;have:zN ((F.length:Int) - 1) 8=false:=by unfold zN;simp;omega
   rw[hp0,this];rfl
  by_cases c2:8<(F.length:Int)
  ·refine go ?_;refine rt ?_;refine⟨?_,e03⟩;have:zN ((F.length:Int) - 1) 8=false:=by unfold zN;simp;omega
   rw[hp0,this];rfl
  ·refine go ?_;refine rt ?_;refine⟨?_,e03⟩;have:zN ((F.length:Int) - 1) 8=true:=by unfold zN;simp;omega
   rw[hp0,this];rfl
def body85:ACode:=(.seq (oR [oX 2 0,oN 4 0]) (.seq (oR [oA 2 6 2,o1 7 105 6,oM 5 7]) (.seq (.seq (oR [oM 8 5,oC .eql 9 8 0,oM 10 9,oG 10 (oM 11 1),oG 10 (oC .lss 12 11 0),oG 10 (oM 13 12),oH 13 (oM 14 1),oH 13 (oF 1 15 2),oH 13 (oL 16 15),oH 13 (oQ 17 16),oH 13 (oB .geq 18 14 17),oG 10 (oO 19 13 18),oP 20 10 19]) (.cond (.tmp 20) (.seq (oR [oN 4 2]) .ret) .skip)) (.seq (oR [oM 21 5,oM 4 21]) .ret))))
theorem tab85:tb.code 85=some ⟨22,[(4,none)],body85⟩:=by kernel_rfl
theorem zHe (h:AHeap) (vt vf:Value) (T:List LType) (F:List LFn) (f:Int) (E:En h vt vf T F):
  WC Tryz.prog tb 85 [.agg #[vt,vf],I f] h fun r h'=>r=I (zq T F f).2∧Ext h h':=by
 have hF:=E.sm.funcs;refine WC.of (zE 85) tab85 ?_;simp only[zK,Nat.zero_add,Nat.reduceAdd];refine go ?_;refine WO.bx ?_;intro p h1 e1 o1;have E1:=E.ext e1;refine go ?_;refine WO.con (zG9 h1 vt vf T F E1) ?_;rintro _ h2 ⟨rfl,e2⟩;have o1:=o1.ext e2;have e02:=e1.trans e2;have sf2:=(E1.ext e2).sf;obtain⟨ta,tn,tk,rfl⟩:=zD E.st;obtain⟨ga,gn,gk,rfl⟩:=zD sf2;unfold zq;by_cases hc:Ze T F=0;case neg=>
  have hc':Ze T F≠0:=hc;rw[if_pos hc];refine go ?_;refine rt ?_;exact⟨rfl,e02⟩
 rw[if_neg (fun e=>e hc),hc];by_cases c1:f<0
 ·have hb:zN f F.length=false:=by unfold zN;simp;omega
  refine go ?_;refine rt ?_;exact⟨by rw[hb];rfl,e02⟩
 by_cases c2:(F.length:Int)≤f
 ·have hb:zN f F.length=false:=by unfold zN;simp;omega
  refine go ?_;refine rt ?_;exact⟨by rw[hb];rfl,e02⟩
 ·have hb:zN f F.length=true:=by unfold zN;simp;omega
  refine go ?_;refine rt ?_;exact⟨by rw[hb];rfl,e02⟩
theorem Y5 {T:List LType} {F:List LFn} {f:Int} (h:(zq T F f).2=0):0≤f∧f<(F.length:Int)∧Ze T F=0∧zq T F f=(((T.getD (F.getD f.toNat default).sig.toNat default).parts.length:Int),0):=by
 unfold zq at h ⊢;split at h
 ·rename_i hp;exact absurd h hp
 ·rename_i hp;rw[if_neg hp];split at h
  ·rename_i hb;have hb2:=hb;unfold zN at hb2;simp at hb2;exact⟨hb2.1,hb2.2,by omega,by rw[if_pos hb]⟩
  ·cases h
def body38:ACode:=(.seq (oR [oX 2 0,oN 4 0]) (.seq (.regionC [oU (oA 2 5 2),oU (oF 1 6 2),oU (oL 7 6),oU (oM 8 1),oU (oI 2 9 7 8),oU (oA 2 10 9),oU (o2 11 57 5 10),oU (oF 1 12 2),(oL 13 12,[6]),oU (oM 14 1),oU (oI 2 15 13 14),oU (oF 1 16 15),(oL 17 16,[6]),oU (o1 18 58 17),oU (oB .add 19 11 18),oU (oM 4 19)]) .ret))
theorem tab38:tb.code 38=some ⟨20,[(4,none)],body38⟩:=by kernel_rfl
theorem zCK (h:AHeap) (vt vf:Value) (T:List LType) (F:List LFn) (f:Int) (E:En h vt vf T F) (hf:0≤f∧f<(F.length:Int)) (hsig:0≤(F.getD f.toNat default).sig∧(F.getD f.toNat default).sig<(T.length:Int)):
  WC Tryz.prog tb 38 [.agg #[vt,vf],I f] h fun r h'=>r=I (((T.getD (F.getD f.toNat default).sig.toNat default).parts.length:Int)+zo (F.getD f.toNat default).blocks)∧Ext h h':=by
 have hF:=E.sm.funcs;have hmem:=zI (l:=F) (i:=f.toNat) (by omega);have hB:=E.sm.blocks _ hmem;have hI:=E.sm.ins _ hmem;have hmany:=zDg hI;have hpart:=E.sm.parts _ (zI (l:=T) (i:=(F.getD f.toNat default).sig.toNat) (by omega));obtain⟨ta,tn,tk,rfl⟩:=zD E.st;obtain⟨ga,gn,gk,rfl⟩:=zD E.sf;refine WC.of (zE 38) tab38 ?_;simp only[zK,Nat.zero_add,Nat.reduceAdd];refine go ?_;refine WO.bx ?_;intro p h1 e1 o1;have E1:=E.ext e1;have sf1:=E1.sf;refine go ?_;refine WX.regionU2 0 rfl rfl ?_;have o1X:OwnC h (inC (zB 0 h1)) p [_,_]:=o1;have sfX:SlF (inC (zB 0 h1)) _ F:=sf1;obtain⟨cs,⟨vb,rfl,sb,hlb⟩,px,hs⟩:=zh sf1 (i:=f.toNat) (by omega);have pcX:=(px h1 (Ext.refl _)).2;have pcX:Piece (inC (zB 0 h1)) (.slice ga gn gk) (f.toNat * 2) [I (F.getD f.toNat default).sig,vb]:=pcX;obtain⟨ba,bn,bk,rfl⟩:=zD sb;obtain⟨qa,qn,qk,hqv,hqb⟩:=Zd sf1 (i:=f.toNat) (by omega);refine goU ?_;refine WO.con (zBG (inC (zB 0 h1)) _ _ _ T F _ E1.inC.st sfX ⟨_,_,_,rfl⟩ hsig (by omega)) ?_;rintro _ h2 ⟨rfl,e2⟩;refine WO.nil ?_;refine yP e2 zM ?_;have sfY:SlF (inC h2) (.slice ga gn gk) F:=by have:=SlF.ext sfX e2;exact this
 have e3:Ext h1 (outC h1 (inC h2)):=e2.reg;have pcY:Piece (inC h2) (.slice ga gn gk) (f.toNat * 2) [I (F.getD f.toNat default).sig,.slice ba bn bk]:=by
  have:=(px _ e3).2;exact this
 have sbY:SlB (inC h2) (.slice ba bn bk) (F.getD f.toNat default).blocks:=by
  have:=SlB.ext sb e3;exact this
 have o1Y:OwnC h (inC h2) p [.slice ta tn tk,.slice ga gn gk]:=by have:=o1X.ext e2;exact this
 refine goU ?_;refine zBu o1 (Nat.le_refl _) ?_;refine goU ?_;refine zHK ⟨qa,qn,qk,hqv,hqb⟩ ?_;refine goU ?_;refine WO.con (zBp (inC h2) _ _ sbY hB hI) ?_;rintro _ _ ⟨rfl,rfl⟩;refine WO.nil ?_;refine yO ?_;refine goU ?_;refine go ?_;refine rt ?_;exact⟨rfl,e1.trans e3⟩
theorem regs_eq {T:List LType} {F:List LFn} {f:Int} (h:(zq T F f).2=0):ZV T F f=(((T.getD (F.getD f.toNat default).sig.toNat default).parts.length:Int)+zo (F.getD f.toNat default).blocks,0):=by
 unfold ZV;rw[if_neg (by rw[h];exact fun e=>e rfl),(Y5 h).2.2.2]
theorem zFN {T:List LType} {F:List LFn} {f:Int} (h:(zq T F f).2=0):0≤(F.getD f.toNat default).sig∧(F.getD f.toNat default).sig<(T.length:Int):=by
 obtain⟨h1,h2,h3,_⟩:=Y5 h;exact zHg ((zAY h3).2.2.2 _ (zI (l:=F) (i:=f.toNat) (by omega)))
def body74:ACode:=(.seq (oR [oX 2 0,oN 4 0,oN 5 0]) (.seq (oR [oA 2 7 2,oM 8 1,o2 9 85 7 8,oM 6 9]) (.seq (.seq (oR [oM 10 6,oC .neq 11 10 0]) (.cond (.tmp 11) (.seq (oR [oM 12 6,oN 4 0,oM 5 12]) .ret) .skip)) (.seq (oR [oA 2 13 2,oM 14 1,o2 15 38 13 14,oM 4 15,oN 5 0]) .ret))))
theorem tab74:tb.code 74=some ⟨16,[(4,none),(5,none)],body74⟩:=by kernel_rfl
theorem rregs_ok (h:AHeap) (vt vf:Value) (T:List LType) (F:List LFn) (f:Int) (E:En h vt vf T F):
  WC Tryz.prog tb 74 [.agg #[vt,vf],I f] h fun r h'=>r= .tuple #[I (ZV T F f).1,I (ZV T F f).2]∧Ext h h':=by
 refine WC.of (zE 74) tab74 ?_;simp only[zK,Nat.zero_add,Nat.reduceAdd];refine go ?_;refine WO.bx ?_;intro p h1 e1 o1;have E1:=E.ext e1;refine go ?_;refine WO.con (zHe h1 vt vf T F f E1) ?_;rintro _ h2 ⟨rfl,e2⟩;have o1:=o1.ext e2;have e02:=e1.trans e2;have E2:=E1.ext e2;by_cases ha:(zq T F f).2=0;case neg=>
  have ha':(zq T F f).2≠0:=ha;refine go ?_;refine rt ?_;exact⟨by unfold ZV;rw[if_pos ha];rfl,e02⟩
 have hin:=Y5 ha;rw[ha,regs_eq ha];refine go ?_;refine WO.con (zCK h2 vt vf T F f E2 ⟨hin.1,hin.2.1⟩ (zFN ha)) ?_;rintro _ h3 ⟨rfl,e3⟩;refine go ?_;refine rt ?_;exact⟨rfl,e02.trans e3⟩
def body55:ACode:=(.seq (oR [oX 3 0,oN 6 0]) (.seq (oR [oA 2 10 3,oM 11 1,o2 12 74 10 11,oM 9 12,oE 13 9 0,oE 14 9 1,oM 7 13,oM 8 14]) (.seq (.seq (oR [oM 15 8,oC .neq 16 15 0]) (.cond (.tmp 16) (.seq (oR [oM 17 8,oM 6 17]) .ret) .skip)) (.seq (.seq (oR [oM 18 2,oC .lss 19 18 0,oM 20 19,oH 20 (oM 21 2),oH 20 (oF 1 22 3),oH 20 (oL 23 22),oH 20 (oM 24 1),oH 20 (oI 2 25 23 24),oH 20 (oF 1 26 25),oH 20 (oL 27 26),oH 20 (oQ 28 27),oH 20 (oB .geq 29 21 28),oO 30 20 29]) (.cond (.tmp 30) (.seq (oR [oN 6 2]) .ret) .skip)) (.seq (oR [oN 6 0]) .ret)))))
theorem tab55:tb.code 55=some ⟨31,[(6,none)],body55⟩:=by kernel_rfl
theorem zHX (h:AHeap) (vt vf:Value) (T:List LType) (F:List LFn) (f b:Int) (E:En h vt vf T F):
  WC Tryz.prog tb 55 [.agg #[vt,vf],I f,I b] h fun r h'=>r=I (zT T F f b).2∧Ext h h':=by
 have hF:=E.sm.funcs;refine WC.of (zE 55) tab55 ?_;simp only[zK,Nat.zero_add,Nat.reduceAdd];refine go ?_;refine WO.bx ?_;intro p h1 e1 o1;have E1:=E.ext e1;refine go ?_;refine WO.con (rregs_ok h1 vt vf T F f E1) ?_;rintro _ h2 ⟨rfl,e2⟩;have o1:=o1.ext e2;have e02:=e1.trans e2;have sf2:=(E1.ext e2).sf;obtain⟨ta,tn,tk,rfl⟩:=zD E.st;obtain⟨ga,gn,gk,rfl⟩:=zD sf2;unfold zT;by_cases hc:(ZV T F f).2=0;case neg=>
  have hc':(ZV T F f).2≠0:=hc;rw[if_pos hc];refine go ?_;refine rt ?_;exact⟨rfl,e02⟩
 have hin:=zCo hc;rw[if_neg (fun e=>e hc),hc];obtain⟨csF,⟨vb,rfl,sb,hlb⟩,pcF,hsF⟩:=zZ (i:=f.toNat) sf2 (by omega);by_cases c1:b<0
 ·rw[if_pos (.inl c1)];refine go ?_;refine rt ?_;exact⟨rfl,e02⟩
 by_cases c2:((F.getD f.toNat default).blocks.length:Int)≤b
 ·rw[if_pos (.inr c2)];refine go ?_;refine rt ?_;exact⟨rfl,e02⟩
 ·rw[if_neg (by omega)];refine go ?_;refine rt ?_;exact⟨rfl,e02⟩
def body34:ACode:=(.seq (oR [oX 3 0,oK 6 (.slice none 0 0),oN 7 0]) (.seq (oR [oA 2 9 3,oM 10 1,oM 11 2,o3 12 55 9 10 11,oM 8 12]) (.seq (.seq (oR [oM 13 8,oC .neq 14 13 0]) (.cond (.tmp 14) (.seq (oR [oM 15 8,oK 6 (.slice none 0 0),oM 7 15]) .ret) .skip)) (.seq (oR [oF 1 16 3,oL 17 16,oM 18 1,oI 2 19 17 18,oF 1 20 19,oL 21 20,oM 22 2,oI 5 23 21 22,oF 1 24 23,oA 4 25 24,o1 26 56 25,oM 6 26,oN 7 0]) .ret))))
theorem tab34:tb.code 34=some ⟨27,[(6,none),(7,none)],body34⟩:=by kernel_rfl
theorem zJF (h:AHeap) (vt vf:Value) (T:List LType) (F:List LFn) (f b:Int) (E:En h vt vf T F):
  WC Tryz.prog tb 34 [.agg #[vt,vf],I f,I b] h fun r h'=>(∃ v,r= .tuple #[v,I (yT T F f b).2]∧SlI h' v (yT T F f b).1)∧Ext h h':=by
 have hF:=E.sm.funcs;refine WC.of (zE 34) tab34 ?_;simp only[zK,Nat.zero_add,Nat.reduceAdd];refine go ?_;refine WO.bx ?_;intro p h1 e1 o1;have E1:=E.ext e1;refine go ?_;refine WO.con (zHX h1 vt vf T F f b E1) ?_;rintro _ h2 ⟨rfl,e2⟩;have o1:=o1.ext e2;have e02:=e1.trans e2;have sf2:=(E1.ext e2).sf;obtain⟨ta,tn,tk,rfl⟩:=zD E.st;obtain⟨ga,gn,gk,rfl⟩:=zD sf2;unfold yT;by_cases hc:(zT T F f b).2=0;case neg=>
  have hc':(zT T F f b).2≠0:=hc;rw[if_pos hc];refine go ?_;refine rt ?_;exact⟨⟨_,rfl,SlI.nil _⟩,e02⟩
 obtain⟨h1b,h2b,h3b,h4b⟩:=zAz hc;have hin:=zCo h4b;rw[if_neg (fun e=>e hc),hc];rw[h3b]at h2b ⊢;obtain⟨csF,⟨vb,rfl,sb,hlb⟩,pcF,hsF⟩:=zZ (i:=f.toNat) sf2 (by omega);obtain⟨csB,⟨vi,rfl,si,hli⟩,pcB,hsB⟩:=zZ (i:=b.toNat) sb (by omega);obtain⟨_,_,_,rfl⟩:=zD sb;obtain⟨_,_,_,rfl⟩:=zD si;refine go ?_;refine WO.con (to_ok h2 ((F.getD f.toNat default).blocks.getD b.toNat default).fin) ?_;rintro u h3 ⟨ou,e3⟩;refine go ?_;refine rt ?_;exact⟨⟨_,rfl,ou.sl⟩,e02.trans e3⟩
def body35:ACode:=(.seq (oR [oX 1 0,oK 2 (.slice none 0 0)]) (.seq (.seq (oR [oF 0 3 1,oL 4 3,oD .eql 5 4 2,oM 6 5,oH 6 (oF 0 7 1),oH 6 (oL 8 7),oH 6 (oD .eql 9 8 3),oO 10 6 9]) (.cond (.tmp 10) (.seq (oR [oF 1 11 1,oL 12 11,⟨some 13,none,(.buildSlice 1 1 [(.int .i64 0)] [(0,1,(.tmp 12))])⟩,oM 2 13]) .ret) .skip)) (.seq (oR [oK 2 (.slice none 0 0)]) .ret)))
theorem tab35:tb.code 35=some ⟨14,[(2,none)],body35⟩:=by kernel_rfl
theorem rends_ok (h:AHeap) (x:LEnd):WC Tryz.prog tb 35 [.agg #[.int .u8 x.kind,I x.a,I x.to,I x.els]] h fun r h'=>OwnN h h' r (ZG x)∧Ext h h':=by
 unfold ZG;refine WC.of (zE 35) tab35 ?_;simp only[zK,Nat.zero_add,Nat.reduceAdd];refine go ?_;refine WO.bx ?_;intro p h1 e1 o1;by_cases c2:x.kind=2
 ·rw[if_pos (.inl c2)];refine go ?_;refine WO.bl [x.a] ?_;intro v h2 e2 o2;refine go ?_;refine rt ?_;exact⟨.inr (OwnI.since o2 e1),e1.trans e2⟩
 by_cases c3:x.kind=3
 ·rw[if_pos (.inr c3)];refine go ?_;refine WO.bl [x.a] ?_;intro v h2 e2 o2;refine go ?_;refine rt ?_;exact⟨.inr (OwnI.since o2 e1),e1.trans e2⟩
 ·rw[if_neg (fun h=>h.elim c2 c3)];refine go ?_;refine rt ?_;exact⟨.inl ⟨rfl,rfl⟩,e1⟩
def body36:ACode:=(.seq (oR [oX 4 0,oN 8 0]) (.seq (.regionC [oU (oA 2 9 4),oU (oF 1 10 4),oU (oL 11 10),oU (oM 12 1),oU (oI 2 13 11 12),oU (oA 2 14 13),oU (o2 15 57 9 14),oU (oF 1 16 4),(oL 17 16,[6]),oU (oM 18 1),oU (oI 2 19 17 18),oU (oF 1 20 19),(oL 21 20,[6]),oU (oM 22 2),oU (⟨some 23,none,(.slice 5 (.tmp 21) none (some (.tmp 22)) none)⟩),oU (o1 24 58 23),oU (oB .add 25 15 24),oU (oM 26 3),oU (oB .add 27 25 26),oU (oM 8 27)]) .ret))
theorem tab36:tb.code 36=some ⟨28,[(8,none)],body36⟩:=by kernel_rfl
theorem zHM (h:AHeap) (vt vf:Value) (T:List LType) (F:List LFn) (f:Int) (L:List LBlk) (par:Int) (E:En h vt vf T F) (O:FnOk T F f L par) (b k:Int) (hb:0≤b∧b<(L.length:Int)) (hk:0≤k∧k<1000):
  WC Tryz.prog tb 36 [.agg #[vt,vf],I f,I b,I k] h fun r h'=>r=I (y9 par L b+k)∧Ext h h':=by
 have hF:=E.sm.funcs;obtain⟨f0,f1,hp,hask,rfl,p0,p1,hlen,hmany,hins,hfn⟩:=O;have hmem:=zI (l:=F) (i:=f.toNat) (by omega);have hB:=E.sm.blocks _ hmem;have hI:=E.sm.ins _ hmem;have hsig:=zFN (show (zq T F f).2=0 by rw[hask]);have hpar:par=((T.getD (F.getD f.toNat default).sig.toNat default).parts.length:Int):=by
  have:=(Y5 (show (zq T F f).2=0 by rw[hask])).2.2.2;rw[hask]at this;exact congrArg Prod.fst this
 have hpart:=E.sm.parts _ (zI (l:=T) (i:=(F.getD f.toNat default).sig.toNat) (by omega));obtain⟨ta,tn,tk,rfl⟩:=zD E.st;obtain⟨ga,gn,gk,rfl⟩:=zD E.sf;refine WC.of (zE 36) tab36 ?_;simp only[zK,Nat.zero_add,Nat.reduceAdd];refine go ?_;refine WO.bx ?_;intro p h1 e1 o1;have E1:=E.ext e1;have sf1:=E1.sf;refine go ?_;refine WX.regionU2 0 rfl rfl ?_;have o1X:OwnC h (inC (zB 0 h1)) p [_,_]:=o1;have sfX:SlF (inC (zB 0 h1)) _ F:=sf1;obtain⟨cs,⟨vb,rfl,sb,hlb⟩,px,hs⟩:=zh sf1 (i:=f.toNat) (by omega);have pcX:=(px h1 (Ext.refl _)).2;have pcX:Piece (inC (zB 0 h1)) (.slice ga gn gk) (f.toNat * 2) [I (F.getD f.toNat default).sig,vb]:=pcX;obtain⟨ba,bn,bk,rfl⟩:=zD sb;obtain⟨qa,qn,qk,hqv,hqb⟩:=Zd sf1 (i:=f.toNat) (by omega);refine goU ?_;refine WO.con (zBG (inC (zB 0 h1)) _ _ _ T F _ E1.inC.st sfX ⟨_,_,_,rfl⟩ hsig (by omega)) ?_;rintro _ h2 ⟨rfl,e2⟩;refine WO.nil ?_;refine yP e2 zM ?_;have sfY:SlF (inC h2) (.slice ga gn gk) F:=by have:=SlF.ext sfX e2;exact this
 have e3:Ext h1 (outC h1 (inC h2)):=e2.reg;have pcY:Piece (inC h2) (.slice ga gn gk) (f.toNat * 2) [I (F.getD f.toNat default).sig,.slice ba bn bk]:=by
  have:=(px _ e3).2;exact this
 have sbY:SlB (inC h2) (.slice ba bn bk) (F.getD f.toNat default).blocks:=by
  have:=SlB.ext sb e3;exact this
 have o1Y:OwnC h (inC h2) p [.slice ta tn tk,.slice ga gn gk]:=by have:=o1X.ext e2;exact this
 generalize (F.getD f.toNat default).blocks=L at *;obtain⟨vs,hvs,sbs⟩:=zEg (i:=b.toNat) sbY (by omega) (by omega);have hbt:(b.toNat:Int)=b:=by omega
 have hlt:(L.take b.toNat).length≤1000:=by rw[List.length_take];omega
 have hIt:∀ x∈L.take b.toNat,x.ins.length≤1000:=fun x hx=>hI x (List.mem_of_mem_take hx);have hmt:=yQ (L.take b.toNat);have hmt2:=zC8 L b.toNat;refine goU ?_;refine zBu o1 (Nat.le_refl _) ?_;refine goU ?_;refine zHK ⟨qa,qn,qk,hqv,hqb⟩ ?_;refine goU ?_;refine WO.slHi (i:=b.toNat) (hy:=by rw[hbt];exact zV) hvs ?_;refine WO.nil ?_;refine yO ?_;refine goU ?_;refine WO.con (zBp (inC h2) _ _ sbs hlt hIt) ?_;rintro _ _ ⟨rfl,rfl⟩;refine WO.nil ?_;refine yO ?_;refine goU ?_;refine go ?_;refine rt ?_;exact⟨by rw[hpar];rfl,e1.trans e3⟩
abbrev bT (bs:List Bool) (r:Int):Prop:=bO bs r=true
theorem zDN {bs:List Bool} {c r:Int} {b:Bool} (hc:0≤c∧c<(bs.length:Int)) (hr:0≤r):bT (bs.set c.toNat b) r↔if r=c then b=true else bT bs r:=by
 unfold bT;rw[bO_set hc hr];split<;>rfl
theorem bT_lt {bs:List Bool} {r:Int} (h:bT bs r):r<(bs.length:Int):=by
 unfold bT bO at h;rw[List.getD_eq_getElem?_getD]at h;cases hx:bs[r.toNat]? with
 |none=>rw[hx]at h;cases h
 |some x=>have:=(List.getElem?_eq_some_iff.1 hx).1;omega
theorem zBq {hA h h':AHeap} {v w:Value} {l:List Int} (o:OwnN hA h w l) (u:Upd v h h') (hv:∀ a n k,v= .slice (some a) n k→a.block<hA.n):OwnN hA h' w l:=by
 rcases o with o|⟨g,a,b,c,d⟩
 ·exact .inl o
 ·exact .inr ⟨g,a,Nat.lt_of_lt_of_le b u.1,c,(u.2 g b fun x n k e e2=>by have:=hv x n k e;omega).trans d⟩
theorem zFJ {hA h h':AHeap} {v p:Value} {cs:List Value} (o:OwnC hA h p cs) (u:Upd v h h') (hv:∀ a n k,v= .slice (some a) n k→a.block<hA.n):OwnC hA h' p cs:=by
 obtain⟨g,a,b,c,d⟩:=o;exact⟨g,a,Nat.lt_of_lt_of_le b u.1,c,(u.2 g b fun x n k e e2=>by have:=hv x n k e;omega).trans d⟩
theorem zA2 {l:List Int} {i:Nat} (hi:i<l.length) (r:Int):r∈l.take (i+1)↔r=l.getD i 0∨r∈l.take i:=by
 rw[List.take_add_one,List.getElem?_eq_getElem hi,List.mem_append,show l.getD i 0=l[i] by rw[List.getD_eq_getElem?_getD,List.getElem?_eq_getElem hi];rfl];simp[or_comm]
def body21_0:ACode:=(.seq (.seq (oR [oM 33 14,oM 34 13,oQ 35 34,oB .lss 36 33 35]) (oT 36 0)) (.seq (.block 1 (oR [oM 39 11,oM 40 13,oM 41 14,oI 1 42 40 41,oL 43 42,oI 1 44 39 43,⟨none,none,(.store 1 (.tmp 44) (.const (.bool true)))⟩])) (oR [oM 37 14,oC .add 38 37 1,oM 14 38])))
def body21_1:ACode:=(.seq (.seq (oR [oM 67 17,oM 68 16,oQ 69 68,oB .lss 70 67 69,oM 71 70,oG 71 (oF 0 72 12),oG 71 (oL 73 72),oG 71 (oM 74 15),oG 71 (oI 7 75 73 74),oG 71 (oF 0 76 75),oG 71 (oL 77 76),oG 71 (oD .neq 78 77 22),oP 79 71 78]) (oT 79 4)) (.seq (.block 5 (oR [oM 82 11,oM 83 16,oM 84 17,oI 1 85 83 84,oL 86 85,oI 1 87 82 86,⟨none,none,(.store 1 (.tmp 87) (.const (.bool true)))⟩])) (oR [oM 80 17,oC .add 81 80 1,oM 17 81])))
def body21_2:ACode:=(.seq (.seq (oR [oM 49 15,oM 50 3,oB .geq 51 49 50]) (oT 51 2)) (.seq (.block 3 (.seq (oR [oM 54 11,oA 2 55 5,oM 56 1,oM 57 2,oM 58 15,o4 59 36 55 56 57 58,oI 1 60 54 59,⟨none,none,(.store 1 (.tmp 60) (.const (.bool false)))⟩]) (.seq (oR [oF 0 61 12,oL 62 61,oM 63 15,oI 7 64 62 63,oA 7 65 64,o1 66 37 65,oM 16 66]) (.seq (oR [oN 17 0]) (.block 4 (.loop body21_1)))))) (oR [oM 52 15,oC .sub 53 52 1,oM 15 53])))
def body21:ACode:=(.seq (oR [oX 5 0,oK 10 (.slice none 0 0)]) (.seq (oR [⟨some 18,none,(.buildSlice 0 1 [(.bool false)] [])⟩,oM 19 4,oY 1 20 18 19,oM 11 20]) (.seq (oR [oF 1 21 5,oL 22 21,oM 23 1,oI 2 24 22 23,oF 1 25 24,oL 26 25,oM 27 2,oI 5 28 26 27,oA 5 29 28,⟨some 12,none,(.alloc [(.slice none 0 0),(.int .u8 0),(.int .i64 0),(.int .i64 0),(.int .i64 0)])⟩,oS 5 12 29]) (.seq (oR [oF 1 30 12,oA 4 31 30,o1 32 35 31,oM 13 32]) (.seq (.seq (oR [oN 14 0]) (.block 0 (.loop body21_0))) (.seq (.seq (oR [oF 0 45 12,oL 46 45,oQ 47 46,oC .sub 48 47 1,oM 15 48]) (.block 2 (.loop body21_2))) (.seq (oR [oM 88 11,oM 10 88]) .ret)))))))
theorem tab21:tb.code 21=some ⟨89,[(10,none)],body21⟩:=by kernel_rfl
theorem zEJ (h:AHeap) (vt vf v:Value) (T:List LType) (F:List LFn) (f:Int) (L:List LBlk) (par:Int) (E:En h vt vf T F) (O:FnOk T F f L par) (U:∀ b∈L,BlkU b (zd par L) L.length) (b:Int) (k:Nat) (bs:List Bool) (hb:0≤b∧b<(L.length:Int)) (hk:k≤(L.getD b.toNat default).ins.length) (sv:SlBo h v bs) (hbs:(bs.length:Int)=zd par L):
  WC Tryz.prog tb 21 [.agg #[vt,vf],I f,I b,I k,v] h fun r h'=>(∃ cs,OwnBo h h' r cs∧cs.length=bs.length∧∀ r,0≤r→(bT cs r↔yG par L b k (bT bs) r))∧Ext h h':=by
 have O':=O;obtain⟨f0,f1,hp,hask,hL,p0,p1,hlen,hmany,hins,hfn⟩:=O;have hN:zd par L≤300:=by unfold zd;omega
 have hUb:=U _ (zI (l:=L) (i:=b.toNat) (by omega));have hib:=hins _ (zI (l:=L) (i:=b.toNat) (by omega));obtain⟨Ui,Ue,Un⟩:=hUb;have Ui:=Hid.mk Ui;have Ue:=Hid.mk Ue;clear Un U hins;obtain⟨ta,tn,tk,rfl⟩:=zD E.st;obtain⟨ga,gn,gk,rfl⟩:=zD E.sf;obtain⟨csF,⟨vb,rfl,sb,hlb⟩,pF,hsF⟩:=zh (i:=f.toNat) E.sf (by omega);rw[←hL]at sb hlb;obtain⟨csB,⟨vi,rfl,si,hli⟩,pB,hsB⟩:=zh (i:=b.toNat) sb (by omega);obtain⟨ba,bn,bk,rfl⟩:=zD sb;obtain⟨ia,iN,ik,rfl⟩:=zD si;obtain⟨B,hB⟩:∃ B,L.getD b.toNat default=B:=⟨_,rfl⟩;have hend:=fun E r=>zEu (par:=par) (L:=L) (b:=b) (E:=E) (r:=r) (k:=B.ins.length) (by rw[hB];exact Nat.le_refl _);have hstep:∀ E r k,k<B.ins.length→(yG par L b k E r↔r∈yw (B.ins.getD k default)∨(r≠y9 par L b+k∧yG par L b (k+1) E r)):=fun E r k hk=>by rw[←hB]at hk ⊢;exact zDn hk
 have hbase:∀ i,i<B.ins.length→0≤y9 par L b+i∧y9 par L b+i<zd par L:=fun i hi=>zHx O' hb (by rw[hB];exact hi);rw[hB]at hk hib Ui Ue si hli hend;have pB':∀ h',Ext h h'→Piece h' (.slice ba bn bk) (b.toNat * 5) [.slice ia iN ik,.int .u8 B.fin.kind,I B.fin.a,I B.fin.to,I B.fin.els]:=fun h' e=>by have:=(pB h' e).1;rw[hB]at this;exact this
 replace hbase:=Hid.mk hbase;replace hstep:=Hid.mk hstep;replace hend:=Hid.mk hend;replace pB':=Hid.mk pB';clear pB;have bnd:Hid (∀ r,bT bs r→r<zd par L):=⟨fun r h=>by have:=bT_lt h;omega⟩;refine WC.of (zE 21) tab21 ?_;simp only[zK,Nat.zero_add,Nat.reduceAdd];refine go ?_;refine WO.bx ?_;intro p h1 e1 o1;have sv1:=SlR.ext (h:=h) (h':=h1) (fun cs a (r:RBo h cs a)=>(r:RBo h1 cs a)) sv e1;refine go ?_;refine WO.blBo ?_;intro v2 h2 e2 o2;have sv2:=SlR.ext (h:=h1) (h':=h2) (fun cs a (r:RBo h1 cs a)=>(r:RBo h2 cs a)) sv1 e2;refine go ?_;refine WO.apBo o2 sv2 e2 (by omega) ?_;intro v3 h3 e3 o3;have e03:=e1.trans e3;have o13:=o1.ext e3;have sf3:=(E.ext e03).sf;have pcF:=(pF h3 e03).1;have pcB:=pB'.out h3 e03;have sb3:=SlB.ext sb e03;clear sv1 sv2 e2 o2;refine go ?_;refine WO.al ?_;intro q h4 e4 o4;refine go ?_;refine WO.stC0 (cs:=[.slice ia iN ik,.int .u8 B.fin.kind,I B.fin.a,I B.fin.to,I B.fin.els]) o4 e4 ?_;intro h5 e5 o5 u5;have o15:=o13.ext e5;have o3:=o3.ext e5;have n35:=e5.n;have hvg:∀ a n k,v3= .slice (some a) n k→a.block<h3.n:=fun a n k e=>by
  obtain⟨g,q1,q2,q3,q4⟩:=(by assumption:OwnBo h1 h3 v3 bs);rw[q3]at e;cases e;exact q2
 obtain⟨xa,xn,xk,hv3⟩:∃ a n k,v3= .slice a n k:=by obtain⟨g,_,_,e,_⟩:=o3;exact⟨_,_,_,e⟩
 subst hv3;have hvg:=Hid.mk hvg;refine go ?_;refine WO.con (rends_ok h5 B.fin) ?_;rintro ve h6 ⟨oe,e6⟩;have o5:=o5.ext e6;have o3:=(by assumption:OwnBo h1 h5 _ bs).ext e6;have e16:=e3.trans (e5.trans e6);have n56:=e6.n;have hel:(ZG B.fin).length≤1:=by unfold ZG;split<;>simp
 obtain⟨ea,en,ek,rfl⟩:=SlC.shape oe.sl;clear sf3 sb3 pcF pcB u5 o4 e4 o13 o15 e03 e6;refine go ?_;refine WX.loopA [33,34,35,36,39,40,41,42,43,44,37,38,14] (by kernel_rfl) (fun i=>(ZG B.fin).length - i) (fun i t ht=>Ext h1 ht∧h6.n≤ht.n∧zC t 14=I i∧i≤(ZG B.fin).length∧OwnC h3 ht q [.slice ia iN ik,.int .u8 B.fin.kind,I B.fin.a,I B.fin.to,I B.fin.els]∧OwnN h5 ht (.slice ea en ek) (ZG B.fin)∧∃ cs,OwnBo h1 ht (.slice xa xn xk) cs∧cs.length=bs.length∧Hid (∀ r,0≤r→(bT cs r↔r∈(ZG B.fin).take i∨bT bs r))) 0 ?_ ?_
 ·exact⟨e16,Nat.le_refl _,sl_,Nat.zero_le _,o5,oe,bs,o3,rfl,⟨fun r _=>by simp⟩⟩
 clear e16 o5 oe o3;rintro i t ht hsame ⟨et,nt,s14,hi,o5,oe,cs,oc,lc,hI⟩;have sle:=oe.sl;have o1t:=o1.ext et;have soc:=oc.sl;refine go ?_;refine WX.br (fun hc=> ?_) (fun hc=> ?_)<;>simp only[DB]at hc
 ·have hi':i<(ZG B.fin).length:=by omega
  have hr:=Ue.out _ (yH hi');refine go ?_;refine WO.stBo (i:=((ZG B.fin).getD i 0).toNat) oc et (by omega) ?_;intro h7 e7 o7 u7;have n7:=u7.1;refine go ?_;refine zA (i+1) (by omega) ⟨e7,by omega,sln,by omega,zFJ o5 u7 hvg.out,zBq oe u7 (fun a n k e=>by have:=hvg.out a n k e;omega),_,o7,by rw[List.length_set];exact lc,⟨fun r hr0=> ?_⟩⟩;rw[zDN (by omega) hr0,zA2 hi'];split
  ·rename_i e;exact⟨fun _=> .inl (.inl e),fun _=>rfl⟩
  ·rename_i e;rw[hI.out r hr0];simp only[e,false_or]
 have hii:i=(ZG B.fin).length:=by omega
 subst hii;have hI:Hid (∀ r,0≤r→(bT cs r↔yG par L b B.ins.length (bT bs) r)):=⟨fun r hr=>by rw[hI.out r hr,List.take_length,hend.out]⟩;clear sle oe hend soc;have siT:=SlN.ext si (e1.trans et);refine go ?_;refine WX.loopA [49,50,51,54,55,56,57,58,59,60,61,62,63,64,65,66,16,17,67,68,69,70,71,72,73,74,75,76,77,78,79,82,83,84,85,86,87,80,81,17,52,53,15] (by kernel_rfl) (fun m=>m - k) (fun m t ht=>Ext h1 ht∧h6.n≤ht.n∧zC t 15=I ((m:Int) - 1)∧k≤m∧m≤B.ins.length∧OwnC h3 ht q [.slice ia iN ik,.int .u8 B.fin.kind,I B.fin.a,I B.fin.to,I B.fin.els]∧∃ cs,OwnBo h1 ht (.slice xa xn xk) cs∧cs.length=bs.length∧Hid (∀ r,0≤r→(bT cs r↔yG par L b m (bT bs) r))) B.ins.length ?_ ?_
 ·exact⟨et,nt,sl_,hk,Nat.le_refl _,o5,cs,oc,lc,hI⟩
 clear et nt o5 oc lc hI siT o1t s14 hc;rintro m t2 ht hsame2 ⟨et,nt,s15,hkm,hm,o5,cs,oc,lc,hI⟩;have o1t:=o1.ext et;have soc:=oc.sl;refine go ?_;refine WX.br (fun hc=> ?_) (fun hc=> ?_)<;>simp only[DB]at hc;case refine_2=>
  have hmk:m=k:=by omega
  subst hmk;refine go ?_;refine rt ?_;exact⟨⟨cs,OwnBo.since oc e1,lc,hI.out⟩,e1.trans et⟩
 obtain⟨j,rfl⟩:∃ j,m=j+1:=⟨m - 1,by omega⟩;have hj:j<B.ins.length:=by omega
 have Et:=E.ext (e1.trans et);have hmj:((j+1:Nat):Int) - 1=(j:Int):=by omega
 rw[hmj]at s15;have hUx:=Ui.out _ (zI (l:=B.ins) hj);have hbj:=hbase.out j hj;have hst:=Hid.mk (fun r=>hstep.out (bT bs) r j hj);refine go ?_;refine WO.con (zHM ht _ _ T F f L par Et O' b j hb (by omega)) ?_;rintro _ h7 ⟨rfl,e7⟩;have et7:=et.trans e7;have oc7:=oc.ext e7;have soc7:=oc7.sl;have o5:=o5.ext e7;have n7:=e7.n;have hcl:(y9 par L b+j).toNat<cs.length:=by omega
 refine go ?_;refine WO.stBo (i:=(y9 par L b+(j:Int)).toNat) (b:=false) oc7 et7 hcl ?_;intro h8 e8 o8 u8;have n8:=u8.1;have o5:=zFJ o5 u8 hvg.out;have o1t:=o1.ext e8;have e08:=e1.trans e8;have si8:=SlN.ext si e08;obtain⟨csx,rx,px,hsx⟩:=zh si hj;have px:=(px h8 e08).1;have rx:=RIns.ext rx e08;generalize hx:B.ins.getD j default=x at *;have hargs:=hUx.args;obtain⟨xva,xvf,rfl,sxa,sxf,hla,hlf,ho⟩:=id rx;obtain⟨va1,va2,va3,rfl⟩:=zv sxa;obtain⟨vf1,vf2,vf3,rfl⟩:=zv sxf;refine go ?_;refine WO.con (zF5 h8 x _ rx hargs) ?_;rintro vu h9 ⟨ou,e9⟩;have n9:=e9.n;have o5:=o5.ext e9;have o8:=o8.ext e9;have e19:=e8.trans e9;obtain⟨u1,u2,u3,rfl⟩:=SlC.shape ou.sl;have hul:(yu x).length≤100:=by
  unfold yu;simp only[List.length_append];have h1:∀ (c:Bool) (a:Int),(if c=true then [a] else []).length≤1:=fun c a=>by cases c<;>simp
  have h2:(if (zS x.op).2.2.2.1=true then x.args else []).length≤20:=by split;exact hargs;exact Nat.zero_le _
  have:=h1 (zS x.op).1 x.a;have:=h1 (zS x.op).2.1 x.b;omega
 have hvg8:∀ a n k,Value.slice xa xn xk= .slice (some a) n k→a.block<h8.n:=fun a n k e=>by have:=hvg.out a n k e;omega
 have hset:Hid (∀ r,0≤r→(bT (cs.set (y9 par L b+j).toNat false) r↔r≠y9 par L b+j∧yG par L b (j+1) (bT bs) r)):=⟨fun r hr=>by
  rw[zDN (by omega) hr];split
  ·rename_i e;exact⟨(fun h=>by cases h),fun h=>absurd e h.1⟩
  ·rename_i e;rw[hI.out r hr];exact⟨fun h=>⟨e,h⟩,fun h=>h.2⟩⟩
 clear hI oc oc7 soc soc7 et et7 e7 u8 e8 si8 o1t;refine go ?_;refine WX.loopA [67,68,69,70,71,72,73,74,75,76,77,78,79,82,83,84,85,86,87,80,81,17] (by kernel_rfl) (fun i=>(yu x).length - i) (fun i t ht=>Ext h1 ht∧h9.n≤ht.n∧zC t 17=I i∧i≤(yu x).length∧(x.op=22→i=0)∧OwnC h3 ht q [.slice ia iN ik,.int .u8 B.fin.kind,I B.fin.a,I B.fin.to,I B.fin.els]∧OwnN h8 ht (.slice u1 u2 u3) (yu x)∧∃ ds,OwnBo h1 ht (.slice xa xn xk) ds∧ds.length=bs.length∧Hid (∀ r,0≤r→(bT ds r↔r∈(yu x).take i∨(r≠y9 par L b+j∧yG par L b (j+1) (bT bs) r)))) 0 ?_ ?_
 ·exact⟨e19,Nat.le_refl _,sl_,Nat.zero_le _,fun _=>rfl,o5,ou,_,o8,by rw[List.length_set];exact lc,⟨fun r hr=>by rw[hset.out r hr];simp⟩⟩
 clear e19 o5 ou o8;rintro i t3 ht hsame3 ⟨et,nt,s17,hi,h22,o5,ou,ds,od,ld,hD⟩;have siT:=SlN.ext si (e1.trans et);have su:=ou.sl;have sod:=od.sl;obtain⟨csy,ry,py,hsy⟩:=zh si hj;have py:=(py ht (e1.trans et)).1;rw[hx]at ry;obtain⟨yva,yvf,rfl,_⟩:=ry;by_cases hop:x.op=22
 ·have h0:=h22 hop;subst h0;have hread:yw x=[]:=by unfold yw;rw[if_pos hop]
  have hex:∃ cs,OwnBo h1 ht (.slice xa xn xk) cs∧cs.length=bs.length∧Hid (∀ r,0≤r→(bT cs r↔yG par L b j (bT bs) r)):=⟨ds,od,ld,⟨fun r hr=>by rw[hD.out r hr,hst.out r,hread];simp⟩⟩;have hbx:(x.op == 22)=true:=by rw[hop];rfl
  by_cases hc3:(0:Int)<((yu x).length:Int)
  ·refine go ?_;exact zA j (by omega) ⟨et,by omega,sl_,by omega,by omega,o5,hex⟩
  ·refine go ?_;exact zA j (by omega) ⟨et,by omega,sl_,by omega,by omega,o5,hex⟩
 ·have hread:yw x=yu x:=by unfold yw;rw[if_neg hop]
  by_cases hc3:(i:Int)<((yu x).length:Int)
  ·have hi':i<(yu x).length:=by omega
   have hr:=hUx.uses _ (yH hi');refine go ?_;refine WO.stBo (i:=((yu x).getD i 0).toNat) od et (by omega) ?_;intro h10 e10 o10 u10;have n10:=u10.1;refine go ?_;refine zA (i+1) (by omega) ⟨e10,by omega,sln,by omega,fun h=>absurd h hop,zFJ o5 u10 hvg.out,zBq ou u10 hvg8,_,o10,by rw[List.length_set];exact ld,⟨fun r hr0=> ?_⟩⟩;rw[zDN (by omega) hr0,zA2 hi'];split
   ·rename_i e;exact⟨fun _=> .inl (.inl e),fun _=>rfl⟩
   ·rename_i e;rw[hD.out r hr0];simp only[e,false_or]
  ·have hii:i=(yu x).length:=by omega
   have hex:∃ cs,OwnBo h1 ht (.slice xa xn xk) cs∧cs.length=bs.length∧Hid (∀ r,0≤r→(bT cs r↔yG par L b j (bT bs) r)):=⟨ds,od,ld,⟨fun r hr=>by rw[hD.out r hr,hst.out r,hread,hii,List.take_length]⟩⟩;refine go ?_;exact zA j (by omega) ⟨et,by omega,sl_,by omega,by omega,o5,hex⟩
theorem zEz {b:Int}:∀ {fs gs:List Int} {r:Int},fs.length=gs.length→(r∈YX fs gs b↔∃ m,m<fs.length∧fs.getD m 0=b∧gs.getD m 0=r)
 |[],[],r,_=>by simp[YX]
 |f::fs,g::gs,r,h=>by
  have ih:=zEz (b:=b) (fs:=fs) (gs:=gs) (r:=r) (by simpa using h);have key:(∃ m,m<(f::fs).length∧(f::fs).getD m 0=b∧(g::gs).getD m 0=r)↔(f=b∧g=r)∨∃ m,m<fs.length∧fs.getD m 0=b∧gs.getD m 0=r:=by
   constructor
   ·rintro⟨m,h1,h2,h3⟩;cases m with
    |zero=>exact .inl ⟨by simpa using h2,by simpa using h3⟩
    |succ m=>exact .inr ⟨m,by simpa using h1,by simpa using h2,by simpa using h3⟩
   ·rintro(⟨h1,h2⟩|⟨m,h1,h2,h3⟩)
    ·exact⟨0,by simp,by simpa using h1,by simpa using h2⟩
    ·exact⟨m+1,by simpa using h1,by simpa using h2,by simpa using h3⟩
  rw[key,←ih];show r∈(if f=b then g::YX fs gs b else YX fs gs b)↔_;split
  ·rename_i e;simp only[e,List.mem_cons,true_and,eq_comm]
  ·rename_i e;simp only[e,false_and,false_or]
def PhU (l:List LIns) (b:Int) (n:Nat) (r:Int):Prop:=∃ m,m<n∧∃ k,k<(l.getD m default).frm.length∧(l.getD m default).frm.getD k 0=b∧(l.getD m default).args.getD k 0=r
theorem phU_all {B:LBlk} {b:Int} {N n:Int} (U:∀ x∈B.ins,InsU x N n) (r:Int):PhU B.ins b B.ins.length r↔r∈Y6 B b:=by
 unfold Y6;rw[List.mem_flatMap];constructor
 ·rintro⟨m,h1,k,h2,h3,h4⟩;have hm:=zI (l:=B.ins) h1;refine⟨_,hm,?_⟩;have u:=U _ hm;by_cases h22:(B.ins.getD m default).op=22
  ·rw[if_pos h22];exact(zEz (u.phi h22).1).2 ⟨k,h2,h3,h4⟩
  ·have:=u.none h22;omega
 ·rintro⟨x,hx,h⟩;obtain⟨m,hm,rfl⟩:=List.getElem_of_mem hx;have e:B.ins.getD m default=B.ins[m]:=by rw[List.getD_eq_getElem?_getD,List.getElem?_eq_getElem hm];rfl
  have u:=U _ hx;by_cases h22:B.ins[m].op=22
  ·rw[if_pos h22]at h;obtain⟨k,h2,h3,h4⟩:=(zEz (u.phi h22).1).1 h;exact⟨m,hm,k,by rw[e];exact h2,by rw[e];exact h3,by rw[e];exact h4⟩
  ·rw[if_neg h22]at h;cases h
def RBs (h:AHeap) (cs:List Value) (bs:List Bool):Prop:=∃ v,cs=[v]∧SlBo h v bs
theorem RBs.ext {h h':AHeap} {cs:List Value} {bs:List Bool} (r:RBs h cs bs) (e:Ext h h'):RBs h' cs bs:=let ⟨v,a,s⟩:=r;⟨v,a,SlR.ext (h:=h) (h':=h') (fun cs a (r:RBo h cs a)=>(r:RBo h' cs a)) s e⟩
abbrev SlBs (h:AHeap) (v:Value) (l:List (List Bool)):Prop:=SlR 1 RBs h v l
theorem SlBs.ext {h h':AHeap} {v:Value} {l:List (List Bool)} (s:SlBs h v l) (e:Ext h h'):SlBs h' v l:=SlR.ext (fun cs a r=>RBs.ext r e) s e
abbrev bB (Bs:List (List Bool)) (b r:Int):Prop:=bT (Bs.getD b.toNat []) r
def body39_0:ACode:=(.seq (.seq (oR [oM 37 12,oM 38 9,oQ 39 38,oB .lss 40 37 39]) (oT 40 2)) (.seq (.block 3 (oR [oM 43 9,oM 44 12,oM 45 9,oM 46 12,oI 1 47 45 46,oL 48 47,oM 49 48,oH 49 (oM 50 3),oH 49 (oM 51 10),oH 49 (oM 52 11),oH 49 (oI 1 53 51 52),oH 49 (oL 54 53),oH 49 (oI 1 55 50 54),oH 49 (oL 56 55),oH 49 (oM 57 12),oH 49 (oI 1 58 56 57),oH 49 (oL 59 58),oO 60 49 59,oI 1 61 43 44,oS 1 61 60])) (oR [oM 41 12,oC .add 42 41 1,oM 12 42])))
def body39_1:ACode:=(.seq (.seq (oR [oM 81 15,oM 82 13,oM 83 14,oI 7 84 82 83,oF 6 85 84,oL 86 85,oQ 87 86,oB .lss 88 81 87]) (oT 88 6)) (.seq (.block 7 (.seq (oR [oM 91 13,oM 92 14,oI 7 93 91 92,oF 6 94 93,oL 95 94,oM 96 15,oI 1 97 95 96,oL 98 97,oM 99 2,oB .eql 100 98 99]) (.cond (.tmp 100) (oR [oM 101 9,oM 102 13,oM 103 14,oI 7 104 102 103,oF 5 105 104,oL 106 105,oM 107 15,oI 1 108 106 107,oL 109 108,oI 1 110 101 109,⟨none,none,(.store 1 (.tmp 110) (.const (.bool true)))⟩]) .skip))) (oR [oM 89 15,oC .add 90 89 1,oM 15 90])))
def body39_2:ACode:=(.seq (.seq (oR [oM 75 14,oM 76 13,oQ 77 76,oB .lss 78 75 77]) (oT 78 4)) (.seq (.block 5 (.seq (oR [oN 15 0]) (.block 6 (.loop body39_1)))) (oR [oM 79 14,oC .add 80 79 1,oM 14 80])))
def body39_3:ACode:=(.seq (.seq (oR [oM 31 11,oM 32 10,oQ 33 32,oB .lss 34 31 33]) (oT 34 0)) (.seq (.block 1 (.seq (.seq (oR [oN 12 0]) (.block 2 (.loop body39_0))) (.seq (.regionC [oU (oF 1 62 4),oU (oL 63 62),oU (oM 64 1),oU (oI 2 65 63 64),oU (oF 1 66 65),oU (oL 67 66),oU (oM 68 10),oU (oM 69 11),oU (oI 1 70 68 69),oU (oL 71 70),oU (oI 5 72 67 71),oU (oF 0 73 72),oU (oL 74 73),oU (oM 13 74)]) (.seq (oR [oN 14 0]) (.block 4 (.loop body39_2)))))) (oR [oM 35 11,oC .add 36 35 1,oM 11 36])))
def body39:ACode:=(.seq (oR [oX 4 0,oK 8 (.slice none 0 0)]) (.seq (oR [oA 2 16 4,oM 17 1,o2 18 38 16 17,⟨some 19,none,(.mkSlice 1 [(.bool false)] (.tmp 18) (.tmp 18))⟩,oM 9 19]) (.seq (oR [oF 1 20 4,oL 21 20,oM 22 1,oI 2 23 21 22,oF 1 24 23,oL 25 24,oM 26 2,oI 5 27 25 26,oF 1 28 27,oA 4 29 28,o1 30 56 29,oM 10 30]) (.seq (.seq (oR [oN 11 0]) (.block 0 (.loop body39_3))) (.seq (oR [oM 111 9,oM 8 111]) .ret)))))
theorem tab39:tb.code 39=some ⟨112,[(8,none)],body39⟩:=by kernel_rfl
theorem zIQ (h:AHeap) (vt vf v:Value) (T:List LType) (F:List LFn) (f:Int) (L:List LBlk) (par:Int) (E:En h vt vf T F) (O:FnOk T F f L par) (U:∀ b∈L,BlkU b (zd par L) L.length) (b:Int) (Bs:List (List Bool)) (hb:0≤b∧b<(L.length:Int)) (sv:SlBs h v Bs) (hBs:Bs.length=L.length) (hB:∀ i,i<Bs.length→((Bs.getD i []).length:Int)=zd par L):
  WC Tryz.prog tb 39 [.agg #[vt,vf],I f,I b,v] h fun r h'=>(∃ cs,OwnBo h h' r cs∧(cs.length:Int)=zd par L∧∀ r,0≤r→(bT cs r↔ZQ L (bB Bs) b r))∧Ext h h':=by
 have O':=O;obtain⟨f0,f1,hp,hask,hL,p0,p1,hlen,hmany,hins,hfn⟩:=O;have hN:zd par L≤300:=by unfold zd;omega
 have hmp:=yQ L;have hN0:0≤zd par L:=by unfold zd;omega
 obtain⟨Ui,Ue,Un⟩:=U _ (zI (l:=L) (i:=b.toNat) (by omega));have U:=Hid.mk U;have Un:=Hid.mk Un;have hB:=Hid.mk hB;have hins:=Hid.mk hins;clear Ui Ue;have hsig:=zFN (show (zq T F f).2=0 by rw[hask]);have hcnt:=fun h E=>zCK h vt vf T F f E ⟨f0,f1⟩ hsig;have hpar:par=((T.getD (F.getD f.toNat default).sig.toNat default).parts.length:Int):=by
  have:=(Y5 (show (zq T F f).2=0 by rw[hask])).2.2.2;rw[hask]at this;exact congrArg Prod.fst this
 rw[←hpar,←hL,show par+zo L=zd par L from rfl]at hcnt;obtain⟨ta,tn,tk,rfl⟩:=zD E.st;obtain⟨ga,gn,gk,rfl⟩:=zD E.sf;obtain⟨csF,⟨vb,rfl,sb,hlb⟩,pF,hsF⟩:=zh (i:=f.toNat) E.sf (by omega);rw[←hL]at sb hlb;obtain⟨csB,⟨vi,rfl,si,hli⟩,pB,hsB⟩:=zh (i:=b.toNat) sb (by omega);obtain⟨ba,bn,bk,rfl⟩:=zD sb;obtain⟨ia,iN,ik,rfl⟩:=zD si;obtain⟨x1,x2,x3,rfl⟩:=zD sv;refine WC.of (zE 39) tab39 ?_;simp only[zK,Nat.zero_add,Nat.reduceAdd];refine go ?_;refine WO.bx ?_;intro p h1 e1 o1;have E1:=E.ext e1;refine go ?_;refine WO.con (hcnt h1 E1) ?_;rintro _ h2 ⟨rfl,e2⟩;have e02:=e1.trans e2;have o1:=o1.ext e2;obtain⟨N,hNN⟩:∃ N:Nat,zd par L=(N:Int):=⟨(zd par L).toNat,by omega⟩;rw[hNN];refine go ?_;refine WO.mkBo (n:=N) (by omega) ?_;intro v3 h3 e3 o3;have e13:=e2.trans e3;have e03:=e1.trans e13;have o13:=o1.ext e3;have sf3:=(E.ext e03).sf;have sb3:=SlB.ext sb e03;have pcF:=(pF h3 e03).1;have pcB:=(pB h3 e03).1;refine go ?_;refine WO.con (to_ok h3 (L.getD b.toNat default).fin) ?_;rintro vn h4 ⟨on,e4⟩;have e24:=e3.trans e4;have hvg:Hid (∀ a n k,v3= .slice (some a) n k→a.block<h3.n):=⟨fun a n k e=>by
  obtain⟨g,q1,q2,q3,q4⟩:=o3;rw[q3]at e;cases e;exact q2⟩
 have o3:=o3.ext e4;obtain⟨xa,xn,xk,hv3⟩:∃ a n k,v3= .slice a n k:=by obtain⟨g,_,_,e,_⟩:=o3;exact⟨_,_,_,e⟩
 subst hv3;have hnx:Zk (L.getD b.toNat default).fin=nxL L b:=rfl;rw[hnx]at on Un;have hll:(nxL L b).length≤2:=zFq _;generalize hl:nxL L b=l at *;obtain⟨la,ln,lk,rfl⟩:=SlC.shape on.sl;have sv2:=SlBs.ext sv e02;have pF2:Hid (∀ h',Ext h2 h'→Piece h' (.slice ga gn gk) (f.toNat * 2) [I (F.getD f.toNat default).sig,.slice ba bn bk]∧Piece (inC h') (.slice ga gn gk) (f.toNat * 2) [I (F.getD f.toNat default).sig,.slice ba bn bk]):=⟨fun h' e=>pF h' (e02.trans e)⟩;have sb2:=SlB.ext sb e02;have sf2:=(E.ext e02).sf;clear pB pF pcF pcB sf3 sb3 sb si hcnt E1 hli hlb e13 e03 o13 e4;have hzero:∀ r,¬bT (List.replicate N false) r:=fun r h=>by
  unfold bT bO at h;rw[List.getD_eq_getElem?_getD,List.getElem?_replicate]at h;split at h<;>cases h
 refine go ?_;refine WX.loopA [31,32,33,34,12,37,38,39,40,43,44,45,46,47,48,49,50,51,52,53,54,55,56,57,58,59,60,61,41,42,12,62,63,64,65,66,67,68,69,70,71,72,73,74,13,14,75,76,77,78,15,81,82,83,84,85,86,87,88,91,92,93,94,95,96,97,98,99,100,101,102,103,104,105,106,107,108,109,110,89,90,15,79,80,14,35,36,11] (by kernel_rfl) (fun i=>l.length - i) (fun i t ht=>Ext h2 ht∧h4.n≤ht.n∧zC t 11=I i∧i≤l.length∧OwnN h3 ht (.slice la ln lk) l∧∃ cs,OwnBo h2 ht (.slice xa xn xk) cs∧cs.length=N∧Hid (∀ r,0≤r→(bT cs r↔∃ m,m<i∧(bB Bs (l.getD m 0) r∨r∈Y6 (L.getD (l.getD m 0).toNat default) b)))) 0 ?_ ?_
 ·exact⟨e24,Nat.le_refl _,sl_,Nat.zero_le _,on,_,o3,by simp,⟨fun r _=>⟨fun h=>absurd h (hzero r),fun ⟨m,hm,_⟩=>absurd hm (Nat.not_lt_zero _)⟩⟩⟩
 clear e24 on o3 hzero;rintro i t ht hsame ⟨et,nt,s11,hi,on,cs,oc,lc,hI⟩;have sn:=on.sl;refine go ?_;refine WX.br (fun hc=> ?_) (fun hc=> ?_)<;>simp only[DB]at hc;case refine_2=>
  have hii:i=l.length:=by omega
  subst hii;refine go ?_;refine rt ?_;refine⟨⟨cs,OwnBo.since oc e02,by rw[lc],fun r hr=> ?_⟩,e02.trans et⟩;rw[hI.out r hr];unfold ZQ;rw[hl];constructor
  ·rintro⟨m,hm,h⟩;exact⟨_,yH hm,h⟩
  ·rintro⟨c,hc,h⟩;obtain⟨m,hm,rfl⟩:=List.getElem_of_mem hc;exact⟨m,hm,by rw[List.getD_eq_getElem?_getD,List.getElem?_eq_getElem hm];exact h⟩
 have hi':i<l.length:=by omega
 have hci:=Un.out _ (yH hi');generalize hc0:l.getD i 0=c at *;refine go ?_;refine WX.loopA [37,38,39,40,43,44,45,46,47,48,49,50,51,52,53,54,55,56,57,58,59,60,61,41,42,12] (by kernel_rfl) (fun r0=>N - r0) (fun r0 t ht=>Ext h2 ht∧h4.n≤ht.n∧zC t 12=I r0∧r0≤N∧OwnN h3 ht (.slice la ln lk) l∧∃ ds,OwnBo h2 ht (.slice xa xn xk) ds∧ds.length=N∧Hid (∀ r,0≤r→(bT ds r↔bT cs r∨(r<r0∧bB Bs c r)))) 0 ?_ ?_
 ·exact⟨et,nt,sl_,Nat.zero_le _,on,cs,oc,lc,⟨fun r hr=>⟨.inl,fun h=>h.elim id fun h=>by have:=h.1;omega⟩⟩⟩
 ·clear et nt on oc;rintro r0 t2 ht hsame2 ⟨et,nt,s12,hr0,on,ds,od,ld,hD⟩;have sn:=on.sl;have sod:=od.sl;refine go ?_;refine WX.br (fun hc2=> ?_) (fun hc2=> ?_)<;>simp only[DB]at hc2
  ·have hrd:r0<ds.length:=by omega
   obtain⟨_,rfl,pd,hsd⟩:=zh sod hrd;have pd:=(pd ht (Ext.refl _)).1;have svt:=SlBs.ext sv2 et;obtain⟨_,⟨vr,rfl,svr⟩,pr,hsr⟩:=zh (i:=c.toNat) svt (by omega);have pr:=(pr ht (Ext.refl _)).1;have hBc:=hB.out c.toNat (by omega);have hrow:(Bs.getD c.toNat default)=Bs.getD c.toNat []:=rfl;rw[hrow]at svr;obtain⟨y1,y2,y3,rfl⟩:=zD svr;have hrr:r0<(Bs.getD c.toNat []).length:=by omega
   obtain⟨_,rfl,pq,hsq⟩:=zh svr hrr;have pq:=(pq ht (Ext.refl _)).1;have hbO1:bT ds r0↔ds.getD r0 default=true:=by unfold bT bO;rw[Int.toNat_natCast];rfl
   have hbO2:bB Bs c r0↔(Bs.getD c.toNat []).getD r0 default=true:=by unfold bB bT bO;rw[Int.toNat_natCast];rfl
   have fin:∀ x:Bool,(x=true↔bT ds r0∨bB Bs c r0)→Hid (∀ r,0≤r→(bT (ds.set (r0:Int).toNat x) r↔bT cs r∨(r<((r0+1:Nat):Int)∧bB Bs c r))):=fun x hx=>⟨fun r hr=>by
    rw[zDN (by omega) hr];split
    ·rename_i e;subst e;rw[hx,hD.out _ hr];have h1:((r0:Int)<((r0+1:Nat):Int))=True:=by simp;omega
     have h2:((r0:Int)<(r0:Int))=False:=by simp
     rw[h1,h2];simp
    ·rename_i e;rw[hD.out r hr];have h1:(r<((r0+1:Nat):Int))=(r<(r0:Int)):=by rw[eq_iff_iff];omega
     rw[h1]⟩
   rw[Int.toNat_natCast]at fin;cases hv:ds.getD r0 default with
   |true=>
    rw[hv]at pd;refine go ?_;refine WO.stBo (i:=r0) (b:=true) od et hrd ?_;intro h7 e7 o7 u7;have n7:=u7.1;refine go ?_;exact zA (r0+1) (by omega) ⟨e7,by omega,sln,by omega,zBq on u7 hvg.out,_,o7,by rw[List.length_set];exact ld,fin true (by rw[hbO1,hv];simp)⟩
   |false=>
    rw[hv]at pd;rw[←hc0]at pr;refine go ?_;refine WO.stBo (i:=r0) (b:=(Bs.getD c.toNat []).getD r0 default) od et hrd ?_;intro h7 e7 o7 u7;have n7:=u7.1;refine go ?_;exact zA (r0+1) (by omega) ⟨e7,by omega,sln,by omega,zBq on u7 hvg.out,_,o7,by rw[List.length_set];exact ld,fin _ (by rw[hbO1,hv,hbO2];simp)⟩
  ·have hr0N:r0=N:=by omega
   subst hr0N;have hD:Hid (∀ r,0≤r→(bT ds r↔bT cs r∨bB Bs c r)):=⟨fun r hr=>by
    rw[hD.out r hr];refine or_congr Iff.rfl ⟨fun h=>h.2,fun h=>⟨?_,h⟩⟩;have h1:=bT_lt h;have h2:=hB.out c.toNat (by omega);omega⟩
   have pF3:=pF2.out ht et;have pcF:=pF3.1;have pcX:=pF3.2;have sft:=SlF.ext sf2 et;have sbt:=SlB.ext sb2 et;obtain⟨csC,⟨vic,rfl,sic2,hlc⟩,pC,hsC⟩:=zh (i:=c.toNat) sb2 (by omega);have pC1:=(pC ht et).1;obtain⟨ic1,ic2,ic3,rfl⟩:=zD sic2;have hUc:=(U.out _ (zI (l:=L) (i:=c.toNat) (by omega))).ins;have hic:=hins.out _ (zI (l:=L) (i:=c.toNat) (by omega));have o1t:=o1.ext et;rw[←hc0]at pC1;refine go ?_;refine WX.loopA [75,76,77,78,15,81,82,83,84,85,86,87,88,91,92,93,94,95,96,97,98,99,100,101,102,103,104,105,106,107,108,109,110,89,90,15,79,80,14] (by kernel_rfl) (fun n=>(L.getD c.toNat default).ins.length - n) (fun n t ht=>Ext h2 ht∧h4.n≤ht.n∧zC t 14=I n∧n≤(L.getD c.toNat default).ins.length∧OwnN h3 ht (.slice la ln lk) l∧∃ ds,OwnBo h2 ht (.slice xa xn xk) ds∧ds.length=r0∧Hid (∀ r,0≤r→(bT ds r↔(bT cs r∨bB Bs c r)∨PhU (L.getD c.toNat default).ins b n r))) 0 ?_ ?_
   ·exact⟨et,nt,sl_,Nat.zero_le _,on,ds,od,ld,⟨fun r hr=>by
     rw[hD.out r hr];exact⟨.inl,fun h=>h.elim id fun ⟨m,hm,_⟩=>absurd hm (Nat.not_lt_zero _)⟩⟩⟩
   clear et nt on od hD pC pC1 hsC pF3 pcF pcX sft sbt o1t hlc sod sn;rintro n t5 ht hsame5 ⟨et,nt,s14,hn,on,ds,od,ld,hD⟩;have sic:=SlN.ext sic2 et;refine go ?_;refine WX.br (fun hc3=> ?_) (fun hc3=> ?_)<;>simp only[DB]at hc3
   ·have hn':n<(L.getD c.toNat default).ins.length:=by omega
    obtain⟨csx,rx,px,hsx⟩:=zh sic2 hn';have hux:=hUc _ (zI hn');generalize hxx:(L.getD c.toNat default).ins.getD n default=x at *;obtain⟨xva,xvf,rfl,sxa,sxf,hla,hlf,ho⟩:=id rx;obtain⟨va1,va2,va3,rfl⟩:=zv sxa;obtain⟨vf1,vf2,vf3,rfl⟩:=zv sxf;have px:=Hid.mk fun h' e=>(px h' e).1;refine go ?_;refine WX.loopA [81,82,83,84,85,86,87,88,91,92,93,94,95,96,97,98,99,100,101,102,103,104,105,106,107,108,109,110,89,90,15] (by kernel_rfl) (fun k=>x.frm.length - k) (fun k t ht=>Ext h2 ht∧h4.n≤ht.n∧zC t 15=I k∧k≤x.frm.length∧OwnN h3 ht (.slice la ln lk) l∧∃ ds,OwnBo h2 ht (.slice xa xn xk) ds∧ds.length=r0∧Hid (∀ r,0≤r→(bT ds r↔((bT cs r∨bB Bs c r)∨PhU (L.getD c.toNat default).ins b n r)∨∃ m,m<k∧x.frm.getD m 0=b∧x.args.getD m 0=r))) 0 ?_ ?_
    ·exact⟨et,nt,sl_,Nat.zero_le _,on,ds,od,ld,⟨fun r hr=>by
      rw[hD.out r hr];exact⟨.inl,fun h=>h.elim id fun ⟨m,hm,_⟩=>absurd hm (Nat.not_lt_zero _)⟩⟩⟩
    clear et nt on od hD sic rx ds ld;rintro k t6 ht hsame6 ⟨et,nt,s15,hk,on,ds,od,ld,hD⟩;have sic:=SlN.ext sic2 et;have pxt:=px.out ht et;have sxa:=SlI.ext sxa et;have sxf:=SlI.ext sxf et;have sod:=od.sl;refine go ?_;refine WX.br (fun hc4=> ?_) (fun hc4=> ?_)<;>simp only[DB]at hc4
    ·have hk':k<x.frm.length:=by omega
     have h22:x.op=22:=Classical.byContradiction fun e=>by have:=hux.none e;omega
     have hph:=hux.phi h22;have hka:k<x.args.length:=by omega
     have hin:=hph.2.1 _ (yH hka);have fin:∀ es:List Bool,(∀ r,0≤r→(bT es r↔(x.frm.getD k 0=b∧x.args.getD k 0=r)∨bT ds r))→Hid (∀ r,0≤r→(bT es r↔((bT cs r∨bB Bs c r)∨PhU (L.getD c.toNat default).ins b n r)∨∃ m,m<k+1∧x.frm.getD m 0=b∧x.args.getD m 0=r)):=fun es he=>⟨fun r hr=>by
      rw[he r hr,hD.out r hr];constructor
      ·rintro(h|h|⟨m,h1,h2⟩)
       ·exact .inr ⟨k,by omega,h⟩
       ·exact .inl h
       ·exact .inr ⟨m,by omega,h2⟩
      ·rintro(h|⟨m,h1,h2⟩)
       ·exact .inr (.inl h)
       ·by_cases e:m=k
        ·subst e;exact .inl h2
        ·exact .inr (.inr ⟨m,by omega,h2⟩)⟩
     refine go ?_;refine WX.br (fun hc5=> ?_) (fun hc5=> ?_)<;>simp only[DB]at hc5
     ·refine go ?_;refine WO.stBo (i:=(x.args.getD k 0).toNat) (b:=true) od et (by omega) ?_;intro h7 e7 o7 u7;have n7:=u7.1;refine go ?_;refine zA (k+1) (by omega) ⟨e7,by omega,sln,by omega,zBq on u7 hvg.out,_,o7,by rw[List.length_set];exact ld,fin _ fun r hr=> ?_⟩;rw[zDN (by omega) hr];split
      ·rename_i e;exact⟨fun _=> .inl ⟨hc5,e.symm⟩,fun _=>rfl⟩
      ·rename_i e;exact⟨.inr,fun h=>h.elim (fun h=>absurd h.2.symm e) id⟩
     ·refine go ?_;refine zA (k+1) (by omega) ⟨et,by omega,sln,by omega,on,_,od,ld,fin _ fun r hr=> ?_⟩;exact⟨.inr,fun h=>h.elim (fun h=>absurd h.1 hc5) id⟩
    ·have hkk:k=x.frm.length:=by omega
     refine go ?_;refine zA (n+1) (by omega) ⟨et,by omega,sln,by omega,on,_,od,ld,⟨fun r hr=> ?_⟩⟩;rw[hD.out r hr,hkk,or_assoc (a:=bT cs r∨bB Bs c r)];refine or_congr Iff.rfl ⟨?_,?_⟩
     ·rintro(⟨m,h1,h2⟩|⟨m,h1,h2,h3⟩)
      ·exact⟨m,by omega,h2⟩
      ·exact⟨n,by omega,m,by rw[hxx];exact h1,by rw[hxx];exact h2,by rw[hxx];exact h3⟩
     ·rintro⟨m,h1,k',h2,h3,h4⟩;by_cases e:m=n
      ·subst e;rw[hxx]at h2 h3 h4;exact .inr ⟨k',h2,h3,h4⟩
      ·exact .inl ⟨m,by omega,k',h2,h3,h4⟩
   ·have hnn:n=(L.getD c.toNat default).ins.length:=by omega
    refine go ?_;refine zA (i+1) (by omega) ⟨et,by omega,sln,by omega,on,_,od,ld,⟨fun r hr=> ?_⟩⟩;rw[hD.out r hr,hnn,phU_all hUc,hI.out r hr,or_assoc];constructor
    ·rintro(⟨m,h1,h2⟩|h)
     ·exact⟨m,by omega,h2⟩
     ·exact⟨i,by omega,by rw[hc0];exact h⟩
    ·rintro⟨m,h1,h2⟩;by_cases e:m=i
     ·subst e;rw[hc0]at h2;exact .inr h2
     ·exact .inl ⟨m,by omega,h2⟩
end
end Go.Proofs.YtemggiegiejopaaGreatDoor
