/- What functions of the program come to in the abstract machine, and plain laws about it; no statement of the seat is proved in this text. -/
import Derived.Test.YteekipjpghikkaaGreatDoorJb
set_option linter.unusedVariables false
set_option linter.unusedSimpArgs false
set_option maxHeartbeats 4000000
namespace Go.Proofs.YteekipjpghikkaaGreatDoor
open Go.Am
set_option maxRecDepth 100000
theorem yA {h h':AHeap} (e:Ext h h') (hm:h.mark<=h.n):h'.mark<=h'.n:=by have:=e.mark;have:=e.n;omega
noncomputable def zT6:ACode:=(oV (oR [oX 2 0,oZ 3]) (oV (oR [oA 2 4 1,oA 2 5 2,o2 6 65 4 5,oW 7 6,oM 3 7]) .ret))
theorem zQe (h h0:AHeap) (p vt vf:Value) (T:List LType) (F:List LFn) (f:LFn) (cs:List Value) (tt:Tbl h) (hm:h.mark<=h.n) (sm:Small T F) (hf:f∈F) (st:SlT h vt T) (sf:SlF h vf F) (hR:RFn h cs f) (o:OwnC h0 h p [vt,vf]):
  WC Tryz.prog tb 64 [.agg cs.toArray,p] h fun r h'=>r= .bool (!fnL T F.length f)/\Ext h h':=by
 obtain⟨vb,rfl,sb,hl⟩:=hR;refine en 8 [(3,none)] zT6 ?_;refine WO.bx ?_;intro p2 h1 e1 o1;have o:=o.ext e1;refine go ?_;refine WO.con (zU5 h1 vt vf vb T F f (tt.ext e1) (yA e1 hm) (st.ext e1) (SlF.ext sf e1) (SlB.ext sb e1) sm.types sm.parts (by have:=sm.funcs;omega) (sm.blocks f hf) (sm.ins f hf)) ?_;rintro _ h2 ⟨rfl,e2⟩;refine gr ?_;exact⟨rfl,e1.trans e2⟩
noncomputable def zUE:ACode:=(oV (oR [oX 1 0,oN 2 0]) (oV (oV (oR [oF 0 4 1,oL 5 4,o1 6 62 5,oM 3 6]) (oV (oR [oM 7 3,oC .neq 8 7 0]) (oJ 8 (oV (oR [oM 9 3,oM 2 9]) .ret) .skip))) (oV (oV (oR [oF 1 10 1,oL 11 10,oQ 12 11,oC .sub 13 12 1,⟨some 14,none,(.call (.func 39) [(.tmp 13),(.const (.int .i64 8))])⟩,oW 15 14,oM 16 15,oH 16 (oF 1 17 1),oH 16 (oL 18 17),⟨some 19,some (16,false),(.mkFunc (.func 64) [] [(.tmp 1)])⟩,oH 16 (o2 20 63 18 19),oO 21 16 20]) (oJ 21 (oV (oR [oN 2 60]) .ret) .skip)) (oV (oR [oN 2 0]) .ret))))
theorem zKU (h:AHeap) (vt vf:Value) (T:List LType) (F:List LFn) (tt:Tbl h) (hm:h.mark<=h.n) (sm:Small T F) (st:SlT h vt T) (sf:SlF h vf F):
  WC Tryz.prog tb 30 [.agg #[vt,vf]] h fun r h'=>r=I (Zq T F)/\Ext h h':=by
 refine en 22 [(2,none)] zUE ?_;refine WO.bx ?_;intro p h1 e1 o1;have st1:=st.ext e1;refine go ?_;refine WO.con (zPA h1 vt T st1 sm.types sm.parts) ?_;rintro _ h2 ⟨rfl,e2⟩;have e12:=e1.trans e2;have o1:=o1.ext e2;have st2:=st1.ext e2;have sf2:=SlF.ext sf e12;have tt2:=tt.ext e12;have hF:=sm.funcs;refine go ?_;refine WX.br (fun hb=> ?_) (fun hb=> ?_)<;>simp only[DB]at hb<;>refine go ?_
 ·refine rt ?_;exact⟨by rw[Zq,QI hb];rfl,e12⟩
 refine WO.con (yj h2 ((F.length:Int) - 1) 8) ?_;rintro _ _ ⟨rfl,rfl⟩;refine go ?_;refine WO.sp (fun hc=> ?_) (fun hc=> ?_)<;>simp only[DB]at hc<;>refine go ?_
 ·refine rt ?_;exact⟨by rw[Zq,QD (by omega),hc];simp[one],e12⟩
 refine WO.con (zST h2 vf _ F (fun f=> !fnL T F.length f) sf2 (by omega) ?_) ?_
 ·intro f hf h3 e3 cs hcs;exact WV.func (zQe h3 h p vt vf T F f cs (tt2.ext e3) (yA (e12.trans e3) hm) sm hf (st2.ext e3) (SlF.ext sf2 e3) hcs (o1.ext e3))
 rintro _ h3 ⟨rfl,e3⟩;refine go ?_;refine WX.br (fun hd=> ?_) (fun hd=> ?_)<;>refine go ?_<;>refine rt ?_<;>refine⟨?_,e12.trans e3⟩<;>rw[Zq,QD (by omega),hc,hd]
 ·simp[one]
 ·simp[one]
theorem zAP {T:List LType} {F:List LFn} (h:Zq T F=0):ZR T=0/\1<=F.length/\F.length<=8/\∀ f∈F,fnL T F.length f=true:=by
 unfold Zq at h;split at h
 ·rename_i hc;exact absurd h hc
 ·rename_i hc;split at h
  ·cases h
  ·rename_i hd;simp only[GA,not_or,JQ,Bool.not_eq_false']at hd;have h1:zW ((F.length:Int) - 1) 8=true:=by simpa using hd.1
   unfold zW at h1;simp only[QJ,Qb]at h1;refine⟨by omega,by omega,by omega,fun f hf=> ?_⟩;have:=G8.1 hd.2 f hf;simpa using this
theorem zHE {T:List LType} {n:Int} {f:LFn} (h:fnL T n f=true):0<=f.sig/\f.sig<(T.length:Int):=by
 unfold fnL at h;split at h
 ·cases h
 ·rename_i hb;unfold zB8 at hb;simp only[GA,not_or,JQ,Bool.not_eq_false']at hb;have h1:zW f.sig T.length=true:=by simpa using hb.1.1.1
  unfold zW at h1;simpa using h1
noncomputable def zS9:ACode:=(oV (oR [oX 2 0,oN 4 0,oN 5 0]) (oV (oV (oR [oA 2 7 2,o1 8 30 7,oM 6 8]) (oV (oR [oM 9 6,oC .neq 10 9 0]) (oJ 10 (oV (oR [oM 11 6,oN 4 0,oM 5 11]) .ret) .skip))) (oV (oV (oR [oM 12 1,oF 1 13 2,oL 14 13,oQ 15 14,o2 16 39 12 15,oW 17 16]) (oJ 17 (oV (oR [oN 4 0,oN 5 2]) .ret) .skip)) (oV (o6 [oF 0 18 2,oL 19 18,oF 1 20 2,oL 21 20,oM 22 1,oI 2 23 21 22,oF 0 24 23,oL 25 24,oI 4 26 19 25,oF 3 27 26,oL 28 27,oQ 29 28,oM 4 29,oN 5 0]) .ret))))
theorem zIk (h:AHeap) (vt vf:Value) (T:List LType) (F:List LFn) (f:Int) (tt:Tbl h) (hm:h.mark<=h.n) (sm:Small T F) (st:SlT h vt T) (sf:SlF h vf F):
  WC Tryz.prog tb 38 [.agg #[vt,vf],I f] h fun r h'=>r= .tuple #[I (yl T F f).1,I (yl T F f).2]/\Ext h h':=by
 refine en 30 [(4,none),(5,none)] zS9 ?_;refine WO.bx ?_;intro p h1 e1 o1;refine go ?_;refine WO.con (zKU h1 vt vf T F (tt.ext e1) (yA e1 hm) sm (st.ext e1) (SlF.ext sf e1)) ?_;rintro _ h2 ⟨rfl,e2⟩;have e12:=e1.trans e2;have o1:=o1.ext e2;have st2:=st.ext e12;have sf2:=SlF.ext sf e12;have hF:=sm.funcs;refine go ?_;refine WX.br (fun hb=> ?_) (fun hb=> ?_)<;>simp only[DB]at hb<;>refine go ?_
 ·refine rt ?_;exact⟨by rw[yl,QI hb];rfl,e12⟩
 have hb:Zq T F=0:=by omega
 refine WO.con (yj h2 f F.length) ?_;rintro _ _ ⟨rfl,rfl⟩;refine go ?_;refine WX.br (fun hc=> ?_) (fun hc=> ?_)<;>simp only[DB]at hc<;>refine go ?_
 ·refine rt ?_;exact⟨by rw[yl,QD (by omega),hc,QD (by exact Bool.noConfusion)];rfl,e12⟩
 have hf:0<=f/\f<(F.length:Int):=by unfold zW at hc;simpa using hc
 obtain⟨csF,⟨vb,rfl,sb,hlb⟩,pcF,hsF⟩:=yN (i:=f.toNat) sf2 (by omega);have hsig:=zHE ((zAP hb).2.2.2 _ (zH (l:=F) (i:=f.toNat) (by omega)));obtain⟨csT,⟨vp,rfl,sp,hsp⟩,pcT,hsT⟩:=YI (i:=(F.getD f.toNat default).sig.toNat) st2 (by omega);refine gr ?_;exact⟨by rw[yl,QD (by omega),hc,QI rfl];rfl,e12⟩
noncomputable def zS7:ACode:=(oV (oR [oX 2 0,oN 4 0,oN 5 0]) (oV (oR [oA 2 9 2,oM 10 1,o2 11 38 9 10,oM 8 11,oE 12 8 0,oE 13 8 1,oM 6 12,oM 7 13]) (oV (oV (oR [oM 14 7,oC .neq 15 14 0]) (oJ 15 (oV (oR [oM 16 7,oN 4 0,oM 5 16]) .ret) .skip)) (oV (oR [oM 17 6,oF 1 18 2,oL 19 18,oM 20 1,oI 2 21 19 20,oA 2 22 21,o1 23 40 22,oB .add 24 17 23,oM 4 24,oN 5 0]) .ret))))
theorem zP8 (h:AHeap) (vt vf:Value) (T:List LType) (F:List LFn) (f:Int) (tt:Tbl h) (hm:h.mark<=h.n) (sm:Small T F) (st:SlT h vt T) (sf:SlF h vf F):
  WC Tryz.prog tb 78 [.agg #[vt,vf],I f] h fun r h'=>r= .tuple #[I (Yb T F f).1,I (Yb T F f).2]/\Ext h h':=by
 refine en 25 [(4,none),(5,none)] zS7 ?_;refine WO.bx ?_;intro p h1 e1 o1;refine go ?_;refine WO.con (zIk h1 vt vf T F f (tt.ext e1) (yA e1 hm) sm (st.ext e1) (SlF.ext sf e1)) ?_;rintro _ h2 ⟨rfl,e2⟩;have e12:=e1.trans e2;have o1:=o1.ext e2;have sf2:=SlF.ext sf e12;have hF:=sm.funcs;refine go ?_;refine WX.br (fun hb=> ?_) (fun hb=> ?_)<;>simp only[DB]at hb<;>refine go ?_
 ·refine rt ?_;exact⟨by rw[Yb,QI hb];rfl,e12⟩
 have hb2:(yl T F f).2=0:=by omega
 have hin:0<=f/\f<(F.length:Int)/\Zq T F=0:=by
  unfold yl at hb2;split at hb2
  ·rename_i hp;exact absurd hb2 hp
  ·rename_i hp;split at hb2
   ·rename_i hc;unfold zW at hc;simp at hc;exact⟨hc.1,hc.2,by omega⟩
   ·cases hb2
 obtain⟨csF,⟨vb,rfl,sb,hlb⟩,pcF,hsF⟩:=yN (i:=f.toNat) sf2 (by omega);have hmem:=zH (l:=F) (i:=f.toNat) (by omega);refine go ?_;refine WO.con (zD0 h2 _ vb _ sb (sm.blocks _ hmem) (sm.ins _ hmem)) ?_;rintro _ h3 ⟨rfl,e3⟩;have hfn:=(zAP hin.2.2).2.2.2 _ hmem;have hbd:zt (F.getD f.toNat default).blocks<=128:=by
  unfold fnL at hfn;split at hfn
  ·cases hfn
  ·rename_i hbad;unfold zB8 at hbad;simp only[GA,not_or,JQ,JH]at hbad;omega
 have hpos:=ZK (F.getD f.toNat default).blocks;have hn:0<=(yl T F f).1/\(yl T F f).1<=100:=by
  unfold yl;split
  ·simp
  ·split
   ·have hs:=zHE hfn;have:=sm.parts _ (zH (l:=T) (i:=(F.getD f.toNat default).sig.toNat) (by omega));simp only;omega
   ·simp
 refine gr ?_;exact⟨by rw[Yb,QD (by omega)];rfl,e12.trans e3⟩
set_option maxRecDepth 100000
noncomputable def zNo:ACode:=(oV (oV (oR [oM 4 3,oM 5 0,oQ 6 5,oB .lss 7 4 6,oM 8 7,oG 8 (oM 9 3),oG 8 (oC .lss 10 9 30),oP 11 8 10]) (oT 11 0)) (oV (o5 1 (oV (oR [oM 14 0,oM 15 3,oI 4 16 14 15,oF 3 17 16,oL 18 17,oQ 19 18,oC .gtr 20 19 20]) (oJ 20 (oV (oR [oK 2 (.bool true)]) .ret) .skip))) (oR [oM 12 3,oC .add 13 12 1,oM 3 13])))
noncomputable def zTy:ACode:=(oV (oR [oZ 2]) (oV (oV (oR [oN 3 0]) (o5 0 (.loop zNo))) (oV (oR [oM 21 0,oQ 22 21,oC .gtr 23 22 20,oM 2 23]) .ret)))
theorem zMA (h:AHeap) (vt:Value) (T:List LType) (st:SlT h vt T) (hT:(T.length:Int)<=9223372036854775807):
  WC Tryz.prog tb 24 [vt] h fun r h'=>(r= .bool true\/r= .bool false/\T.length<=20/\∀ x∈T,x.parts.length<=20)/\h=h':=by
 refine en 24 [(2,none)] zTy ?_;refine WX.loopA [4,5,6,7,8,9,10,11,14,15,16,17,18,19,20,2,12,13,3] (by kernel_rfl) (fun i=>T.length - i) (fun i t h1=>h=h1/\zB t 3=I i/\i<=T.length/\∀ j,j<i->(T.getD j default).parts.length<=20) 0 ?_ ?_
 ·exact⟨rfl,sl_,QV _,fun j hj=>absurd hj (GG _)⟩
 rintro i t _ hsame ⟨rfl,s3,hi,hm⟩;have fin:(20<(T.length:Int))\/(i=T.length/\T.length<=20)\/i<T.length:=by omega
 refine go ?_;refine WO.sp (fun hb=> ?_) (fun hb=> ?_)<;>simp only[DB]at hb<;>refine go ?_
 ·obtain⟨cs,⟨va,rfl,sa,hla⟩,pc,hs⟩:=YI st (show i<T.length by omega);refine WX.br (fun hc=> ?_) (fun hc=> ?_)<;>simp only[DB]at hc
  ·refine go ?_;refine WX.br (fun hd=> ?_) (fun hd=> ?_)<;>simp only[DB]at hd
   ·refine gr ?_;exact⟨.inl rfl,rfl⟩
   ·refine go ?_;refine zA (i+1) (by omega) ⟨rfl,sln,by omega,fun j hj=> ?_⟩;by_cases e:j=i
    ·subst e;omega
    ·exact hm j (by omega)
  ·refine gr ?_;refine⟨.inl ?_,rfl⟩;rw[QZ (show (20:Int)<T.length by omega)];rfl
 ·refine rt ?_;refine⟨?_,rfl⟩;by_cases hg:20<(T.length:Int)
  ·left;rw[QZ hg];rfl
  ·right;refine⟨by rw[QT hg];rfl,by omega,fun x hx=> ?_⟩;obtain⟨j,hj,rfl⟩:=YH hx;exact hm j (by omega)
def zTi (F:List LFn):Prop:=∀ f∈F,∀ b∈f.blocks,∀ x∈b.ins,x.args.length<=20/\x.frm.length<=20
theorem zO1 {T:List LType} {F:List LFn} (h1:T.length<=20) (h2:∀ x∈T,x.parts.length<=20) (h3:F.length<=10) (h4:∀ f∈F,f.blocks.length<=20/\∀ b∈f.blocks,b.ins.length<=1000):Small T F:=
 ⟨by omega,fun x hx=>by have:=h2 x hx;omega,by omega,fun f hf=>by have:=(h4 f hf).1;omega,fun f hf=>(h4 f hf).2⟩
noncomputable def zSM:ACode:=(oV (oV (oR [oM 62 9,oM 63 8,oQ 64 63,oB .lss 65 62 64]) (oT 65 4)) (oV (o5 5 (oV (oR [oM 68 8,oM 69 9,oI 7 70 68 69,oF 5 71 70,oL 72 71,oQ 73 72,oC .gtr 74 73 20,oM 75 74,oH 75 (oM 76 8),oH 75 (oM 77 9),oH 75 (oI 7 78 76 77),oH 75 (oF 6 79 78),oH 75 (oL 80 79),oH 75 (oQ 81 80),oH 75 (oC .gtr 82 81 20),oO 83 75 82]) (oJ 83 (oV (oR [oK 4 (.bool true)]) .ret) .skip))) (oR [oM 66 9,oC .add 67 66 1,oM 9 67])))
noncomputable def zSA:ACode:=(oV (oV (oR [oM 34 7,oF 1 35 2,oL 36 35,oM 37 6,oI 2 38 36 37,oF 1 39 38,oL 40 39,oQ 41 40,oB .lss 42 34 41]) (oT 42 2)) (oV (o5 3 (oV (oR [oF 1 45 2,oL 46 45,oM 47 6,oI 2 48 46 47,oF 1 49 48,oL 50 49,oM 51 7,oI 5 52 50 51,oF 0 53 52,oL 54 53,oM 8 54]) (oV (oR [oM 55 5,oM 56 8,oQ 57 56,oB .add 58 55 57,oM 5 58]) (oV (oV (oR [oM 59 5,oM 60 1,oB .gtr 61 59 60]) (oJ 61 (oV (oR [oK 4 (.bool true)]) .ret) .skip)) (oV (oR [oN 9 0]) (o5 4 (.loop zSM))))))) (oR [oM 43 7,oC .add 44 43 1,oM 7 44])))
noncomputable def zRV:ACode:=(oV (oV (oR [oM 19 6,oF 1 20 2,oL 21 20,oQ 22 21,oB .lss 23 19 22]) (oT 23 0)) (oV (o5 1 (oV (oV (oR [oF 1 26 2,oL 27 26,oM 28 6,oI 2 29 27 28,oF 1 30 29,oL 31 30,oQ 32 31,oC .gtr 33 32 20]) (oJ 33 (oV (oR [oK 4 (.bool true)]) .ret) .skip)) (oV (oR [oN 7 0]) (o5 2 (.loop zSA))))) (oR [oM 24 6,oC .add 25 24 1,oM 6 25])))
noncomputable def zVH:ACode:=(oV (oR [oX 2 0,oZ 4]) (oV (oV (oR [oF 0 10 2,oL 11 10,o1 12 24 11,oM 13 12,oH 13 (oF 1 14 2),oH 13 (oL 15 14),oH 13 (oQ 16 15),oH 13 (oC .gtr 17 16 10),oO 18 13 17]) (oJ 18 (oV (oR [oK 4 (.bool true)]) .ret) .skip)) (oV (oR [oN 5 0]) (oV (oV (oR [oN 6 0]) (o5 0 (.loop zRV))) (oV (oR [oZ 4]) .ret)))))
theorem zMT (h:AHeap) (vt vf:Value) (T:List LType) (F:List LFn) (most:Int) (hmost:0<=most/\most<=1000) (st:SlT h vt T) (sf:SlF h vf F) (hT:(T.length:Int)<=9223372036854775807) (hF:(F.length:Int)<=9223372036854775807):
  WC Tryz.prog tb 8 [.agg #[vt,vf],I most] h fun r h'=>(r= .bool true\/r= .bool false/\Small T F/\zTi F)/\Ext h h':=by
 refine en 84 [(4,none)] zVH ?_;refine WO.bx ?_;intro p h1 e1 o1;have st1:=st.ext e1;have sf1:=SlF.ext sf e1;refine go ?_;refine WO.con (zMA h1 vt T st1 hT) ?_;rintro r _ ⟨hr,rfl⟩;refine go ?_;rcases hr with rfl|⟨rfl,hT2,hp2⟩
 ·refine gr ?_;exact⟨.inl rfl,e1⟩
 refine go ?_;refine WX.br (fun hb=> ?_) (fun hb=> ?_)<;>simp only[DB]at hb<;>refine go ?_
 ·refine rt ?_;exact⟨.inl rfl,e1⟩
 refine WX.loopA [19,20,21,22,23,26,27,28,29,30,31,32,33,4,7,34,35,36,37,38,39,40,41,42,45,46,47,48,49,50,51,52,53,54,8,55,56,57,58,5,59,60,61,4,9,62,63,64,65,68,69,70,71,72,73,74,75,76,77,78,79,80,81,82,83,4,66,67,9,43,44,7,24,25,6] (by kernel_rfl) (fun i=>F.length - i) (fun i t h2=>h1=h2/\zB t 6=I i/\i<=F.length/\(∃ n,zB t 5=I n/\0<=n/\n<=most)/\∀ j,j<i->(F.getD j default).blocks.length<=20/\∀ b∈(F.getD j default).blocks,b.ins.length<=1000/\∀ x∈b.ins,x.args.length<=20/\x.frm.length<=20) 0 ?_ ?_
 ·exact⟨rfl,sl_,QV _,⟨0,sl_,by omega,by omega⟩,fun j hj=>absurd hj (GG _)⟩
 rintro i t _ hsame ⟨rfl,s6,hi,⟨n,s5,hn0,hn⟩,hm⟩;refine go ?_;refine WX.br (fun hc=> ?_) (fun hc=> ?_)<;>simp only[DB]at hc
 ·have hi':i<F.length:=by omega
  obtain⟨csF,⟨vb,rfl,sb,hlb⟩,pcF,hsF⟩:=yN sf1 hi';refine go ?_;refine WX.br (fun hd=> ?_) (fun hd=> ?_)<;>simp only[DB]at hd<;>refine go ?_
  ·refine rt ?_;exact⟨.inl rfl,e1⟩
  refine WX.loopA [34,35,36,37,38,39,40,41,42,45,46,47,48,49,50,51,52,53,54,8,55,56,57,58,5,59,60,61,4,9,62,63,64,65,68,69,70,71,72,73,74,75,76,77,78,79,80,81,82,83,4,66,67,9,43,44,7] (by kernel_rfl) (fun k=>(F.getD i default).blocks.length - k) (fun k t h2=>h1=h2/\zB t 7=I k/\k<=(F.getD i default).blocks.length/\(∃ n,zB t 5=I n/\0<=n/\n<=most)/\∀ j,j<k->((F.getD i default).blocks.getD j default).ins.length<=1000/\∀ x∈((F.getD i default).blocks.getD j default).ins,x.args.length<=20/\x.frm.length<=20) 0 ?_ ?_
  ·exact⟨rfl,sl_,QV _,⟨n,sl_,hn0,hn⟩,fun j hj=>absurd hj (GG _)⟩
  rintro k t2 _ hsame2 ⟨rfl,s7,hk,⟨n2,s5b,hn20,hn2⟩,hm2⟩;refine go ?_;refine WX.br (fun he=> ?_) (fun he=> ?_)<;>simp only[DB]at he
  ·have hk':k<(F.getD i default).blocks.length:=by omega
   obtain⟨csB,⟨vi,rfl,si,hli⟩,pcB,hsB⟩:=yN sb hk';refine go ?_;refine WX.br (fun hf=> ?_) (fun hf=> ?_)<;>simp only[DB]at hf<;>refine go ?_
   ·refine rt ?_;exact⟨.inl rfl,e1⟩
   refine WX.loopA [62,63,64,65,68,69,70,71,72,73,74,75,76,77,78,79,80,81,82,83,4,66,67,9] (by kernel_rfl) (fun j=>((F.getD i default).blocks.getD k default).ins.length - j) (fun j t h2=>h1=h2/\zB t 9=I j/\j<=((F.getD i default).blocks.getD k default).ins.length/\∀ q,q<j->(((F.getD i default).blocks.getD k default).ins.getD q default).args.length<=20/\(((F.getD i default).blocks.getD k default).ins.getD q default).frm.length<=20) 0 ?_ ?_
   ·exact⟨rfl,sl_,QV _,fun q hq=>absurd hq (GG _)⟩
   rintro j t3 _ hsame3 ⟨rfl,s9,hj,hq9⟩;refine go ?_;refine WX.br (fun hg=> ?_) (fun hg=> ?_)<;>simp only[DB]at hg
   ·have hj':j<((F.getD i default).blocks.getD k default).ins.length:=by omega
    obtain⟨csI,⟨va,vfr,rfl,sa,sfr,hla,hlf,ho⟩,pcI,hsI⟩:=yN si hj';refine go ?_;refine WO.sp (fun hh=> ?_) (fun hh=> ?_)<;>simp only[DB]at hh<;>refine go ?_
    ·refine rt ?_;exact⟨.inl rfl,e1⟩
    refine WX.br (fun hh2=> ?_) (fun hh2=> ?_)<;>simp only[DB]at hh2<;>refine go ?_
    ·refine rt ?_;exact⟨.inl rfl,e1⟩
    ·refine zA (j+1) (by omega) ⟨rfl,sln,by omega,fun q hq=> ?_⟩;by_cases e:q=j
     ·subst e;omega
     ·exact hq9 q (by omega)
   ·refine go ?_;refine zA (k+1) (by omega) ⟨rfl,sln,by omega,⟨n2+(((F.getD i default).blocks.getD k default).ins.length:Int),sl_,by omega,by omega⟩,fun q hq=> ?_⟩;by_cases e:q=k
    ·subst e;refine⟨by omega,fun x hx=> ?_⟩;obtain⟨y,hy,rfl⟩:=YH hx;exact hq9 y (by omega)
    ·exact hm2 q (by omega)
  ·refine go ?_;refine zA (i+1) (by omega) ⟨rfl,sln,by omega,⟨n2,sl_,hn20,hn2⟩,fun q hq=> ?_⟩;by_cases e:q=i
   ·subst e;refine⟨by omega,fun b hb=> ?_⟩;obtain⟨y,hy,rfl⟩:=YH hb;exact hm2 y (by omega)
   ·exact hm q (by omega)
 ·refine gr ?_;have hall:∀ f∈F,f.blocks.length<=20/\∀ b∈f.blocks,b.ins.length<=1000/\∀ x∈b.ins,x.args.length<=20/\x.frm.length<=20:=fun f hf=>by
   obtain⟨y,hy,rfl⟩:=YH hf;exact hm y (by omega)
  exact⟨.inr ⟨rfl,zO1 hT2 hp2 (by omega) fun f hf=>⟨(hall f hf).1,fun b hb=>((hall f hf).2 b hb).1⟩,fun f hf b hb=>((hall f hf).2 b hb).2⟩,e1⟩
set_option maxRecDepth 100000
def Zd (x:LEnd):List Int:=if x.kind=1 then [x.to] else if x.kind=2 then (if x.to=x.els then [x.to] else [x.to,x.els]) else []
def Fresh (h:AHeap) (v:Value):Prop:=∀ a n c,v= .slice (some a) n c->h.n<=a.block
theorem Fresh.since {h h':AHeap} {v:Value} (f:Fresh h' v) (n:h.n<=h'.n):Fresh h v:=fun a k c e=>QW n (f a k c e)
theorem zF3 {h0 h:AHeap} {v:Value} {l:List Int} (o:OwnI h0 h v l):Fresh h0 v:=by
 obtain⟨g,a,_,rfl,_⟩:=o;intro a n c e;cases e;assumption
noncomputable def zOQ:ACode:=(oV (oV (oR [oM 29 5,oM 30 4,oQ 31 30,oB .lss 32 29 31]) (oT 32 2)) (oV (o5 3 (oV (o6 [oM 35 4,oM 36 5,oI 1 37 35 36,oL 38 37,oM 39 4,oM 40 5,oC .sub 41 40 1,oI 1 42 39 41,oL 43 42,oB .neq 44 38 43]) (oJ 44 (oV (oR [oM 45 0,oM 46 3,oM 47 4,oM 48 5,oI 1 49 47 48,oL 50 49,oI 1 51 45 46,oS 1 51 50]) (oR [oM 52 3,oC .add 53 52 1,oM 3 53])) .skip))) (oR [oM 33 5,oC .add 34 33 1,oM 5 34])))
noncomputable def zPK:ACode:=(oV (oV (oR [oM 10 3,oM 11 0,oQ 12 11,oB .lss 13 10 12]) (oT 13 0)) (oV (o5 1 (oV (o6 [oM 16 0,oM 17 3,oI 1 18 16 17,oL 19 18,oM 20 0,oM 21 3,oC .sub 22 21 1,oI 1 23 20 22,oL 24 23,oB .eql 25 19 24]) (oJ 25 (oV (oR [oM 26 0,oM 27 3,⟨some 28,none,(.slice 1 (.tmp 26) (some (.tmp 27)) none none)⟩,oM 4 28]) (oV (oV (oR [oN 5 1]) (o5 2 (.loop zOQ))) (oV (oR [oM 54 0,oM 55 3,⟨some 56,none,(.slice 1 (.tmp 54) (some (.tmp 55)) none none)⟩,⟨none,none,(.clearS 1 [(.int .i64 0)] (.tmp 56))⟩]) (oV (oR [oM 57 0,oM 58 3,⟨some 59,none,(.slice 1 (.tmp 57) none (some (.tmp 58)) none)⟩,oM 2 59]) .ret)))) .skip))) (oR [oM 14 3,oC .add 15 14 1,oM 3 15])))
noncomputable def zUO:ACode:=(oV (oR [oK 2 (.slice none 0 0)]) (oV (oV (oR [oM 6 0,oQ 7 6,oC .lss 8 7 2]) (oJ 8 (oV (oR [oM 9 0,oM 2 9]) .ret) .skip)) (oV (oV (oR [oN 3 1]) (o5 0 (.loop zPK))) (oV (oR [oM 60 0,oM 2 60]) .ret))))
theorem zKA (h0 h:AHeap) (v:Value) (a b:Int) (e0:Ext h0 h) (o:OwnI h0 h v [a,b]):
  WC Tryz.prog tb 80 [v] h fun r h'=>SlI h' r (if a=b then [a] else [a,b])/\Fresh h0 r/\Ext h0 h':=by
 have s:SlI h v [a,b]:=o.sl;have fr:=zF3 o;refine en 61 [(2,none)] zUO ?_;refine WX.br (fun hb=> ?_) (fun hb=> ?_)<;>simp only[DB]at hb
 ·exact absurd hb (by simp)
 refine go ?_;refine WX.loopA [10,11,12,13,16,17,18,19,20,21,22,23,24,25,26,27,28,4,5,29,30,31,32,35,36,37,38,39,40,41,42,43,44,45,46,47,48,49,50,51,52,53,3,33,34,5,54,55,56,57,58,59,2,14,15,3] (by kernel_rfl) (fun i=>2 - i) (fun i t h1=>h=h1/\zB t 3=I i/\(i=1\/i=2/\a≠b)) 1 ?_ ?_
 ·exact⟨rfl,sl_,.inl rfl⟩
 rintro i t _ hsame ⟨rfl,s3,hi⟩;have hlen:([a,b]:List Int).length=2:=rfl;refine go ?_;refine WX.br (fun hc=> ?_) (fun hc=> ?_)<;>simp only[DB]at hc
 ·have hi1:i=1:=by rw[hlen]at hc;omega
  subst hi1;refine go ?_;refine WX.br (fun hd=> ?_) (fun hd=> ?_)<;>simp only[DB]at hd
  ·have hab:a=b:=by simpa [List.getD]using hd.symm
   subst hab;obtain⟨g,g1,g2,rfl,g3⟩:=o;refine go ?_;refine WO.slLo (i:=1) (v:= .slice (some ⟨g,0,none⟩) [a,a].length 1) (r:= .slice (some ⟨g,1,none⟩) 1 1) (by rfl) ?_;have s4:SlI h (.slice (some ⟨g,1,none⟩) 1 1) [a]:=⟨rfl,.inr ⟨g,1,_,rfl,ZZ g3,by rfl,g2⟩⟩;refine go ?_;refine WX.loopA [29,30,31,32,35,36,37,38,39,40,41,42,43,44,45,46,47,48,49,50,51,52,53,3,33,34,5] (by kernel_rfl) (fun i=>1) (fun (i:Unit) t h1=>h=h1/\zB t 5=I 1/\zB t 3=I ((1:Nat):Int)) () ?_ ?_
   ·exact⟨rfl,sl_,sl_⟩
   rintro _ t2 _ hsame2 ⟨rfl,s5,s3b⟩;have hlen1:([a]:List Int).length=1:=rfl;refine go ?_;refine WO.slLo (i:=1) (v:= .slice (some ⟨g,0,none⟩) [a,a].length 1) (r:= .slice (some ⟨g,1,none⟩) 1 1) (by rfl) ?_;have hcl:zBR 1 [I 0] (.slice (some ⟨g,1,none⟩) 1 1) h=some (.tuple #[],h.set g (.row [I a,I 0] true 0)):=by
    show ((zY h ⟨g,1,none⟩ [I 0]).map (Value.tuple #[],·))=_;have:zY h ⟨g,1,none⟩ [I 0]=some (h.set g (.row [I a,I 0] true 0)):=by
     unfold zY;rw[g3];rfl
    rw[this];rfl
   refine WO.clS hcl ?_;have e1:Ext h0 (h.set g (.row [I a,I 0] true 0)):=e0.set g1 g2 _;refine go ?_;refine WO.slHi (i:=1) (v:= .slice (some ⟨g,0,none⟩) [a,a].length 1) (r:= .slice (some ⟨g,0,none⟩) 1 1) (by rfl) ?_;refine gr ?_;refine⟨?_,(fun a k c e=>by cases e;exact g1),e1⟩;rw[QI rfl];exact⟨rfl,.inr ⟨g,0,[I a,I 0],rfl,by unfold zk;rw[zR,QI rfl],by rfl,g2⟩⟩
  ·have hab:a≠b:=fun e=>hd (by simp[List.getD,e]);refine go ?_;exact zA 2 (by omega) ⟨rfl,sl_,.inr ⟨rfl,hab⟩⟩
 ·refine gr ?_
  have:a≠b:=by rcases hi with rfl|⟨_,h⟩;· exact absurd hc (by simp)
               ·exact h
  exact⟨by rw[QD this];exact s,fr,e0⟩
noncomputable def zTq:ACode:=(oV (oR [oX 1 0,oK 2 (.slice none 0 0)]) (oV (oV (oR [oF 0 3 1,oL 4 3]) (o5 0 (oV (oR [oD .eql 6 4 1,oM 5 6]) (oJ 5 (oV (oR [oF 2 7 1,oL 8 7,⟨some 9,none,(.buildSlice 1 1 [(.int .i64 0)] [(0,1,(.tmp 8))])⟩,oM 2 9]) .ret) (oV (oR [oD .eql 11 4 2,oM 10 11]) (oJ 10 (oV (oR [oF 2 12 1,oL 13 12,oF 3 14 1,oL 15 14,⟨some 16,none,(.buildSlice 2 1 [(.int .i64 0)] [(0,1,(.tmp 13)),(1,1,(.tmp 15))])⟩,o1 17 80 16,oM 2 17]) .ret) .skip)))))) (oV (oR [oK 2 (.slice none 0 0)]) .ret)))
theorem zHX (h:AHeap) (x:LEnd):
  WC Tryz.prog tb 46 [.agg #[.int .u8 x.kind,I x.a,I x.to,I x.els]] h fun r h'=>SlI h' r (Zd x)/\Fresh h r/\Ext h h':=by
 refine en 18 [(2,none)] zTq ?_;refine WO.bx ?_;intro p h1 e1 o1;refine go ?_;refine WX.br (fun hb=> ?_) (fun hb=> ?_)<;>simp only[DB]at hb<;>refine go ?_
 ·refine WO.bl [x.to] ?_;intro v h2 e2 o2;refine gr ?_;refine⟨?_,(zF3 o2).since e1.n,e1.trans e2⟩;rw[Zd,QI hb];exact o2.sl
 refine WX.br (fun hc=> ?_) (fun hc=> ?_)<;>simp only[DB]at hc<;>refine go ?_
 ·refine WO.bl [x.to,x.els] ?_;intro v h2 e2 o2;refine go ?_;refine WO.con (zKA h1 h2 v x.to x.els e2 o2) ?_;rintro r h3 ⟨s3,f3,e3⟩;refine gr ?_;refine⟨?_,f3.since e1.n,e1.trans e3⟩;rw[Zd,QD hb,QI hc];exact s3
 ·refine rt ?_;refine⟨?_,(fun a k c e=>by cases e),e1⟩;rw[Zd,QD hb,QD hc];exact SlI.nil _
def zD (T:List LType) (F:List LFn) (f b:Int):List LBlk×Int:=
 if (Yb T F f).2≠0 then ([],(Yb T F f).2) else if b<0\/((F.getD f.toNat default).blocks.length:Int)<=b then ([],2) else ((F.getD f.toNat default).blocks,0)
theorem zAl {T:List LType} {F:List LFn} {f:Int} (h:(Yb T F f).2=0):0<=f/\f<(F.length:Int)/\Zq T F=0:=by
 have hb2:(yl T F f).2=0:=by
  unfold Yb at h;split at h
  ·rename_i hn;exact absurd h hn
  ·rename_i hn;omega
 unfold yl at hb2;split at hb2
 ·rename_i hp;exact absurd hb2 hp
 ·rename_i hp;split at hb2
  ·rename_i hc;unfold zW at hc;simp at hc;exact⟨hc.1,hc.2,by omega⟩
  ·cases hb2
noncomputable def zUb:ACode:=(oV (oR [oX 3 0,oK 6 (.slice none 0 0),oN 7 0]) (oV (oV (oR [oA 2 11 3,oM 12 1,o2 13 78 11 12,oM 10 13,oE 14 10 0,oE 15 10 1,oM 8 14,oM 9 15]) (oV (oR [oM 16 9,oC .neq 17 16 0]) (oJ 17 (oV (oR [oM 18 9,oK 6 (.slice none 0 0),oM 7 18]) .ret) .skip))) (oV (oV (oR [oM 19 2,oC .lss 20 19 0,oM 21 20,oH 21 (oM 22 2),oH 21 (oF 1 23 3),oH 21 (oL 24 23),oH 21 (oM 25 1),oH 21 (oI 2 26 24 25),oH 21 (oF 1 27 26),oH 21 (oL 28 27),oH 21 (oQ 29 28),oH 21 (oB .geq 30 22 29),oO 31 21 30]) (oJ 31 (oV (oR [oK 6 (.slice none 0 0),oN 7 2]) .ret) .skip)) (oV (oR [oF 1 32 3,oL 33 32,oM 34 1,oI 2 35 33 34,oF 1 36 35,oL 37 36,oM 6 37,oN 7 0]) .ret))))
theorem zBO (h:AHeap) (vt vf:Value) (T:List LType) (F:List LFn) (f b:Int) (tt:Tbl h) (hm:h.mark<=h.n) (sm:Small T F) (st:SlT h vt T) (sf:SlF h vf F):
  WC Tryz.prog tb 44 [.agg #[vt,vf],I f,I b] h fun r h'=>(∃ v,r= .tuple #[v,I (zD T F f b).2]/\SlB h' v (zD T F f b).1)/\Ext h h':=by
 refine en 38 [(6,none),(7,none)] zUb ?_;refine WO.bx ?_;intro p h1 e1 o1;refine go ?_;refine WO.con (zP8 h1 vt vf T F f (tt.ext e1) (yA e1 hm) sm (st.ext e1) (SlF.ext sf e1)) ?_;rintro _ h2 ⟨rfl,e2⟩;have e12:=e1.trans e2;have o1:=o1.ext e2;have sf2:=SlF.ext sf e12;have hF:=sm.funcs;refine go ?_;refine WX.br (fun hb=> ?_) (fun hb=> ?_)<;>simp only[DB]at hb<;>refine go ?_
 ·refine rt ?_;rw[show zD T F f b=([],(Yb T F f).2) from by rw[zD,QI hb]];exact⟨⟨_,rfl,SlR.nil⟩,e12⟩
 have hb0:(Yb T F f).2=0:=by omega
 have hin:=zAl hb0;obtain⟨csF,⟨vb,rfl,sb,hlb⟩,pcF,hsF⟩:=yN (i:=f.toNat) sf2 (by omega);refine WO.sp (fun hc=> ?_) (fun hc=> ?_)<;>simp only[DB]at hc<;>refine go ?_
 ·refine rt ?_;rw[show zD T F f b=([],2) from by rw[zD,QD (by omega),QI (.inl hc)]];exact⟨⟨_,rfl,SlR.nil⟩,e12⟩
 refine WX.br (fun hd=> ?_) (fun hd=> ?_)<;>simp only[DB]at hd<;>refine go ?_<;>refine rt ?_
 ·rw[show zD T F f b=([],2) from by rw[zD,QD (by omega),QI (.inr hd)]];exact⟨⟨_,rfl,SlR.nil⟩,e12⟩
 ·rw[show zD T F f b=((F.getD f.toNat default).blocks,0) from by rw[zD,QD (by omega),QD (by omega)]];exact⟨⟨_,rfl,sb⟩,e12⟩
noncomputable def zTI:ACode:=(oV (oR [oX 3 0,oK 6 (.slice none 0 0),oN 7 0]) (oV (oR [oA 2 11 3,oM 12 1,oM 13 2,o3 14 44 11 12 13,oM 10 14,oE 15 10 0,oE 16 10 1,oM 8 15,oM 9 16]) (oV (oV (oR [oM 17 9,oC .neq 18 17 0]) (oJ 18 (oV (oR [oM 19 9,oK 6 (.slice none 0 0),oM 7 19]) .ret) .skip)) (oV (oR [oM 20 8,oM 21 2,oI 5 22 20 21,oF 1 23 22,oA 4 24 23,o1 25 46 24,oM 6 25,oN 7 0]) .ret))))
def Ya (T:List LType) (F:List LFn) (f b:Int):List Int×Int:=
 if (zD T F f b).2≠0 then ([],(zD T F f b).2) else (Zd ((zD T F f b).1.getD b.toNat default).fin,0)
theorem yh {T:List LType} {F:List LFn} {f b:Int} (h:(zD T F f b).2=0):0<=b/\b<((zD T F f b).1.length:Int)/\(zD T F f b).1=(F.getD f.toNat default).blocks/\(Yb T F f).2=0:=by
 unfold zD at h |-;split at h
 ·rename_i hn;exact absurd h hn
 ·rename_i hn;rw[QD hn];split at h
  ·cases h
  ·rename_i hb;rw[QD hb];exact⟨by omega,by simp only;omega,rfl,by omega⟩
theorem zKk (h:AHeap) (vt vf:Value) (T:List LType) (F:List LFn) (f b:Int) (tt:Tbl h) (hm:h.mark<=h.n) (sm:Small T F) (st:SlT h vt T) (sf:SlF h vf F):
  WC Tryz.prog tb 81 [.agg #[vt,vf],I f,I b] h fun r h'=>(∃ v,r= .tuple #[v,I (Ya T F f b).2]/\SlI h' v (Ya T F f b).1/\Fresh h v)/\Ext h h':=by
 refine en 26 [(6,none),(7,none)] zTI ?_;refine WO.bx ?_;intro p h1 e1 o1;refine go ?_;refine WO.con (zBO h1 vt vf T F f b (tt.ext e1) (yA e1 hm) sm (st.ext e1) (SlF.ext sf e1)) ?_;rintro _ h2 ⟨⟨v,rfl,sb⟩,e2⟩;have e12:=e1.trans e2;refine go ?_;refine WX.br (fun hb=> ?_) (fun hb=> ?_)<;>simp only[DB]at hb<;>refine go ?_
 ·refine rt ?_;rw[show Ya T F f b=([],(zD T F f b).2) from by rw[Ya,QI hb]];exact⟨⟨_,rfl,SlI.nil _,(fun a k c e=>by cases e)⟩,e12⟩
 have hb0:(zD T F f b).2=0:=by omega
 have hin:=yh hb0;obtain⟨csB,⟨vi,rfl,si,hli⟩,pcB,hsB⟩:=yN (i:=b.toNat) sb (by omega);refine go ?_;refine WO.con (zHX h2 _) ?_;rintro r h3 ⟨s3,f3,e3⟩;refine gr ?_;rw[show Ya T F f b=(Zd ((zD T F f b).1.getD b.toNat default).fin,0) from by rw[Ya,QD (by omega)]];exact⟨⟨_,rfl,s3,f3.since e12.n⟩,e12.trans e3⟩
set_option maxRecDepth 100000
theorem zTf {l:List Int} {n:Int} {i:Nat} (h:i<l.length) (e:l.getD i 0=n):n∈l:=e▸yS h
theorem zJP {l:List Int} {n:Int} (h:∀ i,i<l.length->l.getD i 0≠n):n∉l:=fun hn=>by
 obtain⟨i,hi,e⟩:=zBF hn;exact h i hi e
noncomputable def zO5:ACode:=(oV (oR [oB .lss 9 8 7]) (oV (oT 9 0) (oV (o5 1 (oV (oR [oM 10 8,oM 5 10]) (oV (oR [oM 11 1,oM 12 0,oM 13 5,oI 1 14 12 13,oL 15 14,oB .eql 16 11 15]) (oJ 16 (oV (oR [oM 17 5,oM 4 17]) .ret) .skip)))) (oR [oC .add 18 8 1,oM 8 18]))))
noncomputable def zUn:ACode:=(oV (oR [oN 4 0]) (oV (oV (oR [oM 6 0,oQ 7 6,oN 8 0]) (o5 0 (.loop zO5))) (oV (oR [oN 4 (-1)]) .ret)))
theorem zNX (h:AHeap) (v:Value) (l:List Int) (n:Int) (s:SlI h v l) (hl:(l.length:Int)<=9223372036854775807):
  WC Tryz.prog tb 79 [v,I n] h fun r h'=>(∃ k:Int,r=I k/\decide (0<=k)=decide (n∈l))/\h=h':=by
 refine en 19 [(4,none)] zUn ?_;refine WX.loopA [9,10,5,11,12,13,14,15,16,17,4,18,8] (by kernel_rfl) (fun i=>l.length - i) (fun i t h1=>h=h1/\zB t 8=I i/\i<=l.length/\∀ j,j<i->l.getD j 0≠n) 0 ?_ ?_
 ·exact⟨rfl,sl_,QV _,fun j hj=>absurd hj (GG _)⟩
 rintro i t _ hsame ⟨rfl,s8,hi,hm⟩;refine go ?_;refine WX.br (fun hb=> ?_) (fun hb=> ?_)<;>simp only[DB]at hb
 ·have hi':i<l.length:=by omega
  refine go ?_;refine WX.br (fun hc=> ?_) (fun hc=> ?_)<;>simp only[DB]at hc<;>refine go ?_
  ·refine rt ?_;exact⟨⟨i,rfl,by rw[QZ (zTf hi' hc.symm)];simp⟩,rfl⟩
  ·refine zA (i+1) (by omega) ⟨rfl,sln,by omega,fun j hj=> ?_⟩;by_cases e:j=i
   ·subst e;exact fun h=>hc h.symm
   ·exact hm j (by omega)
 ·refine gr ?_;exact⟨⟨-1,rfl,by rw[QT (zJP fun j hj=>hm j (by omega))];rfl⟩,rfl⟩
noncomputable def zUo:ACode:=(oV (oR [oZ 4]) (oV (oR [oM 5 0,oM 6 1,o2 7 79 5 6,oC .geq 8 7 0,oM 4 8]) .ret))
theorem Y1 (h:AHeap) (v:Value) (l:List Int) (n:Int) (s:SlI h v l) (hl:(l.length:Int)<=9223372036854775807):
  WC Tryz.prog tb 45 [v,I n] h fun r h'=>r= .bool (decide (n∈l))/\h=h':=by
 refine en 9 [(4,none)] zUo ?_;refine WO.con (zNX h v l n s hl) ?_;rintro _ _ ⟨⟨k,rfl,e⟩,rfl⟩;refine gr ?_;exact⟨by rw[<-e];rfl,rfl⟩
abbrev DS:=List (Int×Int)×List Int
def ZB (nx:Int->List Int):Nat->Int->DS->DS
 |0,_,s=>s
 |n+1,b,s=>if (s.1.lookup b).isSome then s else
  (((nx b).foldl (fun (t:DS) (c:Int)=>ZB nx n c t) (s.1++[(b,(s.1.length:Int))],s.2)).1,((nx b).foldl (fun (t:DS) (c:Int)=>ZB nx n c t) (s.1++[(b,(s.1.length:Int))],s.2)).2++[b])
def Zl (nx:Int->List Int) (n:Nat) (l:List Int) (s:DS):DS:=l.foldl (fun s c=>ZB nx n c s) s
def unb (N:Nat) (es:List (Int×Int)):Nat:=((List.range N).filter fun (i:Nat)=>(es.lookup ((i:Nat):Int)).isNone).length
theorem zAs {es:List (Int×Int)} {b v c:Int}:(es++[(b,v)]).lookup c=match es.lookup c with|some w=>some w|none=>if c=b then some v else none:=by
 induction es with
 |nil=>
  simp only[GT,GZ,List.lookup_nil];by_cases h:c=b
  ·subst h;simp
  ·have:(c == b)=false:=by simpa using h
   rw[this,QD h]
 |cons e es ih=>
  obtain⟨k,w⟩:=e;simp only[List.cons_append,GZ];cases hk:(c == k)with
  |true=>rfl
  |false=>simp only;exact ih
theorem zIT {es:List (Int×Int)} {b v c:Int} (h:(es.lookup c).isSome):((es++[(b,v)]).lookup c).isSome:=by
 rw[zAs];cases hc:es.lookup c with
 |none=>rw[hc]at h;cases h
 |some w=>rfl
theorem zN1 {nx:Int->List Int}:∀ (n:Nat) (b:Int) (s:DS) (c:Int),(s.1.lookup c).isSome->((ZB nx n b s).1.lookup c).isSome:=by
 intro n;induction n with
 |zero=>intro b s c h;exact h
 |succ n ih=>
  intro b s c h;unfold ZB;split
  ·exact h
  ·simp only;have:∀ (l:List Int) (s:DS),(s.1.lookup c).isSome->((l.foldl (fun s c=>ZB nx n c s) s).1.lookup c).isSome:=by
    intro l;induction l with
    |nil=>intro s h;exact h
    |cons x l ihl=>intro s h;exact ihl _ (ih x s c h)
   exact this _ _ (zIT h)
theorem zFe {nx:Int->List Int} {n:Nat} {c:Int}:∀ (l:List Int) (s:DS),(s.1.lookup c).isSome->((Zl nx n l s).1.lookup c).isSome
 |[],s,h=>h
 |x::l,s,h=>zFe l _ (zN1 n x s c h)
theorem zML {N:Nat} {p q:Nat->Bool} (h:∀ i,i<N->q i=true->p i=true):((List.range N).filter q).length<=((List.range N).filter p).length:=by
 rw[<-List.countP_eq_length_filter,<-List.countP_eq_length_filter];exact List.countP_mono_left fun i hi hq=>h i (GH.1 hi) hq
theorem zCm {N:Nat} {es es':List (Int×Int)} (h:∀ c,(es.lookup c).isSome->(es'.lookup c).isSome):unb N es'<=unb N es:=by
 unfold unb;apply zML;intro i _ hi;cases hc:es.lookup (i:Int)with
 |none=>rfl
 |some w=>
  have:=h i (by rw[hc];rfl);rw[Option.isNone_iff_eq_none]at hi;rw[hi]at this;cases this
theorem zFI {p q:Nat->Bool} {i:Nat} (hp:p i=true) (hq:q i=false):∀ {l:List Nat},(∀ j∈l,q j=true->p j=true)->i∈l->l.countP q<l.countP p
 |[],_,h=>by cases h
 |x::l,hl,h=>by
  have hle:l.countP q<=l.countP p:=List.countP_mono_left fun j hj hqj=>hl j (by simp[hj]) hqj;by_cases e:x=i
  ·subst e;simp only[List.countP_cons,hp,hq,Qv];simp;omega
  ·have him:i∈l:=by
    rcases Qj.1 h with h|h
    ·exact absurd h.symm e
    ·exact h
   have:=zFI hp hq (l:=l) (fun j hj=>hl j (by simp[hj])) him;simp only[List.countP_cons];cases hqx:q x with
   |false=>simp;omega
   |true=>rw[hl x (by simp) hqx];simp;omega
theorem zEc {N:Nat} {es:List (Int×Int)} {b v:Int} (h:es.lookup b=none) (hb:0<=b/\b<(N:Int)):unb N (es++[(b,v)])<unb N es:=by
 unfold unb;rw[<-List.countP_eq_length_filter,<-List.countP_eq_length_filter];obtain⟨i,rfl⟩:∃ i:Nat,b=i:=⟨b.toNat,by omega⟩;refine zFI (i:=i) (by simp[h]) (by simp[zAs,h]) (fun j _ hj=> ?_) (GH.2 (by omega));rw[zAs]at hj;cases hc:es.lookup (j:Int)with
 |none=>rfl
 |some w=>rw[hc]at hj;cases hj
theorem zI1 {N:Nat} {es:List (Int×Int)} (h:unb N es=0) {b:Int} (hb:0<=b/\b<(N:Int)):(es.lookup b).isSome:=by
 cases hc:es.lookup b with
 |some w=>rfl
 |none=>have:=zEc (v:=0) hc hb;omega
theorem zDC {nx:Int->List Int} {N:Nat} (hin:∀ b,0<=b/\b<(N:Int)->∀ c∈nx b,0<=c/\c<(N:Int)):∀ (n:Nat) (b:Int) (s:DS),0<=b/\b<(N:Int)->(ZB nx n b s).2.length+unb N (ZB nx n b s).1<=s.2.length+unb N s.1:=by
 intro n;induction n with
 |zero=>intro b s _;exact QF _
 |succ n ih=>
  intro b s hb;unfold ZB;split
  ·exact QF _
  ·rename_i hns;have hnone:s.1.lookup b=none:=by
    cases hc:s.1.lookup b with
    |none=>rfl
    |some w=>rw[hc]at hns;exact absurd rfl hns
   have:∀ (l:List Int) (s:DS),(∀ c∈l,0<=c/\c<(N:Int))->(l.foldl (fun s c=>ZB nx n c s) s).2.length+unb N (l.foldl (fun s c=>ZB nx n c s) s).1<=s.2.length+unb N s.1:=by
    intro l;induction l with
    |nil=>intro s _;exact QF _
    |cons x l ihl=>intro s hl;exact QW (ihl _ fun c hc=>hl c (by simp[hc])) (ih x s (hl x (by simp)))
   have h1:=this (nx b) (s.1++[(b,(s.1.length:Int))],s.2) (hin b hb);have h2:=zEc (v:=(s.1.length:Int)) hnone hb;simp only[QX,Qa]at *;omega
end Go.Proofs.YteekipjpghikkaaGreatDoor
namespace Go.Am
section
variable {P:Program} {tab:Tab} {t:Trie Value} {h h0:AHeap} {ds:List Deferred} {rd:Option Nat} {l:List AOper} {Q:AFr->AHeap->Prop} {d:Nat}
theorem WO.appendF {x y:Operand} {v w:Value} {xs ys:List Int} (hx:ev t x=v) (hy:ev t y=w) (o:OwnN h0 h v xs) (s:SlI h w ys) (e0:Ext h0 h) (hne:ys≠[]) (hr:xs.length+ys.length<=4294967296)
  (k:∀ h',Ext h0 h'->OwnI h0 h' (.slice (some ⟨h.n,0,none⟩) (xs++ys).length 1) (xs++ys)->Upd v h h'->WO P tab l ⟨t.set d (.slice (some ⟨h.n,0,none⟩) (xs++ys).length 1),ds,rd⟩ h' Q):WO P tab (⟨some d,none,.append 1 x y⟩::l) ⟨t,ds,rd⟩ h Q:=by
 have hsrc:=ZT s;have hroom:room=4294967296:=rfl;obtain⟨z,zs,rfl⟩:∃ z zs,ys=z::zs:=by
  cases ys with
  |nil=>exact absurd rfl hne
  |cons z zs=>exact⟨z,zs,rfl⟩
 have hone:zN (I z::zs.map I)=true:=zA2 (z::zs);have hlen:(I z::zs.map I).length / 1=(z::zs).length:=by simp
 rcases o with ⟨rfl,rfl⟩|⟨g,g1,g2,rfl,g3⟩
 ·have h1:Nat.ble (z::zs).length room=true:=QH (by rw[hroom];simpa using hr);refine WO.op (.slice (some ⟨h.n,0,none⟩) (z::zs).length 1) (h.push (.row ((z::zs).map I) true 0)) rfl ?_ (k _ (e0.push _) ⟨h.n,e0.n,by simp[AHeap.push],rfl,zS _ _⟩ ⟨GV _,fun k hk _=> ?_⟩)
  ·simp only[aop,hx,hy,yI,hsrc,Qh,hone,hlen,h1,QU,cond_true,QR];rfl
  ·rw[zO,QD (by omega)]
 ·have h1:Nat.ble (xs.length+(z::zs).length) room=true:=QH (by rw[hroom];exact hr);have h2:cut (xs.map I) 0 (xs.length * 1)=some (xs.map I):=by rw[yo (by simp)];simp[Q5]
  have hn:(h.kill g).n=h.n:=rfl;have h3:Nat.ble 0 (0+xs.length * 1)=true:=QH (QV _);have hl:xs.length+(z::zs).length=(xs++z::zs).length:=(QX ..).symm;refine WO.op (.slice (some ⟨h.n,0,none⟩) (xs++z::zs).length 1) ((h.kill g).push (.row (xs.map I++(z::zs).map I) true (0 - 0))) rfl ?_
   (k _ ((e0.kill g1).push _) ⟨h.n,e0.n,by simp[AHeap.push,AHeap.kill],rfl,?_⟩ ⟨GV _,fun k hk hv=> ?_⟩)
  ·rw[<-hl];simp only[aop,hx,hy,yI,hsrc,Qh,hone,hlen,h1,g3,h2,h3,QU,cond_true,QR];rfl
  ·have:=zS (h.kill g) (.row (xs.map I++(z::zs).map I) true (0 - 0));rw[hn]at this;rw[this];simp
  ·rw[zO,QD (by rw[hn];omega),yY,QD (fun e=>hv _ _ _ rfl e.symm)]
end
end Go.Am
namespace Go.Proofs.YteekipjpghikkaaGreatDoor
open Go.Am
set_option maxRecDepth 100000
def zTd (p vm vd:Value) (g:Nat):Prop:=p≠ .pointer (some ⟨g,0,none⟩)/\vm≠ .map (some g)/\∀ a n c,vd= .slice (some a) n c->a.block≠g
structure WS (hB h:AHeap) (p vl vm vd:Value) (s:DS):Prop where
 own:OwnC hB h p [vl,vm,vd]
 map:OwnM hB h vm s.1
 dn:OwnN hB h vd s.2
 ext:Ext hB h
def Keep (h h':AHeap) (p vm vd vd':Value):Prop:=h.n<=h'.n/\∀ g,g<h.n->zTd p vm vd g->h'.get g=h.get g/\zTd p vm vd' g
theorem Keep.refl (h:AHeap) (p vm vd:Value):Keep h h p vm vd vd:=⟨QF _,fun _ _ n=>⟨rfl,n⟩⟩
theorem Keep.trans {h h1 h2:AHeap} {p vm vd vd1 vd2:Value} (a:Keep h h1 p vm vd vd1) (b:Keep h1 h2 p vm vd1 vd2):Keep h h2 p vm vd vd2:=
 ⟨QW a.1 b.1,fun g hg nw=>let ⟨x,y⟩:=a.2 g hg nw;let ⟨u,v⟩:=b.2 g (QG hg a.1) y;⟨u.trans x,v⟩⟩
theorem Keep.ext {h h':AHeap} (e:Ext h h') (p vm vd:Value):Keep h h' p vm vd vd:=⟨e.n,fun g hg n=>⟨e.get g hg,n⟩⟩
def Off (h:AHeap) (p vm vd v:Value) (l:List Int):Prop:=l=[]\/∃ g off,v= .slice (some ⟨g,off,none⟩) l.length 1/\g<h.n/\zTd p vm vd g
theorem zP3 {h h':AHeap} {v:Value} (s:SlI h v []):SlI h' v []:=by
 refine⟨rfl,.inl ⟨rfl,?_⟩⟩;rcases s.2 with ⟨_,hv⟩|⟨g,off,row,hv,_⟩
 ·exact hv
 ·exact .inr ⟨_,_,hv⟩
theorem Keep.sl {h h':AHeap} {p vm vd vd' v:Value} {l:List Int} (k:Keep h h' p vm vd vd') (s:SlI h v l) (o:Off h p vm vd v l):SlI h' v l/\Off h' p vm vd' v l:=by
 rcases o with rfl|⟨g,off,rfl,hg,nw⟩
 ·exact⟨zP3 s,.inl rfl⟩
 ·obtain⟨e1,e2⟩:=k.2 g hg nw;refine⟨⟨s.1,?_⟩,.inr ⟨g,off,rfl,QG hg k.1,e2⟩⟩;rcases s.2 with ⟨h0,hv⟩|⟨g',off',row,hv,hr,hc,hl⟩
  ·exact .inl ⟨h0,hv⟩
  ·cases hv;exact .inr ⟨g,off,row,rfl,by unfold zk at *;rw[e1];exact hr,hc,QG hg k.1⟩
theorem zMr {hB h h2:AHeap} {p vl vm vd v:Value} {s:DS} {l:List Int} (w:WS hB h p vl vm vd s) (f:Fresh h v) (sl:SlI h2 v l):Off h2 p vm vd v l:=by
 rcases sl.2 with ⟨h0,hv⟩|⟨g,off,row,hv,hr,hc,hl⟩
 ·exact .inl (Gi.1 h0)
 ·refine .inr ⟨g,off,hv,hl,?_⟩;have hg:h.n<=g:=f _ _ _ hv;obtain⟨g1,_,a1,rfl,_⟩:=w.own;obtain⟨g2,_,_,_,a2,rfl,_⟩:=w.map;refine⟨fun e=>by cases e;omega,fun e=>by cases e;omega,fun a n c e he=> ?_⟩;rcases w.dn with ⟨rfl,_⟩|⟨g3,_,a3,rfl,_⟩
  ·cases e
  ·cases e;simp only at he;omega
theorem zGY {h0 h1 h:AHeap} {p v:Value} {a:Option Addr} {n k:Nat} {cs:List Value} {xs:List Int} (o:OwnC h0 h p (.slice a n k::cs)) (i:OwnN h1 h v xs):∀ b m c,v= .slice (some b) m c->p≠ .pointer (some ⟨b.block,0,none⟩):=by
 intro b m c hv hp;obtain⟨g,_,_,rfl,hg⟩:=o;rcases i with ⟨rfl,_⟩|⟨g2,_,_,rfl,hg2⟩
 ·cases hv
 ·cases hv;cases hp;rw[hg]at hg2;cases xs with
  |nil=>cases hg2
  |cons x xs=>cases hg2
theorem OwnC.upd {h0 h h':AHeap} {p v:Value} {a:Option Addr} {n k:Nat} {cs:List Value} {xs:List Int} (o:OwnC h0 h p (.slice a n k::cs)) (i:OwnN h0 h v xs) (u:Upd v h h'):OwnC h0 h' p (.slice a n k::cs):=by
 have hne:=zGY o i;obtain⟨g,g1,g2,rfl,hg⟩:=o;exact⟨g,g1,QG g2 u.1,rfl,(u.2 g g2 fun b m c hv e=>hne b m c hv (by rw[e])).trans hg⟩
theorem OwnC.updM {h0 h h':AHeap} {p m:Value} {cs:List Value} {es:List (Int×Int)} (o:OwnC h0 h p cs) (i:OwnM h0 h m es) (u:zE6 m h h'):OwnC h0 h' p cs:=by
 obtain⟨g,g1,g2,rfl,hg⟩:=o;refine⟨g,g1,QG g2 u.1,rfl,(u.2 g g2 fun e=> ?_).trans hg⟩;obtain⟨g3,_,_,_,_,rfl,h3,_⟩:=i;cases e;rw[hg]at h3;cases h3
theorem OwnM.updC {h0 h h':AHeap} {p m:Value} {cs:List Value} {es:List (Int×Int)} (i:OwnM h0 h m es) (o:OwnC h0 h p cs) (u:UpdC p h h'):OwnM h0 h' m es:=by
 obtain⟨g3,c,es',g1,g2,rfl,h3,h4⟩:=i;refine⟨g3,c,es',g1,QG g2 u.1,rfl,(u.2 g3 g2 fun e=> ?_).trans h3,h4⟩;obtain⟨g,_,_,rfl,hg⟩:=o;cases e;rw[h3]at hg;cases hg
theorem OwnI.updC {h0 h h':AHeap} {p v:Value} {a:Option Addr} {n k:Nat} {cs:List Value} {xs:List Int} (i:OwnI h0 h v xs) (o:OwnC h0 h p (.slice a n k::cs)) (u:UpdC p h h'):OwnI h0 h' v xs:=by
 have hne:=zGY o (.inr i);obtain⟨g,g1,g2,rfl,hg⟩:=i;exact⟨g,g1,QG g2 u.1,rfl,(u.2 g g2 fun e=>hne _ _ _ rfl e).trans hg⟩
def nxL (L:List LBlk) (b:Int):List Int:=Zd (L.getD b.toNat default).fin
theorem zBS {nx:Int->List Int} {n:Nat} {b:Int} {s:DS} (h:(s.1.lookup b).isSome):ZB nx n b s=s:=by
 cases n with
 |zero=>rfl
 |succ n=>unfold ZB;rw[QI h]
noncomputable def zLQ:ACode:=(oV (oR [oB .lss 11 10 9]) (oV (oT 11 0) (oV (o5 1 (oV (oR [oI 1 12 8 10,oL 13 12,oM 7 13]) (oR [oM 14 2,oM 15 0,oM 16 7,⟨some 17,none,(.call (.tmp 14) [(.tmp 15),(.tmp 16)])⟩]))) (oR [oC .add 18 10 1,oM 10 18]))))
noncomputable def zQY:ACode:=(oV (oR [oM 8 1,oQ 9 8,oN 10 0]) (o5 0 (.loop zLQ)))
theorem zKP (hB:AHeap) (L:List LBlk) (vl:Value) (hin:∀ b,0<=b/\b<(L.length:Int)->∀ c∈nxL L b,0<=c/\c<(L.length:Int)) (n:Nat)
  (IH:∀ (h:AHeap) (p vm vd:Value) (s:DS) (b:Int),WS hB h p vl vm vd s->0<=b/\b<(L.length:Int)->unb L.length s.1<=n->s.2.length+unb L.length s.1<=L.length->
   WC Tryz.prog tb 162 [p,I b] h fun r h'=>∃ vd',WS hB h' p vl vm vd' (ZB (nxL L) n b s)/\Keep h h' p vm vd vd')
  (h:AHeap) (p vm vd nlv:Value) (s:DS) (l:List Int) (w:WS hB h p vl vm vd s) (sl:SlI h nlv l) (hl:(l.length:Int)<=1000) (o:Off h p vm vd nlv l) (hr:∀ c∈l,0<=c/\c<(L.length:Int)) (hu:unb L.length s.1<=n) (hd:s.2.length+unb L.length s.1<=L.length):
  WC Tryz.prog tb 161 [p,nlv,.func (.func 162) #[] #[]] h fun r h'=>∃ vd',WS hB h' p vl vm vd' (Zl (nxL L) n l s)/\Keep h h' p vm vd vd':=by
 refine en 19 [] zQY ?_;refine WX.loopA [11,12,13,7,14,15,16,17,18,10] (by kernel_rfl) (fun i=>l.length - i) (fun i t h1=>zB t 10=I i/\i<=l.length/\∃ vd1,WS hB h1 p vl vm vd1 (Zl (nxL L) n (l.take i) s)/\Keep h h1 p vm vd vd1) 0 ?_ ?_
 ·exact⟨sl_,QV _,vd,w,Keep.refl ..⟩
 rintro i t h1 hsame ⟨s10,hi,vd1,w1,k1⟩;obtain⟨sl1,o1⟩:=k1.sl sl o;refine go ?_;refine WX.br (fun hc=> ?_) (fun hc=> ?_)<;>simp only[DB]at hc
 ·have hi':i<l.length:=by omega
  refine go ?_;have hm:=yS hi';have hu1:unb L.length (Zl (nxL L) n (l.take i) s).1<=n:=QW (zCm fun c hc=>zFe _ _ hc) hu;have hd1:(Zl (nxL L) n (l.take i) s).2.length+unb L.length (Zl (nxL L) n (l.take i) s).1<=L.length:=by
   have:∀ (m:List Int) (s:DS),(∀ c∈m,0<=c/\c<(L.length:Int))->(Zl (nxL L) n m s).2.length+unb L.length (Zl (nxL L) n m s).1<=s.2.length+unb L.length s.1:=by
    intro m;induction m with
    |nil=>intro s _;exact QF _
    |cons x m ih=>intro s hm;exact QW (ih _ fun c hc=>hm c (by simp[hc])) (zDC hin n x s (hm x (by simp)))
   exact QW (this _ _ fun c hc=>hr c (JR hc)) hd
  refine WO.conV (WV.func (IH h1 p vm vd1 _ (l.getD i 0) w1 (hr _ hm) hu1 hd1)) ?_;rintro r h2 ⟨vd2,w2,k2⟩;refine go ?_;refine zA (i+1) (by omega) ⟨sln,by omega,vd2,?_,k1.trans k2⟩;have e:Zl (nxL L) n (l.take (i+1)) s=ZB (nxL L) n (l.getD i 0) (Zl (nxL L) n (l.take i) s):=by
   unfold Zl;rw[GI,List.foldl_append];simp[List.getD,QB hi']
  rw[e];exact w2
 ·refine go ?_;refine rtN ?_;have:i=l.length:=by omega
  subst this;rw[GN]at w1;exact⟨vd1,w1,k1⟩
set_option maxRecDepth 100000
section
variable {t:Trie Value}
theorem zUt {x:Operand} {v:Value} (hx:Ope t x v:=by first|with_reducible exact Ope.const|((with_reducible apply Ope.tmp);(repeat (first|((with_reducible apply Slot.there);rfl)|((with_reducible apply Slot.same);(with_reducible assumption);rfl)));first|with_reducible exact Slot.here|with_reducible assumption|(unfold Slot;with_reducible assumption))|with_reducible exact Ope.fn|with_reducible exact Ope.glob|fail):ev t x=v:=hx
end
theorem zIG (x:LEnd):(Zd x).length<=2:=by
 unfold Zd;split
 ·simp
 ·split
  ·split<;>simp
  ·simp
theorem zGq {h0 h:AHeap} {p:Value} {cs:List Value} (o:OwnC h0 h p cs):∃ g,p= .pointer (some ⟨g,0,none⟩):=let ⟨g,_,_,e,_⟩:=o;⟨g,e⟩
theorem zLv {hB h h':AHeap} {p vl vm vd:Value} (u:zE6 vm h h'):Keep h h' p vm vd vd:=⟨u.1,fun g hg n=>⟨u.2 g hg n.2.1,n⟩⟩
theorem zOa {h h':AHeap} {p vm vd:Value} {q:Nat} {k c:Nat} (u:Upd vd h h') (hq:q=h.n):Keep h h' p vm vd (.slice (some ⟨q,0,none⟩) k c):=
 ⟨u.1,fun g hg n=>⟨u.2 g hg n.2.2,n.1,n.2.1,fun a k c e=>by cases e;simp only;omega⟩⟩
theorem zM8 {h h':AHeap} {p vm vd:Value} (u:UpdC p h h'):Keep h h' p vm vd vd:=⟨u.1,fun g hg n=>⟨u.2 g hg n.1,n⟩⟩
noncomputable def zK4:ACode:=(oV (oV (oR [oM 7 0,⟨some 8,none,(.nilCheck (.tmp 7))⟩,oF 1 9 8,oL 10 9,oM 11 1,⟨some 12,none,(.lookup true (.int .i64 0) (.tmp 10) (.tmp 11))⟩,oM 6 12,oE 13 6 0,oE 14 6 1,oM 4 13,oM 5 14]) (oV (oR [oM 15 5]) (oJ 15 .ret .skip))) (oV (o6 [oM 16 0,(⟨some 17,none,(.nilCheck (.tmp 16))⟩,[]),oF 1 18 17,oL 19 18,oM 20 1,oM 21 0,(⟨some 22,none,(.nilCheck (.tmp 21))⟩,[]),oF 1 23 22,oL 24 23,(⟨some 25,none,(.lenMap (.tmp 24))⟩,[]),(⟨none,none,(.update (.tmp 19) (.tmp 20) (.tmp 25))⟩,[])]) (oV (oR [oM 26 0,oM 27 0,⟨some 28,none,(.nilCheck (.tmp 27))⟩,oF 0 29 28,oL 30 29,oM 31 1,oI 5 32 30 31,oF 1 33 32,oA 4 34 33,o1 35 46 34,⟨some 36,none,(.call (.func 161) [(.tmp 26),(.tmp 35),(.func 162)])⟩]) (oR [oM 37 0,oM 38 0,⟨some 39,none,(.nilCheck (.tmp 38))⟩,oF 2 40 39,oL 41 40,oM 42 1,⟨some 43,none,(.buildSlice 1 1 [(.int .i64 0)] [(0,1,(.tmp 42))])⟩,oY 1 44 41 43,⟨some 45,none,(.nilCheck (.tmp 37))⟩,oF 2 46 45,oS 1 46 44]))))
theorem zPE (hB:AHeap) (hmB:hB.mark<=hB.n) (L:List LBlk) (vl:Value) (bl:SlB hB vl L) (hL:L.length<=1000) (hin:∀ b,0<=b/\b<(L.length:Int)->∀ c∈nxL L b,0<=c/\c<(L.length:Int)):∀ (n:Nat) (h:AHeap) (p vm vd:Value) (s:DS) (b:Int),WS hB h p vl vm vd s->0<=b/\b<(L.length:Int)->unb L.length s.1<=n->s.2.length+unb L.length s.1<=L.length->
   WC Tryz.prog tb 162 [p,I b] h fun r h'=>∃ vd',WS hB h' p vl vm vd' (ZB (nxL L) n b s)/\Keep h h' p vm vd vd':=by
 obtain⟨la,ln,lk,hvl⟩:=zM bl;subst hvl;intro n;induction n with
 |zero=>
  intro h p vm vd s b w hb hu hd;obtain⟨v,hv⟩:=Option.isSome_iff_exists.1 (zI1 (Nat.le_zero.1 hu) hb);obtain⟨gp,rfl⟩:=zGq w.own;have wo:=w.own;have wm:=w.map;refine en 47 [] zK4 ?_;refine rt ?_;exact⟨vd,w,Keep.refl ..⟩
 |succ n IH=>
  intro h p vm vd s b w hb hu hd;obtain⟨gp,rfl⟩:=zGq w.own;have wo:=w.own;have wm:=w.map;refine en 47 [] zK4 ?_;cases hv:s.1.lookup b with
  |some v=>
   refine gr ?_;exact⟨vd,by rw[zBS (by rw[hv];rfl)];exact w,Keep.refl ..⟩
  |none=>
   have hlt:=zEc (v:=(s.1.length:Int)) hv hb;refine go ?_;refine WX.regionU2 0 rfl rfl ?_;have o1:OwnC hB (inC (zC 0 h)) (.pointer (some ⟨gp,0,none⟩)) [.slice la ln lk,vm,vd]:=wo;have m1:OwnM hB (inC (zC 0 h)) vm s.1:=wm;refine goU ?_;have hmk:h.mark<=hB.n:=by rw[w.ext.mark];exact hmB
   refine WU2.upd wm w.ext hmk hv ?_;intro h1 e1 wm1 u1;have wo1:=OwnC.updM wo wm u1;have wd1:=w.dn.updM wm u1;have k1:Keep h h1 (.pointer (some ⟨gp,0,none⟩)) vm vd vd:=zLv (hB:=hB) (vl:=vm) u1;clear o1 m1 wo wm;obtain⟨i,rfl⟩:∃ i:Nat,b=i:=⟨b.toNat,by omega⟩;have bl1:=SlB.ext bl e1;obtain⟨csB,⟨vi,rfl,si,hli⟩,pcB,hsB⟩:=yN (i:=i) bl1 (by omega);refine go ?_;refine WO.con (zHX h1 _) ?_;rintro r h2 ⟨s2,f2,e2⟩;have wo2:=wo1.ext e2;have wm2:=wm1.ext e2;have wd2:=wd1.ext e2;have e02:=e1.trans e2;have w1:WS hB h1 (.pointer (some ⟨gp,0,none⟩)) (.slice la ln lk) vm vd (s.1++[((i:Int),(s.1.length:Int))],s.2):=⟨wo1,wm1,wd1,e1⟩;have w2:WS hB h2 (.pointer (some ⟨gp,0,none⟩)) (.slice la ln lk) vm vd (s.1++[((i:Int),(s.1.length:Int))],s.2):=⟨wo2,wm2,wd2,e02⟩;have hnx:Zd (L.getD i default).fin=nxL L (i:Int):=by unfold nxL;rw[GQ]
   rw[hnx]at s2;have hnl:(nxL L (i:Int)).length<=2:=by unfold nxL;exact zIG _
   refine go ?_;refine WO.con (zKP hB L (.slice la ln lk) hin n IH h2 (.pointer (some ⟨gp,0,none⟩)) vm vd r _ (nxL L (i:Int)) w2 s2 (by omega) (zMr w1 f2 s2) (hin _ hb) (by simp only;omega) (by simp only at hd |-;omega)) ?_;rintro _ h3 ⟨vd3,w3,k3⟩;have wo3:=w3.own;refine go ?_;refine WO.bl [(i:Int)] ?_;intro v4 h4 e4 o4;have wd4:=w3.dn.ext e4;have e34:=w3.ext.trans e4;refine go ?_;have hbd:(Zl (nxL L) n (nxL L (i:Int)) (s.1++[((i:Int),(s.1.length:Int))],s.2)).2.length<=1000:=by
    have:∀ (m:List Int) (s:DS),(∀ c∈m,0<=c/\c<(L.length:Int))->(Zl (nxL L) n m s).2.length+unb L.length (Zl (nxL L) n m s).1<=s.2.length+unb L.length s.1:=by
     intro m;induction m with
     |nil=>intro s _;exact QF _
     |cons x m ih=>intro s hm;exact QW (ih _ fun c hc=>hm c (by simp[hc])) (zDC hin n x s (hm x (by simp)))
    have:=this (nxL L (i:Int)) (s.1++[((i:Int),(s.1.length:Int))],s.2) (hin _ hb);simp only at this;omega
   refine WO.appendF (v:=vd3) (w:=v4) (by exact zUt) (by exact zUt) wd4 o4.sl e34 (by simp) (by simp only[Qa];omega) ?_;intro h5 e5 o5 u5;have wo5:=OwnC.upd (wo3.ext e4) wd4 u5;have wm5:=(w3.map.ext e4).upd wd4 u5;refine go ?_;refine WO.stC wo5 e5 ?_ (hl:=QF 3);intro h6 e6 wo6 u6;refine go ?_;refine rtN ?_;have hdf:ZB (nxL L) (n+1) (i:Int) s=((Zl (nxL L) n (nxL L (i:Int)) (s.1++[((i:Int),(s.1.length:Int))],s.2)).1,(Zl (nxL L) n (nxL L (i:Int)) (s.1++[((i:Int),(s.1.length:Int))],s.2)).2++[(i:Int)]):=by
    conv=>lhs;unfold ZB
    rw[QD (by rw[hv];exact Bool.noConfusion)];rfl
   rw[hdf];refine⟨_,⟨wo6,OwnM.updC wm5 wo5 u6,.inr (OwnI.updC o5 wo5 u6),e6⟩,?_⟩;exact(((k1.trans (Keep.ext e2 ..)).trans k3).trans (Keep.ext e4 ..)).trans ((zOa u5 rfl).trans (zM8 u6))
set_option maxRecDepth 100000
theorem zED (N:Nat) (es:List (Int×Int)):unb N es<=N:=by
 unfold unb;have:=List.length_filter_le (fun (i:Nat)=>(es.lookup ((i:Nat):Int)).isNone) (List.range N);simpa using this
noncomputable def zSC:ACode:=(oV (oR [oK 4 (.slice none 0 0)]) (oV (oR [oM 6 0,⟨some 7,none,.mkMap⟩,⟨some 8,none,(.build [(.slice none 0 0),(.map none),(.slice none 0 0)] [(0,1,(.tmp 6)),(1,1,(.tmp 7))])⟩,oX 9 8,oM 5 9]) (oV (oR [oM 10 5,oM 11 1,⟨some 12,none,(.call (.func 161) [(.tmp 10),(.tmp 11),(.func 162)])⟩]) (oV (oR [oM 13 5,⟨some 14,none,(.nilCheck (.tmp 13))⟩,oF 2 15 14,oL 16 15,oM 4 16]) .ret))))
theorem zLA (h:AHeap) (hm:h.mark<=h.n) (L:List LBlk) (vl fv:Value) (l:List Int) (bl:SlB h vl L) (hL:L.length<=1000) (hin:∀ b,0<=b/\b<(L.length:Int)->∀ c∈nxL L b,0<=c/\c<(L.length:Int)) (sl:SlI h fv l) (hl:(l.length:Int)<=1000) (hr:∀ c∈l,0<=c/\c<(L.length:Int)):
  WC Tryz.prog tb 108 [vl,fv] h fun r h'=>OwnN h h' r (Zl (nxL L) L.length l ([],[])).2/\Ext h h':=by
 obtain⟨la,ln,lk,rfl⟩:=zM bl;refine en 17 [(4,none)] zSC ?_;refine WO.mkMap ?_;intro vm h1 e1 m1;obtain⟨gm,rfl⟩:∃ g,vm= .map (some g):=let ⟨g,_,_,_,_,e,_⟩:=m1;⟨g,e⟩;refine go ?_;refine WO.bx ?_;intro p h2 e2 o2;have e12:=e1.trans e2;have w2:WS h h2 p (.slice la ln lk) (.map (some gm)) (.slice none 0 0) ([],[]):=⟨o2.since e1,m1.ext e2,.inl ⟨rfl,rfl⟩,e12⟩;have hoff:Off h2 p (.map (some gm)) (.slice none 0 0) fv l:=by
  rcases sl.2 with ⟨h0,hv⟩|⟨g,off,row,hv,hr,hc,hg⟩
  ·exact .inl (Gi.1 h0)
  ·refine .inr ⟨g,off,hv,QG hg e12.n,?_⟩;obtain⟨g1,a1,_,hp,_⟩:=w2.own;obtain⟨g2,_,_,a2,_,hm2,_⟩:=w2.map;cases hm2;refine⟨fun e=> ?_,fun e=>by cases e;omega,fun a n c e=>by cases e⟩;rw[hp]at e;cases e;omega
 refine go ?_;refine WO.con (zKP h L (.slice la ln lk) hin L.length (fun h' p vm vd s b w hb hu hd=>zPE h hm L (.slice la ln lk) bl hL hin L.length h' p vm vd s b w hb hu hd) h2 p _ _ fv ([],[]) l w2 (sl.ext e12) hl hoff hr (zED _ _) (by have:=zED L.length [];simp only[Gh];omega)) ?_;rintro _ h3 ⟨vd,w3,k3⟩;obtain⟨gp,rfl⟩:=zGq w3.own;have wo3:=w3.own;refine gr ?_;exact⟨w3.dn,w3.ext⟩
theorem zKO {T:List LType} {n:Int} {f:LFn} (h:fnL T n f=true):f.blocks.length<=16/\∀ b,0<=b/\b<(f.blocks.length:Int)->∀ c∈nxL f.blocks b,0<=c/\c<(f.blocks.length:Int):=by
 unfold fnL at h;split at h
 ·cases h
 ·rename_i hbad;have hlen:f.blocks.length<=16:=by
   unfold zB8 at hbad;simp only[GA,not_or,JQ,Bool.not_eq_false']at hbad;have h1:zW ((f.blocks.length:Int) - 1) 16=true:=by simpa using hbad.1.2
   unfold zW at h1;simp only[QJ,Qb]at h1;omega
  refine⟨hlen,fun b hb c hc=> ?_⟩;rw[Gk,G8]at h;have hmem:=zH (l:=f.blocks) (i:=b.toNat) (by omega);have hblk:=h _ hmem;unfold zCo at hblk;simp only[GA,not_or,JQ,Bool.not_eq_false']at hblk;have he:zA6 (f.blocks.getD b.toNat default).fin (szL T n f)=true:=by simpa using hblk.2
  unfold nxL Zd at hc;unfold zA6 zW szL at he;split at hc
  ·rename_i hk;rw[QI hk]at he;simp only[QJ,Qb]at he;simp only[QQ]at hc;omega
  ·rename_i hk;rw[QD hk]at he;split at hc
   ·rename_i hk2;rw[QI hk2]at he;simp only[QJ,Qb]at he;split at hc
    ·simp only[QQ]at hc;omega
    ·simp only[Qj,List.mem_nil_iff,or_false]at hc;rcases hc with rfl|rfl<;>omega
   ·cases hc
theorem Zc {T:List LType} {F:List LFn} {f b:Int} (h:(zD T F f b).2=0):(zD T F f b).1.length<=16/\∀ c,0<=c/\c<((zD T F f b).1.length:Int)->∀ d∈nxL (zD T F f b).1 c,0<=d/\d<((zD T F f b).1.length:Int):=by
 obtain⟨_,_,h3,h4⟩:=yh h;have hin:=zAl h4;rw[h3];exact zKO ((zAP hin.2.2).2.2.2 _ (zH (l:=F) (i:=f.toNat) (by omega)))
end Go.Proofs.YteekipjpghikkaaGreatDoor
