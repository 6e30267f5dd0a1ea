/- What functions of the program come to in the abstract machine, and plain laws about it; no statement of the seat is proved in this text. -/
import Derived.Test.YteekipjpghikkaaGreatDoorJj
import Derived.Test.YteekipjpghikkaaGreatDoorJj
import Derived.Test.YteekipjpghikkaaGreatDoorJg
import Derived.Test.YteekipjpghikkaaGreatDoorJb
import Derived.Test.YteekipjpghikkaaGreatDoorAmU
import Derived.Test.YteekipjpghikkaaGreatDoorJh
set_option linter.unusedVariables false
set_option linter.unusedSimpArgs false
set_option maxHeartbeats 2000000
namespace Go.Proofs.YteekipjpghikkaaGreatDoor
noncomputable section
open Go.Am
theorem zAo {α:Type} {a b:List α} {i:Nat} {d:α} (h:i<a.length):(a++b).getD i d=a.getD i d:=by
 rw[List.getD_eq_getElem?_getD,List.getD_eq_getElem?_getD,List.getElem?_append_left h]
theorem zAi {α:Type} {a b:List α} {i:Nat} {d:α} (h:a.length≤i):(a++b).getD i d=b.getD (i - a.length) d:=by
 rw[List.getD_eq_getElem?_getD,List.getD_eq_getElem?_getD,List.getElem?_append_right h]
theorem zCG {α β:Type} {l:List α} {i:Nat} {f:α→β} {a:α} {b:β} (h:i<l.length):(l.map f).getD i b=f (l.getD i a):=by
 rw[List.getD_eq_getElem?_getD,List.getD_eq_getElem?_getD,List.getElem?_map,List.getElem?_eq_getElem h];rfl
theorem zBk (b:LBlk) (L:List LBlk):∀ n,yW (b::L) (n+1)=((List.range b.ins.length).map fun (i:Nat)=>((0:Int),(i:Int)))++(yW L n).map fun p=>(p.1+1,p.2)
 |0=>by simp[yW]
 |n+1=>by
  show yW (b::L) (n+1)++(List.range (L.getD n default).ins.length).map (fun (i:Nat)=>(((n+1:Nat):Int),(i:Int)))=_++(yW L n++(List.range (L.getD n default).ins.length).map fun (i:Nat)=>((n:Int),(i:Int))).map (fun p=>(p.1+1,p.2));rw[zBk b L n,List.map_append,List.map_map,List.append_assoc];rfl
theorem zHc (L:List LBlk):((yW L L.length).length:Int)=zW L:=by
 rw[←zCL L _ (Nat.le_refl _),List.take_length,zDi]
theorem zBh:∀ (L:List LBlk) (k:Int),0≤k→k<zW L→(yW L L.length).getD k.toNat default=ze L k
 |[],k,h0,h1=>by have h1:k<0:=h1;omega
 |b::L,k,h0,h1=>by
  rw[List.length_cons,zBk];rw[YN]at h1;unfold ze;by_cases hk:k<b.ins.length
  ·rw[if_neg (by omega),zAo (by rw[List.length_map,List.length_range];omega),zCG (a:=0) (by rw[List.length_range];omega)];rw[List.getD_eq_getElem?_getD,List.getElem?_range (by omega)];show ((0:Int),((k.toNat:Nat):Int))=_;rw[show ((k.toNat:Nat):Int)=k by omega]
  ·rw[if_pos (by omega),zAi (by rw[List.length_map,List.length_range];omega),List.length_map,List.length_range];have hl:=zHc L;rw[zCG (a:=default) (by omega),show k.toNat - b.ins.length=(k - b.ins.length).toNat by omega,zBh L _ (by omega) (by omega)]
theorem zCt:∀ (L:List LBlk) (k:Int),0≤k→k<zW L→(ZM L).getD k.toNat 0=YQ ((L.getD (ze L k).1.toNat default).ins.getD (ze L k).2.toNat default)
 |[],k,h0,h1=>by have h1:k<0:=h1;omega
 |b::L,k,h0,h1=>by
  have hc:ZM (b::L)=b.ins.map YQ++ZM L:=by unfold ZM;rw[List.flatMap_cons]
  rw[hc];rw[YN]at h1;unfold ze;by_cases hk:k<b.ins.length
  ·rw[if_neg (by omega),zAo (by rw[List.length_map];omega),zCG (a:=default) (by omega)];rfl
  ·rw[if_pos (by omega),zAi (by rw[List.length_map];omega),List.length_map,show k.toNat - b.ins.length=(k - b.ins.length).toNat by omega,zCt L _ (by omega) (by omega)];have:=(zAd (l:=L) (a:=k - b.ins.length) (by omega) (by omega)).1;show _=YQ (((b::L).getD ((ze L (k - b.ins.length)).1+1).toNat default).ins.getD _ default);rw[show ((ze L (k - b.ins.length)).1+1).toNat=(ze L (k - b.ins.length)).1.toNat+1 by omega,List.getD_cons_succ]
theorem zRJ {T:List LType} {F:List LFn} {f r:Int} (h0:0≤r) (h1:r<zAc ((yB T F f).parts.length:Int) (zJ F f)):
  (psF T F f).getD r.toNat default=if r<((yB T F f).parts.length:Int) then (-1,-1) else ze (zJ F f) (r - ((yB T F f).parts.length:Int)):=by
 unfold psF zC9;unfold zAc at h1;split
 ·rename_i h;rw[zAo (by rw[List.length_replicate];omega),zNt (by omega)]
 ·rename_i h;rw[zAi (by rw[List.length_replicate];omega),List.length_replicate,show r.toNat - (yB T F f).parts.length=(r - ((yB T F f).parts.length:Int)).toNat by omega,zBh _ _ (by omega) (by omega)]
theorem zRU {T:List LType} {F:List LFn} {f r:Int} (h0:0≤r) (h1:r<zAc ((yB T F f).parts.length:Int) (zJ F f)):
  (ksF T F f).getD r.toNat 0=if r<((yB T F f).parts.length:Int) then (yB T F f).parts.getD r.toNat 0 else YQ (((zJ F f).getD (ze (zJ F f) (r - ((yB T F f).parts.length:Int))).1.toNat default).ins.getD (ze (zJ F f) (r - ((yB T F f).parts.length:Int))).2.toNat default):=by
 unfold ksF zDm;unfold zAc at h1;split
 ·rename_i h;rw[zAo (by omega)]
 ·rename_i h;rw[zAi (by omega),show r.toNat - (yB T F f).parts.length=(r - ((yB T F f).parts.length:Int)).toNat by omega,zCt _ _ (by omega) (by omega)]
theorem zCJ {T:List LType} {F:List LFn} {f r:Int} (hp:yX T F=0):zj T F f r=if f<0∨(F.length:Int)≤f∨r<0∨zAc ((yB T F f).parts.length:Int) (zJ F f)≤r then (0,0,2) else
  if r<((yB T F f).parts.length:Int) then (-1,r,0) else ((ze (zJ F f) (r - ((yB T F f).parts.length:Int))).1,(ze (zJ F f) (r - ((yB T F f).parts.length:Int))).2,0):=by
 unfold zj;by_cases hf:0≤f∧f<(F.length:Int)
 ·have hask:zc T F f=(((yB T F f).parts.length:Int),0):=by
   unfold zc;rw[if_neg (fun e=>e hp),if_pos (by unfold zO;simp;omega)];rfl
  rw[hask];rw[if_neg (fun e=>e rfl)];show (if r<0∨((yB T F f).parts.length:Int)+zW (F.getD f.toNat default).blocks≤r then (0,0,2) else if r<((yB T F f).parts.length:Int) then (-1,r,0) else ((ze (zJ F f) (r - ((yB T F f).parts.length:Int))).1,(ze (zJ F f) (r - ((yB T F f).parts.length:Int))).2,0))=_;by_cases h1:r<0∨((yB T F f).parts.length:Int)+zW (F.getD f.toNat default).blocks≤r
  ·rw[if_pos h1,if_pos (by unfold zAc zJ;omega)]
  ·rw[if_neg h1,if_neg (c:=f<0∨_) (by unfold zAc zJ;omega)]
 ·have hask:zc T F f=(0,2):=by
   unfold zc;rw[if_neg (fun e=>e hp),if_neg (by unfold zO;simp;omega)]
  rw[hask,if_pos (by decide),if_pos (by omega)]
theorem zM8 {T:List LType} {F:List LFn} {f r block at':Int} (hp:yX T F=0) (Z:FnIn T F f) (h0:0≤r) (h1:r<zAc ((yB T F f).parts.length:Int) (zJ F f)) (hb:0≤block∧block<((zJ F f).length:Int)):
  (zj T F f r).2.2=0∧(zPA T F f r block at'↔zBD (nxL (zJ F f)) ((psF T F f).getD r.toNat default) block at'):=by
 have hf:=Z.hf;have hnx:nxF T F f=nxL (zJ F f):=by unfold nxF;rw[Z.bl 0 (Int.le_refl 0) (by have:=Z.n1;omega)]
 have hpl:=zCJ (f:=f) (r:=r) hp;rw[if_neg (by omega)]at hpl;unfold zPA zBD;rw[hpl,zRJ h0 h1,hnx];by_cases c:r<((yB T F f).parts.length:Int)
 ·rw[if_pos c,if_pos c];refine⟨rfl,?_⟩;rw[if_neg (by show ¬(-1:Int)=block;omega)];simp
 ·rw[if_neg c,if_neg c];refine⟨rfl,?_⟩;unfold zAc at h1;have hw:=zAd (l:=zJ F f) (a:=r - ((yB T F f).parts.length:Int)) (by omega) (by omega);have hne:(ze (zJ F f) (r - ((yB T F f).parts.length:Int))).1≠ -1:=by omega
  by_cases d:(ze (zJ F f) (r - ((yB T F f).parts.length:Int))).1=block
  ·rw[if_pos d];exact⟨fun h=>h.elim (fun h=>absurd h hne) fun h=>h.elim (fun h=>h.2) fun h=>absurd d h.2.1,fun h=> .inr (.inl ⟨d,h⟩)⟩
  ·rw[if_neg d];exact⟨fun h=>h.elim (fun h=>absurd h hne) fun h=>h.elim (fun h=>absurd h.1 d) fun h=> .inr h.2.2,fun h=>h.elim (fun h=>absurd h hne) fun h=> .inr (.inr ⟨hne,d,h⟩)⟩
set_option maxRecDepth 100000
theorem zMm {T:List LType} {F:List LFn} {f:Int} (hp:yX T F=0) (hf:0≤f∧f<(F.length:Int)):Zp T F f 0=0:=by
 have Z:=zKe hp hf;have hb0:=Z.bl 0 (Int.le_refl 0) (by have:=Z.n1;omega);have hbe:(zD T F f 0).2=0:=by rw[hb0]
 unfold Zp;rw[if_neg (fun e=>e hbe),if_neg (by rw[hb0];have:=Z.n1;show ¬(_∨((zJ F f).length:Int)≤0);omega),if_pos ((ZH hbe).2 (by rw[hb0];exact Way.here))]
def zQl:ACode:=(oV (oR [oX 3 0,oN 6 0,oN 7 0]) (oV (oV (oR [oA 2 13 3,o1 14 12 13,oM 8 14]) (oV (oR [oM 15 8,oC .neq 16 15 0]) (oJ 16 (oV (oR [oM 17 8,oN 6 0,oM 7 17]) .ret) .skip))) (oV (oV (oR [oA 2 19 3,oM 20 1,oM 21 2,o3 22 16 19 20 21,oM 18 22,oE 23 18 0,oE 24 18 1,oE 25 18 2,oM 9 23,oM 10 24,oM 11 25]) (oV (oR [oM 26 11,oC .neq 27 26 0]) (oJ 27 (oV (oR [oM 28 11,oN 6 0,oM 7 28]) .ret) .skip))) (oV (oR [oA 2 29 3,oM 30 1,o2 31 27 29 30,⟨some 32,none,(.nilCheck (.tmp 31))⟩,oF 3 33 32,oL 34 33,oM 35 2,oI 1 36 34 35,oL 37 36,oM 12 37]) (oV (oV (oR [oM 38 12,oC .eql 39 38 (-1)]) (oJ 39 (oV (oR [oN 6 0,oN 7 6]) .ret) .skip)) (oV (oR [oM 40 12,oM 6 40,oN 7 0]) .ret))))))
theorem zLI (h:AHeap) (vt vf:Value) (T:List LType) (F:List LFn) (f r:Int) (E:Env h vt vf T F):
  WC Tryz.prog tb 10 [.agg #[vt,vf],I f,I r] h fun q h'=>q= .tuple #[I (zD3 T F f r).1,I (zD3 T F f r).2]∧Ext h h':=by
 unfold zD3;refine en 41 [(6,none),(7,none)] zQl ?_;refine WO.bx ?_;intro p1 h1 e1 o1;replace o1:OwnC h h1 p1 [vt,vf]:=o1;have E1:=E.ext e1;refine go ?_;refine WO.con (zEm h1 vt vf T F E1) ?_;rintro _ h2 ⟨rfl,e2⟩;have o2:=o1.ext e2;have E2:=E1.ext e2;by_cases hs:YD T F=0;case neg=>
  have hs':YD T F≠0:=hs;rw[if_pos hs];refine gr ?_;exact⟨rfl,e1.trans e2⟩
 obtain⟨hp,hw⟩:=zDs hs;rw[if_neg (fun e=>e hs),hs];refine go ?_;refine WO.con (zNm h2 vt vf T F f r E2) ?_;rintro _ h3 ⟨rfl,e3⟩;have o3:=o2.ext e3;have E3:=E2.ext e3;have e03:=e1.trans (e2.trans e3);have hpl:=zCJ (f:=f) (r:=r) hp;by_cases hq:(zj T F f r).2.2=0;case neg=>
  have hq':(zj T F f r).2.2≠0:=hq;rw[if_pos hq];refine gr ?_;exact⟨rfl,e03⟩
 rw[if_neg (fun e=>e hq)];have hin:¬(f<0∨(F.length:Int)≤f∨r<0∨zAc ((yB T F f).parts.length:Int) (zJ F f)≤r):=fun hb=>by
  rw[hpl,if_pos hb]at hq;cases hq
 have hf:0≤f∧f<(F.length:Int):=by omega
 have Z:=zKe hp hf;have hreg:=Z.reg;have hn16:=Z.n16;generalize zj T F f r=pl at *;rw[hq];refine go ?_;refine WO.con (zIk h3 vt vf T F f E3 (zMm hp hf) hf Z.sig hn16) ?_;rintro _ h4 ⟨⟨g,xs,rfl,hR,⟨⟨hB,vk,vp,vr,oc,sk,sp,sr⟩,st,sf,hm⟩⟩,e4⟩;have sk:SlI h4 vk (ksF T F f):=sk;have hlt:r.toNat<(ksF T F f).length:=by omega
 obtain⟨k,hk⟩:∃ k,(ksF T F f).getD r.toNat 0=k:=⟨_,rfl⟩;refine go ?_;rw[hk];by_cases hk1:k= -1
 ·rw[if_pos hk1];refine gr ?_;exact⟨rfl,e03.trans e4⟩
 ·rw[if_neg hk1];refine gr ?_;exact⟨rfl,e03.trans e4⟩
set_option maxRecDepth 100000
def zPQ:ACode:=(oV (oR [oZ 4]) (oV (oR (oM 5 1::oC .geq 6 5 0::oM 7 6::oG 7 (oM 8 1)::oG 7 (oM 9 0)::oG 7 (oQ 10 9)::oG 7 (oB .lss 11 8 10)::oP 12 7 11::oM 13 12::oG 13 (oM 14 0)::oG 13 (oM 15 1)::oG 13 (oI 4 16 14 15)::oG 13 (oF 0 17 16)::oG 13 (oL 18 17)::oG 13 (oD .eql 19 18 1)::oG 13 (oM 20 19)::oH 20 (oM 21 0)::oH 20 (oM 22 1)::oH 20 (oI 4 23 21 22)::oH 20 (oF 0 24 23)::oH 20 (oL 25 24)::oH 20 (oD .eql 26 25 2)::oG 13 (oO 27 20 26)::oG 13 (oM 28 27)::oH 28 (oM 29 0)::oH 28 (oM 30 1)::oH 28 (oI 4 31 29 30)::oH 28 (oF 0 32 31)::oH 28 (oL 33 32)::oH 28 (oD .eql 34 33 3)::oG 13 (oO 35 28 34)::oP 36 13 35::oM 4 36::[])) .ret))
theorem zCN (h:AHeap) (vt:Value) (T:List LType) (k:Int) (st:SlT h vt T) (hT:(T.length:Int)≤1000):
  WC Tryz.prog tb 201 [vt,I k] h fun r h'=>(∃ b,r= .bool b∧(b=true↔PlT T k))∧h=h':=by
 refine en 37 [(4,none)] zPQ ?_;by_cases h0:0≤k;case neg=>
  refine gr ?_;exact⟨⟨_,rfl,by unfold PlT;simp only[DBI];omega⟩,rfl⟩
 by_cases h1:k<(T.length:Int);case neg=>
  refine gr ?_;exact⟨⟨_,rfl,by unfold PlT;simp only[DBI];omega⟩,rfl⟩
 obtain⟨cs,⟨va,rfl,sa,hla⟩,pc,hs⟩:=yQ (i:=k.toNat) st (by omega);refine go ?_;repeat' (first|(refine WX.br (fun hb=> ?_) (fun hb=> ?_)<;>(try simp only[DB]at hb)<;>refine go ?_)|(refine WO.sp (fun hb=> ?_) (fun hb=> ?_)<;>(try simp only[DB]at hb)<;>refine go ?_))
 all_goals (refine rt ?_;exact⟨⟨_,rfl,by unfold PlT;simp only[DBI];omega⟩,rfl⟩)
def zKN:ACode:=(oV (oV (oR [oM 6 5,oM 7 0,oQ 8 7,oB .lss 9 6 8]) (oT 9 0)) (oV (o5 1 (oV (oR [oM 12 0,oM 13 5,oI 1 14 12 13,oL 15 14,oC .lss 16 15 0,oM 17 16,oH 17 (oM 18 0),oH 17 (oM 19 5),oH 17 (oI 1 20 18 19),oH 17 (oL 21 20),oH 17 (oM 22 1),oH 17 (oB .geq 23 21 22),oO 24 17 23]) (oJ 24 (oV (oR [oZ 4]) .ret) .skip))) (oR [oM 10 5,oC .add 11 10 1,oM 5 11])))
def zPY:ACode:=(oV (oR [oZ 4]) (oV (oV (oR [oN 5 0]) (o5 0 (.loop zKN))) (oV (oR [oK 4 (.bool true)]) .ret)))
theorem zLA (h:AHeap) (v:Value) (l:List Int) (m:Int) (s:SlI h v l) (hl:(l.length:Int)≤1000000):
  WC Tryz.prog tb 172 [v,I m] h fun r h'=>(∃ b,r= .bool b∧(b=true↔∀ p∈l,0≤p∧p<m))∧h=h':=by
 refine en 25 [(4,none)] zPY ?_;refine WX.loopA [6,7,8,9,12,13,14,15,16,17,18,19,20,21,22,23,24,4,10,11,5] (by kernel_rfl) (fun i=>l.length - i) (fun i t h1=>h=h1∧zB t 5=I i∧i≤l.length∧∀ j,j<i→0≤l.getD j 0∧l.getD j 0<m) 0 ?_ ?_
 ·exact⟨rfl,sl_,Nat.zero_le _,fun j hj=>absurd hj (Nat.not_lt_zero _)⟩
 rintro i t _ hsame ⟨rfl,s5,hi,hm⟩;refine go ?_;refine WX.br (fun hb=> ?_) (fun hb=> ?_)<;>simp only[DB]at hb
 ·have hi':i<l.length:=by omega
  by_cases hok:0≤l.getD i 0∧l.getD i 0<m
  ·refine go ?_;refine zA (i+1) (by omega) ⟨rfl,sln,by omega,fun j hj=> ?_⟩;by_cases e:j=i
   ·subst e;exact hok
   ·exact hm j (by omega)
  ·have hno:¬∀ p∈l,0≤p∧p<m:=fun hh=>hok (hh _ (zS hi'));by_cases h0:l.getD i 0<0
   ·refine gr ?_;exact⟨⟨_,rfl,by simp only[DBI];exact hno⟩,rfl⟩
   ·refine gr ?_;exact⟨⟨_,rfl,by simp only[DBI];exact hno⟩,rfl⟩
 ·refine gr ?_;refine⟨⟨_,rfl,?_⟩,rfl⟩;simp only[DBI];intro p hp;obtain⟨j,hj,rfl⟩:=ZL hp;exact hm j (by omega)
def zJL:ACode:=(oV (oV (oR [oM 6 5,oF 3 7 3,oL 8 7,oQ 9 8,oB .lss 10 6 9]) (oT 10 0)) (oV (o5 1 (oV (oR [oM 13 0,oF 3 14 3,oL 15 14,oM 16 5,oI 1 17 15 16,oL 18 17,o2 19 201 13 18,oW 20 19]) (oJ 20 (oV (oR [oZ 4]) .ret) .skip))) (oR [oM 11 5,oC .add 12 11 1,oM 5 12])))
def zQK:ACode:=(oV (oR [oX 3 1,oZ 4]) (oV (oV (oR [oN 5 0]) (o5 0 (.loop zJL))) (oV (oR [oM 21 0,oF 1 22 3,oL 23 22,o2 24 201 21 23,oM 25 24,oG 25 (oF 3 26 3),oG 25 (oL 27 26),oG 25 (oQ 28 27),oG 25 (oC .leq 29 28 4),oP 30 25 29,oM 31 30,oG 31 (oF 2 32 3),oG 31 (oL 33 32),oG 31 (oC .eql 34 33 0),oP 35 31 34,oM 4 35]) .ret)))
theorem zLD (h:AHeap) (vt va:Value) (T:List LType) (x:LType) (st:SlT h vt T) (hT:(T.length:Int)≤1000) (sa:SlI h va x.parts) (hla:(x.parts.length:Int)≤1000000):
  WC Tryz.prog tb 171 [vt,.agg #[.int .u8 x.kind,I x.elem,I x.many,va]] h fun r h'=>(∃ b,r= .bool b∧(b=true↔zB6 T x))∧Ext h h':=by
 refine en 36 [(4,none)] zQK ?_;refine WO.bx ?_;intro p h1 e1 o1;have st1:=st.ext e1;have sa1:=sa.ext e1;obtain⟨_,_,_,rfl⟩:=SlC.shape sa;refine go ?_;refine WX.loopA [6,7,8,9,10,13,14,15,16,17,18,19,20,4,11,12,5] (by kernel_rfl) (fun i=>x.parts.length - i) (fun i t h2=>h1=h2∧zB t 5=I i∧i≤x.parts.length∧∀ j,j<i→PlT T (x.parts.getD j 0)) 0 ?_ ?_
 ·exact⟨rfl,sl_,Nat.zero_le _,fun j hj=>absurd hj (Nat.not_lt_zero _)⟩
 rintro i t _ hsame ⟨rfl,s5,hi,hm⟩;refine go ?_;refine WX.br (fun hb=> ?_) (fun hb=> ?_)<;>simp only[DB]at hb
 ·have hi':i<x.parts.length:=by omega
  refine go ?_;refine WO.con (zCN h1 vt T (x.parts.getD i 0) st1 hT) ?_;rintro _ _ ⟨⟨b,rfl,hbb⟩,rfl⟩;cases b with
  |true=>
   refine go ?_;refine zA (i+1) (by omega) ⟨rfl,sln,by omega,fun j hj=> ?_⟩;by_cases e:j=i
   ·subst e;exact hbb.1 rfl
   ·exact hm j (by omega)
  |false=>
   refine gr ?_;exact⟨⟨_,rfl,by simp only[DBI];exact fun hh=>absurd (hbb.2 (hh.1 _ (zS hi'))) Bool.noConfusion⟩,e1⟩
 ·have hall:∀ p∈x.parts,PlT T p:=fun p hp=>by
   obtain⟨j,hj,rfl⟩:=ZL hp;exact hm j (by omega)
  replace hall:=Hid.mk hall;replace hm:=Hid.mk hm;refine go ?_;refine WO.con (zCN h1 vt T x.elem st1 hT) ?_;rintro _ _ ⟨⟨b,rfl,hbb⟩,rfl⟩;replace hbb:=Hid.mk hbb;have key:∀ q:Bool,(q=true↔b=true∧(x.parts.length:Int)≤4∧x.many=0)→(q=true↔zB6 T x):=fun q hq=>by
   rw[hq];unfold zB6;rw[hbb.out];refine⟨fun h=>⟨hall.out,h.1,by omega,h.2.2⟩,fun h=>⟨h.2.1,by omega,h.2.2.2⟩⟩
  cases b with
  |false=>
   refine gr ?_;exact⟨⟨_,rfl,key _ (by simp)⟩,e1⟩
  |true=>
   refine go ?_;repeat' (first|(refine WX.br (fun hb=> ?_) (fun hb=> ?_)<;>(try simp only[DB]at hb)<;>refine go ?_)|(refine WO.sp (fun hb=> ?_) (fun hb=> ?_)<;>(try simp only[DB]at hb)<;>refine go ?_))
   all_goals (refine rt ?_;exact⟨⟨_,rfl,key _ (by simp only[DBI,true_and];omega)⟩,e1⟩)
theorem zNF {T:List LType} {x:LType} {k:Nat}:zFD T x k↔(x.kind=1∧x.elem=0∧x.many=0∧(x.parts.length:Int)=0)∨
 (x.kind=2∧0≤x.elem∧x.elem<(T.length:Int)∧x.many=0∧(x.parts.length:Int)=0)∨(x.kind=3∧zB6 T x)∨
 (x.kind=4∧x.elem=0∧x.many=0∧1≤(x.parts.length:Int)∧(x.parts.length:Int)≤8∧∀ p∈x.parts,0≤p∧p<(k:Int))∨
 (x.kind=5∧0≤x.elem∧x.elem<(k:Int)∧1≤x.many∧x.many≤16∧(x.parts.length:Int)=0):=by
 unfold zFD;have h0:(x.parts.length:Int)=0↔x.parts.length=0:=by omega
 have h1:1≤(x.parts.length:Int)↔1≤x.parts.length:=by omega
 have h8:(x.parts.length:Int)≤8↔x.parts.length≤8:=by omega
 rw[h0,h1,h8]
def zOr:ACode:=(oV (oR [oZ 4]) (oV (oR [oM 6 0,oM 7 1,oI 4 8 6 7,oA 4 9 8,⟨some 5,none,(.alloc [(.int .u8 0),(.int .i64 0),(.int .i64 0),(.slice none 0 0)])⟩,oS 4 5 9]) (oV (oV (oR [oF 0 10 5,oL 11 10]) (o5 0 (oV (oR [oD .eql 13 11 1,oM 12 13]) (oJ 12 (oV (oR [oF 1 14 5,oL 15 14,oC .eql 16 15 0,oM 17 16,oG 17 (oF 2 18 5),oG 17 (oL 19 18),oG 17 (oC .eql 20 19 0),oP 21 17 20,oM 22 21,oG 22 (oF 3 23 5),oG 22 (oL 24 23),oG 22 (oQ 25 24),oG 22 (oC .eql 26 25 0),oP 27 22 26,oM 4 27]) .ret) (oV (oR [oD .eql 29 11 2,oM 28 29]) (oJ 28 (oV (oR [oF 1 30 5,oL 31 30,oC .geq 32 31 0,oM 33 32,oG 33 (oF 1 34 5),oG 33 (oL 35 34),oG 33 (oM 36 0),oG 33 (oQ 37 36),oG 33 (oB .lss 38 35 37),oP 39 33 38,oM 40 39,oG 40 (oF 2 41 5),oG 40 (oL 42 41),oG 40 (oC .eql 43 42 0),oP 44 40 43,oM 45 44,oG 45 (oF 3 46 5),oG 45 (oL 47 46),oG 45 (oQ 48 47),oG 45 (oC .eql 49 48 0),oP 50 45 49,oM 4 50]) .ret) (oV (oR [oD .eql 52 11 3,oM 51 52]) (oJ 51 (oV (oR [oM 53 0,oA 4 54 5,o2 55 171 53 54,oM 4 55]) .ret) (oV (oR [oD .eql 57 11 4,oM 56 57]) (oJ 56 (oV (oR [oF 1 58 5,oL 59 58,oC .eql 60 59 0,oM 61 60,oG 61 (oF 2 62 5),oG 61 (oL 63 62),oG 61 (oC .eql 64 63 0),oP 65 61 64,oM 66 65,oG 66 (oF 3 67 5),oG 66 (oL 68 67),oG 66 (oQ 69 68),oG 66 (oC .geq 70 69 1),oP 71 66 70,oM 72 71,oG 72 (oF 3 73 5),oG 72 (oL 74 73),oG 72 (oQ 75 74),oG 72 (oC .leq 76 75 8),oP 77 72 76,oM 78 77,oG 78 (oF 3 79 5),oG 78 (oL 80 79),oG 78 (oM 81 1),oG 78 (o2 82 172 80 81),oP 83 78 82,oM 4 83]) .ret) (oV (oR [oD .eql 85 11 5,oM 84 85]) (oJ 84 (oV (oR [oF 1 86 5,oL 87 86,oC .geq 88 87 0,oM 89 88,oG 89 (oF 1 90 5),oG 89 (oL 91 90),oG 89 (oM 92 1),oG 89 (oB .lss 93 91 92),oP 94 89 93,oM 95 94,oG 95 (oF 2 96 5),oG 95 (oL 97 96),oG 95 (oC .geq 98 97 1),oP 99 95 98,oM 100 99,oG 100 (oF 2 101 5),oG 100 (oL 102 101),oG 100 (oC .leq 103 102 16),oP 104 100 103,oM 105 104,oG 105 (oF 3 106 5),oG 105 (oL 107 106),oG 105 (oQ 108 107),oG 105 (oC .eql 109 108 0),oP 110 105 109,oM 4 110]) .ret) .skip)))))))))))) (oV (oR [oZ 4]) .ret))))
theorem zHC (h:AHeap) (vt:Value) (T:List LType) (k:Nat) (st:SlT h vt T) (hT:(T.length:Int)≤1000) (hk:k<T.length) (hpl:((T.getD k default).parts.length:Int)≤1000000):
  WC Tryz.prog tb 116 [vt,I k] h fun r h'=>(∃ b,r= .bool b∧(b=true↔Yn T k))∧Ext h h':=by
 obtain⟨cs,⟨va,rfl,sa,hla⟩,pc,hs⟩:=yQ (i:=k) st hk;unfold Yn;generalize T.getD k default=x at *;have hmx:=Hid.mk (zNF (T:=T) (x:=x) (k:=k));obtain⟨_,_,_,rfl⟩:=SlC.shape sa;refine en 111 [(4,none)] zOr ?_;refine WO.al ?_;intro p h1 e1 o1;refine go ?_;refine WO.stC0 o1 e1 ?_;intro h2 e2 o2 _;have st2:=st.ext e2;have sa2:=sa.ext e2;by_cases h1:x.kind=1
 ·skip;refine go ?_;repeat' (first|(refine WX.br (fun hb=> ?_) (fun hb=> ?_)<;>(try simp only[DB]at hb)<;>refine go ?_)|(refine WO.sp (fun hb=> ?_) (fun hb=> ?_)<;>(try simp only[DB]at hb)<;>refine go ?_))
  all_goals (refine rt ?_;exact⟨⟨_,rfl,by rw[hmx.out];simp only[DBI];omega⟩,e2⟩)
 by_cases h2:x.kind=2
 ·skip;refine go ?_;repeat' (first|(refine WX.br (fun hb=> ?_) (fun hb=> ?_)<;>(try simp only[DB]at hb)<;>refine go ?_)|(refine WO.sp (fun hb=> ?_) (fun hb=> ?_)<;>(try simp only[DB]at hb)<;>refine go ?_))
  all_goals (refine rt ?_;exact⟨⟨_,rfl,by rw[hmx.out];simp only[DBI];omega⟩,e2⟩)
 by_cases h3:x.kind=3
 ·refine go ?_;refine WO.con (zLD _ vt _ T x st2 hT sa2 hpl) ?_;rintro _ h5 ⟨⟨b,rfl,hbb⟩,e5⟩;refine gr ?_;refine⟨⟨_,rfl,?_⟩,e2.trans e5⟩;rw[hbb,hmx.out];refine⟨fun h=> .inr (.inr (.inl ⟨h3,h⟩)),fun h=> ?_⟩;rcases h with h|h|h|h|h
  ·omega
  ·omega
  ·exact h.2
  ·omega
  ·omega
 by_cases h4:x.kind=4
 ·refine go ?_;refine WO.sp (fun hd=> ?_) (fun hd=> ?_)<;>simp only[DB]at hd;case refine_2=>
   refine gr ?_;refine⟨⟨_,rfl,?_⟩,e2⟩;rw[hmx.out];simp only[DBI];omega
  refine go ?_;refine WO.sp (fun hd2=> ?_) (fun hd2=> ?_)<;>simp only[DB]at hd2;case refine_2=>
   refine gr ?_;refine⟨⟨_,rfl,?_⟩,e2⟩;rw[hmx.out];simp only[DBI];omega
  refine go ?_;refine WO.sp (fun hd3=> ?_) (fun hd3=> ?_)<;>simp only[DB]at hd3;case refine_2=>
   refine gr ?_;refine⟨⟨_,rfl,?_⟩,e2⟩;rw[hmx.out];simp only[DBI];omega
  refine go ?_;refine WO.sp (fun hd4=> ?_) (fun hd4=> ?_)<;>simp only[DB]at hd4;case refine_2=>
   refine gr ?_;refine⟨⟨_,rfl,?_⟩,e2⟩;rw[hmx.out];simp only[DBI];omega
  refine go ?_;refine WO.con (zLA _ _ x.parts k sa2 hpl) ?_;rintro _ _ ⟨⟨b,rfl,hbb⟩,rfl⟩;refine gr ?_;refine⟨⟨_,rfl,?_⟩,e2⟩;rw[hbb,hmx.out];refine⟨fun h=> .inr (.inr (.inr (.inl ⟨h4,hd,hd2,hd3,hd4,h⟩))),fun h=> ?_⟩;rcases h with h|h|h|h|h
  ·omega
  ·omega
  ·omega
  ·exact h.2.2.2.2.2
  ·omega
 by_cases h5:x.kind=5
 ·skip;refine go ?_;repeat' (first|(refine WX.br (fun hb=> ?_) (fun hb=> ?_)<;>(try simp only[DB]at hb)<;>refine go ?_)|(refine WO.sp (fun hb=> ?_) (fun hb=> ?_)<;>(try simp only[DB]at hb)<;>refine go ?_))
  all_goals (refine rt ?_;exact⟨⟨_,rfl,by rw[hmx.out];simp only[DBI];omega⟩,e2⟩)
 ·refine gr ?_;refine⟨⟨_,rfl,?_⟩,e2⟩;rw[hmx.out];simp only[DBI];omega
def zJJ:ACode:=(oV (oV (oR [oM 17 7,oF 3 18 5,oL 19 18,oQ 20 19,oB .lss 21 17 20]) (oT 21 0)) (oV (o5 1 (oR [oM 24 6,oM 25 0,oF 3 26 5,oL 27 26,oM 28 7,oI 1 29 27 28,oL 30 29,o2 31 117 25 30,oY 1 32 24 31,oM 6 32])) (oR [oM 22 7,oC .add 23 22 1,oM 7 23])))
def zJY:ACode:=(oV (oV (oR [oM 37 9,oF 2 38 5,oL 39 38,oB .lss 40 37 39]) (oT 40 2)) (oV (o5 3 (oR [oM 43 8,oM 44 0,oF 1 45 5,oL 46 45,o2 47 117 44 46,oY 1 48 43 47,oM 8 48])) (oR [oM 41 9,oC .add 42 41 1,oM 9 42])))
def zOs:ACode:=(oV (oR [oK 4 (.slice none 0 0)]) (oV (oR [oM 10 0,oM 11 1,oI 4 12 10 11,oA 4 13 12,⟨some 5,none,(.alloc [(.int .u8 0),(.int .i64 0),(.int .i64 0),(.slice none 0 0)])⟩,oS 4 5 13]) (oV (oV (oR [oF 0 14 5,oL 15 14,oD .eql 16 15 4]) (oJ 16 (oV (oR [oK 6 (.slice none 0 0)]) (oV (oV (oR [oN 7 0]) (o5 0 (.loop zJJ))) (oV (oR [oM 33 6,oM 4 33]) .ret))) .skip)) (oV (oV (oR [oF 0 34 5,oL 35 34,oD .eql 36 35 5]) (oJ 36 (oV (oR [oK 8 (.slice none 0 0)]) (oV (oV (oR [oN 9 0]) (o5 2 (.loop zJY))) (oV (oR [oM 49 8,oM 4 49]) .ret))) .skip)) (oV (oR [oM 50 1,⟨some 51,none,(.buildSlice 1 1 [(.int .i64 0)] [(0,1,(.tmp 50))])⟩,oM 4 51]) .ret)))))
theorem zGe {α:Type} {l:List α} {f:α→List Int} (h:∀ x∈l,(f x).length≤32):(l.map f).flatten.length≤32 * l.length:=by
 induction l with
 |nil=>simp
 |cons a l ih=>
  have:=h a (by simp);have:=ih fun x hx=>h x (by simp[hx]);simp only[List.map_cons,List.flatten_cons,List.length_append,List.length_cons];omega
theorem zKj {α:Type} [Inhabited α] {l:List α} {f:α→List Int} {i:Nat} (h:i<l.length):((l.take (i+1)).map f).flatten=((l.take i).map f).flatten++f (l.getD i default):=by
 rw[List.take_add_one,List.getElem?_eq_getElem h,List.map_append,List.flatten_append];simp[List.getD,List.getElem?_eq_getElem h]
theorem zSK (vt:Value) (T:List LType) (hT:(T.length:Int)≤1000):∀ (n k:Nat) (h:AHeap),k<n→SlT h vt T→k<T.length→zFv T k→Yn T k→
  WC Tryz.prog tb 117 [vt,I k] h fun r h'=>OwnN h h' r (ofL T k)∧Ext h h':=by
 intro n;induction n with
 |zero=>intro k h hk;omega
 |succ n ih=>
  intro k h hkn st hk hlow hM;have hof:=zDM (T:=T) (k:=k) fun j hj=>by
   by_cases e:j=k
   ·subst e;exact hM
   ·exact(hlow j (by omega)).1
  obtain⟨cs,⟨va,rfl,sa,hla⟩,pc,hs⟩:=yQ (i:=k) st hk;unfold Yn zFD at hM;rw[hof];clear hof;generalize T.getD k default=x at *;obtain⟨_,_,_,rfl⟩:=SlC.shape sa;refine en 52 [(4,none)] zOs ?_;refine WO.al ?_;intro p h1 e1 o1;refine go ?_;refine WO.stC0 o1 e1 ?_;intro h2 e2 o2 _;have st2:=st.ext e2;have sa2:=sa.ext e2;by_cases h4:x.kind=4
  ·have hp:x.parts.length≤8∧∀ p∈x.parts,0≤p∧p<(k:Int):=by
    rcases hM with h|h|h|h|h
    ·omega
    ·omega
    ·omega
    ·exact⟨h.2.2.2.2.1,h.2.2.2.2.2⟩
    ·omega
   have hbd:∀ p∈x.parts,(ofL T p.toNat).length≤32:=fun p hpp=>by
    have:=hp.2 p hpp;exact(hlow p.toNat (by omega)).2
   simp only[h4,if_true];replace hM:=Hid.mk hM;replace hlow:=Hid.mk hlow;have hp8:=hp.1;replace hp:=Hid.mk hp;replace hbd:=Hid.mk hbd;refine go ?_;refine WX.loopA [17,18,19,20,21,24,25,26,27,28,29,30,31,32,6,22,23,7] (by kernel_rfl) (fun i=>x.parts.length - i) (fun i t h3=>zB t 7=I i∧i≤x.parts.length∧Ext h2 h3∧∃ w,zB t 6=w∧OwnN h2 h3 w (((x.parts.take i).map fun p=>ofL T p.toNat).flatten)) 0 ?_ ?_
   ·exact⟨sl_,Nat.zero_le _,Ext.refl _,.slice none 0 0,sl_,.inl ⟨rfl,by simp⟩⟩
   rintro i t h3 hsame ⟨s7,hi,e23,w,s6,ow⟩;have st3:=st2.ext e23;have sa3:=sa2.ext e23;have o3:=o2.ext e23;refine go ?_;refine WX.br (fun hc=> ?_) (fun hc=> ?_)<;>simp only[DB]at hc
   ·have hi':i<x.parts.length:=by omega
    have hpi:=hp.out.2 _ (zS hi');have hsucc:=zKj (f:=fun p=>ofL T p.toNat) hi';have hln:=zGe (l:=x.parts.take i) (f:=fun p=>ofL T p.toNat) fun q hq=>hbd.out q (List.mem_of_mem_take hq);have hl1:=hbd.out _ (zS hi');have htk:(x.parts.take i).length≤i:=List.length_take_le _ _;have hcast:I (x.parts.getD i 0)=I ((x.parts.getD i 0).toNat:Int):=by rw[Int.toNat_of_nonneg hpi.1]
    obtain⟨q,hq⟩:∃ q:Nat,x.parts.getD i 0=q:=⟨(x.parts.getD i 0).toNat,by omega⟩;have hqk:q<k:=by omega
    refine go ?_;rw[hq];refine WO.con (ih q h3 (by omega) st3 (by omega) (fun j hj=>hlow.out j (by omega)) (hlow.out q hqk).1) ?_;rintro r h4 ⟨or,e4⟩;refine go ?_;have hdef:x.parts.getD i default=(q:Int):=hq;rw[hdef]at hsucc;simp only[Int.toNat_natCast]at hsucc;have hl2:(ofL T q).length≤32:=by rw[hq]at hl1;exact hl1
    refine WO.apN (ow.ext e4) or.sl (e23.trans e4) (by omega) ?_;intro v5 h5 e5 o5;refine go ?_;exact zA (i+1) (by omega) ⟨sln,by omega,e5,v5,sl_,by rw[hsucc];exact o5⟩
   ·have hii:i=x.parts.length:=by omega
    subst hii;rw[List.take_length]at ow;refine gr ?_;exact⟨ow.since e2,e2.trans e23⟩
  by_cases h5:x.kind=5
  ·have hp:0≤x.elem∧x.elem<(k:Int)∧1≤x.many∧x.many≤16:=by omega
   obtain⟨q,hq⟩:∃ q:Nat,x.elem=q:=⟨x.elem.toNat,by omega⟩;obtain⟨m,hm⟩:∃ m:Nat,x.many=m:=⟨x.many.toNat,by omega⟩;have hqk:q<k:=by omega
   have hlq:=(hlow q hqk).2;simp only[h5,if_true,if_false,show ¬((5:Int)=4) by decide,hq,hm,Int.toNat_natCast];replace hM:=Hid.mk hM;replace hlow:=Hid.mk hlow;have hm16:m≤16:=by omega
   refine go ?_;refine WX.loopA [37,38,39,40,43,44,45,46,47,48,8,41,42,9] (by kernel_rfl) (fun i=>m - i) (fun i t h3=>zB t 9=I i∧i≤m∧Ext h2 h3∧∃ w,zB t 8=w∧OwnN h2 h3 w (List.replicate i (ofL T q)).flatten) 0 ?_ ?_
   ·exact⟨sl_,Nat.zero_le _,Ext.refl _,.slice none 0 0,sl_,.inl ⟨rfl,by simp⟩⟩
   rintro i t h3 hsame ⟨s7,hi,e23,w,s6,ow⟩;have st3:=st2.ext e23;have o3:=o2.ext e23;refine go ?_;rw[hm];refine go ?_;refine WX.br (fun hc=> ?_) (fun hc=> ?_)<;>simp only[DB]at hc
   ·have hi':i<m:=by omega
    have hln:=zJA i (ofL T q);have hmul:i * (ofL T q).length≤16 * 32:=Nat.mul_le_mul (by omega) hlq;refine go ?_;rw[hq];refine WO.con (ih q h3 (by omega) st3 (by omega) (fun j hj=>hlow.out j (by omega)) (hlow.out q hqk).1) ?_;rintro r h4 ⟨or,e4⟩;refine go ?_;refine WO.apN (ow.ext e4) or.sl (e23.trans e4) (by omega) ?_;intro v5 h5 e5 o5;refine go ?_;refine zA (i+1) (by omega) ⟨sln,by omega,e5,v5,sl_,?_⟩;rw[List.replicate_succ',List.flatten_append];simpa using o5
   ·have hii:i=m:=by omega
    subst hii;refine gr ?_;exact⟨ow.since e2,e2.trans e23⟩
  ·rw[if_neg h4,if_neg h5];refine go ?_;refine WO.bl [(k:Int)] ?_;intro v h3 e3 o3;refine gr ?_;exact⟨.inr (o3.since e2),e2.trans e3⟩
def zNe:ACode:=(oV (oV (oR [oM 7 3,oM 8 0,oQ 9 8,oB .lss 10 7 9]) (oT 10 0)) (oV (o5 1 (oV (oR [oM 13 0,oM 14 3,o2 15 116 13 14,oW 16 15,oM 17 16,oH 17 (oM 18 0),oH 17 (oM 19 3),oH 17 (o2 20 117 18 19),oH 17 (oQ 21 20),oH 17 (oC .gtr 22 21 32),oO 23 17 22]) (oJ 23 (oV (oR [oN 2 30]) .ret) .skip))) (oR [oM 11 3,oC .add 12 11 1,oM 3 12])))
def zQz:ACode:=(oV (oR [oN 2 0]) (oV (oV (oR [oM 4 0,oQ 5 4,oC .gtr 6 5 16]) (oJ 6 (oV (oR [oN 2 4]) .ret) .skip)) (oV (oV (oR [oN 3 0]) (o5 0 (.loop zNe))) (oV (oR [oN 2 0]) .ret))))
theorem zK7 (h:AHeap) (vt:Value) (T:List LType) (st:SlT h vt T) (hT:(T.length:Int)≤1000) (hpl:∀ x∈T,x.parts.length≤1000000):
  WC Tryz.prog tb 71 [vt] h fun r h'=>r=I (yb T)∧Ext h h':=by
 refine en 24 [(2,none)] zQz ?_;rw[zD4];replace hpl:=Hid.mk hpl;by_cases h16:16<(T.length:Int)
 ·refine gr ?_;rw[if_pos (by omega)];exact⟨rfl,Ext.refl _⟩
 rw[if_neg (by omega)];refine go ?_;refine WX.loopA [7,8,9,10,13,14,15,16,17,18,19,20,21,22,23,2,11,12,3] (by kernel_rfl) (fun i=>T.length - i) (fun i t h1=>Ext h h1∧zB t 3=I i∧i≤T.length∧Hid (zFv T i)) 0 ?_ ?_
 ·exact⟨Ext.refl _,sl_,Nat.zero_le _,⟨fun j hj=>absurd hj (Nat.not_lt_zero _)⟩⟩
 rintro i t h1 hsame ⟨e1,s3,hi,hlow⟩;have st1:=st.ext e1;refine go ?_;refine WX.br (fun hc=> ?_) (fun hc=> ?_)<;>simp only[DB]at hc
 ·have hi':i<T.length:=by omega
  refine go ?_;refine WO.con (zHC h1 vt T i st1 hT hi' (by have:=hpl.out _ (zH (l:=T) hi');omega)) ?_;rintro _ h2 ⟨⟨b,rfl,hbb⟩,e2⟩;have st2:=st1.ext e2;have no:¬(Yn T i∧(ofL T i).length≤32)→¬zFv T T.length:=fun hn hl=>hn (hl i hi');cases b with
  |false=>
   have hf:¬zFv T T.length:=no fun hh=>absurd (hbb.2 hh.1) Bool.noConfusion;refine gr ?_;rw[if_neg hf];exact⟨rfl,e1.trans e2⟩
  |true=>
   have hM:=hbb.1 rfl;refine go ?_;refine WO.con (zSK vt T hT (i+1) i h2 (by omega) st2 hi' hlow.out hM) ?_;rintro r h3 ⟨or,e3⟩;have sr:=or.sl;have e03:=(e1.trans e2).trans e3;refine go ?_;refine WX.br (fun hd=> ?_) (fun hd=> ?_)<;>simp only[DB]at hd
   ·have hf:¬zFv T T.length:=no fun hh=>by have:=hh.2;omega
    refine gr ?_;rw[if_neg hf];exact⟨rfl,e03⟩
   ·refine go ?_;refine zA (i+1) (by omega) ⟨e03,sln,by omega,⟨fun j hj=> ?_⟩⟩;by_cases e:j=i
    ·subst e;exact⟨hM,by omega⟩
    ·exact hlow.out j (by omega)
 ·have hii:i=T.length:=by omega
  subst hii;refine gr ?_;rw[if_pos hlow.out];exact⟨rfl,e1⟩
set_option maxRecDepth 100000
def zPJ:ACode:=(oV (oR [oZ 2]) (oV (oR [oM 3 0,oD .geq 4 3 4,oM 5 4,oG 5 (oM 6 0),oG 5 (oD .leq 7 6 10),oP 8 5 7,oM 9 8,oH 9 (oM 10 0),oH 9 (oD .eql 11 10 15),oO 12 9 11,oM 13 12,oH 13 (oM 14 0),oH 13 (oD .eql 15 14 17),oO 16 13 15,oM 2 16]) .ret))
theorem zI2 (h:AHeap) (op:Int):WC Tryz.prog tb 176 [.int .u8 op] h fun r h'=>(∃ b,r= .bool b∧(b=true↔zAu op))∧h=h':=by
 refine en 17 [(2,none)] zPJ ?_;repeat' (first|(refine WX.br (fun hb=> ?_) (fun hb=> ?_)<;>(try simp only[DB]at hb)<;>refine go ?_)|(refine WO.sp (fun hb=> ?_) (fun hb=> ?_)<;>(try simp only[DB]at hb)<;>refine go ?_))
 all_goals (refine rt ?_;exact⟨⟨_,rfl,by unfold zAu;simp only[DBI];omega⟩,rfl⟩)
theorem zM3 (h:AHeap) (op:Int) (ho:0≤op):WC Tryz.prog tb 176 [.int .u8 op] h fun r h'=>r= .bool (zU op).2.1∧h=h':=by
 refine(zI2 h op).mono ?_;rintro _ _ ⟨⟨b,rfl,hb⟩,rfl⟩;exact⟨congrArg _ (by rw[Bool.eq_iff_iff,hb,(Z5 ho).1]),rfl⟩
def zPs:ACode:=(oV (oR [oZ 2]) (oV (oR [oM 3 0,o1 4 176 3,oM 5 4,oH 5 (oM 6 0),oH 5 (oD .eql 7 6 13),oO 8 5 7,oM 9 8,oH 9 (oM 10 0),oH 9 (oD .eql 11 10 14),oO 12 9 11,oM 13 12,oH 13 (oM 14 0),oH 13 (oD .eql 15 14 16),oO 16 13 15,oM 17 16,oH 17 (oM 18 0),oH 17 (oD .eql 19 18 19),oO 20 17 19,oM 21 20,oH 21 (oM 22 0),oH 21 (oD .eql 23 22 21),oO 24 21 23,oM 2 24]) .ret))
theorem zIZ (h:AHeap) (op:Int) (ho:0≤op):WC Tryz.prog tb 175 [.int .u8 op] h fun r h'=>r= .bool (zU op).1∧h=h':=by
 refine WC.mono (Q:=fun r h'=>(∃ b,r= .bool b∧(b=true↔zAx op))∧h=h') ?_ ?_
 ·refine en 25 [(2,none)] zPs ?_;refine WO.con (zI2 h op) ?_;rintro _ _ ⟨⟨b,rfl,hb⟩,rfl⟩;cases b with
  |true=>
   have hT:=hb.1 rfl;refine gr ?_;exact⟨⟨_,rfl,⟨fun _=> .inl hT,fun _=>rfl⟩⟩,rfl⟩
  |false=>
   have hT:¬zAu op:=fun hh=>absurd (hb.2 hh) Bool.noConfusion;unfold zAx;refine go ?_;repeat' (first|(refine WX.br (fun hb=> ?_) (fun hb=> ?_)<;>(try simp only[DB]at hb)<;>refine go ?_)|(refine WO.sp (fun hb=> ?_) (fun hb=> ?_)<;>(try simp only[DB]at hb)<;>refine go ?_))
   all_goals (refine rt ?_;exact⟨⟨_,rfl,by simp only[DBI,hT,false_or];omega⟩,rfl⟩)
 ·rintro _ _ ⟨⟨b,rfl,hb⟩,rfl⟩;exact⟨congrArg _ (by rw[Bool.eq_iff_iff,hb,(Z5 ho).2.1]),rfl⟩
def zOH:ACode:=(oV (oR [oZ 2]) (oV (oR [oM 3 0,oD .eql 4 3 18,oM 5 4,oH 5 (oM 6 0),oH 5 (oD .eql 7 6 19),oO 8 5 7,oM 9 8,oH 9 (oM 10 0),oH 9 (oD .eql 11 10 22),oO 12 9 11,oM 2 12]) .ret))
theorem zIy (h:AHeap) (op:Int) (ho:0≤op):WC Tryz.prog tb 177 [.int .u8 op] h fun r h'=>r= .bool (zU op).2.2.2.1∧h=h':=by
 refine WC.mono (Q:=fun r h'=>(∃ b,r= .bool b∧(b=true↔zAy op))∧h=h') ?_ ?_
 ·refine en 13 [(2,none)] zOH ?_;repeat' (first|(refine WX.br (fun hb=> ?_) (fun hb=> ?_)<;>(try simp only[DB]at hb)<;>refine go ?_)|(refine WO.sp (fun hb=> ?_) (fun hb=> ?_)<;>(try simp only[DB]at hb)<;>refine go ?_))
  all_goals (refine rt ?_;exact⟨⟨_,rfl,by unfold zAy;simp only[DBI];omega⟩,rfl⟩)
 ·rintro _ _ ⟨⟨b,rfl,hb⟩,rfl⟩;exact⟨congrArg _ (by rw[Bool.eq_iff_iff,hb,(Z5 ho).2.2.1]),rfl⟩
def zRe:ACode:=(oV (oR [oZ 2]) (oV (oR [oM 3 0,oD .geq 4 3 1,oM 5 4,oG 5 (oM 6 0),oG 5 (oD .leq 7 6 22),oP 8 5 7,oM 9 8,oG 9 (oM 10 0),oG 9 (oD .neq 11 10 13),oP 12 9 11,oM 13 12,oG 13 (oM 14 0),oG 13 (oD .neq 15 14 17),oP 16 13 15,oM 17 16,oG 17 (oM 18 0),oG 17 (oD .neq 19 18 21),oP 20 17 19,oM 2 20]) .ret))
theorem zAK (h:AHeap) (op:Int) (ho:0≤op):WC Tryz.prog tb 61 [.int .u8 op] h fun r h'=>r= .bool (zU op).2.2.2.2.2∧h=h':=by
 refine WC.mono (Q:=fun r h'=>(∃ b,r= .bool b∧(b=true↔zNW op))∧h=h') ?_ ?_
 ·refine en 21 [(2,none)] zRe ?_;repeat' (first|(refine WX.br (fun hb=> ?_) (fun hb=> ?_)<;>(try simp only[DB]at hb)<;>refine go ?_)|(refine WO.sp (fun hb=> ?_) (fun hb=> ?_)<;>(try simp only[DB]at hb)<;>refine go ?_))
  all_goals (refine rt ?_;exact⟨⟨_,rfl,by unfold zNW;simp only[DBI];omega⟩,rfl⟩)
 ·rintro _ _ ⟨⟨b,rfl,hb⟩,rfl⟩;exact⟨congrArg _ (by rw[Bool.eq_iff_iff,hb,(Z5 ho).2.2.2.1]),rfl⟩
theorem yV {h:AHeap} {va:Value} {l:List Int} (s:SlI h va l):∃ a n k,va= .slice a n k:=SlC.shape s
def zPX:ACode:=(oV (oR [oX 1 0,oK 2 (.slice none 0 0)]) (oV (oR [oK 3 (.slice none 0 0)]) (oV (oV (oR [oF 0 4 1,oL 5 4,o1 6 175 5]) (oJ 6 (oR [oM 7 3,oF 2 8 1,oL 9 8,⟨some 10,none,(.buildSlice 1 1 [(.int .i64 0)] [(0,1,(.tmp 9))])⟩,oY 1 11 7 10,oM 3 11]) .skip)) (oV (oV (oR [oF 0 12 1,oL 13 12,o1 14 176 13]) (oJ 14 (oR [oM 15 3,oF 3 16 1,oL 17 16,⟨some 18,none,(.buildSlice 1 1 [(.int .i64 0)] [(0,1,(.tmp 17))])⟩,oY 1 19 15 18,oM 3 19]) .skip)) (oV (oV (oR [oF 0 20 1,oL 21 20,o1 22 177 21]) (oJ 22 (oR [oM 23 3,oF 5 24 1,oL 25 24,oY 1 26 23 25,oM 3 26]) .skip)) (oV (oR [oM 27 3,oM 2 27]) .ret))))))
theorem zDJ (h:AHeap) (x:LIns) (cs:List Value) (hcs:RIns h cs x) (hx:x.args.length≤20):
  WC Tryz.prog tb 122 [.agg cs.toArray] h fun r h'=>OwnN h h' r (yI x)∧Ext h h':=by
 obtain⟨va,vfr,rfl,sa,sfr,hla,hlf,ho,ho2⟩:=hcs;obtain⟨aa,an,ak,rfl⟩:=yV sa;obtain⟨fa,fn,fk,rfl⟩:=yV sfr;refine en 28 [(2,none)] zPX ?_;refine WO.bx ?_;intro p h1 e1 o1;have sa1:=sa.ext e1;refine go ?_;refine WO.con (zIZ h1 x.op ho) ?_;rintro _ _ ⟨rfl,rfl⟩;unfold yI;refine go ?_;refine WX.cutA [7,8,9,10,11,3] (by kernel_rfl) (fun t h'=>Ext h1 h'∧∃ w,zB t 3=w∧OwnN h1 h' w (if (zU x.op).1 then [x.a] else [])) ?_ ?_
 ·cases hA:(zU x.op).1 with
  |true=>
   refine go ?_;refine WO.bl [x.a] ?_;intro v h2 e2 o2;refine go ?_;refine WO.apN (v:= .slice none 0 0) (xs:=[]) (h0:=h1) (.inl ⟨rfl,rfl⟩) o2.sl e2 (by simp) ?_;intro v3 h3 e3 o3;refine go ?_;exact zE ⟨e3,v3,sl_,o3⟩
  |false=>
   refine go ?_;exact zE ⟨Ext.refl _,_,sl_,.inl ⟨rfl,rfl⟩⟩
 rintro t2 h2 hs2 ⟨e2,w2,q2,ow2⟩;have o2:=o1.ext e2;have l2:(if (zU x.op).1 then [x.a] else []).length≤1:=by split<;>simp
 generalize (if (zU x.op).1 then [x.a] else [])=lA at *;refine go ?_;refine WO.con (zM3 h2 x.op ho) ?_;rintro _ _ ⟨rfl,rfl⟩;refine go ?_;refine WX.cutA [15,16,17,18,19,3] (by kernel_rfl) (fun t h'=>Ext h1 h'∧∃ w,zB t 3=w∧OwnN h1 h' w (lA++if (zU x.op).2.1 then [x.b] else [])) ?_ ?_
 ·cases hB:(zU x.op).2.1 with
  |true=>
   refine go ?_;refine WO.bl [x.b] ?_;intro v h3 e3 o3;refine go ?_;refine WO.apN (ow2.ext e3) o3.sl (e2.trans e3) (by simp only[List.length_singleton];omega) ?_;intro v4 h4 e4 o4;refine go ?_;exact zE ⟨e4,v4,sl_,o4⟩
  |false=>
   refine go ?_;exact zE ⟨e2,_,sl_,by simpa using ow2⟩
 rintro t3 h3 hs3 ⟨e3,w3,q3,ow3⟩;have o3:=o1.ext e3;have sa3:=sa1.ext e3;have l3:(lA++if (zU x.op).2.1 then [x.b] else []).length≤2:=by split<;>simp<;>omega
 rw[←List.append_assoc];generalize (lA++if (zU x.op).2.1 then [x.b] else [])=lB at *;refine go ?_;refine WO.con (zIy h3 x.op ho) ?_;rintro _ _ ⟨rfl,rfl⟩;refine go ?_;cases hG:(zU x.op).2.2.2.1 with
 |true=>
  refine go ?_;refine WO.apN ow3 sa3 e3 (by omega) ?_;intro v4 h4 e4 o4;refine gr ?_;exact⟨o4.since e1,e1.trans e4⟩
 |false=>
  refine gr ?_;exact⟨(by simpa using ow3.since e1:OwnN h h3 w3 _),e1.trans e3⟩
def zK0:ACode:=(oV (oV (oR [oM 6 5,oM 7 0,oQ 8 7,oB .lss 9 6 8]) (oT 9 0)) (oV (o5 1 (oV (oR [oM 12 0,oM 13 5,oI 1 14 12 13,oL 15 14,oC .lss 16 15 0,oM 17 16,oH 17 (oM 18 0),oH 17 (oM 19 5),oH 17 (oI 1 20 18 19),oH 17 (oL 21 20),oH 17 (oM 22 1),oH 17 (oB .geq 23 21 22),oO 24 17 23]) (oJ 24 (oV (oR [oZ 4]) .ret) .skip))) (oR [oM 10 5,oC .add 11 10 1,oM 5 11])))
def zQY:ACode:=(oV (oR [oZ 4]) (oV (oV (oR [oN 5 0]) (o5 0 (.loop zK0))) (oV (oR [oK 4 (.bool true)]) .ret)))
theorem YL (h:AHeap) (v:Value) (l:List Int) (m:Int) (s:SlI h v l) (hl:(l.length:Int)≤1000000):
  WC Tryz.prog tb 173 [v,I m] h fun r h'=>(∃ b,r= .bool b∧(b=true↔Btw l m))∧h=h':=by
 refine en 25 [(4,none)] zQY ?_;refine WX.loopA [6,7,8,9,12,13,14,15,16,17,18,19,20,21,22,23,24,4,10,11,5] (by kernel_rfl) (fun i=>l.length - i) (fun i t h1=>h=h1∧zB t 5=I i∧i≤l.length∧∀ j,j<i→0≤l.getD j 0∧l.getD j 0<m) 0 ?_ ?_
 ·exact⟨rfl,sl_,Nat.zero_le _,fun j hj=>absurd hj (Nat.not_lt_zero _)⟩
 rintro i t _ hsame ⟨rfl,s5,hi,hm⟩;refine go ?_;refine WX.br (fun hb=> ?_) (fun hb=> ?_)<;>simp only[DB]at hb
 ·have hi':i<l.length:=by omega
  by_cases hok:0≤l.getD i 0∧l.getD i 0<m
  ·refine go ?_;refine zA (i+1) (by omega) ⟨rfl,sln,by omega,fun j hj=> ?_⟩;by_cases e:j=i
   ·subst e;exact hok
   ·exact hm j (by omega)
  ·have hno:¬Btw l m:=fun hh=>hok (hh _ (zS hi'));by_cases h0:l.getD i 0<0
   ·refine gr ?_;exact⟨⟨_,rfl,by simp only[DBI];exact hno⟩,rfl⟩
   ·refine gr ?_;exact⟨⟨_,rfl,by simp only[DBI];exact hno⟩,rfl⟩
 ·refine gr ?_;refine⟨⟨_,rfl,?_⟩,rfl⟩;simp only[DBI];intro p hp;obtain⟨j,hj,rfl⟩:=ZL hp;exact hm j (by omega)
def zOl:ACode:=(oV (oR [oX 2 0,oX 3 1,oZ 4]) (oV (oV (oR [oF 0 5 3,oL 6 5]) (o5 0 (oV (oR [oD .eql 8 6 1,oM 7 8]) (oJ 7 (oV (oR [oK 4 (.bool true)]) .ret) (oV (oV (oR [oD .eql 10 6 3,oM 9 10]) (oJ 9 .skip (oR [oD .eql 11 6 18,oM 9 11]))) (oJ 9 (oV (oR [oF 4 12 3,oL 13 12,oC .geq 14 13 0,oM 15 14,oG 15 (oF 4 16 3),oG 15 (oL 17 16),oG 15 (oF 1 18 2),oG 15 (oL 19 18),oG 15 (oQ 20 19),oG 15 (oB .lss 21 17 20),oP 22 15 21,oM 4 22]) .ret) (oV (oR [oD .eql 24 6 14,oM 23 24]) (oJ 23 (oV (oR [oF 4 25 3,oL 26 25,oC .geq 27 26 0,oM 28 27,oG 28 (oF 4 29 3),oG 28 (oL 30 29),oG 28 (oC .lss 31 30 8),oP 32 28 31,oM 4 32]) .ret) .skip)))))))) (oV (oR [oF 4 33 3,oL 34 33,oC .eql 35 34 0,oM 4 35]) .ret)))
theorem zNo (h:AHeap) (vt vf:Value) (T:List LType) (F:List LFn) (x:LIns) (cs:List Value) (st:SlT h vt T) (sf:SlF h vf F) (hF:F.length≤1000) (hcs:RIns h cs x):
  WC Tryz.prog tb 174 [.agg #[vt,vf],.agg cs.toArray] h fun r h'=>(∃ b,r= .bool b∧(b=true↔zGE x F.length))∧Ext h h':=by
 obtain⟨va,vfr,rfl,sa,sfr,hla,hlf,ho,ho2⟩:=hcs;obtain⟨aa,an,ak,rfl⟩:=yV sa;obtain⟨fa,fn,fk,rfl⟩:=yV sfr;obtain⟨ta,tn,tk,rfl⟩:=zF st;obtain⟨ga,gn,gk,rfl⟩:=zF sf;refine en 36 [(4,none)] zOl ?_;refine WO.bx ?_;intro p h1 e1 o1;refine go ?_;refine WO.bx ?_;intro q h2 e2 o2;have o1:=o1.ext e2;have e12:=e1.trans e2;have sf2:=SlF.ext sf e12;unfold zGE;by_cases k1:x.op=1
 ·rw[if_pos k1];refine gr ?_;exact⟨⟨_,rfl,by simp⟩,e12⟩
 rw[if_neg k1];by_cases k3:x.op=3
 ·rw[if_pos (.inl k3)];skip;refine go ?_;repeat' (first|(refine WX.br (fun hb=> ?_) (fun hb=> ?_)<;>(try simp only[DB]at hb)<;>refine go ?_)|(refine WO.sp (fun hb=> ?_) (fun hb=> ?_)<;>(try simp only[DB]at hb)<;>refine go ?_))
  all_goals (refine rt ?_;exact⟨⟨_,rfl,by simp only[DBI];omega⟩,e12⟩)
 by_cases k18:x.op=18
 ·rw[if_pos (.inr k18)];skip;refine go ?_;repeat' (first|(refine WX.br (fun hb=> ?_) (fun hb=> ?_)<;>(try simp only[DB]at hb)<;>refine go ?_)|(refine WO.sp (fun hb=> ?_) (fun hb=> ?_)<;>(try simp only[DB]at hb)<;>refine go ?_))
  all_goals (refine rt ?_;exact⟨⟨_,rfl,by simp only[DBI];omega⟩,e12⟩)
 rw[if_neg (by omega)];by_cases k14:x.op=14
 ·rw[if_pos k14];skip;refine go ?_;repeat' (first|(refine WX.br (fun hb=> ?_) (fun hb=> ?_)<;>(try simp only[DB]at hb)<;>refine go ?_)|(refine WO.sp (fun hb=> ?_) (fun hb=> ?_)<;>(try simp only[DB]at hb)<;>refine go ?_))
  all_goals (refine rt ?_;exact⟨⟨_,rfl,by simp only[DBI];omega⟩,e12⟩)
 rw[if_neg k14];refine gr ?_;exact⟨⟨_,rfl,by simp only[DBI]⟩,e12⟩
def zOg:ACode:=(oV (oR [oX 4 0,oX 5 1,oZ 8]) (oV (oV (oR [oF 0 9 5,oL 10 9,oD .lss 11 10 1,oM 12 11,oH 12 (oF 0 13 5),oH 12 (oL 14 13),oH 12 (oD .gtr 15 14 22),oO 16 12 15,oM 17 16,oH 17 (oA 7 18 5),oH 17 (o1 19 122 18),oH 17 (oM 20 2),oH 17 (o2 21 173 19 20),oH 17 (oW 22 21),oO 23 17 22,oM 24 23,oH 24 (oA 2 25 4),oH 24 (oA 7 26 5),oH 24 (o2 27 174 25 26),oH 24 (oW 28 27),oO 29 24 28]) (oJ 29 (oV (oR [oZ 8]) .ret) .skip)) (oV (oV (oR (oF 0 30 5::oL 31 30::o1 32 175 31::oW 33 32::oM 34 33::oG 34 (oF 2 35 5)::oG 34 (oL 36 35)::oG 34 (oC .neq 37 36 0)::oP 38 34 37::oM 39 38::oH 39 (oF 0 40 5)::oH 39 (oL 41 40)::oH 39 (o1 42 176 41)::oH 39 (oW 43 42)::oH 39 (oM 44 43)::oG 44 (oF 3 45 5)::oG 44 (oL 46 45)::oG 44 (oC .neq 47 46 0)::oH 39 (oP 48 44 47)::oO 49 39 48::oM 50 49::oH 50 (oF 0 51 5)::oH 50 (oL 52 51)::oH 50 (o1 53 177 52)::oH 50 (oW 54 53)::oH 50 (oM 55 54)::oG 55 (oF 5 56 5)::oG 55 (oL 57 56)::oG 55 (oQ 58 57)::oG 55 (oC .gtr 59 58 0)::oH 50 (oP 60 55 59)::oO 61 50 60::[])) (oJ 61 (oV (oR [oZ 8]) .ret) .skip)) (oV (oV (oR [oF 0 62 5,oL 63 62,o1 64 61 63,oM 65 64,oG 65 (oF 1 66 5),oG 65 (oL 67 66),oG 65 (oC .lss 68 67 0),oG 65 (oM 69 68),oH 69 (oF 1 70 5),oH 69 (oL 71 70),oH 69 (oF 0 72 4),oH 69 (oL 73 72),oH 69 (oQ 74 73),oH 69 (oB .geq 75 71 74),oG 65 (oO 76 69 75),oP 77 65 76,oM 78 77,oH 78 (oF 0 79 5),oH 78 (oL 80 79),oH 78 (o1 81 61 80),oH 78 (oW 82 81),oH 78 (oM 83 82),oG 83 (oF 1 84 5),oG 83 (oL 85 84),oG 83 (oC .neq 86 85 0),oH 78 (oP 87 83 86),oO 88 78 87]) (oJ 88 (oV (oR [oZ 8]) .ret) .skip)) (oV (oV (oR [oF 0 89 5,oL 90 89,oD .eql 91 90 22]) (oJ 91 (oV (oR [oF 6 92 5,oL 93 92,oQ 94 93,oF 5 95 5,oL 96 95,oQ 97 96,oB .eql 98 94 97,oM 99 98,oG 99 (oF 6 100 5),oG 99 (oL 101 100),oG 99 (oQ 102 101),oG 99 (oC .geq 103 102 1),oP 104 99 103,oM 105 104,oG 105 (oF 6 106 5),oG 105 (oL 107 106),oG 105 (oQ 108 107),oG 105 (oC .leq 109 108 16),oP 110 105 109,oM 111 110,oG 111 (oF 6 112 5),oG 111 (oL 113 112),oG 111 (oM 114 3),oG 111 (o2 115 173 113 114),oP 116 111 115,oM 8 116]) .ret) .skip)) (oV (oR [oF 6 117 5,oL 118 117,oQ 119 118,oC .eql 120 119 0,oM 121 120,oG 121 (oF 5 122 5),oG 121 (oL 123 122),oG 121 (oQ 124 123),oG 121 (oC .leq 125 124 4),oP 126 121 125,oM 8 126]) .ret))))))
theorem zHp (h:AHeap) (vt vf:Value) (T:List LType) (F:List LFn) (x:LIns) (cs:List Value) (regs many:Int) (st:SlT h vt T) (sf:SlF h vf F) (hT:T.length≤1000) (hF:F.length≤1000) (hcs:RIns h cs x) (hx:x.args.length≤20∧x.frm.length≤20):
  WC Tryz.prog tb 118 [.agg #[vt,vf],.agg cs.toArray,I regs,I many] h fun r h'=>r= .bool (Y3 x ⟨T.length,F.length,regs,many⟩)∧Ext h h':=by
 obtain⟨va,vfr,rfl,sa,sfr,hla,hlf,ho,ho2⟩:=id hcs;obtain⟨aa,an,ak,rfl⟩:=yV sa;obtain⟨fa,fn,fk,rfl⟩:=yV sfr;obtain⟨ta,tn,tk,rfl⟩:=zF st;obtain⟨ga,gn,gk,rfl⟩:=zF sf;refine WC.mono (Q:=fun r h'=>(∃ b,r= .bool b∧(b=true↔MayI x ⟨T.length,F.length,regs,many⟩))∧Ext h h') ?_ ?_;case refine_2=>
  rintro _ _ ⟨⟨b,rfl,hb⟩,e⟩;exact⟨congrArg _ (by rw[Bool.eq_iff_iff,hb,zAY ho]),e⟩
 have hu:(yI x).length≤22:=by unfold yI;split<;>split<;>split<;>simp<;>omega
 refine en 127 [(8,none)] zOg ?_;refine WO.bx ?_;intro p h1 e1 o1;refine go ?_;refine WO.bx ?_;intro q h2 e2 o2;have o1:=o1.ext e2;have e12:=e1.trans e2;by_cases k1:1≤x.op;case neg=>
  refine gr ?_;exact⟨⟨_,rfl,by simp only[DBI];exact fun m=>k1 m.op.1⟩,e12⟩
 by_cases k22:x.op≤22;case neg=>
  refine gr ?_;exact⟨⟨_,rfl,by simp only[DBI];exact fun m=>k22 m.op.2⟩,e12⟩
 refine go ?_;refine WO.con (zDJ h2 x _ (hcs.ext e12) hx.1) ?_;rintro u h3 ⟨ou,e3⟩;have o1:=o1.ext e3;have o2:=o2.ext e3;have e13:=e12.trans e3;refine go ?_;refine WO.con (YL h3 u _ regs ou.sl (by omega)) ?_;rintro _ _ ⟨⟨b1,rfl,hb1⟩,rfl⟩;cases b1 with
 |false=>
  refine gr ?_;exact⟨⟨_,rfl,by simp only[DBI];exact fun m=>absurd (hb1.2 m.uses) Bool.noConfusion⟩,e13⟩
 |true=>
 have U:=Hid.mk (hb1.1 rfl);clear hb1;refine go ?_;refine WO.con (zNo h3 _ _ T F x _ (st.ext e13) (SlF.ext sf e13) hF (hcs.ext e13)) ?_;rintro _ h4 ⟨⟨b2,rfl,hb2⟩,e4⟩;have o1:=o1.ext e4;have o2:=o2.ext e4;have e14:=e13.trans e4;have sa4:=sa.ext e14;have sfr4:=sfr.ext e14;have st4:=st.ext e14;cases b2 with
 |false=>
  refine gr ?_;exact⟨⟨_,rfl,by simp only[DBI];exact fun m=>absurd (hb2.2 m.num) Bool.noConfusion⟩,e14⟩
 |true=>
 have V:=Hid.mk (hb2.1 rfl);clear hb2 e1 e2 e12 e3 e13 e4 ou;refine go ?_;refine WO.con (zIZ h4 x.op ho) ?_;rintro _ _ ⟨rfl,rfl⟩;refine WO.mid 29 (fun t' h'=>h4=h'∧∃ b,zB t' 61= .bool b∧(b=false↔((zU x.op).1=true∨x.a=0)∧((zU x.op).2.1=true∨x.b=0)∧((zU x.op).2.2.2.1=true∨(x.args.length:Int)≤0))) ?_ ?_<;>simp only[List.take_succ_cons,List.take_zero,List.drop_succ_cons,List.drop_zero]
 ·refine WO.mid 6 (fun t' h'=>h4=h'∧∃ b,zB t' 38= .bool b∧(b=false↔((zU x.op).1=true∨x.a=0))) ?_ ?_<;>simp only[List.take_succ_cons,List.take_zero,List.drop_succ_cons,List.drop_zero]
  ·cases hA:(zU x.op).1 with
   |true=>
    refine go ?_;exact⟨rfl,rfl,rfl,_,sl_,by simp⟩
   |false=>
    refine go ?_;exact⟨rfl,rfl,rfl,_,sl_,by simp⟩
  rintro t5 _ hs5 ⟨rfl,b5,q38,hb5⟩;refine WO.mid 11 (fun t' h'=>h4=h'∧∃ b,zB t' 49= .bool b∧(b=false↔((zU x.op).1=true∨x.a=0)∧((zU x.op).2.1=true∨x.b=0))) ?_ ?_<;>simp only[List.take_succ_cons,List.take_zero,List.drop_succ_cons,List.drop_zero]
  ·cases b5 with
   |true=>
    refine go ?_;exact⟨rfl,rfl,rfl,_,sl_,by rw[←hb5];simp⟩
   |false=>
    refine go ?_;refine WO.con (zM3 h4 x.op ho) ?_;rintro _ _ ⟨rfl,rfl⟩;have h5:=hb5.1 rfl;cases hB:(zU x.op).2.1 with
    |true=>
     refine go ?_;exact⟨rfl,rfl,rfl,_,sl_,by simp[h5]⟩
    |false=>
     refine go ?_;exact⟨rfl,rfl,rfl,_,sl_,by simp[h5]⟩
  rintro t6 _ hs6 ⟨rfl,b6,q49,hb6⟩;rw[←and_assoc,←hb6];cases b6 with
  |true=>
   refine go ?_;exact⟨rfl,rfl,rfl,_,sl_,by simp⟩
  |false=>
   refine go ?_;refine WO.con (zIy h4 x.op ho) ?_;rintro _ _ ⟨rfl,rfl⟩;cases hG:(zU x.op).2.2.2.1 with
   |true=>
    refine go ?_;exact⟨rfl,rfl,rfl,_,sl_,by simp⟩
   |false=>
    refine go ?_;exact⟨rfl,rfl,rfl,_,sl_,by simp only[DBI,true_and,Bool.false_eq_true,false_or];omega⟩
 rintro t5 _ hs5 ⟨rfl,b5,q61,hb5⟩;cases b5 with
 |true=>
  refine gr ?_;refine⟨⟨_,rfl,?_⟩,e14⟩;simp only[DBI];exact fun m=>absurd (hb5.2 ⟨m.a,m.b,m.g⟩) Bool.noConfusion
 |false=>
 have W:=Hid.mk (hb5.1 rfl);clear hb5;refine go ?_;refine WO.con (zAK h4 x.op ho) ?_;rintro _ _ ⟨rfl,rfl⟩;refine WO.mid 24 (fun t' h'=>h4=h'∧∃ b,zB t' 88= .bool b∧(b=false↔if (zU x.op).2.2.2.2.2 then 0≤x.ty∧x.ty<(T.length:Int) else x.ty=0)) ?_ ?_<;>simp only[List.take_succ_cons,List.take_zero,List.drop_succ_cons,List.drop_zero]
 ·cases hS:(zU x.op).2.2.2.2.2 with
  |true=>
   simp only[if_true];by_cases c1:x.ty<0
   ·refine go ?_;exact⟨rfl,rfl,rfl,_,sl_,by simp only[DBI];omega⟩
   by_cases c2:(T.length:Int)≤x.ty
   ·refine go ?_;exact⟨rfl,rfl,rfl,_,sl_,by simp only[DBI];omega⟩
   ·refine go ?_;refine WO.con (zAK h4 x.op ho) ?_;rintro _ _ ⟨rfl,rfl⟩;refine go ?_;exact⟨rfl,rfl,rfl,_,sl_,by simp only[DBI];omega⟩
  |false=>
   simp only[Bool.false_eq_true,if_false];refine go ?_;refine WO.con (zAK h4 x.op ho) ?_;rintro _ _ ⟨rfl,rfl⟩;refine go ?_;exact⟨rfl,rfl,rfl,_,sl_,by simp⟩
 rintro t6 _ hs6 ⟨rfl,b6,q88,hb6⟩;cases b6 with
 |true=>
  refine gr ?_;refine⟨⟨_,rfl,?_⟩,e14⟩;simp only[DBI];exact fun m=>absurd (hb6.2 m.ans) Bool.noConfusion
 |false=>
 have X:=Hid.mk (hb6.1 rfl);clear hb6;have hf:=(Z5 ho).2.2.2.2.1;have mk:∀ q:Bool,(q=true↔if (zU x.op).2.2.2.2.1 then (x.frm.length:Int)=x.args.length∧1≤(x.frm.length:Int)∧(x.frm.length:Int)≤16∧Btw x.frm many else (x.frm.length:Int)=0∧(x.args.length:Int)≤4)→(q=true↔MayI x ⟨T.length,F.length,regs,many⟩):=fun q hq=>by
  rw[hq];exact⟨fun h=>⟨⟨k1,k22⟩,U.out,V.out,W.out.1,W.out.2.1,W.out.2.2,X.out,h⟩,fun m=>m.frm⟩
 replace mk:=Hid.mk mk;by_cases k:x.op=22
 ·rw[hf.2 k]at mk;simp only[if_true]at mk;by_cases c1:(x.frm.length:Int)=x.args.length;case neg=>
   refine gr ?_;exact⟨⟨_,rfl,mk.out _ (by simp only[DBI];exact fun h=>c1 h.1)⟩,e14⟩
  by_cases c2:1≤(x.frm.length:Int);case neg=>
   refine gr ?_;exact⟨⟨_,rfl,mk.out _ (by simp only[DBI];exact fun h=>c2 h.2.1)⟩,e14⟩
  by_cases c3:(x.frm.length:Int)≤16;case neg=>
   refine gr ?_;exact⟨⟨_,rfl,mk.out _ (by simp only[DBI];exact fun h=>c3 h.2.2.1)⟩,e14⟩
  refine go ?_;refine WO.con (YL h4 _ x.frm many sfr4 (by omega)) ?_;rintro _ _ ⟨⟨b,rfl,hb⟩,rfl⟩;refine gr ?_;exact⟨⟨_,rfl,mk.out _ (by rw[hb];exact⟨fun h=>⟨c1,c2,c3,h⟩,fun h=>h.2.2.2⟩)⟩,e14⟩
 ·have hf0:(zU x.op).2.2.2.2.1=false:=by cases hh:(zU x.op).2.2.2.2.1 with
   |false=>rfl
   |true=>exact absurd (hf.1 hh) k
  rw[hf0]at mk;simp only[Bool.false_eq_true,if_false]at mk;by_cases c1:(x.frm.length:Int)=0;case neg=>
   refine gr ?_;exact⟨⟨_,rfl,mk.out _ (by simp only[DBI];exact fun h=>c1 h.1)⟩,e14⟩
  refine gr ?_;exact⟨⟨_,rfl,mk.out _ (by simp only[DBI];omega)⟩,e14⟩
def zOa:ACode:=(oV (oR [oX 3 0,oZ 6]) (oV (oV (oR [oF 0 7 3,oL 8 7]) (o5 0 (oV (oR [oD .eql 10 8 1,oM 9 10]) (oJ 9 (oV (oR [oF 1 11 3,oL 12 11,oC .eql 13 12 0,oM 14 13,oG 14 (oF 3 15 3),oG 14 (oL 16 15),oG 14 (oC .eql 17 16 0),oP 18 14 17,oM 19 18,oG 19 (oF 2 20 3),oG 19 (oL 21 20),⟨some 22,some (19,true),(.buildSlice 1 1 [(.int .i64 0)] [(0,1,(.tmp 21))])⟩,oG 19 (oM 23 2),oG 19 (o2 24 173 22 23),oP 25 19 24,oM 6 25]) .ret) (oV (oR [oD .eql 27 8 2,oM 26 27]) (oJ 26 (oV (oR [oF 1 28 3,oL 29 28,⟨some 30,none,(.buildSlice 1 1 [(.int .i64 0)] [(0,1,(.tmp 29))])⟩,oM 31 1,o2 32 173 30 31,oM 33 32,oG 33 (oF 2 34 3),oG 33 (oL 35 34),oG 33 (oF 3 36 3),oG 33 (oL 37 36),⟨some 38,some (33,true),(.buildSlice 2 1 [(.int .i64 0)] [(0,1,(.tmp 35)),(1,1,(.tmp 37))])⟩,oG 33 (oM 39 2),oG 33 (o2 40 173 38 39),oP 41 33 40,oM 6 41]) .ret) (oV (oR [oD .eql 43 8 3,oM 42 43]) (oJ 42 (oV (oR [oF 2 44 3,oL 45 44,oC .eql 46 45 0,oM 47 46,oG 47 (oF 3 48 3),oG 47 (oL 49 48),oG 47 (oC .eql 50 49 0),oP 51 47 50,oM 52 51,oG 52 (oF 1 53 3),oG 52 (oL 54 53),⟨some 55,some (52,true),(.buildSlice 1 1 [(.int .i64 0)] [(0,1,(.tmp 54))])⟩,oG 52 (oM 56 1),oG 52 (o2 57 173 55 56),oP 58 52 57,oM 6 58]) .ret) .skip)))))))) (oV (oR [oZ 6]) .ret)))
theorem zHL (h:AHeap) (x:LEnd) (T F regs many:Int):
  WC Tryz.prog tb 119 [.agg #[.int .u8 x.kind,I x.a,I x.to,I x.els],I regs,I many] h fun r h'=>r= .bool (zAF x ⟨T,F,regs,many⟩)∧Ext h h':=by
 refine WC.mono (Q:=fun r h'=>(∃ b,r= .bool b∧(b=true↔(x.kind=1∧x.a=0∧x.els=0∧Btw [x.to] many)∨(x.kind=2∧Btw [x.a] regs∧Btw [x.to,x.els] many)∨(x.kind=3∧x.to=0∧x.els=0∧Btw [x.a] regs)))∧Ext h h') ?_ ?_;case refine_2=>
  rintro _ _ ⟨⟨b,rfl,hb⟩,e⟩;exact⟨congrArg _ (by rw[Bool.eq_iff_iff,hb,zGG]),e⟩
 refine en 59 [(6,none)] zOa ?_;refine WO.bx ?_;intro p h1 e1 o1;by_cases k1:x.kind=1
 ·by_cases c1:x.a=0;case neg=>
   refine gr ?_;exact⟨⟨_,rfl,by simp only[DBI];omega⟩,e1⟩
  by_cases c2:x.els=0;case neg=>
   refine gr ?_;exact⟨⟨_,rfl,by simp only[DBI];omega⟩,e1⟩
  refine go ?_;refine WO.bl [x.to] ?_;intro v h2 e2 o2;refine go ?_;refine WO.con (YL h2 v _ many o2.sl (by simp)) ?_;rintro _ _ ⟨⟨b,rfl,hb⟩,rfl⟩;refine gr ?_;refine⟨⟨_,rfl,?_⟩,e1.trans e2⟩;rw[hb];simp[k1,c1,c2]
 by_cases k2:x.kind=2
 ·refine go ?_;refine WO.bl [x.a] ?_;intro v h2 e2 o2;have o1:=o1.ext e2;refine go ?_;refine WO.con (YL h2 v _ regs o2.sl (by simp)) ?_;rintro _ _ ⟨⟨b,rfl,hb⟩,rfl⟩;cases b with
  |false=>
   have hn:¬Btw [x.a] regs:=fun hh=>absurd (hb.2 hh) Bool.noConfusion;refine gr ?_;refine⟨⟨_,rfl,?_⟩,e1.trans e2⟩;simp[k2,hn]
  |true=>
   have hn:=hb.1 rfl;refine go ?_;refine WO.bl [x.to,x.els] ?_;intro v h3 e3 o3;refine go ?_;refine WO.con (YL h3 v _ many o3.sl (by simp)) ?_;rintro _ _ ⟨⟨b,rfl,hb⟩,rfl⟩;refine gr ?_;refine⟨⟨_,rfl,?_⟩,(e1.trans e2).trans e3⟩;rw[hb];simp[k2,hn]
 by_cases k3:x.kind=3
 ·by_cases c1:x.to=0;case neg=>
   refine gr ?_;exact⟨⟨_,rfl,by simp only[DBI];omega⟩,e1⟩
  by_cases c2:x.els=0;case neg=>
   refine gr ?_;exact⟨⟨_,rfl,by simp only[DBI];omega⟩,e1⟩
  refine go ?_;refine WO.bl [x.a] ?_;intro v h2 e2 o2;refine go ?_;refine WO.con (YL h2 v _ regs o2.sl (by simp)) ?_;rintro _ _ ⟨⟨b,rfl,hb⟩,rfl⟩;refine gr ?_;refine⟨⟨_,rfl,?_⟩,e1.trans e2⟩;rw[hb];simp[k3,c1,c2]
 ·refine gr ?_;exact⟨⟨_,rfl,by simp only[DBI];omega⟩,e1⟩
end
end Go.Proofs.YteekipjpghikkaaGreatDoor
