/- What functions of the program come to in the abstract machine, and plain laws about it; no statement of the seat is proved in this text. -/
import Derived.Test.YtemggiegiejopaaGreatDoorJi
import Derived.Test.YtemggiegiejopaaGreatDoorJg
import Derived.Test.YtemggiegiejopaaGreatDoorJb
import Derived.Test.YtemggiegiejopaaGreatDoorAmU
set_option linter.unusedVariables false
set_option linter.unusedSimpArgs false
set_option maxHeartbeats 4000000
set_option maxRecDepth 100000
namespace Go.Proofs.YtemggiegiejopaaGreatDoor
noncomputable section
open Go.Am
def winS (ends:List Int):List LIns→Int→Int→Int
 |[],_,r=>if r∈ends then 1 else 0
 |x::l,k,r=>if r∈yw x then 1 else if k=r then -1 else winS ends l (k+1) r
def winL (par:Int) (L:List LBlk) (b:Int) (k:Nat) (r:Int):Int:=
 winS (ZG (L.getD b.toNat default).fin) ((L.getD b.toNat default).ins.drop k) (y9 par L b+k) r
theorem zEx {ends:List Int} {E:Int→Prop}:∀ {l:List LIns} {k r:Int},zBZ (fun r=>r∈ends∨E r) l k r↔winS ends l k r=1∨(winS ends l k r=0∧E r)
 |[],k,r=>by
  unfold zBZ winS;by_cases q:r∈ends
  ·simp[q]
  ·simp[q]
 |x::l,k,r=>by
  unfold zBZ winS;by_cases q:r∈yw x
  ·simp[q]
  ·by_cases q2:k=r
   ·subst q2;simp[q]
   ·have q3:r≠k:=fun e=>q2 e.symm;have:=zEx (ends:=ends) (E:=E) (l:=l) (k:=k+1) (r:=r);simp[q,q2,q3,this]
theorem zET {par:Int} {L:List LBlk} {b:Int} {k:Nat} {E:Int→Prop} {r:Int}:yG par L b k E r↔winL par L b k r=1∨(winL par L b k r=0∧E r):=zEx
def BkL (par:Int) (L:List LBlk):Nat→Int→Int→Prop
 |0=>fun _ _=>False
 |k+1=>fun b r=>yG par L b 0 (fun r=>ZQ L (BkL par L k) b r) r
theorem zCu {par:Int} {L:List LBlk}:∀ {k:Nat} {b r:Int},BkL par L k b r→BkL par L (k+1) b r
 |0,_,_,h=>h.elim
 |k+1,b,r,h=>yM (fun r q=>ZO (fun _ _ _ q=>zCu q) q) h
theorem zB7 {par:Int} {L:List LBlk} {b:Int} {k:Nat} {E E':Int→Prop} {r:Int} (h:E r↔E' r):yG par L b k E r↔yG par L b k E' r:=by
 rw[zET,zET,h]
theorem zGh {L:List LBlk} {B B':Int→Int→Prop} {b r:Int} (h:∀ k∈nxL L b,B k r↔B' k r):ZQ L B b r↔ZQ L B' b r:=
 ⟨fun ⟨k,hk,q⟩=>⟨k,hk,q.imp (h k hk).1 id⟩,fun ⟨k,hk,q⟩=>⟨k,hk,q.imp (h k hk).2 id⟩⟩
def zBz (par:Int) (L:List LBlk) (r:Int) (k:Nat):Prop:=∀ b,0≤b→b<(L.length:Int)→(BkL par L (k+1) b r↔BkL par L k b r)
theorem zGz {par:Int} {L:List LBlk} {r:Int} {k:Nat} (hn:∀ c,0≤c→c<(L.length:Int)→∀ k∈nxL L c,0≤k∧k<(L.length:Int)) (h:zBz par L r k):zBz par L r (k+1):=fun b h0 h1=>
 zB7 (zGh fun j hj=>h j (hn b h0 h1 j hj).1 (hn b h0 h1 j hj).2)
theorem zEK {par:Int} {L:List LBlk} {r:Int} {k:Nat} (hn:∀ c,0≤c→c<(L.length:Int)→∀ k∈nxL L c,0≤k∧k<(L.length:Int)) (h:zBz par L r k):∀ m,zBz par L r (k+m)
 |0=>h
 |m+1=>zGz hn (zEK hn h m)
open Classical in
def cntL (par:Int) (L:List LBlk) (r:Int) (k:Nat):Nat:=(List.range L.length).countP fun (b:Nat)=>decide (BkL par L k b r)
open Classical in
theorem cnt_step {par:Int} {L:List LBlk} {r:Int} {k:Nat} (h:¬zBz par L r k):cntL par L r k<cntL par L r (k+1):=by
 unfold zBz at h;have:∃ b:Int,0≤b∧b<(L.length:Int)∧¬(BkL par L (k+1) b r↔BkL par L k b r):=Classical.byContradiction fun q=>h fun b h0 h1=>Classical.byContradiction fun q2=>q ⟨b,h0,h1,q2⟩;obtain⟨b,h0,h1,hb⟩:=this;have hy:BkL par L (k+1) b r:=Classical.byContradiction fun q=>hb ⟨fun x=>absurd x q,fun x=>absurd (zCu x) q⟩;have hno:¬BkL par L k b r:=fun x=>hb ⟨fun _=>x,fun _=>hy⟩;unfold cntL;have hmem:b.toNat∈List.range L.length:=List.mem_range.2 (by omega);have hbt:((b.toNat:Nat):Int)=b:=by omega
 have key:∀ (l:List Nat),l.countP (fun (b:Nat)=>decide (BkL par L k b r))≤l.countP (fun (b:Nat)=>decide (BkL par L (k+1) b r)):=fun l=>
  List.countP_mono_left fun x _ q=>decide_eq_true (zCu (of_decide_eq_true q))
 generalize List.range L.length=l at hmem;induction l with
 |nil=>cases hmem
 |cons x l ih=>
  rw[List.countP_cons,List.countP_cons];rcases List.mem_cons.1 hmem with e|m
  ·subst e;rw[hbt,if_neg (by simpa using hno),if_pos (by simpa using hy)];have:=key l;omega
  ·have:=ih m;by_cases q:BkL par L k x r
   ·rw[if_pos (decide_eq_true q),if_pos (decide_eq_true (zCu q))];omega
   ·rw[if_neg (by simpa using q)];split<;>omega
open Classical in
theorem still_at {par:Int} {L:List LBlk} {r:Int} (hn:∀ c,0≤c→c<(L.length:Int)→∀ k∈nxL L c,0≤k∧k<(L.length:Int)):zBz par L r L.length:=by
 have h:(∃ k,k≤L.length∧zBz par L r k):=by
  refine Classical.byContradiction fun q=> ?_;have hall:∀ k,k≤L.length→¬zBz par L r k:=fun k hk s=>q ⟨k,hk,s⟩;have hc:∀ k,k≤L.length+1→k≤cntL par L r k:=fun k=>by
   induction k with
   |zero=>intro _;exact Nat.zero_le _
   |succ k ih=>
    intro hk;have:=ih (by omega);have:=cnt_step (hall k (by omega));omega
  have h1:=hc (L.length+1) (Nat.le_refl _);have h2:cntL par L r (L.length+1)≤(List.range L.length).length:=List.countP_le_length;rw[List.length_range]at h2;omega
 obtain⟨k,hk,s⟩:=h;have:=zEK hn s (L.length - k);rwa [show k+(L.length - k)=L.length by omega]at this
theorem zFg {par:Int} {L:List LBlk} {B E:Int→Int→Prop} (hn:∀ c,0≤c→c<(L.length:Int)→∀ k∈nxL L c,0≤k∧k<(L.length:Int)) (c:Clo par L B E):∀ (k:Nat) (b r:Int),0≤b→b<(L.length:Int)→BkL par L k b r→B b r
 |0,_,_,_,_,h=>h.elim
 |k+1,b,r,h0,h1,h=>c.b b r h0 h1 (yM (fun r q=>c.e b r h0 h1 (ZO (fun j hj r q=>zFg hn c k j r (hn b h0 h1 j hj).1 (hn b h0 h1 j hj).2 q) q)) h)
theorem ek_is {par:Int} {L:List LBlk} (hn:∀ c,0≤c→c<(L.length:Int)→∀ k∈nxL L c,0≤k∧k<(L.length:Int)) {b r:Int} (h0:0≤b) (h1:b<(L.length:Int)):ZQ L (BkL par L L.length) b r↔LE par L b r:=by
 refine⟨fun h B E c=>c.e b r h0 h1 (ZO (fun j hj r q=>zFg hn c _ j r (hn b h0 h1 j hj).1 (hn b h0 h1 j hj).2 q) h),fun h=> ?_⟩;exact h (BkL par L L.length) (fun b r=>ZQ L (BkL par L L.length) b r) ⟨fun _ _ _ _ q=>q,fun b r h0 h1 q=>((still_at hn) b h0 h1).1 q⟩
def body137:ACode:=(.seq (oR [oZ 4]) (.seq (oR [oM 5 1,oC .geq 6 5 0,oM 7 6,oG 7 (oM 8 1),oG 7 (oM 9 0),oG 7 (oQ 10 9),oG 7 (oB .lss 11 8 10),oP 12 7 11,oM 13 12,oG 13 (oM 14 0),oG 13 (oM 15 1),oG 13 (oI 4 16 14 15),oG 13 (oF 0 17 16),oG 13 (oL 18 17),oG 13 (oD .eql 19 18 1),oG 13 (oM 20 19),oH 20 (oM 21 0),oH 20 (oM 22 1),oH 20 (oI 4 23 21 22),oH 20 (oF 0 24 23),oH 20 (oL 25 24),oH 20 (oD .eql 26 25 2),oG 13 (oO 27 20 26),oG 13 (oM 28 27),oH 28 (oM 29 0),oH 28 (oM 30 1),oH 28 (oI 4 31 29 30),oH 28 (oF 0 32 31),oH 28 (oL 33 32),oH 28 (oD .eql 34 33 3),oG 13 (oO 35 28 34),oP 36 13 35,oM 4 36]) .ret))
theorem tab137:tb.code 137=some ⟨37,[(4,none)],body137⟩:=by kernel_rfl
theorem zEo (h:AHeap) (vt:Value) (T:List LType) (k:Int) (st:SlT h vt T) (hT:(T.length:Int)≤1000):
  WC Tryz.prog tb 137 [vt,I k] h fun r h'=>(∃ b,r= .bool b∧(b=true↔PlT T k))∧h=h':=by
 refine WC.of (zE 137) tab137 ?_;simp only[zK,Nat.zero_add,Nat.reduceAdd];by_cases h0:0≤k;case neg=>
  refine go ?_;refine rt ?_;exact⟨⟨_,rfl,by unfold PlT;simp only[DBI];omega⟩,rfl⟩
 by_cases h1:k<(T.length:Int);case neg=>
  refine go ?_;refine rt ?_;exact⟨⟨_,rfl,by unfold PlT;simp only[DBI];omega⟩,rfl⟩
 obtain⟨cs,⟨va,rfl,sa,hla⟩,pc,hs⟩:=Zg (i:=k.toNat) st (by omega);refine go ?_;repeat' (first|(refine WX.br (fun hb=> ?_) (fun hb=> ?_)<;>(try simp only[DB]at hb)<;>refine go ?_)|(refine WO.sp (fun hb=> ?_) (fun hb=> ?_)<;>(try simp only[DB]at hb)<;>refine go ?_))
 all_goals (refine rt ?_;exact⟨⟨_,rfl,by unfold PlT;simp only[DBI];omega⟩,rfl⟩)
def zI5:ACode:=(.seq (.seq (oR [oM 6 5,oM 7 0,oQ 8 7,oB .lss 9 6 8]) (oT 9 0)) (.seq (.block 1 (.seq (oR [oM 12 0,oM 13 5,oI 1 14 12 13,oL 15 14,oC .lss 16 15 0,oM 17 16,oH 17 (oM 18 0),oH 17 (oM 19 5),oH 17 (oI 1 20 18 19),oH 17 (oL 21 20),oH 17 (oM 22 1),oH 17 (oB .geq 23 21 22),oO 24 17 23]) (.cond (.tmp 24) (.seq (oR [oZ 4]) .ret) .skip))) (oR [oM 10 5,oC .add 11 10 1,oM 5 11])))
def body133:ACode:=(.seq (oR [oZ 4]) (.seq (.seq (oR [oN 5 0]) (.block 0 (.loop zI5))) (.seq (oR [oK 4 (.bool true)]) .ret)))
theorem tab133:tb.code 133=some ⟨25,[(4,none)],body133⟩:=by kernel_rfl
theorem zIj (h:AHeap) (v:Value) (l:List Int) (m:Int) (s:SlI h v l) (hl:(l.length:Int)≤1000000):
  WC Tryz.prog tb 133 [v,I m] h fun r h'=>(∃ b,r= .bool b∧(b=true↔∀ p∈l,0≤p∧p<m))∧h=h':=by
 refine WC.of (zE 133) tab133 ?_;simp only[zK,Nat.zero_add,Nat.reduceAdd];refine go ?_;refine WX.loopA [6,7,8,9,12,13,14,15,16,17,18,19,20,21,22,23,24,4,10,11,5] (by kernel_rfl) (fun i=>l.length - i) (fun i t h1=>h=h1∧zC t 5=I i∧i≤l.length∧∀ j,j<i→0≤l.getD j 0∧l.getD j 0<m) 0 ?_ ?_
 ·exact⟨rfl,sl_,Nat.zero_le _,fun j hj=>absurd hj (Nat.not_lt_zero _)⟩
 rintro i t _ hsame ⟨rfl,s5,hi,hm⟩;refine go ?_;refine WX.br (fun hb=> ?_) (fun hb=> ?_)<;>simp only[DB]at hb
 ·have hi':i<l.length:=by omega
  by_cases hok:0≤l.getD i 0∧l.getD i 0<m
  ·refine go ?_;refine zA (i+1) (by omega) ⟨rfl,sln,by omega,fun j hj=> ?_⟩;by_cases e:j=i
   ·subst e;exact hok
   ·exact hm j (by omega)
  ·have hno:¬∀ p∈l,0≤p∧p<m:=fun hh=>hok (hh _ (yH hi'));by_cases h0:l.getD i 0<0
   ·refine go ?_;refine rt ?_;exact⟨⟨_,rfl,by simp only[DBI];exact hno⟩,rfl⟩
   ·refine go ?_;refine rt ?_;exact⟨⟨_,rfl,by simp only[DBI];exact hno⟩,rfl⟩
 ·refine go ?_;refine rt ?_;refine⟨⟨_,rfl,?_⟩,rfl⟩;simp only[DBI];intro p hp;obtain⟨j,hj,rfl⟩:=zAi hp;exact hm j (by omega)
def zIS:ACode:=(.seq (.seq (oR [oM 6 5,oF 3 7 3,oL 8 7,oQ 9 8,oB .lss 10 6 9]) (oT 10 0)) (.seq (.block 1 (.seq (oR [oM 13 0,oF 3 14 3,oL 15 14,oM 16 5,oI 1 17 15 16,oL 18 17,o2 19 137 13 18,oW 20 19]) (.cond (.tmp 20) (.seq (oR [oZ 4]) .ret) .skip))) (oR [oM 11 5,oC .add 12 11 1,oM 5 12])))
def body132:ACode:=(.seq (oR [oX 3 1,oZ 4]) (.seq (.seq (oR [oN 5 0]) (.block 0 (.loop zIS))) (.seq (oR [oM 21 0,oF 1 22 3,oL 23 22,o2 24 137 21 23,oM 25 24,oG 25 (oF 3 26 3),oG 25 (oL 27 26),oG 25 (oQ 28 27),oG 25 (oC .leq 29 28 4),oP 30 25 29,oM 31 30,oG 31 (oF 2 32 3),oG 31 (oL 33 32),oG 31 (oC .eql 34 33 0),oP 35 31 34,oM 4 35]) .ret)))
theorem tab132:tb.code 132=some ⟨36,[(4,none)],body132⟩:=by kernel_rfl
theorem zJP (h:AHeap) (vt va:Value) (T:List LType) (x:LType) (st:SlT h vt T) (hT:(T.length:Int)≤1000) (sa:SlI h va x.parts) (hla:(x.parts.length:Int)≤1000000):
  WC Tryz.prog tb 132 [vt,.agg #[.int .u8 x.kind,I x.elem,I x.many,va]] h fun r h'=>(∃ b,r= .bool b∧(b=true↔zCV T x))∧Ext h h':=by
 refine WC.of (zE 132) tab132 ?_;simp only[zK,Nat.zero_add,Nat.reduceAdd];refine go ?_;refine WO.bx ?_;intro p h1 e1 o1;have st1:=st.ext e1;have sa1:=sa.ext e1;obtain⟨_,_,_,rfl⟩:=SlC.shape sa;refine go ?_;refine WX.loopA [6,7,8,9,10,13,14,15,16,17,18,19,20,4,11,12,5] (by kernel_rfl) (fun i=>x.parts.length - i) (fun i t h2=>h1=h2∧zC t 5=I i∧i≤x.parts.length∧∀ j,j<i→PlT T (x.parts.getD j 0)) 0 ?_ ?_
 ·exact⟨rfl,sl_,Nat.zero_le _,fun j hj=>absurd hj (Nat.not_lt_zero _)⟩
 rintro i t _ hsame ⟨rfl,s5,hi,hm⟩;refine go ?_;refine WX.br (fun hb=> ?_) (fun hb=> ?_)<;>simp only[DB]at hb
 ·have hi':i<x.parts.length:=by omega
  refine go ?_;refine WO.con (zEo h1 vt T (x.parts.getD i 0) st1 hT) ?_;rintro _ _ ⟨⟨b,rfl,hbb⟩,rfl⟩;cases b with
  |true=>
   refine go ?_;refine zA (i+1) (by omega) ⟨rfl,sln,by omega,fun j hj=> ?_⟩;by_cases e:j=i
   ·subst e;exact hbb.1 rfl
   ·exact hm j (by omega)
  |false=>
   refine go ?_;refine rt ?_;exact⟨⟨_,rfl,by simp only[DBI];exact fun hh=>absurd (hbb.2 (hh.1 _ (yH hi'))) Bool.noConfusion⟩,e1⟩
 ·have hall:∀ p∈x.parts,PlT T p:=fun p hp=>by
   obtain⟨j,hj,rfl⟩:=zAi hp;exact hm j (by omega)
  replace hall:=Hid.mk hall;replace hm:=Hid.mk hm;refine go ?_;refine WO.con (zEo h1 vt T x.elem st1 hT) ?_;rintro _ _ ⟨⟨b,rfl,hbb⟩,rfl⟩;replace hbb:=Hid.mk hbb;have key:∀ q:Bool,(q=true↔b=true∧(x.parts.length:Int)≤4∧x.many=0)→(q=true↔zCV T x):=fun q hq=>by
   rw[hq];unfold zCV;rw[hbb.out];refine⟨fun h=>⟨hall.out,h.1,by omega,h.2.2⟩,fun h=>⟨h.2.1,by omega,h.2.2.2⟩⟩
  cases b with
  |false=>
   refine go ?_;refine rt ?_;exact⟨⟨_,rfl,key _ (by simp)⟩,e1⟩
  |true=>
   refine go ?_;repeat' (first|(refine WX.br (fun hb=> ?_) (fun hb=> ?_)<;>(try simp only[DB]at hb)<;>refine go ?_)|(refine WO.sp (fun hb=> ?_) (fun hb=> ?_)<;>(try simp only[DB]at hb)<;>refine go ?_))
   all_goals (refine rt ?_;exact⟨⟨_,rfl,key _ (by simp only[DBI,true_and];omega)⟩,e1⟩)
theorem mayX_iff {T:List LType} {x:LType} {k:Nat}:MayX T x k↔(x.kind=1∧x.elem=0∧x.many=0∧(x.parts.length:Int)=0)∨
 (x.kind=2∧0≤x.elem∧x.elem<(T.length:Int)∧x.many=0∧(x.parts.length:Int)=0)∨(x.kind=3∧zCV T x)∨
 (x.kind=4∧x.elem=0∧x.many=0∧1≤(x.parts.length:Int)∧(x.parts.length:Int)≤8∧∀ p∈x.parts,0≤p∧p<(k:Int))∨
 (x.kind=5∧0≤x.elem∧x.elem<(k:Int)∧1≤x.many∧x.many≤16∧(x.parts.length:Int)=0):=by
 unfold MayX;have h0:(x.parts.length:Int)=0↔x.parts.length=0:=by omega
 have h1:1≤(x.parts.length:Int)↔1≤x.parts.length:=by omega
 have h8:(x.parts.length:Int)≤8↔x.parts.length≤8:=by omega
 rw[h0,h1,h8]
def body128:ACode:=(.seq (oR [oZ 4]) (.seq (oR [oM 6 0,oM 7 1,oI 4 8 6 7,oA 4 9 8,⟨some 5,none,(.alloc [(.int .u8 0),(.int .i64 0),(.int .i64 0),(.slice none 0 0)])⟩,oS 4 5 9]) (.seq (.seq (oR [oF 0 10 5,oL 11 10]) (.block 0 (.seq (oR [oD .eql 13 11 1,oM 12 13]) (.cond (.tmp 12) (.seq (oR [oF 1 14 5,oL 15 14,oC .eql 16 15 0,oM 17 16,oG 17 (oF 2 18 5),oG 17 (oL 19 18),oG 17 (oC .eql 20 19 0),oP 21 17 20,oM 22 21,oG 22 (oF 3 23 5),oG 22 (oL 24 23),oG 22 (oQ 25 24),oG 22 (oC .eql 26 25 0),oP 27 22 26,oM 4 27]) .ret) (.seq (oR [oD .eql 29 11 2,oM 28 29]) (.cond (.tmp 28) (.seq (oR [oF 1 30 5,oL 31 30,oC .geq 32 31 0,oM 33 32,oG 33 (oF 1 34 5),oG 33 (oL 35 34),oG 33 (oM 36 0),oG 33 (oQ 37 36),oG 33 (oB .lss 38 35 37),oP 39 33 38,oM 40 39,oG 40 (oF 2 41 5),oG 40 (oL 42 41),oG 40 (oC .eql 43 42 0),oP 44 40 43,oM 45 44,oG 45 (oF 3 46 5),oG 45 (oL 47 46),oG 45 (oQ 48 47),oG 45 (oC .eql 49 48 0),oP 50 45 49,oM 4 50]) .ret) (.seq (oR [oD .eql 52 11 3,oM 51 52]) (.cond (.tmp 51) (.seq (oR [oM 53 0,oA 4 54 5,o2 55 132 53 54,oM 4 55]) .ret) (.seq (oR [oD .eql 57 11 4,oM 56 57]) (.cond (.tmp 56) (.seq (oR [oF 1 58 5,oL 59 58,oC .eql 60 59 0,oM 61 60,oG 61 (oF 2 62 5),oG 61 (oL 63 62),oG 61 (oC .eql 64 63 0),oP 65 61 64,oM 66 65,oG 66 (oF 3 67 5),oG 66 (oL 68 67),oG 66 (oQ 69 68),oG 66 (oC .geq 70 69 1),oP 71 66 70,oM 72 71,oG 72 (oF 3 73 5),oG 72 (oL 74 73),oG 72 (oQ 75 74),oG 72 (oC .leq 76 75 8),oP 77 72 76,oM 78 77,oG 78 (oF 3 79 5),oG 78 (oL 80 79),oG 78 (oM 81 1),oG 78 (o2 82 133 80 81),oP 83 78 82,oM 4 83]) .ret) (.seq (oR [oD .eql 85 11 5,oM 84 85]) (.cond (.tmp 84) (.seq (oR [oF 1 86 5,oL 87 86,oC .geq 88 87 0,oM 89 88,oG 89 (oF 1 90 5),oG 89 (oL 91 90),oG 89 (oM 92 1),oG 89 (oB .lss 93 91 92),oP 94 89 93,oM 95 94,oG 95 (oF 2 96 5),oG 95 (oL 97 96),oG 95 (oC .geq 98 97 1),oP 99 95 98,oM 100 99,oG 100 (oF 2 101 5),oG 100 (oL 102 101),oG 100 (oC .leq 103 102 16),oP 104 100 103,oM 105 104,oG 105 (oF 3 106 5),oG 105 (oL 107 106),oG 105 (oQ 108 107),oG 105 (oC .eql 109 108 0),oP 110 105 109,oM 4 110]) .ret) .skip)))))))))))) (.seq (oR [oZ 4]) .ret))))
theorem tab128:tb.code 128=some ⟨111,[(4,none)],body128⟩:=by kernel_rfl
theorem zF0 (h:AHeap) (vt:Value) (T:List LType) (k:Nat) (st:SlT h vt T) (hT:(T.length:Int)≤1000) (hk:k<T.length) (hpl:((T.getD k default).parts.length:Int)≤1000000):
  WC Tryz.prog tb 128 [vt,I k] h fun r h'=>(∃ b,r= .bool b∧(b=true↔Yu T k))∧Ext h h':=by
 obtain⟨cs,⟨va,rfl,sa,hla⟩,pc,hs⟩:=Zg (i:=k) st hk;unfold Yu;generalize T.getD k default=x at *;have hmx:=Hid.mk (mayX_iff (T:=T) (x:=x) (k:=k));obtain⟨_,_,_,rfl⟩:=SlC.shape sa;refine WC.of (zE 128) tab128 ?_;simp only[zK,Nat.zero_add,Nat.reduceAdd];refine go ?_;refine WO.al ?_;intro p h1 e1 o1;refine go ?_;refine WO.stC0 o1 e1 ?_;intro h2 e2 o2 _;have st2:=st.ext e2;have sa2:=sa.ext e2;by_cases h1:x.kind=1
 ·skip;refine go ?_;repeat' (first|(refine WX.br (fun hb=> ?_) (fun hb=> ?_)<;>(try simp only[DB]at hb)<;>refine go ?_)|(refine WO.sp (fun hb=> ?_) (fun hb=> ?_)<;>(try simp only[DB]at hb)<;>refine go ?_))
  all_goals (refine rt ?_;exact⟨⟨_,rfl,by rw[hmx.out];simp only[DBI];omega⟩,e2⟩)
 by_cases h2:x.kind=2
 ·skip;refine go ?_;repeat' (first|(refine WX.br (fun hb=> ?_) (fun hb=> ?_)<;>(try simp only[DB]at hb)<;>refine go ?_)|(refine WO.sp (fun hb=> ?_) (fun hb=> ?_)<;>(try simp only[DB]at hb)<;>refine go ?_))
  all_goals (refine rt ?_;exact⟨⟨_,rfl,by rw[hmx.out];simp only[DBI];omega⟩,e2⟩)
 by_cases h3:x.kind=3
 ·refine go ?_;refine WO.con (zJP _ vt _ T x st2 hT sa2 hpl) ?_;rintro _ h5 ⟨⟨b,rfl,hbb⟩,e5⟩;refine go ?_;refine rt ?_;refine⟨⟨_,rfl,?_⟩,e2.trans e5⟩;rw[hbb,hmx.out];refine⟨fun h=> .inr (.inr (.inl ⟨h3,h⟩)),fun h=> ?_⟩;rcases h with h|h|h|h|h
  ·omega
  ·omega
  ·exact h.2
  ·omega
  ·omega
 by_cases h4:x.kind=4
 ·refine go ?_;refine WO.sp (fun hd=> ?_) (fun hd=> ?_)<;>simp only[DB]at hd;case refine_2=>
   refine go ?_;refine rt ?_;refine⟨⟨_,rfl,?_⟩,e2⟩;rw[hmx.out];simp only[DBI];omega
  refine go ?_;refine WO.sp (fun hd2=> ?_) (fun hd2=> ?_)<;>simp only[DB]at hd2;case refine_2=>
   refine go ?_;refine rt ?_;refine⟨⟨_,rfl,?_⟩,e2⟩;rw[hmx.out];simp only[DBI];omega
  refine go ?_;refine WO.sp (fun hd3=> ?_) (fun hd3=> ?_)<;>simp only[DB]at hd3;case refine_2=>
   refine go ?_;refine rt ?_;refine⟨⟨_,rfl,?_⟩,e2⟩;rw[hmx.out];simp only[DBI];omega
  refine go ?_;refine WO.sp (fun hd4=> ?_) (fun hd4=> ?_)<;>simp only[DB]at hd4;case refine_2=>
   refine go ?_;refine rt ?_;refine⟨⟨_,rfl,?_⟩,e2⟩;rw[hmx.out];simp only[DBI];omega
  refine go ?_;refine WO.con (zIj _ _ x.parts k sa2 hpl) ?_;rintro _ _ ⟨⟨b,rfl,hbb⟩,rfl⟩;refine go ?_;refine rt ?_;refine⟨⟨_,rfl,?_⟩,e2⟩;rw[hbb,hmx.out];refine⟨fun h=> .inr (.inr (.inr (.inl ⟨h4,hd,hd2,hd3,hd4,h⟩))),fun h=> ?_⟩;rcases h with h|h|h|h|h
  ·omega
  ·omega
  ·omega
  ·exact h.2.2.2.2.2
  ·omega
 by_cases h5:x.kind=5
 ·skip;refine go ?_;repeat' (first|(refine WX.br (fun hb=> ?_) (fun hb=> ?_)<;>(try simp only[DB]at hb)<;>refine go ?_)|(refine WO.sp (fun hb=> ?_) (fun hb=> ?_)<;>(try simp only[DB]at hb)<;>refine go ?_))
  all_goals (refine rt ?_;exact⟨⟨_,rfl,by rw[hmx.out];simp only[DBI];omega⟩,e2⟩)
 ·refine go ?_;refine rt ?_;refine⟨⟨_,rfl,?_⟩,e2⟩;rw[hmx.out];simp only[DBI];omega
def zIM:ACode:=(.seq (.seq (oR [oM 17 7,oF 3 18 5,oL 19 18,oQ 20 19,oB .lss 21 17 20]) (oT 21 0)) (.seq (.block 1 (oR [oM 24 6,oM 25 0,oF 3 26 5,oL 27 26,oM 28 7,oI 1 29 27 28,oL 30 29,o2 31 129 25 30,oY 1 32 24 31,oM 6 32])) (oR [oM 22 7,oC .add 23 22 1,oM 7 23])))
def zIe:ACode:=(.seq (.seq (oR [oM 37 9,oF 2 38 5,oL 39 38,oB .lss 40 37 39]) (oT 40 2)) (.seq (.block 3 (oR [oM 43 8,oM 44 0,oF 1 45 5,oL 46 45,o2 47 129 44 46,oY 1 48 43 47,oM 8 48])) (oR [oM 41 9,oC .add 42 41 1,oM 9 42])))
def body129:ACode:=(.seq (oR [oK 4 (.slice none 0 0)]) (.seq (oR [oM 10 0,oM 11 1,oI 4 12 10 11,oA 4 13 12,⟨some 5,none,(.alloc [(.int .u8 0),(.int .i64 0),(.int .i64 0),(.slice none 0 0)])⟩,oS 4 5 13]) (.seq (.seq (oR [oF 0 14 5,oL 15 14,oD .eql 16 15 4]) (.cond (.tmp 16) (.seq (oR [oK 6 (.slice none 0 0)]) (.seq (.seq (oR [oN 7 0]) (.block 0 (.loop zIM))) (.seq (oR [oM 33 6,oM 4 33]) .ret))) .skip)) (.seq (.seq (oR [oF 0 34 5,oL 35 34,oD .eql 36 35 5]) (.cond (.tmp 36) (.seq (oR [oK 8 (.slice none 0 0)]) (.seq (.seq (oR [oN 9 0]) (.block 2 (.loop zIe))) (.seq (oR [oM 49 8,oM 4 49]) .ret))) .skip)) (.seq (oR [oM 50 1,⟨some 51,none,(.buildSlice 1 1 [(.int .i64 0)] [(0,1,(.tmp 50))])⟩,oM 4 51]) .ret)))))
theorem tab129:tb.code 129=some ⟨52,[(4,none)],body129⟩:=by kernel_rfl
theorem zGl {α:Type} {l:List α} {f:α→List Int} (h:∀ x∈l,(f x).length≤32):(l.map f).flatten.length≤32 * l.length:=by
 induction l with
 |nil=>simp
 |cons a l ih=>
  have:=h a (by simp);have:=ih fun x hx=>h x (by simp[hx]);simp only[List.map_cons,List.flatten_cons,List.length_append,List.length_cons];omega
theorem zIo {α:Type} [Inhabited α] {l:List α} {f:α→List Int} {i:Nat} (h:i<l.length):((l.take (i+1)).map f).flatten=((l.take i).map f).flatten++f (l.getD i default):=by
 rw[List.take_add_one,List.getElem?_eq_getElem h,List.map_append,List.flatten_append];simp[List.getD,List.getElem?_eq_getElem h]
theorem rOf_ok (vt:Value) (T:List LType) (hT:(T.length:Int)≤1000):∀ (n k:Nat) (h:AHeap),k<n→SlT h vt T→k<T.length→LowT T k→Yu T k→
  WC Tryz.prog tb 129 [vt,I k] h fun r h'=>OwnN h h' r (ofL T k)∧Ext h h':=by
 intro n;induction n with
 |zero=>intro k h hk;omega
 |succ n ih=>
  intro k h hkn st hk hlow hM;have hof:=zDT (T:=T) (k:=k) fun j hj=>by
   by_cases e:j=k
   ·subst e;exact hM
   ·exact(hlow j (by omega)).1
  obtain⟨cs,⟨va,rfl,sa,hla⟩,pc,hs⟩:=Zg (i:=k) st hk;unfold Yu MayX at hM;rw[hof];clear hof;generalize T.getD k default=x at *;obtain⟨_,_,_,rfl⟩:=SlC.shape sa;refine WC.of (zE 129) tab129 ?_;simp only[zK,Nat.zero_add,Nat.reduceAdd];refine go ?_;refine WO.al ?_;intro p h1 e1 o1;refine go ?_;refine WO.stC0 o1 e1 ?_;intro h2 e2 o2 _;have st2:=st.ext e2;have sa2:=sa.ext e2;by_cases h4:x.kind=4
  ·have hp:x.parts.length≤8∧∀ p∈x.parts,0≤p∧p<(k:Int):=by
    rcases hM with h|h|h|h|h
    ·omega
    ·omega
    ·omega
    ·exact⟨h.2.2.2.2.1,h.2.2.2.2.2⟩
    ·omega
   have hbd:∀ p∈x.parts,(ofL T p.toNat).length≤32:=fun p hpp=>by
    have:=hp.2 p hpp;exact(hlow p.toNat (by omega)).2
   simp only[h4,if_true];replace hM:=Hid.mk hM;replace hlow:=Hid.mk hlow;have hp8:=hp.1;replace hp:=Hid.mk hp;replace hbd:=Hid.mk hbd;refine go ?_;refine WX.loopA [17,18,19,20,21,24,25,26,27,28,29,30,31,32,6,22,23,7] (by kernel_rfl) (fun i=>x.parts.length - i) (fun i t h3=>zC t 7=I i∧i≤x.parts.length∧Ext h2 h3∧∃ w,zC t 6=w∧OwnN h2 h3 w (((x.parts.take i).map fun p=>ofL T p.toNat).flatten)) 0 ?_ ?_
   ·exact⟨sl_,Nat.zero_le _,Ext.refl _,.slice none 0 0,sl_,.inl ⟨rfl,by simp⟩⟩
   rintro i t h3 hsame ⟨s7,hi,e23,w,s6,ow⟩;have st3:=st2.ext e23;have sa3:=sa2.ext e23;have o3:=o2.ext e23;refine go ?_;refine WX.br (fun hc=> ?_) (fun hc=> ?_)<;>simp only[DB]at hc
   ·have hi':i<x.parts.length:=by omega
    have hpi:=hp.out.2 _ (yH hi');have hsucc:=zIo (f:=fun p=>ofL T p.toNat) hi';have hln:=zGl (l:=x.parts.take i) (f:=fun p=>ofL T p.toNat) fun q hq=>hbd.out q (List.mem_of_mem_take hq);have hl1:=hbd.out _ (yH hi');have htk:(x.parts.take i).length≤i:=List.length_take_le _ _;have hcast:I (x.parts.getD i 0)=I ((x.parts.getD i 0).toNat:Int):=by rw[Int.toNat_of_nonneg hpi.1]
    obtain⟨q,hq⟩:∃ q:Nat,x.parts.getD i 0=q:=⟨(x.parts.getD i 0).toNat,by omega⟩;have hqk:q<k:=by omega
    refine go ?_;rw[hq];refine WO.con (ih q h3 (by omega) st3 (by omega) (fun j hj=>hlow.out j (by omega)) (hlow.out q hqk).1) ?_;rintro r h4 ⟨or,e4⟩;refine go ?_;have hdef:x.parts.getD i default=(q:Int):=hq;rw[hdef]at hsucc;simp only[Int.toNat_natCast]at hsucc;have hl2:(ofL T q).length≤32:=by rw[hq]at hl1;exact hl1
    refine WO.apN (ow.ext e4) or.sl (e23.trans e4) (by omega) ?_;intro v5 h5 e5 o5;refine go ?_;exact zA (i+1) (by omega) ⟨sln,by omega,e5,v5,sl_,by rw[hsucc];exact o5⟩
   ·have hii:i=x.parts.length:=by omega
    subst hii;rw[List.take_length]at ow;refine go ?_;refine rt ?_;exact⟨ow.since e2,e2.trans e23⟩
  by_cases h5:x.kind=5
  ·have hp:0≤x.elem∧x.elem<(k:Int)∧1≤x.many∧x.many≤16:=by omega
   obtain⟨q,hq⟩:∃ q:Nat,x.elem=q:=⟨x.elem.toNat,by omega⟩;obtain⟨m,hm⟩:∃ m:Nat,x.many=m:=⟨x.many.toNat,by omega⟩;have hqk:q<k:=by omega
   have hlq:=(hlow q hqk).2;simp only[h5,if_true,if_false,show ¬((5:Int)=4) by decide,hq,hm,Int.toNat_natCast];replace hM:=Hid.mk hM;replace hlow:=Hid.mk hlow;have hm16:m≤16:=by omega
   refine go ?_;refine WX.loopA [37,38,39,40,43,44,45,46,47,48,8,41,42,9] (by kernel_rfl) (fun i=>m - i) (fun i t h3=>zC t 9=I i∧i≤m∧Ext h2 h3∧∃ w,zC t 8=w∧OwnN h2 h3 w (List.replicate i (ofL T q)).flatten) 0 ?_ ?_
   ·exact⟨sl_,Nat.zero_le _,Ext.refl _,.slice none 0 0,sl_,.inl ⟨rfl,by simp⟩⟩
   rintro i t h3 hsame ⟨s7,hi,e23,w,s6,ow⟩;have st3:=st2.ext e23;have o3:=o2.ext e23;refine go ?_;rw[hm];refine go ?_;refine WX.br (fun hc=> ?_) (fun hc=> ?_)<;>simp only[DB]at hc
   ·have hi':i<m:=by omega
    have hln:=zH7 i (ofL T q);have hmul:i * (ofL T q).length≤16 * 32:=Nat.mul_le_mul (by omega) hlq;refine go ?_;rw[hq];refine WO.con (ih q h3 (by omega) st3 (by omega) (fun j hj=>hlow.out j (by omega)) (hlow.out q hqk).1) ?_;rintro r h4 ⟨or,e4⟩;refine go ?_;refine WO.apN (ow.ext e4) or.sl (e23.trans e4) (by omega) ?_;intro v5 h5 e5 o5;refine go ?_;refine zA (i+1) (by omega) ⟨sln,by omega,e5,v5,sl_,?_⟩;rw[List.replicate_succ',List.flatten_append];simpa using o5
   ·have hii:i=m:=by omega
    subst hii;refine go ?_;refine rt ?_;exact⟨ow.since e2,e2.trans e23⟩
  ·rw[if_neg h4,if_neg h5];refine go ?_;refine WO.bl [(k:Int)] ?_;intro v h3 e3 o3;refine go ?_;refine rt ?_;exact⟨.inr (o3.since e2),e2.trans e3⟩
def zJK:ACode:=(.seq (.seq (oR [oM 7 3,oM 8 0,oQ 9 8,oB .lss 10 7 9]) (oT 10 0)) (.seq (.block 1 (.seq (oR [oM 13 0,oM 14 3,o2 15 128 13 14,oW 16 15,oM 17 16,oH 17 (oM 18 0),oH 17 (oM 19 3),oH 17 (o2 20 129 18 19),oH 17 (oQ 21 20),oH 17 (oC .gtr 22 21 32),oO 23 17 22]) (.cond (.tmp 23) (.seq (oR [oN 2 30]) .ret) .skip))) (oR [oM 11 3,oC .add 12 11 1,oM 3 12])))
def body122:ACode:=(.seq (oR [oN 2 0]) (.seq (.seq (oR [oM 4 0,oQ 5 4,oC .gtr 6 5 16]) (.cond (.tmp 6) (.seq (oR [oN 2 4]) .ret) .skip)) (.seq (.seq (oR [oN 3 0]) (.block 0 (.loop zJK))) (.seq (oR [oN 2 0]) .ret))))
theorem tab122:tb.code 122=some ⟨24,[(2,none)],body122⟩:=by kernel_rfl
theorem zJY (h:AHeap) (vt:Value) (T:List LType) (st:SlT h vt T) (hT:(T.length:Int)≤1000) (hpl:∀ x∈T,x.parts.length≤1000000):
  WC Tryz.prog tb 122 [vt] h fun r h'=>r=I (YI T)∧Ext h h':=by
 refine WC.of (zE 122) tab122 ?_;simp only[zK,Nat.zero_add,Nat.reduceAdd];rw[zHC];replace hpl:=Hid.mk hpl;by_cases h16:16<(T.length:Int)
 ·refine go ?_;refine rt ?_;rw[if_pos (by omega)];exact⟨rfl,Ext.refl _⟩
 rw[if_neg (by omega)];refine go ?_;refine WX.loopA [7,8,9,10,13,14,15,16,17,18,19,20,21,22,23,2,11,12,3] (by kernel_rfl) (fun i=>T.length - i) (fun i t h1=>Ext h h1∧zC t 3=I i∧i≤T.length∧Hid (LowT T i)) 0 ?_ ?_
 ·exact⟨Ext.refl _,sl_,Nat.zero_le _,⟨fun j hj=>absurd hj (Nat.not_lt_zero _)⟩⟩
 rintro i t h1 hsame ⟨e1,s3,hi,hlow⟩;have st1:=st.ext e1;refine go ?_;refine WX.br (fun hc=> ?_) (fun hc=> ?_)<;>simp only[DB]at hc
 ·have hi':i<T.length:=by omega
  refine go ?_;refine WO.con (zF0 h1 vt T i st1 hT hi' (by have:=hpl.out _ (zI (l:=T) hi');omega)) ?_;rintro _ h2 ⟨⟨b,rfl,hbb⟩,e2⟩;have st2:=st1.ext e2;have no:¬(Yu T i∧(ofL T i).length≤32)→¬LowT T T.length:=fun hn hl=>hn (hl i hi');cases b with
  |false=>
   have hf:¬LowT T T.length:=no fun hh=>absurd (hbb.2 hh.1) Bool.noConfusion;refine go ?_;refine rt ?_;rw[if_neg hf];exact⟨rfl,e1.trans e2⟩
  |true=>
   have hM:=hbb.1 rfl;refine go ?_;refine WO.con (rOf_ok vt T hT (i+1) i h2 (by omega) st2 hi' hlow.out hM) ?_;rintro r h3 ⟨or,e3⟩;have sr:=or.sl;have e03:=(e1.trans e2).trans e3;refine go ?_;refine WX.br (fun hd=> ?_) (fun hd=> ?_)<;>simp only[DB]at hd
   ·have hf:¬LowT T T.length:=no fun hh=>by have:=hh.2;omega
    refine go ?_;refine rt ?_;rw[if_neg hf];exact⟨rfl,e03⟩
   ·refine go ?_;refine zA (i+1) (by omega) ⟨e03,sln,by omega,⟨fun j hj=> ?_⟩⟩;by_cases e:j=i
    ·subst e;exact⟨hM,by omega⟩
    ·exact hlow.out j (by omega)
 ·have hii:i=T.length:=by omega
  subst hii;refine go ?_;refine rt ?_;rw[if_pos hlow.out];exact⟨rfl,e1⟩
def body60:ACode:=(.seq (oR [oZ 2]) (.seq (oR [oM 3 0,oD .geq 4 3 4,oM 5 4,oG 5 (oM 6 0),oG 5 (oD .leq 7 6 10),oP 8 5 7,oM 9 8,oH 9 (oM 10 0),oH 9 (oD .eql 11 10 15),oO 12 9 11,oM 13 12,oH 13 (oM 14 0),oH 13 (oD .eql 15 14 17),oO 16 13 15,oM 2 16]) .ret))
theorem tab60:tb.code 60=some ⟨17,[(2,none)],body60⟩:=by kernel_rfl
theorem zIC (h:AHeap) (op:Int):WC Tryz.prog tb 60 [.int .u8 op] h fun r h'=>(∃ b,r= .bool b∧(b=true↔TwoP op))∧h=h':=by
 refine WC.of (zE 60) tab60 ?_;simp only[zK,Nat.zero_add,Nat.reduceAdd];refine go ?_;repeat' (first|(refine WX.br (fun hb=> ?_) (fun hb=> ?_)<;>(try simp only[DB]at hb)<;>refine go ?_)|(refine WO.sp (fun hb=> ?_) (fun hb=> ?_)<;>(try simp only[DB]at hb)<;>refine go ?_))
 all_goals (refine rt ?_;exact⟨⟨_,rfl,by unfold TwoP;simp only[DBI];omega⟩,rfl⟩)
theorem two_ok (h:AHeap) (op:Int) (ho:0≤op):WC Tryz.prog tb 60 [.int .u8 op] h fun r h'=>r= .bool (zS op).2.1∧h=h':=by
 refine(zIC h op).mono ?_;rintro _ _ ⟨⟨b,rfl,hb⟩,rfl⟩;exact⟨congrArg _ (by rw[Bool.eq_iff_iff,hb,(Yk ho).1]),rfl⟩
def body59:ACode:=(.seq (oR [oZ 2]) (.seq (oR [oM 3 0,o1 4 60 3,oM 5 4,oH 5 (oM 6 0),oH 5 (oD .eql 7 6 13),oO 8 5 7,oM 9 8,oH 9 (oM 10 0),oH 9 (oD .eql 11 10 14),oO 12 9 11,oM 13 12,oH 13 (oM 14 0),oH 13 (oD .eql 15 14 16),oO 16 13 15,oM 17 16,oH 17 (oM 18 0),oH 17 (oD .eql 19 18 19),oO 20 17 19,oM 21 20,oH 21 (oM 22 0),oH 21 (oD .eql 23 22 21),oO 24 21 23,oM 2 24]) .ret))
theorem tab59:tb.code 59=some ⟨25,[(2,none)],body59⟩:=by kernel_rfl
theorem zHp (h:AHeap) (op:Int) (ho:0≤op):WC Tryz.prog tb 59 [.int .u8 op] h fun r h'=>r= .bool (zS op).1∧h=h':=by
 refine WC.mono (Q:=fun r h'=>(∃ b,r= .bool b∧(b=true↔zGJ op))∧h=h') ?_ ?_
 ·refine WC.of (zE 59) tab59 ?_;simp only[zK,Nat.zero_add,Nat.reduceAdd];refine go ?_;refine WO.con (zIC h op) ?_;rintro _ _ ⟨⟨b,rfl,hb⟩,rfl⟩;cases b with
  |true=>
   have hT:=hb.1 rfl;refine go ?_;refine rt ?_;exact⟨⟨_,rfl,⟨fun _=> .inl hT,fun _=>rfl⟩⟩,rfl⟩
  |false=>
   have hT:¬TwoP op:=fun hh=>absurd (hb.2 hh) Bool.noConfusion;unfold zGJ;refine go ?_;repeat' (first|(refine WX.br (fun hb=> ?_) (fun hb=> ?_)<;>(try simp only[DB]at hb)<;>refine go ?_)|(refine WO.sp (fun hb=> ?_) (fun hb=> ?_)<;>(try simp only[DB]at hb)<;>refine go ?_))
   all_goals (refine rt ?_;exact⟨⟨_,rfl,by simp only[DBI,hT,false_or];omega⟩,rfl⟩)
 ·rintro _ _ ⟨⟨b,rfl,hb⟩,rfl⟩;exact⟨congrArg _ (by rw[Bool.eq_iff_iff,hb,(Yk ho).2.1]),rfl⟩
def body61:ACode:=(.seq (oR [oZ 2]) (.seq (oR [oM 3 0,oD .eql 4 3 18,oM 5 4,oH 5 (oM 6 0),oH 5 (oD .eql 7 6 19),oO 8 5 7,oM 9 8,oH 9 (oM 10 0),oH 9 (oD .eql 11 10 22),oO 12 9 11,oM 2 12]) .ret))
theorem tab61:tb.code 61=some ⟨13,[(2,none)],body61⟩:=by kernel_rfl
theorem zH1 (h:AHeap) (op:Int) (ho:0≤op):WC Tryz.prog tb 61 [.int .u8 op] h fun r h'=>r= .bool (zS op).2.2.2.1∧h=h':=by
 refine WC.mono (Q:=fun r h'=>(∃ b,r= .bool b∧(b=true↔zDB op))∧h=h') ?_ ?_
 ·refine WC.of (zE 61) tab61 ?_;simp only[zK,Nat.zero_add,Nat.reduceAdd];refine go ?_;repeat' (first|(refine WX.br (fun hb=> ?_) (fun hb=> ?_)<;>(try simp only[DB]at hb)<;>refine go ?_)|(refine WO.sp (fun hb=> ?_) (fun hb=> ?_)<;>(try simp only[DB]at hb)<;>refine go ?_))
  all_goals (refine rt ?_;exact⟨⟨_,rfl,by unfold zDB;simp only[DBI];omega⟩,rfl⟩)
 ·rintro _ _ ⟨⟨b,rfl,hb⟩,rfl⟩;exact⟨congrArg _ (by rw[Bool.eq_iff_iff,hb,(Yk ho).2.2.1]),rfl⟩
def body136:ACode:=(.seq (oR [oZ 2]) (.seq (oR [oM 3 0,oD .geq 4 3 1,oM 5 4,oG 5 (oM 6 0),oG 5 (oD .leq 7 6 22),oP 8 5 7,oM 9 8,oG 9 (oM 10 0),oG 9 (oD .neq 11 10 13),oP 12 9 11,oM 13 12,oG 13 (oM 14 0),oG 13 (oD .neq 15 14 17),oP 16 13 15,oM 17 16,oG 17 (oM 18 0),oG 17 (oD .neq 19 18 21),oP 20 17 19,oM 2 20]) .ret))
theorem tab136:tb.code 136=some ⟨21,[(2,none)],body136⟩:=by kernel_rfl
theorem zBS (h:AHeap) (op:Int) (ho:0≤op):WC Tryz.prog tb 136 [.int .u8 op] h fun r h'=>r= .bool (zS op).2.2.2.2.2∧h=h':=by
 refine WC.mono (Q:=fun r h'=>(∃ b,r= .bool b∧(b=true↔AnsP op))∧h=h') ?_ ?_
 ·refine WC.of (zE 136) tab136 ?_;simp only[zK,Nat.zero_add,Nat.reduceAdd];refine go ?_;repeat' (first|(refine WX.br (fun hb=> ?_) (fun hb=> ?_)<;>(try simp only[DB]at hb)<;>refine go ?_)|(refine WO.sp (fun hb=> ?_) (fun hb=> ?_)<;>(try simp only[DB]at hb)<;>refine go ?_))
  all_goals (refine rt ?_;exact⟨⟨_,rfl,by unfold AnsP;simp only[DBI];omega⟩,rfl⟩)
 ·rintro _ _ ⟨⟨b,rfl,hb⟩,rfl⟩;exact⟨congrArg _ (by rw[Bool.eq_iff_iff,hb,(Yk ho).2.2.2.1]),rfl⟩
theorem zv {h:AHeap} {va:Value} {l:List Int} (s:SlI h va l):∃ a n k,va= .slice a n k:=SlC.shape s
def body37:ACode:=(.seq (oR [oX 1 0,oK 2 (.slice none 0 0)]) (.seq (oR [oK 3 (.slice none 0 0)]) (.seq (.seq (oR [oF 0 4 1,oL 5 4,o1 6 59 5]) (.cond (.tmp 6) (oR [oM 7 3,oF 2 8 1,oL 9 8,⟨some 10,none,(.buildSlice 1 1 [(.int .i64 0)] [(0,1,(.tmp 9))])⟩,oY 1 11 7 10,oM 3 11]) .skip)) (.seq (.seq (oR [oF 0 12 1,oL 13 12,o1 14 60 13]) (.cond (.tmp 14) (oR [oM 15 3,oF 3 16 1,oL 17 16,⟨some 18,none,(.buildSlice 1 1 [(.int .i64 0)] [(0,1,(.tmp 17))])⟩,oY 1 19 15 18,oM 3 19]) .skip)) (.seq (.seq (oR [oF 0 20 1,oL 21 20,o1 22 61 21]) (.cond (.tmp 22) (oR [oM 23 3,oF 5 24 1,oL 25 24,oY 1 26 23 25,oM 3 26]) .skip)) (.seq (oR [oM 27 3,oM 2 27]) .ret))))))
theorem tab37:tb.code 37=some ⟨28,[(2,none)],body37⟩:=by kernel_rfl
theorem zF5 (h:AHeap) (x:LIns) (cs:List Value) (hcs:RIns h cs x) (hx:x.args.length≤20):
  WC Tryz.prog tb 37 [.agg cs.toArray] h fun r h'=>OwnN h h' r (yu x)∧Ext h h':=by
 obtain⟨va,vfr,rfl,sa,sfr,hla,hlf,ho,ho2⟩:=hcs;obtain⟨aa,an,ak,rfl⟩:=zv sa;obtain⟨fa,fn,fk,rfl⟩:=zv sfr;refine WC.of (zE 37) tab37 ?_;simp only[zK,Nat.zero_add,Nat.reduceAdd];refine go ?_;refine WO.bx ?_;intro p h1 e1 o1;have sa1:=sa.ext e1;refine go ?_;refine WO.con (zHp h1 x.op ho) ?_;rintro _ _ ⟨rfl,rfl⟩;unfold yu;refine go ?_;refine WX.cutA [7,8,9,10,11,3] (by kernel_rfl) (fun t h'=>Ext h1 h'∧∃ w,zC t 3=w∧OwnN h1 h' w (if (zS x.op).1 then [x.a] else [])) ?_ ?_
 ·cases hA:(zS x.op).1 with
  |true=>
   refine go ?_;refine WO.bl [x.a] ?_;intro v h2 e2 o2;refine go ?_;refine WO.apN (v:= .slice none 0 0) (xs:=[]) (h0:=h1) (.inl ⟨rfl,rfl⟩) o2.sl e2 (by simp) ?_;intro v3 h3 e3 o3;refine go ?_;exact zG ⟨e3,v3,sl_,o3⟩
  |false=>
   refine go ?_;exact zG ⟨Ext.refl _,_,sl_,.inl ⟨rfl,rfl⟩⟩
 rintro t2 h2 hs2 ⟨e2,w2,q2,ow2⟩;have o2:=o1.ext e2;have l2:(if (zS x.op).1 then [x.a] else []).length≤1:=by split<;>simp
 generalize (if (zS x.op).1 then [x.a] else [])=lA at *;refine go ?_;refine WO.con (two_ok h2 x.op ho) ?_;rintro _ _ ⟨rfl,rfl⟩;refine go ?_;refine WX.cutA [15,16,17,18,19,3] (by kernel_rfl) (fun t h'=>Ext h1 h'∧∃ w,zC t 3=w∧OwnN h1 h' w (lA++if (zS x.op).2.1 then [x.b] else [])) ?_ ?_
 ·cases hB:(zS x.op).2.1 with
  |true=>
   refine go ?_;refine WO.bl [x.b] ?_;intro v h3 e3 o3;refine go ?_;refine WO.apN (ow2.ext e3) o3.sl (e2.trans e3) (by simp only[List.length_singleton];omega) ?_;intro v4 h4 e4 o4;refine go ?_;exact zG ⟨e4,v4,sl_,o4⟩
  |false=>
   refine go ?_;exact zG ⟨e2,_,sl_,by simpa using ow2⟩
 rintro t3 h3 hs3 ⟨e3,w3,q3,ow3⟩;have o3:=o1.ext e3;have sa3:=sa1.ext e3;have l3:(lA++if (zS x.op).2.1 then [x.b] else []).length≤2:=by split<;>simp<;>omega
 rw[←List.append_assoc];generalize (lA++if (zS x.op).2.1 then [x.b] else [])=lB at *;refine go ?_;refine WO.con (zH1 h3 x.op ho) ?_;rintro _ _ ⟨rfl,rfl⟩;refine go ?_;cases hG:(zS x.op).2.2.2.1 with
 |true=>
  refine go ?_;refine WO.apN ow3 sa3 e3 (by omega) ?_;intro v4 h4 e4 o4;refine go ?_;refine rt ?_;exact⟨o4.since e1,e1.trans e4⟩
 |false=>
  refine go ?_;refine rt ?_;exact⟨(by simpa using ow3.since e1:OwnN h h3 w3 _),e1.trans e3⟩
def zId:ACode:=(.seq (.seq (oR [oM 6 5,oM 7 0,oQ 8 7,oB .lss 9 6 8]) (oT 9 0)) (.seq (.block 1 (.seq (oR [oM 12 0,oM 13 5,oI 1 14 12 13,oL 15 14,oC .lss 16 15 0,oM 17 16,oH 17 (oM 18 0),oH 17 (oM 19 5),oH 17 (oI 1 20 18 19),oH 17 (oL 21 20),oH 17 (oM 22 1),oH 17 (oB .geq 23 21 22),oO 24 17 23]) (.cond (.tmp 24) (.seq (oR [oZ 4]) .ret) .skip))) (oR [oM 10 5,oC .add 11 10 1,oM 5 11])))
def body134:ACode:=(.seq (oR [oZ 4]) (.seq (.seq (oR [oN 5 0]) (.block 0 (.loop zId))) (.seq (oR [oK 4 (.bool true)]) .ret)))
theorem tab134:tb.code 134=some ⟨25,[(4,none)],body134⟩:=by kernel_rfl
theorem YO (h:AHeap) (v:Value) (l:List Int) (m:Int) (s:SlI h v l) (hl:(l.length:Int)≤1000000):
  WC Tryz.prog tb 134 [v,I m] h fun r h'=>(∃ b,r= .bool b∧(b=true↔Btw l m))∧h=h':=by
 refine WC.of (zE 134) tab134 ?_;simp only[zK,Nat.zero_add,Nat.reduceAdd];refine go ?_;refine WX.loopA [6,7,8,9,12,13,14,15,16,17,18,19,20,21,22,23,24,4,10,11,5] (by kernel_rfl) (fun i=>l.length - i) (fun i t h1=>h=h1∧zC t 5=I i∧i≤l.length∧∀ j,j<i→0≤l.getD j 0∧l.getD j 0<m) 0 ?_ ?_
 ·exact⟨rfl,sl_,Nat.zero_le _,fun j hj=>absurd hj (Nat.not_lt_zero _)⟩
 rintro i t _ hsame ⟨rfl,s5,hi,hm⟩;refine go ?_;refine WX.br (fun hb=> ?_) (fun hb=> ?_)<;>simp only[DB]at hb
 ·have hi':i<l.length:=by omega
  by_cases hok:0≤l.getD i 0∧l.getD i 0<m
  ·refine go ?_;refine zA (i+1) (by omega) ⟨rfl,sln,by omega,fun j hj=> ?_⟩;by_cases e:j=i
   ·subst e;exact hok
   ·exact hm j (by omega)
  ·have hno:¬Btw l m:=fun hh=>hok (hh _ (yH hi'));by_cases h0:l.getD i 0<0
   ·refine go ?_;refine rt ?_;exact⟨⟨_,rfl,by simp only[DBI];exact hno⟩,rfl⟩
   ·refine go ?_;refine rt ?_;exact⟨⟨_,rfl,by simp only[DBI];exact hno⟩,rfl⟩
 ·refine go ?_;refine rt ?_;refine⟨⟨_,rfl,?_⟩,rfl⟩;simp only[DBI];intro p hp;obtain⟨j,hj,rfl⟩:=zAi hp;exact hm j (by omega)
def body135:ACode:=(.seq (oR [oX 2 0,oX 3 1,oZ 4]) (.seq (.seq (oR [oF 0 5 3,oL 6 5]) (.block 0 (.seq (oR [oD .eql 8 6 1,oM 7 8]) (.cond (.tmp 7) (.seq (oR [oK 4 (.bool true)]) .ret) (.seq (.seq (oR [oD .eql 10 6 3,oM 9 10]) (.cond (.tmp 9) .skip (oR [oD .eql 11 6 18,oM 9 11]))) (.cond (.tmp 9) (.seq (oR [oF 4 12 3,oL 13 12,oC .geq 14 13 0,oM 15 14,oG 15 (oF 4 16 3),oG 15 (oL 17 16),oG 15 (oF 1 18 2),oG 15 (oL 19 18),oG 15 (oQ 20 19),oG 15 (oB .lss 21 17 20),oP 22 15 21,oM 4 22]) .ret) (.seq (oR [oD .eql 24 6 14,oM 23 24]) (.cond (.tmp 23) (.seq (oR [oF 4 25 3,oL 26 25,oC .geq 27 26 0,oM 28 27,oG 28 (oF 4 29 3),oG 28 (oL 30 29),oG 28 (oC .lss 31 30 8),oP 32 28 31,oM 4 32]) .ret) .skip)))))))) (.seq (oR [oF 4 33 3,oL 34 33,oC .eql 35 34 0,oM 4 35]) .ret)))
theorem tab135:tb.code 135=some ⟨36,[(4,none)],body135⟩:=by kernel_rfl
theorem rmayN_ok (h:AHeap) (vt vf:Value) (T:List LType) (F:List LFn) (x:LIns) (cs:List Value) (st:SlT h vt T) (sf:SlF h vf F) (hF:F.length≤1000) (hcs:RIns h cs x):
  WC Tryz.prog tb 135 [.agg #[vt,vf],.agg cs.toArray] h fun r h'=>(∃ b,r= .bool b∧(b=true↔NumP x F.length))∧Ext h h':=by
 obtain⟨va,vfr,rfl,sa,sfr,hla,hlf,ho,ho2⟩:=hcs;obtain⟨aa,an,ak,rfl⟩:=zv sa;obtain⟨fa,fn,fk,rfl⟩:=zv sfr;obtain⟨ta,tn,tk,rfl⟩:=zD st;obtain⟨ga,gn,gk,rfl⟩:=zD sf;refine WC.of (zE 135) tab135 ?_;simp only[zK,Nat.zero_add,Nat.reduceAdd];refine go ?_;refine WO.bx ?_;intro p h1 e1 o1;refine go ?_;refine WO.bx ?_;intro q h2 e2 o2;have o1:=o1.ext e2;have e12:=e1.trans e2;have sf2:=SlF.ext sf e12;unfold NumP;by_cases k1:x.op=1
 ·rw[if_pos k1];refine go ?_;refine rt ?_;exact⟨⟨_,rfl,by simp⟩,e12⟩
 rw[if_neg k1];by_cases k3:x.op=3
 ·rw[if_pos (.inl k3)];skip;refine go ?_;repeat' (first|(refine WX.br (fun hb=> ?_) (fun hb=> ?_)<;>(try simp only[DB]at hb)<;>refine go ?_)|(refine WO.sp (fun hb=> ?_) (fun hb=> ?_)<;>(try simp only[DB]at hb)<;>refine go ?_))
  all_goals (refine rt ?_;exact⟨⟨_,rfl,by simp only[DBI];omega⟩,e12⟩)
 by_cases k18:x.op=18
 ·rw[if_pos (.inr k18)];skip;refine go ?_;repeat' (first|(refine WX.br (fun hb=> ?_) (fun hb=> ?_)<;>(try simp only[DB]at hb)<;>refine go ?_)|(refine WO.sp (fun hb=> ?_) (fun hb=> ?_)<;>(try simp only[DB]at hb)<;>refine go ?_))
  all_goals (refine rt ?_;exact⟨⟨_,rfl,by simp only[DBI];omega⟩,e12⟩)
 rw[if_neg (by omega)];by_cases k14:x.op=14
 ·rw[if_pos k14];skip;refine go ?_;repeat' (first|(refine WX.br (fun hb=> ?_) (fun hb=> ?_)<;>(try simp only[DB]at hb)<;>refine go ?_)|(refine WO.sp (fun hb=> ?_) (fun hb=> ?_)<;>(try simp only[DB]at hb)<;>refine go ?_))
  all_goals (refine rt ?_;exact⟨⟨_,rfl,by simp only[DBI];omega⟩,e12⟩)
 rw[if_neg k14];refine go ?_;refine rt ?_;exact⟨⟨_,rfl,by simp only[DBI]⟩,e12⟩
def body130:ACode:=(.seq (oR [oX 4 0,oX 5 1,oZ 8]) (.seq (.seq (oR [oF 0 9 5,oL 10 9,oD .lss 11 10 1,oM 12 11,oH 12 (oF 0 13 5),oH 12 (oL 14 13),oH 12 (oD .gtr 15 14 22),oO 16 12 15,oM 17 16,oH 17 (oA 7 18 5),oH 17 (o1 19 37 18),oH 17 (oM 20 2),oH 17 (o2 21 134 19 20),oH 17 (oW 22 21),oO 23 17 22,oM 24 23,oH 24 (oA 2 25 4),oH 24 (oA 7 26 5),oH 24 (o2 27 135 25 26),oH 24 (oW 28 27),oO 29 24 28]) (.cond (.tmp 29) (.seq (oR [oZ 8]) .ret) .skip)) (.seq (.seq (oR [oF 0 30 5,oL 31 30,o1 32 59 31,oW 33 32,oM 34 33,oG 34 (oF 2 35 5),oG 34 (oL 36 35),oG 34 (oC .neq 37 36 0),oP 38 34 37,oM 39 38,oH 39 (oF 0 40 5),oH 39 (oL 41 40),oH 39 (o1 42 60 41),oH 39 (oW 43 42),oH 39 (oM 44 43),oG 44 (oF 3 45 5),oG 44 (oL 46 45),oG 44 (oC .neq 47 46 0),oH 39 (oP 48 44 47),oO 49 39 48,oM 50 49,oH 50 (oF 0 51 5),oH 50 (oL 52 51),oH 50 (o1 53 61 52),oH 50 (oW 54 53),oH 50 (oM 55 54),oG 55 (oF 5 56 5),oG 55 (oL 57 56),oG 55 (oQ 58 57),oG 55 (oC .gtr 59 58 0),oH 50 (oP 60 55 59),oO 61 50 60]) (.cond (.tmp 61) (.seq (oR [oZ 8]) .ret) .skip)) (.seq (.seq (oR [oF 0 62 5,oL 63 62,o1 64 136 63,oM 65 64,oG 65 (oF 1 66 5),oG 65 (oL 67 66),oG 65 (oC .lss 68 67 0),oG 65 (oM 69 68),oH 69 (oF 1 70 5),oH 69 (oL 71 70),oH 69 (oF 0 72 4),oH 69 (oL 73 72),oH 69 (oQ 74 73),oH 69 (oB .geq 75 71 74),oG 65 (oO 76 69 75),oP 77 65 76,oM 78 77,oH 78 (oF 0 79 5),oH 78 (oL 80 79),oH 78 (o1 81 136 80),oH 78 (oW 82 81),oH 78 (oM 83 82),oG 83 (oF 1 84 5),oG 83 (oL 85 84),oG 83 (oC .neq 86 85 0),oH 78 (oP 87 83 86),oO 88 78 87]) (.cond (.tmp 88) (.seq (oR [oZ 8]) .ret) .skip)) (.seq (.seq (oR [oF 0 89 5,oL 90 89,oD .eql 91 90 22]) (.cond (.tmp 91) (.seq (oR [oF 6 92 5,oL 93 92,oQ 94 93,oF 5 95 5,oL 96 95,oQ 97 96,oB .eql 98 94 97,oM 99 98,oG 99 (oF 6 100 5),oG 99 (oL 101 100),oG 99 (oQ 102 101),oG 99 (oC .geq 103 102 1),oP 104 99 103,oM 105 104,oG 105 (oF 6 106 5),oG 105 (oL 107 106),oG 105 (oQ 108 107),oG 105 (oC .leq 109 108 16),oP 110 105 109,oM 111 110,oG 111 (oF 6 112 5),oG 111 (oL 113 112),oG 111 (oM 114 3),oG 111 (o2 115 134 113 114),oP 116 111 115,oM 8 116]) .ret) .skip)) (.seq (oR [oF 6 117 5,oL 118 117,oQ 119 118,oC .eql 120 119 0,oM 121 120,oG 121 (oF 5 122 5),oG 121 (oL 123 122),oG 121 (oQ 124 123),oG 121 (oC .leq 125 124 4),oP 126 121 125,oM 8 126]) .ret))))))
theorem tab130:tb.code 130=some ⟨127,[(8,none)],body130⟩:=by kernel_rfl
theorem zG0 (h:AHeap) (vt vf:Value) (T:List LType) (F:List LFn) (x:LIns) (cs:List Value) (regs many:Int) (st:SlT h vt T) (sf:SlF h vf F) (hT:T.length≤1000) (hF:F.length≤1000) (hcs:RIns h cs x) (hx:x.args.length≤20∧x.frm.length≤20):
  WC Tryz.prog tb 130 [.agg #[vt,vf],.agg cs.toArray,I regs,I many] h fun r h'=>r= .bool (zAW x ⟨T.length,F.length,regs,many⟩)∧Ext h h':=by
 obtain⟨va,vfr,rfl,sa,sfr,hla,hlf,ho,ho2⟩:=id hcs;obtain⟨aa,an,ak,rfl⟩:=zv sa;obtain⟨fa,fn,fk,rfl⟩:=zv sfr;obtain⟨ta,tn,tk,rfl⟩:=zD st;obtain⟨ga,gn,gk,rfl⟩:=zD sf;refine WC.mono (Q:=fun r h'=>(∃ b,r= .bool b∧(b=true↔MayI x ⟨T.length,F.length,regs,many⟩))∧Ext h h') ?_ ?_;case refine_2=>
  rintro _ _ ⟨⟨b,rfl,hb⟩,e⟩;exact⟨congrArg _ (by rw[Bool.eq_iff_iff,hb,zDy ho]),e⟩
 have hu:(yu x).length≤22:=by unfold yu;split<;>split<;>split<;>simp<;>omega
 refine WC.of (zE 130) tab130 ?_;simp only[zK,Nat.zero_add,Nat.reduceAdd];refine go ?_;refine WO.bx ?_;intro p h1 e1 o1;refine go ?_;refine WO.bx ?_;intro q h2 e2 o2;have o1:=o1.ext e2;have e12:=e1.trans e2;by_cases k1:1≤x.op;case neg=>
  refine go ?_;refine rt ?_;exact⟨⟨_,rfl,by simp only[DBI];exact fun m=>k1 m.op.1⟩,e12⟩
 by_cases k22:x.op≤22;case neg=>
  refine go ?_;refine rt ?_;exact⟨⟨_,rfl,by simp only[DBI];exact fun m=>k22 m.op.2⟩,e12⟩
 refine go ?_;refine WO.con (zF5 h2 x _ (hcs.ext e12) hx.1) ?_;rintro u h3 ⟨ou,e3⟩;have o1:=o1.ext e3;have o2:=o2.ext e3;have e13:=e12.trans e3;refine go ?_;refine WO.con (YO h3 u _ regs ou.sl (by omega)) ?_;rintro _ _ ⟨⟨b1,rfl,hb1⟩,rfl⟩;cases b1 with
 |false=>
  refine go ?_;refine rt ?_;exact⟨⟨_,rfl,by simp only[DBI];exact fun m=>absurd (hb1.2 m.uses) Bool.noConfusion⟩,e13⟩
 |true=>
 have U:=Hid.mk (hb1.1 rfl);clear hb1;refine go ?_;refine WO.con (rmayN_ok h3 _ _ T F x _ (st.ext e13) (SlF.ext sf e13) hF (hcs.ext e13)) ?_;rintro _ h4 ⟨⟨b2,rfl,hb2⟩,e4⟩;have o1:=o1.ext e4;have o2:=o2.ext e4;have e14:=e13.trans e4;have sa4:=sa.ext e14;have sfr4:=sfr.ext e14;have st4:=st.ext e14;cases b2 with
 |false=>
  refine go ?_;refine rt ?_;exact⟨⟨_,rfl,by simp only[DBI];exact fun m=>absurd (hb2.2 m.num) Bool.noConfusion⟩,e14⟩
 |true=>
 have V:=Hid.mk (hb2.1 rfl);clear hb2 e1 e2 e12 e3 e13 e4 ou;refine go ?_;refine WO.con (zHp h4 x.op ho) ?_;rintro _ _ ⟨rfl,rfl⟩;refine WO.mid 29 (fun t' h'=>h4=h'∧∃ b,zC t' 61= .bool b∧(b=false↔((zS x.op).1=true∨x.a=0)∧((zS x.op).2.1=true∨x.b=0)∧((zS x.op).2.2.2.1=true∨(x.args.length:Int)≤0))) ?_ ?_<;>simp only[List.take_succ_cons,List.take_zero,List.drop_succ_cons,List.drop_zero]
 ·refine WO.mid 6 (fun t' h'=>h4=h'∧∃ b,zC t' 38= .bool b∧(b=false↔((zS x.op).1=true∨x.a=0))) ?_ ?_<;>simp only[List.take_succ_cons,List.take_zero,List.drop_succ_cons,List.drop_zero]
  ·cases hA:(zS x.op).1 with
   |true=>
    refine go ?_;exact⟨rfl,rfl,rfl,_,sl_,by simp⟩
   |false=>
    refine go ?_;exact⟨rfl,rfl,rfl,_,sl_,by simp⟩
  rintro t5 _ hs5 ⟨rfl,b5,q38,hb5⟩;refine WO.mid 11 (fun t' h'=>h4=h'∧∃ b,zC t' 49= .bool b∧(b=false↔((zS x.op).1=true∨x.a=0)∧((zS x.op).2.1=true∨x.b=0))) ?_ ?_<;>simp only[List.take_succ_cons,List.take_zero,List.drop_succ_cons,List.drop_zero]
  ·cases b5 with
   |true=>
    refine go ?_;exact⟨rfl,rfl,rfl,_,sl_,by rw[←hb5];simp⟩
   |false=>
    refine go ?_;refine WO.con (two_ok h4 x.op ho) ?_;rintro _ _ ⟨rfl,rfl⟩;have h5:=hb5.1 rfl;cases hB:(zS x.op).2.1 with
    |true=>
     refine go ?_;exact⟨rfl,rfl,rfl,_,sl_,by simp[h5]⟩
    |false=>
     refine go ?_;exact⟨rfl,rfl,rfl,_,sl_,by simp[h5]⟩
  rintro t6 _ hs6 ⟨rfl,b6,q49,hb6⟩;rw[←and_assoc,←hb6];cases b6 with
  |true=>
   refine go ?_;exact⟨rfl,rfl,rfl,_,sl_,by simp⟩
  |false=>
   refine go ?_;refine WO.con (zH1 h4 x.op ho) ?_;rintro _ _ ⟨rfl,rfl⟩;cases hG:(zS x.op).2.2.2.1 with
   |true=>
    refine go ?_;exact⟨rfl,rfl,rfl,_,sl_,by simp⟩
   |false=>
    refine go ?_;exact⟨rfl,rfl,rfl,_,sl_,by simp only[DBI,true_and,Bool.false_eq_true,false_or];omega⟩
 rintro t5 _ hs5 ⟨rfl,b5,q61,hb5⟩;cases b5 with
 |true=>
  refine go ?_;refine rt ?_;refine⟨⟨_,rfl,?_⟩,e14⟩;simp only[DBI];exact fun m=>absurd (hb5.2 ⟨m.a,m.b,m.g⟩) Bool.noConfusion
 |false=>
 have W:=Hid.mk (hb5.1 rfl);clear hb5;refine go ?_;refine WO.con (zBS h4 x.op ho) ?_;rintro _ _ ⟨rfl,rfl⟩;refine WO.mid 24 (fun t' h'=>h4=h'∧∃ b,zC t' 88= .bool b∧(b=false↔if (zS x.op).2.2.2.2.2 then 0≤x.ty∧x.ty<(T.length:Int) else x.ty=0)) ?_ ?_<;>simp only[List.take_succ_cons,List.take_zero,List.drop_succ_cons,List.drop_zero]
 ·cases hS:(zS x.op).2.2.2.2.2 with
  |true=>
   simp only[if_true];by_cases c1:x.ty<0
   ·refine go ?_;exact⟨rfl,rfl,rfl,_,sl_,by simp only[DBI];omega⟩
   by_cases c2:(T.length:Int)≤x.ty
   ·refine go ?_;exact⟨rfl,rfl,rfl,_,sl_,by simp only[DBI];omega⟩
   ·refine go ?_;refine WO.con (zBS h4 x.op ho) ?_;rintro _ _ ⟨rfl,rfl⟩;refine go ?_;exact⟨rfl,rfl,rfl,_,sl_,by simp only[DBI];omega⟩
  |false=>
   simp only[Bool.false_eq_true,if_false];refine go ?_;refine WO.con (zBS h4 x.op ho) ?_;rintro _ _ ⟨rfl,rfl⟩;refine go ?_;exact⟨rfl,rfl,rfl,_,sl_,by simp⟩
 rintro t6 _ hs6 ⟨rfl,b6,q88,hb6⟩;cases b6 with
 |true=>
  refine go ?_;refine rt ?_;refine⟨⟨_,rfl,?_⟩,e14⟩;simp only[DBI];exact fun m=>absurd (hb6.2 m.ans) Bool.noConfusion
 |false=>
 have X:=Hid.mk (hb6.1 rfl);clear hb6;have hf:=(Yk ho).2.2.2.2.1;have mk:∀ q:Bool,(q=true↔if (zS x.op).2.2.2.2.1 then (x.frm.length:Int)=x.args.length∧1≤(x.frm.length:Int)∧(x.frm.length:Int)≤16∧Btw x.frm many else (x.frm.length:Int)=0∧(x.args.length:Int)≤4)→(q=true↔MayI x ⟨T.length,F.length,regs,many⟩):=fun q hq=>by
  rw[hq];exact⟨fun h=>⟨⟨k1,k22⟩,U.out,V.out,W.out.1,W.out.2.1,W.out.2.2,X.out,h⟩,fun m=>m.frm⟩
 replace mk:=Hid.mk mk;by_cases k:x.op=22
 ·rw[hf.2 k]at mk;simp only[if_true]at mk;by_cases c1:(x.frm.length:Int)=x.args.length;case neg=>
   refine go ?_;refine rt ?_;exact⟨⟨_,rfl,mk.out _ (by simp only[DBI];exact fun h=>c1 h.1)⟩,e14⟩
  by_cases c2:1≤(x.frm.length:Int);case neg=>
   refine go ?_;refine rt ?_;exact⟨⟨_,rfl,mk.out _ (by simp only[DBI];exact fun h=>c2 h.2.1)⟩,e14⟩
  by_cases c3:(x.frm.length:Int)≤16;case neg=>
   refine go ?_;refine rt ?_;exact⟨⟨_,rfl,mk.out _ (by simp only[DBI];exact fun h=>c3 h.2.2.1)⟩,e14⟩
  refine go ?_;refine WO.con (YO h4 _ x.frm many sfr4 (by omega)) ?_;rintro _ _ ⟨⟨b,rfl,hb⟩,rfl⟩;refine go ?_;refine rt ?_;exact⟨⟨_,rfl,mk.out _ (by rw[hb];exact⟨fun h=>⟨c1,c2,c3,h⟩,fun h=>h.2.2.2⟩)⟩,e14⟩
 ·have hf0:(zS x.op).2.2.2.2.1=false:=by cases hh:(zS x.op).2.2.2.2.1 with
   |false=>rfl
   |true=>exact absurd (hf.1 hh) k
  rw[hf0]at mk;simp only[Bool.false_eq_true,if_false]at mk;by_cases c1:(x.frm.length:Int)=0;case neg=>
   refine go ?_;refine rt ?_;exact⟨⟨_,rfl,mk.out _ (by simp only[DBI];exact fun h=>c1 h.1)⟩,e14⟩
  refine go ?_;refine rt ?_;exact⟨⟨_,rfl,mk.out _ (by simp only[DBI];omega)⟩,e14⟩
def body131:ACode:=(.seq (oR [oX 3 0,oZ 6]) (.seq (.seq (oR [oF 0 7 3,oL 8 7]) (.block 0 (.seq (oR [oD .eql 10 8 1,oM 9 10]) (.cond (.tmp 9) (.seq (oR [oF 1 11 3,oL 12 11,oC .eql 13 12 0,oM 14 13,oG 14 (oF 3 15 3),oG 14 (oL 16 15),oG 14 (oC .eql 17 16 0),oP 18 14 17,oM 19 18,oG 19 (oF 2 20 3),oG 19 (oL 21 20),⟨some 22,some (19,true),(.buildSlice 1 1 [(.int .i64 0)] [(0,1,(.tmp 21))])⟩,oG 19 (oM 23 2),oG 19 (o2 24 134 22 23),oP 25 19 24,oM 6 25]) .ret) (.seq (oR [oD .eql 27 8 2,oM 26 27]) (.cond (.tmp 26) (.seq (oR [oF 1 28 3,oL 29 28,⟨some 30,none,(.buildSlice 1 1 [(.int .i64 0)] [(0,1,(.tmp 29))])⟩,oM 31 1,o2 32 134 30 31,oM 33 32,oG 33 (oF 2 34 3),oG 33 (oL 35 34),oG 33 (oF 3 36 3),oG 33 (oL 37 36),⟨some 38,some (33,true),(.buildSlice 2 1 [(.int .i64 0)] [(0,1,(.tmp 35)),(1,1,(.tmp 37))])⟩,oG 33 (oM 39 2),oG 33 (o2 40 134 38 39),oP 41 33 40,oM 6 41]) .ret) (.seq (oR [oD .eql 43 8 3,oM 42 43]) (.cond (.tmp 42) (.seq (oR [oF 2 44 3,oL 45 44,oC .eql 46 45 0,oM 47 46,oG 47 (oF 3 48 3),oG 47 (oL 49 48),oG 47 (oC .eql 50 49 0),oP 51 47 50,oM 52 51,oG 52 (oF 1 53 3),oG 52 (oL 54 53),⟨some 55,some (52,true),(.buildSlice 1 1 [(.int .i64 0)] [(0,1,(.tmp 54))])⟩,oG 52 (oM 56 1),oG 52 (o2 57 134 55 56),oP 58 52 57,oM 6 58]) .ret) .skip)))))))) (.seq (oR [oZ 6]) .ret)))
theorem tab131:tb.code 131=some ⟨59,[(6,none)],body131⟩:=by kernel_rfl
theorem zGx (h:AHeap) (x:LEnd) (T F regs many:Int):
  WC Tryz.prog tb 131 [.agg #[.int .u8 x.kind,I x.a,I x.to,I x.els],I regs,I many] h fun r h'=>r= .bool (zAX x ⟨T,F,regs,many⟩)∧Ext h h':=by
 refine WC.mono (Q:=fun r h'=>(∃ b,r= .bool b∧(b=true↔(x.kind=1∧x.a=0∧x.els=0∧Btw [x.to] many)∨(x.kind=2∧Btw [x.a] regs∧Btw [x.to,x.els] many)∨(x.kind=3∧x.to=0∧x.els=0∧Btw [x.a] regs)))∧Ext h h') ?_ ?_;case refine_2=>
  rintro _ _ ⟨⟨b,rfl,hb⟩,e⟩;exact⟨congrArg _ (by rw[Bool.eq_iff_iff,hb,zGY]),e⟩
 refine WC.of (zE 131) tab131 ?_;simp only[zK,Nat.zero_add,Nat.reduceAdd];refine go ?_;refine WO.bx ?_;intro p h1 e1 o1;by_cases k1:x.kind=1
 ·by_cases c1:x.a=0;case neg=>
   refine go ?_;refine rt ?_;exact⟨⟨_,rfl,by simp only[DBI];omega⟩,e1⟩
  by_cases c2:x.els=0;case neg=>
   refine go ?_;refine rt ?_;exact⟨⟨_,rfl,by simp only[DBI];omega⟩,e1⟩
  refine go ?_;refine WO.bl [x.to] ?_;intro v h2 e2 o2;refine go ?_;refine WO.con (YO h2 v _ many o2.sl (by simp)) ?_;rintro _ _ ⟨⟨b,rfl,hb⟩,rfl⟩;refine go ?_;refine rt ?_;refine⟨⟨_,rfl,?_⟩,e1.trans e2⟩;rw[hb];simp[k1,c1,c2]
 by_cases k2:x.kind=2
 ·refine go ?_;refine WO.bl [x.a] ?_;intro v h2 e2 o2;have o1:=o1.ext e2;refine go ?_;refine WO.con (YO h2 v _ regs o2.sl (by simp)) ?_;rintro _ _ ⟨⟨b,rfl,hb⟩,rfl⟩;cases b with
  |false=>
   have hn:¬Btw [x.a] regs:=fun hh=>absurd (hb.2 hh) Bool.noConfusion;refine go ?_;refine rt ?_;refine⟨⟨_,rfl,?_⟩,e1.trans e2⟩;simp[k2,hn]
  |true=>
   have hn:=hb.1 rfl;refine go ?_;refine WO.bl [x.to,x.els] ?_;intro v h3 e3 o3;refine go ?_;refine WO.con (YO h3 v _ many o3.sl (by simp)) ?_;rintro _ _ ⟨⟨b,rfl,hb⟩,rfl⟩;refine go ?_;refine rt ?_;refine⟨⟨_,rfl,?_⟩,(e1.trans e2).trans e3⟩;rw[hb];simp[k2,hn]
 by_cases k3:x.kind=3
 ·by_cases c1:x.to=0;case neg=>
   refine go ?_;refine rt ?_;exact⟨⟨_,rfl,by simp only[DBI];omega⟩,e1⟩
  by_cases c2:x.els=0;case neg=>
   refine go ?_;refine rt ?_;exact⟨⟨_,rfl,by simp only[DBI];omega⟩,e1⟩
  refine go ?_;refine WO.bl [x.a] ?_;intro v h2 e2 o2;refine go ?_;refine WO.con (YO h2 v _ regs o2.sl (by simp)) ?_;rintro _ _ ⟨⟨b,rfl,hb⟩,rfl⟩;refine go ?_;refine rt ?_;refine⟨⟨_,rfl,?_⟩,e1.trans e2⟩;rw[hb];simp[k3,c1,c2]
 ·refine go ?_;refine rt ?_;exact⟨⟨_,rfl,by simp only[DBI];omega⟩,e1⟩
end
end Go.Proofs.YtemggiegiejopaaGreatDoor
