/- What functions of the program come to in the abstract machine, and plain laws about it; no statement of the seat is proved in this text. -/
import Derived.Test.YteekipjpghikkaaGreatDoorJl
import Derived.Test.YteekipjpghikkaaGreatDoorJc
import Derived.Test.YteekipjpghikkaaGreatDoorJe
import Derived.Test.YteekipjpghikkaaGreatDoorAmV
import Derived.Test.YteekipjpghikkaaGreatDoorJh
import Derived.Test.YteekipjpghikkaaGreatDoorJa
import Derived.Test.YteekipjpghikkaaGreatDoorJg
set_option linter.unusedVariables false
set_option linter.unusedSimpArgs false
set_option maxHeartbeats 4000000
namespace Go.Proofs.YteekipjpghikkaaGreatDoor
noncomputable section
open Go.Am
set_option maxRecDepth 100000
def zPV:ACode:=(oV (oR [oX 1 0,oK 2 (.slice none 0 0)]) (oV (oV (oR [oF 0 3 1,oL 4 3,oD .eql 5 4 1,oM 6 5,oH 6 (oF 0 7 1),oH 6 (oL 8 7),oH 6 (oD .eql 9 8 2),oH 6 (oM 10 9),oG 10 (oF 2 11 1),oG 10 (oL 12 11),oG 10 (oF 3 13 1),oG 10 (oL 14 13),oG 10 (oB .eql 15 12 14),oH 6 (oP 16 10 15),oO 17 6 16]) (oJ 17 (oV (oR [oF 2 18 1,oL 19 18,⟨some 20,none,(.buildSlice 1 1 [(.int .i64 0)] [(0,1,(.tmp 19))])⟩,oM 2 20]) .ret) .skip)) (oV (oV (oR [oF 0 21 1,oL 22 21,oD .eql 23 22 2]) (oJ 23 (oV (oR [oF 2 24 1,oL 25 24,oF 3 26 1,oL 27 26,⟨some 28,none,(.buildSlice 2 1 [(.int .i64 0)] [(0,1,(.tmp 25)),(1,1,(.tmp 27))])⟩,oM 2 28]) .ret) .skip)) (oV (oR [oK 2 (.slice none 0 0)]) .ret))))
theorem zM0 (h:AHeap) (x:LEnd):
  WC Tryz.prog tb 128 [.agg #[.int .u8 x.kind,I x.a,I x.to,I x.els]] h fun r h'=>OwnN h h' r (yy x)∧Ext h h':=by
 refine en 29 [(2,none)] zPV ?_;refine WO.bx ?_;intro p h1 e1 o1;unfold yy;by_cases k1:x.kind=1
 ·rw[if_pos k1];refine go ?_;refine WO.bl [x.to] ?_;intro v h2 e2 o2;refine gr ?_;exact⟨.inr (o2.since e1),e1.trans e2⟩
 rw[if_neg k1];by_cases k2:x.kind=2
 ·rw[if_pos k2];by_cases k3:x.to=x.els
  ·rw[if_pos k3];refine go ?_;refine WO.bl [x.to] ?_;intro v h2 e2 o2;refine gr ?_;exact⟨.inr (o2.since e1),e1.trans e2⟩
  ·rw[if_neg k3];refine go ?_;refine WO.bl [x.to,x.els] ?_;intro v h2 e2 o2;refine gr ?_;exact⟨.inr (o2.since e1),e1.trans e2⟩
 ·rw[if_neg k2];refine gr ?_;exact⟨.inl ⟨rfl,rfl⟩,e1⟩
def zKP:ACode:=(oV (oV (oR [oM 6 5,oM 7 0,oQ 8 7,oB .lss 9 6 8]) (oT 9 0)) (oV (o5 1 (oV (oR [oM 12 0,oM 13 5,oI 1 14 12 13,oL 15 14,oM 16 1,oB .eql 17 15 16]) (oJ 17 (oV (oR [oK 4 (.bool true)]) .ret) .skip))) (oR [oM 10 5,oC .add 11 10 1,oM 5 11])))
def zOt:ACode:=(oV (oR [oZ 4]) (oV (oV (oR [oN 5 0]) (o5 0 (.loop zKP))) (oV (oR [oZ 4]) .ret)))
theorem zQf (h:AHeap) (v:Value) (l:List Int) (n:Int) (s:SlI h v l) (hl:(l.length:Int)≤1000000):
  WC Tryz.prog tb 127 [v,I n] h fun r h'=>r= .bool (decide (n∈l))∧h=h':=by
 refine en 18 [(4,none)] zOt ?_;refine WX.loopA [6,7,8,9,12,13,14,15,16,17,4,10,11,5] (by kernel_rfl) (fun i=>l.length - i) (fun i t h1=>h=h1∧zB t 5=I i∧i≤l.length∧Hid (∀ j,j<i→l.getD j 0≠n)) 0 ?_ ?_
 ·exact⟨rfl,sl_,Nat.zero_le _,⟨fun j hj=>absurd hj (Nat.not_lt_zero _)⟩⟩
 rintro i t _ hsame ⟨rfl,s5,hi,hm⟩;refine go ?_;refine WX.br (fun hb=> ?_) (fun hb=> ?_)<;>simp only[DB]at hb
 ·have hi':i<l.length:=by omega
  by_cases he:l.getD i 0=n
  ·have hin:n∈l:=by rw[←he];exact zS hi'
   refine gr ?_;exact⟨by rw[decide_eq_true hin];rfl,rfl⟩
  ·refine go ?_;refine zA (i+1) (by omega) ⟨rfl,sln,by omega,⟨fun j hj=> ?_⟩⟩;by_cases e:j=i
   ·subst e;exact he
   ·exact hm.out j (by omega)
 ·have hno:n∉l:=fun hin=>by
   obtain⟨j,hj,e⟩:=ZL hin;exact hm.out j (by omega) e
  refine gr ?_;exact⟨by rw[decide_eq_false hno];rfl,rfl⟩
theorem zHr {h0 h h':AHeap} {v:Value} {bs:List Bool} (o:OwnBo h0 h v bs) {q:Nat} (hq:∃ n k,v= .slice (some ⟨q,0,none⟩) n k):h0.n≤q∧q<h.n:=by
 obtain⟨g,a,b,rfl,_⟩:=o;obtain⟨n,k,e⟩:=hq;cases e;exact⟨a,b⟩
theorem zCg {hA h h':AHeap} {v w:Value} {l:List Int} (o:OwnN hA h w l) (keep:∀ k,k<h.n→(∀ n k',v≠ .slice (some ⟨k,0,none⟩) n k')→h'.get k=h.get k) (hn:h.n≤h'.n) (hv:∀ q n k,v= .slice (some ⟨q,0,none⟩) n k→q<hA.n):OwnN hA h' w l:=by
 rcases o with o|⟨g,g1,g2,g3,g4⟩
 ·exact .inl o
 ·exact .inr ⟨g,g1,by omega,g3,(keep g g2 (fun n k' e=>by have:=hv g n k' e;omega)).trans g4⟩
def zJo:ACode:=(oV (oV (oR [oM 16 8,oM 17 1,oQ 18 17,oB .lss 19 16 18]) (oT 19 0)) (oV (o5 1 (o6 [oM 22 7,oM 23 1,oM 24 8,oI 1 25 23 24,oL 26 25,oM 27 1,oM 28 8,oI 1 29 27 28,oL 30 29,oM 31 2,oB .neq 32 30 31,oI 1 33 22 26,oS 1 33 32])) (oR [oM 20 8,oC .add 21 20 1,oM 8 21])))
def zLE:ACode:=(oV (oV (oR [oM 52 12,oM 53 11,oQ 54 53,oB .lss 55 52 54,oM 56 55,oG 56 (oM 57 7),oG 56 (oM 58 10),oG 56 (oI 1 59 57 58),oG 56 (oL 60 59),oP 61 56 60]) (oT 61 6)) (oV (o5 7 (o6 [oM 64 7,oM 65 11,oM 66 12,oI 1 67 65 66,oL 68 67,oM 69 7,oM 70 11,oM 71 12,oI 1 72 70 71,oL 73 72,oI 1 74 69 73,oL 75 74,oM 76 75,oH 76 (oM 77 11),oH 76 (oM 78 12),oH 76 (oI 1 79 77 78),oH 76 (oL 80 79),oH 76 (oM 81 2),oH 76 (oB .neq 82 80 81),oO 83 76 82,oI 1 84 64 68,oS 1 84 83])) (oR [oM 62 12,oC .add 63 62 1,oM 12 63])))
def zKz:ACode:=(oV (oV (oR [oM 40 10,oM 41 0,oQ 42 41,oB .lss 43 40 42]) (oT 43 4)) (oV (o5 5 (oV (oR [oM 46 0,oM 47 10,oI 5 48 46 47,oF 1 49 48,oA 4 50 49,o1 51 128 50,oM 11 51]) (oV (oR [oN 12 0]) (o5 6 (.loop zLE))))) (oR [oM 44 10,oC .add 45 44 1,oM 10 45])))
def zKw:ACode:=(oV (oV (oR [oM 34 9,oM 35 0,oQ 36 35,oB .lss 37 34 36]) (oT 37 2)) (oV (o5 3 (oV (oR [oN 10 0]) (o5 4 (.loop zKz)))) (oR [oM 38 9,oC .add 39 38 1,oM 9 39])))
def zPP:ACode:=(oV (oR [oK 6 (.slice none 0 0)]) (oV (oR [oM 13 0,oQ 14 13,⟨some 15,none,(.mkSlice 1 [(.bool false)] (.tmp 14) (.tmp 14))⟩,oM 7 15]) (oV (oV (oR [oN 8 0]) (o5 0 (.loop zJo))) (oV (oV (oR [oN 9 0]) (o5 2 (.loop zKw))) (oV (oR [oM 85 7,oM 6 85]) .ret)))))
theorem zFB (h:AHeap) (v w:Value) (L:List LBlk) (first:List Int) (but:Int) (hm:h.mark≤h.n) (sb:SlB h v L) (sw:SlI h w first) (hL:L.length≤16) (hin:∀ c,0≤c∧c<(L.length:Int)→∀ d∈nxL L c,0≤d∧d<(L.length:Int)) (hf:∀ a∈first,0≤a∧a<(L.length:Int)) (hfl:first.length≤1000):
  WC Tryz.prog tb 120 [v,w,I but] h fun r h'=>(∃ bs:List Bool,OwnBo h h' r bs∧bs.length=L.length∧∀ j:Int,0≤j∧j<(L.length:Int)→(bO bs j=true↔Rch (nxL L) first but j))∧Ext h h':=by
 replace hin:=Hid.mk hin;replace hf:=Hid.mk hf;refine en 86 [(6,none)] zPP ?_;refine WO.mkBo (n:=L.length) (by omega) ?_;intro r h1 e1 o1;have hrl:∀ j:Int,bO (List.replicate L.length false) j=false:=fun j=>by
  unfold bO;rw[List.getD_eq_getElem?_getD,List.getElem?_replicate];split<;>rfl
 refine go ?_;refine WX.loopA [16,17,18,19,22,23,24,25,26,27,28,29,30,31,32,33,20,21,8] (by kernel_rfl) (fun i=>first.length - i) (fun i t h2=>Ext h h2∧zB t 8=I i∧i≤first.length∧∃ bs:List Bool,OwnBo h h2 r bs∧bs.length=L.length∧Hid ((∀ j:Int,0≤j→bO bs j=true→Rch (nxL L) first but j)∧∀ k,k<i→first.getD k 0≠but→bO bs (first.getD k 0)=true)) 0 ?_ ?_
 ·exact⟨e1,sl_,Nat.zero_le _,_,o1,by simp,⟨⟨fun j hj hh=>(by rw[hrl]at hh;cases hh),fun k hk=>absurd hk (Nat.not_lt_zero _)⟩⟩⟩
 clear o1 hrl;rintro i t h2 hsame ⟨e2,s8,hi,bs,o2,hbl,hP⟩;have sw2:=sw.ext e2;refine go ?_;refine WX.br (fun hb=> ?_) (fun hb=> ?_)<;>simp only[DB]at hb
 ·have hi':i<first.length:=by omega
  have hfi:=hf.out _ (zS hi');have hbd:(first.getD i 0).toNat<bs.length:=by omega
  refine go ?_;refine WX.regionU2 0 rfl rfl ?_;have swX:SlI (inC (zC 0 h2)) w first:=sw2
  have oX:OwnBo h (zC 0 h2) r bs:=o2;have sX:zPf (inC (zC 0 h2)) r bs:=o2.sl;refine goU ?_;refine WU2.stBo (hS:=h2) (i:=(first.getD i 0).toNat) (b:= !decide (first.getD i 0=but)) oX e2 (by rw[e2.mark];exact hm) rfl hbd ?_;intro h3 e3 o3 _ _;refine go ?_;have hset:∀ j:Int,0≤j→bO (bs.set (first.getD i 0).toNat (!decide (first.getD i 0=but))) j=if j=first.getD i 0 then !decide (first.getD i 0=but) else bO bs j:=fun j hj=>zMl (by omega) hj
  refine zA (i+1) (by omega) ⟨e3,sln,by omega,_,o3,by rw[List.length_set];exact hbl,⟨⟨fun j hj hh=> ?_,fun k hk hne=> ?_⟩⟩⟩
  ·rw[hset j hj]at hh;split at hh
   ·rename_i e;rw[e];exact .here (zS hi') (by simpa using hh)
   ·exact hP.out.1 j hj hh
  ·by_cases e:k=i
   ·subst e;rw[hset _ hfi.1,if_pos rfl];simpa using hne
   ·have hk':k<first.length:=by omega
    rw[hset _ (hf.out _ (zS hk')).1];split
    ·rename_i e2;rw[e2]at hne;simpa using hne
    ·exact hP.out.2 k (by omega) hne
 have hii:i=first.length:=by omega
 subst hii;have hR:Hid (Rds (nxL L) first but L.length bs 0):=⟨⟨hbl,hP.out.1,fun a ha hb=>by
  obtain⟨k,hk,rfl⟩:=ZL ha;exact hP.out.2 k hk hb,.inr (Nat.zero_le _)⟩⟩
 clear hP;refine go ?_;refine WX.loopA [34,35,36,37,10,40,41,42,43,46,47,48,49,50,51,11,12,52,53,54,55,56,57,58,59,60,61,64,65,66,67,68,69,70,71,72,73,74,75,76,77,78,79,80,81,82,83,84,62,63,12,44,45,10,38,39,9] (by kernel_rfl) (fun n=>L.length - n) (fun n t h3=>Ext h h3∧zB t 9=I n∧n≤L.length∧∃ bs:List Bool,OwnBo h h3 r bs∧Hid (Rds (nxL L) first but L.length bs n)) 0 ?_ ?_
 ·exact⟨e2,sl_,Nat.zero_le _,_,o2,hR⟩
 clear hR o2 hbl bs;rintro n t3 h3 hsame3 ⟨e3,s9,hn,bs0,o3,hR⟩;have sb3:=SlB.ext sb e3;refine go ?_;refine WX.br (fun hb=> ?_) (fun hb=> ?_)<;>simp only[DB]at hb;case refine_2=>
  have hnn:n=L.length:=by omega
  subst hnn;have hdone:=Rds.done hin.out hf.out hR.out;have hlen:=hR.out.len;refine gr ?_;exact⟨⟨bs0,o3,hlen,fun j hj=>hdone j hj⟩,e3⟩
 refine go ?_;refine WX.loopA [40,41,42,43,46,47,48,49,50,51,11,12,52,53,54,55,56,57,58,59,60,61,64,65,66,67,68,69,70,71,72,73,74,75,76,77,78,79,80,81,82,83,84,62,63,12,44,45,10] (by kernel_rfl) (fun i=>L.length - i) (fun i t h4=>Ext h h4∧zB t 10=I i∧i≤L.length∧∃ bs:List Bool,OwnBo h h4 r bs∧Hid (Swp (nxL L) first but L.length bs0 bs i)) 0 ?_ ?_
 ·exact⟨e3,sl_,Nat.zero_le _,_,o3,⟨Swp.start hR.out.len hR.out.sound⟩⟩
 clear o3;rintro i t4 h4 hsame4 ⟨e4,s10,hi,bs,o4,hS⟩;have sb4:=SlB.ext sb e4;refine go ?_;refine WX.br (fun hc=> ?_) (fun hc=> ?_)<;>simp only[DB]at hc;case refine_2=>
  have hii:i=L.length:=by omega
  subst hii;refine go ?_;exact zA (n+1) (by omega) ⟨e4,sln,by omega,_,o4,⟨Rds.next (fun a ha=>(hf.out a ha).1) hR.out hS.out⟩⟩
 have hi':i<L.length:=by omega
 obtain⟨cs,⟨vi,rfl,si,hsi⟩,pc,hs⟩:=zd sb4 hi';obtain⟨_,_,_,rfl⟩:=zF si;refine go ?_;refine WO.con (zM0 h4 (L.getD i default).fin) ?_;rintro u h5 ⟨ou,e5⟩;have hnx:yy (L.getD i default).fin=nxL L i:=by unfold nxL;rw[Int.toNat_natCast]
 rw[hnx]at ou;have hul:(nxL L i).length≤2:=zBr _;have hinI:=Hid.mk (hin.out i (by omega));have hqv:∀ q n k,r= .slice (some ⟨q,0,none⟩) n k→q<h4.n:=fun q n k e=>(zHr (h':=h4) o4 ⟨n,k,e⟩).2;have o5:=o4.ext e5;have e45:=e4.trans e5;clear pc;generalize hX:nxL L i=X at *;refine go ?_;refine WX.loopA [52,53,54,55,56,57,58,59,60,61,64,65,66,67,68,69,70,71,72,73,74,75,76,77,78,79,80,81,82,83,84,62,63,12] (by kernel_rfl) (fun k=>X.length - k) (fun k t h6=>Ext h h6∧zB t 12=I k∧k≤X.length∧OwnN h4 h6 u X∧∃ bs:List Bool,OwnBo h h6 r bs∧Hid (Swp (nxL L) first but L.length bs0 bs i∧(bs=bs0→bO bs i=true→∀ k',k'<k→X.getD k' 0≠but→bO bs (X.getD k' 0)=true))) 0 ?_ ?_
 ·exact⟨e45,sl_,Nat.zero_le _,ou,_,o5,⟨⟨hS.out,fun _ _ k hk=>absurd hk (Nat.not_lt_zero _)⟩⟩⟩
 clear o4 o5 hS ou e45;rintro k t6 h6 hsame6 ⟨e6,s12,hk,ou,bs,o6,hS⟩;have hlen:=hS.out.1.len;have su:=ou.sl;have sr:=o6.sl;by_cases hkX:(k:Int)<X.length;case neg=>
  have hkk:k=X.length:=by omega
  subst hkk;refine go ?_;refine zA (i+1) (by omega) ⟨e6,sln,by omega,_,o6,⟨hS.out.1.next fun e hb c hc hne=> ?_⟩⟩;rw[hX]at hc;obtain⟨k',hk',rfl⟩:=ZL hc;exact hS.out.2 e hb k' hk' hne
 have hk':k<X.length:=by omega
 obtain⟨cs1,hcs1,pc1,hs1⟩:=zd sr (i:=i) (by omega);have hcs1:cs1=[.bool (bO bs i)]:=by
  have:bs.getD i default=bO bs i:=by unfold bO;rw[Int.toNat_natCast];rfl
  rw[←this];exact hcs1
 subst hcs1;by_cases hbi:bO bs i=true;case neg=>
  have hbi':bO bs i=false:=by simpa using hbi
  refine go ?_;refine zA (i+1) (by omega) ⟨e6,sln,by omega,_,o6,⟨hS.out.1.next fun e hb=>absurd hb hbi⟩⟩
 have hci:=hinI.out _ (zS hk');have hcm:=zS hk';obtain⟨c,hc0⟩:∃ c,X.getD k 0=c:=⟨_,rfl⟩;rw[hc0]at hci hcm;have hcb:c.toNat<bs.length:=by omega
 rw[←hX]at hcm;obtain⟨s1,s2,s3,s4⟩:=hS.out.1.add hbi hcm (by omega) hi';have hfin:Hid (Swp (nxL L) first but L.length bs0 (bs.set c.toNat (bO bs c|| !decide (c=but))) i∧(bs.set c.toNat (bO bs c|| !decide (c=but))=bs0→bO (bs.set c.toNat (bO bs c|| !decide (c=but))) i=true→∀ k',k'<k+1→X.getD k' 0≠but→bO (bs.set c.toNat (bO bs c|| !decide (c=but))) (X.getD k' 0)=true)):=by
  refine⟨⟨s1,fun e _ k' hk2 hne=> ?_⟩⟩;by_cases ek:k'=k
  ·subst ek;rw[hc0]at hne ⊢;exact s4 hne
  ·have e2:=s2 e;have:=hS.out.2 e2 hbi k' (by omega) hne;rw[e,←e2];exact this
 clear s1 s2 s3 s4 hS;have s0:=hc0;refine go ?_;refine WX.regionU2 0 rfl rfl ?_;have suX:SlI (inC (zC 0 h6)) u X:=su;have oX:OwnBo h (zC 0 h6) r bs:=o6;have sX:zPf (inC (zC 0 h6)) r bs:=o6.sl;obtain⟨cs2,hcs2,pc2,hs2⟩:=zd sX (i:=c.toNat) hcb;have hcs2:cs2=[.bool (bO bs c)]:=hcs2;subst hcs2;refine goU ?_;rw[hc0];refine goU ?_;cases hbc:bO bs c with
 |true=>
  rw[hbc]at hfin pc2;refine goU ?_;refine WU2.stBo (hS:=h6) (i:=c.toNat) (b:=true) oX e6 (by rw[e6.mark];exact hm) rfl hcb ?_;intro h7 e7 o7 keep hn7;refine go ?_;exact zA (k+1) (by omega) ⟨e7,sln,by omega,zCg ou keep hn7 hqv,_,o7,hfin⟩
 |false=>
  rw[hbc]at hfin pc2;refine goU ?_;rw[hc0];refine goU ?_;refine WU2.stBo (hS:=h6) (i:=c.toNat) (b:= !decide (c=but)) oX e6 (by rw[e6.mark];exact hm) rfl hcb ?_;intro h7 e7 o7 keep hn7;refine go ?_;exact zA (k+1) (by omega) ⟨e7,sln,by omega,zCg ou keep hn7 hqv,_,o7,hfin⟩
set_option maxRecDepth 100000
def zJG:ACode:=(oV (oV (oR [oM 7 6,oM 8 0,oQ 9 8,oB .lss 10 7 9]) (oT 10 0)) (oV (o5 1 (oV (oR [oM 13 0,oM 14 6,oI 5 15 13 14,oF 1 16 15,oA 4 17 16,o1 18 128 17,oM 19 1,o2 20 127 18 19]) (oJ 20 (oR [oM 21 5,oM 22 6,⟨some 23,none,(.buildSlice 1 1 [(.int .i64 0)] [(0,1,(.tmp 22))])⟩,oY 1 24 21 23,oM 5 24]) .skip))) (oR [oM 11 6,oC .add 12 11 1,oM 6 12])))
def zOS:ACode:=(oV (oR [oK 4 (.slice none 0 0)]) (oV (oR [oK 5 (.slice none 0 0)]) (oV (oV (oR [oN 6 0]) (o5 0 (.loop zJG))) (oV (oR [oM 25 5,oM 4 25]) .ret))))
theorem zJ7 (h:AHeap) (v:Value) (L:List LBlk) (b:Int) (sb:SlB h v L) (hL:L.length≤1000):
  WC Tryz.prog tb 181 [v,I b] h fun r h'=>OwnN h h' r (zP L b L.length)∧Ext h h':=by
 refine en 26 [(4,none)] zOS ?_;refine WX.loopA [7,8,9,10,13,14,15,16,17,18,19,20,21,22,23,24,5,11,12,6] (by kernel_rfl) (fun i=>L.length - i) (fun i t h1=>Ext h h1∧zB t 6=I i∧i≤L.length∧∃ w,zB t 5=w∧OwnN h h1 w (zP L b i)) 0 ?_ ?_
 ·exact⟨Ext.refl _,sl_,Nat.zero_le _,_,sl_,.inl ⟨rfl,rfl⟩⟩
 rintro i t h1 hsame ⟨e1,s6,hi,w,s5,ow⟩;have sb1:=SlB.ext sb e1;refine go ?_;refine WX.br (fun hb=> ?_) (fun hb=> ?_)<;>simp only[DB]at hb
 ·have hi':i<L.length:=by omega
  obtain⟨cs,⟨vi,rfl,si,hli⟩,pc,hs⟩:=zd sb1 hi';obtain⟨_,_,_,rfl⟩:=zF si;have hsucc:=zAX L b i;have hln:=YP L b i;refine go ?_;refine WO.con (zM0 h1 (L.getD i default).fin) ?_;rintro u h2 ⟨ou,e2⟩;have hul:(yy (L.getD i default).fin).length≤2:=zBr _;refine go ?_;refine WO.con (zQf h2 u _ b ou.sl (by omega)) ?_;rintro _ _ ⟨rfl,rfl⟩;have ow2:=ow.ext e2;by_cases hb2:b∈yy (L.getD i default).fin
  ·rw[if_pos hb2]at hsucc;refine go ?_;refine WO.bl [(i:Int)] ?_;intro v4 h4 e4 o4;refine go ?_;refine WO.apN (ow2.ext e4) o4.sl ((e1.trans e2).trans e4) (by simp only[List.length_singleton];omega) ?_;intro v5 h5 e5 o5;refine go ?_;exact zA (i+1) (by omega) ⟨e5,sln,by omega,v5,sl_,by rw[hsucc];exact o5⟩
  ·rw[if_neg hb2]at hsucc;refine go ?_;exact zA (i+1) (by omega) ⟨e1.trans e2,sln,by omega,w,sl_,by rw[hsucc];exact ow2⟩
 ·have hii:i=L.length:=by omega
  subst hii;refine gr ?_;exact⟨ow,e1⟩
set_option maxRecDepth 100000
def Ris (l:List Int):Prop:=∀ i,i+1<l.length→l.getD i 0<l.getD (i+1) 0
theorem Ris.tail {a:Int} {l:List Int} (h:Ris (a::l)):Ris l:=fun i hi=>by
 have:=h (i+1) (by simp only[List.length_cons];omega);simpa [List.getD]using this
theorem Ris.lt {l:List Int}:∀ {a:Int},Ris (a::l)→∀ x∈l,a<x:=by
 induction l with
 |nil=>intro a _ x hx;cases hx
 |cons b l ih=>
  intro a h x hx;have h0:a<b:=by have:=h 0 (by simp);simpa [List.getD]using this
  rcases List.mem_cons.1 hx with rfl|hx
  ·exact h0
  ·have:=ih h.tail x hx;omega
theorem zOj {l k:List Int} (hl:Ris l) (hk:Ris k) (h:∀ x,x∈l↔x∈k):l=k:=by
 induction l generalizing k with
 |nil=>
  cases k with
  |nil=>rfl
  |cons b k=>have:=(h b).2 (by simp);cases this
 |cons a l ih=>
  cases k with
  |nil=>have:=(h a).1 (by simp);cases this
  |cons b k=>
   have hab:a=b:=by
    have h1:=(h a).1 (by simp);have h2:=(h b).2 (by simp);rcases List.mem_cons.1 h1 with e|h1
    ·exact e
    ·rcases List.mem_cons.1 h2 with e|h2
     ·exact e.symm
     ·have:=hl.lt b h2;have:=hk.lt a h1;omega
   subst hab;congr 1;refine ih hl.tail hk.tail fun x=>⟨fun hx=> ?_,fun hx=> ?_⟩
   ·rcases List.mem_cons.1 ((h x).1 (by simp[hx]))with e|h2
    ·have:=hl.lt x hx;omega
    ·exact h2
   ·rcases List.mem_cons.1 ((h x).2 (by simp[hx]))with e|h2
    ·have:=hk.lt x hx;omega
    ·exact h2
theorem zHh (p:Nat→Bool) (n:Nat):Ris (((List.range n).filter p).map fun (i:Nat)=>(i:Int)):=by
 intro i hi;have hp:((List.range n).filter p).Pairwise (·<·):=List.Pairwise.filter _ List.pairwise_lt_range;rw[List.length_map]at hi;have:=List.pairwise_iff_getElem.1 hp i (i+1) (by omega) hi (by omega);simp only[List.getD_eq_getElem?_getD,List.getElem?_map,List.getElem?_eq_getElem hi,List.getElem?_eq_getElem (show i<((List.range n).filter p).length by omega),Option.map_some,Option.getD_some];omega
def zNN:ACode:=(oV (oV (oR [oM 9 5,oM 10 4,oQ 11 10,oB .lss 12 9 11]) (oT 12 0)) (oV (o5 1 (oV (oR [oM 15 4,oM 16 5,oI 1 17 15 16,oL 18 17]) (oJ 18 (oR [oM 19 3,oM 20 5,⟨some 21,none,(.buildSlice 1 1 [(.int .i64 0)] [(0,1,(.tmp 20))])⟩,oY 1 22 19 21,oM 3 22]) .skip))) (oR [oM 13 5,oC .add 14 13 1,oM 5 14])))
def zRH:ACode:=(oV (oR [oK 2 (.slice none 0 0)]) (oV (oR [oK 3 (.slice none 0 0)]) (oV (oR [oM 6 0,⟨some 7,none,(.buildSlice 1 1 [(.int .i64 0)] [(0,1,(.const (.int .i64 0)))])⟩,⟨some 8,none,(.call (.func 120) [(.tmp 6),(.tmp 7),(.const (.int .i64 (-1)))])⟩,oM 4 8]) (oV (oV (oR [oN 5 0]) (o5 0 (.loop zNN))) (oV (oR [oM 23 3,oM 2 23]) .ret)))))
def onL (bs:List Bool) (n:Nat):List Int:=((List.range n).filter fun (i:Nat)=>bO bs (i:Int)).map fun (i:Nat)=>(i:Int)
theorem zMI (bs:List Bool) (n:Nat):onL bs (n+1)=if bO bs (n:Int) then onL bs n++[(n:Int)] else onL bs n:=by
 unfold onL;rw[List.range_succ,List.filter_append,List.map_append];by_cases h:bO bs (n:Int)=true
 ·rw[if_pos h,List.filter_cons_of_pos (by simpa using h)];rfl
 ·rw[if_neg h,List.filter_cons_of_neg (by simpa using h)];simp
theorem zId (bs:List Bool) (n:Nat):(onL bs n).length≤n:=by
 unfold onL;rw[List.length_map];exact Nat.le_trans (List.length_filter_le _ _) (by simp)
theorem zQS {bs:List Bool} {n:Nat} {x:Int}:x∈onL bs n↔(0≤x∧x<(n:Int))∧bO bs x=true:=by
 unfold onL;rw[List.mem_map];constructor
 ·rintro⟨i,hi,rfl⟩;rw[List.mem_filter,List.mem_range]at hi;exact⟨by omega,hi.2⟩
 ·rintro⟨h1,h2⟩;refine⟨x.toNat,?_,by omega⟩;rw[List.mem_filter,List.mem_range];refine⟨by omega,?_⟩;rw[show ((x.toNat:Nat):Int)=x by omega];exact h2
theorem zHH (h:AHeap) (v:Value) (L:List LBlk) (hm:h.mark≤h.n) (sb:SlB h v L) (hL:L.length≤16) (hL0:0<L.length) (hin:∀ c,0≤c∧c<(L.length:Int)→∀ d∈nxL L c,0≤d∧d<(L.length:Int)):
  WC Tryz.prog tb 73 [v] h fun r h'=>(∃ l,OwnN h h' r l∧Ris l∧l.length≤16∧∀ c,c∈l↔Way (nxL L) 0 c)∧Ext h h':=by
 have hf0:∀ a∈([0]:List Int),0≤a∧a<(L.length:Int):=fun a ha=>by rw[List.mem_singleton]at ha;subst ha;omega
 have hrw:∀ c,Rch (nxL L) [0] (-1) c↔Way (nxL L) 0 c:=fun c=>by
  rw[zIz hin hf0];exact⟨fun ⟨a,ha,w⟩=>by rw[List.mem_singleton]at ha;subst ha;exact w,fun w=>⟨0,by simp,w⟩⟩
 have hwin:∀ c,Way (nxL L) 0 c→0≤c∧c<(L.length:Int):=fun c w=>((hrw c).2 w).in hin hf0;replace hwin:=Hid.mk hwin;replace hrw:=Hid.mk hrw;refine en 24 [(2,none)] zRH ?_;refine WO.bl [0] ?_;intro v1 h1 e1 o1;refine go ?_;refine WO.con (zFB h1 v v1 L [0] (-1) (zp e1 hm) (SlB.ext sb e1) o1.sl hL hin hf0 (by simp)) ?_;rintro r h2 ⟨⟨bs,ob,hbl,hbs⟩,e2⟩;replace hbs:=Hid.mk hbs;have e12:=e1.trans e2;refine go ?_;refine WX.loopA [9,10,11,12,15,16,17,18,19,20,21,22,3,13,14,5] (by kernel_rfl) (fun i=>L.length - i) (fun i t h3=>Ext h2 h3∧zB t 5=I i∧i≤L.length∧∃ w,zB t 3=w∧OwnN h2 h3 w (onL bs i)) 0 ?_ ?_
 ·exact⟨Ext.refl _,sl_,Nat.zero_le _,_,sl_,.inl ⟨rfl,rfl⟩⟩
 rintro i t h3 hsame ⟨e3,s5,hi,w,s3,ow⟩;have sr:zPf h3 r bs:=(ob.ext e3).sl;refine go ?_;refine WX.br (fun hb=> ?_) (fun hb=> ?_)<;>simp only[DB]at hb
 ·have hi':i<L.length:=by omega
  obtain⟨cs1,hcs1,pc1,hs1⟩:=zd sr (i:=i) (by omega);have hcs1:cs1=[.bool (bO bs i)]:=by
   have:bs.getD i default=bO bs i:=by unfold bO;rw[Int.toNat_natCast];rfl
   rw[←this];exact hcs1
  subst hcs1;have hsucc:=zMI bs i;have hln:=zId bs i;cases hbi:bO bs i with
  |true=>
   rw[hbi]at pc1;rw[hbi,if_pos rfl]at hsucc;refine go ?_;refine WO.bl [(i:Int)] ?_;intro v4 h4 e4 o4;refine go ?_;refine WO.apN (ow.ext e4) o4.sl (e3.trans e4) (by simp only[List.length_singleton];omega) ?_;intro v5 h5 e5 o5;refine go ?_;exact zA (i+1) (by omega) ⟨e5,sln,by omega,v5,sl_,by rw[hsucc];exact o5⟩
  |false=>
   rw[hbi]at pc1;rw[hbi,if_neg (by simp)]at hsucc;refine go ?_;exact zA (i+1) (by omega) ⟨e3,sln,by omega,w,sl_,by rw[hsucc];exact ow⟩
 ·have hii:i=L.length:=by omega
  subst hii;refine gr ?_;have hln:=zId bs L.length;refine⟨⟨_,ow.since e12,zHh _ _,by omega,fun c=> ?_⟩,e12.trans e3⟩;rw[zQS];exact⟨fun hh=>(hrw.out c).1 ((hbs.out c hh.1).1 hh.2),fun w=>⟨hwin.out c w,(hbs.out c (hwin.out c w)).2 ((hrw.out c).2 w)⟩⟩
set_option maxRecDepth 100000
structure En (h:AHeap) (vt vf:Value) (T:List LType) (F:List LFn):Prop where
 tt:Tbl h
 hm:h.mark≤h.n
 sm:Small T F
 si:zDG F
 st:SlT h vt T
 sf:SlF h vf F
theorem En.ext {h h':AHeap} {vt vf:Value} {T:List LType} {F:List LFn} (E:En h vt vf T F) (e:Ext h h'):En h' vt vf T F:=
 ⟨E.tt.ext e,zp e E.hm,E.sm,E.si,E.st.ext e,SlF.ext E.sf e⟩
theorem En.inC {h:AHeap} {vt vf:Value} {T:List LType} {F:List LFn} (E:En h vt vf T F):En (inC (zC 0 h)) vt vf T F:=⟨E.tt,Nat.le_refl _,E.sm,E.si,E.st,E.sf⟩
def zMR:ACode:=(oV (oV (oR [oM 11 4,oF 1 12 1,oL 13 12,oQ 14 13,oB .lss 15 11 14]) (oT 15 0)) (oV (o5 1 (oV (o6 [oA 2 18 1,oF 1 19 1,oL 20 19,oM 21 4,oI 2 22 20 21,oA 2 23 22,o2 24 72 18 23,oW 25 24]) (oJ 25 (oV (oR [oN 2 60]) .ret) .skip))) (oR [oM 16 4,oC .add 17 16 1,oM 4 17])))
def zRn:ACode:=(oV (oR [oX 1 0,oN 2 0]) (oV (oR [oF 0 5 1,oL 6 5,o1 7 71 6,oM 3 7]) (oV (oV (oR [oM 8 3,oC .neq 9 8 0]) (oJ 9 (oV (oR [oM 10 3,oM 2 10]) .ret) .skip)) (oV (oV (oR [oN 4 0]) (o5 0 (.loop zMR))) (oV (oV (oR [oF 1 26 1,oL 27 26,oQ 28 27,oC .lss 29 28 1,oM 30 29,oH 30 (oF 1 31 1),oH 30 (oL 32 31),oH 30 (oQ 33 32),oH 30 (oC .gtr 34 33 8),oO 35 30 34]) (oJ 35 (oV (oR [oN 2 60]) .ret) .skip)) (oV (oR [oN 2 0]) .ret))))))
theorem zDh (h:AHeap) (vt vf:Value) (T:List LType) (F:List LFn) (E:En h vt vf T F):
  WC Tryz.prog tb 33 [.agg #[vt,vf]] h fun r h'=>r=I (yX T F)∧Ext h h':=by
 have st:=E.st;have sf:=E.sf;have hT:=E.sm.types;have hF:=E.sm.funcs;obtain⟨ta,tn,tk,rfl⟩:=zF st;obtain⟨ga,gn,gk,rfl⟩:=zF sf;refine en 36 [(2,none)] zRn ?_;refine WO.bx ?_;intro p h1 e1 o1;have st1:=st.ext e1;have sf1:=SlF.ext sf e1;refine go ?_;refine WO.con (zK7 h1 _ T st1 (by omega) (fun x hx=>by have:=E.sm.parts x hx;omega)) ?_;rintro _ h2 ⟨rfl,e2⟩;have o1:=o1.ext e2;have e02:=e1.trans e2;by_cases hc:yb T=0;case neg=>
  have hc':yb T≠0:=hc;refine gr ?_;exact⟨by unfold yX;rw[if_pos hc];rfl,e02⟩
 have E2:=E.ext e02;rw[hc];have hp0:yX T F=if (!zO ((F.length:Int) - 1) 8||F.any fun f=> !fnL T F.length f) then 60 else 0:=by unfold yX;rw[if_neg (fun e=>e hc)]
 refine go ?_;refine WX.loopA [11,12,13,14,15,18,19,20,21,22,23,24,25,2,16,17,4] (by kernel_rfl) (fun i=>F.length - i) (fun i t h3=>Ext h2 h3∧zB t 4=I i∧i≤F.length∧Hid (∀ j,j<i→fnL T F.length (F.getD j default)=true)) 0 ?_ ?_
 ·exact⟨Ext.refl _,sl_,Nat.zero_le _,⟨fun j hj=>absurd hj (Nat.not_lt_zero _)⟩⟩
 rintro i t h3 hsame ⟨e3,s4,hi,hall⟩;have o1:=o1.ext e3;have e03:=e02.trans e3;have E3:=E2.ext e3;have sf3:=E3.sf;refine go ?_;refine WX.br (fun hd=> ?_) (fun hd=> ?_)<;>simp only[DB]at hd
 ·have hi':i<F.length:=by omega
  have hmem:=zH (l:=F) hi';refine go ?_;refine WX.regionU2 0 rfl rfl ?_;have o1X:OwnC h (inC (zC 0 h3)) p [_,_]:=o1;have sfX:SlF (inC (zC 0 h3)) _ F:=sf3;obtain⟨cs,⟨vb,rfl,sb,hlb⟩,pc,hs⟩:=zd sfX hi';obtain⟨ba,bn,bk,rfl⟩:=zF sb;refine goU ?_;refine WO.con (zGD (inC (zC 0 h3)) _ _ T F (F.getD i default) [I (F.getD i default).sig,.slice ba bn bk] E.sm E.si hmem (Nat.le_refl _) E3.inC.st sfX ⟨_,rfl,sb,hlb⟩) ?_;rintro _ h4 ⟨rfl,e4⟩;refine nE e4 ?_;refine goU ?_;have e5:Ext h3 (outC h3 (inC h4)):=e4.reg;obtain⟨h5,hh5⟩:∃ h5,h5=outC h3 (inC h4):=⟨_,rfl⟩;rw[←hh5]at e5;rw[←hh5];clear o1X sfX pc e4 hh5 sb;cases hfn:fnL T F.length (F.getD i default)with
  |false=>
   refine gr ?_;refine⟨?_,e03.trans e5⟩;rw[hp0,List.any_eq_true.2 ⟨_,hmem,by rw[hfn];rfl⟩,Bool.or_true];rfl
  |true=>
   refine go ?_;refine zA (i+1) (by omega) ⟨e3.trans e5,sln,by omega,⟨fun j hj=> ?_⟩⟩;by_cases e:j=i
   ·subst e;exact hfn
   ·exact hall.out j (by omega)
 ·have hany:(F.any fun f=> !fnL T F.length f)=false:=Zy fun f hf=>by
   obtain⟨j,hj,rfl⟩:=ZG hf;rw[hall.out j (by omega)];rfl
  rw[hany,Bool.or_false]at hp0;by_cases c1:(F.length:Int)<1
  ·refine gr ?_;refine⟨?_,e03⟩;have:zO ((F.length:Int) - 1) 8=false:=by unfold zO;simp;omega
   rw[hp0,this];rfl
  by_cases c2:8<(F.length:Int)
  ·refine gr ?_;refine⟨?_,e03⟩;have:zO ((F.length:Int) - 1) 8=false:=by unfold zO;simp;omega
   rw[hp0,this];rfl
  ·refine gr ?_;refine⟨?_,e03⟩;have:zO ((F.length:Int) - 1) 8=true:=by unfold zO;simp;omega
   rw[hp0,this];rfl
def zSN:ACode:=(oV (oR [oX 2 0,oN 4 0]) (oV (oR [oA 2 6 2,o1 7 33 6,oM 5 7]) (oV (oV (oR [oM 8 5,oC .eql 9 8 0,oM 10 9,oG 10 (oM 11 1),oG 10 (oC .lss 12 11 0),oG 10 (oM 13 12),oH 13 (oM 14 1),oH 13 (oF 1 15 2),oH 13 (oL 16 15),oH 13 (oQ 17 16),oH 13 (oB .geq 18 14 17),oG 10 (oO 19 13 18),oP 20 10 19]) (oJ 20 (oV (oR [oN 4 2]) .ret) .skip)) (oV (oR [oM 21 5,oM 4 21]) .ret))))
theorem zH5 (h:AHeap) (vt vf:Value) (T:List LType) (F:List LFn) (f:Int) (E:En h vt vf T F):
  WC Tryz.prog tb 58 [.agg #[vt,vf],I f] h fun r h'=>r=I (zc T F f).2∧Ext h h':=by
 have hF:=E.sm.funcs;refine en 22 [(4,none)] zSN ?_;refine WO.bx ?_;intro p h1 e1 o1;have E1:=E.ext e1;refine go ?_;refine WO.con (zDh h1 vt vf T F E1) ?_;rintro _ h2 ⟨rfl,e2⟩;have o1:=o1.ext e2;have e02:=e1.trans e2;have sf2:=(E1.ext e2).sf;obtain⟨ta,tn,tk,rfl⟩:=zF E.st;obtain⟨ga,gn,gk,rfl⟩:=zF sf2;unfold zc;by_cases hc:yX T F=0;case neg=>
  have hc':yX T F≠0:=hc;rw[if_pos hc];refine gr ?_;exact⟨rfl,e02⟩
 rw[if_neg (fun e=>e hc),hc];by_cases c1:f<0
 ·have hb:zO f F.length=false:=by unfold zO;simp;omega
  refine gr ?_;exact⟨by rw[hb];rfl,e02⟩
 by_cases c2:(F.length:Int)≤f
 ·have hb:zO f F.length=false:=by unfold zO;simp;omega
  refine gr ?_;exact⟨by rw[hb];rfl,e02⟩
 ·have hb:zO f F.length=true:=by unfold zO;simp;omega
  refine gr ?_;exact⟨by rw[hb];rfl,e02⟩
theorem zB3 {T:List LType} {F:List LFn} {f:Int} (h:(zc T F f).2=0):0≤f∧f<(F.length:Int)∧yX T F=0∧zc T F f=(((T.getD (F.getD f.toNat default).sig.toNat default).parts.length:Int),0):=by
 unfold zc at h ⊢;split at h
 ·rename_i hp;exact absurd h hp
 ·rename_i hp;rw[if_neg hp];split at h
  ·rename_i hb;have hb2:=hb;unfold zO at hb2;simp at hb2;exact⟨hb2.1,hb2.2,by omega,by rw[if_pos hb]⟩
  ·cases h
def zRy:ACode:=(oV (oR [oX 2 0,oN 4 0]) (oV (o6 [oA 2 5 2,oF 1 6 2,oL 7 6,oM 8 1,oI 2 9 7 8,oA 2 10 9,o2 11 95 5 10,oF 1 12 2,(oL 13 12,[6]),oM 14 1,oI 2 15 13 14,oF 1 16 15,(oL 17 16,[6]),o1 18 96 17,oB .add 19 11 18,oM 4 19]) .ret))
theorem zJE (h:AHeap) (vt vf:Value) (T:List LType) (F:List LFn) (f:Int) (E:En h vt vf T F) (hf:0≤f∧f<(F.length:Int)) (hsig:0≤(F.getD f.toNat default).sig∧(F.getD f.toNat default).sig<(T.length:Int)):
  WC Tryz.prog tb 59 [.agg #[vt,vf],I f] h fun r h'=>r=I (((T.getD (F.getD f.toNat default).sig.toNat default).parts.length:Int)+zW (F.getD f.toNat default).blocks)∧Ext h h':=by
 have hF:=E.sm.funcs;have hmem:=zH (l:=F) (i:=f.toNat) (by omega);have hB:=E.sm.blocks _ hmem;have hI:=E.sm.ins _ hmem;have hmany:=zBV hI;have hpart:=E.sm.parts _ (zH (l:=T) (i:=(F.getD f.toNat default).sig.toNat) (by omega));obtain⟨ta,tn,tk,rfl⟩:=zF E.st;obtain⟨ga,gn,gk,rfl⟩:=zF E.sf;refine en 20 [(4,none)] zRy ?_;refine WO.bx ?_;intro p h1 e1 o1;have E1:=E.ext e1;have sf1:=E1.sf;refine go ?_;refine WX.regionU2 0 rfl rfl ?_;have o1X:OwnC h (inC (zC 0 h1)) p [_,_]:=o1;have sfX:SlF (inC (zC 0 h1)) _ F:=sf1;obtain⟨cs,⟨vb,rfl,sb,hlb⟩,px,hs⟩:=zo sf1 (i:=f.toNat) (by omega);have pcX:=(px h1 (Ext.refl _)).2;have pcX:Piece (inC (zC 0 h1)) (.slice ga gn gk) (f.toNat * 2) [I (F.getD f.toNat default).sig,vb]:=pcX;obtain⟨ba,bn,bk,rfl⟩:=zF sb;obtain⟨qa,qn,qk,hqv,hqb⟩:=Y0 sf1 (i:=f.toNat) (by omega);refine goU ?_;refine WO.con (zBI (inC (zC 0 h1)) _ _ _ T F _ E1.inC.st sfX ⟨_,_,_,rfl⟩ hsig (by omega)) ?_;rintro _ h2 ⟨rfl,e2⟩;refine nE e2 ?_;have sfY:SlF (inC h2) (.slice ga gn gk) F:=by have:=SlF.ext sfX e2;exact this
 have e3:Ext h1 (outC h1 (inC h2)):=e2.reg;have pcY:Piece (inC h2) (.slice ga gn gk) (f.toNat * 2) [I (F.getD f.toNat default).sig,.slice ba bn bk]:=by
  have:=(px _ e3).2;exact this
 have sbY:SlB (inC h2) (.slice ba bn bk) (F.getD f.toNat default).blocks:=by
  have:=SlB.ext sb e3;exact this
 have o1Y:OwnC h (inC h2) p [.slice ta tn tk,.slice ga gn gk]:=by have:=o1X.ext e2;exact this
 refine goU ?_;refine zBn o1 (Nat.le_refl _) ?_;refine goU ?_;refine zHG ⟨qa,qn,qk,hqv,hqb⟩ ?_;refine goU ?_;refine WO.con (zB2 (inC h2) _ _ sbY hB hI) ?_;rintro _ _ ⟨rfl,rfl⟩;refine nQ ?_;refine goU ?_;refine gr ?_;exact⟨rfl,e1.trans e3⟩
theorem zLz {T:List LType} {F:List LFn} {f:Int} (h:(zc T F f).2=0):0≤(F.getD f.toNat default).sig∧(F.getD f.toNat default).sig<(T.length:Int):=by
 obtain⟨h1,h2,h3,_⟩:=zB3 h;exact zB9 ((Zj h3).2.2.2 _ (zH (l:=F) (i:=f.toNat) (by omega)))
theorem zMK {T:List LType} {F:List LFn} {f:Int} (h:(zD T F f 0).2=0) {l:List Int} (hr:Ris l) (hm:∀ c,c∈l↔Way (nxL (zD T F f 0).1) 0 c):(yK T F f).1=l:=by
 refine zOj ?_ hr fun x=>(ZH h).trans (hm x).symm;obtain⟨_,_,_,_,h5,_⟩:=Yq h;exact h5
set_option maxRecDepth 100000
def zP9:ACode:=(oV (oR [oX 1 0,oK 2 (.slice none 0 0)]) (oV (oV (oR [oF 0 3 1,oL 4 3,oD .eql 5 4 2,oM 6 5,oH 6 (oF 0 7 1),oH 6 (oL 8 7),oH 6 (oD .eql 9 8 3),oO 10 6 9]) (oJ 10 (oV (oR [oF 1 11 1,oL 12 11,⟨some 13,none,(.buildSlice 1 1 [(.int .i64 0)] [(0,1,(.tmp 12))])⟩,oM 2 13]) .ret) .skip)) (oV (oR [oK 2 (.slice none 0 0)]) .ret)))
theorem zGF (h:AHeap) (x:LEnd):WC Tryz.prog tb 126 [.agg #[.int .u8 x.kind,I x.a,I x.to,I x.els]] h fun r h'=>OwnN h h' r (z9 x)∧Ext h h':=by
 unfold z9;refine en 14 [(2,none)] zP9 ?_;refine WO.bx ?_;intro p h1 e1 o1;by_cases c2:x.kind=2
 ·rw[if_pos (.inl c2)];refine go ?_;refine WO.bl [x.a] ?_;intro v h2 e2 o2;refine gr ?_;exact⟨.inr (OwnI.since o2 e1),e1.trans e2⟩
 by_cases c3:x.kind=3
 ·rw[if_pos (.inr c3)];refine go ?_;refine WO.bl [x.a] ?_;intro v h2 e2 o2;refine gr ?_;exact⟨.inr (OwnI.since o2 e1),e1.trans e2⟩
 ·rw[if_neg (fun h=>h.elim c2 c3)];refine gr ?_;exact⟨.inl ⟨rfl,rfl⟩,e1⟩
set_option maxRecDepth 100000
theorem En.env {h:AHeap} {vt vf:Value} {T:List LType} {F:List LFn} (E:En h vt vf T F):Env h vt vf T F:=⟨E.tt,E.hm,E.sm,E.st,E.sf⟩
theorem zSR {nx:Int→List Int} {a b:Int}:Rch nx [0] a b↔Av nx a b:=by
 constructor
 ·intro h;induction h with
  |here h1 h2=>rw[List.mem_singleton]at h1;subst h1;exact⟨0,.here h2⟩
  |step _ hc hne ih=>obtain⟨k,hk⟩:=ih;exact⟨k+1,.step hk hc hne⟩
 ·rintro⟨k,h⟩;induction h with
  |here h=>exact .here (by simp) h
  |step _ hc hne ih=>exact .step ih hc hne
theorem zSn {nx:Int→List Int} {a b:Int} (w:Way nx 0 b) (h:¬Way nx 0 a):Av nx a b:=by
 induction w with
 |here=>exact⟨0,.here (fun e=>h (by rw[←e];exact .here))⟩
 |step w1 hc ih=>obtain⟨k,hk⟩:=ih;exact⟨k+1,.step hk hc (fun e=>h (by rw[←e];exact .step w1 hc))⟩
theorem zGQ {nx:Int→List Int} {a b:Int} (w:Way nx 0 b) (d:Dom nx a b):Way nx 0 a:=Classical.byContradiction fun h=>d (zSn w h)
def zML (nx:Int→List Int) (a b:Int):Prop:=a=b∨(Way nx 0 a∧Dom nx a b)
theorem zKU {nx:Int→List Int} {a b:Int} (w:Way nx 0 b):zML nx a b↔Dom nx a b:=
 ⟨fun h=>h.elim (fun e=>by rw[e];exact Dom.self _ _) (·.2),fun d=> .inr ⟨zGQ w d,d⟩⟩
def zOi:ACode:=(oV (oR [oZ 6]) (oV (oR [oM 7 1,oM 8 2,oB .eql 9 7 8,oM 10 9,oH 10 (oM 11 0),⟨some 12,some (10,false),(.buildSlice 1 1 [(.int .i64 0)] [(0,1,(.const (.int .i64 0)))])⟩,⟨some 13,some (10,false),(.call (.func 120) [(.tmp 11),(.tmp 12),(.const (.int .i64 (-1)))])⟩,oH 10 (oM 14 1),oH 10 (oI 1 15 13 14),oH 10 (oL 16 15),oH 10 (oM 17 16),oG 17 (oM 18 0),⟨some 19,some (17,true),(.buildSlice 1 1 [(.int .i64 0)] [(0,1,(.const (.int .i64 0)))])⟩,oG 17 (oM 20 1),oG 17 (o3 21 120 18 19 20),oG 17 (oM 22 2),oG 17 (oI 1 23 21 22),oG 17 (oL 24 23),oG 17 (oW 25 24),oH 10 (oP 26 17 25),oO 27 10 26,oM 6 27]) .ret))
theorem zM5 (h:AHeap) (v:Value) (L:List LBlk) (a b:Int) (hm:h.mark≤h.n) (sb:SlB h v L) (hL:L.length≤16) (ha:0≤a∧a<(L.length:Int)) (hb:0≤b∧b<(L.length:Int)) (hin:∀ c,0≤c∧c<(L.length:Int)→∀ d∈nxL L c,0≤d∧d<(L.length:Int)):
  WC Tryz.prog tb 205 [v,I a,I b] h fun r h'=>(∃ q,r= .bool q∧(q=true↔zML (nxL L) a b))∧Ext h h':=by
 have hf0:∀ c∈([0]:List Int),0≤c∧c<(L.length:Int):=fun c hc=>by rw[List.mem_singleton]at hc;subst hc;omega
 have hw:Rch (nxL L) [0] (-1) a↔Way (nxL L) 0 a:=by
  rw[zIz hin hf0];exact⟨fun ⟨c,hc,w⟩=>by rw[List.mem_singleton]at hc;subst hc;exact w,fun w=>⟨0,by simp,w⟩⟩
 replace hw:=Hid.mk hw;refine en 28 [(6,none)] zOi ?_;by_cases hab:a=b
 ·refine gr ?_;exact⟨⟨_,rfl,⟨fun _=> .inl hab,fun _=>rfl⟩⟩,Ext.refl _⟩
 refine go ?_;refine WO.bl [0] ?_;intro v1 h1 e1 o1;have hm1:=zp e1 hm;refine go ?_;refine WO.con (zFB h1 v v1 L [0] (-1) hm1 (SlB.ext sb e1) o1.sl hL hin hf0 (by simp)) ?_;rintro r h2 ⟨⟨bs,ob,hbl,hbs⟩,e2⟩;have e02:=e1.trans e2;have sr:=ob.sl;have hA:=(hbs a ha).trans hw.out;obtain⟨cs1,hcs1,pc1,hs1⟩:=zd sr (i:=a.toNat) (by omega);have hcs1:cs1=[.bool (bO bs a)]:=hcs1;subst hcs1;replace hA:=Hid.mk hA;clear hbs;cases hq:bO bs a with
 |false=>
  rw[hq]at hA pc1;refine gr ?_;exact⟨⟨_,rfl,⟨fun h=>(by cases h),fun h=>h.elim (fun e=>absurd e hab) fun h=>absurd (hA.out.2 h.1) Bool.noConfusion⟩⟩,e02⟩
 |true=>
  rw[hq]at hA pc1;refine go ?_;refine WO.bl [0] ?_;intro v3 h3 e3 o3;have e03:=e02.trans e3;refine go ?_;refine WO.con (zFB h3 v v3 L [0] a (zp e03 hm) (SlB.ext sb e03) o3.sl hL hin hf0 (by simp)) ?_;rintro r4 h4 ⟨⟨bs4,ob4,hbl4,hbs4⟩,e4⟩;have sr4:=ob4.sl;have hB:=(hbs4 b hb).trans zSR;obtain⟨cs4,hcs4,pc4,hs4⟩:=zd sr4 (i:=b.toNat) (by omega);have hcs4:cs4=[.bool (bO bs4 b)]:=hcs4;subst hcs4;replace hB:=Hid.mk hB;clear hbs4;refine gr ?_;refine⟨⟨_,rfl,?_⟩,e03.trans e4⟩;have hw:=hA.out.1 rfl;cases hq4:bO bs4 b with
  |true=>exact⟨fun h=>(by cases h),fun h=>h.elim (fun e=>absurd e hab) fun h=>absurd (hB.out.1 hq4) h.2⟩
  |false=>exact⟨fun _=> .inr ⟨hw,fun hav=>by have:=hB.out.2 hav;rw[hq4]at this;cases this⟩,fun _=>rfl⟩
set_option maxRecDepth 100000
theorem zLN {α:Type} {c i:Nat} {R:AHeap→List Value→α→Prop} {h:AHeap} {v:Value} {l:List α} (s:SlR c R h v l) (hl:0<l.length) (hi:i≤l.length):∃ r,ZX c v none (some i) none=some r∧SlR c R h r (l.take i):=by
 obtain⟨cells,⟨h1,⟨h2,_⟩|⟨g,off,row,rfl,h3,h4,h5⟩⟩,hR⟩:=s
 ·omega
 have hmul:i * c≤l.length * c:=Nat.mul_le_mul_right _ hi;have hlen:(l.take i).length=i:=by rw[List.length_take];omega
 refine⟨.slice (some ⟨g,off+0 * c,none⟩) (i - 0) c,?_,cells.take (i * c),⟨by rw[List.length_take,hlen];omega,.inr ⟨g,off,row,by rw[hlen];simp,h3,?_,h5⟩⟩,fun j a ha=> ?_⟩
 ·have b1:Nat.ble 0 i=true:=Nat.ble_eq_true_of_le (Nat.zero_le _);have b2:Nat.ble i l.length=true:=Nat.ble_eq_true_of_le hi;simp only[ZX,Option.getD_none,Option.getD_some,b1,b2,Option.isNone_none,Bool.and_self,cond_true,Nat.beq_refl]
 ·rw[hlen];obtain⟨c1,c2⟩:=zEG h4;rw[ZD (by omega),c2,List.take_take,Nat.min_eq_left hmul]
 ·have hj:j<i:=by have:=(List.getElem?_eq_some_iff.1 ha).1;omega
  have hja:l[j]?=some a:=by rw[List.getElem?_take,if_pos hj]at ha;exact ha
  have:=hR j a hja;have h6:j * c+c≤i * c:=by rw[←Nat.succ_mul];exact Nat.mul_le_mul_right _ hj
  rw[List.drop_take,List.take_take,Nat.min_eq_left (by omega)];exact this
theorem zJf {l:List LBlk}:∀ {i:Nat} {k:Int},i<l.length→0≤k→k<((l.getD i default).ins.length:Int)→ze l (zW (l.take i)+k)=((i:Int),k):=by
 induction l with
 |nil=>intro i k hi;simp at hi
 |cons b l ih=>
  intro i k hi h0 h1;cases i with
  |zero=>
   simp only[List.take_zero,List.getD_cons_zero]at h1 ⊢;unfold ze;rw[show zW []=0 from rfl,Int.zero_add,if_neg (by omega)];rfl
  |succ i=>
   simp only[List.take_succ_cons,List.getD_cons_succ,List.length_cons]at h1 hi ⊢;have hp:=Zu (l.take i);unfold ze;rw[YN,if_pos (by omega),show (b.ins.length:Int)+zW (l.take i)+k - b.ins.length=zW (l.take i)+k by omega,ih (by omega) h0 h1];simp
def Zi (n:Int) (L:List LBlk) (r:Int):Int×Int:=if n≤r∧r<n+zW L then ze L (r - n) else (-1,r)
def zRf:ACode:=(oV (oR [oX 4 0,oN 8 0]) (oV (o6 [oA 2 9 4,oF 1 10 4,oL 11 10,oM 12 1,oI 2 13 11 12,oA 2 14 13,o2 15 95 9 14,oF 1 16 4,(oL 17 16,[6]),oM 18 1,oI 2 19 17 18,oF 1 20 19,(oL 21 20,[6]),oM 22 2,(⟨some 23,none,(.slice 5 (.tmp 21) none (some (.tmp 22)) none)⟩,[]),o1 24 96 23,oB .add 25 15 24,oM 26 3,oB .add 27 25 26,oM 8 27]) .ret))
theorem zHK (h:AHeap) (vt vf:Value) (T:List LType) (F:List LFn) (f k:Int) (i:Nat) (E:En h vt vf T F) (hf:0≤f∧f<(F.length:Int)) (hsig:0≤(F.getD f.toNat default).sig∧(F.getD f.toNat default).sig<(T.length:Int)) (hi:i<(F.getD f.toNat default).blocks.length) (hk:0≤k∧k≤1000000):
  WC Tryz.prog tb 97 [.agg #[vt,vf],I f,I i,I k] h fun r h'=>r=I (((T.getD (F.getD f.toNat default).sig.toNat default).parts.length:Int)+zW ((F.getD f.toNat default).blocks.take i)+k)∧Ext h h':=by
 have hF:=E.sm.funcs;have hmem:=zH (l:=F) (i:=f.toNat) (by omega);have hB:=E.sm.blocks _ hmem;have hI:=E.sm.ins _ hmem;have hpart:=E.sm.parts _ (zH (l:=T) (i:=(F.getD f.toNat default).sig.toNat) (by omega));have hIt:∀ b∈(F.getD f.toNat default).blocks.take i,b.ins.length≤1000:=fun b hb=>hI b (List.mem_of_mem_take hb);have hlt:((F.getD f.toNat default).blocks.take i).length≤1000:=by rw[List.length_take];omega
 have hmany:=zBV hIt;obtain⟨ta,tn,tk,rfl⟩:=zF E.st;obtain⟨ga,gn,gk,rfl⟩:=zF E.sf;refine en 28 [(8,none)] zRf ?_;refine WO.bx ?_;intro p h1 e1 o1;have E1:=E.ext e1;have sf1:=E1.sf;refine go ?_;refine WX.regionU2 0 rfl rfl ?_;have o1X:OwnC h (inC (zC 0 h1)) p [_,_]:=o1;have sfX:SlF (inC (zC 0 h1)) _ F:=sf1;obtain⟨cs,⟨vb,rfl,sb,hlb⟩,px,hs⟩:=zo sf1 (i:=f.toNat) (by omega);have pcX:=(px h1 (Ext.refl _)).2;have pcX:Piece (inC (zC 0 h1)) (.slice ga gn gk) (f.toNat * 2) [I (F.getD f.toNat default).sig,vb]:=pcX;obtain⟨ba,bn,bk,rfl⟩:=zF sb;obtain⟨qa,qn,qk,hqv,hqb⟩:=Y0 sf1 (i:=f.toNat) (by omega);refine goU ?_;refine WO.con (zBI (inC (zC 0 h1)) _ _ _ T F _ E1.inC.st sfX ⟨_,_,_,rfl⟩ hsig (by omega)) ?_;rintro _ h2 ⟨rfl,e2⟩;refine nE e2 ?_;have sfY:SlF (inC h2) (.slice ga gn gk) F:=by have:=SlF.ext sfX e2;exact this
 have e3:Ext h1 (outC h1 (inC h2)):=e2.reg;have pcY:Piece (inC h2) (.slice ga gn gk) (f.toNat * 2) [I (F.getD f.toNat default).sig,.slice ba bn bk]:=by
  have:=(px _ e3).2;exact this
 have sbY:SlB (inC h2) (.slice ba bn bk) (F.getD f.toNat default).blocks:=by
  have:=SlB.ext sb e3;exact this
 obtain⟨vs,hvs,sbs⟩:=zLN (i:=i) sbY (by omega) (by omega);have o1Y:OwnC h (inC h2) p [.slice ta tn tk,.slice ga gn gk]:=by have:=o1X.ext e2;exact this
 refine goU ?_;refine zBn o1 (Nat.le_refl _) ?_;refine goU ?_;refine zHG ⟨qa,qn,qk,hqv,hqb⟩ ?_;refine goU ?_;refine WO.slHi (i:=i) hvs ?_;refine nQ ?_;refine goU ?_;refine WO.con (zB2 (inC h2) _ _ sbs hlt hIt) ?_;rintro _ _ ⟨rfl,rfl⟩;refine nQ ?_;refine goU ?_;refine gr ?_;exact⟨rfl,e1.trans e3⟩
def zNB:ACode:=(oV (oV (oR [oM 21 9,oF 1 22 3,oL 23 22,oM 24 1,oI 2 25 23 24,oF 1 26 25,oL 27 26,oM 28 8,oI 5 29 27 28,oF 0 30 29,oL 31 30,oQ 32 31,oB .lss 33 21 32]) (oT 33 2)) (oV (o5 3 (oV (oR [oA 2 36 3,oM 37 1,oM 38 8,oM 39 9,o4 40 97 36 37 38 39,oM 41 2,oB .eql 42 40 41]) (oJ 42 (oV (oR [oM 43 8,oM 44 9,oM 6 43,oM 7 44]) .ret) .skip))) (oR [oM 34 9,oC .add 35 34 1,oM 9 35])))
def zMa:ACode:=(oV (oV (oR [oM 10 8,oF 1 11 3,oL 12 11,oM 13 1,oI 2 14 12 13,oF 1 15 14,oL 16 15,oQ 17 16,oB .lss 18 10 17]) (oT 18 0)) (oV (o5 1 (oV (oR [oN 9 0]) (o5 2 (.loop zNB)))) (oR [oM 19 8,oC .add 20 19 1,oM 8 20])))
def zRM:ACode:=(oV (oR [oX 3 0,oN 6 0,oN 7 0]) (oV (oV (oR [oN 8 0]) (o5 0 (.loop zMa))) (oV (oR [oM 45 2,oN 6 (-1),oM 7 45]) .ret)))
theorem zDo (h:AHeap) (vt vf:Value) (T:List LType) (F:List LFn) (f r:Int) (E:En h vt vf T F) (hf:0≤f∧f<(F.length:Int)) (hsig:0≤(F.getD f.toNat default).sig∧(F.getD f.toNat default).sig<(T.length:Int)):
  WC Tryz.prog tb 60 [.agg #[vt,vf],I f,I r] h fun q h'=>q= .tuple #[I (Zi ((T.getD (F.getD f.toNat default).sig.toNat default).parts.length:Int) (F.getD f.toNat default).blocks r).1,I (Zi ((T.getD (F.getD f.toNat default).sig.toNat default).parts.length:Int) (F.getD f.toNat default).blocks r).2]∧Ext h h':=by
 have hF:=E.sm.funcs;have hmem:=zH (l:=F) (i:=f.toNat) (by omega);have hB:=E.sm.blocks _ hmem;have hI:=Hid.mk (E.sm.ins _ hmem);obtain⟨ta,tn,tk,rfl⟩:=zF E.st;obtain⟨ga,gn,gk,rfl⟩:=zF E.sf;refine en 46 [(6,none),(7,none)] zRM ?_;refine WO.bx ?_;intro p h1 e1 o1;have E1:=E.ext e1;have num:∀ (i:Nat) (k:Int) (h2:AHeap),En h2 (.slice ta tn tk) (.slice ga gn gk) T F→i<(F.getD f.toNat default).blocks.length→0≤k∧k≤1000000→_:=fun i k h2 E2 hi hk=>zHK h2 _ _ T F f k i E2 hf hsig hi hk;replace num:=Hid.mk num;refine go ?_;obtain⟨csF,⟨vb,rfl,sb,hlb⟩,px,hsF⟩:=zo E1.sf (i:=f.toNat) (by omega);obtain⟨ba,bn,bk,rfl⟩:=zF sb;generalize hnn:((T.getD (F.getD f.toNat default).sig.toNat default).parts.length:Int)=n at *;generalize hL:(F.getD f.toNat default).blocks=L at *;generalize (F.getD f.toNat default).sig=sg at *;refine WX.loopA [10,11,12,13,14,15,16,17,18,9,21,22,23,24,25,26,27,28,29,30,31,32,33,36,37,38,39,40,41,42,43,44,6,7,34,35,9,19,20,8] (by kernel_rfl) (fun i=>L.length - i) (fun i t h2=>Ext h1 h2∧zB t 8=I i∧i≤L.length∧Hid (r<n∨n+zW (L.take i)≤r)) 0 ?_ ?_
 ·exact⟨Ext.refl _,sl_,Nat.zero_le _,⟨by rw[List.take_zero,show zW []=0 from rfl];omega⟩⟩
 rintro i t h2 hsame ⟨e2,s8,hi,hno⟩;have o2:=o1.ext e2;have sf2:=SlF.ext E1.sf e2;have sb2:=SlB.ext sb e2;have pc2:=(px _ e2).1;refine go ?_;refine WX.br (fun hc=> ?_) (fun hc=> ?_)<;>simp only[DB]at hc;case refine_2=>
  have hii:i=L.length:=by omega
  subst hii;have hno:=hno.out;rw[List.take_length]at hno;have hp:Zi n L r=(-1,r):=by unfold Zi;rw[if_neg (by omega)]
  rw[hp];refine gr ?_;exact⟨rfl,e1.trans e2⟩
 have hi':i<L.length:=by omega
 have hil:=hI.out _ (zH (l:=L) hi');have hmt:=zDT L hi';refine go ?_;refine WX.loopA [21,22,23,24,25,26,27,28,29,30,31,32,33,36,37,38,39,40,41,42,43,44,6,7,34,35,9] (by kernel_rfl) (fun k=>(L.getD i default).ins.length - k) (fun k t h3=>Ext h1 h3∧zB t 9=I k∧k≤(L.getD i default).ins.length∧Hid (r<n∨n+zW (L.take i)+k≤r)) 0 ?_ ?_
 ·exact⟨e2,sl_,Nat.zero_le _,⟨by have:=hno.out;omega⟩⟩
 rintro k t3 h3 hsame3 ⟨e3,s9,hk,hno3⟩;have o3:=o1.ext e3;have E3:=E1.ext e3;have sf3:=E3.sf;have sb3:=SlB.ext sb e3;have pc3:=(px _ e3).1;obtain⟨csB,⟨vi,rfl,si,hli⟩,pcB,hsB⟩:=zd sb3 hi';obtain⟨ia,iN,ik,rfl⟩:=zF si;refine go ?_;refine WX.br (fun hd=> ?_) (fun hd=> ?_)<;>simp only[DB]at hd;case refine_2=>
  have hkk:k=(L.getD i default).ins.length:=by omega
  refine go ?_;refine zA (i+1) (by omega) ⟨e3,sln,by omega,⟨?_⟩⟩;have:=hno3.out;rw[hmt];omega
 have hk':k<(L.getD i default).ins.length:=by omega
 refine go ?_;refine WO.con (num.out i (k:Int) h3 E3 hi' (by omega)) ?_;rintro _ h4 ⟨rfl,e4⟩;have e14:=e3.trans e4;have hno3:=hno3.out;by_cases he:n+zW (L.take i)+(k:Int)=r
 ·have hp:Zi n L r=((i:Int),(k:Int)):=by
   have hmp:=Zu (L.take i);have hle:zW (L.take (i+1))≤zW L:=by
    have:zW L=zW (L.take (i+1))+zW (L.drop (i+1)):=by
     conv=>lhs;rw[←List.take_append_drop (i+1) L]
     unfold zW;rw[List.map_append,List.sum_append]
    have:=Zu (L.drop (i+1));omega
   unfold Zi;rw[if_pos (by rw[hmt]at hle;omega),show r - n=zW (L.take i)+(k:Int) by omega];exact zJf hi' (by omega) (by omega)
  rw[hp];refine gr ?_;exact⟨rfl,e1.trans e14⟩
 ·refine go ?_;exact zA (k+1) (by omega) ⟨e14,sln,by omega,⟨by omega⟩⟩
set_option maxRecDepth 100000
theorem zG9 {T:List LType} {F:List LFn} {f r:Int} (h:(zc T F f).2=0):zj T F f r=if r<0∨((T.getD (F.getD f.toNat default).sig.toNat default).parts.length:Int)+zW (F.getD f.toNat default).blocks≤r then (0,0,2)
  else ((Zi ((T.getD (F.getD f.toNat default).sig.toNat default).parts.length:Int) (F.getD f.toNat default).blocks r).1,(Zi ((T.getD (F.getD f.toNat default).sig.toNat default).parts.length:Int) (F.getD f.toNat default).blocks r).2,0):=by
 have hn:=(zB3 h).2.2.2;unfold zj Zi;rw[if_neg (fun e=>e h),hn];simp only;split
 ·rfl
 ·rename_i h1;split
  ·rename_i h2;rw[if_neg (by omega)]
  ·rename_i h2;rw[if_pos (by omega)]
def zRP:ACode:=(oV (oR [oX 3 0,oN 6 0,oN 7 0,oN 8 0]) (oV (oR [oA 2 12 3,oM 13 1,o2 14 58 12 13,oM 9 14]) (oV (oV (oR [oM 15 9,oC .eql 16 15 0,oM 17 16,oG 17 (oM 18 2),oG 17 (oC .lss 19 18 0),oG 17 (oM 20 19),oH 20 (oM 21 2),oH 20 (oA 2 22 3),oH 20 (oM 23 1),oH 20 (o2 24 59 22 23),oH 20 (oB .geq 25 21 24),oG 17 (oO 26 20 25),oP 27 17 26]) (oJ 27 (oR [oN 9 2]) .skip)) (oV (oV (oR [oM 28 9,oC .neq 29 28 0]) (oJ 29 (oV (oR [oM 30 9,oN 6 0,oN 7 0,oM 8 30]) .ret) .skip)) (oV (oR [oA 2 32 3,oM 33 1,oM 34 2,o3 35 60 32 33 34,oM 31 35,oE 36 31 0,oE 37 31 1,oM 10 36,oM 11 37]) (oV (oR [oM 38 10,oM 39 11,oM 6 38,oM 7 39,oN 8 0]) .ret))))))
theorem zJQ (h:AHeap) (vt vf:Value) (T:List LType) (F:List LFn) (f r:Int) (E:En h vt vf T F):
  WC Tryz.prog tb 28 [.agg #[vt,vf],I f,I r] h fun q h'=>q= .tuple #[I (zj T F f r).1,I (zj T F f r).2.1,I (zj T F f r).2.2]∧Ext h h':=by
 refine en 40 [(6,none),(7,none),(8,none)] zRP ?_;refine WO.bx ?_;intro p h1 e1 o1;have E1:=E.ext e1;refine go ?_;refine WO.con (zH5 h1 vt vf T F f E1) ?_;rintro _ h2 ⟨rfl,e2⟩;have o1:=o1.ext e2;have e02:=e1.trans e2;have E2:=E1.ext e2;by_cases ha:(zc T F f).2=0;case neg=>
  have ha':(zc T F f).2≠0:=ha;have hp:zj T F f r=(0,0,(zc T F f).2):=by unfold zj;rw[if_pos ha]
  rw[hp];refine gr ?_;exact⟨rfl,e02⟩
 have hin:=zB3 ha;have hpl:=zG9 (r:=r) ha;have hsig:=zLz ha;have hf:0≤f∧f<(F.length:Int):=⟨hin.1,hin.2.1⟩;rw[hpl,ha];clear hpl hin;by_cases c1:r<0
 ·rw[if_pos (.inl c1)];refine gr ?_;exact⟨rfl,e02⟩
 refine go ?_;refine WO.con (zJE h2 vt vf T F f E2 hf hsig) ?_;rintro _ h3 ⟨rfl,e3⟩;have o1:=o1.ext e3;have e03:=e02.trans e3;have E3:=E2.ext e3;by_cases c2:((T.getD (F.getD f.toNat default).sig.toNat default).parts.length:Int)+zW (F.getD f.toNat default).blocks≤r
 ·rw[if_pos (.inr c2)];refine gr ?_;exact⟨rfl,e03⟩
 rw[if_neg (by omega)];refine go ?_;refine WO.con (zDo h3 vt vf T F f r E3 hf hsig) ?_;rintro _ h4 ⟨rfl,e4⟩;refine gr ?_;exact⟨rfl,e03.trans e4⟩
def zPe:ACode:=(oV (oR [oX 5 0,oZ 10]) (oV (oR [oA 2 14 5,oM 15 1,oM 16 2,o3 17 60 14 15 16,oM 13 17,oE 18 13 0,oE 19 13 1,oM 11 18,oM 12 19]) (oV (oV (oR [oM 20 11,oC .lss 21 20 0]) (oJ 21 (oV (oR [oK 10 (.bool true)]) .ret) .skip)) (oV (oV (oR [oM 22 11,oM 23 3,oB .eql 24 22 23]) (oJ 24 (oV (oR [oM 25 12,oM 26 4,oB .lss 27 25 26,oM 10 27]) .ret) .skip)) (oV (oR [oF 1 28 5,oL 29 28,oM 30 1,oI 2 31 29 30,oF 1 32 31,oL 33 32,oM 34 11,oM 35 3,o3 36 205 33 34 35,oM 10 36]) .ret)))))
theorem zF3 (h:AHeap) (vt vf:Value) (T:List LType) (F:List LFn) (f r block at':Int) (E:En h vt vf T F) (hp:(zj T F f r).2.2=0) (ha:Zp T F f block=0):
  WC Tryz.prog tb 182 [.agg #[vt,vf],I f,I r,I block,I at'] h fun q h'=>(∃ bb,q= .bool bb∧(bb=true↔zPA T F f r block at'))∧Ext h h':=by
 obtain⟨hask,hpin⟩:=zK6 hp;have hin:=zB3 hask;have hsig:=zLz hask;have hF:=E.sm.funcs;have hf:0≤f∧f<(F.length:Int):=⟨hin.1,hin.2.1⟩;have hpl:=zG9 (r:=r) hask;have hpl2:(zj T F f r).1=(Zi ((T.getD (F.getD f.toNat default).sig.toNat default).parts.length:Int) (F.getD f.toNat default).blocks r).1∧(zj T F f r).2.1=(Zi ((T.getD (F.getD f.toNat default).sig.toNat default).parts.length:Int) (F.getD f.toNat default).blocks r).2:=by
  rw[hpl]at hp ⊢;split at hp
  ·cases hp
  ·rename_i h1;rw[if_neg h1];exact⟨rfl,rfl⟩
 obtain⟨hz,wb⟩:=zIW ha;have hbb:=zRs hz wb;obtain⟨h1z,h2z,hzb,h4z⟩:=yr hz;obtain⟨hlen,hnx⟩:=ZA hz;have hrd:=Hid.mk (zKU (a:=(zj T F f r).1) wb);unfold zPA;unfold nxF at hrd ⊢;rw[hzb]at hlen hnx hbb hrd ⊢;rw[hpl2.1]at hpin hrd ⊢;rw[hpl2.2]at hpin ⊢;clear hpl hpl2 hp hzb h2z;obtain⟨ta,tn,tk,rfl⟩:=zF E.st;obtain⟨ga,gn,gk,rfl⟩:=zF E.sf;refine en 37 [(10,none)] zPe ?_;refine WO.bx ?_;intro p h1 e1 o1;have E1:=E.ext e1;refine go ?_;refine WO.con (zDo h1 _ _ T F f r E1 hf hsig) ?_;rintro _ h2 ⟨rfl,e2⟩;have o1:=o1.ext e2;have e02:=e1.trans e2;have E2:=E1.ext e2;have sf2:=E2.sf;obtain⟨csF,⟨vb,rfl,sb,hlb⟩,pcF,hsF⟩:=zd (i:=f.toNat) sf2 (by omega);obtain⟨_,_,_,rfl⟩:=zF sb;generalize (Zi ((T.getD (F.getD f.toNat default).sig.toNat default).parts.length:Int) (F.getD f.toNat default).blocks r).1=pb at *;generalize (Zi ((T.getD (F.getD f.toNat default).sig.toNat default).parts.length:Int) (F.getD f.toNat default).blocks r).2=pn at *;generalize (F.getD f.toNat default).blocks=L at *;by_cases c1:pb= -1
 ·refine gr ?_;exact⟨⟨_,rfl,by simp[c1]⟩,e02⟩
 have hpb:0≤pb∧pb<(L.length:Int):=by
  rcases hpin with h|h
  ·exact absurd h c1
  ·exact⟨h.1,h.2.1⟩
 by_cases c2:pb=block
 ·refine gr ?_;refine⟨⟨_,rfl,?_⟩,e02⟩;rw[decide_eq_true_iff];exact⟨fun h=> .inr (.inl ⟨c2,h⟩),fun h=>by
   rcases h with h|h|h
   ·exact absurd h c1
   ·exact h.2
   ·exact absurd c2 h.2.1⟩
 ·refine go ?_;refine WO.con (zM5 h2 _ L pb block E2.hm sb hlen hpb hbb hnx) ?_;rintro _ h3 ⟨⟨q,rfl,hq⟩,e3⟩;refine gr ?_;refine⟨⟨_,rfl,?_⟩,e02.trans e3⟩;rw[hq,hrd.out];exact⟨fun h=> .inr (.inr ⟨c1,c2,h⟩),fun h=>by
   rcases h with h|h|h
   ·exact absurd h c1
   ·exact absurd h.1 c2
   ·exact h.2.2⟩
end
end Go.Proofs.YteekipjpghikkaaGreatDoor
