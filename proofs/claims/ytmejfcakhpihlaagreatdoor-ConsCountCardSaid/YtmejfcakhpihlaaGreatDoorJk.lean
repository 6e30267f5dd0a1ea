/- What functions of the program come to in the abstract machine, and plain laws about it; no statement of the seat is proved in this text. -/
import Derived.Test.YtmejfcakhpihlaaGreatDoorJj
import Derived.Test.YtmejfcakhpihlaaGreatDoorJj
import Derived.Test.YtmejfcakhpihlaaGreatDoorJj
import Derived.Test.YtmejfcakhpihlaaGreatDoorAmV
import Derived.Test.YtmejfcakhpihlaaGreatDoorAmU
import Derived.Test.YtmejfcakhpihlaaGreatDoorJb
import Derived.Test.YtmejfcakhpihlaaGreatDoorJi
import Derived.Test.YtmejfcakhpihlaaGreatDoorJh
set_option linter.unusedVariables false
set_option linter.unusedSimpArgs false
set_option maxHeartbeats 2000000
namespace Go.Proofs.YtmejfcakhpihlaaGreatDoor
noncomputable section
open Go.Am
set_option maxRecDepth 100000
structure CW (hB h:Uz)(vT pT pF pR vR:Value)(l:List Int):Prop where
 tT:U3 hB h pT [vT]
 tF:U3 hB h pF [.func (.func 221) #[] #[pT,pF,pR]]
 tR:U3 hB h pR [vR]
 own:WH hB h vR l
 fT:WI pR pT
 fF:WI pR pF
 vt:WI vR pT
 vf:WI vR pF
 vr:WI vR pR
 ext:U5 hB h
theorem CW.ext' {hB h h':Uz}{vT pT pF pR vR:Value}{l:List Int}(w:CW hB h vT pT pF pR vR l)(e:U5 h h'):CW hB h' vT pT pF pR vR l:=
 ⟨w.tT.ext e,w.tF.ext e,w.tR.ext e,w.own.ext e,w.fT,w.fF,w.vt,w.vf,w.vr,w.ext.trans e⟩
def zKu:U0:=(oV (oR [oB .lss 24 23 22]) (oV (oT 24 1) (oV (o5 2 (oV (oR [oI 1 25 21 23,oL 26 25,oM 7 26]) (oR [oL 27 2,oM 28 7,⟨some 29,none,(.call (.tmp 27) [(.tmp 28)])⟩]))) (oR [oC .add 30 23 1,oM 23 30]))))
def zKy:U0:=(oV (oR [oB .lss 36 35 34]) (oV (oT 36 3) (oV (o5 4 (oR [oL 37 2,oF 1 38 5,oL 39 38,⟨some 40,none,(.call (.tmp 37) [(.tmp 39)])⟩])) (oR [oC .add 41 35 1,oM 35 41]))))
def zPl:U0:=(oV (oR [oL 8 1,oM 9 0,oI 4 10 8 9,oA 4 11 10,⟨some 5,none,(.alloc [(.int .u8 0),(.int .i64 0),(.int .i64 0),(.slice none 0 0)])⟩,oS 4 5 11]) (oV (oR [oF 0 12 5,oL 13 12]) (o5 0 (oV (oR [oD .eql 19 13 4,oM 18 19]) (oJ 18 (oV (oR [oF 3 20 5,oL 21 20,oQ 22 21,oN 23 0]) (o5 1 (.loop zKu))) (oV (oR [oD .eql 32 13 5,oM 31 32]) (oJ 31 (oV (oR [oF 2 33 5,oL 34 33,oN 35 0]) (o5 3 (.loop zKy))) (oR [oL 14 3,oM 15 0,⟨some 16,none,(.buildSlice 1 1 [(.int .i64 0)] [(0,1,(.tmp 15))])⟩,oY 1 17 14 16,oS 1 3 17]))))))))
theorem zK3 (hB:Uz)(vT pT pF pR:Value)(T:List U2)(st:Wr hB vT T)(hT:(T.length:Int)<=1000):∀ (n k:Nat) (h:Uz) (vR:Value) (l:List Int),k<n->k<T.length->zLG T k->ZV T k->CW hB h vT pT pF pR vR l->l.length+(BL T k).length<=100->
  WC Tryz.prog tb 221 [I k,pT,pF,pR] h fun r h'=>∃ vR',CW hB h' vT pT pF pR vR' (l++BL T k)/\WL pR vR h h' vR':=by
 obtain⟨t1,t2,t3,rfl⟩:=zF st;intro n;induction n with
 |zero=>intro k h vR l hk;omega
 |succ n ih=>
  intro k h vR l hkn hk hlow hM w hl;have hof:=zAr (T:=T) (k:=k) fun j hj=>by
   by_cases e:j=k
   ·subst e;exact hM
   ·exact(hlow j (by omega)).1
  have hXt:=w.ext;have st0:=st.ext w.ext;have h4':=zGe hM;have h5':=zI2 hM;obtain⟨cs,⟨va,rfl,sa,hla⟩,pc,hs⟩:=zp (i:=k) st hk;replace pc:=(pc _ hXt).1;rw[hof]at hl |-;clear hof;generalize T.getD k default=x at *;obtain⟨a1,a2,a3,rfl⟩:=WZ.shape sa;have oT:=w.tT;have oF:=w.tF;have oR:=w.tR;refine en 42 [] zPl ?_;refine WO.al ?_;intro p h1 e1 o1;refine go ?_;refine VG o1 e1 ?_;intro h2 e2 o2 _;have w2:=w.ext' e2;have sa2:=sa.ext w2.ext;have f1:WI pR p:=(VF o2.since' w.tR.within).symm;have f2:WI vR p:=(VF o2.since' w.own.within).symm;by_cases h4:x.kind=4
  ·have hp:=h4' h4;simp only[h4,Q3]at hl |-;have hp8:=hp.1;replace hp:=WW.mk hp;replace hlow:=WW.mk hlow;refine go ?_;refine VD [24,25,26,7,27,28,29,30,23] (by kernel_rfl) (fun i=>x.parts.length - i) (fun i t h3=>zB t 23=I i/\i<=x.parts.length/\∃ vR',CW hB h3 (.slice t1 t2 t3) pT pF pR vR' (l++((x.parts.take i).map fun p=>BL T p.toNat).flatten)/\WL pR vR h2 h3 vR') 0 ?_ ?_
   ·exact⟨U7,QT _,vR,by simpa using w2,WL.refl ..⟩
   rintro i t h3 hsame ⟨s7,hi,vR',w3,k3⟩;have sa3:=sa.ext w3.ext;have o3T:=w3.tT;have o3F:=w3.tF;refine go ?_;refine VE (fun hc=> ?_) (fun hc=> ?_)<;>simp only[DB]at hc
   ·have hi':i<x.parts.length:=by omega
    have hpi:=hp.out.2 _ (zq hi');have hsucc:=zMR (f:=fun p=>BL T p.toNat) hi';have hsum:((x.parts.take (i+1)).map fun p=>BL T p.toNat).flatten.length<=(x.parts.map fun p=>BL T p.toNat).flatten.length:=by
     conv=>rhs;rw[<-GK (i+1) x.parts]
     rw[Qr,List.flatten_append,QM];omega
    obtain⟨q,hq⟩:∃ q:Nat,x.parts.getD i 0=q:=⟨(x.parts.getD i 0).toNat,by omega⟩;have hqk:q<k:=by omega
    have hdef:x.parts.getD i default=(q:Int):=hq;rw[hdef]at hsucc;simp only[QU]at hsucc;rw[hsucc,QM]at hsum;refine go ?_;rw[hq];refine VN (WV.func (ih q h3 vR' _ (by omega) (by omega) (fun j hj=>hlow.out j (by omega)) (hlow.out q hqk).1 w3 (by rw[QM];omega))) ?_;rintro r h4 ⟨vR4,w4,k4⟩;refine go ?_;exact zA (i+1) (by omega) ⟨Wo,by omega,vR4,by rw[hsucc,<-QZ];exact w4,k3.trans k4⟩
   ·have hii:i=x.parts.length:=by omega
    subst hii;rw[Q8]at w3;refine go ?_;refine W5 ?_;exact⟨vR',w3,(WL.ext e2).trans k3⟩
  by_cases h5:x.kind=5
  ·have hp:=h5' h5;obtain⟨q,hq⟩:∃ q:Nat,x.elem=q:=⟨x.elem.toNat,by omega⟩;obtain⟨m,hm⟩:∃ m:Nat,x.many=m:=⟨x.many.toNat,by omega⟩;have hqk:q<k:=by omega
   simp only[h5,Q3,Gi,show ¬((5:Int)=4) by decide,hq,hm,QU]at hl |-;replace hlow:=WW.mk hlow;rw[zBb]at hl;refine go ?_;refine VD [36,37,38,39,40,41,35] (by kernel_rfl) (fun i=>m - i) (fun i t h3=>zB t 35=I i/\i<=m/\∃ vR',CW hB h3 (.slice t1 t2 t3) pT pF pR vR' (l++(List.replicate i (BL T q)).flatten)/\WL pR vR h2 h3 vR') 0 ?_ ?_
   ·exact⟨U7,QT _,vR,by simpa using w2,WL.refl ..⟩
   rintro i t h3 hsame ⟨s7,hi,vR',w3,k3⟩;have o3T:=w3.tT;have o3F:=w3.tF;have o3p:=(VP o2 k3 f1 f2).1;refine go ?_;rw[hm];refine go ?_;refine VE (fun hc=> ?_) (fun hc=> ?_)<;>simp only[DB]at hc
   ·have hi':i<m:=by omega
    have hmul:(i+1) * (BL T q).length<=m * (BL T q).length:=GY _ hi';rw[JB]at hmul;refine go ?_;rw[hq];refine VN (WV.func (ih q h3 vR' _ (by omega) (by omega) (fun j hj=>hlow.out j (by omega)) (hlow.out q hqk).1 w3 (by rw[QM,zBb];omega))) ?_;rintro r h4 ⟨vR4,w4,k4⟩;refine go ?_;refine zA (i+1) (by omega) ⟨Wo,by omega,vR4,?_,k3.trans k4⟩;rw[List.replicate_succ',List.flatten_append,<-QZ];simpa using w4
   ·have hii:i=m:=by omega
    subst hii;refine go ?_;refine W5 ?_;exact⟨vR',w3,(WL.ext e2).trans k3⟩
  ·simp only[h4,h5,Gi]at hl |-;have o2T:=w2.tT;have o2F:=w2.tF;have o2R:=w2.tR;refine go ?_;refine WO.bl [(k:Int)] ?_;intro v h3 e3 o3;have w3:=w2.ext' e3;refine go ?_;refine V1 w3.own o3.sl w3.ext (by simp) (by simp at hl |-;omega) ?_;intro v4 h4 e4 o4 u4;have tR4:=w3.tR.upB u4.upB w3.vr;have sn:=WH.since' (.inr o4);have oT4:=w3.tT.upB u4.upB w3.vt;have oF4:=w3.tF.upB u4.upB w3.vf;obtain⟨g4,q1,q2,rfl,q3⟩:=id o4;refine go ?_;refine VG tR4 e4 ?_;intro h5 e5 o5 u5;refine go ?_;refine W5 ?_;have hv:WI _ pR:=VF sn w3.tR.within;refine⟨_,⟨oT4.upB u5.upB w3.fT,oF4.upB u5.upB w3.fF,o5,WH.upB (.inr (o4.since w3.ext)) u5.upB hv.symm,w3.fT,w3.fF,VF sn w3.tT.within,VF sn w3.tF.within,hv,e5⟩,?_⟩;refine(WL.ext (e2.trans e3)).trans ⟨QO u4.1 u5.1,fun g hg h1 h2=> ?_,fun b hb=> .inr (sn b hb)⟩;rw[u5.upB.2 g (QG hg u4.1) h1,u4.upB.2 g hg h2]
def zSG:U0:=(oV (oR [oX 2 0,⟨some 4,none,(.alloc [(.slice none 0 0)])⟩]) (oV (oR [⟨some 5,none,(.alloc [.nilFunc])⟩]) (oV (oR [⟨some 6,none,(.mkFunc (.func 221) [] [(.tmp 2),(.tmp 5),(.tmp 4)])⟩,oS 1 5 6]) (oV (oR [oL 7 5,oM 8 1,⟨some 9,none,(.call (.tmp 7) [(.tmp 8)])⟩]) (oV (oR [oL 10 4,oS 1 4 10]) .ret)))))
theorem zOH (h:Uz)(vT:Value)(T:List U2)(k:Nat)(st:Wr h vT T)(hT:(T.length:Int)<=1000)(hk:k<T.length)(hlow:∀ j,j<T.length->ZV T j/\(BL T j).length<=32):
  WC Tryz.prog tb 191 [vT,I k] h fun r h'=>WH h h' r (BL T k)/\U5 h h':=by
 obtain⟨t1,t2,t3,rfl⟩:=zF st;refine en 11 [(4,some (false,1))] zSG ?_;refine VI ?_;intro pT h1 e1 oT;refine go ?_;refine WO.al ?_;intro pR h2 e2 oR;refine go ?_;refine WO.al ?_;intro pF h3 e3 oF;refine go ?_;refine VG (cs:=[.func (.func 221) #[] #[pT,pF,pR]]) oF e3 ?_;intro h4 e4 oF4 _;have e04:=e1.trans (e2.trans e4);have oT:U3 h h1 pT [.slice t1 t2 t3]:=oT;have a1:=VF oR.since' oT.within;have a2:=VF oF4.since' oR.within;have w:CW h h4 (.slice t1 t2 t3) pT pF pR (.slice none 0 0) []:=
  ⟨oT.ext (e2.trans e4),oF4.since (e1.trans e2),(oR.ext e4).since e1,.inl ⟨rfl,rfl⟩,a1,a2.symm,(fun b hb=>by cases hb),(fun b hb=>by cases hb),(fun b hb=>by cases hb),e04⟩
 have hwF:=w.tF;have hl:=hlow k hk;refine go ?_;refine VN (WV.func (zK3 h _ pT pF pR T st hT (k+1) k h4 _ [] (by omega) hk (fun j hj=>hlow j (by omega)) hl.1 w (by simp;omega))) ?_;rintro r h5 ⟨vR,w5,k5⟩;rw[GQ]at w5;have ow:=w5.own;obtain⟨r1,r2,r3,rfl⟩:=WZ.shape ow.sl;have o5:=w5.tR;refine go ?_;refine VG o5 w5.ext ?_;intro h6 e6 o6 u6;refine go ?_;refine rt ?_ (Vc U7 o6 rfl BC.nil);exact⟨ow.upB u6.upB w5.vr.symm,e6⟩
def zSR:U0:=(oV (oR [oK 4 (.slice none 0 0),oN 5 0]) (oV (oV (oR [oM 7 0,oM 8 1,o2 9 190 7 8,oM 6 9]) (oV (oR [oM 10 6,oC .neq 11 10 0]) (oJ 11 (oV (oR [oM 12 6,oK 4 (.slice none 0 0),oM 5 12]) .ret) .skip))) (oV (oR [oM 13 0,oM 14 1,o2 15 191 13 14,oM 4 15,oN 5 0]) .ret)))
theorem zNQ (h:Uz)(vT:Value)(T:List U2)(k:Int)(st:Wr h vT T)(hT:T.length<=100)(hp:∀ x∈T,x.parts.length<=100)(hc:yp T=0)(hk:0<=k/\k<(T.length:Int)):
  WC Tryz.prog tb 131 [vT,I k] h fun r h'=>(∃ v,r= .tuple #[v,I 0]/\WH h h' v (BL T k.toNat))/\U5 h h':=by
 obtain⟨k,rfl⟩:∃ q:Nat,k=q:=⟨k.toNat,by omega⟩;obtain⟨t1,t2,t3,rfl⟩:=zF st;have hl:∀ j,j<T.length->ZV T j/\(BL T j).length<=32:=by
  have h1:=hc;rw[zBy]at h1;split at h1
  ·cases h1
  ·split at h1
   ·assumption
   ·cases h1
 refine en 16 [(4,none),(5,none)] zSR ?_;refine VA (zFs h _ T k st hT hp hc hk) ?_;rintro _ h2 ⟨rfl,e2⟩;have st2:=Wr.ext st e2;refine go ?_;refine VA (zOH h2 _ T k st2 (by omega) (by omega) hl) ?_;rintro v h3 ⟨o3,e3⟩;refine gr ?_;exact⟨⟨v,rfl,o3.since e2⟩,e2.trans e3⟩
set_option maxRecDepth 100000
theorem zGq {T:List U2}(h1:yp T=0):∀ j,j<T.length->ZV T j/\(BL T j).length<=32:=by
 rw[zBy]at h1;split at h1
 ·cases h1
 ·split at h1
  ·assumption
  ·cases h1
structure KW (hB h:Uz)(vT p vA:Value)(b:Nat)(o:Bool)(fid:FuncId)(s:Int)(l:List Int):Prop where
 own:U3 hB h p [vT,.bool o,.func (.func fid) #[] #[],I s,vA]
 lst:WR 1 RI b h vA l
 pb:∀ g,p= .pointer (some ⟨g,0,none⟩)->g<b
 bn:b<=h.n
 ext:U5 hB h
theorem KW.off {hB h:Uz}{vT p vA:Value}{b:Nat}{o:Bool}{fid:FuncId}{s:Int}{l:List Int}(w:KW hB h vT p vA b o fid s l):WI p vA:=by
 obtain⟨g,_,_,rfl,_⟩:=w.own;have hg:=w.pb g rfl;intro c hc hv;cases hc;rcases w.lst with ⟨rfl,_⟩|⟨g2,_,_,g3,_,rfl,_⟩
 ·cases hv
 ·cases hv;exact Nat.lt_irrefl _ (QG hg g3)
def zMp:U0:=(oV (oR [oB .lss 51 50 49]) (oV (oT 51 1) (oV (o5 2 (oV (oR [oI 1 52 48 50,oL 53 52,oM 6 53]) (oR [oM 54 0,oM 55 6,o2 56 133 54 55]))) (oR [oC .add 57 50 1,oM 50 57]))))
def zLW:U0:=(oV (oR [oB .lss 69 68 67]) (oV (oT 69 3) (oV (o5 4 (oV (oR [oM 70 68,oM 9 70]) (oV (oV (oR [oM 71 0,⟨some 72,none,(.nilCheck (.tmp 71))⟩,oF 1 73 72,oL 74 73,oM 75 74,oG 75 (oM 76 9),oG 75 (oC .gtr 77 76 0),oP 78 75 77]) (oJ 78 (.exit 3) .skip)) (oV (oR [oM 79 0,oM 80 7,⟨some 81,none,(.nilCheck (.tmp 79))⟩,oF 3 82 81,oS 1 82 80]) (oR [oM 83 8,oF 1 84 4,oL 85 84,⟨some 86,none,(.call (.tmp 83) [(.tmp 85)])⟩]))))) (oR [oC .add 87 68 1,oM 68 87]))))
def zSQ:U0:=(oV (oR [oM 10 0,⟨some 11,none,(.nilCheck (.tmp 10))⟩,oF 0 12 11,oL 13 12,oM 14 1,oI 4 15 13 14,oA 4 16 15,⟨some 4,none,(.alloc [(.int .u8 0),(.int .i64 0),(.int .i64 0),(.slice none 0 0)])⟩,oS 4 4 16]) (oV (oR [oF 0 17 4,oL 18 17]) (o5 0 (oV (oR [oD .eql 46 18 4,oM 45 46]) (oJ 45 (oV (oR [oF 3 47 4,oL 48 47,oQ 49 48,oN 50 0]) (o5 1 (.loop zMp))) (oV (oR [oD .eql 59 18 5,oM 58 59]) (oJ 58 (.scope (oV (oR [oM 60 0,⟨some 61,none,(.nilCheck (.tmp 60))⟩,oF 3 62 61,oL 63 62,oM 7 63]) (oV (oR [oM 64 0,⟨some 65,none,(.mkFunc (.func 133) [(.tmp 64)] [])⟩,oM 8 65]) (oV (.label 0) (oV (oR [oF 2 66 4,oL 67 66,oN 68 0]) (o5 3 (.loop zLW))))))) (oV (o6 [oM 19 0,oM 20 0,(⟨some 21,none,(.nilCheck (.tmp 20))⟩,[]),oF 4 22 21,oL 23 22,oM 24 0,(⟨some 25,none,(.nilCheck (.tmp 24))⟩,[]),oF 2 26 25,oL 27 26,oM 28 1,oM 29 0,(⟨some 30,none,(.nilCheck (.tmp 29))⟩,[]),oF 3 31 30,oL 32 31,(⟨some 33,none,(.call (.tmp 27) [(.tmp 28),(.tmp 32)])⟩,[4]),(⟨some 34,none,(.buildSlice 1 1 [(.int .i64 0)] [(0,1,(.tmp 33))])⟩,[]),oY 1 35 23 34,(⟨some 36,none,(.nilCheck (.tmp 19))⟩,[]),oF 4 37 36,oS 1 37 35]) (oR [oM 38 0,⟨some 39,none,(.nilCheck (.tmp 38))⟩,oF 3 40 39,oL 41 40,oC .add 42 41 1,⟨some 43,none,(.nilCheck (.tmp 38))⟩,oF 3 44 43,oS 1 44 42])))))))))
theorem zSN (hB:Uz)(hmB:hB.mark<=hB.n)(vT p:Value)(b:Nat)(o:Bool)(fid:FuncId)(T:List U2)(st:Wr hB vT T)(hT:(T.length:Int)<=1000)
  (hf:∀ (h:Uz) (k:Nat) (s:Int),WC Tryz.prog tb fid [I k,I s] h fun r h'=>r=I (if o then (k:Int) else s)/\h=h'):∀ (n k:Nat) (h:Uz) (vA:Value) (s:Int) (l:List Int),k<n->k<T.length->zLG T k->ZV T k->KW hB h vT p vA b o fid s l->hB.n<=b->0<=s->s+300 * k<=1000000000->l.length+600 * k<=90000->
  WC Tryz.prog tb 133 [p,I k] h fun r h'=>∃ vA',KW hB h' vT p vA' b o fid (s+(yX T k).length) (l++wkL T o s k)/\WL p vA h h' vA':=by
 obtain⟨t1,t2,t3,rfl⟩:=zF st;intro n;induction n with
 |zero=>intro k h vA s l hk;omega
 |succ n ih=>
  intro k h vA s l hkn hk hlow hM w hb s0 s1 hl;have hall:∀ j,j<=k->ZV T j:=fun j hj=>by
   by_cases e:j=k
   ·subst e;exact hM
   ·exact(hlow j (by omega)).1
  have hXt:=w.ext;have st0:=st.ext w.ext;have h4':=zGe hM;have h5':=zI2 hM;obtain⟨cs,⟨va,rfl,sa,hla⟩,pc,hs⟩:=zp (i:=k) st hk;replace pc:=(pc _ hXt).1;have h32:∀ q,q<k->(yX T q).length<=32/\(∀ s',(wkL T o s' q).length<=32)/\(Bu T q).2=(yX T q).length:=fun q hq=>by
   have h1:=(hlow q hq).2;have h2:∀ j,j<=q->ZV T j:=fun j hj=>hall j (by omega);exact⟨QO (zD3 (q+1) q (GD _) h2) h1,fun s'=>QO (zTS h2) h1,(zKH (q+1) q (GD _) h2).1⟩
  rw[zBL hall,zJy hall];generalize T.getD k default=x at *;obtain⟨a1,a2,a3,rfl⟩:=WZ.shape sa;have oW:=w.own;obtain⟨gp,_,_,rfl,_⟩:=id oW;refine en 88 [] zSQ ?_;refine WO.al ?_;intro p4 h1 e1 o1;refine go ?_;refine VG o1 e1 ?_;intro h2 e2 o2 _;have oW2:=oW.ext e2;have w2:KW hB h2 (.slice t1 t2 t3) (.pointer (some ⟨gp,0,none⟩)) vA b o fid s l:=⟨oW2,WR.ext w.lst e2,w.pb,QO w.bn e2.n,w.ext.trans e2⟩;have sa2:=sa.ext w2.ext;have f2:WI vA p4:=(VF o2.since' w.lst.within).symm;have f1:WI (.pointer (some ⟨gp,0,none⟩)) p4:=(VF o2.since' oW.within).symm;replace h32:=WW.mk h32;replace hall:=WW.mk hall;by_cases h4:x.kind=4
  ·have hp:=h4' h4;simp only[h4,Q3];have hp8:=hp.1;replace hp:=WW.mk hp;replace hlow:=WW.mk hlow;have hN:WW (∀ i,∀ p∈x.parts.take i,(Bu T p.toNat).2=(yX T p.toNat).length):=⟨fun i p hpp=>(h32.out p.toNat (by have:=hp.out.2 p (Ge hpp);omega)).2.2⟩;refine go ?_;refine VD [51,52,53,6,54,55,56,57,50] (by kernel_rfl) (fun i=>x.parts.length - i) (fun i t h3=>zB t 50=I i/\i<=x.parts.length/\∃ vA',KW hB h3 (.slice t1 t2 t3) (.pointer (some ⟨gp,0,none⟩)) vA' b o fid (s+(((x.parts.take i).map fun p=>yX T p.toNat).flatten.length:Int)) (l++zFB T o s (x.parts.take i))/\WL (.pointer (some ⟨gp,0,none⟩)) vA h2 h3 vA'/\(zFB T o s (x.parts.take i)).length<=32 * i) 0 ?_ ?_
   ·refine⟨U7,QT _,vA,?_,WL.refl ..,?_⟩
    ·have:zFB T o s []=[]:=by cases o<;>rfl
     simpa [this]using w2
    ·have:zFB T o s []=[]:=by cases o<;>rfl
     simp[this]
   rintro i t h3 hsame ⟨s7,hi,vA',w3,k3,hwl⟩;have sa3:=sa.ext w3.ext;refine go ?_;refine VE (fun hc=> ?_) (fun hc=> ?_)<;>simp only[DB]at hc
   ·have hi':i<x.parts.length:=by omega
    have hpi:=hp.out.2 _ (zq hi');obtain⟨q,hq⟩:∃ q:Nat,x.parts.getD i 0=q:=⟨(x.parts.getD i 0).toNat,by omega⟩;have hqk:q<k:=by omega
    have htk:x.parts.take (i+1)=x.parts.take i++[(q:Int)]:=by
     rw[GE,QD hi',<-hq];simp[List.getD,QD hi']
    have hsn:=zOD (o:=o) (s:=s) (q:=(q:Int)) (hN.out i);have hfl:=zH0 (l:=x.parts.take i) (f:=fun p=>yX T p.toNat) fun p hpp=>(h32.out p.toNat (by have:=hp.out.2 p (Ge hpp);omega)).1;have hti:(x.parts.take i).length<=i:=List.length_take_le _ _;have h32q:=h32.out q hqk;rw[QU]at hsn;have hfs:((x.parts.take (i+1)).map fun p=>yX T p.toNat).flatten.length=((x.parts.take i).map fun p=>yX T p.toNat).flatten.length+(yX T q).length:=by
     rw[htk];simp
    refine go ?_;rw[hq];refine VA (ih q h3 vA' _ _ (by omega) (by omega) (fun j hj=>hlow.out j (by omega)) (hlow.out q hqk).1 w3 hb (by omega) (by omega) (by rw[QM];omega)) ?_;rintro r h4 ⟨vA4,w4,k4⟩;refine go ?_;refine zA (i+1) (by omega) ⟨Wo,by omega,vA4,?_,k3.trans k4,?_⟩
    ·rw[hfs,htk,hsn,<-QZ,Int.natCast_add,<-Int.add_assoc];exact w4
    ·rw[htk,hsn,QM];have:=h32q.2.1 (s+(((x.parts.take i).map fun p=>yX T p.toNat).flatten.length:Int));omega
   ·have hii:i=x.parts.length:=by omega
    subst hii;rw[Q8]at w3;refine go ?_;refine W5 ?_;exact⟨vA',w3,(WL.ext e2).trans k3⟩
  by_cases h5:x.kind=5
  ·have hp:=h5' h5;obtain⟨q,hq⟩:∃ q:Nat,x.elem=q:=⟨x.elem.toNat,by omega⟩;obtain⟨m,hm⟩:∃ m:Nat,x.many=m:=⟨x.many.toNat,by omega⟩;have hqk:q<k:=by omega
   simp only[h5,Q3,Gi,show ¬((5:Int)=4) by decide,hq,hm,QU];replace hlow:=WW.mk hlow;refine go ?_;refine Vx ?_;refine go ?_;refine VD [69,70,9,71,72,73,74,75,76,77,78,79,80,81,82,83,84,85,86,87,68] (by kernel_rfl) (fun i=>m - i) (fun i t h3=>zB t 68=I i/\i<=m/\(o=true->i<=1)/\∃ vA',KW hB h3 (.slice t1 t2 t3) (.pointer (some ⟨gp,0,none⟩)) vA' b o fid (if i=0 then s else s+((yX T q).length:Int)) (l++if o then (if i=0 then [] else yX T q) else (List.replicate i (wkL T o s q)).flatten)/\WL (.pointer (some ⟨gp,0,none⟩)) vA h2 h3 vA') 0 ?_ ?_
   ·exact⟨U7,QT _,fun _=>QT _,vA,by cases o<;>simpa using w2,WL.refl ..⟩
   rintro i t h3 hsame ⟨s7,hi,hoi,vA',w3,k3⟩;have o3p:=(VP o2 k3 f1 f2).1;have oW3:=w3.own;refine go ?_;rw[hm];refine go ?_;refine VE (fun hc=> ?_) (fun hc=> ?_)<;>simp only[DB]at hc
   ·have hi':i<m:=by omega
    by_cases hox:o=true/\i≠0
    ·obtain⟨rfl,hi0⟩:=hox;have hi1:i=1:=by have:=hoi rfl;omega
     subst hi1;refine go ?_;refine W5 ?_;exact⟨vA',by simpa using w3,(WL.ext e2).trans k3⟩
    ·have hw:(if o then (if i=0 then [] else yX T q) else (List.replicate i (wkL T o s q)).flatten)++wkL T o s q=(if o then (if i+1=0 then [] else yX T q) else (List.replicate (i+1) (wkL T o s q)).flatten)/\(if o then (if i=0 then [] else yX T q) else (List.replicate i (wkL T o s q)).flatten).length<=32 * i:=by
      cases o with
      |true=>
       have:i=0:=by have:=hoi rfl;exact Gh fun h=>hox ⟨rfl,h⟩
       subst this;simp[wkL]
      |false=>
       simp only[Qn,Gi];rw[List.replicate_succ',List.flatten_append];have:=(h32.out q hqk).2.1 s;have h2:=zBb i (wkL T false s q);have h3:=Nat.mul_le_mul_left i this;exact⟨by simp,by omega⟩
     have hsk:o=true->i=0:=fun h=>Gh fun h2=>hox ⟨h,h2⟩;have hof:=w3.off;have f3:=(VP o2 k3 f1 f2).2;have h32q:=h32.out q hqk;cases o;all_goals
      first|(have hi0:i=0:=hsk rfl)|skip
      refine go ?_
      refine VZ (j:=3) (cs:=[I s]) (hl:=by simp) oW3 w3.ext ?_
      intro h4 e4 oW4 u4
      replace oW4:U3 hB h4 (.pointer (some ⟨gp,0,none⟩)) [.slice t1 t2 t3,.bool _,.func (.func fid) #[] #[],I s,vA']:=oW4
      have o4p:=U3.upB o3p u4.upB f1
      have w4:=KW.mk oW4 (WR.upB (fun _ _ _ _ h=>h) w3.lst u4.upB hof) w3.pb (QO w3.bn u4.1) e4
      refine go ?_
      rw[hq]
      refine VN (WV.func (ih q h4 vA' s _ (by omega) (by omega) (fun j hj=>hlow.out j (by omega)) (hlow.out q hqk).1 w4 hb s0 (by omega) (by rw[QM];omega))) ?_
      rintro r h5 ⟨vA5,w5,k5⟩
      refine go ?_
      refine zA (i+1) (by omega) ⟨Wo,by omega,(fun h=>by first|omega|cases h),vA5,?_,k3.trans (WL.trans ⟨u4.1,fun g hg h1 _=>u4.upB.2 g hg h1,fun _ h=> .inl h⟩ k5)⟩
      rw[QZ,hw.1]at w5
      simpa using w5
   ·have hii:i=m:=by omega
    subst hii;refine go ?_;refine W5 ?_;have hm0:i≠0:=by omega
    exact⟨vA',by simpa [hm0]using w3,(WL.ext e2).trans k3⟩
  ·simp only[h4,h5,Gi];refine go ?_;refine VC 1 rfl rfl ?_;have oWY:=oW2.ext (zZ 1 h2);have oWX:U3 hB (inC (zC 1 h2)) (.pointer (some ⟨gp,0,none⟩)) [.slice t1 t2 t3,.bool o,.func (.func fid) #[] #[],I s,vA]:=oWY;clear oWY;have hsl:∃ c1 c2 c3,vA= .slice c1 c2 c3:=by
    rcases w2.lst with ⟨rfl,_⟩|⟨_,_,_,_,_,rfl,_⟩
    ·exact⟨_,_,_,rfl⟩
    ·exact⟨_,_,_,rfl⟩
   obtain⟨c1,c2,c3,rfl⟩:=hsl;refine WM ?_;refine VN (WV.func (hf _ k s)) ?_;rintro _ _ ⟨rfl,rfl⟩;refine nE (U5.refl _) ?_;refine V3 (hB:=hB) (b:=b) (v:= .slice c1 c2 c3) (if o then (k:Int) else s) (fun _=>False) (U5.refl _) w2.lst w2.ext (by have:=w2.ext.mark;omega) hb w2.bn (by decide) (by omega) oW2 w2.pb (fun _ _ _=>rfl) (fun _ h=>h.elim) (fun _ _ _ _ h=>h) id (by simp) rfl ?_;intro H v' t' hsame eH oH hone lH sH kH nH;replace oH:U3 hB H (.pointer (some ⟨gp,0,none⟩)) [.slice t1 t2 t3,.bool o,.func (.func fid) #[] #[],I s,v']:=oH;have wH:=KW.mk oH lH w2.pb (QO w2.bn nH) eH;refine go ?_;refine VZ (j:=3) (cs:=[I (s+1)]) (hl:=by simp) oH eH ?_;intro h5 e5 o5 u5;replace o5:U3 hB h5 (.pointer (some ⟨gp,0,none⟩)) [.slice t1 t2 t3,.bool o,.func (.func fid) #[] #[],I (s+1),v']:=o5;refine go ?_;refine W5 ?_;refine⟨v',⟨o5,WR.upB (fun _ _ _ _ h=>h) lH u5.upB wH.off,w2.pb,QO wH.bn u5.1,e5⟩,(WL.ext e2).trans ⟨QO nH u5.1,fun g hg h1 h2=> ?_,fun b hb=> .inr (sH b hb)⟩⟩;rw[u5.upB.2 g (QG hg nH) h1];exact kH g hg (fun e=>by cases e;exact h1 rfl) (fun _ _ e=>by cases e;exact h2 rfl)
def zQR:U0:=(oV (oR [oN 4 0]) (oV (oR [oM 5 0,oM 4 5]) .ret))
theorem zJI (h:Uz)(k:Nat)(s:Int):WC Tryz.prog tb 132 [I k,I s] h fun r h'=>r=I (if true then (k:Int) else s)/\h=h':=by
 refine en 6 [(4,none)] zQR ?_;refine rt ?_;exact⟨rfl,rfl⟩
def zTR:U0:=(oV (oR [oK 4 (.slice none 0 0),oN 5 0]) (oV (oV (oR [oM 10 0,oM 11 1,o2 12 131 10 11,oM 9 12,oE 13 9 0,oE 14 9 1,oM 6 13,oM 7 14]) (oV (oR [oM 15 7,oC .neq 16 15 0]) (oJ 16 (oV (oR [oM 17 7,oK 4 (.slice none 0 0),oM 5 17]) .ret) .skip))) (oV (oR [oM 18 0,⟨some 19,none,(.build [(.slice none 0 0),(.bool false),.nilFunc,(.int .i64 0),(.slice none 0 0)] [(0,1,(.tmp 18)),(1,1,(.const (.bool true))),(2,1,(.func 132))])⟩,oX 20 19,oM 8 20]) (oV (oR [oM 21 8,oM 22 1,o2 23 133 21 22]) (oV (oR [oM 24 8,⟨some 25,none,(.nilCheck (.tmp 24))⟩,oF 4 26 25,oL 27 26,oM 4 27,oN 5 0]) .ret)))))
theorem zFd (h:Uz)(vT:Value)(T:List U2)(k:Int)(st:Wr h vT T)(hT:T.length<=100)(hp:∀ x∈T,x.parts.length<=100)(hc:yp T=0)(hk:0<=k/\k<(T.length:Int))(hm:h.mark<=h.n):
  WC Tryz.prog tb 80 [vT,I k] h fun r h'=>(∃ v,r= .tuple #[v,I 0]/\WH h h' v (yX T k.toNat))/\U5 h h':=by
 obtain⟨k,rfl⟩:∃ q:Nat,k=q:=⟨k.toNat,by omega⟩;obtain⟨t1,t2,t3,rfl⟩:=zF st;have hl:=zGq hc;refine en 28 [(4,none),(5,none)] zTR ?_;refine VA (zNQ h _ T k st hT hp hc hk) ?_;rintro _ h2 ⟨⟨v2,rfl,o2⟩,e2⟩;refine go ?_;refine VI ?_;intro p h3 e3 o3;obtain⟨gp,_,_,rfl,_⟩:=id o3;have e03:=e2.trans e3;have hpb:∀ g,Value.pointer (some ⟨gp,0,none⟩)= .pointer (some ⟨g,0,none⟩)->g<h3.n:=fun g e=>o3.within _ (by rw[e];rfl);have w:KW h h3 (.slice t1 t2 t3) (.pointer (some ⟨gp,0,none⟩)) (.slice none 0 0) h3.n true 132 0 []:=⟨o3.since e2,.inl ⟨rfl,rfl⟩,hpb,QE _,e03⟩;refine go ?_;refine VA (zSN h hm _ _ h3.n true 132 T st (by omega) zJI (k+1) k h3 _ 0 [] (by omega) (by omega) (fun j hj=>hl j (by omega)) (hl k (by omega)).1 w e03.n (by omega) (by omega) (by simp;omega)) ?_;rintro _ h4 ⟨vA,w4,k4⟩;have o4:=w4.own;refine gr ?_;exact⟨⟨vA,rfl,zES w4.lst e03.n⟩,w4.ext⟩
structure Wu where
 fn:Int
 nr:Int
 ty:Int
instance:Inhabited Wu:=⟨⟨0,0,0⟩⟩
def RSt (_:Uz)(cs:List Value)(x:Wu):Prop:=cs=[I x.fn,I x.nr,I x.ty]
abbrev SlS (h:Uz)(v:Value)(l:List Wu):Prop:=Wx 3 RSt h v l
theorem zEz (h h':Uz)(cs:List Value)(a:Wu)(r:RSt h cs a):RSt h' cs a:=r
theorem SlS.ext {h h' v l}(s:SlS h v l)(e:U5 h h'):SlS h' v l:=Wx.ext (fun _ _ r=>zEz _ _ _ _ r) s e
def YB (x:WY):Bool:=decide (x.op=11)||decide (x.op=12)
def Zo (T:List U2)(f:Int):Int->List WY->List Wu
 |_,[]=>[]
 |n,x::l=>(if YB x then [⟨f,n,(T.getD x.ty.toNat default).elem⟩] else [])++Zo T f (n+1) l
def ZX (T:List U2)(f:Int):Int->List WQ->List Wu
 |_,[]=>[]
 |n,b::l=>Zo T f n b.ins++ZX T f (n+b.ins.length) l
def Zp (T:List U2):Int->List WP->List Wu
 |_,[]=>[]
 |f,g::l=>ZX T f ((T.getD g.sig.toNat default).parts.length:Int) g.blocks++Zp T (f+1) l
def yj (T:List U2)(F:List WP):List Wu:=Zp T 0 F
section
variable {T:List U2}{f:Int}
theorem zDX {x:WY}:∀ {l:List WY} {n:Int},Zo T f n (l++[x])=Zo T f n l++(if YB x then [⟨f,n+l.length,(T.getD x.ty.toNat default).elem⟩] else [])
 |[],n=>by simp[Zo]
 |y::l,n=>by
  simp only[G5,Zo,zDX (l:=l),QZ,GF];congr 3;rw[show n+1+(l.length:Int)=n+((l.length+1:Nat):Int) by omega]
theorem zBw:∀ {l:List WY} {n:Int},(Zo T f n l).length<=l.length
 |[],_=>QE _
 |x::l,n=>by
  have:=zBw (l:=l) (n:=n+1);simp only[Zo,QM,GF];split<;>simp<;>omega
theorem zDO {b:WQ}:∀ {l:List WQ} {n:Int},ZX T f n (l++[b])=ZX T f n l++Zo T f (n+zI l) b.ins
 |[],n=>by simp[ZX,zI]
 |c::l,n=>by
  simp only[G5,ZX,zDO (l:=l),QZ];rw[Zw,Int.add_assoc]
theorem zBt:∀ {l:List WQ} {n:Int},((ZX T f n l).length:Int)<=zI l
 |[],_=>by simp[ZX,zI]
 |b::l,n=>by
  have h1:=zBt (l:=l) (n:=n+b.ins.length);have h2:=zBw (T:=T) (f:=f) (l:=b.ins) (n:=n);rw[Zw];simp only[ZX,QM];omega
theorem zDJ {g:WP}:∀ {l:List WP} {f:Int},Zp T f (l++[g])=Zp T f l++ZX T (f+l.length) ((T.getD g.sig.toNat default).parts.length:Int) g.blocks
 |[],f=>by simp[Zp]
 |c::l,f=>by
  simp only[G5,Zp,zDJ (l:=l),QZ,GF];congr 3;omega
theorem zBn:∀ {l:List WP} {f:Int},(∀ g∈l,zI g.blocks<=128)->(Zp T f l).length<=128 * l.length
 |[],_,_=>QE _
 |g::l,f,h=>by
  have h1:=zBn (l:=l) (f:=f+1) fun q hq=>h q (Qi _ hq);have h2:=zBt (T:=T) (f:=f) (l:=g.blocks) (n:=((T.getD g.sig.toNat default).parts.length:Int));have h3:=h g (Qd ..);simp only[Zp,QM,GF];omega
end
theorem zAz:∀ l:List WQ,0<=zI l
 |[]=>by simp[zI]
 |b::l=>by have:=zAz l;rw[Zw];omega
theorem zFe (l:List WQ)(j:Nat):0<=zI (l.take j)/\zI (l.take j)<=zI l:=by
 have h:zI l=zI (l.take j)+zI (l.drop j):=by
  conv=>lhs;rw[<-GK j l]
  unfold zI;rw[Qr,Gg]
 have h1:=zAz (l.take j);have h2:=zAz (l.drop j);omega
theorem ZT {α:Type}[Inhabited α]{l:List α}{i:Nat}(h:i<l.length):l.take (i+1)=l.take i++[l.getD i default]:=by
 rw[GE,QD h];simp[List.getD,QD h]
set_option maxRecDepth 100000
def zTa:U0:=(oV (oR [oZ 2]) (oV (oR [oM 3 0,oD .eql 4 3 11,oM 5 4,oH 5 (oM 6 0),oH 5 (oD .eql 7 6 12),oO 8 5 7,oM 2 8]) .ret))
theorem zOQ (h:Uz)(x:WY):WC Tryz.prog tb 85 [.int .u8 x.op] h fun r h'=>r= .bool (YB x)/\h=h':=by
 refine en 9 [(2,none)] zTa ?_;by_cases h1:x.op=11
 ·refine gr ?_;exact⟨by unfold YB;simp[h1];rfl,rfl⟩
 ·refine gr ?_;exact⟨by unfold YB;simp[h1];rfl,rfl⟩
def zOA:U0:=(oV (oR [oB .lss 37 36 35]) (oV (oT 37 4) (oV (o5 5 (oV (oR [oI 7 38 34 36,oA 7 39 38,⟨some 9,none,(.alloc [(.int .u8 0),(.int .i64 0),(.int .i64 0),(.int .i64 0),(.int .i64 0),(.slice none 0 0),(.slice none 0 0)])⟩,oS 7 9 39]) (oV (oV (oR [oF 0 40 9,oL 41 40,o1 42 85 41]) (oJ 42 (oR [oM 43 2,oM 44 3,oM 45 5,oF 0 46 1,oL 47 46,oF 1 48 9,oL 49 48,oI 4 50 47 49,oF 1 51 50,oL 52 51,⟨some 53,none,(.build [(.int .i64 0),(.int .i64 0),(.int .i64 0)] [(0,1,(.tmp 44)),(1,1,(.tmp 45)),(2,1,(.tmp 52))])⟩,⟨some 54,none,(.buildSlice 1 3 [(.int .i64 0),(.int .i64 0),(.int .i64 0)] [(0,3,(.tmp 53))])⟩,oY 3 55 43 54,oM 2 55]) .skip)) (oR [oM 56 5,oC .add 57 56 1,oM 5 57])))) (oR [oC .add 58 36 1,oM 36 58]))))
def zOs:U0:=(oV (oR [oB .lss 30 29 28]) (oV (oT 30 2) (oV (o5 3 (oV (oR [oI 5 31 27 29,oA 5 32 31,⟨some 7,none,(.alloc [(.slice none 0 0),(.int .u8 0),(.int .i64 0),(.int .i64 0),(.int .i64 0)])⟩,oS 5 7 32]) (oV (oR [oF 0 33 7,oL 34 33,oQ 35 34,oN 36 0]) (o5 4 (.loop zOA))))) (oR [oC .add 59 29 1,oM 29 59]))))
def zNZ:U0:=(oV (oR [oB .lss 14 13 12]) (oV (oT 14 0) (oV (o5 1 (oV (oR [oM 15 13,oI 2 16 11 13,oA 2 17 16,⟨some 4,none,(.alloc [(.int .i64 0),(.slice none 0 0)])⟩,oM 3 15,oS 2 4 17]) (oV (oR [oF 0 18 1,oL 19 18,oF 0 20 4,oL 21 20,oI 4 22 19 21,oF 3 23 22,oL 24 23,oQ 25 24,oM 5 25]) (oV (oR [oF 1 26 4,oL 27 26,oQ 28 27,oN 29 0]) (o5 2 (.loop zOs)))))) (oR [oC .add 60 13 1,oM 13 60]))))
def zUT:U0:=(oV (oR [oX 1 0,oK 2 (.slice none 0 0)]) (oV (oV (oR [oF 1 10 1,oL 11 10,oQ 12 11,oN 13 0]) (o5 0 (.loop zNZ))) (oV (oR [oM 61 2,oM 2 61]) .ret)))
theorem zO5 (h:Uz)(vt vf:Value)(T:List U2)(F:List WP)(E:Env h vt vf T F)(hsig:∀ g∈F,0<=g.sig/\g.sig<(T.length:Int))(hmy:∀ g∈F,zI g.blocks<=128)(hF:F.length<=8)
  (hty:∀ g∈F,∀ B∈g.blocks,∀ x∈B.ins,YB x=true->0<=x.ty/\x.ty<(T.length:Int)):
  WC Tryz.prog tb 49 [.agg #[vt,vf]] h fun r h'=>WR 3 RSt h.n h' r (yj T F)/\U5 h h':=by
 have hslen:∀ i,(Zp T 0 (F.take i)).length<=1024:=fun i=>by
  have:=zBn (T:=T) (l:=F.take i) (f:=0) fun g hg=>hmy g (Ge hg);have h2:(F.take i).length<=F.length:=by rw[GR];omega
  omega
 have sm:=E.sm;have hF':=sm.funcs;replace hslen:=WW.mk hslen;replace hsig:=WW.mk hsig;replace hmy:=WW.mk hmy;replace hty:=WW.mk hty;have st0:=E.st;have sf0:=E.sf;obtain⟨t1,t2,t3,rfl⟩:=zF st0;obtain⟨f1,f2,f3,rfl⟩:=zF sf0;refine en 62 [(2,none)] zUT ?_;refine VI ?_;intro p h1 e1 o1;replace o1:U3 h h1 p [.slice t1 t2 t3,.slice f1 f2 f3]:=o1;have E1:=E.ext e1;have sf1:=E1.sf;refine go ?_;refine VD [14,15,16,17,4,3,18,19,20,21,22,23,24,25,5,26,27,28,29,30,31,32,7,33,34,35,36,37,38,39,9,40,41,42,43,44,45,46,47,48,49,50,51,52,53,54,55,2,56,57,5,58,36,59,29,60,13] (by kernel_rfl) (fun i=>F.length - i) (fun i t h2=>zB t 13=I i/\i<=F.length/\U5 h1 h2/\∃ v,zB t 2=v/\WR 3 RSt h1.n h2 v (Zp T 0 (F.take i))) 0 ?_ ?_
 ·exact⟨U7,QT _,U5.refl _,.slice none 0 0,U7,.inl ⟨rfl,rfl⟩⟩
 rintro i t h2 hsame ⟨s13,hi,e2,v,s2,ov⟩;have o2:=o1.ext e2;have E2:=E1.ext e2;have sf2:=E2.sf;have st2:=E2.st;refine go ?_;refine VE (fun hb=> ?_) (fun hb=> ?_)<;>simp only[DB]at hb
 ·have hi':i<F.length:=by omega
  have hgm:=zK (l:=F) (i:=i) hi';obtain⟨cs,⟨vb,rfl,sb,hlb⟩,px,hs⟩:=zp (i:=i) sf1 hi';have pc:=(px _ e2).1;have hsg:=hsig.out _ hgm;have hbl:=sm.blocks _ hgm;have hpl:=sm.parts _ (zK (l:=T) (i:=(F.getD i default).sig.toNat) (by omega));have hsn:Zp T 0 (F.take (i+1))=Zp T 0 (F.take i)++ZX T i ((T.getD (F.getD i default).sig.toNat default).parts.length:Int) (F.getD i default).blocks:=by
   rw[ZT hi',zDJ,GR,Gn (by omega),Int.zero_add]
  have hinl:=sm.ins _ hgm;have htyg:=hty.out _ hgm;have hmyg:=hmy.out _ hgm;replace hinl:=WW.mk hinl;replace htyg:=WW.mk htyg;generalize F.getD i default=g at *;obtain⟨b1,b2,b3,rfl⟩:=zF sb;refine go ?_;refine WO.al ?_;intro p4 h3 e3 o3;refine go ?_;refine VG o3 e3 ?_;intro h4 e4 o4 _;have e14:=e2.trans e4;have sb4:=W6.ext sb e14;have st4:=st2.ext e4;have o14:=o2.ext e4;obtain⟨csT,⟨va,rfl,sa,hla⟩,pcT,hsT⟩:=ZN (i:=g.sig.toNat) st4 (by omega);obtain⟨a1,a2,a3,rfl⟩:=WZ.shape sa;have ov4:=WR.ext ov e4;refine go ?_;refine VD [30,31,32,7,33,34,35,36,37,38,39,9,40,41,42,43,44,45,46,47,48,49,50,51,52,53,54,55,2,56,57,5,58,36,59,29] (by kernel_rfl) (fun j=>g.blocks.length - j) (fun j t h5=>zB t 29=I j/\j<=g.blocks.length/\U5 h1 h5/\zB t 5=I ((T.getD g.sig.toNat default).parts.length+zI (g.blocks.take j))/\∃ v,zB t 2=v/\WR 3 RSt h1.n h5 v (Zp T 0 (F.take i)++ZX T i ((T.getD g.sig.toNat default).parts.length:Int) (g.blocks.take j))) 0 ?_ ?_
  ·exact⟨U7,QT _,e2.trans e4,by rw[show zI (g.blocks.take 0)=0 by simp[zI],Int.add_zero];exact U7,v,U7,by simpa [ZX]using ov4⟩
  rintro j t' h5 hsame' ⟨s29,hj,e5,s5,v',s2',ov'⟩;have o5:=o1.ext e5;have E5:=E1.ext e5;have sb5:=W6.ext sb e5;refine go ?_;refine VE (fun hb'=> ?_) (fun hb'=> ?_)<;>simp only[DB]at hb'
  ·have hj':j<g.blocks.length:=by omega
   have hBm:=zK (l:=g.blocks) (i:=j) hj';obtain⟨csB,⟨vi,rfl,si,hli⟩,pxB,hsB⟩:=zp (i:=j) sb hj';have pcB:=(pxB _ e5).1;have hil:=hinl.out _ hBm;have hsnB:ZX T i ((T.getD g.sig.toNat default).parts.length:Int) (g.blocks.take (j+1))=ZX T i ((T.getD g.sig.toNat default).parts.length:Int) (g.blocks.take j)++Zo T i ((T.getD g.sig.toNat default).parts.length+zI (g.blocks.take j)) (g.blocks.getD j default).ins:=by
    rw[ZT hj',zDO]
   have hmB:zI (g.blocks.take (j+1))=zI (g.blocks.take j)+((g.blocks.getD j default).ins.length:Int):=by
    rw[ZT hj'];unfold zI;simp
   have hm0:0<=zI (g.blocks.take j)/\zI (g.blocks.take j)<=128:=by
    have:=zFe g.blocks j;omega
   have hsB:=zBt (T:=T) (f:=(i:Int)) (l:=g.blocks.take j) (n:=((T.getD g.sig.toNat default).parts.length:Int));have htyB:=htyg.out _ hBm;replace htyB:=WW.mk htyB;generalize g.blocks.getD j default=B at *;obtain⟨i1,i2,i3,rfl⟩:=zF si;refine go ?_;refine WO.al ?_;intro p7 h6 e6 o7;refine go ?_;refine VG o7 e6 ?_;intro h7 e7 o7 _;have e17:=e5.trans e7;have si7:=BS.ext si e17;have ov7:=WR.ext ov' e7;refine go ?_;refine VD [37,38,39,9,40,41,42,43,44,45,46,47,48,49,50,51,52,53,54,55,2,56,57,5,58,36] (by kernel_rfl) (fun q=>B.ins.length - q) (fun q t h8=>zB t 36=I q/\q<=B.ins.length/\U5 h1 h8/\zB t 5=I ((T.getD g.sig.toNat default).parts.length+zI (g.blocks.take j)+q)/\∃ v,zB t 2=v/\WR 3 RSt h1.n h8 v (Zp T 0 (F.take i)++ZX T i ((T.getD g.sig.toNat default).parts.length:Int) (g.blocks.take j)++Zo T i ((T.getD g.sig.toNat default).parts.length+zI (g.blocks.take j)) (B.ins.take q))) 0 ?_ ?_
   ·exact⟨U7,QT _,e17,by rw[show ((0:Nat):Int)=0 from rfl,Int.add_zero];exact U7,v',U7,by simpa [Zo]using ov7⟩
   rintro q t'' h8 hsame'' ⟨s36,hq,e8,s5'',v'',s2'',ov''⟩;have o8:=o1.ext e8;have si8:=BS.ext si e8;have st8:=(E1.ext e8).st;refine go ?_;refine VE (fun hb''=> ?_) (fun hb''=> ?_)<;>simp only[DB]at hb''
   ·have hq':q<B.ins.length:=by omega
    have hxm:=zK (l:=B.ins) (i:=q) hq';obtain⟨csX,⟨xa,xf,rfl,sxa,sxf,hxa,hxf,ho⟩,pxX,hsX⟩:=zp (i:=q) si hq';have pcX:=(pxX _ e8).1;have hsnI:∀ n:Int,Zo T i n (B.ins.take (q+1))=Zo T i n (B.ins.take q)++(if YB (B.ins.getD q default) then [⟨i,n+q,(T.getD (B.ins.getD q default).ty.toNat default).elem⟩] else []):=fun n=>by
     rw[ZT hq',zDX,GR,Gn (by omega)]
    have htyx:=htyB.out _ hxm;generalize B.ins.getD q default=x at *;obtain⟨xa1,xa2,xa3,rfl⟩:=WZ.shape sxa;obtain⟨xf1,xf2,xf3,rfl⟩:=WZ.shape sxf;refine go ?_;refine WO.al ?_;intro p9 h9 e9 o9;refine go ?_;refine VG (cs:=[.int .u8 x.op,I x.ty,I x.a,I x.b,I x.n,.slice xa1 xa2 xa3,.slice xf1 xf2 xf3]) o9 e9 ?_;intro h10 e10 o10 _;refine go ?_;refine VA (zOQ h10 x) ?_;rintro _ _ ⟨rfl,rfl⟩;have e110:=e8.trans e10;cases hmk:YB x with
    |true=>
     have hx:=htyx hmk;have o810:=o8.ext e10;have st10:=(E1.ext e110).st;obtain⟨csT,⟨ya,rfl,sya,hya⟩,pcT',hsT'⟩:=ZN (i:=x.ty.toNat) st10 (by omega);obtain⟨y1,y2,y3,rfl⟩:=WZ.shape sya;have hsI:=zBw (T:=T) (f:=(i:Int)) (l:=B.ins.take q) (n:=(T.getD g.sig.toNat default).parts.length+zI (g.blocks.take j));have hlq:(B.ins.take q).length<=q:=List.length_take_le _ _;have hsi:=hslen.out i;refine go ?_;refine UW (hB:=h1) (b:=h1.n) (⟨i,(T.getD g.sig.toNat default).parts.length+zI (g.blocks.take j)+q,(T.getD x.ty.toNat default).elem⟩:Wu) (fun _=>False) (WR.ext ov'' e10) e110 (QE _) e110.n (by decide) (by simp only[QM];omega) (fun _ _ _=>rfl) (fun _ h=>h.elim) (fun _ _ _ _ h=>h) ?_;intro v12 h12 lit e12 o12 hn12 hk12;refine go ?_;refine zA (q+1) (by omega) ⟨Wo,by omega,e12,?_,v12,U7,?_⟩
     ·rw[show ((T.getD g.sig.toNat default).parts.length:Int)+zI (g.blocks.take j)+((q+1:Nat):Int)=(T.getD g.sig.toNat default).parts.length+zI (g.blocks.take j)+q+1 by omega];exact U7
     ·rw[hsnI,hmk,QJ rfl,<-QZ];exact o12
    |false=>
     refine go ?_;refine zA (q+1) (by omega) ⟨Wo,by omega,e110,?_,v'',U7,?_⟩
     ·rw[show ((T.getD g.sig.toNat default).parts.length:Int)+zI (g.blocks.take j)+((q+1:Nat):Int)=(T.getD g.sig.toNat default).parts.length+zI (g.blocks.take j)+q+1 by omega];exact U7
     ·rw[hsnI,hmk];simpa using WR.ext ov'' e10
   ·have hqq:q=B.ins.length:=by omega
    subst hqq;rw[Q8]at ov'';refine go ?_;refine zA (j+1) (by omega) ⟨Wo,by omega,e8,?_,v'',U7,?_⟩
    ·rw[hmB,<-Int.add_assoc];exact U7
    ·rw[hsnB,<-QZ];exact ov''
  ·have hjj:j=g.blocks.length:=by omega
   subst hjj;rw[Q8]at ov';refine go ?_;refine zA (i+1) (by omega) ⟨Wo,by omega,e5,v',U7,?_⟩;rw[hsn];exact ov'
 ·have hii:i=F.length:=by omega
  subst hii;rw[Q8]at ov;refine gr ?_;exact⟨ov.base e1.n,e1.trans e2⟩
theorem zKm {T:List U2}{F:List WP}(hs:yS T F=0){f:Nat}(hf:f<F.length){b:Nat}(hb:b<(F.getD f default).blocks.length){i:Nat}(hi:i<((F.getD f default).blocks.getD b default).ins.length)(hm:YB (((F.getD f default).blocks.getD b default).ins.getD i default)=true):
  Wt T 2 (((F.getD f default).blocks.getD b default).ins.getD i default).ty=true/\BE T (((F.getD f default).blocks.getD b default).ins.getD i default).ty:=by
 obtain⟨hp,hw⟩:=yV hs;have Z:=zDf hp (f:=(f:Int)) (by omega);have W:=(hw f (by omega) (by omega)).2.2 b (by omega) (by show (b:Int)<((F.getD ((f:Int)).toNat default).blocks.length:Int);rw[QU];omega);have h1:=W.1 i (by show i<(((F.getD ((f:Int)).toNat default).blocks.getD ((b:Int)).toNat default).ins.length);rw[QU,QU];exact hi);have hV:=Z.V ((F.getD f default).blocks.getD b default) (by show _∈(F.getD ((f:Int)).toNat default).blocks;rw[QU];exact zK hb) _ (zK hi);refine⟨?_,hV.ty⟩;unfold YI zHA at h1;have h2:=h1.2.1;rw[show ((zM F f).getD ((b:Int)).toNat default).ins.getD i default=((F.getD f default).blocks.getD b default).ins.getD i default from by unfold zM;rw[QU,QU]]at h2;generalize ((F.getD f default).blocks.getD b default).ins.getD i default=x at *;unfold YB at hm;simp only[GG,QX]at hm;unfold zBH at h2;rw[QB (by omega),QB (by omega),QB (by omega),QJ hm]at h2;exact h2
theorem Yi {α:Type}[Inhabited α]{l:List α}{x:α}(h:x∈l):∃ i,i<l.length/\l.getD i default=x:=by
 obtain⟨i,hi,rfl⟩:=List.getElem_of_mem h;exact⟨i,hi,by simp[List.getD,QD hi]⟩
def zTJ:U0:=(oV (oR [oX 1 0,oK 2 (.slice none 0 0),oN 3 0]) (oV (oV (oR [oA 2 5 1,o1 6 16 5,oM 4 6]) (oV (oR [oM 7 4,oC .neq 8 7 0]) (oJ 8 (oV (oR [oM 9 4,oK 2 (.slice none 0 0),oM 3 9]) .ret) .skip))) (oV (oR [oA 2 10 1,o1 11 49 10,oM 2 11,oN 3 0]) .ret)))
theorem zO6 (h:Uz)(vt vf:Value)(T:List U2)(F:List WP)(E:Env h vt vf T F):
  WC Tryz.prog tb 25 [.agg #[vt,vf]] h fun r h'=>(∃ v,r= .tuple #[v,I (yS T F)]/\WR 3 RSt h.n h' v (if yS T F=0 then yj T F else []))/\U5 h h':=by
 refine en 12 [(2,none),(3,none)] zTJ ?_;refine VI ?_;intro p h1 e1 o1;replace o1:U3 h h1 p [vt,vf]:=o1;have E1:=E.ext e1;refine go ?_;refine VA (zFn h1 vt vf T F E1) ?_;rintro _ h2 ⟨rfl,e2⟩;have o2:=o1.ext e2;have E2:=E1.ext e2;by_cases hs:yS T F=0;case neg=>
  rw[QB hs];refine gr ?_;exact⟨⟨_,rfl,.inl ⟨rfl,rfl⟩⟩,e1.trans e2⟩
 rw[QJ hs];obtain⟨hp,hw⟩:=yV hs;obtain⟨hc,hF1,hF8,hfn⟩:=yo hp;have hg:∀ g∈F,(0<=g.sig/\g.sig<(T.length:Int))/\zI g.blocks<=128:=fun g hg=>by
  obtain⟨i,hi,rfl⟩:=Yi hg;have Z:=zDf hp (f:=(i:Int)) (by omega);have h1:=Z.sig;have h2:=Z.many;unfold zM at h2;rw[QU]at h1 h2;exact⟨h1,h2⟩
 have hty:∀ g∈F,∀ B∈g.blocks,∀ x∈B.ins,YB x=true->0<=x.ty/\x.ty<(T.length:Int):=fun g hg B hB x hx hm=>by
  obtain⟨f,hf,rfl⟩:=Yi hg;obtain⟨b,hb,rfl⟩:=Yi hB;obtain⟨i,hi,rfl⟩:=Yi hx;have:=zKm hs hf hb hi hm;refine this.2.resolve_left fun e=> ?_;have h1:=this.1;unfold Wt at h1;rw[e]at h1;cases h1
 have hsg:∀ g∈F,0<=g.sig/\g.sig<(T.length:Int):=fun g q=>(hg g q).1;have hmy:∀ g∈F,zI g.blocks<=128:=fun g q=>(hg g q).2;rw[hs];replace hg:=WW.mk hg;replace hfn:=WW.mk hfn;refine go ?_;refine VA (zO5 h2 vt vf T F E2 hsg hmy hF8 hty) ?_;rintro v h3 ⟨ov,e3⟩;refine gr ?_;exact⟨⟨v,rfl,ov.base (e1.trans e2).n⟩,e1.trans (e2.trans e3)⟩
set_option maxRecDepth 100000
section
variable {hB h h' h2:Uz}{p vR vF vS v':Value}{rs fs l:List Int}{ss:List Wu}
end
theorem zL7 {α:Type}{R:Uz->List Value->α->Prop}{h0 h:Uz}{c:Nat}{v:Value}{xs:List α}(o:WR c R h0.n h v xs):zBA h0 v:=fun b hb=>by
 rcases o with ⟨rfl,_⟩|⟨g,_,_,g1,_,rfl,_⟩
 ·cases hb
 ·cases hb;exact g1
def yd (T:List U2)(F:List WP):List Int:=F.map fun g=>((T.getD g.sig.toNat default).parts.length:Int)+zI g.blocks
def zSZ (T:List U2)(F:List WP):List Int:=(yj T F).map fun s=>((yX T s.ty.toNat).length:Int)
theorem zJ2 {T:List U2}{F:List WP}(hp:Zz T F=0){i:Nat}(hi:i<F.length):Y5 T F i=(((T.getD (F.getD i default).sig.toNat default).parts.length:Int)+zI (F.getD i default).blocks,0):=by
 have hask:zn T F i=(((T.getD (F.getD i default).sig.toNat default).parts.length:Int),0):=by
  unfold zn;rw[QB (fun e=>e hp),QJ (by unfold zS;simp;omega),QU]
 unfold Y5;rw[hask];simp
theorem zEM {T:List U2}{f:Int}{s:Wu}:∀ {l:List WY} {n:Int},s∈Zo T f n l->∃ x∈l,YB x=true/\s.ty=(T.getD x.ty.toNat default).elem
 |[],_,h=>by cases h
 |x::l,n,h=>by
  unfold Zo at h;rcases Qj.1 h with h|h
  ·split at h
   ·rename_i hm;rw[QW]at h;subst h;exact⟨x,Qd ..,hm,rfl⟩
   ·cases h
  ·obtain⟨y,a,b⟩:=zEM h;exact⟨y,Qi _ a,b⟩
theorem zEl {T:List U2}{f:Int}{s:Wu}:∀ {l:List WQ} {n:Int},s∈ZX T f n l->∃ b∈l,∃ x∈b.ins,YB x=true/\s.ty=(T.getD x.ty.toNat default).elem
 |[],_,h=>by cases h
 |x::l,n,h=>by
  unfold ZX at h;rcases Qj.1 h with h|h
  ·exact⟨x,Qd ..,zEM h⟩
  ·obtain⟨y,a,b⟩:=zEl h;exact⟨y,Qi _ a,b⟩
theorem zEx {T:List U2}{s:Wu}:∀ {l:List WP} {f:Int},s∈Zp T f l->∃ g∈l,∃ b∈g.blocks,∃ x∈b.ins,YB x=true/\s.ty=(T.getD x.ty.toNat default).elem
 |[],_,h=>by cases h
 |x::l,n,h=>by
  unfold Zp at h;rcases Qj.1 h with h|h
  ·exact⟨x,Qd ..,zEl h⟩
  ·obtain⟨y,a,b⟩:=zEx h;exact⟨y,Qi _ a,b⟩
theorem zFa {T:List U2}{F:List WP}(hs:yS T F=0):∀ s∈yj T F,0<=s.ty/\s.ty<(T.length:Int):=fun s h=>by
 obtain⟨g,hg,B,hB,x,hx,hm,he⟩:=zEx h;obtain⟨f,hf,rfl⟩:=Yi hg;obtain⟨b,hb,rfl⟩:=Yi hB;obtain⟨i,hi,rfl⟩:=Yi hx;obtain⟨h1,h2⟩:=zKm hs hf hb hi hm;have hc:=(yo (yV hs).1).1;have h3:=zEm hc h2;unfold BJ at h3;rw[QJ h1,<-he]at h3;rcases h3 with h3|h3
 ·unfold Wt at h1;simp only[QF,QX]at h1;have hm:=zBU hc (h2.resolve_left h1.1).1 (h2.resolve_left h1.1).2;unfold ZV zGx at hm;omega
 ·exact h3
theorem zJi {T:List U2}{F:List WP}(hs:yS T F=0):(yj T F).length<=1024:=by
 have hp:=(yV hs).1;obtain⟨hc,hF1,hF8,hfn⟩:=yo hp;have:=zBn (T:=T) (l:=F) (f:=0) fun g hg=>by
  obtain⟨i,hi,rfl⟩:=Yi hg;have h2:=(zDf hp (f:=(i:Int)) (by omega)).many;unfold zM at h2;rw[QU]at h2;exact h2
 unfold yj;omega
set_option maxRecDepth 100000
theorem zHF:∀ {l:List Int},(∀ x∈l,0<=x/\x<=1000)->0<=l.sum/\l.sum<=1000 * l.length
 |[],_=>by simp
 |x::l,h=>by
  have:=zHF fun y hy=>h y (Qi _ hy);have:=h x (Qd ..);simp only[G7,GF];omega
section
variable {h0 h:Uz}{vR vF vS:Value}{Rg Fl:List Int}{S:List Wu}
end
section
variable {h:Uz}{vt vf:Value}{T:List U2}{F:List WP}
def yC (T:List U2)(F:List WP):Int:=(yd T F).sum
def zUl (T:List U2)(F:List WP)(s i:Int):Prop:=(0<=s/\s<((zSZ T F).length:Int))/\0<=i/\i<(zSZ T F).getD s.toNat 0
instance (T:List U2) (F:List WP) (s i:Int):Decidable (zUl T F s i):=by unfold zUl;infer_instance
end
set_option maxRecDepth 100000
section
variable {h:Uz}{vt vf:Value}{T:List U2}{F:List WP}
end
section
variable {h:Uz}{vt vf:Value}{T:List U2}{F:List WP}
end
theorem zKT {T:List U2}{F:List WP}(hs:yS T F=0):(∀ x∈yd T F,0<=x/\x<=1000)/\(yd T F).length=F.length/\1<=F.length/\F.length<=8:=by
 have hp:=(yV hs).1;obtain⟨hc,hF1,hF8,hfn⟩:=yo hp;refine⟨fun x hx=> ?_,by unfold yd;simp,by omega,by omega⟩;unfold yd at hx;obtain⟨g,hg,rfl⟩:=Q6.1 hx;obtain⟨i,hi,rfl⟩:=Yi hg;have Z:=zDf hp (f:=(i:Int)) (by omega);have h1:=Z.many;have h2:=Z.par4;have h3:=zAz (F.getD i default).blocks;unfold zM at h1;unfold yE at h2;rw[QU]at h1 h2;omega
theorem zM8 {l:List Int}{i:Nat}(hi:i<l.length):(l.take (i+1)).sum=(l.take i).sum+l.getD i 0:=by
 rw[GE,QD hi,Gg];simp[List.getD,QD hi]
set_option maxRecDepth 100000
def zP7:U0:=(oV (oR [oX 1 0,oK 2 (.slice none 0 0)]) (oV (oV (oR [oF 0 3 1,oL 4 3]) (o5 0 (oV (oR [oD .eql 6 4 4,oM 5 6]) (oJ 5 (oV (oR [oF 3 7 1,oL 8 7,oM 2 8]) .ret) (oV (oR [oD .eql 10 4 5,oM 9 10]) (oJ 9 (oV (oR [oF 1 11 1,oL 12 11,⟨some 13,none,(.buildSlice 1 1 [(.int .i64 0)] [(0,1,(.tmp 12))])⟩,oF 2 14 1,oL 15 14,o2 16 225 13 15,oM 2 16]) .ret) .skip)))))) (oV (oR [oK 2 (.slice none 0 0)]) .ret)))
theorem zLr (h:Uz)(x:U2)(va:Value)(sa:WJ h va x.parts)(h4:x.kind=4):
  WC Tryz.prog tb 195 [.agg #[.int .u8 x.kind,I x.elem,I x.many,va]] h fun r h'=>r=va/\U5 h h':=by
 obtain⟨a1,a2,a3,rfl⟩:=WZ.shape sa;refine en 17 [(2,none)] zP7 ?_;refine VI ?_;intro p h1 e1 o1;replace o1:U3 h h1 p [.int .u8 x.kind,I x.elem,I x.many,.slice a1 a2 a3]:=o1;refine gr ?_;exact⟨rfl,e1⟩
def zRE:U0:=(oV (oR [oN 6 0,oN 7 0]) (oV (oV (oR [oM 10 0,oM 11 1,o2 12 190 10 11,oM 8 12]) (oV (oR [oM 13 8,oC .neq 14 13 0]) (oJ 14 (oV (oR [oM 15 8,oN 6 0,oM 7 15]) .ret) .skip))) (oV (oR [oM 16 0,oM 17 1,oI 4 18 16 17,oA 4 19 18,o1 20 195 19,oM 9 20]) (oV (oV (oR [oM 21 9,oQ 22 21,oM 23 2,⟨some 24,none,(.buildSlice 1 1 [(.int .i64 0)] [(0,1,(.tmp 23))])⟩,o2 25 167 22 24,oW 26 25]) (oJ 26 (oV (oR [oN 6 0,oN 7 2]) .ret) .skip)) (oV (oR [oM 27 9,oM 28 2,oI 1 29 27 28,oL 30 29,oM 6 30,oN 7 0]) .ret)))))
theorem zNN (h:Uz)(vt:Value)(T:List U2)(k n:Int)(st:Wr h vt T)(hT:T.length<=100)(hp:∀ x∈T,x.parts.length<=100)(hc:yp T=0)(hk:0<=k/\k<(T.length:Int))(h4:(T.getD k.toNat default).kind=4)(hn:0<=n/\n<((T.getD k.toNat default).parts.length:Int)):
  WC Tryz.prog tb 137 [vt,I k,I n] h fun r h'=>r= .tuple #[I ((T.getD k.toNat default).parts.getD n.toNat 0),I 0]/\U5 h h':=by
 have hm:=zBU hc hk.1 hk.2;have h8:=(zGe hm h4).1;refine en 31 [(6,none),(7,none)] zRE ?_;refine VA (zFs h vt T k st hT hp hc hk) ?_;rintro _ h2 ⟨rfl,e2⟩;have st2:=Wr.ext st e2;obtain⟨cs,⟨va,rfl,sa,hla⟩,pc,hs⟩:=ZN (i:=k.toNat) st2 (by omega);obtain⟨t1,t2,t3,rfl⟩:=zF st2;generalize T.getD k.toNat default=x at *;obtain⟨a1,a2,a3,rfl⟩:=WZ.shape sa;refine go ?_;refine VA (zLr h2 x _ sa h4) ?_;rintro _ h3 ⟨rfl,e3⟩;have sa3:=sa.ext e3;refine go ?_;refine WO.bl [n] ?_;intro v4 h4' e4 o4;have ht:yc (x.parts.length:Int) [n]=true:=by unfold yc;simp[hn.1,hn.2]
 refine go ?_;refine VA (zAd h4' v4 (x.parts.length:Int) [n] o4.sl (by simp)) ?_;rintro _ h5 ⟨rfl,e5⟩;rw[ht];have sa5:=sa3.ext (e4.trans e5);refine gr ?_;exact⟨rfl,e2.trans (e3.trans (e4.trans e5))⟩
theorem zOb {h:Uz}{v:Value}{l:List Int}{n:Nat}(s:WJ h v l)(hl:0<l.length)(hn:n<=l.length):∃ r,Zl 1 v none (some n) none=some r/\WJ h r (l.take n):=by
 obtain⟨h1,⟨h2,_⟩|⟨g,off,row,rfl,h3,h4,h5⟩⟩:=s
 ·omega
 have hlen:(l.take n).length=n:=by rw[GR];omega
 refine⟨.slice (some ⟨g,off+0 * 1,none⟩) (n - 0) 1,?_,by simp,.inr ⟨g,off,row,by rw[hlen];simp,h3,?_,h5⟩⟩
 ·have b1:Nat.ble 0 n=true:=QH (QT _);have b2:Nat.ble n l.length=true:=QH hn;simp only[Zl,Gt,GC,b1,b2,Q0,Q2,cond_true,Gd]
 ·obtain⟨c1,c2⟩:=zEO h4;rw[ZK (by rw[hlen];omega),List.map_take,c2,hlen,List.take_take,G2,G2,Gn hn]
def stepL (T:List U2)(s n:Int):Int:=(((T.getD s.toNat default).parts.take n.toNat).map fun p=>((yX T p.toNat).length:Int)).sum
def zPA:U0:=(oV (oR [oB .lss 39 38 37]) (oV (oT 39 0) (oV (o5 1 (oV (oR [oI 1 40 36 38,oL 41 40,oM 11 41]) (oV (oR [oM 43 0,oM 44 11,o2 45 80 43 44,oM 42 45,oE 46 42 0,oE 47 42 1,oM 12 46,oM 13 47]) (oR [oM 48 6,oM 49 12,oQ 50 49,oB .add 51 48 50,oM 6 51])))) (oR [oC .add 52 38 1,oM 38 52]))))
def zT1:U0:=(oV (oR [oN 6 0,oN 7 0]) (oV (oV (oR [oM 15 0,oM 16 1,oM 17 2,o3 18 137 15 16 17,oM 14 18,oE 19 14 0,oE 20 14 1,oM 8 19,oM 9 20]) (oV (oR [oM 21 9,oC .neq 22 21 0]) (oJ 22 (oV (oR [oM 23 9,oN 6 0,oM 7 23]) .ret) .skip))) (oV (oV (oR [oM 24 0,oM 25 1,oI 4 26 24 25,oF 0 27 26,oL 28 27,oD .eql 29 28 5]) (oJ 29 (oV (oR [oN 6 0,oN 7 0]) .ret) .skip)) (oV (oV (oR [oM 30 0,oM 31 1,oI 4 32 30 31,oF 3 33 32,oL 34 33,oM 35 2,⟨some 36,none,(.slice 1 (.tmp 34) none (some (.tmp 35)) none)⟩,oQ 37 36,oN 38 0]) (o5 0 (.loop zPA))) (oV (oR [oM 53 6,oM 6 53,oN 7 0]) .ret)))))
theorem zNL (h:Uz)(vt:Value)(T:List U2)(k n:Int)(st:Wr h vt T)(hT:T.length<=100)(hp:∀ x∈T,x.parts.length<=100)(hc:yp T=0)(hk:0<=k/\k<(T.length:Int))(h4:(T.getD k.toNat default).kind=4)(hn:0<=n/\n<((T.getD k.toNat default).parts.length:Int))(hm:h.mark<=h.n):
  WC Tryz.prog tb 86 [vt,I k,I n] h fun r h'=>(∃ e,r= .tuple #[I (stepL T k n),e])/\U5 h h':=by
 have hmy:=zBU hc hk.1 hk.2;have hp4:=zGe hmy h4;have hlow:=zGq hc;refine en 54 [(6,none),(7,none)] zT1 ?_;refine VA (zNN h vt T k n st hT hp hc hk h4 hn) ?_;rintro _ h2 ⟨rfl,e2⟩;have st2:=Wr.ext st e2;obtain⟨cs,⟨va,rfl,sa,hla⟩,pc,hs⟩:=ZN (i:=k.toNat) st2 (by omega);obtain⟨t1,t2,t3,rfl⟩:=zF st2;have hsteq:stepL T k n=(((T.getD k.toNat default).parts.take n.toNat).map fun p=>((yX T p.toNat).length:Int)).sum:=rfl;rw[hsteq];have hfl:∀ p∈(T.getD k.toNat default).parts,(0<=p/\p<(T.length:Int))/\(yX T p.toNat).length<=32:=fun p hpp=>by
  have h1:=hp4.2 p hpp;have h2:=hlow p.toNat (by omega);exact⟨by omega,QO (zD3 (p.toNat+1) p.toNat (GD _) fun j hj=>(hlow j (by omega)).1) h2.2⟩
 clear hsteq;generalize T.getD k.toNat default=x at *;obtain⟨a1,a2,a3,rfl⟩:=WZ.shape sa;have hp8:=hp4.1;clear hp4;obtain⟨w,hw,sw⟩:=zOb (n:=n.toNat) sa (by omega) (by omega);have hwl:(x.parts.take n.toNat).length=n.toNat:=by rw[GR];omega
 have hfl':∀ p∈x.parts.take n.toNat,(0<=p/\p<(T.length:Int))/\(yX T p.toNat).length<=32:=fun p hpp=>hfl p (Ge hpp);obtain⟨m,rfl⟩:∃ m:Nat,n=m:=⟨n.toNat,by omega⟩;rw[QU]at *;generalize x.parts.take m=l at *;replace hfl:=WW.mk hfl;replace hfl':=WW.mk hfl';replace hlow:=WW.mk hlow;obtain⟨w1,w2,w3,rfl⟩:=WZ.shape sw;refine go ?_;refine Vz hw ?_;refine go ?_;refine VD [39,40,41,11,43,44,45,42,46,47,12,13,48,49,50,51,6,52,38] (by kernel_rfl) (fun i=>l.length - i) (fun i t h3=>zB t 38=I i/\i<=l.length/\U5 h2 h3/\zB t 6=I ((l.take i).map fun p=>((yX T p.toNat).length:Int)).sum/\0<=((l.take i).map fun p=>((yX T p.toNat).length:Int)).sum/\((l.take i).map fun p=>((yX T p.toNat).length:Int)).sum<=32 * i) 0 ?_ ?_
 ·exact⟨U7,QT _,U5.refl _,U7,by simp,by simp⟩
 rintro i t h3 hsame ⟨s38,hi,e3,s6,hb0,hb1⟩;have sw3:=sw.ext e3;refine go ?_;refine VE (fun hc'=> ?_) (fun hc'=> ?_)<;>simp only[DB]at hc'
 ·have hi':i<l.length:=by omega
  have hx:=hfl'.out _ (zq hi');have hsn:((l.take (i+1)).map fun p=>((yX T p.toNat).length:Int)).sum=((l.take i).map fun p=>((yX T p.toNat).length:Int)).sum+((yX T (l.getD i 0).toNat).length:Int):=by
   rw[GE,QD hi',Qr,Gg];congr 1;simp[List.getD,QD hi']
  have e23:=e2.trans e3;refine go ?_;refine VA (zFd h3 _ T (l.getD i 0) (Wr.ext st e23) hT hp hc hx.1 (by rw[e23.mark];exact QO hm e23.n)) ?_;rintro _ h4 ⟨⟨v,rfl,ov⟩,e4⟩;have sv:=ov.sl;obtain⟨v1,v2,v3,rfl⟩:=WZ.shape sv;generalize ((l.take i).map fun p=>((yX T p.toNat).length:Int)).sum=a at *;refine go ?_;exact zA (i+1) (by omega) ⟨Wo,by omega,e3.trans e4,by rw[hsn];exact U7,by rw[hsn];omega,by rw[hsn];omega⟩
 ·have hii:i=l.length:=by omega
  subst hii;rw[Q8]at *;refine gr ?_;exact⟨⟨_,rfl⟩,e2.trans e3⟩
end
end Go.Proofs.YtmejfcakhpihlaaGreatDoor
