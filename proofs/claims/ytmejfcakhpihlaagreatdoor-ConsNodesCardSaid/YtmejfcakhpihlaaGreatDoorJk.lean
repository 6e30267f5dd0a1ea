/- What functions of the program come to in the abstract machine, and plain laws about it; no statement of the seat is proved in this text. -/
import Derived.Test.YtmejfcakhpihlaaGreatDoorJj
import Derived.Test.YtmejfcakhpihlaaGreatDoorJj
import Derived.Test.YtmejfcakhpihlaaGreatDoorJj
import Derived.Test.YtmejfcakhpihlaaGreatDoorAmV
import Derived.Test.YtmejfcakhpihlaaGreatDoorAmU
set_option linter.unusedVariables false
set_option linter.unusedSimpArgs false
set_option maxHeartbeats 2000000
namespace Go.Proofs.YtmejfcakhpihlaaGreatDoor
noncomputable section
open Go.Am
set_option maxRecDepth 100000
structure CW (hB h:U0)(vT pT pF pR vR:Value)(l:List Int):Prop where
 tT:U4 hB h pT [vT]
 tF:U4 hB h pF [.func (.func 221) #[] #[pT,pF,pR]]
 tR:U4 hB h pR [vR]
 own:WH hB h vR l
 fT:WI pR pT
 fF:WI pR pF
 vt:WI vR pT
 vf:WI vR pF
 vr:WI vR pR
 ext:U6 hB h
theorem CW.ext' {hB h h':U0}{vT pT pF pR vR:Value}{l:List Int}(w:CW hB h vT pT pF pR vR l)(e:U6 h h'):CW hB h' vT pT pF pR vR l:=
 ⟨w.tT.ext e,w.tF.ext e,w.tR.ext e,w.own.ext e,w.fT,w.fF,w.vt,w.vf,w.vr,w.ext.trans e⟩
def zLF:U1:=(oV (oR [oB .lss 24 23 22]) (oV (oT 24 1) (oV (o5 2 (oV (oR [oI 1 25 21 23,oL 26 25,oM 7 26]) (oR [oL 27 2,oM 28 7,⟨some 29,none,(.call (.tmp 27) [(.tmp 28)])⟩]))) (oR [oC .add 30 23 1,oM 23 30]))))
def zMW:U1:=(oV (oR [oB .lss 36 35 34]) (oV (oT 36 3) (oV (o5 4 (oR [oL 37 2,oF 1 38 5,oL 39 38,⟨some 40,none,(.call (.tmp 37) [(.tmp 39)])⟩])) (oR [oC .add 41 35 1,oM 35 41]))))
def zR2:U1:=(oV (oR [oL 8 1,oM 9 0,oI 4 10 8 9,oA 4 11 10,⟨some 5,none,(.alloc [(.int .u8 0),(.int .i64 0),(.int .i64 0),(.slice none 0 0)])⟩,oS 4 5 11]) (oV (oR [oF 0 12 5,oL 13 12]) (o5 0 (oV (oR [oD .eql 19 13 4,oM 18 19]) (oJ 18 (oV (oR [oF 3 20 5,oL 21 20,oQ 22 21,oN 23 0]) (o5 1 (.loop zLF))) (oV (oR [oD .eql 32 13 5,oM 31 32]) (oJ 31 (oV (oR [oF 2 33 5,oL 34 33,oN 35 0]) (o5 3 (.loop zMW))) (oR [oL 14 3,oM 15 0,⟨some 16,none,(.buildSlice 1 1 [(.int .i64 0)] [(0,1,(.tmp 15))])⟩,oY 1 17 14 16,oS 1 3 17]))))))))
theorem zMB (hB:U0)(vT pT pF pR:Value)(T:List U3)(st:Ws hB vT T)(hT:(T.length:Int)<=1000):∀ (n k:Nat) (h:U0) (vR:Value) (l:List Int),k<n->k<T.length->zMe T k->ZO T k->CW hB h vT pT pF pR vR l->l.length+(BN T k).length<=100->
  WC Tryz.prog tb 221 [I k,pT,pF,pR] h fun r h'=>∃ vR',CW hB h' vT pT pF pR vR' (l++BN T k)/\WN pR vR h h' vR':=by
 obtain⟨t1,t2,t3,rfl⟩:=zG st;intro n;induction n with
 |zero=>intro k h vR l hk;omega
 |succ n ih=>
  intro k h vR l hkn hk hlow hM w hl;have hof:=zA0 (T:=T) (k:=k) fun j hj=>by
   by_cases e:j=k
   ·subst e;exact hM
   ·exact(hlow j (by omega)).1
  have hXt:=w.ext;have st0:=st.ext w.ext;have h4':=zFH hM;have h5':=zHU hM;obtain⟨cs,⟨va,rfl,sa,hla⟩,pc,hs⟩:=z0 (i:=k) st hk;replace pc:=(pc _ hXt).1;rw[hof]at hl |-;clear hof;generalize T.getD k default=x at *;obtain⟨a1,a2,a3,rfl⟩:=WW.shape sa;have oT:=w.tT;have oF:=w.tF;have oR:=w.tR;refine en 42 [] zR2 ?_;refine WO.al ?_;intro p h1 e1 o1;refine go ?_;refine VG o1 e1 ?_;intro h2 e2 o2 _;have w2:=w.ext' e2;have sa2:=sa.ext w2.ext;have f1:WI pR p:=(VF o2.since' w.tR.within).symm;have f2:WI vR p:=(VF o2.since' w.own.within).symm;by_cases h4:x.kind=4
  ·have hp:=h4' h4;simp only[h4,Q2]at hl |-;have hp8:=hp.1;replace hp:=WY.mk hp;replace hlow:=WY.mk hlow;refine go ?_;refine VD [24,25,26,7,27,28,29,30,23] (by kernel_rfl) (fun i=>x.parts.length - i) (fun i t h3=>zB t 23=I i/\i<=x.parts.length/\∃ vR',CW hB h3 (.slice t1 t2 t3) pT pF pR vR' (l++((x.parts.take i).map fun p=>BN T p.toNat).flatten)/\WN pR vR h2 h3 vR') 0 ?_ ?_
   ·exact⟨U8,QS _,vR,by simpa using w2,WN.refl ..⟩
   rintro i t h3 hsame ⟨s7,hi,vR',w3,k3⟩;have sa3:=sa.ext w3.ext;have o3T:=w3.tT;have o3F:=w3.tF;refine go ?_;refine VE (fun hc=> ?_) (fun hc=> ?_)<;>simp only[DB]at hc
   ·have hi':i<x.parts.length:=by omega
    have hpi:=hp.out.2 _ (zc hi');have hsucc:=zMy (f:=fun p=>BN T p.toNat) hi';have hsum:((x.parts.take (i+1)).map fun p=>BN T p.toNat).flatten.length<=(x.parts.map fun p=>BN T p.toNat).flatten.length:=by
     conv=>rhs;rw[<-GG (i+1) x.parts]
     rw[Q9,List.flatten_append,QM];omega
    obtain⟨q,hq⟩:∃ q:Nat,x.parts.getD i 0=q:=⟨(x.parts.getD i 0).toNat,by omega⟩;have hqk:q<k:=by omega
    have hdef:x.parts.getD i default=(q:Int):=hq;rw[hdef]at hsucc;simp only[QU]at hsucc;rw[hsucc,QM]at hsum;refine go ?_;rw[hq];refine VN (WV.func (ih q h3 vR' _ (by omega) (by omega) (fun j hj=>hlow.out j (by omega)) (hlow.out q hqk).1 w3 (by rw[QM];omega))) ?_;rintro r h4 ⟨vR4,w4,k4⟩;refine go ?_;exact zA (i+1) (by omega) ⟨Wu,by omega,vR4,by rw[hsucc,<-QZ];exact w4,k3.trans k4⟩
   ·have hii:i=x.parts.length:=by omega
    subst hii;rw[Qx]at w3;refine go ?_;refine W9 ?_;exact⟨vR',w3,(WN.ext e2).trans k3⟩
  by_cases h5:x.kind=5
  ·have hp:=h5' h5;obtain⟨q,hq⟩:∃ q:Nat,x.elem=q:=⟨x.elem.toNat,by omega⟩;obtain⟨m,hm⟩:∃ m:Nat,x.many=m:=⟨x.many.toNat,by omega⟩;have hqk:q<k:=by omega
   simp only[h5,Q2,Gh,show ¬((5:Int)=4) by decide,hq,hm,QU]at hl |-;replace hlow:=WY.mk hlow;rw[zBR]at hl;refine go ?_;refine VD [36,37,38,39,40,41,35] (by kernel_rfl) (fun i=>m - i) (fun i t h3=>zB t 35=I i/\i<=m/\∃ vR',CW hB h3 (.slice t1 t2 t3) pT pF pR vR' (l++(List.replicate i (BN T q)).flatten)/\WN pR vR h2 h3 vR') 0 ?_ ?_
   ·exact⟨U8,QS _,vR,by simpa using w2,WN.refl ..⟩
   rintro i t h3 hsame ⟨s7,hi,vR',w3,k3⟩;have o3T:=w3.tT;have o3F:=w3.tF;have o3p:=(VO o2 k3 f1 f2).1;refine go ?_;rw[hm];refine go ?_;refine VE (fun hc=> ?_) (fun hc=> ?_)<;>simp only[DB]at hc
   ·have hi':i<m:=by omega
    have hmul:(i+1) * (BN T q).length<=m * (BN T q).length:=Gc _ hi';rw[JA]at hmul;refine go ?_;rw[hq];refine VN (WV.func (ih q h3 vR' _ (by omega) (by omega) (fun j hj=>hlow.out j (by omega)) (hlow.out q hqk).1 w3 (by rw[QM,zBR];omega))) ?_;rintro r h4 ⟨vR4,w4,k4⟩;refine go ?_;refine zA (i+1) (by omega) ⟨Wu,by omega,vR4,?_,k3.trans k4⟩;rw[List.replicate_succ',List.flatten_append,<-QZ];simpa using w4
   ·have hii:i=m:=by omega
    subst hii;refine go ?_;refine W9 ?_;exact⟨vR',w3,(WN.ext e2).trans k3⟩
  ·simp only[h4,h5,Gh]at hl |-;have o2T:=w2.tT;have o2F:=w2.tF;have o2R:=w2.tR;refine go ?_;refine WO.bl [(k:Int)] ?_;intro v h3 e3 o3;have w3:=w2.ext' e3;refine go ?_;refine Vo w3.own o3.sl w3.ext (by simp) (by simp at hl |-;omega) ?_;intro v4 h4 e4 o4 u4;have tR4:=w3.tR.upB u4.upB w3.vr;have sn:=WH.since' (.inr o4);have oT4:=w3.tT.upB u4.upB w3.vt;have oF4:=w3.tF.upB u4.upB w3.vf;obtain⟨g4,q1,q2,rfl,q3⟩:=id o4;refine go ?_;refine VG tR4 e4 ?_;intro h5 e5 o5 u5;refine go ?_;refine W9 ?_;have hv:WI _ pR:=VF sn w3.tR.within;refine⟨_,⟨oT4.upB u5.upB w3.fT,oF4.upB u5.upB w3.fF,o5,WH.upB (.inr (o4.since w3.ext)) u5.upB hv.symm,w3.fT,w3.fF,VF sn w3.tT.within,VF sn w3.tF.within,hv,e5⟩,?_⟩;refine(WN.ext (e2.trans e3)).trans ⟨QO u4.1 u5.1,fun g hg h1 h2=> ?_,fun b hb=> .inr (sn b hb)⟩;rw[u5.upB.2 g (QG hg u4.1) h1,u4.upB.2 g hg h2]
def zQF:U1:=(oV (oR [oX 2 0,⟨some 4,none,(.alloc [(.slice none 0 0)])⟩]) (oV (oR [⟨some 5,none,(.alloc [.nilFunc])⟩]) (oV (oR [⟨some 6,none,(.mkFunc (.func 221) [] [(.tmp 2),(.tmp 5),(.tmp 4)])⟩,oS 1 5 6]) (oV (oR [oL 7 5,oM 8 1,⟨some 9,none,(.call (.tmp 7) [(.tmp 8)])⟩]) (oV (oR [oL 10 4,oS 1 4 10]) .ret)))))
theorem zNV (h:U0)(vT:Value)(T:List U3)(k:Nat)(st:Ws h vT T)(hT:(T.length:Int)<=1000)(hk:k<T.length)(hlow:∀ j,j<T.length->ZO T j/\(BN T j).length<=32):
  WC Tryz.prog tb 191 [vT,I k] h fun r h'=>WH h h' r (BN T k)/\U6 h h':=by
 obtain⟨t1,t2,t3,rfl⟩:=zG st;refine en 11 [(4,some (false,1))] zQF ?_;refine VH ?_;intro pT h1 e1 oT;refine go ?_;refine WO.al ?_;intro pR h2 e2 oR;refine go ?_;refine WO.al ?_;intro pF h3 e3 oF;refine go ?_;refine VG (cs:=[.func (.func 221) #[] #[pT,pF,pR]]) oF e3 ?_;intro h4 e4 oF4 _;have e04:=e1.trans (e2.trans e4);have oT:U4 h h1 pT [.slice t1 t2 t3]:=oT;have a1:=VF oR.since' oT.within;have a2:=VF oF4.since' oR.within;have w:CW h h4 (.slice t1 t2 t3) pT pF pR (.slice none 0 0) []:=
  ⟨oT.ext (e2.trans e4),oF4.since (e1.trans e2),(oR.ext e4).since e1,.inl ⟨rfl,rfl⟩,a1,a2.symm,(fun b hb=>by cases hb),(fun b hb=>by cases hb),(fun b hb=>by cases hb),e04⟩
 have hwF:=w.tF;have hl:=hlow k hk;refine go ?_;refine VN (WV.func (zMB h _ pT pF pR T st hT (k+1) k h4 _ [] (by omega) hk (fun j hj=>hlow j (by omega)) hl.1 w (by simp;omega))) ?_;rintro r h5 ⟨vR,w5,k5⟩;rw[GS]at w5;have ow:=w5.own;obtain⟨r1,r2,r3,rfl⟩:=WW.shape ow.sl;have o5:=w5.tR;refine go ?_;refine VG o5 w5.ext ?_;intro h6 e6 o6 u6;refine go ?_;refine rt ?_ (Vc U8 o6 rfl W2.nil);exact⟨ow.upB u6.upB w5.vr.symm,e6⟩
def zSA:U1:=(oV (oR [oK 4 (.slice none 0 0),oN 5 0]) (oV (oV (oR [oM 7 0,oM 8 1,o2 9 190 7 8,oM 6 9]) (oV (oR [oM 10 6,oC .neq 11 10 0]) (oJ 11 (oV (oR [oM 12 6,oK 4 (.slice none 0 0),oM 5 12]) .ret) .skip))) (oV (oR [oM 13 0,oM 14 1,o2 15 191 13 14,oM 4 15,oN 5 0]) .ret)))
theorem zOi (h:U0)(vT:Value)(T:List U3)(k:Int)(st:Ws h vT T)(hT:T.length<=100)(hp:∀ x∈T,x.parts.length<=100)(hc:yo T=0)(hk:0<=k/\k<(T.length:Int)):
  WC Tryz.prog tb 131 [vT,I k] h fun r h'=>(∃ v,r= .tuple #[v,I 0]/\WH h h' v (BN T k.toNat))/\U6 h h':=by
 obtain⟨k,rfl⟩:∃ q:Nat,k=q:=⟨k.toNat,by omega⟩;obtain⟨t1,t2,t3,rfl⟩:=zG st;have hl:∀ j,j<T.length->ZO T j/\(BN T j).length<=32:=by
  have h1:=hc;rw[zBv]at h1;split at h1
  ·cases h1
  ·split at h1
   ·assumption
   ·cases h1
 refine en 16 [(4,none),(5,none)] zSA ?_;refine VA (zFU h _ T k st hT hp hc hk) ?_;rintro _ h2 ⟨rfl,e2⟩;have st2:=Ws.ext st e2;refine go ?_;refine VA (zNV h2 _ T k st2 (by omega) (by omega) hl) ?_;rintro v h3 ⟨o3,e3⟩;refine gr ?_;exact⟨⟨v,rfl,o3.since e2⟩,e2.trans e3⟩
set_option maxRecDepth 100000
theorem zC9 {T:List U3}(h1:yo T=0):∀ j,j<T.length->ZO T j/\(BN T j).length<=32:=by
 rw[zBv]at h1;split at h1
 ·cases h1
 ·split at h1
  ·assumption
  ·cases h1
structure KW (hB h:U0)(vT p vA:Value)(b:Nat)(o:Bool)(fid:FuncId)(s:Int)(l:List Int):Prop where
 own:U4 hB h p [vT,.bool o,.func (.func fid) #[] #[],I s,vA]
 lst:WP 1 RI b h vA l
 pb:∀ g,p= .pointer (some ⟨g,0,none⟩)->g<b
 bn:b<=h.n
 ext:U6 hB h
theorem KW.off {hB h:U0}{vT p vA:Value}{b:Nat}{o:Bool}{fid:FuncId}{s:Int}{l:List Int}(w:KW hB h vT p vA b o fid s l):WI p vA:=by
 obtain⟨g,_,_,rfl,_⟩:=w.own;have hg:=w.pb g rfl;intro c hc hv;cases hc;rcases w.lst with ⟨rfl,_⟩|⟨g2,_,_,g3,_,rfl,_⟩
 ·cases hv
 ·cases hv;exact Nat.lt_irrefl _ (QG hg g3)
def zLP:U1:=(oV (oR [oB .lss 51 50 49]) (oV (oT 51 1) (oV (o5 2 (oV (oR [oI 1 52 48 50,oL 53 52,oM 6 53]) (oR [oM 54 0,oM 55 6,o2 56 133 54 55]))) (oR [oC .add 57 50 1,oM 50 57]))))
def zMM:U1:=(oV (oR [oB .lss 69 68 67]) (oV (oT 69 3) (oV (o5 4 (oV (oR [oM 70 68,oM 9 70]) (oV (oV (oR [oM 71 0,⟨some 72,none,(.nilCheck (.tmp 71))⟩,oF 1 73 72,oL 74 73,oM 75 74,oG 75 (oM 76 9),oG 75 (oC .gtr 77 76 0),oP 78 75 77]) (oJ 78 (.exit 3) .skip)) (oV (oR [oM 79 0,oM 80 7,⟨some 81,none,(.nilCheck (.tmp 79))⟩,oF 3 82 81,oS 1 82 80]) (oR [oM 83 8,oF 1 84 4,oL 85 84,⟨some 86,none,(.call (.tmp 83) [(.tmp 85)])⟩]))))) (oR [oC .add 87 68 1,oM 68 87]))))
def zP6:U1:=(oV (oR [oM 10 0,⟨some 11,none,(.nilCheck (.tmp 10))⟩,oF 0 12 11,oL 13 12,oM 14 1,oI 4 15 13 14,oA 4 16 15,⟨some 4,none,(.alloc [(.int .u8 0),(.int .i64 0),(.int .i64 0),(.slice none 0 0)])⟩,oS 4 4 16]) (oV (oR [oF 0 17 4,oL 18 17]) (o5 0 (oV (oR [oD .eql 46 18 4,oM 45 46]) (oJ 45 (oV (oR [oF 3 47 4,oL 48 47,oQ 49 48,oN 50 0]) (o5 1 (.loop zLP))) (oV (oR [oD .eql 59 18 5,oM 58 59]) (oJ 58 (.scope (oV (oR [oM 60 0,⟨some 61,none,(.nilCheck (.tmp 60))⟩,oF 3 62 61,oL 63 62,oM 7 63]) (oV (oR [oM 64 0,⟨some 65,none,(.mkFunc (.func 133) [(.tmp 64)] [])⟩,oM 8 65]) (oV (.label 0) (oV (oR [oF 2 66 4,oL 67 66,oN 68 0]) (o5 3 (.loop zMM))))))) (oV (o6 [oM 19 0,oM 20 0,(⟨some 21,none,(.nilCheck (.tmp 20))⟩,[]),oF 4 22 21,oL 23 22,oM 24 0,(⟨some 25,none,(.nilCheck (.tmp 24))⟩,[]),oF 2 26 25,oL 27 26,oM 28 1,oM 29 0,(⟨some 30,none,(.nilCheck (.tmp 29))⟩,[]),oF 3 31 30,oL 32 31,(⟨some 33,none,(.call (.tmp 27) [(.tmp 28),(.tmp 32)])⟩,[4]),(⟨some 34,none,(.buildSlice 1 1 [(.int .i64 0)] [(0,1,(.tmp 33))])⟩,[]),oY 1 35 23 34,(⟨some 36,none,(.nilCheck (.tmp 19))⟩,[]),oF 4 37 36,oS 1 37 35]) (oR [oM 38 0,⟨some 39,none,(.nilCheck (.tmp 38))⟩,oF 3 40 39,oL 41 40,oC .add 42 41 1,⟨some 43,none,(.nilCheck (.tmp 38))⟩,oF 3 44 43,oS 1 44 42])))))))))
theorem zRZ (hB:U0)(hmB:hB.mark<=hB.n)(vT p:Value)(b:Nat)(o:Bool)(fid:FuncId)(T:List U3)(st:Ws hB vT T)(hT:(T.length:Int)<=1000)
  (hf:∀ (h:U0) (k:Nat) (s:Int),WC Tryz.prog tb fid [I k,I s] h fun r h'=>r=I (if o then (k:Int) else s)/\h=h'):∀ (n k:Nat) (h:U0) (vA:Value) (s:Int) (l:List Int),k<n->k<T.length->zMe T k->ZO T k->KW hB h vT p vA b o fid s l->hB.n<=b->0<=s->s+300 * k<=1000000000->l.length+600 * k<=90000->
  WC Tryz.prog tb 133 [p,I k] h fun r h'=>∃ vA',KW hB h' vT p vA' b o fid (s+(yO T k).length) (l++wkL T o s k)/\WN p vA h h' vA':=by
 obtain⟨t1,t2,t3,rfl⟩:=zG st;intro n;induction n with
 |zero=>intro k h vA s l hk;omega
 |succ n ih=>
  intro k h vA s l hkn hk hlow hM w hb s0 s1 hl;have hall:∀ j,j<=k->ZO T j:=fun j hj=>by
   by_cases e:j=k
   ·subst e;exact hM
   ·exact(hlow j (by omega)).1
  have hXt:=w.ext;have st0:=st.ext w.ext;have h4':=zFH hM;have h5':=zHU hM;obtain⟨cs,⟨va,rfl,sa,hla⟩,pc,hs⟩:=z0 (i:=k) st hk;replace pc:=(pc _ hXt).1;have h32:∀ q,q<k->(yO T q).length<=32/\(∀ s',(wkL T o s' q).length<=32)/\(Bw T q).2=(yO T q).length:=fun q hq=>by
   have h1:=(hlow q hq).2;have h2:∀ j,j<=q->ZO T j:=fun j hj=>hall j (by omega);exact⟨QO (zCx (q+1) q (Q7 _) h2) h1,fun s'=>QO (zUS h2) h1,(zKR (q+1) q (Q7 _) h2).1⟩
  rw[zAK hall,zI7 hall];generalize T.getD k default=x at *;obtain⟨a1,a2,a3,rfl⟩:=WW.shape sa;have oW:=w.own;obtain⟨gp,_,_,rfl,_⟩:=id oW;refine en 88 [] zP6 ?_;refine WO.al ?_;intro p4 h1 e1 o1;refine go ?_;refine VG o1 e1 ?_;intro h2 e2 o2 _;have oW2:=oW.ext e2;have w2:KW hB h2 (.slice t1 t2 t3) (.pointer (some ⟨gp,0,none⟩)) vA b o fid s l:=⟨oW2,WP.ext w.lst e2,w.pb,QO w.bn e2.n,w.ext.trans e2⟩;have sa2:=sa.ext w2.ext;have f2:WI vA p4:=(VF o2.since' w.lst.within).symm;have f1:WI (.pointer (some ⟨gp,0,none⟩)) p4:=(VF o2.since' oW.within).symm;replace h32:=WY.mk h32;replace hall:=WY.mk hall;by_cases h4:x.kind=4
  ·have hp:=h4' h4;simp only[h4,Q2];have hp8:=hp.1;replace hp:=WY.mk hp;replace hlow:=WY.mk hlow;have hN:WY (∀ i,∀ p∈x.parts.take i,(Bw T p.toNat).2=(yO T p.toNat).length):=⟨fun i p hpp=>(h32.out p.toNat (by have:=hp.out.2 p (GJ hpp);omega)).2.2⟩;refine go ?_;refine VD [51,52,53,6,54,55,56,57,50] (by kernel_rfl) (fun i=>x.parts.length - i) (fun i t h3=>zB t 50=I i/\i<=x.parts.length/\∃ vA',KW hB h3 (.slice t1 t2 t3) (.pointer (some ⟨gp,0,none⟩)) vA' b o fid (s+(((x.parts.take i).map fun p=>yO T p.toNat).flatten.length:Int)) (l++zFO T o s (x.parts.take i))/\WN (.pointer (some ⟨gp,0,none⟩)) vA h2 h3 vA'/\(zFO T o s (x.parts.take i)).length<=32 * i) 0 ?_ ?_
   ·refine⟨U8,QS _,vA,?_,WN.refl ..,?_⟩
    ·have:zFO T o s []=[]:=by cases o<;>rfl
     simpa [this]using w2
    ·have:zFO T o s []=[]:=by cases o<;>rfl
     simp[this]
   rintro i t h3 hsame ⟨s7,hi,vA',w3,k3,hwl⟩;have sa3:=sa.ext w3.ext;refine go ?_;refine VE (fun hc=> ?_) (fun hc=> ?_)<;>simp only[DB]at hc
   ·have hi':i<x.parts.length:=by omega
    have hpi:=hp.out.2 _ (zc hi');obtain⟨q,hq⟩:∃ q:Nat,x.parts.getD i 0=q:=⟨(x.parts.getD i 0).toNat,by omega⟩;have hqk:q<k:=by omega
    have htk:x.parts.take (i+1)=x.parts.take i++[(q:Int)]:=by
     rw[Q4,QB hi',<-hq];simp[List.getD,QB hi']
    have hsn:=zM9 (o:=o) (s:=s) (q:=(q:Int)) (hN.out i);have hfl:=zIE (l:=x.parts.take i) (f:=fun p=>yO T p.toNat) fun p hpp=>(h32.out p.toNat (by have:=hp.out.2 p (GJ hpp);omega)).1;have hti:(x.parts.take i).length<=i:=List.length_take_le _ _;have h32q:=h32.out q hqk;rw[QU]at hsn;have hfs:((x.parts.take (i+1)).map fun p=>yO T p.toNat).flatten.length=((x.parts.take i).map fun p=>yO T p.toNat).flatten.length+(yO T q).length:=by
     rw[htk];simp
    refine go ?_;rw[hq];refine VA (ih q h3 vA' _ _ (by omega) (by omega) (fun j hj=>hlow.out j (by omega)) (hlow.out q hqk).1 w3 hb (by omega) (by omega) (by rw[QM];omega)) ?_;rintro r h4 ⟨vA4,w4,k4⟩;refine go ?_;refine zA (i+1) (by omega) ⟨Wu,by omega,vA4,?_,k3.trans k4,?_⟩
    ·rw[hfs,htk,hsn,<-QZ,Int.natCast_add,<-Int.add_assoc];exact w4
    ·rw[htk,hsn,QM];have:=h32q.2.1 (s+(((x.parts.take i).map fun p=>yO T p.toNat).flatten.length:Int));omega
   ·have hii:i=x.parts.length:=by omega
    subst hii;rw[Qx]at w3;refine go ?_;refine W9 ?_;exact⟨vA',w3,(WN.ext e2).trans k3⟩
  by_cases h5:x.kind=5
  ·have hp:=h5' h5;obtain⟨q,hq⟩:∃ q:Nat,x.elem=q:=⟨x.elem.toNat,by omega⟩;obtain⟨m,hm⟩:∃ m:Nat,x.many=m:=⟨x.many.toNat,by omega⟩;have hqk:q<k:=by omega
   simp only[h5,Q2,Gh,show ¬((5:Int)=4) by decide,hq,hm,QU];replace hlow:=WY.mk hlow;refine go ?_;refine Vx ?_;refine go ?_;refine VD [69,70,9,71,72,73,74,75,76,77,78,79,80,81,82,83,84,85,86,87,68] (by kernel_rfl) (fun i=>m - i) (fun i t h3=>zB t 68=I i/\i<=m/\(o=true->i<=1)/\∃ vA',KW hB h3 (.slice t1 t2 t3) (.pointer (some ⟨gp,0,none⟩)) vA' b o fid (if i=0 then s else s+((yO T q).length:Int)) (l++if o then (if i=0 then [] else yO T q) else (List.replicate i (wkL T o s q)).flatten)/\WN (.pointer (some ⟨gp,0,none⟩)) vA h2 h3 vA') 0 ?_ ?_
   ·exact⟨U8,QS _,fun _=>QS _,vA,by cases o<;>simpa using w2,WN.refl ..⟩
   rintro i t h3 hsame ⟨s7,hi,hoi,vA',w3,k3⟩;have o3p:=(VO o2 k3 f1 f2).1;have oW3:=w3.own;refine go ?_;rw[hm];refine go ?_;refine VE (fun hc=> ?_) (fun hc=> ?_)<;>simp only[DB]at hc
   ·have hi':i<m:=by omega
    by_cases hox:o=true/\i≠0
    ·obtain⟨rfl,hi0⟩:=hox;have hi1:i=1:=by have:=hoi rfl;omega
     subst hi1;refine go ?_;refine W9 ?_;exact⟨vA',by simpa using w3,(WN.ext e2).trans k3⟩
    ·have hw:(if o then (if i=0 then [] else yO T q) else (List.replicate i (wkL T o s q)).flatten)++wkL T o s q=(if o then (if i+1=0 then [] else yO T q) else (List.replicate (i+1) (wkL T o s q)).flatten)/\(if o then (if i=0 then [] else yO T q) else (List.replicate i (wkL T o s q)).flatten).length<=32 * i:=by
      cases o with
      |true=>
       have:i=0:=by have:=hoi rfl;exact Gt fun h=>hox ⟨rfl,h⟩
       subst this;simp[wkL]
      |false=>
       simp only[Qn,Gh];rw[List.replicate_succ',List.flatten_append];have:=(h32.out q hqk).2.1 s;have h2:=zBR i (wkL T false s q);have h3:=Nat.mul_le_mul_left i this;exact⟨by simp,by omega⟩
     have hsk:o=true->i=0:=fun h=>Gt fun h2=>hox ⟨h,h2⟩;have hof:=w3.off;have f3:=(VO o2 k3 f1 f2).2;have h32q:=h32.out q hqk;cases o;all_goals
      first|(have hi0:i=0:=hsk rfl)|skip
      refine go ?_
      refine VU (j:=3) (cs:=[I s]) (hl:=by simp) oW3 w3.ext ?_
      intro h4 e4 oW4 u4
      replace oW4:U4 hB h4 (.pointer (some ⟨gp,0,none⟩)) [.slice t1 t2 t3,.bool _,.func (.func fid) #[] #[],I s,vA']:=oW4
      have o4p:=U4.upB o3p u4.upB f1
      have w4:=KW.mk oW4 (WP.upB (fun _ _ _ _ h=>h) w3.lst u4.upB hof) w3.pb (QO w3.bn u4.1) e4
      refine go ?_
      rw[hq]
      refine VN (WV.func (ih q h4 vA' s _ (by omega) (by omega) (fun j hj=>hlow.out j (by omega)) (hlow.out q hqk).1 w4 hb s0 (by omega) (by rw[QM];omega))) ?_
      rintro r h5 ⟨vA5,w5,k5⟩
      refine go ?_
      refine zA (i+1) (by omega) ⟨Wu,by omega,(fun h=>by first|omega|cases h),vA5,?_,k3.trans (WN.trans ⟨u4.1,fun g hg h1 _=>u4.upB.2 g hg h1,fun _ h=> .inl h⟩ k5)⟩
      rw[QZ,hw.1]at w5
      simpa using w5
   ·have hii:i=m:=by omega
    subst hii;refine go ?_;refine W9 ?_;have hm0:i≠0:=by omega
    exact⟨vA',by simpa [hm0]using w3,(WN.ext e2).trans k3⟩
  ·simp only[h4,h5,Gh];refine go ?_;refine VC 1 rfl rfl ?_;have oWY:=oW2.ext (zQ 1 h2);have oWX:U4 hB (inC (zC 1 h2)) (.pointer (some ⟨gp,0,none⟩)) [.slice t1 t2 t3,.bool o,.func (.func fid) #[] #[],I s,vA]:=oWY;clear oWY;have hsl:∃ c1 c2 c3,vA= .slice c1 c2 c3:=by
    rcases w2.lst with ⟨rfl,_⟩|⟨_,_,_,_,_,rfl,_⟩
    ·exact⟨_,_,_,rfl⟩
    ·exact⟨_,_,_,rfl⟩
   obtain⟨c1,c2,c3,rfl⟩:=hsl;refine WM ?_;refine VN (WV.func (hf _ k s)) ?_;rintro _ _ ⟨rfl,rfl⟩;refine nE (U6.refl _) ?_;refine V6 (hB:=hB) (b:=b) (v:= .slice c1 c2 c3) (if o then (k:Int) else s) (fun _=>False) (U6.refl _) w2.lst w2.ext (by have:=w2.ext.mark;omega) hb w2.bn (by decide) (by omega) oW2 w2.pb (fun _ _ _=>rfl) (fun _ h=>h.elim) (fun _ _ _ _ h=>h) id (by simp) rfl ?_;intro H v' t' hsame eH oH hone lH sH kH nH;replace oH:U4 hB H (.pointer (some ⟨gp,0,none⟩)) [.slice t1 t2 t3,.bool o,.func (.func fid) #[] #[],I s,v']:=oH;have wH:=KW.mk oH lH w2.pb (QO w2.bn nH) eH;refine go ?_;refine VU (j:=3) (cs:=[I (s+1)]) (hl:=by simp) oH eH ?_;intro h5 e5 o5 u5;replace o5:U4 hB h5 (.pointer (some ⟨gp,0,none⟩)) [.slice t1 t2 t3,.bool o,.func (.func fid) #[] #[],I (s+1),v']:=o5;refine go ?_;refine W9 ?_;refine⟨v',⟨o5,WP.upB (fun _ _ _ _ h=>h) lH u5.upB wH.off,w2.pb,QO wH.bn u5.1,e5⟩,(WN.ext e2).trans ⟨QO nH u5.1,fun g hg h1 h2=> ?_,fun b hb=> .inr (sH b hb)⟩⟩;rw[u5.upB.2 g (QG hg nH) h1];exact kH g hg (fun e=>by cases e;exact h1 rfl) (fun _ _ e=>by cases e;exact h2 rfl)
def zQA:U1:=(oV (oR [oN 4 0]) (oV (oR [oM 5 0,oM 4 5]) .ret))
theorem zJl (h:U0)(k:Nat)(s:Int):WC Tryz.prog tb 132 [I k,I s] h fun r h'=>r=I (if true then (k:Int) else s)/\h=h':=by
 refine en 6 [(4,none)] zQA ?_;refine rt ?_;exact⟨rfl,rfl⟩
def zUh:U1:=(oV (oR [oK 4 (.slice none 0 0),oN 5 0]) (oV (oV (oR [oM 10 0,oM 11 1,o2 12 131 10 11,oM 9 12,oE 13 9 0,oE 14 9 1,oM 6 13,oM 7 14]) (oV (oR [oM 15 7,oC .neq 16 15 0]) (oJ 16 (oV (oR [oM 17 7,oK 4 (.slice none 0 0),oM 5 17]) .ret) .skip))) (oV (oR [oM 18 0,⟨some 19,none,(.build [(.slice none 0 0),(.bool false),.nilFunc,(.int .i64 0),(.slice none 0 0)] [(0,1,(.tmp 18)),(1,1,(.const (.bool true))),(2,1,(.func 132))])⟩,oX 20 19,oM 8 20]) (oV (oR [oM 21 8,oM 22 1,o2 23 133 21 22]) (oV (oR [oM 24 8,⟨some 25,none,(.nilCheck (.tmp 24))⟩,oF 4 26 25,oL 27 26,oM 4 27,oN 5 0]) .ret)))))
theorem zDB (h:U0)(vT:Value)(T:List U3)(k:Int)(st:Ws h vT T)(hT:T.length<=100)(hp:∀ x∈T,x.parts.length<=100)(hc:yo T=0)(hk:0<=k/\k<(T.length:Int))(hm:h.mark<=h.n):
  WC Tryz.prog tb 80 [vT,I k] h fun r h'=>(∃ v,r= .tuple #[v,I 0]/\WH h h' v (yO T k.toNat))/\U6 h h':=by
 obtain⟨k,rfl⟩:∃ q:Nat,k=q:=⟨k.toNat,by omega⟩;obtain⟨t1,t2,t3,rfl⟩:=zG st;have hl:=zC9 hc;refine en 28 [(4,none),(5,none)] zUh ?_;refine VA (zOi h _ T k st hT hp hc hk) ?_;rintro _ h2 ⟨⟨v2,rfl,o2⟩,e2⟩;refine go ?_;refine VH ?_;intro p h3 e3 o3;obtain⟨gp,_,_,rfl,_⟩:=id o3;have e03:=e2.trans e3;have hpb:∀ g,Value.pointer (some ⟨gp,0,none⟩)= .pointer (some ⟨g,0,none⟩)->g<h3.n:=fun g e=>o3.within _ (by rw[e];rfl);have w:KW h h3 (.slice t1 t2 t3) (.pointer (some ⟨gp,0,none⟩)) (.slice none 0 0) h3.n true 132 0 []:=⟨o3.since e2,.inl ⟨rfl,rfl⟩,hpb,QE _,e03⟩;refine go ?_;refine VA (zRZ h hm _ _ h3.n true 132 T st (by omega) zJl (k+1) k h3 _ 0 [] (by omega) (by omega) (fun j hj=>hl j (by omega)) (hl k (by omega)).1 w e03.n (by omega) (by omega) (by simp;omega)) ?_;rintro _ h4 ⟨vA,w4,k4⟩;have o4:=w4.own;refine gr ?_;exact⟨⟨vA,rfl,zET w4.lst e03.n⟩,w4.ext⟩
structure Wo where
 fn:Int
 nr:Int
 ty:Int
instance:Inhabited Wo:=⟨⟨0,0,0⟩⟩
def RSt (_:U0)(cs:List Value)(x:Wo):Prop:=cs=[I x.fn,I x.nr,I x.ty]
abbrev SlS (h:U0)(v:Value)(l:List Wo):Prop:=Wz 3 RSt h v l
theorem Zt (h h':U0)(cs:List Value)(a:Wo)(r:RSt h cs a):RSt h' cs a:=r
theorem SlS.ext {h h' v l}(s:SlS h v l)(e:U6 h h'):SlS h' v l:=Wz.ext (fun _ _ r=>Zt _ _ _ _ r) s e
def ZN (x:Wd):Bool:=decide (x.op=11)||decide (x.op=12)
def ZL (T:List U3)(f:Int):Int->List Wd->List Wo
 |_,[]=>[]
 |n,x::l=>(if ZN x then [⟨f,n,(T.getD x.ty.toNat default).elem⟩] else [])++ZL T f (n+1) l
def ZA (T:List U3)(f:Int):Int->List WT->List Wo
 |_,[]=>[]
 |n,b::l=>ZL T f n b.ins++ZA T f (n+b.ins.length) l
def ZM (T:List U3):Int->List WR->List Wo
 |_,[]=>[]
 |f,g::l=>ZA T f ((T.getD g.sig.toNat default).parts.length:Int) g.blocks++ZM T (f+1) l
def zh (T:List U3)(F:List WR):List Wo:=ZM T 0 F
section
variable {T:List U3}{f:Int}
theorem zDF {x:Wd}:∀ {l:List Wd} {n:Int},ZL T f n (l++[x])=ZL T f n l++(if ZN x then [⟨f,n+l.length,(T.getD x.ty.toNat default).elem⟩] else [])
 |[],n=>by simp[ZL]
 |y::l,n=>by
  simp only[G6,ZL,zDF (l:=l),QZ,GT];congr 3;rw[show n+1+(l.length:Int)=n+((l.length+1:Nat):Int) by omega]
theorem zBx:∀ {l:List Wd} {n:Int},(ZL T f n l).length<=l.length
 |[],_=>QE _
 |x::l,n=>by
  have:=zBx (l:=l) (n:=n+1);simp only[ZL,QM,GT];split<;>simp<;>omega
theorem zDO {b:WT}:∀ {l:List WT} {n:Int},ZA T f n (l++[b])=ZA T f n l++ZL T f (n+zJ l) b.ins
 |[],n=>by simp[ZA,zJ]
 |c::l,n=>by
  simp only[G6,ZA,zDO (l:=l),QZ];rw[YP,Int.add_assoc]
theorem zB8:∀ {l:List WT} {n:Int},((ZA T f n l).length:Int)<=zJ l
 |[],_=>by simp[ZA,zJ]
 |b::l,n=>by
  have h1:=zB8 (l:=l) (n:=n+b.ins.length);have h2:=zBx (T:=T) (f:=f) (l:=b.ins) (n:=n);rw[YP];simp only[ZA,QM];omega
theorem zDP {g:WR}:∀ {l:List WR} {f:Int},ZM T f (l++[g])=ZM T f l++ZA T (f+l.length) ((T.getD g.sig.toNat default).parts.length:Int) g.blocks
 |[],f=>by simp[ZM]
 |c::l,f=>by
  simp only[G6,ZM,zDP (l:=l),QZ,GT];congr 3;omega
theorem zBs:∀ {l:List WR} {f:Int},(∀ g∈l,zJ g.blocks<=128)->(ZM T f l).length<=128 * l.length
 |[],_,_=>QE _
 |g::l,f,h=>by
  have h1:=zBs (l:=l) (f:=f+1) fun q hq=>h q (Qh _ hq);have h2:=zB8 (T:=T) (f:=f) (l:=g.blocks) (n:=((T.getD g.sig.toNat default).parts.length:Int));have h3:=h g (Qb ..);simp only[ZM,QM,GT];omega
end
theorem zAp:∀ l:List WT,0<=zJ l
 |[]=>by simp[zJ]
 |b::l=>by have:=zAp l;rw[YP];omega
theorem zGC (l:List WT)(j:Nat):0<=zJ (l.take j)/\zJ (l.take j)<=zJ l:=by
 have h:zJ l=zJ (l.take j)+zJ (l.drop j):=by
  conv=>lhs;rw[<-GG j l]
  unfold zJ;rw[Q9,Gu]
 have h1:=zAp (l.take j);have h2:=zAp (l.drop j);omega
theorem Zk {α:Type}[Inhabited α]{l:List α}{i:Nat}(h:i<l.length):l.take (i+1)=l.take i++[l.getD i default]:=by
 rw[Q4,QB h];simp[List.getD,QB h]
set_option maxRecDepth 100000
def zUM:U1:=(oV (oR [oZ 2]) (oV (oR [oM 3 0,oD .eql 4 3 11,oM 5 4,oH 5 (oM 6 0),oH 5 (oD .eql 7 6 12),oO 8 5 7,oM 2 8]) .ret))
theorem zOg (h:U0)(x:Wd):WC Tryz.prog tb 85 [.int .u8 x.op] h fun r h'=>r= .bool (ZN x)/\h=h':=by
 refine en 9 [(2,none)] zUM ?_;by_cases h1:x.op=11
 ·refine gr ?_;exact⟨by unfold ZN;simp[h1];rfl,rfl⟩
 ·refine gr ?_;exact⟨by unfold ZN;simp[h1];rfl,rfl⟩
def zO2:U1:=(oV (oR [oB .lss 37 36 35]) (oV (oT 37 4) (oV (o5 5 (oV (oR [oI 7 38 34 36,oA 7 39 38,⟨some 9,none,(.alloc [(.int .u8 0),(.int .i64 0),(.int .i64 0),(.int .i64 0),(.int .i64 0),(.slice none 0 0),(.slice none 0 0)])⟩,oS 7 9 39]) (oV (oV (oR [oF 0 40 9,oL 41 40,o1 42 85 41]) (oJ 42 (oR [oM 43 2,oM 44 3,oM 45 5,oF 0 46 1,oL 47 46,oF 1 48 9,oL 49 48,oI 4 50 47 49,oF 1 51 50,oL 52 51,⟨some 53,none,(.build [(.int .i64 0),(.int .i64 0),(.int .i64 0)] [(0,1,(.tmp 44)),(1,1,(.tmp 45)),(2,1,(.tmp 52))])⟩,⟨some 54,none,(.buildSlice 1 3 [(.int .i64 0),(.int .i64 0),(.int .i64 0)] [(0,3,(.tmp 53))])⟩,oY 3 55 43 54,oM 2 55]) .skip)) (oR [oM 56 5,oC .add 57 56 1,oM 5 57])))) (oR [oC .add 58 36 1,oM 36 58]))))
def zNA:U1:=(oV (oR [oB .lss 30 29 28]) (oV (oT 30 2) (oV (o5 3 (oV (oR [oI 5 31 27 29,oA 5 32 31,⟨some 7,none,(.alloc [(.slice none 0 0),(.int .u8 0),(.int .i64 0),(.int .i64 0),(.int .i64 0)])⟩,oS 5 7 32]) (oV (oR [oF 0 33 7,oL 34 33,oQ 35 34,oN 36 0]) (o5 4 (.loop zO2))))) (oR [oC .add 59 29 1,oM 29 59]))))
def zNf:U1:=(oV (oR [oB .lss 14 13 12]) (oV (oT 14 0) (oV (o5 1 (oV (oR [oM 15 13,oI 2 16 11 13,oA 2 17 16,⟨some 4,none,(.alloc [(.int .i64 0),(.slice none 0 0)])⟩,oM 3 15,oS 2 4 17]) (oV (oR [oF 0 18 1,oL 19 18,oF 0 20 4,oL 21 20,oI 4 22 19 21,oF 3 23 22,oL 24 23,oQ 25 24,oM 5 25]) (oV (oR [oF 1 26 4,oL 27 26,oQ 28 27,oN 29 0]) (o5 2 (.loop zNA)))))) (oR [oC .add 60 13 1,oM 13 60]))))
def zTb:U1:=(oV (oR [oX 1 0,oK 2 (.slice none 0 0)]) (oV (oV (oR [oF 1 10 1,oL 11 10,oQ 12 11,oN 13 0]) (o5 0 (.loop zNf))) (oV (oR [oM 61 2,oM 2 61]) .ret)))
theorem zOY (h:U0)(vt vf:Value)(T:List U3)(F:List WR)(E:Env h vt vf T F)(hsig:∀ g∈F,0<=g.sig/\g.sig<(T.length:Int))(hmy:∀ g∈F,zJ g.blocks<=128)(hF:F.length<=8)
  (hty:∀ g∈F,∀ B∈g.blocks,∀ x∈B.ins,ZN x=true->0<=x.ty/\x.ty<(T.length:Int)):
  WC Tryz.prog tb 49 [.agg #[vt,vf]] h fun r h'=>WP 3 RSt h.n h' r (zh T F)/\U6 h h':=by
 have hslen:∀ i,(ZM T 0 (F.take i)).length<=1024:=fun i=>by
  have:=zBs (T:=T) (l:=F.take i) (f:=0) fun g hg=>hmy g (GJ hg);have h2:(F.take i).length<=F.length:=by rw[GB];omega
  omega
 have sm:=E.sm;have hF':=sm.funcs;replace hslen:=WY.mk hslen;replace hsig:=WY.mk hsig;replace hmy:=WY.mk hmy;replace hty:=WY.mk hty;have st0:=E.st;have sf0:=E.sf;obtain⟨t1,t2,t3,rfl⟩:=zG st0;obtain⟨f1,f2,f3,rfl⟩:=zG sf0;refine en 62 [(2,none)] zTb ?_;refine VH ?_;intro p h1 e1 o1;replace o1:U4 h h1 p [.slice t1 t2 t3,.slice f1 f2 f3]:=o1;have E1:=E.ext e1;have sf1:=E1.sf;refine go ?_;refine VD [14,15,16,17,4,3,18,19,20,21,22,23,24,25,5,26,27,28,29,30,31,32,7,33,34,35,36,37,38,39,9,40,41,42,43,44,45,46,47,48,49,50,51,52,53,54,55,2,56,57,5,58,36,59,29,60,13] (by kernel_rfl) (fun i=>F.length - i) (fun i t h2=>zB t 13=I i/\i<=F.length/\U6 h1 h2/\∃ v,zB t 2=v/\WP 3 RSt h1.n h2 v (ZM T 0 (F.take i))) 0 ?_ ?_
 ·exact⟨U8,QS _,U6.refl _,.slice none 0 0,U8,.inl ⟨rfl,rfl⟩⟩
 rintro i t h2 hsame ⟨s13,hi,e2,v,s2,ov⟩;have o2:=o1.ext e2;have E2:=E1.ext e2;have sf2:=E2.sf;have st2:=E2.st;refine go ?_;refine VE (fun hb=> ?_) (fun hb=> ?_)<;>simp only[DB]at hb
 ·have hi':i<F.length:=by omega
  have hgm:=zI (l:=F) (i:=i) hi';obtain⟨cs,⟨vb,rfl,sb,hlb⟩,px,hs⟩:=z0 (i:=i) sf1 hi';have pc:=(px _ e2).1;have hsg:=hsig.out _ hgm;have hbl:=sm.blocks _ hgm;have hpl:=sm.parts _ (zI (l:=T) (i:=(F.getD i default).sig.toNat) (by omega));have hsn:ZM T 0 (F.take (i+1))=ZM T 0 (F.take i)++ZA T i ((T.getD (F.getD i default).sig.toNat default).parts.length:Int) (F.getD i default).blocks:=by
   rw[Zk hi',zDP,GB,Gi (by omega),Int.zero_add]
  have hinl:=sm.ins _ hgm;have htyg:=hty.out _ hgm;have hmyg:=hmy.out _ hgm;replace hinl:=WY.mk hinl;replace htyg:=WY.mk htyg;generalize F.getD i default=g at *;obtain⟨b1,b2,b3,rfl⟩:=zG sb;refine go ?_;refine WO.al ?_;intro p4 h3 e3 o3;refine go ?_;refine VG o3 e3 ?_;intro h4 e4 o4 _;have e14:=e2.trans e4;have sb4:=BD.ext sb e14;have st4:=st2.ext e4;have o14:=o2.ext e4;obtain⟨csT,⟨va,rfl,sa,hla⟩,pcT,hsT⟩:=ZQ (i:=g.sig.toNat) st4 (by omega);obtain⟨a1,a2,a3,rfl⟩:=WW.shape sa;have ov4:=WP.ext ov e4;refine go ?_;refine VD [30,31,32,7,33,34,35,36,37,38,39,9,40,41,42,43,44,45,46,47,48,49,50,51,52,53,54,55,2,56,57,5,58,36,59,29] (by kernel_rfl) (fun j=>g.blocks.length - j) (fun j t h5=>zB t 29=I j/\j<=g.blocks.length/\U6 h1 h5/\zB t 5=I ((T.getD g.sig.toNat default).parts.length+zJ (g.blocks.take j))/\∃ v,zB t 2=v/\WP 3 RSt h1.n h5 v (ZM T 0 (F.take i)++ZA T i ((T.getD g.sig.toNat default).parts.length:Int) (g.blocks.take j))) 0 ?_ ?_
  ·exact⟨U8,QS _,e2.trans e4,by rw[show zJ (g.blocks.take 0)=0 by simp[zJ],Int.add_zero];exact U8,v,U8,by simpa [ZA]using ov4⟩
  rintro j t' h5 hsame' ⟨s29,hj,e5,s5,v',s2',ov'⟩;have o5:=o1.ext e5;have E5:=E1.ext e5;have sb5:=BD.ext sb e5;refine go ?_;refine VE (fun hb'=> ?_) (fun hb'=> ?_)<;>simp only[DB]at hb'
  ·have hj':j<g.blocks.length:=by omega
   have hBm:=zI (l:=g.blocks) (i:=j) hj';obtain⟨csB,⟨vi,rfl,si,hli⟩,pxB,hsB⟩:=z0 (i:=j) sb hj';have pcB:=(pxB _ e5).1;have hil:=hinl.out _ hBm;have hsnB:ZA T i ((T.getD g.sig.toNat default).parts.length:Int) (g.blocks.take (j+1))=ZA T i ((T.getD g.sig.toNat default).parts.length:Int) (g.blocks.take j)++ZL T i ((T.getD g.sig.toNat default).parts.length+zJ (g.blocks.take j)) (g.blocks.getD j default).ins:=by
    rw[Zk hj',zDO]
   have hmB:zJ (g.blocks.take (j+1))=zJ (g.blocks.take j)+((g.blocks.getD j default).ins.length:Int):=by
    rw[Zk hj'];unfold zJ;simp
   have hm0:0<=zJ (g.blocks.take j)/\zJ (g.blocks.take j)<=128:=by
    have:=zGC g.blocks j;omega
   have hsB:=zB8 (T:=T) (f:=(i:Int)) (l:=g.blocks.take j) (n:=((T.getD g.sig.toNat default).parts.length:Int));have htyB:=htyg.out _ hBm;replace htyB:=WY.mk htyB;generalize g.blocks.getD j default=B at *;obtain⟨i1,i2,i3,rfl⟩:=zG si;refine go ?_;refine WO.al ?_;intro p7 h6 e6 o7;refine go ?_;refine VG o7 e6 ?_;intro h7 e7 o7 _;have e17:=e5.trans e7;have si7:=BT.ext si e17;have ov7:=WP.ext ov' e7;refine go ?_;refine VD [37,38,39,9,40,41,42,43,44,45,46,47,48,49,50,51,52,53,54,55,2,56,57,5,58,36] (by kernel_rfl) (fun q=>B.ins.length - q) (fun q t h8=>zB t 36=I q/\q<=B.ins.length/\U6 h1 h8/\zB t 5=I ((T.getD g.sig.toNat default).parts.length+zJ (g.blocks.take j)+q)/\∃ v,zB t 2=v/\WP 3 RSt h1.n h8 v (ZM T 0 (F.take i)++ZA T i ((T.getD g.sig.toNat default).parts.length:Int) (g.blocks.take j)++ZL T i ((T.getD g.sig.toNat default).parts.length+zJ (g.blocks.take j)) (B.ins.take q))) 0 ?_ ?_
   ·exact⟨U8,QS _,e17,by rw[show ((0:Nat):Int)=0 from rfl,Int.add_zero];exact U8,v',U8,by simpa [ZL]using ov7⟩
   rintro q t'' h8 hsame'' ⟨s36,hq,e8,s5'',v'',s2'',ov''⟩;have o8:=o1.ext e8;have si8:=BT.ext si e8;have st8:=(E1.ext e8).st;refine go ?_;refine VE (fun hb''=> ?_) (fun hb''=> ?_)<;>simp only[DB]at hb''
   ·have hq':q<B.ins.length:=by omega
    have hxm:=zI (l:=B.ins) (i:=q) hq';obtain⟨csX,⟨xa,xf,rfl,sxa,sxf,hxa,hxf,ho⟩,pxX,hsX⟩:=z0 (i:=q) si hq';have pcX:=(pxX _ e8).1;have hsnI:∀ n:Int,ZL T i n (B.ins.take (q+1))=ZL T i n (B.ins.take q)++(if ZN (B.ins.getD q default) then [⟨i,n+q,(T.getD (B.ins.getD q default).ty.toNat default).elem⟩] else []):=fun n=>by
     rw[Zk hq',zDF,GB,Gi (by omega)]
    have htyx:=htyB.out _ hxm;generalize B.ins.getD q default=x at *;obtain⟨xa1,xa2,xa3,rfl⟩:=WW.shape sxa;obtain⟨xf1,xf2,xf3,rfl⟩:=WW.shape sxf;refine go ?_;refine WO.al ?_;intro p9 h9 e9 o9;refine go ?_;refine VG (cs:=[.int .u8 x.op,I x.ty,I x.a,I x.b,I x.n,.slice xa1 xa2 xa3,.slice xf1 xf2 xf3]) o9 e9 ?_;intro h10 e10 o10 _;refine go ?_;refine VA (zOg h10 x) ?_;rintro _ _ ⟨rfl,rfl⟩;have e110:=e8.trans e10;cases hmk:ZN x with
    |true=>
     have hx:=htyx hmk;have o810:=o8.ext e10;have st10:=(E1.ext e110).st;obtain⟨csT,⟨ya,rfl,sya,hya⟩,pcT',hsT'⟩:=ZQ (i:=x.ty.toNat) st10 (by omega);obtain⟨y1,y2,y3,rfl⟩:=WW.shape sya;have hsI:=zBx (T:=T) (f:=(i:Int)) (l:=B.ins.take q) (n:=(T.getD g.sig.toNat default).parts.length+zJ (g.blocks.take j));have hlq:(B.ins.take q).length<=q:=List.length_take_le _ _;have hsi:=hslen.out i;refine go ?_;refine Un (hB:=h1) (b:=h1.n) (⟨i,(T.getD g.sig.toNat default).parts.length+zJ (g.blocks.take j)+q,(T.getD x.ty.toNat default).elem⟩:Wo) (fun _=>False) (WP.ext ov'' e10) e110 (QE _) e110.n (by decide) (by simp only[QM];omega) (fun _ _ _=>rfl) (fun _ h=>h.elim) (fun _ _ _ _ h=>h) ?_;intro v12 h12 lit e12 o12 hn12 hk12;refine go ?_;refine zA (q+1) (by omega) ⟨Wu,by omega,e12,?_,v12,U8,?_⟩
     ·rw[show ((T.getD g.sig.toNat default).parts.length:Int)+zJ (g.blocks.take j)+((q+1:Nat):Int)=(T.getD g.sig.toNat default).parts.length+zJ (g.blocks.take j)+q+1 by omega];exact U8
     ·rw[hsnI,hmk,QJ rfl,<-QZ];exact o12
    |false=>
     refine go ?_;refine zA (q+1) (by omega) ⟨Wu,by omega,e110,?_,v'',U8,?_⟩
     ·rw[show ((T.getD g.sig.toNat default).parts.length:Int)+zJ (g.blocks.take j)+((q+1:Nat):Int)=(T.getD g.sig.toNat default).parts.length+zJ (g.blocks.take j)+q+1 by omega];exact U8
     ·rw[hsnI,hmk];simpa using WP.ext ov'' e10
   ·have hqq:q=B.ins.length:=by omega
    subst hqq;rw[Qx]at ov'';refine go ?_;refine zA (j+1) (by omega) ⟨Wu,by omega,e8,?_,v'',U8,?_⟩
    ·rw[hmB,<-Int.add_assoc];exact U8
    ·rw[hsnB,<-QZ];exact ov''
  ·have hjj:j=g.blocks.length:=by omega
   subst hjj;rw[Qx]at ov';refine go ?_;refine zA (i+1) (by omega) ⟨Wu,by omega,e5,v',U8,?_⟩;rw[hsn];exact ov'
 ·have hii:i=F.length:=by omega
  subst hii;rw[Qx]at ov;refine gr ?_;exact⟨ov.base e1.n,e1.trans e2⟩
theorem zKv {T:List U3}{F:List WR}(hs:zd T F=0){f:Nat}(hf:f<F.length){b:Nat}(hb:b<(F.getD f default).blocks.length){i:Nat}(hi:i<((F.getD f default).blocks.getD b default).ins.length)(hm:ZN (((F.getD f default).blocks.getD b default).ins.getD i default)=true):
  Wp T 2 (((F.getD f default).blocks.getD b default).ins.getD i default).ty=true/\BG T (((F.getD f default).blocks.getD b default).ins.getD i default).ty:=by
 obtain⟨hp,hw⟩:=z8 hs;have Z:=zBe hp (f:=(f:Int)) (by omega);have W:=(hw f (by omega) (by omega)).2.2 b (by omega) (by show (b:Int)<((F.getD ((f:Int)).toNat default).blocks.length:Int);rw[QU];omega);have h1:=W.1 i (by show i<(((F.getD ((f:Int)).toNat default).blocks.getD ((b:Int)).toNat default).ins.length);rw[QU,QU];exact hi);have hV:=Z.V ((F.getD f default).blocks.getD b default) (by show _∈(F.getD ((f:Int)).toNat default).blocks;rw[QU];exact zI hb) _ (zI hi);refine⟨?_,hV.ty⟩;unfold YE zE6 at h1;have h2:=h1.2.1;rw[show ((zM F f).getD ((b:Int)).toNat default).ins.getD i default=((F.getD f default).blocks.getD b default).ins.getD i default from by unfold zM;rw[QU,QU]]at h2;generalize ((F.getD f default).blocks.getD b default).ins.getD i default=x at *;unfold ZN at hm;simp only[GD,QW]at hm;unfold zAn at h2;rw[QC (by omega),QC (by omega),QC (by omega),QJ hm]at h2;exact h2
theorem YZ {α:Type}[Inhabited α]{l:List α}{x:α}(h:x∈l):∃ i,i<l.length/\l.getD i default=x:=by
 obtain⟨i,hi,rfl⟩:=List.getElem_of_mem h;exact⟨i,hi,by simp[List.getD,QB hi]⟩
def zUr:U1:=(oV (oR [oX 1 0,oK 2 (.slice none 0 0),oN 3 0]) (oV (oV (oR [oA 2 5 1,o1 6 16 5,oM 4 6]) (oV (oR [oM 7 4,oC .neq 8 7 0]) (oJ 8 (oV (oR [oM 9 4,oK 2 (.slice none 0 0),oM 3 9]) .ret) .skip))) (oV (oR [oA 2 10 1,o1 11 49 10,oM 2 11,oN 3 0]) .ret)))
theorem zHY (h:U0)(vt vf:Value)(T:List U3)(F:List WR)(E:Env h vt vf T F):
  WC Tryz.prog tb 25 [.agg #[vt,vf]] h fun r h'=>(∃ v,r= .tuple #[v,I (zd T F)]/\WP 3 RSt h.n h' v (if zd T F=0 then zh T F else []))/\U6 h h':=by
 refine en 12 [(2,none),(3,none)] zUr ?_;refine VH ?_;intro p h1 e1 o1;replace o1:U4 h h1 p [vt,vf]:=o1;have E1:=E.ext e1;refine go ?_;refine VA (zLA h1 vt vf T F E1) ?_;rintro _ h2 ⟨rfl,e2⟩;have o2:=o1.ext e2;have E2:=E1.ext e2;by_cases hs:zd T F=0;case neg=>
  rw[QC hs];refine gr ?_;exact⟨⟨_,rfl,.inl ⟨rfl,rfl⟩⟩,e1.trans e2⟩
 rw[QJ hs];obtain⟨hp,hw⟩:=z8 hs;obtain⟨hc,hF1,hF8,hfn⟩:=yc hp;have hg:∀ g∈F,(0<=g.sig/\g.sig<(T.length:Int))/\zJ g.blocks<=128:=fun g hg=>by
  obtain⟨i,hi,rfl⟩:=YZ hg;have Z:=zBe hp (f:=(i:Int)) (by omega);have h1:=Z.sig;have h2:=Z.many;unfold zM at h2;rw[QU]at h1 h2;exact⟨h1,h2⟩
 have hty:∀ g∈F,∀ B∈g.blocks,∀ x∈B.ins,ZN x=true->0<=x.ty/\x.ty<(T.length:Int):=fun g hg B hB x hx hm=>by
  obtain⟨f,hf,rfl⟩:=YZ hg;obtain⟨b,hb,rfl⟩:=YZ hB;obtain⟨i,hi,rfl⟩:=YZ hx;have:=zKv hs hf hb hi hm;refine this.2.resolve_left fun e=> ?_;have h1:=this.1;unfold Wp at h1;rw[e]at h1;cases h1
 have hsg:∀ g∈F,0<=g.sig/\g.sig<(T.length:Int):=fun g q=>(hg g q).1;have hmy:∀ g∈F,zJ g.blocks<=128:=fun g q=>(hg g q).2;rw[hs];replace hg:=WY.mk hg;replace hfn:=WY.mk hfn;refine go ?_;refine VA (zOY h2 vt vf T F E2 hsg hmy hF8 hty) ?_;rintro v h3 ⟨ov,e3⟩;refine gr ?_;exact⟨⟨v,rfl,ov.base (e1.trans e2).n⟩,e1.trans (e2.trans e3)⟩
set_option maxRecDepth 100000
structure NT (hB h:U0)(p vR vF vS:Value)(rs fs:List Int)(ss:List Wo):Prop where
 own:U4 hB h p [vR,vF,vS]
 r:WH hB h vR rs
 q:WH hB h vF fs
 s:WP 3 RSt hB.n h vS ss
 rf:WI vR vF
 rs:WI vR vS
 fs:WI vF vS
 pr:WI p vR
 pf:WI p vF
 ps:WI p vS
section
variable {hB h h' h2:U0}{p vR vF vS v':Value}{rs fs l:List Int}{ss:List Wo}
theorem NT.ext (N:NT hB h p vR vF vS rs fs ss)(e:U6 h h'):NT hB h' p vR vF vS rs fs ss:=⟨N.own.ext e,N.r.ext e,N.q.ext e,WP.ext N.s e,N.rf,N.rs,N.fs,N.pr,N.pf,N.ps⟩
theorem NT.putR (N:NT hB h p vR vF vS rs fs ss)(hn:hB.n<=h.n)(u:BL vR h h')(o:Wb h h' v' l)(oc:U4 hB h2 p [v',vF,vS])(u2:WZ p h' h2):NT hB h2 p v' vF vS l fs ss:=by
 have hs:zAU h v':=WH.since' (.inr o);have u1:=u.upB;have u2:=u2.upB;have o1:=VF hs N.own.within;have ob:WH hB h' v' l:= .inr (let ⟨g,a,b⟩:=o;⟨g,QO hn a,b⟩);exact⟨oc,ob.upB u2 o1.symm,(N.q.upB u1 N.rf).upB u2 N.pf,(N.s.upB Zt u1 N.rs).upB Zt u2 N.ps,VF hs N.q.within,VF hs N.s.within,N.fs,o1.symm,N.pf,N.ps⟩
theorem NT.putF (N:NT hB h p vR vF vS rs fs ss)(hn:hB.n<=h.n)(u:BL vF h h')(o:Wb h h' v' l)(oc:U4 hB h2 p [vR,v',vS])(u2:WZ p h' h2):NT hB h2 p vR v' vS rs l ss:=by
 have hs:zAU h v':=WH.since' (.inr o);have u1:=u.upB;have u2:=u2.upB;have o1:=VF hs N.own.within;have ob:WH hB h' v' l:= .inr (let ⟨g,a,b⟩:=o;⟨g,QO hn a,b⟩);exact⟨oc,(N.r.upB u1 N.rf.symm).upB u2 N.pr,ob.upB u2 o1.symm,(N.s.upB Zt u1 N.fs).upB Zt u2 N.ps,(VF hs N.r.within).symm,N.rs,VF hs N.s.within,N.pr,o1.symm,N.ps⟩
end
theorem zFS {α:Type}{R:U0->List Value->α->Prop}{h0 h:U0}{c:Nat}{v:Value}{xs:List α}(o:WP c R h0.n h v xs):zAU h0 v:=fun b hb=>by
 rcases o with ⟨rfl,_⟩|⟨g,_,_,g1,_,rfl,_⟩
 ·cases hb
 ·cases hb;exact g1
theorem zGi {v:Value}{n c:Nat}:WI v (.slice none n c):=fun _ _ h=>by cases h
def zk (T:List U3)(F:List WR):List Int:=F.map fun g=>((T.getD g.sig.toNat default).parts.length:Int)+zJ g.blocks
def yJ (T:List U3)(F:List WR):List Int:=(zh T F).map fun s=>((yO T s.ty.toNat).length:Int)
theorem zKB {T:List U3}{F:List WR}(hp:Z8 T F=0){i:Nat}(hi:i<F.length):Y7 T F i=(((T.getD (F.getD i default).sig.toNat default).parts.length:Int)+zJ (F.getD i default).blocks,0):=by
 have hask:ZR T F i=(((T.getD (F.getD i default).sig.toNat default).parts.length:Int),0):=by
  unfold ZR;rw[QC (fun e=>e hp),QJ (by unfold zb;simp;omega),QU]
 unfold Y7;rw[hask];simp
theorem zD6 {T:List U3}{f:Int}{s:Wo}:∀ {l:List Wd} {n:Int},s∈ZL T f n l->∃ x∈l,ZN x=true/\s.ty=(T.getD x.ty.toNat default).elem
 |[],_,h=>by cases h
 |x::l,n,h=>by
  unfold ZL at h;rcases Qi.1 h with h|h
  ·split at h
   ·rename_i hm;rw[QV]at h;subst h;exact⟨x,Qb ..,hm,rfl⟩
   ·cases h
  ·obtain⟨y,a,b⟩:=zD6 h;exact⟨y,Qh _ a,b⟩
theorem zEu {T:List U3}{f:Int}{s:Wo}:∀ {l:List WT} {n:Int},s∈ZA T f n l->∃ b∈l,∃ x∈b.ins,ZN x=true/\s.ty=(T.getD x.ty.toNat default).elem
 |[],_,h=>by cases h
 |x::l,n,h=>by
  unfold ZA at h;rcases Qi.1 h with h|h
  ·exact⟨x,Qb ..,zD6 h⟩
  ·obtain⟨y,a,b⟩:=zEu h;exact⟨y,Qh _ a,b⟩
theorem zEX {T:List U3}{s:Wo}:∀ {l:List WR} {f:Int},s∈ZM T f l->∃ g∈l,∃ b∈g.blocks,∃ x∈b.ins,ZN x=true/\s.ty=(T.getD x.ty.toNat default).elem
 |[],_,h=>by cases h
 |x::l,n,h=>by
  unfold ZM at h;rcases Qi.1 h with h|h
  ·exact⟨x,Qb ..,zEu h⟩
  ·obtain⟨y,a,b⟩:=zEX h;exact⟨y,Qh _ a,b⟩
theorem zAh {T:List U3}{F:List WR}(hs:zd T F=0):∀ s∈zh T F,0<=s.ty/\s.ty<(T.length:Int):=fun s h=>by
 obtain⟨g,hg,B,hB,x,hx,hm,he⟩:=zEX h;obtain⟨f,hf,rfl⟩:=YZ hg;obtain⟨b,hb,rfl⟩:=YZ hB;obtain⟨i,hi,rfl⟩:=YZ hx;obtain⟨h1,h2⟩:=zKv hs hf hb hi hm;have hc:=(yc (z8 hs).1).1;have h3:=zEN hc h2;unfold BI at h3;rw[QJ h1,<-he]at h3;rcases h3 with h3|h3
 ·unfold Wp at h1;simp only[QF,QW]at h1;have hm:=zBS hc (h2.resolve_left h1.1).1 (h2.resolve_left h1.1).2;unfold ZO zFJ at hm;omega
 ·exact h3
theorem zBq {T:List U3}{F:List WR}(hs:zd T F=0):(zh T F).length<=1024:=by
 have hp:=(z8 hs).1;obtain⟨hc,hF1,hF8,hfn⟩:=yc hp;have:=zBs (T:=T) (l:=F) (f:=0) fun g hg=>by
  obtain⟨i,hi,rfl⟩:=YZ hg;have h2:=(zBe hp (f:=(i:Int)) (by omega)).many;unfold zM at h2;rw[QU]at h2;exact h2
 unfold zh;omega
def zO9:U1:=(oV (oR [oB .lss 25 24 23]) (oV (oT 25 0) (oV (o5 1 (oV (oR [oM 26 24,oM 4 26]) (oV (oR [oA 2 28 1,oM 29 4,o2 30 17 28 29,oM 27 30,oE 31 27 0,oE 32 27 1,oM 5 31,oM 6 32]) (oR [oF 0 33 2,oF 0 34 33,oL 35 34,oM 36 5,⟨some 37,none,(.buildSlice 1 1 [(.int .i64 0)] [(0,1,(.tmp 36))])⟩,oY 1 38 35 37,oF 0 39 2,oF 0 40 39,oS 1 40 38])))) (oR [oC .add 41 24 1,oM 24 41]))))
def zPf:U1:=(oV (oR [oB .lss 46 45 44]) (oV (oT 46 2) (oV (o5 3 (oV (oR [oI 3 47 43 45,oA 3 48 47,⟨some 8,none,(.alloc [(.int .i64 0),(.int .i64 0),(.int .i64 0)])⟩,oS 3 8 48]) (oV (oR [oF 0 50 1,oL 51 50,oF 2 52 8,oL 53 52,o2 54 80 51 53,oM 49 54,oE 55 49 0,oE 56 49 1,oM 9 55,oM 10 56]) (oR [oF 0 57 2,oF 1 58 57,oL 59 58,oM 60 9,oQ 61 60,⟨some 62,none,(.buildSlice 1 1 [(.int .i64 0)] [(0,1,(.tmp 61))])⟩,oY 1 63 59 62,oF 0 64 2,oF 1 65 64,oS 1 65 63])))) (oR [oC .add 66 45 1,oM 45 66]))))
def zUN:U1:=(oV (oR [oX 1 0,⟨some 2,none,(.alloc [(.slice none 0 0),(.slice none 0 0),(.slice none 0 0)])⟩,oN 3 0]) (oV (oV (oR [oA 2 12 1,o1 13 25 12,oM 11 13,oE 14 11 0,oE 15 11 1,oF 2 16 2,oS 1 16 14,oM 3 15]) (oV (oR [oM 17 3,oC .neq 18 17 0]) (oJ 18 (oV (oR [oA 3 19 2,oM 20 3,oS 3 2 19,oM 3 20]) .ret) .skip))) (oV (oV (oR [oF 1 21 1,oL 22 21,oQ 23 22,oN 24 0]) (o5 0 (.loop zO9))) (oV (oV (oR [oF 2 42 2,oL 43 42,oQ 44 43,oN 45 0]) (o5 2 (.loop zPf))) (oV (oR [oA 3 67 2,oS 3 2 67,oN 3 0]) .ret)))))
theorem zMx (h:U0)(vt vf:Value)(T:List U3)(F:List WR)(E:Env h vt vf T F):
  WC Tryz.prog tb 43 [.agg #[vt,vf]] h fun r h'=>(∃ vR vF vS,r= .tuple #[.agg #[vR,vF,vS],I (zd T F)]/\(∃ a n c,vR= .slice a n c)/\(∃ a n c,vF= .slice a n c)/\(∃ a n c,vS= .slice a n c)/\WH h h' vR (if zd T F=0 then zk T F else [])/\WH h h' vF (if zd T F=0 then yJ T F else [])/\WP 3 RSt h.n h' vS (if zd T F=0 then zh T F else []))/\U6 h h':=by
 refine en 68 [(2,some (true,3)),(3,none)] zUN ?_;refine VH ?_;intro p1 h1 e1 o1;replace o1:U4 h h1 p1 [vt,vf]:=o1;have E1:=E.ext e1;refine go ?_;refine WO.al ?_;intro p2 h2 e2 o2;have E2:=E1.ext e2;have o12:=o1.ext e2;refine go ?_;refine VA (zHY h2 vt vf T F E2) ?_;rintro _ h3 ⟨⟨vS,rfl,oS⟩,e3⟩;have hS:=zFS oS;have hpS:WI p2 (_:Value):=(VF hS o2.within).symm;obtain⟨s1,s2,s3,rfl⟩:=zG oS.sl;have o13:=o12.ext e3;have o23:=o2.ext e3;have e13:=e2.trans e3;refine go ?_;refine VU (j:=2) (cs:=[.slice s1 s2 s3]) (hl:=by simp) o23 e13 ?_;intro h4 e4 o4 u4;replace o4:U4 h1 h4 p2 [.slice none 0 0,.slice none 0 0,.slice s1 s2 s3]:=o4;have oS4:=(oS.upB Zt u4.upB hpS).base e2.n;have o14:=o1.ext e4;by_cases hs:zd T F=0;case neg=>
  simp only[QC hs]at oS4 |-;refine go ?_;refine VG o4 e4 ?_;intro h5 e5 o5 u5;refine go ?_;refine rt ?_ (Vd U8 o5 rfl (W2.cons U8 W2.nil));exact⟨⟨_,_,_,rfl,⟨_,_,_,rfl⟩,⟨_,_,_,rfl⟩,⟨_,_,_,rfl⟩,.inl ⟨rfl,rfl⟩,.inl ⟨rfl,rfl⟩,(oS4.upB Zt u5.upB hpS).base e1.n⟩,e1.trans e5⟩
 simp only[QJ hs]at oS4 |-;rw[hs];have N4:NT h1 h4 p2 (.slice none 0 0) (.slice none 0 0) (.slice s1 s2 s3) [] [] (zh T F):=⟨o4,.inl ⟨rfl,rfl⟩,.inl ⟨rfl,rfl⟩,oS4,zGi,(fun b hb=>by cases hb),(fun b hb=>by cases hb),zGi,zGi,hpS⟩;obtain⟨hp,hw⟩:=z8 hs;obtain⟨hc,hF1,hF8,hfn⟩:=yc hp;have sf4:=(E1.ext e4).sf;obtain⟨f1,f2,f3,rfl⟩:=zG sf4;obtain⟨t1,t2,t3,rfl⟩:=zG E.st;replace hfn:=WY.mk hfn;refine go ?_;refine VD [25,26,4,28,29,30,27,31,32,5,6,33,34,35,36,37,38,39,40,41,24] (by kernel_rfl) (fun i=>F.length - i) (fun i t h5=>zB t 24=I i/\i<=F.length/\∃ vR,(∃ a n c,vR= .slice a n c)/\U6 h1 h5/\NT h1 h5 p2 vR (.slice none 0 0) (.slice s1 s2 s3) ((zk T F).take i) [] (zh T F)) 0 ?_ ?_
 ·exact⟨U8,QS _,_,⟨_,_,_,rfl⟩,e4,by simpa using N4⟩
 rintro i t h5 hsame ⟨s24,hi,vR,⟨r1,r2,r3,rfl⟩,e5,N5⟩;have E5:=E1.ext e5;have o15:=o1.ext e5;refine go ?_;refine VE (fun hb=> ?_) (fun hb=> ?_)<;>simp only[DB]at hb
 ·have hi':i<F.length:=by omega
  have hRl:(zk T F).take (i+1)=(zk T F).take i++[((T.getD (F.getD i default).sig.toNat default).parts.length:Int)+zJ (F.getD i default).blocks]:=by
   have hl:i<(zk T F).length:=by unfold zk;simpa using hi'
   rw[Q4,QB hl];unfold zk;simp[List.getD,QB hi']
  have hR:=zHB h5 _ _ T F i E5.tt E5.hm E5.sm E5.st E5.sf;rw[zKB hp hi']at hR;have htl:((zk T F).take i).length<=8:=by rw[GB];omega
  generalize ((T.getD (F.getD i default).sig.toNat default).parts.length:Int)+zJ (F.getD i default).blocks=m at *;refine go ?_;refine VA hR ?_;rintro _ h6 ⟨rfl,e6⟩;have N6:=N5.ext e6;have o6:=N6.own;have e16:=e5.trans e6;refine go ?_;refine WO.bl [m] ?_;intro v7 h7 e7 o7;have N7:=N6.ext e7;have oo7:=N7.own;have e17:=e16.trans e7;refine go ?_;refine Vo N7.r o7.sl e17 (by simp) (by simp at htl |-;omega) ?_;intro v8 h8 e8 o8 u8;obtain⟨g8,_,_,rfl,_⟩:=id o8;have oo8:=N7.own.upB u8.upB N7.pr.symm;refine go ?_;refine VU (j:=0) (hl:=by simp) (cs:=[_]) oo8 e8 ?_;intro h9 e9 o9 u9;refine go ?_;have N9:=N7.putR e17.n u8 o8 o9 u9;rw[<-hRl]at N9;exact zA (i+1) (by omega) ⟨Wu,by omega,.slice (some ⟨g8,0,none⟩) ((zk T F).take (i+1)).length 1,⟨_,_,_,rfl⟩,e9,N9⟩
 ·have hii:i=F.length:=by omega
  subst hii;rw[Qw (by unfold zk;simp)]at N5;have oN5:=N5.own;have hfld:∀ j,j<(zh T F).length->0<=((zh T F).getD j default).ty/\((zh T F).getD j default).ty<(T.length:Int):=fun j hj=>zAh hs _ (zI hj);replace hfld:=WY.mk hfld;have sS5:=N5.s.sl;have hsl:=zBq hs;refine go ?_;refine VD [46,47,48,8,50,51,52,53,54,49,55,56,9,10,57,58,59,60,61,62,63,64,65,66,45] (by kernel_rfl) (fun j=>(zh T F).length - j) (fun j t h6=>zB t 45=I j/\j<=(zh T F).length/\∃ vF,(∃ a n c,vF= .slice a n c)/\U6 h1 h6/\NT h1 h6 p2 (.slice r1 r2 r3) vF (.slice s1 s2 s3) (zk T F) ((yJ T F).take j) (zh T F)) 0 ?_ ?_
  ·exact⟨U8,QS _,_,⟨_,_,_,rfl⟩,e5,by simpa using N5⟩
  rintro j t' h6 hsame' ⟨s45,hj,vF,⟨q1,q2,q3,rfl⟩,e6,N6⟩;have E6:=E1.ext e6;have o16:=o1.ext e6;have sS6:=N6.s.sl;refine go ?_;refine VE (fun hb'=> ?_) (fun hb'=> ?_)<;>simp only[DB]at hb'
  ·have hj':j<(zh T F).length:=by omega
   have hFl:(yJ T F).take (j+1)=(yJ T F).take j++[((yO T ((zh T F).getD j default).ty.toNat).length:Int)]:=by
    have hl:j<(yJ T F).length:=by unfold yJ;simpa using hj'
    rw[Q4,QB hl];unfold yJ;simp[List.getD,QB hj'];exact List.getElem_map ..
   have hty:=hfld.out j hj';have htl:((yJ T F).take j).length<=1024:=by rw[GB];omega
   obtain⟨csS,hRS,pcS,hsS⟩:=ZP (i:=j) sS6 hj';generalize (zh T F).getD j default=x at *;have hRS:csS=[I x.fn,I x.nr,I x.ty]:=hRS;subst hRS;refine go ?_;refine WO.al ?_;intro p8 h7 e7 o8;refine go ?_;refine VG o8 e7 ?_;intro h8 e8 o8 _;have E8:=E6.ext e8;have o18:=o16.ext e8;refine go ?_;refine VA (zDB h8 _ T x.ty E8.st E8.sm.types E8.sm.parts hc hty E8.hm) ?_;rintro _ h9 ⟨⟨v9,rfl,o9⟩,e9⟩;obtain⟨l1,l2,l3,rfl⟩:=WW.shape o9.sl;have e89:=e8.trans e9;have N9:=N6.ext e89;have oo9:=N9.own;have o19:=o18.ext e9;have e19:=e6.trans e89;refine go ?_;refine WO.bl [((yO T x.ty.toNat).length:Int)] ?_;intro v10 h10 e10 o10;have N10:=N9.ext e10;have oo10:=N10.own;have e110:=e19.trans e10;refine go ?_;refine Vo N10.q o10.sl e110 (by simp) (by simp at htl |-;omega) ?_;intro v11 h11 e11 o11 u11;obtain⟨g11,_,_,rfl,_⟩:=id o11;have oo11:=N10.own.upB u11.upB N10.pf.symm;refine go ?_;refine VU (j:=1) (hl:=by simp) (cs:=[_]) oo11 e11 ?_;intro h12 e12 o12 u12;have N12:=N10.putF e110.n u11 o11 o12 u12;rw[<-hFl]at N12;refine go ?_;exact zA (j+1) (by omega) ⟨Wu,by omega,.slice (some ⟨g11,0,none⟩) ((yJ T F).take (j+1)).length 1,⟨_,_,_,rfl⟩,e12,N12⟩
  ·have hjj:(yJ T F).take j=yJ T F:=Qw (by unfold yJ;simp;omega);rw[hjj]at N6;have oN6:=N6.own;refine go ?_;refine VG oN6 e6 ?_;intro h7 e7 o7 u7;refine go ?_;refine rt ?_ (Vd U8 o7 rfl (W2.cons U8 W2.nil));exact⟨⟨_,_,_,rfl,⟨_,_,_,rfl⟩,⟨_,_,_,rfl⟩,⟨_,_,_,rfl⟩,(N6.r.upB u7.upB N6.pr).since e1,(N6.q.upB u7.upB N6.pf).since e1,(N6.s.upB Zt u7.upB N6.ps).base e1.n⟩,e1.trans e7⟩
end
end Go.Proofs.YtmejfcakhpihlaaGreatDoor
