/- What functions of the program come to in the abstract machine, and plain laws about it; no statement of the seat is proved in this text. -/
import Derived.Test.YtfnndahpddkniaaGreatDoorJj
import Derived.Test.YtfnndahpddkniaaGreatDoorJj
import Derived.Test.YtfnndahpddkniaaGreatDoorJj
import Derived.Test.YtfnndahpddkniaaGreatDoorAmV
import Derived.Test.YtfnndahpddkniaaGreatDoorAmU
set_option linter.unusedVariables false
set_option linter.unusedSimpArgs false
set_option maxHeartbeats 2000000
namespace Go.Proofs.YtfnndahpddkniaaGreatDoor
noncomputable section
open Go.Am
set_option maxRecDepth 100000
structure CW (hB h:AHeap) (vT pT pF pR vR:Value) (l:List Int):Prop where
 tT:OwnC hB h pT [vT]
 tF:OwnC hB h pF [.func (.func 85) #[] #[pT,pF,pR]]
 tR:OwnC hB h pR [vR]
 own:OwnN hB h vR l
 fT:OffV pR pT
 fF:OffV pR pF
 vt:OffV vR pT
 vf:OffV vR pF
 vr:OffV vR pR
 ext:Ext hB h
theorem CW.ext' {hB h h':AHeap} {vT pT pF pR vR:Value} {l:List Int} (w:CW hB h vT pT pF pR vR l) (e:Ext h h'):CW hB h' vT pT pF pR vR l:=
 ⟨w.tT.ext e,w.tF.ext e,w.tR.ext e,w.own.ext e,w.fT,w.fF,w.vt,w.vf,w.vr,w.ext.trans e⟩
def zM1:ACode:=(oV (oR [oB .lss 24 23 22]) (oV (oT 24 1) (oV (o5 2 (oV (oR [oI 1 25 21 23,oL 26 25,oM 7 26]) (oR [oL 27 2,oM 28 7,⟨some 29,none,(.call (.tmp 27) [(.tmp 28)])⟩]))) (oR [oC .add 30 23 1,oM 23 30]))))
def zMN:ACode:=(oV (oR [oB .lss 36 35 34]) (oV (oT 36 3) (oV (o5 4 (oR [oL 37 2,oF 1 38 5,oL 39 38,⟨some 40,none,(.call (.tmp 37) [(.tmp 39)])⟩])) (oR [oC .add 41 35 1,oM 35 41]))))
def zSO:ACode:=(oV (oR [oL 8 1,oM 9 0,oI 4 10 8 9,oA 4 11 10,⟨some 5,none,(.alloc [(.int .u8 0),(.int .i64 0),(.int .i64 0),(.slice none 0 0)])⟩,oS 4 5 11]) (oV (oR [oF 0 12 5,oL 13 12]) (o5 0 (oV (oR [oD .eql 19 13 4,oM 18 19]) (oJ 18 (oV (oR [oF 3 20 5,oL 21 20,oQ 22 21,oN 23 0]) (o5 1 (.loop zM1))) (oV (oR [oD .eql 32 13 5,oM 31 32]) (oJ 31 (oV (oR [oF 2 33 5,oL 34 33,oN 35 0]) (o5 3 (.loop zMN))) (oR [oL 14 3,oM 15 0,⟨some 16,none,(.buildSlice 1 1 [(.int .i64 0)] [(0,1,(.tmp 15))])⟩,oY 1 17 14 16,oS 1 3 17]))))))))
theorem zLh (hB:AHeap) (vT pT pF pR:Value) (T:List LType) (st:SlT hB vT T) (hT:(T.length:Int)<=1000):∀ (n k:Nat) (h:AHeap) (vR:Value) (l:List Int),k<n->k<T.length->zL3 T k->ZL T k->CW hB h vT pT pF pR vR l->l.length+(ofL T k).length<=100->
  WC Tryz.prog tb 85 [I k,pT,pF,pR] h fun r h'=>∃ vR',CW hB h' vT pT pF pR vR' (l++ofL T k)/\KeepP pR vR h h' vR':=by
 obtain⟨t1,t2,t3,rfl⟩:=zT st;intro n;induction n with
 |zero=>intro k h vR l hk;omega
 |succ n ih=>
  intro k h vR l hkn hk hlow hM w hl;have hof:=zAU (T:=T) (k:=k) fun j hj=>by
   by_cases e:j=k
   ·subst e;exact hM
   ·exact(hlow j (by omega)).1
  have hXt:=w.ext;have st0:=st.ext w.ext;have h4':=zLU hM;have h5':=zLj hM;obtain⟨cs,⟨va,rfl,sa,hla⟩,pc,hs⟩:=yS (i:=k) st hk;replace pc:=(pc _ hXt).1;rw[hof]at hl |-;clear hof;generalize T.getD k default=x at *;obtain⟨a1,a2,a3,rfl⟩:=SlC.shape sa;have oT:=w.tT;have oF:=w.tF;have oR:=w.tR;refine en 42 [] zSO ?_;refine WO.al ?_;intro p h1 e1 o1;refine go ?_;refine WO.stC0 o1 e1 ?_;intro h2 e2 o2 _;have w2:=w.ext' e2;have sa2:=sa.ext w2.ext;have f1:OffV pR p:=(OffV.fresh o2.since' w.tR.within).symm;have f2:OffV vR p:=(OffV.fresh o2.since' w.own.within).symm;by_cases h4:x.kind=4
  ·have hp:=h4' h4;simp only[h4,Q2]at hl |-;have hp8:=hp.1;replace hp:=Hid.mk hp;replace hlow:=Hid.mk hlow;refine go ?_;refine WX.loopA [24,25,26,7,27,28,29,30,23] (by kernel_rfl) (fun i=>x.parts.length - i) (fun i t h3=>zB t 23=I i/\i<=x.parts.length/\∃ vR',CW hB h3 (.slice t1 t2 t3) pT pF pR vR' (l++((x.parts.take i).map fun p=>ofL T p.toNat).flatten)/\KeepP pR vR h2 h3 vR') 0 ?_ ?_
   ·exact⟨sl_,QV _,vR,by simpa using w2,KeepP.refl ..⟩
   rintro i t h3 hsame ⟨s7,hi,vR',w3,k3⟩;have sa3:=sa.ext w3.ext;have o3T:=w3.tT;have o3F:=w3.tF;refine go ?_;refine WX.br (fun hc=> ?_) (fun hc=> ?_)<;>simp only[DB]at hc
   ·have hi':i<x.parts.length:=by omega
    have hpi:=hp.out.2 _ (zw hi');have hsucc:=zLF (f:=fun p=>ofL T p.toNat) hi';have hsum:((x.parts.take (i+1)).map fun p=>ofL T p.toNat).flatten.length<=(x.parts.map fun p=>ofL T p.toNat).flatten.length:=by
     conv=>rhs;rw[<-GV (i+1) x.parts]
     rw[GM,List.flatten_append,QP];omega
    obtain⟨q,hq⟩:∃ q:Nat,x.parts.getD i 0=q:=⟨(x.parts.getD i 0).toNat,by omega⟩;have hqk:q<k:=by omega
    have hdef:x.parts.getD i default=(q:Int):=hq;rw[hdef]at hsucc;simp only[Qa]at hsucc;rw[hsucc,QP]at hsum;refine go ?_;rw[hq];refine WO.conV (WV.func (ih q h3 vR' _ (by omega) (by omega) (fun j hj=>hlow.out j (by omega)) (hlow.out q hqk).1 w3 (by rw[QP];omega))) ?_;rintro r h4 ⟨vR4,w4,k4⟩;refine go ?_;exact zA (i+1) (by omega) ⟨sln,by omega,vR4,by rw[hsucc,<-Qm];exact w4,k3.trans k4⟩
   ·have hii:i=x.parts.length:=by omega
    subst hii;rw[GC]at w3;refine go ?_;refine rtN ?_;exact⟨vR',w3,(KeepP.ext e2).trans k3⟩
  by_cases h5:x.kind=5
  ·have hp:=h5' h5;obtain⟨q,hq⟩:∃ q:Nat,x.elem=q:=⟨x.elem.toNat,by omega⟩;obtain⟨m,hm⟩:∃ m:Nat,x.many=m:=⟨x.many.toNat,by omega⟩;have hqk:q<k:=by omega
   simp only[h5,Q2,Ge,show ¬((5:Int)=4) by decide,hq,hm,Qa]at hl |-;replace hlow:=Hid.mk hlow;rw[zA1]at hl;refine go ?_;refine WX.loopA [36,37,38,39,40,41,35] (by kernel_rfl) (fun i=>m - i) (fun i t h3=>zB t 35=I i/\i<=m/\∃ vR',CW hB h3 (.slice t1 t2 t3) pT pF pR vR' (l++(List.replicate i (ofL T q)).flatten)/\KeepP pR vR h2 h3 vR') 0 ?_ ?_
   ·exact⟨sl_,QV _,vR,by simpa using w2,KeepP.refl ..⟩
   rintro i t h3 hsame ⟨s7,hi,vR',w3,k3⟩;have o3T:=w3.tT;have o3F:=w3.tF;have o3p:=(OwnC.keepP o2 k3 f1 f2).1;refine go ?_;rw[hm];refine go ?_;refine WX.br (fun hc=> ?_) (fun hc=> ?_)<;>simp only[DB]at hc
   ·have hi':i<m:=by omega
    have hmul:(i+1) * (ofL T q).length<=m * (ofL T q).length:=GY _ hi';rw[G4]at hmul;refine go ?_;rw[hq];refine WO.conV (WV.func (ih q h3 vR' _ (by omega) (by omega) (fun j hj=>hlow.out j (by omega)) (hlow.out q hqk).1 w3 (by rw[QP,zA1];omega))) ?_;rintro r h4 ⟨vR4,w4,k4⟩;refine go ?_;refine zA (i+1) (by omega) ⟨sln,by omega,vR4,?_,k3.trans k4⟩;rw[List.replicate_succ',List.flatten_append,<-Qm];simpa using w4
   ·have hii:i=m:=by omega
    subst hii;refine go ?_;refine rtN ?_;exact⟨vR',w3,(KeepP.ext e2).trans k3⟩
  ·simp only[h4,h5,Ge]at hl |-;have o2T:=w2.tT;have o2F:=w2.tF;have o2R:=w2.tR;refine go ?_;refine WO.bl [(k:Int)] ?_;intro v h3 e3 o3;have w3:=w2.ext' e3;refine go ?_;refine WO.apF w3.own o3.sl w3.ext (by simp) (by simp at hl |-;omega) ?_;intro v4 h4 e4 o4 u4;have tR4:=w3.tR.upB u4.upB w3.vr;have sn:=OwnN.since' (.inr o4);have oT4:=w3.tT.upB u4.upB w3.vt;have oF4:=w3.tF.upB u4.upB w3.vf;obtain⟨g4,q1,q2,rfl,q3⟩:=id o4;refine go ?_;refine WO.stC0 tR4 e4 ?_;intro h5 e5 o5 u5;refine go ?_;refine rtN ?_;have hv:OffV _ pR:=OffV.fresh sn w3.tR.within;refine⟨_,⟨oT4.upB u5.upB w3.fT,oF4.upB u5.upB w3.fF,o5,OwnN.upB (.inr (o4.since w3.ext)) u5.upB hv.symm,w3.fT,w3.fF,OffV.fresh sn w3.tT.within,OffV.fresh sn w3.tF.within,hv,e5⟩,?_⟩;refine(KeepP.ext (e2.trans e3)).trans ⟨QS u4.1 u5.1,fun g hg h1 h2=> ?_,fun b hb=> .inr (sn b hb)⟩;rw[u5.upB.2 g (QK hg u4.1) h1,u4.upB.2 g hg h2]
def zSt:ACode:=(oV (oR [oX 2 0,⟨some 4,none,(.alloc [(.slice none 0 0)])⟩]) (oV (oR [⟨some 5,none,(.alloc [.nilFunc])⟩]) (oV (oR [⟨some 6,none,(.mkFunc (.func 85) [] [(.tmp 2),(.tmp 5),(.tmp 4)])⟩,oS 1 5 6]) (oV (oR [oL 7 5,oM 8 1,⟨some 9,none,(.call (.tmp 7) [(.tmp 8)])⟩]) (oV (oR [oL 10 4,oS 1 4 10]) .ret)))))
theorem zMT (h:AHeap) (vT:Value) (T:List LType) (k:Nat) (st:SlT h vT T) (hT:(T.length:Int)<=1000) (hk:k<T.length) (hlow:∀ j,j<T.length->ZL T j/\(ofL T j).length<=32):
  WC Tryz.prog tb 62 [vT,I k] h fun r h'=>OwnN h h' r (ofL T k)/\Ext h h':=by
 obtain⟨t1,t2,t3,rfl⟩:=zT st;refine en 11 [(4,some (false,1))] zSt ?_;refine WO.bx ?_;intro pT h1 e1 oT;refine go ?_;refine WO.al ?_;intro pR h2 e2 oR;refine go ?_;refine WO.al ?_;intro pF h3 e3 oF;refine go ?_;refine WO.stC0 (cs:=[.func (.func 85) #[] #[pT,pF,pR]]) oF e3 ?_;intro h4 e4 oF4 _;have e04:=e1.trans (e2.trans e4);have oT:OwnC h h1 pT [.slice t1 t2 t3]:=oT;have a1:=OffV.fresh oR.since' oT.within;have a2:=OffV.fresh oF4.since' oR.within;have w:CW h h4 (.slice t1 t2 t3) pT pF pR (.slice none 0 0) []:=
  ⟨oT.ext (e2.trans e4),oF4.since (e1.trans e2),(oR.ext e4).since e1,.inl ⟨rfl,rfl⟩,a1,a2.symm,(fun b hb=>by cases hb),(fun b hb=>by cases hb),(fun b hb=>by cases hb),e04⟩
 have hwF:=w.tF;have hl:=hlow k hk;refine go ?_;refine WO.conV (WV.func (zLh h _ pT pF pR T st hT (k+1) k h4 _ [] (by omega) hk (fun j hj=>hlow j (by omega)) hl.1 w (by simp;omega))) ?_;rintro r h5 ⟨vR,w5,k5⟩;rw[GL]at w5;have ow:=w5.own;obtain⟨r1,r2,r3,rfl⟩:=SlC.shape ow.sl;have o5:=w5.tR;refine go ?_;refine WO.stC0 o5 w5.ext ?_;intro h6 e6 o6 u6;refine go ?_;refine rt ?_ (Res.consB sl_ o6 rfl Res.nil);exact⟨ow.upB u6.upB w5.vr.symm,e6⟩
def zSp:ACode:=(oV (oR [oK 4 (.slice none 0 0),oN 5 0]) (oV (oV (oR [oM 7 0,oM 8 1,o2 9 61 7 8,oM 6 9]) (oV (oR [oM 10 6,oC .neq 11 10 0]) (oJ 11 (oV (oR [oM 12 6,oK 4 (.slice none 0 0),oM 5 12]) .ret) .skip))) (oV (oR [oM 13 0,oM 14 1,o2 15 62 13 14,oM 4 15,oN 5 0]) .ret)))
theorem zNG (h:AHeap) (vT:Value) (T:List LType) (k:Int) (st:SlT h vT T) (hT:T.length<=100) (hp:∀ x∈T,x.parts.length<=100) (hc:yo T=0) (hk:0<=k/\k<(T.length:Int)):
  WC Tryz.prog tb 35 [vT,I k] h fun r h'=>(∃ v,r= .tuple #[v,I 0]/\OwnN h h' v (ofL T k.toNat))/\Ext h h':=by
 obtain⟨k,rfl⟩:∃ q:Nat,k=q:=⟨k.toNat,by omega⟩;obtain⟨t1,t2,t3,rfl⟩:=zT st;have hl:∀ j,j<T.length->ZL T j/\(ofL T j).length<=32:=by
  have h1:=hc;rw[zBN]at h1;split at h1
  ·cases h1
  ·split at h1
   ·assumption
   ·cases h1
 refine en 16 [(4,none),(5,none)] zSp ?_;refine WO.con (zLc h _ T k st hT hp hc hk) ?_;rintro _ h2 ⟨rfl,e2⟩;have st2:=SlT.ext st e2;refine go ?_;refine WO.con (zMT h2 _ T k st2 (by omega) (by omega) hl) ?_;rintro v h3 ⟨o3,e3⟩;refine gr ?_;exact⟨⟨v,rfl,o3.since e2⟩,e2.trans e3⟩
set_option maxRecDepth 100000
theorem zI5 {T:List LType} (h1:yo T=0):∀ j,j<T.length->ZL T j/\(ofL T j).length<=32:=by
 rw[zBN]at h1;split at h1
 ·cases h1
 ·split at h1
  ·assumption
  ·cases h1
structure KW (hB h:AHeap) (vT p vA:Value) (b:Nat) (o:Bool) (fid:FuncId) (s:Int) (l:List Int):Prop where
 own:OwnC hB h p [vT,.bool o,.func (.func fid) #[] #[],I s,vA]
 lst:OwnR 1 RI b h vA l
 pb:∀ g,p= .pointer (some ⟨g,0,none⟩)->g<b
 bn:b<=h.n
 ext:Ext hB h
theorem KW.off {hB h:AHeap} {vT p vA:Value} {b:Nat} {o:Bool} {fid:FuncId} {s:Int} {l:List Int} (w:KW hB h vT p vA b o fid s l):OffV p vA:=by
 obtain⟨g,_,_,rfl,_⟩:=w.own;have hg:=w.pb g rfl;intro c hc hv;cases hc;rcases w.lst with ⟨rfl,_⟩|⟨g2,_,_,g3,_,rfl,_⟩
 ·cases hv
 ·cases hv;exact Nat.lt_irrefl _ (QK hg g3)
def zNI:ACode:=(oV (oR [oB .lss 51 50 49]) (oV (oT 51 1) (oV (o5 2 (oV (oR [oI 1 52 48 50,oL 53 52,oM 6 53]) (oR [oM 54 0,oM 55 6,o2 56 64 54 55]))) (oR [oC .add 57 50 1,oM 50 57]))))
def zNq:ACode:=(oV (oR [oB .lss 69 68 67]) (oV (oT 69 3) (oV (o5 4 (oV (oR [oM 70 68,oM 9 70]) (oV (oV (oR [oM 71 0,⟨some 72,none,(.nilCheck (.tmp 71))⟩,oF 1 73 72,oL 74 73,oM 75 74,oG 75 (oM 76 9),oG 75 (oC .gtr 77 76 0),oP 78 75 77]) (oJ 78 (.exit 3) .skip)) (oV (oR [oM 79 0,oM 80 7,⟨some 81,none,(.nilCheck (.tmp 79))⟩,oF 3 82 81,oS 1 82 80]) (oR [oM 83 8,oF 1 84 4,oL 85 84,⟨some 86,none,(.call (.tmp 83) [(.tmp 85)])⟩]))))) (oR [oC .add 87 68 1,oM 68 87]))))
def zSi:ACode:=(oV (oR [oM 10 0,⟨some 11,none,(.nilCheck (.tmp 10))⟩,oF 0 12 11,oL 13 12,oM 14 1,oI 4 15 13 14,oA 4 16 15,⟨some 4,none,(.alloc [(.int .u8 0),(.int .i64 0),(.int .i64 0),(.slice none 0 0)])⟩,oS 4 4 16]) (oV (oR [oF 0 17 4,oL 18 17]) (o5 0 (oV (oR [oD .eql 46 18 4,oM 45 46]) (oJ 45 (oV (oR [oF 3 47 4,oL 48 47,oQ 49 48,oN 50 0]) (o5 1 (.loop zNI))) (oV (oR [oD .eql 59 18 5,oM 58 59]) (oJ 58 (.scope (oV (oR [oM 60 0,⟨some 61,none,(.nilCheck (.tmp 60))⟩,oF 3 62 61,oL 63 62,oM 7 63]) (oV (oR [oM 64 0,⟨some 65,none,(.mkFunc (.func 64) [(.tmp 64)] [])⟩,oM 8 65]) (oV (.label 0) (oV (oR [oF 2 66 4,oL 67 66,oN 68 0]) (o5 3 (.loop zNq))))))) (oV (o6 [oM 19 0,oM 20 0,(⟨some 21,none,(.nilCheck (.tmp 20))⟩,[]),oF 4 22 21,oL 23 22,oM 24 0,(⟨some 25,none,(.nilCheck (.tmp 24))⟩,[]),oF 2 26 25,oL 27 26,oM 28 1,oM 29 0,(⟨some 30,none,(.nilCheck (.tmp 29))⟩,[]),oF 3 31 30,oL 32 31,(⟨some 33,none,(.call (.tmp 27) [(.tmp 28),(.tmp 32)])⟩,[4]),(⟨some 34,none,(.buildSlice 1 1 [(.int .i64 0)] [(0,1,(.tmp 33))])⟩,[]),oY 1 35 23 34,(⟨some 36,none,(.nilCheck (.tmp 19))⟩,[]),oF 4 37 36,oS 1 37 35]) (oR [oM 38 0,⟨some 39,none,(.nilCheck (.tmp 38))⟩,oF 3 40 39,oL 41 40,oC .add 42 41 1,⟨some 43,none,(.nilCheck (.tmp 38))⟩,oF 3 44 43,oS 1 44 42])))))))))
theorem zQi (hB:AHeap) (hmB:hB.mark<=hB.n) (vT p:Value) (b:Nat) (o:Bool) (fid:FuncId) (T:List LType) (st:SlT hB vT T) (hT:(T.length:Int)<=1000)
  (hf:∀ (h:AHeap) (k:Nat) (s:Int),WC Tryz.prog tb fid [I k,I s] h fun r h'=>r=I (if o then (k:Int) else s)/\h=h'):∀ (n k:Nat) (h:AHeap) (vA:Value) (s:Int) (l:List Int),k<n->k<T.length->zL3 T k->ZL T k->KW hB h vT p vA b o fid s l->hB.n<=b->0<=s->s+300 * k<=1000000000->l.length+600 * k<=90000->
  WC Tryz.prog tb 64 [p,I k] h fun r h'=>∃ vA',KW hB h' vT p vA' b o fid (s+(ZD T k).length) (l++wkL T o s k)/\KeepP p vA h h' vA':=by
 obtain⟨t1,t2,t3,rfl⟩:=zT st;intro n;induction n with
 |zero=>intro k h vA s l hk;omega
 |succ n ih=>
  intro k h vA s l hkn hk hlow hM w hb s0 s1 hl;have hall:∀ j,j<=k->ZL T j:=fun j hj=>by
   by_cases e:j=k
   ·subst e;exact hM
   ·exact(hlow j (by omega)).1
  have hXt:=w.ext;have st0:=st.ext w.ext;have h4':=zLU hM;have h5':=zLj hM;obtain⟨cs,⟨va,rfl,sa,hla⟩,pc,hs⟩:=yS (i:=k) st hk;replace pc:=(pc _ hXt).1;have h32:∀ q,q<k->(ZD T q).length<=32/\(∀ s',(wkL T o s' q).length<=32)/\(zAK T q).2=(ZD T q).length:=fun q hq=>by
   have h1:=(hlow q hq).2;have h2:∀ j,j<=q->ZL T j:=fun j hj=>hall j (by omega);exact⟨QS (zFp (q+1) q (GN _) h2) h1,fun s'=>QS (zTC h2) h1,(zJo (q+1) q (GN _) h2).1⟩
  rw[zCt hall,zIl hall];generalize T.getD k default=x at *;obtain⟨a1,a2,a3,rfl⟩:=SlC.shape sa;have oW:=w.own;obtain⟨gp,_,_,rfl,_⟩:=id oW;refine en 88 [] zSi ?_;refine WO.al ?_;intro p4 h1 e1 o1;refine go ?_;refine WO.stC0 o1 e1 ?_;intro h2 e2 o2 _;have oW2:=oW.ext e2;have w2:KW hB h2 (.slice t1 t2 t3) (.pointer (some ⟨gp,0,none⟩)) vA b o fid s l:=⟨oW2,OwnR.ext w.lst e2,w.pb,QS w.bn e2.n,w.ext.trans e2⟩;have sa2:=sa.ext w2.ext;have f2:OffV vA p4:=(OffV.fresh o2.since' w.lst.within).symm;have f1:OffV (.pointer (some ⟨gp,0,none⟩)) p4:=(OffV.fresh o2.since' oW.within).symm;replace h32:=Hid.mk h32;replace hall:=Hid.mk hall;by_cases h4:x.kind=4
  ·have hp:=h4' h4;simp only[h4,Q2];have hp8:=hp.1;replace hp:=Hid.mk hp;replace hlow:=Hid.mk hlow;have hN:Hid (∀ i,∀ p∈x.parts.take i,(zAK T p.toNat).2=(ZD T p.toNat).length):=⟨fun i p hpp=>(h32.out p.toNat (by have:=hp.out.2 p (GQ hpp);omega)).2.2⟩;refine go ?_;refine WX.loopA [51,52,53,6,54,55,56,57,50] (by kernel_rfl) (fun i=>x.parts.length - i) (fun i t h3=>zB t 50=I i/\i<=x.parts.length/\∃ vA',KW hB h3 (.slice t1 t2 t3) (.pointer (some ⟨gp,0,none⟩)) vA' b o fid (s+(((x.parts.take i).map fun p=>ZD T p.toNat).flatten.length:Int)) (l++zEW T o s (x.parts.take i))/\KeepP (.pointer (some ⟨gp,0,none⟩)) vA h2 h3 vA'/\(zEW T o s (x.parts.take i)).length<=32 * i) 0 ?_ ?_
   ·refine⟨sl_,QV _,vA,?_,KeepP.refl ..,?_⟩
    ·have:zEW T o s []=[]:=by cases o<;>rfl
     simpa [this]using w2
    ·have:zEW T o s []=[]:=by cases o<;>rfl
     simp[this]
   rintro i t h3 hsame ⟨s7,hi,vA',w3,k3,hwl⟩;have sa3:=sa.ext w3.ext;refine go ?_;refine WX.br (fun hc=> ?_) (fun hc=> ?_)<;>simp only[DB]at hc
   ·have hi':i<x.parts.length:=by omega
    have hpi:=hp.out.2 _ (zw hi');obtain⟨q,hq⟩:∃ q:Nat,x.parts.getD i 0=q:=⟨(x.parts.getD i 0).toNat,by omega⟩;have hqk:q<k:=by omega
    have htk:x.parts.take (i+1)=x.parts.take i++[(q:Int)]:=by
     rw[Q3,QC hi',<-hq];simp[List.getD,QC hi']
    have hsn:=zNs (o:=o) (s:=s) (q:=(q:Int)) (hN.out i);have hfl:=zGc (l:=x.parts.take i) (f:=fun p=>ZD T p.toNat) fun p hpp=>(h32.out p.toNat (by have:=hp.out.2 p (GQ hpp);omega)).1;have hti:(x.parts.take i).length<=i:=List.length_take_le _ _;have h32q:=h32.out q hqk;rw[Qa]at hsn;have hfs:((x.parts.take (i+1)).map fun p=>ZD T p.toNat).flatten.length=((x.parts.take i).map fun p=>ZD T p.toNat).flatten.length+(ZD T q).length:=by
     rw[htk];simp
    refine go ?_;rw[hq];refine WO.con (ih q h3 vA' _ _ (by omega) (by omega) (fun j hj=>hlow.out j (by omega)) (hlow.out q hqk).1 w3 hb (by omega) (by omega) (by rw[QP];omega)) ?_;rintro r h4 ⟨vA4,w4,k4⟩;refine go ?_;refine zA (i+1) (by omega) ⟨sln,by omega,vA4,?_,k3.trans k4,?_⟩
    ·rw[hfs,htk,hsn,<-Qm,Int.natCast_add,<-Int.add_assoc];exact w4
    ·rw[htk,hsn,QP];have:=h32q.2.1 (s+(((x.parts.take i).map fun p=>ZD T p.toNat).flatten.length:Int));omega
   ·have hii:i=x.parts.length:=by omega
    subst hii;rw[GC]at w3;refine go ?_;refine rtN ?_;exact⟨vA',w3,(KeepP.ext e2).trans k3⟩
  by_cases h5:x.kind=5
  ·have hp:=h5' h5;obtain⟨q,hq⟩:∃ q:Nat,x.elem=q:=⟨x.elem.toNat,by omega⟩;obtain⟨m,hm⟩:∃ m:Nat,x.many=m:=⟨x.many.toNat,by omega⟩;have hqk:q<k:=by omega
   simp only[h5,Q2,Ge,show ¬((5:Int)=4) by decide,hq,hm,Qa];replace hlow:=Hid.mk hlow;refine go ?_;refine WX.scope0 ?_;refine go ?_;refine WX.loopA [69,70,9,71,72,73,74,75,76,77,78,79,80,81,82,83,84,85,86,87,68] (by kernel_rfl) (fun i=>m - i) (fun i t h3=>zB t 68=I i/\i<=m/\(o=true->i<=1)/\∃ vA',KW hB h3 (.slice t1 t2 t3) (.pointer (some ⟨gp,0,none⟩)) vA' b o fid (if i=0 then s else s+((ZD T q).length:Int)) (l++if o then (if i=0 then [] else ZD T q) else (List.replicate i (wkL T o s q)).flatten)/\KeepP (.pointer (some ⟨gp,0,none⟩)) vA h2 h3 vA') 0 ?_ ?_
   ·exact⟨sl_,QV _,fun _=>QV _,vA,by cases o<;>simpa using w2,KeepP.refl ..⟩
   rintro i t h3 hsame ⟨s7,hi,hoi,vA',w3,k3⟩;have o3p:=(OwnC.keepP o2 k3 f1 f2).1;have oW3:=w3.own;refine go ?_;rw[hm];refine go ?_;refine WX.br (fun hc=> ?_) (fun hc=> ?_)<;>simp only[DB]at hc
   ·have hi':i<m:=by omega
    by_cases hox:o=true/\i≠0
    ·obtain⟨rfl,hi0⟩:=hox;have hi1:i=1:=by have:=hoi rfl;omega
     subst hi1;refine go ?_;refine rtN ?_;exact⟨vA',by simpa using w3,(KeepP.ext e2).trans k3⟩
    ·have hw:(if o then (if i=0 then [] else ZD T q) else (List.replicate i (wkL T o s q)).flatten)++wkL T o s q=(if o then (if i+1=0 then [] else ZD T q) else (List.replicate (i+1) (wkL T o s q)).flatten)/\(if o then (if i=0 then [] else ZD T q) else (List.replicate i (wkL T o s q)).flatten).length<=32 * i:=by
      cases o with
      |true=>
       have:i=0:=by have:=hoi rfl;exact Gp fun h=>hox ⟨rfl,h⟩
       subst this;simp[wkL]
      |false=>
       simp only[Qk,Ge];rw[List.replicate_succ',List.flatten_append];have:=(h32.out q hqk).2.1 s;have h2:=zA1 i (wkL T false s q);have h3:=Nat.mul_le_mul_left i this;exact⟨by simp,by omega⟩
     have hsk:o=true->i=0:=fun h=>Gp fun h2=>hox ⟨h,h2⟩;have hof:=w3.off;have f3:=(OwnC.keepP o2 k3 f1 f2).2;have h32q:=h32.out q hqk;cases o;all_goals
      first|(have hi0:i=0:=hsk rfl)|skip
      refine go ?_
      refine WO.stC (j:=3) (cs:=[I s]) (hl:=by simp) oW3 w3.ext ?_
      intro h4 e4 oW4 u4
      replace oW4:OwnC hB h4 (.pointer (some ⟨gp,0,none⟩)) [.slice t1 t2 t3,.bool _,.func (.func fid) #[] #[],I s,vA']:=oW4
      have o4p:=OwnC.upB o3p u4.upB f1
      have w4:=KW.mk oW4 (OwnR.upB (fun _ _ _ _ h=>h) w3.lst u4.upB hof) w3.pb (QS w3.bn u4.1) e4
      refine go ?_
      rw[hq]
      refine WO.conV (WV.func (ih q h4 vA' s _ (by omega) (by omega) (fun j hj=>hlow.out j (by omega)) (hlow.out q hqk).1 w4 hb s0 (by omega) (by rw[QP];omega))) ?_
      rintro r h5 ⟨vA5,w5,k5⟩
      refine go ?_
      refine zA (i+1) (by omega) ⟨sln,by omega,(fun h=>by first|omega|cases h),vA5,?_,k3.trans (KeepP.trans ⟨u4.1,fun g hg h1 _=>u4.upB.2 g hg h1,fun _ h=> .inl h⟩ k5)⟩
      rw[Qm,hw.1]at w5
      simpa using w5
   ·have hii:i=m:=by omega
    subst hii;refine go ?_;refine rtN ?_;have hm0:i≠0:=by omega
    exact⟨vA',by simpa [hm0]using w3,(KeepP.ext e2).trans k3⟩
  ·simp only[h4,h5,Ge];refine go ?_;refine WX.regionU2 1 rfl rfl ?_;have oWY:=oW2.ext (zZ 1 h2);have oWX:OwnC hB (inC (zF 1 h2)) (.pointer (some ⟨gp,0,none⟩)) [.slice t1 t2 t3,.bool o,.func (.func fid) #[] #[],I s,vA]:=oWY;clear oWY;have hsl:∃ c1 c2 c3,vA= .slice c1 c2 c3:=by
    rcases w2.lst with ⟨rfl,_⟩|⟨_,_,_,_,_,rfl,_⟩
    ·exact⟨_,_,_,rfl⟩
    ·exact⟨_,_,_,rfl⟩
   obtain⟨c1,c2,c3,rfl⟩:=hsl;refine goU ?_;refine WO.conV (WV.func (hf _ k s)) ?_;rintro _ _ ⟨rfl,rfl⟩;refine nE (Ext.refl _) ?_;refine WU2.apRn (hB:=hB) (b:=b) (v:= .slice c1 c2 c3) (if o then (k:Int) else s) (fun _=>False) (Ext.refl _) w2.lst w2.ext (by have:=w2.ext.mark;omega) hb w2.bn (by decide) (by omega) oW2 w2.pb (fun _ _ _=>rfl) (fun _ h=>h.elim) (fun _ _ _ _ h=>h) id (by simp) rfl ?_;intro H v' t' hsame eH oH hone lH sH kH nH;replace oH:OwnC hB H (.pointer (some ⟨gp,0,none⟩)) [.slice t1 t2 t3,.bool o,.func (.func fid) #[] #[],I s,v']:=oH;have wH:=KW.mk oH lH w2.pb (QS w2.bn nH) eH;refine go ?_;refine WO.stC (j:=3) (cs:=[I (s+1)]) (hl:=by simp) oH eH ?_;intro h5 e5 o5 u5;replace o5:OwnC hB h5 (.pointer (some ⟨gp,0,none⟩)) [.slice t1 t2 t3,.bool o,.func (.func fid) #[] #[],I (s+1),v']:=o5;refine go ?_;refine rtN ?_;refine⟨v',⟨o5,OwnR.upB (fun _ _ _ _ h=>h) lH u5.upB wH.off,w2.pb,QS wH.bn u5.1,e5⟩,(KeepP.ext e2).trans ⟨QS nH u5.1,fun g hg h1 h2=> ?_,fun b hb=> .inr (sH b hb)⟩⟩;rw[u5.upB.2 g (QK hg nH) h1];exact kH g hg (fun e=>by cases e;exact h1 rfl) (fun _ _ e=>by cases e;exact h2 rfl)
def zRn:ACode:=(oV (oR [oN 4 0]) (oV (oR [oM 5 0,oM 4 5]) .ret))
theorem zIi (h:AHeap) (k:Nat) (s:Int):WC Tryz.prog tb 82 [I k,I s] h fun r h'=>r=I (if true then (k:Int) else s)/\h=h':=by
 refine en 6 [(4,none)] zRn ?_;refine rt ?_;exact⟨rfl,rfl⟩
def zRx:ACode:=(oV (oR [oK 4 (.slice none 0 0),oN 5 0]) (oV (oV (oR [oM 10 0,oM 11 1,o2 12 35 10 11,oM 9 12,oE 13 9 0,oE 14 9 1,oM 6 13,oM 7 14]) (oV (oR [oM 15 7,oC .neq 16 15 0]) (oJ 16 (oV (oR [oM 17 7,oK 4 (.slice none 0 0),oM 5 17]) .ret) .skip))) (oV (oR [oM 18 0,⟨some 19,none,(.build [(.slice none 0 0),(.bool false),.nilFunc,(.int .i64 0),(.slice none 0 0)] [(0,1,(.tmp 18)),(1,1,(.const (.bool true))),(2,1,(.func 82))])⟩,oX 20 19,oM 8 20]) (oV (oR [oM 21 8,oM 22 1,o2 23 64 21 22]) (oV (oR [oM 24 8,⟨some 25,none,(.nilCheck (.tmp 24))⟩,oF 4 26 25,oL 27 26,oM 4 27,oN 5 0]) .ret)))))
theorem zKH (h:AHeap) (vT:Value) (T:List LType) (k:Int) (st:SlT h vT T) (hT:T.length<=100) (hp:∀ x∈T,x.parts.length<=100) (hc:yo T=0) (hk:0<=k/\k<(T.length:Int)) (hm:h.mark<=h.n):
  WC Tryz.prog tb 60 [vT,I k] h fun r h'=>(∃ v,r= .tuple #[v,I 0]/\OwnN h h' v (ZD T k.toNat))/\Ext h h':=by
 obtain⟨k,rfl⟩:∃ q:Nat,k=q:=⟨k.toNat,by omega⟩;obtain⟨t1,t2,t3,rfl⟩:=zT st;have hl:=zI5 hc;refine en 28 [(4,none),(5,none)] zRx ?_;refine WO.con (zNG h _ T k st hT hp hc hk) ?_;rintro _ h2 ⟨⟨v2,rfl,o2⟩,e2⟩;refine go ?_;refine WO.bx ?_;intro p h3 e3 o3;obtain⟨gp,_,_,rfl,_⟩:=id o3;have e03:=e2.trans e3;have hpb:∀ g,Value.pointer (some ⟨gp,0,none⟩)= .pointer (some ⟨g,0,none⟩)->g<h3.n:=fun g e=>o3.within _ (by rw[e];rfl);have w:KW h h3 (.slice t1 t2 t3) (.pointer (some ⟨gp,0,none⟩)) (.slice none 0 0) h3.n true 82 0 []:=⟨o3.since e2,.inl ⟨rfl,rfl⟩,hpb,QE _,e03⟩;refine go ?_;refine WO.con (zQi h hm _ _ h3.n true 82 T st (by omega) zIi (k+1) k h3 _ 0 [] (by omega) (by omega) (fun j hj=>hl j (by omega)) (hl k (by omega)).1 w e03.n (by omega) (by omega) (by simp;omega)) ?_;rintro _ h4 ⟨vA,w4,k4⟩;have o4:=w4.own;refine gr ?_;exact⟨⟨vA,rfl,zMZ w4.lst e03.n⟩,w4.ext⟩
structure LSite where
 fn:Int
 nr:Int
 ty:Int
instance:Inhabited LSite:=⟨⟨0,0,0⟩⟩
def RSt (_:AHeap) (cs:List Value) (x:LSite):Prop:=cs=[I x.fn,I x.nr,I x.ty]
theorem YJ (h h':AHeap) (cs:List Value) (a:LSite) (r:RSt h cs a):RSt h' cs a:=r
def Zs (x:LIns):Bool:=decide (x.op=11)||decide (x.op=12)
def ZX (T:List LType) (f:Int):Int->List LIns->List LSite
 |_,[]=>[]
 |n,x::l=>(if Zs x then [⟨f,n,(T.getD x.ty.toNat default).elem⟩] else [])++ZX T f (n+1) l
def ZH (T:List LType) (f:Int):Int->List LBlk->List LSite
 |_,[]=>[]
 |n,b::l=>ZX T f n b.ins++ZH T f (n+b.ins.length) l
def ZZ (T:List LType):Int->List LFn->List LSite
 |_,[]=>[]
 |f,g::l=>ZH T f ((T.getD g.sig.toNat default).parts.length:Int) g.blocks++ZZ T (f+1) l
def yT (T:List LType) (F:List LFn):List LSite:=ZZ T 0 F
section
variable {T:List LType} {f:Int}
theorem zCd {x:LIns}:∀ {l:List LIns} {n:Int},ZX T f n (l++[x])=ZX T f n l++(if Zs x then [⟨f,n+l.length,(T.getD x.ty.toNat default).elem⟩] else [])
 |[],n=>by simp[ZX]
 |y::l,n=>by
  simp only[Gz,ZX,zCd (l:=l),Qm,GH];congr 3;rw[show n+1+(l.length:Int)=n+((l.length+1:Nat):Int) by omega]
theorem zBT:∀ {l:List LIns} {n:Int},(ZX T f n l).length<=l.length
 |[],_=>QE _
 |x::l,n=>by
  have:=zBT (l:=l) (n:=n+1);simp only[ZX,QP,GH];split<;>simp<;>omega
theorem zC0 {b:LBlk}:∀ {l:List LBlk} {n:Int},ZH T f n (l++[b])=ZH T f n l++ZX T f (n+zW l) b.ins
 |[],n=>by simp[ZH,zW]
 |c::l,n=>by
  simp only[Gz,ZH,zC0 (l:=l),Qm];rw[zBZ,Int.add_assoc]
theorem zBV:∀ {l:List LBlk} {n:Int},((ZH T f n l).length:Int)<=zW l
 |[],_=>by simp[ZH,zW]
 |b::l,n=>by
  have h1:=zBV (l:=l) (n:=n+b.ins.length);have h2:=zBT (T:=T) (f:=f) (l:=b.ins) (n:=n);rw[zBZ];simp only[ZH,QP];omega
theorem zCg {g:LFn}:∀ {l:List LFn} {f:Int},ZZ T f (l++[g])=ZZ T f l++ZH T (f+l.length) ((T.getD g.sig.toNat default).parts.length:Int) g.blocks
 |[],f=>by simp[ZZ]
 |c::l,f=>by
  simp only[Gz,ZZ,zCg (l:=l),Qm,GH];congr 3;omega
theorem zBL:∀ {l:List LFn} {f:Int},(∀ g∈l,zW g.blocks<=128)->(ZZ T f l).length<=128 * l.length
 |[],_,_=>QE _
 |g::l,f,h=>by
  have h1:=zBL (l:=l) (f:=f+1) fun q hq=>h q (Qj _ hq);have h2:=zBV (T:=T) (f:=f) (l:=g.blocks) (n:=((T.getD g.sig.toNat default).parts.length:Int));have h3:=h g (Qf ..);simp only[ZZ,QP,GH];omega
end
theorem zBw:∀ l:List LBlk,0<=zW l
 |[]=>by simp[zW]
 |b::l=>by have:=zBw l;rw[zBZ];omega
theorem zLW (l:List LBlk) (j:Nat):0<=zW (l.take j)/\zW (l.take j)<=zW l:=by
 have h:zW l=zW (l.take j)+zW (l.drop j):=by
  conv=>lhs;rw[<-GV j l]
  unfold zW;rw[GM,List.sum_append]
 have h1:=zBw (l.take j);have h2:=zBw (l.drop j);omega
theorem zA0 {α:Type} [Inhabited α] {l:List α} {i:Nat} (h:i<l.length):l.take (i+1)=l.take i++[l.getD i default]:=by
 rw[Q3,QC h];simp[List.getD,QC h]
set_option maxRecDepth 100000
def zQX:ACode:=(oV (oR [oZ 2]) (oV (oR [oM 3 0,oD .eql 4 3 11,oM 5 4,oH 5 (oM 6 0),oH 5 (oD .eql 7 6 12),oO 8 5 7,oM 2 8]) .ret))
theorem zOQ (h:AHeap) (x:LIns):WC Tryz.prog tb 106 [.int .u8 x.op] h fun r h'=>r= .bool (Zs x)/\h=h':=by
 refine en 9 [(2,none)] zQX ?_;by_cases h1:x.op=11
 ·refine gr ?_;exact⟨by unfold Zs;simp[h1];rfl,rfl⟩
 ·refine gr ?_;exact⟨by unfold Zs;simp[h1];rfl,rfl⟩
def zNZ:ACode:=(oV (oR [oB .lss 37 36 35]) (oV (oT 37 4) (oV (o5 5 (oV (oR [oI 7 38 34 36,oA 7 39 38,⟨some 9,none,(.alloc [(.int .u8 0),(.int .i64 0),(.int .i64 0),(.int .i64 0),(.int .i64 0),(.slice none 0 0),(.slice none 0 0)])⟩,oS 7 9 39]) (oV (oV (oR [oF 0 40 9,oL 41 40,o1 42 106 41]) (oJ 42 (oR [oM 43 2,oM 44 3,oM 45 5,oF 0 46 1,oL 47 46,oF 1 48 9,oL 49 48,oI 4 50 47 49,oF 1 51 50,oL 52 51,⟨some 53,none,(.build [(.int .i64 0),(.int .i64 0),(.int .i64 0)] [(0,1,(.tmp 44)),(1,1,(.tmp 45)),(2,1,(.tmp 52))])⟩,⟨some 54,none,(.buildSlice 1 3 [(.int .i64 0),(.int .i64 0),(.int .i64 0)] [(0,3,(.tmp 53))])⟩,oY 3 55 43 54,oM 2 55]) .skip)) (oR [oM 56 5,oC .add 57 56 1,oM 5 57])))) (oR [oC .add 58 36 1,oM 36 58]))))
def zOG:ACode:=(oV (oR [oB .lss 30 29 28]) (oV (oT 30 2) (oV (o5 3 (oV (oR [oI 5 31 27 29,oA 5 32 31,⟨some 7,none,(.alloc [(.slice none 0 0),(.int .u8 0),(.int .i64 0),(.int .i64 0),(.int .i64 0)])⟩,oS 5 7 32]) (oV (oR [oF 0 33 7,oL 34 33,oQ 35 34,oN 36 0]) (o5 4 (.loop zNZ))))) (oR [oC .add 59 29 1,oM 29 59]))))
def zNE:ACode:=(oV (oR [oB .lss 14 13 12]) (oV (oT 14 0) (oV (o5 1 (oV (oR [oM 15 13,oI 2 16 11 13,oA 2 17 16,⟨some 4,none,(.alloc [(.int .i64 0),(.slice none 0 0)])⟩,oM 3 15,oS 2 4 17]) (oV (oR [oF 0 18 1,oL 19 18,oF 0 20 4,oL 21 20,oI 4 22 19 21,oF 3 23 22,oL 24 23,oQ 25 24,oM 5 25]) (oV (oR [oF 1 26 4,oL 27 26,oQ 28 27,oN 29 0]) (o5 2 (.loop zOG)))))) (oR [oC .add 60 13 1,oM 13 60]))))
def zSF:ACode:=(oV (oR [oX 1 0,oK 2 (.slice none 0 0)]) (oV (oV (oR [oF 1 10 1,oL 11 10,oQ 12 11,oN 13 0]) (o5 0 (.loop zNE))) (oV (oR [oM 61 2,oM 2 61]) .ret)))
theorem zML (h:AHeap) (vt vf:Value) (T:List LType) (F:List LFn) (E:Env h vt vf T F) (hsig:∀ g∈F,0<=g.sig/\g.sig<(T.length:Int)) (hmy:∀ g∈F,zW g.blocks<=128) (hF:F.length<=8)
  (hty:∀ g∈F,∀ B∈g.blocks,∀ x∈B.ins,Zs x=true->0<=x.ty/\x.ty<(T.length:Int)):
  WC Tryz.prog tb 79 [.agg #[vt,vf]] h fun r h'=>OwnR 3 RSt h.n h' r (yT T F)/\Ext h h':=by
 have hslen:∀ i,(ZZ T 0 (F.take i)).length<=1024:=fun i=>by
  have:=zBL (T:=T) (l:=F.take i) (f:=0) fun g hg=>hmy g (GQ hg);have h2:(F.take i).length<=F.length:=by rw[Q7];omega
  omega
 have sm:=E.sm;have hF':=sm.funcs;replace hslen:=Hid.mk hslen;replace hsig:=Hid.mk hsig;replace hmy:=Hid.mk hmy;replace hty:=Hid.mk hty;have st0:=E.st;have sf0:=E.sf;obtain⟨t1,t2,t3,rfl⟩:=zT st0;obtain⟨f1,f2,f3,rfl⟩:=zT sf0;refine en 62 [(2,none)] zSF ?_;refine WO.bx ?_;intro p h1 e1 o1;replace o1:OwnC h h1 p [.slice t1 t2 t3,.slice f1 f2 f3]:=o1;have E1:=E.ext e1;have sf1:=E1.sf;refine go ?_;refine WX.loopA [14,15,16,17,4,3,18,19,20,21,22,23,24,25,5,26,27,28,29,30,31,32,7,33,34,35,36,37,38,39,9,40,41,42,43,44,45,46,47,48,49,50,51,52,53,54,55,2,56,57,5,58,36,59,29,60,13] (by kernel_rfl) (fun i=>F.length - i) (fun i t h2=>zB t 13=I i/\i<=F.length/\Ext h1 h2/\∃ v,zB t 2=v/\OwnR 3 RSt h1.n h2 v (ZZ T 0 (F.take i))) 0 ?_ ?_
 ·exact⟨sl_,QV _,Ext.refl _,.slice none 0 0,sl_,.inl ⟨rfl,rfl⟩⟩
 rintro i t h2 hsame ⟨s13,hi,e2,v,s2,ov⟩;have o2:=o1.ext e2;have E2:=E1.ext e2;have sf2:=E2.sf;have st2:=E2.st;refine go ?_;refine WX.br (fun hb=> ?_) (fun hb=> ?_)<;>simp only[DB]at hb
 ·have hi':i<F.length:=by omega
  have hgm:=zM (l:=F) (i:=i) hi';obtain⟨cs,⟨vb,rfl,sb,hlb⟩,px,hs⟩:=yS (i:=i) sf1 hi';have pc:=(px _ e2).1;have hsg:=hsig.out _ hgm;have hbl:=sm.blocks _ hgm;have hpl:=sm.parts _ (zM (l:=T) (i:=(F.getD i default).sig.toNat) (by omega));have hsn:ZZ T 0 (F.take (i+1))=ZZ T 0 (F.take i)++ZH T i ((T.getD (F.getD i default).sig.toNat default).parts.length:Int) (F.getD i default).blocks:=by
   rw[zA0 hi',zCg,Q7,Gq (by omega),Int.zero_add]
  have hinl:=sm.ins _ hgm;have htyg:=hty.out _ hgm;have hmyg:=hmy.out _ hgm;replace hinl:=Hid.mk hinl;replace htyg:=Hid.mk htyg;generalize F.getD i default=g at *;obtain⟨b1,b2,b3,rfl⟩:=zT sb;refine go ?_;refine WO.al ?_;intro p4 h3 e3 o3;refine go ?_;refine WO.stC0 o3 e3 ?_;intro h4 e4 o4 _;have e14:=e2.trans e4;have sb4:=SlB.ext sb e14;have st4:=st2.ext e4;have o14:=o2.ext e4;obtain⟨csT,⟨va,rfl,sa,hla⟩,pcT,hsT⟩:=Zf (i:=g.sig.toNat) st4 (by omega);obtain⟨a1,a2,a3,rfl⟩:=SlC.shape sa;have ov4:=OwnR.ext ov e4;refine go ?_;refine WX.loopA [30,31,32,7,33,34,35,36,37,38,39,9,40,41,42,43,44,45,46,47,48,49,50,51,52,53,54,55,2,56,57,5,58,36,59,29] (by kernel_rfl) (fun j=>g.blocks.length - j) (fun j t h5=>zB t 29=I j/\j<=g.blocks.length/\Ext h1 h5/\zB t 5=I ((T.getD g.sig.toNat default).parts.length+zW (g.blocks.take j))/\∃ v,zB t 2=v/\OwnR 3 RSt h1.n h5 v (ZZ T 0 (F.take i)++ZH T i ((T.getD g.sig.toNat default).parts.length:Int) (g.blocks.take j))) 0 ?_ ?_
  ·exact⟨sl_,QV _,e2.trans e4,by rw[show zW (g.blocks.take 0)=0 by simp[zW],Int.add_zero];exact sl_,v,sl_,by simpa [ZH]using ov4⟩
  rintro j t' h5 hsame' ⟨s29,hj,e5,s5,v',s2',ov'⟩;have o5:=o1.ext e5;have E5:=E1.ext e5;have sb5:=SlB.ext sb e5;refine go ?_;refine WX.br (fun hb'=> ?_) (fun hb'=> ?_)<;>simp only[DB]at hb'
  ·have hj':j<g.blocks.length:=by omega
   have hBm:=zM (l:=g.blocks) (i:=j) hj';obtain⟨csB,⟨vi,rfl,si,hli⟩,pxB,hsB⟩:=yS (i:=j) sb hj';have pcB:=(pxB _ e5).1;have hil:=hinl.out _ hBm;have hsnB:ZH T i ((T.getD g.sig.toNat default).parts.length:Int) (g.blocks.take (j+1))=ZH T i ((T.getD g.sig.toNat default).parts.length:Int) (g.blocks.take j)++ZX T i ((T.getD g.sig.toNat default).parts.length+zW (g.blocks.take j)) (g.blocks.getD j default).ins:=by
    rw[zA0 hj',zC0]
   have hmB:zW (g.blocks.take (j+1))=zW (g.blocks.take j)+((g.blocks.getD j default).ins.length:Int):=by
    rw[zA0 hj'];unfold zW;simp
   have hm0:0<=zW (g.blocks.take j)/\zW (g.blocks.take j)<=128:=by
    have:=zLW g.blocks j;omega
   have hsB:=zBV (T:=T) (f:=(i:Int)) (l:=g.blocks.take j) (n:=((T.getD g.sig.toNat default).parts.length:Int));have htyB:=htyg.out _ hBm;replace htyB:=Hid.mk htyB;generalize g.blocks.getD j default=B at *;obtain⟨i1,i2,i3,rfl⟩:=zT si;refine go ?_;refine WO.al ?_;intro p7 h6 e6 o7;refine go ?_;refine WO.stC0 o7 e6 ?_;intro h7 e7 o7 _;have e17:=e5.trans e7;have si7:=SlN.ext si e17;have ov7:=OwnR.ext ov' e7;refine go ?_;refine WX.loopA [37,38,39,9,40,41,42,43,44,45,46,47,48,49,50,51,52,53,54,55,2,56,57,5,58,36] (by kernel_rfl) (fun q=>B.ins.length - q) (fun q t h8=>zB t 36=I q/\q<=B.ins.length/\Ext h1 h8/\zB t 5=I ((T.getD g.sig.toNat default).parts.length+zW (g.blocks.take j)+q)/\∃ v,zB t 2=v/\OwnR 3 RSt h1.n h8 v (ZZ T 0 (F.take i)++ZH T i ((T.getD g.sig.toNat default).parts.length:Int) (g.blocks.take j)++ZX T i ((T.getD g.sig.toNat default).parts.length+zW (g.blocks.take j)) (B.ins.take q))) 0 ?_ ?_
   ·exact⟨sl_,QV _,e17,by rw[show ((0:Nat):Int)=0 from rfl,Int.add_zero];exact sl_,v',sl_,by simpa [ZX]using ov7⟩
   rintro q t'' h8 hsame'' ⟨s36,hq,e8,s5'',v'',s2'',ov''⟩;have o8:=o1.ext e8;have si8:=SlN.ext si e8;have st8:=(E1.ext e8).st;refine go ?_;refine WX.br (fun hb''=> ?_) (fun hb''=> ?_)<;>simp only[DB]at hb''
   ·have hq':q<B.ins.length:=by omega
    have hxm:=zM (l:=B.ins) (i:=q) hq';obtain⟨csX,⟨xa,xf,rfl,sxa,sxf,hxa,hxf,ho⟩,pxX,hsX⟩:=yS (i:=q) si hq';have pcX:=(pxX _ e8).1;have hsnI:∀ n:Int,ZX T i n (B.ins.take (q+1))=ZX T i n (B.ins.take q)++(if Zs (B.ins.getD q default) then [⟨i,n+q,(T.getD (B.ins.getD q default).ty.toNat default).elem⟩] else []):=fun n=>by
     rw[zA0 hq',zCd,Q7,Gq (by omega)]
    have htyx:=htyB.out _ hxm;generalize B.ins.getD q default=x at *;obtain⟨xa1,xa2,xa3,rfl⟩:=SlC.shape sxa;obtain⟨xf1,xf2,xf3,rfl⟩:=SlC.shape sxf;refine go ?_;refine WO.al ?_;intro p9 h9 e9 o9;refine go ?_;refine WO.stC0 (cs:=[.int .u8 x.op,I x.ty,I x.a,I x.b,I x.n,.slice xa1 xa2 xa3,.slice xf1 xf2 xf3]) o9 e9 ?_;intro h10 e10 o10 _;refine go ?_;refine WO.con (zOQ h10 x) ?_;rintro _ _ ⟨rfl,rfl⟩;have e110:=e8.trans e10;cases hmk:Zs x with
    |true=>
     have hx:=htyx hmk;have o810:=o8.ext e10;have st10:=(E1.ext e110).st;obtain⟨csT,⟨ya,rfl,sya,hya⟩,pcT',hsT'⟩:=Zf (i:=x.ty.toNat) st10 (by omega);obtain⟨y1,y2,y3,rfl⟩:=SlC.shape sya;have hsI:=zBT (T:=T) (f:=(i:Int)) (l:=B.ins.take q) (n:=(T.getD g.sig.toNat default).parts.length+zW (g.blocks.take j));have hlq:(B.ins.take q).length<=q:=List.length_take_le _ _;have hsi:=hslen.out i;refine go ?_;refine WO.apR (hB:=h1) (b:=h1.n) (⟨i,(T.getD g.sig.toNat default).parts.length+zW (g.blocks.take j)+q,(T.getD x.ty.toNat default).elem⟩:LSite) (fun _=>False) (OwnR.ext ov'' e10) e110 (QE _) e110.n (by decide) (by simp only[QP];omega) (fun _ _ _=>rfl) (fun _ h=>h.elim) (fun _ _ _ _ h=>h) ?_;intro v12 h12 lit e12 o12 hn12 hk12;refine go ?_;refine zA (q+1) (by omega) ⟨sln,by omega,e12,?_,v12,sl_,?_⟩
     ·rw[show ((T.getD g.sig.toNat default).parts.length:Int)+zW (g.blocks.take j)+((q+1:Nat):Int)=(T.getD g.sig.toNat default).parts.length+zW (g.blocks.take j)+q+1 by omega];exact sl_
     ·rw[hsnI,hmk,QI rfl,<-Qm];exact o12
    |false=>
     refine go ?_;refine zA (q+1) (by omega) ⟨sln,by omega,e110,?_,v'',sl_,?_⟩
     ·rw[show ((T.getD g.sig.toNat default).parts.length:Int)+zW (g.blocks.take j)+((q+1:Nat):Int)=(T.getD g.sig.toNat default).parts.length+zW (g.blocks.take j)+q+1 by omega];exact sl_
     ·rw[hsnI,hmk];simpa using OwnR.ext ov'' e10
   ·have hqq:q=B.ins.length:=by omega
    subst hqq;rw[GC]at ov'';refine go ?_;refine zA (j+1) (by omega) ⟨sln,by omega,e8,?_,v'',sl_,?_⟩
    ·rw[hmB,<-Int.add_assoc];exact sl_
    ·rw[hsnB,<-Qm];exact ov''
  ·have hjj:j=g.blocks.length:=by omega
   subst hjj;rw[GC]at ov';refine go ?_;refine zA (i+1) (by omega) ⟨sln,by omega,e5,v',sl_,?_⟩;rw[hsn];exact ov'
 ·have hii:i=F.length:=by omega
  subst hii;rw[GC]at ov;refine gr ?_;exact⟨ov.base e1.n,e1.trans e2⟩
theorem zJL {T:List LType} {F:List LFn} (hs:zY T F=0) {f:Nat} (hf:f<F.length) {b:Nat} (hb:b<(F.getD f default).blocks.length) {i:Nat} (hi:i<((F.getD f default).blocks.getD b default).ins.length) (hm:Zs (((F.getD f default).blocks.getD b default).ins.getD i default)=true):
  isT T 2 (((F.getD f default).blocks.getD b default).ins.getD i default).ty=true/\InT T (((F.getD f default).blocks.getD b default).ins.getD i default).ty:=by
 obtain⟨hp,hw⟩:=ZP hs;have Z:=zK2 hp (f:=(f:Int)) (by omega);have W:=(hw f (by omega) (by omega)).2.2 b (by omega) (by show (b:Int)<((F.getD ((f:Int)).toNat default).blocks.length:Int);rw[Qa];omega);have h1:=W.1 i (by show i<(((F.getD ((f:Int)).toNat default).blocks.getD ((b:Int)).toNat default).ins.length);rw[Qa,Qa];exact hi);have hV:=Z.V ((F.getD f default).blocks.getD b default) (by show _∈(F.getD ((f:Int)).toNat default).blocks;rw[Qa];exact zM hb) _ (zM hi);refine⟨?_,hV.ty⟩;unfold YH zIx at h1;have h2:=h1.2.1;rw[show ((yJ F f).getD ((b:Int)).toNat default).ins.getD i default=((F.getD f default).blocks.getD b default).ins.getD i default from by unfold yJ;rw[Qa,Qa]]at h2;generalize ((F.getD f default).blocks.getD b default).ins.getD i default=x at *;unfold Zs at hm;simp only[GD,QX]at hm;unfold zD1 at h2;rw[QD (by omega),QD (by omega),QD (by omega),QI hm]at h2;exact h2
theorem YE {α:Type} [Inhabited α] {l:List α} {x:α} (h:x∈l):∃ i,i<l.length/\l.getD i default=x:=by
 obtain⟨i,hi,rfl⟩:=List.getElem_of_mem h;exact⟨i,hi,by simp[List.getD,QC hi]⟩
def zS6:ACode:=(oV (oR [oX 1 0,oK 2 (.slice none 0 0),oN 3 0]) (oV (oV (oR [oA 2 5 1,o1 6 78 5,oM 4 6]) (oV (oR [oM 7 4,oC .neq 8 7 0]) (oJ 8 (oV (oR [oM 9 4,oK 2 (.slice none 0 0),oM 3 9]) .ret) .skip))) (oV (oR [oA 2 10 1,o1 11 79 10,oM 2 11,oN 3 0]) .ret)))
theorem zN6 (h:AHeap) (vt vf:Value) (T:List LType) (F:List LFn) (E:Env h vt vf T F):
  WC Tryz.prog tb 58 [.agg #[vt,vf]] h fun r h'=>(∃ v,r= .tuple #[v,I (zY T F)]/\OwnR 3 RSt h.n h' v (if zY T F=0 then yT T F else []))/\Ext h h':=by
 refine en 12 [(2,none),(3,none)] zS6 ?_;refine WO.bx ?_;intro p h1 e1 o1;replace o1:OwnC h h1 p [vt,vf]:=o1;have E1:=E.ext e1;refine go ?_;refine WO.con (zL0 h1 vt vf T F E1) ?_;rintro _ h2 ⟨rfl,e2⟩;have o2:=o1.ext e2;have E2:=E1.ext e2;by_cases hs:zY T F=0;case neg=>
  rw[QD hs];refine gr ?_;exact⟨⟨_,rfl,.inl ⟨rfl,rfl⟩⟩,e1.trans e2⟩
 rw[QI hs];obtain⟨hp,hw⟩:=ZP hs;obtain⟨hc,hF1,hF8,hfn⟩:=ZA hp;have hg:∀ g∈F,(0<=g.sig/\g.sig<(T.length:Int))/\zW g.blocks<=128:=fun g hg=>by
  obtain⟨i,hi,rfl⟩:=YE hg;have Z:=zK2 hp (f:=(i:Int)) (by omega);have h1:=Z.sig;have h2:=Z.many;unfold yJ at h2;rw[Qa]at h1 h2;exact⟨h1,h2⟩
 have hty:∀ g∈F,∀ B∈g.blocks,∀ x∈B.ins,Zs x=true->0<=x.ty/\x.ty<(T.length:Int):=fun g hg B hB x hx hm=>by
  obtain⟨f,hf,rfl⟩:=YE hg;obtain⟨b,hb,rfl⟩:=YE hB;obtain⟨i,hi,rfl⟩:=YE hx;have:=zJL hs hf hb hi hm;refine this.2.resolve_left fun e=> ?_;have h1:=this.1;unfold isT at h1;rw[e]at h1;cases h1
 have hsg:∀ g∈F,0<=g.sig/\g.sig<(T.length:Int):=fun g q=>(hg g q).1;have hmy:∀ g∈F,zW g.blocks<=128:=fun g q=>(hg g q).2;rw[hs];replace hg:=Hid.mk hg;replace hfn:=Hid.mk hfn;refine go ?_;refine WO.con (zML h2 vt vf T F E2 hsg hmy hF8 hty) ?_;rintro v h3 ⟨ov,e3⟩;refine gr ?_;exact⟨⟨v,rfl,ov.base (e1.trans e2).n⟩,e1.trans (e2.trans e3)⟩
set_option maxRecDepth 100000
structure NT (hB h:AHeap) (p vR vF vS:Value) (rs fs:List Int) (ss:List LSite):Prop where
 own:OwnC hB h p [vR,vF,vS]
 r:OwnN hB h vR rs
 q:OwnN hB h vF fs
 s:OwnR 3 RSt hB.n h vS ss
 rf:OffV vR vF
 rs:OffV vR vS
 fs:OffV vF vS
 pr:OffV p vR
 pf:OffV p vF
 ps:OffV p vS
section
variable {hB h h' h2:AHeap} {p vR vF vS v':Value} {rs fs l:List Int} {ss:List LSite}
theorem NT.ext (N:NT hB h p vR vF vS rs fs ss) (e:Ext h h'):NT hB h' p vR vF vS rs fs ss:=⟨N.own.ext e,N.r.ext e,N.q.ext e,OwnR.ext N.s e,N.rf,N.rs,N.fs,N.pr,N.pf,N.ps⟩
theorem NT.putR (N:NT hB h p vR vF vS rs fs ss) (hn:hB.n<=h.n) (u:Upd vR h h') (o:OwnI h h' v' l) (oc:OwnC hB h2 p [v',vF,vS]) (u2:UpdC p h' h2):NT hB h2 p v' vF vS l fs ss:=by
 have hs:zAt h v':=OwnN.since' (.inr o);have u1:=u.upB;have u2:=u2.upB;have o1:=OffV.fresh hs N.own.within;have ob:OwnN hB h' v' l:= .inr (let ⟨g,a,b⟩:=o;⟨g,QS hn a,b⟩);exact⟨oc,ob.upB u2 o1.symm,(N.q.upB u1 N.rf).upB u2 N.pf,(N.s.upB YJ u1 N.rs).upB YJ u2 N.ps,OffV.fresh hs N.q.within,OffV.fresh hs N.s.within,N.fs,o1.symm,N.pf,N.ps⟩
theorem NT.putF (N:NT hB h p vR vF vS rs fs ss) (hn:hB.n<=h.n) (u:Upd vF h h') (o:OwnI h h' v' l) (oc:OwnC hB h2 p [vR,v',vS]) (u2:UpdC p h' h2):NT hB h2 p vR v' vS rs l ss:=by
 have hs:zAt h v':=OwnN.since' (.inr o);have u1:=u.upB;have u2:=u2.upB;have o1:=OffV.fresh hs N.own.within;have ob:OwnN hB h' v' l:= .inr (let ⟨g,a,b⟩:=o;⟨g,QS hn a,b⟩);exact⟨oc,(N.r.upB u1 N.rf.symm).upB u2 N.pr,ob.upB u2 o1.symm,(N.s.upB YJ u1 N.fs).upB YJ u2 N.ps,(OffV.fresh hs N.r.within).symm,N.rs,OffV.fresh hs N.s.within,N.pr,o1.symm,N.ps⟩
end
theorem zFH {α:Type} {R:AHeap->List Value->α->Prop} {h0 h:AHeap} {c:Nat} {v:Value} {xs:List α} (o:OwnR c R h0.n h v xs):zAt h0 v:=fun b hb=>by
 rcases o with ⟨rfl,_⟩|⟨g,_,_,g1,_,rfl,_⟩
 ·cases hb
 ·cases hb;exact g1
theorem zGJ {v:Value} {n c:Nat}:OffV v (.slice none n c):=fun _ _ h=>by cases h
def yF (T:List LType) (F:List LFn):List Int:=F.map fun g=>((T.getD g.sig.toNat default).parts.length:Int)+zW g.blocks
def zj (T:List LType) (F:List LFn):List Int:=(yT T F).map fun s=>((ZD T s.ty.toNat).length:Int)
theorem zQt {T:List LType} {F:List LFn} (hp:Z1 T F=0) {i:Nat} (hi:i<F.length):Yg T F i=(((T.getD (F.getD i default).sig.toNat default).parts.length:Int)+zW (F.getD i default).blocks,0):=by
 have hask:y8 T F i=(((T.getD (F.getD i default).sig.toNat default).parts.length:Int),0):=by
  unfold y8;rw[QD (fun e=>e hp),QI (by unfold zU;simp;omega),Qa]
 unfold Yg;rw[hask];simp
theorem zEC {T:List LType} {f:Int} {s:LSite}:∀ {l:List LIns} {n:Int},s∈ZX T f n l->∃ x∈l,Zs x=true/\s.ty=(T.getD x.ty.toNat default).elem
 |[],_,h=>by cases h
 |x::l,n,h=>by
  unfold ZX at h;rcases Qn.1 h with h|h
  ·split at h
   ·rename_i hm;rw[Qc]at h;subst h;exact⟨x,Qf ..,hm,rfl⟩
   ·cases h
  ·obtain⟨y,a,b⟩:=zEC h;exact⟨y,Qj _ a,b⟩
theorem zDz {T:List LType} {f:Int} {s:LSite}:∀ {l:List LBlk} {n:Int},s∈ZH T f n l->∃ b∈l,∃ x∈b.ins,Zs x=true/\s.ty=(T.getD x.ty.toNat default).elem
 |[],_,h=>by cases h
 |x::l,n,h=>by
  unfold ZH at h;rcases Qn.1 h with h|h
  ·exact⟨x,Qf ..,zEC h⟩
  ·obtain⟨y,a,b⟩:=zDz h;exact⟨y,Qj _ a,b⟩
theorem zDT {T:List LType} {s:LSite}:∀ {l:List LFn} {f:Int},s∈ZZ T f l->∃ g∈l,∃ b∈g.blocks,∃ x∈b.ins,Zs x=true/\s.ty=(T.getD x.ty.toNat default).elem
 |[],_,h=>by cases h
 |x::l,n,h=>by
  unfold ZZ at h;rcases Qn.1 h with h|h
  ·exact⟨x,Qf ..,zDz h⟩
  ·obtain⟨y,a,b⟩:=zDT h;exact⟨y,Qj _ a,b⟩
theorem zCS {T:List LType} {F:List LFn} (hs:zY T F=0):∀ s∈yT T F,0<=s.ty/\s.ty<(T.length:Int):=fun s h=>by
 obtain⟨g,hg,B,hB,x,hx,hm,he⟩:=zDT h;obtain⟨f,hf,rfl⟩:=YE hg;obtain⟨b,hb,rfl⟩:=YE hB;obtain⟨i,hi,rfl⟩:=YE hx;obtain⟨h1,h2⟩:=zJL hs hf hb hi hm;have hc:=(ZA (ZP hs).1).1;have h3:=zGU hc h2;unfold toT at h3;rw[QI h1,<-he]at h3;rcases h3 with h3|h3
 ·unfold isT at h1;simp only[QF,QX]at h1;have hm:=zDP hc (h2.resolve_left h1.1).1 (h2.resolve_left h1.1).2;unfold ZL zFl at hm;omega
 ·exact h3
theorem zBX {T:List LType} {F:List LFn} (hs:zY T F=0):(yT T F).length<=1024:=by
 have hp:=(ZP hs).1;obtain⟨hc,hF1,hF8,hfn⟩:=ZA hp;have:=zBL (T:=T) (l:=F) (f:=0) fun g hg=>by
  obtain⟨i,hi,rfl⟩:=YE hg;have h2:=(zK2 hp (f:=(i:Int)) (by omega)).many;unfold yJ at h2;rw[Qa]at h2;exact h2
 unfold yT;omega
def zMp:ACode:=(oV (oR [oB .lss 25 24 23]) (oV (oT 25 0) (oV (o5 1 (oV (oR [oM 26 24,oM 4 26]) (oV (oR [oA 2 28 1,oM 29 4,o2 30 59 28 29,oM 27 30,oE 31 27 0,oE 32 27 1,oM 5 31,oM 6 32]) (oR [oF 0 33 2,oF 0 34 33,oL 35 34,oM 36 5,⟨some 37,none,(.buildSlice 1 1 [(.int .i64 0)] [(0,1,(.tmp 36))])⟩,oY 1 38 35 37,oF 0 39 2,oF 0 40 39,oS 1 40 38])))) (oR [oC .add 41 24 1,oM 24 41]))))
def zN8:ACode:=(oV (oR [oB .lss 46 45 44]) (oV (oT 46 2) (oV (o5 3 (oV (oR [oI 3 47 43 45,oA 3 48 47,⟨some 8,none,(.alloc [(.int .i64 0),(.int .i64 0),(.int .i64 0)])⟩,oS 3 8 48]) (oV (oR [oF 0 50 1,oL 51 50,oF 2 52 8,oL 53 52,o2 54 60 51 53,oM 49 54,oE 55 49 0,oE 56 49 1,oM 9 55,oM 10 56]) (oR [oF 0 57 2,oF 1 58 57,oL 59 58,oM 60 9,oQ 61 60,⟨some 62,none,(.buildSlice 1 1 [(.int .i64 0)] [(0,1,(.tmp 61))])⟩,oY 1 63 59 62,oF 0 64 2,oF 1 65 64,oS 1 65 63])))) (oR [oC .add 66 45 1,oM 45 66]))))
def zSW:ACode:=(oV (oR [oX 1 0,⟨some 2,none,(.alloc [(.slice none 0 0),(.slice none 0 0),(.slice none 0 0)])⟩,oN 3 0]) (oV (oV (oR [oA 2 12 1,o1 13 58 12,oM 11 13,oE 14 11 0,oE 15 11 1,oF 2 16 2,oS 1 16 14,oM 3 15]) (oV (oR [oM 17 3,oC .neq 18 17 0]) (oJ 18 (oV (oR [oA 3 19 2,oM 20 3,oS 3 2 19,oM 3 20]) .ret) .skip))) (oV (oV (oR [oF 1 21 1,oL 22 21,oQ 23 22,oN 24 0]) (o5 0 (.loop zMp))) (oV (oV (oR [oF 2 42 2,oL 43 42,oQ 44 43,oN 45 0]) (o5 2 (.loop zN8))) (oV (oR [oA 3 67 2,oS 3 2 67,oN 3 0]) .ret)))))
theorem Y7 (h:AHeap) (vt vf:Value) (T:List LType) (F:List LFn) (E:Env h vt vf T F):
  WC Tryz.prog tb 33 [.agg #[vt,vf]] h fun r h'=>(∃ vR vF vS,r= .tuple #[.agg #[vR,vF,vS],I (zY T F)]/\(∃ a n c,vR= .slice a n c)/\(∃ a n c,vF= .slice a n c)/\(∃ a n c,vS= .slice a n c)/\OwnN h h' vR (if zY T F=0 then yF T F else [])/\OwnN h h' vF (if zY T F=0 then zj T F else [])/\OwnR 3 RSt h.n h' vS (if zY T F=0 then yT T F else []))/\Ext h h':=by
 refine en 68 [(2,some (true,3)),(3,none)] zSW ?_;refine WO.bx ?_;intro p1 h1 e1 o1;replace o1:OwnC h h1 p1 [vt,vf]:=o1;have E1:=E.ext e1;refine go ?_;refine WO.al ?_;intro p2 h2 e2 o2;have E2:=E1.ext e2;have o12:=o1.ext e2;refine go ?_;refine WO.con (zN6 h2 vt vf T F E2) ?_;rintro _ h3 ⟨⟨vS,rfl,oS⟩,e3⟩;have hS:=zFH oS;have hpS:OffV p2 (_:Value):=(OffV.fresh hS o2.within).symm;obtain⟨s1,s2,s3,rfl⟩:=zT oS.sl;have o13:=o12.ext e3;have o23:=o2.ext e3;have e13:=e2.trans e3;refine go ?_;refine WO.stC (j:=2) (cs:=[.slice s1 s2 s3]) (hl:=by simp) o23 e13 ?_;intro h4 e4 o4 u4;replace o4:OwnC h1 h4 p2 [.slice none 0 0,.slice none 0 0,.slice s1 s2 s3]:=o4;have oS4:=(oS.upB YJ u4.upB hpS).base e2.n;have o14:=o1.ext e4;by_cases hs:zY T F=0;case neg=>
  simp only[QD hs]at oS4 |-;refine go ?_;refine WO.stC0 o4 e4 ?_;intro h5 e5 o5 u5;refine go ?_;refine rt ?_ (Res.consA sl_ o5 rfl (Res.cons sl_ Res.nil));exact⟨⟨_,_,_,rfl,⟨_,_,_,rfl⟩,⟨_,_,_,rfl⟩,⟨_,_,_,rfl⟩,.inl ⟨rfl,rfl⟩,.inl ⟨rfl,rfl⟩,(oS4.upB YJ u5.upB hpS).base e1.n⟩,e1.trans e5⟩
 simp only[QI hs]at oS4 |-;rw[hs];have N4:NT h1 h4 p2 (.slice none 0 0) (.slice none 0 0) (.slice s1 s2 s3) [] [] (yT T F):=⟨o4,.inl ⟨rfl,rfl⟩,.inl ⟨rfl,rfl⟩,oS4,zGJ,(fun b hb=>by cases hb),(fun b hb=>by cases hb),zGJ,zGJ,hpS⟩;obtain⟨hp,hw⟩:=ZP hs;obtain⟨hc,hF1,hF8,hfn⟩:=ZA hp;have sf4:=(E1.ext e4).sf;obtain⟨f1,f2,f3,rfl⟩:=zT sf4;obtain⟨t1,t2,t3,rfl⟩:=zT E.st;replace hfn:=Hid.mk hfn;refine go ?_;refine WX.loopA [25,26,4,28,29,30,27,31,32,5,6,33,34,35,36,37,38,39,40,41,24] (by kernel_rfl) (fun i=>F.length - i) (fun i t h5=>zB t 24=I i/\i<=F.length/\∃ vR,(∃ a n c,vR= .slice a n c)/\Ext h1 h5/\NT h1 h5 p2 vR (.slice none 0 0) (.slice s1 s2 s3) ((yF T F).take i) [] (yT T F)) 0 ?_ ?_
 ·exact⟨sl_,QV _,_,⟨_,_,_,rfl⟩,e4,by simpa using N4⟩
 rintro i t h5 hsame ⟨s24,hi,vR,⟨r1,r2,r3,rfl⟩,e5,N5⟩;have E5:=E1.ext e5;have o15:=o1.ext e5;refine go ?_;refine WX.br (fun hb=> ?_) (fun hb=> ?_)<;>simp only[DB]at hb
 ·have hi':i<F.length:=by omega
  have hRl:(yF T F).take (i+1)=(yF T F).take i++[((T.getD (F.getD i default).sig.toNat default).parts.length:Int)+zW (F.getD i default).blocks]:=by
   have hl:i<(yF T F).length:=by unfold yF;simpa using hi'
   rw[Q3,QC hl];unfold yF;simp[List.getD,QC hi']
  have hR:=zJf h5 _ _ T F i E5.tt E5.hm E5.sm E5.st E5.sf;rw[zQt hp hi']at hR;have htl:((yF T F).take i).length<=8:=by rw[Q7];omega
  generalize ((T.getD (F.getD i default).sig.toNat default).parts.length:Int)+zW (F.getD i default).blocks=m at *;refine go ?_;refine WO.con hR ?_;rintro _ h6 ⟨rfl,e6⟩;have N6:=N5.ext e6;have o6:=N6.own;have e16:=e5.trans e6;refine go ?_;refine WO.bl [m] ?_;intro v7 h7 e7 o7;have N7:=N6.ext e7;have oo7:=N7.own;have e17:=e16.trans e7;refine go ?_;refine WO.apF N7.r o7.sl e17 (by simp) (by simp at htl |-;omega) ?_;intro v8 h8 e8 o8 u8;obtain⟨g8,_,_,rfl,_⟩:=id o8;have oo8:=N7.own.upB u8.upB N7.pr.symm;refine go ?_;refine WO.stC (j:=0) (hl:=by simp) (cs:=[_]) oo8 e8 ?_;intro h9 e9 o9 u9;refine go ?_;have N9:=N7.putR e17.n u8 o8 o9 u9;rw[<-hRl]at N9;exact zA (i+1) (by omega) ⟨sln,by omega,.slice (some ⟨g8,0,none⟩) ((yF T F).take (i+1)).length 1,⟨_,_,_,rfl⟩,e9,N9⟩
 ·have hii:i=F.length:=by omega
  subst hii;rw[Qr (by unfold yF;simp)]at N5;have oN5:=N5.own;have hfld:∀ j,j<(yT T F).length->0<=((yT T F).getD j default).ty/\((yT T F).getD j default).ty<(T.length:Int):=fun j hj=>zCS hs _ (zM hj);replace hfld:=Hid.mk hfld;have sS5:=N5.s.sl;have hsl:=zBX hs;refine go ?_;refine WX.loopA [46,47,48,8,50,51,52,53,54,49,55,56,9,10,57,58,59,60,61,62,63,64,65,66,45] (by kernel_rfl) (fun j=>(yT T F).length - j) (fun j t h6=>zB t 45=I j/\j<=(yT T F).length/\∃ vF,(∃ a n c,vF= .slice a n c)/\Ext h1 h6/\NT h1 h6 p2 (.slice r1 r2 r3) vF (.slice s1 s2 s3) (yF T F) ((zj T F).take j) (yT T F)) 0 ?_ ?_
  ·exact⟨sl_,QV _,_,⟨_,_,_,rfl⟩,e5,by simpa using N5⟩
  rintro j t' h6 hsame' ⟨s45,hj,vF,⟨q1,q2,q3,rfl⟩,e6,N6⟩;have E6:=E1.ext e6;have o16:=o1.ext e6;have sS6:=N6.s.sl;refine go ?_;refine WX.br (fun hb'=> ?_) (fun hb'=> ?_)<;>simp only[DB]at hb'
  ·have hj':j<(yT T F).length:=by omega
   have hFl:(zj T F).take (j+1)=(zj T F).take j++[((ZD T ((yT T F).getD j default).ty.toNat).length:Int)]:=by
    have hl:j<(zj T F).length:=by unfold zj;simpa using hj'
    rw[Q3,QC hl];unfold zj;simp[List.getD,QC hj'];exact List.getElem_map ..
   have hty:=hfld.out j hj';have htl:((zj T F).take j).length<=1024:=by rw[Q7];omega
   obtain⟨csS,hRS,pcS,hsS⟩:=ZO (i:=j) sS6 hj';generalize (yT T F).getD j default=x at *;have hRS:csS=[I x.fn,I x.nr,I x.ty]:=hRS;subst hRS;refine go ?_;refine WO.al ?_;intro p8 h7 e7 o8;refine go ?_;refine WO.stC0 o8 e7 ?_;intro h8 e8 o8 _;have E8:=E6.ext e8;have o18:=o16.ext e8;refine go ?_;refine WO.con (zKH h8 _ T x.ty E8.st E8.sm.types E8.sm.parts hc hty E8.hm) ?_;rintro _ h9 ⟨⟨v9,rfl,o9⟩,e9⟩;obtain⟨l1,l2,l3,rfl⟩:=SlC.shape o9.sl;have e89:=e8.trans e9;have N9:=N6.ext e89;have oo9:=N9.own;have o19:=o18.ext e9;have e19:=e6.trans e89;refine go ?_;refine WO.bl [((ZD T x.ty.toNat).length:Int)] ?_;intro v10 h10 e10 o10;have N10:=N9.ext e10;have oo10:=N10.own;have e110:=e19.trans e10;refine go ?_;refine WO.apF N10.q o10.sl e110 (by simp) (by simp at htl |-;omega) ?_;intro v11 h11 e11 o11 u11;obtain⟨g11,_,_,rfl,_⟩:=id o11;have oo11:=N10.own.upB u11.upB N10.pf.symm;refine go ?_;refine WO.stC (j:=1) (hl:=by simp) (cs:=[_]) oo11 e11 ?_;intro h12 e12 o12 u12;have N12:=N10.putF e110.n u11 o11 o12 u12;rw[<-hFl]at N12;refine go ?_;exact zA (j+1) (by omega) ⟨sln,by omega,.slice (some ⟨g11,0,none⟩) ((zj T F).take (j+1)).length 1,⟨_,_,_,rfl⟩,e12,N12⟩
  ·have hjj:(zj T F).take j=zj T F:=Qr (by unfold zj;simp;omega);rw[hjj]at N6;have oN6:=N6.own;refine go ?_;refine WO.stC0 oN6 e6 ?_;intro h7 e7 o7 u7;refine go ?_;refine rt ?_ (Res.consA sl_ o7 rfl (Res.cons sl_ Res.nil));exact⟨⟨_,_,_,rfl,⟨_,_,_,rfl⟩,⟨_,_,_,rfl⟩,⟨_,_,_,rfl⟩,(N6.r.upB u7.upB N6.pr).since e1,(N6.q.upB u7.upB N6.pf).since e1,(N6.s.upB YJ u7.upB N6.ps).base e1.n⟩,e1.trans e7⟩
end
end Go.Proofs.YtfnndahpddkniaaGreatDoor
