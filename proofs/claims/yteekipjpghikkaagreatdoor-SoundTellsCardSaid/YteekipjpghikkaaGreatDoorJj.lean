/- What functions of the program come to in the abstract machine, and plain laws about it; no statement of the seat is proved in this text. -/
import Derived.Test.YteekipjpghikkaaGreatDoorJi
import Derived.Test.YteekipjpghikkaaGreatDoorJh
import Derived.Test.YteekipjpghikkaaGreatDoorJh
import Derived.Test.YteekipjpghikkaaGreatDoorAmV
import Derived.Test.YteekipjpghikkaaGreatDoorJf
set_option linter.unusedVariables false
set_option linter.unusedSimpArgs false
set_option maxHeartbeats 2000000
namespace Go.Proofs.YteekipjpghikkaaGreatDoor
noncomputable section
open Go.Am
set_option maxRecDepth 100000
section
variable {vt vf:Value} {T:List LType} {F:List LFn} {f:Int} {ks:List Int} {ps:List (Int×Int)} {xs:List Int} {g:Nat} {nx:Int→List Int} {L:List LBlk}
theorem zJU (h:AHeap) (b:Int) (M:FnM h g vt vf T F f ks ps (Zr xs L.length)) (G:Gr F f nx xs ps L) (E:Env h vt vf T F) (hc:yb T=0) (hks:∀ t∈ks,InT T t) (hF:∀ f∈F,InT T f.sig)
  (hsig:0≤(F.getD f.toNat default).sig∧(F.getD f.toNat default).sig<(T.length:Int)) (hlen:ks.length=ps.length) (U:∀ B∈L,BlkU B ks.length L.length) (V:∀ B∈L,∀ x∈B.ins,InsT T F x) (hb:0≤b∧b<(L.length:Int)) (hil:(L.getD b.toNat default).ins.length≤1000):
  WC Tryz.prog tb 68 [.pointer (some ⟨g,0,none⟩),I b] h fun q h'=>(q= .nilIface∧(∀ i,i<(L.getD b.toNat default).ins.length→YE T F ks ps nx L (Zw T F f b).1 b i)∧Zq T F f ks ps nx L b∨q=Y2 f b∧¬((∀ i,i<(L.getD b.toNat default).ins.length→YE T F ks ps nx L (Zw T F f b).1 b i)∧Zq T F f ks ps nx L b))∧Ext h h':=by
 have hb0:=hb;have hBL:L.getD b.toNat default∈L:=zH (by omega);have UB:=U _ hBL;have VB:=V _ hBL;have hG:=G.hf;have hGL:=G.hL;refine en 183 [(4,none)] zHy ?_;refine WX.regionU2 1 rfl rfl ?_;have ea:=zI 1 h;obtain⟨⟨hB,vk,vp,vr,o,a,b',c⟩,st,sf,hm⟩:=M.aside 1;obtain⟨cs,⟨vb,rfl,sb,hlb⟩,pc,hsl⟩:=zo (i:=f.toNat) M.sf (by omega);have pc1:=(pc _ ea).2;rw[hGL]at sb;have sbX:=SlB.ext sb ea;have sbX:SlB (inC (zC 1 h)) vb L:=sbX;obtain⟨cs2,⟨vi,rfl,si,hli⟩,pc',hsl'⟩:=zo (i:=b.toNat) sb (by omega);have pc2:=(pc' _ ea).2;obtain⟨ia,iN,ik,rfl⟩:=zF si;refine goU ?_;refine WU2.alE (X:=inC (zC 1 h)) (Ext.refl _) E.hm ?_;intro h1 p5 e1 o5;have si1:SlN h1 _ (L.getD b.toNat default).ins:=SlN.ext si e1;have M1:=M.ext e1;have E1:=E.ext e1;clear o a b' c st sf hm sb sbX si pc1 pc2 pc pc' hsl hsl' ea;refine go ?_;refine WX.regionU2 0 rfl rfl ?_;obtain⟨⟨hB',vk',vp',vr',o,a,b',c⟩,st,sf,hm⟩:=M1.aside 0;refine goU ?_;refine WO.con (zMt _ vt vf T F f b E1.tt (Nat.le_refl _) E1.sm E1.st E1.sf) ?_;rintro _ X2 ⟨⟨vq,rfl,oq0⟩,e2⟩;refine nE e2 ?_;have e2'':Ext h1 (outC h1 X2):=(zI 0 h1).trans (zb (h:=h1) e2);have e2':Ext h1 (outC h1 (inC X2)):=e2'';refine goU ?_;have oq:OwnN h1 (outC h1 (inC X2)) vq (Zw T F f b).1:=oq0;generalize (Zw T F f b).2=eq at *;generalize outC h1 (inC X2)=h2 at *;generalize hP:(Zw T F f b).1=P at *;clear o a b' c st sf hm oq0 e2 e2'';have M2:=M1.ext e2';have o5:=o5.ext e2';have si2:=SlN.ext si1 e2';have e02:=e1.trans e2';obtain⟨⟨hB2,vk2,vp2,vr2,om,oma,omb,omc⟩,omd,ome,omf⟩:=id M2;refine go ?_;refine WO.al ?_;intro p8 h3 e3 o8;refine go ?_;refine WO.stC0 (cs:=[I f,I b,I 120]) o8 e3 ?_;intro h4 e4 o8 u8;have e04:=e02.trans e4;have M4:=M2.ext e4;have o5:=o5.ext e4;have si4:=SlN.ext si2 e4;have oq4:=oq.ext e4;clear oma omb omc omd ome omf om M1 si1 E1;have E4:=E.ext e04;generalize hBq:L.getD b.toNat default=B at *;refine go ?_;refine WX.loopA [54,55,56,57,11,10,58,59,12,60,61,62,13,72,73,74,75,76,77,78,79,80,71,81,82,4,84,85,86,83,87,88,89,90,91,92,93,94,95,96,97,4,9,63,64,65,66,67,68,69,70,4,98,53] (by kernel_rfl) (fun i=>B.ins.length - i) (fun i t h1=>Ext h4 h1∧zB t 53=I i∧i≤B.ins.length∧(∃ fl,zB t 9= .bool fl∧Hid (fl=true↔∀ j,j<i→(B.ins.getD j default).op=22))∧Hid (∀ j,j<i→YE T F ks ps nx L P b j)) 0 ?_ ?_
 ·exact⟨Ext.refl _,sl_,Nat.zero_le _,⟨true,sl_,⟨by simp⟩⟩,⟨fun j hj=>absurd hj (Nat.not_lt_zero _)⟩⟩
 rintro i t h5 hsame ⟨e5,s53,hi,⟨fl,s9,hfl⟩,hI⟩;have M5:=M4.ext e5;have o55:=o5.ext e5;have o85:=o8.ext e5;have si5:=SlN.ext si4 e5;have oq5:=oq4.ext e5;have E5:=E4.ext e5;have e05:=e04.trans e5;refine go ?_;refine WX.br (fun hb=> ?_) (fun hb=> ?_)<;>simp only[DB]at hb
 ·have hi':i<B.ins.length:=by omega
  obtain⟨cs,hR,pcx,hsx⟩:=zM4 si5 hi';have hxm:B.ins.getD i default∈B.ins:=zH hi';generalize hx:B.ins.getD i default=x at *;have hok:YE T F ks ps nx L P b i↔zAW T F ks ps nx L P b i (∀ j,j<i→(B.ins.getD j default).op=22) x:=by unfold YE;rw[hBq,hx]
  have ux:=UB.ins x hxm;have vx:=VB x hxm;have pcx1:=(pcx h5 (Ext.refl _)).1;obtain⟨xa,xf,rfl,sxa,sxf,hla,hlf,ho⟩:=id hR;obtain⟨xa1,xa2,xa3,rfl⟩:=SlC.shape sxa;obtain⟨xf1,xf2,xf3,rfl⟩:=SlC.shape sxf;refine go ?_;refine WO.al ?_;intro p11 h6 e6 o11;refine go ?_;refine WO.stC0 (cs:=[.int .u8 x.op,I x.ty,I x.a,I x.b,I x.n,.slice xa1 xa2 xa3,.slice xf1 xf2 xf3]) o11 e6 ?_;intro h7 e7 o11 u7;have hR7:=hR.ext e7;have E7:=E5.ext e7;refine go ?_;refine WO.con (zLg h7 x _ hR7 E7.tt ux.args) ?_;rintro vu h8 ⟨ou,e8⟩;have e58:=e7.trans e8;refine go ?_;refine WO.con (zMn h8 vu (yI x) (M5.ext e58) ou.sl (by have:=zCD ux;omega) (fun r hr=>ux.uses r hr)) ?_;rintro vl h9 ⟨ol,e9⟩;have e59:=e58.trans e9;have e09:=e05.trans e59;have bad:∀ {h'},¬YE T F ks ps nx L P b i→Ext h h'→(Y2 f b= .nilIface∧(∀ i,i<B.ins.length→YE T F ks ps nx L P b i)∧Zq T F f ks ps nx L b∨Y2 f b=Y2 f b∧¬((∀ i,i<B.ins.length→YE T F ks ps nx L P b i)∧Zq T F f ks ps nx L b))∧Ext h h':=fun hn e=>⟨.inr ⟨rfl,fun ⟨a,_⟩=>hn (a i hi')⟩,e⟩;have bad:=Hid.mk @bad;have hok:=Hid.mk hok;have M9:=M5.ext e59;have o89:=o85.ext e59;have o119:=o11.ext (e8.trans e9);have hlu:=zCD ux;have ouI:=ou.sl.ext e9;have hll:(yg ks (yI x)).length=(yI x).length:=by unfold yg;simp
  have hinT:∀ t∈yg ks (yI x),InT T t:=fun t ht=>by
   obtain⟨r,hr,rfl⟩:=List.mem_map.1 ht;have:=ux.uses r hr;exact hks _ (zS (by omega))
  replace ol:OwnN h8 h9 vl (yg ks (yI x)):=ol;have R9:=hR.ext e59;refine go ?_;refine WO.con (Yd h9 vl (yg ks (yI x)) (-1) ol.sl (by omega)) ?_;rintro _ _ ⟨rfl,rfl⟩;by_cases c1:(-1:Int)∈yg ks (yI x)
  ·rw[decide_eq_true c1];refine go ?_;refine WO.mi ?_;refine gr ?_;exact bad.out (fun q=>(hok.out.1 q).1 c1) e09
  rw[decide_eq_false c1];refine go ?_;refine WO.con (zKa h9 x _ vl (yg ks (yI x)) M9 hc R9 ol.sl (by omega) hinT vx.ty hF vx.n14 vx.n2 (fun e=>by have:=vx.l1 e;omega) (fun e=>by have:=vx.l2 e;omega)) ?_;rintro _ h10 ⟨rfl,e10⟩;have e010:=e09.trans e10;have o810:=o89.ext e10;have o1110:=o119.ext e10;cases c2:yA T F x (yg ks (yI x))with
  |false=>
   refine go ?_;refine WO.mi ?_;refine gr ?_;exact bad.out (fun q=>absurd ((hok.out.1 q).2.1.symm.trans c2) Bool.noConfusion) e010
  |true=>
  have M10:=M9.ext e10;have oq10:=oq5.ext (e59.trans e10);have R10:=R9.ext e10;refine go ?_;by_cases c3:x.op=22
  ·cases fl with
   |false=>
    refine go ?_;refine WO.mi ?_;refine gr ?_;exact bad.out (fun q=>absurd (hfl.out.2 ((hok.out.1 q).2.2.1 c3).1) Bool.noConfusion) e010
   |true=>
    refine go ?_;have hph:=ux.phi c3;refine WO.con (zOm h10 x _ _ P M10 G R10 oq10.sl (fun j hj=>hph.2.2 _ (zS hj)) (by omega) (fun j hj=>by have:=hph.2.1 _ (zS hj);omega)) ?_;rintro _ h11 ⟨⟨bb,rfl,hbb⟩,e11⟩;have e011:=e010.trans e11;have o811:=o810.ext e11;cases bb with
    |false=>
     refine go ?_;refine WO.mi ?_;refine gr ?_;exact bad.out (fun q=>absurd (hbb.2 ((hok.out.1 q).2.2.1 c3).2) Bool.noConfusion) e011
    |true=>
     refine go ?_;refine zA (i+1) (by omega) ⟨e5.trans (e59.trans (e10.trans e11)),sln,by omega,⟨true,sl_,⟨?_⟩⟩,⟨fun j hj=> ?_⟩⟩
     ·simp only[true_iff];intro j hj;by_cases e:j=i
      ·subst e;rw[hx];exact c3
      ·exact hfl.out.1 rfl j (by omega)
     ·by_cases e:j=i
      ·subst e;exact hok.out.2 ⟨c1,c2,fun _=>⟨hfl.out.1 rfl,hbb.1 rfl⟩,fun h=>absurd c3 h⟩
      ·exact hI.out j (by omega)
  ·refine go ?_;have ou10:=ouI.ext e10;refine WO.con (zFd h10 vu (yI x) b i M10 G.r (G.way b hb0.1 hb0.2) (by have:=G.n;omega) G.inn ou10 (by omega) (fun r hr=>by have:=ux.uses r hr;omega) G.pl) ?_;rintro _ h11 ⟨⟨bb,rfl,hbb⟩,e11⟩;have e011:=e010.trans e11;have o811:=o810.ext e11;cases bb with
   |false=>
    refine go ?_;refine WO.mi ?_;refine gr ?_;exact bad.out (fun q=>absurd (hbb.2 ((hok.out.1 q).2.2.2 c3)) Bool.noConfusion) e011
   |true=>
    refine go ?_;refine zA (i+1) (by omega) ⟨e5.trans (e59.trans (e10.trans e11)),sln,by omega,⟨false,sl_,⟨?_⟩⟩,⟨fun j hj=> ?_⟩⟩
    ·simp only[Bool.false_eq_true,false_iff];intro hall;have:=hall i (by omega);rw[hx]at this;exact c3 this
    ·by_cases e:j=i
     ·subst e;exact hok.out.2 ⟨c1,c2,fun h=>absurd h c3,fun _=>hbb.1 rfl⟩
     ·exact hI.out j (by omega)
 ·have hii:i=B.ins.length:=by omega
  subst hii;obtain⟨⟨hB3,vk3,vp3,vr3,om,oma,omb,omc⟩,st3,sf3,hm3⟩:=id M5;refine go ?_;refine WO.con (zF2 h5 B.fin) ?_;rintro ve h6 ⟨oe,e6⟩;refine go ?_;have hue:(z9 B.fin).length≤1:=by unfold z9;split<;>simp
  refine WO.con (zMn h6 ve (z9 B.fin) (M5.ext e6) oe.sl (by omega) UB.ends) ?_;rintro vl h7 ⟨ol,e7⟩;replace ol:OwnN h6 h7 vl (yg ks (z9 B.fin)):=ol;have e57:=e6.trans e7;have e07:=e05.trans e57;have hell:(yg ks (z9 B.fin)).length=(z9 B.fin).length:=by unfold yg;simp
  have hinT:∀ t∈yg ks (z9 B.fin),InT T t:=fun t ht=>by
   obtain⟨r,hr,rfl⟩:=List.mem_map.1 ht;have:=UB.ends r hr;exact hks _ (zS (by omega))
  have M7:=M5.ext e57;have o87:=o85.ext e57;have o57:=o55.ext e57;have si7:=SlN.ext si5 e57;clear om oma omb omc st3 sf3 hm3;refine go ?_;refine WX.cutA [104,105,106,107,108,109,110,111,112,113,114,115,116,117,15] (by kernel_rfl) (fun t h'=>Ext h7 h'∧∃ q,zB t 15= .bool q∧Hid (q=true↔¬(-1:Int)∈yg ks (z9 B.fin)∧∀ r∈z9 B.fin,zBD nx (ps.getD r.toNat default) b B.ins.length)) ?_ ?_
  ·refine WX.regionU2 0 rfl rfl ?_;have ea:=zI 0 h7;have olX:=SlI.ia (ol.sl.ext ea);have o5X:=OwnC.ia (o57.ext ea);have siX:=SlN.ia (SlN.ext si7 ea);refine goU ?_;refine WO.con (Yd _ vl _ (-1) olX (by omega)) ?_;rintro _ _ ⟨rfl,rfl⟩;refine nQ ?_;by_cases c1:(-1:Int)∈yg ks (z9 B.fin)
   ·rw[decide_eq_true c1];refine goU ?_;refine zHR Y4 ?_;refine goU ?_;exact zE ⟨ea,false,sl_,⟨by simp[c1]⟩⟩
   ·rw[decide_eq_false c1];refine goU ?_;refine WO.con (zF2 _ B.fin) ?_;rintro ve2 X8 ⟨oe2,e8⟩;refine nE e8 ?_;have e8':=ea.trans (zb (h:=h7) (X:=zC 0 h7) (Y:=X8) e8);refine goU ?_;refine WO.con (zFd _ ve2 (z9 B.fin) b B.ins.length (FnM.inC' (M7.ext e8')) G.r (G.way b hb0.1 hb0.2) (by have:=G.n;omega) G.inn (SlI.ia oe2.sl) (by omega) (fun r hr=>by have:=UB.ends r hr;omega) G.pl) ?_;rintro _ X9 ⟨⟨bb,rfl,hbb⟩,e9⟩;refine nE e9 ?_;have e9':=e8'.trans (zb (h:=h7) e9);refine goU ?_;exact zE ⟨e9',bb,sl_,⟨by rw[hbb];simp[c1]⟩⟩
  rintro t8 h8 hs8 ⟨e8,q,s15,hq⟩;refine ZV ?_;exact zHV (xs:=xs) h h8 _ _ t8 b B P p5 p8 vl _ q (e07.trans e8) (M7.ext e8) hG hBq hsig hinT hell hue (o57.ext e8) (o87.ext e8) (ol.sl.ext e8) (by exact Z8) (by exact Z8) (by exact Z8) (by exact Z8) (by exact Z8) s15 hI hq
end
set_option maxRecDepth 100000
theorem zBj (h h':AHeap) (cs:List Value) (a:Int×Int) (r:RPl h cs a):RPl h' cs a:=r
structure FO (hB h:AHeap) (p:Value) (vt vf:Value) (f:Int) (ks:List Int) (ps:List (Int×Int)) (rs:List Int) (vk vp vr:Value):Prop where
 own:OwnC hB h p [vt,vf,I f,vk,vp,vr]
 k:OwnN hB h vk ks
 q:OwnR 2 RPl hB.n h vp ps
 r:OwnN hB h vr rs
 kp:OffV vk vp
 kr:OffV vk vr
 pr:OffV vp vr
 ok:OffV p vk
 op:OffV p vp
 or:OffV p vr
 s:(∃ a n k,vk= .slice a n k)∧(∃ a n k,vp= .slice a n k)∧(∃ a n k,vr= .slice a n k)
section
variable {hB h h' h2:AHeap} {p vt vf:Value} {f:Int} {ks:List Int} {ps:List (Int×Int)} {rs:List Int} {vk vp vr v':Value}
theorem FO.ext (F:FO hB h p vt vf f ks ps rs vk vp vr) (e:Ext h h'):FO hB h' p vt vf f ks ps rs vk vp vr:=⟨F.own.ext e,F.k.ext e,F.q.ext e,F.r.ext e,F.kp,F.kr,F.pr,F.ok,F.op,F.or,F.s⟩
theorem FO.putK {ks':List Int} (F:FO hB h p vt vf f ks ps rs vk vp vr) (u:Upd vk h h') (hn:hB.n≤h.n) (o:OwnI h h' v' ks') (oc:OwnC hB h2 p [vt,vf,I f,v',vp,vr]) (u2:UpdC p h' h2):FO hB h2 p vt vf f ks' ps rs v' vp vr:=by
 have hs:zDr h v':=(OwnN.since' (.inr o));have u1:=u.upB;have u2:=u2.upB;have o1:=OffV.fresh hs F.own.within;have o2:=OffV.fresh hs F.q.within;have o3:=OffV.fresh hs F.r.within;have ob:OwnN hB h' v' ks':= .inr (let ⟨g,a,b⟩:=o;⟨g,Nat.le_trans hn a,b⟩);exact⟨oc,ob.upB u2 o1.symm,(F.q.upB zBj u1 F.kp).upB zBj u2 F.op,(F.r.upB u1 F.kr).upB u2 F.or,o2,o3,F.pr,o1.symm,F.op,F.or,⟨SlC.shape ob.sl,F.s.2⟩⟩
theorem FO.putP {ps':List (Int×Int)} (F:FO hB h p vt vf f ks ps rs vk vp vr) (u:UpB vp h h') (hs:zDr h v') (hsl:∃ a n k,v'= .slice a n k) (o:OwnR 2 RPl hB.n h' v' ps') (oc:OwnC hB h2 p [vt,vf,I f,vk,v',vr]) (u2:UpdC p h' h2):FO hB h2 p vt vf f ks ps' rs vk v' vr:=by
 have u2:=u2.upB;have o1:=OffV.fresh hs F.own.within;have o2:=OffV.fresh hs F.k.within;have o3:=OffV.fresh hs F.r.within;exact⟨oc,(F.k.upB u F.kp.symm).upB u2 F.ok,o.upB zBj u2 o1.symm,(F.r.upB u F.pr).upB u2 F.or,o2.symm,F.kr,o3,F.ok,o1.symm,F.or,⟨F.s.1,hsl,F.s.2.2⟩⟩
end
theorem zNt {α:Type} {n i:Nat} {a d:α} (h:i<n):(List.replicate n a).getD i d=a:=by
 rw[List.getD_eq_getElem?_getD,List.getElem?_replicate,if_pos h];rfl
theorem zOO {h:AHeap} {b g k:Nat} {x y:Int} (h1:b≤g) (h2:g<h.n) (hg:h.get g=some (.row (zZ [I x,I y] k) true 0)):OwnR 2 RPl b h (.slice (some ⟨g,0,none⟩) k 2) (List.replicate k (x,y)):=by
 refine .inr ⟨g,zZ [I x,I y] k,fun _=>False,h1,h2,by rw[List.length_replicate],hg,by rw[zt,List.length_replicate];rfl,id,fun _ h=>h.elim,fun i a ha hx _ _=> ?_⟩;rw[List.getElem?_replicate]at ha;split at ha;case isFalse=>cases ha
 rename_i hi;cases ha;show _=_;have h3:List.drop (i * 2) (zZ [I x,I y] k)=zZ [I x,I y] (k - i):=zAm (z:=[I x,I y]);rw[h3,show k - i=(k - i - 1)+1 by omega];rfl
theorem zCd {L:List LBlk} (h:∀ b∈L,b.ins.length≤1000):∀ n,n≤L.length→(yW L n).length≤1000 * n
 |0,_=>Nat.zero_le _
 |n+1,hn=>by
  have:=zCd h n (by omega);have h2:=h _ (zH (l:=L) (i:=n) (by omega));show (yW L n++_).length≤_;rw[List.length_append,List.length_map,List.length_range];omega
theorem zDp {L:List LBlk} (h:∀ b∈L,b.ins.length≤1000):∀ n,n≤L.length→(ZM (L.take n)).length≤1000 * n
 |0,_=>by simp[ZM]
 |n+1,hn=>by
  have:=zDp h n (by omega);have h2:=h _ (zH (l:=L) (i:=n) (by omega));rw[zAS (by omega),List.length_append,List.length_map];omega
theorem zHU {α:Type} [Inhabited α] {l:List α} {n:Nat} (h:n<l.length):l.take (n+1)=l.take n++[l.getD n default]:=by
 rw[List.take_add_one,List.getElem?_eq_getElem h,List.getD_eq_getElem?_getD,List.getElem?_eq_getElem h];rfl
def zSZ:ACode:=(oV (oR [oZ 2]) (oV (oR [oM 3 0,o1 4 43 3,⟨some 5,none,(.part false 5 1 (.tmp 4))⟩,oM 2 5]) .ret))
theorem zGn (h:AHeap) (op:Int) (tt:Tbl h) (h0:0≤op) (h1:op≤255):WC Tryz.prog tb 18 [.int .u8 op] h fun r h'=>r= .bool (zU op).2.2.2.2.2∧Ext h h':=by
 refine en 6 [(2,none)] zSZ ?_;refine WO.con (zLb h op tt h0 h1) ?_;rintro _ h2 ⟨rfl,e2⟩;refine gr ?_;exact⟨rfl,e2⟩
def zLY:ACode:=(oV (oR [oB .lss 63 62 61]) (oV (oT 63 2) (oV (o5 3 (oV (oR [oM 64 62,oI 7 65 60 62,oA 7 66 65,⟨some 9,none,(.alloc [(.int .u8 0),(.int .i64 0),(.int .i64 0),(.int .i64 0),(.int .i64 0),(.slice none 0 0),(.slice none 0 0)])⟩,oM 8 64,oS 7 9 66]) (oV (oR [oM 67 5,oM 68 5,⟨some 69,none,(.nilCheck (.tmp 68))⟩,oF 4 70 69,oL 71 70,oM 72 6,oM 73 8,⟨some 74,none,(.build [(.int .i64 0),(.int .i64 0)] [(0,1,(.tmp 72)),(1,1,(.tmp 73))])⟩,⟨some 75,none,(.buildSlice 1 2 [(.int .i64 0),(.int .i64 0)] [(0,2,(.tmp 74))])⟩,oY 2 76 71 75,⟨some 77,none,(.nilCheck (.tmp 67))⟩,oF 4 78 77,oS 1 78 76]) (oV (oR [oN 10 (-1)]) (oV (oV (oR [oF 0 79 9,oL 80 79,o1 81 18 80]) (oJ 81 (oR [oF 1 82 9,oL 83 82,oM 10 83]) .skip)) (oR [oM 84 5,oM 85 5,⟨some 86,none,(.nilCheck (.tmp 85))⟩,oF 3 87 86,oL 88 87,oM 89 10,⟨some 90,none,(.buildSlice 1 1 [(.int .i64 0)] [(0,1,(.tmp 89))])⟩,oY 1 91 88 90,⟨some 92,none,(.nilCheck (.tmp 84))⟩,oF 3 93 92,oS 1 93 91])))))) (oR [oC .add 94 62 1,oM 62 94]))))
def zNa:ACode:=(oV (oR [oB .lss 55 54 53]) (oV (oT 55 0) (oV (o5 1 (oV (oR [oM 56 54,oI 5 57 52 54,oA 5 58 57,⟨some 7,none,(.alloc [(.slice none 0 0),(.int .u8 0),(.int .i64 0),(.int .i64 0),(.int .i64 0)])⟩,oM 6 56,oS 5 7 58]) (oV (oR [oF 0 59 7,oL 60 59,oQ 61 60,oN 62 0]) (o5 2 (.loop zLY))))) (oR [oC .add 95 54 1,oM 54 95]))))
def zRD:ACode:=(oV (oR [oX 2 0,oK 4 (.pointer none)]) (oV (o6 [oA 2 11 2,oM 12 1,oF 0 13 2,oL 14 13,oF 1 15 2,oL 16 15,oM 17 1,oI 2 18 16 17,oF 0 19 18,oL 20 19,oI 4 21 14 20,oF 3 22 21,oL 23 22,(o1 24 55 23,[0]),(⟨some 25,none,(.build [(.slice none 0 0),(.slice none 0 0),(.int .i64 0),(.slice none 0 0),(.slice none 0 0),(.slice none 0 0)] [(0,2,(.tmp 11)),(2,1,(.tmp 12)),(3,1,(.tmp 24))])⟩,[]),oX 26 25,oM 5 26]) (oV (oR [oM 28 5,oA 2 29 2,oM 30 1,o2 31 56 29 30,oM 27 31,oE 32 27 0,oE 33 27 1,⟨some 34,none,(.nilCheck (.tmp 28))⟩,oF 5 35 34,oS 1 35 32]) (oV (oR [oM 36 5,⟨some 37,none,(.build [(.int .i64 0),(.int .i64 0)] [(0,1,(.const (.int .i64 (-1)))),(1,1,(.const (.int .i64 (-1))))])⟩,⟨some 38,none,(.buildSlice 1 2 [(.int .i64 0),(.int .i64 0)] [(0,2,(.tmp 37))])⟩,oM 39 5,⟨some 40,none,(.nilCheck (.tmp 39))⟩,oF 3 41 40,oL 42 41,oQ 43 42,o2 44 57 38 43,⟨some 45,none,(.nilCheck (.tmp 36))⟩,oF 4 46 45,oS 1 46 44]) (oV (oV (oR [oF 1 47 2,oL 48 47,oM 49 1,oI 2 50 48 49,oF 1 51 50,oL 52 51,oQ 53 52,oN 54 0]) (o5 0 (.loop zNa))) (oV (oR [oM 96 5,oM 4 96]) .ret))))))
theorem zIk (h:AHeap) (vt vf:Value) (T:List LType) (F:List LFn) (f:Int) (E:Env h vt vf T F) (ha:Zp T F f 0=0) (hf:0≤f∧f<(F.length:Int)) (hsig:0≤(F.getD f.toNat default).sig∧(F.getD f.toNat default).sig<(T.length:Int)) (hL:(F.getD f.toNat default).blocks.length≤16):
  WC Tryz.prog tb 27 [.agg #[vt,vf],I f] h fun r h'=>(∃ g xs,r= .pointer (some ⟨g,0,none⟩)∧Rul (nxF T F f) xs∧
   FnM h' g vt vf T F f (zDm (T.getD (F.getD f.toNat default).sig.toNat default).parts (F.getD f.toNat default).blocks) (zC9 (T.getD (F.getD f.toNat default).sig.toNat default).parts.length (F.getD f.toNat default).blocks) (Zr xs (F.getD f.toNat default).blocks.length))∧Ext h h':=by
 have hI:=E.sm.ins _ (zH (l:=F) (i:=f.toNat) (by omega));have hP:=E.sm.parts _ (zH (l:=T) (i:=(F.getD f.toNat default).sig.toNat) (by omega));have hI:=Hid.mk hI;refine en 97 [(4,none)] zRD ?_;refine WO.bx ?_;intro p0 h1 e1 o1;have E1:=E.ext e1;refine go ?_;refine WX.regionU2 1 rfl rfl ?_;have ea:=zI 1 h1;have o1X:=OwnC.ia (o1.ext ea);obtain⟨cs,⟨vb,rfl,sb,hlb⟩,pc,hsl⟩:=zo (i:=f.toNat) E1.sf (by omega);have pc1:=(pc _ ea).2;obtain⟨cst,⟨vat,rfl,sat,hlat⟩,pct,hslt⟩:=zo (i:=(F.getD f.toNat default).sig.toNat) E1.st (by omega);have pct1:=(pct _ ea).2;have satX:=SlI.ia (sat.ext ea);have stX0:=SlT.ext E1.st ea;have stX:SlT (inC (zC 1 h1)) vt T:=stX0;have sfX0:=SlF.ext E1.sf ea;have sfX:SlF (inC (zC 1 h1)) vf F:=sfX0;refine goU ?_;refine WO.con (zNC _ vat _ satX (by omega)) ?_;rintro vk X2 ⟨ok,e2⟩;obtain⟨k1,k2,k3,rfl⟩:=SlC.shape ok.sl;have hlt:h1.n<X2.n:=e2.n;refine nE e2 ?_;refine goU ?_;refine WU2.mkBx E1.hm ?_;intro X3 n3 g3;have e3:=zC7 ((zI 1 h1).trans (zb (h:=h1) e2)) n3 g3 (Nat.le_refl _) hlt;have o5:OwnC h1 (outC h1 (inC X3)) (.pointer (some ⟨h1.n,0,none⟩)) [vt,vf,I f,(.slice k1 k2 k3),.slice none 0 0,.slice none 0 0]:=⟨h1.n,Nat.le_refl _,by show h1.n<X3.n;omega,rfl,by show X3.get _=_;rw[g3,if_pos rfl];rfl⟩;have ok5:OwnN h1 (outC h1 (inC X3)) (.slice k1 k2 k3) (T.getD (F.getD f.toNat default).sig.toNat default).parts:=by
  rcases ok with ok|⟨g,g1,g2,g4,g5⟩
  ·exact .inl ok
  ·have g1:h1.n+1≤g:=g1;exact .inr ⟨g,by omega,by show g<X3.n;omega,g4,by show X3.get g=_;rw[g3,if_neg (by omega)];exact g5⟩
 have f5:OffV (.pointer (some ⟨h1.n,0,none⟩)) (.slice k1 k2 k3):=fun b hb hk=>by
  cases hb;have:=OwnN.since' ok _ hk;have:h1.n+1≤h1.n:=this;omega
 refine goU ?_;have e4:Ext h1 (outC h1 (inC X3)):=e3;generalize outC h1 (inC X3)=h4 at *;clear g3 n3 e3 e2 ok hlt X2;have E4:=E1.ext e4;have e04:=e1.trans e4;have o14:=o1.ext e4;refine go ?_;refine WO.con (zOB h4 vt vf T F f E4) ?_;rintro _ h5 ⟨⟨vr,rs,rfl,orr,hlr,hrs,_⟩,e5⟩;obtain⟨r1,r2,r3,rfl⟩:=SlC.shape orr.sl;obtain⟨xs,hRul,rfl⟩:=hrs ha;have o55:=o5.ext e5;have e45:=e4.trans e5;rw[ha];refine go ?_;refine WO.stC (cs:=[.slice r1 r2 r3]) (j:=5) (hl:=by simp) o55 e45 ?_;intro h6 e6 o6 u6;replace o6:OwnC h1 h6 (.pointer (some ⟨h1.n,0,none⟩)) [vt,vf,I f,.slice k1 k2 k3,.slice none 0 0,.slice r1 r2 r3]:=o6;have fr:=OffV.fresh (OwnN.since' orr) o5.within;have ok6:=(ok5.ext e5).upB u6.upB f5;have or6:=orr.upB u6.upB fr.symm;have fkr:=(OffV.fresh (OwnN.since' orr) ok5.within).symm;refine go ?_;refine WO.bl1 (cs:=[I (-1),I (-1)]) ?_;intro h7 e7 n7 s7 _;have ok7:=ok6.ext e7;have o7:=o6.ext e7;refine go ?_;refine WO.con (zHP h7 _ (-1) (-1) (T.getD (F.getD f.toNat default).sig.toNat default).parts.length s7 (zp (e6.trans e7) E1.hm) (by omega)) ?_;rintro _ h8 ⟨⟨gp,gp1,gp2,rfl,gp3⟩,e8⟩;have e68:=e7.trans e8;have e18:=e6.trans e68;have o8:=o6.ext e68;have n17:h1.n≤h7.n:=(e6.trans e7).n;have op8:=zOO (b:=h1.n) (by omega) gp2 gp3;have ok8:=ok6.ext e68;have or8:=or6.ext e68;have hsp:zDr h7 (.slice (some ⟨gp,0,none⟩) (T.getD (F.getD f.toNat default).sig.toNat default).parts.length 2):=fun b hb=>by cases hb;exact gp1
 have fp1:=OffV.fresh hsp (o6.ext e7).within;have fp2:=OffV.fresh hsp (ok6.ext e7).within;have fp3:=OffV.fresh hsp (or6.ext e7).within;refine go ?_;refine WO.stC (cs:=[.slice (some ⟨gp,0,none⟩) (T.getD (F.getD f.toNat default).sig.toNat default).parts.length 2]) (j:=4) (hl:=by simp) o8 e18 ?_;intro h9 e9 o9 u9;have n4:h1.n≤h4.n:=e4.n;have FO9:FO h1 h9 (.pointer (some ⟨h1.n,0,none⟩)) vt vf f (T.getD (F.getD f.toNat default).sig.toNat default).parts (List.replicate (T.getD (F.getD f.toNat default).sig.toNat default).parts.length (-1,-1)) (Zr xs (F.getD f.toNat default).blocks.length) (.slice k1 k2 k3) (.slice (some ⟨gp,0,none⟩) (T.getD (F.getD f.toNat default).sig.toNat default).parts.length 2) (.slice r1 r2 r3):=
  ⟨o9,ok8.upB u9.upB f5,op8.upB zBj u9.upB fp1.symm,(or8.since e4).upB u9.upB fr.symm,fp2.symm,fkr,fp3,f5,fp1.symm,fr.symm,⟨⟨_,_,_,rfl⟩,⟨_,_,_,rfl⟩,⟨_,_,_,rfl⟩⟩⟩
 have o19:=o1.ext e9;have pc9:=(pc _ e9).1;have sb9:=SlB.ext sb e9;have sf9:=SlF.ext E1.sf e9;clear o9 u9 o8 op8 ok8 or8 fp1 fp2 fp3 hsp gp3 gp1 gp2 o7 ok7 s7 o6 ok6 or6 u6 o55 orr ok5 o5 E4 o14 fr fkr f5 pc1 pct1 satX stX sfX stX0 sfX0 o1X ea pct hslt sat;have hI2:=hI.out;generalize hLd:(F.getD f.toNat default).blocks=L at *;generalize hpd:(T.getD (F.getD f.toNat default).sig.toNat default).parts=par at *;refine go ?_;refine WX.loopA [55,56,57,58,7,6,59,60,61,62,63,64,65,66,9,8,67,68,69,70,71,72,73,74,75,76,77,78,10,79,80,81,82,83,10,84,85,86,87,88,89,90,91,92,93,94,62,95,54] (by kernel_rfl) (fun i=>L.length - i) (fun i t h'=>Ext h1 h'∧zB t 54=I i∧i≤L.length∧∃ vk vp,FO h1 h' (.pointer (some ⟨h1.n,0,none⟩)) vt vf f (par++ZM (L.take i)) (List.replicate par.length (-1,-1)++yW L i) (Zr xs L.length) vk vp (.slice r1 r2 r3)) 0 ?_ ?_
 ·exact⟨e9,sl_,Nat.zero_le _,_,_,by simpa [ZM,yW]using FO9⟩
 rintro i t h10 hsame ⟨e10,s54,hi,vk,vp,G10⟩;refine go ?_;refine WX.br (fun hb=> ?_) (fun hb=> ?_)<;>simp only[DB]at hb;rotate_left 1
 ·have hii:i=L.length:=by omega
  subst hii;rw[List.take_length]at G10;refine gr ?_;exact⟨⟨h1.n,xs,rfl,hRul,⟨h1,_,_,_,G10.own,G10.k.sl,G10.q.sl,G10.r.sl⟩,SlT.ext E1.st e10,SlF.ext E1.sf e10,zp e10 E1.hm⟩,e1.trans e10⟩
 have hi':i<L.length:=by omega
 obtain⟨csb,⟨vi,rfl,si,hli⟩,pcb,hsb⟩:=zo (i:=i) sb (by omega);have pcb10:=(pcb _ e10).1;have sb10:=SlB.ext sb e10;have hil:=hI2 _ (zH hi');have hkl:=zDp hI2 i (by omega);have hpl:=zCd hI2 i (by omega);generalize hBd:L.getD i default=B at *;obtain⟨ia,iN,ik,rfl⟩:=zF si;refine go ?_;refine WO.al ?_;intro p7 h11 e11 o7;refine go ?_;refine WO.stC0 (cs:=[.slice ia iN ik,.int .u8 B.fin.kind,I B.fin.a,I B.fin.to,I B.fin.els]) o7 e11 ?_;intro h12 e12 o7 u7;have e1_12:=e10.trans e12;have si12:=SlN.ext si e1_12;refine go ?_;refine WX.loopA [63,64,65,66,9,8,67,68,69,70,71,72,73,74,75,76,77,78,10,79,80,81,82,83,10,84,85,86,87,88,89,90,91,92,93,94,62] (by kernel_rfl) (fun j=>B.ins.length - j) (fun j t h'=>Ext h1 h'∧zB t 62=I j∧j≤B.ins.length∧∃ vk vp,FO h1 h' (.pointer (some ⟨h1.n,0,none⟩)) vt vf f (par++ZM (L.take i)++(B.ins.take j).map YQ) (List.replicate par.length (-1,-1)++yW L i++(List.range j).map fun (a:Nat)=>((i:Int),(a:Int))) (Zr xs L.length) vk vp (.slice r1 r2 r3)) 0 ?_ ?_
 ·exact⟨e1_12,sl_,Nat.zero_le _,_,_,by simpa using G10.ext e12⟩
 rintro j t h13 hsame2 ⟨e13,s62,hj,vk,vp,G13⟩;refine go ?_;refine WX.br (fun hb=> ?_) (fun hb=> ?_)<;>simp only[DB]at hb;rotate_left 1
 ·have hjj:j=B.ins.length:=by omega
  subst hjj;refine go ?_;refine zA (i+1) (by omega) ⟨e13,sln,by omega,vk,vp,?_⟩;rw[zAS hi',hBd,show yW L (i+1)=yW L i++(List.range B.ins.length).map fun (a:Nat)=>((i:Int),(a:Int)) by rw[←hBd];rfl];rw[List.take_length,List.append_assoc,List.append_assoc]at G13;exact G13
 have hj':j<B.ins.length:=by omega
 obtain⟨csx,hR,pcx,hsx⟩:=zo (i:=j) si (by omega);have pcx13:=(pcx _ e13).1;have si13:=SlN.ext si e13;have hsucc:(B.ins.take (j+1)).map YQ=(B.ins.take j).map YQ++[YQ (B.ins.getD j default)]:=by rw[zHU hj',List.map_append];rfl
 generalize hxd:B.ins.getD j default=x at *;obtain⟨xa,xf,rfl,sxa,sxf,hla,hlf,ho⟩:=id hR;obtain⟨xa1,xa2,xa3,rfl⟩:=SlC.shape sxa;obtain⟨xf1,xf2,xf3,rfl⟩:=SlC.shape sxf;refine go ?_;refine WO.al ?_;intro p9 h14 e14 o9;refine go ?_;refine WO.stC0 (cs:=[.int .u8 x.op,I x.ty,I x.a,I x.b,I x.n,.slice xa1 xa2 xa3,.slice xf1 xf2 xf3]) o9 e14 ?_;intro h15 e15 o9 u9;have G15:=G13.ext e15;have e1_15:=e13.trans e15;have own15:=G15.own;refine go ?_;refine WO.apRF (a:=((i:Int),(j:Int))) (Dn:=fun _=>False) G15.q e1_15 (Nat.le_refl _) e1_15.n (by decide) (by simp only[List.length_append,List.length_replicate,List.length_map,List.length_range];omega) (fun hx _ _=>rfl) (fun _ h=>h.elim) (fun _ _ _ _ h=>h) ?_;intro v8 h16 lit e16 op16 n16 k16 fr16;have hs16:zDr h15 v8:=fun b hb=>by obtain⟨n,k,g,rfl,hg⟩:=fr16;cases hb;exact hg
 have sh16:∃ a n k,v8= .slice a n k:=let ⟨n,k,g,e,_⟩:=fr16;⟨_,n,k,e⟩;have uB16:=zOC n16 k16;have own16:=own15.upB uB16 G15.op.symm;have o9_16:=o9.upB uB16 (OffV.fresh o9.since' G13.q.within).symm;obtain⟨w1,w2,w3,rfl⟩:=sh16;refine go ?_;refine WO.stC (cs:=[.slice w1 w2 w3]) (j:=4) (hl:=by simp) own16 e16 ?_;intro h17 e17 own17 u17;replace own17:OwnC h1 h17 (.pointer (some ⟨h1.n,0,none⟩)) [vt,vf,I f,vk,.slice w1 w2 w3,.slice r1 r2 r3]:=own17;have G17:=G15.putP uB16 hs16 ⟨_,_,_,rfl⟩ op16 own17 u17;have o9_17:=o9_16.upB u17.upB (OffV.fresh o9.since' G13.own.within).symm;refine go ?_;refine WO.con (zGn h17 x.op (E1.ext e17).tt ho.1 ho.2) ?_;rintro _ h18 ⟨rfl,e18⟩;have G18:=G17.ext e18;have own18:=G18.own;have o9_18:=o9_17.ext e18;have e1_18:=e17.trans e18;have hk:YQ x=if (zU x.op).2.2.2.2.2 then x.ty else -1:=rfl;have ok18:=G18.k;obtain⟨⟨q1,q2,q3,rfl⟩,_⟩:=G18.s;cases hb2:(zU x.op).2.2.2.2.2 with
 |true=>
  have hk1:YQ x=x.ty:=by rw[hk,hb2];rfl
  refine go ?_;refine WO.bl [x.ty] ?_;intro v19 h19 e19 ol19;refine go ?_;refine WO.apF (ok18.ext e19) ol19.sl (e1_18.trans e19) (by simp) (by simp only[List.length_append,List.length_map,List.length_take,List.length_singleton];omega) ?_;intro v20 h20 e20 oi20 u20;have own20:=(own18.ext e19).upB u20.upB G18.ok.symm;obtain⟨y1,y2,y3,rfl⟩:=SlC.shape oi20.sl;refine go ?_;refine WO.stC (cs:=[.slice y1 y2 y3]) (j:=3) (hl:=by simp) own20 e20 ?_;intro h21 e21 own21 u21;replace own21:OwnC h1 h21 (.pointer (some ⟨h1.n,0,none⟩)) [vt,vf,I f,.slice y1 y2 y3,.slice w1 w2 w3,.slice r1 r2 r3]:=own21;have G21:=(G18.ext e19).putK u20 (e1_18.trans e19).n oi20 own21 u21;refine go ?_;refine zA (j+1) (by omega) ⟨e21,sln,by omega,.slice y1 y2 y3,.slice w1 w2 w3,?_⟩;rw[hsucc,hk1,List.range_succ,List.map_append,←List.append_assoc,←List.append_assoc];exact G21
 |false=>
  have hk1:YQ x= -1:=by rw[hk,hb2];rfl
  refine go ?_;refine WO.bl [-1] ?_;intro v19 h19 e19 ol19;refine go ?_;refine WO.apF (ok18.ext e19) ol19.sl (e1_18.trans e19) (by simp) (by simp only[List.length_append,List.length_map,List.length_take,List.length_singleton];omega) ?_;intro v20 h20 e20 oi20 u20;have own20:=(own18.ext e19).upB u20.upB G18.ok.symm;obtain⟨y1,y2,y3,rfl⟩:=SlC.shape oi20.sl;refine go ?_;refine WO.stC (cs:=[.slice y1 y2 y3]) (j:=3) (hl:=by simp) own20 e20 ?_;intro h21 e21 own21 u21;replace own21:OwnC h1 h21 (.pointer (some ⟨h1.n,0,none⟩)) [vt,vf,I f,.slice y1 y2 y3,.slice w1 w2 w3,.slice r1 r2 r3]:=own21;have G21:=(G18.ext e19).putK u20 (e1_18.trans e19).n oi20 own21 u21;refine go ?_;refine zA (j+1) (by omega) ⟨e21,sln,by omega,.slice y1 y2 y3,.slice w1 w2 w3,?_⟩;rw[hsucc,hk1,List.range_succ,List.map_append,←List.append_assoc,←List.append_assoc];exact G21
theorem zDP {O:List Int} {n:Nat} (h:O.Nodup) (hr:∀ c∈O,0≤c∧c<(n:Int)):O.length≤n:=by
 have hs:O ⊆ (List.range n).map fun (i:Nat)=>(i:Int):=fun c hc=>by
  have:=hr c hc;exact List.mem_map.2 ⟨c.toNat,List.mem_range.2 (by omega),by omega⟩
 have:=h.length_le_of_subset hs;simpa using this
theorem zKx (n:Nat):((List.range n).map fun (i:Nat)=>(i:Int)).Nodup:=by
 exact List.Pairwise.map (R:=(·≠·)) (S:=(·≠·)) (fun (i:Nat)=>(i:Int)) (fun a b hne (e:(a:Int)=b)=>hne (by omega)) List.nodup_range
theorem zEw {T:List LType} {F:List LFn} {f:Int} (h:(zD T F f 0).2=0):(yK T F f).1.length=(zD T F f 0).1.length↔∀ c,0≤c→c<((zD T F f 0).1.length:Int)→Way (nxL (zD T F f 0).1) 0 c:=by
 obtain⟨h1,_,_,h4,_,h6,_⟩:=Yq h;have hnd:=zCn h;have hle:=zDP hnd h6;rw[←h1];constructor
 ·intro he c c0 c1;refine(ZH h).1 (Classical.byContradiction fun hc=> ?_);have hco:c∉(zX T F f).1:=fun hm=>hc (by
   unfold zX at hm;unfold yK;rw[if_neg (fun e=>e h)]at hm ⊢;exact zCO.2 (List.mem_reverse.1 hm))
  have:=zDP (O:=c::(zX T F f).1) (n:=(zD T F f 0).1.length) (List.nodup_cons.2 ⟨hco,hnd⟩) (fun d hd=>by
   rcases List.mem_cons.1 hd with rfl|hd
   ·exact⟨c0,c1⟩
   ·exact h6 d hd)
  rw[List.length_cons]at this;omega
 ·intro hw;have hs:((List.range (zD T F f 0).1.length).map fun (i:Nat)=>(i:Int)) ⊆ (zX T F f).1:=fun c hc=>by
   obtain⟨i,hi,rfl⟩:=List.mem_map.1 hc;exact h4 _ ((ZH h).2 (hw _ (by omega) (by have:=List.mem_range.1 hi;omega)))
  have:=(zKx _).length_le_of_subset hs;simp at this;omega
def zJ (F:List LFn) (f:Int):List LBlk:=(F.getD f.toNat default).blocks
def yB (T:List LType) (F:List LFn) (f:Int):LType:=T.getD (F.getD f.toNat default).sig.toNat default
def ksF (T:List LType) (F:List LFn) (f:Int):List Int:=zDm (yB T F f).parts (zJ F f)
def psF (T:List LType) (F:List LFn) (f:Int):List (Int×Int):=zC9 (yB T F f).parts.length (zJ F f)
theorem zN0 {T:List LType} {t:Int} (h:InT T t):zA9 T t=true↔PlT T t:=by
 unfold zA9 isT PlT;rcases h with rfl|⟨h0,h1⟩
 ·simp
 ·have:t≠ -1:=by omega
  simp[this,h0,h1,or_assoc]
def zCs (T:List LType) (F:List LFn) (f b:Int):Prop:=
 (∀ i,i<((zJ F f).getD b.toNat default).ins.length→YE T F (ksF T F f) (psF T F f) (nxL (zJ F f)) (zJ F f) (zP (zJ F f) b (zJ F f).length) b i)∧Zq T F f (ksF T F f) (psF T F f) (nxL (zJ F f)) (zJ F f) b
def zGx (T:List LType) (F:List LFn) (f:Int):Prop:=
 (∀ c,0≤c→c<((zJ F f).length:Int)→Way (nxL (zJ F f)) 0 c)∧(f=0→(yB T F f).parts=[]∧isT T 1 (yB T F f).elem=true)∧∀ b,0≤b→b<((zJ F f).length:Int)→zCs T F f b
def WfP (T:List LType) (F:List LFn):Prop:=∀ f,0≤f→f<(F.length:Int)→zGx T F f
theorem zCL (L:List LBlk):∀ n,n≤L.length→(ZM (L.take n)).length=(yW L n).length
 |0,_=>by simp[ZM,yW]
 |n+1,hn=>by
  rw[zAS (by omega),List.length_append,zCL L n (by omega)];show _=(yW L n++_).length;rw[List.length_append,List.length_map,List.length_map,List.length_range]
theorem zDi (L:List LBlk):((ZM L).length:Int)=zW L:=by
 unfold ZM zW;induction L with
 |nil=>rfl
 |cons b L ih=>rw[List.flatMap_cons,List.length_append,List.map_cons,List.sum_cons,List.length_map,←ih];omega
theorem zE9 {L:List LBlk}:∀ n,∀ p∈yW L n,(0≤p.1∧p.1<(n:Int))∧0≤p.2∧p.2<((L.getD p.1.toNat default).ins.length:Int)
 |0,p,hp=>by cases hp
 |n+1,p,hp=>by
  have hp:p∈yW L n++(List.range (L.getD n default).ins.length).map fun (i:Nat)=>((n:Int),(i:Int)):=hp;rcases List.mem_append.1 hp with hp|hp
  ·have:=zE9 n p hp;omega
  ·obtain⟨i,hi,rfl⟩:=List.mem_map.1 hp;have:=List.mem_range.1 hi;exact⟨⟨by show (0:Int)≤(n:Int);omega,by show (n:Int)<_;omega⟩,by show (0:Int)≤(i:Int);omega,by show (i:Int)<((L.getD (n:Int).toNat default).ins.length:Int);rw[Int.toNat_natCast];omega⟩
structure FnIn (T:List LType) (F:List LFn) (f:Int):Prop where
 hf:0≤f∧f<(F.length:Int)
 hc:yb T=0
 bl:∀ b,0≤b→b<((zJ F f).length:Int)→zD T F f b=(zJ F f,0)
 n1:1≤(zJ F f).length
 n16:(zJ F f).length≤16
 many:zW (zJ F f)≤128
 sig:0≤(F.getD f.toNat default).sig∧(F.getD f.toNat default).sig<(T.length:Int)
 sigF:∀ g∈F,InT T g.sig
 ks:∀ t∈ksF T F f,InT T t
 par:∀ t∈(yB T F f).parts,PlT T t
 el:PlT T (yB T F f).elem
 par4:(yB T F f).parts.length≤4
 len:(ksF T F f).length=(psF T F f).length
 reg:((ksF T F f).length:Int)=zAc ((yB T F f).parts.length:Int) (zJ F f)
 U:∀ B∈zJ F f,BlkU B (ksF T F f).length (zJ F f).length
 V:∀ B∈zJ F f,∀ x∈B.ins,InsT T F x
 pl:∀ i,i<(psF T F f).length→((psF T F f).getD i default).1= -1∨0≤((psF T F f).getD i default).1
 nx:∀ c,0≤c∧c<((zJ F f).length:Int)→∀ d∈nxL (zJ F f) c,0≤d∧d<((zJ F f).length:Int)
theorem zKe {T:List LType} {F:List LFn} {f:Int} (h:yX T F=0) (hf:0≤f∧f<(F.length:Int)):FnIn T F f:=by
 obtain⟨hc,hF1,hF8,hfn⟩:=Zj h;have hm:=zH (l:=F) (i:=f.toNat) (by omega);have hfn1:=hfn _ hm;have hlen:=zQr hfn1;have hsg:=zB9 hfn1;have hask:zc T F f=(((yB T F f).parts.length:Int),0):=by
  unfold zc;rw[if_neg (fun e=>e h),if_pos (by unfold zO;simp;omega)];rfl
 have hreg:(Yw T F f).2=0:=by unfold Yw;rw[hask];rfl
 have hbl:∀ b,0≤b→b<((zJ F f).length:Int)→zD T F f b=(zJ F f,0):=fun b b0 b1=>by
  unfold zD;rw[if_neg (fun e=>e hreg),if_neg (by unfold zJ at b1;omega)];rfl
 have hmay:=zFj hc hsg.1 hsg.2;have hk3:(yB T F f).kind=3:=by
  unfold fnL at hfn1;split at hfn1
  ·cases hfn1
  ·rename_i hb;unfold Ys at hb;simp only[Bool.or_eq_true,Bool.not_eq_true',decide_eq_true_iff,not_or,Bool.not_eq_false,decide_eq_false_iff_not,Decidable.not_not]at hb;exact hb.1.1.2
 have hfnT:zB6 T (yB T F f):=by
  have hk3':(T.getD (F.getD f.toNat default).sig.toNat default).kind=3:=hk3;rcases hmay with ⟨k,_⟩|⟨k,_⟩|⟨_,k⟩|⟨k,_⟩|⟨k,_⟩
  ·omega
  ·omega
  ·exact k
  ·omega
  ·omega
 have hV:∀ B∈zJ F f,∀ x∈B.ins,InsT T F x:=fun B hB x hx=>by
  refine zR8 (f:=F.getD f.toNat default) (by omega) ?_;have h0:fnL T F.length (F.getD f.toNat default)=true:=hfn1;unfold fnL at h0;split at h0
  ·cases h0
  ·have h0:((F.getD f.toNat default).blocks.any fun b=>YC b (szL T F.length (F.getD f.toNat default)))=false:=by simpa using h0
   have hb:=List.any_eq_false.1 h0 B hB;have hb:YC B (szL T F.length (F.getD f.toNat default))=false:=by simpa using hb
   unfold YC at hb;rw[Bool.or_eq_false_iff]at hb;have:=List.any_eq_false.1 hb.1 x hx;simpa using this
 have hkm:((ksF T F f).length:Int)=zAc ((yB T F f).parts.length:Int) (zJ F f):=by
  unfold ksF zDm zAc;rw[List.length_append,←zDi];omega
 have hkl:(ksF T F f).length=(psF T F f).length:=by
  unfold ksF psF zDm zC9;rw[List.length_append,List.length_append,List.length_replicate,←zCL _ _ (Nat.le_refl _),List.take_length]
 refine⟨hf,hc,hbl,hlen.1,hlen.2.1,hlen.2.2,hsg,fun g hg=> .inr (zB9 (hfn g hg)),?_,hfnT.1,hfnT.2.1,hfnT.2.2.1,hkl,hkm,?_,hV,?_,?_⟩
 ·intro t ht;rcases List.mem_append.1 ht with ht|ht
  ·have:=hfnT.1 t ht;exact .inr ⟨this.1,this.2.1⟩
  ·obtain⟨B,hB,ht⟩:=List.mem_flatMap.1 ht;obtain⟨x,hx,rfl⟩:=List.mem_map.1 ht;unfold YQ;split
   ·exact(hV B hB x hx).ty
   ·exact .inl rfl
 ·intro B hB;rw[hkm];exact zSj hfn1 B hB
 ·intro i hi;have hp:=zH (l:=psF T F f) hi;rcases List.mem_append.1 hp with hp|hp
  ·rw[(List.mem_replicate.1 hp).2];exact .inl rfl
  ·exact .inr (zE9 _ _ hp).1.1
 ·intro c hcc d hd;have hU:=zSj hfn1 _ (zH (l:=zJ F f) (i:=c.toNat) (by omega));exact hU.next d hd
set_option maxRecDepth 100000
def zNg:ACode:=(oV (oR [oB .lss 69 68 67]) (oV (oT 69 0) (oV (o5 1 (oV (oR [oM 70 68,oM 9 70]) (oV (oR [oM 71 5,oM 72 9,o2 73 68 71 72,oM 10 73]) (oV (oR [oM 74 10,⟨some 75,none,(.isNil 4 true (.tmp 74))⟩]) (oJ 75 (oV (oR [oM 76 10,oM 4 76]) .ret) .skip))))) (oR [oC .add 77 68 1,oM 68 77]))))
def zQ6:ACode:=(oV (oR [oX 2 0,⟨some 4,none,(.mov (.const .nilIface))⟩]) (oV (oR [oA 2 11 2,oM 12 1,o2 13 27 11 12,oM 5 13]) (oV (oR [oA 2 15 2,oM 16 1,o2 17 66 15 16,oM 14 17,oE 18 14 0,oE 19 14 1,oM 6 18,oM 7 19]) (oV (oV (o6 [oF 0 20 2,oL 21 20,oF 1 22 2,oL 23 22,oM 24 1,oI 2 25 23 24,oF 0 26 25,oL 27 26,oI 4 28 21 27,oA 4 29 28,(⟨some 8,none,(.alloc [(.int .u8 0),(.int .i64 0),(.int .i64 0),(.slice none 0 0)])⟩,[]),oS 4 8 29]) (oV (oR [oM 30 6,oQ 31 30,oF 1 32 2,oL 33 32,oM 34 1,oI 2 35 33 34,oF 1 36 35,oL 37 36,oQ 38 37,oB .neq 39 31 38,oM 40 39,oH 40 (oM 41 1),oH 40 (oC .eql 42 41 0),oH 40 (oM 43 42),oG 43 (oF 3 44 8),oG 43 (oL 45 44),oG 43 (oQ 46 45),oG 43 (oC .gtr 47 46 0),oG 43 (oM 48 47),oH 48 (oM 49 5),oH 48 (oF 1 50 8),oH 48 (oL 51 50),⟨some 52,some (48,false),(.buildSlice 1 1 [(.int .i64 0)] [(0,1,(.tmp 51))])⟩,⟨some 53,some (48,false),(.call (.func 67) [(.tmp 49),(.const (.int .u8 1)),(.tmp 52)])⟩,oH 48 (oW 54 53),oG 43 (oO 55 48 54),oH 40 (oP 56 43 55),oO 57 40 56]) (oJ 57 (oV (oR [oM 58 1,⟨some 59,none,(.build [(.int .i64 0),(.int .i64 0),(.int .i64 0)] [(0,1,(.tmp 58)),(1,1,(.const (.int .i64 0))),(2,1,(.const (.int .i64 120)))])⟩,⟨some 60,none,(.mkIface 119 (.tmp 59))⟩,oM 4 60]) .ret) .skip))) (oV (oV (oR [oF 1 61 2,oL 62 61,oM 63 1,oI 2 64 62 63,oF 1 65 64,oL 66 65,oQ 67 66,oN 68 0]) (o5 0 (.loop zNg))) (oV (oR [⟨some 4,none,(.mov (.const .nilIface))⟩]) .ret))))))
theorem zFq (h:AHeap) (vt vf:Value) (T:List LType) (F:List LFn) (f:Int) (E:Env h vt vf T F) (hp:yX T F=0) (hf:0≤f∧f<(F.length:Int)):
  WC Tryz.prog tb 31 [.agg #[vt,vf],I f] h fun r h'=>(r= .nilIface∧zGx T F f∨(∃ b,r=Y2 f b)∧¬zGx T F f)∧Ext h h':=by
 have Z:=zKe hp hf;have hb0:=Z.bl 0 (Int.le_refl 0) (by have:=Z.n1;omega);have hbe:(zD T F f 0).2=0:=by rw[hb0]
 have ha:Zp T F f 0=0:=by
  unfold Zp;rw[if_neg (fun e=>e hbe),if_neg (by rw[hb0];have:=Z.n1;show ¬(_∨((zJ F f).length:Int)≤0);omega),if_pos ((ZH hbe).2 (by rw[hb0];exact Way.here))]
 have hra:=zEw hbe;have hre:(yK T F f).2=0:=by rw[zE1];exact hbe
 have hn16:=Z.n16;have hn1:=Z.n1;have hsg:=Z.sig;have hpar:=Z.par4;have hnx:nxF T F f=nxL (zJ F f):=by unfold nxF;rw[hb0]
 rw[hb0]at hra;replace hra:(yK T F f).1.length=(zJ F f).length↔∀ c,0≤c→c<((zJ F f).length:Int)→Way (nxL (zJ F f)) 0 c:=hra;refine en 78 [(4,none)] zQ6 ?_;refine WO.bx ?_;intro p2 h1 e1 o1;replace o1:OwnC h h1 p2 [vt,vf]:=o1;have E1:=E.ext e1;refine go ?_;refine WO.con (zIk h1 vt vf T F f E1 ha hf Z.sig hn16) ?_;rintro _ h2 ⟨⟨g,xs,rfl,hR,M⟩,e2⟩;rw[hnx]at hR;have E2:=E1.ext e2;have o2:=o1.ext e2;refine go ?_;refine WO.con (zGW h2 vt vf T F f E2.tt E2.hm E2.sm E2.st E2.sf) ?_;rintro _ h3 ⟨⟨vr,rfl,orr⟩,e3⟩;rw[hre];have E3:=E2.ext e3;have o3:=o2.ext e3;have M3:=M.ext e3;refine go ?_;refine WX.regionU2 1 rfl rfl ?_;have ea:=zI 1 h3;have o3X:=OwnC.ia (o3.ext ea);obtain⟨cs,⟨vb,rfl,sb,hlb⟩,pc,hsl⟩:=zo (i:=f.toNat) E3.sf (by omega);have pc1:=(pc _ ea).2;obtain⟨cst,⟨vat,rfl,sat,hlat⟩,pct,hslt⟩:=zo (i:=(F.getD f.toNat default).sig.toNat) E3.st (by omega);have pct1:=(pct _ ea).2;have stX0:=SlT.ext E3.st ea;have stX:SlT (inC (zC 1 h3)) vt T:=stX0;have sfX0:=SlF.ext E3.sf ea;have sfX:SlF (inC (zC 1 h3)) vf F:=sfX0;obtain⟨va1,va2,va3,rfl⟩:=SlC.shape sat;refine goU ?_;refine WU2.alE (X:=inC (zC 1 h3)) (cs:=[.int .u8 (yB T F f).kind,I (yB T F f).elem,I (yB T F f).many,.slice va1 va2 va3]) (Ext.refl _) E3.hm ?_;intro h4 p8 e4 o8;have E4:=E3.ext e4;have o4:=o3.ext e4;have M4:=M3.ext e4;have or4:=orr.ext e4;have pc4:=(pc _ e4).1;have sb4:=SlB.ext sb e4;have sf4:=E4.sf;have sat4:=SlI.ext sat e4;have st4:=E4.st;have e04:=e1.trans (e2.trans (e3.trans e4));have bad:∀ (b:Int) {h'},¬zGx T F f→Ext h h'→(Y2 f b= .nilIface∧zGx T F f∨(∃ b',Y2 f b=Y2 f b')∧¬zGx T F f)∧Ext h h':=fun b h' hn e=>⟨.inr ⟨⟨b,rfl⟩,hn⟩,e⟩;have bad:=Hid.mk @bad;clear stX0 sfX0 stX sfX o3X pc1 pct1 ea pct sat hslt;have hLb:(F.getD f.toNat default).blocks=zJ F f:=rfl;rw[hLb]at sb4;have hgo:(f=0→(yB T F f).parts=[]∧isT T 1 (yB T F f).elem=true)∨¬(f=0→(yB T F f).parts=[]∧isT T 1 (yB T F f).elem=true):=Classical.em _;refine ZV ?_;refine WX.cutA [30,31,32,33,34,35,36,37,38,39,40,41,42,43,44,45,46,47,48,49,50,51,52,53,54,55,56,57,58,59,60,4] (by kernel_rfl) (fun t h'=>Ext h4 h'∧(yK T F f).1.length=(zJ F f).length∧(f=0→(yB T F f).parts=[]∧isT T 1 (yB T F f).elem=true)) ?_ ?_
 ·by_cases hr:(yK T F f).1.length=(zJ F f).length;case neg=>
   have hrI:¬(((yK T F f).1.length:Int)=((zJ F f).length:Int)):=by omega
   refine go ?_;refine WO.mi ?_;refine go ?_;refine zBR ?_;refine gr ?_;exact bad.out 0 (fun q=>hr (hra.2 q.1)) e04
  have hrI:(((yK T F f).1.length:Int)=((zJ F f).length:Int)):=by omega
  refine go ?_;by_cases f0:f=0;case neg=>
   refine go ?_;exact zE ⟨Ext.refl _,hr,fun e=>absurd e f0⟩
  refine go ?_;by_cases hpl:((T.getD (F.getD f.toNat default).sig.toNat default).parts.length:Int)>0
  ·refine go ?_;refine WO.mi ?_;refine go ?_;refine zBR ?_;refine gr ?_;exact bad.out 0 (fun q=>by have q1:(T.getD (F.getD f.toNat default).sig.toNat default).parts=[]:=(q.2.1 f0).1;rw[q1]at hpl;simp at hpl) e04
  ·have hpn:(T.getD (F.getD f.toNat default).sig.toNat default).parts=[]:=List.eq_nil_of_length_eq_zero (by omega);refine go ?_;refine WO.bl [(T.getD (F.getD f.toNat default).sig.toNat default).elem] ?_;intro v5 h5 e5 o5;refine go ?_;refine WO.con (yq h5 1 v5 [(T.getD (F.getD f.toNat default).sig.toNat default).elem] (M4.ext e5) o5.sl (by simp) (fun t ht=>by rw[List.mem_singleton.1 ht];exact .inr ⟨Z.el.1,Z.el.2.1⟩)) ?_;rintro _ h6 ⟨rfl,e6⟩;rw[yu];cases c1:isT T 1 (T.getD (F.getD f.toNat default).sig.toNat default).elem with
   |false=>
    refine go ?_;refine WO.mi ?_;refine go ?_;refine zBR ?_;refine gr ?_;exact bad.out 0 (fun q=>by have q1:isT T 1 (T.getD (F.getD f.toNat default).sig.toNat default).elem=true:=(q.2.1 f0).2;rw[q1]at c1;cases c1) (e04.trans (e5.trans e6))
   |true=>
    refine go ?_;exact zE ⟨e5.trans e6,hr,fun _=>⟨hpn,c1⟩⟩
 rintro t h5 hsame ⟨e5,hr,hmain⟩;have hway:=hra.1 hr;have hin:∀ c,Way (nxL (zJ F f)) 0 c→0≤c∧c<((zJ F f).length:Int):=fun c w=>by
  induction w with
  |here=>omega
  |step _ hm ih=>exact Z.nx _ ih _ hm
 have G:Gr F f (nxL (zJ F f)) xs (psF T F f) (zJ F f):=⟨hf,rfl,hn16,hR,hway,hin,Z.pl⟩;have hil:∀ i,i<(zJ F f).length→((zJ F f).getD i default).ins.length≤1000:=fun i hi=>E.sm.ins _ (zH (l:=F) (i:=f.toNat) (by omega)) _ (zH (l:=zJ F f) hi);have sb5:=SlB.ext sb4 e5;have sf5:=SlF.ext sf4 e5;have o5:=o4.ext e5;have pc5:=(pc _ (e4.trans e5)).1;have M5:FnM h5 g vt vf T F f (ksF T F f) (psF T F f) (Zr xs (zJ F f).length):=M4.ext e5;have E5:=E4.ext e5;have e05:=e04.trans e5;replace hway:=Hid.mk hway;replace hin:=Hid.mk hin;replace hil:=Hid.mk hil;clear pc sb4 sf4 st4 sat4 o4 M4 E4 or4 o8 orr E3 E2 E1;refine go ?_;refine WX.loopA [69,70,9,71,72,73,10,74,75,76,4,77,68] (by kernel_rfl) (fun i=>(zJ F f).length - i) (fun i t h'=>Ext h5 h'∧zB t 68=I i∧i≤(zJ F f).length∧Hid (∀ b:Int,0≤b→b<(i:Int)→zCs T F f b)) 0 ?_ ?_
 ·exact⟨Ext.refl _,sl_,Nat.zero_le _,⟨fun b b0 b1=>by omega⟩⟩
 rintro i t6 h6 hsame6 ⟨e6,s68,hi,hI⟩;have M6:=M5.ext e6;have e06:=e05.trans e6;refine go ?_;refine WX.br (fun hb=> ?_) (fun hb=> ?_)<;>simp only[DB]at hb
 ·have hi':i<(zJ F f).length:=by omega
  refine go ?_;refine WO.con (zJU h6 i M6 G (E5.ext e6) Z.hc Z.ks Z.sigF Z.sig Z.len Z.U Z.V ⟨by omega,by omega⟩ (by rw[Int.toNat_natCast];exact hil.out i hi')) ?_;have hP:(Zw T F f (i:Int)).1=zP (zJ F f) i (zJ F f).length:=by
   have:=Z.bl i (by omega) (by omega);unfold Zw;rw[this];rfl
  rw[hP];rintro q h7 ⟨hq,e7⟩;rcases hq with ⟨rfl,hq1,hq2⟩|⟨rfl,hq⟩
  ·refine go ?_;simp only[if_true,Bool.not_true];refine go ?_;refine zA (i+1) (by omega) ⟨e6.trans e7,sln,by omega,⟨fun b b0 b1=> ?_⟩⟩;by_cases hbi:b=i
   ·subst hbi;exact⟨hq1,hq2⟩
   ·exact hI.out b b0 (by omega)
  ·unfold Y2;refine go ?_;simp only[if_true,Bool.not_false];refine gr ?_;exact bad.out i (fun q=>hq (q.2.2 i (by omega) (by omega))) (e06.trans e7)
 ·have hii:i=(zJ F f).length:=by omega
  refine gr ?_;exact⟨.inl ⟨rfl,hway.out,hmain,fun b b0 b1=>hI.out b b0 (by omega)⟩,e06⟩
set_option maxRecDepth 100000
section
variable {P:Program} {tab:Tab} {t:Trie Value} {ds:List Deferred} {rd:Option Nat} {h:AHeap} {Q:AFr→AHeap→Prop} {l:List AOper} {d:Nat} {ty:TypeId} {x:Operand} {v r:Value}
theorem WO.as {ok:Bool} (hr:zDC P ty ok v=some r) (k:WO P tab l ⟨t.set d r,ds,rd⟩ h Q) (hx:Ope t x v:=by exact zM):WO P tab (⟨some d,none,.assert ty ok x⟩::l) ⟨t,ds,rd⟩ h Q:=
 WO.op _ _ rfl (by unfold Ope at *;simp only[aop,hx,hr,Option.map_some]) k
theorem WO.tyOf (hr:zC6 P ty v=some r) (k:WO P tab l ⟨t.set d r,ds,rd⟩ h Q) (hx:Ope t x v:=by exact zM):WO P tab (⟨some d,none,.typeOf ty x⟩::l) ⟨t,ds,rd⟩ h Q:=
 WO.op _ _ rfl (by unfold Ope at *;simp only[aop,hx,hr,Option.map_some]) k
theorem WO.iv {f:FuncId} {name:String} {u:Value} (hm:zAh P ty name=some f) (k:WC P tab f [u] h fun v h'=>WO P tab l ⟨t.set d v,ds,rd⟩ h' Q) (hx:Ope t x (.iface ty u):=by exact zM):WO P tab (⟨some d,none,.invoke x name []⟩::l) ⟨t,ds,rd⟩ h Q:=
 WO.invoke hx hm rfl k
theorem WO.ivC {G rt:Nat} {b:Bool} (hb:YA P G rt ty=some b) (k:WO P tab l ⟨t.set d (.bool b),ds,rd⟩ h Q) (hx:Ope t x (zFr G rt ty):=by exact zM):WO P tab (⟨some d,none,.invoke x "Comparable" []⟩::l) ⟨t,ds,rd⟩ h Q:=
 WO.invokeC hx hb k
end
abbrev tyE:Nat:=28
abbrev zKV:Value:= .iface tyE (I 120)
def zQT:ACode:=(oV (oR [oX 1 0,⟨some 2,none,(.mov (.const .nilIface))⟩]) (oV (oR [oF 2 3 1,oL 4 3,⟨some 5,none,(.mkIface 28 (.tmp 4))⟩,oM 2 5]) .ret))
theorem zHY (h:AHeap) (f b:Int):WC Tryz.prog tb 258 [.agg #[I f,I b,I 120]] h fun r h'=>r=zKV∧Ext h h':=by
 refine en 6 [(2,none)] zQT ?_;refine WO.bx ?_;intro p h1 e1 o1;replace o1:OwnC h h1 p [I f,I b,I 120]:=o1;refine go ?_;refine WO.mi ?_;refine gr ?_;exact⟨rfl,e1⟩
def zMM:ACode:=(oV (oR [oB .lss 46 45 44]) (oV (oT 46 3) (oV (o5 4 (oV (oR [oI 1 47 43 45,oL 48 47,oM 12 48]) (oV (oR [oM 49 12,oM 50 1,oM 51 2,o3 52 70 49 50 51]) (oJ 52 (oV (oR [oK 6 (.bool true)]) .ret) .skip)))) (oR [oC .add 53 45 1,oM 45 53]))))
def zLK:ACode:=(o5 1 (oV (oV (oR [oM 14 2,oM 15 14,oG 15 (oM 16 0),oG 15 (oM 17 1),⟨some 18,some (15,true),(.binP .eql 75 (.tmp 16) (.tmp 17))⟩,oP 19 15 18]) (oJ 19 (oV (oR [oK 6 (.bool true)]) .ret) .skip)) (oV (oV (oR [oM 21 0,⟨some 22,none,(.assert 186 true (.tmp 21))⟩,oM 20 22,oE 23 20 0,oE 24 20 1,oM 7 23,oM 8 24]) (oV (oR [oM 25 8,oM 26 25,oG 26 (oM 27 7),oG 26 (oM 28 1),⟨some 29,some (26,true),(.invoke (.tmp 27) "Is" [(.tmp 28)])⟩,oP 30 26 29]) (oJ 30 (oV (oR [oK 6 (.bool true)]) .ret) .skip))) (oV (oR [oM 31 0]) (o5 2 (oV (oR [⟨some 32,none,(.assert 189 true (.tmp 31))⟩,oE 33 32 1,oE 34 32 0]) (oJ 33 (oV (oR [oM 9 34]) (oV (oR [oM 35 9,⟨some 36,none,(.invoke (.tmp 35) "Unwrap" [])⟩,oM 0 36]) (oV (oR [oM 37 0,⟨some 38,none,(.isNil 4 false (.tmp 37))⟩]) (oJ 38 (oV (oR [oZ 6]) .ret) .skip)))) (oV (oR [⟨some 39,none,(.assert 191 true (.tmp 31))⟩,oE 40 39 1,oE 41 39 0]) (oJ 40 (oV (oR [oM 10 41]) (oV (oV (oR [oM 42 10,⟨some 43,none,(.invoke (.tmp 42) "Unwrap" [])⟩,oQ 44 43,oN 45 0]) (o5 3 (.loop zMM))) (oV (oR [oZ 6]) .ret))) (oV (oR [oM 13 31]) (oV (oR [oZ 6]) .ret)))))))))))
def zR4:ACode:=(oV (oR [oZ 6]) (o5 0 (.loop zLK)))
theorem zRx (h:AHeap) (f b:Int):WC Tryz.prog tb 70 [Y2 f b,zKV,.bool true] h fun r h'=>r= .bool true∧Ext h h':=by
 refine en 54 [(6,none)] zR4 ?_;refine WX.loopA [14,15,16,17,18,19,6,21,22,20,23,24,7,8,25,26,27,28,29,30,6,31,32,33,34,9,35,36,0,37,38,6,39,40,41,10,42,43,44,45,46,47,48,12,49,50,51,52,6,53,45,6,13,6] (by kernel_rfl) (fun i=>2 - i) (fun i t h'=>Ext h h'∧((i=0∧zB t 0=Y2 f b)∨(i=1∧zB t 0=zKV))) 0 ?_ ?_
 ·exact⟨Ext.refl _,.inl ⟨rfl,sl_⟩⟩
 rintro i t h1 hsame ⟨e1,⟨rfl,s0⟩|⟨rfl,s0⟩⟩
 ·unfold Y2 at s0;refine go ?_;refine WO.bp (v:= .bool false) (by kernel_rfl) ?_;refine go ?_;refine WO.as (r:= .tuple #[.nilIface,.bool false]) (by kernel_rfl) ?_;refine go ?_;refine WO.as (r:= .tuple #[.iface tyF (.agg #[I f,I b,I 120]),.bool true]) (by kernel_rfl) ?_;refine go ?_;refine WO.iv (f:=258) (by kernel_rfl) ?_;refine WC.mono (zHY h1 f b) ?_;rintro _ h2 ⟨rfl,e2⟩;refine go ?_;simp only[if_false,Bool.false_eq_true];refine go ?_;exact zA 1 (by omega) ⟨e1.trans e2,.inr ⟨rfl,sl_⟩⟩
 ·refine go ?_;refine WO.bp (v:= .bool true) (by kernel_rfl) ?_;refine gr ?_;exact⟨rfl,e1⟩
def zNl:ACode:=(oV (oR [oZ 4]) (oV (oV (oR [oM 6 0,⟨some 7,none,(.isNil 4 false (.tmp 6))⟩,oM 8 7,oH 8 (oM 9 1),⟨some 10,some (8,false),(.isNil 4 false (.tmp 9))⟩,oO 11 8 10]) (oJ 11 (oV (oR [oM 12 0,oM 13 1,⟨some 14,none,(.binP .eql 75 (.tmp 12) (.tmp 13))⟩,oM 4 14]) .ret) .skip)) (oV (oR [oM 15 1,⟨some 16,none,(.typeOf 184 (.tmp 15))⟩,⟨some 17,none,(.invoke (.tmp 16) "Comparable" [])⟩,oM 5 17]) (oV (oR [oM 18 0,oM 19 1,oM 20 5,o3 21 70 18 19 20,oM 4 21]) .ret))))
theorem zQo (h:AHeap) (f b:Int):WC Tryz.prog tb 32 [Y2 f b,zKV] h fun r h'=>r= .bool true∧Ext h h':=by
 unfold Y2;refine en 22 [(4,none)] zNl ?_;simp only[if_false,Bool.false_eq_true];refine go ?_;simp only[if_false,Bool.false_eq_true];refine go ?_;refine WO.tyOf (v:=zKV) rfl ?_;refine go ?_;refine WO.ivC (b:=true) (by kernel_rfl) ?_;refine go ?_;have hk:=zRx h f b;unfold Y2 at hk;refine WO.con hk ?_;rintro _ h2 ⟨rfl,e2⟩;refine gr ?_;exact⟨rfl,e2⟩
theorem zPz (h:AHeap):WC Tryz.prog tb 32 [.nilIface,zKV] h fun r h'=>r= .bool false∧h=h':=by
 refine en 22 [(4,none)] zNl ?_;simp only[if_false,Bool.false_eq_true];refine go ?_;refine WO.bp (v:= .bool false) (by kernel_rfl) ?_;refine gr ?_;exact⟨rfl,rfl⟩
def YD (T:List LType) (F:List LFn):Int:=open Classical in if yX T F≠0 then yX T F else if WfP T F then 0 else 120
def zMb:ACode:=(oV (oR [oB .lss 15 14 13]) (oV (oT 15 0) (oV (o5 1 (oV (oR [oM 16 14,oM 4 16]) (oV (oR [oA 2 17 1,oM 18 4,o2 19 31 17 18,oM 5 19]) (oV (oR [oM 20 5,⟨some 21,none,(.mkIface 28 (.const (.int .i64 120)))⟩,o2 22 32 20 21]) (oJ 22 (oV (oR [oN 2 120]) .ret) .skip))))) (oR [oC .add 23 14 1,oM 14 23]))))
def zRc:ACode:=(oV (oR [oX 1 0,oN 2 0]) (oV (oV (oR [oA 2 6 1,o1 7 30 6,oM 3 7]) (oV (oR [oM 8 3,oC .neq 9 8 0]) (oJ 9 (oV (oR [oM 10 3,oM 2 10]) .ret) .skip))) (oV (oV (oR [oF 1 11 1,oL 12 11,oQ 13 12,oN 14 0]) (o5 0 (.loop zMb))) (oV (oR [oN 2 0]) .ret))))
theorem zEm (h:AHeap) (vt vf:Value) (T:List LType) (F:List LFn) (E:Env h vt vf T F):
  WC Tryz.prog tb 12 [.agg #[vt,vf]] h fun r h'=>r=I (YD T F)∧Ext h h':=by
 unfold YD;have hF:=E.sm.funcs;refine en 24 [(2,none)] zRc ?_;refine WO.bx ?_;intro p1 h1 e1 o1;replace o1:OwnC h h1 p1 [vt,vf]:=o1;have E1:=E.ext e1;refine go ?_;refine WO.con (zIh h1 vt vf T F E1.tt E1.hm E1.sm E1.st E1.sf) ?_;rintro _ h2 ⟨rfl,e2⟩;have o2:=o1.ext e2;have E2:=E1.ext e2;have sf2:=E2.sf;by_cases hp:yX T F=0;case neg=>
  rw[if_pos hp];refine gr ?_;exact⟨rfl,e1.trans e2⟩
 rw[if_neg (fun e=>e hp),hp];refine go ?_;refine WX.loopA [15,16,4,17,18,19,5,20,21,22,2,23,14] (by kernel_rfl) (fun i=>F.length - i) (fun i t h'=>Ext h2 h'∧zB t 14=I i∧i≤F.length∧Hid (∀ f:Int,0≤f→f<(i:Int)→zGx T F f)) 0 ?_ ?_
 ·exact⟨Ext.refl _,sl_,Nat.zero_le _,⟨fun f f0 f1=>by omega⟩⟩
 rintro i t h3 hsame ⟨e3,s14,hi,hI⟩;have o3:=o2.ext e3;have e03:=e1.trans (e2.trans e3);refine go ?_;refine WX.br (fun hb=> ?_) (fun hb=> ?_)<;>simp only[DB]at hb
 ·have hi':i<F.length:=by omega
  refine go ?_;refine WO.con (zFq h3 vt vf T F i (E2.ext e3) hp ⟨by omega,by omega⟩) ?_;rintro q h4 ⟨⟨rfl,hq⟩|⟨⟨b,rfl⟩,hq⟩,e4⟩
  ·refine go ?_;refine WO.mi ?_;refine go ?_;refine WO.con (zPz h4) ?_;rintro _ _ ⟨rfl,rfl⟩;refine go ?_;refine zA (i+1) (by omega) ⟨e3.trans e4,sln,by omega,⟨fun f f0 f1=> ?_⟩⟩;by_cases hfi:f=i
   ·subst hfi;exact hq
   ·exact hI.out f f0 (by omega)
  ·refine go ?_;refine WO.mi ?_;refine go ?_;refine WO.con (zQo h4 i b) ?_;rintro _ h5 ⟨rfl,e5⟩;refine gr ?_;refine⟨?_,e03.trans (e4.trans e5)⟩;rw[if_neg (fun w=>hq (w i (by omega) (by omega)))];rfl
 ·have hii:i=F.length:=by omega
  refine gr ?_;refine⟨?_,e03⟩;rw[if_pos (show WfP T F from fun f f0 f1=>hI.out f f0 (by omega))];rfl
def zD3 (T:List LType) (F:List LFn) (f r:Int):Int×Int:=
 if YD T F≠0 then (0,YD T F) else if (zj T F f r).2.2≠0 then (0,(zj T F f r).2.2) else if (ksF T F f).getD r.toNat 0= -1 then (0,6) else ((ksF T F f).getD r.toNat 0,0)
theorem zDs {T:List LType} {F:List LFn} (h:YD T F=0):yX T F=0∧WfP T F:=by
 unfold YD at h;split at h
 ·rename_i hp;exact absurd h hp
 ·rename_i hp;split at h
  ·rename_i hw;exact⟨Classical.not_not.1 hp,hw⟩
  ·cases h
end
end Go.Proofs.YteekipjpghikkaaGreatDoor
