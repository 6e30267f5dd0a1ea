/- What functions of the program come to in the abstract machine, and plain laws about it; no statement of the seat is proved in this text. -/
import Derived.Test.YteekipjpghikkaaGreatDoorJj
import Derived.Test.YteekipjpghikkaaGreatDoorJj
import Derived.Test.YteekipjpghikkaaGreatDoorJj
import Derived.Test.YteekipjpghikkaaGreatDoorJg
import Derived.Test.YteekipjpghikkaaGreatDoorJa
import Derived.Test.YteekipjpghikkaaGreatDoorAmV
set_option linter.unusedVariables false
set_option linter.unusedSimpArgs false
set_option maxHeartbeats 2000000
namespace Go.Proofs.YteekipjpghikkaaGreatDoor
noncomputable section
open Go.Am
set_option maxRecDepth 100000
def zNy:ACode:=(oV (oR [oB .lss 69 68 67]) (oV (oT 69 0) (oV (o5 1 (oV (oR [oM 70 68,oM 9 70]) (oV (oR [oM 71 5,oM 72 9,o2 73 68 71 72,oM 10 73]) (oV (oR [oM 74 10,⟨some 75,none,(.isNil 4 true (.tmp 74))⟩]) (oJ 75 (oV (oR [oM 76 10,oM 4 76]) .ret) .skip))))) (oR [oC .add 77 68 1,oM 68 77]))))
def zTQ:ACode:=(oV (oR [oX 2 0,⟨some 4,none,(.mov (.const .nilIface))⟩]) (oV (oR [oA 2 11 2,oM 12 1,o2 13 27 11 12,oM 5 13]) (oV (oR [oA 2 15 2,oM 16 1,o2 17 66 15 16,oM 14 17,oE 18 14 0,oE 19 14 1,oM 6 18,oM 7 19]) (oV (oV (o6 [oF 0 20 2,oL 21 20,oF 1 22 2,oL 23 22,oM 24 1,oI 2 25 23 24,oF 0 26 25,oL 27 26,oI 4 28 21 27,oA 4 29 28,(⟨some 8,none,(.alloc [(.int .u8 0),(.int .i64 0),(.int .i64 0),(.slice none 0 0)])⟩,[]),oS 4 8 29]) (oV (oR [oM 30 6,oQ 31 30,oF 1 32 2,oL 33 32,oM 34 1,oI 2 35 33 34,oF 1 36 35,oL 37 36,oQ 38 37,oB .neq 39 31 38,oM 40 39,oH 40 (oM 41 1),oH 40 (oC .eql 42 41 0),oH 40 (oM 43 42),oG 43 (oF 3 44 8),oG 43 (oL 45 44),oG 43 (oQ 46 45),oG 43 (oC .gtr 47 46 0),oG 43 (oM 48 47),oH 48 (oM 49 5),oH 48 (oF 1 50 8),oH 48 (oL 51 50),⟨some 52,some (48,false),(.buildSlice 1 1 [(.int .i64 0)] [(0,1,(.tmp 51))])⟩,⟨some 53,some (48,false),(.call (.func 67) [(.tmp 49),(.const (.int .u8 1)),(.tmp 52)])⟩,oH 48 (oW 54 53),oG 43 (oO 55 48 54),oH 40 (oP 56 43 55),oO 57 40 56]) (oJ 57 (oV (oR [oM 58 1,⟨some 59,none,(.build [(.int .i64 0),(.int .i64 0),(.int .i64 0)] [(0,1,(.tmp 58)),(1,1,(.const (.int .i64 0))),(2,1,(.const (.int .i64 120)))])⟩,⟨some 60,none,(.mkIface 119 (.tmp 59))⟩,oM 4 60]) .ret) .skip))) (oV (oV (oR [oF 1 61 2,oL 62 61,oM 63 1,oI 2 64 62 63,oF 1 65 64,oL 66 65,oQ 67 66,oN 68 0]) (o5 0 (.loop zNy))) (oV (oR [⟨some 4,none,(.mov (.const .nilIface))⟩]) .ret))))))
theorem zHF (h:AHeap) (vt vf:Value) (T:List LType) (F:List LFn) (f:Int) (E:Env h vt vf T F) (hp:Zq T F=0) (hf:0<=f/\f<(F.length:Int)):
  WC Tryz.prog tb 31 [.agg #[vt,vf],I f] h fun r h'=>(r= .nilIface/\zBr T F f\/(∃ b,r=zAN f b)/\¬zBr T F f)/\Ext h h':=by
 have Z:=zTj hp hf;have hb0:=Z.bl 0 (Qi 0) (by have:=Z.n1;omega);have hbe:(zD T F f 0).2=0:=by rw[hb0]
 have ha:Yx T F f 0=0:=by
  unfold Yx;rw[QD (fun e=>e hbe),QD (by rw[hb0];have:=Z.n1;show ¬(_\/((zQ F f).length:Int)<=0);omega),QI ((Yh hbe).2 (by rw[hb0];exact Way.here))]
 have hra:=zLc hbe;have hre:(yM T F f).2=0:=by rw[zGQ];exact hbe
 have hn16:=Z.n16;have hn1:=Z.n1;have hsg:=Z.sig;have hpar:=Z.par4;have hnx:nxF T F f=nxL (zQ F f):=by unfold nxF;rw[hb0]
 rw[hb0]at hra;replace hra:(yM T F f).1.length=(zQ F f).length↔∀ c,0<=c->c<((zQ F f).length:Int)->Way (nxL (zQ F f)) 0 c:=hra;refine en 78 [(4,none)] zTQ ?_;refine WO.bx ?_;intro p2 h1 e1 o1;replace o1:OwnC h h1 p2 [vt,vf]:=o1;have E1:=E.ext e1;refine go ?_;refine WO.con (zRE h1 vt vf T F f E1 ha hf Z.sig hn16) ?_;rintro _ h2 ⟨⟨g,xs,rfl,hR,M⟩,e2⟩;rw[hnx]at hR;have E2:=E1.ext e2;have o2:=o1.ext e2;refine go ?_;refine WO.con (zIo h2 vt vf T F f E2.tt E2.hm E2.sm E2.st E2.sf) ?_;rintro _ h3 ⟨⟨vr,rfl,orr⟩,e3⟩;rw[hre];have E3:=E2.ext e3;have o3:=o2.ext e3;have M3:=M.ext e3;refine go ?_;refine WX.regionU2 1 rfl rfl ?_;have ea:=zq 1 h3;have o3X:=OwnC.ia (o3.ext ea);obtain⟨cs,⟨vb,rfl,sb,hlb⟩,pc,hsl⟩:=yB (i:=f.toNat) E3.sf (by omega);have pc1:=(pc _ ea).2;obtain⟨cst,⟨vat,rfl,sat,hlat⟩,pct,hslt⟩:=yB (i:=(F.getD f.toNat default).sig.toNat) E3.st (by omega);have pct1:=(pct _ ea).2;have stX0:=SlT.ext E3.st ea;have stX:SlT (inC (zC 1 h3)) vt T:=stX0;have sfX0:=SlF.ext E3.sf ea;have sfX:SlF (inC (zC 1 h3)) vf F:=sfX0;obtain⟨va1,va2,va3,rfl⟩:=SlC.shape sat;refine goU ?_;refine WU2.alE (X:=inC (zC 1 h3)) (cs:=[.int .u8 (ZH T F f).kind,I (ZH T F f).elem,I (ZH T F f).many,.slice va1 va2 va3]) (Ext.refl _) E3.hm ?_;intro h4 p8 e4 o8;have E4:=E3.ext e4;have o4:=o3.ext e4;have M4:=M3.ext e4;have or4:=orr.ext e4;have pc4:=(pc _ e4).1;have sb4:=SlB.ext sb e4;have sf4:=E4.sf;have sat4:=SlI.ext sat e4;have st4:=E4.st;have e04:=e1.trans (e2.trans (e3.trans e4));have bad:∀ (b:Int) {h'},¬zBr T F f->Ext h h'->(zAN f b= .nilIface/\zBr T F f\/(∃ b',zAN f b=zAN f b')/\¬zBr T F f)/\Ext h h':=fun b h' hn e=>⟨.inr ⟨⟨b,rfl⟩,hn⟩,e⟩;have bad:=Hid.mk @bad;clear stX0 sfX0 stX sfX o3X pc1 pct1 ea pct sat hslt;have hLb:(F.getD f.toNat default).blocks=zQ F f:=rfl;rw[hLb]at sb4;have hgo:(f=0->(ZH T F f).parts=[]/\isT T 1 (ZH T F f).elem=true)\/¬(f=0->(ZH T F f).parts=[]/\isT T 1 (ZH T F f).elem=true):=Classical.em _;refine Zz ?_;refine WX.cutA [30,31,32,33,34,35,36,37,38,39,40,41,42,43,44,45,46,47,48,49,50,51,52,53,54,55,56,57,58,59,60,4] (by kernel_rfl) (fun t h'=>Ext h4 h'/\(yM T F f).1.length=(zQ F f).length/\(f=0->(ZH T F f).parts=[]/\isT T 1 (ZH T F f).elem=true)) ?_ ?_
 ·by_cases hr:(yM T F f).1.length=(zQ F f).length;case neg=>
   have hrI:¬(((yM T F f).1.length:Int)=((zQ F f).length:Int)):=by omega
   refine go ?_;refine WO.mi ?_;refine go ?_;refine zCq ?_;refine gr ?_;exact bad.out 0 (fun q=>hr (hra.2 q.1)) e04
  have hrI:(((yM T F f).1.length:Int)=((zQ F f).length:Int)):=by omega
  refine go ?_;by_cases f0:f=0;case neg=>
   refine go ?_;exact zE ⟨Ext.refl _,hr,fun e=>absurd e f0⟩
  refine go ?_;by_cases hpl:((T.getD (F.getD f.toNat default).sig.toNat default).parts.length:Int)>0
  ·refine go ?_;refine WO.mi ?_;refine go ?_;refine zCq ?_;refine gr ?_;exact bad.out 0 (fun q=>by have q1:(T.getD (F.getD f.toNat default).sig.toNat default).parts=[]:=(q.2.1 f0).1;rw[q1]at hpl;simp at hpl) e04
  ·have hpn:(T.getD (F.getD f.toNat default).sig.toNat default).parts=[]:=Ga (by omega);refine go ?_;refine WO.bl [(T.getD (F.getD f.toNat default).sig.toNat default).elem] ?_;intro v5 h5 e5 o5;refine go ?_;refine WO.con (yq h5 1 v5 [(T.getD (F.getD f.toNat default).sig.toNat default).elem] (M4.ext e5) o5.sl (by simp) (fun t ht=>by rw[QQ.1 ht];exact .inr ⟨Z.el.1,Z.el.2.1⟩)) ?_;rintro _ h6 ⟨rfl,e6⟩;rw[yr];cases c1:isT T 1 (T.getD (F.getD f.toNat default).sig.toNat default).elem with
   |false=>
    refine go ?_;refine WO.mi ?_;refine go ?_;refine zCq ?_;refine gr ?_;exact bad.out 0 (fun q=>by have q1:isT T 1 (T.getD (F.getD f.toNat default).sig.toNat default).elem=true:=(q.2.1 f0).2;rw[q1]at c1;cases c1) (e04.trans (e5.trans e6))
   |true=>
    refine go ?_;exact zE ⟨e5.trans e6,hr,fun _=>⟨hpn,c1⟩⟩
 rintro t h5 hsame ⟨e5,hr,hmain⟩;have hway:=hra.1 hr;have hin:∀ c,Way (nxL (zQ F f)) 0 c->0<=c/\c<((zQ F f).length:Int):=fun c w=>by
  induction w with
  |here=>omega
  |step _ hm ih=>exact Z.nx _ ih _ hm
 have G:Gr F f (nxL (zQ F f)) xs (psF T F f) (zQ F f):=⟨hf,rfl,hn16,hR,hway,hin,Z.pl⟩;have hil:∀ i,i<(zQ F f).length->((zQ F f).getD i default).ins.length<=1000:=fun i hi=>E.sm.ins _ (zH (l:=F) (i:=f.toNat) (by omega)) _ (zH (l:=zQ F f) hi);have sb5:=SlB.ext sb4 e5;have sf5:=SlF.ext sf4 e5;have o5:=o4.ext e5;have pc5:=(pc _ (e4.trans e5)).1;have M5:FnM h5 g vt vf T F f (ksF T F f) (psF T F f) (Z7 xs (zQ F f).length):=M4.ext e5;have E5:=E4.ext e5;have e05:=e04.trans e5;replace hway:=Hid.mk hway;replace hin:=Hid.mk hin;replace hil:=Hid.mk hil;clear pc sb4 sf4 st4 sat4 o4 M4 E4 or4 o8 orr E3 E2 E1;refine go ?_;refine WX.loopA [69,70,9,71,72,73,10,74,75,76,4,77,68] (by kernel_rfl) (fun i=>(zQ F f).length - i) (fun i t h'=>Ext h5 h'/\zB t 68=I i/\i<=(zQ F f).length/\Hid (∀ b:Int,0<=b->b<(i:Int)->zSt T F f b)) 0 ?_ ?_
 ·exact⟨Ext.refl _,sl_,QV _,⟨fun b b0 b1=>by omega⟩⟩
 rintro i t6 h6 hsame6 ⟨e6,s68,hi,hI⟩;have M6:=M5.ext e6;have e06:=e05.trans e6;refine go ?_;refine WX.br (fun hb=> ?_) (fun hb=> ?_)<;>simp only[DB]at hb
 ·have hi':i<(zQ F f).length:=by omega
  refine go ?_;refine WO.con (zL6 h6 i M6 G (E5.ext e6) Z.hc Z.ks Z.sigF Z.sig Z.len Z.U Z.V ⟨by omega,by omega⟩ (by rw[GQ];exact hil.out i hi')) ?_;have hP:(yd T F f (i:Int)).1=zK (zQ F f) i (zQ F f).length:=by
   have:=Z.bl i (by omega) (by omega);unfold yd;rw[this];rfl
  rw[hP];rintro q h7 ⟨hq,e7⟩;rcases hq with ⟨rfl,hq1,hq2⟩|⟨rfl,hq⟩
  ·refine go ?_;simp only[Qv,QU];refine go ?_;refine zA (i+1) (by omega) ⟨e6.trans e7,sln,by omega,⟨fun b b0 b1=> ?_⟩⟩;by_cases hbi:b=i
   ·subst hbi;exact⟨hq1,hq2⟩
   ·exact hI.out b b0 (by omega)
  ·unfold zAN;refine go ?_;simp only[Qv,Qd];refine gr ?_;exact bad.out i (fun q=>hq (q.2.2 i (by omega) (by omega))) (e06.trans e7)
 ·have hii:i=(zQ F f).length:=by omega
  refine gr ?_;exact⟨.inl ⟨rfl,hway.out,hmain,fun b b0 b1=>hI.out b b0 (by omega)⟩,e06⟩
set_option maxRecDepth 100000
section
variable {P:Program} {tab:Tab} {t:Trie Value} {ds:List Deferred} {rd:Option Nat} {h:AHeap} {Q:AFr->AHeap->Prop} {l:List AOper} {d:Nat} {ty:TypeId} {x:Operand} {v r:Value}
theorem WO.as {ok:Bool} (hr:zD4 P ty ok v=some r) (k:WO P tab l ⟨t.set d r,ds,rd⟩ h Q) (hx:Ope t x v:=by exact zJ):WO P tab (⟨some d,none,.assert ty ok x⟩::l) ⟨t,ds,rd⟩ h Q:=
 WO.op _ _ rfl (by unfold Ope at *;simp only[aop,hx,hr,QK]) k
theorem WO.tyOf (hr:zD6 P ty v=some r) (k:WO P tab l ⟨t.set d r,ds,rd⟩ h Q) (hx:Ope t x v:=by exact zJ):WO P tab (⟨some d,none,.typeOf ty x⟩::l) ⟨t,ds,rd⟩ h Q:=
 WO.op _ _ rfl (by unfold Ope at *;simp only[aop,hx,hr,QK]) k
theorem WO.iv {f:FuncId} {name:String} {u:Value} (hm:Yd P ty name=some f) (k:WC P tab f [u] h fun v h'=>WO P tab l ⟨t.set d v,ds,rd⟩ h' Q) (hx:Ope t x (.iface ty u):=by exact zJ):WO P tab (⟨some d,none,.invoke x name []⟩::l) ⟨t,ds,rd⟩ h Q:=
 WO.invoke hx hm rfl k
theorem WO.ivC {G rt:Nat} {b:Bool} (hb:YX P G rt ty=some b) (k:WO P tab l ⟨t.set d (.bool b),ds,rd⟩ h Q) (hx:Ope t x (zHW G rt ty):=by exact zJ):WO P tab (⟨some d,none,.invoke x "Comparable" []⟩::l) ⟨t,ds,rd⟩ h Q:=
 WO.invokeC hx hb k
end
abbrev tyE:Nat:=28
abbrev zMD:Value:= .iface tyE (I 120)
def zRc:ACode:=(oV (oR [oX 1 0,⟨some 2,none,(.mov (.const .nilIface))⟩]) (oV (oR [oF 2 3 1,oL 4 3,⟨some 5,none,(.mkIface 28 (.tmp 4))⟩,oM 2 5]) .ret))
theorem zKB (h:AHeap) (f b:Int):WC Tryz.prog tb 258 [.agg #[I f,I b,I 120]] h fun r h'=>r=zMD/\Ext h h':=by
 refine en 6 [(2,none)] zRc ?_;refine WO.bx ?_;intro p h1 e1 o1;replace o1:OwnC h h1 p [I f,I b,I 120]:=o1;refine go ?_;refine WO.mi ?_;refine gr ?_;exact⟨rfl,e1⟩
def zNb:ACode:=(oV (oR [oB .lss 46 45 44]) (oV (oT 46 3) (oV (o5 4 (oV (oR [oI 1 47 43 45,oL 48 47,oM 12 48]) (oV (oR [oM 49 12,oM 50 1,oM 51 2,o3 52 70 49 50 51]) (oJ 52 (oV (oR [oK 6 (.bool true)]) .ret) .skip)))) (oR [oC .add 53 45 1,oM 45 53]))))
def zPc:ACode:=(o5 1 (oV (oV (oR [oM 14 2,oM 15 14,oG 15 (oM 16 0),oG 15 (oM 17 1),⟨some 18,some (15,true),(.binP .eql 75 (.tmp 16) (.tmp 17))⟩,oP 19 15 18]) (oJ 19 (oV (oR [oK 6 (.bool true)]) .ret) .skip)) (oV (oV (oR [oM 21 0,⟨some 22,none,(.assert 186 true (.tmp 21))⟩,oM 20 22,oE 23 20 0,oE 24 20 1,oM 7 23,oM 8 24]) (oV (oR [oM 25 8,oM 26 25,oG 26 (oM 27 7),oG 26 (oM 28 1),⟨some 29,some (26,true),(.invoke (.tmp 27) "Is" [(.tmp 28)])⟩,oP 30 26 29]) (oJ 30 (oV (oR [oK 6 (.bool true)]) .ret) .skip))) (oV (oR [oM 31 0]) (o5 2 (oV (oR [⟨some 32,none,(.assert 189 true (.tmp 31))⟩,oE 33 32 1,oE 34 32 0]) (oJ 33 (oV (oR [oM 9 34]) (oV (oR [oM 35 9,⟨some 36,none,(.invoke (.tmp 35) "Unwrap" [])⟩,oM 0 36]) (oV (oR [oM 37 0,⟨some 38,none,(.isNil 4 false (.tmp 37))⟩]) (oJ 38 (oV (oR [oZ 6]) .ret) .skip)))) (oV (oR [⟨some 39,none,(.assert 191 true (.tmp 31))⟩,oE 40 39 1,oE 41 39 0]) (oJ 40 (oV (oR [oM 10 41]) (oV (oV (oR [oM 42 10,⟨some 43,none,(.invoke (.tmp 42) "Unwrap" [])⟩,oQ 44 43,oN 45 0]) (o5 3 (.loop zNb))) (oV (oR [oZ 6]) .ret))) (oV (oR [oM 13 31]) (oV (oR [oZ 6]) .ret)))))))))))
def zTx:ACode:=(oV (oR [oZ 6]) (o5 0 (.loop zPc)))
theorem zTD (h:AHeap) (f b:Int):WC Tryz.prog tb 70 [zAN f b,zMD,.bool true] h fun r h'=>r= .bool true/\Ext h h':=by
 refine en 54 [(6,none)] zTx ?_;refine WX.loopA [14,15,16,17,18,19,6,21,22,20,23,24,7,8,25,26,27,28,29,30,6,31,32,33,34,9,35,36,0,37,38,6,39,40,41,10,42,43,44,45,46,47,48,12,49,50,51,52,6,53,45,6,13,6] (by kernel_rfl) (fun i=>2 - i) (fun i t h'=>Ext h h'/\((i=0/\zB t 0=zAN f b)\/(i=1/\zB t 0=zMD))) 0 ?_ ?_
 ·exact⟨Ext.refl _,.inl ⟨rfl,sl_⟩⟩
 rintro i t h1 hsame ⟨e1,⟨rfl,s0⟩|⟨rfl,s0⟩⟩
 ·unfold zAN at s0;refine go ?_;refine WO.bp (v:= .bool false) (by kernel_rfl) ?_;refine go ?_;refine WO.as (r:= .tuple #[.nilIface,.bool false]) (by kernel_rfl) ?_;refine go ?_;refine WO.as (r:= .tuple #[.iface tyF (.agg #[I f,I b,I 120]),.bool true]) (by kernel_rfl) ?_;refine go ?_;refine WO.iv (f:=258) (by kernel_rfl) ?_;refine WC.mono (zKB h1 f b) ?_;rintro _ h2 ⟨rfl,e2⟩;refine go ?_;simp only[Gp,Qk];refine go ?_;exact zA 1 (by omega) ⟨e1.trans e2,.inr ⟨rfl,sl_⟩⟩
 ·refine go ?_;refine WO.bp (v:= .bool true) (by kernel_rfl) ?_;refine gr ?_;exact⟨rfl,e1⟩
def zPM:ACode:=(oV (oR [oZ 4]) (oV (oV (oR [oM 6 0,⟨some 7,none,(.isNil 4 false (.tmp 6))⟩,oM 8 7,oH 8 (oM 9 1),⟨some 10,some (8,false),(.isNil 4 false (.tmp 9))⟩,oO 11 8 10]) (oJ 11 (oV (oR [oM 12 0,oM 13 1,⟨some 14,none,(.binP .eql 75 (.tmp 12) (.tmp 13))⟩,oM 4 14]) .ret) .skip)) (oV (oR [oM 15 1,⟨some 16,none,(.typeOf 184 (.tmp 15))⟩,⟨some 17,none,(.invoke (.tmp 16) "Comparable" [])⟩,oM 5 17]) (oV (oR [oM 18 0,oM 19 1,oM 20 5,o3 21 70 18 19 20,oM 4 21]) .ret))))
theorem zT5 (h:AHeap) (f b:Int):WC Tryz.prog tb 32 [zAN f b,zMD] h fun r h'=>r= .bool true/\Ext h h':=by
 unfold zAN;refine en 22 [(4,none)] zPM ?_;simp only[Gp,Qk];refine go ?_;simp only[Gp,Qk];refine go ?_;refine WO.tyOf (v:=zMD) rfl ?_;refine go ?_;refine WO.ivC (b:=true) (by kernel_rfl) ?_;refine go ?_;have hk:=zTD h f b;unfold zAN at hk;refine WO.con hk ?_;rintro _ h2 ⟨rfl,e2⟩;refine gr ?_;exact⟨rfl,e2⟩
theorem zQi (h:AHeap):WC Tryz.prog tb 32 [.nilIface,zMD] h fun r h'=>r= .bool false/\h=h':=by
 refine en 22 [(4,none)] zPM ?_;simp only[Gp,Qk];refine go ?_;refine WO.bp (v:= .bool false) (by kernel_rfl) ?_;refine gr ?_;exact⟨rfl,rfl⟩
def zC9 (T:List LType) (F:List LFn):Int:=open Classical in if Zq T F≠0 then Zq T F else if WfP T F then 0 else 120
def zN5:ACode:=(oV (oR [oB .lss 15 14 13]) (oV (oT 15 0) (oV (o5 1 (oV (oR [oM 16 14,oM 4 16]) (oV (oR [oA 2 17 1,oM 18 4,o2 19 31 17 18,oM 5 19]) (oV (oR [oM 20 5,⟨some 21,none,(.mkIface 28 (.const (.int .i64 120)))⟩,o2 22 32 20 21]) (oJ 22 (oV (oR [oN 2 120]) .ret) .skip))))) (oR [oC .add 23 14 1,oM 14 23]))))
def zUk:ACode:=(oV (oR [oX 1 0,oN 2 0]) (oV (oV (oR [oA 2 6 1,o1 7 30 6,oM 3 7]) (oV (oR [oM 8 3,oC .neq 9 8 0]) (oJ 9 (oV (oR [oM 10 3,oM 2 10]) .ret) .skip))) (oV (oV (oR [oF 1 11 1,oL 12 11,oQ 13 12,oN 14 0]) (o5 0 (.loop zN5))) (oV (oR [oN 2 0]) .ret))))
theorem zMx (h:AHeap) (vt vf:Value) (T:List LType) (F:List LFn) (E:Env h vt vf T F):
  WC Tryz.prog tb 12 [.agg #[vt,vf]] h fun r h'=>r=I (zC9 T F)/\Ext h h':=by
 unfold zC9;have hF:=E.sm.funcs;refine en 24 [(2,none)] zUk ?_;refine WO.bx ?_;intro p1 h1 e1 o1;replace o1:OwnC h h1 p1 [vt,vf]:=o1;have E1:=E.ext e1;refine go ?_;refine WO.con (zKU h1 vt vf T F E1.tt E1.hm E1.sm E1.st E1.sf) ?_;rintro _ h2 ⟨rfl,e2⟩;have o2:=o1.ext e2;have E2:=E1.ext e2;have sf2:=E2.sf;by_cases hp:Zq T F=0;case neg=>
  rw[QI hp];refine gr ?_;exact⟨rfl,e1.trans e2⟩
 rw[QD (fun e=>e hp),hp];refine go ?_;refine WX.loopA [15,16,4,17,18,19,5,20,21,22,2,23,14] (by kernel_rfl) (fun i=>F.length - i) (fun i t h'=>Ext h2 h'/\zB t 14=I i/\i<=F.length/\Hid (∀ f:Int,0<=f->f<(i:Int)->zBr T F f)) 0 ?_ ?_
 ·exact⟨Ext.refl _,sl_,QV _,⟨fun f f0 f1=>by omega⟩⟩
 rintro i t h3 hsame ⟨e3,s14,hi,hI⟩;have o3:=o2.ext e3;have e03:=e1.trans (e2.trans e3);refine go ?_;refine WX.br (fun hb=> ?_) (fun hb=> ?_)<;>simp only[DB]at hb
 ·have hi':i<F.length:=by omega
  refine go ?_;refine WO.con (zHF h3 vt vf T F i (E2.ext e3) hp ⟨by omega,by omega⟩) ?_;rintro q h4 ⟨⟨rfl,hq⟩|⟨⟨b,rfl⟩,hq⟩,e4⟩
  ·refine go ?_;refine WO.mi ?_;refine go ?_;refine WO.con (zQi h4) ?_;rintro _ _ ⟨rfl,rfl⟩;refine go ?_;refine zA (i+1) (by omega) ⟨e3.trans e4,sln,by omega,⟨fun f f0 f1=> ?_⟩⟩;by_cases hfi:f=i
   ·subst hfi;exact hq
   ·exact hI.out f f0 (by omega)
  ·refine go ?_;refine WO.mi ?_;refine go ?_;refine WO.con (zT5 h4 i b) ?_;rintro _ h5 ⟨rfl,e5⟩;refine gr ?_;refine⟨?_,e03.trans (e4.trans e5)⟩;rw[QD (fun w=>hq (w i (by omega) (by omega)))];rfl
 ·have hii:i=F.length:=by omega
  refine gr ?_;refine⟨?_,e03⟩;rw[QI (show WfP T F from fun f f0 f1=>hI.out f f0 (by omega))];rfl
theorem zJ4 {T:List LType} {F:List LFn} (h:zC9 T F=0):Zq T F=0/\WfP T F:=by
 unfold zC9 at h;split at h
 ·rename_i hp;exact absurd h hp
 ·rename_i hp;split at h
  ·rename_i hw;exact⟨Classical.not_not.1 hp,hw⟩
  ·cases h
theorem zGF {α:Type} {a b:List α} {i:Nat} {d:α} (h:i<a.length):(a++b).getD i d=a.getD i d:=by
 rw[QE,QE,Qo h]
theorem zFc {α:Type} {a b:List α} {i:Nat} {d:α} (h:a.length<=i):(a++b).getD i d=b.getD (i - a.length) d:=by
 rw[QE,QE,Q3 h]
theorem zGP {α β:Type} {l:List α} {i:Nat} {f:α->β} {a:α} {b:β} (h:i<l.length):(l.map f).getD i b=f (l.getD i a):=by
 rw[QE,QE,GR,QB h];rfl
theorem zCA (b:LBlk) (L:List LBlk):∀ n,yX (b::L) (n+1)=((List.range b.ins.length).map fun (i:Nat)=>((0:Int),(i:Int)))++(yX L n).map fun p=>(p.1+1,p.2)
 |0=>by simp[yX]
 |n+1=>by
  show yX (b::L) (n+1)++(List.range (L.getD n default).ins.length).map (fun (i:Nat)=>(((n+1:Nat):Int),(i:Int)))=_++(yX L n++(List.range (L.getD n default).ins.length).map fun (i:Nat)=>((n:Int),(i:Int))).map (fun p=>(p.1+1,p.2));rw[zCA b L n,Gg,List.map_map,GC];rfl
theorem zJF (L:List LBlk):((yX L L.length).length:Int)=zt L:=by
 rw[<-zCx L _ (QF _),GN,zEB]
theorem zCa:∀ (L:List LBlk) (k:Int),0<=k->k<zt L->(yX L L.length).getD k.toNat default=ZG L k
 |[],k,h0,h1=>by have h1:k<0:=h1;omega
 |b::L,k,h0,h1=>by
  rw[Q2,zCA];rw[zAk]at h1;unfold ZG;by_cases hk:k<b.ins.length
  ·rw[QD (by omega),zGF (by rw[GK,G5];omega),zGP (a:=0) (by rw[G5];omega)];rw[QE,List.getElem?_range (by omega)];show ((0:Int),((k.toNat:Nat):Int))=_;rw[show ((k.toNat:Nat):Int)=k by omega]
  ·rw[QI (by omega),zFc (by rw[GK,G5];omega),GK,G5];have hl:=zJF L;rw[zGP (a:=default) (by omega),show k.toNat - b.ins.length=(k - b.ins.length).toNat by omega,zCa L _ (by omega) (by omega)]
theorem zNa {T:List LType} {F:List LFn} {f r:Int} (h0:0<=r) (h1:r<yL ((ZH T F f).parts.length:Int) (zQ F f)):
  (psF T F f).getD r.toNat default=if r<((ZH T F f).parts.length:Int) then (-1,-1) else ZG (zQ F f) (r - ((ZH T F f).parts.length:Int)):=by
 unfold psF zDu;unfold yL at h1;split
 ·rename_i h;rw[zGF (by rw[Gd];omega),zN3 (by omega)]
 ·rename_i h;rw[zFc (by rw[Gd];omega),Gd,show r.toNat - (ZH T F f).parts.length=(r - ((ZH T F f).parts.length:Int)).toNat by omega,zCa _ _ (by omega) (by omega)]
set_option maxRecDepth 100000
set_option maxRecDepth 100000
def RW (h:AHeap) (cs:List Value) (w:LWd):Prop:=cs=[I w.pos,W w.bits]/\w.bits<18446744073709551616/\ -9223372036854775808<=w.pos/\w.pos<=9223372036854775807
abbrev SlW (h:AHeap) (v:Value) (s:List LWd):Prop:=SlR 2 RW h v s
theorem SlW.ext {h h' v s} (k:SlW h v s) (e:Ext h h'):SlW h' v s:=SlR.ext (h:=h) (h':=h') (R:=RW) (fun cs a r=>r) k e
theorem SlW.bd {h v s} (k:SlW h v s):BdW s:=fun w hw=>by
 obtain⟨i,hi,e⟩:=JS.1 hw;obtain⟨cs,⟨_,h2,_⟩,_⟩:=k.at hi;rw[<-e];exact h2
def zQ2:ACode:=(oV (oR [oZ 2]) (oV (oR [oM 3 0,oC .geq 4 3 0,oM 5 4,oG 5 (oM 6 0),oG 5 (oC .lss 7 6 1048576),oP 8 5 7,oM 2 8]) .ret))
theorem zMk (h:AHeap) (n:Int):WC Tryz.prog tb 186 [I n] h fun r h'=>r= .bool (decide (0<=n)&&decide (n<1048576))/\h=h':=by
 refine en 9 [(2,none)] zQ2 ?_;refine go ?_;repeat' (first|(refine WX.br (fun hb=> ?_) (fun hb=> ?_)<;>(try simp only[DB]at hb)<;>refine go ?_)|(refine WO.sp (fun hb=> ?_) (fun hb=> ?_)<;>(try simp only[DB]at hb)<;>refine go ?_))<;>refine rt ?_<;>exact⟨by simp[one, *]<;>omega,rfl⟩
def zSG:ACode:=(oV (oR [oK 4 (.int .u64 0)]) (oV (oR [oM 5 0,oM 6 1,oB .or 7 5 6,oM 4 7]) .ret))
theorem zTA (h:AHeap) (a b:Nat) (ha:a<18446744073709551616) (hb:b<18446744073709551616):WC Tryz.prog tb 184 [W a,W b] h fun r h'=>r=W (a|||b)/\h=h':=by
 refine en 8 [(4,none)] zSG ?_;refine WO.bin zT zT (zPR ha hb).1 ?_;refine gr ?_;exact⟨rfl,rfl⟩
def zQc:ACode:=(oV (oR [oK 4 (.int .u64 0)]) (oV (oR [oM 5 0,oM 6 1,oB .andNot 7 5 6,oM 4 7]) .ret))
theorem zNN (h:AHeap) (a b:Nat) (ha:a<18446744073709551616) (hb:b<18446744073709551616):WC Tryz.prog tb 187 [W a,W b] h fun r h'=>r=W (zC1 a b)/\h=h':=by
 refine en 8 [(4,none)] zQc ?_;refine WO.bin zT zT (zPW ha hb).1 ?_;refine gr ?_;exact⟨rfl,rfl⟩
section
variable {P:Program} {tab:Tab} {t:Trie Value} {h:AHeap} {ds:List Deferred} {rd:Option Nat} {l:List AOper} {Q:AFr->AHeap->Prop}
theorem WO.ldG {d g off:Nat} {x:Operand} {cells:List Value} {v:Value} (hg:zk h g=some cells) (hr:cells[off]?=some v) (hx:Ope t x (.pointer (some ⟨g,off,none⟩))) (k:WO P tab l ⟨t.set d v,ds,rd⟩ h Q):
  WO P tab (⟨some d,none,.load false 1 x⟩::l) ⟨t,ds,rd⟩ h Q:=by
 have hx:ev t x= .pointer (some ⟨g,off,none⟩):=hx;have hlt:off<cells.length:=(QO.1 hr).1;have hc:cut cells off 1=some [v]:=by
  rw[yo (by omega),Qx hlt,Qn,GB];have:=(QO.1 hr).2;rw[this]
 refine WO.op v h rfl ?_ k;simp only[aop,hx,hg,Qs,cond_true,QP,hc,zG,QR,QK]
theorem WO.unA {d:Nat} {op:UnOp} {x:Operand} {vx v:Value} (hx:Ope t x vx) (hv:unV op vx=some v) (k:WO P tab l ⟨t.set d v,ds,rd⟩ h Q):WO P tab (⟨some d,none,.un op x⟩::l) ⟨t,ds,rd⟩ h Q:=by
 have hx:ev t x=vx:=hx;exact WO.op v h rfl (by simp only[aop,hx,hv,QK]) k
end
set_option maxRecDepth 100000
def TzT (h:AHeap):Prop:=zk h 1=some tzV/\1<h.n
theorem TzT.ext {h h'} (t:TzT h) (e:Ext h h'):TzT h':=⟨e.row t.2 t.1,QG t.2 e.n⟩
def zRC:ACode:=(oV (oR [oN 2 0]) (oV (oV (oR [oM 3 0,⟨some 4,none,(.bin .eql (.tmp 3) (.const (.int .u64 0)))⟩]) (oJ 4 (oV (oR [oN 2 64]) .ret) .skip)) (oV (oR [oM 5 0,oM 6 0,⟨some 7,none,(.un .neg (.tmp 6))⟩,oB .and 8 5 7,⟨some 9,none,(.bin .mul (.tmp 8) (.const (.int .u64 285870213051353865)))⟩,⟨some 10,none,(.bin .shr (.tmp 9) (.const (.int .u64 58)))⟩,⟨some 11,none,(.idxArr 64 1 (.global 1) (.tmp 10))⟩,oL 12 11,⟨some 13,none,(.conv .i64 (.tmp 12))⟩,oM 2 13]) .ret)))
theorem zNj (h:AHeap) (n k:Nat) (T:TzT h) (hn:n<18446744073709551616) (hz:n≠0) (L:Low n k):WC Tryz.prog tb 132 [W n] h fun r h'=>r=I k/\h=h':=by
 refine en 14 [(2,none)] zRC ?_;have hz1:¬(n:Int)=0:=by omega
 have a1:=zVT hz hn;have a2:zd .and (W n) (W (18446744073709551616 - n))=some (W (2 ^ k)):=by rw[zSu hn (by omega),L.one]
 obtain⟨m,j,a3,a4,t1,t2⟩:=zPq L.lt;have hv:=zTC t1 t2;have hk:=L.lt;refine go ?_;refine WO.unA zT a1 ?_;refine go ?_;refine WO.bin zT zT a2 ?_;refine go ?_;refine WO.bin zT rfl a3 ?_;refine go ?_;refine WO.bin zT rfl a4 ?_;refine go ?_;refine WO.ldG (v:= .int .u8 (k:Int)) T.1 (off:=0+j * 1) (by rw[Q4,G9];exact hv) zT ?_;refine gr ?_;exact⟨rfl,rfl⟩
set_option maxRecDepth 100000
theorem zFf {s:List LWd} {i:Nat} (h:i<s.length):s.drop i=s.getD i default::s.drop (i+1):=by
 rw[Qx h,QE,QB h];rfl
theorem zDT {h:AHeap} {v:Value} {s:List LWd} {i:Nat} (k:SlW h v s) (hi:i<s.length):∃ cs,RW h cs (s.getD i default)/\Piece h v (i * 2) cs/\zMY v:=by
 obtain⟨cs,a,_,c⟩:=k.at hi;exact⟨cs,by rw[QE,QB hi];exact a,c,k.some hi⟩
def zHw (b:Bool):Int:=if b then 0 else 8
theorem zB3 {last:Int} {w:LWd} {l:List LWd} (h:w.pos<=last\/16384<=w.pos\/(w.bits:Int)=0):yF last (w::l)=false:=by
 unfold yF;rcases h with h|h|h
 ·rw[QT (show ¬last<w.pos by omega)];rfl
 ·rw[QT (show ¬w.pos<16384 by omega),Qm];rfl
 ·rw[QT (show ¬w.bits≠0 by omega),Qm];rfl
theorem zHm {last:Int} {w:LWd} {l:List LWd} (h1:last<w.pos) (h2:w.pos<16384) (h3:w.bits≠0):yF last (w::l)=yF w.pos l:=by
 rw[yF,QZ h1,QZ h2,QZ h3];rfl
def zOn:ACode:=(oV (oR [oB .lss 9 8 7]) (oV (oT 9 0) (oV (o5 1 (oV (oR [oI 2 10 6 8,oA 2 11 10,⟨some 5,none,(.alloc [(.int .i64 0),(.int .u64 0)])⟩,oS 2 5 11]) (oV (oV (oR [oF 0 12 5,oL 13 12,oM 14 3,oB .leq 15 13 14,oM 16 15,oH 16 (oF 0 17 5),oH 16 (oL 18 17),oH 16 (oC .geq 19 18 16384),oO 20 16 19,oM 21 20,oH 21 (oF 1 22 5),oH 21 (oL 23 22),⟨some 24,some (21,false),(.bin .eql (.tmp 23) (.const (.int .u64 0)))⟩,oO 25 21 24]) (oJ 25 (oV (oR [oN 2 8]) .ret) .skip)) (oR [oF 0 26 5,oL 27 26,oM 3 27])))) (oR [oC .add 28 8 1,oM 8 28]))))
def zUN:ACode:=(oV (oR [oN 2 0]) (oV (oR [oN 3 (-1)]) (oV (oV (oR [oM 6 0,oQ 7 6,oN 8 0]) (o5 0 (.loop zOn))) (oV (oR [oN 2 0]) .ret))))
theorem zCy (h:AHeap) (v:Value) (s:List LWd) (k:SlW h v s) (hl:(s.length:Int)<=1000000000):
  WC Tryz.prog tb 82 [v] h fun r h'=>r=I (zHw (yF (-1) s))/\Ext h h':=by
 refine en 29 [(2,none)] zUN ?_;refine WX.loopA [9,10,11,5,12,13,14,15,16,17,18,19,20,21,22,23,24,25,2,26,27,3,28,8] (by kernel_rfl) (fun i=>s.length - i) (fun i t h1=>Ext h h1/\zB t 8=I i/\i<=s.length/\∃ last:Int,zB t 3=I last/\Hid (yF (-1) s=yF last (s.drop i))) 0 ?_ ?_
 ·exact⟨Ext.refl _,sl_,QV _,-1,sl_,⟨rfl⟩⟩
 rintro i t h1 hsame ⟨e1,s8,hi,last,s3,hc⟩;have k1:=SlW.ext k e1;refine go ?_;refine WX.br (fun hb=> ?_) (fun hb=> ?_)<;>simp only[DB]at hb
 ·have hi':i<s.length:=by omega
  obtain⟨cs,⟨rfl,w1,w2,w3⟩,pc,hs⟩:=zDT k1 hi';have hd:=hc.out;rw[zFf hi']at hd;generalize s.getD i default=w at *;have hd:=Hid.mk hd;refine go ?_;refine WO.al ?_;intro p h2 e2 o2;refine go ?_;refine WO.stC0 (cs:=[I w.pos,W w.bits]) o2 e2 ?_;intro h3 e3 o3 u3;refine go ?_;refine go ?_;repeat' (first|(refine WX.br (fun hb=> ?_) (fun hb=> ?_)<;>(try simp only[DB]at hb)<;>refine go ?_)|(refine WO.sp (fun hb=> ?_) (fun hb=> ?_)<;>(try simp only[DB]at hb)<;>refine go ?_))
  ·refine rt ?_;exact⟨by rw[hd.out,zB3 (.inl hb)];rfl,e1.trans e3⟩
  ·refine rt ?_;exact⟨by rw[hd.out,zB3 (.inr (.inl hb))];rfl,e1.trans e3⟩
  ·refine rt ?_;exact⟨by rw[hd.out,zB3 (.inr (.inr hb))];rfl,e1.trans e3⟩
  ·refine zA (i+1) (by omega) ⟨e1.trans e3,sln,by omega,w.pos,sl_,⟨?_⟩⟩;rw[hd.out];exact zHm (by omega) (by omega) (by omega)
 ·refine gr ?_;have:=hc.out;rw[show i=s.length by omega,List.drop_length]at this;exact⟨by rw[this];rfl,e1⟩
theorem zUw {n:Int} (h0:0<=n) (h1:n<9223372036854775808):zd .quo (I n) (I 64)=some (I (n / 64)):=by
 simp only[zd,I,Qv];rw[QD (by decide),Gw h0,zCu (by omega) (by omega)]
theorem zOd {n:Int} (h0:0<=n):zd .rem (I n) (I 64)=some (I (n % 64)):=by
 simp only[zd,I,Qv];rw[QD (by decide),Int.tmod_eq_emod_of_nonneg h0]
theorem zFG (w:LWd) (s:List LWd):(zv (w::s)).length=(zAS w.bits).length+(zv s).length:=by
 unfold zv;simp
theorem zOp (b:Nat):(zAS b).length<=64:=by
 have:=List.length_filter_le b.testBit (List.range 64);rw[G5]at this;exact this
set_option maxRecDepth 100000
abbrev zFW (b:Nat) (h:AHeap) (v:Value) (s:List LWd):Prop:=OwnR 2 RW b h v s
theorem RW.dep {h:AHeap} {w:LWd} (h1:w.bits<18446744073709551616) (h2: -9223372036854775808<=w.pos) (h3:w.pos<=9223372036854775807) (D:Nat->Prop):Dep RW h [I w.pos,W w.bits] w D:=
 fun _ _ _=>⟨rfl,h1,h2,h3⟩
def zUM (fv:Value) (f:Nat->Nat->Nat):Prop:=∀ (h:AHeap) (a b:Nat),a<18446744073709551616->b<18446744073709551616->WV Tryz.prog tb fv [W a,W b] h fun r h'=>r=W (f a b)/\h=h'
def zQy:ACode:=(oV (oR [oX 1 0,oN 2 0]) (oV (oR [oF 0 3 1,oL 4 3,oM 2 4]) .ret))
theorem Zx (h:AHeap) (w:LWd):WC Tryz.prog tb 207 [.agg #[I w.pos,W w.bits]] h fun r h'=>r=I w.pos/\Ext h h':=by
 refine en 5 [(2,none)] zQy ?_;refine WO.bx ?_;intro p h1 e1 o1;refine gr ?_;exact⟨rfl,e1⟩
def zJ8 (p:Int) (v:Nat) (out:List LWd):List LWd:=if v=0 then out else out++[⟨p,v⟩]
theorem zAQ (p:Int) (v:Nat) (out s:List LWd):zJ8 p v out++s=out++zAm p v s:=by
 unfold zJ8 zAm;split<;>simp
structure PutS (hB h:AHeap) (b:Nat) (p5 p6 fv:Value) (out:List LWd):Prop where
 e:Ext hB h
 o5:OwnC hB h p5 [fv]
 bb:hB.n<=b/\b<=h.n
 p5b:∀ g,p5= .pointer (some ⟨g,0,none⟩)->g<b
 p6b:∀ g,p6= .pointer (some ⟨g,0,none⟩)->g<b
 ne:p5≠p6
 v:∃ v,OwnC hB h p6 [v]/\zFW b h v out
theorem zBv {hB h h':AHeap} {p:Value} {cells:List Value} {b vn vk:Nat} {va:Option Addr} (o:OwnC hB h p cells) (hb:∀ g,p= .pointer (some ⟨g,0,none⟩)->g<b) (hv:∀ g,va=some ⟨g,0,none⟩->b<=g)
  (keep:∀ k,k<h.n->(∀ n k',Value.slice va vn vk≠ .slice (some ⟨k,0,none⟩) n k')->h'.get k=h.get k) (hn:h.n<=h'.n):OwnC hB h' p cells:=by
 obtain⟨g,g1,g2,rfl,g4⟩:=o;refine⟨g,g1,QG g2 hn,rfl,(keep g g2 fun n k' e=> ?_).trans g4⟩;cases e;have h1:=hb g rfl;have h2:=hv g rfl;omega
theorem zFP {hB h h':AHeap} {p q:Value} {cells:List Value} (o:OwnC hB h p cells) (u:UpdC q h h') (hne:p≠q):OwnC hB h' p cells:=by
 obtain⟨g,g1,g2,rfl,g4⟩:=o;exact⟨g,g1,QG g2 u.1,rfl,(u.2 g g2 fun e=>hne e.symm).trans g4⟩
theorem YV {α:Type} {c b:Nat} {R:AHeap->List Value->α->Prop} {h:AHeap} {v:Value} {xs:List α} (ow:OwnR c R b h v xs):∃ a n k,v= .slice a n k/\∀ g,a=some ⟨g,0,none⟩->b<=g/\g<h.n:=by
 rcases ow with ⟨rfl,_⟩|⟨g,_,_,g1,g2,rfl,_⟩
 ·exact⟨_,_,_,rfl,fun g e=>by cases e⟩
 ·exact⟨_,_,_,rfl,fun g' e=>by cases e;exact⟨g1,g2⟩⟩
def zSf:ACode:=(oV (oR [oX 5 0,oX 6 1]) (oV (oR [oL 9 3,oF 1 10 5,oL 11 10,oF 1 12 6,oL 13 12,⟨some 14,none,(.call (.tmp 9) [(.tmp 11),(.tmp 13)])⟩,oM 8 14]) (oV (oR [oM 15 8,⟨some 16,none,(.bin .neq (.tmp 15) (.const (.int .u64 0)))⟩]) (oJ 16 (oR [oL 17 4,oM 18 2,oM 19 8,⟨some 20,none,(.build [(.int .i64 0),(.int .u64 0)] [(0,1,(.tmp 18)),(1,1,(.tmp 19))])⟩,⟨some 21,none,(.buildSlice 1 2 [(.int .i64 0),(.int .u64 0)] [(0,2,(.tmp 20))])⟩,oY 2 22 17 21,oS 1 4 22]) .skip))))
theorem zBI (hB h:AHeap) (b:Nat) (p5 p6 fv:Value) (f:Nat->Nat->Nat) (hf:zUM fv f) (out:List LWd) (x y:LWd) (at':Int) (S:PutS hB h b p5 p6 fv out) (hx:x.bits<18446744073709551616) (hy:y.bits<18446744073709551616) (hl:out.length<=100000)
  (hz:f x.bits y.bits<18446744073709551616) (ha: -9223372036854775808<=at'/\at'<=9223372036854775807) (hm:h.mark<=h.n):
  WC Tryz.prog tb 208 [.agg #[I x.pos,W x.bits],.agg #[I y.pos,W y.bits],I at',p5,p6] h fun r h'=>PutS hB h' b p5 p6 fv (zJ8 at' (f x.bits y.bits) out)/\h.n<=h'.n/\(∀ k∈h'.wr,k∈h.wr\/hB.n<=k)/\
   (∀ p cells,OwnC hB h p cells->p≠p6->(∀ g,p= .pointer (some ⟨g,0,none⟩)->g<b)->OwnC hB h' p cells):=by
 obtain⟨e0,o5,⟨b1,b2⟩,h5,h6,hne,v,o6,ow⟩:=S;obtain⟨va,vn,vk,rfl,hvn⟩:=YV ow;refine en 23 [] zSf ?_;refine WO.bx ?_;intro p3 h1 e1 o3;refine go ?_;refine WO.bx ?_;intro p4 h2 e2 o4;have o3:=o3.ext e2;have o5':=o5.ext (e1.trans e2);have o6':=o6.ext (e1.trans e2);have ow':=OwnR.ext ow (e1.trans e2);have e02:=e0.trans (e1.trans e2);have hn12:=(e1.trans e2).n;refine go ?_;refine WO.conV (hf h2 x.bits y.bits hx hy) ?_;rintro _ _ ⟨rfl,rfl⟩;have hw12:h2.wr=h.wr:=(e1.trans e2).wr hm;refine go ?_;refine WX.br (fun hc=> ?_) (fun hc=> ?_)<;>simp only[DB]at hc
 ·refine go ?_;refine WO.apRw (b:=b) (R:=RW) (h:=h2) ⟨at',f x.bits y.bits⟩ (fun _=>False) ow' e02 b1 (by omega) (by decide) hl (RW.dep hz ha.1 ha.2 _) (fun k hk=>hk.elim) (fun _ _ _ _ h=>h) ?_;intro v' h3 lit e3 ow3 n3 keep3 w3;obtain⟨va',vn',vk',rfl,hvn'⟩:=YV ow3;have hvb:∀ g,va=some ⟨g,0,none⟩->b<=g:=fun g e=>(hvn g e).1;have o6'':OwnC hB h3 p6 [.slice va vn vk]:=zBv o6' h6 hvb keep3 n3;refine go ?_;refine WO.stC0w (cs:=[.slice va' vn' vk']) o6'' e3 ?_;intro h4 e4 o4' u4 w4;refine go ?_;refine rtN ?_;refine⟨⟨e4,zFP (zBv o5' h5 hvb keep3 n3) u4 hne,⟨b1,by have:=u4.1;omega⟩,h5,h6,hne,_,o4',?_⟩,by have:=u4.1;omega,fun k hk=> ?_,fun p cells o hp hpb=>zFP (zBv (o.ext (e1.trans e2)) hpb hvb keep3 n3) u4 hp⟩
  ·unfold zJ8;rw[QD (by omega)];refine OwnR.upd ow3 (fun k k1 k2=>u4.2 k k2 fun e=> ?_) u4.1;have:=h6 k e;omega
  ·rcases w4 k hk with h|h
   ·rcases w3 k h with h|h
    ·rw[hw12]at h;exact .inl h
    ·exact .inr (by omega)
   ·exact .inr h
 ·refine go ?_;refine rtN ?_;refine⟨⟨e02,o5',⟨b1,by omega⟩,h5,h6,hne,_,o6',?_⟩,hn12,fun k hk=> ?_,fun p cells o _ _=>o.ext (e1.trans e2)⟩
  ·unfold zJ8;rw[QI (by omega)];exact ow'
  ·rw[hw12]at hk;exact .inl hk
theorem PutS.enter {hB h X:AHeap} {b:Nat} {p5 p6 fv:Value} {out:List LWd} (S:PutS hB h b p5 p6 fv out) (e:Ext (inC (zC 0 h)) X):PutS {hB with mark:=X.n,wr:=[]} (inC X) b p5 p6 fv out:=by
 obtain⟨e0,o5,⟨b1,b2⟩,h5,h6,hne,v,o6,ow⟩:=S;have o5:OwnC hB X p5 [fv]:=OwnC.ext (h:=inC (zC 0 h)) o5 e;have o6:OwnC hB X p6 [v]:=OwnC.ext (h:=inC (zC 0 h)) o6 e;have ow:zFW b X v out:=OwnR.upd ow (fun k _ hk=>e.get k hk) e.n;have hn:h.n<=X.n:=e.n;refine⟨⟨QW e0.n hn,fun g hg=>(e.get g (QG hg e0.n)).trans (e0.get g hg),fun w=>e.wf (e0.wf w),rfl,fun _=>rfl⟩,o5,⟨b1,QW b2 hn⟩,h5,h6,hne,v,o6,OwnR.upd ow (fun _ _ _=>rfl) (QF _)⟩
theorem PutS.leave {hB h h':AHeap} {b m:Nat} {p5 p6 fv:Value} {out:List LWd} (S:PutS {hB with mark:=m,wr:=[]} h' b p5 p6 fv out) (e:Ext hB h):PutS hB (zc h h') b p5 p6 fv out:=by
 obtain⟨e0,o5,⟨b1,b2⟩,h5,h6,hne,v,o6,ow⟩:=S;exact⟨⟨e0.n,e0.get,fun w=>e0.wf w,e.mark,fun hm=>e.wr hm⟩,o5,⟨b1,b2⟩,h5,h6,hne,v,o6,OwnR.upd ow (fun _ _ _=>rfl) (QF _)⟩
theorem zKb {f:Nat->Nat->Nat} {A B:List LWd} (hA:0<A.length) (h:B.length=0\/(A.getD 0 default).pos<(B.getD 0 default).pos):zn f A B=zAm (A.getD 0 default).pos (f (A.getD 0 default).bits 0) (zn f (A.drop 1) B):=by
 cases A with
 |nil=>simp at hA
 |cons x a=>
  cases B with
  |nil=>rw[zn];rfl
  |cons y b=>
   have h:x.pos<y.pos:=h.resolve_left (by simp);rw[zn,QI h];rfl
theorem zKL {f:Nat->Nat->Nat} {A B:List LWd} (hB:0<B.length) (h:A.length=0\/(B.getD 0 default).pos<(A.getD 0 default).pos):zn f A B=zAm (B.getD 0 default).pos (f 0 (B.getD 0 default).bits) (zn f A (B.drop 1)):=by
 cases B with
 |nil=>simp at hB
 |cons y b=>
  cases A with
  |nil=>rw[zn];rfl
  |cons x a=>
   have h:y.pos<x.pos:=h.resolve_left (by simp);rw[zn,QD (by omega),QI h];rfl
theorem zRn {f:Nat->Nat->Nat} {A B:List LWd} (hA:0<A.length) (hB:0<B.length) (h:(A.getD 0 default).pos=(B.getD 0 default).pos):zn f A B=zAm (A.getD 0 default).pos (f (A.getD 0 default).bits (B.getD 0 default).bits) (zn f (A.drop 1) (B.drop 1)):=by
 cases A with
 |nil=>simp at hA
 |cons x a=>
  cases B with
  |nil=>simp at hB
  |cons y b=>
   have h:x.pos=y.pos:=h;rw[zn,QD (by omega),QD (by omega)];rfl
theorem zA0 {p:Int} {v:Nat} {out:List LWd}:(zJ8 p v out).length<=out.length+1:=by
 unfold zJ8;split<;>simp
theorem zK1 {h h':AHeap} (e:Ext (inC (zC 0 h)) h'):Ext h (zc h (inC h')):=⟨e.n,e.get,fun w=>e.wf w,rfl,fun _=>rfl⟩
theorem zIL {h h' h2:AHeap} (e:Ext (inC (zC 0 h)) h') (e2:Ext (inC h') h2):Ext h (zc h (inC h2)):=⟨QW e.n e2.n,fun g hg=>(e2.get g (QG hg e.n)).trans (e.get g hg),fun w=>e2.wf (e.wf w),rfl,fun _=>rfl⟩
theorem PutS.ext {hB h h':AHeap} {b:Nat} {p5 p6 fv:Value} {out:List LWd} (S:PutS hB h b p5 p6 fv out) (e:Ext h h'):PutS hB h' b p5 p6 fv out:=by
 obtain⟨e0,o5,⟨b1,b2⟩,h5,h6,hne,v,o6,ow⟩:=S;exact⟨e0.trans e,o5.ext e,⟨b1,QW b2 e.n⟩,h5,h6,hne,v,o6.ext e,OwnR.ext ow e⟩
theorem zI7 (h:AHeap):zc h (inC (zC 0 h))=h:=rfl
def zM4:ACode:=(oV (oV (oR [oM 9 0,oQ 10 9,oC .gtr 11 10 0,oM 12 11,oH 12 (oM 13 1),oH 12 (oQ 14 13),oH 12 (oC .gtr 15 14 0),oO 16 12 15]) (oT 16 0)) (o5 1 (o5 2 (oV (o6 [oM 35 1,oQ 36 35,oC .eql 37 36 0,oM 38 37,oH 38 (oM 39 0),oH 38 (oQ 40 39),oH 38 (oC .gtr 41 40 0),oH 38 (oM 42 41),oG 42 (oM 43 2),oG 42 (oM 44 0),(⟨some 45,some (42,true),(.idx 2 (.tmp 44) (.const (.int .i64 0)))⟩,[]),oG 42 (oA 2 46 45),(⟨some 47,some (42,true),(.call (.tmp 43) [(.tmp 46)])⟩,[]),oG 42 (oM 48 2),oG 42 (oM 49 1),(⟨some 50,some (42,true),(.idx 2 (.tmp 49) (.const (.int .i64 0)))⟩,[]),(oG 42 (oA 2 51 50),[12]),(⟨some 52,some (42,true),(.call (.tmp 48) [(.tmp 51)])⟩,[]),oG 42 (oB .lss 53 47 52),oH 38 (oP 54 42 53),oO 55 38 54,oM 34 55]) (oJ 34 (oV (o6 [oM 56 3,oM 57 0,(⟨some 58,none,(.idx 2 (.tmp 57) (.const (.int .i64 0)))⟩,[]),oA 2 59 58,oA 2 60 8,oM 61 2,oM 62 0,(⟨some 63,none,(.idx 2 (.tmp 62) (.const (.int .i64 0)))⟩,[]),oA 2 64 63,(⟨some 65,none,(.call (.tmp 61) [(.tmp 64)])⟩,[3,4]),(⟨some 66,none,(.call (.tmp 56) [(.tmp 59),(.tmp 60),(.tmp 65)])⟩,[])]) (oR [oM 67 0,⟨some 68,none,(.slice 2 (.tmp 67) (some (.const (.int .i64 1))) none none)⟩,oM 0 68])) (oV (o6 [oM 70 0,oQ 71 70,oC .eql 72 71 0,oM 73 72,oH 73 (oM 74 2),oH 73 (oM 75 1),(⟨some 76,some (73,false),(.idx 2 (.tmp 75) (.const (.int .i64 0)))⟩,[]),oH 73 (oA 2 77 76),(⟨some 78,some (73,false),(.call (.tmp 74) [(.tmp 77)])⟩,[]),oH 73 (oM 79 2),oH 73 (oM 80 0),(⟨some 81,some (73,false),(.idx 2 (.tmp 80) (.const (.int .i64 0)))⟩,[]),(oH 73 (oA 2 82 81),[8]),(⟨some 83,some (73,false),(.call (.tmp 79) [(.tmp 82)])⟩,[]),oH 73 (oB .lss 84 78 83),oO 85 73 84,oM 69 85]) (oJ 69 (oV (o6 [oM 86 3,oA 2 87 8,oM 88 1,(⟨some 89,none,(.idx 2 (.tmp 88) (.const (.int .i64 0)))⟩,[]),oA 2 90 89,oM 91 2,oM 92 1,(⟨some 93,none,(.idx 2 (.tmp 92) (.const (.int .i64 0)))⟩,[]),oA 2 94 93,(⟨some 95,none,(.call (.tmp 91) [(.tmp 94)])⟩,[1,4]),(⟨some 96,none,(.call (.tmp 86) [(.tmp 87),(.tmp 90),(.tmp 95)])⟩,[])]) (oR [oM 97 1,⟨some 98,none,(.slice 2 (.tmp 97) (some (.const (.int .i64 1))) none none)⟩,oM 1 98])) (oV (o6 [oM 17 3,oM 18 0,(⟨some 19,none,(.idx 2 (.tmp 18) (.const (.int .i64 0)))⟩,[]),oA 2 20 19,oM 21 1,(⟨some 22,none,(.idx 2 (.tmp 21) (.const (.int .i64 0)))⟩,[]),oA 2 23 22,oM 24 2,oM 25 0,(⟨some 26,none,(.idx 2 (.tmp 25) (.const (.int .i64 0)))⟩,[]),oA 2 27 26,(⟨some 28,none,(.call (.tmp 24) [(.tmp 27)])⟩,[3,6]),(⟨some 29,none,(.call (.tmp 17) [(.tmp 20),(.tmp 23),(.tmp 28)])⟩,[])]) (o6 [oM 30 0,(⟨some 31,none,(.slice 2 (.tmp 30) (some (.const (.int .i64 1))) none none)⟩,[]),oM 32 1,(⟨some 33,none,(.slice 2 (.tmp 32) (some (.const (.int .i64 1))) none none)⟩,[]),oM 0 31,oM 1 33])))))))))
def zQl:ACode:=(oV (oR [⟨some 8,none,(.alloc [(.int .i64 0),(.int .u64 0)])⟩]) (o5 0 (.loop zM4)))
theorem zNr (hB h:AHeap) (va vb p5 p6 fv:Value) (f:Nat->Nat->Nat) (hf:zUM fv f) (hfz:∀ x y,x<18446744073709551616->y<18446744073709551616->f x y<18446744073709551616) (A B:List LWd) (ka:SlW hB va A) (kb:SlW hB vb B) (la:A.length<=1000) (lb:B.length<=1000)
  (e:Ext hB h) (hm:hB.mark<=hB.n) (o5:OwnC hB h p5 [fv]) (o6:OwnC hB h p6 [.slice none 0 0]) (hne:p5≠p6):
  WC Tryz.prog tb 206 [va,vb,.func (.func 207) #[] #[],.func (.func 208) #[] #[p5,p6]] h fun r h'=>Ext hB h'/\∃ v b,hB.n<=b/\OwnC hB h' p6 [v]/\zFW b h' v (zn f A B)/\∀ g,p6= .pointer (some ⟨g,0,none⟩)->g<b:=by
 refine en 99 [] zQl ?_;refine WO.al ?_;intro p8 h0 e0 o8;refine go ?_;obtain⟨g8,g81,g82,rfl,g84⟩:=id o8;have o8:=o8.since e;have S0:PutS hB h0 h0.n p5 p6 fv []:=⟨e.trans e0,o5.ext e0,⟨(e.trans e0).n,QF _⟩,fun g eg=>by
  obtain⟨g',_,a,b,_⟩:=o5;rw[b]at eg;cases eg;have:=e0.n;omega,fun g eg=>by
  obtain⟨g',_,a,b,_⟩:=o6;rw[b]at eg;cases eg;have:=e0.n;omega,hne,_,o6.ext e0,OwnR.nil⟩
 have h86:Value.pointer (some ⟨g8,0,none⟩)≠p6:=fun eq=>by
  obtain⟨g',_,a,b,_⟩:=o6;rw[b]at eq;cases eq;omega
 have hb8:∀ g,Value.pointer (some ⟨g8,0,none⟩)= .pointer (some ⟨g,0,none⟩)->g<h0.n:=fun g eg=>by cases eg;exact g82
 generalize hbb:h0.n=bb at S0 hb8;generalize Value.pointer (some ⟨g8,0,none⟩)=p8 at *;clear e0 g81 g82 g84 o5 o6;refine WX.loopA [9,10,11,12,13,14,15,16,35,36,37,38,39,40,41,42,43,44,45,46,47,48,49,50,51,52,53,54,55,34,56,57,58,59,60,61,62,63,64,65,66,67,68,0,70,71,72,73,74,75,76,77,78,79,80,81,82,83,84,85,69,86,87,88,89,90,91,92,93,94,95,96,97,98,1,17,18,19,20,21,22,23,24,25,26,27,28,29,30,31,32,33,0,1] (by kernel_rfl) (fun p:List LWd×List LWd=>p.1.length+p.2.length) (fun p t h1=>∃ va' vb' out,zB t 0=va'/\zB t 1=vb'/\SlW hB va' p.1/\SlW hB vb' p.2/\PutS hB h1 bb p5 p6 fv out/\OwnC hB h1 p8 [I 0,W 0]/\Hid (zn f A B=out++zn f p.1 p.2)/\p.1.length<=1000/\p.2.length<=1000/\out.length+(p.1.length+p.2.length)<=2000) (A,B) ?_ ?_
 ·exact⟨va,vb,[],sl_,sl_,ka,kb,S0,o8,⟨rfl⟩,la,lb,by simp only[Gh];omega⟩
 clear S0 o8 ka kb la lb;rintro⟨a,b⟩ t h1 hsame ⟨va',vb',out,s0,s1,ka,kb,S,o8,hI,la,lb,lo⟩;simp only at ka kb hI la lb lo;have e1:=S.e;have ka1:=SlW.ext ka e1;have kb1:=SlW.ext kb e1;have hm1:h1.mark<=h1.n:=by have:=e1.mark;have:=e1.n;omega
 have hmB:h1.mark<=hB.n:=by have:=e1.mark;omega
 by_cases hA:0<a.length;case neg=>
  by_cases hBl:0<b.length;case neg=>
   refine go ?_;refine rtN ?_;obtain⟨e1,o5,⟨b1,b2⟩,h5,h6,hne,v,o6,ow⟩:=S;have:zn f a b=[]:=by
    have ha:a=[]:=Ga (by omega);have hb:b=[]:=Ga (by omega);subst ha hb;rw[zn]
   rw[hI.out,this,Gz];exact⟨e1,v,bb,b1,o6,ow,h6⟩
  have hmg:=zKL (f:=f) hBl (.inl (by omega:a.length=0));have kaX:SlW (inC (zC 0 h1)) va' a:=ka1;have kbX:SlW (inC (zC 0 h1)) vb' b:=kb1;have o8X:OwnC hB (inC (zC 0 h1)) p8 [I 0,W 0]:=o8;obtain⟨cb,⟨rfl,y1,y2,y3⟩,pcb,hsb⟩:=yB kb1 hBl;have pcbX:=(pcb _ (Ext.refl _)).2;have pcbX:Piece (inC (zC 0 h1)) vb' (0 * 2) [I (b.getD 0 default).pos,W (b.getD 0 default).bits]:=pcbX;obtain⟨qa,qn,qk,hqv,hqb⟩:=zBU (i:=0) kb1 hBl;generalize b.getD 0 default=y at *;have hI:=hI.out.trans (congrArg (out++·) hmg);have hI:=Hid.mk hI;clear hmg;refine go ?_;refine WX.regionU2 0 rfl rfl ?_;refine goU ?_;refine zS3 ?_;refine goU ?_;rw[zI7];refine WX.regionU2 0 rfl rfl ?_;refine goU ?_;refine zT8 ?_;refine goU ?_;rw[zI7];refine WX.regionU2 0 rfl rfl ?_;refine goU ?_;refine WO.conV (WV.func (Zx _ y)) ?_;rintro _ h2 ⟨rfl,e2⟩;refine nE e2 ?_;have S2:=S.enter e2;refine goU ?_;refine WO.conV (WV.func (zBI _ (inC h2) bb p5 p6 fv f hf out ⟨0,0⟩ y y.pos S2 (by decide) y1 (by omega) (hfz _ _ (by decide) y1) ⟨y2,y3⟩ (QF _))) ?_;rintro _ h3 ⟨S3,n3,w3,f3⟩;refine WO.nil ?_;refine zIY (fun k hk=> ?_) n3 ?_
  ·rcases w3 k hk with h|h
   ·cases h
   ·have h:hB.n<=k:=h;omega
  have S4:=S3.leave e1;have o84:OwnC hB (zc h1 h3) p8 [I 0,W 0]:=f3 p8 _ (by have:=OwnC.ext (h:=inC (zC 0 h1)) o8 e2;exact this) h86 hb8;generalize zc h1 h3=h4 at S4 o84 |-;obtain⟨vb2,hsl,kb2⟩:=zAR (i:=1) kb hBl (by omega);refine goU ?_;refine WO.slLo (i:=1) (hy:=rfl) hsl ?_;refine go ?_;have hpl:=zA0 (p:=y.pos) (v:=f 0 y.bits) (out:=out);have hdl:(b.drop 1).length=b.length - 1:=GO ..;refine zA (a,b.drop 1) (by simp only;omega) ⟨va',vb2,_,sl_,sl_,ka,kb2,S4,o84,⟨?_⟩,la,by simp only;omega,by simp only;omega⟩;rw[zAQ];exact hI.out
 by_cases hBl:0<b.length;case neg=>
  have hmg:=zKb (f:=f) hA (.inl (by omega:b.length=0));have kaX:SlW (inC (zC 0 h1)) va' a:=ka1;have kbX:SlW (inC (zC 0 h1)) vb' b:=kb1;have o8X:OwnC hB (inC (zC 0 h1)) p8 [I 0,W 0]:=o8;obtain⟨ca,⟨rfl,y1,y2,y3⟩,pca,hsa⟩:=yB ka1 hA;have pcaX:=(pca _ (Ext.refl _)).2;have pcaX:Piece (inC (zC 0 h1)) va' (0 * 2) [I (a.getD 0 default).pos,W (a.getD 0 default).bits]:=pcaX;generalize a.getD 0 default=y at *;have hI:=hI.out.trans (congrArg (out++·) hmg);have hI:=Hid.mk hI;clear hmg;refine go ?_;refine WX.regionU2 0 rfl rfl ?_;refine goU ?_;refine zTt ?_;refine goU ?_;rw[zI7];refine WX.regionU2 0 rfl rfl ?_;refine goU ?_;refine WO.conV (WV.func (Zx _ y)) ?_;rintro _ h2 ⟨rfl,e2⟩;refine nE e2 ?_;have S2:=S.enter e2;refine goU ?_;refine WO.conV (WV.func (zBI _ (inC h2) bb p5 p6 fv f hf out y ⟨0,0⟩ y.pos S2 y1 (by decide) (by omega) (hfz _ _ y1 (by decide)) ⟨y2,y3⟩ (QF _))) ?_;rintro _ h3 ⟨S3,n3,w3,f3⟩;refine WO.nil ?_;refine zIY (fun k hk=> ?_) n3 ?_
  ·rcases w3 k hk with h|h
   ·cases h
   ·have h:hB.n<=k:=h;omega
  have S4:=S3.leave e1;have o84:OwnC hB (zc h1 h3) p8 [I 0,W 0]:=f3 p8 _ (by have:=OwnC.ext (h:=inC (zC 0 h1)) o8 e2;exact this) h86 hb8;generalize zc h1 h3=h4 at S4 o84 |-;obtain⟨va2,hsl,ka2⟩:=zAR (i:=1) ka hA (by omega);refine goU ?_;refine WO.slLo (i:=1) (hy:=rfl) hsl ?_;refine go ?_;have hpl:=zA0 (p:=y.pos) (v:=f y.bits 0) (out:=out);have hdl:(a.drop 1).length=a.length - 1:=GO ..;refine zA (a.drop 1,b) (by simp only;omega) ⟨va2,vb',_,sl_,sl_,ka2,kb,S4,o84,⟨?_⟩,by simp only;omega,lb,by simp only;omega⟩;rw[zAQ];exact hI.out
 have kaX:SlW (inC (zC 0 h1)) va' a:=ka1;have kbX:SlW (inC (zC 0 h1)) vb' b:=kb1;have o8X:OwnC hB (inC (zC 0 h1)) p8 [I 0,W 0]:=o8;obtain⟨ca,⟨rfl,x1,x2,x3⟩,pca,hsa⟩:=yB ka1 hA;have pcaX:=(pca _ (Ext.refl _)).2;have pcaX:Piece (inC (zC 0 h1)) va' (0 * 2) [I (a.getD 0 default).pos,W (a.getD 0 default).bits]:=pcaX;obtain⟨cb,⟨rfl,y1,y2,y3⟩,pcb,hsb⟩:=yB kb1 hBl;have pcbX:=(pcb _ (Ext.refl _)).2;have pcbX:Piece (inC (zC 0 h1)) vb' (0 * 2) [I (b.getD 0 default).pos,W (b.getD 0 default).bits]:=pcbX;obtain⟨qa,qn,qk,hqv,hqb⟩:=zBU (i:=0) kb1 hBl;obtain⟨ra,rn,rk,hrv,hrb⟩:=zBU (i:=0) ka1 hA;have hma:=fun h=>zKb (f:=f) hA (.inr h:b.length=0\/(a.getD 0 default).pos<(b.getD 0 default).pos);have hmb:=fun h=>zKL (f:=f) hBl (.inr h:a.length=0\/(b.getD 0 default).pos<(a.getD 0 default).pos);have hmc:=zRn (f:=f) hA hBl;generalize a.getD 0 default=x at *;generalize b.getD 0 default=y at *;have hma:=Hid.mk hma;have hmb:=Hid.mk hmb;have hmc:=Hid.mk hmc;refine go ?_;refine WX.regionU2 0 rfl rfl ?_;refine goU ?_;refine WO.conV (WV.func (Zx _ x)) ?_;rintro _ h2 ⟨rfl,e2⟩;refine nE e2 ?_;have e3:Ext h1 (zc h1 (inC h2)):=zK1 e2;have kaY:SlW (inC h2) va' a:=by have:=SlW.ext ka1 e3;exact this
 have kbY:SlW (inC h2) vb' b:=by have:=SlW.ext kb1 e3;exact this
 have pcbY:Piece (inC h2) vb' (0 * 2) [I y.pos,W y.bits]:=by have:=(pcb _ e3).2;exact this
 refine goU ?_;refine zKm ⟨qa,qn,qk,hqv,hqb⟩ ?_;refine goU ?_;refine WO.conV (WV.func (Zx _ y)) ?_;rintro _ h4 ⟨rfl,e4⟩;refine nE e4 ?_;have e5:Ext h1 (zc h1 (inC h4)):=zIL e2 e4;by_cases hlt:x.pos<y.pos
 ·have hI:=Hid.mk (hI.out.trans (congrArg (out++·) (hma.out hlt)));clear hma hmb hmc;refine goU ?_;generalize zc h1 (inC h4)=h5 at e5 |-;have S:=S.ext e5;have o8:=o8.ext e5;have e15:=e1.trans e5;have hmB:h5.mark<=hB.n:=by have:=e15.mark;omega
  have kaX:SlW (inC (zC 0 h5)) va' a:=by have:=SlW.ext ka1 e5;exact this
  have o8X:OwnC hB (inC (zC 0 h5)) p8 [I 0,W 0]:=o8;have pcaX:Piece (inC (zC 0 h5)) va' (0 * 2) [I x.pos,W x.bits]:=by have:=(pca _ e5).2;exact this
  refine WX.regionU2 0 rfl rfl ?_;refine goU ?_;refine WO.conV (WV.func (Zx _ x)) ?_;rintro _ h6 ⟨rfl,e6⟩;refine nE e6 ?_;have S2:=S.enter e6;refine goU ?_;refine WO.conV (WV.func (zBI _ (inC h6) bb p5 p6 fv f hf out x ⟨0,0⟩ x.pos S2 x1 (by decide) (by omega) (hfz _ _ x1 (by decide)) ⟨x2,x3⟩ (QF _))) ?_;rintro _ h3 ⟨S3,n3,w3,f3⟩;refine WO.nil ?_;refine zIY (fun k hk=> ?_) n3 ?_
  ·rcases w3 k hk with h|h
   ·cases h
   ·have h:hB.n<=k:=h;omega
  have S4:=S3.leave e15;have o84:OwnC hB (zc h5 h3) p8 [I 0,W 0]:=f3 p8 _ (by have:=OwnC.ext (h:=inC (zC 0 h5)) o8 e6;exact this) h86 hb8;generalize zc h5 h3=h7 at S4 o84 |-;obtain⟨va2,hsl,ka2⟩:=zAR (i:=1) ka hA (by omega);refine goU ?_;refine WO.slLo (i:=1) (hy:=rfl) hsl ?_;refine go ?_;have hpl:=zA0 (p:=x.pos) (v:=f x.bits 0) (out:=out);have hdl:(a.drop 1).length=a.length - 1:=GO ..;refine zA (a.drop 1,b) (by simp only;omega) ⟨va2,vb',_,sl_,sl_,ka2,kb,S4,o84,⟨?_⟩,by simp only;omega,lb,by simp only;omega⟩;rw[zAQ];exact hI.out
 refine goU ?_;generalize zc h1 (inC h4)=h5 at e5 |-;clear e3 kaY kbY pcbY e2 e4 kaX kbX o8X pcaX pcbX;have S:=S.ext e5;have o8:=o8.ext e5;have e15:=e1.trans e5;have hmB:h5.mark<=hB.n:=by have:=e15.mark;omega
 have ka5:=SlW.ext ka1 e5;have kb5:=SlW.ext kb1 e5;have kaX:SlW (inC (zC 0 h5)) va' a:=ka5;have kbX:SlW (inC (zC 0 h5)) vb' b:=kb5;have o8X:OwnC hB (inC (zC 0 h5)) p8 [I 0,W 0]:=o8;have pcaX:Piece (inC (zC 0 h5)) va' (0 * 2) [I x.pos,W x.bits]:=by have:=(pca _ e5).2;exact this
 have pcbX:Piece (inC (zC 0 h5)) vb' (0 * 2) [I y.pos,W y.bits]:=by have:=(pcb _ e5).2;exact this
 refine WX.regionU2 0 rfl rfl ?_;refine goU ?_;refine WO.conV (WV.func (Zx _ y)) ?_;rintro _ h2 ⟨rfl,e2⟩;refine nE e2 ?_;have e3:Ext h5 (zc h5 (inC h2)):=zK1 e2;have kaY:SlW (inC h2) va' a:=by have:=SlW.ext ka5 e3;exact this
 have pcaY:Piece (inC h2) va' (0 * 2) [I x.pos,W x.bits]:=by have:=(pca _ (e5.trans e3)).2;exact this
 have hrb5:ra.block<h5.n:=QG hrb e5.n;have hqb5:qa.block<h5.n:=QG hqb e5.n;refine goU ?_;refine zKm ⟨ra,rn,rk,hrv,hrb5⟩ ?_;refine goU ?_;refine WO.conV (WV.func (Zx _ x)) ?_;rintro _ h4 ⟨rfl,e4⟩;refine nE e4 ?_;have e6:Ext h5 (zc h5 (inC h4)):=zIL e2 e4;by_cases hgt:y.pos<x.pos
 ·have hI:=Hid.mk (hI.out.trans (congrArg (out++·) (hmb.out hgt)));clear hma hmb hmc;refine goU ?_;generalize zc h5 (inC h4)=h6 at e6 |-;have S:=S.ext e6;have o8:=o8.ext e6;have e16:=e15.trans e6;have hmB:h6.mark<=hB.n:=by have:=e16.mark;omega
  have kbX:SlW (inC (zC 0 h6)) vb' b:=by have:=SlW.ext kb5 e6;exact this
  have o8X:OwnC hB (inC (zC 0 h6)) p8 [I 0,W 0]:=o8;have pcbX:Piece (inC (zC 0 h6)) vb' (0 * 2) [I y.pos,W y.bits]:=by have:=(pcb _ (e5.trans e6)).2;exact this
  refine WX.regionU2 0 rfl rfl ?_;refine goU ?_;refine WO.conV (WV.func (Zx _ y)) ?_;rintro _ h7 ⟨rfl,e7⟩;refine nE e7 ?_;have S2:=S.enter e7;refine goU ?_;refine WO.conV (WV.func (zBI _ (inC h7) bb p5 p6 fv f hf out ⟨0,0⟩ y y.pos S2 (by decide) y1 (by omega) (hfz _ _ (by decide) y1) ⟨y2,y3⟩ (QF _))) ?_;rintro _ h3 ⟨S3,n3,w3,f3⟩;refine WO.nil ?_;refine zIY (fun k hk=> ?_) n3 ?_
  ·rcases w3 k hk with h|h
   ·cases h
   ·have h:hB.n<=k:=h;omega
  have S4:=S3.leave e16;have o84:OwnC hB (zc h6 h3) p8 [I 0,W 0]:=f3 p8 _ (by have:=OwnC.ext (h:=inC (zC 0 h6)) o8 e7;exact this) h86 hb8;generalize zc h6 h3=h8 at S4 o84 |-;obtain⟨vb2,hsl,kb2⟩:=zAR (i:=1) kb hBl (by omega);refine goU ?_;refine WO.slLo (i:=1) (hy:=rfl) hsl ?_;refine go ?_;have hpl:=zA0 (p:=y.pos) (v:=f 0 y.bits) (out:=out);have hdl:(b.drop 1).length=b.length - 1:=GO ..;refine zA (a,b.drop 1) (by simp only;omega) ⟨va',vb2,_,sl_,sl_,ka,kb2,S4,o84,⟨?_⟩,la,by simp only;omega,by simp only;omega⟩;rw[zAQ];exact hI.out
 have hI:=Hid.mk (hI.out.trans (congrArg (out++·) (hmc.out (by omega))));clear hma hmb hmc;refine goU ?_;generalize zc h5 (inC h4)=h6 at e6 |-;clear kaX kbX o8X pcaX pcbX kaY pcaY;have S:=S.ext e6;have o8:=o8.ext e6;have e16:=e15.trans e6;have hmB:h6.mark<=hB.n:=by have:=e16.mark;omega
 have kaX:SlW (inC (zC 0 h6)) va' a:=by have:=SlW.ext ka5 e6;exact this
 have kbX:SlW (inC (zC 0 h6)) vb' b:=by have:=SlW.ext kb5 e6;exact this
 have o8X:OwnC hB (inC (zC 0 h6)) p8 [I 0,W 0]:=o8;have pcaX:Piece (inC (zC 0 h6)) va' (0 * 2) [I x.pos,W x.bits]:=by have:=(pca _ (e5.trans e6)).2;exact this
 have pcbX:Piece (inC (zC 0 h6)) vb' (0 * 2) [I y.pos,W y.bits]:=by have:=(pcb _ (e5.trans e6)).2;exact this
 refine WX.regionU2 0 rfl rfl ?_;refine goU ?_;refine WO.conV (WV.func (Zx _ x)) ?_;rintro _ h7 ⟨rfl,e7⟩;refine nE e7 ?_;have S2:=S.enter e7;refine goU ?_;refine WO.conV (WV.func (zBI _ (inC h7) bb p5 p6 fv f hf out x y x.pos S2 x1 y1 (by omega) (hfz _ _ x1 y1) ⟨x2,x3⟩ (QF _))) ?_;rintro _ h3 ⟨S3,n3,w3,f3⟩;refine WO.nil ?_;refine zIY (fun k hk=> ?_) n3 ?_
 ·rcases w3 k hk with h|h
  ·cases h
  ·have h:hB.n<=k:=h;omega
 have S4:=S3.leave e16;have o84:OwnC hB (zc h6 h3) p8 [I 0,W 0]:=f3 p8 _ (by have:=OwnC.ext (h:=inC (zC 0 h6)) o8 e7;exact this) h86 hb8;generalize zc h6 h3=h8 at S4 o84 |-;obtain⟨va2,hsa2,ka2⟩:=zAR (i:=1) ka hA (by omega);obtain⟨vb2,hsb2,kb2⟩:=zAR (i:=1) kb hBl (by omega);refine goU ?_;refine WO.slLo (i:=1) (hy:=rfl) hsa2 ?_;refine go ?_;refine WO.slLo (i:=1) (hy:=rfl) hsb2 ?_;refine go ?_;have hpl:=zA0 (p:=x.pos) (v:=f x.bits y.bits) (out:=out);have hda:(a.drop 1).length=a.length - 1:=GO ..;have hdb:(b.drop 1).length=b.length - 1:=GO ..;refine zA (a.drop 1,b.drop 1) (by simp only;omega) ⟨va2,vb2,_,sl_,sl_,ka2,kb2,S4,o84,⟨?_⟩,by simp only;omega,by simp only;omega,by simp only;omega⟩;rw[zAQ];exact hI.out
end
end Go.Proofs.YteekipjpghikkaaGreatDoor
