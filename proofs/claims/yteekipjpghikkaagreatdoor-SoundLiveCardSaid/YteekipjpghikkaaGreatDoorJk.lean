/- What functions of the program come to in the abstract machine, and plain laws about it; no statement of the seat is proved in this text. -/
import Derived.Test.YteekipjpghikkaaGreatDoorJj
import Derived.Test.YteekipjpghikkaaGreatDoorJg
import Derived.Test.YteekipjpghikkaaGreatDoorJh
import Derived.Test.YteekipjpghikkaaGreatDoorJa
import Derived.Test.YteekipjpghikkaaGreatDoorAmV
set_option linter.unusedVariables false
set_option linter.unusedSimpArgs false
set_option maxHeartbeats 2000000
namespace Go.Proofs.YteekipjpghikkaaGreatDoor
noncomputable section
open Go.Am
theorem zBu {O:List Int} {n:Nat} (h:O.Nodup) (hr:∀ c∈O,0<=c/\c<(n:Int)):O.length<=n:=by
 have hs:O ⊆ (List.range n).map fun (i:Nat)=>(i:Int):=fun c hc=>by
  have:=hr c hc;exact Q0.2 ⟨c.toNat,GF.2 (by omega),by omega⟩
 have:=h.length_le_of_subset hs;simpa using this
theorem zMA (n:Nat):((List.range n).map fun (i:Nat)=>(i:Int)).Nodup:=by
 exact List.Pairwise.map (R:=(·≠·)) (S:=(·≠·)) (fun (i:Nat)=>(i:Int)) (fun a b hne (e:(a:Int)=b)=>hne (by omega)) List.nodup_range
theorem zL2 {T:List LType} {F:List LFn} {f:Int} (h:(zD T F f 0).2=0):(yR T F f).1.length=(zD T F f 0).1.length↔∀ c,0<=c->c<((zD T F f 0).1.length:Int)->Way (nxL (zD T F f 0).1) 0 c:=by
 obtain⟨h1,_,_,h4,_,h6,_⟩:=zBQ h;have hnd:=zDc h;have hle:=zBu hnd h6;rw[<-h1];constructor
 ·intro he c c0 c1;refine(Zr h).1 (JH fun hc=> ?_);have hco:c∉(zV T F f).1:=fun hm=>hc (by
   unfold zV at hm;unfold yR;rw[QC (fun e=>e h)]at hm |-;exact zC4.2 (List.mem_reverse.1 hm))
  have:=zBu (O:=c::(zV T F f).1) (n:=(zD T F f 0).1.length) (G9.2 ⟨hco,hnd⟩) (fun d hd=>by
   rcases Qi.1 hd with rfl|hd
   ·exact⟨c0,c1⟩
   ·exact h6 d hd)
  rw[Q2]at this;omega
 ·intro hw;have hs:((List.range (zD T F f 0).1.length).map fun (i:Nat)=>(i:Int)) ⊆ (zV T F f).1:=fun c hc=>by
   obtain⟨i,hi,rfl⟩:=Q0.1 hc;exact h4 _ ((Zr h).2 (hw _ (by omega) (by have:=GF.1 hi;omega)))
  have:=(zMA _).length_le_of_subset hs;simp at this;omega
def zR (F:List LFn) (f:Int):List LBlk:=(F.getD f.toNat default).blocks
def yZ (T:List LType) (F:List LFn) (f:Int):LType:=T.getD (F.getD f.toNat default).sig.toNat default
def ksF (T:List LType) (F:List LFn) (f:Int):List Int:=zHX (yZ T F f).parts (zR F f)
def psF (T:List LType) (F:List LFn) (f:Int):List (Int×Int):=zD3 (yZ T F f).parts.length (zR F f)
def zTK (T:List LType) (F:List LFn) (f b:Int):Prop:=
 (∀ i,i<((zR F f).getD b.toNat default).ins.length->Z9 T F (ksF T F f) (psF T F f) (nxL (zR F f)) (zR F f) (zO (zR F f) b (zR F f).length) b i)/\YY T F f (ksF T F f) (psF T F f) (nxL (zR F f)) (zR F f) b
def zDC (T:List LType) (F:List LFn) (f:Int):Prop:=
 (∀ c,0<=c->c<((zR F f).length:Int)->Way (nxL (zR F f)) 0 c)/\(f=0->(yZ T F f).parts=[]/\isT T 1 (yZ T F f).elem=true)/\∀ b,0<=b->b<((zR F f).length:Int)->zTK T F f b
def WfP (T:List LType) (F:List LFn):Prop:=∀ f,0<=f->f<(F.length:Int)->zDC T F f
theorem zDK (L:List LBlk):∀ n,n<=L.length->(YO (L.take n)).length=(yc L n).length
 |0,_=>by simp[YO,yc]
 |n+1,hn=>by
  rw[zA4 (by omega),QY,zDK L n (by omega)];show _=(yc L n++_).length;rw[QY,GK,GK,G5]
theorem zER (L:List LBlk):((YO L).length:Int)=zg L:=by
 unfold YO zg;induction L with
 |nil=>rfl
 |cons b L ih=>rw[List.flatMap_cons,QY,Qh,List.sum_cons,GK,<-ih];omega
theorem zGQ {L:List LBlk}:∀ n,∀ p∈yc L n,(0<=p.1/\p.1<(n:Int))/\0<=p.2/\p.2<((L.getD p.1.toNat default).ins.length:Int)
 |0,p,hp=>by cases hp
 |n+1,p,hp=>by
  have hp:p∈yc L n++(List.range (L.getD n default).ins.length).map fun (i:Nat)=>((n:Int),(i:Int)):=hp;rcases Qf.1 hp with hp|hp
  ·have:=zGQ n p hp;omega
  ·obtain⟨i,hi,rfl⟩:=Q0.1 hp;have:=GF.1 hi;exact⟨⟨by show (0:Int)<=(n:Int);omega,by show (n:Int)<_;omega⟩,by show (0:Int)<=(i:Int);omega,by show (i:Int)<((L.getD (n:Int).toNat default).ins.length:Int);rw[GQ];omega⟩
structure FnIn (T:List LType) (F:List LFn) (f:Int):Prop where
 hf:0<=f/\f<(F.length:Int)
 hc:ZV T=0
 bl:∀ b,0<=b->b<((zR F f).length:Int)->zD T F f b=(zR F f,0)
 n1:1<=(zR F f).length
 n16:(zR F f).length<=16
 many:zg (zR F f)<=128
 sig:0<=(F.getD f.toNat default).sig/\(F.getD f.toNat default).sig<(T.length:Int)
 sigF:∀ g∈F,InT T g.sig
 ks:∀ t∈ksF T F f,InT T t
 par:∀ t∈(yZ T F f).parts,PlT T t
 el:PlT T (yZ T F f).elem
 par4:(yZ T F f).parts.length<=4
 len:(ksF T F f).length=(psF T F f).length
 reg:((ksF T F f).length:Int)=yK ((yZ T F f).parts.length:Int) (zR F f)
 U:∀ B∈zR F f,BlkU B (ksF T F f).length (zR F f).length
 V:∀ B∈zR F f,∀ x∈B.ins,InsT T F x
 pl:∀ i,i<(psF T F f).length->((psF T F f).getD i default).1= -1\/0<=((psF T F f).getD i default).1
 nx:∀ c,0<=c/\c<((zR F f).length:Int)->∀ d∈nxL (zR F f) c,0<=d/\d<((zR F f).length:Int)
theorem zQL {T:List LType} {F:List LFn} {f:Int} (h:ZQ T F=0) (hf:0<=f/\f<(F.length:Int)):FnIn T F f:=by
 obtain⟨hc,hF1,hF8,hfn⟩:=YZ h;have hm:=zI (l:=F) (i:=f.toNat) (by omega);have hfn1:=hfn _ hm;have hlen:=zPc hfn1;have hsg:=zFB hfn1;have hask:zd T F f=(((yZ T F f).parts.length:Int),0):=by
  unfold zd;rw[QC (fun e=>e h),QH (by unfold zQ;simp;omega)];rfl
 have hreg:(Yc T F f).2=0:=by unfold Yc;rw[hask];rfl
 have hbl:∀ b,0<=b->b<((zR F f).length:Int)->zD T F f b=(zR F f,0):=fun b b0 b1=>by
  unfold zD;rw[QC (fun e=>e hreg),QC (by unfold zR at b1;omega)];rfl
 have hmay:=zGl hc hsg.1 hsg.2;have hk3:(yZ T F f).kind=3:=by
  unfold fnL at hfn1;split at hfn1
  ·cases hfn1
  ·rename_i hb;unfold zBo at hb;simp only[Q7,Gj,Q6,not_or,Bool.not_eq_false,G7,Decidable.not_not]at hb;exact hb.1.1.2
 have hfnT:zIb T (yZ T F f):=by
  have hk3':(T.getD (F.getD f.toNat default).sig.toNat default).kind=3:=hk3;rcases hmay with ⟨k,_⟩|⟨k,_⟩|⟨_,k⟩|⟨k,_⟩|⟨k,_⟩
  ·omega
  ·omega
  ·exact k
  ·omega
  ·omega
 have hV:∀ B∈zR F f,∀ x∈B.ins,InsT T F x:=fun B hB x hx=>by
  refine zU8 (f:=F.getD f.toNat default) (by omega) ?_;have h0:fnL T F.length (F.getD f.toNat default)=true:=hfn1;unfold fnL at h0;split at h0
  ·cases h0
  ·have h0:((F.getD f.toNat default).blocks.any fun b=>zCv b (szL T F.length (F.getD f.toNat default)))=false:=by simpa using h0
   have hb:=JA.1 h0 B hB;have hb:zCv B (szL T F.length (F.getD f.toNat default))=false:=by simpa using hb
   unfold zCv at hb;rw[Bool.or_eq_false_iff]at hb;have:=JA.1 hb.1 x hx;simpa using this
 have hkm:((ksF T F f).length:Int)=yK ((yZ T F f).parts.length:Int) (zR F f):=by
  unfold ksF zHX yK;rw[QY,<-zER];omega
 have hkl:(ksF T F f).length=(psF T F f).length:=by
  unfold ksF psF zHX zD3;rw[QY,QY,Gc,<-zDK _ _ (QF _),GN]
 refine⟨hf,hc,hbl,hlen.1,hlen.2.1,hlen.2.2,hsg,fun g hg=> .inr (zFB (hfn g hg)),?_,hfnT.1,hfnT.2.1,hfnT.2.2.1,hkl,hkm,?_,hV,?_,?_⟩
 ·intro t ht;rcases Qf.1 ht with ht|ht
  ·have:=hfnT.1 t ht;exact .inr ⟨this.1,this.2.1⟩
  ·obtain⟨B,hB,ht⟩:=List.mem_flatMap.1 ht;obtain⟨x,hx,rfl⟩:=Q0.1 ht;unfold zBm;split
   ·exact(hV B hB x hx).ty
   ·exact .inl rfl
 ·intro B hB;rw[hkm];exact zUL hfn1 B hB
 ·intro i hi;have hp:=zI (l:=psF T F f) hi;rcases Qf.1 hp with hp|hp
  ·rw[(List.mem_replicate.1 hp).2];exact .inl rfl
  ·exact .inr (zGQ _ _ hp).1.1
 ·intro c hcc d hd;have hU:=zUL hfn1 _ (zI (l:=zR F f) (i:=c.toNat) (by omega));exact hU.next d hd
set_option maxRecDepth 100000
def zPs:ACode:=(oV (oR [oB .lss 69 68 67]) (oV (oT 69 0) (oV (o5 1 (oV (oR [oM 70 68,oM 9 70]) (oV (oR [oM 71 5,oM 72 9,o2 73 68 71 72,oM 10 73]) (oV (oR [oM 74 10,⟨some 75,none,(.isNil 4 true (.tmp 74))⟩]) (oJ 75 (oV (oR [oM 76 10,oM 4 76]) .ret) .skip))))) (oR [oC .add 77 68 1,oM 68 77]))))
def zTi:ACode:=(oV (oR [oX 2 0,⟨some 4,none,(.mov (.const .nilIface))⟩]) (oV (oR [oA 2 11 2,oM 12 1,o2 13 27 11 12,oM 5 13]) (oV (oR [oA 2 15 2,oM 16 1,o2 17 66 15 16,oM 14 17,oE 18 14 0,oE 19 14 1,oM 6 18,oM 7 19]) (oV (oV (o6 [oF 0 20 2,oL 21 20,oF 1 22 2,oL 23 22,oM 24 1,oI 2 25 23 24,oF 0 26 25,oL 27 26,oI 4 28 21 27,oA 4 29 28,(⟨some 8,none,(.alloc [(.int .u8 0),(.int .i64 0),(.int .i64 0),(.slice none 0 0)])⟩,[]),oS 4 8 29]) (oV (oR [oM 30 6,oQ 31 30,oF 1 32 2,oL 33 32,oM 34 1,oI 2 35 33 34,oF 1 36 35,oL 37 36,oQ 38 37,oB .neq 39 31 38,oM 40 39,oH 40 (oM 41 1),oH 40 (oC .eql 42 41 0),oH 40 (oM 43 42),oG 43 (oF 3 44 8),oG 43 (oL 45 44),oG 43 (oQ 46 45),oG 43 (oC .gtr 47 46 0),oG 43 (oM 48 47),oH 48 (oM 49 5),oH 48 (oF 1 50 8),oH 48 (oL 51 50),⟨some 52,some (48,false),(.buildSlice 1 1 [(.int .i64 0)] [(0,1,(.tmp 51))])⟩,⟨some 53,some (48,false),(.call (.func 67) [(.tmp 49),(.const (.int .u8 1)),(.tmp 52)])⟩,oH 48 (oW 54 53),oG 43 (oO 55 48 54),oH 40 (oP 56 43 55),oO 57 40 56]) (oJ 57 (oV (oR [oM 58 1,⟨some 59,none,(.build [(.int .i64 0),(.int .i64 0),(.int .i64 0)] [(0,1,(.tmp 58)),(1,1,(.const (.int .i64 0))),(2,1,(.const (.int .i64 120)))])⟩,⟨some 60,none,(.mkIface 119 (.tmp 59))⟩,oM 4 60]) .ret) .skip))) (oV (oV (oR [oF 1 61 2,oL 62 61,oM 63 1,oI 2 64 62 63,oF 1 65 64,oL 66 65,oQ 67 66,oN 68 0]) (o5 0 (.loop zPs))) (oV (oR [⟨some 4,none,(.mov (.const .nilIface))⟩]) .ret))))))
theorem zGv (h:AHeap) (vt vf:Value) (T:List LType) (F:List LFn) (f:Int) (E:Env h vt vf T F) (hp:ZQ T F=0) (hf:0<=f/\f<(F.length:Int)):
  WC Tryz.prog tb 31 [.agg #[vt,vf],I f] h fun r h'=>(r= .nilIface/\zDC T F f\/(∃ b,r=zAY f b)/\¬zDC T F f)/\Ext h h':=by
 have Z:=zQL hp hf;have hb0:=Z.bl 0 (Qk 0) (by have:=Z.n1;omega);have hbe:(zD T F f 0).2=0:=by rw[hb0]
 have ha:Zt T F f 0=0:=by
  unfold Zt;rw[QC (fun e=>e hbe),QC (by rw[hb0];have:=Z.n1;show ¬(_\/((zR F f).length:Int)<=0);omega),QH ((Zr hbe).2 (by rw[hb0];exact Way.here))]
 have hra:=zL2 hbe;have hre:(yR T F f).2=0:=by rw[zGF];exact hbe
 have hn16:=Z.n16;have hn1:=Z.n1;have hsg:=Z.sig;have hpar:=Z.par4;have hnx:nxF T F f=nxL (zR F f):=by unfold nxF;rw[hb0]
 rw[hb0]at hra;replace hra:(yR T F f).1.length=(zR F f).length↔∀ c,0<=c->c<((zR F f).length:Int)->Way (nxL (zR F f)) 0 c:=hra;refine en 78 [(4,none)] zTi ?_;refine WO.bx ?_;intro p2 h1 e1 o1;replace o1:OwnC h h1 p2 [vt,vf]:=o1;have E1:=E.ext e1;refine go ?_;refine WO.con (zKt h1 vt vf T F f E1 ha hf Z.sig hn16) ?_;rintro _ h2 ⟨⟨g,xs,rfl,hR,M⟩,e2⟩;rw[hnx]at hR;have E2:=E1.ext e2;have o2:=o1.ext e2;refine go ?_;refine WO.con (zIN h2 vt vf T F f E2.tt E2.hm E2.sm E2.st E2.sf) ?_;rintro _ h3 ⟨⟨vr,rfl,orr⟩,e3⟩;rw[hre];have E3:=E2.ext e3;have o3:=o2.ext e3;have M3:=M.ext e3;refine go ?_;refine WX.regionU2 1 rfl rfl ?_;have ea:=zc 1 h3;have o3X:=OwnC.ia (o3.ext ea);obtain⟨cs,⟨vb,rfl,sb,hlb⟩,pc,hsl⟩:=yG (i:=f.toNat) E3.sf (by omega);have pc1:=(pc _ ea).2;obtain⟨cst,⟨vat,rfl,sat,hlat⟩,pct,hslt⟩:=yG (i:=(F.getD f.toNat default).sig.toNat) E3.st (by omega);have pct1:=(pct _ ea).2;have stX0:=SlT.ext E3.st ea;have stX:SlT (inC (zC 1 h3)) vt T:=stX0;have sfX0:=SlF.ext E3.sf ea;have sfX:SlF (inC (zC 1 h3)) vf F:=sfX0;obtain⟨va1,va2,va3,rfl⟩:=SlC.shape sat;refine goU ?_;refine WU2.alE (X:=inC (zC 1 h3)) (cs:=[.int .u8 (yZ T F f).kind,I (yZ T F f).elem,I (yZ T F f).many,.slice va1 va2 va3]) (Ext.refl _) E3.hm ?_;intro h4 p8 e4 o8;have E4:=E3.ext e4;have o4:=o3.ext e4;have M4:=M3.ext e4;have or4:=orr.ext e4;have pc4:=(pc _ e4).1;have sb4:=SlB.ext sb e4;have sf4:=E4.sf;have sat4:=SlI.ext sat e4;have st4:=E4.st;have e04:=e1.trans (e2.trans (e3.trans e4));have bad:∀ (b:Int) {h'},¬zDC T F f->Ext h h'->(zAY f b= .nilIface/\zDC T F f\/(∃ b',zAY f b=zAY f b')/\¬zDC T F f)/\Ext h h':=fun b h' hn e=>⟨.inr ⟨⟨b,rfl⟩,hn⟩,e⟩;have bad:=Hid.mk @bad;clear stX0 sfX0 stX sfX o3X pc1 pct1 ea pct sat hslt;have hLb:(F.getD f.toNat default).blocks=zR F f:=rfl;rw[hLb]at sb4;have hgo:(f=0->(yZ T F f).parts=[]/\isT T 1 (yZ T F f).elem=true)\/¬(f=0->(yZ T F f).parts=[]/\isT T 1 (yZ T F f).elem=true):=Classical.em _;refine Zu ?_;refine WX.cutA [30,31,32,33,34,35,36,37,38,39,40,41,42,43,44,45,46,47,48,49,50,51,52,53,54,55,56,57,58,59,60,4] (by kernel_rfl) (fun t h'=>Ext h4 h'/\(yR T F f).1.length=(zR F f).length/\(f=0->(yZ T F f).parts=[]/\isT T 1 (yZ T F f).elem=true)) ?_ ?_
 ·by_cases hr:(yR T F f).1.length=(zR F f).length;case neg=>
   have hrI:¬(((yR T F f).1.length:Int)=((zR F f).length:Int)):=by omega
   refine go ?_;refine WO.mi ?_;refine go ?_;refine zCi ?_;refine gr ?_;exact bad.out 0 (fun q=>hr (hra.2 q.1)) e04
  have hrI:(((yR T F f).1.length:Int)=((zR F f).length:Int)):=by omega
  refine go ?_;by_cases f0:f=0;case neg=>
   refine go ?_;exact zE ⟨Ext.refl _,hr,fun e=>absurd e f0⟩
  refine go ?_;by_cases hpl:((T.getD (F.getD f.toNat default).sig.toNat default).parts.length:Int)>0
  ·refine go ?_;refine WO.mi ?_;refine go ?_;refine zCi ?_;refine gr ?_;exact bad.out 0 (fun q=>by have q1:(T.getD (F.getD f.toNat default).sig.toNat default).parts=[]:=(q.2.1 f0).1;rw[q1]at hpl;simp at hpl) e04
  ·have hpn:(T.getD (F.getD f.toNat default).sig.toNat default).parts=[]:=Gq (by omega);refine go ?_;refine WO.bl [(T.getD (F.getD f.toNat default).sig.toNat default).elem] ?_;intro v5 h5 e5 o5;refine go ?_;refine WO.con (yu h5 1 v5 [(T.getD (F.getD f.toNat default).sig.toNat default).elem] (M4.ext e5) o5.sl (by simp) (fun t ht=>by rw[QS.1 ht];exact .inr ⟨Z.el.1,Z.el.2.1⟩)) ?_;rintro _ h6 ⟨rfl,e6⟩;rw[yy];cases c1:isT T 1 (T.getD (F.getD f.toNat default).sig.toNat default).elem with
   |false=>
    refine go ?_;refine WO.mi ?_;refine go ?_;refine zCi ?_;refine gr ?_;exact bad.out 0 (fun q=>by have q1:isT T 1 (T.getD (F.getD f.toNat default).sig.toNat default).elem=true:=(q.2.1 f0).2;rw[q1]at c1;cases c1) (e04.trans (e5.trans e6))
   |true=>
    refine go ?_;exact zE ⟨e5.trans e6,hr,fun _=>⟨hpn,c1⟩⟩
 rintro t h5 hsame ⟨e5,hr,hmain⟩;have hway:=hra.1 hr;have hin:∀ c,Way (nxL (zR F f)) 0 c->0<=c/\c<((zR F f).length:Int):=fun c w=>by
  induction w with
  |here=>omega
  |step _ hm ih=>exact Z.nx _ ih _ hm
 have G:Gr F f (nxL (zR F f)) xs (psF T F f) (zR F f):=⟨hf,rfl,hn16,hR,hway,hin,Z.pl⟩;have hil:∀ i,i<(zR F f).length->((zR F f).getD i default).ins.length<=1000:=fun i hi=>E.sm.ins _ (zI (l:=F) (i:=f.toNat) (by omega)) _ (zI (l:=zR F f) hi);have sb5:=SlB.ext sb4 e5;have sf5:=SlF.ext sf4 e5;have o5:=o4.ext e5;have pc5:=(pc _ (e4.trans e5)).1;have M5:FnM h5 g vt vf T F f (ksF T F f) (psF T F f) (Z8 xs (zR F f).length):=M4.ext e5;have E5:=E4.ext e5;have e05:=e04.trans e5;replace hway:=Hid.mk hway;replace hin:=Hid.mk hin;replace hil:=Hid.mk hil;clear pc sb4 sf4 st4 sat4 o4 M4 E4 or4 o8 orr E3 E2 E1;refine go ?_;refine WX.loopA [69,70,9,71,72,73,10,74,75,76,4,77,68] (by kernel_rfl) (fun i=>(zR F f).length - i) (fun i t h'=>Ext h5 h'/\zB t 68=I i/\i<=(zR F f).length/\Hid (∀ b:Int,0<=b->b<(i:Int)->zTK T F f b)) 0 ?_ ?_
 ·exact⟨Ext.refl _,sl_,QW _,⟨fun b b0 b1=>by omega⟩⟩
 rintro i t6 h6 hsame6 ⟨e6,s68,hi,hI⟩;have M6:=M5.ext e6;have e06:=e05.trans e6;refine go ?_;refine WX.br (fun hb=> ?_) (fun hb=> ?_)<;>simp only[DB]at hb
 ·have hi':i<(zR F f).length:=by omega
  refine go ?_;refine WO.con (zMR h6 i M6 G (E5.ext e6) Z.hc Z.ks Z.sigF Z.sig Z.len Z.U Z.V ⟨by omega,by omega⟩ (by rw[GQ];exact hil.out i hi')) ?_;have hP:(Zo T F f (i:Int)).1=zO (zR F f) i (zR F f).length:=by
   have:=Z.bl i (by omega) (by omega);unfold Zo;rw[this];rfl
  rw[hP];rintro q h7 ⟨hq,e7⟩;rcases hq with ⟨rfl,hq1,hq2⟩|⟨rfl,hq⟩
  ·refine go ?_;simp only[Qv,QU];refine go ?_;refine zA (i+1) (by omega) ⟨e6.trans e7,sln,by omega,⟨fun b b0 b1=> ?_⟩⟩;by_cases hbi:b=i
   ·subst hbi;exact⟨hq1,hq2⟩
   ·exact hI.out b b0 (by omega)
  ·unfold zAY;refine go ?_;simp only[Qv,Qd];refine gr ?_;exact bad.out i (fun q=>hq (q.2.2 i (by omega) (by omega))) (e06.trans e7)
 ·have hii:i=(zR F f).length:=by omega
  refine gr ?_;exact⟨.inl ⟨rfl,hway.out,hmain,fun b b0 b1=>hI.out b b0 (by omega)⟩,e06⟩
set_option maxRecDepth 100000
section
variable {P:Program} {tab:Tab} {t:Trie Value} {ds:List Deferred} {rd:Option Nat} {h:AHeap} {Q:AFr->AHeap->Prop} {l:List AOper} {d:Nat} {ty:TypeId} {x:Operand} {v r:Value}
theorem WO.as {ok:Bool} (hr:zD2 P ty ok v=some r) (k:WO P tab l ⟨t.set d r,ds,rd⟩ h Q) (hx:Ope t x v:=by exact zK):WO P tab (⟨some d,none,.assert ty ok x⟩::l) ⟨t,ds,rd⟩ h Q:=
 WO.op _ _ rfl (by unfold Ope at *;simp only[aop,hx,hr,QK]) k
theorem WO.tyOf (hr:zD6 P ty v=some r) (k:WO P tab l ⟨t.set d r,ds,rd⟩ h Q) (hx:Ope t x v:=by exact zK):WO P tab (⟨some d,none,.typeOf ty x⟩::l) ⟨t,ds,rd⟩ h Q:=
 WO.op _ _ rfl (by unfold Ope at *;simp only[aop,hx,hr,QK]) k
theorem WO.iv {f:FuncId} {name:String} {u:Value} (hm:Yh P ty name=some f) (k:WC P tab f [u] h fun v h'=>WO P tab l ⟨t.set d v,ds,rd⟩ h' Q) (hx:Ope t x (.iface ty u):=by exact zK):WO P tab (⟨some d,none,.invoke x name []⟩::l) ⟨t,ds,rd⟩ h Q:=
 WO.invoke hx hm rfl k
theorem WO.ivC {G rt:Nat} {b:Bool} (hb:YV P G rt ty=some b) (k:WO P tab l ⟨t.set d (.bool b),ds,rd⟩ h Q) (hx:Ope t x (zHJ G rt ty):=by exact zK):WO P tab (⟨some d,none,.invoke x "Comparable" []⟩::l) ⟨t,ds,rd⟩ h Q:=
 WO.invokeC hx hb k
end
abbrev tyE:Nat:=28
abbrev zLQ:Value:= .iface tyE (I 120)
def zSh:ACode:=(oV (oR [oX 1 0,⟨some 2,none,(.mov (.const .nilIface))⟩]) (oV (oR [oF 2 3 1,oL 4 3,⟨some 5,none,(.mkIface 28 (.tmp 4))⟩,oM 2 5]) .ret))
theorem zJ3 (h:AHeap) (f b:Int):WC Tryz.prog tb 258 [.agg #[I f,I b,I 120]] h fun r h'=>r=zLQ/\Ext h h':=by
 refine en 6 [(2,none)] zSh ?_;refine WO.bx ?_;intro p h1 e1 o1;replace o1:OwnC h h1 p [I f,I b,I 120]:=o1;refine go ?_;refine WO.mi ?_;refine gr ?_;exact⟨rfl,e1⟩
def zPZ:ACode:=(oV (oR [oB .lss 46 45 44]) (oV (oT 46 3) (oV (o5 4 (oV (oR [oI 1 47 43 45,oL 48 47,oM 12 48]) (oV (oR [oM 49 12,oM 50 1,oM 51 2,o3 52 70 49 50 51]) (oJ 52 (oV (oR [oK 6 (.bool true)]) .ret) .skip)))) (oR [oC .add 53 45 1,oM 45 53]))))
def zNh:ACode:=(o5 1 (oV (oV (oR [oM 14 2,oM 15 14,oG 15 (oM 16 0),oG 15 (oM 17 1),⟨some 18,some (15,true),(.binP .eql 75 (.tmp 16) (.tmp 17))⟩,oP 19 15 18]) (oJ 19 (oV (oR [oK 6 (.bool true)]) .ret) .skip)) (oV (oV (oR [oM 21 0,⟨some 22,none,(.assert 186 true (.tmp 21))⟩,oM 20 22,oE 23 20 0,oE 24 20 1,oM 7 23,oM 8 24]) (oV (oR [oM 25 8,oM 26 25,oG 26 (oM 27 7),oG 26 (oM 28 1),⟨some 29,some (26,true),(.invoke (.tmp 27) "Is" [(.tmp 28)])⟩,oP 30 26 29]) (oJ 30 (oV (oR [oK 6 (.bool true)]) .ret) .skip))) (oV (oR [oM 31 0]) (o5 2 (oV (oR [⟨some 32,none,(.assert 189 true (.tmp 31))⟩,oE 33 32 1,oE 34 32 0]) (oJ 33 (oV (oR [oM 9 34]) (oV (oR [oM 35 9,⟨some 36,none,(.invoke (.tmp 35) "Unwrap" [])⟩,oM 0 36]) (oV (oR [oM 37 0,⟨some 38,none,(.isNil 4 false (.tmp 37))⟩]) (oJ 38 (oV (oR [oZ 6]) .ret) .skip)))) (oV (oR [⟨some 39,none,(.assert 191 true (.tmp 31))⟩,oE 40 39 1,oE 41 39 0]) (oJ 40 (oV (oR [oM 10 41]) (oV (oV (oR [oM 42 10,⟨some 43,none,(.invoke (.tmp 42) "Unwrap" [])⟩,oQ 44 43,oN 45 0]) (o5 3 (.loop zPZ))) (oV (oR [oZ 6]) .ret))) (oV (oR [oM 13 31]) (oV (oR [oZ 6]) .ret)))))))))))
def zUO:ACode:=(oV (oR [oZ 6]) (o5 0 (.loop zNh)))
theorem zUq (h:AHeap) (f b:Int):WC Tryz.prog tb 70 [zAY f b,zLQ,.bool true] h fun r h'=>r= .bool true/\Ext h h':=by
 refine en 54 [(6,none)] zUO ?_;refine WX.loopA [14,15,16,17,18,19,6,21,22,20,23,24,7,8,25,26,27,28,29,30,6,31,32,33,34,9,35,36,0,37,38,6,39,40,41,10,42,43,44,45,46,47,48,12,49,50,51,52,6,53,45,6,13,6] (by kernel_rfl) (fun i=>2 - i) (fun i t h'=>Ext h h'/\((i=0/\zB t 0=zAY f b)\/(i=1/\zB t 0=zLQ))) 0 ?_ ?_
 ·exact⟨Ext.refl _,.inl ⟨rfl,sl_⟩⟩
 rintro i t h1 hsame ⟨e1,⟨rfl,s0⟩|⟨rfl,s0⟩⟩
 ·unfold zAY at s0;refine go ?_;refine WO.bp (v:= .bool false) (by kernel_rfl) ?_;refine go ?_;refine WO.as (r:= .tuple #[.nilIface,.bool false]) (by kernel_rfl) ?_;refine go ?_;refine WO.as (r:= .tuple #[.iface tyF (.agg #[I f,I b,I 120]),.bool true]) (by kernel_rfl) ?_;refine go ?_;refine WO.iv (f:=258) (by kernel_rfl) ?_;refine WC.mono (zJ3 h1 f b) ?_;rintro _ h2 ⟨rfl,e2⟩;refine go ?_;simp only[Gl,Qj];refine go ?_;exact zA 1 (by omega) ⟨e1.trans e2,.inr ⟨rfl,sl_⟩⟩
 ·refine go ?_;refine WO.bp (v:= .bool true) (by kernel_rfl) ?_;refine gr ?_;exact⟨rfl,e1⟩
def zO7:ACode:=(oV (oR [oZ 4]) (oV (oV (oR [oM 6 0,⟨some 7,none,(.isNil 4 false (.tmp 6))⟩,oM 8 7,oH 8 (oM 9 1),⟨some 10,some (8,false),(.isNil 4 false (.tmp 9))⟩,oO 11 8 10]) (oJ 11 (oV (oR [oM 12 0,oM 13 1,⟨some 14,none,(.binP .eql 75 (.tmp 12) (.tmp 13))⟩,oM 4 14]) .ret) .skip)) (oV (oR [oM 15 1,⟨some 16,none,(.typeOf 184 (.tmp 15))⟩,⟨some 17,none,(.invoke (.tmp 16) "Comparable" [])⟩,oM 5 17]) (oV (oR [oM 18 0,oM 19 1,oM 20 5,o3 21 70 18 19 20,oM 4 21]) .ret))))
theorem zVF (h:AHeap) (f b:Int):WC Tryz.prog tb 32 [zAY f b,zLQ] h fun r h'=>r= .bool true/\Ext h h':=by
 unfold zAY;refine en 22 [(4,none)] zO7 ?_;simp only[Gl,Qj];refine go ?_;simp only[Gl,Qj];refine go ?_;refine WO.tyOf (v:=zLQ) rfl ?_;refine go ?_;refine WO.ivC (b:=true) (by kernel_rfl) ?_;refine go ?_;have hk:=zUq h f b;unfold zAY at hk;refine WO.con hk ?_;rintro _ h2 ⟨rfl,e2⟩;refine gr ?_;exact⟨rfl,e2⟩
theorem zRa (h:AHeap):WC Tryz.prog tb 32 [.nilIface,zLQ] h fun r h'=>r= .bool false/\h=h':=by
 refine en 22 [(4,none)] zO7 ?_;simp only[Gl,Qj];refine go ?_;refine WO.bp (v:= .bool false) (by kernel_rfl) ?_;refine gr ?_;exact⟨rfl,rfl⟩
def Ys (T:List LType) (F:List LFn):Int:=open Classical in if ZQ T F≠0 then ZQ T F else if WfP T F then 0 else 120
def zOX:ACode:=(oV (oR [oB .lss 15 14 13]) (oV (oT 15 0) (oV (o5 1 (oV (oR [oM 16 14,oM 4 16]) (oV (oR [oA 2 17 1,oM 18 4,o2 19 31 17 18,oM 5 19]) (oV (oR [oM 20 5,⟨some 21,none,(.mkIface 28 (.const (.int .i64 120)))⟩,o2 22 32 20 21]) (oJ 22 (oV (oR [oN 2 120]) .ret) .skip))))) (oR [oC .add 23 14 1,oM 14 23]))))
def zTY:ACode:=(oV (oR [oX 1 0,oN 2 0]) (oV (oV (oR [oA 2 6 1,o1 7 30 6,oM 3 7]) (oV (oR [oM 8 3,oC .neq 9 8 0]) (oJ 9 (oV (oR [oM 10 3,oM 2 10]) .ret) .skip))) (oV (oV (oR [oF 1 11 1,oL 12 11,oQ 13 12,oN 14 0]) (o5 0 (.loop zOX))) (oV (oR [oN 2 0]) .ret))))
theorem zGZ (h:AHeap) (vt vf:Value) (T:List LType) (F:List LFn) (E:Env h vt vf T F):
  WC Tryz.prog tb 12 [.agg #[vt,vf]] h fun r h'=>r=I (Ys T F)/\Ext h h':=by
 unfold Ys;have hF:=E.sm.funcs;refine en 24 [(2,none)] zTY ?_;refine WO.bx ?_;intro p1 h1 e1 o1;replace o1:OwnC h h1 p1 [vt,vf]:=o1;have E1:=E.ext e1;refine go ?_;refine WO.con (zKc h1 vt vf T F E1.tt E1.hm E1.sm E1.st E1.sf) ?_;rintro _ h2 ⟨rfl,e2⟩;have o2:=o1.ext e2;have E2:=E1.ext e2;have sf2:=E2.sf;by_cases hp:ZQ T F=0;case neg=>
  rw[QH hp];refine gr ?_;exact⟨rfl,e1.trans e2⟩
 rw[QC (fun e=>e hp),hp];refine go ?_;refine WX.loopA [15,16,4,17,18,19,5,20,21,22,2,23,14] (by kernel_rfl) (fun i=>F.length - i) (fun i t h'=>Ext h2 h'/\zB t 14=I i/\i<=F.length/\Hid (∀ f:Int,0<=f->f<(i:Int)->zDC T F f)) 0 ?_ ?_
 ·exact⟨Ext.refl _,sl_,QW _,⟨fun f f0 f1=>by omega⟩⟩
 rintro i t h3 hsame ⟨e3,s14,hi,hI⟩;have o3:=o2.ext e3;have e03:=e1.trans (e2.trans e3);refine go ?_;refine WX.br (fun hb=> ?_) (fun hb=> ?_)<;>simp only[DB]at hb
 ·have hi':i<F.length:=by omega
  refine go ?_;refine WO.con (zGv h3 vt vf T F i (E2.ext e3) hp ⟨by omega,by omega⟩) ?_;rintro q h4 ⟨⟨rfl,hq⟩|⟨⟨b,rfl⟩,hq⟩,e4⟩
  ·refine go ?_;refine WO.mi ?_;refine go ?_;refine WO.con (zRa h4) ?_;rintro _ _ ⟨rfl,rfl⟩;refine go ?_;refine zA (i+1) (by omega) ⟨e3.trans e4,sln,by omega,⟨fun f f0 f1=> ?_⟩⟩;by_cases hfi:f=i
   ·subst hfi;exact hq
   ·exact hI.out f f0 (by omega)
  ·refine go ?_;refine WO.mi ?_;refine go ?_;refine WO.con (zVF h4 i b) ?_;rintro _ h5 ⟨rfl,e5⟩;refine gr ?_;refine⟨?_,e03.trans (e4.trans e5)⟩;rw[QC (fun w=>hq (w i (by omega) (by omega)))];rfl
 ·have hii:i=F.length:=by omega
  refine gr ?_;refine⟨?_,e03⟩;rw[QH (show WfP T F from fun f f0 f1=>hI.out f f0 (by omega))];rfl
def zIe (T:List LType) (F:List LFn) (f r:Int):Int×Int:=
 if Ys T F≠0 then (0,Ys T F) else if (zt T F f r).2.2≠0 then (0,(zt T F f r).2.2) else if (ksF T F f).getD r.toNat 0= -1 then (0,6) else ((ksF T F f).getD r.toNat 0,0)
theorem zE1 {T:List LType} {F:List LFn} (h:Ys T F=0):ZQ T F=0/\WfP T F:=by
 unfold Ys at h;split at h
 ·rename_i hp;exact absurd h hp
 ·rename_i hp;split at h
  ·rename_i hw;exact⟨Classical.not_not.1 hp,hw⟩
  ·cases h
theorem zFw {α:Type} {a b:List α} {i:Nat} {d:α} (h:i<a.length):(a++b).getD i d=a.getD i d:=by
 rw[QE,QE,Qo h]
theorem zFy {α:Type} {a b:List α} {i:Nat} {d:α} (h:a.length<=i):(a++b).getD i d=b.getD (i - a.length) d:=by
 rw[QE,QE,Q3 h]
theorem zGY {α β:Type} {l:List α} {i:Nat} {f:α->β} {a:α} {b:β} (h:i<l.length):(l.map f).getD i b=f (l.getD i a):=by
 rw[QE,QE,GR,QB h];rfl
theorem zCt (b:LBlk) (L:List LBlk):∀ n,yc (b::L) (n+1)=((List.range b.ins.length).map fun (i:Nat)=>((0:Int),(i:Int)))++(yc L n).map fun p=>(p.1+1,p.2)
 |0=>by simp[yc]
 |n+1=>by
  show yc (b::L) (n+1)++(List.range (L.getD n default).ins.length).map (fun (i:Nat)=>(((n+1:Nat):Int),(i:Int)))=_++(yc L n++(List.range (L.getD n default).ins.length).map fun (i:Nat)=>((n:Int),(i:Int))).map (fun p=>(p.1+1,p.2));rw[zCt b L n,Gf,List.map_map,GD];rfl
theorem zKM (L:List LBlk):((yc L L.length).length:Int)=zg L:=by
 rw[<-zDK L _ (QF _),GN,zER]
theorem zCf:∀ (L:List LBlk) (k:Int),0<=k->k<zg L->(yc L L.length).getD k.toNat default=zp L k
 |[],k,h0,h1=>by have h1:k<0:=h1;omega
 |b::L,k,h0,h1=>by
  rw[Q2,zCt];rw[YP]at h1;unfold zp;by_cases hk:k<b.ins.length
  ·rw[QC (by omega),zFw (by rw[GK,G5];omega),zGY (a:=0) (by rw[G5];omega)];rw[QE,List.getElem?_range (by omega)];show ((0:Int),((k.toNat:Nat):Int))=_;rw[show ((k.toNat:Nat):Int)=k by omega]
  ·rw[QH (by omega),zFy (by rw[GK,G5];omega),GK,G5];have hl:=zKM L;rw[zGY (a:=default) (by omega),show k.toNat - b.ins.length=(k - b.ins.length).toNat by omega,zCf L _ (by omega) (by omega)]
theorem zOI {T:List LType} {F:List LFn} {f r:Int} (h0:0<=r) (h1:r<yK ((yZ T F f).parts.length:Int) (zR F f)):
  (psF T F f).getD r.toNat default=if r<((yZ T F f).parts.length:Int) then (-1,-1) else zp (zR F f) (r - ((yZ T F f).parts.length:Int)):=by
 unfold psF zD3;unfold yK at h1;split
 ·rename_i h;rw[zFw (by rw[Gc];omega),zPJ (by omega)]
 ·rename_i h;rw[zFy (by rw[Gc];omega),Gc,show r.toNat - (yZ T F f).parts.length=(r - ((yZ T F f).parts.length:Int)).toNat by omega,zCf _ _ (by omega) (by omega)]
theorem zC6 {T:List LType} {F:List LFn} {f r:Int} (hp:ZQ T F=0):zt T F f r=if f<0\/(F.length:Int)<=f\/r<0\/yK ((yZ T F f).parts.length:Int) (zR F f)<=r then (0,0,2) else
  if r<((yZ T F f).parts.length:Int) then (-1,r,0) else ((zp (zR F f) (r - ((yZ T F f).parts.length:Int))).1,(zp (zR F f) (r - ((yZ T F f).parts.length:Int))).2,0):=by
 unfold zt;by_cases hf:0<=f/\f<(F.length:Int)
 ·have hask:zd T F f=(((yZ T F f).parts.length:Int),0):=by
   unfold zd;rw[QC (fun e=>e hp),QH (by unfold zQ;simp;omega)];rfl
  rw[hask];rw[QC (fun e=>e rfl)];show (if r<0\/((yZ T F f).parts.length:Int)+zg (F.getD f.toNat default).blocks<=r then (0,0,2) else if r<((yZ T F f).parts.length:Int) then (-1,r,0) else ((zp (zR F f) (r - ((yZ T F f).parts.length:Int))).1,(zp (zR F f) (r - ((yZ T F f).parts.length:Int))).2,0))=_;by_cases h1:r<0\/((yZ T F f).parts.length:Int)+zg (F.getD f.toNat default).blocks<=r
  ·rw[QH h1,QH (by unfold yK zR;omega)]
  ·rw[QC h1,QC (c:=f<0\/_) (by unfold yK zR;omega)]
 ·have hask:zd T F f=(0,2):=by
   unfold zd;rw[QC (fun e=>e hp),QC (by unfold zQ;simp;omega)]
  rw[hask,QH (by decide),QH (by omega)]
theorem zUT {T:List LType} {F:List LFn} {f r block at':Int} (hp:ZQ T F=0) (Z:FnIn T F f) (h0:0<=r) (h1:r<yK ((yZ T F f).parts.length:Int) (zR F f)) (hb:0<=block/\block<((zR F f).length:Int)):
  (zt T F f r).2.2=0/\(zR3 T F f r block at'↔zBb (nxL (zR F f)) ((psF T F f).getD r.toNat default) block at'):=by
 have hf:=Z.hf;have hnx:nxF T F f=nxL (zR F f):=by unfold nxF;rw[Z.bl 0 (Qk 0) (by have:=Z.n1;omega)]
 have hpl:=zC6 (f:=f) (r:=r) hp;rw[QC (by omega)]at hpl;unfold zR3 zBb;rw[hpl,zOI h0 h1,hnx];by_cases c:r<((yZ T F f).parts.length:Int)
 ·rw[QH c,QH c];refine⟨rfl,?_⟩;rw[QC (by show ¬(-1:Int)=block;omega)];simp
 ·rw[QC c,QC c];refine⟨rfl,?_⟩;unfold yK at h1;have hw:=zBU (l:=zR F f) (a:=r - ((yZ T F f).parts.length:Int)) (by omega) (by omega);have hne:(zp (zR F f) (r - ((yZ T F f).parts.length:Int))).1≠ -1:=by omega
  by_cases d:(zp (zR F f) (r - ((yZ T F f).parts.length:Int))).1=block
  ·rw[QH d];exact⟨fun h=>h.elim (fun h=>absurd h hne) fun h=>h.elim (fun h=>h.2) fun h=>absurd d h.2.1,fun h=> .inr (.inl ⟨d,h⟩)⟩
  ·rw[QC d];exact⟨fun h=>h.elim (fun h=>absurd h hne) fun h=>h.elim (fun h=>absurd h.1 d) fun h=> .inr h.2.2,fun h=>h.elim (fun h=>absurd h hne) fun h=> .inr (.inr ⟨hne,d,h⟩)⟩
set_option maxRecDepth 100000
theorem zNj {T:List LType} {F:List LFn} {f:Int} (hp:ZQ T F=0) (hf:0<=f/\f<(F.length:Int)):Zt T F f 0=0:=by
 have Z:=zQL hp hf;have hb0:=Z.bl 0 (Qk 0) (by have:=Z.n1;omega);have hbe:(zD T F f 0).2=0:=by rw[hb0]
 unfold Zt;rw[QC (fun e=>e hbe),QC (by rw[hb0];have:=Z.n1;show ¬(_\/((zR F f).length:Int)<=0);omega),QH ((Zr hbe).2 (by rw[hb0];exact Way.here))]
def zT6:ACode:=(oV (oR [oX 3 0,oN 6 0,oN 7 0]) (oV (oV (oR [oA 2 13 3,o1 14 12 13,oM 8 14]) (oV (oR [oM 15 8,oC .neq 16 15 0]) (oJ 16 (oV (oR [oM 17 8,oN 6 0,oM 7 17]) .ret) .skip))) (oV (oV (oR [oA 2 19 3,oM 20 1,oM 21 2,o3 22 16 19 20 21,oM 18 22,oE 23 18 0,oE 24 18 1,oE 25 18 2,oM 9 23,oM 10 24,oM 11 25]) (oV (oR [oM 26 11,oC .neq 27 26 0]) (oJ 27 (oV (oR [oM 28 11,oN 6 0,oM 7 28]) .ret) .skip))) (oV (oR [oA 2 29 3,oM 30 1,o2 31 27 29 30,⟨some 32,none,(.nilCheck (.tmp 31))⟩,oF 3 33 32,oL 34 33,oM 35 2,oI 1 36 34 35,oL 37 36,oM 12 37]) (oV (oV (oR [oM 38 12,oC .eql 39 38 (-1)]) (oJ 39 (oV (oR [oN 6 0,oN 7 6]) .ret) .skip)) (oV (oR [oM 40 12,oM 6 40,oN 7 0]) .ret))))))
theorem zPN (h:AHeap) (vt vf:Value) (T:List LType) (F:List LFn) (f r:Int) (E:Env h vt vf T F):
  WC Tryz.prog tb 10 [.agg #[vt,vf],I f,I r] h fun q h'=>q= .tuple #[I (zIe T F f r).1,I (zIe T F f r).2]/\Ext h h':=by
 unfold zIe;refine en 41 [(6,none),(7,none)] zT6 ?_;refine WO.bx ?_;intro p1 h1 e1 o1;replace o1:OwnC h h1 p1 [vt,vf]:=o1;have E1:=E.ext e1;refine go ?_;refine WO.con (zGZ h1 vt vf T F E1) ?_;rintro _ h2 ⟨rfl,e2⟩;have o2:=o1.ext e2;have E2:=E1.ext e2;by_cases hs:Ys T F=0;case neg=>
  have hs':Ys T F≠0:=hs;rw[QH hs];refine gr ?_;exact⟨rfl,e1.trans e2⟩
 obtain⟨hp,hw⟩:=zE1 hs;rw[QC (fun e=>e hs),hs];refine go ?_;refine WO.con (zIV h2 vt vf T F f r E2) ?_;rintro _ h3 ⟨rfl,e3⟩;have o3:=o2.ext e3;have E3:=E2.ext e3;have e03:=e1.trans (e2.trans e3);have hpl:=zC6 (f:=f) (r:=r) hp;by_cases hq:(zt T F f r).2.2=0;case neg=>
  have hq':(zt T F f r).2.2≠0:=hq;rw[QH hq];refine gr ?_;exact⟨rfl,e03⟩
 rw[QC (fun e=>e hq)];have hin:¬(f<0\/(F.length:Int)<=f\/r<0\/yK ((yZ T F f).parts.length:Int) (zR F f)<=r):=fun hb=>by
  rw[hpl,QH hb]at hq;cases hq
 have hf:0<=f/\f<(F.length:Int):=by omega
 have Z:=zQL hp hf;have hreg:=Z.reg;have hn16:=Z.n16;generalize zt T F f r=pl at *;rw[hq];refine go ?_;refine WO.con (zKt h3 vt vf T F f E3 (zNj hp hf) hf Z.sig hn16) ?_;rintro _ h4 ⟨⟨g,xs,rfl,hR,⟨⟨hB,vk,vp,vr,oc,sk,sp,sr⟩,st,sf,hm⟩⟩,e4⟩;have sk:SlI h4 vk (ksF T F f):=sk;have hlt:r.toNat<(ksF T F f).length:=by omega
 obtain⟨k,hk⟩:∃ k,(ksF T F f).getD r.toNat 0=k:=⟨_,rfl⟩;refine go ?_;rw[hk];by_cases hk1:k= -1
 ·rw[QH hk1];refine gr ?_;exact⟨rfl,e03.trans e4⟩
 ·rw[QC hk1];refine gr ?_;exact⟨rfl,e03.trans e4⟩
set_option maxRecDepth 100000
def RW (h:AHeap) (cs:List Value) (w:LWd):Prop:=cs=[I w.pos,W w.bits]/\w.bits<18446744073709551616/\ -9223372036854775808<=w.pos/\w.pos<=9223372036854775807
abbrev SlW (h:AHeap) (v:Value) (s:List LWd):Prop:=SlR 2 RW h v s
theorem SlW.ext {h h' v s} (k:SlW h v s) (e:Ext h h'):SlW h' v s:=SlR.ext (h:=h) (h':=h') (R:=RW) (fun cs a r=>r) k e
theorem SlW.bd {h v s} (k:SlW h v s):BdW s:=fun w hw=>by
 obtain⟨i,hi,e⟩:=JU.1 hw;obtain⟨cs,⟨_,h2,_⟩,_⟩:=k.at hi;rw[<-e];exact h2
def zSv:ACode:=(oV (oR [oZ 2]) (oV (oR [oM 3 0,oC .geq 4 3 0,oM 5 4,oG 5 (oM 6 0),oG 5 (oC .lss 7 6 1048576),oP 8 5 7,oM 2 8]) .ret))
theorem zMc (h:AHeap) (n:Int):WC Tryz.prog tb 186 [I n] h fun r h'=>r= .bool (decide (0<=n)&&decide (n<1048576))/\h=h':=by
 refine en 9 [(2,none)] zSv ?_;refine go ?_;repeat' (first|(refine WX.br (fun hb=> ?_) (fun hb=> ?_)<;>(try simp only[DB]at hb)<;>refine go ?_)|(refine WO.sp (fun hb=> ?_) (fun hb=> ?_)<;>(try simp only[DB]at hb)<;>refine go ?_))<;>refine rt ?_<;>exact⟨by simp[one, *]<;>omega,rfl⟩
def zR7:ACode:=(oV (oR [oK 4 (.int .u64 0)]) (oV (oR [oM 5 0,oM 6 1,oB .or 7 5 6,oM 4 7]) .ret))
theorem zUF (h:AHeap) (a b:Nat) (ha:a<18446744073709551616) (hb:b<18446744073709551616):WC Tryz.prog tb 184 [W a,W b] h fun r h'=>r=W (a|||b)/\h=h':=by
 refine en 8 [(4,none)] zR7 ?_;refine WO.bin zU zU (zNy ha hb).1 ?_;refine gr ?_;exact⟨rfl,rfl⟩
def zSG:ACode:=(oV (oR [oK 4 (.int .u64 0)]) (oV (oR [oM 5 0,oM 6 1,oB .andNot 7 5 6,oM 4 7]) .ret))
theorem zM9 (h:AHeap) (a b:Nat) (ha:a<18446744073709551616) (hb:b<18446744073709551616):WC Tryz.prog tb 187 [W a,W b] h fun r h'=>r=W (zC3 a b)/\h=h':=by
 refine en 8 [(4,none)] zSG ?_;refine WO.bin zU zU (zPf ha hb).1 ?_;refine gr ?_;exact⟨rfl,rfl⟩
section
variable {P:Program} {tab:Tab} {t:Trie Value} {h:AHeap} {ds:List Deferred} {rd:Option Nat} {l:List AOper} {Q:AFr->AHeap->Prop}
theorem WO.ldG {d g off:Nat} {x:Operand} {cells:List Value} {v:Value} (hg:zn h g=some cells) (hr:cells[off]?=some v) (hx:Ope t x (.pointer (some ⟨g,off,none⟩))) (k:WO P tab l ⟨t.set d v,ds,rd⟩ h Q):
  WO P tab (⟨some d,none,.load false 1 x⟩::l) ⟨t,ds,rd⟩ h Q:=by
 have hx:ev t x= .pointer (some ⟨g,off,none⟩):=hx;have hlt:off<cells.length:=(QO.1 hr).1;have hc:cut cells off 1=some [v]:=by
  rw[yq (by omega),Qt hlt,Qn,GC];have:=(QO.1 hr).2;rw[this]
 refine WO.op v h rfl ?_ k;simp only[aop,hx,hg,Qs,cond_true,QP,hc,zG,QQ,QK]
theorem WO.unA {d:Nat} {op:UnOp} {x:Operand} {vx v:Value} (hx:Ope t x vx) (hv:unV op vx=some v) (k:WO P tab l ⟨t.set d v,ds,rd⟩ h Q):WO P tab (⟨some d,none,.un op x⟩::l) ⟨t,ds,rd⟩ h Q:=by
 have hx:ev t x=vx:=hx;exact WO.op v h rfl (by simp only[aop,hx,hv,QK]) k
end
set_option maxRecDepth 100000
def TzT (h:AHeap):Prop:=zn h 1=some tzV/\1<h.n
theorem TzT.ext {h h'} (t:TzT h) (e:Ext h h'):TzT h':=⟨e.row t.2 t.1,QG t.2 e.n⟩
def zQV:ACode:=(oV (oR [oN 2 0]) (oV (oV (oR [oM 3 0,⟨some 4,none,(.bin .eql (.tmp 3) (.const (.int .u64 0)))⟩]) (oJ 4 (oV (oR [oN 2 64]) .ret) .skip)) (oV (oR [oM 5 0,oM 6 0,⟨some 7,none,(.un .neg (.tmp 6))⟩,oB .and 8 5 7,⟨some 9,none,(.bin .mul (.tmp 8) (.const (.int .u64 285870213051353865)))⟩,⟨some 10,none,(.bin .shr (.tmp 9) (.const (.int .u64 58)))⟩,⟨some 11,none,(.idxArr 64 1 (.global 1) (.tmp 10))⟩,oL 12 11,⟨some 13,none,(.conv .i64 (.tmp 12))⟩,oM 2 13]) .ret)))
theorem zOL (h:AHeap) (n k:Nat) (T:TzT h) (hn:n<18446744073709551616) (hz:n≠0) (L:Low n k):WC Tryz.prog tb 132 [W n] h fun r h'=>r=I k/\h=h':=by
 refine en 14 [(2,none)] zQV ?_;have hz1:¬(n:Int)=0:=by omega
 have a1:=zVP hz hn;have a2:zh .and (W n) (W (18446744073709551616 - n))=some (W (2 ^ k)):=by rw[zTI hn (by omega),L.one]
 obtain⟨m,j,a3,a4,t1,t2⟩:=zOO L.lt;have hv:=zVA t1 t2;have hk:=L.lt;refine go ?_;refine WO.unA zU a1 ?_;refine go ?_;refine WO.bin zU zU a2 ?_;refine go ?_;refine WO.bin zU rfl a3 ?_;refine go ?_;refine WO.bin zU rfl a4 ?_;refine go ?_;refine WO.ldG (v:= .int .u8 (k:Int)) T.1 (off:=0+j * 1) (by rw[Q5,JB];exact hv) zU ?_;refine gr ?_;exact⟨rfl,rfl⟩
set_option maxRecDepth 100000
theorem zGG {s:List LWd} {i:Nat} (h:i<s.length):s.drop i=s.getD i default::s.drop (i+1):=by
 rw[Qt h,QE,QB h];rfl
theorem zDZ {h:AHeap} {v:Value} {s:List LWd} {i:Nat} (k:SlW h v s) (hi:i<s.length):∃ cs,RW h cs (s.getD i default)/\Piece h v (i * 2) cs/\zMH v:=by
 obtain⟨cs,a,_,c⟩:=k.at hi;exact⟨cs,by rw[QE,QB hi];exact a,c,k.some hi⟩
def zI6 (b:Bool):Int:=if b then 0 else 8
theorem zB8 {last:Int} {w:LWd} {l:List LWd} (h:w.pos<=last\/16384<=w.pos\/(w.bits:Int)=0):yJ last (w::l)=false:=by
 unfold yJ;rcases h with h|h|h
 ·rw[QR (show ¬last<w.pos by omega)];rfl
 ·rw[QR (show ¬w.pos<16384 by omega),Qm];rfl
 ·rw[QR (show ¬w.bits≠0 by omega),Qm];rfl
theorem zHs {last:Int} {w:LWd} {l:List LWd} (h1:last<w.pos) (h2:w.pos<16384) (h3:w.bits≠0):yJ last (w::l)=yJ w.pos l:=by
 rw[yJ,QX h1,QX h2,QX h3];rfl
def zOw:ACode:=(oV (oR [oB .lss 9 8 7]) (oV (oT 9 0) (oV (o5 1 (oV (oR [oI 2 10 6 8,oA 2 11 10,⟨some 5,none,(.alloc [(.int .i64 0),(.int .u64 0)])⟩,oS 2 5 11]) (oV (oV (oR [oF 0 12 5,oL 13 12,oM 14 3,oB .leq 15 13 14,oM 16 15,oH 16 (oF 0 17 5),oH 16 (oL 18 17),oH 16 (oC .geq 19 18 16384),oO 20 16 19,oM 21 20,oH 21 (oF 1 22 5),oH 21 (oL 23 22),⟨some 24,some (21,false),(.bin .eql (.tmp 23) (.const (.int .u64 0)))⟩,oO 25 21 24]) (oJ 25 (oV (oR [oN 2 8]) .ret) .skip)) (oR [oF 0 26 5,oL 27 26,oM 3 27])))) (oR [oC .add 28 8 1,oM 8 28]))))
def zVK:ACode:=(oV (oR [oN 2 0]) (oV (oR [oN 3 (-1)]) (oV (oV (oR [oM 6 0,oQ 7 6,oN 8 0]) (o5 0 (.loop zOw))) (oV (oR [oN 2 0]) .ret))))
theorem zCw (h:AHeap) (v:Value) (s:List LWd) (k:SlW h v s) (hl:(s.length:Int)<=1000000000):
  WC Tryz.prog tb 82 [v] h fun r h'=>r=I (zI6 (yJ (-1) s))/\Ext h h':=by
 refine en 29 [(2,none)] zVK ?_;refine WX.loopA [9,10,11,5,12,13,14,15,16,17,18,19,20,21,22,23,24,25,2,26,27,3,28,8] (by kernel_rfl) (fun i=>s.length - i) (fun i t h1=>Ext h h1/\zB t 8=I i/\i<=s.length/\∃ last:Int,zB t 3=I last/\Hid (yJ (-1) s=yJ last (s.drop i))) 0 ?_ ?_
 ·exact⟨Ext.refl _,sl_,QW _,-1,sl_,⟨rfl⟩⟩
 rintro i t h1 hsame ⟨e1,s8,hi,last,s3,hc⟩;have k1:=SlW.ext k e1;refine go ?_;refine WX.br (fun hb=> ?_) (fun hb=> ?_)<;>simp only[DB]at hb
 ·have hi':i<s.length:=by omega
  obtain⟨cs,⟨rfl,w1,w2,w3⟩,pc,hs⟩:=zDZ k1 hi';have hd:=hc.out;rw[zGG hi']at hd;generalize s.getD i default=w at *;have hd:=Hid.mk hd;refine go ?_;refine WO.al ?_;intro p h2 e2 o2;refine go ?_;refine WO.stC0 (cs:=[I w.pos,W w.bits]) o2 e2 ?_;intro h3 e3 o3 u3;refine go ?_;refine go ?_;repeat' (first|(refine WX.br (fun hb=> ?_) (fun hb=> ?_)<;>(try simp only[DB]at hb)<;>refine go ?_)|(refine WO.sp (fun hb=> ?_) (fun hb=> ?_)<;>(try simp only[DB]at hb)<;>refine go ?_))
  ·refine rt ?_;exact⟨by rw[hd.out,zB8 (.inl hb)];rfl,e1.trans e3⟩
  ·refine rt ?_;exact⟨by rw[hd.out,zB8 (.inr (.inl hb))];rfl,e1.trans e3⟩
  ·refine rt ?_;exact⟨by rw[hd.out,zB8 (.inr (.inr hb))];rfl,e1.trans e3⟩
  ·refine zA (i+1) (by omega) ⟨e1.trans e3,sln,by omega,w.pos,sl_,⟨?_⟩⟩;rw[hd.out];exact zHs (by omega) (by omega) (by omega)
 ·refine gr ?_;have:=hc.out;rw[show i=s.length by omega,List.drop_length]at this;exact⟨by rw[this];rfl,e1⟩
theorem zVp {n:Int} (h0:0<=n) (h1:n<9223372036854775808):zh .quo (I n) (I 64)=some (I (n / 64)):=by
 simp only[zh,I,Qv];rw[QC (by decide),Gx h0,zDI (by omega) (by omega)]
theorem zNg {n:Int} (h0:0<=n):zh .rem (I n) (I 64)=some (I (n % 64)):=by
 simp only[zh,I,Qv];rw[QC (by decide),Int.tmod_eq_emod_of_nonneg h0]
theorem zEd (w:LWd) (s:List LWd):(zx (w::s)).length=(zAa w.bits).length+(zx s).length:=by
 unfold zx;simp
theorem zPW (b:Nat):(zAa b).length<=64:=by
 have:=List.length_filter_le b.testBit (List.range 64);rw[G5]at this;exact this
end
end Go.Proofs.YteekipjpghikkaaGreatDoor
