/- What functions of the program come to in the abstract machine, and plain laws about it; no statement of the seat is proved in this text. -/
import Derived.Test.YteekipjpghikkaaGreatDoorJn
import Derived.Test.YteekipjpghikkaaGreatDoorJm
import Derived.Test.YteekipjpghikkaaGreatDoorJk
import Derived.Test.YteekipjpghikkaaGreatDoorJl
import Derived.Test.YteekipjpghikkaaGreatDoorJl
import Derived.Test.YteekipjpghikkaaGreatDoorJb
import Derived.Test.YteekipjpghikkaaGreatDoorJa
import Derived.Test.YteekipjpghikkaaGreatDoorAmD
set_option linter.unusedVariables false
set_option linter.unusedSimpArgs false
set_option maxHeartbeats 2000000
namespace Go.Proofs.YteekipjpghikkaaGreatDoor
noncomputable section
open Go.Am
set_option maxRecDepth 100000
theorem zSt {T:List LType} {F:List LFn} {f:Int} (hp:yX T F=0) (hf:0≤f∧f<(F.length:Int)) {B:LBlk} (hB:B∈zJ F f) {x:LIns} (hx:x∈B.ins):Y3 x (szL T F.length (F.getD f.toNat default))=true:=by
 have h0:fnL T F.length (F.getD f.toNat default)=true:=(Zj hp).2.2.2 _ (zH (l:=F) (i:=f.toNat) (by omega));unfold fnL at h0;split at h0
 ·cases h0
 ·have h0:((F.getD f.toNat default).blocks.any fun b=>YC b (szL T F.length (F.getD f.toNat default)))=false:=by simpa using h0
  have hb:=List.any_eq_false.1 h0 B hB;have hb:YC B (szL T F.length (F.getD f.toNat default))=false:=by simpa using hb
  unfold YC at hb;rw[Bool.or_eq_false_iff]at hb;have:=List.any_eq_false.1 hb.1 x hx;simpa using this
section
variable {vt vf:Value} {T:List LType} {F:List LFn}
def zST:ACode:=(oV (oR [oX 4 0,oZ 8]) (oV (oR [oF 1 12 4,oL 13 12,oM 14 1,oI 2 15 13 14,oF 1 16 15,oL 17 16,oM 18 2,oI 5 19 17 18,oF 0 20 19,oL 21 20,oM 22 3,oI 7 23 21 22,oA 7 24 23,⟨some 9,none,(.alloc [(.int .u8 0),(.int .i64 0),(.int .i64 0),(.int .i64 0),(.int .i64 0),(.slice none 0 0),(.slice none 0 0)])⟩,oS 7 9 24]) (oV (o6 [oA 2 26 4,oM 27 1,oA 7 28 9,(o1 29 122 28,[0]),o3 30 121 26 27 29,oM 25 30,oE 31 25 0,oE 32 25 1,oM 10 31,oM 11 32]) (oV (oV (oR [oM 33 11,oW 34 33,oM 35 34,oH 35 (oA 2 36 4),oH 35 (oA 7 37 9),oH 35 (oM 38 10),oH 35 (o3 39 123 36 37 38),oH 35 (oW 40 39),oO 41 35 40]) (oJ 41 (oV (oR [oZ 8]) .ret) .skip)) (oV (oV (oR [oF 0 42 9,oL 43 42,oD .eql 44 43 22]) (oJ 44 (oV (oR [oA 2 45 4,oM 46 1,oM 47 2,oM 48 3,o4 49 124 45 46 47 48,oM 8 49]) .ret) .skip)) (oV (o6 [oA 2 50 4,oM 51 1,oA 7 52 9,(o1 53 122 52,[0]),oM 54 2,oM 55 3,(⟨some 56,none,(.call (.func 125) [(.tmp 50),(.tmp 51),(.tmp 53),(.tmp 54),(.tmp 55)])⟩,[]),oM 8 56]) .ret))))))
theorem zIF (h:AHeap) (f b:Int) (i:Nat) (E:En h vt vf T F) (hp:yX T F=0) (Z:FnIn T F f) (hway:∀ c,0≤c→c<((zJ F f).length:Int)→Way (nxL (zJ F f)) 0 c) (hb:0≤b∧b<((zJ F f).length:Int)) (hi:i<((zJ F f).getD b.toNat default).ins.length):
  WC Tryz.prog tb 74 [.agg #[vt,vf],I f,I b,I i] h fun q h'=>(∃ bb,q= .bool bb∧(bb=true↔zAW T F (ksF T F f) (psF T F f) (nxL (zJ F f)) (zJ F f) (zP (zJ F f) b (zJ F f).length) b i (zDd ((zJ F f).getD b.toNat default) i) (((zJ F f).getD b.toNat default).ins.getD i default)))∧Ext h h':=by
 have hf:=Z.hf;have hF:=E.sm.funcs;have hn16:=Z.n16;have hBm:=zH (l:=zJ F f) (i:=b.toNat) (by omega);have hxm:=zH hi;have hU:=(Z.U _ hBm).ins _ hxm;have hV:=Z.V _ hBm _ hxm;have hN:=zQs (zSt hp hf hBm hxm);have huses:=zCD hU;have hll:(yg (ksF T F f) (yI (((zJ F f).getD b.toNat default).ins.getD i default))).length=(yI (((zJ F f).getD b.toNat default).ins.getD i default)).length:=by unfold yg;simp
 have hinT:∀ t∈yg (ksF T F f) (yI (((zJ F f).getD b.toNat default).ins.getD i default)),InT T t:=fun t ht=>by
  obtain⟨r,hr,rfl⟩:=List.mem_map.1 ht;have:=hU.uses r hr;exact Z.ks _ (zS (by omega))
 unfold zAW;replace hway:=Hid.mk hway;have hi':=Hid.mk hi;have hb':=Hid.mk hb;replace hinT:=Hid.mk hinT;replace hN:=Hid.mk hN;refine en 57 [(8,none)] zST ?_;refine WO.bx ?_;intro p4 h4 e4 o4;replace o4:OwnC h h4 p4 [vt,vf]:=o4;have E4:=E.ext e4;have sf4:=E4.sf;obtain⟨cs,⟨vb,rfl,sb,hlb⟩,pc,hs⟩:=zo (i:=f.toNat) sf4 (by omega);have sb:SlB h4 vb (zJ F f):=sb;have pc4:=(pc _ (Ext.refl _)).1;obtain⟨csb,⟨vi,rfl,si,hli⟩,pcb,hsb⟩:=zo (i:=b.toNat) sb (by omega);have pcb4:=(pcb _ (Ext.refl _)).1;obtain⟨csx,hR,pcx,hsx⟩:=zo (i:=i) si hi;have pcx4:=(pcx _ (Ext.refl _)).1;generalize hxd:((zJ F f).getD b.toNat default).ins.getD i default=x at *;obtain⟨xa,xf,rfl,sxa,sxf,hla,hlf,ho⟩:=id hR;obtain⟨a1,a2,a3,rfl⟩:=SlC.shape sxa;obtain⟨f1,f2,f3,rfl⟩:=SlC.shape sxf;refine go ?_;refine WO.al ?_;intro p9 h5 e5 o9;refine go ?_;refine WO.stC0 (cs:=[.int .u8 x.op,I x.ty,I x.a,I x.b,I x.n,.slice a1 a2 a3,.slice f1 f2 f3]) o9 e5 ?_;intro h6 e6 o9 u9;have o46:=o4.ext e6;have E6:=E4.ext e6;have hR6:=hR.ext e6;have e06:=e4.trans e6;refine go ?_;refine WX.regionU2 0 rfl rfl ?_;have ea:=zI 0 h6;have o4X:=OwnC.ia (o46.ext ea);have o9X:=OwnC.ia (o9.ext ea);have hRX0:=hR6.ext ea;have hRX:RIns (inC (zC 0 h6)) _ x:=hRX0;refine goU ?_;refine WO.con (zDJ _ x _ hRX hU.args) ?_;rintro vu X7 ⟨ou,e7⟩;refine nE e7 ?_;have e7':=ea.trans (zb (h:=h6) e7);refine goU ?_;refine WO.con (zEE _ f vu _ (E6.inC.go e7) Z (SlI.ia ou.sl) (by omega) (fun r hr=>hU.uses r hr)) ?_;rintro _ X8 ⟨⟨w,rfl,hw,w1,w2,w3,rfl⟩,e8⟩;refine nE e8 ?_;have e8':=e7'.trans (zb (h:=h6) e8);have e8'':Ext h6 (outC h6 (inC X8)):=e8';have hw8:¬(-1:Int)∈yg (ksF T F f) (yI x)→SlI (outC h6 (inC X8)) (.slice w1 w2 w3) (yg (ksF T F f) (yI x)):=fun hn=>(hw hn).sl;refine goU ?_;generalize outC h6 (inC X8)=h8 at *;replace hw8:=Hid.mk hw8;replace hw:=Hid.mk hw;have o48:=o46.ext e8'';have o98:=o9.ext e8'';have E8:=E6.ext e8'';have e08:=e06.trans e8'';by_cases c1:(-1:Int)∈yg (ksF T F f) (yI x)
 ·rw[decide_eq_true c1];refine gr ?_;exact⟨⟨false,rfl,by simp only[Bool.false_eq_true,false_iff];exact fun q=>q.1 c1⟩,e08⟩
 rw[decide_eq_false c1];refine go ?_;have hn:=hN.out;refine WO.con (zIK h8 x _ (.slice w1 w2 w3) (yg (ksF T F f) (yI x)) E8 Z.hc (hR6.ext e8'') (hw8.out c1) (by omega) hinT.out hV.ty hU.op Z.sigF hV.n14 hV.n2 (fun e=>by have:=hV.l1 e;omega) (fun e=>by have:=hV.l2 (by omega);omega) (fun e=>by have:=hn.1 e;omega) (fun e=>by have:=hn.2.1 e;omega) (fun e=>by have:=hn.2.2 e;omega)) ?_;rintro _ h9 ⟨rfl,e9⟩;have o49:=o48.ext e9;have o99:=o98.ext e9;have E9:=E8.ext e9;have e09:=e08.trans e9;clear hn;cases c2:yA T F x (yg (ksF T F f) (yI x))with
 |false=>
  refine gr ?_;exact⟨⟨false,rfl,by simp⟩,e09⟩
 |true=>
  refine go ?_;by_cases c3:x.op=22
  ·refine go ?_;refine WO.con (zMs h9 f b i E9 hp Z hway.out hb'.out hi'.out (by rw[hxd];exact c3)) ?_;rintro _ h10 ⟨⟨bb,rfl,hbb⟩,e10⟩;rw[hxd]at hbb;refine gr ?_;refine⟨⟨bb,rfl,?_⟩,e09.trans e10⟩;rw[hbb];exact⟨fun q=>⟨c1,rfl,fun _=>q,fun q=>absurd c3 q⟩,fun q=>q.2.2.1 c3⟩
  ·refine go ?_;refine WX.regionU2 0 rfl rfl ?_;have ea:=zI 0 h9;have o4X:=OwnC.ia (o49.ext ea);have o9X:=OwnC.ia (o99.ext ea);have hRX0:=(hR6.ext (e8''.trans e9)).ext ea;have hRX:RIns (inC (zC 0 h9)) _ x:=hRX0;refine goU ?_;refine WO.con (zDJ _ x _ hRX hU.args) ?_;rintro vu2 X10 ⟨ou2,e10⟩;refine nE e10 ?_;have e10':=ea.trans (zb (h:=h9) e10);refine goU ?_;refine WO.con (zCX _ f vu2 _ b i (E9.inC.go e10) hp Z (hway.out b hb'.out.1 hb'.out.2) hb'.out (SlI.ia ou2.sl) (by omega) (fun r hr=>hU.uses r hr)) ?_;rintro _ X11 ⟨⟨bb,rfl,hbb⟩,e11⟩;refine nE e11 ?_;have e11':=e10'.trans (zb (h:=h9) e11);refine gUr ?_;refine⟨⟨bb,rfl,?_⟩,e09.trans e11'⟩;rw[hbb];exact⟨fun q=>⟨c1,rfl,fun e=>absurd e c3,fun _=>q⟩,fun q=>q.2.2.2 c3⟩
end
set_option maxRecDepth 100000
theorem zSi {x:LEnd}:(0:Int)∉yy x↔(x.kind=1∨x.kind=2→x.to≠0∧(x.kind=1∨x.els≠0)):=by
 unfold yy;by_cases k1:x.kind=1
 ·rw[if_pos k1];simp[k1];omega
 ·rw[if_neg k1];by_cases k2:x.kind=2
  ·rw[if_pos k2];by_cases e:x.to=x.els
   ·rw[if_pos e];simp[k1,k2,←e];omega
   ·rw[if_neg e];simp[k1,k2];omega
  ·rw[if_neg k2];simp[k1,k2]
section
variable {vt vf:Value} {T:List LType} {F:List LFn}
def zSA:ACode:=(oV (oR [oX 3 0,oZ 6]) (oV (oR [oF 1 10 3,oL 11 10,oM 12 1,oI 2 13 11 12,oF 1 14 13,oL 15 14,oM 16 2,oI 5 17 15 16,oA 5 18 17,⟨some 7,none,(.alloc [(.slice none 0 0),(.int .u8 0),(.int .i64 0),(.int .i64 0),(.int .i64 0)])⟩,oS 5 7 18]) (oV (o6 [oA 2 20 3,oM 21 1,oF 1 22 7,oA 4 23 22,(o1 24 126 23,[0]),o3 25 121 20 21 24,oM 19 25,oE 26 19 0,oE 27 19 1,oM 8 26,oM 9 27]) (oV (oV (o6 [oM 28 9,oW 29 28,oM 30 29,oH 30 (oA 2 31 3),oH 30 (oM 32 1),oH 30 (oF 1 33 7),oH 30 (oA 4 34 33),(oH 30 (o1 35 126 34),[3]),oH 30 (oM 36 2),oH 30 (oF 0 37 7),(oH 30 (oL 38 37),[7]),oH 30 (oQ 39 38),(⟨some 40,some (30,false),(.call (.func 125) [(.tmp 31),(.tmp 32),(.tmp 35),(.tmp 36),(.tmp 39)])⟩,[]),oH 30 (oW 41 40),oO 42 30 41,oM 43 42,oH 43 (oF 1 44 7),oH 43 (oA 4 45 44),oH 43 (o1 46 128 45),(⟨some 47,some (43,false),(.call (.func 127) [(.tmp 46),(.const (.int .i64 0))])⟩,[]),oO 48 43 47]) (oJ 48 (oV (oR [oZ 6]) .ret) .skip)) (oV (oV (oR [oF 1 49 7,oF 0 50 49,oL 51 50]) (o5 0 (oV (oR [oD .eql 53 51 2,oM 52 53]) (oJ 52 (oV (o6 [oA 2 54 3,oM 55 8,(⟨some 56,none,(.idx 1 (.tmp 55) (.const (.int .i64 0)))⟩,[]),oL 57 56,(⟨some 58,none,(.call (.func 35) [(.tmp 54),(.tmp 57),(.const (.int .u8 1))])⟩,[]),oM 6 58]) .ret) (oV (oR [oD .eql 60 51 3,oM 59 60]) (oJ 59 (oV (o6 [oM 61 8,(⟨some 62,none,(.idx 1 (.tmp 61) (.const (.int .i64 0)))⟩,[]),oL 63 62,oF 0 64 3,oL 65 64,oF 1 66 3,oL 67 66,oM 68 1,oI 2 69 67 68,oF 0 70 69,oL 71 70,oI 4 72 65 71,oF 1 73 72,oL 74 73,oB .eql 75 63 74,oM 6 75]) .ret) .skip)))))) (oV (oR [oK 6 (.bool true)]) .ret))))))
theorem zEJ (h:AHeap) (f b:Int) (E:En h vt vf T F) (hp:yX T F=0) (Z:FnIn T F f) (hway:∀ c,0≤c→c<((zJ F f).length:Int)→Way (nxL (zJ F f)) 0 c) (hb:0≤b∧b<((zJ F f).length:Int)):
  WC Tryz.prog tb 75 [.agg #[vt,vf],I f,I b] h fun q h'=>(∃ bb,q= .bool bb∧(bb=true↔Zq T F f (ksF T F f) (psF T F f) (nxL (zJ F f)) (zJ F f) b))∧Ext h h':=by
 have hf:=Z.hf;have hF:=E.sm.funcs;have hsg:=Z.sig;have hn16:=Z.n16;have hBm:=zH (l:=zJ F f) (i:=b.toNat) (by omega);have hU:=Z.U _ hBm;have hil:=E.sm.ins _ (zH (l:=F) (i:=f.toNat) (by omega)) _ hBm;have hendl:(z9 ((zJ F f).getD b.toNat default).fin).length≤1:=by unfold z9;split<;>simp
 have hll:(yg (ksF T F f) (z9 ((zJ F f).getD b.toNat default).fin)).length=(z9 ((zJ F f).getD b.toNat default).fin).length:=by unfold yg;simp
 have hinT:∀ t∈yg (ksF T F f) (z9 ((zJ F f).getD b.toNat default).fin),InT T t:=fun t ht=>by
  obtain⟨r,hr,rfl⟩:=List.mem_map.1 ht;have:=hU.ends r hr;exact Z.ks _ (zS (by omega))
 unfold Zq zFI;rw[←zSi];replace hway:=Hid.mk hway;replace hinT:=Hid.mk hinT;have hb':=Hid.mk hb;refine en 76 [(6,none)] zSA ?_;refine WO.bx ?_;intro p4 h4 e4 o4;replace o4:OwnC h h4 p4 [vt,vf]:=o4;have E4:=E.ext e4;have sf4:=E4.sf;obtain⟨cs,⟨vb,rfl,sb,hlb⟩,pc,hs⟩:=zo (i:=f.toNat) sf4 (by omega);have sb:SlB h4 vb (zJ F f):=sb;have pc4:=(pc _ (Ext.refl _)).1;obtain⟨csb,⟨vi,rfl,si,hli⟩,pcb,hsb⟩:=zo (i:=b.toNat) sb (by omega);have pcb4:=(pcb _ (Ext.refl _)).1;generalize hBd:(zJ F f).getD b.toNat default=B at *;obtain⟨v1,v2,v3,rfl⟩:=zF si;refine go ?_;refine WO.al ?_;intro p9 h5 e5 o9;refine go ?_;refine WO.stC0 (cs:=[.slice v1 v2 v3,.int .u8 B.fin.kind,I B.fin.a,I B.fin.to,I B.fin.els]) o9 e5 ?_;intro h6 e6 o9 u9;have o46:=o4.ext e6;have E6:=E4.ext e6;have e06:=e4.trans e6;refine go ?_;refine WX.regionU2 0 rfl rfl ?_;have ea:=zI 0 h6;have o4X:=OwnC.ia (o46.ext ea);have o9X:=OwnC.ia (o9.ext ea);refine goU ?_;refine WO.con (zGF _ B.fin) ?_;rintro vu X7 ⟨ou,e7⟩;refine nE e7 ?_;have e7':=ea.trans (zb (h:=h6) e7);refine goU ?_;refine WO.con (zEE _ f vu _ (E6.inC.go e7) Z (SlI.ia ou.sl) (by omega) (fun r hr=>hU.ends r hr)) ?_;rintro _ X8 ⟨⟨w,rfl,hw,w1,w2,w3,rfl⟩,e8⟩;refine nE e8 ?_;have e8':=e7'.trans (zb (h:=h6) e8);have e8'':Ext h6 (outC h6 (inC X8)):=e8';have hw8:¬(-1:Int)∈yg (ksF T F f) (z9 B.fin)→SlI (outC h6 (inC X8)) (.slice w1 w2 w3) (yg (ksF T F f) (z9 B.fin)):=fun hn=>(hw hn).sl;refine goU ?_;generalize outC h6 (inC X8)=h8 at *;replace hw8:=Hid.mk hw8;replace hw:=Hid.mk hw;have o48:=o46.ext e8'';have o98:=o9.ext e8'';have E8:=E6.ext e8'';have e08:=e06.trans e8'';have si8:=SlN.ext si (e6.trans e8'');refine go ?_;refine WX.regionU2 0 rfl rfl ?_;have ea8:=zI 0 h8;have o4X8:=OwnC.ia (o48.ext ea8);have o9X8:=OwnC.ia (o98.ext ea8);by_cases c1:(-1:Int)∈yg (ksF T F f) (z9 B.fin)
 ·rw[decide_eq_true c1];refine goU ?_;refine zHR Y4 ?_;refine goU ?_;refine zQq ?_;refine gUr ?_;exact⟨⟨false,rfl,by simp only[Bool.false_eq_true,false_iff];exact fun q=>q.1.1 c1⟩,e08.trans ea8⟩
 rw[decide_eq_false c1];refine goU ?_;refine WO.con (zGF _ B.fin) ?_;rintro vu2 X9 ⟨ou2,e9⟩;refine nE e9 ?_;have e9':=ea8.trans (zb (h:=h8) e9);have o4X9:=OwnC.ia (o4X8.ext e9);have o9X9:=OwnC.ia (o9X8.ext e9);have si9:SlN (inC X9) (.slice v1 v2 v3) B.ins:=by have:=SlN.ext si8 e9';exact this
 refine goU ?_;refine zGB o98 (Nat.le_refl _) ?_;refine goU ?_;refine WO.con (zCX _ f vu2 _ b B.ins.length (E8.inC.go e9) hp Z (hway.out b hb'.out.1 hb'.out.2) hb'.out (SlI.ia ou2.sl) (by omega) (fun r hr=>hU.ends r hr)) ?_;rintro _ X10 ⟨⟨bb,rfl,hbb⟩,e10⟩;refine nE e10 ?_;have e10':=e9'.trans (zb (h:=h8) e10);cases bb with
 |false=>
  refine gUr ?_;exact⟨⟨false,rfl,by simp only[Bool.false_eq_true,false_iff];exact fun q=>absurd (hbb.2 q.1.2) Bool.noConfusion⟩,e08.trans e10'⟩
 |true=>
  have o9X10:=OwnC.ia (o9X9.ext e10);refine goU ?_;refine WO.con (zM0 _ B.fin) ?_;rintro vt11 X11 ⟨ot,e11⟩;refine nE e11 ?_;have e11':=e10'.trans (zb (h:=h8) e11);have hnl:(yy B.fin).length≤2:=by unfold yy;split;simp;split;split<;>simp;simp
  refine goU ?_;refine WO.con (zQf _ vt11 (yy B.fin) 0 (SlI.ia ot.sl) (by omega)) ?_;rintro _ _ ⟨rfl,rfl⟩;refine nQ ?_;have e11'':Ext h8 (outC h8 (inC X11)):=e11';by_cases c2:(0:Int)∈yy B.fin
  ·rw[decide_eq_true c2];refine gUr ?_;exact⟨⟨false,rfl,by simp only[Bool.false_eq_true,false_iff];exact fun q=>q.2.2.1 c2⟩,e08.trans e11'⟩
  rw[decide_eq_false c2];refine goU ?_;generalize outC h8 (inC X11)=h11 at *;have o4_11:=o48.ext e11'';have o9_11:=o98.ext e11'';have hw11:=SlI.ext (hw8.out c1) e11'';have E11:=E8.ext e11'';have e011:=e08.trans e11'';have sf11:=E11.sf;have st11:=E11.st;have hset:=hbb.1 rfl;replace hset:=Hid.mk hset;replace hbb:=Hid.mk hbb;refine go ?_;by_cases k2:B.fin.kind=2
  ·have hel:(yg (ksF T F f) (z9 B.fin)).length=1:=by rw[hll];unfold z9;rw[if_pos (.inl k2)];rfl
   have ht0:=Z3 hinT.out (show 0<(yg (ksF T F f) (z9 B.fin)).length by omega);have hwX:=SlI.ia (hw11.ext (zI 0 h11));have o4X11:=OwnC.ia (o4_11.ext (zI 0 h11));refine go ?_;refine WX.regionU2 0 rfl rfl ?_;refine goU ?_;refine WO.con (yl _ _ 1 E11.inC ht0) ?_;rintro _ X12 ⟨rfl,e12⟩;refine nE e12 ?_;have e12':=(zI 0 h11).trans (zb (h:=h11) e12);refine gUr ?_;refine⟨⟨_,rfl,?_⟩,e011.trans e12'⟩;rw[zMx hel];exact⟨fun q=>⟨⟨c1,hset.out⟩,fun _=>q,c2,fun e=>by omega⟩,fun q=>q.2.1 k2⟩
  refine go ?_;by_cases k3:B.fin.kind=3
  ·have hel:(yg (ksF T F f) (z9 B.fin)).length=1:=by rw[hll];unfold z9;rw[if_pos (.inr k3)];rfl
   have pc11:=(pc _ ((e6.trans e8'').trans e11'')).1;obtain⟨cst,⟨vat,rfl,sat,hlat⟩,pct,hslt⟩:=yQ (i:=(F.getD f.toNat default).sig.toNat) st11 (by omega);refine gr ?_;refine⟨⟨_,rfl,?_⟩,e011⟩;rw[decide_eq_true_iff];exact⟨fun q=>⟨⟨c1,hset.out⟩,fun e=>absurd e k2,c2,fun _=>q⟩,fun q=>q.2.2.2 k3⟩
  ·refine gr ?_;exact⟨⟨true,rfl,by simp only[true_iff];exact⟨⟨c1,hset.out⟩,fun e=>absurd e k2,c2,fun e=>absurd e k3⟩⟩,e011⟩
end
set_option maxRecDepth 100000
def FnR (T:List LType) (F:List LFn) (f:Int):Prop:=(∀ c,0≤c→c<((zJ F f).length:Int)→Way (nxL (zJ F f)) 0 c)∧∀ b,0≤b→b<((zJ F f).length:Int)→zCs T F f b
theorem zNu {T:List LType} {F:List LFn} {f:Int}:zGx T F f↔FnR T F f∧(f=0→(yB T F f).parts=[]∧isT T 1 (yB T F f).elem=true):=⟨fun h=>⟨⟨h.1,h.2.2⟩,h.2.1⟩,fun h=>⟨h.1.1,h.2,h.1.2⟩⟩
theorem zS7 {T:List LType} {F:List LFn} {f b:Int}:zCs T F f b↔(∀ i,i<((zJ F f).getD b.toNat default).ins.length→zAW T F (ksF T F f) (psF T F f) (nxL (zJ F f)) (zJ F f) (zP (zJ F f) b (zJ F f).length) b i (zDd ((zJ F f).getD b.toNat default) i) (((zJ F f).getD b.toNat default).ins.getD i default))∧Zq T F f (ksF T F f) (psF T F f) (nxL (zJ F f)) (zJ F f) b:=by
 unfold zCs;rw[←zLw];rfl
section
variable {vt vf:Value} {T:List LType} {F:List LFn}
def zMw:ACode:=(oV (oV (oR [oM 34 6,oF 1 35 2,oL 36 35,oM 37 1,oI 2 38 36 37,oF 1 39 38,oL 40 39,oM 41 5,oI 5 42 40 41,oF 0 43 42,oL 44 43,oQ 45 44,oB .lss 46 34 45]) (oT 46 2)) (oV (o5 3 (oV (oR [oA 2 49 2,oM 50 1,oM 51 5,oM 52 6,o4 53 74 49 50 51 52,oW 54 53]) (oJ 54 (oV (oR [oZ 4]) .ret) .skip))) (oR [oM 47 6,oC .add 48 47 1,oM 6 48])))
def zLX:ACode:=(oV (oV (oR [oM 23 5,oF 1 24 2,oL 25 24,oM 26 1,oI 2 27 25 26,oF 1 28 27,oL 29 28,oQ 30 29,oB .lss 31 23 30]) (oT 31 0)) (oV (o5 1 (oV (oV (oR [oN 6 0]) (o5 2 (.loop zMw))) (oV (oR [oA 2 55 2,oM 56 1,oM 57 5,o3 58 75 55 56 57,oW 59 58]) (oJ 59 (oV (oR [oZ 4]) .ret) .skip)))) (oR [oM 32 5,oC .add 33 32 1,oM 5 33])))
def zQ1:ACode:=(oV (oR [oX 2 0,oZ 4]) (oV (oV (o6 [oF 1 7 2,oL 8 7,oM 9 1,oI 2 10 8 9,oF 1 11 10,oL 12 11,o1 13 73 12,oQ 14 13,oF 1 15 2,(oL 16 15,[6]),oM 17 1,oI 2 18 16 17,oF 1 19 18,(oL 20 19,[6]),oQ 21 20,oB .neq 22 14 21]) (oJ 22 (oV (oR [oZ 4]) .ret) .skip)) (oV (oV (oR [oN 5 0]) (o5 0 (.loop zLX))) (oV (oR [oK 4 (.bool true)]) .ret))))
theorem zER (h:AHeap) (f:Int) (E:En h vt vf T F) (hp:yX T F=0) (hf:0≤f∧f<(F.length:Int)):
  WC Tryz.prog tb 34 [.agg #[vt,vf],I f] h fun q h'=>(∃ bb,q= .bool bb∧(bb=true↔FnR T F f))∧Ext h h':=by
 have Z:=zKe hp hf;have hF:=E.sm.funcs;have hn16:=Z.n16;have hn1:=Z.n1;have hb0:=Z.bl 0 (Int.le_refl 0) (by omega);have hbe:(zD T F f 0).2=0:=by rw[hb0]
 have hra:=zEw hbe;have hre:=fun l=>zMK hbe (l:=l);rw[hb0]at hra hre;replace hra:(yK T F f).1.length=(zJ F f).length↔∀ c,0≤c→c<((zJ F f).length:Int)→Way (nxL (zJ F f)) 0 c:=hra;replace hre:=Hid.mk hre;have hil:=Hid.mk (E.sm.ins _ (zH (l:=F) (i:=f.toNat) (by omega)));refine en 60 [(4,none)] zQ1 ?_;refine WO.bx ?_;intro p4 h4 e4 o4;replace o4:OwnC h h4 p4 [vt,vf]:=o4;have E4:=E.ext e4;have sf4:=E4.sf;obtain⟨cs,⟨vb,rfl,sb,hlb⟩,pc,hs⟩:=zo (i:=f.toNat) sf4 (by omega);have sb:SlB h4 vb (zJ F f):=sb;obtain⟨qa,qn,qk,hqv,hqb⟩:=Y0 sf4 (i:=f.toNat) (by omega);refine go ?_;refine WX.regionU2 0 rfl rfl ?_;have ea:=zI 0 h4;have o4X:=OwnC.ia (o4.ext ea);have sfX:=E4.inC.sf;have pcX:=(pc _ ea).2;have sbX0:=SlB.ext sb ea;have sbX:SlB (inC (zC 0 h4)) vb (zJ F f):=sbX0;refine goU ?_;refine WO.con (zHH _ vb (zJ F f) (Nat.le_refl _) sbX (by omega) (by omega) Z.nx) ?_;rintro vr X5 ⟨⟨l,orl,hris,hl16,hmem⟩,e5⟩;have hl:=hre.out l hris hmem;refine nE e5 ?_;have e5':=ea.trans (zb (h:=h4) e5);have o4X5:=OwnC.ia (o4X.ext e5);have sfX5:SlF (inC X5) vf F:=(E4.inC.go e5).sf;have pcX5:Piece (inC X5) vf (f.toNat * 2) [I (F.getD f.toNat default).sig,vb]:=(pc _ e5').2;have sbX5:SlB (inC X5) vb (zJ F f):=by have:=SlB.ext sb e5';exact this
 have orX:=OwnN.ext orl (Ext.refl X5);have orX:SlI (inC X5) vr l:=SlI.ia orl.sl;refine goU ?_;refine zBn o4 (Nat.le_refl _) ?_;refine goU ?_;refine zHG ⟨qa,qn,qk,hqv,hqb⟩ ?_;have e5'':Ext h4 (outC h4 (inC X5)):=e5';refine goU ?_;generalize outC h4 (inC X5)=h5 at *;have o45:=o4.ext e5'';have E5:=E4.ext e5'';have e05:=e4.trans e5'';have hlen:(l.length:Int)=((zJ F f).length:Int)↔∀ c,0≤c→c<((zJ F f).length:Int)→Way (nxL (zJ F f)) 0 c:=by rw[←hra,hl];omega
 clear hra orX orl sbX5 pcX5 sfX5 o4X5 sbX sbX0 pcX sfX o4X;by_cases hr:(l.length:Int)=((zJ F f).length:Int);case neg=>
  refine gr ?_;exact⟨⟨false,rfl,by simp only[Bool.false_eq_true,false_iff];exact fun q=>hr (hlen.2 q.1)⟩,e05⟩
 have hway:=hlen.1 hr;clear hlen;replace hway:=Hid.mk hway;refine go ?_;refine WX.loopA [23,24,25,26,27,28,29,30,31,6,34,35,36,37,38,39,40,41,42,43,44,45,46,49,50,51,52,53,54,4,47,48,6,55,56,57,58,59,4,32,33,5] (by kernel_rfl) (fun i=>(zJ F f).length - i) (fun i t h'=>Ext h5 h'∧zB t 5=I i∧i≤(zJ F f).length∧Hid (∀ b:Int,0≤b→b<(i:Int)→zCs T F f b)) 0 ?_ ?_
 ·exact⟨Ext.refl _,sl_,Nat.zero_le _,⟨fun b b0 b1=>by omega⟩⟩
 rintro i t h6 hsame ⟨e6,s5,hi,hI⟩;have o46:=o45.ext e6;have E6:=E5.ext e6;have sf6:=E6.sf;have e46:=e5''.trans e6;have pc6:=(pc _ e46).1;have sb6:=SlB.ext sb e46;refine go ?_;refine WX.br (fun hb=> ?_) (fun hb=> ?_)<;>simp only[DB]at hb;rotate_left 1
 ·have hii:i=(zJ F f).length:=by omega
  refine gr ?_;exact⟨⟨true,rfl,by simp only[true_iff];exact⟨hway.out,fun b b0 b1=>hI.out b b0 (by omega)⟩⟩,e05.trans e6⟩
 have hi':i<(zJ F f).length:=by omega
 have hbad:∀ {h'},¬zCs T F f i→Ext h h'→(∃ bb,Value.bool false= .bool bb∧(bb=true↔FnR T F f))∧Ext h h':=fun hn e=>⟨⟨false,rfl,by simp only[Bool.false_eq_true,false_iff];exact fun q=>hn (q.2 i (by omega) (by omega))⟩,e⟩;replace hbad:=Hid.mk @hbad;have hBR:zCs T F f i↔_:=zS7;rw[Int.toNat_natCast]at hBR;replace hBR:=Hid.mk hBR;obtain⟨csb,⟨vi,rfl,si,hli⟩,pcb,hsb⟩:=zo (i:=i) sb (by omega);refine go ?_;refine WX.loopA [34,35,36,37,38,39,40,41,42,43,44,45,46,49,50,51,52,53,54,4,47,48,6] (by kernel_rfl) (fun j=>((zJ F f).getD i default).ins.length - j) (fun j t h'=>Ext h6 h'∧zB t 6=I j∧j≤((zJ F f).getD i default).ins.length∧Hid (∀ k,k<j→zAW T F (ksF T F f) (psF T F f) (nxL (zJ F f)) (zJ F f) (zP (zJ F f) i (zJ F f).length) i k (zDd ((zJ F f).getD i default) k) (((zJ F f).getD i default).ins.getD k default))) 0 ?_ ?_
 ·exact⟨Ext.refl _,sl_,Nat.zero_le _,⟨fun k hk=>absurd hk (Nat.not_lt_zero _)⟩⟩
 rintro j t h7 hsame2 ⟨e7,s6,hj,hJ⟩;have o47:=o46.ext e7;have E7:=E6.ext e7;have sf7:=E7.sf;have e47:=e46.trans e7;have e07:=(e05.trans e6).trans e7;have pc7:=(pc _ e47).1;have sb7:=SlB.ext sb e47;have si7:=SlN.ext si e47;have pcb7:=(pcb _ e47).1;refine go ?_;refine WX.br (fun hb=> ?_) (fun hb=> ?_)<;>simp only[DB]at hb
 ·have hj':j<((zJ F f).getD i default).ins.length:=by omega
  refine go ?_;refine WO.con (zIF h7 f i j E7 hp Z hway.out ⟨by omega,by omega⟩ (by rw[Int.toNat_natCast];exact hj')) ?_;rintro _ h8 ⟨⟨bb,rfl,hbb⟩,e8⟩;rw[Int.toNat_natCast]at hbb;cases bb with
  |false=>
   refine gr ?_;exact hbad.out (fun q=>absurd (hbb.2 ((hBR.out.1 q).1 j hj')) Bool.noConfusion) (e07.trans e8)
  |true=>
   have hbt:=Hid.mk (hbb.1 rfl);clear hbb;refine go ?_;refine zA (j+1) (by omega) ⟨e7.trans e8,sln,by omega,⟨fun k hk=> ?_⟩⟩;by_cases e:k=j
   ·subst e;exact hbt.out
   ·exact hJ.out k (by omega)
 ·have hjj:j=((zJ F f).getD i default).ins.length:=by omega
  refine go ?_;refine WO.con (zEJ h7 f i E7 hp Z hway.out ⟨by omega,by omega⟩) ?_;rintro _ h8 ⟨⟨bb,rfl,hbb⟩,e8⟩;cases bb with
  |false=>
   refine gr ?_;exact hbad.out (fun q=>absurd (hbb.2 (hBR.out.1 q).2) Bool.noConfusion) (e07.trans e8)
  |true=>
   have hbt:=Hid.mk (hbb.1 rfl);clear hbb;refine go ?_;refine zA (i+1) (by omega) ⟨e6.trans (e7.trans e8),sln,by omega,⟨fun b b0 b1=> ?_⟩⟩;by_cases e:b=i
   ·subst e;exact hBR.out.2 ⟨fun k hk=>hJ.out k (by omega),hbt.out⟩
   ·exact hI.out b b0 (by omega)
def zMQ:ACode:=(oV (oV (oR [oM 11 4,oF 1 12 1,oL 13 12,oQ 14 13,oB .lss 15 11 14]) (oT 15 0)) (oV (o5 1 (oV (oR [oA 2 18 1,oM 19 4,o2 20 34 18 19,oW 21 20]) (oJ 21 (oV (oR [oN 2 120]) .ret) .skip))) (oR [oM 16 4,oC .add 17 16 1,oM 4 17])))
def zQ9:ACode:=(oV (oR [oX 1 0,oN 2 0]) (oV (oR [oA 2 6 1,o1 7 33 6,oM 3 7]) (oV (oV (oR [oM 8 3,oC .neq 9 8 0]) (oJ 9 (oV (oR [oM 10 3,oM 2 10]) .ret) .skip)) (oV (oV (oR [oN 4 0]) (o5 0 (.loop zMQ))) (oV (o6 [oF 0 22 1,oL 23 22,oF 1 24 1,oL 25 24,(⟨some 26,none,(.idx 2 (.tmp 25) (.const (.int .i64 0)))⟩,[]),oF 0 27 26,oL 28 27,oI 4 29 23 28,oA 4 30 29,(⟨some 5,none,(.alloc [(.int .u8 0),(.int .i64 0),(.int .i64 0),(.slice none 0 0)])⟩,[]),oS 4 5 30]) (oV (oV (oR [oF 3 31 5,oL 32 31,oQ 33 32,oC .gtr 34 33 0,oM 35 34,oH 35 (oA 2 36 1),oH 35 (oF 1 37 5),oH 35 (oL 38 37),⟨some 39,some (35,false),(.call (.func 35) [(.tmp 36),(.tmp 38),(.const (.int .u8 1))])⟩,oH 35 (oW 40 39),oO 41 35 40]) (oJ 41 (oV (oR [oN 2 120]) .ret) .skip)) (oV (oR [oN 2 0]) .ret)))))))
theorem zCV (h:AHeap) (E:En h vt vf T F):WC Tryz.prog tb 13 [.agg #[vt,vf]] h fun q h'=>q=I (YD T F)∧Ext h h':=by
 unfold YD;have hF:=E.sm.funcs;refine en 42 [(2,none)] zQ9 ?_;refine WO.bx ?_;intro p4 h4 e4 o4;replace o4:OwnC h h4 p4 [vt,vf]:=o4;have E4:=E.ext e4;refine go ?_;refine WO.con (zDh h4 vt vf T F E4) ?_;rintro _ h5 ⟨rfl,e5⟩;have o5:=o4.ext e5;have E5:=E4.ext e5;have e05:=e4.trans e5;by_cases hp:yX T F=0;case neg=>
  rw[if_pos hp];refine gr ?_;exact⟨rfl,e05⟩
 rw[if_neg (fun e=>e hp),hp];obtain⟨hc,hF1,hF8,hfn⟩:=Zj hp;clear hfn;have Z:=zKe hp (f:=0) ⟨Int.le_refl 0,by omega⟩;have hsg:=Z.sig;have hel:=Z.el;refine go ?_;refine WX.loopA [11,12,13,14,15,18,19,20,21,2,16,17,4] (by kernel_rfl) (fun i=>F.length - i) (fun i t h'=>Ext h5 h'∧zB t 4=I i∧i≤F.length∧Hid (∀ f:Int,0≤f→f<(i:Int)→FnR T F f)) 0 ?_ ?_
 ·exact⟨Ext.refl _,sl_,Nat.zero_le _,⟨fun f f0 f1=>by omega⟩⟩
 rintro i t h6 hsame ⟨e6,s4,hi,hI⟩;have o6:=o5.ext e6;have E6:=E5.ext e6;have e06:=e05.trans e6;have sf6:=E6.sf;refine go ?_;refine WX.br (fun hb=> ?_) (fun hb=> ?_)<;>simp only[DB]at hb
 ·have hi':i<F.length:=by omega
  refine go ?_;refine WO.con (zER h6 i E6 hp ⟨by omega,by omega⟩) ?_;rintro _ h7 ⟨⟨bb,rfl,hbb⟩,e7⟩;cases bb with
  |false=>
   refine gr ?_;refine⟨?_,e06.trans e7⟩;rw[if_neg (fun w=>absurd (hbb.2 (zNu.1 (w i (by omega) (by omega))).1) Bool.noConfusion)];rfl
  |true=>
   have hbt:=Hid.mk (hbb.1 rfl);clear hbb;refine go ?_;refine zA (i+1) (by omega) ⟨e6.trans e7,sln,by omega,⟨fun f f0 f1=> ?_⟩⟩;by_cases e:f=i
   ·subst e;exact hbt.out
   ·exact hI.out f f0 (by omega)
 ·have hii:i=F.length:=by omega
  have hw:WfP T F↔((yB T F 0).parts=[]∧isT T 1 (yB T F 0).elem=true):=⟨fun w=>(w 0 (Int.le_refl 0) (by omega)).2.1 rfl,fun q f f0 f1=>zNu.2 ⟨hI.out f f0 (by omega),fun e=>by subst e;exact q⟩⟩;replace hw:=Hid.mk hw;refine go ?_;refine WX.regionU2 1 rfl rfl ?_;have ea:=zI 1 h6;have oX:=OwnC.ia (o6.ext ea);obtain⟨cs,⟨vb,rfl,sb,hlb⟩,pc,hs⟩:=zo (i:=0) sf6 (by omega);have pc1:=(pc _ ea).2;obtain⟨cst,⟨vat,rfl,sat,hlat⟩,pct,hst⟩:=zo (i:=(F.getD 0 default).sig.toNat) E6.st (by have:(F.getD (0:Int).toNat default).sig<(T.length:Int):=hsg.2;have:(F.getD 0 default).sig<(T.length:Int):=this;omega);have pct1:=(pct _ ea).2;have stX0:=SlT.ext E6.st ea;have stX:SlT (inC (zC 1 h6)) vt T:=stX0;have sfX0:=SlF.ext E6.sf ea;have sfX:SlF (inC (zC 1 h6)) vf F:=sfX0;obtain⟨va1,va2,va3,rfl⟩:=SlC.shape sat;have hsg':0≤(F.getD 0 default).sig∧(F.getD 0 default).sig<(T.length:Int):=hsg;refine goU ?_;refine WU2.alE (X:=inC (zC 1 h6)) (cs:=[.int .u8 (yB T F 0).kind,I (yB T F 0).elem,I (yB T F 0).many,.slice va1 va2 va3]) (Ext.refl _) E6.hm ?_;intro h7 p8 e7 o8;have o7:=o6.ext e7;have E7:=E6.ext e7;have e07:=e06.trans e7;have sat7:SlI h7 (.slice va1 va2 va3) (yB T F 0).parts:=SlI.ext sat e7;clear stX sfX stX0 sfX0 oX pc1 pct1;refine go ?_;by_cases hpl:((yB T F 0).parts.length:Int)>0
  ·refine gr ?_;refine⟨?_,e07⟩;rw[if_neg (fun w=>by have:=(hw.out.1 w).1;rw[this]at hpl;simp at hpl)];rfl
  ·have hpn:(yB T F 0).parts=[]:=List.eq_nil_of_length_eq_zero (by omega);refine go ?_;refine WO.con (yl h7 (yB T F 0).elem 1 E7 (.inr ⟨hel.1,hel.2.1⟩)) ?_;rintro _ h8 ⟨rfl,e8⟩;cases c1:isT T 1 (yB T F 0).elem with
   |false=>
    refine gr ?_;refine⟨?_,e07.trans e8⟩;rw[if_neg (fun w=>by have:=(hw.out.1 w).2;rw[this]at c1;cases c1)];rfl
   |true=>
    refine gr ?_;refine⟨?_,e07.trans e8⟩;rw[if_pos (hw.out.2 ⟨hpn,c1⟩)];rfl
def zRO:ACode:=(oV (oR [oX 3 0,oN 6 0,oN 7 0]) (oV (oR [oA 2 9 3,o1 10 13 9,oM 8 10]) (oV (oV (oR [oM 11 8,oC .eql 12 11 0]) (oJ 12 (oR [oA 2 14 3,oM 15 1,oM 16 2,o3 17 28 14 15 16,oM 13 17,oE 18 13 0,oE 19 13 1,oE 20 13 2,oM 8 20]) .skip)) (oV (oV (oR [oM 21 8,oC .neq 22 21 0]) (oJ 22 (oV (oR [oM 23 8,oN 6 0,oM 7 23]) .ret) .skip)) (oV (oV (oR [oA 2 24 3,oM 25 1,oM 26 2,o3 27 29 24 25 26,oC .lss 28 27 0]) (oJ 28 (oV (oR [oN 6 0,oN 7 6]) .ret) .skip)) (oV (oR [oA 2 29 3,oM 30 1,oM 31 2,o3 32 29 29 30 31,oM 6 32,oN 7 0]) .ret))))))
theorem zIB (h:AHeap) (f r:Int) (E:En h vt vf T F):WC Tryz.prog tb 11 [.agg #[vt,vf],I f,I r] h fun q h'=>q= .tuple #[I (zD3 T F f r).1,I (zD3 T F f r).2]∧Ext h h':=by
 unfold zD3;refine en 33 [(6,none),(7,none)] zRO ?_;refine WO.bx ?_;intro p4 h4 e4 o4;replace o4:OwnC h h4 p4 [vt,vf]:=o4;have E4:=E.ext e4;refine go ?_;refine WO.con (zCV h4 E4) ?_;rintro _ h5 ⟨rfl,e5⟩;have o5:=o4.ext e5;have E5:=E4.ext e5;have e05:=e4.trans e5;by_cases hs:YD T F=0;case neg=>
  have hs':YD T F≠0:=hs;rw[if_pos hs];refine gr ?_;exact⟨rfl,e05⟩
 obtain⟨hp,hw⟩:=zDs hs;rw[if_neg (fun e=>e hs),hs];refine go ?_;refine WO.con (zJQ h5 vt vf T F f r E5) ?_;rintro _ h6 ⟨rfl,e6⟩;have o6:=o5.ext e6;have E6:=E5.ext e6;have e06:=e05.trans e6;have hpl:=zCJ (f:=f) (r:=r) hp;by_cases hq:(zj T F f r).2.2=0;case neg=>
  have hq':(zj T F f r).2.2≠0:=hq;rw[if_pos hq];refine gr ?_;exact⟨rfl,e06⟩
 rw[if_neg (fun e=>e hq)];have hin:¬(f<0∨(F.length:Int)≤f∨r<0∨zAc ((yB T F f).parts.length:Int) (zJ F f)≤r):=fun hb=>by
  rw[hpl,if_pos hb]at hq;cases hq
 have hf:0≤f∧f<(F.length:Int):=by omega
 have Z:=zKe hp hf;have hreg:=Z.reg;generalize zj T F f r=pl at *;have hkin:=Z.ks _ (zS (l:=ksF T F f) (i:=r.toNat) (by omega));rw[hq];refine go ?_;refine WO.con (zCF h6 f r E6 Z (by omega) (by omega)) ?_;rintro _ h7 ⟨rfl,e7⟩;have o7:=o6.ext e7;have E7:=E6.ext e7;have e07:=e06.trans e7;obtain⟨k,hk⟩:∃ k,(ksF T F f).getD r.toNat 0=k:=⟨_,rfl⟩;rw[hk]at hkin ⊢;by_cases hk1:k= -1
 ·subst hk1;rw[if_pos rfl];refine gr ?_;exact⟨rfl,e07⟩
 ·have hk0:=(hkin.resolve_left hk1).1;rw[if_neg hk1];refine go ?_;have ht:=zCF h7 f r E7 Z (by omega) (by omega);rw[hk]at ht;refine WO.con ht ?_;rintro _ h8 ⟨rfl,e8⟩;refine gr ?_;exact⟨rfl,e07.trans e8⟩
end
set_option maxRecDepth 100000
def zSz:ACode:=(oV (oR [oX 3 0,oZ 6]) (oV (oV (oR [oA 2 12 3,⟨some 13,none,(.call (.func 8) [(.tmp 12),(.const (.int .i64 150))])⟩]) (oJ 13 (oV (oR [oK 6 (.bool true)]) .ret) .skip)) (oV (oR [oA 2 14 3,o1 15 9 14,⟨some 7,none,(.alloc [(.slice none 0 0),(.slice none 0 0)])⟩,oS 2 7 15]) (oV (oR [oA 2 17 7,oM 18 1,oM 19 2,o3 20 10 17 18 19,oM 16 20,oE 21 16 0,oE 22 16 1,oM 8 21,oM 9 22]) (oV (oR [oA 2 24 3,oM 25 1,oM 26 2,o3 27 11 24 25 26,oM 23 27,oE 28 23 0,oE 29 23 1,oM 10 28,oM 11 29]) (oV (o6 [oA 2 30 7,o1 31 12 30,(oA 2 32 3,[1]),o1 33 13 32,oB .eql 34 31 33,oM 35 34,oG 35 (oM 36 8),oG 35 (oM 37 10),oG 35 (oB .eql 38 36 37),oP 39 35 38,oM 40 39,oG 40 (oM 41 9),oG 40 (oM 42 11),oG 40 (oB .eql 43 41 42),oP 44 40 43,oM 45 44,oG 45 (oA 2 46 7),oG 45 (oA 2 47 3),oG 45 (o2 48 14 46 47),oP 49 45 48,oM 6 49]) .ret))))))
theorem zET (h:AHeap) (vt vf:Value) (T:List LType) (F:List LFn) (f r:Int) (tt:Tbl h) (hm:h.mark≤h.n) (st:SlT h vt T) (sf:SlF h vf F) (hT:(T.length:Int)≤1152921504606846976) (hF:(F.length:Int)≤1152921504606846976):
  WC Tryz.prog tb 3 [.agg #[vt,vf],I f,I r] h fun r h'=>r= .bool true:=by
 refine en 50 [(6,none)] zSz ?_;refine WO.bx ?_;intro p h1 e1 o1;refine go ?_;refine WO.con (zKL h1 vt vf T F 150 (by omega) (st.ext e1) (SlF.ext sf e1) (by omega) (by omega)) ?_;rintro rr h2 ⟨hr,e2⟩;have o1:=o1.ext e2;rcases hr with rfl|⟨rfl,sm,si⟩
 ·refine gr ?_;rfl
 have E:En h2 vt vf T F:=⟨(tt.ext e1).ext e2,zp e2 (zp e1 hm),sm,si,(st.ext e1).ext e2,SlF.ext (SlF.ext sf e1) e2⟩;clear st sf tt hm e1 e2;refine go ?_;refine WO.con (zMH h2 vt vf T F sm si E.hm E.st E.sf) ?_;rintro _ h3 ⟨⟨wt,wf,rfl,swt,swf⟩,e3⟩;have o1:=o1.ext e3;have E:=E.ext e3;obtain⟨wa,wn,wk,rfl⟩:=zF swt;obtain⟨xa,xn,xk,rfl⟩:=zF swf;refine go ?_;refine WO.al ?_;intro q h4 e4 o4;refine WO.stC0 o4 e4 ?_;intro h5 e5 o5 _;have o1:=o1.ext e5;have E:=E.ext e5;have W:En h5 _ _ T F:=⟨E.tt,E.hm,sm,si,swt.ext e5,SlF.ext swf e5⟩;clear e3 e4 e5 o4 swt swf;refine go ?_;refine WO.con (zLI h5 _ _ T F f r W.env) ?_;rintro _ h6 ⟨rfl,e6⟩;have o1:=o1.ext e6;have o5:=o5.ext e6;have E:=E.ext e6;have W:=W.ext e6;refine go ?_;refine WO.con (zIB h6 f r E) ?_;rintro _ h7 ⟨rfl,e7⟩;have o1:=o1.ext e7;have o5:=o5.ext e7;have E:=E.ext e7;have W:=W.ext e7;generalize zD3 T F f r=kk at *;refine go ?_;refine WX.regionU2 0 rfl rfl ?_;have o5X:=OwnC.ia (o5.ext (zI 0 h7));have o1X:=OwnC.ia (o1.ext (zI 0 h7));refine goU ?_;refine WO.con (zEm _ _ _ T F W.inC.env) ?_;rintro _ X8 ⟨rfl,e8⟩;refine nE e8 ?_;have o1X8:=OwnC.ia (o1X.ext e8);have o5X8:=OwnC.ia (o5X.ext e8);refine goU ?_;refine zMN o1 (Nat.le_refl _) ?_;refine goU ?_;refine WO.con (zCV _ (E.inC.go e8)) ?_;rintro _ X9 ⟨rfl,e9⟩;refine nE e9 ?_;have o1X9:=OwnC.ia (o1X8.ext e9);have o5X9:=OwnC.ia (o5X8.ext e9);have E9:=(E.inC.go e8).go e9;have W9:=(W.inC.go e8).go e9;refine goU ?_;refine WO.con (zMF _ _ _ _ _ T F sm si E9.hm W9.st W9.sf E9.st E9.sf) ?_;rintro _ X10 ⟨rfl,e10⟩;refine nE e10 ?_;refine gUr ?_;rfl
set_option maxRecDepth 1000000 in
theorem tb_ok:tb.Ok Tryz.prog where
 code:=fun _ _ h=>h
 stub:=fun f s hs=>by cases hs
 grow:=fun f s hs args h v h' hk=>by cases hs
end
end Go.Proofs.YteekipjpghikkaaGreatDoor
