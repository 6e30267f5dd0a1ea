/- What functions of the program come to in the abstract machine, and plain laws about it; no statement of the seat is proved in this text. -/
import Derived.Test.YtemggiegiejopaaGreatDoorJh
import Derived.Test.YtemggiegiejopaaGreatDoorJg
import Derived.Test.YtemggiegiejopaaGreatDoorJa
import Derived.Test.YtemggiegiejopaaGreatDoorAmD
set_option linter.unusedVariables false
set_option linter.unusedSimpArgs false
set_option maxHeartbeats 4000000
set_option maxRecDepth 100000
namespace Go.Proofs.YtemggiegiejopaaGreatDoor
noncomputable section
open Go.Am
theorem extI {h h':AHeap} (e:Ext (inC (zB 0 h)) h'):Ext h (outC h (inC h')):=⟨e.n,e.get,fun w=>e.wf w,rfl,fun _=>rfl⟩
theorem extI2 {h h1 h2:AHeap} (e:Ext (inC (zB 0 h)) h1) (e2:Ext (inC h1) h2):Ext h (outC h (inC h2)):=⟨Nat.le_trans e.n e2.n,fun g hg=>(e2.get g (Nat.lt_of_lt_of_le hg e.n)).trans (e.get g hg),fun w=>e2.wf (e.wf w),rfl,fun _=>rfl⟩
theorem extI3 {h h1 h2 h3:AHeap} (e:Ext (inC (zB 0 h)) h1) (e2:Ext (inC h1) h2) (e3:Ext (inC h2) h3):Ext h (outC h (inC h3)):=⟨Nat.le_trans e.n (Nat.le_trans e2.n e3.n),fun g hg=>(e3.get g (Nat.lt_of_lt_of_le hg (Nat.le_trans e.n e2.n))).trans ((e2.get g (Nat.lt_of_lt_of_le hg e.n)).trans (e.get g hg)),fun w=>e3.wf (e2.wf (e.wf w)),rfl,fun _=>rfl⟩
theorem EnvL.inC {h:AHeap} {vt vf:Value} {T:List LType} {F:List LFn} (E:EnvL h vt vf T F):EnvL (inC h) vt vf T F:=⟨E.tt,Nat.le_refl _,E.sm,E.st,E.sf⟩
theorem mineR {h h1 h2:AHeap} {v:Value} {s:List LWd} (m:MineW (inC h1) h2 v s) (hn:h.n≤h1.n):MineW h (outC h (inC h2)) v s:=let ⟨b,hb,o⟩:=m;⟨b,Nat.le_trans hn hb,OwnR.upd o (fun _ _ _=>rfl) (Nat.le_refl _)⟩
theorem zHx {T:List LType} {F:List LFn} {f par:Int} {L:List LBlk} (O:FnOk T F f L par) {b:Int} (hb:0≤b∧b<(L.length:Int)) {i:Nat} (hi:i<(L.getD b.toNat default).ins.length):0≤y9 par L b+i∧y9 par L b+i<zd par L:=by
 have h1:zo (L.take (b.toNat+1))=zo (L.take b.toNat)+((L.getD b.toNat default).ins.length:Int):=by
  have e:L.take (b.toNat+1)=L.take b.toNat++[L.getD b.toNat default]:=by
   rw[List.take_add_one,List.getD_eq_getElem?_getD,List.getElem?_eq_getElem (show b.toNat<L.length by omega)];rfl
  rw[e];unfold zo;rw[List.map_append,List.sum_append];simp
 have h2:=zC8 L (b.toNat+1);have h3:=yQ (L.take b.toNat);have:=O.par0;unfold y9 zd;omega
def body18_0:ACode:=(.seq (.seq (oR [oM 42 9,oM 43 2,oB .geq 44 42 43]) (oT 44 0)) (.seq (.block 1 (.seq (.regionC [oU (oM 48 0),oU (⟨some 49,none,(.nilCheck (.tmp 48))⟩),oU (oF 0 50 49),oU (oA 2 51 50),oU (oM 52 0),oU (⟨some 53,none,(.nilCheck (.tmp 52))⟩),oU (oF 2 54 53),oU (oL 55 54),oU (oM 56 1),oU (oM 57 9),oU (o4 58 31 51 55 56 57),oU (oM 47 58),oU (oE 59 47 0),oU (oE 60 47 1),oU (oM 10 59),oU (oM 11 60)]) (.regionC [oU (oM 61 8),oU (oM 62 10),oU (o2 63 32 61 62),oU (oF 0 64 7),(oL 65 64,[2]),oU (oM 66 9),oU (oI 7 67 65 66),(oA 7 68 67,[2]),oU (o1 69 33 68),oU (o2 70 29 63 69),oU (oM 8 70)]))) (oR [oM 45 9,oC .sub 46 45 1,oM 9 46])))
def body18:ACode:=(.seq (oR [oK 6 (.slice none 0 0)]) (.seq (.regionC [oU (oM 12 0),oU (⟨some 13,none,(.nilCheck (.tmp 12))⟩),oU (oF 0 14 13),oU (oF 1 15 14),oU (oL 16 15),oU (oM 17 0),oU (⟨some 18,none,(.nilCheck (.tmp 17))⟩),oU (oF 2 19 18),oU (oL 20 19),oU (oI 2 21 16 20),oU (oF 1 22 21),oU (oL 23 22),oU (oM 24 1),oU (oI 5 25 23 24),oU (oA 5 26 25),oU (⟨some 7,none,(.alloc [(.slice none 0 0),(.int .u8 0),(.int .i64 0),(.int .i64 0),(.int .i64 0)])⟩),oU (oS 5 7 26)]) (.seq (.regionC [oU (oM 27 0),oU (⟨some 28,none,(.nilCheck (.tmp 27))⟩),oU (oF 4 29 28),oU (oL 30 29),oU (oM 31 1),oU (oI 1 32 30 31),oU (oL 33 32),oU (oF 1 34 7),oU (oA 4 35 34),(o1 36 30 35,[3,6]),oU (o2 37 29 33 36),oU (oM 8 37)]) (.seq (.seq (oR [oF 0 38 7,oL 39 38,oQ 40 39,oC .sub 41 40 1,oM 9 41]) (.block 0 (.loop body18_0))) (.seq (oR [oM 71 8,oM 6 71]) .ret)))))
theorem tab18:tb.code 18=some ⟨72,[(6,none)],body18⟩:=by kernel_rfl
theorem zEX (hB h:AHeap) (X gp gb ge gm:Nat) (vt vf:Value) (T:List LType) (F:List LFn) (f par:Int) (L:List LBlk) (bg ed:Zq) (es:List (Int×Int)) (b:Int) (k:Nat) (S:FS hB h X gp gb ge gm vt vf f bg ed es) (E:EnvL h vt vf T F) (O:FnOk T F f L par)
  (U:∀ x∈L,BlkU x (zd par L) L.length) (hb:0≤b∧b<(L.length:Int)) (hk:k≤(L.getD b.toNat default).ins.length) (hl:ed.length=L.length) (oe:OkW (ed.getD b.toNat [])∧∀ r,inS ed b r→r<zd par L):
  WC Tryz.prog tb 18 [.pointer (some ⟨gp,0,none⟩),I b,I k] h fun r h'=>(∃ t,MineW h h' r t∧OkW t∧∀ n,InW t n↔yG par L b k (inS ed b) n)∧Ext h h':=by
 have hF:=E.sm.funcs;have hN:0≤zd par L∧zd par L≤228:=by
  have:=O.par0;have:=O.parl;have:=O.many;have:=yQ L;unfold zd;omega
 have hf0:=O.f0;have hf1:=O.f1;have hisL:=O.isL;have hlen:=O.len;have hbi:∀ {i:Nat},i<(L.getD b.toNat default).ins.length→0≤y9 par L b+i∧y9 par L b+i<zd par L:=fun hi=>zHx O hb hi;have hUb:=U _ (zI (l:=L) (i:=b.toNat) (by omega));have hib:((L.getD b.toNat default).ins.length:Int)≤128:=O.ins _ (zI (l:=L) (i:=b.toNat) (by omega));have hls:∀ (j:Nat) r,j≤(L.getD b.toNat default).ins.length→yG par L b j (inS ed b) r→0≤r∧r<zd par L:=fun j r hj q=>by
  unfold yG at q;refine zBg (fun x hx=>(hUb.ins x (List.mem_of_mem_drop hx)).uses) (fun r q=> ?_) q;rcases q with q|q
  ·exact hUb.ends r q
  ·exact⟨(InW.range oe.1 q).1,oe.2 r q⟩
 have hstep:∀ (j:Nat) r,j<(L.getD b.toNat default).ins.length→(yG par L b j (inS ed b) r↔r∈yw ((L.getD b.toNat default).ins.getD j default)∨(r≠y9 par L b+j∧yG par L b (j+1) (inS ed b) r)):=fun j r hj=>zDn hj;have hfin:∀ r,yG par L b (L.getD b.toNat default).ins.length (inS ed b) r↔r∈ZG (L.getD b.toNat default).fin∨inS ed b r:=fun r=>zEu (Nat.le_refl _);obtain⟨ta,tn,tk,rfl⟩:=zD E.st;obtain⟨ga,gn,gk,rfl⟩:=zD E.sf;have o1:=S.own;refine WC.of (zE 18) tab18 ?_;simp only[zK,Nat.zero_add,Nat.reduceAdd];refine go ?_;refine WX.regionU2 1 rfl rfl ?_;have eA:Ext h (zB 1 h):=yz 1 h;have o1X:=o1.ext eA;have o1X:OwnC hB (inC (zB 1 h)) (.pointer (some ⟨gp,0,none⟩)) [.slice ta tn tk,.slice ga gn gk,I f,.slice (some ⟨gb,0,none⟩) bg.length 1,.slice (some ⟨ge,0,none⟩) ed.length 1,.map (some gm)]:=o1X;have sfX:=SlF.ext E.sf eA;have sfX:SlF (inC (zB 1 h)) (.slice ga gn gk) F:=sfX;obtain⟨csF,⟨vb,rfl,sb,hlb⟩,pcF,hsF⟩:=zh E.sf (i:=f.toNat) (by omega);obtain⟨ba,bn,bk,rfl⟩:=zD sb;rw[←hisL]at sb;have sbX:=SlB.ext sb eA;have sbX:SlB (inC (zB 1 h)) (.slice ba bn bk) L:=sbX;obtain⟨csB,⟨vi,rfl,si,hli⟩,pcB,hsB⟩:=zh sb (i:=b.toNat) (by omega);obtain⟨ia,iN,ik,rfl⟩:=zD si;have pcFX:=(pcF _ eA).2;have pcBX:=(pcB _ eA).2;refine goU ?_;refine WU2.alE (X:=inC (zB 1 h)) (Ext.refl _) E.hm ?_;intro h1 p7 e1 o7;clear o1X sfX sbX pcFX pcBX;have S1:=S.ext e1;have E1:=E.ext e1;have o11:=S1.own;have si1:=SlN.ext si e1;generalize hBq:L.getD b.toNat default=B at *;have hstep:=Hid.mk hstep;have hfin:=Hid.mk hfin;have hls:=Hid.mk hls;have hbi:=Hid.mk (@hbi);refine go ?_;refine WX.regionU2 0 rfl rfl ?_;have o1X:OwnC hB (inC (zB 0 h1)) (.pointer (some ⟨gp,0,none⟩)) [.slice ta tn tk,.slice ga gn gk,I f,.slice (some ⟨gb,0,none⟩) bg.length 1,.slice (some ⟨ge,0,none⟩) ed.length 1,.map (some gm)]:=o11;have o7X:OwnC h (inC (zB 0 h1)) p7 [.slice ia iN ik,.int .u8 B.fin.kind,I B.fin.a,I B.fin.to,I B.fin.els]:=o7;have seX:SlR 1 (RSt X) (inC (zB 0 h1)) (.slice (some ⟨ge,0,none⟩) ed.length 1) ed:=S1.ends;obtain⟨csE,⟨ve,rfl,hfar⟩,pcE,hsE⟩:=zh S1.ends (i:=b.toNat) (by omega);have pcEX:=(pcE _ (Ext.refl _)).2;have pcEX:Piece (inC (zB 0 h1)) (.slice (some ⟨ge,0,none⟩) ed.length 1) (b.toNat * 1) [ve]:=pcEX;obtain⟨ea,en,ek,rfl⟩:=ye hfar.1;refine goU ?_;refine WO.con (sends_ok (inC (zB 0 h1)) B.fin) ?_;rintro vl h2 ⟨ol,e2⟩;refine WO.nil ?_;refine yP e2 zM ?_;have hm2:(inC h2).mark≤(inC h2).n:=Nat.le_refl _;have hfr2:∀ r,inS ed b r→r<((zd par L).toNat:Int):=fun r q=>by have:=oe.2 r q;omega
 have hel:=Yf oe.1 hfr2;have hul:(ZG B.fin).length≤1:=by unfold ZG;split<;>simp
 have ke:SlW (inC h2) (.slice ea en ek) (ed.getD b.toNat []):=by have:=SlW.ext hfar.1 (extI e2);exact this
 have sle:SlI (inC h2) vl (ZG B.fin):=by have:=ol.sl;exact this
 refine goU ?_;refine WO.con (zFQ (inC h2) _ vl (ed.getD b.toNat []) (ZG B.fin) ke sle oe.1 (fun n hn=>by have:=hUb.ends n hn;omega) (by omega) (by omega) hm2) ?_;rintro v8 h3 ⟨⟨t8,m8,o8,len8,mem8⟩,e3⟩;refine WO.nil ?_;refine yP e3 zM ?_;have e13:Ext h1 (outC h1 (inC h3)):=extI2 e2 e3;have m8:MineW h1 (outC h1 (inC h3)) v8 t8:=mineR m8 (by have:=e2.n;exact this);have mem8:∀ r,InW t8 r↔yG par L b B.ins.length (inS ed b) r:=fun r=>by
  rw[mem8,hfin.out];exact Or.comm
 refine goU ?_;generalize outC h1 (inC h3)=h4 at e13 m8 ⊢;have e14:=e13;have e4:=e1.trans e13;have m8:=m8.since e1;clear e3 e2 ol sle ke pcE pcEX seX o1X o7X len8;have mem8:=Hid.mk mem8;have o8:=Hid.mk o8;have S4:=S.ext e4;have E4:=E.ext e4;have o74:=o7.ext (by exact(show Ext h1 h4 from e14));have si4:=SlN.ext si e4;obtain⟨w8n,w8k,w8l,rfl⟩:=ye m8.sl;refine go ?_;refine WX.loopA [42,43,44,48,49,50,51,52,53,54,55,56,57,58,47,59,60,10,11,61,62,63,64,65,66,67,68,69,70,8,45,46,9] (by kernel_rfl) (fun j=>j) (fun j t h5=>∃ v s,zC t 9=I ((j:Int) - 1)∧k≤j∧j≤B.ins.length∧Ext h4 h5∧zC t 8=v∧MineW h h5 v s∧Hid (OkW s)∧Hid (∀ r,InW s r↔yG par L b j (inS ed b) r)) B.ins.length ?_ ?_
 ·exact⟨_,t8,sl_,hk,Nat.le_refl _,Ext.refl _,sl_,m8,o8,mem8⟩
 clear m8 mem8 o8;rintro j t h5 hsame ⟨v,s,s9,hkj,hjl,e5,s8,ms,os,hs⟩;have e05:=e4.trans e5;have S5:=S4.ext e5;have E5:=E4.ext e5;have o75:=o74.ext e5;have si5:=SlN.ext si4 e5;obtain⟨wn,wk,wl,rfl⟩:=ye ms.sl;have hsl:s.length≤228:=by
  have:=Yf (N:=(zd par L).toNat) os.out fun r q=>by
   have:=(hls.out j r hjl ((hs.out r).1 q)).2;omega
  omega
 refine go ?_;refine WX.br (fun hc=> ?_) (fun hc=> ?_)<;>simp only[DB]at hc
 ·obtain⟨i,rfl⟩:∃ i,j=i+1:=⟨j - 1,by omega⟩;have hi:i<B.ins.length:=by omega
  have hreg:=hbi.out hi;have hU:=hUb.ins _ (zI (l:=B.ins) hi);have hst:=fun r=>hstep.out i r hi;obtain⟨csx,hcsx,pcx,hsx⟩:=zh si5 hi;obtain⟨qa,qn,qk,hqv,hqb⟩:=Zd si5 hi;have hru:(yw (B.ins.getD i default)).length≤22:=by
   have:=hU.args;unfold yw yu;split
   ·simp
   ·simp only[List.length_append];split<;>split<;>split<;>simp only[List.length_cons,List.length_nil]<;>omega
  have hrr:∀ r∈yw (B.ins.getD i default),0≤r∧r<zd par L:=fun r hr=>hU.uses r (zC4 hr);have hx20:=hU.args;generalize B.ins.getD i default=x at *;have hst:=Hid.mk hst;have hrr:=Hid.mk hrr;clear hU;refine go ?_;refine WX.regionU2 0 rfl rfl ?_;have o5X:OwnC hB (inC (zB 0 h5)) (.pointer (some ⟨gp,0,none⟩)) [.slice ta tn tk,.slice ga gn gk,I f,.slice (some ⟨gb,0,none⟩) bg.length 1,.slice (some ⟨ge,0,none⟩) ed.length 1,.map (some gm)]:=S5.own;refine goU ?_;refine WO.con (sreg_ok (inC (zB 0 h5)) _ _ T F f L par E5.inC O b (((i+1:Nat):Int) - 1) hb (by rw[hBq];omega)) ?_;rintro _ h6 ⟨rfl,e6⟩;rw[show y9 par L b+(((i+1:Nat):Int) - 1)=y9 par L b+(i:Int) by omega];refine WO.nil ?_;refine yP e6 zM ?_;refine goU ?_;have e57:Ext h5 (outC h5 (inC h6)):=extI e6;generalize outC h5 (inC h6)=h7 at e57 ⊢;clear e6 o5X;have ms7:=ms.ext e57;have ks7:=ms7.sl;have si7:=SlN.ext si5 e57;have o77:=o75.ext e57;have tt7:=E5.tt.ext e57;have e07:=e05.trans e57;have hqb7:qa.block<h7.n:=Nat.lt_of_lt_of_le hqb e57.n;refine WX.regionU2 0 rfl rfl ?_;have ksX:SlW (inC (zB 0 h7)) (.slice wn wk wl) s:=ks7;refine goU ?_;refine WO.con (zHZ (inC (zB 0 h7)) _ s (y9 par L b+i) ksX os.out (by omega) (by omega) (Nat.le_refl _)) ?_;rintro v8 h8 ⟨⟨t8,m8,o8,len8,mem8⟩,e8⟩;refine WO.nil ?_;refine yP e8 zM ?_;have e78:Ext h7 (outC h7 (inC h8)):=extI e8;have o7Y:OwnC h (inC h8) p7 [.slice ia iN ik,.int .u8 B.fin.kind,I B.fin.a,I B.fin.to,I B.fin.els]:=by have:=o77.ext e78;exact this
  have siY:SlN (inC h8) (.slice ia iN ik) B.ins:=by have:=SlN.ext si7 e78;exact this
  have pcY:Piece (inC h8) (.slice ia iN ik) (i * 7) csx:=(pcx _ (e57.trans e78)).2;have hcsY:RIns (inC h8) csx x:=by have:=RIns.ext hcsx (e57.trans e78);exact this
  have ttY:Tbl (inC h8):=by have:=tt7.ext e78;exact this
  obtain⟨va,vf,rfl,sa,sf,ha1,ha2,ho1,ho2⟩:=id hcsY;have hii:(((i+1:Nat):Int) - 1).toNat=i:=by omega
  rw[←hii]at pcY;refine goU ?_;refine zBu o77 (Nat.le_refl _) ?_;refine goU ?_;refine zHK ⟨qa,qn,qk,hqv,hqb7⟩ ?_;refine goU ?_;refine WO.con (reads_ok (inC h8) x _ hcsY ttY hx20) ?_;rintro vr h9 ⟨or',e9⟩;refine WO.nil ?_;refine yP e9 zM ?_;have k8:SlW (inC h9) v8 t8:=by have:=SlW.ext (h:=inC h8) (h':=h9) m8.sl e9;exact this
  have slr:SlI (inC h9) vr (yw x):=by have:=or'.sl;exact this
  refine goU ?_;refine WO.con (zFQ (inC h9) _ _ t8 (yw x) k8 slr o8 (fun n hn=>by have:=hrr.out n hn;omega) (by omega) (by omega) (Nat.le_refl _)) ?_;rintro v10 h10 ⟨⟨t10,m10,o10,len10,mem10⟩,e10⟩;refine WO.nil ?_;refine yP e10 zM ?_;have e710:Ext h7 (outC h7 (inC h10)):=extI3 e8 e9 e10;have m10:MineW h (outC h7 (inC h10)) v10 t10:=mineR m10 (by have h1:=e07.n;have h2:h7.n≤h8.n:=e8.n;have h3:h8.n≤h9.n:=e9.n;omega);refine goU ?_;generalize outC h7 (inC h10)=h11 at e710 m10 ⊢;refine go ?_;refine zA i (by omega) ⟨v10,t10,?_,by omega,by omega,e5.trans (e57.trans e710),sl_,m10,⟨o10⟩,⟨fun r=> ?_⟩⟩
  ·refine(sl_:zC _ 9=I ((((i+1:Nat):Int) - 1) - 1)).trans ?_;rw[show (((i+1:Nat):Int) - 1) - 1=(i:Int) - 1 by omega]
  ·rw[mem10,mem8,hs.out,hst.out];constructor
   ·rintro(⟨a,b⟩|c)
    ·exact .inr ⟨b,a⟩
    ·exact .inl c
   ·rintro(c|⟨b,a⟩)
    ·exact .inr c
    ·exact .inl ⟨a,b⟩
 ·have hjk:j=k:=by omega
  subst hjk;refine go ?_;refine rt ?_;exact⟨⟨s,ms,os.out,hs.out⟩,e05⟩
theorem zEP {T:List LType} {F:List LFn} {f par:Int} {L:List LBlk} (O:FnOk T F f L par) {b:Int} (hb:0≤b∧b<(L.length:Int)):zT T F f b=(L,0):=by
 have h1:(ZV T F f).2=0:=by unfold ZV;rw[O.ask];rfl
 have hL:=O.isL;unfold zT;rw[if_neg (by omega),if_neg (by rw[←hL];omega),←hL]
theorem next_of {T:List LType} {F:List LFn} {f par:Int} {L:List LBlk} (O:FnOk T F f L par) {b:Int} (hb:0≤b∧b<(L.length:Int)):yT T F f b=(nxL L b,0):=by
 unfold yT;rw[zEP O hb];rfl
theorem preds_of {T:List LType} {F:List LFn} {f par:Int} {L:List LBlk} (O:FnOk T F f L par) {b:Int} (hb:0≤b∧b<(L.length:Int)):zAh T F f b=(ZH L b L.length,0):=by
 unfold zAh;rw[zEP O hb];rfl
theorem zB6 {L:List LBlk} {b c:Int}:c∈ZH L b L.length↔0≤c∧c<(L.length:Int)∧b∈nxL L c:=by
 unfold ZH nxL;rw[List.mem_map];constructor
 ·rintro⟨i,hi,rfl⟩;obtain⟨h1,h2⟩:=List.mem_filter.1 hi;rw[List.mem_range]at h1;exact⟨by omega,by omega,by simpa using h2⟩
 ·rintro⟨h0,h1,h2⟩;exact⟨c.toNat,List.mem_filter.2 ⟨List.mem_range.2 (by omega),by simpa using h2⟩,by omega⟩
theorem zDu (l:List Int) {i:Nat} (h:i<l.length):l.take (i+1)=l.take i++[l.getD i 0]:=by
 rw[List.take_add_one];simp[List.getD,List.getElem?_eq_getElem h]
theorem zIT {l:List Int} {i:Nat} (h:i<l.length):l.getD i 0∈l:=by
 rw[List.getD_eq_getElem?_getD,List.getElem?_eq_getElem h];exact List.getElem_mem h
theorem zFd {S:Zq} {P:List LWd→Prop} (h:∀ s∈S,P s) {i:Nat} (hi:i<S.length):P (S.getD i []):=by
 rw[List.getD_eq_getElem?_getD,List.getElem?_eq_getElem hi];exact h _ (List.getElem_mem hi)
theorem zIt {h h':AHeap} {v:Value} {l:List Int} {gm:Nat} (s:SlI h v l) (u:UpdM (.map (some gm)) h h') (hx:∀ a n c,v= .slice (some a) n c→a.block≠gm):SlI h' v l:=by
 refine⟨s.1,s.2.imp id ?_⟩;rintro⟨g,off,row,rfl,hr,hc,hg⟩;have:=hx _ _ _ rfl;refine⟨g,off,row,rfl,?_,hc,Nat.lt_of_lt_of_le hg u.1⟩;unfold yA at hr ⊢;rw[u.2 g hg (fun e=>by cases e;exact this rfl)];exact hr
def body28_0:ACode:=(.seq (oR [oB .lss 36 35 34]) (.seq (oT 36 0) (.seq (.block 1 (.seq (oR [oI 1 37 33 35,oL 38 37,oM 8 38]) (.seq (oR [oM 40 6,oM 41 0,⟨some 42,none,(.nilCheck (.tmp 41))⟩,oF 3 43 42,oL 44 43,oM 45 8,oI 1 46 44 45,oL 47 46,o2 48 45 40 47,oM 39 48,oE 49 39 0,oE 50 39 1,oM 6 49]) (.regionC [oU (oM 51 6),oU (oM 52 0),oU (⟨some 53,none,(.nilCheck (.tmp 52))⟩),oU (oF 0 54 53),oU (oF 1 55 54),oU (oL 56 55),oU (oM 57 0),oU (⟨some 58,none,(.nilCheck (.tmp 57))⟩),oU (oF 2 59 58),oU (oL 60 59),oU (oI 2 61 56 60),oU (oF 1 62 61),oU (oL 63 62),oU (oM 64 8),oU (oI 5 65 63 64),oU (oA 5 66 65),oU (oM 67 1),oU (o2 68 46 66 67),oU (o2 69 29 51 68),oU (oM 6 69)])))) (oR [oC .add 70 35 1,oM 35 70]))))
def body28_1:ACode:=(.seq (oR [oB .lss 113 112 111]) (.seq (oT 113 2) (.seq (.block 3 (.seq (oR [oI 1 114 110 112,oL 115 114,oM 12 115]) (oR [oM 116 0,⟨some 117,none,(.nilCheck (.tmp 116))⟩,oF 5 118 117,oL 119 118,oM 120 12,oM 121 1,⟨none,none,(.update (.tmp 119) (.tmp 120) (.tmp 121))⟩]))) (oR [oC .add 122 112 1,oM 112 122]))))
def body28:ACode:=(.seq (.regionC [oU (oM 14 0),oU (⟨some 15,none,(.nilCheck (.tmp 14))⟩),oU (oF 0 16 15),oU (oA 2 17 16),oU (oM 18 0),oU (⟨some 19,none,(.nilCheck (.tmp 18))⟩),oU (oF 2 20 19),oU (oL 21 20),oU (oM 22 1),oU (o3 23 25 17 21 22),oU (oM 13 23),oU (oE 24 13 0),oU (oE 25 13 1),oU (oM 4 24),oU (oM 5 25)]) (.seq (oR [oM 26 0,⟨some 27,none,(.nilCheck (.tmp 26))⟩,oF 4 28 27,oL 29 28,oM 30 1,oI 1 31 29 30,oL 32 31,oM 6 32]) (.seq (.seq (oR [oM 33 4,oQ 34 33,oN 35 0]) (.block 0 (.loop body28_0))) (.seq (oR [oM 71 0,⟨some 72,none,(.nilCheck (.tmp 71))⟩,oF 4 73 72,oL 74 73,oM 75 1,oM 76 6,oI 1 77 74 75,oS 1 77 76]) (.seq (oR [oM 78 0,oM 79 1,⟨some 80,none,(.call (.func 18) [(.tmp 78),(.tmp 79),(.const (.int .i64 0))])⟩,oM 6 80]) (.seq (.seq (oR [oM 81 6,oM 82 0,⟨some 83,none,(.nilCheck (.tmp 82))⟩,oF 3 84 83,oL 85 84,oM 86 1,oI 1 87 85 86,oL 88 87,o2 89 47 81 88]) (.cond (.tmp 89) .ret .skip)) (.seq (oR [oM 90 0,⟨some 91,none,(.nilCheck (.tmp 90))⟩,oF 3 92 91,oL 93 92,oM 94 1,oM 95 6,oI 1 96 93 94,oS 1 96 95]) (.seq (.regionC [oU (oM 98 0),oU (⟨some 99,none,(.nilCheck (.tmp 98))⟩),oU (oF 0 100 99),oU (oA 2 101 100),oU (oM 102 0),oU (⟨some 103,none,(.nilCheck (.tmp 102))⟩),oU (oF 2 104 103),oU (oL 105 104),oU (oM 106 1),oU (o3 107 48 101 105 106),oU (oM 97 107),oU (oE 108 97 0),oU (oE 109 97 1),oU (oM 9 108),oU (oM 10 109)]) (.seq (oR [oM 110 9,oQ 111 110,oN 112 0]) (.block 2 (.loop body28_1)))))))))))
theorem tab28:tb.code 28=some ⟨123,[],body28⟩:=by kernel_rfl
theorem look_ok (hB h:AHeap) (X gp gb ge gm:Nat) (vt vf:Value) (T:List LType) (F:List LFn) (f par:Int) (L:List LBlk) (bg ed:Zq) (es:List (Int×Int)) (b:Int) (S:FS hB h X gp gb ge gm vt vf f bg ed es) (E:EnvL hB vt vf T F) (O:FnOk T F f L par)
  (U:∀ x∈L,BlkU x (zd par L) L.length) (hb:0≤b∧b<(L.length:Int)) (lb:bg.length=L.length) (le:ed.length=L.length) (okb:∀ s∈bg,OkW s∧∀ r,InW s r→r<zd par L) (oke:∀ s∈ed,OkW s∧∀ r,InW s r→r<zd par L):
  WC Tryz.prog tb 28 [.pointer (some ⟨gp,0,none⟩),I b] h fun _ h'=>∃ s1 s es',FS hB h' X gp gb ge gm vt vf f (bg.set b.toNat s) (ed.set b.toNat s1) es'∧(OkW s1∧∀ r,InW s1 r→r<zd par L)∧(OkW s∧∀ r,InW s r→r<zd par L)∧
   (∀ r,InW s1 r↔inS ed b r∨ZQ L (inS bg) b r)∧(∀ r,InW s r↔yG par L b 0 (InW s1) r)∧((s=bg.getD b.toNat []∧es'=es)∨(s≠bg.getD b.toNat []∧(ZW es→ZW es')∧∀ c,c∈es'.map (·.1)↔c∈es.map (·.1)∨c∈ZH L b L.length)):=by
 have hF:=E.sm.funcs;have hN:0≤zd par L∧zd par L≤228:=by
  have:=O.par0;have:=O.parl;have:=O.many;have:=yQ L;unfold zd;omega
 have hf0:=O.f0;have hf1:=O.f1;have hisL:=O.isL;have hlen:=O.len;have hmB:=E.hm;have hnx:=next_of O hb;have hpr:=preds_of O hb;have hUb:=U _ (zI (l:=L) (i:=b.toNat) (by omega));have hrange:∀ k∈nxL L b,0≤k∧k<(L.length:Int):=hUb.next;have hnl:(nxL L b).length≤2:=by unfold nxL Zk;split<;>(try split)<;>(try split)<;>simp
 have hpl:=zDJ L b L.length;have hpm:∀ c,c∈ZH L b L.length→0≤c∧c<(L.length:Int):=fun c hc=>let ⟨a,b,_⟩:=zB6.1 hc;⟨a,b⟩;obtain⟨ta,tn,tk,rfl⟩:=zD E.st;obtain⟨ga,gn,gk,rfl⟩:=zD E.sf;have E0:=E.ext S.e;have o1:=S.own;refine WC.of (zE 28) tab28 ?_;simp only[zK,Nat.zero_add,Nat.reduceAdd];refine go ?_;refine WX.regionU2 0 rfl rfl ?_;have oX:OwnC hB (inC (zB 0 h)) (.pointer (some ⟨gp,0,none⟩)) [.slice ta tn tk,.slice ga gn gk,I f,.slice (some ⟨gb,0,none⟩) bg.length 1,.slice (some ⟨ge,0,none⟩) ed.length 1,.map (some gm)]:=o1;refine goU ?_;refine WO.con (zH3 (inC (zB 0 h)) _ _ T F f b E0.inC.tt (Nat.le_refl _) E0.sm E0.inC.st E0.inC.sf) ?_;rintro _ h1 ⟨⟨vn,rfl,sn,_⟩,e1⟩;rw[hnx]at sn ⊢;refine WO.nil ?_;refine yP e1 zM ?_;refine goU ?_;have e01:Ext h (outC h (inC h1)):=extI e1;have sn2:SlI (outC h (inC h1)) vn (nxL L b):=sn;generalize outC h (inC h1)=h2 at e01 sn2 ⊢;clear sn e1 oX;have S2:=S.ext e01;have o2:=S2.own;have sE2:=S2.ends;obtain⟨csE,⟨ve,rfl,hfar⟩,pcE,hsE⟩:=zZ S2.ends (i:=b.toNat) (by omega);obtain⟨ea,en,ek,rfl⟩:=ye hfar.1;have hed:List.getD ed b.toNat (default:List LWd)=ed.getD b.toNat []:=rfl;rw[hed]at hfar;have oed:=zFd oke (i:=b.toNat) (by omega);refine go ?_;refine WX.loopA [36,37,38,8,40,41,42,43,44,45,46,47,48,39,49,50,6,51,52,53,54,55,56,57,58,59,60,61,62,63,64,65,66,67,68,69,6,70,35] (by kernel_rfl) (fun i=>(nxL L b).length - i) (fun i t h3=>∃ v s,zC t 35=I i∧i≤(nxL L b).length∧Ext h2 h3∧zC t 6=v∧FarW h3 X v s∧Hid (OkW s∧∀ r,InW s r→r<zd par L)∧Hid (∀ r,InW s r↔inS ed b r∨∃ k∈(nxL L b).take i,inS bg k r∨r∈Y6 (L.getD k.toNat default) b)) 0 ?_ ?_
 ·exact⟨_,ed.getD b.toNat [],sl_,Nat.zero_le _,Ext.refl _,sl_,hfar,⟨oed⟩,⟨fun r=>by simp[inS]⟩⟩
 rintro i t h3 hsame ⟨v,s,s35,hi,e3,s6,hv,os,hs⟩;have S3:=S2.ext e3;have E3:=E.ext S3.e;have o3:=S3.own;have sn3:=SlI.ext sn2 e3;have hsl:s.length≤228:=by
  have:=Yf (N:=(zd par L).toNat) os.out.1 fun r q=>by have:=os.out.2 r q;omega
  omega
 obtain⟨wa,wn,wk,rfl⟩:=ye hv.1;refine go ?_;refine WX.br (fun hc=> ?_) (fun hc=> ?_)<;>simp only[DB]at hc
 ·have hi':i<(nxL L b).length:=by omega
  have hk:=hrange _ (zIT hi');have htk:=zDu (nxL L b) hi';have sB3:=S3.begs;obtain⟨csB,⟨vb,rfl,hfb⟩,pcB,hsB⟩:=zZ S3.begs (i:=((nxL L b).getD i 0).toNat) (by omega);obtain⟨xa,xn,xk,rfl⟩:=ye hfb.1;have obk:=zFd okb (i:=((nxL L b).getD i 0).toNat) (by omega);have hbd:List.getD bg ((nxL L b).getD i 0).toNat (default:List LWd)=bg.getD ((nxL L b).getD i 0).toNat []:=rfl;rw[hbd]at hfb;have hbl:(bg.getD ((nxL L b).getD i 0).toNat []).length≤228:=by
   have:=Yf (N:=(zd par L).toNat) obk.1 fun r q=>by have:=obk.2 r q;omega
   omega
  have hUk:=U _ (zI (l:=L) (i:=((nxL L b).getD i 0).toNat) (by omega));have hbm:=O.ins _ (zI (l:=L) (i:=((nxL L b).getD i 0).toNat) (by omega));have hm3:h3.mark≤h3.n:=E3.hm;refine go ?_;refine WO.con (or_ok h3 _ _ s _ hv.1 hfb.1 (by omega) (by omega) hm3) ?_;rintro _ h4 ⟨⟨v4,rfl,m4⟩,e4⟩;rw[zDU os.out.1 obk.1];rw[zDK os.out.1 obk.1]at m4;obtain⟨oo,io⟩:=or_is os.out.1 obk.1;have hlo:=ZL (fun a b=>a|||b) s (bg.getD ((nxL L b).getD i 0).toNat []);obtain⟨s4,hs4⟩:∃ s4,s4=ze (fun a b=>a|||b) s (bg.getD ((nxL L b).getD i 0).toNat []):=⟨_,rfl⟩;have hor:∀ r,InW s4 r↔InW s r∨inS bg ((nxL L b).getD i 0) r:=fun r=>by
   rw[hs4,←Z5,io,Bool.or_eq_true,Z5,Z5];exact Iff.rfl
  have oo:OkW s4:=by rw[hs4];exact oo
  rw[←hs4]at m4 hlo;clear hs4 io;have k4:=m4.sl;obtain⟨ya,yn,yk,rfl⟩:=ye k4;have hX3:=S3.hX;have hor:=Hid.mk hor;have hfar4:=m4.far hX3;clear m4 hfb pcB hsB sB3;have S4:=S3.ext e4;have E4:=E.ext S4.e;have o4:=S4.own;have sf4:=E4.sf;refine go ?_;refine WX.regionU2 0 rfl rfl ?_;have oX:OwnC hB (inC (zB 0 h4)) (.pointer (some ⟨gp,0,none⟩)) [.slice ta tn tk,.slice ga gn gk,I f,.slice (some ⟨gb,0,none⟩) bg.length 1,.slice (some ⟨ge,0,none⟩) ed.length 1,.map (some gm)]:=o4;have sfX:SlF (inC (zB 0 h4)) (.slice ga gn gk) F:=sf4;obtain⟨csF,⟨vbl,rfl,sb,hlb⟩,pcF,hsF⟩:=zh sf4 (i:=f.toNat) (by omega);obtain⟨ba,bn,bk,rfl⟩:=zD sb;rw[←hisL]at sb;have sbX:SlB (inC (zB 0 h4)) (.slice ba bn bk) L:=sb;obtain⟨csK,hcsK,pcK,hsK⟩:=zh sb (i:=((nxL L b).getD i 0).toNat) (by omega);have hcsK0:=hcsK;have pcFX:=(pcF _ (Ext.refl _)).2;have pcFX:Piece (inC (zB 0 h4)) (.slice ga gn gk) (f.toNat * 2) [I (F.getD f.toNat default).sig,.slice ba bn bk]:=pcFX;have pcKX:=(pcK _ (Ext.refl _)).2;obtain⟨vi,rfl,si,hli⟩:=hcsK0;obtain⟨ia,iN,ik,rfl⟩:=zD si;have pcKX:Piece (inC (zB 0 h4)) (.slice ba bn bk) (((nxL L b).getD i 0).toNat * 5) [.slice ia iN ik,.int .u8 (L.getD ((nxL L b).getD i 0).toNat default).fin.kind,I (L.getD ((nxL L b).getD i 0).toNat default).fin.a,I (L.getD ((nxL L b).getD i 0).toNat default).fin.to,I (L.getD ((nxL L b).getD i 0).toNat default).fin.els]:=pcKX;have hcsX:RBlk (inC (zB 0 h4)) [.slice ia iN ik,.int .u8 (L.getD ((nxL L b).getD i 0).toNat default).fin.kind,I (L.getD ((nxL L b).getD i 0).toNat default).fin.a,I (L.getD ((nxL L b).getD i 0).toNat default).fin.to,I (L.getD ((nxL L b).getD i 0).toNat default).fin.els] (L.getD ((nxL L b).getD i 0).toNat default):=hcsK;refine goU ?_;refine WO.con (phis_ok (inC (zB 0 h4)) (L.getD ((nxL L b).getD i 0).toNat default) _ b hcsX hbm (fun x hx=>(hUk.ins x hx).frm) (fun x hx e=>((hUk.ins x hx).phi e).1)) ?_;rintro vp h5 ⟨op,e5⟩;refine WO.nil ?_;refine yP e5 zM ?_;have hpl2:(Y6 (L.getD ((nxL L b).getD i 0).toNat default) b).length≤2560:=by
   have:=zDk (L.getD ((nxL L b).getD i 0).toNat default).ins b fun x hx=>(hUk.ins x hx).frm;have h2:(Y6 (L.getD ((nxL L b).getD i 0).toNat default) b).length≤20 * (L.getD ((nxL L b).getD i 0).toNat default).ins.length:=this;omega
  have hpr2:∀ r∈Y6 (L.getD ((nxL L b).getD i 0).toNat default) b,0≤r∧r<zd par L:=fun r hr=>phis_in hUk hr;have k5:SlW (inC h5) (.slice ya yn yk) s4:=by have:=SlW.ext k4 (extI e5);exact this
  have sp5:SlI (inC h5) vp (Y6 (L.getD ((nxL L b).getD i 0).toNat default) b):=by have:=op.sl;exact this
  refine goU ?_;refine WO.con (zFQ (inC h5) _ _ s4 (Y6 (L.getD ((nxL L b).getD i 0).toNat default) b) k5 sp5 oo (fun n hn=>by have:=hpr2 n hn;omega) (by omega) (by omega) (Nat.le_refl _)) ?_;rintro v6 h6 ⟨⟨t6,m6,o6,len6,mem6⟩,e6⟩;refine WO.nil ?_;refine yP e6 zM ?_;have e46:Ext h4 (outC h4 (inC h6)):=extI2 e5 e6;have m6:MineW h4 (outC h4 (inC h6)) v6 t6:=mineR m6 (by have:=e5.n;exact this);have hX4:=S4.hX;refine goU ?_;have hfar6:=m6.far hX4;generalize outC h4 (inC h6)=h7 at e46 m6 hfar6 ⊢;refine go ?_;refine zA (i+1) (by omega) ⟨v6,t6,sln,by omega,e3.trans (e4.trans e46),sl_,hfar6,⟨o6,fun r q=> ?_⟩,⟨fun r=> ?_⟩⟩
  ·rcases(mem6 r).1 q with q|q
   ·rcases(hor.out r).1 q with q|q
    ·exact os.out.2 r q
    ·exact obk.2 r q
   ·exact(hpr2 r q).2
  ·rw[mem6,hor.out,hs.out,htk];constructor
   ·rintro(((a|⟨k,hk,q⟩)|c)|d)
    ·exact .inl a
    ·exact .inr ⟨k,List.mem_append.2 (.inl hk),q⟩
    ·exact .inr ⟨_,List.mem_append.2 (.inr (List.mem_singleton.2 rfl)),.inl c⟩
    ·exact .inr ⟨_,List.mem_append.2 (.inr (List.mem_singleton.2 rfl)),.inr d⟩
   ·rintro(a|⟨k,hk,q⟩)
    ·exact .inl (.inl (.inl a))
    ·rcases List.mem_append.1 hk with hk|hk
     ·exact .inl (.inl (.inr ⟨k,hk,q⟩))
     ·rw[List.mem_singleton]at hk;subst hk;exact q.elim (fun c=> .inl (.inr c)) .inr
 ·have hil:i=(nxL L b).length:=by omega
  subst hil;rw[List.take_length]at hs;have sE3:=S3.ends;have hsets:∀ x:List LWd,(ed.set b.toNat x).getD b.toNat []=x:=fun x=>by
   rw[List.getD_eq_getElem?_getD,List.getElem?_set_self (by omega)];rfl
  refine go ?_;refine WO.stRow (i:=b.toNat) S3.se S3.e S3.de S3.hX (by omega) hv ?_;intro h4 e4 r4 n4 k4;have S4:=S3.setE e4 r4 (by rw[List.length_set]) (by omega) k4;have E4:=E.ext e4;have hE:inS (ed.set b.toNat s) b=InW s:=by funext r;unfold inS;rw[hsets]
  have hat:WC Tryz.prog tb 18 [.pointer (some ⟨gp,0,none⟩),I b,I 0] h4 _:=zEX hB h4 X gp gb ge gm _ _ T F f par L bg (ed.set b.toNat s) es b 0 S4 E4 O U hb (Nat.zero_le _) (by rw[List.length_set];exact le) (by rw[hsets,hE];exact os.out);refine go ?_;refine WO.con hat ?_;rintro v5 h5 ⟨⟨t5,m5,o5,mem5⟩,e5⟩;rw[hE]at mem5;clear hat;have S5:=S4.ext e5;have E5:=E4.ext e5;have k5:=m5.sl;have hX4:=S4.hX;have far5:=m5.far hX4;obtain⟨ya,yn,yk,rfl⟩:=ye k5;have o5p:=S5.own;have sB5:=S5.begs;obtain⟨csB,⟨vb,rfl,hfb⟩,pcB,hsB⟩:=zZ S5.begs (i:=b.toNat) (by omega);obtain⟨xa,xn,xk,rfl⟩:=ye hfb.1;have hbd:List.getD bg b.toNat (default:List LWd)=bg.getD b.toNat []:=rfl;rw[hbd]at hfb;have hlt:∀ r,InW t5 r→r<zd par L:=fun r q=>by
   have q:=(mem5 r).1 q;unfold yG at q;exact(zBg (fun x hx=>(hUb.ins x (List.mem_of_mem_drop hx)).uses) (fun r q=>q.elim (fun q=>hUb.ends r q) fun q=>⟨(InW.range os.out.1 q).1,os.out.2 r q⟩) q).2
  have ht5:t5.length≤228:=by
   have:=Yf (N:=(zd par L).toNat) o5 fun r q=>by have:=hlt r q;omega
   omega
  have mem5:=Hid.mk mem5;have hlt:=Hid.mk hlt;have hs':Hid (∀ r,InW s r↔inS ed b r∨ZQ L (inS bg) b r):=⟨hs.out⟩;refine go ?_;refine WO.con (same_ok h5 _ _ t5 (bg.getD b.toNat []) k5 hfb.1 (by omega)) ?_;rintro _ _ ⟨rfl,rfl⟩;by_cases heq:t5=bg.getD b.toNat []
  ·rw[decide_eq_true heq];refine go ?_;refine rt ?_;refine⟨s,t5,es,?_,os.out,⟨o5,hlt.out⟩,hs'.out,mem5.out,.inl ⟨heq,rfl⟩⟩;have hself:bg.set b.toNat t5=bg:=by
    rw[heq,List.getD_eq_getElem?_getD,List.getElem?_eq_getElem (show b.toNat<bg.length by omega)];exact List.set_getElem_self _
   rw[hself];exact S5
  ·rw[decide_eq_false heq];refine go ?_;refine WO.stRow (i:=b.toNat) S5.sb S5.e S5.db S5.hX (by omega) far5 ?_;intro h6 e6 r6 n6 k6;have S6:=S5.setB e6 r6 (by rw[List.length_set]) (by omega) k6;have E6:=E.ext e6;have o6p:=S6.own;clear sB5 pcB hfb hsB far5 k5 o5p S5 S4 S3 sE3;refine go ?_;refine WX.regionU2 0 rfl rfl ?_;have oX:OwnC hB (inC (zB 0 h6)) (.pointer (some ⟨gp,0,none⟩)) [.slice ta tn tk,.slice ga gn gk,I f,.slice (some ⟨gb,0,none⟩) (bg.set b.toNat t5).length 1,.slice (some ⟨ge,0,none⟩) (ed.set b.toNat s).length 1,.map (some gm)]:=o6p;refine goU ?_;refine WO.con (Preds_ok (inC (zB 0 h6)) _ _ T F f b E6.inC.tt (Nat.le_refl _) E6.sm E6.inC.st E6.inC.sf) ?_;rintro _ h7 ⟨⟨vp,rfl,op⟩,e7⟩;rw[hpr]at op ⊢;refine WO.nil ?_;refine yP e7 zM ?_;refine goU ?_;have e67:Ext h6 (outC h6 (inC h7)):=extI e7;have sp:SlI (outC h6 (inC h7)) vp (ZH L b L.length):=by have:=op.sl;exact this
   have hpX:∀ a n c,vp= .slice (some a) n c→a.block≠gm:=fun a n c e=>by
    rcases op with ⟨q,_⟩|⟨q,q1,q2,q3,q4⟩
    ·rw[q]at e;cases e
    ·rw[q3]at e;cases e;have h1:h6.n≤q:=q1;have:=S6.hX;have:=S6.dm.2;show q≠gm;omega
   generalize outC h6 (inC h7)=h8 at e67 sp ⊢;have S8:=S6.ext e67;have hpl16:(ZH L b L.length).length≤16:=by omega
   generalize hA:ZH L b L.length=A at *;refine go ?_;refine WX.loopA [113,114,115,12,116,117,118,119,120,121,122,112] (by kernel_rfl) (fun i=>A.length - i) (fun i t h9=>∃ es',zC t 112=I i∧i≤A.length∧FS hB h9 X gp gb ge gm (.slice ta tn tk) (.slice ga gn gk) f (bg.set b.toNat t5) (ed.set b.toNat s) es'∧SlI h9 vp A∧Hid ((ZW es→ZW es')∧∀ c,c∈es'.map (·.1)↔c∈es.map (·.1)∨c∈A.take i)) 0 ?_ ?_
   ·exact⟨es,sl_,Nat.zero_le _,S8,sp,⟨id,fun c=>by simp⟩⟩
   rintro i t9 h9 hsame9 ⟨es',s112,hi9,S9,sp9,hK⟩;have o9:=S9.own;refine go ?_;refine WX.br (fun hc9=> ?_) (fun hc9=> ?_)<;>simp only[DB]at hc9
   ·have hi':i<A.length:=by omega
    have htk:=zDu A hi';refine go ?_;refine WO.upM S9.rm S9.e ?_;intro h10 e10 o10 u10;have S10:=S9.setM e10 o10 u10;have sp10:=zIt sp9 u10 hpX;refine go ?_;refine zA (i+1) (by omega) ⟨_,sln,by omega,S10,sp10,⟨fun q=>zCH (hK.out.1 q),fun c=> ?_⟩⟩;rw[zB9,hK.out.2,htk,List.mem_append,List.mem_singleton];constructor
    ·rintro(a|a|a)
     ·exact .inr (.inr a)
     ·exact .inl a
     ·exact .inr (.inl a)
    ·rintro(a|a|a)
     ·exact .inr (.inl a)
     ·exact .inr (.inr a)
     ·exact .inl a
   ·refine go ?_;refine rtN ?_;rw[show i=A.length by omega,List.take_length]at hK;exact⟨s,t5,es',S9,os.out,⟨o5,hlt.out⟩,hs'.out,mem5.out,.inr ⟨heq,hK.out.1,hK.out.2⟩⟩
theorem zDh (v:Value):∀ n,zu [v] n=List.replicate n v
 |0=>rfl
 |n+1=>by rw[zu,zDh v n];rfl
theorem keys_nil {es:List (Int×Int)} (h:∀ c,c∉es.map (·.1)):es=[]:=by
 cases es with
 |nil=>rfl
 |cons e es=>exact absurd (List.mem_map.2 ⟨e,List.mem_cons_self ..,rfl⟩) (h e.1)
def body17_0:ACode:=(.seq (oR [oB .lss 32 31 30]) (.seq (oT 32 0) (.seq (.block 1 (.seq (oR [oM 33 31,oM 8 33]) (oR [oM 34 6,⟨some 35,none,(.nilCheck (.tmp 34))⟩,oF 5 36 35,oL 37 36,oM 38 8,oM 39 8,⟨none,none,(.update (.tmp 37) (.tmp 38) (.tmp 39))⟩]))) (oR [oC .add 40 31 1,oM 31 40]))))
def body17_1:ACode:=(.seq (oR [oB .lss 49 48 47]) (.seq (oT 49 4) (.seq (.block 5 (.seq (oR [oM 50 48,oM 9 50]) (.seq (oR [oM 52 6,⟨some 53,none,(.nilCheck (.tmp 52))⟩,oF 5 54 53,oL 55 54,oM 56 9,⟨some 57,none,(.lookup true (.int .i64 0) (.tmp 55) (.tmp 56))⟩,oM 51 57,oE 58 51 0,oE 59 51 1,oM 10 58,oM 11 59]) (.seq (oR [oM 60 11]) (.cond (.tmp 60) (.seq (oR [oM 61 6,⟨some 62,none,(.nilCheck (.tmp 61))⟩,oF 5 63 62,oL 64 63,oM 65 9,⟨none,none,(.delete (.tmp 64) (.tmp 65))⟩]) (oR [oM 66 7,oM 67 9,⟨some 68,none,(.call (.tmp 66) [(.tmp 67)])⟩])) .skip))))) (oR [oC .add 69 48 1,oM 48 69]))))
def body17_2:ACode:=(.seq (.seq (oR [oM 41 6,⟨some 42,none,(.nilCheck (.tmp 41))⟩,oF 5 43 42,oL 44 43,⟨some 45,none,(.lenMap (.tmp 44))⟩,oC .gtr 46 45 0]) (oT 46 2)) (.block 3 (.seq (oR [oM 47 5,oN 48 0]) (.block 4 (.loop body17_1)))))
def body17:ACode:=(.seq (oR [oX 2 0,oK 4 (.pointer none)]) (.seq (oR [oF 1 12 2,oL 13 12,oM 14 1,oI 2 15 13 14,oF 1 16 15,oL 17 16,oQ 18 17,oM 5 18]) (.seq (.regionC [oU (oA 2 19 2),oU (oM 20 1),oU (oM 21 5),oU (⟨some 22,none,(.mkSlice 1 [(.slice none 0 0)] (.tmp 21) (.tmp 21))⟩),oU (oM 23 5),oU (⟨some 24,none,(.mkSlice 1 [(.slice none 0 0)] (.tmp 23) (.tmp 23))⟩),oU (⟨some 25,none,.mkMap⟩),oU (⟨some 26,none,(.build [(.slice none 0 0),(.slice none 0 0),(.int .i64 0),(.slice none 0 0),(.slice none 0 0),(.map none)] [(0,2,(.tmp 19)),(2,1,(.tmp 20)),(3,1,(.tmp 22)),(4,1,(.tmp 24)),(5,1,(.tmp 25))])⟩),oU (oX 27 26),oU (oM 6 27)]) (.seq (oR [oM 28 6,⟨some 29,none,(.mkFunc (.func 28) [(.tmp 28)] [])⟩,oM 7 29]) (.seq (.seq (oR [oM 30 5,oN 31 0]) (.block 0 (.loop body17_0))) (.seq (.block 2 (.loop body17_2)) (.seq (oR [oM 70 6,⟨some 71,none,(.nilCheck (.tmp 70))⟩,oF 5 72 71,oL 73 72,⟨none,none,(.clear (.tmp 73))⟩]) (.seq (oR [oM 74 6,oM 4 74]) .ret))))))))
theorem tab17:tb.code 17=some ⟨75,[(4,none)],body17⟩:=by kernel_rfl
theorem zEM (h:AHeap) (vt vf:Value) (T:List LType) (F:List LFn) (f par:Int) (L:List LBlk) (E:EnvL h vt vf T F) (O:FnOk T F f L par) (U:∀ x∈L,BlkU x (zd par L) L.length):
  WC Tryz.prog tb 17 [.agg #[vt,vf],I f] h fun r h'=>∃ X gp gb ge gm bg ed,r= .pointer (some ⟨gp,0,none⟩)∧FS h h' X gp gb ge gm vt vf f bg ed []∧LFix par L (inS bg) (inS ed)∧bg.length=L.length∧ed.length=L.length∧(∀ s∈bg,OkW s∧∀ r,InW s r→r<zd par L)∧(∀ s∈ed,OkW s∧∀ r,InW s r→r<zd par L):=by
 have hF:=E.sm.funcs;have hN:0≤zd par L∧zd par L≤228:=by
  have:=O.par0;have:=O.parl;have:=O.many;have:=yQ L;unfold zd;omega
 have hf0:=O.f0;have hf1:=O.f1;have hisL:=O.isL;have hlen:=O.len;have hm:=E.hm;obtain⟨ta,tn,tk,rfl⟩:=zD E.st;obtain⟨ga,gn,gk,rfl⟩:=zD E.sf;refine WC.of (zE 17) tab17 ?_;simp only[zK,Nat.zero_add,Nat.reduceAdd];refine go ?_;refine WO.bx ?_;intro p2 h1 e1 o2;have E1:=E.ext e1;have sf1:=E1.sf;obtain⟨csF,⟨vb,rfl,sb,hlb⟩,pcF,hsF⟩:=zZ (i:=f.toNat) sf1 (by omega);obtain⟨ba,bn,bk,rfl⟩:=zD sb;rw[←hisL]at sb;refine go ?_;refine WX.regionU2 4 rfl rfl ?_;have eA:Ext h1 (zB 4 h1):=yz 4 h1;have oX:=o2.ext eA;have oX:OwnC h (inC (zB 4 h1)) p2 [.slice ta tn tk,.slice ga gn gk]:=oX;have hm1:h1.mark≤h1.n:=E1.hm;refine goU ?_;refine WU2.mkSl (n:=L.length) hm1 (by omega) ?_;intro X1 n1 g1;refine goU ?_;refine WU2.mkSl (n:=L.length) (by omega) (by omega) ?_;intro X2 n2 g2;refine WU2.mkMp (by omega) ?_;intro X3 n3 g3;refine goU ?_;refine WU2.mkBx (cs:=[.slice ta tn tk,.slice ga gn gk,I f,.slice (some ⟨h1.n,0,none⟩) L.length 1,.slice (some ⟨h1.n+1,0,none⟩) L.length 1,.map (some (h1.n+1+1))]) (by omega) ?_;intro X4 n4 g4;refine goU ?_;have hn4:X4.n=h1.n+4:=by rw[n4,n3,n2,n1];rfl
 have gall:∀ j,X4.get j=if j=h1.n+3 then some (.row [.slice ta tn tk,.slice ga gn gk,I f,.slice (some ⟨h1.n,0,none⟩) L.length 1,.slice (some ⟨h1.n+1,0,none⟩) L.length 1,.map (some (h1.n+2))] true 0) else if j=h1.n+2 then some (.map [] 0) else if j=h1.n+1 then some (.row (List.replicate L.length (.slice none 0 0)) true 0) else if j=h1.n then some (.row (List.replicate L.length (.slice none 0 0)) true 0) else h1.get j:=fun j=>by
  rw[g4,g3,g2,g1,zDh];rfl
 have eH:Ext h1 (outC h1 (inC X4)):=⟨by show h1.n≤X4.n;omega,fun j hj=>by show X4.get j=_;rw[gall,if_neg (by omega),if_neg (by omega),if_neg (by omega),if_neg (by omega)],fun w j hj=>by
  have hj:X4.n≤j:=hj;show X4.get j=_;rw[gall,if_neg (by omega),if_neg (by omega),if_neg (by omega),if_neg (by omega)];exact w j (by omega),rfl,fun _=>rfl⟩
 have hrow:∀ H:AHeap,RowS H (h1.n+4) (h1.n) (List.replicate L.length [])→True:=fun _ _=>trivial;have hfn:∀ (H:AHeap) (g:Nat),H.get g=some (.row (List.replicate L.length (.slice none 0 0)) true 0)→RowS H (h1.n+4) g (List.replicate L.length []):=fun H g hg=>⟨_,hg,by simp,fun i hi=>by
  rw[List.length_replicate]at hi;rw[List.getD_eq_getElem?_getD,List.getElem?_replicate,if_pos hi,List.getD_eq_getElem?_getD,List.getElem?_replicate,if_pos hi];exact FarW.nil⟩
 have S0:FS h (outC h1 (inC X4)) (h1.n+4) (h1.n+3) h1.n (h1.n+1) (h1.n+2) (.slice ta tn tk) (.slice ga gn gk) f (List.replicate L.length []) (List.replicate L.length []) []:=by
  have hh:=e1.n;refine⟨e1.trans eH,by show h1.n+4≤X4.n;omega,⟨by omega,by omega⟩,⟨by omega,by omega⟩,⟨by omega,by omega⟩,⟨by omega,by omega⟩,⟨by omega,by omega,by omega,by omega,by omega,by omega⟩,?_,hfn _ _ ?_,hfn _ _ ?_,⟨h1.n+2,0,[],by omega,by show h1.n+2<X4.n;omega,rfl,?_,rfl⟩⟩
  ·show X4.get _=_;rw[gall,if_pos rfl,List.length_replicate]
  ·show X4.get _=_;rw[gall,if_neg (by omega),if_neg (by omega),if_neg (by omega),if_pos rfl]
  ·show X4.get _=_;rw[gall,if_neg (by omega),if_neg (by omega),if_pos rfl]
  ·show X4.get _=_;rw[gall,if_neg (by omega),if_pos rfl]
 clear gall g1 g2 g3 g4 n1 n2 n3 n4 hfn hrow hn4 oX eA;have w0:=WInv.start par L (zd par L) (K:=fun c=>0≤c∧c<(L.length:Int)) (fun b h1 h2=>⟨h1,h2⟩);generalize hX:h1.n+4=X at S0;generalize hgp:h1.n+3=gp at S0 ⊢;generalize hgb:h1.n=gb at S0;generalize hge:gb+1=ge at S0;generalize hgm:gb+2=gm at S0;generalize outC h1 (inC X4)=h2 at S0 ⊢;have hVs:∀ es:List (Int×Int),OwnM h h2 (.map (some gm)) es→True:=fun _ _=>trivial;clear hVs hX hgp hgb hge hgm eH;have o3:=S0.own;refine go ?_;refine WX.loopA [32,33,8,34,35,36,37,38,39,40,31] (by kernel_rfl) (fun i=>L.length - i) (fun i t h3=>∃ es,zC t 31=I i∧i≤L.length∧FS h h3 X gp gb ge gm (.slice ta tn tk) (.slice ga gn gk) f (List.replicate L.length []) (List.replicate L.length []) es∧Hid (ZW es∧∀ c,c∈es.map (·.1)↔0≤c∧c<(i:Int))) 0 ?_ ?_
 ·exact⟨[],sl_,Nat.zero_le _,S0,⟨by unfold ZW;simp,fun c=>by simp⟩⟩
 clear S0 o3;rintro i t h3 hsame ⟨es,s31,hi,S,hK⟩;have o3:=S.own;refine go ?_;refine WX.br (fun hc=> ?_) (fun hc=> ?_)<;>simp only[DB]at hc
 ·refine go ?_;refine WO.upM S.rm S.e ?_;intro h4 e4 o4 u4;have S4:=S.setM e4 o4 u4;refine go ?_;refine zA (i+1) (by omega) ⟨_,sln,by omega,S4,⟨zCH hK.out.1,fun c=> ?_⟩⟩;rw[zB9,hK.out.2];omega
 have hil:i=L.length:=by omega
 subst hil;have w1:WInv par L (zd par L) (List.replicate L.length []) (List.replicate L.length []) (fun c=>c∈es.map (·.1)):=WInv.start par L (zd par L) (fun c h1 h2=>(hK.out.2 c).2 ⟨h1,h2⟩);have hkr:∀ c∈es.map (·.1),0≤c∧c<(L.length:Int):=fun c hc=>(hK.out.2 c).1 hc;have hnxr:∀ c,0≤c→c<(L.length:Int)→∀ k∈nxL L c,0≤k∧k<(L.length:Int):=fun c h1 h2=>(U _ (zI (l:=L) (i:=c.toNat) (by omega))).next;have hnxr:=Hid.mk hnxr;have w1:=Hid.mk w1;have hK1:=Hid.mk (And.intro hK.out.1 hkr);clear hK hkr w0;refine go ?_;refine WX.loopA [41,42,43,44,45,46,47,48,49,50,9,52,53,54,55,56,57,51,58,59,10,11,60,61,62,63,64,65,66,67,68,69,48] (by kernel_rfl) (fun x:Zq×Zq×List (Int×Int)=>2 * (L.length * (zd par L).toNat - Z9 x.1)+(if x.2.2.length=0 then 0 else 1)) (fun x t h4=>FS h h4 X gp gb ge gm (.slice ta tn tk) (.slice ga gn gk) f x.1 x.2.1 x.2.2∧Hid (ZW x.2.2∧∀ c∈x.2.2.map (·.1),0≤c∧c<(L.length:Int))∧Hid (WInv par L (zd par L) x.1 x.2.1 (fun c=>c∈x.2.2.map (·.1)))) (List.replicate L.length [],List.replicate L.length [],es) ?_ ?_
 ·exact⟨S,hK1,w1⟩
 clear S hK1 w1 o3;rintro⟨bg0,ed0,es0⟩ t4 h4 hsame4 ⟨S,hK,hW⟩;simp only at S hK hW;have o4:=S.own;refine go ?_;refine WO.lnM S.rm ?_;refine go ?_;refine WX.br (fun hc=> ?_) (fun hc=> ?_)<;>simp only[DB]at hc
 ·refine go ?_;refine WX.loopA [49,50,9,52,53,54,55,56,57,51,58,59,10,11,60,61,62,63,64,65,66,67,68,69,48] (by kernel_rfl) (fun i=>L.length - i) (fun i t h5=>∃ bg ed es,zC t 48=I i∧i≤L.length∧FS h h5 X gp gb ge gm (.slice ta tn tk) (.slice ga gn gk) f bg ed es∧Hid (ZW es∧∀ c∈es.map (·.1),0≤c∧c<(L.length:Int))∧Hid (WInv par L (zd par L) bg ed (fun c=>c∈es.map (·.1)))∧Hid (Z9 bg0<Z9 bg∨(Z9 bg0=Z9 bg∧∀ c∈es.map (·.1),(i:Int)≤c))) 0 ?_ ?_
  ·exact⟨bg0,ed0,es0,sl_,Nat.zero_le _,S,hK,hW,⟨.inr ⟨rfl,fun c hc=>(hK.out.2 c hc).1⟩⟩⟩
  have hc0:es0.length≠0:=by omega
  clear S o4 hK;rintro i t5 h5 hsame5 ⟨bg,ed,es,s48,hi,S,hK,hW5,hM⟩;have o5:=S.own;refine go ?_;refine WX.br (fun hc5=> ?_) (fun hc5=> ?_)<;>simp only[DB]at hc5
  ·refine go ?_;refine WO.lkM S.rm ?_;by_cases hin:(i:Int)∈es.map (·.1)
   ·obtain⟨w,hw⟩:∃ w,es.lookup (i:Int)=some w:=by
     cases hl:es.lookup (i:Int)with
     |none=>exact absurd hl (look_mem.2 hin)
     |some w=>exact⟨w,rfl⟩
    rw[hw];refine go ?_;refine WO.dlM S.rm S.e ?_;intro h6 e6 o6 u6;have S6:=S.setM e6 o6 u6;have hlb:=hW5.out.lb;have hle:=hW5.out.le;have hob:=hW5.out.okb;have hoe:=hW5.out.oke;refine go ?_;refine WO.conV (WV.func (look_ok h h6 X gp gb ge gm _ _ T F f par L bg ed (zA0 i es) i S6 E O U ⟨by omega,by omega⟩ hlb hle hob hoe)) ?_;rintro _ h7 ⟨s1,s,es',S7,k1,k2,m1,m2,hcase⟩;refine go ?_;have hdk:∀ c,c∈(zA0 (i:Int) es).map (·.1)↔c≠(i:Int)∧c∈es.map (·.1):=fun c=>zB8 hK.out.1;have hdo:ZW (zA0 (i:Int) es):=zEV hK.out.1;have hi0:(0:Int)≤i:=by omega
    have hi1:(i:Int)<(L.length:Int):=by omega
    have hsz:=zEW (bg:=bg) (i:=(i:Int).toNat) (s:=s) (by omega);have hW7:WInv par L (zd par L) (bg.set (i:Int).toNat s) (ed.set (i:Int).toNat s1) (fun c=>c∈es'.map (·.1)):=by
     refine hW5.out.look hi0 hi1 hnxr.out k1 k2 m1 m2 fun c hc1 hc2 hnk=> ?_;rcases hcase with ⟨q1,q2⟩|⟨q1,q2,q3⟩
     ·subst q2;refine⟨?_,.inl q1⟩;by_cases e:c=i
      ·exact .inl e
      ·exact .inr fun hm=>hnk ((hdk c).2 ⟨e,hm⟩)
     ·refine⟨?_,.inr fun hm=>hnk ((q3 c).2 (.inr (zB6.2 ⟨hc1,hc2,hm⟩)))⟩;by_cases e:c=i
      ·exact .inl e
      ·exact .inr fun hm=>hnk ((q3 c).2 (.inl ((hdk c).2 ⟨e,hm⟩)))
    have hK7:ZW es'∧∀ c∈es'.map (·.1),0≤c∧c<(L.length:Int):=by
     rcases hcase with ⟨q1,q2⟩|⟨q1,q2,q3⟩
     ·subst q2;exact⟨hdo,fun c hc=>hK.out.2 c ((hdk c).1 hc).2⟩
     ·exact⟨q2 hdo,fun c hc=>((q3 c).1 hc).elim (fun hc=>hK.out.2 c ((hdk c).1 hc).2) fun hc=>let ⟨a,b,_⟩:=zB6.1 hc;⟨a,b⟩⟩
    have hM7:Z9 bg0<Z9 (bg.set (i:Int).toNat s)∨(Z9 bg0=Z9 (bg.set (i:Int).toNat s)∧∀ c∈es'.map (·.1),((i+1:Nat):Int)≤c):=by
     rcases hcase with ⟨q1,q2⟩|⟨q1,q2,q3⟩
     ·rw[q1]at hsz;have hsz2:Z9 (bg.set (i:Int).toNat s)=Z9 bg:=by rw[q1];omega
      rw[hsz2];rcases hM.out with r|⟨r1,r2⟩
      ·exact .inl r
      ·refine .inr ⟨r1,fun c hc=> ?_⟩;subst q2;obtain⟨a,b⟩:=(hdk c).1 hc;have:=r2 c b;omega
     ·left;have hob':=zFd hob (i:=(i:Int).toNat) (by omega);have hmore:=zIf (s:=bg.getD (i:Int).toNat []) (t:=s) hob'.1 k2.1 (fun r q=>(m2 r).2 (yM (fun r q=>(m1 r).2 (.inl q)) (hW5.out.sub i r hi0 hi1 q))) q1;rcases hM.out with r|⟨r1,_⟩<;>omega
    exact zA (i+1) (by omega) ⟨_,_,es',sln,by omega,S7,⟨hK7⟩,⟨hW7⟩,⟨hM7⟩⟩
   ·have hw:es.lookup (i:Int)=none:=by
     cases hl:es.lookup (i:Int)with
     |none=>rfl
     |some w=>exact absurd (look_mem.1 (by rw[hl];simp)) hin
    rw[hw];refine go ?_;refine zA (i+1) (by omega) ⟨bg,ed,es,sln,by omega,S,hK,hW5,⟨?_⟩⟩;rcases hM.out with r|⟨r1,r2⟩
    ·exact .inl r
    ·refine .inr ⟨r1,fun c hc=> ?_⟩;have:=r2 c hc;have:c≠i:=fun e=>hin (e▸hc);omega
  ·have hiL:i=L.length:=by omega
   subst hiL;refine go ?_;have hup:=zGE (N:=(zd par L).toNat) fun s hs=>⟨(hW5.out.okb s hs).1,fun r q=>by have:=(hW5.out.okb s hs).2 r q;omega⟩;rw[hW5.out.lb]at hup;refine zA (bg,ed,es) ?_ ⟨S,hK,hW5⟩;simp only;rw[if_neg hc0];rcases hM.out with r|⟨r1,r2⟩
   ·split<;>omega
   ·have hes:es=[]:=keys_nil fun c hc=>by
     have h1:=r2 c hc;have h2:=(hK.out.2 c hc).2;omega
    subst hes;rw[if_pos (show ([]:List (Int×Int)).length=0 from rfl),r1];omega
 ·have hes:es0=[]:=List.eq_nil_of_length_eq_zero (by omega);subst hes;refine go ?_;refine WO.clM S.rm S.e ?_;intro h6 e6 o6 u6;have S6:=S.setM e6 o6 u6;refine go ?_;refine rt ?_;exact⟨X,gp,gb,ge,gm,bg0,ed0,rfl,S6,hW.out.fix (fun b _ _ hb=>by cases hb),hW.out.lb,hW.out.le,hW.out.okb,hW.out.oke⟩
def LB (par:Int) (L:List LBlk) (b r:Int):Prop:=∀ B E,Clo par L B E→B b r
def LE (par:Int) (L:List LBlk) (b r:Int):Prop:=∀ B E,Clo par L B E→E b r
theorem LFix.isB {par L B E} (h:LFix par L B E) {b r:Int} (h1:0≤b) (h2:b<(L.length:Int)):B b r↔LB par L b r:=⟨fun q B' E' k=>(h.least B' E' k b r h1 h2).1 q,fun q=>q B E h.clo⟩
theorem LFix.isE {par L B E} (h:LFix par L B E) {b r:Int} (h1:0≤b) (h2:b<(L.length:Int)):E b r↔LE par L b r:=⟨fun q B' E' k=>(h.least B' E' k b r h1 h2).2 q,fun q=>q B E h.clo⟩
theorem LFix.the {par L B E} (h:LFix par L B E) (hn:∀ c,0≤c→c<(L.length:Int)→∀ k∈nxL L c,0≤k∧k<(L.length:Int)):LFix par L (LB par L) (LE par L):=by
 refine⟨fun b r h1 h2=> ?_,fun b r h1 h2=> ?_,fun B' E' k b r _ _=>⟨fun q=>q B' E' k,fun q=>q B' E' k⟩⟩
 ·rw[←h.isE h1 h2,h.e b r h1 h2];exact⟨ZO fun k hk r q=>(h.isB (hn b h1 h2 k hk).1 (hn b h1 h2 k hk).2).1 q,ZO fun k hk r q=>(h.isB (hn b h1 h2 k hk).1 (hn b h1 h2 k hk).2).2 q⟩
 ·rw[←h.isB h1 h2,h.b b r h1 h2];exact⟨yM fun r q=>(h.isE h1 h2).1 q,yM fun r q=>(h.isE h1 h2).2 q⟩
def ZM (T:List LType) (F:List LFn) (f b at':Int):Int:=
 if (yT T F f b).2≠0 then (yT T F f b).2 else if at'<0∨(((F.getD f.toNat default).blocks.getD b.toNat default).ins.length:Int)<at' then 2 else 0
theorem zAp {T:List LType} {F:List LFn} {f b:Int} (h:(yT T F f b).2=0):(zq T F f).2=0∧0≤b∧b<((F.getD f.toNat default).blocks.length:Int):=by
 have h1:(zT T F f b).2=0:=by
  unfold yT at h;split at h
  ·rename_i q;exact absurd h q
  ·rename_i q;omega
 obtain⟨a,c,d,e⟩:=zAz h1;rw[d]at c;refine⟨?_,a,c⟩;unfold ZV at e;split at e
 ·rename_i q;exact absurd e q
 ·rename_i q;omega
abbrev yc (F:List LFn) (f:Int):List LBlk:=(F.getD f.toNat default).blocks
abbrev Zr (T:List LType) (F:List LFn) (f:Int):Int:=((T.getD (F.getD f.toNat default).sig.toNat default).parts.length:Int)
def body15:ACode:=(.seq (oR [oX 4 0,oN 8 0]) (.seq (.seq (oR [oA 2 12 4,oM 13 1,oM 14 2,o3 15 25 12 13 14,oM 11 15,oE 16 11 0,oE 17 11 1,oM 9 16,oM 10 17]) (.seq (oR [oM 18 10,oC .neq 19 18 0]) (.cond (.tmp 19) (.seq (oR [oM 20 10,oM 8 20]) .ret) .skip))) (.seq (.seq (oR [oM 21 3,oC .lss 22 21 0,oM 23 22,oH 23 (oM 24 3),oH 23 (oF 1 25 4),oH 23 (oL 26 25),oH 23 (oM 27 1),oH 23 (oI 2 28 26 27),oH 23 (oF 1 29 28),oH 23 (oL 30 29),oH 23 (oM 31 2),oH 23 (oI 5 32 30 31),oH 23 (oF 0 33 32),oH 23 (oL 34 33),oH 23 (oQ 35 34),oH 23 (oB .gtr 36 24 35),oO 37 23 36]) (.cond (.tmp 37) (.seq (oR [oN 8 2]) .ret) .skip)) (.seq (oR [oN 8 0]) .ret))))
theorem tab15:tb.code 15=some ⟨38,[(8,none)],body15⟩:=by kernel_rfl
theorem zED (h:AHeap) (vt vf:Value) (T:List LType) (F:List LFn) (f b at':Int) (E:EnvL h vt vf T F):
  WC Tryz.prog tb 15 [.agg #[vt,vf],I f,I b,I at'] h fun r h'=>r=I (ZM T F f b at')∧Ext h h':=by
 have hF:=E.sm.funcs;obtain⟨ta,tn,tk,rfl⟩:=zD E.st;obtain⟨ga,gn,gk,rfl⟩:=zD E.sf;refine WC.of (zE 15) tab15 ?_;simp only[zK,Nat.zero_add,Nat.reduceAdd];refine go ?_;refine WO.bx ?_;intro p h1 e1 o1;have E1:=E.ext e1;refine go ?_;refine WO.con (zH3 h1 _ _ T F f b E1.tt E1.hm E1.sm E1.st E1.sf) ?_;rintro _ h2 ⟨⟨vn,rfl,sn,_⟩,e2⟩;have e12:=e1.trans e2;unfold ZM;by_cases hn:(yT T F f b).2=0;case neg=>
  rw[if_pos hn];refine go ?_;refine rt ?_;exact⟨rfl,e12⟩
 obtain⟨ha,hb0,hb1⟩:=zAp hn;obtain⟨hf0,hf1,_⟩:=zFF ha;have E2:=E1.ext e2;have sf2:=E2.sf;have o2:=o1.ext e2;obtain⟨csF,⟨vb,rfl,sb,hlb⟩,pcF,hsF⟩:=zZ (i:=f.toNat) sf2 (by omega);obtain⟨ba,bn,bk,rfl⟩:=zD sb;obtain⟨csB,⟨vi,rfl,si,hli⟩,pcB,hsB⟩:=zZ (i:=b.toNat) sb (by omega);obtain⟨ia,iN,ik,rfl⟩:=zD si;rw[if_neg (fun q=>q hn),hn];by_cases c1:at'<0
 ·rw[if_pos (.inl c1)];refine go ?_;refine rt ?_;exact⟨rfl,e12⟩
 by_cases c2:(((F.getD f.toNat default).blocks.getD b.toNat default).ins.length:Int)<at'
 ·rw[if_pos (.inr c2)];refine go ?_;refine rt ?_;exact⟨rfl,e12⟩
 rw[if_neg (by omega)];refine go ?_;refine rt ?_;exact⟨rfl,e12⟩
structure AtR (T:List LType) (F:List LFn) (f b at':Int) (l:List Int):Prop where
 rise:l.Pairwise (·<·)
 mem:∀ r,r∈l↔yG (Zr T F f) (yc F f) b at'.toNat (LE (Zr T F f) (yc F f) b) r
 fix:LFix (Zr T F f) (yc F f) (LB (Zr T F f) (yc F f)) (LE (Zr T F f) (yc F f))
 reg:∀ r∈l,0≤r∧r<zd (Zr T F f) (yc F f)
structure EndR (T:List LType) (F:List LFn) (f b:Int) (l:List Int):Prop where
 rise:l.Pairwise (·<·)
 mem:∀ r,r∈l↔LE (Zr T F f) (yc F f) b r
 fix:LFix (Zr T F f) (yc F f) (LB (Zr T F f) (yc F f)) (LE (Zr T F f) (yc F f))
 reg:∀ r∈l,0≤r∧r<zd (Zr T F f) (yc F f)
def body6:ACode:=(.seq (oR [oX 4 0,oK 8 (.slice none 0 0),oN 9 0]) (.seq (.seq (oR [oA 2 11 4,oM 12 1,oM 13 2,oM 14 3,o4 15 15 11 12 13 14,oM 10 15]) (.seq (oR [oM 16 10,oC .neq 17 16 0]) (.cond (.tmp 17) (.seq (oR [oM 18 10,oK 8 (.slice none 0 0),oM 9 18]) .ret) .skip))) (.seq (oR [oA 2 19 4,oM 20 1,o2 21 17 19 20,oM 22 2,oM 23 3,o3 24 18 21 22 23,o1 25 16 24,oE 26 25 0,oE 27 25 1,oM 8 26,oM 9 27]) .ret)))
theorem tab6:tb.code 6=some ⟨28,[(8,none),(9,none)],body6⟩:=by kernel_rfl
theorem lAt_ok (h:AHeap) (vt vf:Value) (T:List LType) (F:List LFn) (f b at':Int) (E:EnvL h vt vf T F) (Z:TzT h):
  WC Tryz.prog tb 6 [.agg #[vt,vf],I f,I b,I at'] h fun r h'=>(∃ v l,r= .tuple #[v,I (ZM T F f b at')]∧OwnN h h' v l∧(ZM T F f b at'≠0→l=[])∧(ZM T F f b at'=0→AtR T F f b at' l))∧Ext h h':=by
 obtain⟨ta,tn,tk,rfl⟩:=zD E.st;obtain⟨ga,gn,gk,rfl⟩:=zD E.sf;refine WC.of (zE 6) tab6 ?_;simp only[zK,Nat.zero_add,Nat.reduceAdd];refine go ?_;refine WO.bx ?_;intro p h1 e1 o1;have E1:=E.ext e1;refine go ?_;refine WO.con (zED h1 _ _ T F f b at' E1) ?_;rintro _ h2 ⟨rfl,e2⟩;have e12:=e1.trans e2;have o2:=o1.ext e2;have E2:=E1.ext e2;by_cases ha:ZM T F f b at'=0;case neg=>
  refine go ?_;refine rt ?_;exact⟨⟨_,[],rfl,.inl ⟨rfl,rfl⟩,fun _=>rfl,fun h=>absurd h ha⟩,e12⟩
 have hn:(yT T F f b).2=0:=by
  unfold ZM at ha;split at ha
  ·rename_i q;exact absurd ha q
  ·rename_i q;omega
 have hat:0≤at'∧at'≤(((F.getD f.toNat default).blocks.getD b.toNat default).ins.length:Int):=by
  unfold ZM at ha;rw[if_neg (fun q=>q hn)]at ha;split at ha
  ·cases ha
  ·rename_i q;omega
 obtain⟨hask,hb0,hb1⟩:=zAp hn;obtain⟨O,U⟩:FnOk T F f (yc F f) (Zr T F f)∧∀ b∈yc F f,BlkU b (zd (Zr T F f) (yc F f)) (yc F f).length:=zCr E.sm hask;have hb1:b<((yc F f).length:Int):=hb1;have hnx:∀ c,0≤c→c<((yc F f).length:Int)→∀ k∈nxL (yc F f) c,0≤k∧k<((yc F f).length:Int):=fun c h1 h2=>(U _ (zI (l:=yc F f) (i:=c.toNat) (by omega))).next;refine go ?_;refine WO.con (zEM h2 _ _ T F f _ _ E2 O U) ?_;rintro _ h3 ⟨X,gp,gb,ge,gm,bg,ed,rfl,S,hfix,hlb,hle,hob,hoe⟩;have e23:=S.e;have E3:=E2.ext e23;have hoed:=zFd hoe (i:=b.toNat) (by omega);have hat2:at'.toNat≤((yc F f).getD b.toNat default).ins.length:=by
  show at'.toNat≤((F.getD f.toNat default).blocks.getD b.toNat default).ins.length;omega
 have hA:=zEX h2 h3 X gp gb ge gm _ _ T F f _ _ bg ed [] b at'.toNat S E3 O U ⟨hb0,hb1⟩ hat2 hle hoed;rw[show ((at'.toNat:Nat):Int)=at' by omega]at hA;refine go ?_;refine WO.con hA ?_;rintro v4 h4 ⟨⟨t4,m4,o4,mem4⟩,e4⟩;have e04:=e12.trans (e23.trans e4);have Z4:=Z.ext e04;have hm4:h4.mark≤h4.n:=(E3.ext e4).hm;have hreg:∀ r,InW t4 r→0≤r∧r<zd (Zr T F f) (yc F f):=fun r q=>by
  have q:=(mem4 r).1 q;unfold yG at q;have hUb:=U _ (zI (l:=yc F f) (i:=b.toNat) (by omega));exact zBg (fun x hx=>(hUb.ins x (List.mem_of_mem_drop hx)).uses) (fun r q=>q.elim (fun q=>hUb.ends r q) fun q=>⟨(InW.range hoed.1 q).1,hoed.2 r q⟩) q
 have hN:0≤zd (Zr T F f) (yc F f)∧zd (Zr T F f) (yc F f)≤228:=by
  have:=O.par0;have:=O.parl;have:=O.many;have:=yQ (yc F f);unfold zd;omega
 have hl4:t4.length≤228:=by
  have:=Yf (N:=(zd (Zr T F f) (yc F f)).toNat) o4 fun r q=>by have:=hreg r q;omega
  omega
 refine go ?_;refine WO.con (zIG h4 v4 t4 m4.sl Z4 (by omega) hm4) ?_;rintro _ h5 ⟨⟨w,rfl,ow⟩,e5⟩;rw[YE o4,if_pos rfl]at ow;rw[YE o4,show errW true=0 from rfl];refine go ?_;refine rt ?_;rw[ha];refine⟨⟨w,zp t4,rfl,ow.since e04,fun h=>absurd rfl h,fun _=>⟨YT o4,fun r=> ?_,hfix.the hnx,fun r hr=>hreg r ((y8 o4).1 hr)⟩⟩,e04.trans e5⟩;rw[y8 o4,mem4];exact⟨yM fun r q=>(hfix.isE hb0 hb1).1 q,yM fun r q=>(hfix.isE hb0 hb1).2 q⟩
def body8:ACode:=(.seq (oR [oX 3 0,oK 6 (.slice none 0 0),oN 7 0]) (.seq (.seq (oR [oA 2 9 3,oM 10 1,oM 11 2,⟨some 12,none,(.call (.func 15) [(.tmp 9),(.tmp 10),(.tmp 11),(.const (.int .i64 0))])⟩,oM 8 12]) (.seq (oR [oM 13 8,oC .neq 14 13 0]) (.cond (.tmp 14) (.seq (oR [oM 15 8,oK 6 (.slice none 0 0),oM 7 15]) .ret) .skip))) (.seq (oR [oA 2 16 3,oM 17 1,o2 18 17 16 17,⟨some 19,none,(.nilCheck (.tmp 18))⟩,oF 4 20 19,oL 21 20,oM 22 2,oI 1 23 21 22,oL 24 23,o1 25 16 24,oE 26 25 0,oE 27 25 1,oM 6 26,oM 7 27]) .ret)))
theorem tab8:tb.code 8=some ⟨28,[(6,none),(7,none)],body8⟩:=by kernel_rfl
theorem lEnd_ok (h:AHeap) (vt vf:Value) (T:List LType) (F:List LFn) (f b:Int) (E:EnvL h vt vf T F) (Z:TzT h):
  WC Tryz.prog tb 8 [.agg #[vt,vf],I f,I b] h fun r h'=>(∃ v l,r= .tuple #[v,I (yT T F f b).2]∧OwnN h h' v l∧((yT T F f b).2≠0→l=[])∧((yT T F f b).2=0→EndR T F f b l))∧Ext h h':=by
 obtain⟨ta,tn,tk,rfl⟩:=zD E.st;obtain⟨ga,gn,gk,rfl⟩:=zD E.sf;refine WC.of (zE 8) tab8 ?_;simp only[zK,Nat.zero_add,Nat.reduceAdd];refine go ?_;refine WO.bx ?_;intro p h1 e1 o1;have E1:=E.ext e1;refine go ?_;refine WO.con (zED h1 _ _ T F f b 0 E1) ?_;rintro _ h2 ⟨rfl,e2⟩;have e12:=e1.trans e2;have o2:=o1.ext e2;have E2:=E1.ext e2;have hask0:ZM T F f b 0=(yT T F f b).2:=by
  unfold ZM;split
  ·rfl
  ·rename_i q;rw[if_neg (by omega)];omega
 rw[hask0];by_cases hn:(yT T F f b).2=0;case neg=>
  refine go ?_;refine rt ?_;exact⟨⟨_,[],rfl,.inl ⟨rfl,rfl⟩,fun _=>rfl,fun h=>absurd h hn⟩,e12⟩
 obtain⟨hask,hb0,hb1⟩:=zAp hn;obtain⟨O,U⟩:FnOk T F f (yc F f) (Zr T F f)∧∀ b∈yc F f,BlkU b (zd (Zr T F f) (yc F f)) (yc F f).length:=zCr E.sm hask;have hb1:b<((yc F f).length:Int):=hb1;have hnx:∀ c,0≤c→c<((yc F f).length:Int)→∀ k∈nxL (yc F f) c,0≤k∧k<((yc F f).length:Int):=fun c h1 h2=>(U _ (zI (l:=yc F f) (i:=c.toNat) (by omega))).next;refine go ?_;refine WO.con (zEM h2 _ _ T F f _ _ E2 O U) ?_;rintro _ h3 ⟨X,gp,gb,ge,gm,bg,ed,rfl,S,hfix,hlb,hle,hob,hoe⟩;have e23:=S.e;have E3:=E2.ext e23;have hoed:=zFd hoe (i:=b.toNat) (by omega);have o3:=S.own;have sE3:=S.ends;obtain⟨csE,⟨ve,rfl,hfar⟩,pcE,hsE⟩:=zZ S.ends (i:=b.toNat) (by omega);obtain⟨ea,en,ek,rfl⟩:=ye hfar.1;have hed:List.getD ed b.toNat (default:List LWd)=ed.getD b.toNat []:=rfl;rw[hed]at hfar;have e03:=e12.trans e23;have hN:0≤zd (Zr T F f) (yc F f)∧zd (Zr T F f) (yc F f)≤228:=by
  have:=O.par0;have:=O.parl;have:=O.many;have:=yQ (yc F f);unfold zd;omega
 have hl4:(ed.getD b.toNat []).length≤228:=by
  have:=Yf (N:=(zd (Zr T F f) (yc F f)).toNat) hoed.1 fun r q=>by have:=hoed.2 r q;omega
  omega
 refine go ?_;refine WO.con (zIG h3 _ _ hfar.1 (Z.ext e03) (by omega) E3.hm) ?_;rintro _ h5 ⟨⟨w,rfl,ow⟩,e5⟩;rw[YE hoed.1,if_pos rfl]at ow;rw[YE hoed.1,show errW true=0 from rfl];refine go ?_;refine rt ?_;rw[hn];refine⟨⟨w,zp (ed.getD b.toNat []),rfl,ow.since e03,fun h=>absurd rfl h,fun _=>⟨YT hoed.1,fun r=> ?_,hfix.the hnx,fun r hr=>⟨(InW.range hoed.1 ((y8 hoed.1).1 hr)).1,hoed.2 r ((y8 hoed.1).1 hr)⟩⟩⟩,e03.trans e5⟩;rw[y8 hoed.1];exact hfix.isE hb0 hb1
set_option maxRecDepth 1000000 in
theorem tb_ok:tb.Ok Tryz.prog where
 code:=fun _ _ h=>h
 stub:=fun f s hs=>by cases hs
 grow:=fun f s hs args h v h' hk=>by cases hs
end
end Go.Proofs.YtemggiegiejopaaGreatDoor
