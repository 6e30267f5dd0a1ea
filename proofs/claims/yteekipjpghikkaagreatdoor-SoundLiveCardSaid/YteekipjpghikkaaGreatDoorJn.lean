/- What functions of the program come to in the abstract machine, and plain laws about it; no statement of the seat is proved in this text. -/
import Derived.Test.YteekipjpghikkaaGreatDoorJm
import Derived.Test.YteekipjpghikkaaGreatDoorJl
set_option linter.unusedVariables false
set_option linter.unusedSimpArgs false
set_option maxHeartbeats 4000000
namespace Go.Proofs.YteekipjpghikkaaGreatDoor
noncomputable section
open Go.Am
set_option maxRecDepth 100000
theorem zML {h h':AHeap} (e:Ext (inC (zC 0 h)) h'):Ext h (ze h (inC h')):=⟨e.n,e.get,fun w=>e.wf w,rfl,fun _=>rfl⟩
theorem zTL {h h1 h2:AHeap} (e:Ext (inC (zC 0 h)) h1) (e2:Ext (inC h1) h2):Ext h (ze h (inC h2)):=⟨QV e.n e2.n,fun g hg=>(e2.get g (QG hg e.n)).trans (e.get g hg),fun w=>e2.wf (e.wf w),rfl,fun _=>rfl⟩
theorem zVN {h h1 h2 h3:AHeap} (e:Ext (inC (zC 0 h)) h1) (e2:Ext (inC h1) h2) (e3:Ext (inC h2) h3):Ext h (ze h (inC h3)):=⟨QV e.n (QV e2.n e3.n),fun g hg=>(e3.get g (QG hg (QV e.n e2.n))).trans ((e2.get g (QG hg e.n)).trans (e.get g hg)),fun w=>e3.wf (e2.wf (e.wf w)),rfl,fun _=>rfl⟩
theorem EnvL.inC {h:AHeap} {vt vf:Value} {T:List LType} {F:List LFn} (E:EnvL h vt vf T F):EnvL (inC h) vt vf T F:=⟨E.tt,QF _,E.sm,E.st,E.sf⟩
theorem zNd {h h1 h2:AHeap} {v:Value} {s:List LWd} (m:MineW (inC h1) h2 v s) (hn:h.n<=h1.n):MineW h (ze h (inC h2)) v s:=let ⟨b,hb,o⟩:=m;⟨b,QV hn hb,OwnR.upd o (fun _ _ _=>rfl) (QF _)⟩
theorem zQM {T:List LType} {F:List LFn} {f par:Int} {L:List LBlk} (O:FnOk T F f L par) {b:Int} (hb:0<=b/\b<(L.length:Int)) {i:Nat} (hi:i<(L.getD b.toNat default).ins.length):0<=Ya par L b+i/\Ya par L b+i<yK par L:=by
 have h1:zg (L.take (b.toNat+1))=zg (L.take b.toNat)+((L.getD b.toNat default).ins.length:Int):=by
  have e:L.take (b.toNat+1)=L.take b.toNat++[L.getD b.toNat default]:=by
   rw[GI,QE,QB (show b.toNat<L.length by omega)];rfl
  rw[e];unfold zg;rw[Gf,List.sum_append];simp
 have h2:=zHk L (b.toNat+1);have h3:=yp (L.take b.toNat);have:=O.par0;unfold Ya yK;omega
def zPl:ACode:=(oV (oV (oR [oM 42 9,oM 43 2,oB .geq 44 42 43]) (oT 44 0)) (oV (o5 1 (oV (o6 [oM 48 0,(⟨some 49,none,(.nilCheck (.tmp 48))⟩,[]),oF 0 50 49,oA 2 51 50,oM 52 0,(⟨some 53,none,(.nilCheck (.tmp 52))⟩,[]),oF 2 54 53,oL 55 54,oM 56 1,oM 57 9,o4 58 87 51 55 56 57,oM 47 58,oE 59 47 0,oE 60 47 1,oM 10 59,oM 11 60]) (o6 [oM 61 8,oM 62 10,o2 63 88 61 62,oF 0 64 7,(oL 65 64,[2]),oM 66 9,oI 7 67 65 66,(oA 7 68 67,[2]),o1 69 89 68,o2 70 85 63 69,oM 8 70]))) (oR [oM 45 9,oC .sub 46 45 1,oM 9 46])))
def zUa:ACode:=(oV (oR [oK 6 (.slice none 0 0)]) (oV (o6 [oM 12 0,(⟨some 13,none,(.nilCheck (.tmp 12))⟩,[]),oF 0 14 13,oF 1 15 14,oL 16 15,oM 17 0,(⟨some 18,none,(.nilCheck (.tmp 17))⟩,[]),oF 2 19 18,oL 20 19,oI 2 21 16 20,oF 1 22 21,oL 23 22,oM 24 1,oI 5 25 23 24,oA 5 26 25,(⟨some 7,none,(.alloc [(.slice none 0 0),(.int .u8 0),(.int .i64 0),(.int .i64 0),(.int .i64 0)])⟩,[]),oS 5 7 26]) (oV (o6 [oM 27 0,(⟨some 28,none,(.nilCheck (.tmp 27))⟩,[]),oF 4 29 28,oL 30 29,oM 31 1,oI 1 32 30 31,oL 33 32,oF 1 34 7,oA 4 35 34,(o1 36 86 35,[3,6]),o2 37 85 33 36,oM 8 37]) (oV (oV (oR [oF 0 38 7,oL 39 38,oQ 40 39,oC .sub 41 40 1,oM 9 41]) (o5 0 (.loop zPl))) (oV (oR [oM 71 8,oM 6 71]) .ret)))))
theorem zFs (hB h:AHeap) (X gp gb ge gm:Nat) (vt vf:Value) (T:List LType) (F:List LFn) (f par:Int) (L:List LBlk) (bg ed:Z6) (es:List (Int×Int)) (b:Int) (k:Nat) (S:FS hB h X gp gb ge gm vt vf f bg ed es) (E:EnvL h vt vf T F) (O:FnOk T F f L par)
  (U:∀ x∈L,BlkU x (yK par L) L.length) (hb:0<=b/\b<(L.length:Int)) (hk:k<=(L.getD b.toNat default).ins.length) (hl:ed.length=L.length) (oe:OkW (ed.getD b.toNat [])/\∀ r,inS ed b r->r<yK par L):
  WC Tryz.prog tb 50 [.pointer (some ⟨gp,0,none⟩),I b,I k] h fun r h'=>(∃ t,MineW h h' r t/\OkW t/\∀ n,InW t n↔ZH par L b k (inS ed b) n)/\Ext h h':=by
 have hF:=E.sm.funcs;have hN:0<=yK par L/\yK par L<=228:=by
  have:=O.par0;have:=O.parl;have:=O.many;have:=yp L;unfold yK;omega
 have hf0:=O.f0;have hf1:=O.f1;have hisL:=O.isL;have hlen:=O.len;have hbi:∀ {i:Nat},i<(L.getD b.toNat default).ins.length->0<=Ya par L b+i/\Ya par L b+i<yK par L:=fun hi=>zQM O hb hi;have hUb:=U _ (zI (l:=L) (i:=b.toNat) (by omega));have hib:((L.getD b.toNat default).ins.length:Int)<=128:=O.ins _ (zI (l:=L) (i:=b.toNat) (by omega));have hls:∀ (j:Nat) r,j<=(L.getD b.toNat default).ins.length->ZH par L b j (inS ed b) r->0<=r/\r<yK par L:=fun j r hj q=>by
  unfold ZH at q;refine zCb (fun x hx=>(hUb.ins x (List.mem_of_mem_drop hx)).uses) (fun r q=> ?_) q;rcases q with q|q
  ·exact hUb.ends r q
  ·exact⟨(InW.range oe.1 q).1,oe.2 r q⟩
 have hstep:∀ (j:Nat) r,j<(L.getD b.toNat default).ins.length->(ZH par L b j (inS ed b) r↔r∈Zx ((L.getD b.toNat default).ins.getD j default)\/(r≠Ya par L b+j/\ZH par L b (j+1) (inS ed b) r)):=fun j r hj=>zBy hj;have hfin:∀ r,ZH par L b (L.getD b.toNat default).ins.length (inS ed b) r↔r∈yW (L.getD b.toNat default).fin\/inS ed b r:=fun r=>zDA (QF _);obtain⟨ta,tn,tk,rfl⟩:=zJ E.st;obtain⟨ga,gn,gk,rfl⟩:=zJ E.sf;have o1:=S.own;refine en 72 [(6,none)] zUa ?_;refine WX.regionU2 1 rfl rfl ?_;have eA:Ext h (zC 1 h):=zc 1 h;have o1X:=o1.ext eA;have o1X:OwnC hB (inC (zC 1 h)) (.pointer (some ⟨gp,0,none⟩)) [.slice ta tn tk,.slice ga gn gk,I f,.slice (some ⟨gb,0,none⟩) bg.length 1,.slice (some ⟨ge,0,none⟩) ed.length 1,.map (some gm)]:=o1X;have sfX:=SlF.ext E.sf eA;have sfX:SlF (inC (zC 1 h)) (.slice ga gn gk) F:=sfX;obtain⟨csF,⟨vb,rfl,sb,hlb⟩,pcF,hsF⟩:=yG E.sf (i:=f.toNat) (by omega);obtain⟨ba,bn,bk,rfl⟩:=zJ sb;rw[<-hisL]at sb;have sbX:=SlB.ext sb eA;have sbX:SlB (inC (zC 1 h)) (.slice ba bn bk) L:=sbX;obtain⟨csB,⟨vi,rfl,si,hli⟩,pcB,hsB⟩:=yG sb (i:=b.toNat) (by omega);obtain⟨ia,iN,ik,rfl⟩:=zJ si;have pcFX:=(pcF _ eA).2;have pcBX:=(pcB _ eA).2;refine goU ?_;refine WU2.alE (X:=inC (zC 1 h)) (Ext.refl _) E.hm ?_;intro h1 p7 e1 o7;clear o1X sfX sbX pcFX pcBX;have S1:=S.ext e1;have E1:=E.ext e1;have o11:=S1.own;have si1:=SlN.ext si e1;generalize hBq:L.getD b.toNat default=B at *;have hstep:=Hid.mk hstep;have hfin:=Hid.mk hfin;have hls:=Hid.mk hls;have hbi:=Hid.mk (@hbi);refine go ?_;refine WX.regionU2 0 rfl rfl ?_;have o1X:OwnC hB (inC (zC 0 h1)) (.pointer (some ⟨gp,0,none⟩)) [.slice ta tn tk,.slice ga gn gk,I f,.slice (some ⟨gb,0,none⟩) bg.length 1,.slice (some ⟨ge,0,none⟩) ed.length 1,.map (some gm)]:=o11;have o7X:OwnC h (inC (zC 0 h1)) p7 [.slice ia iN ik,.int .u8 B.fin.kind,I B.fin.a,I B.fin.to,I B.fin.els]:=o7;have seX:SlR 1 (RSt X) (inC (zC 0 h1)) (.slice (some ⟨ge,0,none⟩) ed.length 1) ed:=S1.ends;obtain⟨csE,⟨ve,rfl,hfar⟩,pcE,hsE⟩:=yG S1.ends (i:=b.toNat) (by omega);have pcEX:=(pcE _ (Ext.refl _)).2;have pcEX:Piece (inC (zC 0 h1)) (.slice (some ⟨ge,0,none⟩) ed.length 1) (b.toNat * 1) [ve]:=pcEX;obtain⟨ea,en,ek,rfl⟩:=ZG hfar.1;refine goU ?_;refine WO.con (zEG (inC (zC 0 h1)) B.fin) ?_;rintro vl h2 ⟨ol,e2⟩;refine nE e2 ?_;have hm2:(inC h2).mark<=(inC h2).n:=QF _;have hfr2:∀ r,inS ed b r->r<((yK par L).toNat:Int):=fun r q=>by have:=oe.2 r q;omega
 have hel:=zAl oe.1 hfr2;have hul:(yW B.fin).length<=1:=by unfold yW;split<;>simp
 have ke:SlW (inC h2) (.slice ea en ek) (ed.getD b.toNat []):=by have:=SlW.ext hfar.1 (zML e2);exact this
 have sle:SlI (inC h2) vl (yW B.fin):=by have:=ol.sl;exact this
 refine goU ?_;refine WO.con (zG8 (inC h2) _ vl (ed.getD b.toNat []) (yW B.fin) ke sle oe.1 (fun n hn=>by have:=hUb.ends n hn;omega) (by omega) (by omega) hm2) ?_;rintro v8 h3 ⟨⟨t8,m8,o8,len8,mem8⟩,e3⟩;refine nE e3 ?_;have e13:Ext h1 (ze h1 (inC h3)):=zTL e2 e3;have m8:MineW h1 (ze h1 (inC h3)) v8 t8:=zNd m8 (by have:=e2.n;exact this);have mem8:∀ r,InW t8 r↔ZH par L b B.ins.length (inS ed b) r:=fun r=>by
  rw[mem8,hfin.out];exact Or.comm
 refine goU ?_;generalize ze h1 (inC h3)=h4 at e13 m8 |-;have e14:=e13;have e4:=e1.trans e13;have m8:=m8.since e1;clear e3 e2 ol sle ke pcE pcEX seX o1X o7X len8;have mem8:=Hid.mk mem8;have o8:=Hid.mk o8;have S4:=S.ext e4;have E4:=E.ext e4;have o74:=o7.ext (by exact(show Ext h1 h4 from e14));have si4:=SlN.ext si e4;obtain⟨w8n,w8k,w8l,rfl⟩:=ZG m8.sl;refine go ?_;refine WX.loopA [42,43,44,48,49,50,51,52,53,54,55,56,57,58,47,59,60,10,11,61,62,63,64,65,66,67,68,69,70,8,45,46,9] (by kernel_rfl) (fun j=>j) (fun j t h5=>∃ v s,zB t 9=I ((j:Int) - 1)/\k<=j/\j<=B.ins.length/\Ext h4 h5/\zB t 8=v/\MineW h h5 v s/\Hid (OkW s)/\Hid (∀ r,InW s r↔ZH par L b j (inS ed b) r)) B.ins.length ?_ ?_
 ·exact⟨_,t8,sl_,hk,QF _,Ext.refl _,sl_,m8,o8,mem8⟩
 clear m8 mem8 o8;rintro j t h5 hsame ⟨v,s,s9,hkj,hjl,e5,s8,ms,os,hs⟩;have e05:=e4.trans e5;have S5:=S4.ext e5;have E5:=E4.ext e5;have o75:=o74.ext e5;have si5:=SlN.ext si4 e5;obtain⟨wn,wk,wl,rfl⟩:=ZG ms.sl;have hsl:s.length<=228:=by
  have:=zAl (N:=(yK par L).toNat) os.out fun r q=>by
   have:=(hls.out j r hjl ((hs.out r).1 q)).2;omega
  omega
 refine go ?_;refine WX.br (fun hc=> ?_) (fun hc=> ?_)<;>simp only[DB]at hc
 ·obtain⟨i,rfl⟩:∃ i,j=i+1:=⟨j - 1,by omega⟩;have hi:i<B.ins.length:=by omega
  have hreg:=hbi.out hi;have hU:=hUb.ins _ (zI (l:=B.ins) hi);have hst:=fun r=>hstep.out i r hi;obtain⟨csx,hcsx,pcx,hsx⟩:=yG si5 hi;obtain⟨qa,qn,qk,hqv,hqb⟩:=zBY si5 hi;have hru:(Zx (B.ins.getD i default)).length<=22:=by
   have:=hU.args;unfold Zx yj;split
   ·simp
   ·simp only[QY];split<;>split<;>split<;>simp only[Q2,Gg]<;>omega
  have hrr:∀ r∈Zx (B.ins.getD i default),0<=r/\r<yK par L:=fun r hr=>hU.uses r (zFD hr);have hx20:=hU.args;generalize B.ins.getD i default=x at *;have hst:=Hid.mk hst;have hrr:=Hid.mk hrr;clear hU;refine go ?_;refine WX.regionU2 0 rfl rfl ?_;have o5X:OwnC hB (inC (zC 0 h5)) (.pointer (some ⟨gp,0,none⟩)) [.slice ta tn tk,.slice ga gn gk,I f,.slice (some ⟨gb,0,none⟩) bg.length 1,.slice (some ⟨ge,0,none⟩) ed.length 1,.map (some gm)]:=S5.own;refine goU ?_;refine WO.con (zSY (inC (zC 0 h5)) _ _ T F f L par E5.inC O b (((i+1:Nat):Int) - 1) hb (by rw[hBq];omega)) ?_;rintro _ h6 ⟨rfl,e6⟩;rw[show Ya par L b+(((i+1:Nat):Int) - 1)=Ya par L b+(i:Int) by omega];refine nE e6 ?_;refine goU ?_;have e57:Ext h5 (ze h5 (inC h6)):=zML e6;generalize ze h5 (inC h6)=h7 at e57 |-;clear e6 o5X;have ms7:=ms.ext e57;have ks7:=ms7.sl;have si7:=SlN.ext si5 e57;have o77:=o75.ext e57;have tt7:=E5.tt.ext e57;have e07:=e05.trans e57;have hqb7:qa.block<h7.n:=QG hqb e57.n;refine WX.regionU2 0 rfl rfl ?_;have ksX:SlW (inC (zC 0 h7)) (.slice wn wk wl) s:=ks7;refine goU ?_;refine WO.con (zJ2 (inC (zC 0 h7)) _ s (Ya par L b+i) ksX os.out (by omega) (by omega) (QF _)) ?_;rintro v8 h8 ⟨⟨t8,m8,o8,len8,mem8⟩,e8⟩;refine nE e8 ?_;have e78:Ext h7 (ze h7 (inC h8)):=zML e8;have o7Y:OwnC h (inC h8) p7 [.slice ia iN ik,.int .u8 B.fin.kind,I B.fin.a,I B.fin.to,I B.fin.els]:=by have:=o77.ext e78;exact this
  have siY:SlN (inC h8) (.slice ia iN ik) B.ins:=by have:=SlN.ext si7 e78;exact this
  have pcY:Piece (inC h8) (.slice ia iN ik) (i * 7) csx:=(pcx _ (e57.trans e78)).2;have hcsY:RIns (inC h8) csx x:=by have:=RIns.ext hcsx (e57.trans e78);exact this
  have ttY:Tbl (inC h8):=by have:=tt7.ext e78;exact this
  obtain⟨va,vf,rfl,sa,sf,ha1,ha2,ho1,ho2⟩:=id hcsY;have hii:(((i+1:Nat):Int) - 1).toNat=i:=by omega
  rw[<-hii]at pcY;refine goU ?_;refine zLF o77 (QF _) ?_;refine goU ?_;refine zTx ⟨qa,qn,qk,hqv,hqb7⟩ ?_;refine goU ?_;refine WO.con (zPQ (inC h8) x _ hcsY ttY hx20) ?_;rintro vr h9 ⟨or',e9⟩;refine nE e9 ?_;have k8:SlW (inC h9) v8 t8:=by have:=SlW.ext (h:=inC h8) (h':=h9) m8.sl e9;exact this
  have slr:SlI (inC h9) vr (Zx x):=by have:=or'.sl;exact this
  refine goU ?_;refine WO.con (zG8 (inC h9) _ _ t8 (Zx x) k8 slr o8 (fun n hn=>by have:=hrr.out n hn;omega) (by omega) (by omega) (QF _)) ?_;rintro v10 h10 ⟨⟨t10,m10,o10,len10,mem10⟩,e10⟩;refine nE e10 ?_;have e710:Ext h7 (ze h7 (inC h10)):=zVN e8 e9 e10;have m10:MineW h (ze h7 (inC h10)) v10 t10:=zNd m10 (by have h1:=e07.n;have h2:h7.n<=h8.n:=e8.n;have h3:h8.n<=h9.n:=e9.n;omega);refine goU ?_;generalize ze h7 (inC h10)=h11 at e710 m10 |-;refine go ?_;refine zA i (by omega) ⟨v10,t10,?_,by omega,by omega,e5.trans (e57.trans e710),sl_,m10,⟨o10⟩,⟨fun r=> ?_⟩⟩
  ·refine(sl_:zB _ 9=I ((((i+1:Nat):Int) - 1) - 1)).trans ?_;rw[show (((i+1:Nat):Int) - 1) - 1=(i:Int) - 1 by omega]
  ·rw[mem10,mem8,hs.out,hst.out];constructor
   ·rintro(⟨a,b⟩|c)
    ·exact .inr ⟨b,a⟩
    ·exact .inl c
   ·rintro(c|⟨b,a⟩)
    ·exact .inr c
    ·exact .inl ⟨a,b⟩
 ·have hjk:j=k:=by omega
  subst hjk;refine gr ?_;exact⟨⟨s,ms,os.out,hs.out⟩,e05⟩
set_option maxRecDepth 100000
theorem zGB {T:List LType} {F:List LFn} {f par:Int} {L:List LBlk} (O:FnOk T F f L par) {b:Int} (hb:0<=b/\b<(L.length:Int)):zD T F f b=(L,0):=by
 have h1:(Yc T F f).2=0:=by unfold Yc;rw[O.ask];rfl
 have hL:=O.isL;unfold zD;rw[QC (by omega),QC (by rw[<-hL];omega),<-hL]
theorem zP4 {T:List LType} {F:List LFn} {f par:Int} {L:List LBlk} (O:FnOk T F f L par) {b:Int} (hb:0<=b/\b<(L.length:Int)):Y4 T F f b=(nxL L b,0):=by
 unfold Y4;rw[zGB O hb];rfl
theorem zP7 {T:List LType} {F:List LFn} {f par:Int} {L:List LBlk} (O:FnOk T F f L par) {b:Int} (hb:0<=b/\b<(L.length:Int)):Zo T F f b=(zO L b L.length,0):=by
 unfold Zo;rw[zGB O hb];rfl
theorem zC1 {L:List LBlk} {b c:Int}:c∈zO L b L.length↔0<=c/\c<(L.length:Int)/\b∈nxL L c:=by
 unfold zO nxL;rw[Q0];constructor
 ·rintro⟨i,hi,rfl⟩;obtain⟨h1,h2⟩:=Ge.1 hi;rw[GF]at h1;exact⟨by omega,by omega,by simpa using h2⟩
 ·rintro⟨h0,h1,h2⟩;exact⟨c.toNat,Ge.2 ⟨GF.2 (by omega),by simpa using h2⟩,by omega⟩
theorem zFM (l:List Int) {i:Nat} (h:i<l.length):l.take (i+1)=l.take i++[l.getD i 0]:=by
 rw[GI];simp[List.getD,QB h]
theorem zNA {l:List Int} {i:Nat} (h:i<l.length):l.getD i 0∈l:=by
 rw[QE,QB h];exact JE h
theorem zKz {S:Z6} {P:List LWd->Prop} (h:∀ s∈S,P s) {i:Nat} (hi:i<S.length):P (S.getD i []):=by
 rw[QE,QB hi];exact h _ (JE hi)
theorem zLd {h h':AHeap} {v:Value} {l:List Int} {gm:Nat} (s:SlI h v l) (u:zFL (.map (some gm)) h h') (hx:∀ a n c,v= .slice (some a) n c->a.block≠gm):SlI h' v l:=by
 refine⟨s.1,s.2.imp id ?_⟩;rintro⟨g,off,row,rfl,hr,hc,hg⟩;have:=hx _ _ _ rfl;refine⟨g,off,row,rfl,?_,hc,QG hg u.1⟩;unfold zn at hr |-;rw[u.2 g hg (fun e=>by cases e;exact this rfl)];exact hr
def zOK:ACode:=(oV (oR [oB .lss 36 35 34]) (oV (oT 36 0) (oV (o5 1 (oV (oR [oI 1 37 33 35,oL 38 37,oM 8 38]) (oV (oR [oM 40 6,oM 41 0,⟨some 42,none,(.nilCheck (.tmp 41))⟩,oF 3 43 42,oL 44 43,oM 45 8,oI 1 46 44 45,oL 47 46,o2 48 133 40 47,oM 39 48,oE 49 39 0,oE 50 39 1,oM 6 49]) (o6 [oM 51 6,oM 52 0,(⟨some 53,none,(.nilCheck (.tmp 52))⟩,[]),oF 0 54 53,oF 1 55 54,oL 56 55,oM 57 0,(⟨some 58,none,(.nilCheck (.tmp 57))⟩,[]),oF 2 59 58,oL 60 59,oI 2 61 56 60,oF 1 62 61,oL 63 62,oM 64 8,oI 5 65 63 64,oA 5 66 65,oM 67 1,o2 68 134 66 67,o2 69 85 51 68,oM 6 69])))) (oR [oC .add 70 35 1,oM 35 70]))))
def zOd:ACode:=(oV (oR [oB .lss 113 112 111]) (oV (oT 113 2) (oV (o5 3 (oV (oR [oI 1 114 110 112,oL 115 114,oM 12 115]) (oR [oM 116 0,⟨some 117,none,(.nilCheck (.tmp 116))⟩,oF 5 118 117,oL 119 118,oM 120 12,oM 121 1,⟨none,none,(.update (.tmp 119) (.tmp 120) (.tmp 121))⟩]))) (oR [oC .add 122 112 1,oM 112 122]))))
def zTb:ACode:=(oV (o6 [oM 14 0,(⟨some 15,none,(.nilCheck (.tmp 14))⟩,[]),oF 0 16 15,oA 2 17 16,oM 18 0,(⟨some 19,none,(.nilCheck (.tmp 18))⟩,[]),oF 2 20 19,oL 21 20,oM 22 1,o3 23 81 17 21 22,oM 13 23,oE 24 13 0,oE 25 13 1,oM 4 24,oM 5 25]) (oV (oR [oM 26 0,⟨some 27,none,(.nilCheck (.tmp 26))⟩,oF 4 28 27,oL 29 28,oM 30 1,oI 1 31 29 30,oL 32 31,oM 6 32]) (oV (oV (oR [oM 33 4,oQ 34 33,oN 35 0]) (o5 0 (.loop zOK))) (oV (oR [oM 71 0,⟨some 72,none,(.nilCheck (.tmp 71))⟩,oF 4 73 72,oL 74 73,oM 75 1,oM 76 6,oI 1 77 74 75,oS 1 77 76]) (oV (oR [oM 78 0,oM 79 1,⟨some 80,none,(.call (.func 50) [(.tmp 78),(.tmp 79),(.const (.int .i64 0))])⟩,oM 6 80]) (oV (oV (oR [oM 81 6,oM 82 0,⟨some 83,none,(.nilCheck (.tmp 82))⟩,oF 3 84 83,oL 85 84,oM 86 1,oI 1 87 85 86,oL 88 87,o2 89 135 81 88]) (oJ 89 .ret .skip)) (oV (oR [oM 90 0,⟨some 91,none,(.nilCheck (.tmp 90))⟩,oF 3 92 91,oL 93 92,oM 94 1,oM 95 6,oI 1 96 93 94,oS 1 96 95]) (oV (o6 [oM 98 0,(⟨some 99,none,(.nilCheck (.tmp 98))⟩,[]),oF 0 100 99,oA 2 101 100,oM 102 0,(⟨some 103,none,(.nilCheck (.tmp 102))⟩,[]),oF 2 104 103,oL 105 104,oM 106 1,o3 107 19 101 105 106,oM 97 107,oE 108 97 0,oE 109 97 1,oM 9 108,oM 10 109]) (oV (oR [oM 110 9,oQ 111 110,oN 112 0]) (o5 2 (.loop zOd)))))))))))
theorem zSq (hB h:AHeap) (X gp gb ge gm:Nat) (vt vf:Value) (T:List LType) (F:List LFn) (f par:Int) (L:List LBlk) (bg ed:Z6) (es:List (Int×Int)) (b:Int) (S:FS hB h X gp gb ge gm vt vf f bg ed es) (E:EnvL hB vt vf T F) (O:FnOk T F f L par)
  (U:∀ x∈L,BlkU x (yK par L) L.length) (hb:0<=b/\b<(L.length:Int)) (lb:bg.length=L.length) (le:ed.length=L.length) (okb:∀ s∈bg,OkW s/\∀ r,InW s r->r<yK par L) (oke:∀ s∈ed,OkW s/\∀ r,InW s r->r<yK par L):
  WC Tryz.prog tb 84 [.pointer (some ⟨gp,0,none⟩),I b] h fun _ h'=>∃ s1 s es',FS hB h' X gp gb ge gm vt vf f (bg.set b.toNat s) (ed.set b.toNat s1) es'/\(OkW s1/\∀ r,InW s1 r->r<yK par L)/\(OkW s/\∀ r,InW s r->r<yK par L)/\
   (∀ r,InW s1 r↔inS ed b r\/zAU L (inS bg) b r)/\(∀ r,InW s r↔ZH par L b 0 (InW s1) r)/\((s=bg.getD b.toNat []/\es'=es)\/(s≠bg.getD b.toNat []/\(Zh es->Zh es')/\∀ c,c∈es'.map (·.1)↔c∈es.map (·.1)\/c∈zO L b L.length)):=by
 have hF:=E.sm.funcs;have hN:0<=yK par L/\yK par L<=228:=by
  have:=O.par0;have:=O.parl;have:=O.many;have:=yp L;unfold yK;omega
 have hf0:=O.f0;have hf1:=O.f1;have hisL:=O.isL;have hlen:=O.len;have hmB:=E.hm;have hnx:=zP4 O hb;have hpr:=zP7 O hb;have hUb:=U _ (zI (l:=L) (i:=b.toNat) (by omega));have hrange:∀ k∈nxL L b,0<=k/\k<(L.length:Int):=hUb.next;have hnl:(nxL L b).length<=2:=by unfold nxL Zk;split<;>(try split)<;>(try split)<;>simp
 have hpl:=Yp L b L.length;have hpm:∀ c,c∈zO L b L.length->0<=c/\c<(L.length:Int):=fun c hc=>let ⟨a,b,_⟩:=zC1.1 hc;⟨a,b⟩;obtain⟨ta,tn,tk,rfl⟩:=zJ E.st;obtain⟨ga,gn,gk,rfl⟩:=zJ E.sf;have E0:=E.ext S.e;have o1:=S.own;refine en 123 [] zTb ?_;refine WX.regionU2 0 rfl rfl ?_;have oX:OwnC hB (inC (zC 0 h)) (.pointer (some ⟨gp,0,none⟩)) [.slice ta tn tk,.slice ga gn gk,I f,.slice (some ⟨gb,0,none⟩) bg.length 1,.slice (some ⟨ge,0,none⟩) ed.length 1,.map (some gm)]:=o1;refine goU ?_;refine WO.con (zLJ (inC (zC 0 h)) _ _ T F f b E0.inC.tt (QF _) E0.sm E0.inC.st E0.inC.sf) ?_;rintro _ h1 ⟨⟨vn,rfl,sn,_⟩,e1⟩;rw[hnx]at sn |-;refine nE e1 ?_;refine goU ?_;have e01:Ext h (ze h (inC h1)):=zML e1;have sn2:SlI (ze h (inC h1)) vn (nxL L b):=sn;generalize ze h (inC h1)=h2 at e01 sn2 |-;clear sn e1 oX;have S2:=S.ext e01;have o2:=S2.own;have sE2:=S2.ends;obtain⟨csE,⟨ve,rfl,hfar⟩,pcE,hsE⟩:=yP S2.ends (i:=b.toNat) (by omega);obtain⟨ea,en,ek,rfl⟩:=ZG hfar.1;have hed:List.getD ed b.toNat (default:List LWd)=ed.getD b.toNat []:=rfl;rw[hed]at hfar;have oed:=zKz oke (i:=b.toNat) (by omega);refine go ?_;refine WX.loopA [36,37,38,8,40,41,42,43,44,45,46,47,48,39,49,50,6,51,52,53,54,55,56,57,58,59,60,61,62,63,64,65,66,67,68,69,6,70,35] (by kernel_rfl) (fun i=>(nxL L b).length - i) (fun i t h3=>∃ v s,zB t 35=I i/\i<=(nxL L b).length/\Ext h2 h3/\zB t 6=v/\FarW h3 X v s/\Hid (OkW s/\∀ r,InW s r->r<yK par L)/\Hid (∀ r,InW s r↔inS ed b r\/∃ k∈(nxL L b).take i,inS bg k r\/r∈zAv (L.getD k.toNat default) b)) 0 ?_ ?_
 ·exact⟨_,ed.getD b.toNat [],sl_,QW _,Ext.refl _,sl_,hfar,⟨oed⟩,⟨fun r=>by simp[inS]⟩⟩
 rintro i t h3 hsame ⟨v,s,s35,hi,e3,s6,hv,os,hs⟩;have S3:=S2.ext e3;have E3:=E.ext S3.e;have o3:=S3.own;have sn3:=SlI.ext sn2 e3;have hsl:s.length<=228:=by
  have:=zAl (N:=(yK par L).toNat) os.out.1 fun r q=>by have:=os.out.2 r q;omega
  omega
 obtain⟨wa,wn,wk,rfl⟩:=ZG hv.1;refine go ?_;refine WX.br (fun hc=> ?_) (fun hc=> ?_)<;>simp only[DB]at hc
 ·have hi':i<(nxL L b).length:=by omega
  have hk:=hrange _ (zNA hi');have htk:=zFM (nxL L b) hi';have sB3:=S3.begs;obtain⟨csB,⟨vb,rfl,hfb⟩,pcB,hsB⟩:=yP S3.begs (i:=((nxL L b).getD i 0).toNat) (by omega);obtain⟨xa,xn,xk,rfl⟩:=ZG hfb.1;have obk:=zKz okb (i:=((nxL L b).getD i 0).toNat) (by omega);have hbd:List.getD bg ((nxL L b).getD i 0).toNat (default:List LWd)=bg.getD ((nxL L b).getD i 0).toNat []:=rfl;rw[hbd]at hfb;have hbl:(bg.getD ((nxL L b).getD i 0).toNat []).length<=228:=by
   have:=zAl (N:=(yK par L).toNat) obk.1 fun r q=>by have:=obk.2 r q;omega
   omega
  have hUk:=U _ (zI (l:=L) (i:=((nxL L b).getD i 0).toNat) (by omega));have hbm:=O.ins _ (zI (l:=L) (i:=((nxL L b).getD i 0).toNat) (by omega));have hm3:h3.mark<=h3.n:=E3.hm;refine go ?_;refine WO.con (zTF h3 _ _ s _ hv.1 hfb.1 (by omega) (by omega) hm3) ?_;rintro _ h4 ⟨⟨v4,rfl,m4⟩,e4⟩;rw[zEl os.out.1 obk.1];rw[zFK os.out.1 obk.1]at m4;obtain⟨oo,io⟩:=zTG os.out.1 obk.1;have hlo:=ZU (fun a b=>a|||b) s (bg.getD ((nxL L b).getD i 0).toNat []);obtain⟨s4,hs4⟩:∃ s4,s4=zq (fun a b=>a|||b) s (bg.getD ((nxL L b).getD i 0).toNat []):=⟨_,rfl⟩;have hor:∀ r,InW s4 r↔InW s r\/inS bg ((nxL L b).getD i 0) r:=fun r=>by
   rw[hs4,<-YS,io,Q7,YS,YS];exact Iff.rfl
  have oo:OkW s4:=by rw[hs4];exact oo
  rw[<-hs4]at m4 hlo;clear hs4 io;have k4:=m4.sl;obtain⟨ya,yn,yk,rfl⟩:=ZG k4;have hX3:=S3.hX;have hor:=Hid.mk hor;have hfar4:=m4.far hX3;clear m4 hfb pcB hsB sB3;have S4:=S3.ext e4;have E4:=E.ext S4.e;have o4:=S4.own;have sf4:=E4.sf;refine go ?_;refine WX.regionU2 0 rfl rfl ?_;have oX:OwnC hB (inC (zC 0 h4)) (.pointer (some ⟨gp,0,none⟩)) [.slice ta tn tk,.slice ga gn gk,I f,.slice (some ⟨gb,0,none⟩) bg.length 1,.slice (some ⟨ge,0,none⟩) ed.length 1,.map (some gm)]:=o4;have sfX:SlF (inC (zC 0 h4)) (.slice ga gn gk) F:=sf4;obtain⟨csF,⟨vbl,rfl,sb,hlb⟩,pcF,hsF⟩:=yG sf4 (i:=f.toNat) (by omega);obtain⟨ba,bn,bk,rfl⟩:=zJ sb;rw[<-hisL]at sb;have sbX:SlB (inC (zC 0 h4)) (.slice ba bn bk) L:=sb;obtain⟨csK,hcsK,pcK,hsK⟩:=yG sb (i:=((nxL L b).getD i 0).toNat) (by omega);have hcsK0:=hcsK;have pcFX:=(pcF _ (Ext.refl _)).2;have pcFX:Piece (inC (zC 0 h4)) (.slice ga gn gk) (f.toNat * 2) [I (F.getD f.toNat default).sig,.slice ba bn bk]:=pcFX;have pcKX:=(pcK _ (Ext.refl _)).2;obtain⟨vi,rfl,si,hli⟩:=hcsK0;obtain⟨ia,iN,ik,rfl⟩:=zJ si;have pcKX:Piece (inC (zC 0 h4)) (.slice ba bn bk) (((nxL L b).getD i 0).toNat * 5) [.slice ia iN ik,.int .u8 (L.getD ((nxL L b).getD i 0).toNat default).fin.kind,I (L.getD ((nxL L b).getD i 0).toNat default).fin.a,I (L.getD ((nxL L b).getD i 0).toNat default).fin.to,I (L.getD ((nxL L b).getD i 0).toNat default).fin.els]:=pcKX;have hcsX:RBlk (inC (zC 0 h4)) [.slice ia iN ik,.int .u8 (L.getD ((nxL L b).getD i 0).toNat default).fin.kind,I (L.getD ((nxL L b).getD i 0).toNat default).fin.a,I (L.getD ((nxL L b).getD i 0).toNat default).fin.to,I (L.getD ((nxL L b).getD i 0).toNat default).fin.els] (L.getD ((nxL L b).getD i 0).toNat default):=hcsK;refine goU ?_;refine WO.con (zQ2 (inC (zC 0 h4)) (L.getD ((nxL L b).getD i 0).toNat default) _ b hcsX hbm (fun x hx=>(hUk.ins x hx).frm) (fun x hx e=>((hUk.ins x hx).phi e).1)) ?_;rintro vp h5 ⟨op,e5⟩;refine nE e5 ?_;have hpl2:(zAv (L.getD ((nxL L b).getD i 0).toNat default) b).length<=2560:=by
   have:=zEm (L.getD ((nxL L b).getD i 0).toNat default).ins b fun x hx=>(hUk.ins x hx).frm;have h2:(zAv (L.getD ((nxL L b).getD i 0).toNat default) b).length<=20 * (L.getD ((nxL L b).getD i 0).toNat default).ins.length:=this;omega
  have hpr2:∀ r∈zAv (L.getD ((nxL L b).getD i 0).toNat default) b,0<=r/\r<yK par L:=fun r hr=>zS4 hUk hr;have k5:SlW (inC h5) (.slice ya yn yk) s4:=by have:=SlW.ext k4 (zML e5);exact this
  have sp5:SlI (inC h5) vp (zAv (L.getD ((nxL L b).getD i 0).toNat default) b):=by have:=op.sl;exact this
  refine goU ?_;refine WO.con (zG8 (inC h5) _ _ s4 (zAv (L.getD ((nxL L b).getD i 0).toNat default) b) k5 sp5 oo (fun n hn=>by have:=hpr2 n hn;omega) (by omega) (by omega) (QF _)) ?_;rintro v6 h6 ⟨⟨t6,m6,o6,len6,mem6⟩,e6⟩;refine nE e6 ?_;have e46:Ext h4 (ze h4 (inC h6)):=zTL e5 e6;have m6:MineW h4 (ze h4 (inC h6)) v6 t6:=zNd m6 (by have:=e5.n;exact this);have hX4:=S4.hX;refine goU ?_;have hfar6:=m6.far hX4;generalize ze h4 (inC h6)=h7 at e46 m6 hfar6 |-;refine go ?_;refine zA (i+1) (by omega) ⟨v6,t6,sln,by omega,e3.trans (e4.trans e46),sl_,hfar6,⟨o6,fun r q=> ?_⟩,⟨fun r=> ?_⟩⟩
  ·rcases(mem6 r).1 q with q|q
   ·rcases(hor.out r).1 q with q|q
    ·exact os.out.2 r q
    ·exact obk.2 r q
   ·exact(hpr2 r q).2
  ·rw[mem6,hor.out,hs.out,htk];constructor
   ·rintro(((a|⟨k,hk,q⟩)|c)|d)
    ·exact .inl a
    ·exact .inr ⟨k,Qf.2 (.inl hk),q⟩
    ·exact .inr ⟨_,Qf.2 (.inr (QS.2 rfl)),.inl c⟩
    ·exact .inr ⟨_,Qf.2 (.inr (QS.2 rfl)),.inr d⟩
   ·rintro(a|⟨k,hk,q⟩)
    ·exact .inl (.inl (.inl a))
    ·rcases Qf.1 hk with hk|hk
     ·exact .inl (.inl (.inr ⟨k,hk,q⟩))
     ·rw[QS]at hk;subst hk;exact q.elim (fun c=> .inl (.inr c)) .inr
 ·have hil:i=(nxL L b).length:=by omega
  subst hil;rw[GN]at hs;have sE3:=S3.ends;have hsets:∀ x:List LWd,(ed.set b.toNat x).getD b.toNat []=x:=fun x=>by
   rw[QE,JM (by omega)];rfl
  refine go ?_;refine WO.stRow (i:=b.toNat) S3.se S3.e S3.de S3.hX (by omega) hv ?_;intro h4 e4 r4 n4 k4;have S4:=S3.setE e4 r4 (by rw[GJ]) (by omega) k4;have E4:=E.ext e4;have hE:inS (ed.set b.toNat s) b=InW s:=by funext r;unfold inS;rw[hsets]
  have hat:WC Tryz.prog tb 50 [.pointer (some ⟨gp,0,none⟩),I b,I 0] h4 _:=zFs hB h4 X gp gb ge gm _ _ T F f par L bg (ed.set b.toNat s) es b 0 S4 E4 O U hb (QW _) (by rw[GJ];exact le) (by rw[hsets,hE];exact os.out);refine go ?_;refine WO.con hat ?_;rintro v5 h5 ⟨⟨t5,m5,o5,mem5⟩,e5⟩;rw[hE]at mem5;clear hat;have S5:=S4.ext e5;have E5:=E4.ext e5;have k5:=m5.sl;have hX4:=S4.hX;have far5:=m5.far hX4;obtain⟨ya,yn,yk,rfl⟩:=ZG k5;have o5p:=S5.own;have sB5:=S5.begs;obtain⟨csB,⟨vb,rfl,hfb⟩,pcB,hsB⟩:=yP S5.begs (i:=b.toNat) (by omega);obtain⟨xa,xn,xk,rfl⟩:=ZG hfb.1;have hbd:List.getD bg b.toNat (default:List LWd)=bg.getD b.toNat []:=rfl;rw[hbd]at hfb;have hlt:∀ r,InW t5 r->r<yK par L:=fun r q=>by
   have q:=(mem5 r).1 q;unfold ZH at q;exact(zCb (fun x hx=>(hUb.ins x (List.mem_of_mem_drop hx)).uses) (fun r q=>q.elim (fun q=>hUb.ends r q) fun q=>⟨(InW.range os.out.1 q).1,os.out.2 r q⟩) q).2
  have ht5:t5.length<=228:=by
   have:=zAl (N:=(yK par L).toNat) o5 fun r q=>by have:=hlt r q;omega
   omega
  have mem5:=Hid.mk mem5;have hlt:=Hid.mk hlt;have hs':Hid (∀ r,InW s r↔inS ed b r\/zAU L (inS bg) b r):=⟨hs.out⟩;refine go ?_;refine WO.con (zQT h5 _ _ t5 (bg.getD b.toNat []) k5 hfb.1 (by omega)) ?_;rintro _ _ ⟨rfl,rfl⟩;by_cases heq:t5=bg.getD b.toNat []
  ·rw[QX heq];refine gr ?_;refine⟨s,t5,es,?_,os.out,⟨o5,hlt.out⟩,hs'.out,mem5.out,.inl ⟨heq,rfl⟩⟩;have hself:bg.set b.toNat t5=bg:=by
    rw[heq,QE,QB (show b.toNat<bg.length by omega)];exact List.set_getElem_self _
   rw[hself];exact S5
  ·rw[QR heq];refine go ?_;refine WO.stRow (i:=b.toNat) S5.sb S5.e S5.db S5.hX (by omega) far5 ?_;intro h6 e6 r6 n6 k6;have S6:=S5.setB e6 r6 (by rw[GJ]) (by omega) k6;have E6:=E.ext e6;have o6p:=S6.own;clear sB5 pcB hfb hsB far5 k5 o5p S5 S4 S3 sE3;refine go ?_;refine WX.regionU2 0 rfl rfl ?_;have oX:OwnC hB (inC (zC 0 h6)) (.pointer (some ⟨gp,0,none⟩)) [.slice ta tn tk,.slice ga gn gk,I f,.slice (some ⟨gb,0,none⟩) (bg.set b.toNat t5).length 1,.slice (some ⟨ge,0,none⟩) (ed.set b.toNat s).length 1,.map (some gm)]:=o6p;refine goU ?_;refine WO.con (zId (inC (zC 0 h6)) _ _ T F f b E6.inC.tt (QF _) E6.sm E6.inC.st E6.inC.sf) ?_;rintro _ h7 ⟨⟨vp,rfl,op⟩,e7⟩;rw[hpr]at op |-;refine nE e7 ?_;refine goU ?_;have e67:Ext h6 (ze h6 (inC h7)):=zML e7;have sp:SlI (ze h6 (inC h7)) vp (zO L b L.length):=by have:=op.sl;exact this
   have hpX:∀ a n c,vp= .slice (some a) n c->a.block≠gm:=fun a n c e=>by
    rcases op with ⟨q,_⟩|⟨q,q1,q2,q3,q4⟩
    ·rw[q]at e;cases e
    ·rw[q3]at e;cases e;have h1:h6.n<=q:=q1;have:=S6.hX;have:=S6.dm.2;show q≠gm;omega
   generalize ze h6 (inC h7)=h8 at e67 sp |-;have S8:=S6.ext e67;have hpl16:(zO L b L.length).length<=16:=by omega
   generalize hA:zO L b L.length=A at *;refine go ?_;refine WX.loopA [113,114,115,12,116,117,118,119,120,121,122,112] (by kernel_rfl) (fun i=>A.length - i) (fun i t h9=>∃ es',zB t 112=I i/\i<=A.length/\FS hB h9 X gp gb ge gm (.slice ta tn tk) (.slice ga gn gk) f (bg.set b.toNat t5) (ed.set b.toNat s) es'/\SlI h9 vp A/\Hid ((Zh es->Zh es')/\∀ c,c∈es'.map (·.1)↔c∈es.map (·.1)\/c∈A.take i)) 0 ?_ ?_
   ·exact⟨es,sl_,QW _,S8,sp,⟨id,fun c=>by simp⟩⟩
   rintro i t9 h9 hsame9 ⟨es',s112,hi9,S9,sp9,hK⟩;have o9:=S9.own;refine go ?_;refine WX.br (fun hc9=> ?_) (fun hc9=> ?_)<;>simp only[DB]at hc9
   ·have hi':i<A.length:=by omega
    have htk:=zFM A hi';refine go ?_;refine WO.upM S9.rm S9.e ?_;intro h10 e10 o10 u10;have S10:=S9.setM e10 o10 u10;have sp10:=zLd sp9 u10 hpX;refine go ?_;refine zA (i+1) (by omega) ⟨_,sln,by omega,S10,sp10,⟨fun q=>zDF (hK.out.1 q),fun c=> ?_⟩⟩;rw[zCx,hK.out.2,htk,Qf,QS];constructor
    ·rintro(a|a|a)
     ·exact .inr (.inr a)
     ·exact .inl a
     ·exact .inr (.inl a)
    ·rintro(a|a|a)
     ·exact .inr (.inl a)
     ·exact .inr (.inr a)
     ·exact .inl a
   ·refine go ?_;refine rtN ?_;rw[show i=A.length by omega,GN]at hK;exact⟨s,t5,es',S9,os.out,⟨o5,hlt.out⟩,hs'.out,mem5.out,.inr ⟨heq,hK.out.1,hK.out.2⟩⟩
set_option maxRecDepth 100000
theorem zIj (v:Value):∀ n,zW [v] n=List.replicate n v
 |0=>rfl
 |n+1=>by rw[zW,zIj v n];rfl
theorem zPi {es:List (Int×Int)} (h:∀ c,c∉es.map (·.1)):es=[]:=by
 cases es with
 |nil=>rfl
 |cons e es=>exact absurd (Q0.2 ⟨e,QT ..,rfl⟩) (h e.1)
def zOy:ACode:=(oV (oR [oB .lss 32 31 30]) (oV (oT 32 0) (oV (o5 1 (oV (oR [oM 33 31,oM 8 33]) (oR [oM 34 6,⟨some 35,none,(.nilCheck (.tmp 34))⟩,oF 5 36 35,oL 37 36,oM 38 8,oM 39 8,⟨none,none,(.update (.tmp 37) (.tmp 38) (.tmp 39))⟩]))) (oR [oC .add 40 31 1,oM 31 40]))))
def zOD:ACode:=(oV (oR [oB .lss 49 48 47]) (oV (oT 49 4) (oV (o5 5 (oV (oR [oM 50 48,oM 9 50]) (oV (oR [oM 52 6,⟨some 53,none,(.nilCheck (.tmp 52))⟩,oF 5 54 53,oL 55 54,oM 56 9,⟨some 57,none,(.lookup true (.int .i64 0) (.tmp 55) (.tmp 56))⟩,oM 51 57,oE 58 51 0,oE 59 51 1,oM 10 58,oM 11 59]) (oV (oR [oM 60 11]) (oJ 60 (oV (oR [oM 61 6,⟨some 62,none,(.nilCheck (.tmp 61))⟩,oF 5 63 62,oL 64 63,oM 65 9,⟨none,none,(.delete (.tmp 64) (.tmp 65))⟩]) (oR [oM 66 7,oM 67 9,⟨some 68,none,(.call (.tmp 66) [(.tmp 67)])⟩])) .skip))))) (oR [oC .add 69 48 1,oM 48 69]))))
def zPg:ACode:=(oV (oV (oR [oM 41 6,⟨some 42,none,(.nilCheck (.tmp 41))⟩,oF 5 43 42,oL 44 43,⟨some 45,none,(.lenMap (.tmp 44))⟩,oC .gtr 46 45 0]) (oT 46 2)) (o5 3 (oV (oR [oM 47 5,oN 48 0]) (o5 4 (.loop zOD)))))
def zT7:ACode:=(oV (oR [oX 2 0,oK 4 (.pointer none)]) (oV (oR [oF 1 12 2,oL 13 12,oM 14 1,oI 2 15 13 14,oF 1 16 15,oL 17 16,oQ 18 17,oM 5 18]) (oV (o6 [oA 2 19 2,oM 20 1,oM 21 5,(⟨some 22,none,(.mkSlice 1 [(.slice none 0 0)] (.tmp 21) (.tmp 21))⟩,[]),oM 23 5,(⟨some 24,none,(.mkSlice 1 [(.slice none 0 0)] (.tmp 23) (.tmp 23))⟩,[]),(⟨some 25,none,.mkMap⟩,[]),(⟨some 26,none,(.build [(.slice none 0 0),(.slice none 0 0),(.int .i64 0),(.slice none 0 0),(.slice none 0 0),(.map none)] [(0,2,(.tmp 19)),(2,1,(.tmp 20)),(3,1,(.tmp 22)),(4,1,(.tmp 24)),(5,1,(.tmp 25))])⟩,[]),oX 27 26,oM 6 27]) (oV (oR [oM 28 6,⟨some 29,none,(.mkFunc (.func 84) [(.tmp 28)] [])⟩,oM 7 29]) (oV (oV (oR [oM 30 5,oN 31 0]) (o5 0 (.loop zOy))) (oV (o5 2 (.loop zPg)) (oV (oR [oM 70 6,⟨some 71,none,(.nilCheck (.tmp 70))⟩,oF 5 72 71,oL 73 72,⟨none,none,(.clear (.tmp 73))⟩]) (oV (oR [oM 74 6,oM 4 74]) .ret))))))))
theorem zMX (h:AHeap) (vt vf:Value) (T:List LType) (F:List LFn) (f par:Int) (L:List LBlk) (E:EnvL h vt vf T F) (O:FnOk T F f L par) (U:∀ x∈L,BlkU x (yK par L) L.length):
  WC Tryz.prog tb 49 [.agg #[vt,vf],I f] h fun r h'=>∃ X gp gb ge gm bg ed,r= .pointer (some ⟨gp,0,none⟩)/\FS h h' X gp gb ge gm vt vf f bg ed []/\LFix par L (inS bg) (inS ed)/\bg.length=L.length/\ed.length=L.length/\(∀ s∈bg,OkW s/\∀ r,InW s r->r<yK par L)/\(∀ s∈ed,OkW s/\∀ r,InW s r->r<yK par L):=by
 have hF:=E.sm.funcs;have hN:0<=yK par L/\yK par L<=228:=by
  have:=O.par0;have:=O.parl;have:=O.many;have:=yp L;unfold yK;omega
 have hf0:=O.f0;have hf1:=O.f1;have hisL:=O.isL;have hlen:=O.len;have hm:=E.hm;obtain⟨ta,tn,tk,rfl⟩:=zJ E.st;obtain⟨ga,gn,gk,rfl⟩:=zJ E.sf;refine en 75 [(4,none)] zT7 ?_;refine WO.bx ?_;intro p2 h1 e1 o2;have E1:=E.ext e1;have sf1:=E1.sf;obtain⟨csF,⟨vb,rfl,sb,hlb⟩,pcF,hsF⟩:=yP (i:=f.toNat) sf1 (by omega);obtain⟨ba,bn,bk,rfl⟩:=zJ sb;rw[<-hisL]at sb;refine go ?_;refine WX.regionU2 4 rfl rfl ?_;have eA:Ext h1 (zC 4 h1):=zc 4 h1;have oX:=o2.ext eA;have oX:OwnC h (inC (zC 4 h1)) p2 [.slice ta tn tk,.slice ga gn gk]:=oX;have hm1:h1.mark<=h1.n:=E1.hm;refine goU ?_;refine WU2.mkSl (n:=L.length) hm1 (by omega) ?_;intro X1 n1 g1;refine goU ?_;refine WU2.mkSl (n:=L.length) (by omega) (by omega) ?_;intro X2 n2 g2;refine WU2.mkMp (by omega) ?_;intro X3 n3 g3;refine goU ?_;refine WU2.mkBx (cs:=[.slice ta tn tk,.slice ga gn gk,I f,.slice (some ⟨h1.n,0,none⟩) L.length 1,.slice (some ⟨h1.n+1,0,none⟩) L.length 1,.map (some (h1.n+1+1))]) (by omega) ?_;intro X4 n4 g4;refine goU ?_;have hn4:X4.n=h1.n+4:=by rw[n4,n3,n2,n1];rfl
 have gall:∀ j,X4.get j=if j=h1.n+3 then some (.row [.slice ta tn tk,.slice ga gn gk,I f,.slice (some ⟨h1.n,0,none⟩) L.length 1,.slice (some ⟨h1.n+1,0,none⟩) L.length 1,.map (some (h1.n+2))] true 0) else if j=h1.n+2 then some (.map [] 0) else if j=h1.n+1 then some (.row (List.replicate L.length (.slice none 0 0)) true 0) else if j=h1.n then some (.row (List.replicate L.length (.slice none 0 0)) true 0) else h1.get j:=fun j=>by
  rw[g4,g3,g2,g1,zIj];rfl
 have eH:Ext h1 (ze h1 (inC X4)):=⟨by show h1.n<=X4.n;omega,fun j hj=>by show X4.get j=_;rw[gall,QC (by omega),QC (by omega),QC (by omega),QC (by omega)],fun w j hj=>by
  have hj:X4.n<=j:=hj;show X4.get j=_;rw[gall,QC (by omega),QC (by omega),QC (by omega),QC (by omega)];exact w j (by omega),rfl,fun _=>rfl⟩
 have hrow:∀ H:AHeap,RowS H (h1.n+4) (h1.n) (List.replicate L.length [])->True:=fun _ _=>trivial;have hfn:∀ (H:AHeap) (g:Nat),H.get g=some (.row (List.replicate L.length (.slice none 0 0)) true 0)->RowS H (h1.n+4) g (List.replicate L.length []):=fun H g hg=>⟨_,hg,by simp,fun i hi=>by
  rw[Gc]at hi;rw[QE,Gu,QH hi,QE,Gu,QH hi];exact FarW.nil⟩
 have S0:FS h (ze h1 (inC X4)) (h1.n+4) (h1.n+3) h1.n (h1.n+1) (h1.n+2) (.slice ta tn tk) (.slice ga gn gk) f (List.replicate L.length []) (List.replicate L.length []) []:=by
  have hh:=e1.n;refine⟨e1.trans eH,by show h1.n+4<=X4.n;omega,⟨by omega,by omega⟩,⟨by omega,by omega⟩,⟨by omega,by omega⟩,⟨by omega,by omega⟩,⟨by omega,by omega,by omega,by omega,by omega,by omega⟩,?_,hfn _ _ ?_,hfn _ _ ?_,⟨h1.n+2,0,[],by omega,by show h1.n+2<X4.n;omega,rfl,?_,rfl⟩⟩
  ·show X4.get _=_;rw[gall,QH rfl,Gc]
  ·show X4.get _=_;rw[gall,QC (by omega),QC (by omega),QC (by omega),QH rfl]
  ·show X4.get _=_;rw[gall,QC (by omega),QC (by omega),QH rfl]
  ·show X4.get _=_;rw[gall,QC (by omega),QH rfl]
 clear gall g1 g2 g3 g4 n1 n2 n3 n4 hfn hrow hn4 oX eA;have w0:=WInv.start par L (yK par L) (K:=fun c=>0<=c/\c<(L.length:Int)) (fun b h1 h2=>⟨h1,h2⟩);generalize hX:h1.n+4=X at S0;generalize hgp:h1.n+3=gp at S0 |-;generalize hgb:h1.n=gb at S0;generalize hge:gb+1=ge at S0;generalize hgm:gb+2=gm at S0;generalize ze h1 (inC X4)=h2 at S0 |-;have hVs:∀ es:List (Int×Int),OwnM h h2 (.map (some gm)) es->True:=fun _ _=>trivial;clear hVs hX hgp hgb hge hgm eH;have o3:=S0.own;refine go ?_;refine WX.loopA [32,33,8,34,35,36,37,38,39,40,31] (by kernel_rfl) (fun i=>L.length - i) (fun i t h3=>∃ es,zB t 31=I i/\i<=L.length/\FS h h3 X gp gb ge gm (.slice ta tn tk) (.slice ga gn gk) f (List.replicate L.length []) (List.replicate L.length []) es/\Hid (Zh es/\∀ c,c∈es.map (·.1)↔0<=c/\c<(i:Int))) 0 ?_ ?_
 ·exact⟨[],sl_,QW _,S0,⟨by unfold Zh;simp,fun c=>by simp⟩⟩
 clear S0 o3;rintro i t h3 hsame ⟨es,s31,hi,S,hK⟩;have o3:=S.own;refine go ?_;refine WX.br (fun hc=> ?_) (fun hc=> ?_)<;>simp only[DB]at hc
 ·refine go ?_;refine WO.upM S.rm S.e ?_;intro h4 e4 o4 u4;have S4:=S.setM e4 o4 u4;refine go ?_;refine zA (i+1) (by omega) ⟨_,sln,by omega,S4,⟨zDF hK.out.1,fun c=> ?_⟩⟩;rw[zCx,hK.out.2];omega
 have hil:i=L.length:=by omega
 subst hil;have w1:WInv par L (yK par L) (List.replicate L.length []) (List.replicate L.length []) (fun c=>c∈es.map (·.1)):=WInv.start par L (yK par L) (fun c h1 h2=>(hK.out.2 c).2 ⟨h1,h2⟩);have hkr:∀ c∈es.map (·.1),0<=c/\c<(L.length:Int):=fun c hc=>(hK.out.2 c).1 hc;have hnxr:∀ c,0<=c->c<(L.length:Int)->∀ k∈nxL L c,0<=k/\k<(L.length:Int):=fun c h1 h2=>(U _ (zI (l:=L) (i:=c.toNat) (by omega))).next;have hnxr:=Hid.mk hnxr;have w1:=Hid.mk w1;have hK1:=Hid.mk (And.intro hK.out.1 hkr);clear hK hkr w0;refine go ?_;refine WX.loopA [41,42,43,44,45,46,47,48,49,50,9,52,53,54,55,56,57,51,58,59,10,11,60,61,62,63,64,65,66,67,68,69,48] (by kernel_rfl) (fun x:Z6×Z6×List (Int×Int)=>2 * (L.length * (yK par L).toNat - YX x.1)+(if x.2.2.length=0 then 0 else 1)) (fun x t h4=>FS h h4 X gp gb ge gm (.slice ta tn tk) (.slice ga gn gk) f x.1 x.2.1 x.2.2/\Hid (Zh x.2.2/\∀ c∈x.2.2.map (·.1),0<=c/\c<(L.length:Int))/\Hid (WInv par L (yK par L) x.1 x.2.1 (fun c=>c∈x.2.2.map (·.1)))) (List.replicate L.length [],List.replicate L.length [],es) ?_ ?_
 ·exact⟨S,hK1,w1⟩
 clear S hK1 w1 o3;rintro⟨bg0,ed0,es0⟩ t4 h4 hsame4 ⟨S,hK,hW⟩;simp only at S hK hW;have o4:=S.own;refine go ?_;refine WO.lnM S.rm ?_;refine go ?_;refine WX.br (fun hc=> ?_) (fun hc=> ?_)<;>simp only[DB]at hc
 ·refine go ?_;refine WX.loopA [49,50,9,52,53,54,55,56,57,51,58,59,10,11,60,61,62,63,64,65,66,67,68,69,48] (by kernel_rfl) (fun i=>L.length - i) (fun i t h5=>∃ bg ed es,zB t 48=I i/\i<=L.length/\FS h h5 X gp gb ge gm (.slice ta tn tk) (.slice ga gn gk) f bg ed es/\Hid (Zh es/\∀ c∈es.map (·.1),0<=c/\c<(L.length:Int))/\Hid (WInv par L (yK par L) bg ed (fun c=>c∈es.map (·.1)))/\Hid (YX bg0<YX bg\/(YX bg0=YX bg/\∀ c∈es.map (·.1),(i:Int)<=c))) 0 ?_ ?_
  ·exact⟨bg0,ed0,es0,sl_,QW _,S,hK,hW,⟨.inr ⟨rfl,fun c hc=>(hK.out.2 c hc).1⟩⟩⟩
  have hc0:es0.length≠0:=by omega
  clear S o4 hK;rintro i t5 h5 hsame5 ⟨bg,ed,es,s48,hi,S,hK,hW5,hM⟩;have o5:=S.own;refine go ?_;refine WX.br (fun hc5=> ?_) (fun hc5=> ?_)<;>simp only[DB]at hc5
  ·refine go ?_;refine WO.lkM S.rm ?_;by_cases hin:(i:Int)∈es.map (·.1)
   ·obtain⟨w,hw⟩:∃ w,es.lookup (i:Int)=some w:=by
     cases hl:es.lookup (i:Int)with
     |none=>exact absurd hl (look_mem.2 hin)
     |some w=>exact⟨w,rfl⟩
    rw[hw];refine go ?_;refine WO.dlM S.rm S.e ?_;intro h6 e6 o6 u6;have S6:=S.setM e6 o6 u6;have hlb:=hW5.out.lb;have hle:=hW5.out.le;have hob:=hW5.out.okb;have hoe:=hW5.out.oke;refine go ?_;refine WO.conV (WV.func (zSq h h6 X gp gb ge gm _ _ T F f par L bg ed (zBc i es) i S6 E O U ⟨by omega,by omega⟩ hlb hle hob hoe)) ?_;rintro _ h7 ⟨s1,s,es',S7,k1,k2,m1,m2,hcase⟩;refine go ?_;have hdk:∀ c,c∈(zBc (i:Int) es).map (·.1)↔c≠(i:Int)/\c∈es.map (·.1):=fun c=>zDJ hK.out.1;have hdo:Zh (zBc (i:Int) es):=zGd hK.out.1;have hi0:(0:Int)<=i:=by omega
    have hi1:(i:Int)<(L.length:Int):=by omega
    have hsz:=zGP (bg:=bg) (i:=(i:Int).toNat) (s:=s) (by omega);have hW7:WInv par L (yK par L) (bg.set (i:Int).toNat s) (ed.set (i:Int).toNat s1) (fun c=>c∈es'.map (·.1)):=by
     refine hW5.out.look hi0 hi1 hnxr.out k1 k2 m1 m2 fun c hc1 hc2 hnk=> ?_;rcases hcase with ⟨q1,q2⟩|⟨q1,q2,q3⟩
     ·subst q2;refine⟨?_,.inl q1⟩;by_cases e:c=i
      ·exact .inl e
      ·exact .inr fun hm=>hnk ((hdk c).2 ⟨e,hm⟩)
     ·refine⟨?_,.inr fun hm=>hnk ((q3 c).2 (.inr (zC1.2 ⟨hc1,hc2,hm⟩)))⟩;by_cases e:c=i
      ·exact .inl e
      ·exact .inr fun hm=>hnk ((q3 c).2 (.inl ((hdk c).2 ⟨e,hm⟩)))
    have hK7:Zh es'/\∀ c∈es'.map (·.1),0<=c/\c<(L.length:Int):=by
     rcases hcase with ⟨q1,q2⟩|⟨q1,q2,q3⟩
     ·subst q2;exact⟨hdo,fun c hc=>hK.out.2 c ((hdk c).1 hc).2⟩
     ·exact⟨q2 hdo,fun c hc=>((q3 c).1 hc).elim (fun hc=>hK.out.2 c ((hdk c).1 hc).2) fun hc=>let ⟨a,b,_⟩:=zC1.1 hc;⟨a,b⟩⟩
    have hM7:YX bg0<YX (bg.set (i:Int).toNat s)\/(YX bg0=YX (bg.set (i:Int).toNat s)/\∀ c∈es'.map (·.1),((i+1:Nat):Int)<=c):=by
     rcases hcase with ⟨q1,q2⟩|⟨q1,q2,q3⟩
     ·rw[q1]at hsz;have hsz2:YX (bg.set (i:Int).toNat s)=YX bg:=by rw[q1];omega
      rw[hsz2];rcases hM.out with r|⟨r1,r2⟩
      ·exact .inl r
      ·refine .inr ⟨r1,fun c hc=> ?_⟩;subst q2;obtain⟨a,b⟩:=(hdk c).1 hc;have:=r2 c b;omega
     ·left;have hob':=zKz hob (i:=(i:Int).toNat) (by omega);have hmore:=zLw (s:=bg.getD (i:Int).toNat []) (t:=s) hob'.1 k2.1 (fun r q=>(m2 r).2 (yg (fun r q=>(m1 r).2 (.inl q)) (hW5.out.sub i r hi0 hi1 q))) q1;rcases hM.out with r|⟨r1,_⟩<;>omega
    exact zA (i+1) (by omega) ⟨_,_,es',sln,by omega,S7,⟨hK7⟩,⟨hW7⟩,⟨hM7⟩⟩
   ·have hw:es.lookup (i:Int)=none:=by
     cases hl:es.lookup (i:Int)with
     |none=>rfl
     |some w=>exact absurd (look_mem.1 (by rw[hl];simp)) hin
    rw[hw];refine go ?_;refine zA (i+1) (by omega) ⟨bg,ed,es,sln,by omega,S,hK,hW5,⟨?_⟩⟩;rcases hM.out with r|⟨r1,r2⟩
    ·exact .inl r
    ·refine .inr ⟨r1,fun c hc=> ?_⟩;have:=r2 c hc;have:c≠i:=fun e=>hin (e▸hc);omega
  ·have hiL:i=L.length:=by omega
   subst hiL;refine go ?_;have hup:=zH4 (N:=(yK par L).toNat) fun s hs=>⟨(hW5.out.okb s hs).1,fun r q=>by have:=(hW5.out.okb s hs).2 r q;omega⟩;rw[hW5.out.lb]at hup;refine zA (bg,ed,es) ?_ ⟨S,hK,hW5⟩;simp only;rw[QC hc0];rcases hM.out with r|⟨r1,r2⟩
   ·split<;>omega
   ·have hes:es=[]:=zPi fun c hc=>by
     have h1:=r2 c hc;have h2:=(hK.out.2 c hc).2;omega
    subst hes;rw[QH (show ([]:List (Int×Int)).length=0 from rfl),r1];omega
 ·have hes:es0=[]:=Gq (by omega);subst hes;refine go ?_;refine WO.clM S.rm S.e ?_;intro h6 e6 o6 u6;have S6:=S.setM e6 o6 u6;refine gr ?_;exact⟨X,gp,gb,ge,gm,bg0,ed0,rfl,S6,hW.out.fix (fun b _ _ hb=>by cases hb),hW.out.lb,hW.out.le,hW.out.okb,hW.out.oke⟩
set_option maxRecDepth 100000
def LB (par:Int) (L:List LBlk) (b r:Int):Prop:=∀ B E,Clo par L B E->B b r
def LE (par:Int) (L:List LBlk) (b r:Int):Prop:=∀ B E,Clo par L B E->E b r
theorem LFix.isB {par L B E} (h:LFix par L B E) {b r:Int} (h1:0<=b) (h2:b<(L.length:Int)):B b r↔LB par L b r:=⟨fun q B' E' k=>(h.least B' E' k b r h1 h2).1 q,fun q=>q B E h.clo⟩
theorem LFix.isE {par L B E} (h:LFix par L B E) {b r:Int} (h1:0<=b) (h2:b<(L.length:Int)):E b r↔LE par L b r:=⟨fun q B' E' k=>(h.least B' E' k b r h1 h2).2 q,fun q=>q B E h.clo⟩
theorem LFix.the {par L B E} (h:LFix par L B E) (hn:∀ c,0<=c->c<(L.length:Int)->∀ k∈nxL L c,0<=k/\k<(L.length:Int)):LFix par L (LB par L) (LE par L):=by
 refine⟨fun b r h1 h2=> ?_,fun b r h1 h2=> ?_,fun B' E' k b r _ _=>⟨fun q=>q B' E' k,fun q=>q B' E' k⟩⟩
 ·rw[<-h.isE h1 h2,h.e b r h1 h2];exact⟨Ym fun k hk r q=>(h.isB (hn b h1 h2 k hk).1 (hn b h1 h2 k hk).2).1 q,Ym fun k hk r q=>(h.isB (hn b h1 h2 k hk).1 (hn b h1 h2 k hk).2).2 q⟩
 ·rw[<-h.isB h1 h2,h.b b r h1 h2];exact⟨yg fun r q=>(h.isE h1 h2).1 q,yg fun r q=>(h.isE h1 h2).2 q⟩
def zAw (T:List LType) (F:List LFn) (f b at':Int):Int:=
 if (Y4 T F f b).2≠0 then (Y4 T F f b).2 else if at'<0\/(((F.getD f.toNat default).blocks.getD b.toNat default).ins.length:Int)<at' then 2 else 0
theorem zHV {T:List LType} {F:List LFn} {f b:Int} (h:(Y4 T F f b).2=0):(zd T F f).2=0/\0<=b/\b<((F.getD f.toNat default).blocks.length:Int):=by
 have h1:(zD T F f b).2=0:=by
  unfold Y4 at h;split at h
  ·rename_i q;exact absurd h q
  ·rename_i q;omega
 obtain⟨a,c,d,e⟩:=yv h1;rw[d]at c;refine⟨?_,a,c⟩;unfold Yc at e;split at e
 ·rename_i q;exact absurd e q
 ·rename_i q;omega
abbrev Yz (F:List LFn) (f:Int):List LBlk:=(F.getD f.toNat default).blocks
abbrev zDk (T:List LType) (F:List LFn) (f:Int):Int:=((T.getD (F.getD f.toNat default).sig.toNat default).parts.length:Int)
def zUI:ACode:=(oV (oR [oX 4 0,oN 8 0]) (oV (oV (oR [oA 2 12 4,oM 13 1,oM 14 2,o3 15 81 12 13 14,oM 11 15,oE 16 11 0,oE 17 11 1,oM 9 16,oM 10 17]) (oV (oR [oM 18 10,oC .neq 19 18 0]) (oJ 19 (oV (oR [oM 20 10,oM 8 20]) .ret) .skip))) (oV (oV (oR [oM 21 3,oC .lss 22 21 0,oM 23 22,oH 23 (oM 24 3),oH 23 (oF 1 25 4),oH 23 (oL 26 25),oH 23 (oM 27 1),oH 23 (oI 2 28 26 27),oH 23 (oF 1 29 28),oH 23 (oL 30 29),oH 23 (oM 31 2),oH 23 (oI 5 32 30 31),oH 23 (oF 0 33 32),oH 23 (oL 34 33),oH 23 (oQ 35 34),oH 23 (oB .gtr 36 24 35),oO 37 23 36]) (oJ 37 (oV (oR [oN 8 2]) .ret) .skip)) (oV (oR [oN 8 0]) .ret))))
theorem zLk (h:AHeap) (vt vf:Value) (T:List LType) (F:List LFn) (f b at':Int) (E:EnvL h vt vf T F):
  WC Tryz.prog tb 47 [.agg #[vt,vf],I f,I b,I at'] h fun r h'=>r=I (zAw T F f b at')/\Ext h h':=by
 have hF:=E.sm.funcs;obtain⟨ta,tn,tk,rfl⟩:=zJ E.st;obtain⟨ga,gn,gk,rfl⟩:=zJ E.sf;refine en 38 [(8,none)] zUI ?_;refine WO.bx ?_;intro p h1 e1 o1;have E1:=E.ext e1;refine go ?_;refine WO.con (zLJ h1 _ _ T F f b E1.tt E1.hm E1.sm E1.st E1.sf) ?_;rintro _ h2 ⟨⟨vn,rfl,sn,_⟩,e2⟩;have e12:=e1.trans e2;unfold zAw;by_cases hn:(Y4 T F f b).2=0;case neg=>
  rw[QH hn];refine gr ?_;exact⟨rfl,e12⟩
 obtain⟨ha,hb0,hb1⟩:=zHV hn;obtain⟨hf0,hf1,_⟩:=zHI ha;have E2:=E1.ext e2;have sf2:=E2.sf;have o2:=o1.ext e2;obtain⟨csF,⟨vb,rfl,sb,hlb⟩,pcF,hsF⟩:=yP (i:=f.toNat) sf2 (by omega);obtain⟨ba,bn,bk,rfl⟩:=zJ sb;obtain⟨csB,⟨vi,rfl,si,hli⟩,pcB,hsB⟩:=yP (i:=b.toNat) sb (by omega);obtain⟨ia,iN,ik,rfl⟩:=zJ si;rw[QC (fun q=>q hn),hn];by_cases c1:at'<0
 ·rw[QH (.inl c1)];refine gr ?_;exact⟨rfl,e12⟩
 by_cases c2:(((F.getD f.toNat default).blocks.getD b.toNat default).ins.length:Int)<at'
 ·rw[QH (.inr c2)];refine gr ?_;exact⟨rfl,e12⟩
 rw[QC (by omega)];refine gr ?_;exact⟨rfl,e12⟩
structure AtR (T:List LType) (F:List LFn) (f b at':Int) (l:List Int):Prop where
 rise:l.Pairwise (·<·)
 mem:∀ r,r∈l↔ZH (zDk T F f) (Yz F f) b at'.toNat (LE (zDk T F f) (Yz F f) b) r
 fix:LFix (zDk T F f) (Yz F f) (LB (zDk T F f) (Yz F f)) (LE (zDk T F f) (Yz F f))
 reg:∀ r∈l,0<=r/\r<yK (zDk T F f) (Yz F f)
def zTm:ACode:=(oV (oR [oX 4 0,oK 8 (.slice none 0 0),oN 9 0]) (oV (oV (oR [oA 2 11 4,oM 12 1,oM 13 2,oM 14 3,o4 15 47 11 12 13 14,oM 10 15]) (oV (oR [oM 16 10,oC .neq 17 16 0]) (oJ 17 (oV (oR [oM 18 10,oK 8 (.slice none 0 0),oM 9 18]) .ret) .skip))) (oV (oR [oA 2 19 4,oM 20 1,o2 21 49 19 20,oM 22 2,oM 23 3,o3 24 50 21 22 23,o1 25 48 24,oE 26 25 0,oE 27 25 1,oM 8 26,oM 9 27]) .ret)))
theorem zUc (h:AHeap) (vt vf:Value) (T:List LType) (F:List LFn) (f b at':Int) (E:EnvL h vt vf T F) (Z:TzT h):
  WC Tryz.prog tb 20 [.agg #[vt,vf],I f,I b,I at'] h fun r h'=>(∃ v l,r= .tuple #[v,I (zAw T F f b at')]/\OwnN h h' v l/\(zAw T F f b at'≠0->l=[])/\(zAw T F f b at'=0->AtR T F f b at' l))/\Ext h h':=by
 obtain⟨ta,tn,tk,rfl⟩:=zJ E.st;obtain⟨ga,gn,gk,rfl⟩:=zJ E.sf;refine en 28 [(8,none),(9,none)] zTm ?_;refine WO.bx ?_;intro p h1 e1 o1;have E1:=E.ext e1;refine go ?_;refine WO.con (zLk h1 _ _ T F f b at' E1) ?_;rintro _ h2 ⟨rfl,e2⟩;have e12:=e1.trans e2;have o2:=o1.ext e2;have E2:=E1.ext e2;by_cases ha:zAw T F f b at'=0;case neg=>
  refine gr ?_;exact⟨⟨_,[],rfl,.inl ⟨rfl,rfl⟩,fun _=>rfl,fun h=>absurd h ha⟩,e12⟩
 have hn:(Y4 T F f b).2=0:=by
  unfold zAw at ha;split at ha
  ·rename_i q;exact absurd ha q
  ·rename_i q;omega
 have hat:0<=at'/\at'<=(((F.getD f.toNat default).blocks.getD b.toNat default).ins.length:Int):=by
  unfold zAw at ha;rw[QC (fun q=>q hn)]at ha;split at ha
  ·cases ha
  ·rename_i q;omega
 obtain⟨hask,hb0,hb1⟩:=zHV hn;obtain⟨O,U⟩:FnOk T F f (Yz F f) (zDk T F f)/\∀ b∈Yz F f,BlkU b (yK (zDk T F f) (Yz F f)) (Yz F f).length:=zRV E.sm hask;have hb1:b<((Yz F f).length:Int):=hb1;have hnx:∀ c,0<=c->c<((Yz F f).length:Int)->∀ k∈nxL (Yz F f) c,0<=k/\k<((Yz F f).length:Int):=fun c h1 h2=>(U _ (zI (l:=Yz F f) (i:=c.toNat) (by omega))).next;refine go ?_;refine WO.con (zMX h2 _ _ T F f _ _ E2 O U) ?_;rintro _ h3 ⟨X,gp,gb,ge,gm,bg,ed,rfl,S,hfix,hlb,hle,hob,hoe⟩;have e23:=S.e;have E3:=E2.ext e23;have hoed:=zKz hoe (i:=b.toNat) (by omega);have hat2:at'.toNat<=((Yz F f).getD b.toNat default).ins.length:=by
  show at'.toNat<=((F.getD f.toNat default).blocks.getD b.toNat default).ins.length;omega
 have hA:=zFs h2 h3 X gp gb ge gm _ _ T F f _ _ bg ed [] b at'.toNat S E3 O U ⟨hb0,hb1⟩ hat2 hle hoed;rw[show ((at'.toNat:Nat):Int)=at' by omega]at hA;refine go ?_;refine WO.con hA ?_;rintro v4 h4 ⟨⟨t4,m4,o4,mem4⟩,e4⟩;have e04:=e12.trans (e23.trans e4);have Z4:=Z.ext e04;have hm4:h4.mark<=h4.n:=(E3.ext e4).hm;have hreg:∀ r,InW t4 r->0<=r/\r<yK (zDk T F f) (Yz F f):=fun r q=>by
  have q:=(mem4 r).1 q;unfold ZH at q;have hUb:=U _ (zI (l:=Yz F f) (i:=b.toNat) (by omega));exact zCb (fun x hx=>(hUb.ins x (List.mem_of_mem_drop hx)).uses) (fun r q=>q.elim (fun q=>hUb.ends r q) fun q=>⟨(InW.range hoed.1 q).1,hoed.2 r q⟩) q
 have hN:0<=yK (zDk T F f) (Yz F f)/\yK (zDk T F f) (Yz F f)<=228:=by
  have:=O.par0;have:=O.parl;have:=O.many;have:=yp (Yz F f);unfold yK;omega
 have hl4:t4.length<=228:=by
  have:=zAl (N:=(yK (zDk T F f) (Yz F f)).toNat) o4 fun r q=>by have:=hreg r q;omega
  omega
 refine go ?_;refine WO.con (zRZ h4 v4 t4 m4.sl Z4 (by omega) hm4) ?_;rintro _ h5 ⟨⟨w,rfl,ow⟩,e5⟩;rw[zAS o4,QH rfl]at ow;rw[zAS o4,show zI6 true=0 from rfl];refine gr ?_;rw[ha];refine⟨⟨w,zx t4,rfl,ow.since e04,fun h=>absurd rfl h,fun _=>⟨zAd o4,fun r=> ?_,hfix.the hnx,fun r hr=>hreg r ((YK o4).1 hr)⟩⟩,e04.trans e5⟩;rw[YK o4,mem4];exact⟨yg fun r q=>(hfix.isE hb0 hb1).1 q,yg fun r q=>(hfix.isE hb0 hb1).2 q⟩
end
end Go.Proofs.YteekipjpghikkaaGreatDoor
