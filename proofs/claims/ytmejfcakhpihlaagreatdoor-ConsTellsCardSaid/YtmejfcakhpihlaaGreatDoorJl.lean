/- Walks of functions, plain laws; proves no statement. -/
import Derived.Test.YtmejfcakhpihlaaGreatDoorJr
set_option linter.all false
set_option maxHeartbeats 2000000
set_option maxRecDepth 100000
namespace Go.Proofs.YtmejfcakhpihlaaGreatDoor
open Go.Am
theorem zRH{T:List WE}{F:List Wa}{f:Int}(hp:ZE T F=0)(hf:0<=f/\f<(F.length:Int)){B:Wc}(hB:B∈zF F f){x:Wj}(hx:x∈B.ins):B2 x (B0 T F.length (F.getD f.toNat default))=true:=by
 have h0:BW T F.length (F.getD f.toNat default)=true:=(yN hp).2.2.2 _ (zE (l:=F) (i:=f.toNat) (by omega));unfold BW at h0;split at h0
 ·cases h0
 ·have h0:((F.getD f.toNat default).blocks.any fun b=>Yv b (B0 T F.length (F.getD f.toNat default)))=false:=by simpa using h0
  have hb:=Gx.1 h0 B hB;have hb:Yv B (B0 T F.length (F.getD f.toNat default))=false:=by simpa using hb
  unfold Yv at hb;rw[Bool.or_eq_false_iff]at hb;have:=Gx.1 hb.1 x hx;simpa using this
section
variable {vt vf:Value}{T:List WE}{F:List Wa}
theorem zI2(h:WA)(f b:Int)(i:Nat)(E:En h vt vf T F)(hp:ZE T F=0)(Z:FnIn T F f)(bA:∀ c,0<=c->c<((zF F f).length:Int)->Wl (Wr (zF F f)) 0 c)(hb:0<=b/\b<((zF F f).length:Int))(hi:i<((zF F f).getD b.toNat default).ins.length):
  WC Tryz.prog tb 92 [.agg #[vt,vf],I f,I b,I i] h fun q h'=>(∃ bb,q=.bool bb/\(bb=true↔zAE T F (W6 T F f) (Bv T F f) (Wr (zF F f)) (zF F f) (zW (zF F f) b (zF F f).length) b i (zFC ((zF F f).getD b.toNat default) i) (((zF F f).getD b.toNat default).ins.getD i default)))/\Ext h h':=by
 have hf:=Z.hf;have hF:=E.sm.funcs;have kh:=Z.od;have jh:=zE (l:=zF F f) (i:=b.toNat) (by omega);have kJ:=zE hi;have hU:=(Z.U _ jh).ins _ kJ;have hV:=Z.V _ jh _ kJ;have hN:=zP3 (zRH hp hf jh kJ);have LL:=zDa hU;have ir:(ZB (W6 T F f) (zt (((zF F f).getD b.toNat default).ins.getD i default))).length=(zt (((zF F f).getD b.toNat default).ins.getD i default)).length:=by unfold ZB;simp
 have dT:∀ t∈ZB (W6 T F f) (zt (((zF F f).getD b.toNat default).ins.getD i default)),W7 T t:=fun t ht=>by
  obtain⟨r,hr,rfl⟩:=Qw.1 ht;have:=hU.uses r hr;exact Z.ks _ (zM (by omega))
 unfold zAE;replace bA:=WK.mk bA;have ae:=WK.mk hi;have cY:=WK.mk hb;replace dT:=WK.mk dT;replace hN:=WK.mk hN;refine en ?_;refine VF ?_;intro p4 h4 e4 o4;replace o4:WB h h4 p4 [vt,vf]:=o4;have E4:=E.ext e4;have jb:=E4.sf;obtain⟨cs,⟨vb,rfl,sb,cD⟩,pc,hs⟩:=zP (i:=f.toNat) jb (by omega);have sb:Wv h4 vb (zF F f):=sb;have AF:=(pc _ (Ext.refl _)).1;obtain⟨Au,⟨vi,rfl,si,fc⟩,lj,kg⟩:=zP (i:=b.toNat) sb (by omega);have A2:=(lj _ (Ext.refl _)).1;obtain⟨Hl,hR,pU,Dh⟩:=zP (i:=i) si hi;have H5:=(pU _ (Ext.refl _)).1;generalize Dp:((zF F f).getD b.toNat default).ins.getD i default=x at *;obtain⟨xa,xf,rfl,cr,cz,br,dZ,ho⟩:=id hR;obtain⟨a1,a2,a3,rfl⟩:=Wi.shape cr;obtain⟨f1,f2,f3,rfl⟩:=Wi.shape cz;refine go ?_;refine WO.al ?_;intro p9 h5 e5 o9;refine go ?_;refine VH (cs:=[.int .u8 x.op,I x.ty,I x.a,I x.b,I x.n,.slice a1 a2 a3,.slice f1 f2 f3]) o9 e5 ?_;intro h6 e6 o9 u9;have lp:=o4.ext e6;have E6:=E4.ext e6;have Ih:=hR.ext e6;have eu:=e4.trans e6;refine go ?_;refine VC 0 rfl rfl ?_;have ea:=zH 0 h6;have gB:=VI (lp.ext ea);have Dx:=VI (o9.ext ea);have uv:=Ih.ext ea;have Ii:W8 (inC (zB 0 h6)) _ x:=uv;refine WJ ?_;refine VA (zEf _ x _ Ii hU.args) ?_;rintro vu X7 ⟨ou,e7⟩;refine nE e7 ?_;have i9:=ea.trans (zZ (h:=h6) e7);refine WJ ?_;refine VA (zEa _ f vu _ (E6.inC.go e7) Z (VK ou.sl) (by omega) (fun r hr=>hU.uses r hr)) ?_;rintro _ X8 ⟨⟨w,rfl,hw,w1,w2,w3,rfl⟩,e8⟩;refine nE e8 ?_;have iD:=i9.trans (zZ (h:=h6) e8);have dU:Ext h6 (outC h6 (inC X8)):=iD;have uw:¬(-1:Int)∈ZB (W6 T F f) (zt x)->WQ (outC h6 (inC X8)) (.slice w1 w2 w3) (ZB (W6 T F f) (zt x)):=fun hn=>(hw hn).sl;refine WJ ?_;generalize outC h6 (inC X8)=h8 at *;replace uw:=WK.mk uw;replace hw:=WK.mk hw;have jg:=lp.ext dU;have uu:=o9.ext dU;have E8:=E6.ext dU;have cX:=eu.trans dU;by_cases c1:(-1:Int)∈ZB (W6 T F f) (zt x)
 ·rw[Qc c1];refine gr ?_;exact⟨⟨false,rfl,by simp only[Qa,Gn];exact fun q=>q.1 c1⟩,cX⟩
 rw[QY c1];refine go ?_;have hn:=hN.out;refine VA (zJC h8 x _ (.slice w1 w2 w3) (ZB (W6 T F f) (zt x)) E8 Z.hc (Ih.ext dU) (uw.out c1) (by omega) dT.out hV.ty hU.op Z.sigF hV.n14 hV.n2 (fun e=>by have:=hV.l1 e;omega) (fun e=>by have:=hV.l2 (by omega);omega) (fun e=>by have:=hn.1 e;omega) (fun e=>by have:=hn.2.1 e;omega) (fun e=>by have:=hn.2.2 e;omega)) ?_;rintro _ h9 ⟨rfl,e9⟩;have Ia:=jg.ext e9;have LF:=uu.ext e9;have E9:=E8.ext e9;have nZ:=cX.trans e9;clear hn;cases c2:yD T F x (ZB (W6 T F f) (zt x))with
 |false=>
  refine gr ?_;exact⟨⟨false,rfl,by simp⟩,nZ⟩
 |true=>
  refine go ?_;by_cases c3:x.op=22
  ·refine go ?_;refine VA (zL6 h9 f b i E9 hp Z bA.out cY.out ae.out (by rw[Dp];exact c3)) ?_;rintro _ gV ⟨⟨bb,rfl,aC⟩,bJ⟩;rw[Dp]at aC;refine gr ?_;refine⟨⟨bb,rfl,?_⟩,nZ.trans bJ⟩;rw[aC];exact⟨fun q=>⟨c1,rfl,fun _=>q,fun q=>absurd c3 q⟩,fun q=>q.2.2.1 c3⟩
  ·refine go ?_;refine VC 0 rfl rfl ?_;have ea:=zH 0 h9;have gB:=VI (Ia.ext ea);have Dx:=VI (LF.ext ea);have uv:=(Ih.ext (dU.trans e9)).ext ea;have Ii:W8 (inC (zB 0 h9)) _ x:=uv;refine WJ ?_;refine VA (zEf _ x _ Ii hU.args) ?_;rintro Ij Rv ⟨Ik,bJ⟩;refine nE bJ ?_;have qe:=ea.trans (zZ (h:=h9) bJ);refine WJ ?_;refine VA (zDv _ f Ij _ b i (E9.inC.go bJ) hp Z (bA.out b cY.out.1 cY.out.2) cY.out (VK Ik.sl) (by omega) (fun r hr=>hU.uses r hr)) ?_;rintro _ A7 ⟨⟨bb,rfl,aC⟩,dI⟩;refine nE dI ?_;have fM:=qe.trans (zZ (h:=h9) dI);refine BY ?_;refine⟨⟨bb,rfl,?_⟩,nZ.trans fM⟩;rw[aC];exact⟨fun q=>⟨c1,rfl,fun e=>absurd e c3,fun _=>q⟩,fun q=>q.2.2.2 c3⟩
end
end Go.Proofs.YtmejfcakhpihlaaGreatDoor
set_option maxRecDepth 100000
namespace Go.Proofs.YtmejfcakhpihlaaGreatDoor
open Go.Am
theorem zRR{x:Bl}:(0:Int)∉ZU x↔(x.kind=1\/x.kind=2->x.to≠0/\(x.kind=1\/x.aE≠0)):=by
 unfold ZU;by_cases k1:x.kind=1
 ·rw[QF k1];simp[k1];omega
 ·rw[QC k1];by_cases k2:x.kind=2
  ·rw[QF k2];by_cases e:x.to=x.aE
   ·rw[QF e];simp[k1,k2,<-e];omega
   ·rw[QC e];simp[k1,k2];omega
  ·rw[QC k2];simp[k1,k2]
section
variable {vt vf:Value}{T:List WE}{F:List Wa}
theorem zFj(h:WA)(f b:Int)(E:En h vt vf T F)(hp:ZE T F=0)(Z:FnIn T F f)(bA:∀ c,0<=c->c<((zF F f).length:Int)->Wl (Wr (zF F f)) 0 c)(hb:0<=b/\b<((zF F f).length:Int)):
  WC Tryz.prog tb 93 [.agg #[vt,vf],I f,I b] h fun q h'=>(∃ bb,q=.bool bb/\(bb=true↔YS T F f (W6 T F f) (Bv T F f) (Wr (zF F f)) (zF F f) b))/\Ext h h':=by
 have hf:=Z.hf;have hF:=E.sm.funcs;have dC:=Z.sig;have kh:=Z.od;have jh:=zE (l:=zF F f) (i:=b.toNat) (by omega);have hU:=Z.U _ jh;have dG:=E.sm.ins _ (zE (l:=F) (i:=f.toNat) (by omega)) _ jh;have LM:(yI ((zF F f).getD b.toNat default).fin).length<=1:=by unfold yI;split<;>simp
 have ir:(ZB (W6 T F f) (yI ((zF F f).getD b.toNat default).fin)).length=(yI ((zF F f).getD b.toNat default).fin).length:=by unfold ZB;simp
 have dT:∀ t∈ZB (W6 T F f) (yI ((zF F f).getD b.toNat default).fin),W7 T t:=fun t ht=>by
  obtain⟨r,hr,rfl⟩:=Qw.1 ht;have:=hU.ends r hr;exact Z.ks _ (zM (by omega))
 unfold YS zHB;rw[<-zRR];replace bA:=WK.mk bA;replace dT:=WK.mk dT;have cY:=WK.mk hb;refine en ?_;refine VF ?_;intro p4 h4 e4 o4;replace o4:WB h h4 p4 [vt,vf]:=o4;have E4:=E.ext e4;have jb:=E4.sf;obtain⟨cs,⟨vb,rfl,sb,cD⟩,pc,hs⟩:=zP (i:=f.toNat) jb (by omega);have sb:Wv h4 vb (zF F f):=sb;have AF:=(pc _ (Ext.refl _)).1;obtain⟨Au,⟨vi,rfl,si,fc⟩,lj,kg⟩:=zP (i:=b.toNat) sb (by omega);have A2:=(lj _ (Ext.refl _)).1;generalize Dl:(zF F f).getD b.toNat default=B at *;obtain⟨v1,v2,v3,rfl⟩:=zD si;refine go ?_;refine WO.al ?_;intro p9 h5 e5 o9;refine go ?_;refine VH (cs:=[.slice v1 v2 v3,.int .u8 B.fin.kind,I B.fin.a,I B.fin.to,I B.fin.aE]) o9 e5 ?_;intro h6 e6 o9 u9;have lp:=o4.ext e6;have E6:=E4.ext e6;have eu:=e4.trans e6;refine go ?_;refine VC 0 rfl rfl ?_;have ea:=zH 0 h6;have gB:=VI (lp.ext ea);have Dx:=VI (o9.ext ea);refine WJ ?_;refine VA (zH6 _ B.fin) ?_;rintro vu X7 ⟨ou,e7⟩;refine nE e7 ?_;have i9:=ea.trans (zZ (h:=h6) e7);refine WJ ?_;refine VA (zEa _ f vu _ (E6.inC.go e7) Z (VK ou.sl) (by omega) (fun r hr=>hU.ends r hr)) ?_;rintro _ X8 ⟨⟨w,rfl,hw,w1,w2,w3,rfl⟩,e8⟩;refine nE e8 ?_;have iD:=i9.trans (zZ (h:=h6) e8);have dU:Ext h6 (outC h6 (inC X8)):=iD;have uw:¬(-1:Int)∈ZB (W6 T F f) (yI B.fin)->WQ (outC h6 (inC X8)) (.slice w1 w2 w3) (ZB (W6 T F f) (yI B.fin)):=fun hn=>(hw hn).sl;refine WJ ?_;generalize outC h6 (inC X8)=h8 at *;replace uw:=WK.mk uw;replace hw:=WK.mk hw;have jg:=lp.ext dU;have uu:=o9.ext dU;have E8:=E6.ext dU;have cX:=eu.trans dU;have rM:=BB.ext si (e6.trans dU);refine go ?_;refine VC 0 rfl rfl ?_;have DC:=zH 0 h8;have Il:=VI (jg.ext DC);have Im:=VI (uu.ext DC);by_cases c1:(-1:Int)∈ZB (W6 T F f) (yI B.fin)
 ·rw[Qc c1];refine WJ ?_;refine Zd zw ?_;refine WJ ?_;refine zQV ?_;refine BY ?_;exact⟨⟨false,rfl,by simp only[Qa,Gn];exact fun q=>q.1.1 c1⟩,cX.trans DC⟩
 rw[QY c1];refine WJ ?_;refine VA (zH6 _ B.fin) ?_;rintro Ij X9 ⟨Ik,e9⟩;refine nE e9 ?_;have kf:=DC.trans (zZ (h:=h8) e9);have Rw:=VI (Il.ext e9);have Io:=VI (Im.ext e9);have Rq:BB (inC X9) (.slice v1 v2 v3) B.ins:=by have:=BB.ext rM kf;exact this
 refine WJ ?_;refine yZ uu (QE _) ?_;refine WJ ?_;refine VA (zDv _ f Ij _ b B.ins.length (E8.inC.go e9) hp Z (bA.out b cY.out.1 cY.out.2) cY.out (VK Ik.sl) (by omega) (fun r hr=>hU.ends r hr)) ?_;rintro _ Rv ⟨⟨bb,rfl,aC⟩,bJ⟩;refine nE bJ ?_;have qe:=kf.trans (zZ (h:=h8) bJ);cases bb with
 |false=>
  refine BY ?_;exact⟨⟨false,rfl,by simp only[Qa,Gn];exact fun q=>absurd (aC.2 q.1.2) Bool.noConfusion⟩,cX.trans qe⟩
 |true=>
  have LN:=VI (Io.ext bJ);refine WJ ?_;refine VA (zNW _ B.fin) ?_;rintro Ip A7 ⟨ot,dI⟩;refine nE dI ?_;have fM:=qe.trans (zZ (h:=h8) dI);have vM:(ZU B.fin).length<=2:=by unfold ZU;split;simp;split;split<;>simp;simp
  refine WJ ?_;refine VA (zPw _ Ip (ZU B.fin) 0 (VK ot.sl) (by omega)) ?_;rintro _ _ ⟨rfl,rfl⟩;refine nQ ?_;have dE:Ext h8 (outC h8 (inC A7)):=fM;by_cases c2:(0:Int)∈ZU B.fin
  ·rw[Qc c2];refine BY ?_;exact⟨⟨false,rfl,by simp only[Qa,Gn];exact fun q=>q.2.2.1 c2⟩,cX.trans fM⟩
  rw[QY c2];refine WJ ?_;generalize outC h8 (inC A7)=gH at *;have A8:=jg.ext dE;have LO:=uu.ext dE;have Iq:=WQ.ext (uw.out c1) dE;have Ir:=E8.ext dE;have jc:=cX.trans dE;have Rx:=Ir.sf;have Is:=Ir.st;have cf:=aC.1 rfl;replace cf:=WK.mk cf;replace aC:=WK.mk aC;refine go ?_;by_cases k2:B.fin.kind=2
  ·have jA:(ZB (W6 T F f) (yI B.fin)).length=1:=by rw[ir];unfold yI;rw[QF (.inl k2)];rfl
   have ht0:=YY dT.out (show 0<(ZB (W6 T F f) (yI B.fin)).length by omega);have hwX:=VK (Iq.ext (zH 0 gH));have LP:=VI (A8.ext (zH 0 gH));refine go ?_;refine VC 0 rfl rfl ?_;refine WJ ?_;refine VA (ZL _ _ 1 Ir.inC ht0) ?_;rintro _ X12 ⟨rfl,az⟩;refine nE az ?_;have It:=(zH 0 gH).trans (zZ (h:=gH) az);refine BY ?_;refine⟨⟨_,rfl,?_⟩,jc.trans It⟩;rw[zMz jA];exact⟨fun q=>⟨⟨c1,cf.out⟩,fun _=>q,c2,fun e=>by omega⟩,fun q=>q.2.1 k2⟩
  refine go ?_;by_cases k3:B.fin.kind=3
  ·have jA:(ZB (W6 T F f) (yI B.fin)).length=1:=by rw[ir];unfold yI;rw[QF (.inr k3)];rfl
   have Ry:=(pc _ ((e6.trans dU).trans dE)).1;obtain⟨Ap,⟨wu,rfl,sat,mH⟩,nY,mI⟩:=yM (i:=(F.getD f.toNat default).sig.toNat) Is (by omega);refine gr ?_;refine⟨⟨_,rfl,?_⟩,jc⟩;rw[Ge];exact⟨fun q=>⟨⟨c1,cf.out⟩,fun e=>absurd e k2,c2,fun _=>q⟩,fun q=>q.2.2.2 k3⟩
  ·refine gr ?_;exact⟨⟨true,rfl,by simp only[true_iff];exact⟨⟨c1,cf.out⟩,fun e=>absurd e k2,c2,fun e=>absurd e k3⟩⟩,jc⟩
end
end Go.Proofs.YtmejfcakhpihlaaGreatDoor
set_option maxRecDepth 100000
namespace Go.Proofs.YtmejfcakhpihlaaGreatDoor
open Go.Am
def FnR(T:List WE)(F:List Wa)(f:Int):Prop:=(∀ c,0<=c->c<((zF F f).length:Int)->Wl (Wr (zF F f)) 0 c)/\∀ b,0<=b->b<((zF F f).length:Int)->zD0 T F f b
theorem zNF{T:List WE}{F:List Wa}{f:Int}:zHl T F f↔FnR T F f/\(f=0->(zj T F f).parts=[]/\Ww T 1 (zj T F f).elem=true):=⟨fun h=>⟨⟨h.1,h.2.2⟩,h.2.1⟩,fun h=>⟨h.1.1,h.2,h.1.2⟩⟩
theorem zRK{T:List WE}{F:List Wa}{f b:Int}:zD0 T F f b↔(∀ i,i<((zF F f).getD b.toNat default).ins.length->zAE T F (W6 T F f) (Bv T F f) (Wr (zF F f)) (zF F f) (zW (zF F f) b (zF F f).length) b i (zFC ((zF F f).getD b.toNat default) i) (((zF F f).getD b.toNat default).ins.getD i default))/\YS T F f (W6 T F f) (Bv T F f) (Wr (zF F f)) (zF F f) b:=by
 unfold zD0;rw[<-zMq];rfl
section
variable {vt vf:Value}{T:List WE}{F:List Wa}
theorem zFX(h:WA)(f:Int)(E:En h vt vf T F)(hp:ZE T F=0)(hf:0<=f/\f<(F.length:Int)):
  WC Tryz.prog tb 60 [.agg #[vt,vf],I f] h fun q h'=>(∃ bb,q=.bool bb/\(bb=true↔FnR T F f))/\Ext h h':=by
 have Z:=zBL hp hf;have hF:=E.sm.funcs;have kh:=Z.od;have ju:=Z.n1;have aQ:=Z.bl 0 (Ql 0) (by omega);have iV:(zG T F f 0).2=0:=by rw[aQ]
 have jy:=zF8 iV;have iM:=fun l=>zN1 iV (l:=l);rw[aQ]at jy iM;replace jy:(yX T F f).1.length=(zF F f).length↔∀ c,0<=c->c<((zF F f).length:Int)->Wl (Wr (zF F f)) 0 c:=jy;replace iM:=WK.mk iM;have dG:=WK.mk (E.sm.ins _ (zE (l:=F) (i:=f.toNat) (by omega)));refine en ?_;refine VF ?_;intro p4 h4 e4 o4;replace o4:WB h h4 p4 [vt,vf]:=o4;have E4:=E.ext e4;have jb:=E4.sf;obtain⟨cs,⟨vb,rfl,sb,cD⟩,pc,hs⟩:=zP (i:=f.toNat) jb (by omega);have sb:Wv h4 vb (zF F f):=sb;obtain⟨qa,qn,qk,rG,AX⟩:=YI jb (i:=f.toNat) (by omega);refine go ?_;refine VC 0 rfl rfl ?_;have ea:=zH 0 h4;have gB:=VI (o4.ext ea);have dJ:=E4.inC.sf;have fN:=(pc _ ea).2;have kl:=Wv.ext sb ea;have fj:Wv (inC (zB 0 h4)) vb (zF F f):=kl;refine WJ ?_;refine VA (zJn _ vb (zF F f) (QE _) fj (by omega) (by omega) Z.nx) ?_;rintro vr X5 ⟨⟨l,Iu,Iv,Rz,aw⟩,e5⟩;have hl:=iM.out l Iv aw;refine nE e5 ?_;have cB:=ea.trans (zZ (h:=h4) e5);have Iw:=VI (gB.ext e5);have Ix:Wo (inC X5) vf F:=(E4.inC.go e5).sf;have Iy:Wp (inC X5) vf (f.toNat*2) [I (F.getD f.toNat default).sig,vb]:=(pc _ cB).2;have Iz:Wv (inC X5) vb (zF F f):=by have:=Wv.ext sb cB;exact this
 have LQ:=WL.ext Iu (Ext.refl X5);have LQ:WQ (inC X5) vr l:=VK Iu.sl;refine WJ ?_;refine zCt o4 (QE _) ?_;refine WJ ?_;refine zJO ⟨qa,qn,qk,rG,AX⟩ ?_;have qh:Ext h4 (outC h4 (inC X5)):=cB;refine WJ ?_;generalize outC h4 (inC X5)=h5 at *;have rJ:=o4.ext qh;have E5:=E4.ext qh;have cq:=e4.trans qh;have hlen:(l.length:Int)=((zF F f).length:Int)↔∀ c,0<=c->c<((zF F f).length:Int)->Wl (Wr (zF F f)) 0 c:=by rw[<-jy,hl];omega
 clear jy LQ Iu Iz Iy Ix Iw fj kl fN dJ gB;by_cases hr:(l.length:Int)=((zF F f).length:Int);case neg=>
  refine gr ?_;exact⟨⟨false,rfl,by simp only[Qa,Gn];exact fun q=>hr (hlen.2 q.1)⟩,cq⟩
 have bA:=hlen.1 hr;clear hlen;replace bA:=WK.mk bA;refine go ?_;refine VD (fun i=>(zF F f).length-i) (fun i t h'=>Ext h5 h'/\zC t 5=I i/\i<=(zF F f).length/\WK (∀ b:Int,0<=b->b<(i:Int)->zD0 T F f b)) 0 ?_ ?_
 ·exact⟨Ext.refl _,WH,QK _,⟨fun b b0 b1=>by omega⟩⟩
 rintro i t h6 ab ⟨e6,s5,hi,hI⟩;have lp:=rJ.ext e6;have E6:=E5.ext e6;have pD:=E6.sf;have A9:=qh.trans e6;have pc6:=(pc _ A9).1;have xN:=Wv.ext sb A9;refine go ?_;refine VE (fun hb=> ?_) (fun hb=> ?_)<;>simp only[DB]at hb;rotate_left 1
 ·have aK:i=(zF F f).length:=by omega
  refine gr ?_;exact⟨⟨true,rfl,by simp only[true_iff];exact⟨bA.out,fun b b0 b1=>hI.out b b0 (by omega)⟩⟩,cq.trans e6⟩
 have ae:i<(zF F f).length:=by omega
 have bQ:∀ {h'},¬zD0 T F f i->Ext h h'->(∃ bb,Value.bool false=.bool bb/\(bb=true↔FnR T F f))/\Ext h h':=fun hn e=>⟨⟨false,rfl,by simp only[Qa,Gn];exact fun q=>hn (q.2 i (by omega) (by omega))⟩,e⟩;replace bQ:=WK.mk @bQ;have wJ:zD0 T F f i↔_:=zRK;rw[QL]at wJ;replace wJ:=WK.mk wJ;obtain⟨Au,⟨vi,rfl,si,fc⟩,lj,kg⟩:=zP (i:=i) sb (by omega);refine go ?_;refine VD (fun j=>((zF F f).getD i default).ins.length-j) (fun j t h'=>Ext h6 h'/\zC t 6=I j/\j<=((zF F f).getD i default).ins.length/\WK (∀ k,k<j->zAE T F (W6 T F f) (Bv T F f) (Wr (zF F f)) (zF F f) (zW (zF F f) i (zF F f).length) i k (zFC ((zF F f).getD i default) k) (((zF F f).getD i default).ins.getD k default))) 0 ?_ ?_
 ·exact⟨Ext.refl _,WH,QK _,⟨fun k hk=>absurd hk (Qk _)⟩⟩
 rintro j t h7 aZ ⟨e7,s6,hj,hJ⟩;have uq:=lp.ext e7;have E7:=E6.ext e7;have xH:=E7.sf;have qi:=A9.trans e7;have gZ:=(cq.trans e6).trans e7;have pc7:=(pc _ qi).1;have Du:=Wv.ext sb qi;have He:=BB.ext si qi;have RA:=(lj _ qi).1;refine go ?_;refine VE (fun hb=> ?_) (fun hb=> ?_)<;>simp only[DB]at hb
 ·have fD:j<((zF F f).getD i default).ins.length:=by omega
  refine go ?_;refine VA (zI2 h7 f i j E7 hp Z bA.out ⟨by omega,by omega⟩ (by rw[QL];exact fD)) ?_;rintro _ h8 ⟨⟨bb,rfl,aC⟩,e8⟩;rw[QL]at aC;cases bb with
  |false=>
   refine gr ?_;exact bQ.out (fun q=>absurd (aC.2 ((wJ.out.1 q).1 j fD)) Bool.noConfusion) (gZ.trans e8)
  |true=>
   have tj:=WK.mk (aC.1 rfl);clear aC;refine go ?_;refine zA (j+1) (by omega) ⟨e7.trans e8,Wn,by omega,⟨fun k hk=> ?_⟩⟩;by_cases e:k=j
   ·subst e;exact tj.out
   ·exact hJ.out k (by omega)
 ·have re:j=((zF F f).getD i default).ins.length:=by omega
  refine go ?_;refine VA (zFj h7 f i E7 hp Z bA.out ⟨by omega,by omega⟩) ?_;rintro _ h8 ⟨⟨bb,rfl,aC⟩,e8⟩;cases bb with
  |false=>
   refine gr ?_;exact bQ.out (fun q=>absurd (aC.2 (wJ.out.1 q).2) Bool.noConfusion) (gZ.trans e8)
  |true=>
   have tj:=WK.mk (aC.1 rfl);clear aC;refine go ?_;refine zA (i+1) (by omega) ⟨e6.trans (e7.trans e8),Wn,by omega,⟨fun b b0 b1=> ?_⟩⟩;by_cases e:b=i
   ·subst e;exact wJ.out.2 ⟨fun k hk=>hJ.out k (by omega),tj.out⟩
   ·exact hI.out b b0 (by omega)
theorem zId(h:WA)(E:En h vt vf T F):WC Tryz.prog tb 31 [.agg #[vt,vf]] h fun q h'=>q=I (z8 T F)/\Ext h h':=by
 unfold z8;have hF:=E.sm.funcs;refine en ?_;refine VF ?_;intro p4 h4 e4 o4;replace o4:WB h h4 p4 [vt,vf]:=o4;have E4:=E.ext e4;refine go ?_;refine VA (zIm h4 vt vf T F E4) ?_;rintro _ h5 ⟨rfl,e5⟩;have o5:=o4.ext e5;have E5:=E4.ext e5;have cq:=e4.trans e5;by_cases hp:ZE T F=0;case neg=>
  rw[QF hp];refine gr ?_;exact⟨rfl,cq⟩
 rw[QC (fun e=>e hp),hp];obtain⟨hc,lN,ig,hfn⟩:=yN hp;clear hfn;have Z:=zBL hp (f:=0) ⟨Ql 0,by omega⟩;have dC:=Z.sig;have jA:=Z.el;refine go ?_;refine VD (fun i=>F.length-i) (fun i t h'=>Ext h5 h'/\zC t 4=I i/\i<=F.length/\WK (∀ f:Int,0<=f->f<(i:Int)->FnR T F f)) 0 ?_ ?_
 ·exact⟨Ext.refl _,WH,QK _,⟨fun f f0 f1=>by omega⟩⟩
 rintro i t h6 ab ⟨e6,s4,hi,hI⟩;have o6:=o5.ext e6;have E6:=E5.ext e6;have eu:=cq.trans e6;have pD:=E6.sf;refine go ?_;refine VE (fun hb=> ?_) (fun hb=> ?_)<;>simp only[DB]at hb
 ·have ae:i<F.length:=by omega
  refine go ?_;refine VA (zFX h6 i E6 hp ⟨by omega,by omega⟩) ?_;rintro _ h7 ⟨⟨bb,rfl,aC⟩,e7⟩;cases bb with
  |false=>
   refine gr ?_;refine⟨?_,eu.trans e7⟩;rw[QC (fun w=>absurd (aC.2 (zNF.1 (w i (by omega) (by omega))).1) Bool.noConfusion)];rfl
  |true=>
   have tj:=WK.mk (aC.1 rfl);clear aC;refine go ?_;refine zA (i+1) (by omega) ⟨e6.trans e7,Wn,by omega,⟨fun f f0 f1=> ?_⟩⟩;by_cases e:f=i
   ·subst e;exact tj.out
   ·exact hI.out f f0 (by omega)
 ·have aK:i=F.length:=by omega
  have hw:WfP T F↔((zj T F 0).parts=[]/\Ww T 1 (zj T F 0).elem=true):=⟨fun w=>(w 0 (Ql 0) (by omega)).2.1 rfl,fun q f f0 f1=>zNF.2 ⟨hI.out f f0 (by omega),fun e=>by subst e;exact q⟩⟩;replace hw:=WK.mk hw;refine go ?_;refine VC 1 rfl rfl ?_;have ea:=zH 1 h6;have oX:=VI (o6.ext ea);obtain⟨cs,⟨vb,rfl,sb,cD⟩,pc,hs⟩:=zP (i:=0) pD (by omega);have eJ:=(pc _ ea).2;obtain⟨Ap,⟨wu,rfl,sat,mH⟩,nY,aX⟩:=zP (i:=(F.getD 0 default).sig.toNat) E6.st (by have:(F.getD (0:Int).toNat default).sig<(T.length:Int):=dC.2;have:(F.getD 0 default).sig<(T.length:Int):=this;omega);have mM:=(nY _ ea).2;have hY:=Wu.ext E6.st ea;have lh:Wu (inC (zB 1 h6)) vt T:=hY;have hZ:=Wo.ext E6.sf ea;have dJ:Wo (inC (zB 1 h6)) vf F:=hZ;obtain⟨tV,tW,wC,rfl⟩:=Wi.shape sat;have RB:0<=(F.getD 0 default).sig/\(F.getD 0 default).sig<(T.length:Int):=dC;refine WJ ?_;refine V3 (X:=inC (zB 1 h6)) (cs:=[.int .u8 (zj T F 0).kind,I (zj T F 0).elem,I (zj T F 0).many,.slice tV tW wC]) (Ext.refl _) E6.hm ?_;intro h7 p8 e7 o8;have o7:=o6.ext e7;have E7:=E6.ext e7;have gZ:=eu.trans e7;have RC:WQ h7 (.slice tV tW wC) (zj T F 0).parts:=WQ.ext sat e7;clear lh dJ hY hZ oX eJ mM;refine go ?_;by_cases bD:((zj T F 0).parts.length:Int)>0
  ·refine gr ?_;refine⟨?_,gZ⟩;rw[QC (fun w=>by have:=(hw.out.1 w).1;rw[this]at bD;simp at bD)];rfl
  ·have gz:(zj T F 0).parts=[]:=G7 (by omega);refine go ?_;refine VA (ZL h7 (zj T F 0).elem 1 E7 (.inr ⟨jA.1,jA.2.1⟩)) ?_;rintro _ h8 ⟨rfl,e8⟩;cases c1:Ww T 1 (zj T F 0).elem with
   |false=>
    refine gr ?_;refine⟨?_,gZ.trans e8⟩;rw[QC (fun w=>by have:=(hw.out.1 w).2;rw[this]at c1;cases c1)];rfl
   |true=>
    refine gr ?_;refine⟨?_,gZ.trans e8⟩;rw[QF (hw.out.2 ⟨gz,c1⟩)];rfl
end
end Go.Proofs.YtmejfcakhpihlaaGreatDoor
set_option maxRecDepth 100000
namespace Go.Proofs.YtmejfcakhpihlaaGreatDoor
open Go.Am
theorem zGO(h:WA)(vt:Value)(T:List WE)(k:Int)(st:Wu h vt T)(hT:T.length<=100)(hp:∀ x∈T,x.parts.length<=100)(hc:yS T=0)(hk:0<=k/\k<(T.length:Int)):
  WC Tryz.prog tb 190 [vt,I k] h fun r h'=>r=I 0/\Ext h h':=by
 obtain⟨t1,t2,t3,rfl⟩:=zD st;have ht:yv (T.length:Int) [k]=true:=by unfold yv;simp[hk.1,hk.2]
 refine en ?_;refine VA (zHU h _ T st hT hp) ?_;rintro _ h2 ⟨rfl,e2⟩;rw[hc];have bC:=Wu.ext st e2;refine go ?_;refine WO.bl [k] ?_;intro v3 h3 e3 o3;refine go ?_;refine VA (zAi h3 v3 (T.length:Int) [k] o3.sl (by simp)) ?_;rintro _ h4 ⟨rfl,e4⟩;rw[ht];refine gr ?_;exact⟨rfl,e2.trans (e3.trans e4)⟩
def trF{α:Type}(T:List WE)(a:Int->α)(s:List α->α)(m:Nat->α->α):Nat->Int->α
 |0,k=>a k
 |n+1,k=>let x:=T.getD k.toNat default
  if x.kind=4 then s (x.parts.map (trF T a s m n))else if x.kind=5 then m x.many.toNat (trF T a s m n x.elem)else a k
def trL{α:Type}(T:List WE)(a:Int->α)(s:List α->α)(m:Nat->α->α)(k:Nat):α:=trF T a s m (k+1) k
theorem zFO{T:List WE}{k:Nat}(h:ZM T k)(h4:(T.getD k default).kind=4):(T.getD k default).parts.length<=8/\∀ p∈(T.getD k default).parts,0<=p/\p<(k:Int):=by
 unfold ZM zD7 at h;rcases h with h|h|h|h|h
 ·omega
 ·omega
 ·omega
 ·exact h.2.2.2.2
 ·omega
theorem zIQ{T:List WE}{k:Nat}(h:ZM T k)(h5:(T.getD k default).kind=5):0<=(T.getD k default).elem/\(T.getD k default).elem<(k:Int)/\1<=(T.getD k default).many/\(T.getD k default).many<=16:=by
 unfold ZM zD7 at h;rcases h with h|h|h|h|h<;>omega
section
variable {α:Type}{T:List WE}{a:Int->α}{s:List α->α}{m:Nat->α->α}
theorem zIh:∀ (n q:Nat) (k:Nat),k<n->k<q->(∀ j,j<=k->ZM T j)->trF T a s m n k=trF T a s m q k:=by
 intro n;induction n with
 |zero=>intro m k h;omega
 |succ n ih=>
  intro q k h1 h2 hM;obtain⟨q,rfl⟩:∃ r,q=r+1:=⟨q-1,by omega⟩;have hk:=hM k (QE _);unfold trF;simp only[QL];split
  ·rename_i h4;congr 1;refine Gp fun p hp=> ?_;have f9:=(zFO hk h4).2 p hp;obtain⟨r,rfl⟩:∃ r:Nat,p=r:=⟨p.toNat,by omega⟩;exact ih q r (by omega) (by omega) fun j hj=>hM j (by omega)
  ·split
   ·rename_i h4 h5;have f9:=zIQ hk h5;obtain⟨r,hr⟩:∃ r:Nat,(T.getD k default).elem=r:=⟨(T.getD k default).elem.toNat,by omega⟩;rw[hr,ih q r (by omega) (by omega) fun j hj=>hM j (by omega)]
   ·rfl
theorem zAC{k:Nat}(hM:∀ j,j<=k->ZM T j):trL T a s m k=let x:=T.getD k default
  if x.kind=4 then s (x.parts.map fun p=>trL T a s m p.toNat)else if x.kind=5 then m x.many.toNat (trL T a s m x.elem.toNat)else a k:=by
 have hk:=hM k (QE _);conv=>lhs;unfold trL;rw[trF]
 simp only[QL];split
 ·rename_i h4;congr 1;refine Gp fun p hp=> ?_;have f9:=(zFO hk h4).2 p hp;obtain⟨r,rfl⟩:∃ r:Nat,p=r:=⟨p.toNat,by omega⟩;exact zIh _ _ r (by omega) (by omega) fun j hj=>hM j (by omega)
 ·split
  ·rename_i h4 h5;have f9:=zIQ hk h5;obtain⟨r,hr⟩:∃ r:Nat,(T.getD k default).elem=r:=⟨(T.getD k default).elem.toNat,by omega⟩;rw[hr,QL,zIh k (r+1) r (by omega) (by omega) fun j hj=>hM j (by omega)];rfl
  ·rfl
end
def yG(T:List WE)(k:Nat):List Int:=trL T (fun k=>[k]) List.flatten (fun _ l=>l) k
def zC0:List (List Int×Nat)->List Int×Nat
 |[]=>([],0)
 |x::r=>(x.1++(zC0 r).1.map (fun i=>(x.2:Int)+i),x.2+(zC0 r).2)
def SA(T:List WE)(k:Nat):List Int×Nat:=trL T (fun _=>([0],1)) zC0 (fun n p=>((List.replicate n p.1).flatten,p.2)) k
theorem zGG:∀ (l:List (List Int×Nat)) (x:List Int×Nat),zC0 (l++[x])=((zC0 l).1++x.1.map (fun i=>((zC0 l).2:Int)+i),(zC0 l).2+x.2)
 |[],x=>by simp[zC0]
 |y::l,x=>by
  simp only[JC,zC0,zGG l x,Qx,List.map_map,QT,Nat.add_assoc];congr 3;refine Gp fun i _=> ?_;simp only[Function.comp];omega
theorem zKV{T:List WE}:∀ (n k:Nat),k<n->(∀ j,j<=k->ZM T j)->(SA T k).2=(yG T k).length/\(SA T k).1.length=(BM T k).length/\∀ i∈(SA T k).1,0<=i/\i<((yG T k).length:Int):=by
 intro n;induction n with
 |zero=>intro k h;omega
 |succ n ih=>
  intro k hk hM;have hm:=hM k (QE _);unfold SA yG;rw[zAC hM,zAC hM,zAD hM];simp only;split
  ·rename_i h4;have hp:=(zFO hm h4).2;generalize(T.getD k default).parts=l at *;have hI:∀ p∈l,_:=fun p dv=>ih p.toNat (by have:=hp p dv;omega) fun j hj=>hM j (by have:=hp p dv;omega);clear hp;induction l with
   |nil=>exact⟨rfl,rfl,fun i hi=>by cases hi⟩
   |cons p l cI=>
    obtain⟨a1,a2,a3⟩:=cI fun q hq=>hI q (Qu _ hq);obtain⟨b1,b2,b3⟩:=hI p (Qj ..);unfold SA yG at b1 b3;unfold SA at b2;simp only[Qm,zC0,GW,QM,Qi];refine⟨by omega,by omega,fun i hi=> ?_⟩;rcases Qs.1 hi with hi|hi
    ·have:=b3 i hi;omega
    ·obtain⟨j,hj,rfl⟩:=Qw.1 hi;have:=a3 j hj;omega
  ·split
   ·rename_i h4 h5;have hp:=zIQ hm h5;obtain⟨b1,b2,b3⟩:=ih (T.getD k default).elem.toNat (by omega) fun j hj=>hM j (by omega);unfold SA yG at b1 b3;unfold SA at b2;refine⟨b1,?_,fun i hi=> ?_⟩
    ·simp only[zBE];rw[b2]
    ·obtain⟨l,hl,hi⟩:=List.mem_flatten.1 hi;rw[List.eq_of_mem_replicate hl]at hi;exact b3 i hi
   ·exact⟨rfl,rfl,fun i hi=>by simp at hi;subst hi;simp⟩
theorem zAa{T:List WE}:∀ (n k:Nat),k<n->(∀ j,j<=k->ZM T j)->(yG T k).length<=(BM T k).length:=by
 intro n;induction n with
 |zero=>intro k h;omega
 |succ n ih=>
  intro k hk hM;have hm:=hM k (QE _);unfold yG;rw[zAC hM,zAD hM];simp only;split
  ·rename_i h4;have hp:=(zFO hm h4).2;generalize(T.getD k default).parts=l at *;have hI:∀ p∈l,_:=fun p dv=>ih p.toNat (by have:=hp p dv;omega) fun j hj=>hM j (by have:=hp p dv;omega);clear hp;induction l with
   |nil=>exact QE _
   |cons p l cI=>
    have a:=cI fun q hq=>hI q (Qu _ hq);have b:=hI p (Qj ..);unfold yG at b;simp only[Qm,GW,QM];omega
  ·split
   ·rename_i h4 h5;have hp:=zIQ hm h5;have b:=ih (T.getD k default).elem.toNat (by omega) fun j hj=>hM j (by omega);unfold yG at b;rw[zBE];refine QP b ?_;have:1<=(T.getD k default).many.toNat:=by omega
    exact Nat.le_mul_of_pos_left _ this
   ·exact QE _
def wkL(T:List WE)(o:Bool)(s:Int)(k:Nat):List Int:=if o then yG T k else(SA T k).1.map fun i=>s+i
theorem zAR{T:List WE}{k:Nat}(hM:∀ j,j<=k->ZM T j):yG T k=if(T.getD k default).kind=4 then((T.getD k default).parts.map fun p=>yG T p.toNat).flatten else if(T.getD k default).kind=5 then yG T (T.getD k default).elem.toNat else[(k:Int)]:=zAC hM
theorem zIa{T:List WE}{k:Nat}(hM:∀ j,j<=k->ZM T j):SA T k=if(T.getD k default).kind=4 then zC0 ((T.getD k default).parts.map fun p=>SA T p.toNat)else if(T.getD k default).kind=5 then((List.replicate (T.getD k default).many.toNat (SA T (T.getD k default).elem.toNat).1).flatten,(SA T (T.getD k default).elem.toNat).2)else([0],1):=zAC hM
def zFd(T:List WE)(o:Bool)(s:Int)(ps:List Int):List Int:=if o then(ps.map fun p=>yG T p.toNat).flatten else(zC0 (ps.map fun p=>SA T p.toNat)).1.map fun i=>s+i
theorem zJZ{T:List WE}{o:Bool}{s:Int}{k:Nat}(hM:∀ j,j<=k->ZM T j):wkL T o s k=if(T.getD k default).kind=4 then zFd T o s (T.getD k default).parts else if(T.getD k default).kind=5 then(if o then yG T (T.getD k default).elem.toNat else(List.replicate (T.getD k default).many.toNat (wkL T o s (T.getD k default).elem.toNat)).flatten)else[if o then(k:Int)else s]:=by
 conv=>lhs;unfold wkL
 rw[zAR hM,zIa hM];cases o with
 |true=>unfold zFd;simp only[Q6]
 |false=>
  unfold zFd;simp only[Qa,Gb];split
  ·rfl
  ·split
   ·rw[List.map_flatten,List.map_replicate];rfl
   ·simp
theorem zKL{T:List WE}:∀ {ps:List Int},(∀ p∈ps,(SA T p.toNat).2=(yG T p.toNat).length)->(zC0 (ps.map fun p=>SA T p.toNat)).2=(ps.map fun p=>yG T p.toNat).flatten.length
 |[],_=>rfl
 |p::ps,h=>by
  simp only[Qm,zC0,GW,QM];rw[zKL fun q hq=>h q (Qu _ hq),h p (Qj ..)]
theorem zNy{T:List WE}{o:Bool}{s q:Int}{ps:List Int}(h:∀ p∈ps,(SA T p.toNat).2=(yG T p.toNat).length):
  zFd T o s (ps++[q])=zFd T o s ps++wkL T o (s+((ps.map fun p=>yG T p.toNat).flatten.length:Int)) q.toNat:=by
 unfold zFd wkL;cases o with
 |true=>simp
 |false=>
  simp only[Qa,Gb,Qx,Qm,GP];rw[zGG,zKL h];simp only[Qx,List.map_map];congr 1;refine Gp fun i _=> ?_;simp only[Function.comp];omega
theorem zQx{T:List WE}{o:Bool}{s:Int}{k:Nat}(hM:∀ j,j<=k->ZM T j):(wkL T o s k).length<=(BM T k).length:=by
 unfold wkL;split
 ·exact zAa (k+1) k (Q4 _) hM
 ·rw[Qi,(zKV (k+1) k (Q4 _) hM).2.1];exact QE _
def Wd(p v:Value)(h h':WA)(v':Value):Prop:=h.n<=h'.n/\(∀ g,g<h.n->Bm p≠some g->Bm v≠some g->h'.get g=h.get g)/\∀ b,Bm v'=some b->Bm v=some b\/h.n<=b
theorem Wd.refl(p v:Value)(h:WA):Wd p v h h v:=⟨QE _,fun _ _ _ _=>rfl,fun _ h=> .inl h⟩
theorem Wd.trans{p v v1 v2:Value}{h h1 h2:WA}(a:Wd p v h h1 v1)(b:Wd p v1 h1 h2 v2):Wd p v h h2 v2:=by
 refine⟨QP a.1 b.1,fun g hg h1 h2=> ?_,fun k hk=> ?_⟩
 ·rw[b.2.1 g (QI hg a.1) h1 fun e=> ?_,a.2.1 g hg h1 h2];rcases a.2.2 g e with e|e
  ·exact h2 e
  ·omega
 ·rcases b.2.2 k hk with e|e
  ·exact a.2.2 k e
  ·exact .inr (QP a.1 e)
theorem Wd.ext{p v:Value}{h h':WA}(e:Ext h h'):Wd p v h h' v:=⟨e.n,fun g hg _ _=>e.get g hg,fun _ h=> .inl h⟩
theorem VR{h0 h h':WA}{p q v v':Value}{cs:List Value}(o:WB h0 h q cs)(k:Wd p v h h' v')(d1:WU p q)(d2:WU v q):WB h0 h' q cs/\WU v' q:=by
 have hw:=o.within;obtain⟨g,g1,g2,rfl,g3⟩:=o;refine⟨⟨g,g1,QI g2 k.1,rfl,(k.2.1 g g2 (fun e=>d1 g e rfl) fun e=>d2 g e rfl).trans g3⟩,fun b hb hq=> ?_⟩;cases hq;rcases k.2.2 _ hb with e|e
 ·exact d2 _ e rfl
 ·have e:h.n<=g:=e;omega
end Go.Proofs.YtmejfcakhpihlaaGreatDoor
set_option maxRecDepth 100000
namespace Go.Proofs.YtmejfcakhpihlaaGreatDoor
open Go.Am
structure CW(hB h:WA)(vT pT pF pR vR:Value)(l:List Int):Prop where
 tT:WB hB h pT [vT]
 tF:WB hB h pF [.func (.func 221) #[] #[pT,pF,pR]]
 tR:WB hB h pR [vR]
 own:WL hB h vR l
 fT:WU pR pT
 fF:WU pR pF
 vt:WU vR pT
 vf:WU vR pF
 vr:WU vR pR
 ext:Ext hB h
theorem CW.ext'{hB h h':WA}{vT pT pF pR vR:Value}{l:List Int}(w:CW hB h vT pT pF pR vR l)(e:Ext h h'):CW hB h' vT pT pF pR vR l:=
 ⟨w.tT.ext e,w.tF.ext e,w.tR.ext e,w.own.ext e,w.fT,w.fF,w.vt,w.vf,w.vr,w.ext.trans e⟩
theorem zLh(hB:WA)(vT pT pF pR:Value)(T:List WE)(st:Wu hB vT T)(hT:(T.length:Int)<=1000):∀ (n k:Nat) (h:WA) (vR:Value) (l:List Int),k<n->k<T.length->zEB T k->ZM T k->CW hB h vT pT pF pR vR l->l.length+(BM T k).length<=100->
  WC Tryz.prog tb 221 [I k,pT,pF,pR] h fun r h'=>∃ jI,CW hB h' vT pT pF pR jI (l++BM T k)/\Wd pR vR h h' jI:=by
 obtain⟨t1,t2,t3,rfl⟩:=zD st;intro n;induction n with
 |zero=>intro k h vR l hk;omega
 |succ n ih=>
  intro k h vR l xc hk ag hM w hl;have ft:=zAD (T:=T) (k:=k) fun j hj=>by
   by_cases e:j=k
   ·subst e;exact hM
   ·exact(ag j (by omega)).1
  have IA:=w.ext;have Ca:=st.ext w.ext;have jM:=zFO hM;have Cb:=zIQ hM;obtain⟨cs,⟨va,rfl,sa,br⟩,pc,hs⟩:=zP (i:=k) st hk;replace pc:=(pc _ IA).1;rw[ft]at hl |-;clear ft;generalize T.getD k default=x at *;obtain⟨a1,a2,a3,rfl⟩:=Wi.shape sa;have oT:=w.tT;have oF:=w.tF;have oR:=w.tR;refine en ?_;refine WO.al ?_;intro p h1 e1 o1;refine go ?_;refine VH o1 e1 ?_;intro h2 e2 o2 _;have w2:=w.ext' e2;have pZ:=sa.ext w2.ext;have f1:WU pR p:=(VG o2.since' w.tR.within).symm;have f2:WU vR p:=(VG o2.since' w.own.within).symm;by_cases h4:x.kind=4
  ·have hp:=jM h4;simp only[h4,Q6]at hl |-;have Ds:=hp.1;replace hp:=WK.mk hp;replace ag:=WK.mk ag;refine go ?_;refine VD (fun i=>x.parts.length-i) (fun i t h3=>zC t 23=I i/\i<=x.parts.length/\∃ jI,CW hB h3 (.slice t1 t2 t3) pT pF pR jI (l++((x.parts.take i).map fun p=>BM T p.toNat).flatten)/\Wd pR vR h2 h3 jI) 0 ?_ ?_
   ·exact⟨WH,QK _,vR,by simpa using w2,Wd.refl ..⟩
   rintro i t h3 ab ⟨s7,hi,jI,w3,k3⟩;have i7:=sa.ext w3.ext;have RD:=w3.tT;have RE:=w3.tF;refine go ?_;refine VE (fun hc=> ?_) (fun hc=> ?_)<;>simp only[DB]at hc
   ·have ae:i<x.parts.length:=by omega
    have nM:=hp.out.2 _ (zM ae);have au:=zDc (f:=fun p=>BM T p.toNat) ae;have eh:((x.parts.take (i+1)).map fun p=>BM T p.toNat).flatten.length<=(x.parts.map fun p=>BM T p.toNat).flatten.length:=by
     conv=>rhs;rw[<-GS (i+1) x.parts]
     rw[Qx,List.flatten_append,QM];omega
    obtain⟨q,hq⟩:∃ q:Nat,x.parts.getD i 0=q:=⟨(x.parts.getD i 0).toNat,by omega⟩;have gA:q<k:=by omega
    have mQ:x.parts.getD i default=(q:Int):=hq;rw[mQ]at au;simp only[QL]at au;rw[au,QM]at eh;refine go ?_;rw[hq];refine VQ (WV.func (ih q h3 jI _ (by omega) (by omega) (fun j hj=>ag.out j (by omega)) (ag.out q gA).1 w3 (by rw[QM];omega))) ?_;rintro r h4 ⟨IB,w4,k4⟩;refine go ?_;exact zA (i+1) (by omega) ⟨Wn,by omega,IB,by rw[au,<-QT];exact w4,k3.trans k4⟩
   ·have aK:i=x.parts.length:=by omega
    subst aK;rw[Qg]at w3;refine go ?_;refine BP ?_;exact⟨jI,w3,(Wd.ext e2).trans k3⟩
  by_cases h5:x.kind=5
  ·have hp:=Cb h5;obtain⟨q,hq⟩:∃ q:Nat,x.elem=q:=⟨x.elem.toNat,by omega⟩;obtain⟨m,hm⟩:∃ m:Nat,x.many=m:=⟨x.many.toNat,by omega⟩;have gA:q<k:=by omega
   simp only[h5,Q6,Gb,show ¬((5:Int)=4) by decide,hq,hm,QL]at hl |-;replace ag:=WK.mk ag;rw[zBE]at hl;refine go ?_;refine VD (fun i=>m-i) (fun i t h3=>zC t 35=I i/\i<=m/\∃ jI,CW hB h3 (.slice t1 t2 t3) pT pF pR jI (l++(List.replicate i (BM T q)).flatten)/\Wd pR vR h2 h3 jI) 0 ?_ ?_
   ·exact⟨WH,QK _,vR,by simpa using w2,Wd.refl ..⟩
   rintro i t h3 ab ⟨s7,hi,jI,w3,k3⟩;have RD:=w3.tT;have RE:=w3.tF;have LR:=(VR o2 k3 f1 f2).1;refine go ?_;rw[hm];refine go ?_;refine VE (fun hc=> ?_) (fun hc=> ?_)<;>simp only[DB]at hc
   ·have ae:i<m:=by omega
    have hmul:(i+1)*(BM T q).length<=m*(BM T q).length:=GK _ ae;rw[G8]at hmul;refine go ?_;rw[hq];refine VQ (WV.func (ih q h3 jI _ (by omega) (by omega) (fun j hj=>ag.out j (by omega)) (ag.out q gA).1 w3 (by rw[QM,zBE];omega))) ?_;rintro r h4 ⟨IB,w4,k4⟩;refine go ?_;refine zA (i+1) (by omega) ⟨Wn,by omega,IB,?_,k3.trans k4⟩;rw[List.replicate_succ',List.flatten_append,<-QT];simpa using w4
   ·have aK:i=m:=by omega
    subst aK;refine go ?_;refine BP ?_;exact⟨jI,w3,(Wd.ext e2).trans k3⟩
  ·simp only[h4,h5,Gb]at hl |-;have o2T:=w2.tT;have o2F:=w2.tF;have o2R:=w2.tR;refine go ?_;refine WO.bl [(k:Int)] ?_;intro v h3 e3 o3;have w3:=w2.ext' e3;refine go ?_;refine V8 w3.own o3.sl w3.ext (by simp) (by simp at hl |-;omega) ?_;intro v4 h4 e4 o4 u4;have RF:=w3.tR.upB u4.upB w3.vr;have sn:=WL.since' (.inr o4);have RG:=w3.tT.upB u4.upB w3.vt;have DD:=w3.tF.upB u4.upB w3.vf;obtain⟨g4,q1,q2,rfl,q3⟩:=id o4;refine go ?_;refine VH RF e4 ?_;intro h5 e5 o5 u5;refine go ?_;refine BP ?_;have hv:WU _ pR:=VG sn w3.tR.within;refine⟨_,⟨RG.upB u5.upB w3.fT,DD.upB u5.upB w3.fF,o5,WL.upB (.inr (o4.since w3.ext)) u5.upB hv.symm,w3.fT,w3.fF,VG sn w3.tT.within,VG sn w3.tF.within,hv,e5⟩,?_⟩;refine(Wd.ext (e2.trans e3)).trans ⟨QP u4.1 u5.1,fun g hg h1 h2=> ?_,fun b hb=> .inr (sn b hb)⟩;rw[u5.upB.2 g (QI hg u4.1) h1,u4.upB.2 g hg h2]
theorem zMX(h:WA)(vT:Value)(T:List WE)(k:Nat)(st:Wu h vT T)(hT:(T.length:Int)<=1000)(hk:k<T.length)(ag:∀ j,j<T.length->ZM T j/\(BM T j).length<=32):
  WC Tryz.prog tb 191 [vT,I k] h fun r h'=>WL h h' r (BM T k)/\Ext h h':=by
 obtain⟨t1,t2,t3,rfl⟩:=zD st;refine en ?_;refine VF ?_;intro pT h1 e1 oT;refine go ?_;refine WO.al ?_;intro pR h2 e2 oR;refine go ?_;refine WO.al ?_;intro pF h3 e3 oF;refine go ?_;refine VH (cs:=[.func (.func 221) #[] #[pT,pF,pR]]) oF e3 ?_;intro h4 e4 DD _;have bz:=e1.trans (e2.trans e4);have oT:WB h h1 pT [.slice t1 t2 t3]:=oT;have a1:=VG oR.since' oT.within;have a2:=VG DD.since' oR.within;have w:CW h h4 (.slice t1 t2 t3) pT pF pR (.slice none 0 0) []:=
  ⟨oT.ext (e2.trans e4),DD.since (e1.trans e2),(oR.ext e4).since e1,.inl ⟨rfl,rfl⟩,a1,a2.symm,(fun b hb=>by cases hb),(fun b hb=>by cases hb),(fun b hb=>by cases hb),bz⟩
 have hwF:=w.tF;have hl:=ag k hk;refine go ?_;refine VQ (WV.func (zLh h _ pT pF pR T st hT (k+1) k h4 _ [] (by omega) hk (fun j hj=>ag j (by omega)) hl.1 w (by simp;omega))) ?_;rintro r h5 ⟨vR,w5,k5⟩;rw[GJ]at w5;have ow:=w5.own;obtain⟨r1,r2,r3,rfl⟩:=Wi.shape ow.sl;have o5:=w5.tR;refine go ?_;refine VH o5 w5.ext ?_;intro h6 e6 o6 u6;refine go ?_;refine rt ?_ (Ve WH o6 rfl BQ.nil);exact⟨ow.upB u6.upB w5.vr.symm,e6⟩
theorem zM1(h:WA)(vT:Value)(T:List WE)(k:Int)(st:Wu h vT T)(hT:T.length<=100)(hp:∀ x∈T,x.parts.length<=100)(hc:yS T=0)(hk:0<=k/\k<(T.length:Int)):
  WC Tryz.prog tb 131 [vT,I k] h fun r h'=>(∃ v,r=.tuple #[v,I 0]/\WL h h' v (BM T k.toNat))/\Ext h h':=by
 obtain⟨k,rfl⟩:∃ q:Nat,k=q:=⟨k.toNat,by omega⟩;obtain⟨t1,t2,t3,rfl⟩:=zD st;have hl:∀ j,j<T.length->ZM T j/\(BM T j).length<=32:=by
  have h1:=hc;rw[zAz]at h1;split at h1
  ·cases h1
  ·split at h1
   ·assumption
   ·cases h1
 refine en ?_;refine VA (zGO h _ T k st hT hp hc hk) ?_;rintro _ h2 ⟨rfl,e2⟩;have bC:=Wu.ext st e2;refine go ?_;refine VA (zMX h2 _ T k bC (by omega) (by omega) hl) ?_;rintro v h3 ⟨o3,e3⟩;refine gr ?_;exact⟨⟨v,rfl,o3.since e2⟩,e2.trans e3⟩
end Go.Proofs.YtmejfcakhpihlaaGreatDoor
set_option maxRecDepth 100000
namespace Go.Proofs.YtmejfcakhpihlaaGreatDoor
open Go.Am
theorem zBP{T:List WE}(h1:yS T=0):∀ j,j<T.length->ZM T j/\(BM T j).length<=32:=by
 rw[zAz]at h1;split at h1
 ·cases h1
 ·split at h1
  ·assumption
  ·cases h1
structure KW(hB h:WA)(vT p vA:Value)(b:Nat)(o:Bool)(jJ:FuncId)(s:Int)(l:List Int):Prop where
 own:WB hB h p [vT,.bool o,.func (.func jJ) #[] #[],I s,vA]
 uy:OwnR 1 RI b h vA l
 pb:∀ g,p=.pointer (some ⟨g,0,none⟩)->g<b
 bn:b<=h.n
 ext:Ext hB h
theorem KW.off{hB h:WA}{vT p vA:Value}{b:Nat}{o:Bool}{jJ:FuncId}{s:Int}{l:List Int}(w:KW hB h vT p vA b o jJ s l):WU p vA:=by
 obtain⟨g,_,_,rfl,_⟩:=w.own;have hg:=w.pb g rfl;intro c hc hv;cases hc;rcases w.uy with⟨rfl,_⟩|⟨g2,_,_,g3,_,rfl,_⟩
 ·cases hv
 ·cases hv;exact Nat.lt_irrefl _ (QI hg g3)
theorem zPR(hB:WA)(bU:hB.mark<=hB.n)(vT p:Value)(b:Nat)(o:Bool)(jJ:FuncId)(T:List WE)(st:Wu hB vT T)(hT:(T.length:Int)<=1000)
  (hf:∀ (h:WA) (k:Nat) (s:Int),WC Tryz.prog tb jJ [I k,I s] h fun r h'=>r=I (if o then(k:Int)else s)/\h=h'):∀ (n k:Nat) (h:WA) (vA:Value) (s:Int) (l:List Int),k<n->k<T.length->zEB T k->ZM T k->KW hB h vT p vA b o jJ s l->hB.n<=b->0<=s->s+300*k<=1000000000->l.length+600*k<=90000->
  WC Tryz.prog tb 133 [p,I k] h fun r h'=>∃ iF,KW hB h' vT p iF b o jJ (s+(yG T k).length) (l++wkL T o s k)/\Wd p vA h h' iF:=by
 obtain⟨t1,t2,t3,rfl⟩:=zD st;intro n;induction n with
 |zero=>intro k h vA s l hk;omega
 |succ n ih=>
  intro k h vA s l xc hk ag hM w hb s0 s1 hl;have aF:∀ j,j<=k->ZM T j:=fun j hj=>by
   by_cases e:j=k
   ·subst e;exact hM
   ·exact(ag j (by omega)).1
  have IA:=w.ext;have Ca:=st.ext w.ext;have jM:=zFO hM;have Cb:=zIQ hM;obtain⟨cs,⟨va,rfl,sa,br⟩,pc,hs⟩:=zP (i:=k) st hk;replace pc:=(pc _ IA).1;have gR:∀ q,q<k->(yG T q).length<=32/\(∀ s',(wkL T o s' q).length<=32)/\(SA T q).2=(yG T q).length:=fun q hq=>by
   have h1:=(ag q hq).2;have h2:∀ j,j<=q->ZM T j:=fun j hj=>aF j (by omega);exact⟨QP (zAa (q+1) q (Q4 _) h2) h1,fun s'=>QP (zQx h2) h1,(zKV (q+1) q (Q4 _) h2).1⟩
  rw[zAR aF,zJZ aF];generalize T.getD k default=x at *;obtain⟨a1,a2,a3,rfl⟩:=Wi.shape sa;have oW:=w.own;obtain⟨gp,_,_,rfl,_⟩:=id oW;refine en ?_;refine WO.al ?_;intro p4 h1 e1 o1;refine go ?_;refine VH o1 e1 ?_;intro h2 e2 o2 _;have IC:=oW.ext e2;have w2:KW hB h2 (.slice t1 t2 t3) (.pointer (some ⟨gp,0,none⟩)) vA b o jJ s l:=⟨IC,OwnR.ext w.uy e2,w.pb,QP w.bn e2.n,w.ext.trans e2⟩;have pZ:=sa.ext w2.ext;have f2:WU vA p4:=(VG o2.since' w.uy.within).symm;have f1:WU (.pointer (some ⟨gp,0,none⟩)) p4:=(VG o2.since' oW.within).symm;replace gR:=WK.mk gR;replace aF:=WK.mk aF;by_cases h4:x.kind=4
  ·have hp:=jM h4;simp only[h4,Q6];have Ds:=hp.1;replace hp:=WK.mk hp;replace ag:=WK.mk ag;have hN:WK (∀ i,∀ p∈x.parts.take i,(SA T p.toNat).2=(yG T p.toNat).length):=⟨fun i p dv=>(gR.out p.toNat (by have:=hp.out.2 p (Q5 dv);omega)).2.2⟩;refine go ?_;refine VD (fun i=>x.parts.length-i) (fun i t h3=>zC t 50=I i/\i<=x.parts.length/\∃ iF,KW hB h3 (.slice t1 t2 t3) (.pointer (some ⟨gp,0,none⟩)) iF b o jJ (s+(((x.parts.take i).map fun p=>yG T p.toNat).flatten.length:Int)) (l++zFd T o s (x.parts.take i))/\Wd (.pointer (some ⟨gp,0,none⟩)) vA h2 h3 iF/\(zFd T o s (x.parts.take i)).length<=32*i) 0 ?_ ?_
   ·refine⟨WH,QK _,vA,?_,Wd.refl ..,?_⟩
    ·have:zFd T o s []=[]:=by cases o<;>rfl
     simpa [this]using w2
    ·have:zFd T o s []=[]:=by cases o<;>rfl
     simp[this]
   rintro i t h3 ab ⟨s7,hi,iF,w3,k3,RH⟩;have i7:=sa.ext w3.ext;refine go ?_;refine VE (fun hc=> ?_) (fun hc=> ?_)<;>simp only[DB]at hc
   ·have ae:i<x.parts.length:=by omega
    have nM:=hp.out.2 _ (zM ae);obtain⟨q,hq⟩:∃ q:Nat,x.parts.getD i 0=q:=⟨(x.parts.getD i 0).toNat,by omega⟩;have gA:q<k:=by omega
    have AI:x.parts.take (i+1)=x.parts.take i++[(q:Int)]:=by
     rw[Q1,QB ae,<-hq];simp[List.getD,QB ae]
    have bp:=zNy (o:=o) (s:=s) (q:=(q:Int)) (hN.out i);have cG:=zBN (l:=x.parts.take i) (f:=fun p=>yG T p.toNat) fun p dv=>(gR.out p.toNat (by have:=hp.out.2 p (Q5 dv);omega)).1;have LS:(x.parts.take i).length<=i:=List.length_take_le _ _;have Cc:=gR.out q gA;rw[QL]at bp;have lF:((x.parts.take (i+1)).map fun p=>yG T p.toNat).flatten.length=((x.parts.take i).map fun p=>yG T p.toNat).flatten.length+(yG T q).length:=by
     rw[AI];simp
    refine go ?_;rw[hq];refine VA (ih q h3 iF _ _ (by omega) (by omega) (fun j hj=>ag.out j (by omega)) (ag.out q gA).1 w3 hb (by omega) (by omega) (by rw[QM];omega)) ?_;rintro r h4 ⟨RJ,w4,k4⟩;refine go ?_;refine zA (i+1) (by omega) ⟨Wn,by omega,RJ,?_,k3.trans k4,?_⟩
    ·rw[lF,AI,bp,<-QT,Int.natCast_add,<-Int.add_assoc];exact w4
    ·rw[AI,bp,QM];have:=Cc.2.1 (s+(((x.parts.take i).map fun p=>yG T p.toNat).flatten.length:Int));omega
   ·have aK:i=x.parts.length:=by omega
    subst aK;rw[Qg]at w3;refine go ?_;refine BP ?_;exact⟨iF,w3,(Wd.ext e2).trans k3⟩
  by_cases h5:x.kind=5
  ·have hp:=Cb h5;obtain⟨q,hq⟩:∃ q:Nat,x.elem=q:=⟨x.elem.toNat,by omega⟩;obtain⟨m,hm⟩:∃ m:Nat,x.many=m:=⟨x.many.toNat,by omega⟩;have gA:q<k:=by omega
   simp only[h5,Q6,Gb,show ¬((5:Int)=4) by decide,hq,hm,QL];replace ag:=WK.mk ag;refine go ?_;refine V2 ?_;refine go ?_;refine VD (fun i=>m-i) (fun i t h3=>zC t 68=I i/\i<=m/\(o=true->i<=1)/\∃ iF,KW hB h3 (.slice t1 t2 t3) (.pointer (some ⟨gp,0,none⟩)) iF b o jJ (if i=0 then s else s+((yG T q).length:Int)) (l++if o then(if i=0 then[]else yG T q)else(List.replicate i (wkL T o s q)).flatten)/\Wd (.pointer (some ⟨gp,0,none⟩)) vA h2 h3 iF) 0 ?_ ?_
   ·exact⟨WH,QK _,fun _=>QK _,vA,by cases o<;>simpa using w2,Wd.refl ..⟩
   rintro i t h3 ab ⟨s7,hi,LU,iF,w3,k3⟩;have LR:=(VR o2 k3 f1 f2).1;have LV:=w3.own;refine go ?_;rw[hm];refine go ?_;refine VE (fun hc=> ?_) (fun hc=> ?_)<;>simp only[DB]at hc
   ·have ae:i<m:=by omega
    by_cases ID:o=true/\i≠0
    ·obtain⟨rfl,mz⟩:=ID;have qT:i=1:=by have:=LU rfl;omega
     subst qT;refine go ?_;refine BP ?_;exact⟨iF,by simpa using w3,(Wd.ext e2).trans k3⟩
    ·have hw:(if o then(if i=0 then[]else yG T q)else(List.replicate i (wkL T o s q)).flatten)++wkL T o s q=(if o then(if i+1=0 then[]else yG T q)else(List.replicate (i+1) (wkL T o s q)).flatten)/\(if o then(if i=0 then[]else yG T q)else(List.replicate i (wkL T o s q)).flatten).length<=32*i:=by
      cases o with
      |true=>
       have:i=0:=by have:=LU rfl;exact Gi fun h=>ID ⟨rfl,h⟩
       subst this;simp[wkL]
      |false=>
       simp only[Qa,Gb];rw[List.replicate_succ',List.flatten_append];have:=(gR.out q gA).2.1 s;have h2:=zBE i (wkL T false s q);have h3:=Nat.mul_le_mul_left i this;exact⟨by simp,by omega⟩
     have RK:o=true->i=0:=fun h=>Gi fun h2=>ID ⟨h,h2⟩;have ft:=w3.off;have f3:=(VR o2 k3 f1 f2).2;have Cc:=gR.out q gA;cases o;all_goals
      first|(have mz:i=0:=RK rfl)|skip
      refine go ?_
      refine VX (j:=3) (cs:=[I s]) (hl:=by simp) LV w3.ext ?_
      intro h4 e4 IE u4
      replace IE:WB hB h4 (.pointer (some ⟨gp,0,none⟩)) [.slice t1 t2 t3,.bool _,.func (.func jJ) #[] #[],I s,iF]:=IE
      have o4p:=WB.upB LR u4.upB f1
      have w4:=KW.mk IE (OwnR.upB (fun _ _ _ _ h=>h) w3.uy u4.upB ft) w3.pb (QP w3.bn u4.1) e4
      refine go ?_
      rw[hq]
      refine VQ (WV.func (ih q h4 iF s _ (by omega) (by omega) (fun j hj=>ag.out j (by omega)) (ag.out q gA).1 w4 hb s0 (by omega) (by rw[QM];omega))) ?_
      rintro r h5 ⟨RL,w5,k5⟩
      refine go ?_
      refine zA (i+1) (by omega) ⟨Wn,by omega,(fun h=>by first|omega|cases h),RL,?_,k3.trans (Wd.trans ⟨u4.1,fun g hg h1 _=>u4.upB.2 g hg h1,fun _ h=> .inl h⟩ k5)⟩
      rw[QT,hw.1]at w5
      simpa using w5
   ·have aK:i=m:=by omega
    subst aK;refine go ?_;refine BP ?_;have eo:i≠0:=by omega
    exact⟨iF,by simpa [eo]using w3,(Wd.ext e2).trans k3⟩
  ·simp only[h4,h5,Gb];refine go ?_;refine VC 1 rfl rfl ?_;have LW:=IC.ext (zH 1 h2);have oWX:WB hB (inC (zB 1 h2)) (.pointer (some ⟨gp,0,none⟩)) [.slice t1 t2 t3,.bool o,.func (.func jJ) #[] #[],I s,vA]:=LW;clear LW;have eg:∃ c1 c2 c3,vA=.slice c1 c2 c3:=by
    rcases w2.uy with⟨rfl,_⟩|⟨_,_,_,_,_,rfl,_⟩
    ·exact⟨_,_,_,rfl⟩
    ·exact⟨_,_,_,rfl⟩
   obtain⟨c1,c2,c3,rfl⟩:=eg;refine WJ ?_;refine VQ (WV.func (hf _ k s)) ?_;rintro _ _ ⟨rfl,rfl⟩;refine nE (Ext.refl _) ?_;refine XA (hB:=hB) (b:=b) (v:= .slice c1 c2 c3) (if o then(k:Int)else s) (fun _=>False) (Ext.refl _) w2.uy w2.ext (by have:=w2.ext.mark;omega) hb w2.bn (by decide) (by omega) IC w2.pb (fun _ _ _=>rfl) (fun _ h=>h.elim) (fun _ _ _ _ h=>h) id (by simp) rfl ?_;intro H v' t' ab eH oH a9 lH sH kH nH;replace oH:WB hB H (.pointer (some ⟨gp,0,none⟩)) [.slice t1 t2 t3,.bool o,.func (.func jJ) #[] #[],I s,v']:=oH;have wH:=KW.mk oH lH w2.pb (QP w2.bn nH) eH;refine go ?_;refine VX (j:=3) (cs:=[I (s+1)]) (hl:=by simp) oH eH ?_;intro h5 e5 o5 u5;replace o5:WB hB h5 (.pointer (some ⟨gp,0,none⟩)) [.slice t1 t2 t3,.bool o,.func (.func jJ) #[] #[],I (s+1),v']:=o5;refine go ?_;refine BP ?_;refine⟨v',⟨o5,OwnR.upB (fun _ _ _ _ h=>h) lH u5.upB wH.off,w2.pb,QP wH.bn u5.1,e5⟩,(Wd.ext e2).trans ⟨QP nH u5.1,fun g hg h1 h2=> ?_,fun b hb=> .inr (sH b hb)⟩⟩;rw[u5.upB.2 g (QI hg nH) h1];exact kH g hg (fun e=>by cases e;exact h1 rfl) (fun _ _ e=>by cases e;exact h2 rfl)
theorem zJV(h:WA)(k:Nat)(s:Int):WC Tryz.prog tb 132 [I k,I s] h fun r h'=>r=I (if true then(k:Int)else s)/\h=h':=by
 refine en ?_;refine rt ?_;exact⟨rfl,rfl⟩
theorem zFt(h:WA)(vT:Value)(T:List WE)(k:Int)(st:Wu h vT T)(hT:T.length<=100)(hp:∀ x∈T,x.parts.length<=100)(hc:yS T=0)(hk:0<=k/\k<(T.length:Int))(hm:h.mark<=h.n):
  WC Tryz.prog tb 80 [vT,I k] h fun r h'=>(∃ v,r=.tuple #[v,I 0]/\WL h h' v (yG T k.toNat))/\Ext h h':=by
 obtain⟨k,rfl⟩:∃ q:Nat,k=q:=⟨k.toNat,by omega⟩;obtain⟨t1,t2,t3,rfl⟩:=zD st;have hl:=zBP hc;refine en ?_;refine VA (zM1 h _ T k st hT hp hc hk) ?_;rintro _ h2 ⟨⟨v2,rfl,o2⟩,e2⟩;refine go ?_;refine VF ?_;intro p h3 e3 o3;obtain⟨gp,_,_,rfl,_⟩:=id o3;have aN:=e2.trans e3;have sW:∀ g,Value.pointer (some ⟨gp,0,none⟩)=.pointer (some ⟨g,0,none⟩)->g<h3.n:=fun g e=>o3.within _ (by rw[e];rfl);have w:KW h h3 (.slice t1 t2 t3) (.pointer (some ⟨gp,0,none⟩)) (.slice none 0 0) h3.n true 132 0 []:=⟨o3.since e2,.inl ⟨rfl,rfl⟩,sW,QE _,aN⟩;refine go ?_;refine VA (zPR h hm _ _ h3.n true 132 T st (by omega) zJV (k+1) k h3 _ 0 [] (by omega) (by omega) (fun j hj=>hl j (by omega)) (hl k (by omega)).1 w aN.n (by omega) (by omega) (by simp;omega)) ?_;rintro _ h4 ⟨vA,w4,k4⟩;have o4:=w4.own;refine gr ?_;exact⟨⟨vA,rfl,zCc w4.uy aN.n⟩,w4.ext⟩
structure W2 where
 fn:Int
 nr:Int
 ty:Int
instance:Inhabited W2:=⟨⟨0,0,0⟩⟩
def RSt(_:WA)(cs:List Value)(x:W2):Prop:=cs=[I x.fn,I x.nr,I x.ty]
abbrev SlS(h:WA)(v:Value)(l:List W2):Prop:=BE 3 RSt h v l
theorem zFG(h h':WA)(cs:List Value)(a:W2)(r:RSt h cs a):RSt h' cs a:=r
theorem SlS.ext{h h' v l}(s:SlS h v l)(e:Ext h h'):SlS h' v l:=BE.ext (fun _ _ r=>zFG _ _ _ _ r) s e
def yz(x:Wj):Bool:=decide (x.op=11)||decide (x.op=12)
def ZC(T:List WE)(f:Int):Int->List Wj->List W2
 |_,[]=>[]
 |n,x::l=>(if yz x then[⟨f,n,(T.getD x.ty.toNat default).elem⟩]else[])++ZC T f (n+1) l
def yq(T:List WE)(f:Int):Int->List Wc->List W2
 |_,[]=>[]
 |n,b::l=>ZC T f n b.ins++yq T f (n+b.ins.length) l
def y8(T:List WE):Int->List Wa->List W2
 |_,[]=>[]
 |f,g::l=>yq T f ((T.getD g.sig.toNat default).parts.length:Int) g.blocks++y8 T (f+1) l
def zR(T:List WE)(F:List Wa):List W2:=y8 T 0 F
section
variable {T:List WE}{f:Int}
theorem zBQ{x:Wj}:∀ {l:List Wj} {n:Int},ZC T f n (l++[x])=ZC T f n l++(if yz x then[⟨f,n+l.length,(T.getD x.ty.toNat default).elem⟩]else[])
 |[],n=>by simp[ZC]
 |y::l,n=>by
  simp only[JC,ZC,zBQ (l:=l),QT,GF];congr 3;rw[show n+1+(l.length:Int)=n+((l.length+1:Nat):Int) by omega]
theorem zA3:∀ {l:List Wj} {n:Int},(ZC T f n l).length<=l.length
 |[],_=>QE _
 |x::l,n=>by
  have:=zA3 (l:=l) (n:=n+1);simp only[ZC,QM,GF];split<;>simp<;>omega
theorem zBf{b:Wc}:∀ {l:List Wc} {n:Int},yq T f n (l++[b])=yq T f n l++ZC T f (n+zJ l) b.ins
 |[],n=>by simp[yq,zJ]
 |c::l,n=>by
  simp only[JC,yq,zBf (l:=l),QT];rw[Zj,Int.add_assoc]
theorem zA9:∀ {l:List Wc} {n:Int},((yq T f n l).length:Int)<=zJ l
 |[],_=>by simp[yq,zJ]
 |b::l,n=>by
  have h1:=zA9 (l:=l) (n:=n+b.ins.length);have h2:=zA3 (T:=T) (f:=f) (l:=b.ins) (n:=n);rw[Zj];simp only[yq,QM];omega
theorem zBT{g:Wa}:∀ {l:List Wa} {f:Int},y8 T f (l++[g])=y8 T f l++yq T (f+l.length) ((T.getD g.sig.toNat default).parts.length:Int) g.blocks
 |[],f=>by simp[y8]
 |c::l,f=>by
  simp only[JC,y8,zBT (l:=l),QT,GF];congr 3;omega
theorem zA7:∀ {l:List Wa} {f:Int},(∀ g∈l,zJ g.blocks<=128)->(y8 T f l).length<=128*l.length
 |[],_,_=>QE _
 |g::l,f,h=>by
  have h1:=zA7 (l:=l) (f:=f+1) fun q hq=>h q (Qu _ hq);have h2:=zA9 (T:=T) (f:=f) (l:=g.blocks) (n:=((T.getD g.sig.toNat default).parts.length:Int));have h3:=h g (Qj ..);simp only[y8,QM,GF];omega
end
theorem zCn:∀ l:List Wc,0<=zJ l
 |[]=>by simp[zJ]
 |b::l=>by have:=zCn l;rw[Zj];omega
theorem zBm(l:List Wc)(j:Nat):0<=zJ (l.take j)/\zJ (l.take j)<=zJ l:=by
 have h:zJ l=zJ (l.take j)+zJ (l.drop j):=by
  conv=>lhs;rw[<-GS j l]
  unfold zJ;rw[Qx,Gq]
 have h1:=zCn (l.take j);have h2:=zCn (l.drop j);omega
theorem ZP{α:Type}[Inhabited α]{l:List α}{i:Nat}(h:i<l.length):l.take (i+1)=l.take i++[l.getD i default]:=by
 rw[Q1,QB h];simp[List.getD,QB h]
end Go.Proofs.YtmejfcakhpihlaaGreatDoor
