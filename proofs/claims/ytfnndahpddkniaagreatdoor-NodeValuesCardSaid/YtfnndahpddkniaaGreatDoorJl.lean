/- Walks of functions, plain laws; proves no statement. -/
import Derived.Test.YtfnndahpddkniaaGreatDoorJk
set_option linter.all false
set_option maxHeartbeats 2000000
set_option maxRecDepth 100000
namespace Go.Proofs.YtfnndahpddkniaaGreatDoor
open Go.Am
def zEQ(B:WL)(i:Nat):Prop:=0<i->(B.ins.getD (i-1) default).op=22
theorem zMn{T:List U2}{F:List WM}{ks:List Int}{ps:List (Int×Int)}{nx:Int->List Int}{L:List WL}{P:List Int}{b:Int}{B:WL}:
  (∀ i,i<B.ins.length->zAY T F ks ps nx L P b i (∀ j,j<i->(B.ins.getD j default).op=22) (B.ins.getD i default))↔(∀ i,i<B.ins.length->zAY T F ks ps nx L P b i (zEQ B i) (B.ins.getD i default)):=by
 constructor
 ·intro h i hi;obtain⟨a,b,c,d⟩:=h i hi;exact⟨a,b,fun e=>⟨fun h0=>(c e).1 _ (by omega),(c e).2⟩,d⟩
 ·intro h i hi;have key:∀ k,k<B.ins.length->(B.ins.getD k default).op=22->∀ j,j<=k->(B.ins.getD j default).op=22:=fun k=>by
   induction k with
   |zero=>intro _ e j hj;rw[show j=0 by omega];exact e
   |succ k ih=>
    intro hk e j hj;by_cases hjk:j=k+1
    ·rw[hjk];exact e
    ·exact ih (by omega) (((h (k+1) hk).2.2.1 e).1 (by omega)) j (by omega)
  obtain⟨a,b,c,d⟩:=h i hi;exact⟨a,b,fun e=>⟨fun j hj=>key i hi e j (by omega),(c e).2⟩,d⟩
section
variable {vt vf:Value}{T:List U2}{F:List WM}
theorem zL0(h:U0)(f b:Int)(i:Nat)(E:En h vt vf T F)(hp:yu T F=0)(Z:FnIn T F f)(hway:∀ c,0<=c->c<((zJ F f).length:Int)->WU (WZ (zJ F f)) 0 c)(hb:0<=b/\b<((zJ F f).length:Int))(hi:i<((zJ F f).getD b.toNat default).ins.length)(hop:(((zJ F f).getD b.toNat default).ins.getD i default).op=22):
  WC Tryz.prog tb 117 [.agg #[vt,vf],I f,I b,I i] h fun q h'=>(∃ bb,q=.bool bb/\(bb=true↔zEQ ((zJ F f).getD b.toNat default) i/\(((zJ F f).getD b.toNat default).ins.getD i default).frm=zR (zJ F f) b (zJ F f).length/\
   zPR (WZ (zJ F f)) (Bi T F f) (zJ F f) (((zJ F f).getD b.toNat default).ins.getD i default).frm (((zJ F f).getD b.toNat default).ins.getD i default).args))/\Ext h h':=by
 have hf:=Z.hf;have hF:=E.sm.funcs;have hreg:=Z.reg;have hn16:=Z.n16;have hb0:=Z.bl 0 (Qe 0) (by have:=Z.n1;omega);have hbe:(zF T F f 0).2=0:=by rw[hb0]
 have hask:∀ c,0<=c->c<((zJ F f).length:Int)->YN T F f c=0:=fun c c0 c1=>by
  unfold YN;rw[QC (fun e=>e hbe),QC (by rw[hb0];show ¬(_\/((zJ F f).length:Int)<=_);omega),QF ((Zl hbe).2 (by rw[hb0];exact hway c c0 c1))]
 have hU:=(Z.U _ (zG (l:=zJ F f) (i:=b.toNat) (by omega))).ins _ (zG hi);obtain⟨hfl,hargs,hfrm⟩:=hU.phi hop;have ha20:=hU.args;have hset:∀ (k:Nat),k<(((zJ F f).getD b.toNat default).ins.getD i default).frm.length->_:=fun k hk=>zL8 (f:=f) (r:=(((zJ F f).getD b.toNat default).ins.getD i default).args.getD k 0) (block:=(((zJ F f).getD b.toNat default).ins.getD i default).frm.getD k 0) (at':=(((zJ F f).getD ((((zJ F f).getD b.toNat default).ins.getD i default).frm.getD k 0).toNat default).ins.length:Int)) hp Z (hargs _ (zO (by omega))).1 (by have:=(hargs _ (zO (l:=(((zJ F f).getD b.toNat default).ins.getD i default).args) (i:=k) (by omega))).2;omega) (hfrm _ (zO hk));have hil:∀ B∈zJ F f,B.ins.length<=1000:=E.sm.ins _ (zG (l:=F) (i:=f.toNat) (by omega));replace hset:=WE.mk @hset;replace hargs:=WE.mk hargs;replace hfrm:=WE.mk hfrm;replace hask:=WE.mk hask;replace hway:=WE.mk hway;replace hil:=WE.mk hil;refine en ?_;refine VF ?_;intro p4 h4 e4 o4;replace o4:U1 h h4 p4 [vt,vf]:=o4;have E4:=E.ext e4;have sf4:=E4.sf;obtain⟨cs,⟨vb,rfl,sb,hlb⟩,pc,hs⟩:=zW (i:=f.toNat) sf4 (by omega);have sb:Wi h4 vb (zJ F f):=sb;have pc4:=(pc _ (Ext.refl _)).1;obtain⟨csb,⟨vi,rfl,si,hli⟩,pcb,hsb⟩:=zW (i:=b.toNat) sb (by omega);have pcb4:=(pcb _ (Ext.refl _)).1;generalize hBd:(zJ F f).getD b.toNat default=B at *;obtain⟨csx,hR,pcx,hsx⟩:=zW (i:=i) si hi;have pcx4:=(pcx _ (Ext.refl _)).1;generalize hxd:B.ins.getD i default=x at *;obtain⟨xa,xf,rfl,sxa,sxf,hla,hlf,ho⟩:=id hR;obtain⟨a1,a2,a3,rfl⟩:=WW.shape sxa;obtain⟨f1,f2,f3,rfl⟩:=WW.shape sxf;obtain⟨v1,v2,v3,rfl⟩:=zD si;refine go ?_;refine VL ?_;intro p9 h5 e5 o9;refine go ?_;refine VH (cs:=[.slice v1 v2 v3,.int .u8 B.fin.kind,I B.fin.a,I B.fin.to,I B.fin.els]) o9 e5 ?_;intro h6 e6 o9 u9;have si6:=BB.ext si e6;have pcx6:=(pcx _ e6).1;have o46:=o4.ext e6;refine go ?_;refine VL ?_;intro p10 h7 e7 o10;refine go ?_;refine VH (cs:=[.int .u8 x.op,I x.ty,I x.a,I x.b,I x.n,.slice a1 a2 a3,.slice f1 f2 f3]) o10 e7 ?_;intro h8 e8 o10 u10;have e48:=e6.trans e8;have e08:=e4.trans e48;have o48:=o46.ext e8;have o98:=o9.ext e8;have E8:=E4.ext e48;have sxa8:=sxa.ext e48;have sxf8:=sxf.ext e48;refine go ?_;refine VK (fun t h'=>Ext h8 h'/\∃ q,zB t 51=.bool q/\WE (q=false↔zEQ B i/\x.frm=zR (zJ F f) b (zJ F f).length)) ?_ ?_
 ·refine VC 0 rfl rfl ?_;have ea:=zI 0 h8;have o4X:=VG (o48.ext ea);have o9X:=VG (o98.ext ea);have o10X:=VG (o10.ext ea);have sf8:=E8.sf;have sfX:Wd (inC (zC 0 h8)) vf F:=sf8;have pcX:=(pc _ (e48.trans ea)).2;have sbX0:=Wi.ext sb (e48.trans ea);have sbX:Wi (inC (zC 0 h8)) vb (zJ F f):=sbX0;have sxfX:=VM (sxf8.ext ea);refine U9 ?_;refine VA (zJ6 _ vb (zJ F f) b sbX (by omega)) ?_;rintro va X9 ⟨oa,e9⟩;refine nE e9 ?_;have e9':=ea.trans (zV (h:=h8) e9);have sxf9:=VM (sxfX.ext e9);have o99:=VG (o9X.ext e9);have si90:=BB.ext si (e48.trans e9');have si9:BB (inC X9) (.slice v1 v2 v3) B.ins:=si90;refine U9 ?_;refine VA (Y3 _ _ va x.frm _ sxf9 (VM oa.sl) (by omega)) ?_;rintro _ _ ⟨rfl,rfl⟩;refine nQ ?_;by_cases cA:x.frm=zR (zJ F f) b (zJ F f).length;case neg=>
   rw[QQ cA];refine U9 ?_;exact zE ⟨e9',true,U6,⟨by simp[cA]⟩⟩
  rw[QT cA];by_cases c0:i=0
  ·subst c0;refine U9 ?_;exact zE ⟨e9',false,U6,⟨by simp[cA,zEQ]⟩⟩
  ·obtain⟨csy,⟨ya,yf,rfl,sya,syf,hya,hyf,hyo⟩,pcy,hsy⟩:=zW (i:=i-1) si (by omega);obtain⟨y1,y2,y3,rfl⟩:=WW.shape sya;obtain⟨y4,y5,y6,rfl⟩:=WW.shape syf;have pcy9:=(pcy _ (e48.trans e9')).2;generalize hyd:B.ins.getD (i-1) default=y at *;have hi1:((i:Int)-1).toNat=i-1:=by omega
   have pcy9':We (inC X9) (.slice v1 v2 v3) (((i:Int)-1).toNat*7) [.int .u8 y.op,I y.ty,I y.a,I y.b,I y.n,.slice y1 y2 y3,.slice y4 y5 y6]:=by rw[hi1];exact pcy9
   by_cases cy:y.op=22
   ·refine U9 ?_;rw[show(!decide (y.op=22))=false by rw[QT cy];rfl];exact zE ⟨e9',false,U6,⟨by simp only[true_iff];exact⟨fun _=>by rw[hyd];exact cy,cA⟩⟩⟩
   ·refine U9 ?_;rw[show(!decide (y.op=22))=true by rw[QQ cy];rfl];exact zE ⟨e9',true,U6,⟨by simp only[Bool.true_eq_false,Gl];exact fun q=>cy (by have:=q.1 (by omega);rwa [hyd]at this)⟩⟩
 rintro t9 h9 hs9 ⟨e9,q,s51,hq⟩;have e09:=e08.trans e9;have o49:=o48.ext e9;have o109:=o10.ext e9;have E9:=E8.ext e9;have e49:=e48.trans e9;have sxa9:=sxa8.ext e9;have sxf9:=sxf8.ext e9;refine Zk ?_;cases q with
 |true=>
  refine gr ?_;exact⟨⟨false,rfl,by have:=hq.out;simp only[Bool.true_eq_false,Gl]at this;simp only[QZ,Gl];exact fun hh=>this ⟨hh.1,hh.2.1⟩⟩,e09⟩
 |false=>
  refine go ?_;refine VD (fun k=>x.frm.length-k) (fun k t h'=>Ext h9 h'/\zB t 11=I k/\k<=x.frm.length/\WE (∀ j,j<k->zBx (WZ (zJ F f)) ((Bi T F f).getD (x.args.getD j 0).toNat default) (x.frm.getD j 0) (((zJ F f).getD (x.frm.getD j 0).toNat default).ins.length))) 0 ?_ ?_
  ·exact⟨Ext.refl _,U6,QK _,⟨fun j hj=>absurd hj (Qh _)⟩⟩
  rintro k t h10 hsame ⟨e10,s11,hk,hI⟩;have o410:=o49.ext e10;have o1010:=o109.ext e10;have sxa10:=sxa9.ext e10;have sxf10:=sxf9.ext e10;refine go ?_;refine VE (fun hb=> ?_) (fun hb=> ?_)<;>simp only[DB]at hb
  ·have hk':k<x.frm.length:=by omega
   have hka:k<x.args.length:=by omega
   have E10:=E9.ext e10;obtain⟨hpl,hSB⟩:=hset.out k hk';have hfk:=hfrm.out _ (zO hk');refine go ?_;refine VC 0 rfl rfl ?_;have ea:=zI 0 h10;have e4X:=(e49.trans e10).trans ea;have o4X:=VG (o410.ext ea);have o10X:=VG (o1010.ext ea);have sfX:=E10.inC.sf;have pcX:=(pc _ e4X).2;have sbX0:=Wi.ext sb e4X;have sbX:Wi (inC (zC 0 h10)) vb (zJ F f):=sbX0;have sxaX:=VM (sxa10.ext ea);have sxfX:=VM (sxf10.ext ea);obtain⟨csf,⟨vj,rfl,sj,hlj⟩,pcj,hsj⟩:=zW (i:=(x.frm.getD k 0).toNat) sb (by omega);have pcjX:=(pcj _ e4X).2;have sjX0:=BB.ext sj e4X;have sjX:BB (inC (zC 0 h10)) vj ((zJ F f).getD (x.frm.getD k 0).toNat default).ins:=sjX0;obtain⟨_,_,_,rfl⟩:=zD sj;refine U9 ?_;refine VA (zG3 _ vt vf T F f (x.args.getD k 0) (x.frm.getD k 0) (((zJ F f).getD (x.frm.getD k 0).toNat default).ins.length) E10.inC hpl (hask.out _ hfk.1 hfk.2)) ?_;rintro _ X11 ⟨⟨bb,rfl,hbb⟩,e11⟩;rw[hSB]at hbb;refine nE e11 ?_;have e11':=ea.trans (zV (h:=h10) e11);have e11'':Ext h10 (outC h10 (inC X11)):=e11';refine U9 ?_;cases bb with
   |false=>
    refine gr ?_;refine⟨⟨false,rfl,?_⟩,e09.trans (e10.trans e11'')⟩;simp only[QZ,Gl];exact fun hall=>absurd (hbb.2 (hall.2.2 k hk')) Bool.noConfusion
   |true=>
    refine go ?_;refine zA (k+1) (by omega) ⟨e10.trans e11'',Wc,by omega,⟨fun j hj=> ?_⟩⟩;by_cases e:j=k
    ·subst e;exact hbb.1 rfl
    ·exact hI.out j (by omega)
  ·have hkk:k=x.frm.length:=by omega
   refine gr ?_;have:=hq.out.1 rfl;exact⟨⟨true,rfl,by simp only[true_iff];exact⟨this.1,this.2,fun j hj=>hI.out j (by omega)⟩⟩,e09.trans e10⟩
end
end Go.Proofs.YtfnndahpddkniaaGreatDoor
set_option maxRecDepth 100000
namespace Go.Proofs.YtfnndahpddkniaaGreatDoor
open Go.Am
theorem zQF{T:List U2}{F:List WM}{f:Int}(hp:yu T F=0)(hf:0<=f/\f<(F.length:Int)){B:WL}(hB:B∈zJ F f){x:WY}(hx:x∈B.ins):Bo x (Bq T F.length (F.getD f.toNat default))=true:=by
 have h0:BL T F.length (F.getD f.toNat default)=true:=(yX hp).2.2.2 _ (zG (l:=F) (i:=f.toNat) (by omega));unfold BL at h0;split at h0
 ·cases h0
 ·have h0:((F.getD f.toNat default).blocks.any fun b=>Ya b (Bq T F.length (F.getD f.toNat default)))=false:=by simpa using h0
  have hb:=Gu.1 h0 B hB;have hb:Ya B (Bq T F.length (F.getD f.toNat default))=false:=by simpa using hb
  unfold Ya at hb;rw[Bool.or_eq_false_iff]at hb;have:=Gu.1 hb.1 x hx;simpa using this
section
variable {vt vf:Value}{T:List U2}{F:List WM}
theorem zIy(h:U0)(f b:Int)(i:Nat)(E:En h vt vf T F)(hp:yu T F=0)(Z:FnIn T F f)(hway:∀ c,0<=c->c<((zJ F f).length:Int)->WU (WZ (zJ F f)) 0 c)(hb:0<=b/\b<((zJ F f).length:Int))(hi:i<((zJ F f).getD b.toNat default).ins.length):
  WC Tryz.prog tb 89 [.agg #[vt,vf],I f,I b,I i] h fun q h'=>(∃ bb,q=.bool bb/\(bb=true↔zAY T F (W2 T F f) (Bi T F f) (WZ (zJ F f)) (zJ F f) (zR (zJ F f) b (zJ F f).length) b i (zEQ ((zJ F f).getD b.toNat default) i) (((zJ F f).getD b.toNat default).ins.getD i default)))/\Ext h h':=by
 have hf:=Z.hf;have hF:=E.sm.funcs;have hn16:=Z.n16;have hBm:=zG (l:=zJ F f) (i:=b.toNat) (by omega);have hxm:=zG hi;have hU:=(Z.U _ hBm).ins _ hxm;have hV:=Z.V _ hBm _ hxm;have hN:=zPO (zQF hp hf hBm hxm);have huses:=zCp hU;have hll:(yo (W2 T F f) (yJ (((zJ F f).getD b.toNat default).ins.getD i default))).length=(yJ (((zJ F f).getD b.toNat default).ins.getD i default)).length:=by unfold yo;simp
 have hinT:∀ t∈yo (W2 T F f) (yJ (((zJ F f).getD b.toNat default).ins.getD i default)),Wu T t:=fun t ht=>by
  obtain⟨r,hr,rfl⟩:=Q8.1 ht;have:=hU.uses r hr;exact Z.ks _ (zO (by omega))
 unfold zAY;replace hway:=WE.mk hway;have hi':=WE.mk hi;have hb':=WE.mk hb;replace hinT:=WE.mk hinT;replace hN:=WE.mk hN;refine en ?_;refine VF ?_;intro p4 h4 e4 o4;replace o4:U1 h h4 p4 [vt,vf]:=o4;have E4:=E.ext e4;have sf4:=E4.sf;obtain⟨cs,⟨vb,rfl,sb,hlb⟩,pc,hs⟩:=zW (i:=f.toNat) sf4 (by omega);have sb:Wi h4 vb (zJ F f):=sb;have pc4:=(pc _ (Ext.refl _)).1;obtain⟨csb,⟨vi,rfl,si,hli⟩,pcb,hsb⟩:=zW (i:=b.toNat) sb (by omega);have pcb4:=(pcb _ (Ext.refl _)).1;obtain⟨csx,hR,pcx,hsx⟩:=zW (i:=i) si hi;have pcx4:=(pcx _ (Ext.refl _)).1;generalize hxd:((zJ F f).getD b.toNat default).ins.getD i default=x at *;obtain⟨xa,xf,rfl,sxa,sxf,hla,hlf,ho⟩:=id hR;obtain⟨a1,a2,a3,rfl⟩:=WW.shape sxa;obtain⟨f1,f2,f3,rfl⟩:=WW.shape sxf;refine go ?_;refine VL ?_;intro p9 h5 e5 o9;refine go ?_;refine VH (cs:=[.int .u8 x.op,I x.ty,I x.a,I x.b,I x.n,.slice a1 a2 a3,.slice f1 f2 f3]) o9 e5 ?_;intro h6 e6 o9 u9;have o46:=o4.ext e6;have E6:=E4.ext e6;have hR6:=hR.ext e6;have e06:=e4.trans e6;refine go ?_;refine VC 0 rfl rfl ?_;have ea:=zI 0 h6;have o4X:=VG (o46.ext ea);have o9X:=VG (o9.ext ea);have hRX0:=hR6.ext ea;have hRX:Wt (inC (zC 0 h6)) _ x:=hRX0;refine U9 ?_;refine VA (zD9 _ x _ hRX hU.args) ?_;rintro vu X7 ⟨ou,e7⟩;refine nE e7 ?_;have e7':=ea.trans (zV (h:=h6) e7);refine U9 ?_;refine VA (zDo _ f vu _ (E6.inC.go e7) Z (VM ou.sl) (by omega) (fun r hr=>hU.uses r hr)) ?_;rintro _ X8 ⟨⟨w,rfl,hw,w1,w2,w3,rfl⟩,e8⟩;refine nE e8 ?_;have e8':=e7'.trans (zV (h:=h6) e8);have e8'':Ext h6 (outC h6 (inC X8)):=e8';have hw8:¬(-1:Int)∈yo (W2 T F f) (yJ x)->WJ (outC h6 (inC X8)) (.slice w1 w2 w3) (yo (W2 T F f) (yJ x)):=fun hn=>(hw hn).sl;refine U9 ?_;generalize outC h6 (inC X8)=h8 at *;replace hw8:=WE.mk hw8;replace hw:=WE.mk hw;have o48:=o46.ext e8'';have o98:=o9.ext e8'';have E8:=E6.ext e8'';have e08:=e06.trans e8'';by_cases c1:(-1:Int)∈yo (W2 T F f) (yJ x)
 ·rw[QT c1];refine gr ?_;exact⟨⟨false,rfl,by simp only[QZ,Gl];exact fun q=>q.1 c1⟩,e08⟩
 rw[QQ c1];refine go ?_;have hn:=hN.out;refine VA (zIv h8 x _ (.slice w1 w2 w3) (yo (W2 T F f) (yJ x)) E8 Z.hc (hR6.ext e8'') (hw8.out c1) (by omega) hinT.out hV.ty hU.op Z.sigF hV.n14 hV.n2 (fun e=>by have:=hV.l1 e;omega) (fun e=>by have:=hV.l2 (by omega);omega) (fun e=>by have:=hn.1 e;omega) (fun e=>by have:=hn.2.1 e;omega) (fun e=>by have:=hn.2.2 e;omega)) ?_;rintro _ h9 ⟨rfl,e9⟩;have o49:=o48.ext e9;have o99:=o98.ext e9;have E9:=E8.ext e9;have e09:=e08.trans e9;clear hn;cases c2:z9 T F x (yo (W2 T F f) (yJ x))with
 |false=>
  refine gr ?_;exact⟨⟨false,rfl,by simp⟩,e09⟩
 |true=>
  refine go ?_;by_cases c3:x.op=22
  ·refine go ?_;refine VA (zL0 h9 f b i E9 hp Z hway.out hb'.out hi'.out (by rw[hxd];exact c3)) ?_;rintro _ h10 ⟨⟨bb,rfl,hbb⟩,e10⟩;rw[hxd]at hbb;refine gr ?_;refine⟨⟨bb,rfl,?_⟩,e09.trans e10⟩;rw[hbb];exact⟨fun q=>⟨c1,rfl,fun _=>q,fun q=>absurd c3 q⟩,fun q=>q.2.2.1 c3⟩
  ·refine go ?_;refine VC 0 rfl rfl ?_;have ea:=zI 0 h9;have o4X:=VG (o49.ext ea);have o9X:=VG (o99.ext ea);have hRX0:=(hR6.ext (e8''.trans e9)).ext ea;have hRX:Wt (inC (zC 0 h9)) _ x:=hRX0;refine U9 ?_;refine VA (zD9 _ x _ hRX hU.args) ?_;rintro vu2 X10 ⟨ou2,e10⟩;refine nE e10 ?_;have e10':=ea.trans (zV (h:=h9) e10);refine U9 ?_;refine VA (zDM _ f vu2 _ b i (E9.inC.go e10) hp Z (hway.out b hb'.out.1 hb'.out.2) hb'.out (VM ou2.sl) (by omega) (fun r hr=>hU.uses r hr)) ?_;rintro _ X11 ⟨⟨bb,rfl,hbb⟩,e11⟩;refine nE e11 ?_;have e11':=e10'.trans (zV (h:=h9) e11);refine BM ?_;refine⟨⟨bb,rfl,?_⟩,e09.trans e11'⟩;rw[hbb];exact⟨fun q=>⟨c1,rfl,fun e=>absurd e c3,fun _=>q⟩,fun q=>q.2.2.2 c3⟩
end
end Go.Proofs.YtfnndahpddkniaaGreatDoor
set_option maxRecDepth 100000
namespace Go.Proofs.YtfnndahpddkniaaGreatDoor
open Go.Am
theorem zQO{x:BY}:(0:Int)∉ZI x↔(x.kind=1\/x.kind=2->x.to≠0/\(x.kind=1\/x.els≠0)):=by
 unfold ZI;by_cases k1:x.kind=1
 ·rw[QF k1];simp[k1];omega
 ·rw[QC k1];by_cases k2:x.kind=2
  ·rw[QF k2];by_cases e:x.to=x.els
   ·rw[QF e];simp[k1,k2,<-e];omega
   ·rw[QC e];simp[k1,k2];omega
  ·rw[QC k2];simp[k1,k2]
section
variable {vt vf:Value}{T:List U2}{F:List WM}
theorem zEz(h:U0)(f b:Int)(E:En h vt vf T F)(hp:yu T F=0)(Z:FnIn T F f)(hway:∀ c,0<=c->c<((zJ F f).length:Int)->WU (WZ (zJ F f)) 0 c)(hb:0<=b/\b<((zJ F f).length:Int)):
  WC Tryz.prog tb 90 [.agg #[vt,vf],I f,I b] h fun q h'=>(∃ bb,q=.bool bb/\(bb=true↔Z8 T F f (W2 T F f) (Bi T F f) (WZ (zJ F f)) (zJ F f) b))/\Ext h h':=by
 have hf:=Z.hf;have hF:=E.sm.funcs;have hsg:=Z.sig;have hn16:=Z.n16;have hBm:=zG (l:=zJ F f) (i:=b.toNat) (by omega);have hU:=Z.U _ hBm;have hil:=E.sm.ins _ (zG (l:=F) (i:=f.toNat) (by omega)) _ hBm;have hendl:(yB ((zJ F f).getD b.toNat default).fin).length<=1:=by unfold yB;split<;>simp
 have hll:(yo (W2 T F f) (yB ((zJ F f).getD b.toNat default).fin)).length=(yB ((zJ F f).getD b.toNat default).fin).length:=by unfold yo;simp
 have hinT:∀ t∈yo (W2 T F f) (yB ((zJ F f).getD b.toNat default).fin),Wu T t:=fun t ht=>by
  obtain⟨r,hr,rfl⟩:=Q8.1 ht;have:=hU.ends r hr;exact Z.ks _ (zO (by omega))
 unfold Z8 zGP;rw[<-zQO];replace hway:=WE.mk hway;replace hinT:=WE.mk hinT;have hb':=WE.mk hb;refine en ?_;refine VF ?_;intro p4 h4 e4 o4;replace o4:U1 h h4 p4 [vt,vf]:=o4;have E4:=E.ext e4;have sf4:=E4.sf;obtain⟨cs,⟨vb,rfl,sb,hlb⟩,pc,hs⟩:=zW (i:=f.toNat) sf4 (by omega);have sb:Wi h4 vb (zJ F f):=sb;have pc4:=(pc _ (Ext.refl _)).1;obtain⟨csb,⟨vi,rfl,si,hli⟩,pcb,hsb⟩:=zW (i:=b.toNat) sb (by omega);have pcb4:=(pcb _ (Ext.refl _)).1;generalize hBd:(zJ F f).getD b.toNat default=B at *;obtain⟨v1,v2,v3,rfl⟩:=zD si;refine go ?_;refine VL ?_;intro p9 h5 e5 o9;refine go ?_;refine VH (cs:=[.slice v1 v2 v3,.int .u8 B.fin.kind,I B.fin.a,I B.fin.to,I B.fin.els]) o9 e5 ?_;intro h6 e6 o9 u9;have o46:=o4.ext e6;have E6:=E4.ext e6;have e06:=e4.trans e6;refine go ?_;refine VC 0 rfl rfl ?_;have ea:=zI 0 h6;have o4X:=VG (o46.ext ea);have o9X:=VG (o9.ext ea);refine U9 ?_;refine VA (zGo _ B.fin) ?_;rintro vu X7 ⟨ou,e7⟩;refine nE e7 ?_;have e7':=ea.trans (zV (h:=h6) e7);refine U9 ?_;refine VA (zDo _ f vu _ (E6.inC.go e7) Z (VM ou.sl) (by omega) (fun r hr=>hU.ends r hr)) ?_;rintro _ X8 ⟨⟨w,rfl,hw,w1,w2,w3,rfl⟩,e8⟩;refine nE e8 ?_;have e8':=e7'.trans (zV (h:=h6) e8);have e8'':Ext h6 (outC h6 (inC X8)):=e8';have hw8:¬(-1:Int)∈yo (W2 T F f) (yB B.fin)->WJ (outC h6 (inC X8)) (.slice w1 w2 w3) (yo (W2 T F f) (yB B.fin)):=fun hn=>(hw hn).sl;refine U9 ?_;generalize outC h6 (inC X8)=h8 at *;replace hw8:=WE.mk hw8;replace hw:=WE.mk hw;have o48:=o46.ext e8'';have o98:=o9.ext e8'';have E8:=E6.ext e8'';have e08:=e06.trans e8'';have si8:=BB.ext si (e6.trans e8'');refine go ?_;refine VC 0 rfl rfl ?_;have ea8:=zI 0 h8;have o4X8:=VG (o48.ext ea8);have o9X8:=VG (o98.ext ea8);by_cases c1:(-1:Int)∈yo (W2 T F f) (yB B.fin)
 ·rw[QT c1];refine U9 ?_;refine zBJ ZT ?_;refine U9 ?_;refine zO8 ?_;refine BM ?_;exact⟨⟨false,rfl,by simp only[QZ,Gl];exact fun q=>q.1.1 c1⟩,e08.trans ea8⟩
 rw[QQ c1];refine U9 ?_;refine VA (zGo _ B.fin) ?_;rintro vu2 X9 ⟨ou2,e9⟩;refine nE e9 ?_;have e9':=ea8.trans (zV (h:=h8) e9);have o4X9:=VG (o4X8.ext e9);have o9X9:=VG (o9X8.ext e9);have si9:BB (inC X9) (.slice v1 v2 v3) B.ins:=by have:=BB.ext si8 e9';exact this
 refine U9 ?_;refine Ym o98 (QE _) ?_;refine U9 ?_;refine VA (zDM _ f vu2 _ b B.ins.length (E8.inC.go e9) hp Z (hway.out b hb'.out.1 hb'.out.2) hb'.out (VM ou2.sl) (by omega) (fun r hr=>hU.ends r hr)) ?_;rintro _ X10 ⟨⟨bb,rfl,hbb⟩,e10⟩;refine nE e10 ?_;have e10':=e9'.trans (zV (h:=h8) e10);cases bb with
 |false=>
  refine BM ?_;exact⟨⟨false,rfl,by simp only[QZ,Gl];exact fun q=>absurd (hbb.2 q.1.2) Bool.noConfusion⟩,e08.trans e10'⟩
 |true=>
  have o9X10:=VG (o9X9.ext e10);refine U9 ?_;refine VA (zL4 _ B.fin) ?_;rintro vt11 X11 ⟨ot,e11⟩;refine nE e11 ?_;have e11':=e10'.trans (zV (h:=h8) e11);have hnl:(ZI B.fin).length<=2:=by unfold ZI;split;simp;split;split<;>simp;simp
  refine U9 ?_;refine VA (zOl _ vt11 (ZI B.fin) 0 (VM ot.sl) (by omega)) ?_;rintro _ _ ⟨rfl,rfl⟩;refine nQ ?_;have e11'':Ext h8 (outC h8 (inC X11)):=e11';by_cases c2:(0:Int)∈ZI B.fin
  ·rw[QT c2];refine BM ?_;exact⟨⟨false,rfl,by simp only[QZ,Gl];exact fun q=>q.2.2.1 c2⟩,e08.trans e11'⟩
  rw[QQ c2];refine U9 ?_;generalize outC h8 (inC X11)=h11 at *;have o4_11:=o48.ext e11'';have o9_11:=o98.ext e11'';have hw11:=WJ.ext (hw8.out c1) e11'';have E11:=E8.ext e11'';have e011:=e08.trans e11'';have sf11:=E11.sf;have st11:=E11.st;have hset:=hbb.1 rfl;replace hset:=WE.mk hset;replace hbb:=WE.mk hbb;refine go ?_;by_cases k2:B.fin.kind=2
  ·have hel:(yo (W2 T F f) (yB B.fin)).length=1:=by rw[hll];unfold yB;rw[QF (.inl k2)];rfl
   have ht0:=YD hinT.out (show 0<(yo (W2 T F f) (yB B.fin)).length by omega);have hwX:=VM (hw11.ext (zI 0 h11));have o4X11:=VG (o4_11.ext (zI 0 h11));refine go ?_;refine VC 0 rfl rfl ?_;refine U9 ?_;refine VA (yy _ _ 1 E11.inC ht0) ?_;rintro _ X12 ⟨rfl,e12⟩;refine nE e12 ?_;have e12':=(zI 0 h11).trans (zV (h:=h11) e12);refine BM ?_;refine⟨⟨_,rfl,?_⟩,e011.trans e12'⟩;rw[zNE hel];exact⟨fun q=>⟨⟨c1,hset.out⟩,fun _=>q,c2,fun e=>by omega⟩,fun q=>q.2.1 k2⟩
  refine go ?_;by_cases k3:B.fin.kind=3
  ·have hel:(yo (W2 T F f) (yB B.fin)).length=1:=by rw[hll];unfold yB;rw[QF (.inr k3)];rfl
   have pc11:=(pc _ ((e6.trans e8'').trans e11'')).1;obtain⟨cst,⟨vat,rfl,sat,hlat⟩,pct,hslt⟩:=yH (i:=(F.getD f.toNat default).sig.toNat) st11 (by omega);refine gr ?_;refine⟨⟨_,rfl,?_⟩,e011⟩;rw[GZ];exact⟨fun q=>⟨⟨c1,hset.out⟩,fun e=>absurd e k2,c2,fun _=>q⟩,fun q=>q.2.2.2 k3⟩
  ·refine gr ?_;exact⟨⟨true,rfl,by simp only[true_iff];exact⟨⟨c1,hset.out⟩,fun e=>absurd e k2,c2,fun e=>absurd e k3⟩⟩,e011⟩
end
end Go.Proofs.YtfnndahpddkniaaGreatDoor
set_option maxRecDepth 100000
namespace Go.Proofs.YtfnndahpddkniaaGreatDoor
open Go.Am
def FnR(T:List U2)(F:List WM)(f:Int):Prop:=(∀ c,0<=c->c<((zJ F f).length:Int)->WU (WZ (zJ F f)) 0 c)/\∀ b,0<=b->b<((zJ F f).length:Int)->zC5 T F f b
theorem zLq{T:List U2}{F:List WM}{f:Int}:zHP T F f↔FnR T F f/\(f=0->(yD T F f).parts=[]/\Wh T 1 (yD T F f).elem=true):=⟨fun h=>⟨⟨h.1,h.2.2⟩,h.2.1⟩,fun h=>⟨h.1.1,h.2,h.1.2⟩⟩
theorem zPx{T:List U2}{F:List WM}{f b:Int}:zC5 T F f b↔(∀ i,i<((zJ F f).getD b.toNat default).ins.length->zAY T F (W2 T F f) (Bi T F f) (WZ (zJ F f)) (zJ F f) (zR (zJ F f) b (zJ F f).length) b i (zEQ ((zJ F f).getD b.toNat default) i) (((zJ F f).getD b.toNat default).ins.getD i default))/\Z8 T F f (W2 T F f) (Bi T F f) (WZ (zJ F f)) (zJ F f) b:=by
 unfold zC5;rw[<-zMn];rfl
section
variable {vt vf:Value}{T:List U2}{F:List WM}
theorem zEw(h:U0)(f:Int)(E:En h vt vf T F)(hp:yu T F=0)(hf:0<=f/\f<(F.length:Int)):
  WC Tryz.prog tb 66 [.agg #[vt,vf],I f] h fun q h'=>(∃ bb,q=.bool bb/\(bb=true↔FnR T F f))/\Ext h h':=by
 have Z:=zGl hp hf;have hF:=E.sm.funcs;have hn16:=Z.n16;have hn1:=Z.n1;have hb0:=Z.bl 0 (Qe 0) (by omega);have hbe:(zF T F f 0).2=0:=by rw[hb0]
 have hra:=zFK hbe;have hre:=fun l=>zM7 hbe (l:=l);rw[hb0]at hra hre;replace hra:(yL T F f).1.length=(zJ F f).length↔∀ c,0<=c->c<((zJ F f).length:Int)->WU (WZ (zJ F f)) 0 c:=hra;replace hre:=WE.mk hre;have hil:=WE.mk (E.sm.ins _ (zG (l:=F) (i:=f.toNat) (by omega)));refine en ?_;refine VF ?_;intro p4 h4 e4 o4;replace o4:U1 h h4 p4 [vt,vf]:=o4;have E4:=E.ext e4;have sf4:=E4.sf;obtain⟨cs,⟨vb,rfl,sb,hlb⟩,pc,hs⟩:=zW (i:=f.toNat) sf4 (by omega);have sb:Wi h4 vb (zJ F f):=sb;obtain⟨qa,qn,qk,hqv,hqb⟩:=YG sf4 (i:=f.toNat) (by omega);refine go ?_;refine VC 0 rfl rfl ?_;have ea:=zI 0 h4;have o4X:=VG (o4.ext ea);have sfX:=E4.inC.sf;have pcX:=(pc _ ea).2;have sbX0:=Wi.ext sb ea;have sbX:Wi (inC (zC 0 h4)) vb (zJ F f):=sbX0;refine U9 ?_;refine VA (zIz _ vb (zJ F f) (QE _) sbX (by omega) (by omega) Z.nx) ?_;rintro vr X5 ⟨⟨l,orl,hris,hl16,hmem⟩,e5⟩;have hl:=hre.out l hris hmem;refine nE e5 ?_;have e5':=ea.trans (zV (h:=h4) e5);have o4X5:=VG (o4X.ext e5);have sfX5:Wd (inC X5) vf F:=(E4.inC.go e5).sf;have pcX5:We (inC X5) vf (f.toNat*2) [I (F.getD f.toNat default).sig,vb]:=(pc _ e5').2;have sbX5:Wi (inC X5) vb (zJ F f):=by have:=Wi.ext sb e5';exact this
 have orX:=U7.ext orl (Ext.refl X5);have orX:WJ (inC X5) vr l:=VM orl.sl;refine U9 ?_;refine zDc o4 (QE _) ?_;refine U9 ?_;refine zLw ⟨qa,qn,qk,hqv,hqb⟩ ?_;have e5'':Ext h4 (outC h4 (inC X5)):=e5';refine U9 ?_;generalize outC h4 (inC X5)=h5 at *;have o45:=o4.ext e5'';have E5:=E4.ext e5'';have e05:=e4.trans e5'';have hlen:(l.length:Int)=((zJ F f).length:Int)↔∀ c,0<=c->c<((zJ F f).length:Int)->WU (WZ (zJ F f)) 0 c:=by rw[<-hra,hl];omega
 clear hra orX orl sbX5 pcX5 sfX5 o4X5 sbX sbX0 pcX sfX o4X;by_cases hr:(l.length:Int)=((zJ F f).length:Int);case neg=>
  refine gr ?_;exact⟨⟨false,rfl,by simp only[QZ,Gl];exact fun q=>hr (hlen.2 q.1)⟩,e05⟩
 have hway:=hlen.1 hr;clear hlen;replace hway:=WE.mk hway;refine go ?_;refine VD (fun i=>(zJ F f).length-i) (fun i t h'=>Ext h5 h'/\zB t 5=I i/\i<=(zJ F f).length/\WE (∀ b:Int,0<=b->b<(i:Int)->zC5 T F f b)) 0 ?_ ?_
 ·exact⟨Ext.refl _,U6,QK _,⟨fun b b0 b1=>by omega⟩⟩
 rintro i t h6 hsame ⟨e6,s5,hi,hI⟩;have o46:=o45.ext e6;have E6:=E5.ext e6;have sf6:=E6.sf;have e46:=e5''.trans e6;have pc6:=(pc _ e46).1;have sb6:=Wi.ext sb e46;refine go ?_;refine VE (fun hb=> ?_) (fun hb=> ?_)<;>simp only[DB]at hb;rotate_left 1
 ·have hii:i=(zJ F f).length:=by omega
  refine gr ?_;exact⟨⟨true,rfl,by simp only[true_iff];exact⟨hway.out,fun b b0 b1=>hI.out b b0 (by omega)⟩⟩,e05.trans e6⟩
 have hi':i<(zJ F f).length:=by omega
 have hbad:∀ {h'},¬zC5 T F f i->Ext h h'->(∃ bb,Value.bool false=.bool bb/\(bb=true↔FnR T F f))/\Ext h h':=fun hn e=>⟨⟨false,rfl,by simp only[QZ,Gl];exact fun q=>hn (q.2 i (by omega) (by omega))⟩,e⟩;replace hbad:=WE.mk @hbad;have hBR:zC5 T F f i↔_:=zPx;rw[QN]at hBR;replace hBR:=WE.mk hBR;obtain⟨csb,⟨vi,rfl,si,hli⟩,pcb,hsb⟩:=zW (i:=i) sb (by omega);refine go ?_;refine VD (fun j=>((zJ F f).getD i default).ins.length-j) (fun j t h'=>Ext h6 h'/\zB t 6=I j/\j<=((zJ F f).getD i default).ins.length/\WE (∀ k,k<j->zAY T F (W2 T F f) (Bi T F f) (WZ (zJ F f)) (zJ F f) (zR (zJ F f) i (zJ F f).length) i k (zEQ ((zJ F f).getD i default) k) (((zJ F f).getD i default).ins.getD k default))) 0 ?_ ?_
 ·exact⟨Ext.refl _,U6,QK _,⟨fun k hk=>absurd hk (Qh _)⟩⟩
 rintro j t h7 hsame2 ⟨e7,s6,hj,hJ⟩;have o47:=o46.ext e7;have E7:=E6.ext e7;have sf7:=E7.sf;have e47:=e46.trans e7;have e07:=(e05.trans e6).trans e7;have pc7:=(pc _ e47).1;have sb7:=Wi.ext sb e47;have si7:=BB.ext si e47;have pcb7:=(pcb _ e47).1;refine go ?_;refine VE (fun hb=> ?_) (fun hb=> ?_)<;>simp only[DB]at hb
 ·have hj':j<((zJ F f).getD i default).ins.length:=by omega
  refine go ?_;refine VA (zIy h7 f i j E7 hp Z hway.out ⟨by omega,by omega⟩ (by rw[QN];exact hj')) ?_;rintro _ h8 ⟨⟨bb,rfl,hbb⟩,e8⟩;rw[QN]at hbb;cases bb with
  |false=>
   refine gr ?_;exact hbad.out (fun q=>absurd (hbb.2 ((hBR.out.1 q).1 j hj')) Bool.noConfusion) (e07.trans e8)
  |true=>
   have hbt:=WE.mk (hbb.1 rfl);clear hbb;refine go ?_;refine zA (j+1) (by omega) ⟨e7.trans e8,Wc,by omega,⟨fun k hk=> ?_⟩⟩;by_cases e:k=j
   ·subst e;exact hbt.out
   ·exact hJ.out k (by omega)
 ·have hjj:j=((zJ F f).getD i default).ins.length:=by omega
  refine go ?_;refine VA (zEz h7 f i E7 hp Z hway.out ⟨by omega,by omega⟩) ?_;rintro _ h8 ⟨⟨bb,rfl,hbb⟩,e8⟩;cases bb with
  |false=>
   refine gr ?_;exact hbad.out (fun q=>absurd (hbb.2 (hBR.out.1 q).2) Bool.noConfusion) (e07.trans e8)
  |true=>
   have hbt:=WE.mk (hbb.1 rfl);clear hbb;refine go ?_;refine zA (i+1) (by omega) ⟨e6.trans (e7.trans e8),Wc,by omega,⟨fun b b0 b1=> ?_⟩⟩;by_cases e:b=i
   ·subst e;exact hBR.out.2 ⟨fun k hk=>hJ.out k (by omega),hbt.out⟩
   ·exact hI.out b b0 (by omega)
theorem zHg(h:U0)(E:En h vt vf T F):WC Tryz.prog tb 39 [.agg #[vt,vf]] h fun q h'=>q=I (yS T F)/\Ext h h':=by
 unfold yS;have hF:=E.sm.funcs;refine en ?_;refine VF ?_;intro p4 h4 e4 o4;replace o4:U1 h h4 p4 [vt,vf]:=o4;have E4:=E.ext e4;refine go ?_;refine VA (zI1 h4 vt vf T F E4) ?_;rintro _ h5 ⟨rfl,e5⟩;have o5:=o4.ext e5;have E5:=E4.ext e5;have e05:=e4.trans e5;by_cases hp:yu T F=0;case neg=>
  rw[QF hp];refine gr ?_;exact⟨rfl,e05⟩
 rw[QC (fun e=>e hp),hp];obtain⟨hc,hF1,hF8,hfn⟩:=yX hp;clear hfn;have Z:=zGl hp (f:=0) ⟨Qe 0,by omega⟩;have hsg:=Z.sig;have hel:=Z.el;refine go ?_;refine VD (fun i=>F.length-i) (fun i t h'=>Ext h5 h'/\zB t 4=I i/\i<=F.length/\WE (∀ f:Int,0<=f->f<(i:Int)->FnR T F f)) 0 ?_ ?_
 ·exact⟨Ext.refl _,U6,QK _,⟨fun f f0 f1=>by omega⟩⟩
 rintro i t h6 hsame ⟨e6,s4,hi,hI⟩;have o6:=o5.ext e6;have E6:=E5.ext e6;have e06:=e05.trans e6;have sf6:=E6.sf;refine go ?_;refine VE (fun hb=> ?_) (fun hb=> ?_)<;>simp only[DB]at hb
 ·have hi':i<F.length:=by omega
  refine go ?_;refine VA (zEw h6 i E6 hp ⟨by omega,by omega⟩) ?_;rintro _ h7 ⟨⟨bb,rfl,hbb⟩,e7⟩;cases bb with
  |false=>
   refine gr ?_;refine⟨?_,e06.trans e7⟩;rw[QC (fun w=>absurd (hbb.2 (zLq.1 (w i (by omega) (by omega))).1) Bool.noConfusion)];rfl
  |true=>
   have hbt:=WE.mk (hbb.1 rfl);clear hbb;refine go ?_;refine zA (i+1) (by omega) ⟨e6.trans e7,Wc,by omega,⟨fun f f0 f1=> ?_⟩⟩;by_cases e:f=i
   ·subst e;exact hbt.out
   ·exact hI.out f f0 (by omega)
 ·have hii:i=F.length:=by omega
  have hw:WfP T F↔((yD T F 0).parts=[]/\Wh T 1 (yD T F 0).elem=true):=⟨fun w=>(w 0 (Qe 0) (by omega)).2.1 rfl,fun q f f0 f1=>zLq.2 ⟨hI.out f f0 (by omega),fun e=>by subst e;exact q⟩⟩;replace hw:=WE.mk hw;refine go ?_;refine VC 1 rfl rfl ?_;have ea:=zI 1 h6;have oX:=VG (o6.ext ea);obtain⟨cs,⟨vb,rfl,sb,hlb⟩,pc,hs⟩:=zW (i:=0) sf6 (by omega);have pc1:=(pc _ ea).2;obtain⟨cst,⟨vat,rfl,sat,hlat⟩,pct,hst⟩:=zW (i:=(F.getD 0 default).sig.toNat) E6.st (by have:(F.getD (0:Int).toNat default).sig<(T.length:Int):=hsg.2;have:(F.getD 0 default).sig<(T.length:Int):=this;omega);have pct1:=(pct _ ea).2;have stX0:=Wp.ext E6.st ea;have stX:Wp (inC (zC 1 h6)) vt T:=stX0;have sfX0:=Wd.ext E6.sf ea;have sfX:Wd (inC (zC 1 h6)) vf F:=sfX0;obtain⟨va1,va2,va3,rfl⟩:=WW.shape sat;have hsg':0<=(F.getD 0 default).sig/\(F.getD 0 default).sig<(T.length:Int):=hsg;refine U9 ?_;refine V8 (X:=inC (zC 1 h6)) (cs:=[.int .u8 (yD T F 0).kind,I (yD T F 0).elem,I (yD T F 0).many,.slice va1 va2 va3]) (Ext.refl _) E6.hm ?_;intro h7 p8 e7 o8;have o7:=o6.ext e7;have E7:=E6.ext e7;have e07:=e06.trans e7;have sat7:WJ h7 (.slice va1 va2 va3) (yD T F 0).parts:=WJ.ext sat e7;clear stX sfX stX0 sfX0 oX pc1 pct1;refine go ?_;by_cases hpl:((yD T F 0).parts.length:Int)>0
  ·refine gr ?_;refine⟨?_,e07⟩;rw[QC (fun w=>by have:=(hw.out.1 w).1;rw[this]at hpl;simp at hpl)];rfl
  ·have hpn:(yD T F 0).parts=[]:=Gs (by omega);refine go ?_;refine VA (yy h7 (yD T F 0).elem 1 E7 (.inr ⟨hel.1,hel.2.1⟩)) ?_;rintro _ h8 ⟨rfl,e8⟩;cases c1:Wh T 1 (yD T F 0).elem with
   |false=>
    refine gr ?_;refine⟨?_,e07.trans e8⟩;rw[QC (fun w=>by have:=(hw.out.1 w).2;rw[this]at c1;cases c1)];rfl
   |true=>
    refine gr ?_;refine⟨?_,e07.trans e8⟩;rw[QF (hw.out.2 ⟨hpn,c1⟩)];rfl
end
end Go.Proofs.YtfnndahpddkniaaGreatDoor
set_option maxRecDepth 100000
namespace Go.Proofs.YtfnndahpddkniaaGreatDoor
open Go.Am
theorem zKP(h:U0)(vt:Value)(T:List U2)(k:Int)(st:Wp h vt T)(hT:T.length<=100)(hp:∀ x∈T,x.parts.length<=100)(hc:yQ T=0)(hk:0<=k/\k<(T.length:Int)):
  WC Tryz.prog tb 61 [vt,I k] h fun r h'=>r=I 0/\Ext h h':=by
 obtain⟨t1,t2,t3,rfl⟩:=zD st;have ht:yp (T.length:Int) [k]=true:=by unfold yp;simp[hk.1,hk.2]
 refine en ?_;refine VA (zHe h _ T st hT hp) ?_;rintro _ h2 ⟨rfl,e2⟩;rw[hc];have st2:=Wp.ext st e2;refine go ?_;refine WO.bl [k] ?_;intro v3 h3 e3 o3;refine go ?_;refine VA (zBG h3 v3 (T.length:Int) [k] o3.sl (by simp)) ?_;rintro _ h4 ⟨rfl,e4⟩;rw[ht];refine gr ?_;exact⟨rfl,e2.trans (e3.trans e4)⟩
def trF{α:Type}(T:List U2)(a:Int->α)(s:List α->α)(m:Nat->α->α):Nat->Int->α
 |0,k=>a k
 |n+1,k=>let x:=T.getD k.toNat default
  if x.kind=4 then s (x.parts.map (trF T a s m n))else if x.kind=5 then m x.many.toNat (trF T a s m n x.elem)else a k
def trL{α:Type}(T:List U2)(a:Int->α)(s:List α->α)(m:Nat->α->α)(k:Nat):α:=trF T a s m (k+1) k
theorem zHQ{T:List U2}{k:Nat}(h:yz T k)(h4:(T.getD k default).kind=4):(T.getD k default).parts.length<=8/\∀ p∈(T.getD k default).parts,0<=p/\p<(k:Int):=by
 unfold yz zDS at h;rcases h with h|h|h|h|h
 ·omega
 ·omega
 ·omega
 ·exact h.2.2.2.2
 ·omega
theorem zHI{T:List U2}{k:Nat}(h:yz T k)(h5:(T.getD k default).kind=5):0<=(T.getD k default).elem/\(T.getD k default).elem<(k:Int)/\1<=(T.getD k default).many/\(T.getD k default).many<=16:=by
 unfold yz zDS at h;rcases h with h|h|h|h|h<;>omega
section
variable {α:Type}{T:List U2}{a:Int->α}{s:List α->α}{m:Nat->α->α}
theorem zG8:∀ (n q:Nat) (k:Nat),k<n->k<q->(∀ j,j<=k->yz T j)->trF T a s m n k=trF T a s m q k:=by
 intro n;induction n with
 |zero=>intro m k h;omega
 |succ n ih=>
  intro q k h1 h2 hM;obtain⟨q,rfl⟩:∃ r,q=r+1:=⟨q-1,by omega⟩;have hk:=hM k (QE _);unfold trF;simp only[QN];split
  ·rename_i h4;congr 1;refine Gc fun p hp=> ?_;have hp':=(zHQ hk h4).2 p hp;obtain⟨r,rfl⟩:∃ r:Nat,p=r:=⟨p.toNat,by omega⟩;exact ih q r (by omega) (by omega) fun j hj=>hM j (by omega)
  ·split
   ·rename_i h4 h5;have hp':=zHI hk h5;obtain⟨r,hr⟩:∃ r:Nat,(T.getD k default).elem=r:=⟨(T.getD k default).elem.toNat,by omega⟩;rw[hr,ih q r (by omega) (by omega) fun j hj=>hM j (by omega)]
   ·rfl
theorem YJ{k:Nat}(hM:∀ j,j<=k->yz T j):trL T a s m k=let x:=T.getD k default
  if x.kind=4 then s (x.parts.map fun p=>trL T a s m p.toNat)else if x.kind=5 then m x.many.toNat (trL T a s m x.elem.toNat)else a k:=by
 have hk:=hM k (QE _);conv=>lhs;unfold trL;rw[trF]
 simp only[QN];split
 ·rename_i h4;congr 1;refine Gc fun p hp=> ?_;have hp':=(zHQ hk h4).2 p hp;obtain⟨r,rfl⟩:∃ r:Nat,p=r:=⟨p.toNat,by omega⟩;exact zG8 _ _ r (by omega) (by omega) fun j hj=>hM j (by omega)
 ·split
  ·rename_i h4 h5;have hp':=zHI hk h5;obtain⟨r,hr⟩:∃ r:Nat,(T.getD k default).elem=r:=⟨(T.getD k default).elem.toNat,by omega⟩;rw[hr,QN,zG8 k (r+1) r (by omega) (by omega) fun j hj=>hM j (by omega)];rfl
  ·rfl
end
def yO(T:List U2)(k:Nat):List Int:=trL T (fun k=>[k]) List.flatten (fun _ l=>l) k
def Yy:List (List Int×Nat)->List Int×Nat
 |[]=>([],0)
 |x::r=>(x.1++(Yy r).1.map (fun i=>(x.2:Int)+i),x.2+(Yy r).2)
def yj(T:List U2)(k:Nat):List Int×Nat:=trL T (fun _=>([0],1)) Yy (fun n p=>((List.replicate n p.1).flatten,p.2)) k
theorem zFU:∀ (l:List (List Int×Nat)) (x:List Int×Nat),Yy (l++[x])=((Yy l).1++x.1.map (fun i=>((Yy l).2:Int)+i),(Yy l).2+x.2)
 |[],x=>by simp[Yy]
 |y::l,x=>by
  simp only[JC,Yy,zFU l x,GB,List.map_map,Ql,JI];congr 3;refine Gc fun i _=> ?_;simp only[Function.comp];omega
theorem zBU{T:List U2}:∀ (n k:Nat),k<n->(∀ j,j<=k->yz T j)->(yj T k).2=(yO T k).length/\(yj T k).1.length=(Wq T k).length/\∀ i∈(yj T k).1,0<=i/\i<((yO T k).length:Int):=by
 intro n;induction n with
 |zero=>intro k h;omega
 |succ n ih=>
  intro k hk hM;have hm:=hM k (QE _);unfold yj yO;rw[YJ hM,YJ hM,YI hM];simp only;split
  ·rename_i h4;have hp:=(zHQ hm h4).2;generalize(T.getD k default).parts=l at *;have hI:∀ p∈l,_:=fun p hpp=>ih p.toNat (by have:=hp p hpp;omega) fun j hj=>hM j (by have:=hp p hpp;omega);clear hp;induction l with
   |nil=>exact⟨rfl,rfl,fun i hi=>by cases hi⟩
   |cons p l ihl=>
    obtain⟨a1,a2,a3⟩:=ihl fun q hq=>hI q (Qq _ hq);obtain⟨b1,b2,b3⟩:=hI p (Qi ..);unfold yj yO at b1 b3;unfold yj at b2;simp only[Qr,Yy,GR,QR,Qv];refine⟨by omega,by omega,fun i hi=> ?_⟩;rcases Qu.1 hi with hi|hi
    ·have:=b3 i hi;omega
    ·obtain⟨j,hj,rfl⟩:=Q8.1 hi;have:=a3 j hj;omega
  ·split
   ·rename_i h4 h5;have hp:=zHI hm h5;obtain⟨b1,b2,b3⟩:=ih (T.getD k default).elem.toNat (by omega) fun j hj=>hM j (by omega);unfold yj yO at b1 b3;unfold yj at b2;refine⟨b1,?_,fun i hi=> ?_⟩
    ·simp only[zAk];rw[b2]
    ·obtain⟨l,hl,hi⟩:=List.mem_flatten.1 hi;rw[List.eq_of_mem_replicate hl]at hi;exact b3 i hi
   ·exact⟨rfl,rfl,fun i hi=>by simp at hi;subst hi;simp⟩
theorem zBF{T:List U2}:∀ (n k:Nat),k<n->(∀ j,j<=k->yz T j)->(yO T k).length<=(Wq T k).length:=by
 intro n;induction n with
 |zero=>intro k h;omega
 |succ n ih=>
  intro k hk hM;have hm:=hM k (QE _);unfold yO;rw[YJ hM,YI hM];simp only;split
  ·rename_i h4;have hp:=(zHQ hm h4).2;generalize(T.getD k default).parts=l at *;have hI:∀ p∈l,_:=fun p hpp=>ih p.toNat (by have:=hp p hpp;omega) fun j hj=>hM j (by have:=hp p hpp;omega);clear hp;induction l with
   |nil=>exact QE _
   |cons p l ihl=>
    have a:=ihl fun q hq=>hI q (Qq _ hq);have b:=hI p (Qi ..);unfold yO at b;simp only[Qr,GR,QR];omega
  ·split
   ·rename_i h4 h5;have hp:=zHI hm h5;have b:=ih (T.getD k default).elem.toNat (by omega) fun j hj=>hM j (by omega);unfold yO at b;rw[zAk];refine QU b ?_;have:1<=(T.getD k default).many.toNat:=by omega
    exact Nat.le_mul_of_pos_left _ this
   ·exact QE _
def wkL(T:List U2)(o:Bool)(s:Int)(k:Nat):List Int:=if o then yO T k else(yj T k).1.map fun i=>s+i
theorem zA4{T:List U2}{k:Nat}(hM:∀ j,j<=k->yz T j):yO T k=if(T.getD k default).kind=4 then((T.getD k default).parts.map fun p=>yO T p.toNat).flatten else if(T.getD k default).kind=5 then yO T (T.getD k default).elem.toNat else[(k:Int)]:=YJ hM
theorem zHc{T:List U2}{k:Nat}(hM:∀ j,j<=k->yz T j):yj T k=if(T.getD k default).kind=4 then Yy ((T.getD k default).parts.map fun p=>yj T p.toNat)else if(T.getD k default).kind=5 then((List.replicate (T.getD k default).many.toNat (yj T (T.getD k default).elem.toNat).1).flatten,(yj T (T.getD k default).elem.toNat).2)else([0],1):=YJ hM
def zE8(T:List U2)(o:Bool)(s:Int)(ps:List Int):List Int:=if o then(ps.map fun p=>yO T p.toNat).flatten else(Yy (ps.map fun p=>yj T p.toNat)).1.map fun i=>s+i
theorem zIl{T:List U2}{o:Bool}{s:Int}{k:Nat}(hM:∀ j,j<=k->yz T j):wkL T o s k=if(T.getD k default).kind=4 then zE8 T o s (T.getD k default).parts else if(T.getD k default).kind=5 then(if o then yO T (T.getD k default).elem.toNat else(List.replicate (T.getD k default).many.toNat (wkL T o s (T.getD k default).elem.toNat)).flatten)else[if o then(k:Int)else s]:=by
 conv=>lhs;unfold wkL
 rw[zA4 hM,zHc hM];cases o with
 |true=>unfold zE8;simp only[Q0]
 |false=>
  unfold zE8;simp only[QZ,GX];split
  ·rfl
  ·split
   ·rw[List.map_flatten,List.map_replicate];rfl
   ·simp
theorem zJP{T:List U2}:∀ {ps:List Int},(∀ p∈ps,(yj T p.toNat).2=(yO T p.toNat).length)->(Yy (ps.map fun p=>yj T p.toNat)).2=(ps.map fun p=>yO T p.toNat).flatten.length
 |[],_=>rfl
 |p::ps,h=>by
  simp only[Qr,Yy,GR,QR];rw[zJP fun q hq=>h q (Qq _ hq),h p (Qi ..)]
theorem zLv{T:List U2}{o:Bool}{s q:Int}{ps:List Int}(h:∀ p∈ps,(yj T p.toNat).2=(yO T p.toNat).length):
  zE8 T o s (ps++[q])=zE8 T o s ps++wkL T o (s+((ps.map fun p=>yO T p.toNat).flatten.length:Int)) q.toNat:=by
 unfold zE8 wkL;cases o with
 |true=>simp
 |false=>
  simp only[QZ,GX,GB,Qr,Gb];rw[zFU,zJP h];simp only[GB,List.map_map];congr 1;refine Gc fun i _=> ?_;simp only[Function.comp];omega
theorem zPK{T:List U2}{o:Bool}{s:Int}{k:Nat}(hM:∀ j,j<=k->yz T j):(wkL T o s k).length<=(Wq T k).length:=by
 unfold wkL;split
 ·exact zBF (k+1) k (Q1 _) hM
 ·rw[Qv,(zBU (k+1) k (Q1 _) hM).2.1];exact QE _
def Wj(p v:Value)(h h':U0)(v':Value):Prop:=h.n<=h'.n/\(∀ g,g<h.n->blk p≠some g->blk v≠some g->h'.get g=h.get g)/\∀ b,blk v'=some b->blk v=some b\/h.n<=b
theorem Wj.refl(p v:Value)(h:U0):Wj p v h h v:=⟨QE _,fun _ _ _ _=>rfl,fun _ h=> .inl h⟩
theorem Wj.trans{p v v1 v2:Value}{h h1 h2:U0}(a:Wj p v h h1 v1)(b:Wj p v1 h1 h2 v2):Wj p v h h2 v2:=by
 refine⟨QU a.1 b.1,fun g hg h1 h2=> ?_,fun k hk=> ?_⟩
 ·rw[b.2.1 g (QM hg a.1) h1 fun e=> ?_,a.2.1 g hg h1 h2];rcases a.2.2 g e with e|e
  ·exact h2 e
  ·omega
 ·rcases b.2.2 k hk with e|e
  ·exact a.2.2 k e
  ·exact .inr (QU a.1 e)
theorem Wj.ext{p v:Value}{h h':U0}(e:Ext h h'):Wj p v h h' v:=⟨e.n,fun g hg _ _=>e.get g hg,fun _ h=> .inl h⟩
theorem Vk{h0 h h':U0}{p q v v':Value}{cs:List Value}(o:U1 h0 h q cs)(k:Wj p v h h' v')(d1:WQ p q)(d2:WQ v q):U1 h0 h' q cs/\WQ v' q:=by
 have hw:=o.within;obtain⟨g,g1,g2,rfl,g3⟩:=o;refine⟨⟨g,g1,QM g2 k.1,rfl,(k.2.1 g g2 (fun e=>d1 g e rfl) fun e=>d2 g e rfl).trans g3⟩,fun b hb hq=> ?_⟩;cases hq;rcases k.2.2 _ hb with e|e
 ·exact d2 _ e rfl
 ·have e:h.n<=g:=e;omega
end Go.Proofs.YtfnndahpddkniaaGreatDoor
set_option maxRecDepth 100000
namespace Go.Proofs.YtfnndahpddkniaaGreatDoor
open Go.Am
structure CW(hB h:U0)(vT pT pF pR vR:Value)(l:List Int):Prop where
 tT:U1 hB h pT [vT]
 tF:U1 hB h pF [.func (.func 85) #[] #[pT,pF,pR]]
 tR:U1 hB h pR [vR]
 own:U7 hB h vR l
 fT:WQ pR pT
 fF:WQ pR pF
 vt:WQ vR pT
 vf:WQ vR pF
 vr:WQ vR pR
 ext:Ext hB h
theorem CW.ext'{hB h h':U0}{vT pT pF pR vR:Value}{l:List Int}(w:CW hB h vT pT pF pR vR l)(e:Ext h h'):CW hB h' vT pT pF pR vR l:=
 ⟨w.tT.ext e,w.tF.ext e,w.tR.ext e,w.own.ext e,w.fT,w.fF,w.vt,w.vf,w.vr,w.ext.trans e⟩
theorem zK0(hB:U0)(vT pT pF pR:Value)(T:List U2)(st:Wp hB vT T)(hT:(T.length:Int)<=1000):∀ (n k:Nat) (h:U0) (vR:Value) (l:List Int),k<n->k<T.length->zCl T k->yz T k->CW hB h vT pT pF pR vR l->l.length+(Wq T k).length<=100->
  WC Tryz.prog tb 85 [I k,pT,pF,pR] h fun r h'=>∃ vR',CW hB h' vT pT pF pR vR' (l++Wq T k)/\Wj pR vR h h' vR':=by
 obtain⟨t1,t2,t3,rfl⟩:=zD st;intro n;induction n with
 |zero=>intro k h vR l hk;omega
 |succ n ih=>
  intro k h vR l hkn hk hlow hM w hl;have hof:=YI (T:=T) (k:=k) fun j hj=>by
   by_cases e:j=k
   ·subst e;exact hM
   ·exact(hlow j (by omega)).1
  have hXt:=w.ext;have st0:=st.ext w.ext;have h4':=zHQ hM;have h5':=zHI hM;obtain⟨cs,⟨va,rfl,sa,hla⟩,pc,hs⟩:=zW (i:=k) st hk;replace pc:=(pc _ hXt).1;rw[hof]at hl |-;clear hof;generalize T.getD k default=x at *;obtain⟨a1,a2,a3,rfl⟩:=WW.shape sa;have oT:=w.tT;have oF:=w.tF;have oR:=w.tR;refine en ?_;refine VL ?_;intro p h1 e1 o1;refine go ?_;refine VH o1 e1 ?_;intro h2 e2 o2 _;have w2:=w.ext' e2;have sa2:=sa.ext w2.ext;have f1:WQ pR p:=(VJ o2.since' w.tR.within).symm;have f2:WQ vR p:=(VJ o2.since' w.own.within).symm;by_cases h4:x.kind=4
  ·have hp:=h4' h4;simp only[h4,Q0]at hl |-;have hp8:=hp.1;replace hp:=WE.mk hp;replace hlow:=WE.mk hlow;refine go ?_;refine VD (fun i=>x.parts.length-i) (fun i t h3=>zB t 23=I i/\i<=x.parts.length/\∃ vR',CW hB h3 (.slice t1 t2 t3) pT pF pR vR' (l++((x.parts.take i).map fun p=>Wq T p.toNat).flatten)/\Wj pR vR h2 h3 vR') 0 ?_ ?_
   ·exact⟨U6,QK _,vR,by simpa using w2,Wj.refl ..⟩
   rintro i t h3 hsame ⟨s7,hi,vR',w3,k3⟩;have sa3:=sa.ext w3.ext;have o3T:=w3.tT;have o3F:=w3.tF;refine go ?_;refine VE (fun hc=> ?_) (fun hc=> ?_)<;>simp only[DB]at hc
   ·have hi':i<x.parts.length:=by omega
    have hpi:=hp.out.2 _ (zO hi');have hsucc:=zAU (f:=fun p=>Wq T p.toNat) hi';have hsum:((x.parts.take (i+1)).map fun p=>Wq T p.toNat).flatten.length<=(x.parts.map fun p=>Wq T p.toNat).flatten.length:=by
     conv=>rhs;rw[<-GN (i+1) x.parts]
     rw[GB,List.flatten_append,QR];omega
    obtain⟨q,hq⟩:∃ q:Nat,x.parts.getD i 0=q:=⟨(x.parts.getD i 0).toNat,by omega⟩;have hqk:q<k:=by omega
    have hdef:x.parts.getD i default=(q:Int):=hq;rw[hdef]at hsucc;simp only[QN]at hsucc;rw[hsucc,QR]at hsum;refine go ?_;rw[hq];refine VV (WV.func (ih q h3 vR' _ (by omega) (by omega) (fun j hj=>hlow.out j (by omega)) (hlow.out q hqk).1 w3 (by rw[QR];omega))) ?_;rintro r h4 ⟨vR4,w4,k4⟩;refine go ?_;exact zA (i+1) (by omega) ⟨Wc,by omega,vR4,by rw[hsucc,<-Ql];exact w4,k3.trans k4⟩
   ·have hii:i=x.parts.length:=by omega
    subst hii;rw[Qk]at w3;refine go ?_;refine Bt ?_;exact⟨vR',w3,(Wj.ext e2).trans k3⟩
  by_cases h5:x.kind=5
  ·have hp:=h5' h5;obtain⟨q,hq⟩:∃ q:Nat,x.elem=q:=⟨x.elem.toNat,by omega⟩;obtain⟨m,hm⟩:∃ m:Nat,x.many=m:=⟨x.many.toNat,by omega⟩;have hqk:q<k:=by omega
   simp only[h5,Q0,GX,show ¬((5:Int)=4) by decide,hq,hm,QN]at hl |-;replace hlow:=WE.mk hlow;rw[zAk]at hl;refine go ?_;refine VD (fun i=>m-i) (fun i t h3=>zB t 35=I i/\i<=m/\∃ vR',CW hB h3 (.slice t1 t2 t3) pT pF pR vR' (l++(List.replicate i (Wq T q)).flatten)/\Wj pR vR h2 h3 vR') 0 ?_ ?_
   ·exact⟨U6,QK _,vR,by simpa using w2,Wj.refl ..⟩
   rintro i t h3 hsame ⟨s7,hi,vR',w3,k3⟩;have o3T:=w3.tT;have o3F:=w3.tF;have o3p:=(Vk o2 k3 f1 f2).1;refine go ?_;rw[hm];refine go ?_;refine VE (fun hc=> ?_) (fun hc=> ?_)<;>simp only[DB]at hc
   ·have hi':i<m:=by omega
    have hmul:(i+1)*(Wq T q).length<=m*(Wq T q).length:=GP _ hi';rw[G4]at hmul;refine go ?_;rw[hq];refine VV (WV.func (ih q h3 vR' _ (by omega) (by omega) (fun j hj=>hlow.out j (by omega)) (hlow.out q hqk).1 w3 (by rw[QR,zAk];omega))) ?_;rintro r h4 ⟨vR4,w4,k4⟩;refine go ?_;refine zA (i+1) (by omega) ⟨Wc,by omega,vR4,?_,k3.trans k4⟩;rw[List.replicate_succ',List.flatten_append,<-Ql];simpa using w4
   ·have hii:i=m:=by omega
    subst hii;refine go ?_;refine Bt ?_;exact⟨vR',w3,(Wj.ext e2).trans k3⟩
  ·simp only[h4,h5,GX]at hl |-;have o2T:=w2.tT;have o2F:=w2.tF;have o2R:=w2.tR;refine go ?_;refine WO.bl [(k:Int)] ?_;intro v h3 e3 o3;have w3:=w2.ext' e3;refine go ?_;refine Vv w3.own o3.sl w3.ext (by simp) (by simp at hl |-;omega) ?_;intro v4 h4 e4 o4 u4;have tR4:=w3.tR.upB u4.upB w3.vr;have sn:=U7.since' (.inr o4);have oT4:=w3.tT.upB u4.upB w3.vt;have oF4:=w3.tF.upB u4.upB w3.vf;obtain⟨g4,q1,q2,rfl,q3⟩:=id o4;refine go ?_;refine VH tR4 e4 ?_;intro h5 e5 o5 u5;refine go ?_;refine Bt ?_;have hv:WQ _ pR:=VJ sn w3.tR.within;refine⟨_,⟨oT4.upB u5.upB w3.fT,oF4.upB u5.upB w3.fF,o5,U7.upB (.inr (o4.since w3.ext)) u5.upB hv.symm,w3.fT,w3.fF,VJ sn w3.tT.within,VJ sn w3.tF.within,hv,e5⟩,?_⟩;refine(Wj.ext (e2.trans e3)).trans ⟨QU u4.1 u5.1,fun g hg h1 h2=> ?_,fun b hb=> .inr (sn b hb)⟩;rw[u5.upB.2 g (QM hg u4.1) h1,u4.upB.2 g hg h2]
theorem zMX(h:U0)(vT:Value)(T:List U2)(k:Nat)(st:Wp h vT T)(hT:(T.length:Int)<=1000)(hk:k<T.length)(hlow:∀ j,j<T.length->yz T j/\(Wq T j).length<=32):
  WC Tryz.prog tb 62 [vT,I k] h fun r h'=>U7 h h' r (Wq T k)/\Ext h h':=by
 obtain⟨t1,t2,t3,rfl⟩:=zD st;refine en ?_;refine VF ?_;intro pT h1 e1 oT;refine go ?_;refine VL ?_;intro pR h2 e2 oR;refine go ?_;refine VL ?_;intro pF h3 e3 oF;refine go ?_;refine VH (cs:=[.func (.func 85) #[] #[pT,pF,pR]]) oF e3 ?_;intro h4 e4 oF4 _;have e04:=e1.trans (e2.trans e4);have oT:U1 h h1 pT [.slice t1 t2 t3]:=oT;have a1:=VJ oR.since' oT.within;have a2:=VJ oF4.since' oR.within;have w:CW h h4 (.slice t1 t2 t3) pT pF pR (.slice none 0 0) []:=
  ⟨oT.ext (e2.trans e4),oF4.since (e1.trans e2),(oR.ext e4).since e1,.inl ⟨rfl,rfl⟩,a1,a2.symm,(fun b hb=>by cases hb),(fun b hb=>by cases hb),(fun b hb=>by cases hb),e04⟩
 have hwF:=w.tF;have hl:=hlow k hk;refine go ?_;refine VV (WV.func (zK0 h _ pT pF pR T st hT (k+1) k h4 _ [] (by omega) hk (fun j hj=>hlow j (by omega)) hl.1 w (by simp;omega))) ?_;rintro r h5 ⟨vR,w5,k5⟩;rw[GK]at w5;have ow:=w5.own;obtain⟨r1,r2,r3,rfl⟩:=WW.shape ow.sl;have o5:=w5.tR;refine go ?_;refine VH o5 w5.ext ?_;intro h6 e6 o6 u6;refine go ?_;refine rt ?_ (Vq U6 o6 rfl BH.nil);exact⟨ow.upB u6.upB w5.vr.symm,e6⟩
theorem zEr(h:U0)(vT:Value)(T:List U2)(k:Int)(st:Wp h vT T)(hT:T.length<=100)(hp:∀ x∈T,x.parts.length<=100)(hc:yQ T=0)(hk:0<=k/\k<(T.length:Int)):
  WC Tryz.prog tb 35 [vT,I k] h fun r h'=>(∃ v,r=.tuple #[v,I 0]/\U7 h h' v (Wq T k.toNat))/\Ext h h':=by
 obtain⟨k,rfl⟩:∃ q:Nat,k=q:=⟨k.toNat,by omega⟩;obtain⟨t1,t2,t3,rfl⟩:=zD st;have hl:∀ j,j<T.length->yz T j/\(Wq T j).length<=32:=by
  have h1:=hc;rw[zAs]at h1;split at h1
  ·cases h1
  ·split at h1
   ·assumption
   ·cases h1
 refine en ?_;refine VA (zKP h _ T k st hT hp hc hk) ?_;rintro _ h2 ⟨rfl,e2⟩;have st2:=Wp.ext st e2;refine go ?_;refine VA (zMX h2 _ T k st2 (by omega) (by omega) hl) ?_;rintro v h3 ⟨o3,e3⟩;refine gr ?_;exact⟨⟨v,rfl,o3.since e2⟩,e2.trans e3⟩
end Go.Proofs.YtfnndahpddkniaaGreatDoor
