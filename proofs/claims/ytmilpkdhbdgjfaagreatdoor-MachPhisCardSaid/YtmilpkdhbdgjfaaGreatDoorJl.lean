/- Walks of functions, plain laws; proves no statement. -/
import Derived.Test.YtmilpkdhbdgjfaaGreatDoorJk
import Derived.Test.YtmilpkdhbdgjfaaGreatDoorAmE
set_option linter.all false
set_option maxHeartbeats 4000000
set_option maxRecDepth 100000
namespace Go.Proofs.YtmilpkdhbdgjfaaGreatDoor
open Go.Am
theorem zDp:∀ {l:List Wo} {x:Wo},x∈ZW l->x∈l/\x.op=22
 |[],x,h=>by cases h
 |y::l,x,h=>by
  have h:x∈(y::l).takeWhile Z8:=h;rw[List.takeWhile_cons]at h;split at h
  ·rename_i hy;rcases GI.1 h with rfl|h
   ·exact⟨by simp,by unfold Z8 at hy;simpa using hy⟩
   ·exact⟨GC _ (zDp h).1,(zDp h).2⟩
  ·cases h
section
variable {h:WF}{vt vf:Value}{T:List WJ}{F:List Wj}
abbrev zE:Value:= .iface 26 (I 6)
theorem zE6(E:B4 h vt vf T F)(a:Wa)(hp0:ZN a=true->yl T F=0)(ca:List Value){b:Nat}(ra:FM b h ca a)(hfr:ZN a=true->(0<=(zJ a).fn/\(zJ a).fn<(F.length:Int))/\((zJ a).regs.length:Int)=Z0 T F (zJ a).fn)(blk':Int):
  WC Tryz.prog tb 12 [.agg #[vt,vf],.agg ca.toArray,I blk'] h fun w h'=>(∃ cs,w=.tuple #[.agg cs.toArray,I (ZR T F a blk').2]/\FM h.n h' cs (ZR T F a blk').1)/\WK h h':=by
 have rm0:=ra.rm;have om0:=ra;have hm:=E.hm;obtain⟨am,af,ai,ae,rfl,_,_⟩:=ra.ex;obtain⟨t1,t2,t3,rfl⟩:=zN E.st;obtain⟨f1,f2,f3,rfl⟩:=zN E.sf;refine en ?_;refine VG ?_;intro p3 h1 e1 o3;replace o3:WH h h1 p3 [.slice t1 t2 t3,.slice f1 f2 f3]:=o3;have hp3:=o3.within;refine go ?_;refine VG ?_;intro p4 h2 e2 o4;replace o4:WH h1 h2 p4 [am,af,ai,I a.used,ae,I a.steps,I a.heaps,.int .u8 a.state,I a.trap,I a.exit]:=o4;refine go ?_;refine VJ ?_;intro p6 h3 e3 o6;have hp6:=o6.within;have e03:=e1.trans (e2.trans e3);have o3:=o3.ext (e2.trans e3);have o4:=o4.ext e3;refine go ?_;refine VA (zBz h3 _ a (rm0.ext e03)) ?_;rintro _ h4 ⟨rfl,e4⟩;have o3:=o3.ext e4;have o4:=o4.ext e4;have o6:=o6.ext e4;have o64:=o6;have e04:=e03.trans e4;by_cases hr:ZN a=true;case neg=>
  have hr:ZN a=false:=by simpa using hr
  rw[show ZR T F a blk'=(zM,160)from QG hr,hr];refine go ?_;refine VF (cs:=[.slice none 0 0,.slice none 0 0,.slice none 0 0,I 0,.slice none 0 0,I 0,I 0,.int .u8 0,I 0,I 0]) o6 (e3.trans e4) ?_;intro h5 e5 o5 u5;refine gr ?_;have e05:=(e1.trans e2).trans e5;exact⟨⟨_,rfl,FM.zero e05.n⟩,e05⟩
 rw[hr];have hp:=hp0 hr;have hne:=Yf hr;obtain⟨hfn,hrg⟩:=hfr hr;refine go ?_;refine VA (zFx h4 _ a (om0.ext e04) (by rw[e04.mark];exact QN hm e04.n) hne) ?_;rintro _ h5 ⟨⟨gq,gf,nf,vm',vi',ve',xs',rfl,oq,nb',M',dq1,dq2,dq3⟩,e5⟩;have o3:=o3.ext e5;have o6:=o6.ext e5;have e05:=e04.trans e5;obtain⟨m1,m2,m3,rfl⟩:=nb'.1.shape;obtain⟨i1,i2,i3,rfl⟩:∃ a n k,vi'=.slice a n k:=let⟨_,_,h2⟩:=M'.i;Wt.shape h2.sl;obtain⟨v1,v2,v3,rfl⟩:=nb'.2.shape;refine go ?_;refine VJ ?_;intro p8 h6 e6 o8;have hp8:=o8.within;refine go ?_;refine VF (cs:=[zR (.slice (some ⟨gf,0,none⟩) nf 5) ((a.frs.length-1)*5),.pointer (some ⟨gq,0,none⟩)]) o8 e6 ?_;intro h7 e7 o8' u8;have hp8':=o8'.since';replace o8:=o8';clear o8' u8;have o3:=o3.ext e7;have o6:=o6.ext e7;have e07:=e05.trans e7;have M7:=M'.ext e7;have oq7:=oq.ext e7;have E7:=E.ext e07;have o37:=o3;have o67:=o6;have o87:=o8;have e27:=(((e3.trans e4).trans e5).trans e7);have hxl:=M7.lx;obtain⟨cs0,⟨rfl,hx0⟩,pc0,hs0⟩:=zg M7.f.sl (i:=a.frs.length-1) (by omega);obtain⟨r1,r2,r3,r4⟩:=M7.rel (a.frs.length-1) (by omega);have tf:zJ a=a.frs.getD (a.frs.length-1) default:=rfl;rw[<-tf]at r1 r2 r3 r4;have owr:=M7.rg (a.frs.length-1) (by omega);obtain⟨w1,w2,w3,hw⟩:=zc owr.sl;have pcG:∀ h',WK h7 h'->Wh h' (.slice (some ⟨gf,0,none⟩) nf 5) ((a.frs.length-1)*5) [I (zJ a).fn,I (zJ a).block,I (zJ a).pos,.slice w1 w2 w3,I (zJ a).into]/\Wh (inC h') (.slice (some ⟨gf,0,none⟩) nf 5) ((a.frs.length-1)*5) [I (zJ a).fn,I (zJ a).block,I (zJ a).pos,.slice w1 w2 w3,I (zJ a).into]:=fun h' e=>by
  have:=pc0 h' e;rw[r1,r2,r3,r4,hw]at this;exact this
 have sv7:W9 h7 (.slice w1 w2 w3) (zJ a).regs:=by have:=owr.sl;rw[hw]at this;exact this
 clear pc0;have pcf:=(pcG _ (WK.refl _)).1;have sf7:=E7.sf;obtain⟨csF,⟨vb,rfl,sb,hlb⟩,pxF,hsF⟩:=zg (E.ext e04).sf (i:=(zJ a).fn.toNat) (by omega);obtain⟨b1,b2,b3,rfl⟩:=zN sb;have e47:=e5.trans e7;have pcF:Wh h7 _ _ _:=(pxF _ e47).1;have hfn0:=hfn;obtain⟨hf0,hf1⟩:=hfn;have Z:=zNb hp hfn0;obtain⟨-,hn0,hn3⟩:=zBC hp hfn0;have hL:(zp F (zJ a).fn)=(F.getD (zJ a).fn.toNat default).blocks:=rfl;have hz2:blk'<0\/((zp F (zJ a).fn).length:Int)<=blk'->ZR T F a blk'=(zM,2):=fun q=>by unfold ZR;rw[QC (by rw[hr];decide),QG q]
 have hff:((zJ a).fn.toNat:Int)=(zJ a).fn:=by omega
 have fin2:∀ {n:Int} {K:WF} {cs:List Value},ZR T F a blk'=(zM,n)->cs=[.slice none 0 0,.slice none 0 0,.slice none 0 0,I 0,.slice none 0 0,I 0,I 0,.int .u8 0,I 0,I 0]->WK h2 K->(∃ cs',Value.tuple #[.agg cs.toArray,I n]=.tuple #[.agg cs'.toArray,I (ZR T F a blk').2]/\FM h.n K cs' (ZR T F a blk').1)/\WK h K:=fun {n K cs} q hc e=>by
  subst hc;rw[q];have e0:=(e1.trans e2).trans e;exact⟨⟨_,rfl,FM.zero e0.n⟩,e0⟩
 rw[<-hL]at sb hlb;generalize hLL:zp F (zJ a).fn=L at *;have sb7:=BN.ext sb e47;by_cases c0:blk'<0
 ·refine go ?_;refine VF (cs:=[.slice none 0 0,.slice none 0 0,.slice none 0 0,I 0,.slice none 0 0,I 0,I 0,.int .u8 0,I 0,I 0]) o6 e27 ?_;intro h8 e8 o9 u9;refine gr ?_;exact fin2 (hz2 (.inl c0)) rfl e8
 by_cases c1:(L.length:Int)<=blk'
 ·refine go ?_;refine VF (cs:=[.slice none 0 0,.slice none 0 0,.slice none 0 0,I 0,.slice none 0 0,I 0,I 0,.int .u8 0,I 0,I 0]) o6 e27 ?_;intro h8 e8 o9 u9;refine gr ?_;exact fin2 (hz2 (.inr c1)) rfl e8
 have hbl:blk'.toNat<L.length:=by omega
 refine go ?_;refine VJ ?_;intro p9 h8 e8 o9;replace o9:WH h7 h8 p9 (YA []):=o9;have hp9:=o9.within;have hp9':=o9.since';have o3:=o3.ext e8;have o6:=o6.ext e8;have o8:=o8.ext e8;have e08:=e07.trans e8;have M8:=M7.ext e8;have oq8:=oq7.ext e8;have E8:=E.ext e08;have sf8:=E8.sf;have e28:=e27.trans e8;have pcf:=(pcG _ e8).1;have pcF:Wh h8 _ _ _:=(pxF _ (e47.trans e8)).1;have sb8:=BN.ext sb (e47.trans e8);obtain⟨csB,⟨vi,rfl,si,hli⟩,pxB,hsB⟩:=zg sb (i:=blk'.toNat) hbl;obtain⟨i1',i2',i3',rfl⟩:=zN si;have hBm:=zL (l:=L) (i:=blk'.toNat) hbl;have hUB:=Z.U _ (by rw[hLL];exact hBm);have hpsl:(Bm F a blk').length<=(L.getD blk'.toNat default).ins.length:=by
  unfold Bm;rw[hLL];unfold ZW;exact(List.takeWhile_prefix _).length_le
 have h128:(L.getD blk'.toNat default).ins.length<=128:=by
  have h1:=Z.many;rw[hLL]at h1;have:=zIe hBm;omega
 have hps:ZW (L.getD blk'.toNat default).ins=Bm F a blk':=by unfold Bm;rw[hLL]
 have hbt:(blk'.toNat:Int)=blk':=by omega
 refine go ?_;refine VC 0 rfl rfl ?_;have pcfY:Wh (inC (zB 0 h8)) _ _ _:=(pcG _ e8).2;have pcFY:Wh (inC (zB 0 h8)) _ _ _:=(pxF _ (e47.trans e8)).2;have pcBY:Wh (inC (zB 0 h8)) _ _ _:=(pxB _ (e47.trans e8)).2;have o3Y:WH h (inC (zB 0 h8)) p3 [.slice t1 t2 t3,.slice f1 f2 f3]:=o3;have o8Y:WH h5 (inC (zB 0 h8)) p8 [zR (.slice (some ⟨gf,0,none⟩) nf 5) ((a.frs.length-1)*5),.pointer (some ⟨gq,0,none⟩)]:=o8;have sfY:W7 (inC (zB 0 h8)) (.slice f1 f2 f3) F:=sf8;have sbY:BN (inC (zB 0 h8)) (.slice b1 b2 b3) L:=sb8;refine Wc ?_;have si8:=BD.ext si (e47.trans e8);have siY:BD (inC (zB 0 h8)) (.slice i1' i2' i3') (L.getD blk'.toNat default).ins:=si8;refine VA (zON (inC (zB 0 h8)) (.slice i1' i2' i3') (L.getD blk'.toNat default) siY (by omega)) ?_;rintro vr X ⟨sr,eX⟩;have sr4:=sr h4 si;have sr7:=sr h7 (BD.ext si e47);obtain⟨q1,q2,q3,rfl⟩:=zN sr7;refine nE eX ?_;have e89':WK h8 (zq h8 X):=(zQ 0 h8).trans (yP (h:=h8) eX);have e89:WK h8 (zq h8 (inC X)):=e89';have sr9:BD (zq h8 (inC X)) (.slice q1 q2 q3) (ZW (L.getD blk'.toNat default).ins):=BD.ext sr7 (e8.trans e89);rw[hps]at sr4 sr7 sr9;clear e89' sr siY sbY sfY o8Y o3Y pcBY pcFY pcfY;have hen:ZR T F a blk'=if((Bm F a blk').all fun x=>decide ((zJ a).block∈x.frm))=false then(zM,2)
   else if((Bm F a blk').all fun x=>decide (yd (zJ a) x≠v0))=false then(zM,6)
   else(putF a {zJ a with regs:=B3 (zJ a).regs (Zw T F (zJ a).fn blk').toNat ((Bm F a blk').map (yd (zJ a))),block:=blk',pos:=((Bm F a blk').length:Int)},0):=by
  unfold ZR;rw[QC (by rw[hr];decide),hLL,QC (by omega)]
 clear hz2;generalize hPS:Bm F a blk'=ps at *;refine Wc ?_;generalize zq h8 (inC X)=h9 at *;clear eX;refine go ?_;have e79:WK h7 h9:=e8.trans e89;have o99:=o9.ext e89;have hreg4:=hrg;obtain⟨g9,g9a,g9b,rfl,g9c⟩:=o99;refine VE (fun i=>ps.length-i) (fun i t h'=>(WK h7 h'/\WH h7 h' (.pointer (some ⟨g9,0,none⟩)) (YA ((ps.take i).map (yd (zJ a)))))/\(zC t 59=I i/\zC t 10=(if((ps.take i).all fun x=>decide (yd (zJ a) x≠v0))then .nilIface else zE))/\i<=ps.length/\((ps.take i).all fun x=>decide ((zJ a).block∈x.frm))=true) 0 ?_ ?_
 ·exact⟨⟨e79,g9,g9a,g9b,rfl,g9c⟩,⟨WM,WM⟩,QU _,rfl⟩
 rintro i t h10 hsame ⟨⟨e710,o910⟩,⟨s59,s10⟩,hi,hall⟩;have sr10:=BD.ext sr7 e710;have o3:=o37.ext e710;have o6:=o67.ext e710;have o8:=o87.ext e710;refine go ?_;refine VD (fun hb=> ?_) (fun hb=> ?_)<;>simp only[DB]at hb
 ·have hi':i<ps.length:=by omega
  obtain⟨csI,⟨va,vf',rfl,sva,svf,hla,hlf⟩,pcI,hsI⟩:=yo sr10 hi';obtain⟨z1,z2,z3,rfl⟩:=Wt.shape sva;obtain⟨y1,y2,y3,rfl⟩:=Wt.shape svf;refine go ?_;refine VJ ?_;intro p13 h11 e11 o13;refine go ?_;refine VF (cs:=[.int .u8 (ps.getD i default).op,I (ps.getD i default).ty,I (ps.getD i default).a,I (ps.getD i default).b,I (ps.getD i default).n,.slice z1 z2 z3,.slice y1 y2 y3]) o13 e11 ?_;intro h12 e12 o13' u13;have e712:=e710.trans e12;have o3:=o3.ext e12;have o6:=o6.ext e12;have o8:=o8.ext e12;have o9C:=o910.ext e12;have svf2:=svf.ext e12;have sva2:=sva.ext e12;have hxm:ps.getD i default∈(L.getD blk'.toNat default).ins/\(ps.getD i default).op=22:=by
   have h1:=zL (l:=ps) (i:=i) hi';have h2:ps.getD i default∈ZW (L.getD blk'.toNat default).ins:=by rw[hps];exact h1
   exact zDp h2
  obtain⟨ux1,ux2,ux3⟩:=(hUB.ins _ hxm.1).phi hxm.2;have ua:=(hUB.ins _ hxm.1).args;have uf:=(hUB.ins _ hxm.1).frm;generalize hX:ps.getD i default=x at *;refine go ?_;refine VC 0 rfl rfl ?_;have o13Y:WH h10 (inC (zB 0 h12)) p13 [.int .u8 x.op,I x.ty,I x.a,I x.b,I x.n,.slice z1 z2 z3,.slice y1 y2 y3]:=o13';have o8Y:WH h5 (inC (zB 0 h12)) p8 [zR (.slice (some ⟨gf,0,none⟩) nf 5) ((a.frs.length-1)*5),.pointer (some ⟨gq,0,none⟩)]:=o8;have pcY:=(pcG _ e712).2;have pcY:Wh (inC (zB 0 h12)) _ _ _:=pcY;refine Wc ?_;have svY:Wd (inC (zB 0 h12)) (.slice y1 y2 y3) x.frm:=svf2;refine VA (zK8 (inC (zB 0 h12)) (.slice y1 y2 y3) x.frm (zJ a).block svY (by omega)) ?_;rintro _ X ⟨⟨k,rfl,hk⟩,hXX⟩;have eX:WK (inC (zB 0 h12)) X:=by rw[<-hXX];exact WK.refl _
  clear hXX svY pcY o8Y o13Y;refine nE eX ?_;have e123':WK h12 (zq h12 X):=(zQ 0 h12).trans (yP (h:=h12) eX);have e123:WK h12 (zq h12 (inC X)):=e123';clear e123';refine Wc ?_;generalize zq h12 (inC X)=h13 at *;clear eX;have e713:=e712.trans e123;have o3:=o3.ext e123;have o6:=o6.ext e123;have o8:=o8.ext e123;have o9C:=o9C.ext e123;have sva2:=sva2.ext e123;have o13':=o13'.ext e123;rcases hk with⟨rfl,hk⟩|⟨hk0,hk1,hk2⟩
  ·refine go ?_;refine VF (cs:=[.slice none 0 0,.slice none 0 0,.slice none 0 0,I 0,.slice none 0 0,I 0,I 0,.int .u8 0,I 0,I 0]) o6 (e27.trans e713) ?_;intro h14 e13 o14 u14;refine go ?_;refine rt ?_ (VL WM o14 rfl (Wz.cons WM Wz.nil));refine fin2 ?_ rfl e13;rw[hen,QG];rw[List.all_eq_false];exact⟨x,by rw[<-hX];exact zL hi',by simpa using hk⟩
  obtain⟨j,rfl⟩:∃ j:Nat,k=j:=⟨k.toNat,by omega⟩;rw[Q7]at hk1 hk2;have hfst:=zJx (by omega) hk1 hk2;have hreg:0<=x.args.getD j 0/\x.args.getD j 0<((zJ a).regs.length:Int):=by
   have q1:0<=x.args.getD j 0/\x.args.getD j 0<((ksF T F (zJ a).fn).length:Int):=ux2 _ (zL (l:=x.args) (i:=j) (by omega));have q2:((ksF T F (zJ a).fn).length:Int)=Z0 T F (zJ a).fn:=Z.reg;rw[hrg,<-q2];exact q1
  obtain⟨hreg0,hreg1⟩:=hreg;have sv12:=W9.ext sv7 e713;have pc12:=(pcG _ e713).1;obtain⟨csV,hV,pcV0,hsV⟩:=zg sv7 (i:=(x.args.getD j 0).toNat) (by omega);have hphi:(zJ a).regs.getD (x.args.getD j 0).toNat default=yd (zJ a) x:=by unfold yd;rw[hfst]
  rw[hphi]at hV;have hV:csV=[.int .u8 (yd (zJ a) x).kind,I (yd (zJ a) x).n,I (yd (zJ a) x).block,I (yd (zJ a) x).pos]:=hV;subst hV;have pcV:=(pcV0 _ e713).1;refine go ?_;refine Vl (zF4 (xs:=#[.int .u8 (yd (zJ a) x).kind,I (yd (zJ a) x).n,I (yd (zJ a) x).block,I (yd (zJ a) x).pos]) (ys:=#[.int .u8 0,I 0,I 0,I 0]) (b:=decide (yd (zJ a) x=v0)) (by kernel_rfl) (zIO (yd (zJ a) x) v0)) ?_;have hlm:((ps.take i).map (yd (zJ a))).length=i:=by simp;omega
  have htk:ps.take (i+1)=ps.take i++[x]:=by rw[GE,QB hi',<-hX];simp[List.getD,QB hi']
  have hput:zO (YA ((ps.take i).map (yd (zJ a)))) (i*4) (vc (yd (zJ a) x))=YA ((ps.take (i+1)).map (yd (zJ a))):=by
   have:=zLj (l:=(ps.take i).map (yd (zJ a))) (v:=yd (zJ a) x) (by omega);rw[hlm]at this;rw[this,htk,GU];rfl
  have hin:(zJ a).block∈x.frm:=by rw[<-hk1];exact zL (l:=x.frm) (i:=j) (by omega)
  by_cases hz:yd (zJ a) x=v0
  ·have hal2:((ps.take (i+1)).all fun x=>decide (yd (zJ a) x≠v0))=false:=by rw[htk,Gu];simp[hz]
   rw[QX hz];refine go ?_;refine VR ?_;refine go ?_;refine VC 0 rfl rfl ?_;have o13Y:WH h10 (inC (zB 0 h13)) p13 [.int .u8 x.op,I x.ty,I x.a,I x.b,I x.n,.slice z1 z2 z3,.slice y1 y2 y3]:=o13';have o8Y:WH h5 (inC (zB 0 h13)) p8 [zR (.slice (some ⟨gf,0,none⟩) nf 5) ((a.frs.length-1)*5),.pointer (some ⟨gq,0,none⟩)]:=o8;have saY:Wd (inC (zB 0 h13)) (.slice z1 z2 z3) x.args:=sva2;have svY:W9 (inC (zB 0 h13)) (.slice w1 w2 w3) (zJ a).regs:=sv12;have pcY:Wh (inC (zB 0 h13)) _ _ _:=(pcG _ e713).2;have pvY:Wh (inC (zB 0 h13)) _ _ _:=(pcV0 _ e713).2;have o9Y:WH h7 (inC (zB 0 h13)) (.pointer (some ⟨g9,0,none⟩)) (YA ((ps.take i).map (yd (zJ a)))):=o9C;have o9Z:WH h7 (zB 0 h13) (.pointer (some ⟨g9,0,none⟩)) (YA ((ps.take i).map (yd (zJ a)))):=o9C;refine Wc ?_;refine XK (i:=i) o9Y (by omega) ?_;refine nQ ?_;refine Wc ?_;refine V3 (hB:=h7) (hS:=h13) (j:=i*4) (cs:=vc (yd (zJ a) x)) o9Z e713 (by rw[e713.mark,e07.mark];exact QN hm e07.n) rfl ?_ (by rw[zCl (by rw[hlm];omega)];show _+4<=_;omega);intro h14 e14 o14 u14;rw[hput]at o14;refine go ?_;refine zA (i+1) (by omega) ⟨⟨e14,?_⟩,⟨BF,?_⟩,by omega,?_⟩
   ·exact o14
   ·rw[hal2,QC Bool.false_ne_true];exact WM
   ·rw[htk,Gu,hall];simpa using hin
  ·have hal2:((ps.take (i+1)).all fun x=>decide (yd (zJ a) x≠v0))=((ps.take i).all fun x=>decide (yd (zJ a) x≠v0)):=by rw[htk,Gu];simp[hz]
   rw[QW hz];refine go ?_;refine VC 0 rfl rfl ?_;have o13Y:WH h10 (inC (zB 0 h13)) p13 [.int .u8 x.op,I x.ty,I x.a,I x.b,I x.n,.slice z1 z2 z3,.slice y1 y2 y3]:=o13';have o8Y:WH h5 (inC (zB 0 h13)) p8 [zR (.slice (some ⟨gf,0,none⟩) nf 5) ((a.frs.length-1)*5),.pointer (some ⟨gq,0,none⟩)]:=o8;have saY:Wd (inC (zB 0 h13)) (.slice z1 z2 z3) x.args:=sva2;have svY:W9 (inC (zB 0 h13)) (.slice w1 w2 w3) (zJ a).regs:=sv12;have pcY:Wh (inC (zB 0 h13)) _ _ _:=(pcG _ e713).2;have pvY:Wh (inC (zB 0 h13)) _ _ _:=(pcV0 _ e713).2;have o9Y:WH h7 (inC (zB 0 h13)) (.pointer (some ⟨g9,0,none⟩)) (YA ((ps.take i).map (yd (zJ a)))):=o9C;have o9Z:WH h7 (zB 0 h13) (.pointer (some ⟨g9,0,none⟩)) (YA ((ps.take i).map (yd (zJ a)))):=o9C;refine Wc ?_;refine XK (i:=i) o9Y (by omega) ?_;refine nQ ?_;refine Wc ?_;refine V3 (hB:=h7) (hS:=h13) (j:=i*4) (cs:=vc (yd (zJ a) x)) o9Z e713 (by rw[e713.mark,e07.mark];exact QN hm e07.n) rfl ?_ (by rw[zCl (by rw[hlm];omega)];show _+4<=_;omega);intro h14 e14 o14 u14;rw[hput]at o14;refine go ?_;refine zA (i+1) (by omega) ⟨⟨e14,?_⟩,⟨BF,?_⟩,by omega,?_⟩
   ·exact o14
   ·rw[hal2];exact WM
   ·rw[htk,Gu,hall];simpa using hin
 ·have hii:i=ps.length:=by omega
  rw[hii,Gc]at hall s10 o910;by_cases hz:(ps.all fun x=>decide (yd (zJ a) x≠v0))=true;case neg=>
   have hz:(ps.all fun x=>decide (yd (zJ a) x≠v0))=false:=by simpa using hz
   rw[hz,QC Bool.false_ne_true]at s10;rw[QC (by rw[hall];decide),QG hz]at hen;refine go ?_;refine WO.as (r:= .tuple #[I 6,.bool true]) (by kernel_rfl) ?_ (hx:=by exact zX);refine go ?_;refine VF (cs:=[.slice none 0 0,.slice none 0 0,.slice none 0 0,I 0,.slice none 0 0,I 0,I 0,.int .u8 0,I 0,I 0]) o6 (e27.trans e710) ?_;intro h14 e14 o14 u14;refine go ?_;refine rt ?_ (VL WM o14 rfl (Wz.cons WM Wz.nil));exact fin2 hen rfl e14
  rw[hz,QG rfl]at s10;rw[QC (by rw[hall];decide),QC (by rw[hz];decide)]at hen;refine go ?_;refine WO.as (r:= .tuple #[I 0,.bool false]) (by kernel_rfl) ?_ (hx:=by exact zX);refine go ?_;have o810:=o87.ext e710;have M10:=M7.ext e710;have oq10:=oq7.ext e710;have e410:=(e5.trans e7).trans e710;generalize hRG:B3 (zJ a).regs (Zw T F (zJ a).fn blk').toNat (ps.map (yd (zJ a)))=RG at *;refine VK (fun t' h'=>(WK h4 h'/\WH h5 h' p8 [zR (.slice (some ⟨gf,0,none⟩) nf 5) ((a.frs.length-1)*5),.pointer (some ⟨gq,0,none⟩)])/\WH h4 h' (.pointer (some ⟨gq,0,none⟩)) [.slice m1 m2 m3,.slice (some ⟨gf,0,none⟩) nf 5,.slice i1 i2 i3,I a.used,.slice v1 v2 v3,I a.steps,I a.heaps,.int .u8 a.state,I a.trap,I a.exit]/\OM h4.n h' (.slice (some ⟨gf,0,none⟩) nf 5) (.slice i1 i2 i3) xs' {a with frs:=a.frs.set (a.frs.length-1) {zJ a with regs:=RG}}) ?_ ?_
  ·by_cases hn:0<ps.length;case neg=>
    refine go ?_;have hp0:ps=[]:=GH (by omega);refine zD ⟨⟨e410,o810⟩,oq10,?_⟩;have hRG':RG=(zJ a).regs:=by rw[<-hRG,hp0];exact zNB (a:=a) _ _
    have hh:=zMg (a:=a) (i:=a.frs.length-1) (by omega);rw[hRG'];rw[show({a with frs:=a.frs.set (a.frs.length-1) {zJ a with regs:=(zJ a).regs}}:Wa)=a from hh];exact M10
   have o3Z:WH h (inC (zB 0 h10)) p3 [.slice t1 t2 t3,.slice f1 f2 f3]:=o3;have o8Z:WH h5 (inC (zB 0 h10)) p8 [zR (.slice (some ⟨gf,0,none⟩) nf 5) ((a.frs.length-1)*5),.pointer (some ⟨gq,0,none⟩)]:=o810;have pcZ:Wh (inC (zB 0 h10)) _ _ _:=(pcG _ e710).2;refine go ?_;refine VC 0 rfl rfl ?_;refine Wc ?_;refine VA (zKq ((E.ext (e07.trans e710)).as 0) hp hfn0 blk' 0 ⟨by omega,by rw[hLL];omega⟩ ⟨by omega,by rw[hLL];omega⟩) ?_;rintro _ Y ⟨rfl,eY⟩;refine nE eY ?_;have e101':WK h10 (zq h10 Y):=(zQ 0 h10).trans (yP (h:=h10) eY);have e101:WK h10 (zq h10 (inC Y)):=e101';clear e101' o3Z o8Z pcZ;refine Wc ?_;generalize zq h10 (inC Y)=h11 at *;have e711:=e710.trans e101;have o81:=o810.ext e101;have M11:=M7.ext e711;have oq11:=oq7.ext e711;have o911:=o910.ext e101;have ow11:=M11.rg (a.frs.length-1) (by omega);have hset:=fun(h':WF) (o':WZ 4 W6 h4.n h' (xs'.getD (a.frs.length-1) default).v RG) (u:UpB (xs'.getD (a.frs.length-1) default).v h11 h') (hl:RG.length<=1000)=>M11.setR (i:=a.frs.length-1) (l:=RG) (by omega) hl o' u;replace hset:=Wu.mk hset;have dqi:=dq3 (a.frs.length-1) (by omega);have hw8:=(M'.rg (a.frs.length-1) (by omega)).within;rw[hw]at ow11 hset dqi hw8;rw[<-tf]at ow11;obtain⟨N0,hN0⟩:∃ N0:Nat,Zw T F (zJ a).fn blk'=N0:=⟨(Zw T F (zJ a).fn blk').toNat,by have:=Zu ((zp F (zJ a).fn).take blk'.toNat);unfold Zw;omega⟩;have hroom:N0+ps.length<=(zJ a).regs.length:=by
    have q1:=zHD (L:=L) (i:=blk'.toNat) hbl;have q2:Z0 T F (zJ a).fn=((zAR T F (zJ a).fn).length:Int)+zz (zp F (zJ a).fn):=rfl;unfold Zw at hN0;rw[hLL]at hN0 q2;omega
   rw[hN0,Q7]at hRG;rcases id ow11 with⟨e,_⟩|⟨gw,row,D,g1,g2,e,g3,g4,_⟩
   ·have hz0:(zJ a).regs.length=0:=by
     obtain⟨_,s2,_⟩:=ow11.sl;rw[e]at s2;obtain⟨_,⟨s3,_⟩|⟨_,_,_,s3,_⟩⟩:=s2
     ·exact s3
     ·cases s3
    omega
   cases e;obtain⟨_,_,hg9n,e9,hg9⟩:=id o911;cases e9;have hml:(ps.map (yd (zJ a))).length=ps.length:=by simp
   have h0add:Zw T F (zJ a).fn blk'+0=(N0:Int):=by omega
   have hm11:h11.mark<=h4.n:=by rw[e711.mark,e07.mark];exact QN hm e04.n
   have o8Z:WH h5 (inC (zB 0 h11)) p8 [zR (.slice (some ⟨gf,0,none⟩) nf 5) ((a.frs.length-1)*5),.pointer (some ⟨gq,0,none⟩)]:=o81;have pcZ:Wh (inC (zB 0 h11)) _ _ _:=(pcG _ e711).2;have sr11:=BD.ext sr7 e711;have srZ:BD (inC (zB 0 h11)) (.slice q1 q2 q3) ps:=sr11;refine go ?_;refine VC 0 rfl rfl ?_;refine Wc ?_;refine Vi (i:=N0) (r:= .slice (some ⟨gw,0+N0*4,none⟩) ((zJ a).regs.length-N0) 4) (zA7 (by omega)) ?_ (hx:=by exact zX) (hy:=by rw[<-h0add];exact zX);refine nQ ?_;refine Wc ?_;refine Xi (g:=g9) (row:=YA (ps.map (yd (zJ a)))) (n:=ps.length) hg9 (by omega) (by rw[zCl (by omega)];omega) ?_;refine nQ ?_;refine Wc ?_;refine UO (q:=gw) (off:=0+N0*4) (n:=(zJ a).regs.length-N0) (k:=ps.length) (row:=row) (ys:=Bn (ps.map (yd (zJ a)))) g3 (QN hm11 g1) (zPy (h:=inC (zB 0 h11)) hg9 hg9n hml.symm) (by decide) hn (by omega) (by rw[Zo,g4];omega) (zJz _) ?_;intro H nH kH gH wH mH wrH;rw[Qk]at gH;have u11:UpB (.slice (some ⟨gw,0,none⟩) (zJ a).regs.length 4) h11 H:=⟨by rw[nH];exact QE _,fun k hk hne=>kH k (fun e=>hne (by rw[e];rfl))⟩;have ownH:=zMN (h':=H) (k:=N0) (ys:=ps.map (yd (zJ a))) (row:=row) ow11 g3 (by omega) nH gH;rw[hRG]at ownH;have hRl:RG.length<=1000:=by
    have:=M11.lr (a.frs.length-1) (by omega);rw[<-tf]at this;rw[<-hRG];unfold B3;simp;omega
   have MH:=hset.out H ownH u11 hRl;have e411:=e410.trans e101;have e4H:WK h4 H:=⟨by rw[nH];exact e411.n,fun k hk=>(kH k (by omega)).trans (e411.get k hk),fun w=>wH (e411.wf w),mH.trans e411.mark,fun hmk=>wrH.trans (e411.wr hmk)⟩;have o8H:=o81.upB u11 ((VI (h:=h5) hp8' hw8).symm);have oqH:=oq11.upB u11 dqi.symm;refine go ?_;exact zD ⟨⟨e4H,o8H⟩,oqH,MH⟩
  rintro t' h15 hsame2 ⟨⟨e415,o815⟩,oq15,M15⟩;have hx15:=M15.lx;have hxl15:a.frs.length-1<xs'.length:=by omega
  obtain⟨g,row,g1,g2,e,g4,g5,g6⟩:=zB8 (i:=a.frs.length-1) (off:=1) (cs:=[I blk']) (a:={xs'.getD (a.frs.length-1) default with block:=blk'}) M15.f hxl15 (by simp) (fun old hx r hl=>by
   obtain⟨r1,r2⟩:=r;subst r1;exact⟨rfl,r2⟩)
  cases e;obtain⟨g8,g8a,g8b,rfl,g8c⟩:=id o815;have b8:¬g8=gf:=fun e=>by
   have:=(VI (h:=h5) hp8' M'.f.within).symm gf rfl;exact this (by rw[<-e];rfl)
  have bq:¬gq=gf:=dq1;have hm15:h15.mark<=h4.n:=by rw[e415.mark,e04.mark];exact QN hm e04.n
  have o8Y:WH h5 (inC (zB 0 h15)) (.pointer (some ⟨g8,0,none⟩)) [zR (.slice (some ⟨gf,0,none⟩) xs'.length 5) ((a.frs.length-1)*5),.pointer (some ⟨gq,0,none⟩)]:=o815;have sr15:=BD.ext sr4 e415;have srZ:BD (inC (zB 0 h15)) (.slice q1 q2 q3) ps:=sr15;refine go ?_;refine VX (fun k=>k=gf) 0 rfl rfl ?_;refine goV ?_;refine Xk (q:=gf) (row:=row) (off:=0+((a.frs.length-1)*5+1)) (cs:=[I blk']) g4 (QN hm15 g1) (.inr rfl) ?_ (by rw[Qk];exact g5) (hx:=by show WQ _ _ (zR (.slice (some ⟨gf,0,none⟩) xs'.length 5) ((a.frs.length-1)*5+1));exact zX);intro X nX kX gX wX;rw[Qk]at gX;have oX:=g6 X (Nat.le_of_eq nX.symm) gX (fun k _ hne=>kX k hne);obtain⟨g',row2,h1',h2',e',h4',h5',h6'⟩:=zB8 (i:=a.frs.length-1) (off:=2) (cs:=[I (ps.length:Int)]) (a:={xs'.getD (a.frs.length-1) default with block:=blk',pos:=(ps.length:Int)}) oX (by rw[GL];exact hxl15) (by simp) (fun old hx r hl=>by
   rw[yb hxl15,QG rfl]at r;obtain⟨r1,r2⟩:=r;subst r1;exact⟨rfl,r2⟩)
  rw[GL]at e';cases e';refine goV ?_;refine XG (q:=gf) (row:=row2) (off:=0+((a.frs.length-1)*5+2)) (cs:=[I (ps.length:Int)]) h4' (QN hm15 g1) (.inl rfl) ?_ (by rw[Qk];exact h5') (hx:=by show WQ _ _ (zR (.slice (some ⟨gf,0,none⟩) xs'.length 5) ((a.frs.length-1)*5+2));exact zX);intro H nH kH gH wH mH wrH;rw[Qk]at gH;have oY:=h6' H (Nat.le_of_eq nH.symm) gH (fun k _ hne=>kH k hne);rw[List.set_set]at oY;have kHX:∀ k,k≠gf->H.get k=h15.get k:=fun k hne=>(kH k hne).trans (kX k hne);have nH15:H.n=h15.n:=nH.trans nX;have MF:=U4 (a:={a with frs:=a.frs.set (a.frs.length-1) {zJ a with regs:=RG}}) (fr':={zJ a with regs:=RG,block:=blk',pos:=(ps.length:Int)}) M15 (by simp;omega) oY (fun k _ hne=>kHX k (fun e=>hne (by rw[e];rfl))) (Nat.le_of_eq nH15.symm) rfl (by simp only;rw[yb (by omega),QG rfl]) ⟨r1,rfl,rfl,r4⟩;simp only[List.set_set]at MF;have e4H:WK h4 H:=⟨by rw[nH15];exact e415.n,fun k hk=>(kHX k (by omega)).trans (e415.get k hk),fun w=>wH (wX (e415.wf w)),mH.trans e415.mark,fun hmk=>wrH.trans (e415.wr hmk)⟩;have oqH:WH h4 H (.pointer (some ⟨gq,0,none⟩)) [.slice m1 m2 m3,.slice (some ⟨gf,0,none⟩) xs'.length 5,.slice i1 i2 i3,I a.used,.slice v1 v2 v3,I a.steps,I a.heaps,.int .u8 a.state,I a.trap,I a.exit]:=by
   obtain⟨q,z1,z2,z3,z4⟩:=oq15;cases z3;exact⟨gq,z1,by omega,rfl,(kHX gq bq).trans z4⟩
  have o8H:WH h5 H (.pointer (some ⟨g8,0,none⟩)) [zR (.slice (some ⟨gf,0,none⟩) xs'.length 5) ((a.frs.length-1)*5),.pointer (some ⟨gq,0,none⟩)]:=⟨g8,g8a,by omega,rfl,(kHX g8 b8).trans g8c⟩;have e2H:WK h2 H:=(e3.trans e4).trans e4H;refine go ?_;refine VF (cs:=[.slice m1 m2 m3,.slice (some ⟨gf,0,none⟩) xs'.length 5,.slice i1 i2 i3,I a.used,.slice v1 v2 v3,I a.steps,I a.heaps,.int .u8 a.state,I a.trap,I a.exit]) (o64.ext e4H) e2H ?_;intro h16 e16 o16 u16;refine go ?_;refine rt ?_ (VL WM o16 rfl (Wz.cons WM Wz.nil));rw[hen];refine⟨⟨_,rfl,((OM.upd MF (fun k k1 k2=>u16.2 k k2 fun e=> ?_) u16.1).base e04.n).fm nb'⟩,(e1.trans e2).trans e16⟩;have:=hp6 k (by rw[e];rfl);have:=e4.n;omega
end
structure BY where
 kind:Int
 n:Int
 into:Int
 v:Wi
 args:List Wi
deriving Inhabited
def RAct(h:WF)(cs:List Value)(x:BY):Prop:=∃ va,cs=[.int .u8 x.kind,I x.n,I x.into,.int .u8 x.v.kind,I x.v.n,I x.v.block,I x.v.pos,va]/\W9 h va x.args/\(x.args.length:Int)<=1152921504606846976/\0<=x.kind/\x.kind<=255
abbrev SlA(h:WF)(v:Value)(l:List BY):Prop:=Ww 8 RAct h v l
theorem RAct.ext{h h':WF}{cs:List Value}{x:BY}(r:RAct h cs x)(e:WK h h'):RAct h' cs x:=let⟨va,a,b,c⟩:=r;⟨va,a,b.ext e,c⟩
theorem SlA.ext{h h':WF}{v:Value}{l:List BY}(s:SlA h v l)(e:WK h h'):SlA h' v l:=Ww.ext (fun _ _ r=>RAct.ext r e) s e
def Yq(T:List WJ)(F:List Wj)(a:Wa)(x:BY):Wa×Int:=
 if x.kind % 5=0 then zBp a x.n x.v else if x.kind % 5=1 then ZR T F a x.n else if x.kind % 5=2 then zA9 T F a x.n x.args x.into else if x.kind % 5=3 then Zh a x.v else zAq a x.n
structure BL(T:List WJ)(F:List Wj)(k:Nat)(a:Wa):Prop where
 fl:a.frs.length<=k
 fn:∀ i,i<a.frs.length->(0<=(a.frs.getD i default).fn/\(a.frs.getD i default).fn<(F.length:Int))/\((a.frs.getD i default).regs.length:Int)=Z0 T F (a.frs.getD i default).fn
 into:∀ i,i+1<a.frs.length->0<=(a.frs.getD (i+1) default).into/\(a.frs.getD (i+1) default).into<((a.frs.getD i default).regs.length:Int)
theorem VO{T:List WJ}{F:List Wj}{k:Nat}{a:Wa}(h:a.frs=[]):BL T F k a:=⟨by rw[h];simp,fun i hi=>by rw[h]at hi;simp at hi,fun i hi=>by rw[h]at hi;simp at hi⟩
theorem BL.put{T:List WJ}{F:List Wj}{k:Nat}{a:Wa}(o:BL T F k a){f:BQ}(hne:0<a.frs.length)(h1:f.fn=(zJ a).fn)(h2:f.regs.length=(zJ a).regs.length)(h3:f.into=(zJ a).into):BL T F k (putF a f):=by
 have hs:∀ j,(a.frs.set (a.frs.length-1) f).getD j default=if j=a.frs.length-1 then f else a.frs.getD j default:=fun j=>yb (by omega);have tf:zJ a=a.frs.getD (a.frs.length-1) default:=rfl;rw[tf]at h1 h2 h3;refine⟨by show(a.frs.set _ _).length<=_;simpa using o.fl,fun i hi=> ?_,fun i hi=> ?_⟩
 ·have hi:i<a.frs.length:=by have hi:i<(a.frs.set (a.frs.length-1) f).length:=hi;simpa using hi
  show(0<=((a.frs.set (a.frs.length-1) f).getD i default).fn/\((a.frs.set (a.frs.length-1) f).getD i default).fn<_)/\(((a.frs.set (a.frs.length-1) f).getD i default).regs.length:Int)=Z0 T F ((a.frs.set (a.frs.length-1) f).getD i default).fn;rw[hs];by_cases e:i=a.frs.length-1
  ·rw[QG e,h1,h2,<-e];exact o.fn i hi
  ·rw[QC e];exact o.fn i hi
 ·have hi:i+1<a.frs.length:=by have hi:i+1<(a.frs.set (a.frs.length-1) f).length:=hi;simpa using hi
  show 0<=((a.frs.set (a.frs.length-1) f).getD (i+1) default).into/\((a.frs.set (a.frs.length-1) f).getD (i+1) default).into<(((a.frs.set (a.frs.length-1) f).getD i default).regs.length:Int);rw[hs,hs,QC (show ¬i=a.frs.length-1 by omega)];by_cases e:i+1=a.frs.length-1
  ·rw[QG e,h3,<-e];exact o.into i hi
  ·rw[QC e];exact o.into i hi
theorem BL.mono{T:List WJ}{F:List Wj}{k k':Nat}{a:Wa}(o:BL T F k a)(h:k<=k'):BL T F k' a:=⟨QN o.fl h,o.fn,o.into⟩
theorem zD8{T:List WJ}{F:List Wj}(hp:yl T F=0){a:Wa}{b:Int}(hf:0<=(zJ a).fn/\(zJ a).fn<(F.length:Int))(hr:((zJ a).regs.length:Int)=Z0 T F (zJ a).fn)(hb:¬(b<0\/((zp F (zJ a).fn).length:Int)<=b)):(Zw T F (zJ a).fn b).toNat+(Bm F a b).length<=(zJ a).regs.length:=by
 have q1:=zHD (L:=zp F (zJ a).fn) (i:=b.toNat) (by omega);have q2:Z0 T F (zJ a).fn=((zAR T F (zJ a).fn).length:Int)+zz (zp F (zJ a).fn):=rfl;have q3:(Bm F a b).length<=((zp F (zJ a).fn).getD b.toNat default).ins.length:=by unfold Bm ZW;exact(List.takeWhile_prefix _).length_le
 have q4:=Zu ((zp F (zJ a).fn).take b.toNat);unfold Zw;omega
theorem zP8{T:List WJ}{F:List Wj}{k:Nat}{a:Wa}(o:BL T F k a)(r:Int)(v:Wi):BL T F k (zBp a r v).1:=by
 unfold zBp;split
 ·exact VO rfl
 ·rename_i hr;split
  ·exact o.put (Yf (by simpa using hr)) rfl (by simp) rfl
  ·exact VO rfl
theorem zN2{T:List WJ}{F:List Wj}{k:Nat}{a:Wa}(o:BL T F k a)(e:Int):BL T F k (zAq a e).1:=by
 unfold zAq;split
 ·exact VO rfl
 ·split
  ·exact⟨o.fl,o.fn,o.into⟩
  ·exact VO rfl
theorem zMp{T:List WJ}{F:List Wj}(hp:yl T F=0){k:Nat}{a:Wa}(o:BL T F k a)(b:Int):BL T F k (ZR T F a b).1:=by
 unfold ZR;split
 ·exact VO rfl
 rename_i hr;have hne:=Yf (a:=a) (by simpa using hr);split
 ·exact VO rfl
 rename_i hb;split
 ·exact VO rfl
 split
 ·exact VO rfl
 have h1:=o.fn (a.frs.length-1) (by omega);have h2:=zD8 (a:=a) (b:=b) hp h1.1 h1.2 hb;refine o.put hne rfl ?_ rfl;show(B3 _ _ _).length=_;unfold B3;simp;omega
theorem zOE{T:List WJ}{F:List Wj}(hp:yl T F=0){k:Nat}{a:Wa}(o:BL T F k a)(f:Int)(args:List Wi)(into:Int):BL T F (k+1) (zA9 T F a f args into).1:=by
 unfold zA9;split
 ·exact VO rfl
 rename_i hr;have hne:=Yf (a:=a) (by simpa using hr);split;case isFalse=>exact VO rfl
 rename_i hk;have hk':=hk;unfold Bz at hk;simp only[QJ,QY]at hk;obtain⟨⟨⟨hf,hl⟩,_⟩,hi⟩:=hk;have hrg:=zBC hp (f:=f) (by omega);have hpl:((zAR T F f).length:Int)<=Z0 T F f:=by
  have:=zA8 (F.getD f.toNat default).blocks;unfold Z0 zAR;omega
 unfold zEr at hi;simp only[QJ,QY]at hi;have hs:∀ j,(a.frs++[ZZ T F f args into]).getD j default=if j<a.frs.length then a.frs.getD j default else if j=a.frs.length then ZZ T F f args into else default:=fun j=>by
  simp only[QL];by_cases q:j<a.frs.length
  ·rw[QG q,Qc q]
  ·rw[QC q,Qm (by omega)];by_cases e:j=a.frs.length
   ·subst e;simp
   ·rw[QC e,GW (by simp;omega)];rfl
 have hfl:=o.fl;refine⟨by simp;omega,fun i hi'=> ?_,fun i hi'=> ?_⟩
 ·simp only[QT,QZ]at hi';show(0<=((a.frs++[ZZ T F f args into]).getD i default).fn/\_)/\_;simp only[hs];by_cases q:i<a.frs.length
  ·rw[QG q];exact o.fn i q
  ·rw[QC q,QG (by omega)];refine⟨hf,?_⟩;show((args++List.replicate _ v0).length:Int)=Z0 T F f;simp;omega
 ·simp only[QT,QZ]at hi';show 0<=((a.frs++[ZZ T F f args into]).getD (i+1) default).into/\_;simp only[hs];rw[QG (show i<a.frs.length by omega)];by_cases q:i+1<a.frs.length
  ·rw[QG q];exact o.into i q
  ·rw[QC q,QG (by omega)];have tf:zJ a=a.frs.getD (a.frs.length-1) default:=rfl;rw[tf,show a.frs.length-1=i by omega]at hi;exact hi
theorem zP4{T:List WJ}{F:List Wj}{k:Nat}{a:Wa}(o:BL T F k a)(v:Wi):BL T F k (Zh a v).1:=by
 unfold Zh;split
 ·exact VO rfl
 split
 ·exact VO rfl
 split;case isFalse=>exact VO rfl
 rename_i h1;have hfl:=o.fl;have hbl:(YU a v).length=a.frs.length-1:=by unfold YU;simp
 have hs:∀ j,j<a.frs.length-1->(YU a v).getD j default=if j=a.frs.length-2 then {a.frs.getD (a.frs.length-2) default with regs:=(a.frs.getD (a.frs.length-2) default).regs.set (zJ a).into.toNat v} else a.frs.getD j default:=fun j hj=>by
  unfold YU;have:=yb (l:=a.frs) (i:=a.frs.length-2) (j:=j) (a:={a.frs.getD (a.frs.length-2) default with regs:=(a.frs.getD (a.frs.length-2) default).regs.set (zJ a).into.toNat v}) (by omega);rw[<-this];simp only[QL];rw[List.getElem?_take_of_lt hj]
 refine⟨by show(YU a v).length<=_;omega,fun i hi=> ?_,fun i hi=> ?_⟩
 ·have hi:i<a.frs.length-1:=by have hi:i<(YU a v).length:=hi;omega
  show(0<=((YU a v).getD i default).fn/\_)/\_;have h2:=o.fn i (by omega);rw[hs i hi];by_cases e:i=a.frs.length-2
  ·subst e;rw[QG rfl];simpa using h2
  ·rw[QC e];exact h2
 ·have hi:i+1<a.frs.length-1:=by have hi:i+1<(YU a v).length:=hi;omega
  show 0<=((YU a v).getD (i+1) default).into/\_;have h2:=o.into i (by omega);rw[hs _ hi,hs i (by omega),QC (show ¬i=a.frs.length-2 by omega)];by_cases e:i+1=a.frs.length-2
  ·rw[QG e];rw[e]at h2;exact h2
  ·rw[QC e];exact h2
theorem zP1{T:List WJ}{F:List Wj}(hp:yl T F=0){k:Nat}{a:Wa}(o:BL T F k a)(x:BY):BL T F (k+1) (Yq T F a x).1:=by
 unfold Yq;split
 ·exact(zP8 o _ _).mono (GO _)
 split
 ·exact(zMp hp o _).mono (GO _)
 split
 ·exact zOE hp o _ _ _
 split
 ·exact(zP4 o _).mono (GO _)
 ·exact(zN2 o _).mono (GO _)
end Go.Proofs.YtmilpkdhbdgjfaaGreatDoor
set_option maxRecDepth 100000
namespace Go.Proofs.YtmilpkdhbdgjfaaGreatDoor
open Go.Am
section
variable {h:WF}{vt vf:Value}{T:List WJ}{F:List Wj}
theorem FM.shape{b:Nat}{h:WF}{cs:List Value}{a:Wa}(o:FM b h cs a):∃ a1 a2 a3 b1 b2 b3 c1 c2 c3 d1 d2 d3,cs=mC (.slice a1 a2 a3) (.slice b1 b2 b3) (.slice c1 c2 c3) (.slice d1 d2 d3) a:=by
 obtain⟨vm,vf,vi,ve,rfl,⟨n1,n2⟩,k⟩:=o.ex;obtain⟨k1,k2⟩:=k h (fun _ _ _=>rfl) (QE _);obtain⟨a1,a2,a3,rfl⟩:=n1.shape;obtain⟨d1,d2,d3,rfl⟩:=n2.shape;obtain⟨b1,b2,b3,rfl⟩:=zc k1;obtain⟨c1,c2,c3,rfl⟩:=Wt.shape k2;exact⟨_,_,_,_,_,_,_,_,_,_,_,_,rfl⟩
theorem BL.ret{k:Nat}{a:Wa}(o:BL T F k a)(h1:1<a.frs.length):0<=(zJ a).into/\(zJ a).into<((a.frs.getD (a.frs.length-2) default).regs.length:Int):=by
 have:=o.into (a.frs.length-2) (by omega);rw[show a.frs.length-2+1=a.frs.length-1 by omega]at this;exact this
theorem BL.top{k:Nat}{a:Wa}(o:BL T F k a)(hr:ZN a=true):(0<=(zJ a).fn/\(zJ a).fn<(F.length:Int))/\((zJ a).regs.length:Int)=Z0 T F (zJ a).fn:=by
 have:=Yf hr;exact o.fn (a.frs.length-1) (by omega)
theorem zQP(E:B4 h vt vf T F)(hp:yl T F=0)(ca:List Value)(a:Wa){b k:Nat}(ra:FM b h ca a)(o:BL T F k a)(hk:k<=99)(cx:List Value)(x:BY)(rx:RAct h cx x)(h10:x.args.length<=10):
  WC Tryz.prog tb 24 [.agg #[vt,vf],.agg ca.toArray,.agg cx.toArray] h fun w h'=>(∃ cs,w=.tuple #[.agg cs.toArray,I (Yq T F a x).2]/\FM h.n h' cs (Yq T F a x).1)/\WK h h':=by
 have hm:=E.hm;have om0:=ra;obtain⟨am,af,ai,ae,rfl,_,_⟩:=ra.ex;obtain⟨va,rfl,sa,hla,hk0,hk255⟩:=rx;obtain⟨t1,t2,t3,rfl⟩:=zN E.st;obtain⟨f1,f2,f3,rfl⟩:=zN E.sf;obtain⟨a1,a2,a3,rfl⟩:=zc sa;refine en ?_;refine VG ?_;intro p3 h1 e1 o3;replace o3:WH h h1 p3 [.slice t1 t2 t3,.slice f1 f2 f3]:=o3;refine go ?_;refine VG ?_;intro p4 h2 e2 o4;replace o4:WH h1 h2 p4 [am,af,ai,I a.used,ae,I a.steps,I a.heaps,.int .u8 a.state,I a.trap,I a.exit]:=o4;refine go ?_;refine VG ?_;intro p5 h3 e3 o5;replace o5:WH h2 h3 p5 [.int .u8 x.kind,I x.n,I x.into,.int .u8 x.v.kind,I x.v.n,I x.v.block,I x.v.pos,.slice a1 a2 a3]:=o5;refine go ?_;refine VJ ?_;intro p6 h4 e4 o6;have o3:=o3.ext (e2.trans (e3.trans e4));have o4:=o4.ext (e3.trans e4);have o5:=o5.ext e4;have e04:=e1.trans (e2.trans (e3.trans e4));refine go ?_;have hrem:yC .rem (.int .u8 x.kind) (.int .u8 5)=some (.int .u8 (x.kind % 5)):=by
  simp only[yC,Q9];rw[QC (by decide),Int.tmod_eq_emod_of_nonneg hk0]
 refine WO.bin (vx:= .int .u8 x.kind) (vy:= .int .u8 5) (by exact zX) rfl hrem ?_;have hm4:h4.mark<=h4.n:=by rw[e04.mark];exact QN hm e04.n
 have fm4:=om0.ext e04;have E4:=E.ext e04;have sa4:=W9.ext sa e04;have hr0:0<=x.kind % 5:=by omega
 have hr5:x.kind % 5<5:=by omega
 generalize hk5:x.kind % 5=k5 at *;have hcs:k5=0\/k5=1\/k5=2\/k5=3\/k5=4:=by omega
 rcases hcs with rfl|rfl|rfl|rfl|rfl
 ·skip;rw[show Yq T F a x=zBp a x.n x.v from by unfold Yq;rw[hk5];rfl];refine go ?_;refine VA (zN3 h4 _ a fm4 hm4 x.n x.v) ?_;rintro _ h5 ⟨⟨cs,rfl,fm⟩,e5⟩;obtain⟨x1,x2,x3,y1,y2,y3,z1,z2,z3,w1,w2,w3,rfl⟩:=fm.shape;refine go ?_;refine VF (cs:=mC (.slice x1 x2 x3) (.slice y1 y2 y3) (.slice z1 z2 z3) (.slice w1 w2 w3) _) (o6.ext e5) (e4.trans e5) ?_;intro h6 e6 o7 u7;refine go ?_;refine rt ?_ (VL WM o7 rfl (Wz.cons WM Wz.nil));have e06:=(e1.trans (e2.trans e3)).trans e6;refine⟨⟨_,rfl,(fm.upd (fun q q1 q2=>u7.2 q q2 fun e=> ?_) u7.1).base e04.n⟩,e06⟩;have:=o6.within q (by rw[e];rfl);omega
 ·skip;rw[show Yq T F a x=ZR T F a x.n from by unfold Yq;rw[hk5];rfl];refine go ?_;refine VA (zE6 E4 a (fun _=>hp) _ fm4 o.top x.n) ?_;rintro _ h5 ⟨⟨cs,rfl,fm⟩,e5⟩;obtain⟨x1,x2,x3,y1,y2,y3,z1,z2,z3,w1,w2,w3,rfl⟩:=fm.shape;refine go ?_;refine VF (cs:=mC (.slice x1 x2 x3) (.slice y1 y2 y3) (.slice z1 z2 z3) (.slice w1 w2 w3) _) (o6.ext e5) (e4.trans e5) ?_;intro h6 e6 o7 u7;refine go ?_;refine rt ?_ (VL WM o7 rfl (Wz.cons WM Wz.nil));have e06:=(e1.trans (e2.trans e3)).trans e6;refine⟨⟨_,rfl,(fm.upd (fun q q1 q2=>u7.2 q q2 fun e=> ?_) u7.1).base e04.n⟩,e06⟩;have:=o6.within q (by rw[e];rfl);omega
 ·skip;rw[show Yq T F a x=zA9 T F a x.n x.args x.into from by unfold Yq;rw[hk5];rfl];refine go ?_;refine VA (zMV E4 a (fun _=>hp) _ fm4 (by have:=o.fl;omega) x.n _ x.args sa4 h10 x.into) ?_;rintro _ h5 ⟨⟨cs,rfl,fm⟩,e5⟩;obtain⟨x1,x2,x3,y1,y2,y3,z1,z2,z3,w1,w2,w3,rfl⟩:=fm.shape;refine go ?_;refine VF (cs:=mC (.slice x1 x2 x3) (.slice y1 y2 y3) (.slice z1 z2 z3) (.slice w1 w2 w3) _) (o6.ext e5) (e4.trans e5) ?_;intro h6 e6 o7 u7;refine go ?_;refine rt ?_ (VL WM o7 rfl (Wz.cons WM Wz.nil));have e06:=(e1.trans (e2.trans e3)).trans e6;refine⟨⟨_,rfl,(fm.upd (fun q q1 q2=>u7.2 q q2 fun e=> ?_) u7.1).base e04.n⟩,e06⟩;have:=o6.within q (by rw[e];rfl);omega
 ·skip;rw[show Yq T F a x=Zh a x.v from by unfold Yq;rw[hk5];rfl];refine go ?_;refine VA (zIt h4 _ a fm4 hm4 x.v o.ret) ?_;rintro _ h5 ⟨⟨cs,rfl,fm⟩,e5⟩;obtain⟨x1,x2,x3,y1,y2,y3,z1,z2,z3,w1,w2,w3,rfl⟩:=fm.shape;refine go ?_;refine VF (cs:=mC (.slice x1 x2 x3) (.slice y1 y2 y3) (.slice z1 z2 z3) (.slice w1 w2 w3) _) (o6.ext e5) (e4.trans e5) ?_;intro h6 e6 o7 u7;refine go ?_;refine rt ?_ (VL WM o7 rfl (Wz.cons WM Wz.nil));have e06:=(e1.trans (e2.trans e3)).trans e6;refine⟨⟨_,rfl,(fm.upd (fun q q1 q2=>u7.2 q q2 fun e=> ?_) u7.1).base e04.n⟩,e06⟩;have:=o6.within q (by rw[e];rfl);omega
 ·skip;rw[show Yq T F a x=zAq a x.n from by unfold Yq;rw[hk5];rfl];refine go ?_;refine VA (zMY h4 _ a fm4 hm4 x.n) ?_;rintro _ h5 ⟨⟨cs,rfl,fm⟩,e5⟩;obtain⟨x1,x2,x3,y1,y2,y3,z1,z2,z3,w1,w2,w3,rfl⟩:=fm.shape;refine go ?_;refine VF (cs:=mC (.slice x1 x2 x3) (.slice y1 y2 y3) (.slice z1 z2 z3) (.slice w1 w2 w3) _) (o6.ext e5) (e4.trans e5) ?_;intro h6 e6 o7 u7;refine go ?_;refine rt ?_ (VL WM o7 rfl (Wz.cons WM Wz.nil));have e06:=(e1.trans (e2.trans e3)).trans e6;refine⟨⟨_,rfl,(fm.upd (fun q q1 q2=>u7.2 q q2 fun e=> ?_) u7.1).base e04.n⟩,e06⟩;have:=o6.within q (by rw[e];rfl);omega
end
end Go.Proofs.YtmilpkdhbdgjfaaGreatDoor
set_option maxRecDepth 100000
namespace Go.Proofs.YtmilpkdhbdgjfaaGreatDoor
open Go.Am
def zDn(l:List BY):Bool:=(l.take 50).any (fun x=>decide (10<x.args.length))||decide (30<l.length)
theorem zLt(h:WF)(v:Value)(l:List BY)(s:SlA h v l)(hl:(l.length:Int)<=1152921504606846976):WC Tryz.prog tb 19 [v] h fun r h'=>r=.bool (zDn l)/\h=h':=by
 obtain⟨v1,v2,v3,rfl⟩:∃ a n k,v=.slice a n k:=by
  obtain⟨_,⟨_,⟨_,e|⟨_,_,e⟩⟩|⟨_,_,_,e,_⟩⟩,_⟩:=s<;>exact⟨_,_,_,e⟩
 unfold zDn;refine en ?_;refine VE (fun i=>l.length-i) (fun i t h1=>h=h1/\zC t 3=I i/\i<=l.length/\i<=50/\((l.take i).any fun x=>decide (10<x.args.length))=false) 0 ?_ ?_
 ·exact⟨rfl,WM,QU _,QU _,rfl⟩
 rintro i t _ hsame ⟨rfl,s3,hi,h50,hany⟩;by_cases hil:i<l.length;case neg=>
  have hii:i=l.length:=by omega
  have hd:¬((i:Int)<(l.length:Int)):=by omega
  rw[hii,Gc]at hany;refine go ?_;refine gr ?_;refine⟨?_,rfl⟩;rw[Qo (show l.length<=50 by omega),hany,Qj];refine congrArg Value.bool (decide_eq_decide.2 ⟨fun q=> ?_,fun q=> ?_⟩)
  ·omega
  ·omega
 by_cases hi5:i<50;case neg=>
  have hii:i=50:=by omega
  subst hii;refine go ?_;refine gr ?_;refine⟨?_,rfl⟩;rw[hany,Qj];refine congrArg Value.bool (decide_eq_decide.2 ⟨fun q=> ?_,fun q=> ?_⟩)
  ·omega
  ·omega
 obtain⟨cs,⟨va,rfl,sa,hla,hk0,hk5⟩,pc,hs⟩:=yo s hil;obtain⟨a1,a2,a3,rfl⟩:=zc sa;have htk:l.take (i+1)=l.take i++[l.getD i default]:=by rw[GE,QB hil];simp[List.getD,QB hil]
 refine go ?_;refine VD (fun hc=> ?_) (fun hc=> ?_)<;>simp only[DB]at hc
 ·refine gr ?_;refine⟨?_,rfl⟩;rw[show(l.take 50).any (fun x=>decide (10<x.args.length))=true from ?_]
  ·rfl
  rw[G4];refine⟨l.getD i default,?_,QX (by omega)⟩;rw[QL,QB hil];exact List.mem_take_iff_getElem.2 ⟨i,by omega,rfl⟩
 ·refine go ?_;refine zA (i+1) (by omega) ⟨rfl,BF,by omega,by omega,?_⟩;rw[htk,List.any_append,hany];show(decide _||false)=false;rw[Qp];exact QW (by omega)
def zBi(T:List WJ)(F:List Wj):Wa->List BY->Wa
 |a,[]=>a
 |a,x::l=>if(Yq T F a x).2≠0 then a else zBi T F (Yq T F a x).1 l
noncomputable def Ye(T:List WJ)(F:List Wj)(inn:List Int)(l:List BY):Wa×Bool:=if(Zj T F inn).2=0 then(zBi T F (Zj T F inn).1 l,true)else((Zj T F inn).1,false)
theorem zHF{T:List WJ}{F:List Wj}{inn:List Int}:((Zj T F inn).2=0->yl T F=0)/\BL T F 1 (Zj T F inn).1:=by
 unfold Zj;split
 ·rename_i hs;exact⟨fun e=>absurd e hs,VO rfl⟩
 rename_i hs;have hp:=(zAf (by simpa using hs)).1;refine⟨fun _=>hp,?_⟩;split
 ·exact VO rfl
 obtain⟨hc,hF1,hF8,hfn⟩:=Z3 hp;have hr:=zBC hp (f:=0) ⟨by omega,by omega⟩;refine⟨by simp,fun i hi=> ?_,fun i hi=> ?_⟩
 ·have hi:i=0:=by simp at hi;omega
  subst hi;refine⟨⟨Qh _,by show(0:Int)<_;omega⟩,?_⟩;show(([]++List.replicate _ v0:List Wi).length:Int)=Z0 T F 0;simp;omega
 ·simp at hi
section
variable {h:WF}{vt vf:Value}{T:List WJ}{F:List Wj}
theorem zKS(E:B4 h vt vf T F)(vi:Value)(inn:List Int)(si:Wd h vi inn)(hl:(inn.length:Int)<=1152921504606846976)(vx:Value)(l:List BY)(sl:SlA h vx l)(hll:l.length<=50)(h10:∀ x∈l,x.args.length<=10):
  WC Tryz.prog tb 28 [.agg #[vt,vf],vi,vx] h fun w h'=>(∃ cs,w=.tuple #[.agg cs.toArray,.bool (Ye T F inn l).2]/\FM h.n h' cs (Ye T F inn l).1/\BL T F 51 (Ye T F inn l).1)/\WK h h':=by
 have hm:=E.hm;obtain⟨t1,t2,t3,rfl⟩:=zN E.st;obtain⟨f1,f2,f3,rfl⟩:=zN E.sf;obtain⟨b1,b2,b3,rfl⟩:=Wt.shape si;obtain⟨l1,l2,l3,rfl⟩:∃ a n k,vx=.slice a n k:=by
  obtain⟨_,⟨_,⟨_,e|⟨_,_,e⟩⟩|⟨_,_,_,e,_⟩⟩,_⟩:=sl<;>exact⟨_,_,_,e⟩
 obtain⟨hbp,hbo⟩:=zHF (T:=T) (F:=F) (inn:=inn);unfold Ye;refine en ?_;refine VG ?_;intro p3 h1 e1 o3;replace o3:WH h h1 p3 [.slice t1 t2 t3,.slice f1 f2 f3]:=o3;refine go ?_;refine VJ ?_;intro p6 h2 e2 o6;have hp6:=o6.within;have o3:=o3.ext e2;have e02:=e1.trans e2;refine go ?_;refine VA (zKi (E.ext e02) _ inn (si.ext e02) hl) ?_;rintro _ h3 ⟨⟨cs,rfl,fm⟩,e3⟩;have o3:=o3.ext e3;have o6:=o6.ext e3;have e03:=e02.trans e3;generalize Zj T F inn=B at *;obtain⟨x1,x2,x3,y1,y2,y3,z1,z2,z3,w1,w2,w3,rfl⟩:=fm.shape;refine go ?_;refine VJ ?_;intro p8 h4 e4 o8;refine go ?_;refine VF (cs:=mC (.slice x1 x2 x3) (.slice y1 y2 y3) (.slice z1 z2 z3) (.slice w1 w2 w3) _) o8 e4 ?_;intro h5 e5 o8' u8;obtain⟨g8,g8a,g8b,rfl,g8c⟩:=id o8';by_cases hB:B.2=0;case neg=>
  rw[QC hB];refine go ?_;refine VE (fun i=>1-i) (fun i t h'=>i=0/\h'=h5/\zC t 10=I 0) 0 ?_ ?_
  ·exact⟨rfl,rfl,WM⟩
  rintro i t h6 hsame ⟨rfl,hh,s10⟩;subst hh;have sl6:=SlA.ext sl (e03.trans e5);by_cases h0:(0:Int)<(l.length:Int)
  ·refine go ?_;refine VF (cs:=mC (.slice x1 x2 x3) (.slice y1 y2 y3) (.slice z1 z2 z3) (.slice w1 w2 w3) B.1) (o6.ext e5) ((e2.trans e3).trans e5) ?_;intro h13 e13 o13 u13;refine go ?_;refine rt ?_ (VL WM o13 rfl (Wz.cons WM Wz.nil));refine⟨⟨_,by rw[QW hB];rfl,?_,?_⟩,e1.trans e13⟩
   ·refine(fm.upd (fun k k1 k2=>(u13.2 k (by have:=e5.n;omega) (fun e=> ?_)).trans (e5.get k k2)) (by have:=u13.1;have:=e5.n;omega)).base (by have:=e02.n;omega);have:=hp6 k (by rw[e];rfl);omega
   ·exact hbo.mono (by omega)
  ·refine go ?_;refine VF (cs:=mC (.slice x1 x2 x3) (.slice y1 y2 y3) (.slice z1 z2 z3) (.slice w1 w2 w3) B.1) (o6.ext e5) ((e2.trans e3).trans e5) ?_;intro h13 e13 o13 u13;refine go ?_;refine rt ?_ (VL WM o13 rfl (Wz.cons WM Wz.nil));refine⟨⟨_,by rw[QW hB];rfl,?_,?_⟩,e1.trans e13⟩
   ·refine(fm.upd (fun k k1 k2=>(u13.2 k (by have:=e5.n;omega) (fun e=> ?_)).trans (e5.get k k2)) (by have:=u13.1;have:=e5.n;omega)).base (by have:=e02.n;omega);have:=hp6 k (by rw[e];rfl);omega
   ·exact hbo.mono (by omega)
 rw[QG hB];have hp:=hbp hB;rw[hB];refine go ?_;refine VE (fun i=>l.length-i) (fun i t h'=>∃ cs a bb hF,(WK h3 h'/\WH h3 h' (.pointer (some ⟨g8,0,none⟩)) cs)/\(FM bb hF cs a/\(∀ k,bb<=k->k<hF.n->h'.get k=hF.get k)/\hF.n<=h'.n/\¬(bb<=g8/\g8<hF.n)/\h2.n<=bb)/\(zC t 10=I i/\i<=l.length)/\BL T F (1+i) a/\zBi T F a (l.drop i)=zBi T F B.1 l) 0 ?_ ?_
 ·exact⟨_,B.1,h2.n,h3,⟨e5,g8,g8a,g8b,rfl,g8c⟩,⟨fm,fun k _ hk=>e5.get k hk,e5.n,by omega,QE _⟩,⟨WM,QU _⟩,hbo,rfl⟩
 rintro i t h10' hsame ⟨cs,a,bb,hF,⟨e310,o810⟩,⟨fmF,kF,nF,ngF,bF⟩,⟨s10,hi⟩,ok,hst⟩;obtain⟨m1,m2,m3,n1,n2,n3,i1,i2,i3,v1,v2,v3,rfl⟩:=fmF.shape;have fm10:=fmF.upd kF nF;have e010:=e03.trans e310;have sl10:=SlA.ext sl e010;have E10:=E.ext e010;have o3:=o3.ext e310;by_cases hil:i<l.length;case neg=>
  have hii:i=l.length:=by omega
  rw[hii,List.drop_length]at hst;have hst:a=zBi T F B.1 l:=hst;refine go ?_;refine VF (cs:=mC (.slice m1 m2 m3) (.slice n1 n2 n3) (.slice i1 i2 i3) (.slice v1 v2 v3) a) (o6.ext e310) ((e2.trans e3).trans e310) ?_;intro h13 e13 o13 u13;refine go ?_;refine rt ?_ (VL WM o13 rfl (Wz.cons WM Wz.nil));refine⟨⟨_,rfl,?_,?_⟩,e1.trans e13⟩
  ·rw[<-hst];refine(fmF.upd (fun k k1 k2=>(u13.2 k (by omega) (fun e=> ?_)).trans (kF k k1 k2)) (by have:=u13.1;omega)).base (by have:=e02.n;omega);have:=hp6 k (by rw[e];rfl);omega
  ·rw[<-hst];exact ok.mono (by omega)
 have hxm:l.getD i default∈l:=zL hil;have h10x:=h10 _ hxm;obtain⟨cx,rx,pcx,hsx⟩:=zg sl10 (i:=i) hil;obtain⟨va,rfl,-⟩:=id rx;have hdr:l.drop i=l.getD i default::l.drop (i+1):=by rw[GK hil];simp[List.getD,QB hil]
 generalize l.getD i default=x at *;have o3Y:WH h (inC (zB 1 h10')) p3 [.slice t1 t2 t3,.slice f1 f2 f3]:=VW (o3.ext (zQ 1 h10'));have o8Y:WH h3 (inC (zB 1 h10')) (.pointer (some ⟨g8,0,none⟩)) (mC (.slice m1 m2 m3) (.slice n1 n2 n3) (.slice i1 i2 i3) (.slice v1 v2 v3) a):=VW (o810.ext (zQ 1 h10'));have slZ:=SlA.ext sl10 (zQ 1 h10');have slY:SlA (inC (zB 1 h10')) (.slice l1 l2 l3) l:=slZ;have pcY:Wh (inC (zB 1 h10')) _ _ _:=(pcx _ (zQ 1 h10')).2;refine go ?_;refine VC 1 rfl rfl ?_;refine Wc ?_;have fmY:FM bb (inC (zB 1 h10')) (mC (.slice m1 m2 m3) (.slice n1 n2 n3) (.slice i1 i2 i3) (.slice v1 v2 v3) a) a:=fm10.upd (fun k _ hk=>(zQ 1 h10').get k hk) (zQ 1 h10').n;have rxZ:=rx.ext (zQ 1 h10');have rxY:RAct (inC (zB 1 h10')) _ x:=rxZ;refine VA (zQP (E10.as 1) hp _ a fmY ok (by omega) _ x rxY h10x) ?_;rintro _ X ⟨⟨cs',rfl,fmX⟩,eX⟩;refine nE eX ?_;refine Wc ?_;obtain⟨x1',x2',x3',y1',y2',y3',z1',z2',z3',w1',w2',w3',rfl⟩:=fmX.shape;have hm10:h10'.mark<=h10'.n:=by rw[e010.mark];exact QN hm e010.n
 have hnX:h10'.n+1<=X.n:=eX.n;refine We.mk (ob:= .row [.slice none 0 0,.slice none 0 0,.slice none 0 0,I 0,.slice none 0 0,I 0,I 0,.int .u8 0,I 0,I 0] true 0) (f:=fun g=> .pointer (some ⟨g,0,none⟩)) hm10 rfl ?_;refine We.inC ?_;refine XC (q:=h10'.n) (row:=[.slice none 0 0,.slice none 0 0,.slice none 0 0,I 0,.slice none 0 0,I 0,I 0,.int .u8 0,I 0,I 0]) (off:=0) (cs:=mC (.slice x1' x2' x3') (.slice y1' y2' y3') (.slice z1' z2' z3') (.slice w1' w2' w3') (Yq T F a x).1) (by rw[zDf,QG rfl]) hm10 ?_ (QE 10);intro Y nY kY gY wY cl';have nY:Y.n=X.n:=nY;have kY:∀ k,k≠h10'.n->Y.get k=X.get k:=fun k hk=>(kY k hk).trans (by rw[zDf,QC hk]);have gY:Y.get h10'.n=some (.row (mC (.slice x1' x2' x3') (.slice y1' y2' y3') (.slice z1' z2' z3') (.slice w1' w2' w3') (Yq T F a x).1) true 0):=gY;have e11:WK h10' (zq h10' (inC Y)):=⟨by show h10'.n<=Y.n;omega,fun k hk=>(kY k (by omega)).trans ((eX.get k (by show k<h10'.n+1;omega)).trans ((zQ 1 h10').get k hk)),fun w=>wY (fun j hj=>by
   have hj:X.n<=j:=hj;rw[zDf,QC (by omega)];exact eX.wf ((zQ 1 h10').wf w) j hj),rfl,fun _=>rfl⟩
 have o11:WH h10' (zq h10' (inC Y)) (.pointer (some ⟨h10'.n,0,none⟩)) (mC (.slice x1' x2' x3') (.slice y1' y2' y3') (.slice z1' z2' z3') (.slice w1' w2' w3') (Yq T F a x).1):=⟨h10'.n,QE _,by show h10'.n<Y.n;omega,rfl,gY⟩;have fk:∀ k,(inC (zB 1 h10')).n<=k->k<X.n->(zq h10' (inC Y)).get k=X.get k:=fun k k1 _=>kY k (by have k1:h10'.n+1<=k:=k1;omega);have fn:X.n<=(zq h10' (inC Y)).n:=Nat.le_of_eq nY.symm;refine Wc ?_;generalize zq h10' (inC Y)=h11 at *;have e311:=e310.trans e11;have o811:=o810.ext e11;refine go ?_;rw[hdr]at hst;have hst:(if(Yq T F a x).2≠0 then a else zBi T F (Yq T F a x).1 (l.drop (i+1)))=zBi T F B.1 l:=hst;refine VD (fun hc=> ?_) (fun hc=> ?_)<;>simp only[DB]at hc
 ·rw[QG hc]at hst;have hn11:=e11.n;refine go ?_;refine VF (cs:=mC (.slice m1 m2 m3) (.slice n1 n2 n3) (.slice i1 i2 i3) (.slice v1 v2 v3) a) (o6.ext e311) ((e2.trans e3).trans e311) ?_;intro h13 e13 o13 u13;refine go ?_;refine rt ?_ (VL WM o13 rfl (Wz.cons WM Wz.nil));refine⟨⟨_,rfl,?_,?_⟩,e1.trans e13⟩
  ·rw[<-hst];refine(fmF.upd (fun k k1 k2=>(u13.2 k (by omega) (fun e=> ?_)).trans ((e11.get k (by omega)).trans (kF k k1 k2))) (by have:=u13.1;omega)).base (by have:=e02.n;omega);have:=hp6 k (by rw[e];rfl);omega
  ·rw[<-hst];exact ok.mono (by omega)
 ·rw[QC (fun q=>q hc)]at hst;refine go ?_;refine VF (cs:=mC (.slice x1' x2' x3') (.slice y1' y2' y3') (.slice z1' z2' z3') (.slice w1' w2' w3') (Yq T F a x).1) o811 e311 ?_;intro h12 e12 o12 u12;have hg8:=o810.within g8 rfl;refine go ?_;exact zA (i+1) (by omega) ⟨_,(Yq T F a x).1,h10'.n+1,X,⟨e12,o12⟩,⟨fmX,fun k k1 k2=>(u12.2 k (by omega) (fun e=>by cases e;omega)).trans (fk k k1 k2),by have:=u12.1;omega,by omega,by have:=e3.n;have:=e310.n;omega⟩,⟨BF,by omega⟩,zP1 hp ok x,hst⟩
end
end Go.Proofs.YtmilpkdhbdgjfaaGreatDoor
set_option maxRecDepth 100000
namespace Go.Proofs.YtmilpkdhbdgjfaaGreatDoor
open Go.Am
theorem zIa(h:WF)(vt vf vb:Value)(T:List WJ)(F:List Wj)(sig:Int)(st:Bc h vt T)(sf:W7 h vf F)(hb:∃ a n k,vb=.slice a n k)(hs:0<=sig/\sig<(T.length:Int))(hp:(T.getD sig.toNat default).parts.length<=1000):
  WC Tryz.prog tb 60 [.agg #[vt,vf],.agg #[I sig,vb]] h fun r h'=>r=I ((T.getD sig.toNat default).parts.length:Int)/\WK h h':=by
 obtain⟨ta,tn,tk,rfl⟩:=zN st;obtain⟨ga,gn,gk,rfl⟩:=zN sf;obtain⟨ba,bn,bk,rfl⟩:=hb;refine en ?_;refine VG ?_;intro p h1 e1 o1;refine go ?_;refine VG ?_;intro q h2 e2 o2;have o1:=o1.ext e2;have st2:=(st.ext e1).ext e2;obtain⟨cs,⟨va,rfl,sa,hla⟩,pc,hss⟩:=Zy (i:=sig.toNat) st2 (by omega);refine gr ?_;exact⟨rfl,e1.trans e2⟩
theorem zJC(l:List Wl){i:Nat}(h:i<l.length):zz (l.take (i+1))=zz (l.take i)+((l.getD i default).ins.length:Int):=by
 unfold zz;rw[GE,QB h];simp only[GU,List.sum_append,Option.toList_some,Q6,Gl,List.sum_cons,List.sum_nil,List.getD,QB h,Q1,Int.add_zero]
theorem zL7(h:WF)(v:Value)(l:List Wl)(s:BN h v l)(hl:l.length<=1000)(hi:∀ b∈l,b.ins.length<=1000)(hm:∀ i,zz (l.take i)<=1000000):
  WC Tryz.prog tb 61 [v] h fun r h'=>r=I (zz l)/\h=h':=by
 refine en ?_;refine VE (fun i=>l.length-i) (fun i t h1=>h=h1/\zC t 4=I i/\i<=l.length/\zC t 3=I (zz (l.take i))) 0 ?_ ?_
 ·exact⟨rfl,WM,QU _,WM⟩
 rintro i t _ hsame ⟨rfl,s4,hin,s3⟩;have hbd:=hm i;have hbd0:=zA8 (l.take i);refine go ?_;refine VD (fun hc=> ?_) (fun hc=> ?_)<;>simp only[DB]at hc
 ·have hi':i<l.length:=by omega
  obtain⟨cs,⟨vi,rfl,si,hli⟩,pc,hs⟩:=yo s hi';have hmt:=zJC l hi';have hin2:=hi _ (zL (l:=l) hi');refine go ?_;exact zA (i+1) (by omega) ⟨rfl,BF,by omega,by rw[hmt];exact WM⟩
 ·have hii:i=l.length:=by omega
  subst hii;rw[Gc]at s3;refine gr ?_;exact⟨rfl,rfl⟩
section
variable {h:WF}{vt vf:Value}{T:List WJ}{F:List Wj}
theorem zPE(E:B4 h vt vf T F){f:Int}(Z:FnIn T F f)(b k:Int)(hb:0<=b/\b<((zp F f).length:Int))(hk:0<=k/\k<1000):
  WC Tryz.prog tb 29 [.agg #[vt,vf],I f,I b,I k] h fun r h'=>r=I (Zw T F f b+k)/\WK h h':=by
 obtain⟨f0,f1⟩:=Z.hf;have hF:=E.sm.funcs;have hmem:=zL (l:=F) (i:=f.toNat) (by omega);have hB:=E.sm.blocks _ hmem;have hI:=E.sm.ins _ hmem;have hsig:=Z.sig;have hp4:=Z.par4;have hn16:=Z.n16;have hmany:=Z.many;obtain⟨ta,tn,tk,rfl⟩:=zN E.st;obtain⟨ga,gn,gk,rfl⟩:=zN E.sf;have hpp:(T.getD (F.getD f.toNat default).sig.toNat default).parts.length<=1000:=by unfold Yc at hp4;omega
 unfold Zw zAR;unfold Yc at hp4;unfold zp at hb hn16 hmany |-;refine en ?_;refine VG ?_;intro p h1 e1 o1;have E1:=E.ext e1;have sf1:=E1.sf;refine go ?_;refine VC 0 rfl rfl ?_;have o1X:WH h (inC (zB 0 h1)) p [_,_]:=o1;have sfX:W7 (inC (zB 0 h1)) _ F:=sf1;obtain⟨cs,⟨vb,rfl,sb,hlb⟩,px,hs⟩:=zg sf1 (i:=f.toNat) (by omega);have pcX:=(px h1 (WK.refl _)).2;have pcX:Wh (inC (zB 0 h1)) (.slice ga gn gk) (f.toNat*2) [I (F.getD f.toNat default).sig,vb]:=pcX;obtain⟨ba,bn,bk,rfl⟩:=zN sb;obtain⟨qa,qn,qk,hqv,hqb⟩:=zKl sf1 (i:=f.toNat) (by omega);refine Wc ?_;refine VA (zIa (inC (zB 0 h1)) _ _ _ T F _ (E1.as 0).st sfX ⟨_,_,_,rfl⟩ hsig hpp) ?_;rintro _ h2 ⟨rfl,e2⟩;refine nE e2 ?_;have sfY:W7 (inC h2) (.slice ga gn gk) F:=by have:=W7.ext sfX e2;exact this
 have e3':WK h1 (zq h1 h2):=(zQ 0 h1).trans (yP (h:=h1) e2);have e3:WK h1 (zq h1 (inC h2)):=e3';have pcY:Wh (inC h2) (.slice ga gn gk) (f.toNat*2) [I (F.getD f.toNat default).sig,.slice ba bn bk]:=by
  have:=(px _ e3).2;exact this
 have sbY:BN (inC h2) (.slice ba bn bk) (F.getD f.toNat default).blocks:=by
  have:=BN.ext sb e3;exact this
 have o1Y:WH h (inC h2) p [.slice ta tn tk,.slice ga gn gk]:=by have:=o1X.ext e2;exact this
 generalize(F.getD f.toNat default).blocks=L at *;obtain⟨vs,hvs,sbs⟩:=zCd (i:=b.toNat) sbY (by omega) (by omega);have hbt:(b.toNat:Int)=b:=by omega
 have hlt:(L.take b.toNat).length<=1000:=by rw[Ql];omega
 have hIt:∀ x∈L.take b.toNat,x.ins.length<=1000:=fun x hx=>hI x (JH hx);have hmt:=Zu (L.take b.toNat);have hmt2:=zCQ L b.toNat;refine Wc ?_;refine zBy o1 (QE _) ?_;refine Wc ?_;refine zPb ⟨qa,qn,qk,hqv,hqb⟩ ?_;refine Wc ?_;refine Vh (i:=b.toNat) (hy:=by rw[hbt];exact zX) hvs ?_;refine nQ ?_;refine Wc ?_;refine VA (zL7 (inC h2) _ _ sbs hlt hIt (fun i=>by rw[G3];have:=zCQ L (min i b.toNat);omega)) ?_;rintro _ _ ⟨rfl,rfl⟩;refine nQ ?_;refine Wc ?_;refine gr ?_;exact⟨rfl,e1.trans e3⟩
end
set_option maxRecDepth 1000000 in
theorem zK5:(zKW Tryz.prog (zF9 Tryz.prog) 400).call 17 [] (YX Tryz.prog.globals.size [(0,ZK)]) (fun v _=>some v)=some (.bool true):=by kernel_rfl
theorem zL1:((BI Tryz.prog (zF9 Tryz.prog) 400).call 17 [] (YX Tryz.prog.globals.size [(0,ZK)])).map (·.1)=some (.bool true):=zNO zK5
set_option maxRecDepth 1000000 in
theorem zGI:([(0,ZK)]:List (Nat×List Value)).all (fun x=>Nat.ble (x.1+1) Tryz.prog.globals.size&&y8 x.2)=true:=by kernel_rfl
set_option maxRecDepth 1000000 in
theorem tb_ok:tb.Ok Tryz.prog where
 code:=fun _ _ h=>h
 stub:=fun f s hs=>by
  have hs:(if f=17 then some (zAw [(0,ZK)] (.bool true))else none)=some s:=hs;split at hs
  ·rename_i e;subst e;cases hs;exact zGs Tryz.checked.mixed (zI6 _) rfl (fun x hx=>by
    have h1:=QV.1 zGI x hx;rw[QJ]at h1;exact⟨QO h1.1,h1.2⟩) zL1
  ·cases hs
 grow:=fun f s hs args h v h' hk=>by
  have hs:(if f=17 then some (zAw [(0,ZK)] (.bool true))else none)=some s:=hs;split at hs
  ·cases hs;exact zI5 args h v h' hk
  ·cases hs
end Go.Proofs.YtmilpkdhbdgjfaaGreatDoor
