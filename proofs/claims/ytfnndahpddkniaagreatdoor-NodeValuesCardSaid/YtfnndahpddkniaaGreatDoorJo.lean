/- Walks of functions, plain laws; proves no statement. -/
import Derived.Test.YtfnndahpddkniaaGreatDoorJn
set_option linter.all false
set_option maxHeartbeats 2000000
set_option maxRecDepth 100000
namespace Go.Proofs.YtfnndahpddkniaaGreatDoor
open Go.Am
theorem zHK(h:U0)(xa xb:Value)(A B:List Ba)(ka:Wk h xa A)(kb:Wk h xb B)(la:(A.length:Int)<=9223372036854775807):WC Tryz.prog tb 15 [xa,xb] h fun r h'=>r=.bool (decide (A=B))/\Ext h h':=by
 refine en ?_;by_cases hl:A.length=B.length;case neg=>
  refine gr ?_;exact⟨by rw[QQ (fun e=>hl (by rw[e]))];rfl,Ext.refl _⟩
 refine go ?_;refine VD (fun i=>A.length-i) (fun i t h1=>Ext h h1/\zB t 5=I i/\i<=A.length/\WE (∀ j,j<i->A.getD j default=B.getD j default)) 0 ?_ ?_
 ·exact⟨Ext.refl _,U6,QK _,⟨fun j hj=>absurd hj (Qh _)⟩⟩
 rintro i t h1 hsame ⟨e1,s5,hi,hI⟩;have ka1:=Wk.ext ka e1;have kb1:=Wk.ext kb e1;refine go ?_;refine VE (fun hb=> ?_) (fun hb=> ?_)<;>simp only[DB]at hb
 ·obtain⟨ca,ra,pca,hsa⟩:=zW ka1 (show i<A.length by omega);obtain⟨cb,rb,pcb,hsb⟩:=zW kb1 (show i<B.length by omega);obtain⟨va,rfl,sa,na⟩:=ra;obtain⟨vb,rfl,sb,nb⟩:=rb;have pa1:=(pca _ (Ext.refl _)).2;have pb1:=(pcb _ (Ext.refl _)).2;refine go ?_;refine VK (fun t h'=>∃ q,Ext h1 h'/\zB t 80=.bool q/\(q=true↔A.getD i default≠B.getD i default)) ?_ ?_
  ·refine VC 0 rfl rfl ?_;have kaX:Wk (inC (zC 0 h1)) xa A:=ka1;have kbX:Wk (inC (zC 0 h1)) xb B:=kb1;have paX:We (inC (zC 0 h1)) xa (i*5) [I (A.getD i default).site,I (A.getD i default).ty,I (A.getD i default).depth,.bool (A.getD i default).alive,va]:=pa1;have pbX:We (inC (zC 0 h1)) xb (i*5) [I (B.getD i default).site,I (B.getD i default).ty,I (B.getD i default).depth,.bool (B.getD i default).alive,vb]:=pb1;by_cases c1:(A.getD i default).site=(B.getD i default).site;case neg=>
    refine U9 ?_;show zEv _ _ _ _ _ _ _;exact zE ⟨true,by exact Ext.refl h1,U6,⟨fun _ e=>c1 (by rw[e]),fun _=>rfl⟩⟩
   by_cases c2:(A.getD i default).ty=(B.getD i default).ty;case neg=>
    refine U9 ?_;show zEv _ _ _ _ _ _ _;exact zE ⟨true,by exact Ext.refl h1,U6,⟨fun _ e=>c2 (by rw[e]),fun _=>rfl⟩⟩
   by_cases c3:(A.getD i default).depth=(B.getD i default).depth;case neg=>
    refine U9 ?_;show zEv _ _ _ _ _ _ _;exact zE ⟨true,by exact Ext.refl h1,U6,⟨fun _ e=>c3 (by rw[e]),fun _=>rfl⟩⟩
   by_cases c4:(A.getD i default).alive=(B.getD i default).alive;case neg=>
    have c4b:((A.getD i default).alive != (B.getD i default).alive)=true:=by simpa using c4
    refine U9 ?_;show zEv _ _ _ _ _ _ _;exact zE ⟨true,by exact Ext.refl h1,U6,⟨fun _ e=>c4 (by rw[e]),fun _=>rfl⟩⟩
   have c4b:((A.getD i default).alive != (B.getD i default).alive)=false:=by simpa using c4
   refine U9 ?_;refine VA (zHs (inC (zC 0 h1)) va vb (A.getD i default).cells (B.getD i default).cells sa sb na) ?_;rintro _ _ ⟨rfl,rfl⟩;refine nE (Ext.refl _) ?_;refine U9 ?_;show zEv _ _ _ _ _ _ _;refine zE ⟨_,by exact Ext.refl h1,U6,⟨fun q e=> ?_,fun q=> ?_⟩⟩
   ·rw[QT (by rw[e])]at q;cases q
   ·rw[QQ (fun c=>q (zPi c1 c2 c3 c4 c))];rfl
  rintro t2 h2 hs2 ⟨q,e2,s80,hq⟩;have ka2:=Wk.ext ka1 e2;cases q
  ·refine go ?_;refine zA (i+1) (by omega) ⟨e1.trans e2,Wc,by omega,⟨fun j hj=> ?_⟩⟩;by_cases e:j=i
   ·subst e;exact Gn fun c=>by have:=hq.2 c;cases this
   ·exact hI.out j (by omega)
  ·refine gr ?_;refine⟨?_,e1.trans e2⟩;rw[QQ (fun e=>hq.1 rfl (by rw[e]))];rfl
 ·refine gr ?_;exact⟨by rw[QT (zHU hl fun j hj=>hI.out j (by omega))];rfl,e1⟩
end Go.Proofs.YtfnndahpddkniaaGreatDoor
set_option maxRecDepth 100000
namespace Go.Proofs.YtfnndahpddkniaaGreatDoor
open Go.Am
theorem zE7(h:U0)(vt vf:Value)(T:List U2)(F:List WM)(vm:Value)(M:List Ba)(v:BW)(tt:Bh h)(hm:h.mark<=h.n)(st:Wp h vt T)(sf:Wd h vf F)(sM:Wk h vm M)(hT:(T.length:Int)<=1152921504606846976)(hF:(F.length:Int)<=1152921504606846976)(hM:(M.length:Int)<=1152921504606846976)(hv: -9223372036854775808<=v.block/\v.block<=9223372036854775807):
  WC Tryz.prog tb 3 [.agg #[vt,vf],vm,.agg #[.int .u8 v.kind,I v.n,I v.block,I v.pos]] h fun r h'=>r=.bool true:=by
 refine en ?_;refine VF ?_;intro p h1 e1 o1;replace o1:U1 h h1 p [vt,vf]:=o1;refine go ?_;refine VF ?_;intro p5 h2 e2 o2;replace o2:U1 h1 h2 p5 [.int .u8 v.kind,I v.n,I v.block,I v.pos]:=o2;have o12:=o1.ext e2;have e02:=e1.trans e2;refine go ?_;refine VA (zLQ h2 vt vf T F 100 (by omega) (st.ext e02) (Wd.ext sf e02) (by omega) (by omega)) ?_;rintro rr h3 ⟨hr,e3⟩;have o13:=o12.ext e3;have o23:=o2.ext e3;have e03:=e02.trans e3;have sM3:Wk h3 vm M:=Wk.ext sM e03;rcases hr with rfl|⟨rfl,sm,si⟩
 ·refine gr ?_;rfl
 obtain⟨m1,m2,m3,rfl⟩:=zD sM;refine go ?_;refine VA (zHr h3 _ M sM3 (by omega)) ?_;rintro _ _ ⟨hg,rfl⟩;rcases hg with rfl|⟨rfl,hl40,hc40⟩
 ·refine gr ?_;rfl
 have E3:En h3 vt vf T F:=⟨tt.ext e03,zq e03 hm,sm,si,st.ext e03,Wd.ext sf e03⟩;clear st sf tt hm sM;refine go ?_;refine VA (zL5 h3 vt vf T F sm si E3.hm E3.st E3.sf) ?_;rintro _ h4 ⟨⟨wt,wf,rfl,swt,swf⟩,e4⟩;obtain⟨a1,a2,a3,rfl⟩:=zD swt;obtain⟨b1,b2,b3,rfl⟩:=zD swf;have o14:=o13.ext e4;have o24:=o23.ext e4;have sM4:Wk h4 (.slice m1 m2 m3) M:=Wk.ext sM3 e4;have E4:=E3.ext e4;have W4:En h4 _ _ T F:=⟨E4.tt,E4.hm,sm,si,swt,swf⟩;refine go ?_;refine VA (zK6 h4 _ M sM4 (by omega) fun x hx=> ?_) ?_
 ·obtain⟨i,hi,rfl⟩:=Zb hx;have:=hc40 i hi;omega
 rintro wm h5 ⟨oM,e5⟩;have o15:=o14.ext e5;have o25:=o24.ext e5;have E5:=E4.ext e5;have W5:=W4.ext e5;have sM5:Wk h5 (.slice m1 m2 m3) M:=Wk.ext sM4 e5;have wM5:Wk h5 wm M:=oM.sl;clear oM;obtain⟨w1,w2,w3,rfl⟩:=zD wM5;refine go ?_;refine VL ?_;intro p7 h6 e6 o6;refine go ?_;refine VH (cs:=[.slice a1 a2 a3,.slice b1 b2 b3]) o6 e6 ?_;intro h7 e7 o7 _;have o17:=o15.ext e7;have o27:=o25.ext e7;have W7:=W5.ext e7;refine go ?_;refine VA (zKU h7 _ _ _ T F M W7.env (Wk.ext wM5 e7) (by omega) v hv) ?_;rintro _ h8 ⟨rfl,e8⟩;have o18:=o17.ext e8;have o28:=o27.ext e8;have o78:=o7.ext e8;have e58:=e7.trans e8;refine go ?_;refine VA (zKl (E5.ext e58) (Wk.ext sM5 e58) (by omega) v) ?_;rintro _ h9 ⟨rfl,e9⟩;have o19:=o18.ext e9;have o79:=o78.ext e9;have e59:=e58.trans e9;have E9:=E5.ext e59;have W9:=W5.ext e59;generalize(zA7 T F M v).1=a at *;generalize(zA7 T F M v).2=b at *;refine go ?_;refine VA (zLm h9 _ _ _ _ T F sm si E9.hm W9.st W9.sf E9.st E9.sf) ?_;rintro _ h10 ⟨rfl,e10⟩;have e510:=e59.trans e10;refine go ?_;refine VA (zHK h10 _ _ M M (Wk.ext wM5 e510) (Wk.ext sM5 e510) (by omega)) ?_;rintro _ h11 ⟨rfl,e11⟩;refine gr ?_;simp;rfl
set_option maxRecDepth 1000000 in
theorem tb_ok:tb.Ok Tryz.prog where
 code:=fun _ _ h=>h
 stub:=fun f s hs=>by cases hs
 grow:=fun f s hs args h v h' hk=>by cases hs
section
variable {H:Type}{h:U0}
theorem zMa{P:Program}{t:TypeId}{acs:List Value}{d:DataW H}(r:Rd P h t acs d)(ht:P.underlying t=some .bool):∃ b,acs=[.bool b]:=by
 cases r<;>first|exact⟨_,rfl⟩|(rename_i ht';rw[ht]at ht';cases ht')|(rename_i ht' _;rw[ht]at ht';cases ht')|(rename_i ht' _ _;rw[ht]at ht';cases ht')|(rename_i ht' _ _ _;rw[ht]at ht';cases ht')
theorem zOs{n:Int}(h:(Lit.int .i64 n).wf=true): -9223372036854775808<=n/\n<=9223372036854775807:=by
 simp[Lit.wf,IntKind.wrap,IntKind.signed,IntKind.bits]at h;have h1:IntKind.min .i64= -9223372036854775808:=by decide
 have h2:IntKind.max .i64=9223372036854775807:=by decide
 omega
theorem zJX(cs:List Value)(d:DataW H)(r:Rd Tryz.prog h 28 cs d)(hw:Wy Tryz.prog 28 d):∃ a:BW,cs=[.int .u8 a.kind,I a.n,I a.block,I a.pos]/\ -9223372036854775808<=a.block/\a.block<=9223372036854775807:=by
 obtain⟨hl,hr⟩:=Zf r Tryz.underlying28 hw;have hc:Tryz.prog.cellsOf 28=4:=by kernel_rfl
 rw[hc]at hl;obtain⟨x0,x1,x2,x3,rfl⟩:∃ x0 x1 x2 x3,cs=[x0,x1,x2,x3]:=by
  exact zPJ hl
 obtain⟨d0,r0,w0⟩:=hr 0 _ rfl;have c0:Tryz.prog.cellsOf 5=1:=by kernel_rfl
 replace r0:Rd Tryz.prog h 5 (([x0,x1,x2,x3].drop 0).take (Tryz.prog.cellsOf 5)) d0:=r0;replace w0:Wy Tryz.prog 5 d0:=w0;rw[c0]at r0;replace r0:Rd Tryz.prog h 5 [x0] d0:=r0;obtain⟨d1,r1,w1⟩:=hr 1 _ rfl;have c1:Tryz.prog.cellsOf 2=1:=by kernel_rfl
 replace r1:Rd Tryz.prog h 2 (([x0,x1,x2,x3].drop 1).take (Tryz.prog.cellsOf 2)) d1:=r1;replace w1:Wy Tryz.prog 2 d1:=w1;rw[c1]at r1;replace r1:Rd Tryz.prog h 2 [x1] d1:=r1;obtain⟨d2,r2,w2⟩:=hr 2 _ rfl;have c2:Tryz.prog.cellsOf 3=1:=by kernel_rfl
 replace r2:Rd Tryz.prog h 3 (([x0,x1,x2,x3].drop 2).take (Tryz.prog.cellsOf 3)) d2:=r2;replace w2:Wy Tryz.prog 3 d2:=w2;rw[c2]at r2;replace r2:Rd Tryz.prog h 3 [x2] d2:=r2;obtain⟨d3,r3,w3⟩:=hr 3 _ rfl;have c3:Tryz.prog.cellsOf 3=1:=by kernel_rfl
 replace r3:Rd Tryz.prog h 3 (([x0,x1,x2,x3].drop 3).take (Tryz.prog.cellsOf 3)) d3:=r3;replace w3:Wy Tryz.prog 3 d3:=w3;rw[c3]at r3;replace r3:Rd Tryz.prog h 3 [x3] d3:=r3;obtain⟨k,e0,f0⟩:=ZE r0 Tryz.underlying5;cases e0;obtain⟨n,e1,f1⟩:=ZE r1 Tryz.underlying2;cases e1;obtain⟨b,e2,f2⟩:=ZE r2 Tryz.underlying3;cases e2;obtain⟨p,e3,f3⟩:=ZE r3 Tryz.underlying3;cases e3;exact⟨⟨k,n,b,p⟩,rfl,zOs f2⟩
theorem zPC(cs:List Value)(d:DataW H)(r:Rd Tryz.prog h 28 cs d)(hw:Wy Tryz.prog 28 d):∃ a,RVal h cs a:=let⟨a,e,_⟩:=zJX cs d r hw;⟨a,e⟩
theorem zPo(cs:List Value)(d:DataW H)(r:Rd Tryz.prog h 60 cs d)(hw:Wy Tryz.prog 60 d):∃ a,RMb h cs a:=by
 obtain⟨hl,hr⟩:=Zf r Tryz.underlying60 hw;have hc:Tryz.prog.cellsOf 60=5:=by kernel_rfl
 rw[hc]at hl;obtain⟨x0,x1,x2,x3,x4,rfl⟩:∃ x0 x1 x2 x3 x4,cs=[x0,x1,x2,x3,x4]:=by
  exact zP3 hl
 obtain⟨d0,r0,w0⟩:=hr 0 _ rfl;have c0:Tryz.prog.cellsOf 3=1:=by kernel_rfl
 replace r0:Rd Tryz.prog h 3 (([x0,x1,x2,x3,x4].drop 0).take (Tryz.prog.cellsOf 3)) d0:=r0;replace w0:Wy Tryz.prog 3 d0:=w0;rw[c0]at r0;replace r0:Rd Tryz.prog h 3 [x0] d0:=r0;obtain⟨d1,r1,w1⟩:=hr 1 _ rfl;have c1:Tryz.prog.cellsOf 3=1:=by kernel_rfl
 replace r1:Rd Tryz.prog h 3 (([x0,x1,x2,x3,x4].drop 1).take (Tryz.prog.cellsOf 3)) d1:=r1;replace w1:Wy Tryz.prog 3 d1:=w1;rw[c1]at r1;replace r1:Rd Tryz.prog h 3 [x1] d1:=r1;obtain⟨d2,r2,w2⟩:=hr 2 _ rfl;have c2:Tryz.prog.cellsOf 3=1:=by kernel_rfl
 replace r2:Rd Tryz.prog h 3 (([x0,x1,x2,x3,x4].drop 2).take (Tryz.prog.cellsOf 3)) d2:=r2;replace w2:Wy Tryz.prog 3 d2:=w2;rw[c2]at r2;replace r2:Rd Tryz.prog h 3 [x2] d2:=r2;obtain⟨d3,r3,w3⟩:=hr 3 _ rfl;have c3:Tryz.prog.cellsOf 4=1:=by kernel_rfl
 replace r3:Rd Tryz.prog h 4 (([x0,x1,x2,x3,x4].drop 3).take (Tryz.prog.cellsOf 4)) d3:=r3;replace w3:Wy Tryz.prog 4 d3:=w3;rw[c3]at r3;replace r3:Rd Tryz.prog h 4 [x3] d3:=r3;obtain⟨d4,r4,w4⟩:=hr 4 _ rfl;have c4:Tryz.prog.cellsOf 58=1:=by kernel_rfl
 replace r4:Rd Tryz.prog h 58 (([x0,x1,x2,x3,x4].drop 4).take (Tryz.prog.cellsOf 58)) d4:=r4;replace w4:Wy Tryz.prog 58 d4:=w4;rw[c4]at r4;replace r4:Rd Tryz.prog h 58 [x4] d4:=r4;obtain⟨s,e0,f0⟩:=ZE r0 Tryz.underlying3;cases e0;obtain⟨t,e1,f1⟩:=ZE r1 Tryz.underlying3;cases e1;obtain⟨q,e2,f2⟩:=ZE r2 Tryz.underlying3;cases e2;obtain⟨v,e3⟩:=zMa r3 Tryz.underlying4;cases e3;obtain⟨vc,lc,e4,s4,b4⟩:=zAN r4 Tryz.underlying58 (c:=4) (by kernel_rfl) (by decide+kernel) w4 zPC;cases e4;exact⟨⟨s,t,q,v,lc⟩,_,rfl,s4,by simp only;omega⟩
end
end Go.Proofs.YtfnndahpddkniaaGreatDoor
