/- Walks of functions, plain laws; proves no statement. -/
import Derived.Test.YtmejfcakhpihlaaGreatDoorJn
set_option linter.all false
set_option maxHeartbeats 2000000
set_option maxRecDepth 100000
namespace Go.Proofs.YtmejfcakhpihlaaGreatDoor
open Go.Am
section
variable {h hB:WA}{b:Nat}{vt vf pu po vS vR vK vO:Value}{T:List WE}{F:List Wa}{ks:List Int}{f r:Int}{out:List Wh}
theorem zOF(C:CE hB b vt vf pu po vS vR T F)(M:CM hB h b vt vf pu po vS vR T F vK vO ks f r out)(hf:0<=f/\f<(F.length:Int))(hr:0<=r/\r<=1000)(hl:out.length<=90000)(x:Wj)(va:Value)(b1:Option Addr)(b2 b3:Nat)(sa:WQ hB va x.args)(I0:CI T F ks x)(hk:ks.length<=1000)(ho:x.op=18):
  WC Tryz.prog tb 56 [pu,.agg #[.int .u8 x.op,I x.ty,I x.a,I x.b,I x.n,va,.slice b1 b2 b3]] h fun _ h'=>CP hB b vt vf pu po vS vR T F vK vO ks f r (out++(zD4 T F f x.n (zj T F x.n).parts x.args++if W9 T x.ty then[]else[⟨2,We T F f r,zy T F+x.n,0,[]⟩])) h h':=by
 have bm:=I0.ty (by omega);have fA:=I0.args (by omega);have jT:=I0.al;obtain⟨hn,bD,dC,jf⟩:=I0.iE ho;have hA:=zE7 C.hs hn;have hFm:=C.E.sm.funcs;have L8:=hA.2.2.2.2;obtain⟨gu,_,_,rfl,_⟩:=id M.ou;obtain⟨s1,s2,s3,rfl⟩:=zD M.oS.sl;have Sp:=M.oR.sl;obtain⟨r1,r2,r3,rfl⟩:=Wi.shape Sp;obtain⟨k1,k2,k3,rfl⟩:=Wi.shape M.oK.sl;obtain⟨a1,a2,a3,rfl⟩:=Wi.shape sa;obtain⟨iX,⟨vb,rfl,sb,cD⟩,fb,iB⟩:=zP (i:=x.n.toNat) C.E.sf (by omega);obtain⟨kQ,⟨vp,rfl,sp,pJ⟩,dR,mh⟩:=zP (i:=(F.getD x.n.toNat default).sig.toNat) C.E.st (by omega);have bH:zj T F x.n=T.getD (F.getD x.n.toNat default).sig.toNat default:=rfl;rw[<-bH]at sp pJ dR;obtain⟨t1,t2,t3,rfl⟩:=zD C.E.st;obtain⟨f1,f2,f3,rfl⟩:=zD C.E.sf;obtain⟨Sq,Sr,Ss,rfl⟩:=zD sb;obtain⟨p1,p2,p3',rfl⟩:=Wi.shape sp;generalize(F.getD x.n.toNat default).sig=sg at *;have uF:∀ i:Nat,We T F x.n i=(Bw T F).getD x.n.toNat 0+i:=fun i=>by unfold We;rw[hA.2.1]
 have rO:0<=(Bw T F).getD x.n.toNat 0/\(Bw T F).getD x.n.toNat 0<=8000:=by rw[hA.2.1];exact⟨hA.2.2.1,hA.2.2.2.1⟩
 have cG:=hA.1;clear hA;unfold zD4;generalize(zj T F x.n).parts=ps at *;have hL:∀ i:Nat,(out++(List.range i).flatMap fun(i:Nat)=>if W9 T (ps.getD i 0)then[]else[(⟨2,We T F x.n i,We T F f (x.args.getD i 0),0,[]⟩:Wh)]).length<=90000+i:=fun i=>by
  have:=Yh (fun(i:Nat)=>if W9 T (ps.getD i 0)then[]else[(⟨2,We T F x.n i,We T F f (x.args.getD i 0),0,[]⟩:Wh)]) (fun _=>zAS _ _) i;rw[QM];omega
 replace fA:=WK.mk fA;replace jf:=WK.mk jf;replace uF:=WK.mk uF;refine en ?_;refine VF ?_;intro p3 h1 e1 o3;replace o3:WB h h1 p3 [.int .u8 x.op,I x.ty,I x.a,I x.b,I x.n,.slice a1 a2 a3,.slice b1 b2 b3]:=o3;have M1:=M.ext e1;have o1:=M1.ou;have sp1:=sp.ext M1.e;have fV:=Wo.ext C.E.sf M1.e;have bL:=Wu.ext C.E.st M1.e;have St:=(fb _ M1.e).1;have Su:=(dR _ M1.e).1;have jx:WU po p3:=(VG o3.since' M.oo.within).symm;have cU:WU vO p3:=(VG o3.since' fun g hg=>(yu M.oO g hg).2).symm;refine go ?_;refine VD (fun i=>ps.length-i) (fun i t h3=>zC t 27=I i/\i<=ps.length/\∃ bE,CM hB h3 b (.slice t1 t2 t3) (.slice f1 f2 f3) (.pointer (some ⟨gu,0,none⟩)) po (.slice s1 s2 s3) (.slice r1 r2 r3) T F (.slice k1 k2 k3) bE ks f r (out++(List.range i).flatMap fun(i:Nat)=>if W9 T (ps.getD i 0)then[]else[⟨2,We T F x.n i,We T F f (x.args.getD i 0),0,[]⟩])/\Wd po vO h1 h3 bE) 0 ?_ ?_
 ·exact⟨WH,QK _,vO,by simpa using M1,Wd.refl ..⟩
 rintro i t h3 ab ⟨s27,hi,bE,M3,jm⟩;obtain⟨Sv,J4⟩:=VR o3 jm jx cU;have sp3:=sp.ext M3.e;have o3u:=M3.ou;refine go ?_;refine VE (fun hb=> ?_) (fun hb=> ?_)<;>simp only[DB]at hb
 ·have ae:i<ps.length:=by omega
  have mE:i<x.args.length:=by omega
  have hx:=jf.out _ (zM ae);have fR:=fA.out _ (zM mE);have hg:=uF.out i;have bp:=ZI (fun(i:Nat)=>if W9 T (ps.getD i 0)then[]else[(⟨2,We T F x.n i,We T F f (x.args.getD i 0),0,[]⟩:Wh)]) i;refine go ?_;refine VA (Yk M3.ou (Wu.ext C.E.st M3.e) (ps.getD i 0) hx) ?_;rintro _ _ ⟨rfl,rfl⟩;cases uG:W9 T (ps.getD i 0)with
  |true=>
   rw[uG]at bp;refine go ?_;refine zA (i+1) (by omega) ⟨Wn,by omega,bE,?_,jm⟩;rw[bp];simpa using M3
  |false=>
   rw[uG]at bp;refine go ?_;refine VC 1 rfl rfl ?_;have IX:WB hB (inC (zB 1 h3)) (.pointer (some ⟨gu,0,none⟩)) [.slice t1 t2 t3,.slice f1 f2 f3,.slice s1 s2 s3,.slice r1 r2 r3,I (zy T F),.slice k1 k2 k3,I f,I r,Zt po]:=z0 1 (M3.ou);have IY:WQ (inC (zB 1 h3)) (.slice r1 r2 r3) (Bw T F):=Z6 1 (M3.oR.sl);have uD:WB h (inC (zB 1 h3)) p3 [.int .u8 x.op,I x.ty,I x.a,I x.b,I x.n,.slice a1 a2 a3,.slice b1 b2 b3]:=z0 1 (Sv);have lq:WQ (inC (zB 1 h3)) (.slice a1 a2 a3) x.args:=Z6 1 ((sa.ext M3.e));refine WJ ?_;refine VA (ZQ IX IY C.hs hf (x.args.getD i 0) (by omega)) ?_;rintro _ _ ⟨rfl,rfl⟩;refine WO.nil (Zd zw ?_);refine WJ ?_;rw[<-hg];refine Wb.add (X:=inC (zB 1 _)) (⟨2,We T F x.n i,We T F f (x.args.getD i 0),0,[]⟩:Wh) (fun _=>False) C M3 (Ext.refl _) (by have:=hL i;omega) ye (fun _ h=>h.elim) ?_;intro H iG t' aZ MH kH;refine go ?_;refine zA (i+1) (by omega) ⟨Wn,by omega,iG,?_,jm.trans kH⟩;rw[bp,<-QT];exact MH
 ·have aK:i=ps.length:=by omega
  subst aK;refine go ?_;refine VA (Yk M3.ou (Wu.ext C.E.st M3.e) x.ty bm) ?_;rintro _ _ ⟨rfl,rfl⟩;cases uG:W9 T x.ty with
  |true=>
   refine go ?_;refine BP ?_;exact⟨bE,by simpa using M3,(Wd.ext e1).trans jm⟩
  |false=>
   refine go ?_;refine VC 1 rfl rfl ?_;have IX:WB hB (inC (zB 1 h3)) (.pointer (some ⟨gu,0,none⟩)) [.slice t1 t2 t3,.slice f1 f2 f3,.slice s1 s2 s3,.slice r1 r2 r3,I (zy T F),.slice k1 k2 k3,I f,I r,Zt po]:=z0 1 (M3.ou);have IY:WQ (inC (zB 1 h3)) (.slice r1 r2 r3) (Bw T F):=Z6 1 (M3.oR.sl);refine WJ ?_;refine VA (ZQ IX IY C.hs hf r hr) ?_;rintro _ _ ⟨rfl,rfl⟩;refine WO.nil (Zd zw ?_);refine WJ ?_;refine yZ (j:=4) M3.ou (by show h3.n<=h3.n+1;omega) ?_;refine WJ ?_;refine Wb.add (X:=inC (zB 1 _)) (⟨2,We T F f r,zy T F+x.n,0,[]⟩:Wh) (fun _=>False) C M3 (Ext.refl _) (by have:=hL ps.length;omega) ye (fun _ h=>h.elim) ?_;intro H iG t' aZ MH kH;refine go ?_;refine BP ?_;exact⟨iG,by simpa using MH,(Wd.ext e1).trans (jm.trans kH)⟩
theorem zPl(C:CE hB b vt vf pu po vS vR T F)(M:CM hB h b vt vf pu po vS vR T F vK vO ks f r out)(hf:0<=f/\f<(F.length:Int))(hr:0<=r/\r<=1000)(hl:out.length<=90000)(x:Wj)(va:Value)(b1:Option Addr)(b2 b3:Nat)(sa:WQ hB va x.args)(I0:CI T F ks x)(hk:ks.length<=1000):
  WC Tryz.prog tb 28 [pu,.agg #[.int .u8 x.op,I x.ty,I x.a,I x.b,I x.n,va,.slice b1 b2 b3]] h fun _ h'=>CP hB b vt vf pu po vS vR T F vK vO ks f r (out++yl T F f ks r x) h h':=by
 obtain⟨a1,a2,a3,rfl⟩:=Wi.shape sa;have b7:=I0.op;refine en ?_;refine VF ?_;intro p3 h1 e1 o3;replace o3:WB h h1 p3 [.int .u8 x.op,I x.ty,I x.a,I x.b,I x.n,.slice a1 a2 a3,.slice b1 b2 b3]:=o3;have M1:=M.ext e1;have fin:∀ {l:List Wh} {h2:WA},l=yl T F f ks r x->CP hB b vt vf pu po vS vR T F vK vO ks f r (out++l) h1 h2->CP hB b vt vf pu po vS vR T F vK vO ks f r (out++yl T F f ks r x) h h2:=fun e ⟨v,a,c⟩=>⟨v,by rw[<-e];exact a,(Wd.ext e1).trans c⟩;have je:=sa.ext M1.e;by_cases c1:x.op=2\/x.op=3
 ·have hc:[(⟨1,We T F f r,0,if x.op=3 then x.n+1 else 0,[]⟩:Wh)]=yl T F f ks r x:=by unfold yl;rw[QF c1]
  have vB:x.op=3->0<=x.n/\x.n<=1000:=fun e=>by have:=I0.n3 e;have:=C.E.sm.funcs;omega
  rcases c1 with c1|c1;all_goals
   refine go ?_
   refine VA (zMk C M1 hf hr hl x a1 b1 a2 a3 b2 b3 vB) ?_
   rintro rr h2 q2
   refine go ?_
   refine BP ?_
   exact fin hc q2
 by_cases c2:x.op=11\/x.op=12
 ·have hc:zD3 T F f r (YV T f r (zR T F) 0 [])=yl T F f ks r x:=by unfold yl;rw[QC c1,QF c2]
  rcases c2 with c2|c2;all_goals
   refine go ?_
   refine VA (zNQ C M1 hf hr hl) ?_
   rintro rr h2 q2
   refine go ?_
   refine BP ?_
   exact fin hc q2
 by_cases c3:x.op=14\/x.op=15
 ·have hc:[(⟨3,We T F f r,We T F f x.a,if x.op=14 then stepL T (T.getD (ks.getD x.a.toNat 0).toNat default).elem x.n else 0,[]⟩:Wh)]=yl T F f ks r x:=by unfold yl;rw[QC c1,QC c2,QF c3]
  have Sw:=c3;rcases c3 with c3|c3;all_goals
   refine go ?_
   refine VA (zNr C M1 hf hr hl x a1 b1 a2 a3 b2 b3 I0 hk Sw) ?_
   rintro rr h2 q2
   refine go ?_
   refine BP ?_
   exact fin hc q2
 by_cases c4:x.op=16
 ·have hc:(if W9 T x.ty then[]else[(⟨4,We T F f r,We T F f x.a,0,[]⟩:Wh)])=yl T F f ks r x:=by unfold yl;rw[QC c1,QC c2,QC c3,QF c4]
  refine go ?_;refine VA (zNL C M1 hf hr hl x a1 b1 a2 a3 b2 b3 I0 hk c4) ?_;rintro rr h2 q2;refine go ?_;refine BP ?_;exact fin hc q2
 by_cases c5:x.op=17
 ·have hc:(if W9 T (ks.getD x.b.toNat 0)then[]else[(⟨5,We T F f x.a,We T F f x.b,0,[]⟩:Wh)])=yl T F f ks r x:=by unfold yl;rw[QC c1,QC c2,QC c3,QC c4,QF c5]
  refine go ?_;refine VA (zKy C M1 hf hl x a1 b1 a2 a3 b2 b3 I0 hk c5) ?_;rintro rr h2 q2;refine go ?_;refine BP ?_;exact fin hc q2
 by_cases c6:x.op=18
 ·have hc:(zD4 T F f x.n (zj T F x.n).parts x.args++if W9 T x.ty then[]else[(⟨2,We T F f r,zy T F+x.n,0,[]⟩:Wh)])=yl T F f ks r x:=by unfold yl;rw[QC c1,QC c2,QC c3,QC c4,QC c5,QF c6]
  refine go ?_;refine VA (zOF C M1 hf hr hl x _ b1 b2 b3 sa I0 hk c6) ?_;rintro rr h2 q2;refine go ?_;refine BP ?_;exact fin hc q2
 by_cases c7:x.op=19
 ·have hc:[(⟨6,We T F f r,We T F f x.a,0,x.args.map (We T F f)⟩:Wh)]=yl T F f ks r x:=by unfold yl;rw[QC c1,QC c2,QC c3,QC c4,QC c5,QC c6,QF c7]
  refine go ?_;refine VA (zLu C M1 hf hr hl x _ b1 b2 b3 je I0 hk c7) ?_;rintro rr h2 q2;refine go ?_;refine BP ?_;exact fin hc q2
 by_cases c8:x.op=22
 ·have hc:(if W9 T x.ty then[]else zOD T F f r x.args)=yl T F f ks r x:=by unfold yl;rw[QC c1,QC c2,QC c3,QC c4,QC c5,QC c6,QC c7,QF c8]
  refine go ?_;refine VA (zPQ C M1 hf hr hl x _ b1 b2 b3 je I0 hk c8) ?_;rintro rr h2 q2;refine go ?_;refine BP ?_;exact fin hc q2
 ·have hc:[]=yl T F f ks r x:=by unfold yl;rw[QC c1,QC c2,QC c3,QC c4,QC c5,QC c6,QC c7,QC c8]
  refine go ?_;refine BP ?_;exact fin hc ⟨vO,by simpa using M1,Wd.refl ..⟩
end
end Go.Proofs.YtmejfcakhpihlaaGreatDoor
set_option maxRecDepth 100000
namespace Go.Proofs.YtmejfcakhpihlaaGreatDoor
open Go.Am
theorem zQS{h:WA}{v:Value}{l:List Wa}(k:Nat)(s:Wo h v l):Wo (inC (zB k h)) v l:=by
 have:=Wo.ext s (zH k h);exact this
theorem zMh{X:WA}{n:Int}{D:Nat->Prop}:Ba RI X [I n] n D:=fun _ _ _=>rfl
theorem zO4(T:List WE)(F:List Wa)(f:Int)(ks:List Int)(r:Int)(x:Wj)(h1:x.args.length<=20)(h2:(YV T f r (zR T F) 0 []).2.length<=40)(h3:x.op=18->(zj T F x.n).parts.length<=20):(yl T F f ks r x).length<=41:=by
 unfold yl;split
 ·simp
 split
 ·unfold zD3 zKI;rw[GF];have:=Yh (fun i=>if W9 T ((YV T f r (zR T F) 0 []).2.getD i 0)then[]else[⟨1,zy T F+F.length+(YV T f r (zR T F) 0 []).1+i,0,0,[]⟩]) (fun i=>zAS _ _) (YV T f r (zR T F) 0 []).2.length;omega
 split
 ·simp
 split
 ·have:=zAS (W9 T x.ty) ⟨4,We T F f r,We T F f x.a,0,[]⟩;omega
 split
 ·have:=zAS (W9 T (ks.getD x.b.toNat 0)) ⟨5,We T F f x.a,We T F f x.b,0,[]⟩;omega
 split
 ·rename_i h;rw[QM];have:=zAS (W9 T x.ty) ⟨2,We T F f r,zy T F+x.n,0,[]⟩;have h4:=h3 h;have:=Yh (fun i=>if W9 T ((zj T F x.n).parts.getD i 0)then[]else[⟨2,We T F x.n i,We T F f (x.args.getD i 0),0,[]⟩]) (fun i=>zAS _ _) (zj T F x.n).parts.length;unfold zD4;omega
 split
 ·simp
 split
 ·split
  ·simp
  ·unfold zOD;have:=Yh (fun(i:Nat)=>[⟨2,We T F f r,We T F f (x.args.getD i 0),0,[]⟩]) (fun i=>by simp) x.args.length;omega
 ·simp
theorem zQ4{hB h:WA}{v:Value}{l:List Int}(o:WL hB h v l):OwnR 1 RI hB.n h v l:=by
 rcases o with⟨rfl,rfl⟩|⟨g,g1,g2,rfl,g4⟩
 ·exact .inl ⟨rfl,rfl⟩
 ·refine .inr ⟨g,l.map I,fun _=>False,g1,g2,rfl,g4,by simp,fun h=>h,fun k hk=>hk.elim,fun i a ha=>fun _ _ _=> ?_⟩;obtain⟨hi,rfl⟩:=QR.1 ha;unfold RI;rw[G4];apply G6
  ·simp;omega
  ·intro j h1 h2;simp at h2;subst h2;simp
theorem zNl{hB h h':WA}{p:Value}{cs:List Value}(e:Ext hB h)(o:WB hB h p cs)(u:Wm p h h')(wf:Wf h->Wf h')(hm:h'.mark=h.mark)(hw:h'.wr=h.wr):Ext hB h':=by
 obtain⟨g,g1,g2,rfl,g3⟩:=o;exact⟨QP e.n u.1,fun k hk=>(u.2 k (QI hk e.n) fun e=>by cases e;omega).trans (e.get k hk),fun w=>wf (e.wf w),hm.trans e.mark,fun h=>hw.trans (e.wr h)⟩
theorem Y4{h0 h h':WA}{p q:Value}{cs:List Value}(o:WB h0 h q cs)(u:Wm p h h')(d:WU p q):WB h0 h' q cs:=by
 obtain⟨g,g1,g2,rfl,g3⟩:=o;exact⟨g,g1,QI g2 u.1,rfl,(u.2 g g2 fun e=>d g (by rw[e];rfl) rfl).trans g3⟩
theorem zCV{p:Value}{h h1 h2:WA}(a:Wm p h h1)(b:Wm p h1 h2):Wm p h h2:=⟨QP a.1 b.1,fun g hg hp=>(b.2 g (QI hg a.1) hp).trans (a.2 g hg hp)⟩
theorem zC6{p:Value}{h h1:WA}(e:Ext h h1):Wm p h h1:=⟨e.n,fun g hg _=>e.get g hg⟩
section
variable {hB h h':WA}{b:Nat}{vt vf pu po vS vR vK qx vO:Value}{T:List WE}{F:List Wa}{ks wA:List Int}{f r f' r':Int}{out:List Wh}
theorem CM.upU(M:CM hB h b vt vf pu po vS vR T F vK vO ks f r out)(C:CE hB b vt vf pu po vS vR T F)(u:Wm pu h h')(e:Ext hB h')(ou:WB hB h' pu [vt,vf,vS,vR,I (zy T F),qx,I f',I r',Zt po])(oK:WL hB h' qx wA)(hk:∀ g,Bm qx=some g->b<=g)(ko:WU vO qx):
  CM hB h' b vt vf pu po vS vR T F qx vO wA f' r' out:=
 ⟨e,QP M.hb u.1,ou,Y4 M.oo u C.uo,M.oS.upB zFG u.upB C.uS,M.oR.upB u.upB C.uR,oK,M.oO.upd (fun k k1 k2=>u.2 k k2 fun e=>by have:=C.bu k (by rw[e];rfl);omega) u.1,hk,ko⟩
theorem CM.setR(M:CM hB h b vt vf pu po vS vR T F vK vO ks f r out)(C:CE hB b vt vf pu po vS vR T F)(u:Wm pu h h')(e:Ext hB h')(ou:WB hB h' pu [vt,vf,vS,vR,I (zy T F),vK,I f,I r',Zt po]):CM hB h' b vt vf pu po vS vR T F vK vO ks f r' out:=by
 refine M.upU C u e ou (M.oK.upB u.upB fun g h1 h2=> ?_) M.kb M.ko;have:=C.bu g h1;have:=M.kb g h2;omega
theorem zOj(C:CE hB b vt vf pu po vS vR T F)(M:CM hB h b vt vf pu po vS vR T F vK vO ks f r out)(g:Nat)(hg:g<F.length):
  WC Tryz.prog tb 27 [pu,I g] h fun _ h'=>∃ qx,CM hB h' b vt vf pu po vS vR T F qx vO (Zb T F g) g r out/\Wm pu h h':=by
 obtain⟨gu,_,_,rfl,_⟩:=id M.ou;obtain⟨s1,s2,s3,rfl⟩:=zD M.oS.sl;obtain⟨r1,r2,r3,rfl⟩:=Wi.shape M.oR.sl;obtain⟨k1,k2,k3,rfl⟩:=Wi.shape M.oK.sl;have E0:=C.E;obtain⟨t1,t2,t3,rfl⟩:=zD E0.st;obtain⟨f1,f2,f3,rfl⟩:=zD E0.sf;have hp:=(z9 C.hs).1;have Z:=zBL hp (f:=(g:Int)) (by omega);have dC:=Z.sig;have ew:=Z.par4;have uI:=Z.many;rw[QL]at dC;have qo:Zb T F g=(T.getD (F.getD g default).sig.toNat default).parts++(F.getD g default).blocks.flatMap fun b=>b.ins.map fun x=>x.ty:=by
  unfold Zb zj zF;rw[QL]
 have hL:zF F g=(F.getD g default).blocks:=by unfold zF;rw[QL]
 have hP:zj T F g=T.getD (F.getD g default).sig.toNat default:=by unfold zj;rw[QL]
 rw[hL]at uI;rw[hP]at ew;rw[qo];have jG:=E0.sm.blocks _ (zE hg);have dG:=E0.sm.ins _ (zE hg);obtain⟨iX,⟨vb,rfl,sb,cD⟩,fb,iB⟩:=zP (i:=g) E0.sf hg;obtain⟨kQ,⟨va,rfl,sa,br⟩,dR,mh⟩:=zP (i:=(F.getD g default).sig.toNat) E0.st (by omega);generalize F.getD g default=G at *;clear hL hP qo Z;generalize T.getD G.sig.toNat default=X0 at *;obtain⟨b1,b2,b3,rfl⟩:=zD sb;obtain⟨a1,a2,a3,rfl⟩:=Wi.shape sa;refine en ?_;refine VC 0 rfl rfl ?_;have oY:WB hB (inC (zB 0 h)) (.pointer (some ⟨gu,0,none⟩)) [.slice t1 t2 t3,.slice f1 f2 f3,.slice s1 s2 s3,.slice r1 r2 r3,I (zy T F),.slice k1 k2 k3,I f,I r,Zt po]:=M.ou;have eY:=M.e.trans (zH 0 h);have Ch:=(fb _ eY).2;have Ci:=(dR _ eY).2;have lq:WQ (inC (zB 0 h)) (.slice a1 a2 a3) X0.parts:=Z6 0 (sa.ext M.e);have oi:Wu (inC (zB 0 h)) (.slice t1 t2 t3) T:=zJa 0 (Wu.ext C.E.st M.e);have wI:Wo (inC (zB 0 h)) (.slice f1 f2 f3) F:=zQS 0 (Wo.ext C.E.sf M.e);refine WJ ?_;refine VA (zHy _ _ X0.parts lq (by omega)) ?_;rintro qx X ⟨oK,eX⟩;refine nE eX ?_;have oZ:WB hB X (.pointer (some ⟨gu,0,none⟩)) [.slice t1 t2 t3,.slice f1 f2 f3,.slice s1 s2 s3,.slice r1 r2 r3,I (zy T F),.slice k1 k2 k3,I f,I r,Zt po]:=oY.ext eX;have bU:h.mark<=hB.n:=by rw[M.e.mark];exact C.hm
 have oZi:WB hB (inC X) (.pointer (some ⟨gu,0,none⟩)) [.slice t1 t2 t3,.slice f1 f2 f3,.slice s1 s2 s3,.slice r1 r2 r3,I (zy T F),.slice k1 k2 k3,I f,I r,Zt po]:=oZ;obtain⟨c1,c2,c3,rfl⟩:=Wi.shape oK.sl;refine WJ ?_;refine XJ (hB:=hB) (j:=6) (cs:=[I g]) (hl:=by simp) oZ bU ?_;intro X1 n1 wP o1 w1 Sx;replace o1:WB hB X1 (.pointer (some ⟨gu,0,none⟩)) [.slice t1 t2 t3,.slice f1 f2 f3,.slice s1 s2 s3,.slice r1 r2 r3,I (zy T F),.slice k1 k2 k3,I g,I r,Zt po]:=o1;have Sy:WB hB (inC X1) (.pointer (some ⟨gu,0,none⟩)) [.slice t1 t2 t3,.slice f1 f2 f3,.slice s1 s2 s3,.slice r1 r2 r3,I (zy T F),.slice k1 k2 k3,I g,I r,Zt po]:=o1;refine WJ ?_;refine XK (hB:=hB) (j:=5) (cs:=[.slice c1 c2 c3]) (hl:=by simp) o1 bU ?_;intro H n2 wQ o2 w2 m2 vN;replace o2:WB hB H (.pointer (some ⟨gu,0,none⟩)) [.slice t1 t2 t3,.slice f1 f2 f3,.slice s1 s2 s3,.slice r1 r2 r3,I (zy T F),.slice c1 c2 c3,I g,I r,Zt po]:=o2;have nP:h.n<=X.n:=eX.n;have uH:Wm (.pointer (some ⟨gu,0,none⟩)) h H:=⟨by omega,fun k hk aq=>by rw[wQ k aq,wP k aq];exact eX.get k (by show k<h.n+0;omega)⟩;have eH:Ext hB H:=zNl M.e M.ou uH (fun w=>w2 (w1 (eX.wf (fun q hq=>w q (by have hq:h.n+0<=q:=hq;omega))))) m2 vN;have Sz:gu<h.n:=M.ou.within _ rfl;have SB:WL h H (.slice c1 c2 c3) X0.parts:=by
  rcases oK with o|⟨q,q1,q2,q3,q4⟩
  ·exact .inl o
  ·have q1:h.n+0<=q:=q1;have hq:Value.pointer (some ⟨gu,0,none⟩)≠ .pointer (some ⟨q,0,none⟩):=fun e=>by cases e;omega
   exact .inr ⟨q,by omega,by omega,q3,by rw[wQ q hq,wP q hq];exact q4⟩
 have SC:=zQ4 SB;clear wP wQ w1 w2 o1 oZ oK eX oY;have sbH:=Wv.ext sb eH;have sfH:=Wo.ext C.E.sf eH;have SD:=(fb _ eH).1;have SE:∀ q,Value.pointer (some ⟨gu,0,none⟩)=.pointer (some ⟨q,0,none⟩)->q<h.n:=fun q e=>by cases e;exact Sz
 refine go ?_;refine VD (fun i=>G.blocks.length-i) (fun i t h3=>zC t 43=I i/\i<=G.blocks.length/\Ext hB h3/\Wm (.pointer (some ⟨gu,0,none⟩)) h h3/\∃ v,(∃ a n c,v=.slice a n c)/\WB hB h3 (.pointer (some ⟨gu,0,none⟩)) [.slice t1 t2 t3,.slice f1 f2 f3,.slice s1 s2 s3,.slice r1 r2 r3,I (zy T F),v,I g,I r,Zt po]/\OwnR 1 RI h.n h3 v (X0.parts++(G.blocks.take i).flatMap fun b=>b.ins.map fun x=>x.ty)) 0 ?_ ?_
 ·exact⟨WH,QK _,eH,uH,_,⟨_,_,_,rfl⟩,o2,by simpa using SC⟩
 rintro i t h3 ab ⟨s43,hi,e3,u3,v,⟨v1,v2,v3,rfl⟩,o3,l3⟩;have nR:=Wv.ext sb e3;refine go ?_;refine VE (fun hc=> ?_) (fun hc=> ?_)<;>simp only[DB]at hc
 ·have ae:i<G.blocks.length:=by omega
  obtain⟨pE,⟨vi,rfl,si,fc⟩,kR,mo⟩:=zP (i:=i) sb ae;have SF:=(kR _ e3).1;have bp:((G.blocks.take (i+1)).flatMap fun b=>b.ins.map fun x=>x.ty)=((G.blocks.take i).flatMap fun b=>b.ins.map fun x=>x.ty)++(G.blocks.getD i default).ins.map fun x=>x.ty:=by
   rw[ZP ae,List.flatMap_append];simp
  have hlen:(((G.blocks.take i).flatMap fun b=>b.ins.map fun x=>x.ty).length:Int)+((G.blocks.getD i default).ins.length:Int)<=zJ G.blocks:=by
   have h1:=zNn G.blocks (i+1);have h2:∀ L:List Wc,(((L.flatMap fun b=>b.ins.map fun x=>x.ty).length:Nat):Int)=zJ L:=fun L=>by
    induction L with
    |nil=>rfl
    |cons c L ih=>rw[List.flatMap_cons,QM,Qi,Zj,<-ih];omega
   have h3:=h2 (G.blocks.take (i+1));rw[bp,QM,Qi]at h3;omega
  have SG:=dG _ (zE ae);generalize(G.blocks.take i).flatMap (fun b=>b.ins.map fun x=>x.ty)=pre at *;generalize G.blocks.getD i default=B at *;obtain⟨i1,i2,i3,rfl⟩:=zD si;refine go ?_;refine WO.al ?_;intro p5 h4 e4 o5;refine go ?_;refine VH o5 e4 ?_;intro h5 e5 o5 _;have Ak:=e3.trans e5;have rj:=o3.ext e5;have SH:=OwnR.ext l3 e5;have SI:=zCV u3 (zC6 e5);have F9:=BB.ext si Ak;refine go ?_;refine VD (fun q=>B.ins.length-q) (fun q t h6=>zC t 50=I q/\q<=B.ins.length/\Ext hB h6/\Wm (.pointer (some ⟨gu,0,none⟩)) h h6/\∃ v,(∃ a n c,v=.slice a n c)/\WB hB h6 (.pointer (some ⟨gu,0,none⟩)) [.slice t1 t2 t3,.slice f1 f2 f3,.slice s1 s2 s3,.slice r1 r2 r3,I (zy T F),v,I g,I r,Zt po]/\OwnR 1 RI h.n h6 v (X0.parts++pre++(B.ins.take q).map fun x=>x.ty)) 0 ?_ ?_
  ·exact⟨WH,QK _,Ak,SI,_,⟨_,_,_,rfl⟩,rj,by simpa using SH⟩
  rintro q t' h6 mY ⟨s50,hq,e6,u6,v,⟨v1,v2,v3,rfl⟩,o6,l6⟩;have Ro:=BB.ext si e6;refine go ?_;refine VE (fun bM=> ?_) (fun bM=> ?_)<;>simp only[DB]at bM
  ·have cE:q<B.ins.length:=by omega
   obtain⟨wD,⟨xa,xf,rfl,cr,cz,vG,DF,ho⟩,fN,wE⟩:=zP (i:=q) si cE;have SJ:=(fN _ e6).1;have m9:(B.ins.take (q+1)).map (fun x=>x.ty)=(B.ins.take q).map (fun x=>x.ty)++[(B.ins.getD q default).ty]:=by
    rw[ZP cE,Qx];rfl
   have jH:((B.ins.take q).map fun x=>x.ty).length<=q:=by rw[Qi];exact List.length_take_le _ _
   generalize B.ins.getD q default=x at *;obtain⟨k7,k9,ld,rfl⟩:=Wi.shape cr;obtain⟨mJ,mK,mL,rfl⟩:=Wi.shape cz;refine go ?_;refine WO.al ?_;intro p7 h7 e7 o7;refine go ?_;refine VH (cs:=[.int .u8 x.op,I x.ty,I x.a,I x.b,I x.n,.slice k7 k9 ld,.slice mJ mK mL]) o7 e7 ?_;intro h8 e8 o8 _;have tO:=e6.trans e8;have oj:=o6.ext e8;have L9:=OwnR.ext l6 e8;have DK:=zCV u6 (zC6 e8);refine go ?_;refine VC 1 rfl rfl ?_;have oY8:WB hB (inC (zB 1 h8)) (.pointer (some ⟨gu,0,none⟩)) [.slice t1 t2 t3,.slice f1 f2 f3,.slice s1 s2 s3,.slice r1 r2 r3,I (zy T F),.slice v1 v2 v3,I g,I r,Zt po]:=z0 1 (oj);have LX:WB h6 (inC (zB 1 h8)) p7 [.int .u8 x.op,I x.ty,I x.a,I x.b,I x.n,.slice k7 k9 ld,.slice mJ mK mL]:=z0 1 (o8);refine WJ ?_;refine XA (X:=inC (zB 1 _)) (hB:=hB) (b:=h.n) (v:= .slice v1 v2 v3) x.ty (fun _=>False) (Ext.refl _) L9 tO (by rw[tO.mark];exact C.hm) (QP C.bn M.hb) DK.1 (by decide) (by simp only[QM]at *;omega) oj SE (fun _ _ _=>rfl) (fun _ h=>h.elim) (fun _ _ _ _ h=>h) id (by simp) rfl ?_;intro H' v' II jK SK IZ a9 Ma sH' SL SM;obtain⟨w1,w2,w3,rfl⟩:∃ a n c,v'=.slice a n c:=by
    rcases Ma with⟨rfl,_⟩|⟨_,_,_,_,_,rfl,_⟩
    ·exact⟨_,_,_,rfl⟩
    ·exact⟨_,_,_,rfl⟩
   replace IZ:WB hB H' (.pointer (some ⟨gu,0,none⟩)) [.slice t1 t2 t3,.slice f1 f2 f3,.slice s1 s2 s3,.slice r1 r2 r3,I (zy T F),.slice w1 w2 w3,I g,I r,Zt po]:=IZ;have SN:Wm (.pointer (some ⟨gu,0,none⟩)) h H':=⟨QP DK.1 SM,fun k hk aq=>by
    rw[SL k (QI hk DK.1) aq fun n k' e=>by have:=(yu L9 k (by rw[e];rfl)).1;omega];exact DK.2 k hk aq⟩
   refine go ?_;refine zA (q+1) (by omega) ⟨Wn,by omega,SK,SN,_,⟨_,_,_,rfl⟩,IZ,?_⟩;rw[m9,<-QT];exact Ma
  ·have iW:q=B.ins.length:=by omega
   subst iW;rw[Qg]at l6;refine go ?_;refine zA (i+1) (by omega) ⟨Wn,by omega,e6,u6,_,⟨_,_,_,rfl⟩,o6,?_⟩;rw[bp,<-QT];exact l6
 ·have aK:i=G.blocks.length:=by omega
  subst aK;rw[Qg]at l3;refine go ?_;refine BP ?_;refine⟨_,M.upU C u3 e3 o3 (zCc l3 (QP C.bn M.hb)) (fun k hk=>QP M.hb (yu l3 k hk).1) fun k h1 h2=> ?_,u3⟩;have:=(yu M.oO k h1).2;have:=(yu l3 k h2).1;omega
end
end Go.Proofs.YtmejfcakhpihlaaGreatDoor
set_option maxRecDepth 100000
namespace Go.Proofs.YtmejfcakhpihlaaGreatDoor
open Go.Am
theorem zHO{T:List WE}{f r:Int}:∀ {S:List W2} {a:Int} {l:List Int},l.length<=40->(∀ s∈S,(yG T s.ty.toNat).length<=40)->(YV T f r S a l).2.length<=40
 |[],_,_,h,_=>h
 |s::S,a,l,h,hS=>by
  unfold YV;split
  ·exact hS s (Qj ..)
  ·exact zHO (hS s (Qj ..)) fun q hq=>hS q (Qu _ hq)
theorem zA5{α:Type}(g:Nat->List α)(m:Nat):∀ n,(∀ i,i<n->(g i).length<=m)->((List.range n).flatMap g).length<=m*n
 |0,_=>by simp
 |n+1,h=>by
  rw[G3,List.flatMap_append,QM];have:=zA5 g m n fun i hi=>h i (by omega);have:=h n (by omega);rw[List.flatMap_cons,List.flatMap_nil,GY,Nat.mul_succ];omega
theorem zGo{T:List WE}{F:List Wa}(hs:z8 T F=0){f:Nat}(hf:f<F.length){b:Nat}(hb:b<(zF F f).length){i:Nat}(hi:i<((zF F f).getD b default).ins.length)(r:Int):
  (yl T F f (Zb T F f) r (((zF F f).getD b default).ins.getD i default)).length<=41:=by
 have I0:=zNY hs hf hb hi;have ag:=zBP (yN (z9 hs).1).1;refine zO4 _ _ _ _ _ _ I0.al (zHO (by simp) fun s xQ=> ?_) fun e=> ?_
 ·have bm:=zBt hs s xQ;have h1:=fun j (hj:j<=s.ty.toNat)=>(ag j (by omega)).1;exact QP (QP (zAa (s.ty.toNat+1) s.ty.toNat (Q4 _) h1) (ag s.ty.toNat (by omega)).2) (by decide)
 ·have:=(I0.iE e).2.1;have:=I0.al;omega
theorem zMO(T:List WE)(F:List Wa)(f:Int)(B:Wc):(zHz T F f B).length<=1:=by
 unfold zHz;split
 ·exact zAS _ _
 ·simp
theorem zDI{T:List WE}{F:List Wa}(hs:z8 T F=0)(f:Nat)(hf:f<F.length):∀ b,b<=(zF F f).length->((consB T F f (zF F f) b).length:Int)<=41*zJ ((zF F f).take b)+b
 |0,_=>by simp[consB,zJ]
 |b+1,hb=>by
  have ih:=zDI hs f hf b (by omega);have h1:consB T F f (zF F f) (b+1)=consB T F f (zF F f) b++(zEz T F f ((zj T F f).parts.length+zJ ((zF F f).take b)) ((zF F f).getD b default).ins++zHz T F f ((zF F f).getD b default)):=ZI _ b;have h2:(zEz T F f ((zj T F f).parts.length+zJ ((zF F f).take b)) ((zF F f).getD b default).ins).length<=41*((zF F f).getD b default).ins.length:=zA5 _ 41 _ fun i hi=>zGo hs hf (by omega) hi _;have h3:=zMO T F f ((zF F f).getD b default);rw[h1,ZP (by omega)];have h4:zJ ((zF F f).take b++[(zF F f).getD b default])=zJ ((zF F f).take b)+(((zF F f).getD b default).ins.length:Int):=by unfold zJ;simp
  rw[h4,QM,QM];omega
theorem zFI{T:List WE}{F:List Wa}(hs:z8 T F=0):∀ i:Nat,i<=F.length->(YH T F i).length<=6000*i
 |0,_=>by simp[YH]
 |i+1,hi=>by
  have ih:=zFI hs i (by omega);have h1:YH T F (i+1)=YH T F i++consB T F i (zF F i) (zF F i).length:=ZI _ i;have Z:=zBL (z9 hs).1 (f:=(i:Int)) (by omega);have h2:=zDI hs i (by omega) (zF F i).length (QE _);rw[Qg]at h2;have h3:=Z.many;have h4:=Z.od;rw[h1,QM];omega
section
variable {h hB:WA}{b:Nat}{vt vf pu po vS vR:Value}{T:List WE}{F:List Wa}
structure FR(hB h4 h:WA)(vt vf pu po vS vR:Value)(F:List Wa)(T:List WE)(i:Nat):Prop where
 e:Ext hB h
 u:Wm pu h4 h
 ou:WB hB h pu [vt,vf,vS,vR,I ((zz T F).take i).sum,.slice none 0 0,I 0,I 0,Zt po]
 oR:OwnR 1 RI h4.n h vR (((List.range i).map fun i=>((zz T F).take i).sum))
theorem zQ0(E:Env h vt vf T F):WC Tryz.prog tb 10 [.agg #[vt,vf]] h fun r h'=>(∃ v,r=.tuple #[v,I (z8 T F)]/\OwnR 5 BU h.n h' v (zBJ T F)/\(zBJ T F).length<=90000)/\Ext h h':=by
 refine en ?_;refine VF ?_;intro p1 h1 e1 o1;replace o1:WB h h1 p1 [vt,vf]:=o1;have E1:=E.ext e1;refine go ?_;refine WO.al ?_;intro po h2 e2 wN;have E2:=E1.ext e2;have dH:=o1.ext e2;refine go ?_;refine VA (zNP h2 vt vf T F E2) ?_;rintro _ h3 ⟨⟨vS,rfl,oS⟩,e3⟩;have wg:=dH.ext e3;have DL:=wN.ext e3;have E3:=E2.ext e3;obtain⟨s1,s2,s3,rfl⟩:=zD oS.sl;by_cases hs:z8 T F=0;case neg=>
  have a7:zBJ T F=[]:=by unfold zBJ;rw[QC hs]
  rw[a7];refine go ?_;refine VH DL (e2.trans e3) ?_;intro h4 e4 Cj u4;refine go ?_;refine rt ?_ (Ve WH Cj rfl (BQ.cons WH BQ.nil));exact⟨⟨_,rfl,.inl ⟨rfl,rfl⟩,by simp⟩,e1.trans e4⟩
 rw[QF hs]at oS;rw[hs];have hp:=(z9 hs).1;obtain⟨hc,lN,ig,hfn⟩:=yN hp;obtain⟨wO,sJ,-,-⟩:=zKX hs;replace hfn:=WK.mk hfn;obtain⟨t1,t2,t3,rfl⟩:=zD E.st;obtain⟨f1,f2,f3,rfl⟩:=zD E.sf;refine go ?_;refine VF ?_;intro pu h4 e4 rQ;obtain⟨gu,SO,SP,rfl,SQ⟩:=id rQ;obtain⟨go',SR,go2,rfl,SU⟩:=id wN;replace rQ:WB h3 h4 (.pointer (some ⟨gu,0,none⟩)) [.slice t1 t2 t3,.slice f1 f2 f3,.slice s1 s2 s3,.slice none 0 0,I 0,.slice none 0 0,I 0,I 0,Zt (.pointer (some ⟨go',0,none⟩))]:=rQ;have dk:=e2.trans e3;have bV:=dk.trans e4;have rm:=wg.ext e4;have Cj:WB h1 h4 (.pointer (some ⟨go',0,none⟩)) [.slice none 0 0]:=DL.ext e4;have I1:=(OwnR.ext oS e4).base e2.n;have E4:=E3.ext e4;have jb:=E4.sf;have uJ:=rQ.since dk;have uo:WU (.pointer (some ⟨gu,0,none⟩)) (.pointer (some ⟨go',0,none⟩)):=VG rQ.since' DL.within;have uS:WU (.pointer (some ⟨gu,0,none⟩)) (.slice s1 s2 s3):=VG rQ.since' oS.within;have Mb:WU (.pointer (some ⟨go',0,none⟩)) (.slice s1 s2 s3):=(VG (zLc oS) wN.within).symm;have I2:∀ g,Bm (.pointer (some ⟨go',0,none⟩))=some g->g<h4.n:=Cj.within;have uK:∀ g,Bm (.pointer (some ⟨gu,0,none⟩))=some g->g<h4.n:=rQ.within;have IT:∀ g,Bm (.slice s1 s2 s3)=some g->g<h4.n:=I1.within;have Mc:FR h1 h4 h4 (.slice t1 t2 t3) (.slice f1 f2 f3) (.pointer (some ⟨gu,0,none⟩)) (.pointer (some ⟨go',0,none⟩)) (.slice s1 s2 s3) (.slice none 0 0) F T 0:=⟨bV,zC6 (Ext.refl _),by simpa using uJ,.inl ⟨rfl,rfl⟩⟩;have bU:h1.mark<=h1.n:=E1.hm;clear SO SP SQ SR go2 SU;refine go ?_;refine VD (fun i=>F.length-i) (fun i t h5=>zC t 31=I i/\i<=F.length/\∃ vR,(∃ a n c,vR=.slice a n c)/\FR h1 h4 h5 (.slice t1 t2 t3) (.slice f1 f2 f3) (.pointer (some ⟨gu,0,none⟩)) (.pointer (some ⟨go',0,none⟩)) (.slice s1 s2 s3) vR F T i) 0 ?_ ?_
 ·exact⟨WH,QK _,_,⟨_,_,_,rfl⟩,Mc⟩
 rintro i t h5 ab ⟨s31,hi,vR,⟨r1,r2,r3,rfl⟩,R5⟩;have Me:=o1.ext R5.e;have SV:=R5.ou;refine go ?_;refine VE (fun hb=> ?_) (fun hb=> ?_)<;>simp only[DB]at hb
 ·have ae:i<F.length:=by omega
  have E5:=E1.ext R5.e;have hR:=zKW h5 _ _ T F i E5.tt E5.hm E5.sm E5.st E5.sf;rw[zOe hp ae]at hR;have aX:=zNq (l:=zz T F) (i:=i) (by omega);have I3:(zz T F).getD i 0=((T.getD (F.getD i default).sig.toNat default).parts.length:Int)+zJ (F.getD i default).blocks:=by
   unfold zz;rw[YJ ae]
  have jW:=wO _ (zM (l:=zz T F) (i:=i) (by omega));have kg:=zAK (l:=(zz T F).take i) fun x hx=>wO x (Q5 hx);have Fx:((zz T F).take i).length<=8:=by rw[Qn];omega
  have lS:((List.range (i+1)).map fun i=>((zz T F).take i).sum)=((List.range i).map fun i=>((zz T F).take i).sum)++[((zz T F).take i).sum]:=by rw[G3,Qx];rfl
  have SW:((List.range i).map fun i=>((zz T F).take i).sum).length<=8:=by simp;omega
  have R5R:=R5.oR;rw[<-I3]at hR;generalize(zz T F).getD i 0=m at *;refine go ?_;refine VA hR ?_;rintro _ h6 ⟨rfl,e6⟩;have I4:=R5.ou.ext e6;have Mf:=OwnR.ext R5.oR e6;have u6:=zCV R5.u (zC6 e6);have gG:=R5.e.trans e6;refine go ?_;refine XB (fun k=>h4.n<=k) 1 rfl rfl ?_;have oY:WB h1 (inC (zB 1 h6)) (.pointer (some ⟨gu,0,none⟩)) [.slice t1 t2 t3,.slice f1 f2 f3,.slice s1 s2 s3,.slice r1 r2 r3,I ((zz T F).take i).sum,.slice none 0 0,I 0,I 0,Zt (.pointer (some ⟨go',0,none⟩))]:=z0 1 (I4);have I5:h6.mark<=h1.n:=by rw[gG.mark];exact bU
  refine goW ?_;refine UW (hS:=h6) ((zz T F).take i).sum (fun _=>False) Mf (QP I5 bV.n) u6.1 (by decide) (by omega) zMh (fun _ h=>h.elim) (fun _ _ _ _ h=>h) (fun _ h=>h) ?_;intro X v' lit nX kX Mg sX wX;obtain⟨w1,w2,w3,rfl⟩:∃ a n c,v'=.slice a n c:=by
   rcases Mg with⟨rfl,_⟩|⟨_,_,_,_,_,rfl,_⟩
   ·exact⟨_,_,_,rfl⟩
   ·exact⟨_,_,_,rfl⟩
  have wR:∀ k,k<h4.n->∀ n k',(Value.slice r1 r2 r3)≠ .slice (some ⟨k,0,none⟩) n k':=fun k hk n k' e=>by
   have:=(yu Mf k (by rw[e];rfl)).1;omega
  have oX:WB h1 (inC X) (.pointer (some ⟨gu,0,none⟩)) [.slice t1 t2 t3,.slice f1 f2 f3,.slice s1 s2 s3,.slice r1 r2 r3,I ((zz T F).take i).sum,.slice none 0 0,I 0,I 0,Zt (.pointer (some ⟨go',0,none⟩))]:=by
   obtain⟨q,q1,q2,q3,q4⟩:=I4;refine⟨q,q1,by show q<X.n;omega,q3,(kX q q2 (wR q ?_)).trans q4⟩;exact uK q (by rw[q3];rfl)
  refine goW ?_;refine zRC (fun hh=> ?_) ?_ ?_
  ·have:=uK gu rfl;have hh:h4.n<=gu:=hh;omega
  ·have:=uK gu rfl;have:=u6.1;show gu<h6.n+1;omega
  refine UE ?_;have SX:WB h1 X (.pointer (some ⟨gu,0,none⟩)) [.slice t1 t2 t3,.slice f1 f2 f3,.slice s1 s2 s3,.slice r1 r2 r3,I ((zz T F).take i).sum,.slice none 0 0,I 0,I 0,Zt (.pointer (some ⟨go',0,none⟩))]:=oX;refine WJ ?_;refine XJ (hB:=h1) (j:=3) (cs:=[.slice w1 w2 w3]) (hl:=by simp) SX I5 ?_;intro X1 n1 wP DM SY Sx;replace DM:WB h1 X1 (.pointer (some ⟨gu,0,none⟩)) [.slice t1 t2 t3,.slice f1 f2 f3,.slice s1 s2 s3,.slice w1 w2 w3,I ((zz T F).take i).sum,.slice none 0 0,I 0,I 0,Zt (.pointer (some ⟨go',0,none⟩))]:=DM;have Sy:WB h1 (inC X1) (.pointer (some ⟨gu,0,none⟩)) [.slice t1 t2 t3,.slice f1 f2 f3,.slice s1 s2 s3,.slice w1 w2 w3,I ((zz T F).take i).sum,.slice none 0 0,I 0,I 0,Zt (.pointer (some ⟨go',0,none⟩))]:=DM;refine WJ ?_;refine XK (hB:=h1) (j:=4) (cs:=[I (((zz T F).take i).sum+m)]) (hl:=by simp) DM I5 ?_;intro H n2 wQ SZ EJ m2 vN;refine go ?_;have S0:∀ k,k<h6.n->Value.pointer (some ⟨gu,0,none⟩)≠ .pointer (some ⟨k,0,none⟩)->(∀ n k',(Value.slice r1 r2 r3)≠ .slice (some ⟨k,0,none⟩) n k')->H.get k=h6.get k:=fun k hk aq hv=>by
   rw[wQ k aq,wP k aq];exact kX k hk hv
  have uH:Wm (.pointer (some ⟨gu,0,none⟩)) h4 H:=⟨by have:=u6.1;omega,fun k hk aq=>(S0 k (QI hk u6.1) aq (wR k hk)).trans (u6.2 k hk aq)⟩;have S1:h1.n<=gu:=by
   obtain⟨q,q1,_,q3,_⟩:=uJ;cases q3;exact q1
  have eH:Ext h1 H:=⟨QP bV.n uH.1,fun k hk=>(uH.2 k (QI hk bV.n) fun e=>by cases e;omega).trans (bV.get k hk),fun w=>EJ (SY (wX (gG.wf w))),m2.trans gG.mark,fun hm=>vN.trans (gG.wr hm)⟩;refine zA (i+1) (by omega) ⟨Wn,by omega,_,⟨w1,w2,w3,rfl⟩,eH,uH,?_,?_⟩
  ·rw[aX];exact SZ
  ·rw[lS];refine OwnR.upd Mg (fun k k1 k2=> ?_) (by omega);have aq:Value.pointer (some ⟨gu,0,none⟩)≠ .pointer (some ⟨k,0,none⟩):=fun e=>by
    have:=uK k (by rw[e];rfl);omega
   rw[wQ k aq,wP k aq]
 ·have aK:i=F.length:=by omega
  subst aK;have L8:((zz T F).take F.length).sum=zy T F:=by rw[Q7 (by omega)];rfl
  have S2:WL h1 h5 (.slice r1 r2 r3) (Bw T F):=zCc R5.oR bV.n;have uL:=R5.ou;rw[L8]at uL;have wR:∀ g,Bm (.slice r1 r2 r3)=some g->h4.n<=g/\g<h5.n:=yu R5.oR;have C:CE h1 h5.n (.slice t1 t2 t3) (.slice f1 f2 f3) (.pointer (some ⟨gu,0,none⟩)) (.pointer (some ⟨go',0,none⟩)) (.slice s1 s2 s3) (.slice r1 r2 r3) T F:=⟨E1,hs,bU,R5.e.n,fun g hg=>QI (uK g hg) R5.u.1,fun g hg=>QI (I2 g hg) R5.u.1,fun g hg=>QI (IT g hg) R5.u.1,fun g hg=>(wR g hg).2,uo,uS,
   fun g h1 h2=>by have:=uK g h1;have:=(wR g h2).1;omega,Mb,fun g h1 h2=>by have:=I2 g h1;have:=(wR g h2).1;omega⟩
  have M5:CM h1 h5 h5.n (.slice t1 t2 t3) (.slice f1 f2 f3) (.pointer (some ⟨gu,0,none⟩)) (.pointer (some ⟨go',0,none⟩)) (.slice s1 s2 s3) (.slice r1 r2 r3) T F (.slice none 0 0) (.slice none 0 0) [] 0 0 []:=⟨R5.e,QE _,uL,Y4 Cj R5.u uo,I1.upB zFG R5.u.upB uS,S2,.inl ⟨rfl,rfl⟩,.inl ⟨rfl,rfl⟩,fun g hg=>(by cases hg),fun g hg=>(by cases hg)⟩;have S3:=o1.ext R5.e;have tf:=Wo.ext E1.sf R5.e;have rR:=zFI hs;have uM:=zDI hs;clear Mc I2 uK IT Mb uo uS I1 Cj rQ uJ DL oS wN SV uL Me;have a7:zBJ T F=YH T F F.length:=by unfold zBJ;rw[QF hs]
  rw[a7];replace rR:=WK.mk rR;replace uM:=WK.mk uM;refine go ?_;refine VD (fun i=>F.length-i) (fun i t h6=>zC t 66=I i/\i<=F.length/\∃ vK vO ks f r,CM h1 h6 h5.n (.slice t1 t2 t3) (.slice f1 f2 f3) (.pointer (some ⟨gu,0,none⟩)) (.pointer (some ⟨go',0,none⟩)) (.slice s1 s2 s3) (.slice r1 r2 r3) T F vK vO ks f r (YH T F i)) 0 ?_ ?_
  ·exact⟨WH,QK _,_,_,_,_,_,M5⟩
  rintro i t h6 aZ ⟨s66,hi,vK,vO,ks,f,r,M6⟩;have o16:=o1.ext M6.e;have I4:=M6.ou;have pD:=Wo.ext E1.sf M6.e;refine go ?_;refine VE (fun hb=> ?_) (fun hb=> ?_)<;>simp only[DB]at hb
  ·have ae:i<F.length:=by omega
   have Z:=zBL hp (f:=(i:Int)) (by omega);have I6:=rR.out i (by omega);have jn:=uM.out i ae;have bP:YH T F (i+1)=YH T F i++consB T F i (zF F i) (zF F i).length:=ZI _ i;have dC:=Z.sig;have ew:=Z.par4;have uI:=Z.many;have tw:=Z.od;have jA:=Z.el;have pW:(Zb T F i).length<=1000:=by rw[zER];have:=Z.reg;unfold B1 at this;omega
   have mV:=fun {b:Nat} (hb:b<(zF F i).length) {q:Nat} (hq:q<((zF F i).getD b default).ins.length)=>zNY hs ae hb hq;have gW:=fun b=>zBm (zF F i) b;have a9:=fun {b:Nat} (hb:b<(zF F i).length) {q:Nat} (hq:q<((zF F i).getD b default).ins.length) (r:Int)=>zGo hs ae hb hq r;have jo:∀ b,consB T F i (zF F i) (b+1)=consB T F i (zF F i) b++(zEz T F i ((zj T F i).parts.length+zJ ((zF F i).take b)) ((zF F i).getD b default).ins++zHz T F i ((zF F i).getD b default)):=fun b=>ZI _ b;have uN:∀ B,zHz T F i B=if B.fin.kind=3 then(if W9 T (zj T F i).elem then[]else[⟨2,zy T F+i,We T F i B.fin.a,0,[]⟩])else[]:=fun B=>rfl;have bN:∀ b,b<(zF F i).length->((zF F i).getD b default).fin.kind=3->0<=((zF F i).getD b default).fin.a/\((zF F i).getD b default).fin.a<=1000:=fun b hb hk=>by
    have h1:=(Z.U _ (zE hb)).ends ((zF F i).getD b default).fin.a (by unfold yI;rw[QF (.inr hk)];simp);have h2:=Z.reg;unfold B1 at h2;omega
   rw[QL]at dC;have hL:zF F i=(F.getD i default).blocks:=by unfold zF;rw[QL]
   have hP:zj T F i=T.getD (F.getD i default).sig.toNat default:=by unfold zj;rw[QL]
   obtain⟨iX,⟨vb,rfl,sb,cD⟩,fb,iB⟩:=zP (i:=i) E1.sf ae;obtain⟨kQ,⟨va,rfl,sa,br⟩,dR,mh⟩:=zP (i:=(F.getD i default).sig.toNat) E1.st (by omega);rw[<-hL]at sb cD;rw[<-hP]at sa br dR;have jG:=E1.sm.blocks _ (zE ae);have dG:=E1.sm.ins _ (zE ae);rw[<-hL]at jG dG;generalize S4:zF F i=L at *;generalize I7:zj T F i=P0 at *;generalize(F.getD i default).sig=sg at *;obtain⟨b1,b2,b3,rfl⟩:=zD sb;obtain⟨a1,a2,a3,rfl⟩:=Wi.shape sa;obtain⟨k1,k2,k3,rfl⟩:=Wi.shape M6.oK.sl;clear Z hL hP;replace mV:=WK.mk @mV;replace a9:=WK.mk @a9;replace jo:=WK.mk jo;replace uN:=WK.mk uN;replace bN:=WK.mk bN;replace jn:=WK.mk jn;replace gW:=WK.mk gW;replace dG:=WK.mk dG;have S5:=(fb _ M6.e).1;refine go ?_;refine WO.al ?_;intro rK h7 e7 fg;refine go ?_;refine VH (cs:=[I sg,.slice b1 b2 b3]) fg e7 ?_;intro h8 e8 fg _;have M8:=M6.ext e8;have d1:WU (.pointer (some ⟨gu,0,none⟩)) rK:=(VG fg.since' M6.ou.within).symm;have d2:WU (.pointer (some ⟨go',0,none⟩)) rK:=(VG fg.since' M6.oo.within).symm;have d3:WU vO rK:=(VG fg.since' fun g hg=>(yu M6.oO g hg).2).symm;refine go ?_;refine VA (zOj C M8 i ae) ?_;rintro _ h9 ⟨qx,M9,u9⟩;have fg:=Y4 fg u9 d1;have Dk:=o1.ext M9.e;have S6:=M9.ou;obtain⟨DN,DO,jm,rfl⟩:=Wi.shape M9.oK.sl;have I8:=(dR _ M9.e).1;have S7:=Wu.ext E1.st M9.e;have S8:=sa.ext M9.e;have Lk:=Wv.ext sb M9.e;refine go ?_;refine VX (j:=7) (cs:=[I P0.parts.length]) (hl:=by simp) S6 M9.e ?_;intro gH dI Ck C5;have Mh:=M9.setR C C5 dI Ck;have fg:=Y4 fg C5 d1;have S9:=Wv.ext sb Mh.e;clear Ck C5 I8 S8 Lk S7;refine go ?_;refine VD (fun b=>L.length-b) (fun b t dB=>zC t 88=I b/\b<=L.length/\∃ bE,CM h1 dB h5.n (.slice t1 t2 t3) (.slice f1 f2 f3) (.pointer (some ⟨gu,0,none⟩)) (.pointer (some ⟨go',0,none⟩)) (.slice s1 s2 s3) (.slice r1 r2 r3) T F (.slice DN DO jm) bE (Zb T F i) i (P0.parts.length+zJ (L.take b)) (YH T F i++consB T F i L b)/\WB h6 dB rK [I sg,.slice b1 b2 b3]/\WU bE rK) 0 ?_ ?_
   ·refine⟨WH,QK _,vO,?_,fg,d3⟩;have h0:zJ (L.take 0)=0:=by simp[zJ]
    have h1:consB T F i L 0=[]:=by simp[consB]
    rw[h0,h1,GY,Int.add_zero];exact Mh
   rintro b t dB cN ⟨s88,aC,bE,uO,I9,Ta⟩;have Tb:=Wv.ext sb uO.e;refine go ?_;refine VE (fun cY=> ?_) (fun cY=> ?_)<;>simp only[DB]at cY
   ·have aI:b<L.length:=by omega
    obtain⟨pE,⟨vi,rfl,si,fc⟩,kR,mo⟩:=zP (i:=b) sb aI;have Mi:=(kR _ uO.e).1;have Ja:=gW.out b;have Jb:=gW.out (b+1);have bU:zJ (L.take (b+1))=zJ (L.take b)+((L.getD b default).ins.length:Int):=by rw[ZP aI];unfold zJ;simp
    have bp:=jo.out b;have tl:=jn.out b (by omega);have jq:=fun {q:Nat} (hq:q<(L.getD b default).ins.length)=>mV.out aI hq;have ed:=fun {q:Nat} (hq:q<(L.getD b default).ins.length) (r:Int)=>a9.out aI hq r;have nb:=bN.out b aI;have Jc:=dG.out _ (zE aI);rw[uN.out]at bp;unfold zEz at bp;generalize L.getD b default=B at *;obtain⟨i1,i2,i3,rfl⟩:=zD si;have jH:∀ q,q<=B.ins.length->((List.range q).flatMap fun(j:Nat)=>yl T F i (Zb T F i) (P0.parts.length+zJ (L.take b)+j) (B.ins.getD j default)).length<=41*q:=fun q hq=>zA5 _ 41 q fun j hj=>ed (by omega) _;replace jq:=WK.mk @jq;replace ed:=WK.mk @ed;replace jH:=WK.mk jH;refine go ?_;refine WO.al ?_;intro pQ C6 dk dH;refine go ?_;refine VH (cs:=[.slice i1 i2 i3,.int .u8 B.fin.kind,I B.fin.a,I B.fin.to,I B.fin.aE]) dH dk ?_;intro kV Cm dH _;have Mj:=uO.ext Cm;have Jd:=I9.ext Cm;have q1:WU (.pointer (some ⟨gu,0,none⟩)) pQ:=(VG dH.since' uO.ou.within).symm;have q2:WU (.pointer (some ⟨go',0,none⟩)) pQ:=(VG dH.since' uO.oo.within).symm;have q3:WU bE pQ:=(VG dH.since' fun g hg=>(yu uO.oO g hg).2).symm;have Tc:=BB.ext si Mj.e;refine go ?_;refine VD (fun q=>B.ins.length-q) (fun q t pX=>zC t 95=I q/\q<=B.ins.length/\∃ iG,CM h1 pX h5.n (.slice t1 t2 t3) (.slice f1 f2 f3) (.pointer (some ⟨gu,0,none⟩)) (.pointer (some ⟨go',0,none⟩)) (.slice s1 s2 s3) (.slice r1 r2 r3) T F (.slice DN DO jm) iG (Zb T F i) i (P0.parts.length+zJ (L.take b)+q) (YH T F i++consB T F i L b++(List.range q).flatMap fun(j:Nat)=>yl T F i (Zb T F i) (P0.parts.length+zJ (L.take b)+j) (B.ins.getD j default))/\WB h6 pX rK [I sg,.slice b1 b2 b3]/\WU iG rK/\WB dB pX pQ [.slice i1 i2 i3,.int .u8 B.fin.kind,I B.fin.a,I B.fin.to,I B.fin.aE]/\WU iG pQ) 0 ?_ ?_
    ·refine⟨WH,QK _,bE,?_,Jd,Ta,dH,q3⟩;rw[show((0:Nat):Int)=0 from rfl,Int.add_zero];simpa using Mj
    rintro q t' pX mC ⟨s95,hq,iG,kn,qy,qz,Cn,Je⟩;have Td:=BB.ext si kn.e;have Jf:=jH.out q hq;have Te:(YH T F i++consB T F i L b++(List.range q).flatMap fun(j:Nat)=>yl T F i (Zb T F i) (P0.parts.length+zJ (L.take b)+j) (B.ins.getD j default)).length<=80000:=by
     rw[QM,QM];omega
    refine go ?_;refine VE (fun bM=> ?_) (fun bM=> ?_)<;>simp only[DB]at bM
    ·have cE:q<B.ins.length:=by omega
     have I0:=jq.out cE;obtain⟨wD,⟨xa,xf,rfl,cr,cz,vG,DF,ho⟩,fN,wE⟩:=zP (i:=q) si cE;have Mk:=(fN _ kn.e).1;have m9:=ZI (fun(j:Nat)=>yl T F i (Zb T F i) (P0.parts.length+zJ (L.take b)+j) (B.ins.getD j default)) q;generalize B.ins.getD q default=x at *;obtain⟨k7,k9,ld,rfl⟩:=Wi.shape cr;obtain⟨mJ,mK,mL,rfl⟩:=Wi.shape cz;refine go ?_;refine WO.al ?_;intro p14 tw Jg rm;refine go ?_;refine VH (cs:=[.int .u8 x.op,I x.ty,I x.a,I x.b,I x.n,.slice k7 k9 ld,.slice mJ mK mL]) rm Jg ?_;intro Hp et rm _;have Tf:=kn.ext et;have Jh:=qy.ext et;have Ji:=Cn.ext et;refine go ?_;refine VA (zPl C Tf ⟨by omega,by omega⟩ ⟨by omega,by omega⟩ (by omega) x _ _ _ _ cr I0 pW) ?_;rintro _ PD ⟨Tg,Jj,Dt⟩;obtain⟨uP,uQ⟩:=VR Jh Dt d2 qz;obtain⟨Jk,Jl⟩:=VR Ji Dt q2 Je;have Jm:=Jj.ou;refine go ?_;refine VX (j:=7) (cs:=[I (P0.parts.length+zJ (L.take b)+q+1)]) (hl:=by simp) Jm Jj.e ?_;intro Lo ib Jn DI;have Th:=Jj.setR C DI ib Jn;refine go ?_;refine zA (q+1) (by omega) ⟨Wn,by omega,Tg,?_,Y4 uP DI d1,uQ,Y4 Jk DI q1,Jl⟩;rw[show(P0.parts.length:Int)+zJ (L.take b)+((q+1:Nat):Int)=P0.parts.length+zJ (L.take b)+q+1 by omega,m9,<-QT];exact Th
    ·have iW:q=B.ins.length:=by omega
     subst iW;have Ti:=kn.ou;have Tj:=o1.ext kn.e;by_cases cg:B.fin.kind=3;case neg=>
      rw[QC cg,GY]at bp;refine go ?_;refine zA (b+1) (by omega) ⟨Wn,by omega,iG,?_,qy,qz⟩;rw[bU,<-Int.add_assoc,bp,<-QT];exact kn
     rw[QF cg]at bp;have ng:=nb cg;have uT:0<=P0.elem/\P0.elem<(T.length:Int):=by unfold PlT at jA;omega
     have Jo:=Wu.ext E1.st kn.e;have Ml:=(dR _ kn.e).1;refine go ?_;refine VA (Yk kn.ou Jo P0.elem uT) ?_;rintro _ _ ⟨rfl,rfl⟩;cases bD:W9 T P0.elem with
     |true=>
      rw[bD,QF rfl,GY]at bp;refine go ?_;refine zA (b+1) (by omega) ⟨Wn,by omega,iG,?_,qy,qz⟩;rw[bU,<-Int.add_assoc,bp,<-QT];exact kn
     |false=>
      rw[bD,QC Bool.false_ne_true,<-QT]at bp;have hAb:=(zE7 hs (f:=(i:Int)) ⟨by omega,by omega⟩).2.2.2.2;refine go ?_;refine VC 1 rfl rfl ?_;have oY:WB h1 (inC (zB 1 pX)) (.pointer (some ⟨gu,0,none⟩)) [.slice t1 t2 t3,.slice f1 f2 f3,.slice s1 s2 s3,.slice r1 r2 r3,I (zy T F),.slice DN DO jm,I i,I (P0.parts.length+zJ (L.take b)+B.ins.length),Zt (.pointer (some ⟨go',0,none⟩))]:=z0 1 (kn.ou);have sY:WQ (inC (zB 1 pX)) (.slice r1 r2 r3) (Bw T F):=Z6 1 (kn.oR.sl);have Tk:WB dB (inC (zB 1 pX)) pQ [.slice i1 i2 i3,.int .u8 B.fin.kind,I B.fin.a,I B.fin.to,I B.fin.aE]:=z0 1 (Cn);refine WJ ?_;refine VA (ZQ oY sY C.hs ⟨by omega,by omega⟩ B.fin.a ng) ?_;rintro _ _ ⟨rfl,rfl⟩;refine WO.nil (Zd zw ?_);refine WJ ?_;refine Wb.add (X:=inC (zB 1 _)) (⟨2,zy T F+i,We T F i B.fin.a,0,[]⟩:Wh) (fun _=>False) C kn (Ext.refl _) (by omega) ye (fun _ h=>h.elim) ?_;intro H Tl II tB MH kH;obtain⟨uP,uQ⟩:=VR qy kH d2 qz;refine go ?_;refine zA (b+1) (by omega) ⟨Wn,by omega,Tl,?_,uP,uQ⟩;rw[bU,<-Int.add_assoc,bp,<-QT,<-QT];exact MH
   ·have uU:b=L.length:=by omega
    subst uU;refine go ?_;refine zA (i+1) (by omega) ⟨Wn,by omega,.slice DN DO jm,bE,Zb T F i,i,P0.parts.length+zJ (L.take L.length),?_⟩;rw[bP];exact uO
  ·have aK:i=F.length:=by omega
   subst aK;have Tm:=M6.oo;have hlen:=rR.out F.length (QE _);obtain⟨v1,v2,v3,rfl⟩:∃ a n k,vO=.slice a n k:=by
    rcases M6.oO with⟨rfl,_⟩|⟨g,_,_,_,_,rfl,_⟩
    ·exact⟨_,_,_,rfl⟩
    ·exact⟨_,_,_,rfl⟩
   refine go ?_;refine VH Tm M6.e ?_;intro h7 e7 o7 u7;refine go ?_;refine rt ?_ (Ve WH o7 rfl (BQ.cons WH BQ.nil));refine⟨⟨_,rfl,?_,by omega⟩,e1.trans e7⟩;refine(M6.oO.upd (fun k k1 k2=>u7.2 k k2 fun e=> ?_) u7.1).base (QP e1.n R5.e.n);have:=C.bo k (by rw[e];rfl);omega
end
def Zx(f r:Int):List W2->Nat
 |[]=>0
 |s::S=>if s.fn=f/\s.nr=r then 0 else Zx f r S+1
theorem zPt{f r:Int}:∀ {S:List W2} {k:Nat},k<S.length->((S.getD k default).fn=f/\(S.getD k default).nr=r)->(∀ j,j<k->¬((S.getD j default).fn=f/\(S.getD j default).nr=r))->Zx f r S=k
 |[],_,h,_,_=>by simp at h
 |s::S,0,_,h,_=>by unfold Zx;rw[QF (by simpa using h)]
 |s::S,k+1,hk,h,h2=>by
  unfold Zx;rw[QC (by have:=h2 0 (Nat.succ_pos _);simpa using this),zPt (S:=S) (k:=k) (by simpa using hk) (by simpa using h) (fun j hj=>by have:=h2 (j+1) (by omega);simpa using this)]
theorem zNX{f r:Int}:∀ {S:List W2},(∃ s∈S,s.fn=f/\s.nr=r)->Zx f r S<S.length
 |[],h=>by obtain⟨s,hs,_⟩:=h;cases hs
 |s::S,h=>by
  unfold Zx;split
  ·simp
  ·rename_i hn;have:∃ s∈S,s.fn=f/\s.nr=r:=by
    obtain⟨q,hq,h1⟩:=h;rcases GG.1 hq with rfl|hq
    ·exact absurd h1 hn
    ·exact⟨q,hq,h1⟩
   have:=zNX this;simp;omega
theorem zKc{T:List WE}{f r:Int}:∀ {S:List W2} {a:Int} {l:List Int},(∃ s∈S,s.fn=f/\s.nr=r)->
  YV T f r S a l=(a+l.length+((S.take (Zx f r S)).map fun s=>((yG T s.ty.toNat).length:Int)).sum,yG T (S.getD (Zx f r S) default).ty.toNat)
 |[],_,_,h=>by obtain⟨s,hs,_⟩:=h;cases hs
 |s::S,a,l,h=>by
  unfold YV Zx;by_cases hn:s.fn=f/\s.nr=r
  ·rw[QF hn,QF hn];simp
  ·rw[QC hn,QC hn];have:∃ s∈S,s.fn=f/\s.nr=r:=by
    obtain⟨q,hq,h1⟩:=h;rcases GG.1 hq with rfl|hq
    ·exact absurd h1 hn
    ·exact⟨q,hq,h1⟩
   rw[zKc this];simp[Int.add_assoc]
theorem zID{T:List WE}{f:Int}:∀ {l:List Wj} {n:Int} {i:Nat},i<l.length->yz (l.getD i default)=true->∃ s∈ZC T f n l,s.fn=f/\s.nr=n+i
 |[],_,i,h,_=>by simp at h
 |x::l,n,0,_,h=>by
  have h:yz x=true:=h;unfold ZC;rw[QF h];exact⟨⟨f,n,(T.getD x.ty.toNat default).elem⟩,by simp,rfl,by simp⟩
 |x::l,n,i+1,hi,h=>by
  obtain⟨s,h1,h2,h3⟩:=zID (T:=T) (f:=f) (l:=l) (n:=n+1) (i:=i) (by simpa using hi) (by simpa using h);unfold ZC;exact⟨s,GT _ h1,h2,by rw[h3];push_cast;omega⟩
theorem zH0{T:List WE}{f:Int}:∀ {l:List Wc} {n:Int} {b i:Nat},b<l.length->i<(l.getD b default).ins.length->yz ((l.getD b default).ins.getD i default)=true->∃ s∈yq T f n l,s.fn=f/\s.nr=n+zJ (l.take b)+i
 |[],_,b,_,h,_,_=>by simp at h
 |x::l,n,0,i,_,hi,h=>by
  obtain⟨s,h1,h2,h3⟩:=zID (T:=T) (f:=f) (l:=x.ins) (n:=n) (i:=i) hi h;unfold yq;exact⟨s,GX _ h1,h2,by rw[h3];simp[zJ]⟩
 |x::l,n,b+1,i,hb,hi,h=>by
  obtain⟨s,h1,h2,h3⟩:=zH0 (T:=T) (f:=f) (l:=l) (n:=n+x.ins.length) (b:=b) (i:=i) (by simpa using hb) (by simpa using hi) (by simpa using h);unfold yq;exact⟨s,GT _ h1,h2,by rw[h3,Qo,Zj];omega⟩
theorem zHt{T:List WE}:∀ {l:List Wa} {n:Int} {f b i:Nat},f<l.length->b<(l.getD f default).blocks.length->i<((l.getD f default).blocks.getD b default).ins.length->yz (((l.getD f default).blocks.getD b default).ins.getD i default)=true->
  ∃ s∈y8 T n l,s.fn=n+f/\s.nr=((T.getD (l.getD f default).sig.toNat default).parts.length:Int)+zJ ((l.getD f default).blocks.take b)+i
 |[],_,f,_,_,h,_,_,_=>by simp at h
 |x::l,n,0,b,i,_,hb,hi,h=>by
  obtain⟨s,h1,h2,h3⟩:=zH0 (T:=T) (f:=n) (l:=x.blocks) (n:=((T.getD x.sig.toNat default).parts.length:Int)) (b:=b) (i:=i) hb hi h;unfold y8;exact⟨s,GX _ h1,by rw[h2];simp,h3⟩
 |x::l,n,f+1,b,i,hf,hb,hi,h=>by
  obtain⟨s,h1,h2,h3⟩:=zHt (T:=T) (l:=l) (n:=n+1) (f:=f) (b:=b) (i:=i) (by simpa using hf) (by simpa using hb) (by simpa using hi) (by simpa using h);unfold y8;exact⟨s,GT _ h1,by rw[h2];push_cast;omega,h3⟩
theorem zOX{T:List WE}{F:List Wa}{f b i:Nat}(hf:f<F.length)(hb:b<(zF F f).length)(hi:i<((zF F f).getD b default).ins.length)(h:yz (((zF F f).getD b default).ins.getD i default)=true):
  ∃ s∈zR T F,s.fn=(f:Int)/\s.nr=((zj T F f).parts.length:Int)+zJ ((zF F f).take b)+i:=by
 unfold zF at hb hi h;simp only[QL]at hb hi h;obtain⟨s,h1,h2,h3⟩:=zHt (T:=T) (l:=F) (n:=0) hf hb hi h;refine⟨s,h1,by rw[h2];omega,?_⟩;unfold zj zF;simp only[QL];exact h3
end Go.Proofs.YtmejfcakhpihlaaGreatDoor
