/- Walks of functions, plain laws; proves no statement. -/
import Derived.Test.YtmejfcakhpihlaaGreatDoorJm
set_option linter.unusedVariables false
set_option linter.unusedSimpArgs false
set_option maxHeartbeats 2000000
namespace Go.Proofs.YtmejfcakhpihlaaGreatDoor
noncomputable section
open Go.Am
set_option maxRecDepth 100000
theorem zTN{h:U2}{v:Value}{l:List WP}(k:Nat)(s:Wr h v l):Wr (inC (zC k h)) v l:=by
 have:=Wr.ext s (za k h);exact this
theorem zT2{X:U2}{n:Int}{D:Nat->Prop}:Bm RI X [I n] n D:=fun _ _ _=>rfl
theorem zRs(T:List U5)(F:List WP)(f:Int)(ks:List Int)(r:Int)(x:Wg)(h1:x.args.length<=20)(h2:(YL T f r (zn T F) 0 []).2.length<=40)(h3:x.op=18->(z8 T F x.n).parts.length<=20):(Z0 T F f ks r x).length<=41:=by
 unfold Z0;split
 ·simp
 split
 ·unfold zGJ zKj;rw[GT];have:=YV (fun i=>if W2 T ((YL T f r (zn T F) 0 []).2.getD i 0)then[]else[⟨1,zl T F+F.length+(YL T f r (zn T F) 0 []).1+i,0,0,[]⟩]) (fun i=>zAD _ _) (YL T f r (zn T F) 0 []).2.length;omega
 split
 ·simp
 split
 ·have:=zAD (W2 T x.ty) ⟨4,WZ T F f r,WZ T F f x.a,0,[]⟩;omega
 split
 ·have:=zAD (W2 T (ks.getD x.b.toNat 0)) ⟨5,WZ T F f x.a,WZ T F f x.b,0,[]⟩;omega
 split
 ·rename_i h;rw[QM];have:=zAD (W2 T x.ty) ⟨2,WZ T F f r,zl T F+x.n,0,[]⟩;have h4:=h3 h;have:=YV (fun i=>if W2 T ((z8 T F x.n).parts.getD i 0)then[]else[⟨2,WZ T F x.n i,WZ T F f (x.args.getD i 0),0,[]⟩]) (fun i=>zAD _ _) (z8 T F x.n).parts.length;unfold zFV;omega
 split
 ·simp
 split
 ·split
  ·simp
  ·unfold zNO;have:=YV (fun(i:Nat)=>[⟨2,WZ T F f r,WZ T F f (x.args.getD i 0),0,[]⟩]) (fun i=>by simp) x.args.length;omega
 ·simp
theorem zVk{hB h:U2}{v:Value}{l:List Int}(o:WJ hB h v l):WR 1 RI hB.n h v l:=by
 rcases o with⟨rfl,rfl⟩|⟨g,g1,g2,rfl,g4⟩
 ·exact .inl ⟨rfl,rfl⟩
 ·refine .inr ⟨g,l.map I,fun _=>False,g1,g2,rfl,g4,by simp,fun h=>h,fun k hk=>hk.elim,fun i a ha=>fun _ _ _=> ?_⟩;obtain⟨hi,rfl⟩:=QQ.1 ha;unfold RI;rw[G4];apply List.ext_getElem
  ·simp;omega
  ·intro j h1 h2;simp at h2;subst h2;simp
theorem zNN{hB h h':U2}{p:Value}{cs:List Value}(e:U8 hB h)(o:U6 hB h p cs)(u:Wc p h h')(wf:Wf h->Wf h')(hm:h'.mark=h.mark)(hw:h'.wr=h.wr):U8 hB h':=by
 obtain⟨g,g1,g2,rfl,g3⟩:=o;exact⟨QO e.n u.1,fun k hk=>(u.2 k (QG hk e.n) fun e=>by cases e;omega).trans (e.get k hk),fun w=>wf (e.wf w),hm.trans e.mark,fun h=>hw.trans (e.wr h)⟩
theorem Yz{h0 h h':U2}{p q:Value}{cs:List Value}(o:U6 h0 h q cs)(u:Wc p h h')(d:WK p q):U6 h0 h' q cs:=by
 obtain⟨g,g1,g2,rfl,g3⟩:=o;exact⟨g,g1,QG g2 u.1,rfl,(u.2 g g2 fun e=>d g (by rw[e];rfl) rfl).trans g3⟩
theorem zB3{p:Value}{h h1 h2:U2}(a:Wc p h h1)(b:Wc p h1 h2):Wc p h h2:=⟨QO a.1 b.1,fun g hg hp=>(b.2 g (QG hg a.1) hp).trans (a.2 g hg hp)⟩
theorem zCR{p:Value}{h h1:U2}(e:U8 h h1):Wc p h h1:=⟨e.n,fun g hg _=>e.get g hg⟩
section
variable {hB h h':U2}{b:Nat}{vt vf pu po vS vR vK vK' vO:Value}{T:List U5}{F:List WP}{ks ks':List Int}{f r f' r':Int}{out:List Wh}
theorem CM.upU(M:CM hB h b vt vf pu po vS vR T F vK vO ks f r out)(C:CE hB b vt vf pu po vS vR T F)(u:Wc pu h h')(e:U8 hB h')(ou:U6 hB h' pu [vt,vf,vS,vR,I (zl T F),vK',I f',I r',Ze po])(oK:WJ hB h' vK' ks')(hk:∀ g,Bi vK'=some g->b<=g)(ko:WK vO vK'):
  CM hB h' b vt vf pu po vS vR T F vK' vO ks' f' r' out:=
 ⟨e,QO M.hb u.1,ou,Yz M.oo u C.uo,M.oS.upB Zt u.upB C.uS,M.oR.upB u.upB C.uR,oK,M.oO.upd (fun k k1 k2=>u.2 k k2 fun e=>by have:=C.bu k (by rw[e];rfl);omega) u.1,hk,ko⟩
theorem CM.setR(M:CM hB h b vt vf pu po vS vR T F vK vO ks f r out)(C:CE hB b vt vf pu po vS vR T F)(u:Wc pu h h')(e:U8 hB h')(ou:U6 hB h' pu [vt,vf,vS,vR,I (zl T F),vK,I f,I r',Ze po]):CM hB h' b vt vf pu po vS vR T F vK vO ks f r' out:=by
 refine M.upU C u e ou (M.oK.upB u.upB fun g h1 h2=> ?_) M.kb M.ko;have:=C.bu g h1;have:=M.kb g h2;omega
def zNm:U3:=(oV (oR [oB .lss 51 50 49]) (oV (oT 51 2) (oV (o5 3 (oV (oR [oI 7 52 48 50,oA 7 53 52,⟨some 7,none,(.alloc [(.int .u8 0),(.int .i64 0),(.int .i64 0),(.int .i64 0),(.int .i64 0),(.slice none 0 0),(.slice none 0 0)])⟩,oS 7 7 53]) (o6 [oM 54 0,oM 55 0,(⟨some 56,none,(.nilCheck (.tmp 55))⟩,[]),oF 5 57 56,oL 58 57,oF 1 59 7,oL 60 59,(⟨some 61,none,(.buildSlice 1 1 [(.int .i64 0)] [(0,1,(.tmp 60))])⟩,[]),oY 1 62 58 61,(⟨some 63,none,(.nilCheck (.tmp 54))⟩,[]),oF 5 64 63,oS 1 64 62]))) (oR [oC .add 65 50 1,oM 50 65]))))
def zPq:U3:=(oV (oR [oB .lss 44 43 42]) (oV (oT 44 0) (oV (o5 1 (oV (oR [oI 5 45 41 43,oA 5 46 45,⟨some 5,none,(.alloc [(.slice none 0 0),(.int .u8 0),(.int .i64 0),(.int .i64 0),(.int .i64 0)])⟩,oS 5 5 46]) (oV (oR [oF 0 47 5,oL 48 47,oQ 49 48,oN 50 0]) (o5 2 (.loop zNm))))) (oR [oC .add 66 43 1,oM 43 66]))))
def zTo:U3:=(oV (o6 [oM 8 0,oM 9 0,oM 10 1,oM 11 0,(⟨some 12,none,(.nilCheck (.tmp 11))⟩,[]),oF 0 13 12,oF 0 14 13,oL 15 14,oM 16 0,(⟨some 17,none,(.nilCheck (.tmp 16))⟩,[]),oF 0 18 17,oF 1 19 18,oL 20 19,oM 21 1,oI 2 22 20 21,oF 0 23 22,oL 24 23,oI 4 25 15 24,oF 3 26 25,oL 27 26,o1 28 50 27,(⟨some 29,none,(.nilCheck (.tmp 8))⟩,[]),oF 6 30 29,oS 1 30 10,(⟨some 31,none,(.nilCheck (.tmp 9))⟩,[]),oF 5 32 31,oS 1 32 28]) (oV (oR [oM 33 0,⟨some 34,none,(.nilCheck (.tmp 33))⟩,oF 0 35 34,oF 1 36 35,oL 37 36,oM 38 1,oI 2 39 37 38,oF 1 40 39,oL 41 40,oQ 42 41,oN 43 0]) (o5 0 (.loop zPq))))
theorem zR6(C:CE hB b vt vf pu po vS vR T F)(M:CM hB h b vt vf pu po vS vR T F vK vO ks f r out)(g:Nat)(hg:g<F.length):
  WC Tryz.prog tb 27 [pu,I g] h fun _ h'=>∃ vK',CM hB h' b vt vf pu po vS vR T F vK' vO (YC T F g) g r out/\Wc pu h h':=by
 obtain⟨gu,_,_,rfl,_⟩:=id M.ou;obtain⟨s1,s2,s3,rfl⟩:=zF M.oS.sl;obtain⟨r1,r2,r3,rfl⟩:=Wb.shape M.oR.sl;obtain⟨k1,k2,k3,rfl⟩:=Wb.shape M.oK.sl;have E0:=C.E;obtain⟨t1,t2,t3,rfl⟩:=zF E0.st;obtain⟨f1,f2,f3,rfl⟩:=zF E0.sf;have hp:=(zk C.hs).1;have Z:=Bo hp (f:=(g:Int)) (by omega);have hsg:=Z.sig;have hpar:=Z.par4;have hmny:=Z.many;rw[QU]at hsg;have hraw:YC T F g=(T.getD (F.getD g default).sig.toNat default).parts++(F.getD g default).blocks.flatMap fun b=>b.ins.map fun x=>x.ty:=by
  unfold YC z8 zL;rw[QU]
 have hL:zL F g=(F.getD g default).blocks:=by unfold zL;rw[QU]
 have hP:z8 T F g=T.getD (F.getD g default).sig.toNat default:=by unfold z8;rw[QU]
 rw[hL]at hmny;rw[hP]at hpar;rw[hraw];have hbl:=E0.sm.blocks _ (zJ hg);have hil:=E0.sm.ins _ (zJ hg);obtain⟨csF,⟨vb,rfl,sb,hlb⟩,pcF,hsF⟩:=yA (i:=g) E0.sf hg;obtain⟨csT,⟨va,rfl,sa,hla⟩,pcT,hsT⟩:=yA (i:=(F.getD g default).sig.toNat) E0.st (by omega);generalize F.getD g default=G at *;clear hL hP hraw Z;generalize T.getD G.sig.toNat default=X0 at *;obtain⟨b1,b2,b3,rfl⟩:=zF sb;obtain⟨a1,a2,a3,rfl⟩:=Wb.shape sa;refine en 67 [] zTo ?_;refine VC 0 rfl rfl ?_;have oY:U6 hB (inC (zC 0 h)) (.pointer (some ⟨gu,0,none⟩)) [.slice t1 t2 t3,.slice f1 f2 f3,.slice s1 s2 s3,.slice r1 r2 r3,I (zl T F),.slice k1 k2 k3,I f,I r,Ze po]:=M.ou;have eY:=M.e.trans (za 0 h);have pcFY:=(pcF _ eY).2;have pcTY:=(pcT _ eY).2;have saY:WM (inC (zC 0 h)) (.slice a1 a2 a3) X0.parts:=YW 0 (sa.ext M.e);have stY:Wv (inC (zC 0 h)) (.slice t1 t2 t3) T:=zJy 0 (Wv.ext C.E.st M.e);have sfY:Wr (inC (zC 0 h)) (.slice f1 f2 f3) F:=zTN 0 (Wr.ext C.E.sf M.e);refine WT ?_;refine VA (zIC _ _ X0.parts saY (by omega)) ?_;rintro vK' X ⟨oK,eX⟩;refine nE eX ?_;have oZ:U6 hB X (.pointer (some ⟨gu,0,none⟩)) [.slice t1 t2 t3,.slice f1 f2 f3,.slice s1 s2 s3,.slice r1 r2 r3,I (zl T F),.slice k1 k2 k3,I f,I r,Ze po]:=oY.ext eX;have hmB:h.mark<=hB.n:=by rw[M.e.mark];exact C.hm
 have oZi:U6 hB (inC X) (.pointer (some ⟨gu,0,none⟩)) [.slice t1 t2 t3,.slice f1 f2 f3,.slice s1 s2 s3,.slice r1 r2 r3,I (zl T F),.slice k1 k2 k3,I f,I r,Ze po]:=oZ;obtain⟨c1,c2,c3,rfl⟩:=Wb.shape oK.sl;refine WT ?_;refine XE (hB:=hB) (j:=6) (cs:=[I g]) (hl:=by simp) oZ hmB ?_;intro X1 n1 kp1 o1 w1 cl1;replace o1:U6 hB X1 (.pointer (some ⟨gu,0,none⟩)) [.slice t1 t2 t3,.slice f1 f2 f3,.slice s1 s2 s3,.slice r1 r2 r3,I (zl T F),.slice k1 k2 k3,I g,I r,Ze po]:=o1;have o1i:U6 hB (inC X1) (.pointer (some ⟨gu,0,none⟩)) [.slice t1 t2 t3,.slice f1 f2 f3,.slice s1 s2 s3,.slice r1 r2 r3,I (zl T F),.slice k1 k2 k3,I g,I r,Ze po]:=o1;refine WT ?_;refine XG (hB:=hB) (j:=5) (cs:=[.slice c1 c2 c3]) (hl:=by simp) o1 hmB ?_;intro H n2 kp2 o2 w2 m2 wr2;replace o2:U6 hB H (.pointer (some ⟨gu,0,none⟩)) [.slice t1 t2 t3,.slice f1 f2 f3,.slice s1 s2 s3,.slice r1 r2 r3,I (zl T F),.slice c1 c2 c3,I g,I r,Ze po]:=o2;have hnX:h.n<=X.n:=eX.n;have uH:Wc (.pointer (some ⟨gu,0,none⟩)) h H:=⟨by omega,fun k hk hne=>by rw[kp2 k hne,kp1 k hne];exact eX.get k (by show k<h.n+0;omega)⟩;have eH:U8 hB H:=zNN M.e M.ou uH (fun w=>w2 (w1 (eX.wf (fun q hq=>w q (by have hq:h.n+0<=q:=hq;omega))))) m2 wr2;have hgu:gu<h.n:=M.ou.within _ rfl;have oKH:WJ h H (.slice c1 c2 c3) X0.parts:=by
  rcases oK with o|⟨q,q1,q2,q3,q4⟩
  ·exact .inl o
  ·have q1:h.n+0<=q:=q1;have hq:Value.pointer (some ⟨gu,0,none⟩)≠ .pointer (some ⟨q,0,none⟩):=fun e=>by cases e;omega
   exact .inr ⟨q,by omega,by omega,q3,by rw[kp2 q hq,kp1 q hq];exact q4⟩
 have oKR:=zVk oKH;clear kp1 kp2 w1 w2 o1 oZ oK eX oY;have sbH:=BF.ext sb eH;have sfH:=Wr.ext C.E.sf eH;have pcFH:=(pcF _ eH).1;have ugb:∀ q,Value.pointer (some ⟨gu,0,none⟩)=.pointer (some ⟨q,0,none⟩)->q<h.n:=fun q e=>by cases e;exact hgu
 refine go ?_;refine VD [44,45,46,5,47,48,49,50,51,52,53,7,54,55,56,57,58,59,60,61,62,63,64,65,50,66,43] (by kernel_rfl) (fun i=>G.blocks.length-i) (fun i t h3=>zB t 43=I i/\i<=G.blocks.length/\U8 hB h3/\Wc (.pointer (some ⟨gu,0,none⟩)) h h3/\∃ v,(∃ a n c,v=.slice a n c)/\U6 hB h3 (.pointer (some ⟨gu,0,none⟩)) [.slice t1 t2 t3,.slice f1 f2 f3,.slice s1 s2 s3,.slice r1 r2 r3,I (zl T F),v,I g,I r,Ze po]/\WR 1 RI h.n h3 v (X0.parts++(G.blocks.take i).flatMap fun b=>b.ins.map fun x=>x.ty)) 0 ?_ ?_
 ·exact⟨WA,QT _,eH,uH,_,⟨_,_,_,rfl⟩,o2,by simpa using oKR⟩
 rintro i t h3 hsame ⟨s43,hi,e3,u3,v,⟨v1,v2,v3,rfl⟩,o3,l3⟩;have sb3:=BF.ext sb e3;refine go ?_;refine VE (fun hc=> ?_) (fun hc=> ?_)<;>simp only[DB]at hc
 ·have hi':i<G.blocks.length:=by omega
  obtain⟨csB,⟨vi,rfl,si,hli⟩,pcB,hsB⟩:=yA (i:=i) sb hi';have pcB3:=(pcB _ e3).1;have hsn:((G.blocks.take (i+1)).flatMap fun b=>b.ins.map fun x=>x.ty)=((G.blocks.take i).flatMap fun b=>b.ins.map fun x=>x.ty)++(G.blocks.getD i default).ins.map fun x=>x.ty:=by
   rw[Zo hi',List.flatMap_append];simp
  have hlen:(((G.blocks.take i).flatMap fun b=>b.ins.map fun x=>x.ty).length:Int)+((G.blocks.getD i default).ins.length:Int)<=zI G.blocks:=by
   have h1:=zHW G.blocks (i+1);have h2:∀ L:List WW,(((L.flatMap fun b=>b.ins.map fun x=>x.ty).length:Nat):Int)=zI L:=fun L=>by
    induction L with
    |nil=>rfl
    |cons c L ih=>rw[List.flatMap_cons,QM,Qp,Zz,<-ih];omega
   have h3:=h2 (G.blocks.take (i+1));rw[hsn,QM,Qp]at h3;omega
  have hil':=hil _ (zJ hi');generalize(G.blocks.take i).flatMap (fun b=>b.ins.map fun x=>x.ty)=pre at *;generalize G.blocks.getD i default=B at *;obtain⟨i1,i2,i3,rfl⟩:=zF si;refine go ?_;refine WO.al ?_;intro p5 h4 e4 o5;refine go ?_;refine VG o5 e4 ?_;intro h5 e5 o5 _;have e35:=e3.trans e5;have o35:=o3.ext e5;have l35:=WR.ext l3 e5;have u35:=zB3 u3 (zCR e5);have si5:=BW.ext si e35;refine go ?_;refine VD [51,52,53,7,54,55,56,57,58,59,60,61,62,63,64,65,50] (by kernel_rfl) (fun q=>B.ins.length-q) (fun q t h6=>zB t 50=I q/\q<=B.ins.length/\U8 hB h6/\Wc (.pointer (some ⟨gu,0,none⟩)) h h6/\∃ v,(∃ a n c,v=.slice a n c)/\U6 hB h6 (.pointer (some ⟨gu,0,none⟩)) [.slice t1 t2 t3,.slice f1 f2 f3,.slice s1 s2 s3,.slice r1 r2 r3,I (zl T F),v,I g,I r,Ze po]/\WR 1 RI h.n h6 v (X0.parts++pre++(B.ins.take q).map fun x=>x.ty)) 0 ?_ ?_
  ·exact⟨WA,QT _,e35,u35,_,⟨_,_,_,rfl⟩,o35,by simpa using l35⟩
  rintro q t' h6 hsame' ⟨s50,hq,e6,u6,v,⟨v1,v2,v3,rfl⟩,o6,l6⟩;have si6:=BW.ext si e6;refine go ?_;refine VE (fun hc'=> ?_) (fun hc'=> ?_)<;>simp only[DB]at hc'
  ·have hq':q<B.ins.length:=by omega
   obtain⟨csX,⟨xa,xf,rfl,sxa,sxf,hxa,hxf,ho⟩,pcX,hsX⟩:=yA (i:=q) si hq';have pcX6:=(pcX _ e6).1;have hsnq:(B.ins.take (q+1)).map (fun x=>x.ty)=(B.ins.take q).map (fun x=>x.ty)++[(B.ins.getD q default).ty]:=by
    rw[Zo hq',GA];rfl
   have hlq:((B.ins.take q).map fun x=>x.ty).length<=q:=by rw[Qp];exact List.length_take_le _ _
   generalize B.ins.getD q default=x at *;obtain⟨xa1,xa2,xa3,rfl⟩:=Wb.shape sxa;obtain⟨xf1,xf2,xf3,rfl⟩:=Wb.shape sxf;refine go ?_;refine WO.al ?_;intro p7 h7 e7 o7;refine go ?_;refine VG (cs:=[.int .u8 x.op,I x.ty,I x.a,I x.b,I x.n,.slice xa1 xa2 xa3,.slice xf1 xf2 xf3]) o7 e7 ?_;intro h8 e8 o8 _;have e68:=e6.trans e8;have o68:=o6.ext e8;have l68:=WR.ext l6 e8;have u68:=zB3 u6 (zCR e8);refine go ?_;refine VC 1 rfl rfl ?_;have oY8:U6 hB (inC (zC 1 h8)) (.pointer (some ⟨gu,0,none⟩)) [.slice t1 t2 t3,.slice f1 f2 f3,.slice s1 s2 s3,.slice r1 r2 r3,I (zl T F),.slice v1 v2 v3,I g,I r,Ze po]:=yg 1 (o68);have o8Y:U6 h6 (inC (zC 1 h8)) p7 [.int .u8 x.op,I x.ty,I x.a,I x.b,I x.n,.slice xa1 xa2 xa3,.slice xf1 xf2 xf3]:=yg 1 (o8);refine WT ?_;refine V8 (X:=inC (zC 1 _)) (hB:=hB) (b:=h.n) (v:= .slice v1 v2 v3) x.ty (fun _=>False) (U8.refl _) l68 e68 (by rw[e68.mark];exact C.hm) (QO C.bn M.hb) u68.1 (by decide) (by simp only[QM]at *;omega) o68 ugb (fun _ _ _=>rfl) (fun _ h=>h.elim) (fun _ _ _ _ h=>h) id (by simp) rfl ?_;intro H' v' t'' hsame'' eH' oH' hone lH' sH' kH' nH';obtain⟨w1,w2,w3,rfl⟩:∃ a n c,v'=.slice a n c:=by
    rcases lH' with⟨rfl,_⟩|⟨_,_,_,_,_,rfl,_⟩
    ·exact⟨_,_,_,rfl⟩
    ·exact⟨_,_,_,rfl⟩
   replace oH':U6 hB H' (.pointer (some ⟨gu,0,none⟩)) [.slice t1 t2 t3,.slice f1 f2 f3,.slice s1 s2 s3,.slice r1 r2 r3,I (zl T F),.slice w1 w2 w3,I g,I r,Ze po]:=oH';have uH':Wc (.pointer (some ⟨gu,0,none⟩)) h H':=⟨QO u68.1 nH',fun k hk hne=>by
    rw[kH' k (QG hk u68.1) hne fun n k' e=>by have:=(ZA l68 k (by rw[e];rfl)).1;omega];exact u68.2 k hk hne⟩
   refine go ?_;refine zA (q+1) (by omega) ⟨Wx,by omega,eH',uH',_,⟨_,_,_,rfl⟩,oH',?_⟩;rw[hsnq,<-QZ];exact lH'
  ·have hqq:q=B.ins.length:=by omega
   subst hqq;rw[Q5]at l6;refine go ?_;refine zA (i+1) (by omega) ⟨Wx,by omega,e6,u6,_,⟨_,_,_,rfl⟩,o6,?_⟩;rw[hsn,<-QZ];exact l6
 ·have hii:i=G.blocks.length:=by omega
  subst hii;rw[Q5]at l3;refine go ?_;refine BB ?_;refine⟨_,M.upU C u3 e3 o3 (zET l3 (QO C.bn M.hb)) (fun k hk=>QO M.hb (ZA l3 k hk).1) fun k h1 h2=> ?_,u3⟩;have:=(ZA M.oO k h1).2;have:=(ZA l3 k h2).1;omega
end
set_option maxRecDepth 100000
theorem zIA{T:List U5}{f r:Int}:∀ {S:List Wq} {a:Int} {l:List Int},l.length<=40->(∀ s∈S,(yN T s.ty.toNat).length<=40)->(YL T f r S a l).2.length<=40
 |[],_,_,h,_=>h
 |s::S,a,l,h,hS=>by
  unfold YL;split
  ·exact hS s (Qc ..)
  ·exact zIA (hS s (Qc ..)) fun q hq=>hS q (Qh _ hq)
theorem zGT{α:Type}(g:Nat->List α)(m:Nat):∀ n,(∀ i,i<n->(g i).length<=m)->((List.range n).flatMap g).length<=m*n
 |0,_=>by simp
 |n+1,h=>by
  rw[Gy,List.flatMap_append,QM];have:=zGT g m n fun i hi=>h i (by omega);have:=h n (by omega);rw[List.flatMap_cons,List.flatMap_nil,Gp,Nat.mul_succ];omega
theorem zK1{T:List U5}{F:List WP}(hs:zc T F=0){f:Nat}(hf:f<F.length){b:Nat}(hb:b<(zL F f).length){i:Nat}(hi:i<((zL F f).getD b default).ins.length)(r:Int):
  (Z0 T F f (YC T F f) r (((zL F f).getD b default).ins.getD i default)).length<=41:=by
 have I0:=zNR hs hf hb hi;have hlow:=zC4 (yX (zk hs).1).1;refine zRs _ _ _ _ _ _ I0.al (zIA (by simp) fun s hsm=> ?_) fun e=> ?_
 ·have hty:=zAd hs s hsm;have h1:=fun j (hj:j<=s.ty.toNat)=>(hlow j (by omega)).1;exact QO (QO (zDF (s.ty.toNat+1) s.ty.toNat (Q7 _) h1) (hlow s.ty.toNat (by omega)).2) (by decide)
 ·have:=(I0.c18 e).2.1;have:=I0.al;omega
theorem zPQ(T:List U5)(F:List WP)(f:Int)(B:WW):(zIs T F f B).length<=1:=by
 unfold zIs;split
 ·exact zAD _ _
 ·simp
theorem zFA{T:List U5}{F:List WP}(hs:zc T F=0)(f:Nat)(hf:f<F.length):∀ b,b<=(zL F f).length->((consB T F f (zL F f) b).length:Int)<=41*zI ((zL F f).take b)+b
 |0,_=>by simp[consB,zI]
 |b+1,hb=>by
  have ih:=zFA hs f hf b (by omega);have h1:consB T F f (zL F f) (b+1)=consB T F f (zL F f) b++(zFo T F f ((z8 T F f).parts.length+zI ((zL F f).take b)) ((zL F f).getD b default).ins++zIs T F f ((zL F f).getD b default)):=YH _ b;have h2:(zFo T F f ((z8 T F f).parts.length+zI ((zL F f).take b)) ((zL F f).getD b default).ins).length<=41*((zL F f).getD b default).ins.length:=zGT _ 41 _ fun i hi=>zK1 hs hf (by omega) hi _;have h3:=zPQ T F f ((zL F f).getD b default);rw[h1,Zo (by omega)];have h4:zI ((zL F f).take b++[(zL F f).getD b default])=zI ((zL F f).take b)+(((zL F f).getD b default).ins.length:Int):=by unfold zI;simp
  rw[h4,QM,QM];omega
theorem zIv{T:List U5}{F:List WP}(hs:zc T F=0):∀ i:Nat,i<=F.length->(zAi T F i).length<=6000*i
 |0,_=>by simp[zAi]
 |i+1,hi=>by
  have ih:=zIv hs i (by omega);have h1:zAi T F (i+1)=zAi T F i++consB T F i (zL F i) (zL F i).length:=YH _ i;have Z:=Bo (zk hs).1 (f:=(i:Int)) (by omega);have h2:=zFA hs i (by omega) (zL F i).length (QE _);rw[Q5]at h2;have h3:=Z.many;have h4:=Z.n16;rw[h1,QM];omega
section
variable {h hB:U2}{b:Nat}{vt vf pu po vS vR:Value}{T:List U5}{F:List WP}
structure FR(hB h4 h:U2)(vt vf pu po vS vR:Value)(F:List WP)(T:List U5)(i:Nat):Prop where
 e:U8 hB h
 u:Wc pu h4 h
 ou:U6 hB h pu [vt,vf,vS,vR,I ((zX T F).take i).sum,.slice none 0 0,I 0,I 0,Ze po]
 oR:WR 1 RI h4.n h vR (((List.range i).map fun i=>((zX T F).take i).sum))
def zPm:U3:=(oV (oR [oB .lss 32 31 30]) (oV (oT 32 0) (oV (o5 1 (oV (oR [oM 33 31,oM 6 33]) (oV (oR [oA 2 35 1,oM 36 6,o2 37 17 35 36,oM 34 37,oE 38 34 0,oE 39 34 1,oM 7 38,oM 8 39]) (o6 [oM 40 5,oM 41 5,oM 42 5,(⟨some 43,none,(.nilCheck (.tmp 42))⟩,[]),oF 3 44 43,oL 45 44,oM 46 5,(⟨some 47,none,(.nilCheck (.tmp 46))⟩,[]),oF 4 48 47,oL 49 48,(⟨some 50,none,(.buildSlice 1 1 [(.int .i64 0)] [(0,1,(.tmp 49))])⟩,[]),oY 1 51 45 50,oM 52 5,(⟨some 53,none,(.nilCheck (.tmp 52))⟩,[]),oF 4 54 53,(oL 55 54,[10,11]),oM 56 7,oB .add 57 55 56,(⟨some 58,none,(.nilCheck (.tmp 40))⟩,[]),oF 3 59 58,oS 1 59 51,(⟨some 60,none,(.nilCheck (.tmp 41))⟩,[]),oF 4 61 60,oS 1 61 57])))) (oR [oC .add 62 31 1,oM 31 62]))))
def zNA:U3:=(oV (oR [oB .lss 96 95 94]) (oV (oT 96 6) (oV (o5 7 (oV (oR [oI 7 97 93 95,oA 7 98 97,⟨some 14,none,(.alloc [(.int .u8 0),(.int .i64 0),(.int .i64 0),(.int .i64 0),(.int .i64 0),(.slice none 0 0),(.slice none 0 0)])⟩,oS 7 14 98]) (oV (oR [oM 99 5,oA 7 100 14,o2 101 28 99 100]) (oR [oM 102 5,⟨some 103,none,(.nilCheck (.tmp 102))⟩,oF 7 104 103,oL 105 104,oC .add 106 105 1,⟨some 107,none,(.nilCheck (.tmp 102))⟩,oF 7 108 107,oS 1 108 106])))) (oR [oC .add 109 95 1,oM 95 109]))))
def zPJ:U3:=(oV (oR [oB .lss 89 88 87]) (oV (oT 89 4) (oV (o5 5 (oV (oR [oI 5 90 86 88,oA 5 91 90,⟨some 12,none,(.alloc [(.slice none 0 0),(.int .u8 0),(.int .i64 0),(.int .i64 0),(.int .i64 0)])⟩,oS 5 12 91]) (oV (oV (oR [oF 0 92 12,oL 93 92,oQ 94 93,oN 95 0]) (o5 6 (.loop zNA))) (oV (oR [oF 1 110 12,oF 0 111 110,oL 112 111,oD .eql 113 112 3,oM 114 113,oG 114 (oM 115 5),oG 114 (oF 0 116 1),oG 114 (oL 117 116),oG 114 (oF 0 118 10),oG 114 (oL 119 118),oG 114 (oI 4 120 117 119),oG 114 (oF 1 121 120),oG 114 (oL 122 121),oG 114 (o2 123 29 115 122),oG 114 (oW 124 123),oP 125 114 124]) (oJ 125 (o6 [oM 126 5,(⟨some 127,none,(.nilCheck (.tmp 126))⟩,[]),oF 8 128 127,oL 129 128,oM 130 5,(⟨some 131,none,(.nilCheck (.tmp 130))⟩,[]),oF 4 132 131,oL 133 132,oM 134 9,oB .add 135 133 134,oM 136 5,oF 1 137 12,oF 1 138 137,oL 139 138,(o2 140 30 136 139,[3,7]),(⟨some 141,none,(.build [(.int .u8 0),(.int .i64 0),(.int .i64 0),(.int .i64 0),(.slice none 0 0)] [(0,1,(.const (.int .u8 2))),(1,1,(.tmp 135)),(2,1,(.tmp 140))])⟩,[]),(⟨some 142,none,(.buildSlice 1 5 [(.int .u8 0),(.int .i64 0),(.int .i64 0),(.int .i64 0),(.slice none 0 0)] [(0,5,(.tmp 141))])⟩,[]),(⟨some 143,none,(.call (.tmp 129) [(.tmp 142)])⟩,[])]) .skip))))) (oR [oC .add 144 88 1,oM 88 144]))))
def zOJ:U3:=(oV (oR [oB .lss 67 66 65]) (oV (oT 67 2) (oV (o5 3 (oV (oR [oM 68 66,oI 2 69 64 66,oA 2 70 69,⟨some 10,none,(.alloc [(.int .i64 0),(.slice none 0 0)])⟩,oM 9 68,oS 2 10 70]) (oV (oR [oM 71 5,oM 72 9,o2 73 27 71 72]) (oV (oR [oM 74 5,oF 0 75 1,oL 76 75,oF 0 77 10,oL 78 77,oI 4 79 76 78,oF 3 80 79,oL 81 80,oQ 82 81,⟨some 83,none,(.nilCheck (.tmp 74))⟩,oF 7 84 83,oS 1 84 82]) (oV (oR [oF 1 85 10,oL 86 85,oQ 87 86,oN 88 0]) (o5 4 (.loop zPJ))))))) (oR [oC .add 145 66 1,oM 66 145]))))
def zTB:U3:=(oV (oR [oX 1 0,⟨some 2,none,(.alloc [(.slice none 0 0)])⟩,oN 3 0]) (oV (oR [oA 2 16 1,o1 17 25 16,oM 15 17,oE 18 15 0,oE 19 15 1,oM 4 18,oM 3 19]) (oV (oV (oR [oM 20 3,oC .neq 21 20 0]) (oJ 21 (oV (oR [oM 22 3,⟨none,none,(.store 1 (.tmp 2) (.const (.slice none 0 0)))⟩,oM 3 22]) .ret) .skip)) (oV (oR [oA 2 23 1,oM 24 4,⟨some 25,none,(.mkFunc (.func 26) [] [(.tmp 2)])⟩,⟨some 26,none,(.build [(.slice none 0 0),(.slice none 0 0),(.slice none 0 0),(.slice none 0 0),(.int .i64 0),(.slice none 0 0),(.int .i64 0),(.int .i64 0),.nilFunc] [(0,2,(.tmp 23)),(2,1,(.tmp 24)),(8,1,(.tmp 25))])⟩,oX 27 26,oM 5 27]) (oV (oV (oR [oF 1 28 1,oL 29 28,oQ 30 29,oN 31 0]) (o5 0 (.loop zPm))) (oV (oV (oR [oF 1 63 1,oL 64 63,oQ 65 64,oN 66 0]) (o5 2 (.loop zOJ))) (oV (oR [oL 146 2,oS 1 2 146,oN 3 0]) .ret)))))))
theorem zTf(E:Env h vt vf T F):WC Tryz.prog tb 10 [.agg #[vt,vf]] h fun r h'=>(∃ v,r=.tuple #[v,I (zc T F)]/\WR 5 RCn h.n h' v (zBH T F)/\(zBH T F).length<=90000)/\U8 h h':=by
 refine en 147 [(2,some (false,1)),(3,none)] zTB ?_;refine VH ?_;intro p1 h1 e1 o1;replace o1:U6 h h1 p1 [vt,vf]:=o1;have E1:=E.ext e1;refine go ?_;refine WO.al ?_;intro po h2 e2 oo2;have E2:=E1.ext e2;have o12:=o1.ext e2;refine go ?_;refine VA (zH7 h2 vt vf T F E2) ?_;rintro _ h3 ⟨⟨vS,rfl,oS⟩,e3⟩;have o13:=o12.ext e3;have oo3:=oo2.ext e3;have E3:=E2.ext e3;obtain⟨s1,s2,s3,rfl⟩:=zF oS.sl;by_cases hs:zc T F=0;case neg=>
  have hcl:zBH T F=[]:=by unfold zBH;rw[QC hs]
  rw[hcl];refine go ?_;refine VG oo3 (e2.trans e3) ?_;intro h4 e4 oo4 u4;refine go ?_;refine rt ?_ (Vc WA oo4 rfl (W5.cons WA W5.nil));exact⟨⟨_,rfl,.inl ⟨rfl,rfl⟩,by simp⟩,e1.trans e4⟩
 rw[QI hs]at oS;rw[hs];have hp:=(zk hs).1;obtain⟨hc,hF1,hF8,hfn⟩:=yX hp;obtain⟨hrb,hrl,-,-⟩:=zC1 hs;replace hfn:=Wa.mk hfn;obtain⟨t1,t2,t3,rfl⟩:=zF E.st;obtain⟨f1,f2,f3,rfl⟩:=zF E.sf;refine go ?_;refine VH ?_;intro pu h4 e4 ou4;obtain⟨gu,gu1,gu2,rfl,gu3⟩:=id ou4;obtain⟨go',go1,go2,rfl,go3⟩:=id oo2;replace ou4:U6 h3 h4 (.pointer (some ⟨gu,0,none⟩)) [.slice t1 t2 t3,.slice f1 f2 f3,.slice s1 s2 s3,.slice none 0 0,I 0,.slice none 0 0,I 0,I 0,Ze (.pointer (some ⟨go',0,none⟩))]:=ou4;have e13:=e2.trans e3;have e14:=e13.trans e4;have o14:=o13.ext e4;have oo4:U6 h1 h4 (.pointer (some ⟨go',0,none⟩)) [.slice none 0 0]:=oo3.ext e4;have oS4:=(WR.ext oS e4).base e2.n;have E4:=E3.ext e4;have sf4:=E4.sf;have ou14:=ou4.since e13;have uo:WK (.pointer (some ⟨gu,0,none⟩)) (.pointer (some ⟨go',0,none⟩)):=VF ou4.since' oo3.within;have uS:WK (.pointer (some ⟨gu,0,none⟩)) (.slice s1 s2 s3):=VF ou4.since' oS.within;have oSo:WK (.pointer (some ⟨go',0,none⟩)) (.slice s1 s2 s3):=(VF (zFX oS) oo2.within).symm;have hbo:∀ g,Bi (.pointer (some ⟨go',0,none⟩))=some g->g<h4.n:=oo4.within;have hbu:∀ g,Bi (.pointer (some ⟨gu,0,none⟩))=some g->g<h4.n:=ou4.within;have hbS:∀ g,Bi (.slice s1 s2 s3)=some g->g<h4.n:=oS4.within;have FR0:FR h1 h4 h4 (.slice t1 t2 t3) (.slice f1 f2 f3) (.pointer (some ⟨gu,0,none⟩)) (.pointer (some ⟨go',0,none⟩)) (.slice s1 s2 s3) (.slice none 0 0) F T 0:=⟨e14,zCR (U8.refl _),by simpa using ou14,.inl ⟨rfl,rfl⟩⟩;have hmB:h1.mark<=h1.n:=E1.hm;clear gu1 gu2 gu3 go1 go2 go3;refine go ?_;refine VD [32,33,6,35,36,37,34,38,39,7,8,40,41,42,43,44,45,46,47,48,49,50,51,52,53,54,55,56,57,58,59,60,61,62,31] (by kernel_rfl) (fun i=>F.length-i) (fun i t h5=>zB t 31=I i/\i<=F.length/\∃ vR,(∃ a n c,vR=.slice a n c)/\FR h1 h4 h5 (.slice t1 t2 t3) (.slice f1 f2 f3) (.pointer (some ⟨gu,0,none⟩)) (.pointer (some ⟨go',0,none⟩)) (.slice s1 s2 s3) vR F T i) 0 ?_ ?_
 ·exact⟨WA,QT _,_,⟨_,_,_,rfl⟩,FR0⟩
 rintro i t h5 hsame ⟨s31,hi,vR,⟨r1,r2,r3,rfl⟩,R5⟩;have o15:=o1.ext R5.e;have ou5:=R5.ou;refine go ?_;refine VE (fun hb=> ?_) (fun hb=> ?_)<;>simp only[DB]at hb
 ·have hi':i<F.length:=by omega
  have E5:=E1.ext R5.e;have hR:=zGj h5 _ _ T F i E5.tt E5.hm E5.sm E5.st E5.sf;rw[zKo hp hi']at hR;have hst:=zBJ (l:=zX T F) (i:=i) (by omega);have hgi:(zX T F).getD i 0=((T.getD (F.getD i default).sig.toNat default).parts.length:Int)+zI (F.getD i default).blocks:=by
   unfold zX;rw[zAl hi']
  have hbi:=hrb _ (zb (l:=zX T F) (i:=i) (by omega));have hsb:=zAq (l:=(zX T F).take i) fun x hx=>hrb x (GF hx);have htl:((zX T F).take i).length<=8:=by rw[Q8];omega
  have hrs:((List.range (i+1)).map fun i=>((zX T F).take i).sum)=((List.range i).map fun i=>((zX T F).take i).sum)++[((zX T F).take i).sum]:=by rw[Gy,GA];rfl
  have hrl':((List.range i).map fun i=>((zX T F).take i).sum).length<=8:=by simp;omega
  have R5R:=R5.oR;rw[<-hgi]at hR;generalize(zX T F).getD i 0=m at *;refine go ?_;refine VA hR ?_;rintro _ h6 ⟨rfl,e6⟩;have ou6:=R5.ou.ext e6;have oR6:=WR.ext R5.oR e6;have u6:=zB3 R5.u (zCR e6);have e16:=R5.e.trans e6;refine go ?_;refine V6 (fun k=>h4.n<=k) 1 rfl rfl ?_;have oY:U6 h1 (inC (zC 1 h6)) (.pointer (some ⟨gu,0,none⟩)) [.slice t1 t2 t3,.slice f1 f2 f3,.slice s1 s2 s3,.slice r1 r2 r3,I ((zX T F).take i).sum,.slice none 0 0,I 0,I 0,Ze (.pointer (some ⟨go',0,none⟩))]:=yg 1 (ou6);have hm6:h6.mark<=h1.n:=by rw[e16.mark];exact hmB
  refine goW ?_;refine UN (hS:=h6) ((zX T F).take i).sum (fun _=>False) oR6 (QO hm6 e14.n) u6.1 (by decide) (by omega) zT2 (fun _ h=>h.elim) (fun _ _ _ _ h=>h) (fun _ h=>h) ?_;intro X v' lit nX kX oRX sX wX;obtain⟨w1,w2,w3,rfl⟩:∃ a n c,v'=.slice a n c:=by
   rcases oRX with⟨rfl,_⟩|⟨_,_,_,_,_,rfl,_⟩
   ·exact⟨_,_,_,rfl⟩
   ·exact⟨_,_,_,rfl⟩
  have hrg:∀ k,k<h4.n->∀ n k',(Value.slice r1 r2 r3)≠ .slice (some ⟨k,0,none⟩) n k':=fun k hk n k' e=>by
   have:=(ZA oR6 k (by rw[e];rfl)).1;omega
  have oX:U6 h1 (inC X) (.pointer (some ⟨gu,0,none⟩)) [.slice t1 t2 t3,.slice f1 f2 f3,.slice s1 s2 s3,.slice r1 r2 r3,I ((zX T F).take i).sum,.slice none 0 0,I 0,I 0,Ze (.pointer (some ⟨go',0,none⟩))]:=by
   obtain⟨q,q1,q2,q3,q4⟩:=ou6;refine⟨q,q1,by show q<X.n;omega,q3,(kX q q2 (hrg q ?_)).trans q4⟩;exact hbu q (by rw[q3];rfl)
  refine goW ?_;refine zVd (fun hh=> ?_) ?_ ?_
  ·have:=hbu gu rfl;have hh:h4.n<=gu:=hh;omega
  ·have:=hbu gu rfl;have:=u6.1;show gu<h6.n+1;omega
  refine UG ?_;have oX':U6 h1 X (.pointer (some ⟨gu,0,none⟩)) [.slice t1 t2 t3,.slice f1 f2 f3,.slice s1 s2 s3,.slice r1 r2 r3,I ((zX T F).take i).sum,.slice none 0 0,I 0,I 0,Ze (.pointer (some ⟨go',0,none⟩))]:=oX;refine WT ?_;refine XE (hB:=h1) (j:=3) (cs:=[.slice w1 w2 w3]) (hl:=by simp) oX' hm6 ?_;intro X1 n1 kp1 o1' wf1 cl1;replace o1':U6 h1 X1 (.pointer (some ⟨gu,0,none⟩)) [.slice t1 t2 t3,.slice f1 f2 f3,.slice s1 s2 s3,.slice w1 w2 w3,I ((zX T F).take i).sum,.slice none 0 0,I 0,I 0,Ze (.pointer (some ⟨go',0,none⟩))]:=o1';have o1i:U6 h1 (inC X1) (.pointer (some ⟨gu,0,none⟩)) [.slice t1 t2 t3,.slice f1 f2 f3,.slice s1 s2 s3,.slice w1 w2 w3,I ((zX T F).take i).sum,.slice none 0 0,I 0,I 0,Ze (.pointer (some ⟨go',0,none⟩))]:=o1';refine WT ?_;refine XG (hB:=h1) (j:=4) (cs:=[I (((zX T F).take i).sum+m)]) (hl:=by simp) o1' hm6 ?_;intro H n2 kp2 o2' wf2 m2 wr2;refine go ?_;have uH6:∀ k,k<h6.n->Value.pointer (some ⟨gu,0,none⟩)≠ .pointer (some ⟨k,0,none⟩)->(∀ n k',(Value.slice r1 r2 r3)≠ .slice (some ⟨k,0,none⟩) n k')->H.get k=h6.get k:=fun k hk hne hv=>by
   rw[kp2 k hne,kp1 k hne];exact kX k hk hv
  have uH:Wc (.pointer (some ⟨gu,0,none⟩)) h4 H:=⟨by have:=u6.1;omega,fun k hk hne=>(uH6 k (QG hk u6.1) hne (hrg k hk)).trans (u6.2 k hk hne)⟩;have hgu1:h1.n<=gu:=by
   obtain⟨q,q1,_,q3,_⟩:=ou14;cases q3;exact q1
  have eH:U8 h1 H:=⟨QO e14.n uH.1,fun k hk=>(uH.2 k (QG hk e14.n) fun e=>by cases e;omega).trans (e14.get k hk),fun w=>wf2 (wf1 (wX (e16.wf w))),m2.trans e16.mark,fun hm=>wr2.trans (e16.wr hm)⟩;refine zA (i+1) (by omega) ⟨Wx,by omega,_,⟨w1,w2,w3,rfl⟩,eH,uH,?_,?_⟩
  ·rw[hst];exact o2'
  ·rw[hrs];refine WR.upd oRX (fun k k1 k2=> ?_) (by omega);have hne:Value.pointer (some ⟨gu,0,none⟩)≠ .pointer (some ⟨k,0,none⟩):=fun e=>by
    have:=hbu k (by rw[e];rfl);omega
   rw[kp2 k hne,kp1 k hne]
 ·have hii:i=F.length:=by omega
  subst hii;have hAn:((zX T F).take F.length).sum=zl T F:=by rw[Qw (by omega)];rfl
  have oR5:WJ h1 h5 (.slice r1 r2 r3) (Bp T F):=zET R5.oR e14.n;have ou5':=R5.ou;rw[hAn]at ou5';have hrg:∀ g,Bi (.slice r1 r2 r3)=some g->h4.n<=g/\g<h5.n:=ZA R5.oR;have C:CE h1 h5.n (.slice t1 t2 t3) (.slice f1 f2 f3) (.pointer (some ⟨gu,0,none⟩)) (.pointer (some ⟨go',0,none⟩)) (.slice s1 s2 s3) (.slice r1 r2 r3) T F:=⟨E1,hs,hmB,R5.e.n,fun g hg=>QG (hbu g hg) R5.u.1,fun g hg=>QG (hbo g hg) R5.u.1,fun g hg=>QG (hbS g hg) R5.u.1,fun g hg=>(hrg g hg).2,uo,uS,
   fun g h1 h2=>by have:=hbu g h1;have:=(hrg g h2).1;omega,oSo,fun g h1 h2=>by have:=hbo g h1;have:=(hrg g h2).1;omega⟩
  have M5:CM h1 h5 h5.n (.slice t1 t2 t3) (.slice f1 f2 f3) (.pointer (some ⟨gu,0,none⟩)) (.pointer (some ⟨go',0,none⟩)) (.slice s1 s2 s3) (.slice r1 r2 r3) T F (.slice none 0 0) (.slice none 0 0) [] 0 0 []:=⟨R5.e,QE _,ou5',Yz oo4 R5.u uo,oS4.upB Zt R5.u.upB uS,oR5,.inl ⟨rfl,rfl⟩,.inl ⟨rfl,rfl⟩,fun g hg=>(by cases hg),fun g hg=>(by cases hg)⟩;have o15':=o1.ext R5.e;have sf5:=Wr.ext E1.sf R5.e;have hCF:=zIv hs;have hCB:=zFA hs;clear FR0 hbo hbu hbS oSo uo uS oS4 oo4 ou4 ou14 oo3 oS oo2 ou5 ou5' o15;have hcl:zBH T F=zAi T F F.length:=by unfold zBH;rw[QI hs]
  rw[hcl];replace hCF:=Wa.mk hCF;replace hCB:=Wa.mk hCB;refine go ?_;refine VD [67,68,69,70,10,9,71,72,73,74,75,76,77,78,79,80,81,82,83,84,85,86,87,88,89,90,91,12,92,93,94,95,96,97,98,14,99,100,101,102,103,104,105,106,107,108,109,95,110,111,112,113,114,115,116,117,118,119,120,121,122,123,124,125,126,127,128,129,130,131,132,133,134,135,136,137,138,139,140,141,142,143,144,88,145,66] (by kernel_rfl) (fun i=>F.length-i) (fun i t h6=>zB t 66=I i/\i<=F.length/\∃ vK vO ks f r,CM h1 h6 h5.n (.slice t1 t2 t3) (.slice f1 f2 f3) (.pointer (some ⟨gu,0,none⟩)) (.pointer (some ⟨go',0,none⟩)) (.slice s1 s2 s3) (.slice r1 r2 r3) T F vK vO ks f r (zAi T F i)) 0 ?_ ?_
  ·exact⟨WA,QT _,_,_,_,_,_,M5⟩
  rintro i t h6 hsame2 ⟨s66,hi,vK,vO,ks,f,r,M6⟩;have o16:=o1.ext M6.e;have ou6:=M6.ou;have sf6:=Wr.ext E1.sf M6.e;refine go ?_;refine VE (fun hb=> ?_) (fun hb=> ?_)<;>simp only[DB]at hb
  ·have hi':i<F.length:=by omega
   have Z:=Bo hp (f:=(i:Int)) (by omega);have hCFi:=hCF.out i (by omega);have hCBi:=hCB.out i hi';have hcs:zAi T F (i+1)=zAi T F i++consB T F i (zL F i) (zL F i).length:=YH _ i;have hsg:=Z.sig;have hpar:=Z.par4;have hmny:=Z.many;have h16:=Z.n16;have hel:=Z.el;have hkl:(YC T F i).length<=1000:=by rw[zKC];have:=Z.reg;unfold zCd at this;omega
   have hci:=fun {b:Nat} (hb:b<(zL F i).length) {q:Nat} (hq:q<((zL F i).getD b default).ins.length)=>zNR hs hi' hb hq;have hmt:=fun b=>zFx (zL F i) b;have hone:=fun {b:Nat} (hb:b<(zL F i).length) {q:Nat} (hq:q<((zL F i).getD b default).ins.length) (r:Int)=>zK1 hs hi' hb hq r;have hcsn:∀ b,consB T F i (zL F i) (b+1)=consB T F i (zL F i) b++(zFo T F i ((z8 T F i).parts.length+zI ((zL F i).take b)) ((zL F i).getD b default).ins++zIs T F i ((zL F i).getD b default)):=fun b=>YH _ b;have hcE:∀ B,zIs T F i B=if B.fin.kind=3 then(if W2 T (z8 T F i).elem then[]else[⟨2,zl T F+i,WZ T F i B.fin.a,0,[]⟩])else[]:=fun B=>rfl;have hend:∀ b,b<(zL F i).length->((zL F i).getD b default).fin.kind=3->0<=((zL F i).getD b default).fin.a/\((zL F i).getD b default).fin.a<=1000:=fun b hb hk=>by
    have h1:=(Z.U _ (zJ hb)).ends ((zL F i).getD b default).fin.a (by unfold yj;rw[QI (.inr hk)];simp);have h2:=Z.reg;unfold zCd at h2;omega
   rw[QU]at hsg;have hL:zL F i=(F.getD i default).blocks:=by unfold zL;rw[QU]
   have hP:z8 T F i=T.getD (F.getD i default).sig.toNat default:=by unfold z8;rw[QU]
   obtain⟨csF,⟨vb,rfl,sb,hlb⟩,pcF,hsF⟩:=yA (i:=i) E1.sf hi';obtain⟨csT,⟨va,rfl,sa,hla⟩,pcT,hsT⟩:=yA (i:=(F.getD i default).sig.toNat) E1.st (by omega);rw[<-hL]at sb hlb;rw[<-hP]at sa hla pcT;have hbl:=E1.sm.blocks _ (zJ hi');have hil:=E1.sm.ins _ (zJ hi');rw[<-hL]at hbl hil;generalize hLL:zL F i=L at *;generalize hPP:z8 T F i=P0 at *;generalize(F.getD i default).sig=sg at *;obtain⟨b1,b2,b3,rfl⟩:=zF sb;obtain⟨a1,a2,a3,rfl⟩:=Wb.shape sa;obtain⟨k1,k2,k3,rfl⟩:=Wb.shape M6.oK.sl;clear Z hL hP;replace hci:=Wa.mk @hci;replace hone:=Wa.mk @hone;replace hcsn:=Wa.mk hcsn;replace hcE:=Wa.mk hcE;replace hend:=Wa.mk hend;replace hCBi:=Wa.mk hCBi;replace hmt:=Wa.mk hmt;replace hil:=Wa.mk hil;have pcF6:=(pcF _ M6.e).1;refine go ?_;refine WO.al ?_;intro p10 h7 e7 o10;refine go ?_;refine VG (cs:=[I sg,.slice b1 b2 b3]) o10 e7 ?_;intro h8 e8 o10 _;have M8:=M6.ext e8;have d1:WK (.pointer (some ⟨gu,0,none⟩)) p10:=(VF o10.since' M6.ou.within).symm;have d2:WK (.pointer (some ⟨go',0,none⟩)) p10:=(VF o10.since' M6.oo.within).symm;have d3:WK vO p10:=(VF o10.since' fun g hg=>(ZA M6.oO g hg).2).symm;refine go ?_;refine VA (zR6 C M8 i hi') ?_;rintro _ h9 ⟨vK',M9,u9⟩;have o10:=Yz o10 u9 d1;have o19:=o1.ext M9.e;have ou9:=M9.ou;obtain⟨k1',k2',k3',rfl⟩:=Wb.shape M9.oK.sl;have pcT9:=(pcT _ M9.e).1;have st9:=Wv.ext E1.st M9.e;have sa9:=sa.ext M9.e;have sb9:=BF.ext sb M9.e;refine go ?_;refine VW (j:=7) (cs:=[I P0.parts.length]) (hl:=by simp) ou9 M9.e ?_;intro h11 e11 ou11 u11;have M11:=M9.setR C u11 e11 ou11;have o10:=Yz o10 u11 d1;have sb11:=BF.ext sb M11.e;clear ou11 u11 pcT9 sa9 sb9 st9;refine go ?_;refine VD [89,90,91,12,92,93,94,95,96,97,98,14,99,100,101,102,103,104,105,106,107,108,109,95,110,111,112,113,114,115,116,117,118,119,120,121,122,123,124,125,126,127,128,129,130,131,132,133,134,135,136,137,138,139,140,141,142,143,144,88] (by kernel_rfl) (fun b=>L.length-b) (fun b t h12=>zB t 88=I b/\b<=L.length/\∃ vO',CM h1 h12 h5.n (.slice t1 t2 t3) (.slice f1 f2 f3) (.pointer (some ⟨gu,0,none⟩)) (.pointer (some ⟨go',0,none⟩)) (.slice s1 s2 s3) (.slice r1 r2 r3) T F (.slice k1' k2' k3') vO' (YC T F i) i (P0.parts.length+zI (L.take b)) (zAi T F i++consB T F i L b)/\U6 h6 h12 p10 [I sg,.slice b1 b2 b3]/\WK vO' p10) 0 ?_ ?_
   ·refine⟨WA,QT _,vO,?_,o10,d3⟩;have h0:zI (L.take 0)=0:=by simp[zI]
    have h1:consB T F i L 0=[]:=by simp[consB]
    rw[h0,h1,Gp,Int.add_zero];exact M11
   rintro b t h12 hsame3 ⟨s88,hbb,vO',M12,o10',d3'⟩;have sb12:=BF.ext sb M12.e;refine go ?_;refine VE (fun hb'=> ?_) (fun hb'=> ?_)<;>simp only[DB]at hb'
   ·have hb2:b<L.length:=by omega
    obtain⟨csB,⟨vi,rfl,si,hli⟩,pcB,hsB⟩:=yA (i:=b) sb hb2;have pcB12:=(pcB _ M12.e).1;have hmt1:=hmt.out b;have hmt2:=hmt.out (b+1);have hmB:zI (L.take (b+1))=zI (L.take b)+((L.getD b default).ins.length:Int):=by rw[Zo hb2];unfold zI;simp
    have hsn:=hcsn.out b;have hcb:=hCBi.out b (by omega);have hciB:=fun {q:Nat} (hq:q<(L.getD b default).ins.length)=>hci.out hb2 hq;have honeB:=fun {q:Nat} (hq:q<(L.getD b default).ins.length) (r:Int)=>hone.out hb2 hq r;have hendB:=hend.out b hb2;have hilB:=hil.out _ (zJ hb2);rw[hcE.out]at hsn;unfold zFo at hsn;generalize L.getD b default=B at *;obtain⟨i1,i2,i3,rfl⟩:=zF si;have hlq:∀ q,q<=B.ins.length->((List.range q).flatMap fun(j:Nat)=>Z0 T F i (YC T F i) (P0.parts.length+zI (L.take b)+j) (B.ins.getD j default)).length<=41*q:=fun q hq=>zGT _ 41 q fun j hj=>honeB (by omega) _;replace hciB:=Wa.mk @hciB;replace honeB:=Wa.mk @honeB;replace hlq:=Wa.mk hlq;refine go ?_;refine WO.al ?_;intro p12 h13 e13 o12;refine go ?_;refine VG (cs:=[.slice i1 i2 i3,.int .u8 B.fin.kind,I B.fin.a,I B.fin.to,I B.fin.els]) o12 e13 ?_;intro h14 e14' o12 _;have M14:=M12.ext e14';have o10b:=o10'.ext e14';have q1:WK (.pointer (some ⟨gu,0,none⟩)) p12:=(VF o12.since' M12.ou.within).symm;have q2:WK (.pointer (some ⟨go',0,none⟩)) p12:=(VF o12.since' M12.oo.within).symm;have q3:WK vO' p12:=(VF o12.since' fun g hg=>(ZA M12.oO g hg).2).symm;have si14:=BW.ext si M14.e;refine go ?_;refine VD [96,97,98,14,99,100,101,102,103,104,105,106,107,108,109,95] (by kernel_rfl) (fun q=>B.ins.length-q) (fun q t h15=>zB t 95=I q/\q<=B.ins.length/\∃ vO2,CM h1 h15 h5.n (.slice t1 t2 t3) (.slice f1 f2 f3) (.pointer (some ⟨gu,0,none⟩)) (.pointer (some ⟨go',0,none⟩)) (.slice s1 s2 s3) (.slice r1 r2 r3) T F (.slice k1' k2' k3') vO2 (YC T F i) i (P0.parts.length+zI (L.take b)+q) (zAi T F i++consB T F i L b++(List.range q).flatMap fun(j:Nat)=>Z0 T F i (YC T F i) (P0.parts.length+zI (L.take b)+j) (B.ins.getD j default))/\U6 h6 h15 p10 [I sg,.slice b1 b2 b3]/\WK vO2 p10/\U6 h12 h15 p12 [.slice i1 i2 i3,.int .u8 B.fin.kind,I B.fin.a,I B.fin.to,I B.fin.els]/\WK vO2 p12) 0 ?_ ?_
    ·refine⟨WA,QT _,vO',?_,o10b,d3',o12,q3⟩;rw[show((0:Nat):Int)=0 from rfl,Int.add_zero];simpa using M14
    rintro q t' h15 hsame4 ⟨s95,hq,vO2,M15,o10q,d10q,o12q,d12q⟩;have si15:=BW.ext si M15.e;have hlqq:=hlq.out q hq;have hol:(zAi T F i++consB T F i L b++(List.range q).flatMap fun(j:Nat)=>Z0 T F i (YC T F i) (P0.parts.length+zI (L.take b)+j) (B.ins.getD j default)).length<=80000:=by
     rw[QM,QM];omega
    refine go ?_;refine VE (fun hc'=> ?_) (fun hc'=> ?_)<;>simp only[DB]at hc'
    ·have hq':q<B.ins.length:=by omega
     have I0:=hciB.out hq';obtain⟨csX,⟨xa,xf,rfl,sxa,sxf,hxa,hxf,ho⟩,pcX,hsX⟩:=yA (i:=q) si hq';have pcX15:=(pcX _ M15.e).1;have hsnq:=YH (fun(j:Nat)=>Z0 T F i (YC T F i) (P0.parts.length+zI (L.take b)+j) (B.ins.getD j default)) q;generalize B.ins.getD q default=x at *;obtain⟨xa1,xa2,xa3,rfl⟩:=Wb.shape sxa;obtain⟨xf1,xf2,xf3,rfl⟩:=Wb.shape sxf;refine go ?_;refine WO.al ?_;intro p14 h16 e16' o14;refine go ?_;refine VG (cs:=[.int .u8 x.op,I x.ty,I x.a,I x.b,I x.n,.slice xa1 xa2 xa3,.slice xf1 xf2 xf3]) o14 e16' ?_;intro h17 e17 o14 _;have M17:=M15.ext e17;have o10r:=o10q.ext e17;have o12r:=o12q.ext e17;refine go ?_;refine VA (zP9 C M17 ⟨by omega,by omega⟩ ⟨by omega,by omega⟩ (by omega) x _ _ _ _ sxa I0 hkl) ?_;rintro _ h18 ⟨vO3,M18,k18⟩;obtain⟨o10s,d10s⟩:=VP o10r k18 d2 d10q;obtain⟨o12s,d12s⟩:=VP o12r k18 q2 d12q;have ou18:=M18.ou;refine go ?_;refine VW (j:=7) (cs:=[I (P0.parts.length+zI (L.take b)+q+1)]) (hl:=by simp) ou18 M18.e ?_;intro h19 e19 ou19 u19;have M19:=M18.setR C u19 e19 ou19;refine go ?_;refine zA (q+1) (by omega) ⟨Wx,by omega,vO3,?_,Yz o10s u19 d1,d10s,Yz o12s u19 q1,d12s⟩;rw[show(P0.parts.length:Int)+zI (L.take b)+((q+1:Nat):Int)=P0.parts.length+zI (L.take b)+q+1 by omega,hsnq,<-QZ];exact M19
    ·have hqq:q=B.ins.length:=by omega
     subst hqq;have ou15:=M15.ou;have o115:=o1.ext M15.e;by_cases hk3:B.fin.kind=3;case neg=>
      rw[QC hk3,Gp]at hsn;refine go ?_;refine zA (b+1) (by omega) ⟨Wx,by omega,vO2,?_,o10q,d10q⟩;rw[hmB,<-Int.add_assoc,hsn,<-QZ];exact M15
     rw[QI hk3]at hsn;have hend':=hendB hk3;have hel':0<=P0.elem/\P0.elem<(T.length:Int):=by unfold PlT at hel;omega
     have st15:=Wv.ext E1.st M15.e;have pcT15:=(pcT _ M15.e).1;refine go ?_;refine VA (YP M15.ou st15 P0.elem hel') ?_;rintro _ _ ⟨rfl,rfl⟩;cases hpl:W2 T P0.elem with
     |true=>
      rw[hpl,QI rfl,Gp]at hsn;refine go ?_;refine zA (b+1) (by omega) ⟨Wx,by omega,vO2,?_,o10q,d10q⟩;rw[hmB,<-Int.add_assoc,hsn,<-QZ];exact M15
     |false=>
      rw[hpl,QC Bool.false_ne_true,<-QZ]at hsn;have hAb:=(zE8 hs (f:=(i:Int)) ⟨by omega,by omega⟩).2.2.2.2;refine go ?_;refine VC 1 rfl rfl ?_;have oY:U6 h1 (inC (zC 1 h15)) (.pointer (some ⟨gu,0,none⟩)) [.slice t1 t2 t3,.slice f1 f2 f3,.slice s1 s2 s3,.slice r1 r2 r3,I (zl T F),.slice k1' k2' k3',I i,I (P0.parts.length+zI (L.take b)+B.ins.length),Ze (.pointer (some ⟨go',0,none⟩))]:=yg 1 (M15.ou);have sY:WM (inC (zC 1 h15)) (.slice r1 r2 r3) (Bp T F):=YW 1 (M15.oR.sl);have o12Y:U6 h12 (inC (zC 1 h15)) p12 [.slice i1 i2 i3,.int .u8 B.fin.kind,I B.fin.a,I B.fin.to,I B.fin.els]:=yg 1 (o12q);refine WT ?_;refine VA (yy oY sY C.hs ⟨by omega,by omega⟩ B.fin.a hend') ?_;rintro _ _ ⟨rfl,rfl⟩;refine WO.nil (Za zy ?_);refine WT ?_;refine WU.add (X:=inC (zC 1 _)) (⟨2,zl T F+i,WZ T F i B.fin.a,0,[]⟩:Wh) (fun _=>False) C M15 (U8.refl _) (by omega) YA (fun _ h=>h.elim) ?_;intro H vO4 t'' hsame5 MH kH;obtain⟨o10s,d10s⟩:=VP o10q kH d2 d10q;refine go ?_;refine zA (b+1) (by omega) ⟨Wx,by omega,vO4,?_,o10s,d10s⟩;rw[hmB,<-Int.add_assoc,hsn,<-QZ,<-QZ];exact MH
   ·have hbl':b=L.length:=by omega
    subst hbl';refine go ?_;refine zA (i+1) (by omega) ⟨Wx,by omega,.slice k1' k2' k3',vO',YC T F i,i,P0.parts.length+zI (L.take L.length),?_⟩;rw[hcs];exact M12
  ·have hii:i=F.length:=by omega
   subst hii;have oo6:=M6.oo;have hlen:=hCF.out F.length (QE _);obtain⟨v1,v2,v3,rfl⟩:∃ a n k,vO=.slice a n k:=by
    rcases M6.oO with⟨rfl,_⟩|⟨g,_,_,_,_,rfl,_⟩
    ·exact⟨_,_,_,rfl⟩
    ·exact⟨_,_,_,rfl⟩
   refine go ?_;refine VG oo6 M6.e ?_;intro h7 e7 o7 u7;refine go ?_;refine rt ?_ (Vc WA o7 rfl (W5.cons WA W5.nil));refine⟨⟨_,rfl,?_,by omega⟩,e1.trans e7⟩;refine(M6.oO.upd (fun k k1 k2=>u7.2 k k2 fun e=> ?_) u7.1).base (QO e1.n R5.e.n);have:=C.bo k (by rw[e];rfl);omega
end
def zUl(T:List U5)(F:List WP):Int:=zKI T F+(yZ T F).sum
def zG3(T:List U5)(k:Int):Prop:=k≠ -1/\W2 T k=false
def zVV(T:List U5)(F:List WP)(f q:Int):Prop:=(0<=f/\f<(F.length:Int))/\(0<=q/\q<((Wu T F f).length:Int))/\zG3 T ((Wu T F f).getD q.toNat 0)
def zKg(T:List U5)(F:List WP)(x:Int):Prop:=∃ f q,((0<=f/\f<(F.length:Int))/\0<=q/\q<((Wu T F f).length:Int))/\x=WZ T F f q
def zPz(T:List U5)(F:List WP)(x:Int):Prop:=(∃ f q,zVV T F f q/\x=WZ T F f q)\/(zl T F<=x/\x<zUl T F)
structure ConOk(T:List U5)(F:List WP)(x:Wh):Prop where
 kind:1<=x.kind/\x.kind<=6
 to:x.kind≠6->zPz T F x.to
 to6:x.kind=6->zKg T F x.to
 frm:x.kind=1/\x.frm=0\/zPz T F x.frm
 n:0<=x.n/\(x.kind=1->x.n<zKT F+(yZ T F).sum)
 args:(x.kind=6\/x.args=[])/\∀ a∈x.args,zKg T F a
theorem zFs:∀ (L:List WW) (b i:Nat),b<L.length->i<(L.getD b default).ins.length->(yn L).getD ((zI (L.take b)).toNat+i) 0=Zu ((L.getD b default).ins.getD i default)
 |[],b,i,hb,_=>by simp at hb
 |c::L,0,i,_,hi=>by
  have hi:i<c.ins.length:=hi;show(c.ins.map Zu++yn L).getD (0+i) 0=Zu (c.ins.getD i default);rw[Q6,zBY (by simpa using hi),zAl hi]
 |c::L,b+1,i,hb,hi=>by
  have hm:zI ((c::L).take (b+1))=(c.ins.length:Int)+zI (L.take b):=by rw[Qs,Zz]
  have h0:=zA4 (L.take b);have ih:=zFs L b i (by simpa using hb) hi;rw[hm];show(c.ins.map Zu++yn L).getD _ 0=Zu ((L.getD b default).ins.getD i default);rw[zAn (by rw[Qp];omega),<-ih,Qp];congr 1;omega
theorem zBP{l:List Int}(hb:∀ x∈l,0<=x){i j:Nat}(h:i<=j):(l.take i).sum<=(l.take j).sum:=by
 have h1:l.take j=l.take i++(l.drop i).take (j-i):=by
  rw[<-GH i (l.take j),List.take_take,Gj h,List.drop_take]
 have h2:∀ m:List Int,(∀ x∈m,0<=x)->0<=m.sum:=fun m hm=>by
  induction m with
  |nil=>simp
  |cons x m ih=>
   rw[G9];have:=hm x (Qc ..);have:=ih fun y hy=>hm y (Qh _ hy);omega
 have:=h2 ((l.drop i).take (j-i)) fun x hx=>hb x (List.mem_of_mem_drop (GF hx));rw[h1,Gu];omega
theorem zFw{T:List U5}{f r:Int}:∀ {S:List Wq} (a:Int) (l:List Int),(∃ s∈S,s.fn=f/\s.nr=r)->∃ j,j<S.length/\(S.getD j default).fn=f/\(S.getD j default).nr=r/\YL T f r S a l=(a+l.length+((S.take j).map fun s=>((yN T s.ty.toNat).length:Int)).sum,yN T (S.getD j default).ty.toNat)
 |[],_,_,⟨s,hs,_⟩=>by cases hs
 |s::S,a,l,⟨q,hq,h1,h2⟩=>by
  by_cases h:s.fn=f/\s.nr=r
  ·exact⟨0,by simp,h.1,h.2,by unfold YL;rw[QI h];simp⟩
  ·have hq:q∈S:=(GL.1 hq).resolve_left fun e=>h (by subst e;exact⟨h1,h2⟩);obtain⟨j,a1,a2,a3,a4⟩:=zFw (a+l.length) (yN T s.ty.toNat) ⟨q,hq,h1,h2⟩;refine⟨j+1,by simpa using a1,a2,a3,?_⟩;unfold YL;rw[QC h,a4];simp only[Qs,Qm,G9];congr 1;omega
theorem zER{T:List U5}{f:Int}:∀ {l:List Wg} {n:Int} {i:Nat},i<l.length->ZP (l.getD i default)=true->∃ s∈ZO T f n l,s.fn=f/\s.nr=n+i
 |[],_,_,h,_=>by simp at h
 |x::l,n,0,_,hm=>⟨⟨f,n,(T.getD x.ty.toNat default).elem⟩,by unfold ZO;rw[QI (by exact hm)];simp,rfl,by simp⟩
 |x::l,n,i+1,h,hm=>by
  obtain⟨s,h1,h2,h3⟩:=zER (T:=T) (f:=f) (l:=l) (n:=n+1) (i:=i) (by simpa using h) hm;exact⟨s,by unfold ZO;exact GM _ h1,h2,by omega⟩
theorem zE4{T:List U5}{f:Int}:∀ {L:List WW} {n:Int} {b i:Nat},b<L.length->i<(L.getD b default).ins.length->ZP ((L.getD b default).ins.getD i default)=true->∃ s∈ZD T f n L,s.fn=f/\s.nr=n+zI (L.take b)+i
 |[],_,_,_,h,_,_=>by simp at h
 |c::L,n,0,i,_,hi,hm=>by
  obtain⟨s,h1,h2,h3⟩:=zER (T:=T) (f:=f) (l:=c.ins) (n:=n) (i:=i) hi hm;exact⟨s,by unfold ZD;exact GW _ h1,h2,by rw[h3];simp[zI]⟩
 |c::L,n,b+1,i,hb,hi,hm=>by
  obtain⟨s,h1,h2,h3⟩:=zE4 (T:=T) (f:=f) (L:=L) (n:=n+c.ins.length) (b:=b) (i:=i) (by simpa using hb) hi hm;exact⟨s,by unfold ZD;exact GM _ h1,h2,by rw[h3,Qs,Zz];omega⟩
theorem zEa{T:List U5}:∀ {G:List WP} {n:Int} {f b i:Nat},f<G.length->b<(G.getD f default).blocks.length->i<((G.getD f default).blocks.getD b default).ins.length->ZP (((G.getD f default).blocks.getD b default).ins.getD i default)=true->
  ∃ s∈ZQ T n G,s.fn=n+f/\s.nr=((T.getD (G.getD f default).sig.toNat default).parts.length:Int)+zI ((G.getD f default).blocks.take b)+i
 |[],_,_,_,_,h,_,_,_=>by simp at h
 |g::G,n,0,b,i,_,hb,hi,hm=>by
  obtain⟨s,h1,h2,h3⟩:=zE4 (T:=T) (f:=n) (L:=g.blocks) (n:=((T.getD g.sig.toNat default).parts.length:Int)) (b:=b) (i:=i) hb hi hm;exact⟨s,by unfold ZQ;exact GW _ h1,by omega,h3⟩
 |g::G,n,f+1,b,i,hf,hb,hi,hm=>by
  obtain⟨s,h1,h2,h3⟩:=zEa (T:=T) (G:=G) (n:=n+1) (f:=f) (b:=b) (i:=i) (by simpa using hf) hb hi hm;exact⟨s,by unfold ZQ;exact GM _ h1,by omega,h3⟩
theorem zQh{T:List U5}:∀ (n k:Nat),k<n->(∀ j,j<=k->ZS T j)->1<=(yN T k).length:=by
 intro n;induction n with
 |zero=>intro k h;omega
 |succ n ih=>
  intro k hk hM;have hm:=hM k (QE _);rw[zAG hM];split
  ·rename_i h4;have hp:=(zFS hm h4).2;have h1:1<=(T.getD k default).parts.length:=by
    unfold ZS zFK at hm;rcases hm with h|h|h|h|h<;>omega
   generalize(T.getD k default).parts=l at *;cases l with
   |nil=>simp at h1
   |cons p l=>
    have:=ih p.toNat (by have:=hp p (Qc ..);omega) fun j hj=>hM j (by have:=hp p (Qc ..);omega);simp only[Qm,GP,QM];omega
  ·split
   ·rename_i h4 h5;have hp:=zIe hm h5;exact ih (T.getD k default).elem.toNat (by omega) fun j hj=>hM j (by omega)
   ·simp
section
variable {T:List U5}{F:List WP}
theorem zO5(hs:zc T F=0):0<=zl T F/\1<=F.length/\0<=(yZ T F).sum/\zl T F+F.length+(yZ T F).sum=zUl T F:=by
 obtain⟨hb,hl,h1,h8⟩:=zC1 hs;have h3:=zAq hb;have h4:∀ x∈yZ T F,0<=x:=fun x hx=>by
  unfold yZ at hx;obtain⟨s,_,rfl⟩:=Qt.1 hx;omega
 have h5:=zBP h4 (QT (yZ T F).length);rw[GE,Q5]at h5;unfold zl zUl zKI;exact⟨h3.1,h1,h5,rfl⟩
theorem zHQ(hs:zc T F=0){f q:Int}(hf:0<=f/\f<(F.length:Int))(hq:0<=q/\q<((Wu T F f).length:Int)):0<=WZ T F f q/\WZ T F f q<zl T F/\((Wu T F f).length:Int)=(zX T F).getD f.toNat 0:=by
 obtain⟨hb,hl,h1,h8⟩:=zC1 hs;have Z:=Bo (zk hs).1 hf;have hr:((Wu T F f).length:Int)=(zX T F).getD f.toNat 0:=by
  rw[Z.reg];have:f.toNat<F.length:=by omega
  unfold zX zCd z8 zL;simp[List.getD,QB this]
 have h2:=zAq (l:=(zX T F).take f.toNat) fun x hx=>hb x (GF hx);have h3:=zBJ (l:=zX T F) (i:=f.toNat) (by omega);have h4:=zUg hb (f.toNat+1);unfold WZ zl;omega
end
end
end Go.Proofs.YtmejfcakhpihlaaGreatDoor
