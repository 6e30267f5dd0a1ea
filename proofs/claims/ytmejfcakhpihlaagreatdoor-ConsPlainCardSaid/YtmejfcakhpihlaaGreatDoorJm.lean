/- Walks of functions, plain laws; proves no statement. -/
import Derived.Test.YtmejfcakhpihlaaGreatDoorJl
set_option linter.unusedVariables false
set_option linter.unusedSimpArgs false
set_option maxHeartbeats 2000000
namespace Go.Proofs.YtmejfcakhpihlaaGreatDoor
noncomputable section
open Go.Am
set_option maxRecDepth 100000
def Bp(T:List U5)(F:List WP):List Int:=(List.range F.length).map fun i=>((zX T F).take i).sum
theorem zE8{T:List U5}{F:List WP}(hs:zc T F=0){f:Int}(hf:0<=f/\f<(F.length:Int)):f<((Bp T F).length:Int)/\(Bp T F).getD f.toNat 0=((zX T F).take f.toNat).sum/\0<=((zX T F).take f.toNat).sum/\((zX T F).take f.toNat).sum<=8000/\0<=zl T F/\zl T F<=8000:=by
 obtain⟨hb,hl,h1,h8⟩:=zC1 hs;have h2:=zAq (l:=(zX T F).take f.toNat) fun x hx=>hb x (GF hx);have h3:=zAq hb;have h4:((zX T F).take f.toNat).length<=f.toNat:=List.length_take_le _ _;unfold Bp zl;refine⟨by simp;omega,?_,by omega,by omega,by omega,by omega⟩;have:f.toNat<F.length:=by omega
 simp[List.getD,this]
section
variable {h h0 hB:U2}{b:Nat}{vt vf pu po vS vR vK vO av:Value}{T:List U5}{F:List WP}{ks:List Int}{f r A:Int}{out:List Wh}
def zTV:U3:=(oV (oR [oN 4 0]) (oV (o6 [oM 5 0,(⟨some 6,none,(.nilCheck (.tmp 5))⟩,[]),oF 3 7 6,oL 8 7,oM 9 0,(⟨some 10,none,(.nilCheck (.tmp 9))⟩,[]),oF 6 11 10,oL 12 11,oI 1 13 8 12,oL 14 13,oM 15 1,oB .add 16 14 15,oM 4 16]) .ret))
theorem yy(ou:U6 h0 h pu [vt,vf,vS,vR,I A,vK,I f,I r,av])(sR:WM h vR (Bp T F))(hs:zc T F=0)(hf:0<=f/\f<(F.length:Int))(q:Int)(hq:0<=q/\q<=1000):
  WC Tryz.prog tb 30 [pu,I q] h fun x h'=>x=I (WZ T F f q)/\h=h':=by
 obtain⟨h1,h2,h3,h4,-⟩:=zE8 hs hf;unfold WZ;rw[<-h2]at h3 h4 |-;generalize Bp T F=L at *;obtain⟨gu,_,_,rfl,_⟩:=id ou;obtain⟨r1,r2,r3,rfl⟩:=Wb.shape sR;refine en 17 [(4,none)] zTV ?_;refine gr ?_;exact⟨rfl,rfl⟩
def zUE:U3:=(oV (oR [oZ 4]) (oV (oR [oM 5 0,⟨some 6,none,(.nilCheck (.tmp 5))⟩,oF 0 7 6,oF 0 8 7,oL 9 8,oM 10 1,oI 4 11 9 10,oF 0 12 11,oL 13 12,oD .eql 14 13 1,oM 4 14]) .ret))
theorem YP(ou:U6 h0 h pu [vt,vf,vS,vR,I A,vK,I f,I r,av])(st:Wv h vt T)(t:Int)(ht:0<=t/\t<(T.length:Int)):
  WC Tryz.prog tb 29 [pu,I t] h fun x h'=>x=.bool (W2 T t)/\h=h':=by
 unfold W2;obtain⟨cs,⟨va,rfl,sa,hla⟩,pc,hs⟩:=ZL (i:=t.toNat) st (by omega);obtain⟨gu,_,_,rfl,_⟩:=id ou;obtain⟨t1,t2,t3,rfl⟩:=zF st;obtain⟨a1,a2,a3,rfl⟩:=Wb.shape sa;refine en 15 [(4,none)] zUE ?_;refine rt ?_;exact⟨rfl,rfl⟩
def zTJ:U3:=(oV (oR [oN 4 0]) (oV (oR [oM 5 0,⟨some 6,none,(.nilCheck (.tmp 5))⟩,oF 5 7 6,oL 8 7,oM 9 1,oI 1 10 8 9,oL 11 10,oM 4 11]) .ret))
theorem zIn(ou:U6 h0 h pu [vt,vf,vS,vR,I A,vK,I f,I r,av])(sK:WM h vK ks)(q:Int)(hq:0<=q/\q<(ks.length:Int)):
  WC Tryz.prog tb 87 [pu,I q] h fun x h'=>x=I (ks.getD q.toNat 0)/\h=h':=by
 obtain⟨gu,_,_,rfl,_⟩:=id ou;obtain⟨k1,k2,k3,rfl⟩:=Wb.shape sK;refine en 12 [(4,none)] zTJ ?_;refine rt ?_;exact⟨rfl,rfl⟩
def zO0:U3:=(oV (oR [oB .lss 10 9 8]) (oV (oT 10 0) (oV (o5 1 (oV (oR [oI 1 11 7 9,oL 12 11,oM 6 12]) (oR [oM 13 4,oM 14 0,oM 15 6,o2 16 30 14 15,⟨some 17,none,(.buildSlice 1 1 [(.int .i64 0)] [(0,1,(.tmp 16))])⟩,oY 1 18 13 17,oM 4 18]))) (oR [oC .add 19 9 1,oM 9 19]))))
def zUr:U3:=(oV (oR [oK 4 (.slice none 0 0)]) (oV (oV (oR [oM 7 1,oQ 8 7,oN 9 0]) (o5 0 (.loop zO0))) (oV (oR [oM 20 4,oM 4 20]) .ret)))
theorem zIS(ou:U6 h0 h pu [vt,vf,vS,vR,I A,vK,I f,I r,av])(sR:WM h vR (Bp T F))(hs:zc T F=0)(hf:0<=f/\f<(F.length:Int))(va:Value)(us:List Int)(sa:WM h va us)(ha:∀ a∈us,0<=a/\a<=1000)(hl:us.length<=1000):
  WC Tryz.prog tb 88 [pu,va] h fun x h'=>WJ h h' x (us.map (WZ T F f))/\U8 h h':=by
 obtain⟨a1,a2,a3,rfl⟩:=Wb.shape sa;replace ha:=Wa.mk ha;replace hf:=Wa.mk hf;refine en 21 [(4,none)] zUr ?_;refine VD [10,11,12,6,13,14,15,16,17,18,4,19,9] (by kernel_rfl) (fun i=>us.length-i) (fun i t h1=>zB t 9=I i/\i<=us.length/\U8 h h1/\∃ v,zB t 4=v/\WJ h h1 v ((us.take i).map (WZ T F f))) 0 ?_ ?_
 ·exact⟨WA,QT _,U8.refl _,_,WA,.inl ⟨rfl,rfl⟩⟩
 rintro i t h1 hsame ⟨s9,hi,e1,v,s4,ov⟩;have sa1:=sa.ext e1;refine go ?_;refine VE (fun hc=> ?_) (fun hc=> ?_)<;>simp only[DB]at hc
 ·have hi':i<us.length:=by omega
  have hx:=ha.out _ (zb hi');have hsn:(us.take (i+1)).map (WZ T F f)=(us.take i).map (WZ T F f)++[WZ T F f (us.getD i 0)]:=by
   rw[Q4,QB hi',GA];congr 1;simp[List.getD,QB hi']
  have hti:((us.take i).map (WZ T F f)).length<=i:=by rw[Qp];exact List.length_take_le _ _
  refine go ?_;refine VA (yy (ou.ext e1) (sR.ext e1) hs hf.out (us.getD i 0) hx) ?_;rintro _ _ ⟨rfl,rfl⟩;refine go ?_;refine WO.bl [WZ T F f (us.getD i 0)] ?_;intro v3 h3 e3 o3;refine go ?_;refine Vo (ov.ext e3) o3.sl (e1.trans e3) (by simp) (by simp at hti |-;omega) ?_;intro v4 h4 e4 o4 u4;refine go ?_;refine zA (i+1) (by omega) ⟨Wx,by omega,e4,v4,WA,?_⟩;rw[hsn];exact .inr (o4.since (e1.trans e3))
 ·have hii:i=us.length:=by omega
  subst hii;rw[Q5]at ov;refine gr ?_;exact⟨ov,e1⟩
end
theorem YV(g:Nat->List Wh)(hg:∀ i,(g i).length<=1):∀ n,((List.range n).flatMap g).length<=n
 |0=>by simp
 |n+1=>by rw[YH,QM];have:=YV g hg n;have:=hg n;omega
theorem zAD(b:Bool)(c:Wh):(if b then[]else[c]).length<=1:=by cases b<;>simp
def CP(hB:U2)(b:Nat)(vt vf pu po vS vR:Value)(T:List U5)(F:List WP)(vK vO:Value)(ks:List Int)(f r:Int)(out:List Wh)(h h':U2):Prop:=
 ∃ vO',CM hB h' b vt vf pu po vS vR T F vK vO' ks f r out/\WQ po vO h h' vO'
theorem YA{X:U2}{a b c d:Int}{D:Nat->Prop}:Bm RCn X [.int .u8 a,I b,I c,I d,.slice none 0 0] ⟨a,b,c,d,[]⟩ D:=fun hx _ _=>⟨_,rfl,WM.nil hx,by simp⟩
section
variable {h hB:U2}{b:Nat}{vt vf pu po vS vR vK vO:Value}{T:List U5}{F:List WP}{ks:List Int}{f r:Int}{out:List Wh}
def zUM:U3:=(oV (oR [oX 3 1]) (oV (oR [oN 4 0]) (oV (oV (oR [oF 0 5 3,oL 6 5,oD .eql 7 6 3]) (oJ 7 (oR [oF 4 8 3,oL 9 8,oC .add 10 9 1,oM 4 10]) .skip)) (o6 [oM 11 0,(⟨some 12,none,(.nilCheck (.tmp 11))⟩,[]),oF 8 13 12,oL 14 13,oM 15 0,oM 16 0,(⟨some 17,none,(.nilCheck (.tmp 16))⟩,[]),oF 7 18 17,oL 19 18,(o2 20 30 15 19,[3]),oM 21 4,(⟨some 22,none,(.build [(.int .u8 0),(.int .i64 0),(.int .i64 0),(.int .i64 0),(.slice none 0 0)] [(0,1,(.const (.int .u8 1))),(1,1,(.tmp 20)),(3,1,(.tmp 21))])⟩,[]),(⟨some 23,none,(.buildSlice 1 5 [(.int .u8 0),(.int .i64 0),(.int .i64 0),(.int .i64 0),(.slice none 0 0)] [(0,5,(.tmp 22))])⟩,[]),(⟨some 24,none,(.call (.tmp 14) [(.tmp 23)])⟩,[])]))))
theorem zPM(C:CE hB b vt vf pu po vS vR T F)(M:CM hB h b vt vf pu po vS vR T F vK vO ks f r out)(hf:0<=f/\f<(F.length:Int))(hr:0<=r/\r<=1000)(hl:out.length<=90000)(x:Wg)(a1 b1:Option Addr)(a2 a3 b2 b3:Nat)(hn:x.op=3->0<=x.n/\x.n<=1000):
  WC Tryz.prog tb 51 [pu,.agg #[.int .u8 x.op,I x.ty,I x.a,I x.b,I x.n,.slice a1 a2 a3,.slice b1 b2 b3]] h fun _ h'=>CP hB b vt vf pu po vS vR T F vK vO ks f r (out++[⟨1,WZ T F f r,0,if x.op=3 then x.n+1 else 0,[]⟩]) h h':=by
 obtain⟨gu,_,_,rfl,_⟩:=id M.ou;obtain⟨s1,s2,s3,rfl⟩:=zF M.oS.sl;obtain⟨r1,r2,r3,rfl⟩:=Wb.shape M.oR.sl;obtain⟨k1,k2,k3,rfl⟩:=Wb.shape M.oK.sl;refine en 25 [] zUM ?_;refine VH ?_;intro p3 h1 e1 o3;replace o3:U6 h h1 p3 [.int .u8 x.op,I x.ty,I x.a,I x.b,I x.n,.slice a1 a2 a3,.slice b1 b2 b3]:=o3;have M1:=M.ext e1;by_cases h3:x.op=3;all_goals
  first|(have hn':=hn h3)|skip
  refine go ?_
  refine VC 1 rfl rfl ?_
  have oX:=M1.ou.ext (za 1 h1)
  have oY:U6 hB (inC (zC 1 h1)) (.pointer (some ⟨gu,0,none⟩)) [vt,vf,.slice s1 s2 s3,.slice r1 r2 r3,I (zl T F),.slice k1 k2 k3,I f,I r,Ze po]:=oX
  have sX:=M1.oR.sl.ext (za 1 h1)
  have sY:WM (inC (zC 1 h1)) (.slice r1 r2 r3) (Bp T F):=sX
  refine WT ?_
  refine VA (yy oY sY C.hs hf r hr) ?_
  rintro _ _ ⟨rfl,rfl⟩
  refine WO.nil (Za zy ?_)
  refine WT ?_
  refine WU.add (X:=inC (zC 1 _)) (⟨1,WZ T F f r,0,_,[]⟩:Wh) (fun _=>False) C M1 (U8.refl _) (by omega) YA (fun _ h=>h.elim) ?_
  intro H vO' t' hsame MH kH
  refine go ?_
  refine BB ?_
  exact⟨vO',by simpa [h3]using MH,(WQ.ext e1).trans kH⟩
end
set_option maxRecDepth 100000
section
variable {h hB:U2}{b:Nat}{vt vf pu po vS vR vK vO:Value}{T:List U5}{F:List WP}{ks:List Int}{f r:Int}{out:List Wh}
def zTY:U3:=(oV (oR [oX 3 1]) (oV (oR [oN 4 0]) (oV (oV (oR [oF 0 5 3,oL 6 5,oD .eql 7 6 14]) (oJ 7 (o6 [oM 9 0,(⟨some 10,none,(.nilCheck (.tmp 9))⟩,[]),oF 0 11 10,oF 0 12 11,oL 13 12,oM 14 0,(⟨some 15,none,(.nilCheck (.tmp 14))⟩,[]),oF 0 16 15,oF 0 17 16,oL 18 17,oM 19 0,oF 2 20 3,oL 21 20,(o2 22 87 19 21,[4,9]),oI 4 23 18 22,oF 1 24 23,oL 25 24,oF 4 26 3,(oL 27 26,[13]),o3 28 86 13 25 27,oM 8 28,oE 29 8 0,oE 30 8 1,oM 4 29]) .skip)) (o6 [oM 31 0,(⟨some 32,none,(.nilCheck (.tmp 31))⟩,[]),oF 8 33 32,oL 34 33,oM 35 0,oM 36 0,(⟨some 37,none,(.nilCheck (.tmp 36))⟩,[]),oF 7 38 37,oL 39 38,(o2 40 30 35 39,[3]),oM 41 0,oF 2 42 3,(oL 43 42,[9]),(o2 44 30 41 43,[3]),oM 45 4,(⟨some 46,none,(.build [(.int .u8 0),(.int .i64 0),(.int .i64 0),(.int .i64 0),(.slice none 0 0)] [(0,1,(.const (.int .u8 3))),(1,1,(.tmp 40)),(2,1,(.tmp 44)),(3,1,(.tmp 45))])⟩,[]),(⟨some 47,none,(.buildSlice 1 5 [(.int .u8 0),(.int .i64 0),(.int .i64 0),(.int .i64 0),(.slice none 0 0)] [(0,5,(.tmp 46))])⟩,[]),(⟨some 48,none,(.call (.tmp 34) [(.tmp 47)])⟩,[])]))))
theorem zNY(C:CE hB b vt vf pu po vS vR T F)(M:CM hB h b vt vf pu po vS vR T F vK vO ks f r out)(hf:0<=f/\f<(F.length:Int))(hr:0<=r/\r<=1000)(hl:out.length<=90000)(x:Wg)(a1 b1:Option Addr)(a2 a3 b2 b3:Nat)(I0:CI T F ks x)(hk:ks.length<=1000)(ho:x.op=14\/x.op=15):
  WC Tryz.prog tb 53 [pu,.agg #[.int .u8 x.op,I x.ty,I x.a,I x.b,I x.n,.slice a1 a2 a3,.slice b1 b2 b3]] h fun _ h'=>CP hB b vt vf pu po vS vR T F vK vO ks f r (out++[⟨3,WZ T F f r,WZ T F f x.a,if x.op=14 then stepL T (T.getD (ks.getD x.a.toNat 0).toNat default).elem x.n else 0,[]⟩]) h h':=by
 have ha:=I0.a14 (by omega);have k14:=I0.k14;obtain⟨gu,_,_,rfl,_⟩:=id M.ou;obtain⟨s1,s2,s3,rfl⟩:=zF M.oS.sl;obtain⟨r1,r2,r3,rfl⟩:=Wb.shape M.oR.sl;obtain⟨k1,k2,k3,rfl⟩:=Wb.shape M.oK.sl;obtain⟨t1,t2,t3,rfl⟩:=zF C.E.st;obtain⟨f1,f2,f3,rfl⟩:=zF C.E.sf;refine en 49 [] zTY ?_;refine VH ?_;intro p3 h1 e1 o3;replace o3:U6 h h1 p3 [.int .u8 x.op,I x.ty,I x.a,I x.b,I x.n,.slice a1 a2 a3,.slice b1 b2 b3]:=o3;have M1:=M.ext e1;by_cases h14:x.op=14
 ·obtain⟨s,hs,hka,hs0,hs4,hn⟩:=k14 h14;have hm1:h1.mark<=h1.n:=by rw[M1.e.mark];exact QO C.hm M1.e.n
  have hka2:=hka.1;refine go ?_;refine VC 0 rfl rfl ?_;have oY:U6 hB (inC (zC 0 h1)) (.pointer (some ⟨gu,0,none⟩)) [.slice t1 t2 t3,.slice f1 f2 f3,.slice s1 s2 s3,.slice r1 r2 r3,I (zl T F),.slice k1 k2 k3,I f,I r,Ze po]:=M1.ou;have sY:WM (inC (zC 0 h1)) (.slice k1 k2 k3) ks:=M1.oK.sl;have o3Y:U6 h (inC (zC 0 h1)) p3 [.int .u8 x.op,I x.ty,I x.a,I x.b,I x.n,.slice a1 a2 a3,.slice b1 b2 b3]:=o3;have stY:Wv (inC (zC 0 h1)) (.slice t1 t2 t3) T:=zJy 0 (Wv.ext C.E.st M1.e);refine WT ?_;refine VA (zIn oY sY x.a ha) ?_;rintro _ _ ⟨rfl,rfl⟩;refine WO.nil (Za zy ?_);obtain⟨csT,⟨va,rfl,sa,hla⟩,pcT,hsT⟩:=ZL (i:=(ks.getD x.a.toNat 0).toNat) stY (by omega);obtain⟨va1,va2,va3,rfl⟩:=Wb.shape sa;rw[hs]at pcT;generalize ks.getD x.a.toNat 0=ka at *;refine WT ?_;refine Yi (j:=4) o3 (QE _) ?_;refine WT ?_;refine VA (zNj _ _ T s x.n stY C.E.sm.types C.E.sm.parts ((yX (zk C.hs).1).1) hs0 hs4 hn (QE _)) ?_;rintro _ h2 ⟨⟨e,rfl⟩,e2⟩;refine nE e2 ?_;refine WT ?_;have e2q:=(za 0 h1).trans (yr (h:=h1) e2);have e2':U8 h1 (yu h1 (inC h2)):=e2q;clear e2q e2;have M2:=M1.ext e2';have o32:=o3.ext e2';have e02:=e1.trans e2';clear oY sY o3Y stY pcT;generalize yu h1 (inC h2)=h3 at *;refine go ?_;refine VC 1 rfl rfl ?_;have oY:U6 hB (inC (zC 1 h3)) (.pointer (some ⟨gu,0,none⟩)) [.slice t1 t2 t3,.slice f1 f2 f3,.slice s1 s2 s3,.slice r1 r2 r3,I (zl T F),.slice k1 k2 k3,I f,I r,Ze po]:=yg 1 M2.ou;have sY:WM (inC (zC 1 h3)) (.slice r1 r2 r3) (Bp T F):=YW 1 M2.oR.sl;have o3Y:U6 h (inC (zC 1 h3)) p3 [.int .u8 x.op,I x.ty,I x.a,I x.b,I x.n,.slice a1 a2 a3,.slice b1 b2 b3]:=yg 1 o32;refine WT ?_;refine VA (yy oY sY C.hs hf r hr) ?_;rintro _ _ ⟨rfl,rfl⟩;refine WO.nil (Za zy ?_);refine WT ?_;refine Yi (j:=2) o32 (by show h3.n<=h3.n+1;omega) ?_;refine WT ?_;refine VA (yy oY sY C.hs hf x.a ⟨ha.1,by omega⟩) ?_;rintro _ _ ⟨rfl,rfl⟩;refine WO.nil (Za zy ?_);refine WT ?_;refine WU.add (X:=inC (zC 1 _)) (⟨3,WZ T F f r,WZ T F f x.a,_,[]⟩:Wh) (fun _=>False) C M2 (U8.refl _) (by omega) YA (fun _ h=>h.elim) ?_;intro H vO' t' hsame MH kH;refine go ?_;refine BB ?_;exact⟨vO',by rw[QI h14,hs];exact MH,(WQ.ext e02).trans kH⟩
 ·refine go ?_;refine VC 1 rfl rfl ?_;have oY:U6 hB (inC (zC 1 h1)) (.pointer (some ⟨gu,0,none⟩)) [.slice t1 t2 t3,.slice f1 f2 f3,.slice s1 s2 s3,.slice r1 r2 r3,I (zl T F),.slice k1 k2 k3,I f,I r,Ze po]:=yg 1 (M1.ou);have sY:WM (inC (zC 1 h1)) (.slice r1 r2 r3) (Bp T F):=YW 1 (M1.oR.sl);have o3Y:U6 h (inC (zC 1 h1)) p3 [.int .u8 x.op,I x.ty,I x.a,I x.b,I x.n,.slice a1 a2 a3,.slice b1 b2 b3]:=yg 1 (o3);refine WT ?_;refine VA (yy oY sY C.hs hf r hr) ?_;rintro _ _ ⟨rfl,rfl⟩;refine WO.nil (Za zy ?_);refine WT ?_;refine Yi (j:=2) o3 (by show h1.n<=h1.n+1;omega) ?_;refine WT ?_;refine VA (yy oY sY C.hs hf x.a ⟨ha.1,by omega⟩) ?_;rintro _ _ ⟨rfl,rfl⟩;refine WO.nil (Za zy ?_);refine WT ?_;refine WU.add (X:=inC (zC 1 _)) (⟨3,WZ T F f r,WZ T F f x.a,_,[]⟩:Wh) (fun _=>False) C M1 (U8.refl _) (by omega) YA (fun _ h=>h.elim) ?_;intro H vO' t' hsame MH kH;refine go ?_;refine BB ?_;exact⟨vO',by simpa [h14]using MH,(WQ.ext e1).trans kH⟩
def zT8:U3:=(oV (oR [oX 3 1]) (oV (oR [oM 4 0,oF 1 5 3,oL 6 5,o2 7 29 4 6,oW 8 7]) (oJ 8 (o6 [oM 9 0,(⟨some 10,none,(.nilCheck (.tmp 9))⟩,[]),oF 8 11 10,oL 12 11,oM 13 0,oM 14 0,(⟨some 15,none,(.nilCheck (.tmp 14))⟩,[]),oF 7 16 15,oL 17 16,(o2 18 30 13 17,[3]),oM 19 0,oF 2 20 3,(oL 21 20,[9]),(o2 22 30 19 21,[3]),(⟨some 23,none,(.build [(.int .u8 0),(.int .i64 0),(.int .i64 0),(.int .i64 0),(.slice none 0 0)] [(0,1,(.const (.int .u8 4))),(1,1,(.tmp 18)),(2,1,(.tmp 22))])⟩,[]),(⟨some 24,none,(.buildSlice 1 5 [(.int .u8 0),(.int .i64 0),(.int .i64 0),(.int .i64 0),(.slice none 0 0)] [(0,5,(.tmp 23))])⟩,[]),(⟨some 25,none,(.call (.tmp 12) [(.tmp 24)])⟩,[])]) .skip)))
theorem zOT(C:CE hB b vt vf pu po vS vR T F)(M:CM hB h b vt vf pu po vS vR T F vK vO ks f r out)(hf:0<=f/\f<(F.length:Int))(hr:0<=r/\r<=1000)(hl:out.length<=90000)(x:Wg)(a1 b1:Option Addr)(a2 a3 b2 b3:Nat)(I0:CI T F ks x)(hk:ks.length<=1000)(ho:x.op=16):
  WC Tryz.prog tb 54 [pu,.agg #[.int .u8 x.op,I x.ty,I x.a,I x.b,I x.n,.slice a1 a2 a3,.slice b1 b2 b3]] h fun _ h'=>CP hB b vt vf pu po vS vR T F vK vO ks f r (out++if W2 T x.ty then[]else[⟨4,WZ T F f r,WZ T F f x.a,0,[]⟩]) h h':=by
 have ha:=I0.a14 (by omega);have hty:=I0.ty (by omega);obtain⟨gu,_,_,rfl,_⟩:=id M.ou;obtain⟨s1,s2,s3,rfl⟩:=zF M.oS.sl;obtain⟨r1,r2,r3,rfl⟩:=Wb.shape M.oR.sl;obtain⟨k1,k2,k3,rfl⟩:=Wb.shape M.oK.sl;obtain⟨t1,t2,t3,rfl⟩:=zF C.E.st;obtain⟨f1,f2,f3,rfl⟩:=zF C.E.sf;refine en 26 [] zT8 ?_;refine VH ?_;intro p3 h1 e1 o3;replace o3:U6 h h1 p3 [.int .u8 x.op,I x.ty,I x.a,I x.b,I x.n,.slice a1 a2 a3,.slice b1 b2 b3]:=o3;have M1:=M.ext e1;refine go ?_;refine VA (YP M1.ou (Wv.ext C.E.st M1.e) x.ty hty) ?_;rintro _ _ ⟨rfl,rfl⟩;cases hpl:W2 T x.ty with
 |true=>
  refine go ?_;refine BB ?_;exact⟨vO,by simpa using M1,WQ.ext e1⟩
 |false=>
  refine go ?_;refine VC 1 rfl rfl ?_;have oY:U6 hB (inC (zC 1 h1)) (.pointer (some ⟨gu,0,none⟩)) [.slice t1 t2 t3,.slice f1 f2 f3,.slice s1 s2 s3,.slice r1 r2 r3,I (zl T F),.slice k1 k2 k3,I f,I r,Ze po]:=yg 1 (M1.ou);have sY:WM (inC (zC 1 h1)) (.slice r1 r2 r3) (Bp T F):=YW 1 (M1.oR.sl);have o3Y:U6 h (inC (zC 1 h1)) p3 [.int .u8 x.op,I x.ty,I x.a,I x.b,I x.n,.slice a1 a2 a3,.slice b1 b2 b3]:=yg 1 (o3);refine WT ?_;refine VA (yy oY sY C.hs hf r hr) ?_;rintro _ _ ⟨rfl,rfl⟩;refine WO.nil (Za zy ?_);refine WT ?_;refine Yi (j:=2) o3 (by show h1.n<=h1.n+1;omega) ?_;refine WT ?_;refine VA (yy oY sY C.hs hf x.a ⟨ha.1,by omega⟩) ?_;rintro _ _ ⟨rfl,rfl⟩;refine WO.nil (Za zy ?_);refine WT ?_;refine WU.add (X:=inC (zC 1 _)) (⟨4,WZ T F f r,WZ T F f x.a,0,[]⟩:Wh) (fun _=>False) C M1 (U8.refl _) (by omega) YA (fun _ h=>h.elim) ?_;intro H vO' t' hsame MH kH;refine go ?_;refine BB ?_;exact⟨vO',MH,(WQ.ext e1).trans kH⟩
end
set_option maxRecDepth 100000
section
variable {h hB:U2}{b:Nat}{vt vf pu po vS vR vK vO:Value}{T:List U5}{F:List WP}{ks:List Int}{f r:Int}{out:List Wh}
def zUn:U3:=(oV (oR [oX 3 1]) (oV (oR [oM 4 0,oM 5 0,oF 3 6 3,oL 7 6,o2 8 87 5 7,o2 9 29 4 8,oW 10 9]) (oJ 10 (o6 [oM 11 0,(⟨some 12,none,(.nilCheck (.tmp 11))⟩,[]),oF 8 13 12,oL 14 13,oM 15 0,oF 2 16 3,oL 17 16,(o2 18 30 15 17,[3]),oM 19 0,oF 3 20 3,(oL 21 20,[7]),(o2 22 30 19 21,[3]),(⟨some 23,none,(.build [(.int .u8 0),(.int .i64 0),(.int .i64 0),(.int .i64 0),(.slice none 0 0)] [(0,1,(.const (.int .u8 5))),(1,1,(.tmp 18)),(2,1,(.tmp 22))])⟩,[]),(⟨some 24,none,(.buildSlice 1 5 [(.int .u8 0),(.int .i64 0),(.int .i64 0),(.int .i64 0),(.slice none 0 0)] [(0,5,(.tmp 23))])⟩,[]),(⟨some 25,none,(.call (.tmp 14) [(.tmp 24)])⟩,[])]) .skip)))
theorem zMp(C:CE hB b vt vf pu po vS vR T F)(M:CM hB h b vt vf pu po vS vR T F vK vO ks f r out)(hf:0<=f/\f<(F.length:Int))(hl:out.length<=90000)(x:Wg)(a1 b1:Option Addr)(a2 a3 b2 b3:Nat)(I0:CI T F ks x)(hk:ks.length<=1000)(ho:x.op=17):
  WC Tryz.prog tb 55 [pu,.agg #[.int .u8 x.op,I x.ty,I x.a,I x.b,I x.n,.slice a1 a2 a3,.slice b1 b2 b3]] h fun _ h'=>CP hB b vt vf pu po vS vR T F vK vO ks f r (out++if W2 T (ks.getD x.b.toNat 0)then[]else[⟨5,WZ T F f x.a,WZ T F f x.b,0,[]⟩]) h h':=by
 have ha:=I0.a14 (by omega);have hb:=I0.b17 ho;obtain⟨gu,_,_,rfl,_⟩:=id M.ou;obtain⟨s1,s2,s3,rfl⟩:=zF M.oS.sl;obtain⟨r1,r2,r3,rfl⟩:=Wb.shape M.oR.sl;obtain⟨k1,k2,k3,rfl⟩:=Wb.shape M.oK.sl;obtain⟨t1,t2,t3,rfl⟩:=zF C.E.st;obtain⟨f1,f2,f3,rfl⟩:=zF C.E.sf;refine en 26 [] zUn ?_;refine VH ?_;intro p3 h1 e1 o3;replace o3:U6 h h1 p3 [.int .u8 x.op,I x.ty,I x.a,I x.b,I x.n,.slice a1 a2 a3,.slice b1 b2 b3]:=o3;have M1:=M.ext e1;refine go ?_;refine VA (zIn M1.ou M1.oK.sl x.b hb.1) ?_;rintro _ _ ⟨rfl,rfl⟩;refine go ?_;refine VA (YP M1.ou (Wv.ext C.E.st M1.e) (ks.getD x.b.toNat 0) hb.2) ?_;rintro _ _ ⟨rfl,rfl⟩;cases hpl:W2 T (ks.getD x.b.toNat 0)with
 |true=>
  refine go ?_;refine BB ?_;exact⟨vO,by simpa using M1,WQ.ext e1⟩
 |false=>
  refine go ?_;refine VC 1 rfl rfl ?_;have oY:U6 hB (inC (zC 1 h1)) (.pointer (some ⟨gu,0,none⟩)) [.slice t1 t2 t3,.slice f1 f2 f3,.slice s1 s2 s3,.slice r1 r2 r3,I (zl T F),.slice k1 k2 k3,I f,I r,Ze po]:=yg 1 (M1.ou);have sY:WM (inC (zC 1 h1)) (.slice r1 r2 r3) (Bp T F):=YW 1 (M1.oR.sl);have o3Y:U6 h (inC (zC 1 h1)) p3 [.int .u8 x.op,I x.ty,I x.a,I x.b,I x.n,.slice a1 a2 a3,.slice b1 b2 b3]:=yg 1 (o3);refine WT ?_;refine VA (yy oY sY C.hs hf x.a ⟨ha.1,by omega⟩) ?_;rintro _ _ ⟨rfl,rfl⟩;refine WO.nil (Za zy ?_);refine WT ?_;refine Yi (j:=3) o3 (by show h1.n<=h1.n+1;omega) ?_;refine WT ?_;refine VA (yy oY sY C.hs hf x.b ⟨hb.1.1,by omega⟩) ?_;rintro _ _ ⟨rfl,rfl⟩;refine WO.nil (Za zy ?_);refine WT ?_;refine WU.add (X:=inC (zC 1 _)) (⟨5,WZ T F f x.a,WZ T F f x.b,0,[]⟩:Wh) (fun _=>False) C M1 (U8.refl _) (by omega) YA (fun _ h=>h.elim) ?_;intro H vO' t' hsame MH kH;refine go ?_;refine BB ?_;exact⟨vO',MH,(WQ.ext e1).trans kH⟩
def zU0:U3:=(oV (oR [oX 3 1]) (o6 [oM 4 0,(⟨some 5,none,(.nilCheck (.tmp 4))⟩,[]),oF 8 6 5,oL 7 6,oM 8 0,oM 9 0,(⟨some 10,none,(.nilCheck (.tmp 9))⟩,[]),oF 7 11 10,oL 12 11,(o2 13 30 8 12,[3]),oM 14 0,oF 2 15 3,(oL 16 15,[9]),(o2 17 30 14 16,[3]),oM 18 0,oF 5 19 3,(oL 20 19,[9,13]),(o2 21 88 18 20,[3]),(⟨some 22,none,(.build [(.int .u8 0),(.int .i64 0),(.int .i64 0),(.int .i64 0),(.slice none 0 0)] [(0,1,(.const (.int .u8 6))),(1,1,(.tmp 13)),(2,1,(.tmp 17)),(4,1,(.tmp 21))])⟩,[]),(⟨some 23,none,(.buildSlice 1 5 [(.int .u8 0),(.int .i64 0),(.int .i64 0),(.int .i64 0),(.slice none 0 0)] [(0,5,(.tmp 22))])⟩,[]),(⟨some 24,none,(.call (.tmp 7) [(.tmp 23)])⟩,[])]))
theorem zMB(C:CE hB b vt vf pu po vS vR T F)(M:CM hB h b vt vf pu po vS vR T F vK vO ks f r out)(hf:0<=f/\f<(F.length:Int))(hr:0<=r/\r<=1000)(hl:out.length<=90000)(x:Wg)(va:Value)(b1:Option Addr)(b2 b3:Nat)(sa:WM h va x.args)(I0:CI T F ks x)(hk:ks.length<=1000)(ho:x.op=19):
  WC Tryz.prog tb 57 [pu,.agg #[.int .u8 x.op,I x.ty,I x.a,I x.b,I x.n,va,.slice b1 b2 b3]] h fun _ h'=>CP hB b vt vf pu po vS vR T F vK vO ks f r (out++[⟨6,WZ T F f r,WZ T F f x.a,0,x.args.map (WZ T F f)⟩]) h h':=by
 have ha:=I0.a14 (by omega);have har:=I0.args (by omega);have hal:=I0.al;obtain⟨gu,_,_,rfl,_⟩:=id M.ou;obtain⟨s1,s2,s3,rfl⟩:=zF M.oS.sl;obtain⟨r1,r2,r3,rfl⟩:=Wb.shape M.oR.sl;obtain⟨k1,k2,k3,rfl⟩:=Wb.shape M.oK.sl;obtain⟨t1,t2,t3,rfl⟩:=zF C.E.st;obtain⟨f1,f2,f3,rfl⟩:=zF C.E.sf;obtain⟨a1,a2,a3,rfl⟩:=Wb.shape sa;refine en 25 [] zU0 ?_;refine VH ?_;intro p3 h1 e1 o3;replace o3:U6 h h1 p3 [.int .u8 x.op,I x.ty,I x.a,I x.b,I x.n,.slice a1 a2 a3,.slice b1 b2 b3]:=o3;have M1:=M.ext e1;refine go ?_;refine VC 1 rfl rfl ?_;have oY:U6 hB (inC (zC 1 h1)) (.pointer (some ⟨gu,0,none⟩)) [.slice t1 t2 t3,.slice f1 f2 f3,.slice s1 s2 s3,.slice r1 r2 r3,I (zl T F),.slice k1 k2 k3,I f,I r,Ze po]:=yg 1 (M1.ou);have sY:WM (inC (zC 1 h1)) (.slice r1 r2 r3) (Bp T F):=YW 1 (M1.oR.sl);have o3Y:U6 h (inC (zC 1 h1)) p3 [.int .u8 x.op,I x.ty,I x.a,I x.b,I x.n,.slice a1 a2 a3,.slice b1 b2 b3]:=yg 1 (o3);have saY:WM (inC (zC 1 h1)) (.slice a1 a2 a3) x.args:=YW 1 ((sa.ext e1));refine WT ?_;refine VA (yy oY sY C.hs hf r hr) ?_;rintro _ _ ⟨rfl,rfl⟩;refine WO.nil (Za zy ?_);refine WT ?_;refine Yi (j:=2) o3 (by show h1.n<=h1.n+1;omega) ?_;refine WT ?_;refine VA (yy oY sY C.hs hf x.a ⟨ha.1,by omega⟩) ?_;rintro _ _ ⟨rfl,rfl⟩;refine WO.nil (Za zy ?_);refine WT ?_;refine Yi (j:=5) o3 (by show h1.n<=h1.n+1;omega) ?_;refine WT ?_;refine VA (zIS oY sY C.hs hf _ x.args saY (fun a ha=>by have:=har a ha;omega) (by omega)) ?_;rintro w X ⟨oW,eX⟩;refine nE eX ?_;have oXq:=oY.ext eX;have oX:U6 hB (inC X) (.pointer (some ⟨gu,0,none⟩)) [.slice t1 t2 t3,.slice f1 f2 f3,.slice s1 s2 s3,.slice r1 r2 r3,I (zl T F),.slice k1 k2 k3,I f,I r,Ze po]:=oXq;obtain⟨w1,w2,w3,rfl⟩:=Wb.shape oW.sl;refine WT ?_;have hd:∃ Dn:Nat->Prop,Bm RCn X [.int .u8 6,I (WZ T F f r),I (WZ T F f x.a),I 0,.slice w1 w2 w3] ⟨6,WZ T F f r,WZ T F f x.a,0,x.args.map (WZ T F f)⟩ Dn/\∀ k,Dn k->h1.n<k/\k<X.n:=by
  have hlm:(x.args.map (WZ T F f)).length<=1000:=by rw[Qp];omega
  rcases id oW with⟨e,hz⟩|⟨g,g1,g2,e,g3⟩
  ·rw[e,hz];exact⟨fun _=>False,fun hx _ _=>⟨_,rfl,WM.nil hx,by simp⟩,fun _ h=>h.elim⟩
  ·have g1:h1.n+1<=g:=g1;refine⟨fun k=>k=g,fun hx h1 h2=>⟨_,rfl,?_,hlm⟩,fun k hk=>by subst hk;omega⟩;rw[e];exact WM.own (QG g2 h2) (h1 g _ rfl g3)
 obtain⟨Dn,hd1,hd2⟩:=hd;refine WU.add (⟨6,WZ T F f r,WZ T F f x.a,0,x.args.map (WZ T F f)⟩:Wh) Dn C M1 eX (by omega) hd1 hd2 ?_;intro H vO' t' hsame MH kH;refine go ?_;refine BB ?_;exact⟨vO',MH,(WQ.ext e1).trans kH⟩
def zOl:U3:=(oV (oR [oB .lss 16 15 14]) (oV (oT 16 0) (oV (o5 1 (oV (oR [oI 1 17 13 15,oL 18 17,oM 5 18]) (o6 [oM 19 0,(⟨some 20,none,(.nilCheck (.tmp 19))⟩,[]),oF 8 21 20,oL 22 21,oM 23 0,oM 24 0,(⟨some 25,none,(.nilCheck (.tmp 24))⟩,[]),oF 7 26 25,oL 27 26,(o2 28 30 23 27,[3]),oM 29 5,(⟨some 30,none,(.build [(.int .u8 0),(.int .i64 0),(.int .i64 0),(.int .i64 0),(.slice none 0 0)] [(0,1,(.const (.int .u8 2))),(1,1,(.tmp 28)),(2,1,(.tmp 29))])⟩,[]),(⟨some 31,none,(.buildSlice 1 5 [(.int .u8 0),(.int .i64 0),(.int .i64 0),(.int .i64 0),(.slice none 0 0)] [(0,5,(.tmp 30))])⟩,[]),(⟨some 32,none,(.call (.tmp 22) [(.tmp 31)])⟩,[])]))) (oR [oC .add 33 15 1,oM 15 33]))))
def zUe:U3:=(oV (oR [oX 3 1]) (oV (oV (oR [oM 6 0,oF 1 7 3,oL 8 7,o2 9 29 6 8]) (oJ 9 .ret .skip)) (oV (oR [oM 10 0,oF 5 11 3,oL 12 11,o2 13 88 10 12,oQ 14 13,oN 15 0]) (o5 0 (.loop zOl)))))
theorem zRH(C:CE hB b vt vf pu po vS vR T F)(M:CM hB h b vt vf pu po vS vR T F vK vO ks f r out)(hf:0<=f/\f<(F.length:Int))(hr:0<=r/\r<=1000)(hl:out.length<=90000)(x:Wg)(va:Value)(b1:Option Addr)(b2 b3:Nat)(sa:WM h va x.args)(I0:CI T F ks x)(hk:ks.length<=1000)(ho:x.op=22):
  WC Tryz.prog tb 58 [pu,.agg #[.int .u8 x.op,I x.ty,I x.a,I x.b,I x.n,va,.slice b1 b2 b3]] h fun _ h'=>CP hB b vt vf pu po vS vR T F vK vO ks f r (out++if W2 T x.ty then[]else zNO T F f r x.args) h h':=by
 have hty:=I0.ty (by omega);have har:=I0.args (by omega);have hal:=I0.al;obtain⟨gu,_,_,rfl,_⟩:=id M.ou;obtain⟨s1,s2,s3,rfl⟩:=zF M.oS.sl;obtain⟨r1,r2,r3,rfl⟩:=Wb.shape M.oR.sl;obtain⟨k1,k2,k3,rfl⟩:=Wb.shape M.oK.sl;obtain⟨t1,t2,t3,rfl⟩:=zF C.E.st;obtain⟨f1,f2,f3,rfl⟩:=zF C.E.sf;obtain⟨a1,a2,a3,rfl⟩:=Wb.shape sa;replace har:=Wa.mk har;refine en 34 [] zUe ?_;refine VH ?_;intro p3 h1 e1 o3;replace o3:U6 h h1 p3 [.int .u8 x.op,I x.ty,I x.a,I x.b,I x.n,.slice a1 a2 a3,.slice b1 b2 b3]:=o3;have M1:=M.ext e1;refine go ?_;refine VA (YP M1.ou (Wv.ext C.E.st M1.e) x.ty hty) ?_;rintro _ _ ⟨rfl,rfl⟩;cases hpl:W2 T x.ty with
 |true=>
  refine gr ?_;exact⟨vO,by simpa using M1,WQ.ext e1⟩
 |false=>
  refine go ?_;refine VA (zIS M1.ou M1.oR.sl C.hs hf _ x.args (sa.ext e1) (fun a ha=>by have:=har.out a ha;omega) (by omega)) ?_;rintro w h2 ⟨oW,e2⟩;have M2:=M1.ext e2;obtain⟨w1,w2,w3,rfl⟩:=Wb.shape oW.sl;have hlm:(x.args.map (WZ T F f)).length=x.args.length:=Qp ..;have hgm:∀ i,i<x.args.length->(x.args.map (WZ T F f)).getD i 0=WZ T F f (x.args.getD i 0):=fun i hi=>zAl hi;have hrb:∀ i,i<x.args.length->0<=WZ T F f (x.args.getD i 0)/\WZ T F f (x.args.getD i 0)<=10000:=fun i hi=>by
   have h1:=har.out _ (zb hi);have h2:=zE8 C.hs hf;unfold WZ;omega
  replace hgm:=Wa.mk hgm;replace hrb:=Wa.mk hrb;generalize hus:x.args.map (WZ T F f)=us at *;have hw1:WK po (.slice w1 w2 w3):=(VF oW.since' M1.oo.within).symm;have hw2:WK vO (.slice w1 w2 w3):=(VF oW.since' fun g hg=>(ZA M1.oO g hg).2).symm;refine go ?_;refine VD [16,17,18,5,19,20,21,22,23,24,25,26,27,28,29,30,31,32,33,15] (by kernel_rfl) (fun i=>x.args.length-i) (fun i t h3=>zB t 15=I i/\i<=x.args.length/\∃ vO',CM hB h3 b (.slice t1 t2 t3) (.slice f1 f2 f3) (.pointer (some ⟨gu,0,none⟩)) po (.slice s1 s2 s3) (.slice r1 r2 r3) T F (.slice k1 k2 k3) vO' ks f r (out++(List.range i).flatMap fun(i:Nat)=>[⟨2,WZ T F f r,WZ T F f (x.args.getD i 0),0,[]⟩])/\WQ po vO h2 h3 vO'/\WM h3 (.slice w1 w2 w3) us) 0 ?_ ?_
  ·exact⟨WA,QT _,vO,by simpa using M2,WQ.refl ..,oW.sl⟩
  rintro i t h3 hsame ⟨s15,hi,vO',M3,kp3,sw⟩;have oW3:=Yx oW kp3 hw1 hw2;refine go ?_;refine VE (fun hc=> ?_) (fun hc=> ?_)<;>simp only[DB]at hc
  ·have hi':i<x.args.length:=by omega
   have hg:=hgm.out i hi';have hrb':=hrb.out i hi';refine go ?_;refine VC 1 rfl rfl ?_;have oY:U6 hB (inC (zC 1 h3)) (.pointer (some ⟨gu,0,none⟩)) [.slice t1 t2 t3,.slice f1 f2 f3,.slice s1 s2 s3,.slice r1 r2 r3,I (zl T F),.slice k1 k2 k3,I f,I r,Ze po]:=yg 1 (M3.ou);have sY:WM (inC (zC 1 h3)) (.slice r1 r2 r3) (Bp T F):=YW 1 (M3.oR.sl);refine WT ?_;refine VA (yy oY sY C.hs hf r hr) ?_;rintro _ _ ⟨rfl,rfl⟩;refine WO.nil (Za zy ?_);refine WT ?_;rw[hg];refine WU.add (X:=inC (zC 1 _)) (⟨2,WZ T F f r,WZ T F f (x.args.getD i 0),0,[]⟩:Wh) (fun _=>False) C M3 (U8.refl _) (by have:=YV (fun(i:Nat)=>[(⟨2,WZ T F f r,WZ T F f (x.args.getD i 0),0,[]⟩:Wh)]) (fun _=>QE _) i;rw[QM];omega) YA (fun _ h=>h.elim) ?_;intro H vO2 t' hsame MH kH;refine go ?_;refine zA (i+1) (by omega) ⟨Wx,by omega,vO2,?_,kp3.trans kH,?_⟩
   ·rw[YH,<-QZ];exact MH
   ·exact(Yx oW (kp3.trans kH) hw1 hw2).sl
  ·have hii:i=x.args.length:=by omega
   subst hii;refine go ?_;refine BB ?_;exact⟨vO',M3,(WQ.ext (e1.trans e2)).trans kp3⟩
end
set_option maxRecDepth 100000
section
variable {P:Program}{tab:Wi}{t:U7 Value}{h:U2}{ds:List Deferred}{rd:Option Nat}{l:List U4}{Q:WF->U2->Prop}
theorem Un{c d:Nat}{cs zero:List Value}{w:Value}{x:Operand}(k:∀ h',U8 h h'->h'.get h.n=some (.row cs true 0)->h.n<h'.n->WO P tab l ⟨t.set d (.slice (some ⟨h.n,0,none⟩) 1 c),ds,rd⟩ h' Q)(hx:WI t x w:=by exact zr)(hw:w.cells=cs.toArray:=by rfl)(hc:cs.length=c:=by rfl)(hz:zero.length=c:=by rfl):
  WO P tab (⟨some d,none,.buildSlice 1 c zero [(0,c,x)]⟩::l) ⟨t,ds,rd⟩ h Q:=by
 have hx:ev t x=w:=hx;exact WO.op (.slice (some ⟨h.n,0,none⟩) 1 c) (h.push (.row cs true 0)) rfl (by
  simp only[WE,zo,Qm,Gf,hx,Y6 hw hc hz,QL];rfl) (k _ (Zg _ _) (zV _ _) (Q7 _))
end
theorem zTE{T:List U5}:∀ (n k:Nat),k<n->(∀ j,j<=k->ZS T j)->∀ x∈yN T k,0<=x/\x<=(k:Int):=by
 intro n;induction n with
 |zero=>intro k h;omega
 |succ n ih=>
  intro k hk hM x hx;have hm:=hM k (QE _);rw[zAG hM]at hx;split at hx
  ·rename_i h4;have hp:=(zFS hm h4).2;obtain⟨l,hl,hx⟩:=List.mem_flatten.1 hx;obtain⟨p,hpp,rfl⟩:=Qt.1 hl;have:=hp p hpp;have:=ih p.toNat (by omega) (fun j hj=>hM j (by omega)) x hx;omega
  ·split at hx
   ·rename_i h4 h5;have hp:=zIe hm h5;have:=ih (T.getD k default).elem.toNat (by omega) (fun j hj=>hM j (by omega)) x hx;omega
   ·rw[QW]at hx;subst hx;omega
section
variable {h hB:U2}{b:Nat}{vt vf pu po vS vR vK vO:Value}{T:List U5}{F:List WP}{ks:List Int}{f r:Int}{out:List Wh}
def zO2:U3:=(oV (oR [oB .lss 22 21 20]) (oV (oT 22 0) (oV (o5 1 (oV (oR [oI 3 23 19 21,oA 3 24 23,⟨some 6,none,(.alloc [(.int .i64 0),(.int .i64 0),(.int .i64 0)])⟩,oS 3 6 24]) (oV (oR [oM 25 3,oM 26 4,oQ 27 26,oB .add 28 25 27,oM 3 28]) (oV (o6 [oM 30 0,(⟨some 31,none,(.nilCheck (.tmp 30))⟩,[]),oF 0 32 31,oF 0 33 32,oL 34 33,oF 2 35 6,oL 36 35,o2 37 80 34 36,oM 29 37,oE 38 29 0,oE 39 29 1,oM 4 38]) (oV (o6 [oF 0 40 6,oL 41 40,oM 42 0,(⟨some 43,none,(.nilCheck (.tmp 42))⟩,[]),oF 6 44 43,oL 45 44,oB .eql 46 41 45,oM 47 46,oG 47 (oF 1 48 6),oG 47 (oL 49 48),oG 47 (oM 50 0),(⟨some 51,some (47,true),(.nilCheck (.tmp 50))⟩,[]),oG 47 (oF 7 52 51),oG 47 (oL 53 52),oG 47 (oB .eql 54 49 53),oP 55 47 54]) (oJ 55 (.exit 0) .skip)))))) (oR [oC .add 56 21 1,oM 21 56]))))
def zPD:U3:=(oV (oR [oB .lss 77 76 75]) (oV (oT 77 2) (oV (o5 3 (oV (oR [oM 78 76,oI 1 79 74 76,oL 80 79,oM 7 78,oM 8 80]) (oV (oR [oM 81 0,⟨some 82,none,(.nilCheck (.tmp 81))⟩,oF 4 83 82,oL 84 83,oM 85 2,oB .add 86 84 85,oM 87 3,oB .add 88 86 87,oM 89 7,oB .add 90 88 89,oM 9 90]) (oV (oR [oM 91 0,oM 92 8,o2 93 29 91 92,oW 94 93]) (oJ 94 (oR [oM 95 0,⟨some 96,none,(.nilCheck (.tmp 95))⟩,oF 8 97 96,oL 98 97,oM 99 9,⟨some 100,none,(.build [(.int .u8 0),(.int .i64 0),(.int .i64 0),(.int .i64 0),(.slice none 0 0)] [(0,1,(.const (.int .u8 1))),(1,1,(.tmp 99))])⟩,⟨some 101,none,(.buildSlice 1 5 [(.int .u8 0),(.int .i64 0),(.int .i64 0),(.int .i64 0),(.slice none 0 0)] [(0,5,(.tmp 100))])⟩,⟨some 102,none,(.call (.tmp 98) [(.tmp 101)])⟩]) .skip))))) (oR [oC .add 103 76 1,oM 76 103]))))
def zUb:U3:=(oV (oR [oM 10 0,⟨some 11,none,(.nilCheck (.tmp 10))⟩,oF 0 12 11,oF 1 13 12,oL 14 13,oQ 15 14,oM 2 15,oN 3 0]) (oV (oR [oK 4 (.slice none 0 0)]) (oV (oV (oR [oM 16 0,⟨some 17,none,(.nilCheck (.tmp 16))⟩,oF 2 18 17,oL 19 18,oQ 20 19,oN 21 0]) (o5 0 (.loop zO2))) (oV (o6 [oM 57 0,(⟨some 58,none,(.nilCheck (.tmp 57))⟩,[]),oF 8 59 58,oL 60 59,oM 61 0,oM 62 0,(⟨some 63,none,(.nilCheck (.tmp 62))⟩,[]),oF 7 64 63,oL 65 64,(o2 66 30 61 65,[3]),oM 67 2,(⟨some 68,none,(.bin .add (.const (.int .i64 1)) (.tmp 67))⟩,[]),oM 69 3,oB .add 70 68 69,(⟨some 71,none,(.build [(.int .u8 0),(.int .i64 0),(.int .i64 0),(.int .i64 0),(.slice none 0 0)] [(0,1,(.const (.int .u8 1))),(1,1,(.tmp 66)),(3,1,(.tmp 70))])⟩,[]),(⟨some 72,none,(.buildSlice 1 5 [(.int .u8 0),(.int .i64 0),(.int .i64 0),(.int .i64 0),(.slice none 0 0)] [(0,5,(.tmp 71))])⟩,[]),(⟨some 73,none,(.call (.tmp 60) [(.tmp 72)])⟩,[])]) (oV (oR [oM 74 4,oQ 75 74,oN 76 0]) (o5 2 (.loop zPD)))))))
theorem zN4(C:CE hB b vt vf pu po vS vR T F)(M:CM hB h b vt vf pu po vS vR T F vK vO ks f r out)(hf:0<=f/\f<(F.length:Int))(hr:0<=r/\r<=1000)(hl:out.length<=90000):
  WC Tryz.prog tb 52 [pu] h fun _ h'=>CP hB b vt vf pu po vS vR T F vK vO ks f r (out++zGJ T F f r (YL T f r (zn T F) 0 [])) h h':=by
 have hp:=(zk C.hs).1;obtain⟨hc,hF1,hF8,hfn⟩:=yX hp;have hlow:=zC4 hc;have hty:=zAd C.hs;have hsl:=zB6 C.hs;have hA:=(zE8 C.hs hf).2.2.2.2;have hfl:∀ k:Int,0<=k->k<(T.length:Int)->(yN T k.toNat).length<=32/\∀ x∈yN T k.toNat,0<=x/\x<(T.length:Int):=fun k k0 k1=>by
  have h1:=fun j (hj:j<=k.toNat)=>(hlow j (by omega)).1;refine⟨QO (zDF (k.toNat+1) k.toNat (Q7 _) h1) (hlow k.toNat (by omega)).2,fun x hx=> ?_⟩;have:=zTE (k.toNat+1) k.toNat (Q7 _) h1 x hx;omega
 obtain⟨gu,_,_,rfl,_⟩:=id M.ou;have sS:=M.oS.sl;obtain⟨s1,s2,s3,rfl⟩:=zF sS;obtain⟨r1,r2,r3,rfl⟩:=Wb.shape M.oR.sl;obtain⟨k1,k2,k3,rfl⟩:=Wb.shape M.oK.sl;obtain⟨t1,t2,t3,rfl⟩:=zF C.E.st;obtain⟨f1,f2,f3,rfl⟩:=zF (Wr.ext C.E.sf M.e);have sf0:=Wr.ext C.E.sf M.e;have o0:=M.ou;replace hlow:=Wa.mk hlow;replace hty:=Wa.mk hty;replace hfl:=Wa.mk hfl;replace hfn:=Wa.mk hfn;generalize hq:YL T f r (zn T F) 0 []=q;refine en 104 [] zUb ?_;refine WX.cutX [22,23,24,6,25,26,27,28,3,30,31,32,33,34,35,36,37,29,38,39,4,40,41,42,43,44,45,46,47,48,49,50,51,52,53,54,55,56,21] (by kernel_rfl) (fun t h'=>U8 h h'/\zB t 3=I q.1/\(0<=q.1/\q.1<=40000)/\(∀ x∈q.2,0<=x/\x<(T.length:Int))/\q.2.length<=40/\∃ v,zB t 4=v/\WJ h h' v q.2) ?_ ?_
 ·refine VD [22,23,24,6,25,26,27,28,3,30,31,32,33,34,35,36,37,29,38,39,4,40,41,42,43,44,45,46,47,48,49,50,51,52,53,54,55,56,21] (by kernel_rfl) (fun i=>(zn T F).length-i) (fun i t h1=>zB t 21=I i/\i<=(zn T F).length/\U8 h h1/\∃ a v l,zB t 3=I a/\zB t 4=v/\WJ h h1 v l/\YL T f r ((zn T F).drop i) a l=q/\0<=a/\a+l.length<=32*i/\l.length<=32/\∀ x∈l,0<=x/\x<(T.length:Int)) 0 ?_ ?_
  ·exact⟨WA,QT _,U8.refl _,0,_,[],WA,WA,.inl ⟨rfl,rfl⟩,by simpa using hq,by omega,by simp,by simp,fun x hx=>by cases hx⟩
  rintro i t h1 hsame ⟨s21,hi,e1,a,v,l,sl3,sl4,ov,hfq,a0,a1,ll,lin⟩;have o1:=M.ou.ext e1;have sS1:=SlS.ext sS e1;have slv:=ov.sl;obtain⟨v1,v2,v3,rfl⟩:=Wb.shape slv;refine go ?_;refine VE (fun hb=> ?_) (fun hb=> ?_)<;>simp only[DB]at hb
  ·have hi':i<(zn T F).length:=by omega
   obtain⟨cs,hcs,pc,hsS⟩:=yv (i:=i) sS1 hi';have htyi:=hty.out _ (zJ hi');have hdr:(zn T F).drop i=(zn T F).getD i default::(zn T F).drop (i+1):=by
    rw[GI hi'];simp[List.getD,QB hi']
   rw[hdr]at hfq;clear hdr;generalize(zn T F).getD i default=s at *;have hcs:cs=[I s.fn,I s.nr,I s.ty]:=hcs;subst hcs;have hfs:=hfl.out s.ty htyi.1 htyi.2;unfold YL at hfq;refine go ?_;refine WO.al ?_;intro p6 h2 e2 o6;refine go ?_;refine VG o6 e2 ?_;intro h3 e3 o6 _;have e13:=e1.trans e3;have o3:=M.ou.ext e13;have slv3:=slv.ext e3;refine go ?_;refine VC 0 rfl rfl ?_;have oY:U6 hB (inC (zC 0 h3)) (.pointer (some ⟨gu,0,none⟩)) [.slice t1 t2 t3,.slice f1 f2 f3,.slice s1 s2 s3,.slice r1 r2 r3,I (zl T F),.slice k1 k2 k3,I f,I r,Ze po]:=o3;have o6Y:U6 h1 (inC (zC 0 h3)) p6 [I s.fn,I s.nr,I s.ty]:=o6;have stY:Wv (inC (zC 0 h3)) (.slice t1 t2 t3) T:=zJy 0 (Wv.ext C.E.st (M.e.trans e13));refine WT ?_;refine VA (zDI _ _ T s.ty stY C.E.sm.types C.E.sm.parts hc htyi (QE _)) ?_;rintro _ X ⟨⟨w,rfl,oW⟩,eX⟩;obtain⟨w1,w2,w3,rfl⟩:=Wb.shape oW.sl;refine nE eX ?_;refine WT ?_;have eXq:=(za 0 h3).trans (yr (h:=h3) eX);have eX':U8 h3 (yu h3 (inC X)):=eXq;clear eXq;have oW':WJ h (yu h3 (inC X)) (.slice w1 w2 w3) (yN T s.ty.toNat):=by
    rcases oW with⟨e,z⟩|⟨g,g1,g2,g3,g4⟩
    ·exact .inl ⟨e,z⟩
    ·have g1:h3.n+0<=g:=g1;have:=e13.n;exact .inr ⟨g,by omega,g2,g3,g4⟩
   have o6':U6 h1 (yu h3 (inC X)) p6 [I s.fn,I s.nr,I s.ty]:=o6.ext eX';have e15:=e13.trans eX';generalize yu h3 (inC X)=h4 at *;have o4:=M.ou.ext e15;by_cases c1:s.fn=f
   ·by_cases c2:s.nr=r
    ·rw[QI ⟨c1,c2⟩]at hfq;subst hfq;refine go ?_;refine zFT ?_;exact⟨e15,WA,by simp only;omega,hfs.2,by simp only;omega,_,WA,oW'⟩
    ·rw[QC (fun e=>c2 e.2)]at hfq;refine go ?_;exact zA (i+1) (by omega) ⟨Wx,by omega,e15,_,_,_,WA,WA,oW',hfq,by omega,by omega,hfs.1,hfs.2⟩
   ·rw[QC (fun e=>c1 e.1)]at hfq;refine go ?_;exact zA (i+1) (by omega) ⟨Wx,by omega,e15,_,_,_,WA,WA,oW',hfq,by omega,by omega,hfs.1,hfs.2⟩
  ·have hii:i=(zn T F).length:=by omega
   subst hii;rw[List.drop_length]at hfq;unfold YL at hfq;subst hfq;refine go ?_;refine zFT ?_;exact⟨e1,WA,by simp only;omega,lin,by simp only;omega,_,WA,ov⟩
 intro t' h1 hsame ⟨e1,q3,q0,qin,ql,v,q4,ov⟩;obtain⟨v1,v2,v3,rfl⟩:=Wb.shape ov.sl;have M1:=M.ext e1;clear hq;obtain⟨qa,ql'⟩:=q;simp only at *;have hv1:WK po (.slice v1 v2 v3):=(VF ov.since' M.oo.within).symm;have hv2:WK vO (.slice v1 v2 v3):=(VF ov.since' fun g hg=>(ZA M.oO g hg).2).symm;refine go ?_;refine VC 1 rfl rfl ?_;have oY:U6 hB (inC (zC 1 h1)) (.pointer (some ⟨gu,0,none⟩)) [.slice t1 t2 t3,.slice f1 f2 f3,.slice s1 s2 s3,.slice r1 r2 r3,I (zl T F),.slice k1 k2 k3,I f,I r,Ze po]:=yg 1 (M1.ou);have sY:WM (inC (zC 1 h1)) (.slice r1 r2 r3) (Bp T F):=YW 1 (M1.oR.sl);refine WT ?_;refine VA (yy oY sY C.hs hf r hr) ?_;rintro _ _ ⟨rfl,rfl⟩;refine WO.nil (Za zy ?_);refine WT ?_;refine WU.add (X:=inC (zC 1 _)) (⟨1,WZ T F f r,0,1+F.length+qa,[]⟩:Wh) (fun _=>False) C M1 (U8.refl _) (by omega) YA (fun _ h=>h.elim) ?_;intro h2 vO2 t2' hsame2 M2 kk2;have ov2:=Yx ov kk2 hv1 hv2;have hv3:WK vO2 (.slice v1 v2 v3):=fun g h1 h2=>by
  rcases kk2.2.2 g h1 with h|h
  ·exact hv2 g h h2
  ·have:=ov.within g h2;omega
 replace qin:=Wa.mk qin;refine go ?_;refine VD [77,78,79,80,7,8,81,82,83,84,85,86,87,88,89,90,9,91,92,93,94,95,96,97,98,99,100,101,102,103,76] (by kernel_rfl) (fun i=>ql'.length-i) (fun i t h3=>zB t 76=I i/\i<=ql'.length/\∃ vO',CM hB h3 b (.slice t1 t2 t3) (.slice f1 f2 f3) (.pointer (some ⟨gu,0,none⟩)) po (.slice s1 s2 s3) (.slice r1 r2 r3) T F (.slice k1 k2 k3) vO' ks f r (out++[⟨1,WZ T F f r,0,1+F.length+qa,[]⟩]++(List.range i).flatMap fun(i:Nat)=>if W2 T (ql'.getD i 0)then[]else[⟨1,zl T F+F.length+qa+i,0,0,[]⟩])/\WQ po vO2 h2 h3 vO') 0 ?_ ?_
 ·exact⟨WA,QT _,vO2,by simpa using M2,WQ.refl ..⟩
 rintro i t h3 hsame3 ⟨s76,hi,vO',M3,k3'⟩;have ov3:=(Yx ov2 k3' hv1 hv3).sl;refine go ?_;refine VE (fun hb=> ?_) (fun hb=> ?_)<;>simp only[DB]at hb
 ·have hi':i<ql'.length:=by omega
  have hx:=qin.out _ (zb hi');have o3:=M3.ou;refine go ?_;refine VA (YP M3.ou (Wv.ext C.E.st M3.e) (ql'.getD i 0) hx) ?_;rintro _ _ ⟨rfl,rfl⟩;have hsn:=YH (fun(i:Nat)=>if W2 T (ql'.getD i 0)then[]else[(⟨1,zl T F+F.length+qa+i,0,0,[]⟩:Wh)]) i;cases hpl:W2 T (ql'.getD i 0)with
  |true=>
   rw[hpl]at hsn;refine go ?_;refine zA (i+1) (by omega) ⟨Wx,by omega,vO',?_,k3'⟩;rw[hsn];simpa using M3
  |false=>
   rw[hpl]at hsn;refine go ?_;refine Un (cs:=[.int .u8 1,I (zl T F+F.length+qa+i),I 0,I 0,.slice none 0 0]) ?_;intro h4 e4 g4 n4;have M4:=M3.ext e4;have o4:=M4.ou;refine go ?_;have hcall:=WV.func (args:=[.slice (some ⟨h3.n,0,none⟩) 1 5]) (first:=#[]) (cap:=#[po]) (zKk hB h4 b h3.n po vO' _ ⟨1,zl T F+F.length+qa+i,0,0,[]⟩ _ (fun _=>False) M4.e C.bn M4.hb M4.oo C.bo M4.oO (by have:=YV (fun(i:Nat)=>if W2 T (ql'.getD i 0)then[]else[(⟨1,zl T F+F.length+qa+i,0,0,[]⟩:Wh)]) (fun _=>zAD _ _) i;simp only[QM,Qa];omega) YA (fun _ h=>h.elim) (fun _ _ _ _ h=>h) rfl rfl g4 n4);refine VN (fv:=Ze po) hcall ?_;rintro _ h5 ⟨vO5,e5,oo5,oO5,kk5,_⟩;have M5:=M4.add C kk5 e5 oo5 oO5;refine go ?_;refine zA (i+1) (by omega) ⟨Wx,by omega,vO5,?_,k3'.trans ((WQ.ext e4).trans kk5)⟩;rw[hsn,<-QZ];exact M5
 ·have hii:i=ql'.length:=by omega
  subst hii;refine go ?_;refine BB ?_;refine⟨vO',?_,(WQ.ext e1).trans (kk2.trans k3')⟩;unfold zGJ zKj;simpa using M3
end
set_option maxRecDepth 100000
section
variable {h hB:U2}{b:Nat}{vt vf pu po vS vR vK vO:Value}{T:List U5}{F:List WP}{ks:List Int}{f r:Int}{out:List Wh}
def zPO:U3:=(oV (oR [oB .lss 28 27 26]) (oV (oT 28 0) (oV (o5 1 (oV (oR [oM 29 27,oI 1 30 25 27,oL 31 30,oM 5 29,oM 6 31]) (oV (oR [oM 32 0,oM 33 6,o2 34 29 32 33,oW 35 34]) (oJ 35 (o6 [oM 36 0,(⟨some 37,none,(.nilCheck (.tmp 36))⟩,[]),oF 8 38 37,oL 39 38,oM 40 0,(⟨some 41,none,(.nilCheck (.tmp 40))⟩,[]),oF 3 42 41,oL 43 42,oM 44 4,oI 1 45 43 44,oL 46 45,oM 47 5,oB .add 48 46 47,oM 49 0,oF 5 50 3,oL 51 50,oM 52 5,oI 1 53 51 52,oL 54 53,(o2 55 30 49 54,[3,7,10]),(⟨some 56,none,(.build [(.int .u8 0),(.int .i64 0),(.int .i64 0),(.int .i64 0),(.slice none 0 0)] [(0,1,(.const (.int .u8 2))),(1,1,(.tmp 48)),(2,1,(.tmp 55))])⟩,[]),(⟨some 57,none,(.buildSlice 1 5 [(.int .u8 0),(.int .i64 0),(.int .i64 0),(.int .i64 0),(.slice none 0 0)] [(0,5,(.tmp 56))])⟩,[]),(⟨some 58,none,(.call (.tmp 39) [(.tmp 57)])⟩,[])]) .skip)))) (oR [oC .add 59 27 1,oM 27 59]))))
def zTQ:U3:=(oV (oR [oX 3 1]) (oV (oR [oF 4 7 3,oL 8 7,oM 4 8]) (oV (oV (o6 [oM 9 0,(⟨some 10,none,(.nilCheck (.tmp 9))⟩,[]),oF 0 11 10,oF 0 12 11,oL 13 12,oM 14 0,(⟨some 15,none,(.nilCheck (.tmp 14))⟩,[]),oF 0 16 15,oF 1 17 16,oL 18 17,oM 19 4,oI 2 20 18 19,oF 0 21 20,oL 22 21,oI 4 23 13 22,oF 3 24 23,oL 25 24,oQ 26 25,oN 27 0]) (o5 0 (.loop zPO))) (oV (oR [oM 60 0,oF 1 61 3,oL 62 61,o2 63 29 60 62,oW 64 63]) (oJ 64 (o6 [oM 65 0,(⟨some 66,none,(.nilCheck (.tmp 65))⟩,[]),oF 8 67 66,oL 68 67,oM 69 0,oM 70 0,(⟨some 71,none,(.nilCheck (.tmp 70))⟩,[]),oF 7 72 71,oL 73 72,(o2 74 30 69 73,[3]),oM 75 0,(⟨some 76,none,(.nilCheck (.tmp 75))⟩,[]),oF 4 77 76,(oL 78 77,[9]),oM 79 4,oB .add 80 78 79,(⟨some 81,none,(.build [(.int .u8 0),(.int .i64 0),(.int .i64 0),(.int .i64 0),(.slice none 0 0)] [(0,1,(.const (.int .u8 2))),(1,1,(.tmp 74)),(2,1,(.tmp 80))])⟩,[]),(⟨some 82,none,(.buildSlice 1 5 [(.int .u8 0),(.int .i64 0),(.int .i64 0),(.int .i64 0),(.slice none 0 0)] [(0,5,(.tmp 81))])⟩,[]),(⟨some 83,none,(.call (.tmp 68) [(.tmp 82)])⟩,[])]) .skip)))))
theorem zO8(C:CE hB b vt vf pu po vS vR T F)(M:CM hB h b vt vf pu po vS vR T F vK vO ks f r out)(hf:0<=f/\f<(F.length:Int))(hr:0<=r/\r<=1000)(hl:out.length<=90000)(x:Wg)(va:Value)(b1:Option Addr)(b2 b3:Nat)(sa:WM hB va x.args)(I0:CI T F ks x)(hk:ks.length<=1000)(ho:x.op=18):
  WC Tryz.prog tb 56 [pu,.agg #[.int .u8 x.op,I x.ty,I x.a,I x.b,I x.n,va,.slice b1 b2 b3]] h fun _ h'=>CP hB b vt vf pu po vS vR T F vK vO ks f r (out++(zFV T F f x.n (z8 T F x.n).parts x.args++if W2 T x.ty then[]else[⟨2,WZ T F f r,zl T F+x.n,0,[]⟩])) h h':=by
 have hty:=I0.ty (by omega);have har:=I0.args (by omega);have hal:=I0.al;obtain⟨hn,hpl,hsg,hpin⟩:=I0.c18 ho;have hA:=zE8 C.hs hn;have hFm:=C.E.sm.funcs;have hAn:=hA.2.2.2.2;obtain⟨gu,_,_,rfl,_⟩:=id M.ou;obtain⟨s1,s2,s3,rfl⟩:=zF M.oS.sl;have sR0:=M.oR.sl;obtain⟨r1,r2,r3,rfl⟩:=Wb.shape sR0;obtain⟨k1,k2,k3,rfl⟩:=Wb.shape M.oK.sl;obtain⟨a1,a2,a3,rfl⟩:=Wb.shape sa;obtain⟨csF,⟨vb,rfl,sb,hlb⟩,pcF,hsF⟩:=yA (i:=x.n.toNat) C.E.sf (by omega);obtain⟨csT,⟨vp,rfl,sp,hlp⟩,pcT,hsT⟩:=yA (i:=(F.getD x.n.toNat default).sig.toNat) C.E.st (by omega);have hsig:z8 T F x.n=T.getD (F.getD x.n.toNat default).sig.toNat default:=rfl;rw[<-hsig]at sp hlp pcT;obtain⟨t1,t2,t3,rfl⟩:=zF C.E.st;obtain⟨f1,f2,f3,rfl⟩:=zF C.E.sf;obtain⟨b1',b2',b3',rfl⟩:=zF sb;obtain⟨p1,p2,p3',rfl⟩:=Wb.shape sp;generalize(F.getD x.n.toNat default).sig=sg at *;have hgat:∀ i:Nat,WZ T F x.n i=(Bp T F).getD x.n.toNat 0+i:=fun i=>by unfold WZ;rw[hA.2.1]
 have hfb:0<=(Bp T F).getD x.n.toNat 0/\(Bp T F).getD x.n.toNat 0<=8000:=by rw[hA.2.1];exact⟨hA.2.2.1,hA.2.2.2.1⟩
 have hfl:=hA.1;clear hA;unfold zFV;generalize(z8 T F x.n).parts=ps at *;have hL:∀ i:Nat,(out++(List.range i).flatMap fun(i:Nat)=>if W2 T (ps.getD i 0)then[]else[(⟨2,WZ T F x.n i,WZ T F f (x.args.getD i 0),0,[]⟩:Wh)]).length<=90000+i:=fun i=>by
  have:=YV (fun(i:Nat)=>if W2 T (ps.getD i 0)then[]else[(⟨2,WZ T F x.n i,WZ T F f (x.args.getD i 0),0,[]⟩:Wh)]) (fun _=>zAD _ _) i;rw[QM];omega
 replace har:=Wa.mk har;replace hpin:=Wa.mk hpin;replace hgat:=Wa.mk hgat;refine en 84 [] zTQ ?_;refine VH ?_;intro p3 h1 e1 o3;replace o3:U6 h h1 p3 [.int .u8 x.op,I x.ty,I x.a,I x.b,I x.n,.slice a1 a2 a3,.slice b1 b2 b3]:=o3;have M1:=M.ext e1;have o1:=M1.ou;have sp1:=sp.ext M1.e;have sf1:=Wr.ext C.E.sf M1.e;have st1:=Wv.ext C.E.st M1.e;have pcF1:=(pcF _ M1.e).1;have pcT1:=(pcT _ M1.e).1;have hp1:WK po p3:=(VF o3.since' M.oo.within).symm;have hp2:WK vO p3:=(VF o3.since' fun g hg=>(ZA M.oO g hg).2).symm;refine go ?_;refine VD [28,29,30,31,5,6,32,33,34,35,36,37,38,39,40,41,42,43,44,45,46,47,48,49,50,51,52,53,54,55,56,57,58,59,27] (by kernel_rfl) (fun i=>ps.length-i) (fun i t h3=>zB t 27=I i/\i<=ps.length/\∃ vO',CM hB h3 b (.slice t1 t2 t3) (.slice f1 f2 f3) (.pointer (some ⟨gu,0,none⟩)) po (.slice s1 s2 s3) (.slice r1 r2 r3) T F (.slice k1 k2 k3) vO' ks f r (out++(List.range i).flatMap fun(i:Nat)=>if W2 T (ps.getD i 0)then[]else[⟨2,WZ T F x.n i,WZ T F f (x.args.getD i 0),0,[]⟩])/\WQ po vO h1 h3 vO') 0 ?_ ?_
 ·exact⟨WA,QT _,vO,by simpa using M1,WQ.refl ..⟩
 rintro i t h3 hsame ⟨s27,hi,vO',M3,k3'⟩;obtain⟨o33,hp3⟩:=VP o3 k3' hp1 hp2;have sp3:=sp.ext M3.e;have o3u:=M3.ou;refine go ?_;refine VE (fun hb=> ?_) (fun hb=> ?_)<;>simp only[DB]at hb
 ·have hi':i<ps.length:=by omega
  have hia:i<x.args.length:=by omega
  have hx:=hpin.out _ (zb hi');have hai:=har.out _ (zb hia);have hg:=hgat.out i;have hsn:=YH (fun(i:Nat)=>if W2 T (ps.getD i 0)then[]else[(⟨2,WZ T F x.n i,WZ T F f (x.args.getD i 0),0,[]⟩:Wh)]) i;refine go ?_;refine VA (YP M3.ou (Wv.ext C.E.st M3.e) (ps.getD i 0) hx) ?_;rintro _ _ ⟨rfl,rfl⟩;cases hplb:W2 T (ps.getD i 0)with
  |true=>
   rw[hplb]at hsn;refine go ?_;refine zA (i+1) (by omega) ⟨Wx,by omega,vO',?_,k3'⟩;rw[hsn];simpa using M3
  |false=>
   rw[hplb]at hsn;refine go ?_;refine VC 1 rfl rfl ?_;have oY3:U6 hB (inC (zC 1 h3)) (.pointer (some ⟨gu,0,none⟩)) [.slice t1 t2 t3,.slice f1 f2 f3,.slice s1 s2 s3,.slice r1 r2 r3,I (zl T F),.slice k1 k2 k3,I f,I r,Ze po]:=yg 1 (M3.ou);have sY3:WM (inC (zC 1 h3)) (.slice r1 r2 r3) (Bp T F):=YW 1 (M3.oR.sl);have o3Y:U6 h (inC (zC 1 h3)) p3 [.int .u8 x.op,I x.ty,I x.a,I x.b,I x.n,.slice a1 a2 a3,.slice b1 b2 b3]:=yg 1 (o33);have saY:WM (inC (zC 1 h3)) (.slice a1 a2 a3) x.args:=YW 1 ((sa.ext M3.e));refine WT ?_;refine VA (yy oY3 sY3 C.hs hf (x.args.getD i 0) (by omega)) ?_;rintro _ _ ⟨rfl,rfl⟩;refine WO.nil (Za zy ?_);refine WT ?_;rw[<-hg];refine WU.add (X:=inC (zC 1 _)) (⟨2,WZ T F x.n i,WZ T F f (x.args.getD i 0),0,[]⟩:Wh) (fun _=>False) C M3 (U8.refl _) (by have:=hL i;omega) YA (fun _ h=>h.elim) ?_;intro H vO2 t' hsame2 MH kH;refine go ?_;refine zA (i+1) (by omega) ⟨Wx,by omega,vO2,?_,k3'.trans kH⟩;rw[hsn,<-QZ];exact MH
 ·have hii:i=ps.length:=by omega
  subst hii;refine go ?_;refine VA (YP M3.ou (Wv.ext C.E.st M3.e) x.ty hty) ?_;rintro _ _ ⟨rfl,rfl⟩;cases hplb:W2 T x.ty with
  |true=>
   refine go ?_;refine BB ?_;exact⟨vO',by simpa using M3,(WQ.ext e1).trans k3'⟩
  |false=>
   refine go ?_;refine VC 1 rfl rfl ?_;have oY3:U6 hB (inC (zC 1 h3)) (.pointer (some ⟨gu,0,none⟩)) [.slice t1 t2 t3,.slice f1 f2 f3,.slice s1 s2 s3,.slice r1 r2 r3,I (zl T F),.slice k1 k2 k3,I f,I r,Ze po]:=yg 1 (M3.ou);have sY3:WM (inC (zC 1 h3)) (.slice r1 r2 r3) (Bp T F):=YW 1 (M3.oR.sl);refine WT ?_;refine VA (yy oY3 sY3 C.hs hf r hr) ?_;rintro _ _ ⟨rfl,rfl⟩;refine WO.nil (Za zy ?_);refine WT ?_;refine Yi (j:=4) M3.ou (by show h3.n<=h3.n+1;omega) ?_;refine WT ?_;refine WU.add (X:=inC (zC 1 _)) (⟨2,WZ T F f r,zl T F+x.n,0,[]⟩:Wh) (fun _=>False) C M3 (U8.refl _) (by have:=hL ps.length;omega) YA (fun _ h=>h.elim) ?_;intro H vO2 t' hsame2 MH kH;refine go ?_;refine BB ?_;exact⟨vO2,by simpa using MH,(WQ.ext e1).trans (k3'.trans kH)⟩
def zTP:U3:=(oV (oR [oX 3 1]) (oV (oR [oF 0 4 3,oL 5 4]) (o5 0 (oV (oV (oR [oD .eql 7 5 2,oM 6 7]) (oJ 6 .skip (oR [oD .eql 8 5 3,oM 6 8]))) (oJ 6 (oR [oM 9 0,oA 7 10 3,o2 11 51 9 10]) (oV (oV (oR [oD .eql 13 5 11,oM 12 13]) (oJ 12 .skip (oR [oD .eql 14 5 12,oM 12 14]))) (oJ 12 (oR [oM 15 0,o1 16 52 15]) (oV (oV (oR [oD .eql 18 5 14,oM 17 18]) (oJ 17 .skip (oR [oD .eql 19 5 15,oM 17 19]))) (oJ 17 (oR [oM 20 0,oA 7 21 3,o2 22 53 20 21]) (oV (oR [oD .eql 24 5 16,oM 23 24]) (oJ 23 (oR [oM 25 0,oA 7 26 3,o2 27 54 25 26]) (oV (oR [oD .eql 29 5 17,oM 28 29]) (oJ 28 (oR [oM 30 0,oA 7 31 3,o2 32 55 30 31]) (oV (oR [oD .eql 34 5 18,oM 33 34]) (oJ 33 (oR [oM 35 0,oA 7 36 3,o2 37 56 35 36]) (oV (oR [oD .eql 39 5 19,oM 38 39]) (oJ 38 (oR [oM 40 0,oA 7 41 3,o2 42 57 40 41]) (oV (oR [oD .eql 44 5 22,oM 43 44]) (oJ 43 (oR [oM 45 0,oA 7 46 3,o2 47 58 45 46]) .skip)))))))))))))))))))
theorem zP9(C:CE hB b vt vf pu po vS vR T F)(M:CM hB h b vt vf pu po vS vR T F vK vO ks f r out)(hf:0<=f/\f<(F.length:Int))(hr:0<=r/\r<=1000)(hl:out.length<=90000)(x:Wg)(va:Value)(b1:Option Addr)(b2 b3:Nat)(sa:WM hB va x.args)(I0:CI T F ks x)(hk:ks.length<=1000):
  WC Tryz.prog tb 28 [pu,.agg #[.int .u8 x.op,I x.ty,I x.a,I x.b,I x.n,va,.slice b1 b2 b3]] h fun _ h'=>CP hB b vt vf pu po vS vR T F vK vO ks f r (out++Z0 T F f ks r x) h h':=by
 obtain⟨a1,a2,a3,rfl⟩:=Wb.shape sa;have hop:=I0.op;refine en 48 [] zTP ?_;refine VH ?_;intro p3 h1 e1 o3;replace o3:U6 h h1 p3 [.int .u8 x.op,I x.ty,I x.a,I x.b,I x.n,.slice a1 a2 a3,.slice b1 b2 b3]:=o3;have M1:=M.ext e1;have fin:∀ {l:List Wh} {h2:U2},l=Z0 T F f ks r x->CP hB b vt vf pu po vS vR T F vK vO ks f r (out++l) h1 h2->CP hB b vt vf pu po vS vR T F vK vO ks f r (out++Z0 T F f ks r x) h h2:=fun e ⟨v,a,c⟩=>⟨v,by rw[<-e];exact a,(WQ.ext e1).trans c⟩;have sa1:=sa.ext M1.e;by_cases c1:x.op=2\/x.op=3
 ·have hc:[(⟨1,WZ T F f r,0,if x.op=3 then x.n+1 else 0,[]⟩:Wh)]=Z0 T F f ks r x:=by unfold Z0;rw[QI c1]
  have hn3:x.op=3->0<=x.n/\x.n<=1000:=fun e=>by have:=I0.n3 e;have:=C.E.sm.funcs;omega
  rcases c1 with c1|c1;all_goals
   refine go ?_
   refine VA (zPM C M1 hf hr hl x a1 b1 a2 a3 b2 b3 hn3) ?_
   rintro rr h2 q2
   refine go ?_
   refine BB ?_
   exact fin hc q2
 by_cases c2:x.op=11\/x.op=12
 ·have hc:zGJ T F f r (YL T f r (zn T F) 0 [])=Z0 T F f ks r x:=by unfold Z0;rw[QC c1,QI c2]
  rcases c2 with c2|c2;all_goals
   refine go ?_
   refine VA (zN4 C M1 hf hr hl) ?_
   rintro rr h2 q2
   refine go ?_
   refine BB ?_
   exact fin hc q2
 by_cases c3:x.op=14\/x.op=15
 ·have hc:[(⟨3,WZ T F f r,WZ T F f x.a,if x.op=14 then stepL T (T.getD (ks.getD x.a.toNat 0).toNat default).elem x.n else 0,[]⟩:Wh)]=Z0 T F f ks r x:=by unfold Z0;rw[QC c1,QC c2,QI c3]
  have c3':=c3;rcases c3 with c3|c3;all_goals
   refine go ?_
   refine VA (zNY C M1 hf hr hl x a1 b1 a2 a3 b2 b3 I0 hk c3') ?_
   rintro rr h2 q2
   refine go ?_
   refine BB ?_
   exact fin hc q2
 by_cases c4:x.op=16
 ·have hc:(if W2 T x.ty then[]else[(⟨4,WZ T F f r,WZ T F f x.a,0,[]⟩:Wh)])=Z0 T F f ks r x:=by unfold Z0;rw[QC c1,QC c2,QC c3,QI c4]
  refine go ?_;refine VA (zOT C M1 hf hr hl x a1 b1 a2 a3 b2 b3 I0 hk c4) ?_;rintro rr h2 q2;refine go ?_;refine BB ?_;exact fin hc q2
 by_cases c5:x.op=17
 ·have hc:(if W2 T (ks.getD x.b.toNat 0)then[]else[(⟨5,WZ T F f x.a,WZ T F f x.b,0,[]⟩:Wh)])=Z0 T F f ks r x:=by unfold Z0;rw[QC c1,QC c2,QC c3,QC c4,QI c5]
  refine go ?_;refine VA (zMp C M1 hf hl x a1 b1 a2 a3 b2 b3 I0 hk c5) ?_;rintro rr h2 q2;refine go ?_;refine BB ?_;exact fin hc q2
 by_cases c6:x.op=18
 ·have hc:(zFV T F f x.n (z8 T F x.n).parts x.args++if W2 T x.ty then[]else[(⟨2,WZ T F f r,zl T F+x.n,0,[]⟩:Wh)])=Z0 T F f ks r x:=by unfold Z0;rw[QC c1,QC c2,QC c3,QC c4,QC c5,QI c6]
  refine go ?_;refine VA (zO8 C M1 hf hr hl x _ b1 b2 b3 sa I0 hk c6) ?_;rintro rr h2 q2;refine go ?_;refine BB ?_;exact fin hc q2
 by_cases c7:x.op=19
 ·have hc:[(⟨6,WZ T F f r,WZ T F f x.a,0,x.args.map (WZ T F f)⟩:Wh)]=Z0 T F f ks r x:=by unfold Z0;rw[QC c1,QC c2,QC c3,QC c4,QC c5,QC c6,QI c7]
  refine go ?_;refine VA (zMB C M1 hf hr hl x _ b1 b2 b3 sa1 I0 hk c7) ?_;rintro rr h2 q2;refine go ?_;refine BB ?_;exact fin hc q2
 by_cases c8:x.op=22
 ·have hc:(if W2 T x.ty then[]else zNO T F f r x.args)=Z0 T F f ks r x:=by unfold Z0;rw[QC c1,QC c2,QC c3,QC c4,QC c5,QC c6,QC c7,QI c8]
  refine go ?_;refine VA (zRH C M1 hf hr hl x _ b1 b2 b3 sa1 I0 hk c8) ?_;rintro rr h2 q2;refine go ?_;refine BB ?_;exact fin hc q2
 ·have hc:[]=Z0 T F f ks r x:=by unfold Z0;rw[QC c1,QC c2,QC c3,QC c4,QC c5,QC c6,QC c7,QC c8]
  refine go ?_;refine BB ?_;exact fin hc ⟨vO,by simpa using M1,WQ.refl ..⟩
end
end
end Go.Proofs.YtmejfcakhpihlaaGreatDoor
