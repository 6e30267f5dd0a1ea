/- Walks of functions, plain laws; proves no statement. -/
import Derived.Test.YtmejfcakhpihlaaGreatDoorJk
set_option linter.all false
set_option maxHeartbeats 4000000
set_option maxRecDepth 100000
namespace Go.Proofs.YtmejfcakhpihlaaGreatDoor
open Go.Am
theorem zP3{T:List WE}{F:List Wa}{f:Wa}{x:Wj}(h:B2 x (B0 T F.length f)=true):((x.op=1\/x.op=20)->(zt x).length=0)/\((4<=x.op/\x.op<=10)->(zt x).length=2)/\((x.op=13\/x.op=21)->(zt x).length=1):=by
 have ho:=zIo h;have m:=(zBi (by omega)).1 h;have ha:=Yl (op:=x.op) (by omega);obtain⟨h2,h1,hg,_⟩:=ha;have b1:∀ {b:Bool} {p:Prop},(b=true↔p)->¬p->b=false:=fun {b p} h hn=>by cases b;rfl;exact absurd (h.1 rfl) hn
 unfold zt;refine⟨fun e=> ?_,fun e=> ?_,fun e=> ?_⟩
 ·rw[b1 h1 (by unfold zB6 zB3;omega),b1 h2 (by unfold zB3;omega),b1 hg (by unfold zCE;omega)];rfl
 ·rw[h1.2 (by unfold zB6 zB3;omega),h2.2 (by unfold zB3;omega),b1 hg (by unfold zCE;omega)];rfl
 ·rw[h1.2 (by unfold zB6 zB3;omega),b1 h2 (by unfold zB3;omega),b1 hg (by unfold zCE;omega)];rfl
theorem zNZ{T:List WE}{k:Int}{l:List Int}(h:l.length=0):isL T k l=true:=by rw[G7 h];rfl
theorem zMz{T:List WE}{k:Int}{l:List Int}(h:l.length=1):isL T k l=Ww T k (l.getD 0 0):=by
 match l,h with
 |[a],_=>simp[isL]
theorem zP1{T:List WE}{k:Int}{l:List Int}(h:l.length=2):isL T k l=(Ww T k (l.getD 0 0)&&Ww T k (l.getD 1 0)):=by
 match l,h with
 |[a,b],_=>simp[isL]
section
variable {vt vf:Value}{T:List WE}{F:List Wa}
theorem zMc(h:WA)(x:Wj)(cs:List Value)(v:Value)(l:List Int)(E:En h vt vf T F)(hc:yS T=0)(hR:W8 h cs x)(s:WQ h v l)(hl:l.length<=1000)(ah:∀ t∈l,W7 T t)(bm:W7 T x.ty)(b7:1<=x.op/\x.op<=22)
  (hF:∀ f∈F,W7 T f.sig) (hn:x.op=14->0<=x.n) (ez:x.op=3\/x.op=18->0<=x.n/\x.n<(F.length:Int)) (h1:(x.op=14\/x.op=15\/x.op=16\/x.op=17\/x.op=19)->1<=l.length) (h2:x.op=15\/x.op=17->2<=l.length)
  (l0:x.op=1\/x.op=20->l.length=0) (l2:4<=x.op/\x.op<=10->l.length=2) (l1:x.op=13\/x.op=21->l.length=1) (hg:(x.op=1\/x.op=20)\/x.op=2\/x.op=3\/x.op=10\/x.op=19\/x.op=22):
  WC Tryz.prog tb 145 [.agg #[vt,vf],.agg cs.toArray,v] h fun r h'=>r=.bool (yD T F x l)/\Ext h h':=by
 replace ah:=WK.mk ah;replace hF:=WK.mk hF;replace ez:=WK.mk ez;replace hn:=WK.mk hn;replace h1:=WK.mk h1;replace h2:=WK.mk h2;replace l0:=WK.mk l0;replace l2:=WK.mk l2;replace l1:=WK.mk l1;obtain⟨xa,xf,rfl,cr,cz,br,dZ,ho⟩:=id hR;obtain⟨a1,a2,a3,rfl⟩:=Wi.shape cr;obtain⟨f1,f2,f3,rfl⟩:=Wi.shape cz;obtain⟨b1,b2,b3,rfl⟩:=Wi.shape s;refine en ?_;refine VF ?_;intro p3 h3 e3 o3;replace o3:WB h h3 p3 [vt,vf]:=o3;refine go ?_;refine VF ?_;intro p4 h4 e4 o4;replace o4:WB h3 h4 p4 [.int .u8 x.op,I x.ty,I x.a,I x.b,I x.n,.slice a1 a2 a3,.slice f1 f2 f3]:=o4;have E4:=E.ext (e3.trans e4);have mG:=o3.ext e4;have bz:=e3.trans e4;have s4:=s.ext bz;have R4:=hR.ext bz;have ea:=zH 0 h4;have kj:=VI (mG.ext ea);have gB:=VI (o4.ext ea);have rI:=VK (s4.ext ea);have ur:=E4.inC.sf;rcases hg with cA|c2|c3|wq|jE|Da
 ·have hr:yD T F x l=Ww T 1 x.ty:=by unfold yD;rcases cA with c|c<;>simp[c,zNZ (l0.out (by omega))]
  rw[hr];rcases cA with c|c;all_goals
   refine go ?_
   refine VA (ZL h4 x.ty 1 E4 bm) ?_
   rintro _ h5 ⟨rfl,e5⟩
   refine gr ?_
   exact⟨rfl,bz.trans e5⟩
 ·have hr:yD T F x l=(Ww T 2 x.ty||Ww T 3 x.ty):=by unfold yD;simp[c2]
  rw[hr];refine go ?_;refine VA (ZL h4 x.ty 2 E4 bm) ?_;rintro _ h5 ⟨rfl,e5⟩;have rj:=mG.ext e5;have rJ:=o4.ext e5;cases k:Ww T 2 x.ty with
  |true=>
   refine gr ?_;exact⟨rfl,bz.trans e5⟩
  |false=>
   refine go ?_;refine VA (ZL h5 x.ty 3 (E4.ext e5) bm) ?_;rintro _ h6 ⟨rfl,e6⟩;refine gr ?_;exact⟨rfl,bz.trans (e5.trans e6)⟩
 ·have hr:yD T F x l=decide (x.ty=sigF F x.n):=by unfold yD;simp[c3]
  rw[hr];obtain⟨n0,n1⟩:=ez.out (.inl c3);have jb:=E4.sf;obtain⟨iX,⟨vb,rfl,sb,cD⟩,fb,iB⟩:=zq (i:=x.n.toNat) jb (by omega);refine gr ?_;exact⟨rfl,bz⟩
 ·have ir:=l2.out (by omega);have ht0:=YY ah.out (show 0<l.length by omega);have wj:=YY ah.out (show 1<l.length by omega);have hr:yD T F x l=(Ww T 2 (l.getD 0 0)&&decide (l.getD 0 0=l.getD 1 0)&&Ww T 1 x.ty):=by
   unfold yD;by_cases q:l.getD 0 0=l.getD 1 0
   ·rw[QC (by omega),QC (by omega),QF wq,zP1 ir,<-q,Qv]
   ·rw[QC (by omega),QC (by omega),QF wq,QY q];simp
  rw[hr];refine go ?_;refine VC 0 rfl rfl ?_;refine WJ ?_;refine VA (ZL _ (l.getD 0 0) 2 E4.inC ht0) ?_;rintro _ X5 ⟨rfl,e5⟩;refine nE e5 ?_;have cB:=ea.trans (zZ (h:=h4) e5);cases k0:Ww T 2 (l.getD 0 0)with
  |false=>
   refine BY ?_;exact⟨rfl,bz.trans cB⟩
  |true=>
   have E5:=E4.inC.go e5;have rj:=VI (kj.ext e5);have rJ:=VI (gB.ext e5);have s5:=VK (rI.ext e5);by_cases q:l.getD 0 0=l.getD 1 0
   ·rw[Qc q];refine WJ ?_;refine VA (ZL _ x.ty 1 E5 bm) ?_;rintro _ X6 ⟨rfl,e6⟩;refine nE e6 ?_;have dD:=cB.trans (zZ (h:=h4) e6);refine BY ?_;exact⟨rfl,bz.trans dD⟩
   ·rw[QY q];refine BY ?_;exact⟨rfl,bz.trans cB⟩
 ·have hr:yD T F x l=zCC T (l.getD 0 0) (l.drop 1) x.ty:=by unfold yD;simp[jE]
  rw[hr];have eD:=h1.out (by omega);refine go ?_;refine VC 0 rfl rfl ?_;obtain⟨r,eg,sr⟩:=zIS (i:=1) rI (by omega) eD;refine WJ ?_;refine Vi (i:=1) (hy:=rfl) eg ?_;refine WJ ?_;refine VA (zDi _ (l.getD 0 0) x.ty _ (l.drop 1) E4.inC (YY ah.out (by omega)) sr (by simp;omega)) ?_;rintro _ X5 ⟨rfl,e5⟩;refine nE e5 ?_;have cB:=ea.trans (zZ (h:=h4) e5);refine BY ?_;exact⟨rfl,bz.trans cB⟩
 ·have hr:yD T F x l=(zBV T x.ty&&l.all fun t=>decide (t=x.ty)):=by unfold yD;simp[Da]
  rw[hr];refine go ?_;refine VD (fun i=>l.length-i) (fun i t h'=>h4=h'/\zC t 7=I i/\i<=l.length/\WK (∀ j,j<i->l.getD j 0=x.ty)) 0 ?_ ?_
  ·exact⟨rfl,WH,QK _,⟨fun j hj=>absurd hj (Qk _)⟩⟩
  rintro i t h5 ab ⟨rfl,s7,hi,hI⟩;refine go ?_;refine VE (fun hb=> ?_) (fun hb=> ?_)<;>simp only[DB]at hb
  ·have ae:i<l.length:=by omega
   refine go ?_;refine VE (fun hb=> ?_) (fun hb=> ?_)<;>simp only[DB]at hb
   ·refine gr ?_;refine⟨?_,bz⟩;have:l.all (fun t=>decide (t=x.ty))=false:=by
     rw[List.all_eq_false];exact⟨l.getD i 0,zM ae,by simpa using hb⟩
    rw[this,Qt];rfl
   ·refine go ?_;refine zA (i+1) (by omega) ⟨rfl,Wn,by omega,⟨fun j hj=> ?_⟩⟩;by_cases e:j=i
    ·subst e;exact hb
    ·exact hI.out j (by omega)
  ·have aK:i=l.length:=by omega
   subst aK;have:l.all (fun t=>decide (t=x.ty))=true:=by
    rw[QX];intro t ht;obtain⟨j,hj,rfl⟩:=JD ht;have:=hI.out j hj;rw[QG,QB hj]at this;simpa using this
   rw[this,Qq];refine go ?_;refine VA (zEj h4 x.ty E4 bm) ?_;rintro _ h6 ⟨rfl,e6⟩;refine gr ?_;exact⟨rfl,bz.trans e6⟩
theorem zNo(h:WA)(x:Wj)(cs:List Value)(v:Value)(l:List Int)(E:En h vt vf T F)(hc:yS T=0)(hR:W8 h cs x)(s:WQ h v l)(hl:l.length<=1000)(ah:∀ t∈l,W7 T t)(bm:W7 T x.ty)(b7:1<=x.op/\x.op<=22)
  (hF:∀ f∈F,W7 T f.sig) (hn:x.op=14->0<=x.n) (ez:x.op=3\/x.op=18->0<=x.n/\x.n<(F.length:Int)) (h1:(x.op=14\/x.op=15\/x.op=16\/x.op=17\/x.op=19)->1<=l.length) (h2:x.op=15\/x.op=17->2<=l.length)
  (l0:x.op=1\/x.op=20->l.length=0) (l2:4<=x.op/\x.op<=10->l.length=2) (l1:x.op=13\/x.op=21->l.length=1) (hg:(x.op=4\/x.op=5\/x.op=6\/x.op=7\/x.op=8\/x.op=9)):
  WC Tryz.prog tb 145 [.agg #[vt,vf],.agg cs.toArray,v] h fun r h'=>r=.bool (yD T F x l)/\Ext h h':=by
 replace ah:=WK.mk ah;replace hF:=WK.mk hF;replace ez:=WK.mk ez;replace hn:=WK.mk hn;replace h1:=WK.mk h1;replace h2:=WK.mk h2;replace l0:=WK.mk l0;replace l2:=WK.mk l2;replace l1:=WK.mk l1;obtain⟨xa,xf,rfl,cr,cz,br,dZ,ho⟩:=id hR;obtain⟨a1,a2,a3,rfl⟩:=Wi.shape cr;obtain⟨f1,f2,f3,rfl⟩:=Wi.shape cz;obtain⟨b1,b2,b3,rfl⟩:=Wi.shape s;refine en ?_;refine VF ?_;intro p3 h3 e3 o3;replace o3:WB h h3 p3 [vt,vf]:=o3;refine go ?_;refine VF ?_;intro p4 h4 e4 o4;replace o4:WB h3 h4 p4 [.int .u8 x.op,I x.ty,I x.a,I x.b,I x.n,.slice a1 a2 a3,.slice f1 f2 f3]:=o4;have E4:=E.ext (e3.trans e4);have mG:=o3.ext e4;have bz:=e3.trans e4;have s4:=s.ext bz;have R4:=hR.ext bz;have ea:=zH 0 h4;have kj:=VI (mG.ext ea);have gB:=VI (o4.ext ea);have rI:=VK (s4.ext ea);have ur:=E4.inC.sf;have hx:=hg;have ir:=l2.out (by omega);have ht0:=YY ah.out (show 0<l.length by omega);have wj:=YY ah.out (show 1<l.length by omega);have hr:yD T F x l=(Ww T 1 (l.getD 0 0)&&Ww T 1 (l.getD 1 0)&&Ww T 1 x.ty):=by
  unfold yD;rcases hx with c|c|c|c|c|c<;>simp[c,zP1 ir]
 rw[hr];rcases hx with c|c|c|c|c|c;all_goals
  refine go ?_
  refine VC 0 rfl rfl ?_
  refine WJ ?_
  refine VA (ZL _ (l.getD 0 0) 1 E4.inC ht0) ?_
  rintro _ X5 ⟨rfl,e5⟩
  refine nE e5 ?_
  have cB:=ea.trans (zZ (h:=h4) e5)
  cases k0:Ww T 1 (l.getD 0 0)with
  |false=>
   refine BY ?_;exact⟨rfl,bz.trans cB⟩
  |true=>
   have E5:=E4.inC.go e5;have rj:=VI (kj.ext e5);have rJ:=VI (gB.ext e5);have s5:=VK (rI.ext e5);refine WJ ?_;refine VA (ZL _ (l.getD 1 0) 1 E5 wj) ?_;rintro _ X6 ⟨rfl,e6⟩;refine nE e6 ?_;have dD:=cB.trans (zZ (h:=h4) e6);cases k1:Ww T 1 (l.getD 1 0)with
   |false=>
    refine BY ?_;exact⟨rfl,bz.trans dD⟩
   |true=>
    have E6:=E5.go e6;have HZ:=VI (rj.ext e6);have lp:=VI (rJ.ext e6);refine WJ ?_;refine VA (ZL _ x.ty 1 E6 bm) ?_;rintro _ X7 ⟨rfl,e7⟩;refine nE e7 ?_;have i9:=dD.trans (zZ (h:=h4) e7);refine BY ?_;exact⟨rfl,bz.trans i9⟩
theorem zMD(h:WA)(x:Wj)(cs:List Value)(v:Value)(l:List Int)(E:En h vt vf T F)(hc:yS T=0)(hR:W8 h cs x)(s:WQ h v l)(hl:l.length<=1000)(ah:∀ t∈l,W7 T t)(bm:W7 T x.ty)(b7:1<=x.op/\x.op<=22)
  (hF:∀ f∈F,W7 T f.sig) (hn:x.op=14->0<=x.n) (ez:x.op=3\/x.op=18->0<=x.n/\x.n<(F.length:Int)) (h1:(x.op=14\/x.op=15\/x.op=16\/x.op=17\/x.op=19)->1<=l.length) (h2:x.op=15\/x.op=17->2<=l.length)
  (l0:x.op=1\/x.op=20->l.length=0) (l2:4<=x.op/\x.op<=10->l.length=2) (l1:x.op=13\/x.op=21->l.length=1) (hg:(x.op=11\/x.op=12)\/x.op=13\/x.op=21\/(x.op=14\/x.op=15\/x.op=16\/x.op=17)\/x.op=18):
  WC Tryz.prog tb 145 [.agg #[vt,vf],.agg cs.toArray,v] h fun r h'=>r=.bool (yD T F x l)/\Ext h h':=by
 replace ah:=WK.mk ah;replace hF:=WK.mk hF;replace ez:=WK.mk ez;replace hn:=WK.mk hn;replace h1:=WK.mk h1;replace h2:=WK.mk h2;replace l0:=WK.mk l0;replace l2:=WK.mk l2;replace l1:=WK.mk l1;obtain⟨xa,xf,rfl,cr,cz,br,dZ,ho⟩:=id hR;obtain⟨a1,a2,a3,rfl⟩:=Wi.shape cr;obtain⟨f1,f2,f3,rfl⟩:=Wi.shape cz;obtain⟨b1,b2,b3,rfl⟩:=Wi.shape s;refine en ?_;refine VF ?_;intro p3 h3 e3 o3;replace o3:WB h h3 p3 [vt,vf]:=o3;refine go ?_;refine VF ?_;intro p4 h4 e4 o4;replace o4:WB h3 h4 p4 [.int .u8 x.op,I x.ty,I x.a,I x.b,I x.n,.slice a1 a2 a3,.slice f1 f2 f3]:=o4;have E4:=E.ext (e3.trans e4);have mG:=o3.ext e4;have bz:=e3.trans e4;have s4:=s.ext bz;have R4:=hR.ext bz;have ea:=zH 0 h4;have kj:=VI (mG.ext ea);have gB:=VI (o4.ext ea);have rI:=VK (s4.ext ea);have ur:=E4.inC.sf;rcases hg with kZ|Al|An|eG|iE
 ·have hr:yD T F x l=Ww T 2 x.ty:=by unfold yD;rcases kZ with c|c<;>simp[c]
  rw[hr];rcases kZ with c|c;all_goals
   refine go ?_
   refine VA (ZL h4 x.ty 2 E4 bm) ?_
   rintro _ h5 ⟨rfl,e5⟩
   refine gr ?_
   exact⟨rfl,bz.trans e5⟩
 ·have ir:=l1.out (.inl Al);have ht0:=YY ah.out (show 0<l.length by omega);have hr:yD T F x l=Ww T 2 (l.getD 0 0):=by unfold yD;simp[Al,zMz ir]
  rw[hr];refine go ?_;refine VC 0 rfl rfl ?_;refine WJ ?_;refine VA (ZL _ (l.getD 0 0) 2 E4.inC ht0) ?_;rintro _ X5 ⟨rfl,e5⟩;refine nE e5 ?_;have cB:=ea.trans (zZ (h:=h4) e5);refine BY ?_;exact⟨rfl,bz.trans cB⟩
 ·have ir:=l1.out (.inr An);have ht0:=YY ah.out (show 0<l.length by omega);have hr:yD T F x l=Ww T 1 (l.getD 0 0):=by unfold yD;simp[An,zMz ir]
  rw[hr];refine go ?_;refine VC 0 rfl rfl ?_;refine WJ ?_;refine VA (ZL _ (l.getD 0 0) 1 E4.inC ht0) ?_;rintro _ X5 ⟨rfl,e5⟩;refine nE e5 ?_;have cB:=ea.trans (zZ (h:=h4) e5);refine BY ?_;exact⟨rfl,bz.trans cB⟩
 ·have hr:yD T F x l=zGm T x l:=by unfold yD;rcases eG with c|c|c|c<;>simp[c]
  rw[hr];have hm:=zHX h4 x _ _ l E4 hc R4 s4 hl ah.out bm eG hn.out (h1.out (by omega)) h2.out;rcases eG with c|c|c|c;all_goals
   refine go ?_
   refine VA hm ?_
   rintro _ h5 ⟨rfl,e5⟩
   refine gr ?_
   exact⟨rfl,bz.trans e5⟩
 ·have hr:yD T F x l=zCC T (sigF F x.n) l x.ty:=by unfold yD;simp[iE]
  rw[hr];obtain⟨n0,n1⟩:=ez.out (.inr iE);obtain⟨iX,⟨vb,rfl,sb,cD⟩,fb,iB⟩:=zq (i:=x.n.toNat) ur (by omega);refine go ?_;refine VC 0 rfl rfl ?_;refine WJ ?_;refine VA (zDi _ (F.getD x.n.toNat default).sig x.ty _ l E4.inC (hF.out _ (zE (by omega))) rI hl) ?_;rintro _ X5 ⟨rfl,e5⟩;refine nE e5 ?_;have cB:=ea.trans (zZ (h:=h4) e5);refine BY ?_;exact⟨rfl,bz.trans cB⟩
theorem zJC(h:WA)(x:Wj)(cs:List Value)(v:Value)(l:List Int)(E:En h vt vf T F)(hc:yS T=0)(hR:W8 h cs x)(s:WQ h v l)(hl:l.length<=1000)(ah:∀ t∈l,W7 T t)(bm:W7 T x.ty)(b7:1<=x.op/\x.op<=22)
  (hF:∀ f∈F,W7 T f.sig) (hn:x.op=14->0<=x.n) (ez:x.op=3\/x.op=18->0<=x.n/\x.n<(F.length:Int)) (h1:(x.op=14\/x.op=15\/x.op=16\/x.op=17\/x.op=19)->1<=l.length) (h2:x.op=15\/x.op=17->2<=l.length)
  (l0:x.op=1\/x.op=20->l.length=0) (l2:4<=x.op/\x.op<=10->l.length=2) (l1:x.op=13\/x.op=21->l.length=1):
  WC Tryz.prog tb 145 [.agg #[vt,vf],.agg cs.toArray,v] h fun r h'=>r=.bool (yD T F x l)/\Ext h h':=by
 rcases(show((x.op=1\/x.op=20)\/x.op=2\/x.op=3\/x.op=10\/x.op=19\/x.op=22)\/((x.op=4\/x.op=5\/x.op=6\/x.op=7\/x.op=8\/x.op=9))\/((x.op=11\/x.op=12)\/x.op=13\/x.op=21\/(x.op=14\/x.op=15\/x.op=16\/x.op=17)\/x.op=18)from by omega)with c|c|c
 ·exact zMc h x cs v l E hc hR s hl ah bm b7 hF hn ez h1 h2 l0 l2 l1 c
 ·exact zNo h x cs v l E hc hR s hl ah bm b7 hF hn ez h1 h2 l0 l2 l1 c
 ·exact zMD h x cs v l E hc hR s hl ah bm b7 hF hn ez h1 h2 l0 l2 l1 c
end
end Go.Proofs.YtmejfcakhpihlaaGreatDoor
set_option maxRecDepth 100000
namespace Go.Proofs.YtmejfcakhpihlaaGreatDoor
open Go.Am
section
variable {vt vf:Value}{T:List WE}{F:List Wa}
theorem zDQ(h:WA)(f r:Int)(E:En h vt vf T F)(Z:FnIn T F f)(h0:0<=r)(h1:r<B1 ((zj T F f).parts.length:Int) (zF F f)):WC Tryz.prog tb 96 [.agg #[vt,vf],I f,I r] h fun q h'=>q=I ((W6 T F f).getD r.toNat 0)/\Ext h h':=by
 have hf:=Z.hf;have dC:=Z.sig;have hF:=E.sm.funcs;have hT:=E.lenT;rw[zQd h0 h1];refine en ?_;refine VF ?_;intro p h2 e2 o2;replace o2:WB h h2 p [vt,vf]:=o2;have E2:=E.ext e2;refine go ?_;refine VA (zIE h2 vt vf T F f r E2 hf dC) ?_;rintro _ h3 ⟨rfl,e3⟩;have o3:=o2.ext e3;have E3:=E2.ext e3;have aN:=e2.trans e3;have gT:=E3.sf;have gS:=E3.st;obtain⟨cs,⟨vb,rfl,sb,cD⟩,pc,hs⟩:=zq (i:=f.toNat) gT (by omega);obtain⟨Ap,⟨wu,rfl,sat,mH⟩,nY,aX⟩:=yM (i:=(F.getD f.toNat default).sig.toNat) gS (by omega);unfold YN;by_cases c:r<((zj T F f).parts.length:Int)
 ·have c':r<((T.getD (F.getD f.toNat default).sig.toNat default).parts.length:Int):=c;rw[QF c,QC (by omega)];refine gr ?_;exact⟨rfl,aN⟩
 ·have c':¬r<((T.getD (F.getD f.toNat default).sig.toNat default).parts.length:Int):=c;unfold B1 at h1;have Kf:r<((T.getD (F.getD f.toNat default).sig.toNat default).parts.length:Int)+zJ (F.getD f.toNat default).blocks:=h1;rw[QC c,QF (by omega)];have hw:=zB1 (l:=zF F f) (a:=r-((zj T F f).parts.length:Int)) (by omega) (by omega);have sb:Wv h3 vb (zF F f):=sb;have FU:yF (F.getD f.toNat default).blocks (r-((T.getD (F.getD f.toNat default).sig.toNat default).parts.length:Int))=yF (zF F f) (r-((zj T F f).parts.length:Int)):=rfl;rw[FU];generalize yF (zF F f) (r-((zj T F f).parts.length:Int))=w at *;obtain⟨wb,wi⟩:=w;simp only at hw |-;obtain⟨Au,⟨vi,rfl,si,fc⟩,lj,kg⟩:=zq (i:=wb.toNat) sb (by omega);obtain⟨csi,⟨xa,xf,rfl,cr,cz,br,dZ,ho⟩,pci,vQ⟩:=zq (i:=wi.toNat) si (by omega);obtain⟨a1,a2,a3,rfl⟩:=Wi.shape cr;obtain⟨f1,f2,f3,rfl⟩:=Wi.shape cz;generalize((zF F f).getD wb.toNat default).ins.getD wi.toNat default=x at *;refine go ?_;refine WO.al ?_;intro p4 h4 e4 o4;refine go ?_;refine VH (cs:=[.int .u8 x.op,I x.ty,I x.a,I x.b,I x.n,.slice a1 a2 a3,.slice f1 f2 f3]) o4 e4 ?_;intro h5 e5 o5 u5;refine go ?_;refine VA (zA2 h5 x.op ho.1) ?_;rintro _ _ ⟨rfl,rfl⟩;have hk:Ys x=if(zU x.op).2.2.2.2.2 then x.ty else -1:=rfl;rw[hk];cases aI:(zU x.op).2.2.2.2.2 with
  |true=>
   refine gr ?_;exact⟨rfl,aN.trans e5⟩
  |false=>
   refine gr ?_;exact⟨rfl,aN.trans e5⟩
theorem zEa(h:WA)(f:Int)(v:Value)(l:List Int)(E:En h vt vf T F)(Z:FnIn T F f)(s:WQ h v l)(hl:l.length<=1000)(ah:∀ r∈l,0<=r/\r<((W6 T F f).length:Int)):
  WC Tryz.prog tb 143 [.agg #[vt,vf],I f,v] h fun q h'=>(∃ w,q=.tuple #[w,.bool (!decide ((-1:Int)∈ZB (W6 T F f) l))]/\(¬(-1:Int)∈ZB (W6 T F f) l->WL h h' w (ZB (W6 T F f) l))/\∃ a n k,w=.slice a n k)/\Ext h h':=by
 have wz:=WK.mk Z.ks;have j8:=Z.reg;have ah:=WK.mk ah;refine en ?_;refine VF ?_;intro p h2 e2 o2;replace o2:WB h h2 p [vt,vf]:=o2;have E2:=E.ext e2;have s2:=s.ext e2;refine go ?_;refine VD (fun i=>l.length-i) (fun i t h'=>Ext h2 h'/\zC t 9=I i/\i<=l.length/\WK (¬(-1:Int)∈(l.take i).map fun r=>(W6 T F f).getD r.toNat 0)/\∃ w,zC t 8=w/\WL h2 h' w ((l.take i).map fun r=>(W6 T F f).getD r.toNat 0)) 0 ?_ ?_
 ·exact⟨Ext.refl _,WH,QK _,⟨by simp⟩,_,WH,.inl ⟨rfl,rfl⟩⟩
 rintro i t h3 ab ⟨e3,s9,hi,hI,w,s8,ow⟩;have E3:=E2.ext e3;have o3:=o2.ext e3;have s3:=s2.ext e3;refine go ?_;refine VE (fun hb=> ?_) (fun hb=> ?_)<;>simp only[DB]at hb
 ·have ae:i<l.length:=by omega
  have hr:=ah.out _ (zM ae);have au:(l.take (i+1)).map (fun r=>(W6 T F f).getD r.toNat 0)=(l.take i).map (fun r=>(W6 T F f).getD r.toNat 0)++[(W6 T F f).getD (l.getD i 0).toNat 0]:=by
   rw[Q1,QB ae,Qx,show l.getD i 0=l[i] by rw[QG,QB ae];rfl];rfl
  have Hw:=VI (o3.ext (zH 0 h3));have Rm:=VK (s3.ext (zH 0 h3));have A1:=wz.out _ (zM (l:=W6 T F f) (i:=(l.getD i 0).toNat) (by omega));refine go ?_;refine VC 0 rfl rfl ?_;refine WJ ?_;refine VA (zDQ _ f (l.getD i 0) E3.inC Z hr.1 (by omega)) ?_;rintro _ X4 ⟨rfl,e4⟩;refine nE e4 ?_;have ff:=(zH 0 h3).trans (zZ (h:=h3) e4);have mW:Ext h3 (outC h3 (inC X4)):=ff;obtain⟨k,hk⟩:∃ k,(W6 T F f).getD (l.getD i 0).toNat 0=k:=⟨_,rfl⟩;rw[hk]at au A1 |-;refine WJ ?_;generalize outC h3 (inC X4)=h5 at *;have e5:=e3.trans mW;by_cases dj:k= -1
  ·subst dj;have hm:(-1:Int)∈ZB (W6 T F f) l:=by
    unfold ZB;have:(-1:Int)∈(l.take (i+1)).map fun r=>(W6 T F f).getD r.toNat 0:=by rw[au];simp
    obtain⟨r,hr,e⟩:=Qw.1 this;exact Qw.2 ⟨r,Q5 hr,e⟩
   refine gr ?_;refine⟨⟨_,by rw[Qc hm];rfl,fun hn=>absurd hm hn,⟨_,_,_,rfl⟩⟩,e2.trans e5⟩
  ·have kA:=(A1.resolve_left dj).1;refine go ?_;refine WO.bl [k] ?_;intro v6 h6 e6 o6;refine go ?_;refine VN ((ow.ext mW).ext e6) o6.sl (e5.trans e6) (by simp;omega) ?_;intro v7 h7 e7 o7;refine go ?_;refine zA (i+1) (by omega) ⟨e7,Wn,by omega,⟨?_⟩,v7,WH,by rw[au];exact o7⟩;rw[au];intro hm;rcases Qs.1 hm with hm|hm
   ·exact hI.out hm
   ·rw[QZ]at hm;exact dj hm.symm
 ·have aK:i=l.length:=by omega
  subst aK;rw[Qg]at ow hI;have hn:¬(-1:Int)∈ZB (W6 T F f) l:=hI.out;refine gr ?_;refine⟨⟨w,by rw[QY hn];rfl,fun _=>ow.since e2,Wi.shape ow.sl⟩,e2.trans e3⟩
theorem zDv(h:WA)(f:Int)(v:Value)(l:List Int)(block at':Int)(E:En h vt vf T F)(hp:ZE T F=0)(Z:FnIn T F f)(hw:Wl (Wr (zF F f)) 0 block)(hb:0<=block/\block<((zF F f).length:Int))(s:WQ h v l)(hl:l.length<=1000)(ah:∀ r∈l,0<=r/\r<((W6 T F f).length:Int)):
  WC Tryz.prog tb 147 [.agg #[vt,vf],I f,v,I block,I at'] h fun q h'=>(∃ bb,q=.bool bb/\(bb=true↔∀ r∈l,zCX (Wr (zF F f)) ((Bv T F f).getD r.toNat default) block at'))/\Ext h h':=by
 have j8:=Z.reg;have ah:=WK.mk ah;have aQ:=Z.bl 0 (Ql 0) (by have:=Z.n1;omega);have iV:(zG T F f 0).2=0:=by rw[aQ]
 have cO:YX T F f block=0:=by
  unfold YX;rw[QC (fun e=>e iV),QC (by rw[aQ];show ¬(_\/((zF F f).length:Int)<=_);omega),QF ((Z2 iV).2 (by rw[aQ];exact hw))]
 refine en ?_;refine VF ?_;intro p h2 e2 o2;replace o2:WB h h2 p [vt,vf]:=o2;have E2:=E.ext e2;have s2:=s.ext e2;refine go ?_;refine VD (fun i=>l.length-i) (fun i t h'=>Ext h2 h'/\zC t 11=I i/\i<=l.length/\WK (∀ j,j<i->zCX (Wr (zF F f)) ((Bv T F f).getD (l.getD j 0).toNat default) block at')) 0 ?_ ?_
 ·exact⟨Ext.refl _,WH,QK _,⟨fun j hj=>absurd hj (Qk _)⟩⟩
 rintro i t h3 ab ⟨e3,kS,hi,hI⟩;have E3:=E2.ext e3;have o3:=o2.ext e3;have s3:=s2.ext e3;refine go ?_;refine VE (fun hb=> ?_) (fun hb=> ?_)<;>simp only[DB]at hb
 ·have ae:i<l.length:=by omega
  have hr:=ah.out _ (zM ae);have Hw:=VI (o3.ext (zH 0 h3));have Rm:=VK (s3.ext (zH 0 h3));obtain⟨bD,H0⟩:=zOT (at':=at') hp Z hr.1 (by omega) (by assumption);refine go ?_;refine VC 0 rfl rfl ?_;refine WJ ?_;refine VA (zHr _ vt vf T F f (l.getD i 0) block at' E3.inC bD cO) ?_;rintro _ X4 ⟨⟨bb,rfl,aC⟩,e4⟩;rw[H0]at aC;refine nE e4 ?_;have ff:=(zH 0 h3).trans (zZ (h:=h3) e4);have mW:Ext h3 (outC h3 (inC X4)):=ff;refine WJ ?_;cases bb with
  |false=>
   refine gr ?_;refine⟨⟨false,rfl,?_⟩,e2.trans (e3.trans mW)⟩;simp only[Qa,Gn];exact fun aF=>absurd (aC.2 (aF _ (zM ae))) Bool.noConfusion
  |true=>
   refine go ?_;refine zA (i+1) (by omega) ⟨e3.trans mW,Wn,by omega,⟨fun j hj=> ?_⟩⟩;by_cases e:j=i
   ·subst e;exact aC.1 rfl
   ·exact hI.out j (by omega)
 ·have aK:i=l.length:=by omega
  refine gr ?_;refine⟨⟨true,rfl,?_⟩,e2.trans e3⟩;simp only[true_iff];intro r hr;obtain⟨j,hj,rfl⟩:=JD hr;have:=hI.out j (by omega);rw[show l.getD j 0=l[j] by rw[QG,QB hj];rfl]at this;exact this
end
end Go.Proofs.YtmejfcakhpihlaaGreatDoor
set_option maxRecDepth 100000
namespace Go.Proofs.YtmejfcakhpihlaaGreatDoor
open Go.Am
def zFC(B:Wc)(i:Nat):Prop:=0<i->(B.ins.getD (i-1) default).op=22
theorem zMq{T:List WE}{F:List Wa}{ks:List Int}{ps:List (Int×Int)}{nx:Int->List Int}{L:List Wc}{P:List Int}{b:Int}{B:Wc}:
  (∀ i,i<B.ins.length->zAE T F ks ps nx L P b i (∀ j,j<i->(B.ins.getD j default).op=22) (B.ins.getD i default))↔(∀ i,i<B.ins.length->zAE T F ks ps nx L P b i (zFC B i) (B.ins.getD i default)):=by
 constructor
 ·intro h i hi;obtain⟨a,b,c,d⟩:=h i hi;exact⟨a,b,fun e=>⟨fun h0=>(c e).1 _ (by omega),(c e).2⟩,d⟩
 ·intro h i hi;have key:∀ k,k<B.ins.length->(B.ins.getD k default).op=22->∀ j,j<=k->(B.ins.getD j default).op=22:=fun k=>by
   induction k with
   |zero=>intro _ e j hj;rw[show j=0 by omega];exact e
   |succ k ih=>
    intro hk e j hj;by_cases hjk:j=k+1
    ·rw[hjk];exact e
    ·exact ih (by omega) (((h (k+1) hk).2.2.1 e).1 (by omega)) j (by omega)
  obtain⟨a,b,c,d⟩:=h i hi;exact⟨a,b,fun e=>⟨fun j hj=>key i hi e j (by omega),(c e).2⟩,d⟩
section
variable {vt vf:Value}{T:List WE}{F:List Wa}
theorem zL6(h:WA)(f b:Int)(i:Nat)(E:En h vt vf T F)(hp:ZE T F=0)(Z:FnIn T F f)(bA:∀ c,0<=c->c<((zF F f).length:Int)->Wl (Wr (zF F f)) 0 c)(hb:0<=b/\b<((zF F f).length:Int))(hi:i<((zF F f).getD b.toNat default).ins.length)(b7:(((zF F f).getD b.toNat default).ins.getD i default).op=22):
  WC Tryz.prog tb 146 [.agg #[vt,vf],I f,I b,I i] h fun q h'=>(∃ bb,q=.bool bb/\(bb=true↔zFC ((zF F f).getD b.toNat default) i/\(((zF F f).getD b.toNat default).ins.getD i default).frm=zW (zF F f) b (zF F f).length/\
   zQt (Wr (zF F f)) (Bv T F f) (zF F f) (((zF F f).getD b.toNat default).ins.getD i default).frm (((zF F f).getD b.toNat default).ins.getD i default).args))/\Ext h h':=by
 have hf:=Z.hf;have hF:=E.sm.funcs;have j8:=Z.reg;have kh:=Z.od;have aQ:=Z.bl 0 (Ql 0) (by have:=Z.n1;omega);have iV:(zG T F f 0).2=0:=by rw[aQ]
 have cO:∀ c,0<=c->c<((zF F f).length:Int)->YX T F f c=0:=fun c c0 c1=>by
  unfold YX;rw[QC (fun e=>e iV),QC (by rw[aQ];show ¬(_\/((zF F f).length:Int)<=_);omega),QF ((Z2 iV).2 (by rw[aQ];exact bA c c0 c1))]
 have hU:=(Z.U _ (zE (l:=zF F f) (i:=b.toNat) (by omega))).ins _ (zE hi);obtain⟨cG,hargs,mD⟩:=hU.KQ b7;have Rn:=hU.args;have cf:∀ (k:Nat),k<(((zF F f).getD b.toNat default).ins.getD i default).frm.length->_:=fun k hk=>zOT (f:=f) (r:=(((zF F f).getD b.toNat default).ins.getD i default).args.getD k 0) (block:=(((zF F f).getD b.toNat default).ins.getD i default).frm.getD k 0) (at':=(((zF F f).getD ((((zF F f).getD b.toNat default).ins.getD i default).frm.getD k 0).toNat default).ins.length:Int)) hp Z (hargs _ (zM (by omega))).1 (by have:=(hargs _ (zM (l:=(((zF F f).getD b.toNat default).ins.getD i default).args) (i:=k) (by omega))).2;omega) (mD _ (zM hk));have dG:∀ B∈zF F f,B.ins.length<=1000:=E.sm.ins _ (zE (l:=F) (i:=f.toNat) (by omega));replace cf:=WK.mk @cf;replace hargs:=WK.mk hargs;replace mD:=WK.mk mD;replace cO:=WK.mk cO;replace bA:=WK.mk bA;replace dG:=WK.mk dG;refine en ?_;refine VF ?_;intro p4 h4 e4 o4;replace o4:WB h h4 p4 [vt,vf]:=o4;have E4:=E.ext e4;have jb:=E4.sf;obtain⟨cs,⟨vb,rfl,sb,cD⟩,pc,hs⟩:=zP (i:=f.toNat) jb (by omega);have sb:Wv h4 vb (zF F f):=sb;have AF:=(pc _ (Ext.refl _)).1;obtain⟨Au,⟨vi,rfl,si,fc⟩,lj,kg⟩:=zP (i:=b.toNat) sb (by omega);have A2:=(lj _ (Ext.refl _)).1;generalize Dl:(zF F f).getD b.toNat default=B at *;obtain⟨Hl,hR,pU,Dh⟩:=zP (i:=i) si hi;have H5:=(pU _ (Ext.refl _)).1;generalize Dp:B.ins.getD i default=x at *;obtain⟨xa,xf,rfl,cr,cz,br,dZ,ho⟩:=id hR;obtain⟨a1,a2,a3,rfl⟩:=Wi.shape cr;obtain⟨f1,f2,f3,rfl⟩:=Wi.shape cz;obtain⟨v1,v2,v3,rfl⟩:=zD si;refine go ?_;refine WO.al ?_;intro p9 h5 e5 o9;refine go ?_;refine VH (cs:=[.slice v1 v2 v3,.int .u8 B.fin.kind,I B.fin.a,I B.fin.to,I B.fin.aE]) o9 e5 ?_;intro h6 e6 o9 u9;have Ro:=BB.ext si e6;have Rp:=(pU _ e6).1;have lp:=o4.ext e6;refine go ?_;refine WO.al ?_;intro rK h7 e7 fg;refine go ?_;refine VH (cs:=[.int .u8 x.op,I x.ty,I x.a,I x.b,I x.n,.slice a1 a2 a3,.slice f1 f2 f3]) fg e7 ?_;intro h8 e8 fg u10;have mX:=e6.trans e8;have cX:=e4.trans mX;have jg:=lp.ext e8;have uu:=o9.ext e8;have E8:=E4.ext mX;have H6:=cr.ext mX;have A3:=cz.ext mX;refine go ?_;refine VL (fun t h'=>Ext h8 h'/\∃ q,zC t 51=.bool q/\WK (q=false↔zFC B i/\x.frm=zW (zF F f) b (zF F f).length)) ?_ ?_
 ·refine VC 0 rfl rfl ?_;have ea:=zH 0 h8;have gB:=VI (jg.ext ea);have Dx:=VI (uu.ext ea);have H7:=VI (fg.ext ea);have CY:=E8.sf;have dJ:Wo (inC (zB 0 h8)) vf F:=CY;have fN:=(pc _ (mX.trans ea)).2;have kl:=Wv.ext sb (mX.trans ea);have fj:Wv (inC (zB 0 h8)) vb (zF F f):=kl;have A4:=VK (A3.ext ea);refine WJ ?_;refine VA (zLz _ vb (zF F f) b fj (by omega)) ?_;rintro va X9 ⟨oa,e9⟩;refine nE e9 ?_;have kf:=ea.trans (zZ (h:=h8) e9);have mT:=VK (A4.ext e9);have LF:=VI (Dx.ext e9);have H8:=BB.ext si (mX.trans kf);have Rq:BB (inC X9) (.slice v1 v2 v3) B.ins:=H8;refine WJ ?_;refine VA (Yt _ _ va x.frm _ mT (VK oa.sl) (by omega)) ?_;rintro _ _ ⟨rfl,rfl⟩;refine nQ ?_;by_cases cA:x.frm=zW (zF F f) b (zF F f).length;case neg=>
   rw[QY cA];refine WJ ?_;exact zK ⟨kf,true,WH,⟨by simp[cA]⟩⟩
  rw[Qc cA];by_cases c0:i=0
  ·subst c0;refine WJ ?_;exact zK ⟨kf,false,WH,⟨by simp[cA,zFC]⟩⟩
  ·obtain⟨csy,⟨ya,yf,rfl,uh,Dw,LG,hyf,hyo⟩,Rr,hsy⟩:=zP (i:=i-1) si (by omega);obtain⟨y1,y2,y3,rfl⟩:=Wi.shape uh;obtain⟨y4,y5,y6,rfl⟩:=Wi.shape Dw;have H9:=(Rr _ (mX.trans kf)).2;generalize LH:B.ins.getD (i-1) default=y at *;have qT:((i:Int)-1).toNat=i-1:=by omega
   have LI:Wp (inC X9) (.slice v1 v2 v3) (((i:Int)-1).toNat*7) [.int .u8 y.op,I y.ty,I y.a,I y.b,I y.n,.slice y1 y2 y3,.slice y4 y5 y6]:=by rw[qT];exact H9
   by_cases cy:y.op=22
   ·refine WJ ?_;rw[show(!decide (y.op=22))=false by rw[Qc cy];rfl];exact zK ⟨kf,false,WH,⟨by simp only[true_iff];exact⟨fun _=>by rw[LH];exact cy,cA⟩⟩⟩
   ·refine WJ ?_;rw[show(!decide (y.op=22))=true by rw[QY cy];rfl];exact zK ⟨kf,true,WH,⟨by simp only[Bool.true_eq_false,Gn];exact fun q=>cy (by have:=q.1 (by omega);rwa [LH]at this)⟩⟩
 rintro t9 h9 Ko ⟨e9,q,Kn,hq⟩;have nZ:=cX.trans e9;have Ia:=jg.ext e9;have Ib:=fg.ext e9;have E9:=E8.ext e9;have Dy:=mX.trans e9;have Ic:=H6.ext e9;have mT:=A3.ext e9;refine Z3 ?_;cases q with
 |true=>
  refine gr ?_;exact⟨⟨false,rfl,by have:=hq.out;simp only[Bool.true_eq_false,Gn]at this;simp only[Qa,Gn];exact fun hh=>this ⟨hh.1,hh.2.1⟩⟩,nZ⟩
 |false=>
  refine go ?_;refine VD (fun k=>x.frm.length-k) (fun k t h'=>Ext h9 h'/\zC t 11=I k/\k<=x.frm.length/\WK (∀ j,j<k->zCX (Wr (zF F f)) ((Bv T F f).getD (x.args.getD j 0).toNat default) (x.frm.getD j 0) (((zF F f).getD (x.frm.getD j 0).toNat default).ins.length))) 0 ?_ ?_
  ·exact⟨Ext.refl _,WH,QK _,⟨fun j hj=>absurd hj (Qk _)⟩⟩
  rintro k t gV ab ⟨bJ,kS,hk,hI⟩;have Ie:=Ia.ext bJ;have A5:=Ib.ext bJ;have A6:=Ic.ext bJ;have mU:=mT.ext bJ;refine go ?_;refine VE (fun hb=> ?_) (fun hb=> ?_)<;>simp only[DB]at hb
  ·have bK:k<x.frm.length:=by omega
   have Dz:k<x.args.length:=by omega
   have LJ:=E9.ext bJ;obtain⟨bD,H0⟩:=cf.out k bK;have LK:=mD.out _ (zM bK);refine go ?_;refine VC 0 rfl rfl ?_;have ea:=zH 0 gV;have DA:=(Dy.trans bJ).trans ea;have gB:=VI (Ie.ext ea);have H7:=VI (A5.ext ea);have dJ:=LJ.inC.sf;have fN:=(pc _ DA).2;have kl:=Wv.ext sb DA;have fj:Wv (inC (zB 0 gV)) vb (zF F f):=kl;have Rs:=VK (A6.ext ea);have A4:=VK (mU.ext ea);obtain⟨Pc,⟨vj,rfl,sj,hlj⟩,Rt,hsj⟩:=zP (i:=(x.frm.getD k 0).toNat) sb (by omega);have Ru:=(Rt _ DA).2;have Ig:=BB.ext sj DA;have sjX:BB (inC (zB 0 gV)) vj ((zF F f).getD (x.frm.getD k 0).toNat default).ins:=Ig;obtain⟨_,_,_,rfl⟩:=zD sj;refine WJ ?_;refine VA (zHr _ vt vf T F f (x.args.getD k 0) (x.frm.getD k 0) (((zF F f).getD (x.frm.getD k 0).toNat default).ins.length) LJ.inC bD (cO.out _ LK.1 LK.2)) ?_;rintro _ A7 ⟨⟨bb,rfl,aC⟩,dI⟩;rw[H0]at aC;refine nE dI ?_;have fM:=ea.trans (zZ (h:=gV) dI);have dE:Ext gV (outC gV (inC A7)):=fM;refine WJ ?_;cases bb with
   |false=>
    refine gr ?_;refine⟨⟨false,rfl,?_⟩,nZ.trans (bJ.trans dE)⟩;simp only[Qa,Gn];exact fun aF=>absurd (aC.2 (aF.2.2 k bK)) Bool.noConfusion
   |true=>
    refine go ?_;refine zA (k+1) (by omega) ⟨bJ.trans dE,Wn,by omega,⟨fun j hj=> ?_⟩⟩;by_cases e:j=k
    ·subst e;exact aC.1 rfl
    ·exact hI.out j (by omega)
  ·have jC:k=x.frm.length:=by omega
   refine gr ?_;have:=hq.out.1 rfl;exact⟨⟨true,rfl,by simp only[true_iff];exact⟨this.1,this.2,fun j hj=>hI.out j (by omega)⟩⟩,nZ.trans bJ⟩
end
end Go.Proofs.YtmejfcakhpihlaaGreatDoor
