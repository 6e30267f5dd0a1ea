/- Walks of functions, plain laws; proves no statement. -/
import Derived.Test.YtmejfcakhpihlaaGreatDoorJc
set_option linter.all false
set_option maxHeartbeats 1000000
set_option maxRecDepth 100000
namespace Go.Proofs.YtmejfcakhpihlaaGreatDoor
open Go.Am
theorem zOv{a b i j:Int}{zs:List Int}(h0:0<=a)(hi:b<=i/\i<zs.length)(hj:b<=j/\j<zs.length)(s:Bn a b zs):Bn a b (swp zs i j):=fun p q h1 h2 h3=>by
 rw[yy (by omega) (by omega) (by omega),yy (by omega) (by omega) (by omega),QC (by omega),QC (by omega),QC (by omega),QC (by omega)];exact s p q h1 h2 h3
theorem zJz(hB h:WA)(v:Value)(xs:List Int)(a b:Int)(e0:Ext hB h)(bU:hB.mark<=hB.n)(o:Wq hB h v xs)(h0:0<=a)(du:a<b)(hb:b<=xs.length)(hlen:xs.length<=1000000000)(gQ:0<a->∀ k,a<=k->k<b->WZ xs (a-1)<=WZ xs k):
  WC Tryz.prog tb 241 [v,I a,I b] h fun r h'=>∃ ys w,r=.bool w/\SS hB h v a b xs ys h'/\(w=true->Bn a b ys):=by
 have s0:=VZ a b o e0;have low:WK (∀ ys,PI a b xs ys->0<a->∀ k,a<=k->k<b->WZ ys (a-1)<=WZ ys k):=WK.mk fun ys p ha=>by
  have e1:WZ ys (a-1)=WZ xs (a-1):=p.out _ (by omega) (.inl (by omega));rw[e1];exact p.all (p:=fun x=>WZ xs (a-1)<=x) h0 hb (gQ ha)
 refine en ?_;refine VD (fun x=>(5-x.2.2).toNat) (fun(x:List Int×Int×Int) t h4=>SS hB h v a b xs x.1 h4/\zC t 7=I x.2.1/\zC t 8=I x.2.2/\(a+1<=x.2.1/\x.2.1<=b)/\(0<=x.2.2/\x.2.2<=5)/\Bn a x.2.1 x.1) (xs,a+1,0) ?_ ?_
 ·exact⟨s0,WH,WH,by simp only;omega,by simp only;omega,Vb (by simp only;omega)⟩
 rintro⟨ys,i,c⟩ t h4 ab ⟨s4,s7,s8,hi,hc,hs⟩;simp only at s4 s7 s8 hi hc hs;have vX:=s4.len;refine go ?_;refine VE (fun hx=> ?_) (fun hx=> ?_)<;>simp only[DB]at hx;case refine_2=>
  refine gr ?_;exact⟨_,_,rfl,s4,fun h=>by cases h⟩
 refine go ?_;refine VD (fun i=>(b-i).toNat) (fun(i:Int) t h2=>h4=h2/\zC t 7=I i/\(a+1<=i/\i<=b)/\Bn a i ys) i ?_ ?_
 ·exact⟨rfl,WH,hi,hs⟩
 clear hs hi s7;rintro i t _ aZ ⟨rfl,s7,hi,hs⟩;refine go ?_;refine VL (fun t h'=>h4=h'/\zC t 32=.bool (decide (i<b/\¬(WZ ys i<WZ ys (i-1))))) ?_ ?_
 ·refine VC 0 rfl rfl ?_;have fx:WQ (inC (zB 0 h4)) v ys:=(s4.own).sl;refine WJ ?_;refine VJ (fun hd=> ?_) (fun hd=> ?_)<;>simp only[DB]at hd<;>refine WJ ?_
  ·refine VA (Z9 _ (WZ ys i) (WZ ys (i-1))) ?_;rintro _ _ ⟨rfl,rfl⟩;refine nQ ?_;refine WJ ?_;exact zK ⟨rfl,by rw[show decide (i<b/\¬(WZ ys i<WZ ys (i-1)))= !decide (WZ ys i<WZ ys (i-1))from zCa hd];exact WH⟩
  ·exact zK ⟨rfl,by rw[show decide (i<b/\¬(WZ ys i<WZ ys (i-1)))=false from QY (fun hh=>absurd hh.1 (by omega))];exact WH⟩
 rintro t5 _ vV ⟨rfl,q5⟩;refine go ?_;refine VE (fun he=> ?_) (fun he=> ?_)<;>simp only[DB]at he
 ·refine go ?_;refine zA (i+1) (by omega) ⟨rfl,WH,by omega,fun p q h1 h2 h3=> ?_⟩;by_cases e:q=i
  ·by_cases e2:p=i
   ·rw[e,e2];exact Ql _
   ·have:=hs p (i-1) h1 (by omega) (by omega);rw[e];omega
  ·exact hs p q h1 h2 (by omega)
 refine go ?_;refine VE (fun hf=> ?_) (fun hf=> ?_)<;>simp only[DB]at hf
 ·refine gr ?_;subst hf;exact⟨_,_,rfl,s4,fun _=>hs⟩
 refine go ?_;refine VE (fun hg=> ?_) (fun hg=> ?_)<;>simp only[DB]at hg
 ·refine gr ?_;exact⟨_,_,rfl,s4,fun h=>by cases h⟩
 have aL:WZ ys i<WZ ys (i-1):=Int.not_le.1 fun hh=>he ⟨by omega,hh⟩;refine go ?_;refine VC 0 rfl rfl ?_;have fx:WQ (inC (zB 0 h4)) v ys:=(s4.own).sl;refine WJ ?_;refine VU (i) (i-1) (s4).own (s4).ext (by rw[(s4).ext.mark];exact bU) ?_;intro h6 e6 o6 u6;have s6:=s4.swp e6 o6 u6 h0 hb (by omega) (by omega);have hz:∀ p q,a<=p->p<=q->q<i->q≠i-1->WZ (swp ys i (i-1)) p<=WZ (swp ys i (i-1)) q:=fun p q h1 h2 h3 h4=>by
  rw[yy (by omega) (by omega) (by omega),yy (by omega) (by omega) (by omega),QC (by omega),QC (by omega),QC (by omega),QC (by omega)];exact hs p q h1 h2 h3
 clear o6 e6 u6 s4 vX hs he aL;generalize swp ys i (i-1)=zs at s6 hz;have Fq:=s6.len;refine go ?_;refine VL (fun t h'=>∃ ws,SS hB h v a b xs ws h'/\Bn a i ws) ?_ ?_
 ·refine VE (fun hj=> ?_) (fun hj=> ?_)<;>simp only[DB]at hj<;>refine go ?_
  ·refine VD (fun x=>(x.2+1).toNat) (fun(x:List Int×Int) t h7=>SS hB h v a b xs x.1 h7/\zC t 9=I x.2/\(a<=x.2/\x.2<=i-1)/\∀ p q,a<=p->p<=q->q<i->q≠x.2->WZ x.1 p<=WZ x.1 q) (zs,i-1) ?_ ?_
   ·exact⟨s6,WH,by simp only;omega,hz⟩
   rintro⟨ws,j⟩ t h7 cN ⟨fy,s9,gh,hw⟩;simp only at fy s9 gh hw;have Fs:=fy.len;have fin:(j<1\/¬WZ ws j<WZ ws (j-1))->Bn a i ws:=fun pq p q h1 h2 h3=>by
    by_cases e:q=j
    ·by_cases e2:p=j
     ·rw[e,e2];exact Ql _
     ·have:=hw p (j-1) h1 (by omega) (by omega) (by omega);rw[e];rcases pq with hh|hh
      ·omega
      ·omega
    ·exact hw p q h1 h2 h3 e
   refine go ?_;refine VE (fun hk=> ?_) (fun hk=> ?_)<;>simp only[DB]at hk;case refine_2=>
    refine go ?_;exact zK ⟨ws,fy,fin (.inl (by omega))⟩
   refine go ?_;refine VC 0 rfl rfl ?_;have fx:WQ (inC (zB 0 h7)) v ws:=(fy.own).sl;refine WJ ?_;refine VA (Z9 _ (WZ ws j) (WZ ws (j-1))) ?_;rintro _ _ ⟨rfl,rfl⟩;refine nQ ?_;refine WJ ?_;rw[zBX];refine VE (fun hm=> ?_) (fun hm=> ?_)<;>simp only[DB]at hm
   ·refine go ?_;exact zK ⟨ws,fy,fin (.inr (by omega))⟩
   have c9:a<j:=by
    by_cases e:a<j
    ·exact e
    ·have ej:j=a:=by omega
     subst ej;have:=low.out ws fy.pi (by omega) j (by omega) (by omega);omega
   refine go ?_;refine VC 0 rfl rfl ?_;have fx:WQ (inC (zB 0 h7)) v ws:=(fy.own).sl;refine WJ ?_;refine VU (j) (j-1) (fy).own (fy).ext (by rw[(fy).ext.mark];exact bU) ?_;intro h8 e8 o8 u8;have Ft:=fy.swp e8 o8 u8 h0 hb (by omega) (by omega);refine go ?_;refine zA (swp ws j (j-1),j-1) (by simp only;omega) ⟨Ft,WH,by simp only;omega,fun p q h1 h2 h3 h4=> ?_⟩;exact zHh (i:=i-1) h0 c9 (by omega) (by omega) hm (fun p q h1 h2 h3 h4=>hw p q h1 h2 (by omega) h4) p q h1 h2 (by omega) h4
  ·exact zK ⟨zs,s6,Vb (by omega)⟩
 clear s6 hz Fq;rintro t7 h7 Fe ⟨zs,s6,hz⟩;have Fq:=s6.len;refine go ?_;refine VL (fun t h'=>∃ ws,SS hB h v a b xs ws h'/\Bn a i ws) ?_ ?_
 ·refine VE (fun hj=> ?_) (fun hj=> ?_)<;>simp only[DB]at hj<;>refine go ?_
  ·refine VD (fun x=>(b-x.2).toNat) (fun(x:List Int×Int) t h7=>SS hB h v a b xs x.1 h7/\zC t 10=I x.2/\(i+1<=x.2/\x.2<=b)/\Bn a i x.1) (zs,i+1) ?_ ?_
   ·exact⟨s6,WH,by simp only;omega,hz⟩
   rintro⟨ws,j⟩ t h7 cN ⟨fy,iY,gh,hw⟩;simp only at fy iY gh hw;have Fs:=fy.len;refine go ?_;refine VE (fun hk=> ?_) (fun hk=> ?_)<;>simp only[DB]at hk;case refine_2=>
    refine go ?_;exact zK ⟨ws,fy,hw⟩
   refine go ?_;refine VC 0 rfl rfl ?_;have fx:WQ (inC (zB 0 h7)) v ws:=(fy.own).sl;refine WJ ?_;refine VA (Z9 _ (WZ ws j) (WZ ws (j-1))) ?_;rintro _ _ ⟨rfl,rfl⟩;refine nQ ?_;refine WJ ?_;rw[zBX];refine VE (fun hm=> ?_) (fun hm=> ?_)<;>simp only[DB]at hm
   ·refine go ?_;exact zK ⟨ws,fy,hw⟩
   refine go ?_;refine VC 0 rfl rfl ?_;have fx:WQ (inC (zB 0 h7)) v ws:=(fy.own).sl;refine WJ ?_;refine VU (j) (j-1) (fy).own (fy).ext (by rw[(fy).ext.mark];exact bU) ?_;intro h8 e8 o8 u8;have Ft:=fy.swp e8 o8 u8 h0 hb (by omega) (by omega);refine go ?_;exact zA (swp ws j (j-1),j+1) (by simp only;omega) ⟨Ft,WH,by simp only;omega,zOv h0 (by omega) (by omega) hw⟩
  ·exact zK ⟨zs,s6,hz⟩
 clear s6 hz Fq;rintro t8 h8 xI ⟨zs,s6,hz⟩;refine go ?_;exact zA (zs,i,c+1) (by simp only;omega) ⟨s6,WH,WH,hi,by simp only;omega,hz⟩
theorem zQU(n:Nat):∀ (hB h:WA) (v:Value) (xs:List Int) (a b vY:Int) (e0:Ext hB h) (bU:hB.mark<=hB.n) (o:Wq hB h v xs) (h0:0<=a) (du:a<=b) (hb:b<=xs.length) (hn:b-a<=n) (hlen:xs.length<=1000000000) (xR:0<=vY/\vY<=1000/\b-a<=vY+12/\b-a<=16) (gQ:0<a->∀ k,a<=k->k<b->WZ xs (a-1)<=WZ xs k),
  WC Tryz.prog tb 216 [v,I a,I b,I vY] h fun r h'=>∃ ys,SS hB h v a b xs ys h'/\Bn a b ys:=by
 induction n using Nat.strongRecOn with
 |_ n IH=>
 intro hB h v xs a b vY e0 bU o h0 du hb hn hlen xR gQ;have IH:=WK.mk IH;have s0:=VZ a b o e0;refine en ?_;refine VD (fun x=>(x.2.2.1-x.2.1).toNat) (fun(x:List Int×Int×Int×Int×Bool×Bool) t h4=>SS hB h v a b xs x.1 h4/\zC t 1=I x.2.1/\zC t 2=I x.2.2.1/\zC t 3=I x.2.2.2.1/\zC t 8=.bool x.2.2.2.2.1/\zC t 9=.bool x.2.2.2.2.2/\(a<=x.2.1/\x.2.1<=x.2.2.1/\x.2.2.1<=b)/\(0<=x.2.2.2.1/\x.2.2.2.1<=1000/\x.2.2.1-x.2.1<=x.2.2.2.1+12/\x.2.2.1-x.2.1<=16)/\Bn a x.2.1 x.1/\Bn x.2.2.1 b x.1/\(∀ p q,a<=p->p<x.2.1->x.2.1<=q->q<b->WZ x.1 p<=WZ x.1 q)/\(∀ p q,a<=p->p<x.2.2.1->x.2.2.1<=q->q<b->WZ x.1 p<=WZ x.1 q)/\(0<x.2.1->∀ k,x.2.1<=k->k<x.2.2.1->WZ x.1 (x.2.1-1)<=WZ x.1 k)) (xs,a,b,vY,true,true) ?_ ?_
 ·exact⟨s0,WH,WH,WH,WH,WH,by simp only;omega,xR,Vb (by simp only;omega),Vb (by simp only;omega),fun p q h1 h2=>by simp only at h2;omega,fun p q h1 h2 h3 h4=>by simp only at h3;omega,gQ⟩
 rintro⟨ys,c,d,lm,wb,wp⟩ t h4 ab ⟨s4,s1,s2,s3,s8,s9,lZ,qV,rA,rB,rL,rH,Fu⟩;simp only at s4 s1 s2 s3 s8 s9 lZ qV rA rB rL rH Fu;have vX:=s4.len;have whole:WK (∀ zs h5,SS hB h4 v c d ys zs h5->Bn c d zs->SS hB h v a b xs zs h5/\Bn a b zs):=WK.mk fun zs h5 s5 r5=>by
  refine⟨s4.call s5 lZ.1 lZ.2.2,fun p q h1 h2 h3=> ?_⟩;have p5:=s5.pi;have o5:=p5.out;by_cases hq:q<c
  ·rw[o5 p (by omega) (.inl (by omega)),o5 q (by omega) (.inl hq)];exact rA p q h1 h2 hq
  by_cases hp:d<=p
  ·rw[o5 p (by omega) (.inr hp),o5 q (by omega) (.inr (by omega))];exact rB p q hp h2 h3
  by_cases cU:p<c
  ·rw[o5 p (by omega) (.inl cU)];by_cases qW:d<=q
   ·rw[o5 q (by omega) (.inr qW)];exact rL p q h1 cU (by omega) h3
   ·exact p5.all (p:=fun x=>WZ ys p<=x) (by omega) (by omega) (fun k dj aS=>rL p k h1 cU dj (by omega)) q (by omega) (by omega)
  ·by_cases qW:d<=q
   ·rw[o5 q (by omega) (.inr qW)];exact p5.all (p:=fun x=>x<=WZ ys q) (by omega) (by omega) (fun k dj aS=>rH k q (by omega) aS qW h3) p (by omega) (by omega)
   ·exact r5 p q (by omega) h2 (by omega)
 refine go ?_;refine VE (fun hx=> ?_) (fun hx=> ?_)<;>simp only[DB]at hx
 ·refine go ?_;refine VA (zG5 hB h4 v ys c d s4.ext bU s4.own (by omega) (by omega) (by omega) (by omega)) ?_;rintro _ h5 ⟨zs,o5,p5,r5,e5,u5⟩;refine gr ?_;exact⟨zs,whole.out zs h5 ⟨o5,e5,u5,p5⟩ r5⟩
 have fP:¬lm=0:=by omega
 refine go ?_;refine VL (fun t h'=>∃ zs l2,SS hB h4 v c d ys zs h'/\zC t 3=I l2/\0<=l2/\l2<=1000/\lm-1<=l2) ?_ ?_
 ·refine VE (fun hz=> ?_) (fun hz=> ?_)<;>simp only[DB]at hz<;>refine go ?_
  ·refine VA (zNu hB h4 v ys c d s4.ext bU s4.own (by omega) (by omega) (by omega) (by omega) (by omega)) ?_;rintro _ h5 ⟨zs,s5⟩;refine go ?_;exact zK ⟨zs,lm-1,s5,WH,by omega,by omega,by omega⟩
  ·exact zK ⟨ys,lm,VZ c d s4.own s4.ext,WH,qV.1,qV.2.1,by omega⟩
 rintro t5 h5 vV ⟨zs,l2,s5,q3,df⟩;have Oi:=s5.len;refine go ?_;refine VA (zNR h5 v zs c d s5.own.sl (by omega) (by omega) (by omega) (by omega) (by omega)) ?_;rintro _ h6 ⟨⟨pv,hint,rfl,C0⟩,e6⟩;have s6:=s5.extd e6;refine go ?_;refine VL (fun t h'=>∃ ws p2 dt,SS hB h4 v c d ys ws h'/\zC t 11=I p2/\zC t 12=I dt/\c<=p2/\p2<d) ?_ ?_
 ·refine VE (fun hz=> ?_) (fun hz=> ?_)<;>simp only[DB]at hz<;>refine go ?_
  ·refine VA (zIn hB h6 v zs c d s6.ext bU s6.own (by omega) (by omega) (by omega) (by omega)) ?_;rintro _ h7 ⟨ws,s7⟩;refine go ?_;exact zK ⟨ws,_,1,s6.call s7 (by omega) (by omega),WH,WH,by omega,by omega⟩
  ·exact zK ⟨zs,pv,hint,s6,WH,WH,C0.1,C0.2⟩
 clear s5 s6 Oi;rintro t7 h7 Fe ⟨ws,p2,dt,s7,q11,q12,cU⟩;have Fs:=s7.len;have pG:WK (∀ us,PI c d ys us->0<c->∀ k,c<=k->k<d->WZ us (c-1)<=WZ us k):=WK.mk fun us p hc=>by
  rw[p.out (c-1) (by omega) (.inl (by omega))];exact p.all (p:=fun x=>WZ ys (c-1)<=x) (by omega) (by omega) (Fu hc)
 have env:WK (∀ us,PI c d ys us->Bn a c us/\Bn d b us/\(∀ p q,a<=p->p<c->c<=q->q<b->WZ us p<=WZ us q)/\(∀ p q,a<=p->p<d->d<=q->q<b->WZ us p<=WZ us q)):=WK.mk fun us p5=>by
  have o5:=p5.out;refine⟨fun p q h1 h2 h3=> ?_,fun p q h1 h2 h3=> ?_,fun p q h1 h2 h3 h4=> ?_,fun p q h1 h2 h3 h4=> ?_⟩
  ·rw[o5 p (by omega) (.inl (by omega)),o5 q (by omega) (.inl h3)];exact rA p q h1 h2 h3
  ·rw[o5 p (by omega) (.inr (by omega)),o5 q (by omega) (.inr (by omega))];exact rB p q h1 h2 h3
  ·rw[o5 p (by omega) (.inl (by omega))];by_cases qW:d<=q
   ·rw[o5 q (by omega) (.inr qW)];exact rL p q h1 h2 h3 h4
   ·exact p5.all (p:=fun x=>WZ ys p<=x) (by omega) (by omega) (fun k dj aS=>rL p k h1 h2 dj (by omega)) q h3 (by omega)
  ·rw[o5 q (by omega) (.inr (by omega))];by_cases hp:p<c
   ·rw[o5 p (by omega) (.inl hp)];exact rH p q h1 h2 h3 h4
   ·exact p5.all (p:=fun x=>x<=WZ ys q) (by omega) (by omega) (fun k dj aS=>rH k q (by omega) aS h3 h4) p (by omega) h2
 clear rA rB rL rH Fu;refine go ?_;refine VT 6 (fun t' h'=>h7=h'/\∃ bb,zC t' 68=.bool bb) ?_ ?_<;>simp only[Qo,GC,GE,Q2]
 ·cases wb<;>cases wp<;>refine go ?_<;>exact⟨rfl,rfl,rfl,_,WH⟩
 rintro t8 _ xI ⟨rfl,bb,q68⟩;refine go ?_;refine VL (fun t h'=>∃ us,SS hB h4 v c d ys us h') ?_ ?_
 ·refine VE (fun hz=> ?_) (fun hz=> ?_)<;>refine go ?_
  ·refine VA (zJz hB h7 v ws c d s7.ext bU s7.own (by omega) (by omega) (by omega) (by omega) (pG.out ws s7.pi)) ?_;rintro _ h9 ⟨us,w,rfl,mq,r9⟩;have r9:=WK.mk r9;refine WO.nil ?_;refine Z3 ?_;refine VE (fun hw=> ?_) (fun hw=> ?_)
   ·refine WX.ret ?_;refine zDA ?_;refine gr ?_;exact⟨us,whole.out us h9 (s7.call mq (by omega) (by omega)) (r9.out hw)⟩
   ·refine WX.skip ?_;exact zK ⟨us,s7.call mq (by omega) (by omega)⟩
  ·exact zK ⟨ws,s7⟩
 clear s7 Fs;rintro t9 h9 Ko ⟨us,mq⟩;have hl9:=mq.len;refine go ?_;refine VL (fun t h'=>h9=h'/\zC t 87=.bool (decide (0<c/\¬(WZ us (c-1)<WZ us p2)))) ?_ ?_
 ·refine VC 0 rfl rfl ?_;have fx:WQ (inC (zB 0 h9)) v us:=(mq.own).sl;refine WJ ?_;refine VJ (fun hd=> ?_) (fun hd=> ?_)<;>simp only[DB]at hd<;>refine WJ ?_
  ·refine VA (Z9 _ (WZ us (c-1)) (WZ us p2)) ?_;rintro _ _ ⟨rfl,rfl⟩;refine nQ ?_;refine WJ ?_;exact zK ⟨rfl,by rw[show decide (0<c/\¬(WZ us (c-1)<WZ us p2))= !decide (WZ us (c-1)<WZ us p2)from zCa hd];exact WH⟩
  ·exact zK ⟨rfl,by rw[show decide (0<c/\¬(WZ us (c-1)<WZ us p2))=false from QY (fun hh=>absurd hh.1 (by omega))];exact WH⟩
 rintro NQ _ Ff ⟨rfl,me⟩;refine go ?_;refine VE (fun hz=> ?_) (fun hz=> ?_)<;>simp only[DB]at hz<;>refine go ?_
 ·refine VA (zGg hB h9 v us c d p2 mq.ext bU mq.own (by omega) (by omega) (by omega) (by omega)) ?_;rintro _ gH ⟨zs,m,rfl,kS,hm,lo,hi⟩;have sw:=mq.call kS (Ql _) (Ql _);obtain⟨eA,eB,eL,eH⟩:=env.out zs sw.pi;have lz:=pG.out zs sw.pi hz.1;have hP:WZ us p2<=WZ zs (c-1):=by
   rw[kS.pi.out (c-1) (by omega) (.inl (by omega))];omega
  refine go ?_;refine zA (zs,m,d,l2,wb,wp) (by simp only;omega) ⟨s4.call sw lZ.1 lZ.2.2,WH,WH,WH,WH,WH,by simp only;omega,⟨df.1,df.2.1,by simp only;omega,by simp only;omega⟩,fun p q h1 h2 h3=> ?_,eB,fun p q h1 h2 h3 h4=> ?_,eH,fun h1 k h2 h3=> ?_⟩
  ·simp only at h3 |-;by_cases hq:q<c
   ·exact eA p q h1 h2 hq
   by_cases hp:p<c
   ·exact eL p q h1 hp (by omega) (by omega)
   ·have x1:=lo p (by omega) (by omega);have x2:=lz q (by omega) (by omega);omega
  ·simp only at h2 h3 |-;by_cases hp:p<c
   ·exact eL p q h1 hp (by omega) h4
   by_cases hq:d<=q
   ·exact eH p q h1 (by omega) hq h4
   ·have x1:=lo p (by omega) (by omega);have x2:=hi q (by omega) (by omega);omega
  ·simp only at h1 h2 h3 |-;have x1:=lo (m-1) (by omega) (by omega);have x2:=hi k (by omega) (by omega);omega
 ·refine VA (zGZ hB h9 v us c d p2 mq.ext bU mq.own (by omega) (by omega) (by omega) (by omega)) ?_;rintro _ gH ⟨zs,m,w,rfl,kS,hm,lo,hi⟩;have sw:=mq.call kS (Ql _) (Ql _);have hlw:=sw.len;refine go ?_;refine WO.quo (a:=d-c) (c:=8) (by decide) (by rw[Int.tdiv_eq_ediv_of_nonneg (by omega)];omega) (by rw[Int.tdiv_eq_ediv_of_nonneg (by omega)];omega) ?_;refine go ?_;refine VE (fun CU=> ?_) (fun CU=> ?_)<;>simp only[DB]at CU<;>refine go ?_
  ·refine VA (IH.out (m-c).toNat (by omega) hB gH v zs c m l2 sw.ext bU sw.own (by omega) (by omega) (by omega) (by omega) (by omega) ⟨df.1,df.2.1,by omega,by omega⟩ (fun h1 k h2 h3=>pG.out zs sw.pi h1 k h2 (by omega))) ?_;rintro _ dB ⟨vs,jV,Fv⟩;have st:=sw.call jV (Ql _) (by omega);obtain⟨eA,eB,eL,eH⟩:=env.out vs st.pi;have same:∀ k,m<=k->WZ vs k=WZ zs k:=fun k hk=>jV.pi.out k (by omega) (.inr hk);have left:∀ k,c<=k->k<m->WZ vs k<=WZ zs m:=jV.pi.all (p:=fun x=>x<=WZ zs m) (by omega) (by omega) (fun k h1 h2=>lo k h1 h2);refine go ?_;refine zA (vs,m+1,d,l2,decide ((d-c).tdiv 8<=m-c),w) (by simp only;omega) ⟨s4.call st lZ.1 lZ.2.2,WH,WH,WH,WH,WH,by simp only;omega,⟨df.1,df.2.1,by simp only;omega,by simp only;omega⟩,fun p q h1 h2 h3=> ?_,eB,fun p q h1 h2 h3 h4=> ?_,eH,fun h1 k h2 h3=> ?_⟩
   ·simp only at h3 |-;by_cases hq:q<c
    ·exact eA p q h1 h2 hq
    by_cases hp:p<c
    ·exact eL p q h1 hp (by omega) (by omega)
    by_cases hqm:q=m
    ·by_cases hpm:p=m
     ·rw[hqm,hpm];exact Ql _
     ·rw[hqm,same m (Ql _)];exact left p (by omega) (by omega)
    ·exact Fv p q (by omega) h2 (by omega)
   ·simp only at h2 h3 |-;by_cases hp:p<c
    ·exact eL p q h1 hp (by omega) h4
    by_cases hq:d<=q
    ·exact eH p q h1 (by omega) hq h4
    ·rw[same q (by omega)];have x2:=hi q (by omega) (by omega);by_cases hpm:p=m
     ·rw[hpm,same m (Ql _)];exact x2
     ·have x1:=left p (by omega) (by omega);omega
   ·simp only at h1 h2 h3 |-;rw[show m+1-1=m by omega,same m (Ql _),same k (by omega)];exact hi k (by omega) h3
  ·refine VA (IH.out (d-(m+1)).toNat (by omega) hB gH v zs (m+1) d l2 sw.ext bU sw.own (by omega) (by omega) (by omega) (by omega) (by omega) ⟨df.1,df.2.1,by omega,by omega⟩ (fun h1 k h2 h3=>by rw[show m+1-1=m by omega];exact hi k (by omega) h3)) ?_;rintro _ dB ⟨vs,jV,Fv⟩;have st:=sw.call jV (by omega) (Ql _);obtain⟨eA,eB,eL,eH⟩:=env.out vs st.pi;have same:∀ k,0<=k->k<=m->WZ vs k=WZ zs k:=fun k h0 hk=>jV.pi.out k h0 (.inl (by omega));have right:∀ k,m+1<=k->k<d->WZ zs m<=WZ vs k:=jV.pi.all (p:=fun x=>WZ zs m<=x) (by omega) (by omega) (fun k h1 h2=>hi k (by omega) h2);refine go ?_;refine zA (vs,c,m,l2,decide ((d-c).tdiv 8<=d-m),w) (by simp only;omega) ⟨s4.call st lZ.1 lZ.2.2,WH,WH,WH,WH,WH,by simp only;omega,⟨df.1,df.2.1,by simp only;omega,by simp only;omega⟩,eA,fun p q h1 h2 h3=> ?_,eL,fun p q h1 h2 h3 h4=> ?_,fun h1 k h2 h3=> ?_⟩
   ·simp only at h1 |-;by_cases hp:d<=p
    ·exact eB p q hp h2 h3
    by_cases hq:d<=q
    ·exact eH p q (by omega) (by omega) hq h3
    by_cases hpm:p=m
    ·by_cases hqm:q=m
     ·rw[hqm,hpm];exact Ql _
     ·rw[hpm,same m (by omega) (Ql _)];exact right q (by omega) (by omega)
    ·exact Fv p q (by omega) h2 (by omega)
   ·simp only at h2 h3 |-;by_cases hp:p<c
    ·exact eL p q h1 hp (by omega) h4
    by_cases hq:d<=q
    ·exact eH p q h1 (by omega) hq h4
    ·have x1:=lo p (by omega) h2;rw[same p (by omega) (by omega)];by_cases hqm:q=m
     ·rw[hqm,same m (by omega) (Ql _)];exact x1
     ·have x2:=right q (by omega) (by omega);omega
   ·simp only at h1 h2 h3 |-;exact pG.out vs st.pi h1 k h2 (by omega)
theorem zFi(h:WA):WC Tryz.prog tb 236 [.slice none 0 0,I 0,I 0] h fun r h'=>h=h':=by
 refine en ?_;refine VD (fun _=>0) (fun(_:Unit) t h1=>h=h1/\zC t 6=I 1) () ?_ ?_
 ·exact⟨rfl,WH⟩
 rintro _ t _ ab ⟨rfl,s6⟩;refine go ?_;refine BP ?_;rfl
theorem zPn(h:WA)(k:Int):WC Tryz.prog tb 216 [.slice none 0 0,I 0,I 0,I k] h fun r h'=>h=h':=by
 refine en ?_;refine VD (fun _=>0) (fun(_:Unit) t h1=>h=h1/\zC t 1=I 0/\zC t 2=I 0) () ?_ ?_
 ·exact⟨rfl,WH,WH⟩
 rintro _ t _ ab ⟨rfl,s1,s2⟩;refine go ?_;refine VA (zFi h) ?_;rintro _ _ rfl;refine gr ?_;rfl
def Yu(xs:List Int):List Int:=xs.mergeSort (fun a b=>decide (a<=b))
theorem zPD(hB h:WA)(v:Value)(xs:List Int)(e0:Ext hB h)(bU:hB.mark<=hB.n)(o:WL hB h v xs)(hlen:xs.length<=16):
  WC Tryz.prog tb 176 [v] h fun r h'=>WL hB h' v (Yu xs)/\Ext hB h'/\Bh v h h':=by
 have s:WQ h v xs:=o.sl;refine en ?_;rw[Yx (by omega) (by omega)];refine VA (zNO h xs.length (by omega) (by omega)) ?_;rintro _ _ ⟨⟨k,rfl,hk,aS,cg⟩,rfl⟩;refine go ?_;rcases o with⟨rfl,rfl⟩|o
 ·rw[show((([]:List Int).length:Nat):Int)=0 from rfl];refine VA (zPn h k) ?_;rintro _ _ rfl;refine go ?_;refine BP ?_;exact⟨.inl ⟨rfl,by simp[Yu]⟩,e0,Bh.refl _ _⟩
 refine VA (zQU xs.length hB h v xs 0 xs.length k e0 bU o (by omega) (by omega) (by omega) (by omega) (by omega) (by omega) (fun h=>by omega)) ?_;rintro _ h2 ⟨ys,s2,r2⟩;refine go ?_;refine BP ?_;have:ys=Yu xs:=zIy s2.pi.perm (by rw[s2.len];exact r2);exact⟨.inr (this▸s2.own),s2.ext,s2.upd⟩
end Go.Proofs.YtmejfcakhpihlaaGreatDoor
set_option maxRecDepth 100000
namespace Go.Proofs.YtmejfcakhpihlaaGreatDoor
open Go.Am
theorem zI1(hA h:WA)(y p v:Value)(l:List Int)(hl:(l.length:Int)<=1000000000)(J:Nat->WA->Prop)(h0:J 0 h)(hr:∀ i h',J i h'->WB hA h' p [v]/\WQ h' v l)
  (hy:∀ i h',i<l.length->J i h'->WV Tryz.prog tb y [I (l.getD i 0)] h' fun r ku=>r=.bool true/\J (i+1) ku):
  WC Tryz.prog tb 177 [y,p] h fun _ h'=>J l.length h':=by
 obtain⟨o,s⟩:=hr 0 h h0;obtain⟨_,_,_,rfl⟩:=Wi.shape s;have hr:=WK.mk hr;have hy:=WK.mk hy;refine en ?_;refine VD (fun i=>l.length-i) (fun i t h1=>zC t 7=I i/\i<=l.length/\J i h1) 0 ?_ ?_
 ·exact⟨WH,QK _,h0⟩
 rintro i t h1 ab ⟨s7,hi,j1⟩;obtain⟨o1,s1⟩:=hr.out i h1 j1;refine go ?_;refine VE (fun hb=> ?_) (fun hb=> ?_)<;>simp only[DB]at hb
 ·have ae:i<l.length:=by omega
  refine go ?_;refine VQ (hy.out i h1 ae j1) ?_;rintro _ h2 ⟨rfl,j2⟩;refine go ?_;exact zA (i+1) (by omega) ⟨Wn,by omega,j2⟩
 ·refine go ?_;refine BP ?_;have:i=l.length:=by omega
  subst this;exact j1
theorem zLj(h:WA)(v:Value):
  WC Tryz.prog tb 119 [v] h fun r h'=>(∃ p,r=.func (.func 177) #[] #[p]/\WB h h' p v.cells.toList)/\Ext h h':=by
 refine en ?_;refine VF ?_;intro p h1 e1 o1;refine gr ?_;exact⟨⟨p,rfl,o1⟩,e1⟩
theorem zHG(h:WA)(p v:Value)(l:List Int)(hA:WA)(hl:(l.length:Int)<=1000000000)(o:WB hA h p [v])(s:WQ h v l):
  WC Tryz.prog tb 215 [.slice none 0 0,.func (.func 177) #[] #[p]] h fun r h'=>WL h h' r l/\Ext h h':=by
 refine en ?_;refine VF ?_;intro p2 h1 e1 o1;refine go ?_;refine Vz ?_;intro L g r hO Fw eO hL hg lL lg;have o2:=o1.ext eO;have eb:=e1.trans eO;refine WV.func ?_;refine WC.mono (zI1 hA hO _ p v l hl (fun i h'=>Ext h h'/\Wz h' L (.loop r)/\Wz h' g (.deferred (some []))/\∃ w,WB h h' p2 [w]/\WL h h' w (l.take i)) ?_ ?_ ?_) ?_
 ·exact⟨eb,lL,lg,.slice none 0 0,o2,.inl ⟨rfl,rfl⟩⟩
 ·rintro i h' ⟨e',_⟩;exact⟨o.ext e',s.ext e'⟩
 ·rintro i h' hi ⟨e',jY,xS,w,ow,on⟩;refine V1 jY Fw rfl ?_;simp only[zD1];refine go ?_;refine zDz ?_;intro h2 gU;have e2:Ext h h2:=by rw[gU];exact e'.set (by have:=e1.n;omega) jY.1 _
  have kU:WB h h2 p2 [w]:=by rw[gU];exact ow.setR jY rfl
  have qX:WL h h2 w (l.take i):=by rw[gU];exact on.setR jY rfl
  have i5:Wz h2 L (.loop (busy r)):=by rw[gU];exact jY.self
  have pH:Wz h2 g (.deferred (some [])):=by
   rw[gU];refine xS.set ?_;intro e;subst e;have:=xS.2;rw[jY.2]at this;cases this
  clear gU;obtain⟨_,_,_,rfl⟩:=Wi.shape qX.sl;refine go ?_;refine WO.bl [l.getD i 0] ?_;intro v3 h3 e3 o3;refine go ?_;have aN:=e2.trans e3;have Fx:(l.take i).length<=i:=by rw[Qn];omega
  refine Vk (v:= .slice _ _ _) (w:=v3) (by exact zi) (by exact zi) (qX.ext e3) o3.sl aN (by simp) (by simp only[QV];omega) ?_;intro h4 e4 o4 u4;have mr:=WB.upd (kU.ext e3) (qX.ext e3) u4;have Fy:=(i5.ext e3).upd rfl (qX.ext e3) u4;have qY:=(pH.ext e3).upd rfl (qX.ext e3) u4;refine go ?_;refine VH mr e4 ?_;intro h5 e5 Fz u5;have FA:=Wq.updC o4 mr u5;have jZ:=Fy.updC rfl mr u5;have xT:=qY.updC rfl mr u5;refine go ?_;refine zDk jZ ?_;have tk:l.take (i+1)=l.take i++[l.getD i 0]:=by rw[Q1];simp[List.getD,QB hi]
  refine⟨rfl,e5.set (by have:=e1.n;omega) jZ.1 _,jZ.self,xT.set ?_,_,Fz.setR jZ rfl,?_⟩
  ·intro e;subst e;have:=xT.2;rw[jZ.2]at this;cases this
  ·rw[tk];exact(WL.setR (.inr FA) jZ rfl)
 ·rintro _ h2 ⟨e2,i5,pH,w,ow,on⟩;refine⟨i5,fun r3=> ?_⟩;have FB:g≠L:=by intro e;subst e;have:=pH.2;rw[i5.2]at this;cases this
  obtain⟨h3,j0⟩:∃ h3,h3=h2.set L (.loop r3):=⟨_,rfl⟩;have e3:Ext h h3:=by rw[j0];exact e2.set (by have:=e1.n;omega) i5.1 _
  have pI:WB h h3 p2 [w]:=by rw[j0];exact ow.setR i5 rfl
  have j6:WL h h3 w (l.take l.length):=by rw[j0];exact on.setR i5 rfl
  have xU:Wz h3 g (.deferred (some [])):=by rw[j0];exact pH.set FB
  rw[<-j0];clear j0;obtain⟨_,_,_,rfl⟩:=Wi.shape j6.sl;refine go ?_;refine zHs xU ?_;refine rt ?_;rw[Qg]at j6;exact⟨j6.setR xU rfl,e3.set (by have:=e1.n;omega) xU.1 _⟩
theorem zJr(h:WA)(p v:Value)(l:List Int)(hA:WA)(hl:(l.length:Int)<=1000000000)(o:WB hA h p [v])(s:WQ h v l):
  WC Tryz.prog tb 175 [.func (.func 177) #[] #[p]] h fun r h'=>WL h h' r l/\Ext h h':=by
 refine en ?_;refine VA (zHG h p v l hA hl o s) ?_;rintro r h1 ⟨o1,e1⟩;refine gr ?_;exact⟨o1,e1⟩
theorem zLm(h:WA)(p v:Value)(l:List Int)(hA:WA)(hl:(l.length:Int)<=16)(hm:h.mark<=h.n)(o:WB hA h p [v])(s:WQ h v l):
  WC Tryz.prog tb 118 [.func (.func 177) #[] #[p]] h fun r h'=>WL h h' r (Yu l)/\Ext h h':=by
 refine en ?_;refine VA (zJr h p v l hA (by omega) o s) ?_;rintro r h1 ⟨o1,e1⟩;refine go ?_;refine VA (zPD h h1 r l e1 hm o1 (by omega)) ?_;rintro _ h2 ⟨o2,e2,u2⟩;refine gr ?_;exact⟨o2,e2⟩
def zAA(T:List WE)(F:List Wa)(f:Int):List Int:=(YB (Wr (zG T F f 0).1) (zG T F f 0).1.length [0] ([],[])).2
theorem zEv{L:List Wc}(ah:∀ b,0<=b/\b<(L.length:Int)->∀ c∈Wr L b,0<=c/\c<(L.length:Int))(m:List Int)(hm:∀ c∈m,0<=c/\c<(L.length:Int)):(YB (Wr L) L.length m ([],[])).2.length<=L.length:=by
 have:∀ (m:List Int) (s:DS),(∀ c∈m,0<=c/\c<(L.length:Int))->(YB (Wr L) L.length m s).2.length+Bb L.length (YB (Wr L) L.length m s).1<=s.2.length+Bb L.length s.1:=by
  intro m;induction m with
  |nil=>intro s _;exact QE _
  |cons x m ih=>intro s hm;exact QP (ih _ fun c hc=>hm c (by simp[hc])) (zDd ah _ x s (hm x (by simp)))
 have h1:=this m ([],[]) hm;have h2:=zEZ L.length [];simp only[G9]at h1;omega
def yX(T:List WE)(F:List Wa)(f:Int):List Int×Int:=
 if(zG T F f 0).2≠0 then([],(zG T F f 0).2)else(Yu (zAA T F f),0)
def ze(T:List WE)(F:List Wa)(f:Int):List Int×Int:=
 if(zG T F f 0).2≠0 then([],(zG T F f 0).2)else((zAA T F f).reverse,0)
theorem zIP(h:WA)(vt vf:Value)(T:List WE)(F:List Wa)(f:Int)(tt:Br h)(hm:h.mark<=h.n)(sm:BC T F)(st:Wu h vt T)(sf:Wo h vf F):
  WC Tryz.prog tb 75 [.agg #[vt,vf],I f] h fun r h'=>(∃ v,r=.tuple #[v,I (yX T F f).2]/\WL h h' v (yX T F f).1)/\Ext h h':=by
 refine en ?_;refine VF ?_;intro p h1 e1 o1;refine go ?_;refine VA (zDX h1 vt vf T F f 0 (tt.ext e1) (zp e1 hm) sm (st.ext e1) (Wo.ext sf e1)) ?_;rintro _ h2 ⟨⟨v,rfl,sb⟩,e2⟩;have az:=e1.trans e2;refine go ?_;refine VE (fun hb=> ?_) (fun hb=> ?_)<;>simp only[DB]at hb<;>refine go ?_
 ·refine rt ?_;rw[show yX T F f=([],(zG T F f 0).2)from by rw[yX,QF hb]];exact⟨⟨_,rfl,.inl ⟨rfl,rfl⟩⟩,az⟩
 have aQ:(zG T F f 0).2=0:=by omega
 obtain⟨hlen,fe⟩:=Ze aQ;obtain⟨_,cC,_,_⟩:=ZO aQ;have cR:∀ c∈([0]:List Int),0<=c/\c<((zG T F f 0).1.length:Int):=fun c hc=>by
  rw[QZ]at hc;subst hc;exact⟨Ql _,cC⟩
 have pJ:=zEv fe [0] cR;rw[show yX T F f=(Yu (zAA T F f),0)from by rw[yX,QC (by omega)]];refine WO.bl [0] ?_;intro v3 h3 e3 o3;have dk:=az.trans e3;refine go ?_;refine VA (zKR h3 (zp dk hm) _ v v3 [0] (Wv.ext sb e3) (by omega) fe o3.sl (by decide) cR) ?_;rintro q h4 ⟨o4,e4⟩;have bV:=dk.trans e4;obtain⟨qa,qn,qk,rfl⟩:=Wi.shape o4.sl;refine go ?_;refine VA (zLj h4 _) ?_;rintro _ h5 ⟨⟨p5,rfl,o5⟩,e5⟩;have er:=bV.trans e5;refine go ?_;refine VA (zLm h5 p5 _ _ h4 (by omega) (zp er hm) o5 (o4.sl.ext e5)) ?_;rintro r h6 ⟨o6,e6⟩;refine gr ?_;exact⟨⟨_,rfl,o6.since er⟩,er.trans e6⟩
theorem zDU{x:Int}{l:List Int}:x∈Yu l↔x∈l:=(List.mergeSort_perm l _).mem_iff
theorem zKo(l:List Int):(Yu l).length=l.length:=(List.mergeSort_perm l _).length_eq
theorem zFK{L:List Wc}{a b:Int}(h:0<=a/\a<(L.length:Int)):a∈zW L b L.length↔b∈Wr L a:=by
 unfold zW Wr;simp only[Qw,Gs,GV,Qd];constructor
 ·rintro⟨i,⟨_,h1⟩,rfl⟩;rw[QL];exact h1
 ·intro h1;exact⟨a.toNat,⟨by omega,h1⟩,by omega⟩
theorem zDh{L:List Wc}{a b:Int}:a∈zW L b L.length↔(0<=a/\a<(L.length:Int))/\b∈Wr L a:=by
 constructor
 ·intro h;have h':=h;unfold zW at h';simp only[Qw,Gs,GV]at h';obtain⟨i,⟨hi,_⟩,rfl⟩:=h';exact⟨by omega,(zFK (by omega)).1 h⟩
 ·rintro⟨h1,h2⟩;exact(zFK h1).2 h2
theorem Z2{T:List WE}{F:List Wa}{f b:Int}(h:(zG T F f 0).2=0):b∈(yX T F f).1↔Wl (Wr (zG T F f 0).1) 0 b:=by
 obtain⟨_,cC,_,_⟩:=ZO h;obtain⟨hlen,ah⟩:=Ze h;unfold yX;rw[QC (by rw[h];exact fun e=>e rfl)];simp only;rw[zDU];unfold zAA;rw[zKb ah (fun c hc=>by rw[QZ]at hc;subst hc;exact⟨Ql _,cC⟩)];simp
theorem zGP{T:List WE}{F:List Wa}{f:Int}:(yX T F f).2=(zG T F f 0).2:=by
 unfold yX;split
 ·rfl
 ·rename_i h;simp only[ne_eq,Decidable.not_not]at h;exact h.symm
end Go.Proofs.YtmejfcakhpihlaaGreatDoor
set_option maxRecDepth 100000
namespace Go.Proofs.YtmejfcakhpihlaaGreatDoor
open Go.Am
theorem zG0(hA h:WA)(y p v:Value)(l:List Int)(hl:(l.length:Int)<=1000000000)(J:Nat->WA->Prop)(h0:J 0 h)(hr:∀ i h',J i h'->WB hA h' p [v]/\WQ h' v l)
  (hy:∀ i h',i<l.length->J i h'->WV Tryz.prog tb y [I ((l.length:Int)-1-i),I (l.getD (l.length-1-i) 0)] h' fun r ku=>r=.bool true/\J (i+1) ku):
  WC Tryz.prog tb 257 [y,p] h fun _ h'=>J l.length h':=by
 obtain⟨o,s⟩:=hr 0 h h0;obtain⟨_,_,_,rfl⟩:=Wi.shape s;have hr:=WK.mk hr;have hy:=WK.mk hy;refine en ?_;refine VD (fun i=>l.length-i) (fun i t h1=>zC t 3=I ((l.length:Int)-1-i)/\i<=l.length/\J i h1) 0 ?_ ?_
 ·exact⟨by rw[show(l.length:Int)-1-((0:Nat):Int)=l.length-1 by omega];exact WH,QK _,h0⟩
 rintro i t h1 ab ⟨s3,hi,j1⟩;obtain⟨o1,s1⟩:=hr.out i h1 j1;refine go ?_;refine VE (fun hb=> ?_) (fun hb=> ?_)<;>simp only[DB]at hb
 ·have ae:i<l.length:=by omega
  have pz:((l.length:Int)-1-i).toNat=l.length-1-i:=by omega
  refine go ?_;have KE:=hy.out i h1 ae j1;rw[<-pz]at KE;refine VQ KE ?_;rintro _ h2 ⟨rfl,j2⟩;refine go ?_;exact zA (i+1) (by omega) ⟨by rw[show(l.length:Int)-1-((i+1:Nat):Int)=l.length-1-i-1 by omega];exact WH,by omega,j2⟩
 ·refine go ?_;refine BP ?_;have:i=l.length:=by omega
  subst this;exact j1
theorem zH2(h:WA)(v:Value):
  WC Tryz.prog tb 247 [v] h fun r h'=>(∃ p,r=.func (.func 257) #[] #[p]/\WB h h' p v.cells.toList)/\Ext h h':=by
 refine en ?_;refine VF ?_;intro p h1 e1 o1;refine gr ?_;exact⟨⟨p,rfl,o1⟩,e1⟩
theorem zNg(l:List Int){i:Nat}(hi:i<l.length):l.reverse.take (i+1)=l.reverse.take i++[l.getD (l.length-1-i) 0]:=by
 rw[Q1,List.getElem?_reverse hi];simp[List.getD,QB (show l.length-1-i<l.length by omega)]
theorem zOI(h:WA)(vt vf:Value)(T:List WE)(F:List Wa)(f:Int)(tt:Br h)(hm:h.mark<=h.n)(sm:BC T F)(st:Wu h vt T)(sf:Wo h vf F):
  WC Tryz.prog tb 222 [.agg #[vt,vf],I f] h fun r h'=>(∃ v,r=.tuple #[v,I (ze T F f).2]/\WL h h' v (ze T F f).1)/\Ext h h':=by
 refine en ?_;refine VF ?_;intro p h1 e1 o1;refine go ?_;refine WO.al ?_;intro p4 h2 e2 o2;have o2:=o2.since e1;have o1:=o1.ext e2;have bj:=e1.trans e2;refine go ?_;refine VA (zDX h2 vt vf T F f 0 (tt.ext bj) (zp bj hm) sm (st.ext bj) (Wo.ext sf bj)) ?_;rintro _ h3 ⟨⟨v,rfl,sb⟩,e3⟩;have aN:=bj.trans e3;have o3:=o2.ext e3;refine go ?_;refine VE (fun hb=> ?_) (fun hb=> ?_)<;>simp only[DB]at hb<;>refine go ?_
 ·refine VH o3 aN ?_;intro h4 e4 o4 _;refine go ?_;rw[show ze T F f=([],(zG T F f 0).2)from by rw[ze,QF hb]];refine rt ?_ (Ve WH o4 rfl (BQ.cons WH BQ.nil));exact⟨⟨_,rfl,.inl ⟨rfl,rfl⟩⟩,e4⟩
 have aQ:(zG T F f 0).2=0:=by omega
 obtain⟨hlen,fe⟩:=Ze aQ;obtain⟨_,cC,_,_⟩:=ZO aQ;have cR:∀ c∈([0]:List Int),0<=c/\c<((zG T F f 0).1.length:Int):=fun c hc=>by
  rw[QZ]at hc;subst hc;exact⟨Ql _,cC⟩
 have pJ:=zEv fe [0] cR;rw[show ze T F f=((zAA T F f).reverse,0)from by rw[ze,QC (by omega)]];refine WO.bl [0] ?_;intro v4 h4 e4 o4;have bz:=aN.trans e4;have KF:=o3.ext e4;refine go ?_;refine VA (zKR h4 (zp bz hm) _ v v4 [0] (Wv.ext sb e4) (by omega) fe o4.sl (by decide) cR) ?_;rintro q h5 ⟨o5,e5⟩;have cq:=bz.trans e5;have Oj:=KF.ext e5;obtain⟨qa,qn,qk,rfl⟩:=Wi.shape o5.sl;refine go ?_;refine VA (zH2 h5 _) ?_;rintro _ h6 ⟨⟨p6,rfl,o6⟩,e6⟩;have eu:=cq.trans e6;have Ol:=Oj.ext e6;have FC:=(o5.ext e6).since (Ext.refl h4);have bD:zAA T F f=(YB (Wr (zG T F f 0).1) (zG T F f 0).1.length [0] ([],[])).2:=rfl;rw[<-bD]at pJ FC o5;generalize zAA T F f=l at pJ FC o5 |-;clear bD;refine go ?_;refine Vz ?_;intro L g r hO Fw eO hL hg lL lg;have Om:=eu.trans eO;obtain⟨g4,C1,rfl⟩:∃ g4,g4<h4.n/\p4=.pointer (some ⟨g4,0,none⟩):=let⟨g,_,a,b,_⟩:=KF;⟨g,a,b⟩;have oO:=Ol.ext eO;refine WV.func ?_;refine WC.mono (zG0 h5 hO _ p6 (.slice qa qn qk) l (by omega) (fun i h'=>Ext h h'/\Wm (.pointer (some ⟨g4,0,none⟩)) h6 h'/\Wz h' L (.loop r)/\Wz h' g (.deferred (some []))/\∃ w,WB h h' (.pointer (some ⟨g4,0,none⟩)) [w]/\WL h6 h' w (l.reverse.take i)) ?_ ?_ ?_) ?_
 ·exact⟨Om,(Wm.refl _ h6).extd eO,lL,lg,.slice none 0 0,oO,.inl ⟨rfl,rfl⟩⟩
 ·rintro i h' ⟨_,u',_⟩;exact⟨o6.offC u' (QI C1 e5.n),(FC.offC u' C1).sl⟩
 ·rintro i h' hi ⟨e',u',jY,xS,w,ow,on⟩;refine V1 jY Fw rfl ?_;simp only[zD1];refine go ?_;refine zDz ?_;intro j2 gU;have iJ:Ext h j2:=by rw[gU];exact e'.set (QP eu.n hL) jY.1 _
  have FD:Wm (.pointer (some ⟨g4,0,none⟩)) h6 j2:=by rw[gU];exact u'.setL hL
  have kU:WB h j2 (.pointer (some ⟨g4,0,none⟩)) [w]:=by rw[gU];exact ow.setR jY rfl
  have qX:WL h6 j2 w (l.reverse.take i):=by rw[gU];exact on.setR jY rfl
  have i5:Wz j2 L (.loop (busy r)):=by rw[gU];exact jY.self
  have pH:Wz j2 g (.deferred (some [])):=by
   rw[gU];refine xS.set ?_;intro e;subst e;have:=xS.2;rw[jY.2]at this;cases this
  clear gU;obtain⟨_,_,_,rfl⟩:=Wi.shape qX.sl;refine go ?_;refine WO.bl [l.getD (l.length-1-i) 0] ?_;intro v3 j3 pK On;refine go ?_;have FE:=iJ.trans pK;have Fx:(l.reverse.take i).length<=i:=by rw[Qn];omega
  have j6:=qX.ext pK;refine Vk (v:= .slice _ _ _) (w:=v3) (by exact zi) (by exact zi) (j6.since eu) On.sl FE (by simp) (by simp only[QV];omega) ?_;intro j4 ff FF ti;have mr:=WB.upd (kU.ext pK) (j6.since eu) ti;have Fy:=(i5.ext pK).upd rfl j6 ti;have qY:=(pH.ext pK).upd rfl j6 ti;have u4:=(FD.extd pK).upd j6 ti;refine go ?_;refine VH mr ff ?_;intro j5 cB Fz C2;have FA:=(Wq.updC FF mr C2).rebase (QP FD.1 pK.n);have jZ:=Fy.updC rfl mr C2;have xT:=qY.updC rfl mr C2;have u5:=u4.trans C2;refine go ?_;refine zDk jZ ?_;have tk:=zNg l hi;refine⟨rfl,cB.set (QP eu.n hL) jZ.1 _,u5.setL hL,jZ.self,xT.set ?_,_,Fz.setR jZ rfl,?_⟩
  ·intro e;subst e;have:=xT.2;rw[jZ.2]at this;cases this
  ·rw[tk];exact(WL.setR (.inr FA) jZ rfl)
 ·rintro _ j2 ⟨iJ,FD,i5,pH,w,ow,on⟩;refine⟨i5,fun r3=> ?_⟩;have FB:g≠L:=by intro e;subst e;have:=pH.2;rw[i5.2]at this;cases this
  obtain⟨j3,j0⟩:∃ j3,j3=j2.set L (.loop r3):=⟨_,rfl⟩;have pK:Ext h j3:=by rw[j0];exact iJ.set (QP eu.n hL) i5.1 _
  have pI:WB h j3 (.pointer (some ⟨g4,0,none⟩)) [w]:=by rw[j0];exact ow.setR i5 rfl
  have j6:WL h6 j3 w (l.reverse.take l.length):=by rw[j0];exact on.setR i5 rfl
  have xU:Wz j3 g (.deferred (some [])):=by rw[j0];exact pH.set FB
  rw[<-j0];clear j0;obtain⟨_,_,_,rfl⟩:=Wi.shape j6.sl;rw[Q7 (by rw[List.length_reverse];exact QE _)]at j6;refine go ?_;refine VH pI pK ?_;intro j4 ff mr ti;have qY:=xU.updC rfl pI ti;have Oo:=j6.offC ti (QI C1 (e5.trans e6).n);refine go ?_;refine zHs qY ?_;refine rt ?_ (Ve WH (mr.setR qY rfl) rfl (BQ.cons WH BQ.nil));exact⟨⟨_,rfl,(Oo.setR qY rfl).since eu⟩,ff.set (QP eu.n hg) qY.1 _⟩
def Ord(nx:Int->List Int)(d:List Int):Prop:=∀ d1 u d2,d=d1++u::d2->∀ v∈nx u,v∈d1\/Wl nx v u
theorem Ord.snoc{nx:Int->List Int}{d:List Int}{b:Int}(h:Ord nx d)(k:∀ v∈nx b,v∈d\/Wl nx v b):Ord nx (d++[b]):=by
 intro d1 u d2 e v hv;rcases List.eq_nil_or_concat d2 with rfl|⟨d3,x,rfl⟩
 ·have:=List.append_inj' (s₁:=d) (t₁:=[b]) (s₂:=d1) (t₂:=[u]) e rfl;obtain⟨rfl,e2⟩:=this;cases e2;exact k v hv
 ·have e':d++[b]=(d1++u::d3)++[x]:=by rw[e];simp
  obtain⟨e1,e2⟩:=List.append_inj' e' rfl;exact h d1 u d3 e1 v hv
structure Lv(nx:Int->List Int)(s t:DS):Prop where
 bg:∀ c,Bg s c->Bg t c
 dn:∀ c∈t.2,Bg t c
 nd:t.2.Nodup
 ord:Ord nx t.2
 open_:∀ c,Bg t c->c∈t.2\/Bg s c/\c∉s.2
 fC:∀ c∈t.2,c∈s.2\/¬Bg s c
 keep:∀ c∈s.2,c∈t.2
theorem Lv.refl{nx:Int->List Int}{s:DS}(dn:∀ c∈s.2,Bg s c)(nd:s.2.Nodup)(ord:Ord nx s.2):Lv nx s s:=
 ⟨fun _ h=>h,dn,nd,ord,fun c h=>by by_cases e:c∈s.2<;>simp[e,h],fun c h=> .inl h,fun _ h=>h⟩
theorem Lv.trans{nx:Int->List Int}{s t u:DS}(a:Lv nx s t)(b:Lv nx t u):Lv nx s u where
 bg:=fun c h=>b.bg c (a.bg c h)
 dn:=b.dn
 nd:=b.nd
 ord:=b.ord
 open_:=fun c h=>by
  rcases b.open_ c h with h|⟨h1,h2⟩
  ·exact .inl h
  ·rcases a.open_ c h1 with h|h
   ·exact absurd h h2
   ·exact .inr h
 fC:=fun c h=>by
  rcases b.fC c h with h|h
  ·exact a.fC c h
  ·exact .inr fun e=>h (a.bg c e)
 keep:=fun c h=>b.keep c (a.keep c h)
theorem zQn{nx:Int->List Int}{N:Nat}(ah:∀ b,0<=b/\b<(N:Int)->∀ c∈nx b,0<=c/\c<(N:Int)):∀ (n:Nat) (b:Int) (s:DS),Bb N s.1<=n->0<=b/\b<(N:Int)->
  (∀ c∈s.2,Bg s c)->s.2.Nodup->Ord nx s.2->(∀ c,Bg s c->c∈s.2\/Wl nx c b)->Lv nx s (Zc nx n b s):=by
 intro n;induction n with
 |zero=>intro b s h hb dn nd ord hw;exact Lv.refl dn nd ord
 |succ n ih=>
  intro b s h hb dn nd ord hw;by_cases aC:Bg s b
  ·rw[zB0 aC];exact Lv.refl dn nd ord
  ·have bZ:s.1.lookup b=none:=by
    unfold Bg at aC;cases hq:s.1.lookup b with
    |none=>rfl
    |some w=>rw[hq]at aC;exact absurd rfl aC
   have aL:=zFP (v:=(s.1.length:Int)) bZ hb;have go:∀ (l:List Int) (t:DS),Bb N t.1<=n->(∀ c∈l,c∈nx b)->(∀ c∈t.2,Bg t c)->t.2.Nodup->Ord nx t.2->(∀ c,Bg t c->c∈t.2\/Wl nx c b)->Lv nx t (l.foldl (fun(t:DS) (c:Int)=>Zc nx n c t) t):=by
    intro l;induction l with
    |nil=>intro t _ _ dn nd ord _;exact Lv.refl dn nd ord
    |cons x l cI=>
     intro t ht hl dn nd ord hw;have KG:=hl x (by simp);have hx:=ih x t ht (ah b hb x KG) dn nd ord (fun c hc=>(hw c hc).imp id fun w=> .step w KG);refine hx.trans (cI _ (QP (zC3 fun c hc=>hx.bg c hc) ht) (fun c hc=>hl c (by simp[hc])) hx.dn hx.nd hx.ord fun c hc=> ?_);rcases hx.open_ c hc with h|⟨h1,h2⟩
     ·exact .inl h
     ·rcases hw c h1 with h|h
      ·exact absurd h h2
      ·exact .inr h
   have Oq:∀ c∈s.2,Bg (s.1++[(b,(s.1.length:Int))],s.2) c:=fun c hc=>zAY.2 (.inl (dn c hc));have Ot:∀ c,Bg (s.1++[(b,(s.1.length:Int))],s.2) c->c∈s.2\/Wl nx c b:=fun c hc=>by
    rcases zAY.1 hc with h|rfl
    ·exact hw c h
    ·exact .inr .here
   have k:=go (nx b) (s.1++[(b,(s.1.length:Int))],s.2) (by simp only;omega) (fun c hc=>hc) Oq nd ord Ot;have k2:=zDS (nx:=nx) (n:=n) ah (nx b) (s.1++[(b,(s.1.length:Int))],s.2) (by simp only;omega) (ah b hb);have hu:Zc nx (n+1) b s=(((nx b).foldl (fun(t:DS) (c:Int)=>Zc nx n c t) (s.1++[(b,(s.1.length:Int))],s.2)).1,((nx b).foldl (fun(t:DS) (c:Int)=>Zc nx n c t) (s.1++[(b,(s.1.length:Int))],s.2)).2++[b]):=by
    conv=>lhs;unfold Zc
    rw[QC (by rw[bZ];exact Bool.noConfusion)]
   have aS:YB nx n (nx b) (s.1++[(b,(s.1.length:Int))],s.2)=(nx b).foldl (fun(t:DS) (c:Int)=>Zc nx n c t) (s.1++[(b,(s.1.length:Int))],s.2):=rfl;rw[aS]at k2;rw[hu];generalize(nx b).foldl (fun(t:DS) (c:Int)=>Zc nx n c t) (s.1++[(b,(s.1.length:Int))],s.2)=t at k k2 |-;have iU:b∉s.2:=fun e=>aC (dn b e);have aQ:Bg (s.1++[(b,(s.1.length:Int))],s.2) b:=zAY.2 (.inr rfl);have tj:b∉t.2:=fun e=>by
    rcases k.fC b e with h|h
    ·exact iU h
    ·exact h aQ
   have KH:∀ c,Bg t c->c∈t.2\/c=b\/Bg s c/\c∉s.2:=fun c hc=>by
    rcases k.open_ c hc with h|⟨h1,h2⟩
    ·exact .inl h
    ·rcases zAY.1 h1 with h|h
     ·exact .inr (.inr ⟨h,h2⟩)
     ·exact .inr (.inl h)
   refine⟨fun c h=>k.bg c (zAY.2 (.inl h)),fun c hc=> ?_,?_,k.ord.snoc fun v hv=> ?_,fun c hc=> ?_,fun c hc=> ?_,fun c hc=> ?_⟩
   ·simp only[Qs,QZ]at hc;rcases hc with h|rfl
    ·exact k.dn c h
    ·exact k.bg _ aQ
   ·simp only;rw[List.nodup_append];exact⟨k.nd,by simp,fun a ha c hc=>by rw[QZ]at hc;subst hc;exact fun e=>tj (e▸ha)⟩
   ·rcases KH v (k2.all v hv)with h|rfl|⟨h1,h2⟩
    ·exact .inl h
    ·exact .inr .here
    ·rcases hw v h1 with h|h
     ·exact absurd h h2
     ·exact .inr h
   ·simp only[Qs,QZ];rcases KH c hc with h|h|h
    ·exact .inl (.inl h)
    ·exact .inl (.inr h)
    ·exact .inr h
   ·simp only[Qs,QZ]at hc;rcases hc with h|rfl
    ·rcases k.fC c h with h|h
     ·exact .inl h
     ·exact .inr fun e=>h (zAY.2 (.inl e))
    ·exact .inr aC
   ·simp only[Qs];exact .inl (k.keep c hc)
theorem zHa{nx:Int->List Int}{N:Nat}(ah:∀ b,0<=b/\b<(N:Int)->∀ c∈nx b,0<=c/\c<(N:Int)){a:Int}(ha:0<=a/\a<(N:Int)):
  (YB nx N [a] ([],[])).2.Nodup/\Ord nx (YB nx N [a] ([],[])).2/\∃ d,(YB nx N [a] ([],[])).2=d++[a]:=by
 have e:YB nx N [a] ([],[])=Zc nx N a ([],[]):=rfl;have no:∀ d,¬Bg (([],[]):DS) d:=fun d h=>by unfold Bg at h;exact Bool.noConfusion h
 have k:=zQn (nx:=nx) ah N a ([],[]) (zEZ _ _) ha (fun c h=>by cases h) .nil (fun d1 u d2 e=>by cases d1<;>cases e) (fun c h=>absurd h (no c));rw[e];refine⟨k.nd,k.ord,?_⟩;obtain⟨n,rfl⟩:∃ n,N=n+1:=⟨N-1,by omega⟩;unfold Zc;rw[QC (by simp)];exact⟨_,rfl⟩
theorem zLs(l:List Int)(hn:l.Nodup):∀ i,i+1<(Yu l).length->(Yu l).getD i 0<(Yu l).getD (i+1) 0:=by
 intro i hi;have hp:(Yu l).Pairwise (fun a b=>decide (a<=b)=true):=List.pairwise_mergeSort (fun a b c h1 h2=>by simp only[Qd]at *;omega) (fun a b=>by simp only[GN,Qd];omega) l;have hd:(Yu l).Nodup:=(List.mergeSort_perm l _).nodup_iff.2 hn;have h1:=List.pairwise_iff_getElem.1 hp i (i+1) (by omega) hi (by omega);have h2:(Yu l)[i]≠(Yu l)[i+1]:=fun e=>by
  have:=(List.getElem_inj hd).1 e;omega
 simp only[Qd]at h1;simp only[QG,QB hi,QB (show i<(Yu l).length by omega),GB];omega
theorem zAt{T:List WE}{F:List Wa}{f:Int}(h:(zG T F f 0).2=0):
  (ze T F f).1.length=(yX T F f).1.length/\(ze T F f).1.length<=16/\(∃ l,(ze T F f).1=0::l)/\(∀ c,c∈(yX T F f).1->c∈(ze T F f).1)/\
  (∀ n,n+1<(yX T F f).1.length->(yX T F f).1.getD n 0<(yX T F f).1.getD (n+1) 0)/\(∀ c∈(ze T F f).1,0<=c/\c<((zG T F f 0).1.length:Int))/\
  (∀ i k,i<(ze T F f).1.length->k<(ze T F f).1.length->(ze T F f).1.getD k 0∈Wr (zG T F f 0).1 ((ze T F f).1.getD i 0)->¬Wl (Wr (zG T F f 0).1) ((ze T F f).1.getD k 0) ((ze T F f).1.getD i 0)->i<k):=by
 obtain⟨_,cC,_,_⟩:=ZO h;obtain⟨hlen,ah⟩:=Ze h;have cR:∀ c∈([0]:List Int),0<=c/\c<((zG T F f 0).1.length:Int):=fun c hc=>by
  rw[QZ]at hc;subst hc;exact⟨Ql _,cC⟩
 obtain⟨nd,ord,d,hd⟩:=zHa ah (cR 0 (by simp));have hl:=zEv ah [0] cR;have eO:(ze T F f).1=(zAA T F f).reverse:=by unfold ze;rw[QC (by rw[h];exact fun e=>e rfl)]
 have eR:(yX T F f).1=Yu (zAA T F f):=by unfold yX;rw[QC (by rw[h];exact fun e=>e rfl)]
 have eP:zAA T F f=(YB (Wr (zG T F f 0).1) (zG T F f 0).1.length [0] ([],[])).2:=rfl;have aw:∀ c,c∈zAA T F f->0<=c/\c<((zG T F f 0).1.length:Int):=fun c hc=>by
  rw[eP,zKb ah cR]at hc;obtain⟨a,ha,w⟩:=hc;have KI:=cR a ha;clear ha;induction w with
  |here=>exact KI
  |step _ hd ih=>exact ah _ ih _ hd
 rw[<-eP]at nd ord hd hl;rw[eO,eR];generalize zAA T F f=l at *;refine⟨by rw[List.length_reverse,zKo],by rw[List.length_reverse];omega,⟨d.reverse,by rw[hd];simp⟩,fun c hc=>by rw[List.mem_reverse];exact zDU.1 hc,zLs l nd,fun c hc=>aw c (List.mem_reverse.1 hc),fun i k hi hk he hw=> ?_⟩;rw[List.length_reverse]at hi hk;have ei:l.reverse.getD i 0=l.getD (l.length-1-i) 0:=by
  rw[QG,List.getElem?_reverse hi,QG]
 have ek:l.reverse.getD k 0=l.getD (l.length-1-k) 0:=by
  rw[QG,List.getElem?_reverse hk,QG]
 rw[ei,ek]at he hw;have dt:l.length-1-i<l.length:=by omega
 have aS:l.length-1-k<l.length:=by omega
 have de:l=l.take (l.length-1-i)++l.getD (l.length-1-i) 0::l.drop (l.length-1-i+1):=by
  conv=>lhs;rw[<-GS (l.length-1-i) l,GU dt]
  simp[List.getD,QB dt]
 rcases ord _ _ _ de _ he with hm|hm
 ·obtain⟨j,hj,e⟩:=JI.1 hm;rw[Qn]at hj;rw[List.getElem_take]at e;have e2:l.getD (l.length-1-k) 0=l[l.length-1-k]:=by simp[List.getD,QB aS]
  rw[e2]at e;have:=(List.getElem_inj nd).1 e;omega
 ·exact absurd hm hw
theorem zQ5{n:Int}(h:(Lit.int .u8 n).wf=true):0<=n/\n<=255:=by
 simp[Lit.wf,IntKind.wrap,IntKind.signed,IntKind.bits]at h;have h1:IntKind.min .u8=0:=by decide
 have h2:IntKind.max .u8=255:=by decide
 omega
theorem zRB{l:List Value}(h:l.length=2):∃ a b,l=[a,b]:=by
 match l,h with
 |[a,b],_=>exact⟨a,b,rfl⟩
theorem zRV{l:List Value}(h:l.length=4):∃ a b c d,l=[a,b,c,d]:=by
 match l,h with
 |[a,b,c,d],_=>exact⟨a,b,c,d,rfl⟩
theorem zRq{l:List Value}(h:l.length=5):∃ a b c d e,l=[a,b,c,d,e]:=by
 match l,h with
 |[a,b,c,d,e],_=>exact⟨a,b,c,d,e,rfl⟩
theorem zRe{l:List Value}(h:l.length=7):∃ a b c d e f g,l=[a,b,c,d,e,f,g]:=by
 match l,h with
 |[a,b,c,d,e,f,g],_=>exact⟨a,b,c,d,e,f,g,rfl⟩
section
variable {H:Type}{h:WA}
theorem zPe(cs:List Value)(d:DataW H)(r:Rd Tryz.prog h 61 cs d)(hw:BN Tryz.prog 61 d):∃ a,RTy h cs a:=by
 obtain⟨hl,hr⟩:=Yi r Tryz.underlying61 hw;have hc:Tryz.prog.cellsOf 61=4:=by kernel_rfl
 rw[hc]at hl;obtain⟨x0,x1,x2,x3,rfl⟩:∃ x0 x1 x2 x3,cs=[x0,x1,x2,x3]:=by
  exact zRV hl
 obtain⟨d0,r0,w0⟩:=hr 0 _ rfl;have c0:Tryz.prog.cellsOf 5=1:=by kernel_rfl
 replace r0:Rd Tryz.prog h 5 (([x0,x1,x2,x3].drop 0).take (Tryz.prog.cellsOf 5)) d0:=r0;replace w0:BN Tryz.prog 5 d0:=w0;rw[c0]at r0;replace r0:Rd Tryz.prog h 5 [x0] d0:=r0;obtain⟨d1,r1,w1⟩:=hr 1 _ rfl;have c1:Tryz.prog.cellsOf 3=1:=by kernel_rfl
 replace r1:Rd Tryz.prog h 3 (([x0,x1,x2,x3].drop 1).take (Tryz.prog.cellsOf 3)) d1:=r1;replace w1:BN Tryz.prog 3 d1:=w1;rw[c1]at r1;replace r1:Rd Tryz.prog h 3 [x1] d1:=r1;obtain⟨d2,r2,w2⟩:=hr 2 _ rfl;have c2:Tryz.prog.cellsOf 3=1:=by kernel_rfl
 replace r2:Rd Tryz.prog h 3 (([x0,x1,x2,x3].drop 2).take (Tryz.prog.cellsOf 3)) d2:=r2;replace w2:BN Tryz.prog 3 d2:=w2;rw[c2]at r2;replace r2:Rd Tryz.prog h 3 [x2] d2:=r2;obtain⟨d3,r3,w3⟩:=hr 3 _ rfl;have c3:Tryz.prog.cellsOf 35=1:=by kernel_rfl
 replace r3:Rd Tryz.prog h 35 (([x0,x1,x2,x3].drop 3).take (Tryz.prog.cellsOf 35)) d3:=r3;replace w3:BN Tryz.prog 35 d3:=w3;rw[c3]at r3;replace r3:Rd Tryz.prog h 35 [x3] d3:=r3;obtain⟨k,e0,f0⟩:=YP r0 Tryz.underlying5;cases e0;obtain⟨e,e1,f1⟩:=YP r1 Tryz.underlying3;cases e1;obtain⟨m,e2,f2⟩:=YP r2 Tryz.underlying3;cases e2;obtain⟨va,l,e3,s3,b3,_⟩:=zFJ r3 Tryz.underlying35 Tryz.underlying3 (by kernel_rfl) (by decide+kernel) w3;cases e3;exact⟨⟨k,e,m,l⟩,_,rfl,s3,by simp only;omega⟩
theorem zQk(cs:List Value)(d:DataW H)(r:Rd Tryz.prog h 57 cs d)(hw:BN Tryz.prog 57 d):∃ a,W8 h cs a:=by
 obtain⟨hl,hr⟩:=Yi r Tryz.underlying57 hw;have hc:Tryz.prog.cellsOf 57=7:=by kernel_rfl
 rw[hc]at hl;obtain⟨x0,x1,x2,x3,x4,x5,x6,rfl⟩:∃ x0 x1 x2 x3 x4 x5 x6,cs=[x0,x1,x2,x3,x4,x5,x6]:=by
  exact zRe hl
 obtain⟨d0,r0,w0⟩:=hr 0 _ rfl;have c0:Tryz.prog.cellsOf 5=1:=by kernel_rfl
 replace r0:Rd Tryz.prog h 5 (([x0,x1,x2,x3,x4,x5,x6].drop 0).take (Tryz.prog.cellsOf 5)) d0:=r0;replace w0:BN Tryz.prog 5 d0:=w0;rw[c0]at r0;replace r0:Rd Tryz.prog h 5 [x0] d0:=r0;obtain⟨d1,r1,w1⟩:=hr 1 _ rfl;have c1:Tryz.prog.cellsOf 3=1:=by kernel_rfl
 replace r1:Rd Tryz.prog h 3 (([x0,x1,x2,x3,x4,x5,x6].drop 1).take (Tryz.prog.cellsOf 3)) d1:=r1;replace w1:BN Tryz.prog 3 d1:=w1;rw[c1]at r1;replace r1:Rd Tryz.prog h 3 [x1] d1:=r1;obtain⟨d2,r2,w2⟩:=hr 2 _ rfl;have c2:Tryz.prog.cellsOf 3=1:=by kernel_rfl
 replace r2:Rd Tryz.prog h 3 (([x0,x1,x2,x3,x4,x5,x6].drop 2).take (Tryz.prog.cellsOf 3)) d2:=r2;replace w2:BN Tryz.prog 3 d2:=w2;rw[c2]at r2;replace r2:Rd Tryz.prog h 3 [x2] d2:=r2;obtain⟨d3,r3,w3⟩:=hr 3 _ rfl;have c3:Tryz.prog.cellsOf 3=1:=by kernel_rfl
 replace r3:Rd Tryz.prog h 3 (([x0,x1,x2,x3,x4,x5,x6].drop 3).take (Tryz.prog.cellsOf 3)) d3:=r3;replace w3:BN Tryz.prog 3 d3:=w3;rw[c3]at r3;replace r3:Rd Tryz.prog h 3 [x3] d3:=r3;obtain⟨d4,r4,w4⟩:=hr 4 _ rfl;have c4:Tryz.prog.cellsOf 2=1:=by kernel_rfl
 replace r4:Rd Tryz.prog h 2 (([x0,x1,x2,x3,x4,x5,x6].drop 4).take (Tryz.prog.cellsOf 2)) d4:=r4;replace w4:BN Tryz.prog 2 d4:=w4;rw[c4]at r4;replace r4:Rd Tryz.prog h 2 [x4] d4:=r4;obtain⟨d5,r5,w5⟩:=hr 5 _ rfl;have c5:Tryz.prog.cellsOf 35=1:=by kernel_rfl
 replace r5:Rd Tryz.prog h 35 (([x0,x1,x2,x3,x4,x5,x6].drop 5).take (Tryz.prog.cellsOf 35)) d5:=r5;replace w5:BN Tryz.prog 35 d5:=w5;rw[c5]at r5;replace r5:Rd Tryz.prog h 35 [x5] d5:=r5;obtain⟨d6,r6,w6⟩:=hr 6 _ rfl;have c6:Tryz.prog.cellsOf 35=1:=by kernel_rfl
 replace r6:Rd Tryz.prog h 35 (([x0,x1,x2,x3,x4,x5,x6].drop 6).take (Tryz.prog.cellsOf 35)) d6:=r6;replace w6:BN Tryz.prog 35 d6:=w6;rw[c6]at r6;replace r6:Rd Tryz.prog h 35 [x6] d6:=r6;obtain⟨op,e0,f0⟩:=YP r0 Tryz.underlying5;cases e0;obtain⟨ty,e1,f1⟩:=YP r1 Tryz.underlying3;cases e1;obtain⟨a,e2,f2⟩:=YP r2 Tryz.underlying3;cases e2;obtain⟨b,e3,f3⟩:=YP r3 Tryz.underlying3;cases e3;obtain⟨n,e4,f4⟩:=YP r4 Tryz.underlying2;cases e4;obtain⟨va,la,e5,s5,b5,_⟩:=zFJ r5 Tryz.underlying35 Tryz.underlying3 (by kernel_rfl) (by decide+kernel) w5;cases e5;obtain⟨vf,lf,e6,s6,b6,_⟩:=zFJ r6 Tryz.underlying35 Tryz.underlying3 (by kernel_rfl) (by decide+kernel) w6;cases e6;exact⟨⟨op,ty,a,b,n,la,lf⟩,_,_,rfl,s5,s6,b5,b6,zQ5 f0⟩
theorem zQY(cs:List Value)(d:DataW H)(r:Rd Tryz.prog h 53 cs d)(hw:BN Tryz.prog 53 d):∃ x:Bl,cs=[.int .u8 x.kind,I x.a,I x.to,I x.aE]:=by
 obtain⟨hl,hr⟩:=Yi r Tryz.underlying53 hw;have hc:Tryz.prog.cellsOf 53=4:=by kernel_rfl
 rw[hc]at hl;obtain⟨x0,x1,x2,x3,rfl⟩:∃ x0 x1 x2 x3,cs=[x0,x1,x2,x3]:=by
  exact zRV hl
 obtain⟨d0,r0,w0⟩:=hr 0 _ rfl;have c0:Tryz.prog.cellsOf 5=1:=by kernel_rfl
 replace r0:Rd Tryz.prog h 5 (([x0,x1,x2,x3].drop 0).take (Tryz.prog.cellsOf 5)) d0:=r0;replace w0:BN Tryz.prog 5 d0:=w0;rw[c0]at r0;replace r0:Rd Tryz.prog h 5 [x0] d0:=r0;obtain⟨d1,r1,w1⟩:=hr 1 _ rfl;have c1:Tryz.prog.cellsOf 3=1:=by kernel_rfl
 replace r1:Rd Tryz.prog h 3 (([x0,x1,x2,x3].drop 1).take (Tryz.prog.cellsOf 3)) d1:=r1;replace w1:BN Tryz.prog 3 d1:=w1;rw[c1]at r1;replace r1:Rd Tryz.prog h 3 [x1] d1:=r1;obtain⟨d2,r2,w2⟩:=hr 2 _ rfl;have c2:Tryz.prog.cellsOf 3=1:=by kernel_rfl
 replace r2:Rd Tryz.prog h 3 (([x0,x1,x2,x3].drop 2).take (Tryz.prog.cellsOf 3)) d2:=r2;replace w2:BN Tryz.prog 3 d2:=w2;rw[c2]at r2;replace r2:Rd Tryz.prog h 3 [x2] d2:=r2;obtain⟨d3,r3,w3⟩:=hr 3 _ rfl;have c3:Tryz.prog.cellsOf 3=1:=by kernel_rfl
 replace r3:Rd Tryz.prog h 3 (([x0,x1,x2,x3].drop 3).take (Tryz.prog.cellsOf 3)) d3:=r3;replace w3:BN Tryz.prog 3 d3:=w3;rw[c3]at r3;replace r3:Rd Tryz.prog h 3 [x3] d3:=r3;obtain⟨k,e0,f0⟩:=YP r0 Tryz.underlying5;cases e0;obtain⟨a,e1,f1⟩:=YP r1 Tryz.underlying3;cases e1;obtain⟨t,e2,f2⟩:=YP r2 Tryz.underlying3;cases e2;obtain⟨e,e3,f3⟩:=YP r3 Tryz.underlying3;cases e3;exact⟨⟨k,a,t,e⟩,rfl⟩
theorem zND(cs:List Value)(d:DataW H)(r:Rd Tryz.prog h 55 cs d)(hw:BN Tryz.prog 55 d):∃ a,Bc h cs a:=by
 obtain⟨hl,hr⟩:=Yi r Tryz.underlying55 hw;have hc:Tryz.prog.cellsOf 55=5:=by kernel_rfl
 rw[hc]at hl;obtain⟨x0,x1,x2,x3,x4,rfl⟩:∃ x0 x1 x2 x3 x4,cs=[x0,x1,x2,x3,x4]:=by
  exact zRq hl
 obtain⟨d0,r0,w0⟩:=hr 0 _ rfl;have c0:Tryz.prog.cellsOf 51=1:=by kernel_rfl
 replace r0:Rd Tryz.prog h 51 (([x0,x1,x2,x3,x4].drop 0).take (Tryz.prog.cellsOf 51)) d0:=r0;replace w0:BN Tryz.prog 51 d0:=w0;rw[c0]at r0;replace r0:Rd Tryz.prog h 51 [x0] d0:=r0;obtain⟨d1,r1,w1⟩:=hr 1 _ rfl;have c1:Tryz.prog.cellsOf 53=4:=by kernel_rfl
 replace r1:Rd Tryz.prog h 53 (([x0,x1,x2,x3,x4].drop 1).take (Tryz.prog.cellsOf 53)) d1:=r1;replace w1:BN Tryz.prog 53 d1:=w1;rw[c1]at r1;replace r1:Rd Tryz.prog h 53 [x1,x2,x3,x4] d1:=r1;obtain⟨vi,li,e0,s0,b0⟩:=zCv r0 Tryz.underlying51 (c:=7) (by kernel_rfl) (by decide+kernel) w0 zQk;cases e0;obtain⟨en,e1⟩:=zQY _ _ r1 w1;cases e1;exact⟨⟨li,en⟩,_,rfl,s0,b0⟩
theorem zPW(cs:List Value)(d:DataW H)(r:Rd Tryz.prog h 50 cs d)(hw:BN Tryz.prog 50 d):∃ a,RFn h cs a:=by
 obtain⟨hl,hr⟩:=Yi r Tryz.underlying50 hw;have hc:Tryz.prog.cellsOf 50=2:=by kernel_rfl
 rw[hc]at hl;obtain⟨x0,x1,rfl⟩:∃ x0 x1,cs=[x0,x1]:=by
  exact zRB hl
 obtain⟨d0,r0,w0⟩:=hr 0 _ rfl;have c0:Tryz.prog.cellsOf 3=1:=by kernel_rfl
 replace r0:Rd Tryz.prog h 3 (([x0,x1].drop 0).take (Tryz.prog.cellsOf 3)) d0:=r0;replace w0:BN Tryz.prog 3 d0:=w0;rw[c0]at r0;replace r0:Rd Tryz.prog h 3 [x0] d0:=r0;obtain⟨d1,r1,w1⟩:=hr 1 _ rfl;have c1:Tryz.prog.cellsOf 48=1:=by kernel_rfl
 replace r1:Rd Tryz.prog h 48 (([x0,x1].drop 1).take (Tryz.prog.cellsOf 48)) d1:=r1;replace w1:BN Tryz.prog 48 d1:=w1;rw[c1]at r1;replace r1:Rd Tryz.prog h 48 [x1] d1:=r1;obtain⟨sg,e0,f0⟩:=YP r0 Tryz.underlying3;cases e0;obtain⟨vb,lb,e1,s1,b1⟩:=zCv r1 Tryz.underlying48 (c:=5) (by kernel_rfl) (by decide+kernel) w1 zND;cases e1;exact⟨⟨sg,lb⟩,_,rfl,s1,b1⟩
theorem zO2(cs:List Value)(d:DataW H)(r:Rd Tryz.prog h 25 cs d)(hw:BN Tryz.prog 25 d):∃ vt vf T F,cs=[vt,vf]/\Wu h vt T/\Wo h vf F/\(T.length:Int)<=1152921504606846976/\(F.length:Int)<=1152921504606846976:=by
 obtain⟨hl,hr⟩:=Yi r Tryz.underlying25 hw;have hc:Tryz.prog.cellsOf 25=2:=by kernel_rfl
 rw[hc]at hl;obtain⟨x0,x1,rfl⟩:∃ x0 x1,cs=[x0,x1]:=by
  exact zRB hl
 obtain⟨d0,r0,w0⟩:=hr 0 _ rfl;have c0:Tryz.prog.cellsOf 22=1:=by kernel_rfl
 replace r0:Rd Tryz.prog h 22 (([x0,x1].drop 0).take (Tryz.prog.cellsOf 22)) d0:=r0;replace w0:BN Tryz.prog 22 d0:=w0;rw[c0]at r0;replace r0:Rd Tryz.prog h 22 [x0] d0:=r0;obtain⟨d1,r1,w1⟩:=hr 1 _ rfl;have c1:Tryz.prog.cellsOf 23=1:=by kernel_rfl
 replace r1:Rd Tryz.prog h 23 (([x0,x1].drop 1).take (Tryz.prog.cellsOf 23)) d1:=r1;replace w1:BN Tryz.prog 23 d1:=w1;rw[c1]at r1;replace r1:Rd Tryz.prog h 23 [x1] d1:=r1;obtain⟨vt,lt,e0,s0,b0⟩:=zCv r0 Tryz.underlying22 (c:=4) (by kernel_rfl) (by decide+kernel) w0 zPe;cases e0;obtain⟨vf,lf,e1,s1,b1⟩:=zCv r1 Tryz.underlying23 (c:=2) (by kernel_rfl) (by decide+kernel) w1 zPW;cases e1;exact⟨_,_,lt,lf,rfl,s0,s1,b0,b1⟩
end
end Go.Proofs.YtmejfcakhpihlaaGreatDoor
