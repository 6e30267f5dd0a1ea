/- Walks of functions, plain laws; proves no statement. -/
import Derived.Test.YtmilpkdhbdgjfaaGreatDoorJc
set_option linter.all false
set_option maxHeartbeats 1000000
set_option maxRecDepth 100000
namespace Go.Proofs.YtmilpkdhbdgjfaaGreatDoor
open Go.Am
theorem zOJ{a b i j:Int}{zs:List Int}(h0:0<=a)(hi:b<=i/\i<zs.length)(hj:b<=j/\j<zs.length)(s:Bi a b zs):Bi a b (swp zs i j):=fun p q h1 h2 h3=>by
 rw[yV (by omega) (by omega) (by omega),yV (by omega) (by omega) (by omega),QC (by omega),QC (by omega),QC (by omega),QC (by omega)];exact s p q h1 h2 h3
theorem zIW(hB h:WF)(v:Value)(xs:List Int)(a b:Int)(e0:WK hB h)(hmB:hB.mark<=hB.n)(o:Wn hB h v xs)(h0:0<=a)(hab:a<b)(hb:b<=xs.length)(hlen:xs.length<=1000000000)(hpre:0<a->∀ k,a<=k->k<b->WT xs (a-1)<=WT xs k):
  WC Tryz.prog tb 227 [v,I a,I b] h fun r h'=>∃ ys w,r=.bool w/\SS hB h v a b xs ys h'/\(w=true->Bi a b ys):=by
 have s0:=VU a b o e0;have low:Wu (∀ ys,PI a b xs ys->0<a->∀ k,a<=k->k<b->WT ys (a-1)<=WT ys k):=Wu.mk fun ys p ha=>by
  have e1:WT ys (a-1)=WT xs (a-1):=p.out _ (by omega) (.inl (by omega));rw[e1];exact p.all (p:=fun x=>WT xs (a-1)<=x) h0 hb (hpre ha)
 refine en ?_;refine VE (fun x=>(5-x.2.2).toNat) (fun(x:List Int×Int×Int) t h4=>SS hB h v a b xs x.1 h4/\zC t 7=I x.2.1/\zC t 8=I x.2.2/\(a+1<=x.2.1/\x.2.1<=b)/\(0<=x.2.2/\x.2.2<=5)/\Bi a x.2.1 x.1) (xs,a+1,0) ?_ ?_
 ·exact⟨s0,WM,WM,by simp only;omega,by simp only;omega,Bi.small (by simp only;omega)⟩
 rintro⟨ys,i,c⟩ t h4 hsame ⟨s4,s7,s8,hi,hc,hs⟩;simp only at s4 s7 s8 hi hc hs;have hl4:=s4.len;refine go ?_;refine VD (fun hx=> ?_) (fun hx=> ?_)<;>simp only[DB]at hx;case refine_2=>
  refine gr ?_;exact⟨_,_,rfl,s4,fun h=>by cases h⟩
 refine go ?_;refine VE (fun i=>(b-i).toNat) (fun(i:Int) t h2=>h4=h2/\zC t 7=I i/\(a+1<=i/\i<=b)/\Bi a i ys) i ?_ ?_
 ·exact⟨rfl,WM,hi,hs⟩
 clear hs hi s7;rintro i t _ hsame2 ⟨rfl,s7,hi,hs⟩;refine go ?_;refine VK (fun t h'=>h4=h'/\zC t 32=.bool (decide (i<b/\¬(WT ys i<WT ys (i-1))))) ?_ ?_
 ·refine VC 0 rfl rfl ?_;have srX:Wd (inC (zB 0 h4)) v ys:=(s4.own).sl;refine Wc ?_;refine VH (fun hd=> ?_) (fun hd=> ?_)<;>simp only[DB]at hd<;>refine Wc ?_
  ·refine VA (ZV _ (WT ys i) (WT ys (i-1))) ?_;rintro _ _ ⟨rfl,rfl⟩;refine nQ ?_;refine Wc ?_;exact zD ⟨rfl,by rw[show decide (i<b/\¬(WT ys i<WT ys (i-1)))= !decide (WT ys i<WT ys (i-1))from zCb hd];exact WM⟩
  ·exact zD ⟨rfl,by rw[show decide (i<b/\¬(WT ys i<WT ys (i-1)))=false from QW (fun hh=>absurd hh.1 (by omega))];exact WM⟩
 rintro t5 _ hs5 ⟨rfl,q5⟩;refine go ?_;refine VD (fun he=> ?_) (fun he=> ?_)<;>simp only[DB]at he
 ·refine go ?_;refine zA (i+1) (by omega) ⟨rfl,WM,by omega,fun p q h1 h2 h3=> ?_⟩;by_cases e:q=i
  ·by_cases e2:p=i
   ·rw[e,e2];exact Qh _
   ·have:=hs p (i-1) h1 (by omega) (by omega);rw[e];omega
  ·exact hs p q h1 h2 (by omega)
 refine go ?_;refine VD (fun hf=> ?_) (fun hf=> ?_)<;>simp only[DB]at hf
 ·refine gr ?_;subst hf;exact⟨_,_,rfl,s4,fun _=>hs⟩
 refine go ?_;refine VD (fun hg=> ?_) (fun hg=> ?_)<;>simp only[DB]at hg
 ·refine gr ?_;exact⟨_,_,rfl,s4,fun h=>by cases h⟩
 have hlt:WT ys i<WT ys (i-1):=Int.not_le.1 fun hh=>he ⟨by omega,hh⟩;refine go ?_;refine VC 0 rfl rfl ?_;have srX:Wd (inC (zB 0 h4)) v ys:=(s4.own).sl;refine Wc ?_;refine VP (i) (i-1) (s4).own (s4).ext (by rw[(s4).ext.mark];exact hmB) ?_;intro h6 e6 o6 u6;have s6:=s4.swp e6 o6 u6 h0 hb (by omega) (by omega);have hz:∀ p q,a<=p->p<=q->q<i->q≠i-1->WT (swp ys i (i-1)) p<=WT (swp ys i (i-1)) q:=fun p q h1 h2 h3 h4=>by
  rw[yV (by omega) (by omega) (by omega),yV (by omega) (by omega) (by omega),QC (by omega),QC (by omega),QC (by omega),QC (by omega)];exact hs p q h1 h2 h3
 clear o6 e6 u6 s4 hl4 hs he hlt;generalize swp ys i (i-1)=zs at s6 hz;have hl6:=s6.len;refine go ?_;refine VK (fun t h'=>∃ ws,SS hB h v a b xs ws h'/\Bi a i ws) ?_ ?_
 ·refine VD (fun hj=> ?_) (fun hj=> ?_)<;>simp only[DB]at hj<;>refine go ?_
  ·refine VE (fun x=>(x.2+1).toNat) (fun(x:List Int×Int) t h7=>SS hB h v a b xs x.1 h7/\zC t 9=I x.2/\(a<=x.2/\x.2<=i-1)/\∀ p q,a<=p->p<=q->q<i->q≠x.2->WT x.1 p<=WT x.1 q) (zs,i-1) ?_ ?_
   ·exact⟨s6,WM,by simp only;omega,hz⟩
   rintro⟨ws,j⟩ t h7 hsame3 ⟨s7',s9,hj2,hw⟩;simp only at s7' s9 hj2 hw;have hl7:=s7'.len;have fin:(j<1\/¬WT ws j<WT ws (j-1))->Bi a i ws:=fun hor p q h1 h2 h3=>by
    by_cases e:q=j
    ·by_cases e2:p=j
     ·rw[e,e2];exact Qh _
     ·have:=hw p (j-1) h1 (by omega) (by omega) (by omega);rw[e];rcases hor with hh|hh
      ·omega
      ·omega
    ·exact hw p q h1 h2 h3 e
   refine go ?_;refine VD (fun hk=> ?_) (fun hk=> ?_)<;>simp only[DB]at hk;case refine_2=>
    refine go ?_;exact zD ⟨ws,s7',fin (.inl (by omega))⟩
   refine go ?_;refine VC 0 rfl rfl ?_;have srX:Wd (inC (zB 0 h7)) v ws:=(s7'.own).sl;refine Wc ?_;refine VA (ZV _ (WT ws j) (WT ws (j-1))) ?_;rintro _ _ ⟨rfl,rfl⟩;refine nQ ?_;refine Wc ?_;rw[zAL];refine VD (fun hm=> ?_) (fun hm=> ?_)<;>simp only[DB]at hm
   ·refine go ?_;exact zD ⟨ws,s7',fin (.inr (by omega))⟩
   have hja:a<j:=by
    by_cases e:a<j
    ·exact e
    ·have ej:j=a:=by omega
     subst ej;have:=low.out ws s7'.pi (by omega) j (by omega) (by omega);omega
   refine go ?_;refine VC 0 rfl rfl ?_;have srX:Wd (inC (zB 0 h7)) v ws:=(s7'.own).sl;refine Wc ?_;refine VP (j) (j-1) (s7').own (s7').ext (by rw[(s7').ext.mark];exact hmB) ?_;intro h8 e8 o8 u8;have s8':=s7'.swp e8 o8 u8 h0 hb (by omega) (by omega);refine go ?_;refine zA (swp ws j (j-1),j-1) (by simp only;omega) ⟨s8',WM,by simp only;omega,fun p q h1 h2 h3 h4=> ?_⟩;exact zH8 (i:=i-1) h0 hja (by omega) (by omega) hm (fun p q h1 h2 h3 h4=>hw p q h1 h2 (by omega) h4) p q h1 h2 (by omega) h4
  ·exact zD ⟨zs,s6,Bi.small (by omega)⟩
 clear s6 hz hl6;rintro t7 h7 hs7 ⟨zs,s6,hz⟩;have hl6:=s6.len;refine go ?_;refine VK (fun t h'=>∃ ws,SS hB h v a b xs ws h'/\Bi a i ws) ?_ ?_
 ·refine VD (fun hj=> ?_) (fun hj=> ?_)<;>simp only[DB]at hj<;>refine go ?_
  ·refine VE (fun x=>(b-x.2).toNat) (fun(x:List Int×Int) t h7=>SS hB h v a b xs x.1 h7/\zC t 10=I x.2/\(i+1<=x.2/\x.2<=b)/\Bi a i x.1) (zs,i+1) ?_ ?_
   ·exact⟨s6,WM,by simp only;omega,hz⟩
   rintro⟨ws,j⟩ t h7 hsame3 ⟨s7',s10,hj2,hw⟩;simp only at s7' s10 hj2 hw;have hl7:=s7'.len;refine go ?_;refine VD (fun hk=> ?_) (fun hk=> ?_)<;>simp only[DB]at hk;case refine_2=>
    refine go ?_;exact zD ⟨ws,s7',hw⟩
   refine go ?_;refine VC 0 rfl rfl ?_;have srX:Wd (inC (zB 0 h7)) v ws:=(s7'.own).sl;refine Wc ?_;refine VA (ZV _ (WT ws j) (WT ws (j-1))) ?_;rintro _ _ ⟨rfl,rfl⟩;refine nQ ?_;refine Wc ?_;rw[zAL];refine VD (fun hm=> ?_) (fun hm=> ?_)<;>simp only[DB]at hm
   ·refine go ?_;exact zD ⟨ws,s7',hw⟩
   refine go ?_;refine VC 0 rfl rfl ?_;have srX:Wd (inC (zB 0 h7)) v ws:=(s7'.own).sl;refine Wc ?_;refine VP (j) (j-1) (s7').own (s7').ext (by rw[(s7').ext.mark];exact hmB) ?_;intro h8 e8 o8 u8;have s8':=s7'.swp e8 o8 u8 h0 hb (by omega) (by omega);refine go ?_;exact zA (swp ws j (j-1),j+1) (by simp only;omega) ⟨s8',WM,by simp only;omega,zOJ h0 (by omega) (by omega) hw⟩
  ·exact zD ⟨zs,s6,hz⟩
 clear s6 hz hl6;rintro t8 h8 hs8 ⟨zs,s6,hz⟩;refine go ?_;exact zA (zs,i,c+1) (by simp only;omega) ⟨s6,WM,WM,hi,by simp only;omega,hz⟩
theorem zPk(n:Nat):∀ (hB h:WF) (v:Value) (xs:List Int) (a b lim:Int) (e0:WK hB h) (hmB:hB.mark<=hB.n) (o:Wn hB h v xs) (h0:0<=a) (hab:a<=b) (hb:b<=xs.length) (hn:b-a<=n) (hlen:xs.length<=1000000000) (hlim:0<=lim/\lim<=1000) (hpre:0<a->∀ k,a<=k->k<b->WT xs (a-1)<=WT xs k),
  WC Tryz.prog tb 208 [v,I a,I b,I lim] h fun r h'=>∃ ys,SS hB h v a b xs ys h'/\Bi a b ys:=by
 induction n using Nat.strongRecOn with
 |_ n IH=>
 intro hB h v xs a b lim e0 hmB o h0 hab hb hn hlen hlim hpre;have IH:=Wu.mk IH;have s0:=VU a b o e0;refine en ?_;refine VE (fun x=>(x.2.2.1-x.2.1).toNat) (fun(x:List Int×Int×Int×Int×Bool×Bool) t h4=>SS hB h v a b xs x.1 h4/\zC t 1=I x.2.1/\zC t 2=I x.2.2.1/\zC t 3=I x.2.2.2.1/\zC t 8=.bool x.2.2.2.2.1/\zC t 9=.bool x.2.2.2.2.2/\(a<=x.2.1/\x.2.1<=x.2.2.1/\x.2.2.1<=b)/\(0<=x.2.2.2.1/\x.2.2.2.1<=1000)/\Bi a x.2.1 x.1/\Bi x.2.2.1 b x.1/\(∀ p q,a<=p->p<x.2.1->x.2.1<=q->q<b->WT x.1 p<=WT x.1 q)/\(∀ p q,a<=p->p<x.2.2.1->x.2.2.1<=q->q<b->WT x.1 p<=WT x.1 q)/\(0<x.2.1->∀ k,x.2.1<=k->k<x.2.2.1->WT x.1 (x.2.1-1)<=WT x.1 k)) (xs,a,b,lim,true,true) ?_ ?_
 ·exact⟨s0,WM,WM,WM,WM,WM,by simp only;omega,hlim,Bi.small (by simp only;omega),Bi.small (by simp only;omega),fun p q h1 h2=>by simp only at h2;omega,fun p q h1 h2 h3 h4=>by simp only at h3;omega,hpre⟩
 rintro⟨ys,c,d,lm,wb,wp⟩ t h4 hsame ⟨s4,s1,s2,s3,s8,s9,hcd,hlm,rA,rB,rL,rH,hpr⟩;simp only at s4 s1 s2 s3 s8 s9 hcd hlm rA rB rL rH hpr;have hl4:=s4.len;have whole:Wu (∀ zs h5,SS hB h4 v c d ys zs h5->Bi c d zs->SS hB h v a b xs zs h5/\Bi a b zs):=Wu.mk fun zs h5 s5 r5=>by
  refine⟨s4.call s5 hcd.1 hcd.2.2,fun p q h1 h2 h3=> ?_⟩;have p5:=s5.pi;have o5:=p5.out;by_cases hq:q<c
  ·rw[o5 p (by omega) (.inl (by omega)),o5 q (by omega) (.inl hq)];exact rA p q h1 h2 hq
  by_cases hp:d<=p
  ·rw[o5 p (by omega) (.inr hp),o5 q (by omega) (.inr (by omega))];exact rB p q hp h2 h3
  by_cases hp2:p<c
  ·rw[o5 p (by omega) (.inl hp2)];by_cases hq2:d<=q
   ·rw[o5 q (by omega) (.inr hq2)];exact rL p q h1 hp2 (by omega) h3
   ·exact p5.all (p:=fun x=>WT ys p<=x) (by omega) (by omega) (fun k hk1 hk2=>rL p k h1 hp2 hk1 (by omega)) q (by omega) (by omega)
  ·by_cases hq2:d<=q
   ·rw[o5 q (by omega) (.inr hq2)];exact p5.all (p:=fun x=>x<=WT ys q) (by omega) (by omega) (fun k hk1 hk2=>rH k q (by omega) hk2 hq2 h3) p (by omega) (by omega)
   ·exact r5 p q (by omega) h2 (by omega)
 refine go ?_;refine VD (fun hx=> ?_) (fun hx=> ?_)<;>simp only[DB]at hx
 ·refine go ?_;refine VA (zGd hB h4 v ys c d s4.ext hmB s4.own (by omega) (by omega) (by omega) (by omega)) ?_;rintro _ h5 ⟨zs,o5,p5,r5,e5,u5⟩;refine gr ?_;exact⟨zs,whole.out zs h5 ⟨o5,e5,u5,p5⟩ r5⟩
 refine go ?_;refine VD (fun hy=> ?_) (fun hy=> ?_)<;>simp only[DB]at hy
 ·refine go ?_;refine VA (zN4 hB h4 v ys c d s4.ext hmB s4.own (by omega) (by omega) (by omega) (by omega)) ?_;rintro _ h5 ⟨zs,s5,r5⟩;refine gr ?_;exact⟨zs,whole.out zs h5 s5 r5⟩
 refine go ?_;refine VK (fun t h'=>∃ zs l2,SS hB h4 v c d ys zs h'/\zC t 3=I l2/\0<=l2/\l2<=1000) ?_ ?_
 ·refine VD (fun hz=> ?_) (fun hz=> ?_)<;>simp only[DB]at hz<;>refine go ?_
  ·refine VA (zMl hB h4 v ys c d s4.ext hmB s4.own (by omega) (by omega) (by omega) (by omega)) ?_;rintro _ h5 ⟨zs,s5⟩;refine go ?_;exact zD ⟨zs,lm-1,s5,WM,by omega,by omega⟩
  ·exact zD ⟨ys,lm,VU c d s4.own s4.ext,WM,hlm.1,hlm.2⟩
 rintro t5 h5 hs5 ⟨zs,l2,s5,q3,hl2⟩;have hl5:=s5.len;refine go ?_;refine VA (zNI h5 v zs c d s5.own.sl (by omega) (by omega) (by omega) (by omega)) ?_;rintro _ h6 ⟨⟨pv,hint,rfl,hpv⟩,e6⟩;have s6:=s5.extd e6;refine go ?_;refine VK (fun t h'=>∃ ws p2 hi2,SS hB h4 v c d ys ws h'/\zC t 11=I p2/\zC t 12=I hi2/\c<=p2/\p2<d) ?_ ?_
 ·refine VD (fun hz=> ?_) (fun hz=> ?_)<;>simp only[DB]at hz<;>refine go ?_
  ·refine VA (zIY hB h6 v zs c d s6.ext hmB s6.own (by omega) (by omega) (by omega) (by omega)) ?_;rintro _ h7 ⟨ws,s7⟩;refine go ?_;exact zD ⟨ws,_,1,s6.call s7 (by omega) (by omega),WM,WM,by omega,by omega⟩
  ·exact zD ⟨zs,pv,hint,s6,WM,WM,hpv.1,hpv.2⟩
 clear s5 s6 hl5;rintro t7 h7 hs7 ⟨ws,p2,hi2,s7,q11,q12,hp2⟩;have hl7:=s7.len;have low7:Wu (∀ us,PI c d ys us->0<c->∀ k,c<=k->k<d->WT us (c-1)<=WT us k):=Wu.mk fun us p hc=>by
  rw[p.out (c-1) (by omega) (.inl (by omega))];exact p.all (p:=fun x=>WT ys (c-1)<=x) (by omega) (by omega) (hpr hc)
 have env:Wu (∀ us,PI c d ys us->Bi a c us/\Bi d b us/\(∀ p q,a<=p->p<c->c<=q->q<b->WT us p<=WT us q)/\(∀ p q,a<=p->p<d->d<=q->q<b->WT us p<=WT us q)):=Wu.mk fun us p5=>by
  have o5:=p5.out;refine⟨fun p q h1 h2 h3=> ?_,fun p q h1 h2 h3=> ?_,fun p q h1 h2 h3 h4=> ?_,fun p q h1 h2 h3 h4=> ?_⟩
  ·rw[o5 p (by omega) (.inl (by omega)),o5 q (by omega) (.inl h3)];exact rA p q h1 h2 h3
  ·rw[o5 p (by omega) (.inr (by omega)),o5 q (by omega) (.inr (by omega))];exact rB p q h1 h2 h3
  ·rw[o5 p (by omega) (.inl (by omega))];by_cases hq2:d<=q
   ·rw[o5 q (by omega) (.inr hq2)];exact rL p q h1 h2 h3 h4
   ·exact p5.all (p:=fun x=>WT ys p<=x) (by omega) (by omega) (fun k hk1 hk2=>rL p k h1 h2 hk1 (by omega)) q h3 (by omega)
  ·rw[o5 q (by omega) (.inr (by omega))];by_cases hp:p<c
   ·rw[o5 p (by omega) (.inl hp)];exact rH p q h1 h2 h3 h4
   ·exact p5.all (p:=fun x=>x<=WT ys q) (by omega) (by omega) (fun k hk1 hk2=>rH k q (by omega) hk2 h3 h4) p (by omega) h2
 clear rA rB rL rH hpr;refine go ?_;refine VV 6 (fun t' h'=>h7=h'/\∃ bb,zC t' 68=.bool bb) ?_ ?_<;>simp only[Qz,GA,GJ,Qx]
 ·cases wb<;>cases wp<;>refine go ?_<;>exact⟨rfl,rfl,rfl,_,WM⟩
 rintro t8 _ hs8 ⟨rfl,bb,q68⟩;refine go ?_;refine VK (fun t h'=>∃ us,SS hB h4 v c d ys us h') ?_ ?_
 ·refine VD (fun hz=> ?_) (fun hz=> ?_)<;>refine go ?_
  ·refine VA (zIW hB h7 v ws c d s7.ext hmB s7.own (by omega) (by omega) (by omega) (by omega) (low7.out ws s7.pi)) ?_;rintro _ h9 ⟨us,w,rfl,s9',r9⟩;have r9:=Wu.mk r9;refine WO.nil ?_;refine Zz ?_;refine VD (fun hw=> ?_) (fun hw=> ?_)
   ·refine WX.ret ?_;refine zB0 ?_;refine gr ?_;exact⟨us,whole.out us h9 (s7.call s9' (by omega) (by omega)) (r9.out hw)⟩
   ·refine WX.skip ?_;exact zD ⟨us,s7.call s9' (by omega) (by omega)⟩
  ·exact zD ⟨ws,s7⟩
 clear s7 hl7;rintro t9 h9 hs9 ⟨us,s9'⟩;have hl9:=s9'.len;refine go ?_;refine VK (fun t h'=>h9=h'/\zC t 87=.bool (decide (0<c/\¬(WT us (c-1)<WT us p2)))) ?_ ?_
 ·refine VC 0 rfl rfl ?_;have srX:Wd (inC (zB 0 h9)) v us:=(s9'.own).sl;refine Wc ?_;refine VH (fun hd=> ?_) (fun hd=> ?_)<;>simp only[DB]at hd<;>refine Wc ?_
  ·refine VA (ZV _ (WT us (c-1)) (WT us p2)) ?_;rintro _ _ ⟨rfl,rfl⟩;refine nQ ?_;refine Wc ?_;exact zD ⟨rfl,by rw[show decide (0<c/\¬(WT us (c-1)<WT us p2))= !decide (WT us (c-1)<WT us p2)from zCb hd];exact WM⟩
  ·exact zD ⟨rfl,by rw[show decide (0<c/\¬(WT us (c-1)<WT us p2))=false from QW (fun hh=>absurd hh.1 (by omega))];exact WM⟩
 rintro t10 _ hs10 ⟨rfl,q10⟩;refine go ?_;refine VD (fun hz=> ?_) (fun hz=> ?_)<;>simp only[DB]at hz<;>refine go ?_
 ·refine VA (zF7 hB h9 v us c d p2 s9'.ext hmB s9'.own (by omega) (by omega) (by omega) (by omega)) ?_;rintro _ h11 ⟨zs,m,rfl,s11,hm,lo,hi⟩;have sw:=s9'.call s11 (Qh _) (Qh _);obtain⟨eA,eB,eL,eH⟩:=env.out zs sw.pi;have lz:=low7.out zs sw.pi hz.1;have hP:WT us p2<=WT zs (c-1):=by
   rw[s11.pi.out (c-1) (by omega) (.inl (by omega))];omega
  refine go ?_;refine zA (zs,m,d,l2,wb,wp) (by simp only;omega) ⟨s4.call sw hcd.1 hcd.2.2,WM,WM,WM,WM,WM,by simp only;omega,hl2,fun p q h1 h2 h3=> ?_,eB,fun p q h1 h2 h3 h4=> ?_,eH,fun h1 k h2 h3=> ?_⟩
  ·simp only at h3 |-;by_cases hq:q<c
   ·exact eA p q h1 h2 hq
   by_cases hp:p<c
   ·exact eL p q h1 hp (by omega) (by omega)
   ·have x1:=lo p (by omega) (by omega);have x2:=lz q (by omega) (by omega);omega
  ·simp only at h2 h3 |-;by_cases hp:p<c
   ·exact eL p q h1 hp (by omega) h4
   by_cases hq:d<=q
   ·exact eH p q h1 (by omega) hq h4
   ·have x1:=lo p (by omega) (by omega);have x2:=hi q (by omega) (by omega);omega
  ·simp only at h1 h2 h3 |-;have x1:=lo (m-1) (by omega) (by omega);have x2:=hi k (by omega) (by omega);omega
 ·refine VA (zGb hB h9 v us c d p2 s9'.ext hmB s9'.own (by omega) (by omega) (by omega) (by omega)) ?_;rintro _ h11 ⟨zs,m,w,rfl,s11,hm,lo,hi⟩;have sw:=s9'.call s11 (Qh _) (Qh _);have hlw:=sw.len;refine go ?_;refine WO.quo (a:=d-c) (c:=8) (by decide) (by rw[G6 (by omega)];omega) (by rw[G6 (by omega)];omega) ?_;refine go ?_;refine VD (fun hy2=> ?_) (fun hy2=> ?_)<;>simp only[DB]at hy2<;>refine go ?_
  ·refine VA (IH.out (m-c).toNat (by omega) hB h11 v zs c m l2 sw.ext hmB sw.own (by omega) (by omega) (by omega) (by omega) (by omega) hl2 (fun h1 k h2 h3=>low7.out zs sw.pi h1 k h2 (by omega))) ?_;rintro _ h12 ⟨vs,s12,r12⟩;have st:=sw.call s12 (Qh _) (by omega);obtain⟨eA,eB,eL,eH⟩:=env.out vs st.pi;have same:∀ k,m<=k->WT vs k=WT zs k:=fun k hk=>s12.pi.out k (by omega) (.inr hk);have left:∀ k,c<=k->k<m->WT vs k<=WT zs m:=s12.pi.all (p:=fun x=>x<=WT zs m) (by omega) (by omega) (fun k h1 h2=>lo k h1 h2);refine go ?_;refine zA (vs,m+1,d,l2,decide ((d-c).tdiv 8<=m-c),w) (by simp only;omega) ⟨s4.call st hcd.1 hcd.2.2,WM,WM,WM,WM,WM,by simp only;omega,hl2,fun p q h1 h2 h3=> ?_,eB,fun p q h1 h2 h3 h4=> ?_,eH,fun h1 k h2 h3=> ?_⟩
   ·simp only at h3 |-;by_cases hq:q<c
    ·exact eA p q h1 h2 hq
    by_cases hp:p<c
    ·exact eL p q h1 hp (by omega) (by omega)
    by_cases hqm:q=m
    ·by_cases hpm:p=m
     ·rw[hqm,hpm];exact Qh _
     ·rw[hqm,same m (Qh _)];exact left p (by omega) (by omega)
    ·exact r12 p q (by omega) h2 (by omega)
   ·simp only at h2 h3 |-;by_cases hp:p<c
    ·exact eL p q h1 hp (by omega) h4
    by_cases hq:d<=q
    ·exact eH p q h1 (by omega) hq h4
    ·rw[same q (by omega)];have x2:=hi q (by omega) (by omega);by_cases hpm:p=m
     ·rw[hpm,same m (Qh _)];exact x2
     ·have x1:=left p (by omega) (by omega);omega
   ·simp only at h1 h2 h3 |-;rw[show m+1-1=m by omega,same m (Qh _),same k (by omega)];exact hi k (by omega) h3
  ·refine VA (IH.out (d-(m+1)).toNat (by omega) hB h11 v zs (m+1) d l2 sw.ext hmB sw.own (by omega) (by omega) (by omega) (by omega) (by omega) hl2 (fun h1 k h2 h3=>by rw[show m+1-1=m by omega];exact hi k (by omega) h3)) ?_;rintro _ h12 ⟨vs,s12,r12⟩;have st:=sw.call s12 (by omega) (Qh _);obtain⟨eA,eB,eL,eH⟩:=env.out vs st.pi;have same:∀ k,0<=k->k<=m->WT vs k=WT zs k:=fun k h0 hk=>s12.pi.out k h0 (.inl (by omega));have right:∀ k,m+1<=k->k<d->WT zs m<=WT vs k:=s12.pi.all (p:=fun x=>WT zs m<=x) (by omega) (by omega) (fun k h1 h2=>hi k (by omega) h2);refine go ?_;refine zA (vs,c,m,l2,decide ((d-c).tdiv 8<=d-m),w) (by simp only;omega) ⟨s4.call st hcd.1 hcd.2.2,WM,WM,WM,WM,WM,by simp only;omega,hl2,eA,fun p q h1 h2 h3=> ?_,eL,fun p q h1 h2 h3 h4=> ?_,fun h1 k h2 h3=> ?_⟩
   ·simp only at h1 |-;by_cases hp:d<=p
    ·exact eB p q hp h2 h3
    by_cases hq:d<=q
    ·exact eH p q (by omega) (by omega) hq h3
    by_cases hpm:p=m
    ·by_cases hqm:q=m
     ·rw[hqm,hpm];exact Qh _
     ·rw[hpm,same m (by omega) (Qh _)];exact right q (by omega) (by omega)
    ·exact r12 p q (by omega) h2 (by omega)
   ·simp only at h2 h3 |-;by_cases hp:p<c
    ·exact eL p q h1 hp (by omega) h4
    by_cases hq:d<=q
    ·exact eH p q h1 (by omega) hq h4
    ·have x1:=lo p (by omega) h2;rw[same p (by omega) (by omega)];by_cases hqm:q=m
     ·rw[hqm,same m (by omega) (Qh _)];exact x1
     ·have x2:=right q (by omega) (by omega);omega
   ·simp only at h1 h2 h3 |-;exact low7.out vs st.pi h1 k h2 (by omega)
theorem zEu(h:WF):WC Tryz.prog tb 222 [.slice none 0 0,I 0,I 0] h fun r h'=>h=h':=by
 refine en ?_;refine VE (fun _=>0) (fun(_:Unit) t h1=>h=h1/\zC t 6=I 1) () ?_ ?_
 ·exact⟨rfl,WM⟩
 rintro _ t _ hsame ⟨rfl,s6⟩;refine go ?_;refine rtN ?_;rfl
theorem zOS(h:WF)(k:Int):WC Tryz.prog tb 208 [.slice none 0 0,I 0,I 0,I k] h fun r h'=>h=h':=by
 refine en ?_;refine VE (fun _=>0) (fun(_:Unit) t h1=>h=h1/\zC t 1=I 0/\zC t 2=I 0) () ?_ ?_
 ·exact⟨rfl,WM,WM⟩
 rintro _ t _ hsame ⟨rfl,s1,s2⟩;refine go ?_;refine VA (zEu h) ?_;rintro _ _ rfl;refine gr ?_;rfl
def YP(xs:List Int):List Int:=xs.mergeSort (fun a b=>decide (a<=b))
theorem zOH(hB h:WF)(v:Value)(xs:List Int)(e0:WK hB h)(hmB:hB.mark<=hB.n)(o:Wb hB h v xs)(hlen:xs.length<=1000000000):
  WC Tryz.prog tb 174 [v] h fun r h'=>Wb hB h' v (YP xs)/\WK hB h'/\Bh v h h':=by
 have s:Wd h v xs:=o.sl;refine en ?_;rw[Yd (by omega) (by omega)];refine VA (zNt h xs.length (by omega) (by omega)) ?_;rintro _ _ ⟨⟨k,rfl,hk,hk2⟩,rfl⟩;refine go ?_;rcases o with⟨rfl,rfl⟩|o
 ·rw[show((([]:List Int).length:Nat):Int)=0 from rfl];refine VA (zOS h k) ?_;rintro _ _ rfl;refine go ?_;refine rtN ?_;exact⟨.inl ⟨rfl,by simp[YP]⟩,e0,Bh.refl _ _⟩
 refine VA (zPk xs.length hB h v xs 0 xs.length k e0 hmB o (by omega) (by omega) (by omega) (by omega) hlen (by omega) (fun h=>by omega)) ?_;rintro _ h2 ⟨ys,s2,r2⟩;refine go ?_;refine rtN ?_;have:ys=YP xs:=zIp s2.pi.perm (by rw[s2.len];exact r2);exact⟨.inr (this▸s2.own),s2.ext,s2.upd⟩
end Go.Proofs.YtmilpkdhbdgjfaaGreatDoor
set_option maxRecDepth 100000
namespace Go.Proofs.YtmilpkdhbdgjfaaGreatDoor
open Go.Am
theorem zIs(hA h:WF)(y p v:Value)(l:List Int)(hl:(l.length:Int)<=1000000000)(J:Nat->WF->Prop)(h0:J 0 h)(hr:∀ i h',J i h'->WH hA h' p [v]/\Wd h' v l)
  (hy:∀ i h',i<l.length->J i h'->WV Tryz.prog tb y [I (l.getD i 0)] h' fun r h''=>r=.bool true/\J (i+1) h''):
  WC Tryz.prog tb 175 [y,p] h fun _ h'=>J l.length h':=by
 obtain⟨o,s⟩:=hr 0 h h0;obtain⟨_,_,_,rfl⟩:=Wt.shape s;have hr:=Wu.mk hr;have hy:=Wu.mk hy;refine en ?_;refine VE (fun i=>l.length-i) (fun i t h1=>zC t 7=I i/\i<=l.length/\J i h1) 0 ?_ ?_
 ·exact⟨WM,QU _,h0⟩
 rintro i t h1 hsame ⟨s7,hi,j1⟩;obtain⟨o1,s1⟩:=hr.out i h1 j1;refine go ?_;refine VD (fun hb=> ?_) (fun hb=> ?_)<;>simp only[DB]at hb
 ·have hi':i<l.length:=by omega
  refine go ?_;refine VY (hy.out i h1 hi' j1) ?_;rintro _ h2 ⟨rfl,j2⟩;refine go ?_;exact zA (i+1) (by omega) ⟨BF,by omega,j2⟩
 ·refine go ?_;refine rtN ?_;have:i=l.length:=by omega
  subst this;exact j1
theorem zKy(h:WF)(v:Value):
  WC Tryz.prog tb 137 [v] h fun r h'=>(∃ p,r=.func (.func 175) #[] #[p]/\WH h h' p v.cells.toList)/\WK h h':=by
 refine en ?_;refine VG ?_;intro p h1 e1 o1;refine gr ?_;exact⟨⟨p,rfl,o1⟩,e1⟩
theorem zFs(h:WF)(p v:Value)(l:List Int)(hA:WF)(hl:(l.length:Int)<=1000000000)(o:WH hA h p [v])(s:Wd h v l):
  WC Tryz.prog tb 207 [.slice none 0 0,.func (.func 175) #[] #[p]] h fun r h'=>Wb h h' r l/\WK h h':=by
 refine en ?_;refine VG ?_;intro p2 h1 e1 o1;refine go ?_;refine Vv ?_;intro L g r hO rdy eO hL hg lL lg;have o2:=o1.ext eO;have eb:=e1.trans eO;refine WV.func ?_;refine WC.mono (zIs hA hO _ p v l hl (fun i h'=>WK h h'/\Wx h' L (.loop r)/\Wx h' g (.deferred (some []))/\∃ w,WH h h' p2 [w]/\Wb h h' w (l.take i)) ?_ ?_ ?_) ?_
 ·exact⟨eb,lL,lg,.slice none 0 0,o2,.inl ⟨rfl,rfl⟩⟩
 ·rintro i h' ⟨e',_⟩;exact⟨o.ext e',s.ext e'⟩
 ·rintro i h' hi ⟨e',lL',lg',w,ow,on⟩;refine Vy lL' rdy rfl ?_;simp only[zBT];refine go ?_;refine zDD ?_;intro h2 hh2;have e2:WK h h2:=by rw[hh2];exact e'.set (by have:=e1.n;omega) lL'.1 _
  have ow2:WH h h2 p2 [w]:=by rw[hh2];exact ow.setR lL' rfl
  have on2:Wb h h2 w (l.take i):=by rw[hh2];exact on.setR lL' rfl
  have lL2:Wx h2 L (.loop (busy r)):=by rw[hh2];exact lL'.self
  have lg2:Wx h2 g (.deferred (some [])):=by
   rw[hh2];refine lg'.set ?_;intro e;subst e;have:=lg'.2;rw[lL'.2]at this;cases this
  clear hh2;obtain⟨_,_,_,rfl⟩:=Wt.shape on2.sl;refine go ?_;refine WO.bl [l.getD i 0] ?_;intro v3 h3 e3 o3;refine go ?_;have e03:=e2.trans e3;have htl:(l.take i).length<=i:=by rw[Ql];omega
  refine Vm (v:= .slice _ _ _) (w:=v3) (by exact zX) (by exact zX) (on2.ext e3) o3.sl e03 (by simp) (by simp only[QZ];omega) ?_;intro h4 e4 o4 u4;have ow4:=WH.upd (ow2.ext e3) (on2.ext e3) u4;have lL4:=(lL2.ext e3).upd rfl (on2.ext e3) u4;have lg4:=(lg2.ext e3).upd rfl (on2.ext e3) u4;refine go ?_;refine VF ow4 e4 ?_;intro h5 e5 ow5 u5;have on5:=Wn.updC o4 ow4 u5;have lL5:=lL4.updC rfl ow4 u5;have lg5:=lg4.updC rfl ow4 u5;refine go ?_;refine zC7 lL5 ?_;have tk:l.take (i+1)=l.take i++[l.getD i 0]:=by rw[GE];simp[List.getD,QB hi]
  refine⟨rfl,e5.set (by have:=e1.n;omega) lL5.1 _,lL5.self,lg5.set ?_,_,ow5.setR lL5 rfl,?_⟩
  ·intro e;subst e;have:=lg5.2;rw[lL5.2]at this;cases this
  ·rw[tk];exact(Wb.setR (.inr on5) lL5 rfl)
 ·rintro _ h2 ⟨e2,lL2,lg2,w,ow,on⟩;refine⟨lL2,fun r3=> ?_⟩;have lgL:g≠L:=by intro e;subst e;have:=lg2.2;rw[lL2.2]at this;cases this
  obtain⟨h3,hh3⟩:∃ h3,h3=h2.set L (.loop r3):=⟨_,rfl⟩;have e3:WK h h3:=by rw[hh3];exact e2.set (by have:=e1.n;omega) lL2.1 _
  have ow3:WH h h3 p2 [w]:=by rw[hh3];exact ow.setR lL2 rfl
  have on3:Wb h h3 w (l.take l.length):=by rw[hh3];exact on.setR lL2 rfl
  have lg3:Wx h3 g (.deferred (some [])):=by rw[hh3];exact lg2.set lgL
  rw[<-hh3];clear hh3;obtain⟨_,_,_,rfl⟩:=Wt.shape on3.sl;refine go ?_;refine zHP lg3 ?_;refine rt ?_;rw[Gc]at on3;exact⟨on3.setR lg3 rfl,e3.set (by have:=e1.n;omega) lg3.1 _⟩
theorem zIP(h:WF)(p v:Value)(l:List Int)(hA:WF)(hl:(l.length:Int)<=1000000000)(o:WH hA h p [v])(s:Wd h v l):
  WC Tryz.prog tb 173 [.func (.func 175) #[] #[p]] h fun r h'=>Wb h h' r l/\WK h h':=by
 refine en ?_;refine VA (zFs h p v l hA hl o s) ?_;rintro r h1 ⟨o1,e1⟩;refine gr ?_;exact⟨o1,e1⟩
theorem zKZ(h:WF)(p v:Value)(l:List Int)(hA:WF)(hl:(l.length:Int)<=1000000000)(hm:h.mark<=h.n)(o:WH hA h p [v])(s:Wd h v l):
  WC Tryz.prog tb 136 [.func (.func 175) #[] #[p]] h fun r h'=>Wb h h' r (YP l)/\WK h h':=by
 refine en ?_;refine VA (zIP h p v l hA hl o s) ?_;rintro r h1 ⟨o1,e1⟩;refine go ?_;refine VA (zOH h h1 r l e1 hm o1 (by omega)) ?_;rintro _ h2 ⟨o2,e2,u2⟩;refine gr ?_;exact⟨o2,e2⟩
def Yr(T:List WJ)(F:List Wj)(f:Int):List Int:=(Zq (W0 (zF T F f 0).1) (zF T F f 0).1.length [0] ([],[])).2
theorem zDw{L:List Wl}(hin:∀ b,0<=b/\b<(L.length:Int)->∀ c∈W0 L b,0<=c/\c<(L.length:Int))(m:List Int)(hm:∀ c∈m,0<=c/\c<(L.length:Int)):(Zq (W0 L) L.length m ([],[])).2.length<=L.length:=by
 have:∀ (m:List Int) (s:DS),(∀ c∈m,0<=c/\c<(L.length:Int))->(Zq (W0 L) L.length m s).2.length+BZ L.length (Zq (W0 L) L.length m s).1<=s.2.length+BZ L.length s.1:=by
  intro m;induction m with
  |nil=>intro s _;exact QE _
  |cons x m ih=>intro s hm;exact QN (ih _ fun c hc=>hm c (by simp[hc])) (zCj hin _ x s (hm x (by simp)))
 have h1:=this m ([],[]) hm;have h2:=zEJ L.length [];simp only[Gh]at h1;omega
def yO(T:List WJ)(F:List Wj)(f:Int):List Int×Int:=
 if(zF T F f 0).2≠0 then([],(zF T F f 0).2)else(YP (Yr T F f),0)
def zb(T:List WJ)(F:List Wj)(f:Int):List Int×Int:=
 if(zF T F f 0).2≠0 then([],(zF T F f 0).2)else((Yr T F f).reverse,0)
theorem zHo(h:WF)(vt vf:Value)(T:List WJ)(F:List Wj)(f:Int)(tt:By h)(hm:h.mark<=h.n)(sm:BP T F)(st:Bc h vt T)(sf:W7 h vf F):
  WC Tryz.prog tb 108 [.agg #[vt,vf],I f] h fun r h'=>(∃ v,r=.tuple #[v,I (yO T F f).2]/\Wb h h' v (yO T F f).1)/\WK h h':=by
 refine en ?_;refine VG ?_;intro p h1 e1 o1;refine go ?_;refine VA (zCi h1 vt vf T F f 0 (tt.ext e1) (yN e1 hm) sm (st.ext e1) (W7.ext sf e1)) ?_;rintro _ h2 ⟨⟨v,rfl,sb⟩,e2⟩;have e12:=e1.trans e2;refine go ?_;refine VD (fun hb=> ?_) (fun hb=> ?_)<;>simp only[DB]at hb<;>refine go ?_
 ·refine rt ?_;rw[show yO T F f=([],(zF T F f 0).2)from by rw[yO,QG hb]];exact⟨⟨_,rfl,.inl ⟨rfl,rfl⟩⟩,e12⟩
 have hb0:(zF T F f 0).2=0:=by omega
 obtain⟨hlen,hnx⟩:=Zd hb0;obtain⟨_,hpos,_,_⟩:=ZQ hb0;have hr0:∀ c∈([0]:List Int),0<=c/\c<((zF T F f 0).1.length:Int):=fun c hc=>by
  rw[Qe]at hc;subst hc;exact⟨Qh _,hpos⟩
 have hlp:=zDw hnx [0] hr0;rw[show yO T F f=(YP (Yr T F f),0)from by rw[yO,QC (by omega)]];refine WO.bl [0] ?_;intro v3 h3 e3 o3;have e13:=e12.trans e3;refine go ?_;refine VA (zKO h3 (yN e13 hm) _ v v3 [0] (BN.ext sb e3) (by omega) hnx o3.sl (by decide) hr0) ?_;rintro q h4 ⟨o4,e4⟩;have e14:=e13.trans e4;obtain⟨qa,qn,qk,rfl⟩:=Wt.shape o4.sl;refine go ?_;refine VA (zKy h4 _) ?_;rintro _ h5 ⟨⟨p5,rfl,o5⟩,e5⟩;have e15:=e14.trans e5;refine go ?_;refine VA (zKZ h5 p5 _ _ h4 (by omega) (yN e15 hm) o5 (o4.sl.ext e5)) ?_;rintro r h6 ⟨o6,e6⟩;refine gr ?_;exact⟨⟨_,rfl,o6.since e15⟩,e15.trans e6⟩
theorem zCc{x:Int}{l:List Int}:x∈YP l↔x∈l:=(List.mergeSort_perm l _).mem_iff
theorem zLL(l:List Int):(YP l).length=l.length:=(List.mergeSort_perm l _).length_eq
theorem zDl{L:List Wl}{a b:Int}(h:0<=a/\a<(L.length:Int)):a∈zV L b L.length↔b∈W0 L a:=by
 unfold zV W0;simp only[GQ,Gt,GT,QY];constructor
 ·rintro⟨i,⟨_,h1⟩,rfl⟩;rw[Q7];exact h1
 ·intro h1;exact⟨a.toNat,⟨by omega,h1⟩,by omega⟩
theorem zDG{L:List Wl}{a b:Int}:a∈zV L b L.length↔(0<=a/\a<(L.length:Int))/\b∈W0 L a:=by
 constructor
 ·intro h;have h':=h;unfold zV at h';simp only[GQ,Gt,GT]at h';obtain⟨i,⟨hi,_⟩,rfl⟩:=h';exact⟨by omega,(zDl (by omega)).1 h⟩
 ·rintro⟨h1,h2⟩;exact(zDl h1).2 h2
theorem Yj{T:List WJ}{F:List Wj}{f b:Int}(h:(zF T F f 0).2=0):b∈(yO T F f).1↔Wr (W0 (zF T F f 0).1) 0 b:=by
 obtain⟨_,hpos,_,_⟩:=ZQ h;obtain⟨hlen,hin⟩:=Zd h;unfold yO;rw[QC (by rw[h];exact fun e=>e rfl)];simp only;rw[zCc];unfold Yr;rw[zJy hin (fun c hc=>by rw[Qe]at hc;subst hc;exact⟨Qh _,hpos⟩)];simp
theorem zFL{T:List WJ}{F:List Wj}{f:Int}:(yO T F f).2=(zF T F f 0).2:=by
 unfold yO;split
 ·rfl
 ·rename_i h;simp only[ne_eq,Decidable.not_not]at h;exact h.symm
end Go.Proofs.YtmilpkdhbdgjfaaGreatDoor
set_option maxRecDepth 100000
namespace Go.Proofs.YtmilpkdhbdgjfaaGreatDoor
open Go.Am
theorem zFl(hA h:WF)(y p v:Value)(l:List Int)(hl:(l.length:Int)<=1000000000)(J:Nat->WF->Prop)(h0:J 0 h)(hr:∀ i h',J i h'->WH hA h' p [v]/\Wd h' v l)
  (hy:∀ i h',i<l.length->J i h'->WV Tryz.prog tb y [I ((l.length:Int)-1-i),I (l.getD (l.length-1-i) 0)] h' fun r h''=>r=.bool true/\J (i+1) h''):
  WC Tryz.prog tb 240 [y,p] h fun _ h'=>J l.length h':=by
 obtain⟨o,s⟩:=hr 0 h h0;obtain⟨_,_,_,rfl⟩:=Wt.shape s;have hr:=Wu.mk hr;have hy:=Wu.mk hy;refine en ?_;refine VE (fun i=>l.length-i) (fun i t h1=>zC t 3=I ((l.length:Int)-1-i)/\i<=l.length/\J i h1) 0 ?_ ?_
 ·exact⟨by rw[show(l.length:Int)-1-((0:Nat):Int)=l.length-1 by omega];exact WM,QU _,h0⟩
 rintro i t h1 hsame ⟨s3,hi,j1⟩;obtain⟨o1,s1⟩:=hr.out i h1 j1;refine go ?_;refine VD (fun hb=> ?_) (fun hb=> ?_)<;>simp only[DB]at hb
 ·have hi':i<l.length:=by omega
  have hidx:((l.length:Int)-1-i).toNat=l.length-1-i:=by omega
  refine go ?_;have hyi:=hy.out i h1 hi' j1;rw[<-hidx]at hyi;refine VY hyi ?_;rintro _ h2 ⟨rfl,j2⟩;refine go ?_;exact zA (i+1) (by omega) ⟨by rw[show(l.length:Int)-1-((i+1:Nat):Int)=l.length-1-i-1 by omega];exact WM,by omega,j2⟩
 ·refine go ?_;refine rtN ?_;have:i=l.length:=by omega
  subst this;exact j1
theorem zHz(h:WF)(v:Value):
  WC Tryz.prog tb 233 [v] h fun r h'=>(∃ p,r=.func (.func 240) #[] #[p]/\WH h h' p v.cells.toList)/\WK h h':=by
 refine en ?_;refine VG ?_;intro p h1 e1 o1;refine gr ?_;exact⟨⟨p,rfl,o1⟩,e1⟩
theorem zM5(l:List Int){i:Nat}(hi:i<l.length):l.reverse.take (i+1)=l.reverse.take i++[l.getD (l.length-1-i) 0]:=by
 rw[GE,List.getElem?_reverse hi];simp[List.getD,QB (show l.length-1-i<l.length by omega)]
theorem zNT(h:WF)(vt vf:Value)(T:List WJ)(F:List Wj)(f:Int)(tt:By h)(hm:h.mark<=h.n)(sm:BP T F)(st:Bc h vt T)(sf:W7 h vf F):
  WC Tryz.prog tb 219 [.agg #[vt,vf],I f] h fun r h'=>(∃ v,r=.tuple #[v,I (zb T F f).2]/\Wb h h' v (zb T F f).1)/\WK h h':=by
 refine en ?_;refine VG ?_;intro p h1 e1 o1;refine go ?_;refine VJ ?_;intro p4 h2 e2 o2;have o2:=o2.since e1;have o1:=o1.ext e2;have e02:=e1.trans e2;refine go ?_;refine VA (zCi h2 vt vf T F f 0 (tt.ext e02) (yN e02 hm) sm (st.ext e02) (W7.ext sf e02)) ?_;rintro _ h3 ⟨⟨v,rfl,sb⟩,e3⟩;have e03:=e02.trans e3;have o3:=o2.ext e3;refine go ?_;refine VD (fun hb=> ?_) (fun hb=> ?_)<;>simp only[DB]at hb<;>refine go ?_
 ·refine VF o3 e03 ?_;intro h4 e4 o4 _;refine go ?_;rw[show zb T F f=([],(zF T F f 0).2)from by rw[zb,QG hb]];refine rt ?_ (Vw WM o4 rfl (Wz.cons WM Wz.nil));exact⟨⟨_,rfl,.inl ⟨rfl,rfl⟩⟩,e4⟩
 have hb0:(zF T F f 0).2=0:=by omega
 obtain⟨hlen,hnx⟩:=Zd hb0;obtain⟨_,hpos,_,_⟩:=ZQ hb0;have hr0:∀ c∈([0]:List Int),0<=c/\c<((zF T F f 0).1.length:Int):=fun c hc=>by
  rw[Qe]at hc;subst hc;exact⟨Qh _,hpos⟩
 have hlp:=zDw hnx [0] hr0;rw[show zb T F f=((Yr T F f).reverse,0)from by rw[zb,QC (by omega)]];refine WO.bl [0] ?_;intro v4 h4 e4 o4;have e04:=e03.trans e4;have o24:=o3.ext e4;refine go ?_;refine VA (zKO h4 (yN e04 hm) _ v v4 [0] (BN.ext sb e4) (by omega) hnx o4.sl (by decide) hr0) ?_;rintro q h5 ⟨o5,e5⟩;have e05:=e04.trans e5;have o25:=o24.ext e5;obtain⟨qa,qn,qk,rfl⟩:=Wt.shape o5.sl;refine go ?_;refine VA (zHz h5 _) ?_;rintro _ h6 ⟨⟨p6,rfl,o6⟩,e6⟩;have e06:=e05.trans e6;have o26:=o25.ext e6;have o56:=(o5.ext e6).since (WK.refl h4);have hpl:Yr T F f=(Zq (W0 (zF T F f 0).1) (zF T F f 0).1.length [0] ([],[])).2:=rfl;rw[<-hpl]at hlp o56 o5;generalize Yr T F f=l at hlp o56 o5 |-;clear hpl;refine go ?_;refine Vv ?_;intro L g r hO rdy eO hL hg lL lg;have eOb:=e06.trans eO;obtain⟨g4,hg4,rfl⟩:∃ g4,g4<h4.n/\p4=.pointer (some ⟨g4,0,none⟩):=let⟨g,_,a,b,_⟩:=o24;⟨g,a,b⟩;have oO:=o26.ext eO;refine WV.func ?_;refine WC.mono (zFl h5 hO _ p6 (.slice qa qn qk) l (by omega) (fun i h'=>WK h h'/\Ws (.pointer (some ⟨g4,0,none⟩)) h6 h'/\Wx h' L (.loop r)/\Wx h' g (.deferred (some []))/\∃ w,WH h h' (.pointer (some ⟨g4,0,none⟩)) [w]/\Wb h6 h' w (l.reverse.take i)) ?_ ?_ ?_) ?_
 ·exact⟨eOb,(Ws.refl _ h6).extd eO,lL,lg,.slice none 0 0,oO,.inl ⟨rfl,rfl⟩⟩
 ·rintro i h' ⟨_,u',_⟩;exact⟨o6.offC u' (QK hg4 e5.n),(o56.offC u' hg4).sl⟩
 ·rintro i h' hi ⟨e',u',lL',lg',w,ow,on⟩;refine Vy lL' rdy rfl ?_;simp only[zBT];refine go ?_;refine zDD ?_;intro j2 hh2;have e2':WK h j2:=by rw[hh2];exact e'.set (QN e06.n hL) lL'.1 _
  have u2':Ws (.pointer (some ⟨g4,0,none⟩)) h6 j2:=by rw[hh2];exact u'.setL hL
  have ow2:WH h j2 (.pointer (some ⟨g4,0,none⟩)) [w]:=by rw[hh2];exact ow.setR lL' rfl
  have on2:Wb h6 j2 w (l.reverse.take i):=by rw[hh2];exact on.setR lL' rfl
  have lL2:Wx j2 L (.loop (busy r)):=by rw[hh2];exact lL'.self
  have lg2:Wx j2 g (.deferred (some [])):=by
   rw[hh2];refine lg'.set ?_;intro e;subst e;have:=lg'.2;rw[lL'.2]at this;cases this
  clear hh2;obtain⟨_,_,_,rfl⟩:=Wt.shape on2.sl;refine go ?_;refine WO.bl [l.getD (l.length-1-i) 0] ?_;intro v3 j3 e3' o3';refine go ?_;have e03':=e2'.trans e3';have htl:(l.reverse.take i).length<=i:=by rw[Ql];omega
  have on3:=on2.ext e3';refine Vm (v:= .slice _ _ _) (w:=v3) (by exact zX) (by exact zX) (on3.since e06) o3'.sl e03' (by simp) (by simp only[QZ];omega) ?_;intro j4 e4' o4' u4';have ow4:=WH.upd (ow2.ext e3') (on3.since e06) u4';have lL4:=(lL2.ext e3').upd rfl on3 u4';have lg4:=(lg2.ext e3').upd rfl on3 u4';have u4:=(u2'.extd e3').upd on3 u4';refine go ?_;refine VF ow4 e4' ?_;intro j5 e5' ow5 u5';have on5:=(Wn.updC o4' ow4 u5').rebase (QN u2'.1 e3'.n);have lL5:=lL4.updC rfl ow4 u5';have lg5:=lg4.updC rfl ow4 u5';have u5:=u4.trans u5';refine go ?_;refine zC7 lL5 ?_;have tk:=zM5 l hi;refine⟨rfl,e5'.set (QN e06.n hL) lL5.1 _,u5.setL hL,lL5.self,lg5.set ?_,_,ow5.setR lL5 rfl,?_⟩
  ·intro e;subst e;have:=lg5.2;rw[lL5.2]at this;cases this
  ·rw[tk];exact(Wb.setR (.inr on5) lL5 rfl)
 ·rintro _ j2 ⟨e2',u2',lL2,lg2,w,ow,on⟩;refine⟨lL2,fun r3=> ?_⟩;have lgL:g≠L:=by intro e;subst e;have:=lg2.2;rw[lL2.2]at this;cases this
  obtain⟨j3,hh3⟩:∃ j3,j3=j2.set L (.loop r3):=⟨_,rfl⟩;have e3':WK h j3:=by rw[hh3];exact e2'.set (QN e06.n hL) lL2.1 _
  have ow3:WH h j3 (.pointer (some ⟨g4,0,none⟩)) [w]:=by rw[hh3];exact ow.setR lL2 rfl
  have on3:Wb h6 j3 w (l.reverse.take l.length):=by rw[hh3];exact on.setR lL2 rfl
  have lg3:Wx j3 g (.deferred (some [])):=by rw[hh3];exact lg2.set lgL
  rw[<-hh3];clear hh3;obtain⟨_,_,_,rfl⟩:=Wt.shape on3.sl;rw[Qo (by rw[List.length_reverse];exact QE _)]at on3;refine go ?_;refine VF ow3 e3' ?_;intro j4 e4' ow4 u4';have lg4:=lg3.updC rfl ow3 u4';have on4:=on3.offC u4' (QK hg4 (e5.trans e6).n);refine go ?_;refine zHP lg4 ?_;refine rt ?_ (Vw WM (ow4.setR lg4 rfl) rfl (Wz.cons WM Wz.nil));exact⟨⟨_,rfl,(on4.setR lg4 rfl).since e06⟩,e4'.set (QN e06.n hg) lg4.1 _⟩
def Ord(nx:Int->List Int)(d:List Int):Prop:=∀ d1 u d2,d=d1++u::d2->∀ v∈nx u,v∈d1\/Wr nx v u
theorem Ord.snoc{nx:Int->List Int}{d:List Int}{b:Int}(h:Ord nx d)(k:∀ v∈nx b,v∈d\/Wr nx v b):Ord nx (d++[b]):=by
 intro d1 u d2 e v hv;rcases List.eq_nil_or_concat d2 with rfl|⟨d3,x,rfl⟩
 ·have:=List.append_inj' (s₁:=d) (t₁:=[b]) (s₂:=d1) (t₂:=[u]) e rfl;obtain⟨rfl,e2⟩:=this;cases e2;exact k v hv
 ·have e':d++[b]=(d1++u::d3)++[x]:=by rw[e];simp
  obtain⟨e1,e2⟩:=List.append_inj' e' rfl;exact h d1 u d3 e1 v hv
structure Lv(nx:Int->List Int)(s t:DS):Prop where
 bg:∀ c,Bg s c->Bg t c
 dn:∀ c∈t.2,Bg t c
 nd:t.2.Nodup
 ord:Ord nx t.2
 open_:∀ c,Bg t c->c∈t.2\/Bg s c/\c∉s.2
 old:∀ c∈t.2,c∈s.2\/¬Bg s c
 keep:∀ c∈s.2,c∈t.2
theorem Lv.refl{nx:Int->List Int}{s:DS}(dn:∀ c∈s.2,Bg s c)(nd:s.2.Nodup)(ord:Ord nx s.2):Lv nx s s:=
 ⟨fun _ h=>h,dn,nd,ord,fun c h=>by by_cases e:c∈s.2<;>simp[e,h],fun c h=> .inl h,fun _ h=>h⟩
theorem Lv.trans{nx:Int->List Int}{s t u:DS}(a:Lv nx s t)(b:Lv nx t u):Lv nx s u where
 bg:=fun c h=>b.bg c (a.bg c h)
 dn:=b.dn
 nd:=b.nd
 ord:=b.ord
 open_:=fun c h=>by
  rcases b.open_ c h with h|⟨h1,h2⟩
  ·exact .inl h
  ·rcases a.open_ c h1 with h|h
   ·exact absurd h h2
   ·exact .inr h
 old:=fun c h=>by
  rcases b.old c h with h|h
  ·exact a.old c h
  ·exact .inr fun e=>h (a.bg c e)
 keep:=fun c h=>b.keep c (a.keep c h)
theorem zQE{nx:Int->List Int}{N:Nat}(hin:∀ b,0<=b/\b<(N:Int)->∀ c∈nx b,0<=c/\c<(N:Int)):∀ (n:Nat) (b:Int) (s:DS),BZ N s.1<=n->0<=b/\b<(N:Int)->
  (∀ c∈s.2,Bg s c)->s.2.Nodup->Ord nx s.2->(∀ c,Bg s c->c∈s.2\/Wr nx c b)->Lv nx s (ZE nx n b s):=by
 intro n;induction n with
 |zero=>intro b s h hb dn nd ord hw;exact Lv.refl dn nd ord
 |succ n ih=>
  intro b s h hb dn nd ord hw;by_cases hbb:Bg s b
  ·rw[zBN hbb];exact Lv.refl dn nd ord
  ·have hnone:s.1.lookup b=none:=by
    unfold Bg at hbb;cases hq:s.1.lookup b with
    |none=>rfl
    |some w=>rw[hq]at hbb;exact absurd rfl hbb
   have hlt:=zES (v:=(s.1.length:Int)) hnone hb;have go:∀ (l:List Int) (t:DS),BZ N t.1<=n->(∀ c∈l,c∈nx b)->(∀ c∈t.2,Bg t c)->t.2.Nodup->Ord nx t.2->(∀ c,Bg t c->c∈t.2\/Wr nx c b)->Lv nx t (l.foldl (fun(t:DS) (c:Int)=>ZE nx n c t) t):=by
    intro l;induction l with
    |nil=>intro t _ _ dn nd ord _;exact Lv.refl dn nd ord
    |cons x l ihl=>
     intro t ht hl dn nd ord hw;have hxn:=hl x (by simp);have hx:=ih x t ht (hin b hb x hxn) dn nd ord (fun c hc=>(hw c hc).imp id fun w=> .step w hxn);refine hx.trans (ihl _ (QN (zCK fun c hc=>hx.bg c hc) ht) (fun c hc=>hl c (by simp[hc])) hx.dn hx.nd hx.ord fun c hc=> ?_);rcases hx.open_ c hc with h|⟨h1,h2⟩
     ·exact .inl h
     ·rcases hw c h1 with h|h
      ·exact absurd h h2
      ·exact .inr h
   have dn0:∀ c∈s.2,Bg (s.1++[(b,(s.1.length:Int))],s.2) c:=fun c hc=>Y8.2 (.inl (dn c hc));have hw0:∀ c,Bg (s.1++[(b,(s.1.length:Int))],s.2) c->c∈s.2\/Wr nx c b:=fun c hc=>by
    rcases Y8.1 hc with h|rfl
    ·exact hw c h
    ·exact .inr .here
   have k:=go (nx b) (s.1++[(b,(s.1.length:Int))],s.2) (by simp only;omega) (fun c hc=>hc) dn0 nd ord hw0;have k2:=zCm (nx:=nx) (n:=n) hin (nx b) (s.1++[(b,(s.1.length:Int))],s.2) (by simp only;omega) (hin b hb);have hu:ZE nx (n+1) b s=(((nx b).foldl (fun(t:DS) (c:Int)=>ZE nx n c t) (s.1++[(b,(s.1.length:Int))],s.2)).1,((nx b).foldl (fun(t:DS) (c:Int)=>ZE nx n c t) (s.1++[(b,(s.1.length:Int))],s.2)).2++[b]):=by
    conv=>lhs;unfold ZE
    rw[QC (by rw[hnone];exact Bool.noConfusion)]
   have hk2:Zq nx n (nx b) (s.1++[(b,(s.1.length:Int))],s.2)=(nx b).foldl (fun(t:DS) (c:Int)=>ZE nx n c t) (s.1++[(b,(s.1.length:Int))],s.2):=rfl;rw[hk2]at k2;rw[hu];generalize(nx b).foldl (fun(t:DS) (c:Int)=>ZE nx n c t) (s.1++[(b,(s.1.length:Int))],s.2)=t at k k2 |-;have hbs:b∉s.2:=fun e=>hbb (dn b e);have hb0:Bg (s.1++[(b,(s.1.length:Int))],s.2) b:=Y8.2 (.inr rfl);have hbt:b∉t.2:=fun e=>by
    rcases k.old b e with h|h
    ·exact hbs h
    ·exact h hb0
   have opn:∀ c,Bg t c->c∈t.2\/c=b\/Bg s c/\c∉s.2:=fun c hc=>by
    rcases k.open_ c hc with h|⟨h1,h2⟩
    ·exact .inl h
    ·rcases Y8.1 h1 with h|h
     ·exact .inr (.inr ⟨h,h2⟩)
     ·exact .inr (.inl h)
   refine⟨fun c h=>k.bg c (Y8.2 (.inl h)),fun c hc=> ?_,?_,k.ord.snoc fun v hv=> ?_,fun c hc=> ?_,fun c hc=> ?_,fun c hc=> ?_⟩
   ·simp only[Qy,Qe]at hc;rcases hc with h|rfl
    ·exact k.dn c h
    ·exact k.bg _ hb0
   ·simp only;rw[List.nodup_append];exact⟨k.nd,by simp,fun a ha c hc=>by rw[Qe]at hc;subst hc;exact fun e=>hbt (e▸ha)⟩
   ·rcases opn v (k2.all v hv)with h|rfl|⟨h1,h2⟩
    ·exact .inl h
    ·exact .inr .here
    ·rcases hw v h1 with h|h
     ·exact absurd h h2
     ·exact .inr h
   ·simp only[Qy,Qe];rcases opn c hc with h|h|h
    ·exact .inl (.inl h)
    ·exact .inl (.inr h)
    ·exact .inr h
   ·simp only[Qy,Qe]at hc;rcases hc with h|rfl
    ·rcases k.old c h with h|h
     ·exact .inl h
     ·exact .inr fun e=>h (Y8.2 (.inl e))
    ·exact .inr hbb
   ·simp only[Qy];exact .inl (k.keep c hc)
theorem zHa{nx:Int->List Int}{N:Nat}(hin:∀ b,0<=b/\b<(N:Int)->∀ c∈nx b,0<=c/\c<(N:Int)){a:Int}(ha:0<=a/\a<(N:Int)):
  (Zq nx N [a] ([],[])).2.Nodup/\Ord nx (Zq nx N [a] ([],[])).2/\∃ d,(Zq nx N [a] ([],[])).2=d++[a]:=by
 have e:Zq nx N [a] ([],[])=ZE nx N a ([],[]):=rfl;have no:∀ d,¬Bg (([],[]):DS) d:=fun d h=>by unfold Bg at h;exact Bool.noConfusion h
 have k:=zQE (nx:=nx) hin N a ([],[]) (zEJ _ _) ha (fun c h=>by cases h) .nil (fun d1 u d2 e=>by cases d1<;>cases e) (fun c h=>absurd h (no c));rw[e];refine⟨k.nd,k.ord,?_⟩;obtain⟨n,rfl⟩:∃ n,N=n+1:=⟨N-1,by omega⟩;unfold ZE;rw[QC (by simp)];exact⟨_,rfl⟩
theorem zKx(l:List Int)(hn:l.Nodup):∀ i,i+1<(YP l).length->(YP l).getD i 0<(YP l).getD (i+1) 0:=by
 intro i hi;have hp:(YP l).Pairwise (fun a b=>decide (a<=b)=true):=List.pairwise_mergeSort (fun a b c h1 h2=>by simp only[QY]at *;omega) (fun a b=>by simp only[GM,QY];omega) l;have hd:(YP l).Nodup:=(List.mergeSort_perm l _).nodup_iff.2 hn;have h1:=List.pairwise_iff_getElem.1 hp i (i+1) (by omega) hi (by omega);have h2:(YP l)[i]≠(YP l)[i+1]:=fun e=>by
  have:=(List.getElem_inj hd).1 e;omega
 simp only[QY]at h1;simp only[QL,QB hi,QB (show i<(YP l).length by omega),Q1];omega
theorem zBI{T:List WJ}{F:List Wj}{f:Int}(h:(zF T F f 0).2=0):
  (zb T F f).1.length=(yO T F f).1.length/\(zb T F f).1.length<=16/\(∃ l,(zb T F f).1=0::l)/\(∀ c,c∈(yO T F f).1->c∈(zb T F f).1)/\
  (∀ n,n+1<(yO T F f).1.length->(yO T F f).1.getD n 0<(yO T F f).1.getD (n+1) 0)/\(∀ c∈(zb T F f).1,0<=c/\c<((zF T F f 0).1.length:Int))/\
  (∀ i k,i<(zb T F f).1.length->k<(zb T F f).1.length->(zb T F f).1.getD k 0∈W0 (zF T F f 0).1 ((zb T F f).1.getD i 0)->¬Wr (W0 (zF T F f 0).1) ((zb T F f).1.getD k 0) ((zb T F f).1.getD i 0)->i<k):=by
 obtain⟨_,hpos,_,_⟩:=ZQ h;obtain⟨hlen,hin⟩:=Zd h;have hr0:∀ c∈([0]:List Int),0<=c/\c<((zF T F f 0).1.length:Int):=fun c hc=>by
  rw[Qe]at hc;subst hc;exact⟨Qh _,hpos⟩
 obtain⟨nd,ord,d,hd⟩:=zHa hin (hr0 0 (by simp));have hl:=zDw hin [0] hr0;have eO:(zb T F f).1=(Yr T F f).reverse:=by unfold zb;rw[QC (by rw[h];exact fun e=>e rfl)]
 have eR:(yO T F f).1=YP (Yr T F f):=by unfold yO;rw[QC (by rw[h];exact fun e=>e rfl)]
 have eP:Yr T F f=(Zq (W0 (zF T F f 0).1) (zF T F f 0).1.length [0] ([],[])).2:=rfl;have hmem:∀ c,c∈Yr T F f->0<=c/\c<((zF T F f 0).1.length:Int):=fun c hc=>by
  rw[eP,zJy hin hr0]at hc;obtain⟨a,ha,w⟩:=hc;have ha':=hr0 a ha;clear ha;induction w with
  |here=>exact ha'
  |step _ hd ih=>exact hin _ ih _ hd
 rw[<-eP]at nd ord hd hl;rw[eO,eR];generalize Yr T F f=l at *;refine⟨by rw[List.length_reverse,zLL],by rw[List.length_reverse];omega,⟨d.reverse,by rw[hd];simp⟩,fun c hc=>by rw[List.mem_reverse];exact zCc.1 hc,zKx l nd,fun c hc=>hmem c (List.mem_reverse.1 hc),fun i k hi hk he hw=> ?_⟩;rw[List.length_reverse]at hi hk;have ei:l.reverse.getD i 0=l.getD (l.length-1-i) 0:=by
  rw[QL,List.getElem?_reverse hi,QL]
 have ek:l.reverse.getD k 0=l.getD (l.length-1-k) 0:=by
  rw[QL,List.getElem?_reverse hk,QL]
 rw[ei,ek]at he hw;have hi2:l.length-1-i<l.length:=by omega
 have hk2:l.length-1-k<l.length:=by omega
 have hsplit:l=l.take (l.length-1-i)++l.getD (l.length-1-i) 0::l.drop (l.length-1-i+1):=by
  conv=>lhs;rw[<-GG (l.length-1-i) l,GK hi2]
  simp[List.getD,QB hi2]
 rcases ord _ _ _ hsplit _ he with hm|hm
 ·obtain⟨j,hj,e⟩:=JI.1 hm;rw[Ql]at hj;rw[List.getElem_take]at e;have e2:l.getD (l.length-1-k) 0=l[l.length-1-k]:=by simp[List.getD,QB hk2]
  rw[e2]at e;have:=(List.getElem_inj nd).1 e;omega
 ·exact absurd hm hw
theorem zQS{n:Int}(h:(Lit.int .u8 n).wf=true):0<=n/\n<=255:=by
 simp[Lit.wf,IntKind.wrap,IntKind.signed,IntKind.bits]at h;have h1:IntKind.min .u8=0:=by decide
 have h2:IntKind.max .u8=255:=by decide
 omega
theorem zQo{l:List Value}(h:l.length=2):∃ a b,l=[a,b]:=by
 match l,h with
 |[a,b],_=>exact⟨a,b,rfl⟩
theorem zP0{l:List Value}(h:l.length=4):∃ a b c d,l=[a,b,c,d]:=by
 match l,h with
 |[a,b,c,d],_=>exact⟨a,b,c,d,rfl⟩
theorem zQ8{l:List Value}(h:l.length=5):∃ a b c d e,l=[a,b,c,d,e]:=by
 match l,h with
 |[a,b,c,d,e],_=>exact⟨a,b,c,d,e,rfl⟩
theorem zQv{l:List Value}(h:l.length=7):∃ a b c d e f g,l=[a,b,c,d,e,f,g]:=by
 match l,h with
 |[a,b,c,d,e,f,g],_=>exact⟨a,b,c,d,e,f,g,rfl⟩
section
variable {H:Type}{h:WF}
theorem zOo(cs:List Value)(d:DataW H)(r:Rd Tryz.prog h 87 cs d)(hw:BB Tryz.prog 87 d):∃ a,RTy h cs a:=by
 obtain⟨hl,hr⟩:=Zb r Tryz.underlying87 hw;have hc:Tryz.prog.cellsOf 87=4:=by kernel_rfl
 rw[hc]at hl;obtain⟨x0,x1,x2,x3,rfl⟩:∃ x0 x1 x2 x3,cs=[x0,x1,x2,x3]:=by
  exact zP0 hl
 obtain⟨d0,r0,w0⟩:=hr 0 _ rfl;have c0:Tryz.prog.cellsOf 5=1:=by kernel_rfl
 replace r0:Rd Tryz.prog h 5 (([x0,x1,x2,x3].drop 0).take (Tryz.prog.cellsOf 5)) d0:=r0;replace w0:BB Tryz.prog 5 d0:=w0;rw[c0]at r0;replace r0:Rd Tryz.prog h 5 [x0] d0:=r0;obtain⟨d1,r1,w1⟩:=hr 1 _ rfl;have c1:Tryz.prog.cellsOf 3=1:=by kernel_rfl
 replace r1:Rd Tryz.prog h 3 (([x0,x1,x2,x3].drop 1).take (Tryz.prog.cellsOf 3)) d1:=r1;replace w1:BB Tryz.prog 3 d1:=w1;rw[c1]at r1;replace r1:Rd Tryz.prog h 3 [x1] d1:=r1;obtain⟨d2,r2,w2⟩:=hr 2 _ rfl;have c2:Tryz.prog.cellsOf 3=1:=by kernel_rfl
 replace r2:Rd Tryz.prog h 3 (([x0,x1,x2,x3].drop 2).take (Tryz.prog.cellsOf 3)) d2:=r2;replace w2:BB Tryz.prog 3 d2:=w2;rw[c2]at r2;replace r2:Rd Tryz.prog h 3 [x2] d2:=r2;obtain⟨d3,r3,w3⟩:=hr 3 _ rfl;have c3:Tryz.prog.cellsOf 76=1:=by kernel_rfl
 replace r3:Rd Tryz.prog h 76 (([x0,x1,x2,x3].drop 3).take (Tryz.prog.cellsOf 76)) d3:=r3;replace w3:BB Tryz.prog 76 d3:=w3;rw[c3]at r3;replace r3:Rd Tryz.prog h 76 [x3] d3:=r3;obtain⟨k,e0,f0⟩:=yq r0 Tryz.underlying5;cases e0;obtain⟨e,e1,f1⟩:=yq r1 Tryz.underlying3;cases e1;obtain⟨m,e2,f2⟩:=yq r2 Tryz.underlying3;cases e2;obtain⟨va,l,e3,s3,b3,_⟩:=zEX r3 Tryz.underlying76 Tryz.underlying3 (by kernel_rfl) (by decide+kernel) w3;cases e3;exact⟨⟨k,e,m,l⟩,_,rfl,s3,by simp only;omega⟩
theorem zPc(cs:List Value)(d:DataW H)(r:Rd Tryz.prog h 78 cs d)(hw:BB Tryz.prog 78 d):∃ a,BT h cs a:=by
 obtain⟨hl,hr⟩:=Zb r Tryz.underlying78 hw;have hc:Tryz.prog.cellsOf 78=7:=by kernel_rfl
 rw[hc]at hl;obtain⟨x0,x1,x2,x3,x4,x5,x6,rfl⟩:∃ x0 x1 x2 x3 x4 x5 x6,cs=[x0,x1,x2,x3,x4,x5,x6]:=by
  exact zQv hl
 obtain⟨d0,r0,w0⟩:=hr 0 _ rfl;have c0:Tryz.prog.cellsOf 5=1:=by kernel_rfl
 replace r0:Rd Tryz.prog h 5 (([x0,x1,x2,x3,x4,x5,x6].drop 0).take (Tryz.prog.cellsOf 5)) d0:=r0;replace w0:BB Tryz.prog 5 d0:=w0;rw[c0]at r0;replace r0:Rd Tryz.prog h 5 [x0] d0:=r0;obtain⟨d1,r1,w1⟩:=hr 1 _ rfl;have c1:Tryz.prog.cellsOf 3=1:=by kernel_rfl
 replace r1:Rd Tryz.prog h 3 (([x0,x1,x2,x3,x4,x5,x6].drop 1).take (Tryz.prog.cellsOf 3)) d1:=r1;replace w1:BB Tryz.prog 3 d1:=w1;rw[c1]at r1;replace r1:Rd Tryz.prog h 3 [x1] d1:=r1;obtain⟨d2,r2,w2⟩:=hr 2 _ rfl;have c2:Tryz.prog.cellsOf 3=1:=by kernel_rfl
 replace r2:Rd Tryz.prog h 3 (([x0,x1,x2,x3,x4,x5,x6].drop 2).take (Tryz.prog.cellsOf 3)) d2:=r2;replace w2:BB Tryz.prog 3 d2:=w2;rw[c2]at r2;replace r2:Rd Tryz.prog h 3 [x2] d2:=r2;obtain⟨d3,r3,w3⟩:=hr 3 _ rfl;have c3:Tryz.prog.cellsOf 3=1:=by kernel_rfl
 replace r3:Rd Tryz.prog h 3 (([x0,x1,x2,x3,x4,x5,x6].drop 3).take (Tryz.prog.cellsOf 3)) d3:=r3;replace w3:BB Tryz.prog 3 d3:=w3;rw[c3]at r3;replace r3:Rd Tryz.prog h 3 [x3] d3:=r3;obtain⟨d4,r4,w4⟩:=hr 4 _ rfl;have c4:Tryz.prog.cellsOf 2=1:=by kernel_rfl
 replace r4:Rd Tryz.prog h 2 (([x0,x1,x2,x3,x4,x5,x6].drop 4).take (Tryz.prog.cellsOf 2)) d4:=r4;replace w4:BB Tryz.prog 2 d4:=w4;rw[c4]at r4;replace r4:Rd Tryz.prog h 2 [x4] d4:=r4;obtain⟨d5,r5,w5⟩:=hr 5 _ rfl;have c5:Tryz.prog.cellsOf 76=1:=by kernel_rfl
 replace r5:Rd Tryz.prog h 76 (([x0,x1,x2,x3,x4,x5,x6].drop 5).take (Tryz.prog.cellsOf 76)) d5:=r5;replace w5:BB Tryz.prog 76 d5:=w5;rw[c5]at r5;replace r5:Rd Tryz.prog h 76 [x5] d5:=r5;obtain⟨d6,r6,w6⟩:=hr 6 _ rfl;have c6:Tryz.prog.cellsOf 76=1:=by kernel_rfl
 replace r6:Rd Tryz.prog h 76 (([x0,x1,x2,x3,x4,x5,x6].drop 6).take (Tryz.prog.cellsOf 76)) d6:=r6;replace w6:BB Tryz.prog 76 d6:=w6;rw[c6]at r6;replace r6:Rd Tryz.prog h 76 [x6] d6:=r6;obtain⟨op,e0,f0⟩:=yq r0 Tryz.underlying5;cases e0;obtain⟨ty,e1,f1⟩:=yq r1 Tryz.underlying3;cases e1;obtain⟨a,e2,f2⟩:=yq r2 Tryz.underlying3;cases e2;obtain⟨b,e3,f3⟩:=yq r3 Tryz.underlying3;cases e3;obtain⟨n,e4,f4⟩:=yq r4 Tryz.underlying2;cases e4;obtain⟨va,la,e5,s5,b5,_⟩:=zEX r5 Tryz.underlying76 Tryz.underlying3 (by kernel_rfl) (by decide+kernel) w5;cases e5;obtain⟨vf,lf,e6,s6,b6,_⟩:=zEX r6 Tryz.underlying76 Tryz.underlying3 (by kernel_rfl) (by decide+kernel) w6;cases e6;exact⟨⟨op,ty,a,b,n,la,lf⟩,_,_,rfl,s5,s6,b5,b6,zQS f0⟩
theorem zQO(cs:List Value)(d:DataW H)(r:Rd Tryz.prog h 73 cs d)(hw:BB Tryz.prog 73 d):∃ x:B2,cs=[.int .u8 x.kind,I x.a,I x.to,I x.els]:=by
 obtain⟨hl,hr⟩:=Zb r Tryz.underlying73 hw;have hc:Tryz.prog.cellsOf 73=4:=by kernel_rfl
 rw[hc]at hl;obtain⟨x0,x1,x2,x3,rfl⟩:∃ x0 x1 x2 x3,cs=[x0,x1,x2,x3]:=by
  exact zP0 hl
 obtain⟨d0,r0,w0⟩:=hr 0 _ rfl;have c0:Tryz.prog.cellsOf 5=1:=by kernel_rfl
 replace r0:Rd Tryz.prog h 5 (([x0,x1,x2,x3].drop 0).take (Tryz.prog.cellsOf 5)) d0:=r0;replace w0:BB Tryz.prog 5 d0:=w0;rw[c0]at r0;replace r0:Rd Tryz.prog h 5 [x0] d0:=r0;obtain⟨d1,r1,w1⟩:=hr 1 _ rfl;have c1:Tryz.prog.cellsOf 3=1:=by kernel_rfl
 replace r1:Rd Tryz.prog h 3 (([x0,x1,x2,x3].drop 1).take (Tryz.prog.cellsOf 3)) d1:=r1;replace w1:BB Tryz.prog 3 d1:=w1;rw[c1]at r1;replace r1:Rd Tryz.prog h 3 [x1] d1:=r1;obtain⟨d2,r2,w2⟩:=hr 2 _ rfl;have c2:Tryz.prog.cellsOf 3=1:=by kernel_rfl
 replace r2:Rd Tryz.prog h 3 (([x0,x1,x2,x3].drop 2).take (Tryz.prog.cellsOf 3)) d2:=r2;replace w2:BB Tryz.prog 3 d2:=w2;rw[c2]at r2;replace r2:Rd Tryz.prog h 3 [x2] d2:=r2;obtain⟨d3,r3,w3⟩:=hr 3 _ rfl;have c3:Tryz.prog.cellsOf 3=1:=by kernel_rfl
 replace r3:Rd Tryz.prog h 3 (([x0,x1,x2,x3].drop 3).take (Tryz.prog.cellsOf 3)) d3:=r3;replace w3:BB Tryz.prog 3 d3:=w3;rw[c3]at r3;replace r3:Rd Tryz.prog h 3 [x3] d3:=r3;obtain⟨k,e0,f0⟩:=yq r0 Tryz.underlying5;cases e0;obtain⟨a,e1,f1⟩:=yq r1 Tryz.underlying3;cases e1;obtain⟨t,e2,f2⟩:=yq r2 Tryz.underlying3;cases e2;obtain⟨e,e3,f3⟩:=yq r3 Tryz.underlying3;cases e3;exact⟨⟨k,a,t,e⟩,rfl⟩
theorem zNM(cs:List Value)(d:DataW H)(r:Rd Tryz.prog h 75 cs d)(hw:BB Tryz.prog 75 d):∃ a,Bw h cs a:=by
 obtain⟨hl,hr⟩:=Zb r Tryz.underlying75 hw;have hc:Tryz.prog.cellsOf 75=5:=by kernel_rfl
 rw[hc]at hl;obtain⟨x0,x1,x2,x3,x4,rfl⟩:∃ x0 x1 x2 x3 x4,cs=[x0,x1,x2,x3,x4]:=by
  exact zQ8 hl
 obtain⟨d0,r0,w0⟩:=hr 0 _ rfl;have c0:Tryz.prog.cellsOf 71=1:=by kernel_rfl
 replace r0:Rd Tryz.prog h 71 (([x0,x1,x2,x3,x4].drop 0).take (Tryz.prog.cellsOf 71)) d0:=r0;replace w0:BB Tryz.prog 71 d0:=w0;rw[c0]at r0;replace r0:Rd Tryz.prog h 71 [x0] d0:=r0;obtain⟨d1,r1,w1⟩:=hr 1 _ rfl;have c1:Tryz.prog.cellsOf 73=4:=by kernel_rfl
 replace r1:Rd Tryz.prog h 73 (([x0,x1,x2,x3,x4].drop 1).take (Tryz.prog.cellsOf 73)) d1:=r1;replace w1:BB Tryz.prog 73 d1:=w1;rw[c1]at r1;replace r1:Rd Tryz.prog h 73 [x1,x2,x3,x4] d1:=r1;obtain⟨vi,li,e0,s0,b0⟩:=zAS r0 Tryz.underlying71 (c:=7) (by kernel_rfl) (by decide+kernel) w0 zPc;cases e0;obtain⟨en,e1⟩:=zQO _ _ r1 w1;cases e1;exact⟨⟨li,en⟩,_,rfl,s0,b0⟩
theorem zPA(cs:List Value)(d:DataW H)(r:Rd Tryz.prog h 70 cs d)(hw:BB Tryz.prog 70 d):∃ a,RFn h cs a:=by
 obtain⟨hl,hr⟩:=Zb r Tryz.underlying70 hw;have hc:Tryz.prog.cellsOf 70=2:=by kernel_rfl
 rw[hc]at hl;obtain⟨x0,x1,rfl⟩:∃ x0 x1,cs=[x0,x1]:=by
  exact zQo hl
 obtain⟨d0,r0,w0⟩:=hr 0 _ rfl;have c0:Tryz.prog.cellsOf 3=1:=by kernel_rfl
 replace r0:Rd Tryz.prog h 3 (([x0,x1].drop 0).take (Tryz.prog.cellsOf 3)) d0:=r0;replace w0:BB Tryz.prog 3 d0:=w0;rw[c0]at r0;replace r0:Rd Tryz.prog h 3 [x0] d0:=r0;obtain⟨d1,r1,w1⟩:=hr 1 _ rfl;have c1:Tryz.prog.cellsOf 68=1:=by kernel_rfl
 replace r1:Rd Tryz.prog h 68 (([x0,x1].drop 1).take (Tryz.prog.cellsOf 68)) d1:=r1;replace w1:BB Tryz.prog 68 d1:=w1;rw[c1]at r1;replace r1:Rd Tryz.prog h 68 [x1] d1:=r1;obtain⟨sg,e0,f0⟩:=yq r0 Tryz.underlying3;cases e0;obtain⟨vb,lb,e1,s1,b1⟩:=zAS r1 Tryz.underlying68 (c:=5) (by kernel_rfl) (by decide+kernel) w1 zNM;cases e1;exact⟨⟨sg,lb⟩,_,rfl,s1,b1⟩
theorem zN1(cs:List Value)(d:DataW H)(r:Rd Tryz.prog h 34 cs d)(hw:BB Tryz.prog 34 d):∃ vt vf T F,cs=[vt,vf]/\Bc h vt T/\W7 h vf F/\(T.length:Int)<=1152921504606846976/\(F.length:Int)<=1152921504606846976:=by
 obtain⟨hl,hr⟩:=Zb r Tryz.underlying34 hw;have hc:Tryz.prog.cellsOf 34=2:=by kernel_rfl
 rw[hc]at hl;obtain⟨x0,x1,rfl⟩:∃ x0 x1,cs=[x0,x1]:=by
  exact zQo hl
 obtain⟨d0,r0,w0⟩:=hr 0 _ rfl;have c0:Tryz.prog.cellsOf 31=1:=by kernel_rfl
 replace r0:Rd Tryz.prog h 31 (([x0,x1].drop 0).take (Tryz.prog.cellsOf 31)) d0:=r0;replace w0:BB Tryz.prog 31 d0:=w0;rw[c0]at r0;replace r0:Rd Tryz.prog h 31 [x0] d0:=r0;obtain⟨d1,r1,w1⟩:=hr 1 _ rfl;have c1:Tryz.prog.cellsOf 32=1:=by kernel_rfl
 replace r1:Rd Tryz.prog h 32 (([x0,x1].drop 1).take (Tryz.prog.cellsOf 32)) d1:=r1;replace w1:BB Tryz.prog 32 d1:=w1;rw[c1]at r1;replace r1:Rd Tryz.prog h 32 [x1] d1:=r1;obtain⟨vt,lt,e0,s0,b0⟩:=zAS r0 Tryz.underlying31 (c:=4) (by kernel_rfl) (by decide+kernel) w0 zOo;cases e0;obtain⟨vf,lf,e1,s1,b1⟩:=zAS r1 Tryz.underlying32 (c:=2) (by kernel_rfl) (by decide+kernel) w1 zPA;cases e1;exact⟨_,_,lt,lf,rfl,s0,s1,b0,b1⟩
end
end Go.Proofs.YtmilpkdhbdgjfaaGreatDoor
