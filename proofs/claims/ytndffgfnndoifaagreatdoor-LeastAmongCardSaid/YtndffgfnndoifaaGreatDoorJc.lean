/- Walks of functions, plain laws; proves no statement. -/
import Derived.Test.YtndffgfnndoifaaGreatDoorJb
set_option linter.all false
set_option maxHeartbeats 1000000
set_option maxRecDepth 100000
namespace Go.Proofs.YtndffgfnndoifaaGreatDoor
open Go.Am
def zRq:∀ i:Nat,i<17->∃ b:UInt8,(⟨#[0,1,2,2,3,3,3,3,4,4,4,4,4,4,4,4,5,5,5,5,5,5,5,5,5,5,5,5,5,5,5,5,6,6,6,6,6,6,6,6,6,6,6,6,6,6,6,6,6,6,6,6,6,6,6,6,6,6,6,6,6,6,6,6,7,7,7,7,7,7,7,7,7,7,7,7,7,7,7,7,7,7,7,7,7,7,7,7,7,7,7,7,7,7,7,7,7,7,7,7,7,7,7,7,7,7,7,7,7,7,7,7,7,7,7,7,7,7,7,7,7,7,7,7,7,7,7,7,8,8,8,8,8,8,8,8,8,8,8,8,8,8,8,8,8,8,8,8,8,8,8,8,8,8,8,8,8,8,8,8,8,8,8,8,8,8,8,8,8,8,8,8,8,8,8,8,8,8,8,8,8,8,8,8,8,8,8,8,8,8,8,8,8,8,8,8,8,8,8,8,8,8,8,8,8,8,8,8,8,8,8,8,8,8,8,8,8,8,8,8,8,8,8,8,8,8,8,8,8,8,8,8,8,8,8,8,8,8,8,8,8,8,8,8,8,8,8,8,8,8,8,8,8,8,8,8]⟩:ByteArray)[i]?=some b/\b.toNat<=8/\(i≠0->2 ^ b.toNat<=2*i)/\i<=b.toNat+12:=by
 intro i h;have:i=0\/i=1\/i=2\/i=3\/i=4\/i=5\/i=6\/i=7\/i=8\/i=9\/i=10\/i=11\/i=12\/i=13\/i=14\/i=15\/i=16:=ω
 rcases this with rfl|rfl|rfl|rfl|rfl|rfl|rfl|rfl|rfl|rfl|rfl|rfl|rfl|rfl|rfl|rfl|rfl<;>exact⟨_,rfl,by decide,by decide,by decide⟩
def zPw(h:WA)(n:Int)(h0:0<=n)(h1:n<=16):
  G0 228 [.int .u64 n] h fun r h'=>(∃ k:Nat,r=I k/\k<=40/\(n≠0->2 ^ k<=2*n)/\n<=k+12)/\h=h':=by
 obtain⟨m,rfl⟩:∃ m:Nat,n=m:=⟨n.toNat,ω⟩;obtain⟨b,dM,aI,fR,jk⟩:=zRq m ω;refine en ?_;rw[zUV ω ω];refine UV (n:=m) dM rfl ?_;refine gr ?_;refine⟨⟨b.toNat,by simp[one],ω,fun hn=> ?_,ω⟩,rfl⟩;have:=fR ω;have h2:((2 ^ b.toNat:Nat):Int)<=((2*m:Nat):Int):=by exact_mod_cast this
 rw[Int.natCast_pow]at h2;have h3:((2*m:Nat):Int)=2*m:=ω
 rw[h3]at h2;exact h2
def zQ9(h:WA)(n:Int)(h0:0<=n)(h1:n<=16):
  G0 168 [.int .u64 n] h fun r h'=>(∃ k:Nat,r=I k/\k<=40/\(n≠0->2 ^ k<=2*n)/\n<=k+12)/\h=h':=by
 refine en ?_;refine VA (zPw h n h0 h1) ?_;rintro _ _ ⟨⟨k,rfl,hk⟩,rfl⟩;refine gr ?_;exact⟨⟨k,rfl,hk⟩,rfl⟩
def zP4(h:WA)(n:Int)(h0:1<=n)(h1:n<=16):
  G0 262 [I n] h fun r h'=>(∃ m:Int,r=.int .u64 m/\1<=m/\m<=2*n)/\h=h':=by
 refine en ?_;rw[Ze ω ω];refine VA (zQ9 h n ω h1) ?_;rintro _ _ ⟨⟨k,rfl,hk,aU,_⟩,rfl⟩;have cG:=aU ω;have bN:(0:Int)<2 ^ k:=Int.pow_pos (by decide);refine go ?_;refine WO.bin (vx:= .int .u64 1) (vy:=I k) (v:= .int .u64 (2 ^ k)) rfl zO (by
  simp only[zj,IntKind.bits];rw[QC ω,QZ,Gg ω,Int.one_mul,Ze ω ω]) ?_
 refine gr ?_;exact⟨⟨_,rfl,ω,cG⟩,rfl⟩
def zP2(h0 h:WA)(p:Value)(n:Int)(e0:WH h0 h)(hm:h0.mark<=h0.n)(o:WB h0 h p [.int .u64 n]):
  G0 263 [p] h fun r h'=>(∃ m:Int,r=.int .u64 m/\WB h0 h' p [.int .u64 m])/\WH h0 h'/\Wo p h h':=by
 obtain⟨g,rfl⟩:∃ g,p=.pointer (some ⟨g,0,none⟩):=let⟨g,_,_,e,_⟩:=o;⟨g,e⟩;have shl:∀ (a:Int) (b:Int),0<=b->∃ r,zj .shl (.int .u64 a) (.int .u64 b)=some (.int .u64 r):=fun a b hb=>⟨_,by simp only[zj];rw[QC ω]⟩;have shr:∀ (a:Int) (b:Int),0<=b->∃ r,zj .shr (.int .u64 a) (.int .u64 b)=some (.int .u64 r):=fun a b hb=>⟨_,by simp only[zj];rw[QC ω]⟩;have xor:∀ (a b:Int),∃ r,zj .xor (.int .u64 a) (.int .u64 b)=some (.int .u64 r):=fun a b=>⟨_,by simp only[zj,Qz];rfl⟩;refine en ?_;refine VC 0 rfl rfl ?_;have oX:WB h0 (inC (zB 0 h)) (.pointer (some ⟨g,0,none⟩)) [.int .u64 n]:=o;refine WU ?_;obtain⟨r1,H9⟩:=shl n 13 (by decide);refine WO.bin zO rfl H9 ?_;refine nQ ?_;refine WU ?_;obtain⟨x1,pI⟩:=xor n r1;refine WO.bin zO zO pI ?_;refine nQ ?_;refine WU ?_;refine XC [.int .u64 x1] o e0 (by rw[e0.mark];exact hm) ?_;intro h1 e1 o1 u1;refine go ?_;refine VC 0 rfl rfl ?_;have jT:WB h0 (inC (zB 0 h1)) (.pointer (some ⟨g,0,none⟩)) [.int .u64 x1]:=o1;refine WU ?_;obtain⟨r2,Mr⟩:=shr x1 7 (by decide);refine WO.bin zO rfl Mr ?_;refine nQ ?_;refine WU ?_;obtain⟨x2,fN⟩:=xor x1 r2;refine WO.bin zO zO fN ?_;refine nQ ?_;refine WU ?_;refine XC [.int .u64 x2] o1 e1 (by rw[e1.mark];exact hm) ?_;intro h2 e2 o2 u2;refine go ?_;refine VC 0 rfl rfl ?_;have Tp:WB h0 (inC (zB 0 h2)) (.pointer (some ⟨g,0,none⟩)) [.int .u64 x2]:=o2;refine WU ?_;obtain⟨r3,Ms⟩:=shl x2 17 (by decide);refine WO.bin zO rfl Ms ?_;refine nQ ?_;refine WU ?_;obtain⟨x3,CQ⟩:=xor x2 r3;refine WO.bin zO zO CQ ?_;refine nQ ?_;refine WU ?_;refine XC [.int .u64 x3] o2 e2 (by rw[e2.mark];exact hm) ?_;intro h3 e3 o3 u3;refine gr ?_;exact⟨⟨x3,rfl,o3⟩,e3,(u1.trans u2).trans u3⟩
def zEP(h0 h:WA)(v p:Value)(xs:List Int)(a b n:Int)(e0:WH h0 h)(s:Wc h0 v xs)(o:WB h0 h p [I n])(hn:0<=n/\n<=1000)(ha:0<=a/\a<xs.length)(hb:0<=b/\b<xs.length):
  G0 290 [v,I a,I b,p] h fun r h'=>(∃ c d m:Int,r=.tuple #[I c,I d]/\((c=a/\d=b)\/(c=b/\d=a))/\(0<=m/\m<=n+1)/\WB h0 h' p [I m])/\WH h0 h':=by
 obtain⟨g,rfl⟩:∃ g,p=.pointer (some ⟨g,0,none⟩):=let⟨g,_,_,e,_⟩:=o;⟨g,e⟩;refine en ?_;refine VC 0 rfl rfl ?_;have d9:Wc (inC (zB 0 h)) v xs:=by have:=s.ext e0;exact this
 refine WU ?_;refine VA (YC _ (WZ xs b) (WZ xs a)) ?_;rintro _ _ ⟨rfl,rfl⟩;refine nQ ?_;refine WU ?_;rw[zBp];refine VE (fun he=> ?_) (fun he=> ?_)<;>simp only[DB]at he<;>refine go ?_
 ·refine VG o e0 ?_;intro h1 e1 o1 _;refine gr ?_;exact⟨⟨b,a,n+1,rfl,.inr ⟨rfl,rfl⟩,ω,o1⟩,e1⟩
 ·refine rt ?_;exact⟨⟨a,b,n,rfl,.inl ⟨rfl,rfl⟩,ω,o⟩,e0⟩
def zN4(h0 h:WA)(v p:Value)(xs:List Int)(a b c n:Int)(e0:WH h0 h)(s:Wc h0 v xs)(o:WB h0 h p [I n])(hn:0<=n/\n<=900)(ha:0<=a/\a<xs.length)(hb:0<=b/\b<xs.length)(hc:0<=c/\c<xs.length):
  G0 265 [v,I a,I b,I c,p] h fun r h'=>(∃ d m:Int,r=I d/\(d=a\/d=b\/d=c)/\(0<=m/\m<=n+3)/\WB h0 h' p [I m])/\WH h0 h':=by
 refine en ?_;refine VA (zEP h0 h v p xs a b n e0 s o ω ha hb) ?_;rintro _ h1 ⟨⟨a1,b1,n1,rfl,q1,m1,o1⟩,e1⟩;refine go ?_;refine VA (zEP h0 h1 v p xs b1 c n1 e1 s o1 ω ω hc) ?_;rintro _ h2 ⟨⟨b2,c2,n2,rfl,q2,m2,o2⟩,e2⟩;refine go ?_;refine VA (zEP h0 h2 v p xs a1 b2 n2 e2 s o2 ω ω ω) ?_;rintro _ h3 ⟨⟨a3,b3,n3,rfl,q3,m3,o3⟩,e3⟩;refine gr ?_;exact⟨⟨b3,n3,rfl,ω,ω,o3⟩,e3⟩
def zO1(h:WA)(v:Value)(xs:List Int)(a b:Int)(s:Wc h v xs)(h0:0<=a)(dJ:a+12<b)(jY:b-a<=16)(hb:b<=xs.length)(hlen:xs.length<=1000000000):
  G0 221 [v,I a,I b] h fun r h'=>(∃ d hint:Int,r=.tuple #[I d,I hint]/\(a<=d/\d<b))/\WH h h':=by
 have e4:(b-a).tdiv 4=(b-a) / 4:=JO ω;refine en ?_;refine WO.al ?_;intro p h1 e1 o1;refine go ?_;refine WO.quo (a:=b-a) (c:=4) (by decide) ω ω ?_;rw[e4];refine go ?_;refine WO.quo (a:=b-a) (c:=4) (by decide) ω ω ?_;rw[e4];refine go ?_;refine WO.quo (a:=b-a) (c:=4) (by decide) ω ω ?_;rw[e4];refine go ?_;refine VA (zN4 h h1 v p xs (a+(b-a) / 4*1) (a+(b-a) / 4*2) (a+(b-a) / 4*3) 0 e1 s o1 ω ω ω ω) ?_;rintro _ h6 ⟨⟨d,m,rfl,q6,m6,o6⟩,e6⟩;obtain⟨g,rfl⟩:∃ g,p=.pointer (some ⟨g,0,none⟩):=let⟨g,_,_,e,_⟩:=o6;⟨g,e⟩;refine F0 ?_ ?_<;>intro he<;>refine go ?_;all_goals
  refine rt ?_
  exact⟨⟨_,_,rfl,ω⟩,e6⟩
def zOy(hB h:WA)(v:Value)(xs:List Int)(a b:Int)(e0:WH hB h)(bp:hB.mark<=hB.n)(o:Wq hB h v xs)(h0:0<=a)(dJ:a+12<b)(jY:b-a<=16)(hb:b<=xs.length)(hlen:xs.length<=1000000000):
  G0 220 [v,I a,I b] h fun r h'=>∃ ys,SS hB h v a b xs ys h':=by
 have e4:(b-a).tdiv 4=(b-a) / 4:=JO ω;have s0:=Vb a b o e0;refine en ?_;refine WO.al ?_;intro p h1 e1 o1;have s1:=s0.extd e1;obtain⟨g,hg,rfl⟩:∃ g,h.n<=g/\p=.pointer (some ⟨g,0,none⟩):=let⟨g,hg,_,e,_⟩:=o1;⟨g,hg,e⟩;have o1:=o1.since e0;refine go ?_;refine VG o1 s1.ext ?_;intro h2 e2 o2 u2;have s2:=s1.updC o hg e2 u2;refine go ?_;refine VA (zP4 h2 (b-a) ω ω) ?_;rintro _ _ ⟨⟨m,rfl,cC,bT⟩,rfl⟩;refine go ?_;refine WO.quo (a:=b-a) (c:=4) (by decide) ω ω ?_;rw[e4];refine go ?_;refine VD (fun x=>(b-x.2.1).toNat) (fun(x:List Int×Int×Int) t h4=>SS hB h v a b xs x.1 h4/\zC t 9=I x.2.1/\(a<=x.2.1/\x.2.1<b)/\WB hB h4 (.pointer (some ⟨g,0,none⟩)) [.int .u64 x.2.2]) (xs,a+(b-a) / 4*2-1,IntKind.u64.wrap (b-a)) ?_ ?_
 ·exact⟨s2,WJ,by simp only;omega,o2⟩
 rintro⟨ys,i,x⟩ t h4 ab ⟨s4,s9,hi,o4⟩;simp only at s4 s9 hi o4;have sy:=s4.len;refine go ?_;refine WO.quo (a:=b-a) (c:=4) (by decide) ω ω ?_;rw[e4];refine F0 ?_ ?_<;>intro he<;>refine go ?_
 ·refine VA (zP2 hB h4 _ x s4.ext bp o4) ?_;rintro _ h5 ⟨⟨y,rfl,o5⟩,e5,u5⟩;have s5:=s4.updC o hg e5 u5;refine go ?_;refine WO.bin (vy:= .int .u64 1) (v:= .int .u64 (m-1)) zO rfl (by simp only[zj,Qz];rw[Ze ω ω]) ?_;refine go ?_;obtain⟨r,hr,bE,H9⟩:=zR3 y (m:=m-1) ω;refine WO.bin zO zO hr ?_;refine go ?_;refine VL (fun t h'=>h5=h'/\∃ k:Int,zC t 10=I k/\0<=k/\k<b-a) ?_ ?_
  ·refine VE (fun hf=> ?_) (fun hf=> ?_)<;>simp only[DB]at hf<;>refine go ?_
   ·exact zJ ⟨rfl,_,WJ,ω,ω⟩
   ·exact zJ ⟨rfl,_,WJ,ω,ω⟩
  rintro t6 _ xN ⟨rfl,k,jn,kN,cV⟩;refine go ?_;refine VC 0 rfl rfl ?_;have d9:Wc (inC (zB 0 h5)) v ys:=(s5.own).sl;refine WU ?_;refine VQ (i) (a+k) (s5).own (s5).ext (by rw[(s5).ext.mark];exact bp) ?_;intro h7 e7 o7 u7;have s7:=s5.swp e7 o7 u7 h0 hb ω ω;have Mu:=o5.updV o hg u7;refine go ?_;exact zA (swp ys i (a+k),i+1,y) (by simp only;omega) ⟨s7,WJ,by simp only;omega,Mu⟩
 ·refine BN ?_;exact⟨ys,s4⟩
def zR4{a b i j:Int}{zs:List Int}(h0:0<=a)(hi:b<=i/\i<zs.length)(hj:b<=j/\j<zs.length)(s:B0 a b zs):B0 a b (swp zs i j):=fun p q h1 h2 h3=>by
 rw[yo ω ω ω,yo ω ω ω,QC ω,QC ω,QC ω,QC ω];exact s p q h1 h2 h3
def zLC(hB h:WA)(v:Value)(xs:List Int)(a b:Int)(e0:WH hB h)(bp:hB.mark<=hB.n)(o:Wq hB h v xs)(h0:0<=a)(dJ:a<b)(hb:b<=xs.length)(hlen:xs.length<=1000000000)(fQ:0<a->∀ k,a<=k->k<b->WZ xs (a-1)<=WZ xs k):
  G0 223 [v,I a,I b] h fun r h'=>∃ ys w,r=.bool w/\SS hB h v a b xs ys h'/\(w=true->B0 a b ys):=by
 have s0:=Vb a b o e0;have low:Wi (∀ ys,PI a b xs ys->0<a->∀ k,a<=k->k<b->WZ ys (a-1)<=WZ ys k):=Wi.mk fun ys p ha=>by
  have e1:WZ ys (a-1)=WZ xs (a-1):=p.out _ ω (.inl ω);rw[e1];exact p.all (p:=fun x=>WZ xs (a-1)<=x) h0 hb (fQ ha)
 refine en ?_;refine VD (fun x=>(5-x.2.2).toNat) (fun(x:List Int×Int×Int) t h4=>SS hB h v a b xs x.1 h4/\zC t 7=I x.2.1/\zC t 8=I x.2.2/\(a+1<=x.2.1/\x.2.1<=b)/\(0<=x.2.2/\x.2.2<=5)/\B0 a x.2.1 x.1) (xs,a+1,0) ?_ ?_
 ·exact⟨s0,WJ,WJ,by simp only;omega,by simp only;omega,Ve (by simp only;omega)⟩
 rintro⟨ys,i,c⟩ t h4 ab ⟨s4,s7,s8,hi,hc,hs⟩;simp only at s4 s7 s8 hi hc hs;have sy:=s4.len;refine F0 ?_ ?_<;>intro hx;case refine_2=>
  refine gr ?_;exact⟨_,_,rfl,s4,fun h=>by cases h⟩
 refine go ?_;refine VD (fun i=>(b-i).toNat) (fun(i:Int) t h2=>h4=h2/\zC t 7=I i/\(a+1<=i/\i<=b)/\B0 a i ys) i ?_ ?_
 ·exact⟨rfl,WJ,hi,hs⟩
 clear hs hi s7;rintro i t _ br ⟨rfl,s7,hi,hs⟩;refine go ?_;refine VL (fun t h'=>h4=h'/\zC t 32=.bool (decide (i<b/\¬(WZ ys i<WZ ys (i-1))))) ?_ ?_
 ·refine VC 0 rfl rfl ?_;have d9:Wc (inC (zB 0 h4)) v ys:=(s4.own).sl;refine WU ?_;refine VI (fun hd=> ?_) (fun hd=> ?_)<;>simp only[DB]at hd<;>refine WU ?_
  ·refine VA (YC _ (WZ ys i) (WZ ys (i-1))) ?_;rintro _ _ ⟨rfl,rfl⟩;refine nQ ?_;refine WU ?_;exact zJ ⟨rfl,by rw[show decide (i<b/\¬(WZ ys i<WZ ys (i-1)))= !decide (WZ ys i<WZ ys (i-1))from zDt hd];exact WJ⟩
  ·exact zJ ⟨rfl,by rw[show decide (i<b/\¬(WZ ys i<WZ ys (i-1)))=false from QY (fun hh=>absurd hh.1 ω)];exact WJ⟩
 rintro t5 _ xM ⟨rfl,q5⟩;refine F0 ?_ ?_<;>intro he
 ·refine go ?_;refine zA (i+1) ω ⟨rfl,WJ,ω,fun p q h1 h2 h3=> ?_⟩;by_cases e:q=i
  ·by_cases e2:p=i
   ·rw[e,e2];exact Q1 _
   ·have:=hs p (i-1) h1 ω ω;rw[e];omega
  ·exact hs p q h1 h2 ω
 refine F0 ?_ ?_<;>intro hf
 ·refine gr ?_;subst hf;exact⟨_,_,rfl,s4,fun _=>hs⟩
 refine F0 ?_ ?_<;>intro hg
 ·refine gr ?_;exact⟨_,_,rfl,s4,fun h=>by cases h⟩
 have aD:WZ ys i<WZ ys (i-1):=Int.not_le.1 fun hh=>he ⟨ω,hh⟩;refine go ?_;refine VC 0 rfl rfl ?_;have d9:Wc (inC (zB 0 h4)) v ys:=(s4.own).sl;refine WU ?_;refine VQ (i) (i-1) (s4).own (s4).ext (by rw[(s4).ext.mark];exact bp) ?_;intro h6 e6 o6 u6;have s6:=s4.swp e6 o6 u6 h0 hb ω ω;have hz:∀ p q,a<=p->p<=q->q<i->q≠i-1->WZ (swp ys i (i-1)) p<=WZ (swp ys i (i-1)) q:=fun p q h1 h2 h3 h4=>by
  rw[yo ω ω ω,yo ω ω ω,QC ω,QC ω,QC ω,QC ω];exact hs p q h1 h2 h3
 clear o6 e6 u6 s4 sy hs he aD;generalize swp ys i (i-1)=zs at s6 hz;have xT:=s6.len;refine go ?_;refine VL (fun t h'=>∃ ws,SS hB h v a b xs ws h'/\B0 a i ws) ?_ ?_
 ·refine VE (fun hj=> ?_) (fun hj=> ?_)<;>simp only[DB]at hj<;>refine go ?_
  ·refine VD (fun x=>(x.2+1).toNat) (fun(x:List Int×Int) t h7=>SS hB h v a b xs x.1 h7/\zC t 9=I x.2/\(a<=x.2/\x.2<=i-1)/\∀ p q,a<=p->p<=q->q<i->q≠x.2->WZ x.1 p<=WZ x.1 q) (zs,i-1) ?_ ?_
   ·exact⟨s6,WJ,by simp only;omega,hz⟩
   rintro⟨ws,j⟩ t h7 dw ⟨ec,s9,ez,hw⟩;simp only at ec s9 ez hw;have Di:=ec.len;have fin:(j<1\/¬WZ ws j<WZ ws (j-1))->B0 a i ws:=fun fj p q h1 h2 h3=>by
    by_cases e:q=j
    ·by_cases e2:p=j
     ·rw[e,e2];exact Q1 _
     ·have:=hw p (j-1) h1 ω ω ω;rw[e];rcases fj with hh|hh
      ·omega
      ·omega
    ·exact hw p q h1 h2 h3 e
   refine F0 ?_ ?_<;>intro hk;case refine_2=>
    refine go ?_;exact zJ ⟨ws,ec,fin (.inl ω)⟩
   refine go ?_;refine VC 0 rfl rfl ?_;have d9:Wc (inC (zB 0 h7)) v ws:=(ec.own).sl;refine WU ?_;refine VA (YC _ (WZ ws j) (WZ ws (j-1))) ?_;rintro _ _ ⟨rfl,rfl⟩;refine nQ ?_;refine WU ?_;rw[zBp];refine VE (fun hm=> ?_) (fun hm=> ?_)<;>simp only[DB]at hm
   ·refine go ?_;exact zJ ⟨ws,ec,fin (.inr ω)⟩
   have cJ:a<j:=by
    by_cases e:a<j
    ·exact e
    ·have ej:j=a:=ω
     subst ej;have:=low.out ws ec.pi ω j ω ω;omega
   refine go ?_;refine VC 0 rfl rfl ?_;have d9:Wc (inC (zB 0 h7)) v ws:=(ec.own).sl;refine WU ?_;refine VQ (j) (j-1) (ec).own (ec).ext (by rw[(ec).ext.mark];exact bp) ?_;intro h8 e8 o8 u8;have Dj:=ec.swp e8 o8 u8 h0 hb ω ω;refine go ?_;refine zA (swp ws j (j-1),j-1) (by simp only;omega) ⟨Dj,WJ,by simp only;omega,fun p q h1 h2 h3 h4=> ?_⟩;exact zJE (i:=i-1) h0 cJ ω ω hm (fun p q h1 h2 h3 h4=>hw p q h1 h2 ω h4) p q h1 h2 ω h4
  ·exact zJ ⟨zs,s6,Ve ω⟩
 clear s6 hz xT;rintro t7 h7 C8 ⟨zs,s6,hz⟩;have xT:=s6.len;refine go ?_;refine VL (fun t h'=>∃ ws,SS hB h v a b xs ws h'/\B0 a i ws) ?_ ?_
 ·refine VE (fun hj=> ?_) (fun hj=> ?_)<;>simp only[DB]at hj<;>refine go ?_
  ·refine VD (fun x=>(b-x.2).toNat) (fun(x:List Int×Int) t h7=>SS hB h v a b xs x.1 h7/\zC t 10=I x.2/\(i+1<=x.2/\x.2<=b)/\B0 a i x.1) (zs,i+1) ?_ ?_
   ·exact⟨s6,WJ,by simp only;omega,hz⟩
   rintro⟨ws,j⟩ t h7 dw ⟨ec,jn,ez,hw⟩;simp only at ec jn ez hw;have Di:=ec.len;refine F0 ?_ ?_<;>intro hk;case refine_2=>
    refine go ?_;exact zJ ⟨ws,ec,hw⟩
   refine go ?_;refine VC 0 rfl rfl ?_;have d9:Wc (inC (zB 0 h7)) v ws:=(ec.own).sl;refine WU ?_;refine VA (YC _ (WZ ws j) (WZ ws (j-1))) ?_;rintro _ _ ⟨rfl,rfl⟩;refine nQ ?_;refine WU ?_;rw[zBp];refine VE (fun hm=> ?_) (fun hm=> ?_)<;>simp only[DB]at hm
   ·refine go ?_;exact zJ ⟨ws,ec,hw⟩
   refine go ?_;refine VC 0 rfl rfl ?_;have d9:Wc (inC (zB 0 h7)) v ws:=(ec.own).sl;refine WU ?_;refine VQ (j) (j-1) (ec).own (ec).ext (by rw[(ec).ext.mark];exact bp) ?_;intro h8 e8 o8 u8;have Dj:=ec.swp e8 o8 u8 h0 hb ω ω;refine go ?_;exact zA (swp ws j (j-1),j+1) (by simp only;omega) ⟨Dj,WJ,by simp only;omega,zR4 h0 ω ω hw⟩
  ·exact zJ ⟨zs,s6,hz⟩
 clear s6 hz xT;rintro t8 h8 xO ⟨zs,s6,hz⟩;refine go ?_;exact zA (zs,i,c+1) (by simp only;omega) ⟨s6,WJ,WJ,hi,by simp only;omega,hz⟩
def zUh(n:Nat):∀ (hB h:WA) (v:Value) (xs:List Int) (a b sB:Int) (e0:WH hB h) (bp:hB.mark<=hB.n) (o:Wq hB h v xs) (h0:0<=a) (dJ:a<=b) (hb:b<=xs.length) (hn:b-a<=n) (hlen:xs.length<=1000000000) (uL:0<=sB/\sB<=1000/\b-a<=sB+12/\b-a<=16) (fQ:0<a->∀ k,a<=k->k<b->WZ xs (a-1)<=WZ xs k),
  G0 167 [v,I a,I b,I sB] h fun r h'=>∃ ys,SS hB h v a b xs ys h'/\B0 a b ys:=by
 induction n using Nat.strongRecOn with
 |_ n IH=>
 intro hB h v xs a b sB e0 bp o h0 dJ hb hn hlen uL fQ;have IH:=Wi.mk IH;have s0:=Vb a b o e0;refine en ?_;refine VD (fun x=>(x.2.2.1-x.2.1).toNat) (fun(x:List Int×Int×Int×Int×Bool×Bool) t h4=>SS hB h v a b xs x.1 h4/\zC t 1=I x.2.1/\zC t 2=I x.2.2.1/\zC t 3=I x.2.2.2.1/\zC t 8=.bool x.2.2.2.2.1/\zC t 9=.bool x.2.2.2.2.2/\(a<=x.2.1/\x.2.1<=x.2.2.1/\x.2.2.1<=b)/\(0<=x.2.2.2.1/\x.2.2.2.1<=1000/\x.2.2.1-x.2.1<=x.2.2.2.1+12/\x.2.2.1-x.2.1<=16)/\B0 a x.2.1 x.1/\B0 x.2.2.1 b x.1/\(∀ p q,a<=p->p<x.2.1->x.2.1<=q->q<b->WZ x.1 p<=WZ x.1 q)/\(∀ p q,a<=p->p<x.2.2.1->x.2.2.1<=q->q<b->WZ x.1 p<=WZ x.1 q)/\(0<x.2.1->∀ k,x.2.1<=k->k<x.2.2.1->WZ x.1 (x.2.1-1)<=WZ x.1 k)) (xs,a,b,sB,true,true) ?_ ?_
 ·exact⟨s0,WJ,WJ,WJ,WJ,WJ,by simp only;omega,uL,Ve (by simp only;omega),Ve (by simp only;omega),fun p q h1 h2=>by simp only at h2;omega,fun p q h1 h2 h3 h4=>by simp only at h3;omega,fQ⟩
 rintro⟨ys,c,d,lm,wb,wp⟩ t h4 ab ⟨s4,s1,s2,s3,s8,s9,f9,sC,rA,rB,rL,rH,Dk⟩;simp only at s4 s1 s2 s3 s8 s9 f9 sC rA rB rL rH Dk;have sy:=s4.len;have whole:Wi (∀ zs h5,SS hB h4 v c d ys zs h5->B0 c d zs->SS hB h v a b xs zs h5/\B0 a b zs):=Wi.mk fun zs h5 s5 r5=>by
  refine⟨s4.call s5 f9.1 f9.2.2,fun p q h1 h2 h3=> ?_⟩;have p5:=s5.pi;have o5:=p5.out;by_cases hq:q<c
  ·rw[o5 p ω (.inl ω),o5 q ω (.inl hq)];exact rA p q h1 h2 hq
  by_cases hp:d<=p
  ·rw[o5 p ω (.inr hp),o5 q ω (.inr ω)];exact rB p q hp h2 h3
  by_cases bO:p<c
  ·rw[o5 p ω (.inl bO)];by_cases ly:d<=q
   ·rw[o5 q ω (.inr ly)];exact rL p q h1 bO ω h3
   ·exact p5.all (p:=fun x=>WZ ys p<=x) ω ω (fun k cV aU=>rL p k h1 bO cV ω) q ω ω
  ·by_cases ly:d<=q
   ·rw[o5 q ω (.inr ly)];exact p5.all (p:=fun x=>x<=WZ ys q) ω ω (fun k cV aU=>rH k q ω aU ly h3) p ω ω
   ·exact r5 p q ω h2 ω
 refine F0 ?_ ?_<;>intro hx
 ·refine go ?_;refine VA (zIo hB h4 v ys c d s4.ext bp s4.own ω ω ω ω) ?_;rintro _ h5 ⟨zs,o5,p5,r5,e5,u5⟩;refine gr ?_;exact⟨zs,whole.out zs h5 ⟨o5,e5,u5,p5⟩ r5⟩
 have eM:¬lm=0:=ω
 refine go ?_;refine VL (fun t h'=>∃ zs l2,SS hB h4 v c d ys zs h'/\zC t 3=I l2/\0<=l2/\l2<=1000/\lm-1<=l2) ?_ ?_
 ·refine VE (fun hz=> ?_) (fun hz=> ?_)<;>simp only[DB]at hz<;>refine go ?_
  ·refine VA (zOy hB h4 v ys c d s4.ext bp s4.own ω ω ω ω ω) ?_;rintro _ h5 ⟨zs,s5⟩;refine go ?_;exact zJ ⟨zs,lm-1,s5,WJ,ω,ω,ω⟩
  ·exact zJ ⟨ys,lm,Vb c d s4.own s4.ext,WJ,sC.1,sC.2.1,ω⟩
 rintro t5 h5 xM ⟨zs,l2,s5,q3,dK⟩;have Ia:=s5.len;refine go ?_;refine VA (zO1 h5 v zs c d s5.own.sl ω ω ω ω ω) ?_;rintro _ h6 ⟨⟨pv,hint,rfl,xU⟩,e6⟩;have s6:=s5.extd e6;refine go ?_;refine VL (fun t h'=>∃ ws p2 cN,SS hB h4 v c d ys ws h'/\zC t 11=I p2/\zC t 12=I cN/\c<=p2/\p2<d) ?_ ?_
 ·refine VE (fun hz=> ?_) (fun hz=> ?_)<;>simp only[DB]at hz<;>refine go ?_
  ·refine VA (zLt hB h6 v zs c d s6.ext bp s6.own ω ω ω ω) ?_;rintro _ h7 ⟨ws,s7⟩;refine go ?_;exact zJ ⟨ws,_,1,s6.call s7 ω ω,WJ,WJ,ω,ω⟩
  ·exact zJ ⟨zs,pv,hint,s6,WJ,WJ,xU.1,xU.2⟩
 clear s5 s6 Ia;rintro t7 h7 C8 ⟨ws,p2,cN,s7,Tq,Ts,bO⟩;have Di:=s7.len;have mA:Wi (∀ us,PI c d ys us->0<c->∀ k,c<=k->k<d->WZ us (c-1)<=WZ us k):=Wi.mk fun us p hc=>by
  rw[p.out (c-1) ω (.inl ω)];exact p.all (p:=fun x=>WZ ys (c-1)<=x) ω ω (Dk hc)
 have env:Wi (∀ us,PI c d ys us->B0 a c us/\B0 d b us/\(∀ p q,a<=p->p<c->c<=q->q<b->WZ us p<=WZ us q)/\(∀ p q,a<=p->p<d->d<=q->q<b->WZ us p<=WZ us q)):=Wi.mk fun us p5=>by
  have o5:=p5.out;refine⟨fun p q h1 h2 h3=> ?_,fun p q h1 h2 h3=> ?_,fun p q h1 h2 h3 h4=> ?_,fun p q h1 h2 h3 h4=> ?_⟩
  ·rw[o5 p ω (.inl ω),o5 q ω (.inl h3)];exact rA p q h1 h2 h3
  ·rw[o5 p ω (.inr ω),o5 q ω (.inr ω)];exact rB p q h1 h2 h3
  ·rw[o5 p ω (.inl ω)];by_cases ly:d<=q
   ·rw[o5 q ω (.inr ly)];exact rL p q h1 h2 h3 h4
   ·exact p5.all (p:=fun x=>WZ ys p<=x) ω ω (fun k cV aU=>rL p k h1 h2 cV ω) q h3 ω
  ·rw[o5 q ω (.inr ω)];by_cases hp:p<c
   ·rw[o5 p ω (.inl hp)];exact rH p q h1 h2 h3 h4
   ·exact p5.all (p:=fun x=>x<=WZ ys q) ω ω (fun k cV aU=>rH k q ω aU h3 h4) p ω h2
 clear rA rB rL rH Dk;refine go ?_;refine VV 6 (fun t' h'=>h7=h'/\∃ bb,zC t' 68=.bool bb) ?_ ?_<;>simp only[Qv,GK,GZ,GI]
 ·cases wb<;>cases wp<;>refine go ?_<;>exact⟨rfl,rfl,rfl,_,WJ⟩
 rintro t8 _ xO ⟨rfl,bb,Tt⟩;refine go ?_;refine VL (fun t h'=>∃ us,SS hB h4 v c d ys us h') ?_ ?_
 ·refine VE (fun hz=> ?_) (fun hz=> ?_)<;>refine go ?_
  ·refine VA (zLC hB h7 v ws c d s7.ext bp s7.own ω ω ω ω (mA.out ws s7.pi)) ?_;rintro _ h9 ⟨us,w,rfl,jZ,r9⟩;have r9:=Wi.mk r9;refine WO.nil ?_;refine Yg ?_;refine VE (fun hw=> ?_) (fun hw=> ?_)
   ·refine WX.ret ?_;refine zDd ?_;refine gr ?_;exact⟨us,whole.out us h9 (s7.call jZ ω ω) (r9.out hw)⟩
   ·refine WX.skip ?_;exact zJ ⟨us,s7.call jZ ω ω⟩
  ·exact zJ ⟨ws,s7⟩
 clear s7 Di;rintro t9 h9 LZ ⟨us,jZ⟩;have Tu:=jZ.len;refine go ?_;refine VL (fun t h'=>h9=h'/\zC t 87=.bool (decide (0<c/\¬(WZ us (c-1)<WZ us p2)))) ?_ ?_
 ·refine VC 0 rfl rfl ?_;have d9:Wc (inC (zB 0 h9)) v us:=(jZ.own).sl;refine WU ?_;refine VI (fun hd=> ?_) (fun hd=> ?_)<;>simp only[DB]at hd<;>refine WU ?_
  ·refine VA (YC _ (WZ us (c-1)) (WZ us p2)) ?_;rintro _ _ ⟨rfl,rfl⟩;refine nQ ?_;refine WU ?_;exact zJ ⟨rfl,by rw[show decide (0<c/\¬(WZ us (c-1)<WZ us p2))= !decide (WZ us (c-1)<WZ us p2)from zDt hd];exact WJ⟩
  ·exact zJ ⟨rfl,by rw[show decide (0<c/\¬(WZ us (c-1)<WZ us p2))=false from QY (fun hh=>absurd hh.1 ω)];exact WJ⟩
 rintro L3 _ C9 ⟨rfl,nL⟩;refine F0 ?_ ?_<;>intro hz<;>refine go ?_
 ·refine VA (zIh hB h9 v us c d p2 jZ.ext bp jZ.own ω ω ω ω) ?_;rintro _ jo ⟨zs,m,rfl,mz,hm,lo,hi⟩;have sw:=jZ.call mz (Q1 _) (Q1 _);obtain⟨eA,eB,eL,eH⟩:=env.out zs sw.pi;have lz:=mA.out zs sw.pi hz.1;have hP:WZ us p2<=WZ zs (c-1):=by
   rw[mz.pi.out (c-1) ω (.inl ω)];omega
  refine go ?_;refine zA (zs,m,d,l2,wb,wp) (by simp only;omega) ⟨s4.call sw f9.1 f9.2.2,WJ,WJ,WJ,WJ,WJ,by simp only;omega,⟨dK.1,dK.2.1,by simp only;omega,by simp only;omega⟩,fun p q h1 h2 h3=> ?_,eB,fun p q h1 h2 h3 h4=> ?_,eH,fun h1 k h2 h3=> ?_⟩
  ·simp only at h3 |-;by_cases hq:q<c
   ·exact eA p q h1 h2 hq
   by_cases hp:p<c
   ·exact eL p q h1 hp ω ω
   ·have x1:=lo p ω ω;have x2:=lz q ω ω;omega
  ·simp only at h2 h3 |-;by_cases hp:p<c
   ·exact eL p q h1 hp ω h4
   by_cases hq:d<=q
   ·exact eH p q h1 ω hq h4
   ·have x1:=lo p ω ω;have x2:=hi q ω ω;omega
  ·simp only at h1 h2 h3 |-;have x1:=lo (m-1) ω ω;have x2:=hi k ω ω;omega
 ·refine VA (zIj hB h9 v us c d p2 jZ.ext bp jZ.own ω ω ω ω) ?_;rintro _ jo ⟨zs,m,w,rfl,mz,hm,lo,hi⟩;have sw:=jZ.call mz (Q1 _) (Q1 _);have nU:=sw.len;refine go ?_;refine WO.quo (a:=d-c) (c:=8) (by decide) (by rw[JO ω];omega) (by rw[JO ω];omega) ?_;refine go ?_;refine VE (fun sj=> ?_) (fun sj=> ?_)<;>simp only[DB]at sj<;>refine go ?_
  ·refine VA (IH.out (m-c).toNat ω hB jo v zs c m l2 sw.ext bp sw.own ω ω ω ω ω ⟨dK.1,dK.2.1,ω,ω⟩ (fun h1 k h2 h3=>mA.out zs sw.pi h1 k h2 ω)) ?_;rintro _ gi ⟨vs,mu,Dl⟩;have st:=sw.call mu (Q1 _) ω;obtain⟨eA,eB,eL,eH⟩:=env.out vs st.pi;have same:∀ k,m<=k->WZ vs k=WZ zs k:=fun k hk=>mu.pi.out k ω (.inr hk);have left:∀ k,c<=k->k<m->WZ vs k<=WZ zs m:=mu.pi.all (p:=fun x=>x<=WZ zs m) ω ω (fun k h1 h2=>lo k h1 h2);refine go ?_;refine zA (vs,m+1,d,l2,decide ((d-c).tdiv 8<=m-c),w) (by simp only;omega) ⟨s4.call st f9.1 f9.2.2,WJ,WJ,WJ,WJ,WJ,by simp only;omega,⟨dK.1,dK.2.1,by simp only;omega,by simp only;omega⟩,fun p q h1 h2 h3=> ?_,eB,fun p q h1 h2 h3 h4=> ?_,eH,fun h1 k h2 h3=> ?_⟩
   ·simp only at h3 |-;by_cases hq:q<c
    ·exact eA p q h1 h2 hq
    by_cases hp:p<c
    ·exact eL p q h1 hp ω ω
    by_cases hqm:q=m
    ·by_cases hpm:p=m
     ·rw[hqm,hpm];exact Q1 _
     ·rw[hqm,same m (Q1 _)];exact left p ω ω
    ·exact Dl p q ω h2 ω
   ·simp only at h2 h3 |-;by_cases hp:p<c
    ·exact eL p q h1 hp ω h4
    by_cases hq:d<=q
    ·exact eH p q h1 ω hq h4
    ·rw[same q ω];have x2:=hi q ω ω;by_cases hpm:p=m
     ·rw[hpm,same m (Q1 _)];exact x2
     ·have x1:=left p ω ω;omega
   ·simp only at h1 h2 h3 |-;rw[show m+1-1=m by omega,same m (Q1 _),same k ω];exact hi k ω h3
  ·refine VA (IH.out (d-(m+1)).toNat ω hB jo v zs (m+1) d l2 sw.ext bp sw.own ω ω ω ω ω ⟨dK.1,dK.2.1,ω,ω⟩ (fun h1 k h2 h3=>by rw[show m+1-1=m by omega];exact hi k ω h3)) ?_;rintro _ gi ⟨vs,mu,Dl⟩;have st:=sw.call mu ω (Q1 _);obtain⟨eA,eB,eL,eH⟩:=env.out vs st.pi;have same:∀ k,0<=k->k<=m->WZ vs k=WZ zs k:=fun k h0 hk=>mu.pi.out k h0 (.inl ω);have right:∀ k,m+1<=k->k<d->WZ zs m<=WZ vs k:=mu.pi.all (p:=fun x=>WZ zs m<=x) ω ω (fun k h1 h2=>hi k ω h2);refine go ?_;refine zA (vs,c,m,l2,decide ((d-c).tdiv 8<=d-m),w) (by simp only;omega) ⟨s4.call st f9.1 f9.2.2,WJ,WJ,WJ,WJ,WJ,by simp only;omega,⟨dK.1,dK.2.1,by simp only;omega,by simp only;omega⟩,eA,fun p q h1 h2 h3=> ?_,eL,fun p q h1 h2 h3 h4=> ?_,fun h1 k h2 h3=> ?_⟩
   ·simp only at h1 |-;by_cases hp:d<=p
    ·exact eB p q hp h2 h3
    by_cases hq:d<=q
    ·exact eH p q ω ω hq h3
    by_cases hpm:p=m
    ·by_cases hqm:q=m
     ·rw[hqm,hpm];exact Q1 _
     ·rw[hpm,same m ω (Q1 _)];exact right q ω ω
    ·exact Dl p q ω h2 ω
   ·simp only at h2 h3 |-;by_cases hp:p<c
    ·exact eL p q h1 hp ω h4
    by_cases hq:d<=q
    ·exact eH p q h1 ω hq h4
    ·have x1:=lo p ω h2;rw[same p ω ω];by_cases hqm:q=m
     ·rw[hqm,same m ω (Q1 _)];exact x1
     ·have x2:=right q ω ω;omega
   ·simp only at h1 h2 h3 |-;exact mA.out vs st.pi h1 k h2 ω
def zGf(h:WA):G0 218 [.slice none 0 0,I 0,I 0] h fun r h'=>h=h':=by
 refine en ?_;refine VD (fun _=>0) (fun(_:Unit) t h1=>h=h1/\zC t 6=I 1) () ?_ ?_
 ·exact⟨rfl,WJ⟩
 rintro _ t _ ab ⟨rfl,s6⟩;refine go ?_;refine BN ?_;rfl
def zSr(h:WA)(k:Int):G0 167 [.slice none 0 0,I 0,I 0,I k] h fun r h'=>h=h':=by
 refine en ?_;refine VD (fun _=>0) (fun(_:Unit) t h1=>h=h1/\zC t 1=I 0/\zC t 2=I 0) () ?_ ?_
 ·exact⟨rfl,WJ,WJ⟩
 rintro _ t _ ab ⟨rfl,s1,s2⟩;refine go ?_;refine VA (zGf h) ?_;rintro _ _ rfl;refine gr ?_;rfl
def Zv(xs:List Int):List Int:=xs.mergeSort (fun a b=>decide (a<=b))
def zMU(hB h:WA)(v:Value)(xs:List Int)(e0:WH hB h)(bp:hB.mark<=hB.n)(o:WP hB h v xs)(hlen:xs.length<=16):
  G0 113 [v] h fun r h'=>WP hB h' v (Zv xs)/\WH hB h'/\Bm v h h':=by
 have s:Wc h v xs:=o.sl;refine en ?_;rw[Ze ω ω];refine VA (zQ9 h xs.length ω ω) ?_;rintro _ _ ⟨⟨k,rfl,hk,aU,cG⟩,rfl⟩;refine go ?_;rcases o with⟨rfl,rfl⟩|o
 ·rw[show((([]:List Int).length:Nat):Int)=0 from rfl];refine VA (zSr h k) ?_;rintro _ _ rfl;refine go ?_;refine BN ?_;exact⟨.inl ⟨rfl,by simp[Zv]⟩,e0,Bm.refl _ _⟩
 refine VA (zUh xs.length hB h v xs 0 xs.length k e0 bp o ω ω ω ω ω ω (fun h=>by omega)) ?_;rintro _ h2 ⟨ys,s2,r2⟩;refine go ?_;refine BN ?_;have:ys=Zv xs:=zLf s2.pi.perm (by rw[s2.len];exact r2);exact⟨.inr (this▸s2.own),s2.ext,s2.upd⟩
def zLg(hA h:WA)(y p v:Value)(l:List Int)(hl:(l.length:Int)<=1000000000)(J:Nat->WA->Prop)(h0:J 0 h)(hr:∀ i h',J i h'->WB hA h' p [v]/\Wc h' v l)
  (hy:∀ i h',i<l.length->J i h'->WV Tryz.prog tb y [I (l.getD i 0)] h' fun r ef=>r=.bool true/\J (i+1) ef):
  G0 294 [y,p] h fun _ h'=>J l.length h':=by
 obtain⟨o,s⟩:=hr 0 h h0;obtain⟨_,_,_,rfl⟩:=Wm.shape s;have hr:=Wi.mk hr;have hy:=Wi.mk hy;refine en ?_;refine VD (fun i=>l.length-i) (fun i t h1=>zC t 7=I i/\i<=l.length/\J i h1) 0 ?_ ?_
 ·exact⟨WJ,QQ _,h0⟩
 rintro i t h1 ab ⟨s7,hi,j1⟩;obtain⟨o1,s1⟩:=hr.out i h1 j1;refine F0 ?_ ?_<;>intro hb
 ·have af:i<l.length:=ω
  refine go ?_;refine VJ (hy.out i h1 af j1) ?_;rintro _ h2 ⟨rfl,j2⟩;refine go ?_;exact zA (i+1) ω ⟨Wy,ω,j2⟩
 ·refine go ?_;refine BN ?_;have:i=l.length:=ω
  subst this;exact j1
def zNj(h:WA)(v:Value):
  G0 271 [v] h fun r h'=>(∃ p,r=.func (.func 294) #[] #[p]/\WB h h' p v.cells.toList)/\WH h h':=by
 refine en ?_;refine VH ?_;intro p h1 e1 o1;refine gr ?_;exact⟨⟨p,rfl,o1⟩,e1⟩
def zIq(h:WA)(p v:Value)(l:List Int)(hA:WA)(hl:(l.length:Int)<=1000000000)(o:WB hA h p [v])(s:Wc h v l):
  G0 311 [.slice none 0 0,.func (.func 294) #[] #[p]] h fun r h'=>WP h h' r l/\WH h h':=by
 refine en ?_;refine VH ?_;intro p2 h1 e1 o1;refine go ?_;refine Vq ?_;intro L g r hO uM eO hL hg lL lg;have o2:=o1.ext eO;have eb:=e1.trans eO;refine WV.func ?_;refine WC.mono (zLg hA hO _ p v l hl (fun i h'=>WH h h'/\Ww h' L (.loop r)/\Ww h' g (.deferred (some []))/\∃ w,WB h h' p2 [w]/\WP h h' w (l.take i)) ?_ ?_ ?_) ?_
 ·exact⟨eb,lL,lg,.slice none 0 0,o2,.inl ⟨rfl,rfl⟩⟩
 ·rintro i h' ⟨e',_⟩;exact⟨o.ext e',s.ext e'⟩
 ·rintro i h' hi ⟨e',dQ,j0,w,ow,on⟩;refine Vo dQ uM rfl ?_;simp only[zCE];refine go ?_;refine zCI ?_;intro h2 fU;have e2:WH h h2:=by rw[fU];exact e'.set (by have:=e1.n;omega) dQ.1 _
  have sE:WB h h2 p2 [w]:=by rw[fU];exact ow.setR dQ rfl
  have nV:WP h h2 w (l.take i):=by rw[fU];exact on.setR dQ rfl
  have gQ:Ww h2 L (.loop (busy r)):=by rw[fU];exact dQ.self
  have mB:Ww h2 g (.deferred (some [])):=by
   rw[fU];refine j0.set ?_;intro e;subst e;have:=j0.2;rw[dQ.2]at this;cases this
  clear fU;obtain⟨_,_,_,rfl⟩:=Wm.shape nV.sl;refine go ?_;refine WO.bl [l.getD i 0] ?_;intro v3 h3 e3 o3;refine go ?_;have bQ:=e2.trans e3;have xV:(l.take i).length<=i:=by rw[Qp];omega
  refine Vk (v:= .slice _ _ _) (w:=v3) (by exact zO) (by exact zO) (nV.ext e3) o3.sl bQ (by simp) (by simp only[Qb];omega) ?_;intro h4 e4 o4 u4;have gR:=WB.upd (sE.ext e3) (nV.ext e3) u4;have j7:=(gQ.ext e3).upd rfl (nV.ext e3) u4;have iS:=(mB.ext e3).upd rfl (nV.ext e3) u4;refine go ?_;refine VG gR e4 ?_;intro h5 e5 fV u5;have sF:=Wq.updC o4 gR u5;have iT:=j7.updC rfl gR u5;have qp:=iS.updC rfl gR u5;refine go ?_;refine zB9 iT ?_;have tk:l.take (i+1)=l.take i++[l.getD i 0]:=by rw[GF];simp[List.getD,QB hi]
  refine⟨rfl,e5.set (by have:=e1.n;omega) iT.1 _,iT.self,qp.set ?_,_,fV.setR iT rfl,?_⟩
  ·intro e;subst e;have:=qp.2;rw[iT.2]at this;cases this
  ·rw[tk];exact(WP.setR (.inr sF) iT rfl)
 ·rintro _ h2 ⟨e2,gQ,mB,w,ow,on⟩;refine⟨gQ,fun r3=> ?_⟩;have uN:g≠L:=by intro e;subst e;have:=mB.2;rw[gQ.2]at this;cases this
  obtain⟨h3,iU⟩:∃ h3,h3=h2.set L (.loop r3):=⟨_,rfl⟩;have e3:WH h h3:=by rw[iU];exact e2.set (by have:=e1.n;omega) gQ.1 _
  have mC:WB h h3 p2 [w]:=by rw[iU];exact ow.setR gQ rfl
  have iV:WP h h3 w (l.take l.length):=by rw[iU];exact on.setR gQ rfl
  have uO:Ww h3 g (.deferred (some [])):=by rw[iU];exact mB.set uN
  rw[<-iU];clear iU;obtain⟨_,_,_,rfl⟩:=Wm.shape iV.sl;refine go ?_;refine zFW uO ?_;refine rt ?_;rw[Qs]at iV;exact⟨iV.setR uO rfl,e3.set (by have:=e1.n;omega) uO.1 _⟩
def zLJ(h:WA)(p v:Value)(l:List Int)(hA:WA)(hl:(l.length:Int)<=1000000000)(o:WB hA h p [v])(s:Wc h v l):
  G0 293 [.func (.func 294) #[] #[p]] h fun r h'=>WP h h' r l/\WH h h':=by
 refine en ?_;refine VA (zIq h p v l hA hl o s) ?_;rintro r h1 ⟨o1,e1⟩;refine gr ?_;exact⟨o1,e1⟩
def zNa(h:WA)(p v:Value)(l:List Int)(hA:WA)(hl:(l.length:Int)<=16)(hm:h.mark<=h.n)(o:WB hA h p [v])(s:Wc h v l):
  G0 270 [.func (.func 294) #[] #[p]] h fun r h'=>WP h h' r (Zv l)/\WH h h':=by
 refine en ?_;refine VA (zLJ h p v l hA ω o s) ?_;rintro r h1 ⟨o1,e1⟩;refine go ?_;refine VA (zMU h h1 r l e1 hm o1 ω) ?_;rintro _ h2 ⟨o2,e2,u2⟩;refine gr ?_;exact⟨o2,e2⟩
def zAb(T:List WF)(F:List We)(f:Int):List Int:=(YI (W5 (zF T F f 0).1) (zF T F f 0).1.length [0] ([],[])).2
def zGa{L:List Wk}(aq:∀ b,0<=b/\b<(L.length:Int)->∀ c∈W5 L b,0<=c/\c<(L.length:Int))(m:List Int)(hm:∀ c∈m,0<=c/\c<(L.length:Int)):(YI (W5 L) L.length m ([],[])).2.length<=L.length:=by
 have:∀ (m:List Int) (s:DS),(∀ c∈m,0<=c/\c<(L.length:Int))->(YI (W5 L) L.length m s).2.length+Bp L.length (YI (W5 L) L.length m s).1<=s.2.length+Bp L.length s.1:=by
  intro m;induction m with
  |nil=>intro s _;exact QF _
  |cons x m ih=>intro s hm;exact QM (ih _ fun c hc=>hm c (by simp[hc])) (zEN aq _ x s (hm x (by simp)))
 have h1:=this m ([],[]) hm;have h2:=zGD L.length [];simp only[G5]at h1;omega
def yY(T:List WF)(F:List We)(f:Int):List Int×Int:=
 if(zF T F f 0).2≠0 then([],(zF T F f 0).2)else(Zv (zAb T F f),0)
def zh(T:List WF)(F:List We)(f:Int):List Int×Int:=
 if(zF T F f 0).2≠0 then([],(zF T F f 0).2)else((zAb T F f).reverse,0)
def zI4(h:WA)(vt vf:Value)(T:List WF)(F:List We)(f:Int)(tt:SA h)(hm:h.mark<=h.n)(sm:Bd T F)(st:BB h vt T)(sf:BA h vf F):
  G0 230 [.agg #[vt,vf],I f] h fun r h'=>(∃ v,r=.tuple #[v,I (yY T F f).2]/\WP h h' v (yY T F f).1)/\WH h h':=by
 refine en ?_;refine VH ?_;intro p h1 e1 o1;refine go ?_;refine VA (zET h1 vt vf T F f 0 (tt.ext e1) (yV e1 hm) sm (st.ext e1) (BA.ext sf e1)) ?_;rintro _ h2 ⟨⟨v,rfl,sb⟩,e2⟩;have aQ:=e1.trans e2;refine F0 ?_ ?_<;>intro hb<;>refine go ?_
 ·refine rt ?_;rw[show yY T F f=([],(zF T F f 0).2)from by rw[yY,QJ hb]];exact⟨⟨_,rfl,.inl ⟨rfl,rfl⟩⟩,aQ⟩
 have aW:(zF T F f 0).2=0:=ω
 obtain⟨hlen,gh⟩:=Zw aW;obtain⟨_,bN,_,_⟩:=Zh aW;have bE:∀ c∈([0]:List Int),0<=c/\c<((zF T F f 0).1.length:Int):=fun c hc=>by
  rw[QO]at hc;subst hc;exact⟨Q1 _,bN⟩
 have sG:=zGa gh [0] bE;rw[show yY T F f=(Zv (zAb T F f),0)from by rw[yY,QC ω]];refine WO.bl [0] ?_;intro v3 h3 e3 o3;have df:=aQ.trans e3;refine go ?_;refine VA (zMj h3 (yV df hm) _ v v3 [0] (Bb.ext sb e3) ω gh o3.sl (by decide) bE) ?_;rintro q h4 ⟨o4,e4⟩;have cB:=df.trans e4;obtain⟨qa,qn,qk,rfl⟩:=Wm.shape o4.sl;refine go ?_;refine VA (zNj h4 _) ?_;rintro _ h5 ⟨⟨p5,rfl,o5⟩,e5⟩;have cH:=cB.trans e5;refine go ?_;refine VA (zNa h5 p5 _ _ h4 ω (yV cH hm) o5 (o4.sl.ext e5)) ?_;rintro r h6 ⟨o6,e6⟩;refine gr ?_;exact⟨⟨_,rfl,o6.since cH⟩,cH.trans e6⟩
def zEK{x:Int}{l:List Int}:x∈Zv l↔x∈l:=(JR l _).mem_iff
def zNS(l:List Int):(Zv l).length=l.length:=(JR l _).length_eq
def zFZ{L:List Wk}{a b:Int}(h:0<=a/\a<(L.length:Int)):a∈zY L b L.length↔b∈W5 L a:=by
 unfold zY W5;simp only[Qw,Gp,Q4,Qc];constructor
 ·rintro⟨i,⟨_,h1⟩,rfl⟩;rw[QZ];exact h1
 ·intro h1;exact⟨a.toNat,⟨ω,h1⟩,ω⟩
def zEf{L:List Wk}{a b:Int}:a∈zY L b L.length↔(0<=a/\a<(L.length:Int))/\b∈W5 L a:=by
 constructor
 ·intro h;have h':=h;unfold zY at h';simp only[Qw,Gp,Q4]at h';obtain⟨i,⟨hi,_⟩,rfl⟩:=h';exact⟨ω,(zFZ ω).1 h⟩
 ·rintro⟨h1,h2⟩;exact(zFZ h1).2 h2
def zAU{T:List WF}{F:List We}{f b:Int}(h:(zF T F f 0).2=0):b∈(yY T F f).1↔Wx (W5 (zF T F f 0).1) 0 b:=by
 obtain⟨_,bN,_,_⟩:=Zh h;obtain⟨hlen,aq⟩:=Zw h;unfold yY;rw[QC (by rw[h];exact fun e=>e rfl)];simp only;rw[zEK];unfold zAb;rw[zM3 aq (fun c hc=>by rw[QO]at hc;subst hc;exact⟨Q1 _,bN⟩)];simp
def zG2{T:List WF}{F:List We}{f:Int}:(yY T F f).2=(zF T F f 0).2:=by
 unfold yY;split
 ·rfl
 ·rename_i h;simp only[ne_eq,Decidable.not_not]at h;exact h.symm
def zH0(hA h:WA)(y p v:Value)(l:List Int)(hl:(l.length:Int)<=1000000000)(J:Nat->WA->Prop)(h0:J 0 h)(hr:∀ i h',J i h'->WB hA h' p [v]/\Wc h' v l)
  (hy:∀ i h',i<l.length->J i h'->WV Tryz.prog tb y [I ((l.length:Int)-1-i),I (l.getD (l.length-1-i) 0)] h' fun r ef=>r=.bool true/\J (i+1) ef):
  G0 319 [y,p] h fun _ h'=>J l.length h':=by
 obtain⟨o,s⟩:=hr 0 h h0;obtain⟨_,_,_,rfl⟩:=Wm.shape s;have hr:=Wi.mk hr;have hy:=Wi.mk hy;refine en ?_;refine VD (fun i=>l.length-i) (fun i t h1=>zC t 3=I ((l.length:Int)-1-i)/\i<=l.length/\J i h1) 0 ?_ ?_
 ·exact⟨by rw[show(l.length:Int)-1-((0:Nat):Int)=l.length-1 by omega];exact WJ,QQ _,h0⟩
 rintro i t h1 ab ⟨s3,hi,j1⟩;obtain⟨o1,s1⟩:=hr.out i h1 j1;refine F0 ?_ ?_<;>intro hb
 ·have af:i<l.length:=ω
  have mn:((l.length:Int)-1-i).toNat=l.length-1-i:=ω
  refine go ?_;have Ib:=hy.out i h1 af j1;rw[<-mn]at Ib;refine VJ Ib ?_;rintro _ h2 ⟨rfl,j2⟩;refine go ?_;exact zA (i+1) ω ⟨by rw[show(l.length:Int)-1-((i+1:Nat):Int)=l.length-1-i-1 by omega];exact WJ,ω,j2⟩
 ·refine go ?_;refine BN ?_;have:i=l.length:=ω
  subst this;exact j1
def zJd(h:WA)(v:Value):
  G0 318 [v] h fun r h'=>(∃ p,r=.func (.func 319) #[] #[p]/\WB h h' p v.cells.toList)/\WH h h':=by
 refine en ?_;refine VH ?_;intro p h1 e1 o1;refine gr ?_;exact⟨⟨p,rfl,o1⟩,e1⟩
def zPA(l:List Int){i:Nat}(hi:i<l.length):l.reverse.take (i+1)=l.reverse.take i++[l.getD (l.length-1-i) 0]:=by
 rw[GF,List.getElem?_reverse hi];simp[List.getD,QB (show l.length-1-i<l.length by omega)]
def zPH(h:WA)(vt vf:Value)(T:List WF)(F:List We)(f:Int)(tt:SA h)(hm:h.mark<=h.n)(sm:Bd T F)(st:BB h vt T)(sf:BA h vf F):
  G0 315 [.agg #[vt,vf],I f] h fun r h'=>(∃ v,r=.tuple #[v,I (zh T F f).2]/\WP h h' v (zh T F f).1)/\WH h h':=by
 refine en ?_;refine VH ?_;intro p h1 e1 o1;refine go ?_;refine WO.al ?_;intro p4 h2 e2 o2;have o2:=o2.since e1;have o1:=o1.ext e2;have aE:=e1.trans e2;refine go ?_;refine VA (zET h2 vt vf T F f 0 (tt.ext aE) (yV aE hm) sm (st.ext aE) (BA.ext sf aE)) ?_;rintro _ h3 ⟨⟨v,rfl,sb⟩,e3⟩;have bQ:=aE.trans e3;have o3:=o2.ext e3;refine F0 ?_ ?_<;>intro hb<;>refine go ?_
 ·refine VG o3 bQ ?_;intro h4 e4 o4 _;refine go ?_;rw[show zh T F f=([],(zF T F f 0).2)from by rw[zh,QJ hb]];refine rt ?_ (VP WJ o4 rfl (BI.cons WJ BI.nil));exact⟨⟨_,rfl,.inl ⟨rfl,rfl⟩⟩,e4⟩
 have aW:(zF T F f 0).2=0:=ω
 obtain⟨hlen,gh⟩:=Zw aW;obtain⟨_,bN,_,_⟩:=Zh aW;have bE:∀ c∈([0]:List Int),0<=c/\c<((zF T F f 0).1.length:Int):=fun c hc=>by
  rw[QO]at hc;subst hc;exact⟨Q1 _,bN⟩
 have sG:=zGa gh [0] bE;rw[show zh T F f=((zAb T F f).reverse,0)from by rw[zh,QC ω]];refine WO.bl [0] ?_;intro v4 h4 e4 o4;have cg:=bQ.trans e4;have Ic:=o3.ext e4;refine go ?_;refine VA (zMj h4 (yV cg hm) _ v v4 [0] (Bb.ext sb e4) ω gh o4.sl (by decide) bE) ?_;rintro q h5 ⟨o5,e5⟩;have bh:=cg.trans e5;have Mv:=Ic.ext e5;obtain⟨qa,qn,qk,rfl⟩:=Wm.shape o5.sl;refine go ?_;refine VA (zJd h5 _) ?_;rintro _ h6 ⟨⟨p6,rfl,o6⟩,e6⟩;have c9:=bh.trans e6;have Mw:=Mv.ext e6;have xW:=(o5.ext e6).since (WH.refl h4);have ed:zAb T F f=(YI (W5 (zF T F f 0).1) (zF T F f 0).1.length [0] ([],[])).2:=rfl;rw[<-ed]at sG xW o5;generalize zAb T F f=l at sG xW o5 |-;clear ed;refine go ?_;refine Vq ?_;intro L g r hO uM eO hL hg lL lg;have Mx:=c9.trans eO;obtain⟨g4,xX,rfl⟩:∃ g4,g4<h4.n/\p4=.pointer (some ⟨g4,0,none⟩):=let⟨g,_,a,b,_⟩:=Ic;⟨g,a,b⟩;have oO:=Mw.ext eO;refine WV.func ?_;refine WC.mono (zH0 h5 hO _ p6 (.slice qa qn qk) l ω (fun i h'=>WH h h'/\Wo (.pointer (some ⟨g4,0,none⟩)) h6 h'/\Ww h' L (.loop r)/\Ww h' g (.deferred (some []))/\∃ w,WB h h' (.pointer (some ⟨g4,0,none⟩)) [w]/\WP h6 h' w (l.reverse.take i)) ?_ ?_ ?_) ?_
 ·exact⟨Mx,(Wo.refl _ h6).extd eO,lL,lg,.slice none 0 0,oO,.inl ⟨rfl,rfl⟩⟩
 ·rintro i h' ⟨_,u',_⟩;exact⟨o6.offC u' (QG xX e5.n),(xW.offC u' xX).sl⟩
 ·rintro i h' hi ⟨e',u',dQ,j0,w,ow,on⟩;refine Vo dQ uM rfl ?_;simp only[zCE];refine go ?_;refine zCI ?_;intro j2 fU;have gC:WH h j2:=by rw[fU];exact e'.set (QM c9.n hL) dQ.1 _
  have Dp:Wo (.pointer (some ⟨g4,0,none⟩)) h6 j2:=by rw[fU];exact u'.setL hL
  have sE:WB h j2 (.pointer (some ⟨g4,0,none⟩)) [w]:=by rw[fU];exact ow.setR dQ rfl
  have nV:WP h6 j2 w (l.reverse.take i):=by rw[fU];exact on.setR dQ rfl
  have gQ:Ww j2 L (.loop (busy r)):=by rw[fU];exact dQ.self
  have mB:Ww j2 g (.deferred (some [])):=by
   rw[fU];refine j0.set ?_;intro e;subst e;have:=j0.2;rw[dQ.2]at this;cases this
  clear fU;obtain⟨_,_,_,rfl⟩:=Wm.shape nV.sl;refine go ?_;refine WO.bl [l.getD (l.length-1-i) 0] ?_;intro v3 j3 mD Dq;refine go ?_;have Ds:=gC.trans mD;have xV:(l.reverse.take i).length<=i:=by rw[Qp];omega
  have iV:=nV.ext mD;refine Vk (v:= .slice _ _ _) (w:=v3) (by exact zO) (by exact zO) (iV.since c9) Dq.sl Ds (by simp) (by simp only[Qb];omega) ?_;intro j4 fq xY qq;have gR:=WB.upd (sE.ext mD) (iV.since c9) qq;have j7:=(gQ.ext mD).upd rfl iV qq;have iS:=(mB.ext mD).upd rfl iV qq;have u4:=(Dp.extd mD).upd iV qq;refine go ?_;refine VG gR fq ?_;intro j5 gS fV xZ;have sF:=(Wq.updC xY gR xZ).rebase (QM Dp.1 mD.n);have iT:=j7.updC rfl gR xZ;have qp:=iS.updC rfl gR xZ;have u5:=u4.trans xZ;refine go ?_;refine zB9 iT ?_;have tk:=zPA l hi;refine⟨rfl,gS.set (QM c9.n hL) iT.1 _,u5.setL hL,iT.self,qp.set ?_,_,fV.setR iT rfl,?_⟩
  ·intro e;subst e;have:=qp.2;rw[iT.2]at this;cases this
  ·rw[tk];exact(WP.setR (.inr sF) iT rfl)
 ·rintro _ j2 ⟨gC,Dp,gQ,mB,w,ow,on⟩;refine⟨gQ,fun r3=> ?_⟩;have uN:g≠L:=by intro e;subst e;have:=mB.2;rw[gQ.2]at this;cases this
  obtain⟨j3,iU⟩:∃ j3,j3=j2.set L (.loop r3):=⟨_,rfl⟩;have mD:WH h j3:=by rw[iU];exact gC.set (QM c9.n hL) gQ.1 _
  have mC:WB h j3 (.pointer (some ⟨g4,0,none⟩)) [w]:=by rw[iU];exact ow.setR gQ rfl
  have iV:WP h6 j3 w (l.reverse.take l.length):=by rw[iU];exact on.setR gQ rfl
  have uO:Ww j3 g (.deferred (some [])):=by rw[iU];exact mB.set uN
  rw[<-iU];clear iU;obtain⟨_,_,_,rfl⟩:=Wm.shape iV.sl;rw[Q3 (by rw[List.length_reverse];exact QF _)]at iV;refine go ?_;refine VG mC mD ?_;intro j4 fq gR qq;have iS:=uO.updC rfl mC qq;have mE:=iV.offC qq (QG xX (e5.trans e6).n);refine go ?_;refine zFW iS ?_;refine rt ?_ (VP WJ (gR.setR iS rfl) rfl (BI.cons WJ BI.nil));exact⟨⟨_,rfl,(mE.setR iS rfl).since c9⟩,fq.set (QM c9.n hg) iS.1 _⟩
def Ord(nx:Int->List Int)(d:List Int):Prop:=∀ d1 u d2,d=d1++u::d2->∀ v∈nx u,v∈d1\/Wx nx v u
def Ord.snoc{nx:Int->List Int}{d:List Int}{b:Int}(h:Ord nx d)(k:∀ v∈nx b,v∈d\/Wx nx v b):Ord nx (d++[b]):=by
 intro d1 u d2 e v hv;rcases List.eq_nil_or_concat d2 with rfl|⟨d3,x,rfl⟩
 ·have:=List.append_inj' (s₁:=d) (t₁:=[b]) (s₂:=d1) (t₂:=[u]) e rfl;obtain⟨rfl,e2⟩:=this;cases e2;exact k v hv
 ·have e':d++[b]=(d1++u::d3)++[x]:=by rw[e];simp
  obtain⟨e1,e2⟩:=List.append_inj' e' rfl;exact h d1 u d3 e1 v hv
structure Lv(nx:Int->List Int)(s t:DS):Prop where
 bg:∀ c,Bg s c->Bg t c
 dn:∀ c∈t.2,Bg t c
 nd:t.2.Nodup
 ord:Ord nx t.2
 open_:∀ c,Bg t c->c∈t.2\/Bg s c/\c∉s.2
 old:∀ c∈t.2,c∈s.2\/¬Bg s c
 keep:∀ c∈s.2,c∈t.2
def Lv.refl{nx:Int->List Int}{s:DS}(dn:∀ c∈s.2,Bg s c)(nd:s.2.Nodup)(ord:Ord nx s.2):Lv nx s s:=
 ⟨fun _ h=>h,dn,nd,ord,fun c h=>by by_cases e:c∈s.2<;>simp[e,h],fun c h=> .inl h,fun _ h=>h⟩
def Lv.trans{nx:Int->List Int}{s t u:DS}(a:Lv nx s t)(b:Lv nx t u):Lv nx s u where
 bg:=fun c h=>b.bg c (a.bg c h)
 dn:=b.dn
 nd:=b.nd
 ord:=b.ord
 open_:=fun c h=>by
  rcases b.open_ c h with h|⟨h1,h2⟩
  ·exact .inl h
  ·rcases a.open_ c h1 with h|h
   ·exact absurd h h2
   ·exact .inr h
 old:=fun c h=>by
  rcases b.old c h with h|h
  ·exact a.old c h
  ·exact .inr fun e=>h (a.bg c e)
 keep:=fun c h=>b.keep c (a.keep c h)
def zUH{nx:Int->List Int}{N:Nat}(aq:∀ b,0<=b/\b<(N:Int)->∀ c∈nx b,0<=c/\c<(N:Int)):∀ (n:Nat) (b:Int) (s:DS),Bp N s.1<=n->0<=b/\b<(N:Int)->
  (∀ c∈s.2,Bg s c)->s.2.Nodup->Ord nx s.2->(∀ c,Bg s c->c∈s.2\/Wx nx c b)->Lv nx s (ZO nx n b s):=by
 intro n;induction n with
 |zero=>intro b s h hb dn nd ord hw;exact Lv.refl dn nd ord
 |succ n ih=>
  intro b s h hb dn nd ord hw;by_cases aR:Bg s b
  ·rw[zCM aR];exact Lv.refl dn nd ord
  ·have bD:s.1.lookup b=none:=by
    unfold Bg at aR;cases hq:s.1.lookup b with
    |none=>rfl
    |some w=>rw[hq]at aR;exact absurd rfl aR
   have aD:=zFr (v:=(s.1.length:Int)) bD hb;have go:∀ (l:List Int) (t:DS),Bp N t.1<=n->(∀ c∈l,c∈nx b)->(∀ c∈t.2,Bg t c)->t.2.Nodup->Ord nx t.2->(∀ c,Bg t c->c∈t.2\/Wx nx c b)->Lv nx t (l.foldl (fun(t:DS) (c:Int)=>ZO nx n c t) t):=by
    intro l;induction l with
    |nil=>intro t _ _ dn nd ord _;exact Lv.refl dn nd ord
    |cons x l cj=>
     intro t ht hl dn nd ord hw;have Ie:=hl x (by simp);have hx:=ih x t ht (aq b hb x Ie) dn nd ord (fun c hc=>(hw c hc).imp id fun w=> .step w Ie);refine hx.trans (cj _ (QM (zDe fun c hc=>hx.bg c hc) ht) (fun c hc=>hl c (by simp[hc])) hx.dn hx.nd hx.ord fun c hc=> ?_);rcases hx.open_ c hc with h|⟨h1,h2⟩
     ·exact .inl h
     ·rcases hw c h1 with h|h
      ·exact absurd h h2
      ·exact .inr h
   have My:∀ c∈s.2,Bg (s.1++[(b,(s.1.length:Int))],s.2) c:=fun c hc=>zA5.2 (.inl (dn c hc));have Mz:∀ c,Bg (s.1++[(b,(s.1.length:Int))],s.2) c->c∈s.2\/Wx nx c b:=fun c hc=>by
    rcases zA5.1 hc with h|rfl
    ·exact hw c h
    ·exact .inr .here
   have k:=go (nx b) (s.1++[(b,(s.1.length:Int))],s.2) (by simp only;omega) (fun c hc=>hc) My nd ord Mz;have k2:=zER (nx:=nx) (n:=n) aq (nx b) (s.1++[(b,(s.1.length:Int))],s.2) (by simp only;omega) (aq b hb);have hu:ZO nx (n+1) b s=(((nx b).foldl (fun(t:DS) (c:Int)=>ZO nx n c t) (s.1++[(b,(s.1.length:Int))],s.2)).1,((nx b).foldl (fun(t:DS) (c:Int)=>ZO nx n c t) (s.1++[(b,(s.1.length:Int))],s.2)).2++[b]):=by
    conv=>lhs;unfold ZO
    rw[QC (by rw[bD];exact Bool.noConfusion)]
   have aU:YI nx n (nx b) (s.1++[(b,(s.1.length:Int))],s.2)=(nx b).foldl (fun(t:DS) (c:Int)=>ZO nx n c t) (s.1++[(b,(s.1.length:Int))],s.2):=rfl;rw[aU]at k2;rw[hu];generalize(nx b).foldl (fun(t:DS) (c:Int)=>ZO nx n c t) (s.1++[(b,(s.1.length:Int))],s.2)=t at k k2 |-;have gP:b∉s.2:=fun e=>aR (dn b e);have aW:Bg (s.1++[(b,(s.1.length:Int))],s.2) b:=zA5.2 (.inr rfl);have MA:b∉t.2:=fun e=>by
    rcases k.old b e with h|h
    ·exact gP h
    ·exact h aW
   have Ig:∀ c,Bg t c->c∈t.2\/c=b\/Bg s c/\c∉s.2:=fun c hc=>by
    rcases k.open_ c hc with h|⟨h1,h2⟩
    ·exact .inl h
    ·rcases zA5.1 h1 with h|h
     ·exact .inr (.inr ⟨h,h2⟩)
     ·exact .inr (.inl h)
   refine⟨fun c h=>k.bg c (zA5.2 (.inl h)),fun c hc=> ?_,?_,k.ord.snoc fun v hv=> ?_,fun c hc=> ?_,fun c hc=> ?_,fun c hc=> ?_⟩
   ·simp only[Qf,QO]at hc;rcases hc with h|rfl
    ·exact k.dn c h
    ·exact k.bg _ aW
   ·simp only;rw[List.nodup_append];exact⟨k.nd,by simp,fun a ha c hc=>by rw[QO]at hc;subst hc;exact fun e=>MA (e▸ha)⟩
   ·rcases Ig v (k2.all v hv)with h|rfl|⟨h1,h2⟩
    ·exact .inl h
    ·exact .inr .here
    ·rcases hw v h1 with h|h
     ·exact absurd h h2
     ·exact .inr h
   ·simp only[Qf,QO];rcases Ig c hc with h|h|h
    ·exact .inl (.inl h)
    ·exact .inl (.inr h)
    ·exact .inr h
   ·simp only[Qf,QO]at hc;rcases hc with h|rfl
    ·rcases k.old c h with h|h
     ·exact .inl h
     ·exact .inr fun e=>h (zA5.2 (.inl e))
    ·exact .inr aR
   ·simp only[Qf];exact .inl (k.keep c hc)
def zKd{nx:Int->List Int}{N:Nat}(aq:∀ b,0<=b/\b<(N:Int)->∀ c∈nx b,0<=c/\c<(N:Int)){a:Int}(ha:0<=a/\a<(N:Int)):
  (YI nx N [a] ([],[])).2.Nodup/\Ord nx (YI nx N [a] ([],[])).2/\∃ d,(YI nx N [a] ([],[])).2=d++[a]:=by
 have e:YI nx N [a] ([],[])=ZO nx N a ([],[]):=rfl;have no:∀ d,¬Bg (([],[]):DS) d:=fun d h=>by unfold Bg at h;exact Bool.noConfusion h
 have k:=zUH (nx:=nx) aq N a ([],[]) (zGD _ _) ha (fun c h=>by cases h) .nil (fun d1 u d2 e=>by cases d1<;>cases e) (fun c h=>absurd h (no c));rw[e];refine⟨k.nd,k.ord,?_⟩;obtain⟨n,rfl⟩:∃ n,N=n+1:=⟨N-1,ω⟩;unfold ZO;rw[QC (by simp)];exact⟨_,rfl⟩
def zNc(l:List Int)(hn:l.Nodup):∀ i,i+1<(Zv l).length->(Zv l).getD i 0<(Zv l).getD (i+1) 0:=by
 intro i hi;have hp:(Zv l).Pairwise (fun a b=>decide (a<=b)=true):=List.pairwise_mergeSort (fun a b c h1 h2=>by simp only[Qc]at *;omega) (fun a b=>by simp only[GM,Qc];omega) l;have hd:(Zv l).Nodup:=(JR l _).nodup_iff.2 hn;have h1:=List.pairwise_iff_getElem.1 hp i (i+1) ω hi ω;have h2:(Zv l)[i]≠(Zv l)[i+1]:=fun e=>by
  have:=(List.getElem_inj hd).1 e;omega
 simp only[Qc]at h1;simp only[QD,QB hi,QB (show i<(Zv l).length by omega),GG];omega
def zCU{T:List WF}{F:List We}{f:Int}(h:(zF T F f 0).2=0):
  (zh T F f).1.length=(yY T F f).1.length/\(zh T F f).1.length<=16/\(∃ l,(zh T F f).1=0::l)/\(∀ c,c∈(yY T F f).1->c∈(zh T F f).1)/\
  (∀ n,n+1<(yY T F f).1.length->(yY T F f).1.getD n 0<(yY T F f).1.getD (n+1) 0)/\(∀ c∈(zh T F f).1,0<=c/\c<((zF T F f 0).1.length:Int))/\
  (∀ i k,i<(zh T F f).1.length->k<(zh T F f).1.length->(zh T F f).1.getD k 0∈W5 (zF T F f 0).1 ((zh T F f).1.getD i 0)->¬Wx (W5 (zF T F f 0).1) ((zh T F f).1.getD k 0) ((zh T F f).1.getD i 0)->i<k):=by
 obtain⟨_,bN,_,_⟩:=Zh h;obtain⟨hlen,aq⟩:=Zw h;have bE:∀ c∈([0]:List Int),0<=c/\c<((zF T F f 0).1.length:Int):=fun c hc=>by
  rw[QO]at hc;subst hc;exact⟨Q1 _,bN⟩
 obtain⟨nd,ord,d,hd⟩:=zKd aq (bE 0 (by simp));have hl:=zGa aq [0] bE;have eO:(zh T F f).1=(zAb T F f).reverse:=by unfold zh;rw[QC (by rw[h];exact fun e=>e rfl)]
 have eR:(yY T F f).1=Zv (zAb T F f):=by unfold yY;rw[QC (by rw[h];exact fun e=>e rfl)]
 have eP:zAb T F f=(YI (W5 (zF T F f 0).1) (zF T F f 0).1.length [0] ([],[])).2:=rfl;have az:∀ c,c∈zAb T F f->0<=c/\c<((zF T F f 0).1.length:Int):=fun c hc=>by
  rw[eP,zM3 aq bE]at hc;obtain⟨a,ha,w⟩:=hc;have Ih:=bE a ha;clear ha;induction w with
  |here=>exact Ih
  |step _ hd ih=>exact aq _ ih _ hd
 rw[<-eP]at nd ord hd hl;rw[eO,eR];generalize zAb T F f=l at *;refine⟨by rw[List.length_reverse,zNS],by rw[List.length_reverse];omega,⟨d.reverse,by rw[hd];simp⟩,fun c hc=>by rw[List.mem_reverse];exact zEK.1 hc,zNc l nd,fun c hc=>az c (List.mem_reverse.1 hc),fun i k hi hk he hw=> ?_⟩;rw[List.length_reverse]at hi hk;have ei:l.reverse.getD i 0=l.getD (l.length-1-i) 0:=by
  rw[QD,List.getElem?_reverse hi,QD]
 have ek:l.reverse.getD k 0=l.getD (l.length-1-k) 0:=by
  rw[QD,List.getElem?_reverse hk,QD]
 rw[ei,ek]at he hw;have cN:l.length-1-i<l.length:=ω
 have aU:l.length-1-k<l.length:=ω
 have cO:l=l.take (l.length-1-i)++l.getD (l.length-1-i) 0::l.drop (l.length-1-i+1):=by
  conv=>lhs;rw[<-GR (l.length-1-i) l,GB cN]
  simp[List.getD,QB cN]
 rcases ord _ _ _ cO _ he with hm|hm
 ·obtain⟨j,hj,e⟩:=JZ.1 hm;rw[Qp]at hj;rw[List.getElem_take]at e;have e2:l.getD (l.length-1-k) 0=l[l.length-1-k]:=by simp[List.getD,QB aU]
  rw[e2]at e;have:=(List.getElem_inj nd).1 e;omega
 ·exact absurd hm hw
def zVD{n:Int}(h:(Lit.int .u8 n).wf=true):0<=n/\n<=255:=by
 simp[Lit.wf,IntKind.wrap,IntKind.signed,IntKind.bits]at h;have h1:IntKind.min .u8=0:=by decide
 have h2:IntKind.max .u8=255:=by decide
 omega
def zT6{l:List Value}(h:l.length=2):∃ a b,l=[a,b]:=by
 match l,h with
 |[a,b],_=>exact⟨a,b,rfl⟩
def zVM{l:List Value}(h:l.length=4):∃ a b c d,l=[a,b,c,d]:=by
 match l,h with
 |[a,b,c,d],_=>exact⟨a,b,c,d,rfl⟩
def zVi{l:List Value}(h:l.length=5):∃ a b c d e,l=[a,b,c,d,e]:=by
 match l,h with
 |[a,b,c,d,e],_=>exact⟨a,b,c,d,e,rfl⟩
def zVj{l:List Value}(h:l.length=7):∃ a b c d e f g,l=[a,b,c,d,e,f,g]:=by
 match l,h with
 |[a,b,c,d,e,f,g],_=>exact⟨a,b,c,d,e,f,g,rfl⟩
section
variable {H:Type}{h:WA}
def zRX(cs:List Value)(d:DataW H)(r:Rd Tryz.prog h 130 cs d)(hw:BS Tryz.prog 130 d):∃ a,RTy h cs a:=by
 obtain⟨hl,hr⟩:=YL r Tryz.underlying130 hw;have hc:Tryz.prog.cellsOf 130=4:=by kernel_rfl
 rw[hc]at hl;obtain⟨x0,x1,x2,x3,rfl⟩:∃ x0 x1 x2 x3,cs=[x0,x1,x2,x3]:=by
  exact zVM hl
 obtain⟨d0,r0,w0⟩:=hr 0 _ rfl;have c0:Tryz.prog.cellsOf 5=1:=by kernel_rfl
 replace r0:Rd Tryz.prog h 5 (([x0,x1,x2,x3].drop 0).take (Tryz.prog.cellsOf 5)) d0:=r0;replace w0:BS Tryz.prog 5 d0:=w0;rw[c0]at r0;replace r0:Rd Tryz.prog h 5 [x0] d0:=r0;obtain⟨d1,r1,w1⟩:=hr 1 _ rfl;have c1:Tryz.prog.cellsOf 3=1:=by kernel_rfl
 replace r1:Rd Tryz.prog h 3 (([x0,x1,x2,x3].drop 1).take (Tryz.prog.cellsOf 3)) d1:=r1;replace w1:BS Tryz.prog 3 d1:=w1;rw[c1]at r1;replace r1:Rd Tryz.prog h 3 [x1] d1:=r1;obtain⟨d2,r2,w2⟩:=hr 2 _ rfl;have c2:Tryz.prog.cellsOf 3=1:=by kernel_rfl
 replace r2:Rd Tryz.prog h 3 (([x0,x1,x2,x3].drop 2).take (Tryz.prog.cellsOf 3)) d2:=r2;replace w2:BS Tryz.prog 3 d2:=w2;rw[c2]at r2;replace r2:Rd Tryz.prog h 3 [x2] d2:=r2;obtain⟨d3,r3,w3⟩:=hr 3 _ rfl;have c3:Tryz.prog.cellsOf 27=1:=by kernel_rfl
 replace r3:Rd Tryz.prog h 27 (([x0,x1,x2,x3].drop 3).take (Tryz.prog.cellsOf 27)) d3:=r3;replace w3:BS Tryz.prog 27 d3:=w3;rw[c3]at r3;replace r3:Rd Tryz.prog h 27 [x3] d3:=r3;obtain⟨k,e0,f0⟩:=Z7 r0 Tryz.underlying5;cases e0;obtain⟨e,e1,f1⟩:=Z7 r1 Tryz.underlying3;cases e1;obtain⟨m,e2,f2⟩:=Z7 r2 Tryz.underlying3;cases e2;obtain⟨va,l,e3,s3,b3,_⟩:=zGM r3 Tryz.underlying27 Tryz.underlying3 (by kernel_rfl) (by decide+kernel) w3;cases e3;exact⟨⟨k,e,m,l⟩,_,rfl,s3,by simp only;omega⟩
def zTc(cs:List Value)(d:DataW H)(r:Rd Tryz.prog h 74 cs d)(hw:BS Tryz.prog 74 d):∃ a,Bn h cs a:=by
 obtain⟨hl,hr⟩:=YL r Tryz.underlying74 hw;have hc:Tryz.prog.cellsOf 74=7:=by kernel_rfl
 rw[hc]at hl;obtain⟨x0,x1,x2,x3,x4,x5,x6,rfl⟩:∃ x0 x1 x2 x3 x4 x5 x6,cs=[x0,x1,x2,x3,x4,x5,x6]:=by
  exact zVj hl
 obtain⟨d0,r0,w0⟩:=hr 0 _ rfl;have c0:Tryz.prog.cellsOf 5=1:=by kernel_rfl
 replace r0:Rd Tryz.prog h 5 (([x0,x1,x2,x3,x4,x5,x6].drop 0).take (Tryz.prog.cellsOf 5)) d0:=r0;replace w0:BS Tryz.prog 5 d0:=w0;rw[c0]at r0;replace r0:Rd Tryz.prog h 5 [x0] d0:=r0;obtain⟨d1,r1,w1⟩:=hr 1 _ rfl;have c1:Tryz.prog.cellsOf 3=1:=by kernel_rfl
 replace r1:Rd Tryz.prog h 3 (([x0,x1,x2,x3,x4,x5,x6].drop 1).take (Tryz.prog.cellsOf 3)) d1:=r1;replace w1:BS Tryz.prog 3 d1:=w1;rw[c1]at r1;replace r1:Rd Tryz.prog h 3 [x1] d1:=r1;obtain⟨d2,r2,w2⟩:=hr 2 _ rfl;have c2:Tryz.prog.cellsOf 3=1:=by kernel_rfl
 replace r2:Rd Tryz.prog h 3 (([x0,x1,x2,x3,x4,x5,x6].drop 2).take (Tryz.prog.cellsOf 3)) d2:=r2;replace w2:BS Tryz.prog 3 d2:=w2;rw[c2]at r2;replace r2:Rd Tryz.prog h 3 [x2] d2:=r2;obtain⟨d3,r3,w3⟩:=hr 3 _ rfl;have c3:Tryz.prog.cellsOf 3=1:=by kernel_rfl
 replace r3:Rd Tryz.prog h 3 (([x0,x1,x2,x3,x4,x5,x6].drop 3).take (Tryz.prog.cellsOf 3)) d3:=r3;replace w3:BS Tryz.prog 3 d3:=w3;rw[c3]at r3;replace r3:Rd Tryz.prog h 3 [x3] d3:=r3;obtain⟨d4,r4,w4⟩:=hr 4 _ rfl;have c4:Tryz.prog.cellsOf 2=1:=by kernel_rfl
 replace r4:Rd Tryz.prog h 2 (([x0,x1,x2,x3,x4,x5,x6].drop 4).take (Tryz.prog.cellsOf 2)) d4:=r4;replace w4:BS Tryz.prog 2 d4:=w4;rw[c4]at r4;replace r4:Rd Tryz.prog h 2 [x4] d4:=r4;obtain⟨d5,r5,w5⟩:=hr 5 _ rfl;have c5:Tryz.prog.cellsOf 27=1:=by kernel_rfl
 replace r5:Rd Tryz.prog h 27 (([x0,x1,x2,x3,x4,x5,x6].drop 5).take (Tryz.prog.cellsOf 27)) d5:=r5;replace w5:BS Tryz.prog 27 d5:=w5;rw[c5]at r5;replace r5:Rd Tryz.prog h 27 [x5] d5:=r5;obtain⟨d6,r6,w6⟩:=hr 6 _ rfl;have c6:Tryz.prog.cellsOf 27=1:=by kernel_rfl
 replace r6:Rd Tryz.prog h 27 (([x0,x1,x2,x3,x4,x5,x6].drop 6).take (Tryz.prog.cellsOf 27)) d6:=r6;replace w6:BS Tryz.prog 27 d6:=w6;rw[c6]at r6;replace r6:Rd Tryz.prog h 27 [x6] d6:=r6;obtain⟨op,e0,f0⟩:=Z7 r0 Tryz.underlying5;cases e0;obtain⟨ty,e1,f1⟩:=Z7 r1 Tryz.underlying3;cases e1;obtain⟨a,e2,f2⟩:=Z7 r2 Tryz.underlying3;cases e2;obtain⟨b,e3,f3⟩:=Z7 r3 Tryz.underlying3;cases e3;obtain⟨n,e4,f4⟩:=Z7 r4 Tryz.underlying2;cases e4;obtain⟨va,la,e5,s5,b5,_⟩:=zGM r5 Tryz.underlying27 Tryz.underlying3 (by kernel_rfl) (by decide+kernel) w5;cases e5;obtain⟨vf,lf,e6,s6,b6,_⟩:=zGM r6 Tryz.underlying27 Tryz.underlying3 (by kernel_rfl) (by decide+kernel) w6;cases e6;exact⟨⟨op,ty,a,b,n,la,lf⟩,_,_,rfl,s5,s6,b5,b6,zVD f0⟩
def zUQ(cs:List Value)(d:DataW H)(r:Rd Tryz.prog h 70 cs d)(hw:BS Tryz.prog 70 d):∃ x:SK,cs=[.int .u8 x.kind,I x.a,I x.to,I x.aK]:=by
 obtain⟨hl,hr⟩:=YL r Tryz.underlying70 hw;have hc:Tryz.prog.cellsOf 70=4:=by kernel_rfl
 rw[hc]at hl;obtain⟨x0,x1,x2,x3,rfl⟩:∃ x0 x1 x2 x3,cs=[x0,x1,x2,x3]:=by
  exact zVM hl
 obtain⟨d0,r0,w0⟩:=hr 0 _ rfl;have c0:Tryz.prog.cellsOf 5=1:=by kernel_rfl
 replace r0:Rd Tryz.prog h 5 (([x0,x1,x2,x3].drop 0).take (Tryz.prog.cellsOf 5)) d0:=r0;replace w0:BS Tryz.prog 5 d0:=w0;rw[c0]at r0;replace r0:Rd Tryz.prog h 5 [x0] d0:=r0;obtain⟨d1,r1,w1⟩:=hr 1 _ rfl;have c1:Tryz.prog.cellsOf 3=1:=by kernel_rfl
 replace r1:Rd Tryz.prog h 3 (([x0,x1,x2,x3].drop 1).take (Tryz.prog.cellsOf 3)) d1:=r1;replace w1:BS Tryz.prog 3 d1:=w1;rw[c1]at r1;replace r1:Rd Tryz.prog h 3 [x1] d1:=r1;obtain⟨d2,r2,w2⟩:=hr 2 _ rfl;have c2:Tryz.prog.cellsOf 3=1:=by kernel_rfl
 replace r2:Rd Tryz.prog h 3 (([x0,x1,x2,x3].drop 2).take (Tryz.prog.cellsOf 3)) d2:=r2;replace w2:BS Tryz.prog 3 d2:=w2;rw[c2]at r2;replace r2:Rd Tryz.prog h 3 [x2] d2:=r2;obtain⟨d3,r3,w3⟩:=hr 3 _ rfl;have c3:Tryz.prog.cellsOf 3=1:=by kernel_rfl
 replace r3:Rd Tryz.prog h 3 (([x0,x1,x2,x3].drop 3).take (Tryz.prog.cellsOf 3)) d3:=r3;replace w3:BS Tryz.prog 3 d3:=w3;rw[c3]at r3;replace r3:Rd Tryz.prog h 3 [x3] d3:=r3;obtain⟨k,e0,f0⟩:=Z7 r0 Tryz.underlying5;cases e0;obtain⟨a,e1,f1⟩:=Z7 r1 Tryz.underlying3;cases e1;obtain⟨t,e2,f2⟩:=Z7 r2 Tryz.underlying3;cases e2;obtain⟨e,e3,f3⟩:=Z7 r3 Tryz.underlying3;cases e3;exact⟨⟨k,a,t,e⟩,rfl⟩
def zQb(cs:List Value)(d:DataW H)(r:Rd Tryz.prog h 72 cs d)(hw:BS Tryz.prog 72 d):∃ a,SB h cs a:=by
 obtain⟨hl,hr⟩:=YL r Tryz.underlying72 hw;have hc:Tryz.prog.cellsOf 72=5:=by kernel_rfl
 rw[hc]at hl;obtain⟨x0,x1,x2,x3,x4,rfl⟩:∃ x0 x1 x2 x3 x4,cs=[x0,x1,x2,x3,x4]:=by
  exact zVi hl
 obtain⟨d0,r0,w0⟩:=hr 0 _ rfl;have c0:Tryz.prog.cellsOf 68=1:=by kernel_rfl
 replace r0:Rd Tryz.prog h 68 (([x0,x1,x2,x3,x4].drop 0).take (Tryz.prog.cellsOf 68)) d0:=r0;replace w0:BS Tryz.prog 68 d0:=w0;rw[c0]at r0;replace r0:Rd Tryz.prog h 68 [x0] d0:=r0;obtain⟨d1,r1,w1⟩:=hr 1 _ rfl;have c1:Tryz.prog.cellsOf 70=4:=by kernel_rfl
 replace r1:Rd Tryz.prog h 70 (([x0,x1,x2,x3,x4].drop 1).take (Tryz.prog.cellsOf 70)) d1:=r1;replace w1:BS Tryz.prog 70 d1:=w1;rw[c1]at r1;replace r1:Rd Tryz.prog h 70 [x1,x2,x3,x4] d1:=r1;obtain⟨vi,li,e0,s0,b0⟩:=zBK r0 Tryz.underlying68 (c:=7) (by kernel_rfl) (by decide+kernel) w0 zTc;cases e0;obtain⟨en,e1⟩:=zUQ _ _ r1 w1;cases e1;exact⟨⟨li,en⟩,_,rfl,s0,b0⟩
def zSq(cs:List Value)(d:DataW H)(r:Rd Tryz.prog h 67 cs d)(hw:BS Tryz.prog 67 d):∃ a,RFn h cs a:=by
 obtain⟨hl,hr⟩:=YL r Tryz.underlying67 hw;have hc:Tryz.prog.cellsOf 67=2:=by kernel_rfl
 rw[hc]at hl;obtain⟨x0,x1,rfl⟩:∃ x0 x1,cs=[x0,x1]:=by
  exact zT6 hl
 obtain⟨d0,r0,w0⟩:=hr 0 _ rfl;have c0:Tryz.prog.cellsOf 3=1:=by kernel_rfl
 replace r0:Rd Tryz.prog h 3 (([x0,x1].drop 0).take (Tryz.prog.cellsOf 3)) d0:=r0;replace w0:BS Tryz.prog 3 d0:=w0;rw[c0]at r0;replace r0:Rd Tryz.prog h 3 [x0] d0:=r0;obtain⟨d1,r1,w1⟩:=hr 1 _ rfl;have c1:Tryz.prog.cellsOf 65=1:=by kernel_rfl
 replace r1:Rd Tryz.prog h 65 (([x0,x1].drop 1).take (Tryz.prog.cellsOf 65)) d1:=r1;replace w1:BS Tryz.prog 65 d1:=w1;rw[c1]at r1;replace r1:Rd Tryz.prog h 65 [x1] d1:=r1;obtain⟨sg,e0,f0⟩:=Z7 r0 Tryz.underlying3;cases e0;obtain⟨vb,lb,e1,s1,b1⟩:=zBK r1 Tryz.underlying65 (c:=5) (by kernel_rfl) (by decide+kernel) w1 zQb;cases e1;exact⟨⟨sg,lb⟩,_,rfl,s1,b1⟩
def zSD(cs:List Value)(d:DataW H)(r:Rd Tryz.prog h 25 cs d)(hw:BS Tryz.prog 25 d):∃ vt vf T F,cs=[vt,vf]/\BB h vt T/\BA h vf F/\(T.length:Int)<=1152921504606846976/\(F.length:Int)<=1152921504606846976:=by
 obtain⟨hl,hr⟩:=YL r Tryz.underlying25 hw;have hc:Tryz.prog.cellsOf 25=2:=by kernel_rfl
 rw[hc]at hl;obtain⟨x0,x1,rfl⟩:∃ x0 x1,cs=[x0,x1]:=by
  exact zT6 hl
 obtain⟨d0,r0,w0⟩:=hr 0 _ rfl;have c0:Tryz.prog.cellsOf 22=1:=by kernel_rfl
 replace r0:Rd Tryz.prog h 22 (([x0,x1].drop 0).take (Tryz.prog.cellsOf 22)) d0:=r0;replace w0:BS Tryz.prog 22 d0:=w0;rw[c0]at r0;replace r0:Rd Tryz.prog h 22 [x0] d0:=r0;obtain⟨d1,r1,w1⟩:=hr 1 _ rfl;have c1:Tryz.prog.cellsOf 23=1:=by kernel_rfl
 replace r1:Rd Tryz.prog h 23 (([x0,x1].drop 1).take (Tryz.prog.cellsOf 23)) d1:=r1;replace w1:BS Tryz.prog 23 d1:=w1;rw[c1]at r1;replace r1:Rd Tryz.prog h 23 [x1] d1:=r1;obtain⟨vt,lt,e0,s0,b0⟩:=zBK r0 Tryz.underlying22 (c:=4) (by kernel_rfl) (by decide+kernel) w0 zRX;cases e0;obtain⟨vf,lf,e1,s1,b1⟩:=zBK r1 Tryz.underlying23 (c:=2) (by kernel_rfl) (by decide+kernel) w1 zSq;cases e1;exact⟨_,_,lt,lf,rfl,s0,s1,b0,b1⟩
end
inductive B3(nx:Int->List Int)(x:Int):Nat->Int->Prop
 |here {k:Nat}:(0:Int)≠x->B3 nx x k 0
 |step {k:Nat} {b c:Int}:B3 nx x k b->c∈nx b->c≠x->B3 nx x (k+1) c
def Av(nx:Int->List Int)(x b:Int):Prop:=∃ k,B3 nx x k b
def B3.mono{nx:Int->List Int}{x b:Int}{k m:Nat}(h:B3 nx x k b)(hm:k<=m):B3 nx x m b:=by
 induction h generalizing m with
 |here h=>exact .here h
 |step _ hc ah ih=>
  obtain⟨j,rfl⟩:∃ j,m=j+1:=⟨m-1,ω⟩;exact .step (ih ω) hc ah
def B3.ne{nx:Int->List Int}{x b:Int}{k:Nat}(h:B3 nx x k b):b≠x:=by
 cases h with
 |here h=>exact h
 |step _ _ h=>exact h
def B3.way{nx:Int->List Int}{x b:Int}{k:Nat}(h:B3 nx x k b):Wx nx 0 b:=by
 induction h with
 |here=>exact .here
 |step _ hc _ ih=>exact .step ih hc
def B3.split{nx:Int->List Int}{x b c:Int}{k:Nat}(hb:(0:Int)≠b)(h:B3 nx x k c):B3 nx b k c\/B3 nx x k b:=by
 induction h with
 |here=>exact .inl (.here hb)
 |step h1 hc ah ih=>
  rename_i k d e;rcases ih with h|h
  ·by_cases he:e=b
   ·subst he;exact .inr (.step h1 hc ah)
   ·exact .inl (.step h hc he)
  ·exact .inr (h.mono (GU _))
def B3.split'{nx:Int->List Int}{x b c:Int}{k:Nat}(hb:(0:Int)≠b)(Ii:c≠b)(h:B3 nx x (k+1) c):B3 nx b (k+1) c\/B3 nx x k b:=by
 cases h with
 |here=>exact .inl (.here hb)
 |step h1 hc ah=>
  rcases h1.split hb with h|h
  ·exact .inl (.step h hc Ii)
  ·exact .inr h
def BU(nx:Int->List Int)(y b:Int):Prop:=¬Av nx y b
def BU.self(nx:Int->List Int)(b:Int):BU nx b b:=fun⟨_,h⟩=>h.ne rfl
def BU.pred{nx:Int->List Int}{y a b:Int}(h:BU nx y b)(hy:y≠b)(hb:b∈nx a):BU nx y a:=fun⟨k,w⟩=>h ⟨k+1,.step w hb (Ne.symm hy)⟩
structure Rpo(nx:Int->List Int)(pos:Int->Int):Prop where
 zero:pos 0=0
 nn:∀ b,Wx nx 0 b->0<=pos b
 inj:∀ a b,Wx nx 0 a->Wx nx 0 b->pos a=pos b->a=b
 par:∀ b,Wx nx 0 b->b≠0->∃ a,Wx nx 0 a/\b∈nx a/\pos a<pos b
def Rpo.dom{nx:Int->List Int}{pos:Int->Int}(r:Rpo nx pos):∀ (n:Nat) (b y:Int),pos b<=n->Wx nx 0 b->BU nx y b->pos y<=pos b:=by
 intro n;induction n with
 |zero=>
  intro b y hn w d;have hb:b=0:=r.inj b 0 w .here (by have:=r.nn b w;rw[r.zero];omega);subst hb;by_cases e:(0:Int)=y
  ·rw[<-e];exact Q1 _
  ·exact absurd ⟨0,.here e⟩ d
 |succ n ih=>
  intro b y hn w d;by_cases e:y=b
  ·rw[e];exact Q1 _
  ·by_cases hb:b=0
   ·subst hb;exact absurd ⟨0,.here (Ne.symm e)⟩ d
   ·obtain⟨a,wa,dJ,hp⟩:=r.par b w hb;have:=ih a y ω wa (d.pred e dJ);omega
def Rpo.dom_le{nx:Int->List Int}{pos:Int->Int}(r:Rpo nx pos){b y:Int}(w:Wx nx 0 b)(d:BU nx y b):pos y<=pos b:=r.dom (pos b).toNat b y (by have:=r.nn b w;omega) w d
inductive Bv(p:Int->Int)(y:Int):Int->Prop
 |here:Bv p y y
 |up {b:Int}:b≠0->p b≠ -1->Bv p y (p b)->Bv p y b
def Bv.trans{p:Int->Int}{x y b:Int}(h:Bv p x y)(k:Bv p y b):Bv p x b:=by
 induction k with
 |here=>exact h
 |up h1 h2 _ ih=>exact .up h1 h2 ih
def Bv.zero{p:Int->Int}{x:Int}(h:Bv p x 0):x=0:=by
 cases h with
 |here=>rfl
 |up h _ _=>exact absurd rfl h
structure Rl(nx:Int->List Int)(pos p:Int->Int):Prop where
 zero:p 0=0
 up:∀ b,Wx nx 0 b->b≠0->p b≠ -1->Wx nx 0 (p b)/\p (p b)≠ -1/\pos (p b)<pos b
 sound:∀ b,Wx nx 0 b->b≠0->p b≠ -1->∀ y,BU nx y b->y≠b->BU nx y (p b)
def Rl.le{nx:Int->List Int}{pos p:Int->Int}(g:Rl nx pos p){x b:Int}(h:Bv p x b)(w:Wx nx 0 b):Wx nx 0 x/\pos x<=pos b/\(p b≠ -1->p x≠ -1):=by
 induction h with
 |here=>exact⟨w,Q1 _,id⟩
 |up h1 h2 _ ih=>
  obtain⟨u1,u2,u3⟩:=g.up _ w h1 h2;obtain⟨i1,i2,i3⟩:=ih u1;exact⟨i1,ω,fun _=>i3 u2⟩
def V4{nx:Int->List Int}{pos p:Int->Int}(r:Rpo nx pos)(g:Rl nx pos p):∀ (n:Nat) (b y:Int),pos b<=n->Wx nx 0 b->p b≠ -1->BU nx y b->Bv p y b:=by
 intro n;induction n with
 |zero=>
  intro b y hn w hp d;have hb:b=0:=r.inj b 0 w .here (by have:=r.nn b w;rw[r.zero];omega);subst hb;by_cases e:(0:Int)=y
  ·rw[<-e];exact .here
  ·exact absurd ⟨0,.here e⟩ d
 |succ n ih=>
  intro b y hn w hp d;by_cases e:y=b
  ·rw[e];exact .here
  ·by_cases hb:b=0
   ·subst hb;exact absurd ⟨0,.here (Ne.symm e)⟩ d
   ·obtain⟨u1,u2,u3⟩:=g.up b w hb hp;exact .up hb hp (ih (p b) y ω u1 u2 (g.sound b w hb hp y d e))
structure Mt(nx:Int->List Int)(pos p:Int->Int)(a b m:Int):Prop where
 way:Wx nx 0 m
 done:p m≠ -1
 left:Bv p m a
 right:Bv p m b
 dom:∀ y,BU nx y a->BU nx y b->BU nx y m
def Mt.same{nx:Int->List Int}{pos p:Int->Int}{a:Int}(w:Wx nx 0 a)(h:p a≠ -1):Mt nx pos p a a a:=⟨w,h,.here,.here,fun _ h _=>h⟩
def UC{nx:Int->List Int}{pos p:Int->Int}{a b m:Int}(r:Rpo nx pos)(g:Rl nx pos p)(w:Wx nx 0 a)(wb:Wx nx 0 b)(h:p a≠ -1)(aD:pos b<pos a)(k:Mt nx pos p (p a) b m):Mt nx pos p a b m:=by
 have ha:a≠0:=fun e=>by subst e;have:=r.nn b wb;rw[r.zero]at aD;omega
 refine⟨k.way,k.done,.up ha h k.left,k.right,fun y da db=> ?_⟩;have hy:y≠a:=fun e=>by subst e;have:=r.dom_le wb db;omega
 exact k.dom y (g.sound a w ha h y da hy) db
def Xx{nx:Int->List Int}{pos p:Int->Int}{a b m:Int}(r:Rpo nx pos)(g:Rl nx pos p)(w:Wx nx 0 a)(wb:Wx nx 0 b)(h:p b≠ -1)(aD:pos a<pos b)(k:Mt nx pos p a (p b) m):Mt nx pos p a b m:=by
 have hb:b≠0:=fun e=>by subst e;have:=r.nn a w;rw[r.zero]at aD;omega
 refine⟨k.way,k.done,k.left,.up hb h k.right,fun y da db=> ?_⟩;have hy:y≠b:=fun e=>by subst e;have:=r.dom_le w da;omega
 exact k.dom y da (g.sound b wb hb h y db hy)
def upd(p:Int->Int)(b v:Int):Int->Int:=fun c=>if c=b then v else p c
structure Best(nx:Int->List Int)(pos p:Int->Int)(b m:Int):Prop where
 way:Wx nx 0 m
 done:p m≠ -1
 lt:pos m<pos b
 anc:∀ a,Wx nx 0 a->b∈nx a->p a≠ -1->Bv p m a
 dom:∀ y,BU nx y b->y≠b->BU nx y m
def zTZ{nx:Int->List Int}{pos p:Int->Int}{b m:Int}(g:Rl nx pos p)(hb:b≠0)(wb:Wx nx 0 b)(k:Best nx pos p b m)(hm:m≠ -1):Rl nx pos (upd p b m):=by
 have qu:m≠b:=fun e=>by have:=k.lt;rw[e]at this;omega
 have keep:∀ c,p c≠ -1->upd p b m c≠ -1:=fun c h=>by unfold upd;split<;>assumption
 refine⟨by unfold upd;rw[QC (Ne.symm hb)];exact g.zero,fun c w hc hp=> ?_,fun c w hc hp y d hy=> ?_⟩
 ·by_cases e:c=b
  ·subst e;have:upd p c m c=m:=by unfold upd;rw[QJ rfl]
   rw[this];exact⟨k.way,keep m k.done,k.lt⟩
  ·have:upd p b m c=p c:=by unfold upd;rw[QC e]
   rw[this]at hp |-;obtain⟨u1,u2,u3⟩:=g.up c w hc hp;exact⟨u1,keep _ u2,u3⟩
 ·by_cases e:c=b
  ·subst e;have:upd p c m c=m:=by unfold upd;rw[QJ rfl]
   rw[this];exact k.dom y d hy
  ·have:upd p b m c=p c:=by unfold upd;rw[QC e]
   rw[this]at hp |-;exact g.sound c w hc hp y d hy
def zIQ{p:Int->Int}{b m x c:Int}(h:Bv (upd p b m) x c):Bv p x c\/(Bv (upd p b m) x b/\Bv p b c):=by
 induction h with
 |here=>exact .inl .here
 |up h1 h2 h3 ih=>
  rename_i c;by_cases e:c=b
  ·subst e;exact .inr ⟨.up h1 h2 h3,.here⟩
  ·have:upd p b m c=p c:=by unfold upd;rw[QC e]
   rw[this]at h2 ih;rcases ih with h|⟨h,k⟩
   ·exact .inl (.up h1 h2 h)
   ·exact .inr ⟨h,.up h1 h2 k⟩
def zRW{nx:Int->List Int}{pos p:Int->Int}{b m x c:Int}(g:Rl nx pos p)(wc:Wx nx 0 c)(aD:pos c<pos b)(h:Bv (upd p b m) x c):Bv p x c:=by
 rcases zIQ h with h|⟨_,k⟩
 ·exact h
 ·have:=(g.le k wc).2.1;omega
def Far(nx:Int->List Int)(p:Int->Int)(k:Nat)(c:Int):Prop:=∀ x,B3 nx x k c->p c≠ -1/\¬Bv p x c
def zD3{nx:Int->List Int}{pos p:Int->Int}{b m:Int}{k:Nat}(g:Rl nx pos p)(hb:b≠0)(wb:Wx nx 0 b)(bt:Best nx pos p b m)(hm:m≠ -1)(hk:∀ c,Far nx p k c):Far nx (upd p b m) (k+1) b:=by
 intro x hx;have hp:upd p b m b=m:=by unfold upd;rw[QJ rfl]
 refine⟨by rw[hp];exact hm,fun ha=> ?_⟩;cases hx with
 |here=>exact hb rfl
 |step h1 hc ah=>
  rename_i a;obtain⟨pa,na⟩:=hk a x h1;cases ha with
  |here=>exact ah rfl
  |up _ _ h3=>
   rw[hp]at h3;exact na ((zRW g bt.way bt.lt h3).trans (bt.anc a h1.way hc pa))
def zSQ{nx:Int->List Int}{pos p:Int->Int}{b m c:Int}{k:Nat}(g:Rl nx pos p)(hb:b≠0)(wb:Wx nx 0 b)(bt:Best nx pos p b m)(hm:m≠ -1)(hk:∀ c,Far nx p k c)(hc:Far nx p (k+1) c):Far nx (upd p b m) (k+1) c:=by
 by_cases e:c=b
 ·subst e;exact zD3 g hb wb bt hm hk
 ·intro x hx;obtain⟨pc,nc⟩:=hc x hx;refine⟨by unfold upd;rw[QC e];exact pc,fun ha=> ?_⟩;rcases zIQ ha with h|⟨h,h2⟩
  ·exact nc h
  ·rcases hx.split' (Ne.symm hb) e with h3|h3
   ·exact(hc b h3).2 h2
   ·exact(zD3 g hb wb bt hm hk x (h3.mono (GU _))).2 h
def zO5{nx:Int->List Int}{pos p:Int->Int}{b m:Int}{k:Nat}(g:Rl nx pos p)(hb:b≠0)(wb:Wx nx 0 b)(bt:Best nx pos p b m)(hm:m≠ -1)(hk:∀ c,Far nx p k c):∀ c,Far nx (upd p b m) k c:=by
 intro c x hx;obtain⟨pc,nc⟩:=hk c x hx;have self:B3 nx x k b->¬Bv (upd p b m) x b:=fun h=>(zD3 g hb wb bt hm hk x (h.mono (GU _))).2;by_cases e:c=b
 ·subst e;exact⟨by unfold upd;rw[QJ rfl];exact hm,self hx⟩
 ·refine⟨by unfold upd;rw[QC e];exact pc,fun ha=> ?_⟩;rcases zIQ ha with h|⟨h,h2⟩
  ·exact nc h
  ·rcases hx.split (Ne.symm hb)with h3|h3
   ·exact(hk c b h3).2 h2
   ·exact self h3 h
def zKr{nx:Int->List Int}{pos p q:Int->Int}{b:Int}(r:Rpo nx pos)(gp:Rl nx pos p)(gq:Rl nx pos q)(hp:∀ x c,Av nx x c->¬Bv p x c)(hq:∀ x c,Av nx x c->¬Bv q x c)(wb:Wx nx 0 b)(hb:b≠0)(pb:p b≠ -1)(qb:q b≠ -1):p b=q b:=by
 obtain⟨u1,u2,u3⟩:=gp.up b wb hb pb;obtain⟨v1,v2,v3⟩:=gq.up b wb hb qb;have dp:BU nx (p b) b:=fun h=>hp _ _ h (.up hb pb .here);have dq:BU nx (q b) b:=fun h=>hq _ _ h (.up hb qb .here);have h1:=gp.sound b wb hb pb (q b) dq (fun e=>by rw[e]at v3;omega);have h2:=gq.sound b wb hb qb (p b) dp (fun e=>by rw[e]at u3;omega);have:=r.dom_le u1 h1;have:=r.dom_le v1 h2;exact r.inj _ _ u1 v1 ω
def zH5{nx:Int->List Int}{N:Nat}(aq:∀ b,0<=b/\b<(N:Int)->∀ c∈nx b,0<=c/\c<(N:Int))(hN:0<N):∃ K,∀ x b,0<=x/\x<(N:Int)->Av nx x b->B3 nx x K b:=by
 have hb:∀ x b k,B3 nx x k b->0<=b/\b<(N:Int):=fun x b k h=>by
  induction h with
  |here=>omega
  |step _ hc _ ih=>exact aq _ ih _ hc
 have:∀ M:Nat,∃ K,∀ (i:Nat),i<M->Av nx ((i / N:Nat):Int) ((i % N:Nat):Int)->B3 nx ((i / N:Nat):Int) K ((i % N:Nat):Int):=by
  intro M;induction M with
  |zero=>exact⟨0,fun i h=>absurd h (GJ _)⟩
  |succ M ih=>
   obtain⟨K,hK⟩:=ih;by_cases h:Av nx ((M / N:Nat):Int) ((M % N:Nat):Int)
   ·obtain⟨k,hk⟩:=h;refine⟨max K k,fun i hi ha=> ?_⟩;by_cases e:i=M
    ·subst e;exact hk.mono ω
    ·exact(hK i ω ha).mono ω
   ·refine⟨K,fun i hi ha=> ?_⟩;by_cases e:i=M
    ·subst e;exact absurd ha h
    ·exact hK i ω ha
 obtain⟨K,hK⟩:=this (N*N);refine⟨K,fun x b hx ha=> ?_⟩;obtain⟨k,hk⟩:=ha;have eK:=hb x b k hk;obtain⟨i,rfl⟩:∃ i:Nat,x=i:=⟨x.toNat,ω⟩;obtain⟨j,rfl⟩:∃ j:Nat,b=j:=⟨b.toNat,ω⟩;have hi:i<N:=ω
 have hj:j<N:=ω
 have e1:(N*i+j) / N=i:=by rw[Nat.mul_add_div hN,Nat.div_eq_of_lt hj,JQ]
 have e2:(N*i+j) % N=j:=by rw[Nat.mul_add_mod,JD hj]
 have:=hK (N*i+j) (by
  have:N*(i+1)<=N*N:=Nat.mul_le_mul_left _ hi;rw[Nat.mul_succ]at this;omega)
 rw[e1,e2]at this;exact this ⟨k,hk⟩
end Go.Proofs.YtndffgfnndoifaaGreatDoor
