/- Walks of functions, plain laws; proves no statement. -/
import Derived.Test.YtmilpkdhbdgjfaaGreatDoorJb
set_option linter.all false
set_option maxHeartbeats 1000000
namespace Go.Proofs.YtmilpkdhbdgjfaaGreatDoor
open Go.Am
inductive Wr(nx:Int->List Int)(a:Int):Int->Prop
 |here:Wr nx a a
 |step {b c:Int}:Wr nx a b->c∈nx b->Wr nx a c
theorem Wr.trans{nx:Int->List Int}{a b c:Int}(h:Wr nx a b)(k:Wr nx b c):Wr nx a c:=by
 induction k with
 |here=>exact h
 |step _ hc ih=>exact .step ih hc
def Bg(s:DS)(c:Int):Prop:=(s.1.lookup c).isSome=true
theorem Y8{s:DS}{b v c:Int}{d:List Int}:Bg (s.1++[(b,v)],d) c↔Bg s c\/c=b:=by
 unfold Bg;rw[zAZ];cases h:s.1.lookup c with
 |some w=>simp
 |none=>by_cases e:c=b<;>simp[e]
structure SB(nx:Int->List Int)(l:List Int)(s s':DS):Prop where
 mono:∀ c,Bg s c->Bg s' c
 keep:∀ c∈s.2,c∈s'.2
 all:∀ c∈l,Bg s' c
 way:∀ c,Bg s' c->Bg s c\/∃ a∈l,Wr nx a c
 done:∀ c,Bg s' c->Bg s c\/c∈s'.2/\∀ d∈nx c,Bg s' d
 of:∀ c∈s'.2,c∈s.2\/Bg s' c
theorem SB.nil(nx:Int->List Int)(s:DS):SB nx [] s s:=
 ⟨fun _ h=>h,fun _ h=>h,(fun _ h=>by cases h),fun _ h=> .inl h,fun _ h=> .inl h,fun _ h=> .inl h⟩
theorem SB.cons{nx:Int->List Int}{x:Int}{l:List Int}{s t u:DS}(a:SB nx [x] s t)(b:SB nx l t u):SB nx (x::l) s u where
 mono:=fun c h=>b.mono c (a.mono c h)
 keep:=fun c h=>b.keep c (a.keep c h)
 all:=fun c h=>by
  rcases GI.1 h with rfl|h
  ·exact b.mono _ (a.all _ (by simp))
  ·exact b.all _ h
 way:=fun c h=>by
  rcases b.way c h with h|⟨y,hy,w⟩
  ·rcases a.way c h with h|⟨y,hy,w⟩
   ·exact .inl h
   ·exact .inr ⟨y,by simp at hy;simp[hy],w⟩
  ·exact .inr ⟨y,by simp[hy],w⟩
 done:=fun c h=>by
  rcases b.done c h with h|h
  ·rcases a.done c h with h|⟨h,k⟩
   ·exact .inl h
   ·exact .inr ⟨b.keep _ h,fun d hd=>b.mono _ (k d hd)⟩
  ·exact .inr h
 of:=fun c h=>by
  rcases b.of c h with h|h
  ·rcases a.of c h with h|h
   ·exact .inl h
   ·exact .inr (b.mono _ h)
  ·exact .inr h
theorem zMX{nx:Int->List Int}{N:Nat}(hin:∀ b,0<=b/\b<(N:Int)->∀ c∈nx b,0<=c/\c<(N:Int)):∀ (n:Nat) (b:Int) (s:DS),BZ N s.1<=n->0<=b/\b<(N:Int)->SB nx [b] s (ZE nx n b s):=by
 intro n;induction n with
 |zero=>
  intro b s h hb;have hbb:Bg s b:=zHu (Nat.le_zero.1 h) hb;exact⟨fun _ h=>h,fun _ h=>h,fun c hc=>by simp at hc;subst hc;exact hbb,fun _ h=> .inl h,fun _ h=> .inl h,fun _ h=> .inl h⟩
 |succ n ih=>
  intro b s h hb;by_cases hbb:Bg s b
  ·rw[zBN hbb];exact⟨fun _ h=>h,fun _ h=>h,fun c hc=>by simp at hc;subst hc;exact hbb,fun _ h=> .inl h,fun _ h=> .inl h,fun _ h=> .inl h⟩
  ·have hnone:s.1.lookup b=none:=by
    unfold Bg at hbb;cases hq:s.1.lookup b with
    |none=>rfl
    |some w=>rw[hq]at hbb;exact absurd rfl hbb
   have hlt:=zES (v:=(s.1.length:Int)) hnone hb;have go:∀ (l:List Int) (t:DS),BZ N t.1<=n->(∀ c∈l,0<=c/\c<(N:Int))->SB nx l t (l.foldl (fun(t:DS) (c:Int)=>ZE nx n c t) t):=by
    intro l;induction l with
    |nil=>intro t _ _;exact .nil _ _
    |cons x l ihl=>
     intro t ht hl;have hx:=ih x t ht (hl x (by simp));exact hx.cons (ihl _ (QN (zCK fun c hc=>hx.mono c hc) ht) fun c hc=>hl c (by simp[hc]))
   have k:=go (nx b) (s.1++[(b,(s.1.length:Int))],s.2) (by simp only;omega) (hin b hb);have hu:ZE nx (n+1) b s=(((nx b).foldl (fun(t:DS) (c:Int)=>ZE nx n c t) (s.1++[(b,(s.1.length:Int))],s.2)).1,((nx b).foldl (fun(t:DS) (c:Int)=>ZE nx n c t) (s.1++[(b,(s.1.length:Int))],s.2)).2++[b]):=by
    conv=>lhs;unfold ZE
    rw[QC (by rw[hnone];exact Bool.noConfusion)]
   rw[hu];generalize(nx b).foldl (fun(t:DS) (c:Int)=>ZE nx n c t) (s.1++[(b,(s.1.length:Int))],s.2)=t at k |-;have hb2:Bg t b:=k.mono _ (Y8.2 (.inr rfl));refine⟨fun c h=>k.mono _ (Y8.2 (.inl h)),fun c h=>by simp only[Qy];exact .inl (k.keep c h),fun c hc=>by simp at hc;subst hc;exact hb2,fun c hc=> ?_,fun c hc=> ?_,fun c hc=> ?_⟩
   ·rcases k.way c hc with h|⟨a,ha,w⟩
    ·rcases Y8.1 h with h|rfl
     ·exact .inl h
     ·exact .inr ⟨c,by simp,.here⟩
    ·exact .inr ⟨b,by simp,Wr.trans (.step .here ha) w⟩
   ·rcases k.done c hc with h|⟨h,hd⟩
    ·rcases Y8.1 h with h|rfl
     ·exact .inl h
     ·exact .inr ⟨by simp,fun d hd=>k.all d hd⟩
    ·exact .inr ⟨by simp only[Qy];exact .inl h,hd⟩
   ·simp only[Qy,Qe]at hc;rcases hc with hc|rfl
    ·exact k.of c hc
    ·exact .inr hb2
theorem zCm{nx:Int->List Int}{N n:Nat}(hin:∀ b,0<=b/\b<(N:Int)->∀ c∈nx b,0<=c/\c<(N:Int)):∀ (l:List Int) (s:DS),BZ N s.1<=n->(∀ c∈l,0<=c/\c<(N:Int))->SB nx l s (Zq nx n l s)
 |[],s,_,_=> .nil _ _
 |x::l,s,h,hl=>by
  have hx:=zMX hin n x s h (hl x (by simp));exact hx.cons (zCm hin l _ (QN (zCK fun c hc=>hx.mono c hc) h) fun c hc=>hl c (by simp[hc]))
theorem zJy{nx:Int->List Int}{N:Nat}(hin:∀ b,0<=b/\b<(N:Int)->∀ c∈nx b,0<=c/\c<(N:Int)){l:List Int}(hl:∀ c∈l,0<=c/\c<(N:Int)){c:Int}:c∈(Zq nx N l ([],[])).2↔∃ a∈l,Wr nx a c:=by
 have k:=zCm (n:=N) hin l ([],[]) (zEJ _ _) hl;have no:∀ d,¬Bg (([],[]):DS) d:=fun d h=>by unfold Bg at h;exact Bool.noConfusion h
 constructor
 ·intro h;rcases k.of c h with h|h
  ·cases h
  ·rcases k.way c h with h|h
   ·exact absurd h (no _)
   ·exact h
 ·rintro⟨a,ha,w⟩;have:Bg (Zq nx N l ([],[])) c:=by
   induction w with
   |here=>exact k.all _ ha
   |step _ hc ih=>
    rcases k.done _ ih with h|⟨_,h⟩
    ·exact absurd h (no _)
    ·exact h _ hc
  rcases k.done c this with h|h
  ·exact absurd h (no _)
  ·exact h.1
end Go.Proofs.YtmilpkdhbdgjfaaGreatDoor
set_option maxRecDepth 100000
namespace Go.Proofs.YtmilpkdhbdgjfaaGreatDoor
open Go.Am
def zV(L:List Wl)(b:Int)(k:Nat):List Int:=((List.range k).filter fun(i:Nat)=>decide (b∈YS (L.getD i default).fin)).map fun(i:Nat)=>(i:Int)
theorem zDB(L:List Wl)(b:Int)(k:Nat):zV L b (k+1)=if b∈YS (L.getD k default).fin then zV L b k++[(k:Int)]else zV L b k:=by
 unfold zV;rw[List.range_succ,List.filter_append,GU];by_cases h:b∈YS (L.getD k default).fin
 ·rw[QG h,List.filter_cons_of_pos (by simpa using h)];rfl
 ·rw[QC h,List.filter_cons_of_neg (by simpa using h)];simp
theorem zAk(L:List Wl)(b:Int)(k:Nat):(zV L b k).length<=k:=by
 unfold zV;rw[GR];exact QN (List.length_filter_le _ _) (by simp)
def YD(T:List WJ)(F:List Wj)(f b:Int):List Int×Int:=
 if(zF T F f b).2≠0 then([],(zF T F f b).2)else(zV (zF T F f b).1 b (zF T F f b).1.length,0)
theorem zM2(h:WF)(vt vf:Value)(T:List WJ)(F:List Wj)(f b:Int)(tt:By h)(hm:h.mark<=h.n)(sm:BP T F)(st:Bc h vt T)(sf:W7 h vf F):
  WC Tryz.prog tb 141 [.agg #[vt,vf],I f,I b] h fun r h'=>(∃ v,r=.tuple #[v,I (YD T F f b).2]/\Wb h h' v (YD T F f b).1)/\WK h h':=by
 refine en ?_;refine VG ?_;intro p h1 e1 o1;refine go ?_;refine VA (zCi h1 vt vf T F f b (tt.ext e1) (yN e1 hm) sm (st.ext e1) (W7.ext sf e1)) ?_;rintro _ h2 ⟨⟨v,rfl,sb⟩,e2⟩;have e12:=e1.trans e2;refine go ?_;refine VD (fun hb=> ?_) (fun hb=> ?_)<;>simp only[DB]at hb<;>refine go ?_
 ·refine rt ?_;rw[show YD T F f b=([],(zF T F f b).2)from by rw[YD,QG hb]];exact⟨⟨_,rfl,.inl ⟨rfl,rfl⟩⟩,e12⟩
 have hb0:(zF T F f b).2=0:=by omega
 obtain⟨hlen,hnx⟩:=Zd hb0;rw[show YD T F f b=(zV (zF T F f b).1 b (zF T F f b).1.length,0)from by rw[YD,QC (by omega)]];generalize(zF T F f b).1=L at *;refine VE (fun k=>L.length-k) (fun k t h3=>zC t 23=I k/\k<=L.length/\WK h2 h3/\∃ w,zC t 6=w/\Wb h2 h3 w (zV L b k)) 0 ?_ ?_
 ·exact⟨WM,QU _,WK.refl _,.slice none 0 0,WM,.inl ⟨rfl,rfl⟩⟩
 rintro k t h3 hsame ⟨s23,hk,e23,w,s6,ow⟩;have sb3:=BN.ext sb e23;refine go ?_;refine VD (fun hc=> ?_) (fun hc=> ?_)<;>simp only[DB]at hc
 ·have hk':k<L.length:=by omega
  obtain⟨cs,⟨vi,rfl,si,hsi⟩,pc,hs⟩:=yo sb3 hk';obtain⟨_,_,_,rfl⟩:=zN si;refine go ?_;refine VJ ?_;intro p4 h4 e4 o4;refine go ?_;refine VF o4 e4 ?_;intro h5 e5 o5 _;refine go ?_;refine VA (zJq h5 (L.getD k default).fin) ?_;rintro r h6 ⟨s6',_,e6⟩;have hn2:=zHi (L.getD k default).fin;refine go ?_;refine VA (Y5 h6 r _ b s6' (by omega)) ?_;rintro _ _ ⟨rfl,rfl⟩;have ow6:=(ow.ext e5).ext e6;have e36:=e5.trans e6;have hsucc:=zDB L b k;have hal:=zAk L b k;refine go ?_;refine VD (fun hd=> ?_) (fun hd=> ?_)<;>simp only[DB]at hd<;>refine go ?_
  ·rw[QG hd]at hsucc;refine WO.bl [(k:Int)] ?_;intro v7 h7 e7 o7;refine go ?_;refine Vb (ow6.ext e7) o7.sl ((e23.trans e36).trans e7) (by simp only[QZ];omega) ?_;intro v8 h8 e8 o8;refine go ?_;exact zA (k+1) (by omega) ⟨BF,by omega,e8,v8,WM,by rw[hsucc];exact o8⟩
  ·rw[QC hd]at hsucc;exact zA (k+1) (by omega) ⟨BF,by omega,e23.trans e36,w,WM,by rw[hsucc];exact ow6⟩
 ·have hkk:k=L.length:=by omega
  subst hkk;refine gr ?_;exact⟨⟨_,rfl,ow.since e12⟩,e12.trans e23⟩
end Go.Proofs.YtmilpkdhbdgjfaaGreatDoor
set_option maxRecDepth 100000
namespace Go.Proofs.YtmilpkdhbdgjfaaGreatDoor
open Go.Am
theorem zLs(h:WF)(n:Int):WC Tryz.prog tb 239 [I n] h fun r h'=>r=.bool false/\h=h':=by
 refine en ?_;refine rt ?_;exact⟨by simp[one],rfl⟩
theorem ZV(h:WF)(a b:Int):WC Tryz.prog tb 228 [I a,I b] h fun r h'=>r=.bool (decide (a<b))/\h=h':=by
 refine en ?_;refine VA (zLs h a) ?_;rintro _ _ ⟨rfl,rfl⟩;refine gr ?_;exact⟨by simp[one],rfl⟩
theorem zGd(hB h:WF)(v:Value)(xs:List Int)(a b:Int)(e0:WK hB h)(hmB:hB.mark<=hB.n)(o:Wn hB h v xs)(h0:0<=a)(hab:a<=b)(hb:b<=xs.length)(hlen:xs.length<=1000000000):
  WC Tryz.prog tb 222 [v,I a,I b] h fun r h'=>∃ ys,Wn hB h' v ys/\PI a b xs ys/\Bi a b ys/\WK hB h'/\Bh v h h':=by
 refine en ?_;refine VE (fun x=>(b-x.2).toNat) (fun(x:List Int×Int) t h1=>zC t 6=I x.2/\a+1<=x.2/\(x.2<=b\/x.2=a+1)/\Wn hB h1 v x.1/\WK hB h1/\Bh v h h1/\PI a b xs x.1/\Bi a x.2 x.1) (xs,a+1) ?_ ?_
 ·exact⟨WM,by simp only;omega,.inr rfl,o,e0,⟨QE _,fun _ _ _=>rfl⟩,PI.refl ..,Bi.small (by simp only;omega)⟩
 rintro⟨ys,i⟩ t h1 hsame ⟨s6,hi1,hi2,o1,e1,u1,p1,r1⟩;simp only at s6 hi1 hi2 o1 e1 u1 p1 r1;have hyl:=p1.len;refine go ?_;refine VD (fun hc=> ?_) (fun hc=> ?_)<;>simp only[DB]at hc
 ·refine go ?_;refine VE (fun x=>(x.2-a).toNat) (fun(x:List Int×Int) t h2=>zC t 7=I x.2/\a<=x.2/\x.2<=i/\Wn hB h2 v x.1/\WK hB h2/\Bh v h h2/\PI a b xs x.1/\∀ p q,a<=p->p<=q->q<=i->q≠x.2->WT x.1 p<=WT x.1 q) (ys,i) ?_ ?_
  ·exact⟨WM,by simp only;omega,by simp only;omega,o1,e1,u1,p1,fun p q h1 h2 h3 h4=>r1 p q h1 h2 (by simp only at h4;omega)⟩
  rintro⟨zs,j⟩ t2 h2 hsame2 ⟨s7,hj1,hj2,o2,e2,u2,p2,r2⟩;simp only at s7 hj1 hj2 o2 e2 u2 p2 r2;have hzl:=p2.len;refine goC ?_;refine VC 0 rfl rfl ?_;have sr:Wd (inC (zB 0 h2)) v zs:=o2.sl;refine Wc ?_;refine VH (fun hd=> ?_) (fun hd=> ?_)<;>simp only[DB]at hd<;>refine Wc ?_
  ·refine VA (ZV _ (WT zs j) (WT zs (j-1))) ?_;rintro _ _ ⟨rfl,rfl⟩;refine nQ ?_;refine Wc ?_;rw[zAL];refine VD (fun he=> ?_) (fun he=> ?_)<;>simp only[DB]at he<;>refine goC ?_
   ·refine VC 0 rfl rfl ?_;have sr2:Wd (inC (zB 0 h2)) v zs:=o2.sl;refine Wc ?_;refine VP j (j-1) o2 e2 (by rw[e2.mark];exact hmB) ?_;intro h3 e3 o3 u3;refine go ?_;exact zA (swp zs j (j-1),j-1) (by simp only;omega) ⟨WM,by simp only;omega,by simp only;omega,o3,e3,u2.trans u3,p2.trans (PI.swp (by omega) (by omega) (by omega) (by omega)),zH8 h0 hd hj2 (by omega) he r2⟩
   ·refine go ?_;refine zA (zs,i+1) (by simp only;omega) ⟨WM,by simp only;omega,by simp only;omega,o2,e2,u2,p2,fun p q h1 h2 h3=> ?_⟩;by_cases hq:q=j
    ·subst hq;by_cases hp:p=q
     ·subst hp;exact Qh _
     ·have:=r2 p (q-1) h1 (by omega) (by omega) (by omega);simp only;omega
    ·exact r2 p q h1 h2 (by simp only at h3;omega) hq
  ·rw[zAL];refine goC ?_;refine zA (zs,i+1) (by simp only;omega) ⟨WM,by simp only;omega,by simp only;omega,o2,e2,u2,p2,fun p q h1 h2 h3=> ?_⟩;by_cases hq:q=j
   ·have hp:p=q:=by omega
    subst hp;exact Qh _
   ·exact r2 p q h1 h2 (by simp only at h3;omega) hq
 ·refine go ?_;refine rtN ?_;exact⟨ys,o1,p1,fun p q h1 h2 h3=>r1 p q h1 h2 (by omega),e1,u1⟩
end Go.Proofs.YtmilpkdhbdgjfaaGreatDoor
set_option maxRecDepth 100000
namespace Go.Proofs.YtmilpkdhbdgjfaaGreatDoor
open Go.Am
theorem zGb(hB h:WF)(v:Value)(xs:List Int)(a b pv:Int)(e0:WK hB h)(hmB:hB.mark<=hB.n)(o:Wn hB h v xs)(h0:0<=a)(hp:a<=pv/\pv<b)(hb:b<=xs.length)(hlen:xs.length<=1000000000):
  WC Tryz.prog tb 230 [v,I a,I b,I pv] h fun r h'=>∃ ys m w,r=.tuple #[I m,.bool w]/\SS hB h v a b xs ys h'/\(a<=m/\m<b)/\(∀ k,a<=k->k<m->WT ys k<=WT ys m)/\(∀ k,m<k->k<b->WT ys m<=WT ys k):=by
 have s0:=VU a b o e0;refine en ?_;refine VC 0 rfl rfl ?_;have srX:Wd (inC (zB 0 h)) v xs:=(o).sl;refine Wc ?_;refine VP (a) (pv) (s0).own (s0).ext (by rw[(s0).ext.mark];exact hmB) ?_;intro h1 e1 o1 u1;have s1:=s0.swp e1 o1 u1 h0 hb (by omega) (by omega);clear o1 e1 u1;generalize swp xs a pv=ys at s1;have hl1:=s1.len;refine go ?_;refine VE (fun i=>(b-i).toNat) (fun(i:Int) t h2=>h1=h2/\zC t 10=I i/\(a+1<=i/\i<=b)/\∀ k,a<k->k<i->WT ys k<WT ys a) (a+1) ?_ ?_
 ·exact⟨rfl,WM,by omega,fun k h1 h2=>by omega⟩
 rintro i t _ hsame ⟨rfl,s10,hi,hlow⟩;refine go ?_;refine VK (fun t h'=>h1=h'/\zC t 43=.bool (decide (i<=b-1/\(WT ys i<WT ys a)))) ?_ ?_
 ·refine VC 0 rfl rfl ?_;have srX:Wd (inC (zB 0 h1)) v ys:=(s1.own).sl;refine Wc ?_;refine VH (fun hd=> ?_) (fun hd=> ?_)<;>simp only[DB]at hd<;>refine Wc ?_
  ·refine VA (ZV _ (WT ys i) (WT ys a)) ?_;rintro _ _ ⟨rfl,rfl⟩;refine nQ ?_;refine Wc ?_;exact zD ⟨rfl,by rw[show decide (i<=b-1/\(WT ys i<WT ys a))=decide (WT ys i<WT ys a)from zDc hd];exact WM⟩
  ·exact zD ⟨rfl,by rw[show decide (i<=b-1/\(WT ys i<WT ys a))=false from QW (fun hh=>absurd hh.1 (by omega))];exact WM⟩
 rintro t2 _ hs2 ⟨rfl,q2⟩;refine go ?_;refine VD (fun he=> ?_) (fun he=> ?_)<;>simp only[DB]at he
 ·refine go ?_;refine zA (i+1) (by omega) ⟨rfl,WM,by omega,fun k h1 h2=> ?_⟩;by_cases e:k=i
  ·rw[e];exact he.2
  ·exact hlow k h1 (by omega)
 refine go ?_;refine VE (fun j=>(j+1-a).toNat) (fun(j:Int) t h2=>h1=h2/\zC t 11=I j/\(i-1<=j/\j<=b-1)/\∀ k,j<k->k<b->WT ys a<=WT ys k) (b-1) ?_ ?_
 ·exact⟨rfl,WM,by omega,fun k h1 h2=>by omega⟩
 rintro j t _ hsame ⟨rfl,s11,hj,hhigh⟩;refine go ?_;refine VK (fun t h'=>h1=h'/\zC t 60=.bool (decide (i<=j/\¬(WT ys j<WT ys a)))) ?_ ?_
 ·refine VC 0 rfl rfl ?_;have srX:Wd (inC (zB 0 h1)) v ys:=(s1.own).sl;refine Wc ?_;refine VH (fun hd=> ?_) (fun hd=> ?_)<;>simp only[DB]at hd<;>refine Wc ?_
  ·refine VA (ZV _ (WT ys j) (WT ys a)) ?_;rintro _ _ ⟨rfl,rfl⟩;refine nQ ?_;refine Wc ?_;exact zD ⟨rfl,by rw[show decide (i<=j/\¬(WT ys j<WT ys a))= !decide (WT ys j<WT ys a)from zCb hd];exact WM⟩
  ·exact zD ⟨rfl,by rw[show decide (i<=j/\¬(WT ys j<WT ys a))=false from QW (fun hh=>absurd hh.1 (by omega))];exact WM⟩
 rintro t3 _ hs3 ⟨rfl,q3⟩;refine go ?_;refine VD (fun hf=> ?_) (fun hf=> ?_)<;>simp only[DB]at hf
 ·refine go ?_;refine zA (j-1) (by omega) ⟨rfl,WM,by omega,fun k h1 h2=> ?_⟩;by_cases e:k=j
  ·rw[e];omega
  ·exact hhigh k (by omega) h2
 refine go ?_;refine VD (fun hg=> ?_) (fun hg=> ?_)<;>simp only[DB]at hg
 ·refine go ?_;refine VC 0 rfl rfl ?_;have srX:Wd (inC (zB 0 h1)) v ys:=(s1.own).sl;refine Wc ?_;refine VP (j) (a) (s1).own (s1).ext (by rw[(s1).ext.mark];exact hmB) ?_;intro h3 e3 o3 u3;have s3:=s1.swp e3 o3 u3 h0 hb (by omega) (by omega);refine gr ?_;refine⟨_,_,_,rfl,s3,by omega,fun k h1 h2=> ?_,fun k h1 h2=> ?_⟩
  ·rw[yV (by omega) (by omega) (by omega),yV (by omega) (by omega) (by omega)];by_cases e:k=a
   ·rw[QG e,QC (by omega),QG rfl];have:=hlow j (by omega) (by omega);omega
   ·rw[QC e,QC (by omega),QC (by omega),QG rfl];have:=hlow k (by omega) (by omega);omega
  ·rw[yV (by omega) (by omega) (by omega),yV (by omega) (by omega) (by omega)];rw[QC (by omega:¬k=a),QC (by omega:¬k=j)];have:=hhigh k (by omega) (by omega);by_cases e:j=a
   ·rw[QG e,e];exact this
   ·rw[QC e,QG rfl];exact this
 refine go ?_;refine VC 0 rfl rfl ?_;have srX:Wd (inC (zB 0 h1)) v ys:=(s1.own).sl;refine Wc ?_;refine VP (i) (j) (s1).own (s1).ext (by rw[(s1).ext.mark];exact hmB) ?_;intro h3 e3 o3 u3;have s3:=s1.swp e3 o3 u3 h0 hb (by omega) (by omega);have hi2:¬WT ys i<WT ys a:=fun hh=>he ⟨by omega,hh⟩;have hj2:WT ys j<WT ys a:=Int.not_le.1 fun hh=>hf ⟨by omega,hh⟩;have hij:i≠j:=fun e=>by subst e;exact hi2 hj2
 have hP:(a+1<=i+1/\i+1<=j-1+1/\j-1<=b-1)/\(∀ k,a<k->k<i+1->WT (swp ys i j) k<WT (swp ys i j) a)/\∀ k,j-1<k->k<b->WT (swp ys i j) a<=WT (swp ys i j) k:=by
  have ea:WT (swp ys i j) a=WT ys a:=by rw[yV (by omega) (by omega) (by omega),QC (by omega),QC (by omega)]
  rw[ea];refine⟨by omega,fun k h1 h2=> ?_,fun k h1 h2=> ?_⟩
  ·rw[yV (by omega) (by omega) (by omega),QC (by omega)];by_cases e:k=i
   ·rw[QG e];exact hj2
   ·rw[QC e];exact hlow k h1 (by omega)
  ·rw[yV (by omega) (by omega) (by omega)];by_cases e:k=j
   ·rw[QG e];omega
   ·rw[QC e,QC (by omega)];exact hhigh k (by omega) h2
 clear o3 e3 u3 hlow hhigh;generalize swp ys i j=zs at s3 hP;refine go ?_;refine VE (fun x=>(x.2.2+1-x.2.1).toNat) (fun(x:List Int×Int×Int) t h4=>SS hB h v a b xs x.1 h4/\zC t 10=I x.2.1/\zC t 11=I x.2.2/\(a+1<=x.2.1/\x.2.1<=x.2.2+1/\x.2.2<=b-1)/\(∀ k,a<k->k<x.2.1->WT x.1 k<WT x.1 a)/\∀ k,x.2.2<k->k<b->WT x.1 a<=WT x.1 k) (zs,i+1,j-1) ?_ ?_
 ·exact⟨s3,WM,WM,hP.1,hP.2.1,hP.2.2⟩
 clear hP s3 s10 s11 he hf hg hi2 hj2 hij q2 q3 hi hj;rintro⟨ws,p,q⟩ t h4 hsame ⟨s4,s10,s11,hpq,hlow,hhigh⟩;simp only at s4 s10 s11 hpq hlow hhigh;have hl4:=s4.len;refine go ?_;refine VE (fun i=>(b-i).toNat) (fun(i:Int) t h2=>h4=h2/\zC t 10=I i/\(p<=i/\i<=q+1)/\∀ k,a<k->k<i->WT ws k<WT ws a) p ?_ ?_
 ·exact⟨rfl,WM,by omega,hlow⟩
 rintro i2 t _ hsame ⟨rfl,s10,hi,hlow2⟩;refine go ?_;refine VK (fun t h'=>h4=h'/\zC t 112=.bool (decide (i2<=q/\(WT ws i2<WT ws a)))) ?_ ?_
 ·refine VC 0 rfl rfl ?_;have srX:Wd (inC (zB 0 h4)) v ws:=(s4.own).sl;refine Wc ?_;refine VH (fun hd=> ?_) (fun hd=> ?_)<;>simp only[DB]at hd<;>refine Wc ?_
  ·refine VA (ZV _ (WT ws i2) (WT ws a)) ?_;rintro _ _ ⟨rfl,rfl⟩;refine nQ ?_;refine Wc ?_;exact zD ⟨rfl,by rw[show decide (i2<=q/\(WT ws i2<WT ws a))=decide (WT ws i2<WT ws a)from zDc hd];exact WM⟩
  ·exact zD ⟨rfl,by rw[show decide (i2<=q/\(WT ws i2<WT ws a))=false from QW (fun hh=>absurd hh.1 (by omega))];exact WM⟩
 rintro t5 _ hs5 ⟨rfl,q5⟩;refine go ?_;refine VD (fun he=> ?_) (fun he=> ?_)<;>simp only[DB]at he
 ·refine go ?_;refine zA (i2+1) (by omega) ⟨rfl,WM,by omega,fun k h1 h2=> ?_⟩;by_cases e:k=i2
  ·rw[e];exact he.2
  ·exact hlow2 k h1 (by omega)
 refine go ?_;refine VE (fun j=>(j+1-a).toNat) (fun(j:Int) t h2=>h4=h2/\zC t 11=I j/\(i2-1<=j/\j<=q)/\∀ k,j<k->k<b->WT ws a<=WT ws k) q ?_ ?_
 ·exact⟨rfl,WM,by omega,hhigh⟩
 rintro j2 t _ hsame ⟨rfl,s11,hj,hhigh2⟩;refine go ?_;refine VK (fun t h'=>h4=h'/\zC t 129=.bool (decide (i2<=j2/\¬(WT ws j2<WT ws a)))) ?_ ?_
 ·refine VC 0 rfl rfl ?_;have srX:Wd (inC (zB 0 h4)) v ws:=(s4.own).sl;refine Wc ?_;refine VH (fun hd=> ?_) (fun hd=> ?_)<;>simp only[DB]at hd<;>refine Wc ?_
  ·refine VA (ZV _ (WT ws j2) (WT ws a)) ?_;rintro _ _ ⟨rfl,rfl⟩;refine nQ ?_;refine Wc ?_;exact zD ⟨rfl,by rw[show decide (i2<=j2/\¬(WT ws j2<WT ws a))= !decide (WT ws j2<WT ws a)from zCb hd];exact WM⟩
  ·exact zD ⟨rfl,by rw[show decide (i2<=j2/\¬(WT ws j2<WT ws a))=false from QW (fun hh=>absurd hh.1 (by omega))];exact WM⟩
 rintro t6 _ hs6 ⟨rfl,q6⟩;refine go ?_;refine VD (fun hf=> ?_) (fun hf=> ?_)<;>simp only[DB]at hf
 ·refine go ?_;refine zA (j2-1) (by omega) ⟨rfl,WM,by omega,fun k h1 h2=> ?_⟩;by_cases e:k=j2
  ·rw[e];omega
  ·exact hhigh2 k (by omega) h2
 refine go ?_;refine VD (fun hg=> ?_) (fun hg=> ?_)<;>simp only[DB]at hg
 ·refine go ?_;refine VC 0 rfl rfl ?_;have srX:Wd (inC (zB 0 h4)) v ws:=(s4.own).sl;refine Wc ?_;refine VP (j2) (a) (s4).own (s4).ext (by rw[(s4).ext.mark];exact hmB) ?_;intro h3 e3 o3 u3;have s3:=s4.swp e3 o3 u3 h0 hb (by omega) (by omega);refine gr ?_;refine⟨_,_,_,rfl,s3,by omega,fun k h1 h2=> ?_,fun k h1 h2=> ?_⟩
  ·rw[yV (by omega) (by omega) (by omega),yV (by omega) (by omega) (by omega)];by_cases e:k=a
   ·rw[QG e,QC (by omega),QG rfl];have:=hlow2 j2 (by omega) (by omega);omega
   ·rw[QC e,QC (by omega),QC (by omega),QG rfl];have:=hlow2 k (by omega) (by omega);omega
  ·rw[yV (by omega) (by omega) (by omega),yV (by omega) (by omega) (by omega)];rw[QC (by omega:¬k=a),QC (by omega:¬k=j2)];have:=hhigh2 k (by omega) (by omega);by_cases e:j2=a
   ·rw[QG e,e];exact this
   ·rw[QC e,QG rfl];exact this
 refine go ?_;refine VC 0 rfl rfl ?_;have srX:Wd (inC (zB 0 h4)) v ws:=(s4.own).sl;refine Wc ?_;refine VP (i2) (j2) (s4).own (s4).ext (by rw[(s4).ext.mark];exact hmB) ?_;intro h3 e3 o3 u3;have s3:=s4.swp e3 o3 u3 h0 hb (by omega) (by omega);have hi2:¬WT ws i2<WT ws a:=fun hh=>he ⟨by omega,hh⟩;have hj2:WT ws j2<WT ws a:=Int.not_le.1 fun hh=>hf ⟨by omega,hh⟩;have hij:i2≠j2:=fun e=>by subst e;exact hi2 hj2
 have ea:WT (swp ws i2 j2) a=WT ws a:=by rw[yV (by omega) (by omega) (by omega),QC (by omega),QC (by omega)]
 refine go ?_;refine zA (swp ws i2 j2,i2+1,j2-1) (by simp only;omega) ⟨s3,WM,WM,by simp only;omega,fun k h1 h2=> ?_,fun k h1 h2=> ?_⟩
 ·simp only at h2 |-;rw[ea,yV (by omega) (by omega) (by omega),QC (by omega)];by_cases e:k=i2
  ·rw[QG e];exact hj2
  ·rw[QC e];exact hlow2 k h1 (by omega)
 ·simp only at h1 |-;rw[ea,yV (by omega) (by omega) (by omega)];by_cases e:k=j2
  ·rw[QG e];omega
  ·rw[QC e,QC (by omega)];exact hhigh2 k (by omega) h2
end Go.Proofs.YtmilpkdhbdgjfaaGreatDoor
set_option maxRecDepth 100000
namespace Go.Proofs.YtmilpkdhbdgjfaaGreatDoor
open Go.Am
theorem zF7(hB h:WF)(v:Value)(xs:List Int)(a b pv:Int)(e0:WK hB h)(hmB:hB.mark<=hB.n)(o:Wn hB h v xs)(h0:0<=a)(hp:a<=pv/\pv<b)(hb:b<=xs.length)(hlen:xs.length<=1000000000):
  WC Tryz.prog tb 229 [v,I a,I b,I pv] h fun r h'=>∃ ys m,r=I m/\SS hB h v a b xs ys h'/\(a+1<=m/\m<=b)/\(∀ k,a<=k->k<m->WT ys k<=WT xs pv)/\(∀ k,m<=k->k<b->WT xs pv<WT ys k):=by
 have s0:=VU a b o e0;refine en ?_;refine VC 0 rfl rfl ?_;have srX:Wd (inC (zB 0 h)) v xs:=(o).sl;refine Wc ?_;refine VP (a) (pv) (s0).own (s0).ext (by rw[(s0).ext.mark];exact hmB) ?_;intro h1 e1 o1 u1;have s1:=s0.swp e1 o1 u1 h0 hb (by omega) (by omega);clear o1 e1 u1;have ha:WT (swp xs a pv) a=WT xs pv:=by
  rw[yV (by omega) (by omega) (by omega)];by_cases e:a=pv
  ·rw[QG e,e]
  ·rw[QC e,QG rfl]
 generalize swp xs a pv=ys at s1 ha;generalize WT xs pv=P at ha |-;have hl1:=s1.len;refine go ?_;refine VE (fun x=>(x.2.2+1-x.2.1).toNat) (fun(x:List Int×Int×Int) t h4=>SS hB h v a b xs x.1 h4/\zC t 9=I x.2.1/\zC t 10=I x.2.2/\(a+1<=x.2.1/\x.2.1<=x.2.2+1/\x.2.2<=b-1)/\WT x.1 a=P/\(∀ k,a<k->k<x.2.1->WT x.1 k<=P)/\∀ k,x.2.2<k->k<b->P<WT x.1 k) (ys,a+1,b-1) ?_ ?_
 ·exact⟨s1,WM,WM,by simp only;omega,ha,fun k h1 h2=>by simp only at h2;omega,fun k h1 h2=>by simp only at h1;omega⟩
 clear s1 ha hl1;rintro⟨ws,p,q⟩ t h4 hsame ⟨s4,s9,s10,hpq,ha,hlow,hhigh⟩;simp only at s4 s9 s10 hpq ha hlow hhigh;have hl4:=s4.len;refine go ?_;refine VE (fun i=>(b-i).toNat) (fun(i:Int) t h2=>h4=h2/\zC t 9=I i/\(p<=i/\i<=q+1)/\∀ k,a<k->k<i->WT ws k<=P) p ?_ ?_
 ·exact⟨rfl,WM,by omega,hlow⟩
 rintro i2 t _ hsame ⟨rfl,s9,hi,hlow2⟩;refine go ?_;refine VK (fun t h'=>h4=h'/\zC t 43=.bool (decide (i2<=q/\¬(WT ws a<WT ws i2)))) ?_ ?_
 ·refine VC 0 rfl rfl ?_;have srX:Wd (inC (zB 0 h4)) v ws:=(s4.own).sl;refine Wc ?_;refine VH (fun hd=> ?_) (fun hd=> ?_)<;>simp only[DB]at hd<;>refine Wc ?_
  ·refine VA (ZV _ (WT ws a) (WT ws i2)) ?_;rintro _ _ ⟨rfl,rfl⟩;refine nQ ?_;refine Wc ?_;exact zD ⟨rfl,by rw[show decide (i2<=q/\¬(WT ws a<WT ws i2))= !decide (WT ws a<WT ws i2)from zCb hd];exact WM⟩
  ·exact zD ⟨rfl,by rw[show decide (i2<=q/\¬(WT ws a<WT ws i2))=false from QW (fun hh=>absurd hh.1 (by omega))];exact WM⟩
 rintro t5 _ hs5 ⟨rfl,q5⟩;refine go ?_;refine VD (fun he=> ?_) (fun he=> ?_)<;>simp only[DB]at he
 ·refine go ?_;refine zA (i2+1) (by omega) ⟨rfl,WM,by omega,fun k h1 h2=> ?_⟩;by_cases e:k=i2
  ·rw[e];omega
  ·exact hlow2 k h1 (by omega)
 refine go ?_;refine VE (fun j=>(j+1-a).toNat) (fun(j:Int) t h2=>h4=h2/\zC t 10=I j/\(i2-1<=j/\j<=q)/\∀ k,j<k->k<b->P<WT ws k) q ?_ ?_
 ·exact⟨rfl,WM,by omega,hhigh⟩
 rintro j2 t _ hsame ⟨rfl,s10,hj,hhigh2⟩;refine go ?_;refine VK (fun t h'=>h4=h'/\zC t 59=.bool (decide (i2<=j2/\(WT ws a<WT ws j2)))) ?_ ?_
 ·refine VC 0 rfl rfl ?_;have srX:Wd (inC (zB 0 h4)) v ws:=(s4.own).sl;refine Wc ?_;refine VH (fun hd=> ?_) (fun hd=> ?_)<;>simp only[DB]at hd<;>refine Wc ?_
  ·refine VA (ZV _ (WT ws a) (WT ws j2)) ?_;rintro _ _ ⟨rfl,rfl⟩;refine nQ ?_;refine Wc ?_;exact zD ⟨rfl,by rw[show decide (i2<=j2/\(WT ws a<WT ws j2))=decide (WT ws a<WT ws j2)from zDc hd];exact WM⟩
  ·exact zD ⟨rfl,by rw[show decide (i2<=j2/\(WT ws a<WT ws j2))=false from QW (fun hh=>absurd hh.1 (by omega))];exact WM⟩
 rintro t6 _ hs6 ⟨rfl,q6⟩;refine go ?_;refine VD (fun hf=> ?_) (fun hf=> ?_)<;>simp only[DB]at hf
 ·refine go ?_;refine zA (j2-1) (by omega) ⟨rfl,WM,by omega,fun k h1 h2=> ?_⟩;by_cases e:k=j2
  ·rw[e];omega
  ·exact hhigh2 k (by omega) h2
 refine go ?_;refine VD (fun hg=> ?_) (fun hg=> ?_)<;>simp only[DB]at hg
 ·refine gr ?_;refine⟨_,_,rfl,s4,by omega,fun k h1 h2=> ?_,fun k h1 h2=> ?_⟩
  ·by_cases e:k=a
   ·rw[e,ha];exact Qh _
   ·exact hlow2 k (by omega) h2
  ·exact hhigh2 k (by omega) h2
 have hi2:P<WT ws i2:=by
  rw[<-ha];exact Int.not_le.1 fun hh=>he ⟨by omega,hh⟩
 have hj2:WT ws j2<=P:=by
  rw[<-ha];exact Int.not_lt.1 fun hh=>hf ⟨by omega,hh⟩
 have hij:i2≠j2:=fun e=>by subst e;omega
 refine go ?_;refine VC 0 rfl rfl ?_;have srX:Wd (inC (zB 0 h4)) v ws:=(s4.own).sl;refine Wc ?_;refine VP (i2) (j2) (s4).own (s4).ext (by rw[(s4).ext.mark];exact hmB) ?_;intro h3 e3 o3 u3;have s3:=s4.swp e3 o3 u3 h0 hb (by omega) (by omega);refine go ?_;refine zA (swp ws i2 j2,i2+1,j2-1) (by simp only;omega) ⟨s3,WM,WM,by simp only;omega,?_,fun k h1 h2=> ?_,fun k h1 h2=> ?_⟩
 ·simp only;rw[yV (by omega) (by omega) (by omega),QC (by omega),QC (by omega)];exact ha
 ·simp only at h2 |-;rw[yV (by omega) (by omega) (by omega),QC (by omega)];by_cases e:k=i2
  ·rw[QG e];exact hj2
  ·rw[QC e];exact hlow2 k h1 (by omega)
 ·simp only at h1 |-;rw[yV (by omega) (by omega) (by omega)];by_cases e:k=j2
  ·rw[QG e];omega
  ·rw[QC e,QC (by omega)];exact hhigh2 k (by omega) h2
theorem zIY(hB h:WF)(v:Value)(xs:List Int)(a b:Int)(e0:WK hB h)(hmB:hB.mark<=hB.n)(o:Wn hB h v xs)(h0:0<=a)(hab:a<=b)(hb:b<=xs.length)(hlen:xs.length<=1000000000):
  WC Tryz.prog tb 226 [v,I a,I b] h fun r h'=>∃ ys,SS hB h v a b xs ys h':=by
 have s0:=VU a b o e0;refine en ?_;refine VE (fun x=>(x.2.2+1-x.2.1).toNat) (fun(x:List Int×Int×Int) t h4=>SS hB h v a b xs x.1 h4/\zC t 6=I x.2.1/\zC t 7=I x.2.2/\(a<=x.2.1/\x.2.2<=b-1)/\(x.2.1<=b/\a-1<=x.2.2)) (xs,a,b-1) ?_ ?_
 ·exact⟨s0,WM,WM,by simp only;omega,by simp only;omega⟩
 rintro⟨ws,p,q⟩ t h4 hsame ⟨s4,s6,s7,hpq,hpq2⟩;simp only at s4 s6 s7 hpq hpq2;have hl4:=s4.len;refine go ?_;refine VD (fun he=> ?_) (fun he=> ?_)<;>simp only[DB]at he
 ·refine go ?_;refine VC 0 rfl rfl ?_;have srX:Wd (inC (zB 0 h4)) v ws:=(s4.own).sl;refine Wc ?_;refine VP (p) (q) (s4).own (s4).ext (by rw[(s4).ext.mark];exact hmB) ?_;intro h3 e3 o3 u3;have s3:=s4.swp e3 o3 u3 h0 hb (by omega) (by omega);refine go ?_;exact zA (swp ws p q,p+1,q-1) (by simp only;omega) ⟨s3,WM,WM,by simp only;omega,by simp only;omega⟩
 ·refine go ?_;refine rtN ?_;exact⟨ws,s4⟩
def zE5(lo hi k c:Int):Prop:=lo<=k/\(c=2*k+1\/c=2*k+2)/\c<hi
def zE1(first lo hi:Int)(xs:List Int):Prop:=∀ k c,zE5 lo hi k c->WT xs (first+c)<=WT xs (first+k)
theorem zLq{first hi:Int}{xs:List Int}(h:zE1 first 0 hi xs):∀ (n:Nat) (k:Int),k=n->k<hi->WT xs (first+k)<=WT xs (first+0):=by
 intro n;induction n using Nat.strongRecOn with
 |_ n ih=>
  intro k hk hlt;by_cases e:k=0
  ·rw[e];exact Qh _
  ·have h1:=h ((k-1) / 2) k ⟨by omega,by omega,hlt⟩;have h2:=ih ((k-1) / 2).toNat (by omega) ((k-1) / 2) (by omega) (by omega);omega
theorem zKB(hB h:WF)(v:Value)(xs:List Int)(lo hi first:Int)(e0:WK hB h)(hmB:hB.mark<=hB.n)(o:Wn hB h v xs)(h0:0<=lo)(hlo:lo<=1000000000)(hf:0<=first)(hb:first+hi<=xs.length)(hlen:xs.length<=1000000000)(hh:zE1 first (lo+1) hi xs):
  WC Tryz.prog tb 234 [v,I lo,I hi,I first] h fun r h'=>∃ ys,SS hB h v (first+lo) (first+hi) xs ys h'/\zE1 first lo hi ys:=by
 have s0:=VU (first+lo) (first+hi) o e0;refine en ?_;refine VE (fun x=>(hi+1-x.2).toNat) (fun(x:List Int×Int) t h4=>SS hB h v (first+lo) (first+hi) xs x.1 h4/\zC t 8=I x.2/\(lo<=x.2/\(x.2=lo\/x.2<hi))/\(∀ k c,zE5 lo hi k c->k≠x.2->WT x.1 (first+c)<=WT x.1 (first+k))/\∀ k c,zE5 lo hi k x.2->zE5 lo hi x.2 c->WT x.1 (first+c)<=WT x.1 (first+k)) (xs,lo) ?_ ?_
 ·refine⟨s0,WM,⟨Qh _,.inl rfl⟩,fun k c hk hne=>hh k c ⟨by have:=hk.1;simp only at hne;omega,hk.2⟩,fun k c h1 h2=> ?_⟩;obtain⟨a1,a2,a3⟩:=h1;simp only at a2;omega
 rintro⟨ws,r⟩ t h4 hsame ⟨s4,s8,hr,i1,i2⟩;simp only at s4 s8 hr i1 i2;have hl4:=s4.len;refine go ?_;refine VD (fun he=> ?_) (fun he=> ?_)<;>simp only[DB]at he
 ·refine go ?_;refine rtN ?_;refine⟨ws,s4,fun k c hk=> ?_⟩;by_cases e:k=r
  ·obtain⟨a1,a2,a3⟩:=hk;subst e;omega
  ·exact i1 k c hk e
 refine go ?_;refine VK (fun t h'=>h4=h'/\zC t 36=.bool (decide (2*r+1+1<hi/\(WT ws (first+(2*r+1))<WT ws (first+(2*r+1)+1))))) ?_ ?_
 ·refine VC 0 rfl rfl ?_;have srX:Wd (inC (zB 0 h4)) v ws:=(s4.own).sl;refine Wc ?_;refine VH (fun hd=> ?_) (fun hd=> ?_)<;>simp only[DB]at hd<;>refine Wc ?_
  ·refine VA (ZV _ (WT ws (first+(2*r+1))) (WT ws (first+(2*r+1)+1))) ?_;rintro _ _ ⟨rfl,rfl⟩;refine nQ ?_;refine Wc ?_;exact zD ⟨rfl,by rw[show decide (2*r+1+1<hi/\(WT ws (first+(2*r+1))<WT ws (first+(2*r+1)+1)))=decide (WT ws (first+(2*r+1))<WT ws (first+(2*r+1)+1))from zDc hd];exact WM⟩
  ·exact zD ⟨rfl,by rw[show decide (2*r+1+1<hi/\(WT ws (first+(2*r+1))<WT ws (first+(2*r+1)+1)))=false from QW (fun hh=>absurd hh.1 (by omega))];exact WM⟩
 rintro t5 _ hs5 ⟨rfl,q5⟩;have hcut:∀ c:Int,(c=2*r+1\/c=2*r+2)->c<hi->(∀ d,zE5 lo hi r d->WT ws (first+d)<=WT ws (first+c))->∀ (t:WI Value) (K:WP->WR->WF->Prop),True:=fun _ _ _ _ _ _=>trivial;refine go ?_;refine VK (fun t h'=>h4=h'/\∃ c:Int,zC t 9=I c/\(c=2*r+1\/c=2*r+2)/\c<hi/\∀ d,zE5 lo hi r d->WT ws (first+d)<=WT ws (first+c)) ?_ ?_
 ·refine VD (fun hg=> ?_) (fun hg=> ?_)<;>simp only[DB]at hg<;>refine go ?_
  ·refine zD ⟨rfl,2*r+1+1,WM,by omega,by omega,fun d hd=> ?_⟩;obtain⟨_,a2,_⟩:=hd;have e1:first+(2*r+1)+1=first+(2*r+1+1):=by omega
   rw[e1]at hg;rcases a2 with rfl|rfl
   ·omega
   ·have:first+(2*r+2)=first+(2*r+1+1):=by omega
    rw[this];exact Qh _
  ·refine zD ⟨rfl,2*r+1,WM,by omega,by omega,fun d hd=> ?_⟩;obtain⟨_,a2,a3⟩:=hd;rcases a2 with rfl|rfl
   ·exact Qh _
   ·have e1:first+(2*r+1)+1=first+(2*r+2):=by omega
    rw[e1]at hg;exact Int.not_lt.1 fun hh=>hg ⟨by omega,hh⟩
 clear hcut;rintro t7 _ hs7 ⟨rfl,c,q7,hc,hc2,hmax⟩;refine go ?_;refine VC 0 rfl rfl ?_;have srX:Wd (inC (zB 0 h4)) v ws:=(s4.own).sl;refine Wc ?_;refine VA (ZV _ (WT ws (first+r)) (WT ws (first+c))) ?_;rintro _ _ ⟨rfl,rfl⟩;refine nQ ?_;refine Wc ?_;rw[zAL];refine VD (fun hg=> ?_) (fun hg=> ?_)<;>simp only[DB]at hg
 ·refine gr ?_;refine⟨ws,s4,fun k d hk=> ?_⟩;by_cases e:k=r
  ·subst e;have:=hmax d hk;omega
  ·exact i1 k d hk e
 refine go ?_;refine VC 0 rfl rfl ?_;have srX:Wd (inC (zB 0 h4)) v ws:=(s4.own).sl;refine Wc ?_;refine VP (first+r) (first+c) (s4).own (s4).ext (by rw[(s4).ext.mark];exact hmB) ?_;intro h3 e3 o3 u3;have s3:=s4.swp e3 o3 u3 (by omega) hb (by omega) (by omega);refine go ?_;have hat:∀ k,0<=k->WT (swp ws (first+r) (first+c)) (first+k)=if k=c then WT ws (first+r)else if k=r then WT ws (first+c)else WT ws (first+k):=by
  intro k hk;rw[yV (by omega) (by omega) (by omega)];have e1:(first+k=first+c)↔k=c:=by omega
  have e2:(first+k=first+r)↔k=r:=by omega
  simp only[e1,e2]
 refine zA (swp ws (first+r) (first+c),c) (by simp only;omega) ⟨s3,WM,by simp only;omega,fun k d hk hne=> ?_,fun k d hk hd=> ?_⟩
 ·simp only at hne |-;have hk':=hk;obtain⟨a1,a2,a3⟩:=hk';rw[hat d (by omega),hat k (by omega),QC hne];by_cases e:k=r
  ·rw[QG e];subst e;by_cases e2:d=c
   ·rw[QG e2];omega
   ·rw[QC e2,QC (by omega)];exact hmax d hk
  ·rw[QC e,QC (by omega:¬d=c)];by_cases e2:d=r
   ·rw[QG e2];subst e2;exact i2 k c hk ⟨hr.1,hc,hc2⟩
   ·rw[QC e2];exact i1 k d hk e
 ·simp only at hk hd |-;obtain⟨a1,a2,a3⟩:=hk;have ek:k=r:=by omega
  have hd':=hd;obtain⟨b1,b2,b3⟩:=hd';rw[hat d (by omega),hat k (by omega),QC (by omega),QC (by omega),QC (by omega),QG ek];exact i1 c d hd (by omega)
theorem zN4(hB h:WF)(v:Value)(xs:List Int)(a b:Int)(e0:WK hB h)(hmB:hB.mark<=hB.n)(o:Wn hB h v xs)(h0:0<=a)(hab:a<=b)(hb:b<=xs.length)(hlen:xs.length<=1000000000):
  WC Tryz.prog tb 223 [v,I a,I b] h fun r h'=>∃ ys,SS hB h v a b xs ys h'/\Bi a b ys:=by
 have s0:=VU a b o e0;refine en ?_;have hq:(b-a-1).tdiv 2<=b-a/\0<=(b-a-1).tdiv 2/\b-a-2<=2*(b-a-1).tdiv 2:=by
  by_cases e:b-a=0
  ·rw[e];decide
  ·rw[G6 (by omega)];omega
 refine go ?_;refine WO.quo (a:=b-a-1) (c:=2) (by decide) (by omega) (by omega) ?_;refine go ?_;refine VE (fun x=>(x.2+1).toNat) (fun(x:List Int×Int) t h4=>SS hB h v a b xs x.1 h4/\zC t 9=I x.2/\(-1<=x.2/\x.2<=b-a)/\zE1 a (x.2+1) (b-a) x.1) (xs,(b-a-1).tdiv 2) ?_ ?_
 ·refine⟨s0,WM,by simp only;omega,fun k c hk=> ?_⟩;obtain⟨a1,a2,a3⟩:=hk;simp only at a1;omega
 rintro⟨ws,i⟩ t h4 hsame ⟨s4,s9,hi,hh⟩;simp only at s4 s9 hi hh;have hl4:=s4.len;refine go ?_;refine VD (fun he=> ?_) (fun he=> ?_)<;>simp only[DB]at he
 ·refine go ?_;refine VA (zKB hB h4 v ws i (b-a) a s4.ext hmB s4.own (by omega) (by omega) h0 (by omega) (by omega) hh) ?_;rintro _ h5 ⟨ys,s5,hh5⟩;refine go ?_;exact zA (ys,i-1) (by simp only;omega) ⟨s4.call s5 (by omega) (by omega),WM,by simp only;omega,by simp only;rw[show i-1+1=i by omega];exact hh5⟩
 have hi1:i= -1:=by omega
 subst hi1;refine go ?_;have hh0:zE1 a 0 (b-a-1+1) ws:=by rw[show b-a-1+1=b-a by omega];exact hh
 clear hh s9 he hi;refine VE (fun x=>(x.2+1).toNat) (fun(x:List Int×Int) t h5=>SS hB h v a b xs x.1 h5/\zC t 10=I x.2/\(-1<=x.2/\x.2<=b-a-1)/\zE1 a 0 (x.2+1) x.1/\Bi (a+x.2+1) b x.1/\∀ p q,a<=p->p<=a+x.2->a+x.2<q->q<b->WT x.1 p<=WT x.1 q) (ws,b-a-1) ?_ ?_
 ·exact⟨s4,WM,by simp only;omega,hh0,Bi.small (by simp only;omega),fun p q h1 h2 h3 h4=>by simp only at h3;omega⟩
 clear hh0 s4 hl4;rintro⟨zs,i⟩ t h4 hsame ⟨s4,s10,hi,hh,hs,hl⟩;simp only at s4 s10 hi hh hs hl;have hl4:=s4.len;refine go ?_;refine VD (fun he=> ?_) (fun he=> ?_)<;>simp only[DB]at he
 ·refine go ?_;refine VC 0 rfl rfl ?_;have srX:Wd (inC (zB 0 h4)) v zs:=(s4.own).sl;refine Wc ?_;refine VP (a) (a+i) (s4).own (s4).ext (by rw[(s4).ext.mark];exact hmB) ?_;intro h3 e3 o3 u3;have s3:=s4.swp e3 o3 u3 (by omega) hb (by omega) (by omega);have hat:∀ k,0<=k->WT (swp zs a (a+i)) (a+k)=if k=i then WT zs (a+0)else if k=0 then WT zs (a+i)else WT zs (a+k):=by
   intro k hk;rw[yV (by omega) (by omega) (by omega)];have e1:(a+k=a+i)↔k=i:=by omega
   have e2:(a+k=a)↔k=0:=by omega
   have e3:a+0=a:=by omega
   simp only[e1,e2,e3]
  have hmax:∀ k,0<=k->k<=i->WT zs (a+k)<=WT zs (a+0):=fun k h1 h2=>zLq hh k.toNat k (by omega) (by omega);refine go ?_;refine VA (zKB hB h3 v _ 0 i a s3.ext hmB s3.own (by omega) (by omega) h0 (by rw[s3.len];omega) (by rw[s3.len];omega) (fun k c hk=> ?_)) ?_
  ·obtain⟨a1,a2,a3⟩:=hk;rw[hat c (by omega),hat k (by omega),QC (by omega),QC (by omega),QC (by omega),QC (by omega)];exact hh k c ⟨by omega,a2,by omega⟩
  rintro _ h5 ⟨ys,s5,hh5⟩;have p5:=s5.pi;have out:∀ k,i<=k->WT ys (a+k)=WT (swp zs a (a+i)) (a+k):=fun k hk=>p5.out _ (by omega) (.inr (by omega));have low:∀ k,a+0<=k->k<a+i->WT ys k<=WT zs (a+0):=p5.all (p:=fun x=>x<=WT zs (a+0)) (by omega) (by rw[s3.len];omega) (fun k h1 h2=>by
   have:=hat (k-a) (by omega);rw[show a+(k-a)=k by omega]at this;rw[this,QC (by omega)];by_cases e:k-a=0
   ·rw[QG e];exact hmax i (by omega) (by omega)
   ·rw[QC e];have:=hmax (k-a) (by omega) (by omega);rw[show a+(k-a)=k by omega]at this;exact this)
  have top:WT ys (a+i)=WT zs (a+0):=by rw[out i (Qh _),hat i (by omega),QG rfl]
  have rest:∀ k,a+i<k->WT ys k=WT zs k:=fun k hk=>by
   have h1:=out (k-a) (by omega);rw[hat (k-a) (by omega),QC (by omega),QC (by omega),show a+(k-a)=k by omega]at h1;exact h1
  refine go ?_;refine zA (ys,i-1) (by simp only;omega) ⟨s3.call s5 (by omega) (by omega),WM,by simp only;omega,by simp only;rw[show i-1+1=i by omega];exact hh5,fun p q h1 h2 h3=> ?_,fun p q h1 h2 h3 h4=> ?_⟩
  ·simp only at h1 |-;by_cases ep:p=a+i
   ·by_cases eq:q=a+i
    ·rw[ep,eq];exact Qh _
    ·rw[ep,top,rest q (by omega)];exact hl (a+0) q (by omega) (by omega) (by omega) h3
   ·rw[rest p (by omega),rest q (by omega)];exact hs p q (by omega) h2 h3
  ·simp only at h2 h3 |-;have hp:=low p (by omega) (by omega);by_cases eq:q=a+i
   ·rw[eq,top];exact hp
   ·rw[rest q (by omega)];have:=hl (a+0) q (by omega) (by omega) (by omega) h4;omega
 ·refine go ?_;refine rtN ?_;have hi1:i= -1:=by omega
  subst hi1;exact⟨zs,s4,fun p q h1 h2 h3=>hs p q (by omega) h2 h3⟩
end Go.Proofs.YtmilpkdhbdgjfaaGreatDoor
set_option maxRecDepth 100000
namespace Go.Proofs.YtmilpkdhbdgjfaaGreatDoor
open Go.Am
set_option maxRecDepth 100000 in
theorem zLx:∀ i:Nat,i<256->(match(⟨#[0,1,2,2,3,3,3,3,4,4,4,4,4,4,4,4,5,5,5,5,5,5,5,5,5,5,5,5,5,5,5,5,6,6,6,6,6,6,6,6,6,6,6,6,6,6,6,6,6,6,6,6,6,6,6,6,6,6,6,6,6,6,6,6,7,7,7,7,7,7,7,7,7,7,7,7,7,7,7,7,7,7,7,7,7,7,7,7,7,7,7,7,7,7,7,7,7,7,7,7,7,7,7,7,7,7,7,7,7,7,7,7,7,7,7,7,7,7,7,7,7,7,7,7,7,7,7,7,8,8,8,8,8,8,8,8,8,8,8,8,8,8,8,8,8,8,8,8,8,8,8,8,8,8,8,8,8,8,8,8,8,8,8,8,8,8,8,8,8,8,8,8,8,8,8,8,8,8,8,8,8,8,8,8,8,8,8,8,8,8,8,8,8,8,8,8,8,8,8,8,8,8,8,8,8,8,8,8,8,8,8,8,8,8,8,8,8,8,8,8,8,8,8,8,8,8,8,8,8,8,8,8,8,8,8,8,8,8,8,8,8,8,8,8,8,8,8,8,8,8,8,8,8,8,8,8]⟩:ByteArray)[i]? with|some b=>Nat.ble b.toNat 8&&(Nat.beq i 0||Nat.ble (2 ^ b.toNat) (2*i))|none=>false)=true:=by decide+kernel
theorem zPI{i:Nat}(h:i<256):∃ b:UInt8,(⟨#[0,1,2,2,3,3,3,3,4,4,4,4,4,4,4,4,5,5,5,5,5,5,5,5,5,5,5,5,5,5,5,5,6,6,6,6,6,6,6,6,6,6,6,6,6,6,6,6,6,6,6,6,6,6,6,6,6,6,6,6,6,6,6,6,7,7,7,7,7,7,7,7,7,7,7,7,7,7,7,7,7,7,7,7,7,7,7,7,7,7,7,7,7,7,7,7,7,7,7,7,7,7,7,7,7,7,7,7,7,7,7,7,7,7,7,7,7,7,7,7,7,7,7,7,7,7,7,7,8,8,8,8,8,8,8,8,8,8,8,8,8,8,8,8,8,8,8,8,8,8,8,8,8,8,8,8,8,8,8,8,8,8,8,8,8,8,8,8,8,8,8,8,8,8,8,8,8,8,8,8,8,8,8,8,8,8,8,8,8,8,8,8,8,8,8,8,8,8,8,8,8,8,8,8,8,8,8,8,8,8,8,8,8,8,8,8,8,8,8,8,8,8,8,8,8,8,8,8,8,8,8,8,8,8,8,8,8,8,8,8,8,8,8,8,8,8,8,8,8,8,8,8,8,8,8,8]⟩:ByteArray)[i]?=some b/\b.toNat<=8/\(i≠0->2 ^ b.toNat<=2*i):=by
 have:=zLx i h;split at this
 ·rename_i b hb;rw[QJ,GM]at this;refine⟨b,hb,QO this.1,fun hi=> ?_⟩;rcases this.2 with h2|h2
  ·exact absurd (QI h2) hi
  ·exact QO h2
 ·cases this
theorem zNE(h:WF)(n:Int)(h0:0<=n)(h1:n<=2000000000):
  WC Tryz.prog tb 232 [.int .u64 n] h fun r h'=>(∃ k:Nat,r=I k/\k<=40/\(n≠0->2 ^ k<=2*n))/\h=h':=by
 refine en ?_;refine VK (fun t h'=>h=h'/\∃ (m:Int) (k:Nat),zC t 0=.int .u64 m/\zC t 2=I k/\(0<=m/\m<=65535/\k<=16)/\(n≠0->m≠0)/\(n≠0->∀ j:Nat,2 ^ j<=2*m->2 ^ (k+j)<=2*n)) ?_ ?_
 ·refine VD (fun hb=> ?_) (fun hb=> ?_)<;>simp only[DB]at hb<;>refine go ?_
  ·refine WO.bin (vx:= .int .u64 n) (vy:= .int .u64 16) zX rfl (zQm h0) ?_;refine go ?_;refine zD ⟨rfl,n / 65536,16,WM,WM,by omega,by omega,fun _ j hj=> ?_⟩;rw[Int.pow_add];have e:(2:Int) ^ 16=65536:=rfl;rw[e];generalize(2:Int) ^ j=z at hj |-;omega
  ·exact zD ⟨rfl,n,0,WM,WM,by omega,id,fun _ j hj=>by rw[Qk];exact hj⟩
 rintro t1 _ hs1 ⟨rfl,m,k,s0,s2,hm,hz,hj⟩;refine go ?_;refine VK (fun t h'=>h=h'/\∃ (m:Int) (k:Nat),zC t 0=.int .u64 m/\zC t 2=I k/\(0<=m/\m<=255/\k<=24)/\(n≠0->m≠0)/\(n≠0->∀ j:Nat,2 ^ j<=2*m->2 ^ (k+j)<=2*n)) ?_ ?_
 ·refine VD (fun hb=> ?_) (fun hb=> ?_)<;>simp only[DB]at hb<;>refine go ?_
  ·refine WO.bin (vx:= .int .u64 m) (vy:= .int .u64 8) zX rfl (zRA hm.1) ?_;refine go ?_;refine zD ⟨rfl,m / 256,k+8,WM,WM,by omega,by omega,fun hn j hj2=> ?_⟩;have:=hj hn (8+j) (by
    rw[Int.pow_add];have e:(2:Int) ^ 8=256:=rfl;rw[e];generalize(2:Int) ^ j=z at hj2 |-;omega)
   rw[Nat.add_assoc];exact this
  ·exact zD ⟨rfl,m,k,WM,WM,by omega,hz,hj⟩
 clear hj hz hm s0 s2;rintro t2 _ hs2 ⟨rfl,m,k,s0,s2,hm,hz,hj⟩;obtain⟨b,hb1,hb2,hb3⟩:=zPI (i:=m.toNat) (by omega);refine go ?_;have e2:BH (.int .u8 m)=some m.toNat:=by
  obtain⟨q,rfl⟩:∃ q:Nat,m=q:=⟨m.toNat,by omega⟩;rfl
 rw[zPl (by omega) (by omega)];refine UW hb1 e2 ?_;refine gr ?_;refine⟨⟨k+b.toNat,by simp[one],by omega,fun hn=>hj hn _ ?_⟩,rfl⟩;have:=hb3 (by have:=hz hn;omega);have h2:((2 ^ b.toNat:Nat):Int)<=((2*m.toNat:Nat):Int):=by exact_mod_cast this
 rw[Int.natCast_pow]at h2;have h3:((2*m.toNat:Nat):Int)=2*m:=by omega
 rw[h3]at h2;exact h2
theorem zNt(h:WF)(n:Int)(h0:0<=n)(h1:n<=2000000000):
  WC Tryz.prog tb 209 [.int .u64 n] h fun r h'=>(∃ k:Nat,r=I k/\k<=40/\(n≠0->2 ^ k<=2*n))/\h=h':=by
 refine en ?_;refine VA (zNE h n h0 h1) ?_;rintro _ _ ⟨⟨k,rfl,hk⟩,rfl⟩;refine gr ?_;exact⟨⟨k,rfl,hk⟩,rfl⟩
theorem zNr(h:WF)(n:Int)(h0:1<=n)(h1:n<=2000000000):
  WC Tryz.prog tb 235 [I n] h fun r h'=>(∃ m:Int,r=.int .u64 m/\1<=m/\m<=2*n)/\h=h':=by
 refine en ?_;rw[Yd (by omega) (by omega)];refine VA (zNt h n (by omega) h1) ?_;rintro _ _ ⟨⟨k,rfl,hk,hk2⟩,rfl⟩;have hk3:=hk2 (by omega);have hpos:(0:Int)<2 ^ k:=Int.pow_pos (by decide);refine go ?_;refine WO.bin (vx:= .int .u64 1) (vy:=I k) (v:= .int .u64 (2 ^ k)) rfl zX (by
  simp only[yC,IntKind.bits];rw[QC (by omega),Q7,GD (by omega),Int.one_mul,Yd (by omega) (by omega)]) ?_
 refine gr ?_;exact⟨⟨_,rfl,by omega,hk3⟩,rfl⟩
theorem zMv(h0 h:WF)(p:Value)(n:Int)(e0:WK h0 h)(hm:h0.mark<=h0.n)(o:WH h0 h p [.int .u64 n]):
  WC Tryz.prog tb 236 [p] h fun r h'=>(∃ m:Int,r=.int .u64 m/\WH h0 h' p [.int .u64 m])/\WK h0 h'/\Ws p h h':=by
 obtain⟨g,rfl⟩:∃ g,p=.pointer (some ⟨g,0,none⟩):=let⟨g,_,_,e,_⟩:=o;⟨g,e⟩;have shl:∀ (a:Int) (b:Int),0<=b->∃ r,yC .shl (.int .u64 a) (.int .u64 b)=some (.int .u64 r):=fun a b hb=>⟨_,by simp only[yC];rw[QC (by omega)]⟩;have shr:∀ (a:Int) (b:Int),0<=b->∃ r,yC .shr (.int .u64 a) (.int .u64 b)=some (.int .u64 r):=fun a b hb=>⟨_,by simp only[yC];rw[QC (by omega)]⟩;have xor:∀ (a b:Int),∃ r,yC .xor (.int .u64 a) (.int .u64 b)=some (.int .u64 r):=fun a b=>⟨_,by simp only[yC,Q9];rfl⟩;refine en ?_;refine VC 0 rfl rfl ?_;have oX:WH h0 (inC (zB 0 h)) (.pointer (some ⟨g,0,none⟩)) [.int .u64 n]:=o;refine Wc ?_;obtain⟨r1,hr1⟩:=shl n 13 (by decide);refine WO.bin zX rfl hr1 ?_;refine nQ ?_;refine Wc ?_;obtain⟨x1,hx1⟩:=xor n r1;refine WO.bin zX zX hx1 ?_;refine nQ ?_;refine Wc ?_;refine XA [.int .u64 x1] o e0 (by rw[e0.mark];exact hm) ?_;intro h1 e1 o1 u1;refine go ?_;refine VC 0 rfl rfl ?_;have oX1:WH h0 (inC (zB 0 h1)) (.pointer (some ⟨g,0,none⟩)) [.int .u64 x1]:=o1;refine Wc ?_;obtain⟨r2,hr2⟩:=shr x1 7 (by decide);refine WO.bin zX rfl hr2 ?_;refine nQ ?_;refine Wc ?_;obtain⟨x2,hx2⟩:=xor x1 r2;refine WO.bin zX zX hx2 ?_;refine nQ ?_;refine Wc ?_;refine XA [.int .u64 x2] o1 e1 (by rw[e1.mark];exact hm) ?_;intro h2 e2 o2 u2;refine go ?_;refine VC 0 rfl rfl ?_;have oX2:WH h0 (inC (zB 0 h2)) (.pointer (some ⟨g,0,none⟩)) [.int .u64 x2]:=o2;refine Wc ?_;obtain⟨r3,hr3⟩:=shl x2 17 (by decide);refine WO.bin zX rfl hr3 ?_;refine nQ ?_;refine Wc ?_;obtain⟨x3,hx3⟩:=xor x2 r3;refine WO.bin zX zX hx3 ?_;refine nQ ?_;refine Wc ?_;refine XA [.int .u64 x3] o2 e2 (by rw[e2.mark];exact hm) ?_;intro h3 e3 o3 u3;refine gr ?_;exact⟨⟨x3,rfl,o3⟩,e3,(u1.trans u2).trans u3⟩
theorem zCf(h0 h:WF)(v p:Value)(xs:List Int)(a b n:Int)(e0:WK h0 h)(s:Wd h0 v xs)(o:WH h0 h p [I n])(hn:0<=n/\n<=1000)(ha:0<=a/\a<xs.length)(hb:0<=b/\b<xs.length):
  WC Tryz.prog tb 241 [v,I a,I b,p] h fun r h'=>(∃ c d m:Int,r=.tuple #[I c,I d]/\((c=a/\d=b)\/(c=b/\d=a))/\(0<=m/\m<=n+1)/\WH h0 h' p [I m])/\WK h0 h':=by
 obtain⟨g,rfl⟩:∃ g,p=.pointer (some ⟨g,0,none⟩):=let⟨g,_,_,e,_⟩:=o;⟨g,e⟩;refine en ?_;refine VC 0 rfl rfl ?_;have srX:Wd (inC (zB 0 h)) v xs:=by have:=s.ext e0;exact this
 refine Wc ?_;refine VA (ZV _ (WT xs b) (WT xs a)) ?_;rintro _ _ ⟨rfl,rfl⟩;refine nQ ?_;refine Wc ?_;rw[zAL];refine VD (fun he=> ?_) (fun he=> ?_)<;>simp only[DB]at he<;>refine go ?_
 ·refine VF o e0 ?_;intro h1 e1 o1 _;refine gr ?_;exact⟨⟨b,a,n+1,rfl,.inr ⟨rfl,rfl⟩,by omega,o1⟩,e1⟩
 ·refine rt ?_;exact⟨⟨a,b,n,rfl,.inl ⟨rfl,rfl⟩,by omega,o⟩,e0⟩
theorem zFd(h0 h:WF)(v p:Value)(xs:List Int)(a b c n:Int)(e0:WK h0 h)(s:Wd h0 v xs)(o:WH h0 h p [I n])(hn:0<=n/\n<=900)(ha:0<=a/\a<xs.length)(hb:0<=b/\b<xs.length)(hc:0<=c/\c<xs.length):
  WC Tryz.prog tb 238 [v,I a,I b,I c,p] h fun r h'=>(∃ d m:Int,r=I d/\(d=a\/d=b\/d=c)/\(0<=m/\m<=n+3)/\WH h0 h' p [I m])/\WK h0 h':=by
 refine en ?_;refine VA (zCf h0 h v p xs a b n e0 s o (by omega) ha hb) ?_;rintro _ h1 ⟨⟨a1,b1,n1,rfl,q1,m1,o1⟩,e1⟩;refine go ?_;refine VA (zCf h0 h1 v p xs b1 c n1 e1 s o1 (by omega) (by omega) hc) ?_;rintro _ h2 ⟨⟨b2,c2,n2,rfl,q2,m2,o2⟩,e2⟩;refine go ?_;refine VA (zCf h0 h2 v p xs a1 b2 n2 e2 s o2 (by omega) (by omega) (by omega)) ?_;rintro _ h3 ⟨⟨a3,b3,n3,rfl,q3,m3,o3⟩,e3⟩;refine gr ?_;exact⟨⟨b3,n3,rfl,by omega,by omega,o3⟩,e3⟩
theorem zAh(h0 h:WF)(v p:Value)(xs:List Int)(a n:Int)(e0:WK h0 h)(s:Wd h0 v xs)(o:WH h0 h p [I n])(hn:0<=n/\n<=900)(ha:1<=a/\a+1<xs.length)(hl:xs.length<=1000000000):
  WC Tryz.prog tb 237 [v,I a,p] h fun r h'=>(∃ d m:Int,r=I d/\(a-1<=d/\d<=a+1)/\(0<=m/\m<=n+3)/\WH h0 h' p [I m])/\WK h0 h':=by
 refine en ?_;refine VA (zFd h0 h v p xs (a-1) a (a+1) n e0 s o hn (by omega) (by omega) (by omega)) ?_;rintro _ h1 ⟨⟨d,m,rfl,q1,m1,o1⟩,e1⟩;refine gr ?_;exact⟨⟨d,m,rfl,by omega,m1,o1⟩,e1⟩
theorem zNI(h:WF)(v:Value)(xs:List Int)(a b:Int)(s:Wd h v xs)(h0:0<=a)(hab:a+12<b)(hb:b<=xs.length)(hlen:xs.length<=1000000000):
  WC Tryz.prog tb 225 [v,I a,I b] h fun r h'=>(∃ d hint:Int,r=.tuple #[I d,I hint]/\(a<=d/\d<b))/\WK h h':=by
 have e4:(b-a).tdiv 4=(b-a) / 4:=G6 (by omega);refine en ?_;refine VJ ?_;intro p h1 e1 o1;refine go ?_;refine WO.quo (a:=b-a) (c:=4) (by decide) (by omega) (by omega) ?_;rw[e4];refine go ?_;refine WO.quo (a:=b-a) (c:=4) (by decide) (by omega) (by omega) ?_;rw[e4];refine go ?_;refine WO.quo (a:=b-a) (c:=4) (by decide) (by omega) (by omega) ?_;rw[e4];refine go ?_;refine VK (fun t h'=>WK h h'/\∃ i j k n:Int,zC t 10=I i/\zC t 11=I j/\zC t 12=I k/\(a<=i/\i<b)/\(a<=j/\j<b)/\(a<=k/\k<b)/\(0<=n/\n<=9)/\WH h h' p [I n]) ?_ ?_
 ·refine VD (fun he=> ?_) (fun he=> ?_)<;>simp only[DB]at he<;>refine go ?_
  ·refine VA (zAh h h1 v p xs (a+(b-a) / 4*1) 0 e1 s o1 (by omega) (by omega) hlen) ?_;rintro _ h2 ⟨⟨i,n1,rfl,q1,m1,o2⟩,e2⟩;refine go ?_;refine VA (zAh h h2 v p xs (a+(b-a) / 4*2) n1 e2 s o2 (by omega) (by omega) hlen) ?_;rintro _ h3 ⟨⟨j,n2,rfl,q2,m2,o3⟩,e3⟩;refine go ?_;refine VA (zAh h h3 v p xs (a+(b-a) / 4*3) n2 e3 s o3 (by omega) (by omega) hlen) ?_;rintro _ h4 ⟨⟨k,n3,rfl,q3,m3,o4⟩,e4⟩;refine go ?_;exact zD ⟨e4,i,j,k,n3,WM,WM,WM,by omega,by omega,by omega,by omega,o4⟩
  ·exact zD ⟨e1,a+(b-a) / 4*1,a+(b-a) / 4*2,a+(b-a) / 4*3,0,WM,WM,WM,by omega,by omega,by omega,by omega,o1⟩
 rintro t5 h5 hs5 ⟨e5,i,j,k,n,s10,s11,s12,hi,hj,hk,hn,o5⟩;refine go ?_;refine VA (zFd h h5 v p xs i j k n e5 s o5 (by omega) (by omega) (by omega) (by omega)) ?_;rintro _ h6 ⟨⟨d,m,rfl,q6,m6,o6⟩,e6⟩;obtain⟨g,rfl⟩:∃ g,p=.pointer (some ⟨g,0,none⟩):=let⟨g,_,_,e,_⟩:=o6;⟨g,e⟩;refine go ?_;refine VD (fun he=> ?_) (fun he=> ?_)<;>simp only[DB]at he<;>refine go ?_
 ·refine rt ?_;exact⟨⟨_,_,rfl,by omega⟩,e6⟩
 refine VD (fun he=> ?_) (fun he=> ?_)<;>simp only[DB]at he<;>refine go ?_<;>refine rt ?_
 ·exact⟨⟨_,_,rfl,by omega⟩,e6⟩
 ·exact⟨⟨_,_,rfl,by omega⟩,e6⟩
theorem zMl(hB h:WF)(v:Value)(xs:List Int)(a b:Int)(e0:WK hB h)(hmB:hB.mark<=hB.n)(o:Wn hB h v xs)(h0:0<=a)(hab:a+12<b)(hb:b<=xs.length)(hlen:xs.length<=1000000000):
  WC Tryz.prog tb 224 [v,I a,I b] h fun r h'=>∃ ys,SS hB h v a b xs ys h':=by
 have e4:(b-a).tdiv 4=(b-a) / 4:=G6 (by omega);have s0:=VU a b o e0;refine en ?_;refine VJ ?_;intro p h1 e1 o1;have s1:=s0.extd e1;obtain⟨g,hg,rfl⟩:∃ g,h.n<=g/\p=.pointer (some ⟨g,0,none⟩):=let⟨g,hg,_,e,_⟩:=o1;⟨g,hg,e⟩;have o1:=o1.since e0;refine go ?_;refine VF o1 s1.ext ?_;intro h2 e2 o2 u2;have s2:=s1.updC o hg e2 u2;refine go ?_;refine VA (zNr h2 (b-a) (by omega) (by omega)) ?_;rintro _ _ ⟨⟨m,rfl,hm1,hm2⟩,rfl⟩;refine go ?_;refine WO.quo (a:=b-a) (c:=4) (by decide) (by omega) (by omega) ?_;rw[e4];refine go ?_;refine VE (fun x=>(b-x.2.1).toNat) (fun(x:List Int×Int×Int) t h4=>SS hB h v a b xs x.1 h4/\zC t 9=I x.2.1/\(a<=x.2.1/\x.2.1<b)/\WH hB h4 (.pointer (some ⟨g,0,none⟩)) [.int .u64 x.2.2]) (xs,a+(b-a) / 4*2-1,IntKind.u64.wrap (b-a)) ?_ ?_
 ·exact⟨s2,WM,by simp only;omega,o2⟩
 rintro⟨ys,i,x⟩ t h4 hsame ⟨s4,s9,hi,o4⟩;simp only at s4 s9 hi o4;have hl4:=s4.len;refine go ?_;refine WO.quo (a:=b-a) (c:=4) (by decide) (by omega) (by omega) ?_;rw[e4];refine go ?_;refine VD (fun he=> ?_) (fun he=> ?_)<;>simp only[DB]at he<;>refine go ?_
 ·refine VA (zMv hB h4 _ x s4.ext hmB o4) ?_;rintro _ h5 ⟨⟨y,rfl,o5⟩,e5,u5⟩;have s5:=s4.updC o hg e5 u5;refine go ?_;refine WO.bin (vy:= .int .u64 1) (v:= .int .u64 (m-1)) zX rfl (by simp only[yC,Q9];rw[Yd (by omega) (by omega)]) ?_;refine go ?_;obtain⟨r,hr,hr0,hr1⟩:=zOw y (m:=m-1) (by omega);refine WO.bin zX zX hr ?_;refine go ?_;refine VK (fun t h'=>h5=h'/\∃ k:Int,zC t 10=I k/\0<=k/\k<b-a) ?_ ?_
  ·refine VD (fun hf=> ?_) (fun hf=> ?_)<;>simp only[DB]at hf<;>refine go ?_
   ·exact zD ⟨rfl,_,WM,by omega,by omega⟩
   ·exact zD ⟨rfl,_,WM,by omega,by omega⟩
  rintro t6 _ hs6 ⟨rfl,k,s10,hk0,hk1⟩;refine go ?_;refine VC 0 rfl rfl ?_;have srX:Wd (inC (zB 0 h5)) v ys:=(s5.own).sl;refine Wc ?_;refine VP (i) (a+k) (s5).own (s5).ext (by rw[(s5).ext.mark];exact hmB) ?_;intro h7 e7 o7 u7;have s7:=s5.swp e7 o7 u7 h0 hb (by omega) (by omega);have o7':=o5.updV o hg u7;refine go ?_;exact zA (swp ys i (a+k),i+1,y) (by simp only;omega) ⟨s7,WM,by simp only;omega,o7'⟩
 ·refine rtN ?_;exact⟨ys,s4⟩
end Go.Proofs.YtmilpkdhbdgjfaaGreatDoor
