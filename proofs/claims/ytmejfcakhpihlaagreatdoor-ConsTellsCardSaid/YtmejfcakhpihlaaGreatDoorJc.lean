/- Walks of functions, plain laws; proves no statement. -/
import Derived.Test.YtmejfcakhpihlaaGreatDoorJb
set_option linter.all false
set_option maxHeartbeats 1000000
namespace Go.Proofs.YtmejfcakhpihlaaGreatDoor
open Go.Am
inductive Wl(nx:Int->List Int)(a:Int):Int->Prop
 |here:Wl nx a a
 |step {b c:Int}:Wl nx a b->c∈nx b->Wl nx a c
theorem Wl.trans{nx:Int->List Int}{a b c:Int}(h:Wl nx a b)(k:Wl nx b c):Wl nx a c:=by
 induction k with
 |here=>exact h
 |step _ hc ih=>exact .step ih hc
def Bg(s:DS)(c:Int):Prop:=(s.1.lookup c).isSome=true
theorem zAY{s:DS}{b v c:Int}{d:List Int}:Bg (s.1++[(b,v)],d) c↔Bg s c\/c=b:=by
 unfold Bg;rw[zAy];cases h:s.1.lookup c with
 |some w=>simp
 |none=>by_cases e:c=b<;>simp[e]
structure B5(nx:Int->List Int)(l:List Int)(s s':DS):Prop where
 mono:∀ c,Bg s c->Bg s' c
 keep:∀ c∈s.2,c∈s'.2
 all:∀ c∈l,Bg s' c
 way:∀ c,Bg s' c->Bg s c\/∃ a∈l,Wl nx a c
 done:∀ c,Bg s' c->Bg s c\/c∈s'.2/\∀ d∈nx c,Bg s' d
 of:∀ c∈s'.2,c∈s.2\/Bg s' c
theorem B5.nil(nx:Int->List Int)(s:DS):B5 nx [] s s:=
 ⟨fun _ h=>h,fun _ h=>h,(fun _ h=>by cases h),fun _ h=> .inl h,fun _ h=> .inl h,fun _ h=> .inl h⟩
theorem B5.cons{nx:Int->List Int}{x:Int}{l:List Int}{s t u:DS}(a:B5 nx [x] s t)(b:B5 nx l t u):B5 nx (x::l) s u where
 mono:=fun c h=>b.mono c (a.mono c h)
 keep:=fun c h=>b.keep c (a.keep c h)
 all:=fun c h=>by
  rcases GG.1 h with rfl|h
  ·exact b.mono _ (a.all _ (by simp))
  ·exact b.all _ h
 way:=fun c h=>by
  rcases b.way c h with h|⟨y,hy,w⟩
  ·rcases a.way c h with h|⟨y,hy,w⟩
   ·exact .inl h
   ·exact .inr ⟨y,by simp at hy;simp[hy],w⟩
  ·exact .inr ⟨y,by simp[hy],w⟩
 done:=fun c h=>by
  rcases b.done c h with h|h
  ·rcases a.done c h with h|⟨h,k⟩
   ·exact .inl h
   ·exact .inr ⟨b.keep _ h,fun d hd=>b.mono _ (k d hd)⟩
  ·exact .inr h
 of:=fun c h=>by
  rcases b.of c h with h|h
  ·rcases a.of c h with h|h
   ·exact .inl h
   ·exact .inr (b.mono _ h)
  ·exact .inr h
theorem zMA{nx:Int->List Int}{N:Nat}(ah:∀ b,0<=b/\b<(N:Int)->∀ c∈nx b,0<=c/\c<(N:Int)):∀ (n:Nat) (b:Int) (s:DS),Bb N s.1<=n->0<=b/\b<(N:Int)->B5 nx [b] s (Zc nx n b s):=by
 intro n;induction n with
 |zero=>
  intro b s h hb;have aC:Bg s b:=zHR (Nat.le_zero.1 h) hb;exact⟨fun _ h=>h,fun _ h=>h,fun c hc=>by simp at hc;subst hc;exact aC,fun _ h=> .inl h,fun _ h=> .inl h,fun _ h=> .inl h⟩
 |succ n ih=>
  intro b s h hb;by_cases aC:Bg s b
  ·rw[zB0 aC];exact⟨fun _ h=>h,fun _ h=>h,fun c hc=>by simp at hc;subst hc;exact aC,fun _ h=> .inl h,fun _ h=> .inl h,fun _ h=> .inl h⟩
  ·have bZ:s.1.lookup b=none:=by
    unfold Bg at aC;cases hq:s.1.lookup b with
    |none=>rfl
    |some w=>rw[hq]at aC;exact absurd rfl aC
   have aL:=zFP (v:=(s.1.length:Int)) bZ hb;have go:∀ (l:List Int) (t:DS),Bb N t.1<=n->(∀ c∈l,0<=c/\c<(N:Int))->B5 nx l t (l.foldl (fun(t:DS) (c:Int)=>Zc nx n c t) t):=by
    intro l;induction l with
    |nil=>intro t _ _;exact .nil _ _
    |cons x l cI=>
     intro t ht hl;have hx:=ih x t ht (hl x (by simp));exact hx.cons (cI _ (QP (zC3 fun c hc=>hx.mono c hc) ht) fun c hc=>hl c (by simp[hc]))
   have k:=go (nx b) (s.1++[(b,(s.1.length:Int))],s.2) (by simp only;omega) (ah b hb);have hu:Zc nx (n+1) b s=(((nx b).foldl (fun(t:DS) (c:Int)=>Zc nx n c t) (s.1++[(b,(s.1.length:Int))],s.2)).1,((nx b).foldl (fun(t:DS) (c:Int)=>Zc nx n c t) (s.1++[(b,(s.1.length:Int))],s.2)).2++[b]):=by
    conv=>lhs;unfold Zc
    rw[QC (by rw[bZ];exact Bool.noConfusion)]
   rw[hu];generalize(nx b).foldl (fun(t:DS) (c:Int)=>Zc nx n c t) (s.1++[(b,(s.1.length:Int))],s.2)=t at k |-;have aI:Bg t b:=k.mono _ (zAY.2 (.inr rfl));refine⟨fun c h=>k.mono _ (zAY.2 (.inl h)),fun c h=>by simp only[Qs];exact .inl (k.keep c h),fun c hc=>by simp at hc;subst hc;exact aI,fun c hc=> ?_,fun c hc=> ?_,fun c hc=> ?_⟩
   ·rcases k.way c hc with h|⟨a,ha,w⟩
    ·rcases zAY.1 h with h|rfl
     ·exact .inl h
     ·exact .inr ⟨c,by simp,.here⟩
    ·exact .inr ⟨b,by simp,Wl.trans (.step .here ha) w⟩
   ·rcases k.done c hc with h|⟨h,hd⟩
    ·rcases zAY.1 h with h|rfl
     ·exact .inl h
     ·exact .inr ⟨by simp,fun d hd=>k.all d hd⟩
    ·exact .inr ⟨by simp only[Qs];exact .inl h,hd⟩
   ·simp only[Qs,QZ]at hc;rcases hc with hc|rfl
    ·exact k.of c hc
    ·exact .inr aI
theorem zDS{nx:Int->List Int}{N n:Nat}(ah:∀ b,0<=b/\b<(N:Int)->∀ c∈nx b,0<=c/\c<(N:Int)):∀ (l:List Int) (s:DS),Bb N s.1<=n->(∀ c∈l,0<=c/\c<(N:Int))->B5 nx l s (YB nx n l s)
 |[],s,_,_=> .nil _ _
 |x::l,s,h,hl=>by
  have hx:=zMA ah n x s h (hl x (by simp));exact hx.cons (zDS ah l _ (QP (zC3 fun c hc=>hx.mono c hc) h) fun c hc=>hl c (by simp[hc]))
theorem zKb{nx:Int->List Int}{N:Nat}(ah:∀ b,0<=b/\b<(N:Int)->∀ c∈nx b,0<=c/\c<(N:Int)){l:List Int}(hl:∀ c∈l,0<=c/\c<(N:Int)){c:Int}:c∈(YB nx N l ([],[])).2↔∃ a∈l,Wl nx a c:=by
 have k:=zDS (n:=N) ah l ([],[]) (zEZ _ _) hl;have no:∀ d,¬Bg (([],[]):DS) d:=fun d h=>by unfold Bg at h;exact Bool.noConfusion h
 constructor
 ·intro h;rcases k.of c h with h|h
  ·cases h
  ·rcases k.way c h with h|h
   ·exact absurd h (no _)
   ·exact h
 ·rintro⟨a,ha,w⟩;have:Bg (YB nx N l ([],[])) c:=by
   induction w with
   |here=>exact k.all _ ha
   |step _ hc ih=>
    rcases k.done _ ih with h|⟨_,h⟩
    ·exact absurd h (no _)
    ·exact h _ hc
  rcases k.done c this with h|h
  ·exact absurd h (no _)
  ·exact h.1
end Go.Proofs.YtmejfcakhpihlaaGreatDoor
set_option maxRecDepth 100000
namespace Go.Proofs.YtmejfcakhpihlaaGreatDoor
open Go.Am
def zW(L:List Wc)(b:Int)(k:Nat):List Int:=((List.range k).filter fun(i:Nat)=>decide (b∈ZU (L.getD i default).fin)).map fun(i:Nat)=>(i:Int)
theorem zBW(L:List Wc)(b:Int)(k:Nat):zW L b (k+1)=if b∈ZU (L.getD k default).fin then zW L b k++[(k:Int)]else zW L b k:=by
 unfold zW;rw[G3,List.filter_append,Qx];by_cases h:b∈ZU (L.getD k default).fin
 ·rw[QF h,List.filter_cons_of_pos (by simpa using h)];rfl
 ·rw[QC h,List.filter_cons_of_neg (by simpa using h)];simp
theorem zAJ(L:List Wc)(b:Int)(k:Nat):(zW L b k).length<=k:=by
 unfold zW;rw[Qi];exact QP (List.length_filter_le _ _) (by simp)
def Yc(T:List WE)(F:List Wa)(f b:Int):List Int×Int:=
 if(zG T F f b).2≠0 then([],(zG T F f b).2)else(zW (zG T F f b).1 b (zG T F f b).1.length,0)
theorem zNi(h:WA)(vt vf:Value)(T:List WE)(F:List Wa)(f b:Int)(tt:Br h)(hm:h.mark<=h.n)(sm:BC T F)(st:Wu h vt T)(sf:Wo h vf F):
  WC Tryz.prog tb 123 [.agg #[vt,vf],I f,I b] h fun r h'=>(∃ v,r=.tuple #[v,I (Yc T F f b).2]/\WL h h' v (Yc T F f b).1)/\Ext h h':=by
 refine en ?_;refine VF ?_;intro p h1 e1 o1;refine go ?_;refine VA (zDX h1 vt vf T F f b (tt.ext e1) (zp e1 hm) sm (st.ext e1) (Wo.ext sf e1)) ?_;rintro _ h2 ⟨⟨v,rfl,sb⟩,e2⟩;have az:=e1.trans e2;refine go ?_;refine VE (fun hb=> ?_) (fun hb=> ?_)<;>simp only[DB]at hb<;>refine go ?_
 ·refine rt ?_;rw[show Yc T F f b=([],(zG T F f b).2)from by rw[Yc,QF hb]];exact⟨⟨_,rfl,.inl ⟨rfl,rfl⟩⟩,az⟩
 have aQ:(zG T F f b).2=0:=by omega
 obtain⟨hlen,fe⟩:=Ze aQ;rw[show Yc T F f b=(zW (zG T F f b).1 b (zG T F f b).1.length,0)from by rw[Yc,QC (by omega)]];generalize(zG T F f b).1=L at *;refine VD (fun k=>L.length-k) (fun k t h3=>zC t 23=I k/\k<=L.length/\Ext h2 h3/\∃ w,zC t 6=w/\WL h2 h3 w (zW L b k)) 0 ?_ ?_
 ·exact⟨WH,QK _,Ext.refl _,.slice none 0 0,WH,.inl ⟨rfl,rfl⟩⟩
 rintro k t h3 ab ⟨s23,hk,d7,w,s6,ow⟩;have nR:=Wv.ext sb d7;refine go ?_;refine VE (fun hc=> ?_) (fun hc=> ?_)<;>simp only[DB]at hc
 ·have bK:k<L.length:=by omega
  obtain⟨cs,⟨vi,rfl,si,vQ⟩,pc,hs⟩:=zq nR bK;obtain⟨_,_,_,rfl⟩:=zD si;refine go ?_;refine WO.al ?_;intro p4 h4 e4 o4;refine go ?_;refine VH o4 e4 ?_;intro h5 e5 o5 _;refine go ?_;refine VA (zKZ h5 (L.getD k default).fin) ?_;rintro r h6 ⟨Oe,_,e6⟩;have ez:=zDH (L.getD k default).fin;refine go ?_;refine VA (zAW h6 r _ b Oe (by omega)) ?_;rintro _ _ ⟨rfl,rfl⟩;have KC:=(ow.ext e5).ext e6;have mg:=e5.trans e6;have au:=zBW L b k;have jT:=zAJ L b k;refine go ?_;refine VE (fun hd=> ?_) (fun hd=> ?_)<;>simp only[DB]at hd<;>refine go ?_
  ·rw[QF hd]at au;refine WO.bl [(k:Int)] ?_;intro v7 h7 e7 o7;refine go ?_;refine VN (KC.ext e7) o7.sl ((d7.trans mg).trans e7) (by simp only[QV];omega) ?_;intro v8 h8 e8 o8;refine go ?_;exact zA (k+1) (by omega) ⟨Wn,by omega,e8,v8,WH,by rw[au];exact o8⟩
  ·rw[QC hd]at au;exact zA (k+1) (by omega) ⟨Wn,by omega,d7.trans mg,w,WH,by rw[au];exact KC⟩
 ·have jC:k=L.length:=by omega
  subst jC;refine gr ?_;exact⟨⟨_,rfl,ow.since az⟩,az.trans d7⟩
end Go.Proofs.YtmejfcakhpihlaaGreatDoor
set_option maxRecDepth 100000
namespace Go.Proofs.YtmejfcakhpihlaaGreatDoor
open Go.Am
theorem zNI(h:WA)(n:Int):WC Tryz.prog tb 256 [I n] h fun r h'=>r=.bool false/\h=h':=by
 refine en ?_;refine rt ?_;exact⟨by simp[one],rfl⟩
theorem Z9(h:WA)(a b:Int):WC Tryz.prog tb 242 [I a,I b] h fun r h'=>r=.bool (decide (a<b))/\h=h':=by
 refine en ?_;refine VA (zNI h a) ?_;rintro _ _ ⟨rfl,rfl⟩;refine gr ?_;exact⟨by simp[one],rfl⟩
theorem zG5(hB h:WA)(v:Value)(xs:List Int)(a b:Int)(e0:Ext hB h)(bU:hB.mark<=hB.n)(o:Wq hB h v xs)(h0:0<=a)(du:a<=b)(hb:b<=xs.length)(hlen:xs.length<=1000000000):
  WC Tryz.prog tb 236 [v,I a,I b] h fun r h'=>∃ ys,Wq hB h' v ys/\PI a b xs ys/\Bn a b ys/\Ext hB h'/\Bh v h h':=by
 refine en ?_;refine VD (fun x=>(b-x.2).toNat) (fun(x:List Int×Int) t h1=>zC t 6=I x.2/\a+1<=x.2/\(x.2<=b\/x.2=a+1)/\Wq hB h1 v x.1/\Ext hB h1/\Bh v h h1/\PI a b xs x.1/\Bn a x.2 x.1) (xs,a+1) ?_ ?_
 ·exact⟨WH,by simp only;omega,.inr rfl,o,e0,⟨QE _,fun _ _ _=>rfl⟩,PI.refl ..,Vb (by simp only;omega)⟩
 rintro⟨ys,i⟩ t h1 ab ⟨s6,qT,dt,o1,e1,u1,p1,r1⟩;simp only at s6 qT dt o1 e1 u1 p1 r1;have JW:=p1.len;refine go ?_;refine VE (fun hc=> ?_) (fun hc=> ?_)<;>simp only[DB]at hc
 ·refine go ?_;refine VD (fun x=>(x.2-a).toNat) (fun(x:List Int×Int) t h2=>zC t 7=I x.2/\a<=x.2/\x.2<=i/\Wq hB h2 v x.1/\Ext hB h2/\Bh v h h2/\PI a b xs x.1/\∀ p q,a<=p->p<=q->q<=i->q≠x.2->WZ x.1 p<=WZ x.1 q) (ys,i) ?_ ?_
  ·exact⟨WH,by simp only;omega,by simp only;omega,o1,e1,u1,p1,fun p q h1 h2 h3 h4=>r1 p q h1 h2 (by simp only at h4;omega)⟩
  rintro⟨zs,j⟩ t2 h2 aZ ⟨s7,gK,gh,o2,e2,u2,p2,r2⟩;simp only at s7 gK gh o2 e2 u2 p2 r2;have JV:=p2.len;refine goC ?_;refine VC 0 rfl rfl ?_;have sr:WQ (inC (zB 0 h2)) v zs:=o2.sl;refine WJ ?_;refine VJ (fun hd=> ?_) (fun hd=> ?_)<;>simp only[DB]at hd<;>refine WJ ?_
  ·refine VA (Z9 _ (WZ zs j) (WZ zs (j-1))) ?_;rintro _ _ ⟨rfl,rfl⟩;refine nQ ?_;refine WJ ?_;rw[zBX];refine VE (fun he=> ?_) (fun he=> ?_)<;>simp only[DB]at he<;>refine goC ?_
   ·refine VC 0 rfl rfl ?_;have sr2:WQ (inC (zB 0 h2)) v zs:=o2.sl;refine WJ ?_;refine VU j (j-1) o2 e2 (by rw[e2.mark];exact bU) ?_;intro h3 e3 o3 u3;refine go ?_;exact zA (swp zs j (j-1),j-1) (by simp only;omega) ⟨WH,by simp only;omega,by simp only;omega,o3,e3,u2.trans u3,p2.trans (PI.swp (by omega) (by omega) (by omega) (by omega)),zHh h0 hd gh (by omega) he r2⟩
   ·refine go ?_;refine zA (zs,i+1) (by simp only;omega) ⟨WH,by simp only;omega,by simp only;omega,o2,e2,u2,p2,fun p q h1 h2 h3=> ?_⟩;by_cases hq:q=j
    ·subst hq;by_cases hp:p=q
     ·subst hp;exact Ql _
     ·have:=r2 p (q-1) h1 (by omega) (by omega) (by omega);simp only;omega
    ·exact r2 p q h1 h2 (by simp only at h3;omega) hq
  ·rw[zBX];refine goC ?_;refine zA (zs,i+1) (by simp only;omega) ⟨WH,by simp only;omega,by simp only;omega,o2,e2,u2,p2,fun p q h1 h2 h3=> ?_⟩;by_cases hq:q=j
   ·have hp:p=q:=by omega
    subst hp;exact Ql _
   ·exact r2 p q h1 h2 (by simp only at h3;omega) hq
 ·refine go ?_;refine BP ?_;exact⟨ys,o1,p1,fun p q h1 h2 h3=>r1 p q h1 h2 (by omega),e1,u1⟩
end Go.Proofs.YtmejfcakhpihlaaGreatDoor
set_option maxRecDepth 100000
namespace Go.Proofs.YtmejfcakhpihlaaGreatDoor
open Go.Am
theorem zGZ(hB h:WA)(v:Value)(xs:List Int)(a b pv:Int)(e0:Ext hB h)(bU:hB.mark<=hB.n)(o:Wq hB h v xs)(h0:0<=a)(hp:a<=pv/\pv<b)(hb:b<=xs.length)(hlen:xs.length<=1000000000):
  WC Tryz.prog tb 244 [v,I a,I b,I pv] h fun r h'=>∃ ys m w,r=.tuple #[I m,.bool w]/\SS hB h v a b xs ys h'/\(a<=m/\m<b)/\(∀ k,a<=k->k<m->WZ ys k<=WZ ys m)/\(∀ k,m<k->k<b->WZ ys m<=WZ ys k):=by
 have s0:=VZ a b o e0;refine en ?_;refine VC 0 rfl rfl ?_;have fx:WQ (inC (zB 0 h)) v xs:=(o).sl;refine WJ ?_;refine VU (a) (pv) (s0).own (s0).ext (by rw[(s0).ext.mark];exact bU) ?_;intro h1 e1 o1 u1;have s1:=s0.swp e1 o1 u1 h0 hb (by omega) (by omega);clear o1 e1 u1;generalize swp xs a pv=ys at s1;have eD:=s1.len;refine go ?_;refine VD (fun i=>(b-i).toNat) (fun(i:Int) t h2=>h1=h2/\zC t 10=I i/\(a+1<=i/\i<=b)/\∀ k,a<k->k<i->WZ ys k<WZ ys a) (a+1) ?_ ?_
 ·exact⟨rfl,WH,by omega,fun k h1 h2=>by omega⟩
 rintro i t _ ab ⟨rfl,iY,hi,ag⟩;refine go ?_;refine VL (fun t h'=>h1=h'/\zC t 43=.bool (decide (i<=b-1/\(WZ ys i<WZ ys a)))) ?_ ?_
 ·refine VC 0 rfl rfl ?_;have fx:WQ (inC (zB 0 h1)) v ys:=(s1.own).sl;refine WJ ?_;refine VJ (fun hd=> ?_) (fun hd=> ?_)<;>simp only[DB]at hd<;>refine WJ ?_
  ·refine VA (Z9 _ (WZ ys i) (WZ ys a)) ?_;rintro _ _ ⟨rfl,rfl⟩;refine nQ ?_;refine WJ ?_;exact zK ⟨rfl,by rw[show decide (i<=b-1/\(WZ ys i<WZ ys a))=decide (WZ ys i<WZ ys a)from zGi hd];exact WH⟩
  ·exact zK ⟨rfl,by rw[show decide (i<=b-1/\(WZ ys i<WZ ys a))=false from QY (fun hh=>absurd hh.1 (by omega))];exact WH⟩
 rintro t2 _ eW ⟨rfl,q2⟩;refine go ?_;refine VE (fun he=> ?_) (fun he=> ?_)<;>simp only[DB]at he
 ·refine go ?_;refine zA (i+1) (by omega) ⟨rfl,WH,by omega,fun k h1 h2=> ?_⟩;by_cases e:k=i
  ·rw[e];exact he.2
  ·exact ag k h1 (by omega)
 refine go ?_;refine VD (fun j=>(j+1-a).toNat) (fun(j:Int) t h2=>h1=h2/\zC t 11=I j/\(i-1<=j/\j<=b-1)/\∀ k,j<k->k<b->WZ ys a<=WZ ys k) (b-1) ?_ ?_
 ·exact⟨rfl,WH,by omega,fun k h1 h2=>by omega⟩
 rintro j t _ ab ⟨rfl,kS,hj,dd⟩;refine go ?_;refine VL (fun t h'=>h1=h'/\zC t 60=.bool (decide (i<=j/\¬(WZ ys j<WZ ys a)))) ?_ ?_
 ·refine VC 0 rfl rfl ?_;have fx:WQ (inC (zB 0 h1)) v ys:=(s1.own).sl;refine WJ ?_;refine VJ (fun hd=> ?_) (fun hd=> ?_)<;>simp only[DB]at hd<;>refine WJ ?_
  ·refine VA (Z9 _ (WZ ys j) (WZ ys a)) ?_;rintro _ _ ⟨rfl,rfl⟩;refine nQ ?_;refine WJ ?_;exact zK ⟨rfl,by rw[show decide (i<=j/\¬(WZ ys j<WZ ys a))= !decide (WZ ys j<WZ ys a)from zCa hd];exact WH⟩
  ·exact zK ⟨rfl,by rw[show decide (i<=j/\¬(WZ ys j<WZ ys a))=false from QY (fun hh=>absurd hh.1 (by omega))];exact WH⟩
 rintro t3 _ xB ⟨rfl,q3⟩;refine go ?_;refine VE (fun hf=> ?_) (fun hf=> ?_)<;>simp only[DB]at hf
 ·refine go ?_;refine zA (j-1) (by omega) ⟨rfl,WH,by omega,fun k h1 h2=> ?_⟩;by_cases e:k=j
  ·rw[e];omega
  ·exact dd k (by omega) h2
 refine go ?_;refine VE (fun hg=> ?_) (fun hg=> ?_)<;>simp only[DB]at hg
 ·refine go ?_;refine VC 0 rfl rfl ?_;have fx:WQ (inC (zB 0 h1)) v ys:=(s1.own).sl;refine WJ ?_;refine VU (j) (a) (s1).own (s1).ext (by rw[(s1).ext.mark];exact bU) ?_;intro h3 e3 o3 u3;have s3:=s1.swp e3 o3 u3 h0 hb (by omega) (by omega);refine gr ?_;refine⟨_,_,_,rfl,s3,by omega,fun k h1 h2=> ?_,fun k h1 h2=> ?_⟩
  ·rw[yy (by omega) (by omega) (by omega),yy (by omega) (by omega) (by omega)];by_cases e:k=a
   ·rw[QF e,QC (by omega),QF rfl];have:=ag j (by omega) (by omega);omega
   ·rw[QC e,QC (by omega),QC (by omega),QF rfl];have:=ag k (by omega) (by omega);omega
  ·rw[yy (by omega) (by omega) (by omega),yy (by omega) (by omega) (by omega)];rw[QC (by omega:¬k=a),QC (by omega:¬k=j)];have:=dd k (by omega) (by omega);by_cases e:j=a
   ·rw[QF e,e];exact this
   ·rw[QC e,QF rfl];exact this
 refine go ?_;refine VC 0 rfl rfl ?_;have fx:WQ (inC (zB 0 h1)) v ys:=(s1.own).sl;refine WJ ?_;refine VU (i) (j) (s1).own (s1).ext (by rw[(s1).ext.mark];exact bU) ?_;intro h3 e3 o3 u3;have s3:=s1.swp e3 o3 u3 h0 hb (by omega) (by omega);have dt:¬WZ ys i<WZ ys a:=fun hh=>he ⟨by omega,hh⟩;have gh:WZ ys j<WZ ys a:=Int.not_le.1 fun hh=>hf ⟨by omega,hh⟩;have ly:i≠j:=fun e=>by subst e;exact dt gh
 have hP:(a+1<=i+1/\i+1<=j-1+1/\j-1<=b-1)/\(∀ k,a<k->k<i+1->WZ (swp ys i j) k<WZ (swp ys i j) a)/\∀ k,j-1<k->k<b->WZ (swp ys i j) a<=WZ (swp ys i j) k:=by
  have ea:WZ (swp ys i j) a=WZ ys a:=by rw[yy (by omega) (by omega) (by omega),QC (by omega),QC (by omega)]
  rw[ea];refine⟨by omega,fun k h1 h2=> ?_,fun k h1 h2=> ?_⟩
  ·rw[yy (by omega) (by omega) (by omega),QC (by omega)];by_cases e:k=i
   ·rw[QF e];exact gh
   ·rw[QC e];exact ag k h1 (by omega)
  ·rw[yy (by omega) (by omega) (by omega)];by_cases e:k=j
   ·rw[QF e];omega
   ·rw[QC e,QC (by omega)];exact dd k (by omega) h2
 clear o3 e3 u3 ag dd;generalize swp ys i j=zs at s3 hP;refine go ?_;refine VD (fun x=>(x.2.2+1-x.2.1).toNat) (fun(x:List Int×Int×Int) t h4=>SS hB h v a b xs x.1 h4/\zC t 10=I x.2.1/\zC t 11=I x.2.2/\(a+1<=x.2.1/\x.2.1<=x.2.2+1/\x.2.2<=b-1)/\(∀ k,a<k->k<x.2.1->WZ x.1 k<WZ x.1 a)/\∀ k,x.2.2<k->k<b->WZ x.1 a<=WZ x.1 k) (zs,i+1,j-1) ?_ ?_
 ·exact⟨s3,WH,WH,hP.1,hP.2.1,hP.2.2⟩
 clear hP s3 iY kS he hf hg dt gh ly q2 q3 hi hj;rintro⟨ws,p,q⟩ t h4 ab ⟨s4,iY,kS,xP,ag,dd⟩;simp only at s4 iY kS xP ag dd;have vX:=s4.len;refine go ?_;refine VD (fun i=>(b-i).toNat) (fun(i:Int) t h2=>h4=h2/\zC t 10=I i/\(p<=i/\i<=q+1)/\∀ k,a<k->k<i->WZ ws k<WZ ws a) p ?_ ?_
 ·exact⟨rfl,WH,by omega,ag⟩
 rintro i2 t _ ab ⟨rfl,iY,hi,d9⟩;refine go ?_;refine VL (fun t h'=>h4=h'/\zC t 112=.bool (decide (i2<=q/\(WZ ws i2<WZ ws a)))) ?_ ?_
 ·refine VC 0 rfl rfl ?_;have fx:WQ (inC (zB 0 h4)) v ws:=(s4.own).sl;refine WJ ?_;refine VJ (fun hd=> ?_) (fun hd=> ?_)<;>simp only[DB]at hd<;>refine WJ ?_
  ·refine VA (Z9 _ (WZ ws i2) (WZ ws a)) ?_;rintro _ _ ⟨rfl,rfl⟩;refine nQ ?_;refine WJ ?_;exact zK ⟨rfl,by rw[show decide (i2<=q/\(WZ ws i2<WZ ws a))=decide (WZ ws i2<WZ ws a)from zGi hd];exact WH⟩
  ·exact zK ⟨rfl,by rw[show decide (i2<=q/\(WZ ws i2<WZ ws a))=false from QY (fun hh=>absurd hh.1 (by omega))];exact WH⟩
 rintro t5 _ vV ⟨rfl,q5⟩;refine go ?_;refine VE (fun he=> ?_) (fun he=> ?_)<;>simp only[DB]at he
 ·refine go ?_;refine zA (i2+1) (by omega) ⟨rfl,WH,by omega,fun k h1 h2=> ?_⟩;by_cases e:k=i2
  ·rw[e];exact he.2
  ·exact d9 k h1 (by omega)
 refine go ?_;refine VD (fun j=>(j+1-a).toNat) (fun(j:Int) t h2=>h4=h2/\zC t 11=I j/\(i2-1<=j/\j<=q)/\∀ k,j<k->k<b->WZ ws a<=WZ ws k) q ?_ ?_
 ·exact⟨rfl,WH,by omega,dd⟩
 rintro j2 t _ ab ⟨rfl,kS,hj,dr⟩;refine go ?_;refine VL (fun t h'=>h4=h'/\zC t 129=.bool (decide (i2<=j2/\¬(WZ ws j2<WZ ws a)))) ?_ ?_
 ·refine VC 0 rfl rfl ?_;have fx:WQ (inC (zB 0 h4)) v ws:=(s4.own).sl;refine WJ ?_;refine VJ (fun hd=> ?_) (fun hd=> ?_)<;>simp only[DB]at hd<;>refine WJ ?_
  ·refine VA (Z9 _ (WZ ws j2) (WZ ws a)) ?_;rintro _ _ ⟨rfl,rfl⟩;refine nQ ?_;refine WJ ?_;exact zK ⟨rfl,by rw[show decide (i2<=j2/\¬(WZ ws j2<WZ ws a))= !decide (WZ ws j2<WZ ws a)from zCa hd];exact WH⟩
  ·exact zK ⟨rfl,by rw[show decide (i2<=j2/\¬(WZ ws j2<WZ ws a))=false from QY (fun hh=>absurd hh.1 (by omega))];exact WH⟩
 rintro t6 _ vW ⟨rfl,q6⟩;refine go ?_;refine VE (fun hf=> ?_) (fun hf=> ?_)<;>simp only[DB]at hf
 ·refine go ?_;refine zA (j2-1) (by omega) ⟨rfl,WH,by omega,fun k h1 h2=> ?_⟩;by_cases e:k=j2
  ·rw[e];omega
  ·exact dr k (by omega) h2
 refine go ?_;refine VE (fun hg=> ?_) (fun hg=> ?_)<;>simp only[DB]at hg
 ·refine go ?_;refine VC 0 rfl rfl ?_;have fx:WQ (inC (zB 0 h4)) v ws:=(s4.own).sl;refine WJ ?_;refine VU (j2) (a) (s4).own (s4).ext (by rw[(s4).ext.mark];exact bU) ?_;intro h3 e3 o3 u3;have s3:=s4.swp e3 o3 u3 h0 hb (by omega) (by omega);refine gr ?_;refine⟨_,_,_,rfl,s3,by omega,fun k h1 h2=> ?_,fun k h1 h2=> ?_⟩
  ·rw[yy (by omega) (by omega) (by omega),yy (by omega) (by omega) (by omega)];by_cases e:k=a
   ·rw[QF e,QC (by omega),QF rfl];have:=d9 j2 (by omega) (by omega);omega
   ·rw[QC e,QC (by omega),QC (by omega),QF rfl];have:=d9 k (by omega) (by omega);omega
  ·rw[yy (by omega) (by omega) (by omega),yy (by omega) (by omega) (by omega)];rw[QC (by omega:¬k=a),QC (by omega:¬k=j2)];have:=dr k (by omega) (by omega);by_cases e:j2=a
   ·rw[QF e,e];exact this
   ·rw[QC e,QF rfl];exact this
 refine go ?_;refine VC 0 rfl rfl ?_;have fx:WQ (inC (zB 0 h4)) v ws:=(s4.own).sl;refine WJ ?_;refine VU (i2) (j2) (s4).own (s4).ext (by rw[(s4).ext.mark];exact bU) ?_;intro h3 e3 o3 u3;have s3:=s4.swp e3 o3 u3 h0 hb (by omega) (by omega);have dt:¬WZ ws i2<WZ ws a:=fun hh=>he ⟨by omega,hh⟩;have gh:WZ ws j2<WZ ws a:=Int.not_le.1 fun hh=>hf ⟨by omega,hh⟩;have ly:i2≠j2:=fun e=>by subst e;exact dt gh
 have ea:WZ (swp ws i2 j2) a=WZ ws a:=by rw[yy (by omega) (by omega) (by omega),QC (by omega),QC (by omega)]
 refine go ?_;refine zA (swp ws i2 j2,i2+1,j2-1) (by simp only;omega) ⟨s3,WH,WH,by simp only;omega,fun k h1 h2=> ?_,fun k h1 h2=> ?_⟩
 ·simp only at h2 |-;rw[ea,yy (by omega) (by omega) (by omega),QC (by omega)];by_cases e:k=i2
  ·rw[QF e];exact gh
  ·rw[QC e];exact d9 k h1 (by omega)
 ·simp only at h1 |-;rw[ea,yy (by omega) (by omega) (by omega)];by_cases e:k=j2
  ·rw[QF e];omega
  ·rw[QC e,QC (by omega)];exact dr k (by omega) h2
end Go.Proofs.YtmejfcakhpihlaaGreatDoor
set_option maxRecDepth 100000
namespace Go.Proofs.YtmejfcakhpihlaaGreatDoor
open Go.Am
theorem zGg(hB h:WA)(v:Value)(xs:List Int)(a b pv:Int)(e0:Ext hB h)(bU:hB.mark<=hB.n)(o:Wq hB h v xs)(h0:0<=a)(hp:a<=pv/\pv<b)(hb:b<=xs.length)(hlen:xs.length<=1000000000):
  WC Tryz.prog tb 243 [v,I a,I b,I pv] h fun r h'=>∃ ys m,r=I m/\SS hB h v a b xs ys h'/\(a+1<=m/\m<=b)/\(∀ k,a<=k->k<m->WZ ys k<=WZ xs pv)/\(∀ k,m<=k->k<b->WZ xs pv<WZ ys k):=by
 have s0:=VZ a b o e0;refine en ?_;refine VC 0 rfl rfl ?_;have fx:WQ (inC (zB 0 h)) v xs:=(o).sl;refine WJ ?_;refine VU (a) (pv) (s0).own (s0).ext (by rw[(s0).ext.mark];exact bU) ?_;intro h1 e1 o1 u1;have s1:=s0.swp e1 o1 u1 h0 hb (by omega) (by omega);clear o1 e1 u1;have ha:WZ (swp xs a pv) a=WZ xs pv:=by
  rw[yy (by omega) (by omega) (by omega)];by_cases e:a=pv
  ·rw[QF e,e]
  ·rw[QC e,QF rfl]
 generalize swp xs a pv=ys at s1 ha;generalize WZ xs pv=P at ha |-;have eD:=s1.len;refine go ?_;refine VD (fun x=>(x.2.2+1-x.2.1).toNat) (fun(x:List Int×Int×Int) t h4=>SS hB h v a b xs x.1 h4/\zC t 9=I x.2.1/\zC t 10=I x.2.2/\(a+1<=x.2.1/\x.2.1<=x.2.2+1/\x.2.2<=b-1)/\WZ x.1 a=P/\(∀ k,a<k->k<x.2.1->WZ x.1 k<=P)/\∀ k,x.2.2<k->k<b->P<WZ x.1 k) (ys,a+1,b-1) ?_ ?_
 ·exact⟨s1,WH,WH,by simp only;omega,ha,fun k h1 h2=>by simp only at h2;omega,fun k h1 h2=>by simp only at h1;omega⟩
 clear s1 ha eD;rintro⟨ws,p,q⟩ t h4 ab ⟨s4,s9,iY,xP,ha,ag,dd⟩;simp only at s4 s9 iY xP ha ag dd;have vX:=s4.len;refine go ?_;refine VD (fun i=>(b-i).toNat) (fun(i:Int) t h2=>h4=h2/\zC t 9=I i/\(p<=i/\i<=q+1)/\∀ k,a<k->k<i->WZ ws k<=P) p ?_ ?_
 ·exact⟨rfl,WH,by omega,ag⟩
 rintro i2 t _ ab ⟨rfl,s9,hi,d9⟩;refine go ?_;refine VL (fun t h'=>h4=h'/\zC t 43=.bool (decide (i2<=q/\¬(WZ ws a<WZ ws i2)))) ?_ ?_
 ·refine VC 0 rfl rfl ?_;have fx:WQ (inC (zB 0 h4)) v ws:=(s4.own).sl;refine WJ ?_;refine VJ (fun hd=> ?_) (fun hd=> ?_)<;>simp only[DB]at hd<;>refine WJ ?_
  ·refine VA (Z9 _ (WZ ws a) (WZ ws i2)) ?_;rintro _ _ ⟨rfl,rfl⟩;refine nQ ?_;refine WJ ?_;exact zK ⟨rfl,by rw[show decide (i2<=q/\¬(WZ ws a<WZ ws i2))= !decide (WZ ws a<WZ ws i2)from zCa hd];exact WH⟩
  ·exact zK ⟨rfl,by rw[show decide (i2<=q/\¬(WZ ws a<WZ ws i2))=false from QY (fun hh=>absurd hh.1 (by omega))];exact WH⟩
 rintro t5 _ vV ⟨rfl,q5⟩;refine go ?_;refine VE (fun he=> ?_) (fun he=> ?_)<;>simp only[DB]at he
 ·refine go ?_;refine zA (i2+1) (by omega) ⟨rfl,WH,by omega,fun k h1 h2=> ?_⟩;by_cases e:k=i2
  ·rw[e];omega
  ·exact d9 k h1 (by omega)
 refine go ?_;refine VD (fun j=>(j+1-a).toNat) (fun(j:Int) t h2=>h4=h2/\zC t 10=I j/\(i2-1<=j/\j<=q)/\∀ k,j<k->k<b->P<WZ ws k) q ?_ ?_
 ·exact⟨rfl,WH,by omega,dd⟩
 rintro j2 t _ ab ⟨rfl,iY,hj,dr⟩;refine go ?_;refine VL (fun t h'=>h4=h'/\zC t 59=.bool (decide (i2<=j2/\(WZ ws a<WZ ws j2)))) ?_ ?_
 ·refine VC 0 rfl rfl ?_;have fx:WQ (inC (zB 0 h4)) v ws:=(s4.own).sl;refine WJ ?_;refine VJ (fun hd=> ?_) (fun hd=> ?_)<;>simp only[DB]at hd<;>refine WJ ?_
  ·refine VA (Z9 _ (WZ ws a) (WZ ws j2)) ?_;rintro _ _ ⟨rfl,rfl⟩;refine nQ ?_;refine WJ ?_;exact zK ⟨rfl,by rw[show decide (i2<=j2/\(WZ ws a<WZ ws j2))=decide (WZ ws a<WZ ws j2)from zGi hd];exact WH⟩
  ·exact zK ⟨rfl,by rw[show decide (i2<=j2/\(WZ ws a<WZ ws j2))=false from QY (fun hh=>absurd hh.1 (by omega))];exact WH⟩
 rintro t6 _ vW ⟨rfl,q6⟩;refine go ?_;refine VE (fun hf=> ?_) (fun hf=> ?_)<;>simp only[DB]at hf
 ·refine go ?_;refine zA (j2-1) (by omega) ⟨rfl,WH,by omega,fun k h1 h2=> ?_⟩;by_cases e:k=j2
  ·rw[e];omega
  ·exact dr k (by omega) h2
 refine go ?_;refine VE (fun hg=> ?_) (fun hg=> ?_)<;>simp only[DB]at hg
 ·refine gr ?_;refine⟨_,_,rfl,s4,by omega,fun k h1 h2=> ?_,fun k h1 h2=> ?_⟩
  ·by_cases e:k=a
   ·rw[e,ha];exact Ql _
   ·exact d9 k (by omega) h2
  ·exact dr k (by omega) h2
 have dt:P<WZ ws i2:=by
  rw[<-ha];exact Int.not_le.1 fun hh=>he ⟨by omega,hh⟩
 have gh:WZ ws j2<=P:=by
  rw[<-ha];exact Int.not_lt.1 fun hh=>hf ⟨by omega,hh⟩
 have ly:i2≠j2:=fun e=>by subst e;omega
 refine go ?_;refine VC 0 rfl rfl ?_;have fx:WQ (inC (zB 0 h4)) v ws:=(s4.own).sl;refine WJ ?_;refine VU (i2) (j2) (s4).own (s4).ext (by rw[(s4).ext.mark];exact bU) ?_;intro h3 e3 o3 u3;have s3:=s4.swp e3 o3 u3 h0 hb (by omega) (by omega);refine go ?_;refine zA (swp ws i2 j2,i2+1,j2-1) (by simp only;omega) ⟨s3,WH,WH,by simp only;omega,?_,fun k h1 h2=> ?_,fun k h1 h2=> ?_⟩
 ·simp only;rw[yy (by omega) (by omega) (by omega),QC (by omega),QC (by omega)];exact ha
 ·simp only at h2 |-;rw[yy (by omega) (by omega) (by omega),QC (by omega)];by_cases e:k=i2
  ·rw[QF e];exact gh
  ·rw[QC e];exact d9 k h1 (by omega)
 ·simp only at h1 |-;rw[yy (by omega) (by omega) (by omega)];by_cases e:k=j2
  ·rw[QF e];omega
  ·rw[QC e,QC (by omega)];exact dr k (by omega) h2
theorem zIn(hB h:WA)(v:Value)(xs:List Int)(a b:Int)(e0:Ext hB h)(bU:hB.mark<=hB.n)(o:Wq hB h v xs)(h0:0<=a)(du:a<=b)(hb:b<=xs.length)(hlen:xs.length<=1000000000):
  WC Tryz.prog tb 240 [v,I a,I b] h fun r h'=>∃ ys,SS hB h v a b xs ys h':=by
 have s0:=VZ a b o e0;refine en ?_;refine VD (fun x=>(x.2.2+1-x.2.1).toNat) (fun(x:List Int×Int×Int) t h4=>SS hB h v a b xs x.1 h4/\zC t 6=I x.2.1/\zC t 7=I x.2.2/\(a<=x.2.1/\x.2.2<=b-1)/\(x.2.1<=b/\a-1<=x.2.2)) (xs,a,b-1) ?_ ?_
 ·exact⟨s0,WH,WH,by simp only;omega,by simp only;omega⟩
 rintro⟨ws,p,q⟩ t h4 ab ⟨s4,s6,s7,xP,Fp⟩;simp only at s4 s6 s7 xP Fp;have vX:=s4.len;refine go ?_;refine VE (fun he=> ?_) (fun he=> ?_)<;>simp only[DB]at he
 ·refine go ?_;refine VC 0 rfl rfl ?_;have fx:WQ (inC (zB 0 h4)) v ws:=(s4.own).sl;refine WJ ?_;refine VU (p) (q) (s4).own (s4).ext (by rw[(s4).ext.mark];exact bU) ?_;intro h3 e3 o3 u3;have s3:=s4.swp e3 o3 u3 h0 hb (by omega) (by omega);refine go ?_;exact zA (swp ws p q,p+1,q-1) (by simp only;omega) ⟨s3,WH,WH,by simp only;omega,by simp only;omega⟩
 ·refine go ?_;refine BP ?_;exact⟨ws,s4⟩
end Go.Proofs.YtmejfcakhpihlaaGreatDoor
set_option maxRecDepth 100000
namespace Go.Proofs.YtmejfcakhpihlaaGreatDoor
open Go.Am
set_option maxRecDepth 100000 in
theorem zPh:∀ i:Nat,i<17->∃ b:UInt8,(⟨#[0,1,2,2,3,3,3,3,4,4,4,4,4,4,4,4,5,5,5,5,5,5,5,5,5,5,5,5,5,5,5,5,6,6,6,6,6,6,6,6,6,6,6,6,6,6,6,6,6,6,6,6,6,6,6,6,6,6,6,6,6,6,6,6,7,7,7,7,7,7,7,7,7,7,7,7,7,7,7,7,7,7,7,7,7,7,7,7,7,7,7,7,7,7,7,7,7,7,7,7,7,7,7,7,7,7,7,7,7,7,7,7,7,7,7,7,7,7,7,7,7,7,7,7,7,7,7,7,8,8,8,8,8,8,8,8,8,8,8,8,8,8,8,8,8,8,8,8,8,8,8,8,8,8,8,8,8,8,8,8,8,8,8,8,8,8,8,8,8,8,8,8,8,8,8,8,8,8,8,8,8,8,8,8,8,8,8,8,8,8,8,8,8,8,8,8,8,8,8,8,8,8,8,8,8,8,8,8,8,8,8,8,8,8,8,8,8,8,8,8,8,8,8,8,8,8,8,8,8,8,8,8,8,8,8,8,8,8,8,8,8,8,8,8,8,8,8,8,8,8,8,8,8,8,8,8]⟩:ByteArray)[i]?=some b/\b.toNat<=8/\(i≠0->2 ^ b.toNat<=2*i)/\i<=b.toNat+12:=by
 intro i h;have:i=0\/i=1\/i=2\/i=3\/i=4\/i=5\/i=6\/i=7\/i=8\/i=9\/i=10\/i=11\/i=12\/i=13\/i=14\/i=15\/i=16:=by omega
 rcases this with rfl|rfl|rfl|rfl|rfl|rfl|rfl|rfl|rfl|rfl|rfl|rfl|rfl|rfl|rfl|rfl|rfl<;>exact⟨_,rfl,by decide,by decide,by decide⟩
theorem zN0(h:WA)(n:Int)(h0:0<=n)(h1:n<=16):
  WC Tryz.prog tb 246 [.int .u64 n] h fun r h'=>(∃ k:Nat,r=I k/\k<=40/\(n≠0->2 ^ k<=2*n)/\n<=k+12)/\h=h':=by
 obtain⟨m,rfl⟩:∃ m:Nat,n=m:=⟨n.toNat,by omega⟩;obtain⟨b,cZ,aI,iz,kN⟩:=zPh m (by omega);refine en ?_;rw[zQc (by omega) (by omega)];refine UK (n:=m) cZ rfl ?_;refine gr ?_;refine⟨⟨b.toNat,by simp[one],by omega,fun hn=> ?_,by omega⟩,rfl⟩;have:=iz (by omega);have h2:((2 ^ b.toNat:Nat):Int)<=((2*m:Nat):Int):=by exact_mod_cast this
 rw[Int.natCast_pow]at h2;have h3:((2*m:Nat):Int)=2*m:=by omega
 rw[h3]at h2;exact h2
theorem zNO(h:WA)(n:Int)(h0:0<=n)(h1:n<=16):
  WC Tryz.prog tb 217 [.int .u64 n] h fun r h'=>(∃ k:Nat,r=I k/\k<=40/\(n≠0->2 ^ k<=2*n)/\n<=k+12)/\h=h':=by
 refine en ?_;refine VA (zN0 h n h0 h1) ?_;rintro _ _ ⟨⟨k,rfl,hk⟩,rfl⟩;refine gr ?_;exact⟨⟨k,rfl,hk⟩,rfl⟩
theorem zMV(h:WA)(n:Int)(h0:1<=n)(h1:n<=16):
  WC Tryz.prog tb 252 [I n] h fun r h'=>(∃ m:Int,r=.int .u64 m/\1<=m/\m<=2*n)/\h=h':=by
 refine en ?_;rw[Yx (by omega) (by omega)];refine VA (zNO h n (by omega) h1) ?_;rintro _ _ ⟨⟨k,rfl,hk,aS,_⟩,rfl⟩;have cg:=aS (by omega);have cC:(0:Int)<2 ^ k:=Int.pow_pos (by decide);refine go ?_;refine WO.bin (vx:= .int .u64 1) (vy:=I k) (v:= .int .u64 (2 ^ k)) rfl zi (by
  simp only[ZF,IntKind.bits];rw[QC (by omega),QL,Gg (by omega),Int.one_mul,Yx (by omega) (by omega)]) ?_
 refine gr ?_;exact⟨⟨_,rfl,by omega,cg⟩,rfl⟩
theorem zMo(h0 h:WA)(p:Value)(n:Int)(e0:Ext h0 h)(hm:h0.mark<=h0.n)(o:WB h0 h p [.int .u64 n]):
  WC Tryz.prog tb 253 [p] h fun r h'=>(∃ m:Int,r=.int .u64 m/\WB h0 h' p [.int .u64 m])/\Ext h0 h'/\Wm p h h':=by
 obtain⟨g,rfl⟩:∃ g,p=.pointer (some ⟨g,0,none⟩):=let⟨g,_,_,e,_⟩:=o;⟨g,e⟩;have shl:∀ (a:Int) (b:Int),0<=b->∃ r,ZF .shl (.int .u64 a) (.int .u64 b)=some (.int .u64 r):=fun a b hb=>⟨_,by simp only[ZF];rw[QC (by omega)]⟩;have shr:∀ (a:Int) (b:Int),0<=b->∃ r,ZF .shr (.int .u64 a) (.int .u64 b)=some (.int .u64 r):=fun a b hb=>⟨_,by simp only[ZF];rw[QC (by omega)]⟩;have xor:∀ (a b:Int),∃ r,ZF .xor (.int .u64 a) (.int .u64 b)=some (.int .u64 r):=fun a b=>⟨_,by simp only[ZF,Q6];rfl⟩;refine en ?_;refine VC 0 rfl rfl ?_;have oX:WB h0 (inC (zB 0 h)) (.pointer (some ⟨g,0,none⟩)) [.int .u64 n]:=o;refine WJ ?_;obtain⟨r1,KD⟩:=shl n 13 (by decide);refine WO.bin zi rfl KD ?_;refine nQ ?_;refine WJ ?_;obtain⟨x1,sy⟩:=xor n r1;refine WO.bin zi zi sy ?_;refine nQ ?_;refine WJ ?_;refine V4 [.int .u64 x1] o e0 (by rw[e0.mark];exact hm) ?_;intro h1 e1 o1 u1;refine go ?_;refine VC 0 rfl rfl ?_;have jU:WB h0 (inC (zB 0 h1)) (.pointer (some ⟨g,0,none⟩)) [.int .u64 x1]:=o1;refine WJ ?_;obtain⟨r2,Of⟩:=shr x1 7 (by decide);refine WO.bin zi rfl Of ?_;refine nQ ?_;refine WJ ?_;obtain⟨x2,iu⟩:=xor x1 r2;refine WO.bin zi zi iu ?_;refine nQ ?_;refine WJ ?_;refine V4 [.int .u64 x2] o1 e1 (by rw[e1.mark];exact hm) ?_;intro h2 e2 o2 u2;refine go ?_;refine VC 0 rfl rfl ?_;have oX2:WB h0 (inC (zB 0 h2)) (.pointer (some ⟨g,0,none⟩)) [.int .u64 x2]:=o2;refine WJ ?_;obtain⟨r3,Og⟩:=shl x2 17 (by decide);refine WO.bin zi rfl Og ?_;refine nQ ?_;refine WJ ?_;obtain⟨x3,EG⟩:=xor x2 r3;refine WO.bin zi zi EG ?_;refine nQ ?_;refine WJ ?_;refine V4 [.int .u64 x3] o2 e2 (by rw[e2.mark];exact hm) ?_;intro h3 e3 o3 u3;refine gr ?_;exact⟨⟨x3,rfl,o3⟩,e3,(u1.trans u2).trans u3⟩
theorem zDN(h0 h:WA)(v p:Value)(xs:List Int)(a b n:Int)(e0:Ext h0 h)(s:WQ h0 v xs)(o:WB h0 h p [I n])(hn:0<=n/\n<=1000)(ha:0<=a/\a<xs.length)(hb:0<=b/\b<xs.length):
  WC Tryz.prog tb 259 [v,I a,I b,p] h fun r h'=>(∃ c d m:Int,r=.tuple #[I c,I d]/\((c=a/\d=b)\/(c=b/\d=a))/\(0<=m/\m<=n+1)/\WB h0 h' p [I m])/\Ext h0 h':=by
 obtain⟨g,rfl⟩:∃ g,p=.pointer (some ⟨g,0,none⟩):=let⟨g,_,_,e,_⟩:=o;⟨g,e⟩;refine en ?_;refine VC 0 rfl rfl ?_;have fx:WQ (inC (zB 0 h)) v xs:=by have:=s.ext e0;exact this
 refine WJ ?_;refine VA (Z9 _ (WZ xs b) (WZ xs a)) ?_;rintro _ _ ⟨rfl,rfl⟩;refine nQ ?_;refine WJ ?_;rw[zBX];refine VE (fun he=> ?_) (fun he=> ?_)<;>simp only[DB]at he<;>refine go ?_
 ·refine VH o e0 ?_;intro h1 e1 o1 _;refine gr ?_;exact⟨⟨b,a,n+1,rfl,.inr ⟨rfl,rfl⟩,by omega,o1⟩,e1⟩
 ·refine rt ?_;exact⟨⟨a,b,n,rfl,.inl ⟨rfl,rfl⟩,by omega,o⟩,e0⟩
theorem zKx(h0 h:WA)(v p:Value)(xs:List Int)(a b c n:Int)(e0:Ext h0 h)(s:WQ h0 v xs)(o:WB h0 h p [I n])(hn:0<=n/\n<=900)(ha:0<=a/\a<xs.length)(hb:0<=b/\b<xs.length)(hc:0<=c/\c<xs.length):
  WC Tryz.prog tb 255 [v,I a,I b,I c,p] h fun r h'=>(∃ d m:Int,r=I d/\(d=a\/d=b\/d=c)/\(0<=m/\m<=n+3)/\WB h0 h' p [I m])/\Ext h0 h':=by
 refine en ?_;refine VA (zDN h0 h v p xs a b n e0 s o (by omega) ha hb) ?_;rintro _ h1 ⟨⟨a1,b1,n1,rfl,q1,m1,o1⟩,e1⟩;refine go ?_;refine VA (zDN h0 h1 v p xs b1 c n1 e1 s o1 (by omega) (by omega) hc) ?_;rintro _ h2 ⟨⟨b2,c2,n2,rfl,q2,m2,o2⟩,e2⟩;refine go ?_;refine VA (zDN h0 h2 v p xs a1 b2 n2 e2 s o2 (by omega) (by omega) (by omega)) ?_;rintro _ h3 ⟨⟨a3,b3,n3,rfl,q3,m3,o3⟩,e3⟩;refine gr ?_;exact⟨⟨b3,n3,rfl,by omega,by omega,o3⟩,e3⟩
theorem zNR(h:WA)(v:Value)(xs:List Int)(a b:Int)(s:WQ h v xs)(h0:0<=a)(du:a+12<b)(xQ:b-a<=16)(hb:b<=xs.length)(hlen:xs.length<=1000000000):
  WC Tryz.prog tb 239 [v,I a,I b] h fun r h'=>(∃ d hint:Int,r=.tuple #[I d,I hint]/\(a<=d/\d<b))/\Ext h h':=by
 have e4:(b-a).tdiv 4=(b-a) / 4:=Int.tdiv_eq_ediv_of_nonneg (by omega);refine en ?_;refine WO.al ?_;intro p h1 e1 o1;refine go ?_;refine WO.quo (a:=b-a) (c:=4) (by decide) (by omega) (by omega) ?_;rw[e4];refine go ?_;refine WO.quo (a:=b-a) (c:=4) (by decide) (by omega) (by omega) ?_;rw[e4];refine go ?_;refine WO.quo (a:=b-a) (c:=4) (by decide) (by omega) (by omega) ?_;rw[e4];refine go ?_;refine VA (zKx h h1 v p xs (a+(b-a) / 4*1) (a+(b-a) / 4*2) (a+(b-a) / 4*3) 0 e1 s o1 (by omega) (by omega) (by omega) (by omega)) ?_;rintro _ h6 ⟨⟨d,m,rfl,q6,m6,o6⟩,e6⟩;obtain⟨g,rfl⟩:∃ g,p=.pointer (some ⟨g,0,none⟩):=let⟨g,_,_,e,_⟩:=o6;⟨g,e⟩;refine go ?_;refine VE (fun he=> ?_) (fun he=> ?_)<;>simp only[DB]at he<;>refine go ?_;all_goals
  refine rt ?_
  exact⟨⟨_,_,rfl,by omega⟩,e6⟩
theorem zNu(hB h:WA)(v:Value)(xs:List Int)(a b:Int)(e0:Ext hB h)(bU:hB.mark<=hB.n)(o:Wq hB h v xs)(h0:0<=a)(du:a+12<b)(xQ:b-a<=16)(hb:b<=xs.length)(hlen:xs.length<=1000000000):
  WC Tryz.prog tb 238 [v,I a,I b] h fun r h'=>∃ ys,SS hB h v a b xs ys h':=by
 have e4:(b-a).tdiv 4=(b-a) / 4:=Int.tdiv_eq_ediv_of_nonneg (by omega);have s0:=VZ a b o e0;refine en ?_;refine WO.al ?_;intro p h1 e1 o1;have s1:=s0.extd e1;obtain⟨g,hg,rfl⟩:∃ g,h.n<=g/\p=.pointer (some ⟨g,0,none⟩):=let⟨g,hg,_,e,_⟩:=o1;⟨g,hg,e⟩;have o1:=o1.since e0;refine go ?_;refine VH o1 s1.ext ?_;intro h2 e2 o2 u2;have s2:=s1.updC o hg e2 u2;refine go ?_;refine VA (zMV h2 (b-a) (by omega) (by omega)) ?_;rintro _ _ ⟨⟨m,rfl,cH,cS⟩,rfl⟩;refine go ?_;refine WO.quo (a:=b-a) (c:=4) (by decide) (by omega) (by omega) ?_;rw[e4];refine go ?_;refine VD (fun x=>(b-x.2.1).toNat) (fun(x:List Int×Int×Int) t h4=>SS hB h v a b xs x.1 h4/\zC t 9=I x.2.1/\(a<=x.2.1/\x.2.1<b)/\WB hB h4 (.pointer (some ⟨g,0,none⟩)) [.int .u64 x.2.2]) (xs,a+(b-a) / 4*2-1,IntKind.u64.wrap (b-a)) ?_ ?_
 ·exact⟨s2,WH,by simp only;omega,o2⟩
 rintro⟨ys,i,x⟩ t h4 ab ⟨s4,s9,hi,o4⟩;simp only at s4 s9 hi o4;have vX:=s4.len;refine go ?_;refine WO.quo (a:=b-a) (c:=4) (by decide) (by omega) (by omega) ?_;rw[e4];refine go ?_;refine VE (fun he=> ?_) (fun he=> ?_)<;>simp only[DB]at he<;>refine go ?_
 ·refine VA (zMo hB h4 _ x s4.ext bU o4) ?_;rintro _ h5 ⟨⟨y,rfl,o5⟩,e5,u5⟩;have s5:=s4.updC o hg e5 u5;refine go ?_;refine WO.bin (vy:= .int .u64 1) (v:= .int .u64 (m-1)) zi rfl (by simp only[ZF,Q6];rw[Yx (by omega) (by omega)]) ?_;refine go ?_;obtain⟨r,hr,cR,KD⟩:=zOo y (m:=m-1) (by omega);refine WO.bin zi zi hr ?_;refine go ?_;refine VL (fun t h'=>h5=h'/\∃ k:Int,zC t 10=I k/\0<=k/\k<b-a) ?_ ?_
  ·refine VE (fun hf=> ?_) (fun hf=> ?_)<;>simp only[DB]at hf<;>refine go ?_
   ·exact zK ⟨rfl,_,WH,by omega,by omega⟩
   ·exact zK ⟨rfl,_,WH,by omega,by omega⟩
  rintro t6 _ vW ⟨rfl,k,iY,kA,dj⟩;refine go ?_;refine VC 0 rfl rfl ?_;have fx:WQ (inC (zB 0 h5)) v ys:=(s5.own).sl;refine WJ ?_;refine VU (i) (a+k) (s5).own (s5).ext (by rw[(s5).ext.mark];exact bU) ?_;intro h7 e7 o7 u7;have s7:=s5.swp e7 o7 u7 h0 hb (by omega) (by omega);have Oh:=o5.updV o hg u7;refine go ?_;exact zA (swp ys i (a+k),i+1,y) (by simp only;omega) ⟨s7,WH,by simp only;omega,Oh⟩
 ·refine BP ?_;exact⟨ys,s4⟩
end Go.Proofs.YtmejfcakhpihlaaGreatDoor
