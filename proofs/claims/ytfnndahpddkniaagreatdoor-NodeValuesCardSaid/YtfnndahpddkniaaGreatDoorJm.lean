/- Walks of functions, plain laws; proves no statement. -/
import Derived.Test.YtfnndahpddkniaaGreatDoorJl
set_option linter.all false
set_option maxHeartbeats 2000000
set_option maxRecDepth 100000
namespace Go.Proofs.YtfnndahpddkniaaGreatDoor
open Go.Am
theorem zBu{T:List U2}(h1:yQ T=0):∀ j,j<T.length->yz T j/\(Wq T j).length<=32:=by
 rw[zAs]at h1;split at h1
 ·cases h1
 ·split at h1
  ·assumption
  ·cases h1
structure KW(hB h:U0)(vT p vA:Value)(b:Nat)(o:Bool)(fid:FuncId)(s:Int)(l:List Int):Prop where
 own:U1 hB h p [vT,.bool o,.func (.func fid) #[] #[],I s,vA]
 lst:OwnR 1 RI b h vA l
 pb:∀ g,p=.pointer (some ⟨g,0,none⟩)->g<b
 bn:b<=h.n
 ext:Ext hB h
theorem KW.off{hB h:U0}{vT p vA:Value}{b:Nat}{o:Bool}{fid:FuncId}{s:Int}{l:List Int}(w:KW hB h vT p vA b o fid s l):WQ p vA:=by
 obtain⟨g,_,_,rfl,_⟩:=w.own;have hg:=w.pb g rfl;intro c hc hv;cases hc;rcases w.lst with⟨rfl,_⟩|⟨g2,_,_,g3,_,rfl,_⟩
 ·cases hv
 ·cases hv;exact Nat.lt_irrefl _ (QM hg g3)
theorem zJT(hB:U0)(hmB:hB.mark<=hB.n)(vT p:Value)(b:Nat)(o:Bool)(fid:FuncId)(T:List U2)(st:Wp hB vT T)(hT:(T.length:Int)<=1000)
  (hf:∀ (h:U0) (k:Nat) (s:Int),WC Tryz.prog tb fid [I k,I s] h fun r h'=>r=I (if o then(k:Int)else s)/\h=h'):∀ (n k:Nat) (h:U0) (vA:Value) (s:Int) (l:List Int),k<n->k<T.length->zCl T k->yz T k->KW hB h vT p vA b o fid s l->hB.n<=b->0<=s->s+300*k<=1000000000->l.length+600*k<=90000->
  WC Tryz.prog tb 64 [p,I k] h fun r h'=>∃ vA',KW hB h' vT p vA' b o fid (s+(yO T k).length) (l++wkL T o s k)/\Wj p vA h h' vA':=by
 obtain⟨t1,t2,t3,rfl⟩:=zD st;intro n;induction n with
 |zero=>intro k h vA s l hk;omega
 |succ n ih=>
  intro k h vA s l hkn hk hlow hM w hb s0 s1 hl;have hall:∀ j,j<=k->yz T j:=fun j hj=>by
   by_cases e:j=k
   ·subst e;exact hM
   ·exact(hlow j (by omega)).1
  have hXt:=w.ext;have st0:=st.ext w.ext;have h4':=zHQ hM;have h5':=zHI hM;obtain⟨cs,⟨va,rfl,sa,hla⟩,pc,hs⟩:=zW (i:=k) st hk;replace pc:=(pc _ hXt).1;have h32:∀ q,q<k->(yO T q).length<=32/\(∀ s',(wkL T o s' q).length<=32)/\(yj T q).2=(yO T q).length:=fun q hq=>by
   have h1:=(hlow q hq).2;have h2:∀ j,j<=q->yz T j:=fun j hj=>hall j (by omega);exact⟨QU (zBF (q+1) q (Q1 _) h2) h1,fun s'=>QU (zPK h2) h1,(zBU (q+1) q (Q1 _) h2).1⟩
  rw[zA4 hall,zIl hall];generalize T.getD k default=x at *;obtain⟨a1,a2,a3,rfl⟩:=WW.shape sa;have oW:=w.own;obtain⟨gp,_,_,rfl,_⟩:=id oW;refine en ?_;refine VL ?_;intro p4 h1 e1 o1;refine go ?_;refine VH o1 e1 ?_;intro h2 e2 o2 _;have oW2:=oW.ext e2;have w2:KW hB h2 (.slice t1 t2 t3) (.pointer (some ⟨gp,0,none⟩)) vA b o fid s l:=⟨oW2,OwnR.ext w.lst e2,w.pb,QU w.bn e2.n,w.ext.trans e2⟩;have sa2:=sa.ext w2.ext;have f2:WQ vA p4:=(VJ o2.since' w.lst.within).symm;have f1:WQ (.pointer (some ⟨gp,0,none⟩)) p4:=(VJ o2.since' oW.within).symm;replace h32:=WE.mk h32;replace hall:=WE.mk hall;by_cases h4:x.kind=4
  ·have hp:=h4' h4;simp only[h4,Q0];have hp8:=hp.1;replace hp:=WE.mk hp;replace hlow:=WE.mk hlow;have hN:WE (∀ i,∀ p∈x.parts.take i,(yj T p.toNat).2=(yO T p.toNat).length):=⟨fun i p hpp=>(h32.out p.toNat (by have:=hp.out.2 p (Qp hpp);omega)).2.2⟩;refine go ?_;refine VD (fun i=>x.parts.length-i) (fun i t h3=>zB t 50=I i/\i<=x.parts.length/\∃ vA',KW hB h3 (.slice t1 t2 t3) (.pointer (some ⟨gp,0,none⟩)) vA' b o fid (s+(((x.parts.take i).map fun p=>yO T p.toNat).flatten.length:Int)) (l++zE8 T o s (x.parts.take i))/\Wj (.pointer (some ⟨gp,0,none⟩)) vA h2 h3 vA'/\(zE8 T o s (x.parts.take i)).length<=32*i) 0 ?_ ?_
   ·refine⟨U6,QK _,vA,?_,Wj.refl ..,?_⟩
    ·have:zE8 T o s []=[]:=by cases o<;>rfl
     simpa [this]using w2
    ·have:zE8 T o s []=[]:=by cases o<;>rfl
     simp[this]
   rintro i t h3 hsame ⟨s7,hi,vA',w3,k3,hwl⟩;have sa3:=sa.ext w3.ext;refine go ?_;refine VE (fun hc=> ?_) (fun hc=> ?_)<;>simp only[DB]at hc
   ·have hi':i<x.parts.length:=by omega
    have hpi:=hp.out.2 _ (zO hi');obtain⟨q,hq⟩:∃ q:Nat,x.parts.getD i 0=q:=⟨(x.parts.getD i 0).toNat,by omega⟩;have hqk:q<k:=by omega
    have htk:x.parts.take (i+1)=x.parts.take i++[(q:Int)]:=by
     rw[Q4,QB hi',<-hq];simp[List.getD,QB hi']
    have hsn:=zLv (o:=o) (s:=s) (q:=(q:Int)) (hN.out i);have hfl:=Y0 (l:=x.parts.take i) (f:=fun p=>yO T p.toNat) fun p hpp=>(h32.out p.toNat (by have:=hp.out.2 p (Qp hpp);omega)).1;have hti:(x.parts.take i).length<=i:=List.length_take_le _ _;have h32q:=h32.out q hqk;rw[QN]at hsn;have hfs:((x.parts.take (i+1)).map fun p=>yO T p.toNat).flatten.length=((x.parts.take i).map fun p=>yO T p.toNat).flatten.length+(yO T q).length:=by
     rw[htk];simp
    refine go ?_;rw[hq];refine VA (ih q h3 vA' _ _ (by omega) (by omega) (fun j hj=>hlow.out j (by omega)) (hlow.out q hqk).1 w3 hb (by omega) (by omega) (by rw[QR];omega)) ?_;rintro r h4 ⟨vA4,w4,k4⟩;refine go ?_;refine zA (i+1) (by omega) ⟨Wc,by omega,vA4,?_,k3.trans k4,?_⟩
    ·rw[hfs,htk,hsn,<-Ql,Int.natCast_add,<-Int.add_assoc];exact w4
    ·rw[htk,hsn,QR];have:=h32q.2.1 (s+(((x.parts.take i).map fun p=>yO T p.toNat).flatten.length:Int));omega
   ·have hii:i=x.parts.length:=by omega
    subst hii;rw[Qk]at w3;refine go ?_;refine Bt ?_;exact⟨vA',w3,(Wj.ext e2).trans k3⟩
  by_cases h5:x.kind=5
  ·have hp:=h5' h5;obtain⟨q,hq⟩:∃ q:Nat,x.elem=q:=⟨x.elem.toNat,by omega⟩;obtain⟨m,hm⟩:∃ m:Nat,x.many=m:=⟨x.many.toNat,by omega⟩;have hqk:q<k:=by omega
   simp only[h5,Q0,GX,show ¬((5:Int)=4) by decide,hq,hm,QN];replace hlow:=WE.mk hlow;refine go ?_;refine V4 ?_;refine go ?_;refine VD (fun i=>m-i) (fun i t h3=>zB t 68=I i/\i<=m/\(o=true->i<=1)/\∃ vA',KW hB h3 (.slice t1 t2 t3) (.pointer (some ⟨gp,0,none⟩)) vA' b o fid (if i=0 then s else s+((yO T q).length:Int)) (l++if o then(if i=0 then[]else yO T q)else(List.replicate i (wkL T o s q)).flatten)/\Wj (.pointer (some ⟨gp,0,none⟩)) vA h2 h3 vA') 0 ?_ ?_
   ·exact⟨U6,QK _,fun _=>QK _,vA,by cases o<;>simpa using w2,Wj.refl ..⟩
   rintro i t h3 hsame ⟨s7,hi,hoi,vA',w3,k3⟩;have o3p:=(Vk o2 k3 f1 f2).1;have oW3:=w3.own;refine go ?_;rw[hm];refine go ?_;refine VE (fun hc=> ?_) (fun hc=> ?_)<;>simp only[DB]at hc
   ·have hi':i<m:=by omega
    by_cases hox:o=true/\i≠0
    ·obtain⟨rfl,hi0⟩:=hox;have hi1:i=1:=by have:=hoi rfl;omega
     subst hi1;refine go ?_;refine Bt ?_;exact⟨vA',by simpa using w3,(Wj.ext e2).trans k3⟩
    ·have hw:(if o then(if i=0 then[]else yO T q)else(List.replicate i (wkL T o s q)).flatten)++wkL T o s q=(if o then(if i+1=0 then[]else yO T q)else(List.replicate (i+1) (wkL T o s q)).flatten)/\(if o then(if i=0 then[]else yO T q)else(List.replicate i (wkL T o s q)).flatten).length<=32*i:=by
      cases o with
      |true=>
       have:i=0:=by have:=hoi rfl;exact Gn fun h=>hox ⟨rfl,h⟩
       subst this;simp[wkL]
      |false=>
       simp only[QZ,GX];rw[List.replicate_succ',List.flatten_append];have:=(h32.out q hqk).2.1 s;have h2:=zAk i (wkL T false s q);have h3:=Nat.mul_le_mul_left i this;exact⟨by simp,by omega⟩
     have hsk:o=true->i=0:=fun h=>Gn fun h2=>hox ⟨h,h2⟩;have hof:=w3.off;have f3:=(Vk o2 k3 f1 f2).2;have h32q:=h32.out q hqk;cases o;all_goals
      first|(have hi0:i=0:=hsk rfl)|skip
      refine go ?_
      refine VT (j:=3) (cs:=[I s]) (hl:=by simp) oW3 w3.ext ?_
      intro h4 e4 oW4 u4
      replace oW4:U1 hB h4 (.pointer (some ⟨gp,0,none⟩)) [.slice t1 t2 t3,.bool _,.func (.func fid) #[] #[],I s,vA']:=oW4
      have o4p:=U1.upB o3p u4.upB f1
      have w4:=KW.mk oW4 (OwnR.upB (fun _ _ _ _ h=>h) w3.lst u4.upB hof) w3.pb (QU w3.bn u4.1) e4
      refine go ?_
      rw[hq]
      refine VV (WV.func (ih q h4 vA' s _ (by omega) (by omega) (fun j hj=>hlow.out j (by omega)) (hlow.out q hqk).1 w4 hb s0 (by omega) (by rw[QR];omega))) ?_
      rintro r h5 ⟨vA5,w5,k5⟩
      refine go ?_
      refine zA (i+1) (by omega) ⟨Wc,by omega,(fun h=>by first|omega|cases h),vA5,?_,k3.trans (Wj.trans ⟨u4.1,fun g hg h1 _=>u4.upB.2 g hg h1,fun _ h=> .inl h⟩ k5)⟩
      rw[Ql,hw.1]at w5
      simpa using w5
   ·have hii:i=m:=by omega
    subst hii;refine go ?_;refine Bt ?_;have hm0:i≠0:=by omega
    exact⟨vA',by simpa [hm0]using w3,(Wj.ext e2).trans k3⟩
  ·simp only[h4,h5,GX];refine go ?_;refine VC 1 rfl rfl ?_;have oWY:=oW2.ext (zI 1 h2);have oWX:U1 hB (inC (zC 1 h2)) (.pointer (some ⟨gp,0,none⟩)) [.slice t1 t2 t3,.bool o,.func (.func fid) #[] #[],I s,vA]:=oWY;clear oWY;have hsl:∃ c1 c2 c3,vA=.slice c1 c2 c3:=by
    rcases w2.lst with⟨rfl,_⟩|⟨_,_,_,_,_,rfl,_⟩
    ·exact⟨_,_,_,rfl⟩
    ·exact⟨_,_,_,rfl⟩
   obtain⟨c1,c2,c3,rfl⟩:=hsl;refine U9 ?_;refine VV (WV.func (hf _ k s)) ?_;rintro _ _ ⟨rfl,rfl⟩;refine nE (Ext.refl _) ?_;refine Xt (hB:=hB) (b:=b) (v:= .slice c1 c2 c3) (if o then(k:Int)else s) (fun _=>False) (Ext.refl _) w2.lst w2.ext (by have:=w2.ext.mark;omega) hb w2.bn (by decide) (by omega) oW2 w2.pb (fun _ _ _=>rfl) (fun _ h=>h.elim) (fun _ _ _ _ h=>h) id (by simp) rfl ?_;intro H v' t' hsame eH oH hone lH sH kH nH;replace oH:U1 hB H (.pointer (some ⟨gp,0,none⟩)) [.slice t1 t2 t3,.bool o,.func (.func fid) #[] #[],I s,v']:=oH;have wH:=KW.mk oH lH w2.pb (QU w2.bn nH) eH;refine go ?_;refine VT (j:=3) (cs:=[I (s+1)]) (hl:=by simp) oH eH ?_;intro h5 e5 o5 u5;replace o5:U1 hB h5 (.pointer (some ⟨gp,0,none⟩)) [.slice t1 t2 t3,.bool o,.func (.func fid) #[] #[],I (s+1),v']:=o5;refine go ?_;refine Bt ?_;refine⟨v',⟨o5,OwnR.upB (fun _ _ _ _ h=>h) lH u5.upB wH.off,w2.pb,QU wH.bn u5.1,e5⟩,(Wj.ext e2).trans ⟨QU nH u5.1,fun g hg h1 h2=> ?_,fun b hb=> .inr (sH b hb)⟩⟩;rw[u5.upB.2 g (QM hg nH) h1];exact kH g hg (fun e=>by cases e;exact h1 rfl) (fun _ _ e=>by cases e;exact h2 rfl)
theorem zIh(h:U0)(k:Nat)(s:Int):WC Tryz.prog tb 82 [I k,I s] h fun r h'=>r=I (if true then(k:Int)else s)/\h=h':=by
 refine en ?_;refine rt ?_;exact⟨rfl,rfl⟩
theorem zKL(h:U0)(vT:Value)(T:List U2)(k:Int)(st:Wp h vT T)(hT:T.length<=100)(hp:∀ x∈T,x.parts.length<=100)(hc:yQ T=0)(hk:0<=k/\k<(T.length:Int))(hm:h.mark<=h.n):
  WC Tryz.prog tb 60 [vT,I k] h fun r h'=>(∃ v,r=.tuple #[v,I 0]/\U7 h h' v (yO T k.toNat))/\Ext h h':=by
 obtain⟨k,rfl⟩:∃ q:Nat,k=q:=⟨k.toNat,by omega⟩;obtain⟨t1,t2,t3,rfl⟩:=zD st;have hl:=zBu hc;refine en ?_;refine VA (zEr h _ T k st hT hp hc hk) ?_;rintro _ h2 ⟨⟨v2,rfl,o2⟩,e2⟩;refine go ?_;refine VF ?_;intro p h3 e3 o3;obtain⟨gp,_,_,rfl,_⟩:=id o3;have e03:=e2.trans e3;have hpb:∀ g,Value.pointer (some ⟨gp,0,none⟩)=.pointer (some ⟨g,0,none⟩)->g<h3.n:=fun g e=>o3.within _ (by rw[e];rfl);have w:KW h h3 (.slice t1 t2 t3) (.pointer (some ⟨gp,0,none⟩)) (.slice none 0 0) h3.n true 82 0 []:=⟨o3.since e2,.inl ⟨rfl,rfl⟩,hpb,QE _,e03⟩;refine go ?_;refine VA (zJT h hm _ _ h3.n true 82 T st (by omega) zIh (k+1) k h3 _ 0 [] (by omega) (by omega) (fun j hj=>hl j (by omega)) (hl k (by omega)).1 w e03.n (by omega) (by omega) (by simp;omega)) ?_;rintro _ h4 ⟨vA,w4,k4⟩;have o4:=w4.own;refine gr ?_;exact⟨⟨vA,rfl,zHx w4.lst e03.n⟩,w4.ext⟩
structure Wv where
 fn:Int
 nr:Int
 ty:Int
instance:Inhabited Wv:=⟨⟨0,0,0⟩⟩
def RSt(_:U0)(cs:List Value)(x:Wv):Prop:=cs=[I x.fn,I x.nr,I x.ty]
abbrev Bk(h:U0)(v:Value)(l:List Wv):Prop:=Ww 3 RSt h v l
theorem YY(h h':U0)(cs:List Value)(a:Wv)(r:RSt h cs a):RSt h' cs a:=r
theorem Bk.ext{h h' v l}(s:Bk h v l)(e:Ext h h'):Bk h' v l:=Ww.ext (fun _ _ r=>YY _ _ _ _ r) s e
def ZU(x:WY):Bool:=decide (x.op=11)||decide (x.op=12)
def ZF(T:List U2)(f:Int):Int->List WY->List Wv
 |_,[]=>[]
 |n,x::l=>(if ZU x then[⟨f,n,(T.getD x.ty.toNat default).elem⟩]else[])++ZF T f (n+1) l
def yq(T:List U2)(f:Int):Int->List WL->List Wv
 |_,[]=>[]
 |n,b::l=>ZF T f n b.ins++yq T f (n+b.ins.length) l
def y8(T:List U2):Int->List WM->List Wv
 |_,[]=>[]
 |f,g::l=>yq T f ((T.getD g.sig.toNat default).parts.length:Int) g.blocks++y8 T (f+1) l
def zc(T:List U2)(F:List WM):List Wv:=y8 T 0 F
section
variable {T:List U2}{f:Int}
theorem zBI{x:WY}:∀ {l:List WY} {n:Int},ZF T f n (l++[x])=ZF T f n l++(if ZU x then[⟨f,n+l.length,(T.getD x.ty.toNat default).elem⟩]else[])
 |[],n=>by simp[ZF]
 |y::l,n=>by
  simp only[JC,ZF,zBI (l:=l),Ql,GE];congr 3;rw[show n+1+(l.length:Int)=n+((l.length+1:Nat):Int) by omega]
theorem zAe:∀ {l:List WY} {n:Int},(ZF T f n l).length<=l.length
 |[],_=>QE _
 |x::l,n=>by
  have:=zAe (l:=l) (n:=n+1);simp only[ZF,QR,GE];split<;>simp<;>omega
theorem zA3{b:WL}:∀ {l:List WL} {n:Int},yq T f n (l++[b])=yq T f n l++ZF T f (n+zN l) b.ins
 |[],n=>by simp[yq,zN]
 |c::l,n=>by
  simp only[JC,yq,zA3 (l:=l),Ql];rw[Zt,Int.add_assoc]
theorem zAp:∀ {l:List WL} {n:Int},((yq T f n l).length:Int)<=zN l
 |[],_=>by simp[yq,zN]
 |b::l,n=>by
  have h1:=zAp (l:=l) (n:=n+b.ins.length);have h2:=zAe (T:=T) (f:=f) (l:=b.ins) (n:=n);rw[Zt];simp only[yq,QR];omega
theorem zAw{g:WM}:∀ {l:List WM} {f:Int},y8 T f (l++[g])=y8 T f l++yq T (f+l.length) ((T.getD g.sig.toNat default).parts.length:Int) g.blocks
 |[],f=>by simp[y8]
 |c::l,f=>by
  simp only[JC,y8,zAw (l:=l),Ql,GE];congr 3;omega
theorem zAg:∀ {l:List WM} {f:Int},(∀ g∈l,zN g.blocks<=128)->(y8 T f l).length<=128*l.length
 |[],_,_=>QE _
 |g::l,f,h=>by
  have h1:=zAg (l:=l) (f:=f+1) fun q hq=>h q (Qq _ hq);have h2:=zAp (T:=T) (f:=f) (l:=g.blocks) (n:=((T.getD g.sig.toNat default).parts.length:Int));have h3:=h g (Qi ..);simp only[y8,QR,GE];omega
end
theorem zDa:∀ l:List WL,0<=zN l
 |[]=>by simp[zN]
 |b::l=>by have:=zDa l;rw[Zt];omega
theorem zFF(l:List WL)(j:Nat):0<=zN (l.take j)/\zN (l.take j)<=zN l:=by
 have h:zN l=zN (l.take j)+zN (l.drop j):=by
  conv=>lhs;rw[<-GN j l]
  unfold zN;rw[GB,G5]
 have h1:=zDa (l.take j);have h2:=zDa (l.drop j);omega
theorem YM{α:Type}[Inhabited α]{l:List α}{i:Nat}(h:i<l.length):l.take (i+1)=l.take i++[l.getD i default]:=by
 rw[Q4,QB h];simp[List.getD,QB h]
end Go.Proofs.YtfnndahpddkniaaGreatDoor
set_option maxRecDepth 100000
namespace Go.Proofs.YtfnndahpddkniaaGreatDoor
open Go.Am
theorem zNX(h:U0)(x:WY):WC Tryz.prog tb 106 [.int .u8 x.op] h fun r h'=>r=.bool (ZU x)/\h=h':=by
 refine en ?_;by_cases h1:x.op=11
 ·refine gr ?_;exact⟨by unfold ZU;simp[h1];rfl,rfl⟩
 ·refine gr ?_;exact⟨by unfold ZU;simp[h1];rfl,rfl⟩
theorem zNU(h:U0)(vt vf:Value)(T:List U2)(F:List WM)(E:Env h vt vf T F)(hsig:∀ g∈F,0<=g.sig/\g.sig<(T.length:Int))(hmy:∀ g∈F,zN g.blocks<=128)(hF:F.length<=8)
  (hty:∀ g∈F,∀ B∈g.blocks,∀ x∈B.ins,ZU x=true->0<=x.ty/\x.ty<(T.length:Int)):
  WC Tryz.prog tb 79 [.agg #[vt,vf]] h fun r h'=>OwnR 3 RSt h.n h' r (zc T F)/\Ext h h':=by
 have hslen:∀ i,(y8 T 0 (F.take i)).length<=1024:=fun i=>by
  have:=zAg (T:=T) (l:=F.take i) (f:=0) fun g hg=>hmy g (Qp hg);have h2:(F.take i).length<=F.length:=by rw[Qj];omega
  omega
 have sm:=E.sm;have hF':=sm.funcs;replace hslen:=WE.mk hslen;replace hsig:=WE.mk hsig;replace hmy:=WE.mk hmy;replace hty:=WE.mk hty;have st0:=E.st;have sf0:=E.sf;obtain⟨t1,t2,t3,rfl⟩:=zD st0;obtain⟨f1,f2,f3,rfl⟩:=zD sf0;refine en ?_;refine VF ?_;intro p h1 e1 o1;replace o1:U1 h h1 p [.slice t1 t2 t3,.slice f1 f2 f3]:=o1;have E1:=E.ext e1;have sf1:=E1.sf;refine go ?_;refine VD (fun i=>F.length-i) (fun i t h2=>zB t 13=I i/\i<=F.length/\Ext h1 h2/\∃ v,zB t 2=v/\OwnR 3 RSt h1.n h2 v (y8 T 0 (F.take i))) 0 ?_ ?_
 ·exact⟨U6,QK _,Ext.refl _,.slice none 0 0,U6,.inl ⟨rfl,rfl⟩⟩
 rintro i t h2 hsame ⟨s13,hi,e2,v,s2,ov⟩;have o2:=o1.ext e2;have E2:=E1.ext e2;have sf2:=E2.sf;have st2:=E2.st;refine go ?_;refine VE (fun hb=> ?_) (fun hb=> ?_)<;>simp only[DB]at hb
 ·have hi':i<F.length:=by omega
  have hgm:=zG (l:=F) (i:=i) hi';obtain⟨cs,⟨vb,rfl,sb,hlb⟩,px,hs⟩:=zW (i:=i) sf1 hi';have pc:=(px _ e2).1;have hsg:=hsig.out _ hgm;have hbl:=sm.blocks _ hgm;have hpl:=sm.parts _ (zG (l:=T) (i:=(F.getD i default).sig.toNat) (by omega));have hsn:y8 T 0 (F.take (i+1))=y8 T 0 (F.take i)++yq T i ((T.getD (F.getD i default).sig.toNat default).parts.length:Int) (F.getD i default).blocks:=by
   rw[YM hi',zAw,Qj,Ge (by omega),Int.zero_add]
  have hinl:=sm.ins _ hgm;have htyg:=hty.out _ hgm;have hmyg:=hmy.out _ hgm;replace hinl:=WE.mk hinl;replace htyg:=WE.mk htyg;generalize F.getD i default=g at *;obtain⟨b1,b2,b3,rfl⟩:=zD sb;refine go ?_;refine VL ?_;intro p4 h3 e3 o3;refine go ?_;refine VH o3 e3 ?_;intro h4 e4 o4 _;have e14:=e2.trans e4;have sb4:=Wi.ext sb e14;have st4:=st2.ext e4;have o14:=o2.ext e4;obtain⟨csT,⟨va,rfl,sa,hla⟩,pcT,hsT⟩:=yH (i:=g.sig.toNat) st4 (by omega);obtain⟨a1,a2,a3,rfl⟩:=WW.shape sa;have ov4:=OwnR.ext ov e4;refine go ?_;refine VD (fun j=>g.blocks.length-j) (fun j t h5=>zB t 29=I j/\j<=g.blocks.length/\Ext h1 h5/\zB t 5=I ((T.getD g.sig.toNat default).parts.length+zN (g.blocks.take j))/\∃ v,zB t 2=v/\OwnR 3 RSt h1.n h5 v (y8 T 0 (F.take i)++yq T i ((T.getD g.sig.toNat default).parts.length:Int) (g.blocks.take j))) 0 ?_ ?_
  ·exact⟨U6,QK _,e2.trans e4,by rw[show zN (g.blocks.take 0)=0 by simp[zN],Int.add_zero];exact U6,v,U6,by simpa [yq]using ov4⟩
  rintro j t' h5 hsame' ⟨s29,hj,e5,s5,v',s2',ov'⟩;have o5:=o1.ext e5;have E5:=E1.ext e5;have sb5:=Wi.ext sb e5;refine go ?_;refine VE (fun hb'=> ?_) (fun hb'=> ?_)<;>simp only[DB]at hb'
  ·have hj':j<g.blocks.length:=by omega
   have hBm:=zG (l:=g.blocks) (i:=j) hj';obtain⟨csB,⟨vi,rfl,si,hli⟩,pxB,hsB⟩:=zW (i:=j) sb hj';have pcB:=(pxB _ e5).1;have hil:=hinl.out _ hBm;have hsnB:yq T i ((T.getD g.sig.toNat default).parts.length:Int) (g.blocks.take (j+1))=yq T i ((T.getD g.sig.toNat default).parts.length:Int) (g.blocks.take j)++ZF T i ((T.getD g.sig.toNat default).parts.length+zN (g.blocks.take j)) (g.blocks.getD j default).ins:=by
    rw[YM hj',zA3]
   have hmB:zN (g.blocks.take (j+1))=zN (g.blocks.take j)+((g.blocks.getD j default).ins.length:Int):=by
    rw[YM hj'];unfold zN;simp
   have hm0:0<=zN (g.blocks.take j)/\zN (g.blocks.take j)<=128:=by
    have:=zFF g.blocks j;omega
   have hsB:=zAp (T:=T) (f:=(i:Int)) (l:=g.blocks.take j) (n:=((T.getD g.sig.toNat default).parts.length:Int));have htyB:=htyg.out _ hBm;replace htyB:=WE.mk htyB;generalize g.blocks.getD j default=B at *;obtain⟨i1,i2,i3,rfl⟩:=zD si;refine go ?_;refine VL ?_;intro p7 h6 e6 o7;refine go ?_;refine VH o7 e6 ?_;intro h7 e7 o7 _;have e17:=e5.trans e7;have si7:=BB.ext si e17;have ov7:=OwnR.ext ov' e7;refine go ?_;refine VD (fun q=>B.ins.length-q) (fun q t h8=>zB t 36=I q/\q<=B.ins.length/\Ext h1 h8/\zB t 5=I ((T.getD g.sig.toNat default).parts.length+zN (g.blocks.take j)+q)/\∃ v,zB t 2=v/\OwnR 3 RSt h1.n h8 v (y8 T 0 (F.take i)++yq T i ((T.getD g.sig.toNat default).parts.length:Int) (g.blocks.take j)++ZF T i ((T.getD g.sig.toNat default).parts.length+zN (g.blocks.take j)) (B.ins.take q))) 0 ?_ ?_
   ·exact⟨U6,QK _,e17,by rw[show((0:Nat):Int)=0 from rfl,Int.add_zero];exact U6,v',U6,by simpa [ZF]using ov7⟩
   rintro q t'' h8 hsame'' ⟨s36,hq,e8,s5'',v'',s2'',ov''⟩;have o8:=o1.ext e8;have si8:=BB.ext si e8;have st8:=(E1.ext e8).st;refine go ?_;refine VE (fun hb''=> ?_) (fun hb''=> ?_)<;>simp only[DB]at hb''
   ·have hq':q<B.ins.length:=by omega
    have hxm:=zG (l:=B.ins) (i:=q) hq';obtain⟨csX,⟨xa,xf,rfl,sxa,sxf,hxa,hxf,ho⟩,pxX,hsX⟩:=zW (i:=q) si hq';have pcX:=(pxX _ e8).1;have hsnI:∀ n:Int,ZF T i n (B.ins.take (q+1))=ZF T i n (B.ins.take q)++(if ZU (B.ins.getD q default)then[⟨i,n+q,(T.getD (B.ins.getD q default).ty.toNat default).elem⟩]else[]):=fun n=>by
     rw[YM hq',zBI,Qj,Ge (by omega)]
    have htyx:=htyB.out _ hxm;generalize B.ins.getD q default=x at *;obtain⟨xa1,xa2,xa3,rfl⟩:=WW.shape sxa;obtain⟨xf1,xf2,xf3,rfl⟩:=WW.shape sxf;refine go ?_;refine VL ?_;intro p9 h9 e9 o9;refine go ?_;refine VH (cs:=[.int .u8 x.op,I x.ty,I x.a,I x.b,I x.n,.slice xa1 xa2 xa3,.slice xf1 xf2 xf3]) o9 e9 ?_;intro h10 e10 o10 _;refine go ?_;refine VA (zNX h10 x) ?_;rintro _ _ ⟨rfl,rfl⟩;have e110:=e8.trans e10;cases hmk:ZU x with
    |true=>
     have hx:=htyx hmk;have o810:=o8.ext e10;have st10:=(E1.ext e110).st;obtain⟨csT,⟨ya,rfl,sya,hya⟩,pcT',hsT'⟩:=yH (i:=x.ty.toNat) st10 (by omega);obtain⟨y1,y2,y3,rfl⟩:=WW.shape sya;have hsI:=zAe (T:=T) (f:=(i:Int)) (l:=B.ins.take q) (n:=(T.getD g.sig.toNat default).parts.length+zN (g.blocks.take j));have hlq:(B.ins.take q).length<=q:=List.length_take_le _ _;have hsi:=hslen.out i;refine go ?_;refine Vw (hB:=h1) (b:=h1.n) (⟨i,(T.getD g.sig.toNat default).parts.length+zN (g.blocks.take j)+q,(T.getD x.ty.toNat default).elem⟩:Wv) (fun _=>False) (OwnR.ext ov'' e10) e110 (QE _) e110.n (by decide) (by simp only[QR];omega) (fun _ _ _=>rfl) (fun _ h=>h.elim) (fun _ _ _ _ h=>h) ?_;intro v12 h12 lit e12 o12 hn12 hk12;refine go ?_;refine zA (q+1) (by omega) ⟨Wc,by omega,e12,?_,v12,U6,?_⟩
     ·rw[show((T.getD g.sig.toNat default).parts.length:Int)+zN (g.blocks.take j)+((q+1:Nat):Int)=(T.getD g.sig.toNat default).parts.length+zN (g.blocks.take j)+q+1 by omega];exact U6
     ·rw[hsnI,hmk,QF rfl,<-Ql];exact o12
    |false=>
     refine go ?_;refine zA (q+1) (by omega) ⟨Wc,by omega,e110,?_,v'',U6,?_⟩
     ·rw[show((T.getD g.sig.toNat default).parts.length:Int)+zN (g.blocks.take j)+((q+1:Nat):Int)=(T.getD g.sig.toNat default).parts.length+zN (g.blocks.take j)+q+1 by omega];exact U6
     ·rw[hsnI,hmk];simpa using OwnR.ext ov'' e10
   ·have hqq:q=B.ins.length:=by omega
    subst hqq;rw[Qk]at ov'';refine go ?_;refine zA (j+1) (by omega) ⟨Wc,by omega,e8,?_,v'',U6,?_⟩
    ·rw[hmB,<-Int.add_assoc];exact U6
    ·rw[hsnB,<-Ql];exact ov''
  ·have hjj:j=g.blocks.length:=by omega
   subst hjj;rw[Qk]at ov';refine go ?_;refine zA (i+1) (by omega) ⟨Wc,by omega,e5,v',U6,?_⟩;rw[hsn];exact ov'
 ·have hii:i=F.length:=by omega
  subst hii;rw[Qk]at ov;refine gr ?_;exact⟨ov.base e1.n,e1.trans e2⟩
theorem zGW{T:List U2}{F:List WM}(hs:yS T F=0){f:Nat}(hf:f<F.length){b:Nat}(hb:b<(F.getD f default).blocks.length){i:Nat}(hi:i<((F.getD f default).blocks.getD b default).ins.length)(hm:ZU (((F.getD f default).blocks.getD b default).ins.getD i default)=true):
  Wh T 2 (((F.getD f default).blocks.getD b default).ins.getD i default).ty=true/\Wu T (((F.getD f default).blocks.getD b default).ins.getD i default).ty:=by
 obtain⟨hp,hw⟩:=yw hs;have Z:=zGl hp (f:=(f:Int)) (by omega);have W:=(hw f (by omega) (by omega)).2.2 b (by omega) (by show(b:Int)<((F.getD ((f:Int)).toNat default).blocks.length:Int);rw[QN];omega);have h1:=W.1 i (by show i<(((F.getD ((f:Int)).toNat default).blocks.getD ((b:Int)).toNat default).ins.length);rw[QN,QN];exact hi);have hV:=Z.V ((F.getD f default).blocks.getD b default) (by show _∈(F.getD ((f:Int)).toNat default).blocks;rw[QN];exact zG hb) _ (zG hi);refine⟨?_,hV.ty⟩;unfold YT zAY at h1;have h2:=h1.2.1;rw[show((zJ F f).getD ((b:Int)).toNat default).ins.getD i default=((F.getD f default).blocks.getD b default).ins.getD i default from by unfold zJ;rw[QN,QN]]at h2;generalize((F.getD f default).blocks.getD b default).ins.getD i default=x at *;unfold ZU at hm;simp only[GG,Qc]at hm;unfold z9 at h2;rw[QC (by omega),QC (by omega),QC (by omega),QF hm]at h2;exact h2
theorem Zb{α:Type}[Inhabited α]{l:List α}{x:α}(h:x∈l):∃ i,i<l.length/\l.getD i default=x:=by
 obtain⟨i,hi,rfl⟩:=JD h;exact⟨i,hi,by simp[List.getD,QB hi]⟩
theorem zMU(h:U0)(vt vf:Value)(T:List U2)(F:List WM)(E:Env h vt vf T F):
  WC Tryz.prog tb 58 [.agg #[vt,vf]] h fun r h'=>(∃ v,r=.tuple #[v,I (yS T F)]/\OwnR 3 RSt h.n h' v (if yS T F=0 then zc T F else[]))/\Ext h h':=by
 refine en ?_;refine VF ?_;intro p h1 e1 o1;replace o1:U1 h h1 p [vt,vf]:=o1;have E1:=E.ext e1;refine go ?_;refine VA (zKz h1 vt vf T F E1) ?_;rintro _ h2 ⟨rfl,e2⟩;have o2:=o1.ext e2;have E2:=E1.ext e2;by_cases hs:yS T F=0;case neg=>
  rw[QC hs];refine gr ?_;exact⟨⟨_,rfl,.inl ⟨rfl,rfl⟩⟩,e1.trans e2⟩
 rw[QF hs];obtain⟨hp,hw⟩:=yw hs;obtain⟨hc,hF1,hF8,hfn⟩:=yX hp;have hg:∀ g∈F,(0<=g.sig/\g.sig<(T.length:Int))/\zN g.blocks<=128:=fun g hg=>by
  obtain⟨i,hi,rfl⟩:=Zb hg;have Z:=zGl hp (f:=(i:Int)) (by omega);have h1:=Z.sig;have h2:=Z.many;unfold zJ at h2;rw[QN]at h1 h2;exact⟨h1,h2⟩
 have hty:∀ g∈F,∀ B∈g.blocks,∀ x∈B.ins,ZU x=true->0<=x.ty/\x.ty<(T.length:Int):=fun g hg B hB x hx hm=>by
  obtain⟨f,hf,rfl⟩:=Zb hg;obtain⟨b,hb,rfl⟩:=Zb hB;obtain⟨i,hi,rfl⟩:=Zb hx;have:=zGW hs hf hb hi hm;refine this.2.resolve_left fun e=> ?_;have h1:=this.1;unfold Wh at h1;rw[e]at h1;cases h1
 have hsg:∀ g∈F,0<=g.sig/\g.sig<(T.length:Int):=fun g q=>(hg g q).1;have hmy:∀ g∈F,zN g.blocks<=128:=fun g q=>(hg g q).2;rw[hs];replace hg:=WE.mk hg;replace hfn:=WE.mk hfn;refine go ?_;refine VA (zNU h2 vt vf T F E2 hsg hmy hF8 hty) ?_;rintro v h3 ⟨ov,e3⟩;refine gr ?_;exact⟨⟨v,rfl,ov.base (e1.trans e2).n⟩,e1.trans (e2.trans e3)⟩
end Go.Proofs.YtfnndahpddkniaaGreatDoor
set_option maxRecDepth 100000
namespace Go.Proofs.YtfnndahpddkniaaGreatDoor
open Go.Am
structure NT(hB h:U0)(p vR vF vS:Value)(rs fs:List Int)(ss:List Wv):Prop where
 own:U1 hB h p [vR,vF,vS]
 r:U7 hB h vR rs
 q:U7 hB h vF fs
 s:OwnR 3 RSt hB.n h vS ss
 rf:WQ vR vF
 rs:WQ vR vS
 fs:WQ vF vS
 pr:WQ p vR
 pf:WQ p vF
 ps:WQ p vS
section
variable {hB h h' h2:U0}{p vR vF vS v':Value}{rs fs l:List Int}{ss:List Wv}
theorem NT.ext(N:NT hB h p vR vF vS rs fs ss)(e:Ext h h'):NT hB h' p vR vF vS rs fs ss:=⟨N.own.ext e,N.r.ext e,N.q.ext e,OwnR.ext N.s e,N.rf,N.rs,N.fs,N.pr,N.pf,N.ps⟩
theorem NT.putR(N:NT hB h p vR vF vS rs fs ss)(hn:hB.n<=h.n)(u:BP vR h h')(o:WT h h' v' l)(oc:U1 hB h2 p [v',vF,vS])(u2:Wg p h' h2):NT hB h2 p v' vF vS l fs ss:=by
 have hs:zA6 h v':=U7.since' (.inr o);have u1:=u.upB;have u2:=u2.upB;have o1:=VJ hs N.own.within;have ob:U7 hB h' v' l:= .inr (let⟨g,a,b⟩:=o;⟨g,QU hn a,b⟩);exact⟨oc,ob.upB u2 o1.symm,(N.q.upB u1 N.rf).upB u2 N.pf,(N.s.upB YY u1 N.rs).upB YY u2 N.ps,VJ hs N.q.within,VJ hs N.s.within,N.fs,o1.symm,N.pf,N.ps⟩
theorem NT.putF(N:NT hB h p vR vF vS rs fs ss)(hn:hB.n<=h.n)(u:BP vF h h')(o:WT h h' v' l)(oc:U1 hB h2 p [vR,v',vS])(u2:Wg p h' h2):NT hB h2 p vR v' vS rs l ss:=by
 have hs:zA6 h v':=U7.since' (.inr o);have u1:=u.upB;have u2:=u2.upB;have o1:=VJ hs N.own.within;have ob:U7 hB h' v' l:= .inr (let⟨g,a,b⟩:=o;⟨g,QU hn a,b⟩);exact⟨oc,(N.r.upB u1 N.rf.symm).upB u2 N.pr,ob.upB u2 o1.symm,(N.s.upB YY u1 N.fs).upB YY u2 N.ps,(VJ hs N.r.within).symm,N.rs,VJ hs N.s.within,N.pr,o1.symm,N.ps⟩
end
theorem zKG{α:Type}{R:U0->List Value->α->Prop}{h0 h:U0}{c:Nat}{v:Value}{xs:List α}(o:OwnR c R h0.n h v xs):zA6 h0 v:=fun b hb=>by
 rcases o with⟨rfl,_⟩|⟨g,_,_,g1,_,rfl,_⟩
 ·cases hb
 ·cases hb;exact g1
theorem zF8{v:Value}{n c:Nat}:WQ v (.slice none n c):=fun _ _ h=>by cases h
def Zw(T:List U2)(F:List WM):List Int:=F.map fun g=>((T.getD g.sig.toNat default).parts.length:Int)+zN g.blocks
def zy(T:List U2)(F:List WM):List Int:=(zc T F).map fun s=>((yO T s.ty.toNat).length:Int)
theorem zNc{T:List U2}{F:List WM}(hp:yu T F=0){i:Nat}(hi:i<F.length):Yn T F i=(((T.getD (F.getD i default).sig.toNat default).parts.length:Int)+zN (F.getD i default).blocks,0):=by
 have hask:zz T F i=(((T.getD (F.getD i default).sig.toNat default).parts.length:Int),0):=by
  unfold zz;rw[QC (fun e=>e hp),QF (by unfold zY;simp;omega),QN]
 unfold Yn;rw[hask];simp
theorem zDx{T:List U2}{f:Int}{s:Wv}:∀ {l:List WY} {n:Int},s∈ZF T f n l->∃ x∈l,ZU x=true/\s.ty=(T.getD x.ty.toNat default).elem
 |[],_,h=>by cases h
 |x::l,n,h=>by
  unfold ZF at h;rcases Qu.1 h with h|h
  ·split at h
   ·rename_i hm;rw[Qb]at h;subst h;exact⟨x,Qi ..,hm,rfl⟩
   ·cases h
  ·obtain⟨y,a,b⟩:=zDx h;exact⟨y,Qq _ a,b⟩
theorem zEZ{T:List U2}{f:Int}{s:Wv}:∀ {l:List WL} {n:Int},s∈yq T f n l->∃ b∈l,∃ x∈b.ins,ZU x=true/\s.ty=(T.getD x.ty.toNat default).elem
 |[],_,h=>by cases h
 |x::l,n,h=>by
  unfold yq at h;rcases Qu.1 h with h|h
  ·exact⟨x,Qi ..,zDx h⟩
  ·obtain⟨y,a,b⟩:=zEZ h;exact⟨y,Qq _ a,b⟩
theorem zEA{T:List U2}{s:Wv}:∀ {l:List WM} {f:Int},s∈y8 T f l->∃ g∈l,∃ b∈g.blocks,∃ x∈b.ins,ZU x=true/\s.ty=(T.getD x.ty.toNat default).elem
 |[],_,h=>by cases h
 |x::l,n,h=>by
  unfold y8 at h;rcases Qu.1 h with h|h
  ·exact⟨x,Qi ..,zEZ h⟩
  ·obtain⟨y,a,b⟩:=zEA h;exact⟨y,Qq _ a,b⟩
theorem Yj{T:List U2}{F:List WM}(hs:yS T F=0):∀ s∈zc T F,0<=s.ty/\s.ty<(T.length:Int):=fun s h=>by
 obtain⟨g,hg,B,hB,x,hx,hm,he⟩:=zEA h;obtain⟨f,hf,rfl⟩:=Zb hg;obtain⟨b,hb,rfl⟩:=Zb hB;obtain⟨i,hi,rfl⟩:=Zb hx;obtain⟨h1,h2⟩:=zGW hs hf hb hi hm;have hc:=(yX (yw hs).1).1;have h3:=zEa hc h2;unfold BK at h3;rw[QF h1,<-he]at h3;rcases h3 with h3|h3
 ·unfold Wh at h1;simp only[QJ,Qc]at h1;have hm:=zDj hc (h2.resolve_left h1.1).1 (h2.resolve_left h1.1).2;unfold yz zDS at hm;omega
 ·exact h3
theorem YK{T:List U2}{F:List WM}(hs:yS T F=0):(zc T F).length<=1024:=by
 have hp:=(yw hs).1;obtain⟨hc,hF1,hF8,hfn⟩:=yX hp;have:=zAg (T:=T) (l:=F) (f:=0) fun g hg=>by
  obtain⟨i,hi,rfl⟩:=Zb hg;have h2:=(zGl hp (f:=(i:Int)) (by omega)).many;unfold zJ at h2;rw[QN]at h2;exact h2
 unfold zc;omega
theorem zKM(h:U0)(vt vf:Value)(T:List U2)(F:List WM)(E:Env h vt vf T F):
  WC Tryz.prog tb 33 [.agg #[vt,vf]] h fun r h'=>(∃ vR vF vS,r=.tuple #[.agg #[vR,vF,vS],I (yS T F)]/\(∃ a n c,vR=.slice a n c)/\(∃ a n c,vF=.slice a n c)/\(∃ a n c,vS=.slice a n c)/\U7 h h' vR (if yS T F=0 then Zw T F else[])/\U7 h h' vF (if yS T F=0 then zy T F else[])/\OwnR 3 RSt h.n h' vS (if yS T F=0 then zc T F else[]))/\Ext h h':=by
 refine en ?_;refine VF ?_;intro p1 h1 e1 o1;replace o1:U1 h h1 p1 [vt,vf]:=o1;have E1:=E.ext e1;refine go ?_;refine VL ?_;intro p2 h2 e2 o2;have E2:=E1.ext e2;have o12:=o1.ext e2;refine go ?_;refine VA (zMU h2 vt vf T F E2) ?_;rintro _ h3 ⟨⟨vS,rfl,oS⟩,e3⟩;have hS:=zKG oS;have hpS:WQ p2 (_:Value):=(VJ hS o2.within).symm;obtain⟨s1,s2,s3,rfl⟩:=zD oS.sl;have o13:=o12.ext e3;have o23:=o2.ext e3;have e13:=e2.trans e3;refine go ?_;refine VT (j:=2) (cs:=[.slice s1 s2 s3]) (hl:=by simp) o23 e13 ?_;intro h4 e4 o4 u4;replace o4:U1 h1 h4 p2 [.slice none 0 0,.slice none 0 0,.slice s1 s2 s3]:=o4;have oS4:=(oS.upB YY u4.upB hpS).base e2.n;have o14:=o1.ext e4;by_cases hs:yS T F=0;case neg=>
  simp only[QC hs]at oS4 |-;refine go ?_;refine VH o4 e4 ?_;intro h5 e5 o5 u5;refine go ?_;refine rt ?_ (Vc U6 o5 rfl (BH.cons U6 BH.nil));exact⟨⟨_,_,_,rfl,⟨_,_,_,rfl⟩,⟨_,_,_,rfl⟩,⟨_,_,_,rfl⟩,.inl ⟨rfl,rfl⟩,.inl ⟨rfl,rfl⟩,(oS4.upB YY u5.upB hpS).base e1.n⟩,e1.trans e5⟩
 simp only[QF hs]at oS4 |-;rw[hs];have N4:NT h1 h4 p2 (.slice none 0 0) (.slice none 0 0) (.slice s1 s2 s3) [] [] (zc T F):=⟨o4,.inl ⟨rfl,rfl⟩,.inl ⟨rfl,rfl⟩,oS4,zF8,(fun b hb=>by cases hb),(fun b hb=>by cases hb),zF8,zF8,hpS⟩;obtain⟨hp,hw⟩:=yw hs;obtain⟨hc,hF1,hF8,hfn⟩:=yX hp;have sf4:=(E1.ext e4).sf;obtain⟨f1,f2,f3,rfl⟩:=zD sf4;obtain⟨t1,t2,t3,rfl⟩:=zD E.st;replace hfn:=WE.mk hfn;refine go ?_;refine VD (fun i=>F.length-i) (fun i t h5=>zB t 24=I i/\i<=F.length/\∃ vR,(∃ a n c,vR=.slice a n c)/\Ext h1 h5/\NT h1 h5 p2 vR (.slice none 0 0) (.slice s1 s2 s3) ((Zw T F).take i) [] (zc T F)) 0 ?_ ?_
 ·exact⟨U6,QK _,_,⟨_,_,_,rfl⟩,e4,by simpa using N4⟩
 rintro i t h5 hsame ⟨s24,hi,vR,⟨r1,r2,r3,rfl⟩,e5,N5⟩;have E5:=E1.ext e5;have o15:=o1.ext e5;refine go ?_;refine VE (fun hb=> ?_) (fun hb=> ?_)<;>simp only[DB]at hb
 ·have hi':i<F.length:=by omega
  have hRl:(Zw T F).take (i+1)=(Zw T F).take i++[((T.getD (F.getD i default).sig.toNat default).parts.length:Int)+zN (F.getD i default).blocks]:=by
   have hl:i<(Zw T F).length:=by unfold Zw;simpa using hi'
   rw[Q4,QB hl];unfold Zw;simp[List.getD,QB hi']
  have hR:=zJv h5 _ _ T F i E5.tt E5.hm E5.sm E5.st E5.sf;rw[zNc hp hi']at hR;have htl:((Zw T F).take i).length<=8:=by rw[Qj];omega
  generalize((T.getD (F.getD i default).sig.toNat default).parts.length:Int)+zN (F.getD i default).blocks=m at *;refine go ?_;refine VA hR ?_;rintro _ h6 ⟨rfl,e6⟩;have N6:=N5.ext e6;have o6:=N6.own;have e16:=e5.trans e6;refine go ?_;refine WO.bl [m] ?_;intro v7 h7 e7 o7;have N7:=N6.ext e7;have oo7:=N7.own;have e17:=e16.trans e7;refine go ?_;refine Vv N7.r o7.sl e17 (by simp) (by simp at htl |-;omega) ?_;intro v8 h8 e8 o8 u8;obtain⟨g8,_,_,rfl,_⟩:=id o8;have oo8:=N7.own.upB u8.upB N7.pr.symm;refine go ?_;refine VT (j:=0) (hl:=by simp) (cs:=[_]) oo8 e8 ?_;intro h9 e9 o9 u9;refine go ?_;have N9:=N7.putR e17.n u8 o8 o9 u9;rw[<-hRl]at N9;exact zA (i+1) (by omega) ⟨Wc,by omega,.slice (some ⟨g8,0,none⟩) ((Zw T F).take (i+1)).length 1,⟨_,_,_,rfl⟩,e9,N9⟩
 ·have hii:i=F.length:=by omega
  subst hii;rw[Q9 (by unfold Zw;simp)]at N5;have oN5:=N5.own;have hfld:∀ j,j<(zc T F).length->0<=((zc T F).getD j default).ty/\((zc T F).getD j default).ty<(T.length:Int):=fun j hj=>Yj hs _ (zG hj);replace hfld:=WE.mk hfld;have sS5:=N5.s.sl;have hsl:=YK hs;refine go ?_;refine VD (fun j=>(zc T F).length-j) (fun j t h6=>zB t 45=I j/\j<=(zc T F).length/\∃ vF,(∃ a n c,vF=.slice a n c)/\Ext h1 h6/\NT h1 h6 p2 (.slice r1 r2 r3) vF (.slice s1 s2 s3) (Zw T F) ((zy T F).take j) (zc T F)) 0 ?_ ?_
  ·exact⟨U6,QK _,_,⟨_,_,_,rfl⟩,e5,by simpa using N5⟩
  rintro j t' h6 hsame' ⟨s45,hj,vF,⟨q1,q2,q3,rfl⟩,e6,N6⟩;have E6:=E1.ext e6;have o16:=o1.ext e6;have sS6:=N6.s.sl;refine go ?_;refine VE (fun hb'=> ?_) (fun hb'=> ?_)<;>simp only[DB]at hb'
  ·have hj':j<(zc T F).length:=by omega
   have hFl:(zy T F).take (j+1)=(zy T F).take j++[((yO T ((zc T F).getD j default).ty.toNat).length:Int)]:=by
    have hl:j<(zy T F).length:=by unfold zy;simpa using hj'
    rw[Q4,QB hl];unfold zy;simp[List.getD,QB hj'];exact List.getElem_map ..
   have hty:=hfld.out j hj';have htl:((zy T F).take j).length<=1024:=by rw[Qj];omega
   obtain⟨csS,hRS,pcS,hsS⟩:=zb (i:=j) sS6 hj';generalize(zc T F).getD j default=x at *;have hRS:csS=[I x.fn,I x.nr,I x.ty]:=hRS;subst hRS;refine go ?_;refine VL ?_;intro p8 h7 e7 o8;refine go ?_;refine VH o8 e7 ?_;intro h8 e8 o8 _;have E8:=E6.ext e8;have o18:=o16.ext e8;refine go ?_;refine VA (zKL h8 _ T x.ty E8.st E8.sm.types E8.sm.parts hc hty E8.hm) ?_;rintro _ h9 ⟨⟨v9,rfl,o9⟩,e9⟩;obtain⟨l1,l2,l3,rfl⟩:=WW.shape o9.sl;have e89:=e8.trans e9;have N9:=N6.ext e89;have oo9:=N9.own;have o19:=o18.ext e9;have e19:=e6.trans e89;refine go ?_;refine WO.bl [((yO T x.ty.toNat).length:Int)] ?_;intro v10 h10 e10 o10;have N10:=N9.ext e10;have oo10:=N10.own;have e110:=e19.trans e10;refine go ?_;refine Vv N10.q o10.sl e110 (by simp) (by simp at htl |-;omega) ?_;intro v11 h11 e11 o11 u11;obtain⟨g11,_,_,rfl,_⟩:=id o11;have oo11:=N10.own.upB u11.upB N10.pf.symm;refine go ?_;refine VT (j:=1) (hl:=by simp) (cs:=[_]) oo11 e11 ?_;intro h12 e12 o12 u12;have N12:=N10.putF e110.n u11 o11 o12 u12;rw[<-hFl]at N12;refine go ?_;exact zA (j+1) (by omega) ⟨Wc,by omega,.slice (some ⟨g11,0,none⟩) ((zy T F).take (j+1)).length 1,⟨_,_,_,rfl⟩,e12,N12⟩
  ·have hjj:(zy T F).take j=zy T F:=Q9 (by unfold zy;simp;omega);rw[hjj]at N6;have oN6:=N6.own;refine go ?_;refine VH oN6 e6 ?_;intro h7 e7 o7 u7;refine go ?_;refine rt ?_ (Vc U6 o7 rfl (BH.cons U6 BH.nil));exact⟨⟨_,_,_,rfl,⟨_,_,_,rfl⟩,⟨_,_,_,rfl⟩,⟨_,_,_,rfl⟩,(N6.r.upB u7.upB N6.pr).since e1,(N6.q.upB u7.upB N6.pf).since e1,(N6.s.upB YY u7.upB N6.ps).base e1.n⟩,e1.trans e7⟩
end Go.Proofs.YtfnndahpddkniaaGreatDoor
set_option maxRecDepth 100000
namespace Go.Proofs.YtfnndahpddkniaaGreatDoor
open Go.Am
theorem zCk:∀ {l:List Int},(∀ x∈l,0<=x/\x<=1000)->0<=l.sum/\l.sum<=1000*l.length
 |[],_=>by simp
 |x::l,h=>by
  have:=zCk fun y hy=>h y (Qq _ hy);have:=h x (Qi ..);simp only[Gy,GE];omega
theorem zML{h0 h:U0}{v:Value}{l:List Int}{n:Nat}(o:U7 h0 h v l)(hn:n<=l.length):∃ r,ZY 1 v none (some n) none=some r/\WJ h r (l.take n):=by
 rcases o with⟨rfl,rfl⟩|⟨g,g1,g2,rfl,g3⟩
 ·obtain rfl:n=0:=Nat.le_zero.1 hn;exact⟨.slice none 0 0,rfl,WJ.nil h⟩
 ·have hlen:(l.take n).length=n:=by rw[Qj];omega
  refine⟨.slice (some ⟨g,0+0*1,none⟩) (n-0) 1,?_,by simp,.inr ⟨g,0,l.map I,by rw[hlen];simp,ZW g3,?_,g2⟩⟩
  ·have b1:Nat.ble 0 n=true:=QG (QK _);have b2:Nat.ble n l.length=true:=QG hn;simp only[ZY,Gq,GD,b1,b2,Qn,Qt,cond_true,GS]
  ·rw[ZG (by rw[hlen];simp;omega),List.map_take,hlen];simp
theorem zBL(h:U0)(i n:Int):WC Tryz.prog tb 34 [I i,I n] h fun r h'=>r=.bool (decide (0<=i/\i<n))/\h=h':=by
 refine en ?_;by_cases h0:0<=i
 ·refine gr ?_;exact⟨by simp[h0];rfl,rfl⟩
 ·refine gr ?_;exact⟨by simp[h0];rfl,rfl⟩
theorem zNq(h:U0)(v:Value)(l:List Int)(n:Nat){h0:U0}(o:U7 h0 h v l)(hn:n<=l.length)(hl:l.length<=2000)(hb:∀ x∈l,0<=x/\x<=1000):
  WC Tryz.prog tb 46 [v,I n] h fun r h'=>r=I (l.take n).sum/\h=h':=by
 have s:=o.sl;obtain⟨v1,v2,v3,rfl⟩:=WW.shape s;obtain⟨r,hr,sr⟩:=zML o hn;replace hb:=WE.mk hb;refine en ?_;refine Vu hr ?_;have hlen:(l.take n).length=n:=by rw[Qj];omega
 have hbt:∀ x∈l.take n,0<=x/\x<=1000:=fun x hx=>hb.out x (Qp hx);generalize l.take n=m at *;obtain⟨r1,r2,r3,rfl⟩:=WW.shape sr;replace hbt:=WE.mk hbt;refine go ?_;refine VD (fun i=>m.length-i) (fun i t h1=>h=h1/\zB t 11=I i/\i<=m.length/\zB t 4=I (m.take i).sum) 0 ?_ ?_
 ·exact⟨rfl,U6,QK _,U6⟩
 rintro i t h1 hsame ⟨rfl,s11,hi,s4⟩;have hsb:=zCk (l:=m.take i) fun x hx=>hbt.out x (Qp hx);have hli:(m.take i).length<=i:=List.length_take_le _ _;refine go ?_;refine VE (fun hc=> ?_) (fun hc=> ?_)<;>simp only[DB]at hc
 ·have hi':i<m.length:=by omega
  have hx:=hbt.out _ (zO hi');have hsum:(m.take (i+1)).sum=(m.take i).sum+m.getD i 0:=by
   rw[Q4,QB hi',G5];simp[List.getD,QB hi']
  refine go ?_;exact zA (i+1) (by omega) ⟨rfl,Wc,by omega,by rw[hsum];exact U6⟩
 ·have hii:i=m.length:=by omega
  subst hii;rw[Qk]at s4;refine gr ?_;exact⟨rfl,rfl⟩
structure TB(h0 h:U0)(vR vF vS:Value)(Rg Fl:List Int)(S:List Wv):Prop where
 r:U7 h0 h vR Rg
 f:U7 h0 h vF Fl
 s:OwnR 3 RSt h0.n h vS S
 hR:Rg.length<=8
 hF:Fl.length<=1024
 bR:∀ x∈Rg,0<=x/\x<=1000
 bF:∀ x∈Fl,0<=x/\x<=1000
 sh:(∃ a n c,vR=.slice a n c)/\(∃ a n c,vF=.slice a n c)/\(∃ a n c,vS=.slice a n c)
theorem TB.ext{h0 h h':U0}{vR vF vS:Value}{Rg Fl:List Int}{S:List Wv}(B:TB h0 h vR vF vS Rg Fl S)(e:Ext h h'):TB h0 h' vR vF vS Rg Fl S:=⟨B.r.ext e,B.f.ext e,OwnR.ext B.s e,B.hR,B.hF,B.bR,B.bF,B.sh⟩
section
variable {h0 h:U0}{vR vF vS:Value}{Rg Fl:List Int}{S:List Wv}
theorem zIZ(B:TB h0 h vR vF vS Rg Fl S):WC Tryz.prog tb 38 [.agg #[vR,vF,vS]] h fun r h'=>r=I (1+Rg.length)/\Ext h h':=by
 obtain⟨⟨r1,r2,r3,rfl⟩,⟨f1,f2,f3,rfl⟩,⟨s1,s2,s3,rfl⟩⟩:=B.sh;refine en ?_;refine VF ?_;intro p h1 e1 o1;replace o1:U1 h h1 p [.slice r1 r2 r3,.slice f1 f2 f3,.slice s1 s2 s3]:=o1;have B1:=B.ext e1;have sR:=B1.r.sl;have hR:=B.hR;refine gr ?_;exact⟨rfl,e1⟩
theorem zLk(B:TB h0 h vR vF vS Rg Fl S)(s i:Int):WC Tryz.prog tb 37 [.agg #[vR,vF,vS],I s,I i] h fun r h'=>r=.tuple #[I (if(0<=s/\s<(Fl.length:Int))/\0<=i/\i<Fl.getD s.toNat 0 then(Fl.take s.toNat).sum+i else 0),.bool (decide ((0<=s/\s<(Fl.length:Int))/\0<=i/\i<Fl.getD s.toNat 0))]/\Ext h h':=by
 obtain⟨⟨r1,r2,r3,rfl⟩,⟨f1,f2,f3,rfl⟩,⟨s1,s2,s3,rfl⟩⟩:=B.sh;have hF:=B.hF;refine en ?_;refine VF ?_;intro p h1 e1 o1;replace o1:U1 h h1 p [.slice r1 r2 r3,.slice f1 f2 f3,.slice s1 s2 s3]:=o1;have B1:=B.ext e1;have sF:=B1.f.sl;refine go ?_;refine VA (zBL h1 s Fl.length) ?_;rintro _ _ ⟨rfl,rfl⟩;by_cases hs:0<=s/\s<(Fl.length:Int);case neg=>
  rw[QQ hs,QC (fun e=>hs e.1),QQ (fun e=>hs e.1)];refine gr ?_;exact⟨rfl,e1⟩
 rw[QT hs];have hx:=B.bF _ (zO (l:=Fl) (i:=s.toNat) (by omega));refine go ?_;refine VA (zBL h1 i (Fl.getD s.toNat 0)) ?_;rintro _ _ ⟨rfl,rfl⟩;by_cases hi:0<=i/\i<Fl.getD s.toNat 0;case neg=>
  rw[QQ hi,QC (fun e=>hi e.2),QQ (fun e=>hi e.2)];refine gr ?_;exact⟨rfl,e1⟩
 rw[QT hi,QF ⟨hs,hi⟩,QT (And.intro hs hi)];have hsb:=zCk (l:=Fl.take s.toNat) fun x hx=>B.bF x (Qp hx);have hlt:(Fl.take s.toNat).length<=1024:=by rw[Qj];omega
 obtain⟨k,rfl⟩:∃ k:Nat,s=k:=⟨s.toNat,by omega⟩;rw[QN]at *;refine go ?_;refine VA (zNq h1 _ Fl k B1.f (by omega) (by omega) B.bF) ?_;rintro _ _ ⟨rfl,rfl⟩;refine gr ?_;exact⟨rfl,e1⟩
end
end Go.Proofs.YtfnndahpddkniaaGreatDoor
set_option maxRecDepth 100000
namespace Go.Proofs.YtfnndahpddkniaaGreatDoor
open Go.Am
section
variable {h:U0}{vt vf:Value}{T:List U2}{F:List WM}
theorem zQC{h h':U0}{vR vF vS:Value}(hs:yS T F=0)(r:U7 h h' vR (if yS T F=0 then Zw T F else[]))(q:U7 h h' vF (if yS T F=0 then zy T F else[]))(s:OwnR 3 RSt h.n h' vS (if yS T F=0 then zc T F else[]))
  (sh:(∃ a n c,vR=.slice a n c)/\(∃ a n c,vF=.slice a n c)/\(∃ a n c,vS=.slice a n c)):TB h h' vR vF vS (Zw T F) (zy T F) (zc T F):=by
 rw[QF hs]at r q s;have hp:=(yw hs).1;obtain⟨hc,hF1,hF8,hfn⟩:=yX hp;refine⟨r,q,s,by unfold Zw;simpa using hF8,by unfold zy;rw[Qv];exact YK hs,fun x hx=> ?_,fun x hx=> ?_,sh⟩
 ·unfold Zw at hx;obtain⟨g,hg,rfl⟩:=Q8.1 hx;obtain⟨i,hi,rfl⟩:=Zb hg;have Z:=zGl hp (f:=(i:Int)) (by omega);have h1:=Z.many;have h2:=Z.par4;have h3:=zDa (F.getD i default).blocks;unfold zJ at h1;unfold yD at h2;rw[QN]at h1 h2;omega
 ·unfold zy at hx;obtain⟨s,hs',rfl⟩:=Q8.1 hx;have h1:=Yj hs s hs';have hl:=zBu hc;have h2:=zBF (s.ty.toNat+1) s.ty.toNat (Q1 _) fun j hj=>(hl j (by omega)).1;have h3:=(hl s.ty.toNat (by omega)).2;omega
def zC7(F:List WM):Int:=1+F.length
def zO2(T:List U2)(F:List WM)(s i:Int):Prop:=(0<=s/\s<((zy T F).length:Int))/\0<=i/\i<(zy T F).getD s.toNat 0
instance (T:List U2) (F:List WM) (s i:Int):Decidable (zO2 T F s i):=by unfold zO2;infer_instance
end
end Go.Proofs.YtfnndahpddkniaaGreatDoor
set_option maxRecDepth 100000
namespace Go.Proofs.YtfnndahpddkniaaGreatDoor
open Go.Am
section
variable {h:U0}{vt vf:Value}{T:List U2}{F:List WM}
end
end Go.Proofs.YtfnndahpddkniaaGreatDoor
set_option maxRecDepth 100000
namespace Go.Proofs.YtfnndahpddkniaaGreatDoor
open Go.Am
section
variable {h:U0}{vt vf:Value}{T:List U2}{F:List WM}
end
end Go.Proofs.YtfnndahpddkniaaGreatDoor
set_option maxRecDepth 100000
namespace Go.Proofs.YtfnndahpddkniaaGreatDoor
open Go.Am
theorem zMj(h:U0)(k:Nat)(s:Int):WC Tryz.prog tb 63 [I k,I s] h fun r h'=>r=I (if false then(k:Int)else s)/\h=h':=by
 refine en ?_;refine rt ?_;exact⟨rfl,rfl⟩
theorem zMT(h:U0)(vT:Value)(T:List U2)(k cell:Int)(st:Wp h vT T)(hT:T.length<=100)(hp:∀ x∈T,x.parts.length<=100)(hc:yQ T=0)(hk:0<=k/\k<(T.length:Int))(hcl:0<=cell/\cell<((Wq T k.toNat).length:Int))(hm:h.mark<=h.n):
  WC Tryz.prog tb 36 [vT,I k,I cell] h fun r h'=>r=.tuple #[I ((yj T k.toNat).1.getD cell.toNat 0),I 0]/\Ext h h':=by
 obtain⟨k,rfl⟩:∃ q:Nat,k=q:=⟨k.toNat,by omega⟩;obtain⟨t1,t2,t3,rfl⟩:=zD st;have hl:=zBu hc;have hw:=zBU (k+1) k (Q1 _) fun j hj=>(hl j (by omega)).1;refine en ?_;refine VA (zEr h _ T k st hT hp hc hk) ?_;rintro _ h2 ⟨⟨v2,rfl,o2⟩,e2⟩;refine go ?_;refine VF ?_;intro p h3 e3 o3;obtain⟨gp,_,_,rfl,_⟩:=id o3;have e03:=e2.trans e3;have hpb:∀ g,Value.pointer (some ⟨gp,0,none⟩)=.pointer (some ⟨g,0,none⟩)->g<h3.n:=fun g e=>o3.within _ (by rw[e];rfl);have w:KW h h3 (.slice t1 t2 t3) (.pointer (some ⟨gp,0,none⟩)) (.slice none 0 0) h3.n false 63 0 []:=⟨o3.since e2,.inl ⟨rfl,rfl⟩,hpb,QE _,e03⟩;refine go ?_;refine VA (zJT h hm _ _ h3.n false 63 T st (by omega) zMj (k+1) k h3 _ 0 [] (by omega) (by omega) (fun j hj=>hl j (by omega)) (hl k (by omega)).1 w e03.n (by omega) (by omega) (by simp;omega)) ?_;rintro _ h4 ⟨vA,w4,k4⟩;have o4:=w4.own;have sA:=(zHx w4.lst e03.n).sl;have hlst:[]++wkL T false 0 k=(yj T k).1:=by unfold wkL;simp
 rw[hlst]at sA;rw[QN]at hcl |-;rw[<-hw.2.1]at hcl;have hb:=hw.2.2 _ (zO (l:=(yj T k).1) (i:=cell.toNat) (by omega));generalize(yj T k).1=L at *;obtain⟨a1,a2,a3,rfl⟩:=WW.shape sA;refine gr ?_;exact⟨rfl,w4.ext⟩
end Go.Proofs.YtfnndahpddkniaaGreatDoor
set_option maxRecDepth 100000
namespace Go.Proofs.YtfnndahpddkniaaGreatDoor
open Go.Am
structure BW where
 kind:Int
 n:Int
 block:Int
 pos:Int
deriving Inhabited,DecidableEq
def RVal(_:U0)(cs:List Value)(x:BW):Prop:=cs=[.int .u8 x.kind,I x.n,I x.block,I x.pos]
abbrev SlV(h:U0)(v:Value)(l:List BW):Prop:=Ww 4 RVal h v l
theorem SlV.ext{h h':U0}{v:Value}{l:List BW}(s:SlV h v l)(e:Ext h h'):SlV h' v l:=Ww.ext (h:=h) (h':=h') (fun cs a (r:RVal h cs a)=>(r:RVal h' cs a)) s e
theorem zHU{α:Type}[Inhabited α]{A B:List α}(hl:A.length=B.length)(h:∀ i,i<A.length->A.getD i default=B.getD i default):A=B:=by
 refine JB hl fun i h1 h2=> ?_;have:=h i h1;rwa [QH,QH,QB h1,QB h2]at this
theorem zO5(x y:BW):YU [.int .u8 x.kind,I x.n,I x.block,I x.pos] [.int .u8 y.kind,I y.n,I y.block,I y.pos]=decide (x=y):=by
 by_cases h:x=y
 ·subst h;simp[YU,zCW,I]
 ·rw[QQ h];cases hb:YU [.int .u8 x.kind,I x.n,I x.block,I x.pos] [.int .u8 y.kind,I y.n,I y.block,I y.pos]with
  |false=>rfl
  |true=>
   exfalso;simp[YU,zCW,I]at hb;exact h (by cases x;cases y;simp_all)
theorem zHs(h:U0)(va vb:Value)(A B:List BW)(ka:SlV h va A)(kb:SlV h vb B)(la:(A.length:Int)<=9223372036854775807):WC Tryz.prog tb 45 [va,vb] h fun r h'=>r=.bool (decide (A=B))/\h=h':=by
 refine en ?_;by_cases hl:A.length=B.length;case neg=>
  refine gr ?_;exact⟨by rw[QQ (fun e=>hl (by rw[e]))];rfl,rfl⟩
 refine go ?_;refine VD (fun i=>A.length-i) (fun i t h1=>h=h1/\zB t 5=I i/\i<=A.length/\WE (∀ j,j<i->A.getD j default=B.getD j default)) 0 ?_ ?_
 ·exact⟨rfl,U6,QK _,⟨fun j hj=>absurd hj (Qh _)⟩⟩
 rintro i t _ hsame ⟨rfl,s5,hi,hI⟩;refine go ?_;refine VE (fun hb=> ?_) (fun hb=> ?_)<;>simp only[DB]at hb
 ·obtain⟨ca,rfl,pca,hsa⟩:=zW ka (show i<A.length by omega);obtain⟨cb,rfl,pcb,hsb⟩:=zW kb (show i<B.length by omega);have pca:=(pca _ (Ext.refl _)).1;have pcb:=(pcb _ (Ext.refl _)).1;refine go ?_;refine Vn (zM5 (xs:=#[.int .u8 (A.getD i default).kind,I (A.getD i default).n,I (A.getD i default).block,I (A.getD i default).pos]) (ys:=#[.int .u8 (B.getD i default).kind,I (B.getD i default).n,I (B.getD i default).block,I (B.getD i default).pos]) (b:=decide (A.getD i default=B.getD i default)) (by kernel_rfl) (zO5 _ _)) ?_;refine go ?_;repeat' (first|(refine VE (fun hb=> ?_) (fun hb=> ?_)<;>(try simp only[DB]at hb)<;>refine go ?_)|(refine VI (fun hb=> ?_) (fun hb=> ?_)<;>(try simp only[DB]at hb)<;>refine go ?_))
  ·refine rt ?_;refine⟨?_,rfl⟩;rw[QQ (fun e=>by subst e;exact hb rfl)];rfl
  ·refine zA (i+1) (by omega) ⟨rfl,Wc,by omega,⟨fun j hj=> ?_⟩⟩;by_cases e:j=i
   ·subst e;exact hb
   ·exact hI.out j (by omega)
 ·refine gr ?_;exact⟨by rw[QT (zHU hl fun j hj=>hI.out j (by omega))];rfl,rfl⟩
structure Ba where
 site:Int
 ty:Int
 depth:Int
 alive:Bool
 cells:List BW
deriving Inhabited,DecidableEq
def RMb(h:U0)(cs:List Value)(x:Ba):Prop:=∃ v,cs=[I x.site,I x.ty,I x.depth,.bool x.alive,v]/\SlV h v x.cells/\(x.cells.length:Int)<=9223372036854775807
theorem RMb.ext{h h' cs x}(r:RMb h cs x)(e:Ext h h'):RMb h' cs x:=let⟨v,a,b,c⟩:=r;⟨v,a,SlV.ext b e,c⟩
abbrev Wk(h:U0)(v:Value)(l:List Ba):Prop:=Ww 5 RMb h v l
theorem Wk.ext{h h' v l}(s:Wk h v l)(e:Ext h h'):Wk h' v l:=Ww.ext (fun _ _ r=>RMb.ext r e) s e
theorem zPi{a b:Ba}(h1:a.site=b.site)(h2:a.ty=b.ty)(h3:a.depth=b.depth)(h4:a.alive=b.alive)(h5:a.cells=b.cells):a=b:=by cases a;cases b;cases h1;cases h2;cases h3;cases h4;cases h5;rfl
end Go.Proofs.YtfnndahpddkniaaGreatDoor
