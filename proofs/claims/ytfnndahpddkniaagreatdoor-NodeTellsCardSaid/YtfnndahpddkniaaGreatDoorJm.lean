/- Walks of functions, plain laws; proves no statement. -/
import Derived.Test.YtfnndahpddkniaaGreatDoorJl
set_option linter.all false
set_option maxHeartbeats 2000000
set_option maxRecDepth 100000
namespace Go.Proofs.YtfnndahpddkniaaGreatDoor
open Go.Am
theorem zC1{T:List U0}(h1:yR T=0):∀ j,j<T.length->ZI T j/\(W8 T j).length<=32:=by
 rw[zAe]at h1;split at h1
 ·cases h1
 ·split at h1
  ·assumption
  ·cases h1
structure KW(hB h:Uy)(vT p vA:Value)(b:Nat)(o:Bool)(fid:FuncId)(s:Int)(l:List Int):Prop where
 own:Uz hB h p [vT,.bool o,.func (.func fid) #[] #[],I s,vA]
 lst:OwnR 1 RI b h vA l
 pb:∀ g,p=.pointer (some ⟨g,0,none⟩)->g<b
 bn:b<=h.n
 ext:Ext hB h
theorem KW.off{hB h:Uy}{vT p vA:Value}{b:Nat}{o:Bool}{fid:FuncId}{s:Int}{l:List Int}(w:KW hB h vT p vA b o fid s l):WN p vA:=by
 obtain⟨g,_,_,rfl,_⟩:=w.own;have hg:=w.pb g rfl;intro c hc hv;cases hc;rcases w.lst with⟨rfl,_⟩|⟨g2,_,_,g3,_,rfl,_⟩
 ·cases hv
 ·cases hv;exact Nat.lt_irrefl _ (QK hg g3)
theorem zN3(hB:Uy)(hmB:hB.mark<=hB.n)(vT p:Value)(b:Nat)(o:Bool)(fid:FuncId)(T:List U0)(st:Wn hB vT T)(hT:(T.length:Int)<=1000)
  (hf:∀ (h:Uy) (k:Nat) (s:Int),WC Tryz.prog tb fid [I k,I s] h fun r h'=>r=I (if o then(k:Int)else s)/\h=h'):∀ (n k:Nat) (h:Uy) (vA:Value) (s:Int) (l:List Int),k<n->k<T.length->zDc T k->ZI T k->KW hB h vT p vA b o fid s l->hB.n<=b->0<=s->s+300*k<=1000000000->l.length+600*k<=90000->
  WC Tryz.prog tb 64 [p,I k] h fun r h'=>∃ vA',KW hB h' vT p vA' b o fid (s+(yp T k).length) (l++wkL T o s k)/\Wh p vA h h' vA':=by
 obtain⟨t1,t2,t3,rfl⟩:=zD st;intro n;induction n with
 |zero=>intro k h vA s l hk;omega
 |succ n ih=>
  intro k h vA s l hkn hk hlow hM w hb s0 s1 hl;have hall:∀ j,j<=k->ZI T j:=fun j hj=>by
   by_cases e:j=k
   ·subst e;exact hM
   ·exact(hlow j (by omega)).1
  have hXt:=w.ext;have st0:=st.ext w.ext;have h4':=zJL hM;have h5':=zIy hM;obtain⟨cs,⟨va,rfl,sa,hla⟩,pc,hs⟩:=zd (i:=k) st hk;replace pc:=(pc _ hXt).1;have h32:∀ q,q<k->(yp T q).length<=32/\(∀ s',(wkL T o s' q).length<=32)/\(Bm T q).2=(yp T q).length:=fun q hq=>by
   have h1:=(hlow q hq).2;have h2:∀ j,j<=q->ZI T j:=fun j hj=>hall j (by omega);exact⟨QU (zC2 (q+1) q (GR _) h2) h1,fun s'=>QU (zPB h2) h1,(zJd (q+1) q (GR _) h2).1⟩
  rw[zBI hall,zIJ hall];generalize T.getD k default=x at *;obtain⟨a1,a2,a3,rfl⟩:=WW.shape sa;have oW:=w.own;obtain⟨gp,_,_,rfl,_⟩:=id oW;refine en ?_;refine VK ?_;intro p4 h1 e1 o1;refine go ?_;refine VG o1 e1 ?_;intro h2 e2 o2 _;have oW2:=oW.ext e2;have w2:KW hB h2 (.slice t1 t2 t3) (.pointer (some ⟨gp,0,none⟩)) vA b o fid s l:=⟨oW2,OwnR.ext w.lst e2,w.pb,QU w.bn e2.n,w.ext.trans e2⟩;have sa2:=sa.ext w2.ext;have f2:WN vA p4:=(VH o2.since' w.lst.within).symm;have f1:WN (.pointer (some ⟨gp,0,none⟩)) p4:=(VH o2.since' oW.within).symm;replace h32:=WA.mk h32;replace hall:=WA.mk hall;by_cases h4:x.kind=4
  ·have hp:=h4' h4;simp only[h4,Q2];have hp8:=hp.1;replace hp:=WA.mk hp;replace hlow:=WA.mk hlow;have hN:WA (∀ i,∀ p∈x.parts.take i,(Bm T p.toNat).2=(yp T p.toNat).length):=⟨fun i p hpp=>(h32.out p.toNat (by have:=hp.out.2 p (Qi hpp);omega)).2.2⟩;refine go ?_;refine VD (fun i=>x.parts.length-i) (fun i t h3=>zB t 50=I i/\i<=x.parts.length/\∃ vA',KW hB h3 (.slice t1 t2 t3) (.pointer (some ⟨gp,0,none⟩)) vA' b o fid (s+(((x.parts.take i).map fun p=>yp T p.toNat).flatten.length:Int)) (l++zFE T o s (x.parts.take i))/\Wh (.pointer (some ⟨gp,0,none⟩)) vA h2 h3 vA'/\(zFE T o s (x.parts.take i)).length<=32*i) 0 ?_ ?_
   ·refine⟨U4,QL _,vA,?_,Wh.refl ..,?_⟩
    ·have:zFE T o s []=[]:=by cases o<;>rfl
     simpa [this]using w2
    ·have:zFE T o s []=[]:=by cases o<;>rfl
     simp[this]
   rintro i t h3 hsame ⟨s7,hi,vA',w3,k3,hwl⟩;have sa3:=sa.ext w3.ext;refine go ?_;refine VE (fun hc=> ?_) (fun hc=> ?_)<;>simp only[DB]at hc
   ·have hi':i<x.parts.length:=by omega
    have hpi:=hp.out.2 _ (zO hi');obtain⟨q,hq⟩:∃ q:Nat,x.parts.getD i 0=q:=⟨(x.parts.getD i 0).toNat,by omega⟩;have hqk:q<k:=by omega
    have htk:x.parts.take (i+1)=x.parts.take i++[(q:Int)]:=by
     rw[Qv,QB hi',<-hq];simp[List.getD,QB hi']
    have hsn:=zNM (o:=o) (s:=s) (q:=(q:Int)) (hN.out i);have hfl:=zBH (l:=x.parts.take i) (f:=fun p=>yp T p.toNat) fun p hpp=>(h32.out p.toNat (by have:=hp.out.2 p (Qi hpp);omega)).1;have hti:(x.parts.take i).length<=i:=List.length_take_le _ _;have h32q:=h32.out q hqk;rw[QN]at hsn;have hfs:((x.parts.take (i+1)).map fun p=>yp T p.toNat).flatten.length=((x.parts.take i).map fun p=>yp T p.toNat).flatten.length+(yp T q).length:=by
     rw[htk];simp
    refine go ?_;rw[hq];refine VA (ih q h3 vA' _ _ (by omega) (by omega) (fun j hj=>hlow.out j (by omega)) (hlow.out q hqk).1 w3 hb (by omega) (by omega) (by rw[QR];omega)) ?_;rintro r h4 ⟨vA4,w4,k4⟩;refine go ?_;refine zA (i+1) (by omega) ⟨Wd,by omega,vA4,?_,k3.trans k4,?_⟩
    ·rw[hfs,htk,hsn,<-Qm,Int.natCast_add,<-Int.add_assoc];exact w4
    ·rw[htk,hsn,QR];have:=h32q.2.1 (s+(((x.parts.take i).map fun p=>yp T p.toNat).flatten.length:Int));omega
   ·have hii:i=x.parts.length:=by omega
    subst hii;rw[Qg]at w3;refine go ?_;refine Bk ?_;exact⟨vA',w3,(Wh.ext e2).trans k3⟩
  by_cases h5:x.kind=5
  ·have hp:=h5' h5;obtain⟨q,hq⟩:∃ q:Nat,x.elem=q:=⟨x.elem.toNat,by omega⟩;obtain⟨m,hm⟩:∃ m:Nat,x.many=m:=⟨x.many.toNat,by omega⟩;have hqk:q<k:=by omega
   simp only[h5,Q2,GX,show ¬((5:Int)=4) by decide,hq,hm,QN];replace hlow:=WA.mk hlow;refine go ?_;refine V4 ?_;refine go ?_;refine VD (fun i=>m-i) (fun i t h3=>zB t 68=I i/\i<=m/\(o=true->i<=1)/\∃ vA',KW hB h3 (.slice t1 t2 t3) (.pointer (some ⟨gp,0,none⟩)) vA' b o fid (if i=0 then s else s+((yp T q).length:Int)) (l++if o then(if i=0 then[]else yp T q)else(List.replicate i (wkL T o s q)).flatten)/\Wh (.pointer (some ⟨gp,0,none⟩)) vA h2 h3 vA') 0 ?_ ?_
   ·exact⟨U4,QL _,fun _=>QL _,vA,by cases o<;>simpa using w2,Wh.refl ..⟩
   rintro i t h3 hsame ⟨s7,hi,hoi,vA',w3,k3⟩;have o3p:=(Vk o2 k3 f1 f2).1;have oW3:=w3.own;refine go ?_;rw[hm];refine go ?_;refine VE (fun hc=> ?_) (fun hc=> ?_)<;>simp only[DB]at hc
   ·have hi':i<m:=by omega
    by_cases hox:o=true/\i≠0
    ·obtain⟨rfl,hi0⟩:=hox;have hi1:i=1:=by have:=hoi rfl;omega
     subst hi1;refine go ?_;refine Bk ?_;exact⟨vA',by simpa using w3,(Wh.ext e2).trans k3⟩
    ·have hw:(if o then(if i=0 then[]else yp T q)else(List.replicate i (wkL T o s q)).flatten)++wkL T o s q=(if o then(if i+1=0 then[]else yp T q)else(List.replicate (i+1) (wkL T o s q)).flatten)/\(if o then(if i=0 then[]else yp T q)else(List.replicate i (wkL T o s q)).flatten).length<=32*i:=by
      cases o with
      |true=>
       have:i=0:=by have:=hoi rfl;exact GN fun h=>hox ⟨rfl,h⟩
       subst this;simp[wkL]
      |false=>
       simp only[QY,GX];rw[List.replicate_succ',List.flatten_append];have:=(h32.out q hqk).2.1 s;have h2:=zAt i (wkL T false s q);have h3:=Nat.mul_le_mul_left i this;exact⟨by simp,by omega⟩
     have hsk:o=true->i=0:=fun h=>GN fun h2=>hox ⟨h,h2⟩;have hof:=w3.off;have f3:=(Vk o2 k3 f1 f2).2;have h32q:=h32.out q hqk;cases o;all_goals
      first|(have hi0:i=0:=hsk rfl)|skip
      refine go ?_
      refine VV (j:=3) (cs:=[I s]) (hl:=by simp) oW3 w3.ext ?_
      intro h4 e4 oW4 u4
      replace oW4:Uz hB h4 (.pointer (some ⟨gp,0,none⟩)) [.slice t1 t2 t3,.bool _,.func (.func fid) #[] #[],I s,vA']:=oW4
      have o4p:=Uz.upB o3p u4.upB f1
      have w4:=KW.mk oW4 (OwnR.upB (fun _ _ _ _ h=>h) w3.lst u4.upB hof) w3.pb (QU w3.bn u4.1) e4
      refine go ?_
      rw[hq]
      refine VU (WV.func (ih q h4 vA' s _ (by omega) (by omega) (fun j hj=>hlow.out j (by omega)) (hlow.out q hqk).1 w4 hb s0 (by omega) (by rw[QR];omega))) ?_
      rintro r h5 ⟨vA5,w5,k5⟩
      refine go ?_
      refine zA (i+1) (by omega) ⟨Wd,by omega,(fun h=>by first|omega|cases h),vA5,?_,k3.trans (Wh.trans ⟨u4.1,fun g hg h1 _=>u4.upB.2 g hg h1,fun _ h=> .inl h⟩ k5)⟩
      rw[Qm,hw.1]at w5
      simpa using w5
   ·have hii:i=m:=by omega
    subst hii;refine go ?_;refine Bk ?_;have hm0:i≠0:=by omega
    exact⟨vA',by simpa [hm0]using w3,(Wh.ext e2).trans k3⟩
  ·simp only[h4,h5,GX];refine go ?_;refine VC 1 rfl rfl ?_;have oWY:=oW2.ext (zH 1 h2);have oWX:Uz hB (inC (zC 1 h2)) (.pointer (some ⟨gp,0,none⟩)) [.slice t1 t2 t3,.bool o,.func (.func fid) #[] #[],I s,vA]:=oWY;clear oWY;have hsl:∃ c1 c2 c3,vA=.slice c1 c2 c3:=by
    rcases w2.lst with⟨rfl,_⟩|⟨_,_,_,_,_,rfl,_⟩
    ·exact⟨_,_,_,rfl⟩
    ·exact⟨_,_,_,rfl⟩
   obtain⟨c1,c2,c3,rfl⟩:=hsl;refine WB ?_;refine VU (WV.func (hf _ k s)) ?_;rintro _ _ ⟨rfl,rfl⟩;refine nE (Ext.refl _) ?_;refine Xg (hB:=hB) (b:=b) (v:= .slice c1 c2 c3) (if o then(k:Int)else s) (fun _=>False) (Ext.refl _) w2.lst w2.ext (by have:=w2.ext.mark;omega) hb w2.bn (by decide) (by omega) oW2 w2.pb (fun _ _ _=>rfl) (fun _ h=>h.elim) (fun _ _ _ _ h=>h) id (by simp) rfl ?_;intro H v' t' hsame eH oH hone lH sH kH nH;replace oH:Uz hB H (.pointer (some ⟨gp,0,none⟩)) [.slice t1 t2 t3,.bool o,.func (.func fid) #[] #[],I s,v']:=oH;have wH:=KW.mk oH lH w2.pb (QU w2.bn nH) eH;refine go ?_;refine VV (j:=3) (cs:=[I (s+1)]) (hl:=by simp) oH eH ?_;intro h5 e5 o5 u5;replace o5:Uz hB h5 (.pointer (some ⟨gp,0,none⟩)) [.slice t1 t2 t3,.bool o,.func (.func fid) #[] #[],I (s+1),v']:=o5;refine go ?_;refine Bk ?_;refine⟨v',⟨o5,OwnR.upB (fun _ _ _ _ h=>h) lH u5.upB wH.off,w2.pb,QU wH.bn u5.1,e5⟩,(Wh.ext e2).trans ⟨QU nH u5.1,fun g hg h1 h2=> ?_,fun b hb=> .inr (sH b hb)⟩⟩;rw[u5.upB.2 g (QK hg nH) h1];exact kH g hg (fun e=>by cases e;exact h1 rfl) (fun _ _ e=>by cases e;exact h2 rfl)
theorem zIs(h:Uy)(k:Nat)(s:Int):WC Tryz.prog tb 82 [I k,I s] h fun r h'=>r=I (if true then(k:Int)else s)/\h=h':=by
 refine en ?_;refine rt ?_;exact⟨rfl,rfl⟩
theorem zLH(h:Uy)(vT:Value)(T:List U0)(k:Int)(st:Wn h vT T)(hT:T.length<=100)(hp:∀ x∈T,x.parts.length<=100)(hc:yR T=0)(hk:0<=k/\k<(T.length:Int))(hm:h.mark<=h.n):
  WC Tryz.prog tb 60 [vT,I k] h fun r h'=>(∃ v,r=.tuple #[v,I 0]/\U5 h h' v (yp T k.toNat))/\Ext h h':=by
 obtain⟨k,rfl⟩:∃ q:Nat,k=q:=⟨k.toNat,by omega⟩;obtain⟨t1,t2,t3,rfl⟩:=zD st;have hl:=zC1 hc;refine en ?_;refine VA (zMW h _ T k st hT hp hc hk) ?_;rintro _ h2 ⟨⟨v2,rfl,o2⟩,e2⟩;refine go ?_;refine VF ?_;intro p h3 e3 o3;obtain⟨gp,_,_,rfl,_⟩:=id o3;have e03:=e2.trans e3;have hpb:∀ g,Value.pointer (some ⟨gp,0,none⟩)=.pointer (some ⟨g,0,none⟩)->g<h3.n:=fun g e=>o3.within _ (by rw[e];rfl);have w:KW h h3 (.slice t1 t2 t3) (.pointer (some ⟨gp,0,none⟩)) (.slice none 0 0) h3.n true 82 0 []:=⟨o3.since e2,.inl ⟨rfl,rfl⟩,hpb,QE _,e03⟩;refine go ?_;refine VA (zN3 h hm _ _ h3.n true 82 T st (by omega) zIs (k+1) k h3 _ 0 [] (by omega) (by omega) (fun j hj=>hl j (by omega)) (hl k (by omega)).1 w e03.n (by omega) (by omega) (by simp;omega)) ?_;rintro _ h4 ⟨vA,w4,k4⟩;have o4:=w4.own;refine gr ?_;exact⟨⟨vA,rfl,zMm w4.lst e03.n⟩,w4.ext⟩
structure Wp where
 fn:Int
 nr:Int
 ty:Int
instance:Inhabited Wp:=⟨⟨0,0,0⟩⟩
def RSt(_:Uy)(cs:List Value)(x:Wp):Prop:=cs=[I x.fn,I x.nr,I x.ty]
abbrev SlS(h:Uy)(v:Value)(l:List Wp):Prop:=Wx 3 RSt h v l
theorem Z3(h h':Uy)(cs:List Value)(a:Wp)(r:RSt h cs a):RSt h' cs a:=r
theorem SlS.ext{h h' v l}(s:SlS h v l)(e:Ext h h'):SlS h' v l:=Wx.ext (fun _ _ r=>Z3 _ _ _ _ r) s e
def ZV(x:WU):Bool:=decide (x.op=11)||decide (x.op=12)
def ZJ(T:List U0)(f:Int):Int->List WU->List Wp
 |_,[]=>[]
 |n,x::l=>(if ZV x then[⟨f,n,(T.getD x.ty.toNat default).elem⟩]else[])++ZJ T f (n+1) l
def yu(T:List U0)(f:Int):Int->List WK->List Wp
 |_,[]=>[]
 |n,b::l=>ZJ T f n b.ins++yu T f (n+b.ins.length) l
def ZC(T:List U0):Int->List WJ->List Wp
 |_,[]=>[]
 |f,g::l=>yu T f ((T.getD g.sig.toNat default).parts.length:Int) g.blocks++ZC T (f+1) l
def zh(T:List U0)(F:List WJ):List Wp:=ZC T 0 F
section
variable {T:List U0}{f:Int}
theorem zBK{x:WU}:∀ {l:List WU} {n:Int},ZJ T f n (l++[x])=ZJ T f n l++(if ZV x then[⟨f,n+l.length,(T.getD x.ty.toNat default).elem⟩]else[])
 |[],n=>by simp[ZJ]
 |y::l,n=>by
  simp only[G9,ZJ,zBK (l:=l),Qm,GB];congr 3;rw[show n+1+(l.length:Int)=n+((l.length+1:Nat):Int) by omega]
theorem zAb:∀ {l:List WU} {n:Int},(ZJ T f n l).length<=l.length
 |[],_=>QE _
 |x::l,n=>by
  have:=zAb (l:=l) (n:=n+1);simp only[ZJ,QR,GB];split<;>simp<;>omega
theorem zBJ{b:WK}:∀ {l:List WK} {n:Int},yu T f n (l++[b])=yu T f n l++ZJ T f (n+zN l) b.ins
 |[],n=>by simp[yu,zN]
 |c::l,n=>by
  simp only[G9,yu,zBJ (l:=l),Qm];rw[Zw,Int.add_assoc]
theorem zAd:∀ {l:List WK} {n:Int},((yu T f n l).length:Int)<=zN l
 |[],_=>by simp[yu,zN]
 |b::l,n=>by
  have h1:=zAd (l:=l) (n:=n+b.ins.length);have h2:=zAb (T:=T) (f:=f) (l:=b.ins) (n:=n);rw[Zw];simp only[yu,QR];omega
theorem zAz{g:WJ}:∀ {l:List WJ} {f:Int},ZC T f (l++[g])=ZC T f l++yu T (f+l.length) ((T.getD g.sig.toNat default).parts.length:Int) g.blocks
 |[],f=>by simp[ZC]
 |c::l,f=>by
  simp only[G9,ZC,zAz (l:=l),Qm,GB];congr 3;omega
theorem zAq:∀ {l:List WJ} {f:Int},(∀ g∈l,zN g.blocks<=128)->(ZC T f l).length<=128*l.length
 |[],_,_=>QE _
 |g::l,f,h=>by
  have h1:=zAq (l:=l) (f:=f+1) fun q hq=>h q (Qr _ hq);have h2:=zAd (T:=T) (f:=f) (l:=g.blocks) (n:=((T.getD g.sig.toNat default).parts.length:Int));have h3:=h g (Qk ..);simp only[ZC,QR,GB];omega
end
theorem zCZ:∀ l:List WK,0<=zN l
 |[]=>by simp[zN]
 |b::l=>by have:=zCZ l;rw[Zw];omega
theorem zFJ(l:List WK)(j:Nat):0<=zN (l.take j)/\zN (l.take j)<=zN l:=by
 have h:zN l=zN (l.take j)+zN (l.drop j):=by
  conv=>lhs;rw[<-GQ j l]
  unfold zN;rw[GD,Gu]
 have h1:=zCZ (l.take j);have h2:=zCZ (l.drop j);omega
theorem YM{α:Type}[Inhabited α]{l:List α}{i:Nat}(h:i<l.length):l.take (i+1)=l.take i++[l.getD i default]:=by
 rw[Qv,QB h];simp[List.getD,QB h]
end Go.Proofs.YtfnndahpddkniaaGreatDoor
set_option maxRecDepth 100000
namespace Go.Proofs.YtfnndahpddkniaaGreatDoor
open Go.Am
theorem zMF(h:Uy)(x:WU):WC Tryz.prog tb 106 [.int .u8 x.op] h fun r h'=>r=.bool (ZV x)/\h=h':=by
 refine en ?_;by_cases h1:x.op=11
 ·refine gr ?_;exact⟨by unfold ZV;simp[h1];rfl,rfl⟩
 ·refine gr ?_;exact⟨by unfold ZV;simp[h1];rfl,rfl⟩
theorem zMp(h:Uy)(vt vf:Value)(T:List U0)(F:List WJ)(E:Bh h vt vf T F)(hsig:∀ g∈F,0<=g.sig/\g.sig<(T.length:Int))(hmy:∀ g∈F,zN g.blocks<=128)(hF:F.length<=8)
  (hty:∀ g∈F,∀ B∈g.blocks,∀ x∈B.ins,ZV x=true->0<=x.ty/\x.ty<(T.length:Int)):
  WC Tryz.prog tb 79 [.agg #[vt,vf]] h fun r h'=>OwnR 3 RSt h.n h' r (zh T F)/\Ext h h':=by
 have hslen:∀ i,(ZC T 0 (F.take i)).length<=1024:=fun i=>by
  have:=zAq (T:=T) (l:=F.take i) (f:=0) fun g hg=>hmy g (Qi hg);have h2:(F.take i).length<=F.length:=by rw[Qj];omega
  omega
 have sm:=E.sm;have hF':=sm.funcs;replace hslen:=WA.mk hslen;replace hsig:=WA.mk hsig;replace hmy:=WA.mk hmy;replace hty:=WA.mk hty;have st0:=E.st;have sf0:=E.sf;obtain⟨t1,t2,t3,rfl⟩:=zD st0;obtain⟨f1,f2,f3,rfl⟩:=zD sf0;refine en ?_;refine VF ?_;intro p h1 e1 o1;replace o1:Uz h h1 p [.slice t1 t2 t3,.slice f1 f2 f3]:=o1;have E1:=E.ext e1;have sf1:=E1.sf;refine go ?_;refine VD (fun i=>F.length-i) (fun i t h2=>zB t 13=I i/\i<=F.length/\Ext h1 h2/\∃ v,zB t 2=v/\OwnR 3 RSt h1.n h2 v (ZC T 0 (F.take i))) 0 ?_ ?_
 ·exact⟨U4,QL _,Ext.refl _,.slice none 0 0,U4,.inl ⟨rfl,rfl⟩⟩
 rintro i t h2 hsame ⟨s13,hi,e2,v,s2,ov⟩;have o2:=o1.ext e2;have E2:=E1.ext e2;have sf2:=E2.sf;have st2:=E2.st;refine go ?_;refine VE (fun hb=> ?_) (fun hb=> ?_)<;>simp only[DB]at hb
 ·have hi':i<F.length:=by omega
  have hgm:=zG (l:=F) (i:=i) hi';obtain⟨cs,⟨vb,rfl,sb,hlb⟩,px,hs⟩:=zd (i:=i) sf1 hi';have pc:=(px _ e2).1;have hsg:=hsig.out _ hgm;have hbl:=sm.blocks _ hgm;have hpl:=sm.parts _ (zG (l:=T) (i:=(F.getD i default).sig.toNat) (by omega));have hsn:ZC T 0 (F.take (i+1))=ZC T 0 (F.take i)++yu T i ((T.getD (F.getD i default).sig.toNat default).parts.length:Int) (F.getD i default).blocks:=by
   rw[YM hi',zAz,Qj,Gd (by omega),Int.zero_add]
  have hinl:=sm.ins _ hgm;have htyg:=hty.out _ hgm;have hmyg:=hmy.out _ hgm;replace hinl:=WA.mk hinl;replace htyg:=WA.mk htyg;generalize F.getD i default=g at *;obtain⟨b1,b2,b3,rfl⟩:=zD sb;refine go ?_;refine VK ?_;intro p4 h3 e3 o3;refine go ?_;refine VG o3 e3 ?_;intro h4 e4 o4 _;have e14:=e2.trans e4;have sb4:=We.ext sb e14;have st4:=st2.ext e4;have o14:=o2.ext e4;obtain⟨csT,⟨va,rfl,sa,hla⟩,pcT,hsT⟩:=yO (i:=g.sig.toNat) st4 (by omega);obtain⟨a1,a2,a3,rfl⟩:=WW.shape sa;have ov4:=OwnR.ext ov e4;refine go ?_;refine VD (fun j=>g.blocks.length-j) (fun j t h5=>zB t 29=I j/\j<=g.blocks.length/\Ext h1 h5/\zB t 5=I ((T.getD g.sig.toNat default).parts.length+zN (g.blocks.take j))/\∃ v,zB t 2=v/\OwnR 3 RSt h1.n h5 v (ZC T 0 (F.take i)++yu T i ((T.getD g.sig.toNat default).parts.length:Int) (g.blocks.take j))) 0 ?_ ?_
  ·exact⟨U4,QL _,e2.trans e4,by rw[show zN (g.blocks.take 0)=0 by simp[zN],Int.add_zero];exact U4,v,U4,by simpa [yu]using ov4⟩
  rintro j t' h5 hsame' ⟨s29,hj,e5,s5,v',s2',ov'⟩;have o5:=o1.ext e5;have E5:=E1.ext e5;have sb5:=We.ext sb e5;refine go ?_;refine VE (fun hb'=> ?_) (fun hb'=> ?_)<;>simp only[DB]at hb'
  ·have hj':j<g.blocks.length:=by omega
   have hBm:=zG (l:=g.blocks) (i:=j) hj';obtain⟨csB,⟨vi,rfl,si,hli⟩,pxB,hsB⟩:=zd (i:=j) sb hj';have pcB:=(pxB _ e5).1;have hil:=hinl.out _ hBm;have hsnB:yu T i ((T.getD g.sig.toNat default).parts.length:Int) (g.blocks.take (j+1))=yu T i ((T.getD g.sig.toNat default).parts.length:Int) (g.blocks.take j)++ZJ T i ((T.getD g.sig.toNat default).parts.length+zN (g.blocks.take j)) (g.blocks.getD j default).ins:=by
    rw[YM hj',zBJ]
   have hmB:zN (g.blocks.take (j+1))=zN (g.blocks.take j)+((g.blocks.getD j default).ins.length:Int):=by
    rw[YM hj'];unfold zN;simp
   have hm0:0<=zN (g.blocks.take j)/\zN (g.blocks.take j)<=128:=by
    have:=zFJ g.blocks j;omega
   have hsB:=zAd (T:=T) (f:=(i:Int)) (l:=g.blocks.take j) (n:=((T.getD g.sig.toNat default).parts.length:Int));have htyB:=htyg.out _ hBm;replace htyB:=WA.mk htyB;generalize g.blocks.getD j default=B at *;obtain⟨i1,i2,i3,rfl⟩:=zD si;refine go ?_;refine VK ?_;intro p7 h6 e6 o7;refine go ?_;refine VG o7 e6 ?_;intro h7 e7 o7 _;have e17:=e5.trans e7;have si7:=W2.ext si e17;have ov7:=OwnR.ext ov' e7;refine go ?_;refine VD (fun q=>B.ins.length-q) (fun q t h8=>zB t 36=I q/\q<=B.ins.length/\Ext h1 h8/\zB t 5=I ((T.getD g.sig.toNat default).parts.length+zN (g.blocks.take j)+q)/\∃ v,zB t 2=v/\OwnR 3 RSt h1.n h8 v (ZC T 0 (F.take i)++yu T i ((T.getD g.sig.toNat default).parts.length:Int) (g.blocks.take j)++ZJ T i ((T.getD g.sig.toNat default).parts.length+zN (g.blocks.take j)) (B.ins.take q))) 0 ?_ ?_
   ·exact⟨U4,QL _,e17,by rw[show((0:Nat):Int)=0 from rfl,Int.add_zero];exact U4,v',U4,by simpa [ZJ]using ov7⟩
   rintro q t'' h8 hsame'' ⟨s36,hq,e8,s5'',v'',s2'',ov''⟩;have o8:=o1.ext e8;have si8:=W2.ext si e8;have st8:=(E1.ext e8).st;refine go ?_;refine VE (fun hb''=> ?_) (fun hb''=> ?_)<;>simp only[DB]at hb''
   ·have hq':q<B.ins.length:=by omega
    have hxm:=zG (l:=B.ins) (i:=q) hq';obtain⟨csX,⟨xa,xf,rfl,sxa,sxf,hxa,hxf,ho⟩,pxX,hsX⟩:=zd (i:=q) si hq';have pcX:=(pxX _ e8).1;have hsnI:∀ n:Int,ZJ T i n (B.ins.take (q+1))=ZJ T i n (B.ins.take q)++(if ZV (B.ins.getD q default)then[⟨i,n+q,(T.getD (B.ins.getD q default).ty.toNat default).elem⟩]else[]):=fun n=>by
     rw[YM hq',zBK,Qj,Gd (by omega)]
    have htyx:=htyB.out _ hxm;generalize B.ins.getD q default=x at *;obtain⟨xa1,xa2,xa3,rfl⟩:=WW.shape sxa;obtain⟨xf1,xf2,xf3,rfl⟩:=WW.shape sxf;refine go ?_;refine VK ?_;intro p9 h9 e9 o9;refine go ?_;refine VG (cs:=[.int .u8 x.op,I x.ty,I x.a,I x.b,I x.n,.slice xa1 xa2 xa3,.slice xf1 xf2 xf3]) o9 e9 ?_;intro h10 e10 o10 _;refine go ?_;refine VA (zMF h10 x) ?_;rintro _ _ ⟨rfl,rfl⟩;have e110:=e8.trans e10;cases hmk:ZV x with
    |true=>
     have hx:=htyx hmk;have o810:=o8.ext e10;have st10:=(E1.ext e110).st;obtain⟨csT,⟨ya,rfl,sya,hya⟩,pcT',hsT'⟩:=yO (i:=x.ty.toNat) st10 (by omega);obtain⟨y1,y2,y3,rfl⟩:=WW.shape sya;have hsI:=zAb (T:=T) (f:=(i:Int)) (l:=B.ins.take q) (n:=(T.getD g.sig.toNat default).parts.length+zN (g.blocks.take j));have hlq:(B.ins.take q).length<=q:=List.length_take_le _ _;have hsi:=hslen.out i;refine go ?_;refine V7 (hB:=h1) (b:=h1.n) (⟨i,(T.getD g.sig.toNat default).parts.length+zN (g.blocks.take j)+q,(T.getD x.ty.toNat default).elem⟩:Wp) (fun _=>False) (OwnR.ext ov'' e10) e110 (QE _) e110.n (by decide) (by simp only[QR];omega) (fun _ _ _=>rfl) (fun _ h=>h.elim) (fun _ _ _ _ h=>h) ?_;intro v12 h12 lit e12 o12 hn12 hk12;refine go ?_;refine zA (q+1) (by omega) ⟨Wd,by omega,e12,?_,v12,U4,?_⟩
     ·rw[show((T.getD g.sig.toNat default).parts.length:Int)+zN (g.blocks.take j)+((q+1:Nat):Int)=(T.getD g.sig.toNat default).parts.length+zN (g.blocks.take j)+q+1 by omega];exact U4
     ·rw[hsnI,hmk,QF rfl,<-Qm];exact o12
    |false=>
     refine go ?_;refine zA (q+1) (by omega) ⟨Wd,by omega,e110,?_,v'',U4,?_⟩
     ·rw[show((T.getD g.sig.toNat default).parts.length:Int)+zN (g.blocks.take j)+((q+1:Nat):Int)=(T.getD g.sig.toNat default).parts.length+zN (g.blocks.take j)+q+1 by omega];exact U4
     ·rw[hsnI,hmk];simpa using OwnR.ext ov'' e10
   ·have hqq:q=B.ins.length:=by omega
    subst hqq;rw[Qg]at ov'';refine go ?_;refine zA (j+1) (by omega) ⟨Wd,by omega,e8,?_,v'',U4,?_⟩
    ·rw[hmB,<-Int.add_assoc];exact U4
    ·rw[hsnB,<-Qm];exact ov''
  ·have hjj:j=g.blocks.length:=by omega
   subst hjj;rw[Qg]at ov';refine go ?_;refine zA (i+1) (by omega) ⟨Wd,by omega,e5,v',U4,?_⟩;rw[hsn];exact ov'
 ·have hii:i=F.length:=by omega
  subst hii;rw[Qg]at ov;refine gr ?_;exact⟨ov.base e1.n,e1.trans e2⟩
theorem zGI{T:List U0}{F:List WJ}(hs:zK T F=0){f:Nat}(hf:f<F.length){b:Nat}(hb:b<(F.getD f default).blocks.length){i:Nat}(hi:i<((F.getD f default).blocks.getD b default).ins.length)(hm:ZV (((F.getD f default).blocks.getD b default).ins.getD i default)=true):
  Wg T 2 (((F.getD f default).blocks.getD b default).ins.getD i default).ty=true/\Wr T (((F.getD f default).blocks.getD b default).ins.getD i default).ty:=by
 obtain⟨hp,hw⟩:=yi hs;have Z:=zE4 hp (f:=(f:Int)) (by omega);have W:=(hw f (by omega) (by omega)).2.2 b (by omega) (by show(b:Int)<((F.getD ((f:Int)).toNat default).blocks.length:Int);rw[QN];omega);have h1:=W.1 i (by show i<(((F.getD ((f:Int)).toNat default).blocks.getD ((b:Int)).toNat default).ins.length);rw[QN,QN];exact hi);have hV:=Z.V ((F.getD f default).blocks.getD b default) (by show _∈(F.getD ((f:Int)).toNat default).blocks;rw[QN];exact zG hb) _ (zG hi);refine⟨?_,hV.ty⟩;unfold YS zAV at h1;have h2:=h1.2.1;rw[show((zJ F f).getD ((b:Int)).toNat default).ins.getD i default=((F.getD f default).blocks.getD b default).ins.getD i default from by unfold zJ;rw[QN,QN]]at h2;generalize((F.getD f default).blocks.getD b default).ins.getD i default=x at *;unfold ZV at hm;simp only[GE,Qc]at hm;unfold yB at h2;rw[QC (by omega),QC (by omega),QC (by omega),QF hm]at h2;exact h2
theorem Zd{α:Type}[Inhabited α]{l:List α}{x:α}(h:x∈l):∃ i,i<l.length/\l.getD i default=x:=by
 obtain⟨i,hi,rfl⟩:=List.getElem_of_mem h;exact⟨i,hi,by simp[List.getD,QB hi]⟩
theorem zMY(h:Uy)(vt vf:Value)(T:List U0)(F:List WJ)(E:Bh h vt vf T F):
  WC Tryz.prog tb 58 [.agg #[vt,vf]] h fun r h'=>(∃ v,r=.tuple #[v,I (zK T F)]/\OwnR 3 RSt h.n h' v (if zK T F=0 then zh T F else[]))/\Ext h h':=by
 refine en ?_;refine VF ?_;intro p h1 e1 o1;replace o1:Uz h h1 p [vt,vf]:=o1;have E1:=E.ext e1;refine go ?_;refine VA (zKz h1 vt vf T F E1) ?_;rintro _ h2 ⟨rfl,e2⟩;have o2:=o1.ext e2;have E2:=E1.ext e2;by_cases hs:zK T F=0;case neg=>
  rw[QC hs];refine gr ?_;exact⟨⟨_,rfl,.inl ⟨rfl,rfl⟩⟩,e1.trans e2⟩
 rw[QF hs];obtain⟨hp,hw⟩:=yi hs;obtain⟨hc,hF1,hF8,hfn⟩:=yT hp;have hg:∀ g∈F,(0<=g.sig/\g.sig<(T.length:Int))/\zN g.blocks<=128:=fun g hg=>by
  obtain⟨i,hi,rfl⟩:=Zd hg;have Z:=zE4 hp (f:=(i:Int)) (by omega);have h1:=Z.sig;have h2:=Z.many;unfold zJ at h2;rw[QN]at h1 h2;exact⟨h1,h2⟩
 have hty:∀ g∈F,∀ B∈g.blocks,∀ x∈B.ins,ZV x=true->0<=x.ty/\x.ty<(T.length:Int):=fun g hg B hB x hx hm=>by
  obtain⟨f,hf,rfl⟩:=Zd hg;obtain⟨b,hb,rfl⟩:=Zd hB;obtain⟨i,hi,rfl⟩:=Zd hx;have:=zGI hs hf hb hi hm;refine this.2.resolve_left fun e=> ?_;have h1:=this.1;unfold Wg at h1;rw[e]at h1;cases h1
 have hsg:∀ g∈F,0<=g.sig/\g.sig<(T.length:Int):=fun g q=>(hg g q).1;have hmy:∀ g∈F,zN g.blocks<=128:=fun g q=>(hg g q).2;rw[hs];replace hg:=WA.mk hg;replace hfn:=WA.mk hfn;refine go ?_;refine VA (zMp h2 vt vf T F E2 hsg hmy hF8 hty) ?_;rintro v h3 ⟨ov,e3⟩;refine gr ?_;exact⟨⟨v,rfl,ov.base (e1.trans e2).n⟩,e1.trans (e2.trans e3)⟩
end Go.Proofs.YtfnndahpddkniaaGreatDoor
set_option maxRecDepth 100000
namespace Go.Proofs.YtfnndahpddkniaaGreatDoor
open Go.Am
structure NT(hB h:Uy)(p vR vF vS:Value)(rs fs:List Int)(ss:List Wp):Prop where
 own:Uz hB h p [vR,vF,vS]
 r:U5 hB h vR rs
 q:U5 hB h vF fs
 s:OwnR 3 RSt hB.n h vS ss
 rf:WN vR vF
 rs:WN vR vS
 fs:WN vF vS
 pr:WN p vR
 pf:WN p vF
 ps:WN p vS
section
variable {hB h h' h2:Uy}{p vR vF vS v':Value}{rs fs l:List Int}{ss:List Wp}
theorem NT.ext(N:NT hB h p vR vF vS rs fs ss)(e:Ext h h'):NT hB h' p vR vF vS rs fs ss:=⟨N.own.ext e,N.r.ext e,N.q.ext e,OwnR.ext N.s e,N.rf,N.rs,N.fs,N.pr,N.pf,N.ps⟩
theorem NT.putR(N:NT hB h p vR vF vS rs fs ss)(hn:hB.n<=h.n)(u:BH vR h h')(o:WQ h h' v' l)(oc:Uz hB h2 p [v',vF,vS])(u2:Wb p h' h2):NT hB h2 p v' vF vS l fs ss:=by
 have hs:zBA h v':=U5.since' (.inr o);have u1:=u.upB;have u2:=u2.upB;have o1:=VH hs N.own.within;have ob:U5 hB h' v' l:= .inr (let⟨g,a,b⟩:=o;⟨g,QU hn a,b⟩);exact⟨oc,ob.upB u2 o1.symm,(N.q.upB u1 N.rf).upB u2 N.pf,(N.s.upB Z3 u1 N.rs).upB Z3 u2 N.ps,VH hs N.q.within,VH hs N.s.within,N.fs,o1.symm,N.pf,N.ps⟩
theorem NT.putF(N:NT hB h p vR vF vS rs fs ss)(hn:hB.n<=h.n)(u:BH vF h h')(o:WQ h h' v' l)(oc:Uz hB h2 p [vR,v',vS])(u2:Wb p h' h2):NT hB h2 p vR v' vS rs l ss:=by
 have hs:zBA h v':=U5.since' (.inr o);have u1:=u.upB;have u2:=u2.upB;have o1:=VH hs N.own.within;have ob:U5 hB h' v' l:= .inr (let⟨g,a,b⟩:=o;⟨g,QU hn a,b⟩);exact⟨oc,(N.r.upB u1 N.rf.symm).upB u2 N.pr,ob.upB u2 o1.symm,(N.s.upB Z3 u1 N.fs).upB Z3 u2 N.ps,(VH hs N.r.within).symm,N.rs,VH hs N.s.within,N.pr,o1.symm,N.ps⟩
end
theorem zFm{α:Type}{R:Uy->List Value->α->Prop}{h0 h:Uy}{c:Nat}{v:Value}{xs:List α}(o:OwnR c R h0.n h v xs):zBA h0 v:=fun b hb=>by
 rcases o with⟨rfl,_⟩|⟨g,_,_,g1,_,rfl,_⟩
 ·cases hb
 ·cases hb;exact g1
theorem zF5{v:Value}{n c:Nat}:WN v (.slice none n c):=fun _ _ h=>by cases h
def zj(T:List U0)(F:List WJ):List Int:=F.map fun g=>((T.getD g.sig.toNat default).parts.length:Int)+zN g.blocks
def zM(T:List U0)(F:List WJ):List Int:=(zh T F).map fun s=>((yp T s.ty.toNat).length:Int)
theorem zOV{T:List U0}{F:List WJ}(hp:yx T F=0){i:Nat}(hi:i<F.length):Yu T F i=(((T.getD (F.getD i default).sig.toNat default).parts.length:Int)+zN (F.getD i default).blocks,0):=by
 have hask:z8 T F i=(((T.getD (F.getD i default).sig.toNat default).parts.length:Int),0):=by
  unfold z8;rw[QC (fun e=>e hp),QF (by unfold zY;simp;omega),QN]
 unfold Yu;rw[hask];simp
theorem zEK{T:List U0}{f:Int}{s:Wp}:∀ {l:List WU} {n:Int},s∈ZJ T f n l->∃ x∈l,ZV x=true/\s.ty=(T.getD x.ty.toNat default).elem
 |[],_,h=>by cases h
 |x::l,n,h=>by
  unfold ZJ at h;rcases Qq.1 h with h|h
  ·split at h
   ·rename_i hm;rw[Qb]at h;subst h;exact⟨x,Qk ..,hm,rfl⟩
   ·cases h
  ·obtain⟨y,a,b⟩:=zEK h;exact⟨y,Qr _ a,b⟩
theorem zDv{T:List U0}{f:Int}{s:Wp}:∀ {l:List WK} {n:Int},s∈yu T f n l->∃ b∈l,∃ x∈b.ins,ZV x=true/\s.ty=(T.getD x.ty.toNat default).elem
 |[],_,h=>by cases h
 |x::l,n,h=>by
  unfold yu at h;rcases Qq.1 h with h|h
  ·exact⟨x,Qk ..,zEK h⟩
  ·obtain⟨y,a,b⟩:=zDv h;exact⟨y,Qr _ a,b⟩
theorem zEQ{T:List U0}{s:Wp}:∀ {l:List WJ} {f:Int},s∈ZC T f l->∃ g∈l,∃ b∈g.blocks,∃ x∈b.ins,ZV x=true/\s.ty=(T.getD x.ty.toNat default).elem
 |[],_,h=>by cases h
 |x::l,n,h=>by
  unfold ZC at h;rcases Qq.1 h with h|h
  ·exact⟨x,Qk ..,zDv h⟩
  ·obtain⟨y,a,b⟩:=zEQ h;exact⟨y,Qr _ a,b⟩
theorem zBU{T:List U0}{F:List WJ}(hs:zK T F=0):∀ s∈zh T F,0<=s.ty/\s.ty<(T.length:Int):=fun s h=>by
 obtain⟨g,hg,B,hB,x,hx,hm,he⟩:=zEQ h;obtain⟨f,hf,rfl⟩:=Zd hg;obtain⟨b,hb,rfl⟩:=Zd hB;obtain⟨i,hi,rfl⟩:=Zd hx;obtain⟨h1,h2⟩:=zGI hs hf hb hi hm;have hc:=(yT (yi hs).1).1;have h3:=zD0 hc h2;unfold BE at h3;rw[QF h1,<-he]at h3;rcases h3 with h3|h3
 ·unfold Wg at h1;simp only[QJ,Qc]at h1;have hm:=zDp hc (h2.resolve_left h1.1).1 (h2.resolve_left h1.1).2;unfold ZI zDd at hm;omega
 ·exact h3
theorem zAo{T:List U0}{F:List WJ}(hs:zK T F=0):(zh T F).length<=1024:=by
 have hp:=(yi hs).1;obtain⟨hc,hF1,hF8,hfn⟩:=yT hp;have:=zAq (T:=T) (l:=F) (f:=0) fun g hg=>by
  obtain⟨i,hi,rfl⟩:=Zd hg;have h2:=(zE4 hp (f:=(i:Int)) (by omega)).many;unfold zJ at h2;rw[QN]at h2;exact h2
 unfold zh;omega
theorem zAL(h:Uy)(vt vf:Value)(T:List U0)(F:List WJ)(E:Bh h vt vf T F):
  WC Tryz.prog tb 33 [.agg #[vt,vf]] h fun r h'=>(∃ vR vF vS,r=.tuple #[.agg #[vR,vF,vS],I (zK T F)]/\(∃ a n c,vR=.slice a n c)/\(∃ a n c,vF=.slice a n c)/\(∃ a n c,vS=.slice a n c)/\U5 h h' vR (if zK T F=0 then zj T F else[])/\U5 h h' vF (if zK T F=0 then zM T F else[])/\OwnR 3 RSt h.n h' vS (if zK T F=0 then zh T F else[]))/\Ext h h':=by
 refine en ?_;refine VF ?_;intro p1 h1 e1 o1;replace o1:Uz h h1 p1 [vt,vf]:=o1;have E1:=E.ext e1;refine go ?_;refine VK ?_;intro p2 h2 e2 o2;have E2:=E1.ext e2;have o12:=o1.ext e2;refine go ?_;refine VA (zMY h2 vt vf T F E2) ?_;rintro _ h3 ⟨⟨vS,rfl,oS⟩,e3⟩;have hS:=zFm oS;have hpS:WN p2 (_:Value):=(VH hS o2.within).symm;obtain⟨s1,s2,s3,rfl⟩:=zD oS.sl;have o13:=o12.ext e3;have o23:=o2.ext e3;have e13:=e2.trans e3;refine go ?_;refine VV (j:=2) (cs:=[.slice s1 s2 s3]) (hl:=by simp) o23 e13 ?_;intro h4 e4 o4 u4;replace o4:Uz h1 h4 p2 [.slice none 0 0,.slice none 0 0,.slice s1 s2 s3]:=o4;have oS4:=(oS.upB Z3 u4.upB hpS).base e2.n;have o14:=o1.ext e4;by_cases hs:zK T F=0;case neg=>
  simp only[QC hs]at oS4 |-;refine go ?_;refine VG o4 e4 ?_;intro h5 e5 o5 u5;refine go ?_;refine rt ?_ (VW U4 o5 rfl (Wt.cons U4 Wt.nil));exact⟨⟨_,_,_,rfl,⟨_,_,_,rfl⟩,⟨_,_,_,rfl⟩,⟨_,_,_,rfl⟩,.inl ⟨rfl,rfl⟩,.inl ⟨rfl,rfl⟩,(oS4.upB Z3 u5.upB hpS).base e1.n⟩,e1.trans e5⟩
 simp only[QF hs]at oS4 |-;rw[hs];have N4:NT h1 h4 p2 (.slice none 0 0) (.slice none 0 0) (.slice s1 s2 s3) [] [] (zh T F):=⟨o4,.inl ⟨rfl,rfl⟩,.inl ⟨rfl,rfl⟩,oS4,zF5,(fun b hb=>by cases hb),(fun b hb=>by cases hb),zF5,zF5,hpS⟩;obtain⟨hp,hw⟩:=yi hs;obtain⟨hc,hF1,hF8,hfn⟩:=yT hp;have sf4:=(E1.ext e4).sf;obtain⟨f1,f2,f3,rfl⟩:=zD sf4;obtain⟨t1,t2,t3,rfl⟩:=zD E.st;replace hfn:=WA.mk hfn;refine go ?_;refine VD (fun i=>F.length-i) (fun i t h5=>zB t 24=I i/\i<=F.length/\∃ vR,(∃ a n c,vR=.slice a n c)/\Ext h1 h5/\NT h1 h5 p2 vR (.slice none 0 0) (.slice s1 s2 s3) ((zj T F).take i) [] (zh T F)) 0 ?_ ?_
 ·exact⟨U4,QL _,_,⟨_,_,_,rfl⟩,e4,by simpa using N4⟩
 rintro i t h5 hsame ⟨s24,hi,vR,⟨r1,r2,r3,rfl⟩,e5,N5⟩;have E5:=E1.ext e5;have o15:=o1.ext e5;refine go ?_;refine VE (fun hb=> ?_) (fun hb=> ?_)<;>simp only[DB]at hb
 ·have hi':i<F.length:=by omega
  have hRl:(zj T F).take (i+1)=(zj T F).take i++[((T.getD (F.getD i default).sig.toNat default).parts.length:Int)+zN (F.getD i default).blocks]:=by
   have hl:i<(zj T F).length:=by unfold zj;simpa using hi'
   rw[Qv,QB hl];unfold zj;simp[List.getD,QB hi']
  have hR:=zJu h5 _ _ T F i E5.tt E5.hm E5.sm E5.st E5.sf;rw[zOV hp hi']at hR;have htl:((zj T F).take i).length<=8:=by rw[Qj];omega
  generalize((T.getD (F.getD i default).sig.toNat default).parts.length:Int)+zN (F.getD i default).blocks=m at *;refine go ?_;refine VA hR ?_;rintro _ h6 ⟨rfl,e6⟩;have N6:=N5.ext e6;have o6:=N6.own;have e16:=e5.trans e6;refine go ?_;refine WO.bl [m] ?_;intro v7 h7 e7 o7;have N7:=N6.ext e7;have oo7:=N7.own;have e17:=e16.trans e7;refine go ?_;refine Vv N7.r o7.sl e17 (by simp) (by simp at htl |-;omega) ?_;intro v8 h8 e8 o8 u8;obtain⟨g8,_,_,rfl,_⟩:=id o8;have oo8:=N7.own.upB u8.upB N7.pr.symm;refine go ?_;refine VV (j:=0) (hl:=by simp) (cs:=[_]) oo8 e8 ?_;intro h9 e9 o9 u9;refine go ?_;have N9:=N7.putR e17.n u8 o8 o9 u9;rw[<-hRl]at N9;exact zA (i+1) (by omega) ⟨Wd,by omega,.slice (some ⟨g8,0,none⟩) ((zj T F).take (i+1)).length 1,⟨_,_,_,rfl⟩,e9,N9⟩
 ·have hii:i=F.length:=by omega
  subst hii;rw[Qy (by unfold zj;simp)]at N5;have oN5:=N5.own;have hfld:∀ j,j<(zh T F).length->0<=((zh T F).getD j default).ty/\((zh T F).getD j default).ty<(T.length:Int):=fun j hj=>zBU hs _ (zG hj);replace hfld:=WA.mk hfld;have sS5:=N5.s.sl;have hsl:=zAo hs;refine go ?_;refine VD (fun j=>(zh T F).length-j) (fun j t h6=>zB t 45=I j/\j<=(zh T F).length/\∃ vF,(∃ a n c,vF=.slice a n c)/\Ext h1 h6/\NT h1 h6 p2 (.slice r1 r2 r3) vF (.slice s1 s2 s3) (zj T F) ((zM T F).take j) (zh T F)) 0 ?_ ?_
  ·exact⟨U4,QL _,_,⟨_,_,_,rfl⟩,e5,by simpa using N5⟩
  rintro j t' h6 hsame' ⟨s45,hj,vF,⟨q1,q2,q3,rfl⟩,e6,N6⟩;have E6:=E1.ext e6;have o16:=o1.ext e6;have sS6:=N6.s.sl;refine go ?_;refine VE (fun hb'=> ?_) (fun hb'=> ?_)<;>simp only[DB]at hb'
  ·have hj':j<(zh T F).length:=by omega
   have hFl:(zM T F).take (j+1)=(zM T F).take j++[((yp T ((zh T F).getD j default).ty.toNat).length:Int)]:=by
    have hl:j<(zM T F).length:=by unfold zM;simpa using hj'
    rw[Qv,QB hl];unfold zM;simp[List.getD,QB hj'];exact List.getElem_map ..
   have hty:=hfld.out j hj';have htl:((zM T F).take j).length<=1024:=by rw[Qj];omega
   obtain⟨csS,hRS,pcS,hsS⟩:=zi (i:=j) sS6 hj';generalize(zh T F).getD j default=x at *;have hRS:csS=[I x.fn,I x.nr,I x.ty]:=hRS;subst hRS;refine go ?_;refine VK ?_;intro p8 h7 e7 o8;refine go ?_;refine VG o8 e7 ?_;intro h8 e8 o8 _;have E8:=E6.ext e8;have o18:=o16.ext e8;refine go ?_;refine VA (zLH h8 _ T x.ty E8.st E8.sm.types E8.sm.parts hc hty E8.hm) ?_;rintro _ h9 ⟨⟨v9,rfl,o9⟩,e9⟩;obtain⟨l1,l2,l3,rfl⟩:=WW.shape o9.sl;have e89:=e8.trans e9;have N9:=N6.ext e89;have oo9:=N9.own;have o19:=o18.ext e9;have e19:=e6.trans e89;refine go ?_;refine WO.bl [((yp T x.ty.toNat).length:Int)] ?_;intro v10 h10 e10 o10;have N10:=N9.ext e10;have oo10:=N10.own;have e110:=e19.trans e10;refine go ?_;refine Vv N10.q o10.sl e110 (by simp) (by simp at htl |-;omega) ?_;intro v11 h11 e11 o11 u11;obtain⟨g11,_,_,rfl,_⟩:=id o11;have oo11:=N10.own.upB u11.upB N10.pf.symm;refine go ?_;refine VV (j:=1) (hl:=by simp) (cs:=[_]) oo11 e11 ?_;intro h12 e12 o12 u12;have N12:=N10.putF e110.n u11 o11 o12 u12;rw[<-hFl]at N12;refine go ?_;exact zA (j+1) (by omega) ⟨Wd,by omega,.slice (some ⟨g11,0,none⟩) ((zM T F).take (j+1)).length 1,⟨_,_,_,rfl⟩,e12,N12⟩
  ·have hjj:(zM T F).take j=zM T F:=Qy (by unfold zM;simp;omega);rw[hjj]at N6;have oN6:=N6.own;refine go ?_;refine VG oN6 e6 ?_;intro h7 e7 o7 u7;refine go ?_;refine rt ?_ (VW U4 o7 rfl (Wt.cons U4 Wt.nil));exact⟨⟨_,_,_,rfl,⟨_,_,_,rfl⟩,⟨_,_,_,rfl⟩,⟨_,_,_,rfl⟩,(N6.r.upB u7.upB N6.pr).since e1,(N6.q.upB u7.upB N6.pf).since e1,(N6.s.upB Z3 u7.upB N6.ps).base e1.n⟩,e1.trans e7⟩
end Go.Proofs.YtfnndahpddkniaaGreatDoor
set_option maxRecDepth 100000
namespace Go.Proofs.YtfnndahpddkniaaGreatDoor
open Go.Am
theorem yc:∀ {l:List Int},(∀ x∈l,0<=x/\x<=1000)->0<=l.sum/\l.sum<=1000*l.length
 |[],_=>by simp
 |x::l,h=>by
  have:=yc fun y hy=>h y (Qr _ hy);have:=h x (Qk ..);simp only[JH,GB];omega
theorem zLz{h0 h:Uy}{v:Value}{l:List Int}{n:Nat}(o:U5 h0 h v l)(hn:n<=l.length):∃ r,Za 1 v none (some n) none=some r/\WH h r (l.take n):=by
 rcases o with⟨rfl,rfl⟩|⟨g,g1,g2,rfl,g3⟩
 ·obtain rfl:n=0:=Nat.le_zero.1 hn;exact⟨.slice none 0 0,rfl,WH.nil h⟩
 ·have hlen:(l.take n).length=n:=by rw[Qj];omega
  refine⟨.slice (some ⟨g,0+0*1,none⟩) (n-0) 1,?_,by simp,.inr ⟨g,0,l.map I,by rw[hlen];simp,ZZ g3,?_,g2⟩⟩
  ·have b1:Nat.ble 0 n=true:=QG (QL _);have b2:Nat.ble n l.length=true:=QG hn;simp only[Za,Gq,GA,b1,b2,Qs,Qx,cond_true,GY]
  ·rw[ZH (by rw[hlen];simp;omega),List.map_take,hlen];simp
theorem zBa(h:Uy)(i n:Int):WC Tryz.prog tb 34 [I i,I n] h fun r h'=>r=.bool (decide (0<=i/\i<n))/\h=h':=by
 refine en ?_;by_cases h0:0<=i
 ·refine gr ?_;exact⟨by simp[h0];rfl,rfl⟩
 ·refine gr ?_;exact⟨by simp[h0];rfl,rfl⟩
theorem zBS(h:Uy)(v:Value)(l:List Int)(n:Nat){h0:Uy}(o:U5 h0 h v l)(hn:n<=l.length)(hl:l.length<=2000)(hb:∀ x∈l,0<=x/\x<=1000):
  WC Tryz.prog tb 46 [v,I n] h fun r h'=>r=I (l.take n).sum/\h=h':=by
 have s:=o.sl;obtain⟨v1,v2,v3,rfl⟩:=WW.shape s;obtain⟨r,hr,sr⟩:=zLz o hn;replace hb:=WA.mk hb;refine en ?_;refine Vt hr ?_;have hlen:(l.take n).length=n:=by rw[Qj];omega
 have hbt:∀ x∈l.take n,0<=x/\x<=1000:=fun x hx=>hb.out x (Qi hx);generalize l.take n=m at *;obtain⟨r1,r2,r3,rfl⟩:=WW.shape sr;replace hbt:=WA.mk hbt;refine go ?_;refine VD (fun i=>m.length-i) (fun i t h1=>h=h1/\zB t 11=I i/\i<=m.length/\zB t 4=I (m.take i).sum) 0 ?_ ?_
 ·exact⟨rfl,U4,QL _,U4⟩
 rintro i t h1 hsame ⟨rfl,s11,hi,s4⟩;have hsb:=yc (l:=m.take i) fun x hx=>hbt.out x (Qi hx);have hli:(m.take i).length<=i:=List.length_take_le _ _;refine go ?_;refine VE (fun hc=> ?_) (fun hc=> ?_)<;>simp only[DB]at hc
 ·have hi':i<m.length:=by omega
  have hx:=hbt.out _ (zO hi');have hsum:(m.take (i+1)).sum=(m.take i).sum+m.getD i 0:=by
   rw[Qv,QB hi',Gu];simp[List.getD,QB hi']
  refine go ?_;exact zA (i+1) (by omega) ⟨rfl,Wd,by omega,by rw[hsum];exact U4⟩
 ·have hii:i=m.length:=by omega
  subst hii;rw[Qg]at s4;refine gr ?_;exact⟨rfl,rfl⟩
structure TB(h0 h:Uy)(vR vF vS:Value)(Rg Fl:List Int)(S:List Wp):Prop where
 r:U5 h0 h vR Rg
 f:U5 h0 h vF Fl
 s:OwnR 3 RSt h0.n h vS S
 hR:Rg.length<=8
 hF:Fl.length<=1024
 bR:∀ x∈Rg,0<=x/\x<=1000
 bF:∀ x∈Fl,0<=x/\x<=1000
 sh:(∃ a n c,vR=.slice a n c)/\(∃ a n c,vF=.slice a n c)/\(∃ a n c,vS=.slice a n c)
theorem TB.ext{h0 h h':Uy}{vR vF vS:Value}{Rg Fl:List Int}{S:List Wp}(B:TB h0 h vR vF vS Rg Fl S)(e:Ext h h'):TB h0 h' vR vF vS Rg Fl S:=⟨B.r.ext e,B.f.ext e,OwnR.ext B.s e,B.hR,B.hF,B.bR,B.bF,B.sh⟩
theorem TB.upC{h0 h h':Uy}{p vR vF vS:Value}{Rg Fl:List Int}{S:List Wp}(B:TB h0 h vR vF vS Rg Fl S)(u:Wb p h h')(hp:zEO h0 p):TB h0 h' vR vF vS Rg Fl S:=
 ⟨B.r.upB u.upB (VH B.r.since' hp).symm,B.f.upB u.upB (VH B.f.since' hp).symm,B.s.upB Z3 u.upB (VH (zFm B.s) hp).symm,B.hR,B.hF,B.bR,B.bF,B.sh⟩
section
variable {h0 h:Uy}{vR vF vS:Value}{Rg Fl:List Int}{S:List Wp}
theorem zIA(B:TB h0 h vR vF vS Rg Fl S):WC Tryz.prog tb 53 [.agg #[vR,vF,vS]] h fun r h'=>r=I Rg.sum/\Ext h h':=by
 obtain⟨⟨r1,r2,r3,rfl⟩,⟨f1,f2,f3,rfl⟩,⟨s1,s2,s3,rfl⟩⟩:=B.sh;refine en ?_;refine VF ?_;intro p h1 e1 o1;replace o1:Uz h h1 p [.slice r1 r2 r3,.slice f1 f2 f3,.slice s1 s2 s3]:=o1;have B1:=B.ext e1;have sR:=B1.r.sl;have hR:=B.hR;refine go ?_;refine VA (zBS h1 _ Rg Rg.length B1.r (QE _) (by omega) B.bR) ?_;rintro _ h2 ⟨rfl,rfl⟩;rw[Qg];refine gr ?_;exact⟨rfl,e1⟩
theorem Yj(B:TB h0 h vR vF vS Rg Fl S):WC Tryz.prog tb 38 [.agg #[vR,vF,vS]] h fun r h'=>r=I (1+Rg.length)/\Ext h h':=by
 obtain⟨⟨r1,r2,r3,rfl⟩,⟨f1,f2,f3,rfl⟩,⟨s1,s2,s3,rfl⟩⟩:=B.sh;refine en ?_;refine VF ?_;intro p h1 e1 o1;replace o1:Uz h h1 p [.slice r1 r2 r3,.slice f1 f2 f3,.slice s1 s2 s3]:=o1;have B1:=B.ext e1;have sR:=B1.r.sl;have hR:=B.hR;refine gr ?_;exact⟨rfl,e1⟩
theorem zF3(B:TB h0 h vR vF vS Rg Fl S)(hm:h.mark<=h.n):WC Tryz.prog tb 47 [.agg #[vR,vF,vS]] h fun r h'=>r=I (Rg.sum+Rg.length)/\Ext h h':=by
 obtain⟨⟨r1,r2,r3,rfl⟩,⟨f1,f2,f3,rfl⟩,⟨s1,s2,s3,rfl⟩⟩:=B.sh;have hsb:=yc B.bR;have hR:=B.hR;refine en ?_;refine VF ?_;intro p h1 e1 o1;replace o1:Uz h h1 p [.slice r1 r2 r3,.slice f1 f2 f3,.slice s1 s2 s3]:=o1;have B1:=B.ext e1;have sR:=B1.r.sl;refine go ?_;refine VC 0 rfl rfl ?_;have BX:=B1.ext (zH 0 h1);have o1X:=o1.ext (zH 0 h1);have sRX:=BX.r.sl;have o1Y:Uz h (inC (zC 0 h1)) p [.slice r1 r2 r3,.slice f1 f2 f3,.slice s1 s2 s3]:=o1X;have sRY:WH (inC (zC 0 h1)) (.slice r1 r2 r3) Rg:=sRX;have BY:TB h0 (inC (zC 0 h1)) (.slice r1 r2 r3) (.slice f1 f2 f3) (.slice s1 s2 s3) Rg Fl S:=⟨BX.r,BX.f,BX.s,B.hR,B.hF,B.bR,B.bF,B.sh⟩;refine WB ?_;refine VA (zIA BY) ?_;rintro _ X2 ⟨rfl,e2⟩;refine nE e2 ?_;have o2Z:=o1Y.ext e2;have o2Y:Uz h (inC X2) p [.slice r1 r2 r3,.slice f1 f2 f3,.slice s1 s2 s3]:=o2Z;have s2Z:=sRY.ext e2;have s2Y:WH (inC X2) (.slice r1 r2 r3) Rg:=s2Z;have e2':=(zH 0 h1).trans (zW (h:=h1) e2);refine WB ?_;refine zA0 (j:=0+0) o1 (QE _) ?_;refine WB ?_;refine gr ?_;exact⟨rfl,e1.trans e2'⟩
theorem zM5(B:TB h0 h vR vF vS Rg Fl S)(s i:Int):WC Tryz.prog tb 37 [.agg #[vR,vF,vS],I s,I i] h fun r h'=>r=.tuple #[I (if(0<=s/\s<(Fl.length:Int))/\0<=i/\i<Fl.getD s.toNat 0 then(Fl.take s.toNat).sum+i else 0),.bool (decide ((0<=s/\s<(Fl.length:Int))/\0<=i/\i<Fl.getD s.toNat 0))]/\Ext h h':=by
 obtain⟨⟨r1,r2,r3,rfl⟩,⟨f1,f2,f3,rfl⟩,⟨s1,s2,s3,rfl⟩⟩:=B.sh;have hF:=B.hF;refine en ?_;refine VF ?_;intro p h1 e1 o1;replace o1:Uz h h1 p [.slice r1 r2 r3,.slice f1 f2 f3,.slice s1 s2 s3]:=o1;have B1:=B.ext e1;have sF:=B1.f.sl;refine go ?_;refine VA (zBa h1 s Fl.length) ?_;rintro _ _ ⟨rfl,rfl⟩;by_cases hs:0<=s/\s<(Fl.length:Int);case neg=>
  rw[QS hs,QC (fun e=>hs e.1),QS (fun e=>hs e.1)];refine gr ?_;exact⟨rfl,e1⟩
 rw[QT hs];have hx:=B.bF _ (zO (l:=Fl) (i:=s.toNat) (by omega));refine go ?_;refine VA (zBa h1 i (Fl.getD s.toNat 0)) ?_;rintro _ _ ⟨rfl,rfl⟩;by_cases hi:0<=i/\i<Fl.getD s.toNat 0;case neg=>
  rw[QS hi,QC (fun e=>hi e.2),QS (fun e=>hi e.2)];refine gr ?_;exact⟨rfl,e1⟩
 rw[QT hi,QF ⟨hs,hi⟩,QT (And.intro hs hi)];have hsb:=yc (l:=Fl.take s.toNat) fun x hx=>B.bF x (Qi hx);have hlt:(Fl.take s.toNat).length<=1024:=by rw[Qj];omega
 obtain⟨k,rfl⟩:∃ k:Nat,s=k:=⟨s.toNat,by omega⟩;rw[QN]at *;refine go ?_;refine VA (zBS h1 _ Fl k B1.f (by omega) (by omega) B.bF) ?_;rintro _ _ ⟨rfl,rfl⟩;refine gr ?_;exact⟨rfl,e1⟩
end
end Go.Proofs.YtfnndahpddkniaaGreatDoor
set_option maxRecDepth 100000
namespace Go.Proofs.YtfnndahpddkniaaGreatDoor
open Go.Am
section
variable {h:Uy}{vt vf:Value}{T:List U0}{F:List WJ}
theorem zHp{h h':Uy}{vR vF vS:Value}(hs:zK T F=0)(r:U5 h h' vR (if zK T F=0 then zj T F else[]))(q:U5 h h' vF (if zK T F=0 then zM T F else[]))(s:OwnR 3 RSt h.n h' vS (if zK T F=0 then zh T F else[]))
  (sh:(∃ a n c,vR=.slice a n c)/\(∃ a n c,vF=.slice a n c)/\(∃ a n c,vS=.slice a n c)):TB h h' vR vF vS (zj T F) (zM T F) (zh T F):=by
 rw[QF hs]at r q s;have hp:=(yi hs).1;obtain⟨hc,hF1,hF8,hfn⟩:=yT hp;refine⟨r,q,s,by unfold zj;simpa using hF8,by unfold zM;rw[Qz];exact zAo hs,fun x hx=> ?_,fun x hx=> ?_,sh⟩
 ·unfold zj at hx;obtain⟨g,hg,rfl⟩:=Q6.1 hx;obtain⟨i,hi,rfl⟩:=Zd hg;have Z:=zE4 hp (f:=(i:Int)) (by omega);have h1:=Z.many;have h2:=Z.par4;have h3:=zCZ (F.getD i default).blocks;unfold zJ at h1;unfold yF at h2;rw[QN]at h1 h2;omega
 ·unfold zM at hx;obtain⟨s,hs',rfl⟩:=Q6.1 hx;have h1:=zBU hs s hs';have hl:=zC1 hc;have h2:=zC2 (s.ty.toNat+1) s.ty.toNat (GR _) fun j hj=>(hl j (by omega)).1;have h3:=(hl s.ty.toNat (by omega)).2;omega
def zJt(T:List U0)(F:List WJ):Int:=(zj T F).sum
def Zl(T:List U0)(F:List WJ):Int:=(zj T F).sum+F.length
def yh(F:List WJ):Int:=1+F.length
theorem zJV(E:Bh h vt vf T F)(f:Int):WC Tryz.prog tb 20 [.agg #[vt,vf],I f] h fun r h'=>r=.tuple #[I (if zK T F=0/\0<=f/\f<(F.length:Int)then zJt T F+f else 0),I (if zK T F≠0 then zK T F else if 0<=f/\f<(F.length:Int)then 0 else 2)]/\Ext h h':=by
 refine en ?_;refine VF ?_;intro p h1 e1 o1;replace o1:Uz h h1 p [vt,vf]:=o1;refine go ?_;refine VA (zAL h1 vt vf T F (E.ext e1)) ?_;rintro _ h2 ⟨⟨vR,vF,vS,rfl,⟨r1,r2,r3,rfl⟩,⟨f1,f2,f3,rfl⟩,⟨s1,s2,s3,rfl⟩,oR,oF,sS⟩,e2⟩;refine go ?_;refine VK ?_;intro p6 h3 e3 o3;refine go ?_;refine VG (cs:=[.slice r1 r2 r3,.slice f1 f2 f3,.slice s1 s2 s3]) o3 e3 ?_;intro h4 e4 o4 _;have e04:=e1.trans (e2.trans e4);by_cases hs:zK T F=0;case neg=>
  have hs':zK T F≠0:=hs;rw[QC (fun e=>hs e.1),QF hs];refine gr ?_;exact⟨rfl,e04⟩
 have B:=(zHp hs oR oF sS ⟨⟨_,_,_,rfl⟩,⟨_,_,_,rfl⟩,⟨_,_,_,rfl⟩⟩).ext e4;have sR:=B.r.sl;have hRl:(zj T F).length=F.length:=by unfold zj;simp
 rw[hs];refine go ?_;refine VA (zBa h4 f (zj T F).length) ?_;rintro _ _ ⟨rfl,rfl⟩;rw[hRl];by_cases hf:0<=f/\f<(F.length:Int);case neg=>
  rw[QS hf,QC (fun e=>hf e.2),QC (fun e=>e rfl),QC hf];refine gr ?_;exact⟨rfl,e04⟩
 rw[QT hf,QF ⟨rfl,hf⟩,QC (fun e=>e rfl),QF hf];have hsb:=yc B.bR;have hR8:=B.hR;refine go ?_;refine VA (zIA B) ?_;rintro _ h5 ⟨rfl,e5⟩;refine gr ?_;exact⟨rfl,e04.trans e5⟩
def Bn(T:List U0)(F:List WJ)(s i:Int):Prop:=(0<=s/\s<((zM T F).length:Int))/\0<=i/\i<(zM T F).getD s.toNat 0
instance (T:List U0) (F:List WJ) (s i:Int):Decidable (Bn T F s i):=by unfold Bn;infer_instance
noncomputable def yl(T:List U0)(F:List WJ)(s i:Int):Int:=if zK T F≠0 then zK T F else if Bn T F s i then 0 else 2
noncomputable def y9(T:List U0)(F:List WJ)(s i:Int):Int:=if zK T F=0/\Bn T F s i then((zM T F).take s.toNat).sum+i else 0
theorem zFX(E:Bh h vt vf T F)(s i:Int):WC Tryz.prog tb 54 [.agg #[vt,vf],I s,I i] h fun r h'=>(∃ vR vF vS,r=.tuple #[.agg #[vR,vF,vS],I (y9 T F s i),I (yl T F s i)]/\(zK T F=0->TB h h' vR vF vS (zj T F) (zM T F) (zh T F))/\(∃ a n c,vR=.slice a n c)/\(∃ a n c,vF=.slice a n c)/\(∃ a n c,vS=.slice a n c))/\Ext h h':=by
 unfold y9 yl;refine en ?_;refine VF ?_;intro p h1 e1 o1;replace o1:Uz h h1 p [vt,vf]:=o1;refine go ?_;refine VK ?_;intro p6 h2 e2 o2;have e12:=e1.trans e2;have o12:=o1.ext e2;refine go ?_;refine VA (zAL h2 vt vf T F (E.ext e12)) ?_;rintro _ h3 ⟨⟨vR,vF,vS,rfl,⟨r1,r2,r3,rfl⟩,⟨f1,f2,f3,rfl⟩,⟨s1,s2,s3,rfl⟩,oR,oF,sS⟩,e3⟩;have o23:=o2.ext e3;have hp6:=o2.within;refine go ?_;refine VG (cs:=[.slice r1 r2 r3,.slice f1 f2 f3,.slice s1 s2 s3]) o23 (e2.trans e3) ?_;intro h4 e4 o4 u4;have o14:=o1.ext e4;by_cases hs:zK T F=0;case neg=>
  have hs':zK T F≠0:=hs;rw[QC (fun e=>hs e.1),QF hs];refine go ?_;refine VG o4 e4 ?_;intro h5 e5 o5 u5;refine go ?_;refine rt ?_ (VW U4 o5 rfl (Wt.cons U4 (Wt.cons U4 Wt.nil)));exact⟨⟨_,_,_,rfl,fun e=>absurd e hs,⟨_,_,_,rfl⟩,⟨_,_,_,rfl⟩,⟨_,_,_,rfl⟩⟩,e1.trans e5⟩
 have B:=(zHp hs oR oF sS ⟨⟨_,_,_,rfl⟩,⟨_,_,_,rfl⟩,⟨_,_,_,rfl⟩⟩).upC u4 hp6;rw[hs];refine go ?_;refine VA (zM5 B s i) ?_;rintro _ h5 ⟨rfl,e5⟩;have B5:=B.ext e5;have o5:=o4.ext e5;have e15:=e4.trans e5;have hfin:∀ {h6},Wb p6 h5 h6->TB h h6 (.slice r1 r2 r3) (.slice f1 f2 f3) (.slice s1 s2 s3) (zj T F) (zM T F) (zh T F):=fun u=>by
  have q:=B5.upC u hp6;exact⟨q.r.since e12,q.f.since e12,q.s.base e12.n,q.hR,q.hF,q.bR,q.bF,q.sh⟩
 replace hfin:=WA.mk @hfin;by_cases hi:Bn T F s i;case neg=>
  have hi':¬((0<=s/\s<((zM T F).length:Int))/\0<=i/\i<(zM T F).getD s.toNat 0):=hi;rw[QC hi',QS hi',QC (fun e=>hi e.2),QC (fun e=>e rfl),QC hi];refine go ?_;refine VG o5 e15 ?_;intro h6 e6 o6 u6;refine go ?_;refine rt ?_ (VW U4 o6 rfl (Wt.cons U4 (Wt.cons U4 Wt.nil)));exact⟨⟨_,_,_,rfl,fun _=>hfin.out u6,⟨_,_,_,rfl⟩,⟨_,_,_,rfl⟩,⟨_,_,_,rfl⟩⟩,e1.trans e6⟩
 have hi':((0<=s/\s<((zM T F).length:Int))/\0<=i/\i<(zM T F).getD s.toNat 0):=hi;rw[QF hi',QT hi',QF ⟨rfl,hi⟩,QC (fun e=>e rfl),QF hi];generalize((zM T F).take s.toNat).sum+i=v at *;refine go ?_;refine VG o5 e15 ?_;intro h6 e6 o6 u6;refine go ?_;refine rt ?_ (VW U4 o6 rfl (Wt.cons U4 (Wt.cons U4 Wt.nil)));exact⟨⟨_,_,_,rfl,fun _=>hfin.out u6,⟨_,_,_,rfl⟩,⟨_,_,_,rfl⟩,⟨_,_,_,rfl⟩⟩,e1.trans e6⟩
theorem zEE{s i:Int}(h:yl T F s i=0):zK T F=0/\Bn T F s i:=by
 unfold yl at h;split at h
 ·rename_i q;exact absurd h q
 ·rename_i q;split at h
  ·exact⟨Classical.not_not.1 q,by assumption⟩
  ·cases h
theorem zHb{h0 h:Uy}{vR vF vS:Value}{s i:Int}(B:TB h0 h vR vF vS (zj T F) (zM T F) (zh T F)):0<=y9 T F s i/\y9 T F s i<=10000000:=by
 unfold y9;split
 ·rename_i q;have hsb:=yc (l:=(zM T F).take s.toNat) fun x hx=>B.bF x (Qi hx);have hlt:((zM T F).take s.toNat).length<=1024:=QU (by rw[Qj];omega) B.hF;have h1:=q.2;unfold Bn at h1;have h2:=B.bF _ (zO (l:=zM T F) (i:=s.toNat) (by omega));omega
 ·omega
theorem zNd(E:Bh h vt vf T F)(s i:Int):WC Tryz.prog tb 22 [.agg #[vt,vf],I s,I i] h fun r h'=>r=.tuple #[I (if zK T F=0/\Bn T F s i then(Zl T F)+y9 T F s i else 0),I (yl T F s i)]/\Ext h h':=by
 have hRl:(zj T F).length=F.length:=by unfold zj;simp
 refine en ?_;refine VF ?_;intro p h1 e1 o1;replace o1:Uz h h1 p [vt,vf]:=o1;refine go ?_;refine VA (zFX (E.ext e1) s i) ?_;rintro _ h2 ⟨⟨vR,vF,vS,rfl,hB,⟨r1,r2,r3,rfl⟩,⟨f1,f2,f3,rfl⟩,⟨s1,s2,s3,rfl⟩⟩,e2⟩;refine go ?_;refine VK ?_;intro p8 h3 e3 o3;refine go ?_;refine VG (cs:=[.slice r1 r2 r3,.slice f1 f2 f3,.slice s1 s2 s3]) o3 e3 ?_;intro h4 e4 o4 _;have e04:=e1.trans (e2.trans e4);by_cases he:yl T F s i=0;case neg=>
  have he':yl T F s i≠0:=he;rw[QC (fun e=>he (by unfold yl;rw[QC (fun q=>q e.1),QF e.2]))];refine gr ?_;exact⟨rfl,e04⟩
 have hso:=zEE he;have B:=(hB hso.1).ext e4;have hb:=zHb (s:=s) (i:=i) B;have hsb:=yc B.bR;have hR8:=B.hR;rw[he,QF hso];unfold Zl;generalize y9 T F s i=v at *;refine go ?_;refine VA (zF3 B (zp e04 E.hm)) ?_;rintro _ h5 ⟨rfl,e5⟩;rw[hRl];refine gr ?_;exact⟨rfl,e04.trans e5⟩
theorem zII(E:Bh h vt vf T F)(s i:Int):WC Tryz.prog tb 24 [.agg #[vt,vf],I s,I i] h fun r h'=>r=.tuple #[I (if zK T F=0/\Bn T F s i then(yh F)+y9 T F s i else 0),I (yl T F s i)]/\Ext h h':=by
 have hRl:(zj T F).length=F.length:=by unfold zj;simp
 refine en ?_;refine VF ?_;intro p h1 e1 o1;replace o1:Uz h h1 p [vt,vf]:=o1;refine go ?_;refine VA (zFX (E.ext e1) s i) ?_;rintro _ h2 ⟨⟨vR,vF,vS,rfl,hB,⟨r1,r2,r3,rfl⟩,⟨f1,f2,f3,rfl⟩,⟨s1,s2,s3,rfl⟩⟩,e2⟩;refine go ?_;refine VK ?_;intro p8 h3 e3 o3;refine go ?_;refine VG (cs:=[.slice r1 r2 r3,.slice f1 f2 f3,.slice s1 s2 s3]) o3 e3 ?_;intro h4 e4 o4 _;have e04:=e1.trans (e2.trans e4);by_cases he:yl T F s i=0;case neg=>
  have he':yl T F s i≠0:=he;rw[QC (fun e=>he (by unfold yl;rw[QC (fun q=>q e.1),QF e.2]))];refine gr ?_;exact⟨rfl,e04⟩
 have hso:=zEE he;have B:=(hB hso.1).ext e4;have hb:=zHb (s:=s) (i:=i) B;have hsb:=yc B.bR;have hR8:=B.hR;rw[he,QF hso];unfold yh;generalize y9 T F s i=v at *;refine go ?_;refine VA (Yj B) ?_;rintro _ h5 ⟨rfl,e5⟩;rw[hRl];refine gr ?_;exact⟨rfl,e04.trans e5⟩
end
end Go.Proofs.YtfnndahpddkniaaGreatDoor
