/- Walks of functions, plain laws; proves no statement. -/
import Derived.Test.YtmejfcakhpihlaaGreatDoorJm
set_option linter.all false
set_option maxHeartbeats 2000000
namespace Go.Proofs.YtmejfcakhpihlaaGreatDoor
open Go.Am
structure Wh where
 kind:Int
 to:Int
 frm:Int
 n:Int
 args:List Int
instance:Inhabited Wh:=⟨⟨0,0,0,0,[]⟩⟩
def OwA(h:WA)(v:Value)(l:List Int):Prop:=(v=.slice none 0 0/\l=[])\/∃ g,g<h.n/\v=.slice (some ⟨g,0,none⟩) l.length 1/\h.get g=some (.row (l.map I) true 0)
theorem OwA.sl{h:WA}{v:Value}{l:List Int}(o:OwA h v l):WQ h v l:=by
 rcases o with⟨rfl,rfl⟩|⟨g,g1,rfl,g2⟩
 ·exact WQ.nil h
 ·exact WQ.own g1 g2
def BU(h:WA)(cs:List Value)(x:Wh):Prop:=∃ va,cs=[.int .u8 x.kind,I x.to,I x.frm,I x.n,va]/\OwA h va x.args/\x.args.length<=1000
abbrev SlO(h:WA)(v:Value)(l:List Wh):Prop:=BE 5 BU h v l
def W9(T:List WE)(t:Int):Bool:=decide ((T.getD t.toNat default).kind=1)
def Zb(T:List WE)(F:List Wa)(f:Int):List Int:=(zj T F f).parts++(zF F f).flatMap fun b=>b.ins.map fun x=>x.ty
def YV(T:List WE)(f r:Int):List W2->Int->List Int->Int×List Int
 |[],a,l=>(a,l)
 |s::S,a,l=>if s.fn=f/\s.nr=r then(a+l.length,yG T s.ty.toNat)else YV T f r S (a+l.length) (yG T s.ty.toNat)
section
variable (T:List WE)(F:List Wa)(f:Int)(ks:List Int)(r:Int)
def We(q:Int):Int:=((zz T F).take f.toNat).sum+q
def zKI(b:Int)(l:List Int):List Wh:=(List.range l.length).flatMap fun(i:Nat)=>if W9 T (l.getD i 0)then[]else[⟨1,b+i,0,0,[]⟩]
def zD4(g:Int)(ps us:List Int):List Wh:=(List.range ps.length).flatMap fun(i:Nat)=>if W9 T (ps.getD i 0)then[]else[⟨2,We T F g i,We T F f (us.getD i 0),0,[]⟩]
def zOD(us:List Int):List Wh:=(List.range us.length).flatMap fun(i:Nat)=>[⟨2,We T F f r,We T F f (us.getD i 0),0,[]⟩]
def zD3(q:Int×List Int):List Wh:=⟨1,We T F f r,0,1+F.length+q.1,[]⟩::zKI T (zy T F+F.length+q.1) q.2
def yl(x:Wj):List Wh:=
 if x.op=2\/x.op=3 then[⟨1,We T F f r,0,if x.op=3 then x.n+1 else 0,[]⟩]
 else if x.op=11\/x.op=12 then zD3 T F f r (YV T f r (zR T F) 0 [])
 else if x.op=14\/x.op=15 then[⟨3,We T F f r,We T F f x.a,if x.op=14 then stepL T (T.getD (ks.getD x.a.toNat 0).toNat default).elem x.n else 0,[]⟩]
 else if x.op=16 then(if W9 T x.ty then[]else[⟨4,We T F f r,We T F f x.a,0,[]⟩])
 else if x.op=17 then(if W9 T (ks.getD x.b.toNat 0)then[]else[⟨5,We T F f x.a,We T F f x.b,0,[]⟩])
 else if x.op=18 then zD4 T F f x.n (zj T F x.n).parts x.args++(if W9 T x.ty then[]else[⟨2,We T F f r,zy T F+x.n,0,[]⟩])
 else if x.op=19 then[⟨6,We T F f r,We T F f x.a,0,x.args.map (We T F f)⟩]
 else if x.op=22 then(if W9 T x.ty then[]else zOD T F f r x.args)
 else[]
end
def zHz(T:List WE)(F:List Wa)(f:Int)(B:Wc):List Wh:=
 if B.fin.kind=3 then(if W9 T (zj T F f).elem then[]else[⟨2,zy T F+f,We T F f B.fin.a,0,[]⟩])else[]
def zEz(T:List WE)(F:List Wa)(f r:Int)(l:List Wj):List Wh:=(List.range l.length).flatMap fun(i:Nat)=>yl T F f (Zb T F f) (r+i) (l.getD i default)
def consB(T:List WE)(F:List Wa)(f:Int)(L:List Wc)(n:Nat):List Wh:=(List.range n).flatMap fun(b:Nat)=>zEz T F f ((zj T F f).parts.length+zJ (L.take b)) (L.getD b default).ins++zHz T F f (L.getD b default)
def YH(T:List WE)(F:List Wa)(n:Nat):List Wh:=(List.range n).flatMap fun(f:Nat)=>consB T F f (zF F f) (zF F f).length
noncomputable def zBJ(T:List WE)(F:List Wa):List Wh:=if z8 T F=0 then YH T F F.length else[]
theorem ZI{α:Type}(g:Nat->List α)(n:Nat):(List.range (n+1)).flatMap g=(List.range n).flatMap g++g n:=by
 rw[G3,List.flatMap_append];simp
structure CI(T:List WE)(F:List Wa)(ks:List Int)(x:Wj):Prop where
 op:0<=x.op/\x.op<=22
 n3:x.op=3->0<=x.n/\x.n<(F.length:Int)
 a14:x.op=14\/x.op=15\/x.op=16\/x.op=17\/x.op=19->0<=x.a/\x.a<(ks.length:Int)
 nV:x.op=14->∃ s,(T.getD (ks.getD x.a.toNat 0).toNat default).elem=s/\(0<=ks.getD x.a.toNat 0/\ks.getD x.a.toNat 0<(T.length:Int))/\(0<=s/\s<(T.length:Int))/\(T.getD s.toNat default).kind=4/\0<=x.n/\x.n<((T.getD s.toNat default).parts.length:Int)
 ty:x.op=16\/x.op=18\/x.op=22->0<=x.ty/\x.ty<(T.length:Int)
 LZ:x.op=17->(0<=x.b/\x.b<(ks.length:Int))/\0<=ks.getD x.b.toNat 0/\ks.getD x.b.toNat 0<(T.length:Int)
 iE:x.op=18->(0<=x.n/\x.n<(F.length:Int))/\(zj T F x.n).parts.length=x.args.length/\(0<=(F.getD x.n.toNat default).sig/\(F.getD x.n.toNat default).sig<(T.length:Int))/\∀ t∈(zj T F x.n).parts,0<=t/\t<(T.length:Int)
 args:x.op=18\/x.op=19\/x.op=22->∀ a∈x.args,0<=a/\a<(ks.length:Int)
 al:x.args.length<=20
theorem zOQ:(zU 14).1=true/\(zU 15).1=true/\(zU 16).1=true/\(zU 17).1=true/\(zU 19).1=true/\(zU 17).2.1=true/\(zU 18).2.2.2.1=true/\(zU 19).2.2.2.1=true/\(zU 22).2.2.2.1=true/\(zU 14).2.1=false/\(zU 14).2.2.2.1=false/\(zU 18).1=false/\(zU 18).2.1=false/\(zU 19).2.1=false/\(zU 22).1=false/\(zU 22).2.1=false:=by decide
theorem zN7{T:List WE}{F:List Wa}{f:Int}{i:Nat}(h:(W6 T F f).getD i 0≠ -1):(Zb T F f).getD i 0=(W6 T F f).getD i 0/\(Zb T F f).length=(W6 T F f).length:=by
 have key:∀ (L:List Wc),(L.flatMap fun b=>b.ins.map fun x=>x.ty).length=(ZK L).length/\∀ j,(ZK L).getD j 0≠ -1->(L.flatMap fun b=>b.ins.map fun x=>x.ty).getD j 0=(ZK L).getD j 0:=by
  intro L;have h1:ZK L=(L.flatMap fun b=>b.ins).map Ys:=by unfold ZK;rw[List.map_flatMap]
  have h2:(L.flatMap fun b=>b.ins.map fun x=>x.ty)=(L.flatMap fun b=>b.ins).map fun x=>x.ty:=by rw[List.map_flatMap]
  rw[h1,h2];refine⟨by simp,fun j hj=> ?_⟩;generalize(L.flatMap fun b=>b.ins)=l at *;simp only[QG,GQ]at *;cases hx:l[j]? with
  |none=>rfl
  |some x=>
   rw[hx]at hj;simp only[QJ,GB]at *;unfold Ys at *;split
   ·rfl
   ·rename_i q;rw[QC q]at hj;exact absurd rfl hj
 unfold W6 zCR at h |-;unfold Zb;refine⟨?_,by rw[QM,QM,(key _).1]⟩;by_cases q:i<(zj T F f).parts.length
 ·rw[Y3 q,Y3 q]
 ·rw[Yj (by omega)]at h;rw[Yj (by omega),Yj (by omega)];exact(key (zF F f)).2 _ h
theorem zER(T:List WE)(F:List Wa)(f:Int):(Zb T F f).length=(W6 T F f).length:=by
 unfold Zb W6 zCR ZK;simp
theorem zNY{T:List WE}{F:List Wa}(hs:z8 T F=0){f:Nat}(hf:f<F.length){b:Nat}(hb:b<(zF F f).length){i:Nat}(hi:i<((zF F f).getD b default).ins.length):
  CI T F (Zb T F f) (((zF F f).getD b default).ins.getD i default):=by
 obtain⟨hp,hw⟩:=z9 hs;have Z:=zBL hp (f:=(f:Int)) (by omega);have W:=(hw f (by omega) (by omega)).2.2 b (by omega) (by omega);have h1:=W.1 i (by rw[QL];exact hi);have jh:(zF F f).getD b default∈zF F f:=zE hb;have hV:=Z.V _ jh _ (zE hi);have hU:=(Z.U _ jh).ins _ (zE hi);have hc:=Z.hc;have qo:= @zN7 T F f;have hlen:=zER T F f;have wz:=Z.ks;unfold YO zAE at h1;rw[QL]at h1;obtain⟨g1,g2,-,-⟩:=h1;generalize((zF F f).getD b default).ins.getD i default=x at *;have bZ:∀ r∈zt x,(W6 T F f).getD r.toNat 0≠ -1:=fun r hr e=>g1 (Qw.2 ⟨r,hr,e⟩);have wM:∀ r∈zt x,(0<=r/\r<((Zb T F f).length:Int))/\(Zb T F f).getD r.toNat 0=(W6 T F f).getD r.toNat 0/\0<=(Zb T F f).getD r.toNat 0/\(Zb T F f).getD r.toNat 0<(T.length:Int):=fun r hr=>by
  have h1:=hU.uses r hr;have h2:=qo (bZ r hr);have h3:=wz _ (zM (l:=W6 T F f) (i:=r.toNat) (by omega));refine⟨by omega,h2.1,?_⟩;rw[h2.1];exact h3.resolve_left (bZ r hr)
 obtain⟨AO,u15,u16,Hq,DI,R2,R3,w19,w22,R6,IQ,R7,IS,z19,z22,R8⟩:=zOQ;have ha:x.op=14\/x.op=15\/x.op=16\/x.op=17\/x.op=19->x.a∈zt x:=fun h=>by
  unfold zt;have:(zU x.op).1=true:=by rcases h with e|e|e|e|e<;>rw[e]<;>assumption
  rw[QF this];simp
 have aC:x.op=17->x.b∈zt x:=fun e=>by
  unfold zt;rw[e,QF R2];simp
 have fA:x.op=18\/x.op=19\/x.op=22->∀ a∈x.args,a∈zt x:=fun h a hm=>by
  unfold zt;have:(zU x.op).2.2.2.1=true:=by rcases h with e|e|e<;>rw[e]<;>assumption
  rw[QF this];simp[hm]
 refine⟨⟨by have:=hU.op;omega,hU.op.2⟩,fun e=>hV.n2 (.inl e),fun e=>(wM _ (ha e)).1,fun e=> ?_,fun e=> ?_,fun e=>⟨(wM _ (aC e)).1,(wM _ (aC e)).2.2⟩,fun e=> ?_,fun e a hm=>(wM _ (fA e a hm)).1,hU.args⟩
 ·have hx:=wM _ (ha (.inl e));have hu:zt x=[x.a]:=by unfold zt;rw[e,QF AO,R6,IQ];rfl
  rw[hu]at g2;unfold yD zGm at g2;simp only[e,ZB,Qm,GP]at g2;simp at g2;(try simp only[<-QG]at g2);obtain⟨g3,g4⟩:=g2;rw[<-hx.2.1]at g3 g4;have ah:W7 T ((Zb T F f).getD x.a.toNat 0):= .inr hx.2.2;have h5:=zDM hc ah;have h6:=zAd g3;refine⟨_,rfl,hx.2.2,?_⟩;have h7:BT T ((Zb T F f).getD x.a.toNat 0)=(T.getD ((Zb T F f).getD x.a.toNat 0).toNat default).elem:=by
   unfold BT at h6 |-;split
   ·rfl
   ·rename_i q;rw[QC q]at h6;exact absurd rfl h6
  unfold zFm Z5 at g4;rw[h7]at g3 g4 h5 h6;refine⟨h5.resolve_left h6,?_,hV.n14 e,?_⟩
  ·unfold Ww at g3;simp only[QN,Qd]at g3;exact g3.2
  ·have Sa:Ww T 5 (T.getD ((Zb T F f).getD x.a.toNat 0).toNat default).elem=false:=by
    unfold Ww at g3 |-;simp only[QN,Qd]at g3;rw[g3.2];simp
   rw[QC h6,g3,Sa]at g4;refine Gi fun hn=> ?_;rw[QY hn]at g4;simp at g4
 ·have ah:=hV.ty;refine ah.resolve_left fun e1=> ?_;unfold yD zGm at g2;rcases e with e|e|e
  ·simp[e]at g2;(try simp only[<-QG]at g2);have h1:=g2.1;rw[<-g2.2,e1]at h1;unfold zBV Ww at h1;simp at h1
  ·simp[e]at g2;have hn:=hV.n2 (.inr e);have Zn:=zBL hp (f:=x.n) hn;unfold zCC sigF at g2;simp only[QN,Qd]at g2;(try simp only[<-QG]at g2);have h2:=Zn.el;unfold zj PlT at h2;rw[g2.2]at h2;omega
  ·simp[e]at g2;rw[e1]at g2;unfold zBV Ww at g2;simp at g2
 ·have hn:=hV.n2 (.inr e);have Zn:=zBL hp (f:=x.n) hn;have hu:zt x=x.args:=by unfold zt;rw[e,R7,IS,R3];simp
  rw[hu]at g2;unfold yD zCC sigF at g2;simp[e]at g2;(try simp only[<-QG]at g2);refine⟨hn,?_,Zn.sig,fun t ht=> ?_⟩
  ·unfold zj;rw[g2.1.2];unfold ZB;simp
  ·have:=Zn.par t ht;unfold PlT at this;omega
end Go.Proofs.YtmejfcakhpihlaaGreatDoor
set_option maxRecDepth 100000
namespace Go.Proofs.YtmejfcakhpihlaaGreatDoor
open Go.Am
section
variable {P:Program}{tab:Wy}{t:WG Value}{h:WA}{ds:List Deferred}{rd:Option Nat}{l:List WF}{Q:WR->WA->Prop}
theorem Ul{α:Type}{c b d2 gl:Nat}{R:WA->List Value->α->Prop}{hB:WA}{v:Value}{xs:List α}{cs:List Value}(a:α)(Dn:Nat->Prop){x y:Operand}(o:OwnR c R b h v xs)(e0:Ext hB h)(hb:hB.n<=b)(eF:b<=h.n)(aW:0<c)(hl:xs.length<=100000)
  (d:Ba R h cs a Dn) (hD:∀ k,Dn k->b<=k/\k<h.n) (hv:∀ g n k,v=.slice (some ⟨g,0,none⟩) n k->¬Dn g) (hc:cs.length=c) (h1:zL cs=true) (hg:h.get gl=some (.row cs true 0)) (xv:gl<h.n)
  (k:∀ v' h',Ext hB h'->OwnR c R b h' v' (xs++[a])->h.n<=h'.n->(∀ k,k<h.n->(∀ n k',v≠ .slice (some ⟨k,0,none⟩) n k')->h'.get k=h.get k)->(∀ k∈h'.wr,k∈h.wr\/b<=k)->zBI h v'->WO P tab l ⟨t.set d2 v',ds,rd⟩ h' Q)
  (hx:WM t x v:=by exact zi) (hy:WM t y (.slice (some ⟨gl,0,none⟩) 1 c):=by exact zi):
  WO P tab (⟨some d2,none,.append c x y⟩::l) ⟨t,ds,rd⟩ h Q:=by
 have hx:ev t x=v:=hx;have hy:ev t y=.slice (some ⟨gl,0,none⟩) 1 c:=hy;obtain⟨v',H',q1,q2,q3,q4,q5,q6,q7,q8,n',k',g',q9,me⟩:=Z0 (H:=h) (gl:=gl) o hc aW h1 hl eF d hD hv (QE _) xv (fun _ _=>rfl) hg;refine WO.op v' H' rfl (by simp only[WN,hx,hy,q1]) (k v' H' ?_ q2 (by rw[q3];exact Qr _) q4 q6 fun j hj=>by subst q9;cases hj;exact me);have sV:∀ k,k<hB.n->∀ n k',v≠ .slice (some ⟨k,0,none⟩) n k':=fun k hk n k' e=>by
  rcases o with⟨e2,_⟩|⟨g,_,_,g1,_,e2,_⟩
  ·rw[e2]at e;cases e
  ·rw[e2]at e;cases e;omega
 have hn:=e0.n;exact⟨by rw[q3];omega,fun k hk=>by rw[q4 k (by omega) (sV k hk)];exact e0.get k hk,fun w=>q8 (e0.wf w),q5.trans e0.mark,fun hm=>by rw[q7 (by rw[e0.mark];omega)];exact e0.wr hm⟩
end
theorem yu{α:Type}{c b:Nat}{R:WA->List Value->α->Prop}{h:WA}{v:Value}{xs:List α}(o:OwnR c R b h v xs):∀ g,Bm v=some g->b<=g/\g<h.n:=fun g hg=>by
 rcases o with⟨rfl,_⟩|⟨g,_,_,g1,g2,rfl,_⟩
 ·cases hg
 ·cases hg;exact⟨g1,g2⟩
theorem zKe(hB h:WA)(b gl:Nat)(po vO:Value)(out:List Wh)(x:Wh)(cs:List Value)(Dn:Nat->Prop)(e:Ext hB h)(hb:hB.n<=b)(eF:b<=h.n)(oo:WB hB h po [vO])(pb:∀ g,Bm po=some g->g<b)(oO:OwnR 5 BU b h vO out)(hl:out.length<=100000)
  (d:Ba BU h cs x Dn) (hD:∀ k,Dn k->b<=k/\k<h.n) (hv:∀ g n k,vO=.slice (some ⟨g,0,none⟩) n k->¬Dn g) (hc:cs.length=5) (h1:zL cs=true) (hg:h.get gl=some (.row cs true 0)) (xv:gl<h.n):
  WC Tryz.prog tb 26 [.slice (some ⟨gl,0,none⟩) 1 5,po] h fun r h'=>∃ bE,Ext hB h'/\WB hB h' po [bE]/\OwnR 5 BU b h' bE (out++[x])/\Wd po vO h h' bE/\∀ k∈h'.wr,k∈h.wr\/hB.n<=k:=by
 obtain⟨v1,v2,v3,Sb⟩:∃ a n k,vO=.slice a n k:=by
  rcases oO with⟨rfl,_⟩|⟨g,_,_,_,_,rfl,_⟩
  ·exact⟨_,_,_,rfl⟩
  ·exact⟨_,_,_,rfl⟩
 subst Sb;have hpo:=oo.within;refine en ?_;refine Ul x Dn oO e hb eF (by decide) hl d hD hv hc h1 hg xv ?_;intro v' h2 e2 o2 n2 k2 w2 s2;have wN:WB hB h2 po [.slice v1 v2 v3]:=by
  obtain⟨g,g1,g2,rfl,g3⟩:=oo;refine⟨g,g1,QI g2 n2,rfl,(k2 g g2 fun n k' e=> ?_).trans g3⟩;have h1:=pb g rfl;have h2:=(yu oO g (by rw[e];rfl)).1;omega
 obtain⟨a1,a2,a3,rfl⟩:∃ a n k,v'=.slice a n k:=by
  rcases o2 with⟨rfl,_⟩|⟨g,_,_,_,_,rfl,_⟩
  ·exact⟨_,_,_,rfl⟩
  ·exact⟨_,_,_,rfl⟩
 refine go ?_;refine XX (cs:=[.slice a1 a2 a3]) wN e2 ?_;intro h3 e3 o3 u3 w3;refine go ?_;refine BP ?_;refine⟨_,e3,o3,?_,⟨QP n2 u3.1,fun g hg h1 h2=> ?_,fun k hk=> .inr (s2 k hk)⟩,fun k hk=> ?_⟩
 ·refine OwnR.upd o2 (fun k k1 k2=>u3.2 k k2 fun e=> ?_) u3.1;have:=pb k (by rw[e];rfl);omega
 ·rw[u3.2 g (QI hg n2) fun e=>h1 (by rw[e];rfl),k2 g hg fun n k' e=>h2 (by rw[e];rfl)]
 ·rcases w3 k hk with h|h
  ·rcases w2 k h with h|h
   ·exact .inl h
   ·exact .inr (by omega)
  ·exact .inr h
theorem z0{h0 h:WA}{p:Value}{cs:List Value}(k:Nat)(o:WB h0 h p cs):WB h0 (inC (zB k h)) p cs:=by
 have:=o.ext (zH k h);exact this
theorem Z6{h:WA}{v:Value}{l:List Int}(k:Nat)(s:WQ h v l):WQ (inC (zB k h)) v l:=by
 have:=s.ext (zH k h);exact this
theorem zJa{h:WA}{v:Value}{l:List WE}(k:Nat)(s:Wu h v l):Wu (inC (zB k h)) v l:=by
 have:=Wu.ext s (zH k h);exact this
structure CE(hB:WA)(b:Nat)(vt vf pu po vS vR:Value)(T:List WE)(F:List Wa):Prop where
 E:Env hB vt vf T F
 hs:z8 T F=0
 hm:hB.mark<=hB.n
 bn:hB.n<=b
 bu:∀ g,Bm pu=some g->g<b
 bo:∀ g,Bm po=some g->g<b
 bS:∀ g,Bm vS=some g->g<b
 bR:∀ g,Bm vR=some g->g<b
 uo:WU pu po
 uS:WU pu vS
 uR:WU pu vR
 oS:WU po vS
 oR:WU po vR
def Zt(po:Value):Value:= .func (.func 26) #[] #[po]
structure CM(hB h:WA)(b:Nat)(vt vf pu po vS vR:Value)(T:List WE)(F:List Wa)(vK vO:Value)(ks:List Int)(f r:Int)(out:List Wh):Prop where
 e:Ext hB h
 hb:b<=h.n
 ou:WB hB h pu [vt,vf,vS,vR,I (zy T F),vK,I f,I r,Zt po]
 oo:WB hB h po [vO]
 oS:OwnR 3 RSt hB.n h vS (zR T F)
 oR:WL hB h vR ((List.range F.length).map fun i=>((zz T F).take i).sum)
 oK:WL hB h vK ks
 oO:OwnR 5 BU b h vO out
 kb:∀ g,Bm vK=some g->b<=g
 ko:WU vO vK
section
variable {hB h h':WA}{b:Nat}{vt vf pu po vS vR vK vO bE:Value}{T:List WE}{F:List Wa}{ks:List Int}{f r:Int}{out:List Wh}{x:Wh}
theorem CM.ext(M:CM hB h b vt vf pu po vS vR T F vK vO ks f r out)(e:Ext h h'):CM hB h' b vt vf pu po vS vR T F vK vO ks f r out:=
 ⟨M.e.trans e,QP M.hb e.n,M.ou.ext e,M.oo.ext e,OwnR.ext M.oS e,M.oR.ext e,M.oK.ext e,OwnR.ext M.oO e,M.kb,M.ko⟩
theorem Y1{h0:WA}{v w w' p:Value}{l:List Int}(o:WL h0 h v l)(k:Wd p w h h' w')(d1:WU p v)(d2:WU w v):WL h0 h' v l:=by
 rcases o with o|⟨g,g1,g2,rfl,g3⟩
 ·exact .inl o
 ·exact .inr ⟨g,g1,QI g2 k.1,rfl,(k.2.1 g g2 (fun e=>d1 g e rfl) fun e=>d2 g e rfl).trans g3⟩
theorem zLe{n:Nat}{v w w' p:Value}{l:List W2}(o:OwnR 3 RSt n h v l)(k:Wd p w h h' w')(d1:WU p v)(d2:WU w v):OwnR 3 RSt n h' v l:=by
 rcases o with o|⟨g,cells,D,g1,g2,rfl,g4,g5,g6,g7,g8⟩
 ·exact .inl o
 ·exact .inr ⟨g,cells,fun _=>False,g1,QI g2 k.1,rfl,(k.2.1 g g2 (fun e=>d1 g e rfl) fun e=>d2 g e rfl).trans g4,g5,fun h=>h,fun k h=>h.elim,fun i a ha=>fun _ _ _=>(g8 i a ha).self⟩
theorem CM.add(M:CM hB h b vt vf pu po vS vR T F vK vO ks f r out)(C:CE hB b vt vf pu po vS vR T F)(k:Wd po vO h h' bE)(e:Ext hB h')(oo:WB hB h' po [bE])(oO:OwnR 5 BU b h' bE (out++[x])):
  CM hB h' b vt vf pu po vS vR T F vK bE ks f r (out++[x]):=by
 have hO:=yu M.oO;have low:∀ {v},(∀ g,Bm v=some g->g<b)->WU vO v:=fun hv g h1 h2=>by
  have:=hv g h2;have:=(hO g h1).1;omega
 have Sc:WU po vK:=fun g h1 h2=>by
  have:=C.bo g h1;have:=M.kb g h2;omega
 refine⟨e,QP M.hb k.1,(VR M.ou k C.uo.symm (low C.bu)).1,oo,zLe M.oS k C.oS (low C.bS),Y1 M.oR k C.oR (low C.bR),Y1 M.oK k Sc M.ko,oO,M.kb,fun g h1 h2=> ?_⟩;rcases k.2.2 g h1 with h|h
 ·exact M.ko g h h2
 ·have:=WL.within M.oK g h2;omega
end
section
variable {m N0:Nat}{cl:Bool}{K:WP->WR->WA->Prop}{t:WG Value}{ds:List Deferred}{rd:Option Nat}
theorem Wb.add{hB hS X:WA}{b d1 d2 a2 a3:Nat}{a1:Option Addr}{vt vf pu po vS vR vK vO:Value}{T:List WE}{F:List Wa}{ks:List Int}{f r:Int}{out:List Wh}{y z:Operand}{zero:List Value}(x:Wh)(Dn:Nat->Prop)(C:CE hB b vt vf pu po vS vR T F)(M:CM hB hS b vt vf pu po vS vR T F vK vO ks f r out)(eX:Ext (Am.inC (zB 1 hS)) X)(hl:out.length<=100000)
  (d:Ba BU X [.int .u8 x.kind,I x.to,I x.frm,I x.n,.slice a1 a2 a3] x Dn) (hD:∀ k,Dn k->hS.n<k/\k<X.n)
  (k:∀ H bE t',zCB [d1,d2] t t'->CM hB H b vt vf pu po vS vR T F vK bE ks f r (out++[x])->Wd po vO hS H bE->K .normal ⟨t',ds,rd⟩ H)
  (hx:WM t y (.agg #[.int .u8 x.kind,I x.to,I x.frm,I x.n,.slice a1 a2 a3]):=by exact zi) (hz:zero.length=5:=by rfl) (hf:∀ u,WM (t.set d1 u) z (Zt po):=by intro u;exact zi) (eo:m=hS.mark:=by rfl):
  Wb Tryz.prog tb m N0 [(⟨some d1,none,.buildSlice 1 5 zero [(0,5,y)]⟩,[]),(⟨some d2,none,.call z [.tmp d1]⟩,[])] hS.n cl ⟨t,ds,rd⟩ (Am.inC X) (Bt K hS):=by
 subst eo;have hx:ev t y=.agg #[.int .u8 x.kind,I x.to,I x.frm,I x.n,.slice a1 a2 a3]:=hx;have hw:(Value.agg #[.int .u8 x.kind,I x.to,I x.frm,I x.n,.slice a1 a2 a3]).cells=[Value.int .u8 x.kind,I x.to,I x.frm,I x.n,.slice a1 a2 a3].toArray:=by rfl
 have lG:=Zz (c:=5) (zero:=zero) hw rfl hz;have nP:hS.n+1<=X.n:=eX.n;have e0:=M.e;have Sd:=e0.n;have IT:=M.hb;have Se:=C.bn;have cT:hS.mark<=hB.n:=by rw[e0.mark];exact C.hm
 rw[Wb,QF (show Nat.beq (zI (Wx.buildSlice 1 5 zero [(0,5,y)])) 3=true from rfl)];refine⟨rfl,.inl ⟨rfl,by omega,.row [.int .u8 x.kind,I x.to,I x.frm,I x.n,.slice a1 a2 a3] true 0,_,by simp only[yi,zu,Qm,GP,hx];rw[lG];rfl,?_⟩⟩;generalize fU:(Am.inC (Am.inC X)).lay hS.n (.row [.int .u8 x.kind,I x.to,I x.frm,I x.n,.slice a1 a2 a3] true 0)=H1;have n1:H1.n=X.n:=by rw[<-fU];rfl
 have aH:∀ c',H1.get c'=if c'=hS.n then some (.row [.int .u8 x.kind,I x.to,I x.frm,I x.n,.slice a1 a2 a3] true 0)else X.get c':=fun c'=>by rw[<-fU];exact zT _ _ _ _
 have cM:∀ k,k<hS.n->X.get k=hS.get k:=fun k hk=>eX.get k (by show k<hS.n+1;omega);have qp:∀ k,k<hS.n->H1.get k=hS.get k:=fun k hk=>by rw[aH,QC (by omega),cM k hk]
 have jU:OwnR 5 BU b (Am.inC H1) vO out:=M.oO.upd (fun k _ hk=>qp k hk) (by show hS.n<=H1.n;omega);have pA:Ba BU (Am.inC H1) [.int .u8 x.kind,I x.to,I x.frm,I x.n,.slice a1 a2 a3] x Dn:=d.mono (fun _ h=>h) (fun k o hd e=>by
  show H1.get k=_;have:=hD k hd;rw[aH,QC (by omega)];exact e) (by show X.n<=H1.n;omega)
 have E1:Ext {hB with mark:=H1.n,wr:=[]} (Am.inC H1):=⟨by show hB.n<=H1.n;omega,fun g hg=>(qp g (QI hg Sd)).trans (e0.get g hg),fun w g hg=>by
  have hg:H1.n<=g:=hg;show H1.get g=none;rw[aH,QC (by omega)];exact eX.wf (fun q hq=>e0.wf w q (by have hq:hS.n+1<=q:=hq;omega)) g (by omega),rfl,fun _=>rfl⟩
 have Sf:WB {hB with mark:=H1.n,wr:=[]} (Am.inC H1) po [vO]:=by
  obtain⟨g,g1,g2,g3,g4⟩:=M.oo;exact⟨g,g1,by show g<H1.n;omega,g3,(qp g g2).trans g4⟩
 rw[Wb,QC (show ¬Nat.beq (zI (Wx.call z [.tmp d1])) 3=true from Bool.noConfusion)];refine VQ (WV.func (args:=[.slice (some ⟨hS.n,0,none⟩) 1 5]) (first:=#[]) (cap:=#[po]) (zKe _ _ b hS.n po vO out x _ Dn E1 Se (by show b<=H1.n;omega) Sf C.bo jU hl pA (fun k hd=>⟨by have:=hD k hd;omega,by have:=hD k hd;show k<H1.n;omega⟩) (fun g n k e hd=>by
  have h1:=(yu M.oO g (by rw[e];rfl)).2;have h2:=hD g hd;omega) rfl rfl (by show H1.get hS.n=_;rw[aH,QF rfl]) (by show hS.n<H1.n;omega))) ?_ (hf _) (BX.cons (WM.tmp Wt.here) BX.nil)
 rintro _ h3 ⟨bE,e3,o3,IU,k3,w3⟩;have vB:H1.n<=h3.n:=k3.1;refine WO.nil ⟨⟨fun c' bM=> ?_,vB,.inl rfl⟩,?_⟩
 ·rcases w3 c' bM with h|h
  ·cases h
  ·have h:hB.n<=c':=h;omega
 have kk:Wd po vO hS (Am.outC hS h3) bE:=⟨by show hS.n<=h3.n;omega,fun g hg h1 h2=>(k3.2.1 g (by show g<H1.n;omega) h1 h2).trans (qp g hg),fun q hq=>by
  rcases k3.2.2 q hq with h|h
  ·exact .inl h
  ·exact .inr (by have h:H1.n<=q:=h;omega)⟩
 exact k _ bE _ (fun j hj=>by
  simp only[zFl,QN,Gj]at hj;rw[zb,zb,QC (fun e=>by subst e;simp at hj),QC (fun e=>by subst e;simp at hj)]) (M.add C kk ⟨e3.n,e3.get,fun w=>e3.wf w,e0.mark,fun hm=>e0.wr hm⟩ o3 (IU.upd (fun _ _ _=>rfl) (QE _))) kk
end
end Go.Proofs.YtmejfcakhpihlaaGreatDoor
set_option maxRecDepth 100000
namespace Go.Proofs.YtmejfcakhpihlaaGreatDoor
open Go.Am
def Bw(T:List WE)(F:List Wa):List Int:=(List.range F.length).map fun i=>((zz T F).take i).sum
theorem zE7{T:List WE}{F:List Wa}(hs:z8 T F=0){f:Int}(hf:0<=f/\f<(F.length:Int)):f<((Bw T F).length:Int)/\(Bw T F).getD f.toNat 0=((zz T F).take f.toNat).sum/\0<=((zz T F).take f.toNat).sum/\((zz T F).take f.toNat).sum<=8000/\0<=zy T F/\zy T F<=8000:=by
 obtain⟨hb,hl,h1,h8⟩:=zKX hs;have h2:=zAK (l:=(zz T F).take f.toNat) fun x hx=>hb x (Q5 hx);have h3:=zAK hb;have h4:((zz T F).take f.toNat).length<=f.toNat:=List.length_take_le _ _;unfold Bw zy;refine⟨by simp;omega,?_,by omega,by omega,by omega,by omega⟩;have:f.toNat<F.length:=by omega
 simp[List.getD,this]
section
variable {h h0 hB:WA}{b:Nat}{vt vf pu po vS vR vK vO av:Value}{T:List WE}{F:List Wa}{ks:List Int}{f r A:Int}{out:List Wh}
theorem ZQ(ou:WB h0 h pu [vt,vf,vS,vR,I A,vK,I f,I r,av])(sR:WQ h vR (Bw T F))(hs:z8 T F=0)(hf:0<=f/\f<(F.length:Int))(q:Int)(hq:0<=q/\q<=1000):
  WC Tryz.prog tb 30 [pu,I q] h fun x h'=>x=I (We T F f q)/\h=h':=by
 obtain⟨h1,h2,h3,h4,-⟩:=zE7 hs hf;unfold We;rw[<-h2]at h3 h4 |-;generalize Bw T F=L at *;obtain⟨gu,_,_,rfl,_⟩:=id ou;obtain⟨r1,r2,r3,rfl⟩:=Wi.shape sR;refine en ?_;refine gr ?_;exact⟨rfl,rfl⟩
theorem Yk(ou:WB h0 h pu [vt,vf,vS,vR,I A,vK,I f,I r,av])(st:Wu h vt T)(t:Int)(ht:0<=t/\t<(T.length:Int)):
  WC Tryz.prog tb 29 [pu,I t] h fun x h'=>x=.bool (W9 T t)/\h=h':=by
 unfold W9;obtain⟨cs,⟨va,rfl,sa,br⟩,pc,hs⟩:=yM (i:=t.toNat) st (by omega);obtain⟨gu,_,_,rfl,_⟩:=id ou;obtain⟨t1,t2,t3,rfl⟩:=zD st;obtain⟨a1,a2,a3,rfl⟩:=Wi.shape sa;refine en ?_;refine rt ?_;exact⟨rfl,rfl⟩
theorem zIe(ou:WB h0 h pu [vt,vf,vS,vR,I A,vK,I f,I r,av])(sK:WQ h vK ks)(q:Int)(hq:0<=q/\q<(ks.length:Int)):
  WC Tryz.prog tb 87 [pu,I q] h fun x h'=>x=I (ks.getD q.toNat 0)/\h=h':=by
 obtain⟨gu,_,_,rfl,_⟩:=id ou;obtain⟨k1,k2,k3,rfl⟩:=Wi.shape sK;refine en ?_;refine rt ?_;exact⟨rfl,rfl⟩
theorem zHN(ou:WB h0 h pu [vt,vf,vS,vR,I A,vK,I f,I r,av])(sR:WQ h vR (Bw T F))(hs:z8 T F=0)(hf:0<=f/\f<(F.length:Int))(va:Value)(us:List Int)(sa:WQ h va us)(ha:∀ a∈us,0<=a/\a<=1000)(hl:us.length<=1000):
  WC Tryz.prog tb 88 [pu,va] h fun x h'=>WL h h' x (us.map (We T F f))/\Ext h h':=by
 obtain⟨a1,a2,a3,rfl⟩:=Wi.shape sa;replace ha:=WK.mk ha;replace hf:=WK.mk hf;refine en ?_;refine VD (fun i=>us.length-i) (fun i t h1=>zC t 9=I i/\i<=us.length/\Ext h h1/\∃ v,zC t 4=v/\WL h h1 v ((us.take i).map (We T F f))) 0 ?_ ?_
 ·exact⟨WH,QK _,Ext.refl _,_,WH,.inl ⟨rfl,rfl⟩⟩
 rintro i t h1 ab ⟨s9,hi,e1,v,s4,ov⟩;have je:=sa.ext e1;refine go ?_;refine VE (fun hc=> ?_) (fun hc=> ?_)<;>simp only[DB]at hc
 ·have ae:i<us.length:=by omega
  have hx:=ha.out _ (zM ae);have bp:(us.take (i+1)).map (We T F f)=(us.take i).map (We T F f)++[We T F f (us.getD i 0)]:=by
   rw[Q1,QB ae,Qx];congr 1;simp[List.getD,QB ae]
  have LS:((us.take i).map (We T F f)).length<=i:=by rw[Qi];exact List.length_take_le _ _
  refine go ?_;refine VA (ZQ (ou.ext e1) (sR.ext e1) hs hf.out (us.getD i 0) hx) ?_;rintro _ _ ⟨rfl,rfl⟩;refine go ?_;refine WO.bl [We T F f (us.getD i 0)] ?_;intro v3 h3 e3 o3;refine go ?_;refine V8 (ov.ext e3) o3.sl (e1.trans e3) (by simp) (by simp at LS |-;omega) ?_;intro v4 h4 e4 o4 u4;refine go ?_;refine zA (i+1) (by omega) ⟨Wn,by omega,e4,v4,WH,?_⟩;rw[bp];exact .inr (o4.since (e1.trans e3))
 ·have aK:i=us.length:=by omega
  subst aK;rw[Qg]at ov;refine gr ?_;exact⟨ov,e1⟩
end
theorem Yh(g:Nat->List Wh)(hg:∀ i,(g i).length<=1):∀ n,((List.range n).flatMap g).length<=n
 |0=>by simp
 |n+1=>by rw[ZI,QM];have:=Yh g hg n;have:=hg n;omega
theorem zAS(b:Bool)(c:Wh):(if b then[]else[c]).length<=1:=by cases b<;>simp
def CP(hB:WA)(b:Nat)(vt vf pu po vS vR:Value)(T:List WE)(F:List Wa)(vK vO:Value)(ks:List Int)(f r:Int)(out:List Wh)(h h':WA):Prop:=
 ∃ bE,CM hB h' b vt vf pu po vS vR T F vK bE ks f r out/\Wd po vO h h' bE
theorem ye{X:WA}{a b c d:Int}{D:Nat->Prop}:Ba BU X [.int .u8 a,I b,I c,I d,.slice none 0 0] ⟨a,b,c,d,[]⟩ D:=fun hx _ _=>⟨_,rfl,.inl ⟨rfl,rfl⟩,by simp⟩
section
variable {h hB:WA}{b:Nat}{vt vf pu po vS vR vK vO:Value}{T:List WE}{F:List Wa}{ks:List Int}{f r:Int}{out:List Wh}
theorem zMk(C:CE hB b vt vf pu po vS vR T F)(M:CM hB h b vt vf pu po vS vR T F vK vO ks f r out)(hf:0<=f/\f<(F.length:Int))(hr:0<=r/\r<=1000)(hl:out.length<=90000)(x:Wj)(a1 b1:Option Addr)(a2 a3 b2 b3:Nat)(hn:x.op=3->0<=x.n/\x.n<=1000):
  WC Tryz.prog tb 51 [pu,.agg #[.int .u8 x.op,I x.ty,I x.a,I x.b,I x.n,.slice a1 a2 a3,.slice b1 b2 b3]] h fun _ h'=>CP hB b vt vf pu po vS vR T F vK vO ks f r (out++[⟨1,We T F f r,0,if x.op=3 then x.n+1 else 0,[]⟩]) h h':=by
 obtain⟨gu,_,_,rfl,_⟩:=id M.ou;obtain⟨s1,s2,s3,rfl⟩:=zD M.oS.sl;obtain⟨r1,r2,r3,rfl⟩:=Wi.shape M.oR.sl;obtain⟨k1,k2,k3,rfl⟩:=Wi.shape M.oK.sl;refine en ?_;refine VF ?_;intro p3 h1 e1 o3;replace o3:WB h h1 p3 [.int .u8 x.op,I x.ty,I x.a,I x.b,I x.n,.slice a1 a2 a3,.slice b1 b2 b3]:=o3;have M1:=M.ext e1;by_cases h3:x.op=3;all_goals
  first|(have hn':=hn h3)|skip
  refine go ?_
  refine VC 1 rfl rfl ?_
  have oX:=M1.ou.ext (zH 1 h1)
  have oY:WB hB (inC (zB 1 h1)) (.pointer (some ⟨gu,0,none⟩)) [vt,vf,.slice s1 s2 s3,.slice r1 r2 r3,I (zy T F),.slice k1 k2 k3,I f,I r,Zt po]:=oX
  have sX:=M1.oR.sl.ext (zH 1 h1)
  have sY:WQ (inC (zB 1 h1)) (.slice r1 r2 r3) (Bw T F):=sX
  refine WJ ?_
  refine VA (ZQ oY sY C.hs hf r hr) ?_
  rintro _ _ ⟨rfl,rfl⟩
  refine WO.nil (Zd zw ?_)
  refine WJ ?_
  refine Wb.add (X:=inC (zB 1 _)) (⟨1,We T F f r,0,_,[]⟩:Wh) (fun _=>False) C M1 (Ext.refl _) (by omega) ye (fun _ h=>h.elim) ?_
  intro H bE t' ab MH kH
  refine go ?_
  refine BP ?_
  exact⟨bE,by simpa [h3]using MH,(Wd.ext e1).trans kH⟩
end
end Go.Proofs.YtmejfcakhpihlaaGreatDoor
set_option maxRecDepth 100000
namespace Go.Proofs.YtmejfcakhpihlaaGreatDoor
open Go.Am
section
variable {h hB:WA}{b:Nat}{vt vf pu po vS vR vK vO:Value}{T:List WE}{F:List Wa}{ks:List Int}{f r:Int}{out:List Wh}
theorem zNr(C:CE hB b vt vf pu po vS vR T F)(M:CM hB h b vt vf pu po vS vR T F vK vO ks f r out)(hf:0<=f/\f<(F.length:Int))(hr:0<=r/\r<=1000)(hl:out.length<=90000)(x:Wj)(a1 b1:Option Addr)(a2 a3 b2 b3:Nat)(I0:CI T F ks x)(hk:ks.length<=1000)(ho:x.op=14\/x.op=15):
  WC Tryz.prog tb 53 [pu,.agg #[.int .u8 x.op,I x.ty,I x.a,I x.b,I x.n,.slice a1 a2 a3,.slice b1 b2 b3]] h fun _ h'=>CP hB b vt vf pu po vS vR T F vK vO ks f r (out++[⟨3,We T F f r,We T F f x.a,if x.op=14 then stepL T (T.getD (ks.getD x.a.toNat 0).toNat default).elem x.n else 0,[]⟩]) h h':=by
 have ha:=I0.a14 (by omega);have nV:=I0.nV;obtain⟨gu,_,_,rfl,_⟩:=id M.ou;obtain⟨s1,s2,s3,rfl⟩:=zD M.oS.sl;obtain⟨r1,r2,r3,rfl⟩:=Wi.shape M.oR.sl;obtain⟨k1,k2,k3,rfl⟩:=Wi.shape M.oK.sl;obtain⟨t1,t2,t3,rfl⟩:=zD C.E.st;obtain⟨f1,f2,f3,rfl⟩:=zD C.E.sf;refine en ?_;refine VF ?_;intro p3 h1 e1 o3;replace o3:WB h h1 p3 [.int .u8 x.op,I x.ty,I x.a,I x.b,I x.n,.slice a1 a2 a3,.slice b1 b2 b3]:=o3;have M1:=M.ext e1;by_cases kV:x.op=14
 ·obtain⟨s,hs,Dz,gw,vU,hn⟩:=nV kV;have cH:h1.mark<=h1.n:=by rw[M1.e.mark];exact QP C.hm M1.e.n
  have Sg:=Dz.1;refine go ?_;refine VC 0 rfl rfl ?_;have oY:WB hB (inC (zB 0 h1)) (.pointer (some ⟨gu,0,none⟩)) [.slice t1 t2 t3,.slice f1 f2 f3,.slice s1 s2 s3,.slice r1 r2 r3,I (zy T F),.slice k1 k2 k3,I f,I r,Zt po]:=M1.ou;have sY:WQ (inC (zB 0 h1)) (.slice k1 k2 k3) ks:=M1.oK.sl;have uD:WB h (inC (zB 0 h1)) p3 [.int .u8 x.op,I x.ty,I x.a,I x.b,I x.n,.slice a1 a2 a3,.slice b1 b2 b3]:=o3;have oi:Wu (inC (zB 0 h1)) (.slice t1 t2 t3) T:=zJa 0 (Wu.ext C.E.st M1.e);refine WJ ?_;refine VA (zIe oY sY x.a ha) ?_;rintro _ _ ⟨rfl,rfl⟩;refine WO.nil (Zd zw ?_);obtain⟨kQ,⟨va,rfl,sa,br⟩,dR,mh⟩:=yM (i:=(ks.getD x.a.toNat 0).toNat) oi (by omega);obtain⟨tV,tW,wC,rfl⟩:=Wi.shape sa;rw[hs]at dR;generalize ks.getD x.a.toNat 0=ka at *;refine WJ ?_;refine yZ (j:=4) o3 (QE _) ?_;refine WJ ?_;refine VA (zOA _ _ T s x.n oi C.E.sm.types C.E.sm.parts ((yN (z9 C.hs).1).1) gw vU hn (QE _)) ?_;rintro _ h2 ⟨⟨e,rfl⟩,e2⟩;refine nE e2 ?_;refine WJ ?_;have L0:=(zH 0 h1).trans (zZ (h:=h1) e2);have iJ:Ext h1 (outC h1 (inC h2)):=L0;clear L0 e2;have M2:=M1.ext iJ;have L1:=o3.ext iJ;have bj:=e1.trans iJ;clear oY sY uD oi dR;generalize outC h1 (inC h2)=h3 at *;refine go ?_;refine VC 1 rfl rfl ?_;have oY:WB hB (inC (zB 1 h3)) (.pointer (some ⟨gu,0,none⟩)) [.slice t1 t2 t3,.slice f1 f2 f3,.slice s1 s2 s3,.slice r1 r2 r3,I (zy T F),.slice k1 k2 k3,I f,I r,Zt po]:=z0 1 M2.ou;have sY:WQ (inC (zB 1 h3)) (.slice r1 r2 r3) (Bw T F):=Z6 1 M2.oR.sl;have uD:WB h (inC (zB 1 h3)) p3 [.int .u8 x.op,I x.ty,I x.a,I x.b,I x.n,.slice a1 a2 a3,.slice b1 b2 b3]:=z0 1 L1;refine WJ ?_;refine VA (ZQ oY sY C.hs hf r hr) ?_;rintro _ _ ⟨rfl,rfl⟩;refine WO.nil (Zd zw ?_);refine WJ ?_;refine yZ (j:=2) L1 (by show h3.n<=h3.n+1;omega) ?_;refine WJ ?_;refine VA (ZQ oY sY C.hs hf x.a ⟨ha.1,by omega⟩) ?_;rintro _ _ ⟨rfl,rfl⟩;refine WO.nil (Zd zw ?_);refine WJ ?_;refine Wb.add (X:=inC (zB 1 _)) (⟨3,We T F f r,We T F f x.a,_,[]⟩:Wh) (fun _=>False) C M2 (Ext.refl _) (by omega) ye (fun _ h=>h.elim) ?_;intro H bE t' ab MH kH;refine go ?_;refine BP ?_;exact⟨bE,by rw[QF kV,hs];exact MH,(Wd.ext bj).trans kH⟩
 ·refine go ?_;refine VC 1 rfl rfl ?_;have oY:WB hB (inC (zB 1 h1)) (.pointer (some ⟨gu,0,none⟩)) [.slice t1 t2 t3,.slice f1 f2 f3,.slice s1 s2 s3,.slice r1 r2 r3,I (zy T F),.slice k1 k2 k3,I f,I r,Zt po]:=z0 1 (M1.ou);have sY:WQ (inC (zB 1 h1)) (.slice r1 r2 r3) (Bw T F):=Z6 1 (M1.oR.sl);have uD:WB h (inC (zB 1 h1)) p3 [.int .u8 x.op,I x.ty,I x.a,I x.b,I x.n,.slice a1 a2 a3,.slice b1 b2 b3]:=z0 1 (o3);refine WJ ?_;refine VA (ZQ oY sY C.hs hf r hr) ?_;rintro _ _ ⟨rfl,rfl⟩;refine WO.nil (Zd zw ?_);refine WJ ?_;refine yZ (j:=2) o3 (by show h1.n<=h1.n+1;omega) ?_;refine WJ ?_;refine VA (ZQ oY sY C.hs hf x.a ⟨ha.1,by omega⟩) ?_;rintro _ _ ⟨rfl,rfl⟩;refine WO.nil (Zd zw ?_);refine WJ ?_;refine Wb.add (X:=inC (zB 1 _)) (⟨3,We T F f r,We T F f x.a,_,[]⟩:Wh) (fun _=>False) C M1 (Ext.refl _) (by omega) ye (fun _ h=>h.elim) ?_;intro H bE t' ab MH kH;refine go ?_;refine BP ?_;exact⟨bE,by simpa [kV]using MH,(Wd.ext e1).trans kH⟩
theorem zNL(C:CE hB b vt vf pu po vS vR T F)(M:CM hB h b vt vf pu po vS vR T F vK vO ks f r out)(hf:0<=f/\f<(F.length:Int))(hr:0<=r/\r<=1000)(hl:out.length<=90000)(x:Wj)(a1 b1:Option Addr)(a2 a3 b2 b3:Nat)(I0:CI T F ks x)(hk:ks.length<=1000)(ho:x.op=16):
  WC Tryz.prog tb 54 [pu,.agg #[.int .u8 x.op,I x.ty,I x.a,I x.b,I x.n,.slice a1 a2 a3,.slice b1 b2 b3]] h fun _ h'=>CP hB b vt vf pu po vS vR T F vK vO ks f r (out++if W9 T x.ty then[]else[⟨4,We T F f r,We T F f x.a,0,[]⟩]) h h':=by
 have ha:=I0.a14 (by omega);have bm:=I0.ty (by omega);obtain⟨gu,_,_,rfl,_⟩:=id M.ou;obtain⟨s1,s2,s3,rfl⟩:=zD M.oS.sl;obtain⟨r1,r2,r3,rfl⟩:=Wi.shape M.oR.sl;obtain⟨k1,k2,k3,rfl⟩:=Wi.shape M.oK.sl;obtain⟨t1,t2,t3,rfl⟩:=zD C.E.st;obtain⟨f1,f2,f3,rfl⟩:=zD C.E.sf;refine en ?_;refine VF ?_;intro p3 h1 e1 o3;replace o3:WB h h1 p3 [.int .u8 x.op,I x.ty,I x.a,I x.b,I x.n,.slice a1 a2 a3,.slice b1 b2 b3]:=o3;have M1:=M.ext e1;refine go ?_;refine VA (Yk M1.ou (Wu.ext C.E.st M1.e) x.ty bm) ?_;rintro _ _ ⟨rfl,rfl⟩;cases bD:W9 T x.ty with
 |true=>
  refine go ?_;refine BP ?_;exact⟨vO,by simpa using M1,Wd.ext e1⟩
 |false=>
  refine go ?_;refine VC 1 rfl rfl ?_;have oY:WB hB (inC (zB 1 h1)) (.pointer (some ⟨gu,0,none⟩)) [.slice t1 t2 t3,.slice f1 f2 f3,.slice s1 s2 s3,.slice r1 r2 r3,I (zy T F),.slice k1 k2 k3,I f,I r,Zt po]:=z0 1 (M1.ou);have sY:WQ (inC (zB 1 h1)) (.slice r1 r2 r3) (Bw T F):=Z6 1 (M1.oR.sl);have uD:WB h (inC (zB 1 h1)) p3 [.int .u8 x.op,I x.ty,I x.a,I x.b,I x.n,.slice a1 a2 a3,.slice b1 b2 b3]:=z0 1 (o3);refine WJ ?_;refine VA (ZQ oY sY C.hs hf r hr) ?_;rintro _ _ ⟨rfl,rfl⟩;refine WO.nil (Zd zw ?_);refine WJ ?_;refine yZ (j:=2) o3 (by show h1.n<=h1.n+1;omega) ?_;refine WJ ?_;refine VA (ZQ oY sY C.hs hf x.a ⟨ha.1,by omega⟩) ?_;rintro _ _ ⟨rfl,rfl⟩;refine WO.nil (Zd zw ?_);refine WJ ?_;refine Wb.add (X:=inC (zB 1 _)) (⟨4,We T F f r,We T F f x.a,0,[]⟩:Wh) (fun _=>False) C M1 (Ext.refl _) (by omega) ye (fun _ h=>h.elim) ?_;intro H bE t' ab MH kH;refine go ?_;refine BP ?_;exact⟨bE,MH,(Wd.ext e1).trans kH⟩
end
end Go.Proofs.YtmejfcakhpihlaaGreatDoor
set_option maxRecDepth 100000
namespace Go.Proofs.YtmejfcakhpihlaaGreatDoor
open Go.Am
section
variable {h hB:WA}{b:Nat}{vt vf pu po vS vR vK vO:Value}{T:List WE}{F:List Wa}{ks:List Int}{f r:Int}{out:List Wh}
theorem zKy(C:CE hB b vt vf pu po vS vR T F)(M:CM hB h b vt vf pu po vS vR T F vK vO ks f r out)(hf:0<=f/\f<(F.length:Int))(hl:out.length<=90000)(x:Wj)(a1 b1:Option Addr)(a2 a3 b2 b3:Nat)(I0:CI T F ks x)(hk:ks.length<=1000)(ho:x.op=17):
  WC Tryz.prog tb 55 [pu,.agg #[.int .u8 x.op,I x.ty,I x.a,I x.b,I x.n,.slice a1 a2 a3,.slice b1 b2 b3]] h fun _ h'=>CP hB b vt vf pu po vS vR T F vK vO ks f r (out++if W9 T (ks.getD x.b.toNat 0)then[]else[⟨5,We T F f x.a,We T F f x.b,0,[]⟩]) h h':=by
 have ha:=I0.a14 (by omega);have hb:=I0.LZ ho;obtain⟨gu,_,_,rfl,_⟩:=id M.ou;obtain⟨s1,s2,s3,rfl⟩:=zD M.oS.sl;obtain⟨r1,r2,r3,rfl⟩:=Wi.shape M.oR.sl;obtain⟨k1,k2,k3,rfl⟩:=Wi.shape M.oK.sl;obtain⟨t1,t2,t3,rfl⟩:=zD C.E.st;obtain⟨f1,f2,f3,rfl⟩:=zD C.E.sf;refine en ?_;refine VF ?_;intro p3 h1 e1 o3;replace o3:WB h h1 p3 [.int .u8 x.op,I x.ty,I x.a,I x.b,I x.n,.slice a1 a2 a3,.slice b1 b2 b3]:=o3;have M1:=M.ext e1;refine go ?_;refine VA (zIe M1.ou M1.oK.sl x.b hb.1) ?_;rintro _ _ ⟨rfl,rfl⟩;refine go ?_;refine VA (Yk M1.ou (Wu.ext C.E.st M1.e) (ks.getD x.b.toNat 0) hb.2) ?_;rintro _ _ ⟨rfl,rfl⟩;cases bD:W9 T (ks.getD x.b.toNat 0)with
 |true=>
  refine go ?_;refine BP ?_;exact⟨vO,by simpa using M1,Wd.ext e1⟩
 |false=>
  refine go ?_;refine VC 1 rfl rfl ?_;have oY:WB hB (inC (zB 1 h1)) (.pointer (some ⟨gu,0,none⟩)) [.slice t1 t2 t3,.slice f1 f2 f3,.slice s1 s2 s3,.slice r1 r2 r3,I (zy T F),.slice k1 k2 k3,I f,I r,Zt po]:=z0 1 (M1.ou);have sY:WQ (inC (zB 1 h1)) (.slice r1 r2 r3) (Bw T F):=Z6 1 (M1.oR.sl);have uD:WB h (inC (zB 1 h1)) p3 [.int .u8 x.op,I x.ty,I x.a,I x.b,I x.n,.slice a1 a2 a3,.slice b1 b2 b3]:=z0 1 (o3);refine WJ ?_;refine VA (ZQ oY sY C.hs hf x.a ⟨ha.1,by omega⟩) ?_;rintro _ _ ⟨rfl,rfl⟩;refine WO.nil (Zd zw ?_);refine WJ ?_;refine yZ (j:=3) o3 (by show h1.n<=h1.n+1;omega) ?_;refine WJ ?_;refine VA (ZQ oY sY C.hs hf x.b ⟨hb.1.1,by omega⟩) ?_;rintro _ _ ⟨rfl,rfl⟩;refine WO.nil (Zd zw ?_);refine WJ ?_;refine Wb.add (X:=inC (zB 1 _)) (⟨5,We T F f x.a,We T F f x.b,0,[]⟩:Wh) (fun _=>False) C M1 (Ext.refl _) (by omega) ye (fun _ h=>h.elim) ?_;intro H bE t' ab MH kH;refine go ?_;refine BP ?_;exact⟨bE,MH,(Wd.ext e1).trans kH⟩
theorem zLu(C:CE hB b vt vf pu po vS vR T F)(M:CM hB h b vt vf pu po vS vR T F vK vO ks f r out)(hf:0<=f/\f<(F.length:Int))(hr:0<=r/\r<=1000)(hl:out.length<=90000)(x:Wj)(va:Value)(b1:Option Addr)(b2 b3:Nat)(sa:WQ h va x.args)(I0:CI T F ks x)(hk:ks.length<=1000)(ho:x.op=19):
  WC Tryz.prog tb 57 [pu,.agg #[.int .u8 x.op,I x.ty,I x.a,I x.b,I x.n,va,.slice b1 b2 b3]] h fun _ h'=>CP hB b vt vf pu po vS vR T F vK vO ks f r (out++[⟨6,We T F f r,We T F f x.a,0,x.args.map (We T F f)⟩]) h h':=by
 have ha:=I0.a14 (by omega);have fA:=I0.args (by omega);have jT:=I0.al;obtain⟨gu,_,_,rfl,_⟩:=id M.ou;obtain⟨s1,s2,s3,rfl⟩:=zD M.oS.sl;obtain⟨r1,r2,r3,rfl⟩:=Wi.shape M.oR.sl;obtain⟨k1,k2,k3,rfl⟩:=Wi.shape M.oK.sl;obtain⟨t1,t2,t3,rfl⟩:=zD C.E.st;obtain⟨f1,f2,f3,rfl⟩:=zD C.E.sf;obtain⟨a1,a2,a3,rfl⟩:=Wi.shape sa;refine en ?_;refine VF ?_;intro p3 h1 e1 o3;replace o3:WB h h1 p3 [.int .u8 x.op,I x.ty,I x.a,I x.b,I x.n,.slice a1 a2 a3,.slice b1 b2 b3]:=o3;have M1:=M.ext e1;refine go ?_;refine VC 1 rfl rfl ?_;have oY:WB hB (inC (zB 1 h1)) (.pointer (some ⟨gu,0,none⟩)) [.slice t1 t2 t3,.slice f1 f2 f3,.slice s1 s2 s3,.slice r1 r2 r3,I (zy T F),.slice k1 k2 k3,I f,I r,Zt po]:=z0 1 (M1.ou);have sY:WQ (inC (zB 1 h1)) (.slice r1 r2 r3) (Bw T F):=Z6 1 (M1.oR.sl);have uD:WB h (inC (zB 1 h1)) p3 [.int .u8 x.op,I x.ty,I x.a,I x.b,I x.n,.slice a1 a2 a3,.slice b1 b2 b3]:=z0 1 (o3);have lq:WQ (inC (zB 1 h1)) (.slice a1 a2 a3) x.args:=Z6 1 ((sa.ext e1));refine WJ ?_;refine VA (ZQ oY sY C.hs hf r hr) ?_;rintro _ _ ⟨rfl,rfl⟩;refine WO.nil (Zd zw ?_);refine WJ ?_;refine yZ (j:=2) o3 (by show h1.n<=h1.n+1;omega) ?_;refine WJ ?_;refine VA (ZQ oY sY C.hs hf x.a ⟨ha.1,by omega⟩) ?_;rintro _ _ ⟨rfl,rfl⟩;refine WO.nil (Zd zw ?_);refine WJ ?_;refine yZ (j:=5) o3 (by show h1.n<=h1.n+1;omega) ?_;refine WJ ?_;refine VA (zHN oY sY C.hs hf _ x.args lq (fun a ha=>by have:=fA a ha;omega) (by omega)) ?_;rintro w X ⟨oW,eX⟩;refine nE eX ?_;have Sh:=oY.ext eX;have oX:WB hB (inC X) (.pointer (some ⟨gu,0,none⟩)) [.slice t1 t2 t3,.slice f1 f2 f3,.slice s1 s2 s3,.slice r1 r2 r3,I (zy T F),.slice k1 k2 k3,I f,I r,Zt po]:=Sh;obtain⟨w1,w2,w3,rfl⟩:=Wi.shape oW.sl;refine WJ ?_;have hd:∃ Dn:Nat->Prop,Ba BU X [.int .u8 6,I (We T F f r),I (We T F f x.a),I 0,.slice w1 w2 w3] ⟨6,We T F f r,We T F f x.a,0,x.args.map (We T F f)⟩ Dn/\∀ k,Dn k->h1.n<k/\k<X.n:=by
  have qV:(x.args.map (We T F f)).length<=1000:=by rw[Qi];omega
  rcases id oW with⟨e,hz⟩|⟨g,g1,g2,e,g3⟩
  ·rw[e,hz];exact⟨fun _=>False,fun hx _ _=>⟨_,rfl,.inl ⟨rfl,rfl⟩,by simp⟩,fun _ h=>h.elim⟩
  ·have g1:h1.n+1<=g:=g1;refine⟨fun k=>k=g,fun hx h1 h2=>⟨_,rfl,?_,qV⟩,fun k hk=>by subst hk;omega⟩;exact .inr ⟨g,QI g2 h2,e,h1 g _ rfl g3⟩
 obtain⟨Dn,kF,lR⟩:=hd;refine Wb.add (⟨6,We T F f r,We T F f x.a,0,x.args.map (We T F f)⟩:Wh) Dn C M1 eX (by omega) kF lR ?_;intro H bE t' ab MH kH;refine go ?_;refine BP ?_;exact⟨bE,MH,(Wd.ext e1).trans kH⟩
theorem zPQ(C:CE hB b vt vf pu po vS vR T F)(M:CM hB h b vt vf pu po vS vR T F vK vO ks f r out)(hf:0<=f/\f<(F.length:Int))(hr:0<=r/\r<=1000)(hl:out.length<=90000)(x:Wj)(va:Value)(b1:Option Addr)(b2 b3:Nat)(sa:WQ h va x.args)(I0:CI T F ks x)(hk:ks.length<=1000)(ho:x.op=22):
  WC Tryz.prog tb 58 [pu,.agg #[.int .u8 x.op,I x.ty,I x.a,I x.b,I x.n,va,.slice b1 b2 b3]] h fun _ h'=>CP hB b vt vf pu po vS vR T F vK vO ks f r (out++if W9 T x.ty then[]else zOD T F f r x.args) h h':=by
 have bm:=I0.ty (by omega);have fA:=I0.args (by omega);have jT:=I0.al;obtain⟨gu,_,_,rfl,_⟩:=id M.ou;obtain⟨s1,s2,s3,rfl⟩:=zD M.oS.sl;obtain⟨r1,r2,r3,rfl⟩:=Wi.shape M.oR.sl;obtain⟨k1,k2,k3,rfl⟩:=Wi.shape M.oK.sl;obtain⟨t1,t2,t3,rfl⟩:=zD C.E.st;obtain⟨f1,f2,f3,rfl⟩:=zD C.E.sf;obtain⟨a1,a2,a3,rfl⟩:=Wi.shape sa;replace fA:=WK.mk fA;refine en ?_;refine VF ?_;intro p3 h1 e1 o3;replace o3:WB h h1 p3 [.int .u8 x.op,I x.ty,I x.a,I x.b,I x.n,.slice a1 a2 a3,.slice b1 b2 b3]:=o3;have M1:=M.ext e1;refine go ?_;refine VA (Yk M1.ou (Wu.ext C.E.st M1.e) x.ty bm) ?_;rintro _ _ ⟨rfl,rfl⟩;cases bD:W9 T x.ty with
 |true=>
  refine gr ?_;exact⟨vO,by simpa using M1,Wd.ext e1⟩
 |false=>
  refine go ?_;refine VA (zHN M1.ou M1.oR.sl C.hs hf _ x.args (sa.ext e1) (fun a ha=>by have:=fA.out a ha;omega) (by omega)) ?_;rintro w h2 ⟨oW,e2⟩;have M2:=M1.ext e2;obtain⟨w1,w2,w3,rfl⟩:=Wi.shape oW.sl;have qV:(x.args.map (We T F f)).length=x.args.length:=Qi ..;have gF:∀ i,i<x.args.length->(x.args.map (We T F f)).getD i 0=We T F f (x.args.getD i 0):=fun i hi=>YJ hi;have wO:∀ i,i<x.args.length->0<=We T F f (x.args.getD i 0)/\We T F f (x.args.getD i 0)<=10000:=fun i hi=>by
   have h1:=fA.out _ (zM hi);have h2:=zE7 C.hs hf;unfold We;omega
  replace gF:=WK.mk gF;replace wO:=WK.mk wO;generalize wM:x.args.map (We T F f)=us at *;have C8:WU po (.slice w1 w2 w3):=(VG oW.since' M1.oo.within).symm;have L2:WU vO (.slice w1 w2 w3):=(VG oW.since' fun g hg=>(yu M1.oO g hg).2).symm;refine go ?_;refine VD (fun i=>x.args.length-i) (fun i t h3=>zC t 15=I i/\i<=x.args.length/\∃ bE,CM hB h3 b (.slice t1 t2 t3) (.slice f1 f2 f3) (.pointer (some ⟨gu,0,none⟩)) po (.slice s1 s2 s3) (.slice r1 r2 r3) T F (.slice k1 k2 k3) bE ks f r (out++(List.range i).flatMap fun(i:Nat)=>[⟨2,We T F f r,We T F f (x.args.getD i 0),0,[]⟩])/\Wd po vO h2 h3 bE/\WQ h3 (.slice w1 w2 w3) us) 0 ?_ ?_
  ·exact⟨WH,QK _,vO,by simpa using M2,Wd.refl ..,oW.sl⟩
  rintro i t h3 ab ⟨Ag,hi,bE,M3,DJ,sw⟩;have LV:=Y1 oW DJ C8 L2;refine go ?_;refine VE (fun hc=> ?_) (fun hc=> ?_)<;>simp only[DB]at hc
  ·have ae:i<x.args.length:=by omega
   have hg:=gF.out i ae;have Si:=wO.out i ae;refine go ?_;refine VC 1 rfl rfl ?_;have oY:WB hB (inC (zB 1 h3)) (.pointer (some ⟨gu,0,none⟩)) [.slice t1 t2 t3,.slice f1 f2 f3,.slice s1 s2 s3,.slice r1 r2 r3,I (zy T F),.slice k1 k2 k3,I f,I r,Zt po]:=z0 1 (M3.ou);have sY:WQ (inC (zB 1 h3)) (.slice r1 r2 r3) (Bw T F):=Z6 1 (M3.oR.sl);refine WJ ?_;refine VA (ZQ oY sY C.hs hf r hr) ?_;rintro _ _ ⟨rfl,rfl⟩;refine WO.nil (Zd zw ?_);refine WJ ?_;rw[hg];refine Wb.add (X:=inC (zB 1 _)) (⟨2,We T F f r,We T F f (x.args.getD i 0),0,[]⟩:Wh) (fun _=>False) C M3 (Ext.refl _) (by have:=Yh (fun(i:Nat)=>[(⟨2,We T F f r,We T F f (x.args.getD i 0),0,[]⟩:Wh)]) (fun _=>QE _) i;rw[QM];omega) ye (fun _ h=>h.elim) ?_;intro H iG t' ab MH kH;refine go ?_;refine zA (i+1) (by omega) ⟨Wn,by omega,iG,?_,DJ.trans kH,?_⟩
   ·rw[ZI,<-QT];exact MH
   ·exact(Y1 oW (DJ.trans kH) C8 L2).sl
  ·have aK:i=x.args.length:=by omega
   subst aK;refine go ?_;refine BP ?_;exact⟨bE,M3,(Wd.ext (e1.trans e2)).trans DJ⟩
end
end Go.Proofs.YtmejfcakhpihlaaGreatDoor
set_option maxRecDepth 100000
namespace Go.Proofs.YtmejfcakhpihlaaGreatDoor
open Go.Am
section
variable {P:Program}{tab:Wy}{t:WG Value}{h:WA}{ds:List Deferred}{rd:Option Nat}{l:List WF}{Q:WR->WA->Prop}
theorem Vq{c d:Nat}{cs zero:List Value}{w:Value}{x:Operand}(k:∀ h',Ext h h'->h'.get h.n=some (.row cs true 0)->h.n<h'.n->WO P tab l ⟨t.set d (.slice (some ⟨h.n,0,none⟩) 1 c),ds,rd⟩ h' Q)(hx:WM t x w:=by exact zi)(hw:w.cells=cs.toArray:=by rfl)(hc:cs.length=c:=by rfl)(hz:zero.length=c:=by rfl):
  WO P tab (⟨some d,none,.buildSlice 1 c zero [(0,c,x)]⟩::l) ⟨t,ds,rd⟩ h Q:=by
 have hx:ev t x=w:=hx;exact WO.op (.slice (some ⟨h.n,0,none⟩) 1 c) (h.push (.row cs true 0)) rfl (by
  simp only[WN,zu,Qm,GP,hx,Zz hw hc hz,QJ];rfl) (k _ (Z1 _ _) (zX _ _) (Q4 _))
end
theorem zM4{T:List WE}:∀ (n k:Nat),k<n->(∀ j,j<=k->ZM T j)->∀ x∈yG T k,0<=x/\x<=(k:Int):=by
 intro n;induction n with
 |zero=>intro k h;omega
 |succ n ih=>
  intro k hk hM x hx;have hm:=hM k (QE _);rw[zAR hM]at hx;split at hx
  ·rename_i h4;have hp:=(zFO hm h4).2;obtain⟨l,hl,hx⟩:=List.mem_flatten.1 hx;obtain⟨p,dv,rfl⟩:=Qw.1 hl;have:=hp p dv;have:=ih p.toNat (by omega) (fun j hj=>hM j (by omega)) x hx;omega
  ·split at hx
   ·rename_i h4 h5;have hp:=zIQ hm h5;have:=ih (T.getD k default).elem.toNat (by omega) (fun j hj=>hM j (by omega)) x hx;omega
   ·rw[QZ]at hx;subst hx;omega
section
variable {h hB:WA}{b:Nat}{vt vf pu po vS vR vK vO:Value}{T:List WE}{F:List Wa}{ks:List Int}{f r:Int}{out:List Wh}
theorem zNQ(C:CE hB b vt vf pu po vS vR T F)(M:CM hB h b vt vf pu po vS vR T F vK vO ks f r out)(hf:0<=f/\f<(F.length:Int))(hr:0<=r/\r<=1000)(hl:out.length<=90000):
  WC Tryz.prog tb 52 [pu] h fun _ h'=>CP hB b vt vf pu po vS vR T F vK vO ks f r (out++zD3 T F f r (YV T f r (zR T F) 0 [])) h h':=by
 have hp:=(z9 C.hs).1;obtain⟨hc,lN,ig,hfn⟩:=yN hp;have ag:=zBP hc;have bm:=zBt C.hs;have eg:=zBH C.hs;have hA:=(zE7 C.hs hf).2.2.2.2;have cG:∀ k:Int,0<=k->k<(T.length:Int)->(yG T k.toNat).length<=32/\∀ x∈yG T k.toNat,0<=x/\x<(T.length:Int):=fun k k0 k1=>by
  have h1:=fun j (hj:j<=k.toNat)=>(ag j (by omega)).1;refine⟨QP (zAa (k.toNat+1) k.toNat (Q4 _) h1) (ag k.toNat (by omega)).2,fun x hx=> ?_⟩;have:=zM4 (k.toNat+1) k.toNat (Q4 _) h1 x hx;omega
 obtain⟨gu,_,_,rfl,_⟩:=id M.ou;have sS:=M.oS.sl;obtain⟨s1,s2,s3,rfl⟩:=zD sS;obtain⟨r1,r2,r3,rfl⟩:=Wi.shape M.oR.sl;obtain⟨k1,k2,k3,rfl⟩:=Wi.shape M.oK.sl;obtain⟨t1,t2,t3,rfl⟩:=zD C.E.st;obtain⟨f1,f2,f3,rfl⟩:=zD (Wo.ext C.E.sf M.e);have DE:=Wo.ext C.E.sf M.e;have o0:=M.ou;replace ag:=WK.mk ag;replace bm:=WK.mk bm;replace cG:=WK.mk cG;replace hfn:=WK.mk hfn;generalize hq:YV T f r (zR T F) 0 []=q;refine en ?_;refine WX.cutX (fun t h'=>Ext h h'/\zC t 3=I q.1/\(0<=q.1/\q.1<=40000)/\(∀ x∈q.2,0<=x/\x<(T.length:Int))/\q.2.length<=40/\∃ v,zC t 4=v/\WL h h' v q.2) ?_ ?_
 ·refine VD (fun i=>(zR T F).length-i) (fun i t h1=>zC t 21=I i/\i<=(zR T F).length/\Ext h h1/\∃ a v l,zC t 3=I a/\zC t 4=v/\WL h h1 v l/\YV T f r ((zR T F).drop i) a l=q/\0<=a/\a+l.length<=32*i/\l.length<=32/\∀ x∈l,0<=x/\x<(T.length:Int)) 0 ?_ ?_
  ·exact⟨WH,QK _,Ext.refl _,0,_,[],WH,WH,.inl ⟨rfl,rfl⟩,by simpa using hq,by omega,by simp,by simp,fun x hx=>by cases hx⟩
  rintro i t h1 ab ⟨s21,hi,e1,a,v,l,KS,sl4,ov,m8,a0,a1,ll,Sj⟩;have o1:=M.ou.ext e1;have LY:=SlS.ext sS e1;have L3:=ov.sl;obtain⟨v1,v2,v3,rfl⟩:=Wi.shape L3;refine go ?_;refine VE (fun hb=> ?_) (fun hb=> ?_)<;>simp only[DB]at hb
  ·have ae:i<(zR T F).length:=by omega
   obtain⟨cs,bP,pc,IN⟩:=zq (i:=i) LY ae;have uE:=bm.out _ (zE ae);have CF:(zR T F).drop i=(zR T F).getD i default::(zR T F).drop (i+1):=by
    rw[GU ae];simp[List.getD,QB ae]
   rw[CF]at m8;clear CF;generalize(zR T F).getD i default=s at *;have bP:cs=[I s.fn,I s.nr,I s.ty]:=bP;subst bP;have lF:=cG.out s.ty uE.1 uE.2;unfold YV at m8;refine go ?_;refine WO.al ?_;intro p6 h2 e2 o6;refine go ?_;refine VH o6 e2 ?_;intro h3 e3 o6 _;have dk:=e1.trans e3;have o3:=M.ou.ext dk;have Sk:=L3.ext e3;refine go ?_;refine VC 0 rfl rfl ?_;have oY:WB hB (inC (zB 0 h3)) (.pointer (some ⟨gu,0,none⟩)) [.slice t1 t2 t3,.slice f1 f2 f3,.slice s1 s2 s3,.slice r1 r2 r3,I (zy T F),.slice k1 k2 k3,I f,I r,Zt po]:=o3;have qq:WB h1 (inC (zB 0 h3)) p6 [I s.fn,I s.nr,I s.ty]:=o6;have oi:Wu (inC (zB 0 h3)) (.slice t1 t2 t3) T:=zJa 0 (Wu.ext C.E.st (M.e.trans dk));refine WJ ?_;refine VA (zFt _ _ T s.ty oi C.E.sm.types C.E.sm.parts hc uE (QE _)) ?_;rintro _ X ⟨⟨w,rfl,oW⟩,eX⟩;obtain⟨w1,w2,w3,rfl⟩:=Wi.shape oW.sl;refine nE eX ?_;refine WJ ?_;have L4:=(zH 0 h3).trans (zZ (h:=h3) eX);have L5:Ext h3 (outC h3 (inC X)):=L4;clear L4;have Cf:WL h (outC h3 (inC X)) (.slice w1 w2 w3) (yG T s.ty.toNat):=by
    rcases oW with⟨e,z⟩|⟨g,g1,g2,g3,g4⟩
    ·exact .inl ⟨e,z⟩
    ·have g1:h3.n+0<=g:=g1;have:=dk.n;exact .inr ⟨g,by omega,g2,g3,g4⟩
   have L6:WB h1 (outC h3 (inC X)) p6 [I s.fn,I s.nr,I s.ty]:=o6.ext L5;have er:=dk.trans L5;generalize outC h3 (inC X)=h4 at *;have o4:=M.ou.ext er;by_cases c1:s.fn=f
   ·by_cases c2:s.nr=r
    ·rw[QF ⟨c1,c2⟩]at m8;subst m8;refine go ?_;refine zF2 ?_;exact⟨er,WH,by simp only;omega,lF.2,by simp only;omega,_,WH,Cf⟩
    ·rw[QC (fun e=>c2 e.2)]at m8;refine go ?_;exact zA (i+1) (by omega) ⟨Wn,by omega,er,_,_,_,WH,WH,Cf,m8,by omega,by omega,lF.1,lF.2⟩
   ·rw[QC (fun e=>c1 e.1)]at m8;refine go ?_;exact zA (i+1) (by omega) ⟨Wn,by omega,er,_,_,_,WH,WH,Cf,m8,by omega,by omega,lF.1,lF.2⟩
  ·have aK:i=(zR T F).length:=by omega
   subst aK;rw[List.drop_length]at m8;unfold YV at m8;subst m8;refine go ?_;refine zF2 ?_;exact⟨e1,WH,by simp only;omega,Sj,by simp only;omega,_,WH,ov⟩
 intro t' h1 ab ⟨e1,q3,q0,IV,ql,v,q4,ov⟩;obtain⟨v1,v2,v3,rfl⟩:=Wi.shape ov.sl;have M1:=M.ext e1;clear hq;obtain⟨qa,qu⟩:=q;simp only at *;have vI:WU po (.slice v1 v2 v3):=(VG ov.since' M.oo.within).symm;have lE:WU vO (.slice v1 v2 v3):=(VG ov.since' fun g hg=>(yu M.oO g hg).2).symm;refine go ?_;refine VC 1 rfl rfl ?_;have oY:WB hB (inC (zB 1 h1)) (.pointer (some ⟨gu,0,none⟩)) [.slice t1 t2 t3,.slice f1 f2 f3,.slice s1 s2 s3,.slice r1 r2 r3,I (zy T F),.slice k1 k2 k3,I f,I r,Zt po]:=z0 1 (M1.ou);have sY:WQ (inC (zB 1 h1)) (.slice r1 r2 r3) (Bw T F):=Z6 1 (M1.oR.sl);refine WJ ?_;refine VA (ZQ oY sY C.hs hf r hr) ?_;rintro _ _ ⟨rfl,rfl⟩;refine WO.nil (Zd zw ?_);refine WJ ?_;refine Wb.add (X:=inC (zB 1 _)) (⟨1,We T F f r,0,1+F.length+qa,[]⟩:Wh) (fun _=>False) C M1 (Ext.refl _) (by omega) ye (fun _ h=>h.elim) ?_;intro h2 iG t2' aZ M2 IW;have Sl:=Y1 ov IW vI lE;have Sm:WU iG (.slice v1 v2 v3):=fun g h1 h2=>by
  rcases IW.2.2 g h1 with h|h
  ·exact lE g h h2
  ·have:=ov.within g h2;omega
 replace IV:=WK.mk IV;refine go ?_;refine VD (fun i=>qu.length-i) (fun i t h3=>zC t 76=I i/\i<=qu.length/\∃ bE,CM hB h3 b (.slice t1 t2 t3) (.slice f1 f2 f3) (.pointer (some ⟨gu,0,none⟩)) po (.slice s1 s2 s3) (.slice r1 r2 r3) T F (.slice k1 k2 k3) bE ks f r (out++[⟨1,We T F f r,0,1+F.length+qa,[]⟩]++(List.range i).flatMap fun(i:Nat)=>if W9 T (qu.getD i 0)then[]else[⟨1,zy T F+F.length+qa+i,0,0,[]⟩])/\Wd po iG h2 h3 bE) 0 ?_ ?_
 ·exact⟨WH,QK _,iG,by simpa using M2,Wd.refl ..⟩
 rintro i t h3 cN ⟨s76,hi,bE,M3,jm⟩;have ov3:=(Y1 Sl jm vI Sm).sl;refine go ?_;refine VE (fun hb=> ?_) (fun hb=> ?_)<;>simp only[DB]at hb
 ·have ae:i<qu.length:=by omega
  have hx:=IV.out _ (zM ae);have o3:=M3.ou;refine go ?_;refine VA (Yk M3.ou (Wu.ext C.E.st M3.e) (qu.getD i 0) hx) ?_;rintro _ _ ⟨rfl,rfl⟩;have bp:=ZI (fun(i:Nat)=>if W9 T (qu.getD i 0)then[]else[(⟨1,zy T F+F.length+qa+i,0,0,[]⟩:Wh)]) i;cases bD:W9 T (qu.getD i 0)with
  |true=>
   rw[bD]at bp;refine go ?_;refine zA (i+1) (by omega) ⟨Wn,by omega,bE,?_,jm⟩;rw[bp];simpa using M3
  |false=>
   rw[bD]at bp;refine go ?_;refine Vq (cs:=[.int .u8 1,I (zy T F+F.length+qa+i),I 0,I 0,.slice none 0 0]) ?_;intro h4 e4 g4 n4;have M4:=M3.ext e4;have o4:=M4.ou;refine go ?_;have aD:=WV.func (args:=[.slice (some ⟨h3.n,0,none⟩) 1 5]) (first:=#[]) (cap:=#[po]) (zKe hB h4 b h3.n po bE _ ⟨1,zy T F+F.length+qa+i,0,0,[]⟩ _ (fun _=>False) M4.e C.bn M4.hb M4.oo C.bo M4.oO (by have:=Yh (fun(i:Nat)=>if W9 T (qu.getD i 0)then[]else[(⟨1,zy T F+F.length+qa+i,0,0,[]⟩:Wh)]) (fun _=>zAS _ _) i;simp only[QM,QV];omega) ye (fun _ h=>h.elim) (fun _ _ _ _ h=>h) rfl rfl g4 n4);refine VQ (fv:=Zt po) aD ?_;rintro _ h5 ⟨Sn,e5,So,Cg,L7,_⟩;have M5:=M4.add C L7 e5 So Cg;refine go ?_;refine zA (i+1) (by omega) ⟨Wn,by omega,Sn,?_,jm.trans ((Wd.ext e4).trans L7)⟩;rw[bp,<-QT];exact M5
 ·have aK:i=qu.length:=by omega
  subst aK;refine go ?_;refine BP ?_;refine⟨bE,?_,(Wd.ext e1).trans (IW.trans jm)⟩;unfold zD3 zKI;simpa using M3
end
end Go.Proofs.YtmejfcakhpihlaaGreatDoor
