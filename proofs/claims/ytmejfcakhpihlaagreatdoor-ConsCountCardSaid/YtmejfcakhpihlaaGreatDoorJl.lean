/- What functions of the program come to in the abstract machine, and plain laws about it; no statement of the seat is proved in this text. -/
import Derived.Test.YtmejfcakhpihlaaGreatDoorJk
import Derived.Test.YtmejfcakhpihlaaGreatDoorJk
import Derived.Test.YtmejfcakhpihlaaGreatDoorJj
set_option linter.unusedVariables false
set_option linter.unusedSimpArgs false
set_option maxHeartbeats 2000000
namespace Go.Proofs.YtmejfcakhpihlaaGreatDoor
noncomputable section
open Go.Am
structure WU where
 kind:Int
 to:Int
 frm:Int
 n:Int
 args:List Int
instance:Inhabited WU:=⟨⟨0,0,0,0,[]⟩⟩
def RCn (h:Uz)(cs:List Value)(x:WU):Prop:=∃ va,cs=[.int .u8 x.kind,I x.to,I x.frm,I x.n,va]/\WJ h va x.args/\x.args.length<=1000
theorem RCn.ext {h h' cs x}(r:RCn h cs x)(e:U5 h h'):RCn h' cs x:=let ⟨va,a,b,c⟩:=r;⟨va,a,b.ext e,c⟩
abbrev SlO (h:Uz)(v:Value)(l:List WU):Prop:=Wx 5 RCn h v l
theorem SlO.ext {h h' v l}(s:SlO h v l)(e:U5 h h'):SlO h' v l:=Wx.ext (fun _ _ r=>RCn.ext r e) s e
def BD (T:List U2)(t:Int):Bool:=decide ((T.getD t.toNat default).kind=1)
def YP (T:List U2)(F:List WP)(f:Int):List Int:=(yE T F f).parts++(zM F f).flatMap fun b=>b.ins.map fun x=>x.ty
def Y9 (T:List U2)(f r:Int):List Wu->Int->List Int->Int×List Int
 |[],a,l=>(a,l)
 |s::S,a,l=>if s.fn=f/\s.nr=r then (a+l.length,yX T s.ty.toNat) else Y9 T f r S (a+l.length) (yX T s.ty.toNat)
section
variable (T:List U2)(F:List WP)(f:Int)(ks:List Int)(r:Int)
def We (q:Int):Int:=((yd T F).take f.toNat).sum+q
def zKC (b:Int)(l:List Int):List WU:=(List.range l.length).flatMap fun (i:Nat)=>if BD T (l.getD i 0) then [] else [⟨1,b+i,0,0,[]⟩]
def zFY (g:Int)(ps us:List Int):List WU:=(List.range ps.length).flatMap fun (i:Nat)=>if BD T (ps.getD i 0) then [] else [⟨2,We T F g i,We T F f (us.getD i 0),0,[]⟩]
def zM0 (us:List Int):List WU:=(List.range us.length).flatMap fun (i:Nat)=>[⟨2,We T F f r,We T F f (us.getD i 0),0,[]⟩]
def zGE (q:Int×List Int):List WU:=⟨1,We T F f r,0,1+F.length+q.1,[]⟩::zKC T (yC T F+F.length+q.1) q.2
def Zx (x:WY):List WU:=
 if x.op=2\/x.op=3 then [⟨1,We T F f r,0,if x.op=3 then x.n+1 else 0,[]⟩]
 else if x.op=11\/x.op=12 then zGE T F f r (Y9 T f r (yj T F) 0 [])
 else if x.op=14\/x.op=15 then [⟨3,We T F f r,We T F f x.a,if x.op=14 then stepL T (T.getD (ks.getD x.a.toNat 0).toNat default).elem x.n else 0,[]⟩]
 else if x.op=16 then (if BD T x.ty then [] else [⟨4,We T F f r,We T F f x.a,0,[]⟩])
 else if x.op=17 then (if BD T (ks.getD x.b.toNat 0) then [] else [⟨5,We T F f x.a,We T F f x.b,0,[]⟩])
 else if x.op=18 then zFY T F f x.n (yE T F x.n).parts x.args++(if BD T x.ty then [] else [⟨2,We T F f r,yC T F+x.n,0,[]⟩])
 else if x.op=19 then [⟨6,We T F f r,We T F f x.a,0,x.args.map (We T F f)⟩]
 else if x.op=22 then (if BD T x.ty then [] else zM0 T F f r x.args)
 else []
end
def zID (T:List U2)(F:List WP)(f:Int)(B:WQ):List WU:=
 if B.fin.kind=3 then (if BD T (yE T F f).elem then [] else [⟨2,yC T F+f,We T F f B.fin.a,0,[]⟩]) else []
def zF8 (T:List U2)(F:List WP)(f r:Int)(l:List WY):List WU:=(List.range l.length).flatMap fun (i:Nat)=>Zx T F f (YP T F f) (r+i) (l.getD i default)
def consB (T:List U2)(F:List WP)(f:Int)(L:List WQ)(n:Nat):List WU:=(List.range n).flatMap fun (b:Nat)=>zF8 T F f ((yE T F f).parts.length+zI (L.take b)) (L.getD b default).ins++zID T F f (L.getD b default)
def zAW (T:List U2)(F:List WP)(n:Nat):List WU:=(List.range n).flatMap fun (f:Nat)=>consB T F f (zM F f) (zM F f).length
def yZ (T:List U2)(F:List WP):List WU:=if yS T F=0 then zAW T F F.length else []
theorem YC {α:Type}(g:Nat->List α)(n:Nat):(List.range (n+1)).flatMap g=(List.range n).flatMap g++g n:=by
 rw[Gp,List.flatMap_append];simp
structure CI (T:List U2)(F:List WP)(ks:List Int)(x:WY):Prop where
 op:0<=x.op/\x.op<=22
 n3:x.op=3->0<=x.n/\x.n<(F.length:Int)
 a14:x.op=14\/x.op=15\/x.op=16\/x.op=17\/x.op=19->0<=x.a/\x.a<(ks.length:Int)
 k14:x.op=14->∃ s,(T.getD (ks.getD x.a.toNat 0).toNat default).elem=s/\(0<=ks.getD x.a.toNat 0/\ks.getD x.a.toNat 0<(T.length:Int))/\(0<=s/\s<(T.length:Int))/\(T.getD s.toNat default).kind=4/\0<=x.n/\x.n<((T.getD s.toNat default).parts.length:Int)
 ty:x.op=16\/x.op=18\/x.op=22->0<=x.ty/\x.ty<(T.length:Int)
 b17:x.op=17->(0<=x.b/\x.b<(ks.length:Int))/\0<=ks.getD x.b.toNat 0/\ks.getD x.b.toNat 0<(T.length:Int)
 c18:x.op=18->(0<=x.n/\x.n<(F.length:Int))/\(yE T F x.n).parts.length=x.args.length/\(0<=(F.getD x.n.toNat default).sig/\(F.getD x.n.toNat default).sig<(T.length:Int))/\∀ t∈(yE T F x.n).parts,0<=t/\t<(T.length:Int)
 args:x.op=18\/x.op=19\/x.op=22->∀ a∈x.args,0<=a/\a<(ks.length:Int)
 al:x.args.length<=20
theorem zUx:(zY 14).1=true/\(zY 15).1=true/\(zY 16).1=true/\(zY 17).1=true/\(zY 19).1=true/\(zY 17).2.1=true/\(zY 18).2.2.2.1=true/\(zY 19).2.2.2.1=true/\(zY 22).2.2.2.1=true/\(zY 14).2.1=false/\(zY 14).2.2.2.1=false/\(zY 18).1=false/\(zY 18).2.1=false/\(zY 19).2.1=false/\(zY 22).1=false/\(zY 22).2.1=false:=by decide
theorem zUG {T:List U2}{F:List WP}{f:Int}{i:Nat}(h:(Bo T F f).getD i 0≠ -1):(YP T F f).getD i 0=(Bo T F f).getD i 0/\(YP T F f).length=(Bo T F f).length:=by
 have key:∀ (L:List WQ),(L.flatMap fun b=>b.ins.map fun x=>x.ty).length=(ZO L).length/\∀ j,(ZO L).getD j 0≠ -1->(L.flatMap fun b=>b.ins.map fun x=>x.ty).getD j 0=(ZO L).getD j 0:=by
  intro L;have h1:ZO L=(L.flatMap fun b=>b.ins).map zA4:=by unfold ZO;rw[List.map_flatMap]
  have h2:(L.flatMap fun b=>b.ins.map fun x=>x.ty)=(L.flatMap fun b=>b.ins).map fun x=>x.ty:=by rw[List.map_flatMap]
  rw[h1,h2];refine⟨by simp,fun j hj=> ?_⟩;generalize (L.flatMap fun b=>b.ins)=l at *;simp only[QL,GS]at *;cases hx:l[j]? with
  |none=>rfl
  |some x=>
   rw[hx]at hj;simp only[QK,GC]at *;unfold zA4 at *;split
   ·rfl
   ·rename_i q;rw[QB q]at hj;exact absurd rfl hj
 unfold Bo zC9 at h |-;unfold YP;refine⟨?_,by rw[QM,QM,(key _).1]⟩;by_cases q:i<(yE T F f).parts.length
 ·rw[zF7 q,zF7 q]
 ·rw[zC8 (by omega)]at h;rw[zC8 (by omega),zC8 (by omega)];exact(key (zM F f)).2 _ h
theorem zKU (T:List U2)(F:List WP)(f:Int):(YP T F f).length=(Bo T F f).length:=by
 unfold YP Bo zC9 ZO;simp
theorem zSf {T:List U2}{F:List WP}(hs:yS T F=0){f:Nat}(hf:f<F.length){b:Nat}(hb:b<(zM F f).length){i:Nat}(hi:i<((zM F f).getD b default).ins.length):
  CI T F (YP T F f) (((zM F f).getD b default).ins.getD i default):=by
 obtain⟨hp,hw⟩:=yV hs;have Z:=zDf hp (f:=(f:Int)) (by omega);have W:=(hw f (by omega) (by omega)).2.2 b (by omega) (by omega);have h1:=W.1 i (by rw[QU];exact hi);have hBm:(zM F f).getD b default∈zM F f:=zK hb;have hV:=Z.V _ hBm _ (zK hi);have hU:=(Z.U _ hBm).ins _ (zK hi);have hc:=Z.hc;have hraw:= @zUG T F f;have hlen:=zKU T F f;have hks:=Z.ks;unfold YI zHA at h1;rw[QU]at h1;obtain⟨g1,g2,-,-⟩:=h1;generalize ((zM F f).getD b default).ins.getD i default=x at *;have hnone:∀ r∈yQ x,(Bo T F f).getD r.toNat 0≠ -1:=fun r hr e=>g1 (Q6.2 ⟨r,hr,e⟩);have hus:∀ r∈yQ x,(0<=r/\r<((YP T F f).length:Int))/\(YP T F f).getD r.toNat 0=(Bo T F f).getD r.toNat 0/\0<=(YP T F f).getD r.toNat 0/\(YP T F f).getD r.toNat 0<(T.length:Int):=fun r hr=>by
  have h1:=hU.uses r hr;have h2:=hraw (hnone r hr);have h3:=hks _ (zq (l:=Bo T F f) (i:=r.toNat) (by omega));refine⟨by omega,h2.1,?_⟩;rw[h2.1];exact h3.resolve_left (hnone r hr)
 obtain⟨u14,u15,u16,u17,u19,v17,w18,w19,w22,z14,z14',z18,z18',z19,z22,z22'⟩:=zUx;have ha:x.op=14\/x.op=15\/x.op=16\/x.op=17\/x.op=19->x.a∈yQ x:=fun h=>by
  unfold yQ;have:(zY x.op).1=true:=by rcases h with e|e|e|e|e<;>rw[e]<;>assumption
  rw[QJ this];simp
 have hbb:x.op=17->x.b∈yQ x:=fun e=>by
  unfold yQ;rw[e,QJ v17];simp
 have har:x.op=18\/x.op=19\/x.op=22->∀ a∈x.args,a∈yQ x:=fun h a hm=>by
  unfold yQ;have:(zY x.op).2.2.2.1=true:=by rcases h with e|e|e<;>rw[e]<;>assumption
  rw[QJ this];simp[hm]
 refine⟨⟨by have:=hU.op;omega,hU.op.2⟩,fun e=>hV.n2 (.inl e),fun e=>(hus _ (ha e)).1,fun e=> ?_,fun e=> ?_,fun e=>⟨(hus _ (hbb e)).1,(hus _ (hbb e)).2.2⟩,fun e=> ?_,fun e a hm=>(hus _ (har e a hm)).1,hU.args⟩
 ·have hx:=hus _ (ha (.inl e));have hu:yQ x=[x.a]:=by unfold yQ;rw[e,QJ u14,z14,z14'];rfl
  rw[hu]at g2;unfold zBH zL4 at g2;simp only[e,YG,Qm,Ga]at g2;simp at g2;(try simp only[<-QL]at g2);obtain⟨g3,g4⟩:=g2;rw[<-hx.2.1]at g3 g4;have hin:BE T ((YP T F f).getD x.a.toNat 0):= .inr hx.2.2;have h5:=zEm hc hin;have h6:=zIo g3;refine⟨_,rfl,hx.2.2,?_⟩;have h7:BJ T ((YP T F f).getD x.a.toNat 0)=(T.getD ((YP T F f).getD x.a.toNat 0).toNat default).elem:=by
   unfold BJ at h6 |-;split
   ·rfl
   ·rename_i q;rw[QB q]at h6;exact absurd rfl h6
  unfold zHr Yw at g4;rw[h7]at g3 g4 h5 h6;refine⟨h5.resolve_left h6,?_,hV.n14 e,?_⟩
  ·unfold Wt at g3;simp only[QF,QX]at g3;exact g3.2
  ·have hk5:Wt T 5 (T.getD ((YP T F f).getD x.a.toNat 0).toNat default).elem=false:=by
    unfold Wt at g3 |-;simp only[QF,QX]at g3;rw[g3.2];simp
   rw[QB h6,g3,hk5]at g4;refine Gh fun hn=> ?_;rw[Qb hn]at g4;simp at g4
 ·have hin:=hV.ty;refine hin.resolve_left fun e1=> ?_;unfold zBH zL4 at g2;rcases e with e|e|e
  ·simp[e]at g2;(try simp only[<-QL]at g2);have h1:=g2.1;rw[<-g2.2,e1]at h1;unfold zE3 Wt at h1;simp at h1
  ·simp[e]at g2;have hn:=hV.n2 (.inr e);have Zn:=zDf hp (f:=x.n) hn;unfold zGD sigF at g2;simp only[QF,QX]at g2;(try simp only[<-QL]at g2);have h2:=Zn.el;unfold yE PlT at h2;rw[g2.2]at h2;omega
  ·simp[e]at g2;rw[e1]at g2;unfold zE3 Wt at g2;simp at g2
 ·have hn:=hV.n2 (.inr e);have Zn:=zDf hp (f:=x.n) hn;have hu:yQ x=x.args:=by unfold yQ;rw[e,z18,z18',w18];simp
  rw[hu]at g2;unfold zBH zGD sigF at g2;simp[e]at g2;(try simp only[<-QL]at g2);refine⟨hn,?_,Zn.sig,fun t ht=> ?_⟩
  ·unfold yE;rw[g2.1.2];unfold YG;simp
  ·have:=Zn.par t ht;unfold PlT at this;omega
set_option maxRecDepth 100000
section
variable {P:Program}{tab:Wd}{t:U4 Value}{h:Uz}{ds:List Deferred}{rd:Option Nat}{l:List U1}{Q:WA->Uz->Prop}
theorem Uk {α:Type}{c b d2 gl:Nat}{R:Uz->List Value->α->Prop}{hB:Uz}{v:Value}{xs:List α}{cs:List Value}(a:α)(Dn:Nat->Prop){x y:Operand}(o:WR c R b h v xs)(e0:U5 hB h)(hb:hB.n<=b)(hbn:b<=h.n)(hc0:0<c)(hl:xs.length<=100000)
  (d:Bl R h cs a Dn) (hD:∀ k,Dn k->b<=k/\k<h.n) (hv:∀ g n k,v= .slice (some ⟨g,0,none⟩) n k->¬Dn g) (hc:cs.length=c) (h1:zJ cs=true) (hg:h.get gl=some (.row cs true 0)) (hgl:gl<h.n)
  (k:∀ v' h',U5 hB h'->WR c R b h' v' (xs++[a])->h.n<=h'.n->(∀ k,k<h.n->(∀ n k',v≠ .slice (some ⟨k,0,none⟩) n k')->h'.get k=h.get k)->(∀ k∈h'.wr,k∈h.wr\/b<=k)->zBA h v'->WO P tab l ⟨t.set d2 v',ds,rd⟩ h' Q)
  (hx:WE t x v:=by exact zk) (hy:WE t y (.slice (some ⟨gl,0,none⟩) 1 c):=by exact zk):
  WO P tab (⟨some d2,none,.append c x y⟩::l) ⟨t,ds,rd⟩ h Q:=by
 have hx:ev t x=v:=hx;have hy:ev t y= .slice (some ⟨gl,0,none⟩) 1 c:=hy;obtain⟨v',H',q1,q2,q3,q4,q5,q6,q7,q8,n',k',g',q9,q10⟩:=Yx (H:=h) (gl:=gl) o hc hc0 h1 hl hbn d hD hv (QE _) hgl (fun _ _=>rfl) hg;refine WO.op v' H' rfl (by simp only[U9,hx,hy,q1]) (k v' H' ?_ q2 (by rw[q3];exact GU _) q4 q6 fun j hj=>by subst q9;cases hj;exact q10);have hvb:∀ k,k<hB.n->∀ n k',v≠ .slice (some ⟨k,0,none⟩) n k':=fun k hk n k' e=>by
  rcases o with ⟨e2,_⟩|⟨g,_,_,g1,_,e2,_⟩
  ·rw[e2]at e;cases e
  ·rw[e2]at e;cases e;omega
 have hn:=e0.n;exact⟨by rw[q3];omega,fun k hk=>by rw[q4 k (by omega) (hvb k hk)];exact e0.get k hk,fun w=>q8 (e0.wf w),q5.trans e0.mark,fun hm=>by rw[q7 (by rw[e0.mark];omega)];exact e0.wr hm⟩
end
theorem ZB {α:Type}{c b:Nat}{R:Uz->List Value->α->Prop}{h:Uz}{v:Value}{xs:List α}(o:WR c R b h v xs):∀ g,Be v=some g->b<=g/\g<h.n:=fun g hg=>by
 rcases o with ⟨rfl,_⟩|⟨g,_,_,g1,g2,rfl,_⟩
 ·cases hg
 ·cases hg;exact⟨g1,g2⟩
def zTX:U0:=(oR [oL 3 1,oM 4 0,oY 5 5 3 4,oS 1 1 5])
theorem zKa (hB h:Uz)(b gl:Nat)(po vO:Value)(out:List WU)(x:WU)(cs:List Value)(Dn:Nat->Prop)(e:U5 hB h)(hb:hB.n<=b)(hbn:b<=h.n)(oo:U3 hB h po [vO])(pb:∀ g,Be po=some g->g<b)(oO:WR 5 RCn b h vO out)(hl:out.length<=100000)
  (d:Bl RCn h cs x Dn) (hD:∀ k,Dn k->b<=k/\k<h.n) (hv:∀ g n k,vO= .slice (some ⟨g,0,none⟩) n k->¬Dn g) (hc:cs.length=5) (h1:zJ cs=true) (hg:h.get gl=some (.row cs true 0)) (hgl:gl<h.n):
  WC Tryz.prog tb 26 [.slice (some ⟨gl,0,none⟩) 1 5,po] h fun r h'=>∃ vO',U5 hB h'/\U3 hB h' po [vO']/\WR 5 RCn b h' vO' (out++[x])/\WL po vO h h' vO'/\∀ k∈h'.wr,k∈h.wr\/hB.n<=k:=by
 obtain⟨v1,v2,v3,hvO⟩:∃ a n k,vO= .slice a n k:=by
  rcases oO with ⟨rfl,_⟩|⟨g,_,_,_,_,rfl,_⟩
  ·exact⟨_,_,_,rfl⟩
  ·exact⟨_,_,_,rfl⟩
 subst hvO;have hpo:=oo.within;refine en 6 [] zTX ?_;refine Uk x Dn oO e hb hbn (by decide) hl d hD hv hc h1 hg hgl ?_;intro v' h2 e2 o2 n2 k2 w2 s2;have oo2:U3 hB h2 po [.slice v1 v2 v3]:=by
  obtain⟨g,g1,g2,rfl,g3⟩:=oo;refine⟨g,g1,QG g2 n2,rfl,(k2 g g2 fun n k' e=> ?_).trans g3⟩;have h1:=pb g rfl;have h2:=(ZB oO g (by rw[e];rfl)).1;omega
 obtain⟨a1,a2,a3,rfl⟩:∃ a n k,v'= .slice a n k:=by
  rcases o2 with ⟨rfl,_⟩|⟨g,_,_,_,_,rfl,_⟩
  ·exact⟨_,_,_,rfl⟩
  ·exact⟨_,_,_,rfl⟩
 refine go ?_;refine XX (cs:=[.slice a1 a2 a3]) oo2 e2 ?_;intro h3 e3 o3 u3 w3;refine go ?_;refine W5 ?_;refine⟨_,e3,o3,?_,⟨QO n2 u3.1,fun g hg h1 h2=> ?_,fun k hk=> .inr (s2 k hk)⟩,fun k hk=> ?_⟩
 ·refine WR.upd o2 (fun k k1 k2=>u3.2 k k2 fun e=> ?_) u3.1;have:=pb k (by rw[e];rfl);omega
 ·rw[u3.2 g (QG hg n2) fun e=>h1 (by rw[e];rfl),k2 g hg fun n k' e=>h2 (by rw[e];rfl)]
 ·rcases w3 k hk with h|h
  ·rcases w2 k h with h|h
   ·exact .inl h
   ·exact .inr (by omega)
  ·exact .inr h
theorem ye {h0 h:Uz}{p:Value}{cs:List Value}(k:Nat)(o:U3 h0 h p cs):U3 h0 (inC (zC k h)) p cs:=by
 have:=o.ext (zZ k h);exact this
theorem YR {h:Uz}{v:Value}{l:List Int}(k:Nat)(s:WJ h v l):WJ (inC (zC k h)) v l:=by
 have:=s.ext (zZ k h);exact this
theorem zI7 {h:Uz}{v:Value}{l:List U2}(k:Nat)(s:Wr h v l):Wr (inC (zC k h)) v l:=by
 have:=Wr.ext s (zZ k h);exact this
structure CE (hB:Uz)(b:Nat)(vt vf pu po vS vR:Value)(T:List U2)(F:List WP):Prop where
 E:Env hB vt vf T F
 hs:yS T F=0
 hm:hB.mark<=hB.n
 bn:hB.n<=b
 bu:∀ g,Be pu=some g->g<b
 bo:∀ g,Be po=some g->g<b
 bS:∀ g,Be vS=some g->g<b
 bR:∀ g,Be vR=some g->g<b
 uo:WI pu po
 uS:WI pu vS
 uR:WI pu vR
 oS:WI po vS
 oR:WI po vR
def Zc (po:Value):Value:= .func (.func 26) #[] #[po]
structure CM (hB h:Uz)(b:Nat)(vt vf pu po vS vR:Value)(T:List U2)(F:List WP)(vK vO:Value)(ks:List Int)(f r:Int)(out:List WU):Prop where
 e:U5 hB h
 hb:b<=h.n
 ou:U3 hB h pu [vt,vf,vS,vR,I (yC T F),vK,I f,I r,Zc po]
 oo:U3 hB h po [vO]
 oS:WR 3 RSt hB.n h vS (yj T F)
 oR:WH hB h vR ((List.range F.length).map fun i=>((yd T F).take i).sum)
 oK:WH hB h vK ks
 oO:WR 5 RCn b h vO out
 kb:∀ g,Be vK=some g->b<=g
 ko:WI vO vK
section
variable {hB h h':Uz}{b:Nat}{vt vf pu po vS vR vK vO vO':Value}{T:List U2}{F:List WP}{ks:List Int}{f r:Int}{out:List WU}{x:WU}
theorem CM.ext (M:CM hB h b vt vf pu po vS vR T F vK vO ks f r out)(e:U5 h h'):CM hB h' b vt vf pu po vS vR T F vK vO ks f r out:=
 ⟨M.e.trans e,QO M.hb e.n,M.ou.ext e,M.oo.ext e,WR.ext M.oS e,M.oR.ext e,M.oK.ext e,WR.ext M.oO e,M.kb,M.ko⟩
theorem Ys {h0:Uz}{v w w' p:Value}{l:List Int}(o:WH h0 h v l)(k:WL p w h h' w')(d1:WI p v)(d2:WI w v):WH h0 h' v l:=by
 rcases o with o|⟨g,g1,g2,rfl,g3⟩
 ·exact .inl o
 ·exact .inr ⟨g,g1,QG g2 k.1,rfl,(k.2.1 g g2 (fun e=>d1 g e rfl) fun e=>d2 g e rfl).trans g3⟩
theorem zL0 {n:Nat}{v w w' p:Value}{l:List Wu}(o:WR 3 RSt n h v l)(k:WL p w h h' w')(d1:WI p v)(d2:WI w v):WR 3 RSt n h' v l:=by
 rcases o with o|⟨g,cells,D,g1,g2,rfl,g4,g5,g6,g7,g8⟩
 ·exact .inl o
 ·exact .inr ⟨g,cells,fun _=>False,g1,QG g2 k.1,rfl,(k.2.1 g g2 (fun e=>d1 g e rfl) fun e=>d2 g e rfl).trans g4,g5,fun h=>h,fun k h=>h.elim,fun i a ha=>fun _ _ _=>(g8 i a ha).self⟩
theorem CM.add (M:CM hB h b vt vf pu po vS vR T F vK vO ks f r out)(C:CE hB b vt vf pu po vS vR T F)(k:WL po vO h h' vO')(e:U5 hB h')(oo:U3 hB h' po [vO'])(oO:WR 5 RCn b h' vO' (out++[x])):
  CM hB h' b vt vf pu po vS vR T F vK vO' ks f r (out++[x]):=by
 have hO:=ZB M.oO;have low:∀ {v},(∀ g,Be v=some g->g<b)->WI vO v:=fun hv g h1 h2=>by
  have:=hv g h2;have:=(hO g h1).1;omega
 have poK:WI po vK:=fun g h1 h2=>by
  have:=C.bo g h1;have:=M.kb g h2;omega
 refine⟨e,QO M.hb k.1,(VP M.ou k C.uo.symm (low C.bu)).1,oo,zL0 M.oS k C.oS (low C.bS),Ys M.oR k C.oR (low C.bR),Ys M.oK k poK M.ko,oO,M.kb,fun g h1 h2=> ?_⟩;rcases k.2.2 g h1 with h|h
 ·exact M.ko g h h2
 ·have:=WH.within M.oK g h2;omega
end
section
variable {m N0:Nat}{cl:Bool}{K:U8->WA->Uz->Prop}{t:U4 Value}{ds:List Deferred}{rd:Option Nat}
theorem WN.add {hB hS X:Uz}{b d1 d2 a2 a3:Nat}{a1:Option Addr}{vt vf pu po vS vR vK vO:Value}{T:List U2}{F:List WP}{ks:List Int}{f r:Int}{out:List WU}{y z:Operand}{zero:List Value}(x:WU)(Dn:Nat->Prop)(C:CE hB b vt vf pu po vS vR T F)(M:CM hB hS b vt vf pu po vS vR T F vK vO ks f r out)(eX:U5 (Am.inC (zC 1 hS)) X)(hl:out.length<=100000)
  (d:Bl RCn X [.int .u8 x.kind,I x.to,I x.frm,I x.n,.slice a1 a2 a3] x Dn) (hD:∀ k,Dn k->hS.n<k/\k<X.n)
  (k:∀ H vO' t',zCE [d1,d2] t t'->CM hB H b vt vf pu po vS vR T F vK vO' ks f r (out++[x])->WL po vO hS H vO'->K .normal ⟨t',ds,rd⟩ H)
  (hx:WE t y (.agg #[.int .u8 x.kind,I x.to,I x.frm,I x.n,.slice a1 a2 a3]):=by exact zk) (hz:zero.length=5:=by rfl) (hf:∀ u,WE (t.set d1 u) z (Zc po):=by intro u;exact zk) (hm0:m=hS.mark:=by rfl):
  WN Tryz.prog tb m N0 [(⟨some d1,none,.buildSlice 1 5 zero [(0,5,y)]⟩,[]),(⟨some d2,none,.call z [.tmp d1]⟩,[])] hS.n cl ⟨t,ds,rd⟩ (Am.inC X) (Bm K hS):=by
 subst hm0;have hx:ev t y= .agg #[.int .u8 x.kind,I x.to,I x.frm,I x.n,.slice a1 a2 a3]:=hx;have hw:(Value.agg #[.int .u8 x.kind,I x.to,I x.frm,I x.n,.slice a1 a2 a3]).cells=[Value.int .u8 x.kind,I x.to,I x.frm,I x.n,.slice a1 a2 a3].toArray:=by rfl
 have hfill:=Yy (c:=5) (zero:=zero) hw rfl hz;have hnX:hS.n+1<=X.n:=eX.n;have e0:=M.e;have hBn:=e0.n;have hbS:=M.hb;have hbB:=C.bn;have hmk:hS.mark<=hB.n:=by rw[e0.mark];exact C.hm
 rw[WN,QJ (show Nat.beq (zE (Wk.buildSlice 1 5 zero [(0,5,y)])) 3=true from rfl)];refine⟨rfl,.inl ⟨rfl,by omega,.row [.int .u8 x.kind,I x.to,I x.frm,I x.n,.slice a1 a2 a3] true 0,_,by simp only[yb,zg,Qm,Ga,hx];rw[hfill];rfl,?_⟩⟩;generalize hH1:(Am.inC (Am.inC X)).lay hS.n (.row [.int .u8 x.kind,I x.to,I x.frm,I x.n,.slice a1 a2 a3] true 0)=H1;have n1:H1.n=X.n:=by rw[<-hH1];rfl
 have get1:∀ c',H1.get c'=if c'=hS.n then some (.row [.int .u8 x.kind,I x.to,I x.frm,I x.n,.slice a1 a2 a3] true 0) else X.get c':=fun c'=>by rw[<-hH1];exact zQ _ _ _ _
 have getX:∀ k,k<hS.n->X.get k=hS.get k:=fun k hk=>eX.get k (by show k<hS.n+1;omega);have getS:∀ k,k<hS.n->H1.get k=hS.get k:=fun k hk=>by rw[get1,QB (by omega),getX k hk]
 have oX1:WR 5 RCn b (Am.inC H1) vO out:=M.oO.upd (fun k _ hk=>getS k hk) (by show hS.n<=H1.n;omega);have d1':Bl RCn (Am.inC H1) [.int .u8 x.kind,I x.to,I x.frm,I x.n,.slice a1 a2 a3] x Dn:=d.mono (fun _ h=>h) (fun k o hd e=>by
  show H1.get k=_;have:=hD k hd;rw[get1,QB (by omega)];exact e) (by show X.n<=H1.n;omega)
 have E1:U5 {hB with mark:=H1.n,wr:=[]} (Am.inC H1):=⟨by show hB.n<=H1.n;omega,fun g hg=>(getS g (QG hg hBn)).trans (e0.get g hg),fun w g hg=>by
  have hg:H1.n<=g:=hg;show H1.get g=none;rw[get1,QB (by omega)];exact eX.wf (fun q hq=>e0.wf w q (by have hq:hS.n+1<=q:=hq;omega)) g (by omega),rfl,fun _=>rfl⟩
 have oo1:U3 {hB with mark:=H1.n,wr:=[]} (Am.inC H1) po [vO]:=by
  obtain⟨g,g1,g2,g3,g4⟩:=M.oo;exact⟨g,g1,by show g<H1.n;omega,g3,(getS g g2).trans g4⟩
 rw[WN,QB (show ¬Nat.beq (zE (Wk.call z [.tmp d1])) 3=true from Bool.noConfusion)];refine VN (WV.func (args:=[.slice (some ⟨hS.n,0,none⟩) 1 5]) (first:=#[]) (cap:=#[po]) (zKa _ _ b hS.n po vO out x _ Dn E1 hbB (by show b<=H1.n;omega) oo1 C.bo oX1 hl d1' (fun k hd=>⟨by have:=hD k hd;omega,by have:=hD k hd;show k<H1.n;omega⟩) (fun g n k e hd=>by
  have h1:=(ZB M.oO g (by rw[e];rfl)).2;have h2:=hD g hd;omega) rfl rfl (by show H1.get hS.n=_;rw[get1,QJ rfl]) (by show hS.n<H1.n;omega))) ?_ (hf _) (BF.cons (WE.tmp Wg.here) BF.nil)
 rintro _ h3 ⟨vO',e3,o3,oO3,k3,w3⟩;have hn3:H1.n<=h3.n:=k3.1;refine WO.nil ⟨⟨fun c' hc'=> ?_,hn3,.inl rfl⟩,?_⟩
 ·rcases w3 c' hc' with h|h
  ·cases h
  ·have h:hB.n<=c':=h;omega
 have kk:WL po vO hS (Am.yu hS h3) vO':=⟨by show hS.n<=h3.n;omega,fun g hg h1 h2=>(k3.2.1 g (by show g<H1.n;omega) h1 h2).trans (getS g hg),fun q hq=>by
  rcases k3.2.2 q hq with h|h
  ·exact .inl h
  ·exact .inr (by have h:H1.n<=q:=h;omega)⟩
 exact k _ vO' _ (fun j hj=>by
  simp only[zFy,QF,Gb]at hj;rw[zd,zd,QB (fun e=>by subst e;simp at hj),QB (fun e=>by subst e;simp at hj)]) (M.add C kk ⟨e3.n,e3.get,fun w=>e3.wf w,e0.mark,fun hm=>e0.wr hm⟩ o3 (oO3.upd (fun _ _ _=>rfl) (QE _))) kk
end
set_option maxRecDepth 100000
def Bi (T:List U2)(F:List WP):List Int:=(List.range F.length).map fun i=>((yd T F).take i).sum
theorem zEA {T:List U2}{F:List WP}(hs:yS T F=0){f:Int}(hf:0<=f/\f<(F.length:Int)):f<((Bi T F).length:Int)/\(Bi T F).getD f.toNat 0=((yd T F).take f.toNat).sum/\0<=((yd T F).take f.toNat).sum/\((yd T F).take f.toNat).sum<=8000/\0<=yC T F/\yC T F<=8000:=by
 obtain⟨hb,hl,h1,h8⟩:=zKT hs;have h2:=zHF (l:=(yd T F).take f.toNat) fun x hx=>hb x (Ge hx);have h3:=zHF hb;have h4:((yd T F).take f.toNat).length<=f.toNat:=List.length_take_le _ _;unfold Bi yC;refine⟨by simp;omega,?_,by omega,by omega,by omega,by omega⟩;have:f.toNat<F.length:=by omega
 simp[List.getD,this]
section
variable {h h0 hB:Uz}{b:Nat}{vt vf pu po vS vR vK vO av:Value}{T:List U2}{F:List WP}{ks:List Int}{f r A:Int}{out:List WU}
def zS2:U0:=(oV (oR [oN 4 0]) (oV (o6 [oM 5 0,(⟨some 6,none,(.nilCheck (.tmp 5))⟩,[]),oF 3 7 6,oL 8 7,oM 9 0,(⟨some 10,none,(.nilCheck (.tmp 9))⟩,[]),oF 6 11 10,oL 12 11,oI 1 13 8 12,oL 14 13,oM 15 1,oB .add 16 14 15,oM 4 16]) .ret))
theorem yw (ou:U3 h0 h pu [vt,vf,vS,vR,I A,vK,I f,I r,av])(sR:WJ h vR (Bi T F))(hs:yS T F=0)(hf:0<=f/\f<(F.length:Int))(q:Int)(hq:0<=q/\q<=1000):
  WC Tryz.prog tb 30 [pu,I q] h fun x h'=>x=I (We T F f q)/\h=h':=by
 obtain⟨h1,h2,h3,h4,-⟩:=zEA hs hf;unfold We;rw[<-h2]at h3 h4 |-;generalize Bi T F=L at *;obtain⟨gu,_,_,rfl,_⟩:=id ou;obtain⟨r1,r2,r3,rfl⟩:=WZ.shape sR;refine en 17 [(4,none)] zS2 ?_;refine gr ?_;exact⟨rfl,rfl⟩
def zTy:U0:=(oV (oR [oZ 4]) (oV (oR [oM 5 0,⟨some 6,none,(.nilCheck (.tmp 5))⟩,oF 0 7 6,oF 0 8 7,oL 9 8,oM 10 1,oI 4 11 9 10,oF 0 12 11,oL 13 12,oD .eql 14 13 1,oM 4 14]) .ret))
theorem YL (ou:U3 h0 h pu [vt,vf,vS,vR,I A,vK,I f,I r,av])(st:Wr h vt T)(t:Int)(ht:0<=t/\t<(T.length:Int)):
  WC Tryz.prog tb 29 [pu,I t] h fun x h'=>x= .bool (BD T t)/\h=h':=by
 unfold BD;obtain⟨cs,⟨va,rfl,sa,hla⟩,pc,hs⟩:=ZN (i:=t.toNat) st (by omega);obtain⟨gu,_,_,rfl,_⟩:=id ou;obtain⟨t1,t2,t3,rfl⟩:=zF st;obtain⟨a1,a2,a3,rfl⟩:=WZ.shape sa;refine en 15 [(4,none)] zTy ?_;refine rt ?_;exact⟨rfl,rfl⟩
def zUA:U0:=(oV (oR [oN 4 0]) (oV (oR [oM 5 0,⟨some 6,none,(.nilCheck (.tmp 5))⟩,oF 5 7 6,oL 8 7,oM 9 1,oI 1 10 8 9,oL 11 10,oM 4 11]) .ret))
theorem zH8 (ou:U3 h0 h pu [vt,vf,vS,vR,I A,vK,I f,I r,av])(sK:WJ h vK ks)(q:Int)(hq:0<=q/\q<(ks.length:Int)):
  WC Tryz.prog tb 87 [pu,I q] h fun x h'=>x=I (ks.getD q.toNat 0)/\h=h':=by
 obtain⟨gu,_,_,rfl,_⟩:=id ou;obtain⟨k1,k2,k3,rfl⟩:=WZ.shape sK;refine en 12 [(4,none)] zUA ?_;refine rt ?_;exact⟨rfl,rfl⟩
def zOC:U0:=(oV (oR [oB .lss 10 9 8]) (oV (oT 10 0) (oV (o5 1 (oV (oR [oI 1 11 7 9,oL 12 11,oM 6 12]) (oR [oM 13 4,oM 14 0,oM 15 6,o2 16 30 14 15,⟨some 17,none,(.buildSlice 1 1 [(.int .i64 0)] [(0,1,(.tmp 16))])⟩,oY 1 18 13 17,oM 4 18]))) (oR [oC .add 19 9 1,oM 9 19]))))
def zUY:U0:=(oV (oR [oK 4 (.slice none 0 0)]) (oV (oV (oR [oM 7 1,oQ 8 7,oN 9 0]) (o5 0 (.loop zOC))) (oV (oR [oM 20 4,oM 4 20]) .ret)))
theorem zHd (ou:U3 h0 h pu [vt,vf,vS,vR,I A,vK,I f,I r,av])(sR:WJ h vR (Bi T F))(hs:yS T F=0)(hf:0<=f/\f<(F.length:Int))(va:Value)(us:List Int)(sa:WJ h va us)(ha:∀ a∈us,0<=a/\a<=1000)(hl:us.length<=1000):
  WC Tryz.prog tb 88 [pu,va] h fun x h'=>WH h h' x (us.map (We T F f))/\U5 h h':=by
 obtain⟨a1,a2,a3,rfl⟩:=WZ.shape sa;replace ha:=WW.mk ha;replace hf:=WW.mk hf;refine en 21 [(4,none)] zUY ?_;refine VD [10,11,12,6,13,14,15,16,17,18,4,19,9] (by kernel_rfl) (fun i=>us.length - i) (fun i t h1=>zB t 9=I i/\i<=us.length/\U5 h h1/\∃ v,zB t 4=v/\WH h h1 v ((us.take i).map (We T F f))) 0 ?_ ?_
 ·exact⟨U7,QT _,U5.refl _,_,U7,.inl ⟨rfl,rfl⟩⟩
 rintro i t h1 hsame ⟨s9,hi,e1,v,s4,ov⟩;have sa1:=sa.ext e1;refine go ?_;refine VE (fun hc=> ?_) (fun hc=> ?_)<;>simp only[DB]at hc
 ·have hi':i<us.length:=by omega
  have hx:=ha.out _ (zq hi');have hsn:(us.take (i+1)).map (We T F f)=(us.take i).map (We T F f)++[We T F f (us.getD i 0)]:=by
   rw[GE,QD hi',Qr];congr 1;simp[List.getD,QD hi']
  have hti:((us.take i).map (We T F f)).length<=i:=by rw[Qz];exact List.length_take_le _ _
  refine go ?_;refine VA (yw (ou.ext e1) (sR.ext e1) hs hf.out (us.getD i 0) hx) ?_;rintro _ _ ⟨rfl,rfl⟩;refine go ?_;refine WO.bl [We T F f (us.getD i 0)] ?_;intro v3 h3 e3 o3;refine go ?_;refine V1 (ov.ext e3) o3.sl (e1.trans e3) (by simp) (by simp at hti |-;omega) ?_;intro v4 h4 e4 o4 u4;refine go ?_;refine zA (i+1) (by omega) ⟨Wo,by omega,e4,v4,U7,?_⟩;rw[hsn];exact .inr (o4.since (e1.trans e3))
 ·have hii:i=us.length:=by omega
  subst hii;rw[Q8]at ov;refine gr ?_;exact⟨ov,e1⟩
end
theorem YT (g:Nat->List WU)(hg:∀ i,(g i).length<=1):∀ n,((List.range n).flatMap g).length<=n
 |0=>by simp
 |n+1=>by rw[YC,QM];have:=YT g hg n;have:=hg n;omega
theorem zAE (b:Bool)(c:WU):(if b then [] else [c]).length<=1:=by cases b<;>simp
def CP (hB:Uz)(b:Nat)(vt vf pu po vS vR:Value)(T:List U2)(F:List WP)(vK vO:Value)(ks:List Int)(f r:Int)(out:List WU)(h h':Uz):Prop:=
 ∃ vO',CM hB h' b vt vf pu po vS vR T F vK vO' ks f r out/\WL po vO h h' vO'
theorem Z7 {X:Uz}{a b c d:Int}{D:Nat->Prop}:Bl RCn X [.int .u8 a,I b,I c,I d,.slice none 0 0] ⟨a,b,c,d,[]⟩ D:=fun hx _ _=>⟨_,rfl,WJ.nil hx,by simp⟩
section
variable {h hB:Uz}{b:Nat}{vt vf pu po vS vR vK vO:Value}{T:List U2}{F:List WP}{ks:List Int}{f r:Int}{out:List WU}
def zTA:U0:=(oV (oR [oX 3 1]) (oV (oR [oN 4 0]) (oV (oV (oR [oF 0 5 3,oL 6 5,oD .eql 7 6 3]) (oJ 7 (oR [oF 4 8 3,oL 9 8,oC .add 10 9 1,oM 4 10]) .skip)) (o6 [oM 11 0,(⟨some 12,none,(.nilCheck (.tmp 11))⟩,[]),oF 8 13 12,oL 14 13,oM 15 0,oM 16 0,(⟨some 17,none,(.nilCheck (.tmp 16))⟩,[]),oF 7 18 17,oL 19 18,(o2 20 30 15 19,[3]),oM 21 4,(⟨some 22,none,(.build [(.int .u8 0),(.int .i64 0),(.int .i64 0),(.int .i64 0),(.slice none 0 0)] [(0,1,(.const (.int .u8 1))),(1,1,(.tmp 20)),(3,1,(.tmp 21))])⟩,[]),(⟨some 23,none,(.buildSlice 1 5 [(.int .u8 0),(.int .i64 0),(.int .i64 0),(.int .i64 0),(.slice none 0 0)] [(0,5,(.tmp 22))])⟩,[]),(⟨some 24,none,(.call (.tmp 14) [(.tmp 23)])⟩,[])]))))
theorem zO9 (C:CE hB b vt vf pu po vS vR T F)(M:CM hB h b vt vf pu po vS vR T F vK vO ks f r out)(hf:0<=f/\f<(F.length:Int))(hr:0<=r/\r<=1000)(hl:out.length<=90000)(x:WY)(a1 b1:Option Addr)(a2 a3 b2 b3:Nat)(hn:x.op=3->0<=x.n/\x.n<=1000):
  WC Tryz.prog tb 51 [pu,.agg #[.int .u8 x.op,I x.ty,I x.a,I x.b,I x.n,.slice a1 a2 a3,.slice b1 b2 b3]] h fun _ h'=>CP hB b vt vf pu po vS vR T F vK vO ks f r (out++[⟨1,We T F f r,0,if x.op=3 then x.n+1 else 0,[]⟩]) h h':=by
 obtain⟨gu,_,_,rfl,_⟩:=id M.ou;obtain⟨s1,s2,s3,rfl⟩:=zF M.oS.sl;obtain⟨r1,r2,r3,rfl⟩:=WZ.shape M.oR.sl;obtain⟨k1,k2,k3,rfl⟩:=WZ.shape M.oK.sl;refine en 25 [] zTA ?_;refine VI ?_;intro p3 h1 e1 o3;replace o3:U3 h h1 p3 [.int .u8 x.op,I x.ty,I x.a,I x.b,I x.n,.slice a1 a2 a3,.slice b1 b2 b3]:=o3;have M1:=M.ext e1;by_cases h3:x.op=3;all_goals
  first|(have hn':=hn h3)|skip
  refine go ?_
  refine VC 1 rfl rfl ?_
  have oX:=M1.ou.ext (zZ 1 h1)
  have oY:U3 hB (inC (zC 1 h1)) (.pointer (some ⟨gu,0,none⟩)) [vt,vf,.slice s1 s2 s3,.slice r1 r2 r3,I (yC T F),.slice k1 k2 k3,I f,I r,Zc po]:=oX
  have sX:=M1.oR.sl.ext (zZ 1 h1)
  have sY:WJ (inC (zC 1 h1)) (.slice r1 r2 r3) (Bi T F):=sX
  refine WM ?_
  refine VA (yw oY sY C.hs hf r hr) ?_
  rintro _ _ ⟨rfl,rfl⟩
  refine WO.nil (ZU zw ?_)
  refine WM ?_
  refine WN.add (X:=inC (zC 1 _)) (⟨1,We T F f r,0,_,[]⟩:WU) (fun _=>False) C M1 (U5.refl _) (by omega) Z7 (fun _ h=>h.elim) ?_
  intro H vO' t' hsame MH kH
  refine go ?_
  refine W5 ?_
  exact⟨vO',by simpa [h3]using MH,(WL.ext e1).trans kH⟩
end
set_option maxRecDepth 100000
section
variable {h hB:Uz}{b:Nat}{vt vf pu po vS vR vK vO:Value}{T:List U2}{F:List WP}{ks:List Int}{f r:Int}{out:List WU}
def zTu:U0:=(oV (oR [oX 3 1]) (oV (oR [oN 4 0]) (oV (oV (oR [oF 0 5 3,oL 6 5,oD .eql 7 6 14]) (oJ 7 (o6 [oM 9 0,(⟨some 10,none,(.nilCheck (.tmp 9))⟩,[]),oF 0 11 10,oF 0 12 11,oL 13 12,oM 14 0,(⟨some 15,none,(.nilCheck (.tmp 14))⟩,[]),oF 0 16 15,oF 0 17 16,oL 18 17,oM 19 0,oF 2 20 3,oL 21 20,(o2 22 87 19 21,[4,9]),oI 4 23 18 22,oF 1 24 23,oL 25 24,oF 4 26 3,(oL 27 26,[13]),o3 28 86 13 25 27,oM 8 28,oE 29 8 0,oE 30 8 1,oM 4 29]) .skip)) (o6 [oM 31 0,(⟨some 32,none,(.nilCheck (.tmp 31))⟩,[]),oF 8 33 32,oL 34 33,oM 35 0,oM 36 0,(⟨some 37,none,(.nilCheck (.tmp 36))⟩,[]),oF 7 38 37,oL 39 38,(o2 40 30 35 39,[3]),oM 41 0,oF 2 42 3,(oL 43 42,[9]),(o2 44 30 41 43,[3]),oM 45 4,(⟨some 46,none,(.build [(.int .u8 0),(.int .i64 0),(.int .i64 0),(.int .i64 0),(.slice none 0 0)] [(0,1,(.const (.int .u8 3))),(1,1,(.tmp 40)),(2,1,(.tmp 44)),(3,1,(.tmp 45))])⟩,[]),(⟨some 47,none,(.buildSlice 1 5 [(.int .u8 0),(.int .i64 0),(.int .i64 0),(.int .i64 0),(.slice none 0 0)] [(0,5,(.tmp 46))])⟩,[]),(⟨some 48,none,(.call (.tmp 34) [(.tmp 47)])⟩,[])]))))
theorem zOW (C:CE hB b vt vf pu po vS vR T F)(M:CM hB h b vt vf pu po vS vR T F vK vO ks f r out)(hf:0<=f/\f<(F.length:Int))(hr:0<=r/\r<=1000)(hl:out.length<=90000)(x:WY)(a1 b1:Option Addr)(a2 a3 b2 b3:Nat)(I0:CI T F ks x)(hk:ks.length<=1000)(ho:x.op=14\/x.op=15):
  WC Tryz.prog tb 53 [pu,.agg #[.int .u8 x.op,I x.ty,I x.a,I x.b,I x.n,.slice a1 a2 a3,.slice b1 b2 b3]] h fun _ h'=>CP hB b vt vf pu po vS vR T F vK vO ks f r (out++[⟨3,We T F f r,We T F f x.a,if x.op=14 then stepL T (T.getD (ks.getD x.a.toNat 0).toNat default).elem x.n else 0,[]⟩]) h h':=by
 have ha:=I0.a14 (by omega);have k14:=I0.k14;obtain⟨gu,_,_,rfl,_⟩:=id M.ou;obtain⟨s1,s2,s3,rfl⟩:=zF M.oS.sl;obtain⟨r1,r2,r3,rfl⟩:=WZ.shape M.oR.sl;obtain⟨k1,k2,k3,rfl⟩:=WZ.shape M.oK.sl;obtain⟨t1,t2,t3,rfl⟩:=zF C.E.st;obtain⟨f1,f2,f3,rfl⟩:=zF C.E.sf;refine en 49 [] zTu ?_;refine VI ?_;intro p3 h1 e1 o3;replace o3:U3 h h1 p3 [.int .u8 x.op,I x.ty,I x.a,I x.b,I x.n,.slice a1 a2 a3,.slice b1 b2 b3]:=o3;have M1:=M.ext e1;by_cases h14:x.op=14
 ·obtain⟨s,hs,hka,hs0,hs4,hn⟩:=k14 h14;have hm1:h1.mark<=h1.n:=by rw[M1.e.mark];exact QO C.hm M1.e.n
  have hka2:=hka.1;refine go ?_;refine VC 0 rfl rfl ?_;have oY:U3 hB (inC (zC 0 h1)) (.pointer (some ⟨gu,0,none⟩)) [.slice t1 t2 t3,.slice f1 f2 f3,.slice s1 s2 s3,.slice r1 r2 r3,I (yC T F),.slice k1 k2 k3,I f,I r,Zc po]:=M1.ou;have sY:WJ (inC (zC 0 h1)) (.slice k1 k2 k3) ks:=M1.oK.sl;have o3Y:U3 h (inC (zC 0 h1)) p3 [.int .u8 x.op,I x.ty,I x.a,I x.b,I x.n,.slice a1 a2 a3,.slice b1 b2 b3]:=o3;have stY:Wr (inC (zC 0 h1)) (.slice t1 t2 t3) T:=zI7 0 (Wr.ext C.E.st M1.e);refine WM ?_;refine VA (zH8 oY sY x.a ha) ?_;rintro _ _ ⟨rfl,rfl⟩;refine WO.nil (ZU zw ?_);obtain⟨csT,⟨va,rfl,sa,hla⟩,pcT,hsT⟩:=ZN (i:=(ks.getD x.a.toNat 0).toNat) stY (by omega);obtain⟨va1,va2,va3,rfl⟩:=WZ.shape sa;rw[hs]at pcT;generalize ks.getD x.a.toNat 0=ka at *;refine WM ?_;refine YZ (j:=4) o3 (QE _) ?_;refine WM ?_;refine VA (zNL _ _ T s x.n stY C.E.sm.types C.E.sm.parts ((yo (yV C.hs).1).1) hs0 hs4 hn (QE _)) ?_;rintro _ h2 ⟨⟨e,rfl⟩,e2⟩;refine nE e2 ?_;refine WM ?_;have e2q:=(zZ 0 h1).trans (yr (h:=h1) e2);have e2':U5 h1 (yu h1 (inC h2)):=e2q;clear e2q e2;have M2:=M1.ext e2';have o32:=o3.ext e2';have e02:=e1.trans e2';clear oY sY o3Y stY pcT;generalize yu h1 (inC h2)=h3 at *;refine go ?_;refine VC 1 rfl rfl ?_;have oY:U3 hB (inC (zC 1 h3)) (.pointer (some ⟨gu,0,none⟩)) [.slice t1 t2 t3,.slice f1 f2 f3,.slice s1 s2 s3,.slice r1 r2 r3,I (yC T F),.slice k1 k2 k3,I f,I r,Zc po]:=ye 1 M2.ou;have sY:WJ (inC (zC 1 h3)) (.slice r1 r2 r3) (Bi T F):=YR 1 M2.oR.sl;have o3Y:U3 h (inC (zC 1 h3)) p3 [.int .u8 x.op,I x.ty,I x.a,I x.b,I x.n,.slice a1 a2 a3,.slice b1 b2 b3]:=ye 1 o32;refine WM ?_;refine VA (yw oY sY C.hs hf r hr) ?_;rintro _ _ ⟨rfl,rfl⟩;refine WO.nil (ZU zw ?_);refine WM ?_;refine YZ (j:=2) o32 (by show h3.n<=h3.n+1;omega) ?_;refine WM ?_;refine VA (yw oY sY C.hs hf x.a ⟨ha.1,by omega⟩) ?_;rintro _ _ ⟨rfl,rfl⟩;refine WO.nil (ZU zw ?_);refine WM ?_;refine WN.add (X:=inC (zC 1 _)) (⟨3,We T F f r,We T F f x.a,_,[]⟩:WU) (fun _=>False) C M2 (U5.refl _) (by omega) Z7 (fun _ h=>h.elim) ?_;intro H vO' t' hsame MH kH;refine go ?_;refine W5 ?_;exact⟨vO',by rw[QJ h14,hs];exact MH,(WL.ext e02).trans kH⟩
 ·refine go ?_;refine VC 1 rfl rfl ?_;have oY:U3 hB (inC (zC 1 h1)) (.pointer (some ⟨gu,0,none⟩)) [.slice t1 t2 t3,.slice f1 f2 f3,.slice s1 s2 s3,.slice r1 r2 r3,I (yC T F),.slice k1 k2 k3,I f,I r,Zc po]:=ye 1 (M1.ou);have sY:WJ (inC (zC 1 h1)) (.slice r1 r2 r3) (Bi T F):=YR 1 (M1.oR.sl);have o3Y:U3 h (inC (zC 1 h1)) p3 [.int .u8 x.op,I x.ty,I x.a,I x.b,I x.n,.slice a1 a2 a3,.slice b1 b2 b3]:=ye 1 (o3);refine WM ?_;refine VA (yw oY sY C.hs hf r hr) ?_;rintro _ _ ⟨rfl,rfl⟩;refine WO.nil (ZU zw ?_);refine WM ?_;refine YZ (j:=2) o3 (by show h1.n<=h1.n+1;omega) ?_;refine WM ?_;refine VA (yw oY sY C.hs hf x.a ⟨ha.1,by omega⟩) ?_;rintro _ _ ⟨rfl,rfl⟩;refine WO.nil (ZU zw ?_);refine WM ?_;refine WN.add (X:=inC (zC 1 _)) (⟨3,We T F f r,We T F f x.a,_,[]⟩:WU) (fun _=>False) C M1 (U5.refl _) (by omega) Z7 (fun _ h=>h.elim) ?_;intro H vO' t' hsame MH kH;refine go ?_;refine W5 ?_;exact⟨vO',by simpa [h14]using MH,(WL.ext e1).trans kH⟩
def zTw:U0:=(oV (oR [oX 3 1]) (oV (oR [oM 4 0,oF 1 5 3,oL 6 5,o2 7 29 4 6,oW 8 7]) (oJ 8 (o6 [oM 9 0,(⟨some 10,none,(.nilCheck (.tmp 9))⟩,[]),oF 8 11 10,oL 12 11,oM 13 0,oM 14 0,(⟨some 15,none,(.nilCheck (.tmp 14))⟩,[]),oF 7 16 15,oL 17 16,(o2 18 30 13 17,[3]),oM 19 0,oF 2 20 3,(oL 21 20,[9]),(o2 22 30 19 21,[3]),(⟨some 23,none,(.build [(.int .u8 0),(.int .i64 0),(.int .i64 0),(.int .i64 0),(.slice none 0 0)] [(0,1,(.const (.int .u8 4))),(1,1,(.tmp 18)),(2,1,(.tmp 22))])⟩,[]),(⟨some 24,none,(.buildSlice 1 5 [(.int .u8 0),(.int .i64 0),(.int .i64 0),(.int .i64 0),(.slice none 0 0)] [(0,5,(.tmp 23))])⟩,[]),(⟨some 25,none,(.call (.tmp 12) [(.tmp 24)])⟩,[])]) .skip)))
theorem zOz (C:CE hB b vt vf pu po vS vR T F)(M:CM hB h b vt vf pu po vS vR T F vK vO ks f r out)(hf:0<=f/\f<(F.length:Int))(hr:0<=r/\r<=1000)(hl:out.length<=90000)(x:WY)(a1 b1:Option Addr)(a2 a3 b2 b3:Nat)(I0:CI T F ks x)(hk:ks.length<=1000)(ho:x.op=16):
  WC Tryz.prog tb 54 [pu,.agg #[.int .u8 x.op,I x.ty,I x.a,I x.b,I x.n,.slice a1 a2 a3,.slice b1 b2 b3]] h fun _ h'=>CP hB b vt vf pu po vS vR T F vK vO ks f r (out++if BD T x.ty then [] else [⟨4,We T F f r,We T F f x.a,0,[]⟩]) h h':=by
 have ha:=I0.a14 (by omega);have hty:=I0.ty (by omega);obtain⟨gu,_,_,rfl,_⟩:=id M.ou;obtain⟨s1,s2,s3,rfl⟩:=zF M.oS.sl;obtain⟨r1,r2,r3,rfl⟩:=WZ.shape M.oR.sl;obtain⟨k1,k2,k3,rfl⟩:=WZ.shape M.oK.sl;obtain⟨t1,t2,t3,rfl⟩:=zF C.E.st;obtain⟨f1,f2,f3,rfl⟩:=zF C.E.sf;refine en 26 [] zTw ?_;refine VI ?_;intro p3 h1 e1 o3;replace o3:U3 h h1 p3 [.int .u8 x.op,I x.ty,I x.a,I x.b,I x.n,.slice a1 a2 a3,.slice b1 b2 b3]:=o3;have M1:=M.ext e1;refine go ?_;refine VA (YL M1.ou (Wr.ext C.E.st M1.e) x.ty hty) ?_;rintro _ _ ⟨rfl,rfl⟩;cases hpl:BD T x.ty with
 |true=>
  refine go ?_;refine W5 ?_;exact⟨vO,by simpa using M1,WL.ext e1⟩
 |false=>
  refine go ?_;refine VC 1 rfl rfl ?_;have oY:U3 hB (inC (zC 1 h1)) (.pointer (some ⟨gu,0,none⟩)) [.slice t1 t2 t3,.slice f1 f2 f3,.slice s1 s2 s3,.slice r1 r2 r3,I (yC T F),.slice k1 k2 k3,I f,I r,Zc po]:=ye 1 (M1.ou);have sY:WJ (inC (zC 1 h1)) (.slice r1 r2 r3) (Bi T F):=YR 1 (M1.oR.sl);have o3Y:U3 h (inC (zC 1 h1)) p3 [.int .u8 x.op,I x.ty,I x.a,I x.b,I x.n,.slice a1 a2 a3,.slice b1 b2 b3]:=ye 1 (o3);refine WM ?_;refine VA (yw oY sY C.hs hf r hr) ?_;rintro _ _ ⟨rfl,rfl⟩;refine WO.nil (ZU zw ?_);refine WM ?_;refine YZ (j:=2) o3 (by show h1.n<=h1.n+1;omega) ?_;refine WM ?_;refine VA (yw oY sY C.hs hf x.a ⟨ha.1,by omega⟩) ?_;rintro _ _ ⟨rfl,rfl⟩;refine WO.nil (ZU zw ?_);refine WM ?_;refine WN.add (X:=inC (zC 1 _)) (⟨4,We T F f r,We T F f x.a,0,[]⟩:WU) (fun _=>False) C M1 (U5.refl _) (by omega) Z7 (fun _ h=>h.elim) ?_;intro H vO' t' hsame MH kH;refine go ?_;refine W5 ?_;exact⟨vO',MH,(WL.ext e1).trans kH⟩
end
set_option maxRecDepth 100000
section
variable {h hB:Uz}{b:Nat}{vt vf pu po vS vR vK vO:Value}{T:List U2}{F:List WP}{ks:List Int}{f r:Int}{out:List WU}
def zTb:U0:=(oV (oR [oX 3 1]) (oV (oR [oM 4 0,oM 5 0,oF 3 6 3,oL 7 6,o2 8 87 5 7,o2 9 29 4 8,oW 10 9]) (oJ 10 (o6 [oM 11 0,(⟨some 12,none,(.nilCheck (.tmp 11))⟩,[]),oF 8 13 12,oL 14 13,oM 15 0,oF 2 16 3,oL 17 16,(o2 18 30 15 17,[3]),oM 19 0,oF 3 20 3,(oL 21 20,[7]),(o2 22 30 19 21,[3]),(⟨some 23,none,(.build [(.int .u8 0),(.int .i64 0),(.int .i64 0),(.int .i64 0),(.slice none 0 0)] [(0,1,(.const (.int .u8 5))),(1,1,(.tmp 18)),(2,1,(.tmp 22))])⟩,[]),(⟨some 24,none,(.buildSlice 1 5 [(.int .u8 0),(.int .i64 0),(.int .i64 0),(.int .i64 0),(.slice none 0 0)] [(0,5,(.tmp 23))])⟩,[]),(⟨some 25,none,(.call (.tmp 14) [(.tmp 24)])⟩,[])]) .skip)))
theorem zLZ (C:CE hB b vt vf pu po vS vR T F)(M:CM hB h b vt vf pu po vS vR T F vK vO ks f r out)(hf:0<=f/\f<(F.length:Int))(hl:out.length<=90000)(x:WY)(a1 b1:Option Addr)(a2 a3 b2 b3:Nat)(I0:CI T F ks x)(hk:ks.length<=1000)(ho:x.op=17):
  WC Tryz.prog tb 55 [pu,.agg #[.int .u8 x.op,I x.ty,I x.a,I x.b,I x.n,.slice a1 a2 a3,.slice b1 b2 b3]] h fun _ h'=>CP hB b vt vf pu po vS vR T F vK vO ks f r (out++if BD T (ks.getD x.b.toNat 0) then [] else [⟨5,We T F f x.a,We T F f x.b,0,[]⟩]) h h':=by
 have ha:=I0.a14 (by omega);have hb:=I0.b17 ho;obtain⟨gu,_,_,rfl,_⟩:=id M.ou;obtain⟨s1,s2,s3,rfl⟩:=zF M.oS.sl;obtain⟨r1,r2,r3,rfl⟩:=WZ.shape M.oR.sl;obtain⟨k1,k2,k3,rfl⟩:=WZ.shape M.oK.sl;obtain⟨t1,t2,t3,rfl⟩:=zF C.E.st;obtain⟨f1,f2,f3,rfl⟩:=zF C.E.sf;refine en 26 [] zTb ?_;refine VI ?_;intro p3 h1 e1 o3;replace o3:U3 h h1 p3 [.int .u8 x.op,I x.ty,I x.a,I x.b,I x.n,.slice a1 a2 a3,.slice b1 b2 b3]:=o3;have M1:=M.ext e1;refine go ?_;refine VA (zH8 M1.ou M1.oK.sl x.b hb.1) ?_;rintro _ _ ⟨rfl,rfl⟩;refine go ?_;refine VA (YL M1.ou (Wr.ext C.E.st M1.e) (ks.getD x.b.toNat 0) hb.2) ?_;rintro _ _ ⟨rfl,rfl⟩;cases hpl:BD T (ks.getD x.b.toNat 0)with
 |true=>
  refine go ?_;refine W5 ?_;exact⟨vO,by simpa using M1,WL.ext e1⟩
 |false=>
  refine go ?_;refine VC 1 rfl rfl ?_;have oY:U3 hB (inC (zC 1 h1)) (.pointer (some ⟨gu,0,none⟩)) [.slice t1 t2 t3,.slice f1 f2 f3,.slice s1 s2 s3,.slice r1 r2 r3,I (yC T F),.slice k1 k2 k3,I f,I r,Zc po]:=ye 1 (M1.ou);have sY:WJ (inC (zC 1 h1)) (.slice r1 r2 r3) (Bi T F):=YR 1 (M1.oR.sl);have o3Y:U3 h (inC (zC 1 h1)) p3 [.int .u8 x.op,I x.ty,I x.a,I x.b,I x.n,.slice a1 a2 a3,.slice b1 b2 b3]:=ye 1 (o3);refine WM ?_;refine VA (yw oY sY C.hs hf x.a ⟨ha.1,by omega⟩) ?_;rintro _ _ ⟨rfl,rfl⟩;refine WO.nil (ZU zw ?_);refine WM ?_;refine YZ (j:=3) o3 (by show h1.n<=h1.n+1;omega) ?_;refine WM ?_;refine VA (yw oY sY C.hs hf x.b ⟨hb.1.1,by omega⟩) ?_;rintro _ _ ⟨rfl,rfl⟩;refine WO.nil (ZU zw ?_);refine WM ?_;refine WN.add (X:=inC (zC 1 _)) (⟨5,We T F f x.a,We T F f x.b,0,[]⟩:WU) (fun _=>False) C M1 (U5.refl _) (by omega) Z7 (fun _ h=>h.elim) ?_;intro H vO' t' hsame MH kH;refine go ?_;refine W5 ?_;exact⟨vO',MH,(WL.ext e1).trans kH⟩
def zUb:U0:=(oV (oR [oX 3 1]) (o6 [oM 4 0,(⟨some 5,none,(.nilCheck (.tmp 4))⟩,[]),oF 8 6 5,oL 7 6,oM 8 0,oM 9 0,(⟨some 10,none,(.nilCheck (.tmp 9))⟩,[]),oF 7 11 10,oL 12 11,(o2 13 30 8 12,[3]),oM 14 0,oF 2 15 3,(oL 16 15,[9]),(o2 17 30 14 16,[3]),oM 18 0,oF 5 19 3,(oL 20 19,[9,13]),(o2 21 88 18 20,[3]),(⟨some 22,none,(.build [(.int .u8 0),(.int .i64 0),(.int .i64 0),(.int .i64 0),(.slice none 0 0)] [(0,1,(.const (.int .u8 6))),(1,1,(.tmp 13)),(2,1,(.tmp 17)),(4,1,(.tmp 21))])⟩,[]),(⟨some 23,none,(.buildSlice 1 5 [(.int .u8 0),(.int .i64 0),(.int .i64 0),(.int .i64 0),(.slice none 0 0)] [(0,5,(.tmp 22))])⟩,[]),(⟨some 24,none,(.call (.tmp 7) [(.tmp 23)])⟩,[])]))
theorem zMd (C:CE hB b vt vf pu po vS vR T F)(M:CM hB h b vt vf pu po vS vR T F vK vO ks f r out)(hf:0<=f/\f<(F.length:Int))(hr:0<=r/\r<=1000)(hl:out.length<=90000)(x:WY)(va:Value)(b1:Option Addr)(b2 b3:Nat)(sa:WJ h va x.args)(I0:CI T F ks x)(hk:ks.length<=1000)(ho:x.op=19):
  WC Tryz.prog tb 57 [pu,.agg #[.int .u8 x.op,I x.ty,I x.a,I x.b,I x.n,va,.slice b1 b2 b3]] h fun _ h'=>CP hB b vt vf pu po vS vR T F vK vO ks f r (out++[⟨6,We T F f r,We T F f x.a,0,x.args.map (We T F f)⟩]) h h':=by
 have ha:=I0.a14 (by omega);have har:=I0.args (by omega);have hal:=I0.al;obtain⟨gu,_,_,rfl,_⟩:=id M.ou;obtain⟨s1,s2,s3,rfl⟩:=zF M.oS.sl;obtain⟨r1,r2,r3,rfl⟩:=WZ.shape M.oR.sl;obtain⟨k1,k2,k3,rfl⟩:=WZ.shape M.oK.sl;obtain⟨t1,t2,t3,rfl⟩:=zF C.E.st;obtain⟨f1,f2,f3,rfl⟩:=zF C.E.sf;obtain⟨a1,a2,a3,rfl⟩:=WZ.shape sa;refine en 25 [] zUb ?_;refine VI ?_;intro p3 h1 e1 o3;replace o3:U3 h h1 p3 [.int .u8 x.op,I x.ty,I x.a,I x.b,I x.n,.slice a1 a2 a3,.slice b1 b2 b3]:=o3;have M1:=M.ext e1;refine go ?_;refine VC 1 rfl rfl ?_;have oY:U3 hB (inC (zC 1 h1)) (.pointer (some ⟨gu,0,none⟩)) [.slice t1 t2 t3,.slice f1 f2 f3,.slice s1 s2 s3,.slice r1 r2 r3,I (yC T F),.slice k1 k2 k3,I f,I r,Zc po]:=ye 1 (M1.ou);have sY:WJ (inC (zC 1 h1)) (.slice r1 r2 r3) (Bi T F):=YR 1 (M1.oR.sl);have o3Y:U3 h (inC (zC 1 h1)) p3 [.int .u8 x.op,I x.ty,I x.a,I x.b,I x.n,.slice a1 a2 a3,.slice b1 b2 b3]:=ye 1 (o3);have saY:WJ (inC (zC 1 h1)) (.slice a1 a2 a3) x.args:=YR 1 ((sa.ext e1));refine WM ?_;refine VA (yw oY sY C.hs hf r hr) ?_;rintro _ _ ⟨rfl,rfl⟩;refine WO.nil (ZU zw ?_);refine WM ?_;refine YZ (j:=2) o3 (by show h1.n<=h1.n+1;omega) ?_;refine WM ?_;refine VA (yw oY sY C.hs hf x.a ⟨ha.1,by omega⟩) ?_;rintro _ _ ⟨rfl,rfl⟩;refine WO.nil (ZU zw ?_);refine WM ?_;refine YZ (j:=5) o3 (by show h1.n<=h1.n+1;omega) ?_;refine WM ?_;refine VA (zHd oY sY C.hs hf _ x.args saY (fun a ha=>by have:=har a ha;omega) (by omega)) ?_;rintro w X ⟨oW,eX⟩;refine nE eX ?_;have oXq:=oY.ext eX;have oX:U3 hB (inC X) (.pointer (some ⟨gu,0,none⟩)) [.slice t1 t2 t3,.slice f1 f2 f3,.slice s1 s2 s3,.slice r1 r2 r3,I (yC T F),.slice k1 k2 k3,I f,I r,Zc po]:=oXq;obtain⟨w1,w2,w3,rfl⟩:=WZ.shape oW.sl;refine WM ?_;have hd:∃ Dn:Nat->Prop,Bl RCn X [.int .u8 6,I (We T F f r),I (We T F f x.a),I 0,.slice w1 w2 w3] ⟨6,We T F f r,We T F f x.a,0,x.args.map (We T F f)⟩ Dn/\∀ k,Dn k->h1.n<k/\k<X.n:=by
  have hlm:(x.args.map (We T F f)).length<=1000:=by rw[Qz];omega
  rcases id oW with ⟨e,hz⟩|⟨g,g1,g2,e,g3⟩
  ·rw[e,hz];exact⟨fun _=>False,fun hx _ _=>⟨_,rfl,WJ.nil hx,by simp⟩,fun _ h=>h.elim⟩
  ·have g1:h1.n+1<=g:=g1;refine⟨fun k=>k=g,fun hx h1 h2=>⟨_,rfl,?_,hlm⟩,fun k hk=>by subst hk;omega⟩;rw[e];exact WJ.own (QG g2 h2) (h1 g _ rfl g3)
 obtain⟨Dn,hd1,hd2⟩:=hd;refine WN.add (⟨6,We T F f r,We T F f x.a,0,x.args.map (We T F f)⟩:WU) Dn C M1 eX (by omega) hd1 hd2 ?_;intro H vO' t' hsame MH kH;refine go ?_;refine W5 ?_;exact⟨vO',MH,(WL.ext e1).trans kH⟩
def zOw:U0:=(oV (oR [oB .lss 16 15 14]) (oV (oT 16 0) (oV (o5 1 (oV (oR [oI 1 17 13 15,oL 18 17,oM 5 18]) (o6 [oM 19 0,(⟨some 20,none,(.nilCheck (.tmp 19))⟩,[]),oF 8 21 20,oL 22 21,oM 23 0,oM 24 0,(⟨some 25,none,(.nilCheck (.tmp 24))⟩,[]),oF 7 26 25,oL 27 26,(o2 28 30 23 27,[3]),oM 29 5,(⟨some 30,none,(.build [(.int .u8 0),(.int .i64 0),(.int .i64 0),(.int .i64 0),(.slice none 0 0)] [(0,1,(.const (.int .u8 2))),(1,1,(.tmp 28)),(2,1,(.tmp 29))])⟩,[]),(⟨some 31,none,(.buildSlice 1 5 [(.int .u8 0),(.int .i64 0),(.int .i64 0),(.int .i64 0),(.slice none 0 0)] [(0,5,(.tmp 30))])⟩,[]),(⟨some 32,none,(.call (.tmp 22) [(.tmp 31)])⟩,[])]))) (oR [oC .add 33 15 1,oM 15 33]))))
def zTe:U0:=(oV (oR [oX 3 1]) (oV (oV (oR [oM 6 0,oF 1 7 3,oL 8 7,o2 9 29 6 8]) (oJ 9 .ret .skip)) (oV (oR [oM 10 0,oF 5 11 3,oL 12 11,o2 13 88 10 12,oQ 14 13,oN 15 0]) (o5 0 (.loop zOw)))))
theorem zQM (C:CE hB b vt vf pu po vS vR T F)(M:CM hB h b vt vf pu po vS vR T F vK vO ks f r out)(hf:0<=f/\f<(F.length:Int))(hr:0<=r/\r<=1000)(hl:out.length<=90000)(x:WY)(va:Value)(b1:Option Addr)(b2 b3:Nat)(sa:WJ h va x.args)(I0:CI T F ks x)(hk:ks.length<=1000)(ho:x.op=22):
  WC Tryz.prog tb 58 [pu,.agg #[.int .u8 x.op,I x.ty,I x.a,I x.b,I x.n,va,.slice b1 b2 b3]] h fun _ h'=>CP hB b vt vf pu po vS vR T F vK vO ks f r (out++if BD T x.ty then [] else zM0 T F f r x.args) h h':=by
 have hty:=I0.ty (by omega);have har:=I0.args (by omega);have hal:=I0.al;obtain⟨gu,_,_,rfl,_⟩:=id M.ou;obtain⟨s1,s2,s3,rfl⟩:=zF M.oS.sl;obtain⟨r1,r2,r3,rfl⟩:=WZ.shape M.oR.sl;obtain⟨k1,k2,k3,rfl⟩:=WZ.shape M.oK.sl;obtain⟨t1,t2,t3,rfl⟩:=zF C.E.st;obtain⟨f1,f2,f3,rfl⟩:=zF C.E.sf;obtain⟨a1,a2,a3,rfl⟩:=WZ.shape sa;replace har:=WW.mk har;refine en 34 [] zTe ?_;refine VI ?_;intro p3 h1 e1 o3;replace o3:U3 h h1 p3 [.int .u8 x.op,I x.ty,I x.a,I x.b,I x.n,.slice a1 a2 a3,.slice b1 b2 b3]:=o3;have M1:=M.ext e1;refine go ?_;refine VA (YL M1.ou (Wr.ext C.E.st M1.e) x.ty hty) ?_;rintro _ _ ⟨rfl,rfl⟩;cases hpl:BD T x.ty with
 |true=>
  refine gr ?_;exact⟨vO,by simpa using M1,WL.ext e1⟩
 |false=>
  refine go ?_;refine VA (zHd M1.ou M1.oR.sl C.hs hf _ x.args (sa.ext e1) (fun a ha=>by have:=har.out a ha;omega) (by omega)) ?_;rintro w h2 ⟨oW,e2⟩;have M2:=M1.ext e2;obtain⟨w1,w2,w3,rfl⟩:=WZ.shape oW.sl;have hlm:(x.args.map (We T F f)).length=x.args.length:=Qz ..;have hgm:∀ i,i<x.args.length->(x.args.map (We T F f)).getD i 0=We T F f (x.args.getD i 0):=fun i hi=>zFf hi;have hrb:∀ i,i<x.args.length->0<=We T F f (x.args.getD i 0)/\We T F f (x.args.getD i 0)<=10000:=fun i hi=>by
   have h1:=har.out _ (zq hi);have h2:=zEA C.hs hf;unfold We;omega
  replace hgm:=WW.mk hgm;replace hrb:=WW.mk hrb;generalize hus:x.args.map (We T F f)=us at *;have hw1:WI po (.slice w1 w2 w3):=(VF oW.since' M1.oo.within).symm;have hw2:WI vO (.slice w1 w2 w3):=(VF oW.since' fun g hg=>(ZB M1.oO g hg).2).symm;refine go ?_;refine VD [16,17,18,5,19,20,21,22,23,24,25,26,27,28,29,30,31,32,33,15] (by kernel_rfl) (fun i=>x.args.length - i) (fun i t h3=>zB t 15=I i/\i<=x.args.length/\∃ vO',CM hB h3 b (.slice t1 t2 t3) (.slice f1 f2 f3) (.pointer (some ⟨gu,0,none⟩)) po (.slice s1 s2 s3) (.slice r1 r2 r3) T F (.slice k1 k2 k3) vO' ks f r (out++(List.range i).flatMap fun (i:Nat)=>[⟨2,We T F f r,We T F f (x.args.getD i 0),0,[]⟩])/\WL po vO h2 h3 vO'/\WJ h3 (.slice w1 w2 w3) us) 0 ?_ ?_
  ·exact⟨U7,QT _,vO,by simpa using M2,WL.refl ..,oW.sl⟩
  rintro i t h3 hsame ⟨s15,hi,vO',M3,kp3,sw⟩;have oW3:=Ys oW kp3 hw1 hw2;refine go ?_;refine VE (fun hc=> ?_) (fun hc=> ?_)<;>simp only[DB]at hc
  ·have hi':i<x.args.length:=by omega
   have hg:=hgm.out i hi';have hrb':=hrb.out i hi';refine go ?_;refine VC 1 rfl rfl ?_;have oY:U3 hB (inC (zC 1 h3)) (.pointer (some ⟨gu,0,none⟩)) [.slice t1 t2 t3,.slice f1 f2 f3,.slice s1 s2 s3,.slice r1 r2 r3,I (yC T F),.slice k1 k2 k3,I f,I r,Zc po]:=ye 1 (M3.ou);have sY:WJ (inC (zC 1 h3)) (.slice r1 r2 r3) (Bi T F):=YR 1 (M3.oR.sl);refine WM ?_;refine VA (yw oY sY C.hs hf r hr) ?_;rintro _ _ ⟨rfl,rfl⟩;refine WO.nil (ZU zw ?_);refine WM ?_;rw[hg];refine WN.add (X:=inC (zC 1 _)) (⟨2,We T F f r,We T F f (x.args.getD i 0),0,[]⟩:WU) (fun _=>False) C M3 (U5.refl _) (by have:=YT (fun (i:Nat)=>[(⟨2,We T F f r,We T F f (x.args.getD i 0),0,[]⟩:WU)]) (fun _=>QE _) i;rw[QM];omega) Z7 (fun _ h=>h.elim) ?_;intro H vO2 t' hsame MH kH;refine go ?_;refine zA (i+1) (by omega) ⟨Wo,by omega,vO2,?_,kp3.trans kH,?_⟩
   ·rw[YC,<-QZ];exact MH
   ·exact(Ys oW (kp3.trans kH) hw1 hw2).sl
  ·have hii:i=x.args.length:=by omega
   subst hii;refine go ?_;refine W5 ?_;exact⟨vO',M3,(WL.ext (e1.trans e2)).trans kp3⟩
end
end
end Go.Proofs.YtmejfcakhpihlaaGreatDoor
