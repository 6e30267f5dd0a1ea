/- Walks of functions, plain laws; proves no statement. -/
import Derived.Test.YtndffgfnndoifaaGreatDoorJg
set_option linter.all false
set_option maxHeartbeats 2000000
namespace Go.Proofs.YtndffgfnndoifaaGreatDoor
open Go.Am
structure Wh where
 kind:Int
 to:Int
 frm:Int
 n:Int
 args:List Int
instance:Inhabited Wh:=⟨⟨0,0,0,0,[]⟩⟩
def OwA(h:WA)(v:Value)(l:List Int):Prop:=(v=.slice none 0 0/\l=[])\/∃ g,g<h.n/\v=.slice (some ⟨g,0,none⟩) l.length 1/\h.get g=some (.row (l.map I) true 0)
def OwA.sl{h:WA}{v:Value}{l:List Int}(o:OwA h v l):Wc h v l:=by
 rcases o with⟨rfl,rfl⟩|⟨g,g1,rfl,g2⟩
 ·exact Wc.nil h
 ·exact Wc.own g1 g2
def OwA.ext{h h':WA}{v:Value}{l:List Int}(o:OwA h v l)(e:WH h h'):OwA h' v l:=by
 rcases o with o|⟨g,g1,g2,g3⟩
 ·exact .inl o
 ·exact .inr ⟨g,QG g1 e.n,g2,(e.get g g1).trans g3⟩
def RCn(h:WA)(cs:List Value)(x:Wh):Prop:=∃ va,cs=[.int .u8 x.kind,I x.to,I x.frm,I x.n,va]/\OwA h va x.args/\x.args.length<=1000
def RCn.ext{h h' cs x}(r:RCn h cs x)(e:WH h h'):RCn h' cs x:=let⟨va,a,b,c⟩:=r;⟨va,a,b.ext e,c⟩
abbrev SlO(h:WA)(v:Value)(l:List Wh):Prop:=W7 5 RCn h v l
def SlO.ext{h h' v l}(s:SlO h v l)(e:WH h h'):SlO h' v l:=W7.ext (fun _ _ r=>RCn.ext r e) s e
def Be(T:List WF)(t:Int):Bool:=decide ((T.getD t.toNat default).kind=1)
def Zy(T:List WF)(F:List We)(f:Int):List Int:=(yb T F f).parts++(zR F f).flatMap fun b=>b.ins.map fun x=>x.ty
def Ym(T:List WF)(f r:Int):List W9->Int->List Int->Int×List Int
 |[],a,l=>(a,l)
 |s::S,a,l=>if s.fn=f/\s.nr=r then(a+l.length,yF T s.ty.toNat)else Ym T f r S (a+l.length) (yF T s.ty.toNat)
section
variable (T:List WF)(F:List We)(f:Int)(ks:List Int)(r:Int)
def Wn(q:Int):Int:=((zt T F).take f.toNat).sum+q
def zM7(b:Int)(l:List Int):List Wh:=(List.range l.length).flatMap fun(i:Nat)=>if Be T (l.getD i 0)then[]else[⟨1,b+i,0,0,[]⟩]
def zHR(g:Int)(ps us:List Int):List Wh:=(List.range ps.length).flatMap fun(i:Nat)=>if Be T (ps.getD i 0)then[]else[⟨2,Wn T F g i,Wn T F f (us.getD i 0),0,[]⟩]
def zPE(us:List Int):List Wh:=(List.range us.length).flatMap fun(i:Nat)=>[⟨2,Wn T F f r,Wn T F f (us.getD i 0),0,[]⟩]
def zHY(q:Int×List Int):List Wh:=⟨1,Wn T F f r,0,1+F.length+q.1,[]⟩::zM7 T (zV T F+F.length+q.1) q.2
def YH(x:Wu):List Wh:=
 if x.op=2\/x.op=3 then[⟨1,Wn T F f r,0,if x.op=3 then x.n+1 else 0,[]⟩]
 else if x.op=11\/x.op=12 then zHY T F f r (Ym T f r (zW T F) 0 [])
 else if x.op=14\/x.op=15 then[⟨3,Wn T F f r,Wn T F f x.a,if x.op=14 then stepL T (T.getD (ks.getD x.a.toNat 0).toNat default).elem x.n else 0,[]⟩]
 else if x.op=16 then(if Be T x.ty then[]else[⟨4,Wn T F f r,Wn T F f x.a,0,[]⟩])
 else if x.op=17 then(if Be T (ks.getD x.b.toNat 0)then[]else[⟨5,Wn T F f x.a,Wn T F f x.b,0,[]⟩])
 else if x.op=18 then zHR T F f x.n (yb T F x.n).parts x.args++(if Be T x.ty then[]else[⟨2,Wn T F f r,zV T F+x.n,0,[]⟩])
 else if x.op=19 then[⟨6,Wn T F f r,Wn T F f x.a,0,x.args.map (Wn T F f)⟩]
 else if x.op=22 then(if Be T x.ty then[]else zPE T F f r x.args)
 else[]
end
def zJH(T:List WF)(F:List We)(f:Int)(B:Wk):List Wh:=
 if B.fin.kind=3 then(if Be T (yb T F f).elem then[]else[⟨2,zV T F+f,Wn T F f B.fin.a,0,[]⟩])else[]
def zHp(T:List WF)(F:List We)(f r:Int)(l:List Wu):List Wh:=(List.range l.length).flatMap fun(i:Nat)=>YH T F f (Zy T F f) (r+i) (l.getD i default)
def consB(T:List WF)(F:List We)(f:Int)(L:List Wk)(n:Nat):List Wh:=(List.range n).flatMap fun(b:Nat)=>zHp T F f ((yb T F f).parts.length+zL (L.take b)) (L.getD b default).ins++zJH T F f (L.getD b default)
def zBE(T:List WF)(F:List We)(n:Nat):List Wh:=(List.range n).flatMap fun(f:Nat)=>consB T F f (zR F f) (zR F f).length
noncomputable def Y9(T:List WF)(F:List We):List Wh:=if zb T F=0 then zBE T F F.length else[]
def yt{α:Type}(g:Nat->List α)(n:Nat):(List.range (n+1)).flatMap g=(List.range n).flatMap g++g n:=by
 rw[JC,List.flatMap_append];simp
structure CI(T:List WF)(F:List We)(ks:List Int)(x:Wu):Prop where
 op:0<=x.op/\x.op<=22
 n3:x.op=3->0<=x.n/\x.n<(F.length:Int)
 a14:x.op=14\/x.op=15\/x.op=16\/x.op=17\/x.op=19->0<=x.a/\x.a<(ks.length:Int)
 qL:x.op=14->∃ s,(T.getD (ks.getD x.a.toNat 0).toNat default).elem=s/\(0<=ks.getD x.a.toNat 0/\ks.getD x.a.toNat 0<(T.length:Int))/\(0<=s/\s<(T.length:Int))/\(T.getD s.toNat default).kind=4/\0<=x.n/\x.n<((T.getD s.toNat default).parts.length:Int)
 ty:x.op=16\/x.op=18\/x.op=22->0<=x.ty/\x.ty<(T.length:Int)
 b17:x.op=17->(0<=x.b/\x.b<(ks.length:Int))/\0<=ks.getD x.b.toNat 0/\ks.getD x.b.toNat 0<(T.length:Int)
 qM:x.op=18->(0<=x.n/\x.n<(F.length:Int))/\(yb T F x.n).parts.length=x.args.length/\(0<=(F.getD x.n.toNat default).sig/\(F.getD x.n.toNat default).sig<(T.length:Int))/\∀ t∈(yb T F x.n).parts,0<=t/\t<(T.length:Int)
 args:x.op=18\/x.op=19\/x.op=22->∀ a∈x.args,0<=a/\a<(ks.length:Int)
 al:x.args.length<=20
def zU8:(zl 14).1=true/\(zl 15).1=true/\(zl 16).1=true/\(zl 17).1=true/\(zl 19).1=true/\(zl 17).2.1=true/\(zl 18).2.2.2.1=true/\(zl 19).2.2.2.1=true/\(zl 22).2.2.2.1=true/\(zl 14).2.1=false/\(zl 14).2.2.2.1=false/\(zl 18).1=false/\(zl 18).2.1=false/\(zl 19).2.1=false/\(zl 22).1=false/\(zl 22).2.1=false:=by decide
def zT7{T:List WF}{F:List We}{f:Int}{i:Nat}(h:(B7 T F f).getD i 0≠ -1):(Zy T F f).getD i 0=(B7 T F f).getD i 0/\(Zy T F f).length=(B7 T F f).length:=by
 have key:∀ (L:List Wk),(L.flatMap fun b=>b.ins.map fun x=>x.ty).length=(Zd L).length/\∀ j,(Zd L).getD j 0≠ -1->(L.flatMap fun b=>b.ins.map fun x=>x.ty).getD j 0=(Zd L).getD j 0:=by
  intro L;have h1:Zd L=(L.flatMap fun b=>b.ins).map zBk:=by unfold Zd;rw[List.map_flatMap]
  have h2:(L.flatMap fun b=>b.ins.map fun x=>x.ty)=(L.flatMap fun b=>b.ins).map fun x=>x.ty:=by rw[List.map_flatMap]
  rw[h1,h2];refine⟨by simp,fun j hj=> ?_⟩;generalize(L.flatMap fun b=>b.ins)=l at *;simp only[QD,GQ]at *;cases hx:l[j]? with
  |none=>rfl
  |some x=>
   rw[hx]at hj;simp only[QL,GG]at *;unfold zBk at *;split
   ·rfl
   ·rename_i q;rw[QC q]at hj;exact absurd rfl hj
 unfold B7 zEF at h |-;unfold Zy;refine⟨?_,by rw[QH,QH,(key _).1]⟩;by_cases q:i<(yb T F f).parts.length
 ·rw[zHV q,zHV q]
 ·rw[zEJ ω]at h;rw[zEJ ω,zEJ ω];exact(key (zR F f)).2 _ h
def zDJ(T:List WF)(F:List We)(f:Int):(Zy T F f).length=(B7 T F f).length:=by
 unfold Zy B7 zEF Zd;simp
def zOq{T:List WF}{F:List We}(hs:zb T F=0){f:Nat}(hf:f<F.length){b:Nat}(hb:b<(zR F f).length){i:Nat}(hi:i<((zR F f).getD b default).ins.length):
  CI T F (Zy T F f) (((zR F f).getD b default).ins.getD i default):=by
 obtain⟨hp,hw⟩:=z8 hs;have Z:=zC5 hp (f:=(f:Int)) ω;have W:=(hw f ω ω).2.2 b ω ω;have h1:=W.1 i (by rw[QZ];exact hi);have wu:(zR F f).getD b default∈zR F f:=zH hb;have hV:=Z.V _ wu _ (zH hi);have hU:=(Z.U _ wu).ins _ (zH hi);have hc:=Z.hc;have mX:= @zT7 T F f;have hlen:=zDJ T F f;have Ap:=Z.ks;unfold Yn zIM at h1;rw[QZ]at h1;obtain⟨g1,g2,-,-⟩:=h1;generalize((zR F f).getD b default).ins.getD i default=x at *;have bD:∀ r∈yc x,(B7 T F f).getD r.toNat 0≠ -1:=fun r hr e=>g1 (Qw.2 ⟨r,hr,e⟩);have tu:∀ r∈yc x,(0<=r/\r<((Zy T F f).length:Int))/\(Zy T F f).getD r.toNat 0=(B7 T F f).getD r.toNat 0/\0<=(Zy T F f).getD r.toNat 0/\(Zy T F f).getD r.toNat 0<(T.length:Int):=fun r hr=>by
  have h1:=hU.uses r hr;have h2:=mX (bD r hr);have h3:=Ap _ (zd (l:=B7 T F f) (i:=r.toNat) ω);refine⟨ω,h2.1,?_⟩;rw[h2.1];exact h3.resolve_left (bD r hr)
 obtain⟨O6,u15,u16,Eg,AG,O7,O8,w19,w22,O9,EX,Pa,EZ,z19,z22,Pb⟩:=zU8;have ha:x.op=14\/x.op=15\/x.op=16\/x.op=17\/x.op=19->x.a∈yc x:=fun h=>by
  unfold yc;have:(zl x.op).1=true:=by rcases h with e|e|e|e|e<;>rw[e]<;>assumption
  rw[QJ this];simp
 have aR:x.op=17->x.b∈yc x:=fun e=>by
  unfold yc;rw[e,QJ O7];simp
 have js:x.op=18\/x.op=19\/x.op=22->∀ a∈x.args,a∈yc x:=fun h a hm=>by
  unfold yc;have:(zl x.op).2.2.2.1=true:=by rcases h with e|e|e<;>rw[e]<;>assumption
  rw[QJ this];simp[hm]
 refine⟨⟨by have:=hU.op;omega,hU.op.2⟩,fun e=>hV.n2 (.inl e),fun e=>(tu _ (ha e)).1,fun e=> ?_,fun e=> ?_,fun e=>⟨(tu _ (aR e)).1,(tu _ (aR e)).2.2⟩,fun e=> ?_,fun e a hm=>(tu _ (js e a hm)).1,hU.args⟩
 ·have hx:=tu _ (ha (.inl e));have hu:yc x=[x.a]:=by unfold yc;rw[e,QJ O6,O9,EX];rfl
  rw[hu]at g2;unfold zB4 zNY at g2;simp only[e,Yj,Qi,Gc]at g2;simp at g2;(try simp only[<-QD]at g2);obtain⟨g3,g4⟩:=g2;rw[<-hx.2.1]at g3 g4;have aq:Bj T ((Zy T F f).getD x.a.toNat 0):= .inr hx.2.2;have h5:=zGU hc aq;have h6:=zLR g3;refine⟨_,rfl,hx.2.2,?_⟩;have h7:Bq T ((Zy T F f).getD x.a.toNat 0)=(T.getD ((Zy T F f).getD x.a.toNat 0).toNat default).elem:=by
   unfold Bq at h6 |-;split
   ·rfl
   ·rename_i q;rw[QC q]at h6;exact absurd rfl h6
  unfold zJS zAa at g4;rw[h7]at g3 g4 h5 h6;refine⟨h5.resolve_left h6,?_,hV.n14 e,?_⟩
  ·unfold BD at g3;simp only[QI,Qc]at g3;exact g3.2
  ·have Pc:BD T 5 (T.getD ((Zy T F f).getD x.a.toNat 0).toNat default).elem=false:=by
    unfold BD at g3 |-;simp only[QI,Qc]at g3;rw[g3.2];simp
   rw[QC h6,g3,Pc]at g4;refine JB fun hn=> ?_;rw[QY hn]at g4;simp at g4
 ·have aq:=hV.ty;refine aq.resolve_left fun e1=> ?_;unfold zB4 zNY at g2;rcases e with e|e|e
  ·simp[e]at g2;(try simp only[<-QD]at g2);have h1:=g2.1;rw[<-g2.2,e1]at h1;unfold zGj BD at h1;simp at h1
  ·simp[e]at g2;have hn:=hV.n2 (.inr e);have Zn:=zC5 hp (f:=x.n) hn;unfold zHg sigF at g2;simp only[QI,Qc]at g2;(try simp only[<-QD]at g2);have h2:=Zn.el;unfold yb PlT at h2;rw[g2.2]at h2;omega
  ·simp[e]at g2;rw[e1]at g2;unfold zGj BD at g2;simp at g2
 ·have hn:=hV.n2 (.inr e);have Zn:=zC5 hp (f:=x.n) hn;have hu:yc x=x.args:=by unfold yc;rw[e,Pa,EZ,O8];simp
  rw[hu]at g2;unfold zB4 zHg sigF at g2;simp[e]at g2;(try simp only[<-QD]at g2);refine⟨hn,?_,Zn.sig,fun t ht=> ?_⟩
  ·unfold yb;rw[g2.1.2];unfold Yj;simp
  ·have:=Zn.par t ht;unfold PlT at this;omega
set_option maxRecDepth 100000
section
variable {P:Program}{tab:Ws}{t:WG Value}{h:WA}{ds:List Deferred}{rd:Option Nat}{l:List WE}{Q:WM->WA->Prop}
def Ut{α:Type}{c b d2 gl:Nat}{R:WA->List Value->α->Prop}{hB:WA}{v:Value}{xs:List α}{cs:List Value}(a:α)(Dn:Nat->Prop){x y:Operand}(o:WR c R b h v xs)(e0:WH hB h)(hb:hB.n<=b)(dC:b<=h.n)(a8:0<c)(hl:xs.length<=100000)
  (d:B6 R h cs a Dn) (hD:∀ k,Dn k->b<=k/\k<h.n) (hv:∀ g n k,v=.slice (some ⟨g,0,none⟩) n k->¬Dn g) (hc:cs.length=c) (h1:zK cs=true) (hg:h.get gl=some (.row cs true 0)) (fA:gl<h.n)
  (k:∀ v' h',WH hB h'->WR c R b h' v' (xs++[a])->h.n<=h'.n->(∀ k,k<h.n->(∀ n k',v≠ .slice (some ⟨k,0,none⟩) n k')->h'.get k=h.get k)->(∀ k∈h'.wr,k∈h.wr\/b<=k)->zB3 h v'->WO P tab l ⟨t.set d2 v',ds,rd⟩ h' Q)
  (hx:WN t x v:=by exact zO) (hy:WN t y (.slice (some ⟨gl,0,none⟩) 1 c):=by exact zO):
  WO P tab (⟨some d2,none,.append c x y⟩::l) ⟨t,ds,rd⟩ h Q:=by
 have hx:ev t x=v:=hx;have hy:ev t y=.slice (some ⟨gl,0,none⟩) 1 c:=hy;obtain⟨v',H',q1,q2,q3,q4,q5,q6,q7,q8,n',k',g',q9,nL⟩:=YJ (H:=h) (gl:=gl) o hc a8 h1 hl dC d hD hv (QF _) fA (fun _ _=>rfl) hg;refine WO.op v' H' rfl (by simp only[WK,hx,hy,q1]) (k v' H' ?_ q2 (by rw[q3];exact GU _) q4 q6 fun j hj=>by subst q9;cases hj;exact nL);have gf:∀ k,k<hB.n->∀ n k',v≠ .slice (some ⟨k,0,none⟩) n k':=fun k hk n k' e=>by
  rcases o with⟨e2,_⟩|⟨g,_,_,g1,_,e2,_⟩
  ·rw[e2]at e;cases e
  ·rw[e2]at e;cases e;omega
 have hn:=e0.n;exact⟨by rw[q3];omega,fun k hk=>by rw[q4 k ω (gf k hk)];exact e0.get k hk,fun w=>q8 (e0.wf w),q5.trans e0.mark,fun hm=>by rw[q7 (by rw[e0.mark];omega)];exact e0.wr hm⟩
end
def zZ{α:Type}{c b:Nat}{R:WA->List Value->α->Prop}{h:WA}{v:Value}{xs:List α}(o:WR c R b h v xs):∀ g,BJ v=some g->b<=g/\g<h.n:=fun g hg=>by
 rcases o with⟨rfl,_⟩|⟨g,_,_,g1,g2,rfl,_⟩
 ·cases hg
 ·cases hg;exact⟨g1,g2⟩
def zMO(hB h:WA)(b gl:Nat)(po vO:Value)(out:List Wh)(x:Wh)(cs:List Value)(Dn:Nat->Prop)(e:WH hB h)(hb:hB.n<=b)(dC:b<=h.n)(oo:WB hB h po [vO])(pb:∀ g,BJ po=some g->g<b)(oO:WR 5 RCn b h vO out)(hl:out.length<=100000)
  (d:B6 RCn h cs x Dn) (hD:∀ k,Dn k->b<=k/\k<h.n) (hv:∀ g n k,vO=.slice (some ⟨g,0,none⟩) n k->¬Dn g) (hc:cs.length=5) (h1:zK cs=true) (hg:h.get gl=some (.row cs true 0)) (fA:gl<h.n):
  G0 55 [.slice (some ⟨gl,0,none⟩) 1 5,po] h fun r h'=>∃ bk,WH hB h'/\WB hB h' po [bk]/\WR 5 RCn b h' bk (out++[x])/\Wg po vO h h' bk/\∀ k∈h'.wr,k∈h.wr\/hB.n<=k:=by
 obtain⟨v1,v2,v3,Pe⟩:∃ a n k,vO=.slice a n k:=by
  rcases oO with⟨rfl,_⟩|⟨g,_,_,_,_,rfl,_⟩
  ·exact⟨_,_,_,rfl⟩
  ·exact⟨_,_,_,rfl⟩
 subst Pe;have hpo:=oo.within;refine en ?_;refine Ut x Dn oO e hb dC (by decide) hl d hD hv hc h1 hg fA ?_;intro v' h2 e2 o2 n2 k2 w2 s2;have tw:WB hB h2 po [.slice v1 v2 v3]:=by
  obtain⟨g,g1,g2,rfl,g3⟩:=oo;refine⟨g,g1,QG g2 n2,rfl,(k2 g g2 fun n k' e=> ?_).trans g3⟩;have h1:=pb g rfl;have h2:=(zZ oO g (by rw[e];rfl)).1;omega
 obtain⟨a1,a2,a3,rfl⟩:∃ a n k,v'=.slice a n k:=by
  rcases o2 with⟨rfl,_⟩|⟨g,_,_,_,_,rfl,_⟩
  ·exact⟨_,_,_,rfl⟩
  ·exact⟨_,_,_,rfl⟩
 refine go ?_;refine V3 (cs:=[.slice a1 a2 a3]) tw e2 ?_;intro h3 e3 o3 u3 w3;refine go ?_;refine BN ?_;refine⟨_,e3,o3,?_,⟨QM n2 u3.1,fun g hg h1 h2=> ?_,fun k hk=> .inr (s2 k hk)⟩,fun k hk=> ?_⟩
 ·refine WR.upd o2 (fun k k1 k2=>u3.2 k k2 fun e=> ?_) u3.1;have:=pb k (by rw[e];rfl);omega
 ·rw[u3.2 g (QG hg n2) fun e=>h1 (by rw[e];rfl),k2 g hg fun n k' e=>h2 (by rw[e];rfl)]
 ·rcases w3 k hk with h|h
  ·rcases w2 k h with h|h
   ·exact .inl h
   ·exact .inr ω
  ·exact .inr h
def zu{h0 h:WA}{p:Value}{cs:List Value}(k:Nat)(o:WB h0 h p cs):WB h0 (inC (zB k h)) p cs:=by
 have:=o.ext (zG k h);exact this
def YW{h:WA}{v:Value}{l:List Int}(k:Nat)(s:Wc h v l):Wc (inC (zB k h)) v l:=by
 have:=s.ext (zG k h);exact this
def zKq{h:WA}{v:Value}{l:List WF}(k:Nat)(s:BB h v l):BB (inC (zB k h)) v l:=by
 have:=BB.ext s (zG k h);exact this
structure CE(hB:WA)(b:Nat)(vt vf pu po vS vR:Value)(T:List WF)(F:List We):Prop where
 E:SE hB vt vf T F
 hs:zb T F=0
 hm:hB.mark<=hB.n
 bn:hB.n<=b
 bu:∀ g,BJ pu=some g->g<b
 bo:∀ g,BJ po=some g->g<b
 bS:∀ g,BJ vS=some g->g<b
 bR:∀ g,BJ vR=some g->g<b
 uo:WY pu po
 uS:WY pu vS
 uR:WY pu vR
 oS:WY po vS
 oR:WY po vR
def Zr(po:Value):Value:= .func (.func 55) #[] #[po]
structure CM(hB h:WA)(b:Nat)(vt vf pu po vS vR:Value)(T:List WF)(F:List We)(vK vO:Value)(ks:List Int)(f r:Int)(out:List Wh):Prop where
 e:WH hB h
 hb:b<=h.n
 ou:WB hB h pu [vt,vf,vS,vR,I (zV T F),vK,I f,I r,Zr po]
 oo:WB hB h po [vO]
 oS:WR 3 RSt hB.n h vS (zW T F)
 oR:WP hB h vR ((List.range F.length).map fun i=>((zt T F).take i).sum)
 oK:WP hB h vK ks
 oO:WR 5 RCn b h vO out
 kb:∀ g,BJ vK=some g->b<=g
 ko:WY vO vK
section
variable {hB h h':WA}{b:Nat}{vt vf pu po vS vR vK vO bk:Value}{T:List WF}{F:List We}{ks:List Int}{f r:Int}{out:List Wh}{x:Wh}
def CM.ext(M:CM hB h b vt vf pu po vS vR T F vK vO ks f r out)(e:WH h h'):CM hB h' b vt vf pu po vS vR T F vK vO ks f r out:=
 ⟨M.e.trans e,QM M.hb e.n,M.ou.ext e,M.oo.ext e,WR.ext M.oS e,M.oR.ext e,M.oK.ext e,WR.ext M.oO e,M.kb,M.ko⟩
def zAN{h0:WA}{v w w' p:Value}{l:List Int}(o:WP h0 h v l)(k:Wg p w h h' w')(d1:WY p v)(d2:WY w v):WP h0 h' v l:=by
 rcases o with o|⟨g,g1,g2,rfl,g3⟩
 ·exact .inl o
 ·exact .inr ⟨g,g1,QG g2 k.1,rfl,(k.2.1 g g2 (fun e=>d1 g e rfl) fun e=>d2 g e rfl).trans g3⟩
def zNR{n:Nat}{v w w' p:Value}{l:List W9}(o:WR 3 RSt n h v l)(k:Wg p w h h' w')(d1:WY p v)(d2:WY w v):WR 3 RSt n h' v l:=by
 rcases o with o|⟨g,cells,D,g1,g2,rfl,g4,g5,g6,g7,g8⟩
 ·exact .inl o
 ·exact .inr ⟨g,cells,fun _=>False,g1,QG g2 k.1,rfl,(k.2.1 g g2 (fun e=>d1 g e rfl) fun e=>d2 g e rfl).trans g4,g5,fun h=>h,fun k h=>h.elim,fun i a ha=>fun _ _ _=>(g8 i a ha).self⟩
def CM.add(M:CM hB h b vt vf pu po vS vR T F vK vO ks f r out)(C:CE hB b vt vf pu po vS vR T F)(k:Wg po vO h h' bk)(e:WH hB h')(oo:WB hB h' po [bk])(oO:WR 5 RCn b h' bk (out++[x])):
  CM hB h' b vt vf pu po vS vR T F vK bk ks f r (out++[x]):=by
 have hO:=zZ M.oO;have low:∀ {v},(∀ g,BJ v=some g->g<b)->WY vO v:=fun hv g h1 h2=>by
  have:=hv g h2;have:=(hO g h1).1;omega
 have Pf:WY po vK:=fun g h1 h2=>by
  have:=C.bo g h1;have:=M.kb g h2;omega
 refine⟨e,QM M.hb k.1,(VN M.ou k C.uo.symm (low C.bu)).1,oo,zNR M.oS k C.oS (low C.bS),zAN M.oR k C.oR (low C.bR),zAN M.oK k Pf M.ko,oO,M.kb,fun g h1 h2=> ?_⟩;rcases k.2.2 g h1 with h|h
 ·exact M.ko g h h2
 ·have:=WP.within M.oK g h2;omega
end
section
variable {m N0:Nat}{cl:Bool}{K:WL->WM->WA->Prop}{t:WG Value}{ds:List Deferred}{rd:Option Nat}
def Wb.add{hB hS X:WA}{b d1 d2 a2 a3:Nat}{a1:Option Addr}{vt vf pu po vS vR vK vO:Value}{T:List WF}{F:List We}{ks:List Int}{f r:Int}{out:List Wh}{y z:Operand}{zero:List Value}(x:Wh)(Dn:Nat->Prop)(C:CE hB b vt vf pu po vS vR T F)(M:CM hB hS b vt vf pu po vS vR T F vK vO ks f r out)(eX:WH (Am.inC (zB 1 hS)) X)(hl:out.length<=100000)
  (d:B6 RCn X [.int .u8 x.kind,I x.to,I x.frm,I x.n,.slice a1 a2 a3] x Dn) (hD:∀ k,Dn k->hS.n<k/\k<X.n)
  (k:∀ H bk t',zDg [d1,d2] t t'->CM hB H b vt vf pu po vS vR T F vK bk ks f r (out++[x])->Wg po vO hS H bk->K .normal ⟨t',ds,rd⟩ H)
  (hx:WN t y (.agg #[.int .u8 x.kind,I x.to,I x.frm,I x.n,.slice a1 a2 a3]):=by exact zO) (hz:zero.length=5:=by rfl) (hf:∀ u,WN (t.set d1 u) z (Zr po):=by intro u;exact zO) (gg:m=hS.mark:=by rfl):
  Wb Tryz.prog tb m N0 [(⟨some d1,none,.buildSlice 1 5 zero [(0,5,y)]⟩,[]),(⟨some d2,none,.call z [.tmp d1]⟩,[])] hS.n cl ⟨t,ds,rd⟩ (Am.inC X) (SJ K hS):=by
 subst gg;have hx:ev t y=.agg #[.int .u8 x.kind,I x.to,I x.frm,I x.n,.slice a1 a2 a3]:=hx;have hw:(Value.agg #[.int .u8 x.kind,I x.to,I x.frm,I x.n,.slice a1 a2 a3]).cells=[Value.int .u8 x.kind,I x.to,I x.frm,I x.n,.slice a1 a2 a3].toArray:=by rfl
 have jC:=YB (c:=5) (zero:=zero) hw rfl hz;have C0:hS.n+1<=X.n:=eX.n;have e0:=M.e;have Pg:=e0.n;have E6:=M.hb;have Ph:=C.bn;have de:hS.mark<=hB.n:=by rw[e0.mark];exact C.hm
 rw[Wb,QJ (show Nat.beq (zE (Wz.buildSlice 1 5 zero [(0,5,y)])) 3=true from rfl)];refine⟨rfl,.inl ⟨rfl,ω,.row [.int .u8 x.kind,I x.to,I x.frm,I x.n,.slice a1 a2 a3] true 0,_,by simp only[yh,zr,Qi,Gc,hx];rw[jC];rfl,?_⟩⟩;generalize iu:(Am.inC (Am.inC X)).lay hS.n (.row [.int .u8 x.kind,I x.to,I x.frm,I x.n,.slice a1 a2 a3] true 0)=H1;have n1:H1.n=X.n:=by rw[<-iu];rfl
 have aV:∀ c',H1.get c'=if c'=hS.n then some (.row [.int .u8 x.kind,I x.to,I x.frm,I x.n,.slice a1 a2 a3] true 0)else X.get c':=fun c'=>by rw[<-iu];exact zU _ _ _ _
 have eC:∀ k,k<hS.n->X.get k=hS.get k:=fun k hk=>eX.get k (by show k<hS.n+1;omega);have mY:∀ k,k<hS.n->H1.get k=hS.get k:=fun k hk=>by rw[aV,QC ω,eC k hk]
 have jT:WR 5 RCn b (Am.inC H1) vO out:=M.oO.upd (fun k _ hk=>mY k hk) (by show hS.n<=H1.n;omega);have qd:B6 RCn (Am.inC H1) [.int .u8 x.kind,I x.to,I x.frm,I x.n,.slice a1 a2 a3] x Dn:=d.mono (fun _ h=>h) (fun k o hd e=>by
  show H1.get k=_;have:=hD k hd;rw[aV,QC ω];exact e) (by show X.n<=H1.n;omega)
 have E1:WH {hB with mark:=H1.n,wr:=[]} (Am.inC H1):=⟨by show hB.n<=H1.n;omega,fun g hg=>(mY g (QG hg Pg)).trans (e0.get g hg),fun w g hg=>by
  have hg:H1.n<=g:=hg;show H1.get g=none;rw[aV,QC ω];exact eX.wf (fun q hq=>e0.wf w q (by have hq:hS.n+1<=q:=hq;omega)) g ω,rfl,fun _=>rfl⟩
 have Pj:WB {hB with mark:=H1.n,wr:=[]} (Am.inC H1) po [vO]:=by
  obtain⟨g,g1,g2,g3,g4⟩:=M.oo;exact⟨g,g1,by show g<H1.n;omega,g3,(mY g g2).trans g4⟩
 rw[Wb,QC (show ¬Nat.beq (zE (Wz.call z [.tmp d1])) 3=true from Bool.noConfusion)];refine VJ (WV.func (args:=[.slice (some ⟨hS.n,0,none⟩) 1 5]) (first:=#[]) (cap:=#[po]) (zMO _ _ b hS.n po vO out x _ Dn E1 Ph (by show b<=H1.n;omega) Pj C.bo jT hl qd (fun k hd=>⟨by have:=hD k hd;omega,by have:=hD k hd;show k<H1.n;omega⟩) (fun g n k e hd=>by
  have h1:=(zZ M.oO g (by rw[e];rfl)).2;have h2:=hD g hd;omega) rfl rfl (by show H1.get hS.n=_;rw[aV,QJ rfl]) (by show hS.n<H1.n;omega))) ?_ (hf _) (Bk.cons (WN.tmp Wt.here) Bk.nil)
 rintro _ h3 ⟨bk,e3,o3,Pk,k3,w3⟩;have tP:H1.n<=h3.n:=k3.1;refine WO.nil ⟨⟨fun c' bH=> ?_,tP,.inl rfl⟩,?_⟩
 ·rcases w3 c' bH with h|h
  ·cases h
  ·have h:hB.n<=c':=h;omega
 have kk:Wg po vO hS (Am.z9 hS h3) bk:=⟨by show hS.n<=h3.n;omega,fun g hg h1 h2=>(k3.2.1 g (by show g<H1.n;omega) h1 h2).trans (mY g hg),fun q hq=>by
  rcases k3.2.2 q hq with h|h
  ·exact .inl h
  ·exact .inr (by have h:H1.n<=q:=h;omega)⟩
 exact k _ bk _ (fun j hj=>by
  simp only[zGv,QI,Ge]at hj;rw[zg,zg,QC (fun e=>by subst e;simp at hj),QC (fun e=>by subst e;simp at hj)]) (M.add C kk ⟨e3.n,e3.get,fun w=>e3.wf w,e0.mark,fun hm=>e0.wr hm⟩ o3 (Pk.upd (fun _ _ _=>rfl) (QF _))) kk
end
def Zz(T:List WF)(F:List We):List Int:=(List.range F.length).map fun i=>((zt T F).take i).sum
def zFb{T:List WF}{F:List We}(hs:zb T F=0){f:Int}(hf:0<=f/\f<(F.length:Int)):f<((Zz T F).length:Int)/\(Zz T F).getD f.toNat 0=((zt T F).take f.toNat).sum/\0<=((zt T F).take f.toNat).sum/\((zt T F).take f.toNat).sum<=8000/\0<=zV T F/\zV T F<=8000:=by
 obtain⟨hb,hl,h1,h8⟩:=zAI hs;have h2:=zAC (l:=(zt T F).take f.toNat) fun x hx=>hb x (GO hx);have h3:=zAC hb;have h4:((zt T F).take f.toNat).length<=f.toNat:=List.length_take_le _ _;unfold Zz zV;refine⟨by simp;omega,?_,ω,ω,ω,ω⟩;have:f.toNat<F.length:=ω
 simp[List.getD,this]
section
variable {h h0 hB:WA}{b:Nat}{vt vf pu po vS vR vK vO av:Value}{T:List WF}{F:List We}{ks:List Int}{f r A:Int}{out:List Wh}
def ZH(ou:WB h0 h pu [vt,vf,vS,vR,I A,vK,I f,I r,av])(sR:Wc h vR (Zz T F))(hs:zb T F=0)(hf:0<=f/\f<(F.length:Int))(q:Int)(hq:0<=q/\q<=1000):
  G0 60 [pu,I q] h fun x h'=>x=I (Wn T F f q)/\h=h':=by
 obtain⟨h1,h2,h3,h4,-⟩:=zFb hs hf;unfold Wn;rw[<-h2]at h3 h4 |-;generalize Zz T F=L at *;obtain⟨gu,_,_,rfl,_⟩:=id ou;obtain⟨r1,r2,r3,rfl⟩:=Wm.shape sR;refine en ?_;refine gr ?_;exact⟨rfl,rfl⟩
def Yz(ou:WB h0 h pu [vt,vf,vS,vR,I A,vK,I f,I r,av])(st:BB h vt T)(t:Int)(ht:0<=t/\t<(T.length:Int)):
  G0 59 [pu,I t] h fun x h'=>x=.bool (Be T t)/\h=h':=by
 unfold Be;obtain⟨cs,⟨va,rfl,sa,dP⟩,pc,hs⟩:=ZX (i:=t.toNat) st ω;obtain⟨gu,_,_,rfl,_⟩:=id ou;obtain⟨t1,t2,t3,rfl⟩:=zD st;obtain⟨a1,a2,a3,rfl⟩:=Wm.shape sa;refine en ?_;refine rt ?_;exact⟨rfl,rfl⟩
def zJg(ou:WB h0 h pu [vt,vf,vS,vR,I A,vK,I f,I r,av])(sK:Wc h vK ks)(q:Int)(hq:0<=q/\q<(ks.length:Int)):
  G0 173 [pu,I q] h fun x h'=>x=I (ks.getD q.toNat 0)/\h=h':=by
 obtain⟨gu,_,_,rfl,_⟩:=id ou;obtain⟨k1,k2,k3,rfl⟩:=Wm.shape sK;refine en ?_;refine rt ?_;exact⟨rfl,rfl⟩
def zI9(ou:WB h0 h pu [vt,vf,vS,vR,I A,vK,I f,I r,av])(sR:Wc h vR (Zz T F))(hs:zb T F=0)(hf:0<=f/\f<(F.length:Int))(va:Value)(us:List Int)(sa:Wc h va us)(ha:∀ a∈us,0<=a/\a<=1000)(hl:us.length<=1000):
  G0 174 [pu,va] h fun x h'=>WP h h' x (us.map (Wn T F f))/\WH h h':=by
 obtain⟨a1,a2,a3,rfl⟩:=Wm.shape sa;replace ha:=Wi.mk ha;replace hf:=Wi.mk hf;refine en ?_;refine VD (fun i=>us.length-i) (fun i t h1=>zC t 9=I i/\i<=us.length/\WH h h1/\∃ v,zC t 4=v/\WP h h1 v ((us.take i).map (Wn T F f))) 0 ?_ ?_
 ·exact⟨WJ,QQ _,WH.refl _,_,WJ,.inl ⟨rfl,rfl⟩⟩
 rintro i t h1 ab ⟨s9,hi,e1,v,s4,ov⟩;have tx:=sa.ext e1;refine F0 ?_ ?_<;>intro hc
 ·have af:i<us.length:=ω
  have hx:=ha.out _ (zd af);have cf:(us.take (i+1)).map (Wn T F f)=(us.take i).map (Wn T F f)++[Wn T F f (us.getD i 0)]:=by
   rw[GF,QB af,Q5];congr 1;simp[List.getD,QB af]
  have I5:((us.take i).map (Wn T F f)).length<=i:=by rw[Qr];exact List.length_take_le _ _
  refine go ?_;refine VA (ZH (ou.ext e1) (sR.ext e1) hs hf.out (us.getD i 0) hx) ?_;rintro _ _ ⟨rfl,rfl⟩;refine go ?_;refine WO.bl [Wn T F f (us.getD i 0)] ?_;intro v3 h3 e3 o3;refine go ?_;refine XA (ov.ext e3) o3.sl (e1.trans e3) (by simp) (by simp at I5 |-;omega) ?_;intro v4 h4 e4 o4 u4;refine go ?_;refine zA (i+1) ω ⟨Wy,ω,e4,v4,WJ,?_⟩;rw[cf];exact .inr (o4.since (e1.trans e3))
 ·have bj:i=us.length:=ω
  subst bj;rw[Qs]at ov;refine gr ?_;exact⟨ov,e1⟩
end
def Yx(g:Nat->List Wh)(hg:∀ i,(g i).length<=1):∀ n,((List.range n).flatMap g).length<=n
 |0=>by simp
 |n+1=>by rw[yt,QH];have:=Yx g hg n;have:=hg n;omega
def zAp(b:Bool)(c:Wh):(if b then[]else[c]).length<=1:=by cases b<;>simp
def CP(hB:WA)(b:Nat)(vt vf pu po vS vR:Value)(T:List WF)(F:List We)(vK vO:Value)(ks:List Int)(f r:Int)(out:List Wh)(h h':WA):Prop:=
 ∃ bk,CM hB h' b vt vf pu po vS vR T F vK bk ks f r out/\Wg po vO h h' bk
def YY{X:WA}{a b c d:Int}{D:Nat->Prop}:B6 RCn X [.int .u8 a,I b,I c,I d,.slice none 0 0] ⟨a,b,c,d,[]⟩ D:=fun hx _ _=>⟨_,rfl,.inl ⟨rfl,rfl⟩,by simp⟩
section
variable {h hB:WA}{b:Nat}{vt vf pu po vS vR vK vO:Value}{T:List WF}{F:List We}{ks:List Int}{f r:Int}{out:List Wh}
def zP9(C:CE hB b vt vf pu po vS vR T F)(M:CM hB h b vt vf pu po vS vR T F vK vO ks f r out)(hf:0<=f/\f<(F.length:Int))(hr:0<=r/\r<=1000)(hl:out.length<=90000)(x:Wu)(a1 b1:Option Addr)(a2 a3 b2 b3:Nat)(hn:x.op=3->0<=x.n/\x.n<=1000):
  G0 118 [pu,.agg #[.int .u8 x.op,I x.ty,I x.a,I x.b,I x.n,.slice a1 a2 a3,.slice b1 b2 b3]] h fun _ h'=>CP hB b vt vf pu po vS vR T F vK vO ks f r (out++[⟨1,Wn T F f r,0,if x.op=3 then x.n+1 else 0,[]⟩]) h h':=by
 obtain⟨gu,_,_,rfl,_⟩:=id M.ou;obtain⟨s1,s2,s3,rfl⟩:=zD M.oS.sl;obtain⟨r1,r2,r3,rfl⟩:=Wm.shape M.oR.sl;obtain⟨k1,k2,k3,rfl⟩:=Wm.shape M.oK.sl;refine en ?_;refine VH ?_;intro p3 h1 e1 o3;replace o3:WB h h1 p3 [.int .u8 x.op,I x.ty,I x.a,I x.b,I x.n,.slice a1 a2 a3,.slice b1 b2 b3]:=o3;have M1:=M.ext e1;by_cases h3:x.op=3;all_goals
  first|(have hn':=hn h3)|skip
  refine go ?_
  refine VC 1 rfl rfl ?_
  have oX:=M1.ou.ext (zG 1 h1)
  have oY:WB hB (inC (zB 1 h1)) (.pointer (some ⟨gu,0,none⟩)) [vt,vf,.slice s1 s2 s3,.slice r1 r2 r3,I (zV T F),.slice k1 k2 k3,I f,I r,Zr po]:=oX
  have sX:=M1.oR.sl.ext (zG 1 h1)
  have sY:Wc (inC (zB 1 h1)) (.slice r1 r2 r3) (Zz T F):=sX
  refine WU ?_
  refine VA (ZH oY sY C.hs hf r hr) ?_
  rintro _ _ ⟨rfl,rfl⟩
  refine WO.nil (ZP za ?_)
  refine WU ?_
  refine Wb.add (X:=inC (zB 1 _)) (⟨1,Wn T F f r,0,_,[]⟩:Wh) (fun _=>False) C M1 (WH.refl _) ω YY (fun _ h=>h.elim) ?_
  intro H bk t' ab MH kH
  refine go ?_
  refine BN ?_
  exact⟨bk,by simpa [h3]using MH,(Wg.ext e1).trans kH⟩
end
section
variable {h hB:WA}{b:Nat}{vt vf pu po vS vR vK vO:Value}{T:List WF}{F:List We}{ks:List Int}{f r:Int}{out:List Wh}
def zPp(C:CE hB b vt vf pu po vS vR T F)(M:CM hB h b vt vf pu po vS vR T F vK vO ks f r out)(hf:0<=f/\f<(F.length:Int))(hr:0<=r/\r<=1000)(hl:out.length<=90000)(x:Wu)(a1 b1:Option Addr)(a2 a3 b2 b3:Nat)(I0:CI T F ks x)(hk:ks.length<=1000)(ho:x.op=14\/x.op=15):
  G0 120 [pu,.agg #[.int .u8 x.op,I x.ty,I x.a,I x.b,I x.n,.slice a1 a2 a3,.slice b1 b2 b3]] h fun _ h'=>CP hB b vt vf pu po vS vR T F vK vO ks f r (out++[⟨3,Wn T F f r,Wn T F f x.a,if x.op=14 then stepL T (T.getD (ks.getD x.a.toNat 0).toNat default).elem x.n else 0,[]⟩]) h h':=by
 have ha:=I0.a14 ω;have qL:=I0.qL;obtain⟨gu,_,_,rfl,_⟩:=id M.ou;obtain⟨s1,s2,s3,rfl⟩:=zD M.oS.sl;obtain⟨r1,r2,r3,rfl⟩:=Wm.shape M.oR.sl;obtain⟨k1,k2,k3,rfl⟩:=Wm.shape M.oK.sl;obtain⟨t1,t2,t3,rfl⟩:=zD C.E.st;obtain⟨f1,f2,f3,rfl⟩:=zD C.E.sf;refine en ?_;refine VH ?_;intro p3 h1 e1 o3;replace o3:WB h h1 p3 [.int .u8 x.op,I x.ty,I x.a,I x.b,I x.n,.slice a1 a2 a3,.slice b1 b2 b3]:=o3;have M1:=M.ext e1;by_cases gw:x.op=14
 ·obtain⟨s,hs,Pm,qh,HR,hn⟩:=qL gw;have cC:h1.mark<=h1.n:=by rw[M1.e.mark];exact QM C.hm M1.e.n
  have Pn:=Pm.1;refine go ?_;refine VC 0 rfl rfl ?_;have oY:WB hB (inC (zB 0 h1)) (.pointer (some ⟨gu,0,none⟩)) [.slice t1 t2 t3,.slice f1 f2 f3,.slice s1 s2 s3,.slice r1 r2 r3,I (zV T F),.slice k1 k2 k3,I f,I r,Zr po]:=M1.ou;have sY:Wc (inC (zB 0 h1)) (.slice k1 k2 k3) ks:=M1.oK.sl;have ru:WB h (inC (zB 0 h1)) p3 [.int .u8 x.op,I x.ty,I x.a,I x.b,I x.n,.slice a1 a2 a3,.slice b1 b2 b3]:=o3;have tA:BB (inC (zB 0 h1)) (.slice t1 t2 t3) T:=zKq 0 (BB.ext C.E.st M1.e);refine WU ?_;refine VA (zJg oY sY x.a ha) ?_;rintro _ _ ⟨rfl,rfl⟩;refine WO.nil (ZP za ?_);obtain⟨nO,⟨va,rfl,sa,dP⟩,fB,qj⟩:=ZX (i:=(ks.getD x.a.toNat 0).toNat) tA ω;obtain⟨sZ,jr,tc,rfl⟩:=Wm.shape sa;rw[hs]at fB;generalize ks.getD x.a.toNat 0=ka at *;refine WU ?_;refine Ye (j:=4) o3 (QF _) ?_;refine WU ?_;refine VA (zRJ _ _ T s x.n tA C.E.sm.types C.E.sm.parts ((yg (z8 C.hs).1).1) qh HR hn (QF _)) ?_;rintro _ h2 ⟨⟨e,rfl⟩,e2⟩;refine nE e2 ?_;refine WU ?_;have Jr:=(zG 0 h1).trans (ZA (h:=h1) e2);have gC:WH h1 (z9 h1 (inC h2)):=Jr;clear Jr e2;have M2:=M1.ext gC;have AH:=o3.ext gC;have aE:=e1.trans gC;clear oY sY ru tA fB;generalize z9 h1 (inC h2)=h3 at *;refine go ?_;refine VC 1 rfl rfl ?_;have oY:WB hB (inC (zB 1 h3)) (.pointer (some ⟨gu,0,none⟩)) [.slice t1 t2 t3,.slice f1 f2 f3,.slice s1 s2 s3,.slice r1 r2 r3,I (zV T F),.slice k1 k2 k3,I f,I r,Zr po]:=zu 1 M2.ou;have sY:Wc (inC (zB 1 h3)) (.slice r1 r2 r3) (Zz T F):=YW 1 M2.oR.sl;have ru:WB h (inC (zB 1 h3)) p3 [.int .u8 x.op,I x.ty,I x.a,I x.b,I x.n,.slice a1 a2 a3,.slice b1 b2 b3]:=zu 1 AH;refine WU ?_;refine VA (ZH oY sY C.hs hf r hr) ?_;rintro _ _ ⟨rfl,rfl⟩;refine WO.nil (ZP za ?_);refine WU ?_;refine Ye (j:=2) AH (by show h3.n<=h3.n+1;omega) ?_;refine WU ?_;refine VA (ZH oY sY C.hs hf x.a ⟨ha.1,ω⟩) ?_;rintro _ _ ⟨rfl,rfl⟩;refine WO.nil (ZP za ?_);refine WU ?_;refine Wb.add (X:=inC (zB 1 _)) (⟨3,Wn T F f r,Wn T F f x.a,_,[]⟩:Wh) (fun _=>False) C M2 (WH.refl _) ω YY (fun _ h=>h.elim) ?_;intro H bk t' ab MH kH;refine go ?_;refine BN ?_;exact⟨bk,by rw[QJ gw,hs];exact MH,(Wg.ext aE).trans kH⟩
 ·refine go ?_;refine VC 1 rfl rfl ?_;have oY:WB hB (inC (zB 1 h1)) (.pointer (some ⟨gu,0,none⟩)) [.slice t1 t2 t3,.slice f1 f2 f3,.slice s1 s2 s3,.slice r1 r2 r3,I (zV T F),.slice k1 k2 k3,I f,I r,Zr po]:=zu 1 (M1.ou);have sY:Wc (inC (zB 1 h1)) (.slice r1 r2 r3) (Zz T F):=YW 1 (M1.oR.sl);have ru:WB h (inC (zB 1 h1)) p3 [.int .u8 x.op,I x.ty,I x.a,I x.b,I x.n,.slice a1 a2 a3,.slice b1 b2 b3]:=zu 1 (o3);refine WU ?_;refine VA (ZH oY sY C.hs hf r hr) ?_;rintro _ _ ⟨rfl,rfl⟩;refine WO.nil (ZP za ?_);refine WU ?_;refine Ye (j:=2) o3 (by show h1.n<=h1.n+1;omega) ?_;refine WU ?_;refine VA (ZH oY sY C.hs hf x.a ⟨ha.1,ω⟩) ?_;rintro _ _ ⟨rfl,rfl⟩;refine WO.nil (ZP za ?_);refine WU ?_;refine Wb.add (X:=inC (zB 1 _)) (⟨3,Wn T F f r,Wn T F f x.a,_,[]⟩:Wh) (fun _=>False) C M1 (WH.refl _) ω YY (fun _ h=>h.elim) ?_;intro H bk t' ab MH kH;refine go ?_;refine BN ?_;exact⟨bk,by simpa [gw]using MH,(Wg.ext e1).trans kH⟩
def zOo(C:CE hB b vt vf pu po vS vR T F)(M:CM hB h b vt vf pu po vS vR T F vK vO ks f r out)(hf:0<=f/\f<(F.length:Int))(hr:0<=r/\r<=1000)(hl:out.length<=90000)(x:Wu)(a1 b1:Option Addr)(a2 a3 b2 b3:Nat)(I0:CI T F ks x)(hk:ks.length<=1000)(ho:x.op=16):
  G0 121 [pu,.agg #[.int .u8 x.op,I x.ty,I x.a,I x.b,I x.n,.slice a1 a2 a3,.slice b1 b2 b3]] h fun _ h'=>CP hB b vt vf pu po vS vR T F vK vO ks f r (out++if Be T x.ty then[]else[⟨4,Wn T F f r,Wn T F f x.a,0,[]⟩]) h h':=by
 have ha:=I0.a14 ω;have cD:=I0.ty ω;obtain⟨gu,_,_,rfl,_⟩:=id M.ou;obtain⟨s1,s2,s3,rfl⟩:=zD M.oS.sl;obtain⟨r1,r2,r3,rfl⟩:=Wm.shape M.oR.sl;obtain⟨k1,k2,k3,rfl⟩:=Wm.shape M.oK.sl;obtain⟨t1,t2,t3,rfl⟩:=zD C.E.st;obtain⟨f1,f2,f3,rfl⟩:=zD C.E.sf;refine en ?_;refine VH ?_;intro p3 h1 e1 o3;replace o3:WB h h1 p3 [.int .u8 x.op,I x.ty,I x.a,I x.b,I x.n,.slice a1 a2 a3,.slice b1 b2 b3]:=o3;have M1:=M.ext e1;refine go ?_;refine VA (Yz M1.ou (BB.ext C.E.st M1.e) x.ty cD) ?_;rintro _ _ ⟨rfl,rfl⟩;cases ed:Be T x.ty with
 |true=>
  refine go ?_;refine BN ?_;exact⟨vO,by simpa using M1,Wg.ext e1⟩
 |false=>
  refine go ?_;refine VC 1 rfl rfl ?_;have oY:WB hB (inC (zB 1 h1)) (.pointer (some ⟨gu,0,none⟩)) [.slice t1 t2 t3,.slice f1 f2 f3,.slice s1 s2 s3,.slice r1 r2 r3,I (zV T F),.slice k1 k2 k3,I f,I r,Zr po]:=zu 1 (M1.ou);have sY:Wc (inC (zB 1 h1)) (.slice r1 r2 r3) (Zz T F):=YW 1 (M1.oR.sl);have ru:WB h (inC (zB 1 h1)) p3 [.int .u8 x.op,I x.ty,I x.a,I x.b,I x.n,.slice a1 a2 a3,.slice b1 b2 b3]:=zu 1 (o3);refine WU ?_;refine VA (ZH oY sY C.hs hf r hr) ?_;rintro _ _ ⟨rfl,rfl⟩;refine WO.nil (ZP za ?_);refine WU ?_;refine Ye (j:=2) o3 (by show h1.n<=h1.n+1;omega) ?_;refine WU ?_;refine VA (ZH oY sY C.hs hf x.a ⟨ha.1,ω⟩) ?_;rintro _ _ ⟨rfl,rfl⟩;refine WO.nil (ZP za ?_);refine WU ?_;refine Wb.add (X:=inC (zB 1 _)) (⟨4,Wn T F f r,Wn T F f x.a,0,[]⟩:Wh) (fun _=>False) C M1 (WH.refl _) ω YY (fun _ h=>h.elim) ?_;intro H bk t' ab MH kH;refine go ?_;refine BN ?_;exact⟨bk,MH,(Wg.ext e1).trans kH⟩
end
section
variable {h hB:WA}{b:Nat}{vt vf pu po vS vR vK vO:Value}{T:List WF}{F:List We}{ks:List Int}{f r:Int}{out:List Wh}
def zNW(C:CE hB b vt vf pu po vS vR T F)(M:CM hB h b vt vf pu po vS vR T F vK vO ks f r out)(hf:0<=f/\f<(F.length:Int))(hl:out.length<=90000)(x:Wu)(a1 b1:Option Addr)(a2 a3 b2 b3:Nat)(I0:CI T F ks x)(hk:ks.length<=1000)(ho:x.op=17):
  G0 122 [pu,.agg #[.int .u8 x.op,I x.ty,I x.a,I x.b,I x.n,.slice a1 a2 a3,.slice b1 b2 b3]] h fun _ h'=>CP hB b vt vf pu po vS vR T F vK vO ks f r (out++if Be T (ks.getD x.b.toNat 0)then[]else[⟨5,Wn T F f x.a,Wn T F f x.b,0,[]⟩]) h h':=by
 have ha:=I0.a14 ω;have hb:=I0.b17 ho;obtain⟨gu,_,_,rfl,_⟩:=id M.ou;obtain⟨s1,s2,s3,rfl⟩:=zD M.oS.sl;obtain⟨r1,r2,r3,rfl⟩:=Wm.shape M.oR.sl;obtain⟨k1,k2,k3,rfl⟩:=Wm.shape M.oK.sl;obtain⟨t1,t2,t3,rfl⟩:=zD C.E.st;obtain⟨f1,f2,f3,rfl⟩:=zD C.E.sf;refine en ?_;refine VH ?_;intro p3 h1 e1 o3;replace o3:WB h h1 p3 [.int .u8 x.op,I x.ty,I x.a,I x.b,I x.n,.slice a1 a2 a3,.slice b1 b2 b3]:=o3;have M1:=M.ext e1;refine go ?_;refine VA (zJg M1.ou M1.oK.sl x.b hb.1) ?_;rintro _ _ ⟨rfl,rfl⟩;refine go ?_;refine VA (Yz M1.ou (BB.ext C.E.st M1.e) (ks.getD x.b.toNat 0) hb.2) ?_;rintro _ _ ⟨rfl,rfl⟩;cases ed:Be T (ks.getD x.b.toNat 0)with
 |true=>
  refine go ?_;refine BN ?_;exact⟨vO,by simpa using M1,Wg.ext e1⟩
 |false=>
  refine go ?_;refine VC 1 rfl rfl ?_;have oY:WB hB (inC (zB 1 h1)) (.pointer (some ⟨gu,0,none⟩)) [.slice t1 t2 t3,.slice f1 f2 f3,.slice s1 s2 s3,.slice r1 r2 r3,I (zV T F),.slice k1 k2 k3,I f,I r,Zr po]:=zu 1 (M1.ou);have sY:Wc (inC (zB 1 h1)) (.slice r1 r2 r3) (Zz T F):=YW 1 (M1.oR.sl);have ru:WB h (inC (zB 1 h1)) p3 [.int .u8 x.op,I x.ty,I x.a,I x.b,I x.n,.slice a1 a2 a3,.slice b1 b2 b3]:=zu 1 (o3);refine WU ?_;refine VA (ZH oY sY C.hs hf x.a ⟨ha.1,ω⟩) ?_;rintro _ _ ⟨rfl,rfl⟩;refine WO.nil (ZP za ?_);refine WU ?_;refine Ye (j:=3) o3 (by show h1.n<=h1.n+1;omega) ?_;refine WU ?_;refine VA (ZH oY sY C.hs hf x.b ⟨hb.1.1,ω⟩) ?_;rintro _ _ ⟨rfl,rfl⟩;refine WO.nil (ZP za ?_);refine WU ?_;refine Wb.add (X:=inC (zB 1 _)) (⟨5,Wn T F f x.a,Wn T F f x.b,0,[]⟩:Wh) (fun _=>False) C M1 (WH.refl _) ω YY (fun _ h=>h.elim) ?_;intro H bk t' ab MH kH;refine go ?_;refine BN ?_;exact⟨bk,MH,(Wg.ext e1).trans kH⟩
def zNO(C:CE hB b vt vf pu po vS vR T F)(M:CM hB h b vt vf pu po vS vR T F vK vO ks f r out)(hf:0<=f/\f<(F.length:Int))(hr:0<=r/\r<=1000)(hl:out.length<=90000)(x:Wu)(va:Value)(b1:Option Addr)(b2 b3:Nat)(sa:Wc h va x.args)(I0:CI T F ks x)(hk:ks.length<=1000)(ho:x.op=19):
  G0 124 [pu,.agg #[.int .u8 x.op,I x.ty,I x.a,I x.b,I x.n,va,.slice b1 b2 b3]] h fun _ h'=>CP hB b vt vf pu po vS vR T F vK vO ks f r (out++[⟨6,Wn T F f r,Wn T F f x.a,0,x.args.map (Wn T F f)⟩]) h h':=by
 have ha:=I0.a14 ω;have js:=I0.args ω;have d8:=I0.al;obtain⟨gu,_,_,rfl,_⟩:=id M.ou;obtain⟨s1,s2,s3,rfl⟩:=zD M.oS.sl;obtain⟨r1,r2,r3,rfl⟩:=Wm.shape M.oR.sl;obtain⟨k1,k2,k3,rfl⟩:=Wm.shape M.oK.sl;obtain⟨t1,t2,t3,rfl⟩:=zD C.E.st;obtain⟨f1,f2,f3,rfl⟩:=zD C.E.sf;obtain⟨a1,a2,a3,rfl⟩:=Wm.shape sa;refine en ?_;refine VH ?_;intro p3 h1 e1 o3;replace o3:WB h h1 p3 [.int .u8 x.op,I x.ty,I x.a,I x.b,I x.n,.slice a1 a2 a3,.slice b1 b2 b3]:=o3;have M1:=M.ext e1;refine go ?_;refine VC 1 rfl rfl ?_;have oY:WB hB (inC (zB 1 h1)) (.pointer (some ⟨gu,0,none⟩)) [.slice t1 t2 t3,.slice f1 f2 f3,.slice s1 s2 s3,.slice r1 r2 r3,I (zV T F),.slice k1 k2 k3,I f,I r,Zr po]:=zu 1 (M1.ou);have sY:Wc (inC (zB 1 h1)) (.slice r1 r2 r3) (Zz T F):=YW 1 (M1.oR.sl);have ru:WB h (inC (zB 1 h1)) p3 [.int .u8 x.op,I x.ty,I x.a,I x.b,I x.n,.slice a1 a2 a3,.slice b1 b2 b3]:=zu 1 (o3);have tB:Wc (inC (zB 1 h1)) (.slice a1 a2 a3) x.args:=YW 1 ((sa.ext e1));refine WU ?_;refine VA (ZH oY sY C.hs hf r hr) ?_;rintro _ _ ⟨rfl,rfl⟩;refine WO.nil (ZP za ?_);refine WU ?_;refine Ye (j:=2) o3 (by show h1.n<=h1.n+1;omega) ?_;refine WU ?_;refine VA (ZH oY sY C.hs hf x.a ⟨ha.1,ω⟩) ?_;rintro _ _ ⟨rfl,rfl⟩;refine WO.nil (ZP za ?_);refine WU ?_;refine Ye (j:=5) o3 (by show h1.n<=h1.n+1;omega) ?_;refine WU ?_;refine VA (zI9 oY sY C.hs hf _ x.args tB (fun a ha=>by have:=js a ha;omega) ω) ?_;rintro w X ⟨oW,eX⟩;refine nE eX ?_;have Po:=oY.ext eX;have oX:WB hB (inC X) (.pointer (some ⟨gu,0,none⟩)) [.slice t1 t2 t3,.slice f1 f2 f3,.slice s1 s2 s3,.slice r1 r2 r3,I (zV T F),.slice k1 k2 k3,I f,I r,Zr po]:=Po;obtain⟨w1,w2,w3,rfl⟩:=Wm.shape oW.sl;refine WU ?_;have hd:∃ Dn:Nat->Prop,B6 RCn X [.int .u8 6,I (Wn T F f r),I (Wn T F f x.a),I 0,.slice w1 w2 w3] ⟨6,Wn T F f r,Wn T F f x.a,0,x.args.map (Wn T F f)⟩ Dn/\∀ k,Dn k->h1.n<k/\k<X.n:=by
  have sC:(x.args.map (Wn T F f)).length<=1000:=by rw[Qr];omega
  rcases id oW with⟨e,hz⟩|⟨g,g1,g2,e,g3⟩
  ·rw[e,hz];exact⟨fun _=>False,fun hx _ _=>⟨_,rfl,.inl ⟨rfl,rfl⟩,by simp⟩,fun _ h=>h.elim⟩
  ·have g1:h1.n+1<=g:=g1;refine⟨fun k=>k=g,fun hx h1 h2=>⟨_,rfl,?_,sC⟩,fun k hk=>by subst hk;omega⟩;exact .inr ⟨g,QG g2 h2,e,h1 g _ rfl g3⟩
 obtain⟨Dn,hd1,pK⟩:=hd;refine Wb.add (⟨6,Wn T F f r,Wn T F f x.a,0,x.args.map (Wn T F f)⟩:Wh) Dn C M1 eX ω hd1 pK ?_;intro H bk t' ab MH kH;refine go ?_;refine BN ?_;exact⟨bk,MH,(Wg.ext e1).trans kH⟩
def zSS(C:CE hB b vt vf pu po vS vR T F)(M:CM hB h b vt vf pu po vS vR T F vK vO ks f r out)(hf:0<=f/\f<(F.length:Int))(hr:0<=r/\r<=1000)(hl:out.length<=90000)(x:Wu)(va:Value)(b1:Option Addr)(b2 b3:Nat)(sa:Wc h va x.args)(I0:CI T F ks x)(hk:ks.length<=1000)(ho:x.op=22):
  G0 125 [pu,.agg #[.int .u8 x.op,I x.ty,I x.a,I x.b,I x.n,va,.slice b1 b2 b3]] h fun _ h'=>CP hB b vt vf pu po vS vR T F vK vO ks f r (out++if Be T x.ty then[]else zPE T F f r x.args) h h':=by
 have cD:=I0.ty ω;have js:=I0.args ω;have d8:=I0.al;obtain⟨gu,_,_,rfl,_⟩:=id M.ou;obtain⟨s1,s2,s3,rfl⟩:=zD M.oS.sl;obtain⟨r1,r2,r3,rfl⟩:=Wm.shape M.oR.sl;obtain⟨k1,k2,k3,rfl⟩:=Wm.shape M.oK.sl;obtain⟨t1,t2,t3,rfl⟩:=zD C.E.st;obtain⟨f1,f2,f3,rfl⟩:=zD C.E.sf;obtain⟨a1,a2,a3,rfl⟩:=Wm.shape sa;replace js:=Wi.mk js;refine en ?_;refine VH ?_;intro p3 h1 e1 o3;replace o3:WB h h1 p3 [.int .u8 x.op,I x.ty,I x.a,I x.b,I x.n,.slice a1 a2 a3,.slice b1 b2 b3]:=o3;have M1:=M.ext e1;refine go ?_;refine VA (Yz M1.ou (BB.ext C.E.st M1.e) x.ty cD) ?_;rintro _ _ ⟨rfl,rfl⟩;cases ed:Be T x.ty with
 |true=>
  refine gr ?_;exact⟨vO,by simpa using M1,Wg.ext e1⟩
 |false=>
  refine go ?_;refine VA (zI9 M1.ou M1.oR.sl C.hs hf _ x.args (sa.ext e1) (fun a ha=>by have:=js.out a ha;omega) ω) ?_;rintro w h2 ⟨oW,e2⟩;have M2:=M1.ext e2;obtain⟨w1,w2,w3,rfl⟩:=Wm.shape oW.sl;have sC:(x.args.map (Wn T F f)).length=x.args.length:=Qr ..;have il:∀ i,i<x.args.length->(x.args.map (Wn T F f)).getD i 0=Wn T F f (x.args.getD i 0):=fun i hi=>zAO hi;have ee:∀ i,i<x.args.length->0<=Wn T F f (x.args.getD i 0)/\Wn T F f (x.args.getD i 0)<=10000:=fun i hi=>by
   have h1:=js.out _ (zd hi);have h2:=zFb C.hs hf;unfold Wn;omega
  replace il:=Wi.mk il;replace ee:=Wi.mk ee;generalize tu:x.args.map (Wn T F f)=us at *;have Ae:WY po (.slice w1 w2 w3):=(VF oW.since' M1.oo.within).symm;have Js:WY vO (.slice w1 w2 w3):=(VF oW.since' fun g hg=>(zZ M1.oO g hg).2).symm;refine go ?_;refine VD (fun i=>x.args.length-i) (fun i t h3=>zC t 15=I i/\i<=x.args.length/\∃ bk,CM hB h3 b (.slice t1 t2 t3) (.slice f1 f2 f3) (.pointer (some ⟨gu,0,none⟩)) po (.slice s1 s2 s3) (.slice r1 r2 r3) T F (.slice k1 k2 k3) bk ks f r (out++(List.range i).flatMap fun(i:Nat)=>[⟨2,Wn T F f r,Wn T F f (x.args.getD i 0),0,[]⟩])/\Wg po vO h2 h3 bk/\Wc h3 (.slice w1 w2 w3) us) 0 ?_ ?_
  ·exact⟨WJ,QQ _,vO,by simpa using M2,Wg.refl ..,oW.sl⟩
  rintro i t h3 ab ⟨vz,hi,bk,M3,AI,sw⟩;have I7:=zAN oW AI Ae Js;refine F0 ?_ ?_<;>intro hc
  ·have af:i<x.args.length:=ω
   have hg:=il.out i af;have mZ:=ee.out i af;refine go ?_;refine VC 1 rfl rfl ?_;have oY:WB hB (inC (zB 1 h3)) (.pointer (some ⟨gu,0,none⟩)) [.slice t1 t2 t3,.slice f1 f2 f3,.slice s1 s2 s3,.slice r1 r2 r3,I (zV T F),.slice k1 k2 k3,I f,I r,Zr po]:=zu 1 (M3.ou);have sY:Wc (inC (zB 1 h3)) (.slice r1 r2 r3) (Zz T F):=YW 1 (M3.oR.sl);refine WU ?_;refine VA (ZH oY sY C.hs hf r hr) ?_;rintro _ _ ⟨rfl,rfl⟩;refine WO.nil (ZP za ?_);refine WU ?_;rw[hg];refine Wb.add (X:=inC (zB 1 _)) (⟨2,Wn T F f r,Wn T F f (x.args.getD i 0),0,[]⟩:Wh) (fun _=>False) C M3 (WH.refl _) (by have:=Yx (fun(i:Nat)=>[(⟨2,Wn T F f r,Wn T F f (x.args.getD i 0),0,[]⟩:Wh)]) (fun _=>QF _) i;rw[QH];omega) YY (fun _ h=>h.elim) ?_;intro H gA t' ab MH kH;refine go ?_;refine zA (i+1) ω ⟨Wy,ω,gA,?_,AI.trans kH,?_⟩
   ·rw[yt,<-Qd];exact MH
   ·exact(zAN oW (AI.trans kH) Ae Js).sl
  ·have bj:i=x.args.length:=ω
   subst bj;refine go ?_;refine BN ?_;exact⟨bk,M3,(Wg.ext (e1.trans e2)).trans AI⟩
end
section
variable {P:Program}{tab:Ws}{t:WG Value}{h:WA}{ds:List Deferred}{rd:Option Nat}{l:List WE}{Q:WM->WA->Prop}
def Um{c d:Nat}{cs zero:List Value}{w:Value}{x:Operand}(k:∀ h',WH h h'->h'.get h.n=some (.row cs true 0)->h.n<h'.n->WO P tab l ⟨t.set d (.slice (some ⟨h.n,0,none⟩) 1 c),ds,rd⟩ h' Q)(hx:WN t x w:=by exact zO)(hw:w.cells=cs.toArray:=by rfl)(hc:cs.length=c:=by rfl)(hz:zero.length=c:=by rfl):
  WO P tab (⟨some d,none,.buildSlice 1 c zero [(0,c,x)]⟩::l) ⟨t,ds,rd⟩ h Q:=by
 have hx:ev t x=w:=hx;exact WO.op (.slice (some ⟨h.n,0,none⟩) 1 c) (h.push (.row cs true 0)) rfl (by
  simp only[WK,zr,Qi,Gc,hx,YB hw hc hz,QL];rfl) (k _ (Zt _ _) (zT _ _) (Q9 _))
end
def zTo{T:List WF}:∀ (n k:Nat),k<n->(∀ j,j<=k->ZY T j)->∀ x∈yF T k,0<=x/\x<=(k:Int):=by
 intro n;induction n with
 |zero=>intro k h;omega
 |succ n ih=>
  intro k hk hM x hx;have hm:=hM k (QF _);rw[zA0 hM]at hx;split at hx
  ·rename_i h4;have hp:=(zGV hm h4).2;obtain⟨l,hl,hx⟩:=List.mem_flatten.1 hx;obtain⟨p,dG,rfl⟩:=Qw.1 hl;have:=hp p dG;have:=ih p.toNat ω (fun j hj=>hM j ω) x hx;omega
  ·split at hx
   ·rename_i h4 h5;have hp:=zJp hm h5;have:=ih (T.getD k default).elem.toNat ω (fun j hj=>hM j ω) x hx;omega
   ·rw[QO]at hx;subst hx;omega
section
variable {h hB:WA}{b:Nat}{vt vf pu po vS vR vK vO:Value}{T:List WF}{F:List We}{ks:List Int}{f r:Int}{out:List Wh}
def zPz(C:CE hB b vt vf pu po vS vR T F)(M:CM hB h b vt vf pu po vS vR T F vK vO ks f r out)(hf:0<=f/\f<(F.length:Int))(hr:0<=r/\r<=1000)(hl:out.length<=90000):
  G0 119 [pu] h fun _ h'=>CP hB b vt vf pu po vS vR T F vK vO ks f r (out++zHY T F f r (Ym T f r (zW T F) 0 [])) h h':=by
 have hp:=(z8 C.hs).1;obtain⟨hc,l5,lQ,hfn⟩:=yg hp;have au:=zBu hc;have cD:=zAS C.hs;have bP:=zCm C.hs;have hA:=(zFb C.hs hf).2.2.2.2;have bF:∀ k:Int,0<=k->k<(T.length:Int)->(yF T k.toNat).length<=32/\∀ x∈yF T k.toNat,0<=x/\x<(T.length:Int):=fun k k0 k1=>by
  have h1:=fun j (hj:j<=k.toNat)=>(au j ω).1;refine⟨QM (zB2 (k.toNat+1) k.toNat (Q9 _) h1) (au k.toNat ω).2,fun x hx=> ?_⟩;have:=zTo (k.toNat+1) k.toNat (Q9 _) h1 x hx;omega
 obtain⟨gu,_,_,rfl,_⟩:=id M.ou;have sS:=M.oS.sl;obtain⟨s1,s2,s3,rfl⟩:=zD sS;obtain⟨r1,r2,r3,rfl⟩:=Wm.shape M.oR.sl;obtain⟨k1,k2,k3,rfl⟩:=Wm.shape M.oK.sl;obtain⟨t1,t2,t3,rfl⟩:=zD C.E.st;obtain⟨f1,f2,f3,rfl⟩:=zD (BA.ext C.E.sf M.e);have I9:=BA.ext C.E.sf M.e;have o0:=M.ou;replace au:=Wi.mk au;replace cD:=Wi.mk cD;replace bF:=Wi.mk bF;replace hfn:=Wi.mk hfn;generalize hq:Ym T f r (zW T F) 0 []=q;refine en ?_;refine WX.cutX (fun t h'=>WH h h'/\zC t 3=I q.1/\(0<=q.1/\q.1<=40000)/\(∀ x∈q.2,0<=x/\x<(T.length:Int))/\q.2.length<=40/\∃ v,zC t 4=v/\WP h h' v q.2) ?_ ?_
 ·refine VD (fun i=>(zW T F).length-i) (fun i t h1=>zC t 21=I i/\i<=(zW T F).length/\WH h h1/\∃ a v l,zC t 3=I a/\zC t 4=v/\WP h h1 v l/\Ym T f r ((zW T F).drop i) a l=q/\0<=a/\a+l.length<=32*i/\l.length<=32/\∀ x∈l,0<=x/\x<(T.length:Int)) 0 ?_ ?_
  ·exact⟨WJ,QQ _,WH.refl _,0,_,[],WJ,WJ,.inl ⟨rfl,rfl⟩,by simpa using hq,ω,by simp,by simp,fun x hx=>by cases hx⟩
  rintro i t h1 ab ⟨Pp,hi,e1,a,v,l,DM,sl4,ov,kG,a0,a1,ll,Pq⟩;have o1:=M.ou.ext e1;have Pr:=SlS.ext sS e1;have Jt:=ov.sl;obtain⟨v1,v2,v3,rfl⟩:=Wm.shape Jt;refine F0 ?_ ?_<;>intro hb
  ·have af:i<(zW T F).length:=ω
   obtain⟨cs,b9,pc,Ps⟩:=yv (i:=i) Pr af;have rv:=cD.out _ (zH af);have xr:(zW T F).drop i=(zW T F).getD i default::(zW T F).drop (i+1):=by
    rw[GB af];simp[List.getD,QB af]
   rw[xr]at kG;clear xr;generalize(zW T F).getD i default=s at *;have b9:cs=[I s.fn,I s.nr,I s.ty]:=b9;subst b9;have dz:=bF.out s.ty rv.1 rv.2;unfold Ym at kG;refine go ?_;refine WO.al ?_;intro p6 h2 e2 o6;refine go ?_;refine VG o6 e2 ?_;intro h3 e3 o6 _;have df:=e1.trans e3;have o3:=M.ou.ext df;have Pt:=Jt.ext e3;refine go ?_;refine VC 0 rfl rfl ?_;have oY:WB hB (inC (zB 0 h3)) (.pointer (some ⟨gu,0,none⟩)) [.slice t1 t2 t3,.slice f1 f2 f3,.slice s1 s2 s3,.slice r1 r2 r3,I (zV T F),.slice k1 k2 k3,I f,I r,Zr po]:=o3;have o6Y:WB h1 (inC (zB 0 h3)) p6 [I s.fn,I s.nr,I s.ty]:=o6;have tA:BB (inC (zB 0 h3)) (.slice t1 t2 t3) T:=zKq 0 (BB.ext C.E.st (M.e.trans df));refine WU ?_;refine VA (zEQ _ _ T s.ty tA C.E.sm.types C.E.sm.parts hc rv (QF _)) ?_;rintro _ X ⟨⟨w,rfl,oW⟩,eX⟩;obtain⟨w1,w2,w3,rfl⟩:=Wm.shape oW.sl;refine nE eX ?_;refine WU ?_;have Ju:=(zG 0 h3).trans (ZA (h:=h3) eX);have Jv:WH h3 (z9 h3 (inC X)):=Ju;clear Ju;have E9:WP h (z9 h3 (inC X)) (.slice w1 w2 w3) (yF T s.ty.toNat):=by
    rcases oW with⟨e,z⟩|⟨g,g1,g2,g3,g4⟩
    ·exact .inl ⟨e,z⟩
    ·have g1:h3.n+0<=g:=g1;have:=df.n;exact .inr ⟨g,ω,g2,g3,g4⟩
   have EE:WB h1 (z9 h3 (inC X)) p6 [I s.fn,I s.nr,I s.ty]:=o6.ext Jv;have cH:=df.trans Jv;generalize z9 h3 (inC X)=h4 at *;have o4:=M.ou.ext cH;by_cases c1:s.fn=f
   ·by_cases c2:s.nr=r
    ·rw[QJ ⟨c1,c2⟩]at kG;subst kG;refine go ?_;refine zHd ?_;exact⟨cH,WJ,by simp only;omega,dz.2,by simp only;omega,_,WJ,E9⟩
    ·rw[QC (fun e=>c2 e.2)]at kG;refine go ?_;exact zA (i+1) ω ⟨Wy,ω,cH,_,_,_,WJ,WJ,E9,kG,ω,ω,dz.1,dz.2⟩
   ·rw[QC (fun e=>c1 e.1)]at kG;refine go ?_;exact zA (i+1) ω ⟨Wy,ω,cH,_,_,_,WJ,WJ,E9,kG,ω,ω,dz.1,dz.2⟩
  ·have bj:i=(zW T F).length:=ω
   subst bj;rw[List.drop_length]at kG;unfold Ym at kG;subst kG;refine go ?_;refine zHd ?_;exact⟨e1,WJ,by simp only;omega,Pq,by simp only;omega,_,WJ,ov⟩
 intro t' h1 ab ⟨e1,q3,q0,Fa,ql,v,q4,ov⟩;obtain⟨v1,v2,v3,rfl⟩:=Wm.shape ov.sl;have M1:=M.ext e1;clear hq;obtain⟨qa,m7⟩:=q;simp only at *;have hv1:WY po (.slice v1 v2 v3):=(VF ov.since' M.oo.within).symm;have hZ:WY vO (.slice v1 v2 v3):=(VF ov.since' fun g hg=>(zZ M.oO g hg).2).symm;refine go ?_;refine VC 1 rfl rfl ?_;have oY:WB hB (inC (zB 1 h1)) (.pointer (some ⟨gu,0,none⟩)) [.slice t1 t2 t3,.slice f1 f2 f3,.slice s1 s2 s3,.slice r1 r2 r3,I (zV T F),.slice k1 k2 k3,I f,I r,Zr po]:=zu 1 (M1.ou);have sY:Wc (inC (zB 1 h1)) (.slice r1 r2 r3) (Zz T F):=YW 1 (M1.oR.sl);refine WU ?_;refine VA (ZH oY sY C.hs hf r hr) ?_;rintro _ _ ⟨rfl,rfl⟩;refine WO.nil (ZP za ?_);refine WU ?_;refine Wb.add (X:=inC (zB 1 _)) (⟨1,Wn T F f r,0,1+F.length+qa,[]⟩:Wh) (fun _=>False) C M1 (WH.refl _) ω YY (fun _ h=>h.elim) ?_;intro h2 gA t2' br M2 Fb;have Pu:=zAN ov Fb hv1 hZ;have Pv:WY gA (.slice v1 v2 v3):=fun g h1 h2=>by
  rcases Fb.2.2 g h1 with h|h
  ·exact hZ g h h2
  ·have:=ov.within g h2;omega
 replace Fa:=Wi.mk Fa;refine go ?_;refine VD (fun i=>m7.length-i) (fun i t h3=>zC t 76=I i/\i<=m7.length/\∃ bk,CM hB h3 b (.slice t1 t2 t3) (.slice f1 f2 f3) (.pointer (some ⟨gu,0,none⟩)) po (.slice s1 s2 s3) (.slice r1 r2 r3) T F (.slice k1 k2 k3) bk ks f r (out++[⟨1,Wn T F f r,0,1+F.length+qa,[]⟩]++(List.range i).flatMap fun(i:Nat)=>if Be T (m7.getD i 0)then[]else[⟨1,zV T F+F.length+qa+i,0,0,[]⟩])/\Wg po gA h2 h3 bk) 0 ?_ ?_
 ·exact⟨WJ,QQ _,gA,by simpa using M2,Wg.refl ..⟩
 rintro i t h3 dw ⟨s76,hi,bk,M3,gY⟩;have ov3:=(zAN Pu gY hv1 Pv).sl;refine F0 ?_ ?_<;>intro hb
 ·have af:i<m7.length:=ω
  have hx:=Fa.out _ (zd af);have o3:=M3.ou;refine go ?_;refine VA (Yz M3.ou (BB.ext C.E.st M3.e) (m7.getD i 0) hx) ?_;rintro _ _ ⟨rfl,rfl⟩;have cf:=yt (fun(i:Nat)=>if Be T (m7.getD i 0)then[]else[(⟨1,zV T F+F.length+qa+i,0,0,[]⟩:Wh)]) i;cases ed:Be T (m7.getD i 0)with
  |true=>
   rw[ed]at cf;refine go ?_;refine zA (i+1) ω ⟨Wy,ω,bk,?_,gY⟩;rw[cf];simpa using M3
  |false=>
   rw[ed]at cf;refine go ?_;refine Um (cs:=[.int .u8 1,I (zV T F+F.length+qa+i),I 0,I 0,.slice none 0 0]) ?_;intro h4 e4 g4 n4;have M4:=M3.ext e4;have o4:=M4.ou;refine go ?_;have aw:=WV.func (args:=[.slice (some ⟨h3.n,0,none⟩) 1 5]) (first:=#[]) (cap:=#[po]) (zMO hB h4 b h3.n po bk _ ⟨1,zV T F+F.length+qa+i,0,0,[]⟩ _ (fun _=>False) M4.e C.bn M4.hb M4.oo C.bo M4.oO (by have:=Yx (fun(i:Nat)=>if Be T (m7.getD i 0)then[]else[(⟨1,zV T F+F.length+qa+i,0,0,[]⟩:Wh)]) (fun _=>zAp _ _) i;simp only[QH,Qb];omega) YY (fun _ h=>h.elim) (fun _ _ _ _ h=>h) rfl rfl g4 n4);refine VJ (fv:=Zr po) aw ?_;rintro _ h5 ⟨Pw,e5,Px,Py,Jw,_⟩;have M5:=M4.add C Jw e5 Px Py;refine go ?_;refine zA (i+1) ω ⟨Wy,ω,Pw,?_,gY.trans ((Wg.ext e4).trans Jw)⟩;rw[cf,<-Qd];exact M5
 ·have bj:i=m7.length:=ω
  subst bj;refine go ?_;refine BN ?_;refine⟨bk,?_,(Wg.ext e1).trans (Fb.trans gY)⟩;unfold zHY zM7;simpa using M3
end
section
variable {h hB:WA}{b:Nat}{vt vf pu po vS vR vK vO:Value}{T:List WF}{F:List We}{ks:List Int}{f r:Int}{out:List Wh}
def zQL(C:CE hB b vt vf pu po vS vR T F)(M:CM hB h b vt vf pu po vS vR T F vK vO ks f r out)(hf:0<=f/\f<(F.length:Int))(hr:0<=r/\r<=1000)(hl:out.length<=90000)(x:Wu)(va:Value)(b1:Option Addr)(b2 b3:Nat)(sa:Wc hB va x.args)(I0:CI T F ks x)(hk:ks.length<=1000)(ho:x.op=18):
  G0 123 [pu,.agg #[.int .u8 x.op,I x.ty,I x.a,I x.b,I x.n,va,.slice b1 b2 b3]] h fun _ h'=>CP hB b vt vf pu po vS vR T F vK vO ks f r (out++(zHR T F f x.n (yb T F x.n).parts x.args++if Be T x.ty then[]else[⟨2,Wn T F f r,zV T F+x.n,0,[]⟩])) h h':=by
 have cD:=I0.ty ω;have js:=I0.args ω;have d8:=I0.al;obtain⟨hn,ed,gx,ry⟩:=I0.qM ho;have hA:=zFb C.hs hn;have hFm:=C.E.sm.funcs;have AJ:=hA.2.2.2.2;obtain⟨gu,_,_,rfl,_⟩:=id M.ou;obtain⟨s1,s2,s3,rfl⟩:=zD M.oS.sl;have Pz:=M.oR.sl;obtain⟨r1,r2,r3,rfl⟩:=Wm.shape Pz;obtain⟨k1,k2,k3,rfl⟩:=Wm.shape M.oK.sl;obtain⟨a1,a2,a3,rfl⟩:=Wm.shape sa;obtain⟨lx,⟨vb,rfl,sb,fC⟩,fS,jW⟩:=zq (i:=x.n.toNat) C.E.sf ω;obtain⟨nO,⟨vp,rfl,sp,sG⟩,fB,qj⟩:=zq (i:=(F.getD x.n.toNat default).sig.toNat) C.E.st ω;have dV:yb T F x.n=T.getD (F.getD x.n.toNat default).sig.toNat default:=rfl;rw[<-dV]at sp sG fB;obtain⟨t1,t2,t3,rfl⟩:=zD C.E.st;obtain⟨f1,f2,f3,rfl⟩:=zD C.E.sf;obtain⟨b1',b2',b3',rfl⟩:=zD sb;obtain⟨p1,p2,p3',rfl⟩:=Wm.shape sp;generalize(F.getD x.n.toNat default).sig=sg at *;have kI:∀ i:Nat,Wn T F x.n i=(Zz T F).getD x.n.toNat 0+i:=fun i=>by unfold Wn;rw[hA.2.1]
 have tC:0<=(Zz T F).getD x.n.toNat 0/\(Zz T F).getD x.n.toNat 0<=8000:=by rw[hA.2.1];exact⟨hA.2.2.1,hA.2.2.2.1⟩
 have bF:=hA.1;clear hA;unfold zHR;generalize(yb T F x.n).parts=ps at *;have hL:∀ i:Nat,(out++(List.range i).flatMap fun(i:Nat)=>if Be T (ps.getD i 0)then[]else[(⟨2,Wn T F x.n i,Wn T F f (x.args.getD i 0),0,[]⟩:Wh)]).length<=90000+i:=fun i=>by
  have:=Yx (fun(i:Nat)=>if Be T (ps.getD i 0)then[]else[(⟨2,Wn T F x.n i,Wn T F f (x.args.getD i 0),0,[]⟩:Wh)]) (fun _=>zAp _ _) i;rw[QH];omega
 replace js:=Wi.mk js;replace ry:=Wi.mk ry;replace kI:=Wi.mk kI;refine en ?_;refine VH ?_;intro p3 h1 e1 o3;replace o3:WB h h1 p3 [.int .u8 x.op,I x.ty,I x.a,I x.b,I x.n,.slice a1 a2 a3,.slice b1 b2 b3]:=o3;have M1:=M.ext e1;have o1:=M1.ou;have sp1:=sp.ext M1.e;have xP:=BA.ext C.E.sf M1.e;have bZ:=BB.ext C.E.st M1.e;have PA:=(fS _ M1.e).1;have PB:=(fB _ M1.e).1;have ig:WY po p3:=(VF o3.since' M.oo.within).symm;have bO:WY vO p3:=(VF o3.since' fun g hg=>(zZ M.oO g hg).2).symm;refine go ?_;refine VD (fun i=>ps.length-i) (fun i t h3=>zC t 27=I i/\i<=ps.length/\∃ bk,CM hB h3 b (.slice t1 t2 t3) (.slice f1 f2 f3) (.pointer (some ⟨gu,0,none⟩)) po (.slice s1 s2 s3) (.slice r1 r2 r3) T F (.slice k1 k2 k3) bk ks f r (out++(List.range i).flatMap fun(i:Nat)=>if Be T (ps.getD i 0)then[]else[⟨2,Wn T F x.n i,Wn T F f (x.args.getD i 0),0,[]⟩])/\Wg po vO h1 h3 bk) 0 ?_ ?_
 ·exact⟨WJ,QQ _,vO,by simpa using M1,Wg.refl ..⟩
 rintro i t h3 ab ⟨s27,hi,bk,M3,gY⟩;obtain⟨tD,Hy⟩:=VN o3 gY ig bO;have sp3:=sp.ext M3.e;have o3u:=M3.ou;refine F0 ?_ ?_<;>intro hb
 ·have af:i<ps.length:=ω
  have Af:i<x.args.length:=ω
  have hx:=ry.out _ (zd af);have fL:=js.out _ (zd Af);have hg:=kI.out i;have cf:=yt (fun(i:Nat)=>if Be T (ps.getD i 0)then[]else[(⟨2,Wn T F x.n i,Wn T F f (x.args.getD i 0),0,[]⟩:Wh)]) i;refine go ?_;refine VA (Yz M3.ou (BB.ext C.E.st M3.e) (ps.getD i 0) hx) ?_;rintro _ _ ⟨rfl,rfl⟩;cases rz:Be T (ps.getD i 0)with
  |true=>
   rw[rz]at cf;refine go ?_;refine zA (i+1) ω ⟨Wy,ω,bk,?_,gY⟩;rw[cf];simpa using M3
  |false=>
   rw[rz]at cf;refine go ?_;refine VC 1 rfl rfl ?_;have Fc:WB hB (inC (zB 1 h3)) (.pointer (some ⟨gu,0,none⟩)) [.slice t1 t2 t3,.slice f1 f2 f3,.slice s1 s2 s3,.slice r1 r2 r3,I (zV T F),.slice k1 k2 k3,I f,I r,Zr po]:=zu 1 (M3.ou);have Fe:Wc (inC (zB 1 h3)) (.slice r1 r2 r3) (Zz T F):=YW 1 (M3.oR.sl);have ru:WB h (inC (zB 1 h3)) p3 [.int .u8 x.op,I x.ty,I x.a,I x.b,I x.n,.slice a1 a2 a3,.slice b1 b2 b3]:=zu 1 (tD);have tB:Wc (inC (zB 1 h3)) (.slice a1 a2 a3) x.args:=YW 1 ((sa.ext M3.e));refine WU ?_;refine VA (ZH Fc Fe C.hs hf (x.args.getD i 0) ω) ?_;rintro _ _ ⟨rfl,rfl⟩;refine WO.nil (ZP za ?_);refine WU ?_;rw[<-hg];refine Wb.add (X:=inC (zB 1 _)) (⟨2,Wn T F x.n i,Wn T F f (x.args.getD i 0),0,[]⟩:Wh) (fun _=>False) C M3 (WH.refl _) (by have:=hL i;omega) YY (fun _ h=>h.elim) ?_;intro H gA t' br MH kH;refine go ?_;refine zA (i+1) ω ⟨Wy,ω,gA,?_,gY.trans kH⟩;rw[cf,<-Qd];exact MH
 ·have bj:i=ps.length:=ω
  subst bj;refine go ?_;refine VA (Yz M3.ou (BB.ext C.E.st M3.e) x.ty cD) ?_;rintro _ _ ⟨rfl,rfl⟩;cases rz:Be T x.ty with
  |true=>
   refine go ?_;refine BN ?_;exact⟨bk,by simpa using M3,(Wg.ext e1).trans gY⟩
  |false=>
   refine go ?_;refine VC 1 rfl rfl ?_;have Fc:WB hB (inC (zB 1 h3)) (.pointer (some ⟨gu,0,none⟩)) [.slice t1 t2 t3,.slice f1 f2 f3,.slice s1 s2 s3,.slice r1 r2 r3,I (zV T F),.slice k1 k2 k3,I f,I r,Zr po]:=zu 1 (M3.ou);have Fe:Wc (inC (zB 1 h3)) (.slice r1 r2 r3) (Zz T F):=YW 1 (M3.oR.sl);refine WU ?_;refine VA (ZH Fc Fe C.hs hf r hr) ?_;rintro _ _ ⟨rfl,rfl⟩;refine WO.nil (ZP za ?_);refine WU ?_;refine Ye (j:=4) M3.ou (by show h3.n<=h3.n+1;omega) ?_;refine WU ?_;refine Wb.add (X:=inC (zB 1 _)) (⟨2,Wn T F f r,zV T F+x.n,0,[]⟩:Wh) (fun _=>False) C M3 (WH.refl _) (by have:=hL ps.length;omega) YY (fun _ h=>h.elim) ?_;intro H gA t' br MH kH;refine go ?_;refine BN ?_;exact⟨gA,by simpa using MH,(Wg.ext e1).trans (gY.trans kH)⟩
def zSC(C:CE hB b vt vf pu po vS vR T F)(M:CM hB h b vt vf pu po vS vR T F vK vO ks f r out)(hf:0<=f/\f<(F.length:Int))(hr:0<=r/\r<=1000)(hl:out.length<=90000)(x:Wu)(va:Value)(b1:Option Addr)(b2 b3:Nat)(sa:Wc hB va x.args)(I0:CI T F ks x)(hk:ks.length<=1000):
  G0 58 [pu,.agg #[.int .u8 x.op,I x.ty,I x.a,I x.b,I x.n,va,.slice b1 b2 b3]] h fun _ h'=>CP hB b vt vf pu po vS vR T F vK vO ks f r (out++YH T F f ks r x) h h':=by
 obtain⟨a1,a2,a3,rfl⟩:=Wm.shape sa;have cE:=I0.op;refine en ?_;refine VH ?_;intro p3 h1 e1 o3;replace o3:WB h h1 p3 [.int .u8 x.op,I x.ty,I x.a,I x.b,I x.n,.slice a1 a2 a3,.slice b1 b2 b3]:=o3;have M1:=M.ext e1;have fin:∀ {l:List Wh} {h2:WA},l=YH T F f ks r x->CP hB b vt vf pu po vS vR T F vK vO ks f r (out++l) h1 h2->CP hB b vt vf pu po vS vR T F vK vO ks f r (out++YH T F f ks r x) h h2:=fun e ⟨v,a,c⟩=>⟨v,by rw[<-e];exact a,(Wg.ext e1).trans c⟩;have tx:=sa.ext M1.e;by_cases c1:x.op=2\/x.op=3
 ·have hc:[(⟨1,Wn T F f r,0,if x.op=3 then x.n+1 else 0,[]⟩:Wh)]=YH T F f ks r x:=by unfold YH;rw[QJ c1]
  have tP:x.op=3->0<=x.n/\x.n<=1000:=fun e=>by have:=I0.n3 e;have:=C.E.sm.funcs;omega
  rcases c1 with c1|c1;all_goals
   refine go ?_
   refine VA (zP9 C M1 hf hr hl x a1 b1 a2 a3 b2 b3 tP) ?_
   rintro rr h2 q2
   refine go ?_
   refine BN ?_
   exact fin hc q2
 by_cases c2:x.op=11\/x.op=12
 ·have hc:zHY T F f r (Ym T f r (zW T F) 0 [])=YH T F f ks r x:=by unfold YH;rw[QC c1,QJ c2]
  rcases c2 with c2|c2;all_goals
   refine go ?_
   refine VA (zPz C M1 hf hr hl) ?_
   rintro rr h2 q2
   refine go ?_
   refine BN ?_
   exact fin hc q2
 by_cases c3:x.op=14\/x.op=15
 ·have hc:[(⟨3,Wn T F f r,Wn T F f x.a,if x.op=14 then stepL T (T.getD (ks.getD x.a.toNat 0).toNat default).elem x.n else 0,[]⟩:Wh)]=YH T F f ks r x:=by unfold YH;rw[QC c1,QC c2,QJ c3]
  have PC:=c3;rcases c3 with c3|c3;all_goals
   refine go ?_
   refine VA (zPp C M1 hf hr hl x a1 b1 a2 a3 b2 b3 I0 hk PC) ?_
   rintro rr h2 q2
   refine go ?_
   refine BN ?_
   exact fin hc q2
 by_cases c4:x.op=16
 ·have hc:(if Be T x.ty then[]else[(⟨4,Wn T F f r,Wn T F f x.a,0,[]⟩:Wh)])=YH T F f ks r x:=by unfold YH;rw[QC c1,QC c2,QC c3,QJ c4]
  refine go ?_;refine VA (zOo C M1 hf hr hl x a1 b1 a2 a3 b2 b3 I0 hk c4) ?_;rintro rr h2 q2;refine go ?_;refine BN ?_;exact fin hc q2
 by_cases c5:x.op=17
 ·have hc:(if Be T (ks.getD x.b.toNat 0)then[]else[(⟨5,Wn T F f x.a,Wn T F f x.b,0,[]⟩:Wh)])=YH T F f ks r x:=by unfold YH;rw[QC c1,QC c2,QC c3,QC c4,QJ c5]
  refine go ?_;refine VA (zNW C M1 hf hl x a1 b1 a2 a3 b2 b3 I0 hk c5) ?_;rintro rr h2 q2;refine go ?_;refine BN ?_;exact fin hc q2
 by_cases c6:x.op=18
 ·have hc:(zHR T F f x.n (yb T F x.n).parts x.args++if Be T x.ty then[]else[(⟨2,Wn T F f r,zV T F+x.n,0,[]⟩:Wh)])=YH T F f ks r x:=by unfold YH;rw[QC c1,QC c2,QC c3,QC c4,QC c5,QJ c6]
  refine go ?_;refine VA (zQL C M1 hf hr hl x _ b1 b2 b3 sa I0 hk c6) ?_;rintro rr h2 q2;refine go ?_;refine BN ?_;exact fin hc q2
 by_cases c7:x.op=19
 ·have hc:[(⟨6,Wn T F f r,Wn T F f x.a,0,x.args.map (Wn T F f)⟩:Wh)]=YH T F f ks r x:=by unfold YH;rw[QC c1,QC c2,QC c3,QC c4,QC c5,QC c6,QJ c7]
  refine go ?_;refine VA (zNO C M1 hf hr hl x _ b1 b2 b3 tx I0 hk c7) ?_;rintro rr h2 q2;refine go ?_;refine BN ?_;exact fin hc q2
 by_cases c8:x.op=22
 ·have hc:(if Be T x.ty then[]else zPE T F f r x.args)=YH T F f ks r x:=by unfold YH;rw[QC c1,QC c2,QC c3,QC c4,QC c5,QC c6,QC c7,QJ c8]
  refine go ?_;refine VA (zSS C M1 hf hr hl x _ b1 b2 b3 tx I0 hk c8) ?_;rintro rr h2 q2;refine go ?_;refine BN ?_;exact fin hc q2
 ·have hc:[]=YH T F f ks r x:=by unfold YH;rw[QC c1,QC c2,QC c3,QC c4,QC c5,QC c6,QC c7,QC c8]
  refine go ?_;refine BN ?_;exact fin hc ⟨vO,by simpa using M1,Wg.refl ..⟩
end
def zUB{h:WA}{v:Value}{l:List We}(k:Nat)(s:BA h v l):BA (inC (zB k h)) v l:=by
 have:=BA.ext s (zG k h);exact this
def zTk{X:WA}{n:Int}{D:Nat->Prop}:B6 RI X [I n] n D:=fun _ _ _=>rfl
def zSg(T:List WF)(F:List We)(f:Int)(ks:List Int)(r:Int)(x:Wu)(h1:x.args.length<=20)(h2:(Ym T f r (zW T F) 0 []).2.length<=40)(h3:x.op=18->(yb T F x.n).parts.length<=20):(YH T F f ks r x).length<=41:=by
 unfold YH;split
 ·simp
 split
 ·unfold zHY zM7;rw[Qn];have:=Yx (fun i=>if Be T ((Ym T f r (zW T F) 0 []).2.getD i 0)then[]else[⟨1,zV T F+F.length+(Ym T f r (zW T F) 0 []).1+i,0,0,[]⟩]) (fun i=>zAp _ _) (Ym T f r (zW T F) 0 []).2.length;omega
 split
 ·simp
 split
 ·have:=zAp (Be T x.ty) ⟨4,Wn T F f r,Wn T F f x.a,0,[]⟩;omega
 split
 ·have:=zAp (Be T (ks.getD x.b.toNat 0)) ⟨5,Wn T F f x.a,Wn T F f x.b,0,[]⟩;omega
 split
 ·rename_i h;rw[QH];have:=zAp (Be T x.ty) ⟨2,Wn T F f r,zV T F+x.n,0,[]⟩;have h4:=h3 h;have:=Yx (fun i=>if Be T ((yb T F x.n).parts.getD i 0)then[]else[⟨2,Wn T F x.n i,Wn T F f (x.args.getD i 0),0,[]⟩]) (fun i=>zAp _ _) (yb T F x.n).parts.length;unfold zHR;omega
 split
 ·simp
 split
 ·split
  ·simp
  ·unfold zPE;have:=Yx (fun(i:Nat)=>[⟨2,Wn T F f r,Wn T F f (x.args.getD i 0),0,[]⟩]) (fun i=>by simp) x.args.length;omega
 ·simp
def zU3{hB h:WA}{v:Value}{l:List Int}(o:WP hB h v l):WR 1 RI hB.n h v l:=by
 rcases o with⟨rfl,rfl⟩|⟨g,g1,g2,rfl,g4⟩
 ·exact .inl ⟨rfl,rfl⟩
 ·refine .inr ⟨g,l.map I,fun _=>False,g1,g2,rfl,g4,by simp,fun h=>h,fun k hk=>hk.elim,fun i a ha=>fun _ _ _=> ?_⟩;obtain⟨hi,rfl⟩:=QS.1 ha;unfold RI;rw[G7];apply List.ext_getElem
  ·simp;omega
  ·intro j h1 h2;simp at h2;subst h2;simp
def zQ8{hB h h':WA}{p:Value}{cs:List Value}(e:WH hB h)(o:WB hB h p cs)(u:Wo p h h')(wf:Wf h->Wf h')(hm:h'.mark=h.mark)(hw:h'.wr=h.wr):WH hB h':=by
 obtain⟨g,g1,g2,rfl,g3⟩:=o;exact⟨QM e.n u.1,fun k hk=>(u.2 k (QG hk e.n) fun e=>by cases e;omega).trans (e.get k hk),fun w=>wf (e.wf w),hm.trans e.mark,fun h=>hw.trans (e.wr h)⟩
def zAT{h0 h h':WA}{p q:Value}{cs:List Value}(o:WB h0 h q cs)(u:Wo p h h')(d:WY p q):WB h0 h' q cs:=by
 obtain⟨g,g1,g2,rfl,g3⟩:=o;exact⟨g,g1,QG g2 u.1,rfl,(u.2 g g2 fun e=>d g (by rw[e];rfl) rfl).trans g3⟩
def zCq{p:Value}{h h1 h2:WA}(a:Wo p h h1)(b:Wo p h1 h2):Wo p h h2:=⟨QM a.1 b.1,fun g hg hp=>(b.2 g (QG hg a.1) hp).trans (a.2 g hg hp)⟩
def zD9{p:Value}{h h1:WA}(e:WH h h1):Wo p h h1:=⟨e.n,fun g hg _=>e.get g hg⟩
section
variable {hB h h':WA}{b:Nat}{vt vf pu po vS vR vK iD vO:Value}{T:List WF}{F:List We}{ks sU:List Int}{f r f' r':Int}{out:List Wh}
def CM.upU(M:CM hB h b vt vf pu po vS vR T F vK vO ks f r out)(C:CE hB b vt vf pu po vS vR T F)(u:Wo pu h h')(e:WH hB h')(ou:WB hB h' pu [vt,vf,vS,vR,I (zV T F),iD,I f',I r',Zr po])(oK:WP hB h' iD sU)(hk:∀ g,BJ iD=some g->b<=g)(ko:WY vO iD):
  CM hB h' b vt vf pu po vS vR T F iD vO sU f' r' out:=
 ⟨e,QM M.hb u.1,ou,zAT M.oo u C.uo,M.oS.upB zF2 u.upB C.uS,M.oR.upB u.upB C.uR,oK,M.oO.upd (fun k k1 k2=>u.2 k k2 fun e=>by have:=C.bu k (by rw[e];rfl);omega) u.1,hk,ko⟩
def CM.setR(M:CM hB h b vt vf pu po vS vR T F vK vO ks f r out)(C:CE hB b vt vf pu po vS vR T F)(u:Wo pu h h')(e:WH hB h')(ou:WB hB h' pu [vt,vf,vS,vR,I (zV T F),vK,I f,I r',Zr po]):CM hB h' b vt vf pu po vS vR T F vK vO ks f r' out:=by
 refine M.upU C u e ou (M.oK.upB u.upB fun g h1 h2=> ?_) M.kb M.ko;have:=C.bu g h1;have:=M.kb g h2;omega
def zSt(C:CE hB b vt vf pu po vS vR T F)(M:CM hB h b vt vf pu po vS vR T F vK vO ks f r out)(g:Nat)(hg:g<F.length):
  G0 57 [pu,I g] h fun _ h'=>∃ iD,CM hB h' b vt vf pu po vS vR T F iD vO (Zy T F g) g r out/\Wo pu h h':=by
 obtain⟨gu,_,_,rfl,_⟩:=id M.ou;obtain⟨s1,s2,s3,rfl⟩:=zD M.oS.sl;obtain⟨r1,r2,r3,rfl⟩:=Wm.shape M.oR.sl;obtain⟨k1,k2,k3,rfl⟩:=Wm.shape M.oK.sl;have E0:=C.E;obtain⟨t1,t2,t3,rfl⟩:=zD E0.st;obtain⟨f1,f2,f3,rfl⟩:=zD E0.sf;have hp:=(z8 C.hs).1;have Z:=zC5 hp (f:=(g:Int)) ω;have gx:=Z.sig;have dL:=Z.par4;have wR:=Z.many;rw[QZ]at gx;have mX:Zy T F g=(T.getD (F.getD g default).sig.toNat default).parts++(F.getD g default).blocks.flatMap fun b=>b.ins.map fun x=>x.ty:=by
  unfold Zy yb zR;rw[QZ]
 have hL:zR F g=(F.getD g default).blocks:=by unfold zR;rw[QZ]
 have hP:yb T F g=T.getD (F.getD g default).sig.toNat default:=by unfold yb;rw[QZ]
 rw[hL]at wR;rw[hP]at dL;rw[mX];have pW:=E0.sm.blocks _ (zH hg);have gb:=E0.sm.ins _ (zH hg);obtain⟨lx,⟨vb,rfl,sb,fC⟩,fS,jW⟩:=zq (i:=g) E0.sf hg;obtain⟨nO,⟨va,rfl,sa,dP⟩,fB,qj⟩:=zq (i:=(F.getD g default).sig.toNat) E0.st ω;generalize F.getD g default=G at *;clear hL hP mX Z;generalize T.getD G.sig.toNat default=X0 at *;obtain⟨b1,b2,b3,rfl⟩:=zD sb;obtain⟨a1,a2,a3,rfl⟩:=Wm.shape sa;refine en ?_;refine VC 0 rfl rfl ?_;have oY:WB hB (inC (zB 0 h)) (.pointer (some ⟨gu,0,none⟩)) [.slice t1 t2 t3,.slice f1 f2 f3,.slice s1 s2 s3,.slice r1 r2 r3,I (zV T F),.slice k1 k2 k3,I f,I r,Zr po]:=M.ou;have eY:=M.e.trans (zG 0 h);have PD:=(fS _ eY).2;have PE:=(fB _ eY).2;have tB:Wc (inC (zB 0 h)) (.slice a1 a2 a3) X0.parts:=YW 0 (sa.ext M.e);have tA:BB (inC (zB 0 h)) (.slice t1 t2 t3) T:=zKq 0 (BB.ext C.E.st M.e);have sfY:BA (inC (zB 0 h)) (.slice f1 f2 f3) F:=zUB 0 (BA.ext C.E.sf M.e);refine WU ?_;refine VA (zGG _ _ X0.parts tB ω) ?_;rintro iD X ⟨oK,eX⟩;refine nE eX ?_;have oZ:WB hB X (.pointer (some ⟨gu,0,none⟩)) [.slice t1 t2 t3,.slice f1 f2 f3,.slice s1 s2 s3,.slice r1 r2 r3,I (zV T F),.slice k1 k2 k3,I f,I r,Zr po]:=oY.ext eX;have bp:h.mark<=hB.n:=by rw[M.e.mark];exact C.hm
 have PF:WB hB (inC X) (.pointer (some ⟨gu,0,none⟩)) [.slice t1 t2 t3,.slice f1 f2 f3,.slice s1 s2 s3,.slice r1 r2 r3,I (zV T F),.slice k1 k2 k3,I f,I r,Zr po]:=oZ;obtain⟨c1,c2,c3,rfl⟩:=Wm.shape oK.sl;refine WU ?_;refine Vy (hB:=hB) (j:=6) (cs:=[I g]) (hl:=by simp) oZ bp ?_;intro X1 n1 lT o1 w1 Ff;replace o1:WB hB X1 (.pointer (some ⟨gu,0,none⟩)) [.slice t1 t2 t3,.slice f1 f2 f3,.slice s1 s2 s3,.slice r1 r2 r3,I (zV T F),.slice k1 k2 k3,I g,I r,Zr po]:=o1;have Fg:WB hB (inC X1) (.pointer (some ⟨gu,0,none⟩)) [.slice t1 t2 t3,.slice f1 f2 f3,.slice s1 s2 s3,.slice r1 r2 r3,I (zV T F),.slice k1 k2 k3,I g,I r,Zr po]:=o1;refine WU ?_;refine Vn (hB:=hB) (j:=5) (cs:=[.slice c1 c2 c3]) (hl:=by simp) o1 bp ?_;intro H n2 i5 o2 w2 m2 ji;replace o2:WB hB H (.pointer (some ⟨gu,0,none⟩)) [.slice t1 t2 t3,.slice f1 f2 f3,.slice s1 s2 s3,.slice r1 r2 r3,I (zV T F),.slice c1 c2 c3,I g,I r,Zr po]:=o2;have C0:h.n<=X.n:=eX.n;have uH:Wo (.pointer (some ⟨gu,0,none⟩)) h H:=⟨ω,fun k hk ah=>by rw[i5 k ah,lT k ah];exact eX.get k (by show k<h.n+0;omega)⟩;have eH:WH hB H:=zQ8 M.e M.ou uH (fun w=>w2 (w1 (eX.wf (fun q hq=>w q (by have hq:h.n+0<=q:=hq;omega))))) m2 ji;have PG:gu<h.n:=M.ou.within _ rfl;have PH:WP h H (.slice c1 c2 c3) X0.parts:=by
  rcases oK with o|⟨q,q1,q2,q3,q4⟩
  ·exact .inl o
  ·have q1:h.n+0<=q:=q1;have hq:Value.pointer (some ⟨gu,0,none⟩)≠ .pointer (some ⟨q,0,none⟩):=fun e=>by cases e;omega
   exact .inr ⟨q,ω,ω,q3,by rw[i5 q hq,lT q hq];exact q4⟩
 have PJ:=zU3 PH;clear lT i5 w1 w2 o1 oZ oK eX oY;have sbH:=Bb.ext sb eH;have sfH:=BA.ext C.E.sf eH;have PK:=(fS _ eH).1;have PL:∀ q,Value.pointer (some ⟨gu,0,none⟩)=.pointer (some ⟨q,0,none⟩)->q<h.n:=fun q e=>by cases e;exact PG
 refine go ?_;refine VD (fun i=>G.blocks.length-i) (fun i t h3=>zC t 43=I i/\i<=G.blocks.length/\WH hB h3/\Wo (.pointer (some ⟨gu,0,none⟩)) h h3/\∃ v,(∃ a n c,v=.slice a n c)/\WB hB h3 (.pointer (some ⟨gu,0,none⟩)) [.slice t1 t2 t3,.slice f1 f2 f3,.slice s1 s2 s3,.slice r1 r2 r3,I (zV T F),v,I g,I r,Zr po]/\WR 1 RI h.n h3 v (X0.parts++(G.blocks.take i).flatMap fun b=>b.ins.map fun x=>x.ty)) 0 ?_ ?_
 ·exact⟨WJ,QQ _,eH,uH,_,⟨_,_,_,rfl⟩,o2,by simpa using PJ⟩
 rintro i t h3 ab ⟨s43,hi,e3,u3,v,⟨v1,v2,v3,rfl⟩,o3,l3⟩;have qm:=Bb.ext sb e3;refine F0 ?_ ?_<;>intro hc
 ·have af:i<G.blocks.length:=ω
  obtain⟨xQ,⟨vi,rfl,si,qo⟩,su,uJ⟩:=zq (i:=i) sb af;have PM:=(su _ e3).1;have cf:((G.blocks.take (i+1)).flatMap fun b=>b.ins.map fun x=>x.ty)=((G.blocks.take i).flatMap fun b=>b.ins.map fun x=>x.ty)++(G.blocks.getD i default).ins.map fun x=>x.ty:=by
   rw[yy af,List.flatMap_append];simp
  have hlen:(((G.blocks.take i).flatMap fun b=>b.ins.map fun x=>x.ty).length:Int)+((G.blocks.getD i default).ins.length:Int)<=zL G.blocks:=by
   have h1:=zJ2 G.blocks (i+1);have h2:∀ L:List Wk,(((L.flatMap fun b=>b.ins.map fun x=>x.ty).length:Nat):Int)=zL L:=fun L=>by
    induction L with
    |nil=>rfl
    |cons c L ih=>rw[List.flatMap_cons,QH,Qr,zAj,<-ih];omega
   have h3:=h2 (G.blocks.take (i+1));rw[cf,QH,Qr]at h3;omega
  have PN:=gb _ (zH af);generalize(G.blocks.take i).flatMap (fun b=>b.ins.map fun x=>x.ty)=pre at *;generalize G.blocks.getD i default=B at *;obtain⟨i1,i2,i3,rfl⟩:=zD si;refine go ?_;refine WO.al ?_;intro p5 h4 e4 o5;refine go ?_;refine VG o5 e4 ?_;intro h5 e5 o5 _;have vH:=e3.trans e5;have Iu:=o3.ext e5;have PO:=WR.ext l3 e5;have PQ:=zCq u3 (zD9 e5);have DX:=Bx.ext si vH;refine go ?_;refine VD (fun q=>B.ins.length-q) (fun q t h6=>zC t 50=I q/\q<=B.ins.length/\WH hB h6/\Wo (.pointer (some ⟨gu,0,none⟩)) h h6/\∃ v,(∃ a n c,v=.slice a n c)/\WB hB h6 (.pointer (some ⟨gu,0,none⟩)) [.slice t1 t2 t3,.slice f1 f2 f3,.slice s1 s2 s3,.slice r1 r2 r3,I (zV T F),v,I g,I r,Zr po]/\WR 1 RI h.n h6 v (X0.parts++pre++(B.ins.take q).map fun x=>x.ty)) 0 ?_ ?_
  ·exact⟨WJ,QQ _,vH,PQ,_,⟨_,_,_,rfl⟩,Iu,by simpa using PO⟩
  rintro q t' h6 gW ⟨s50,hq,e6,u6,v,⟨v1,v2,v3,rfl⟩,o6,l6⟩;have si6:=Bx.ext si e6;refine go ?_;refine VE (fun bH=> ?_) (fun bH=> ?_)<;>simp only[DB]at bH
  ·have di:q<B.ins.length:=ω
   obtain⟨Jc,⟨xa,xf,rfl,fW,gy,l7,Jd,ho⟩,AA,Je⟩:=zq (i:=q) si di;have PR:=(AA _ e6).1;have rC:(B.ins.take (q+1)).map (fun x=>x.ty)=(B.ins.take q).map (fun x=>x.ty)++[(B.ins.getD q default).ty]:=by
    rw[yy di,Q5];rfl
   have wB:((B.ins.take q).map fun x=>x.ty).length<=q:=by rw[Qr];exact List.length_take_le _ _
   generalize B.ins.getD q default=x at *;obtain⟨lI,lJ,lK,rfl⟩:=Wm.shape fW;obtain⟨lM,lN,lO,rfl⟩:=Wm.shape gy;refine go ?_;refine WO.al ?_;intro p7 h7 e7 o7;refine go ?_;refine VG (cs:=[.int .u8 x.op,I x.ty,I x.a,I x.b,I x.n,.slice lI lJ lK,.slice lM lN lO]) o7 e7 ?_;intro h8 e8 o8 _;have qT:=e6.trans e8;have Jx:=o6.ext e8;have Jy:=WR.ext l6 e8;have AK:=zCq u6 (zD9 e8);refine go ?_;refine VC 1 rfl rfl ?_;have Fh:WB hB (inC (zB 1 h8)) (.pointer (some ⟨gu,0,none⟩)) [.slice t1 t2 t3,.slice f1 f2 f3,.slice s1 s2 s3,.slice r1 r2 r3,I (zV T F),.slice v1 v2 v3,I g,I r,Zr po]:=zu 1 (Jx);have o8Y:WB h6 (inC (zB 1 h8)) p7 [.int .u8 x.op,I x.ty,I x.a,I x.b,I x.n,.slice lI lJ lK,.slice lM lN lO]:=zu 1 (o8);refine WU ?_;refine XE (X:=inC (zB 1 _)) (hB:=hB) (b:=h.n) (v:= .slice v1 v2 v3) x.ty (fun _=>False) (WH.refl _) Jy qT (by rw[qT.mark];exact C.hm) (QM C.bn M.hb) AK.1 (by decide) (by simp only[QH]at *;omega) Jx PL (fun _ _ _=>rfl) (fun _ h=>h.elim) (fun _ _ _ _ h=>h) id (by simp) rfl ?_;intro H' v' EB iA PS Fi aT Jz sH' PT PU;obtain⟨w1,w2,w3,rfl⟩:∃ a n c,v'=.slice a n c:=by
    rcases Jz with⟨rfl,_⟩|⟨_,_,_,_,_,rfl,_⟩
    ·exact⟨_,_,_,rfl⟩
    ·exact⟨_,_,_,rfl⟩
   replace Fi:WB hB H' (.pointer (some ⟨gu,0,none⟩)) [.slice t1 t2 t3,.slice f1 f2 f3,.slice s1 s2 s3,.slice r1 r2 r3,I (zV T F),.slice w1 w2 w3,I g,I r,Zr po]:=Fi;have PV:Wo (.pointer (some ⟨gu,0,none⟩)) h H':=⟨QM AK.1 PU,fun k hk ah=>by
    rw[PT k (QG hk AK.1) ah fun n k' e=>by have:=(zZ Jy k (by rw[e];rfl)).1;omega];exact AK.2 k hk ah⟩
   refine go ?_;refine zA (q+1) ω ⟨Wy,ω,PS,PV,_,⟨_,_,_,rfl⟩,Fi,?_⟩;rw[rC,<-Qd];exact Jz
  ·have lu:q=B.ins.length:=ω
   subst lu;rw[Qs]at l6;refine go ?_;refine zA (i+1) ω ⟨Wy,ω,e6,u6,_,⟨_,_,_,rfl⟩,o6,?_⟩;rw[cf,<-Qd];exact l6
 ·have bj:i=G.blocks.length:=ω
  subst bj;rw[Qs]at l3;refine go ?_;refine BN ?_;refine⟨_,M.upU C u3 e3 o3 (zBx l3 (QM C.bn M.hb)) (fun k hk=>QM M.hb (zZ l3 k hk).1) fun k h1 h2=> ?_,u3⟩;have:=(zZ M.oO k h1).2;have:=(zZ l3 k h2).1;omega
end
end Go.Proofs.YtndffgfnndoifaaGreatDoor
