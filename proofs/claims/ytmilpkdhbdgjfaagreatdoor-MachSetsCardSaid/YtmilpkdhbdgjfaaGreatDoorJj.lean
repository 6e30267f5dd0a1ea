/- Walks of functions, plain laws; proves no statement. -/
import Derived.Test.YtmilpkdhbdgjfaaGreatDoorJi
set_option linter.all false
set_option maxHeartbeats 4000000
set_option maxRecDepth 100000
namespace Go.Proofs.YtmilpkdhbdgjfaaGreatDoor
open Go.Am
structure SmallM(a:Wb):Prop where
 mem:a.mem.length<=100
 cells:∀ i,i<a.mem.length->(a.mem.getD i default).cells.length<=1000
 frs:a.frs.length<=100
 regs:∀ i,i<a.frs.length->(a.frs.getD i default).regs.length<=1000
 inn:a.inn.length<=1000
 evs:a.evs.length<=1000
theorem zMF{hb h h':WG}{p q:Value}{cs:List Value}(o:WI hb h q cs)(u:Wu p h h')(hp:∀ g,p=.pointer (some ⟨g,0,none⟩)->g<hb.n):WI hb h' q cs:=by
 obtain⟨g,g1,g2,g3,g4⟩:=o;exact⟨g,g1,QK g2 u.1,g3,(u.2 g g2 (fun e=>by have:=hp g e;omega)).trans g4⟩
theorem zO6{c n:Nat}{h h':WG}{v:Value}{cells:List Value}(s:Wv c h v n cells)(hg:∀ g,g<h.n->h'.get g=h.get g)(hn:h.n<=h'.n):Wv c h' v n cells:=by
 obtain⟨a,b⟩:=s;refine⟨a,b.imp id ?_⟩;rintro⟨g,off,row,e1,e2,e3,e4⟩;exact⟨g,off,row,e1,by unfold zt at e2 |-;rw[hg g e4];exact e2,e3,QK e4 hn⟩
theorem zJ6{h h':WG}{v:Value}{l:List Wi}(s:BA h v l)(hg:∀ g,g<h.n->h'.get g=h.get g)(hn:h.n<=h'.n):BA h' v l:=zBE s (fun _ _ r=>r) hg hn
theorem zOr{h h':WG}{v:Value}{l:List MEv}(s:SlE h v l)(hg:∀ g,g<h.n->h'.get g=h.get g)(hn:h.n<=h'.n):SlE h' v l:=zBE s (fun _ _ r=>r) hg hn
theorem zNZ{h h':WG}{v:Value}{l:List BU}(s:W7 h v l)(hg:∀ g,g<h.n->h'.get g=h.get g)(hn:h.n<=h'.n):W7 h' v l:=zBE s (fun _ _ ⟨v,a,b,c⟩=>⟨v,a,zJ6 b hg hn,c⟩) hg hn
theorem zG1{hb h h':WG}{p:Value}{cs:List Value}(o:WI hb h p cs)(hg:∀ g,p=.pointer (some ⟨g,0,none⟩)->g<h.n->h'.get g=h.get g)(hn:h.n<=h'.n):WI hb h' p cs:=by
 obtain⟨g,a,b,c,d⟩:=o;exact⟨g,a,QK b hn,c,(hg g c b).trans d⟩
theorem zHb{hb h h':WG}{v:Value}{l:List Int}(o:Wc hb h v l)(hg:∀ g,hb.n<=g->g<h.n->h'.get g=h.get g)(hn:h.n<=h'.n):Wc hb h' v l:=by
 rcases o with o|⟨g,a,b,c,d⟩
 ·exact .inl o
 ·exact .inr ⟨g,a,QK b hn,c,(hg g a b).trans d⟩
theorem zFN{α β:Type}[Inhabited α][Inhabited β]{c:Nat}{A:WG->List Value->α->Prop}{B:WG->List Value->β->Prop}{h:WG}{v:Value}{l:List α}{xs:List β}(s:Wy c B h v xs){rel:β->α->Prop}(hl:xs.length=l.length)(hrel:∀ i,i<l.length->rel (xs.getD i default) (l.getD i default))(hr:∀ cs x a,B h cs x->rel x a->A h cs a):Wy c A h v l:=by
 obtain⟨cells,s1,s2⟩:=s;refine⟨cells,by rw[<-hl];exact s1,fun i a ha=> ?_⟩;have hi:=(QN.1 ha).1;have hx:xs[i]?=some xs[i]:=QB (by omega);have:=hrel i hi;rw[Yy ha,Yy hx]at this;exact hr _ _ _ (s2 i _ hx) this
def zGq(x:Br)(f:BT):Prop:=x.fn=f.fn/\x.block=f.block/\x.pos=f.pos/\x.into=f.into
structure OwnMach(b:Nat)(h:WG)(cs:List Value)(a:Wb):Prop where
 own:∃ vm vf vi ve xs b1 b2,cs=[vm,vf,vi,I a.used,ve,I a.steps,I a.heaps,.int .u8 a.state,I a.trap,I a.exit]/\WZ 5 B7 b1 h vf xs/\xs.length=a.frs.length/\b<=b1/\b1<=b2/\b2<=h.n/\(∀ g n k,vf=.slice (some ⟨g,0,none⟩) n k->g<b2)/\
  (∀ i,i<xs.length->WZ 4 W5 b2 h (xs.getD i default).v (a.frs.getD i default).regs)/\(∃ hb:WG,b<=hb.n/\Wc hb h vi a.inn)/\(∀ g n k,vi=.slice (some ⟨g,0,none⟩) n k->g<b1)/\∀ j k,j<k->k<xs.length->Wp (xs.getD j default).v (xs.getD k default).v
theorem ZQ{α:Type}{c b:Nat}{R:WG->List Value->α->Prop}{h:WG}{v:Value}{xs:List α}(o:WZ c R b h v xs):∀ g,blk v=some g->b<=g/\g<h.n:=fun g hg=>by
 rcases o with⟨rfl,_⟩|⟨g,_,_,g1,g2,rfl,_⟩
 ·cases hg
 ·cases hg;exact⟨g1,g2⟩
theorem zAo(h:WG)(ca:List Value)(a:Wb)(ra:RMm h ca a)(sm:SmallM a)(hm:h.mark<=h.n):WC Tryz.prog tb 30 [.agg ca.toArray] h fun r h'=>(∃ cs,r=.agg cs.toArray/\RMm h' cs a/\OwnMach h.n h' cs a)/\WL h h':=by
 obtain⟨am,af,ai,ae,rfl,kam,kaf,kai,kae,lam,laf,lai,lae⟩:=ra;obtain⟨sm1,sm2,sm3,sm4,sm5,sm6⟩:=sm;replace sm4:=Wt.mk sm4;obtain⟨xs,sx,lx,rx⟩:=zKM (rel:=fun x f=>zGq x f/\BA h x.v f.regs/\(f.regs.length:Int)<=9223372036854775807) (B:=B7) kaf (fun cs a r=>by
  obtain⟨x,r1,a1,a2,a3,a4,a5⟩:=Uj r;obtain⟨_,_,_,hl⟩:=r;exact⟨x,r1,⟨a1,a2,a3,a4⟩,a5,hl⟩)
 replace rx:=Wt.mk rx;refine en ?_;refine VG ?_;intro p h1 e1 o1;have hp:=zDb o1;replace o1:WI h h1 p [am,af,ai,I a.used,ae,I a.steps,I a.heaps,.int .u8 a.state,I a.trap,I a.exit]:=o1;refine go ?_;refine VJ ?_;intro q h2 e2 o2;have hq2:=zDb o2;have o1:=o1.ext e2;have e12:=e1.trans e2;refine go ?_;refine VC 0 rfl rfl ?_;have oX:WI h (inC (zB 0 h2)) p [am,af,ai,I a.used,ae,I a.steps,I a.heaps,.int .u8 a.state,I a.trap,I a.exit]:=o1;have g0:∀ g,g<h.n->(inC (zB 0 h2)).get g=h.get g:=fun g hg=>e12.get g hg;have n0:h.n<=(inC (zB 0 h2)).n:=e12.n;have w0:Wf h->Wf (inC (zB 0 h2)):=fun w=>e12.wf w;have hpb:∀ g,p=.pointer (some ⟨g,0,none⟩)->g<(inC (zB 0 h2)).n:=fun g e=>by have:=(hp g e).2;have:=e2.n;show g<h2.n;omega
 have hqb:∀ g,q=.pointer (some ⟨g,0,none⟩)->g<(inC (zB 0 h2)).n:=fun g e=>(hq2 g e).2;have oq:WI h (inC (zB 0 h2)) q [.slice none 0 0,.slice none 0 0,.slice none 0 0,I 0,.slice none 0 0,I 0,I 0,.int .u8 0,I 0,I 0]:=o2.since e1;have hN:(inC (zB 0 h2)).n=h2.n:=rfl;refine Wg ?_;refine VA (zEX _ am a.mem (zNZ kam g0 n0) (QE _) sm1 sm2) ?_;rintro vm X1 ⟨om,e01⟩;refine nE e01 ?_;have oX:=oX.ext e01;have oq:=oq.ext e01;replace oX:WI h (inC X1) p _:=oX;have g1:∀ g,g<h.n->(inC X1).get g=h.get g:=fun g hg=>(e01.get g (QK hg n0)).trans (g0 g hg);have n1:h.n<=(inC X1).n:=QO n0 e01.n;refine Wg ?_;refine zDg o1 (QE _) ?_;refine Wg ?_;refine VA (zE0 _ ai a.inn (zO6 kai g1 n1) (by omega)) ?_;rintro vi X2 ⟨oi,e12'⟩;refine nE e12' ?_;have oX:=oX.ext e12';replace oX:WI h (inC X2) p _:=oX;have g2:∀ g,g<h.n->(inC X2).get g=h.get g:=fun g hg=>(e12'.get g (QK hg n1)).trans (g1 g hg);have n2:h.n<=(inC X2).n:=QO n1 e12'.n;refine Wg ?_;refine zDg o1 (QE _) ?_;refine Wg ?_;refine VA (zLH _ ae a.evs (zOr kae g2 n2) (by omega)) ?_;rintro ve X3 ⟨oe,e23⟩;refine nE e23 ?_;have oX:=oX.ext e23;replace oX:WI h (inC X3) p _:=oX;have g3:∀ g,g<h.n->(inC X3).get g=h.get g:=fun g hg=>(e23.get g (QK hg n2)).trans (g2 g hg);have n3:h.n<=(inC X3).n:=QO n2 e23.n;refine Wg ?_;refine zDg o1 (QE _) ?_;refine Wg ?_;refine VA (zK0 _ af xs (zBE sx (fun _ _ r=>r) g3 n3) (by omega)) ?_;rintro vf X4 ⟨of,e34⟩;refine nE e34 ?_;have oX:=oX.ext e34;replace oX:WI h (inC X4) p _:=oX;refine Wg ?_;obtain⟨m1,m2,m3,rfl⟩:=zb om.sl;obtain⟨i1,i2,i3,rfl⟩:=Wv.shape oi.sl;obtain⟨v1,v2,v3,rfl⟩:=zb oe.sl;obtain⟨f1,f2,f3,rfl⟩:=zb of.sl;have hmk:h2.mark<=h.n:=by rw[e12.mark];exact hm
 refine Vz (hB:=h) (j:=0) (cs:=[.slice m1 m2 m3]) (hl:=by simp) oX hmk ?_;intro X5 n5 k5 oX w5 cl5;replace oX:WI h (inC X5) p [.slice m1 m2 m3,af,ai,I a.used,ae,I a.steps,I a.heaps,.int .u8 a.state,I a.trap,I a.exit]:=oX;refine Wg ?_;refine Vz (hB:=h) (j:=2) (cs:=[.slice i1 i2 i3]) (hl:=by simp) oX hmk ?_;intro X6 n6 k6 oX w6 cl6;replace oX:WI h (inC X6) p [.slice m1 m2 m3,af,.slice i1 i2 i3,I a.used,ae,I a.steps,I a.heaps,.int .u8 a.state,I a.trap,I a.exit]:=oX;refine Wg ?_;refine Vz (hB:=h) (j:=4) (cs:=[.slice v1 v2 v3]) (hl:=by simp) oX hmk ?_;intro X7 n7 k7 oX w7 cl7;replace oX:WI h (inC X7) p [.slice m1 m2 m3,af,.slice i1 i2 i3,I a.used,.slice v1 v2 v3,I a.steps,I a.heaps,.int .u8 a.state,I a.trap,I a.exit]:=oX;refine Wg ?_;refine XA (hB:=h) (j:=1) (cs:=[.slice f1 f2 f3]) (hl:=by simp) oX hmk ?_;intro H n8 k8 oX w8 m8 r8;replace oX:WI h H p [.slice m1 m2 m3,.slice f1 f2 f3,.slice i1 i2 i3,I a.used,.slice v1 v2 v3,I a.steps,I a.heaps,.int .u8 a.state,I a.trap,I a.exit]:=oX;have b2:=e2.n;have b1:=e1.n;have hpk:∀ k,h2.n<=k->p≠ .pointer (some ⟨k,0,none⟩):=fun k hk e=>by have:=(hp k e).2;omega
 have hpk0:∀ k,k<h.n->p≠ .pointer (some ⟨k,0,none⟩):=fun k hk e=>by have:=(hp k e).1;omega
 have c1:h2.n<=X1.n:=e01.n;have c2:X1.n<=X2.n:=e12'.n;have c3:X2.n<=X3.n:=e23.n;have c4:X3.n<=X4.n:=e34.n;have nH:H.n=X4.n:=n8.trans (n7.trans (n6.trans n5));have kH:∀ k,p≠ .pointer (some ⟨k,0,none⟩)->H.get k=X4.get k:=fun k hk=>(k8 k hk).trans ((k7 k hk).trans ((k6 k hk).trans (k5 k hk)));have om3:WZ 5 RMb h2.n X3 (.slice m1 m2 m3) a.mem:=WZ.ext (h:=inC X2) (WZ.upd (WZ.ext (h:=inC X1) (h':=X2) (WZ.upd om (fun _ _ _=>rfl) (QE _)) e12') (fun _ _ _=>rfl) (QE _)) e23;have oi3:Wc (inC X1) X3 (.slice i1 i2 i3) a.inn:=Wc.ext (h:=inC X2) oi e23;have eH:WL h H:=⟨by omega,fun g hg=>(kH g (hpk0 g hg)).trans ((e34.get g (QK hg n3)).trans (g3 g hg)),fun w=>w8 (w7 (w6 (w5 (e34.wf (e23.wf (e12'.wf (e01.wf (w0 w)))))))),m8.trans e12.mark,fun hm'=>r8.trans (e12.wr hm')⟩;have KH:∀ k,h2.n<=k->k<X3.n->H.get k=X3.get k:=fun k hk1 hk2=>(kH k (hpk k hk1)).trans (e34.get k hk2);have oF:WZ 5 B7 X3.n H (.slice f1 f2 f3) xs:=WZ.upd of (fun k hk1 hk2=>kH k (hpk k (by have hk1:X3.n<=k:=hk1;omega))) (Nat.le_of_eq nH.symm);have oQ:WI h H q [.slice none 0 0,.slice none 0 0,.slice none 0 0,I 0,.slice none 0 0,I 0,I 0,.int .u8 0,I 0,I 0]:=by
  obtain⟨g,q1,q2,q3,q4⟩:=oq;have hg:=(hq2 g q3);have q2:g<X1.n:=q2;refine⟨g,q1,by omega,q3,(kH g (fun e=>by have:=(hp g e).2;omega)).trans ?_⟩;exact(e34.get g (by show g<X3.n;omega)).trans ((e23.get g (by show g<X2.n;omega)).trans ((e12'.get g q2).trans q4))
 have hgF:∀ g n k,Value.slice f1 f2 f3=.slice (some ⟨g,0,none⟩) n k->X3.n<=g/\g<H.n:=fun g n k e=>zHD oF e;have hX3H:X3.n<=H.n:=by omega
 have hqX:∀ g,q=.pointer (some ⟨g,0,none⟩)->h1.n<=g/\g<h2.n:=hq2;have hmH:H.mark<=h.n:=by rw[m8];exact hmk
 clear k8 k7 k6 k5 n8 n7 n6 n5 w8 w7 w6 w5 of oq e34 e23 e12' e01 g0 g1 g2 g3 n0 n1 n2 n3 w0 o2 om oi hN hqb hpb m8 r8 kH nH c4;have hrelx:Wt (∀ j,j<xs.length->zGq (xs.getD j default) (a.frs.getD j default)):=⟨fun j hj=>(rx.out j (by omega)).1⟩;have sF:=oF.sl;refine go ?_;refine VE (fun i=>xs.length-i) (fun i t ht=>∃ ys,WL h ht/\zC t 24=I i/\i<=xs.length/\H.n<=ht.n/\WI h ht p [.slice m1 m2 m3,.slice f1 f2 f3,.slice i1 i2 i3,I a.used,.slice v1 v2 v3,I a.steps,I a.heaps,.int .u8 a.state,I a.trap,I a.exit]/\WI h ht q [.slice none 0 0,.slice none 0 0,.slice none 0 0,I 0,.slice none 0 0,I 0,I 0,.int .u8 0,I 0,I 0]/\
  Wt (∀ k,h2.n<=k->k<X3.n->ht.get k=X3.get k)/\WZ 5 B7 X3.n ht (.slice f1 f2 f3) ys/\ys.length=xs.length/\Wt (∀ j,j<xs.length->zGq (ys.getD j default) (a.frs.getD j default))/\Wt (∀ j,i<=j->j<xs.length->ys.getD j default=xs.getD j default)/\Wt (∀ j,j<i->WZ 4 W5 H.n ht (ys.getD j default).v (a.frs.getD j default).regs)/\Wt (∀ j k,j<k->k<i->Wp (ys.getD j default).v (ys.getD k default).v)) 0 ?_ ?_
 ·exact⟨xs,eH,WN,QU _,QE _,oX,oQ,⟨KH⟩,oF,rfl,hrelx,⟨fun j _ _=>rfl⟩,⟨fun j hj=>absurd hj (Ql _)⟩,⟨fun j k _ hk=>absurd hk (Ql _)⟩⟩
 rintro i t ht hsame ⟨ys,et,s24,hi,nt,op,oq,hK,oy,ly,hrel,hold,hnew,hoff⟩;have sy:=oy.sl;refine go ?_;refine VD (fun hc=> ?_) (fun hc=> ?_)<;>simp only[DB]at hc
 ·have hi':i<ys.length:=by omega
  obtain⟨cs,⟨rfl,hone⟩,pc,hs⟩:=zd sy hi';have pcX:=pc;have pc:=(pc _ (WL.refl _)).1;have hyi:ys.getD i default=xs.getD i default:=hold.out i (QE _) (by omega);obtain⟨_,rv,rl⟩:=rx.out i (by omega);have rr:=hrel.out i (by omega);have hrl:=sm4.out i (by omega);rw[<-hyi]at rv;have hshape:∃ a n k,(ys.getD i default).v=.slice a n k:=Ze rv;generalize hy:ys.getD i default=y at *;generalize hb:a.frs.getD i default=b at *;obtain⟨y1,y2,y3,yv,y4⟩:=y;obtain⟨ya,yn,yk,hyv⟩:=hshape;have hyv:yv=.slice ya yn yk:=hyv;subst hyv;refine go ?_;refine VJ ?_;intro p4 h4 e4 o4;have op:=op.ext e4;refine go ?_;refine VF (cs:=[I y1,I y2,I y3,.slice ya yn yk,I y4]) o4 e4 ?_;intro h5 e5 o5 u5;have op:=(by assumption:WI h ht p _).ext e5;have oy5:=oy.ext e5;have e05:=et.trans e5;have n5:=e5.n;refine go ?_;refine VC 0 rfl rfl ?_;have opX:WI h (inC (zB 0 h5)) p _:=op;have o5X:WI ht (inC (zB 0 h5)) p4 _:=o5;refine Wg ?_;refine VA (zLj _ (.slice ya yn yk) b.regs (zJ6 rv (fun g hg=>e05.get g hg) e05.n) (by omega)) ?_;rintro w X6 ⟨ow,e6⟩;refine nE e6 ?_;obtain⟨w1,w2,w3,rfl⟩:=zb ow.sl;have oy6:WZ 5 B7 X3.n X6 (.slice f1 f2 f3) ys:=WZ.ext (h:=inC (zB 0 h5)) (WZ.upd oy5 (fun _ _ _=>rfl) (QE _)) e6;have sy6:Wy 5 B7 (inC X6) (.slice f1 f2 f3) ys:=WZ.sl (h:=inC X6) (WZ.upd oy6 (fun _ _ _=>rfl) (QE _));refine Wg ?_;refine UO (i:=i) (off:=3) (cs:=[.slice w1 w2 w3]) (ho:=by simp) ⟨y1,y2,y3,.slice w1 w2 w3,y4⟩ oy6 (by have:=e05.mark;show h5.mark<=X3.n;omega) hi' (fun old hx hr ho=>by
   rw[hy]at hr;obtain⟨rfl,_⟩:=hr;exact⟨rfl,rfl⟩) ?_
  intro H7 n7 k7 oy7 w7 m7 r7;have n7:H7.n=X6.n:=n7;have n6:h5.n<=X6.n:=e6.n;have k6:∀ g,g<h5.n->X6.get g=h5.get g:=fun g hg=>e6.get g hg;have n45:ht.n<=h5.n:=n5;have hno:∀ g,(g<X3.n\/H.n<=g)->∀ n k',Value.slice f1 f2 f3≠ .slice (some ⟨g,0,none⟩) n k':=fun g hg n k' e=>by have:=hgF g n k' e;omega
  have kk:∀ g,g<h5.n->(g<X3.n\/H.n<=g)->H7.get g=h5.get g:=fun g hg hq=>(k7 g (by omega) (hno g hq)).trans (k6 g hg);have e7:WL h H7:=⟨by have:=e05.n;omega,fun g hg=>(kk g (by have:=e05.n;omega) (.inl (by omega))).trans (e05.get g hg),fun w=>w7 (e6.wf (e05.wf w)),m7.trans e05.mark,fun hm'=>r7.trans (e05.wr hm')⟩;refine go ?_;refine zA (i+1) (by omega) ⟨_,e7,BG,by omega,by omega,zG1 op (fun g e hg=>kk g hg (.inl (by have:=(hp g e).2;omega))) (by omega),zG1 (oq.ext e5) (fun g e hg=>kk g hg (.inl (by have:=(hqX g e).2;omega))) (by omega),⟨fun k hk1 hk2=> ?_⟩,oy7,by rw[Q7];exact ly,⟨fun j hj=> ?_⟩,⟨fun j hj hj2=> ?_⟩,⟨fun j hj=> ?_⟩,⟨fun j k hj hk=> ?_⟩⟩
  ·exact(kk k (by omega) (.inl hk2)).trans ((e5.get k (by omega)).trans (hK.out k hk1 hk2))
  ·rw[yS hi'];by_cases e:j=i
   ·subst e;rw[QG rfl,hb];exact rr
   ·rw[QC e];exact hrel.out j hj
  ·rw[yS hi',QC (by omega)];exact hold.out j (by omega) hj2
  ·rw[yS hi'];by_cases e:j=i
   ·subst e;rw[QG rfl,hb];exact WZ.upd (WZ.base ow (show H.n<=h5.n by omega)) (fun k hk1 hk2=>k7 k hk2 (hno k (.inr hk1))) (Nat.le_of_eq n7.symm)
   ·rw[QC e];exact WZ.upd ((hnew.out j (by omega)).ext e5) (fun k hk1 hk2=>kk k hk2 (.inr hk1)) (by omega)
  ·rw[yS hi',yS hi',QC (by omega)];by_cases e:k=i
   ·subst e;rw[QG rfl];intro g g1 g2;have q1:=ZQ (hnew.out j hj) g g1;have q2:=ZQ ow g g2;have q3:h5.n<=g:=q2.1;omega
   ·rw[QC e];exact hoff.out j k hj (by omega)
 ·have hii:i=xs.length:=by omega
  subst hii;refine go ?_;refine VF (h0:=h) oq et ?_;intro h8 e8 o8 u8;have n8:=u8.1;have k8:∀ k,h2.n<=k->k<ht.n->h8.get k=ht.get k:=fun k hk1 hk2=>u8.2 k hk2 (fun e=>by have:=(hqX k e).2;omega);have hK8:∀ k,h2.n<=k->k<X3.n->h8.get k=X3.get k:=fun k hk1 hk2=>(k8 k hk1 (by omega)).trans (hK.out k hk1 hk2);have oy8:WZ 5 B7 X3.n h8 (.slice f1 f2 f3) ys:=WZ.upd oy (fun k hk1 hk2=>k8 k (by omega) hk2) n8;have hnew8:∀ j,j<xs.length->WZ 4 W5 H.n h8 (ys.getD j default).v (a.frs.getD j default).regs:=fun j hj=>WZ.upd (hnew.out j hj) (fun k hk1 hk2=>k8 k (by omega) hk2) n8;have oi8:Wc (inC X1) h8 (.slice i1 i2 i3) a.inn:=zHb oi3 (fun g hg1 hg2=>hK8 g (by have hg1:X1.n<=g:=hg1;omega) hg2) (by omega);have om8:W7 h8 (.slice m1 m2 m3) a.mem:=om3.dep (fun k o hk1 hk2 e=>(hK8 k hk1 hk2).trans e) (by omega);have oe8:SlE h8 (.slice v1 v2 v3) a.evs:=WZ.dep oe (fun k o hk1 hk2 e=>(hK8 k (by have hk1:X2.n<=k:=hk1;omega) hk2).trans e) (by omega);have of8:BE h8 (.slice f1 f2 f3) a.frs:=zFN (rel:=fun x f=>zGq x f/\BA h8 x.v f.regs/\(f.regs.length:Int)<=9223372036854775807) oy8.sl (by omega) (fun j hj=>⟨hrel.out j (by omega),(hnew8 j (by omega)).sl,(rx.out j hj).2.2⟩) (fun cs x f r ⟨⟨q1,q2,q3,q4⟩,q5,q6⟩=>⟨x.v,by rw[r.1,q1,q2,q3,q4],q5,q6⟩);refine gr ?_;refine⟨⟨_,rfl,⟨_,_,_,_,rfl,om8,of8,oi8.sl,oe8,lam,laf,lai,lae⟩,⟨_,_,_,_,ys,X3.n,H.n,rfl,oy8,by omega,by omega,by omega,by omega,fun g n k e=>(hgF g n k e).2,fun j hj=>hnew8 j (by omega),⟨_,?_,oi8⟩,fun g n k e=> ?_,fun j k hj hk=>hoff.out j k hj (by omega)⟩⟩,e8⟩
  ·show h.n<=X1.n;omega
  ·rcases oi3 with⟨e2,_⟩|⟨g2,q1,q2,q3,_⟩
   ·rw[e2]at e;cases e
   ·rw[q3]at e;cases e;exact q2
end Go.Proofs.YtmilpkdhbdgjfaaGreatDoor
set_option maxRecDepth 100000
namespace Go.Proofs.YtmilpkdhbdgjfaaGreatDoor
open Go.Am
def Bk(v:Wi):Bool:=
 if v.kind=1 then decide (v.block=0/\v.pos=0)else if v.kind=2 then decide (v.n=0/\0<=v.block/\0<=v.pos/\(0<v.block\/v.pos=0))else if v.kind=3 then decide (0<=v.n/\v.n<=8/\v.block=0/\v.pos=0)else false
theorem zBs(h:WG)(v:Wi):WC Tryz.prog tb 78 [.agg #[.int .u8 v.kind,I v.n,I v.block,I v.pos]] h fun r h'=>r=I (if Bk v then 0 else 8)/\WL h h':=by
 unfold Bk;refine en ?_;refine VG ?_;intro p h1 e1 o1;replace o1:WI h h1 p [.int .u8 v.kind,I v.n,I v.block,I v.pos]:=o1;by_cases k1:v.kind=1
 ·rw[QG k1];by_cases a1:v.block=0
  ·by_cases a2:v.pos=0
   ·refine gr ?_;exact⟨by simp[a1,a2];rfl,e1⟩
   ·refine gr ?_;exact⟨by simp[a1,a2];rfl,e1⟩
  ·refine gr ?_;exact⟨by simp[a1];rfl,e1⟩
 rw[QC k1];by_cases k2:v.kind=2
 ·rw[QG k2];by_cases a1:v.n=0
  ·by_cases a2:0<=v.block
   ·by_cases a3:0<=v.pos
    ·by_cases a4:0<v.block
     ·refine gr ?_;exact⟨by simp[a1,a2,a3,a4];rfl,e1⟩
     ·by_cases a5:v.pos=0
      ·refine gr ?_;exact⟨by simp[a1,a2,a3,a4,a5];rfl,e1⟩
      ·refine gr ?_;exact⟨by simp[a1,a2,a3,a4,a5];rfl,e1⟩
    ·refine gr ?_;exact⟨by simp[a1,a2,a3];rfl,e1⟩
   ·refine gr ?_;exact⟨by simp[a1,a2];rfl,e1⟩
  ·refine gr ?_;exact⟨by simp[a1];rfl,e1⟩
 rw[QC k2];by_cases k3:v.kind=3
 ·rw[QG k3];by_cases a1:0<=v.n
  ·by_cases a2:v.n<=8
   ·by_cases a3:v.block=0
    ·by_cases a4:v.pos=0
     ·refine gr ?_;exact⟨by simp[a1,a2,a3,a4];rfl,e1⟩
     ·refine gr ?_;exact⟨by simp[a1,a2,a3,a4];rfl,e1⟩
    ·refine gr ?_;exact⟨by simp[a1,a2,a3];rfl,e1⟩
   ·refine gr ?_;exact⟨by simp[a1,a2];rfl,e1⟩
  ·refine gr ?_;exact⟨by simp[a1];rfl,e1⟩
 rw[QC k3];refine gr ?_;exact⟨rfl,e1⟩
theorem zNe(h:WG)(cs:List Value)(v:Wi)(r:W5 h cs v):WC Tryz.prog tb 77 [.agg cs.toArray] h fun q h'=>q=.bool (!Bk v)/\WL h h':=by
 have r:cs=[.int .u8 v.kind,I v.n,I v.block,I v.pos]:=r;subst r;refine en ?_;refine VG ?_;intro p h1 e1 o1;replace o1:WI h h1 p [.int .u8 v.kind,I v.n,I v.block,I v.pos]:=o1;refine go ?_;refine VA (zBs h1 v) ?_;rintro _ h2 ⟨rfl,e2⟩;cases Bk v with
 |true=>
  refine gr ?_;exact⟨rfl,e1.trans e2⟩
 |false=>
  refine gr ?_;exact⟨rfl,e1.trans e2⟩
theorem zM4(h:WG)(v fv:Value)(l:List Wi)(p:Wi->Bool)(s:BA h v l)(hl:(l.length:Int)<=9223372036854775807)(hf:∀ x∈l,∀ h1,WL h h1->∀ cs,W5 h1 cs x->WV Tryz.prog tb fv [.agg cs.toArray] h1 fun r h'=>r=.bool (p x)/\WL h1 h'):
  WC Tryz.prog tb 113 [v,fv] h fun r h'=>(∃ n:Int,r=I n/\(decide (0<=n))=l.any p)/\WL h h':=by
 refine en ?_;refine VE (fun i=>l.length-i) (fun i t h1=>WL h h1/\zC t 8=I i/\i<=l.length/\∀ j,j<i->p (l.getD j default)=false) 0 ?_ ?_
 ·exact⟨WL.refl h,WN,QU _,fun j hj=>absurd hj (Ql _)⟩
 rintro i t h1 hsame ⟨e1,s8,hi,hm⟩;have s1:=BA.ext s e1;refine go ?_;refine VD (fun hb=> ?_) (fun hb=> ?_)<;>simp only[DB]at hb
 ·have hi':i<l.length:=by omega
  obtain⟨cs,hcs,pc,hs⟩:=yr s1 hi';have hff:=hf _ (zP hi') h1 e1 cs hcs;have hcs:cs=[.int .u8 (l.getD i default).kind,I (l.getD i default).n,I (l.getD i default).block,I (l.getD i default).pos]:=hcs;subst hcs;refine go ?_;refine VS hff ?_;rintro _ h2 ⟨rfl,e2⟩;refine go ?_;refine VD (fun hb=> ?_) (fun hb=> ?_)
  ·refine gr ?_;refine⟨⟨i,rfl,?_⟩,e1.trans e2⟩;rw[G3.2 ⟨_,zP hi',hb⟩];simp
  ·refine go ?_;refine zA (i+1) (by omega) ⟨e1.trans e2,BG,by omega,fun j hj=> ?_⟩;by_cases e:j=i
   ·subst e;exact hb
   ·exact hm j (by omega)
 ·refine gr ?_;refine⟨⟨-1,rfl,?_⟩,e1⟩;rw[zAN fun x hx=>by obtain⟨j,hj,rfl⟩:=Zq hx;exact hm j (by omega)];rfl
theorem zL6(h:WG)(v fv:Value)(l:List Wi)(p:Wi->Bool)(s:BA h v l)(hl:(l.length:Int)<=9223372036854775807)(hf:∀ x∈l,∀ h1,WL h h1->∀ cs,W5 h1 cs x->WV Tryz.prog tb fv [.agg cs.toArray] h1 fun r h'=>r=.bool (p x)/\WL h1 h'):
  WC Tryz.prog tb 76 [v,fv] h fun r h'=>r=.bool (l.any p)/\WL h h':=by
 refine en ?_;refine VA (zM4 h v fv l p s hl hf) ?_;rintro _ h1 ⟨⟨n,rfl,e⟩,e1⟩;refine gr ?_;exact⟨by rw[<-e];rfl,e1⟩
theorem zNy{l:List Wi}:(!(l.any fun v=> !Bk v))=l.all Bk:=by
 induction l with
 |nil=>rfl
 |cons x l ih=>
  rw[List.any_cons,List.all_cons,Bool.not_or,ih,Bool.not_not]
theorem zFw(h:WG)(v:Value)(l:List Wi)(s:BA h v l)(hl:(l.length:Int)<=9223372036854775807):WC Tryz.prog tb 38 [v] h fun r h'=>r=.bool (l.all Bk)/\WL h h':=by
 refine en ?_;refine VA (zL6 h v _ l (fun v=> !Bk v) s hl fun x hx h1 e1 cs r=>WV.func (zNe h1 cs x r)) ?_;rintro _ h1 ⟨rfl,e1⟩;rw[<-zNy];cases l.any (fun v=> !Bk v)with
 |true=>
  refine gr ?_;exact⟨rfl,e1⟩
 |false=>
  refine gr ?_;exact⟨rfl,e1⟩
theorem zC3(h:WG)(v:Value)(s:W7 h v []):WC Tryz.prog tb 84 [v] h fun r h'=>r=I 0/\WL h h':=by
 obtain⟨a1,a2,a3,rfl⟩:=zQ s;refine en ?_;refine VG ?_;intro p h1 e1 o1;replace o1:WI h h1 p [.slice a1 a2 a3]:=o1;have s1:=W7.ext s e1;have hl0:(([]:List BU).length:Int)=0:=rfl;refine go ?_;rw[show decide ((([]:List BU).length:Int)<=4096)=true from by simp];refine VE (fun i=>0) (fun(i:Nat) t h2=>h1=h2/\zC t 11=I 0/\zC t 3=.bool true) 0 ?_ ?_
 ·exact⟨rfl,WN,WN⟩
 rintro i t _ hsame ⟨rfl,s11,s3⟩;refine gr ?_;exact⟨rfl,e1⟩
theorem zMl(h:WG)(v:Value)(s:W7 h v [])(x:Wi):WC Tryz.prog tb 85 [v,.agg #[.int .u8 x.kind,I x.n,I x.block,I x.pos]] h fun r h'=>r=.bool (Bk x&&(decide (x.kind≠2)||decide (x.block=0)))/\WL h h':=by
 obtain⟨a1,a2,a3,rfl⟩:=zQ s;refine en ?_;refine VG ?_;intro p h1 e1 o1;replace o1:WI h h1 p [.int .u8 x.kind,I x.n,I x.block,I x.pos]:=o1;have s1:=W7.ext s e1;refine go ?_;refine VC 0 rfl rfl ?_;have oY:WI h (inC (zB 0 h1)) p [.int .u8 x.kind,I x.n,I x.block,I x.pos]:=o1;have sY:W7 (inC (zB 0 h1)) (.slice a1 a2 a3) []:=s1;refine Wg ?_;refine VA (zBs _ x) ?_;rintro _ X ⟨rfl,eX⟩;refine nE eX ?_;have oX:WI h (inC X) p [.int .u8 x.kind,I x.n,I x.block,I x.pos]:=WI.ext (h':=X) oY eX;have sX:W7 (inC X) (.slice a1 a2 a3) []:=W7.ext (h':=X) sY eX;have e1X:WL h1 (zx h1 X):=(zO 0 h1).trans (yT (h:=h1) eX);cases hk:Bk x with
 |false=>
  rw[QC Bool.false_ne_true];refine gUr ?_;exact⟨rfl,e1.trans e1X⟩
 |true=>
  rw[QG rfl];by_cases k2:x.kind=2
  ·by_cases b0:x.block=0
   ·refine gUr ?_;exact⟨by simp[b0];rfl,e1.trans e1X⟩
   ·have hb:¬x.block<=0:=fun q=>by
     unfold Bk at hk;rw[QC (by omega),QG k2]at hk;simp at hk;omega
    have hb2:¬x.block<=(([]:List BU).length:Int):=by simpa using hb
    refine gUr ?_;exact⟨by simp[b0,k2];rfl,e1.trans e1X⟩
  ·refine gUr ?_;exact⟨by simp[k2];rfl,e1.trans e1X⟩
theorem zJZ(h:WG)(v:Value)(x:Wi)(hx:x.kind≠2\/x.block=0):WC Tryz.prog tb 86 [v,.agg #[.int .u8 x.kind,I x.n,I x.block,I x.pos]] h fun r h'=>r=I 0/\WL h h':=by
 refine en ?_;refine VG ?_;intro p h1 e1 o1;replace o1:WI h h1 p [.int .u8 x.kind,I x.n,I x.block,I x.pos]:=o1;by_cases k2:x.kind=2
 ·have hb:=hx.resolve_left (fun e=>e k2);refine gr ?_;exact⟨rfl,e1⟩
 ·refine gr ?_;exact⟨rfl,e1⟩
def okE(v:Wi):Bool:=Bk v&&(decide (v.kind≠2)||decide (v.block=0))
theorem zH0(h:WG)(v:Value)(s:W7 h v [])(x:Wi):WC Tryz.prog tb 42 [v,.agg #[.int .u8 x.kind,I x.n,I x.block,I x.pos]] h fun r h'=>r=.tuple #[I 0,I (if okE x then 0 else 2)]/\WL h h':=by
 obtain⟨a1,a2,a3,rfl⟩:=zQ s;refine en ?_;refine VG ?_;intro p h1 e1 o1;replace o1:WI h h1 p [.int .u8 x.kind,I x.n,I x.block,I x.pos]:=o1;have s1:=W7.ext s e1;refine go ?_;refine VA (zC3 h1 _ s1) ?_;rintro _ h2 ⟨rfl,e2⟩;have o2:=o1.ext e2;have s2:=W7.ext s1 e2;refine go ?_;refine VA (zMl h2 _ s2 x) ?_;rintro _ h3 ⟨rfl,e3⟩;have o3:=o2.ext e3;have hq:(Bk x&&(decide (x.kind≠2)||decide (x.block=0)))=okE x:=rfl;rw[hq];cases he:okE x with
 |false=>
  rw[QC Bool.false_ne_true];refine gr ?_;exact⟨rfl,e1.trans (e2.trans e3)⟩
 |true=>
  rw[QG rfl];refine go ?_;refine VA (zJZ h3 _ x ?_) ?_
  ·unfold okE at he;simp at he;omega
  rintro _ h4 ⟨rfl,e4⟩;refine gr ?_;exact⟨rfl,e1.trans (e2.trans (e3.trans e4))⟩
theorem zLm(h:WG)(v:Value)(s:W7 h v [])(hm:h.mark<=h.n)(n:Int)(hn:1<=n):WC Tryz.prog tb 43 [v,I n] h fun r h'=>(∃ w,r=.tuple #[w,I 0]/\W7 h' w [])/\WL h h':=by
 obtain⟨a1,a2,a3,rfl⟩:=zQ s;refine en ?_;refine VA (zC3 h _ s) ?_;rintro _ h1 ⟨rfl,e1⟩;have s1:=W7.ext s e1;refine go ?_;refine VA (zEX h1 _ [] s1 (by rw[e1.mark];exact QO hm e1.n) (by simp) (fun i hi=>by simp at hi)) ?_;rintro w h2 ⟨ow,e2⟩;have sw:W7 h2 w []:=ow.sl;obtain⟨b1,b2,b3,rfl⟩:=zQ sw;have hl0:(([]:List BU).length:Int)=0:=rfl;refine go ?_;refine VE (fun i=>0) (fun(i:Nat) t h3=>h2=h3/\zC t 20=I 0/\zC t 7=.slice b1 b2 b3) 0 ?_ ?_
 ·exact⟨rfl,WN,WN⟩
 rintro i t _ hsame ⟨rfl,s20,s7⟩;refine gr ?_;exact⟨⟨_,rfl,sw⟩,e1.trans e2⟩
end Go.Proofs.YtmilpkdhbdgjfaaGreatDoor
set_option maxRecDepth 100000
namespace Go.Proofs.YtmilpkdhbdgjfaaGreatDoor
open Go.Am
def yo(a:Wb):Bool:=decide (a.state=1)&&decide (0<a.frs.length)
def zJ(a:Wb):BT:=a.frs.getD (a.frs.length-1) default
def zM:Wb:=⟨[],[],[],0,[],0,0,0,0,0⟩
def Yv(a:Wb)(r:Int):Bool:=decide (0<=r)&&decide (r<((zJ a).regs.length:Int))
abbrev mC(vm vf vi ve:Value)(a:Wb):List Value:=[vm,vf,vi,I a.used,ve,I a.steps,I a.heaps,.int .u8 a.state,I a.trap,I a.exit]
def Bp(v:Value):Prop:=v=.slice none 0 0\/∃ a k,v=.slice (some a) 0 k
theorem Bp.sl{α:Type}{c:Nat}{R:WG->List Value->α->Prop}{h:WG}{v:Value}(n:Bp v):Wy c R h v ([]:List α):=⟨[],⟨by simp,.inl ⟨rfl,n⟩⟩,fun i a h=>by cases h⟩
theorem Bp.of{α:Type}{c:Nat}{R:WG->List Value->α->Prop}{h:WG}{v:Value}(s:Wy c R h v ([]:List α)):Bp v:=by
 obtain⟨_,⟨_,⟨_,h⟩|⟨g,off,row,h,_⟩⟩,_⟩:=s
 ·exact h
 ·exact .inr ⟨_,_,h⟩
theorem Bp.shape{v:Value}(n:Bp v):∃ a m k,v=.slice a m k:=by
 rcases n with h|⟨_,_,h⟩<;>exact⟨_,_,_,h⟩
structure OM(b:Nat)(h:WG)(vf vi:Value)(xs:List Br)(a:Wb):Prop where
 f:WZ 5 B7 b h vf xs
 lx:xs.length=a.frs.length
 rel:∀ i,i<xs.length->zGq (xs.getD i default) (a.frs.getD i default)
 rg:∀ i,i<xs.length->WZ 4 W5 b h (xs.getD i default).v (a.frs.getD i default).regs
 off:∀ j k,j<k->k<xs.length->Wp (xs.getD j default).v (xs.getD k default).v
 offF:∀ i,i<xs.length->Wp vf (xs.getD i default).v
 i:∃ hb:WG,b<=hb.n/\Wc hb h vi a.inn
 offI:Wp vi vf/\∀ i,i<xs.length->Wp vi (xs.getD i default).v
 bn:b<=h.n
 nm:a.mem=[]/\a.evs=[]
 lf:a.frs.length<=100
 li:a.inn.length<=1000
 lr:∀ i,i<a.frs.length->(a.frs.getD i default).regs.length<=1000
structure FM(b:Nat)(h:WG)(cs:List Value)(a:Wb):Prop where
 ex:∃ vm vf vi ve,cs=mC vm vf vi ve a/\(Bp vm/\Bp ve)/\∀ h':WG,(∀ k,b<=k->k<h.n->h'.get k=h.get k)->h.n<=h'.n->BE h' vf a.frs/\Wd h' vi a.inn
 bn:b<=h.n
 nm:a.mem=[]/\a.evs=[]
 lf:a.frs.length<=100
 li:a.inn.length<=1000
 lr:∀ i,i<a.frs.length->(a.frs.getD i default).regs.length<=1000
section
variable {b:Nat}{h h':WG}{vm vf vi ve:Value}{xs:List Br}{a:Wb}{cs:List Value}
theorem OM.upd(o:OM b h vf vi xs a)(hk:∀ k,b<=k->k<h.n->h'.get k=h.get k)(hn:h.n<=h'.n):OM b h' vf vi xs a:=
 ⟨o.f.upd hk hn,o.lx,o.rel,fun i hi=>(o.rg i hi).upd hk hn,o.off,o.offF,let⟨hb,h1,h2⟩:=o.i;⟨hb,h1,zHb h2 (fun g g1 g2=>hk g (QO h1 g1) g2) hn⟩,o.offI,QO o.bn hn,o.nm,o.lf,o.li,o.lr⟩
theorem OM.ext(o:OM b h vf vi xs a)(e:WL h h'):OM b h' vf vi xs a:=o.upd (fun k _ hk=>e.get k hk) e.n
theorem OM.base{b':Nat}(o:OM b h vf vi xs a)(hb:b'<=b):OM b' h vf vi xs a:=
 ⟨o.f.base hb,o.lx,o.rel,fun i hi=>(o.rg i hi).base hb,o.off,o.offF,let⟨hb',h1,h2⟩:=o.i;⟨hb',QO hb h1,h2⟩,o.offI,QO hb o.bn,o.nm,o.lf,o.li,o.lr⟩
theorem FM.upd(o:FM b h cs a)(hk:∀ k,b<=k->k<h.n->h'.get k=h.get k)(hn:h.n<=h'.n):FM b h' cs a:=
 ⟨let⟨vm,vf,vi,ve,h1,h2,h3⟩:=o.ex;⟨vm,vf,vi,ve,h1,h2,fun h'' q1 q2=>h3 h'' (fun k k1 k2=>(q1 k k1 (QK k2 hn)).trans (hk k k1 k2)) (QO hn q2)⟩,QO o.bn hn,o.nm,o.lf,o.li,o.lr⟩
theorem FM.ext(o:FM b h cs a)(e:WL h h'):FM b h' cs a:=o.upd (fun k _ hk=>e.get k hk) e.n
theorem FM.base{b':Nat}(o:FM b h cs a)(hb:b'<=b):FM b' h cs a:=
 ⟨let⟨vm,vf,vi,ve,h1,h2,h3⟩:=o.ex;⟨vm,vf,vi,ve,h1,h2,fun h'' q1 q2=>h3 h'' (fun k k1 k2=>q1 k (QO hb k1) k2) q2⟩,QO hb o.bn,o.nm,o.lf,o.li,o.lr⟩
theorem OM.fr(o:OM b h vf vi xs a):BE h vf a.frs:=
 zFN (rel:=fun x f=>zGq x f/\BA h x.v f.regs/\(f.regs.length:Int)<=9223372036854775807) o.f.sl o.lx (fun j hj=>⟨o.rel j (by rw[o.lx];exact hj),(o.rg j (by rw[o.lx];exact hj)).sl,by have:=o.lr j hj;omega⟩) (fun cs x f hx hr=>by
  obtain⟨⟨r1,r2,r3,r4⟩,r5,r6⟩:=hr;obtain⟨rfl,_⟩:=hx;exact⟨x.v,by rw[r1,r2,r3,r4],r5,r6⟩)
theorem OM.rm(o:OM b h vf vi xs a)(n:Bp vm/\Bp ve):RMm h (mC vm vf vi ve a) a:=by
 obtain⟨hb,_,h2⟩:=o.i;have h1:=o.lf;have h3:=o.li;exact⟨vm,vf,vi,ve,rfl,by rw[o.nm.1];exact n.1.sl,o.fr,h2.sl,by rw[o.nm.2];exact n.2.sl,by rw[o.nm.1];simp,by omega,by omega,by rw[o.nm.2];simp⟩
theorem FM.rm(o:FM b h cs a):RMm h cs a:=by
 obtain⟨vm,vf,vi,ve,rfl,n,k⟩:=o.ex;obtain⟨k1,k2⟩:=k h (fun _ _ _=>rfl) (QE _);have h1:=o.lf;have h3:=o.li;exact⟨vm,vf,vi,ve,rfl,by rw[o.nm.1];exact n.1.sl,k1,k2,by rw[o.nm.2];exact n.2.sl,by rw[o.nm.1];simp,by omega,by omega,by rw[o.nm.2];simp⟩
theorem FM.small(o:FM b h cs a):SmallM a:=⟨by rw[o.nm.1];simp,fun i hi=>by rw[o.nm.1]at hi;simp at hi,o.lf,o.lr,o.li,by rw[o.nm.2];simp⟩
theorem OM.fm(o:OM b h vf vi xs a)(n:Bp vm/\Bp ve):FM b h (mC vm vf vi ve a) a:=
 ⟨⟨vm,vf,vi,ve,rfl,n,fun h' q1 q2=>⟨(o.upd q1 q2).fr,let⟨_,_,h2⟩:=(o.upd q1 q2).i;h2.sl⟩⟩,o.bn,o.nm,o.lf,o.li,o.lr⟩
theorem zMq(rm:RMm h cs a)(om:OwnMach b h cs a)(sm:SmallM a)(nm:a.mem=[]/\a.evs=[]):∃ vm vf vi ve xs,cs=mC vm vf vi ve a/\(Bp vm/\Bp ve)/\OM b h vf vi xs a:=by
 obtain⟨vm,vf,vi,ve,xs,b1,b2,rfl,of,lx,h1,h2,h3,h4,h5,⟨hb,hb1,oi⟩,h7,h6⟩:=om;obtain⟨vm',vf',vi',ve',e,km,kf,ki,ke,lm,lf,li,le⟩:=rm;simp only[JB]at e;obtain⟨rfl,rfl,rfl,_,rfl,_⟩:=e;obtain⟨c1,s1,r1⟩:=kf;obtain⟨c2,s2,r2⟩:=of.sl;have hc:0<xs.length->c1=c2:=fun hx=>by
  obtain⟨p1,p2⟩:=s1;obtain⟨q1,q2⟩:=s2;rcases p2 with⟨p2,_⟩|⟨g,off,row,p3,p4,p5,_⟩
  ·omega
  rcases q2 with⟨q2,_⟩|⟨g',off',row',q3,q4,q5,_⟩
  ·omega
  rw[p3,lx]at q3;cases q3;rw[p4]at q4;cases q4;rw[lx]at q5;rw[p5]at q5;exact Q5 q5
 have hR:∀ i,i<xs.length->zGq (xs.getD i default) (a.frs.getD i default):=fun i hi=>by
  have e:=hc (by omega);subst e;have q1:=r1 i (a.frs.getD i default) (by rw[QB (by omega)];simp[List.getD,QB (show i<a.frs.length by omega)]);have q2:=r2 i (xs.getD i default) (by rw[QB hi];simp[List.getD,QB hi]);obtain⟨v,q3,q4,q5⟩:=q1;obtain⟨q6,_⟩:=q2;rw[q6]at q3;simp only[JB,Value.int.injEq]at q3;obtain⟨⟨_,z1⟩,⟨_,z2⟩,⟨_,z3⟩,z4,⟨_,z5⟩,_⟩:=q3;exact⟨z1,z2,z3,z5⟩
 have vf2:∀ g,blk vf=some g->b1<=g/\g<b2:=fun g hg=>by
  have hx:=ZQ of g hg;rcases of with⟨e,_⟩|⟨g',_,_,_,_,e,_⟩
  ·rw[e]at hg;cases hg
  ·rw[e]at hg;cases hg;exact⟨hx.1,h4 _ _ _ e⟩
 have vi2:∀ g,blk vi=some g->g<b1:=fun g hg=>by
  rcases oi with⟨e,_⟩|⟨g',_,_,e,_⟩
  ·rw[e]at hg;cases hg
  ·rw[e]at hg;cases hg;exact h7 _ _ _ e
 refine⟨vm,vf,vi,ve,xs,rfl,⟨Bp.of (by rw[nm.1]at km;exact km),Bp.of (by rw[nm.2]at ke;exact ke)⟩,of.base h1,lx,hR,fun i hi=>(h5 i hi).base (by omega),h6,fun i hi g k1 k2=> ?_,⟨hb,hb1,oi⟩,⟨fun g k1 k2=> ?_,fun i hi g k1 k2=> ?_⟩,by omega,nm,sm.frs,sm.inn,sm.regs⟩
 ·have:=vf2 g k1;have:=ZQ (h5 i hi) g k2;omega
 ·have:=vf2 g k2;have:=vi2 g k1;omega
 ·have:=vi2 g k1;have:=ZQ (h5 i hi) g k2;omega
end
theorem zA9(h:WG)(ca:List Value)(a:Wb)(ra:RMm h ca a):WC Tryz.prog tb 35 [.agg ca.toArray] h fun r h'=>r=.bool (yo a)/\WL h h':=by
 obtain⟨vm,vf,vi,ve,rfl,km,kf,ki,ke,lm,lf,li,le⟩:=ra;unfold yo;refine en ?_;refine VG ?_;intro p h1 e1 o1;replace o1:WI h h1 p [vm,vf,vi,I a.used,ve,I a.steps,I a.heaps,.int .u8 a.state,I a.trap,I a.exit]:=o1;have kf1:=BE.ext kf e1;obtain⟨f1,f2,f3,rfl⟩:=zb kf;by_cases c1:a.state=1
 ·by_cases c2:0<a.frs.length
  ·refine gr ?_;exact⟨by simp[c1,c2];rfl,e1⟩
  ·refine gr ?_;exact⟨by simp[c1,c2];rfl,e1⟩
 ·refine gr ?_;exact⟨by simp[c1];rfl,e1⟩
theorem zGj(h:WG)(ca:List Value)(a:Wb){b:Nat}(ra:FM b h ca a)(hm:h.mark<=h.n)(hne:0<a.frs.length):
  WC Tryz.prog tb 37 [.agg ca.toArray] h fun r h'=>(∃ gq gf nf vm vi ve xs,r=.agg #[zR (.slice (some ⟨gf,0,none⟩) nf 5) ((a.frs.length-1)*5),.pointer (some ⟨gq,0,none⟩)]/\WI h h' (.pointer (some ⟨gq,0,none⟩)) (mC vm (.slice (some ⟨gf,0,none⟩) nf 5) vi ve a)/\(Bp vm/\Bp ve)/\OM h.n h' (.slice (some ⟨gf,0,none⟩) nf 5) vi xs a/\
   (gq≠gf/\Wp (.pointer (some ⟨gq,0,none⟩)) vi/\∀ i,i<xs.length->Wp (.pointer (some ⟨gq,0,none⟩)) (xs.getD i default).v))/\WL h h':=by
 have ra0:=ra.rm;have sm:=ra.small;have nm:=ra.nm;have hfl:=sm.frs;obtain⟨am,af,ai,ae,rfl,kam,kaf,kai,kae,lam,laf,lai,lae⟩:=ra.rm;refine en ?_;refine VG ?_;intro p h1 e1 o1;replace o1:WI h h1 p [am,af,ai,I a.used,ae,I a.steps,I a.heaps,.int .u8 a.state,I a.trap,I a.exit]:=o1;refine go ?_;refine VJ ?_;intro p2 h2 e2 o2;have o12:=o1.ext e2;have e12:=e1.trans e2;refine go ?_;refine VA (zAo h2 _ a (ra0.ext e12) sm (by rw[e12.mark];exact QO hm e12.n)) ?_;rintro _ h3 ⟨⟨cs,rfl,rm,om⟩,e3⟩;obtain⟨vm,vf,vi,ve,xs,rfl,⟨nb1,nb2⟩,M⟩:=zMq rm om sm nm;have o23:=o2.ext e3;obtain⟨gf,nf,rfl⟩:∃ gf nf,vf=.slice (some ⟨gf,0,none⟩) nf 5:=by
  rcases M.f with⟨_,e⟩|⟨g,_,_,_,_,e,_⟩
  ·have:=M.lx;rw[e]at this;simp at this;omega
  ·exact⟨g,_,e⟩
 obtain⟨hb,hb1,oi⟩:=id M.i;obtain⟨m1,m2,m3,rfl⟩:=nb1.shape;obtain⟨i1,i2,i3,rfl⟩:=Wv.shape oi.sl;obtain⟨v1,v2,v3,rfl⟩:=nb2.shape;refine go ?_;refine VJ ?_;intro q h4 e4 o4;refine go ?_;refine VF (cs:=[.slice m1 m2 m3,.slice (some ⟨gf,0,none⟩) nf 5,.slice i1 i2 i3,I a.used,.slice v1 v2 v3,I a.steps,I a.heaps,.int .u8 a.state,I a.trap,I a.exit]) o4 e4 ?_;intro h5 e5 o5 u5;have M5:=M.ext e5;have kf5:=M5.fr;have o25:=o23.ext e5;obtain⟨gq,gq1,gq2,rfl,gq3⟩:=id o5;refine go ?_;rw[show((a.frs.length:Int)-1).toNat=a.frs.length-1 by omega];refine VF (cs:=[zR (.slice (some ⟨gf,0,none⟩) nf 5) ((a.frs.length-1)*5),.pointer (some ⟨gq,0,none⟩)]) o25 (e2.trans (e3.trans e5)) ?_;intro h6 e6 o6 u6;have M6:OM h2.n h6 _ _ _ a:=M5.upd (fun k h1 h2=>u6.2 k h2 fun e=>by have:=(zDb o2 k e).2;omega) u6.1;refine gr ?_;have hq:zCq h3 (.pointer (some ⟨gq,0,none⟩)):=o5.since';refine⟨⟨gq,gf,nf,.slice m1 m2 m3,.slice i1 i2 i3,.slice v1 v2 v3,xs,rfl,?_,⟨nb1,nb2⟩,M6.base e12.n,fun e=> ?_,VI hq oi.within,fun i hi=>VI hq (M.rg i hi).within⟩,e1.trans e6⟩
 ·exact(zMF o5 u6 fun g e=>by have:=(zDb o2 g e).2;have:=e3.n;omega).since (e12.trans e3)
 ·have:=ZQ M.f gf rfl;omega
theorem zGu(h:WG)(vf q:Value)(L:List BT)(i:Nat)(r:Int)(sv:zG0 vf)(s:BE h vf L)(hi:i<L.length):WC Tryz.prog tb 36 [.agg #[zR vf (i*5),q],I r] h fun w h'=>w=.bool (decide (0<=r)&&decide (r<((L.getD i default).regs.length:Int)))/\WL h h':=by
 obtain⟨cs,⟨v,rfl,k,_⟩,pc,hs⟩:=zd s hi;obtain⟨w1,w2,w3,rfl⟩:=zb k;generalize L.getD i default=x at *;refine en ?_;refine VG ?_;intro p h1 e1 o1;replace o1:WI h h1 p [zR vf (i*5),q]:=o1;have pc1:=(pc _ e1).1;have k1:=BA.ext k e1;by_cases r0:0<=r
 ·refine gr ?_;exact⟨by rw[QS r0];rfl,e1⟩
 ·refine gr ?_;exact⟨by rw[QM r0];rfl,e1⟩
end Go.Proofs.YtmilpkdhbdgjfaaGreatDoor
set_option maxRecDepth 100000
namespace Go.Proofs.YtmilpkdhbdgjfaaGreatDoor
open Go.Am
def putF(a:Wb)(f:BT):Wb:={a with frs:=a.frs.set (a.frs.length-1) f}
def v0:Wi:=⟨0,0,0,0⟩
def zAv(a:Wb)(r:Int):Wi×Int:=if yo a=false then(v0,160)else if Yv a r=false then(v0,2)else if(zJ a).regs.getD r.toNat default=v0 then(v0,6)else((zJ a).regs.getD r.toNat default,0)
def B8(a:Wb)(r:Int)(v:Wi):Wb×Int:=if yo a=false then(zM,160)else if Yv a r&&Bk v then(putF a {zJ a with regs:=(zJ a).regs.set r.toNat v},0)else(zM,2)
def zAp(a:Wb)(e:Int):Wb×Int:=if yo a=false then(zM,160)else if decide (1<=e)&&decide (e<=1000)then({a with state:=3,trap:=e},0)else(zM,2)
theorem Zt{a:Wb}(h:yo a=true):0<a.frs.length:=by
 unfold yo at h;simp at h;exact h.2
theorem FM.zero{b:Nat}{h:WG}(hb:b<=h.n):FM b h [.slice none 0 0,.slice none 0 0,.slice none 0 0,I 0,.slice none 0 0,I 0,I 0,.int .u8 0,I 0,I 0] zM:=
 ⟨⟨_,_,_,_,rfl,⟨.inl rfl,.inl rfl⟩,fun h' _ _=>⟨Bp.sl (.inl rfl),⟨by simp,.inl ⟨rfl,.inl rfl⟩⟩⟩⟩,hb,⟨rfl,rfl⟩,by decide,by decide,fun i hi=>by simp[zM]at hi⟩
theorem OM.setR{b:Nat}{h h':WG}{vf vi:Value}{xs:List Br}{a:Wb}{i:Nat}{l:List Wi}(o:OM b h vf vi xs a)(hi:i<a.frs.length)(hl:l.length<=1000)(o':WZ 4 W5 b h' (xs.getD i default).v l)(u:UpB (xs.getD i default).v h h'):
  OM b h' vf vi xs {a with frs:=a.frs.set i {a.frs.getD i default with regs:=l}}:=by
 have hx:i<xs.length:=by rw[o.lx];exact hi
 have hset:∀ j,(a.frs.set i {a.frs.getD i default with regs:=l}).getD j default=if j=i then {a.frs.getD i default with regs:=l} else a.frs.getD j default:=fun j=>yS hi;refine⟨o.f.upB (fun _ _ _ _ r=>r) u (o.offF i hx).symm,by simp[o.lx],fun j hj=> ?_,fun j hj=> ?_,o.off,o.offF,let⟨hb,h1,h2⟩:=o.i;⟨hb,h1,h2.upB u (o.offI.2 i hx).symm⟩,o.offI,QO o.bn u.1,o.nm,by simpa using o.lf,o.li,fun j hj=> ?_⟩
 ·rw[hset];by_cases e:j=i
  ·subst e;rw[QG rfl];exact o.rel j hj
  ·rw[QC e];exact o.rel j hj
 ·rw[hset];by_cases e:j=i
  ·subst e;rw[QG rfl];exact o'
  ·rw[QC e];refine(o.rg j hj).upB (fun _ _ _ _ r=>r) u ?_;rcases Nat.lt_or_gt_of_ne e with q|q
   ·exact(o.off j i q hx).symm
   ·exact o.off i j q hj
 ·rw[hset];by_cases e:j=i
  ·rw[QG e];exact hl
  ·rw[QC e];exact o.lr j (by simpa using hj)
theorem zFs(h:WG)(ca:List Value)(a:Wb){b:Nat}(ra:FM b h ca a)(r:Int):
  WC Tryz.prog tb 10 [.agg ca.toArray,I r] h fun w h'=>w=.tuple #[.agg #[.int .u8 (zAv a r).1.kind,I (zAv a r).1.n,I (zAv a r).1.block,I (zAv a r).1.pos],I (zAv a r).2]/\WL h h':=by
 have rm0:=ra.rm;have hfl:=ra.lf;have hlr:=ra.lr;obtain⟨vm,vf,vi,ve,rfl,km,kf,ki,ke,lm,lf,li,le⟩:=ra.rm;refine en ?_;refine VG ?_;intro p h1 e1 o1;replace o1:WI h h1 p [vm,vf,vi,I a.used,ve,I a.steps,I a.heaps,.int .u8 a.state,I a.trap,I a.exit]:=o1;refine go ?_;refine VJ ?_;intro p4 h2 e2 o2;have o12:=o1.ext e2;have e02:=e1.trans e2;refine go ?_;refine VA (zA9 h2 _ a (rm0.ext e02)) ?_;rintro _ h3 ⟨rfl,e3⟩;have o13:=o12.ext e3;have o23:=o2.ext e3;have e03:=e02.trans e3;by_cases hr:yo a=true;case neg=>
  have hr:yo a=false:=by simpa using hr
  rw[show zAv a r=(v0,160)from QG hr,hr];refine go ?_;refine VF (cs:=[.int .u8 0,I 0,I 0,I 0]) o23 (e2.trans e3) ?_;intro h4 e4 o4 u4;refine gr ?_;exact⟨rfl,e1.trans e4⟩
 rw[hr];have hne:=Zt hr;obtain⟨gf,nf,kf',rfl⟩:zG0 vf:=(zd kf (i:=a.frs.length-1) (by omega)).choose_spec.2.2;have kf3:=BE.ext kf e03;obtain⟨gq,gq1,gq2,rfl,gq3⟩:=id o13;refine go ?_;refine VJ ?_;intro p6 h4 e4 o6;have o14:=o13.ext e4;have o24:=o23.ext e4;refine go ?_;rw[show((a.frs.length:Int)-1).toNat=a.frs.length-1 by omega];refine VF (cs:=[zR (.slice (some gf) nf kf') ((a.frs.length-1)*5),.pointer (some ⟨gq,0,none⟩)]) o6 e4 ?_;intro h5 e5 o5 u5;have e05:=e03.trans e5;have o15:=o13.ext e5;have o25:=o23.ext e5;have kf5:=BE.ext kf3 e5;refine go ?_;refine VA (zGu h5 (.slice (some gf) nf kf') _ a.frs (a.frs.length-1) r ⟨_,_,_,rfl⟩ kf5 (by omega)) ?_;rintro _ h6 ⟨rfl,e6⟩;have hq:(decide (0<=r)&&decide (r<((a.frs.getD (a.frs.length-1) default).regs.length:Int)))=Yv a r:=rfl;rw[hq];have o26:=o25.ext e6;have e06:=e05.trans e6;by_cases hh:Yv a r=true;case neg=>
  have hh:Yv a r=false:=by simpa using hh
  rw[hh,show zAv a r=(v0,2)from by unfold zAv;rw[QC (by rw[hr];decide),QG hh]];refine go ?_;refine VF (cs:=[.int .u8 0,I 0,I 0,I 0]) o26 (e2.trans (e3.trans (e5.trans e6))) ?_;intro h7 e7 o7 u7;refine gr ?_;exact⟨rfl,e1.trans e7⟩
 rw[hh];have hh2:0<=r/\r<((zJ a).regs.length:Int):=by unfold Yv at hh;simpa using hh
 have hlr:=hlr (a.frs.length-1) (by omega);obtain⟨cs,⟨w,rfl,k,_⟩,pc,hs⟩:=zd kf5 (i:=a.frs.length-1) (by omega);obtain⟨w1,w2,w3,rfl⟩:=zb k;have pc6:=(pc _ e6).1;have k:BA h5 (.slice w1 w2 w3) (zJ a).regs:=k;have k6:=BA.ext k e6;obtain⟨cv,hcv,pv,hvs⟩:=zd k (i:=r.toNat) (by omega);have hcv:cv=[.int .u8 ((zJ a).regs.getD r.toNat default).kind,I ((zJ a).regs.getD r.toNat default).n,I ((zJ a).regs.getD r.toNat default).block,I ((zJ a).regs.getD r.toNat default).pos]:=hcv;subst hcv;have pv6:=(pv _ e6).1;have o56:=o5.ext e6;rw[show zAv a r=if(zJ a).regs.getD r.toNat default=v0 then(v0,6)else((zJ a).regs.getD r.toNat default,0)from by unfold zAv;rw[QC (by rw[hr];decide),QC (by rw[hh];decide)]];generalize hL:(zJ a).regs=L at *;generalize L.getD r.toNat default=x at *;refine go ?_;refine Vf (zEm (xs:=#[.int .u8 x.kind,I x.n,I x.block,I x.pos]) (ys:=#[.int .u8 0,I 0,I 0,I 0]) (by kernel_rfl) (zD2 x v0)) ?_;by_cases hx:x=v0
 ·rw[QS hx,QG hx];refine go ?_;refine VF (cs:=[.int .u8 0,I 0,I 0,I 0]) o26 (e2.trans (e3.trans (e5.trans e6))) ?_;intro h7 e7 o7 u7;refine gr ?_;exact⟨rfl,e1.trans e7⟩
 ·rw[QM hx,QC hx];refine go ?_;refine VF (cs:=[.int .u8 x.kind,I x.n,I x.block,I x.pos]) o26 (e2.trans (e3.trans (e5.trans e6))) ?_;intro h7 e7 o7 u7;refine gr ?_;exact⟨rfl,e1.trans e7⟩
theorem zJ9(h:WG)(ca:List Value)(a:Wb){b:Nat}(ra:FM b h ca a)(hm:h.mark<=h.n)(r:Int)(v:Wi):
  WC Tryz.prog tb 11 [.agg ca.toArray,I r,.agg #[.int .u8 v.kind,I v.n,I v.block,I v.pos]] h fun w h'=>(∃ cs,w=.tuple #[.agg cs.toArray,I (B8 a r v).2]/\FM h.n h' cs (B8 a r v).1)/\WL h h':=by
 have rm0:=ra.rm;have om0:=ra;obtain⟨vm,vf,vi,ve,rfl,_,_⟩:=ra.ex;refine en ?_;refine VG ?_;intro p h1 e1 o1;replace o1:WI h h1 p [vm,vf,vi,I a.used,ve,I a.steps,I a.heaps,.int .u8 a.state,I a.trap,I a.exit]:=o1;refine go ?_;refine VG ?_;intro p5 h2 e2 o2;replace o2:WI h1 h2 p5 [.int .u8 v.kind,I v.n,I v.block,I v.pos]:=o2;refine go ?_;refine VJ ?_;intro p6 h3 e3 o3;have e03:=e1.trans (e2.trans e3);have o13:=o1.ext (e2.trans e3);have o23:=o2.ext e3;refine go ?_;refine VA (zA9 h3 _ a (rm0.ext e03)) ?_;rintro _ h4 ⟨rfl,e4⟩;have o14:=o13.ext e4;have o24:=o23.ext e4;have o34:=o3.ext e4;have e04:=e03.trans e4;by_cases hr:yo a=true;case neg=>
  have hr:yo a=false:=by simpa using hr
  rw[show B8 a r v=(zM,160)from QG hr,hr];refine go ?_;refine VF (cs:=[.slice none 0 0,.slice none 0 0,.slice none 0 0,I 0,.slice none 0 0,I 0,I 0,.int .u8 0,I 0,I 0]) o34 (e3.trans e4) ?_;intro h5 e5 o5 u5;refine gr ?_;have e05:=(e1.trans e2).trans e5;exact⟨⟨_,rfl,FM.zero e05.n⟩,e05⟩
 rw[hr];have hne:=Zt hr;refine go ?_;refine VA (zGj h4 _ a (om0.ext e04) (by rw[e04.mark];exact QO hm e04.n) hne) ?_;rintro _ h5 ⟨⟨gq,gf,nf,vm',vi',ve',xs',rfl,oq,nb',M',dq1,dq2,dq3⟩,e5⟩;have o25:=o24.ext e5;have o35:=o34.ext e5;have e05:=e04.trans e5;obtain⟨m1,m2,m3,rfl⟩:=nb'.1.shape;obtain⟨i1,i2,i3,rfl⟩:∃ a n k,vi'=.slice a n k:=let⟨_,_,h2⟩:=M'.i;Wv.shape h2.sl;obtain⟨v1,v2,v3,rfl⟩:=nb'.2.shape;refine go ?_;refine VJ ?_;intro p8 h6 e6 o6;refine go ?_;refine VF (cs:=[zR (.slice (some ⟨gf,0,none⟩) nf 5) ((a.frs.length-1)*5),.pointer (some ⟨gq,0,none⟩)]) o6 e6 ?_;intro h7 e7 o8 u8;have o27:=o25.ext e7;have o37:=o35.ext e7;have e07:=e05.trans e7;have M7:=M'.ext e7;have oq7:=oq.ext e7;have hxl:=M7.lx;refine go ?_;refine VA (zGu h7 (.slice (some ⟨gf,0,none⟩) nf 5) _ a.frs (a.frs.length-1) r ⟨_,_,_,rfl⟩ M7.fr (by omega)) ?_;rintro _ h8 ⟨rfl,e8⟩;have hq:(decide (0<=r)&&decide (r<((a.frs.getD (a.frs.length-1) default).regs.length:Int)))=Yv a r:=rfl;rw[hq];have o28:=o27.ext e8;have o38:=o37.ext e8;have o88:=o8.ext e8;have e08:=e07.trans e8;have e38:=(((e3.trans e4).trans e5).trans e7).trans e8;by_cases hh:Yv a r=true;case neg=>
  have hh:Yv a r=false:=by simpa using hh
  rw[hh,show B8 a r v=(zM,2)from by unfold B8;rw[QC (by rw[hr];decide),hh];rfl];refine go ?_;refine VF (cs:=[.slice none 0 0,.slice none 0 0,.slice none 0 0,I 0,.slice none 0 0,I 0,I 0,.int .u8 0,I 0,I 0]) o38 e38 ?_;intro h9 e9 o9 u9;refine gr ?_;have e09:=(e1.trans e2).trans e9;exact⟨⟨_,rfl,FM.zero e09.n⟩,e09⟩
 rw[hh];have hh2:0<=r/\r<((zJ a).regs.length:Int):=by unfold Yv at hh;simpa using hh
 refine go ?_;refine V8 ?_;intro h9 e9 n9 s9 g9;have o29:=o28.ext e9;have o39:=o38.ext e9;have o89:=o88.ext e9;have e09:=e08.trans e9;have sv9:BA h9 _ [v]:=⟨_,s9,fun i x hx=>by
  have hi:i=0:=by have:=(QN.1 hx).1;simp at this;omega
  subst hi;simp at hx;subst hx;rfl⟩
 refine go ?_;refine VA (zFw h9 _ [v] sv9 (by simp)) ?_;rintro _ h10 ⟨rfl,e10⟩;rw[show([v].all Bk)=Bk v from by simp];have o210:=o29.ext e10;have o310:=o39.ext e10;have o810:=o89.ext e10;have e010:=e09.trans e10;have e910:=(e8.trans e9).trans e10;have e310:=(e38.trans e9).trans e10;by_cases hv:Bk v=true;case neg=>
  have hv:Bk v=false:=by simpa using hv
  rw[hv,show B8 a r v=(zM,2)from by unfold B8;rw[QC (by rw[hr];decide),hv,Qi];rfl];refine go ?_;refine VF (cs:=[.slice none 0 0,.slice none 0 0,.slice none 0 0,I 0,.slice none 0 0,I 0,I 0,.int .u8 0,I 0,I 0]) o310 e310 ?_;intro h11 e11 o11 u11;refine gr ?_;have e011:=(e1.trans e2).trans e11;exact⟨⟨_,rfl,FM.zero e011.n⟩,e011⟩
 rw[hv,show B8 a r v=(putF a {zJ a with regs:=(zJ a).regs.set r.toNat v},0)from by unfold B8;rw[QC (by rw[hr];decide),hh,hv];rfl];have M10:=M7.ext e910;have oq10:=oq7.ext e910;have hlr:=M10.lr (a.frs.length-1) (by omega);obtain⟨cs,⟨rfl,_⟩,pc,hs⟩:=zd M10.f.sl (i:=a.frs.length-1) (by omega);have ow:=M10.rg (a.frs.length-1) (by omega);have dqi:=dq3 (a.frs.length-1) (by omega);have hset:=fun(h':WG) (o':WZ 4 W5 h4.n h' (xs'.getD (a.frs.length-1) default).v ((zJ a).regs.set r.toNat v)) (u:UpB (xs'.getD (a.frs.length-1) default).v h10 h')=>M10.setR (i:=a.frs.length-1) (l:=(zJ a).regs.set r.toNat v) (by omega) (by rw[Q7];exact hlr) o' u;replace hset:=Wt.mk hset;obtain⟨w1,w2,w3,hw⟩:=zb ow.sl;have ow':WZ 4 W5 h4.n h10 (.slice w1 w2 w3) (zJ a).regs:=by rw[<-hw];exact ow
 rw[hw]at pc dqi hset;refine go ?_;refine VC 0 rfl rfl ?_;have o8Y:WI h5 (inC (zB 0 h10)) p8 [zR (.slice (some ⟨gf,0,none⟩) nf 5) ((a.frs.length-1)*5),.pointer (some ⟨gq,0,none⟩)]:=o810;have o2Y:WI h1 (inC (zB 0 h10)) p5 [.int .u8 v.kind,I v.n,I v.block,I v.pos]:=o210;have pcY:Wl (inC (zB 0 h10)) _ _ _:=(pc _ (WL.refl _)).2;have kY:BA (inC (zB 0 h10)) (.slice w1 w2 w3) (zJ a).regs:=ow'.sl;have owY:WZ 4 W5 h4.n (zB 0 h10) (.slice w1 w2 w3) (zJ a).regs:=ow';refine Wg ?_;refine V7 (hB:=h4) (hS:=h10) (i:=r.toNat) (off:=0) (cs:=[.int .u8 v.kind,I v.n,I v.block,I v.pos]) (ho:=by simp) v owY (e5.trans (e7.trans e910)) ?_ rfl (QE _) (by omega) (fun old hx hr ho=> ?_) ?_ (hx:=by show WR _ _ (zR _ (r.toNat*4));exact zY)
 ·rw[((e5.trans e7).trans e910).mark,e04.mark];exact QO hm e04.n
 ·unfold W5 at hr |-;subst hr;rfl
 intro h11 e11 o11 n11 k11;have u11:UpB (.slice w1 w2 w3) h10 h11:=zDa (by omega) k11;have Mf:=hset.out h11 o11 u11;have dq8:Wp (.slice w1 w2 w3) p8:=(VI (h:=h5) o6.since' (by have:=(M'.rg (a.frs.length-1) (by omega)).within;rw[hw]at this;exact this)).symm;have o811:=o810.upB u11 dq8;have oqf:WI h4 h11 (.pointer (some ⟨gq,0,none⟩)) [.slice m1 m2 m3,.slice (some ⟨gf,0,none⟩) nf 5,.slice i1 i2 i3,I a.used,.slice v1 v2 v3,I a.steps,I a.heaps,.int .u8 a.state,I a.trap,I a.exit]:=oq10.upB u11 dqi.symm;refine go ?_;refine VF (cs:=[.slice m1 m2 m3,.slice (some ⟨gf,0,none⟩) nf 5,.slice i1 i2 i3,I a.used,.slice v1 v2 v3,I a.steps,I a.heaps,.int .u8 a.state,I a.trap,I a.exit]) (o34.ext e11) ((e3.trans e4).trans e11) ?_;intro h12 e12 o12 u12;refine gr ?_;have e012:=(e1.trans e2).trans e12;refine⟨⟨_,rfl,((OM.upd Mf (fun k h1 h2=>u12.2 k h2 fun e=> ?_) u12.1).base e04.n).fm nb'⟩,e012⟩;have:=o34.within k (by rw[e];rfl);omega
theorem zMD(h:WG)(ca:List Value)(a:Wb){b:Nat}(ra:FM b h ca a)(hm:h.mark<=h.n)(e:Int):
  WC Tryz.prog tb 13 [.agg ca.toArray,I e] h fun w h'=>(∃ cs,w=.tuple #[.agg cs.toArray,I (zAp a e).2]/\FM h.n h' cs (zAp a e).1)/\WL h h':=by
 have rm0:=ra.rm;have sm:=ra.small;have nm:=ra.nm;obtain⟨vm,vf,vi,ve,rfl,_,_⟩:=ra.ex;refine en ?_;refine VG ?_;intro p h1 e1 o1;replace o1:WI h h1 p [vm,vf,vi,I a.used,ve,I a.steps,I a.heaps,.int .u8 a.state,I a.trap,I a.exit]:=o1;refine go ?_;refine VJ ?_;intro p4 h2 e2 o2;have e02:=e1.trans e2;have o12:=o1.ext e2;refine go ?_;refine VA (zA9 h2 _ a (rm0.ext e02)) ?_;rintro _ h3 ⟨rfl,e3⟩;have o13:=o12.ext e3;have o23:=o2.ext e3;have e03:=e02.trans e3;by_cases hr:yo a=true;case neg=>
  have hr:yo a=false:=by simpa using hr
  rw[show zAp a e=(zM,160)from QG hr,hr];refine go ?_;refine VF (cs:=[.slice none 0 0,.slice none 0 0,.slice none 0 0,I 0,.slice none 0 0,I 0,I 0,.int .u8 0,I 0,I 0]) o23 (e2.trans e3) ?_;intro h5 e5 o5 u5;refine gr ?_;have e05:=e1.trans e5;exact⟨⟨_,rfl,FM.zero e05.n⟩,e05⟩
 rw[hr];have hz:¬(1<=e/\e<=1000)->zAp a e=(zM,2):=fun hn=>by
  unfold zAp;rw[QC (by rw[hr];decide),QC (by simpa using fun q1 q2=>hn ⟨q1,q2⟩)]
 by_cases q1:1<=e;case neg=>
  rw[hz (by omega)];refine go ?_;refine VF (cs:=[.slice none 0 0,.slice none 0 0,.slice none 0 0,I 0,.slice none 0 0,I 0,I 0,.int .u8 0,I 0,I 0]) o23 (e2.trans e3) ?_;intro h5 e5 o5 u5;refine gr ?_;have e05:=e1.trans e5;exact⟨⟨_,rfl,FM.zero e05.n⟩,e05⟩
 by_cases q2:e<=1000;case neg=>
  rw[hz (by omega)];refine go ?_;refine VF (cs:=[.slice none 0 0,.slice none 0 0,.slice none 0 0,I 0,.slice none 0 0,I 0,I 0,.int .u8 0,I 0,I 0]) o23 (e2.trans e3) ?_;intro h5 e5 o5 u5;refine gr ?_;have e05:=e1.trans e5;exact⟨⟨_,rfl,FM.zero e05.n⟩,e05⟩
 rw[show zAp a e=({a with state:=3,trap:=e},0)from by unfold zAp;rw[QC (by rw[hr];decide),QG (by simp;omega)]];refine go ?_;refine VA (zAo h3 _ a (rm0.ext e03) sm (by rw[e03.mark];exact QO hm e03.n)) ?_;rintro _ h4 ⟨⟨cs,rfl,rm,om⟩,e4⟩;obtain⟨vm',vf',vi',ve',xs',rfl,nb',M'⟩:=zMq rm om sm nm;obtain⟨m1,m2,m3,rfl⟩:=nb'.1.shape;obtain⟨i1,i2,i3,rfl⟩:∃ a n k,vi'=.slice a n k:=let⟨_,_,h2⟩:=M'.i;Wv.shape h2.sl;obtain⟨v1,v2,v3,rfl⟩:=nb'.2.shape;obtain⟨f1,f2,f3,rfl⟩:=zb M'.f.sl;have o24:=o23.ext e4;refine go ?_;refine VJ ?_;intro p6 h5 e5 o6;refine go ?_;refine VF (cs:=[.slice m1 m2 m3,.slice f1 f2 f3,.slice i1 i2 i3,I a.used,.slice v1 v2 v3,I a.steps,I a.heaps,.int .u8 a.state,I a.trap,I a.exit]) o6 e5 ?_;intro h6 e6 o6 _;refine go ?_;refine Vj (cs:=[.int .u8 3]) (j:=7) (hl:=by simp) o6 e6 ?_;intro h7 e7 o6 _;replace o6:WI h4 h7 p6 [.slice m1 m2 m3,.slice f1 f2 f3,.slice i1 i2 i3,I a.used,.slice v1 v2 v3,I a.steps,I a.heaps,.int .u8 3,I a.trap,I a.exit]:=o6;refine go ?_;refine Vj (cs:=[I e]) (j:=8) (hl:=by simp) o6 e7 ?_;intro h8 e8 o6 _;replace o6:WI h4 h8 p6 [.slice m1 m2 m3,.slice f1 f2 f3,.slice i1 i2 i3,I a.used,.slice v1 v2 v3,I a.steps,I a.heaps,.int .u8 3,I e,I a.exit]:=o6;have M8:=M'.ext e8;refine go ?_;refine VF (cs:=[.slice m1 m2 m3,.slice f1 f2 f3,.slice i1 i2 i3,I a.used,.slice v1 v2 v3,I a.steps,I a.heaps,.int .u8 3,I e,I a.exit]) (o24.ext e8) ((e2.trans e3).trans (e4.trans e8)) ?_;intro h9 e9 o9 u9;refine gr ?_;have e09:=e1.trans e9;have Mt:OM h3.n h8 (.slice f1 f2 f3) (.slice i1 i2 i3) xs' {a with state:=3,trap:=e}:=⟨M8.f,M8.lx,M8.rel,M8.rg,M8.off,M8.offF,M8.i,M8.offI,M8.bn,M8.nm,M8.lf,M8.li,M8.lr⟩;refine⟨⟨_,rfl,((Mt.upd (fun k h1 h2=>u9.2 k h2 fun q=> ?_) u9.1).base e03.n).fm nb'⟩,e09⟩;have:=o23.within k (by rw[q];rfl);omega
end Go.Proofs.YtmilpkdhbdgjfaaGreatDoor
