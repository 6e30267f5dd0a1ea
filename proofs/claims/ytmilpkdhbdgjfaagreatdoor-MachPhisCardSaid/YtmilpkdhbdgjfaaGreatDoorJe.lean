/- Walks of functions, plain laws; proves no statement. -/
import Derived.Test.YtmilpkdhbdgjfaaGreatDoorJd
import Derived.Test.YtmilpkdhbdgjfaaGreatDoorAmV
set_option linter.all false
set_option maxHeartbeats 1000000
namespace Go.Proofs.YtmilpkdhbdgjfaaGreatDoor
open Go.Am
inductive Bp(nx:Int->List Int)(x:Int):Nat->Int->Prop
 |here {k:Nat}:(0:Int)≠x->Bp nx x k 0
 |step {k:Nat} {b c:Int}:Bp nx x k b->c∈nx b->c≠x->Bp nx x (k+1) c
def Av(nx:Int->List Int)(x b:Int):Prop:=∃ k,Bp nx x k b
theorem Bp.mono{nx:Int->List Int}{x b:Int}{k m:Nat}(h:Bp nx x k b)(hm:k<=m):Bp nx x m b:=by
 induction h generalizing m with
 |here h=>exact .here h
 |step _ hc hne ih=>
  obtain⟨j,rfl⟩:∃ j,m=j+1:=⟨m-1,by omega⟩;exact .step (ih (by omega)) hc hne
theorem Bp.ne{nx:Int->List Int}{x b:Int}{k:Nat}(h:Bp nx x k b):b≠x:=by
 cases h with
 |here h=>exact h
 |step _ _ h=>exact h
theorem Bp.way{nx:Int->List Int}{x b:Int}{k:Nat}(h:Bp nx x k b):Wr nx 0 b:=by
 induction h with
 |here=>exact .here
 |step _ hc _ ih=>exact .step ih hc
theorem Bp.split{nx:Int->List Int}{x b c:Int}{k:Nat}(hb:(0:Int)≠b)(h:Bp nx x k c):Bp nx b k c\/Bp nx x k b:=by
 induction h with
 |here=>exact .inl (.here hb)
 |step h1 hc hne ih=>
  rename_i k d e;rcases ih with h|h
  ·by_cases he:e=b
   ·subst he;exact .inr (.step h1 hc hne)
   ·exact .inl (.step h hc he)
  ·exact .inr (h.mono (GO _))
theorem Bp.split'{nx:Int->List Int}{x b c:Int}{k:Nat}(hb:(0:Int)≠b)(hcb:c≠b)(h:Bp nx x (k+1) c):Bp nx b (k+1) c\/Bp nx x k b:=by
 cases h with
 |here=>exact .inl (.here hb)
 |step h1 hc hne=>
  rcases h1.split hb with h|h
  ·exact .inl (.step h hc hcb)
  ·exact .inr h
def BM(nx:Int->List Int)(y b:Int):Prop:=¬Av nx y b
theorem BM.self(nx:Int->List Int)(b:Int):BM nx b b:=fun⟨_,h⟩=>h.ne rfl
theorem BM.pred{nx:Int->List Int}{y a b:Int}(h:BM nx y b)(hy:y≠b)(hb:b∈nx a):BM nx y a:=fun⟨k,w⟩=>h ⟨k+1,.step w hb (Ne.symm hy)⟩
structure Rpo(nx:Int->List Int)(pos:Int->Int):Prop where
 zero:pos 0=0
 nn:∀ b,Wr nx 0 b->0<=pos b
 inj:∀ a b,Wr nx 0 a->Wr nx 0 b->pos a=pos b->a=b
 par:∀ b,Wr nx 0 b->b≠0->∃ a,Wr nx 0 a/\b∈nx a/\pos a<pos b
theorem Rpo.dom{nx:Int->List Int}{pos:Int->Int}(r:Rpo nx pos):∀ (n:Nat) (b y:Int),pos b<=n->Wr nx 0 b->BM nx y b->pos y<=pos b:=by
 intro n;induction n with
 |zero=>
  intro b y hn w d;have hb:b=0:=r.inj b 0 w .here (by have:=r.nn b w;rw[r.zero];omega);subst hb;by_cases e:(0:Int)=y
  ·rw[<-e];exact Qh _
  ·exact absurd ⟨0,.here e⟩ d
 |succ n ih=>
  intro b y hn w d;by_cases e:y=b
  ·rw[e];exact Qh _
  ·by_cases hb:b=0
   ·subst hb;exact absurd ⟨0,.here (Ne.symm e)⟩ d
   ·obtain⟨a,wa,hab,hp⟩:=r.par b w hb;have:=ih a y (by omega) wa (d.pred e hab);omega
theorem Rpo.dom_le{nx:Int->List Int}{pos:Int->Int}(r:Rpo nx pos){b y:Int}(w:Wr nx 0 b)(d:BM nx y b):pos y<=pos b:=r.dom (pos b).toNat b y (by have:=r.nn b w;omega) w d
inductive Be(p:Int->Int)(y:Int):Int->Prop
 |here:Be p y y
 |up {b:Int}:b≠0->p b≠ -1->Be p y (p b)->Be p y b
theorem Be.trans{p:Int->Int}{x y b:Int}(h:Be p x y)(k:Be p y b):Be p x b:=by
 induction k with
 |here=>exact h
 |up h1 h2 _ ih=>exact .up h1 h2 ih
theorem Be.zero{p:Int->Int}{x:Int}(h:Be p x 0):x=0:=by
 cases h with
 |here=>rfl
 |up h _ _=>exact absurd rfl h
structure Rl(nx:Int->List Int)(pos p:Int->Int):Prop where
 zero:p 0=0
 up:∀ b,Wr nx 0 b->b≠0->p b≠ -1->Wr nx 0 (p b)/\p (p b)≠ -1/\pos (p b)<pos b
 sound:∀ b,Wr nx 0 b->b≠0->p b≠ -1->∀ y,BM nx y b->y≠b->BM nx y (p b)
theorem Rl.le{nx:Int->List Int}{pos p:Int->Int}(g:Rl nx pos p){x b:Int}(h:Be p x b)(w:Wr nx 0 b):Wr nx 0 x/\pos x<=pos b/\(p b≠ -1->p x≠ -1):=by
 induction h with
 |here=>exact⟨w,Qh _,id⟩
 |up h1 h2 _ ih=>
  obtain⟨u1,u2,u3⟩:=g.up _ w h1 h2;obtain⟨i1,i2,i3⟩:=ih u1;exact⟨i1,by omega,fun _=>i3 u2⟩
theorem Vu{nx:Int->List Int}{pos p:Int->Int}(r:Rpo nx pos)(g:Rl nx pos p):∀ (n:Nat) (b y:Int),pos b<=n->Wr nx 0 b->p b≠ -1->BM nx y b->Be p y b:=by
 intro n;induction n with
 |zero=>
  intro b y hn w hp d;have hb:b=0:=r.inj b 0 w .here (by have:=r.nn b w;rw[r.zero];omega);subst hb;by_cases e:(0:Int)=y
  ·rw[<-e];exact .here
  ·exact absurd ⟨0,.here e⟩ d
 |succ n ih=>
  intro b y hn w hp d;by_cases e:y=b
  ·rw[e];exact .here
  ·by_cases hb:b=0
   ·subst hb;exact absurd ⟨0,.here (Ne.symm e)⟩ d
   ·obtain⟨u1,u2,u3⟩:=g.up b w hb hp;exact .up hb hp (ih (p b) y (by omega) u1 u2 (g.sound b w hb hp y d e))
structure Mt(nx:Int->List Int)(pos p:Int->Int)(a b m:Int):Prop where
 way:Wr nx 0 m
 done:p m≠ -1
 left:Be p m a
 right:Be p m b
 dom:∀ y,BM nx y a->BM nx y b->BM nx y m
theorem Mt.same{nx:Int->List Int}{pos p:Int->Int}{a:Int}(w:Wr nx 0 a)(h:p a≠ -1):Mt nx pos p a a a:=⟨w,h,.here,.here,fun _ h _=>h⟩
theorem UA{nx:Int->List Int}{pos p:Int->Int}{a b m:Int}(r:Rpo nx pos)(g:Rl nx pos p)(w:Wr nx 0 a)(wb:Wr nx 0 b)(h:p a≠ -1)(hlt:pos b<pos a)(k:Mt nx pos p (p a) b m):Mt nx pos p a b m:=by
 have ha:a≠0:=fun e=>by subst e;have:=r.nn b wb;rw[r.zero]at hlt;omega
 refine⟨k.way,k.done,.up ha h k.left,k.right,fun y da db=> ?_⟩;have hy:y≠a:=fun e=>by subst e;have:=r.dom_le wb db;omega
 exact k.dom y (g.sound a w ha h y da hy) db
theorem Xp{nx:Int->List Int}{pos p:Int->Int}{a b m:Int}(r:Rpo nx pos)(g:Rl nx pos p)(w:Wr nx 0 a)(wb:Wr nx 0 b)(h:p b≠ -1)(hlt:pos a<pos b)(k:Mt nx pos p a (p b) m):Mt nx pos p a b m:=by
 have hb:b≠0:=fun e=>by subst e;have:=r.nn a w;rw[r.zero]at hlt;omega
 refine⟨k.way,k.done,k.left,.up hb h k.right,fun y da db=> ?_⟩;have hy:y≠b:=fun e=>by subst e;have:=r.dom_le w da;omega
 exact k.dom y da (g.sound b wb hb h y db hy)
def upd(p:Int->Int)(b v:Int):Int->Int:=fun c=>if c=b then v else p c
structure Best(nx:Int->List Int)(pos p:Int->Int)(b m:Int):Prop where
 way:Wr nx 0 m
 done:p m≠ -1
 lt:pos m<pos b
 anc:∀ a,Wr nx 0 a->b∈nx a->p a≠ -1->Be p m a
 dom:∀ y,BM nx y b->y≠b->BM nx y m
theorem zPs{nx:Int->List Int}{pos p:Int->Int}{b m:Int}(g:Rl nx pos p)(hb:b≠0)(wb:Wr nx 0 b)(k:Best nx pos p b m)(hm:m≠ -1):Rl nx pos (upd p b m):=by
 have hmb:m≠b:=fun e=>by have:=k.lt;rw[e]at this;omega
 have keep:∀ c,p c≠ -1->upd p b m c≠ -1:=fun c h=>by unfold upd;split<;>assumption
 refine⟨by unfold upd;rw[QC (Ne.symm hb)];exact g.zero,fun c w hc hp=> ?_,fun c w hc hp y d hy=> ?_⟩
 ·by_cases e:c=b
  ·subst e;have:upd p c m c=m:=by unfold upd;rw[QG rfl]
   rw[this];exact⟨k.way,keep m k.done,k.lt⟩
  ·have:upd p b m c=p c:=by unfold upd;rw[QC e]
   rw[this]at hp |-;obtain⟨u1,u2,u3⟩:=g.up c w hc hp;exact⟨u1,keep _ u2,u3⟩
 ·by_cases e:c=b
  ·subst e;have:upd p c m c=m:=by unfold upd;rw[QG rfl]
   rw[this];exact k.dom y d hy
  ·have:upd p b m c=p c:=by unfold upd;rw[QC e]
   rw[this]at hp |-;exact g.sound c w hc hp y d hy
theorem zFj{p:Int->Int}{b m x c:Int}(h:Be (upd p b m) x c):Be p x c\/(Be (upd p b m) x b/\Be p b c):=by
 induction h with
 |here=>exact .inl .here
 |up h1 h2 h3 ih=>
  rename_i c;by_cases e:c=b
  ·subst e;exact .inr ⟨.up h1 h2 h3,.here⟩
  ·have:upd p b m c=p c:=by unfold upd;rw[QC e]
   rw[this]at h2 ih;rcases ih with h|⟨h,k⟩
   ·exact .inl (.up h1 h2 h)
   ·exact .inr ⟨h,.up h1 h2 k⟩
theorem zOs{nx:Int->List Int}{pos p:Int->Int}{b m x c:Int}(g:Rl nx pos p)(wc:Wr nx 0 c)(hlt:pos c<pos b)(h:Be (upd p b m) x c):Be p x c:=by
 rcases zFj h with h|⟨_,k⟩
 ·exact h
 ·have:=(g.le k wc).2.1;omega
def Far(nx:Int->List Int)(p:Int->Int)(k:Nat)(c:Int):Prop:=∀ x,Bp nx x k c->p c≠ -1/\¬Be p x c
theorem zBt{nx:Int->List Int}{pos p:Int->Int}{b m:Int}{k:Nat}(g:Rl nx pos p)(hb:b≠0)(wb:Wr nx 0 b)(bt:Best nx pos p b m)(hm:m≠ -1)(hk:∀ c,Far nx p k c):Far nx (upd p b m) (k+1) b:=by
 intro x hx;have hp:upd p b m b=m:=by unfold upd;rw[QG rfl]
 refine⟨by rw[hp];exact hm,fun ha=> ?_⟩;cases hx with
 |here=>exact hb rfl
 |step h1 hc hne=>
  rename_i a;obtain⟨pa,na⟩:=hk a x h1;cases ha with
  |here=>exact hne rfl
  |up _ _ h3=>
   rw[hp]at h3;exact na ((zOs g bt.way bt.lt h3).trans (bt.anc a h1.way hc pa))
theorem zOc{nx:Int->List Int}{pos p:Int->Int}{b m c:Int}{k:Nat}(g:Rl nx pos p)(hb:b≠0)(wb:Wr nx 0 b)(bt:Best nx pos p b m)(hm:m≠ -1)(hk:∀ c,Far nx p k c)(hc:Far nx p (k+1) c):Far nx (upd p b m) (k+1) c:=by
 by_cases e:c=b
 ·subst e;exact zBt g hb wb bt hm hk
 ·intro x hx;obtain⟨pc,nc⟩:=hc x hx;refine⟨by unfold upd;rw[QC e];exact pc,fun ha=> ?_⟩;rcases zFj ha with h|⟨h,h2⟩
  ·exact nc h
  ·rcases hx.split' (Ne.symm hb) e with h3|h3
   ·exact(hc b h3).2 h2
   ·exact(zBt g hb wb bt hm hk x (h3.mono (GO _))).2 h
theorem zNP{nx:Int->List Int}{pos p:Int->Int}{b m:Int}{k:Nat}(g:Rl nx pos p)(hb:b≠0)(wb:Wr nx 0 b)(bt:Best nx pos p b m)(hm:m≠ -1)(hk:∀ c,Far nx p k c):∀ c,Far nx (upd p b m) k c:=by
 intro c x hx;obtain⟨pc,nc⟩:=hk c x hx;have self:Bp nx x k b->¬Be (upd p b m) x b:=fun h=>(zBt g hb wb bt hm hk x (h.mono (GO _))).2;by_cases e:c=b
 ·subst e;exact⟨by unfold upd;rw[QG rfl];exact hm,self hx⟩
 ·refine⟨by unfold upd;rw[QC e];exact pc,fun ha=> ?_⟩;rcases zFj ha with h|⟨h,h2⟩
  ·exact nc h
  ·rcases hx.split (Ne.symm hb)with h3|h3
   ·exact(hk c b h3).2 h2
   ·exact self h3 h
theorem zI8{nx:Int->List Int}{pos p q:Int->Int}{b:Int}(r:Rpo nx pos)(gp:Rl nx pos p)(gq:Rl nx pos q)(hp:∀ x c,Av nx x c->¬Be p x c)(hq:∀ x c,Av nx x c->¬Be q x c)(wb:Wr nx 0 b)(hb:b≠0)(pb:p b≠ -1)(qb:q b≠ -1):p b=q b:=by
 obtain⟨u1,u2,u3⟩:=gp.up b wb hb pb;obtain⟨v1,v2,v3⟩:=gq.up b wb hb qb;have dp:BM nx (p b) b:=fun h=>hp _ _ h (.up hb pb .here);have dq:BM nx (q b) b:=fun h=>hq _ _ h (.up hb qb .here);have h1:=gp.sound b wb hb pb (q b) dq (fun e=>by rw[e]at v3;omega);have h2:=gq.sound b wb hb qb (p b) dp (fun e=>by rw[e]at u3;omega);have:=r.dom_le u1 h1;have:=r.dom_le v1 h2;exact r.inj _ _ u1 v1 (by omega)
theorem zF2{nx:Int->List Int}{N:Nat}(hin:∀ b,0<=b/\b<(N:Int)->∀ c∈nx b,0<=c/\c<(N:Int))(hN:0<N):∃ K,∀ x b,0<=x/\x<(N:Int)->Av nx x b->Bp nx x K b:=by
 have hb:∀ x b k,Bp nx x k b->0<=b/\b<(N:Int):=fun x b k h=>by
  induction h with
  |here=>omega
  |step _ hc _ ih=>exact hin _ ih _ hc
 have:∀ M:Nat,∃ K,∀ (i:Nat),i<M->Av nx ((i / N:Nat):Int) ((i % N:Nat):Int)->Bp nx ((i / N:Nat):Int) K ((i % N:Nat):Int):=by
  intro M;induction M with
  |zero=>exact⟨0,fun i h=>absurd h (Qw _)⟩
  |succ M ih=>
   obtain⟨K,hK⟩:=ih;by_cases h:Av nx ((M / N:Nat):Int) ((M % N:Nat):Int)
   ·obtain⟨k,hk⟩:=h;refine⟨max K k,fun i hi ha=> ?_⟩;by_cases e:i=M
    ·subst e;exact hk.mono (by omega)
    ·exact(hK i (by omega) ha).mono (by omega)
   ·refine⟨K,fun i hi ha=> ?_⟩;by_cases e:i=M
    ·subst e;exact absurd ha h
    ·exact hK i (by omega) ha
 obtain⟨K,hK⟩:=this (N*N);refine⟨K,fun x b hx ha=> ?_⟩;obtain⟨k,hk⟩:=ha;have hb':=hb x b k hk;obtain⟨i,rfl⟩:∃ i:Nat,x=i:=⟨x.toNat,by omega⟩;obtain⟨j,rfl⟩:∃ j:Nat,b=j:=⟨b.toNat,by omega⟩;have hi:i<N:=by omega
 have hj:j<N:=by omega
 have e1:(N*i+j) / N=i:=by rw[Nat.mul_add_div hN,Nat.div_eq_of_lt hj,G9]
 have e2:(N*i+j) % N=j:=by rw[Nat.mul_add_mod,Nat.mod_eq_of_lt hj]
 have:=hK (N*i+j) (by
  have:N*(i+1)<=N*N:=Nat.mul_le_mul_left _ hi;rw[Nat.mul_succ]at this;omega)
 rw[e1,e2]at this;exact this ⟨k,hk⟩
end Go.Proofs.YtmilpkdhbdgjfaaGreatDoor
set_option maxRecDepth 100000
namespace Go.Proofs.YtmilpkdhbdgjfaaGreatDoor
open Go.Am
def zI4(L:List Wl):Prop:=L.length<=16/\∀ k,k<L.length->((L.getD k default).fin.kind=1\/(L.getD k default).fin.kind=2\/(L.getD k default).fin.kind=3)/\((L.getD k default).fin.kind=1\/(L.getD k default).fin.kind=2->0<=(L.getD k default).fin.to/\(L.getD k default).fin.to<L.length)/\((L.getD k default).fin.kind=2->0<=(L.getD k default).fin.els/\(L.getD k default).fin.els<L.length)
theorem zMB(h:WF)(hm:h.mark<=h.n)(v:Value)(L:List Wl)(sb:BN h v L)(hE:zI4 L):
  WC Tryz.prog tb 220 [v] h fun r h'=>(∃ cells:List Value,r=.agg cells.toArray/\cells.length=16/\∀ j,j<16->Wb h h' (cells.getD j undef) (zV L (j:Int) L.length))/\WK h h':=by
 refine en ?_;refine VJ ?_;intro p h1 e1 o1;obtain⟨g2,hg2,hg2',rfl⟩:∃ g2,h.n<=g2/\g2<h1.n/\p=.pointer (some ⟨g2,0,none⟩):=let⟨g,a,b,c,_⟩:=o1;⟨g,a,b,c⟩;have sb1:=BN.ext sb e1;refine go ?_;refine VE (fun k=>L.length-k) (fun k t h3=>zC t 7=I k/\k<=L.length/\WK h h3/\∃ cells,AR h h3 (.pointer (some ⟨g2,0,none⟩)) cells 16 (fun j=>zV L (j:Int) k)) 0 ?_ ?_
 ·refine⟨WM,QU _,e1,List.replicate 16 (.slice none 0 0),⟨o1,rfl,fun j hj=> ?_,fun i j g a b c d hi hj hne e1 e2=> ?_⟩⟩
  ·have:(List.replicate 16 (Value.slice none 0 0)).getD j undef=.slice none 0 0:=by
    rw[QL,QB (by simpa using hj),List.getElem_replicate];rfl
   rw[this];exact .inl ⟨rfl,rfl⟩
  ·have:(List.replicate 16 (Value.slice none 0 0)).getD i undef=.slice none 0 0:=by
    rw[QL,QB (by simpa using hi),List.getElem_replicate];rfl
   rw[this]at e1;cases e1
 rintro k t h3 hsame ⟨s7,hk,e3,cells,ar⟩;have sb3:=BN.ext sb e3;have hL:=hE.1;have hx:=hE.2;refine go ?_;refine VD (fun hc=> ?_) (fun hc=> ?_)<;>simp only[DB]at hc
 ·have hk':k<L.length:=by omega
  obtain⟨hkind,hto,hels⟩:=hx k hk';obtain⟨cs,⟨vi,rfl,si,hsi⟩,pc,hs⟩:=yo sb3 hk';obtain⟨va,vn,vk,rfl⟩:=zN si;have hsucc:∀ j:Nat,zV L (j:Int) (k+1)=if(j:Int)∈YS (L.getD k default).fin then zV L (j:Int) k++[(k:Int)]else zV L (j:Int) k:=fun j=>zDB L j k;have halen:∀ j:Nat,(zV L (j:Int) k).length<=1000:=fun j=>by have:=zAk L (j:Int) k;omega
  generalize(L.getD k default).fin=X at *;refine go ?_;refine VJ ?_;intro p4 h4 e4 o4;obtain⟨g4,hg4,rfl⟩:∃ g4,h3.n<=g4/\p4=.pointer (some ⟨g4,0,none⟩):=let⟨g,a,b,c,_⟩:=o4;⟨g,a,c⟩;refine go ?_;refine VF o4 e4 ?_;intro h5 e5 o5 u5;have ar5:=ar.ext e5;have e05:=e3.trans e5;have o5:=o5.since e3;refine go ?_;have hnx:∀ j:Nat,((j:Int)∈YS X)↔(X.kind≠3/\(j:Int)=X.to)\/((X.kind=2/\X.els≠X.to)/\(j:Int)=X.els):=fun j=>by
   unfold YS;by_cases k1:X.kind=1
   ·rw[QG k1];simp only[Qe];omega
   ·rw[QC k1];by_cases k2:X.kind=2
    ·rw[QG k2];by_cases k3:X.to=X.els
     ·rw[QG k3];simp only[Qe];omega
     ·rw[QC k3];simp only[GI,List.mem_nil_iff,or_false];omega
    ·rw[QC k2];simp only[List.mem_nil_iff,JF];omega
  have hmk:h5.mark<=h.n:=by rw[e05.mark];exact hm
  have hg42:g4≠g2:=by have:=e3.n;obtain⟨g,_,q2,q3,_⟩:=ar.own;cases q3;omega
  refine VK (fun t h'=>WK h h'/\(∃ cells',AR h h' (.pointer (some ⟨g2,0,none⟩)) cells' 16 (fun j=>if X.kind≠3/\(j:Int)=X.to then zV L (j:Int) k++[(k:Int)]else zV L (j:Int) k))/\WH h h' (.pointer (some ⟨g4,0,none⟩)) [.slice va vn vk,.int .u8 X.kind,I X.a,I X.to,I X.els]) ?_ ?_
  ·refine VD (fun hd=> ?_) (fun hd=> ?_)<;>simp only[DB]at hd
   ·have hd':X.kind≠3:=by simpa using hd
    obtain⟨t0,t1⟩:=hto (by omega);have hi16:X.to.toNat<16:=by omega
    have ht:(X.to.toNat:Int)=X.to:=by omega
    refine VX (fun g=>∃ a b,cells.getD X.to.toNat undef=.slice (some ⟨g,0,none⟩) a b) 1 rfl rfl ?_;have hb4:¬∃ a b,cells.getD X.to.toNat undef=.slice (some ⟨g4,0,none⟩) a b:=fun⟨a,b,e⟩=>zGD o5 (ar5.all _ hi16) _ _ _ e rfl;have hb2:¬∃ a b,cells.getD X.to.toNat undef=.slice (some ⟨g2,0,none⟩) a b:=fun⟨a,b,e⟩=>ar5.off hi16 rfl e rfl;have o5X:WH h (inC (zB 1 h5)) (.pointer (some ⟨g4,0,none⟩)) [.slice va vn vk,.int .u8 X.kind,I X.a,I X.to,I X.els]:=by have:=o5.ext (zQ 1 h5);exact this
    have o2X:WH h (inC (zB 1 h5)) (.pointer (some ⟨g2,0,none⟩)) cells:=by have:=ar5.own.ext (zQ 1 h5);exact this
    refine goV ?_;refine XH (i:=X.to.toNat) o2X (by rw[ar5.len];omega) ?_;refine WO.nil ?_;refine zJ7 (a:=⟨g2,0,none⟩) (k:=X.to.toNat) zX hb2 ?_;refine goV ?_;refine XI (i:=X.to.toNat) (k:=(k:Int)) ar5 e05 (by rw[e05.mark];exact hm) hi16 rfl (halen _) zX zX rfl (fun w=>zX) (fun w=>by rw[ht];exact zX) rfl ?_;intro hN w t' hsl eN arN keepN nN;have oN:WH h hN (.pointer (some ⟨g4,0,none⟩)) [.slice va vn vk,.int .u8 X.kind,I X.a,I X.to,I X.els]:=by
     obtain⟨q,q1,q2,q3,q4⟩:=o5;cases q3;exact⟨g4,q1,QK q2 nN,rfl,(keepN g4 q2 (fun e=>by cases e;exact hg42 rfl) (fun a b e=>hb4 ⟨a,b,e⟩)).trans q4⟩
    refine zD ⟨eN,⟨cells.set X.to.toNat w,?_⟩,oN⟩;have hfun:(fun j:Nat=>if j=X.to.toNat then(zV L ((X.to.toNat:Nat):Int) k)++[(k:Int)]else zV L ((j:Nat):Int) k)=fun j:Nat=>if X.kind≠3/\(j:Int)=X.to then zV L (j:Int) k++[(k:Int)]else zV L (j:Int) k:=by
     funext j;by_cases e:(j:Int)=X.to
     ·have e2:j=X.to.toNat:=by omega
      rw[QG e2];refine Eq.trans ?_ (QG ⟨hd',e⟩).symm;rw[<-e2]
     ·rw[QC (show ¬j=_ by omega)];exact(QC (fun h=>e h.2)).symm
    rw[<-hfun];exact arN
   ·refine WX.skip ?_;have hk3:X.kind=3:=by simpa using hd
    refine zD ⟨e05,⟨cells,?_⟩,o5⟩;have hfun:(fun j:Nat=>zV L (j:Int) k)=fun j:Nat=>if X.kind≠3/\(j:Int)=X.to then zV L (j:Int) k++[(k:Int)]else zV L (j:Int) k:=by
     funext j;rw[QC (fun h=>h.1 hk3)]
    rw[<-hfun];exact ar5
  clear hs pc ar5 o5 e5 e4 u5 o4;rintro t6 h6 hs6 ⟨e06,⟨cells6,ar6⟩,o6⟩;have hlen6:∀ j:Nat,(if X.kind≠3/\((j:Nat):Int)=X.to then zV L ((j:Nat):Int) k++[(k:Int)]else zV L ((j:Nat):Int) k).length<=1000:=fun j=>by
   have:=zAk L (j:Int) k;split
   ·rw[QT,QZ];omega
   ·omega
  refine go ?_;refine VV 8 (fun t' h'=>h6=h'/\zC t' 40=.bool (decide (X.kind=2/\X.els≠X.to))) ?_ ?_<;>simp only[Qz,GA,GJ,Qx]
  ·by_cases k2:X.kind=2
   ·refine go ?_;exact⟨rfl,rfl,rfl,(WM:zC _ 40=.bool (!decide (X.els=X.to))).trans (by simp[k2])⟩
   ·refine go ?_;exact⟨rfl,rfl,rfl,(WM:zC _ 40=.bool false).trans (by simp[k2])⟩
  rintro t7 _ hs7 ⟨rfl,q40⟩;refine go ?_;refine VK (fun t h'=>WK h h'/\(∃ cells',AR h h' (.pointer (some ⟨g2,0,none⟩)) cells' 16 (fun j=>if(X.kind=2/\X.els≠X.to)/\(j:Int)=X.els then(if X.kind≠3/\(j:Int)=X.to then zV L (j:Int) k++[(k:Int)]else zV L (j:Int) k)++[(k:Int)]else(if X.kind≠3/\(j:Int)=X.to then zV L (j:Int) k++[(k:Int)]else zV L (j:Int) k)))/\WH h h' (.pointer (some ⟨g4,0,none⟩)) [.slice va vn vk,.int .u8 X.kind,I X.a,I X.to,I X.els]) ?_ ?_
  ·refine VD (fun hd=> ?_) (fun hd=> ?_)<;>simp only[DB]at hd
   ·have hd':X.kind=2/\X.els≠X.to:=by exact hd
    obtain⟨t0,t1⟩:=hels hd'.1;have hi16:X.els.toNat<16:=by omega
    have ht:(X.els.toNat:Int)=X.els:=by omega
    refine VX (fun g=>∃ a b,cells6.getD X.els.toNat undef=.slice (some ⟨g,0,none⟩) a b) 1 rfl rfl ?_;have hb4:¬∃ a b,cells6.getD X.els.toNat undef=.slice (some ⟨g4,0,none⟩) a b:=fun⟨a,b,e⟩=>zGD o6 (ar6.all _ hi16) _ _ _ e rfl;have hb2:¬∃ a b,cells6.getD X.els.toNat undef=.slice (some ⟨g2,0,none⟩) a b:=fun⟨a,b,e⟩=>ar6.off hi16 rfl e rfl;have o5X:WH h (inC (zB 1 h6)) (.pointer (some ⟨g4,0,none⟩)) [.slice va vn vk,.int .u8 X.kind,I X.a,I X.to,I X.els]:=by have:=o6.ext (zQ 1 h6);exact this
    have o2X:WH h (inC (zB 1 h6)) (.pointer (some ⟨g2,0,none⟩)) cells6:=by have:=ar6.own.ext (zQ 1 h6);exact this
    refine goV ?_;refine XH (i:=X.els.toNat) o2X (by rw[ar6.len];omega) ?_;refine WO.nil ?_;refine zJ7 (a:=⟨g2,0,none⟩) (k:=X.els.toNat) zX hb2 ?_;refine goV ?_;refine XI (i:=X.els.toNat) (k:=(k:Int)) ar6 e06 (by rw[e06.mark];exact hm) hi16 rfl (hlen6 _) zX zX rfl (fun w=>zX) (fun w=>by rw[ht];exact zX) rfl ?_;intro hN w t' hsl eN arN keepN nN;have oN:WH h hN (.pointer (some ⟨g4,0,none⟩)) [.slice va vn vk,.int .u8 X.kind,I X.a,I X.to,I X.els]:=by
     obtain⟨q,q1,q2,q3,q4⟩:=o6;cases q3;exact⟨g4,q1,QK q2 nN,rfl,(keepN g4 q2 (fun e=>by cases e;exact hg42 rfl) (fun a b e=>hb4 ⟨a,b,e⟩)).trans q4⟩
    refine zD ⟨eN,⟨cells6.set X.els.toNat w,?_⟩,oN⟩;have hfun:(fun j:Nat=>if j=X.els.toNat then(if X.kind≠3/\((X.els.toNat:Nat):Int)=X.to then zV L ((X.els.toNat:Nat):Int) k++[(k:Int)]else zV L ((X.els.toNat:Nat):Int) k)++[(k:Int)]else if X.kind≠3/\((j:Nat):Int)=X.to then zV L ((j:Nat):Int) k++[(k:Int)]else zV L ((j:Nat):Int) k)=fun j:Nat=>if(X.kind=2/\X.els≠X.to)/\(j:Int)=X.els then(if X.kind≠3/\(j:Int)=X.to then zV L (j:Int) k++[(k:Int)]else zV L (j:Int) k)++[(k:Int)]else(if X.kind≠3/\(j:Int)=X.to then zV L (j:Int) k++[(k:Int)]else zV L (j:Int) k):=by
     funext j;by_cases e:(j:Int)=X.els
     ·have e2:j=X.els.toNat:=by omega
      rw[QG e2];refine Eq.trans ?_ (QG ⟨hd',e⟩).symm;rw[<-e2]
     ·rw[QC (show ¬j=_ by omega)];exact(QC (fun h=>e h.2)).symm
    rw[<-hfun];exact arN
   ·refine WX.skip ?_;refine zD ⟨e06,⟨cells6,?_⟩,o6⟩;have hfun:(fun j:Nat=>if X.kind≠3/\((j:Nat):Int)=X.to then zV L ((j:Nat):Int) k++[(k:Int)]else zV L ((j:Nat):Int) k)=fun j:Nat=>if(X.kind=2/\X.els≠X.to)/\(j:Int)=X.els then(if X.kind≠3/\(j:Int)=X.to then zV L (j:Int) k++[(k:Int)]else zV L (j:Int) k)++[(k:Int)]else(if X.kind≠3/\(j:Int)=X.to then zV L (j:Int) k++[(k:Int)]else zV L (j:Int) k):=by
     funext j;exact(QC (fun h=>hd h.1)).symm
    rw[<-hfun];exact ar6
  rintro t8 h8 hs8 ⟨e08,⟨cells8,ar8⟩,o8⟩;refine go ?_;refine zA (k+1) (by omega) ⟨BF,by omega,e08,cells8,?_⟩;have hfun:(fun j:Nat=>if(X.kind=2/\X.els≠X.to)/\(j:Int)=X.els then(if X.kind≠3/\(j:Int)=X.to then zV L (j:Int) k++[(k:Int)]else zV L (j:Int) k)++[(k:Int)]else(if X.kind≠3/\(j:Int)=X.to then zV L (j:Int) k++[(k:Int)]else zV L (j:Int) k))=fun j:Nat=>zV L (j:Int) (k+1):=by
   funext j;rw[hsucc j];have:=hnx j;by_cases c1:X.kind≠3/\(j:Int)=X.to
   ·rw[QC (fun h=>h.1.2 (h.2.symm.trans c1.2)),QG c1,QG (this.2 (.inl c1))]
   ·by_cases c2:(X.kind=2/\X.els≠X.to)/\(j:Int)=X.els
    ·rw[QG c2,QC c1,QG (this.2 (.inr c2))]
    ·rw[QC c2,QC c1,QC (fun h=>(this.1 h).elim c1 c2)]
  rw[<-hfun];exact ar8
 ·have hkk:k=L.length:=by omega
  subst hkk;have oc:=ar.own;refine go ?_;refine UG oc ar.len ?_;refine VF (cs:=cells) oc e3 ?_ (hn:=ar.len) (hl:=ar.len) (h1:=ar.one);intro h6 e6 o6 u6;have ar6:=ar.updC o6 u6;refine go ?_;refine rt ?_ (VL WM o6 (zJ9 ar.len) Wz.nil);exact⟨⟨cells,rfl,ar.len,ar6.all⟩,e6⟩
end Go.Proofs.YtmilpkdhbdgjfaaGreatDoor
set_option maxRecDepth 100000
namespace Go.Proofs.YtmilpkdhbdgjfaaGreatDoor
open Go.Am
abbrev pO(xs:List Int)(b:Int):Int:=xs.getD b.toNat 0
abbrev qO(xs:List Int)(b:Int):Int:=xs.getD (16+b.toNat) 0
structure Dm(nx:Int->List Int)(xs:List Int):Prop where
 len:xs.length=32
 rpo:Rpo nx (fun b=>qO xs b)
 rl:Rl nx (fun b=>qO xs b) (fun b=>pO xs b)
 bnd:∀ b,Wr nx 0 b->0<=b/\b<16
theorem zOd(hA h:WF)(p:Value)(nx:Int->List Int)(xs:List Int)(a b:Int)(o:WH hA h p (xs.map I))(dm:Wu (Dm nx xs))(wa:Wr nx 0 a)(wb:Wr nx 0 b)(pa:pO xs a≠ -1)(pb:pO xs b≠ -1):
  WC Tryz.prog tb 221 [p,I a,I b] h fun r h'=>(∃ m,r=I m/\Mt nx (fun b=>qO xs b) (fun b=>pO xs b) a b m)/\h=h':=by
 obtain⟨g,rfl⟩:∃ g,p=.pointer (some ⟨g,0,none⟩):=let⟨g,_,_,e,_⟩:=o;⟨g,e⟩;have hl:=dm.out.len;refine en ?_;refine VE (fun x=>(qO xs x.1).toNat+(qO xs x.2).toNat) (fun(x:Int×Int) t h1=>h=h1/\zC t 1=I x.1/\zC t 2=I x.2/\Wr nx 0 x.1/\Wr nx 0 x.2/\pO xs x.1≠ -1/\pO xs x.2≠ -1/\Wu (∀ m,Mt nx (fun b=>qO xs b) (fun b=>pO xs b) x.1 x.2 m->Mt nx (fun b=>qO xs b) (fun b=>pO xs b) a b m)) (a,b) ?_ ?_
 ·exact⟨rfl,WM,WM,wa,wb,pa,pb,⟨fun m h=>h⟩⟩
 rintro⟨c,d⟩ t _ hsame ⟨rfl,s1,s2,wc,wd,pc,pd,hm⟩;simp only at s1 s2 wc wd pc pd hm;have bc:=dm.out.bnd c wc;have bd:=dm.out.bnd d wd;refine go ?_;refine VD (fun he=> ?_) (fun he=> ?_)<;>simp only[DB]at he;case refine_2=>
  subst he;refine gr ?_;exact⟨⟨c,rfl,hm.out c (Mt.same wc pc)⟩,rfl⟩
 have hne:qO xs c≠qO xs d:=fun e=>he (dm.out.rpo.inj c d wc wd e);have nc:=dm.out.rpo.nn c wc;have nd:=dm.out.rpo.nn d wd;try simp only at nc nd
 refine go ?_;refine VE (fun x=>(qO xs x).toNat) (fun(x:Int) t h1=>h=h1/\zC t 1=I x/\Wr nx 0 x/\pO xs x≠ -1/\(qO xs x<=qO xs c/\0<=qO xs x)/\Wu (∀ m,Mt nx (fun b=>qO xs b) (fun b=>pO xs b) x d m->Mt nx (fun b=>qO xs b) (fun b=>pO xs b) a b m)) c ?_ ?_
 ·exact⟨rfl,WM,wc,pc,⟨Qh _,nc⟩,hm⟩
 rintro x t _ hsame2 ⟨rfl,s1,wx,px,hx,hmx⟩;have bx:=dm.out.bnd x wx;refine go ?_;refine VD (fun hf=> ?_) (fun hf=> ?_)<;>simp only[DB]at hf
 ·have hx0:x≠0:=fun e=>by subst e;have:=dm.out.rpo.zero;have hf2:qO xs d<qO xs 0:=hf;omega
  obtain⟨u1,u2,u3⟩:=dm.out.rl.up x wx hx0 px;have nu:=dm.out.rpo.nn _ u1;try simp only at u2 u3 nu
  refine go ?_;exact zA (pO xs x) (by omega) ⟨rfl,WM,u1,u2,⟨by omega,nu⟩,⟨fun m h=>hmx.out m (UA dm.out.rpo dm.out.rl wx wd px hf h)⟩⟩
 refine go ?_;refine VE (fun y=>(qO xs y).toNat) (fun(y:Int) t h1=>h=h1/\zC t 2=I y/\Wr nx 0 y/\pO xs y≠ -1/\(qO xs y<=qO xs d/\0<=qO xs y)/\Wu (∀ m,Mt nx (fun b=>qO xs b) (fun b=>pO xs b) x y m->Mt nx (fun b=>qO xs b) (fun b=>pO xs b) a b m)) d ?_ ?_
 ·exact⟨rfl,WM,wd,pd,⟨Qh _,nd⟩,hmx⟩
 rintro y t _ hsame3 ⟨rfl,s2,wy,py,hy,hmy⟩;have bY:=dm.out.bnd y wy;refine go ?_;refine VD (fun hg=> ?_) (fun hg=> ?_)<;>simp only[DB]at hg
 ·have hy0:y≠0:=fun e=>by subst e;have:=dm.out.rpo.zero;have hg2:qO xs x<qO xs 0:=hg;omega
  obtain⟨u1,u2,u3⟩:=dm.out.rl.up y wy hy0 py;have nu:=dm.out.rpo.nn _ u1;try simp only at u2 u3 nu
  refine go ?_;exact zA (pO xs y) (by omega) ⟨rfl,WM,u1,u2,⟨by omega,nu⟩,⟨fun m h=>hmy.out m (Xp dm.out.rpo dm.out.rl wx wy py hg h)⟩⟩
 refine go ?_;have key:∀ (C D X Y:Int),C≠D->0<=X->X<=C->0<=Y->Y<=D->X<=D->Y<=X->X.toNat+Y.toNat<C.toNat+D.toNat:=by intros;omega
 exact zA (x,y) (key _ _ _ _ hne hx.2 hx.1 hy.2 hy.1 hf hg) ⟨rfl,WM,WM,wx,wy,px,py,hmy⟩
def Bq(nx:Int->List Int)(e:List Int)(S:Int->Prop):Prop:=∀ e1 u e2,e=e1++u::e2->S u\/∃ a∈e2,u∈nx a
theorem Bq.nil{nx:Int->List Int}{S:Int->Prop}:Bq nx [] S:=fun e1 u e2 h=>by cases e1<;>cases h
theorem Bq.append{nx:Int->List Int}{e f:List Int}{S:Int->Prop}(h:Bq nx e S)(k:Bq nx f S):Bq nx (e++f) S:=by
 intro e1 u e2 he;rcases List.append_eq_append_iff.1 he with⟨a,h1,h2⟩|⟨a,h1,h2⟩
 ·exact k a u e2 h2
 ·cases a with
  |nil=>exact k [] u e2 (by simpa using h2.symm)
  |cons x a=>
   simp only[List.cons_append,JB]at h2;obtain⟨rfl,rfl⟩:=h2;rcases h e1 u a h1 with h|⟨b,hb,hu⟩
   ·exact .inl h
   ·exact .inr ⟨b,by simp[hb],hu⟩
theorem zPG{nx:Int->List Int}:∀ (n:Nat) (b:Int) (s:DS),∃ e,(ZE nx n b s).2=s.2++e/\Bq nx e (fun u=>u=b):=by
 intro n;induction n with
 |zero=>intro b s;exact⟨[],by simp[ZE],Bq.nil⟩
 |succ n ih=>
  intro b s;by_cases hbb:(s.1.lookup b).isSome
  ·rw[zBN hbb];exact⟨[],by simp,Bq.nil⟩
  ·have go:∀ (l:List Int) (t:DS),(∀ c∈l,c∈nx b)->∃ e,(l.foldl (fun(t:DS) (c:Int)=>ZE nx n c t) t).2=t.2++e/\Bq nx e (fun u=>u∈nx b):=by
    intro l;induction l with
    |nil=>intro t _;exact⟨[],by simp,Bq.nil⟩
    |cons x l ihl=>
     intro t hl;obtain⟨e,h1,h2⟩:=ih x t;obtain⟨f,h3,h4⟩:=ihl (ZE nx n x t) (fun c hc=>hl c (by simp[hc]));refine⟨e++f,by rw[List.foldl_cons,h3,h1,Q3],Bq.append (fun e1 u e2 he=> ?_) h4⟩;rcases h2 e1 u e2 he with h|h
     ·rw[h];exact .inl (hl x (by simp))
     ·exact .inr h
   obtain⟨e,h1,h2⟩:=go (nx b) (s.1++[(b,(s.1.length:Int))],s.2) (fun c hc=>hc);refine⟨e++[b],?_,fun e1 u e2 he=> ?_⟩
   ·conv=>lhs;unfold ZE
    rw[QC hbb];simp only;rw[h1,Q3]
   ·rcases List.eq_nil_or_concat e2 with rfl|⟨e3,x,rfl⟩
    ·obtain⟨_,h5⟩:=List.append_inj' (s₁:=e) (t₁:=[b]) (s₂:=e1) (t₂:=[u]) he rfl;cases h5;exact .inl rfl
    ·have he':e++[b]=(e1++u::e3)++[x]:=by rw[he];simp
     obtain⟨h5,h6⟩:=List.append_inj' he' rfl;cases h6;rcases h2 e1 u e3 h5 with h|⟨a,ha,hu⟩
     ·exact .inr ⟨b,by simp,h⟩
     ·exact .inr ⟨a,by simp[ha],hu⟩
theorem zE4{T:List WJ}{F:List Wj}{f:Int}(h:(zF T F f 0).2=0):∀ i,i<(zb T F f).1.length->(zb T F f).1.getD i 0≠0->∃ j,j<i/\(zb T F f).1.getD i 0∈W0 (zF T F f 0).1 ((zb T F f).1.getD j 0):=by
 intro i hi hne;have eO:(zb T F f).1=(Yr T F f).reverse:=by unfold zb;rw[QC (by rw[h];exact fun e=>e rfl)]
 obtain⟨e,h1,h2⟩:=zPG (nx:=W0 (zF T F f 0).1) (zF T F f 0).1.length 0 ([],[]);have eP:Yr T F f=e:=by
  have:Yr T F f=(ZE (W0 (zF T F f 0).1) (zF T F f 0).1.length 0 ([],[])).2:=rfl;rw[this,h1];rfl
 rw[eO,eP]at hi hne |-;rw[List.length_reverse]at hi;have ei:∀ k,k<e.length->e.reverse.getD k 0=e.getD (e.length-1-k) 0:=fun k hk=>by
  rw[QL,List.getElem?_reverse hk,QL]
 have hi2:e.length-1-i<e.length:=by omega
 have hsplit:e=e.take (e.length-1-i)++e.getD (e.length-1-i) 0::e.drop (e.length-1-i+1):=by
  conv=>lhs;rw[<-GG (e.length-1-i) e,GK hi2]
  simp[List.getD,QB hi2]
 rw[ei i hi]at hne |-;rcases h2 _ _ _ hsplit with h3|⟨a,ha,hu⟩
 ·exact absurd h3 hne
 ·obtain⟨m,hm,hma⟩:=JI.1 ha;rw[Gk]at hm;rw[List.getElem_drop]at hma;refine⟨e.length-1-(e.length-1-i+1+m),by omega,?_⟩;rw[ei _ (by omega)];have:e.getD (e.length-1-(e.length-1-(e.length-1-i+1+m))) 0=a:=by
   rw[show e.length-1-(e.length-1-(e.length-1-i+1+m))=e.length-1-i+1+m by omega,<-hma];simp[List.getD,QB (show e.length-1-i+1+m<e.length by omega)]
  rw[this];exact hu
theorem zO6{T:List WJ}{n:Int}{f:Wj}(h:Bs T n f=true):zI4 f.blocks:=by
 refine⟨(zKP h).1,fun k hk=> ?_⟩;unfold Bs at h;split at h
 ·cases h
 ·rw[Gp,Gy]at h;have hmem:=zL (l:=f.blocks) (i:=k) hk;have hblk:=h _ hmem;unfold zCP at hblk;simp only[GM,not_or,JG,Bool.not_eq_false']at hblk;have he:zAs (f.blocks.getD k default).fin (szL T n f)=true:=by simpa using hblk.2
  unfold zAs za szL at he;split at he
  ·rename_i hk1;simp only[QJ,QY]at he;refine⟨.inl hk1,fun _=>by omega,fun h2=>by omega⟩
  ·rename_i hk1;split at he
   ·rename_i hk2;simp only[QJ,QY]at he;exact⟨.inr (.inl hk2),fun _=>by omega,fun _=>by omega⟩
   ·rename_i hk2;split at he
    ·rename_i hk3;exact⟨.inr (.inr hk3),fun h=>by omega,fun h=>by omega⟩
    ·cases he
theorem zHO{T:List WJ}{F:List Wj}{f b:Int}(h:(zF T F f b).2=0):zI4 (zF T F f b).1:=by
 obtain⟨_,_,h3,h4⟩:=ZQ h;have hin:=zBE h4;rw[h3];exact zO6 ((Z3 hin.2.2).2.2.2 _ (zL (l:=F) (i:=f.toNat) (by omega)))
theorem zLn{T:List WJ}{F:List Wj}{f:Int}(h:(zF T F f 0).2=0){pos:Int->Int}(hp:∀ i,i<(zb T F f).1.length->pos ((zb T F f).1.getD i 0)=i):Rpo (W0 (zF T F f 0).1) pos:=by
 obtain⟨law1,law2,⟨l,law3⟩,law4,law5,law6,law7⟩:=zBI h;have hpar:=zE4 h;have hmem:∀ b,Wr (W0 (zF T F f 0).1) 0 b->∃ i,i<(zb T F f).1.length/\(zb T F f).1.getD i 0=b:=fun b w=>zAt (law4 b ((Yj h).2 w));have hw:∀ i,i<(zb T F f).1.length->Wr (W0 (zF T F f 0).1) 0 ((zb T F f).1.getD i 0):=fun i=>by
  induction i using Nat.strongRecOn with
  |_ i ih=>
   intro hi;by_cases e:(zb T F f).1.getD i 0=0
   ·rw[e];exact .here
   ·obtain⟨j,hj,hm⟩:=hpar i hi e;exact .step (ih j hj (by omega)) hm
 refine⟨?_,fun b w=> ?_,fun a b wa wb e=> ?_,fun b w hb=> ?_⟩
 ·have:=hp 0 (by rw[law3];simp);rw[show(zb T F f).1.getD 0 0=0 by rw[law3];rfl]at this;exact this
 ·obtain⟨i,hi,rfl⟩:=hmem b w;rw[hp i hi];omega
 ·obtain⟨i,hi,rfl⟩:=hmem a wa;obtain⟨j,hj,rfl⟩:=hmem b wb;rw[hp i hi,hp j hj]at e;have:i=j:=by omega
  rw[this]
 ·obtain⟨i,hi,rfl⟩:=hmem b w;obtain⟨j,hj,hm⟩:=hpar i hi hb;exact⟨_,hw j (by omega),hm,by rw[hp i hi,hp j (by omega)];omega⟩
theorem zCz{T:List WJ}{F:List Wj}{f:Int}(h:(zF T F f 0).2=0):(zb T F f).1.Nodup:=by
 obtain⟨_,hpos,_,_⟩:=ZQ h;obtain⟨hlen,hin⟩:=Zd h;obtain⟨nd,_,_⟩:=zHa hin (a:=0) ⟨Qh _,hpos⟩;unfold zb;rw[QC (by rw[h];exact fun e=>e rfl)];simp only;exact(List.reverse_perm _).nodup_iff.2 nd
theorem Yn{l:List Int}(h:l.Nodup){i j:Nat}(hi:i<l.length)(hj:j<l.length)(e:l.getD i 0=l.getD j 0):i=j:=by
 simp only[List.getD,QB hi,QB hj,Q1]at e;exact(List.getElem_inj h).1 e
theorem ZF{xs:List Int}{i:Nat}{v:Int}{k:Nat}(hi:i<xs.length):(xs.set i v).getD k 0=if k=i then v else xs.getD k 0:=zBF hi
structure Rnd(nx:Int->List Int)(qs xs:List Int)(k:Nat):Prop where
 dm:Dm nx xs
 qs:xs.drop 16=qs
 far:∀ c,Far nx (fun b=>pO xs b) k c
 un:∀ c,0<=c->c<16->¬Wr nx 0 c->pO xs c= -1
 all:1<=k->∀ c,Wr nx 0 c->pO xs c≠ -1
structure Md(nx:Int->List Int)(O qs xs0 xs:List Int)(k m:Nat):Prop where
 dm:Dm nx xs
 qs:xs.drop 16=qs
 far:∀ c,Far nx (fun b=>pO xs b) k c
 un:∀ c,0<=c->c<16->¬Wr nx 0 c->pO xs c= -1
 pre:∀ i,i<m->Far nx (fun b=>pO xs b) (k+1) (O.getD i 0)/\pO xs (O.getD i 0)≠ -1
 same:∀ j:Nat,j<16->(∀ i,i<m->i≠0->O.getD i 0≠(j:Int))->xs.getD j 0=xs0.getD j 0
 fix:xs=xs0->∀ i,i<m->i≠0->∀ a,Wr nx 0 a->O.getD i 0∈nx a->pO xs a≠ -1->Be (fun b=>pO xs b) (pO xs (O.getD i 0)) a
theorem zH9{nx:Int->List Int}{p:Int->Int}{k:Nat}(h:p 0=0):Far nx p k 0:=fun x hx=>
 ⟨by rw[h];decide,fun ha=>hx.ne (Be.zero ha).symm⟩
theorem zPg{xs:List Int}{b v:Int}(hl:xs.length=32)(hb:0<b/\b<16):(fun c=>pO (xs.set b.toNat v) c)=upd (fun c=>pO xs c) b v:=by
 funext c;unfold upd;show(xs.set b.toNat v).getD c.toNat 0=_;rw[ZF (by omega)];by_cases e:c=b
 ·rw[QG (by rw[e]),QG e]
 ·rw[QC (by omega),QC e]
theorem zP9{xs:List Int}{b v:Int}(hl:xs.length=32)(hb:0<b/\b<16):(fun c=>qO (xs.set b.toNat v) c)=fun c=>qO xs c:=by
 funext c;show(xs.set b.toNat v).getD (16+c.toNat) 0=_;rw[ZF (by omega),QC (by omega)]
theorem zNC{xs:List Int}{b v:Int}(hb:0<b/\b<16):(xs.set b.toNat v).drop 16=xs.drop 16:=by
 rw[List.drop_set,QG (by omega)]
theorem Xx{nx:Int->List Int}{O qs xs:List Int}{k:Nat}(r:Rnd nx qs xs k)(h0:O.getD 0 0=0):Md nx O qs xs xs k 1 where
 dm:=r.dm
 qs:=r.qs
 far:=r.far
 un:=r.un
 pre:=fun i hi=>by
  have:i=0:=by omega
  subst this;rw[h0];have hz:=r.dm.rl.zero;exact⟨zH9 hz,by show pO xs 0≠ -1;have hz':pO xs 0=0:=hz;rw[hz'];decide⟩
 same:=fun j _ _=>rfl
 fix:=fun _ i hi hi0=>by omega
theorem Md.step{nx:Int->List Int}{O qs xs0 xs:List Int}{k m:Nat}{v:Int}(g:Md nx O qs xs0 xs k m)(hnd:O.Nodup)(hm:m<O.length)(hm0:0<m)(hb0:O.getD m 0≠0)(hw:Wr nx 0 (O.getD m 0))(bt:Best nx (fun b=>qO xs b) (fun b=>pO xs b) (O.getD m 0) v)(hl0:xs0.length=32):Md nx O qs xs0 (xs.set (O.getD m 0).toNat v) k (m+1):=by
 have hl:=g.dm.len;have hbb:=g.dm.bnd _ hw;have hb:0<O.getD m 0/\O.getD m 0<16:=by omega
 have hv:v≠ -1:=fun e=>by have:=g.dm.bnd _ bt.way;omega
 have ep:=zPg (v:=v) hl hb;have eq:=zP9 (v:=v) hl hb;have hrl:=zPs g.dm.rl hb0 hw bt hv;have hother:∀ i,i<m->O.getD i 0≠O.getD m 0:=fun i hi e=>by have:=Yn hnd (by omega) hm e;omega
 refine⟨⟨by rw[GL];exact hl,by rw[eq];exact g.dm.rpo,by rw[eq,ep];exact hrl,g.dm.bnd⟩,by rw[zNC hb];exact g.qs,by rw[ep];exact zNP g.dm.rl hb0 hw bt hv g.far,fun c h1 h2 h3=> ?_,fun i hi=> ?_,fun j hj hn=> ?_,fun he i hi hi0 a wa ha pa=> ?_⟩
 ·have:pO (xs.set (O.getD m 0).toNat v) c=upd (fun c=>pO xs c) (O.getD m 0) v c:=congrFun ep c;rw[this];unfold upd;rw[QC (fun e=>h3 (by rw[e];exact hw))];exact g.un c h1 h2 h3
 ·have hp:pO (xs.set (O.getD m 0).toNat v) (O.getD i 0)=upd (fun c=>pO xs c) (O.getD m 0) v (O.getD i 0):=congrFun ep _;rw[hp,ep];by_cases e:i=m
  ·subst e;exact⟨zBt g.dm.rl hb0 hw bt hv g.far,by unfold upd;rw[QG rfl];exact hv⟩
  ·obtain⟨f1,f2⟩:=g.pre i (by omega);exact⟨zOc g.dm.rl hb0 hw bt hv g.far f1,by unfold upd;rw[QC (hother i (by omega))];exact f2⟩
 ·rw[ZF (by omega),QC (fun e=>hn m (by omega) (by omega) (by omega))];exact g.same j hj fun i hi hi0=>hn i (by omega) hi0
 ·have hs:=g.same (O.getD m 0).toNat (by omega) (fun i hi _ e=>hother i hi (by omega));have hvs:v=xs.getD (O.getD m 0).toNat 0:=by
   rw[hs,<-he,ZF (by omega),QG rfl]
  have hxx:xs.set (O.getD m 0).toNat v=xs:=by
   refine zCJ (by simp) fun j hj=> ?_;rw[ZF (by omega)];by_cases e:j=(O.getD m 0).toNat
   ·rw[QG e,e];exact hvs
   ·rw[QC e]
  rw[hxx]at he pa |-;by_cases e:i=m
  ·subst e;have hpv:pO xs (O.getD i 0)=v:=hvs.symm;rw[hpv];exact bt.anc a wa ha pa
  ·exact g.fix he i (by omega) hi0 a wa ha pa
theorem Md.done{nx:Int->List Int}{O qs xs0 xs:List Int}{k:Nat}(g:Md nx O qs xs0 xs k O.length)(hmem:∀ c,Wr nx 0 c->∃ i,i<O.length/\O.getD i 0=c):Rnd nx qs xs (k+1) where
 dm:=g.dm
 qs:=g.qs
 far:=fun c x hx=>by
  obtain⟨i,hi,rfl⟩:=hmem c hx.way;exact(g.pre i hi).1 x hx
 un:=g.un
 all:=fun _ c w=>by
  obtain⟨i,hi,rfl⟩:=hmem c w;exact(g.pre i hi).2
theorem zJa{nx:Int->List Int}{O qs xs0 xs:List Int}{k K N:Nat}(r:Rnd nx qs xs0 k)(g:Md nx O qs xs0 xs k O.length)(hmem:∀ c,Wr nx 0 c->∃ i,i<O.length/\O.getD i 0=c)(h0:O.getD 0 0=0)(hN:∀ c,Wr nx 0 c->0<=c/\c<(N:Int))(hK:∀ x b,0<=x/\x<(N:Int)->Av nx x b->Bp nx x K b)(hk:K<=k)(hk1:1<=k)(hl0:xs0.length=32)(hnd:O.Nodup)(hre:∀ i,i<O.length->Wr nx 0 (O.getD i 0)):xs=xs0:=by
 have hl:=g.dm.len;have av:∀ (p:Int->Int),(∀ c,Far nx p k c)->Rl nx (fun b=>qO xs b) p->∀ x c,Av nx x c->¬Be p x c:=fun p hf hr x c hav ha=>by
  obtain⟨j,hj⟩:=hav;have wx:=(hr.le ha hj.way).1;exact(hf c x ((hK x c (hN x wx) ⟨j,hj⟩).mono hk)).2 ha
 have hq:(fun b=>qO xs0 b)=fun b=>qO xs b:=by
  funext b;have h1:∀ (l:List Int),qO l b=(l.drop 16).getD b.toNat 0:=fun l=>by simp[List.getD]
  rw[h1,h1,r.qs,g.qs]
 have hr0:Rl nx (fun b=>qO xs b) (fun b=>pO xs0 b):=by rw[<-hq];exact r.dm.rl
 have rd:=g.done hmem;refine zCJ (by omega) fun j hj=> ?_;by_cases h16:j<16
 ·by_cases hw:Wr nx 0 (j:Int)
  ·by_cases hj0:j=0
   ·exact g.same j h16 fun i hi hi0 e=>hi0 (Yn hnd hi (by omega) (by rw[h0,e,hj0];rfl))
   ·have:=zI8 g.dm.rpo g.dm.rl hr0 (av _ g.far g.dm.rl) (av _ r.far hr0) hw (by omega) (rd.all (by omega) _ hw) (r.all hk1 _ hw);simpa [pO]using this
  ·exact g.same j h16 fun i hi hi0 e=>hw (by rw[<-e];exact hre i hi)
 ·have h1:=congrArg (fun l=>l.getD (j-16) 0) (g.qs.trans r.qs.symm);simp only[QL,Q8]at h1 |-;rw[show 16+(j-16)=j by omega]at h1;exact h1
def Bst(nx:Int->List Int)(xs:List Int)(b:Int)(A:List Int)(j:Nat)(v:Int):Prop:=
 (v= -1/\∀ i,i<j->pO xs (A.getD i 0)= -1)\/
 (v≠ -1/\Wr nx 0 v/\pO xs v≠ -1/\(∀ i,i<j->pO xs (A.getD i 0)≠ -1->Be (fun b=>pO xs b) v (A.getD i 0))/\∀ y,BM nx y b->y≠b->BM nx y v)
theorem Bst.skip{nx:Int->List Int}{xs:List Int}{b v:Int}{A:List Int}{j:Nat}(h:Bst nx xs b A j v)(hp:pO xs (A.getD j 0)= -1):Bst nx xs b A (j+1) v:=by
 rcases h with⟨h1,h2⟩|⟨h0,h1,h2,h3,h4⟩
 ·refine .inl ⟨h1,fun i hi=> ?_⟩;by_cases e:i=j
  ·rw[e];exact hp
  ·exact h2 i (by omega)
 ·refine .inr ⟨h0,h1,h2,fun i hi hn=> ?_,h4⟩;by_cases e:i=j
  ·rw[e]at hn;exact absurd hp hn
  ·exact h3 i (by omega) hn
theorem Bst.first{nx:Int->List Int}{xs:List Int}{b:Int}{A:List Int}{j:Nat}(h:Bst nx xs b A j (-1))(hw:Wr nx 0 (A.getD j 0))(hn0:A.getD j 0≠ -1)(hb:b∈nx (A.getD j 0))(hp:pO xs (A.getD j 0)≠ -1):Bst nx xs b A (j+1) (A.getD j 0):=by
 rcases h with⟨_,h2⟩|⟨h0,_⟩
 ·refine .inr ⟨hn0,hw,hp,fun i hi hn=> ?_,fun y hy hyb=>hy.pred hyb hb⟩;by_cases e:i=j
  ·rw[e];exact .here
  ·exact absurd (h2 i (by omega)) hn
 ·exact absurd rfl h0
theorem Bst.meet{nx:Int->List Int}{xs:List Int}{b v m:Int}{A:List Int}{j:Nat}(h:Bst nx xs b A j v)(hv:v≠ -1)(hm0:m≠ -1)(hb:b∈nx (A.getD j 0))(hm:Mt nx (fun b=>qO xs b) (fun b=>pO xs b) v (A.getD j 0) m):Bst nx xs b A (j+1) m:=by
 rcases h with⟨h1,_⟩|⟨h0,h1,h2,h3,h4⟩
 ·exact absurd h1 hv
 ·refine .inr ⟨hm0,hm.way,hm.done,fun i hi hn=> ?_,fun y hy hyb=>hm.dom y (h4 y hy hyb) (hy.pred hyb hb)⟩;by_cases e:i=j
  ·rw[e];exact hm.right
  ·exact hm.left.trans (h3 i (by omega) hn)
theorem Bst.best{nx:Int->List Int}{xs:List Int}{b v:Int}{A:List Int}(dm:Dm nx xs)(h:Bst nx xs b A A.length v)(hA:∀ a,Wr nx 0 a->b∈nx a->∃ i,i<A.length/\A.getD i 0=a){a:Int}(wa:Wr nx 0 a)(ha:b∈nx a)(pa:pO xs a≠ -1)(hlt:qO xs a<qO xs b):Best nx (fun b=>qO xs b) (fun b=>pO xs b) b v:=by
 obtain⟨i,hi,e⟩:=hA a wa ha;rcases h with⟨h1,h2⟩|⟨h0,h1,h2,h3,h4⟩
 ·exact absurd (by rw[<-e];exact h2 i hi) pa
 ·refine⟨h1,h2,?_,fun c wc hc pc=> ?_,h4⟩
  ·have:=(dm.rl.le (by have:=h3 i hi (by rw[e];exact pa);rw[e]at this;exact this) wa).2.1;have h5:qO xs v<=qO xs a:=this;show qO xs v<qO xs b;omega
  ·obtain⟨i,hi,e⟩:=hA c wc hc;have:=h3 i hi (by rw[e];exact pc);rw[e]at this;exact this
structure Rul(nx:Int->List Int)(xs:List Int):Prop where
 dm:Dm nx xs
 all:∀ b,Wr nx 0 b->pO xs b≠ -1
 dom:∀ y b,Wr nx 0 b->(Be (fun b=>pO xs b) y b↔BM nx y b)
 lt:∀ b,Wr nx 0 b->qO xs b<16
 un:∀ c,0<=c->c<16->¬Wr nx 0 c->pO xs c= -1
theorem zPn{nx:Int->List Int}{O qs xs:List Int}{k:Nat}(g:Md nx O qs xs xs k O.length)(hmem:∀ c,Wr nx 0 c->∃ i,i<O.length/\O.getD i 0=c)(h0:O.getD 0 0=0)(hq:∀ b,Wr nx 0 b->qO xs b<16):Rul nx xs:=by
 have rd:=g.done hmem;have hall:=rd.all (by omega);refine⟨g.dm,hall,fun y b w=>⟨fun ha hav=> ?_,fun hd=>Vu g.dm.rpo g.dm.rl (qO xs b).toNat b y (by have h5:=g.dm.rpo.nn b w;have h5:0<=qO xs b:=h5;show qO xs b<=_;omega) w (hall b w) hd⟩,hq,g.un⟩;obtain⟨n,hav⟩:=hav;induction hav with
 |here h=>exact h (Be.zero ha).symm
 |step h1 hc hne ih=>
  rename_i n a c;cases ha with
  |here=>exact hne rfl
  |up hb hp hu=>
   obtain⟨i,hi,e⟩:=hmem c w;have hi0:i≠0:=fun e2=>hb (by rw[<-e,e2,h0]);have:=g.fix rfl i hi hi0 a h1.way (by rw[e];exact hc) (hall a h1.way);rw[e]at this;exact ih h1.way (hu.trans this)
theorem zNN{h0 h:WF}{v:Value}{l:List Int}(o:Wb h0 h v l)(hl:0<l.length):∃ r,yU 1 v (some 1) none none=some r/\Wd h r (l.drop 1):=by
 rcases o with⟨rfl,rfl⟩|⟨g,g1,g2,rfl,g3⟩
 ·simp at hl
 ·refine⟨.slice (some ⟨g,1,none⟩) (l.length-1) 1,?_,?_⟩
  ·have h1:Nat.ble 1 l.length=true:=QF hl;have h2:Nat.ble l.length l.length=true:=QF (QE _);simp[yU,h1,h2]
  ·exact⟨by simp,.inr ⟨g,1,l.map I,by simp,ZO g3,by rw[yt (by simp;omega),List.map_drop,Qo (by simp)],g2⟩⟩
theorem zMJ{h0 h h':WF}{p q:Value}{cells:List Value}(o:WH h0 h q cells)(u:Ws p h h')(hne:p≠q):WH h0 h' q cells:=by
 obtain⟨g,g1,g2,rfl,g3⟩:=o;exact⟨g,g1,QK g2 u.1,rfl,(u.2 g g2 hne).trans g3⟩
theorem zJr(l:List Int)(b:Int):qO l b=(l.drop 16).getD b.toNat 0:=by simp[qO,List.getD]
theorem zLQ{xs ys:List Int}(hx:xs.take 16=ys.take 16)(hy:xs.drop 16=ys.drop 16):xs=ys:=by
 rw[<-GG 16 xs,hx,hy,GG]
theorem zMQ{L:List Wl}{b:Int}{A:List Int}(hA:zV L b L.length=A){j:Nat}(hj:j<A.length):(0<=A.getD j 0/\A.getD j 0<(L.length:Int))/\b∈W0 L (A.getD j 0):=by
 refine zDG.1 ?_;rw[hA,QL,QB hj];exact List.getElem_mem hj
end Go.Proofs.YtmilpkdhbdgjfaaGreatDoor
