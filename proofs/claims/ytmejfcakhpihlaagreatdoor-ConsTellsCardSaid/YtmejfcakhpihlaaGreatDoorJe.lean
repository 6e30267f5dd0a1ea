/- Walks of functions, plain laws; proves no statement. -/
import Derived.Test.YtmejfcakhpihlaaGreatDoorJd
import Derived.Test.YtmejfcakhpihlaaGreatDoorAmV
set_option linter.all false
set_option maxHeartbeats 1000000
namespace Go.Proofs.YtmejfcakhpihlaaGreatDoor
open Go.Am
inductive Bo(nx:Int->List Int)(x:Int):Nat->Int->Prop
 |here {k:Nat}:(0:Int)≠x->Bo nx x k 0
 |step {k:Nat} {b c:Int}:Bo nx x k b->c∈nx b->c≠x->Bo nx x (k+1) c
def Av(nx:Int->List Int)(x b:Int):Prop:=∃ k,Bo nx x k b
theorem Bo.mono{nx:Int->List Int}{x b:Int}{k m:Nat}(h:Bo nx x k b)(hm:k<=m):Bo nx x m b:=by
 induction h generalizing m with
 |here h=>exact .here h
 |step _ hc aq ih=>
  obtain⟨j,rfl⟩:∃ j,m=j+1:=⟨m-1,by omega⟩;exact .step (ih (by omega)) hc aq
theorem Bo.ne{nx:Int->List Int}{x b:Int}{k:Nat}(h:Bo nx x k b):b≠x:=by
 cases h with
 |here h=>exact h
 |step _ _ h=>exact h
theorem Bo.way{nx:Int->List Int}{x b:Int}{k:Nat}(h:Bo nx x k b):Wl nx 0 b:=by
 induction h with
 |here=>exact .here
 |step _ hc _ ih=>exact .step ih hc
theorem Bo.split{nx:Int->List Int}{x b c:Int}{k:Nat}(hb:(0:Int)≠b)(h:Bo nx x k c):Bo nx b k c\/Bo nx x k b:=by
 induction h with
 |here=>exact .inl (.here hb)
 |step h1 hc aq ih=>
  rename_i k d e;rcases ih with h|h
  ·by_cases he:e=b
   ·subst he;exact .inr (.step h1 hc aq)
   ·exact .inl (.step h hc he)
  ·exact .inr (h.mono (Qr _))
theorem Bo.split'{nx:Int->List Int}{x b c:Int}{k:Nat}(hb:(0:Int)≠b)(tl:c≠b)(h:Bo nx x (k+1) c):Bo nx b (k+1) c\/Bo nx x k b:=by
 cases h with
 |here=>exact .inl (.here hb)
 |step h1 hc aq=>
  rcases h1.split hb with h|h
  ·exact .inl (.step h hc tl)
  ·exact .inr h
def BH(nx:Int->List Int)(y b:Int):Prop:=¬Av nx y b
theorem BH.self(nx:Int->List Int)(b:Int):BH nx b b:=fun⟨_,h⟩=>h.ne rfl
theorem BH.pred{nx:Int->List Int}{y a b:Int}(h:BH nx y b)(hy:y≠b)(hb:b∈nx a):BH nx y a:=fun⟨k,w⟩=>h ⟨k+1,.step w hb (Ne.symm hy)⟩
structure Rpo(nx:Int->List Int)(pos:Int->Int):Prop where
 zero:pos 0=0
 nn:∀ b,Wl nx 0 b->0<=pos b
 inj:∀ a b,Wl nx 0 a->Wl nx 0 b->pos a=pos b->a=b
 par:∀ b,Wl nx 0 b->b≠0->∃ a,Wl nx 0 a/\b∈nx a/\pos a<pos b
theorem Rpo.dom{nx:Int->List Int}{pos:Int->Int}(r:Rpo nx pos):∀ (n:Nat) (b y:Int),pos b<=n->Wl nx 0 b->BH nx y b->pos y<=pos b:=by
 intro n;induction n with
 |zero=>
  intro b y hn w d;have hb:b=0:=r.inj b 0 w .here (by have:=r.nn b w;rw[r.zero];omega);subst hb;by_cases e:(0:Int)=y
  ·rw[<-e];exact Ql _
  ·exact absurd ⟨0,.here e⟩ d
 |succ n ih=>
  intro b y hn w d;by_cases e:y=b
  ·rw[e];exact Ql _
  ·by_cases hb:b=0
   ·subst hb;exact absurd ⟨0,.here (Ne.symm e)⟩ d
   ·obtain⟨a,wa,du,hp⟩:=r.par b w hb;have:=ih a y (by omega) wa (d.pred e du);omega
theorem Rpo.dom_le{nx:Int->List Int}{pos:Int->Int}(r:Rpo nx pos){b y:Int}(w:Wl nx 0 b)(d:BH nx y b):pos y<=pos b:=r.dom (pos b).toNat b y (by have:=r.nn b w;omega) w d
inductive Bj(p:Int->Int)(y:Int):Int->Prop
 |here:Bj p y y
 |up {b:Int}:b≠0->p b≠ -1->Bj p y (p b)->Bj p y b
theorem Bj.trans{p:Int->Int}{x y b:Int}(h:Bj p x y)(k:Bj p y b):Bj p x b:=by
 induction k with
 |here=>exact h
 |up h1 h2 _ ih=>exact .up h1 h2 ih
theorem Bj.zero{p:Int->Int}{x:Int}(h:Bj p x 0):x=0:=by
 cases h with
 |here=>rfl
 |up h _ _=>exact absurd rfl h
structure Rl(nx:Int->List Int)(pos p:Int->Int):Prop where
 zero:p 0=0
 up:∀ b,Wl nx 0 b->b≠0->p b≠ -1->Wl nx 0 (p b)/\p (p b)≠ -1/\pos (p b)<pos b
 sound:∀ b,Wl nx 0 b->b≠0->p b≠ -1->∀ y,BH nx y b->y≠b->BH nx y (p b)
theorem Rl.le{nx:Int->List Int}{pos p:Int->Int}(g:Rl nx pos p){x b:Int}(h:Bj p x b)(w:Wl nx 0 b):Wl nx 0 x/\pos x<=pos b/\(p b≠ -1->p x≠ -1):=by
 induction h with
 |here=>exact⟨w,Ql _,id⟩
 |up h1 h2 _ ih=>
  obtain⟨u1,u2,u3⟩:=g.up _ w h1 h2;obtain⟨i1,i2,i3⟩:=ih u1;exact⟨i1,by omega,fun _=>i3 u2⟩
theorem Vx{nx:Int->List Int}{pos p:Int->Int}(r:Rpo nx pos)(g:Rl nx pos p):∀ (n:Nat) (b y:Int),pos b<=n->Wl nx 0 b->p b≠ -1->BH nx y b->Bj p y b:=by
 intro n;induction n with
 |zero=>
  intro b y hn w hp d;have hb:b=0:=r.inj b 0 w .here (by have:=r.nn b w;rw[r.zero];omega);subst hb;by_cases e:(0:Int)=y
  ·rw[<-e];exact .here
  ·exact absurd ⟨0,.here e⟩ d
 |succ n ih=>
  intro b y hn w hp d;by_cases e:y=b
  ·rw[e];exact .here
  ·by_cases hb:b=0
   ·subst hb;exact absurd ⟨0,.here (Ne.symm e)⟩ d
   ·obtain⟨u1,u2,u3⟩:=g.up b w hb hp;exact .up hb hp (ih (p b) y (by omega) u1 u2 (g.sound b w hb hp y d e))
structure Mt(nx:Int->List Int)(pos p:Int->Int)(a b m:Int):Prop where
 way:Wl nx 0 m
 done:p m≠ -1
 left:Bj p m a
 right:Bj p m b
 dom:∀ y,BH nx y a->BH nx y b->BH nx y m
theorem Mt.same{nx:Int->List Int}{pos p:Int->Int}{a:Int}(w:Wl nx 0 a)(h:p a≠ -1):Mt nx pos p a a a:=⟨w,h,.here,.here,fun _ h _=>h⟩
theorem Xt{nx:Int->List Int}{pos p:Int->Int}{a b m:Int}(r:Rpo nx pos)(g:Rl nx pos p)(w:Wl nx 0 a)(wb:Wl nx 0 b)(h:p a≠ -1)(aL:pos b<pos a)(k:Mt nx pos p (p a) b m):Mt nx pos p a b m:=by
 have ha:a≠0:=fun e=>by subst e;have:=r.nn b wb;rw[r.zero]at aL;omega
 refine⟨k.way,k.done,.up ha h k.left,k.right,fun y da db=> ?_⟩;have hy:y≠a:=fun e=>by subst e;have:=r.dom_le wb db;omega
 exact k.dom y (g.sound a w ha h y da hy) db
theorem Xq{nx:Int->List Int}{pos p:Int->Int}{a b m:Int}(r:Rpo nx pos)(g:Rl nx pos p)(w:Wl nx 0 a)(wb:Wl nx 0 b)(h:p b≠ -1)(aL:pos a<pos b)(k:Mt nx pos p a (p b) m):Mt nx pos p a b m:=by
 have hb:b≠0:=fun e=>by subst e;have:=r.nn a w;rw[r.zero]at aL;omega
 refine⟨k.way,k.done,k.left,.up hb h k.right,fun y da db=> ?_⟩;have hy:y≠b:=fun e=>by subst e;have:=r.dom_le w da;omega
 exact k.dom y da (g.sound b wb hb h y db hy)
def upd(p:Int->Int)(b v:Int):Int->Int:=fun c=>if c=b then v else p c
structure Best(nx:Int->List Int)(pos p:Int->Int)(b m:Int):Prop where
 way:Wl nx 0 m
 done:p m≠ -1
 lt:pos m<pos b
 anc:∀ a,Wl nx 0 a->b∈nx a->p a≠ -1->Bj p m a
 dom:∀ y,BH nx y b->y≠b->BH nx y m
theorem zP9{nx:Int->List Int}{pos p:Int->Int}{b m:Int}(g:Rl nx pos p)(hb:b≠0)(wb:Wl nx 0 b)(k:Best nx pos p b m)(hm:m≠ -1):Rl nx pos (upd p b m):=by
 have hmb:m≠b:=fun e=>by have:=k.lt;rw[e]at this;omega
 have keep:∀ c,p c≠ -1->upd p b m c≠ -1:=fun c h=>by unfold upd;split<;>assumption
 refine⟨by unfold upd;rw[QC (Ne.symm hb)];exact g.zero,fun c w hc hp=> ?_,fun c w hc hp y d hy=> ?_⟩
 ·by_cases e:c=b
  ·subst e;have:upd p c m c=m:=by unfold upd;rw[QF rfl]
   rw[this];exact⟨k.way,keep m k.done,k.lt⟩
  ·have:upd p b m c=p c:=by unfold upd;rw[QC e]
   rw[this]at hp |-;obtain⟨u1,u2,u3⟩:=g.up c w hc hp;exact⟨u1,keep _ u2,u3⟩
 ·by_cases e:c=b
  ·subst e;have:upd p c m c=m:=by unfold upd;rw[QF rfl]
   rw[this];exact k.dom y d hy
  ·have:upd p b m c=p c:=by unfold upd;rw[QC e]
   rw[this]at hp |-;exact g.sound c w hc hp y d hy
theorem zGq{p:Int->Int}{b m x c:Int}(h:Bj (upd p b m) x c):Bj p x c\/(Bj (upd p b m) x b/\Bj p b c):=by
 induction h with
 |here=>exact .inl .here
 |up h1 h2 h3 ih=>
  rename_i c;by_cases e:c=b
  ·subst e;exact .inr ⟨.up h1 h2 h3,.here⟩
  ·have:upd p b m c=p c:=by unfold upd;rw[QC e]
   rw[this]at h2 ih;rcases ih with h|⟨h,k⟩
   ·exact .inl (.up h1 h2 h)
   ·exact .inr ⟨h,.up h1 h2 k⟩
theorem zPV{nx:Int->List Int}{pos p:Int->Int}{b m x c:Int}(g:Rl nx pos p)(wc:Wl nx 0 c)(aL:pos c<pos b)(h:Bj (upd p b m) x c):Bj p x c:=by
 rcases zGq h with h|⟨_,k⟩
 ·exact h
 ·have:=(g.le k wc).2.1;omega
def Far(nx:Int->List Int)(p:Int->Int)(k:Nat)(c:Int):Prop:=∀ x,Bo nx x k c->p c≠ -1/\¬Bj p x c
theorem zCx{nx:Int->List Int}{pos p:Int->Int}{b m:Int}{k:Nat}(g:Rl nx pos p)(hb:b≠0)(wb:Wl nx 0 b)(bt:Best nx pos p b m)(hm:m≠ -1)(hk:∀ c,Far nx p k c):Far nx (upd p b m) (k+1) b:=by
 intro x hx;have hp:upd p b m b=m:=by unfold upd;rw[QF rfl]
 refine⟨by rw[hp];exact hm,fun ha=> ?_⟩;cases hx with
 |here=>exact hb rfl
 |step h1 hc aq=>
  rename_i a;obtain⟨pa,na⟩:=hk a x h1;cases ha with
  |here=>exact aq rfl
  |up _ _ h3=>
   rw[hp]at h3;exact na ((zPV g bt.way bt.lt h3).trans (bt.anc a h1.way hc pa))
theorem zPH{nx:Int->List Int}{pos p:Int->Int}{b m c:Int}{k:Nat}(g:Rl nx pos p)(hb:b≠0)(wb:Wl nx 0 b)(bt:Best nx pos p b m)(hm:m≠ -1)(hk:∀ c,Far nx p k c)(hc:Far nx p (k+1) c):Far nx (upd p b m) (k+1) c:=by
 by_cases e:c=b
 ·subst e;exact zCx g hb wb bt hm hk
 ·intro x hx;obtain⟨pc,nc⟩:=hc x hx;refine⟨by unfold upd;rw[QC e];exact pc,fun ha=> ?_⟩;rcases zGq ha with h|⟨h,h2⟩
  ·exact nc h
  ·rcases hx.split' (Ne.symm hb) e with h3|h3
   ·exact(hc b h3).2 h2
   ·exact(zCx g hb wb bt hm hk x (h3.mono (Qr _))).2 h
theorem zOP{nx:Int->List Int}{pos p:Int->Int}{b m:Int}{k:Nat}(g:Rl nx pos p)(hb:b≠0)(wb:Wl nx 0 b)(bt:Best nx pos p b m)(hm:m≠ -1)(hk:∀ c,Far nx p k c):∀ c,Far nx (upd p b m) k c:=by
 intro c x hx;obtain⟨pc,nc⟩:=hk c x hx;have self:Bo nx x k b->¬Bj (upd p b m) x b:=fun h=>(zCx g hb wb bt hm hk x (h.mono (Qr _))).2;by_cases e:c=b
 ·subst e;exact⟨by unfold upd;rw[QF rfl];exact hm,self hx⟩
 ·refine⟨by unfold upd;rw[QC e];exact pc,fun ha=> ?_⟩;rcases zGq ha with h|⟨h,h2⟩
  ·exact nc h
  ·rcases hx.split (Ne.symm hb)with h3|h3
   ·exact(hk c b h3).2 h2
   ·exact self h3 h
theorem zJq{nx:Int->List Int}{pos p q:Int->Int}{b:Int}(r:Rpo nx pos)(gp:Rl nx pos p)(gq:Rl nx pos q)(hp:∀ x c,Av nx x c->¬Bj p x c)(hq:∀ x c,Av nx x c->¬Bj q x c)(wb:Wl nx 0 b)(hb:b≠0)(pb:p b≠ -1)(qb:q b≠ -1):p b=q b:=by
 obtain⟨u1,u2,u3⟩:=gp.up b wb hb pb;obtain⟨v1,v2,v3⟩:=gq.up b wb hb qb;have dp:BH nx (p b) b:=fun h=>hp _ _ h (.up hb pb .here);have dq:BH nx (q b) b:=fun h=>hq _ _ h (.up hb qb .here);have h1:=gp.sound b wb hb pb (q b) dq (fun e=>by rw[e]at v3;omega);have h2:=gq.sound b wb hb qb (p b) dp (fun e=>by rw[e]at u3;omega);have:=r.dom_le u1 h1;have:=r.dom_le v1 h2;exact r.inj _ _ u1 v1 (by omega)
theorem zG9{nx:Int->List Int}{N:Nat}(ah:∀ b,0<=b/\b<(N:Int)->∀ c∈nx b,0<=c/\c<(N:Int))(hN:0<N):∃ K,∀ x b,0<=x/\x<(N:Int)->Av nx x b->Bo nx x K b:=by
 have hb:∀ x b k,Bo nx x k b->0<=b/\b<(N:Int):=fun x b k h=>by
  induction h with
  |here=>omega
  |step _ hc _ ih=>exact ah _ ih _ hc
 have:∀ M:Nat,∃ K,∀ (i:Nat),i<M->Av nx ((i / N:Nat):Int) ((i % N:Nat):Int)->Bo nx ((i / N:Nat):Int) K ((i % N:Nat):Int):=by
  intro M;induction M with
  |zero=>exact⟨0,fun i h=>absurd h (Qk _)⟩
  |succ M ih=>
   obtain⟨K,hK⟩:=ih;by_cases h:Av nx ((M / N:Nat):Int) ((M % N:Nat):Int)
   ·obtain⟨k,hk⟩:=h;refine⟨max K k,fun i hi ha=> ?_⟩;by_cases e:i=M
    ·subst e;exact hk.mono (by omega)
    ·exact(hK i (by omega) ha).mono (by omega)
   ·refine⟨K,fun i hi ha=> ?_⟩;by_cases e:i=M
    ·subst e;exact absurd ha h
    ·exact hK i (by omega) ha
 obtain⟨K,hK⟩:=this (N*N);refine⟨K,fun x b hx ha=> ?_⟩;obtain⟨k,hk⟩:=ha;have cY:=hb x b k hk;obtain⟨i,rfl⟩:∃ i:Nat,x=i:=⟨x.toNat,by omega⟩;obtain⟨j,rfl⟩:∃ j:Nat,b=j:=⟨b.toNat,by omega⟩;have hi:i<N:=by omega
 have hj:j<N:=by omega
 have e1:(N*i+j) / N=i:=by rw[Nat.mul_add_div hN,Nat.div_eq_of_lt hj,Nat.add_zero]
 have e2:(N*i+j) % N=j:=by rw[Nat.mul_add_mod,Nat.mod_eq_of_lt hj]
 have:=hK (N*i+j) (by
  have:N*(i+1)<=N*N:=Nat.mul_le_mul_left _ hi;rw[Nat.mul_succ]at this;omega)
 rw[e1,e2]at this;exact this ⟨k,hk⟩
end Go.Proofs.YtmejfcakhpihlaaGreatDoor
set_option maxRecDepth 100000
namespace Go.Proofs.YtmejfcakhpihlaaGreatDoor
open Go.Am
def zI9(L:List Wc):Prop:=L.length<=16/\∀ k,k<L.length->((L.getD k default).fin.kind=1\/(L.getD k default).fin.kind=2\/(L.getD k default).fin.kind=3)/\((L.getD k default).fin.kind=1\/(L.getD k default).fin.kind=2->0<=(L.getD k default).fin.to/\(L.getD k default).fin.to<L.length)/\((L.getD k default).fin.kind=2->0<=(L.getD k default).fin.aE/\(L.getD k default).fin.aE<L.length)
theorem zNK(h:WA)(hm:h.mark<=h.n)(v:Value)(L:List Wc)(sb:Wv h v L)(hE:zI9 L):
  WC Tryz.prog tb 223 [v] h fun r h'=>(∃ cells:List Value,r=.agg cells.toArray/\cells.length=16/\∀ j,j<16->WL h h' (cells.getD j undef) (zW L (j:Int) L.length))/\Ext h h':=by
 refine en ?_;refine WO.al ?_;intro p h1 e1 o1;obtain⟨g2,nO,Ou,rfl⟩:∃ g2,h.n<=g2/\g2<h1.n/\p=.pointer (some ⟨g2,0,none⟩):=let⟨g,a,b,c,_⟩:=o1;⟨g,a,b,c⟩;have mu:=Wv.ext sb e1;refine go ?_;refine VD (fun k=>L.length-k) (fun k t h3=>zC t 7=I k/\k<=L.length/\Ext h h3/\∃ cells,AR h h3 (.pointer (some ⟨g2,0,none⟩)) cells 16 (fun j=>zW L (j:Int) k)) 0 ?_ ?_
 ·refine⟨WH,QK _,e1,List.replicate 16 (.slice none 0 0),⟨o1,rfl,fun j hj=> ?_,fun i j g a b c d hi hj aq e1 e2=> ?_⟩⟩
  ·have:(List.replicate 16 (Value.slice none 0 0)).getD j undef=.slice none 0 0:=by
    rw[QG,QB (by simpa using hj),List.getElem_replicate];rfl
   rw[this];exact .inl ⟨rfl,rfl⟩
  ·have:(List.replicate 16 (Value.slice none 0 0)).getD i undef=.slice none 0 0:=by
    rw[QG,QB (by simpa using hi),List.getElem_replicate];rfl
   rw[this]at e1;cases e1
 rintro k t h3 ab ⟨s7,hk,e3,cells,ar⟩;have nR:=Wv.ext sb e3;have hL:=hE.1;have hx:=hE.2;refine go ?_;refine VE (fun hc=> ?_) (fun hc=> ?_)<;>simp only[DB]at hc
 ·have bK:k<L.length:=by omega
  obtain⟨KJ,FG,FH⟩:=hx k bK;obtain⟨cs,⟨vi,rfl,si,vQ⟩,pc,hs⟩:=zq nR bK;obtain⟨va,vn,vk,rfl⟩:=zD si;have au:∀ j:Nat,zW L (j:Int) (k+1)=if(j:Int)∈ZU (L.getD k default).fin then zW L (j:Int) k++[(k:Int)]else zW L (j:Int) k:=fun j=>zBW L j k;have xV:∀ j:Nat,(zW L (j:Int) k).length<=1000:=fun j=>by have:=zAJ L (j:Int) k;omega
  generalize(L.getD k default).fin=X at *;refine go ?_;refine WO.al ?_;intro p4 h4 e4 o4;obtain⟨g4,C1,rfl⟩:∃ g4,h3.n<=g4/\p4=.pointer (some ⟨g4,0,none⟩):=let⟨g,a,b,c,_⟩:=o4;⟨g,a,c⟩;refine go ?_;refine VH o4 e4 ?_;intro h5 e5 o5 u5;have tq:=ar.ext e5;have cq:=e3.trans e5;have o5:=o5.since e3;refine go ?_;have fe:∀ j:Nat,((j:Int)∈ZU X)↔(X.kind≠3/\(j:Int)=X.to)\/((X.kind=2/\X.aE≠X.to)/\(j:Int)=X.aE):=fun j=>by
   unfold ZU;by_cases k1:X.kind=1
   ·rw[QF k1];simp only[QZ];omega
   ·rw[QC k1];by_cases k2:X.kind=2
    ·rw[QF k2];by_cases k3:X.to=X.aE
     ·rw[QF k3];simp only[QZ];omega
     ·rw[QC k3];simp only[GG,List.mem_nil_iff,or_false];omega
    ·rw[QC k2];simp only[List.mem_nil_iff,Gn];omega
  have cT:h5.mark<=h.n:=by rw[cq.mark];exact hm
  have xW:g4≠g2:=by have:=e3.n;obtain⟨g,_,q2,q3,_⟩:=ar.own;cases q3;omega
  refine VL (fun t h'=>Ext h h'/\(∃ eM,AR h h' (.pointer (some ⟨g2,0,none⟩)) eM 16 (fun j=>if X.kind≠3/\(j:Int)=X.to then zW L (j:Int) k++[(k:Int)]else zW L (j:Int) k))/\WB h h' (.pointer (some ⟨g4,0,none⟩)) [.slice va vn vk,.int .u8 X.kind,I X.a,I X.to,I X.aE]) ?_ ?_
  ·refine VE (fun hd=> ?_) (fun hd=> ?_)<;>simp only[DB]at hd
   ·have te:X.kind≠3:=by simpa using hd
    obtain⟨t0,t1⟩:=FG (by omega);have i6:X.to.toNat<16:=by omega
    have ht:(X.to.toNat:Int)=X.to:=by omega
    refine Vh (fun g=>∃ a b,cells.getD X.to.toNat undef=.slice (some ⟨g,0,none⟩) a b) 1 rfl rfl ?_;have kN:¬∃ a b,cells.getD X.to.toNat undef=.slice (some ⟨g4,0,none⟩) a b:=fun⟨a,b,e⟩=>zGY o5 (tq.all _ i6) _ _ _ e rfl;have aI:¬∃ a b,cells.getD X.to.toNat undef=.slice (some ⟨g2,0,none⟩) a b:=fun⟨a,b,e⟩=>tq.off i6 rfl e rfl;have KK:WB h (inC (zB 1 h5)) (.pointer (some ⟨g4,0,none⟩)) [.slice va vn vk,.int .u8 X.kind,I X.a,I X.to,I X.aE]:=by have:=o5.ext (zH 1 h5);exact this
    have mw:WB h (inC (zB 1 h5)) (.pointer (some ⟨g2,0,none⟩)) cells:=by have:=tq.own.ext (zH 1 h5);exact this
    refine goV ?_;refine XD (i:=X.to.toNat) mw (by rw[tq.len];omega) ?_;refine WO.nil ?_;refine zKB (a:=⟨g2,0,none⟩) (k:=X.to.toNat) zi aI ?_;refine goV ?_;refine XI (i:=X.to.toNat) (k:=(k:Int)) tq cq (by rw[cq.mark];exact hm) i6 rfl (xV _) zi zi rfl (fun w=>zi) (fun w=>by rw[ht];exact zi) rfl ?_;intro hN w t' eg eN FI my nN;have oN:WB h hN (.pointer (some ⟨g4,0,none⟩)) [.slice va vn vk,.int .u8 X.kind,I X.a,I X.to,I X.aE]:=by
     obtain⟨q,q1,q2,q3,q4⟩:=o5;cases q3;exact⟨g4,q1,QI q2 nN,rfl,(my g4 q2 (fun e=>by cases e;exact xW rfl) (fun a b e=>kN ⟨a,b,e⟩)).trans q4⟩
    refine zK ⟨eN,⟨cells.set X.to.toNat w,?_⟩,oN⟩;have gy:(fun j:Nat=>if j=X.to.toNat then(zW L ((X.to.toNat:Nat):Int) k)++[(k:Int)]else zW L ((j:Nat):Int) k)=fun j:Nat=>if X.kind≠3/\(j:Int)=X.to then zW L (j:Int) k++[(k:Int)]else zW L (j:Int) k:=by
     funext j;by_cases e:(j:Int)=X.to
     ·have e2:j=X.to.toNat:=by omega
      rw[QF e2];refine Eq.trans ?_ (QF ⟨te,e⟩).symm;rw[<-e2]
     ·rw[QC (show ¬j=_ by omega)];exact(QC (fun h=>e h.2)).symm
    rw[<-gy];exact FI
   ·refine WX.skip ?_;have cg:X.kind=3:=by simpa using hd
    refine zK ⟨cq,⟨cells,?_⟩,o5⟩;have gy:(fun j:Nat=>zW L (j:Int) k)=fun j:Nat=>if X.kind≠3/\(j:Int)=X.to then zW L (j:Int) k++[(k:Int)]else zW L (j:Int) k:=by
     funext j;rw[QC (fun h=>h.1 cg)]
    rw[<-gy];exact tq
  clear hs pc tq o5 e5 e4 u5 o4;rintro t6 h6 vW ⟨eu,⟨dS,qZ⟩,o6⟩;have xX:∀ j:Nat,(if X.kind≠3/\((j:Nat):Int)=X.to then zW L ((j:Nat):Int) k++[(k:Int)]else zW L ((j:Nat):Int) k).length<=1000:=fun j=>by
   have:=zAJ L (j:Int) k;split
   ·rw[QM,QV];omega
   ·omega
  refine go ?_;refine VT 8 (fun t' h'=>h6=h'/\zC t' 40=.bool (decide (X.kind=2/\X.aE≠X.to))) ?_ ?_<;>simp only[Qo,GC,GE,Q2]
  ·by_cases k2:X.kind=2
   ·refine go ?_;exact⟨rfl,rfl,rfl,(WH:zC _ 40=.bool (!decide (X.aE=X.to))).trans (by simp[k2])⟩
   ·refine go ?_;exact⟨rfl,rfl,rfl,(WH:zC _ 40=.bool false).trans (by simp[k2])⟩
  rintro t7 _ Fe ⟨rfl,q40⟩;refine go ?_;refine VL (fun t h'=>Ext h h'/\(∃ eM,AR h h' (.pointer (some ⟨g2,0,none⟩)) eM 16 (fun j=>if(X.kind=2/\X.aE≠X.to)/\(j:Int)=X.aE then(if X.kind≠3/\(j:Int)=X.to then zW L (j:Int) k++[(k:Int)]else zW L (j:Int) k)++[(k:Int)]else(if X.kind≠3/\(j:Int)=X.to then zW L (j:Int) k++[(k:Int)]else zW L (j:Int) k)))/\WB h h' (.pointer (some ⟨g4,0,none⟩)) [.slice va vn vk,.int .u8 X.kind,I X.a,I X.to,I X.aE]) ?_ ?_
  ·refine VE (fun hd=> ?_) (fun hd=> ?_)<;>simp only[DB]at hd
   ·have te:X.kind=2/\X.aE≠X.to:=by exact hd
    obtain⟨t0,t1⟩:=FH te.1;have i6:X.aE.toNat<16:=by omega
    have ht:(X.aE.toNat:Int)=X.aE:=by omega
    refine Vh (fun g=>∃ a b,dS.getD X.aE.toNat undef=.slice (some ⟨g,0,none⟩) a b) 1 rfl rfl ?_;have kN:¬∃ a b,dS.getD X.aE.toNat undef=.slice (some ⟨g4,0,none⟩) a b:=fun⟨a,b,e⟩=>zGY o6 (qZ.all _ i6) _ _ _ e rfl;have aI:¬∃ a b,dS.getD X.aE.toNat undef=.slice (some ⟨g2,0,none⟩) a b:=fun⟨a,b,e⟩=>qZ.off i6 rfl e rfl;have KK:WB h (inC (zB 1 h6)) (.pointer (some ⟨g4,0,none⟩)) [.slice va vn vk,.int .u8 X.kind,I X.a,I X.to,I X.aE]:=by have:=o6.ext (zH 1 h6);exact this
    have mw:WB h (inC (zB 1 h6)) (.pointer (some ⟨g2,0,none⟩)) dS:=by have:=qZ.own.ext (zH 1 h6);exact this
    refine goV ?_;refine XD (i:=X.aE.toNat) mw (by rw[qZ.len];omega) ?_;refine WO.nil ?_;refine zKB (a:=⟨g2,0,none⟩) (k:=X.aE.toNat) zi aI ?_;refine goV ?_;refine XI (i:=X.aE.toNat) (k:=(k:Int)) qZ eu (by rw[eu.mark];exact hm) i6 rfl (xX _) zi zi rfl (fun w=>zi) (fun w=>by rw[ht];exact zi) rfl ?_;intro hN w t' eg eN FI my nN;have oN:WB h hN (.pointer (some ⟨g4,0,none⟩)) [.slice va vn vk,.int .u8 X.kind,I X.a,I X.to,I X.aE]:=by
     obtain⟨q,q1,q2,q3,q4⟩:=o6;cases q3;exact⟨g4,q1,QI q2 nN,rfl,(my g4 q2 (fun e=>by cases e;exact xW rfl) (fun a b e=>kN ⟨a,b,e⟩)).trans q4⟩
    refine zK ⟨eN,⟨dS.set X.aE.toNat w,?_⟩,oN⟩;have gy:(fun j:Nat=>if j=X.aE.toNat then(if X.kind≠3/\((X.aE.toNat:Nat):Int)=X.to then zW L ((X.aE.toNat:Nat):Int) k++[(k:Int)]else zW L ((X.aE.toNat:Nat):Int) k)++[(k:Int)]else if X.kind≠3/\((j:Nat):Int)=X.to then zW L ((j:Nat):Int) k++[(k:Int)]else zW L ((j:Nat):Int) k)=fun j:Nat=>if(X.kind=2/\X.aE≠X.to)/\(j:Int)=X.aE then(if X.kind≠3/\(j:Int)=X.to then zW L (j:Int) k++[(k:Int)]else zW L (j:Int) k)++[(k:Int)]else(if X.kind≠3/\(j:Int)=X.to then zW L (j:Int) k++[(k:Int)]else zW L (j:Int) k):=by
     funext j;by_cases e:(j:Int)=X.aE
     ·have e2:j=X.aE.toNat:=by omega
      rw[QF e2];refine Eq.trans ?_ (QF ⟨te,e⟩).symm;rw[<-e2]
     ·rw[QC (show ¬j=_ by omega)];exact(QC (fun h=>e h.2)).symm
    rw[<-gy];exact FI
   ·refine WX.skip ?_;refine zK ⟨eu,⟨dS,?_⟩,o6⟩;have gy:(fun j:Nat=>if X.kind≠3/\((j:Nat):Int)=X.to then zW L ((j:Nat):Int) k++[(k:Int)]else zW L ((j:Nat):Int) k)=fun j:Nat=>if(X.kind=2/\X.aE≠X.to)/\(j:Int)=X.aE then(if X.kind≠3/\(j:Int)=X.to then zW L (j:Int) k++[(k:Int)]else zW L (j:Int) k)++[(k:Int)]else(if X.kind≠3/\(j:Int)=X.to then zW L (j:Int) k++[(k:Int)]else zW L (j:Int) k):=by
     funext j;exact(QC (fun h=>hd h.1)).symm
    rw[<-gy];exact qZ
  rintro t8 h8 xI ⟨cX,⟨tu,Ov⟩,o8⟩;refine go ?_;refine zA (k+1) (by omega) ⟨Wn,by omega,cX,tu,?_⟩;have gy:(fun j:Nat=>if(X.kind=2/\X.aE≠X.to)/\(j:Int)=X.aE then(if X.kind≠3/\(j:Int)=X.to then zW L (j:Int) k++[(k:Int)]else zW L (j:Int) k)++[(k:Int)]else(if X.kind≠3/\(j:Int)=X.to then zW L (j:Int) k++[(k:Int)]else zW L (j:Int) k))=fun j:Nat=>zW L (j:Int) (k+1):=by
   funext j;rw[au j];have:=fe j;by_cases c1:X.kind≠3/\(j:Int)=X.to
   ·rw[QC (fun h=>h.1.2 (h.2.symm.trans c1.2)),QF c1,QF (this.2 (.inl c1))]
   ·by_cases c2:(X.kind=2/\X.aE≠X.to)/\(j:Int)=X.aE
    ·rw[QF c2,QC c1,QF (this.2 (.inr c2))]
    ·rw[QC c2,QC c1,QC (fun h=>(this.1 h).elim c1 c2)]
  rw[<-gy];exact Ov
 ·have jC:k=L.length:=by omega
  subst jC;have oc:=ar.own;refine go ?_;refine Xg oc ar.len ?_;refine VH (cs:=cells) oc e3 ?_ (hn:=ar.len) (hl:=ar.len) (h1:=ar.one);intro h6 e6 o6 u6;have qZ:=ar.updC o6 u6;refine go ?_;refine rt ?_ (Vp WH o6 (zKa ar.len) BQ.nil);exact⟨⟨cells,rfl,ar.len,qZ.all⟩,e6⟩
end Go.Proofs.YtmejfcakhpihlaaGreatDoor
set_option maxRecDepth 100000
namespace Go.Proofs.YtmejfcakhpihlaaGreatDoor
open Go.Am
abbrev pO(xs:List Int)(b:Int):Int:=xs.getD b.toNat 0
abbrev qO(xs:List Int)(b:Int):Int:=xs.getD (16+b.toNat) 0
structure Dm(nx:Int->List Int)(xs:List Int):Prop where
 len:xs.length=32
 rpo:Rpo nx (fun b=>qO xs b)
 rl:Rl nx (fun b=>qO xs b) (fun b=>pO xs b)
 bnd:∀ b,Wl nx 0 b->0<=b/\b<16
theorem zO6(hA h:WA)(p:Value)(nx:Int->List Int)(xs:List Int)(a b:Int)(o:WB hA h p (xs.map I))(dm:WK (Dm nx xs))(wa:Wl nx 0 a)(wb:Wl nx 0 b)(pa:pO xs a≠ -1)(pb:pO xs b≠ -1):
  WC Tryz.prog tb 224 [p,I a,I b] h fun r h'=>(∃ m,r=I m/\Mt nx (fun b=>qO xs b) (fun b=>pO xs b) a b m)/\h=h':=by
 obtain⟨g,rfl⟩:∃ g,p=.pointer (some ⟨g,0,none⟩):=let⟨g,_,_,e,_⟩:=o;⟨g,e⟩;have hl:=dm.out.len;refine en ?_;refine VD (fun x=>(qO xs x.1).toNat+(qO xs x.2).toNat) (fun(x:Int×Int) t h1=>h=h1/\zC t 1=I x.1/\zC t 2=I x.2/\Wl nx 0 x.1/\Wl nx 0 x.2/\pO xs x.1≠ -1/\pO xs x.2≠ -1/\WK (∀ m,Mt nx (fun b=>qO xs b) (fun b=>pO xs b) x.1 x.2 m->Mt nx (fun b=>qO xs b) (fun b=>pO xs b) a b m)) (a,b) ?_ ?_
 ·exact⟨rfl,WH,WH,wa,wb,pa,pb,⟨fun m h=>h⟩⟩
 rintro⟨c,d⟩ t _ ab ⟨rfl,s1,s2,wc,wd,pc,pd,hm⟩;simp only at s1 s2 wc wd pc pd hm;have bc:=dm.out.bnd c wc;have bd:=dm.out.bnd d wd;refine go ?_;refine VE (fun he=> ?_) (fun he=> ?_)<;>simp only[DB]at he;case refine_2=>
  subst he;refine gr ?_;exact⟨⟨c,rfl,hm.out c (Mt.same wc pc)⟩,rfl⟩
 have aq:qO xs c≠qO xs d:=fun e=>he (dm.out.rpo.inj c d wc wd e);have nc:=dm.out.rpo.nn c wc;have nd:=dm.out.rpo.nn d wd;try simp only at nc nd
 refine go ?_;refine VD (fun x=>(qO xs x).toNat) (fun(x:Int) t h1=>h=h1/\zC t 1=I x/\Wl nx 0 x/\pO xs x≠ -1/\(qO xs x<=qO xs c/\0<=qO xs x)/\WK (∀ m,Mt nx (fun b=>qO xs b) (fun b=>pO xs b) x d m->Mt nx (fun b=>qO xs b) (fun b=>pO xs b) a b m)) c ?_ ?_
 ·exact⟨rfl,WH,wc,pc,⟨Ql _,nc⟩,hm⟩
 rintro x t _ aZ ⟨rfl,s1,wx,px,hx,fG⟩;have bx:=dm.out.bnd x wx;refine go ?_;refine VE (fun hf=> ?_) (fun hf=> ?_)<;>simp only[DB]at hf
 ·have cL:x≠0:=fun e=>by subst e;have:=dm.out.rpo.zero;have Ka:qO xs d<qO xs 0:=hf;omega
  obtain⟨u1,u2,u3⟩:=dm.out.rl.up x wx cL px;have nu:=dm.out.rpo.nn _ u1;try simp only at u2 u3 nu
  refine go ?_;exact zA (pO xs x) (by omega) ⟨rfl,WH,u1,u2,⟨by omega,nu⟩,⟨fun m h=>fG.out m (Xt dm.out.rpo dm.out.rl wx wd px hf h)⟩⟩
 refine go ?_;refine VD (fun y=>(qO xs y).toNat) (fun(y:Int) t h1=>h=h1/\zC t 2=I y/\Wl nx 0 y/\pO xs y≠ -1/\(qO xs y<=qO xs d/\0<=qO xs y)/\WK (∀ m,Mt nx (fun b=>qO xs b) (fun b=>pO xs b) x y m->Mt nx (fun b=>qO xs b) (fun b=>pO xs b) a b m)) d ?_ ?_
 ·exact⟨rfl,WH,wd,pd,⟨Ql _,nd⟩,fG⟩
 rintro y t _ cN ⟨rfl,s2,wy,py,hy,gI⟩;have bY:=dm.out.bnd y wy;refine go ?_;refine VE (fun hg=> ?_) (fun hg=> ?_)<;>simp only[DB]at hg
 ·have xD:y≠0:=fun e=>by subst e;have:=dm.out.rpo.zero;have nO:qO xs x<qO xs 0:=hg;omega
  obtain⟨u1,u2,u3⟩:=dm.out.rl.up y wy xD py;have nu:=dm.out.rpo.nn _ u1;try simp only at u2 u3 nu
  refine go ?_;exact zA (pO xs y) (by omega) ⟨rfl,WH,u1,u2,⟨by omega,nu⟩,⟨fun m h=>gI.out m (Xq dm.out.rpo dm.out.rl wx wy py hg h)⟩⟩
 refine go ?_;have key:∀ (C D X Y:Int),C≠D->0<=X->X<=C->0<=Y->Y<=D->X<=D->Y<=X->X.toNat+Y.toNat<C.toNat+D.toNat:=by intros;omega
 exact zA (x,y) (key _ _ _ _ aq hx.2 hx.1 hy.2 hy.1 hf hg) ⟨rfl,WH,WH,wx,wy,px,py,gI⟩
def Bp(nx:Int->List Int)(e:List Int)(S:Int->Prop):Prop:=∀ e1 u e2,e=e1++u::e2->S u\/∃ a∈e2,u∈nx a
theorem Bp.nil{nx:Int->List Int}{S:Int->Prop}:Bp nx [] S:=fun e1 u e2 h=>by cases e1<;>cases h
theorem Bp.append{nx:Int->List Int}{e f:List Int}{S:Int->Prop}(h:Bp nx e S)(k:Bp nx f S):Bp nx (e++f) S:=by
 intro e1 u e2 he;rcases List.append_eq_append_iff.1 he with⟨a,h1,h2⟩|⟨a,h1,h2⟩
 ·exact k a u e2 h2
 ·cases a with
  |nil=>exact k [] u e2 (by simpa using h2.symm)
  |cons x a=>
   simp only[JC,List.cons.injEq]at h2;obtain⟨rfl,rfl⟩:=h2;rcases h e1 u a h1 with h|⟨b,hb,hu⟩
   ·exact .inl h
   ·exact .inr ⟨b,by simp[hb],hu⟩
theorem zPm{nx:Int->List Int}:∀ (n:Nat) (b:Int) (s:DS),∃ e,(Zc nx n b s).2=s.2++e/\Bp nx e (fun u=>u=b):=by
 intro n;induction n with
 |zero=>intro b s;exact⟨[],by simp[Zc],Bp.nil⟩
 |succ n ih=>
  intro b s;by_cases aC:(s.1.lookup b).isSome
  ·rw[zB0 aC];exact⟨[],by simp,Bp.nil⟩
  ·have go:∀ (l:List Int) (t:DS),(∀ c∈l,c∈nx b)->∃ e,(l.foldl (fun(t:DS) (c:Int)=>Zc nx n c t) t).2=t.2++e/\Bp nx e (fun u=>u∈nx b):=by
    intro l;induction l with
    |nil=>intro t _;exact⟨[],by simp,Bp.nil⟩
    |cons x l cI=>
     intro t hl;obtain⟨e,h1,h2⟩:=ih x t;obtain⟨f,h3,h4⟩:=cI (Zc nx n x t) (fun c hc=>hl c (by simp[hc]));refine⟨e++f,by rw[List.foldl_cons,h3,h1,QT],Bp.append (fun e1 u e2 he=> ?_) h4⟩;rcases h2 e1 u e2 he with h|h
     ·rw[h];exact .inl (hl x (by simp))
     ·exact .inr h
   obtain⟨e,h1,h2⟩:=go (nx b) (s.1++[(b,(s.1.length:Int))],s.2) (fun c hc=>hc);refine⟨e++[b],?_,fun e1 u e2 he=> ?_⟩
   ·conv=>lhs;unfold Zc
    rw[QC aC];simp only;rw[h1,QT]
   ·rcases List.eq_nil_or_concat e2 with rfl|⟨e3,x,rfl⟩
    ·obtain⟨_,h5⟩:=List.append_inj' (s₁:=e) (t₁:=[b]) (s₂:=e1) (t₂:=[u]) he rfl;cases h5;exact .inl rfl
    ·have Es:e++[b]=(e1++u::e3)++[x]:=by rw[he];simp
     obtain⟨h5,h6⟩:=List.append_inj' Es rfl;cases h6;rcases h2 e1 u e3 h5 with h|⟨a,ha,hu⟩
     ·exact .inr ⟨b,by simp,h⟩
     ·exact .inr ⟨a,by simp[ha],hu⟩
theorem zFs{T:List WE}{F:List Wa}{f:Int}(h:(zG T F f 0).2=0):∀ i,i<(ze T F f).1.length->(ze T F f).1.getD i 0≠0->∃ j,j<i/\(ze T F f).1.getD i 0∈Wr (zG T F f 0).1 ((ze T F f).1.getD j 0):=by
 intro i hi aq;have eO:(ze T F f).1=(zAA T F f).reverse:=by unfold ze;rw[QC (by rw[h];exact fun e=>e rfl)]
 obtain⟨e,h1,h2⟩:=zPm (nx:=Wr (zG T F f 0).1) (zG T F f 0).1.length 0 ([],[]);have eP:zAA T F f=e:=by
  have:zAA T F f=(Zc (Wr (zG T F f 0).1) (zG T F f 0).1.length 0 ([],[])).2:=rfl;rw[this,h1];rfl
 rw[eO,eP]at hi aq |-;rw[List.length_reverse]at hi;have ei:∀ k,k<e.length->e.reverse.getD k 0=e.getD (e.length-1-k) 0:=fun k hk=>by
  rw[QG,List.getElem?_reverse hk,QG]
 have dt:e.length-1-i<e.length:=by omega
 have de:e=e.take (e.length-1-i)++e.getD (e.length-1-i) 0::e.drop (e.length-1-i+1):=by
  conv=>lhs;rw[<-GS (e.length-1-i) e,GU dt]
  simp[List.getD,QB dt]
 rw[ei i hi]at aq |-;rcases h2 _ _ _ de with h3|⟨a,ha,hu⟩
 ·exact absurd h3 aq
 ·obtain⟨m,hm,KL⟩:=JI.1 ha;rw[List.length_drop]at hm;rw[List.getElem_drop]at KL;refine⟨e.length-1-(e.length-1-i+1+m),by omega,?_⟩;rw[ei _ (by omega)];have:e.getD (e.length-1-(e.length-1-(e.length-1-i+1+m))) 0=a:=by
   rw[show e.length-1-(e.length-1-(e.length-1-i+1+m))=e.length-1-i+1+m by omega,<-KL];simp[List.getD,QB (show e.length-1-i+1+m<e.length by omega)]
  rw[this];exact hu
theorem zPj{T:List WE}{n:Int}{f:Wa}(h:BW T n f=true):zI9 f.blocks:=by
 refine⟨(zKD h).1,fun k hk=> ?_⟩;unfold BW at h;split at h
 ·cases h
 ·rw[Gj,Gx]at h;have aw:=zE (l:=f.blocks) (i:=k) hk;have dP:=h _ aw;unfold Yv at dP;simp only[GN,not_or,JH,Bool.not_eq_false']at dP;have he:B4 (f.blocks.getD k default).fin (B0 T n f)=true:=by simpa using dP.2
  unfold B4 zd B0 at he;split at he
  ·rename_i dj;simp only[QN,Qd]at he;refine⟨.inl dj,fun _=>by omega,fun h2=>by omega⟩
  ·rename_i dj;split at he
   ·rename_i aS;simp only[QN,Qd]at he;exact⟨.inr (.inl aS),fun _=>by omega,fun _=>by omega⟩
   ·rename_i aS;split at he
    ·rename_i cg;exact⟨.inr (.inr cg),fun h=>by omega,fun h=>by omega⟩
    ·cases he
theorem zIM{T:List WE}{F:List Wa}{f b:Int}(h:(zG T F f b).2=0):zI9 (zG T F f b).1:=by
 obtain⟨_,_,h3,h4⟩:=ZO h;have ah:=zBs h4;rw[h3];exact zPj ((yN ah.2.2).2.2.2 _ (zE (l:=F) (i:=f.toNat) (by omega)))
theorem zLn{T:List WE}{F:List Wa}{f:Int}(h:(zG T F f 0).2=0){pos:Int->Int}(hp:∀ i,i<(ze T F f).1.length->pos ((ze T F f).1.getD i 0)=i):Rpo (Wr (zG T F f 0).1) pos:=by
 obtain⟨xY,FJ,⟨l,j7⟩,pL,xZ,pM,x7⟩:=zAt h;have ew:=zFs h;have aw:∀ b,Wl (Wr (zG T F f 0).1) 0 b->∃ i,i<(ze T F f).1.length/\(ze T F f).1.getD i 0=b:=fun b w=>Zw (pL b ((Z2 h).2 w));have hw:∀ i,i<(ze T F f).1.length->Wl (Wr (zG T F f 0).1) 0 ((ze T F f).1.getD i 0):=fun i=>by
  induction i using Nat.strongRecOn with
  |_ i ih=>
   intro hi;by_cases e:(ze T F f).1.getD i 0=0
   ·rw[e];exact .here
   ·obtain⟨j,hj,hm⟩:=ew i hi e;exact .step (ih j hj (by omega)) hm
 refine⟨?_,fun b w=> ?_,fun a b wa wb e=> ?_,fun b w hb=> ?_⟩
 ·have:=hp 0 (by rw[j7];simp);rw[show(ze T F f).1.getD 0 0=0 by rw[j7];rfl]at this;exact this
 ·obtain⟨i,hi,rfl⟩:=aw b w;rw[hp i hi];omega
 ·obtain⟨i,hi,rfl⟩:=aw a wa;obtain⟨j,hj,rfl⟩:=aw b wb;rw[hp i hi,hp j hj]at e;have:i=j:=by omega
  rw[this]
 ·obtain⟨i,hi,rfl⟩:=aw b w;obtain⟨j,hj,hm⟩:=ew i hi hb;exact⟨_,hw j (by omega),hm,by rw[hp i hi,hp j (by omega)];omega⟩
theorem zDq{T:List WE}{F:List Wa}{f:Int}(h:(zG T F f 0).2=0):(ze T F f).1.Nodup:=by
 obtain⟨_,cC,_,_⟩:=ZO h;obtain⟨hlen,ah⟩:=Ze h;obtain⟨nd,_,_⟩:=zHa ah (a:=0) ⟨Ql _,cC⟩;unfold ze;rw[QC (by rw[h];exact fun e=>e rfl)];simp only;exact(List.reverse_perm _).nodup_iff.2 nd
theorem zAM{l:List Int}(h:l.Nodup){i j:Nat}(hi:i<l.length)(hj:j<l.length)(e:l.getD i 0=l.getD j 0):i=j:=by
 simp only[List.getD,QB hi,QB hj,GB]at e;exact(List.getElem_inj h).1 e
theorem ZZ{xs:List Int}{i:Nat}{v:Int}{k:Nat}(hi:i<xs.length):(xs.set i v).getD k 0=if k=i then v else xs.getD k 0:=zBz hi
structure Rnd(nx:Int->List Int)(qs xs:List Int)(k:Nat):Prop where
 dm:Dm nx xs
 qs:xs.drop 16=qs
 far:∀ c,Far nx (fun b=>pO xs b) k c
 un:∀ c,0<=c->c<16->¬Wl nx 0 c->pO xs c= -1
 all:1<=k->∀ c,Wl nx 0 c->pO xs c≠ -1
structure Md(nx:Int->List Int)(O qs ec xs:List Int)(k m:Nat):Prop where
 dm:Dm nx xs
 qs:xs.drop 16=qs
 far:∀ c,Far nx (fun b=>pO xs b) k c
 un:∀ c,0<=c->c<16->¬Wl nx 0 c->pO xs c= -1
 pre:∀ i,i<m->Far nx (fun b=>pO xs b) (k+1) (O.getD i 0)/\pO xs (O.getD i 0)≠ -1
 same:∀ j:Nat,j<16->(∀ i,i<m->i≠0->O.getD i 0≠(j:Int))->xs.getD j 0=ec.getD j 0
 fix:xs=ec->∀ i,i<m->i≠0->∀ a,Wl nx 0 a->O.getD i 0∈nx a->pO xs a≠ -1->Bj (fun b=>pO xs b) (pO xs (O.getD i 0)) a
theorem zIG{nx:Int->List Int}{p:Int->Int}{k:Nat}(h:p 0=0):Far nx p k 0:=fun x hx=>
 ⟨by rw[h];decide,fun ha=>hx.ne (Bj.zero ha).symm⟩
theorem zQy{xs:List Int}{b v:Int}(hl:xs.length=32)(hb:0<b/\b<16):(fun c=>pO (xs.set b.toNat v) c)=upd (fun c=>pO xs c) b v:=by
 funext c;unfold upd;show(xs.set b.toNat v).getD c.toNat 0=_;rw[ZZ (by omega)];by_cases e:c=b
 ·rw[QF (by rw[e]),QF e]
 ·rw[QC (by omega),QC e]
theorem zQH{xs:List Int}{b v:Int}(hl:xs.length=32)(hb:0<b/\b<16):(fun c=>qO (xs.set b.toNat v) c)=fun c=>qO xs c:=by
 funext c;show(xs.set b.toNat v).getD (16+c.toNat) 0=_;rw[ZZ (by omega),QC (by omega)]
theorem zON{xs:List Int}{b v:Int}(hb:0<b/\b<16):(xs.set b.toNat v).drop 16=xs.drop 16:=by
 rw[List.drop_set,QF (by omega)]
theorem Xh{nx:Int->List Int}{O qs xs:List Int}{k:Nat}(r:Rnd nx qs xs k)(h0:O.getD 0 0=0):Md nx O qs xs xs k 1 where
 dm:=r.dm
 qs:=r.qs
 far:=r.far
 un:=r.un
 pre:=fun i hi=>by
  have:i=0:=by omega
  subst this;rw[h0];have hz:=r.dm.rl.zero;exact⟨zIG hz,by show pO xs 0≠ -1;have iK:pO xs 0=0:=hz;rw[iK];decide⟩
 same:=fun j _ _=>rfl
 fix:=fun _ i hi mz=>by omega
theorem Md.step{nx:Int->List Int}{O qs ec xs:List Int}{k m:Nat}{v:Int}(g:Md nx O qs ec xs k m)(hnd:O.Nodup)(hm:m<O.length)(eo:0<m)(aQ:O.getD m 0≠0)(hw:Wl nx 0 (O.getD m 0))(bt:Best nx (fun b=>qO xs b) (fun b=>pO xs b) (O.getD m 0) v)(fP:ec.length=32):Md nx O qs ec (xs.set (O.getD m 0).toNat v) k (m+1):=by
 have hl:=g.dm.len;have aC:=g.dm.bnd _ hw;have hb:0<O.getD m 0/\O.getD m 0<16:=by omega
 have hv:v≠ -1:=fun e=>by have:=g.dm.bnd _ bt.way;omega
 have ep:=zQy (v:=v) hl hb;have eq:=zQH (v:=v) hl hb;have sJ:=zP9 g.dm.rl aQ hw bt hv;have dL:∀ i,i<m->O.getD i 0≠O.getD m 0:=fun i hi e=>by have:=zAM hnd (by omega) hm e;omega
 refine⟨⟨by rw[Gh];exact hl,by rw[eq];exact g.dm.rpo,by rw[eq,ep];exact sJ,g.dm.bnd⟩,by rw[zON hb];exact g.qs,by rw[ep];exact zOP g.dm.rl aQ hw bt hv g.far,fun c h1 h2 h3=> ?_,fun i hi=> ?_,fun j hj hn=> ?_,fun he i hi mz a wa ha pa=> ?_⟩
 ·have:pO (xs.set (O.getD m 0).toNat v) c=upd (fun c=>pO xs c) (O.getD m 0) v c:=congrFun ep c;rw[this];unfold upd;rw[QC (fun e=>h3 (by rw[e];exact hw))];exact g.un c h1 h2 h3
 ·have hp:pO (xs.set (O.getD m 0).toNat v) (O.getD i 0)=upd (fun c=>pO xs c) (O.getD m 0) v (O.getD i 0):=congrFun ep _;rw[hp,ep];by_cases e:i=m
  ·subst e;exact⟨zCx g.dm.rl aQ hw bt hv g.far,by unfold upd;rw[QF rfl];exact hv⟩
  ·obtain⟨f1,f2⟩:=g.pre i (by omega);exact⟨zPH g.dm.rl aQ hw bt hv g.far f1,by unfold upd;rw[QC (dL i (by omega))];exact f2⟩
 ·rw[ZZ (by omega),QC (fun e=>hn m (by omega) (by omega) (by omega))];exact g.same j hj fun i hi mz=>hn i (by omega) mz
 ·have hs:=g.same (O.getD m 0).toNat (by omega) (fun i hi _ e=>dL i hi (by omega));have vD:v=xs.getD (O.getD m 0).toNat 0:=by
   rw[hs,<-he,ZZ (by omega),QF rfl]
  have Ow:xs.set (O.getD m 0).toNat v=xs:=by
   refine zDC (by simp) fun j hj=> ?_;rw[ZZ (by omega)];by_cases e:j=(O.getD m 0).toNat
   ·rw[QF e,e];exact vD
   ·rw[QC e]
  rw[Ow]at he pa |-;by_cases e:i=m
  ·subst e;have C0:pO xs (O.getD i 0)=v:=vD.symm;rw[C0];exact bt.anc a wa ha pa
  ·exact g.fix he i (by omega) mz a wa ha pa
theorem Md.done{nx:Int->List Int}{O qs ec xs:List Int}{k:Nat}(g:Md nx O qs ec xs k O.length)(aw:∀ c,Wl nx 0 c->∃ i,i<O.length/\O.getD i 0=c):Rnd nx qs xs (k+1) where
 dm:=g.dm
 qs:=g.qs
 far:=fun c x hx=>by
  obtain⟨i,hi,rfl⟩:=aw c hx.way;exact(g.pre i hi).1 x hx
 un:=g.un
 all:=fun _ c w=>by
  obtain⟨i,hi,rfl⟩:=aw c w;exact(g.pre i hi).2
theorem zJJ{nx:Int->List Int}{O qs ec xs:List Int}{k K N:Nat}(r:Rnd nx qs ec k)(g:Md nx O qs ec xs k O.length)(aw:∀ c,Wl nx 0 c->∃ i,i<O.length/\O.getD i 0=c)(h0:O.getD 0 0=0)(hN:∀ c,Wl nx 0 c->0<=c/\c<(N:Int))(hK:∀ x b,0<=x/\x<(N:Int)->Av nx x b->Bo nx x K b)(hk:K<=k)(dj:1<=k)(fP:ec.length=32)(hnd:O.Nodup)(iM:∀ i,i<O.length->Wl nx 0 (O.getD i 0)):xs=ec:=by
 have hl:=g.dm.len;have av:∀ (p:Int->Int),(∀ c,Far nx p k c)->Rl nx (fun b=>qO xs b) p->∀ x c,Av nx x c->¬Bj p x c:=fun p hf hr x c pN ha=>by
  obtain⟨j,hj⟩:=pN;have wx:=(hr.le ha hj.way).1;exact(hf c x ((hK x c (hN x wx) ⟨j,hj⟩).mono hk)).2 ha
 have hq:(fun b=>qO ec b)=fun b=>qO xs b:=by
  funext b;have h1:∀ (l:List Int),qO l b=(l.drop 16).getD b.toNat 0:=fun l=>by simp[List.getD]
  rw[h1,h1,r.qs,g.qs]
 have cR:Rl nx (fun b=>qO xs b) (fun b=>pO ec b):=by rw[<-hq];exact r.dm.rl
 have rd:=g.done aw;refine zDC (by omega) fun j hj=> ?_;by_cases tw:j<16
 ·by_cases hw:Wl nx 0 (j:Int)
  ·by_cases hj0:j=0
   ·exact g.same j tw fun i hi mz e=>mz (zAM hnd hi (by omega) (by rw[h0,e,hj0];rfl))
   ·have:=zJq g.dm.rpo g.dm.rl cR (av _ g.far g.dm.rl) (av _ r.far cR) hw (by omega) (rd.all (by omega) _ hw) (r.all dj _ hw);simpa [pO]using this
  ·exact g.same j tw fun i hi mz e=>hw (by rw[<-e];exact iM i hi)
 ·have h1:=congrArg (fun l=>l.getD (j-16) 0) (g.qs.trans r.qs.symm);simp only[QG,Gf]at h1 |-;rw[show 16+(j-16)=j by omega]at h1;exact h1
def Bst(nx:Int->List Int)(xs:List Int)(b:Int)(A:List Int)(j:Nat)(v:Int):Prop:=
 (v= -1/\∀ i,i<j->pO xs (A.getD i 0)= -1)\/
 (v≠ -1/\Wl nx 0 v/\pO xs v≠ -1/\(∀ i,i<j->pO xs (A.getD i 0)≠ -1->Bj (fun b=>pO xs b) v (A.getD i 0))/\∀ y,BH nx y b->y≠b->BH nx y v)
theorem Bst.skip{nx:Int->List Int}{xs:List Int}{b v:Int}{A:List Int}{j:Nat}(h:Bst nx xs b A j v)(hp:pO xs (A.getD j 0)= -1):Bst nx xs b A (j+1) v:=by
 rcases h with⟨h1,h2⟩|⟨h0,h1,h2,h3,h4⟩
 ·refine .inl ⟨h1,fun i hi=> ?_⟩;by_cases e:i=j
  ·rw[e];exact hp
  ·exact h2 i (by omega)
 ·refine .inr ⟨h0,h1,h2,fun i hi hn=> ?_,h4⟩;by_cases e:i=j
  ·rw[e]at hn;exact absurd hp hn
  ·exact h3 i (by omega) hn
theorem Bst.first{nx:Int->List Int}{xs:List Int}{b:Int}{A:List Int}{j:Nat}(h:Bst nx xs b A j (-1))(hw:Wl nx 0 (A.getD j 0))(kz:A.getD j 0≠ -1)(hb:b∈nx (A.getD j 0))(hp:pO xs (A.getD j 0)≠ -1):Bst nx xs b A (j+1) (A.getD j 0):=by
 rcases h with⟨_,h2⟩|⟨h0,_⟩
 ·refine .inr ⟨kz,hw,hp,fun i hi hn=> ?_,fun y hy C3=>hy.pred C3 hb⟩;by_cases e:i=j
  ·rw[e];exact .here
  ·exact absurd (h2 i (by omega)) hn
 ·exact absurd rfl h0
theorem Bst.meet{nx:Int->List Int}{xs:List Int}{b v m:Int}{A:List Int}{j:Nat}(h:Bst nx xs b A j v)(hv:v≠ -1)(eo:m≠ -1)(hb:b∈nx (A.getD j 0))(hm:Mt nx (fun b=>qO xs b) (fun b=>pO xs b) v (A.getD j 0) m):Bst nx xs b A (j+1) m:=by
 rcases h with⟨h1,_⟩|⟨h0,h1,h2,h3,h4⟩
 ·exact absurd h1 hv
 ·refine .inr ⟨eo,hm.way,hm.done,fun i hi hn=> ?_,fun y hy C3=>hm.dom y (h4 y hy C3) (hy.pred C3 hb)⟩;by_cases e:i=j
  ·rw[e];exact hm.right
  ·exact hm.left.trans (h3 i (by omega) hn)
theorem Bst.best{nx:Int->List Int}{xs:List Int}{b v:Int}{A:List Int}(dm:Dm nx xs)(h:Bst nx xs b A A.length v)(hA:∀ a,Wl nx 0 a->b∈nx a->∃ i,i<A.length/\A.getD i 0=a){a:Int}(wa:Wl nx 0 a)(ha:b∈nx a)(pa:pO xs a≠ -1)(aL:qO xs a<qO xs b):Best nx (fun b=>qO xs b) (fun b=>pO xs b) b v:=by
 obtain⟨i,hi,e⟩:=hA a wa ha;rcases h with⟨h1,h2⟩|⟨h0,h1,h2,h3,h4⟩
 ·exact absurd (by rw[<-e];exact h2 i hi) pa
 ·refine⟨h1,h2,?_,fun c wc hc pc=> ?_,h4⟩
  ·have:=(dm.rl.le (by have:=h3 i hi (by rw[e];exact pa);rw[e]at this;exact this) wa).2.1;have h5:qO xs v<=qO xs a:=this;show qO xs v<qO xs b;omega
  ·obtain⟨i,hi,e⟩:=hA c wc hc;have:=h3 i hi (by rw[e];exact pc);rw[e]at this;exact this
structure Rul(nx:Int->List Int)(xs:List Int):Prop where
 dm:Dm nx xs
 all:∀ b,Wl nx 0 b->pO xs b≠ -1
 dom:∀ y b,Wl nx 0 b->(Bj (fun b=>pO xs b) y b↔BH nx y b)
 lt:∀ b,Wl nx 0 b->qO xs b<16
 un:∀ c,0<=c->c<16->¬Wl nx 0 c->pO xs c= -1
theorem zQD{nx:Int->List Int}{O qs xs:List Int}{k:Nat}(g:Md nx O qs xs xs k O.length)(aw:∀ c,Wl nx 0 c->∃ i,i<O.length/\O.getD i 0=c)(h0:O.getD 0 0=0)(hq:∀ b,Wl nx 0 b->qO xs b<16):Rul nx xs:=by
 have rd:=g.done aw;have aF:=rd.all (by omega);refine⟨g.dm,aF,fun y b w=>⟨fun ha pN=> ?_,fun hd=>Vx g.dm.rpo g.dm.rl (qO xs b).toNat b y (by have h5:=g.dm.rpo.nn b w;have h5:0<=qO xs b:=h5;show qO xs b<=_;omega) w (aF b w) hd⟩,hq,g.un⟩;obtain⟨n,pN⟩:=pN;induction pN with
 |here h=>exact h (Bj.zero ha).symm
 |step h1 hc aq ih=>
  rename_i n a c;cases ha with
  |here=>exact aq rfl
  |up hb hp hu=>
   obtain⟨i,hi,e⟩:=aw c w;have mz:i≠0:=fun e2=>hb (by rw[<-e,e2,h0]);have:=g.fix rfl i hi mz a h1.way (by rw[e];exact hc) (aF a h1.way);rw[e]at this;exact ih h1.way (hu.trans this)
theorem zMn{h0 h:WA}{v:Value}{l:List Int}(o:WL h0 h v l)(hl:0<l.length):∃ r,Zp 1 v (some 1) none none=some r/\WQ h r (l.drop 1):=by
 rcases o with⟨rfl,rfl⟩|⟨g,g1,g2,rfl,g3⟩
 ·simp at hl
 ·refine⟨.slice (some ⟨g,1,none⟩) (l.length-1) 1,?_,?_⟩
  ·have h1:Nat.ble 1 l.length=true:=QH hl;have h2:Nat.ble l.length l.length=true:=QH (QE _);simp[Zp,h1,h2]
  ·exact⟨by simp,.inr ⟨g,1,l.map I,by simp,Za g3,by rw[ZD (by simp;omega),List.map_drop,Q7 (by simp)],g2⟩⟩
theorem zN4{h0 h h':WA}{p q:Value}{cells:List Value}(o:WB h0 h q cells)(u:Wm p h h')(aq:p≠q):WB h0 h' q cells:=by
 obtain⟨g,g1,g2,rfl,g3⟩:=o;exact⟨g,g1,QI g2 u.1,rfl,(u.2 g g2 aq).trans g3⟩
theorem zKN(l:List Int)(b:Int):qO l b=(l.drop 16).getD b.toNat 0:=by simp[qO,List.getD]
theorem zKr{xs ys:List Int}(hx:xs.take 16=ys.take 16)(hy:xs.drop 16=ys.drop 16):xs=ys:=by
 rw[<-GS 16 xs,hx,hy,GS]
theorem zOO{L:List Wc}{b:Int}{A:List Int}(hA:zW L b L.length=A){j:Nat}(hj:j<A.length):(0<=A.getD j 0/\A.getD j 0<(L.length:Int))/\b∈Wr L (A.getD j 0):=by
 refine zDh.1 ?_;rw[hA,QG,QB hj];exact List.getElem_mem hj
end Go.Proofs.YtmejfcakhpihlaaGreatDoor
