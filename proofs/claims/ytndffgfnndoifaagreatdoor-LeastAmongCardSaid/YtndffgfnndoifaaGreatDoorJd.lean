/- Walks of functions, plain laws; proves no statement. -/
import Derived.Test.YtndffgfnndoifaaGreatDoorJc
import Derived.Test.YtndffgfnndoifaaGreatDoorAmV
set_option linter.all false
set_option maxHeartbeats 2000000
set_option maxRecDepth 100000
namespace Go.Proofs.YtndffgfnndoifaaGreatDoor
open Go.Am
def zL1(L:List Wk):Prop:=L.length<=16/\∀ k,k<L.length->((L.getD k default).fin.kind=1\/(L.getD k default).fin.kind=2\/(L.getD k default).fin.kind=3)/\((L.getD k default).fin.kind=1\/(L.getD k default).fin.kind=2->0<=(L.getD k default).fin.to/\(L.getD k default).fin.to<L.length)/\((L.getD k default).fin.kind=2->0<=(L.getD k default).fin.aK/\(L.getD k default).fin.aK<L.length)
def zPn(h:WA)(hm:h.mark<=h.n)(v:Value)(L:List Wk)(sb:Bb h v L)(hE:zL1 L):
  G0 316 [v] h fun r h'=>(∃ cells:List Value,r=.agg cells.toArray/\cells.length=16/\∀ j,j<16->WP h h' (cells.getD j undef) (zY L (j:Int) L.length))/\WH h h':=by
 refine en ?_;refine WO.al ?_;intro p h1 e1 o1;obtain⟨g2,ir,MB,rfl⟩:∃ g2,h.n<=g2/\g2<h1.n/\p=.pointer (some ⟨g2,0,none⟩):=let⟨g,a,b,c,_⟩:=o1;⟨g,a,b,c⟩;have Tv:=Bb.ext sb e1;refine go ?_;refine VD (fun k=>L.length-k) (fun k t h3=>zC t 7=I k/\k<=L.length/\WH h h3/\∃ cells,AR h h3 (.pointer (some ⟨g2,0,none⟩)) cells 16 (fun j=>zY L (j:Int) k)) 0 ?_ ?_
 ·refine⟨WJ,QQ _,e1,List.replicate 16 (.slice none 0 0),⟨o1,rfl,fun j hj=> ?_,fun i j g a b c d hi hj ah e1 e2=> ?_⟩⟩
  ·have:(List.replicate 16 (Value.slice none 0 0)).getD j undef=.slice none 0 0:=by
    rw[QD,QB (by simpa using hj),List.getElem_replicate];rfl
   rw[this];exact .inl ⟨rfl,rfl⟩
  ·have:(List.replicate 16 (Value.slice none 0 0)).getD i undef=.slice none 0 0:=by
    rw[QD,QB (by simpa using hi),List.getElem_replicate];rfl
   rw[this]at e1;cases e1
 rintro k t h3 ab ⟨s7,hk,e3,cells,ar⟩;have qm:=Bb.ext sb e3;have hL:=hE.1;have hx:=hE.2;refine F0 ?_ ?_<;>intro hc
 ·have cF:k<L.length:=ω
  obtain⟨Ij,MC,Dt⟩:=hx k cF;obtain⟨cs,⟨vi,rfl,si,sq⟩,pc,hs⟩:=yv qm cF;obtain⟨va,vn,vk,rfl⟩:=zD si;have bq:∀ j:Nat,zY L (j:Int) (k+1)=if(j:Int)∈Y7 (L.getD k default).fin then zY L (j:Int) k++[(k:Int)]else zY L (j:Int) k:=fun j=>zEp L j k;have uP:∀ j:Nat,(zY L (j:Int) k).length<=1000:=fun j=>by have:=zBU L (j:Int) k;omega
  generalize(L.getD k default).fin=X at *;refine go ?_;refine WO.al ?_;intro p4 h4 e4 o4;obtain⟨g4,xX,rfl⟩:∃ g4,h3.n<=g4/\p4=.pointer (some ⟨g4,0,none⟩):=let⟨g,a,b,c,_⟩:=o4;⟨g,a,c⟩;refine go ?_;refine VG o4 e4 ?_;intro h5 e5 o5 u5;have qx:=ar.ext e5;have bh:=e3.trans e5;have o5:=o5.since e3;refine go ?_;have gh:∀ j:Nat,((j:Int)∈Y7 X)↔(X.kind≠3/\(j:Int)=X.to)\/((X.kind=2/\X.aK≠X.to)/\(j:Int)=X.aK):=fun j=>by
   unfold Y7;by_cases k1:X.kind=1
   ·rw[QJ k1];simp only[QO];omega
   ·rw[QC k1];by_cases k2:X.kind=2
    ·rw[QJ k2];by_cases k3:X.to=X.aK
     ·rw[QJ k3];simp only[QO];omega
     ·rw[QC k3];simp only[Qt,List.mem_nil_iff,or_false];omega
    ·rw[QC k2];simp only[List.mem_nil_iff,JW];omega
  have de:h5.mark<=h.n:=by rw[bh.mark];exact hm
  have uQ:g4≠g2:=by have:=e3.n;obtain⟨g,_,q2,q3,_⟩:=ar.own;cases q3;omega
  refine VL (fun t h'=>WH h h'/\(∃ dg,AR h h' (.pointer (some ⟨g2,0,none⟩)) dg 16 (fun j=>if X.kind≠3/\(j:Int)=X.to then zY L (j:Int) k++[(k:Int)]else zY L (j:Int) k))/\WB h h' (.pointer (some ⟨g4,0,none⟩)) [.slice va vn vk,.int .u8 X.kind,I X.a,I X.to,I X.aK]) ?_ ?_
  ·refine VE (fun hd=> ?_) (fun hd=> ?_)<;>simp only[DB]at hd
   ·have qe:X.kind≠3:=by simpa using hd
    obtain⟨t0,t1⟩:=MC ω;have gT:X.to.toNat<16:=ω
    have ht:(X.to.toNat:Int)=X.to:=ω
    refine Vv (fun g=>∃ a b,cells.getD X.to.toNat undef=.slice (some ⟨g,0,none⟩) a b) 1 rfl rfl ?_;have jk:¬∃ a b,cells.getD X.to.toNat undef=.slice (some ⟨g4,0,none⟩) a b:=fun⟨a,b,e⟩=>zIJ o5 (qx.all _ gT) _ _ _ e rfl;have aI:¬∃ a b,cells.getD X.to.toNat undef=.slice (some ⟨g2,0,none⟩) a b:=fun⟨a,b,e⟩=>qx.off gT rfl e rfl;have Ik:WB h (inC (zB 1 h5)) (.pointer (some ⟨g4,0,none⟩)) [.slice va vn vk,.int .u8 X.kind,I X.a,I X.to,I X.aK]:=by have:=o5.ext (zG 1 h5);exact this
    have Du:WB h (inC (zB 1 h5)) (.pointer (some ⟨g2,0,none⟩)) cells:=by have:=qx.own.ext (zG 1 h5);exact this
    refine goV ?_;refine XG (i:=X.to.toNat) Du (by rw[qx.len];omega) ?_;refine WO.nil ?_;refine zRG (a:=⟨g2,0,none⟩) (k:=X.to.toNat) zO aI ?_;refine goV ?_;refine XL (i:=X.to.toNat) (k:=(k:Int)) qx bh (by rw[bh.mark];exact hm) gT rfl (uP _) zO zO rfl (fun w=>zO) (fun w=>by rw[ht];exact zO) rfl ?_;intro hN w t' bP eN Dv j8 nN;have oN:WB h hN (.pointer (some ⟨g4,0,none⟩)) [.slice va vn vk,.int .u8 X.kind,I X.a,I X.to,I X.aK]:=by
     obtain⟨q,q1,q2,q3,q4⟩:=o5;cases q3;exact⟨g4,q1,QG q2 nN,rfl,(j8 g4 q2 (fun e=>by cases e;exact uQ rfl) (fun a b e=>jk ⟨a,b,e⟩)).trans q4⟩
    refine zJ ⟨eN,⟨cells.set X.to.toNat w,?_⟩,oN⟩;have ft:(fun j:Nat=>if j=X.to.toNat then(zY L ((X.to.toNat:Nat):Int) k)++[(k:Int)]else zY L ((j:Nat):Int) k)=fun j:Nat=>if X.kind≠3/\(j:Int)=X.to then zY L (j:Int) k++[(k:Int)]else zY L (j:Int) k:=by
     funext j;by_cases e:(j:Int)=X.to
     ·have e2:j=X.to.toNat:=ω
      rw[QJ e2];refine Eq.trans ?_ (QJ ⟨qe,e⟩).symm;rw[<-e2]
     ·rw[QC (show ¬j=_ by omega)];exact(QC (fun h=>e h.2)).symm
    rw[<-ft];exact Dv
   ·refine WX.skip ?_;have cG:X.kind=3:=by simpa using hd
    refine zJ ⟨bh,⟨cells,?_⟩,o5⟩;have ft:(fun j:Nat=>zY L (j:Int) k)=fun j:Nat=>if X.kind≠3/\(j:Int)=X.to then zY L (j:Int) k++[(k:Int)]else zY L (j:Int) k:=by
     funext j;rw[QC (fun h=>h.1 cG)]
    rw[<-ft];exact qx
  clear hs pc qx o5 e5 e4 u5 o4;rintro t6 h6 xN ⟨c9,⟨dx,nW⟩,o6⟩;have uT:∀ j:Nat,(if X.kind≠3/\((j:Nat):Int)=X.to then zY L ((j:Nat):Int) k++[(k:Int)]else zY L ((j:Nat):Int) k).length<=1000:=fun j=>by
   have:=zBU L (j:Int) k;split
   ·rw[QH,Qb];omega
   ·omega
  refine go ?_;refine VV 8 (fun t' h'=>h6=h'/\zC t' 40=.bool (decide (X.kind=2/\X.aK≠X.to))) ?_ ?_<;>simp only[Qv,GK,GZ,GI]
  ·by_cases k2:X.kind=2
   ·refine go ?_;exact⟨rfl,rfl,rfl,(WJ:zC _ 40=.bool (!decide (X.aK=X.to))).trans (by simp[k2])⟩
   ·refine go ?_;exact⟨rfl,rfl,rfl,(WJ:zC _ 40=.bool false).trans (by simp[k2])⟩
  rintro t7 _ C8 ⟨rfl,Tw⟩;refine go ?_;refine VL (fun t h'=>WH h h'/\(∃ dg,AR h h' (.pointer (some ⟨g2,0,none⟩)) dg 16 (fun j=>if(X.kind=2/\X.aK≠X.to)/\(j:Int)=X.aK then(if X.kind≠3/\(j:Int)=X.to then zY L (j:Int) k++[(k:Int)]else zY L (j:Int) k)++[(k:Int)]else(if X.kind≠3/\(j:Int)=X.to then zY L (j:Int) k++[(k:Int)]else zY L (j:Int) k)))/\WB h h' (.pointer (some ⟨g4,0,none⟩)) [.slice va vn vk,.int .u8 X.kind,I X.a,I X.to,I X.aK]) ?_ ?_
  ·refine VE (fun hd=> ?_) (fun hd=> ?_)<;>simp only[DB]at hd
   ·have qe:X.kind=2/\X.aK≠X.to:=by exact hd
    obtain⟨t0,t1⟩:=Dt qe.1;have gT:X.aK.toNat<16:=ω
    have ht:(X.aK.toNat:Int)=X.aK:=ω
    refine Vv (fun g=>∃ a b,dx.getD X.aK.toNat undef=.slice (some ⟨g,0,none⟩) a b) 1 rfl rfl ?_;have jk:¬∃ a b,dx.getD X.aK.toNat undef=.slice (some ⟨g4,0,none⟩) a b:=fun⟨a,b,e⟩=>zIJ o6 (nW.all _ gT) _ _ _ e rfl;have aI:¬∃ a b,dx.getD X.aK.toNat undef=.slice (some ⟨g2,0,none⟩) a b:=fun⟨a,b,e⟩=>nW.off gT rfl e rfl;have Ik:WB h (inC (zB 1 h6)) (.pointer (some ⟨g4,0,none⟩)) [.slice va vn vk,.int .u8 X.kind,I X.a,I X.to,I X.aK]:=by have:=o6.ext (zG 1 h6);exact this
    have Du:WB h (inC (zB 1 h6)) (.pointer (some ⟨g2,0,none⟩)) dx:=by have:=nW.own.ext (zG 1 h6);exact this
    refine goV ?_;refine XG (i:=X.aK.toNat) Du (by rw[nW.len];omega) ?_;refine WO.nil ?_;refine zRG (a:=⟨g2,0,none⟩) (k:=X.aK.toNat) zO aI ?_;refine goV ?_;refine XL (i:=X.aK.toNat) (k:=(k:Int)) nW c9 (by rw[c9.mark];exact hm) gT rfl (uT _) zO zO rfl (fun w=>zO) (fun w=>by rw[ht];exact zO) rfl ?_;intro hN w t' bP eN Dv j8 nN;have oN:WB h hN (.pointer (some ⟨g4,0,none⟩)) [.slice va vn vk,.int .u8 X.kind,I X.a,I X.to,I X.aK]:=by
     obtain⟨q,q1,q2,q3,q4⟩:=o6;cases q3;exact⟨g4,q1,QG q2 nN,rfl,(j8 g4 q2 (fun e=>by cases e;exact uQ rfl) (fun a b e=>jk ⟨a,b,e⟩)).trans q4⟩
    refine zJ ⟨eN,⟨dx.set X.aK.toNat w,?_⟩,oN⟩;have ft:(fun j:Nat=>if j=X.aK.toNat then(if X.kind≠3/\((X.aK.toNat:Nat):Int)=X.to then zY L ((X.aK.toNat:Nat):Int) k++[(k:Int)]else zY L ((X.aK.toNat:Nat):Int) k)++[(k:Int)]else if X.kind≠3/\((j:Nat):Int)=X.to then zY L ((j:Nat):Int) k++[(k:Int)]else zY L ((j:Nat):Int) k)=fun j:Nat=>if(X.kind=2/\X.aK≠X.to)/\(j:Int)=X.aK then(if X.kind≠3/\(j:Int)=X.to then zY L (j:Int) k++[(k:Int)]else zY L (j:Int) k)++[(k:Int)]else(if X.kind≠3/\(j:Int)=X.to then zY L (j:Int) k++[(k:Int)]else zY L (j:Int) k):=by
     funext j;by_cases e:(j:Int)=X.aK
     ·have e2:j=X.aK.toNat:=ω
      rw[QJ e2];refine Eq.trans ?_ (QJ ⟨qe,e⟩).symm;rw[<-e2]
     ·rw[QC (show ¬j=_ by omega)];exact(QC (fun h=>e h.2)).symm
    rw[<-ft];exact Dv
   ·refine WX.skip ?_;refine zJ ⟨c9,⟨dx,?_⟩,o6⟩;have ft:(fun j:Nat=>if X.kind≠3/\((j:Nat):Int)=X.to then zY L ((j:Nat):Int) k++[(k:Int)]else zY L ((j:Nat):Int) k)=fun j:Nat=>if(X.kind=2/\X.aK≠X.to)/\(j:Int)=X.aK then(if X.kind≠3/\(j:Int)=X.to then zY L (j:Int) k++[(k:Int)]else zY L (j:Int) k)++[(k:Int)]else(if X.kind≠3/\(j:Int)=X.to then zY L (j:Int) k++[(k:Int)]else zY L (j:Int) k):=by
     funext j;exact(QC (fun h=>hd h.1)).symm
    rw[<-ft];exact nW
  rintro t8 h8 xO ⟨gU,⟨qy,MD⟩,o8⟩;refine go ?_;refine zA (k+1) ω ⟨Wy,ω,gU,qy,?_⟩;have ft:(fun j:Nat=>if(X.kind=2/\X.aK≠X.to)/\(j:Int)=X.aK then(if X.kind≠3/\(j:Int)=X.to then zY L (j:Int) k++[(k:Int)]else zY L (j:Int) k)++[(k:Int)]else(if X.kind≠3/\(j:Int)=X.to then zY L (j:Int) k++[(k:Int)]else zY L (j:Int) k))=fun j:Nat=>zY L (j:Int) (k+1):=by
   funext j;rw[bq j];have:=gh j;by_cases c1:X.kind≠3/\(j:Int)=X.to
   ·rw[QC (fun h=>h.1.2 (h.2.symm.trans c1.2)),QJ c1,QJ (this.2 (.inl c1))]
   ·by_cases c2:(X.kind=2/\X.aK≠X.to)/\(j:Int)=X.aK
    ·rw[QJ c2,QC c1,QJ (this.2 (.inr c2))]
    ·rw[QC c2,QC c1,QC (fun h=>(this.1 h).elim c1 c2)]
  rw[<-ft];exact MD
 ·have fz:k=L.length:=ω
  subst fz;have oc:=ar.own;refine go ?_;refine Xa oc ar.len ?_;refine VG (cs:=cells) oc e3 ?_ (hn:=ar.len) (hl:=ar.len) (h1:=ar.one);intro h6 e6 o6 u6;have nW:=ar.updC o6 u6;refine go ?_;refine rt ?_ (Vs WJ o6 (zMv ar.len) BI.nil);exact⟨⟨cells,rfl,ar.len,nW.all⟩,e6⟩
abbrev pO(xs:List Int)(b:Int):Int:=xs.getD b.toNat 0
abbrev qO(xs:List Int)(b:Int):Int:=xs.getD (16+b.toNat) 0
structure Dm(nx:Int->List Int)(xs:List Int):Prop where
 len:xs.length=32
 rpo:Rpo nx (fun b=>qO xs b)
 rl:Rl nx (fun b=>qO xs b) (fun b=>pO xs b)
 bnd:∀ b,Wx nx 0 b->0<=b/\b<16
def zSB(hA h:WA)(p:Value)(nx:Int->List Int)(xs:List Int)(a b:Int)(o:WB hA h p (xs.map I))(dm:Wi (Dm nx xs))(wa:Wx nx 0 a)(wb:Wx nx 0 b)(pa:pO xs a≠ -1)(pb:pO xs b≠ -1):
  G0 317 [p,I a,I b] h fun r h'=>(∃ m,r=I m/\Mt nx (fun b=>qO xs b) (fun b=>pO xs b) a b m)/\h=h':=by
 obtain⟨g,rfl⟩:∃ g,p=.pointer (some ⟨g,0,none⟩):=let⟨g,_,_,e,_⟩:=o;⟨g,e⟩;have hl:=dm.out.len;refine en ?_;refine VD (fun x=>(qO xs x.1).toNat+(qO xs x.2).toNat) (fun(x:Int×Int) t h1=>h=h1/\zC t 1=I x.1/\zC t 2=I x.2/\Wx nx 0 x.1/\Wx nx 0 x.2/\pO xs x.1≠ -1/\pO xs x.2≠ -1/\Wi (∀ m,Mt nx (fun b=>qO xs b) (fun b=>pO xs b) x.1 x.2 m->Mt nx (fun b=>qO xs b) (fun b=>pO xs b) a b m)) (a,b) ?_ ?_
 ·exact⟨rfl,WJ,WJ,wa,wb,pa,pb,⟨fun m h=>h⟩⟩
 rintro⟨c,d⟩ t _ ab ⟨rfl,s1,s2,wc,wd,pc,pd,hm⟩;simp only at s1 s2 wc wd pc pd hm;have bc:=dm.out.bnd c wc;have bd:=dm.out.bnd d wd;refine F0 ?_ ?_<;>intro he;case refine_2=>
  subst he;refine gr ?_;exact⟨⟨c,rfl,hm.out c (Mt.same wc pc)⟩,rfl⟩
 have ah:qO xs c≠qO xs d:=fun e=>he (dm.out.rpo.inj c d wc wd e);have nc:=dm.out.rpo.nn c wc;have nd:=dm.out.rpo.nn d wd;try simp only at nc nd
 refine go ?_;refine VD (fun x=>(qO xs x).toNat) (fun(x:Int) t h1=>h=h1/\zC t 1=I x/\Wx nx 0 x/\pO xs x≠ -1/\(qO xs x<=qO xs c/\0<=qO xs x)/\Wi (∀ m,Mt nx (fun b=>qO xs b) (fun b=>pO xs b) x d m->Mt nx (fun b=>qO xs b) (fun b=>pO xs b) a b m)) c ?_ ?_
 ·exact⟨rfl,WJ,wc,pc,⟨Q1 _,nc⟩,hm⟩
 rintro x t _ br ⟨rfl,s1,wx,px,hx,kP⟩;have bx:=dm.out.bnd x wx;refine F0 ?_ ?_<;>intro hf
 ·have cw:x≠0:=fun e=>by subst e;have:=dm.out.rpo.zero;have HF:qO xs d<qO xs 0:=hf;omega
  obtain⟨u1,u2,u3⟩:=dm.out.rl.up x wx cw px;have nu:=dm.out.rpo.nn _ u1;try simp only at u2 u3 nu
  refine go ?_;exact zA (pO xs x) ω ⟨rfl,WJ,u1,u2,⟨ω,nu⟩,⟨fun m h=>kP.out m (UC dm.out.rpo dm.out.rl wx wd px hf h)⟩⟩
 refine go ?_;refine VD (fun y=>(qO xs y).toNat) (fun(y:Int) t h1=>h=h1/\zC t 2=I y/\Wx nx 0 y/\pO xs y≠ -1/\(qO xs y<=qO xs d/\0<=qO xs y)/\Wi (∀ m,Mt nx (fun b=>qO xs b) (fun b=>pO xs b) x y m->Mt nx (fun b=>qO xs b) (fun b=>pO xs b) a b m)) d ?_ ?_
 ·exact⟨rfl,WJ,wd,pd,⟨Q1 _,nd⟩,kP⟩
 rintro y t _ dw ⟨rfl,s2,wy,py,hy,iW⟩;have bY:=dm.out.bnd y wy;refine F0 ?_ ?_<;>intro hg
 ·have ME:y≠0:=fun e=>by subst e;have:=dm.out.rpo.zero;have ir:qO xs x<qO xs 0:=hg;omega
  obtain⟨u1,u2,u3⟩:=dm.out.rl.up y wy ME py;have nu:=dm.out.rpo.nn _ u1;try simp only at u2 u3 nu
  refine go ?_;exact zA (pO xs y) ω ⟨rfl,WJ,u1,u2,⟨ω,nu⟩,⟨fun m h=>iW.out m (Xx dm.out.rpo dm.out.rl wx wy py hg h)⟩⟩
 refine go ?_;have key:∀ (C D X Y:Int),C≠D->0<=X->X<=C->0<=Y->Y<=D->X<=D->Y<=X->X.toNat+Y.toNat<C.toNat+D.toNat:=by intros;omega
 exact zA (x,y) (key _ _ _ _ ah hx.2 hx.1 hy.2 hy.1 hf hg) ⟨rfl,WJ,WJ,wx,wy,px,py,iW⟩
def B2(nx:Int->List Int)(e:List Int)(S:Int->Prop):Prop:=∀ e1 u e2,e=e1++u::e2->S u\/∃ a∈e2,u∈nx a
def B2.nil{nx:Int->List Int}{S:Int->Prop}:B2 nx [] S:=fun e1 u e2 h=>by cases e1<;>cases h
def B2.append{nx:Int->List Int}{e f:List Int}{S:Int->Prop}(h:B2 nx e S)(k:B2 nx f S):B2 nx (e++f) S:=by
 intro e1 u e2 he;rcases List.append_eq_append_iff.1 he with⟨a,h1,h2⟩|⟨a,h1,h2⟩
 ·exact k a u e2 h2
 ·cases a with
  |nil=>exact k [] u e2 (by simpa using h2.symm)
  |cons x a=>
   simp only[JG,List.cons.injEq]at h2;obtain⟨rfl,rfl⟩:=h2;rcases h e1 u a h1 with h|⟨b,hb,hu⟩
   ·exact .inl h
   ·exact .inr ⟨b,by simp[hb],hu⟩
def zRa{nx:Int->List Int}:∀ (n:Nat) (b:Int) (s:DS),∃ e,(ZO nx n b s).2=s.2++e/\B2 nx e (fun u=>u=b):=by
 intro n;induction n with
 |zero=>intro b s;exact⟨[],by simp[ZO],B2.nil⟩
 |succ n ih=>
  intro b s;by_cases aR:(s.1.lookup b).isSome
  ·rw[zCM aR];exact⟨[],by simp,B2.nil⟩
  ·have go:∀ (l:List Int) (t:DS),(∀ c∈l,c∈nx b)->∃ e,(l.foldl (fun(t:DS) (c:Int)=>ZO nx n c t) t).2=t.2++e/\B2 nx e (fun u=>u∈nx b):=by
    intro l;induction l with
    |nil=>intro t _;exact⟨[],by simp,B2.nil⟩
    |cons x l cj=>
     intro t hl;obtain⟨e,h1,h2⟩:=ih x t;obtain⟨f,h3,h4⟩:=cj (ZO nx n x t) (fun c hc=>hl c (by simp[hc]));refine⟨e++f,by rw[List.foldl_cons,h3,h1,Qd],B2.append (fun e1 u e2 he=> ?_) h4⟩;rcases h2 e1 u e2 he with h|h
     ·rw[h];exact .inl (hl x (by simp))
     ·exact .inr h
   obtain⟨e,h1,h2⟩:=go (nx b) (s.1++[(b,(s.1.length:Int))],s.2) (fun c hc=>hc);refine⟨e++[b],?_,fun e1 u e2 he=> ?_⟩
   ·conv=>lhs;unfold ZO
    rw[QC aR];simp only;rw[h1,Qd]
   ·rcases List.eq_nil_or_concat e2 with rfl|⟨e3,x,rfl⟩
    ·obtain⟨_,h5⟩:=List.append_inj' (s₁:=e) (t₁:=[b]) (s₂:=e1) (t₂:=[u]) he rfl;cases h5;exact .inl rfl
    ·have Cx:e++[b]=(e1++u::e3)++[x]:=by rw[he];simp
     obtain⟨h5,h6⟩:=List.append_inj' Cx rfl;cases h6;rcases h2 e1 u e3 h5 with h|⟨a,ha,hu⟩
     ·exact .inr ⟨b,by simp,h⟩
     ·exact .inr ⟨a,by simp[ha],hu⟩
def zHc{T:List WF}{F:List We}{f:Int}(h:(zF T F f 0).2=0):∀ i,i<(zh T F f).1.length->(zh T F f).1.getD i 0≠0->∃ j,j<i/\(zh T F f).1.getD i 0∈W5 (zF T F f 0).1 ((zh T F f).1.getD j 0):=by
 intro i hi ah;have eO:(zh T F f).1=(zAb T F f).reverse:=by unfold zh;rw[QC (by rw[h];exact fun e=>e rfl)]
 obtain⟨e,h1,h2⟩:=zRa (nx:=W5 (zF T F f 0).1) (zF T F f 0).1.length 0 ([],[]);have eP:zAb T F f=e:=by
  have:zAb T F f=(ZO (W5 (zF T F f 0).1) (zF T F f 0).1.length 0 ([],[])).2:=rfl;rw[this,h1];rfl
 rw[eO,eP]at hi ah |-;rw[List.length_reverse]at hi;have ei:∀ k,k<e.length->e.reverse.getD k 0=e.getD (e.length-1-k) 0:=fun k hk=>by
  rw[QD,List.getElem?_reverse hk,QD]
 have cN:e.length-1-i<e.length:=ω
 have cO:e=e.take (e.length-1-i)++e.getD (e.length-1-i) 0::e.drop (e.length-1-i+1):=by
  conv=>lhs;rw[<-GR (e.length-1-i) e,GB cN]
  simp[List.getD,QB cN]
 rw[ei i hi]at ah |-;rcases h2 _ _ _ cO with h3|⟨a,ha,hu⟩
 ·exact absurd h3 ah
 ·obtain⟨m,hm,mF⟩:=JZ.1 ha;rw[Ga]at hm;rw[List.getElem_drop]at mF;refine⟨e.length-1-(e.length-1-i+1+m),ω,?_⟩;rw[ei _ ω];have:e.getD (e.length-1-(e.length-1-(e.length-1-i+1+m))) 0=a:=by
   rw[show e.length-1-(e.length-1-(e.length-1-i+1+m))=e.length-1-i+1+m by omega,<-mF];simp[List.getD,QB (show e.length-1-i+1+m<e.length by omega)]
  rw[this];exact hu
def zSb{T:List WF}{n:Int}{f:We}(h:B8 T n f=true):zL1 f.blocks:=by
 refine⟨(zMh h).1,fun k hk=> ?_⟩;unfold B8 at h;split at h
 ·cases h
 ·rw[Ge,G4]at h;have az:=zH (l:=f.blocks) (i:=k) hk;have du:=h _ az;unfold zD4 at du;simp only[GM,not_or,JY,Bool.not_eq_false']at du;have he:zB6 (f.blocks.getD k default).fin (szL T n f)=true:=by simpa using du.2
  unfold zB6 zp szL at he;split at he
  ·rename_i cV;simp only[QI,Qc]at he;refine⟨.inl cV,fun _=>by omega,fun h2=>by omega⟩
  ·rename_i cV;split at he
   ·rename_i aU;simp only[QI,Qc]at he;exact⟨.inr (.inl aU),fun _=>by omega,fun _=>by omega⟩
   ·rename_i aU;split at he
    ·rename_i cG;exact⟨.inr (.inr cG),fun h=>by omega,fun h=>by omega⟩
    ·cases he
def zJP{T:List WF}{F:List We}{f b:Int}(h:(zF T F f b).2=0):zL1 (zF T F f b).1:=by
 obtain⟨_,_,h3,h4⟩:=Zh h;have aq:=zCT h4;rw[h3];exact zSb ((yg aq.2.2).2.2.2 _ (zH (l:=F) (i:=f.toNat) ω))
def zOJ{T:List WF}{F:List We}{f:Int}(h:(zF T F f 0).2=0){pos:Int->Int}(hp:∀ i,i<(zh T F f).1.length->pos ((zh T F f).1.getD i 0)=i):Rpo (W5 (zF T F f 0).1) pos:=by
 obtain⟨uU,Dw,⟨l,iX⟩,mG,uV,mI,uW⟩:=zCU h;have dL:=zHc h;have az:∀ b,Wx (W5 (zF T F f 0).1) 0 b->∃ i,i<(zh T F f).1.length/\(zh T F f).1.getD i 0=b:=fun b w=>zB8 (mG b ((zAU h).2 w));have hw:∀ i,i<(zh T F f).1.length->Wx (W5 (zF T F f 0).1) 0 ((zh T F f).1.getD i 0):=fun i=>by
  induction i using Nat.strongRecOn with
  |_ i ih=>
   intro hi;by_cases e:(zh T F f).1.getD i 0=0
   ·rw[e];exact .here
   ·obtain⟨j,hj,hm⟩:=dL i hi e;exact .step (ih j hj ω) hm
 refine⟨?_,fun b w=> ?_,fun a b wa wb e=> ?_,fun b w hb=> ?_⟩
 ·have:=hp 0 (by rw[iX];simp);rw[show(zh T F f).1.getD 0 0=0 by rw[iX];rfl]at this;exact this
 ·obtain⟨i,hi,rfl⟩:=az b w;rw[hp i hi];omega
 ·obtain⟨i,hi,rfl⟩:=az a wa;obtain⟨j,hj,rfl⟩:=az b wb;rw[hp i hi,hp j hj]at e;have:i=j:=ω
  rw[this]
 ·obtain⟨i,hi,rfl⟩:=az b w;obtain⟨j,hj,hm⟩:=dL i hi hb;exact⟨_,hw j ω,hm,by rw[hp i hi,hp j ω];omega⟩
def zEe{T:List WF}{F:List We}{f:Int}(h:(zF T F f 0).2=0):(zh T F f).1.Nodup:=by
 obtain⟨_,bN,_,_⟩:=Zh h;obtain⟨hlen,aq⟩:=Zw h;obtain⟨nd,_,_⟩:=zKd aq (a:=0) ⟨Q1 _,bN⟩;unfold zh;rw[QC (by rw[h];exact fun e=>e rfl)];simp only;exact(List.reverse_perm _).nodup_iff.2 nd
def zAW{l:List Int}(h:l.Nodup){i j:Nat}(hi:i<l.length)(hj:j<l.length)(e:l.getD i 0=l.getD j 0):i=j:=by
 simp only[List.getD,QB hi,QB hj,GG]at e;exact(List.getElem_inj h).1 e
def ZU{xs:List Int}{i:Nat}{v:Int}{k:Nat}(hi:i<xs.length):(xs.set i v).getD k 0=if k=i then v else xs.getD k 0:=zCO hi
structure Rnd(nx:Int->List Int)(qs xs:List Int)(k:Nat):Prop where
 dm:Dm nx xs
 qs:xs.drop 16=qs
 far:∀ c,Far nx (fun b=>pO xs b) k c
 un:∀ c,0<=c->c<16->¬Wx nx 0 c->pO xs c= -1
 all:1<=k->∀ c,Wx nx 0 c->pO xs c≠ -1
structure Md(nx:Int->List Int)(O qs dF xs:List Int)(k m:Nat):Prop where
 dm:Dm nx xs
 qs:xs.drop 16=qs
 far:∀ c,Far nx (fun b=>pO xs b) k c
 un:∀ c,0<=c->c<16->¬Wx nx 0 c->pO xs c= -1
 pre:∀ i,i<m->Far nx (fun b=>pO xs b) (k+1) (O.getD i 0)/\pO xs (O.getD i 0)≠ -1
 same:∀ j:Nat,j<16->(∀ i,i<m->i≠0->O.getD i 0≠(j:Int))->xs.getD j 0=dF.getD j 0
 fix:xs=dF->∀ i,i<m->i≠0->∀ a,Wx nx 0 a->O.getD i 0∈nx a->pO xs a≠ -1->Bv (fun b=>pO xs b) (pO xs (O.getD i 0)) a
def zKb{nx:Int->List Int}{p:Int->Int}{k:Nat}(h:p 0=0):Far nx p k 0:=fun x hx=>
 ⟨by rw[h];decide,fun ha=>hx.ne (Bv.zero ha).symm⟩
def zT4{xs:List Int}{b v:Int}(hl:xs.length=32)(hb:0<b/\b<16):(fun c=>pO (xs.set b.toNat v) c)=upd (fun c=>pO xs c) b v:=by
 funext c;unfold upd;show(xs.set b.toNat v).getD c.toNat 0=_;rw[ZU ω];by_cases e:c=b
 ·rw[QJ (by rw[e]),QJ e]
 ·rw[QC ω,QC e]
def zTP{xs:List Int}{b v:Int}(hl:xs.length=32)(hb:0<b/\b<16):(fun c=>qO (xs.set b.toNat v) c)=fun c=>qO xs c:=by
 funext c;show(xs.set b.toNat v).getD (16+c.toNat) 0=_;rw[ZU ω,QC ω]
def zQM{xs:List Int}{b v:Int}(hb:0<b/\b<16):(xs.set b.toNat v).drop 16=xs.drop 16:=by
 rw[List.drop_set,QJ ω]
def Xu{nx:Int->List Int}{O qs xs:List Int}{k:Nat}(r:Rnd nx qs xs k)(h0:O.getD 0 0=0):Md nx O qs xs xs k 1 where
 dm:=r.dm
 qs:=r.qs
 far:=r.far
 un:=r.un
 pre:=fun i hi=>by
  have:i=0:=ω
  subst this;rw[h0];have hz:=r.dm.rl.zero;exact⟨zKb hz,by show pO xs 0≠ -1;have gE:pO xs 0=0:=hz;rw[gE];decide⟩
 same:=fun j _ _=>rfl
 fix:=fun _ i hi j9=>by omega
def Md.step{nx:Int->List Int}{O qs dF xs:List Int}{k m:Nat}{v:Int}(g:Md nx O qs dF xs k m)(hnd:O.Nodup)(hm:m<O.length)(gg:0<m)(aW:O.getD m 0≠0)(hw:Wx nx 0 (O.getD m 0))(bt:Best nx (fun b=>qO xs b) (fun b=>pO xs b) (O.getD m 0) v)(eM:dF.length=32):Md nx O qs dF (xs.set (O.getD m 0).toNat v) k (m+1):=by
 have hl:=g.dm.len;have aR:=g.dm.bnd _ hw;have hb:0<O.getD m 0/\O.getD m 0<16:=ω
 have hv:v≠ -1:=fun e=>by have:=g.dm.bnd _ bt.way;omega
 have ep:=zT4 (v:=v) hl hb;have eq:=zTP (v:=v) hl hb;have me:=zTZ g.dm.rl aW hw bt hv;have dh:∀ i,i<m->O.getD i 0≠O.getD m 0:=fun i hi e=>by have:=zAW hnd ω hm e;omega
 refine⟨⟨by rw[Gh];exact hl,by rw[eq];exact g.dm.rpo,by rw[eq,ep];exact me,g.dm.bnd⟩,by rw[zQM hb];exact g.qs,by rw[ep];exact zO5 g.dm.rl aW hw bt hv g.far,fun c h1 h2 h3=> ?_,fun i hi=> ?_,fun j hj hn=> ?_,fun he i hi j9 a wa ha pa=> ?_⟩
 ·have:pO (xs.set (O.getD m 0).toNat v) c=upd (fun c=>pO xs c) (O.getD m 0) v c:=congrFun ep c;rw[this];unfold upd;rw[QC (fun e=>h3 (by rw[e];exact hw))];exact g.un c h1 h2 h3
 ·have hp:pO (xs.set (O.getD m 0).toNat v) (O.getD i 0)=upd (fun c=>pO xs c) (O.getD m 0) v (O.getD i 0):=congrFun ep _;rw[hp,ep];by_cases e:i=m
  ·subst e;exact⟨zD3 g.dm.rl aW hw bt hv g.far,by unfold upd;rw[QJ rfl];exact hv⟩
  ·obtain⟨f1,f2⟩:=g.pre i ω;exact⟨zSQ g.dm.rl aW hw bt hv g.far f1,by unfold upd;rw[QC (dh i ω)];exact f2⟩
 ·rw[ZU ω,QC (fun e=>hn m ω ω ω)];exact g.same j hj fun i hi j9=>hn i ω j9
 ·have hs:=g.same (O.getD m 0).toNat ω (fun i hi _ e=>dh i hi ω);have xn:v=xs.getD (O.getD m 0).toNat 0:=by
   rw[hs,<-he,ZU ω,QJ rfl]
  have MF:xs.set (O.getD m 0).toNat v=xs:=by
   refine zDh (by simp) fun j hj=> ?_;rw[ZU ω];by_cases e:j=(O.getD m 0).toNat
   ·rw[QJ e,e];exact xn
   ·rw[QC e]
  rw[MF]at he pa |-;by_cases e:i=m
  ·subst e;have xU:pO xs (O.getD i 0)=v:=xn.symm;rw[xU];exact bt.anc a wa ha pa
  ·exact g.fix he i ω j9 a wa ha pa
def Md.done{nx:Int->List Int}{O qs dF xs:List Int}{k:Nat}(g:Md nx O qs dF xs k O.length)(az:∀ c,Wx nx 0 c->∃ i,i<O.length/\O.getD i 0=c):Rnd nx qs xs (k+1) where
 dm:=g.dm
 qs:=g.qs
 far:=fun c x hx=>by
  obtain⟨i,hi,rfl⟩:=az c hx.way;exact(g.pre i hi).1 x hx
 un:=g.un
 all:=fun _ c w=>by
  obtain⟨i,hi,rfl⟩:=az c w;exact(g.pre i hi).2
def zLp{nx:Int->List Int}{O qs dF xs:List Int}{k K N:Nat}(r:Rnd nx qs dF k)(g:Md nx O qs dF xs k O.length)(az:∀ c,Wx nx 0 c->∃ i,i<O.length/\O.getD i 0=c)(h0:O.getD 0 0=0)(hN:∀ c,Wx nx 0 c->0<=c/\c<(N:Int))(hK:∀ x b,0<=x/\x<(N:Int)->Av nx x b->B3 nx x K b)(hk:K<=k)(cV:1<=k)(eM:dF.length=32)(hnd:O.Nodup)(kW:∀ i,i<O.length->Wx nx 0 (O.getD i 0)):xs=dF:=by
 have hl:=g.dm.len;have av:∀ (p:Int->Int),(∀ c,Far nx p k c)->Rl nx (fun b=>qO xs b) p->∀ x c,Av nx x c->¬Bv p x c:=fun p hf hr x c uX ha=>by
  obtain⟨j,hj⟩:=uX;have wx:=(hr.le ha hj.way).1;exact(hf c x ((hK x c (hN x wx) ⟨j,hj⟩).mono hk)).2 ha
 have hq:(fun b=>qO dF b)=fun b=>qO xs b:=by
  funext b;have h1:∀ (l:List Int),qO l b=(l.drop 16).getD b.toNat 0:=fun l=>by simp[List.getD]
  rw[h1,h1,r.qs,g.qs]
 have bE:Rl nx (fun b=>qO xs b) (fun b=>pO dF b):=by rw[<-hq];exact r.dm.rl
 have rd:=g.done az;refine zDh ω fun j hj=> ?_;by_cases kf:j<16
 ·by_cases hw:Wx nx 0 (j:Int)
  ·by_cases hj0:j=0
   ·exact g.same j kf fun i hi j9 e=>j9 (zAW hnd hi ω (by rw[h0,e,hj0];rfl))
   ·have:=zKr g.dm.rpo g.dm.rl bE (av _ g.far g.dm.rl) (av _ r.far bE) hw ω (rd.all ω _ hw) (r.all cV _ hw);simpa [pO]using this
  ·exact g.same j kf fun i hi j9 e=>hw (by rw[<-e];exact kW i hi)
 ·have h1:=congrArg (fun l=>l.getD (j-16) 0) (g.qs.trans r.qs.symm);simp only[QD,GN]at h1 |-;rw[show 16+(j-16)=j by omega]at h1;exact h1
def Bst(nx:Int->List Int)(xs:List Int)(b:Int)(A:List Int)(j:Nat)(v:Int):Prop:=
 (v= -1/\∀ i,i<j->pO xs (A.getD i 0)= -1)\/
 (v≠ -1/\Wx nx 0 v/\pO xs v≠ -1/\(∀ i,i<j->pO xs (A.getD i 0)≠ -1->Bv (fun b=>pO xs b) v (A.getD i 0))/\∀ y,BU nx y b->y≠b->BU nx y v)
def Bst.skip{nx:Int->List Int}{xs:List Int}{b v:Int}{A:List Int}{j:Nat}(h:Bst nx xs b A j v)(hp:pO xs (A.getD j 0)= -1):Bst nx xs b A (j+1) v:=by
 rcases h with⟨h1,h2⟩|⟨h0,h1,h2,h3,h4⟩
 ·refine .inl ⟨h1,fun i hi=> ?_⟩;by_cases e:i=j
  ·rw[e];exact hp
  ·exact h2 i ω
 ·refine .inr ⟨h0,h1,h2,fun i hi hn=> ?_,h4⟩;by_cases e:i=j
  ·rw[e]at hn;exact absurd hp hn
  ·exact h3 i ω hn
def Bst.first{nx:Int->List Int}{xs:List Int}{b:Int}{A:List Int}{j:Nat}(h:Bst nx xs b A j (-1))(hw:Wx nx 0 (A.getD j 0))(kM:A.getD j 0≠ -1)(hb:b∈nx (A.getD j 0))(hp:pO xs (A.getD j 0)≠ -1):Bst nx xs b A (j+1) (A.getD j 0):=by
 rcases h with⟨_,h2⟩|⟨h0,_⟩
 ·refine .inr ⟨kM,hw,hp,fun i hi hn=> ?_,fun y hy x7=>hy.pred x7 hb⟩;by_cases e:i=j
  ·rw[e];exact .here
  ·exact absurd (h2 i ω) hn
 ·exact absurd rfl h0
def Bst.meet{nx:Int->List Int}{xs:List Int}{b v m:Int}{A:List Int}{j:Nat}(h:Bst nx xs b A j v)(hv:v≠ -1)(gg:m≠ -1)(hb:b∈nx (A.getD j 0))(hm:Mt nx (fun b=>qO xs b) (fun b=>pO xs b) v (A.getD j 0) m):Bst nx xs b A (j+1) m:=by
 rcases h with⟨h1,_⟩|⟨h0,h1,h2,h3,h4⟩
 ·exact absurd h1 hv
 ·refine .inr ⟨gg,hm.way,hm.done,fun i hi hn=> ?_,fun y hy x7=>hm.dom y (h4 y hy x7) (hy.pred x7 hb)⟩;by_cases e:i=j
  ·rw[e];exact hm.right
  ·exact hm.left.trans (h3 i ω hn)
def Bst.best{nx:Int->List Int}{xs:List Int}{b v:Int}{A:List Int}(dm:Dm nx xs)(h:Bst nx xs b A A.length v)(hA:∀ a,Wx nx 0 a->b∈nx a->∃ i,i<A.length/\A.getD i 0=a){a:Int}(wa:Wx nx 0 a)(ha:b∈nx a)(pa:pO xs a≠ -1)(aD:qO xs a<qO xs b):Best nx (fun b=>qO xs b) (fun b=>pO xs b) b v:=by
 obtain⟨i,hi,e⟩:=hA a wa ha;rcases h with⟨h1,h2⟩|⟨h0,h1,h2,h3,h4⟩
 ·exact absurd (by rw[<-e];exact h2 i hi) pa
 ·refine⟨h1,h2,?_,fun c wc hc pc=> ?_,h4⟩
  ·have:=(dm.rl.le (by have:=h3 i hi (by rw[e];exact pa);rw[e]at this;exact this) wa).2.1;have h5:qO xs v<=qO xs a:=this;show qO xs v<qO xs b;omega
  ·obtain⟨i,hi,e⟩:=hA c wc hc;have:=h3 i hi (by rw[e];exact pc);rw[e]at this;exact this
structure Rul(nx:Int->List Int)(xs:List Int):Prop where
 dm:Dm nx xs
 all:∀ b,Wx nx 0 b->pO xs b≠ -1
 dom:∀ y b,Wx nx 0 b->(Bv (fun b=>pO xs b) y b↔BU nx y b)
 lt:∀ b,Wx nx 0 b->qO xs b<16
 un:∀ c,0<=c->c<16->¬Wx nx 0 c->pO xs c= -1
def zT2{nx:Int->List Int}{O qs xs:List Int}{k:Nat}(g:Md nx O qs xs xs k O.length)(az:∀ c,Wx nx 0 c->∃ i,i<O.length/\O.getD i 0=c)(h0:O.getD 0 0=0)(hq:∀ b,Wx nx 0 b->qO xs b<16):Rul nx xs:=by
 have rd:=g.done az;have aP:=rd.all ω;refine⟨g.dm,aP,fun y b w=>⟨fun ha uX=> ?_,fun hd=>V4 g.dm.rpo g.dm.rl (qO xs b).toNat b y (by have h5:=g.dm.rpo.nn b w;have h5:0<=qO xs b:=h5;show qO xs b<=_;omega) w (aP b w) hd⟩,hq,g.un⟩;obtain⟨n,uX⟩:=uX;induction uX with
 |here h=>exact h (Bv.zero ha).symm
 |step h1 hc ah ih=>
  rename_i n a c;cases ha with
  |here=>exact ah rfl
  |up hb hp hu=>
   obtain⟨i,hi,e⟩:=az c w;have j9:i≠0:=fun e2=>hb (by rw[<-e,e2,h0]);have:=g.fix rfl i hi j9 a h1.way (by rw[e];exact hc) (aP a h1.way);rw[e]at this;exact ih h1.way (hu.trans this)
def zQe{h0 h:WA}{v:Value}{l:List Int}(o:WP h0 h v l)(hl:0<l.length):∃ r,Zk 1 v (some 1) none none=some r/\Wc h r (l.drop 1):=by
 rcases o with⟨rfl,rfl⟩|⟨g,g1,g2,rfl,g3⟩
 ·simp at hl
 ·refine⟨.slice (some ⟨g,1,none⟩) (l.length-1) 1,?_,?_⟩
  ·have h1:Nat.ble 1 l.length=true:=QK hl;have h2:Nat.ble l.length l.length=true:=QK (QF _);simp[Zk,h1,h2]
  ·exact⟨by simp,.inr ⟨g,1,l.map I,by simp,Z1 g3,by rw[yz (by simp;omega),List.map_drop,Q3 (by simp)],g2⟩⟩
def zQV{h0 h h':WA}{p q:Value}{cells:List Value}(o:WB h0 h q cells)(u:Wo p h h')(ah:p≠q):WB h0 h' q cells:=by
 obtain⟨g,g1,g2,rfl,g3⟩:=o;exact⟨g,g1,QG g2 u.1,rfl,(u.2 g g2 ah).trans g3⟩
def zMR(l:List Int)(b:Int):qO l b=(l.drop 16).getD b.toNat 0:=by simp[qO,List.getD]
def zNz{xs ys:List Int}(hx:xs.take 16=ys.take 16)(hy:xs.drop 16=ys.drop 16):xs=ys:=by
 rw[<-GR 16 xs,hx,hy,GR]
def zOp{L:List Wk}{b:Int}{A:List Int}(hA:zY L b L.length=A){j:Nat}(hj:j<A.length):(0<=A.getD j 0/\A.getD j 0<(L.length:Int))/\b∈W5 L (A.getD j 0):=by
 refine zEf.1 ?_;rw[hA,QD,QB hj];exact JE hj
def zTQ{hB h:WA}{cells:List Value}{A:Nat->List Int}(hl:cells.length=16)(aP:∀ j,j<16->WP hB h (cells.getD j undef) (A j)):zK cells=true:=by
 unfold zK;rw[QX];intro x hx;obtain⟨j,hj,rfl⟩:=JZ.1 hx;have e:cells.getD j undef=cells[j]:=by simp[List.getD,QB hj]
 have:=aP j ω;rw[e]at this;rcases this with⟨h,_⟩|⟨_,_,_,h,_⟩<;>rw[h]
def zEk(l:List Int):zAJ (.agg (l.map I).toArray)=true:=by
 show(l.map I).all yX=true;rw[QX];intro x hx;obtain⟨n,_,rfl⟩:=Qw.1 hx;rfl
def zTt(h:WA)(vt vf:Value)(T:List WF)(F:List We)(f:Int)(tt:SA h)(hm:h.mark<=h.n)(sm:Bd T F)(st:BB h vt T)(sf:BA h vf F)(hb:(zF T F f 0).2=0):
  G0 308 [.agg #[vt,vf],I f] h fun r h'=>(∃ p xs,r=p/\WB h h' p (xs.map I)/\Rul (W5 (zF T F f 0).1) xs)/\WH h h':=by
 obtain⟨_,bN,Dx,kW⟩:=Zh hb;have dc:=zCT kW;obtain⟨hlen,aq⟩:=Zw hb;have hE:=zJP hb;obtain⟨uU,Dw,⟨l0,iX⟩,mG,uV,mI,uW⟩:=zCU hb;have hnd:=zEe hb;have dL:=zHc hb;have qz:∀ {pos:Int->Int},(∀ i,i<(zh T F f).1.length->pos ((zh T F f).1.getD i 0)=i)->Rpo (W5 (zF T F f 0).1) pos:=fun hp=>zOJ hb hp;have az:∀ c,Wx (W5 (zF T F f 0).1) 0 c->∃ i,i<(zh T F f).1.length/\(zh T F f).1.getD i 0=c:=fun c w=>zB8 (mG c ((zAU hb).2 w));have eD:∀ i,i<(zh T F f).1.length->Wx (W5 (zF T F f 0).1) 0 ((zh T F f).1.getD i 0):=fun i=>by
  induction i using Nat.strongRecOn with
  |_ i ih=>
   intro hi;by_cases e:(zh T F f).1.getD i 0=0
   ·rw[e];exact .here
   ·obtain⟨j,hj,hm⟩:=dL i hi e;exact .step (ih j hj ω) hm
 have jl:(zh T F f).1.getD 0 0=0:=by rw[iX];rfl
 have Dy:0<(zh T F f).1.length:=by rw[iX];simp
 have iY:∀ c,Wx (W5 (zF T F f 0).1) 0 c->0<=c/\c<((zF T F f 0).1.length:Int):=fun c w=>by
  induction w with
  |here=>exact⟨Q1 _,bN⟩
  |step _ hc ih=>exact aq _ ih _ hc
 obtain⟨K,hK⟩:=zH5 aq ω;have Dz:(zh T F f).2=0:=by unfold zh;rw[QC (by rw[hb];exact fun e=>e rfl)]
 clear uU iX mG uV uW;replace mI:=Wi.mk mI;replace dL:=Wi.mk dL;replace qz:Wi (∀ {pos:Int->Int},(∀ i,i<(zh T F f).1.length->pos ((zh T F f).1.getD i 0)=i)->Rpo (W5 (zF T F f 0).1) pos):=Wi.mk qz;replace az:=Wi.mk az;replace eD:=Wi.mk eD;replace iY:=Wi.mk iY;replace hK:=Wi.mk hK;replace aq:=Wi.mk aq;refine en ?_;refine VH ?_;intro p2 h1 e1 o1;have o1:WB h h1 p2 [vt,vf]:=o1;refine go ?_;refine Vu ?_;refine go ?_;refine VA (zPH h1 vt vf T F f (tt.ext e1) (yV e1 hm) sm (st.ext e1) (BA.ext sf e1)) ?_;rintro _ h2 ⟨⟨x8,rfl,DA⟩,e2⟩;have aE:=e1.trans e2;have o2:=o1.ext e2;have eV:=BA.ext sf aE;have hF:=sm.funcs;obtain⟨lx,⟨vb,rfl,sb,fC⟩,fS,jW⟩:=yv (i:=f.toNat) eV ω;rw[<-Dx]at sb;rw[Dz];refine go ?_;refine VA (zPn h2 (yV aE hm) vb (zF T F f 0).1 sb hE) ?_;rintro _ h3 ⟨⟨cells,rfl,aO,mJ⟩,e3⟩;have bQ:=aE.trans e3;refine go ?_;refine WO.al ?_;intro p7 h4 e4 o4;have cg:=bQ.trans e4;refine VG (cs:=cells) o4 e4 ?_ (hn:=aO) (h1:=zTQ aO mJ);intro aW e5 o5 u5;have eb:=bQ.trans e5;have Il:Wc aW x8 (zh T F f).1:=DA.sl.ext (e3.trans e5);have HW:Wi (∀ j,j<16->Wc aW (cells.getD j undef) (zY (zF T F f 0).1 (j:Int) (zF T F f 0).1.length)):=⟨fun j hj=>(mJ j hj).sl.ext e5⟩;have o7:WB h aW p7 cells:=o5.since bQ;obtain⟨g7,rfl⟩:∃ g7,p7=.pointer (some ⟨g7,0,none⟩):=let⟨g,_,_,e,_⟩:=o7;⟨g,e⟩;have DC:WP h aW x8 (zh T F f).1:=(DA.ext (e3.trans e5)).since e1;clear o4 o5 u5 fS jW sb eV mJ DA;generalize hO:(zh T F f).1=O at *;generalize gh:W5 (zF T F f 0).1=nx at *;refine go ?_;refine VH ?_;intro p8 h6 e6 o6;obtain⟨g8,Tx,MG,rfl⟩:∃ g8,aW.n<=g8/\g8<h6.n/\p8=.pointer (some ⟨g8,0,none⟩):=let⟨g,a,b,c,_⟩:=o6;⟨g,a,b,c⟩;have o8:WB aW h6 (.pointer (some ⟨g8,0,none⟩)) ((List.replicate 32 (0:Int)).map I):=o6;clear o6;have de:aW.mark<=aW.n:=yV eb hm;refine go ?_;refine VD (fun k=>17-k) (fun(k:Nat) t h'=>zC t 33=I (k:Int)/\k<=16/\WH aW h'/\∃ xs:List Int,WB aW h' (.pointer (some ⟨g8,0,none⟩)) (xs.map I)/\xs.length=32/\Wi (∀ j,j<k->xs.getD j 0= -1/\xs.getD (16+j) 0= -1)) 0 ?_ ?_
 ·exact⟨WJ,ω,e6,_,o8,by simp,⟨fun j hj=>by omega⟩⟩
 rintro k t h7 ab ⟨Ty,hk,e7,xs,o9,lC,hx⟩;refine F0 ?_ ?_<;>intro hc
 ·have cF:k<16:=ω
  refine go ?_;refine VC 0 rfl rfl ?_;have oX:WB aW (inC (zB 0 h7)) (.pointer (some ⟨g8,0,none⟩)) (xs.map I):=o9;refine WU ?_;refine UO (j:=k) oX (by rw[e7.mark];exact de) ω ?_;intro X1 n1 jT u1 w1;have Tz:WB aW (inC X1) (.pointer (some ⟨g8,0,none⟩)) ((xs.set k (-1)).map I):=jT;have fw:(xs.set k (-1)).length=32:=by rw[Gh];exact lC
  refine WU ?_;refine UG (j:=16+k) jT e7 (by rw[e7.mark];exact de) n1 u1 w1 (by rw[Gh];omega) ?_;intro h8 e8 qA u8;refine go ?_;refine zA (k+1) ω ⟨WJ,ω,e8,_,qA,by simp[lC],⟨fun j hj=> ?_⟩⟩;simp only[ZU (show 16+k<(xs.set k (-1)).length by omega),ZU (show k<xs.length by omega)];by_cases e:j=k
  ·rw[QC ω,QJ e,QJ ω];exact⟨rfl,rfl⟩
  ·rw[QC ω,QC e,QC ω,QC ω];exact hx.out j ω
 have fz:k=16:=ω
 subst fz;replace hx:Wi (∀ j,j<32->xs.getD j 0= -1):=⟨fun j hj=>by
  by_cases h:j<16
  ·exact(hx.out j h).1
  ·have:=(hx.out (j-16) ω).2;rw[show 16+(j-16)=j by omega]at this;exact this⟩
 refine go ?_;have qB:Wc h7 x8 O:=Il.ext e7;have kg:∀ i,i<O.length->O.getD i 0∈O:=fun i hi=>by rw[QD,QB hi];exact JE hi
 have uY:∀ i,i<O.length->0<=O.getD i 0/\O.getD i 0<16:=fun i hi=>by have:=mI.out _ (kg i hi);omega
 replace kg:=Wi.mk kg;replace uY:=Wi.mk uY;refine VD (fun k=>O.length+1-k) (fun(k:Nat) t h'=>zC t 49=I (k:Int)/\k<=O.length/\WH aW h'/\∃ xs:List Int,WB aW h' (.pointer (some ⟨g8,0,none⟩)) (xs.map I)/\xs.length=32/\Wi ((∀ j,j<16->xs.getD j 0= -1)/\∀ i,i<k->xs.getD (16+(O.getD i 0).toNat) 0=i)) 0 ?_ ?_
 ·exact⟨WJ,ω,e7,_,o9,lC,⟨fun j hj=>hx.out j ω,fun i hi=>by omega⟩⟩
 clear e7 o9 qB;rintro k t2 h7 br ⟨TA,hk,e7,xs,o9,lC,hx⟩;have qB:Wc h7 x8 O:=Il.ext e7;refine F0 ?_ ?_<;>intro hc
 ·have cF:k<O.length:=ω
  obtain⟨dM,aI⟩:=uY.out k cF;refine go ?_;refine V8 (j:=16+(O.getD k 0).toNat) o9 e7 ω ?_;intro h8 e8 qA u8;refine go ?_;refine zA (k+1) ω ⟨WJ,ω,e8,_,qA,by simp[lC],⟨fun j hj=> ?_,fun i hi=> ?_⟩⟩
  ·rw[ZU ω,QC ω];exact hx.out.1 j hj
  ·rw[ZU ω];obtain⟨fR,jk⟩:=uY.out i ω;by_cases e:i=k
   ·subst e;rw[QJ rfl]
   ·rw[QC (fun e2=>e (zAW hnd ω cF ω))];exact hx.out.2 i ω
 have fz:k=O.length:=ω
 subst fz;refine go ?_;refine V8 (j:=0) o9 e7 ω ?_;clear e7;intro h8 e8 qA u8;obtain⟨dF,ki⟩:∃ l,l=xs.set 0 (0:Int):=⟨_,rfl⟩;rw[<-ki]at qA;have eM:dF.length=32:=by rw[ki];simp[lC]
 have x9:∀ j,j<16->dF.getD j 0=if j=0 then 0 else -1:=fun j hj=>by
  rw[ki,ZU ω];by_cases e:j=0
  ·rw[QJ e,QJ e]
  ·rw[QC e,QC e];exact hx.out.1 j hj
 have DD:∀ i,i<O.length->dF.getD (16+(O.getD i 0).toNat) 0=i:=fun i hi=>by
  rw[ki,ZU ω,QC ω];exact hx.out.2 i hi
 obtain⟨qs,DE⟩:∃ l,l=dF.drop 16:=⟨_,rfl⟩;have r0:Rnd nx qs dF 0:=by
  have hz:pO dF 0=0:=(x9 0 ω).trans (QJ rfl);have rp:Rpo nx (fun b=>qO dF b):=qz.out fun i hi=>DD i hi;refine⟨⟨eM,rp,?_,fun c w=>by have:=iY.out c w;omega⟩,DE.symm,?_,?_,?_⟩
  ·have cC:∀ b,Wx nx 0 b->b≠0->pO dF b= -1:=fun b w hb=>by
    have:=iY.out b w;exact(x9 b.toNat ω).trans (QC ω)
   exact⟨hz,fun b w hb hp=>absurd (cC b w hb) hp,fun b w hb hp=>absurd (cC b w hb) hp⟩
  ·intro c x hx;cases hx with
   |here h=>exact zKb (nx:=nx) (p:=fun b=>pO dF b) (k:=0) hz x (.here h)
  ·intro c h1 h2 h3;exact(x9 c.toNat ω).trans (QC (fun e=>h3 (by rw[show c=0 by omega];exact .here)))
  ·intro h;omega
 obtain⟨Im,jc,Io⟩:=zQe DC Dy;have uZ:∀ {l:List Int},l.drop 16=qs->∀ i,i<O.length->qO l (O.getD i 0)=i:=fun e i hi=>by
  rw[zMR,e,DE,<-zMR];exact DD i hi
 replace uZ:Wi (∀ {l:List Int},l.drop 16=qs->∀ i,i<O.length->qO l (O.getD i 0)=i):=Wi.mk uZ;clear x9 DD DE ki hx;refine go ?_;refine VD (fun p=>max K 1+1-p.1) (fun(p:Nat×List Int) t h'=>WH aW h'/\WB aW h' (.pointer (some ⟨g8,0,none⟩)) (p.2.map I)/\p.1<=max K 1/\Wi (Rnd nx qs p.2 p.1)) (0,dF) ?_ ?_
 ·exact⟨e8,qA,QQ _,⟨r0⟩⟩
 clear e8 qA u8 r0 o9 qB;rintro⟨k,xs⟩ t3 h9 dw ⟨e9,o9,MI,⟨r⟩⟩;simp only at o9 MI r;have lC:=r.dm.len;replace r:=Wi.mk r;refine go ?_;refine Vp (j:=0) (n:=16) o9 ω ?_;refine go ?_;refine WO.al ?_;intro lD gV dR iw;refine go ?_;refine VG (cs:=((xs.drop 0).take 16).map I) iw dR ?_ (hn:=by simp;omega) (h1:=zB7 _);intro jo gj lE Aa;have lE:WB aW jo lD (((xs.drop 0).take 16).map I):=lE.since e9;obtain⟨sJ,MJ,rfl⟩:∃ sJ,h9.n<=sJ/\lD=.pointer (some ⟨sJ,0,none⟩):=let⟨g,a,b,c,_⟩:=iw;⟨g,a,c⟩;have TB:g8<h9.n:=by obtain⟨q,q1,q2,q3,_⟩:=o9;cases q3;exact q2
 have ah:Value.pointer (some ⟨g8,0,none⟩)≠ .pointer (some ⟨sJ,0,none⟩):=fun e=>by cases e;omega
 have qC:=e9.trans gj;have o9:=o9.ext gj;have u0:Wc jo Im (O.drop 1):=Io.ext qC;refine go ?_;refine VT (i:=1) jc ?_ (hy:=rfl);refine go ?_;have Ab:(O.drop 1).length=O.length-1:=by simp
 refine VD (fun p=>O.length-p.1) (fun(p:Nat×List Int) t h'=>zC t 72=I (p.1:Int)/\p.1+1<=O.length/\WH aW h'/\WB aW h' (.pointer (some ⟨g8,0,none⟩)) (p.2.map I)/\WB aW h' (.pointer (some ⟨sJ,0,none⟩)) (((xs.drop 0).take 16).map I)/\Wi (Md nx O qs xs p.2 k (p.1+1))) (0,xs) ?_ ?_
 ·exact⟨WJ,ω,qC,o9,lE,⟨Xu r.out jl⟩⟩
 clear qC o9 lE u0;rintro⟨m,ys⟩ t4 gi kj ⟨MK,vg,aQ,cT,vh,g⟩;simp only at MK vg cT g;have TC:=g.out.dm.len;have vj:Wc gi Im (O.drop 1):=Io.ext aQ;refine F0 ?_ ?_<;>intro hc
 ·have iO:m+1<O.length:=ω
  have TD:m<(O.drop 1).length:=ω
  have ML:(O.drop 1).getD m 0=O.getD (m+1) 0:=by simp[List.getD,Nat.add_comm]
  obtain⟨dM,aI⟩:=uY.out (m+1) iO;have MM:=eD.out (m+1) iO;obtain⟨ja,cJ,MN⟩:=dL.out (m+1) iO (fun e=>by have:=zAW hnd iO Dy (e.trans jl.symm);omega);have DF:O.getD (m+1) 0≠0:=fun e=>by have:=zAW hnd iO Dy (e.trans jl.symm);omega
  refine go ?_;rw[ML];generalize vo:O.getD (m+1) 0=b at *;have MO:WB h gi (.pointer (some ⟨g7,0,none⟩)) cells:=o7.ext aQ;have DG:b.toNat<16:=ω
  obtain⟨A,hA⟩:∃ A,zY (zF T F f 0).1 b (zF T F f 0).1.length=A:=⟨_,rfl⟩;have sA:Wc gi (cells.getD b.toNat undef) A:=by
   have:=(HW.out b.toNat DG).ext aQ;rw[show((b.toNat:Nat):Int)=b by omega,hA]at this;exact this
  have MP:A.length<=16:=by rw[<-hA];have:=zBU (zF T F f 0).1 b (zF T F f 0).1.length;omega
  have DI:Wi (∀ j,j<A.length->(0<=A.getD j 0/\A.getD j 0<16)/\b∈nx (A.getD j 0)):=⟨fun j hj=>by
   have:=zOp hA hj;rw[gh]at this;exact⟨ω,this.2⟩⟩
  refine go ?_;refine XG (i:=b.toNat) MO ω ?_;refine go ?_;have DJ:Wi (Dm nx ys):=⟨g.out.dm⟩;have MQ:Wi (∀ a,0<=a->a<16->pO ys a≠ -1->Wx nx 0 a):=⟨fun a h1 h2 h3=>JB fun h4=>h3 (g.out.un a h1 h2 h4)⟩;refine VD (fun p=>A.length-p.1) (fun(p:Nat×Int) t h'=>gi=h'/\zC t 80=I (p.1:Int)/\p.1<=A.length/\zC t 15=I p.2/\Wi (Bst nx ys b A p.1 p.2)) (0,-1) ?_ ?_
  ·exact⟨rfl,WJ,ω,WJ,⟨.inl ⟨rfl,fun i hi=>by omega⟩⟩⟩
  rintro⟨j,v⟩ t5 _ qD ⟨rfl,MR,hj,vz,sM⟩;simp only at MR hj vz sM;refine F0 ?_ ?_<;>intro hd
  ·have dY:j<A.length:=ω
   obtain⟨⟨MS,ug⟩,dJ⟩:=DI.out j dY;refine go ?_;generalize n9:A.getD j 0=a at *;refine VE (fun hq=> ?_) (fun hq=> ?_)<;>simp only[DB]at hq
   ·refine go ?_;refine zA (j+1,v) (by show A.length-(j+1)<A.length-j;omega) ⟨rfl,WJ,by show j+1<=_;omega,WJ,⟨sM.out.skip (by rw[n9];exact hq)⟩⟩
   have wa:=MQ.out a MS ug hq;refine F0 ?_ ?_<;>intro hv
   ·have hv:v= -1:=hv;subst hv;refine go ?_;refine zA (j+1,a) (by show A.length-(j+1)<A.length-j;omega) ⟨rfl,WJ,by show j+1<=_;omega,WJ,⟨?_⟩⟩;have:=sM.out.first (by rw[n9];exact wa) (by rw[n9];omega) (by rw[n9];exact dJ) (by rw[n9];exact hq)
    rw[n9]at this;exact this
   have hv:v≠ -1:=hv;have wv:Wx nx 0 v/\pO ys v≠ -1:=by
    rcases sM.out with⟨e,_⟩|⟨_,e1,e2,_⟩
    ·exact absurd e hv
    ·exact⟨e1,e2⟩
   refine go ?_;refine VA (zSB aW gi (.pointer (some ⟨g8,0,none⟩)) nx ys v a cT DJ wv.1 wa wv.2 hq) ?_;rintro _ _ ⟨⟨mm,rfl,mh⟩,rfl⟩;refine go ?_;have Ac:=DJ.out.bnd mm mh.way;refine zA (j+1,mm) (by show A.length-(j+1)<A.length-j;omega) ⟨rfl,WJ,by show j+1<=_;omega,WJ,⟨?_⟩⟩;exact sM.out.meet hv ω (by rw[n9];exact dJ) (by rw[n9];exact mh)
  have mK:j=A.length:=ω
  subst mK;have bt:Best nx (fun b=>qO ys b) (fun b=>pO ys b) b v:=by
   have wp:=eD.out ja ω;refine sM.out.best DJ.out (fun a wa dJ=> ?_) wp MN (g.out.pre ja cJ).2 ?_
   ·refine zB8 ?_;rw[<-hA];exact zEf.2 ⟨iY.out a wa,by rw[gh];exact dJ⟩
   ·rw[uZ.out g.out.qs ja ω,<-vo,uZ.out g.out.qs (m+1) iO];omega
  refine go ?_;refine V8 (j:=b.toNat) cT aQ ω ?_;intro sO df DK MT;have DL:=zQV vh MT ah;refine go ?_;refine zA (m+1,ys.set b.toNat v) (by show O.length-(m+1)<O.length-m;omega) ⟨WJ,by show m+1+1<=_;omega,df,DK,DL,⟨?_⟩⟩;have:=g.out.step (v:=v) hnd iO ω (by rw[vo];exact DF) (by rw[vo];exact MM) (by rw[vo];exact bt) lC;rw[vo]at this;exact this
 have Ac:m+1=O.length:=ω
 have g:Wi (Md nx O qs xs ys k O.length):=by rw[<-Ac];exact g
 clear vj vg hc;refine go ?_;refine Vp (j:=0) (n:=16) vh (by simp;omega) ?_ (hx:=by show WN _ _ (.pointer (some ⟨sJ,0,none⟩));exact zO);refine go ?_;refine Vp (j:=0) (n:=16) cT ω ?_;refine V2 (zSJ (n:=16) (xs:=(((xs.drop 0).take 16).drop 0).take 16) (ys:=(ys.drop 0).take 16) (by kernel_rfl) (by simp;omega) (by simp;omega)) ?_ (hc:=by rw[zEk,zEk];rfl);have MU:decide (((((xs.drop 0).take 16).drop 0).take 16)=((ys.drop 0).take 16))=decide (xs=ys):=decide_eq_decide.2 ⟨fun e=>by
  simp only[GI,List.take_take,Nat.min_self]at e;exact zNz e (r.out.qs.trans g.out.qs.symm),fun e=>by rw[e];simp[List.take_take]⟩
 rw[MU];have rd:=g.out.done az.out;refine F0 ?_ ?_<;>intro hd
 ·have hd:xs=ys:=hd;subst hd;refine go ?_;refine zBs ?_;refine rt ?_;exact⟨⟨_,xs,rfl,(cT.since eb),zT2 g.out az.out jl fun b w=>by obtain⟨i,hi,e⟩:=az.out b w;rw[<-e,uZ.out g.out.qs i hi];omega⟩,eb.trans aQ⟩
 have fz:k<max K 1:=by
  refine Nat.lt_of_not_le fun hle=>hd ?_;exact(zLp r.out g.out az.out jl iY.out hK.out ω ω lC hnd eD.out).symm
 refine go ?_;exact zA (k+1,ys) (by show max K 1+1-(k+1)<max K 1+1-k;omega) ⟨aQ,cT,by show k+1<=_;omega,⟨rd⟩⟩
def nxF(T:List WF)(F:List We)(f:Int):Int->List Int:=W5 (zF T F f 0).1
def SH(T:List WF)(F:List We)(f b:Int):Int:=
 if(zF T F f 0).2≠0 then(zF T F f 0).2 else if b<0\/((zF T F f 0).1.length:Int)<=b then 2 else if b∈(yY T F f).1 then 0 else 6
def zRd{T:List WF}{F:List We}{f b:Int}(h:SH T F f b=0):(zF T F f 0).2=0/\Wx (nxF T F f) 0 b:=by
 unfold SH at h;split at h
 ·rename_i hb;exact absurd h hb
 ·rename_i hb;have hb:(zF T F f 0).2=0:=by simpa using hb
  split at h
  ·cases h
  ·split at h
   ·rename_i hm;exact⟨hb,(zAU hb).1 hm⟩
   ·cases h
structure SE(h:WA)(vt vf:Value)(T:List WF)(F:List We):Prop where
 tt:SA h
 hm:h.mark<=h.n
 sm:Bd T F
 st:BB h vt T
 sf:BA h vf F
def SE.ext{h h':WA}{vt vf:Value}{T:List WF}{F:List We}(E:SE h vt vf T F)(e:WH h h'):SE h' vt vf T F:=
 ⟨E.tt.ext e,yV e E.hm,E.sm,E.st.ext e,BA.ext E.sf e⟩
def zNp(h:WA)(vt vf:Value)(T:List WF)(F:List We)(f b:Int)(E:SE h vt vf T F):
  G0 291 [.agg #[vt,vf],I f,I b] h fun r h'=>(∃ p,r=.tuple #[p,I (SH T F f b)]/\(SH T F f b=0->∃ xs,WB h h' p (xs.map I)/\Rul (nxF T F f) xs))/\WH h h':=by
 refine en ?_;refine VH ?_;intro p h1 e1 o1;have E1:=E.ext e1;refine go ?_;refine VA (zI4 h1 vt vf T F f E1.tt E1.hm E1.sm E1.st E1.sf) ?_;rintro _ h2 ⟨⟨rev,rfl,MV⟩,e2⟩;have aE:=e1.trans e2;have E2:=E1.ext e2;have o2:=o1.ext e2;have MW:=MV.sl;rw[zG2];by_cases hb:(zF T F f 0).2=0;case neg=>
  have eK:(zF T F f 0).2≠0:=hb;have ha:SH T F f b=(zF T F f 0).2:=by unfold SH;rw[QJ hb]
  refine gr ?_;rw[ha];exact⟨⟨_,rfl,fun h=>absurd h hb⟩,aE⟩
 obtain⟨_,bN,Dx,kW⟩:=Zh hb;have dc:=zCT kW;obtain⟨hlen,aq⟩:=Zw hb;rw[hb];have hF:=E.sm.funcs;have eV:=E2.sf;refine go ?_;by_cases aW:b<0
 ·have ha:SH T F f b=2:=by unfold SH;rw[QC (by rw[hb];exact fun e=>e rfl),QJ (.inl aW)]
  refine gr ?_;rw[ha];exact⟨⟨_,rfl,fun h=>by cases h⟩,aE⟩
 obtain⟨lx,⟨vb,rfl,sb,fC⟩,fS,jW⟩:=yv (i:=f.toNat) eV ω;rw[<-Dx]at sb;by_cases dM:((zF T F f 0).1.length:Int)<=b
 ·have ha:SH T F f b=2:=by unfold SH;rw[QC (by rw[hb];exact fun e=>e rfl),QJ (.inr dM)]
  refine gr ?_;rw[ha];exact⟨⟨_,rfl,fun h=>by cases h⟩,aE⟩
 have lq:((yY T F f).1.length:Int)<=9223372036854775807:=by
  obtain⟨l1,l2,_⟩:=zCU hb;omega
 refine go ?_;refine VA (zA3 h2 rev (yY T F f).1 b MW lq) ?_;rintro _ _ ⟨rfl,rfl⟩;by_cases k7:b∈(yY T F f).1;case neg=>
  have ha:SH T F f b=6:=by unfold SH;rw[QC (by rw[hb];exact fun e=>e rfl),QC ω,QC k7]
  refine gr ?_;rw[ha];exact⟨⟨_,rfl,fun h=>by cases h⟩,aE⟩
 have ha:SH T F f b=0:=by unfold SH;rw[QC (by rw[hb];exact fun e=>e rfl),QC ω,QJ k7]
 refine go ?_;refine VA (zTt h2 vt vf T F f E2.tt E2.hm E2.sm E2.st E2.sf hb) ?_;rintro _ h3 ⟨⟨q,xs,rfl,oq,hR⟩,e3⟩;refine gr ?_;rw[ha];exact⟨⟨_,rfl,fun _=>⟨xs,oq.since aE,hR⟩⟩,aE.trans e3⟩
noncomputable def upL(xs:List Int)(b:Int):Int:=if b=0 then -1 else pO xs b
noncomputable def zKI(nx:Int->List Int)(c:Int):Nat:=open Classical in (List.range 16).countP fun(j:Nat)=>decide (BU nx (j:Int) c)
def zSv(nx:Int->List Int)(c:Int):zKI nx c<=16:=by
 classical
 unfold zKI;exact QM List.countP_le_length (by simp)
def zQj{nx:Int->List Int}{c:Int}(h:0<=c/\c<16):1<=zKI nx c:=by
 classical
 unfold zKI;refine List.countP_pos_iff.2 ⟨c.toNat,Q4.2 ω,?_⟩;show decide (BU nx ((c.toNat:Nat):Int) c)=true;rw[GS,show((c.toNat:Nat):Int)=c by omega];exact BU.self nx c
def zRv{nx:Int->List Int}{c n:Int}(h:0<=c/\c<16)(hs:∀ a,BU nx a n->BU nx a c)(hn:¬BU nx c n):zKI nx n<zKI nx c:=by
 classical
 unfold zKI;have hc:((c.toNat:Nat):Int)=c:=ω
 refine zFY (p:=fun(j:Nat)=>decide (BU nx (j:Int) c)) (q:=fun(j:Nat)=>decide (BU nx (j:Int) n)) (i:=c.toNat) (Qa (by rw[hc];exact BU.self nx c)) (QY (by rw[hc];exact hn)) (fun j _ hj=> ?_) (Q4.2 ω);exact Qa (hs _ (JM hj))
def Rul.step{nx:Int->List Int}{xs:List Int}{c:Int}(r:Rul nx xs)(w:Wx nx 0 c)(hc:c≠0):Wx nx 0 (pO xs c)/\(∀ a,BU nx a c↔a=c\/BU nx a (pO xs c))/\¬BU nx c (pO xs c):=by
 obtain⟨u1,u2,u3⟩:=r.dm.rl.up c w hc (r.all c w);refine⟨u1,fun a=> ?_,fun h=> ?_⟩
 ·rw[<-r.dom a c w,<-r.dom a _ u1];constructor
  ·intro h;cases h with
   |here=>exact .inl rfl
   |up _ _ h=>exact .inr h
  ·rintro(rfl|h)
   ·exact .here
   ·exact .up hc (r.all c w) h
 ·have h2:=r.dm.rl.le ((r.dom _ _ u1).2 h) u1;have h3:=h2.2.1;have h3:qO xs c<=qO xs (pO xs c):=h3;have u3:qO xs (pO xs c)<qO xs c:=u3;omega
def Chn(nx:Int->List Int)(a b:Int)(i:Nat)(c:Int)(met:Bool):Prop:=
 (c= -1/\(BU nx a b↔met=true))\/(Wx nx 0 c/\(0<=c/\c<16)/\zKI nx c+i<=16/\(BU nx a b↔met=true\/BU nx a c))
def Chn.last{nx:Int->List Int}{a b:Int}{i:Nat}{met:Bool}(h:Chn nx a b i 0 met):Chn nx a b (i+1) (-1) (met||decide (0=a)):=by
 rcases h with⟨h,_⟩|⟨_,_,_,h⟩
 ·cases h
 ·refine .inl ⟨rfl,h.trans ?_⟩;rw[GM,GS];refine⟨fun h=>h.imp id fun h=> ?_,fun h=>h.imp id fun h=> ?_⟩
  ·exact JB fun e=>h ⟨0,.here e⟩
  ·rw[<-h];exact BU.self _ _
def Chn.next{nx:Int->List Int}{xs:List Int}{a b c:Int}{i:Nat}{met:Bool}(r:Rul nx xs)(hc:0<c)(h:Chn nx a b i c met):Chn nx a b (i+1) (pO xs c) (met||decide (c=a))/\pO xs c≠c/\0<=pO xs c:=by
 rcases h with⟨h,_⟩|⟨w,bd,hn,h⟩
 ·omega
 ·obtain⟨u1,u2,u3⟩:=r.step w ω;have hb:=r.dm.bnd _ u1;refine⟨.inr ⟨u1,hb,?_,h.trans ?_⟩,fun e=> ?_,hb.1⟩
  ·have:=zRv bd (fun a ha=>(u2 a).2 (.inr ha)) u3;omega
  ·rw[u2 a,GM,GS];refine⟨?_,?_⟩
   ·rintro(h|rfl|h)
    ·exact .inl (.inl h)
    ·exact .inl (.inr rfl)
    ·exact .inr h
   ·rintro((h|h)|h)
    ·exact .inl h
    ·exact .inr (.inl h.symm)
    ·exact .inr (.inr h)
  ·exact u3 (by rw[e];exact BU.self _ _)
def Chn.way{nx:Int->List Int}{a b c:Int}{i:Nat}{met:Bool}(h:Chn nx a b i c met)(hc:0<=c):Wx nx 0 c/\c<16/\i<=15:=by
 rcases h with⟨h,_⟩|⟨w,bd,hn,h⟩
 ·omega
 ·have:=zQj (nx:=nx) bd;exact⟨w,bd.2,ω⟩
def zAj(b:Wk)(l:List Wk):zL (b::l)=(b.ins.length:Int)+zL l:=by unfold zL;simp
noncomputable def Yk(xs:List Int)(n:Nat):List Int:=(List.range n).map fun(i:Nat)=>upL xs (i:Int)
def zOR(xs:List Int)(n:Nat):(Yk xs n).length=n:=by unfold Yk;simp
def zSF(h:WA)(vt vf:Value)(T:List WF)(F:List We)(f:Int)(E:SE h vt vf T F):
  G0 267 [.agg #[vt,vf],I f] h fun r h'=>(∃ v l,r=.tuple #[v,I (SH T F f 0)]/\WP h h' v l/\l.length<=16/\(SH T F f 0=0->∃ xs,Rul (nxF T F f) xs/\l=Yk xs (F.getD f.toNat default).blocks.length)/\(SH T F f 0≠0->l=[]))/\WH h h':=by
 have hF:=E.sm.funcs;refine en ?_;refine VH ?_;intro p h1 e1 o1;have E1:=E.ext e1;refine go ?_;refine VA (zNp h1 vt vf T F f 0 E1) ?_;rintro _ h2 ⟨⟨q,rfl,hq⟩,e2⟩;have o1:=o1.ext e2;have aE:=e1.trans e2;have E2:=E1.ext e2;have eV:=E2.sf;by_cases ha:SH T F f 0=0;case neg=>
  have Ih:SH T F f 0≠0:=ha;refine gr ?_;exact⟨⟨_,[],rfl,.inl ⟨rfl,rfl⟩,by simp,fun h=>absurd h ha,fun _=>rfl⟩,aE⟩
 obtain⟨xs,oq,hR⟩:=hq ha;have lC:=hR.dm.len;obtain⟨g,rfl⟩:∃ g,q=.pointer (some ⟨g,0,none⟩):=let⟨g,_,_,e,_⟩:=oq;⟨g,e⟩;obtain⟨hz,_⟩:=zRd ha;obtain⟨TF,MX,MY,MZ⟩:=Zh hz;have aq:=zCT MZ;obtain⟨hlen,gh⟩:=Zw hz;rw[MY]at hlen MX;rw[ha];replace hR:=Wi.mk hR;obtain⟨ta,tn,tk,rfl⟩:=zD E.st;obtain⟨ga,gn,gk,rfl⟩:=zD eV;obtain⟨lx,⟨vb,rfl,sb,fC⟩,fS,jW⟩:=yv (i:=f.toNat) eV ω;obtain⟨_,_,_,rfl⟩:=zD sb;generalize(F.getD f.toNat default).blocks=L at *;refine go ?_;refine VD (fun i=>L.length-i) (fun i t h3=>WH h2 h3/\zC t 24=I i/\i<=L.length/\∃ w,zC t 4=w/\WP h2 h3 w ((List.range i).map fun(j:Nat)=>pO xs (j:Int))) 0 ?_ ?_
 ·exact⟨WH.refl _,WJ,QQ _,_,WJ,.inl ⟨rfl,rfl⟩⟩
 rintro i t h3 ab ⟨e3,TG,hi,w,s4,ow⟩;have TH:=oq.ext e3;refine F0 ?_ ?_<;>intro hc
 ·have af:i<L.length:=ω
  refine go ?_;refine WO.bl [xs.getD i 0] ?_;intro v7 h7 e7 o7;refine go ?_;refine Vc (ow.ext e7) o7.sl (e3.trans e7) (by simp;omega) ?_;intro v8 h8 e8 o8;refine go ?_;refine zA (i+1) ω ⟨e8,Wy,ω,v8,WJ,?_⟩;rw[JC,Q5];exact o8
 ·have bj:i=L.length:=ω
  subst bj;have bN:0<L.length:=ω
  obtain⟨m,hm⟩:∃ m,m=(List.range L.length).map fun(j:Nat)=>pO xs (j:Int):=⟨_,rfl⟩;have lq:m.length=L.length:=by rw[hm];simp
  rw[<-hm]at ow;rcases ow with⟨_,h0⟩|ow
  ·rw[h0]at lq;simp at lq;omega
  have sw:=ow.sl;refine go ?_;refine XQ (i:=0) (a:= -1) zO zO ow e3 ω ?_;intro h4 e4 o4 _;refine gr ?_;refine⟨⟨_,_,rfl,.inr (o4.since aE),by rw[Gh];omega,fun _=>⟨xs,hR.out,?_⟩,fun h=>absurd rfl h⟩,aE.trans e4⟩;rw[hm];refine List.ext_getElem (by simp[Yk]) fun j eJ ez=> ?_;simp only[Yk,List.getElem_map,List.getElem_range,List.getElem_set];by_cases hj:0=j
  ·subst hj;simp[upL]
  ·rw[QC hj];unfold upL;rw[QC ω]
def PlT(T:List WF)(k:Int):Prop:=0<=k/\k<(T.length:Int)/\((T.getD k.toNat default).kind=1\/(T.getD k.toNat default).kind=2\/(T.getD k.toNat default).kind=3)
def zJf(T:List WF)(x:WF):Prop:=(∀ p∈x.parts,PlT T p)/\PlT T x.elem/\x.parts.length<=4/\x.many=0
def zGk(T:List WF)(x:WF)(k:Nat):Prop:=
 (x.kind=1/\x.elem=0/\x.many=0/\x.parts.length=0)\/
 (x.kind=2/\0<=x.elem/\x.elem<(T.length:Int)/\x.many=0/\x.parts.length=0)\/
 (x.kind=3/\zJf T x)\/
 (x.kind=4/\x.elem=0/\x.many=0/\1<=x.parts.length/\x.parts.length<=8/\∀ p∈x.parts,0<=p/\p<(k:Int))\/
 (x.kind=5/\0<=x.elem/\x.elem<(k:Int)/\1<=x.many/\x.many<=16/\x.parts.length=0)
def ZY(T:List WF)(k:Nat):Prop:=zGk T (T.getD k default) k
def ofF(T:List WF):Nat->Int->List Int
 |0,k=>[k]
 |n+1,k=>let x:=T.getD k.toNat default
  if x.kind=4 then(x.parts.map (ofF T n)).flatten else if x.kind=5 then(List.replicate x.many.toNat (ofF T n x.elem)).flatten else[k]
def Br(T:List WF)(k:Nat):List Int:=ofF T (k+1) k
def zOV(T:List WF)(k:Nat):Prop:=∀ j,j<k->ZY T j/\(Br T j).length<=32
def zJT{T:List WF}:∀ (n m:Nat) (k:Nat),k<n->k<m->(∀ j,j<=k->ZY T j)->ofF T n k=ofF T m k:=by
 intro n;induction n with
 |zero=>intro m k h;omega
 |succ n ih=>
  intro m k h1 h2 hM;obtain⟨m,rfl⟩:∃ q,m=q+1:=⟨m-1,ω⟩;have hk:=hM k (QF _);unfold ofF;simp only[QZ];split
  ·rename_i h4;congr 1;refine Gj fun p hp=> ?_;unfold ZY zGk at hk;have dN:0<=p/\p<(k:Int):=by
    rcases hk with h|h|h|h|h
    ·omega
    ·omega
    ·omega
    ·exact h.2.2.2.2.2 p hp
    ·omega
   obtain⟨q,rfl⟩:∃ q:Nat,p=q:=⟨p.toNat,ω⟩;exact ih m q ω ω fun j hj=>hM j ω
  ·split
   ·rename_i h4 h5;unfold ZY zGk at hk;have dN:0<=(T.getD k default).elem/\(T.getD k default).elem<(k:Int):=ω
    obtain⟨q,hq⟩:∃ q:Nat,(T.getD k default).elem=q:=⟨(T.getD k default).elem.toNat,ω⟩;rw[hq,ih m q ω ω fun j hj=>hM j ω]
   ·rfl
def zBV{T:List WF}{k:Nat}(hM:∀ j,j<=k->ZY T j):Br T k=let x:=T.getD k default
  if x.kind=4 then(x.parts.map fun p=>Br T p.toNat).flatten else if x.kind=5 then(List.replicate x.many.toNat (Br T x.elem.toNat)).flatten else[(k:Int)]:=by
 have hk:=hM k (QF _);unfold ZY zGk at hk;unfold Br;rw[ofF];simp only[QZ];split
 ·rename_i h4;congr 1;refine Gj fun p hp=> ?_;have dN:0<=p/\p<(k:Int):=by
   rcases hk with h|h|h|h|h
   ·omega
   ·omega
   ·omega
   ·exact h.2.2.2.2.2 p hp
   ·omega
  obtain⟨q,rfl⟩:∃ q:Nat,p=q:=⟨p.toNat,ω⟩;exact zJT _ _ q ω ω fun j hj=>hM j ω
 ·split
  ·rename_i h4 h5;have dN:0<=(T.getD k default).elem/\(T.getD k default).elem<(k:Int):=ω
   obtain⟨q,hq⟩:∃ q:Nat,(T.getD k default).elem=q:=⟨(T.getD k default).elem.toNat,ω⟩;rw[hq,QZ,zJT k (q+1) q ω ω fun j hj=>hM j ω]
  ·rfl
def zBf{m:Int}{l:List Int}:yl m l=true↔∀ p∈l,0<=p/\p<m:=by
 unfold yl;rw[QX];simp
def zKh{x:WF}:Ya x=true↔x.kind=1\/x.kind=2\/x.kind=3:=by
 unfold Ya;simp;omega
def zQ1(l:List Int)(f:Int->List Int):((l.map f).flatten.length:Int)=(l.map fun p=>((f p).length:Int)).sum:=by
 induction l with
 |nil=>rfl
 |cons a l ih=>simp only[Qi,Gd,QH,G8,Int.natCast_add,ih]
def zCV(n:Nat)(l:List Int):(List.replicate n l).flatten.length=n*l.length:=by
 induction n with
 |zero=>simp
 |succ n ih=>rw[List.replicate_succ,Gd,QH,ih,Gw];omega
def zJ0{T:List WF}{k:Nat}{s:List Int}(hk:k<T.length)(hl:zOV T k)(hs:s.length=k)(hv:∀ j,j<k->s.getD j 0=((Br T j).length:Int)):
  ((Zq T (T.getD k default) k s).2=true↔ZY T k/\(Br T k).length<=32)/\((Zq T (T.getD k default) k s).2=true->(Zq T (T.getD k default) k s).1=((Br T k).length:Int)):=by
 have gK:ZY T k->Br T k=_:=fun h=>zBV fun j hj=>by
  by_cases e:j=k
  ·subst e;exact h
  ·exact(hl j ω).1
 generalize hx:T.getD k default=x at *;have hM:ZY T k↔zGk T x k:=by unfold ZY;rw[hx]
 unfold zGk at hM;have qE:x.kind=1->(yT x=true↔x.elem=0/\x.many=0/\x.parts.length=0):=fun h=>by unfold yT;simp[h,and_assoc]
 have qF:x.kind=2->(yT x=true↔x.many=0/\x.parts.length=0):=fun h=>by unfold yT;simp[h]
 have qG:x.kind=3->(yT x=true↔x.many=0):=fun h=>by unfold yT;simp[h]
 have qH:x.kind=4->(yT x=true↔x.elem=0/\x.many=0):=fun h=>by unfold yT;simp[h]
 have qI:x.kind=5->(yT x=true↔x.parts.length=0):=fun h=>by unfold yT;simp[h]
 by_cases h1:x.kind=1
 ·have e:Zq T x k s=(1,yT x):=by unfold Zq;rw[QJ h1]
  rw[e,qE h1];refine⟨⟨fun h=> ?_,fun h=> ?_⟩,fun h=> ?_⟩
  ·have:=hM.2 (.inl ⟨h1,h⟩);refine⟨this,?_⟩;rw[gK this];simp[h1]
  ·have:=hM.1 h.1;omega
  ·have:=hM.2 (.inl ⟨h1,h⟩);rw[gK this];simp[h1]
 by_cases h2:x.kind=2
 ·have e:Zq T x k s=(1,yT x&&yl T.length [x.elem]):=by unfold Zq;rw[QC h1,QJ h2]
  have e2:(yT x&&yl T.length [x.elem])=true↔(x.many=0/\x.parts.length=0)/\0<=x.elem/\x.elem<(T.length:Int):=by
   rw[QI,qF h2,zBf];simp
  rw[e,e2];have key:(x.many=0/\x.parts.length=0)/\0<=x.elem/\x.elem<(T.length:Int)->ZY T k:=fun h=>hM.2 (.inr (.inl ⟨h2,h.2.1,h.2.2,h.1.1,h.1.2⟩));refine⟨⟨fun h=>⟨key h,?_⟩,fun h=> ?_⟩,fun h=> ?_⟩
  ·rw[gK (key h)];simp[h2]
  ·have:=hM.1 h.1;omega
  ·rw[gK (key h)];simp[h2]
 by_cases h3:x.kind=3
 ·rw[zJ4 h3];have e2:(yT x&&decide (x.parts.length<=4)&&yl T.length (x.elem::x.parts)&&(x.elem::x.parts).all fun n=>Ya (T.getD n.toNat default))=true↔zJf T x:=by
   unfold zJf PlT;simp only[QI,qG h3,Qc,zBf,QX,zKh,Qt];constructor
   ·rintro⟨⟨⟨a,b⟩,c⟩,d⟩;exact⟨fun p hp=>⟨(c p (.inr hp)).1,(c p (.inr hp)).2,d p (.inr hp)⟩,⟨(c _ (.inl rfl)).1,(c _ (.inl rfl)).2,d _ (.inl rfl)⟩,b,a⟩
   ·rintro⟨a,b,c,d⟩;refine⟨⟨⟨d,c⟩,?_⟩,?_⟩
    ·rintro p (rfl|hp)
     ·exact⟨b.1,b.2.1⟩
     ·exact⟨(a p hp).1,(a p hp).2.1⟩
    ·rintro p (rfl|hp)
     ·exact b.2.2
     ·exact(a p hp).2.2
  simp only[e2];have key:zJf T x->ZY T k:=fun h=>hM.2 (.inr (.inr (.inl ⟨h3,h⟩)));refine⟨⟨fun h=>⟨key h,?_⟩,fun h=> ?_⟩,fun h=> ?_⟩
  ·rw[gK (key h)];simp[h3]
  ·rcases hM.1 h.1 with h|h|h|h|h
   ·omega
   ·omega
   ·exact h.2
   ·omega
   ·omega
  ·rw[gK (key h)];simp[h3]
 by_cases h4:x.kind=4
 ·rw[zTB h4];have e2:(yT x&&yl k x.parts)=true↔(x.elem=0/\x.many=0)/\∀ p∈x.parts,0<=p/\p<(k:Int):=by
   rw[QI,qH h4,zBf]
  by_cases hp:(yT x&&yl k x.parts)=true
  ·rw[QJ hp];have bO:=e2.1 hp;have fP:(x.parts.map fun n=>s.getD n.toNat 0).sum=(x.parts.map fun p=>((Br T p.toNat).length:Int)).sum:=by
    congr 1;refine Gj fun p dG=> ?_;have:=bO.2 p dG;exact hv p.toNat ω
   have key:1<=x.parts.length/\x.parts.length<=8->ZY T k:=fun h=>hM.2 (.inr (.inr (.inr (.inl ⟨h4,bO.1.1,bO.1.2,h.1,h.2,bO.2⟩))));have hlen:ZY T k->((Br T k).length:Int)=(x.parts.map fun p=>((Br T p.toNat).length:Int)).sum:=fun h=>by
    rw[gK h];simp only[h4,Qz];rw[zQ1]
   simp only[QI,Qc];refine⟨⟨fun h=> ?_,fun h=> ?_⟩,fun h=> ?_⟩
   ·have aU:=key ω;have:=hlen aU;exact⟨aU,ω⟩
   ·have:=hlen h.1;have h5:=hM.1 h.1;omega
   ·rw[fP,hlen (key ω)]
  ·rw[QC hp];simp only[Qy,JW,false_implies,and_true];intro h;refine hp (e2.2 ?_);rcases hM.1 h.1 with h|h|h|h|h
   ·omega
   ·omega
   ·omega
   ·exact⟨⟨h.2.1,h.2.2.1⟩,h.2.2.2.2.2⟩
   ·omega
 by_cases h5:x.kind=5
 ·rw[zQB h5];have e2:(yT x&&yl k [x.elem]&&decide (1<=x.many)&&decide (x.many<=16))=true↔x.parts.length=0/\(0<=x.elem/\x.elem<(k:Int))/\1<=x.many/\x.many<=16:=by
   simp only[QI,qI h5,zBf,Qc];simp[and_assoc]
  by_cases hp:(yT x&&yl k [x.elem]&&decide (1<=x.many)&&decide (x.many<=16))=true
  ·rw[QJ hp];have bO:=e2.1 hp;have key:ZY T k:=hM.2 (.inr (.inr (.inr (.inr ⟨h5,bO.2.1.1,bO.2.1.2,bO.2.2.1,bO.2.2.2,bO.1⟩))));have iQ:=hv x.elem.toNat ω;have hlen:((Br T k).length:Int)=x.many*s.getD x.elem.toNat 0:=by
    rw[gK key];simp only[h5,Qz];rw[QC ω,zCV,iQ,Int.natCast_mul,Int.toNat_of_nonneg ω]
   simp only[Qc];rw[<-hlen];exact⟨⟨fun h=>⟨key,ω⟩,fun h=>by omega⟩,fun _=>rfl⟩
  ·rw[QC hp];simp only[Qy,JW,false_implies,and_true];intro h;refine hp (e2.2 ?_);have:=hM.1 h.1;omega
 ·have e:Zq T x k s=(1,false):=by unfold Zq;rw[QC h1,QC h2,QC h3,QC h4,QC h5]
  rw[e];simp only[Qy,JW,false_implies,and_true];intro h;have:=hM.1 h.1;omega
def zKx{T:List WF}:∀ k,k<=T.length->(∀ s,YN T k=some s->zOV T k/\s.length=k/\∀ j,j<k->s.getD j 0=((Br T j).length:Int))/\(zOV T k->∃ s,YN T k=some s):=by
 intro k;induction k with
 |zero=>exact fun _=>⟨fun s hs=>by cases hs;exact⟨fun j hj=>absurd hj (GJ _),rfl,fun j hj=>absurd hj (GJ _)⟩,fun _=>⟨[],rfl⟩⟩
 |succ k ih=>
  intro hk;obtain⟨i1,i2⟩:=ih ω;refine⟨fun s hs=> ?_,fun hl=> ?_⟩
  ·unfold YN at hs;split at hs
   ·cases hs
   ·rename_i s0 h0;obtain⟨a,b,c⟩:=i1 s0 h0;obtain⟨m1,m2⟩:=zJ0 (T:=T) (k:=k) ω a b c;split at hs
    ·rename_i hm;cases hs;have h1:=m1.1 hm;have h2:=m2 hm;refine⟨fun j hj=> ?_,by simp[b],fun j hj=> ?_⟩
     ·by_cases e:j=k
      ·subst e;exact h1
      ·exact a j ω
     ·by_cases e:j=k
      ·subst e;rw[<-h2];simp[List.getD,<-b]
      ·rw[<-c j ω];simp[List.getD,Qg (show j<s0.length by omega)]
    ·cases hs
  ·obtain⟨s0,h0⟩:=i2 fun j hj=>hl j ω;obtain⟨a,b,c⟩:=i1 s0 h0;obtain⟨m1,m2⟩:=zJ0 (T:=T) (k:=k) ω a b c;unfold YN;rw[h0];simp only;rw[QJ (m1.2 (hl k ω))];exact⟨_,rfl⟩
def zCy{T:List WF}:y8 T=if 16<T.length then 4 else(open Classical in if zOV T T.length then 0 else 30):=by
 classical
 unfold y8;split
 ·rfl
 ·obtain⟨i1,i2⟩:=zKx T.length (QF _);split
  ·rename_i s hs;rw[QJ (i1 s hs).1]
  ·rename_i hs;rw[QC];intro h;obtain⟨s,h2⟩:=i2 h;rw[h2]at hs;cases hs
def zL8(op:Int):Prop:=(4<=op/\op<=10)\/op=15\/op=17
def zKO(op:Int):Prop:=zL8 op\/op=13\/op=14\/op=16\/op=19\/op=21
def zJh(op:Int):Prop:=op=18\/op=19\/op=22
def zUN(op:Int):Prop:=1<=op/\op<=22/\op≠13/\op≠17/\op≠21
def zFD{op:Int}(h:0<=op):((zl op).2.1=true↔zL8 op)/\((zl op).1=true↔zKO op)/\((zl op).2.2.2.1=true↔zJh op)/\((zl op).2.2.2.2.2=true↔zUN op)/\((zl op).2.2.2.2.1=true↔op=22)/\((zl op).2.2.1=true↔op=1\/op=3\/op=14\/op=18)/\(zl op=(false,false,false,false,false,false)↔op<1\/22<op):=by
 obtain⟨n,rfl⟩:=Int.eq_ofNat_of_zero_le h;by_cases hn:n<23
 ·clear h;unfold zKO zJh zUN zL8;have hz:(List.range 23).all (fun(n:Nat)=>decide (zl (n:Int)=(false,false,false,false,false,false)) == decide ((n:Int)<1\/22<(n:Int)))=true:=by decide+kernel
  have hz:=QX.1 hz n (Q4.2 hn);rw[JN,decide_eq_decide]at hz;refine⟨?_,?_,?_,?_,?_,?_,hz⟩<;>(clear hz;revert n;decide+kernel)
 ·have e:zl (n:Int)=(false,false,false,false,false,false):=by
   unfold zl;rw[List.getD,JL (by simp only[hasT,Qn,G5];omega)];rfl
  rw[e];unfold zKO zJh zUN zL8;simp only[Qy,JW,true_iff];omega
def yc(x:Wu):List Int:=(if(zl x.op).1 then[x.a]else[])++((if(zl x.op).2.1 then[x.b]else[])++(if(zl x.op).2.2.2.1 then x.args else[]))
def zON(x:Wu)(funcs:Int):Prop:=if x.op=1 then True else if x.op=3\/x.op=18 then 0<=x.n/\x.n<funcs else if x.op=14 then 0<=x.n/\x.n<8 else x.n=0
def SI(l:List Int)(m:Int):Prop:=∀ p∈l,0<=p/\p<m
structure MayI(x:Wu)(s:SP):Prop where
 op:1<=x.op/\x.op<=22
 uses:SI (yc x) s.a7
 num:zON x s.funcs
 a:(zl x.op).1=true\/x.a=0
 b:(zl x.op).2.1=true\/x.b=0
 g:(zl x.op).2.2.2.1=true\/(x.args.length:Int)<=0
 ans:if(zl x.op).2.2.2.2.2 then 0<=x.ty/\x.ty<s.types else x.ty=0
 frm:if(zl x.op).2.2.2.2.1 then(x.frm.length:Int)=x.args.length/\1<=(x.frm.length:Int)/\(x.frm.length:Int)<=16/\SI x.frm s.blocks else(x.frm.length:Int)=0/\(x.args.length:Int)<=4
def zF3{l:List Int}{m:Int}:zGr l m=true↔SI l m:=by
 unfold zGr zp SI;simp[QX]
def zGQ{l k:List Int}{m:Int}:SI (l++k) m↔SI l m/\SI k m:=by
 unfold SI;constructor
 ·exact fun h=>⟨fun p hp=>h p (Qf.2 (.inl hp)),fun p hp=>h p (Qf.2 (.inr hp))⟩
 ·exact fun h p hp=>(Qf.1 hp).elim (h.1 p) (h.2 p)
def zKy{c:Bool}{l:List Int}{m:Int}:SI (if c then l else[]) m↔(c=true->SI l m):=by
 cases c
 ·simp[SI]
 ·simp
def zFC{a m:Int}:SI [a] m↔zp a m=true:=by unfold SI zp;simp
def zJJ{x:Wu}{s:SP}(ho:0<=x.op):zON x s.funcs↔zAs x s=true/\((zl x.op).2.2.1=true\/x.n=0):=by
 obtain⟨_,_,_,_,_,hn,_⟩:=zFD ho;rw[hn];unfold zON zAs;by_cases h1:x.op=1
 ·simp[h1]
 by_cases h3:x.op=3\/x.op=18
 ·rw[QC h1,QJ h3,QJ h3,QI,GS,GS];omega
 by_cases gw:x.op=14
 ·rw[QC h1,QC h3,QJ gw,QC h3,QJ gw,QI,GS,GS];omega
 ·rw[QC h1,QC h3,QC gw,QC h3,QC gw];simp;omega
def zFQ{x:Wu}{s:SP}(ho:0<=x.op):zDK x s=true↔MayI x s:=by
 obtain⟨_,_,_,_,hf,_,hz⟩:=zFD ho;have vB:=zJJ (x:=x) (s:=s) ho;have key:MayI x s↔(1<=x.op/\x.op<=22)/\SI (yc x) s.a7/\zON x s.funcs/\((zl x.op).1=true\/x.a=0)/\((zl x.op).2.1=true\/x.b=0)/\((zl x.op).2.2.2.1=true\/(x.args.length:Int)<=0)/\(if(zl x.op).2.2.2.2.2 then 0<=x.ty/\x.ty<s.types else x.ty=0)/\
   (if(zl x.op).2.2.2.2.1 then(x.frm.length:Int)=x.args.length/\1<=(x.frm.length:Int)/\(x.frm.length:Int)<=16/\SI x.frm s.blocks else(x.frm.length:Int)=0/\(x.args.length:Int)<=4):=
  ⟨fun⟨a,b,c,d,e,f,g,h⟩=>⟨a,b,c,d,e,f,g,h⟩,fun⟨a,b,c,d,e,f,g,h⟩=>⟨a,b,c,d,e,f,g,h⟩⟩
 rw[key,vB];unfold zDK zRy zMZ zMw yc;simp only;have gE:(decide (zl x.op=(false,false,false,false,false,false))=false)↔(1<=x.op/\x.op<=22):=by
  rw[Gz,hz];omega
 have eM:SI x.args s.a7\/¬(x.args.length:Int)<=0:=by
  by_cases h:(x.args.length:Int)<=0
  ·left;have:x.args=[]:=Gq ω;rw[this];exact fun p hp=>by cases hp
  ·exact .inr h
 rw[zGQ,zGQ,zKy,zKy,zKy,zFC,zFC];have cD:(zp x.ty s.types=true)↔0<=x.ty/\x.ty<s.types:=by unfold zp;simp
 rw[<-gE,<-cD,<-zF3,<-zF3];rw[<-zF3]at eM;generalize decide (zl x.op=(false,false,false,false,false,false))=Z at *;generalize zl x.op=q at *;obtain⟨A,B,N,G,R,S⟩:=q;simp only;generalize zp x.a s.a7=ba at *;generalize zp x.b s.a7=bb at *;generalize zGr x.args s.a7=bg at *;generalize zAs x s=bn at *;generalize zp x.ty s.types=bt at *;generalize zGr x.frm s.blocks=bf at *;clear hz hf vB key gE cD;generalize x.args.length=la at *;generalize x.frm.length=lf at *;generalize x.a=a at *;generalize x.b=b at *;generalize x.n=n at *;generalize x.ty=ty at *;cases Z<;>simp only[Qx,Qu,Qe,Qj,Qy,JW,false_and,not_false_eq_true,Bool.true_eq_false,Ql,Qe,true_and];cases R
 ·cases A<;>cases B<;>cases N<;>cases G<;>cases S<;>simp<;>(constructor<;>intro h<;>simp_all<;>omega)
 ·cases A<;>cases B<;>cases N<;>cases G<;>cases S<;>simp<;>(constructor<;>intro h<;>simp_all<;>omega)
def zOt{x:SK}{s:SP}:zB6 x s=true↔(x.kind=1/\x.a=0/\x.aK=0/\SI [x.to] s.blocks)\/(x.kind=2/\SI [x.a] s.a7/\SI [x.to,x.aK] s.blocks)\/(x.kind=3/\x.to=0/\x.aK=0/\SI [x.a] s.a7):=by
 have h2:SI [x.to,x.aK] s.blocks↔zp x.to s.blocks=true/\zp x.aK s.blocks=true:=by unfold SI zp;simp
 rw[h2,zFC,zFC];unfold zB6;by_cases k1:x.kind=1
 ·simp[k1,and_assoc]
 by_cases k2:x.kind=2
 ·simp[k2,and_assoc]
 by_cases k3:x.kind=3
 ·simp[k3,and_assoc]
 ·simp[k1,k2,k3]
def yr(x:SK):List Int:=if x.kind=2\/x.kind=3 then[x.a]else[]
def zJ2(L:List Wk)(i:Nat):zL (L.take i)<=zL L:=by
 have h1:zL L=zL (L.take i)+zL (L.drop i):=by
  conv=>lhs;rw[<-GR i L]
  unfold zL;rw[Q5,Gs]
 have:=zEW (L.drop i);omega
def zJ9(par:Int)(L:List Wk):Int:=par+zL L
structure InsU(x:Wu)(N n:Int):Prop where
 op:1<=x.op/\x.op<=22
 uses:∀ r∈yc x,0<=r/\r<N
 args:x.args.length<=20
 frm:x.frm.length<=20
 phi:x.op=22->x.frm.length=x.args.length/\(∀ r∈x.args,0<=r/\r<N)/\(∀ b∈x.frm,0<=b/\b<n)
 none:x.op≠22->x.frm.length=0
structure BlkU(b:Wk)(N n:Int):Prop where
 ins:∀ x∈b.ins,InsU x N n
 ends:∀ r∈yr b.fin,0<=r/\r<N
 next:∀ k∈Y7 b.fin,0<=k/\k<n
def zQ6{x:Wu}{s:SP}(h:zDK x s=true):1<=x.op/\x.op<=22:=by
 by_cases h0:0<=x.op
 ·exact((zFQ h0).1 h).op
 ·exfalso;have he:zl x.op=(false,false,false,false,false,false):=by
   unfold zl;rw[show x.op.toNat=0 by omega];rfl
  unfold zDK zRy at h;rw[he]at h;simp at h
def zU4{x:Wu}{s:SP}(h:zDK x s=true):InsU x s.a7 s.blocks:=by
 have ho:=zQ6 h;have m:=(zFQ ω).1 h;have ha:=zFD (op:=x.op) ω;have Ip:(zl x.op).2.2.2.2.1=true↔x.op=22:=ha.2.2.2.2.1;have hg:(zl x.op).2.2.2.1=true↔zJh x.op:=ha.2.2.1;have hf:=m.frm;have fA:=m.g;have hargs:(x.args.length:Int)<=16:=by
  split at hf
  ·omega
  ·omega
 have M0:(x.frm.length:Int)<=16:=by
  split at hf
  ·omega
  ·omega
 refine⟨ho,m.uses,ω,ω,fun e=> ?_,fun e=> ?_⟩
 ·rw[QJ (Ip.2 e)]at hf;refine⟨ω,fun r hr=>m.uses r ?_,hf.2.2.2⟩;unfold yc;rw[show(zl x.op).2.2.2.1=true from hg.2 (by unfold zJh;omega),QJ rfl];exact Qf.2 (.inr (Qf.2 (.inr hr)))
 ·rw[QC (fun q=>e (Ip.1 q))]at hf;omega
def zUp{b:Wk}{s:SP}(h:zD4 b s=false):BlkU b s.a7 s.blocks:=by
 unfold zD4 at h;rw[Bool.or_eq_false_iff]at h;obtain⟨h1,h2⟩:=h;have h2:zB6 b.fin s=true:=by simpa using h2
 have he:=zOt.1 h2;refine⟨fun x hx=>zU4 ?_,fun r hr=> ?_,fun k hk=> ?_⟩
 ·cases hi:zDK x s with
  |true=>rfl
  |false=>exact absurd h1 (by rw[JH.2 ⟨x,hx,by rw[hi];rfl⟩];simp)
 ·unfold yr at hr;split at hr
  ·rw[QO]at hr;subst hr;rcases he with⟨e,_⟩|⟨e,q,_⟩|⟨e,_,_,q⟩
   ·omega
   ·exact q _ (by simp)
   ·exact q _ (by simp)
  ·cases hr
 ·unfold Y7 at hk;rcases he with⟨e,_,_,q⟩|⟨e,_,q⟩|⟨e,_⟩
  ·rw[QJ e]at hk;exact q k hk
  ·rw[QC ω,QJ e]at hk;split at hk
   ·exact q k (by rw[QO]at hk;subst hk;simp)
   ·exact q k hk
  ·rw[QC ω,QC ω]at hk;cases hk
def zVF{T:List WF}{nf:Int}{f:We}(h:B8 T nf f=true):∀ b∈f.blocks,BlkU b (zJ9 ((T.getD f.sig.toNat default).parts.length:Int) f.blocks) f.blocks.length:=by
 intro b hb;unfold B8 at h;split at h
 ·cases h
 ·have h:(f.blocks.any fun b=>zD4 b (szL T nf f))=false:=by simpa using h
  have:=zUp (b:=b) (s:=szL T nf f) (by
   cases q:zD4 b (szL T nf f)with
   |false=>rfl
   |true=>rw[JH.2 ⟨b,hb,q⟩]at h;cases h)
  exact this
def zUR{T:List WF}{n:Int}{f:We}(h:B8 T n f=true):1<=f.blocks.length/\f.blocks.length<=16/\zL f.blocks<=128:=by
 unfold B8 at h;split at h
 ·cases h
 ·rename_i hb;unfold zDM at hb;simp only[GM,Ge,GS,not_or,Bool.not_eq_false]at hb;obtain⟨⟨⟨_,_⟩,h3⟩,h4⟩:=hb;unfold zp at h3;simp at h3;omega
def zPW(h:WA)(x:Wu)(cs:List Value)(b9:Bn h cs x)(tt:SA h)(hx:x.args.length<=20):
  G0 257 [.agg cs.toArray] h fun r h'=>WP h h' r (yc x)/\WH h h':=by
 obtain⟨va,Mg,rfl,sa,Dc,dP,mw,ho,Na⟩:=b9;obtain⟨aa,an,ak,rfl⟩:=Wm.shape sa;obtain⟨fa,fn,fk,rfl⟩:=Wm.shape Dc;refine en ?_;refine VH ?_;intro p h1 e1 o1;refine go ?_;refine VA (zP1 h1 x.op (tt.ext e1) ho Na) ?_;rintro _ h2 ⟨rfl,e2⟩;refine go ?_;refine WO.al ?_;intro p3 h3 e3 o3;refine go ?_;refine VG (cs:=Yv (zl x.op)) o3 e3 ?_;intro h4 e4 o4 u4;have cB:=e2.trans e4;have o1:=o1.ext cB;have Ad:=Wc.ext sa (e1.trans cB);have o4:=o4.since e2;have o4:=o4.since e1;have cg:=e1.trans cB;clear e1 e2 e3 e4 u4 cB o3;unfold yc;generalize zl x.op=q at *;obtain⟨qa,qb,qn,qg,qf,qt⟩:=q;simp only;refine go ?_;refine VL (fun t h'=>WH h4 h'/\∃ w,zC t 2=w/\WP h4 h' w (if qa then[x.a]else[])) ?_ ?_
 ·cases qa with
  |true=>
   refine go ?_;refine WO.bl [x.a] ?_;intro v h2 e2 o2;refine go ?_;refine Vc (v:= .slice none 0 0) (xs:=[]) (h0:=h4) (.inl ⟨rfl,rfl⟩) o2.sl e2 (by simp) ?_;intro v3 h3 e3 o3;refine go ?_;exact zJ ⟨e3,v3,WJ,o3⟩
  |false=>
   refine go ?_;exact zJ ⟨WH.refl _,_,WJ,.inl ⟨rfl,rfl⟩⟩
 rintro t2 h2 jh ⟨e2,w2,q2,sE⟩;have o2:=o1.ext e2;have TI:=o4.ext e2;have l2:(if qa then[x.a]else[]).length<=1:=by split<;>simp
 generalize(if qa then[x.a]else[])=lA at *;refine go ?_;refine VL (fun t h'=>WH h4 h'/\∃ w,zC t 2=w/\WP h4 h' w (lA++if qb then[x.b]else[])) ?_ ?_
 ·cases qb with
  |true=>
   refine go ?_;refine WO.bl [x.b] ?_;intro v h3 e3 o3;refine go ?_;refine Vc (WP.ext sE e3) o3.sl (e2.trans e3) (by simp only[Qb];omega) ?_;intro v4 h5 e5 o5;refine go ?_;exact zJ ⟨e5,v4,WJ,o5⟩
  |false=>
   refine go ?_;exact zJ ⟨e2,_,WJ,by simpa using sE⟩
 rintro t3 h3 xG ⟨e3,w3,q3,mC⟩;have o3:=o1.ext e3;have sP:=o4.ext e3;have qJ:=Wc.ext Ad e3;have l3:(lA++if qb then[x.b]else[]).length<=2:=by rw[QH];split<;>simp<;>omega
 rw[<-Qd];generalize(lA++if qb then[x.b]else[])=lB at *;refine go ?_;cases qg with
 |true=>
  refine go ?_;refine Vc mC qJ e3 ω ?_;intro v5 h5 e5 o5;refine gr ?_;exact⟨o5.since cg,cg.trans e5⟩
 |false=>
  refine gr ?_;subst q3;rw[QC (by simp),GW];exact⟨mC.since cg,cg.trans e3⟩
def zJF(h:WA)(x:SK):G0 280 [.agg #[.int .u8 x.kind,I x.a,I x.to,I x.aK]] h fun r h'=>WP h h' r (yr x)/\WH h h':=by
 refine en ?_;refine VH ?_;intro p h1 e1 o1;unfold yr;by_cases c2:x.kind=2
 ·rw[QJ (.inl c2)];refine go ?_;refine WO.bl [x.a] ?_;intro v h2 e2 o2;refine gr ?_;exact⟨.inr (o2.since e1),e1.trans e2⟩
 by_cases c3:x.kind=3
 ·rw[QJ (.inr c3)];refine go ?_;refine WO.bl [x.a] ?_;intro v h2 e2 o2;refine gr ?_;exact⟨.inr (o2.since e1),e1.trans e2⟩
 rw[QC (by simp[c2,c3])];refine gr ?_;exact⟨.inl ⟨rfl,rfl⟩,e1⟩
def zGG(h:WA)(v:Value)(l:List Int)(s:Wc h v l)(hl:l.length<=1000000):G0 112 [v] h fun r h'=>WP h h' r l/\WH h h':=by
 refine en ?_;obtain⟨a,n,k,rfl⟩:=Wm.shape s;cases a with
 |none=>
  have hn:l=[]:=by
   rcases s.2 with⟨h0,_⟩|⟨g,off,row,hv,_⟩
   ·exact Gm.1 h0
   ·cases hv
  subst hn;refine go ?_;refine VE (fun hb=> ?_) (fun hb=> ?_)
  ·refine gr ?_;exact⟨.inl ⟨rfl,rfl⟩,WH.refl _⟩
  ·exact absurd hb (by simp)
 |some a=>
  refine go ?_;refine VE (fun hb=> ?_) (fun hb=> ?_)
  ·exact absurd hb (by simp)
  ·refine go ?_;refine WO.bl [] ?_;intro v1 h1 e1 o1;have s1:=Wc.ext s e1;refine go ?_;refine Vc (.inr o1) s1 e1 (by simp only[G5];omega) ?_;intro v2 h2 e2 o2;refine gr ?_;exact⟨o2,e2⟩
end Go.Proofs.YtndffgfnndoifaaGreatDoor
