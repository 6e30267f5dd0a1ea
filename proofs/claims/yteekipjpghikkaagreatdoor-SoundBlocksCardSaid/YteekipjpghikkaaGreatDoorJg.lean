/- What functions of the program come to in the abstract machine, and plain laws about it; no statement of the seat is proved in this text. -/
import Derived.Test.YteekipjpghikkaaGreatDoorJf
import Derived.Test.YteekipjpghikkaaGreatDoorAmV
import Derived.Test.YteekipjpghikkaaGreatDoorJc
import Derived.Test.YteekipjpghikkaaGreatDoorAmU
set_option linter.unusedVariables false
set_option linter.unusedSimpArgs false
set_option maxHeartbeats 1000000
namespace Go.Proofs.YteekipjpghikkaaGreatDoor
noncomputable section
open Go.Am
set_option maxRecDepth 100000
abbrev pO (xs:List Int) (b:Int):Int:=xs.getD b.toNat 0
abbrev qO (xs:List Int) (b:Int):Int:=xs.getD (16+b.toNat) 0
structure Dm (nx:Int->List Int) (xs:List Int):Prop where
 len:xs.length=32
 rpo:Rpo nx (fun b=>qO xs b)
 rl:Rl nx (fun b=>qO xs b) (fun b=>pO xs b)
 bnd:∀ b,Way nx 0 b->0<=b/\b<16
def zM7:ACode:=(oV (oV (o6 [oM 10 0,oM 11 1,(⟨some 12,none,(.nilCheck (.tmp 10))⟩,[]),oF 16 13 12,(⟨some 14,none,(.idxArr 16 1 (.tmp 13) (.tmp 11))⟩,[]),oL 15 14,oM 16 0,oM 17 2,(⟨some 18,none,(.nilCheck (.tmp 16))⟩,[]),oF 16 19 18,(⟨some 20,none,(.idxArr 16 1 (.tmp 19) (.tmp 17))⟩,[]),oL 21 20,oB .gtr 22 15 21]) (oT 22 2)) (o5 3 (oR [oM 23 0,oM 24 1,⟨some 25,none,(.nilCheck (.tmp 23))⟩,oF 0 26 25,⟨some 27,none,(.idxArr 16 1 (.tmp 26) (.tmp 24))⟩,oL 28 27,oM 1 28])))
def zMy:ACode:=(oV (oV (o6 [oM 29 0,oM 30 2,(⟨some 31,none,(.nilCheck (.tmp 29))⟩,[]),oF 16 32 31,(⟨some 33,none,(.idxArr 16 1 (.tmp 32) (.tmp 30))⟩,[]),oL 34 33,oM 35 0,oM 36 1,(⟨some 37,none,(.nilCheck (.tmp 35))⟩,[]),oF 16 38 37,(⟨some 39,none,(.idxArr 16 1 (.tmp 38) (.tmp 36))⟩,[]),oL 40 39,oB .gtr 41 34 40]) (oT 41 4)) (o5 5 (oR [oM 42 0,oM 43 2,⟨some 44,none,(.nilCheck (.tmp 42))⟩,oF 0 45 44,⟨some 46,none,(.idxArr 16 1 (.tmp 45) (.tmp 43))⟩,oL 47 46,oM 2 47])))
def zMB:ACode:=(oV (oV (oR [oM 7 1,oM 8 2,oB .neq 9 7 8]) (oT 9 0)) (o5 1 (oV (o5 2 (.loop zM7)) (o5 4 (.loop zMy)))))
def zSP:ACode:=(oV (oR [oN 6 0]) (oV (o5 0 (.loop zMB)) (oV (oR [oM 48 1,oM 6 48]) .ret)))
theorem zRF (hA h:AHeap) (p:Value) (nx:Int->List Int) (xs:List Int) (a b:Int) (o:OwnC hA h p (xs.map I)) (dm:Hid (Dm nx xs)) (wa:Way nx 0 a) (wb:Way nx 0 b) (pa:pO xs a≠ -1) (pb:pO xs b≠ -1):
  WC Tryz.prog tb 140 [p,I a,I b] h fun r h'=>(∃ m,r=I m/\Mt nx (fun b=>qO xs b) (fun b=>pO xs b) a b m)/\h=h':=by
 obtain⟨g,rfl⟩:∃ g,p= .pointer (some ⟨g,0,none⟩):=let ⟨g,_,_,e,_⟩:=o;⟨g,e⟩;have hl:=dm.out.len;refine en 49 [(6,none)] zSP ?_;refine WX.loopA [7,8,9,10,11,12,13,14,15,16,17,18,19,20,21,22,23,24,25,26,27,28,1,29,30,31,32,33,34,35,36,37,38,39,40,41,42,43,44,45,46,47,2] (by kernel_rfl) (fun x=>(qO xs x.1).toNat+(qO xs x.2).toNat) (fun (x:Int×Int) t h1=>h=h1/\zB t 1=I x.1/\zB t 2=I x.2/\Way nx 0 x.1/\Way nx 0 x.2/\pO xs x.1≠ -1/\pO xs x.2≠ -1/\Hid (∀ m,Mt nx (fun b=>qO xs b) (fun b=>pO xs b) x.1 x.2 m->Mt nx (fun b=>qO xs b) (fun b=>pO xs b) a b m)) (a,b) ?_ ?_
 ·exact⟨rfl,sl_,sl_,wa,wb,pa,pb,⟨fun m h=>h⟩⟩
 rintro⟨c,d⟩ t _ hsame ⟨rfl,s1,s2,wc,wd,pc,pd,hm⟩;simp only at s1 s2 wc wd pc pd hm;have bc:=dm.out.bnd c wc;have bd:=dm.out.bnd d wd;refine go ?_;refine WX.br (fun he=> ?_) (fun he=> ?_)<;>simp only[DB]at he;case refine_2=>
  subst he;refine gr ?_;exact⟨⟨c,rfl,hm.out c (Mt.same wc pc)⟩,rfl⟩
 have hne:qO xs c≠qO xs d:=fun e=>he (dm.out.rpo.inj c d wc wd e);have nc:=dm.out.rpo.nn c wc;have nd:=dm.out.rpo.nn d wd;try simp only at nc nd
 refine go ?_;refine WX.loopA [10,11,12,13,14,15,16,17,18,19,20,21,22,23,24,25,26,27,28,1] (by kernel_rfl) (fun x=>(qO xs x).toNat) (fun (x:Int) t h1=>h=h1/\zB t 1=I x/\Way nx 0 x/\pO xs x≠ -1/\(qO xs x<=qO xs c/\0<=qO xs x)/\Hid (∀ m,Mt nx (fun b=>qO xs b) (fun b=>pO xs b) x d m->Mt nx (fun b=>qO xs b) (fun b=>pO xs b) a b m)) c ?_ ?_
 ·exact⟨rfl,sl_,wc,pc,⟨Qi _,nc⟩,hm⟩
 rintro x t _ hsame2 ⟨rfl,s1,wx,px,hx,hmx⟩;have bx:=dm.out.bnd x wx;refine go ?_;refine WX.br (fun hf=> ?_) (fun hf=> ?_)<;>simp only[DB]at hf
 ·have hx0:x≠0:=fun e=>by subst e;have:=dm.out.rpo.zero;have hf2:qO xs d<qO xs 0:=hf;omega
  obtain⟨u1,u2,u3⟩:=dm.out.rl.up x wx hx0 px;have nu:=dm.out.rpo.nn _ u1;try simp only at u2 u3 nu
  refine go ?_;exact zA (pO xs x) (by omega) ⟨rfl,sl_,u1,u2,⟨by omega,nu⟩,⟨fun m h=>hmx.out m (Mt.stepL dm.out.rpo dm.out.rl wx wd px hf h)⟩⟩
 refine go ?_;refine WX.loopA [29,30,31,32,33,34,35,36,37,38,39,40,41,42,43,44,45,46,47,2] (by kernel_rfl) (fun y=>(qO xs y).toNat) (fun (y:Int) t h1=>h=h1/\zB t 2=I y/\Way nx 0 y/\pO xs y≠ -1/\(qO xs y<=qO xs d/\0<=qO xs y)/\Hid (∀ m,Mt nx (fun b=>qO xs b) (fun b=>pO xs b) x y m->Mt nx (fun b=>qO xs b) (fun b=>pO xs b) a b m)) d ?_ ?_
 ·exact⟨rfl,sl_,wd,pd,⟨Qi _,nd⟩,hmx⟩
 rintro y t _ hsame3 ⟨rfl,s2,wy,py,hy,hmy⟩;have bY:=dm.out.bnd y wy;refine go ?_;refine WX.br (fun hg=> ?_) (fun hg=> ?_)<;>simp only[DB]at hg
 ·have hy0:y≠0:=fun e=>by subst e;have:=dm.out.rpo.zero;have hg2:qO xs x<qO xs 0:=hg;omega
  obtain⟨u1,u2,u3⟩:=dm.out.rl.up y wy hy0 py;have nu:=dm.out.rpo.nn _ u1;try simp only at u2 u3 nu
  refine go ?_;exact zA (pO xs y) (by omega) ⟨rfl,sl_,u1,u2,⟨by omega,nu⟩,⟨fun m h=>hmy.out m (Mt.stepR dm.out.rpo dm.out.rl wx wy py hg h)⟩⟩
 refine go ?_;have key:∀ (C D X Y:Int),C≠D->0<=X->X<=C->0<=Y->Y<=D->X<=D->Y<=X->X.toNat+Y.toNat<C.toNat+D.toNat:=by intros;omega
 exact zA (x,y) (key _ _ _ _ hne hx.2 hx.1 hy.2 hy.1 hf hg) ⟨rfl,sl_,sl_,wx,wy,px,py,hmy⟩
def ParL (nx:Int->List Int) (e:List Int) (S:Int->Prop):Prop:=∀ e1 u e2,e=e1++u::e2->S u\/∃ a∈e2,u∈nx a
theorem ParL.nil {nx:Int->List Int} {S:Int->Prop}:ParL nx [] S:=fun e1 u e2 h=>by cases e1<;>cases h
theorem ParL.append {nx:Int->List Int} {e f:List Int} {S:Int->Prop} (h:ParL nx e S) (k:ParL nx f S):ParL nx (e++f) S:=by
 intro e1 u e2 he;rcases List.append_eq_append_iff.1 he with ⟨a,h1,h2⟩|⟨a,h1,h2⟩
 ·exact k a u e2 h2
 ·cases a with
  |nil=>exact k [] u e2 (by simpa using h2.symm)
  |cons x a=>
   simp only[List.cons_append,List.cons.injEq]at h2;obtain⟨rfl,rfl⟩:=h2;rcases h e1 u a h1 with h|⟨b,hb,hu⟩
   ·exact .inl h
   ·exact .inr ⟨b,by simp[hb],hu⟩
theorem zRJ {nx:Int->List Int}:∀ (n:Nat) (b:Int) (s:DS),∃ e,(ZB nx n b s).2=s.2++e/\ParL nx e (fun u=>u=b):=by
 intro n;induction n with
 |zero=>intro b s;exact⟨[],by simp[ZB],ParL.nil⟩
 |succ n ih=>
  intro b s;by_cases hbb:(s.1.lookup b).isSome
  ·rw[zBS hbb];exact⟨[],by simp,ParL.nil⟩
  ·have go:∀ (l:List Int) (t:DS),(∀ c∈l,c∈nx b)->∃ e,(l.foldl (fun (t:DS) (c:Int)=>ZB nx n c t) t).2=t.2++e/\ParL nx e (fun u=>u∈nx b):=by
    intro l;induction l with
    |nil=>intro t _;exact⟨[],by simp,ParL.nil⟩
    |cons x l ihl=>
     intro t hl;obtain⟨e,h1,h2⟩:=ih x t;obtain⟨f,h3,h4⟩:=ihl (ZB nx n x t) (fun c hc=>hl c (by simp[hc]));refine⟨e++f,by rw[List.foldl_cons,h3,h1,GC],ParL.append (fun e1 u e2 he=> ?_) h4⟩;rcases h2 e1 u e2 he with h|h
     ·rw[h];exact .inl (hl x (by simp))
     ·exact .inr h
   obtain⟨e,h1,h2⟩:=go (nx b) (s.1++[(b,(s.1.length:Int))],s.2) (fun c hc=>hc);refine⟨e++[b],?_,fun e1 u e2 he=> ?_⟩
   ·conv=>lhs;unfold ZB
    rw[QD hbb];simp only;rw[h1,GC]
   ·rcases List.eq_nil_or_concat e2 with rfl|⟨e3,x,rfl⟩
    ·obtain⟨_,h5⟩:=List.append_inj' (s₁:=e) (t₁:=[b]) (s₂:=e1) (t₂:=[u]) he rfl;cases h5;exact .inl rfl
    ·have he':e++[b]=(e1++u::e3)++[x]:=by rw[he];simp
     obtain⟨h5,h6⟩:=List.append_inj' he' rfl;cases h6;rcases h2 e1 u e3 h5 with h|⟨a,ha,hu⟩
     ·exact .inr ⟨b,by simp,h⟩
     ·exact .inr ⟨a,by simp[ha],hu⟩
theorem zFm {T:List LType} {F:List LFn} {f:Int} (h:(zD T F f 0).2=0):∀ i,i<(zU T F f).1.length->(zU T F f).1.getD i 0≠0->∃ j,j<i/\(zU T F f).1.getD i 0∈nxL (zD T F f 0).1 ((zU T F f).1.getD j 0):=by
 intro i hi hne;have eO:(zU T F f).1=(Yn T F f).reverse:=by unfold zU;rw[QD (by rw[h];exact fun e=>e rfl)]
 obtain⟨e,h1,h2⟩:=zRJ (nx:=nxL (zD T F f 0).1) (zD T F f 0).1.length 0 ([],[]);have eP:Yn T F f=e:=by
  have:Yn T F f=(ZB (nxL (zD T F f 0).1) (zD T F f 0).1.length 0 ([],[])).2:=rfl;rw[this,h1];rfl
 rw[eO,eP]at hi hne |-;rw[List.length_reverse]at hi;have ei:∀ k,k<e.length->e.reverse.getD k 0=e.getD (e.length - 1 - k) 0:=fun k hk=>by
  rw[QE,List.getElem?_reverse hk,QE]
 have hi2:e.length - 1 - i<e.length:=by omega
 have hsplit:e=e.take (e.length - 1 - i)++e.getD (e.length - 1 - i) 0::e.drop (e.length - 1 - i+1):=by
  conv=>lhs;rw[<-Gb (e.length - 1 - i) e,Qx hi2]
  simp[List.getD,QB hi2]
 rw[ei i hi]at hne |-;rcases h2 _ _ _ hsplit with h3|⟨a,ha,hu⟩
 ·exact absurd h3 hne
 ·obtain⟨m,hm,hma⟩:=JS.1 ha;rw[GO]at hm;rw[List.getElem_drop]at hma;refine⟨e.length - 1 - (e.length - 1 - i+1+m),by omega,?_⟩;rw[ei _ (by omega)];have:e.getD (e.length - 1 - (e.length - 1 - (e.length - 1 - i+1+m))) 0=a:=by
   rw[show e.length - 1 - (e.length - 1 - (e.length - 1 - i+1+m))=e.length - 1 - i+1+m by omega,<-hma];simp[List.getD,QB (show e.length - 1 - i+1+m<e.length by omega)]
  rw[this];exact hu
theorem zRf {T:List LType} {n:Int} {f:LFn} (h:fnL T n f=true):zJ7 f.blocks:=by
 refine⟨(zKO h).1,fun k hk=> ?_⟩;unfold fnL at h;split at h
 ·cases h
 ·rw[Gk,G8]at h;have hmem:=zH (l:=f.blocks) (i:=k) hk;have hblk:=h _ hmem;unfold zCo at hblk;simp only[GA,not_or,JQ,Bool.not_eq_false']at hblk;have he:zA6 (f.blocks.getD k default).fin (szL T n f)=true:=by simpa using hblk.2
  unfold zA6 zW szL at he;split at he
  ·rename_i hk1;simp only[QJ,Qb]at he;refine⟨.inl hk1,fun _=>by omega,fun h2=>by omega⟩
  ·rename_i hk1;split at he
   ·rename_i hk2;simp only[QJ,Qb]at he;exact⟨.inr (.inl hk2),fun _=>by omega,fun _=>by omega⟩
   ·rename_i hk2;split at he
    ·rename_i hk3;exact⟨.inr (.inr hk3),fun h=>by omega,fun h=>by omega⟩
    ·cases he
theorem zHk {T:List LType} {F:List LFn} {f b:Int} (h:(zD T F f b).2=0):zJ7 (zD T F f b).1:=by
 obtain⟨_,_,h3,h4⟩:=yh h;have hin:=zAl h4;rw[h3];exact zRf ((zAP hin.2.2).2.2.2 _ (zH (l:=F) (i:=f.toNat) (by omega)))
theorem zNF {T:List LType} {F:List LFn} {f:Int} (h:(zD T F f 0).2=0) {pos:Int->Int} (hp:∀ i,i<(zU T F f).1.length->pos ((zU T F f).1.getD i 0)=i):Rpo (nxL (zD T F f 0).1) pos:=by
 obtain⟨law1,law2,⟨l,law3⟩,law4,law5,law6,law7⟩:=zBV h;have hpar:=zFm h;have hmem:∀ b,Way (nxL (zD T F f 0).1) 0 b->∃ i,i<(zU T F f).1.length/\(zU T F f).1.getD i 0=b:=fun b w=>zBF (law4 b ((Yh h).2 w));have hw:∀ i,i<(zU T F f).1.length->Way (nxL (zD T F f 0).1) 0 ((zU T F f).1.getD i 0):=fun i=>by
  induction i using Nat.strongRecOn with
  |_ i ih=>
   intro hi;by_cases e:(zU T F f).1.getD i 0=0
   ·rw[e];exact .here
   ·obtain⟨j,hj,hm⟩:=hpar i hi e;exact .step (ih j hj (by omega)) hm
 refine⟨?_,fun b w=> ?_,fun a b wa wb e=> ?_,fun b w hb=> ?_⟩
 ·have:=hp 0 (by rw[law3];simp);rw[show (zU T F f).1.getD 0 0=0 by rw[law3];rfl]at this;exact this
 ·obtain⟨i,hi,rfl⟩:=hmem b w;rw[hp i hi];omega
 ·obtain⟨i,hi,rfl⟩:=hmem a wa;obtain⟨j,hj,rfl⟩:=hmem b wb;rw[hp i hi,hp j hj]at e;have:i=j:=by omega
  rw[this]
 ·obtain⟨i,hi,rfl⟩:=hmem b w;obtain⟨j,hj,hm⟩:=hpar i hi hb;exact⟨_,hw j (by omega),hm,by rw[hp i hi,hp j (by omega)];omega⟩
theorem zDe {T:List LType} {F:List LFn} {f:Int} (h:(zD T F f 0).2=0):(zU T F f).1.Nodup:=by
 obtain⟨_,hpos,_,_⟩:=yh h;obtain⟨hlen,hin⟩:=Zc h;obtain⟨nd,_,_⟩:=zIE hin (a:=0) ⟨Qi _,hpos⟩;unfold zU;rw[QD (by rw[h];exact fun e=>e rfl)];simp only;exact(List.reverse_perm _).nodup_iff.2 nd
theorem Ys {l:List Int} (h:l.Nodup) {i j:Nat} (hi:i<l.length) (hj:j<l.length) (e:l.getD i 0=l.getD j 0):i=j:=by
 simp only[List.getD,QB hi,QB hj,Q7]at e;exact(List.getElem_inj h).1 e
theorem ZA {xs:List Int} {i:Nat} {v:Int} {k:Nat} (hi:i<xs.length):(xs.set i v).getD k 0=if k=i then v else xs.getD k 0:=zBM hi
structure Rnd (nx:Int->List Int) (qs xs:List Int) (k:Nat):Prop where
 dm:Dm nx xs
 qs:xs.drop 16=qs
 far:∀ c,Far nx (fun b=>pO xs b) k c
 un:∀ c,0<=c->c<16->¬Way nx 0 c->pO xs c= -1
 all:1<=k->∀ c,Way nx 0 c->pO xs c≠ -1
structure Md (nx:Int->List Int) (O qs xs0 xs:List Int) (k m:Nat):Prop where
 dm:Dm nx xs
 qs:xs.drop 16=qs
 far:∀ c,Far nx (fun b=>pO xs b) k c
 un:∀ c,0<=c->c<16->¬Way nx 0 c->pO xs c= -1
 pre:∀ i,i<m->Far nx (fun b=>pO xs b) (k+1) (O.getD i 0)/\pO xs (O.getD i 0)≠ -1
 same:∀ j:Nat,j<16->(∀ i,i<m->i≠0->O.getD i 0≠(j:Int))->xs.getD j 0=xs0.getD j 0
 fix:xs=xs0->∀ i,i<m->i≠0->∀ a,Way nx 0 a->O.getD i 0∈nx a->pO xs a≠ -1->Anc (fun b=>pO xs b) (pO xs (O.getD i 0)) a
theorem zIj {nx:Int->List Int} {p:Int->Int} {k:Nat} (h:p 0=0):Far nx p k 0:=fun x hx=>
 ⟨by rw[h];decide,fun ha=>hx.ne (Anc.zero ha).symm⟩
theorem zUA {xs:List Int} {b v:Int} (hl:xs.length=32) (hb:0<b/\b<16):(fun c=>pO (xs.set b.toNat v) c)=upd (fun c=>pO xs c) b v:=by
 funext c;unfold upd;show (xs.set b.toNat v).getD c.toNat 0=_;rw[ZA (by omega)];by_cases e:c=b
 ·rw[QI (by rw[e]),QI e]
 ·rw[QD (by omega),QD e]
theorem zUq {xs:List Int} {b v:Int} (hl:xs.length=32) (hb:0<b/\b<16):(fun c=>qO (xs.set b.toNat v) c)=fun c=>qO xs c:=by
 funext c;show (xs.set b.toNat v).getD (16+c.toNat) 0=_;rw[ZA (by omega),QD (by omega)]
theorem zNd {xs:List Int} {b v:Int} (hb:0<b/\b<16):(xs.set b.toNat v).drop 16=xs.drop 16:=by
 rw[List.drop_set,QI (by omega)]
theorem Md.start {nx:Int->List Int} {O qs xs:List Int} {k:Nat} (r:Rnd nx qs xs k) (h0:O.getD 0 0=0):Md nx O qs xs xs k 1 where
 dm:=r.dm
 qs:=r.qs
 far:=r.far
 un:=r.un
 pre:=fun i hi=>by
  have:i=0:=by omega
  subst this;rw[h0];have hz:=r.dm.rl.zero;exact⟨zIj hz,by show pO xs 0≠ -1;have hz':pO xs 0=0:=hz;rw[hz'];decide⟩
 same:=fun j _ _=>rfl
 fix:=fun _ i hi hi0=>by omega
theorem Md.step {nx:Int->List Int} {O qs xs0 xs:List Int} {k m:Nat} {v:Int} (g:Md nx O qs xs0 xs k m) (hnd:O.Nodup) (hm:m<O.length) (hm0:0<m) (hb0:O.getD m 0≠0) (hw:Way nx 0 (O.getD m 0)) (bt:Best nx (fun b=>qO xs b) (fun b=>pO xs b) (O.getD m 0) v) (hl0:xs0.length=32):Md nx O qs xs0 (xs.set (O.getD m 0).toNat v) k (m+1):=by
 have hl:=g.dm.len;have hbb:=g.dm.bnd _ hw;have hb:0<O.getD m 0/\O.getD m 0<16:=by omega
 have hv:v≠ -1:=fun e=>by have:=g.dm.bnd _ bt.way;omega
 have ep:=zUA (v:=v) hl hb;have eq:=zUq (v:=v) hl hb;have hrl:=zUK g.dm.rl hb0 hw bt hv;have hother:∀ i,i<m->O.getD i 0≠O.getD m 0:=fun i hi e=>by have:=Ys hnd (by omega) hm e;omega
 refine⟨⟨by rw[GJ];exact hl,by rw[eq];exact g.dm.rpo,by rw[eq,ep];exact hrl,g.dm.bnd⟩,by rw[zNd hb];exact g.qs,by rw[ep];exact zNt g.dm.rl hb0 hw bt hv g.far,fun c h1 h2 h3=> ?_,fun i hi=> ?_,fun j hj hn=> ?_,fun he i hi hi0 a wa ha pa=> ?_⟩
 ·have:pO (xs.set (O.getD m 0).toNat v) c=upd (fun c=>pO xs c) (O.getD m 0) v c:=congrFun ep c;rw[this];unfold upd;rw[QD (fun e=>h3 (by rw[e];exact hw))];exact g.un c h1 h2 h3
 ·have hp:pO (xs.set (O.getD m 0).toNat v) (O.getD i 0)=upd (fun c=>pO xs c) (O.getD m 0) v (O.getD i 0):=congrFun ep _;rw[hp,ep];by_cases e:i=m
  ·subst e;exact⟨zCD g.dm.rl hb0 hw bt hv g.far,by unfold upd;rw[QI rfl];exact hv⟩
  ·obtain⟨f1,f2⟩:=g.pre i (by omega);exact⟨zQH g.dm.rl hb0 hw bt hv g.far f1,by unfold upd;rw[QD (hother i (by omega))];exact f2⟩
 ·rw[ZA (by omega),QD (fun e=>hn m (by omega) (by omega) (by omega))];exact g.same j hj fun i hi hi0=>hn i (by omega) hi0
 ·have hs:=g.same (O.getD m 0).toNat (by omega) (fun i hi _ e=>hother i hi (by omega));have hvs:v=xs.getD (O.getD m 0).toNat 0:=by
   rw[hs,<-he,ZA (by omega),QI rfl]
  have hxx:xs.set (O.getD m 0).toNat v=xs:=by
   refine zCO (by simp) fun j hj=> ?_;rw[ZA (by omega)];by_cases e:j=(O.getD m 0).toNat
   ·rw[QI e,e];exact hvs
   ·rw[QD e]
  rw[hxx]at he pa |-;by_cases e:i=m
  ·subst e;have hpv:pO xs (O.getD i 0)=v:=hvs.symm;rw[hpv];exact bt.anc a wa ha pa
  ·exact g.fix he i (by omega) hi0 a wa ha pa
theorem Md.done {nx:Int->List Int} {O qs xs0 xs:List Int} {k:Nat} (g:Md nx O qs xs0 xs k O.length) (hmem:∀ c,Way nx 0 c->∃ i,i<O.length/\O.getD i 0=c):Rnd nx qs xs (k+1) where
 dm:=g.dm
 qs:=g.qs
 far:=fun c x hx=>by
  obtain⟨i,hi,rfl⟩:=hmem c hx.way;exact(g.pre i hi).1 x hx
 un:=g.un
 all:=fun _ c w=>by
  obtain⟨i,hi,rfl⟩:=hmem c w;exact(g.pre i hi).2
theorem zJ5 {nx:Int->List Int} {O qs xs0 xs:List Int} {k K N:Nat} (r:Rnd nx qs xs0 k) (g:Md nx O qs xs0 xs k O.length) (hmem:∀ c,Way nx 0 c->∃ i,i<O.length/\O.getD i 0=c) (h0:O.getD 0 0=0) (hN:∀ c,Way nx 0 c->0<=c/\c<(N:Int)) (hK:∀ x b,0<=x/\x<(N:Int)->Av nx x b->Avk nx x K b) (hk:K<=k) (hk1:1<=k) (hl0:xs0.length=32) (hnd:O.Nodup) (hre:∀ i,i<O.length->Way nx 0 (O.getD i 0)):xs=xs0:=by
 have hl:=g.dm.len;have av:∀ (p:Int->Int),(∀ c,Far nx p k c)->Rl nx (fun b=>qO xs b) p->∀ x c,Av nx x c->¬Anc p x c:=fun p hf hr x c hav ha=>by
  obtain⟨j,hj⟩:=hav;have wx:=(hr.le ha hj.way).1;exact(hf c x ((hK x c (hN x wx) ⟨j,hj⟩).mono hk)).2 ha
 have hq:(fun b=>qO xs0 b)=fun b=>qO xs b:=by
  funext b;have h1:∀ (l:List Int),qO l b=(l.drop 16).getD b.toNat 0:=fun l=>by simp[List.getD]
  rw[h1,h1,r.qs,g.qs]
 have hr0:Rl nx (fun b=>qO xs b) (fun b=>pO xs0 b):=by rw[<-hq];exact r.dm.rl
 have rd:=g.done hmem;refine zCO (by omega) fun j hj=> ?_;by_cases h16:j<16
 ·by_cases hw:Way nx 0 (j:Int)
  ·by_cases hj0:j=0
   ·exact g.same j h16 fun i hi hi0 e=>hi0 (Ys hnd hi (by omega) (by rw[h0,e,hj0];rfl))
   ·have:=zI9 g.dm.rpo g.dm.rl hr0 (av _ g.far g.dm.rl) (av _ r.far hr0) hw (by omega) (rd.all (by omega) _ hw) (r.all hk1 _ hw);simpa [pO]using this
  ·exact g.same j h16 fun i hi hi0 e=>hw (by rw[<-e];exact hre i hi)
 ·have h1:=congrArg (fun l=>l.getD (j - 16) 0) (g.qs.trans r.qs.symm);simp only[QE,GL]at h1 |-;rw[show 16+(j - 16)=j by omega]at h1;exact h1
def Bst (nx:Int->List Int) (xs:List Int) (b:Int) (A:List Int) (j:Nat) (v:Int):Prop:=
 (v= -1/\∀ i,i<j->pO xs (A.getD i 0)= -1)\/
 (v≠ -1/\Way nx 0 v/\pO xs v≠ -1/\(∀ i,i<j->pO xs (A.getD i 0)≠ -1->Anc (fun b=>pO xs b) v (A.getD i 0))/\∀ y,Dom nx y b->y≠b->Dom nx y v)
theorem Bst.skip {nx:Int->List Int} {xs:List Int} {b v:Int} {A:List Int} {j:Nat} (h:Bst nx xs b A j v) (hp:pO xs (A.getD j 0)= -1):Bst nx xs b A (j+1) v:=by
 rcases h with ⟨h1,h2⟩|⟨h0,h1,h2,h3,h4⟩
 ·refine .inl ⟨h1,fun i hi=> ?_⟩;by_cases e:i=j
  ·rw[e];exact hp
  ·exact h2 i (by omega)
 ·refine .inr ⟨h0,h1,h2,fun i hi hn=> ?_,h4⟩;by_cases e:i=j
  ·rw[e]at hn;exact absurd hp hn
  ·exact h3 i (by omega) hn
theorem Bst.first {nx:Int->List Int} {xs:List Int} {b:Int} {A:List Int} {j:Nat} (h:Bst nx xs b A j (-1)) (hw:Way nx 0 (A.getD j 0)) (hn0:A.getD j 0≠ -1) (hb:b∈nx (A.getD j 0)) (hp:pO xs (A.getD j 0)≠ -1):Bst nx xs b A (j+1) (A.getD j 0):=by
 rcases h with ⟨_,h2⟩|⟨h0,_⟩
 ·refine .inr ⟨hn0,hw,hp,fun i hi hn=> ?_,fun y hy hyb=>hy.pred hyb hb⟩;by_cases e:i=j
  ·rw[e];exact .here
  ·exact absurd (h2 i (by omega)) hn
 ·exact absurd rfl h0
theorem Bst.meet {nx:Int->List Int} {xs:List Int} {b v m:Int} {A:List Int} {j:Nat} (h:Bst nx xs b A j v) (hv:v≠ -1) (hm0:m≠ -1) (hb:b∈nx (A.getD j 0)) (hm:Mt nx (fun b=>qO xs b) (fun b=>pO xs b) v (A.getD j 0) m):Bst nx xs b A (j+1) m:=by
 rcases h with ⟨h1,_⟩|⟨h0,h1,h2,h3,h4⟩
 ·exact absurd h1 hv
 ·refine .inr ⟨hm0,hm.way,hm.done,fun i hi hn=> ?_,fun y hy hyb=>hm.dom y (h4 y hy hyb) (hy.pred hyb hb)⟩;by_cases e:i=j
  ·rw[e];exact hm.right
  ·exact hm.left.trans (h3 i (by omega) hn)
theorem Bst.best {nx:Int->List Int} {xs:List Int} {b v:Int} {A:List Int} (dm:Dm nx xs) (h:Bst nx xs b A A.length v) (hA:∀ a,Way nx 0 a->b∈nx a->∃ i,i<A.length/\A.getD i 0=a) {a:Int} (wa:Way nx 0 a) (ha:b∈nx a) (pa:pO xs a≠ -1) (hlt:qO xs a<qO xs b):Best nx (fun b=>qO xs b) (fun b=>pO xs b) b v:=by
 obtain⟨i,hi,e⟩:=hA a wa ha;rcases h with ⟨h1,h2⟩|⟨h0,h1,h2,h3,h4⟩
 ·exact absurd (by rw[<-e];exact h2 i hi) pa
 ·refine⟨h1,h2,?_,fun c wc hc pc=> ?_,h4⟩
  ·have:=(dm.rl.le (by have:=h3 i hi (by rw[e];exact pa);rw[e]at this;exact this) wa).2.1;have h5:qO xs v<=qO xs a:=this;show qO xs v<qO xs b;omega
  ·obtain⟨i,hi,e⟩:=hA c wc hc;have:=h3 i hi (by rw[e];exact pc);rw[e]at this;exact this
structure Rul (nx:Int->List Int) (xs:List Int):Prop where
 dm:Dm nx xs
 all:∀ b,Way nx 0 b->pO xs b≠ -1
 dom:∀ y b,Way nx 0 b->(Anc (fun b=>pO xs b) y b↔Dom nx y b)
 lt:∀ b,Way nx 0 b->qO xs b<16
 un:∀ c,0<=c->c<16->¬Way nx 0 c->pO xs c= -1
theorem zUa {nx:Int->List Int} {O qs xs:List Int} {k:Nat} (g:Md nx O qs xs xs k O.length) (hmem:∀ c,Way nx 0 c->∃ i,i<O.length/\O.getD i 0=c) (h0:O.getD 0 0=0) (hq:∀ b,Way nx 0 b->qO xs b<16):Rul nx xs:=by
 have rd:=g.done hmem;have hall:=rd.all (by omega);refine⟨g.dm,hall,fun y b w=>⟨fun ha hav=> ?_,fun hd=>Rl.anc_of_dom g.dm.rpo g.dm.rl (qO xs b).toNat b y (by have h5:=g.dm.rpo.nn b w;have h5:0<=qO xs b:=h5;show qO xs b<=_;omega) w (hall b w) hd⟩,hq,g.un⟩;obtain⟨n,hav⟩:=hav;induction hav with
 |here h=>exact h (Anc.zero ha).symm
 |step h1 hc hne ih=>
  rename_i n a c;cases ha with
  |here=>exact hne rfl
  |up hb hp hu=>
   obtain⟨i,hi,e⟩:=hmem c w;have hi0:i≠0:=fun e2=>hb (by rw[<-e,e2,h0]);have:=g.fix rfl i hi hi0 a h1.way (by rw[e];exact hc) (hall a h1.way);rw[e]at this;exact ih h1.way (hu.trans this)
theorem zOH {h0 h:AHeap} {v:Value} {l:List Int} (o:OwnN h0 h v l) (hl:0<l.length):∃ r,ZL 1 v (some 1) none none=some r/\SlI h r (l.drop 1):=by
 rcases o with ⟨rfl,rfl⟩|⟨g,g1,g2,rfl,g3⟩
 ·simp at hl
 ·refine⟨.slice (some ⟨g,1,none⟩) (l.length - 1) 1,?_,?_⟩
  ·have h1:Nat.ble 1 l.length=true:=QH hl;have h2:Nat.ble l.length l.length=true:=QH (QF _);simp[ZL,h1,h2]
  ·exact⟨by simp,.inr ⟨g,1,l.map I,by simp,ZZ g3,by rw[yo (by simp;omega),List.map_drop,Q5 (by simp)],g2⟩⟩
theorem zOr {h0 h h':AHeap} {p q:Value} {cells:List Value} (o:OwnC h0 h q cells) (u:UpdC p h h') (hne:p≠q):OwnC h0 h' q cells:=by
 obtain⟨g,g1,g2,rfl,g3⟩:=o;exact⟨g,g1,QG g2 u.1,rfl,(u.2 g g2 hne).trans g3⟩
theorem zK3 (l:List Int) (b:Int):qO l b=(l.drop 16).getD b.toNat 0:=by simp[qO,List.getD]
theorem zLk {xs ys:List Int} (hx:xs.take 16=ys.take 16) (hy:xs.drop 16=ys.drop 16):xs=ys:=by
 rw[<-Gb 16 xs,hx,hy,Gb]
theorem zPH {L:List LBlk} {b:Int} {A:List Int} (hA:zK L b L.length=A) {j:Nat} (hj:j<A.length):(0<=A.getD j 0/\A.getD j 0<(L.length:Int))/\b∈nxL L (A.getD j 0):=by
 refine Y6.1 ?_;rw[hA,QE,QB hj];exact JC hj
set_option maxRecDepth 100000
theorem zUG {hB h:AHeap} {cells:List Value} {A:Nat->List Int} (hl:cells.length=16) (hall:∀ j,j<16->OwnN hB h (cells.getD j undef) (A j)):zN cells=true:=by
 unfold zN;rw[QY];intro x hx;obtain⟨j,hj,rfl⟩:=JS.1 hx;have e:cells.getD j undef=cells[j]:=by simp[List.getD,QB hj]
 have:=hall j (by omega);rw[e]at this;rcases this with ⟨h,_⟩|⟨_,_,_,h,_⟩<;>rw[h]
theorem zDN (l:List Int):Ye (.agg (l.map I).toArray)=true:=by
 show (l.map I).all yR=true;rw[QY];intro x hx;obtain⟨n,_,rfl⟩:=Q0.1 hx;rfl
def zPo:ACode:=(oV (oR [oC .lss 34 33 16]) (oV (oT 34 0) (oV (o5 1 (oV (oR [oM 35 33,oM 9 35]) (o6 [oM 36 8,oM 37 9,oM 38 8,oM 39 9,(⟨some 40,none,(.nilCheck (.tmp 36))⟩,[]),oF 0 41 40,(⟨some 42,none,(.idxArr 16 1 (.tmp 41) (.tmp 37))⟩,[]),(⟨none,none,(.store 1 (.tmp 42) (.const (.int .i64 (-1))))⟩,[]),(⟨some 43,none,(.nilCheck (.tmp 38))⟩,[]),oF 16 44 43,(⟨some 45,none,(.idxArr 16 1 (.tmp 44) (.tmp 39))⟩,[]),(⟨none,none,(.store 1 (.tmp 45) (.const (.int .i64 (-1))))⟩,[])]))) (oR [oC .add 46 33 1,oM 33 46]))))
def zOA:ACode:=(oV (oR [oB .lss 50 49 48]) (oV (oT 50 2) (oV (o5 3 (oV (oR [oM 51 49,oI 1 52 47 49,oL 53 52,oM 10 51,oM 11 53]) (oR [oM 54 8,oM 55 11,oM 56 10,⟨some 57,none,(.nilCheck (.tmp 54))⟩,oF 16 58 57,⟨some 59,none,(.idxArr 16 1 (.tmp 58) (.tmp 55))⟩,oS 1 59 56]))) (oR [oC .add 60 49 1,oM 49 60]))))
def zO7:ACode:=(oV (oR [oB .lss 81 80 79]) (oV (oT 81 8) (oV (o5 9 (oV (oR [oI 1 82 78 80,oL 83 82,oM 17 83]) (o5 10 (oV (oR [oM 89 8,oM 90 17,⟨some 91,none,(.nilCheck (.tmp 89))⟩,oF 0 92 91,⟨some 93,none,(.idxArr 16 1 (.tmp 92) (.tmp 90))⟩,oL 94 93,oC .eql 95 94 (-1),oM 88 95]) (oJ 88 .skip (oV (oR [oM 97 15,oC .eql 98 97 (-1),oM 96 98]) (oJ 96 (oR [oM 99 17,oM 15 99]) (oR [oM 84 8,oM 85 15,oM 86 17,o3 87 140 84 85 86,oM 15 87])))))))) (oR [oC .add 100 80 1,oM 80 100]))))
def zOf:ACode:=(oV (oR [oB .lss 73 72 71]) (oV (oT 73 6) (oV (o5 7 (oV (oR [oI 1 74 70 72,oL 75 74,oM 14 75]) (oV (oR [oN 15 (-1)]) (oV (oV (oR [oM 76 14,⟨some 77,none,(.idxArr 16 1 (.tmp 7) (.tmp 76))⟩,oL 78 77,oQ 79 78,oN 80 0]) (o5 8 (.loop zO7))) (oR [oM 101 8,oM 102 14,oM 103 15,⟨some 104,none,(.nilCheck (.tmp 101))⟩,oF 0 105 104,⟨some 106,none,(.idxArr 16 1 (.tmp 105) (.tmp 102))⟩,oS 1 106 103]))))) (oR [oC .add 107 72 1,oM 72 107]))))
def zPL:ACode:=(o5 5 (oV (oR [oM 65 8,⟨some 66,none,(.nilCheck (.tmp 65))⟩,oF 0 67 66,oA 16 68 67,⟨some 12,none,(.alloc [(.int .i64 0),(.int .i64 0),(.int .i64 0),(.int .i64 0),(.int .i64 0),(.int .i64 0),(.int .i64 0),(.int .i64 0),(.int .i64 0),(.int .i64 0),(.int .i64 0),(.int .i64 0),(.int .i64 0),(.int .i64 0),(.int .i64 0),(.int .i64 0)])⟩,oS 16 12 68]) (oV (oV (oR [oM 69 5,⟨some 70,none,(.slice 1 (.tmp 69) (some (.const (.int .i64 1))) none none)⟩,oQ 71 70,oN 72 0]) (o5 6 (.loop zOf))) (oV (o6 [oA 16 108 12,oM 109 8,(⟨some 110,none,(.nilCheck (.tmp 109))⟩,[]),oF 0 111 110,oA 16 112 111,(⟨some 113,none,(.binP .eql 146 (.tmp 108) (.tmp 112))⟩,[])]) (oJ 113 (.exit 4) .skip)))))
def zUj:ACode:=(oV (oR [oX 2 0,oK 4 (.pointer none)]) (.scope (oV (oR [oA 2 19 2,oM 20 1,o2 21 138 19 20,oM 18 21,oE 22 18 0,oE 23 18 1,oM 5 22,oM 6 23]) (oV (oR [oF 1 24 2,oL 25 24,oM 26 1,oI 2 27 25 26,oF 1 28 27,oL 29 28,o1 30 139 29,⟨some 7,none,(.alloc [(.slice none 0 0),(.slice none 0 0),(.slice none 0 0),(.slice none 0 0),(.slice none 0 0),(.slice none 0 0),(.slice none 0 0),(.slice none 0 0),(.slice none 0 0),(.slice none 0 0),(.slice none 0 0),(.slice none 0 0),(.slice none 0 0),(.slice none 0 0),(.slice none 0 0),(.slice none 0 0)])⟩,oS 16 7 30]) (oV (oR [⟨some 31,none,(.build [(.int .i64 0),(.int .i64 0),(.int .i64 0),(.int .i64 0),(.int .i64 0),(.int .i64 0),(.int .i64 0),(.int .i64 0),(.int .i64 0),(.int .i64 0),(.int .i64 0),(.int .i64 0),(.int .i64 0),(.int .i64 0),(.int .i64 0),(.int .i64 0),(.int .i64 0),(.int .i64 0),(.int .i64 0),(.int .i64 0),(.int .i64 0),(.int .i64 0),(.int .i64 0),(.int .i64 0),(.int .i64 0),(.int .i64 0),(.int .i64 0),(.int .i64 0),(.int .i64 0),(.int .i64 0),(.int .i64 0),(.int .i64 0)] [])⟩,oX 32 31,oM 8 32]) (oV (oV (oR [oN 33 0]) (o5 0 (.loop zPo))) (oV (oV (oR [oM 47 5,oQ 48 47,oN 49 0]) (o5 2 (.loop zOA))) (oV (oR [oM 61 8,⟨some 62,none,(.nilCheck (.tmp 61))⟩,oF 0 63 62,⟨some 64,none,(.idxArr 16 1 (.tmp 63) (.const (.int .i64 0)))⟩,⟨none,none,(.store 1 (.tmp 64) (.const (.int .i64 0)))⟩]) (oV (.label 0) (oV (o5 4 (.loop zPL)) (oV (oR [oM 114 8,oM 4 114]) .ret)))))))))))
theorem zUC (h:AHeap) (vt vf:Value) (T:List LType) (F:List LFn) (f:Int) (tt:Tbl h) (hm:h.mark<=h.n) (sm:Small T F) (st:SlT h vt T) (sf:SlF h vf F) (hb:(zD T F f 0).2=0):
  WC Tryz.prog tb 90 [.agg #[vt,vf],I f] h fun r h'=>(∃ p xs,r=p/\OwnC h h' p (xs.map I)/\Rul (nxL (zD T F f 0).1) xs)/\Ext h h':=by
 obtain⟨_,hpos,hLB,hre⟩:=yh hb;have hreg:=zAl hre;obtain⟨hlen,hin⟩:=Zc hb;have hE:=zHk hb;obtain⟨law1,law2,⟨l0,law3⟩,law4,law5,law6,law7⟩:=zBV hb;have hnd:=zDe hb;have hpar:=zFm hb;have hrpo:∀ {pos:Int->Int},(∀ i,i<(zU T F f).1.length->pos ((zU T F f).1.getD i 0)=i)->Rpo (nxL (zD T F f 0).1) pos:=fun hp=>zNF hb hp;have hmem:∀ c,Way (nxL (zD T F f 0).1) 0 c->∃ i,i<(zU T F f).1.length/\(zU T F f).1.getD i 0=c:=fun c w=>zBF (law4 c ((Yh hb).2 w));have hway:∀ i,i<(zU T F f).1.length->Way (nxL (zD T F f 0).1) 0 ((zU T F f).1.getD i 0):=fun i=>by
  induction i using Nat.strongRecOn with
  |_ i ih=>
   intro hi;by_cases e:(zU T F f).1.getD i 0=0
   ·rw[e];exact .here
   ·obtain⟨j,hj,hm⟩:=hpar i hi e;exact .step (ih j hj (by omega)) hm
 have h00:(zU T F f).1.getD 0 0=0:=by rw[law3];rfl
 have hO1:0<(zU T F f).1.length:=by rw[law3];simp
 have hbnd:∀ c,Way (nxL (zD T F f 0).1) 0 c->0<=c/\c<((zD T F f 0).1.length:Int):=fun c w=>by
  induction w with
  |here=>exact⟨Qi _,hpos⟩
  |step _ hc ih=>exact hin _ ih _ hc
 obtain⟨K,hK⟩:=zHY hin (by omega);have oerr:(zU T F f).2=0:=by unfold zU;rw[QD (by rw[hb];exact fun e=>e rfl)]
 clear law1 law3 law4 law5 law7;replace law6:=Hid.mk law6;replace hpar:=Hid.mk hpar;replace hrpo:Hid (∀ {pos:Int->Int},(∀ i,i<(zU T F f).1.length->pos ((zU T F f).1.getD i 0)=i)->Rpo (nxL (zD T F f 0).1) pos):=Hid.mk hrpo;replace hmem:=Hid.mk hmem;replace hway:=Hid.mk hway;replace hbnd:=Hid.mk hbnd;replace hK:=Hid.mk hK;replace hin:=Hid.mk hin;refine en 115 [(4,none)] zUj ?_;refine WO.bx ?_;intro p2 h1 e1 o1;have o1:OwnC h h1 p2 [vt,vf]:=o1;refine go ?_;refine WX.scope0 ?_;refine go ?_;refine WO.con (zNw h1 vt vf T F f (tt.ext e1) (yA e1 hm) sm (st.ext e1) (SlF.ext sf e1)) ?_;rintro _ h2 ⟨⟨orv,rfl,oor⟩,e2⟩;have e02:=e1.trans e2;have o2:=o1.ext e2;have sf2:=SlF.ext sf e02;have hF:=sm.funcs;obtain⟨csF,⟨vb,rfl,sb,hlb⟩,pcF,hsF⟩:=yN (i:=f.toNat) sf2 (by omega);rw[<-hLB]at sb;rw[oerr];refine go ?_;refine WO.con (zPk h2 (yA e02 hm) vb (zD T F f 0).1 sb hE) ?_;rintro _ h3 ⟨⟨cells,rfl,hcl,hca⟩,e3⟩;have e03:=e02.trans e3;refine go ?_;refine WO.al ?_;intro p7 h4 e4 o4;have e04:=e03.trans e4;refine WO.stC0 (cs:=cells) o4 e4 ?_ (hn:=hcl) (h1:=zUG hcl hca);intro hb0 e5 o5 u5;have eb:=e03.trans e5;have sor:SlI hb0 orv (zU T F f).1:=oor.sl.ext (e3.trans e5);have spr:Hid (∀ j,j<16->SlI hb0 (cells.getD j undef) (zK (zD T F f 0).1 (j:Int) (zD T F f 0).1.length)):=⟨fun j hj=>(hca j hj).sl.ext e5⟩;have o7:OwnC h hb0 p7 cells:=o5.since e03;obtain⟨g7,rfl⟩:∃ g7,p7= .pointer (some ⟨g7,0,none⟩):=let ⟨g,_,_,e,_⟩:=o7;⟨g,e⟩;have oorN:OwnN h hb0 orv (zU T F f).1:=(oor.ext (e3.trans e5)).since e1;clear o4 o5 u5 pcF hsF sb sf2 hca oor;generalize hO:(zU T F f).1=O at *;generalize hnx:nxL (zD T F f 0).1=nx at *;refine go ?_;refine WO.bx ?_;intro p8 h6 e6 o6;obtain⟨g8,hg8,hg8',rfl⟩:∃ g8,hb0.n<=g8/\g8<h6.n/\p8= .pointer (some ⟨g8,0,none⟩):=let ⟨g,a,b,c,_⟩:=o6;⟨g,a,b,c⟩;have o8:OwnC hb0 h6 (.pointer (some ⟨g8,0,none⟩)) ((List.replicate 32 (0:Int)).map I):=o6;clear o6;have hmk:hb0.mark<=hb0.n:=yA eb hm;refine go ?_;refine WX.loopA [34,35,9,36,37,38,39,40,41,42,43,44,45,46,33] (by kernel_rfl) (fun k=>17 - k) (fun (k:Nat) t h'=>zB t 33=I (k:Int)/\k<=16/\Ext hb0 h'/\∃ xs:List Int,OwnC hb0 h' (.pointer (some ⟨g8,0,none⟩)) (xs.map I)/\xs.length=32/\Hid (∀ j,j<k->xs.getD j 0= -1/\xs.getD (16+j) 0= -1)) 0 ?_ ?_
 ·exact⟨sl_,by omega,e6,_,o8,by simp,⟨fun j hj=>by omega⟩⟩
 rintro k t h7 hsame ⟨s33,hk,e7,xs,o9,hlx,hx⟩;refine go ?_;refine WX.br (fun hc=> ?_) (fun hc=> ?_)<;>simp only[DB]at hc
 ·have hk':k<16:=by omega
  refine go ?_;refine WX.regionU2 0 rfl rfl ?_;have oX:OwnC hb0 (inC (zC 0 h7)) (.pointer (some ⟨g8,0,none⟩)) (xs.map I):=o9;refine goU ?_;refine WU2.st1 (j:=k) oX (by rw[e7.mark];exact hmk) (by omega) ?_;intro X1 n1 oX1 u1 w1;have oY1:OwnC hb0 (inC X1) (.pointer (some ⟨g8,0,none⟩)) ((xs.set k (-1)).map I):=oX1;have hl1:(xs.set k (-1)).length=32:=by rw[GJ];exact hlx
  refine goU ?_;refine WU2.stE (j:=16+k) oX1 e7 (by rw[e7.mark];exact hmk) n1 u1 w1 (by rw[GJ];omega) ?_;intro h8 e8 o8' u8;refine go ?_;refine zA (k+1) (by omega) ⟨sl_,by omega,e8,_,o8',by simp[hlx],⟨fun j hj=> ?_⟩⟩;simp only[ZA (show 16+k<(xs.set k (-1)).length by omega),ZA (show k<xs.length by omega)];by_cases e:j=k
  ·rw[QD (by omega),QI e,QI (by omega)];exact⟨rfl,rfl⟩
  ·rw[QD (by omega),QD e,QD (by omega),QD (by omega)];exact hx.out j (by omega)
 have hkk:k=16:=by omega
 subst hkk;replace hx:Hid (∀ j,j<32->xs.getD j 0= -1):=⟨fun j hj=>by
  by_cases h:j<16
  ·exact(hx.out j h).1
  ·have:=(hx.out (j - 16) (by omega)).2;rw[show 16+(j - 16)=j by omega]at this;exact this⟩
 refine go ?_;have osl7:SlI h7 orv O:=sor.ext e7;have hmemO:∀ i,i<O.length->O.getD i 0∈O:=fun i hi=>by rw[QE,QB hi];exact JC hi
 have hOb:∀ i,i<O.length->0<=O.getD i 0/\O.getD i 0<16:=fun i hi=>by have:=law6.out _ (hmemO i hi);omega
 replace hmemO:=Hid.mk hmemO;replace hOb:=Hid.mk hOb;refine WX.loopA [50,51,52,53,10,11,54,55,56,57,58,59,60,49] (by kernel_rfl) (fun k=>O.length+1 - k) (fun (k:Nat) t h'=>zB t 49=I (k:Int)/\k<=O.length/\Ext hb0 h'/\∃ xs:List Int,OwnC hb0 h' (.pointer (some ⟨g8,0,none⟩)) (xs.map I)/\xs.length=32/\Hid ((∀ j,j<16->xs.getD j 0= -1)/\∀ i,i<k->xs.getD (16+(O.getD i 0).toNat) 0=i)) 0 ?_ ?_
 ·exact⟨sl_,by omega,e7,_,o9,hlx,⟨fun j hj=>hx.out j (by omega),fun i hi=>by omega⟩⟩
 clear e7 o9 osl7;rintro k t2 h7 hsame2 ⟨s49,hk,e7,xs,o9,hlx,hx⟩;have osl7:SlI h7 orv O:=sor.ext e7;refine go ?_;refine WX.br (fun hc=> ?_) (fun hc=> ?_)<;>simp only[DB]at hc
 ·have hk':k<O.length:=by omega
  obtain⟨hb1,hb2⟩:=hOb.out k hk';refine go ?_;refine WO.stI1 (j:=16+(O.getD k 0).toNat) o9 e7 (by omega) ?_;intro h8 e8 o8' u8;refine go ?_;refine zA (k+1) (by omega) ⟨sl_,by omega,e8,_,o8',by simp[hlx],⟨fun j hj=> ?_,fun i hi=> ?_⟩⟩
  ·rw[ZA (by omega),QD (by omega)];exact hx.out.1 j hj
  ·rw[ZA (by omega)];obtain⟨hb3,hb4⟩:=hOb.out i (by omega);by_cases e:i=k
   ·subst e;rw[QI rfl]
   ·rw[QD (fun e2=>e (Ys hnd (by omega) hk' (by omega)))];exact hx.out.2 i (by omega)
 have hkk:k=O.length:=by omega
 subst hkk;refine go ?_;refine WO.stI1 (j:=0) o9 e7 (by omega) ?_;clear e7;intro h8 e8 o8' u8;obtain⟨xs0,hxs0⟩:∃ l,l=xs.set 0 (0:Int):=⟨_,rfl⟩;rw[<-hxs0]at o8';have hl0:xs0.length=32:=by rw[hxs0];simp[hlx]
 have hp0:∀ j,j<16->xs0.getD j 0=if j=0 then 0 else -1:=fun j hj=>by
  rw[hxs0,ZA (by omega)];by_cases e:j=0
  ·rw[QI e,QI e]
  ·rw[QD e,QD e];exact hx.out.1 j hj
 have hq0:∀ i,i<O.length->xs0.getD (16+(O.getD i 0).toNat) 0=i:=fun i hi=>by
  rw[hxs0,ZA (by omega),QD (by omega)];exact hx.out.2 i hi
 obtain⟨qs,hqs⟩:∃ l,l=xs0.drop 16:=⟨_,rfl⟩;have r0:Rnd nx qs xs0 0:=by
  have hz:pO xs0 0=0:=(hp0 0 (by omega)).trans (QI rfl);have rp:Rpo nx (fun b=>qO xs0 b):=hrpo.out fun i hi=>hq0 i hi;refine⟨⟨hl0,rp,?_,fun c w=>by have:=hbnd.out c w;omega⟩,hqs.symm,?_,?_,?_⟩
  ·have hm1:∀ b,Way nx 0 b->b≠0->pO xs0 b= -1:=fun b w hb=>by
    have:=hbnd.out b w;exact(hp0 b.toNat (by omega)).trans (QD (by omega))
   exact⟨hz,fun b w hb hp=>absurd (hm1 b w hb) hp,fun b w hb hp=>absurd (hm1 b w hb) hp⟩
  ·intro c x hx;cases hx with
   |here h=>exact zIj (nx:=nx) (p:=fun b=>pO xs0 b) (k:=0) hz x (.here h)
  ·intro c h1 h2 h3;exact(hp0 c.toNat (by omega)).trans (QD (fun e=>h3 (by rw[show c=0 by omega];exact .here)))
  ·intro h;omega
 obtain⟨vt',hrt,stl⟩:=zOH oorN hO1;have hqO:∀ {l:List Int},l.drop 16=qs->∀ i,i<O.length->qO l (O.getD i 0)=i:=fun e i hi=>by
  rw[zK3,e,hqs,<-zK3];exact hq0 i hi
 replace hqO:Hid (∀ {l:List Int},l.drop 16=qs->∀ i,i<O.length->qO l (O.getD i 0)=i):=Hid.mk hqO;clear hp0 hq0 hqs hxs0 hx;refine go ?_;refine WX.loopA [65,66,67,68,12,69,70,71,72,73,74,75,14,15,76,77,78,79,80,81,82,83,17,89,90,91,92,93,94,95,88,97,98,96,99,15,84,85,86,87,15,100,80,101,102,103,104,105,106,107,72,108,109,110,111,112,113] (by kernel_rfl) (fun p=>max K 1+1 - p.1) (fun (p:Nat×List Int) t h'=>Ext hb0 h'/\OwnC hb0 h' (.pointer (some ⟨g8,0,none⟩)) (p.2.map I)/\p.1<=max K 1/\Hid (Rnd nx qs p.2 p.1)) (0,xs0) ?_ ?_
 ·exact⟨e8,o8',QV _,⟨r0⟩⟩
 clear e8 o8' u8 r0 o9 osl7;rintro⟨k,xs⟩ t3 h9 hsame3 ⟨e9,o9,hkK,⟨r⟩⟩;simp only at o9 hkK r;have hlx:=r.dm.len;replace r:=Hid.mk r;refine go ?_;refine WO.ldMany (j:=0) (n:=16) o9 (by omega) ?_;refine go ?_;refine WO.al ?_;intro p12 h10 e10 o10;refine go ?_;refine WO.stC0 (cs:=((xs.drop 0).take 16).map I) o10 e10 ?_ (hn:=by simp;omega) (h1:=zA2 _);intro h11 e11 o11 u11;have o11:OwnC hb0 h11 p12 (((xs.drop 0).take 16).map I):=o11.since e9;obtain⟨g12,hg12,rfl⟩:∃ g12,h9.n<=g12/\p12= .pointer (some ⟨g12,0,none⟩):=let ⟨g,a,b,c,_⟩:=o10;⟨g,a,c⟩;have h98:g8<h9.n:=by obtain⟨q,q1,q2,q3,_⟩:=o9;cases q3;exact q2
 have hne:Value.pointer (some ⟨g8,0,none⟩)≠ .pointer (some ⟨g12,0,none⟩):=fun e=>by cases e;omega
 have e11':=e9.trans e11;have o9:=o9.ext e11;have stl11:SlI h11 vt' (O.drop 1):=stl.ext e11';refine go ?_;refine WO.slLo (i:=1) hrt ?_ (hy:=rfl);refine go ?_;have hdl:(O.drop 1).length=O.length - 1:=by simp
 refine WX.loopA [73,74,75,14,15,76,77,78,79,80,81,82,83,17,89,90,91,92,93,94,95,88,97,98,96,99,15,84,85,86,87,15,100,80,101,102,103,104,105,106,107,72] (by kernel_rfl) (fun p=>O.length - p.1) (fun (p:Nat×List Int) t h'=>zB t 72=I (p.1:Int)/\p.1+1<=O.length/\Ext hb0 h'/\OwnC hb0 h' (.pointer (some ⟨g8,0,none⟩)) (p.2.map I)/\OwnC hb0 h' (.pointer (some ⟨g12,0,none⟩)) (((xs.drop 0).take 16).map I)/\Hid (Md nx O qs xs p.2 k (p.1+1))) (0,xs) ?_ ?_
 ·exact⟨sl_,by omega,e11',o9,o11,⟨Md.start r.out h00⟩⟩
 clear e11' o9 o11 stl11;rintro⟨m,ys⟩ t4 h12 hsame4 ⟨s72,hm72,e12,o12,ow12,g⟩;simp only at s72 hm72 o12 g;have hly:=g.out.dm.len;have stl12:SlI h12 vt' (O.drop 1):=stl.ext e12;refine go ?_;refine WX.br (fun hc=> ?_) (fun hc=> ?_)<;>simp only[DB]at hc
 ·have hm':m+1<O.length:=by omega
  have hmd:m<(O.drop 1).length:=by omega
  have hdg:(O.drop 1).getD m 0=O.getD (m+1) 0:=by simp[List.getD,Nat.add_comm]
  obtain⟨hb1,hb2⟩:=hOb.out (m+1) hm';have hwb:=hway.out (m+1) hm';obtain⟨ja,hja,hjb⟩:=hpar.out (m+1) hm' (fun e=>by have:=Ys hnd hm' hO1 (e.trans h00.symm);omega);have hbne:O.getD (m+1) 0≠0:=fun e=>by have:=Ys hnd hm' hO1 (e.trans h00.symm);omega
  refine go ?_;rw[hdg];generalize hbO:O.getD (m+1) 0=b at *;have o7b:OwnC h h12 (.pointer (some ⟨g7,0,none⟩)) cells:=o7.ext e12;have hb16:b.toNat<16:=by omega
  obtain⟨A,hA⟩:∃ A,zK (zD T F f 0).1 b (zD T F f 0).1.length=A:=⟨_,rfl⟩;have sA:SlI h12 (cells.getD b.toNat undef) A:=by
   have:=(spr.out b.toNat hb16).ext e12;rw[show ((b.toNat:Nat):Int)=b by omega,hA]at this;exact this
  have hA16:A.length<=16:=by rw[<-hA];have:=YD (zD T F f 0).1 b (zD T F f 0).1.length;omega
  have hAin:Hid (∀ j,j<A.length->(0<=A.getD j 0/\A.getD j 0<16)/\b∈nx (A.getD j 0)):=⟨fun j hj=>by
   have:=zPH hA hj;rw[hnx]at this;exact⟨by omega,this.2⟩⟩
  refine go ?_;refine WO.ldV (i:=b.toNat) o7b (by omega) ?_;refine go ?_;have dmy:Hid (Dm nx ys):=⟨g.out.dm⟩;have huy:Hid (∀ a,0<=a->a<16->pO ys a≠ -1->Way nx 0 a):=⟨fun a h1 h2 h3=>JE fun h4=>h3 (g.out.un a h1 h2 h4)⟩;refine WX.loopA [81,82,83,17,89,90,91,92,93,94,95,88,97,98,96,99,15,84,85,86,87,15,100,80] (by kernel_rfl) (fun p=>A.length - p.1) (fun (p:Nat×Int) t h'=>h12=h'/\zB t 80=I (p.1:Int)/\p.1<=A.length/\zB t 15=I p.2/\Hid (Bst nx ys b A p.1 p.2)) (0,-1) ?_ ?_
  ·exact⟨rfl,sl_,by omega,sl_,⟨.inl ⟨rfl,fun i hi=>by omega⟩⟩⟩
  rintro⟨j,v⟩ t5 _ hsame5 ⟨rfl,s80,hj,s15,bst⟩;simp only at s80 hj s15 bst;refine go ?_;refine WX.br (fun hd=> ?_) (fun hd=> ?_)<;>simp only[DB]at hd
  ·have hj':j<A.length:=by omega
   obtain⟨⟨ha1,ha2⟩,hab⟩:=hAin.out j hj';refine go ?_;generalize haA:A.getD j 0=a at *;refine WX.br (fun hq=> ?_) (fun hq=> ?_)<;>simp only[DB]at hq
   ·refine go ?_;refine zA (j+1,v) (by show A.length - (j+1)<A.length - j;omega) ⟨rfl,sl_,by show j+1<=_;omega,sl_,⟨bst.out.skip (by rw[haA];exact hq)⟩⟩
   have wa:=huy.out a ha1 ha2 hq;refine go ?_;refine WX.br (fun hv=> ?_) (fun hv=> ?_)<;>simp only[DB]at hv
   ·have hv:v= -1:=hv;subst hv;refine go ?_;refine zA (j+1,a) (by show A.length - (j+1)<A.length - j;omega) ⟨rfl,sl_,by show j+1<=_;omega,sl_,⟨?_⟩⟩;have:=bst.out.first (by rw[haA];exact wa) (by rw[haA];omega) (by rw[haA];exact hab) (by rw[haA];exact hq)
    rw[haA]at this;exact this
   have hv:v≠ -1:=hv;have wv:Way nx 0 v/\pO ys v≠ -1:=by
    rcases bst.out with ⟨e,_⟩|⟨_,e1,e2,_⟩
    ·exact absurd e hv
    ·exact⟨e1,e2⟩
   refine go ?_;refine WO.con (zRF hb0 h12 (.pointer (some ⟨g8,0,none⟩)) nx ys v a o12 dmy wv.1 wa wv.2 hq) ?_;rintro _ _ ⟨⟨mm,rfl,hmt⟩,rfl⟩;refine go ?_;have hmm:=dmy.out.bnd mm hmt.way;refine zA (j+1,mm) (by show A.length - (j+1)<A.length - j;omega) ⟨rfl,sl_,by show j+1<=_;omega,sl_,⟨?_⟩⟩;exact bst.out.meet hv (by omega) (by rw[haA];exact hab) (by rw[haA];exact hmt)
  have hjj:j=A.length:=by omega
  subst hjj;have bt:Best nx (fun b=>qO ys b) (fun b=>pO ys b) b v:=by
   have wp:=hway.out ja (by omega);refine bst.out.best dmy.out (fun a wa hab=> ?_) wp hjb (g.out.pre ja hja).2 ?_
   ·refine zBF ?_;rw[<-hA];exact Y6.2 ⟨hbnd.out a wa,by rw[hnx];exact hab⟩
   ·rw[hqO.out g.out.qs ja (by omega),<-hbO,hqO.out g.out.qs (m+1) hm'];omega
  refine go ?_;refine WO.stI1 (j:=b.toNat) o12 e12 (by omega) ?_;intro h13 e13 o13 u13;have ow13:=zOr ow12 u13 hne;refine go ?_;refine zA (m+1,ys.set b.toNat v) (by show O.length - (m+1)<O.length - m;omega) ⟨sl_,by show m+1+1<=_;omega,e13,o13,ow13,⟨?_⟩⟩;have:=g.out.step (v:=v) hnd hm' (by omega) (by rw[hbO];exact hbne) (by rw[hbO];exact hwb) (by rw[hbO];exact bt) hlx;rw[hbO]at this;exact this
 have hmm:m+1=O.length:=by omega
 have g:Hid (Md nx O qs xs ys k O.length):=by rw[<-hmm];exact g
 clear stl12 hm72 hc;refine go ?_;refine WO.ldMany (j:=0) (n:=16) ow12 (by simp;omega) ?_ (hx:=by show Ope _ _ (.pointer (some ⟨g12,0,none⟩));exact zT);refine go ?_;refine WO.ldMany (j:=0) (n:=16) o12 (by omega) ?_;refine WO.bp (zQ0 (n:=16) (xs:=(((xs.drop 0).take 16).drop 0).take 16) (ys:=(ys.drop 0).take 16) (by kernel_rfl) (by simp;omega) (by simp;omega)) ?_ (hc:=by rw[zDN,zDN];rfl);have hde:decide (((((xs.drop 0).take 16).drop 0).take 16)=((ys.drop 0).take 16))=decide (xs=ys):=decide_eq_decide.2 ⟨fun e=>by
  simp only[Q6,List.take_take,Nat.min_self]at e;exact zLk e (r.out.qs.trans g.out.qs.symm),fun e=>by rw[e];simp[List.take_take]⟩
 rw[hde];have rd:=g.out.done hmem.out;refine go ?_;refine WX.br (fun hd=> ?_) (fun hd=> ?_)<;>simp only[DB]at hd
 ·have hd:xs=ys:=hd;subst hd;refine go ?_;refine zH4 ?_;refine rt ?_;exact⟨⟨_,xs,rfl,(o12.since eb),zUa g.out hmem.out h00 fun b w=>by obtain⟨i,hi,e⟩:=hmem.out b w;rw[<-e,hqO.out g.out.qs i hi];omega⟩,eb.trans e12⟩
 have hkk:k<max K 1:=by
  refine Nat.lt_of_not_le fun hle=>hd ?_;exact(zJ5 r.out g.out hmem.out h00 hbnd.out hK.out (by omega) (by omega) hlx hnd hway.out).symm
 refine go ?_;exact zA (k+1,ys) (by show max K 1+1 - (k+1)<max K 1+1 - k;omega) ⟨e12,o12,by show k+1<=_;omega,⟨rd⟩⟩
set_option maxRecDepth 100000
def nxF (T:List LType) (F:List LFn) (f:Int):Int->List Int:=nxL (zD T F f 0).1
def Yx (T:List LType) (F:List LFn) (f b:Int):Int:=
 if (zD T F f 0).2≠0 then (zD T F f 0).2 else if b<0\/((zD T F f 0).1.length:Int)<=b then 2 else if b∈(yM T F f).1 then 0 else 6
theorem zQB {T:List LType} {F:List LFn} {f b:Int} (h:Yx T F f b=0):(zD T F f 0).2=0/\Way (nxF T F f) 0 b:=by
 unfold Yx at h;split at h
 ·rename_i hb;exact absurd h hb
 ·rename_i hb;have hb:(zD T F f 0).2=0:=by simpa using hb
  split at h
  ·cases h
  ·split at h
   ·rename_i hm;exact⟨hb,(Yh hb).1 hm⟩
   ·cases h
structure Env (h:AHeap) (vt vf:Value) (T:List LType) (F:List LFn):Prop where
 tt:Tbl h
 hm:h.mark<=h.n
 sm:Small T F
 st:SlT h vt T
 sf:SlF h vf F
theorem Env.ext {h h':AHeap} {vt vf:Value} {T:List LType} {F:List LFn} (E:Env h vt vf T F) (e:Ext h h'):Env h' vt vf T F:=
 ⟨E.tt.ext e,yA e E.hm,E.sm,E.st.ext e,SlF.ext E.sf e⟩
def zUH:ACode:=(oV (oR [oX 3 0,oK 6 (.pointer none),oN 7 0]) (oV (oR [oA 2 11 3,oM 12 1,o2 13 66 11 12,oM 10 13,oE 14 10 0,oE 15 10 1,oM 8 14,oM 9 15]) (oV (o5 0 (oV (oR [oM 17 9,oC .neq 18 17 0,oM 16 18]) (oJ 16 (oV (oR [oM 19 9,oK 6 (.pointer none),oM 7 19]) .ret) (oV (oR [oM 21 2,oC .lss 22 21 0,oM 23 22,oH 23 (oM 24 2),oH 23 (oF 1 25 3),oH 23 (oL 26 25),oH 23 (oM 27 1),oH 23 (oI 2 28 26 27),oH 23 (oF 1 29 28),oH 23 (oL 30 29),oH 23 (oQ 31 30),oH 23 (oB .geq 32 24 31),oO 33 23 32,oM 20 33]) (oJ 20 (oV (oR [oK 6 (.pointer none),oN 7 2]) .ret) (oV (oR [oM 35 8,oM 36 2,o2 37 45 35 36,oW 38 37,oM 34 38]) (oJ 34 (oV (oR [oK 6 (.pointer none),oN 7 6]) .ret) .skip))))))) (oV (oR [oA 2 39 3,oM 40 1,o2 41 90 39 40,oM 6 41,oN 7 0]) .ret))))
theorem zMh (h:AHeap) (vt vf:Value) (T:List LType) (F:List LFn) (f b:Int) (E:Env h vt vf T F):
  WC Tryz.prog tb 51 [.agg #[vt,vf],I f,I b] h fun r h'=>(∃ p,r= .tuple #[p,I (Yx T F f b)]/\(Yx T F f b=0->∃ xs,OwnC h h' p (xs.map I)/\Rul (nxF T F f) xs))/\Ext h h':=by
 refine en 42 [(6,none),(7,none)] zUH ?_;refine WO.bx ?_;intro p h1 e1 o1;have E1:=E.ext e1;refine go ?_;refine WO.con (zIo h1 vt vf T F f E1.tt E1.hm E1.sm E1.st E1.sf) ?_;rintro _ h2 ⟨⟨rev,rfl,ore⟩,e2⟩;have e02:=e1.trans e2;have E2:=E1.ext e2;have o2:=o1.ext e2;have sre:=ore.sl;rw[zGQ];by_cases hb:(zD T F f 0).2=0;case neg=>
  have hb':(zD T F f 0).2≠0:=hb;have ha:Yx T F f b=(zD T F f 0).2:=by unfold Yx;rw[QI hb]
  refine gr ?_;rw[ha];exact⟨⟨_,rfl,fun h=>absurd h hb⟩,e02⟩
 obtain⟨_,hpos,hLB,hre⟩:=yh hb;have hreg:=zAl hre;obtain⟨hlen,hin⟩:=Zc hb;rw[hb];have hF:=E.sm.funcs;have sf2:=E2.sf;refine go ?_;by_cases hb0:b<0
 ·have ha:Yx T F f b=2:=by unfold Yx;rw[QD (by rw[hb];exact fun e=>e rfl),QI (.inl hb0)]
  refine gr ?_;rw[ha];exact⟨⟨_,rfl,fun h=>by cases h⟩,e02⟩
 obtain⟨csF,⟨vb,rfl,sb,hlb⟩,pcF,hsF⟩:=yN (i:=f.toNat) sf2 (by omega);rw[<-hLB]at sb;by_cases hb1:((zD T F f 0).1.length:Int)<=b
 ·have ha:Yx T F f b=2:=by unfold Yx;rw[QD (by rw[hb];exact fun e=>e rfl),QI (.inr hb1)]
  refine gr ?_;rw[ha];exact⟨⟨_,rfl,fun h=>by cases h⟩,e02⟩
 have hml:((yM T F f).1.length:Int)<=9223372036854775807:=by
  obtain⟨l1,l2,_⟩:=zBV hb;omega
 refine go ?_;refine WO.con (Y1 h2 rev (yM T F f).1 b sre hml) ?_;rintro _ _ ⟨rfl,rfl⟩;by_cases hbr:b∈(yM T F f).1;case neg=>
  have ha:Yx T F f b=6:=by unfold Yx;rw[QD (by rw[hb];exact fun e=>e rfl),QD (by omega),QD hbr]
  refine gr ?_;rw[ha];exact⟨⟨_,rfl,fun h=>by cases h⟩,e02⟩
 have ha:Yx T F f b=0:=by unfold Yx;rw[QD (by rw[hb];exact fun e=>e rfl),QD (by omega),QI hbr]
 refine go ?_;refine WO.con (zUC h2 vt vf T F f E2.tt E2.hm E2.sm E2.st E2.sf hb) ?_;rintro _ h3 ⟨⟨q,xs,rfl,oq,hR⟩,e3⟩;refine gr ?_;rw[ha];exact⟨⟨_,rfl,fun _=>⟨xs,oq.since e02,hR⟩⟩,e02.trans e3⟩
def upL (xs:List Int) (b:Int):Int:=if b=0 then -1 else pO xs b
def zIc (nx:Int->List Int) (c:Int):Nat:=open Classical in (List.range 16).countP fun (j:Nat)=>decide (Dom nx (j:Int) c)
theorem zR6 (nx:Int->List Int) (c:Int):zIc nx c<=16:=by
 classical
 unfold zIc;exact QW List.countP_le_length (by simp)
theorem zPI {nx:Int->List Int} {c:Int} (h:0<=c/\c<16):1<=zIc nx c:=by
 classical
 unfold zIc;refine List.countP_pos_iff.2 ⟨c.toNat,GH.2 (by omega),?_⟩;show decide (Dom nx ((c.toNat:Nat):Int) c)=true;rw[GF,show ((c.toNat:Nat):Int)=c by omega];exact Dom.self nx c
theorem zQh {nx:Int->List Int} {c n:Int} (h:0<=c/\c<16) (hs:∀ a,Dom nx a n->Dom nx a c) (hn:¬Dom nx c n):zIc nx n<zIc nx c:=by
 classical
 unfold zIc;have hc:((c.toNat:Nat):Int)=c:=by omega
 refine zFI (p:=fun (j:Nat)=>decide (Dom nx (j:Int) c)) (q:=fun (j:Nat)=>decide (Dom nx (j:Int) n)) (i:=c.toNat) (QZ (by rw[hc];exact Dom.self nx c)) (QT (by rw[hc];exact hn)) (fun j _ hj=> ?_) (GH.2 (by omega));exact QZ (hs _ (G2 hj))
theorem Rul.step {nx:Int->List Int} {xs:List Int} {c:Int} (r:Rul nx xs) (w:Way nx 0 c) (hc:c≠0):Way nx 0 (pO xs c)/\(∀ a,Dom nx a c↔a=c\/Dom nx a (pO xs c))/\¬Dom nx c (pO xs c):=by
 obtain⟨u1,u2,u3⟩:=r.dm.rl.up c w hc (r.all c w);refine⟨u1,fun a=> ?_,fun h=> ?_⟩
 ·rw[<-r.dom a c w,<-r.dom a _ u1];constructor
  ·intro h;cases h with
   |here=>exact .inl rfl
   |up _ _ h=>exact .inr h
  ·rintro(rfl|h)
   ·exact .here
   ·exact .up hc (r.all c w) h
 ·have h2:=r.dm.rl.le ((r.dom _ _ u1).2 h) u1;have h3:=h2.2.1;have h3:qO xs c<=qO xs (pO xs c):=h3;have u3:qO xs (pO xs c)<qO xs c:=u3;omega
def Chn (nx:Int->List Int) (a b:Int) (i:Nat) (c:Int) (met:Bool):Prop:=
 (c= -1/\(Dom nx a b↔met=true))\/(Way nx 0 c/\(0<=c/\c<16)/\zIc nx c+i<=16/\(Dom nx a b↔met=true\/Dom nx a c))
theorem Chn.last {nx:Int->List Int} {a b:Int} {i:Nat} {met:Bool} (h:Chn nx a b i 0 met):Chn nx a b (i+1) (-1) (met||decide (0=a)):=by
 rcases h with ⟨h,_⟩|⟨_,_,_,h⟩
 ·cases h
 ·refine .inl ⟨rfl,h.trans ?_⟩;rw[GA,GF];refine⟨fun h=>h.imp id fun h=> ?_,fun h=>h.imp id fun h=> ?_⟩
  ·exact JE fun e=>h ⟨0,.here e⟩
  ·rw[<-h];exact Dom.self _ _
theorem Chn.next {nx:Int->List Int} {xs:List Int} {a b c:Int} {i:Nat} {met:Bool} (r:Rul nx xs) (hc:0<c) (h:Chn nx a b i c met):Chn nx a b (i+1) (pO xs c) (met||decide (c=a))/\pO xs c≠c/\0<=pO xs c:=by
 rcases h with ⟨h,_⟩|⟨w,bd,hn,h⟩
 ·omega
 ·obtain⟨u1,u2,u3⟩:=r.step w (by omega);have hb:=r.dm.bnd _ u1;refine⟨.inr ⟨u1,hb,?_,h.trans ?_⟩,fun e=> ?_,hb.1⟩
  ·have:=zQh bd (fun a ha=>(u2 a).2 (.inr ha)) u3;omega
  ·rw[u2 a,GA,GF];refine⟨?_,?_⟩
   ·rintro(h|rfl|h)
    ·exact .inl (.inl h)
    ·exact .inl (.inr rfl)
    ·exact .inr h
   ·rintro((h|h)|h)
    ·exact .inl h
    ·exact .inr (.inl h.symm)
    ·exact .inr (.inr h)
  ·exact u3 (by rw[e];exact Dom.self _ _)
theorem Chn.way {nx:Int->List Int} {a b c:Int} {i:Nat} {met:Bool} (h:Chn nx a b i c met) (hc:0<=c):Way nx 0 c/\c<16/\i<=15:=by
 rcases h with ⟨h,_⟩|⟨w,bd,hn,h⟩
 ·omega
 ·have:=zPI (nx:=nx) bd;exact⟨w,bd.2,by omega⟩
theorem zNL {nx:Int->List Int} {a b:Int} (hb:b≠0) (hab:a≠b):Dom nx a b↔∀ c,Way nx 0 c->b∈nx c->Dom nx a c:=by
 refine⟨fun h c _ hc=>h.pred hab hc,fun h ⟨k,w⟩=> ?_⟩;cases w with
 |here=>exact hb rfl
 |step h1 hc _=>exact h _ h1.way hc ⟨_,h1⟩
theorem zIP {nx:Int->List Int} {a:Int}:Dom nx a 0↔a=0:=by
 refine⟨fun h=>JE fun e=>h ⟨0,.here (Ne.symm e)⟩,fun h=>by rw[h];exact Dom.self _ _⟩
set_option maxRecDepth 100000
def ZG:List LBlk->Int->Int×Int
 |[],a=>(0,a)
 |b::l,a=>if (b.ins.length:Int)<=a then ((ZG l (a - b.ins.length)).1+1,(ZG l (a - b.ins.length)).2) else (0,a)
theorem zAk (b:LBlk) (l:List LBlk):zt (b::l)=(b.ins.length:Int)+zt l:=by unfold zt;simp
theorem zCw {l:List LBlk}:∀ {a:Int},0<=a->a<zt l->0<=(ZG l a).1/\(ZG l a).1<(l.length:Int)/\0<=(ZG l a).2/\(ZG l a).2<((l.getD (ZG l a).1.toNat default).ins.length:Int):=by
 induction l with
 |nil=>intro a h0 h1;simp[zt]at h1;omega
 |cons b l ih=>
  intro a h0 h1;rw[zAk]at h1;unfold ZG;split
  ·rename_i h;obtain⟨i1,i2,i3,i4⟩:=ih (a:=a - b.ins.length) (by omega) (by omega);refine⟨by simp only;omega,by simp only[Q2];omega,i3,?_⟩;simp only;rw[show ((ZG l (a - ↑b.ins.length)).1+1).toNat=(ZG l (a - ↑b.ins.length)).1.toNat+1 by omega];simpa [List.getD]using i4
  ·rename_i h;exact⟨Qi _,by simp only[Q2];omega,h0,by simpa [List.getD]using (by omega:a<(b.ins.length:Int))⟩
set_option maxRecDepth 100000
set_option maxRecDepth 100000
def Z7 (xs:List Int) (n:Nat):List Int:=(List.range n).map fun (i:Nat)=>upL xs (i:Int)
theorem zLJ (xs:List Int) (n:Nat):(Z7 xs n).length=n:=by unfold Z7;simp
def zN9:ACode:=(oV (oR [oB .lss 25 24 23]) (oV (oT 25 0) (oV (o5 1 (oV (oR [oM 26 24,oM 7 26]) (oR [oM 27 4,oM 28 6,oM 29 7,⟨some 30,none,(.nilCheck (.tmp 28))⟩,oF 0 31 30,⟨some 32,none,(.idxArr 16 1 (.tmp 31) (.tmp 29))⟩,oL 33 32,⟨some 34,none,(.buildSlice 1 1 [(.int .i64 0)] [(0,1,(.tmp 33))])⟩,oY 1 35 27 34,oM 4 35]))) (oR [oC .add 36 24 1,oM 24 36]))))
def zUh:ACode:=(oV (oR [oX 2 0,oK 4 (.slice none 0 0),oN 5 0]) (oV (oR [oA 2 9 2,oM 10 1,⟨some 11,none,(.call (.func 51) [(.tmp 9),(.tmp 10),(.const (.int .i64 0))])⟩,oM 8 11,oE 12 8 0,oE 13 8 1,oM 6 12,oM 5 13]) (oV (oV (oR [oM 14 5,oC .neq 15 14 0]) (oJ 15 (oV (oR [oM 16 5,oK 4 (.slice none 0 0),oM 5 16]) .ret) .skip)) (oV (oV (oR [oF 1 17 2,oL 18 17,oM 19 1,oI 2 20 18 19,oF 1 21 20,oL 22 21,oQ 23 22,oN 24 0]) (o5 0 (.loop zN9))) (oV (oR [oM 37 4,⟨some 38,none,(.idx 1 (.tmp 37) (.const (.int .i64 0)))⟩,⟨none,none,(.store 1 (.tmp 38) (.const (.int .i64 (-1))))⟩]) (oV (oR [oM 39 4,oM 4 39,oN 5 0]) .ret))))))
theorem zSd (h:AHeap) (vt vf:Value) (T:List LType) (F:List LFn) (f:Int) (E:Env h vt vf T F):
  WC Tryz.prog tb 56 [.agg #[vt,vf],I f] h fun r h'=>(∃ v l,r= .tuple #[v,I (Yx T F f 0)]/\OwnN h h' v l/\l.length<=16/\(Yx T F f 0=0->∃ xs,Rul (nxF T F f) xs/\l=Z7 xs (F.getD f.toNat default).blocks.length)/\(Yx T F f 0≠0->l=[]))/\Ext h h':=by
 have hF:=E.sm.funcs;refine en 40 [(4,none),(5,none)] zUh ?_;refine WO.bx ?_;intro p h1 e1 o1;have E1:=E.ext e1;refine go ?_;refine WO.con (zMh h1 vt vf T F f 0 E1) ?_;rintro _ h2 ⟨⟨q,rfl,hq⟩,e2⟩;have o1:=o1.ext e2;have e02:=e1.trans e2;have E2:=E1.ext e2;have sf2:=E2.sf;by_cases ha:Yx T F f 0=0;case neg=>
  have ha':Yx T F f 0≠0:=ha;refine gr ?_;exact⟨⟨_,[],rfl,.inl ⟨rfl,rfl⟩,by simp,fun h=>absurd h ha,fun _=>rfl⟩,e02⟩
 obtain⟨xs,oq,hR⟩:=hq ha;have hlx:=hR.dm.len;obtain⟨g,rfl⟩:∃ g,q= .pointer (some ⟨g,0,none⟩):=let ⟨g,_,_,e,_⟩:=oq;⟨g,e⟩;obtain⟨hz,_⟩:=zQB ha;obtain⟨h1z,h2z,hzb,h4z⟩:=yh hz;have hin:=zAl h4z;obtain⟨hlen,hnx⟩:=Zc hz;rw[hzb]at hlen h2z;rw[ha];replace hR:=Hid.mk hR;obtain⟨ta,tn,tk,rfl⟩:=zM E.st;obtain⟨ga,gn,gk,rfl⟩:=zM sf2;obtain⟨csF,⟨vb,rfl,sb,hlb⟩,pcF,hsF⟩:=yN (i:=f.toNat) sf2 (by omega);obtain⟨_,_,_,rfl⟩:=zM sb;generalize (F.getD f.toNat default).blocks=L at *;refine go ?_;refine WX.loopA [25,26,7,27,28,29,30,31,32,33,34,35,4,36,24] (by kernel_rfl) (fun i=>L.length - i) (fun i t h3=>Ext h2 h3/\zB t 24=I i/\i<=L.length/\∃ w,zB t 4=w/\OwnN h2 h3 w ((List.range i).map fun (j:Nat)=>pO xs (j:Int))) 0 ?_ ?_
 ·exact⟨Ext.refl _,sl_,QV _,_,sl_,.inl ⟨rfl,rfl⟩⟩
 rintro i t h3 hsame ⟨e3,s24,hi,w,s4,ow⟩;have oq3:=oq.ext e3;refine go ?_;refine WX.br (fun hc=> ?_) (fun hc=> ?_)<;>simp only[DB]at hc
 ·have hi':i<L.length:=by omega
  refine go ?_;refine WO.bl [xs.getD i 0] ?_;intro v7 h7 e7 o7;refine go ?_;refine WO.apN (ow.ext e7) o7.sl (e3.trans e7) (by simp;omega) ?_;intro v8 h8 e8 o8;refine go ?_;refine zA (i+1) (by omega) ⟨e8,sln,by omega,v8,sl_,?_⟩;rw[List.range_succ,Gg];exact o8
 ·have hii:i=L.length:=by omega
  subst hii;have hpos:0<L.length:=by omega
  obtain⟨m,hm⟩:∃ m,m=(List.range L.length).map fun (j:Nat)=>pO xs (j:Int):=⟨_,rfl⟩;have hml:m.length=L.length:=by rw[hm];simp
  rw[<-hm]at ow;rcases ow with ⟨_,h0⟩|ow
  ·rw[h0]at hml;simp at hml;omega
  have sw:=ow.sl;refine go ?_;refine WO.storeI (i:=0) (a:= -1) zT zT ow e3 (by omega) ?_;intro h4 e4 o4 _;refine gr ?_;refine⟨⟨_,_,rfl,.inr (o4.since e02),by rw[GJ];omega,fun _=>⟨xs,hR.out,?_⟩,fun h=>absurd rfl h⟩,e02.trans e4⟩;rw[hm];refine List.ext_getElem (by simp[Z7]) fun j hj1 hj2=> ?_;simp only[Z7,List.getElem_map,List.getElem_range,List.getElem_set];by_cases hj:0=j
  ·subst hj;simp[upL]
  ·rw[QD hj];unfold upL;rw[QD (by omega)]
end
end Go.Proofs.YteekipjpghikkaaGreatDoor
