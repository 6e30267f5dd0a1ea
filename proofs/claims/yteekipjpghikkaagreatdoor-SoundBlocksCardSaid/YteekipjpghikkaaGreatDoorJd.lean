/- What functions of the program come to in the abstract machine, and plain laws about it; no statement of the seat is proved in this text. -/
import Derived.Test.YteekipjpghikkaaGreatDoorJc
import Derived.Test.YteekipjpghikkaaGreatDoorAmU
import Derived.Test.YteekipjpghikkaaGreatDoorJa
set_option linter.unusedVariables false
set_option linter.unusedSimpArgs false
set_option maxHeartbeats 1000000
namespace Go.Proofs.YteekipjpghikkaaGreatDoor
noncomputable section
open Go.Am
inductive Way (nx:Int->List Int) (a:Int):Int->Prop
 |here:Way nx a a
 |step {b c:Int}:Way nx a b->c∈nx b->Way nx a c
theorem Way.trans {nx:Int->List Int} {a b c:Int} (h:Way nx a b) (k:Way nx b c):Way nx a c:=by
 induction k with
 |here=>exact h
 |step _ hc ih=>exact .step ih hc
def Bg (s:DS) (c:Int):Prop:=(s.1.lookup c).isSome=true
theorem zAG {s:DS} {b v c:Int} {d:List Int}:Bg (s.1++[(b,v)],d) c↔Bg s c\/c=b:=by
 unfold Bg;rw[zAs];cases h:s.1.lookup c with
 |some w=>simp
 |none=>by_cases e:c=b<;>simp[e]
structure Thru (nx:Int->List Int) (l:List Int) (s s':DS):Prop where
 mono:∀ c,Bg s c->Bg s' c
 keep:∀ c∈s.2,c∈s'.2
 all:∀ c∈l,Bg s' c
 way:∀ c,Bg s' c->Bg s c\/∃ a∈l,Way nx a c
 done:∀ c,Bg s' c->Bg s c\/c∈s'.2/\∀ d∈nx c,Bg s' d
 of:∀ c∈s'.2,c∈s.2\/Bg s' c
theorem Thru.nil (nx:Int->List Int) (s:DS):Thru nx [] s s:=
 ⟨fun _ h=>h,fun _ h=>h,(fun _ h=>by cases h),fun _ h=> .inl h,fun _ h=> .inl h,fun _ h=> .inl h⟩
theorem Thru.cons {nx:Int->List Int} {x:Int} {l:List Int} {s t u:DS} (a:Thru nx [x] s t) (b:Thru nx l t u):Thru nx (x::l) s u where
 mono:=fun c h=>b.mono c (a.mono c h)
 keep:=fun c h=>b.keep c (a.keep c h)
 all:=fun c h=>by
  rcases Qj.1 h with rfl|h
  ·exact b.mono _ (a.all _ (by simp))
  ·exact b.all _ h
 way:=fun c h=>by
  rcases b.way c h with h|⟨y,hy,w⟩
  ·rcases a.way c h with h|⟨y,hy,w⟩
   ·exact .inl h
   ·exact .inr ⟨y,by simp at hy;simp[hy],w⟩
  ·exact .inr ⟨y,by simp[hy],w⟩
 done:=fun c h=>by
  rcases b.done c h with h|h
  ·rcases a.done c h with h|⟨h,k⟩
   ·exact .inl h
   ·exact .inr ⟨b.keep _ h,fun d hd=>b.mono _ (k d hd)⟩
  ·exact .inr h
 of:=fun c h=>by
  rcases b.of c h with h|h
  ·rcases a.of c h with h|h
   ·exact .inl h
   ·exact .inr (b.mono _ h)
  ·exact .inr h
theorem zPP {nx:Int->List Int} {N:Nat} (hin:∀ b,0<=b/\b<(N:Int)->∀ c∈nx b,0<=c/\c<(N:Int)):∀ (n:Nat) (b:Int) (s:DS),unb N s.1<=n->0<=b/\b<(N:Int)->Thru nx [b] s (ZB nx n b s):=by
 intro n;induction n with
 |zero=>
  intro b s h hb;have hbb:Bg s b:=zI1 (Nat.le_zero.1 h) hb;exact⟨fun _ h=>h,fun _ h=>h,fun c hc=>by simp at hc;subst hc;exact hbb,fun _ h=> .inl h,fun _ h=> .inl h,fun _ h=> .inl h⟩
 |succ n ih=>
  intro b s h hb;by_cases hbb:Bg s b
  ·rw[zBS hbb];exact⟨fun _ h=>h,fun _ h=>h,fun c hc=>by simp at hc;subst hc;exact hbb,fun _ h=> .inl h,fun _ h=> .inl h,fun _ h=> .inl h⟩
  ·have hnone:s.1.lookup b=none:=by
    unfold Bg at hbb;cases hq:s.1.lookup b with
    |none=>rfl
    |some w=>rw[hq]at hbb;exact absurd rfl hbb
   have hlt:=zEc (v:=(s.1.length:Int)) hnone hb;have go:∀ (l:List Int) (t:DS),unb N t.1<=n->(∀ c∈l,0<=c/\c<(N:Int))->Thru nx l t (l.foldl (fun (t:DS) (c:Int)=>ZB nx n c t) t):=by
    intro l;induction l with
    |nil=>intro t _ _;exact .nil _ _
    |cons x l ihl=>
     intro t ht hl;have hx:=ih x t ht (hl x (by simp));exact hx.cons (ihl _ (QW (zCm fun c hc=>hx.mono c hc) ht) fun c hc=>hl c (by simp[hc]))
   have k:=go (nx b) (s.1++[(b,(s.1.length:Int))],s.2) (by simp only;omega) (hin b hb);have hu:ZB nx (n+1) b s=(((nx b).foldl (fun (t:DS) (c:Int)=>ZB nx n c t) (s.1++[(b,(s.1.length:Int))],s.2)).1,((nx b).foldl (fun (t:DS) (c:Int)=>ZB nx n c t) (s.1++[(b,(s.1.length:Int))],s.2)).2++[b]):=by
    conv=>lhs;unfold ZB
    rw[QD (by rw[hnone];exact Bool.noConfusion)]
   rw[hu];generalize (nx b).foldl (fun (t:DS) (c:Int)=>ZB nx n c t) (s.1++[(b,(s.1.length:Int))],s.2)=t at k |-;have hb2:Bg t b:=k.mono _ (zAG.2 (.inr rfl));refine⟨fun c h=>k.mono _ (zAG.2 (.inl h)),fun c h=>by simp only[Qf];exact .inl (k.keep c h),fun c hc=>by simp at hc;subst hc;exact hb2,fun c hc=> ?_,fun c hc=> ?_,fun c hc=> ?_⟩
   ·rcases k.way c hc with h|⟨a,ha,w⟩
    ·rcases zAG.1 h with h|rfl
     ·exact .inl h
     ·exact .inr ⟨c,by simp,.here⟩
    ·exact .inr ⟨b,by simp,Way.trans (.step .here ha) w⟩
   ·rcases k.done c hc with h|⟨h,hd⟩
    ·rcases zAG.1 h with h|rfl
     ·exact .inl h
     ·exact .inr ⟨by simp,fun d hd=>k.all d hd⟩
    ·exact .inr ⟨by simp only[Qf];exact .inl h,hd⟩
   ·simp only[Qf,QQ]at hc;rcases hc with hc|rfl
    ·exact k.of c hc
    ·exact .inr hb2
theorem zC6 {nx:Int->List Int} {N n:Nat} (hin:∀ b,0<=b/\b<(N:Int)->∀ c∈nx b,0<=c/\c<(N:Int)):∀ (l:List Int) (s:DS),unb N s.1<=n->(∀ c∈l,0<=c/\c<(N:Int))->Thru nx l s (Zl nx n l s)
 |[],s,_,_=> .nil _ _
 |x::l,s,h,hl=>by
  have hx:=zPP hin n x s h (hl x (by simp));exact hx.cons (zC6 hin l _ (QW (zCm fun c hc=>hx.mono c hc) h) fun c hc=>hl c (by simp[hc]))
theorem zKX {nx:Int->List Int} {N:Nat} (hin:∀ b,0<=b/\b<(N:Int)->∀ c∈nx b,0<=c/\c<(N:Int)) {l:List Int} (hl:∀ c∈l,0<=c/\c<(N:Int)) {c:Int}:c∈(Zl nx N l ([],[])).2↔∃ a∈l,Way nx a c:=by
 have k:=zC6 (n:=N) hin l ([],[]) (zED _ _) hl;have no:∀ d,¬Bg (([],[]):DS) d:=fun d h=>by unfold Bg at h;exact Bool.noConfusion h
 constructor
 ·intro h;rcases k.of c h with h|h
  ·cases h
  ·rcases k.way c h with h|h
   ·exact absurd h (no _)
   ·exact h
 ·rintro⟨a,ha,w⟩;have:Bg (Zl nx N l ([],[])) c:=by
   induction w with
   |here=>exact k.all _ ha
   |step _ hc ih=>
    rcases k.done _ ih with h|⟨_,h⟩
    ·exact absurd h (no _)
    ·exact h _ hc
  rcases k.done c this with h|h
  ·exact absurd h (no _)
  ·exact h.1
theorem zPd {T:List LType} {F:List LFn} {f b:Int}:(Ya T F f b).2=(zD T F f b).2:=by
 unfold Ya;split
 ·rfl
 ·rename_i h;simp only[ne_eq,Decidable.not_not]at h;exact h.symm
set_option maxRecDepth 100000
def zK (L:List LBlk) (b:Int) (k:Nat):List Int:=((List.range k).filter fun (i:Nat)=>decide (b∈Zd (L.getD i default).fin)).map fun (i:Nat)=>(i:Int)
theorem zDc (L:List LBlk) (b:Int) (k:Nat):zK L b (k+1)=if b∈Zd (L.getD k default).fin then zK L b k++[(k:Int)] else zK L b k:=by
 unfold zK;rw[List.range_succ,List.filter_append,Gg];by_cases h:b∈Zd (L.getD k default).fin
 ·rw[QI h,List.filter_cons_of_pos (by simpa using h)];rfl
 ·rw[QD h,List.filter_cons_of_neg (by simpa using h)];simp
theorem YD (L:List LBlk) (b:Int) (k:Nat):(zK L b k).length<=k:=by
 unfold zK;rw[GK];exact QW (List.length_filter_le _ _) (by simp)
def yd (T:List LType) (F:List LFn) (f b:Int):List Int×Int:=
 if (zD T F f b).2≠0 then ([],(zD T F f b).2) else (zK (zD T F f b).1 b (zD T F f b).1.length,0)
def zOl:ACode:=(oV (oR [oB .lss 24 23 22]) (oV (oT 24 0) (oV (o5 1 (oV (oR [oM 25 23,oI 5 26 21 23,oA 5 27 26,⟨some 10,none,(.alloc [(.slice none 0 0),(.int .u8 0),(.int .i64 0),(.int .i64 0),(.int .i64 0)])⟩,oM 9 25,oS 5 10 27]) (oV (oR [oF 1 28 10,oA 4 29 28,o1 30 46 29,oM 31 2,o2 32 45 30 31]) (oJ 32 (oR [oM 33 6,oM 34 9,⟨some 35,none,(.buildSlice 1 1 [(.int .i64 0)] [(0,1,(.tmp 34))])⟩,oY 1 36 33 35,oM 6 36]) .skip)))) (oR [oC .add 37 23 1,oM 23 37]))))
def zTS:ACode:=(oV (oR [oX 3 0,oK 6 (.slice none 0 0),oN 7 0]) (oV (oR [oA 2 12 3,oM 13 1,oM 14 2,o3 15 44 12 13 14,oM 11 15,oE 16 11 0,oE 17 11 1,oM 8 16,oM 7 17]) (oV (oV (oR [oM 18 7,oC .neq 19 18 0]) (oJ 19 (oV (oR [oM 20 7,oK 6 (.slice none 0 0),oM 7 20]) .ret) .skip)) (oV (oV (oR [oM 21 8,oQ 22 21,oN 23 0]) (o5 0 (.loop zOl))) (oV (oR [oM 38 6,oM 6 38,oN 7 0]) .ret)))))
theorem zEa (h:AHeap) (vt vf:Value) (T:List LType) (F:List LFn) (f b:Int) (tt:Tbl h) (hm:h.mark<=h.n) (sm:Small T F) (st:SlT h vt T) (sf:SlF h vf F):
  WC Tryz.prog tb 19 [.agg #[vt,vf],I f,I b] h fun r h'=>(∃ v,r= .tuple #[v,I (yd T F f b).2]/\OwnN h h' v (yd T F f b).1)/\Ext h h':=by
 refine en 39 [(6,none),(7,none)] zTS ?_;refine WO.bx ?_;intro p h1 e1 o1;refine go ?_;refine WO.con (zBO h1 vt vf T F f b (tt.ext e1) (yA e1 hm) sm (st.ext e1) (SlF.ext sf e1)) ?_;rintro _ h2 ⟨⟨v,rfl,sb⟩,e2⟩;have e12:=e1.trans e2;refine go ?_;refine WX.br (fun hb=> ?_) (fun hb=> ?_)<;>simp only[DB]at hb<;>refine go ?_
 ·refine rt ?_;rw[show yd T F f b=([],(zD T F f b).2) from by rw[yd,QI hb]];exact⟨⟨_,rfl,.inl ⟨rfl,rfl⟩⟩,e12⟩
 have hb0:(zD T F f b).2=0:=by omega
 obtain⟨hlen,hnx⟩:=Zc hb0;rw[show yd T F f b=(zK (zD T F f b).1 b (zD T F f b).1.length,0) from by rw[yd,QD (by omega)]];generalize (zD T F f b).1=L at *;refine WX.loopA [24,25,26,27,10,9,28,29,30,31,32,33,34,35,36,6,37,23] (by kernel_rfl) (fun k=>L.length - k) (fun k t h3=>zB t 23=I k/\k<=L.length/\Ext h2 h3/\∃ w,zB t 6=w/\OwnN h2 h3 w (zK L b k)) 0 ?_ ?_
 ·exact⟨sl_,QV _,Ext.refl _,.slice none 0 0,sl_,.inl ⟨rfl,rfl⟩⟩
 rintro k t h3 hsame ⟨s23,hk,e23,w,s6,ow⟩;have sb3:=SlB.ext sb e23;refine go ?_;refine WX.br (fun hc=> ?_) (fun hc=> ?_)<;>simp only[DB]at hc
 ·have hk':k<L.length:=by omega
  obtain⟨cs,⟨vi,rfl,si,hsi⟩,pc,hs⟩:=yN sb3 hk';obtain⟨_,_,_,rfl⟩:=zM si;refine go ?_;refine WO.al ?_;intro p4 h4 e4 o4;refine go ?_;refine WO.stC0 o4 e4 ?_;intro h5 e5 o5 _;refine go ?_;refine WO.con (zHX h5 (L.getD k default).fin) ?_;rintro r h6 ⟨s6',_,e6⟩;have hn2:=zIG (L.getD k default).fin;refine go ?_;refine WO.con (Y1 h6 r _ b s6' (by omega)) ?_;rintro _ _ ⟨rfl,rfl⟩;have ow6:=(ow.ext e5).ext e6;have e36:=e5.trans e6;have hsucc:=zDc L b k;have hal:=YD L b k;refine go ?_;refine WX.br (fun hd=> ?_) (fun hd=> ?_)<;>simp only[DB]at hd<;>refine go ?_
  ·rw[QI hd]at hsucc;refine WO.bl [(k:Int)] ?_;intro v7 h7 e7 o7;refine go ?_;refine WO.apN (ow6.ext e7) o7.sl ((e23.trans e36).trans e7) (by simp only[Qa];omega) ?_;intro v8 h8 e8 o8;refine go ?_;exact zA (k+1) (by omega) ⟨sln,by omega,e8,v8,sl_,by rw[hsucc];exact o8⟩
  ·rw[QD hd]at hsucc;exact zA (k+1) (by omega) ⟨sln,by omega,e23.trans e36,w,sl_,by rw[hsucc];exact ow6⟩
 ·have hkk:k=L.length:=by omega
  subst hkk;refine gr ?_;exact⟨⟨_,rfl,ow.since e12⟩,e12.trans e23⟩
set_option maxRecDepth 100000
def zSX:ACode:=(oV (oR [oZ 2]) (oV (oR [oM 3 0,oM 4 0,oB .neq 5 3 4,oM 2 5]) .ret))
theorem zP1 (h:AHeap) (n:Int):WC Tryz.prog tb 236 [I n] h fun r h'=>r= .bool false/\h=h':=by
 refine en 6 [(2,none)] zSX ?_;refine rt ?_;exact⟨by simp[one],rfl⟩
def zRS:ACode:=(oV (oR [oZ 4]) (oV (oR [oM 5 0,o1 6 236 5,oM 7 6,oG 7 (oM 8 1),oG 7 (o1 9 236 8),oG 7 (oW 10 9),oP 11 7 10,oM 12 11,oH 12 (oM 13 0),oH 12 (oM 14 1),oH 12 (oB .lss 15 13 14),oO 16 12 15,oM 4 16]) .ret))
theorem ZN (h:AHeap) (a b:Int):WC Tryz.prog tb 221 [I a,I b] h fun r h'=>r= .bool (decide (a<b))/\h=h':=by
 refine en 17 [(4,none)] zRS ?_;refine WO.con (zP1 h a) ?_;rintro _ _ ⟨rfl,rfl⟩;refine gr ?_;exact⟨by simp[one],rfl⟩
def zND:ACode:=(oV (oV (o6 [oM 16 7,oM 17 1,oB .gtr 18 16 17,oM 19 18,oG 19 (oM 20 0),oG 19 (oM 21 7),oG 19 (oI 1 22 20 21),oG 19 (oL 23 22),oG 19 (oM 24 0),oG 19 (oM 25 7),oG 19 (oC .sub 26 25 1),oG 19 (oI 1 27 24 26),oG 19 (oL 28 27),oG 19 (o2 29 221 23 28),oP 30 19 29]) (oT 30 2)) (oV (o5 3 (o6 [oM 33 0,oM 34 7,oM 35 0,oM 36 7,oC .sub 37 36 1,oM 38 0,oM 39 7,oC .sub 40 39 1,oI 1 41 38 40,oL 42 41,oM 43 0,oM 44 7,oI 1 45 43 44,oL 46 45,oI 1 47 33 34,oS 1 47 42,oI 1 48 35 37,oS 1 48 46])) (oR [oM 31 7,oC .sub 32 31 1,oM 7 32])))
def zLh:ACode:=(oV (oV (oR [oM 10 6,oM 11 2,oB .lss 12 10 11]) (oT 12 0)) (oV (o5 1 (oV (oR [oM 15 6,oM 7 15]) (o5 2 (.loop zND)))) (oR [oM 13 6,oC .add 14 13 1,oM 6 14])))
def zKr:ACode:=(oV (oR [oM 8 1,oC .add 9 8 1,oM 6 9]) (o5 0 (.loop zLh)))
theorem zHK (hB h:AHeap) (v:Value) (xs:List Int) (a b:Int) (e0:Ext hB h) (hmB:hB.mark<=hB.n) (o:OwnI hB h v xs) (h0:0<=a) (hab:a<=b) (hb:b<=xs.length) (hlen:xs.length<=1000000000):
  WC Tryz.prog tb 215 [v,I a,I b] h fun r h'=>∃ ys,OwnI hB h' v ys/\PI a b xs ys/\Srt a b ys/\Ext hB h'/\Upd v h h':=by
 refine en 49 [] zKr ?_;refine WX.loopA [10,11,12,15,7,16,17,18,19,20,21,22,23,24,25,26,27,28,29,30,33,34,35,36,37,38,39,40,41,42,43,44,45,46,47,48,31,32,7,13,14,6] (by kernel_rfl) (fun x=>(b - x.2).toNat) (fun (x:List Int×Int) t h1=>zB t 6=I x.2/\a+1<=x.2/\(x.2<=b\/x.2=a+1)/\OwnI hB h1 v x.1/\Ext hB h1/\Upd v h h1/\PI a b xs x.1/\Srt a x.2 x.1) (xs,a+1) ?_ ?_
 ·exact⟨sl_,by simp only;omega,.inr rfl,o,e0,⟨QF _,fun _ _ _=>rfl⟩,PI.refl ..,Srt.small (by simp only;omega)⟩
 rintro⟨ys,i⟩ t h1 hsame ⟨s6,hi1,hi2,o1,e1,u1,p1,r1⟩;simp only at s6 hi1 hi2 o1 e1 u1 p1 r1;have hyl:=p1.len;refine go ?_;refine WX.br (fun hc=> ?_) (fun hc=> ?_)<;>simp only[DB]at hc
 ·refine go ?_;refine WX.loopA [16,17,18,19,20,21,22,23,24,25,26,27,28,29,30,33,34,35,36,37,38,39,40,41,42,43,44,45,46,47,48,31,32,7] (by kernel_rfl) (fun x=>(x.2 - a).toNat) (fun (x:List Int×Int) t h2=>zB t 7=I x.2/\a<=x.2/\x.2<=i/\OwnI hB h2 v x.1/\Ext hB h2/\Upd v h h2/\PI a b xs x.1/\∀ p q,a<=p->p<=q->q<=i->q≠x.2->atI x.1 p<=atI x.1 q) (ys,i) ?_ ?_
  ·exact⟨sl_,by simp only;omega,by simp only;omega,o1,e1,u1,p1,fun p q h1 h2 h3 h4=>r1 p q h1 h2 (by simp only at h4;omega)⟩
  rintro⟨zs,j⟩ t2 h2 hsame2 ⟨s7,hj1,hj2,o2,e2,u2,p2,r2⟩;simp only at s7 hj1 hj2 o2 e2 u2 p2 r2;have hzl:=p2.len;refine goC ?_;refine WX.regionU2 0 rfl rfl ?_;have sr:SlI (inC (zC 0 h2)) v zs:=o2.sl;refine goU ?_;refine WO.sp (fun hd=> ?_) (fun hd=> ?_)<;>simp only[DB]at hd<;>refine goU ?_
  ·refine WO.con (ZN _ (atI zs j) (atI zs (j - 1))) ?_;rintro _ _ ⟨rfl,rfl⟩;refine nQ ?_;refine goU ?_;rw[zAb];refine WX.br (fun he=> ?_) (fun he=> ?_)<;>simp only[DB]at he<;>refine goC ?_
   ·refine WX.regionU2 0 rfl rfl ?_;have sr2:SlI (inC (zC 0 h2)) v zs:=o2.sl;refine goU ?_;refine WU2.swA j (j - 1) o2 e2 (by rw[e2.mark];exact hmB) ?_;intro h3 e3 o3 u3;refine go ?_;exact zA (swp zs j (j - 1),j - 1) (by simp only;omega) ⟨sl_,by simp only;omega,by simp only;omega,o3,e3,u2.trans u3,p2.trans (PI.swp (by omega) (by omega) (by omega) (by omega)),zIg h0 hd hj2 (by omega) he r2⟩
   ·refine go ?_;refine zA (zs,i+1) (by simp only;omega) ⟨sl_,by simp only;omega,by simp only;omega,o2,e2,u2,p2,fun p q h1 h2 h3=> ?_⟩;by_cases hq:q=j
    ·subst hq;by_cases hp:p=q
     ·subst hp;exact Qi _
     ·have:=r2 p (q - 1) h1 (by omega) (by omega) (by omega);simp only;omega
    ·exact r2 p q h1 h2 (by simp only at h3;omega) hq
  ·rw[zAb];refine goC ?_;refine zA (zs,i+1) (by simp only;omega) ⟨sl_,by simp only;omega,by simp only;omega,o2,e2,u2,p2,fun p q h1 h2 h3=> ?_⟩;by_cases hq:q=j
   ·have hp:p=q:=by omega
    subst hp;exact Qi _
   ·exact r2 p q h1 h2 (by simp only at h3;omega) hq
 ·refine go ?_;refine rtN ?_;exact⟨ys,o1,p1,fun p q h1 h2 h3=>r1 p q h1 h2 (by omega),e1,u1⟩
set_option maxRecDepth 100000
def zM2:ACode:=(oV (oV (o6 [oM 30 10,oM 31 11,oB .leq 32 30 31,oM 33 32,oG 33 (oM 34 0),oG 33 (oM 35 10),oG 33 (oI 1 36 34 35),oG 33 (oL 37 36),oG 33 (oM 38 0),oG 33 (oM 39 1),oG 33 (oI 1 40 38 39),oG 33 (oL 41 40),oG 33 (o2 42 221 37 41),oP 43 33 42]) (oT 43 0)) (o5 1 (oR [oM 44 10,oC .add 45 44 1,oM 10 45])))
def zLZ:ACode:=(oV (oV (o6 [oM 46 10,oM 47 11,oB .leq 48 46 47,oM 49 48,oG 49 (oM 50 0),oG 49 (oM 51 11),oG 49 (oI 1 52 50 51),oG 49 (oL 53 52),oG 49 (oM 54 0),oG 49 (oM 55 1),oG 49 (oI 1 56 54 55),oG 49 (oL 57 56),oG 49 (o2 58 221 53 57),oG 49 (oW 59 58),oP 60 49 59]) (oT 60 2)) (o5 3 (oR [oM 61 11,oC .sub 62 61 1,oM 11 62])))
def zLF:ACode:=(oV (oV (o6 [oM 99 10,oM 100 11,oB .leq 101 99 100,oM 102 101,oG 102 (oM 103 0),oG 102 (oM 104 10),oG 102 (oI 1 105 103 104),oG 102 (oL 106 105),oG 102 (oM 107 0),oG 102 (oM 108 1),oG 102 (oI 1 109 107 108),oG 102 (oL 110 109),oG 102 (o2 111 221 106 110),oP 112 102 111]) (oT 112 6)) (o5 7 (oR [oM 113 10,oC .add 114 113 1,oM 10 114])))
def zMd:ACode:=(oV (oV (o6 [oM 115 10,oM 116 11,oB .leq 117 115 116,oM 118 117,oG 118 (oM 119 0),oG 118 (oM 120 11),oG 118 (oI 1 121 119 120),oG 118 (oL 122 121),oG 118 (oM 123 0),oG 118 (oM 124 1),oG 118 (oI 1 125 123 124),oG 118 (oL 126 125),oG 118 (o2 127 221 122 126),oG 118 (oW 128 127),oP 129 118 128]) (oT 129 8)) (o5 9 (oR [oM 130 11,oC .sub 131 130 1,oM 11 131])))
def zM5:ACode:=(o5 5 (oV (o5 6 (.loop zLF)) (oV (o5 8 (.loop zMd)) (oV (oV (oR [oM 132 10,oM 133 11,oB .gtr 134 132 133]) (oJ 134 (.exit 4) .skip)) (oV (o6 [oM 135 0,oM 136 10,oM 137 0,oM 138 11,oM 139 0,oM 140 11,oI 1 141 139 140,oL 142 141,oM 143 0,oM 144 10,oI 1 145 143 144,oL 146 145,oI 1 147 135 136,oS 1 147 142,oI 1 148 137 138,oS 1 148 146]) (oV (oR [oM 149 10,oC .add 150 149 1,oM 10 150]) (oR [oM 151 11,oC .sub 152 151 1,oM 11 152])))))))
def zQw:ACode:=(oV (oR [oN 8 0,oZ 9]) (oV (o6 [oM 12 0,oM 13 1,oM 14 0,oM 15 3,oM 16 0,oM 17 3,oI 1 18 16 17,oL 19 18,oM 20 0,oM 21 1,oI 1 22 20 21,oL 23 22,oI 1 24 12 13,oS 1 24 19,oI 1 25 14 15,oS 1 25 23]) (oV (oR [oM 26 1,oC .add 27 26 1,oM 28 2,oC .sub 29 28 1,oM 10 27,oM 11 29]) (oV (o5 0 (.loop zM2)) (oV (o5 2 (.loop zLZ)) (oV (oV (oR [oM 63 10,oM 64 11,oB .gtr 65 63 64]) (oJ 65 (oV (o6 [oM 66 0,oM 67 11,oM 68 0,oM 69 1,oM 70 0,oM 71 1,oI 1 72 70 71,oL 73 72,oM 74 0,oM 75 11,oI 1 76 74 75,oL 77 76,oI 1 78 66 67,oS 1 78 73,oI 1 79 68 69,oS 1 79 77]) (oV (oR [oM 80 11,oM 8 80,oK 9 (.bool true)]) .ret)) .skip)) (oV (o6 [oM 81 0,oM 82 10,oM 83 0,oM 84 11,oM 85 0,oM 86 11,oI 1 87 85 86,oL 88 87,oM 89 0,oM 90 10,oI 1 91 89 90,oL 92 91,oI 1 93 81 82,oS 1 93 88,oI 1 94 83 84,oS 1 94 92]) (oV (oR [oM 95 10,oC .add 96 95 1,oM 10 96]) (oV (oR [oM 97 11,oC .sub 98 97 1,oM 11 98]) (oV (o5 4 (.loop zM5)) (oV (o6 [oM 153 0,oM 154 11,oM 155 0,oM 156 1,oM 157 0,oM 158 1,oI 1 159 157 158,oL 160 159,oM 161 0,oM 162 11,oI 1 163 161 162,oL 164 163,oI 1 165 153 154,oS 1 165 160,oI 1 166 155 156,oS 1 166 164]) (oV (oR [oM 167 11,oM 8 167,oZ 9]) .ret))))))))))))
theorem zGu (hB h:AHeap) (v:Value) (xs:List Int) (a b pv:Int) (e0:Ext hB h) (hmB:hB.mark<=hB.n) (o:OwnI hB h v xs) (h0:0<=a) (hp:a<=pv/\pv<b) (hb:b<=xs.length) (hlen:xs.length<=1000000000):
  WC Tryz.prog tb 223 [v,I a,I b,I pv] h fun r h'=>∃ ys m w,r= .tuple #[I m,.bool w]/\SS hB h v a b xs ys h'/\(a<=m/\m<b)/\(∀ k,a<=k->k<m->atI ys k<=atI ys m)/\(∀ k,m<k->k<b->atI ys m<=atI ys k):=by
 have s0:=SS.start a b o e0;refine en 168 [(8,none),(9,none)] zQw ?_;refine WX.regionU2 0 rfl rfl ?_;have srX:SlI (inC (zC 0 h)) v xs:=(o).sl;refine goU ?_;refine WU2.swA (a) (pv) (s0).own (s0).ext (by rw[(s0).ext.mark];exact hmB) ?_;intro h1 e1 o1 u1;have s1:=s0.swp e1 o1 u1 h0 hb (by omega) (by omega);clear o1 e1 u1;generalize swp xs a pv=ys at s1;have hl1:=s1.len;refine go ?_;refine WX.loopA [30,31,32,33,34,35,36,37,38,39,40,41,42,43,44,45,10] (by kernel_rfl) (fun i=>(b - i).toNat) (fun (i:Int) t h2=>h1=h2/\zB t 10=I i/\(a+1<=i/\i<=b)/\∀ k,a<k->k<i->atI ys k<atI ys a) (a+1) ?_ ?_
 ·exact⟨rfl,sl_,by omega,fun k h1 h2=>by omega⟩
 rintro i t _ hsame ⟨rfl,s10,hi,hlow⟩;refine go ?_;refine WX.cutA [30,31,32,33,34,35,36,37,38,39,40,41,42,43] (by kernel_rfl) (fun t h'=>h1=h'/\zB t 43= .bool (decide (i<=b - 1/\(atI ys i<atI ys a)))) ?_ ?_
 ·refine WX.regionU2 0 rfl rfl ?_;have srX:SlI (inC (zC 0 h1)) v ys:=(s1.own).sl;refine goU ?_;refine WO.sp (fun hd=> ?_) (fun hd=> ?_)<;>simp only[DB]at hd<;>refine goU ?_
  ·refine WO.con (ZN _ (atI ys i) (atI ys a)) ?_;rintro _ _ ⟨rfl,rfl⟩;refine nQ ?_;refine goU ?_;exact zE ⟨rfl,by rw[show decide (i<=b - 1/\(atI ys i<atI ys a))=decide (atI ys i<atI ys a) from zD2 hd];exact sl_⟩
  ·exact zE ⟨rfl,by rw[show decide (i<=b - 1/\(atI ys i<atI ys a))=false from QT (fun hh=>absurd hh.1 (by omega))];exact sl_⟩
 rintro t2 _ hs2 ⟨rfl,q2⟩;refine go ?_;refine WX.br (fun he=> ?_) (fun he=> ?_)<;>simp only[DB]at he
 ·refine go ?_;refine zA (i+1) (by omega) ⟨rfl,sl_,by omega,fun k h1 h2=> ?_⟩;by_cases e:k=i
  ·rw[e];exact he.2
  ·exact hlow k h1 (by omega)
 refine go ?_;refine WX.loopA [46,47,48,49,50,51,52,53,54,55,56,57,58,59,60,61,62,11] (by kernel_rfl) (fun j=>(j+1 - a).toNat) (fun (j:Int) t h2=>h1=h2/\zB t 11=I j/\(i - 1<=j/\j<=b - 1)/\∀ k,j<k->k<b->atI ys a<=atI ys k) (b - 1) ?_ ?_
 ·exact⟨rfl,sl_,by omega,fun k h1 h2=>by omega⟩
 rintro j t _ hsame ⟨rfl,s11,hj,hhigh⟩;refine go ?_;refine WX.cutA [46,47,48,49,50,51,52,53,54,55,56,57,58,59,60] (by kernel_rfl) (fun t h'=>h1=h'/\zB t 60= .bool (decide (i<=j/\¬(atI ys j<atI ys a)))) ?_ ?_
 ·refine WX.regionU2 0 rfl rfl ?_;have srX:SlI (inC (zC 0 h1)) v ys:=(s1.own).sl;refine goU ?_;refine WO.sp (fun hd=> ?_) (fun hd=> ?_)<;>simp only[DB]at hd<;>refine goU ?_
  ·refine WO.con (ZN _ (atI ys j) (atI ys a)) ?_;rintro _ _ ⟨rfl,rfl⟩;refine nQ ?_;refine goU ?_;exact zE ⟨rfl,by rw[show decide (i<=j/\¬(atI ys j<atI ys a))= !decide (atI ys j<atI ys a) from zCS hd];exact sl_⟩
  ·exact zE ⟨rfl,by rw[show decide (i<=j/\¬(atI ys j<atI ys a))=false from QT (fun hh=>absurd hh.1 (by omega))];exact sl_⟩
 rintro t3 _ hs3 ⟨rfl,q3⟩;refine go ?_;refine WX.br (fun hf=> ?_) (fun hf=> ?_)<;>simp only[DB]at hf
 ·refine go ?_;refine zA (j - 1) (by omega) ⟨rfl,sl_,by omega,fun k h1 h2=> ?_⟩;by_cases e:k=j
  ·rw[e];omega
  ·exact hhigh k (by omega) h2
 refine go ?_;refine WX.br (fun hg=> ?_) (fun hg=> ?_)<;>simp only[DB]at hg
 ·refine go ?_;refine WX.regionU2 0 rfl rfl ?_;have srX:SlI (inC (zC 0 h1)) v ys:=(s1.own).sl;refine goU ?_;refine WU2.swA (j) (a) (s1).own (s1).ext (by rw[(s1).ext.mark];exact hmB) ?_;intro h3 e3 o3 u3;have s3:=s1.swp e3 o3 u3 h0 hb (by omega) (by omega);refine gr ?_;refine⟨_,_,_,rfl,s3,by omega,fun k h1 h2=> ?_,fun k h1 h2=> ?_⟩
  ·rw[yU (by omega) (by omega) (by omega),yU (by omega) (by omega) (by omega)];by_cases e:k=a
   ·rw[QI e,QD (by omega),QI rfl];have:=hlow j (by omega) (by omega);omega
   ·rw[QD e,QD (by omega),QD (by omega),QI rfl];have:=hlow k (by omega) (by omega);omega
  ·rw[yU (by omega) (by omega) (by omega),yU (by omega) (by omega) (by omega)];rw[QD (by omega:¬k=a),QD (by omega:¬k=j)];have:=hhigh k (by omega) (by omega);by_cases e:j=a
   ·rw[QI e,e];exact this
   ·rw[QD e,QI rfl];exact this
 refine go ?_;refine WX.regionU2 0 rfl rfl ?_;have srX:SlI (inC (zC 0 h1)) v ys:=(s1.own).sl;refine goU ?_;refine WU2.swA (i) (j) (s1).own (s1).ext (by rw[(s1).ext.mark];exact hmB) ?_;intro h3 e3 o3 u3;have s3:=s1.swp e3 o3 u3 h0 hb (by omega) (by omega);have hi2:¬atI ys i<atI ys a:=fun hh=>he ⟨by omega,hh⟩;have hj2:atI ys j<atI ys a:=Int.not_le.1 fun hh=>hf ⟨by omega,hh⟩;have hij:i≠j:=fun e=>by subst e;exact hi2 hj2
 have hP:(a+1<=i+1/\i+1<=j - 1+1/\j - 1<=b - 1)/\(∀ k,a<k->k<i+1->atI (swp ys i j) k<atI (swp ys i j) a)/\∀ k,j - 1<k->k<b->atI (swp ys i j) a<=atI (swp ys i j) k:=by
  have ea:atI (swp ys i j) a=atI ys a:=by rw[yU (by omega) (by omega) (by omega),QD (by omega),QD (by omega)]
  rw[ea];refine⟨by omega,fun k h1 h2=> ?_,fun k h1 h2=> ?_⟩
  ·rw[yU (by omega) (by omega) (by omega),QD (by omega)];by_cases e:k=i
   ·rw[QI e];exact hj2
   ·rw[QD e];exact hlow k h1 (by omega)
  ·rw[yU (by omega) (by omega) (by omega)];by_cases e:k=j
   ·rw[QI e];omega
   ·rw[QD e,QD (by omega)];exact hhigh k (by omega) h2
 clear o3 e3 u3 hlow hhigh;generalize swp ys i j=zs at s3 hP;refine go ?_;refine WX.loopA [99,100,101,102,103,104,105,106,107,108,109,110,111,112,113,114,10,115,116,117,118,119,120,121,122,123,124,125,126,127,128,129,130,131,11,132,133,134,135,136,137,138,139,140,141,142,143,144,145,146,147,148,149,150,10,151,152,11] (by kernel_rfl) (fun x=>(x.2.2+1 - x.2.1).toNat) (fun (x:List Int×Int×Int) t h4=>SS hB h v a b xs x.1 h4/\zB t 10=I x.2.1/\zB t 11=I x.2.2/\(a+1<=x.2.1/\x.2.1<=x.2.2+1/\x.2.2<=b - 1)/\(∀ k,a<k->k<x.2.1->atI x.1 k<atI x.1 a)/\∀ k,x.2.2<k->k<b->atI x.1 a<=atI x.1 k) (zs,i+1,j - 1) ?_ ?_
 ·exact⟨s3,sl_,sl_,hP.1,hP.2.1,hP.2.2⟩
 clear hP s3 s10 s11 he hf hg hi2 hj2 hij q2 q3 hi hj;rintro⟨ws,p,q⟩ t h4 hsame ⟨s4,s10,s11,hpq,hlow,hhigh⟩;simp only at s4 s10 s11 hpq hlow hhigh;have hl4:=s4.len;refine go ?_;refine WX.loopA [99,100,101,102,103,104,105,106,107,108,109,110,111,112,113,114,10] (by kernel_rfl) (fun i=>(b - i).toNat) (fun (i:Int) t h2=>h4=h2/\zB t 10=I i/\(p<=i/\i<=q+1)/\∀ k,a<k->k<i->atI ws k<atI ws a) p ?_ ?_
 ·exact⟨rfl,sl_,by omega,hlow⟩
 rintro i2 t _ hsame ⟨rfl,s10,hi,hlow2⟩;refine go ?_;refine WX.cutA [99,100,101,102,103,104,105,106,107,108,109,110,111,112] (by kernel_rfl) (fun t h'=>h4=h'/\zB t 112= .bool (decide (i2<=q/\(atI ws i2<atI ws a)))) ?_ ?_
 ·refine WX.regionU2 0 rfl rfl ?_;have srX:SlI (inC (zC 0 h4)) v ws:=(s4.own).sl;refine goU ?_;refine WO.sp (fun hd=> ?_) (fun hd=> ?_)<;>simp only[DB]at hd<;>refine goU ?_
  ·refine WO.con (ZN _ (atI ws i2) (atI ws a)) ?_;rintro _ _ ⟨rfl,rfl⟩;refine nQ ?_;refine goU ?_;exact zE ⟨rfl,by rw[show decide (i2<=q/\(atI ws i2<atI ws a))=decide (atI ws i2<atI ws a) from zD2 hd];exact sl_⟩
  ·exact zE ⟨rfl,by rw[show decide (i2<=q/\(atI ws i2<atI ws a))=false from QT (fun hh=>absurd hh.1 (by omega))];exact sl_⟩
 rintro t5 _ hs5 ⟨rfl,q5⟩;refine go ?_;refine WX.br (fun he=> ?_) (fun he=> ?_)<;>simp only[DB]at he
 ·refine go ?_;refine zA (i2+1) (by omega) ⟨rfl,sl_,by omega,fun k h1 h2=> ?_⟩;by_cases e:k=i2
  ·rw[e];exact he.2
  ·exact hlow2 k h1 (by omega)
 refine go ?_;refine WX.loopA [115,116,117,118,119,120,121,122,123,124,125,126,127,128,129,130,131,11] (by kernel_rfl) (fun j=>(j+1 - a).toNat) (fun (j:Int) t h2=>h4=h2/\zB t 11=I j/\(i2 - 1<=j/\j<=q)/\∀ k,j<k->k<b->atI ws a<=atI ws k) q ?_ ?_
 ·exact⟨rfl,sl_,by omega,hhigh⟩
 rintro j2 t _ hsame ⟨rfl,s11,hj,hhigh2⟩;refine go ?_;refine WX.cutA [115,116,117,118,119,120,121,122,123,124,125,126,127,128,129] (by kernel_rfl) (fun t h'=>h4=h'/\zB t 129= .bool (decide (i2<=j2/\¬(atI ws j2<atI ws a)))) ?_ ?_
 ·refine WX.regionU2 0 rfl rfl ?_;have srX:SlI (inC (zC 0 h4)) v ws:=(s4.own).sl;refine goU ?_;refine WO.sp (fun hd=> ?_) (fun hd=> ?_)<;>simp only[DB]at hd<;>refine goU ?_
  ·refine WO.con (ZN _ (atI ws j2) (atI ws a)) ?_;rintro _ _ ⟨rfl,rfl⟩;refine nQ ?_;refine goU ?_;exact zE ⟨rfl,by rw[show decide (i2<=j2/\¬(atI ws j2<atI ws a))= !decide (atI ws j2<atI ws a) from zCS hd];exact sl_⟩
  ·exact zE ⟨rfl,by rw[show decide (i2<=j2/\¬(atI ws j2<atI ws a))=false from QT (fun hh=>absurd hh.1 (by omega))];exact sl_⟩
 rintro t6 _ hs6 ⟨rfl,q6⟩;refine go ?_;refine WX.br (fun hf=> ?_) (fun hf=> ?_)<;>simp only[DB]at hf
 ·refine go ?_;refine zA (j2 - 1) (by omega) ⟨rfl,sl_,by omega,fun k h1 h2=> ?_⟩;by_cases e:k=j2
  ·rw[e];omega
  ·exact hhigh2 k (by omega) h2
 refine go ?_;refine WX.br (fun hg=> ?_) (fun hg=> ?_)<;>simp only[DB]at hg
 ·refine go ?_;refine WX.regionU2 0 rfl rfl ?_;have srX:SlI (inC (zC 0 h4)) v ws:=(s4.own).sl;refine goU ?_;refine WU2.swA (j2) (a) (s4).own (s4).ext (by rw[(s4).ext.mark];exact hmB) ?_;intro h3 e3 o3 u3;have s3:=s4.swp e3 o3 u3 h0 hb (by omega) (by omega);refine gr ?_;refine⟨_,_,_,rfl,s3,by omega,fun k h1 h2=> ?_,fun k h1 h2=> ?_⟩
  ·rw[yU (by omega) (by omega) (by omega),yU (by omega) (by omega) (by omega)];by_cases e:k=a
   ·rw[QI e,QD (by omega),QI rfl];have:=hlow2 j2 (by omega) (by omega);omega
   ·rw[QD e,QD (by omega),QD (by omega),QI rfl];have:=hlow2 k (by omega) (by omega);omega
  ·rw[yU (by omega) (by omega) (by omega),yU (by omega) (by omega) (by omega)];rw[QD (by omega:¬k=a),QD (by omega:¬k=j2)];have:=hhigh2 k (by omega) (by omega);by_cases e:j2=a
   ·rw[QI e,e];exact this
   ·rw[QD e,QI rfl];exact this
 refine go ?_;refine WX.regionU2 0 rfl rfl ?_;have srX:SlI (inC (zC 0 h4)) v ws:=(s4.own).sl;refine goU ?_;refine WU2.swA (i2) (j2) (s4).own (s4).ext (by rw[(s4).ext.mark];exact hmB) ?_;intro h3 e3 o3 u3;have s3:=s4.swp e3 o3 u3 h0 hb (by omega) (by omega);have hi2:¬atI ws i2<atI ws a:=fun hh=>he ⟨by omega,hh⟩;have hj2:atI ws j2<atI ws a:=Int.not_le.1 fun hh=>hf ⟨by omega,hh⟩;have hij:i2≠j2:=fun e=>by subst e;exact hi2 hj2
 have ea:atI (swp ws i2 j2) a=atI ws a:=by rw[yU (by omega) (by omega) (by omega),QD (by omega),QD (by omega)]
 refine go ?_;refine zA (swp ws i2 j2,i2+1,j2 - 1) (by simp only;omega) ⟨s3,sl_,sl_,by simp only;omega,fun k h1 h2=> ?_,fun k h1 h2=> ?_⟩
 ·simp only at h2 |-;rw[ea,yU (by omega) (by omega) (by omega),QD (by omega)];by_cases e:k=i2
  ·rw[QI e];exact hj2
  ·rw[QD e];exact hlow2 k h1 (by omega)
 ·simp only at h1 |-;rw[ea,yU (by omega) (by omega) (by omega)];by_cases e:k=j2
  ·rw[QI e];omega
  ·rw[QD e,QD (by omega)];exact hhigh2 k (by omega) h2
set_option maxRecDepth 100000
def zLU:ACode:=(oV (oV (o6 [oM 29 9,oM 30 10,oB .leq 31 29 30,oM 32 31,oG 32 (oM 33 0),oG 32 (oM 34 1),oG 32 (oI 1 35 33 34),oG 32 (oL 36 35),oG 32 (oM 37 0),oG 32 (oM 38 9),oG 32 (oI 1 39 37 38),oG 32 (oL 40 39),oG 32 (o2 41 221 36 40),oG 32 (oW 42 41),oP 43 32 42]) (oT 43 2)) (o5 3 (oR [oM 44 9,oC .add 45 44 1,oM 9 45])))
def zNO:ACode:=(oV (oV (o6 [oM 46 9,oM 47 10,oB .leq 48 46 47,oM 49 48,oG 49 (oM 50 0),oG 49 (oM 51 1),oG 49 (oI 1 52 50 51),oG 49 (oL 53 52),oG 49 (oM 54 0),oG 49 (oM 55 10),oG 49 (oI 1 56 54 55),oG 49 (oL 57 56),oG 49 (o2 58 221 53 57),oP 59 49 58]) (oT 59 4)) (o5 5 (oR [oM 60 10,oC .sub 61 60 1,oM 10 61])))
def zMN:ACode:=(o5 1 (oV (o5 2 (.loop zLU)) (oV (o5 4 (.loop zNO)) (oV (oV (oR [oM 62 9,oM 63 10,oB .gtr 64 62 63]) (oJ 64 (.exit 0) .skip)) (oV (o6 [oM 65 0,oM 66 9,oM 67 0,oM 68 10,oM 69 0,oM 70 10,oI 1 71 69 70,oL 72 71,oM 73 0,oM 74 9,oI 1 75 73 74,oL 76 75,oI 1 77 65 66,oS 1 77 72,oI 1 78 67 68,oS 1 78 76]) (oV (oR [oM 79 9,oC .add 80 79 1,oM 9 80]) (oR [oM 81 10,oC .sub 82 81 1,oM 10 82])))))))
def zQQ:ACode:=(oV (oR [oN 8 0]) (oV (o6 [oM 11 0,oM 12 1,oM 13 0,oM 14 3,oM 15 0,oM 16 3,oI 1 17 15 16,oL 18 17,oM 19 0,oM 20 1,oI 1 21 19 20,oL 22 21,oI 1 23 11 12,oS 1 23 18,oI 1 24 13 14,oS 1 24 22]) (oV (oR [oM 25 1,oC .add 26 25 1,oM 27 2,oC .sub 28 27 1,oM 9 26,oM 10 28]) (oV (o5 0 (.loop zMN)) (oV (oR [oM 83 9,oM 8 83]) .ret)))))
theorem zHS (hB h:AHeap) (v:Value) (xs:List Int) (a b pv:Int) (e0:Ext hB h) (hmB:hB.mark<=hB.n) (o:OwnI hB h v xs) (h0:0<=a) (hp:a<=pv/\pv<b) (hb:b<=xs.length) (hlen:xs.length<=1000000000):
  WC Tryz.prog tb 222 [v,I a,I b,I pv] h fun r h'=>∃ ys m,r=I m/\SS hB h v a b xs ys h'/\(a+1<=m/\m<=b)/\(∀ k,a<=k->k<m->atI ys k<=atI xs pv)/\(∀ k,m<=k->k<b->atI xs pv<atI ys k):=by
 have s0:=SS.start a b o e0;refine en 84 [(8,none)] zQQ ?_;refine WX.regionU2 0 rfl rfl ?_;have srX:SlI (inC (zC 0 h)) v xs:=(o).sl;refine goU ?_;refine WU2.swA (a) (pv) (s0).own (s0).ext (by rw[(s0).ext.mark];exact hmB) ?_;intro h1 e1 o1 u1;have s1:=s0.swp e1 o1 u1 h0 hb (by omega) (by omega);clear o1 e1 u1;have ha:atI (swp xs a pv) a=atI xs pv:=by
  rw[yU (by omega) (by omega) (by omega)];by_cases e:a=pv
  ·rw[QI e,e]
  ·rw[QD e,QI rfl]
 generalize swp xs a pv=ys at s1 ha;generalize atI xs pv=P at ha |-;have hl1:=s1.len;refine go ?_;refine WX.loopA [29,30,31,32,33,34,35,36,37,38,39,40,41,42,43,44,45,9,46,47,48,49,50,51,52,53,54,55,56,57,58,59,60,61,10,62,63,64,65,66,67,68,69,70,71,72,73,74,75,76,77,78,79,80,9,81,82,10] (by kernel_rfl) (fun x=>(x.2.2+1 - x.2.1).toNat) (fun (x:List Int×Int×Int) t h4=>SS hB h v a b xs x.1 h4/\zB t 9=I x.2.1/\zB t 10=I x.2.2/\(a+1<=x.2.1/\x.2.1<=x.2.2+1/\x.2.2<=b - 1)/\atI x.1 a=P/\(∀ k,a<k->k<x.2.1->atI x.1 k<=P)/\∀ k,x.2.2<k->k<b->P<atI x.1 k) (ys,a+1,b - 1) ?_ ?_
 ·exact⟨s1,sl_,sl_,by simp only;omega,ha,fun k h1 h2=>by simp only at h2;omega,fun k h1 h2=>by simp only at h1;omega⟩
 clear s1 ha hl1;rintro⟨ws,p,q⟩ t h4 hsame ⟨s4,s9,s10,hpq,ha,hlow,hhigh⟩;simp only at s4 s9 s10 hpq ha hlow hhigh;have hl4:=s4.len;refine go ?_;refine WX.loopA [29,30,31,32,33,34,35,36,37,38,39,40,41,42,43,44,45,9] (by kernel_rfl) (fun i=>(b - i).toNat) (fun (i:Int) t h2=>h4=h2/\zB t 9=I i/\(p<=i/\i<=q+1)/\∀ k,a<k->k<i->atI ws k<=P) p ?_ ?_
 ·exact⟨rfl,sl_,by omega,hlow⟩
 rintro i2 t _ hsame ⟨rfl,s9,hi,hlow2⟩;refine go ?_;refine WX.cutA [29,30,31,32,33,34,35,36,37,38,39,40,41,42,43] (by kernel_rfl) (fun t h'=>h4=h'/\zB t 43= .bool (decide (i2<=q/\¬(atI ws a<atI ws i2)))) ?_ ?_
 ·refine WX.regionU2 0 rfl rfl ?_;have srX:SlI (inC (zC 0 h4)) v ws:=(s4.own).sl;refine goU ?_;refine WO.sp (fun hd=> ?_) (fun hd=> ?_)<;>simp only[DB]at hd<;>refine goU ?_
  ·refine WO.con (ZN _ (atI ws a) (atI ws i2)) ?_;rintro _ _ ⟨rfl,rfl⟩;refine nQ ?_;refine goU ?_;exact zE ⟨rfl,by rw[show decide (i2<=q/\¬(atI ws a<atI ws i2))= !decide (atI ws a<atI ws i2) from zCS hd];exact sl_⟩
  ·exact zE ⟨rfl,by rw[show decide (i2<=q/\¬(atI ws a<atI ws i2))=false from QT (fun hh=>absurd hh.1 (by omega))];exact sl_⟩
 rintro t5 _ hs5 ⟨rfl,q5⟩;refine go ?_;refine WX.br (fun he=> ?_) (fun he=> ?_)<;>simp only[DB]at he
 ·refine go ?_;refine zA (i2+1) (by omega) ⟨rfl,sl_,by omega,fun k h1 h2=> ?_⟩;by_cases e:k=i2
  ·rw[e];omega
  ·exact hlow2 k h1 (by omega)
 refine go ?_;refine WX.loopA [46,47,48,49,50,51,52,53,54,55,56,57,58,59,60,61,10] (by kernel_rfl) (fun j=>(j+1 - a).toNat) (fun (j:Int) t h2=>h4=h2/\zB t 10=I j/\(i2 - 1<=j/\j<=q)/\∀ k,j<k->k<b->P<atI ws k) q ?_ ?_
 ·exact⟨rfl,sl_,by omega,hhigh⟩
 rintro j2 t _ hsame ⟨rfl,s10,hj,hhigh2⟩;refine go ?_;refine WX.cutA [46,47,48,49,50,51,52,53,54,55,56,57,58,59] (by kernel_rfl) (fun t h'=>h4=h'/\zB t 59= .bool (decide (i2<=j2/\(atI ws a<atI ws j2)))) ?_ ?_
 ·refine WX.regionU2 0 rfl rfl ?_;have srX:SlI (inC (zC 0 h4)) v ws:=(s4.own).sl;refine goU ?_;refine WO.sp (fun hd=> ?_) (fun hd=> ?_)<;>simp only[DB]at hd<;>refine goU ?_
  ·refine WO.con (ZN _ (atI ws a) (atI ws j2)) ?_;rintro _ _ ⟨rfl,rfl⟩;refine nQ ?_;refine goU ?_;exact zE ⟨rfl,by rw[show decide (i2<=j2/\(atI ws a<atI ws j2))=decide (atI ws a<atI ws j2) from zD2 hd];exact sl_⟩
  ·exact zE ⟨rfl,by rw[show decide (i2<=j2/\(atI ws a<atI ws j2))=false from QT (fun hh=>absurd hh.1 (by omega))];exact sl_⟩
 rintro t6 _ hs6 ⟨rfl,q6⟩;refine go ?_;refine WX.br (fun hf=> ?_) (fun hf=> ?_)<;>simp only[DB]at hf
 ·refine go ?_;refine zA (j2 - 1) (by omega) ⟨rfl,sl_,by omega,fun k h1 h2=> ?_⟩;by_cases e:k=j2
  ·rw[e];omega
  ·exact hhigh2 k (by omega) h2
 refine go ?_;refine WX.br (fun hg=> ?_) (fun hg=> ?_)<;>simp only[DB]at hg
 ·refine gr ?_;refine⟨_,_,rfl,s4,by omega,fun k h1 h2=> ?_,fun k h1 h2=> ?_⟩
  ·by_cases e:k=a
   ·rw[e,ha];exact Qi _
   ·exact hlow2 k (by omega) h2
  ·exact hhigh2 k (by omega) h2
 have hi2:P<atI ws i2:=by
  rw[<-ha];exact Int.not_le.1 fun hh=>he ⟨by omega,hh⟩
 have hj2:atI ws j2<=P:=by
  rw[<-ha];exact Int.not_lt.1 fun hh=>hf ⟨by omega,hh⟩
 have hij:i2≠j2:=fun e=>by subst e;omega
 refine go ?_;refine WX.regionU2 0 rfl rfl ?_;have srX:SlI (inC (zC 0 h4)) v ws:=(s4.own).sl;refine goU ?_;refine WU2.swA (i2) (j2) (s4).own (s4).ext (by rw[(s4).ext.mark];exact hmB) ?_;intro h3 e3 o3 u3;have s3:=s4.swp e3 o3 u3 h0 hb (by omega) (by omega);refine go ?_;refine zA (swp ws i2 j2,i2+1,j2 - 1) (by simp only;omega) ⟨s3,sl_,sl_,by simp only;omega,?_,fun k h1 h2=> ?_,fun k h1 h2=> ?_⟩
 ·simp only;rw[yU (by omega) (by omega) (by omega),QD (by omega),QD (by omega)];exact ha
 ·simp only at h2 |-;rw[yU (by omega) (by omega) (by omega),QD (by omega)];by_cases e:k=i2
  ·rw[QI e];exact hj2
  ·rw[QD e];exact hlow2 k h1 (by omega)
 ·simp only at h1 |-;rw[yU (by omega) (by omega) (by omega)];by_cases e:k=j2
  ·rw[QI e];omega
  ·rw[QD e,QD (by omega)];exact hhigh2 k (by omega) h2
def zNM:ACode:=(oV (oV (oR [oM 11 6,oM 12 7,oB .lss 13 11 12]) (oT 13 0)) (o5 1 (oV (o6 [oM 14 0,oM 15 6,oM 16 0,oM 17 7,oM 18 0,oM 19 7,oI 1 20 18 19,oL 21 20,oM 22 0,oM 23 6,oI 1 24 22 23,oL 25 24,oI 1 26 14 15,oS 1 26 21,oI 1 27 16 17,oS 1 27 25]) (oV (oR [oM 28 6,oC .add 29 28 1,oM 6 29]) (oR [oM 30 7,oC .sub 31 30 1,oM 7 31])))))
def zRp:ACode:=(oV (oR [oM 8 1,oM 6 8]) (oV (oR [oM 9 2,oC .sub 10 9 1,oM 7 10]) (o5 0 (.loop zNM))))
theorem zJE (hB h:AHeap) (v:Value) (xs:List Int) (a b:Int) (e0:Ext hB h) (hmB:hB.mark<=hB.n) (o:OwnI hB h v xs) (h0:0<=a) (hab:a<=b) (hb:b<=xs.length) (hlen:xs.length<=1000000000):
  WC Tryz.prog tb 219 [v,I a,I b] h fun r h'=>∃ ys,SS hB h v a b xs ys h':=by
 have s0:=SS.start a b o e0;refine en 32 [] zRp ?_;refine WX.loopA [11,12,13,14,15,16,17,18,19,20,21,22,23,24,25,26,27,28,29,6,30,31,7] (by kernel_rfl) (fun x=>(x.2.2+1 - x.2.1).toNat) (fun (x:List Int×Int×Int) t h4=>SS hB h v a b xs x.1 h4/\zB t 6=I x.2.1/\zB t 7=I x.2.2/\(a<=x.2.1/\x.2.2<=b - 1)/\(x.2.1<=b/\a - 1<=x.2.2)) (xs,a,b - 1) ?_ ?_
 ·exact⟨s0,sl_,sl_,by simp only;omega,by simp only;omega⟩
 rintro⟨ws,p,q⟩ t h4 hsame ⟨s4,s6,s7,hpq,hpq2⟩;simp only at s4 s6 s7 hpq hpq2;have hl4:=s4.len;refine go ?_;refine WX.br (fun he=> ?_) (fun he=> ?_)<;>simp only[DB]at he
 ·refine go ?_;refine WX.regionU2 0 rfl rfl ?_;have srX:SlI (inC (zC 0 h4)) v ws:=(s4.own).sl;refine goU ?_;refine WU2.swA (p) (q) (s4).own (s4).ext (by rw[(s4).ext.mark];exact hmB) ?_;intro h3 e3 o3 u3;have s3:=s4.swp e3 o3 u3 h0 hb (by omega) (by omega);refine go ?_;exact zA (swp ws p q,p+1,q - 1) (by simp only;omega) ⟨s3,sl_,sl_,by simp only;omega,by simp only;omega⟩
 ·refine go ?_;refine rtN ?_;exact⟨ws,s4⟩
def zF9 (lo hi k c:Int):Prop:=lo<=k/\(c=2 * k+1\/c=2 * k+2)/\c<hi
def zF6 (first lo hi:Int) (xs:List Int):Prop:=∀ k c,zF9 lo hi k c->atI xs (first+c)<=atI xs (first+k)
theorem zPs {first hi:Int} {xs:List Int} (h:zF6 first 0 hi xs):∀ (n:Nat) (k:Int),k=n->k<hi->atI xs (first+k)<=atI xs (first+0):=by
 intro n;induction n using Nat.strongRecOn with
 |_ n ih=>
  intro k hk hlt;by_cases e:k=0
  ·rw[e];exact Qi _
  ·have h1:=h ((k - 1) / 2) k ⟨by omega,by omega,hlt⟩;have h2:=ih ((k - 1) / 2).toNat (by omega) ((k - 1) / 2) (by omega) (by omega);omega
def zNI:ACode:=(o5 1 (oV (oR [oM 11 8,⟨some 12,none,(.bin .mul (.const (.int .i64 2)) (.tmp 11))⟩,oC .add 13 12 1,oM 9 13]) (oV (oV (oR [oM 14 9,oM 15 2,oB .geq 16 14 15]) (oJ 16 (.exit 0) .skip)) (oV (oV (o6 [oM 17 9,oC .add 18 17 1,oM 19 2,oB .lss 20 18 19,oM 21 20,oG 21 (oM 22 0),oG 21 (oM 23 3),oG 21 (oM 24 9),oG 21 (oB .add 25 23 24),oG 21 (oI 1 26 22 25),oG 21 (oL 27 26),oG 21 (oM 28 0),oG 21 (oM 29 3),oG 21 (oM 30 9),oG 21 (oB .add 31 29 30),oG 21 (oC .add 32 31 1),oG 21 (oI 1 33 28 32),oG 21 (oL 34 33),oG 21 (o2 35 221 27 34),oP 36 21 35]) (oJ 36 (oR [oM 37 9,oC .add 38 37 1,oM 9 38]) .skip)) (oV (oV (o6 [oM 39 0,oM 40 3,oM 41 8,oB .add 42 40 41,oI 1 43 39 42,oL 44 43,oM 45 0,oM 46 3,oM 47 9,oB .add 48 46 47,oI 1 49 45 48,oL 50 49,o2 51 221 44 50,oW 52 51]) (oJ 52 .ret .skip)) (oV (o6 [oM 53 0,oM 54 3,oM 55 8,oB .add 56 54 55,oM 57 0,oM 58 3,oM 59 9,oB .add 60 58 59,oM 61 0,oM 62 3,oM 63 9,oB .add 64 62 63,oI 1 65 61 64,oL 66 65,oM 67 0,oM 68 3,oM 69 8,oB .add 70 68 69,oI 1 71 67 70,oL 72 71,oI 1 73 53 56,oS 1 73 66,oI 1 74 57 60,oS 1 74 72]) (oR [oM 75 9,oM 8 75])))))))
def zQL:ACode:=(oV (oR [oM 10 1,oM 8 10]) (o5 0 (.loop zNI)))
theorem zKz (hB h:AHeap) (v:Value) (xs:List Int) (lo hi first:Int) (e0:Ext hB h) (hmB:hB.mark<=hB.n) (o:OwnI hB h v xs) (h0:0<=lo) (hlo:lo<=1000000000) (hf:0<=first) (hb:first+hi<=xs.length) (hlen:xs.length<=1000000000) (hh:zF6 first (lo+1) hi xs):
  WC Tryz.prog tb 231 [v,I lo,I hi,I first] h fun r h'=>∃ ys,SS hB h v (first+lo) (first+hi) xs ys h'/\zF6 first lo hi ys:=by
 have s0:=SS.start (first+lo) (first+hi) o e0;refine en 76 [] zQL ?_;refine WX.loopA [11,12,13,9,14,15,16,17,18,19,20,21,22,23,24,25,26,27,28,29,30,31,32,33,34,35,36,37,38,9,39,40,41,42,43,44,45,46,47,48,49,50,51,52,53,54,55,56,57,58,59,60,61,62,63,64,65,66,67,68,69,70,71,72,73,74,75,8] (by kernel_rfl) (fun x=>(hi+1 - x.2).toNat) (fun (x:List Int×Int) t h4=>SS hB h v (first+lo) (first+hi) xs x.1 h4/\zB t 8=I x.2/\(lo<=x.2/\(x.2=lo\/x.2<hi))/\(∀ k c,zF9 lo hi k c->k≠x.2->atI x.1 (first+c)<=atI x.1 (first+k))/\∀ k c,zF9 lo hi k x.2->zF9 lo hi x.2 c->atI x.1 (first+c)<=atI x.1 (first+k)) (xs,lo) ?_ ?_
 ·refine⟨s0,sl_,⟨Qi _,.inl rfl⟩,fun k c hk hne=>hh k c ⟨by have:=hk.1;simp only at hne;omega,hk.2⟩,fun k c h1 h2=> ?_⟩;obtain⟨a1,a2,a3⟩:=h1;simp only at a2;omega
 rintro⟨ws,r⟩ t h4 hsame ⟨s4,s8,hr,i1,i2⟩;simp only at s4 s8 hr i1 i2;have hl4:=s4.len;refine go ?_;refine WX.br (fun he=> ?_) (fun he=> ?_)<;>simp only[DB]at he
 ·refine go ?_;refine rtN ?_;refine⟨ws,s4,fun k c hk=> ?_⟩;by_cases e:k=r
  ·obtain⟨a1,a2,a3⟩:=hk;subst e;omega
  ·exact i1 k c hk e
 refine go ?_;refine WX.cutA [17,18,19,20,21,22,23,24,25,26,27,28,29,30,31,32,33,34,35,36] (by kernel_rfl) (fun t h'=>h4=h'/\zB t 36= .bool (decide (2 * r+1+1<hi/\(atI ws (first+(2 * r+1))<atI ws (first+(2 * r+1)+1))))) ?_ ?_
 ·refine WX.regionU2 0 rfl rfl ?_;have srX:SlI (inC (zC 0 h4)) v ws:=(s4.own).sl;refine goU ?_;refine WO.sp (fun hd=> ?_) (fun hd=> ?_)<;>simp only[DB]at hd<;>refine goU ?_
  ·refine WO.con (ZN _ (atI ws (first+(2 * r+1))) (atI ws (first+(2 * r+1)+1))) ?_;rintro _ _ ⟨rfl,rfl⟩;refine nQ ?_;refine goU ?_;exact zE ⟨rfl,by rw[show decide (2 * r+1+1<hi/\(atI ws (first+(2 * r+1))<atI ws (first+(2 * r+1)+1)))=decide (atI ws (first+(2 * r+1))<atI ws (first+(2 * r+1)+1)) from zD2 hd];exact sl_⟩
  ·exact zE ⟨rfl,by rw[show decide (2 * r+1+1<hi/\(atI ws (first+(2 * r+1))<atI ws (first+(2 * r+1)+1)))=false from QT (fun hh=>absurd hh.1 (by omega))];exact sl_⟩
 rintro t5 _ hs5 ⟨rfl,q5⟩;have hcut:∀ c:Int,(c=2 * r+1\/c=2 * r+2)->c<hi->(∀ d,zF9 lo hi r d->atI ws (first+d)<=atI ws (first+c))->∀ (t:Trie Value) (K:AExit->AFr->AHeap->Prop),True:=fun _ _ _ _ _ _=>trivial;refine go ?_;refine WX.cutA [37,38,9] (by kernel_rfl) (fun t h'=>h4=h'/\∃ c:Int,zB t 9=I c/\(c=2 * r+1\/c=2 * r+2)/\c<hi/\∀ d,zF9 lo hi r d->atI ws (first+d)<=atI ws (first+c)) ?_ ?_
 ·refine WX.br (fun hg=> ?_) (fun hg=> ?_)<;>simp only[DB]at hg<;>refine go ?_
  ·refine zE ⟨rfl,2 * r+1+1,sl_,by omega,by omega,fun d hd=> ?_⟩;obtain⟨_,a2,_⟩:=hd;have e1:first+(2 * r+1)+1=first+(2 * r+1+1):=by omega
   rw[e1]at hg;rcases a2 with rfl|rfl
   ·omega
   ·have:first+(2 * r+2)=first+(2 * r+1+1):=by omega
    rw[this];exact Qi _
  ·refine zE ⟨rfl,2 * r+1,sl_,by omega,by omega,fun d hd=> ?_⟩;obtain⟨_,a2,a3⟩:=hd;rcases a2 with rfl|rfl
   ·exact Qi _
   ·have e1:first+(2 * r+1)+1=first+(2 * r+2):=by omega
    rw[e1]at hg;exact Int.not_lt.1 fun hh=>hg ⟨by omega,hh⟩
 clear hcut;rintro t7 _ hs7 ⟨rfl,c,q7,hc,hc2,hmax⟩;refine go ?_;refine WX.regionU2 0 rfl rfl ?_;have srX:SlI (inC (zC 0 h4)) v ws:=(s4.own).sl;refine goU ?_;refine WO.con (ZN _ (atI ws (first+r)) (atI ws (first+c))) ?_;rintro _ _ ⟨rfl,rfl⟩;refine nQ ?_;refine goU ?_;rw[zAb];refine WX.br (fun hg=> ?_) (fun hg=> ?_)<;>simp only[DB]at hg
 ·refine gr ?_;refine⟨ws,s4,fun k d hk=> ?_⟩;by_cases e:k=r
  ·subst e;have:=hmax d hk;omega
  ·exact i1 k d hk e
 refine go ?_;refine WX.regionU2 0 rfl rfl ?_;have srX:SlI (inC (zC 0 h4)) v ws:=(s4.own).sl;refine goU ?_;refine WU2.swA (first+r) (first+c) (s4).own (s4).ext (by rw[(s4).ext.mark];exact hmB) ?_;intro h3 e3 o3 u3;have s3:=s4.swp e3 o3 u3 (by omega) hb (by omega) (by omega);refine go ?_;have hat:∀ k,0<=k->atI (swp ws (first+r) (first+c)) (first+k)=if k=c then atI ws (first+r) else if k=r then atI ws (first+c) else atI ws (first+k):=by
  intro k hk;rw[yU (by omega) (by omega) (by omega)];have e1:(first+k=first+c)↔k=c:=by omega
  have e2:(first+k=first+r)↔k=r:=by omega
  simp only[e1,e2]
 refine zA (swp ws (first+r) (first+c),c) (by simp only;omega) ⟨s3,sl_,by simp only;omega,fun k d hk hne=> ?_,fun k d hk hd=> ?_⟩
 ·simp only at hne |-;have hk':=hk;obtain⟨a1,a2,a3⟩:=hk';rw[hat d (by omega),hat k (by omega),QD hne];by_cases e:k=r
  ·rw[QI e];subst e;by_cases e2:d=c
   ·rw[QI e2];omega
   ·rw[QD e2,QD (by omega)];exact hmax d hk
  ·rw[QD e,QD (by omega:¬d=c)];by_cases e2:d=r
   ·rw[QI e2];subst e2;exact i2 k c hk ⟨hr.1,hc,hc2⟩
   ·rw[QD e2];exact i1 k d hk e
 ·simp only at hk hd |-;obtain⟨a1,a2,a3⟩:=hk;have ek:k=r:=by omega
  have hd':=hd;obtain⟨b1,b2,b3⟩:=hd';rw[hat d (by omega),hat k (by omega),QD (by omega),QD (by omega),QD (by omega),QI ek];exact i1 c d hd (by omega)
def zMM:ACode:=(oV (oV (oR [oM 18 9,oC .geq 19 18 0]) (oT 19 0)) (oV (o5 1 (oR [oM 22 0,oM 23 9,oM 24 8,oM 25 6,o4 26 231 22 23 24 25])) (oR [oM 20 9,oC .sub 21 20 1,oM 9 21])))
def zLy:ACode:=(oV (oV (oR [oM 29 10,oC .geq 30 29 0]) (oT 30 2)) (oV (o5 3 (oV (o6 [oM 33 0,oM 34 6,oM 35 0,oM 36 6,oM 37 10,oB .add 38 36 37,oM 39 0,oM 40 6,oM 41 10,oB .add 42 40 41,oI 1 43 39 42,oL 44 43,oM 45 0,oM 46 6,oI 1 47 45 46,oL 48 47,oI 1 49 33 34,oS 1 49 44,oI 1 50 35 38,oS 1 50 48]) (oR [oM 51 0,oM 52 7,oM 53 10,oM 54 6,o4 55 231 51 52 53 54]))) (oR [oM 31 10,oC .sub 32 31 1,oM 10 32])))
def zSL:ACode:=(oV (oR [oM 11 1,oM 6 11]) (oV (oR [oN 7 0]) (oV (oR [oM 12 2,oM 13 1,oB .sub 14 12 13,oM 8 14]) (oV (oV (oR [oM 15 8,oC .sub 16 15 1,oC .quo 17 16 2,oM 9 17]) (o5 0 (.loop zMM))) (oV (oR [oM 27 8,oC .sub 28 27 1,oM 10 28]) (o5 2 (.loop zLy)))))))
theorem zQ7 (hB h:AHeap) (v:Value) (xs:List Int) (a b:Int) (e0:Ext hB h) (hmB:hB.mark<=hB.n) (o:OwnI hB h v xs) (h0:0<=a) (hab:a<=b) (hb:b<=xs.length) (hlen:xs.length<=1000000000):
  WC Tryz.prog tb 216 [v,I a,I b] h fun r h'=>∃ ys,SS hB h v a b xs ys h'/\Srt a b ys:=by
 have s0:=SS.start a b o e0;refine en 56 [] zSL ?_;have hq:(b - a - 1).tdiv 2<=b - a/\0<=(b - a - 1).tdiv 2/\b - a - 2<=2 * (b - a - 1).tdiv 2:=by
  by_cases e:b - a=0
  ·rw[e];decide
  ·rw[Gw (by omega)];omega
 refine go ?_;refine WO.quo (a:=b - a - 1) (c:=2) (by decide) (by omega) (by omega) ?_;refine go ?_;refine WX.loopA [18,19,22,23,24,25,26,20,21,9] (by kernel_rfl) (fun x=>(x.2+1).toNat) (fun (x:List Int×Int) t h4=>SS hB h v a b xs x.1 h4/\zB t 9=I x.2/\(-1<=x.2/\x.2<=b - a)/\zF6 a (x.2+1) (b - a) x.1) (xs,(b - a - 1).tdiv 2) ?_ ?_
 ·refine⟨s0,sl_,by simp only;omega,fun k c hk=> ?_⟩;obtain⟨a1,a2,a3⟩:=hk;simp only at a1;omega
 rintro⟨ws,i⟩ t h4 hsame ⟨s4,s9,hi,hh⟩;simp only at s4 s9 hi hh;have hl4:=s4.len;refine go ?_;refine WX.br (fun he=> ?_) (fun he=> ?_)<;>simp only[DB]at he
 ·refine go ?_;refine WO.con (zKz hB h4 v ws i (b - a) a s4.ext hmB s4.own (by omega) (by omega) h0 (by omega) (by omega) hh) ?_;rintro _ h5 ⟨ys,s5,hh5⟩;refine go ?_;exact zA (ys,i - 1) (by simp only;omega) ⟨s4.call s5 (by omega) (by omega),sl_,by simp only;omega,by simp only;rw[show i - 1+1=i by omega];exact hh5⟩
 have hi1:i= -1:=by omega
 subst hi1;refine go ?_;have hh0:zF6 a 0 (b - a - 1+1) ws:=by rw[show b - a - 1+1=b - a by omega];exact hh
 clear hh s9 he hi;refine WX.loopA [29,30,33,34,35,36,37,38,39,40,41,42,43,44,45,46,47,48,49,50,51,52,53,54,55,31,32,10] (by kernel_rfl) (fun x=>(x.2+1).toNat) (fun (x:List Int×Int) t h5=>SS hB h v a b xs x.1 h5/\zB t 10=I x.2/\(-1<=x.2/\x.2<=b - a - 1)/\zF6 a 0 (x.2+1) x.1/\Srt (a+x.2+1) b x.1/\∀ p q,a<=p->p<=a+x.2->a+x.2<q->q<b->atI x.1 p<=atI x.1 q) (ws,b - a - 1) ?_ ?_
 ·exact⟨s4,sl_,by simp only;omega,hh0,Srt.small (by simp only;omega),fun p q h1 h2 h3 h4=>by simp only at h3;omega⟩
 clear hh0 s4 hl4;rintro⟨zs,i⟩ t h4 hsame ⟨s4,s10,hi,hh,hs,hl⟩;simp only at s4 s10 hi hh hs hl;have hl4:=s4.len;refine go ?_;refine WX.br (fun he=> ?_) (fun he=> ?_)<;>simp only[DB]at he
 ·refine go ?_;refine WX.regionU2 0 rfl rfl ?_;have srX:SlI (inC (zC 0 h4)) v zs:=(s4.own).sl;refine goU ?_;refine WU2.swA (a) (a+i) (s4).own (s4).ext (by rw[(s4).ext.mark];exact hmB) ?_;intro h3 e3 o3 u3;have s3:=s4.swp e3 o3 u3 (by omega) hb (by omega) (by omega);have hat:∀ k,0<=k->atI (swp zs a (a+i)) (a+k)=if k=i then atI zs (a+0) else if k=0 then atI zs (a+i) else atI zs (a+k):=by
   intro k hk;rw[yU (by omega) (by omega) (by omega)];have e1:(a+k=a+i)↔k=i:=by omega
   have e2:(a+k=a)↔k=0:=by omega
   have e3:a+0=a:=by omega
   simp only[e1,e2,e3]
  have hmax:∀ k,0<=k->k<=i->atI zs (a+k)<=atI zs (a+0):=fun k h1 h2=>zPs hh k.toNat k (by omega) (by omega);refine go ?_;refine WO.con (zKz hB h3 v _ 0 i a s3.ext hmB s3.own (by omega) (by omega) h0 (by rw[s3.len];omega) (by rw[s3.len];omega) (fun k c hk=> ?_)) ?_
  ·obtain⟨a1,a2,a3⟩:=hk;rw[hat c (by omega),hat k (by omega),QD (by omega),QD (by omega),QD (by omega),QD (by omega)];exact hh k c ⟨by omega,a2,by omega⟩
  rintro _ h5 ⟨ys,s5,hh5⟩;have p5:=s5.pi;have out:∀ k,i<=k->atI ys (a+k)=atI (swp zs a (a+i)) (a+k):=fun k hk=>p5.out _ (by omega) (.inr (by omega));have low:∀ k,a+0<=k->k<a+i->atI ys k<=atI zs (a+0):=p5.all (p:=fun x=>x<=atI zs (a+0)) (by omega) (by rw[s3.len];omega) (fun k h1 h2=>by
   have:=hat (k - a) (by omega);rw[show a+(k - a)=k by omega]at this;rw[this,QD (by omega)];by_cases e:k - a=0
   ·rw[QI e];exact hmax i (by omega) (by omega)
   ·rw[QD e];have:=hmax (k - a) (by omega) (by omega);rw[show a+(k - a)=k by omega]at this;exact this)
  have top:atI ys (a+i)=atI zs (a+0):=by rw[out i (Qi _),hat i (by omega),QI rfl]
  have rest:∀ k,a+i<k->atI ys k=atI zs k:=fun k hk=>by
   have h1:=out (k - a) (by omega);rw[hat (k - a) (by omega),QD (by omega),QD (by omega),show a+(k - a)=k by omega]at h1;exact h1
  refine go ?_;refine zA (ys,i - 1) (by simp only;omega) ⟨s3.call s5 (by omega) (by omega),sl_,by simp only;omega,by simp only;rw[show i - 1+1=i by omega];exact hh5,fun p q h1 h2 h3=> ?_,fun p q h1 h2 h3 h4=> ?_⟩
  ·simp only at h1 |-;by_cases ep:p=a+i
   ·by_cases eq:q=a+i
    ·rw[ep,eq];exact Qi _
    ·rw[ep,top,rest q (by omega)];exact hl (a+0) q (by omega) (by omega) (by omega) h3
   ·rw[rest p (by omega),rest q (by omega)];exact hs p q (by omega) h2 h3
  ·simp only at h2 h3 |-;have hp:=low p (by omega) (by omega);by_cases eq:q=a+i
   ·rw[eq,top];exact hp
   ·rw[rest q (by omega)];have:=hl (a+0) q (by omega) (by omega) (by omega) h4;omega
 ·refine go ?_;refine rtN ?_;have hi1:i= -1:=by omega
  subst hi1;exact⟨zs,s4,fun p q h1 h2 h3=>hs p q (by omega) h2 h3⟩
end
end Go.Proofs.YteekipjpghikkaaGreatDoor
