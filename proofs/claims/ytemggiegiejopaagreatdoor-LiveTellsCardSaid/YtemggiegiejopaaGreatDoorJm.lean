/- What functions of the program come to in the abstract machine, and plain laws about it; no statement of the seat is proved in this text. -/
import Derived.Test.YtemggiegiejopaaGreatDoorJl
import Derived.Test.YtemggiegiejopaaGreatDoorJk
import Derived.Test.YtemggiegiejopaaGreatDoorJk
import Derived.Test.YtemggiegiejopaaGreatDoorJi
import Derived.Test.YtemggiegiejopaaGreatDoorJc
set_option linter.unusedVariables false
set_option linter.unusedSimpArgs false
set_option maxHeartbeats 1000000
set_option maxRecDepth 100000
namespace Go.Proofs.YtemggiegiejopaaGreatDoor
noncomputable section
open Go.Am
def FarB (h:AHeap) (X:Nat) (v:Value) (s:List Bool):Prop:=SlBo h v s∧(∀ a n k,v= .slice (some a) n k→X≤a.block)∧zL [v]=true
theorem FarB.keep {h h':AHeap} {X:Nat} {v:Value} {s:List Bool} (F:FarB h X v s) (hk:∀ k,X≤k→k<h.n→h'.get k=h.get k) (hn:h.n≤h'.n):FarB h' X v s:=by
 obtain⟨⟨cells,⟨h1,h2⟩,hR⟩,hf,ho⟩:=F;refine⟨⟨cells,⟨h1,h2.imp id ?_⟩,fun i a ha=>hR i a ha⟩,hf,ho⟩;rintro⟨g,off,row,rfl,hr,hc,hg⟩;have:=hf _ _ _ rfl;refine⟨g,off,row,rfl,?_,hc,Nat.lt_of_lt_of_le hg hn⟩;unfold yA at hr ⊢;rw[hk g this hg];exact hr
theorem FarB.nil {h:AHeap} {X:Nat}:FarB h X (.slice none 0 0) []:=⟨SlR.nil,(fun a n k e=>by cases e),rfl⟩
theorem zCO {h h':AHeap} {X:Nat} {v:Value} {s:List Bool} (o:OwnBo h h' v s) (hX:X≤h.n):FarB h' X v s:=by
 refine⟨o.sl,fun a n k e=> ?_,?_⟩
 ·obtain⟨g,g1,_,e2,_⟩:=o;rw[e2]at e;cases e;show X≤g;omega
 ·obtain⟨g,g1,_,e2,_⟩:=o;rw[e2];rfl
def RowB (h:AHeap) (X g:Nat) (S:List (List Bool)):Prop:=∃ vs:List Value,h.get g=some (.row vs true 0)∧vs.length=S.length∧∀ i,i<S.length→FarB h X (vs.getD i undef) (S.getD i [])
theorem RowB.keep {h h':AHeap} {X g:Nat} {S:List (List Bool)} (r:RowB h X g S) (hg:h'.get g=h.get g) (hk:∀ k,X≤k→k<h.n→h'.get k=h.get k) (hn:h.n≤h'.n):RowB h' X g S:=by
 obtain⟨vs,a,b,c⟩:=r;exact⟨vs,hg.trans a,b,fun i hi=>(c i hi).keep hk hn⟩
theorem RowB.ext {h h':AHeap} {X g:Nat} {S:List (List Bool)} (r:RowB h X g S) (hg:g<h.n) (e:Ext h h'):RowB h' X g S:=r.keep (e.get g hg) (fun k _ hk=>e.get k hk) e.n
theorem RowB.sl {h:AHeap} {X g:Nat} {S:List (List Bool)} (r:RowB h X g S) (hg:g<h.n):SlBs h (.slice (some ⟨g,0,none⟩) S.length 1) S:=by
 obtain⟨vs,a,b,c⟩:=r;refine⟨vs,SlC.own (own:=true) (lo:=0) hg a (by omega),fun i s hs=> ?_⟩;have hi:=(List.getElem?_eq_some_iff.1 hs).1;refine⟨vs.getD i undef,?_,?_⟩
 ·rw[Nat.mul_one,List.drop_eq_getElem_cons (by omega),List.take_succ_cons,List.take_zero,List.getD_eq_getElem?_getD,List.getElem?_eq_getElem (by omega)];rfl
 ·have:=(c i hi).1;rwa [List.getD_eq_getElem?_getD (l:=S),hs]at this
theorem Y3 {α:Type} {l:List α} {i j:Nat} {a d:α} (h:i<l.length):(l.set i a).getD j d=if j=i then a else l.getD j d:=by
 rw[List.getD_eq_getElem?_getD,List.getD_eq_getElem?_getD];by_cases e:j=i
 ·subst e;rw[if_pos rfl,List.getElem?_set_self h];rfl
 ·rw[if_neg e,List.getElem?_set_ne (fun x=>e x.symm)]
theorem RowB.set {h h':AHeap} {X g i:Nat} {S:List (List Bool)} {v:Value} {s:List Bool} {vs:List Value} (r1:h.get g=some (.row vs true 0)) (r2:vs.length=S.length) (r3:∀ i,i<S.length→FarB h X (vs.getD i undef) (S.getD i [])) (hi:i<S.length) (F:FarB h X v s) (hg:h'.get g=some (.row (zR vs i [v]) true 0)) (hk:∀ k,k≠g→h'.get k=h.get k) (hn:h'.n=h.n) (hX:g<X):RowB h' X g (S.set i s):=by
 have hkk:∀ k,X≤k→k<h.n→h'.get k=h.get k:=fun k h1 _=>hk k (by omega);refine⟨vs.set i v,by rw[hg,zHf (by omega)],by rw[List.length_set,List.length_set];exact r2,fun j hj=> ?_⟩;rw[List.length_set]at hj;rw[Y3 (by omega),Y3 hi];split
 ·exact F.keep hkk (Nat.le_of_eq hn.symm)
 ·exact(r3 j hj).keep hkk (Nat.le_of_eq hn.symm)
section
variable {P:Program} {tab:Tab} {t:Trie Value} {ds:List Deferred} {rd:Option Nat} {l:List AOper} {Q:AFr→AHeap→Prop} {h:AHeap}
theorem WO.stRowB {hB:AHeap} {X g i n:Nat} {S:List (List Bool)} {s:List Bool} {x y:Operand} {v:Value} (r:RowB h X g S) (e0:Ext hB h) (hg:hB.n≤g∧g<X) (hX:X≤h.n) (hi:i<S.length) (F:FarB h X v s) (hv:v.cells=#[v])
  (k:∀ h',Ext hB h'→RowB h' X g (S.set i s)→h'.n=h.n→(∀ k,k≠g→h'.get k=h.get k)→WO P tab l ⟨t,ds,rd⟩ h' Q)
  (hx:Ope t x (zi (.slice (some ⟨g,0,none⟩) n 1) (i * 1)):=by exact zV) (hy:Ope t y v:=by exact zV):
  WO P tab (⟨none,none,.store 1 x y⟩::l) ⟨t,ds,rd⟩ h Q:=by
 obtain⟨vs,r1,r2,r3⟩:=r;rw[show zi (.slice (some ⟨g,0,none⟩) n 1) (i * 1)= .pointer (some ⟨g,i,none⟩) by show Value.pointer (some ⟨g,0+i * 1,none⟩)=_;rw[Nat.zero_add,Nat.mul_one]]at hx;refine WO.st1 (cs:=[v]) r1 (by simp;omega) hx hy hv rfl F.2.2 ?_;exact k _ (e0.set hg.1 (Nat.lt_of_lt_of_le hg.2 hX) _) (RowB.set r1 r2 r3 hi F (by rw[zP,if_pos rfl]) (fun k hk=>by rw[zP,if_neg hk]) rfl hg.2) rfl (fun k hk=>by rw[zP,if_neg hk])
end
theorem RowB.start {h:AHeap} {X g n:Nat} (r:h.get g=some (.row (zu [.slice none 0 0] n) true 0)):RowB h X g (List.replicate n []):=by
 rw[zDh]at r;refine⟨_,r,by simp,fun i hi=> ?_⟩;rw[List.length_replicate]at hi;rw[List.getD_eq_getElem?_getD,List.getD_eq_getElem?_getD,List.getElem?_replicate,List.getElem?_replicate,if_pos hi,if_pos hi];exact FarB.nil
structure RwS (hB h:AHeap) (X gb ge n:Nat) (Bg Ed:List (List Bool)):Prop where
 e:Ext hB h
 x:X≤h.n
 b:RowB h X gb Bg
 d:RowB h X ge Ed
 lb:Bg.length=n
 le:Ed.length=n
theorem RwS.ext {hB h h':AHeap} {X gb ge n:Nat} {Bg Ed:List (List Bool)} (r:RwS hB h X gb ge n Bg Ed) (e:Ext h h') (h1:gb<X) (h2:ge<X):RwS hB h' X gb ge n Bg Ed:=
 ⟨r.e.trans e,Nat.le_trans r.x e.n,r.b.ext (Nat.lt_of_lt_of_le h1 r.x) e,r.d.ext (Nat.lt_of_lt_of_le h2 r.x) e,r.lb,r.le⟩
def body22_0:ACode:=(.seq (.seq (oR [oM 23 8,oM 24 5,oB .lss 25 23 24]) (oT 25 0)) (.seq (.block 1 (oR [oM 28 6,oM 29 8,oA 2 30 2,oM 31 1,o2 32 38 30 31,⟨some 33,none,(.mkSlice 1 [(.bool false)] (.tmp 32) (.tmp 32))⟩,oI 1 34 28 29,oS 1 34 33])) (oR [oM 26 8,oC .add 27 26 1,oM 8 27])))
def body22_1:ACode:=(.seq (.seq (oR [oM 40 10,oM 41 5,oB .lss 42 40 41]) (oT 42 4)) (.seq (.block 5 (oR [oM 45 7,oM 46 10,oA 2 47 2,oM 48 1,oM 49 10,oM 50 6,o4 51 39 47 48 49 50,oI 1 52 45 46,oS 1 52 51])) (oR [oM 43 10,oC .add 44 43 1,oM 10 44])))
def body22_2:ACode:=(.seq (.seq (oR [oM 53 11,oM 54 5,oB .lss 55 53 54]) (oT 55 6)) (.seq (.block 7 (.regionC [oU (oM 58 6),oU (oM 59 11),oU (oA 2 60 2),oU (oM 61 1),oU (oM 62 11),oU (oM 63 7),oU (oM 64 11),oU (oI 1 65 63 64),oU (oL 66 65),oU (⟨some 67,none,(.call (.func 21) [(.tmp 60),(.tmp 61),(.tmp 62),(.const (.int .i64 0)),(.tmp 66)])⟩),oU (oI 1 68 58 59),oU (oS 1 68 67)])) (oR [oM 56 11,oC .add 57 56 1,oM 11 57])))
def body22_3:ACode:=(.seq (.seq (oR [oM 35 9,oM 36 5,oB .leq 37 35 36]) (oT 37 2)) (.seq (.block 3 (.seq (.seq (oR [oN 10 0]) (.block 4 (.loop body22_1))) (.seq (oR [oN 11 0]) (.block 6 (.loop body22_2))))) (oR [oM 38 9,oC .add 39 38 1,oM 9 39])))
def body22:ACode:=(.seq (oR [oX 2 0,oK 4 (.slice none 0 0)]) (.seq (oR [oF 1 12 2,oL 13 12,oM 14 1,oI 2 15 13 14,oF 1 16 15,oL 17 16,oQ 18 17,oM 5 18]) (.seq (oR [oM 19 5,⟨some 20,none,(.mkSlice 1 [(.slice none 0 0)] (.tmp 19) (.tmp 19))⟩,oM 6 20]) (.seq (oR [oM 21 5,⟨some 22,none,(.mkSlice 1 [(.slice none 0 0)] (.tmp 21) (.tmp 21))⟩,oM 7 22]) (.seq (.seq (oR [oN 8 0]) (.block 0 (.loop body22_0))) (.seq (.seq (oR [oN 9 0]) (.block 2 (.loop body22_3))) (.seq (oR [oM 69 7,oM 4 69]) .ret)))))))
theorem tab22:tb.code 22=some ⟨70,[(4,none)],body22⟩:=by kernel_rfl
theorem zFw (h:AHeap) (vt vf:Value) (T:List LType) (F:List LFn) (f:Int) (L:List LBlk) (par:Int) (E:En h vt vf T F) (O:FnOk T F f L par) (U:∀ b∈L,BlkU b (zd par L) L.length):
  WC Tryz.prog tb 22 [.agg #[vt,vf],I f] h fun r h'=>(∃ Es,SlBs h' r Es∧Es.length=L.length∧∀ b,0≤b∧b<(L.length:Int)→((Es.getD b.toNat []).length:Int)=zd par L∧∀ r,0≤r→(bB Es b r↔LE par L b r))∧Ext h h':=by
 have O':=O;obtain⟨f0,f1,hp,hask,hL,p0,p1,hlen,hmany,hins,hfn⟩:=O;have hN:zd par L≤300:=by unfold zd;omega
 have hmp:=yQ L;have hN0:0≤zd par L:=by unfold zd;omega
 have hsig:=zFN (show (zq T F f).2=0 by rw[hask]);have hcnt:=fun h E=>zCK h vt vf T F f E ⟨f0,f1⟩ hsig;have hpar:par=((T.getD (F.getD f.toNat default).sig.toNat default).parts.length:Int):=by
  have:=(Y5 (show (zq T F f).2=0 by rw[hask])).2.2.2;rw[hask]at this;exact congrArg Prod.fst this
 rw[←hpar,←hL,show par+zo L=zd par L from rfl]at hcnt;obtain⟨ta,tn,tk,rfl⟩:=zD E.st;obtain⟨ga,gn,gk,rfl⟩:=zD E.sf;obtain⟨csF,⟨vb,rfl,sb,hlb⟩,pF,hsF⟩:=zh (i:=f.toNat) E.sf (by omega);rw[←hL]at sb hlb;obtain⟨ba,bn,bk,rfl⟩:=zD sb;obtain⟨N,hNN⟩:∃ N:Nat,zd par L=(N:Int):=⟨(zd par L).toNat,by omega⟩;rw[hNN]at hcnt;have hcnt:=Hid.mk hcnt;have hnext:∀ c,0≤c→c<(L.length:Int)→∀ k∈nxL L c,0≤k∧k<(L.length:Int):=fun c h0 h1=>(U _ (zI (l:=L) (i:=c.toNat) (by omega))).next;refine WC.of (zE 22) tab22 ?_;simp only[zK,Nat.zero_add,Nat.reduceAdd];refine go ?_;refine WO.bx ?_;intro p h1 e1 o1;have hp1:=zCR o1;have sb1:=SlB.ext sb e1;have pcF:=(pF h1 e1).1;have sf1:=(E.ext e1).sf;refine go ?_;refine WO.mkS (n:=L.length) (by omega) ?_;intro h2 e2 n2 g2;refine go ?_;refine WO.mkS (n:=L.length) (by omega) ?_;intro h3 e3 n3 g3;have o13:=o1.ext (e2.trans e3);have hX:h3.n=h1.n+2:=by omega
 have n1:=e1.n;have R0:RwS h1 h3 h3.n h1.n h2.n L.length (List.replicate L.length []) (List.replicate L.length []):=⟨e2.trans e3,Nat.le_refl _,RowB.start ((e3.get _ (by omega)).trans g2),RowB.start g3,by simp,by simp⟩;have hgb:h1.n<h3.n:=by omega
 have hge:h2.n<h3.n:=by omega
 have hgb1:h1.n≤h1.n∧h1.n<h3.n:=by omega
 have hge1:h1.n≤h2.n∧h2.n<h3.n:=by omega
 have hne:h1.n≠h2.n:=by omega
 clear e2 e3 n2 n3 g2 g3 sf1 sb1 pcF o13 hp1;obtain⟨gb,hgbe⟩:∃ g,g=h1.n:=⟨_,rfl⟩;obtain⟨ge,hgee⟩:∃ g,g=h2.n:=⟨_,rfl⟩;obtain⟨X,hXe⟩:∃ g,g=h3.n:=⟨_,rfl⟩;rw[←hgee]at hge hge1 hne R0 ⊢;rw[←hXe]at hgb hge hgb1 hge1 R0 hX;have hgb1:h1.n≤gb∧gb<X:=by omega
 rw[←hgbe]at hne R0 hgb ⊢;have hBk0:∀ b r,¬BkL par L 0 b r:=fun _ _ h=>h;refine go ?_;refine WX.loopA [23,24,25,28,29,30,31,32,33,34,26,27,8] (by kernel_rfl) (fun i=>L.length - i) (fun i t ht=>zC t 8=I i∧i≤L.length∧∃ Bg Ed,RwS h1 ht X gb ge L.length Bg Ed∧Hid (∀ j,j<i→(Bg.getD j []).length=N∧∀ r,¬bT (Bg.getD j []) r)) 0 ?_ ?_
 ·exact⟨sl_,Nat.zero_le _,_,_,R0,⟨fun j hj=>absurd hj (Nat.not_lt_zero _)⟩⟩
 ·rintro i t ht hsame ⟨s8,hi,Bg,Ed,Rr,hI⟩;have o1t:=o1.ext Rr.e;have Et:=E.ext (e1.trans Rr.e);refine go ?_;refine WX.br (fun hc=> ?_) (fun hc=> ?_)<;>simp only[DB]at hc
  ·refine go ?_;refine WO.con (hcnt.out ht Et) ?_;rintro _ h4 ⟨rfl,e4⟩;have Rr:=Rr.ext e4 hgb hge;refine go ?_;refine WO.mkBo (n:=N) (by omega) ?_;intro v5 h5 e5 o5;have R5:=Rr.ext e5 hgb hge;have F5:FarB h5 X v5 _:=zCO o5 Rr.x;obtain⟨xa,xn,xk,rfl⟩:∃ a n k,v5= .slice a n k:=by obtain⟨g,_,_,e,_⟩:=o5;exact⟨_,_,_,e⟩
   have hlb:=R5.lb;have sbg:=R5.b.sl (Nat.lt_of_lt_of_le hgb R5.x);rw[hlb]at sbg;refine go ?_;refine WO.stRowB (i:=i) R5.b R5.e hgb1 R5.x (by omega) F5 rfl ?_;intro h6 e6 b6 n6 k6;have hx5:=R5.x;refine go ?_;refine zA (i+1) (by omega) ⟨sln,by omega,_,Ed,⟨e6,by omega,b6,R5.d.keep (k6 ge (fun e=>hne e.symm)) (fun k hk1 _=>k6 k (by omega)) (by omega),by rw[List.length_set];exact hlb,R5.le⟩,⟨fun j hj=> ?_⟩⟩;rw[Y3 (by omega)];split
   ·exact⟨by simp,fun r h=>by
     unfold bT bO at h;rw[List.getD_eq_getElem?_getD,List.getElem?_replicate]at h;split at h<;>cases h⟩
   ·exact hI.out j (by omega)
  ·have hii:i=L.length:=by omega
   subst hii;have hI:Hid (∀ b,0≤b∧b<(L.length:Int)→(Bg.getD b.toNat []).length=N∧∀ r,0≤r→(bB Bg b r↔BkL par L 0 b r)):=⟨fun b hb=>by
    have h:=hI.out b.toNat (by omega);exact⟨h.1,fun r _=>⟨fun h2=>absurd h2 (h.2 r),fun h2=>absurd h2 (hBk0 b r)⟩⟩⟩
   refine go ?_;refine WX.loopA [35,36,37,10,40,41,42,45,46,47,48,49,50,51,52,43,44,10,11,53,54,55,58,59,60,61,62,63,64,65,66,67,68,56,57,11,38,39,9] (by kernel_rfl) (fun n=>L.length+1 - n) (fun n t ht=>zC t 9=I n∧n≤L.length+1∧∃ Bg Ed,RwS h1 ht X gb ge L.length Bg Ed∧Hid (∀ b,0≤b∧b<(L.length:Int)→(Bg.getD b.toNat []).length=N∧∀ r,0≤r→(bB Bg b r↔BkL par L n b r))∧(n≠0→Hid (∀ b,0≤b∧b<(L.length:Int)→(Ed.getD b.toNat []).length=N∧∀ r,0≤r→(bB Ed b r↔ZQ L (BkL par L (n - 1)) b r)))) 0 ?_ ?_
   ·exact⟨sl_,Nat.zero_le _,Bg,Ed,Rr,hI,fun h=>absurd rfl h⟩
   clear hI o1t Et s8 hi hc;clear Rr;rintro n t2 ht hsame2 ⟨s9,hn,Bg,Ed,Rr,hB,hE⟩;have o1t:=o1.ext Rr.e;refine go ?_;refine WX.br (fun hc=> ?_) (fun hc=> ?_)<;>simp only[DB]at hc;case refine_2=>
    have hnn:n=L.length+1:=by omega
    subst hnn;refine go ?_;refine rt ?_;have:=Rr.d.sl (Nat.lt_of_lt_of_le hge Rr.x);rw[Rr.le]at this;refine⟨⟨Ed,this,Rr.le,fun b hb=> ?_⟩,e1.trans Rr.e⟩;have hh:=(hE (by omega)).out b hb;refine⟨by rw[hh.1,hNN],fun r hr=>(hh.2 r hr).trans ?_⟩;exact ek_is hnext hb.1 hb.2
   refine go ?_;refine WX.loopA [40,41,42,45,46,47,48,49,50,51,52,43,44,10] (by kernel_rfl) (fun i=>L.length - i) (fun i t ht=>zC t 10=I i∧i≤L.length∧∃ Ed,RwS h1 ht X gb ge L.length Bg Ed∧Hid (∀ b,0≤b∧b<(i:Int)→(Ed.getD b.toNat []).length=N∧∀ r,0≤r→(bB Ed b r↔ZQ L (BkL par L n) b r))) 0 ?_ ?_
   ·exact⟨sl_,Nat.zero_le _,Ed,Rr,⟨fun b hb=>by omega⟩⟩
   ·clear hE o1t;clear Rr;rintro i t3 ht hsame3 ⟨s10,hi,Ed,Rr,hE⟩;have o1t:=o1.ext Rr.e;have Et:=E.ext (e1.trans Rr.e);refine go ?_;refine WX.br (fun hc2=> ?_) (fun hc2=> ?_)<;>simp only[DB]at hc2
    ·have sbg:=Rr.b.sl (Nat.lt_of_lt_of_le hgb Rr.x);rw[Rr.lb]at sbg;refine go ?_;refine WO.con (zIQ ht _ _ _ T F f L par Et O' U i Bg ⟨by omega,by omega⟩ sbg Rr.lb (fun j hj=>by have:=(hB.out j ⟨by omega,by have:=Rr.lb;omega⟩).1;rw[Int.toNat_natCast]at this;rw[this,hNN])) ?_;rintro v5 h5 ⟨⟨cs,oc,lc,hW⟩,e5⟩;have R5:=Rr.ext e5 hgb hge;have F5:=zCO oc Rr.x;obtain⟨xa,xn,xk,rfl⟩:∃ a n k,v5= .slice a n k:=by obtain⟨g,_,_,e,_⟩:=oc;exact⟨_,_,_,e⟩
     have sed:=R5.d.sl (Nat.lt_of_lt_of_le hge R5.x);have hle:=R5.le;rw[hle]at sed;refine go ?_;refine WO.stRowB (i:=i) R5.d R5.e hge1 R5.x (by omega) F5 rfl ?_;intro h6 e6 d6 n6 k6;have hx5:=R5.x;refine go ?_;refine zA (i+1) (by omega) ⟨sln,by omega,_,⟨e6,by omega,R5.b.keep (k6 gb hne) (fun k hk1 _=>k6 k (by omega)) (by omega),d6,R5.lb,by rw[List.length_set];exact hle⟩,⟨fun b hb=> ?_⟩⟩;have hbx:=fun b (hb:0≤b∧b<(L.length:Int)) r (hr:0≤r)=>(hB.out b hb).2 r hr;unfold bB;rw[Y3 (by omega)];split
     ·rename_i e;have hbi:b=(i:Int):=by omega
      subst hbi;exact⟨by omega,fun r hr=>(hW r hr).trans (zGh fun k hk=>hbx k (hnext _ (by omega) (by omega) k hk) r hr)⟩
     ·exact hE.out b (by omega)
    ·have hii:i=L.length:=by omega
     subst hii;refine go ?_;refine WX.loopA [53,54,55,58,59,60,61,62,63,64,65,66,67,68,56,57,11] (by kernel_rfl) (fun i=>L.length - i) (fun i t ht=>zC t 11=I i∧i≤L.length∧∃ Bg,RwS h1 ht X gb ge L.length Bg Ed∧Hid (∀ b,0≤b∧b<(i:Int)→(Bg.getD b.toNat []).length=N∧∀ r,0≤r→(bB Bg b r↔BkL par L (n+1) b r))) 0 ?_ ?_
     ·exact⟨sl_,Nat.zero_le _,Bg,Rr,⟨fun b hb=>by omega⟩⟩
     clear hB o1t Et hc2;clear Rr;rintro i t4 ht hsame4 ⟨s11,hi,Bg,Rr,hB⟩;have o1t:=o1.ext Rr.e;have Et:=E.ext (e1.trans Rr.e);refine go ?_;refine WX.br (fun hc2=> ?_) (fun hc2=> ?_)<;>simp only[DB]at hc2;case refine_2=>
      have hii:i=L.length:=by omega
      subst hii;refine go ?_;exact zA (n+1) (by omega) ⟨sln,by omega,Bg,Ed,Rr,hB,fun _=>hE⟩
     have hEi:=hE.out i ⟨by omega,by omega⟩;have hle:=Rr.le;have hlb:=Rr.lb;have sed:=Rr.d.sl (Nat.lt_of_lt_of_le hge Rr.x);rw[hle]at sed;obtain⟨_,⟨ve,rfl,sve⟩,pe,hse⟩:=zh (i:=i) sed (by omega);have pe:=(pe ht (Ext.refl _)).2;obtain⟨y1,y2,y3,rfl⟩:=zD sve;rw[Int.toNat_natCast]at hEi;refine go ?_;refine WX.regionU2 0 rfl rfl ?_;have o1X:OwnC h (inC (zB 0 ht)) p [.slice ta tn tk,.slice ga gn gk]:=o1t;have sedX:SlBs (inC (zB 0 ht)) (.slice (some ⟨ge,0,none⟩) L.length 1) Ed:=sed;have peX:Piece (inC (zB 0 ht)) (.slice (some ⟨ge,0,none⟩) L.length 1) (i * 1) [.slice y1 y2 y3]:=pe;have hL0:=zEJ (inC (zB 0 ht)) _ _ (.slice y1 y2 y3) T F f L par Et.inC O' U i 0 (Ed.getD i []) ⟨by omega,by omega⟩ (Nat.zero_le _) sve (by rw[hEi.1,hNN]);rw[Int.natCast_zero]at hL0;have sbg:=Rr.b.sl (Nat.lt_of_lt_of_le hgb Rr.x);rw[hlb]at sbg;have sbgX:SlBs (inC (zB 0 ht)) (.slice (some ⟨gb,0,none⟩) L.length 1) Bg:=sbg;have RX:RowB (inC (zB 0 ht)) X gb Bg:=Rr.b.keep rfl (fun _ _ _=>rfl) (Nat.le_refl _);refine goU ?_;refine WO.con hL0 ?_;rintro v5 X5 ⟨⟨cs,oc,lc,hW⟩,e5⟩;obtain⟨xa,xn,xk,rfl⟩:∃ a n k,v5= .slice a n k:=by obtain⟨g,_,_,e,_⟩:=oc;exact⟨_,_,_,e⟩
     refine WO.nil ?_;refine yP e5 zM ?_;have sbgY:SlBs (inC X5) (.slice (some ⟨gb,0,none⟩) L.length 1) Bg:=by have:=SlBs.ext sbgX e5;exact this
     have hx0:=Rr.x;obtain⟨vs,r1,r2,r3⟩:=RX.ext (show gb<ht.n by omega) e5;have F5:FarB X5 X (.slice xa xn xk) cs:=zCO oc (show X≤ht.n from hx0);refine goU ?_;refine WU2.wF (q:=gb) (off:=i) (row:=vs) (cs:=[.slice xa xn xk]) r1 (by have:=Rr.e.mark;have:=e1.mark;have:=E.hm;omega) ?_ (by simp;omega) (hx:=by rw[show Value.pointer (some ⟨gb,i,none⟩)=zi (.slice (some ⟨gb,0,none⟩) L.length 1) (i * 1) by show _=Value.pointer (some ⟨gb,0+i * 1,none⟩);rw[Nat.zero_add,Nat.mul_one]];exact zV);intro H nH kH gH wH mH rH;have n5:ht.n≤X5.n:=e5.n;have g5:∀ g,g<ht.n→X5.get g=ht.get g:=fun g hg=>e5.get g hg;have n1t:=Rr.e.n;have RF:RwS h1 H X gb ge L.length (Bg.set i cs) Ed:=⟨⟨by omega,fun g hg=>(kH g (by omega)).trans ((g5 g (by omega)).trans (Rr.e.get g hg)),fun w=>wH (e5.wf (fun g hg=>Rr.e.wf w g hg)),mH.trans Rr.e.mark,fun hm=>rH.trans (Rr.e.wr hm)⟩,by omega,
      RowB.set r1 r2 r3 (by omega) F5 gH kH nH hgb,Rr.d.keep ((kH ge (fun e=>hne e.symm)).trans (g5 ge (by omega))) (fun k hk1 hk2=>(kH k (by omega)).trans (g5 k hk2)) (by omega),by rw[List.length_set];exact hlb,hle⟩
     refine go ?_;refine zA (i+1) (by omega) ⟨sln,by omega,_,RF,⟨fun b hb=> ?_⟩⟩;unfold bB;rw[Y3 (by omega)];split
     ·rename_i e;have hbi:b=(i:Int):=by omega
      subst hbi;refine⟨by omega,fun r hr=>(hW r hr).trans ?_⟩;exact zB7 (by have:=hEi.2 r hr;unfold bB at this;rw[Int.toNat_natCast]at this;exact this)
     ·exact hB.out b (by omega)
theorem zE0:∀ {a b:List Int},a.Pairwise (·<·)→b.Pairwise (·<·)→(∀ x,x∈a↔x∈b)→a=b
 |[],[],_,_,_=>rfl
 |[],y::b,_,_,h=>absurd ((h y).2 (List.mem_cons_self ..)) (by simp)
 |x::a,[],_,_,h=>absurd ((h x).1 (List.mem_cons_self ..)) (by simp)
 |x::a,y::b,ha,hb,h=>by
  have ha1:=(List.pairwise_cons.1 ha).1;have hb1:=(List.pairwise_cons.1 hb).1;have hxy:x=y:=by
   rcases List.mem_cons.1 ((h x).1 (List.mem_cons_self ..))with e|e
   ·exact e
   ·rcases List.mem_cons.1 ((h y).2 (List.mem_cons_self ..))with e2|e2
    ·exact e2.symm
    ·have:=ha1 y e2;have:=hb1 x e;omega
  subst hxy;rw[zE0 (List.pairwise_cons.1 ha).2 (List.pairwise_cons.1 hb).2 fun z=> ?_];constructor
  ·intro hz;rcases List.mem_cons.1 ((h z).1 (List.mem_cons_of_mem _ hz))with e|e
   ·have:=ha1 z hz;omega
   ·exact e
  ·intro hz;rcases List.mem_cons.1 ((h z).2 (List.mem_cons_of_mem _ hz))with e|e
   ·have:=hb1 z hz;omega
   ·exact e
def zDa (bs:List Bool) (n:Nat):List Int:=((List.range n).filter fun i=>bs.getD i default).map fun (i:Nat)=>(i:Int)
theorem zI7 (bs:List Bool) (n:Nat):zDa bs (n+1)=zDa bs n++if bs.getD n default=true then [(n:Int)] else []:=by
 unfold zDa;rw[List.range_succ,List.filter_append,List.map_append];congr 1;rw[List.filter_cons,List.filter_nil];split<;>rfl
theorem zEv (bs:List Bool) (n:Nat):(zDa bs n).Pairwise (·<·):=by
 unfold zDa;rw[List.pairwise_map];refine List.Pairwise.imp (R:=(·<·)) (fun h=>by omega) (List.Pairwise.filter _ List.pairwise_lt_range)
theorem zDW (bs:List Bool) (n:Nat):(zDa bs n).length≤n:=by
 unfold zDa;rw[List.length_map];exact Nat.le_trans (List.length_filter_le _ _) (by simp)
theorem zGd {bs:List Bool} {r:Int}:r∈zDa bs bs.length↔0≤r∧bT bs r:=by
 unfold zDa;rw[List.mem_map];constructor
 ·rintro⟨i,hi,rfl⟩;rw[List.mem_filter]at hi;exact⟨by omega,by unfold bT bO;rw[Int.toNat_natCast];exact hi.2⟩
 ·rintro⟨h0,h1⟩;have:=bT_lt h1;refine⟨r.toNat,?_,by omega⟩;rw[List.mem_filter,List.mem_range];exact⟨by omega,h1⟩
def body20_0:ACode:=(.seq (.seq (oR [oM 5 4,oM 6 0,oQ 7 6,oB .lss 8 5 7]) (oT 8 0)) (.seq (.block 1 (.seq (oR [oM 11 0,oM 12 4,oI 1 13 11 12,oL 14 13]) (.cond (.tmp 14) (oR [oM 15 3,oM 16 4,⟨some 17,none,(.buildSlice 1 1 [(.int .i64 0)] [(0,1,(.tmp 16))])⟩,oY 1 18 15 17,oM 3 18]) .skip))) (oR [oM 9 4,oC .add 10 9 1,oM 4 10])))
def body20:ACode:=(.seq (oR [oK 2 (.slice none 0 0)]) (.seq (oR [oK 3 (.slice none 0 0)]) (.seq (.seq (oR [oN 4 0]) (.block 0 (.loop body20_0))) (.seq (oR [oM 19 3,oM 2 19]) .ret))))
theorem tab20:tb.code 20=some ⟨20,[(2,none)],body20⟩:=by kernel_rfl
theorem zCb (h:AHeap) (v:Value) (bs:List Bool) (s:SlBo h v bs) (hl:bs.length≤1000):WC Tryz.prog tb 20 [v] h fun r h'=>OwnN h h' r (zDa bs bs.length)∧Ext h h':=by
 refine WC.of (zE 20) tab20 ?_;simp only[zK,Nat.zero_add,Nat.reduceAdd];refine go ?_;refine WX.loopA [5,6,7,8,11,12,13,14,15,16,17,18,3,9,10,4] (by kernel_rfl) (fun i=>bs.length - i) (fun i t ht=>Ext h ht∧zC t 4=I i∧i≤bs.length∧∃ w,zC t 3=w∧OwnN h ht w (zDa bs i)) 0 ?_ ?_
 ·exact⟨Ext.refl _,sl_,Nat.zero_le _,_,sl_,.inl ⟨rfl,rfl⟩⟩
 rintro i t ht hsame ⟨et,s4,hi,w,s3,ow⟩;have st:=SlR.ext (h:=h) (h':=ht) (fun cs a (r:RBo h cs a)=>(r:RBo ht cs a)) s et;have hsucc:=zI7 bs i;refine go ?_;refine WX.br (fun hb=> ?_) (fun hb=> ?_)<;>simp only[DB]at hb
 ·obtain⟨_,rfl,pc,hs⟩:=zh st (show i<bs.length by omega);have pc:=(pc ht (Ext.refl _)).1;cases hv:bs.getD i default with
  |true=>
   rw[hv]at pc;rw[if_pos hv]at hsucc;have hnl:=zDW bs i;refine go ?_;refine WO.bl [(i:Int)] ?_;intro v2 h2 e2 o2;have ow2:=ow.ext e2;refine go ?_;refine WO.apN ow2 (OwnI.sl o2) (et.trans e2) (by simp only[List.length_singleton];omega) ?_;intro v3 h3 e3 o3;refine go ?_;exact zA (i+1) (by omega) ⟨e3,sln,by omega,_,sl_,by rw[hsucc];exact o3⟩
  |false=>
   rw[hv]at pc;rw[if_neg (by rw[hv];simp),List.append_nil]at hsucc;refine go ?_;exact zA (i+1) (by omega) ⟨et,sln,by omega,_,sl_,by rw[hsucc];exact ow⟩
 ·have hii:i=bs.length:=by omega
  subst hii;refine go ?_;refine rt ?_;exact⟨ow,et⟩
def body19:ACode:=(.seq (oR [oX 4 0,oN 8 0]) (.seq (oR [oA 2 12 4,oM 13 1,oM 14 2,o3 15 34 12 13 14,oM 11 15,oE 16 11 0,oE 17 11 1,oM 9 16,oM 10 17]) (.seq (.seq (oR [oM 18 10,oC .eql 19 18 0,oM 20 19,oG 20 (oM 21 3),oG 20 (oC .lss 22 21 0),oG 20 (oM 23 22),oH 23 (oM 24 3),oH 23 (oF 1 25 4),oH 23 (oL 26 25),oH 23 (oM 27 1),oH 23 (oI 2 28 26 27),oH 23 (oF 1 29 28),oH 23 (oL 30 29),oH 23 (oM 31 2),oH 23 (oI 5 32 30 31),oH 23 (oF 0 33 32),oH 23 (oL 34 33),oH 23 (oQ 35 34),oH 23 (oB .gtr 36 24 35),oG 20 (oO 37 23 36),oP 38 20 37]) (.cond (.tmp 38) (.seq (oR [oN 8 2]) .ret) .skip)) (.seq (oR [oM 39 10,oM 8 39]) .ret))))
theorem tab19:tb.code 19=some ⟨40,[(8,none)],body19⟩:=by kernel_rfl
theorem zCU (h:AHeap) (vt vf:Value) (T:List LType) (F:List LFn) (f b at':Int) (E:En h vt vf T F):
  WC Tryz.prog tb 19 [.agg #[vt,vf],I f,I b,I at'] h fun r h'=>r=I (ZM T F f b at')∧Ext h h':=by
 have hF:=E.sm.funcs;obtain⟨ta,tn,tk,rfl⟩:=zD E.st;obtain⟨ga,gn,gk,rfl⟩:=zD E.sf;refine WC.of (zE 19) tab19 ?_;simp only[zK,Nat.zero_add,Nat.reduceAdd];refine go ?_;refine WO.bx ?_;intro p h1 e1 o1;have E1:=E.ext e1;refine go ?_;refine WO.con (zJF h1 _ _ T F f b E1) ?_;rintro _ h2 ⟨⟨vn,rfl,sn⟩,e2⟩;have e12:=e1.trans e2;unfold ZM;by_cases hn:(yT T F f b).2=0;case neg=>
  rw[if_pos hn];have hn':(yT T F f b).2≠0:=hn;refine go ?_;refine rt ?_;exact⟨rfl,e12⟩
 obtain⟨ha,hb0,hb1⟩:=zAp hn;obtain⟨hf0,hf1,_⟩:=zFF ha;have E2:=E1.ext e2;have sf2:=E2.sf;have o2:=o1.ext e2;obtain⟨csF,⟨vb,rfl,sb,hlb⟩,pcF,hsF⟩:=zZ (i:=f.toNat) sf2 (by omega);obtain⟨ba,bn,bk,rfl⟩:=zD sb;obtain⟨csB,⟨vi,rfl,si,hli⟩,pcB,hsB⟩:=zZ (i:=b.toNat) sb (by omega);obtain⟨ia,iN,ik,rfl⟩:=zD si;rw[if_neg (fun q=>q hn),hn];by_cases c1:at'<0
 ·rw[if_pos (.inl c1)];refine go ?_;refine rt ?_;exact⟨rfl,e12⟩
 by_cases c2:(((F.getD f.toNat default).blocks.getD b.toNat default).ins.length:Int)<at'
 ·rw[if_pos (.inr c2)];refine go ?_;refine rt ?_;exact⟨rfl,e12⟩
 rw[if_neg (by omega)];refine go ?_;refine rt ?_;exact⟨rfl,e12⟩
theorem lask_in {T:List LType} {F:List LFn} {f b at':Int} (h:ZM T F f b at'=0):(yT T F f b).2=0∧0≤at'∧at'≤(((F.getD f.toNat default).blocks.getD b.toNat default).ins.length:Int):=by
 unfold ZM at h;split at h
 ·rename_i h1;exact absurd h h1
 ·rename_i h1;split at h
  ·cases h
  ·rename_i h2;exact⟨Classical.byContradiction h1,by omega,by omega⟩
def body7:ACode:=(.seq (oR [oX 4 0,oK 8 (.slice none 0 0),oN 9 0]) (.seq (oR [oA 2 11 4,oM 12 1,oM 13 2,oM 14 3,o4 15 19 11 12 13 14,oM 10 15]) (.seq (.seq (oR [oM 16 10,oC .neq 17 16 0]) (.cond (.tmp 17) (.seq (oR [oM 18 10,oK 8 (.slice none 0 0),oM 9 18]) .ret) .skip)) (.seq (.regionC [oU (oA 2 19 4),oU (oM 20 1),oU (oM 21 2),oU (oM 22 3),oU (oA 2 23 4),oU (oM 24 1),(o2 25 22 23 24,[0]),oU (oM 26 2),oU (oI 1 27 25 26),oU (oL 28 27),oU (⟨some 29,none,(.call (.func 21) [(.tmp 19),(.tmp 20),(.tmp 21),(.tmp 22),(.tmp 28)])⟩),oU (o1 30 20 29),oU (oM 8 30),oU (oN 9 0)]) .ret))))
theorem tab7:tb.code 7=some ⟨31,[(8,none),(9,none)],body7⟩:=by kernel_rfl
theorem r11At_ok (h:AHeap) (vt vf:Value) (T:List LType) (F:List LFn) (f b at':Int) (E:En h vt vf T F):
  WC Tryz.prog tb 7 [.agg #[vt,vf],I f,I b,I at'] h fun r h'=>(∃ v l,r= .tuple #[v,I (ZM T F f b at')]∧SlI h' v l∧l.length≤1000∧(ZM T F f b at'≠0→l=[])∧(ZM T F f b at'=0→l.Pairwise (·<·)∧∀ r,r∈l↔0≤r∧yG (Zr T F f) (yc F f) b at'.toNat (LE (Zr T F f) (yc F f) b) r))∧Ext h h':=by
 obtain⟨ta,tn,tk,rfl⟩:=zD E.st;obtain⟨ga,gn,gk,rfl⟩:=zD E.sf;refine WC.of (zE 7) tab7 ?_;simp only[zK,Nat.zero_add,Nat.reduceAdd];refine go ?_;refine WO.bx ?_;intro p h1 e1 o1;have E1:=E.ext e1;refine go ?_;refine WO.con (zCU h1 _ _ T F f b at' E1) ?_;rintro _ h2 ⟨rfl,e2⟩;have e12:=e1.trans e2;by_cases hn:ZM T F f b at'=0;case neg=>
  have hn':ZM T F f b at'≠0:=hn;refine go ?_;refine rt ?_;exact⟨⟨_,[],rfl,SlI.nil _,Nat.zero_le _,fun _=>rfl,fun e=>absurd e hn⟩,e12⟩
 obtain⟨hnx,ha0,ha1⟩:=lask_in hn;obtain⟨ha,hb0,hb1⟩:=zAp hnx;obtain⟨O,U⟩:=zCr E.sm ha;have E2:=E1.ext e2;have o2:=o1.ext e2;rw[hn];refine go ?_;refine WX.regionU2 0 rfl rfl ?_;have oX:OwnC h (inC (zB 0 h2)) p [.slice ta tn tk,.slice ga gn gk]:=o2;refine goU ?_;refine WO.con (zFw _ _ _ T F f _ _ E2.inC O U) ?_;rintro ve X1 ⟨⟨Es,sE,lE,hE⟩,e3⟩;obtain⟨hlE,hEb⟩:=hE b ⟨hb0,hb1⟩;refine WO.nil ?_;refine yP e3 zM ?_;have E3:En (inC X1) (.slice ta tn tk) (.slice ga gn gk) T F:=by have:=(E2.inC.ext e3).inC;exact this
 obtain⟨_,⟨vr,rfl,sr⟩,pr,hsr⟩:=zh (i:=b.toNat) sE (by omega);obtain⟨y1,y2,y3,rfl⟩:=zD sr;have pr:=(pr X1 (Ext.refl _)).2;have sEX:SlBs (inC X1) ve Es:=sE;have oY:OwnC h (inC X1) p [.slice ta tn tk,.slice ga gn gk]:=by have:=oX.ext e3;exact this
 refine goU ?_;have hL:=zEJ (inC X1) (.slice ta tn tk) (.slice ga gn gk) (.slice y1 y2 y3) T F f _ _ E3 O U b at'.toNat (Es.getD b.toNat default) ⟨hb0,hb1⟩ (by omega) sr hlE;rw[show ((at'.toNat:Nat):Int)=at' by omega]at hL;refine WO.con hL ?_;rintro vl X2 ⟨⟨cs,oc,lc,hW⟩,e4⟩;refine WO.nil ?_;refine yP e4 zM ?_;have hN:cs.length≤1000:=by
  have h1:=O.parl;have h2:=O.many;have h3:(((Es.getD b.toNat default).length:Nat):Int)≤300:=by
   show (((Es.getD b.toNat []).length:Nat):Int)≤300;rw[hlE];unfold zd;omega
  omega
 refine goU ?_;refine WO.con (zCb (inC X2) vl cs oc.sl hN) ?_;rintro vn X3 ⟨on,e5⟩;refine WO.nil ?_;refine yP e5 zM ?_;refine goU ?_;refine rt ?_;refine⟨⟨vn,_,rfl,on.sl,?_,fun e=>absurd rfl e,fun _=>⟨zEv _ _,fun r=> ?_⟩⟩,e12.trans (extI3 e3 e4 e5)⟩
 ·have:=zDW cs cs.length;omega
 ·rw[zGd];exact and_congr_right fun hr=>(hW r hr).trans (zB7 (hEb r hr))
def body9:ACode:=(.seq (oR [oX 3 0,oK 6 (.slice none 0 0),oN 7 0]) (.seq (oR [oA 2 9 3,oM 10 1,oM 11 2,⟨some 12,none,(.call (.func 19) [(.tmp 9),(.tmp 10),(.tmp 11),(.const (.int .i64 0))])⟩,oM 8 12]) (.seq (.seq (oR [oM 13 8,oC .neq 14 13 0]) (.cond (.tmp 14) (.seq (oR [oM 15 8,oK 6 (.slice none 0 0),oM 7 15]) .ret) .skip)) (.seq (oR [oA 2 16 3,oM 17 1,o2 18 22 16 17,oM 19 2,oI 1 20 18 19,oL 21 20,o1 22 20 21,oM 6 22,oN 7 0]) .ret))))
theorem tab9:tb.code 9=some ⟨23,[(6,none),(7,none)],body9⟩:=by kernel_rfl
theorem zIV (h:AHeap) (vt vf:Value) (T:List LType) (F:List LFn) (f b:Int) (E:En h vt vf T F):
  WC Tryz.prog tb 9 [.agg #[vt,vf],I f,I b] h fun r h'=>(∃ v l,r= .tuple #[v,I (yT T F f b).2]∧SlI h' v l∧l.length≤1000∧((yT T F f b).2≠0→l=[])∧((yT T F f b).2=0→l.Pairwise (·<·)∧∀ r,r∈l↔0≤r∧LE (Zr T F f) (yc F f) b r))∧Ext h h':=by
 have hask:ZM T F f b 0=(yT T F f b).2:=by
  unfold ZM;split
  ·rfl
  ·rename_i h1;rw[if_neg (by omega)];exact(Classical.byContradiction fun e=>h1 fun e2=>e e2.symm)
 obtain⟨ta,tn,tk,rfl⟩:=zD E.st;obtain⟨ga,gn,gk,rfl⟩:=zD E.sf;refine WC.of (zE 9) tab9 ?_;simp only[zK,Nat.zero_add,Nat.reduceAdd];refine go ?_;refine WO.bx ?_;intro p h1 e1 o1;have E1:=E.ext e1;refine go ?_;refine WO.con (zCU h1 _ _ T F f b 0 E1) ?_;rintro _ h2 ⟨rfl,e2⟩;rw[hask];have e12:=e1.trans e2;by_cases hn:(yT T F f b).2=0;case neg=>
  have hn':(yT T F f b).2≠0:=hn;refine go ?_;refine rt ?_;exact⟨⟨_,[],rfl,SlI.nil _,Nat.zero_le _,fun _=>rfl,fun e=>absurd e hn⟩,e12⟩
 obtain⟨ha,hb0,hb1⟩:=zAp hn;obtain⟨O,U⟩:=zCr E.sm ha;have E2:=E1.ext e2;have o2:=o1.ext e2;rw[hn];refine go ?_;refine WO.con (zFw _ _ _ T F f _ _ E2 O U) ?_;rintro ve h3 ⟨⟨Es,sE,lE,hE⟩,e3⟩;obtain⟨hlE,hEb⟩:=hE b ⟨hb0,hb1⟩;obtain⟨_,⟨vr,rfl,sr⟩,pr,hsr⟩:=zh (i:=b.toNat) sE (by omega);obtain⟨y1,y2,y3,rfl⟩:=zD sr;have pr:=(pr h3 (Ext.refl _)).1;have hN:(Es.getD b.toNat default).length≤1000:=by
  have h1:=O.parl;have h2:=O.many;have h3:(((Es.getD b.toNat default).length:Nat):Int)≤300:=by
   show (((Es.getD b.toNat []).length:Nat):Int)≤300;rw[hlE];unfold zd;omega
  omega
 refine go ?_;refine WO.con (zCb h3 _ _ sr hN) ?_;rintro vn h4 ⟨on,e4⟩;refine go ?_;refine rt ?_;refine⟨⟨vn,_,rfl,on.sl,?_,fun e=>absurd rfl e,fun _=>⟨zEv _ _,fun r=> ?_⟩⟩,e12.trans (e3.trans e4)⟩
 ·have:=zDW (Es.getD b.toNat default) (Es.getD b.toNat default).length;omega
 ·rw[zGd];exact and_congr_right fun hr=>hEb r hr
theorem En.envL {h:AHeap} {vt vf:Value} {T:List LType} {F:List LFn} (E:En h vt vf T F):EnvL h vt vf T F:=⟨E.tt,E.hm,E.sm,E.st,E.sf⟩
theorem atR_same {T:List LType} {F:List LFn} {f b at':Int} {l k:List Int} (h1:AtR T F f b at' l) (h2:k.Pairwise (·<·)) (h3:∀ r,r∈k↔0≤r∧yG (Zr T F f) (yc F f) b at'.toNat (LE (Zr T F f) (yc F f) b) r):l=k:=
 zE0 h1.rise h2 fun x=>by
  rw[h3];exact⟨fun h=>⟨(h1.reg x h).1,(h1.mem x).1 h⟩,fun h=>(h1.mem x).2 h.2⟩
theorem zIb {T:List LType} {F:List LFn} {f b:Int} {l k:List Int} (h1:EndR T F f b l) (h2:k.Pairwise (·<·)) (h3:∀ r,r∈k↔0≤r∧LE (Zr T F f) (yc F f) b r):l=k:=
 zE0 h1.rise h2 fun x=>by
  rw[h3];exact⟨fun h=>⟨(h1.reg x h).1,(h1.mem x).1 h⟩,fun h=>(h1.mem x).2 h.2⟩
def body3:ACode:=(.seq (oR [oX 4 0,oZ 8]) (.seq (.seq (oR [oA 2 18 4,⟨some 19,none,(.call (.func 4) [(.tmp 18),(.const (.int .i64 200))])⟩]) (.cond (.tmp 19) (.seq (oR [oK 8 (.bool true)]) .ret) .skip)) (.seq (oR [oA 2 20 4,o1 21 5 20,⟨some 9,none,(.alloc [(.slice none 0 0),(.slice none 0 0)])⟩,oS 2 9 21]) (.seq (oR [oA 2 23 9,oM 24 1,oM 25 2,oM 26 3,o4 27 6 23 24 25 26,oM 22 27,oE 28 22 0,oE 29 22 1,oM 10 28,oM 11 29]) (.seq (oR [oA 2 31 4,oM 32 1,oM 33 2,oM 34 3,o4 35 7 31 32 33 34,oM 30 35,oE 36 30 0,oE 37 30 1,oM 12 36,oM 13 37]) (.seq (oR [oA 2 39 9,oM 40 1,oM 41 2,o3 42 8 39 40 41,oM 38 42,oE 43 38 0,oE 44 38 1,oM 14 43,oM 15 44]) (.seq (oR [oA 2 46 4,oM 47 1,oM 48 2,o3 49 9 46 47 48,oM 45 49,oE 50 45 0,oE 51 45 1,oM 16 50,oM 17 51]) (.seq (oR [oM 52 10,oM 53 12,o2 54 10 52 53,oM 55 54,oG 55 (oM 56 11),oG 55 (oM 57 13),oG 55 (oB .eql 58 56 57),oP 59 55 58,oM 60 59,oG 60 (oM 61 14),oG 60 (oM 62 16),oG 60 (o2 63 10 61 62),oP 64 60 63,oM 65 64,oG 65 (oM 66 15),oG 65 (oM 67 17),oG 65 (oB .eql 68 66 67),oP 69 65 68,oM 70 69,oG 70 (oA 2 71 9),oG 70 (oA 2 72 4),oG 70 (o2 73 11 71 72),oP 74 70 73,oM 8 74]) .ret))))))))
theorem tab3:tb.code 3=some ⟨75,[(8,none)],body3⟩:=by kernel_rfl
theorem zE5 (h:AHeap) (vt vf:Value) (T:List LType) (F:List LFn) (f b at':Int) (tt:Tbl h) (hm:h.mark≤h.n) (Z:TzT h) (st:SlT h vt T) (sf:SlF h vf F) (hT:(T.length:Int)≤1152921504606846976) (hF:(F.length:Int)≤1152921504606846976):
  WC Tryz.prog tb 3 [.agg #[vt,vf],I f,I b,I at'] h fun r h'=>r= .bool true:=by
 refine WC.of (zE 3) tab3 ?_;simp only[zK,Nat.zero_add,Nat.reduceAdd];refine go ?_;refine WO.bx ?_;intro p h1 e1 o1;refine go ?_;refine WO.con (zIz h1 vt vf T F 200 (by omega) (st.ext e1) (SlF.ext sf e1) (by omega) (by omega)) ?_;rintro r h2 ⟨hr,e2⟩;have o1:=o1.ext e2;rcases hr with rfl|⟨rfl,sm,si⟩
 ·refine go ?_;refine rt ?_;rfl
 have E:En h2 vt vf T F:=⟨(tt.ext e1).ext e2,yY e2 (yY e1 hm),sm,si,(st.ext e1).ext e2,SlF.ext (SlF.ext sf e1) e2⟩;have Z:=(Z.ext e1).ext e2;clear st sf tt hm e1 e2;refine go ?_;refine WO.con (rTwin_ok h2 vt vf T F sm si E.hm E.st E.sf) ?_;rintro _ h3 ⟨⟨wt,wf,rfl,swt,swf⟩,e3⟩;have o1:=o1.ext e3;have E:=E.ext e3;have Z:=Z.ext e3;obtain⟨wa,wn,wk,rfl⟩:=zD swt;obtain⟨xa,xn,xk,rfl⟩:=zD swf;refine go ?_;refine WO.al ?_;intro q h4 e4 o4;refine WO.stC0 o4 e4 ?_;intro h5 e5 o5 _;have o1:=o1.ext e5;have E:=E.ext e5;have Z:=Z.ext e5;have W:En h5 _ _ T F:=⟨E.tt,E.hm,sm,si,swt.ext e5,SlF.ext swf e5⟩;clear e3 e4 e5 o4 swt swf;refine go ?_;refine WO.con (lAt_ok h5 _ _ T F f b at' W.envL Z) ?_;rintro _ h6 ⟨⟨v1,l1,rfl,on1,hn1,hz1⟩,e6⟩;have s1:=on1.sl;have o1:=o1.ext e6;have o5:=o5.ext e6;have E:=E.ext e6;have W:=W.ext e6;have Z:=Z.ext e6;refine go ?_;refine WO.con (r11At_ok h6 vt vf T F f b at' E) ?_;rintro _ h7 ⟨⟨v2,l2,rfl,s2,hl2,hn2,hz2⟩,e7⟩;have hl12:l1=l2:=by
  by_cases hz:ZM T F f b at'=0
  ·exact atR_same (hz1 hz) (hz2 hz).1 (hz2 hz).2
  ·rw[hn1 hz,hn2 hz]
 subst hl12;have s1:=s1.ext e7;have o1:=o1.ext e7;have o5:=o5.ext e7;have E:=E.ext e7;have W:=W.ext e7;have Z:=Z.ext e7;clear hn1 hz1 hn2 hz2 on1;refine go ?_;refine WO.con (lEnd_ok h7 _ _ T F f b W.envL Z) ?_;rintro _ h8 ⟨⟨v3,l3,rfl,on3,hn3,hz3⟩,e8⟩;have s3:=on3.sl;have s1:=s1.ext e8;have s2:=s2.ext e8;have o1:=o1.ext e8;have o5:=o5.ext e8;have E:=E.ext e8;have W:=W.ext e8;refine go ?_;refine WO.con (zIV h8 vt vf T F f b E) ?_;rintro _ h9 ⟨⟨v4,l4,rfl,s4,hl4,hn4,hz4⟩,e9⟩;have hl34:l3=l4:=by
  by_cases hz:(yT T F f b).2=0
  ·exact zIb (hz3 hz) (hz4 hz).1 (hz4 hz).2
  ·rw[hn3 hz,hn4 hz]
 subst hl34;have s3:=s3.ext e9;have s1:=s1.ext e9;have s2:=s2.ext e9;have o1:=o1.ext e9;have o5:=o5.ext e9;have E:=E.ext e9;have W:=W.ext e9;clear hn3 hz3 hn4 hz4 on3 e6 e7 e8 e9;generalize ZM T F f b at'=c1 at *;generalize (yT T F f b).2=c2 at *;have hc1:(c1 == c1)=true:=by simp
 have hc2:(c2 == c2)=true:=by simp
 have hdd1:decide (l1=l1)=true:=by simp
 have hdd3:decide (l3=l3)=true:=by simp
 refine go ?_;refine WO.con (Ym h9 _ _ _ _ s1 s2 (by omega)) ?_;rintro _ _ ⟨rfl,rfl⟩;refine go ?_;refine WO.con (Ym h9 _ _ _ _ s3 s4 (by omega)) ?_;rintro _ _ ⟨rfl,rfl⟩;refine go ?_;refine WO.con (rSame_ok h9 _ _ _ _ T F sm si E.hm W.st W.sf E.st E.sf) ?_;rintro _ h12 ⟨rfl,e12⟩;refine go ?_;refine rt ?_;rfl
end
end Go.Proofs.YtemggiegiejopaaGreatDoor
