/- What functions of the program come to in the abstract machine, and plain laws about it; no statement of the seat is proved in this text. -/
import Derived.Test.YtemggiegiejopaaDoorJc
import Derived.Test.YtemggiegiejopaaDoorJc
import Derived.Test.YtemggiegiejopaaDoorAmU
import Derived.Test.YtemggiegiejopaaDoorAmV
import Derived.Test.YtemggiegiejopaaDoorJa
import Derived.Test.YtemggiegiejopaaDoorJb
namespace Go.Proofs.YtemggiegiejopaaDoor
open Go.Am
set_option linter.unusedVariables false
set_option linter.unusedSimpArgs false
set_option maxHeartbeats 1000000
structure ExtN (h h':AHeap):Prop where
 n:h.n≤h'.n
 get:∀ g,g<h.n→h'.get g=h.get g
 wf:Wf h→Wf h'
theorem ExtN.of {h h':AHeap} (e:Ext h h'):ExtN h h':=⟨e.n,e.get,e.wf⟩
theorem ExtN.refl (h:AHeap):ExtN h h:=⟨Nat.le_refl _,fun _ _=>rfl,id⟩
theorem ExtN.trans {a b c:AHeap} (h:ExtN a b) (k:ExtN b c):ExtN a c:=⟨Nat.le_trans h.n k.n,fun g hg=>(k.get g (Nat.lt_of_lt_of_le hg h.n)).trans (h.get g hg),fun w=>k.wf (h.wf w)⟩
theorem ExtN.to {h h':AHeap} (e:ExtN h h'):Ext {h with mark:=h'.mark,wr:=h'.wr} h':=⟨e.n,e.get,fun w=>e.wf w,rfl,fun _=>rfl⟩
theorem ExtN.outC {h h1 h':AHeap} (e:Ext h h1) (k:ExtN h h'):Ext h (outC h1 h'):=⟨k.n,k.get,fun w=>k.wf w,e.mark,fun hm=>e.wr hm⟩
theorem yi {h v s} (k:SlW h v s):∃ a n m,v= .slice a n m:=let ⟨_,a,_⟩:=k;a.shape
theorem SlW.extN {h h' v s} (k:SlW h v s) (e:ExtN h h'):SlW h' v s:=by
 have:=SlW.ext (h:={h with mark:=h'.mark,wr:=h'.wr}) (by exact k) e.to
 exact this
theorem TzT.extN {h h'} (T:TzT h) (e:ExtN h h'):TzT h':=by
 have:=TzT.ext (h:={h with mark:=h'.mark,wr:=h'.wr}) (by exact T) e.to
 exact this
theorem zGV (w:LWd) (s:List LWd):zp (w::s)=(Y0 w.bits).map (fun k:Nat=>64 * w.pos+(k:Int))++zp s:=rfl
theorem zIf {l r:List Int} {j:Nat} {x:Int} (h:l.drop j=x::r):j<l.length∧l.getD j 0=x∧l.drop (j+1)=r:=by
 have hj:j<l.length:=by
  rcases Nat.lt_or_ge j l.length with h1|h1
  ·exact h1
  ·rw[List.drop_eq_nil_of_le h1]at h;cases h
 rw[List.drop_eq_getElem_cons hj]at h
 cases h
 exact⟨hj,by rw[List.getD_eq_getElem?_getD,List.getElem?_eq_getElem hj];rfl,rfl⟩
noncomputable def body40_0:ACode:=(.seq (.seq (.region [⟨some 14,none,(.mov (.tmp 5))⟩,⟨some 15,none,(.bin .neq (.tmp 14) (.const (.int .u64 0)))⟩]) (.cond (.tmp 15) .skip (.exit 2))) (.seq (.block 3 (.seq (.regionC [(⟨some 20,none,(.mov (.tmp 0))⟩,[]),(⟨some 21,none,(.fld 0 (.tmp 4))⟩,[]),(⟨some 22,none,(.load false 1 (.tmp 21))⟩,[]),(⟨some 23,none,(.bin .mul (.const (.int .i64 64)) (.tmp 22))⟩,[]),(⟨some 24,none,(.mov (.tmp 5))⟩,[]),(⟨some 25,none,(.call (.func 41) [(.tmp 24)])⟩,[2]),(⟨some 26,none,(.bin .add (.tmp 23) (.tmp 25))⟩,[]),(⟨some 27,none,(.call (.tmp 20) [(.tmp 26)])⟩,[]),(⟨some 28,none,(.un .not (.tmp 27))⟩,[])]) (.cond (.tmp 28) .ret .skip))) (.region [⟨some 16,none,(.mov (.tmp 5))⟩,⟨some 17,none,(.mov (.tmp 5))⟩,⟨some 18,none,(.bin .sub (.tmp 17) (.const (.int .u64 1)))⟩,⟨some 19,none,(.bin .and (.tmp 16) (.tmp 18))⟩,⟨some 5,none,(.mov (.tmp 19))⟩])))
noncomputable def body40_1:ACode:=(.seq (.region [⟨some 9,none,(.bin .lss (.tmp 8) (.tmp 7))⟩]) (.seq (.cond (.tmp 9) .skip (.exit 0)) (.seq (.block 1 (.seq (.region [⟨some 10,none,(.idx 2 (.tmp 6) (.tmp 8))⟩,⟨some 11,none,(.load true 2 (.tmp 10))⟩,⟨some 4,none,(.alloc [(.int .i64 0),(.int .u64 0)])⟩,⟨none,none,(.store 2 (.tmp 4) (.tmp 11))⟩]) (.seq (.region [⟨some 12,none,(.fld 1 (.tmp 4))⟩,⟨some 13,none,(.load false 1 (.tmp 12))⟩,⟨some 5,none,(.mov (.tmp 13))⟩]) (.block 2 (.loop body40_0))))) (.region [⟨some 29,none,(.bin .add (.tmp 8) (.const (.int .i64 1)))⟩,⟨some 8,none,(.mov (.tmp 29))⟩]))))
noncomputable def body40:ACode:=(.seq (.region [⟨some 6,none,(.load false 1 (.tmp 1))⟩,⟨some 7,none,(.len (.tmp 6))⟩,⟨some 8,none,(.mov (.const (.int .i64 0)))⟩]) (.block 0 (.loop body40_1)))
set_option maxRecDepth 100000 in
theorem tab40:tb.code 40=some ⟨30,[],body40⟩:=by kernel_rfl
theorem zGh (hA hB h:AHeap) (y p v:Value) (s:List LWd) (ok:OkW s) (hl:(s.length:Int)≤1000000000) (J:Nat→(Nat→Prop)→AHeap→Prop) (W0:Nat→Prop) (h0:J 0 W0 h) (o:OwnC hA h p [v]) (k:SlW hB v s) (T:TzT hB) (eB:ExtN hB h) (hm:h.mark≤hB.n)
  (hp:∀ i Wr h',J i Wr h'→ExtN hB h'∧∀ k,Wr k→hB.n≤k∧k<h'.n) (hk:∀ i Wr h' h'',J i Wr h'→ExtN h' h''→J i Wr h'')
  (hy:∀ i Wr h',i<(zp s).length→J i Wr h'→h'.mark≤h'.n→WV Tryd.prog tb y [I ((zp s).getD i 0)] h' fun r h''=>r= .bool true∧h'.n≤h''.n∧(∀ k,k<h'.n→¬Wr k→h''.get k=h'.get k)∧(∀ g∈h''.wr,g∈h'.wr∨hB.n≤g)∧∃ Wr',J (i+1) Wr' h''∧∀ k,Wr' k→Wr k∨h'.n≤k):
  WC Tryd.prog tb 40 [y,p] h fun _ h'=>(∃ Wr,J (zp s).length Wr h')∧h'.mark=h.mark∧h'.wr=h.wr:=by
 have kh:=k.extN eB
 have hp:=Hid.mk hp
 have hk:=Hid.mk hk
 have hy:=Hid.mk hy
 have ok:=Hid.mk ok
 obtain⟨_,_,_,rfl⟩:=yi k
 refine WC.of (zF 40) tab40 ?_;simp only[zO,Nat.zero_add,Nat.reduceAdd]
 refine go ?_
 refine WX.loopA [9,10,11,4,12,13,5,14,15,20,21,22,23,24,25,26,27,28,16,17,18,19,5,29,8] (by kernel_rfl) (fun i=>s.length - i) (fun i t h1=>∃ j Wr,zC t 8=I i∧i≤s.length∧j≤(zp s).length∧J j Wr h1∧ExtN hB h1∧h1.mark=h.mark∧h1.wr=h.wr∧Hid ((zp s).drop j=zp (s.drop i))) 0 ?_ ?_
 ·exact⟨0,W0,sl_,Nat.zero_le _,Nat.zero_le _,h0,eB,rfl,rfl,⟨rfl⟩⟩
 clear h0 eB kh
 rintro i t h1 hsame ⟨j,Wr,s8,hi,hjl,j1,e1,m1,r1,hI⟩
 have k1:=k.extN e1
 refine go ?_
 refine WX.br (fun hb=> ?_) (fun hb=> ?_)<;>simp only[DB]at hb
 ·have hi':i<s.length:=by omega
  obtain⟨cs,⟨rfl,w1,w2,w3⟩,pc,hs⟩:=zCg k1 hi'
  have hd:=hI.out
  rw[zEN hi',zGV]at hd
  have hw4:=ok.out.each (s.getD i default) (by rw[List.getD_eq_getElem?_getD,List.getElem?_eq_getElem hi'];exact List.getElem_mem hi')
  generalize s.getD i default=w at *
  have hd:=Hid.mk hd
  refine go ?_
  refine WO.al ?_
  intro p4 h2 e2 o4
  refine go ?_
  refine WO.stC0 (cs:=[I w.pos,W w.bits]) o4 e2 ?_
  intro h3 e3 o43 u3
  refine go ?_
  obtain⟨g4,g41,g42,rfl,g44⟩:=id o43
  refine WX.loopA [14,15,20,21,22,23,24,25,26,27,28,16,17,18,19,5] (by kernel_rfl) (fun rest=>rest) (fun rest t h4=>∃ j Wr,zC t 5=W rest∧j≤(zp s).length∧rest<18446744073709551616∧J j Wr h4∧ExtN hB h4∧h4.mark=h.mark∧h4.wr=h.wr∧OwnC h1 h4 (.pointer (some ⟨g4,0,none⟩)) [I w.pos,W w.bits]∧¬Wr g4∧Hid ((zp s).drop j=(Y0 rest).map (fun k:Nat=>64 * w.pos+(k:Int))++zp (s.drop (i+1)))) w.bits ?_ ?_
  ·refine⟨j,Wr,sl_,hjl,w1,hk.out _ _ _ _ j1 (ExtN.of e3),e1.trans (ExtN.of e3),e3.mark.trans m1,?_,o43,fun hw=> ?_,hd⟩
   ·have:=e1.n
    rw[e3.wr (by rw[m1];omega)];exact r1
   ·have:=((hp.out _ _ _ j1).2 _ hw).2;omega
  clear hd hI j1 e1 m1 r1 k1 pc hs e2 o4 u3 o43 e3 g44
  rintro rest t4 h4 hsame4 ⟨j,Wr,s5,hjl,hr,j4,e4,m4,r4,o4,hw,hI⟩
  refine go ?_
  refine WX.br (fun hb2=> ?_) (fun hb2=> ?_)<;>simp only[DB]at hb2
  ·have hr0:rest≠0:=by omega
   obtain⟨kk,L⟩:=low hr0 hr
   have hlt:=L.lt
   have hI:=hI.out
   rw[L.list,List.map_cons,List.cons_append]at hI
   obtain⟨hj1,hj2,hj3⟩:=zIf hI
   have hI:=Hid.mk hj3
   have hless:=L.less
   refine go ?_
   refine WX.regionU2 0 rfl rfl ?_
   have o4X:OwnC h1 (inC (zB 0 h4)) (.pointer (some ⟨g4,0,none⟩)) [I w.pos,W w.bits]:=o4
   have TX:TzT (inC (zB 0 h4)):=by have:=T.extN e4;exact this
   refine goU ?_
   refine WO.con (trail_ok _ rest kk TX hr hr0 L) ?_
   rintro _ _ ⟨rfl,rfl⟩
   refine WO.nil ?_
   refine yq (Ext.refl _) zP ?_
   refine goU ?_
   have hyy:=hy.out j Wr (inC (inC (zB 0 h4))) hj1 (hk.out _ _ _ _ j4 ⟨Nat.le_refl _,fun _ _=>rfl,id⟩) (Nat.le_refl _)
   rw[hj2]at hyy
   refine WO.conV hyy ?_
   rintro _ h5 ⟨rfl,n5,k5,w5,Wr',j5,hW'⟩
   refine WO.nil ?_
   refine uK2_wl (fun k hk=> ?_) n5 (fun cl'=> ?_)
   ·rcases w5 k hk with h|h
    ·cases h
    ·rw[m4];omega
   refine goU ?_
   have n5:h4.n≤h5.n:=n5
   have o45:OwnC h1 (outC h4 (inC h5)) (.pointer (some ⟨g4,0,none⟩)) [I w.pos,W w.bits]:=by
    obtain⟨q,q1,q2,q3,q4⟩:=o4
    cases q3
    exact⟨g4,q1,Nat.lt_of_lt_of_le q2 n5,rfl,(k5 g4 q2 hw).trans q4⟩
   have j6:=hk.out _ _ _ (outC h4 (inC h5)) j5 ⟨Nat.le_refl _,fun _ _=>rfl,id⟩
   have e5:ExtN hB (outC h4 (inC h5)):=(hp.out _ _ _ j6).1
   have m6:(outC h4 (inC h5)).mark=h.mark:=m4
   have r6:(outC h4 (inC h5)).wr=h.wr:=r4
   have hw6:¬Wr' g4:=fun hW=>by
    rcases hW' g4 hW with h|h
    ·exact hw h
    ·obtain⟨q,q1,q2,q3,q4⟩:=o4
     cases q3
     have:h4.n≤g4:=h
     omega
   generalize outC h4 (inC h5)=h6 at *
   refine WO.bin ze rfl (u_sub (a:=rest) (b:=1) hr (by omega)) ?_
   refine go ?_
   refine WO.bin ze ze (u_and (a:=rest) (b:=rest - 1) hr (by omega)) ?_
   refine go ?_
   exact zA (rest&&& (rest - 1)) hless ⟨j+1,Wr',sl_,hj1,Nat.lt_trans hless hr,j6,e5,m6,r6,o45,hw6,hI⟩
  ·have hr0:rest=0:=by omega
   subst hr0
   refine go ?_
   have hI:=hI.out
   rw[zHh]at hI
   exact zA (i+1) (by omega) ⟨j,Wr,sln,by omega,hjl,j4,e4,m4,r4,⟨hI⟩⟩
 ·refine go ?_
  refine rtN ?_
  have hI:=hI.out
  rw[show i=s.length by omega,List.drop_length,show zp []=[] from rfl]at hI
  have hje:j=(zp s).length:=by
   have:=congrArg List.length hI
   rw[List.length_drop,List.length_nil]at this;omega
  subst hje
  exact⟨⟨Wr,j1⟩,m1,r1⟩
noncomputable def body33:ACode:=(.seq (.region [⟨some 1,none,(.box (.tmp 0))⟩,⟨some 2,none,(.mov (.const .nilFunc))⟩]) (.seq (.region [⟨some 3,none,(.mkFunc (.func 40) [] [(.tmp 1)])⟩,⟨some 2,none,(.mov (.tmp 3))⟩]) .ret))
set_option maxRecDepth 100000 in
theorem tab33:tb.code 33=some ⟨4,[(2,none)],body33⟩:=by kernel_rfl
theorem zHV (h:AHeap) (v:Value) (s:List LWd) (k:SlW h v s):WC Tryd.prog tb 33 [v] h fun r h'=>(∃ p,r= .func (.func 40) #[] #[p]∧OwnC h h' p [v])∧Ext h h':=by
 obtain⟨_,_,_,rfl⟩:=yi k
 refine WC.of (zF 33) tab33 ?_;simp only[zO,Nat.zero_add,Nat.reduceAdd]
 refine go ?_
 refine WO.bx ?_
 intro p h1 e1 o1
 refine go ?_
 refine rt ?_
 exact⟨⟨p,rfl,o1⟩,e1⟩
theorem Lies.extN {h h':AHeap} {g:Nat} {o:AObj} (k:Lies h g o) (e:ExtN h h'):Lies h' g o:=⟨Nat.lt_of_lt_of_le k.1 e.n,(e.get g k.1).trans k.2⟩
theorem OwnC.extN {h0 h h' p cells} (o:OwnC h0 h p cells) (e:ExtN h h'):OwnC h0 h' p cells:=by
 obtain⟨g,a,b,c,d⟩:=o;exact⟨g,a,Nat.lt_of_lt_of_le b e.n,c,(e.get g b).trans d⟩
theorem OwnN.extN {h0 h h' v xs} (o:OwnN h0 h v xs) (e:ExtN h h'):OwnN h0 h' v xs:=by
 rcases o with o|⟨g,a,b,c,d⟩
 ·exact .inl o
 ·exact .inr ⟨g,a,Nat.lt_of_lt_of_le b e.n,c,(e.get g b).trans d⟩
theorem zGc {h0 h1 h:AHeap} {p v:Value} {a:Option Addr} {n k:Nat} {cs:List Value} {xs:List Int} (o:OwnC h0 h p (.slice a n k::cs)) (i:OwnN h1 h v xs):∀ b m c,v= .slice (some b) m c→p≠ .pointer (some ⟨b.block,0,none⟩):=by
 intro b m c hv hp
 obtain⟨g,_,_,rfl,hg⟩:=o
 rcases i with ⟨rfl,_⟩|⟨g2,_,_,rfl,hg2⟩
 ·cases hv
 ·cases hv;cases hp
  rw[hg]at hg2
  cases xs with
  |nil=>cases hg2
  |cons x xs=>cases hg2
theorem zIl {h0 h h':AHeap} {p v:Value} {a:Option Addr} {n k:Nat} {cs:List Value} {xs:List Int} (o:OwnC h0 h p (.slice a n k::cs)) (i:OwnN h0 h v xs) (u:Upd v h h'):OwnC h0 h' p (.slice a n k::cs):=by
 have hne:=zGc o i
 obtain⟨g,g1,g2,rfl,hg⟩:=o
 exact⟨g,g1,Nat.lt_of_lt_of_le g2 u.1,rfl,(u.2 g g2 fun b m c hv e=>hne b m c hv (by rw[e])).trans hg⟩
theorem zDF {h0 h h':AHeap} {p v:Value} {a:Option Addr} {n k:Nat} {cs:List Value} {xs:List Int} (i:OwnI h0 h v xs) (o:OwnC h0 h p (.slice a n k::cs)) (u:UpdC p h h'):OwnI h0 h' v xs:=by
 have hne:=zGc o (.inr i)
 obtain⟨g,g1,g2,rfl,hg⟩:=i
 exact⟨g,g1,Nat.lt_of_lt_of_le g2 u.1,rfl,(u.2 g g2 fun e=>hne _ _ _ rfl e).trans hg⟩
noncomputable def body22:ACode:=(.seq (.region [⟨some 2,none,(.alloc [(.slice none 0 0)])⟩,⟨some 3,none,(.mov (.const (.int .i64 0)))⟩]) (.seq (.seq (.region [⟨some 6,none,(.mov (.tmp 0))⟩,⟨some 7,none,(.call (.func 32) [(.tmp 6)])⟩,⟨some 4,none,(.mov (.tmp 7))⟩]) (.seq (.region [⟨some 8,none,(.mov (.tmp 4))⟩,⟨some 9,none,(.bin .neq (.tmp 8) (.const (.int .i64 0)))⟩]) (.cond (.tmp 9) (.seq (.region [⟨some 10,none,(.mov (.tmp 4))⟩,⟨none,none,(.store 1 (.tmp 2) (.const (.slice none 0 0)))⟩,⟨some 3,none,(.mov (.tmp 10))⟩]) .ret) .skip))) (.seq (.seq (.region [⟨some 11,none,(.mov (.tmp 0))⟩,⟨some 12,none,(.call (.func 33) [(.tmp 11)])⟩]) (.block 0 (.rangeFunc (.tmp 12) [13] (.region [⟨some 5,none,(.mov (.tmp 13))⟩]) (.block 1 (.region [⟨some 14,none,(.load false 1 (.tmp 2))⟩,⟨some 15,none,(.mov (.tmp 5))⟩,⟨some 16,none,(.buildSlice 1 1 [(.int .i64 0)] [(0,1,(.tmp 15))])⟩,⟨some 17,none,(.append 1 (.tmp 14) (.tmp 16))⟩,⟨none,none,(.store 1 (.tmp 2) (.tmp 17))⟩]))))) (.seq (.region [⟨some 18,none,(.load false 1 (.tmp 2))⟩,⟨none,none,(.store 1 (.tmp 2) (.tmp 18))⟩,⟨some 3,none,(.mov (.const (.int .i64 0)))⟩]) .ret))))
set_option maxRecDepth 100000 in
theorem tab22:tb.code 22=some ⟨19,[(2,some (false,1)),(3,none)],body22⟩:=by kernel_rfl
theorem list_ok (h:AHeap) (v:Value) (s:List LWd) (k:SlW h v s) (T:TzT h) (hl:(s.length:Int)≤1000000) (hm:h.mark≤h.n):
  WC Tryd.prog tb 22 [v] h fun r h'=>(∃ w,r= .tuple #[w,I (errW (z8 (-1) s))]∧OwnN h h' w (if z8 (-1) s then zp s else []))∧Ext h h':=by
 refine WC.of (zF 22) tab22 ?_;simp only[zO,Nat.zero_add,Nat.reduceAdd]
 refine go ?_
 refine WO.al ?_
 intro p2 h1 e1 o1
 have k1:=SlW.ext k e1
 refine go ?_
 refine WO.con (zCN h1 v s k1 (by omega)) ?_
 rintro _ h2 ⟨rfl,e2⟩
 have e12:=e1.trans e2
 have o2:=o1.ext e2
 have k2:=SlW.ext k e12
 by_cases hc:z8 (-1) s=true
 case neg=>
  have hc:z8 (-1) s=false:=by simpa using hc
  rw[hc,show errW false=8 from rfl]
  refine go ?_
  refine WO.stC0 (cs:=[.slice none 0 0]) o2 e12 ?_
  intro h3 e3 o3 u3
  refine go ?_
  refine rt (vs:=[.slice none 0 0,I 8]) ?_ (Res.consB sl_ o3 rfl (Res.cons sl_ Res.nil))
  exact⟨⟨_,rfl,.inl ⟨rfl,rfl⟩⟩,e3⟩
 have ok:=(zIN k.bd).1 hc
 rw[hc,show errW true=0 from rfl]
 refine go ?_
 refine WO.con (zHV h2 v s k2) ?_
 rintro _ h3 ⟨⟨p,rfl,o3⟩,e3⟩
 have o23:=o2.ext e3
 have e13:=e12.trans e3
 refine go ?_
 refine WX.rangeG ?_
 intro L g r hO rdy eO hL hg lL lg
 have eb:=e13.trans eO
 have hnL:h.n≤L:=Nat.le_trans e13.n hL
 have o2O:=o23.ext eO
 have hlen:((zp s).length:Int)≤64 * s.length:=by
  have:∀ l:List LWd,(zp l).length≤64 * l.length:=fun l=>by
   induction l with
   |nil=>exact Nat.le_refl _
   |cons w l ih=>rw[zEB,List.length_cons];have:=bitsL_le w.bits;omega
  have:=this s;omega
 have hmO:hO.mark≤h.n:=by rw[eb.mark];exact hm
 refine WV.func ?_
 refine WC.mono (zGh h2 h hO _ p v s ok (by omega) (fun i Wr h'=>ExtN h h'∧Lies h' L (.loop r)∧Lies h' g (.deferred (some []))∧∃ w,OwnC h h' p2 [w]∧OwnN h h' w ((zp s).take i)∧Wr=fun k=>p2= .pointer (some ⟨k,0,none⟩)∨k=L∨∃ n c,w= .slice (some ⟨k,0,none⟩) n c)
  (fun k=>p2= .pointer (some ⟨k,0,none⟩)∨k=L∨∃ n c,Value.slice none 0 0= .slice (some ⟨k,0,none⟩) n c) ?_ (o3.ext eO) k T (ExtN.of eb) hmO ?_ ?_ ?_) ?_
 ·exact⟨ExtN.of eb,lL,lg,_,o2O,.inl ⟨rfl,rfl⟩,rfl⟩
 ·rintro i _ h' ⟨e',lL',lg',w,ow,on,rfl⟩
  refine⟨e',fun k hk=> ?_⟩
  rcases hk with hk|rfl|⟨n,c,hk⟩
  ·obtain⟨q,q1,q2,q3,q4⟩:=ow
   rw[q3]at hk;cases hk;exact⟨q1,q2⟩
  ·exact⟨hnL,lL'.1⟩
  ·rcases on with ⟨q,_⟩|⟨q,q1,q2,q3,q4⟩
   ·rw[q]at hk;cases hk
   ·rw[q3]at hk;cases hk;exact⟨q1,q2⟩
 ·rintro i _ h' h'' ⟨e',lL',lg',w,ow,on,rfl⟩ e''
  exact⟨e'.trans e'',Lies.extN lL' e'',Lies.extN lg' e'',w,OwnC.extN ow e'',OwnN.extN on e'',rfl⟩
 ·rintro i _ h' hi ⟨e',lL',lg',w,ow,on,rfl⟩ hm'
  refine WV.yieldG lL' rdy rfl ?_
  simp only[zBc]
  refine go ?_
  refine zFn ?_
  intro h4 hh4
  have eB:=e'.to
  generalize hBB:({h with mark:=h'.mark,wr:=h'.wr}:AHeap)=hb at eB
  have hbn:hb.n=h.n:=by rw[←hBB]
  have ownb:∀ {hx p cells},OwnC h hx p cells→OwnC hb hx p cells:=fun o=>by rw[←hBB];exact o
  have ownb':∀ {hx p cells},OwnC hb hx p cells→OwnC h hx p cells:=fun o=>by rw[←hBB]at o;exact o
  have ownn:∀ {hx v xs},OwnN h hx v xs→OwnN hb hx v xs:=fun o=>by rw[←hBB];exact o
  have ownn':∀ {hx v xs},OwnN hb hx v xs→OwnN h hx v xs:=fun o=>by rw[←hBB]at o;exact o
  have e4:Ext hb h4:=by rw[hh4];exact eB.set (by omega) lL'.1 _
  have n4:h4.n=h'.n:=by rw[hh4];rfl
  have m4:h4.mark=h'.mark:=by rw[hh4];rfl
  have w4:∀ k∈h4.wr,k∈h'.wr∨h.n≤k:=fun k hk=>by
   rw[hh4]at hk
   have hk:k∈h'.log L:=hk
   rcases yO hk with rfl|h
   ·exact .inr hnL
   ·exact .inl h
  have g4:∀ k,k≠L→h4.get k=h'.get k:=fun k hk=>by rw[hh4,zM,if_neg hk]
  have ow4:OwnC hb h4 p2 [w]:=by rw[hh4];exact(ownb ow).setR lL' rfl
  have on4:OwnN hb h4 w ((zp s).take i):=by rw[hh4];exact OwnN.setR (ownn on) lL' rfl
  have lL4:Lies h4 L (.loop (busy r)):=by rw[hh4];exact lL'.self
  have lg4:Lies h4 g (.deferred (some [])):=by
   rw[hh4];refine lg'.set ?_
   intro e;subst e;have:=lg'.2;rw[lL'.2]at this;cases this
  clear hh4
  obtain⟨wa,wn,wk,rfl⟩:=SlC.shape on4.sl
  refine go ?_
  refine WO.bl [(zp s).getD i 0] ?_
  intro v5 h5 e5 o5
  have m5:h4.mark≤h4.n:=by omega
  have w5:h5.wr=h4.wr:=e5.wr m5
  refine go ?_
  have e05:=e4.trans e5
  have htl:((zp s).take i).length≤i:=by rw[List.length_take];omega
  refine WO.apNw (OwnN.ext on4 e5) o5.sl e05 (by simp) (by simp only[List.length_singleton];omega) ?_
  intro v6 h6 e6 o6 u6 w6 f6
  have ow6:=zIl (ow4.ext e5) (OwnN.ext on4 e5) u6
  have lL6:=(lL4.ext e5).upd rfl (OwnN.ext on4 e5) u6
  have lg6:=(lg4.ext e5).upd rfl (OwnN.ext on4 e5) u6
  obtain⟨va,vn,vk,rfl⟩:=SlC.shape o6.sl
  refine go ?_
  refine WO.stC0w (cs:=[.slice va vn vk]) ow6 e6 ?_
  intro h7 e7 ow7 u7 w7
  have o6I:OwnI hb h6 (.slice va vn vk) ((zp s).take i++[(zp s).getD i 0]):=by
   rcases o6 with ⟨_,q⟩|q
   ·simp at q
   ·exact q
  have on7:=zDF o6I ow6 u7
  have lL7:=lL6.updC rfl ow6 u7
  have lg7:=lg6.updC rfl ow6 u7
  refine go ?_
  refine zGq lL7 ?_
  have tk:(zp s).take (i+1)=(zp s).take i++[(zp s).getD i 0]:=by rw[List.take_add_one];simp[List.getD,List.getElem?_eq_getElem hi]
  have n57:h'.n≤h7.n:=by have:=e5.n;have:=u6.1;have:=u7.1;omega
  have e8:Ext hb (h7.set L (.loop r)):=e7.set (by omega) lL7.1 _
  have oldg:∀ k,k<h'.n→¬(p2= .pointer (some ⟨k,0,none⟩)∨k=L∨∃ n c,Value.slice wa wn wk= .slice (some ⟨k,0,none⟩) n c)→(h7.set L (.loop r)).get k=h'.get k:=fun k hk hnW=>by
   have h1:k≠L:=fun e=>hnW (.inr (.inl e))
   have a1:=e5.n
   have a2:=u6.1
   rw[zM,if_neg h1,u7.2 k (by omega) (fun e=>hnW (.inl e)),u6.2 k (by omega) (fun b m c e1 e2=> ?_),e5.get k (by omega),g4 k h1]
   subst e2
   rcases on with ⟨q,_⟩|⟨q,q1,q2,q3,q4⟩
   ·rw[q]at e1;cases e1
   ·rw[q3]at e1;cases e1
    exact hnW (.inr (.inr ⟨_,_,q3⟩))
  have belowN:∀ k,k<h.n→¬(p2= .pointer (some ⟨k,0,none⟩)∨k=L∨∃ n c,Value.slice wa wn wk= .slice (some ⟨k,0,none⟩) n c):=fun k hk hW=>by
   rcases hW with hW|rfl|⟨n,c,hW⟩
   ·obtain⟨q,q1,q2,q3,q4⟩:=ow
    rw[q3]at hW;cases hW;omega
   ·omega
   ·rcases on with ⟨q,_⟩|⟨q,q1,q2,q3,q4⟩
    ·rw[q]at hW;cases hW
    ·rw[q3]at hW;cases hW;omega
  have eN:ExtN h (h7.set L (.loop r)):=⟨Nat.le_trans e'.n n57,fun k hk=>(oldg k (Nat.lt_of_lt_of_le hk e'.n) (belowN k hk)).trans (e'.get k hk),fun wf=>e8.wf (by rw[←hBB];exact wf)⟩
  refine⟨rfl,n57,oldg,fun k hk=> ?_,_,⟨eN,lL7.self,lg7.set ?_,_,ownb' (ow7.setR lL7 rfl),?_,rfl⟩,fun k hk=> ?_⟩
  ·have hk:k∈h7.log L:=hk
   rcases yO hk with rfl|hk
   ·exact .inr hnL
   rcases w7 k hk with hk|hk
   ·rcases w6 k hk with hk|hk
    ·rw[w5]at hk;exact w4 k hk
    ·exact .inr (by omega)
   ·exact .inr (by omega)
  ·intro e;subst e;have:=lg7.2;rw[lL7.2]at this;cases this
  ·rw[tk];exact ownn' (OwnN.setR (.inr on7) lL7 rfl)
  ·rcases hk with hk|hk|⟨n,c,hk⟩
   ·exact .inl (.inl hk)
   ·exact .inl (.inr (.inl hk))
   ·refine .inr ?_
    have:=f6 _ _ _ hk
    have:=e5.n;omega
 ·rintro _ h4 ⟨⟨_,e4,lL4,lg4,w,ow4,on4,rfl⟩,m4,r4⟩
  refine⟨lL4,fun r3=> ?_⟩
  have lgL:g≠L:=by intro e;subst e;have:=lg4.2;rw[lL4.2]at this;cases this
  have E4:Ext h h4:=⟨e4.n,e4.get,e4.wf,m4.trans eb.mark,fun hm=>r4.trans (eb.wr hm)⟩
  obtain⟨h5,hh5⟩:∃ h5,h5=h4.set L (.loop r3):=⟨_,rfl⟩
  have e5:Ext h h5:=by rw[hh5];exact E4.set hnL lL4.1 _
  have ow5:OwnC h h5 p2 [w]:=by rw[hh5];exact ow4.setR lL4 rfl
  have on5:OwnN h h5 w ((zp s).take (zp s).length):=by rw[hh5];exact OwnN.setR on4 lL4 rfl
  have lg5:Lies h5 g (.deferred (some [])):=by rw[hh5];exact lg4.set lgL
  rw[←hh5]
  clear hh5
  obtain⟨wa,wn,wk,rfl⟩:=SlC.shape on5.sl
  refine go ?_
  refine WO.stC0 ow5 e5 ?_
  intro h6 e6 ow6 u6
  have on6:OwnN h h6 (.slice wa wn wk) ((zp s).take (zp s).length):=by
   rcases on5 with q|q
   ·exact .inl q
   ·exact .inr (zDF q ow5 u6)
  have lg6:=lg5.updC rfl ow5 u6
  refine go ?_
  refine retK_col lg6 ?_
  refine rt (vs:=[.slice wa wn wk,I 0]) ?_ (Res.consB sl_ (ow6.setR lg6 rfl) rfl (Res.cons sl_ Res.nil))
  rw[List.take_length]at on6
  refine⟨⟨_,rfl,OwnN.setR on6 lg6 rfl⟩,e6.set (by have:=e13.n;omega) lg6.1 _⟩
end Go.Proofs.YtemggiegiejopaaDoor
namespace Go.Proofs.YtemggiegiejopaaDoor
open Go.Am
set_option linter.unusedVariables false
set_option linter.unusedSimpArgs false
set_option maxHeartbeats 1000000
noncomputable def body56:ACode:=(.seq (.region [⟨some 2,none,(.mov (.const (.slice none 0 0)))⟩]) (.seq (.seq (.region [⟨some 3,none,(.mov (.tmp 0))⟩,⟨some 4,none,(.isNil 0 false (.tmp 3))⟩]) (.cond (.tmp 4) (.seq (.region [⟨some 2,none,(.mov (.const (.slice none 0 0)))⟩]) .ret) .skip)) (.seq (.region [⟨some 5,none,(.buildSlice 0 1 [(.int .i64 0)] [])⟩,⟨some 6,none,(.mov (.tmp 0))⟩,⟨some 7,none,(.append 1 (.tmp 5) (.tmp 6))⟩,⟨some 2,none,(.mov (.tmp 7))⟩]) .ret)))
set_option maxRecDepth 100000 in
theorem tab56:tb.code 56=some ⟨8,[(2,none)],body56⟩:=by kernel_rfl
theorem clone_ok (h:AHeap) (v:Value) (l:List Int) (s:SlI h v l) (hl:l.length≤1000000):WC Tryd.prog tb 56 [v] h fun r h'=>OwnN h h' r l∧Ext h h':=by
 refine WC.of (zF 56) tab56 ?_;simp only[zO,Nat.zero_add,Nat.reduceAdd]
 obtain⟨a,n,k,rfl⟩:=SlC.shape s
 cases a with
 |none=>
  have hn:l=[]:=by
   rcases s.2 with ⟨h0,_⟩|⟨g,off,row,hv,_⟩
   ·exact List.length_eq_zero_iff.1 h0
   ·cases hv
  subst hn
  refine go ?_
  refine WX.br (fun hb=> ?_) (fun hb=> ?_)
  ·refine go ?_
   refine rt ?_
   exact⟨.inl ⟨rfl,rfl⟩,Ext.refl _⟩
  ·exact absurd hb (by simp)
 |some a=>
  refine go ?_
  refine WX.br (fun hb=> ?_) (fun hb=> ?_)
  ·exact absurd hb (by simp)
  ·refine go ?_
   refine WO.bl [] ?_
   intro v1 h1 e1 o1
   have s1:=SlI.ext s e1
   refine go ?_
   refine WO.apN (.inr o1) s1 e1 (by simp only[List.length_nil];omega) ?_
   intro v2 h2 e2 o2
   refine go ?_
   refine rt ?_
   exact⟨o2,e2⟩
theorem zI9 {x:Int} {l:List Int}:x∈zBz l↔x∈l:=(List.mergeSort_perm l _).mem_iff
theorem zIe (l:List Int):(zBz l).length=l.length:=(List.mergeSort_perm l _).length_eq
theorem zG1 (l:List Int):(zBz l).Pairwise (·≤·):=by
 have hp:(zBz l).Pairwise (fun a b=>decide (a≤b)=true):=List.pairwise_mergeSort (fun a b c h1 h2=>by simp only[decide_eq_true_eq]at *;omega) (fun a b=>by simp only[Bool.or_eq_true,decide_eq_true_eq];omega) l
 exact hp.imp fun h=>of_decide_eq_true h
theorem upto_le {s:List LWd} {xs:List Int} {n:Int} (u:Upto s xs) (h:∀ x∈xs,x≤n):∀ w∈s,w.pos≤n / 64:=by
 intro w hw
 obtain⟨a,b,c,d⟩:=u.ok.each w hw
 obtain⟨k,hk⟩:=zCz c
 have hk2:=Zx d hk
 have:=(u.mem (64 * w.pos+k)).1 ⟨w,hw,by omega,by rw[show ((64 * w.pos+(k:Int)) % 64).toNat=k by omega];exact hk⟩
 have:=h _ this
 omega
def ofE (l:List Int):Int:=if l.all (fun n=>decide (0≤n)&&decide (n<1048576)) then 0 else 2
theorem ofE_bad {l:List Int} {n:Int} (h:n∈l) (hn:(decide (0≤n)&&decide (n<1048576))=false):ofE l=2:=by
 unfold ofE
 rw[if_neg fun ha=>by
  have:=List.all_eq_true.1 ha n h
  rw[hn]at this;cases this]
theorem zDW {l:List Int} (h:∀ n∈l,0≤n∧n<1048576):ofE l=0:=by
 unfold ofE
 rw[if_pos (List.all_eq_true.2 fun n hn=>by have:=h n hn;simp[this.1,this.2])]
theorem Upto.perm {s:List LWd} {xs ys:List Int} (u:Upto s xs) (h:∀ n,n∈xs↔n∈ys):Upto s ys:=⟨u.ok,fun n=>(u.mem n).trans (h n)⟩
theorem zJJ {α:Type} (l:List α) (h:l≠[]):∃ s w,l=s++[w]:=⟨l.dropLast,l.getLast h,(List.dropLast_concat_getLast h).symm⟩
theorem upto_nil:Upto [] []:=⟨OkW.nil,fun n=>⟨(fun ⟨_,h,_⟩=>by cases h),(fun h=>by cases h)⟩⟩
noncomputable def body46_0:ACode:=(.seq (.region [⟨some 17,none,(.bin .lss (.tmp 16) (.tmp 15))⟩]) (.seq (.cond (.tmp 17) .skip (.exit 0)) (.seq (.block 1 (.seq (.region [⟨some 18,none,(.idx 1 (.tmp 14) (.tmp 16))⟩,⟨some 19,none,(.load false 1 (.tmp 18))⟩,⟨some 7,none,(.mov (.tmp 19))⟩]) (.seq (.seq (.region [⟨some 20,none,(.mov (.tmp 7))⟩,⟨some 21,none,(.call (.func 58) [(.tmp 20)])⟩,⟨some 22,none,(.un .not (.tmp 21))⟩]) (.cond (.tmp 22) (.seq (.region [⟨some 2,none,(.mov (.const (.slice none 0 0)))⟩,⟨some 3,none,(.mov (.const (.int .i64 2)))⟩]) .ret) .skip)) (.seq (.region [⟨some 23,none,(.mov (.tmp 7))⟩,⟨some 24,none,(.bin .quo (.tmp 23) (.const (.int .i64 64)))⟩,⟨some 8,none,(.mov (.tmp 24))⟩]) (.seq (.seq (.region [⟨some 25,none,(.mov (.tmp 5))⟩,⟨some 26,none,(.len (.tmp 25))⟩,⟨some 9,none,(.mov (.tmp 26))⟩]) (.seq (.region [⟨some 27,none,(.mov (.tmp 9))⟩,⟨some 28,none,(.bin .eql (.tmp 27) (.const (.int .i64 0)))⟩,⟨some 29,none,(.mov (.tmp 28))⟩,⟨some 30,some (29,false),(.mov (.tmp 5))⟩,⟨some 31,some (29,false),(.mov (.tmp 9))⟩,⟨some 32,some (29,false),(.bin .sub (.tmp 31) (.const (.int .i64 1)))⟩,⟨some 33,some (29,false),(.idx 2 (.tmp 30) (.tmp 32))⟩,⟨some 34,some (29,false),(.fld 0 (.tmp 33))⟩,⟨some 35,some (29,false),(.load false 1 (.tmp 34))⟩,⟨some 36,some (29,false),(.mov (.tmp 8))⟩,⟨some 37,some (29,false),(.bin .neq (.tmp 35) (.tmp 36))⟩,⟨some 38,none,(.pick (.tmp 29) (.const (.bool true)) (.tmp 37))⟩]) (.cond (.tmp 38) (.region [⟨some 39,none,(.mov (.tmp 5))⟩,⟨some 40,none,(.mov (.tmp 8))⟩,⟨some 41,none,(.build [(.int .i64 0),(.int .u64 0)] [(0,1,(.tmp 40))])⟩,⟨some 42,none,(.buildSlice 1 2 [(.int .i64 0),(.int .u64 0)] [(0,2,(.tmp 41))])⟩,⟨some 43,none,(.append 2 (.tmp 39) (.tmp 42))⟩,⟨some 5,none,(.mov (.tmp 43))⟩]) .skip))) (.regionC [(⟨some 44,none,(.mov (.tmp 5))⟩,[]),(⟨some 45,none,(.mov (.tmp 5))⟩,[]),(⟨some 46,none,(.len (.tmp 45))⟩,[]),(⟨some 47,none,(.bin .sub (.tmp 46) (.const (.int .i64 1)))⟩,[]),(⟨some 48,none,(.idx 2 (.tmp 44) (.tmp 47))⟩,[]),(⟨some 49,none,(.fld 1 (.tmp 48))⟩,[]),(⟨some 50,none,(.load false 1 (.tmp 49))⟩,[]),(⟨some 51,none,(.mov (.tmp 7))⟩,[]),(⟨some 52,none,(.bin .rem (.tmp 51) (.const (.int .i64 64)))⟩,[]),(⟨some 53,none,(.bin .shl (.const (.int .u64 1)) (.tmp 52))⟩,[]),(⟨some 54,none,(.bin .or (.tmp 50) (.tmp 53))⟩,[]),(⟨some 55,none,(.idx 2 (.tmp 44) (.tmp 47))⟩,[]),(⟨some 56,none,(.fld 1 (.tmp 55))⟩,[]),(⟨none,none,(.store 1 (.tmp 56) (.tmp 54))⟩,[])])))))) (.region [⟨some 57,none,(.bin .add (.tmp 16) (.const (.int .i64 1)))⟩,⟨some 16,none,(.mov (.tmp 57))⟩]))))
noncomputable def body46:ACode:=(.seq (.region [⟨some 2,none,(.mov (.const (.slice none 0 0)))⟩,⟨some 3,none,(.mov (.const (.int .i64 0)))⟩]) (.seq (.region [⟨some 10,none,(.mov (.tmp 0))⟩,⟨some 11,none,(.call (.func 56) [(.tmp 10)])⟩,⟨some 4,none,(.mov (.tmp 11))⟩]) (.seq (.region [⟨some 12,none,(.mov (.tmp 4))⟩,⟨some 13,none,(.call (.func 57) [(.tmp 12)])⟩]) (.seq (.region [⟨some 5,none,(.mov (.const (.slice none 0 0)))⟩]) (.seq (.seq (.region [⟨some 14,none,(.mov (.tmp 4))⟩,⟨some 15,none,(.len (.tmp 14))⟩,⟨some 16,none,(.mov (.const (.int .i64 0)))⟩]) (.block 0 (.loop body46_0))) (.seq (.region [⟨some 58,none,(.mov (.tmp 5))⟩,⟨some 2,none,(.mov (.tmp 58))⟩,⟨some 3,none,(.mov (.const (.int .i64 0)))⟩]) .ret))))))
set_option maxRecDepth 100000 in
theorem tab46:tb.code 46=some ⟨59,[(2,none),(3,none)],body46⟩:=by kernel_rfl
theorem bOf_ok (h:AHeap) (v:Value) (l:List Int) (s:SlI h v l) (hl:l.length≤10000) (hm:h.mark≤h.n):
  WC Tryd.prog tb 46 [v] h fun r h'=>(∃ w t,r= .tuple #[w,I (ofE l)]∧MineW h h' w t∧(ofE l=0→Upto t l)∧(ofE l≠0→t=[]))∧Ext h h':=by
 refine WC.of (zF 46) tab46 ?_;simp only[zO,Nat.zero_add,Nat.reduceAdd]
 refine go ?_
 refine WO.con (clone_ok h v l s (by omega)) ?_
 rintro c h1 ⟨o1,e1⟩
 refine go ?_
 refine WO.con (sort_ok h h1 c l e1 hm o1 (by omega)) ?_
 rintro _ h2 ⟨o2,e2,_⟩
 have sl2:=o2.sl
 have hlen:=zIe l
 have hrise:=zG1 l
 have hmem:∀ n,n∈zBz l↔n∈l:=fun n=>zI9
 generalize zBz l=L at *
 have hrise:=Hid.mk hrise
 have hmem:=Hid.mk hmem
 have hm2:h2.mark≤h2.n:=by have:=e2.mark;have:=e2.n;omega
 refine go ?_
 refine WX.loopA [17,18,19,7,20,21,22,2,3,23,24,8,25,26,9,27,28,29,30,31,32,33,34,35,36,37,38,39,40,41,42,43,5,44,45,46,47,48,49,50,51,52,53,54,55,56,57,16] (by kernel_rfl) (fun i=>L.length - i) (fun i t h3=>∃ w out,zC t 16=I i∧i≤L.length∧Ext h2 h3∧zC t 5=w∧OwnW h2.n h3 w out∧Hid (Upto out (L.take i))∧out.length≤i∧Hid (∀ j,j<i→0≤L.getD j 0∧L.getD j 0<1048576)) 0 ?_ ?_
 ·exact⟨_,[],sl_,Nat.zero_le _,Ext.refl _,sl_,OwnR.nil,⟨upto_nil⟩,Nat.le_refl _,⟨fun j hj=>by omega⟩⟩
 rintro i t h3 hsame ⟨w,out,s16,hi,e3,s5,ow,hU,hol,hin⟩
 have sl3:SlI h3 c L:=SlI.ext sl2 e3
 refine go ?_
 refine WX.br (fun hb=> ?_) (fun hb=> ?_)<;>simp only[DB]at hb
 ·have hi':i<L.length:=by omega
  refine go ?_
  refine WO.con (zJG h3 (L.getD i 0)) ?_
  rintro _ _ ⟨rfl,rfl⟩
  have hmi:L.getD i 0∈L:=by rw[List.getD_eq_getElem?_getD,List.getElem?_eq_getElem hi'];exact List.getElem_mem hi'
  have htk:L.take (i+1)=L.take i++[L.getD i 0]:=by rw[List.take_add_one];simp[List.getD,List.getElem?_eq_getElem hi']
  have hle:∀ x∈L.take i,x≤L.getD i 0:=fun x hx=>by
   obtain⟨j,hj,rfl⟩:=List.getElem_of_mem hx
   rw[List.length_take]at hj
   rw[List.getElem_take,List.getD_eq_getElem?_getD,List.getElem?_eq_getElem hi']
   exact List.pairwise_iff_getElem.1 hrise.out j i (by omega) hi' (by omega)
  have hup:=upto_le hU.out hle
  by_cases hw:(decide (0≤L.getD i 0)&&decide (L.getD i 0<1048576))=false
  ·rw[hw]
   have hE:=ofE_bad ((hmem.out _).1 hmi) hw
   refine go ?_
   refine rt ?_
   rw[hE]
   exact⟨⟨_,[],rfl,MineW.nil,(fun h=>by cases h),fun _=>rfl⟩,e2.trans e3⟩
  have hw:(decide (0≤L.getD i 0)&&decide (L.getD i 0<1048576))=true:=by simpa using hw
  have hn:0≤L.getD i 0∧L.getD i 0<1048576:=by simpa using hw
  rw[hw]
  generalize hnn:L.getD i 0=n at *
  have htk:=Hid.mk htk
  have hin2:Hid (∀ j,j<i+1→0≤L.getD j 0∧L.getD j 0<1048576):=⟨fun j hj=>by
   by_cases e:j=i
   ·subst e;rw[hnn];exact hn
   ·exact hin.out j (by omega)⟩
  clear hle hmi hw
  have hup:=Hid.mk hup
  refine go ?_
  refine WO.bin ze rfl (b_quo hn.1 (by omega)) ?_
  have owl:=OwnR.sl ow
  have hm3:h3.mark≤h2.n:=by rw[e3.mark];exact hm2
  by_cases h0:out.length=0
  ·have ho:out=[]:=List.eq_nil_of_length_eq_zero h0
   subst ho
   refine go ?_
   refine WO.apRw (b:=h2.n) (R:=RW) (hB:=h2) ⟨n / 64,0⟩ (fun _=>False) ow e3 (Nat.le_refl _) e3.n (by decide) (by omega) (RW.dep (show (0:Nat)<18446744073709551616 by decide) (by simp only;omega) (by simp only;omega) _) (fun k hk=>hk.elim) (fun _ _ _ _ h=>h) ?_
   intro w5 h5 lit e5 ow5 n5 keep5 wr5
   obtain⟨va,vn,vk,rfl,_⟩:=Z7 ow5
   obtain⟨O5,sI,lw,hO,hsI,hlw⟩:∃ (O5 sI:List LWd) (lw:LWd),O5=sI++[lw]∧sI=[]∧lw=⟨n / 64,0⟩:=⟨_,_,_,rfl,rfl,rfl⟩
   have ow5:OwnW h2.n h5 (.slice va vn vk) O5:=by rw[hO,hsI,hlw];exact ow5
   have hsl:sI.length=0:=by rw[hsI];rfl
   have hsl:sI.length≤i:=by omega
   have hO5:O5.length=sI.length+1:=by rw[hO];simp
   have hlO:O5.length≤20000:=by omega
   refine go ?_
   refine WX.regionU2 0 rfl rfl ?_
   have owX:OwnW h2.n (zB 0 h5) (.slice va vn vk) O5:=OwnR.upd ow5 (fun _ _ _=>rfl) (Nat.le_refl _)
   have slX:SlW (inC (zB 0 h5)) (.slice va vn vk) O5:=OwnR.sl owX
   obtain⟨cs,⟨rfl,y1,y2,y3⟩,pc,hs⟩:=zCg (i:=((O5.length:Int) - 1).toNat) slX (by omega)
   have hgl:O5.getD ((O5.length:Int) - 1).toNat default=lw:=by
    rw[show ((O5.length:Int) - 1).toNat=sI.length by omega,hO];simp[List.getD]
   rw[hgl]at y1 y2 y3 pc
   have hsh:zi .shl (W 1) (I (n % 64))=some (W (2 ^ (n % 64).toNat)):=by
    rw[show I (n % 64)=I (((n % 64).toNat:Nat):Int) by congr 1;omega];exact(zCZ (by omega)).1
   have hp2:2 ^ (n % 64).toNat<18446744073709551616:=(zCZ (k:=(n % 64).toNat) (by omega)).2
   have hor:=u_or y1 hp2
   generalize hk2:2 ^ (n % 64).toNat=k2 at hsh hp2 hor
   refine goU ?_
   refine WO.bin ze rfl (b_rem hn.1) ?_
   refine WO.nil ?_
   refine yU ?_
   refine goU ?_
   refine WO.bin rfl ze hsh ?_
   refine WO.nil ?_
   refine yU ?_
   refine goU ?_
   refine WO.bin ze ze hor.1 ?_
   refine WO.nil ?_
   refine yU ?_
   refine goU ?_
   refine WU2.stR (i:=((O5.length:Int) - 1).toNat) (off:=1) (cs:=[W (lw.bits|||k2)]) (ho:=by simp) ⟨lw.pos,lw.bits|||k2⟩ owX e5 (by rw[e5.mark];exact hm2) rfl (Nat.le_refl _) (by omega) (fun old hx hr ho=>by
    rw[hgl]at hr
    obtain⟨rfl,r1,r2,r3⟩:=hr
    exact⟨rfl,hor.2,r2,r3⟩) ?_
   intro h6 e6 ow6 n6 f6
   have hset:O5.set ((O5.length:Int) - 1).toNat ⟨lw.pos,lw.bits|||k2⟩=sI++[⟨lw.pos,lw.bits|||k2⟩]:=by
    rw[show ((O5.length:Int) - 1).toNat=sI.length by omega,hO,List.set_append_right _ _ (Nat.le_refl _),Nat.sub_self];rfl
   rw[hset]at ow6
   refine go ?_
   refine zA (i+1) (by omega) ⟨_,_,sln,by omega,e6,sl_,ow6,⟨?_⟩,by simp only[List.length_append,List.length_singleton];omega,hin2⟩
   rw[htk.out,←hk2]
   subst hlw hsI
   have:=hU.out.new hn (fun w hw=>by cases hw)
   rw[Nat.zero_or];exact this
  ·obtain⟨sI,lw,hO⟩:=zJJ out (fun e=>h0 (by rw[e];rfl))
   have hO5:out.length=sI.length+1:=by rw[hO];simp
   obtain⟨cs,⟨rfl,y1,y2,y3⟩,pc,hs⟩:=zCg (i:=((out.length:Int) - 1).toNat) owl (by omega)
   have hgl:out.getD ((out.length:Int) - 1).toNat default=lw:=by
    rw[show ((out.length:Int) - 1).toNat=sI.length by omega,hO];simp[List.getD]
   rw[hgl]at y1 y2 y3 pc
   by_cases hat:lw.pos=n / 64
   ·refine go ?_
    clear pc y1 y2 y3 hs hgl hO5
    obtain⟨O5,hOO⟩:∃ O5,O5=out:=⟨_,rfl⟩
    rw[←hOO]at ow hO hol
    have hsl:sI.length≤i:=by rw[hO,List.length_append,List.length_singleton]at hol;omega
    have hO5:O5.length=sI.length+1:=by rw[hO];simp
    have hlO:O5.length≤20000:=by omega
    refine go ?_
    refine WX.regionU2 0 rfl rfl ?_
    have owX:OwnW h2.n (zB 0 h3) w O5:=OwnR.upd ow (fun _ _ _=>rfl) (Nat.le_refl _)
    have slX:SlW (inC (zB 0 h3)) w O5:=OwnR.sl owX
    obtain⟨cs,⟨rfl,y1,y2,y3⟩,pc,hs⟩:=zCg (i:=((O5.length:Int) - 1).toNat) slX (by omega)
    have hgl:O5.getD ((O5.length:Int) - 1).toNat default=lw:=by
     rw[show ((O5.length:Int) - 1).toNat=sI.length by omega,hO];simp[List.getD]
    rw[hgl]at y1 y2 y3 pc
    have hsh:zi .shl (W 1) (I (n % 64))=some (W (2 ^ (n % 64).toNat)):=by
     rw[show I (n % 64)=I (((n % 64).toNat:Nat):Int) by congr 1;omega];exact(zCZ (by omega)).1
    have hp2:2 ^ (n % 64).toNat<18446744073709551616:=(zCZ (k:=(n % 64).toNat) (by omega)).2
    have hor:=u_or y1 hp2
    generalize hk2:2 ^ (n % 64).toNat=k2 at hsh hp2 hor
    refine goU ?_
    refine WO.bin ze rfl (b_rem hn.1) ?_
    refine WO.nil ?_
    refine yU ?_
    refine goU ?_
    refine WO.bin rfl ze hsh ?_
    refine WO.nil ?_
    refine yU ?_
    refine goU ?_
    refine WO.bin ze ze hor.1 ?_
    refine WO.nil ?_
    refine yU ?_
    refine goU ?_
    refine WU2.stR (i:=((O5.length:Int) - 1).toNat) (off:=1) (cs:=[W (lw.bits|||k2)]) (ho:=by simp) ⟨lw.pos,lw.bits|||k2⟩ owX e3 (by rw[e3.mark];exact hm2) rfl (Nat.le_refl _) (by omega) (fun old hx hr ho=>by
     rw[hgl]at hr
     obtain⟨rfl,r1,r2,r3⟩:=hr
     exact⟨rfl,hor.2,r2,r3⟩) ?_
    intro h6 e6 ow6 n6 f6
    have hset:O5.set ((O5.length:Int) - 1).toNat ⟨lw.pos,lw.bits|||k2⟩=sI++[⟨lw.pos,lw.bits|||k2⟩]:=by
     rw[show ((O5.length:Int) - 1).toNat=sI.length by omega,hO,List.set_append_right _ _ (Nat.le_refl _),Nat.sub_self];rfl
    rw[hset]at ow6
    refine go ?_
    refine zA (i+1) (by omega) ⟨_,_,sln,by omega,e6,sl_,ow6,⟨?_⟩,by simp only[List.length_append,List.length_singleton];omega,hin2⟩
    rw[htk.out,←hk2]
    subst hOO
    rw[hO]at hU
    exact hU.out.old hn hat
   ·refine go ?_
    refine WO.apRw (b:=h2.n) (R:=RW) (hB:=h2) ⟨n / 64,0⟩ (fun _=>False) ow e3 (Nat.le_refl _) e3.n (by decide) (by omega) (RW.dep (show (0:Nat)<18446744073709551616 by decide) (by simp only;omega) (by simp only;omega) _) (fun k hk=>hk.elim) (fun _ _ _ _ h=>h) ?_
    intro w5 h5 lit e5 ow5 n5 keep5 wr5
    obtain⟨va,vn,vk,rfl,_⟩:=Z7 ow5
    clear pc y1 y2 y3 hs hgl hO5
    have hfar:∀ x∈out,x.pos<n / 64:=fun x hx=>by
     have hle:=hup.out x hx
     rcases List.mem_append.1 (hO▸hx:x∈sI++[lw])with h|h
     ·have h1:=(List.pairwise_append.1 (hO▸hU.out.ok.rise:(sI++[lw]).Pairwise _)).2.2 x h lw (by simp)
      have h2:=hup.out lw (by rw[hO];simp)
      omega
     ·rw[List.mem_singleton]at h;subst h;omega
    have hfar:=Hid.mk hfar
    clear hO
    obtain⟨O5,sI2,lw2,hO,hsI,hlw⟩:∃ (O5 sI:List LWd) (lw:LWd),O5=sI++[lw]∧sI=out∧lw=⟨n / 64,0⟩:=⟨_,_,_,rfl,rfl,rfl⟩
    have ow5:OwnW h2.n h5 (.slice va vn vk) O5:=by rw[hO,hsI,hlw];exact ow5
    have hsl:sI2.length=out.length:=by rw[hsI]
    have hsl:sI2.length≤i:=by omega
    have hO5:O5.length=sI2.length+1:=by rw[hO];simp
    have hlO:O5.length≤20000:=by omega
    refine go ?_
    refine WX.regionU2 0 rfl rfl ?_
    have owX:OwnW h2.n (zB 0 h5) (.slice va vn vk) O5:=OwnR.upd ow5 (fun _ _ _=>rfl) (Nat.le_refl _)
    have slX:SlW (inC (zB 0 h5)) (.slice va vn vk) O5:=OwnR.sl owX
    obtain⟨cs,⟨rfl,y1,y2,y3⟩,pc,hs⟩:=zCg (i:=((O5.length:Int) - 1).toNat) slX (by omega)
    have hgl:O5.getD ((O5.length:Int) - 1).toNat default=lw2:=by
     rw[show ((O5.length:Int) - 1).toNat=sI2.length by omega,hO];simp[List.getD]
    rw[hgl]at y1 y2 y3 pc
    have hsh:zi .shl (W 1) (I (n % 64))=some (W (2 ^ (n % 64).toNat)):=by
     rw[show I (n % 64)=I (((n % 64).toNat:Nat):Int) by congr 1;omega];exact(zCZ (by omega)).1
    have hp2:2 ^ (n % 64).toNat<18446744073709551616:=(zCZ (k:=(n % 64).toNat) (by omega)).2
    have hor:=u_or y1 hp2
    generalize hk2:2 ^ (n % 64).toNat=k2 at hsh hp2 hor
    refine goU ?_
    refine WO.bin ze rfl (b_rem hn.1) ?_
    refine WO.nil ?_
    refine yU ?_
    refine goU ?_
    refine WO.bin rfl ze hsh ?_
    refine WO.nil ?_
    refine yU ?_
    refine goU ?_
    refine WO.bin ze ze hor.1 ?_
    refine WO.nil ?_
    refine yU ?_
    refine goU ?_
    refine WU2.stR (i:=((O5.length:Int) - 1).toNat) (off:=1) (cs:=[W (lw2.bits|||k2)]) (ho:=by simp) ⟨lw2.pos,lw2.bits|||k2⟩ owX e5 (by rw[e5.mark];exact hm2) rfl (Nat.le_refl _) (by omega) (fun old hx hr ho=>by
     rw[hgl]at hr
     obtain⟨rfl,r1,r2,r3⟩:=hr
     exact⟨rfl,hor.2,r2,r3⟩) ?_
    intro h6 e6 ow6 n6 f6
    have hset:O5.set ((O5.length:Int) - 1).toNat ⟨lw2.pos,lw2.bits|||k2⟩=sI2++[⟨lw2.pos,lw2.bits|||k2⟩]:=by
     rw[show ((O5.length:Int) - 1).toNat=sI2.length by omega,hO,List.set_append_right _ _ (Nat.le_refl _),Nat.sub_self];rfl
    rw[hset]at ow6
    refine go ?_
    refine zA (i+1) (by omega) ⟨_,_,sln,by omega,e6,sl_,ow6,⟨?_⟩,by simp only[List.length_append,List.length_singleton];omega,hin2⟩
    rw[htk.out,←hk2]
    subst hlw hsI
    have:=hU.out.new hn hfar.out
    rw[Nat.zero_or];exact this
 ·refine go ?_
  refine rt ?_
  have hiL:i=L.length:=by omega
  subst hiL
  rw[List.take_length]at hU
  have hE:ofE l=0:=zDW fun n hn=>by
   obtain⟨j,hj,e⟩:=List.getElem_of_mem ((hmem.out n).2 hn)
   have:=hin.out j hj
   rwa [List.getD_eq_getElem?_getD,List.getElem?_eq_getElem hj,Option.getD_some,e]at this
  rw[hE]
  subst s5
  exact⟨⟨_,out,rfl,⟨h2.n,e2.n,ow⟩,fun _=>hU.out.perm hmem.out,fun h=>absurd rfl h⟩,e2.trans e3⟩
end Go.Proofs.YtemggiegiejopaaDoor
namespace Go.Proofs.YtemggiegiejopaaDoor
open Go.Am
set_option linter.unusedVariables false
set_option linter.unusedSimpArgs false
theorem ZA (f:Nat→Nat→Nat):∀ A B:List LWd,(zj f A B).length≤A.length+B.length
 |[],[]=>by rw[zj];exact Nat.le_refl _
 |x::a,[]=>by
  have:=ZA f a []
  rw[zj];unfold zAK;split<;>simp only[List.length_cons,List.length_nil]at * <;>omega
 |[],y::b=>by
  have:=ZA f [] b
  rw[zj];unfold zAK;split<;>simp only[List.length_cons,List.length_nil]at * <;>omega
 |x::a,y::b=>by
  rw[zj]
  have h1:=ZA f a (y::b)
  have h2:=ZA f (x::a) b
  have h3:=ZA f a b
  unfold zAK
  split
  ·split<;>simp only[List.length_cons]at * <;>omega
  ·split
   ·split<;>simp only[List.length_cons]at * <;>omega
   ·split<;>simp only[List.length_cons]at * <;>omega
 termination_by A B=>A.length+B.length
theorem Y2 {s:List LWd} (h:OkW s):z8 (-1) s=true:=(zIN h.bd).2 h
abbrev orL (A B:List LWd):=zj (fun a b=>a|||b) A B
abbrev minL (A B:List LWd):=zj zCO A B
theorem or_is {A B:List LWd} (ha:OkW A) (hb:OkW B):OkW (orL A B)∧∀ n,inB (orL A B) n=(inB A n||inB B n):=let ⟨a,b,_⟩:=Zn bit_or ha hb;⟨a,b⟩
theorem min_is {A B:List LWd} (ha:OkW A) (hb:OkW B):OkW (minL A B)∧∀ n,inB (minL A B) n=(inB A n&& !inB B n):=let ⟨a,b,_⟩:=Zn bit_not ha hb;⟨a,b⟩
theorem zDl {A B:List LWd} (ha:OkW A) (hb:OkW B):zCi A B=0:=by unfold zCi;rw[Y2 ha,Y2 hb];rfl
theorem zD1 {f:Nat→Nat→Nat} {A B:List LWd} (ha:OkW A) (hb:OkW B):zEO f A B=zj f A B:=by unfold zEO;rw[Y2 ha,Y2 hb];rfl
section
variable {P:Program} {tab:Tab} {t:Trie Value} {h:AHeap} {ds:List Deferred} {rd:Option Nat} {l:List AOper} {Q:AFr→AHeap→Prop}
end
end Go.Proofs.YtemggiegiejopaaDoor
namespace Go.Proofs.YtemggiegiejopaaDoor
open Go.Am
set_option linter.unusedVariables false
set_option linter.unusedSimpArgs false
end Go.Proofs.YtemggiegiejopaaDoor
namespace Go.Proofs.YtemggiegiejopaaDoor
open Go.Am
set_option linter.unusedVariables false
set_option linter.unusedSimpArgs false
def TwoP (op:Int):Prop:=(4≤op∧op≤10)∨op=15∨op=17
def HasAP (op:Int):Prop:=TwoP op∨op=13∨op=14∨op=16∨op=19∨op=21
def zGI (op:Int):Prop:=op=18∨op=19∨op=22
def AnsP (op:Int):Prop:=1≤op∧op≤22∧op≠13∧op≠17∧op≠21
theorem zEz {op:Int} (h:0≤op):((z9 op).2.1=true↔TwoP op)∧((z9 op).1=true↔HasAP op)∧((z9 op).2.2.2.1=true↔zGI op)∧((z9 op).2.2.2.2.2=true↔AnsP op)∧((z9 op).2.2.2.2.1=true↔op=22)∧((z9 op).2.2.1=true↔op=1∨op=3∨op=14∨op=18)∧(z9 op=(false,false,false,false,false,false)↔op<1∨22<op):=by
 obtain⟨n,rfl⟩:=Int.eq_ofNat_of_zero_le h
 by_cases hn:n<23
 ·clear h
  unfold HasAP zGI AnsP TwoP
  have hz:(List.range 23).all (fun (n:Nat)=>decide (z9 (n:Int)=(false,false,false,false,false,false)) == decide ((n:Int)<1∨22<(n:Int)))=true:=by decide+kernel
  have hz:=List.all_eq_true.1 hz n (List.mem_range.2 hn)
  rw[beq_iff_eq,decide_eq_decide]at hz
  refine⟨?_,?_,?_,?_,?_,?_,hz⟩<;>(clear hz;revert n;decide+kernel)
 ·have e:z9 (n:Int)=(false,false,false,false,false,false):=by
   unfold z9
   rw[List.getD,List.getElem?_eq_none (by simp only[hasT,List.length_cons,List.length_nil];omega)];rfl
  rw[e]
  unfold HasAP zGI AnsP TwoP
  simp only[Bool.false_eq_true,false_iff,true_iff]
  omega
def YV (x:LIns):List Int:=(if (z9 x.op).1 then [x.a] else [])++((if (z9 x.op).2.1 then [x.b] else [])++(if (z9 x.op).2.2.2.1 then x.args else []))
def NumP (x:LIns) (funcs:Int):Prop:=if x.op=1 then True else if x.op=3∨x.op=18 then 0≤x.n∧x.n<funcs else if x.op=14 then 0≤x.n∧x.n<8 else x.n=0
def Btw (l:List Int) (m:Int):Prop:=∀ p∈l,0≤p∧p<m
structure MayI (x:LIns) (s:LSz):Prop where
 op:1≤x.op∧x.op≤22
 uses:Btw (YV x) s.regs
 num:NumP x s.funcs
 a:(z9 x.op).1=true∨x.a=0
 b:(z9 x.op).2.1=true∨x.b=0
 g:(z9 x.op).2.2.2.1=true∨(x.args.length:Int)≤0
 ans:if (z9 x.op).2.2.2.2.2 then 0≤x.ty∧x.ty<s.types else x.ty=0
 frm:if (z9 x.op).2.2.2.2.1 then (x.frm.length:Int)=x.args.length∧1≤(x.frm.length:Int)∧(x.frm.length:Int)≤16∧Btw x.frm s.blocks else (x.frm.length:Int)=0∧(x.args.length:Int)≤4
theorem zDy {l:List Int} {m:Int}:allL l m=true↔Btw l m:=by
 unfold allL zQ Btw
 simp[List.all_eq_true]
theorem zDN {l k:List Int} {m:Int}:Btw (l++k) m↔Btw l m∧Btw k m:=by
 unfold Btw
 constructor
 ·exact fun h=>⟨fun p hp=>h p (List.mem_append.2 (.inl hp)),fun p hp=>h p (List.mem_append.2 (.inr hp))⟩
 ·exact fun h p hp=>(List.mem_append.1 hp).elim (h.1 p) (h.2 p)
theorem zHj {c:Bool} {l:List Int} {m:Int}:Btw (if c then l else []) m↔(c=true→Btw l m):=by
 cases c
 ·simp[Btw]
 ·simp
theorem zDB {a m:Int}:Btw [a] m↔zQ a m=true:=by unfold Btw zQ;simp
theorem zGB {x:LIns} {s:LSz} (ho:0≤x.op):NumP x s.funcs↔Yl x s=true∧((z9 x.op).2.2.1=true∨x.n=0):=by
 obtain⟨_,_,_,_,_,hn,_⟩:=zEz ho
 rw[hn]
 unfold NumP Yl
 by_cases h1:x.op=1
 ·simp[h1]
 by_cases h3:x.op=3∨x.op=18
 ·rw[if_neg h1,if_pos h3,if_pos h3,Bool.and_eq_true,decide_eq_true_iff,decide_eq_true_iff];omega
 by_cases h14:x.op=14
 ·rw[if_neg h1,if_neg h3,if_pos h14,if_neg h3,if_pos h14,Bool.and_eq_true,decide_eq_true_iff,decide_eq_true_iff];omega
 ·rw[if_neg h1,if_neg h3,if_neg h14,if_neg h3,if_neg h14];simp;omega
theorem zF7 {x:LIns} {s:LSz} (ho:0≤x.op):zCJ x s=true↔MayI x s:=by
 obtain⟨_,_,_,_,hf,_,hz⟩:=zEz ho
 have hnum:=zGB (x:=x) (s:=s) ho
 have key:MayI x s↔(1≤x.op∧x.op≤22)∧Btw (YV x) s.regs∧NumP x s.funcs∧((z9 x.op).1=true∨x.a=0)∧((z9 x.op).2.1=true∨x.b=0)∧((z9 x.op).2.2.2.1=true∨(x.args.length:Int)≤0)∧(if (z9 x.op).2.2.2.2.2 then 0≤x.ty∧x.ty<s.types else x.ty=0)∧
   (if (z9 x.op).2.2.2.2.1 then (x.frm.length:Int)=x.args.length∧1≤(x.frm.length:Int)∧(x.frm.length:Int)≤16∧Btw x.frm s.blocks else (x.frm.length:Int)=0∧(x.args.length:Int)≤4):=
  ⟨fun ⟨a,b,c,d,e,f,g,h⟩=>⟨a,b,c,d,e,f,g,h⟩,fun ⟨a,b,c,d,e,f,g,h⟩=>⟨a,b,c,d,e,f,g,h⟩⟩
 rw[key,hnum]
 unfold zCJ oddL noneL kindL YV
 simp only
 have hz':(decide (z9 x.op=(false,false,false,false,false,false))=false)↔(1≤x.op∧x.op≤22):=by
  rw[decide_eq_false_iff_not,hz];omega
 have hl0:Btw x.args s.regs∨¬(x.args.length:Int)≤0:=by
  by_cases h:(x.args.length:Int)≤0
  ·left
   have:x.args=[]:=List.eq_nil_of_length_eq_zero (by omega)
   rw[this];exact fun p hp=>by cases hp
  ·exact .inr h
 rw[zDN,zDN,zHj,zHj,zHj,zDB,zDB]
 have hty:(zQ x.ty s.types=true)↔0≤x.ty∧x.ty<s.types:=by unfold zQ;simp
 rw[←hz',←hty,←zDy,←zDy]
 rw[←zDy]at hl0
 generalize decide (z9 x.op=(false,false,false,false,false,false))=Z at *
 generalize z9 x.op=q at *
 obtain⟨A,B,N,G,R,S⟩:=q
 simp only
 generalize zQ x.a s.regs=ba at *
 generalize zQ x.b s.regs=bb at *
 generalize allL x.args s.regs=bg at *
 generalize Yl x s=bn at *
 generalize zQ x.ty s.types=bt at *
 generalize allL x.frm s.blocks=bf at *
 clear hz hf hnum key hz' hty
 generalize x.args.length=la at *
 generalize x.frm.length=lf at *
 generalize x.a=a at *
 generalize x.b=b at *
 generalize x.n=n at *
 generalize x.ty=ty at *
 cases Z<;>simp only[Bool.true_or,Bool.false_or,Bool.not_true,Bool.false_and,Bool.false_eq_true,false_iff,false_and,not_false_eq_true,Bool.true_eq_false,Bool.not_false,Bool.not_true,true_and]
 cases R
 ·cases A<;>cases B<;>cases N<;>cases G<;>cases S<;>simp<;>(constructor<;>intro h<;>simp_all<;>omega)
 ·cases A<;>cases B<;>cases N<;>cases G<;>cases S<;>simp<;>(constructor<;>intro h<;>simp_all<;>omega)
theorem endL_iff {x:LEnd} {s:LSz}:zBP x s=true↔(x.kind=1∧x.a=0∧x.els=0∧Btw [x.to] s.blocks)∨(x.kind=2∧Btw [x.a] s.regs∧Btw [x.to,x.els] s.blocks)∨(x.kind=3∧x.to=0∧x.els=0∧Btw [x.a] s.regs):=by
 have h2:Btw [x.to,x.els] s.blocks↔zQ x.to s.blocks=true∧zQ x.els s.blocks=true:=by unfold Btw zQ;simp
 rw[h2,zDB,zDB]
 unfold zBP
 by_cases k1:x.kind=1
 ·simp[k1,and_assoc]
 by_cases k2:x.kind=2
 ·simp[k2,and_assoc]
 by_cases k3:x.kind=3
 ·simp[k3,and_assoc]
 ·simp[k1,k2,k3]
end Go.Proofs.YtemggiegiejopaaDoor
namespace Go.Proofs.YtemggiegiejopaaDoor
open Go.Am
set_option linter.unusedVariables false
set_option linter.unusedSimpArgs false
def YA (x:LEnd):List Int:=if x.kind=2∨x.kind=3 then [x.a] else []
def yj (x:LIns):List Int:=if x.op=22 then [] else YV x
def zB0 (E:Int→Prop):List LIns→Int→Int→Prop
 |[],_,r=>E r
 |x::l,k,r=>r∈yj x∨(r≠k∧zB0 E l (k+1) r)
def Za (par:Int) (L:List LBlk) (b:Int):Int:=par+yJ (L.take b.toNat)
def yZ (par:Int) (L:List LBlk) (b:Int) (k:Nat) (E:Int→Prop) (r:Int):Prop:=
 zB0 (fun r=>r∈YA (L.getD b.toNat default).fin∨E r) ((L.getD b.toNat default).ins.drop k) (Za par L b+k) r
def Z2:List Int→List Int→Int→List Int
 |f::fs,a::gs,b=>if f=b then a::Z2 fs gs b else Z2 fs gs b
 |_,_,_=>[]
def ZX (B:LBlk) (from':Int):List Int:=B.ins.flatMap fun x=>if x.op=22 then Z2 x.frm x.args from' else []
def Yw (L:List LBlk) (B:Int→Int→Prop) (b r:Int):Prop:=∃ k∈nxL L b,B k r∨r∈ZX (L.getD k.toNat default) b
theorem zDQ {E E':Int→Prop} (h:∀ r,E r→E' r):∀ (l:List LIns) (k r:Int),zB0 E l k r→zB0 E' l k r
 |[],_,r,q=>h r q
 |x::l,k,r,q=>q.imp id fun ⟨a,b⟩=>⟨a,zDQ h l (k+1) r b⟩
theorem yL {par:Int} {L:List LBlk} {b:Int} {k:Nat} {E E':Int→Prop} (h:∀ r,E r→E' r) {r:Int} (q:yZ par L b k E r):yZ par L b k E' r:=
 zDQ (fun r q=>q.imp id (h r)) _ _ _ q
theorem Zl {L:List LBlk} {B B':Int→Int→Prop} {b r:Int} (h:∀ k∈nxL L b,∀ r,B k r→B' k r) (q:Yw L B b r):Yw L B' b r:=
 let ⟨k,hk,q⟩:=q;⟨k,hk,q.imp (h k hk r) id⟩
structure Clo (par:Int) (L:List LBlk) (B E:Int→Int→Prop):Prop where
 e:∀ b r,0≤b→b<(L.length:Int)→Yw L B b r→E b r
 b:∀ b r,0≤b→b<(L.length:Int)→yZ par L b 0 (E b) r→B b r
structure LFix (par:Int) (L:List LBlk) (B E:Int→Int→Prop):Prop where
 e:∀ b r,0≤b→b<(L.length:Int)→(E b r↔Yw L B b r)
 b:∀ b r,0≤b→b<(L.length:Int)→(B b r↔yZ par L b 0 (E b) r)
 least:∀ B' E',Clo par L B' E'→∀ b r,0≤b→b<(L.length:Int)→(B b r→B' b r)∧(E b r→E' b r)
theorem LFix.clo {par L B E} (h:LFix par L B E):Clo par L B E:=⟨fun b r h1 h2 q=>(h.e b r h1 h2).2 q,fun b r h1 h2 q=>(h.b b r h1 h2).2 q⟩
theorem zI2 {par:Int} {L:List LBlk} {b:Int} {E:Int→Prop} {r:Int} {k:Nat} (hk:(L.getD b.toNat default).ins.length≤k):yZ par L b k E r↔r∈YA (L.getD b.toNat default).fin∨E r:=by
 unfold yZ
 rw[List.drop_eq_nil_of_le hk];exact Iff.rfl
theorem zGQ {l:List LIns} {i:Nat} (h:i<l.length):l.drop i=l.getD i default::l.drop (i+1):=by
 rw[List.drop_eq_getElem_cons h,List.getD_eq_getElem?_getD,List.getElem?_eq_getElem h];rfl
theorem zHA {par:Int} {L:List LBlk} {b:Int} {E:Int→Prop} {r:Int} {k:Nat} (hk:k<(L.getD b.toNat default).ins.length):
  yZ par L b k E r↔r∈yj ((L.getD b.toNat default).ins.getD k default)∨(r≠Za par L b+k∧yZ par L b (k+1) E r):=by
 unfold yZ
 rw[zGQ hk,zB0]
 rw[show Za par L b+(k:Int)+1=Za par L b+((k+1:Nat):Int) by omega]
abbrev Zb:=List (List LWd)
def inS (s:Zb) (b r:Int):Prop:=InW (s.getD b.toNat []) r
structure WInv (par:Int) (L:List LBlk) (N:Int) (bg ed:Zb) (K:Int→Prop):Prop where
 lb:bg.length=L.length
 le:ed.length=L.length
 okb:∀ s∈bg,OkW s∧∀ r,InW s r→r<N
 oke:∀ s∈ed,OkW s∧∀ r,InW s r→r<N
 low:∀ b r,0≤b→b<(L.length:Int)→inS ed b r→Yw L (inS bg) b r
 sub:∀ b r,0≤b→b<(L.length:Int)→inS bg b r→yZ par L b 0 (inS ed b) r
 done:∀ b,0≤b→b<(L.length:Int)→¬K b→(∀ r,Yw L (inS bg) b r→inS ed b r)∧∀ r,yZ par L b 0 (inS ed b) r→inS bg b r
 least:∀ B' E',Clo par L B' E'→∀ b r,0≤b→b<(L.length:Int)→(inS bg b r→B' b r)∧(inS ed b r→E' b r)
theorem yy {s:Zb} {b c r:Int} {x:List LWd} (hb:0≤b) (hb2:b<(s.length:Int)) (hc:0≤c):inS (s.set b.toNat x) c r↔if c=b then InW x r else inS s c r:=by
 unfold inS
 by_cases e:c=b
 ·subst e
  rw[if_pos rfl,List.getD_eq_getElem?_getD,List.getElem?_set_self (by omega)];rfl
 ·rw[if_neg e,List.getD_eq_getElem?_getD,List.getElem?_set_ne (by omega),←List.getD_eq_getElem?_getD]
theorem set_ok {s:Zb} {i:Nat} {x:List LWd} {P:List LWd→Prop} (h:∀ y∈s,P y) (hx:P x):∀ y∈s.set i x,P y:=fun y hy=>by
 rcases List.mem_or_eq_of_mem_set hy with h1|h1
 ·exact h y h1
 ·rw[h1];exact hx
theorem WInv.look {par:Int} {L:List LBlk} {N:Int} {bg ed:Zb} {K K':Int→Prop} {b:Int} {s1 s:List LWd} (I:WInv par L N bg ed K) (hb:0≤b) (hb2:b<(L.length:Int)) (hn:∀ c,0≤c→c<(L.length:Int)→∀ k∈nxL L c,0≤k∧k<(L.length:Int))
  (h1:OkW s1∧∀ r,InW s1 r→r<N) (h2:OkW s∧∀ r,InW s r→r<N) (m1:∀ r,InW s1 r↔inS ed b r∨Yw L (inS bg) b r) (m2:∀ r,InW s r↔yZ par L b 0 (InW s1) r)
  (hK:∀ c,0≤c→c<(L.length:Int)→¬K' c→(c=b∨¬K c)∧(s=bg.getD b.toNat []∨b∉nxL L c)):WInv par L N (bg.set b.toNat s) (ed.set b.toNat s1) K':=by
 have hbl:b<(bg.length:Int):=by rw[I.lb];exact hb2
 have hel:b<(ed.length:Int):=by rw[I.le];exact hb2
 have gb:∀ c r,0≤c→c<(L.length:Int)→inS bg c r→inS (bg.set b.toNat s) c r:=fun c r hc hc2 q=>by
  rw[yy hb hbl hc]
  by_cases e:c=b
  ·subst e
   rw[if_pos rfl,m2]
   exact yL (fun r q=>(m1 r).2 (.inl q)) (I.sub c r hc hc2 q)
  ·rw[if_neg e];exact q
 have ge:∀ r,Yw L (inS bg) b r→Yw L (inS (bg.set b.toNat s)) b r:=fun r q=>Zl (fun k hk r q=>gb k r (hn b hb hb2 k hk).1 (hn b hb hb2 k hk).2 q) q
 have same:∀ c,0≤c→c<(L.length:Int)→(s=bg.getD b.toNat []∨b∉nxL L c)→∀ r,Yw L (inS (bg.set b.toNat s)) c r→Yw L (inS bg) c r:=fun c hc hc2 hs r q=>
  Zl (fun k hk r q=>by
   rw[yy hb hbl (hn c hc hc2 k hk).1]at q
   by_cases e:k=b
   ·subst e
    rw[if_pos rfl]at q
    rcases hs with hs|hs
    ·rw[hs]at q;exact q
    ·exact absurd hk hs
   ·rw[if_neg e]at q;exact q) q
 refine⟨by rw[List.length_set];exact I.lb,by rw[List.length_set];exact I.le,set_ok I.okb h2,set_ok I.oke h1,fun c r hc hc2 q=> ?_,fun c r hc hc2 q=> ?_,fun c hc hc2 hk=> ?_,fun B' E' hcl c r hc hc2=> ?_⟩
 ·rw[yy hb hel hc]at q
  by_cases e:c=b
  ·subst e
   rw[if_pos rfl,m1]at q
   exact ge r (q.elim (I.low c r hc hc2) id)
  ·rw[if_neg e]at q
   exact Zl (fun k hk r q=>gb k r (hn c hc hc2 k hk).1 (hn c hc hc2 k hk).2 q) (I.low c r hc hc2 q)
 ·rw[yy hb hbl hc]at q
  by_cases e:c=b
  ·subst e
   rw[if_pos rfl,m2]at q
   exact yL (fun r q=>by rw[yy hb hel hc,if_pos rfl];exact q) q
  ·rw[if_neg e]at q
   exact yL (fun r q=>by rw[yy hb hel hc,if_neg e];exact q) (I.sub c r hc hc2 q)
 ·obtain⟨k1,k2⟩:=hK c hc hc2 hk
  by_cases e:c=b
  ·subst e
   refine⟨fun r q=> ?_,fun r q=> ?_⟩
   ·rw[yy hb hel hc,if_pos rfl,m1]
    exact .inr (same c hc hc2 k2 r q)
   ·rw[yy hb hbl hc,if_pos rfl,m2]
    exact yL (fun r q=>by rw[yy hb hel hc,if_pos rfl]at q;exact q) q
  ·obtain⟨d1,d2⟩:=I.done c hc hc2 (k1.resolve_left e)
   refine⟨fun r q=> ?_,fun r q=> ?_⟩
   ·rw[yy hb hel hc,if_neg e]
    exact d1 r (same c hc hc2 k2 r q)
   ·rw[yy hb hbl hc,if_neg e]
    exact d2 r (yL (fun r q=>by rw[yy hb hel hc,if_neg e]at q;exact q) q)
 ·have he:∀ r,InW s1 r→E' b r:=fun r q=>((m1 r).1 q).elim (fun q=>(I.least B' E' hcl b r hb hb2).2 q) fun q=>hcl.e b r hb hb2 (Zl (fun k hk r q=>(I.least B' E' hcl k r (hn b hb hb2 k hk).1 (hn b hb hb2 k hk).2).1 q) q)
  constructor
  ·intro q
   rw[yy hb hbl hc]at q
   by_cases e:c=b
   ·subst e
    rw[if_pos rfl,m2]at q
    exact hcl.b c r hc hc2 (yL he q)
   ·rw[if_neg e]at q;exact(I.least B' E' hcl c r hc hc2).1 q
  ·intro q
   rw[yy hb hel hc]at q
   by_cases e:c=b
   ·subst e
    rw[if_pos rfl]at q
    exact he r q
   ·rw[if_neg e]at q;exact(I.least B' E' hcl c r hc hc2).2 q
theorem WInv.fix {par:Int} {L:List LBlk} {N:Int} {bg ed:Zb} {K:Int→Prop} (I:WInv par L N bg ed K) (hK:∀ b,0≤b→b<(L.length:Int)→¬K b):LFix par L (inS bg) (inS ed):=
 ⟨fun b r h1 h2=>⟨I.low b r h1 h2,(I.done b h1 h2 (hK b h1 h2)).1 r⟩,fun b r h1 h2=>⟨I.sub b r h1 h2,(I.done b h1 h2 (hK b h1 h2)).2 r⟩,I.least⟩
theorem zC3 {n:Nat} {b r:Int}:¬inS (List.replicate n []) b r:=by
 unfold inS
 rintro⟨w,hw,_⟩
 rw[List.getD_eq_getElem?_getD,List.getElem?_replicate]at hw
 split at hw<;>cases hw
theorem WInv.start (par:Int) (L:List LBlk) (N:Int) {K:Int→Prop} (hK:∀ b,0≤b→b<(L.length:Int)→K b):WInv par L N (List.replicate L.length []) (List.replicate L.length []) K:=by
 have hr:∀ s∈(List.replicate L.length ([]:List LWd)),OkW s∧∀ r,InW s r→r<N:=fun s hs=>by
  rw[List.eq_of_mem_replicate hs]
  exact⟨OkW.nil,fun r ⟨_,h,_⟩=>by cases h⟩
 exact⟨by simp,by simp,hr,hr,fun b r _ _ q=>absurd q zC3,fun b r _ _ q=>absurd q zC3,fun b h1 h2 hk=>absurd (hK b h1 h2) hk,fun _ _ _ b r _ _=>⟨fun q=>absurd q zC3,fun q=>absurd q zC3⟩⟩
def Zz (bg:Zb):Nat:=(bg.map fun s=>(zp s).length).sum
theorem zH2 {s:List LWd} {N:Nat} (h:OkW s) (hr:∀ r,InW s r→r<(N:Int)):(zp s).length≤N:=by
 have hd:(zp s).Nodup:=(zAO h).imp fun h=>by omega
 have:=List.Nodup.length_le_of_subset hd (l₂:=(List.range N).map fun (i:Nat)=>(i:Int)) fun x hx=>by
  have h1:=(Zj h).1 hx
  have h2:=h1.range h
  have h3:=hr x h1
  exact List.mem_map.2 ⟨x.toNat,List.mem_range.2 (by omega),by omega⟩
 simpa using this
theorem zFy {N:Nat}:∀ {bg:Zb},(∀ s∈bg,OkW s∧∀ r,InW s r→r<(N:Int))→Zz bg≤bg.length * N
 |[],_=>Nat.zero_le _
 |s::bg,h=>by
  have h1:=h s (List.mem_cons_self ..)
  have h2:=zH2 h1.1 h1.2
  have h3:=zFy (bg:=bg) fun t ht=>h t (List.mem_cons_of_mem _ ht)
  unfold Zz at *
  rw[List.map_cons,List.sum_cons,List.length_cons,Nat.succ_mul];omega
theorem zEh:∀ {bg:Zb} {i:Nat} {s:List LWd},i<bg.length→Zz (bg.set i s)+(zp (bg.getD i [])).length=Zz bg+(zp s).length
 |[],i,s,h=>absurd h (Nat.not_lt_zero _)
 |t::bg,0,s,_=>by unfold Zz;simp[List.getD];omega
 |t::bg,i+1,s,h=>by
  have:=zEh (bg:=bg) (i:=i) (s:=s) (by simpa using h)
  unfold Zz at *
  simp only[List.set_cons_succ,List.map_cons,List.sum_cons,List.getD_cons_succ]at *
  omega
theorem zIb {s t:List LWd} (hs:OkW s) (ht:OkW t) (h:∀ r,InW s r→InW t r) (hne:t≠s):(zp s).length<(zp t).length:=by
 have hd:(zp s).Nodup:=(zAO hs).imp fun h=>by omega
 have hdt:(zp t).Nodup:=(zAO ht).imp fun h=>by omega
 have hex:∃ r,InW t r∧¬InW s r:=by
  by_cases q:∃ r,InW t r∧¬InW s r
  ·exact q
  ·exact absurd (zFQ ht hs fun r=>⟨fun a=>Classical.byContradiction fun b=>q ⟨r,a,b⟩,h r⟩) hne
 obtain⟨r,r1,r2⟩:=hex
 have hc:(r::zp s).Nodup:=List.nodup_cons.2 ⟨fun q=>r2 ((Zj hs).1 q),hd⟩
 have:=List.Nodup.length_le_of_subset hc (l₂:=zp t) fun x hx=>by
  rcases List.mem_cons.1 hx with rfl|hx
  ·exact(Zj ht).2 r1
  ·exact(Zj ht).2 (h x ((Zj hs).1 hx))
 rw[List.length_cons]at this
 omega
end Go.Proofs.YtemggiegiejopaaDoor
namespace Go.Proofs.YtemggiegiejopaaDoor
open Go.Am
set_option linter.unusedVariables false
set_option linter.unusedSimpArgs false
set_option maxHeartbeats 2000000
noncomputable def body15:ACode:=(.seq (.region [⟨some 1,none,(.box (.tmp 0))⟩,⟨some 2,none,(.mov (.const (.slice none 0 0)))⟩]) (.seq (.region [⟨some 4,none,(.fld 0 (.tmp 1))⟩,⟨some 5,none,(.load false 1 (.tmp 4))⟩,⟨some 6,none,(.call (.func 28) [(.tmp 5)])⟩,⟨some 3,none,(.alloc [(.bool false),(.bool false),(.bool false),(.bool false),(.bool false),(.bool false)])⟩,⟨none,none,(.store 6 (.tmp 3) (.tmp 6))⟩]) (.seq (.seq (.region [⟨some 7,none,(.fld 0 (.tmp 3))⟩,⟨some 8,none,(.load false 1 (.tmp 7))⟩]) (.cond (.tmp 8) (.region [⟨some 9,none,(.mov (.tmp 2))⟩,⟨some 10,none,(.fld 2 (.tmp 1))⟩,⟨some 11,none,(.load false 1 (.tmp 10))⟩,⟨some 12,none,(.buildSlice 1 1 [(.int .i64 0)] [(0,1,(.tmp 11))])⟩,⟨some 13,none,(.append 1 (.tmp 9) (.tmp 12))⟩,⟨some 2,none,(.mov (.tmp 13))⟩]) .skip)) (.seq (.seq (.region [⟨some 14,none,(.fld 1 (.tmp 3))⟩,⟨some 15,none,(.load false 1 (.tmp 14))⟩]) (.cond (.tmp 15) (.region [⟨some 16,none,(.mov (.tmp 2))⟩,⟨some 17,none,(.fld 3 (.tmp 1))⟩,⟨some 18,none,(.load false 1 (.tmp 17))⟩,⟨some 19,none,(.buildSlice 1 1 [(.int .i64 0)] [(0,1,(.tmp 18))])⟩,⟨some 20,none,(.append 1 (.tmp 16) (.tmp 19))⟩,⟨some 2,none,(.mov (.tmp 20))⟩]) .skip)) (.seq (.seq (.region [⟨some 21,none,(.fld 3 (.tmp 3))⟩,⟨some 22,none,(.load false 1 (.tmp 21))⟩]) (.cond (.tmp 22) (.region [⟨some 23,none,(.mov (.tmp 2))⟩,⟨some 24,none,(.fld 5 (.tmp 1))⟩,⟨some 25,none,(.load false 1 (.tmp 24))⟩,⟨some 26,none,(.append 1 (.tmp 23) (.tmp 25))⟩,⟨some 2,none,(.mov (.tmp 26))⟩]) .skip)) (.seq (.region [⟨some 27,none,(.mov (.tmp 2))⟩,⟨some 2,none,(.mov (.tmp 27))⟩]) .ret))))))
set_option maxRecDepth 100000 in
theorem tab15:tb.code 15=some ⟨28,[(2,none)],body15⟩:=by kernel_rfl
theorem zG0 (h:AHeap) (x:LIns) (cs:List Value) (hcs:RIns h cs x) (tt:Tbl h) (hx:x.args.length≤20):
  WC Tryd.prog tb 15 [.agg cs.toArray] h fun r h'=>OwnN h h' r (YV x)∧Ext h h':=by
 obtain⟨va,vfr,rfl,sa,sfr,hla,hlf,ho,ho2⟩:=hcs
 obtain⟨aa,an,ak,rfl⟩:=SlC.shape sa
 obtain⟨fa,fn,fk,rfl⟩:=SlC.shape sfr
 refine WC.of (zF 15) tab15 ?_;simp only[zO,Nat.zero_add,Nat.reduceAdd]
 refine go ?_
 refine WO.bx ?_
 intro p h1 e1 o1
 refine go ?_
 refine WO.con (of_ok h1 x.op (tt.ext e1) ho ho2) ?_
 rintro _ h2 ⟨rfl,e2⟩
 refine go ?_
 refine WO.al ?_
 intro p3 h3 e3 o3
 refine go ?_
 refine WO.stC0 (cs:=Zt (z9 x.op)) o3 e3 ?_
 intro h4 e4 o4 u4
 have e14:=e2.trans e4
 have o1:=o1.ext e14
 have sa4:=SlI.ext sa (e1.trans e14)
 have o4:=o4.since e2
 have o4:=o4.since e1
 have e04:=e1.trans e14
 clear e1 e2 e3 e4 u4 e14 o3
 unfold YV
 generalize z9 x.op=q at *
 obtain⟨qa,qb,qn,qg,qf,qt⟩:=q
 simp only
 refine go ?_
 refine WX.cutA [9,10,11,12,13,2] (by kernel_rfl) (fun t h'=>Ext h4 h'∧∃ w,zC t 2=w∧OwnN h4 h' w (if qa then [x.a] else [])) ?_ ?_
 ·cases qa with
  |true=>
   refine go ?_
   refine WO.bl [x.a] ?_
   intro v h2 e2 o2
   refine go ?_
   refine WO.apN (v:= .slice none 0 0) (xs:=[]) (h0:=h4) (.inl ⟨rfl,rfl⟩) o2.sl e2 (by simp) ?_
   intro v3 h3 e3 o3
   refine go ?_
   exact zE ⟨e3,v3,sl_,o3⟩
  |false=>
   refine go ?_
   exact zE ⟨Ext.refl _,_,sl_,.inl ⟨rfl,rfl⟩⟩
 rintro t2 h2 hs2 ⟨e2,w2,q2,ow2⟩
 have o2:=o1.ext e2
 have o42:=o4.ext e2
 have l2:(if qa then [x.a] else []).length≤1:=by split<;>simp
 generalize (if qa then [x.a] else [])=lA at *
 refine go ?_
 refine WX.cutA [16,17,18,19,20,2] (by kernel_rfl) (fun t h'=>Ext h4 h'∧∃ w,zC t 2=w∧OwnN h4 h' w (lA++if qb then [x.b] else [])) ?_ ?_
 ·cases qb with
  |true=>
   refine go ?_
   refine WO.bl [x.b] ?_
   intro v h3 e3 o3
   refine go ?_
   refine WO.apN (OwnN.ext ow2 e3) o3.sl (e2.trans e3) (by simp only[List.length_singleton];omega) ?_
   intro v4 h5 e5 o5
   refine go ?_
   exact zE ⟨e5,v4,sl_,o5⟩
  |false=>
   refine go ?_
   exact zE ⟨e2,_,sl_,by simpa using ow2⟩
 rintro t3 h3 hs3 ⟨e3,w3,q3,ow3⟩
 have o3:=o1.ext e3
 have o43:=o4.ext e3
 have sa3:=SlI.ext sa4 e3
 have l3:(lA++if qb then [x.b] else []).length≤2:=by rw[List.length_append];split<;>simp<;>omega
 rw[←List.append_assoc]
 generalize (lA++if qb then [x.b] else [])=lB at *
 refine go ?_
 cases qg with
 |true=>
  refine go ?_
  refine WO.apN ow3 sa3 e3 (by omega) ?_
  intro v5 h5 e5 o5
  refine go ?_
  refine rt ?_
  exact⟨o5.since e04,e04.trans e5⟩
 |false=>
  refine go ?_
  refine rt ?_
  subst q3
  rw[if_neg (by simp),List.append_nil]
  exact⟨ow3.since e04,e04.trans e3⟩
noncomputable def body14:ACode:=(.seq (.region [⟨some 1,none,(.box (.tmp 0))⟩,⟨some 2,none,(.mov (.const (.slice none 0 0)))⟩]) (.seq (.seq (.region [⟨some 3,none,(.fld 0 (.tmp 1))⟩,⟨some 4,none,(.load false 1 (.tmp 3))⟩,⟨some 5,none,(.bin .eql (.tmp 4) (.const (.int .u8 2)))⟩,⟨some 6,none,(.mov (.tmp 5))⟩,⟨some 7,some (6,false),(.fld 0 (.tmp 1))⟩,⟨some 8,some (6,false),(.load false 1 (.tmp 7))⟩,⟨some 9,some (6,false),(.bin .eql (.tmp 8) (.const (.int .u8 3)))⟩,⟨some 10,none,(.pick (.tmp 6) (.const (.bool true)) (.tmp 9))⟩]) (.cond (.tmp 10) (.seq (.region [⟨some 11,none,(.fld 1 (.tmp 1))⟩,⟨some 12,none,(.load false 1 (.tmp 11))⟩,⟨some 13,none,(.buildSlice 1 1 [(.int .i64 0)] [(0,1,(.tmp 12))])⟩,⟨some 2,none,(.mov (.tmp 13))⟩]) .ret) .skip)) (.seq (.region [⟨some 2,none,(.mov (.const (.slice none 0 0)))⟩]) .ret)))
set_option maxRecDepth 100000 in
theorem tab14:tb.code 14=some ⟨14,[(2,none)],body14⟩:=by kernel_rfl
theorem zFp (h:AHeap) (x:LEnd):WC Tryd.prog tb 14 [.agg #[.int .u8 x.kind,I x.a,I x.to,I x.els]] h fun r h'=>OwnN h h' r (YA x)∧Ext h h':=by
 refine WC.of (zF 14) tab14 ?_;simp only[zO,Nat.zero_add,Nat.reduceAdd]
 refine go ?_
 refine WO.bx ?_
 intro p h1 e1 o1
 unfold YA
 by_cases c2:x.kind=2
 ·rw[if_pos (.inl c2)]
  refine go ?_
  refine WO.bl [x.a] ?_
  intro v h2 e2 o2
  refine go ?_
  refine rt ?_
  exact⟨.inr (o2.since e1),e1.trans e2⟩
 by_cases c3:x.kind=3
 ·rw[if_pos (.inr c3)]
  refine go ?_
  refine WO.bl [x.a] ?_
  intro v h2 e2 o2
  refine go ?_
  refine rt ?_
  exact⟨.inr (o2.since e1),e1.trans e2⟩
 rw[if_neg (by simp[c2,c3])]
 refine go ?_
 refine rt ?_
 exact⟨.inl ⟨rfl,rfl⟩,e1⟩
structure EnvL (h:AHeap) (vt vf:Value) (T:List LType) (F:List LFn):Prop where
 tt:Tbl h
 hm:h.mark≤h.n
 sm:Small T F
 st:SlT h vt T
 sf:SlF h vf F
theorem EnvL.ext {h h':AHeap} {vt vf:Value} {T:List LType} {F:List LFn} (E:EnvL h vt vf T F) (e:Ext h h'):EnvL h' vt vf T F:=
 ⟨E.tt.ext e,ZH e E.hm,E.sm,E.st.ext e,SlF.ext E.sf e⟩
theorem zIp {α:Type} {c i:Nat} {R:AHeap→List Value→α→Prop} {h:AHeap} {v:Value} {l:List α} (s:SlR c R h v l) (hl:0<l.length) (hi:i≤l.length):∃ r,Yr c v none (some i) none=some r∧SlR c R h r (l.take i):=by
 obtain⟨cells,⟨h1,⟨h2,_⟩|⟨g,off,row,rfl,h3,h4,h5⟩⟩,hR⟩:=s
 ·omega
 have hmul:i * c≤l.length * c:=Nat.mul_le_mul_right _ hi
 have hlen:(l.take i).length=i:=by rw[List.length_take];omega
 refine⟨.slice (some ⟨g,off+0 * c,none⟩) (i - 0) c,?_,cells.take (i * c),⟨by rw[List.length_take,hlen];omega,.inr ⟨g,off,row,by rw[hlen];simp,h3,?_,h5⟩⟩,fun j a ha=> ?_⟩
 ·have b1:Nat.ble 0 i=true:=Nat.ble_eq_true_of_le (Nat.zero_le _)
  have b2:Nat.ble i l.length=true:=Nat.ble_eq_true_of_le hi
  simp only[Yr,Option.getD_none,Option.getD_some,b1,b2,Option.isNone_none,Bool.and_self,cond_true,Nat.beq_refl]
 ·rw[hlen]
  obtain⟨c1,c2⟩:=zDa h4
  rw[ZY (by omega),c2,List.take_take,Nat.min_eq_left hmul]
 ·have hj:j<i:=by have:=(List.getElem?_eq_some_iff.1 ha).1;omega
  have hja:l[j]?=some a:=by rw[List.getElem?_take,if_pos hj]at ha;exact ha
  have:=hR j a hja
  have h6:j * c+c≤i * c:=by rw[←Nat.succ_mul];exact Nat.mul_le_mul_right _ hj
  rw[List.drop_take,List.take_take,Nat.min_eq_left (by omega)]
  exact this
theorem zDV (L:List LBlk) (i:Nat):yJ (L.take i)≤yJ L:=by
 have h1:yJ L=yJ (L.take i)+yJ (L.drop i):=by
  conv=>lhs;rw[←List.take_append_drop i L]
  unfold yJ;rw[List.map_append,List.sum_append]
 have:=yp (L.drop i)
 omega
structure FnOk (T:List LType) (F:List LFn) (f:Int) (L:List LBlk) (par:Int):Prop where
 f0:0≤f
 f1:f<(F.length:Int)
 prog:Y9 T F=0
 ask:yV T F f=(par,0)
 isL:L=(F.getD f.toNat default).blocks
 par0:0≤par
 parl:par≤100
 len:1≤L.length∧L.length≤16
 many:yJ L≤128
 ins:∀ b∈L,(b.ins.length:Int)≤128
 fn:fnL T F.length (F.getD f.toNat default)=true
noncomputable def body16:ACode:=(.seq (.region [⟨some 4,none,(.box (.tmp 0))⟩,⟨some 8,none,(.mov (.const (.int .i64 0)))⟩,⟨some 9,none,(.mov (.const (.int .i64 0)))⟩]) (.seq (.region [⟨some 14,none,(.load true 2 (.tmp 4))⟩,⟨some 15,none,(.mov (.tmp 1))⟩,⟨some 16,none,(.call (.func 26) [(.tmp 14),(.tmp 15)])⟩,⟨some 13,none,(.mov (.tmp 16))⟩,⟨some 17,none,(.extract (.tmp 13) 0)⟩,⟨some 18,none,(.extract (.tmp 13) 1)⟩,⟨some 10,none,(.mov (.tmp 17))⟩,⟨some 11,none,(.mov (.tmp 18))⟩]) (.seq (.seq (.region [⟨some 19,none,(.mov (.tmp 11))⟩,⟨some 20,none,(.bin .neq (.tmp 19) (.const (.int .i64 0)))⟩]) (.cond (.tmp 20) (.seq (.region [⟨some 21,none,(.mov (.tmp 11))⟩,⟨some 8,none,(.mov (.const (.int .i64 0)))⟩,⟨some 9,none,(.mov (.tmp 21))⟩]) .ret) .skip)) (.seq (.region [⟨some 22,none,(.fld 1 (.tmp 4))⟩,⟨some 23,none,(.load false 1 (.tmp 22))⟩,⟨some 24,none,(.mov (.tmp 1))⟩,⟨some 25,none,(.idx 2 (.tmp 23) (.tmp 24))⟩,⟨some 26,none,(.fld 1 (.tmp 25))⟩,⟨some 27,none,(.load false 1 (.tmp 26))⟩,⟨some 12,none,(.mov (.tmp 27))⟩]) (.seq (.seq (.region [⟨some 28,none,(.mov (.tmp 2))⟩,⟨some 29,none,(.mov (.tmp 12))⟩,⟨some 30,none,(.len (.tmp 29))⟩,⟨some 31,none,(.call (.func 29) [(.tmp 28),(.tmp 30)])⟩,⟨some 32,none,(.un .not (.tmp 31))⟩,⟨some 33,none,(.mov (.tmp 32))⟩,⟨some 34,some (33,false),(.mov (.tmp 3))⟩,⟨some 35,some (33,false),(.mov (.tmp 12))⟩,⟨some 36,some (33,false),(.mov (.tmp 2))⟩,⟨some 37,some (33,false),(.idx 5 (.tmp 35) (.tmp 36))⟩,⟨some 38,some (33,false),(.fld 0 (.tmp 37))⟩,⟨some 39,some (33,false),(.load false 1 (.tmp 38))⟩,⟨some 40,some (33,false),(.len (.tmp 39))⟩,⟨some 41,some (33,false),(.call (.func 29) [(.tmp 34),(.tmp 40)])⟩,⟨some 42,some (33,false),(.un .not (.tmp 41))⟩,⟨some 43,none,(.pick (.tmp 33) (.const (.bool true)) (.tmp 42))⟩]) (.cond (.tmp 43) (.seq (.region [⟨some 8,none,(.mov (.const (.int .i64 0)))⟩,⟨some 9,none,(.mov (.const (.int .i64 2)))⟩]) .ret) .skip)) (.seq (.region [⟨some 44,none,(.mov (.tmp 10))⟩,⟨some 45,none,(.mov (.tmp 12))⟩,⟨some 46,none,(.mov (.tmp 2))⟩,⟨some 47,none,(.slice 5 (.tmp 45) none (some (.tmp 46)) none)⟩,⟨some 48,none,(.build [(.int .i64 0),(.slice none 0 0)] [(1,1,(.tmp 47))])⟩,⟨some 49,none,(.call (.func 27) [(.tmp 48)])⟩,⟨some 50,none,(.bin .add (.tmp 44) (.tmp 49))⟩,⟨some 51,none,(.mov (.tmp 3))⟩,⟨some 52,none,(.bin .add (.tmp 50) (.tmp 51))⟩,⟨some 8,none,(.mov (.tmp 52))⟩,⟨some 9,none,(.mov (.const (.int .i64 0)))⟩]) .ret))))))
set_option maxRecDepth 100000 in
theorem tab16:tb.code 16=some ⟨53,[(8,none),(9,none)],body16⟩:=by kernel_rfl
theorem zE6 (h:AHeap) (vt vf:Value) (T:List LType) (F:List LFn) (f:Int) (L:List LBlk) (par:Int) (E:EnvL h vt vf T F) (O:FnOk T F f L par) (b k:Int) (hb:0≤b∧b<(L.length:Int)) (hk:0≤k∧k<((L.getD b.toNat default).ins.length:Int)):
  WC Tryd.prog tb 16 [.agg #[vt,vf],I f,I b,I k] h fun r h'=>r= .tuple #[I (Za par L b+k),I 0]∧Ext h h':=by
 have hF:=E.sm.funcs
 obtain⟨f0,f1,hp,hask,rfl,p0,p1,hlen,hmany,hins,hfn⟩:=O
 have hB:=E.sm.blocks _ (zL (l:=F) (i:=f.toNat) (by omega))
 have hI:=E.sm.ins _ (zL (l:=F) (i:=f.toNat) (by omega))
 refine WC.of (zF 16) tab16 ?_;simp only[zO,Nat.zero_add,Nat.reduceAdd]
 refine go ?_
 refine WO.bx ?_
 intro p h1 e1 o1
 have E1:=E.ext e1
 refine go ?_
 refine WO.con (zGf h1 vt vf T F f E1.tt E1.hm E1.sm E1.st E1.sf) ?_
 rintro _ h2 ⟨rfl,e2⟩
 rw[hask]
 have o2:=o1.ext e2
 have E2:=E1.ext e2
 have sf2:=E2.sf
 obtain⟨ta,tn,tk,rfl⟩:=zI E.st
 obtain⟨ga,gn,gk,rfl⟩:=zI E.sf
 obtain⟨cs,⟨vb,rfl,sb,hlb⟩,pc,hs⟩:=yS (i:=f.toNat) sf2 (by omega)
 obtain⟨ba,bn,bk,rfl⟩:=zI sb
 generalize (F.getD f.toNat default).blocks=L at *
 obtain⟨csB,⟨vi,rfl,si,hli⟩,pcB,hsB⟩:=yS (i:=b.toNat) sb (by omega)
 obtain⟨ia,iN,ik,rfl⟩:=zI si
 obtain⟨vs,hvs,sbs⟩:=zIp (i:=b.toNat) sb (by omega) (by omega)
 refine go ?_
 refine WO.con (yR h2 b L.length) ?_
 rintro _ _ ⟨rfl,rfl⟩
 rw[show zQ b L.length=true by unfold zQ;rw[decide_eq_true hb.1,decide_eq_true hb.2];rfl]
 refine go ?_
 refine WO.con (yR h2 k (L.getD b.toNat default).ins.length) ?_
 rintro _ _ ⟨rfl,rfl⟩
 rw[show zQ k (L.getD b.toNat default).ins.length=true by unfold zQ;rw[decide_eq_true hk.1,decide_eq_true hk.2];rfl]
 refine go ?_
 have hbt:(b.toNat:Int)=b:=by omega
 refine WO.slHi (i:=b.toNat) (hy:=by rw[hbt];exact ze) hvs ?_
 have hlt:(L.take b.toNat).length≤1000:=by rw[List.length_take];omega
 have hIt:∀ x∈L.take b.toNat,x.ins.length≤1000:=fun x hx=>hI x (List.mem_of_mem_take hx)
 obtain⟨va,vn,vk,rfl⟩:=zI sbs
 refine go ?_
 refine WO.con (zC1 h2 0 _ _ sbs hlt hIt) ?_
 rintro _ h3 ⟨rfl,e3⟩
 have hmt:=yp (L.take b.toNat)
 have hmt2:=zDV L b.toNat
 refine go ?_
 refine rt ?_
 exact⟨rfl,e1.trans (e2.trans e3)⟩
end Go.Proofs.YtemggiegiejopaaDoor
namespace Go.Proofs.YtemggiegiejopaaDoor
open Go.Am
set_option linter.unusedVariables false
set_option linter.unusedSimpArgs false
set_option maxHeartbeats 2000000
theorem zIc {t:List LWd} {l:List Int} (u:Upto t l):t.length≤l.length:=by
 have h1:∀ w∈t,∃ n∈l,n / 64=w.pos:=fun w hw=>by
  obtain⟨a,b,c,d⟩:=u.ok.each w hw
  obtain⟨k,hk⟩:=zCz c
  have hk2:=Zx d hk
  exact⟨64 * w.pos+k,(u.mem _).1 ⟨w,hw,by omega,by rw[show ((64 * w.pos+(k:Int)) % 64).toNat=k by omega];exact hk⟩,by omega⟩
 have h2:(t.map (·.pos)).Nodup:=by
  rw[List.Nodup,List.pairwise_map];exact u.ok.rise.imp fun h=>by omega
 have h3:(t.map (·.pos)).length≤(l.map (· / 64)).length:=List.Nodup.length_le_of_subset h2 fun x hx=>by
  obtain⟨w,hw,rfl⟩:=List.mem_map.1 hx
  obtain⟨n,hn,e⟩:=h1 w hw
  exact List.mem_map.2 ⟨n,hn,e⟩
 simpa using h3
theorem zAM {s:List LWd} {N:Nat} (h:OkW s) (hr:∀ r,InW s r→r<(N:Int)):s.length≤N:=by
 have h1:=zH2 h hr
 have h2:∀ l:List LWd,OkW l→l.length≤(zp l).length:=fun l=>by
  induction l with
  |nil=>exact fun _=>Nat.le_refl _
  |cons w l ih=>
   intro o
   have:=ih o.tail
   rw[zEB,List.length_cons]
   have hw:=(o.each w (List.mem_cons_self ..)).2.2
   obtain⟨k,hk⟩:=zCz hw.1
   have:0<(Y0 w.bits).length:=List.length_pos_of_mem (Ze.2 ⟨Zx hw.2 hk,hk⟩)
   omega
 have:=h2 s h
 omega
theorem MineW.since {h0 h h' v s} (m:MineW h h' v s) (e:Ext h0 h):MineW h0 h' v s:=let ⟨b,hb,o⟩:=m;⟨b,Nat.le_trans e.n hb,o⟩
noncomputable def body35:ACode:=(.seq (.region [⟨some 4,none,(.mov (.const (.slice none 0 0)))⟩]) (.seq (.region [⟨some 8,none,(.mov (.tmp 1))⟩,⟨some 9,none,(.call (.func 46) [(.tmp 8)])⟩,⟨some 7,none,(.mov (.tmp 9))⟩,⟨some 10,none,(.extract (.tmp 7) 0)⟩,⟨some 11,none,(.extract (.tmp 7) 1)⟩,⟨some 5,none,(.mov (.tmp 10))⟩,⟨some 6,none,(.mov (.tmp 11))⟩]) (.seq (.region [⟨some 13,none,(.mov (.tmp 0))⟩,⟨some 14,none,(.mov (.tmp 5))⟩,⟨some 15,none,(.call (.func 42) [(.tmp 13),(.tmp 14)])⟩,⟨some 12,none,(.mov (.tmp 15))⟩,⟨some 16,none,(.extract (.tmp 12) 0)⟩,⟨some 17,none,(.extract (.tmp 12) 1)⟩,⟨some 0,none,(.mov (.tmp 16))⟩]) (.seq (.region [⟨some 18,none,(.mov (.tmp 0))⟩,⟨some 4,none,(.mov (.tmp 18))⟩]) .ret))))
set_option maxRecDepth 100000 in
theorem tab35:tb.code 35=some ⟨19,[(4,none)],body35⟩:=by kernel_rfl
theorem zFM (h:AHeap) (va vl:Value) (A:List LWd) (l:List Int) (ka:SlW h va A) (sl:SlI h vl l) (oa:OkW A) (hl:∀ n∈l,0≤n∧n<1000) (la:A.length≤500) (ll:l.length≤5000) (hm:h.mark≤h.n):
  WC Tryd.prog tb 35 [va,vl] h fun r h'=>(∃ t,MineW h h' r t∧OkW t∧t.length≤A.length+1000∧∀ n,InW t n↔InW A n∨n∈l)∧Ext h h':=by
 refine WC.of (zF 35) tab35 ?_;simp only[zO,Nat.zero_add,Nat.reduceAdd]
 refine go ?_
 refine WO.con (bOf_ok h vl l sl (by omega) hm) ?_
 rintro _ h1 ⟨⟨w,t,rfl,m,u,_⟩,e1⟩
 have hE:=zDW (fun n hn=>by have:=hl n hn;omega)
 have u:=u hE
 rw[hE]
 have km:=m.sl
 have lt:=zAM (N:=1000) u.ok fun r q=>(hl r ((u.mem r).1 q)).2
 have hm1:h1.mark≤h1.n:=by have:=e1.mark;have:=e1.n;omega
 refine go ?_
 refine WO.con (or_ok h1 va w A t (SlW.ext ka e1) km (by omega) (by omega) hm1) ?_
 rintro _ h2 ⟨⟨v,rfl,mv⟩,e2⟩
 rw[zDl oa u.ok]
 rw[zD1 oa u.ok]at mv
 obtain⟨oo,io⟩:=or_is oa u.ok
 have ll2:=ZA (fun a b=>a|||b) A t
 refine go ?_
 refine rt ?_
 exact⟨⟨_,mv.since e1,oo,by omega,fun n=>by rw[←Zy,io,Bool.or_eq_true,Zy,Zy,u.mem]⟩,e1.trans e2⟩
noncomputable def body36:ACode:=(.seq (.region [⟨some 4,none,(.mov (.const (.slice none 0 0)))⟩]) (.seq (.region [⟨some 8,none,(.mov (.tmp 1))⟩,⟨some 9,none,(.buildSlice 1 1 [(.int .i64 0)] [(0,1,(.tmp 8))])⟩,⟨some 10,none,(.call (.func 46) [(.tmp 9)])⟩,⟨some 7,none,(.mov (.tmp 10))⟩,⟨some 11,none,(.extract (.tmp 7) 0)⟩,⟨some 12,none,(.extract (.tmp 7) 1)⟩,⟨some 5,none,(.mov (.tmp 11))⟩,⟨some 6,none,(.mov (.tmp 12))⟩]) (.seq (.region [⟨some 14,none,(.mov (.tmp 0))⟩,⟨some 15,none,(.mov (.tmp 5))⟩,⟨some 16,none,(.call (.func 47) [(.tmp 14),(.tmp 15)])⟩,⟨some 13,none,(.mov (.tmp 16))⟩,⟨some 17,none,(.extract (.tmp 13) 0)⟩,⟨some 18,none,(.extract (.tmp 13) 1)⟩,⟨some 0,none,(.mov (.tmp 17))⟩]) (.seq (.region [⟨some 19,none,(.mov (.tmp 0))⟩,⟨some 4,none,(.mov (.tmp 19))⟩]) .ret))))
set_option maxRecDepth 100000 in
theorem tab36:tb.code 36=some ⟨20,[(4,none)],body36⟩:=by kernel_rfl
theorem zHC (h:AHeap) (va:Value) (A:List LWd) (n:Int) (ka:SlW h va A) (oa:OkW A) (hn:0≤n∧n<1048576) (la:A.length≤500) (hm:h.mark≤h.n):
  WC Tryd.prog tb 36 [va,I n] h fun r h'=>(∃ t,MineW h h' r t∧OkW t∧t.length≤A.length+1∧∀ m,InW t m↔InW A m∧m≠n)∧Ext h h':=by
 refine WC.of (zF 36) tab36 ?_;simp only[zO,Nat.zero_add,Nat.reduceAdd]
 refine go ?_
 refine WO.bl [n] ?_
 intro vl h0 e0 o0
 have hm0:h0.mark≤h0.n:=by have:=e0.mark;have:=e0.n;omega
 refine go ?_
 refine WO.con (bOf_ok h0 vl [n] o0.sl (by simp) hm0) ?_
 rintro _ h1 ⟨⟨w,t,rfl,m,u,_⟩,e1⟩
 have hE:ofE [n]=0:=zDW fun x hx=>by rw[List.mem_singleton]at hx;subst hx;exact hn
 have u:=u hE
 rw[hE]
 have km:=m.sl
 have lt:=zIc u
 have e01:=e0.trans e1
 have hm1:h1.mark≤h1.n:=by have:=e1.mark;have:=e1.n;omega
 refine go ?_
 refine WO.con (minus_ok h1 va w A t (SlW.ext ka e01) km (by omega) (by simp at lt;omega) hm1) ?_
 rintro _ h2 ⟨⟨v,rfl,mv⟩,e2⟩
 rw[zDl oa u.ok]
 rw[zD1 oa u.ok]at mv
 obtain⟨oo,io⟩:=min_is oa u.ok
 have ll2:=ZA zCO A t
 refine go ?_
 refine rt ?_
 refine⟨⟨_,mv.since e01,oo,by simp at lt;omega,fun k=> ?_⟩,e01.trans e2⟩
 have hu:=u.mem k
 rw[List.mem_singleton]at hu
 rw[←Zy,io,Bool.and_eq_true,Zy,Bool.not_eq_true']
 constructor
 ·rintro⟨a,b⟩
  refine⟨a,fun e=> ?_⟩
  rw[Zy.2 (hu.2 e)]at b;cases b
 ·rintro⟨a,b⟩
  exact⟨a,zEQ fun q=>b (hu.1 q)⟩
noncomputable def body37:ACode:=(.seq (.region [⟨some 1,none,(.box (.tmp 0))⟩,⟨some 2,none,(.mov (.const (.slice none 0 0)))⟩]) (.seq (.seq (.region [⟨some 3,none,(.fld 0 (.tmp 1))⟩,⟨some 4,none,(.load false 1 (.tmp 3))⟩,⟨some 5,none,(.bin .eql (.tmp 4) (.const (.int .u8 22)))⟩]) (.cond (.tmp 5) (.seq (.region [⟨some 2,none,(.mov (.const (.slice none 0 0)))⟩]) .ret) .skip)) (.seq (.region [⟨some 6,none,(.load true 7 (.tmp 1))⟩,⟨some 7,none,(.call (.func 15) [(.tmp 6)])⟩,⟨some 2,none,(.mov (.tmp 7))⟩]) .ret)))
set_option maxRecDepth 100000 in
theorem tab37:tb.code 37=some ⟨8,[(2,none)],body37⟩:=by kernel_rfl
theorem reads_ok (h:AHeap) (x:LIns) (cs:List Value) (hcs:RIns h cs x) (tt:Tbl h) (hx:x.args.length≤20):
  WC Tryd.prog tb 37 [.agg cs.toArray] h fun r h'=>OwnN h h' r (yj x)∧Ext h h':=by
 have hcs0:=hcs
 obtain⟨va,vfr,rfl,sa,sfr,hla,hlf,ho,ho2⟩:=hcs
 obtain⟨aa,an,ak,rfl⟩:=SlC.shape sa
 obtain⟨fa,fn,fk,rfl⟩:=SlC.shape sfr
 refine WC.of (zF 37) tab37 ?_;simp only[zO,Nat.zero_add,Nat.reduceAdd]
 refine go ?_
 refine WO.bx ?_
 intro p h1 e1 o1
 unfold yj
 by_cases c:x.op=22
 ·rw[if_pos c]
  refine go ?_
  refine rt ?_
  exact⟨.inl ⟨rfl,rfl⟩,e1⟩
 rw[if_neg c]
 refine go ?_
 refine WO.con (zG0 h1 x _ (RIns.ext hcs0 e1) (tt.ext e1) hx) ?_
 rintro r h2 ⟨o2,e2⟩
 refine go ?_
 refine rt ?_
 exact⟨o2.since e1,e1.trans e2⟩
theorem zCD:∀ (fs gs:List Int) (b:Int) (j:Nat),fs.length=gs.length→j<fs.length→Z2 (fs.take (j+1)) (gs.take (j+1)) b=Z2 (fs.take j) (gs.take j) b++(if fs.getD j 0=b then [gs.getD j 0] else [])
 |[],_,_,_,_,h=>absurd h (Nat.not_lt_zero _)
 |f::fs,[],_,_,h,_=>by simp at h
 |f::fs,a::gs,b,0,_,_=>by
  simp only[List.take_succ_cons,List.take_zero,Z2,List.getD_cons_zero]
  split<;>simp[Z2]
 |f::fs,a::gs,b,j+1,h,hj=>by
  have:=zCD fs gs b j (by simpa using h) (by simpa using hj)
  simp only[List.take_succ_cons,Z2,List.getD_cons_succ,this]
  split<;>simp
theorem zD0:∀ (fs gs:List Int) (b:Int),(Z2 fs gs b).length≤fs.length
 |[],_,_=>by simp[Z2]
 |_::_,[],_=>by simp[Z2]
 |f::fs,a::gs,b=>by
  have:=zD0 fs gs b
  unfold Z2;split<;>simp<;>omega
def zAb (x:LIns) (b:Int):List Int:=if x.op=22 then Z2 x.frm x.args b else []
theorem zEd {B:LBlk} {i:Nat} {b:Int} (h:i<B.ins.length):(B.ins.take (i+1)).flatMap (fun x=>zAb x b)=(B.ins.take i).flatMap (fun x=>zAb x b)++zAb (B.ins.getD i default) b:=by
 rw[List.take_add_one,List.getElem?_eq_getElem h,List.flatMap_append,List.getD_eq_getElem?_getD,List.getElem?_eq_getElem h];simp
theorem zDU:∀ (l:List LIns) (b:Int),(∀ x∈l,x.frm.length≤20)→(l.flatMap fun x=>zAb x b).length≤20 * l.length
 |[],_,_=>Nat.zero_le _
 |x::l,b,h=>by
  have h1:=zDU l b fun y hy=>h y (List.mem_cons_of_mem _ hy)
  have h2:=h x (List.mem_cons_self ..)
  have h3:(zAb x b).length≤20:=by
   unfold zAb;split
   ·have:=zD0 x.frm x.args b;omega
   ·simp
  rw[List.flatMap_cons,List.length_append,List.length_cons];omega
theorem zIw {h0 h1 h h':AHeap} {p v:Value} {n:Int} {cs:List Value} {xs:List Int} (o:OwnC h0 h p (.int .u8 n::cs)) (i:OwnN h1 h v xs) (u:Upd v h h'):OwnC h0 h' p (.int .u8 n::cs):=by
 obtain⟨g,g1,g2,rfl,hg⟩:=o
 refine⟨g,g1,Nat.lt_of_lt_of_le g2 u.1,rfl,(u.2 g g2 fun a m c hv e=> ?_).trans hg⟩
 rcases i with ⟨rfl,_⟩|⟨g3,_,_,rfl,hg3⟩
 ·cases hv
 ·cases hv
  simp only at e
  subst e
  rw[hg]at hg3
  cases xs with
  |nil=>cases hg3
  |cons x xs=>cases hg3
noncomputable def body43_0:ACode:=(.seq (.region [⟨some 23,none,(.bin .lss (.tmp 22) (.tmp 21))⟩]) (.seq (.cond (.tmp 23) .skip (.exit 2)) (.seq (.block 3 (.seq (.region [⟨some 24,none,(.mov (.tmp 22))⟩,⟨some 25,none,(.idx 1 (.tmp 20) (.tmp 22))⟩,⟨some 26,none,(.load false 1 (.tmp 25))⟩,⟨some 7,none,(.mov (.tmp 24))⟩,⟨some 8,none,(.mov (.tmp 26))⟩]) (.seq (.region [⟨some 27,none,(.mov (.tmp 8))⟩,⟨some 28,none,(.mov (.tmp 1))⟩,⟨some 29,none,(.bin .eql (.tmp 27) (.tmp 28))⟩]) (.cond (.tmp 29) (.region [⟨some 30,none,(.mov (.tmp 4))⟩,⟨some 31,none,(.fld 5 (.tmp 6))⟩,⟨some 32,none,(.load false 1 (.tmp 31))⟩,⟨some 33,none,(.mov (.tmp 7))⟩,⟨some 34,none,(.idx 1 (.tmp 32) (.tmp 33))⟩,⟨some 35,none,(.load false 1 (.tmp 34))⟩,⟨some 36,none,(.buildSlice 1 1 [(.int .i64 0)] [(0,1,(.tmp 35))])⟩,⟨some 37,none,(.append 1 (.tmp 30) (.tmp 36))⟩,⟨some 4,none,(.mov (.tmp 37))⟩]) .skip)))) (.region [⟨some 38,none,(.bin .add (.tmp 22) (.const (.int .i64 1)))⟩,⟨some 22,none,(.mov (.tmp 38))⟩]))))
noncomputable def body43_1:ACode:=(.seq (.region [⟨some 13,none,(.bin .lss (.tmp 12) (.tmp 11))⟩]) (.seq (.cond (.tmp 13) .skip (.exit 0)) (.seq (.block 1 (.seq (.region [⟨some 14,none,(.idx 7 (.tmp 10) (.tmp 12))⟩,⟨some 15,none,(.load true 7 (.tmp 14))⟩,⟨some 6,none,(.alloc [(.int .u8 0),(.int .i64 0),(.int .i64 0),(.int .i64 0),(.int .i64 0),(.slice none 0 0),(.slice none 0 0)])⟩,⟨none,none,(.store 7 (.tmp 6) (.tmp 15))⟩]) (.seq (.seq (.region [⟨some 16,none,(.fld 0 (.tmp 6))⟩,⟨some 17,none,(.load false 1 (.tmp 16))⟩,⟨some 18,none,(.bin .neq (.tmp 17) (.const (.int .u8 22)))⟩]) (.cond (.tmp 18) (.exit 1) .skip)) (.seq (.region [⟨some 19,none,(.fld 6 (.tmp 6))⟩,⟨some 20,none,(.load false 1 (.tmp 19))⟩,⟨some 21,none,(.len (.tmp 20))⟩,⟨some 22,none,(.mov (.const (.int .i64 0)))⟩]) (.block 2 (.loop body43_0)))))) (.region [⟨some 39,none,(.bin .add (.tmp 12) (.const (.int .i64 1)))⟩,⟨some 12,none,(.mov (.tmp 39))⟩]))))
noncomputable def body43:ACode:=(.seq (.region [⟨some 2,none,(.box (.tmp 0))⟩,⟨some 4,none,(.mov (.const (.slice none 0 0)))⟩]) (.seq (.seq (.region [⟨some 9,none,(.fld 0 (.tmp 2))⟩,⟨some 10,none,(.load false 1 (.tmp 9))⟩,⟨some 11,none,(.len (.tmp 10))⟩,⟨some 12,none,(.mov (.const (.int .i64 0)))⟩]) (.block 0 (.loop body43_1))) (.seq (.region [⟨some 40,none,(.mov (.tmp 4))⟩,⟨some 4,none,(.mov (.tmp 40))⟩]) .ret)))
set_option maxRecDepth 100000 in
theorem tab43:tb.code 43=some ⟨41,[(4,none)],body43⟩:=by kernel_rfl
theorem phis_ok (h:AHeap) (B:LBlk) (cs:List Value) (b:Int) (hcs:RBlk h cs B) (hB:(B.ins.length:Int)≤128) (hfr:∀ x∈B.ins,x.frm.length≤20) (hp:∀ x∈B.ins,x.op=22→x.frm.length=x.args.length):
  WC Tryd.prog tb 43 [.agg cs.toArray,I b] h fun r h'=>OwnN h h' r (ZX B b)∧Ext h h':=by
 obtain⟨vi,rfl,si,hli⟩:=hcs
 obtain⟨ia,iN,ik,rfl⟩:=zI si
 have hfr:=Hid.mk hfr
 have hp:=Hid.mk hp
 refine WC.of (zF 43) tab43 ?_;simp only[zO,Nat.zero_add,Nat.reduceAdd]
 refine go ?_
 refine WO.bx ?_
 intro p h1 e1 o1
 have si1:=SlN.ext si e1
 refine go ?_
 refine WX.loopA [13,14,15,6,16,17,18,19,20,21,22,23,24,25,26,7,8,27,28,29,30,31,32,33,34,35,36,37,4,38,22,39,12] (by kernel_rfl) (fun i=>B.ins.length - i) (fun i t h2=>∃ w,zC t 12=I i∧i≤B.ins.length∧Ext h1 h2∧zC t 4=w∧OwnN h1 h2 w ((B.ins.take i).flatMap fun x=>zAb x b)) 0 ?_ ?_
 ·exact⟨_,sl_,Nat.zero_le _,Ext.refl _,sl_,.inl ⟨rfl,rfl⟩⟩
 rintro i t h2 hsame ⟨w,s12,hi,e2,s4,ow⟩
 have si2:=SlN.ext si1 e2
 refine go ?_
 refine WX.br (fun hb=> ?_) (fun hb=> ?_)<;>simp only[DB]at hb
 ·have hi':i<B.ins.length:=by omega
  have hmem:=zL (l:=B.ins) hi'
  have hfx:=hfr.out _ hmem
  have hpx:=hp.out _ hmem
  have hsn:=zEd (b:=b) hi'
  have hpl:=zDU (B.ins.take i) b fun x hx=>hfr.out x (List.mem_of_mem_take hx)
  have hpl2:(B.ins.take i).length≤i:=by rw[List.length_take];omega
  obtain⟨csx,⟨va,vf,rfl,sa,sf,ha1,ha2,ho1,ho2⟩,pcX,hs⟩:=y8 si1 hi'
  have pc:=(pcX _ e2).1
  obtain⟨aa,an,ak,rfl⟩:=SlC.shape sa
  obtain⟨fa,fn,fk,rfl⟩:=SlC.shape sf
  generalize (B.ins.take i).flatMap (fun x=>zAb x b)=P at *
  generalize B.ins.getD i default=x at *
  have hsn:=Hid.mk hsn
  refine go ?_
  refine WO.al ?_
  intro p6 h3 e3 o6
  refine go ?_
  refine WO.stC0 (cs:=[.int .u8 x.op,I x.ty,I x.a,I x.b,I x.n,.slice aa an ak,.slice fa fn fk]) o6 e3 ?_
  intro h4 e4 o64 u4
  have ow4:=OwnN.ext ow e4
  have e14:=e2.trans e4
  have sa4:=SlI.ext sa e14
  have sf4:=SlI.ext sf e14
  have o64:=o64.since e2
  refine go ?_
  by_cases c:x.op=22
  ·have hpx:=hpx c
   rw[zAb,if_pos c]at hsn
   refine go ?_
   refine WX.loopA [23,24,25,26,7,8,27,28,29,30,31,32,33,34,35,36,37,4,38,22] (by kernel_rfl) (fun j=>x.frm.length - j) (fun j t h5=>∃ w,zC t 22=I j∧j≤x.frm.length∧Ext h1 h5∧zC t 4=w∧OwnN h1 h5 w (P++Z2 (x.frm.take j) (x.args.take j) b)∧OwnC h1 h5 p6 [.int .u8 x.op,I x.ty,I x.a,I x.b,I x.n,.slice aa an ak,.slice fa fn fk]) 0 ?_ ?_
   ·exact⟨_,sl_,Nat.zero_le _,e14,sl_,by simpa [Z2]using ow4,o64⟩
   ·rintro j t5 h5 hsame5 ⟨w5,s22,hj,e5,s4',ow5,o65⟩
    have sa5:=SlI.ext sa e5
    have sf5:=SlI.ext sf e5
    refine go ?_
    refine WX.br (fun hb2=> ?_) (fun hb2=> ?_)<;>simp only[DB]at hb2
    ·have hj':j<x.frm.length:=by omega
     have hps:=zCD x.frm x.args b j hpx hj'
     have hpal:=zD0 (x.frm.take j) (x.args.take j) b
     have hpal2:(x.frm.take j).length≤j:=by rw[List.length_take];omega
     by_cases hk:x.frm.getD j 0=b
     ·rw[if_pos hk]at hps
      refine go ?_
      refine WO.bl [x.args.getD j 0] ?_
      intro v6 h6 e6 o6'
      refine go ?_
      refine WO.apNw (OwnN.ext ow5 e6) o6'.sl (e5.trans e6) (by simp) (by simp only[List.length_append,List.length_singleton];omega) ?_
      intro v7 h7 e7 o7 u7 _ _
      have o67:=zIw (o65.ext e6) (OwnN.ext ow5 e6) u7
      refine go ?_
      refine zA (j+1) (by omega) ⟨_,sln,by omega,e7,sl_,by rw[hps,←List.append_assoc];exact o7,o67⟩
     ·rw[if_neg hk,List.append_nil]at hps
      refine go ?_
      refine zA (j+1) (by omega) ⟨_,sln,by omega,e5,sl_,by rw[hps];exact ow5,o65⟩
    ·have hjl:j=x.frm.length:=by omega
     subst hjl
     rw[List.take_length,hpx,List.take_length]at ow5
     refine go ?_
     refine zA (i+1) (by omega) ⟨_,sln,by omega,e5,sl_,by rw[hsn.out];exact ow5⟩
  ·rw[zAb,if_neg c,List.append_nil]at hsn
   refine go ?_
   refine zA (i+1) (by omega) ⟨_,sln,by omega,e14,sl_,by rw[hsn.out];exact ow4⟩
 ·refine go ?_
  refine rt ?_
  rw[show i=B.ins.length by omega,List.take_length]at ow
  subst s4
  exact⟨ow.since e1,e1.trans e2⟩
end Go.Proofs.YtemggiegiejopaaDoor
namespace Go.Proofs.YtemggiegiejopaaDoor
open Go.Am
set_option linter.unusedVariables false
set_option linter.unusedSimpArgs false
set_option maxHeartbeats 2000000
def FarW (h:AHeap) (X:Nat) (v:Value) (s:List LWd):Prop:=SlW h v s∧∀ a n k,v= .slice (some a) n k→X≤a.block
theorem FarW.keep {h h':AHeap} {X:Nat} {v:Value} {s:List LWd} (F:FarW h X v s) (hk:∀ k,X≤k→k<h.n→h'.get k=h.get k) (hn:h.n≤h'.n):FarW h' X v s:=by
 obtain⟨⟨cells,⟨h1,h2⟩,hR⟩,hf⟩:=F
 refine⟨⟨cells,⟨h1,h2.imp id ?_⟩,fun i a ha=>hR i a ha⟩,hf⟩
 rintro⟨g,off,row,rfl,hr,hc,hg⟩
 have:=hf _ _ _ rfl
 refine⟨g,off,row,rfl,?_,hc,Nat.lt_of_lt_of_le hg hn⟩
 unfold zg at hr ⊢
 rw[hk g this hg];exact hr
theorem FarW.nil {h:AHeap} {X:Nat}:FarW h X (.slice none 0 0) []:=⟨SlR.nil,fun a n k e=>by cases e⟩
theorem MineW.far {h h':AHeap} {X:Nat} {v:Value} {s:List LWd} (m:MineW h h' v s) (hX:X≤h.n):FarW h' X v s:=by
 refine⟨m.sl,fun a n k e=> ?_⟩
 obtain⟨b,hb,o⟩:=m
 rcases o with ⟨e2,_⟩|⟨g,_,_,g1,_,e2,_⟩
 ·rw[e2]at e;cases e
 ·rw[e2]at e;cases e
  show X≤g
  omega
def RSt (X:Nat) (h:AHeap) (cs:List Value) (s:List LWd):Prop:=∃ v,cs=[v]∧FarW h X v s
def RowS (h:AHeap) (X g:Nat) (S:Zb):Prop:=∃ vs:List Value,h.get g=some (.row vs true 0)∧vs.length=S.length∧∀ i,i<S.length→FarW h X (vs.getD i undef) (S.getD i [])
theorem RowS.keep {h h':AHeap} {X g:Nat} {S:Zb} (r:RowS h X g S) (hg:h'.get g=h.get g) (hk:∀ k,X≤k→k<h.n→h'.get k=h.get k) (hn:h.n≤h'.n):RowS h' X g S:=by
 obtain⟨vs,a,b,c⟩:=r
 exact⟨vs,hg.trans a,b,fun i hi=>(c i hi).keep hk hn⟩
theorem RowS.sl {h:AHeap} {X g:Nat} {S:Zb} (r:RowS h X g S) (hg:g<h.n):SlR 1 (RSt X) h (.slice (some ⟨g,0,none⟩) S.length 1) S:=by
 obtain⟨vs,a,b,c⟩:=r
 refine⟨vs,SlC.own (own:=true) (lo:=0) hg a (by omega),fun i s hs=> ?_⟩
 have hi:=(List.getElem?_eq_some_iff.1 hs).1
 refine⟨vs.getD i undef,?_,?_⟩
 ·rw[Nat.mul_one,List.drop_eq_getElem_cons (by omega),List.take_succ_cons,List.take_zero,List.getD_eq_getElem?_getD,List.getElem?_eq_getElem (by omega)];rfl
 ·have:=c i hi
  rwa [List.getD_eq_getElem?_getD (l:=S),hs]at this
structure FS (hB h:AHeap) (X gp gb ge gm:Nat) (vt vf:Value) (f:Int) (bg ed:Zb) (es:List (Int×Int)):Prop where
 e:Ext hB h
 hX:X≤h.n
 dp:hB.n≤gp∧gp<X
 db:hB.n≤gb∧gb<X
 de:hB.n≤ge∧ge<X
 dm:hB.n≤gm∧gm<X
 ne:gp≠gb∧gp≠ge∧gp≠gm∧gb≠ge∧gb≠gm∧ge≠gm
 rp:h.get gp=some (.row [vt,vf,I f,.slice (some ⟨gb,0,none⟩) bg.length 1,.slice (some ⟨ge,0,none⟩) ed.length 1,.map (some gm)] true 0)
 sb:RowS h X gb bg
 se:RowS h X ge ed
 rm:OwnM hB h (.map (some gm)) es
section
variable {hB h h':AHeap} {X gp gb ge gm:Nat} {vt vf:Value} {f:Int} {bg ed:Zb} {es es':List (Int×Int)}
theorem FS.own (F:FS hB h X gp gb ge gm vt vf f bg ed es):OwnC hB h (.pointer (some ⟨gp,0,none⟩)) [vt,vf,I f,.slice (some ⟨gb,0,none⟩) bg.length 1,.slice (some ⟨ge,0,none⟩) ed.length 1,.map (some gm)]:=
 ⟨gp,F.dp.1,Nat.lt_of_lt_of_le F.dp.2 F.hX,rfl,F.rp⟩
theorem FS.begs (F:FS hB h X gp gb ge gm vt vf f bg ed es):SlR 1 (RSt X) h (.slice (some ⟨gb,0,none⟩) bg.length 1) bg:=F.sb.sl (Nat.lt_of_lt_of_le F.db.2 F.hX)
theorem FS.ends (F:FS hB h X gp gb ge gm vt vf f bg ed es):SlR 1 (RSt X) h (.slice (some ⟨ge,0,none⟩) ed.length 1) ed:=F.se.sl (Nat.lt_of_lt_of_le F.de.2 F.hX)
theorem FS.ext (F:FS hB h X gp gb ge gm vt vf f bg ed es) (e:Ext h h'):FS hB h' X gp gb ge gm vt vf f bg ed es:=by
 have hk:∀ k,X≤k→k<h.n→h'.get k=h.get k:=fun k _ hk=>e.get k hk
 exact⟨F.e.trans e,Nat.le_trans F.hX e.n,F.dp,F.db,F.de,F.dm,F.ne,(e.get _ (Nat.lt_of_lt_of_le F.dp.2 F.hX)).trans F.rp,F.sb.keep (e.get _ (Nat.lt_of_lt_of_le F.db.2 F.hX)) hk e.n,F.se.keep (e.get _ (Nat.lt_of_lt_of_le F.de.2 F.hX)) hk e.n,F.rm.ext e⟩
theorem FS.setM (F:FS hB h X gp gb ge gm vt vf f bg ed es) (e:Ext hB h') (o:OwnM hB h' (.map (some gm)) es') (u:UpdM (.map (some gm)) h h'):FS hB h' X gp gb ge gm vt vf f bg ed es':=by
 obtain⟨n1,n2,n3,n4,n5,n6⟩:=F.ne
 have hk:∀ k,k<h.n→k≠gm→h'.get k=h.get k:=fun k h1 h2=>u.2 k h1 fun e=>by cases e;exact h2 rfl
 have hk2:∀ k,X≤k→k<h.n→h'.get k=h.get k:=fun k h1 h2=>hk k h2 (by have:=F.dm.2;omega)
 exact⟨e,Nat.le_trans F.hX u.1,F.dp,F.db,F.de,F.dm,F.ne,(hk _ (Nat.lt_of_lt_of_le F.dp.2 F.hX) n3).trans F.rp,F.sb.keep (hk _ (Nat.lt_of_lt_of_le F.db.2 F.hX) n5) hk2 u.1,F.se.keep (hk _ (Nat.lt_of_lt_of_le F.de.2 F.hX) n6) hk2 u.1,o⟩
theorem FS.setB {bg':Zb} (F:FS hB h X gp gb ge gm vt vf f bg ed es) (e:Ext hB h') (r:RowS h' X gb bg') (hl:bg'.length=bg.length) (hn:h.n≤h'.n) (hk:∀ k,k<h.n→k≠gb→h'.get k=h.get k):FS hB h' X gp gb ge gm vt vf f bg' ed es:=by
 obtain⟨n1,n2,n3,n4,n5,n6⟩:=F.ne
 have hk2:∀ k,X≤k→k<h.n→h'.get k=h.get k:=fun k h1 h2=>hk k h2 (by have:=F.db.2;omega)
 refine⟨e,Nat.le_trans F.hX hn,F.dp,F.db,F.de,F.dm,F.ne,by rw[hl];exact(hk _ (Nat.lt_of_lt_of_le F.dp.2 F.hX) n1).trans F.rp,r,F.se.keep (hk _ (Nat.lt_of_lt_of_le F.de.2 F.hX) (fun e=>n4 e.symm)) hk2 hn,?_⟩
 obtain⟨q,c,es',q1,q2,q3,q4,q5⟩:=F.rm
 cases q3
 exact⟨gm,c,es',q1,Nat.lt_of_lt_of_le q2 hn,rfl,(hk gm q2 (fun e=>n5 e.symm)).trans q4,q5⟩
theorem FS.setE {ed':Zb} (F:FS hB h X gp gb ge gm vt vf f bg ed es) (e:Ext hB h') (r:RowS h' X ge ed') (hl:ed'.length=ed.length) (hn:h.n≤h'.n) (hk:∀ k,k<h.n→k≠ge→h'.get k=h.get k):FS hB h' X gp gb ge gm vt vf f bg ed' es:=by
 obtain⟨n1,n2,n3,n4,n5,n6⟩:=F.ne
 have hk2:∀ k,X≤k→k<h.n→h'.get k=h.get k:=fun k h1 h2=>hk k h2 (by have:=F.de.2;omega)
 refine⟨e,Nat.le_trans F.hX hn,F.dp,F.db,F.de,F.dm,F.ne,by rw[hl];exact(hk _ (Nat.lt_of_lt_of_le F.dp.2 F.hX) n2).trans F.rp,F.sb.keep (hk _ (Nat.lt_of_lt_of_le F.db.2 F.hX) n4) hk2 hn,r,?_⟩
 obtain⟨q,c,es',q1,q2,q3,q4,q5⟩:=F.rm
 cases q3
 exact⟨gm,c,es',q1,Nat.lt_of_lt_of_le q2 hn,rfl,(hk gm q2 (fun e=>n6 e.symm)).trans q4,q5⟩
end
section
variable {P:Program} {tab:Tab} {t:Trie Value} {h:AHeap} {ds:List Deferred} {rd:Option Nat} {l:List AOper} {Q:AFr→AHeap→Prop}
theorem WO.stRow {hB:AHeap} {X g i n:Nat} {S:Zb} {s:List LWd} {x y:Operand} {a:Option Addr} {vn vk:Nat} (r:RowS h X g S) (e0:Ext hB h) (hg:hB.n≤g∧g<X) (hX:X≤h.n) (hi:i<S.length) (F:FarW h X (.slice a vn vk) s)
  (k:∀ h',Ext hB h'→RowS h' X g (S.set i s)→h'.n=h.n→(∀ k,k<h.n→k≠g→h'.get k=h.get k)→WO P tab l ⟨t,ds,rd⟩ h' Q)
  (hx:Ope t x (zq (.slice (some ⟨g,0,none⟩) n 1) (i * 1)):=by exact ze) (hy:Ope t y (.slice a vn vk):=by exact ze):
  WO P tab (⟨none,none,.store 1 x y⟩::l) ⟨t,ds,rd⟩ h Q:=by
 obtain⟨vs,r1,r2,r3⟩:=r
 have hx:ev t x= .pointer (some ⟨g,0+i * 1,none⟩):=hx
 rw[Nat.zero_add,Nat.mul_one]at hx
 have hy:ev t y= .slice a vn vk:=hy
 have hst:zU h ⟨g,i,none⟩ [.slice a vn vk]=some (h.set g (.row (vs.set i (.slice a vn vk)) true 0)):=by
  have h2:Nat.ble (i+[Value.slice a vn vk].length) vs.length=true:=Nat.ble_eq_true_of_le (by simp;omega)
  have h3:Nat.ble 0 i=true:=Nat.ble_eq_true_of_le (Nat.zero_le _)
  have h4:zR [Value.slice a vn vk]=true:=rfl
  simp only[zU,r1,h2,h3,h4,Option.isNone_none,Bool.and_self,cond_true]
  rw[zIV (by omega)]
 have hk:∀ k,k≠g→(h.set g (.row (vs.set i (.slice a vn vk)) true 0)).get k=h.get k:=fun k hk=>by rw[zM,if_neg hk]
 refine WO.op0 undef (h.set g (.row (vs.set i (.slice a vn vk)) true 0)) rfl ?_ (k _ (e0.set hg.1 (Nat.lt_of_lt_of_le hg.2 hX) _) ⟨vs.set i (.slice a vn vk),by rw[zM,if_pos rfl],by rw[List.length_set,List.length_set];exact r2,fun j hj=> ?_⟩ rfl fun k _ h2=>hk k h2)
 ·simp only[aop,hx,hy,zFs,List.size_toArray,List.length_singleton,Nat.beq_refl,hst,Option.map_some,cond_true]
 ·rw[List.length_set]at hj
  have hkk:∀ k,X≤k→k<h.n→(h.set g (.row (vs.set i (.slice a vn vk)) true 0)).get k=h.get k:=fun k h1 _=>hk k (by omega)
  by_cases e:j=i
  ·subst e
   rw[List.getD_eq_getElem?_getD,List.getElem?_set_self (by omega),List.getD_eq_getElem?_getD,List.getElem?_set_self hi]
   exact F.keep hkk (Nat.le_refl _)
  ·rw[List.getD_eq_getElem?_getD,List.getElem?_set_ne (fun h=>e h.symm),List.getD_eq_getElem?_getD,List.getElem?_set_ne (fun h=>e h.symm),←List.getD_eq_getElem?_getD,←List.getD_eq_getElem?_getD]
   exact(r3 j hj).keep hkk (Nat.le_refl _)
end
end Go.Proofs.YtemggiegiejopaaDoor
namespace Go.Proofs.YtemggiegiejopaaDoor
open Go.Am
set_option linter.unusedVariables false
set_option linter.unusedSimpArgs false
def yG (par:Int) (L:List LBlk):Int:=par+yJ L
structure InsU (x:LIns) (N n:Int):Prop where
 op:1≤x.op∧x.op≤22
 uses:∀ r∈YV x,0≤r∧r<N
 args:x.args.length≤20
 frm:x.frm.length≤20
 phi:x.op=22→x.frm.length=x.args.length∧(∀ r∈x.args,0≤r∧r<N)∧(∀ b∈x.frm,0≤b∧b<n)
 none:x.op≠22→x.frm.length=0
structure BlkU (b:LBlk) (N n:Int):Prop where
 ins:∀ x∈b.ins,InsU x N n
 ends:∀ r∈YA b.fin,0≤r∧r<N
 next:∀ k∈Z0 b.fin,0≤k∧k<n
theorem ins_op {x:LIns} {s:LSz} (h:zCJ x s=true):1≤x.op∧x.op≤22:=by
 by_cases h0:0≤x.op
 ·exact((zF7 h0).1 h).op
 ·exfalso
  have he:z9 x.op=(false,false,false,false,false,false):=by
   unfold z9;rw[show x.op.toNat=0 by omega];rfl
  unfold zCJ oddL at h
  rw[he]at h
  simp at h
theorem ins_u {x:LIns} {s:LSz} (h:zCJ x s=true):InsU x s.regs s.blocks:=by
 have ho:=ins_op h
 have m:=(zF7 (by omega)).1 h
 have ha:=zEz (op:=x.op) (by omega)
 have h22:(z9 x.op).2.2.2.2.1=true↔x.op=22:=ha.2.2.2.2.1
 have hg:(z9 x.op).2.2.2.1=true↔zGI x.op:=ha.2.2.1
 have hf:=m.frm
 have hgl:=m.g
 have hargs:(x.args.length:Int)≤16:=by
  split at hf
  ·omega
  ·omega
 have hfrm:(x.frm.length:Int)≤16:=by
  split at hf
  ·omega
  ·omega
 refine⟨ho,m.uses,by omega,by omega,fun e=> ?_,fun e=> ?_⟩
 ·rw[if_pos (h22.2 e)]at hf
  refine⟨by omega,fun r hr=>m.uses r ?_,hf.2.2.2⟩
  unfold YV
  rw[show (z9 x.op).2.2.2.1=true from hg.2 (by unfold zGI;omega),if_pos rfl]
  exact List.mem_append.2 (.inr (List.mem_append.2 (.inr hr)))
 ·rw[if_neg (fun q=>e (h22.1 q))]at hf
  omega
theorem blk_u {b:LBlk} {s:LSz} (h:blkL b s=false):BlkU b s.regs s.blocks:=by
 unfold blkL at h
 rw[Bool.or_eq_false_iff]at h
 obtain⟨h1,h2⟩:=h
 have h2:zBP b.fin s=true:=by simpa using h2
 have he:=endL_iff.1 h2
 refine⟨fun x hx=>ins_u ?_,fun r hr=> ?_,fun k hk=> ?_⟩
 ·cases hi:zCJ x s with
  |true=>rfl
  |false=>exact absurd h1 (by rw[List.any_eq_true.2 ⟨x,hx,by rw[hi];rfl⟩];simp)
 ·unfold YA at hr
  split at hr
  ·rw[List.mem_singleton]at hr;subst hr
   rcases he with ⟨e,_⟩|⟨e,q,_⟩|⟨e,_,_,q⟩
   ·omega
   ·exact q _ (by simp)
   ·exact q _ (by simp)
  ·cases hr
 ·unfold Z0 at hk
  rcases he with ⟨e,_,_,q⟩|⟨e,_,q⟩|⟨e,_⟩
  ·rw[if_pos e]at hk
   exact q k hk
  ·rw[if_neg (by omega),if_pos e]at hk
   split at hk
   ·exact q k (by rw[List.mem_singleton]at hk;subst hk;simp)
   ·exact q k hk
  ·rw[if_neg (by omega),if_neg (by omega)]at hk;cases hk
theorem fn_u {T:List LType} {nf:Int} {f:LFn} (h:fnL T nf f=true):∀ b∈f.blocks,BlkU b (yG ((T.getD f.sig.toNat default).parts.length:Int) f.blocks) f.blocks.length:=by
 intro b hb
 unfold fnL at h
 split at h
 ·cases h
 ·have h:(f.blocks.any fun b=>blkL b (szL T nf f))=false:=by simpa using h
  have:=blk_u (b:=b) (s:=szL T nf f) (by
   cases q:blkL b (szL T nf f)with
   |false=>rfl
   |true=>rw[List.any_eq_true.2 ⟨b,hb,q⟩]at h;cases h)
  exact this
theorem fn_len {T:List LType} {n:Int} {f:LFn} (h:fnL T n f=true):1≤f.blocks.length∧f.blocks.length≤16∧yJ f.blocks≤128:=by
 unfold fnL at h
 split at h
 ·cases h
 ·rename_i hb
  unfold zCK at hb
  simp only[Bool.or_eq_true,Bool.not_eq_true',decide_eq_true_iff,not_or,Bool.not_eq_false]at hb
  obtain⟨⟨⟨_,_⟩,h3⟩,h4⟩:=hb
  unfold zQ at h3
  simp at h3
  omega
theorem ins_le {l:List LBlk} {b:LBlk} (h:b∈l):(b.ins.length:Int)≤yJ l:=by
 induction l with
 |nil=>cases h
 |cons c l ih=>
  have hc:yJ (c::l)=(c.ins.length:Int)+yJ l:=by unfold yJ;simp
  have hp:=yp l
  rw[hc]
  rcases List.mem_cons.1 h with rfl|h
  ·omega
  ·have:=ih h;omega
theorem zC6 {T:List LType} {F:List LFn} {f:Int} (h:(yV T F f).2=0):0≤f∧f<(F.length:Int)∧Y9 T F=0∧yV T F f=(((T.getD (F.getD f.toNat default).sig.toNat default).parts.length:Int),0):=by
 unfold yV at h ⊢
 split at h
 ·rename_i hp;exact absurd h hp
 ·rename_i hp
  rw[if_neg hp]
  split at h
  ·rename_i hb
   rw[if_pos hb]
   unfold zQ at hb;simp at hb
   exact⟨hb.1,hb.2,by omega,rfl⟩
  ·cases h
theorem zHq {T:List LType} {F:List LFn} {f:Int} (sm:Small T F) (h:(yV T F f).2=0):FnOk T F f (F.getD f.toNat default).blocks ((T.getD (F.getD f.toNat default).sig.toNat default).parts.length:Int)∧
  ∀ b∈(F.getD f.toNat default).blocks,BlkU b (yG ((T.getD (F.getD f.toNat default).sig.toNat default).parts.length:Int) (F.getD f.toNat default).blocks) (F.getD f.toNat default).blocks.length:=by
 obtain⟨h0,h1,hp,ha⟩:=zC6 h
 have hmem:=zL (l:=F) (i:=f.toNat) (by omega)
 have hfn:=(zBl hp).2.2.2 _ hmem
 have hl:=fn_len hfn
 refine⟨⟨h0,h1,hp,ha,rfl,by omega,?_,⟨hl.1,hl.2.1⟩,hl.2.2,fun b hb=>by have:=ins_le hb;omega,hfn⟩,fn_u hfn⟩
 by_cases q:(F.getD f.toNat default).sig.toNat<T.length
 ·have:=sm.parts _ (zL (l:=T) q);omega
 ·rw[List.getD_eq_getElem?_getD,List.getElem?_eq_none (by omega)];simp;decide
theorem zDf {x:LIns} {r:Int} (h:r∈yj x):r∈YV x:=by
 unfold yj at h;split at h
 ·cases h
 ·exact h
theorem zDr:∀ {fs gs:List Int} {b r:Int},r∈Z2 fs gs b→r∈gs
 |[],_,_,_,h=>by simp[Z2]at h
 |_::_,[],_,_,h=>by simp[Z2]at h
 |f::fs,a::gs,b,r,h=>by
  unfold Z2 at h
  split at h
  ·rcases List.mem_cons.1 h with rfl|h
   ·exact List.mem_cons_self ..
   ·exact List.mem_cons_of_mem _ (zDr h)
  ·exact List.mem_cons_of_mem _ (zDr h)
theorem phis_in {B:LBlk} {N n b r:Int} (u:BlkU B N n) (h:r∈ZX B b):0≤r∧r<N:=by
 unfold ZX at h
 obtain⟨x,hx,hr⟩:=List.mem_flatMap.1 h
 split at hr
 ·rename_i e
  exact((u.ins x hx).phi e).2.1 r (zDr hr)
 ·cases hr
theorem zBn {N:Int} {E:Int→Prop}:∀ {l:List LIns} {k r:Int},(∀ x∈l,∀ r∈YV x,0≤r∧r<N)→(∀ r,E r→0≤r∧r<N)→zB0 E l k r→0≤r∧r<N
 |[],_,_,_,hE,h=>hE _ h
 |x::l,k,r,hu,hE,h=>by
  rcases h with h|⟨_,h⟩
  ·exact hu x (List.mem_cons_self ..) r (zDf h)
  ·exact zBn (fun y hy=>hu y (List.mem_cons_of_mem _ hy)) hE h
end Go.Proofs.YtemggiegiejopaaDoor
namespace Go.Proofs.YtemggiegiejopaaDoor
open Go.Am
set_option linter.unusedVariables false
set_option linter.unusedSimpArgs false
set_option maxHeartbeats 4000000
theorem extI {h h':AHeap} (e:Ext (inC (zB 0 h)) h'):Ext h (outC h (inC h')):=⟨e.n,e.get,fun w=>e.wf w,rfl,fun _=>rfl⟩
theorem extI2 {h h1 h2:AHeap} (e:Ext (inC (zB 0 h)) h1) (e2:Ext (inC h1) h2):Ext h (outC h (inC h2)):=⟨Nat.le_trans e.n e2.n,fun g hg=>(e2.get g (Nat.lt_of_lt_of_le hg e.n)).trans (e.get g hg),fun w=>e2.wf (e.wf w),rfl,fun _=>rfl⟩
theorem extI3 {h h1 h2 h3:AHeap} (e:Ext (inC (zB 0 h)) h1) (e2:Ext (inC h1) h2) (e3:Ext (inC h2) h3):Ext h (outC h (inC h3)):=⟨Nat.le_trans e.n (Nat.le_trans e2.n e3.n),fun g hg=>(e3.get g (Nat.lt_of_lt_of_le hg (Nat.le_trans e.n e2.n))).trans ((e2.get g (Nat.lt_of_lt_of_le hg e.n)).trans (e.get g hg)),fun w=>e3.wf (e2.wf (e.wf w)),rfl,fun _=>rfl⟩
theorem EnvL.inC {h:AHeap} {vt vf:Value} {T:List LType} {F:List LFn} (E:EnvL h vt vf T F):EnvL (inC h) vt vf T F:=⟨E.tt,Nat.le_refl _,E.sm,E.st,E.sf⟩
theorem mineR {h h1 h2:AHeap} {v:Value} {s:List LWd} (m:MineW (inC h1) h2 v s) (hn:h.n≤h1.n):MineW h (outC h (inC h2)) v s:=let ⟨b,hb,o⟩:=m;⟨b,Nat.le_trans hn hb,OwnR.upd o (fun _ _ _=>rfl) (Nat.le_refl _)⟩
theorem base_in {T:List LType} {F:List LFn} {f par:Int} {L:List LBlk} (O:FnOk T F f L par) {b:Int} (hb:0≤b∧b<(L.length:Int)) {i:Nat} (hi:i<(L.getD b.toNat default).ins.length):0≤Za par L b+i∧Za par L b+i<yG par L:=by
 have h1:yJ (L.take (b.toNat+1))=yJ (L.take b.toNat)+((L.getD b.toNat default).ins.length:Int):=by
  have e:L.take (b.toNat+1)=L.take b.toNat++[L.getD b.toNat default]:=by
   rw[List.take_add_one,List.getD_eq_getElem?_getD,List.getElem?_eq_getElem (show b.toNat<L.length by omega)];rfl
  rw[e]
  unfold yJ
  rw[List.map_append,List.sum_append];simp
 have h2:=zDV L (b.toNat+1)
 have h3:=yp (L.take b.toNat)
 have:=O.par0
 unfold Za yG
 omega
noncomputable def body24_0:ACode:=(.seq (.seq (.region [⟨some 42,none,(.mov (.tmp 9))⟩,⟨some 43,none,(.mov (.tmp 2))⟩,⟨some 44,none,(.bin .geq (.tmp 42) (.tmp 43))⟩]) (.cond (.tmp 44) .skip (.exit 0))) (.seq (.block 1 (.seq (.regionC [(⟨some 48,none,(.mov (.tmp 0))⟩,[]),(⟨some 49,none,(.nilCheck (.tmp 48))⟩,[]),(⟨some 50,none,(.fld 0 (.tmp 49))⟩,[]),(⟨some 51,none,(.load true 2 (.tmp 50))⟩,[]),(⟨some 52,none,(.mov (.tmp 0))⟩,[]),(⟨some 53,none,(.nilCheck (.tmp 52))⟩,[]),(⟨some 54,none,(.fld 2 (.tmp 53))⟩,[]),(⟨some 55,none,(.load false 1 (.tmp 54))⟩,[]),(⟨some 56,none,(.mov (.tmp 1))⟩,[]),(⟨some 57,none,(.mov (.tmp 9))⟩,[]),(⟨some 58,none,(.call (.func 16) [(.tmp 51),(.tmp 55),(.tmp 56),(.tmp 57)])⟩,[]),(⟨some 47,none,(.mov (.tmp 58))⟩,[]),(⟨some 59,none,(.extract (.tmp 47) 0)⟩,[]),(⟨some 60,none,(.extract (.tmp 47) 1)⟩,[]),(⟨some 10,none,(.mov (.tmp 59))⟩,[]),(⟨some 11,none,(.mov (.tmp 60))⟩,[])]) (.regionC [(⟨some 61,none,(.mov (.tmp 8))⟩,[]),(⟨some 62,none,(.mov (.tmp 10))⟩,[]),(⟨some 63,none,(.call (.func 36) [(.tmp 61),(.tmp 62)])⟩,[]),(⟨some 64,none,(.fld 0 (.tmp 7))⟩,[]),(⟨some 65,none,(.load false 1 (.tmp 64))⟩,[2]),(⟨some 66,none,(.mov (.tmp 9))⟩,[]),(⟨some 67,none,(.idx 7 (.tmp 65) (.tmp 66))⟩,[]),(⟨some 68,none,(.load true 7 (.tmp 67))⟩,[2]),(⟨some 69,none,(.call (.func 37) [(.tmp 68)])⟩,[]),(⟨some 70,none,(.call (.func 35) [(.tmp 63),(.tmp 69)])⟩,[]),(⟨some 8,none,(.mov (.tmp 70))⟩,[])]))) (.region [⟨some 45,none,(.mov (.tmp 9))⟩,⟨some 46,none,(.bin .sub (.tmp 45) (.const (.int .i64 1)))⟩,⟨some 9,none,(.mov (.tmp 46))⟩])))
noncomputable def body24:ACode:=(.seq (.region [⟨some 6,none,(.mov (.const (.slice none 0 0)))⟩]) (.seq (.regionC [(⟨some 12,none,(.mov (.tmp 0))⟩,[]),(⟨some 13,none,(.nilCheck (.tmp 12))⟩,[]),(⟨some 14,none,(.fld 0 (.tmp 13))⟩,[]),(⟨some 15,none,(.fld 1 (.tmp 14))⟩,[]),(⟨some 16,none,(.load false 1 (.tmp 15))⟩,[]),(⟨some 17,none,(.mov (.tmp 0))⟩,[]),(⟨some 18,none,(.nilCheck (.tmp 17))⟩,[]),(⟨some 19,none,(.fld 2 (.tmp 18))⟩,[]),(⟨some 20,none,(.load false 1 (.tmp 19))⟩,[]),(⟨some 21,none,(.idx 2 (.tmp 16) (.tmp 20))⟩,[]),(⟨some 22,none,(.fld 1 (.tmp 21))⟩,[]),(⟨some 23,none,(.load false 1 (.tmp 22))⟩,[]),(⟨some 24,none,(.mov (.tmp 1))⟩,[]),(⟨some 25,none,(.idx 5 (.tmp 23) (.tmp 24))⟩,[]),(⟨some 26,none,(.load true 5 (.tmp 25))⟩,[]),(⟨some 7,none,(.alloc [(.slice none 0 0),(.int .u8 0),(.int .i64 0),(.int .i64 0),(.int .i64 0)])⟩,[]),(⟨none,none,(.store 5 (.tmp 7) (.tmp 26))⟩,[])]) (.seq (.regionC [(⟨some 27,none,(.mov (.tmp 0))⟩,[]),(⟨some 28,none,(.nilCheck (.tmp 27))⟩,[]),(⟨some 29,none,(.fld 4 (.tmp 28))⟩,[]),(⟨some 30,none,(.load false 1 (.tmp 29))⟩,[]),(⟨some 31,none,(.mov (.tmp 1))⟩,[]),(⟨some 32,none,(.idx 1 (.tmp 30) (.tmp 31))⟩,[]),(⟨some 33,none,(.load false 1 (.tmp 32))⟩,[]),(⟨some 34,none,(.fld 1 (.tmp 7))⟩,[]),(⟨some 35,none,(.load true 4 (.tmp 34))⟩,[]),(⟨some 36,none,(.call (.func 14) [(.tmp 35)])⟩,[3,6]),(⟨some 37,none,(.call (.func 35) [(.tmp 33),(.tmp 36)])⟩,[]),(⟨some 8,none,(.mov (.tmp 37))⟩,[])]) (.seq (.seq (.region [⟨some 38,none,(.fld 0 (.tmp 7))⟩,⟨some 39,none,(.load false 1 (.tmp 38))⟩,⟨some 40,none,(.len (.tmp 39))⟩,⟨some 41,none,(.bin .sub (.tmp 40) (.const (.int .i64 1)))⟩,⟨some 9,none,(.mov (.tmp 41))⟩]) (.block 0 (.loop body24_0))) (.seq (.region [⟨some 71,none,(.mov (.tmp 8))⟩,⟨some 6,none,(.mov (.tmp 71))⟩]) .ret)))))
set_option maxRecDepth 100000 in
theorem tab24:tb.code 24=some ⟨72,[(6,none)],body24⟩:=by kernel_rfl
theorem zER (hB h:AHeap) (X gp gb ge gm:Nat) (vt vf:Value) (T:List LType) (F:List LFn) (f par:Int) (L:List LBlk) (bg ed:Zb) (es:List (Int×Int)) (b:Int) (k:Nat) (S:FS hB h X gp gb ge gm vt vf f bg ed es) (E:EnvL h vt vf T F) (O:FnOk T F f L par)
  (U:∀ x∈L,BlkU x (yG par L) L.length) (hb:0≤b∧b<(L.length:Int)) (hk:k≤(L.getD b.toNat default).ins.length) (hl:ed.length=L.length) (oe:OkW (ed.getD b.toNat [])∧∀ r,inS ed b r→r<yG par L):
  WC Tryd.prog tb 24 [.pointer (some ⟨gp,0,none⟩),I b,I k] h fun r h'=>(∃ t,MineW h h' r t∧OkW t∧∀ n,InW t n↔yZ par L b k (inS ed b) n)∧Ext h h':=by
 have hF:=E.sm.funcs
 have hN:0≤yG par L∧yG par L≤228:=by
  have:=O.par0;have:=O.parl;have:=O.many;have:=yp L;unfold yG;omega
 have hf0:=O.f0
 have hf1:=O.f1
 have hisL:=O.isL
 have hlen:=O.len
 have hbi:∀ {i:Nat},i<(L.getD b.toNat default).ins.length→0≤Za par L b+i∧Za par L b+i<yG par L:=fun hi=>base_in O hb hi
 have hUb:=U _ (zL (l:=L) (i:=b.toNat) (by omega))
 have hib:((L.getD b.toNat default).ins.length:Int)≤128:=O.ins _ (zL (l:=L) (i:=b.toNat) (by omega))
 have hls:∀ (j:Nat) r,j≤(L.getD b.toNat default).ins.length→yZ par L b j (inS ed b) r→0≤r∧r<yG par L:=fun j r hj q=>by
  unfold yZ at q
  refine zBn (fun x hx=>(hUb.ins x (List.mem_of_mem_drop hx)).uses) (fun r q=> ?_) q
  rcases q with q|q
  ·exact hUb.ends r q
  ·exact⟨(InW.range oe.1 q).1,oe.2 r q⟩
 have hstep:∀ (j:Nat) r,j<(L.getD b.toNat default).ins.length→(yZ par L b j (inS ed b) r↔r∈yj ((L.getD b.toNat default).ins.getD j default)∨(r≠Za par L b+j∧yZ par L b (j+1) (inS ed b) r)):=fun j r hj=>zHA hj
 have hfin:∀ r,yZ par L b (L.getD b.toNat default).ins.length (inS ed b) r↔r∈YA (L.getD b.toNat default).fin∨inS ed b r:=fun r=>zI2 (Nat.le_refl _)
 obtain⟨ta,tn,tk,rfl⟩:=zI E.st
 obtain⟨ga,gn,gk,rfl⟩:=zI E.sf
 have o1:=S.own
 refine WC.of (zF 24) tab24 ?_;simp only[zO,Nat.zero_add,Nat.reduceAdd]
 refine go ?_
 refine WX.regionU2 1 rfl rfl ?_
 have eA:Ext h (zB 1 h):=zCF 1 h
 have o1X:=o1.ext eA
 have o1X:OwnC hB (inC (zB 1 h)) (.pointer (some ⟨gp,0,none⟩)) [.slice ta tn tk,.slice ga gn gk,I f,.slice (some ⟨gb,0,none⟩) bg.length 1,.slice (some ⟨ge,0,none⟩) ed.length 1,.map (some gm)]:=o1X
 have sfX:=SlF.ext E.sf eA
 have sfX:SlF (inC (zB 1 h)) (.slice ga gn gk) F:=sfX
 obtain⟨csF,⟨vb,rfl,sb,hlb⟩,pcF,hsF⟩:=y8 E.sf (i:=f.toNat) (by omega)
 obtain⟨ba,bn,bk,rfl⟩:=zI sb
 rw[←hisL]at sb
 have sbX:=SlB.ext sb eA
 have sbX:SlB (inC (zB 1 h)) (.slice ba bn bk) L:=sbX
 obtain⟨csB,⟨vi,rfl,si,hli⟩,pcB,hsB⟩:=y8 sb (i:=b.toNat) (by omega)
 obtain⟨ia,iN,ik,rfl⟩:=zI si
 have pcFX:=(pcF _ eA).2
 have pcBX:=(pcB _ eA).2
 refine goU ?_
 refine WU2.alE (X:=inC (zB 1 h)) (Ext.refl _) E.hm ?_
 intro h1 p7 e1 o7
 clear o1X sfX sbX pcFX pcBX
 have S1:=S.ext e1
 have E1:=E.ext e1
 have o11:=S1.own
 have si1:=SlN.ext si e1
 generalize hBq:L.getD b.toNat default=B at *
 have hstep:=Hid.mk hstep
 have hfin:=Hid.mk hfin
 have hls:=Hid.mk hls
 have hbi:=Hid.mk (@hbi)
 refine go ?_
 refine WX.regionU2 0 rfl rfl ?_
 have o1X:OwnC hB (inC (zB 0 h1)) (.pointer (some ⟨gp,0,none⟩)) [.slice ta tn tk,.slice ga gn gk,I f,.slice (some ⟨gb,0,none⟩) bg.length 1,.slice (some ⟨ge,0,none⟩) ed.length 1,.map (some gm)]:=o11
 have o7X:OwnC h (inC (zB 0 h1)) p7 [.slice ia iN ik,.int .u8 B.fin.kind,I B.fin.a,I B.fin.to,I B.fin.els]:=o7
 have seX:SlR 1 (RSt X) (inC (zB 0 h1)) (.slice (some ⟨ge,0,none⟩) ed.length 1) ed:=S1.ends
 obtain⟨csE,⟨ve,rfl,hfar⟩,pcE,hsE⟩:=y8 S1.ends (i:=b.toNat) (by omega)
 have pcEX:=(pcE _ (Ext.refl _)).2
 have pcEX:Piece (inC (zB 0 h1)) (.slice (some ⟨ge,0,none⟩) ed.length 1) (b.toNat * 1) [ve]:=pcEX
 obtain⟨ea,en,ek,rfl⟩:=yi hfar.1
 refine goU ?_
 refine WO.con (zFp (inC (zB 0 h1)) B.fin) ?_
 rintro vl h2 ⟨ol,e2⟩
 refine WO.nil ?_
 refine yq e2 zP ?_
 have hm2:(inC h2).mark≤(inC h2).n:=Nat.le_refl _
 have hfr2:∀ r,inS ed b r→r<((yG par L).toNat:Int):=fun r q=>by have:=oe.2 r q;omega
 have hel:=zAM oe.1 hfr2
 have hul:(YA B.fin).length≤1:=by unfold YA;split<;>simp
 have ke:SlW (inC h2) (.slice ea en ek) (ed.getD b.toNat []):=by have:=SlW.ext hfar.1 (extI e2);exact this
 have sle:SlI (inC h2) vl (YA B.fin):=by have:=ol.sl;exact this
 refine goU ?_
 refine WO.con (zFM (inC h2) _ vl (ed.getD b.toNat []) (YA B.fin) ke sle oe.1 (fun n hn=>by have:=hUb.ends n hn;omega) (by omega) (by omega) hm2) ?_
 rintro v8 h3 ⟨⟨t8,m8,o8,len8,mem8⟩,e3⟩
 refine WO.nil ?_
 refine yq e3 zP ?_
 have e13:Ext h1 (outC h1 (inC h3)):=extI2 e2 e3
 have m8:MineW h1 (outC h1 (inC h3)) v8 t8:=mineR m8 (by have:=e2.n;exact this)
 have mem8:∀ r,InW t8 r↔yZ par L b B.ins.length (inS ed b) r:=fun r=>by
  rw[mem8,hfin.out];exact Or.comm
 refine goU ?_
 generalize outC h1 (inC h3)=h4 at e13 m8 ⊢
 have e14:=e13
 have e4:=e1.trans e13
 have m8:=m8.since e1
 clear e3 e2 ol sle ke pcE pcEX seX o1X o7X len8
 have mem8:=Hid.mk mem8
 have o8:=Hid.mk o8
 have S4:=S.ext e4
 have E4:=E.ext e4
 have o74:=o7.ext (by exact(show Ext h1 h4 from e14))
 have si4:=SlN.ext si e4
 obtain⟨w8n,w8k,w8l,rfl⟩:=yi m8.sl
 refine go ?_
 refine WX.loopA [42,43,44,48,49,50,51,52,53,54,55,56,57,58,47,59,60,10,11,61,62,63,64,65,66,67,68,69,70,8,45,46,9] (by kernel_rfl) (fun j=>j) (fun j t h5=>∃ v s,zC t 9=I ((j:Int) - 1)∧k≤j∧j≤B.ins.length∧Ext h4 h5∧zC t 8=v∧MineW h h5 v s∧Hid (OkW s)∧Hid (∀ r,InW s r↔yZ par L b j (inS ed b) r)) B.ins.length ?_ ?_
 ·exact⟨_,t8,sl_,hk,Nat.le_refl _,Ext.refl _,sl_,m8,o8,mem8⟩
 clear m8 mem8 o8
 rintro j t h5 hsame ⟨v,s,s9,hkj,hjl,e5,s8,ms,os,hs⟩
 have e05:=e4.trans e5
 have S5:=S4.ext e5
 have E5:=E4.ext e5
 have o75:=o74.ext e5
 have si5:=SlN.ext si4 e5
 obtain⟨wn,wk,wl,rfl⟩:=yi ms.sl
 have hsl:s.length≤228:=by
  have:=zAM (N:=(yG par L).toNat) os.out fun r q=>by
   have:=(hls.out j r hjl ((hs.out r).1 q)).2;omega
  omega
 refine go ?_
 refine WX.br (fun hc=> ?_) (fun hc=> ?_)<;>simp only[DB]at hc
 ·obtain⟨i,rfl⟩:∃ i,j=i+1:=⟨j - 1,by omega⟩
  have hi:i<B.ins.length:=by omega
  have hreg:=hbi.out hi
  have hU:=hUb.ins _ (zL (l:=B.ins) hi)
  have hst:=fun r=>hstep.out i r hi
  obtain⟨csx,hcsx,pcx,hsx⟩:=y8 si5 hi
  obtain⟨qa,qn,qk,hqv,hqb⟩:=zAt si5 hi
  have hru:(yj (B.ins.getD i default)).length≤22:=by
   have:=hU.args
   unfold yj YV
   split
   ·simp
   ·simp only[List.length_append]
    split<;>split<;>split<;>simp only[List.length_cons,List.length_nil]<;>omega
  have hrr:∀ r∈yj (B.ins.getD i default),0≤r∧r<yG par L:=fun r hr=>hU.uses r (zDf hr)
  have hx20:=hU.args
  generalize B.ins.getD i default=x at *
  have hst:=Hid.mk hst
  have hrr:=Hid.mk hrr
  clear hU
  refine go ?_
  refine WX.regionU2 0 rfl rfl ?_
  have o5X:OwnC hB (inC (zB 0 h5)) (.pointer (some ⟨gp,0,none⟩)) [.slice ta tn tk,.slice ga gn gk,I f,.slice (some ⟨gb,0,none⟩) bg.length 1,.slice (some ⟨ge,0,none⟩) ed.length 1,.map (some gm)]:=S5.own
  refine goU ?_
  refine WO.con (zE6 (inC (zB 0 h5)) _ _ T F f L par E5.inC O b (((i+1:Nat):Int) - 1) hb (by rw[hBq];omega)) ?_
  rintro _ h6 ⟨rfl,e6⟩
  rw[show Za par L b+(((i+1:Nat):Int) - 1)=Za par L b+(i:Int) by omega]
  refine WO.nil ?_
  refine yq e6 zP ?_
  refine goU ?_
  have e57:Ext h5 (outC h5 (inC h6)):=extI e6
  generalize outC h5 (inC h6)=h7 at e57 ⊢
  clear e6 o5X
  have ms7:=ms.ext e57
  have ks7:=ms7.sl
  have si7:=SlN.ext si5 e57
  have o77:=o75.ext e57
  have tt7:=E5.tt.ext e57
  have e07:=e05.trans e57
  have hqb7:qa.block<h7.n:=Nat.lt_of_lt_of_le hqb e57.n
  refine WX.regionU2 0 rfl rfl ?_
  have ksX:SlW (inC (zB 0 h7)) (.slice wn wk wl) s:=ks7
  refine goU ?_
  refine WO.con (zHC (inC (zB 0 h7)) _ s (Za par L b+i) ksX os.out (by omega) (by omega) (Nat.le_refl _)) ?_
  rintro v8 h8 ⟨⟨t8,m8,o8,len8,mem8⟩,e8⟩
  refine WO.nil ?_
  refine yq e8 zP ?_
  have e78:Ext h7 (outC h7 (inC h8)):=extI e8
  have o7Y:OwnC h (inC h8) p7 [.slice ia iN ik,.int .u8 B.fin.kind,I B.fin.a,I B.fin.to,I B.fin.els]:=by have:=o77.ext e78;exact this
  have siY:SlN (inC h8) (.slice ia iN ik) B.ins:=by have:=SlN.ext si7 e78;exact this
  have pcY:Piece (inC h8) (.slice ia iN ik) (i * 7) csx:=(pcx _ (e57.trans e78)).2
  have hcsY:RIns (inC h8) csx x:=by have:=RIns.ext hcsx (e57.trans e78);exact this
  have ttY:Tbl (inC h8):=by have:=tt7.ext e78;exact this
  obtain⟨va,vf,rfl,sa,sf,ha1,ha2,ho1,ho2⟩:=id hcsY
  have hii:(((i+1:Nat):Int) - 1).toNat=i:=by omega
  rw[←hii]at pcY
  refine goU ?_
  refine zHt o77 (Nat.le_refl _) ?_
  refine goU ?_
  refine uK2_el ⟨qa,qn,qk,hqv,hqb7⟩ ?_
  refine goU ?_
  refine WO.con (reads_ok (inC h8) x _ hcsY ttY hx20) ?_
  rintro vr h9 ⟨or',e9⟩
  refine WO.nil ?_
  refine yq e9 zP ?_
  have k8:SlW (inC h9) v8 t8:=by have:=SlW.ext (h:=inC h8) (h':=h9) m8.sl e9;exact this
  have slr:SlI (inC h9) vr (yj x):=by have:=or'.sl;exact this
  refine goU ?_
  refine WO.con (zFM (inC h9) _ _ t8 (yj x) k8 slr o8 (fun n hn=>by have:=hrr.out n hn;omega) (by omega) (by omega) (Nat.le_refl _)) ?_
  rintro v10 h10 ⟨⟨t10,m10,o10,len10,mem10⟩,e10⟩
  refine WO.nil ?_
  refine yq e10 zP ?_
  have e710:Ext h7 (outC h7 (inC h10)):=extI3 e8 e9 e10
  have m10:MineW h (outC h7 (inC h10)) v10 t10:=mineR m10 (by have h1:=e07.n;have h2:h7.n≤h8.n:=e8.n;have h3:h8.n≤h9.n:=e9.n;omega)
  refine goU ?_
  generalize outC h7 (inC h10)=h11 at e710 m10 ⊢
  refine go ?_
  refine zA i (by omega) ⟨v10,t10,?_,by omega,by omega,e5.trans (e57.trans e710),sl_,m10,⟨o10⟩,⟨fun r=> ?_⟩⟩
  ·refine(sl_:zC _ 9=I ((((i+1:Nat):Int) - 1) - 1)).trans ?_
   rw[show (((i+1:Nat):Int) - 1) - 1=(i:Int) - 1 by omega]
  ·rw[mem10,mem8,hs.out,hst.out]
   constructor
   ·rintro(⟨a,b⟩|c)
    ·exact .inr ⟨b,a⟩
    ·exact .inl c
   ·rintro(c|⟨b,a⟩)
    ·exact .inr c
    ·exact .inl ⟨a,b⟩
 ·have hjk:j=k:=by omega
  subst hjk
  refine go ?_
  refine rt ?_
  exact⟨⟨s,ms,os.out,hs.out⟩,e05⟩
end Go.Proofs.YtemggiegiejopaaDoor
