/- What functions of the program come to in the abstract machine, and plain laws about it; no statement of the seat is proved in this text. -/
import Derived.Test.YtemggiegiejopaaGreatDoorJf
import Derived.Test.YtemggiegiejopaaGreatDoorJf
import Derived.Test.YtemggiegiejopaaGreatDoorAmU
import Derived.Test.YtemggiegiejopaaGreatDoorJe
import Derived.Test.YtemggiegiejopaaGreatDoorAmV
import Derived.Test.YtemggiegiejopaaGreatDoorJa
import Derived.Test.YtemggiegiejopaaGreatDoorJc
set_option linter.unusedVariables false
set_option linter.unusedSimpArgs false
set_option maxHeartbeats 1000000
set_option maxRecDepth 100000
namespace Go.Proofs.YtemggiegiejopaaGreatDoor
noncomputable section
open Go.Am
structure ExtN (h h':AHeap):Prop where
 n:h.n≤h'.n
 get:∀ g,g<h.n→h'.get g=h.get g
 wf:Wf h→Wf h'
theorem ExtN.of {h h':AHeap} (e:Ext h h'):ExtN h h':=⟨e.n,e.get,e.wf⟩
theorem ExtN.trans {a b c:AHeap} (h:ExtN a b) (k:ExtN b c):ExtN a c:=⟨Nat.le_trans h.n k.n,fun g hg=>(k.get g (Nat.lt_of_lt_of_le hg h.n)).trans (h.get g hg),fun w=>k.wf (h.wf w)⟩
theorem ExtN.to {h h':AHeap} (e:ExtN h h'):Ext {h with mark:=h'.mark,wr:=h'.wr} h':=⟨e.n,e.get,fun w=>e.wf w,rfl,fun _=>rfl⟩
theorem ye {h v s} (k:SlW h v s):∃ a n m,v= .slice a n m:=let ⟨_,a,_⟩:=k;a.shape
theorem SlW.extN {h h' v s} (k:SlW h v s) (e:ExtN h h'):SlW h' v s:=by
 have:=SlW.ext (h:={h with mark:=h'.mark,wr:=h'.wr}) (by exact k) e.to;exact this
theorem TzT.extN {h h'} (T:TzT h) (e:ExtN h h'):TzT h':=by
 have:=TzT.ext (h:={h with mark:=h'.mark,wr:=h'.wr}) (by exact T) e.to;exact this
theorem zGI (w:LWd) (s:List LWd):zp (w::s)=(Yt w.bits).map (fun k:Nat=>64 * w.pos+(k:Int))++zp s:=rfl
theorem zIY {l r:List Int} {j:Nat} {x:Int} (h:l.drop j=x::r):j<l.length∧l.getD j 0=x∧l.drop (j+1)=r:=by
 have hj:j<l.length:=by
  rcases Nat.lt_or_ge j l.length with h1|h1
  ·exact h1
  ·rw[List.drop_eq_nil_of_le h1]at h;cases h
 rw[List.drop_eq_getElem_cons hj]at h;cases h;exact⟨hj,by rw[List.getD_eq_getElem?_getD,List.getElem?_eq_getElem hj];rfl,rfl⟩
def body43_0:ACode:=(.seq (.seq (oR [oM 14 5,⟨some 15,none,(.bin .neq (.tmp 14) (.const (.int .u64 0)))⟩]) (oT 15 2)) (.seq (.block 3 (.seq (.regionC [oU (oM 20 0),oU (oF 0 21 4),oU (oL 22 21),oU (⟨some 23,none,(.bin .mul (.const (.int .i64 64)) (.tmp 22))⟩),oU (oM 24 5),(o1 25 44 24,[2]),oU (oB .add 26 23 25),oU (⟨some 27,none,(.call (.tmp 20) [(.tmp 26)])⟩),oU (oW 28 27)]) (.cond (.tmp 28) .ret .skip))) (oR [oM 16 5,oM 17 5,⟨some 18,none,(.bin .sub (.tmp 17) (.const (.int .u64 1)))⟩,oB .and 19 16 18,oM 5 19])))
def body43_1:ACode:=(.seq (oR [oB .lss 9 8 7]) (.seq (oT 9 0) (.seq (.block 1 (.seq (oR [oI 2 10 6 8,oA 2 11 10,⟨some 4,none,(.alloc [(.int .i64 0),(.int .u64 0)])⟩,oS 2 4 11]) (.seq (oR [oF 1 12 4,oL 13 12,oM 5 13]) (.block 2 (.loop body43_0))))) (oR [oC .add 29 8 1,oM 8 29]))))
def body43:ACode:=(.seq (oR [oL 6 1,oQ 7 6,oN 8 0]) (.block 0 (.loop body43_1)))
theorem tab43:tb.code 43=some ⟨30,[],body43⟩:=by kernel_rfl
theorem zGj (hA hB h:AHeap) (y p v:Value) (s:List LWd) (ok:OkW s) (hl:(s.length:Int)≤1000000000) (J:Nat→(Nat→Prop)→AHeap→Prop) (W0:Nat→Prop) (h0:J 0 W0 h) (o:OwnC hA h p [v]) (k:SlW hB v s) (T:TzT hB) (eB:ExtN hB h) (hm:h.mark≤hB.n)
  (hp:∀ i Wr h',J i Wr h'→ExtN hB h'∧∀ k,Wr k→hB.n≤k∧k<h'.n) (hk:∀ i Wr h' h'',J i Wr h'→ExtN h' h''→J i Wr h'')
  (hy:∀ i Wr h',i<(zp s).length→J i Wr h'→h'.mark≤h'.n→WV Tryz.prog tb y [I ((zp s).getD i 0)] h' fun r h''=>r= .bool true∧h'.n≤h''.n∧(∀ k,k<h'.n→¬Wr k→h''.get k=h'.get k)∧(∀ g∈h''.wr,g∈h'.wr∨hB.n≤g)∧∃ Wr',J (i+1) Wr' h''∧∀ k,Wr' k→Wr k∨h'.n≤k):
  WC Tryz.prog tb 43 [y,p] h fun _ h'=>(∃ Wr,J (zp s).length Wr h')∧h'.mark=h.mark∧h'.wr=h.wr:=by
 have kh:=k.extN eB;have hp:=Hid.mk hp;have hk:=Hid.mk hk;have hy:=Hid.mk hy;have ok:=Hid.mk ok;obtain⟨_,_,_,rfl⟩:=ye k;refine WC.of (zE 43) tab43 ?_;simp only[zK,Nat.zero_add,Nat.reduceAdd];refine go ?_;refine WX.loopA [9,10,11,4,12,13,5,14,15,20,21,22,23,24,25,26,27,28,16,17,18,19,5,29,8] (by kernel_rfl) (fun i=>s.length - i) (fun i t h1=>∃ j Wr,zC t 8=I i∧i≤s.length∧j≤(zp s).length∧J j Wr h1∧ExtN hB h1∧h1.mark=h.mark∧h1.wr=h.wr∧Hid ((zp s).drop j=zp (s.drop i))) 0 ?_ ?_
 ·exact⟨0,W0,sl_,Nat.zero_le _,Nat.zero_le _,h0,eB,rfl,rfl,⟨rfl⟩⟩
 clear h0 eB kh;rintro i t h1 hsame ⟨j,Wr,s8,hi,hjl,j1,e1,m1,r1,hI⟩;have k1:=k.extN e1;refine go ?_;refine WX.br (fun hb=> ?_) (fun hb=> ?_)<;>simp only[DB]at hb
 ·have hi':i<s.length:=by omega
  obtain⟨cs,⟨rfl,w1,w2,w3⟩,pc,hs⟩:=zCc k1 hi';have hd:=hI.out;rw[zEZ hi',zGI]at hd;have hw4:=ok.out.each (s.getD i default) (by rw[List.getD_eq_getElem?_getD,List.getElem?_eq_getElem hi'];exact List.getElem_mem hi');generalize s.getD i default=w at *;have hd:=Hid.mk hd;refine go ?_;refine WO.al ?_;intro p4 h2 e2 o4;refine go ?_;refine WO.stC0 (cs:=[I w.pos,W w.bits]) o4 e2 ?_;intro h3 e3 o43 u3;refine go ?_;obtain⟨g4,g41,g42,rfl,g44⟩:=id o43;refine WX.loopA [14,15,20,21,22,23,24,25,26,27,28,16,17,18,19,5] (by kernel_rfl) (fun rest=>rest) (fun rest t h4=>∃ j Wr,zC t 5=W rest∧j≤(zp s).length∧rest<18446744073709551616∧J j Wr h4∧ExtN hB h4∧h4.mark=h.mark∧h4.wr=h.wr∧OwnC h1 h4 (.pointer (some ⟨g4,0,none⟩)) [I w.pos,W w.bits]∧¬Wr g4∧Hid ((zp s).drop j=(Yt rest).map (fun k:Nat=>64 * w.pos+(k:Int))++zp (s.drop (i+1)))) w.bits ?_ ?_
  ·refine⟨j,Wr,sl_,hjl,w1,hk.out _ _ _ _ j1 (ExtN.of e3),e1.trans (ExtN.of e3),e3.mark.trans m1,?_,o43,fun hw=> ?_,hd⟩
   ·have:=e1.n;rw[e3.wr (by rw[m1];omega)];exact r1
   ·have:=((hp.out _ _ _ j1).2 _ hw).2;omega
  clear hd hI j1 e1 m1 r1 k1 pc hs e2 o4 u3 o43 e3 g44;rintro rest t4 h4 hsame4 ⟨j,Wr,s5,hjl,hr,j4,e4,m4,r4,o4,hw,hI⟩;refine go ?_;refine WX.br (fun hb2=> ?_) (fun hb2=> ?_)<;>simp only[DB]at hb2
  ·have hr0:rest≠0:=by omega
   obtain⟨kk,L⟩:=low hr0 hr;have hlt:=L.lt;have hI:=hI.out;rw[L.list,List.map_cons,List.cons_append]at hI;obtain⟨hj1,hj2,hj3⟩:=zIY hI;have hI:=Hid.mk hj3;have hless:=L.less;refine go ?_;refine WX.regionU2 0 rfl rfl ?_;have o4X:OwnC h1 (inC (zB 0 h4)) (.pointer (some ⟨g4,0,none⟩)) [I w.pos,W w.bits]:=o4;have TX:TzT (inC (zB 0 h4)):=by have:=T.extN e4;exact this
   refine goU ?_;refine WO.con (trail_ok _ rest kk TX hr hr0 L) ?_;rintro _ _ ⟨rfl,rfl⟩;refine WO.nil ?_;refine yP (Ext.refl _) zM ?_;refine goU ?_;have hyy:=hy.out j Wr (inC (inC (zB 0 h4))) hj1 (hk.out _ _ _ _ j4 ⟨Nat.le_refl _,fun _ _=>rfl,id⟩) (Nat.le_refl _);rw[hj2]at hyy;refine WO.conV hyy ?_;rintro _ h5 ⟨rfl,n5,k5,w5,Wr',j5,hW'⟩;refine WO.nil ?_;refine uK2_wl (fun k hk=> ?_) n5 (fun cl'=> ?_)
   ·rcases w5 k hk with h|h
    ·cases h
    ·rw[m4];omega
   refine goU ?_;have n5:h4.n≤h5.n:=n5;have o45:OwnC h1 (outC h4 (inC h5)) (.pointer (some ⟨g4,0,none⟩)) [I w.pos,W w.bits]:=by
    obtain⟨q,q1,q2,q3,q4⟩:=o4;cases q3;exact⟨g4,q1,Nat.lt_of_lt_of_le q2 n5,rfl,(k5 g4 q2 hw).trans q4⟩
   have j6:=hk.out _ _ _ (outC h4 (inC h5)) j5 ⟨Nat.le_refl _,fun _ _=>rfl,id⟩;have e5:ExtN hB (outC h4 (inC h5)):=(hp.out _ _ _ j6).1;have m6:(outC h4 (inC h5)).mark=h.mark:=m4;have r6:(outC h4 (inC h5)).wr=h.wr:=r4;have hw6:¬Wr' g4:=fun hW=>by
    rcases hW' g4 hW with h|h
    ·exact hw h
    ·obtain⟨q,q1,q2,q3,q4⟩:=o4;cases q3;have:h4.n≤g4:=h;omega
   generalize outC h4 (inC h5)=h6 at *;refine WO.bin zV rfl (u_sub (a:=rest) (b:=1) hr (by omega)) ?_;refine go ?_;refine WO.bin zV zV (u_and (a:=rest) (b:=rest - 1) hr (by omega)) ?_;refine go ?_;exact zA (rest&&& (rest - 1)) hless ⟨j+1,Wr',sl_,hj1,Nat.lt_trans hless hr,j6,e5,m6,r6,o45,hw6,hI⟩
  ·have hr0:rest=0:=by omega
   subst hr0;refine go ?_;have hI:=hI.out;rw[zGt]at hI;exact zA (i+1) (by omega) ⟨j,Wr,sln,by omega,hjl,j4,e4,m4,r4,⟨hI⟩⟩
 ·refine go ?_;refine rtN ?_;have hI:=hI.out;rw[show i=s.length by omega,List.drop_length,show zp []=[] from rfl]at hI;have hje:j=(zp s).length:=by
   have:=congrArg List.length hI;rw[List.length_drop,List.length_nil]at this;omega
  subst hje;exact⟨⟨Wr,j1⟩,m1,r1⟩
def body27:ACode:=(.seq (oR [oX 1 0,⟨some 2,none,(.mov (.const .nilFunc))⟩]) (.seq (oR [⟨some 3,none,(.mkFunc (.func 43) [] [(.tmp 1)])⟩,oM 2 3]) .ret))
theorem tab27:tb.code 27=some ⟨4,[(2,none)],body27⟩:=by kernel_rfl
theorem zHa (h:AHeap) (v:Value) (s:List LWd) (k:SlW h v s):WC Tryz.prog tb 27 [v] h fun r h'=>(∃ p,r= .func (.func 43) #[] #[p]∧OwnC h h' p [v])∧Ext h h':=by
 obtain⟨_,_,_,rfl⟩:=ye k;refine WC.of (zE 27) tab27 ?_;simp only[zK,Nat.zero_add,Nat.reduceAdd];refine go ?_;refine WO.bx ?_;intro p h1 e1 o1;refine go ?_;refine rt ?_;exact⟨⟨p,rfl,o1⟩,e1⟩
theorem Lies.extN {h h':AHeap} {g:Nat} {o:AObj} (k:Lies h g o) (e:ExtN h h'):Lies h' g o:=⟨Nat.lt_of_lt_of_le k.1 e.n,(e.get g k.1).trans k.2⟩
theorem OwnC.extN {h0 h h' p cells} (o:OwnC h0 h p cells) (e:ExtN h h'):OwnC h0 h' p cells:=by
 obtain⟨g,a,b,c,d⟩:=o;exact⟨g,a,Nat.lt_of_lt_of_le b e.n,c,(e.get g b).trans d⟩
theorem OwnN.extN {h0 h h' v xs} (o:OwnN h0 h v xs) (e:ExtN h h'):OwnN h0 h' v xs:=by
 rcases o with o|⟨g,a,b,c,d⟩
 ·exact .inl o
 ·exact .inr ⟨g,a,Nat.lt_of_lt_of_le b e.n,c,(e.get g b).trans d⟩
theorem zFc {h0 h1 h:AHeap} {p v:Value} {a:Option Addr} {n k:Nat} {cs:List Value} {xs:List Int} (o:OwnC h0 h p (.slice a n k::cs)) (i:OwnN h1 h v xs):∀ b m c,v= .slice (some b) m c→p≠ .pointer (some ⟨b.block,0,none⟩):=by
 intro b m c hv hp;obtain⟨g,_,_,rfl,hg⟩:=o;rcases i with ⟨rfl,_⟩|⟨g2,_,_,rfl,hg2⟩
 ·cases hv
 ·cases hv;cases hp;rw[hg]at hg2;cases xs with
  |nil=>cases hg2
  |cons x xs=>cases hg2
theorem zIm {h0 h h':AHeap} {p v:Value} {a:Option Addr} {n k:Nat} {cs:List Value} {xs:List Int} (o:OwnC h0 h p (.slice a n k::cs)) (i:OwnN h0 h v xs) (u:Upd v h h'):OwnC h0 h' p (.slice a n k::cs):=by
 have hne:=zFc o i;obtain⟨g,g1,g2,rfl,hg⟩:=o;exact⟨g,g1,Nat.lt_of_lt_of_le g2 u.1,rfl,(u.2 g g2 fun b m c hv e=>hne b m c hv (by rw[e])).trans hg⟩
theorem zDV {h0 h h':AHeap} {p v:Value} {a:Option Addr} {n k:Nat} {cs:List Value} {xs:List Int} (i:OwnI h0 h v xs) (o:OwnC h0 h p (.slice a n k::cs)) (u:UpdC p h h'):OwnI h0 h' v xs:=by
 have hne:=zFc o (.inr i);obtain⟨g,g1,g2,rfl,hg⟩:=i;exact⟨g,g1,Nat.lt_of_lt_of_le g2 u.1,rfl,(u.2 g g2 fun e=>hne _ _ _ rfl e).trans hg⟩
def body16:ACode:=(.seq (oR [⟨some 2,none,(.alloc [(.slice none 0 0)])⟩,oN 3 0]) (.seq (.seq (oR [oM 6 0,o1 7 26 6,oM 4 7]) (.seq (oR [oM 8 4,oC .neq 9 8 0]) (.cond (.tmp 9) (.seq (oR [oM 10 4,⟨none,none,(.store 1 (.tmp 2) (.const (.slice none 0 0)))⟩,oM 3 10]) .ret) .skip))) (.seq (.seq (oR [oM 11 0,o1 12 27 11]) (.block 0 (.rangeFunc (.tmp 12) [13] (oR [oM 5 13]) (.block 1 (oR [oL 14 2,oM 15 5,⟨some 16,none,(.buildSlice 1 1 [(.int .i64 0)] [(0,1,(.tmp 15))])⟩,oY 1 17 14 16,oS 1 2 17]))))) (.seq (oR [oL 18 2,oS 1 2 18,oN 3 0]) .ret))))
theorem tab16:tb.code 16=some ⟨19,[(2,some (false,1)),(3,none)],body16⟩:=by kernel_rfl
theorem zIG (h:AHeap) (v:Value) (s:List LWd) (k:SlW h v s) (T:TzT h) (hl:(s.length:Int)≤1000000) (hm:h.mark≤h.n):
  WC Tryz.prog tb 16 [v] h fun r h'=>(∃ w,r= .tuple #[w,I (errW (z0 (-1) s))]∧OwnN h h' w (if z0 (-1) s then zp s else []))∧Ext h h':=by
 refine WC.of (zE 16) tab16 ?_;simp only[zK,Nat.zero_add,Nat.reduceAdd];refine go ?_;refine WO.al ?_;intro p2 h1 e1 o1;have k1:=SlW.ext k e1;refine go ?_;refine WO.con (zCM h1 v s k1 (by omega)) ?_;rintro _ h2 ⟨rfl,e2⟩;have e12:=e1.trans e2;have o2:=o1.ext e2;have k2:=SlW.ext k e12;by_cases hc:z0 (-1) s=true;case neg=>
  have hc:z0 (-1) s=false:=by simpa using hc
  rw[hc,show errW false=8 from rfl];refine go ?_;refine WO.stC0 (cs:=[.slice none 0 0]) o2 e12 ?_;intro h3 e3 o3 u3;refine go ?_;refine rt (vs:=[.slice none 0 0,I 8]) ?_ (Res.consB sl_ o3 rfl (Res.cons sl_ Res.nil));exact⟨⟨_,rfl,.inl ⟨rfl,rfl⟩⟩,e3⟩
 have ok:=(zH5 k.bd).1 hc;rw[hc,show errW true=0 from rfl];refine go ?_;refine WO.con (zHa h2 v s k2) ?_;rintro _ h3 ⟨⟨p,rfl,o3⟩,e3⟩;have o23:=o2.ext e3;have e13:=e12.trans e3;refine go ?_;refine WX.rangeG ?_;intro L g r hO rdy eO hL hg lL lg;have eb:=e13.trans eO;have hnL:h.n≤L:=Nat.le_trans e13.n hL;have o2O:=o23.ext eO;have hlen:((zp s).length:Int)≤64 * s.length:=by
  have:∀ l:List LWd,(zp l).length≤64 * l.length:=fun l=>by
   induction l with
   |nil=>exact Nat.le_refl _
   |cons w l ih=>rw[zDl,List.length_cons];have:=bitsL_le w.bits;omega
  have:=this s;omega
 have hmO:hO.mark≤h.n:=by rw[eb.mark];exact hm
 refine WV.func ?_;refine WC.mono (zGj h2 h hO _ p v s ok (by omega) (fun i Wr h'=>ExtN h h'∧Lies h' L (.loop r)∧Lies h' g (.deferred (some []))∧∃ w,OwnC h h' p2 [w]∧OwnN h h' w ((zp s).take i)∧Wr=fun k=>p2= .pointer (some ⟨k,0,none⟩)∨k=L∨∃ n c,w= .slice (some ⟨k,0,none⟩) n c)
  (fun k=>p2= .pointer (some ⟨k,0,none⟩)∨k=L∨∃ n c,Value.slice none 0 0= .slice (some ⟨k,0,none⟩) n c) ?_ (o3.ext eO) k T (ExtN.of eb) hmO ?_ ?_ ?_) ?_
 ·exact⟨ExtN.of eb,lL,lg,_,o2O,.inl ⟨rfl,rfl⟩,rfl⟩
 ·rintro i _ h' ⟨e',lL',lg',w,ow,on,rfl⟩;refine⟨e',fun k hk=> ?_⟩;rcases hk with hk|rfl|⟨n,c,hk⟩
  ·obtain⟨q,q1,q2,q3,q4⟩:=ow;rw[q3]at hk;cases hk;exact⟨q1,q2⟩
  ·exact⟨hnL,lL'.1⟩
  ·rcases on with ⟨q,_⟩|⟨q,q1,q2,q3,q4⟩
   ·rw[q]at hk;cases hk
   ·rw[q3]at hk;cases hk;exact⟨q1,q2⟩
 ·rintro i _ h' h'' ⟨e',lL',lg',w,ow,on,rfl⟩ e'';exact⟨e'.trans e'',Lies.extN lL' e'',Lies.extN lg' e'',w,OwnC.extN ow e'',OwnN.extN on e'',rfl⟩
 ·rintro i _ h' hi ⟨e',lL',lg',w,ow,on,rfl⟩ hm';refine WV.yieldG lL' rdy rfl ?_;simp only[zD3];refine go ?_;refine zF3 ?_;intro h4 hh4;have eB:=e'.to;generalize hBB:({h with mark:=h'.mark,wr:=h'.wr}:AHeap)=hb at eB;have hbn:hb.n=h.n:=by rw[←hBB]
  have ownb:∀ {hx p cells},OwnC h hx p cells→OwnC hb hx p cells:=fun o=>by rw[←hBB];exact o
  have ownb':∀ {hx p cells},OwnC hb hx p cells→OwnC h hx p cells:=fun o=>by rw[←hBB]at o;exact o
  have ownn:∀ {hx v xs},OwnN h hx v xs→OwnN hb hx v xs:=fun o=>by rw[←hBB];exact o
  have ownn':∀ {hx v xs},OwnN hb hx v xs→OwnN h hx v xs:=fun o=>by rw[←hBB]at o;exact o
  have e4:Ext hb h4:=by rw[hh4];exact eB.set (by omega) lL'.1 _
  have n4:h4.n=h'.n:=by rw[hh4];rfl
  have m4:h4.mark=h'.mark:=by rw[hh4];rfl
  have w4:∀ k∈h4.wr,k∈h'.wr∨h.n≤k:=fun k hk=>by
   rw[hh4]at hk;have hk:k∈h'.log L:=hk;rcases yb hk with rfl|h
   ·exact .inr hnL
   ·exact .inl h
  have g4:∀ k,k≠L→h4.get k=h'.get k:=fun k hk=>by rw[hh4,zP,if_neg hk]
  have ow4:OwnC hb h4 p2 [w]:=by rw[hh4];exact(ownb ow).setR lL' rfl
  have on4:OwnN hb h4 w ((zp s).take i):=by rw[hh4];exact OwnN.setR (ownn on) lL' rfl
  have lL4:Lies h4 L (.loop (busy r)):=by rw[hh4];exact lL'.self
  have lg4:Lies h4 g (.deferred (some [])):=by
   rw[hh4];refine lg'.set ?_;intro e;subst e;have:=lg'.2;rw[lL'.2]at this;cases this
  clear hh4;obtain⟨wa,wn,wk,rfl⟩:=SlC.shape on4.sl;refine go ?_;refine WO.bl [(zp s).getD i 0] ?_;intro v5 h5 e5 o5;have m5:h4.mark≤h4.n:=by omega
  have w5:h5.wr=h4.wr:=e5.wr m5;refine go ?_;have e05:=e4.trans e5;have htl:((zp s).take i).length≤i:=by rw[List.length_take];omega
  refine WO.apNw (OwnN.ext on4 e5) o5.sl e05 (by simp) (by simp only[List.length_singleton];omega) ?_;intro v6 h6 e6 o6 u6 w6 f6;have ow6:=zIm (ow4.ext e5) (OwnN.ext on4 e5) u6;have lL6:=(lL4.ext e5).upd rfl (OwnN.ext on4 e5) u6;have lg6:=(lg4.ext e5).upd rfl (OwnN.ext on4 e5) u6;obtain⟨va,vn,vk,rfl⟩:=SlC.shape o6.sl;refine go ?_;refine WO.stC0w (cs:=[.slice va vn vk]) ow6 e6 ?_;intro h7 e7 ow7 u7 w7;have o6I:OwnI hb h6 (.slice va vn vk) ((zp s).take i++[(zp s).getD i 0]):=by
   rcases o6 with ⟨_,q⟩|q
   ·simp at q
   ·exact q
  have on7:=zDV o6I ow6 u7;have lL7:=lL6.updC rfl ow6 u7;have lg7:=lg6.updC rfl ow6 u7;refine go ?_;refine zGk lL7 ?_;have tk:(zp s).take (i+1)=(zp s).take i++[(zp s).getD i 0]:=by rw[List.take_add_one];simp[List.getD,List.getElem?_eq_getElem hi]
  have n57:h'.n≤h7.n:=by have:=e5.n;have:=u6.1;have:=u7.1;omega
  have e8:Ext hb (h7.set L (.loop r)):=e7.set (by omega) lL7.1 _;have oldg:∀ k,k<h'.n→¬(p2= .pointer (some ⟨k,0,none⟩)∨k=L∨∃ n c,Value.slice wa wn wk= .slice (some ⟨k,0,none⟩) n c)→(h7.set L (.loop r)).get k=h'.get k:=fun k hk hnW=>by
   have h1:k≠L:=fun e=>hnW (.inr (.inl e));have a1:=e5.n;have a2:=u6.1;rw[zP,if_neg h1,u7.2 k (by omega) (fun e=>hnW (.inl e)),u6.2 k (by omega) (fun b m c e1 e2=> ?_),e5.get k (by omega),g4 k h1];subst e2;rcases on with ⟨q,_⟩|⟨q,q1,q2,q3,q4⟩
   ·rw[q]at e1;cases e1
   ·rw[q3]at e1;cases e1;exact hnW (.inr (.inr ⟨_,_,q3⟩))
  have belowN:∀ k,k<h.n→¬(p2= .pointer (some ⟨k,0,none⟩)∨k=L∨∃ n c,Value.slice wa wn wk= .slice (some ⟨k,0,none⟩) n c):=fun k hk hW=>by
   rcases hW with hW|rfl|⟨n,c,hW⟩
   ·obtain⟨q,q1,q2,q3,q4⟩:=ow;rw[q3]at hW;cases hW;omega
   ·omega
   ·rcases on with ⟨q,_⟩|⟨q,q1,q2,q3,q4⟩
    ·rw[q]at hW;cases hW
    ·rw[q3]at hW;cases hW;omega
  have eN:ExtN h (h7.set L (.loop r)):=⟨Nat.le_trans e'.n n57,fun k hk=>(oldg k (Nat.lt_of_lt_of_le hk e'.n) (belowN k hk)).trans (e'.get k hk),fun wf=>e8.wf (by rw[←hBB];exact wf)⟩;refine⟨rfl,n57,oldg,fun k hk=> ?_,_,⟨eN,lL7.self,lg7.set ?_,_,ownb' (ow7.setR lL7 rfl),?_,rfl⟩,fun k hk=> ?_⟩
  ·have hk:k∈h7.log L:=hk;rcases yb hk with rfl|hk
   ·exact .inr hnL
   rcases w7 k hk with hk|hk
   ·rcases w6 k hk with hk|hk
    ·rw[w5]at hk;exact w4 k hk
    ·exact .inr (by omega)
   ·exact .inr (by omega)
  ·intro e;subst e;have:=lg7.2;rw[lL7.2]at this;cases this
  ·rw[tk];exact ownn' (OwnN.setR (.inr on7) lL7 rfl)
  ·rcases hk with hk|hk|⟨n,c,hk⟩
   ·exact .inl (.inl hk)
   ·exact .inl (.inr (.inl hk))
   ·refine .inr ?_;have:=f6 _ _ _ hk;have:=e5.n;omega
 ·rintro _ h4 ⟨⟨_,e4,lL4,lg4,w,ow4,on4,rfl⟩,m4,r4⟩;refine⟨lL4,fun r3=> ?_⟩;have lgL:g≠L:=by intro e;subst e;have:=lg4.2;rw[lL4.2]at this;cases this
  have E4:Ext h h4:=⟨e4.n,e4.get,e4.wf,m4.trans eb.mark,fun hm=>r4.trans (eb.wr hm)⟩;obtain⟨h5,hh5⟩:∃ h5,h5=h4.set L (.loop r3):=⟨_,rfl⟩;have e5:Ext h h5:=by rw[hh5];exact E4.set hnL lL4.1 _
  have ow5:OwnC h h5 p2 [w]:=by rw[hh5];exact ow4.setR lL4 rfl
  have on5:OwnN h h5 w ((zp s).take (zp s).length):=by rw[hh5];exact OwnN.setR on4 lL4 rfl
  have lg5:Lies h5 g (.deferred (some [])):=by rw[hh5];exact lg4.set lgL
  rw[←hh5];clear hh5;obtain⟨wa,wn,wk,rfl⟩:=SlC.shape on5.sl;refine go ?_;refine WO.stC0 ow5 e5 ?_;intro h6 e6 ow6 u6;have on6:OwnN h h6 (.slice wa wn wk) ((zp s).take (zp s).length):=by
   rcases on5 with q|q
   ·exact .inl q
   ·exact .inr (zDV q ow5 u6)
  have lg6:=lg5.updC rfl ow5 u6;refine go ?_;refine retK_col lg6 ?_;refine rt (vs:=[.slice wa wn wk,I 0]) ?_ (Res.consB sl_ (ow6.setR lg6 rfl) rfl (Res.cons sl_ Res.nil));rw[List.take_length]at on6;refine⟨⟨_,rfl,OwnN.setR on6 lg6 rfl⟩,e6.set (by have:=e13.n;omega) lg6.1 _⟩
def body68:ACode:=(.seq (oR [oK 2 (.slice none 0 0)]) (.seq (.seq (oR [oM 3 0,⟨some 4,none,(.isNil 0 false (.tmp 3))⟩]) (.cond (.tmp 4) (.seq (oR [oK 2 (.slice none 0 0)]) .ret) .skip)) (.seq (oR [⟨some 5,none,(.buildSlice 0 1 [(.int .i64 0)] [])⟩,oM 6 0,oY 1 7 5 6,oM 2 7]) .ret)))
theorem tab68:tb.code 68=some ⟨8,[(2,none)],body68⟩:=by kernel_rfl
theorem clone_ok (h:AHeap) (v:Value) (l:List Int) (s:SlI h v l) (hl:l.length≤1000000):WC Tryz.prog tb 68 [v] h fun r h'=>OwnN h h' r l∧Ext h h':=by
 refine WC.of (zE 68) tab68 ?_;simp only[zK,Nat.zero_add,Nat.reduceAdd];obtain⟨a,n,k,rfl⟩:=SlC.shape s;cases a with
 |none=>
  have hn:l=[]:=by
   rcases s.2 with ⟨h0,_⟩|⟨g,off,row,hv,_⟩
   ·exact List.length_eq_zero_iff.1 h0
   ·cases hv
  subst hn;refine go ?_;refine WX.br (fun hb=> ?_) (fun hb=> ?_)
  ·refine go ?_;refine rt ?_;exact⟨.inl ⟨rfl,rfl⟩,Ext.refl _⟩
  ·exact absurd hb (by simp)
 |some a=>
  refine go ?_;refine WX.br (fun hb=> ?_) (fun hb=> ?_)
  ·exact absurd hb (by simp)
  ·refine go ?_;refine WO.bl [] ?_;intro v1 h1 e1 o1;have s1:=SlI.ext s e1;refine go ?_;refine WO.apN (.inr o1) s1 e1 (by simp only[List.length_nil];omega) ?_;intro v2 h2 e2 o2;refine go ?_;refine rt ?_;exact⟨o2,e2⟩
theorem zIO {x:Int} {l:List Int}:x∈zB0 l↔x∈l:=(List.mergeSort_perm l _).mem_iff
theorem zIZ (l:List Int):(zB0 l).length=l.length:=(List.mergeSort_perm l _).length_eq
theorem zHk (l:List Int):(zB0 l).Pairwise (·≤·):=by
 have hp:(zB0 l).Pairwise (fun a b=>decide (a≤b)=true):=List.pairwise_mergeSort (fun a b c h1 h2=>by simp only[decide_eq_true_eq]at *;omega) (fun a b=>by simp only[Bool.or_eq_true,decide_eq_true_eq];omega) l;exact hp.imp fun h=>of_decide_eq_true h
theorem upto_le {s:List LWd} {xs:List Int} {n:Int} (u:Upto s xs) (h:∀ x∈xs,x≤n):∀ w∈s,w.pos≤n / 64:=by
 intro w hw;obtain⟨a,b,c,d⟩:=u.ok.each w hw;obtain⟨k,hk⟩:=zC1 c;have hk2:=Z8 d hk;have:=(u.mem (64 * w.pos+k)).1 ⟨w,hw,by omega,by rw[show ((64 * w.pos+(k:Int)) % 64).toNat=k by omega];exact hk⟩;have:=h _ this;omega
def ofE (l:List Int):Int:=if l.all (fun n=>decide (0≤n)&&decide (n<1048576)) then 0 else 2
theorem ofE_bad {l:List Int} {n:Int} (h:n∈l) (hn:(decide (0≤n)&&decide (n<1048576))=false):ofE l=2:=by
 unfold ofE;rw[if_neg fun ha=>by
  have:=List.all_eq_true.1 ha n h;rw[hn]at this;cases this]
theorem zDf {l:List Int} (h:∀ n∈l,0≤n∧n<1048576):ofE l=0:=by
 unfold ofE;rw[if_pos (List.all_eq_true.2 fun n hn=>by have:=h n hn;simp[this.1,this.2])]
theorem Upto.perm {s:List LWd} {xs ys:List Int} (u:Upto s xs) (h:∀ n,n∈xs↔n∈ys):Upto s ys:=⟨u.ok,fun n=>(u.mem n).trans (h n)⟩
theorem zJD {α:Type} (l:List α) (h:l≠[]):∃ s w,l=s++[w]:=⟨l.dropLast,l.getLast h,(List.dropLast_concat_getLast h).symm⟩
theorem upto_nil:Upto [] []:=⟨OkW.nil,fun n=>⟨(fun ⟨_,h,_⟩=>by cases h),(fun h=>by cases h)⟩⟩
def body49_0:ACode:=(.seq (oR [oB .lss 17 16 15]) (.seq (oT 17 0) (.seq (.block 1 (.seq (oR [oI 1 18 14 16,oL 19 18,oM 7 19]) (.seq (.seq (oR [oM 20 7,o1 21 70 20,oW 22 21]) (.cond (.tmp 22) (.seq (oR [oK 2 (.slice none 0 0),oN 3 2]) .ret) .skip)) (.seq (oR [oM 23 7,oC .quo 24 23 64,oM 8 24]) (.seq (.seq (oR [oM 25 5,oQ 26 25,oM 9 26]) (.seq (oR [oM 27 9,oC .eql 28 27 0,oM 29 28,oH 29 (oM 30 5),oH 29 (oM 31 9),oH 29 (oC .sub 32 31 1),oH 29 (oI 2 33 30 32),oH 29 (oF 0 34 33),oH 29 (oL 35 34),oH 29 (oM 36 8),oH 29 (oB .neq 37 35 36),oO 38 29 37]) (.cond (.tmp 38) (oR [oM 39 5,oM 40 8,⟨some 41,none,(.build [(.int .i64 0),(.int .u64 0)] [(0,1,(.tmp 40))])⟩,⟨some 42,none,(.buildSlice 1 2 [(.int .i64 0),(.int .u64 0)] [(0,2,(.tmp 41))])⟩,oY 2 43 39 42,oM 5 43]) .skip))) (.regionC [oU (oM 44 5),oU (oM 45 5),oU (oQ 46 45),oU (oC .sub 47 46 1),oU (oI 2 48 44 47),oU (oF 1 49 48),oU (oL 50 49),oU (oM 51 7),oU (oC .rem 52 51 64),oU (⟨some 53,none,(.bin .shl (.const (.int .u64 1)) (.tmp 52))⟩),oU (oB .or 54 50 53),oU (oI 2 55 44 47),oU (oF 1 56 55),oU (oS 1 56 54)])))))) (oR [oC .add 57 16 1,oM 16 57]))))
def body49:ACode:=(.seq (oR [oK 2 (.slice none 0 0),oN 3 0]) (.seq (oR [oM 10 0,o1 11 68 10,oM 4 11]) (.seq (oR [oM 12 4,o1 13 69 12]) (.seq (oR [oK 5 (.slice none 0 0)]) (.seq (.seq (oR [oM 14 4,oQ 15 14,oN 16 0]) (.block 0 (.loop body49_0))) (.seq (oR [oM 58 5,oM 2 58,oN 3 0]) .ret))))))
theorem tab49:tb.code 49=some ⟨59,[(2,none),(3,none)],body49⟩:=by kernel_rfl
theorem bOf_ok (h:AHeap) (v:Value) (l:List Int) (s:SlI h v l) (hl:l.length≤10000) (hm:h.mark≤h.n):
  WC Tryz.prog tb 49 [v] h fun r h'=>(∃ w t,r= .tuple #[w,I (ofE l)]∧MineW h h' w t∧(ofE l=0→Upto t l)∧(ofE l≠0→t=[]))∧Ext h h':=by
 refine WC.of (zE 49) tab49 ?_;simp only[zK,Nat.zero_add,Nat.reduceAdd];refine go ?_;refine WO.con (clone_ok h v l s (by omega)) ?_;rintro c h1 ⟨o1,e1⟩;refine go ?_;refine WO.con (sort_ok h h1 c l e1 hm o1 (by omega)) ?_;rintro _ h2 ⟨o2,e2,_⟩;have sl2:=o2.sl;have hlen:=zIZ l;have hrise:=zHk l;have hmem:∀ n,n∈zB0 l↔n∈l:=fun n=>zIO;generalize zB0 l=L at *;have hrise:=Hid.mk hrise;have hmem:=Hid.mk hmem;have hm2:h2.mark≤h2.n:=by have:=e2.mark;have:=e2.n;omega
 refine go ?_;refine WX.loopA [17,18,19,7,20,21,22,2,3,23,24,8,25,26,9,27,28,29,30,31,32,33,34,35,36,37,38,39,40,41,42,43,5,44,45,46,47,48,49,50,51,52,53,54,55,56,57,16] (by kernel_rfl) (fun i=>L.length - i) (fun i t h3=>∃ w out,zC t 16=I i∧i≤L.length∧Ext h2 h3∧zC t 5=w∧OwnW h2.n h3 w out∧Hid (Upto out (L.take i))∧out.length≤i∧Hid (∀ j,j<i→0≤L.getD j 0∧L.getD j 0<1048576)) 0 ?_ ?_
 ·exact⟨_,[],sl_,Nat.zero_le _,Ext.refl _,sl_,OwnR.nil,⟨upto_nil⟩,Nat.le_refl _,⟨fun j hj=>by omega⟩⟩
 rintro i t h3 hsame ⟨w,out,s16,hi,e3,s5,ow,hU,hol,hin⟩;have sl3:SlI h3 c L:=SlI.ext sl2 e3;refine go ?_;refine WX.br (fun hb=> ?_) (fun hb=> ?_)<;>simp only[DB]at hb
 ·have hi':i<L.length:=by omega
  refine go ?_;refine WO.con (zIg h3 (L.getD i 0)) ?_;rintro _ _ ⟨rfl,rfl⟩;have hmi:L.getD i 0∈L:=by rw[List.getD_eq_getElem?_getD,List.getElem?_eq_getElem hi'];exact List.getElem_mem hi'
  have htk:L.take (i+1)=L.take i++[L.getD i 0]:=by rw[List.take_add_one];simp[List.getD,List.getElem?_eq_getElem hi']
  have hle:∀ x∈L.take i,x≤L.getD i 0:=fun x hx=>by
   obtain⟨j,hj,rfl⟩:=List.getElem_of_mem hx;rw[List.length_take]at hj;rw[List.getElem_take,List.getD_eq_getElem?_getD,List.getElem?_eq_getElem hi'];exact List.pairwise_iff_getElem.1 hrise.out j i (by omega) hi' (by omega)
  have hup:=upto_le hU.out hle;by_cases hw:(decide (0≤L.getD i 0)&&decide (L.getD i 0<1048576))=false
  ·rw[hw];have hE:=ofE_bad ((hmem.out _).1 hmi) hw;refine go ?_;refine rt ?_;rw[hE];exact⟨⟨_,[],rfl,MineW.nil,(fun h=>by cases h),fun _=>rfl⟩,e2.trans e3⟩
  have hw:(decide (0≤L.getD i 0)&&decide (L.getD i 0<1048576))=true:=by simpa using hw
  have hn:0≤L.getD i 0∧L.getD i 0<1048576:=by simpa using hw
  rw[hw];generalize hnn:L.getD i 0=n at *;have htk:=Hid.mk htk;have hin2:Hid (∀ j,j<i+1→0≤L.getD j 0∧L.getD j 0<1048576):=⟨fun j hj=>by
   by_cases e:j=i
   ·subst e;rw[hnn];exact hn
   ·exact hin.out j (by omega)⟩
  clear hle hmi hw;have hup:=Hid.mk hup;refine go ?_;refine WO.bin zV rfl (b_quo hn.1 (by omega)) ?_;have owl:=OwnR.sl ow;have hm3:h3.mark≤h2.n:=by rw[e3.mark];exact hm2
  by_cases h0:out.length=0
  ·have ho:out=[]:=List.eq_nil_of_length_eq_zero h0;subst ho;refine go ?_;refine WO.apRw (b:=h2.n) (R:=RW) (hB:=h2) ⟨n / 64,0⟩ (fun _=>False) ow e3 (Nat.le_refl _) e3.n (by decide) (by omega) (RW.dep (show (0:Nat)<18446744073709551616 by decide) (by simp only;omega) (by simp only;omega) _) (fun k hk=>hk.elim) (fun _ _ _ _ h=>h) ?_;intro w5 h5 lit e5 ow5 n5 keep5 wr5;obtain⟨va,vn,vk,rfl,_⟩:=YD ow5;obtain⟨O5,sI,lw,hO,hsI,hlw⟩:∃ (O5 sI:List LWd) (lw:LWd),O5=sI++[lw]∧sI=[]∧lw=⟨n / 64,0⟩:=⟨_,_,_,rfl,rfl,rfl⟩;have ow5:OwnW h2.n h5 (.slice va vn vk) O5:=by rw[hO,hsI,hlw];exact ow5
   have hsl:sI.length=0:=by rw[hsI];rfl
   have hsl:sI.length≤i:=by omega
   have hO5:O5.length=sI.length+1:=by rw[hO];simp
   have hlO:O5.length≤20000:=by omega
   refine go ?_;refine WX.regionU2 0 rfl rfl ?_;have owX:OwnW h2.n (zB 0 h5) (.slice va vn vk) O5:=OwnR.upd ow5 (fun _ _ _=>rfl) (Nat.le_refl _);have slX:SlW (inC (zB 0 h5)) (.slice va vn vk) O5:=OwnR.sl owX;obtain⟨cs,⟨rfl,y1,y2,y3⟩,pc,hs⟩:=zCc (i:=((O5.length:Int) - 1).toNat) slX (by omega);have hgl:O5.getD ((O5.length:Int) - 1).toNat default=lw:=by
    rw[show ((O5.length:Int) - 1).toNat=sI.length by omega,hO];simp[List.getD]
   rw[hgl]at y1 y2 y3 pc;have hsh:z9 .shl (W 1) (I (n % 64))=some (W (2 ^ (n % 64).toNat)):=by
    rw[show I (n % 64)=I (((n % 64).toNat:Nat):Int) by congr 1;omega];exact(zCJ (by omega)).1
   have hp2:2 ^ (n % 64).toNat<18446744073709551616:=(zCJ (k:=(n % 64).toNat) (by omega)).2;have hor:=u_or y1 hp2;generalize hk2:2 ^ (n % 64).toNat=k2 at hsh hp2 hor;refine goU ?_;refine WO.bin zV rfl (b_rem hn.1) ?_;refine WO.nil ?_;refine yO ?_;refine goU ?_;refine WO.bin rfl zV hsh ?_;refine WO.nil ?_;refine yO ?_;refine goU ?_;refine WO.bin zV zV hor.1 ?_;refine WO.nil ?_;refine yO ?_;refine goU ?_;refine WU2.stR (i:=((O5.length:Int) - 1).toNat) (off:=1) (cs:=[W (lw.bits|||k2)]) (ho:=by simp) ⟨lw.pos,lw.bits|||k2⟩ owX e5 (by rw[e5.mark];exact hm2) rfl (Nat.le_refl _) (by omega) (fun old hx hr ho=>by
    rw[hgl]at hr;obtain⟨rfl,r1,r2,r3⟩:=hr;exact⟨rfl,hor.2,r2,r3⟩) ?_
   intro h6 e6 ow6 n6 f6;have hset:O5.set ((O5.length:Int) - 1).toNat ⟨lw.pos,lw.bits|||k2⟩=sI++[⟨lw.pos,lw.bits|||k2⟩]:=by
    rw[show ((O5.length:Int) - 1).toNat=sI.length by omega,hO,List.set_append_right _ _ (Nat.le_refl _),Nat.sub_self];rfl
   rw[hset]at ow6;refine go ?_;refine zA (i+1) (by omega) ⟨_,_,sln,by omega,e6,sl_,ow6,⟨?_⟩,by simp only[List.length_append,List.length_singleton];omega,hin2⟩;rw[htk.out,←hk2];subst hlw hsI;have:=hU.out.new hn (fun w hw=>by cases hw);rw[Nat.zero_or];exact this
  ·obtain⟨sI,lw,hO⟩:=zJD out (fun e=>h0 (by rw[e];rfl));have hO5:out.length=sI.length+1:=by rw[hO];simp
   obtain⟨cs,⟨rfl,y1,y2,y3⟩,pc,hs⟩:=zCc (i:=((out.length:Int) - 1).toNat) owl (by omega);have hgl:out.getD ((out.length:Int) - 1).toNat default=lw:=by
    rw[show ((out.length:Int) - 1).toNat=sI.length by omega,hO];simp[List.getD]
   rw[hgl]at y1 y2 y3 pc;by_cases hat:lw.pos=n / 64
   ·refine go ?_;clear pc y1 y2 y3 hs hgl hO5;obtain⟨O5,hOO⟩:∃ O5,O5=out:=⟨_,rfl⟩;rw[←hOO]at ow hO hol;have hsl:sI.length≤i:=by rw[hO,List.length_append,List.length_singleton]at hol;omega
    have hO5:O5.length=sI.length+1:=by rw[hO];simp
    have hlO:O5.length≤20000:=by omega
    refine go ?_;refine WX.regionU2 0 rfl rfl ?_;have owX:OwnW h2.n (zB 0 h3) w O5:=OwnR.upd ow (fun _ _ _=>rfl) (Nat.le_refl _);have slX:SlW (inC (zB 0 h3)) w O5:=OwnR.sl owX;obtain⟨cs,⟨rfl,y1,y2,y3⟩,pc,hs⟩:=zCc (i:=((O5.length:Int) - 1).toNat) slX (by omega);have hgl:O5.getD ((O5.length:Int) - 1).toNat default=lw:=by
     rw[show ((O5.length:Int) - 1).toNat=sI.length by omega,hO];simp[List.getD]
    rw[hgl]at y1 y2 y3 pc;have hsh:z9 .shl (W 1) (I (n % 64))=some (W (2 ^ (n % 64).toNat)):=by
     rw[show I (n % 64)=I (((n % 64).toNat:Nat):Int) by congr 1;omega];exact(zCJ (by omega)).1
    have hp2:2 ^ (n % 64).toNat<18446744073709551616:=(zCJ (k:=(n % 64).toNat) (by omega)).2;have hor:=u_or y1 hp2;generalize hk2:2 ^ (n % 64).toNat=k2 at hsh hp2 hor;refine goU ?_;refine WO.bin zV rfl (b_rem hn.1) ?_;refine WO.nil ?_;refine yO ?_;refine goU ?_;refine WO.bin rfl zV hsh ?_;refine WO.nil ?_;refine yO ?_;refine goU ?_;refine WO.bin zV zV hor.1 ?_;refine WO.nil ?_;refine yO ?_;refine goU ?_;refine WU2.stR (i:=((O5.length:Int) - 1).toNat) (off:=1) (cs:=[W (lw.bits|||k2)]) (ho:=by simp) ⟨lw.pos,lw.bits|||k2⟩ owX e3 (by rw[e3.mark];exact hm2) rfl (Nat.le_refl _) (by omega) (fun old hx hr ho=>by
     rw[hgl]at hr;obtain⟨rfl,r1,r2,r3⟩:=hr;exact⟨rfl,hor.2,r2,r3⟩) ?_
    intro h6 e6 ow6 n6 f6;have hset:O5.set ((O5.length:Int) - 1).toNat ⟨lw.pos,lw.bits|||k2⟩=sI++[⟨lw.pos,lw.bits|||k2⟩]:=by
     rw[show ((O5.length:Int) - 1).toNat=sI.length by omega,hO,List.set_append_right _ _ (Nat.le_refl _),Nat.sub_self];rfl
    rw[hset]at ow6;refine go ?_;refine zA (i+1) (by omega) ⟨_,_,sln,by omega,e6,sl_,ow6,⟨?_⟩,by simp only[List.length_append,List.length_singleton];omega,hin2⟩;rw[htk.out,←hk2];subst hOO;rw[hO]at hU;exact hU.out.old hn hat
   ·refine go ?_;refine WO.apRw (b:=h2.n) (R:=RW) (hB:=h2) ⟨n / 64,0⟩ (fun _=>False) ow e3 (Nat.le_refl _) e3.n (by decide) (by omega) (RW.dep (show (0:Nat)<18446744073709551616 by decide) (by simp only;omega) (by simp only;omega) _) (fun k hk=>hk.elim) (fun _ _ _ _ h=>h) ?_;intro w5 h5 lit e5 ow5 n5 keep5 wr5;obtain⟨va,vn,vk,rfl,_⟩:=YD ow5;clear pc y1 y2 y3 hs hgl hO5;have hfar:∀ x∈out,x.pos<n / 64:=fun x hx=>by
     have hle:=hup.out x hx;rcases List.mem_append.1 (hO▸hx:x∈sI++[lw])with h|h
     ·have h1:=(List.pairwise_append.1 (hO▸hU.out.ok.rise:(sI++[lw]).Pairwise _)).2.2 x h lw (by simp);have h2:=hup.out lw (by rw[hO];simp);omega
     ·rw[List.mem_singleton]at h;subst h;omega
    have hfar:=Hid.mk hfar;clear hO;obtain⟨O5,sI2,lw2,hO,hsI,hlw⟩:∃ (O5 sI:List LWd) (lw:LWd),O5=sI++[lw]∧sI=out∧lw=⟨n / 64,0⟩:=⟨_,_,_,rfl,rfl,rfl⟩;have ow5:OwnW h2.n h5 (.slice va vn vk) O5:=by rw[hO,hsI,hlw];exact ow5
    have hsl:sI2.length=out.length:=by rw[hsI]
    have hsl:sI2.length≤i:=by omega
    have hO5:O5.length=sI2.length+1:=by rw[hO];simp
    have hlO:O5.length≤20000:=by omega
    refine go ?_;refine WX.regionU2 0 rfl rfl ?_;have owX:OwnW h2.n (zB 0 h5) (.slice va vn vk) O5:=OwnR.upd ow5 (fun _ _ _=>rfl) (Nat.le_refl _);have slX:SlW (inC (zB 0 h5)) (.slice va vn vk) O5:=OwnR.sl owX;obtain⟨cs,⟨rfl,y1,y2,y3⟩,pc,hs⟩:=zCc (i:=((O5.length:Int) - 1).toNat) slX (by omega);have hgl:O5.getD ((O5.length:Int) - 1).toNat default=lw2:=by
     rw[show ((O5.length:Int) - 1).toNat=sI2.length by omega,hO];simp[List.getD]
    rw[hgl]at y1 y2 y3 pc;have hsh:z9 .shl (W 1) (I (n % 64))=some (W (2 ^ (n % 64).toNat)):=by
     rw[show I (n % 64)=I (((n % 64).toNat:Nat):Int) by congr 1;omega];exact(zCJ (by omega)).1
    have hp2:2 ^ (n % 64).toNat<18446744073709551616:=(zCJ (k:=(n % 64).toNat) (by omega)).2;have hor:=u_or y1 hp2;generalize hk2:2 ^ (n % 64).toNat=k2 at hsh hp2 hor;refine goU ?_;refine WO.bin zV rfl (b_rem hn.1) ?_;refine WO.nil ?_;refine yO ?_;refine goU ?_;refine WO.bin rfl zV hsh ?_;refine WO.nil ?_;refine yO ?_;refine goU ?_;refine WO.bin zV zV hor.1 ?_;refine WO.nil ?_;refine yO ?_;refine goU ?_;refine WU2.stR (i:=((O5.length:Int) - 1).toNat) (off:=1) (cs:=[W (lw2.bits|||k2)]) (ho:=by simp) ⟨lw2.pos,lw2.bits|||k2⟩ owX e5 (by rw[e5.mark];exact hm2) rfl (Nat.le_refl _) (by omega) (fun old hx hr ho=>by
     rw[hgl]at hr;obtain⟨rfl,r1,r2,r3⟩:=hr;exact⟨rfl,hor.2,r2,r3⟩) ?_
    intro h6 e6 ow6 n6 f6;have hset:O5.set ((O5.length:Int) - 1).toNat ⟨lw2.pos,lw2.bits|||k2⟩=sI2++[⟨lw2.pos,lw2.bits|||k2⟩]:=by
     rw[show ((O5.length:Int) - 1).toNat=sI2.length by omega,hO,List.set_append_right _ _ (Nat.le_refl _),Nat.sub_self];rfl
    rw[hset]at ow6;refine go ?_;refine zA (i+1) (by omega) ⟨_,_,sln,by omega,e6,sl_,ow6,⟨?_⟩,by simp only[List.length_append,List.length_singleton];omega,hin2⟩;rw[htk.out,←hk2];subst hlw hsI;have:=hU.out.new hn hfar.out;rw[Nat.zero_or];exact this
 ·refine go ?_;refine rt ?_;have hiL:i=L.length:=by omega
  subst hiL;rw[List.take_length]at hU;have hE:ofE l=0:=zDf fun n hn=>by
   obtain⟨j,hj,e⟩:=List.getElem_of_mem ((hmem.out n).2 hn);have:=hin.out j hj;rwa [List.getD_eq_getElem?_getD,List.getElem?_eq_getElem hj,Option.getD_some,e]at this
  rw[hE];subst s5;exact⟨⟨_,out,rfl,⟨h2.n,e2.n,ow⟩,fun _=>hU.out.perm hmem.out,fun h=>absurd rfl h⟩,e2.trans e3⟩
theorem ZL (f:Nat→Nat→Nat):∀ A B:List LWd,(ze f A B).length≤A.length+B.length
 |[],[]=>by rw[ze];exact Nat.le_refl _
 |x::a,[]=>by
  have:=ZL f a [];rw[ze];unfold zAG;split<;>simp only[List.length_cons,List.length_nil]at * <;>omega
 |[],y::b=>by
  have:=ZL f [] b;rw[ze];unfold zAG;split<;>simp only[List.length_cons,List.length_nil]at * <;>omega
 |x::a,y::b=>by
  rw[ze];have h1:=ZL f a (y::b);have h2:=ZL f (x::a) b;have h3:=ZL f a b;unfold zAG;split
  ·split<;>simp only[List.length_cons]at * <;>omega
  ·split
   ·split<;>simp only[List.length_cons]at * <;>omega
   ·split<;>simp only[List.length_cons]at * <;>omega
 termination_by A B=>A.length+B.length
theorem YE {s:List LWd} (h:OkW s):z0 (-1) s=true:=(zH5 h.bd).2 h
abbrev orL (A B:List LWd):=ze (fun a b=>a|||b) A B
abbrev minL (A B:List LWd):=ze zCC A B
theorem or_is {A B:List LWd} (ha:OkW A) (hb:OkW B):OkW (orL A B)∧∀ n,inB (orL A B) n=(inB A n||inB B n):=let ⟨a,b,_⟩:=Zx bit_or ha hb;⟨a,b⟩
theorem min_is {A B:List LWd} (ha:OkW A) (hb:OkW B):OkW (minL A B)∧∀ n,inB (minL A B) n=(inB A n&& !inB B n):=let ⟨a,b,_⟩:=Zx bit_not ha hb;⟨a,b⟩
theorem zDU {A B:List LWd} (ha:OkW A) (hb:OkW B):zCW A B=0:=by unfold zCW;rw[YE ha,YE hb];rfl
theorem zDK {f:Nat→Nat→Nat} {A B:List LWd} (ha:OkW A) (hb:OkW B):zEA f A B=ze f A B:=by unfold zEA;rw[YE ha,YE hb];rfl
section
variable {P:Program} {tab:Tab} {t:Trie Value} {h:AHeap} {ds:List Deferred} {rd:Option Nat} {l:List AOper} {Q:AFr→AHeap→Prop}
end
theorem DBI:(∀ a:Prop,∀ [Decidable a],(decide a=true)=a)∧(∀ a:Prop,∀ [Decidable a],(decide a=false)=¬a)∧(∀ b:Bool,((!b)=true)=(b=false))∧(∀ b:Bool,((!b)=false)=(b=true))∧
  ((true=true)=True)∧((false=false)=True)∧((true=false)=False)∧((false=true)=False)∧(∀ a:Prop,(True↔a)=a)∧(∀ a:Prop,(False↔a)=¬a)∧(∀ a b:Bool,((a&&b)=true)=(a=true∧b=true))∧(∀ a b:Bool,((a||b)=true)=(a=true∨b=true)):=
 ⟨fun a _=>by simp,fun a _=>by simp,fun b=>by simp,fun b=>by simp,by simp,by simp,by simp,by simp,fun a=>by simp,fun a=>by simp,fun a b=>by simp,fun a b=>by simp⟩
def PlT (T:List LType) (k:Int):Prop:=0≤k∧k<(T.length:Int)∧((T.getD k.toNat default).kind=1∨(T.getD k.toNat default).kind=2∨(T.getD k.toNat default).kind=3)
def zCV (T:List LType) (x:LType):Prop:=(∀ p∈x.parts,PlT T p)∧PlT T x.elem∧x.parts.length≤4∧x.many=0
def MayX (T:List LType) (x:LType) (k:Nat):Prop:=
 (x.kind=1∧x.elem=0∧x.many=0∧x.parts.length=0)∨
 (x.kind=2∧0≤x.elem∧x.elem<(T.length:Int)∧x.many=0∧x.parts.length=0)∨
 (x.kind=3∧zCV T x)∨
 (x.kind=4∧x.elem=0∧x.many=0∧1≤x.parts.length∧x.parts.length≤8∧∀ p∈x.parts,0≤p∧p<(k:Int))∨
 (x.kind=5∧0≤x.elem∧x.elem<(k:Int)∧1≤x.many∧x.many≤16∧x.parts.length=0)
def Yu (T:List LType) (k:Nat):Prop:=MayX T (T.getD k default) k
def ofF (T:List LType):Nat→Int→List Int
 |0,k=>[k]
 |n+1,k=>let x:=T.getD k.toNat default
  if x.kind=4 then (x.parts.map (ofF T n)).flatten else if x.kind=5 then (List.replicate x.many.toNat (ofF T n x.elem)).flatten else [k]
def ofL (T:List LType) (k:Nat):List Int:=ofF T (k+1) k
def LowT (T:List LType) (k:Nat):Prop:=∀ j,j<k→Yu T j∧(ofL T j).length≤32
theorem zGB {T:List LType}:∀ (n m:Nat) (k:Nat),k<n→k<m→(∀ j,j≤k→Yu T j)→ofF T n k=ofF T m k:=by
 intro n;induction n with
 |zero=>intro m k h;omega
 |succ n ih=>
  intro m k h1 h2 hM;obtain⟨m,rfl⟩:∃ q,m=q+1:=⟨m - 1,by omega⟩;have hk:=hM k (Nat.le_refl _);unfold ofF;simp only[Int.toNat_natCast];split
  ·rename_i h4;congr 1;refine List.map_congr_left fun p hp=> ?_;unfold Yu MayX at hk;have hp':0≤p∧p<(k:Int):=by
    rcases hk with h|h|h|h|h
    ·omega
    ·omega
    ·omega
    ·exact h.2.2.2.2.2 p hp
    ·omega
   obtain⟨q,rfl⟩:∃ q:Nat,p=q:=⟨p.toNat,by omega⟩;exact ih m q (by omega) (by omega) fun j hj=>hM j (by omega)
  ·split
   ·rename_i h4 h5;unfold Yu MayX at hk;have hp':0≤(T.getD k default).elem∧(T.getD k default).elem<(k:Int):=by omega
    obtain⟨q,hq⟩:∃ q:Nat,(T.getD k default).elem=q:=⟨(T.getD k default).elem.toNat,by omega⟩;rw[hq,ih m q (by omega) (by omega) fun j hj=>hM j (by omega)]
   ·rfl
theorem zDT {T:List LType} {k:Nat} (hM:∀ j,j≤k→Yu T j):ofL T k=let x:=T.getD k default
  if x.kind=4 then (x.parts.map fun p=>ofL T p.toNat).flatten else if x.kind=5 then (List.replicate x.many.toNat (ofL T x.elem.toNat)).flatten else [(k:Int)]:=by
 have hk:=hM k (Nat.le_refl _);unfold Yu MayX at hk;unfold ofL;rw[ofF];simp only[Int.toNat_natCast];split
 ·rename_i h4;congr 1;refine List.map_congr_left fun p hp=> ?_;have hp':0≤p∧p<(k:Int):=by
   rcases hk with h|h|h|h|h
   ·omega
   ·omega
   ·omega
   ·exact h.2.2.2.2.2 p hp
   ·omega
  obtain⟨q,rfl⟩:∃ q:Nat,p=q:=⟨p.toNat,by omega⟩;exact zGB _ _ q (by omega) (by omega) fun j hj=>hM j (by omega)
 ·split
  ·rename_i h4 h5;have hp':0≤(T.getD k default).elem∧(T.getD k default).elem<(k:Int):=by omega
   obtain⟨q,hq⟩:∃ q:Nat,(T.getD k default).elem=q:=⟨(T.getD k default).elem.toNat,by omega⟩;rw[hq,Int.toNat_natCast,zGB k (q+1) q (by omega) (by omega) fun j hj=>hM j (by omega)]
  ·rfl
theorem zAE {m:Int} {l:List Int}:yd m l=true↔∀ p∈l,0≤p∧p<m:=by
 unfold yd;rw[List.all_eq_true];simp
theorem zFn {x:LType}:Zf x=true↔x.kind=1∨x.kind=2∨x.kind=3:=by
 unfold Zf;simp;omega
theorem len_flat (l:List Int) (f:Int→List Int):((l.map f).flatten.length:Int)=(l.map fun p=>((f p).length:Int)).sum:=by
 induction l with
 |nil=>rfl
 |cons a l ih=>simp only[List.map_cons,List.flatten_cons,List.length_append,List.sum_cons,Int.natCast_add,ih]
theorem zH7 (n:Nat) (l:List Int):(List.replicate n l).flatten.length=n * l.length:=by
 induction n with
 |zero=>simp
 |succ n ih=>rw[List.replicate_succ,List.flatten_cons,List.length_append,ih,Nat.succ_mul];omega
theorem zGA {T:List LType} {k:Nat} {s:List Int} (hk:k<T.length) (hl:LowT T k) (hs:s.length=k) (hv:∀ j,j<k→s.getD j 0=((ofL T j).length:Int)):
  ((ZE T (T.getD k default) k s).2=true↔Yu T k∧(ofL T k).length≤32)∧((ZE T (T.getD k default) k s).2=true→(ZE T (T.getD k default) k s).1=((ofL T k).length:Int)):=by
 have hun:Yu T k→ofL T k=_:=fun h=>zDT fun j hj=>by
  by_cases e:j=k
  ·subst e;exact h
  ·exact(hl j (by omega)).1
 generalize hx:T.getD k default=x at *;have hM:Yu T k↔MayX T x k:=by unfold Yu;rw[hx]
 unfold MayX at hM;have plain1:x.kind=1→(yE x=true↔x.elem=0∧x.many=0∧x.parts.length=0):=fun h=>by unfold yE;simp[h,and_assoc]
 have plain2:x.kind=2→(yE x=true↔x.many=0∧x.parts.length=0):=fun h=>by unfold yE;simp[h]
 have plain3:x.kind=3→(yE x=true↔x.many=0):=fun h=>by unfold yE;simp[h]
 have plain4:x.kind=4→(yE x=true↔x.elem=0∧x.many=0):=fun h=>by unfold yE;simp[h]
 have plain5:x.kind=5→(yE x=true↔x.parts.length=0):=fun h=>by unfold yE;simp[h]
 by_cases h1:x.kind=1
 ·have e:ZE T x k s=(1,yE x):=by unfold ZE;rw[if_pos h1]
  rw[e,plain1 h1];refine⟨⟨fun h=> ?_,fun h=> ?_⟩,fun h=> ?_⟩
  ·have:=hM.2 (.inl ⟨h1,h⟩);refine⟨this,?_⟩;rw[hun this];simp[h1]
  ·have:=hM.1 h.1;omega
  ·have:=hM.2 (.inl ⟨h1,h⟩);rw[hun this];simp[h1]
 by_cases h2:x.kind=2
 ·have e:ZE T x k s=(1,yE x&&yd T.length [x.elem]):=by unfold ZE;rw[if_neg h1,if_pos h2]
  have e2:(yE x&&yd T.length [x.elem])=true↔(x.many=0∧x.parts.length=0)∧0≤x.elem∧x.elem<(T.length:Int):=by
   rw[Bool.and_eq_true,plain2 h2,zAE];simp
  rw[e,e2];have key:(x.many=0∧x.parts.length=0)∧0≤x.elem∧x.elem<(T.length:Int)→Yu T k:=fun h=>hM.2 (.inr (.inl ⟨h2,h.2.1,h.2.2,h.1.1,h.1.2⟩));refine⟨⟨fun h=>⟨key h,?_⟩,fun h=> ?_⟩,fun h=> ?_⟩
  ·rw[hun (key h)];simp[h2]
  ·have:=hM.1 h.1;omega
  ·rw[hun (key h)];simp[h2]
 by_cases h3:x.kind=3
 ·rw[zFp h3];have e2:(yE x&&decide (x.parts.length≤4)&&yd T.length (x.elem::x.parts)&&(x.elem::x.parts).all fun n=>Zf (T.getD n.toNat default))=true↔zCV T x:=by
   unfold zCV PlT;simp only[Bool.and_eq_true,plain3 h3,decide_eq_true_eq,zAE,List.all_eq_true,zFn,List.mem_cons];constructor
   ·rintro⟨⟨⟨a,b⟩,c⟩,d⟩;exact⟨fun p hp=>⟨(c p (.inr hp)).1,(c p (.inr hp)).2,d p (.inr hp)⟩,⟨(c _ (.inl rfl)).1,(c _ (.inl rfl)).2,d _ (.inl rfl)⟩,b,a⟩
   ·rintro⟨a,b,c,d⟩;refine⟨⟨⟨d,c⟩,?_⟩,?_⟩
    ·rintro p (rfl|hp)
     ·exact⟨b.1,b.2.1⟩
     ·exact⟨(a p hp).1,(a p hp).2.1⟩
    ·rintro p (rfl|hp)
     ·exact b.2.2
     ·exact(a p hp).2.2
  simp only[e2];have key:zCV T x→Yu T k:=fun h=>hM.2 (.inr (.inr (.inl ⟨h3,h⟩)));refine⟨⟨fun h=>⟨key h,?_⟩,fun h=> ?_⟩,fun h=> ?_⟩
  ·rw[hun (key h)];simp[h3]
  ·rcases hM.1 h.1 with h|h|h|h|h
   ·omega
   ·omega
   ·exact h.2
   ·omega
   ·omega
  ·rw[hun (key h)];simp[h3]
 by_cases h4:x.kind=4
 ·rw[mayL4 h4];have e2:(yE x&&yd k x.parts)=true↔(x.elem=0∧x.many=0)∧∀ p∈x.parts,0≤p∧p<(k:Int):=by
   rw[Bool.and_eq_true,plain4 h4,zAE]
  by_cases hp:(yE x&&yd k x.parts)=true
  ·rw[if_pos hp];have hp2:=e2.1 hp;have hsum:(x.parts.map fun n=>s.getD n.toNat 0).sum=(x.parts.map fun p=>((ofL T p.toNat).length:Int)).sum:=by
    congr 1;refine List.map_congr_left fun p hpp=> ?_;have:=hp2.2 p hpp;exact hv p.toNat (by omega)
   have key:1≤x.parts.length∧x.parts.length≤8→Yu T k:=fun h=>hM.2 (.inr (.inr (.inr (.inl ⟨h4,hp2.1.1,hp2.1.2,h.1,h.2,hp2.2⟩))));have hlen:Yu T k→((ofL T k).length:Int)=(x.parts.map fun p=>((ofL T p.toNat).length:Int)).sum:=fun h=>by
    rw[hun h];simp only[h4,if_true];rw[len_flat]
   simp only[Bool.and_eq_true,decide_eq_true_eq];refine⟨⟨fun h=> ?_,fun h=> ?_⟩,fun h=> ?_⟩
   ·have hk2:=key (by omega);have:=hlen hk2;exact⟨hk2,by omega⟩
   ·have:=hlen h.1;have h5:=hM.1 h.1;omega
   ·rw[hsum,hlen (key (by omega))]
  ·rw[if_neg hp];simp only[Bool.false_eq_true,false_iff,false_implies,and_true];intro h;refine hp (e2.2 ?_);rcases hM.1 h.1 with h|h|h|h|h
   ·omega
   ·omega
   ·omega
   ·exact⟨⟨h.2.1,h.2.2.1⟩,h.2.2.2.2.2⟩
   ·omega
 by_cases h5:x.kind=5
 ·rw[mayL5 h5];have e2:(yE x&&yd k [x.elem]&&decide (1≤x.many)&&decide (x.many≤16))=true↔x.parts.length=0∧(0≤x.elem∧x.elem<(k:Int))∧1≤x.many∧x.many≤16:=by
   simp only[Bool.and_eq_true,plain5 h5,zAE,decide_eq_true_eq];simp[and_assoc]
  by_cases hp:(yE x&&yd k [x.elem]&&decide (1≤x.many)&&decide (x.many≤16))=true
  ·rw[if_pos hp];have hp2:=e2.1 hp;have key:Yu T k:=hM.2 (.inr (.inr (.inr (.inr ⟨h5,hp2.2.1.1,hp2.2.1.2,hp2.2.2.1,hp2.2.2.2,hp2.1⟩))));have hs1:=hv x.elem.toNat (by omega);have hlen:((ofL T k).length:Int)=x.many * s.getD x.elem.toNat 0:=by
    rw[hun key];simp only[h5,if_true];rw[if_neg (by omega),zH7,hs1,Int.natCast_mul,Int.toNat_of_nonneg (by omega)]
   simp only[decide_eq_true_eq];rw[←hlen];exact⟨⟨fun h=>⟨key,by omega⟩,fun h=>by omega⟩,fun _=>rfl⟩
  ·rw[if_neg hp];simp only[Bool.false_eq_true,false_iff,false_implies,and_true];intro h;refine hp (e2.2 ?_);have:=hM.1 h.1;omega
 ·have e:ZE T x k s=(1,false):=by unfold ZE;rw[if_neg h1,if_neg h2,if_neg h3,if_neg h4,if_neg h5]
  rw[e];simp only[Bool.false_eq_true,false_iff,false_implies,and_true];intro h;have:=hM.1 h.1;omega
theorem zHT {T:List LType}:∀ k,k≤T.length→(∀ s,ZY T k=some s→LowT T k∧s.length=k∧∀ j,j<k→s.getD j 0=((ofL T j).length:Int))∧(LowT T k→∃ s,ZY T k=some s):=by
 intro k;induction k with
 |zero=>exact fun _=>⟨fun s hs=>by cases hs;exact⟨fun j hj=>absurd hj (Nat.not_lt_zero _),rfl,fun j hj=>absurd hj (Nat.not_lt_zero _)⟩,fun _=>⟨[],rfl⟩⟩
 |succ k ih=>
  intro hk;obtain⟨i1,i2⟩:=ih (by omega);refine⟨fun s hs=> ?_,fun hl=> ?_⟩
  ·unfold ZY at hs;split at hs
   ·cases hs
   ·rename_i s0 h0;obtain⟨a,b,c⟩:=i1 s0 h0;obtain⟨m1,m2⟩:=zGA (T:=T) (k:=k) (by omega) a b c;split at hs
    ·rename_i hm;cases hs;have h1:=m1.1 hm;have h2:=m2 hm;refine⟨fun j hj=> ?_,by simp[b],fun j hj=> ?_⟩
     ·by_cases e:j=k
      ·subst e;exact h1
      ·exact a j (by omega)
     ·by_cases e:j=k
      ·subst e;rw[←h2];simp[List.getD,←b]
      ·rw[←c j (by omega)];simp[List.getD,List.getElem?_append_left (show j<s0.length by omega)]
    ·cases hs
  ·obtain⟨s0,h0⟩:=i2 fun j hj=>hl j (by omega);obtain⟨a,b,c⟩:=i1 s0 h0;obtain⟨m1,m2⟩:=zGA (T:=T) (k:=k) (by omega) a b c;unfold ZY;rw[h0];simp only;rw[if_pos (m1.2 (hl k (by omega)))];exact⟨_,rfl⟩
theorem zHC {T:List LType}:YI T=if 16<T.length then 4 else (open Classical in if LowT T T.length then 0 else 30):=by
 classical
 unfold YI;split
 ·rfl
 ·obtain⟨i1,i2⟩:=zHT T.length (Nat.le_refl _);split
  ·rename_i s hs;rw[if_pos (i1 s hs).1]
  ·rename_i hs;rw[if_neg];intro h;obtain⟨s,h2⟩:=i2 h;rw[h2]at hs;cases hs
def TwoP (op:Int):Prop:=(4≤op∧op≤10)∨op=15∨op=17
def zGJ (op:Int):Prop:=TwoP op∨op=13∨op=14∨op=16∨op=19∨op=21
def zDB (op:Int):Prop:=op=18∨op=19∨op=22
def AnsP (op:Int):Prop:=1≤op∧op≤22∧op≠13∧op≠17∧op≠21
theorem Yk {op:Int} (h:0≤op):((zS op).2.1=true↔TwoP op)∧((zS op).1=true↔zGJ op)∧((zS op).2.2.2.1=true↔zDB op)∧((zS op).2.2.2.2.2=true↔AnsP op)∧((zS op).2.2.2.2.1=true↔op=22)∧((zS op).2.2.1=true↔op=1∨op=3∨op=14∨op=18)∧(zS op=(false,false,false,false,false,false)↔op<1∨22<op):=by
 obtain⟨n,rfl⟩:=Int.eq_ofNat_of_zero_le h;by_cases hn:n<23
 ·clear h;unfold zGJ zDB AnsP TwoP;have hz:(List.range 23).all (fun (n:Nat)=>decide (zS (n:Int)=(false,false,false,false,false,false)) == decide ((n:Int)<1∨22<(n:Int)))=true:=by decide+kernel
  have hz:=List.all_eq_true.1 hz n (List.mem_range.2 hn);rw[beq_iff_eq,decide_eq_decide]at hz;refine⟨?_,?_,?_,?_,?_,?_,hz⟩<;>(clear hz;revert n;decide+kernel)
 ·have e:zS (n:Int)=(false,false,false,false,false,false):=by
   unfold zS;rw[List.getD,List.getElem?_eq_none (by simp only[hasT,List.length_cons,List.length_nil];omega)];rfl
  rw[e];unfold zGJ zDB AnsP TwoP;simp only[Bool.false_eq_true,false_iff,true_iff];omega
def yu (x:LIns):List Int:=(if (zS x.op).1 then [x.a] else [])++((if (zS x.op).2.1 then [x.b] else [])++(if (zS x.op).2.2.2.1 then x.args else []))
def NumP (x:LIns) (funcs:Int):Prop:=if x.op=1 then True else if x.op=3∨x.op=18 then 0≤x.n∧x.n<funcs else if x.op=14 then 0≤x.n∧x.n<8 else x.n=0
def Btw (l:List Int) (m:Int):Prop:=∀ p∈l,0≤p∧p<m
structure MayI (x:LIns) (s:LSz):Prop where
 op:1≤x.op∧x.op≤22
 uses:Btw (yu x) s.regs
 num:NumP x s.funcs
 a:(zS x.op).1=true∨x.a=0
 b:(zS x.op).2.1=true∨x.b=0
 g:(zS x.op).2.2.2.1=true∨(x.args.length:Int)≤0
 ans:if (zS x.op).2.2.2.2.2 then 0≤x.ty∧x.ty<s.types else x.ty=0
 frm:if (zS x.op).2.2.2.2.1 then (x.frm.length:Int)=x.args.length∧1≤(x.frm.length:Int)∧(x.frm.length:Int)≤16∧Btw x.frm s.blocks else (x.frm.length:Int)=0∧(x.args.length:Int)≤4
theorem zDZ {l:List Int} {m:Int}:allL l m=true↔Btw l m:=by
 unfold allL zN Btw;simp[List.all_eq_true]
theorem zDC {l k:List Int} {m:Int}:Btw (l++k) m↔Btw l m∧Btw k m:=by
 unfold Btw;constructor
 ·exact fun h=>⟨fun p hp=>h p (List.mem_append.2 (.inl hp)),fun p hp=>h p (List.mem_append.2 (.inr hp))⟩
 ·exact fun h p hp=>(List.mem_append.1 hp).elim (h.1 p) (h.2 p)
theorem zHd {c:Bool} {l:List Int} {m:Int}:Btw (if c then l else []) m↔(c=true→Btw l m):=by
 cases c
 ·simp[Btw]
 ·simp
theorem zCp {a m:Int}:Btw [a] m↔zN a m=true:=by unfold Btw zN;simp
theorem zFo {x:LIns} {s:LSz} (ho:0≤x.op):NumP x s.funcs↔YZ x s=true∧((zS x.op).2.2.1=true∨x.n=0):=by
 obtain⟨_,_,_,_,_,hn,_⟩:=Yk ho;rw[hn];unfold NumP YZ;by_cases h1:x.op=1
 ·simp[h1]
 by_cases h3:x.op=3∨x.op=18
 ·rw[if_neg h1,if_pos h3,if_pos h3,Bool.and_eq_true,decide_eq_true_iff,decide_eq_true_iff];omega
 by_cases h14:x.op=14
 ·rw[if_neg h1,if_neg h3,if_pos h14,if_neg h3,if_pos h14,Bool.and_eq_true,decide_eq_true_iff,decide_eq_true_iff];omega
 ·rw[if_neg h1,if_neg h3,if_neg h14,if_neg h3,if_neg h14];simp;omega
theorem zDy {x:LIns} {s:LSz} (ho:0≤x.op):zAW x s=true↔MayI x s:=by
 obtain⟨_,_,_,_,hf,_,hz⟩:=Yk ho;have hnum:=zFo (x:=x) (s:=s) ho;have key:MayI x s↔(1≤x.op∧x.op≤22)∧Btw (yu x) s.regs∧NumP x s.funcs∧((zS x.op).1=true∨x.a=0)∧((zS x.op).2.1=true∨x.b=0)∧((zS x.op).2.2.2.1=true∨(x.args.length:Int)≤0)∧(if (zS x.op).2.2.2.2.2 then 0≤x.ty∧x.ty<s.types else x.ty=0)∧
   (if (zS x.op).2.2.2.2.1 then (x.frm.length:Int)=x.args.length∧1≤(x.frm.length:Int)∧(x.frm.length:Int)≤16∧Btw x.frm s.blocks else (x.frm.length:Int)=0∧(x.args.length:Int)≤4):=
  ⟨fun ⟨a,b,c,d,e,f,g,h⟩=>⟨a,b,c,d,e,f,g,h⟩,fun ⟨a,b,c,d,e,f,g,h⟩=>⟨a,b,c,d,e,f,g,h⟩⟩
 rw[key,hnum];unfold zAW oddL noneL kindL yu;simp only;have hz':(decide (zS x.op=(false,false,false,false,false,false))=false)↔(1≤x.op∧x.op≤22):=by
  rw[decide_eq_false_iff_not,hz];omega
 have hl0:Btw x.args s.regs∨¬(x.args.length:Int)≤0:=by
  by_cases h:(x.args.length:Int)≤0
  ·left;have:x.args=[]:=List.eq_nil_of_length_eq_zero (by omega);rw[this];exact fun p hp=>by cases hp
  ·exact .inr h
 rw[zDC,zDC,zHd,zHd,zHd,zCp,zCp];have hty:(zN x.ty s.types=true)↔0≤x.ty∧x.ty<s.types:=by unfold zN;simp
 rw[←hz',←hty,←zDZ,←zDZ];rw[←zDZ]at hl0;generalize decide (zS x.op=(false,false,false,false,false,false))=Z at *;generalize zS x.op=q at *;obtain⟨A,B,N,G,R,S⟩:=q;simp only;generalize zN x.a s.regs=ba at *;generalize zN x.b s.regs=bb at *;generalize allL x.args s.regs=bg at *;generalize YZ x s=bn at *;generalize zN x.ty s.types=bt at *;generalize allL x.frm s.blocks=bf at *;clear hz hf hnum key hz' hty;generalize x.args.length=la at *;generalize x.frm.length=lf at *;generalize x.a=a at *;generalize x.b=b at *;generalize x.n=n at *;generalize x.ty=ty at *;cases Z<;>simp only[Bool.true_or,Bool.false_or,Bool.not_true,Bool.false_and,Bool.false_eq_true,false_iff,false_and,not_false_eq_true,Bool.true_eq_false,Bool.not_false,Bool.not_true,true_and];cases R
 ·cases A<;>cases B<;>cases N<;>cases G<;>cases S<;>simp<;>(constructor<;>intro h<;>simp_all<;>omega)
 ·cases A<;>cases B<;>cases N<;>cases G<;>cases S<;>simp<;>(constructor<;>intro h<;>simp_all<;>omega)
theorem zGY {x:LEnd} {s:LSz}:zAX x s=true↔(x.kind=1∧x.a=0∧x.els=0∧Btw [x.to] s.blocks)∨(x.kind=2∧Btw [x.a] s.regs∧Btw [x.to,x.els] s.blocks)∨(x.kind=3∧x.to=0∧x.els=0∧Btw [x.a] s.regs):=by
 have h2:Btw [x.to,x.els] s.blocks↔zN x.to s.blocks=true∧zN x.els s.blocks=true:=by unfold Btw zN;simp
 rw[h2,zCp,zCp];unfold zAX;by_cases k1:x.kind=1
 ·simp[k1,and_assoc]
 by_cases k2:x.kind=2
 ·simp[k2,and_assoc]
 by_cases k3:x.kind=3
 ·simp[k3,and_assoc]
 ·simp[k1,k2,k3]
end
end Go.Proofs.YtemggiegiejopaaGreatDoor
