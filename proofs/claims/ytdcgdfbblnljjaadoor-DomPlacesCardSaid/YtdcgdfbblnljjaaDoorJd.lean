/- What functions of the program come to in the abstract machine, and plain laws about it; no statement of the seat is proved in this text. -/
import Derived.Test.YtdcgdfbblnljjaaDoorJc
import Derived.Test.YtdcgdfbblnljjaaDoorJc
import Derived.Test.YtdcgdfbblnljjaaDoorAmV
import Derived.Test.YtdcgdfbblnljjaaDoorJb
import Derived.Test.YtdcgdfbblnljjaaDoorAmU
namespace Go.Proofs.YtdcgdfbblnljjaaDoor
open Go.Am
set_option linter.unusedVariables false
set_option linter.unusedSimpArgs false
set_option maxHeartbeats 1000000
def EndsOk (L:List LBlk):Prop:=L.length≤16∧∀ k,k<L.length→((L.getD k default).fin.kind=1∨(L.getD k default).fin.kind=2∨(L.getD k default).fin.kind=3)∧((L.getD k default).fin.kind=1∨(L.getD k default).fin.kind=2→0≤(L.getD k default).fin.to∧(L.getD k default).fin.to<L.length)∧((L.getD k default).fin.kind=2→0≤(L.getD k default).fin.els∧(L.getD k default).fin.els<L.length)
noncomputable def body40_0:ACode:=(.seq (.region [⟨some 8,none,(.bin .lss (.tmp 7) (.tmp 6))⟩]) (.seq (.cond (.tmp 8) .skip (.exit 0)) (.seq (.block 1 (.seq (.region [⟨some 9,none,(.mov (.tmp 7))⟩,⟨some 10,none,(.idx 5 (.tmp 5) (.tmp 7))⟩,⟨some 11,none,(.load true 5 (.tmp 10))⟩,⟨some 4,none,(.alloc [(.slice none 0 0),(.int .u8 0),(.int .i64 0),(.int .i64 0),(.int .i64 0)])⟩,⟨some 3,none,(.mov (.tmp 9))⟩,⟨none,none,(.store 5 (.tmp 4) (.tmp 11))⟩]) (.seq (.seq (.region [⟨some 12,none,(.fld 1 (.tmp 4))⟩,⟨some 13,none,(.fld 0 (.tmp 12))⟩,⟨some 14,none,(.load false 1 (.tmp 13))⟩,⟨some 15,none,(.bin .neq (.tmp 14) (.const (.int .u8 3)))⟩]) (.cond (.tmp 15) (.regionC [(⟨some 16,none,(.fld 1 (.tmp 4))⟩,[]),(⟨some 17,none,(.fld 2 (.tmp 16))⟩,[]),(⟨some 18,none,(.load false 1 (.tmp 17))⟩,[]),(⟨some 19,none,(.fld 1 (.tmp 4))⟩,[]),(⟨some 20,none,(.fld 2 (.tmp 19))⟩,[]),(⟨some 21,none,(.load false 1 (.tmp 20))⟩,[]),(⟨some 22,none,(.idxArr 16 1 (.tmp 2) (.tmp 21))⟩,[]),(⟨some 23,none,(.load false 1 (.tmp 22))⟩,[]),(⟨some 24,none,(.mov (.tmp 3))⟩,[]),(⟨some 25,none,(.buildSlice 1 1 [(.int .i64 0)] [(0,1,(.tmp 24))])⟩,[]),(⟨some 26,none,(.append 1 (.tmp 23) (.tmp 25))⟩,[2]),(⟨some 27,none,(.idxArr 16 1 (.tmp 2) (.tmp 18))⟩,[]),(⟨none,none,(.store 1 (.tmp 27) (.tmp 26))⟩,[])]) .skip)) (.seq (.region [⟨some 28,none,(.fld 1 (.tmp 4))⟩,⟨some 29,none,(.fld 0 (.tmp 28))⟩,⟨some 30,none,(.load false 1 (.tmp 29))⟩,⟨some 31,none,(.bin .eql (.tmp 30) (.const (.int .u8 2)))⟩,⟨some 32,none,(.mov (.tmp 31))⟩,⟨some 33,some (32,true),(.fld 1 (.tmp 4))⟩,⟨some 34,some (32,true),(.fld 3 (.tmp 33))⟩,⟨some 35,some (32,true),(.load false 1 (.tmp 34))⟩,⟨some 36,some (32,true),(.fld 1 (.tmp 4))⟩,⟨some 37,some (32,true),(.fld 2 (.tmp 36))⟩,⟨some 38,some (32,true),(.load false 1 (.tmp 37))⟩,⟨some 39,some (32,true),(.bin .neq (.tmp 35) (.tmp 38))⟩,⟨some 40,none,(.pick (.tmp 32) (.tmp 39) (.const (.bool false)))⟩]) (.cond (.tmp 40) (.regionC [(⟨some 41,none,(.fld 1 (.tmp 4))⟩,[]),(⟨some 42,none,(.fld 3 (.tmp 41))⟩,[]),(⟨some 43,none,(.load false 1 (.tmp 42))⟩,[]),(⟨some 44,none,(.fld 1 (.tmp 4))⟩,[]),(⟨some 45,none,(.fld 3 (.tmp 44))⟩,[]),(⟨some 46,none,(.load false 1 (.tmp 45))⟩,[]),(⟨some 47,none,(.idxArr 16 1 (.tmp 2) (.tmp 46))⟩,[]),(⟨some 48,none,(.load false 1 (.tmp 47))⟩,[]),(⟨some 49,none,(.mov (.tmp 3))⟩,[]),(⟨some 50,none,(.buildSlice 1 1 [(.int .i64 0)] [(0,1,(.tmp 49))])⟩,[]),(⟨some 51,none,(.append 1 (.tmp 48) (.tmp 50))⟩,[2]),(⟨some 52,none,(.idxArr 16 1 (.tmp 2) (.tmp 43))⟩,[]),(⟨none,none,(.store 1 (.tmp 52) (.tmp 51))⟩,[])]) .skip))))) (.region [⟨some 53,none,(.bin .add (.tmp 7) (.const (.int .i64 1)))⟩,⟨some 7,none,(.mov (.tmp 53))⟩]))))
noncomputable def body40:ACode:=(.seq (.region [⟨some 2,none,(.alloc [(.slice none 0 0),(.slice none 0 0),(.slice none 0 0),(.slice none 0 0),(.slice none 0 0),(.slice none 0 0),(.slice none 0 0),(.slice none 0 0),(.slice none 0 0),(.slice none 0 0),(.slice none 0 0),(.slice none 0 0),(.slice none 0 0),(.slice none 0 0),(.slice none 0 0),(.slice none 0 0)])⟩]) (.seq (.seq (.region [⟨some 5,none,(.mov (.tmp 0))⟩,⟨some 6,none,(.len (.tmp 5))⟩,⟨some 7,none,(.mov (.const (.int .i64 0)))⟩]) (.block 0 (.loop body40_0))) (.seq (.region [⟨some 54,none,(.load true 16 (.tmp 2))⟩,⟨none,none,(.store 16 (.tmp 2) (.tmp 54))⟩]) .ret)))
set_option maxRecDepth 100000 in
theorem tab40:tb.code 40=some ⟨55,[(2,some (true,16))],body40⟩:=by kernel_rfl
theorem ahead_ok (h:AHeap) (hm:h.mark≤h.n) (v:Value) (L:List LBlk) (sb:SlB h v L) (hE:EndsOk L):
  WC Tryd.prog tb 40 [v] h fun r h'=>(∃ cells:List Value,r= .agg cells.toArray∧cells.length=16∧∀ j,j<16→OwnN h h' (cells.getD j undef) (aheadN L (j:Int) L.length))∧Ext h h':=by
 refine WC.of (nostub 40) tab40 ?_;simp only[mkTm,Nat.zero_add,Nat.reduceAdd]
 refine go ?_
 refine WO.al ?_
 intro p h1 e1 o1
 obtain⟨g2,hg2,hg2',rfl⟩:∃ g2,h.n≤g2∧g2<h1.n∧p= .pointer (some ⟨g2,0,none⟩):=let ⟨g,a,b,c,_⟩:=o1;⟨g,a,b,c⟩
 have sb1:=SlB.ext sb e1
 refine go ?_
 refine WX.loopA [8,9,10,11,4,3,12,13,14,15,16,17,18,19,20,21,22,23,24,25,26,27,28,29,30,31,32,33,34,35,36,37,38,39,40,41,42,43,44,45,46,47,48,49,50,51,52,53,7] (by kernel_rfl) (fun k=>L.length - k) (fun k t h3=>tmGet t 7=I k∧k≤L.length∧Ext h h3∧∃ cells,AR h h3 (.pointer (some ⟨g2,0,none⟩)) cells 16 (fun j=>aheadN L (j:Int) k)) 0 ?_ ?_
 ·refine⟨sl_,Nat.zero_le _,e1,List.replicate 16 (.slice none 0 0),⟨o1,rfl,fun j hj=> ?_,fun i j g a b c d hi hj hne e1 e2=> ?_⟩⟩
  ·have:(List.replicate 16 (Value.slice none 0 0)).getD j undef= .slice none 0 0:=by
    rw[List.getD_eq_getElem?_getD,List.getElem?_eq_getElem (by simpa using hj),List.getElem_replicate];rfl
   rw[this];exact .inl ⟨rfl,rfl⟩
  ·have:(List.replicate 16 (Value.slice none 0 0)).getD i undef= .slice none 0 0:=by
    rw[List.getD_eq_getElem?_getD,List.getElem?_eq_getElem (by simpa using hi),List.getElem_replicate];rfl
   rw[this]at e1;cases e1
 rintro k t h3 hsame ⟨s7,hk,e3,cells,ar⟩
 have sb3:=SlB.ext sb e3
 have hL:=hE.1
 have hx:=hE.2
 refine go ?_
 refine WX.br (fun hc=> ?_) (fun hc=> ?_)<;>simp only[DB]at hc
 ·have hk':k<L.length:=by omega
  obtain⟨hkind,hto,hels⟩:=hx k hk'
  obtain⟨cs,⟨vi,rfl,si,hsi⟩,pc,hs⟩:=slr_at sb3 hk'
  obtain⟨va,vn,vk,rfl⟩:=slr_shape si
  have hsucc:∀ j:Nat,aheadN L (j:Int) (k+1)=if (j:Int)∈nextL (L.getD k default).fin then aheadN L (j:Int) k++[(k:Int)] else aheadN L (j:Int) k:=fun j=>aheadN_succ L j k
  have halen:∀ j:Nat,(aheadN L (j:Int) k).length≤1000:=fun j=>by have:=aheadN_len L (j:Int) k;omega
  generalize (L.getD k default).fin=X at *
  refine go ?_
  refine WO.al ?_
  intro p4 h4 e4 o4
  obtain⟨g4,hg4,rfl⟩:∃ g4,h3.n≤g4∧p4= .pointer (some ⟨g4,0,none⟩):=let ⟨g,a,b,c,_⟩:=o4;⟨g,a,c⟩
  refine go ?_
  refine WO.stC0 o4 e4 ?_
  intro h5 e5 o5 u5
  have ar5:=ar.ext e5
  have e05:=e3.trans e5
  have o5:=o5.since e3
  refine go ?_
  have hnx:∀ j:Nat,((j:Int)∈nextL X)↔(X.kind≠3∧(j:Int)=X.to)∨((X.kind=2∧X.els≠X.to)∧(j:Int)=X.els):=fun j=>by
   unfold nextL
   by_cases k1:X.kind=1
   ·rw[if_pos k1];simp only[List.mem_singleton];omega
   ·rw[if_neg k1]
    by_cases k2:X.kind=2
    ·rw[if_pos k2]
     by_cases k3:X.to=X.els
     ·rw[if_pos k3];simp only[List.mem_singleton];omega
     ·rw[if_neg k3];simp only[List.mem_cons,List.mem_nil_iff,or_false];omega
    ·rw[if_neg k2];simp only[List.mem_nil_iff,false_iff];omega
  have hmk:h5.mark≤h.n:=by rw[e05.mark];exact hm
  have hg42:g4≠g2:=by have:=e3.n;obtain⟨g,_,q2,q3,_⟩:=ar.own;cases q3;omega
  refine WX.cutA [16,17,18,19,20,21,22,23,24,25,26,27] (by kernel_rfl) (fun t h'=>Ext h h'∧(∃ cells',AR h h' (.pointer (some ⟨g2,0,none⟩)) cells' 16 (fun j=>if X.kind≠3∧(j:Int)=X.to then aheadN L (j:Int) k++[(k:Int)] else aheadN L (j:Int) k))∧OwnC h h' (.pointer (some ⟨g4,0,none⟩)) [.slice va vn vk,.int .u8 X.kind,I X.a,I X.to,I X.els]) ?_ ?_
  ·refine WX.br (fun hd=> ?_) (fun hd=> ?_)<;>simp only[DB]at hd
   ·have hd':X.kind≠3:=by simpa using hd
    obtain⟨t0,t1⟩:=hto (by omega)
    have hi16:X.to.toNat<16:=by omega
    have ht:(X.to.toNat:Int)=X.to:=by omega
    refine WX.regionU6 (fun g=>∃ a b,cells.getD X.to.toNat undef= .slice (some ⟨g,0,none⟩) a b) 1 rfl rfl ?_
    have hb4:¬∃ a b,cells.getD X.to.toNat undef= .slice (some ⟨g4,0,none⟩) a b:=fun ⟨a,b,e⟩=>own_ne o5 (ar5.all _ hi16) _ _ _ e rfl
    have hb2:¬∃ a b,cells.getD X.to.toNat undef= .slice (some ⟨g2,0,none⟩) a b:=fun ⟨a,b,e⟩=>ar5.off hi16 rfl e rfl
    have o5X:OwnC h (inC (asideN 1 h5)) (.pointer (some ⟨g4,0,none⟩)) [.slice va vn vk,.int .u8 X.kind,I X.a,I X.to,I X.els]:=by have:=o5.ext (ext_aside 1 h5);exact this
    have o2X:OwnC h (inC (asideN 1 h5)) (.pointer (some ⟨g2,0,none⟩)) cells:=by have:=ar5.own.ext (ext_aside 1 h5);exact this
    refine goV ?_
    refine WO.ldV (i:=X.to.toNat) o2X (by rw[ar5.len];omega) ?_
    refine WO.nil ?_
    refine uK6_l (a:=⟨g2,0,none⟩) (k:=X.to.toNat) ope_ hb2 ?_
    refine goV ?_
    refine WU6.app (i:=X.to.toNat) (k:=(k:Int)) ar5 e05 (by rw[e05.mark];exact hm) hi16 rfl (halen _) ope_ ope_ rfl (fun w=>ope_) (fun w=>by rw[ht];exact ope_) rfl ?_
    intro hN w t' hsl eN arN keepN nN
    have oN:OwnC h hN (.pointer (some ⟨g4,0,none⟩)) [.slice va vn vk,.int .u8 X.kind,I X.a,I X.to,I X.els]:=by
     obtain⟨q,q1,q2,q3,q4⟩:=o5
     cases q3
     exact⟨g4,q1,Nat.lt_of_lt_of_le q2 nN,rfl,(keepN g4 q2 (fun e=>by cases e;exact hg42 rfl) (fun a b e=>hb4 ⟨a,b,e⟩)).trans q4⟩
    refine cutK_normal ⟨eN,⟨cells.set X.to.toNat w,?_⟩,oN⟩
    have hfun:(fun j:Nat=>if j=X.to.toNat then (aheadN L ((X.to.toNat:Nat):Int) k)++[(k:Int)] else aheadN L ((j:Nat):Int) k)=fun j:Nat=>if X.kind≠3∧(j:Int)=X.to then aheadN L (j:Int) k++[(k:Int)] else aheadN L (j:Int) k:=by
     funext j
     by_cases e:(j:Int)=X.to
     ·have e2:j=X.to.toNat:=by omega
      rw[if_pos e2]
      refine Eq.trans ?_ (if_pos ⟨hd',e⟩).symm
      rw[←e2]
     ·rw[if_neg (show ¬j=_ by omega)]
      exact(if_neg (fun h=>e h.2)).symm
    rw[←hfun];exact arN
   ·refine WX.skip ?_
    have hk3:X.kind=3:=by simpa using hd
    refine cutK_normal ⟨e05,⟨cells,?_⟩,o5⟩
    have hfun:(fun j:Nat=>aheadN L (j:Int) k)=fun j:Nat=>if X.kind≠3∧(j:Int)=X.to then aheadN L (j:Int) k++[(k:Int)] else aheadN L (j:Int) k:=by
     funext j;rw[if_neg (fun h=>h.1 hk3)]
    rw[←hfun];exact ar5
  clear hs pc ar5 o5 e5 e4 u5 o4
  rintro t6 h6 hs6 ⟨e06,⟨cells6,ar6⟩,o6⟩
  have hlen6:∀ j:Nat,(if X.kind≠3∧((j:Nat):Int)=X.to then aheadN L ((j:Nat):Int) k++[(k:Int)] else aheadN L ((j:Nat):Int) k).length≤1000:=fun j=>by
   have:=aheadN_len L (j:Int) k
   split
   ·rw[List.length_append,List.length_singleton];omega
   ·omega
  refine go ?_
  refine WO.mid 8 (fun t' h'=>h6=h'∧tmGet t' 40= .bool (decide (X.kind=2∧X.els≠X.to))) ?_ ?_<;>simp only[List.take_succ_cons,List.take_zero,List.drop_succ_cons,List.drop_zero]
  ·by_cases k2:X.kind=2
   ·refine go ?_
    exact⟨rfl,rfl,rfl,(sl_:tmGet _ 40= .bool (!decide (X.els=X.to))).trans (by simp[k2])⟩
   ·refine go ?_
    exact⟨rfl,rfl,rfl,(sl_:tmGet _ 40= .bool false).trans (by simp[k2])⟩
  rintro t7 _ hs7 ⟨rfl,q40⟩
  refine go ?_
  refine WX.cutA [41,42,43,44,45,46,47,48,49,50,51,52] (by kernel_rfl) (fun t h'=>Ext h h'∧(∃ cells',AR h h' (.pointer (some ⟨g2,0,none⟩)) cells' 16 (fun j=>if (X.kind=2∧X.els≠X.to)∧(j:Int)=X.els then (if X.kind≠3∧(j:Int)=X.to then aheadN L (j:Int) k++[(k:Int)] else aheadN L (j:Int) k)++[(k:Int)] else (if X.kind≠3∧(j:Int)=X.to then aheadN L (j:Int) k++[(k:Int)] else aheadN L (j:Int) k)))∧OwnC h h' (.pointer (some ⟨g4,0,none⟩)) [.slice va vn vk,.int .u8 X.kind,I X.a,I X.to,I X.els]) ?_ ?_
  ·refine WX.br (fun hd=> ?_) (fun hd=> ?_)<;>simp only[DB]at hd
   ·have hd':X.kind=2∧X.els≠X.to:=by exact hd
    obtain⟨t0,t1⟩:=hels hd'.1
    have hi16:X.els.toNat<16:=by omega
    have ht:(X.els.toNat:Int)=X.els:=by omega
    refine WX.regionU6 (fun g=>∃ a b,cells6.getD X.els.toNat undef= .slice (some ⟨g,0,none⟩) a b) 1 rfl rfl ?_
    have hb4:¬∃ a b,cells6.getD X.els.toNat undef= .slice (some ⟨g4,0,none⟩) a b:=fun ⟨a,b,e⟩=>own_ne o6 (ar6.all _ hi16) _ _ _ e rfl
    have hb2:¬∃ a b,cells6.getD X.els.toNat undef= .slice (some ⟨g2,0,none⟩) a b:=fun ⟨a,b,e⟩=>ar6.off hi16 rfl e rfl
    have o5X:OwnC h (inC (asideN 1 h6)) (.pointer (some ⟨g4,0,none⟩)) [.slice va vn vk,.int .u8 X.kind,I X.a,I X.to,I X.els]:=by have:=o6.ext (ext_aside 1 h6);exact this
    have o2X:OwnC h (inC (asideN 1 h6)) (.pointer (some ⟨g2,0,none⟩)) cells6:=by have:=ar6.own.ext (ext_aside 1 h6);exact this
    refine goV ?_
    refine WO.ldV (i:=X.els.toNat) o2X (by rw[ar6.len];omega) ?_
    refine WO.nil ?_
    refine uK6_l (a:=⟨g2,0,none⟩) (k:=X.els.toNat) ope_ hb2 ?_
    refine goV ?_
    refine WU6.app (i:=X.els.toNat) (k:=(k:Int)) ar6 e06 (by rw[e06.mark];exact hm) hi16 rfl (hlen6 _) ope_ ope_ rfl (fun w=>ope_) (fun w=>by rw[ht];exact ope_) rfl ?_
    intro hN w t' hsl eN arN keepN nN
    have oN:OwnC h hN (.pointer (some ⟨g4,0,none⟩)) [.slice va vn vk,.int .u8 X.kind,I X.a,I X.to,I X.els]:=by
     obtain⟨q,q1,q2,q3,q4⟩:=o6
     cases q3
     exact⟨g4,q1,Nat.lt_of_lt_of_le q2 nN,rfl,(keepN g4 q2 (fun e=>by cases e;exact hg42 rfl) (fun a b e=>hb4 ⟨a,b,e⟩)).trans q4⟩
    refine cutK_normal ⟨eN,⟨cells6.set X.els.toNat w,?_⟩,oN⟩
    have hfun:(fun j:Nat=>if j=X.els.toNat then (if X.kind≠3∧((X.els.toNat:Nat):Int)=X.to then aheadN L ((X.els.toNat:Nat):Int) k++[(k:Int)] else aheadN L ((X.els.toNat:Nat):Int) k)++[(k:Int)] else if X.kind≠3∧((j:Nat):Int)=X.to then aheadN L ((j:Nat):Int) k++[(k:Int)] else aheadN L ((j:Nat):Int) k)=fun j:Nat=>if (X.kind=2∧X.els≠X.to)∧(j:Int)=X.els then (if X.kind≠3∧(j:Int)=X.to then aheadN L (j:Int) k++[(k:Int)] else aheadN L (j:Int) k)++[(k:Int)] else (if X.kind≠3∧(j:Int)=X.to then aheadN L (j:Int) k++[(k:Int)] else aheadN L (j:Int) k):=by
     funext j
     by_cases e:(j:Int)=X.els
     ·have e2:j=X.els.toNat:=by omega
      rw[if_pos e2]
      refine Eq.trans ?_ (if_pos ⟨hd',e⟩).symm
      rw[←e2]
     ·rw[if_neg (show ¬j=_ by omega)]
      exact(if_neg (fun h=>e h.2)).symm
    rw[←hfun];exact arN
   ·refine WX.skip ?_
    refine cutK_normal ⟨e06,⟨cells6,?_⟩,o6⟩
    have hfun:(fun j:Nat=>if X.kind≠3∧((j:Nat):Int)=X.to then aheadN L ((j:Nat):Int) k++[(k:Int)] else aheadN L ((j:Nat):Int) k)=fun j:Nat=>if (X.kind=2∧X.els≠X.to)∧(j:Int)=X.els then (if X.kind≠3∧(j:Int)=X.to then aheadN L (j:Int) k++[(k:Int)] else aheadN L (j:Int) k)++[(k:Int)] else (if X.kind≠3∧(j:Int)=X.to then aheadN L (j:Int) k++[(k:Int)] else aheadN L (j:Int) k):=by
     funext j;exact(if_neg (fun h=>hd h.1)).symm
    rw[←hfun];exact ar6
  rintro t8 h8 hs8 ⟨e08,⟨cells8,ar8⟩,o8⟩
  refine go ?_
  refine loopK_normal (k+1) (by omega) ⟨sln,by omega,e08,cells8,?_⟩
  have hfun:(fun j:Nat=>if (X.kind=2∧X.els≠X.to)∧(j:Int)=X.els then (if X.kind≠3∧(j:Int)=X.to then aheadN L (j:Int) k++[(k:Int)] else aheadN L (j:Int) k)++[(k:Int)] else (if X.kind≠3∧(j:Int)=X.to then aheadN L (j:Int) k++[(k:Int)] else aheadN L (j:Int) k))=fun j:Nat=>aheadN L (j:Int) (k+1):=by
   funext j
   rw[hsucc j]
   have:=hnx j
   by_cases c1:X.kind≠3∧(j:Int)=X.to
   ·rw[if_neg (fun h=>h.1.2 (h.2.symm.trans c1.2)),if_pos c1,if_pos (this.2 (.inl c1))]
   ·by_cases c2:(X.kind=2∧X.els≠X.to)∧(j:Int)=X.els
    ·rw[if_pos c2,if_neg c1,if_pos (this.2 (.inr c2))]
    ·rw[if_neg c2,if_neg c1,if_neg (fun h=>(this.1 h).elim c1 c2)]
  rw[←hfun];exact ar8
 ·have hkk:k=L.length:=by omega
  subst hkk
  have oc:=ar.own
  refine go ?_
  refine WO.ldAll oc ar.len ?_
  refine WO.stC0 (cs:=cells) oc e3 ?_ (hn:=ar.len) (hl:=ar.len) (h1:=ar.one)
  intro h6 e6 o6 u6
  have ar6:=ar.updC o6 u6
  refine go ?_
  refine rt ?_ (Res.consA sl_ o6 (cut_all ar.len) Res.nil)
  exact⟨⟨cells,rfl,ar.len,ar6.all⟩,e6⟩
end Go.Proofs.YtdcgdfbblnljjaaDoor
namespace Go.Proofs.YtdcgdfbblnljjaaDoor
open Go.Am
set_option linter.unusedVariables false
set_option linter.unusedSimpArgs false
set_option maxHeartbeats 1000000
abbrev pO (xs:List Int) (b:Int):Int:=xs.getD b.toNat 0
abbrev qO (xs:List Int) (b:Int):Int:=xs.getD (16+b.toNat) 0
structure Dm (nx:Int→List Int) (xs:List Int):Prop where
 len:xs.length=32
 rpo:Rpo nx (fun b=>qO xs b)
 rl:Rl nx (fun b=>qO xs b) (fun b=>pO xs b)
 bnd:∀ b,Way nx 0 b→0≤b∧b<16
noncomputable def body41_0:ACode:=(.seq (.seq (.regionC [(⟨some 10,none,(.mov (.tmp 0))⟩,[]),(⟨some 11,none,(.mov (.tmp 1))⟩,[]),(⟨some 12,none,(.nilCheck (.tmp 10))⟩,[]),(⟨some 13,none,(.fld 16 (.tmp 12))⟩,[]),(⟨some 14,none,(.idxArr 16 1 (.tmp 13) (.tmp 11))⟩,[]),(⟨some 15,none,(.load false 1 (.tmp 14))⟩,[]),(⟨some 16,none,(.mov (.tmp 0))⟩,[]),(⟨some 17,none,(.mov (.tmp 2))⟩,[]),(⟨some 18,none,(.nilCheck (.tmp 16))⟩,[]),(⟨some 19,none,(.fld 16 (.tmp 18))⟩,[]),(⟨some 20,none,(.idxArr 16 1 (.tmp 19) (.tmp 17))⟩,[]),(⟨some 21,none,(.load false 1 (.tmp 20))⟩,[]),(⟨some 22,none,(.bin .gtr (.tmp 15) (.tmp 21))⟩,[])]) (.cond (.tmp 22) .skip (.exit 2))) (.block 3 (.region [⟨some 23,none,(.mov (.tmp 0))⟩,⟨some 24,none,(.mov (.tmp 1))⟩,⟨some 25,none,(.nilCheck (.tmp 23))⟩,⟨some 26,none,(.fld 0 (.tmp 25))⟩,⟨some 27,none,(.idxArr 16 1 (.tmp 26) (.tmp 24))⟩,⟨some 28,none,(.load false 1 (.tmp 27))⟩,⟨some 1,none,(.mov (.tmp 28))⟩])))
noncomputable def body41_1:ACode:=(.seq (.seq (.regionC [(⟨some 29,none,(.mov (.tmp 0))⟩,[]),(⟨some 30,none,(.mov (.tmp 2))⟩,[]),(⟨some 31,none,(.nilCheck (.tmp 29))⟩,[]),(⟨some 32,none,(.fld 16 (.tmp 31))⟩,[]),(⟨some 33,none,(.idxArr 16 1 (.tmp 32) (.tmp 30))⟩,[]),(⟨some 34,none,(.load false 1 (.tmp 33))⟩,[]),(⟨some 35,none,(.mov (.tmp 0))⟩,[]),(⟨some 36,none,(.mov (.tmp 1))⟩,[]),(⟨some 37,none,(.nilCheck (.tmp 35))⟩,[]),(⟨some 38,none,(.fld 16 (.tmp 37))⟩,[]),(⟨some 39,none,(.idxArr 16 1 (.tmp 38) (.tmp 36))⟩,[]),(⟨some 40,none,(.load false 1 (.tmp 39))⟩,[]),(⟨some 41,none,(.bin .gtr (.tmp 34) (.tmp 40))⟩,[])]) (.cond (.tmp 41) .skip (.exit 4))) (.block 5 (.region [⟨some 42,none,(.mov (.tmp 0))⟩,⟨some 43,none,(.mov (.tmp 2))⟩,⟨some 44,none,(.nilCheck (.tmp 42))⟩,⟨some 45,none,(.fld 0 (.tmp 44))⟩,⟨some 46,none,(.idxArr 16 1 (.tmp 45) (.tmp 43))⟩,⟨some 47,none,(.load false 1 (.tmp 46))⟩,⟨some 2,none,(.mov (.tmp 47))⟩])))
noncomputable def body41_2:ACode:=(.seq (.seq (.region [⟨some 7,none,(.mov (.tmp 1))⟩,⟨some 8,none,(.mov (.tmp 2))⟩,⟨some 9,none,(.bin .neq (.tmp 7) (.tmp 8))⟩]) (.cond (.tmp 9) .skip (.exit 0))) (.block 1 (.seq (.block 2 (.loop body41_0)) (.block 4 (.loop body41_1)))))
noncomputable def body41:ACode:=(.seq (.region [⟨some 6,none,(.mov (.const (.int .i64 0)))⟩]) (.seq (.block 0 (.loop body41_2)) (.seq (.region [⟨some 48,none,(.mov (.tmp 1))⟩,⟨some 6,none,(.mov (.tmp 48))⟩]) .ret)))
set_option maxRecDepth 100000 in
theorem tab41:tb.code 41=some ⟨49,[(6,none)],body41⟩:=by kernel_rfl
theorem meet_ok (hA h:AHeap) (p:Value) (nx:Int→List Int) (xs:List Int) (a b:Int) (o:OwnC hA h p (xs.map I)) (dm:Hid (Dm nx xs)) (wa:Way nx 0 a) (wb:Way nx 0 b) (pa:pO xs a≠ -1) (pb:pO xs b≠ -1):
  WC Tryd.prog tb 41 [p,I a,I b] h fun r h'=>(∃ m,r=I m∧Mt nx (fun b=>qO xs b) (fun b=>pO xs b) a b m)∧h=h':=by
 obtain⟨g,rfl⟩:∃ g,p= .pointer (some ⟨g,0,none⟩):=let ⟨g,_,_,e,_⟩:=o;⟨g,e⟩
 have hl:=dm.out.len
 refine WC.of (nostub 41) tab41 ?_;simp only[mkTm,Nat.zero_add,Nat.reduceAdd]
 refine go ?_
 refine WX.loopA [7,8,9,10,11,12,13,14,15,16,17,18,19,20,21,22,23,24,25,26,27,28,1,29,30,31,32,33,34,35,36,37,38,39,40,41,42,43,44,45,46,47,2] (by kernel_rfl) (fun x=>(qO xs x.1).toNat+(qO xs x.2).toNat) (fun (x:Int×Int) t h1=>h=h1∧tmGet t 1=I x.1∧tmGet t 2=I x.2∧Way nx 0 x.1∧Way nx 0 x.2∧pO xs x.1≠ -1∧pO xs x.2≠ -1∧Hid (∀ m,Mt nx (fun b=>qO xs b) (fun b=>pO xs b) x.1 x.2 m→Mt nx (fun b=>qO xs b) (fun b=>pO xs b) a b m)) (a,b) ?_ ?_
 ·exact⟨rfl,sl_,sl_,wa,wb,pa,pb,⟨fun m h=>h⟩⟩
 rintro⟨c,d⟩ t _ hsame ⟨rfl,s1,s2,wc,wd,pc,pd,hm⟩
 simp only at s1 s2 wc wd pc pd hm
 have bc:=dm.out.bnd c wc
 have bd:=dm.out.bnd d wd
 refine go ?_
 refine WX.br (fun he=> ?_) (fun he=> ?_)<;>simp only[DB]at he
 case refine_2=>
  subst he
  refine go ?_
  refine rt ?_
  exact⟨⟨c,rfl,hm.out c (Mt.same wc pc)⟩,rfl⟩
 have hne:qO xs c≠qO xs d:=fun e=>he (dm.out.rpo.inj c d wc wd e)
 have nc:=dm.out.rpo.nn c wc
 have nd:=dm.out.rpo.nn d wd
 try simp only at nc nd
 refine go ?_
 refine WX.loopA [10,11,12,13,14,15,16,17,18,19,20,21,22,23,24,25,26,27,28,1] (by kernel_rfl) (fun x=>(qO xs x).toNat) (fun (x:Int) t h1=>h=h1∧tmGet t 1=I x∧Way nx 0 x∧pO xs x≠ -1∧(qO xs x≤qO xs c∧0≤qO xs x)∧Hid (∀ m,Mt nx (fun b=>qO xs b) (fun b=>pO xs b) x d m→Mt nx (fun b=>qO xs b) (fun b=>pO xs b) a b m)) c ?_ ?_
 ·exact⟨rfl,sl_,wc,pc,⟨Int.le_refl _,nc⟩,hm⟩
 rintro x t _ hsame2 ⟨rfl,s1,wx,px,hx,hmx⟩
 have bx:=dm.out.bnd x wx
 refine go ?_
 refine WX.br (fun hf=> ?_) (fun hf=> ?_)<;>simp only[DB]at hf
 ·have hx0:x≠0:=fun e=>by subst e;have:=dm.out.rpo.zero;have hf2:qO xs d<qO xs 0:=hf;omega
  obtain⟨u1,u2,u3⟩:=dm.out.rl.up x wx hx0 px
  have nu:=dm.out.rpo.nn _ u1
  try simp only at u2 u3 nu
  refine go ?_
  exact loopK_normal (pO xs x) (by omega) ⟨rfl,sl_,u1,u2,⟨by omega,nu⟩,⟨fun m h=>hmx.out m (Mt.stepL dm.out.rpo dm.out.rl wx wd px hf h)⟩⟩
 refine go ?_
 refine WX.loopA [29,30,31,32,33,34,35,36,37,38,39,40,41,42,43,44,45,46,47,2] (by kernel_rfl) (fun y=>(qO xs y).toNat) (fun (y:Int) t h1=>h=h1∧tmGet t 2=I y∧Way nx 0 y∧pO xs y≠ -1∧(qO xs y≤qO xs d∧0≤qO xs y)∧Hid (∀ m,Mt nx (fun b=>qO xs b) (fun b=>pO xs b) x y m→Mt nx (fun b=>qO xs b) (fun b=>pO xs b) a b m)) d ?_ ?_
 ·exact⟨rfl,sl_,wd,pd,⟨Int.le_refl _,nd⟩,hmx⟩
 rintro y t _ hsame3 ⟨rfl,s2,wy,py,hy,hmy⟩
 have bY:=dm.out.bnd y wy
 refine go ?_
 refine WX.br (fun hg=> ?_) (fun hg=> ?_)<;>simp only[DB]at hg
 ·have hy0:y≠0:=fun e=>by subst e;have:=dm.out.rpo.zero;have hg2:qO xs x<qO xs 0:=hg;omega
  obtain⟨u1,u2,u3⟩:=dm.out.rl.up y wy hy0 py
  have nu:=dm.out.rpo.nn _ u1
  try simp only at u2 u3 nu
  refine go ?_
  exact loopK_normal (pO xs y) (by omega) ⟨rfl,sl_,u1,u2,⟨by omega,nu⟩,⟨fun m h=>hmy.out m (Mt.stepR dm.out.rpo dm.out.rl wx wy py hg h)⟩⟩
 refine go ?_
 have key:∀ (C D X Y:Int),C≠D→0≤X→X≤C→0≤Y→Y≤D→X≤D→Y≤X→X.toNat+Y.toNat<C.toNat+D.toNat:=by intros;omega
 exact loopK_normal (x,y) (key _ _ _ _ hne hx.2 hx.1 hy.2 hy.1 hf hg) ⟨rfl,sl_,sl_,wx,wy,px,py,hmy⟩
noncomputable def body22_0:ACode:=(.seq (.seq (.region [⟨some 7,none,(.mov (.tmp 2))⟩,⟨some 8,none,(.mov (.tmp 1))⟩,⟨some 9,none,(.bin .neq (.tmp 7) (.tmp 8))⟩,⟨some 10,none,(.mov (.tmp 9))⟩,⟨some 11,some (10,true),(.mov (.tmp 2))⟩,⟨some 12,some (10,true),(.mov (.tmp 0))⟩,⟨some 13,some (10,true),(.mov (.tmp 2))⟩,⟨some 14,some (10,true),(.nilCheck (.tmp 12))⟩,⟨some 15,some (10,true),(.fld 0 (.tmp 14))⟩,⟨some 16,some (10,true),(.idxArr 16 1 (.tmp 15) (.tmp 13))⟩,⟨some 17,some (10,true),(.load false 1 (.tmp 16))⟩,⟨some 18,some (10,true),(.bin .neq (.tmp 11) (.tmp 17))⟩,⟨some 19,none,(.pick (.tmp 10) (.tmp 18) (.const (.bool false)))⟩]) (.cond (.tmp 19) .skip (.exit 0))) (.block 1 (.region [⟨some 20,none,(.mov (.tmp 0))⟩,⟨some 21,none,(.mov (.tmp 2))⟩,⟨some 22,none,(.nilCheck (.tmp 20))⟩,⟨some 23,none,(.fld 0 (.tmp 22))⟩,⟨some 24,none,(.idxArr 16 1 (.tmp 23) (.tmp 21))⟩,⟨some 25,none,(.load false 1 (.tmp 24))⟩,⟨some 2,none,(.mov (.tmp 25))⟩])))
noncomputable def body22:ACode:=(.seq (.region [⟨some 6,none,(.mov (.const (.bool false)))⟩]) (.seq (.block 0 (.loop body22_0)) (.seq (.region [⟨some 26,none,(.mov (.tmp 1))⟩,⟨some 27,none,(.mov (.tmp 2))⟩,⟨some 28,none,(.bin .eql (.tmp 26) (.tmp 27))⟩,⟨some 6,none,(.mov (.tmp 28))⟩]) .ret)))
set_option maxRecDepth 100000 in
theorem tab22:tb.code 22=some ⟨29,[(6,none)],body22⟩:=by kernel_rfl
theorem drules_ok (hA h:AHeap) (p:Value) (nx:Int→List Int) (xs:List Int) (a b:Int) (o:OwnC hA h p (xs.map I)) (dm:Hid (Dm nx xs)) (wb:Way nx 0 b) (hall:Hid (∀ b,Way nx 0 b→pO xs b≠ -1)):
  WC Tryd.prog tb 22 [p,I a,I b] h fun r h'=>(∃ bb,r= .bool bb∧(bb=true↔Anc (fun b=>pO xs b) a b))∧h=h':=by
 obtain⟨g,rfl⟩:∃ g,p= .pointer (some ⟨g,0,none⟩):=let ⟨g,_,_,e,_⟩:=o;⟨g,e⟩
 have hl:=dm.out.len
 refine WC.of (nostub 22) tab22 ?_;simp only[mkTm,Nat.zero_add,Nat.reduceAdd]
 refine go ?_
 refine WX.loopA [7,8,9,10,11,12,13,14,15,16,17,18,19,20,21,22,23,24,25,2] (by kernel_rfl) (fun x=>(qO xs x).toNat) (fun (x:Int) t h1=>h=h1∧tmGet t 2=I x∧Way nx 0 x∧Hid (Anc (fun b=>pO xs b) a b↔Anc (fun b=>pO xs b) a x)) b ?_ ?_
 ·exact⟨rfl,sl_,wb,⟨Iff.rfl⟩⟩
 rintro x t _ hsame ⟨rfl,s2,wx,hx⟩
 have bx:=dm.out.bnd x wx
 have px:=hall.out x wx
 refine go ?_
 by_cases hxa:x=a
 ·refine go ?_
  refine rt ?_
  exact⟨⟨_,rfl,by rw[hx.out,←hxa];simp;exact .here⟩,rfl⟩
 by_cases hx0:x=0
 ·have hz:=dm.out.rl.zero
  try simp only at hz
  have hxe:pO xs x=x:=by rw[hx0];exact hz
  have hxn:(x=pO xs x):=hxe.symm
  refine go ?_
  refine rt ?_
  refine⟨⟨_,rfl,?_⟩,rfl⟩
  rw[hx.out,decide_eq_true_iff]
  constructor
  ·intro e;exact absurd e.symm hxa
  ·intro h;rw[hx0]at h;have:=Anc.zero h;exact absurd (hx0.trans this.symm) hxa
 obtain⟨u1,u2,u3⟩:=dm.out.rl.up x wx hx0 px
 have nu:=dm.out.rpo.nn _ u1
 try simp only at u2 u3 nu
 have hxp:¬(x=pO xs x):=fun e=>by rw[←e]at u3;omega
 refine go ?_
 refine loopK_normal (pO xs x) (by omega) ⟨rfl,sl_,u1,⟨hx.out.trans ⟨fun h=> ?_,fun h=> .up hx0 px h⟩⟩⟩
 cases h with
 |here=>exact absurd rfl hxa
 |up _ _ h=>exact h
end Go.Proofs.YtdcgdfbblnljjaaDoor
namespace Go.Proofs.YtdcgdfbblnljjaaDoor
open Go.Am
set_option linter.unusedVariables false
set_option linter.unusedSimpArgs false
def ParL (nx:Int→List Int) (e:List Int) (S:Int→Prop):Prop:=∀ e1 u e2,e=e1++u::e2→S u∨∃ a∈e2,u∈nx a
theorem ParL.nil {nx:Int→List Int} {S:Int→Prop}:ParL nx [] S:=fun e1 u e2 h=>by cases e1<;>cases h
theorem ParL.append {nx:Int→List Int} {e f:List Int} {S:Int→Prop} (h:ParL nx e S) (k:ParL nx f S):ParL nx (e++f) S:=by
 intro e1 u e2 he
 rcases List.append_eq_append_iff.1 he with ⟨a,h1,h2⟩|⟨a,h1,h2⟩
 ·exact k a u e2 h2
 ·cases a with
  |nil=>exact k [] u e2 (by simpa using h2.symm)
  |cons x a=>
   simp only[List.cons_append,List.cons.injEq]at h2
   obtain⟨rfl,rfl⟩:=h2
   rcases h e1 u a h1 with h|⟨b,hb,hu⟩
   ·exact .inl h
   ·exact .inr ⟨b,by simp[hb],hu⟩
theorem dfs_par {nx:Int→List Int}:∀ (n:Nat) (b:Int) (s:DS),∃ e,(dfsB nx n b s).2=s.2++e∧ParL nx e (fun u=>u=b):=by
 intro n
 induction n with
 |zero=>intro b s;exact⟨[],by simp[dfsB],ParL.nil⟩
 |succ n ih=>
  intro b s
  by_cases hbb:(s.1.lookup b).isSome
  ·rw[dfsB_some hbb];exact⟨[],by simp,ParL.nil⟩
  ·have go:∀ (l:List Int) (t:DS),(∀ c∈l,c∈nx b)→∃ e,(l.foldl (fun (t:DS) (c:Int)=>dfsB nx n c t) t).2=t.2++e∧ParL nx e (fun u=>u∈nx b):=by
    intro l
    induction l with
    |nil=>intro t _;exact⟨[],by simp,ParL.nil⟩
    |cons x l ihl=>
     intro t hl
     obtain⟨e,h1,h2⟩:=ih x t
     obtain⟨f,h3,h4⟩:=ihl (dfsB nx n x t) (fun c hc=>hl c (by simp[hc]))
     refine⟨e++f,by rw[List.foldl_cons,h3,h1,List.append_assoc],ParL.append (fun e1 u e2 he=> ?_) h4⟩
     rcases h2 e1 u e2 he with h|h
     ·rw[h];exact .inl (hl x (by simp))
     ·exact .inr h
   obtain⟨e,h1,h2⟩:=go (nx b) (s.1++[(b,(s.1.length:Int))],s.2) (fun c hc=>hc)
   refine⟨e++[b],?_,fun e1 u e2 he=> ?_⟩
   ·conv=>lhs;unfold dfsB
    rw[if_neg hbb]
    simp only
    rw[h1,List.append_assoc]
   ·rcases List.eq_nil_or_concat e2 with rfl|⟨e3,x,rfl⟩
    ·obtain⟨_,h5⟩:=List.append_inj' (s₁:=e) (t₁:=[b]) (s₂:=e1) (t₂:=[u]) he rfl
     cases h5;exact .inl rfl
    ·have he':e++[b]=(e1++u::e3)++[x]:=by rw[he];simp
     obtain⟨h5,h6⟩:=List.append_inj' he' rfl
     cases h6
     rcases h2 e1 u e3 h5 with h|⟨a,ha,hu⟩
     ·exact .inr ⟨b,by simp,h⟩
     ·exact .inr ⟨a,by simp[ha],hu⟩
theorem order_par {T:List LType} {F:List LFn} {f:Int} (h:(blocksL T F f 0).2=0):∀ i,i<(OrderL T F f).1.length→(OrderL T F f).1.getD i 0≠0→∃ j,j<i∧(OrderL T F f).1.getD i 0∈nxL (blocksL T F f 0).1 ((OrderL T F f).1.getD j 0):=by
 intro i hi hne
 have eO:(OrderL T F f).1=(postL T F f).reverse:=by unfold OrderL;rw[if_neg (by rw[h];exact fun e=>e rfl)]
 obtain⟨e,h1,h2⟩:=dfs_par (nx:=nxL (blocksL T F f 0).1) (blocksL T F f 0).1.length 0 ([],[])
 have eP:postL T F f=e:=by
  have:postL T F f=(dfsB (nxL (blocksL T F f 0).1) (blocksL T F f 0).1.length 0 ([],[])).2:=rfl
  rw[this,h1];rfl
 rw[eO,eP]at hi hne ⊢
 rw[List.length_reverse]at hi
 have ei:∀ k,k<e.length→e.reverse.getD k 0=e.getD (e.length - 1 - k) 0:=fun k hk=>by
  rw[List.getD_eq_getElem?_getD,List.getElem?_reverse hk,List.getD_eq_getElem?_getD]
 have hi2:e.length - 1 - i<e.length:=by omega
 have hsplit:e=e.take (e.length - 1 - i)++e.getD (e.length - 1 - i) 0::e.drop (e.length - 1 - i+1):=by
  conv=>lhs;rw[←List.take_append_drop (e.length - 1 - i) e,List.drop_eq_getElem_cons hi2]
  simp[List.getD,List.getElem?_eq_getElem hi2]
 rw[ei i hi]at hne ⊢
 rcases h2 _ _ _ hsplit with h3|⟨a,ha,hu⟩
 ·exact absurd h3 hne
 ·obtain⟨m,hm,hma⟩:=List.mem_iff_getElem.1 ha
  rw[List.length_drop]at hm
  rw[List.getElem_drop]at hma
  refine⟨e.length - 1 - (e.length - 1 - i+1+m),by omega,?_⟩
  rw[ei _ (by omega)]
  have:e.getD (e.length - 1 - (e.length - 1 - (e.length - 1 - i+1+m))) 0=a:=by
   rw[show e.length - 1 - (e.length - 1 - (e.length - 1 - i+1+m))=e.length - 1 - i+1+m by omega,←hma]
   simp[List.getD,List.getElem?_eq_getElem (show e.length - 1 - i+1+m<e.length by omega)]
  rw[this];exact hu
theorem ends_ok {T:List LType} {n:Int} {f:LFn} (h:fnL T n f=true):EndsOk f.blocks:=by
 refine⟨(ends_in h).1,fun k hk=> ?_⟩
 unfold fnL at h
 split at h
 ·cases h
 ·rw[Bool.not_eq_true',List.any_eq_false]at h
  have hmem:=getD_memR (l:=f.blocks) (i:=k) hk
  have hblk:=h _ hmem
  unfold blkL at hblk
  simp only[Bool.or_eq_true,not_or,Bool.not_eq_true,Bool.not_eq_false']at hblk
  have he:endL (f.blocks.getD k default).fin (szL T n f)=true:=by simpa using hblk.2
  unfold endL belowL szL at he
  split at he
  ·rename_i hk1
   simp only[Bool.and_eq_true,decide_eq_true_eq]at he
   refine⟨.inl hk1,fun _=>by omega,fun h2=>by omega⟩
  ·rename_i hk1
   split at he
   ·rename_i hk2
    simp only[Bool.and_eq_true,decide_eq_true_eq]at he
    exact⟨.inr (.inl hk2),fun _=>by omega,fun _=>by omega⟩
   ·rename_i hk2
    split at he
    ·rename_i hk3
     exact⟨.inr (.inr hk3),fun h=>by omega,fun h=>by omega⟩
    ·cases he
theorem blocks_ends {T:List LType} {F:List LFn} {f b:Int} (h:(blocksL T F f b).2=0):EndsOk (blocksL T F f b).1:=by
 obtain⟨_,_,h3,h4⟩:=blocks_in h
 have hin:=regs_in h4
 rw[h3]
 exact ends_ok ((prog_sig hin.2.2).2.2.2 _ (getD_memR (l:=F) (i:=f.toNat) (by omega)))
theorem order_rpo {T:List LType} {F:List LFn} {f:Int} (h:(blocksL T F f 0).2=0) {pos:Int→Int} (hp:∀ i,i<(OrderL T F f).1.length→pos ((OrderL T F f).1.getD i 0)=i):Rpo (nxL (blocksL T F f 0).1) pos:=by
 obtain⟨law1,law2,⟨l,law3⟩,law4,law5,law6,law7⟩:=order_law h
 have hpar:=order_par h
 have hmem:∀ b,Way (nxL (blocksL T F f 0).1) 0 b→∃ i,i<(OrderL T F f).1.length∧(OrderL T F f).1.getD i 0=b:=fun b w=>mem_getD (law4 b ((mem_reach h).2 w))
 have hw:∀ i,i<(OrderL T F f).1.length→Way (nxL (blocksL T F f 0).1) 0 ((OrderL T F f).1.getD i 0):=fun i=>by
  induction i using Nat.strongRecOn with
  |_ i ih=>
   intro hi
   by_cases e:(OrderL T F f).1.getD i 0=0
   ·rw[e];exact .here
   ·obtain⟨j,hj,hm⟩:=hpar i hi e
    exact .step (ih j hj (by omega)) hm
 refine⟨?_,fun b w=> ?_,fun a b wa wb e=> ?_,fun b w hb=> ?_⟩
 ·have:=hp 0 (by rw[law3];simp)
  rw[show (OrderL T F f).1.getD 0 0=0 by rw[law3];rfl]at this
  exact this
 ·obtain⟨i,hi,rfl⟩:=hmem b w
  rw[hp i hi];omega
 ·obtain⟨i,hi,rfl⟩:=hmem a wa
  obtain⟨j,hj,rfl⟩:=hmem b wb
  rw[hp i hi,hp j hj]at e
  have:i=j:=by omega
  rw[this]
 ·obtain⟨i,hi,rfl⟩:=hmem b w
  obtain⟨j,hj,hm⟩:=hpar i hi hb
  exact⟨_,hw j (by omega),hm,by rw[hp i hi,hp j (by omega)];omega⟩
end Go.Proofs.YtdcgdfbblnljjaaDoor
namespace Go.Proofs.YtdcgdfbblnljjaaDoor
open Go.Am
set_option linter.unusedVariables false
set_option linter.unusedSimpArgs false
theorem order_nodup {T:List LType} {F:List LFn} {f:Int} (h:(blocksL T F f 0).2=0):(OrderL T F f).1.Nodup:=by
 obtain⟨_,hpos,_,_⟩:=blocks_in h
 obtain⟨hlen,hin⟩:=blocks_nx h
 obtain⟨nd,_,_⟩:=post_ord hin (a:=0) ⟨Int.le_refl _,hpos⟩
 unfold OrderL
 rw[if_neg (by rw[h];exact fun e=>e rfl)]
 simp only
 exact(List.reverse_perm _).nodup_iff.2 nd
theorem nodup_getD {l:List Int} (h:l.Nodup) {i j:Nat} (hi:i<l.length) (hj:j<l.length) (e:l.getD i 0=l.getD j 0):i=j:=by
 simp only[List.getD,List.getElem?_eq_getElem hi,List.getElem?_eq_getElem hj,Option.getD_some]at e
 exact(List.getElem_inj h).1 e
theorem getD_setN {xs:List Int} {i:Nat} {v:Int} {k:Nat} (hi:i<xs.length):(xs.set i v).getD k 0=if k=i then v else xs.getD k 0:=getD_setI hi
structure Rnd (nx:Int→List Int) (qs xs:List Int) (k:Nat):Prop where
 dm:Dm nx xs
 qs:xs.drop 16=qs
 far:∀ c,Far nx (fun b=>pO xs b) k c
 un:∀ c,0≤c→c<16→¬Way nx 0 c→pO xs c= -1
 all:1≤k→∀ c,Way nx 0 c→pO xs c≠ -1
structure Md (nx:Int→List Int) (O qs xs0 xs:List Int) (k m:Nat):Prop where
 dm:Dm nx xs
 qs:xs.drop 16=qs
 far:∀ c,Far nx (fun b=>pO xs b) k c
 un:∀ c,0≤c→c<16→¬Way nx 0 c→pO xs c= -1
 pre:∀ i,i<m→Far nx (fun b=>pO xs b) (k+1) (O.getD i 0)∧pO xs (O.getD i 0)≠ -1
 same:∀ j:Nat,j<16→(∀ i,i<m→i≠0→O.getD i 0≠(j:Int))→xs.getD j 0=xs0.getD j 0
 fix:xs=xs0→∀ i,i<m→i≠0→∀ a,Way nx 0 a→O.getD i 0∈nx a→pO xs a≠ -1→Anc (fun b=>pO xs b) (pO xs (O.getD i 0)) a
theorem far_zero {nx:Int→List Int} {p:Int→Int} {k:Nat} (h:p 0=0):Far nx p k 0:=fun x hx=>
 ⟨by rw[h];decide,fun ha=>hx.ne (Anc.zero ha).symm⟩
theorem pO_set {xs:List Int} {b v:Int} (hl:xs.length=32) (hb:0<b∧b<16):(fun c=>pO (xs.set b.toNat v) c)=upd (fun c=>pO xs c) b v:=by
 funext c
 unfold upd
 show (xs.set b.toNat v).getD c.toNat 0=_
 rw[getD_setN (by omega)]
 by_cases e:c=b
 ·rw[if_pos (by rw[e]),if_pos e]
 ·rw[if_neg (by omega),if_neg e]
theorem qO_set {xs:List Int} {b v:Int} (hl:xs.length=32) (hb:0<b∧b<16):(fun c=>qO (xs.set b.toNat v) c)=fun c=>qO xs c:=by
 funext c
 show (xs.set b.toNat v).getD (16+c.toNat) 0=_
 rw[getD_setN (by omega),if_neg (by omega)]
theorem set_drop {xs:List Int} {b v:Int} (hb:0<b∧b<16):(xs.set b.toNat v).drop 16=xs.drop 16:=by
 rw[List.drop_set,if_pos (by omega)]
theorem Md.start {nx:Int→List Int} {O qs xs:List Int} {k:Nat} (r:Rnd nx qs xs k) (h0:O.getD 0 0=0):Md nx O qs xs xs k 1 where
 dm:=r.dm
 qs:=r.qs
 far:=r.far
 un:=r.un
 pre:=fun i hi=>by
  have:i=0:=by omega
  subst this
  rw[h0]
  have hz:=r.dm.rl.zero
  exact⟨far_zero hz,by show pO xs 0≠ -1;have hz':pO xs 0=0:=hz;rw[hz'];decide⟩
 same:=fun j _ _=>rfl
 fix:=fun _ i hi hi0=>by omega
theorem Md.step {nx:Int→List Int} {O qs xs0 xs:List Int} {k m:Nat} {v:Int} (g:Md nx O qs xs0 xs k m) (hnd:O.Nodup) (hm:m<O.length) (hm0:0<m) (hb0:O.getD m 0≠0) (hw:Way nx 0 (O.getD m 0)) (bt:Best nx (fun b=>qO xs b) (fun b=>pO xs b) (O.getD m 0) v) (hl0:xs0.length=32):Md nx O qs xs0 (xs.set (O.getD m 0).toNat v) k (m+1):=by
 have hl:=g.dm.len
 have hbb:=g.dm.bnd _ hw
 have hb:0<O.getD m 0∧O.getD m 0<16:=by omega
 have hv:v≠ -1:=fun e=>by have:=g.dm.bnd _ bt.way;omega
 have ep:=pO_set (v:=v) hl hb
 have eq:=qO_set (v:=v) hl hb
 have hrl:=upd_up g.dm.rl hb0 hw bt hv
 have hother:∀ i,i<m→O.getD i 0≠O.getD m 0:=fun i hi e=>by have:=nodup_getD hnd (by omega) hm e;omega
 refine⟨⟨by rw[List.length_set];exact hl,by rw[eq];exact g.dm.rpo,by rw[eq,ep];exact hrl,g.dm.bnd⟩,by rw[set_drop hb];exact g.qs,by rw[ep];exact far_upd0 g.dm.rl hb0 hw bt hv g.far,fun c h1 h2 h3=> ?_,fun i hi=> ?_,fun j hj hn=> ?_,fun he i hi hi0 a wa ha pa=> ?_⟩
 ·have:pO (xs.set (O.getD m 0).toNat v) c=upd (fun c=>pO xs c) (O.getD m 0) v c:=congrFun ep c
  rw[this];unfold upd
  rw[if_neg (fun e=>h3 (by rw[e];exact hw))]
  exact g.un c h1 h2 h3
 ·have hp:pO (xs.set (O.getD m 0).toNat v) (O.getD i 0)=upd (fun c=>pO xs c) (O.getD m 0) v (O.getD i 0):=congrFun ep _
  rw[hp,ep]
  by_cases e:i=m
  ·subst e
   exact⟨far_self g.dm.rl hb0 hw bt hv g.far,by unfold upd;rw[if_pos rfl];exact hv⟩
  ·obtain⟨f1,f2⟩:=g.pre i (by omega)
   exact⟨far_upd g.dm.rl hb0 hw bt hv g.far f1,by unfold upd;rw[if_neg (hother i (by omega))];exact f2⟩
 ·rw[getD_setN (by omega),if_neg (fun e=>hn m (by omega) (by omega) (by omega))]
  exact g.same j hj fun i hi hi0=>hn i (by omega) hi0
 ·have hs:=g.same (O.getD m 0).toNat (by omega) (fun i hi _ e=>hother i hi (by omega))
  have hvs:v=xs.getD (O.getD m 0).toNat 0:=by
   rw[hs,←he,getD_setN (by omega),if_pos rfl]
  have hxx:xs.set (O.getD m 0).toNat v=xs:=by
   refine eq_of_at (by simp) fun j hj=> ?_
   rw[getD_setN (by omega)]
   by_cases e:j=(O.getD m 0).toNat
   ·rw[if_pos e,e];exact hvs
   ·rw[if_neg e]
  rw[hxx]at he pa ⊢
  by_cases e:i=m
  ·subst e
   have hpv:pO xs (O.getD i 0)=v:=hvs.symm
   rw[hpv]
   exact bt.anc a wa ha pa
  ·exact g.fix he i (by omega) hi0 a wa ha pa
theorem Md.done {nx:Int→List Int} {O qs xs0 xs:List Int} {k:Nat} (g:Md nx O qs xs0 xs k O.length) (hmem:∀ c,Way nx 0 c→∃ i,i<O.length∧O.getD i 0=c):Rnd nx qs xs (k+1) where
 dm:=g.dm
 qs:=g.qs
 far:=fun c x hx=>by
  obtain⟨i,hi,rfl⟩:=hmem c hx.way
  exact(g.pre i hi).1 x hx
 un:=g.un
 all:=fun _ c w=>by
  obtain⟨i,hi,rfl⟩:=hmem c w
  exact(g.pre i hi).2
theorem round_same {nx:Int→List Int} {O qs xs0 xs:List Int} {k K N:Nat} (r:Rnd nx qs xs0 k) (g:Md nx O qs xs0 xs k O.length) (hmem:∀ c,Way nx 0 c→∃ i,i<O.length∧O.getD i 0=c) (h0:O.getD 0 0=0) (hN:∀ c,Way nx 0 c→0≤c∧c<(N:Int)) (hK:∀ x b,0≤x∧x<(N:Int)→Av nx x b→Avk nx x K b) (hk:K≤k) (hk1:1≤k) (hl0:xs0.length=32) (hnd:O.Nodup) (hre:∀ i,i<O.length→Way nx 0 (O.getD i 0)):xs=xs0:=by
 have hl:=g.dm.len
 have av:∀ (p:Int→Int),(∀ c,Far nx p k c)→Rl nx (fun b=>qO xs b) p→∀ x c,Av nx x c→¬Anc p x c:=fun p hf hr x c hav ha=>by
  obtain⟨j,hj⟩:=hav
  have wx:=(hr.le ha hj.way).1
  exact(hf c x ((hK x c (hN x wx) ⟨j,hj⟩).mono hk)).2 ha
 have hq:(fun b=>qO xs0 b)=fun b=>qO xs b:=by
  funext b
  have h1:∀ (l:List Int),qO l b=(l.drop 16).getD b.toNat 0:=fun l=>by simp[List.getD]
  rw[h1,h1,r.qs,g.qs]
 have hr0:Rl nx (fun b=>qO xs b) (fun b=>pO xs0 b):=by rw[←hq];exact r.dm.rl
 have rd:=g.done hmem
 refine eq_of_at (by omega) fun j hj=> ?_
 by_cases h16:j<16
 ·by_cases hw:Way nx 0 (j:Int)
  ·by_cases hj0:j=0
   ·exact g.same j h16 fun i hi hi0 e=>hi0 (nodup_getD hnd hi (by omega) (by rw[h0,e,hj0];rfl))
   ·have:=far_unique g.dm.rpo g.dm.rl hr0 (av _ g.far g.dm.rl) (av _ r.far hr0) hw (by omega) (rd.all (by omega) _ hw) (r.all hk1 _ hw)
    simpa [pO]using this
  ·exact g.same j h16 fun i hi hi0 e=>hw (by rw[←e];exact hre i hi)
 ·have h1:=congrArg (fun l=>l.getD (j - 16) 0) (g.qs.trans r.qs.symm)
  simp only[List.getD_eq_getElem?_getD,List.getElem?_drop]at h1 ⊢
  rw[show 16+(j - 16)=j by omega]at h1
  exact h1
end Go.Proofs.YtdcgdfbblnljjaaDoor
namespace Go.Proofs.YtdcgdfbblnljjaaDoor
open Go.Am
set_option linter.unusedVariables false
def Bst (nx:Int→List Int) (xs:List Int) (b:Int) (A:List Int) (j:Nat) (v:Int):Prop:=
 (v= -1∧∀ i,i<j→pO xs (A.getD i 0)= -1)∨
 (v≠ -1∧Way nx 0 v∧pO xs v≠ -1∧(∀ i,i<j→pO xs (A.getD i 0)≠ -1→Anc (fun b=>pO xs b) v (A.getD i 0))∧∀ y,Dom nx y b→y≠b→Dom nx y v)
theorem Bst.skip {nx:Int→List Int} {xs:List Int} {b v:Int} {A:List Int} {j:Nat} (h:Bst nx xs b A j v) (hp:pO xs (A.getD j 0)= -1):Bst nx xs b A (j+1) v:=by
 rcases h with ⟨h1,h2⟩|⟨h0,h1,h2,h3,h4⟩
 ·refine .inl ⟨h1,fun i hi=> ?_⟩
  by_cases e:i=j
  ·rw[e];exact hp
  ·exact h2 i (by omega)
 ·refine .inr ⟨h0,h1,h2,fun i hi hn=> ?_,h4⟩
  by_cases e:i=j
  ·rw[e]at hn;exact absurd hp hn
  ·exact h3 i (by omega) hn
theorem Bst.first {nx:Int→List Int} {xs:List Int} {b:Int} {A:List Int} {j:Nat} (h:Bst nx xs b A j (-1)) (hw:Way nx 0 (A.getD j 0)) (hn0:A.getD j 0≠ -1) (hb:b∈nx (A.getD j 0)) (hp:pO xs (A.getD j 0)≠ -1):Bst nx xs b A (j+1) (A.getD j 0):=by
 rcases h with ⟨_,h2⟩|⟨h0,_⟩
 ·refine .inr ⟨hn0,hw,hp,fun i hi hn=> ?_,fun y hy hyb=>hy.pred hyb hb⟩
  by_cases e:i=j
  ·rw[e];exact .here
  ·exact absurd (h2 i (by omega)) hn
 ·exact absurd rfl h0
theorem Bst.meet {nx:Int→List Int} {xs:List Int} {b v m:Int} {A:List Int} {j:Nat} (h:Bst nx xs b A j v) (hv:v≠ -1) (hm0:m≠ -1) (hb:b∈nx (A.getD j 0)) (hm:Mt nx (fun b=>qO xs b) (fun b=>pO xs b) v (A.getD j 0) m):Bst nx xs b A (j+1) m:=by
 rcases h with ⟨h1,_⟩|⟨h0,h1,h2,h3,h4⟩
 ·exact absurd h1 hv
 ·refine .inr ⟨hm0,hm.way,hm.done,fun i hi hn=> ?_,fun y hy hyb=>hm.dom y (h4 y hy hyb) (hy.pred hyb hb)⟩
  by_cases e:i=j
  ·rw[e];exact hm.right
  ·exact hm.left.trans (h3 i (by omega) hn)
theorem Bst.best {nx:Int→List Int} {xs:List Int} {b v:Int} {A:List Int} (dm:Dm nx xs) (h:Bst nx xs b A A.length v) (hA:∀ a,Way nx 0 a→b∈nx a→∃ i,i<A.length∧A.getD i 0=a) {a:Int} (wa:Way nx 0 a) (ha:b∈nx a) (pa:pO xs a≠ -1) (hlt:qO xs a<qO xs b):Best nx (fun b=>qO xs b) (fun b=>pO xs b) b v:=by
 obtain⟨i,hi,e⟩:=hA a wa ha
 rcases h with ⟨h1,h2⟩|⟨h0,h1,h2,h3,h4⟩
 ·exact absurd (by rw[←e];exact h2 i hi) pa
 ·refine⟨h1,h2,?_,fun c wc hc pc=> ?_,h4⟩
  ·have:=(dm.rl.le (by have:=h3 i hi (by rw[e];exact pa);rw[e]at this;exact this) wa).2.1
   have h5:qO xs v≤qO xs a:=this
   show qO xs v<qO xs b
   omega
  ·obtain⟨i,hi,e⟩:=hA c wc hc
   have:=h3 i hi (by rw[e];exact pc)
   rw[e]at this;exact this
structure Rul (nx:Int→List Int) (xs:List Int):Prop where
 dm:Dm nx xs
 all:∀ b,Way nx 0 b→pO xs b≠ -1
 dom:∀ y b,Way nx 0 b→(Anc (fun b=>pO xs b) y b↔Dom nx y b)
 lt:∀ b,Way nx 0 b→qO xs b<16
 un:∀ c,0≤c→c<16→¬Way nx 0 c→pO xs c= -1
theorem rul_of {nx:Int→List Int} {O qs xs:List Int} {k:Nat} (g:Md nx O qs xs xs k O.length) (hmem:∀ c,Way nx 0 c→∃ i,i<O.length∧O.getD i 0=c) (h0:O.getD 0 0=0) (hq:∀ b,Way nx 0 b→qO xs b<16):Rul nx xs:=by
 have rd:=g.done hmem
 have hall:=rd.all (by omega)
 refine⟨g.dm,hall,fun y b w=>⟨fun ha hav=> ?_,fun hd=>Rl.anc_of_dom g.dm.rpo g.dm.rl (qO xs b).toNat b y (by have h5:=g.dm.rpo.nn b w;have h5:0≤qO xs b:=h5;show qO xs b≤_;omega) w (hall b w) hd⟩,hq,g.un⟩
 obtain⟨n,hav⟩:=hav
 induction hav with
 |here h=>exact h (Anc.zero ha).symm
 |step h1 hc hne ih=>
  rename_i n a c
  cases ha with
  |here=>exact hne rfl
  |up hb hp hu=>
   obtain⟨i,hi,e⟩:=hmem c w
   have hi0:i≠0:=fun e2=>hb (by rw[←e,e2,h0])
   have:=g.fix rfl i hi hi0 a h1.way (by rw[e];exact hc) (hall a h1.way)
   rw[e]at this
   exact ih h1.way (hu.trans this)
theorem own_tail {h0 h:AHeap} {v:Value} {l:List Int} (o:OwnN h0 h v l) (hl:0<l.length):∃ r,sliceA 1 v (some 1) none none=some r∧SlI h r (l.drop 1):=by
 rcases o with ⟨rfl,rfl⟩|⟨g,g1,g2,rfl,g3⟩
 ·simp at hl
 ·refine⟨.slice (some ⟨g,1,none⟩) (l.length - 1) 1,?_,?_⟩
  ·have h1:Nat.ble 1 l.length=true:=Nat.ble_eq_true_of_le hl
   have h2:Nat.ble l.length l.length=true:=Nat.ble_eq_true_of_le (Nat.le_refl _)
   simp[sliceA,h1,h2]
  ·exact⟨by simp,.inr ⟨g,1,l.map I,by simp,rowOf_get g3,by rw[cut_ok (by simp;omega),List.map_drop,List.take_of_length_le (by simp)],g2⟩⟩
theorem own_updC {h0 h h':AHeap} {p q:Value} {cells:List Value} (o:OwnC h0 h q cells) (u:UpdC p h h') (hne:p≠q):OwnC h0 h' q cells:=by
 obtain⟨g,g1,g2,rfl,g3⟩:=o
 exact⟨g,g1,Nat.lt_of_lt_of_le g2 u.1,rfl,(u.2 g g2 hne).trans g3⟩
theorem qO_drop (l:List Int) (b:Int):qO l b=(l.drop 16).getD b.toNat 0:=by simp[qO,List.getD]
theorem eq_halves {xs ys:List Int} (hx:xs.take 16=ys.take 16) (hy:xs.drop 16=ys.drop 16):xs=ys:=by
 rw[←List.take_append_drop 16 xs,hx,hy,List.take_append_drop]
theorem ahead_in {L:List LBlk} {b:Int} {A:List Int} (hA:aheadN L b L.length=A) {j:Nat} (hj:j<A.length):(0≤A.getD j 0∧A.getD j 0<(L.length:Int))∧b∈nxL L (A.getD j 0):=by
 refine mem_aheadN'.1 ?_
 rw[hA,List.getD_eq_getElem?_getD,List.getElem?_eq_getElem hj]
 exact List.getElem_mem hj
end Go.Proofs.YtdcgdfbblnljjaaDoor
namespace Go.Proofs.YtdcgdfbblnljjaaDoor
open Go.Am
set_option linter.unusedVariables false
set_option linter.unusedSimpArgs false
set_option maxHeartbeats 1000000
theorem one_of {hB h:AHeap} {cells:List Value} {A:Nat→List Int} (hl:cells.length=16) (hall:∀ j,j<16→OwnN hB h (cells.getD j undef) (A j)):oneCells cells=true:=by
 unfold oneCells
 rw[List.all_eq_true]
 intro x hx
 obtain⟨j,hj,rfl⟩:=List.mem_iff_getElem.1 hx
 have e:cells.getD j undef=cells[j]:=by simp[List.getD,List.getElem?_eq_getElem hj]
 have:=hall j (by omega)
 rw[e]at this
 rcases this with ⟨h,_⟩|⟨_,_,_,h,_⟩<;>rw[h]
theorem closed_ints (l:List Int):closedD (.agg (l.map I).toArray)=true:=by
 show (l.map I).all closedV=true
 rw[List.all_eq_true]
 intro x hx
 obtain⟨n,_,rfl⟩:=List.mem_map.1 hx
 rfl
noncomputable def body29_0:ACode:=(.seq (.region [⟨some 34,none,(.bin .lss (.tmp 33) (.const (.int .i64 16)))⟩]) (.seq (.cond (.tmp 34) .skip (.exit 0)) (.seq (.block 1 (.seq (.region [⟨some 35,none,(.mov (.tmp 33))⟩,⟨some 9,none,(.mov (.tmp 35))⟩]) (.regionC [(⟨some 36,none,(.mov (.tmp 8))⟩,[]),(⟨some 37,none,(.mov (.tmp 9))⟩,[]),(⟨some 38,none,(.mov (.tmp 8))⟩,[]),(⟨some 39,none,(.mov (.tmp 9))⟩,[]),(⟨some 40,none,(.nilCheck (.tmp 36))⟩,[]),(⟨some 41,none,(.fld 0 (.tmp 40))⟩,[]),(⟨some 42,none,(.idxArr 16 1 (.tmp 41) (.tmp 37))⟩,[]),(⟨none,none,(.store 1 (.tmp 42) (.const (.int .i64 (-1))))⟩,[]),(⟨some 43,none,(.nilCheck (.tmp 38))⟩,[]),(⟨some 44,none,(.fld 16 (.tmp 43))⟩,[]),(⟨some 45,none,(.idxArr 16 1 (.tmp 44) (.tmp 39))⟩,[]),(⟨none,none,(.store 1 (.tmp 45) (.const (.int .i64 (-1))))⟩,[])]))) (.region [⟨some 46,none,(.bin .add (.tmp 33) (.const (.int .i64 1)))⟩,⟨some 33,none,(.mov (.tmp 46))⟩]))))
noncomputable def body29_1:ACode:=(.seq (.region [⟨some 50,none,(.bin .lss (.tmp 49) (.tmp 48))⟩]) (.seq (.cond (.tmp 50) .skip (.exit 2)) (.seq (.block 3 (.seq (.region [⟨some 51,none,(.mov (.tmp 49))⟩,⟨some 52,none,(.idx 1 (.tmp 47) (.tmp 49))⟩,⟨some 53,none,(.load false 1 (.tmp 52))⟩,⟨some 10,none,(.mov (.tmp 51))⟩,⟨some 11,none,(.mov (.tmp 53))⟩]) (.region [⟨some 54,none,(.mov (.tmp 8))⟩,⟨some 55,none,(.mov (.tmp 11))⟩,⟨some 56,none,(.mov (.tmp 10))⟩,⟨some 57,none,(.nilCheck (.tmp 54))⟩,⟨some 58,none,(.fld 16 (.tmp 57))⟩,⟨some 59,none,(.idxArr 16 1 (.tmp 58) (.tmp 55))⟩,⟨none,none,(.store 1 (.tmp 59) (.tmp 56))⟩]))) (.region [⟨some 60,none,(.bin .add (.tmp 49) (.const (.int .i64 1)))⟩,⟨some 49,none,(.mov (.tmp 60))⟩]))))
noncomputable def body29_2:ACode:=(.seq (.region [⟨some 81,none,(.bin .lss (.tmp 80) (.tmp 79))⟩]) (.seq (.cond (.tmp 81) .skip (.exit 8)) (.seq (.block 9 (.seq (.region [⟨some 82,none,(.idx 1 (.tmp 78) (.tmp 80))⟩,⟨some 83,none,(.load false 1 (.tmp 82))⟩,⟨some 17,none,(.mov (.tmp 83))⟩]) (.block 10 (.seq (.region [⟨some 89,none,(.mov (.tmp 8))⟩,⟨some 90,none,(.mov (.tmp 17))⟩,⟨some 91,none,(.nilCheck (.tmp 89))⟩,⟨some 92,none,(.fld 0 (.tmp 91))⟩,⟨some 93,none,(.idxArr 16 1 (.tmp 92) (.tmp 90))⟩,⟨some 94,none,(.load false 1 (.tmp 93))⟩,⟨some 95,none,(.bin .eql (.tmp 94) (.const (.int .i64 (-1))))⟩,⟨some 88,none,(.mov (.tmp 95))⟩]) (.cond (.tmp 88) .skip (.seq (.region [⟨some 97,none,(.mov (.tmp 15))⟩,⟨some 98,none,(.bin .eql (.tmp 97) (.const (.int .i64 (-1))))⟩,⟨some 96,none,(.mov (.tmp 98))⟩]) (.cond (.tmp 96) (.region [⟨some 99,none,(.mov (.tmp 17))⟩,⟨some 15,none,(.mov (.tmp 99))⟩]) (.region [⟨some 84,none,(.mov (.tmp 8))⟩,⟨some 85,none,(.mov (.tmp 15))⟩,⟨some 86,none,(.mov (.tmp 17))⟩,⟨some 87,none,(.call (.func 41) [(.tmp 84),(.tmp 85),(.tmp 86)])⟩,⟨some 15,none,(.mov (.tmp 87))⟩])))))))) (.region [⟨some 100,none,(.bin .add (.tmp 80) (.const (.int .i64 1)))⟩,⟨some 80,none,(.mov (.tmp 100))⟩]))))
noncomputable def body29_3:ACode:=(.seq (.region [⟨some 73,none,(.bin .lss (.tmp 72) (.tmp 71))⟩]) (.seq (.cond (.tmp 73) .skip (.exit 6)) (.seq (.block 7 (.seq (.region [⟨some 74,none,(.idx 1 (.tmp 70) (.tmp 72))⟩,⟨some 75,none,(.load false 1 (.tmp 74))⟩,⟨some 14,none,(.mov (.tmp 75))⟩]) (.seq (.region [⟨some 15,none,(.mov (.const (.int .i64 (-1))))⟩]) (.seq (.seq (.region [⟨some 76,none,(.mov (.tmp 14))⟩,⟨some 77,none,(.idxArr 16 1 (.tmp 7) (.tmp 76))⟩,⟨some 78,none,(.load false 1 (.tmp 77))⟩,⟨some 79,none,(.len (.tmp 78))⟩,⟨some 80,none,(.mov (.const (.int .i64 0)))⟩]) (.block 8 (.loop body29_2))) (.region [⟨some 101,none,(.mov (.tmp 8))⟩,⟨some 102,none,(.mov (.tmp 14))⟩,⟨some 103,none,(.mov (.tmp 15))⟩,⟨some 104,none,(.nilCheck (.tmp 101))⟩,⟨some 105,none,(.fld 0 (.tmp 104))⟩,⟨some 106,none,(.idxArr 16 1 (.tmp 105) (.tmp 102))⟩,⟨none,none,(.store 1 (.tmp 106) (.tmp 103))⟩]))))) (.region [⟨some 107,none,(.bin .add (.tmp 72) (.const (.int .i64 1)))⟩,⟨some 72,none,(.mov (.tmp 107))⟩]))))
noncomputable def body29_4:ACode:=(.block 5 (.seq (.region [⟨some 65,none,(.mov (.tmp 8))⟩,⟨some 66,none,(.nilCheck (.tmp 65))⟩,⟨some 67,none,(.fld 0 (.tmp 66))⟩,⟨some 68,none,(.load true 16 (.tmp 67))⟩,⟨some 12,none,(.alloc [(.int .i64 0),(.int .i64 0),(.int .i64 0),(.int .i64 0),(.int .i64 0),(.int .i64 0),(.int .i64 0),(.int .i64 0),(.int .i64 0),(.int .i64 0),(.int .i64 0),(.int .i64 0),(.int .i64 0),(.int .i64 0),(.int .i64 0),(.int .i64 0)])⟩,⟨none,none,(.store 16 (.tmp 12) (.tmp 68))⟩]) (.seq (.seq (.region [⟨some 69,none,(.mov (.tmp 5))⟩,⟨some 70,none,(.slice 1 (.tmp 69) (some (.const (.int .i64 1))) none none)⟩,⟨some 71,none,(.len (.tmp 70))⟩,⟨some 72,none,(.mov (.const (.int .i64 0)))⟩]) (.block 6 (.loop body29_3))) (.seq (.regionC [(⟨some 108,none,(.load true 16 (.tmp 12))⟩,[]),(⟨some 109,none,(.mov (.tmp 8))⟩,[]),(⟨some 110,none,(.nilCheck (.tmp 109))⟩,[]),(⟨some 111,none,(.fld 0 (.tmp 110))⟩,[]),(⟨some 112,none,(.load true 16 (.tmp 111))⟩,[]),(⟨some 113,none,(.binP .eql 59 (.tmp 108) (.tmp 112))⟩,[])]) (.cond (.tmp 113) (.exit 4) .skip)))))
noncomputable def body29:ACode:=(.seq (.region [⟨some 2,none,(.box (.tmp 0))⟩,⟨some 4,none,(.mov (.const (.pointer none)))⟩]) (.scope (.seq (.region [⟨some 19,none,(.load true 2 (.tmp 2))⟩,⟨some 20,none,(.mov (.tmp 1))⟩,⟨some 21,none,(.call (.func 39) [(.tmp 19),(.tmp 20)])⟩,⟨some 18,none,(.mov (.tmp 21))⟩,⟨some 22,none,(.extract (.tmp 18) 0)⟩,⟨some 23,none,(.extract (.tmp 18) 1)⟩,⟨some 5,none,(.mov (.tmp 22))⟩,⟨some 6,none,(.mov (.tmp 23))⟩]) (.seq (.region [⟨some 24,none,(.fld 1 (.tmp 2))⟩,⟨some 25,none,(.load false 1 (.tmp 24))⟩,⟨some 26,none,(.mov (.tmp 1))⟩,⟨some 27,none,(.idx 2 (.tmp 25) (.tmp 26))⟩,⟨some 28,none,(.fld 1 (.tmp 27))⟩,⟨some 29,none,(.load false 1 (.tmp 28))⟩,⟨some 30,none,(.call (.func 40) [(.tmp 29)])⟩,⟨some 7,none,(.alloc [(.slice none 0 0),(.slice none 0 0),(.slice none 0 0),(.slice none 0 0),(.slice none 0 0),(.slice none 0 0),(.slice none 0 0),(.slice none 0 0),(.slice none 0 0),(.slice none 0 0),(.slice none 0 0),(.slice none 0 0),(.slice none 0 0),(.slice none 0 0),(.slice none 0 0),(.slice none 0 0)])⟩,⟨none,none,(.store 16 (.tmp 7) (.tmp 30))⟩]) (.seq (.region [⟨some 31,none,(.build [(.int .i64 0),(.int .i64 0),(.int .i64 0),(.int .i64 0),(.int .i64 0),(.int .i64 0),(.int .i64 0),(.int .i64 0),(.int .i64 0),(.int .i64 0),(.int .i64 0),(.int .i64 0),(.int .i64 0),(.int .i64 0),(.int .i64 0),(.int .i64 0),(.int .i64 0),(.int .i64 0),(.int .i64 0),(.int .i64 0),(.int .i64 0),(.int .i64 0),(.int .i64 0),(.int .i64 0),(.int .i64 0),(.int .i64 0),(.int .i64 0),(.int .i64 0),(.int .i64 0),(.int .i64 0),(.int .i64 0),(.int .i64 0)] [])⟩,⟨some 32,none,(.box (.tmp 31))⟩,⟨some 8,none,(.mov (.tmp 32))⟩]) (.seq (.seq (.region [⟨some 33,none,(.mov (.const (.int .i64 0)))⟩]) (.block 0 (.loop body29_0))) (.seq (.seq (.region [⟨some 47,none,(.mov (.tmp 5))⟩,⟨some 48,none,(.len (.tmp 47))⟩,⟨some 49,none,(.mov (.const (.int .i64 0)))⟩]) (.block 2 (.loop body29_1))) (.seq (.region [⟨some 61,none,(.mov (.tmp 8))⟩,⟨some 62,none,(.nilCheck (.tmp 61))⟩,⟨some 63,none,(.fld 0 (.tmp 62))⟩,⟨some 64,none,(.idxArr 16 1 (.tmp 63) (.const (.int .i64 0)))⟩,⟨none,none,(.store 1 (.tmp 64) (.const (.int .i64 0)))⟩]) (.seq (.label 0) (.seq (.block 4 (.loop body29_4)) (.seq (.region [⟨some 114,none,(.mov (.tmp 8))⟩,⟨some 4,none,(.mov (.tmp 114))⟩]) .ret)))))))))))
set_option maxRecDepth 100000 in
theorem tab29:tb.code 29=some ⟨115,[(4,none)],body29⟩:=by kernel_rfl
theorem of_ok' (h:AHeap) (vt vf:Value) (T:List LType) (F:List LFn) (f:Int) (tt:Tbl h) (hm:h.mark≤h.n) (sm:Small T F) (st:SlT h vt T) (sf:SlF h vf F) (hb:(blocksL T F f 0).2=0):
  WC Tryd.prog tb 29 [.agg #[vt,vf],I f] h fun r h'=>(∃ p xs,r=p∧OwnC h h' p (xs.map I)∧Rul (nxL (blocksL T F f 0).1) xs)∧Ext h h':=by
 obtain⟨_,hpos,hLB,hre⟩:=blocks_in hb
 have hreg:=regs_in hre
 obtain⟨hlen,hin⟩:=blocks_nx hb
 have hE:=blocks_ends hb
 obtain⟨law1,law2,⟨l0,law3⟩,law4,law5,law6,law7⟩:=order_law hb
 have hnd:=order_nodup hb
 have hpar:=order_par hb
 have hrpo:∀ {pos:Int→Int},(∀ i,i<(OrderL T F f).1.length→pos ((OrderL T F f).1.getD i 0)=i)→Rpo (nxL (blocksL T F f 0).1) pos:=fun hp=>order_rpo hb hp
 have hmem:∀ c,Way (nxL (blocksL T F f 0).1) 0 c→∃ i,i<(OrderL T F f).1.length∧(OrderL T F f).1.getD i 0=c:=fun c w=>mem_getD (law4 c ((mem_reach hb).2 w))
 have hway:∀ i,i<(OrderL T F f).1.length→Way (nxL (blocksL T F f 0).1) 0 ((OrderL T F f).1.getD i 0):=fun i=>by
  induction i using Nat.strongRecOn with
  |_ i ih=>
   intro hi
   by_cases e:(OrderL T F f).1.getD i 0=0
   ·rw[e];exact .here
   ·obtain⟨j,hj,hm⟩:=hpar i hi e
    exact .step (ih j hj (by omega)) hm
 have h00:(OrderL T F f).1.getD 0 0=0:=by rw[law3];rfl
 have hO1:0<(OrderL T F f).1.length:=by rw[law3];simp
 have hbnd:∀ c,Way (nxL (blocksL T F f 0).1) 0 c→0≤c∧c<((blocksL T F f 0).1.length:Int):=fun c w=>by
  induction w with
  |here=>exact⟨Int.le_refl _,hpos⟩
  |step _ hc ih=>exact hin _ ih _ hc
 obtain⟨K,hK⟩:=steps_enough hin (by omega)
 have oerr:(OrderL T F f).2=0:=by unfold OrderL;rw[if_neg (by rw[hb];exact fun e=>e rfl)]
 clear law1 law3 law4 law5 law7
 replace law6:=Hid.mk law6
 replace hpar:=Hid.mk hpar
 replace hrpo:Hid (∀ {pos:Int→Int},(∀ i,i<(OrderL T F f).1.length→pos ((OrderL T F f).1.getD i 0)=i)→Rpo (nxL (blocksL T F f 0).1) pos):=Hid.mk hrpo
 replace hmem:=Hid.mk hmem
 replace hway:=Hid.mk hway
 replace hbnd:=Hid.mk hbnd
 replace hK:=Hid.mk hK
 replace hin:=Hid.mk hin
 refine WC.of (nostub 29) tab29 ?_;simp only[mkTm,Nat.zero_add,Nat.reduceAdd]
 refine go ?_
 refine WO.bx ?_
 intro p2 h1 e1 o1
 have o1:OwnC h h1 p2 [vt,vf]:=o1
 refine go ?_
 refine WX.scope0 ?_
 refine go ?_
 refine WO.con (Order_ok h1 vt vf T F f (tt.ext e1) (mark_ext e1 hm) sm (st.ext e1) (SlF.ext sf e1)) ?_
 rintro _ h2 ⟨⟨orv,rfl,oor⟩,e2⟩
 have e02:=e1.trans e2
 have o2:=o1.ext e2
 have sf2:=SlF.ext sf e02
 have hF:=sm.funcs
 obtain⟨csF,⟨vb,rfl,sb,hlb⟩,pcF,hsF⟩:=slr_at (i:=f.toNat) sf2 (by omega)
 rw[←hLB]at sb
 rw[oerr]
 refine go ?_
 refine WO.con (ahead_ok h2 (mark_ext e02 hm) vb (blocksL T F f 0).1 sb hE) ?_
 rintro _ h3 ⟨⟨cells,rfl,hcl,hca⟩,e3⟩
 have e03:=e02.trans e3
 refine go ?_
 refine WO.al ?_
 intro p7 h4 e4 o4
 have e04:=e03.trans e4
 refine WO.stC0 (cs:=cells) o4 e4 ?_ (hn:=hcl) (h1:=one_of hcl hca)
 intro hb0 e5 o5 u5
 have eb:=e03.trans e5
 have sor:SlI hb0 orv (OrderL T F f).1:=oor.sl.ext (e3.trans e5)
 have spr:Hid (∀ j,j<16→SlI hb0 (cells.getD j undef) (aheadN (blocksL T F f 0).1 (j:Int) (blocksL T F f 0).1.length)):=⟨fun j hj=>(hca j hj).sl.ext e5⟩
 have o7:OwnC h hb0 p7 cells:=o5.since e03
 obtain⟨g7,rfl⟩:∃ g7,p7= .pointer (some ⟨g7,0,none⟩):=let ⟨g,_,_,e,_⟩:=o7;⟨g,e⟩
 have oorN:OwnN h hb0 orv (OrderL T F f).1:=(oor.ext (e3.trans e5)).since e1
 clear o4 o5 u5 pcF hsF sb sf2 hca oor
 generalize hO:(OrderL T F f).1=O at *
 generalize hnx:nxL (blocksL T F f 0).1=nx at *
 refine go ?_
 refine WO.bx ?_
 intro p8 h6 e6 o6
 obtain⟨g8,hg8,hg8',rfl⟩:∃ g8,hb0.n≤g8∧g8<h6.n∧p8= .pointer (some ⟨g8,0,none⟩):=let ⟨g,a,b,c,_⟩:=o6;⟨g,a,b,c⟩
 have o8:OwnC hb0 h6 (.pointer (some ⟨g8,0,none⟩)) ((List.replicate 32 (0:Int)).map I):=o6
 clear o6
 have hmk:hb0.mark≤hb0.n:=mark_ext eb hm
 refine go ?_
 refine WX.loopA [34,35,9,36,37,38,39,40,41,42,43,44,45,46,33] (by kernel_rfl) (fun k=>17 - k) (fun (k:Nat) t h'=>tmGet t 33=I (k:Int)∧k≤16∧Ext hb0 h'∧∃ xs:List Int,OwnC hb0 h' (.pointer (some ⟨g8,0,none⟩)) (xs.map I)∧xs.length=32∧Hid (∀ j,j<k→xs.getD j 0= -1∧xs.getD (16+j) 0= -1)) 0 ?_ ?_
 ·exact⟨sl_,by omega,e6,_,o8,by simp,⟨fun j hj=>by omega⟩⟩
 rintro k t h7 hsame ⟨s33,hk,e7,xs,o9,hlx,hx⟩
 refine go ?_
 refine WX.br (fun hc=> ?_) (fun hc=> ?_)<;>simp only[DB]at hc
 ·have hk':k<16:=by omega
  refine go ?_
  refine WX.regionU2 0 rfl rfl ?_
  have oX:OwnC hb0 (inC (asideN 0 h7)) (.pointer (some ⟨g8,0,none⟩)) (xs.map I):=o9
  refine goU ?_
  refine WU2.st1 (j:=k) oX (by rw[e7.mark];exact hmk) (by omega) ?_
  intro X1 n1 oX1 u1 w1
  have oY1:OwnC hb0 (inC X1) (.pointer (some ⟨g8,0,none⟩)) ((xs.set k (-1)).map I):=oX1
  have hl1:(xs.set k (-1)).length=32:=by rw[List.length_set];exact hlx
  refine goU ?_
  refine WU2.stE (j:=16+k) oX1 e7 (by rw[e7.mark];exact hmk) n1 u1 w1 (by rw[List.length_set];omega) ?_
  intro h8 e8 o8' u8
  refine go ?_
  refine loopK_normal (k+1) (by omega) ⟨sl_,by omega,e8,_,o8',by simp[hlx],⟨fun j hj=> ?_⟩⟩
  simp only[getD_setN (show 16+k<(xs.set k (-1)).length by omega),getD_setN (show k<xs.length by omega)]
  by_cases e:j=k
  ·rw[if_neg (by omega),if_pos e,if_pos (by omega)];exact⟨rfl,rfl⟩
  ·rw[if_neg (by omega),if_neg e,if_neg (by omega),if_neg (by omega)];exact hx.out j (by omega)
 have hkk:k=16:=by omega
 subst hkk
 replace hx:Hid (∀ j,j<32→xs.getD j 0= -1):=⟨fun j hj=>by
  by_cases h:j<16
  ·exact(hx.out j h).1
  ·have:=(hx.out (j - 16) (by omega)).2
   rw[show 16+(j - 16)=j by omega]at this;exact this⟩
 refine go ?_
 have osl7:SlI h7 orv O:=sor.ext e7
 have hmemO:∀ i,i<O.length→O.getD i 0∈O:=fun i hi=>by rw[List.getD_eq_getElem?_getD,List.getElem?_eq_getElem hi];exact List.getElem_mem hi
 have hOb:∀ i,i<O.length→0≤O.getD i 0∧O.getD i 0<16:=fun i hi=>by have:=law6.out _ (hmemO i hi);omega
 replace hmemO:=Hid.mk hmemO
 replace hOb:=Hid.mk hOb
 refine WX.loopA [50,51,52,53,10,11,54,55,56,57,58,59,60,49] (by kernel_rfl) (fun k=>O.length+1 - k) (fun (k:Nat) t h'=>tmGet t 49=I (k:Int)∧k≤O.length∧Ext hb0 h'∧∃ xs:List Int,OwnC hb0 h' (.pointer (some ⟨g8,0,none⟩)) (xs.map I)∧xs.length=32∧Hid ((∀ j,j<16→xs.getD j 0= -1)∧∀ i,i<k→xs.getD (16+(O.getD i 0).toNat) 0=i)) 0 ?_ ?_
 ·exact⟨sl_,by omega,e7,_,o9,hlx,⟨fun j hj=>hx.out j (by omega),fun i hi=>by omega⟩⟩
 clear e7 o9 osl7
 rintro k t2 h7 hsame2 ⟨s49,hk,e7,xs,o9,hlx,hx⟩
 have osl7:SlI h7 orv O:=sor.ext e7
 refine go ?_
 refine WX.br (fun hc=> ?_) (fun hc=> ?_)<;>simp only[DB]at hc
 ·have hk':k<O.length:=by omega
  obtain⟨hb1,hb2⟩:=hOb.out k hk'
  refine go ?_
  refine WO.stI1 (j:=16+(O.getD k 0).toNat) o9 e7 (by omega) ?_
  intro h8 e8 o8' u8
  refine go ?_
  refine loopK_normal (k+1) (by omega) ⟨sl_,by omega,e8,_,o8',by simp[hlx],⟨fun j hj=> ?_,fun i hi=> ?_⟩⟩
  ·rw[getD_setN (by omega),if_neg (by omega)];exact hx.out.1 j hj
  ·rw[getD_setN (by omega)]
   obtain⟨hb3,hb4⟩:=hOb.out i (by omega)
   by_cases e:i=k
   ·subst e;rw[if_pos rfl]
   ·rw[if_neg (fun e2=>e (nodup_getD hnd (by omega) hk' (by omega)))];exact hx.out.2 i (by omega)
 have hkk:k=O.length:=by omega
 subst hkk
 refine go ?_
 refine WO.stI1 (j:=0) o9 e7 (by omega) ?_
 clear e7
 intro h8 e8 o8' u8
 obtain⟨xs0,hxs0⟩:∃ l,l=xs.set 0 (0:Int):=⟨_,rfl⟩
 rw[←hxs0]at o8'
 have hl0:xs0.length=32:=by rw[hxs0];simp[hlx]
 have hp0:∀ j,j<16→xs0.getD j 0=if j=0 then 0 else -1:=fun j hj=>by
  rw[hxs0,getD_setN (by omega)]
  by_cases e:j=0
  ·rw[if_pos e,if_pos e]
  ·rw[if_neg e,if_neg e];exact hx.out.1 j hj
 have hq0:∀ i,i<O.length→xs0.getD (16+(O.getD i 0).toNat) 0=i:=fun i hi=>by
  rw[hxs0,getD_setN (by omega),if_neg (by omega)];exact hx.out.2 i hi
 obtain⟨qs,hqs⟩:∃ l,l=xs0.drop 16:=⟨_,rfl⟩
 have r0:Rnd nx qs xs0 0:=by
  have hz:pO xs0 0=0:=(hp0 0 (by omega)).trans (if_pos rfl)
  have rp:Rpo nx (fun b=>qO xs0 b):=hrpo.out fun i hi=>hq0 i hi
  refine⟨⟨hl0,rp,?_,fun c w=>by have:=hbnd.out c w;omega⟩,hqs.symm,?_,?_,?_⟩
  ·have hm1:∀ b,Way nx 0 b→b≠0→pO xs0 b= -1:=fun b w hb=>by
    have:=hbnd.out b w
    exact(hp0 b.toNat (by omega)).trans (if_neg (by omega))
   exact⟨hz,fun b w hb hp=>absurd (hm1 b w hb) hp,fun b w hb hp=>absurd (hm1 b w hb) hp⟩
  ·intro c x hx
   cases hx with
   |here h=>exact far_zero (nx:=nx) (p:=fun b=>pO xs0 b) (k:=0) hz x (.here h)
  ·intro c h1 h2 h3
   exact(hp0 c.toNat (by omega)).trans (if_neg (fun e=>h3 (by rw[show c=0 by omega];exact .here)))
  ·intro h;omega
 obtain⟨vt',hrt,stl⟩:=own_tail oorN hO1
 have hqO:∀ {l:List Int},l.drop 16=qs→∀ i,i<O.length→qO l (O.getD i 0)=i:=fun e i hi=>by
  rw[qO_drop,e,hqs,←qO_drop];exact hq0 i hi
 replace hqO:Hid (∀ {l:List Int},l.drop 16=qs→∀ i,i<O.length→qO l (O.getD i 0)=i):=Hid.mk hqO
 clear hp0 hq0 hqs hxs0 hx
 refine go ?_
 refine WX.loopA [65,66,67,68,12,69,70,71,72,73,74,75,14,15,76,77,78,79,80,81,82,83,17,89,90,91,92,93,94,95,88,97,98,96,99,15,84,85,86,87,15,100,80,101,102,103,104,105,106,107,72,108,109,110,111,112,113] (by kernel_rfl) (fun p=>max K 1+1 - p.1) (fun (p:Nat×List Int) t h'=>Ext hb0 h'∧OwnC hb0 h' (.pointer (some ⟨g8,0,none⟩)) (p.2.map I)∧p.1≤max K 1∧Hid (Rnd nx qs p.2 p.1)) (0,xs0) ?_ ?_
 ·exact⟨e8,o8',Nat.zero_le _,⟨r0⟩⟩
 clear e8 o8' u8 r0 o9 osl7
 rintro⟨k,xs⟩ t3 h9 hsame3 ⟨e9,o9,hkK,⟨r⟩⟩
 simp only at o9 hkK r
 have hlx:=r.dm.len
 replace r:=Hid.mk r
 refine go ?_
 refine WO.ldMany (j:=0) (n:=16) o9 (by omega) ?_
 refine go ?_
 refine WO.al ?_
 intro p12 h10 e10 o10
 refine go ?_
 refine WO.stC0 (cs:=((xs.drop 0).take 16).map I) o10 e10 ?_ (hn:=by simp;omega) (h1:=one_ints _)
 intro h11 e11 o11 u11
 have o11:OwnC hb0 h11 p12 (((xs.drop 0).take 16).map I):=o11.since e9
 obtain⟨g12,hg12,rfl⟩:∃ g12,h9.n≤g12∧p12= .pointer (some ⟨g12,0,none⟩):=let ⟨g,a,b,c,_⟩:=o10;⟨g,a,c⟩
 have h98:g8<h9.n:=by obtain⟨q,q1,q2,q3,_⟩:=o9;cases q3;exact q2
 have hne:Value.pointer (some ⟨g8,0,none⟩)≠ .pointer (some ⟨g12,0,none⟩):=fun e=>by cases e;omega
 have e11':=e9.trans e11
 have o9:=o9.ext e11
 have stl11:SlI h11 vt' (O.drop 1):=stl.ext e11'
 refine go ?_
 refine WO.slLo (i:=1) hrt ?_ (hy:=rfl)
 refine go ?_
 have hdl:(O.drop 1).length=O.length - 1:=by simp
 refine WX.loopA [73,74,75,14,15,76,77,78,79,80,81,82,83,17,89,90,91,92,93,94,95,88,97,98,96,99,15,84,85,86,87,15,100,80,101,102,103,104,105,106,107,72] (by kernel_rfl) (fun p=>O.length - p.1) (fun (p:Nat×List Int) t h'=>tmGet t 72=I (p.1:Int)∧p.1+1≤O.length∧Ext hb0 h'∧OwnC hb0 h' (.pointer (some ⟨g8,0,none⟩)) (p.2.map I)∧OwnC hb0 h' (.pointer (some ⟨g12,0,none⟩)) (((xs.drop 0).take 16).map I)∧Hid (Md nx O qs xs p.2 k (p.1+1))) (0,xs) ?_ ?_
 ·exact⟨sl_,by omega,e11',o9,o11,⟨Md.start r.out h00⟩⟩
 clear e11' o9 o11 stl11
 rintro⟨m,ys⟩ t4 h12 hsame4 ⟨s72,hm72,e12,o12,ow12,g⟩
 simp only at s72 hm72 o12 g
 have hly:=g.out.dm.len
 have stl12:SlI h12 vt' (O.drop 1):=stl.ext e12
 refine go ?_
 refine WX.br (fun hc=> ?_) (fun hc=> ?_)<;>simp only[DB]at hc
 ·have hm':m+1<O.length:=by omega
  have hmd:m<(O.drop 1).length:=by omega
  have hdg:(O.drop 1).getD m 0=O.getD (m+1) 0:=by simp[List.getD,Nat.add_comm]
  obtain⟨hb1,hb2⟩:=hOb.out (m+1) hm'
  have hwb:=hway.out (m+1) hm'
  obtain⟨ja,hja,hjb⟩:=hpar.out (m+1) hm' (fun e=>by have:=nodup_getD hnd hm' hO1 (e.trans h00.symm);omega)
  have hbne:O.getD (m+1) 0≠0:=fun e=>by have:=nodup_getD hnd hm' hO1 (e.trans h00.symm);omega
  refine go ?_
  rw[hdg]
  generalize hbO:O.getD (m+1) 0=b at *
  have o7b:OwnC h h12 (.pointer (some ⟨g7,0,none⟩)) cells:=o7.ext e12
  have hb16:b.toNat<16:=by omega
  obtain⟨A,hA⟩:∃ A,aheadN (blocksL T F f 0).1 b (blocksL T F f 0).1.length=A:=⟨_,rfl⟩
  have sA:SlI h12 (cells.getD b.toNat undef) A:=by
   have:=(spr.out b.toNat hb16).ext e12
   rw[show ((b.toNat:Nat):Int)=b by omega,hA]at this;exact this
  have hA16:A.length≤16:=by rw[←hA];have:=aheadN_len (blocksL T F f 0).1 b (blocksL T F f 0).1.length;omega
  have hAin:Hid (∀ j,j<A.length→(0≤A.getD j 0∧A.getD j 0<16)∧b∈nx (A.getD j 0)):=⟨fun j hj=>by
   have:=ahead_in hA hj
   rw[hnx]at this;exact⟨by omega,this.2⟩⟩
  refine go ?_
  refine WO.ldV (i:=b.toNat) o7b (by omega) ?_
  refine go ?_
  have dmy:Hid (Dm nx ys):=⟨g.out.dm⟩
  have huy:Hid (∀ a,0≤a→a<16→pO ys a≠ -1→Way nx 0 a):=⟨fun a h1 h2 h3=>Classical.byContradiction fun h4=>h3 (g.out.un a h1 h2 h4)⟩
  refine WX.loopA [81,82,83,17,89,90,91,92,93,94,95,88,97,98,96,99,15,84,85,86,87,15,100,80] (by kernel_rfl) (fun p=>A.length - p.1) (fun (p:Nat×Int) t h'=>h12=h'∧tmGet t 80=I (p.1:Int)∧p.1≤A.length∧tmGet t 15=I p.2∧Hid (Bst nx ys b A p.1 p.2)) (0,-1) ?_ ?_
  ·exact⟨rfl,sl_,by omega,sl_,⟨.inl ⟨rfl,fun i hi=>by omega⟩⟩⟩
  rintro⟨j,v⟩ t5 _ hsame5 ⟨rfl,s80,hj,s15,bst⟩
  simp only at s80 hj s15 bst
  refine go ?_
  refine WX.br (fun hd=> ?_) (fun hd=> ?_)<;>simp only[DB]at hd
  ·have hj':j<A.length:=by omega
   obtain⟨⟨ha1,ha2⟩,hab⟩:=hAin.out j hj'
   refine go ?_
   generalize haA:A.getD j 0=a at *
   refine WX.br (fun hq=> ?_) (fun hq=> ?_)<;>simp only[DB]at hq
   ·refine go ?_
    refine loopK_normal (j+1,v) (by show A.length - (j+1)<A.length - j;omega) ⟨rfl,sl_,by show j+1≤_;omega,sl_,⟨bst.out.skip (by rw[haA];exact hq)⟩⟩
   have wa:=huy.out a ha1 ha2 hq
   refine go ?_
   refine WX.br (fun hv=> ?_) (fun hv=> ?_)<;>simp only[DB]at hv
   ·have hv:v= -1:=hv
    subst hv
    refine go ?_
    refine loopK_normal (j+1,a) (by show A.length - (j+1)<A.length - j;omega) ⟨rfl,sl_,by show j+1≤_;omega,sl_,⟨?_⟩⟩
    have:=bst.out.first (by rw[haA];exact wa) (by rw[haA];omega) (by rw[haA];exact hab) (by rw[haA];exact hq)
    rw[haA]at this;exact this
   have hv:v≠ -1:=hv
   have wv:Way nx 0 v∧pO ys v≠ -1:=by
    rcases bst.out with ⟨e,_⟩|⟨_,e1,e2,_⟩
    ·exact absurd e hv
    ·exact⟨e1,e2⟩
   refine go ?_
   refine WO.con (meet_ok hb0 h12 (.pointer (some ⟨g8,0,none⟩)) nx ys v a o12 dmy wv.1 wa wv.2 hq) ?_
   rintro _ _ ⟨⟨mm,rfl,hmt⟩,rfl⟩
   refine go ?_
   have hmm:=dmy.out.bnd mm hmt.way
   refine loopK_normal (j+1,mm) (by show A.length - (j+1)<A.length - j;omega) ⟨rfl,sl_,by show j+1≤_;omega,sl_,⟨?_⟩⟩
   exact bst.out.meet hv (by omega) (by rw[haA];exact hab) (by rw[haA];exact hmt)
  have hjj:j=A.length:=by omega
  subst hjj
  have bt:Best nx (fun b=>qO ys b) (fun b=>pO ys b) b v:=by
   have wp:=hway.out ja (by omega)
   refine bst.out.best dmy.out (fun a wa hab=> ?_) wp hjb (g.out.pre ja hja).2 ?_
   ·refine mem_getD ?_
    rw[←hA]
    exact mem_aheadN'.2 ⟨hbnd.out a wa,by rw[hnx];exact hab⟩
   ·rw[hqO.out g.out.qs ja (by omega),←hbO,hqO.out g.out.qs (m+1) hm'];omega
  refine go ?_
  refine WO.stI1 (j:=b.toNat) o12 e12 (by omega) ?_
  intro h13 e13 o13 u13
  have ow13:=own_updC ow12 u13 hne
  refine go ?_
  refine loopK_normal (m+1,ys.set b.toNat v) (by show O.length - (m+1)<O.length - m;omega) ⟨sl_,by show m+1+1≤_;omega,e13,o13,ow13,⟨?_⟩⟩
  have:=g.out.step (v:=v) hnd hm' (by omega) (by rw[hbO];exact hbne) (by rw[hbO];exact hwb) (by rw[hbO];exact bt) hlx
  rw[hbO]at this;exact this
 have hmm:m+1=O.length:=by omega
 have g:Hid (Md nx O qs xs ys k O.length):=by rw[←hmm];exact g
 clear stl12 hm72 hc
 refine go ?_
 refine WO.ldMany (j:=0) (n:=16) ow12 (by simp;omega) ?_ (hx:=by show Ope _ _ (.pointer (some ⟨g12,0,none⟩));exact ope_)
 refine go ?_
 refine WO.ldMany (j:=0) (n:=16) o12 (by omega) ?_
 refine WO.bp (eq_arrB (n:=16) (xs:=(((xs.drop 0).take 16).drop 0).take 16) (ys:=(ys.drop 0).take 16) (by kernel_rfl) (by simp;omega) (by simp;omega)) ?_ (hc:=by rw[closed_ints,closed_ints];rfl)
 have hde:decide (((((xs.drop 0).take 16).drop 0).take 16)=((ys.drop 0).take 16))=decide (xs=ys):=decide_eq_decide.2 ⟨fun e=>by
  simp only[List.drop_zero,List.take_take,Nat.min_self]at e
  exact eq_halves e (r.out.qs.trans g.out.qs.symm),fun e=>by rw[e];simp[List.take_take]⟩
 rw[hde]
 have rd:=g.out.done hmem.out
 refine go ?_
 refine WX.br (fun hd=> ?_) (fun hd=> ?_)<;>simp only[DB]at hd
 ·have hd:xs=ys:=hd
  subst hd
  refine go ?_
  refine scope0K_ret ?_
  refine rt ?_
  exact⟨⟨_,xs,rfl,(o12.since eb),rul_of g.out hmem.out h00 fun b w=>by obtain⟨i,hi,e⟩:=hmem.out b w;rw[←e,hqO.out g.out.qs i hi];omega⟩,eb.trans e12⟩
 have hkk:k<max K 1:=by
  refine Nat.lt_of_not_le fun hle=>hd ?_
  exact(round_same r.out g.out hmem.out h00 hbnd.out hK.out (by omega) (by omega) hlx hnd hway.out).symm
 refine go ?_
 exact loopK_normal (k+1,ys) (by show max K 1+1 - (k+1)<max K 1+1 - k;omega) ⟨e12,o12,by show k+1≤_;omega,⟨rd⟩⟩
end Go.Proofs.YtdcgdfbblnljjaaDoor
namespace Go.Proofs.YtdcgdfbblnljjaaDoor
open Go.Am
set_option linter.unusedVariables false
set_option linter.unusedSimpArgs false
set_option maxHeartbeats 1000000
def nxF (T:List LType) (F:List LFn) (f:Int):Int→List Int:=nxL (blocksL T F f 0).1
def askL (T:List LType) (F:List LFn) (f b:Int):Int:=
 if (blocksL T F f 0).2≠0 then (blocksL T F f 0).2 else if b<0∨((blocksL T F f 0).1.length:Int)≤b then 2 else if b∈(ReachL T F f).1 then 0 else 6
theorem ask_way {T:List LType} {F:List LFn} {f b:Int} (h:askL T F f b=0):(blocksL T F f 0).2=0∧Way (nxF T F f) 0 b:=by
 unfold askL at h
 split at h
 ·rename_i hb;exact absurd h hb
 ·rename_i hb
  have hb:(blocksL T F f 0).2=0:=by simpa using hb
  split at h
  ·cases h
  ·split at h
   ·rename_i hm;exact⟨hb,(mem_reach hb).1 hm⟩
   ·cases h
theorem way_in {T:List LType} {F:List LFn} {f b:Int} (hb:(blocksL T F f 0).2=0) (w:Way (nxF T F f) 0 b):0≤b∧b<((blocksL T F f 0).1.length:Int):=by
 obtain⟨_,hpos,_,_⟩:=blocks_in hb
 obtain⟨hlen,hin⟩:=blocks_nx hb
 induction w with
 |here=>exact⟨Int.le_refl _,hpos⟩
 |step _ hc ih=>exact hin _ ih _ hc
theorem next_of {T:List LType} {F:List LFn} {f b:Int} (hb:(blocksL T F f 0).2=0) (w:Way (nxF T F f) 0 b):(NextL T F f b).2=0:=by
 rw[next_err,blocks_other hb (way_in hb w)];exact hb
structure Env (h:AHeap) (vt vf:Value) (T:List LType) (F:List LFn):Prop where
 tt:Tbl h
 hm:h.mark≤h.n
 sm:Small T F
 st:SlT h vt T
 sf:SlF h vf F
theorem Env.ext {h h':AHeap} {vt vf:Value} {T:List LType} {F:List LFn} (E:Env h vt vf T F) (e:Ext h h'):Env h' vt vf T F:=
 ⟨E.tt.ext e,mark_ext e E.hm,E.sm,E.st.ext e,SlF.ext E.sf e⟩
noncomputable def body20:ACode:=(.seq (.region [⟨some 3,none,(.box (.tmp 0))⟩,⟨some 6,none,(.mov (.const (.pointer none)))⟩,⟨some 7,none,(.mov (.const (.int .i64 0)))⟩]) (.seq (.region [⟨some 11,none,(.load true 2 (.tmp 3))⟩,⟨some 12,none,(.mov (.tmp 1))⟩,⟨some 13,none,(.call (.func 28) [(.tmp 11),(.tmp 12)])⟩,⟨some 10,none,(.mov (.tmp 13))⟩,⟨some 14,none,(.extract (.tmp 10) 0)⟩,⟨some 15,none,(.extract (.tmp 10) 1)⟩,⟨some 8,none,(.mov (.tmp 14))⟩,⟨some 9,none,(.mov (.tmp 15))⟩]) (.seq (.block 0 (.seq (.region [⟨some 17,none,(.mov (.tmp 9))⟩,⟨some 18,none,(.bin .neq (.tmp 17) (.const (.int .i64 0)))⟩,⟨some 16,none,(.mov (.tmp 18))⟩]) (.cond (.tmp 16) (.seq (.region [⟨some 19,none,(.mov (.tmp 9))⟩,⟨some 6,none,(.mov (.const (.pointer none)))⟩,⟨some 7,none,(.mov (.tmp 19))⟩]) .ret) (.seq (.region [⟨some 21,none,(.mov (.tmp 2))⟩,⟨some 22,none,(.bin .lss (.tmp 21) (.const (.int .i64 0)))⟩,⟨some 23,none,(.mov (.tmp 22))⟩,⟨some 24,some (23,false),(.mov (.tmp 2))⟩,⟨some 25,some (23,false),(.fld 1 (.tmp 3))⟩,⟨some 26,some (23,false),(.load false 1 (.tmp 25))⟩,⟨some 27,some (23,false),(.mov (.tmp 1))⟩,⟨some 28,some (23,false),(.idx 2 (.tmp 26) (.tmp 27))⟩,⟨some 29,some (23,false),(.fld 1 (.tmp 28))⟩,⟨some 30,some (23,false),(.load false 1 (.tmp 29))⟩,⟨some 31,some (23,false),(.len (.tmp 30))⟩,⟨some 32,some (23,false),(.bin .geq (.tmp 24) (.tmp 31))⟩,⟨some 33,none,(.pick (.tmp 23) (.const (.bool true)) (.tmp 32))⟩,⟨some 20,none,(.mov (.tmp 33))⟩]) (.cond (.tmp 20) (.seq (.region [⟨some 6,none,(.mov (.const (.pointer none)))⟩,⟨some 7,none,(.mov (.const (.int .i64 2)))⟩]) .ret) (.seq (.region [⟨some 35,none,(.mov (.tmp 8))⟩,⟨some 36,none,(.mov (.tmp 2))⟩,⟨some 37,none,(.call (.func 24) [(.tmp 35),(.tmp 36)])⟩,⟨some 38,none,(.un .not (.tmp 37))⟩,⟨some 34,none,(.mov (.tmp 38))⟩]) (.cond (.tmp 34) (.seq (.region [⟨some 6,none,(.mov (.const (.pointer none)))⟩,⟨some 7,none,(.mov (.const (.int .i64 6)))⟩]) .ret) .skip))))))) (.seq (.region [⟨some 39,none,(.load true 2 (.tmp 3))⟩,⟨some 40,none,(.mov (.tmp 1))⟩,⟨some 41,none,(.call (.func 29) [(.tmp 39),(.tmp 40)])⟩,⟨some 6,none,(.mov (.tmp 41))⟩,⟨some 7,none,(.mov (.const (.int .i64 0)))⟩]) .ret))))
set_option maxRecDepth 100000 in
theorem tab20:tb.code 20=some ⟨42,[(6,none),(7,none)],body20⟩:=by kernel_rfl
theorem dasked_ok (h:AHeap) (vt vf:Value) (T:List LType) (F:List LFn) (f b:Int) (E:Env h vt vf T F):
  WC Tryd.prog tb 20 [.agg #[vt,vf],I f,I b] h fun r h'=>(∃ p,r= .tuple #[p,I (askL T F f b)]∧(askL T F f b=0→∃ xs,OwnC h h' p (xs.map I)∧Rul (nxF T F f) xs))∧Ext h h':=by
 refine WC.of (nostub 20) tab20 ?_;simp only[mkTm,Nat.zero_add,Nat.reduceAdd]
 refine go ?_
 refine WO.bx ?_
 intro p h1 e1 o1
 have E1:=E.ext e1
 refine go ?_
 refine WO.con (Reach_ok h1 vt vf T F f E1.tt E1.hm E1.sm E1.st E1.sf) ?_
 rintro _ h2 ⟨⟨rev,rfl,ore⟩,e2⟩
 have e02:=e1.trans e2
 have E2:=E1.ext e2
 have o2:=o1.ext e2
 have sre:=ore.sl
 rw[reach_err]
 by_cases hb:(blocksL T F f 0).2=0
 case neg=>
  have hb':(blocksL T F f 0).2≠0:=hb
  have ha:askL T F f b=(blocksL T F f 0).2:=by unfold askL;rw[if_pos hb]
  refine go ?_
  refine rt ?_
  rw[ha]
  exact⟨⟨_,rfl,fun h=>absurd h hb⟩,e02⟩
 obtain⟨_,hpos,hLB,hre⟩:=blocks_in hb
 have hreg:=regs_in hre
 obtain⟨hlen,hin⟩:=blocks_nx hb
 rw[hb]
 have hF:=E.sm.funcs
 have sf2:=E2.sf
 refine go ?_
 by_cases hb0:b<0
 ·have ha:askL T F f b=2:=by unfold askL;rw[if_neg (by rw[hb];exact fun e=>e rfl),if_pos (.inl hb0)]
  refine go ?_
  refine rt ?_
  rw[ha]
  exact⟨⟨_,rfl,fun h=>by cases h⟩,e02⟩
 obtain⟨csF,⟨vb,rfl,sb,hlb⟩,pcF,hsF⟩:=slr_at (i:=f.toNat) sf2 (by omega)
 rw[←hLB]at sb
 by_cases hb1:((blocksL T F f 0).1.length:Int)≤b
 ·have ha:askL T F f b=2:=by unfold askL;rw[if_neg (by rw[hb];exact fun e=>e rfl),if_pos (.inr hb1)]
  refine go ?_
  refine rt ?_
  rw[ha]
  exact⟨⟨_,rfl,fun h=>by cases h⟩,e02⟩
 have hml:((ReachL T F f).1.length:Int)≤9223372036854775807:=by
  obtain⟨l1,l2,_⟩:=order_law hb
  omega
 refine go ?_
 refine WO.con (contains_ok h2 rev (ReachL T F f).1 b sre hml) ?_
 rintro _ _ ⟨rfl,rfl⟩
 by_cases hbr:b∈(ReachL T F f).1
 case neg=>
  have ha:askL T F f b=6:=by unfold askL;rw[if_neg (by rw[hb];exact fun e=>e rfl),if_neg (by omega),if_neg hbr]
  refine go ?_
  refine rt ?_
  rw[ha]
  exact⟨⟨_,rfl,fun h=>by cases h⟩,e02⟩
 have ha:askL T F f b=0:=by unfold askL;rw[if_neg (by rw[hb];exact fun e=>e rfl),if_neg (by omega),if_pos hbr]
 refine go ?_
 refine WO.con (of_ok' h2 vt vf T F f E2.tt E2.hm E2.sm E2.st E2.sf hb) ?_
 rintro _ h3 ⟨⟨q,xs,rfl,oq,hR⟩,e3⟩
 refine go ?_
 refine rt ?_
 rw[ha]
 exact⟨⟨_,rfl,fun _=>⟨xs,oq.since e02,hR⟩⟩,e02.trans e3⟩
def rulE (T:List LType) (F:List LFn) (f a b:Int):Int:=if (NextL T F f a).2≠0 then (NextL T F f a).2 else askL T F f b
def RulP (T:List LType) (F:List LFn) (f a b:Int):Prop:=rulE T F f a b=0∧Dom (nxF T F f) a b∧∃ xs,Rul (nxF T F f) xs
end Go.Proofs.YtdcgdfbblnljjaaDoor
namespace Go.Proofs.YtdcgdfbblnljjaaDoor
open Go.Am
set_option linter.unusedVariables false
set_option linter.unusedSimpArgs false
set_option maxHeartbeats 1000000
theorem avk_zero {nx:Int→List Int} {b:Int} {k:Nat} (h:Avk nx 0 k b):False:=by
 induction h with
 |here h=>exact h rfl
 |step _ _ _ ih=>exact ih
theorem dom_zero {nx:Int→List Int} (b:Int):Dom nx 0 b:=fun ⟨k,h⟩=>avk_zero h
theorem dom_trans {nx:Int→List Int} {a b c:Int} (h1:Dom nx a b) (h2:Dom nx b c):Dom nx a c:=fun ⟨k,h⟩=>by
 by_cases hb:(0:Int)=b
 ·subst hb
  by_cases e:(0:Int)=a
  ·subst e;exact dom_zero c ⟨k,h⟩
  ·exact h1 ⟨0,.here e⟩
 ·rcases h.split hb with h|h
  ·exact h2 ⟨_,h⟩
  ·exact h1 ⟨_,h⟩
theorem RulP.ask {T:List LType} {F:List LFn} {f a b:Int} (h:RulP T F f a b):askL T F f b=0:=by
 have:=h.1
 unfold rulE at this
 split at this
 ·rename_i hn;exact absurd this hn
 ·exact this
theorem RulP.of {T:List LType} {F:List LFn} {f a b:Int} (h:askL T F f b=0) (d:Dom (nxF T F f) a b) (hx:∃ xs,Rul (nxF T F f) xs):RulP T F f a b:=by
 obtain⟨hb,wb⟩:=ask_way h
 obtain⟨xs,hR⟩:=hx
 have wa:=hR.dm.rpo.dom_way (qO xs b).toNat b a (by have h5:=hR.dm.rpo.nn b wb;have h5:0≤qO xs b:=h5;show qO xs b≤_;omega) wb d
 refine⟨?_,d,xs,hR⟩
 unfold rulE
 rw[if_neg (fun e=>e (next_of hb wa))];exact h
theorem RulP.zero {T:List LType} {F:List LFn} {f b:Int} (h:askL T F f b=0) (hx:∃ xs,Rul (nxF T F f) xs):RulP T F f 0 b:= .of h (dom_zero b) hx
theorem RulP.self {T:List LType} {F:List LFn} {f b:Int} (h:askL T F f b=0) (hx:∃ xs,Rul (nxF T F f) xs):RulP T F f b b:= .of h (Dom.self _ b) hx
theorem RulP.trans {T:List LType} {F:List LFn} {f a b c:Int} (h:RulP T F f a b) (k:RulP T F f b c):RulP T F f a c:= .of k.ask (dom_trans h.2.1 k.2.1) h.2.2
noncomputable def cntD (nx:Int→List Int) (c:Int):Nat:=open Classical in (List.range 16).countP fun (j:Nat)=>decide (Dom nx (j:Int) c)
theorem cntD_pos {nx:Int→List Int} {c:Int} (h:0≤c∧c<16):1≤cntD nx c:=by
 classical
 unfold cntD
 refine List.countP_pos_iff.2 ⟨c.toNat,List.mem_range.2 (by omega),?_⟩
 show decide (Dom nx ((c.toNat:Nat):Int) c)=true
 rw[decide_eq_true_iff,show ((c.toNat:Nat):Int)=c by omega]
 exact Dom.self nx c
theorem cntD_lt {nx:Int→List Int} {c n:Int} (h:0≤c∧c<16) (hs:∀ a,Dom nx a n→Dom nx a c) (hn:¬Dom nx c n):cntD nx n<cntD nx c:=by
 classical
 unfold cntD
 have hc:((c.toNat:Nat):Int)=c:=by omega
 refine count_lt (p:=fun (j:Nat)=>decide (Dom nx (j:Int) c)) (q:=fun (j:Nat)=>decide (Dom nx (j:Int) n)) (i:=c.toNat) (decide_eq_true (by rw[hc];exact Dom.self nx c)) (decide_eq_false (by rw[hc];exact hn)) (fun j _ hj=> ?_) (List.mem_range.2 (by omega))
 exact decide_eq_true (hs _ (of_decide_eq_true hj))
theorem Rul.step {nx:Int→List Int} {xs:List Int} {c:Int} (r:Rul nx xs) (w:Way nx 0 c) (hc:c≠0):Way nx 0 (pO xs c)∧(∀ a,Dom nx a c↔a=c∨Dom nx a (pO xs c))∧¬Dom nx c (pO xs c):=by
 obtain⟨u1,u2,u3⟩:=r.dm.rl.up c w hc (r.all c w)
 refine⟨u1,fun a=> ?_,fun h=> ?_⟩
 ·rw[←r.dom a c w,←r.dom a _ u1]
  constructor
  ·intro h
   cases h with
   |here=>exact .inl rfl
   |up _ _ h=>exact .inr h
  ·rintro(rfl|h)
   ·exact .here
   ·exact .up hc (r.all c w) h
 ·have h2:=r.dm.rl.le ((r.dom _ _ u1).2 h) u1
  have h3:=h2.2.1
  have h3:qO xs c≤qO xs (pO xs c):=h3
  have u3:qO xs (pO xs c)<qO xs c:=u3
  omega
def Chn (nx:Int→List Int) (a b:Int) (i:Nat) (c:Int) (met:Bool):Prop:=
 (c= -1∧(Dom nx a b↔met=true))∨(Way nx 0 c∧(0≤c∧c<16)∧cntD nx c+i≤16∧(Dom nx a b↔met=true∨Dom nx a c))
theorem Chn.next {nx:Int→List Int} {xs:List Int} {a b c:Int} {i:Nat} {met:Bool} (r:Rul nx xs) (hc:0<c) (h:Chn nx a b i c met):Chn nx a b (i+1) (pO xs c) (met||decide (c=a))∧pO xs c≠c∧0≤pO xs c:=by
 rcases h with ⟨h,_⟩|⟨w,bd,hn,h⟩
 ·omega
 ·obtain⟨u1,u2,u3⟩:=r.step w (by omega)
  have hb:=r.dm.bnd _ u1
  refine⟨.inr ⟨u1,hb,?_,h.trans ?_⟩,fun e=> ?_,hb.1⟩
  ·have:=cntD_lt bd (fun a ha=>(u2 a).2 (.inr ha)) u3
   omega
  ·rw[u2 a,Bool.or_eq_true,decide_eq_true_iff]
   refine⟨?_,?_⟩
   ·rintro(h|rfl|h)
    ·exact .inl (.inl h)
    ·exact .inl (.inr rfl)
    ·exact .inr h
   ·rintro((h|h)|h)
    ·exact .inl h
    ·exact .inr (.inl h.symm)
    ·exact .inr (.inr h)
  ·exact u3 (by rw[e];exact Dom.self _ _)
theorem Chn.way {nx:Int→List Int} {a b c:Int} {i:Nat} {met:Bool} (h:Chn nx a b i c met) (hc:0≤c):Way nx 0 c∧c<16∧i≤15:=by
 rcases h with ⟨h,_⟩|⟨w,bd,hn,h⟩
 ·omega
 ·have:=cntD_pos (nx:=nx) bd
  exact⟨w,bd.2,by omega⟩
theorem Chn.end {nx:Int→List Int} {a b c:Int} {i:Nat} {met:Bool} (h:Chn nx a b i c met) (hc:c<0):c= -1∧(Dom nx a b↔met=true):=by
 rcases h with h|⟨w,bd,hn,h⟩
 ·exact h
 ·omega
theorem fn_bounds {T:List LType} {n:Int} {f:LFn} (h:fnL T n f=true):1≤f.blocks.length∧f.blocks.length≤16∧manyL f.blocks≤128:=by
 unfold fnL at h
 split at h
 ·cases h
 ·rename_i hbad
  unfold badL at hbad
  simp only[Bool.or_eq_true,not_or,Bool.not_eq_true,decide_eq_false_iff_not,Bool.not_eq_false']at hbad
  have h2:=hbad.1.2
  unfold belowL at h2
  simp only[Bool.and_eq_true,decide_eq_true_eq]at h2
  omega
end Go.Proofs.YtdcgdfbblnljjaaDoor
namespace Go.Proofs.YtdcgdfbblnljjaaDoor
open Go.Am
set_option linter.unusedVariables false
set_option linter.unusedSimpArgs false
set_option maxHeartbeats 1000000
def whereB:List LBlk→Int→Int×Int
 |[],a=>(0,a)
 |b::l,a=>if (b.ins.length:Int)≤a then ((whereB l (a - b.ins.length)).1+1,(whereB l (a - b.ins.length)).2) else (0,a)
def placeL (T:List LType) (F:List LFn) (f r:Int):Int×Int×Int:=
 if (askedL T F f).2≠0 then (0,0,(askedL T F f).2)
 else if r<0∨(askedL T F f).1+manyL (F.getD f.toNat default).blocks≤r then (0,0,2)
 else if r<(askedL T F f).1 then (-1,r,0)
 else ((whereB (F.getD f.toNat default).blocks (r - (askedL T F f).1)).1,(whereB (F.getD f.toNat default).blocks (r - (askedL T F f).1)).2,0)
theorem manyL_cons (b:LBlk) (l:List LBlk):manyL (b::l)=(b.ins.length:Int)+manyL l:=by unfold manyL;simp
theorem whereB_in {l:List LBlk}:∀ {a:Int},0≤a→a<manyL l→0≤(whereB l a).1∧(whereB l a).1<(l.length:Int)∧0≤(whereB l a).2∧(whereB l a).2<((l.getD (whereB l a).1.toNat default).ins.length:Int):=by
 induction l with
 |nil=>intro a h0 h1;simp[manyL]at h1;omega
 |cons b l ih=>
  intro a h0 h1
  rw[manyL_cons]at h1
  unfold whereB
  split
  ·rename_i h
   obtain⟨i1,i2,i3,i4⟩:=ih (a:=a - b.ins.length) (by omega) (by omega)
   refine⟨by simp only;omega,by simp only[List.length_cons];omega,i3,?_⟩
   simp only
   rw[show ((whereB l (a - ↑b.ins.length)).1+1).toNat=(whereB l (a - ↑b.ins.length)).1.toNat+1 by omega]
   simpa [List.getD]using i4
  ·rename_i h
   exact⟨Int.le_refl _,by simp only[List.length_cons];omega,h0,by simpa [List.getD]using (by omega:a<(b.ins.length:Int))⟩
theorem drop_cons' {l:List LBlk} {k:Nat} (h:k<l.length):l.drop k=l.getD k default::l.drop (k+1):=by
 rw[List.drop_eq_getElem_cons h];simp[List.getD,List.getElem?_eq_getElem h]
theorem asked_in' {T:List LType} {F:List LFn} {f:Int} (h:(askedL T F f).2=0):0≤f∧f<(F.length:Int)∧progL T F=0∧(askedL T F f).1=((T.getD (F.getD f.toNat default).sig.toNat default).parts.length:Int):=by
 unfold askedL at h ⊢
 split at h
 ·rename_i hp;exact absurd h hp
 ·rename_i hp
  rw[if_neg hp]
  split at h
  ·rename_i hb
   have hb2:=hb
   unfold belowL at hb2;simp at hb2
   exact⟨hb2.1,hb2.2,by omega,by rw[if_pos hb]⟩
  ·cases h
theorem ins_many {l:List LBlk} {b:LBlk} (h:b∈l):(b.ins.length:Int)≤manyL l:=by
 induction l with
 |nil=>cases h
 |cons c l ih=>
  rw[manyL_cons]
  have hp:=manyL_pos l
  rcases List.mem_cons.1 h with rfl|h
  ·omega
  ·have:=ih h;omega
noncomputable def body26_0:ACode:=(.seq (.seq (.region [⟨some 40,none,(.mov (.tmp 7))⟩,⟨some 41,none,(.fld 1 (.tmp 3))⟩,⟨some 42,none,(.load false 1 (.tmp 41))⟩,⟨some 43,none,(.mov (.tmp 1))⟩,⟨some 44,none,(.idx 2 (.tmp 42) (.tmp 43))⟩,⟨some 45,none,(.fld 1 (.tmp 44))⟩,⟨some 46,none,(.load false 1 (.tmp 45))⟩,⟨some 47,none,(.mov (.tmp 6))⟩,⟨some 48,none,(.idx 5 (.tmp 46) (.tmp 47))⟩,⟨some 49,none,(.fld 0 (.tmp 48))⟩,⟨some 50,none,(.load false 1 (.tmp 49))⟩,⟨some 51,none,(.len (.tmp 50))⟩,⟨some 52,none,(.bin .geq (.tmp 40) (.tmp 51))⟩]) (.cond (.tmp 52) .skip (.exit 1))) (.block 2 (.seq (.region [⟨some 53,none,(.mov (.tmp 7))⟩,⟨some 54,none,(.fld 1 (.tmp 3))⟩,⟨some 55,none,(.load false 1 (.tmp 54))⟩,⟨some 56,none,(.mov (.tmp 1))⟩,⟨some 57,none,(.idx 2 (.tmp 55) (.tmp 56))⟩,⟨some 58,none,(.fld 1 (.tmp 57))⟩,⟨some 59,none,(.load false 1 (.tmp 58))⟩,⟨some 60,none,(.mov (.tmp 6))⟩,⟨some 61,none,(.idx 5 (.tmp 59) (.tmp 60))⟩,⟨some 62,none,(.fld 0 (.tmp 61))⟩,⟨some 63,none,(.load false 1 (.tmp 62))⟩,⟨some 64,none,(.len (.tmp 63))⟩,⟨some 65,none,(.bin .sub (.tmp 53) (.tmp 64))⟩,⟨some 7,none,(.mov (.tmp 65))⟩]) (.region [⟨some 66,none,(.mov (.tmp 6))⟩,⟨some 67,none,(.bin .add (.tmp 66) (.const (.int .i64 1)))⟩,⟨some 6,none,(.mov (.tmp 67))⟩]))))
noncomputable def body26:ACode:=(.seq (.region [⟨some 3,none,(.box (.tmp 0))⟩,⟨some 6,none,(.mov (.const (.int .i64 0)))⟩,⟨some 7,none,(.mov (.const (.int .i64 0)))⟩,⟨some 8,none,(.mov (.const (.int .i64 0)))⟩]) (.seq (.region [⟨some 11,none,(.load true 2 (.tmp 3))⟩,⟨some 12,none,(.mov (.tmp 1))⟩,⟨some 13,none,(.call (.func 33) [(.tmp 11),(.tmp 12)])⟩,⟨some 10,none,(.mov (.tmp 13))⟩,⟨some 14,none,(.extract (.tmp 10) 0)⟩,⟨some 15,none,(.extract (.tmp 10) 1)⟩,⟨some 9,none,(.mov (.tmp 14))⟩,⟨some 8,none,(.mov (.tmp 15))⟩]) (.seq (.block 0 (.seq (.region [⟨some 17,none,(.mov (.tmp 8))⟩,⟨some 18,none,(.bin .neq (.tmp 17) (.const (.int .i64 0)))⟩,⟨some 16,none,(.mov (.tmp 18))⟩]) (.cond (.tmp 16) (.seq (.region [⟨some 19,none,(.mov (.tmp 8))⟩,⟨some 6,none,(.mov (.const (.int .i64 0)))⟩,⟨some 7,none,(.mov (.const (.int .i64 0)))⟩,⟨some 8,none,(.mov (.tmp 19))⟩]) .ret) (.seq (.region [⟨some 21,none,(.mov (.tmp 2))⟩,⟨some 22,none,(.mov (.tmp 9))⟩,⟨some 23,none,(.fld 1 (.tmp 3))⟩,⟨some 24,none,(.load false 1 (.tmp 23))⟩,⟨some 25,none,(.mov (.tmp 1))⟩,⟨some 26,none,(.idx 2 (.tmp 24) (.tmp 25))⟩,⟨some 27,none,(.load true 2 (.tmp 26))⟩,⟨some 28,none,(.call (.func 35) [(.tmp 27)])⟩,⟨some 29,none,(.bin .add (.tmp 22) (.tmp 28))⟩,⟨some 30,none,(.call (.func 34) [(.tmp 21),(.tmp 29)])⟩,⟨some 31,none,(.un .not (.tmp 30))⟩,⟨some 20,none,(.mov (.tmp 31))⟩]) (.cond (.tmp 20) (.seq (.region [⟨some 6,none,(.mov (.const (.int .i64 0)))⟩,⟨some 7,none,(.mov (.const (.int .i64 0)))⟩,⟨some 8,none,(.mov (.const (.int .i64 2)))⟩]) .ret) (.seq (.region [⟨some 33,none,(.mov (.tmp 2))⟩,⟨some 34,none,(.mov (.tmp 9))⟩,⟨some 35,none,(.bin .lss (.tmp 33) (.tmp 34))⟩,⟨some 32,none,(.mov (.tmp 35))⟩]) (.cond (.tmp 32) (.seq (.region [⟨some 36,none,(.mov (.tmp 2))⟩,⟨some 6,none,(.mov (.const (.int .i64 (-1))))⟩,⟨some 7,none,(.mov (.tmp 36))⟩,⟨some 8,none,(.mov (.const (.int .i64 0)))⟩]) .ret) .skip))))))) (.seq (.region [⟨some 37,none,(.mov (.tmp 2))⟩,⟨some 38,none,(.mov (.tmp 9))⟩,⟨some 39,none,(.bin .sub (.tmp 37) (.tmp 38))⟩,⟨some 7,none,(.mov (.tmp 39))⟩]) (.seq (.block 1 (.loop body26_0)) (.seq (.region [⟨some 68,none,(.mov (.tmp 6))⟩,⟨some 69,none,(.mov (.tmp 7))⟩,⟨some 6,none,(.mov (.tmp 68))⟩,⟨some 7,none,(.mov (.tmp 69))⟩,⟨some 8,none,(.mov (.const (.int .i64 0)))⟩]) .ret))))))
set_option maxRecDepth 100000 in
theorem tab26:tb.code 26=some ⟨70,[(6,none),(7,none),(8,none)],body26⟩:=by kernel_rfl
theorem place_ok (h:AHeap) (vt vf:Value) (T:List LType) (F:List LFn) (f r:Int) (E:Env h vt vf T F):
  WC Tryd.prog tb 26 [.agg #[vt,vf],I f,I r] h fun q h'=>q= .tuple #[I (placeL T F f r).1,I (placeL T F f r).2.1,I (placeL T F f r).2.2]∧Ext h h':=by
 have hF:=E.sm.funcs
 refine WC.of (nostub 26) tab26 ?_;simp only[mkTm,Nat.zero_add,Nat.reduceAdd]
 refine go ?_
 refine WO.bx ?_
 intro p h1 e1 o1
 have E1:=E.ext e1
 refine go ?_
 refine WO.con (asked_ok h1 vt vf T F f E1.tt E1.hm E1.sm E1.st E1.sf) ?_
 rintro _ h2 ⟨rfl,e2⟩
 have o1:=o1.ext e2
 have e02:=e1.trans e2
 have E2:=E1.ext e2
 have sf2:=E2.sf
 obtain⟨ta,tn,tk,rfl⟩:=slr_shape E.st
 obtain⟨ga,gn,gk,rfl⟩:=slr_shape sf2
 by_cases ha:(askedL T F f).2=0
 case neg=>
  have ha':(askedL T F f).2≠0:=ha
  have hp:placeL T F f r=(0,0,(askedL T F f).2):=by unfold placeL;rw[if_pos ha]
  rw[hp]
  refine go ?_
  refine rt ?_
  exact⟨rfl,e02⟩
 obtain⟨hf0,hf1,hpr,hn⟩:=asked_in' ha
 have hmem:=getD_memR (l:=F) (i:=f.toNat) (by omega)
 have hfn:=(prog_sig hpr).2.2.2 _ hmem
 have hb:=fn_bounds hfn
 have hsig:=fn_sig hfn
 have hpart:=E.sm.parts _ (getD_memR (l:=T) (i:=(F.getD f.toNat default).sig.toNat) (by omega))
 have hB:=E.sm.blocks _ hmem
 have hI:=E.sm.ins _ hmem
 have hmp:=manyL_pos (F.getD f.toNat default).blocks
 have hpl:placeL T F f r=if r<0∨(askedL T F f).1+manyL (F.getD f.toNat default).blocks≤r then (0,0,2)
   else if r<(askedL T F f).1 then (-1,r,0) else ((whereB (F.getD f.toNat default).blocks (r - (askedL T F f).1)).1,(whereB (F.getD f.toNat default).blocks (r - (askedL T F f).1)).2,0):=by
  unfold placeL;rw[if_neg (fun e=>e ha)]
 have hn1:0≤(askedL T F f).1∧(askedL T F f).1≤100:=by rw[hn];omega
 rw[ha,hpl]
 generalize (askedL T F f).1=n at *
 clear hpl hn hpart hsig hfn
 obtain⟨csF,⟨vb,rfl,sb,hlb⟩,pcF,hsF⟩:=slr_at (i:=f.toNat) sf2 (by omega)
 obtain⟨fn,hfn⟩:∃ fn,F.getD f.toNat default=fn:=⟨_,rfl⟩
 rw[hfn]at sb hb hB hI hmp hmem pcF ⊢
 obtain⟨ba,bn,bk,rfl⟩:=slr_shape sb
 refine go ?_
 refine WO.con (many_ok h2 fn.sig _ fn.blocks sb hB hI) ?_
 rintro _ h3 ⟨rfl,e3⟩
 have o1:=o1.ext e3
 have e03:=e02.trans e3
 have sf3:=SlF.ext sf2 e3
 refine go ?_
 refine WO.con (below_ok h3 r (n+manyL fn.blocks)) ?_
 rintro _ _ ⟨rfl,rfl⟩
 by_cases c1:r<0∨n+manyL fn.blocks≤r
 ·have hbl:belowL r (n+manyL fn.blocks)=false:=by unfold belowL;simp;omega
  rw[if_pos c1]
  refine go ?_
  refine rt ?_
  exact⟨rfl,e03⟩
 have hbl:belowL r (n+manyL fn.blocks)=true:=by unfold belowL;simp;omega
 rw[if_neg c1]
 by_cases c2:r<n
 ·rw[if_pos c2]
  refine go ?_
  refine rt ?_
  exact⟨rfl,e03⟩
 rw[if_neg c2]
 have e0:=Hid.mk (show ∃ k:Nat,True from ⟨0,trivial⟩)
 obtain⟨csF,hcsF,pcF,hsF⟩:=slr_at (i:=f.toNat) sf3 (by omega)
 rw[hfn]at hcsF
 obtain⟨vb,rfl,sb,hlb⟩:=hcsF
 refine go ?_
 refine WX.loopA [40,41,42,43,44,45,46,47,48,49,50,51,52,53,54,55,56,57,58,59,60,61,62,63,64,65,7,66,67,6] (by kernel_rfl) (fun x=>fn.blocks.length - x.1) (fun (x:Nat×Int) t h4=>h3=h4∧tmGet t 6=I x.1∧tmGet t 7=I x.2∧0≤x.2∧x.2<manyL (fn.blocks.drop x.1)∧Hid (whereB fn.blocks (r - n)=((whereB (fn.blocks.drop x.1) x.2).1+x.1,(whereB (fn.blocks.drop x.1) x.2).2))∧manyL (fn.blocks.drop x.1)≤128) (0,r - n) ?_ ?_
 ·exact⟨rfl,sl_,sl_,by simp only;omega,by simp only[List.drop_zero];omega,⟨by simp⟩,by simp only[List.drop_zero];omega⟩
 rintro⟨k,a⟩ t h4 hsame ⟨rfl,s6,s7,ha0,ha1,hw,h128⟩
 simp only at s6 s7 ha0 ha1 hw h128
 have hk:k<fn.blocks.length:=by
  refine Classical.byContradiction fun hh=> ?_
  rw[List.drop_eq_nil_of_le (by omega)]at ha1
  simp[manyL]at ha1;omega
 obtain⟨csB,⟨vi,rfl,si,hli⟩,pcB,hsB⟩:=slr_at sb hk
 obtain⟨ia,iN,ik,rfl⟩:=slr_shape si
 have hd:=drop_cons' hk
 have hd2:=manyL_pos (fn.blocks.drop (k+1))
 rw[hd,manyL_cons]at ha1 h128
 rw[hd]at hw
 by_cases hc:((fn.blocks.getD k default).ins.length:Int)≤a
 ·have hw2:whereB (fn.blocks.getD k default::fn.blocks.drop (k+1)) a=((whereB (fn.blocks.drop (k+1)) (a - ((fn.blocks.getD k default).ins.length:Int))).1+1,(whereB (fn.blocks.drop (k+1)) (a - ((fn.blocks.getD k default).ins.length:Int))).2):=by
   conv=>lhs;unfold whereB
   rw[if_pos hc]
  have hw:=hw.out
  rw[hw2]at hw
  refine go ?_
  refine loopK_normal (k+1,a - ((fn.blocks.getD k default).ins.length:Int)) (by simp only;omega) ⟨rfl,sln,sl_,by simp only;omega,by simp only;omega,⟨by rw[hw];simp only[Prod.mk.injEq,and_true];omega⟩,by simp only;omega⟩
 ·have hw2:whereB (fn.blocks.getD k default::fn.blocks.drop (k+1)) a=(0,a):=by
   conv=>lhs;unfold whereB
   rw[if_neg hc]
  have hw:=hw.out
  rw[hw2]at hw
  refine go ?_
  refine rt ?_
  refine⟨?_,e03⟩
  rw[hw];simp[one]
end Go.Proofs.YtdcgdfbblnljjaaDoor
namespace Go.Proofs.YtdcgdfbblnljjaaDoor
open Go.Am
set_option linter.unusedVariables false
set_option linter.unusedSimpArgs false
set_option maxHeartbeats 1000000
noncomputable def body27:ACode:=(.seq (.region [⟨some 4,none,(.mov (.const (.complex Go.FloatKind.f64 0 0)))⟩]) (.seq (.region [⟨some 5,none,(.mov (.tmp 0))⟩,⟨some 6,none,(.convP 3 74 (.tmp 5))⟩,⟨some 7,none,(.mov (.tmp 1))⟩,⟨some 8,none,(.convP 3 74 (.tmp 7))⟩,⟨some 9,none,(.cplx (.tmp 6) (.tmp 8))⟩,⟨some 4,none,(.mov (.tmp 9))⟩]) .ret))
set_option maxRecDepth 100000 in
theorem tab27:tb.code 27=some ⟨10,[(4,none)],body27⟩:=by kernel_rfl
theorem dplace_ok (h:AHeap) (a b:Int):WC Tryd.prog tb 27 [I a,I b] h fun r h'=>r=cpx a b∧h=h':=by
 refine WC.of (nostub 27) tab27 ?_;simp only[mkTm,Nat.zero_add,Nat.reduceAdd]
 refine go ?_
 refine WO.cvF (n:=a) (k:= .i64) (by kernel_rfl) (by kernel_rfl) ?_
 refine go ?_
 refine WO.cvF (n:=b) (k:= .i64) (by kernel_rfl) (by kernel_rfl) ?_
 refine go ?_
 refine WO.cxF (a:=a) (b:=b) ?_
 refine go ?_
 refine rt ?_
 exact⟨rfl,rfl⟩
def setE (T:List LType) (F:List LFn) (f r block at':Int):Int:=
 if (placeL T F f r).2.2≠0 then (placeL T F f r).2.2
 else if block<0∨((F.getD f.toNat default).blocks.length:Int)≤block∨at'<0∨(((F.getD f.toNat default).blocks.getD block.toNat default).ins.length:Int)<at' then 2
 else askL T F f block
def SetP (T:List LType) (F:List LFn) (f r block at':Int):Prop:=
 (placeL T F f r).1= -1∨((placeL T F f r).1=block∧(placeL T F f r).2.1<at')∨((placeL T F f r).1≠ -1∧(placeL T F f r).1≠block∧Dom (nxF T F f) (placeL T F f r).1 block)
theorem placeL_in {T:List LType} {F:List LFn} {f r:Int} (h:(placeL T F f r).2.2=0):(askedL T F f).2=0∧((placeL T F f r).1= -1∨(0≤(placeL T F f r).1∧(placeL T F f r).1<((F.getD f.toNat default).blocks.length:Int)∧0≤(placeL T F f r).2.1∧(placeL T F f r).2.1<(((F.getD f.toNat default).blocks.getD (placeL T F f r).1.toNat default).ins.length:Int))):=by
 unfold placeL at h ⊢
 split at h
 ·rename_i hh;exact absurd h hh
 ·rename_i hh
  rw[if_neg hh]
  refine⟨by omega,?_⟩
  split at h
  ·cases h
  ·rename_i h2
   rw[if_neg h2]
   split at h
   ·rename_i h3;rw[if_pos h3];exact .inl rfl
   ·rename_i h3
    rw[if_neg h3]
    right
    exact whereB_in (by omega) (by omega)
noncomputable def body15:ACode:=(.seq (.region [⟨some 5,none,(.box (.tmp 0))⟩,⟨some 10,none,(.mov (.const (.bool false)))⟩,⟨some 11,none,(.mov (.const (.int .i64 0)))⟩]) (.seq (.region [⟨some 20,none,(.load true 2 (.tmp 5))⟩,⟨some 21,none,(.mov (.tmp 1))⟩,⟨some 22,none,(.mov (.tmp 2))⟩,⟨some 23,none,(.call (.func 26) [(.tmp 20),(.tmp 21),(.tmp 22)])⟩,⟨some 19,none,(.mov (.tmp 23))⟩,⟨some 24,none,(.extract (.tmp 19) 0)⟩,⟨some 25,none,(.extract (.tmp 19) 1)⟩,⟨some 26,none,(.extract (.tmp 19) 2)⟩,⟨some 12,none,(.mov (.tmp 24))⟩,⟨some 13,none,(.mov (.tmp 25))⟩,⟨some 14,none,(.mov (.tmp 26))⟩]) (.seq (.seq (.region [⟨some 27,none,(.mov (.tmp 14))⟩,⟨some 28,none,(.bin .neq (.tmp 27) (.const (.int .i64 0)))⟩]) (.cond (.tmp 28) (.seq (.region [⟨some 29,none,(.mov (.tmp 14))⟩,⟨some 10,none,(.mov (.const (.bool false)))⟩,⟨some 11,none,(.mov (.tmp 29))⟩]) .ret) .skip)) (.seq (.seq (.region [⟨some 30,none,(.fld 1 (.tmp 5))⟩,⟨some 31,none,(.load false 1 (.tmp 30))⟩,⟨some 32,none,(.mov (.tmp 1))⟩,⟨some 33,none,(.idx 2 (.tmp 31) (.tmp 32))⟩,⟨some 34,none,(.fld 1 (.tmp 33))⟩,⟨some 35,none,(.load false 1 (.tmp 34))⟩,⟨some 15,none,(.mov (.tmp 35))⟩]) (.seq (.region [⟨some 36,none,(.mov (.tmp 3))⟩,⟨some 37,none,(.bin .lss (.tmp 36) (.const (.int .i64 0)))⟩,⟨some 38,none,(.mov (.tmp 37))⟩,⟨some 39,some (38,false),(.mov (.tmp 3))⟩,⟨some 40,some (38,false),(.mov (.tmp 15))⟩,⟨some 41,some (38,false),(.len (.tmp 40))⟩,⟨some 42,some (38,false),(.bin .geq (.tmp 39) (.tmp 41))⟩,⟨some 43,none,(.pick (.tmp 38) (.const (.bool true)) (.tmp 42))⟩,⟨some 44,none,(.mov (.tmp 43))⟩,⟨some 45,some (44,false),(.mov (.tmp 4))⟩,⟨some 46,some (44,false),(.bin .lss (.tmp 45) (.const (.int .i64 0)))⟩,⟨some 47,none,(.pick (.tmp 44) (.const (.bool true)) (.tmp 46))⟩,⟨some 48,none,(.mov (.tmp 47))⟩,⟨some 49,some (48,false),(.mov (.tmp 4))⟩,⟨some 50,some (48,false),(.mov (.tmp 15))⟩,⟨some 51,some (48,false),(.mov (.tmp 3))⟩,⟨some 52,some (48,false),(.idx 5 (.tmp 50) (.tmp 51))⟩,⟨some 53,some (48,false),(.fld 0 (.tmp 52))⟩,⟨some 54,some (48,false),(.load false 1 (.tmp 53))⟩,⟨some 55,some (48,false),(.len (.tmp 54))⟩,⟨some 56,some (48,false),(.bin .gtr (.tmp 49) (.tmp 55))⟩,⟨some 57,none,(.pick (.tmp 48) (.const (.bool true)) (.tmp 56))⟩]) (.cond (.tmp 57) (.seq (.region [⟨some 10,none,(.mov (.const (.bool false)))⟩,⟨some 11,none,(.mov (.const (.int .i64 2)))⟩]) .ret) .skip))) (.seq (.region [⟨some 59,none,(.load true 2 (.tmp 5))⟩,⟨some 60,none,(.mov (.tmp 1))⟩,⟨some 61,none,(.mov (.tmp 3))⟩,⟨some 62,none,(.call (.func 20) [(.tmp 59),(.tmp 60),(.tmp 61)])⟩,⟨some 58,none,(.mov (.tmp 62))⟩,⟨some 63,none,(.extract (.tmp 58) 0)⟩,⟨some 64,none,(.extract (.tmp 58) 1)⟩,⟨some 16,none,(.mov (.tmp 63))⟩,⟨some 14,none,(.mov (.tmp 64))⟩]) (.seq (.seq (.region [⟨some 65,none,(.mov (.tmp 14))⟩,⟨some 66,none,(.bin .neq (.tmp 65) (.const (.int .i64 0)))⟩]) (.cond (.tmp 66) (.seq (.region [⟨some 67,none,(.mov (.tmp 14))⟩,⟨some 10,none,(.mov (.const (.bool false)))⟩,⟨some 11,none,(.mov (.tmp 67))⟩]) .ret) .skip)) (.seq (.region [⟨some 68,none,(.mov (.tmp 12))⟩,⟨some 69,none,(.mov (.tmp 13))⟩,⟨some 70,none,(.call (.func 27) [(.tmp 68),(.tmp 69)])⟩,⟨some 71,none,(.mov (.tmp 3))⟩,⟨some 72,none,(.mov (.tmp 4))⟩,⟨some 73,none,(.call (.func 27) [(.tmp 71),(.tmp 72)])⟩,⟨some 17,none,(.mov (.tmp 70))⟩,⟨some 18,none,(.mov (.tmp 73))⟩]) (.seq (.block 0 (.seq (.region [⟨some 75,none,(.mov (.tmp 12))⟩,⟨some 76,none,(.bin .eql (.tmp 75) (.const (.int .i64 (-1))))⟩,⟨some 74,none,(.mov (.tmp 76))⟩]) (.cond (.tmp 74) (.seq (.region [⟨some 10,none,(.mov (.const (.bool true)))⟩,⟨some 11,none,(.mov (.const (.int .i64 0)))⟩]) .ret) (.seq (.region [⟨some 78,none,(.mov (.tmp 17))⟩,⟨some 79,none,(.cpart false (.tmp 78))⟩,⟨some 80,none,(.mov (.tmp 18))⟩,⟨some 81,none,(.cpart false (.tmp 80))⟩,⟨some 82,none,(.binP .eql 74 (.tmp 79) (.tmp 81))⟩,⟨some 77,none,(.mov (.tmp 82))⟩]) (.cond (.tmp 77) (.seq (.region [⟨some 83,none,(.mov (.tmp 17))⟩,⟨some 84,none,(.cpart true (.tmp 83))⟩,⟨some 85,none,(.mov (.tmp 18))⟩,⟨some 86,none,(.cpart true (.tmp 85))⟩,⟨some 87,none,(.binP .lss 74 (.tmp 84) (.tmp 86))⟩,⟨some 10,none,(.mov (.tmp 87))⟩,⟨some 11,none,(.mov (.const (.int .i64 0)))⟩]) .ret) .skip))))) (.seq (.region [⟨some 88,none,(.mov (.tmp 16))⟩,⟨some 89,none,(.mov (.tmp 12))⟩,⟨some 90,none,(.mov (.tmp 3))⟩,⟨some 91,none,(.call (.func 22) [(.tmp 88),(.tmp 89),(.tmp 90)])⟩,⟨some 10,none,(.mov (.tmp 91))⟩,⟨some 11,none,(.mov (.const (.int .i64 0)))⟩]) .ret)))))))))
set_option maxRecDepth 100000 in
theorem tab15:tb.code 15=some ⟨92,[(10,none),(11,none)],body15⟩:=by kernel_rfl
theorem dSet_ok (h:AHeap) (vt vf:Value) (T:List LType) (F:List LFn) (f r block at':Int) (E:Env h vt vf T F):
  WC Tryd.prog tb 15 [.agg #[vt,vf],I f,I r,I block,I at'] h fun q h'=>(∃ bb,q= .tuple #[.bool bb,I (setE T F f r block at')]∧(setE T F f r block at'≠0→bb=false)∧(setE T F f r block at'=0→(bb=true↔SetP T F f r block at')))∧Ext h h':=by
 have hF:=E.sm.funcs
 refine WC.of (nostub 15) tab15 ?_;simp only[mkTm,Nat.zero_add,Nat.reduceAdd]
 refine go ?_
 refine WO.bx ?_
 intro p h1 e1 o1
 have E1:=E.ext e1
 refine go ?_
 refine WO.con (place_ok h1 vt vf T F f r E1) ?_
 rintro _ h2 ⟨rfl,e2⟩
 have o1:=o1.ext e2
 have e02:=e1.trans e2
 have E2:=E1.ext e2
 have sf2:=E2.sf
 by_cases hp:(placeL T F f r).2.2=0
 case neg=>
  have hp':(placeL T F f r).2.2≠0:=hp
  have hs:setE T F f r block at'=(placeL T F f r).2.2:=by unfold setE;rw[if_pos hp]
  obtain⟨ta,tn,tk,rfl⟩:=slr_shape E.st
  obtain⟨ga,gn,gk,rfl⟩:=slr_shape sf2
  rw[hs]
  refine go ?_
  refine rt ?_
  exact⟨⟨false,rfl,fun _=>rfl,fun h=>absurd h hp⟩,e02⟩
 obtain⟨hask,hpin⟩:=placeL_in hp
 have hs:setE T F f r block at'=if block<0∨((F.getD f.toNat default).blocks.length:Int)≤block∨at'<0∨(((F.getD f.toNat default).blocks.getD block.toNat default).ins.length:Int)<at' then 2 else askL T F f block:=by unfold setE;rw[if_neg (fun e=>e hp)]
 obtain⟨hf0,hf1,hpr,hn⟩:=asked_in' hask
 have hmem:=getD_memR (l:=F) (i:=f.toNat) (by omega)
 have hfn:=(prog_sig hpr).2.2.2 _ hmem
 have hbn:=fn_bounds hfn
 have himany:∀ b∈(F.getD f.toNat default).blocks,(b.ins.length:Int)≤128:=fun b hb=>by have:=ins_many hb;omega
 rw[hs,hp]
 unfold SetP
 obtain⟨csF,⟨vb,rfl,sb,hlb⟩,pcF,hsF⟩:=slr_at (i:=f.toNat) sf2 (by omega)
 obtain⟨ba,bn,bk,rfl⟩:=slr_shape sb
 obtain⟨ta,tn,tk,rfl⟩:=slr_shape E2.st
 obtain⟨ga,gn,gk,rfl⟩:=slr_shape sf2
 generalize hPb:(placeL T F f r).1=pb at *
 generalize hPn:(placeL T F f r).2.1=pn at *
 clear hs hn hfn
 by_cases c1:block<0
 ·rw[if_pos (.inl c1)]
  refine go ?_
  refine rt ?_
  exact⟨⟨false,rfl,fun _=>rfl,fun h=>by cases h⟩,e02⟩
 by_cases c2:((F.getD f.toNat default).blocks.length:Int)≤block
 ·rw[if_pos (.inr (.inl c2))]
  refine go ?_
  refine rt ?_
  exact⟨⟨false,rfl,fun _=>rfl,fun h=>by cases h⟩,e02⟩
 have hbk:block.toNat<(F.getD f.toNat default).blocks.length:=by omega
 have h128:=himany _ (getD_memR (l:=(F.getD f.toNat default).blocks) hbk)
 obtain⟨csB,⟨vi,rfl,si,hli⟩,pcB,hsB⟩:=slr_at (i:=block.toNat) sb hbk
 obtain⟨ia,iN,ik,rfl⟩:=slr_shape si
 by_cases c3:at'<0
 ·rw[if_pos (.inr (.inr (.inl c3)))]
  refine go ?_
  refine rt ?_
  exact⟨⟨false,rfl,fun _=>rfl,fun h=>by cases h⟩,e02⟩
 by_cases c4:(((F.getD f.toNat default).blocks.getD block.toNat default).ins.length:Int)<at'
 ·rw[if_pos (.inr (.inr (.inr c4)))]
  refine go ?_
  refine rt ?_
  exact⟨⟨false,rfl,fun _=>rfl,fun h=>by cases h⟩,e02⟩
 rw[if_neg (by omega)]
 have hpnb:pb= -1∨(0≤pb∧pb≤15∧0≤pn∧pn≤127):=by
  rcases hpin with h|⟨a,b,c,d⟩
  ·exact .inl h
  ·have:=himany _ (getD_memR (l:=(F.getD f.toNat default).blocks) (i:=pb.toNat) (by omega))
   exact .inr (by omega)
 refine go ?_
 refine WO.con (dasked_ok h2 _ _ T F f block E2) ?_
 rintro _ h3 ⟨⟨q,rfl,hq⟩,e3⟩
 have e03:=e02.trans e3
 by_cases ha:askL T F f block=0
 case neg=>
  have ha':askL T F f block≠0:=ha
  refine go ?_
  refine rt ?_
  exact⟨⟨false,rfl,fun _=>rfl,fun h=>absurd h ha⟩,e03⟩
 obtain⟨xs,oq,hR⟩:=hq ha
 have wb:=(ask_way ha).2
 have hR:=Hid.mk hR
 rw[ha]
 refine go ?_
 refine WO.con (dplace_ok h3 pb pn) ?_
 rintro _ _ ⟨rfl,rfl⟩
 refine go ?_
 refine WO.con (dplace_ok h3 block at') ?_
 rintro _ _ ⟨rfl,rfl⟩
 by_cases c5:pb= -1
 ·refine go ?_
  refine rt ?_
  exact⟨⟨true,rfl,fun h=>absurd rfl h,fun _=>by simp[c5]⟩,e03⟩
 refine go ?_
 refine WO.reF (a:=pb) (b:=pn) ?_
 refine go ?_
 refine WO.reF (a:=block) (b:=at') ?_
 refine go ?_
 refine WO.eqF (a:=pb) (b:=block) (by omega) (by omega) ?_
 by_cases c6:pb=block
 ·refine go ?_
  refine WO.imF (a:=pb) (b:=pn) ?_
  refine go ?_
  refine WO.imF (a:=block) (b:=at') ?_
  refine go ?_
  refine WO.ltF (a:=pn) (b:=at') (by omega) (by omega) ?_
  refine go ?_
  refine rt ?_
  refine⟨⟨_,rfl,fun h=>absurd rfl h,fun _=> ?_⟩,e03⟩
  rw[decide_eq_true_iff]
  exact⟨fun h=> .inr (.inl ⟨c6,h⟩),fun h=>by
   rcases h with h|h|h
   ·exact absurd h c5
   ·exact h.2
   ·exact absurd c6 h.2.1⟩
 ·refine go ?_
  refine WO.con (drules_ok h2 h3 q (nxF T F f) xs pb block oq ⟨hR.out.dm⟩ wb ⟨hR.out.all⟩) ?_
  rintro _ _ ⟨⟨bb,rfl,hbb⟩,rfl⟩
  refine go ?_
  refine rt ?_
  refine⟨⟨_,rfl,fun h=>absurd rfl h,fun _=> ?_⟩,e03⟩
  rw[hbb,hR.out.dom pb block wb]
  exact⟨fun h=> .inr (.inr ⟨c5,c6,h⟩),fun h=>by
   rcases h with h|h|h
   ·exact absurd h c5
   ·exact absurd h.1 c6
   ·exact h.2.2⟩
end Go.Proofs.YtdcgdfbblnljjaaDoor
namespace Go.Proofs.YtdcgdfbblnljjaaDoor
open Go.Am
set_option linter.unusedVariables false
set_option linter.unusedSimpArgs false
set_option maxHeartbeats 1000000
theorem setE_next {T:List LType} {F:List LFn} {f r block at':Int} (h:setE T F f r block at'=0):setE T F f r block (at'+1)=0∨setE T F f r block (at'+1)=2:=by
 unfold setE at h ⊢
 split at h
 ·rename_i hp;exact absurd h hp
 ·rename_i hp
  rw[if_neg hp]
  split at h
  ·cases h
  ·split
   ·exact .inr rfl
   ·exact .inl h
theorem setP_next {T:List LType} {F:List LFn} {f r block at':Int} (h:SetP T F f r block at'):SetP T F f r block (at'+1):=by
 unfold SetP at h ⊢
 rcases h with h|h|h
 ·exact .inl h
 ·exact .inr (.inl ⟨h.1,by omega⟩)
 ·exact .inr (.inr h)
noncomputable def body7:ACode:=(.seq (.region [⟨some 3,none,(.box (.tmp 0))⟩,⟨some 5,none,(.box (.tmp 2))⟩,⟨some 6,none,(.mov (.const (.bool false)))⟩]) (.seq (.region [⟨some 12,none,(.call (.func 8) [])⟩,⟨some 7,none,(.mov (.tmp 12))⟩]) (.seq (.seq (.region [⟨some 13,none,(.load true 2 (.tmp 3))⟩,⟨some 14,none,(.call (.func 9) [(.tmp 13),(.const (.int .i64 300))])⟩,⟨some 15,none,(.mov (.tmp 14))⟩,⟨some 16,some (15,false),(.fld 2 (.tmp 5))⟩,⟨some 17,some (15,false),(.load false 1 (.tmp 16))⟩,⟨some 18,some (15,false),(.bin .lss (.tmp 17) (.const (.int .i64 0)))⟩,⟨some 19,none,(.pick (.tmp 15) (.const (.bool true)) (.tmp 18))⟩,⟨some 20,none,(.mov (.tmp 19))⟩,⟨some 21,some (20,false),(.fld 2 (.tmp 5))⟩,⟨some 22,some (20,false),(.load false 1 (.tmp 21))⟩,⟨some 23,some (20,false),(.bin .gtr (.tmp 22) (.const (.int .i64 1000)))⟩,⟨some 24,none,(.pick (.tmp 20) (.const (.bool true)) (.tmp 23))⟩,⟨some 25,none,(.mov (.tmp 24))⟩,⟨some 26,some (25,false),(.mov (.tmp 7))⟩,⟨some 27,some (25,false),(.un .not (.tmp 26))⟩,⟨some 28,none,(.pick (.tmp 25) (.const (.bool true)) (.tmp 27))⟩]) (.cond (.tmp 28) (.seq (.region [⟨some 29,none,(.mov (.tmp 7))⟩,⟨some 6,none,(.mov (.tmp 29))⟩]) .ret) .skip)) (.seq (.region [⟨some 31,none,(.load true 2 (.tmp 3))⟩,⟨some 32,none,(.mov (.tmp 1))⟩,⟨some 33,none,(.fld 0 (.tmp 5))⟩,⟨some 34,none,(.load false 1 (.tmp 33))⟩,⟨some 35,none,(.fld 1 (.tmp 5))⟩,⟨some 36,none,(.load false 1 (.tmp 35))⟩,⟨some 37,none,(.fld 2 (.tmp 5))⟩,⟨some 38,none,(.load false 1 (.tmp 37))⟩,⟨some 39,none,(.call (.func 15) [(.tmp 31),(.tmp 32),(.tmp 34),(.tmp 36),(.tmp 38)])⟩,⟨some 30,none,(.mov (.tmp 39))⟩,⟨some 40,none,(.extract (.tmp 30) 0)⟩,⟨some 41,none,(.extract (.tmp 30) 1)⟩,⟨some 8,none,(.mov (.tmp 40))⟩,⟨some 9,none,(.mov (.tmp 41))⟩]) (.seq (.seq (.region [⟨some 42,none,(.mov (.tmp 9))⟩,⟨some 43,none,(.bin .neq (.tmp 42) (.const (.int .i64 0)))⟩]) (.cond (.tmp 43) (.seq (.region [⟨some 44,none,(.mov (.tmp 7))⟩,⟨some 45,none,(.mov (.tmp 44))⟩,⟨some 46,some (45,true),(.mov (.tmp 8))⟩,⟨some 47,some (45,true),(.un .not (.tmp 46))⟩,⟨some 48,none,(.pick (.tmp 45) (.tmp 47) (.const (.bool false)))⟩,⟨some 6,none,(.mov (.tmp 48))⟩]) .ret) .skip)) (.seq (.region [⟨some 50,none,(.load true 2 (.tmp 3))⟩,⟨some 51,none,(.mov (.tmp 1))⟩,⟨some 52,none,(.fld 0 (.tmp 5))⟩,⟨some 53,none,(.load false 1 (.tmp 52))⟩,⟨some 54,none,(.fld 1 (.tmp 5))⟩,⟨some 55,none,(.load false 1 (.tmp 54))⟩,⟨some 56,none,(.fld 2 (.tmp 5))⟩,⟨some 57,none,(.load false 1 (.tmp 56))⟩,⟨some 58,none,(.bin .add (.tmp 57) (.const (.int .i64 1)))⟩,⟨some 59,none,(.call (.func 15) [(.tmp 50),(.tmp 51),(.tmp 53),(.tmp 55),(.tmp 58)])⟩,⟨some 49,none,(.mov (.tmp 59))⟩,⟨some 60,none,(.extract (.tmp 49) 0)⟩,⟨some 61,none,(.extract (.tmp 49) 1)⟩,⟨some 10,none,(.mov (.tmp 60))⟩,⟨some 11,none,(.mov (.tmp 61))⟩]) (.seq (.seq (.region [⟨some 62,none,(.mov (.tmp 11))⟩,⟨some 63,none,(.bin .neq (.tmp 62) (.const (.int .i64 0)))⟩]) (.cond (.tmp 63) (.seq (.region [⟨some 64,none,(.mov (.tmp 7))⟩,⟨some 65,none,(.mov (.tmp 64))⟩,⟨some 66,some (65,true),(.mov (.tmp 11))⟩,⟨some 67,some (65,true),(.bin .eql (.tmp 66) (.const (.int .i64 2)))⟩,⟨some 68,none,(.pick (.tmp 65) (.tmp 67) (.const (.bool false)))⟩,⟨some 6,none,(.mov (.tmp 68))⟩]) .ret) .skip)) (.seq (.region [⟨some 69,none,(.mov (.tmp 7))⟩,⟨some 70,none,(.mov (.tmp 69))⟩,⟨some 71,some (70,true),(.mov (.tmp 8))⟩,⟨some 72,some (70,true),(.un .not (.tmp 71))⟩,⟨some 73,some (70,true),(.mov (.tmp 72))⟩,⟨some 74,some (73,false),(.mov (.tmp 10))⟩,⟨some 75,some (70,true),(.pick (.tmp 73) (.const (.bool true)) (.tmp 74))⟩,⟨some 76,none,(.pick (.tmp 70) (.tmp 75) (.const (.bool false)))⟩,⟨some 6,none,(.mov (.tmp 76))⟩]) .ret))))))))
set_option maxRecDepth 100000 in
theorem tab7:tb.code 7=some ⟨77,[(6,none)],body7⟩:=by kernel_rfl
theorem DomPlaces_ok (h:AHeap) (vt vf:Value) (T:List LType) (F:List LFn) (f a b c:Int) (tt:Tbl h) (hm:h.mark≤h.n) (st:SlT h vt T) (sf:SlF h vf F) (hT:(T.length:Int)≤1152921504606846976) (hF:(F.length:Int)≤1152921504606846976):
  WC Tryd.prog tb 7 [.agg #[vt,vf],I f,.agg #[I a,I b,I c]] h fun r h'=>r= .bool true:=by
 refine WC.of (nostub 7) tab7 ?_;simp only[mkTm,Nat.zero_add,Nat.reduceAdd]
 refine go ?_
 refine WO.bx ?_
 intro p h1 e1 o1
 refine go ?_
 refine WO.bx ?_
 intro p5 h2 e2 o5
 have o5:OwnC h1 h2 p5 [I a,I b,I c]:=o5
 have e02:=e1.trans e2
 have o1:=o1.ext e2
 have tt2:=tt.ext e02
 refine go ?_
 refine WO.con (alive_ok h2 tt2.1) ?_
 rintro _ _ ⟨rfl,rfl⟩
 refine go ?_
 refine WO.con (great_ok h2 vt vf T F 300 (by omega) (st.ext e02) (SlF.ext sf e02) (by omega) (by omega)) ?_
 rintro r h3 ⟨hr,e3⟩
 have o1:=o1.ext e3
 have o5:=o5.ext e3
 rcases hr with rfl|⟨rfl,sm⟩
 ·refine go ?_
  refine rt ?_
  rfl
 have E:Env h3 vt vf T F:=⟨tt2.ext e3,mark_ext e3 (mark_ext e02 hm),sm,(st.ext e02).ext e3,SlF.ext (SlF.ext sf e02) e3⟩
 by_cases c1:c<0
 ·refine go ?_
  refine rt ?_
  rfl
 by_cases c2:1000<c
 ·refine go ?_
  refine rt ?_
  rfl
 refine go ?_
 refine WO.con (dSet_ok h3 vt vf T F f a b c E) ?_
 rintro _ h4 ⟨⟨bb,rfl,hb1,hb2⟩,e4⟩
 have o1:=o1.ext e4
 have o5:=o5.ext e4
 have E:=E.ext e4
 by_cases hs:setE T F f a b c=0
 case neg=>
  have hs':setE T F f a b c≠0:=hs
  obtain rfl:=hb1 hs
  refine go ?_
  refine rt ?_
  rfl
 have hb2:=hb2 hs
 rw[hs]
 refine go ?_
 refine WO.con (dSet_ok h4 vt vf T F f a b (c+1) E) ?_
 rintro _ h5 ⟨⟨cc,rfl,hc1,hc2⟩,e5⟩
 have o1:=o1.ext e5
 have o5:=o5.ext e5
 rcases setE_next hs with hn|hn
 ·have hc2:=hc2 hn
  rw[hn]
  cases bb with
  |false=>
   refine go ?_
   refine rt ?_
   rfl
  |true=>
   obtain rfl:cc=true:=hc2.2 (setP_next (hb2.1 rfl))
   refine go ?_
   refine rt ?_
   rfl
 ·rw[hn]
  refine go ?_
  refine rt ?_
  rfl
end Go.Proofs.YtdcgdfbblnljjaaDoor
