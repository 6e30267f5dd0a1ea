/- What functions of the program come to in the abstract machine, and plain laws about it; no statement of the seat is proved in this text. -/
import Derived.Test.YtdcgdfbblnljjaaGreatDoorJe
import Derived.Test.YtdcgdfbblnljjaaGreatDoorJc
import Derived.Test.YtdcgdfbblnljjaaGreatDoorJb
namespace Go.Proofs.YtdcgdfbblnljjaaGreatDoor
open Go.Am
set_option linter.unusedVariables false
def Bst (nx:Int→List Int) (xs:List Int) (b:Int) (A:List Int) (j:Nat) (v:Int):Prop:=
 (v= -1∧∀ i,i<j→pO xs (A.getD i 0)= -1)∨
 (v≠ -1∧Way nx 0 v∧pO xs v≠ -1∧(∀ i,i<j→pO xs (A.getD i 0)≠ -1→Anc (fun b=>pO xs b) v (A.getD i 0))∧∀ y,Dom nx y b→y≠b→Dom nx y v)
theorem Bst.skip {nx:Int→List Int} {xs:List Int} {b v:Int} {A:List Int} {j:Nat} (h:Bst nx xs b A j v) (hp:pO xs (A.getD j 0)= -1):Bst nx xs b A (j+1) v:=by
 rcases h with ⟨h1,h2⟩|⟨h0,h1,h2,h3,h4⟩
 ·refine .inl ⟨h1,fun i hi=> ?_⟩
  by_cases e:i=j
  ·rw[e];exact hp
  ·exact h2 i (by omega)
 ·refine .inr ⟨h0,h1,h2,fun i hi hn=> ?_,h4⟩
  by_cases e:i=j
  ·rw[e]at hn;exact absurd hp hn
  ·exact h3 i (by omega) hn
theorem Bst.first {nx:Int→List Int} {xs:List Int} {b:Int} {A:List Int} {j:Nat} (h:Bst nx xs b A j (-1)) (hw:Way nx 0 (A.getD j 0)) (hn0:A.getD j 0≠ -1) (hb:b∈nx (A.getD j 0)) (hp:pO xs (A.getD j 0)≠ -1):Bst nx xs b A (j+1) (A.getD j 0):=by
 rcases h with ⟨_,h2⟩|⟨h0,_⟩
 ·refine .inr ⟨hn0,hw,hp,fun i hi hn=> ?_,fun y hy hyb=>hy.pred hyb hb⟩
  by_cases e:i=j
  ·rw[e];exact .here
  ·exact absurd (h2 i (by omega)) hn
 ·exact absurd rfl h0
theorem Bst.meet {nx:Int→List Int} {xs:List Int} {b v m:Int} {A:List Int} {j:Nat} (h:Bst nx xs b A j v) (hv:v≠ -1) (hm0:m≠ -1) (hb:b∈nx (A.getD j 0)) (hm:Mt nx (fun b=>qO xs b) (fun b=>pO xs b) v (A.getD j 0) m):Bst nx xs b A (j+1) m:=by
 rcases h with ⟨h1,_⟩|⟨h0,h1,h2,h3,h4⟩
 ·exact absurd h1 hv
 ·refine .inr ⟨hm0,hm.way,hm.done,fun i hi hn=> ?_,fun y hy hyb=>hm.dom y (h4 y hy hyb) (hy.pred hyb hb)⟩
  by_cases e:i=j
  ·rw[e];exact hm.right
  ·exact hm.left.trans (h3 i (by omega) hn)
theorem Bst.best {nx:Int→List Int} {xs:List Int} {b v:Int} {A:List Int} (dm:Dm nx xs) (h:Bst nx xs b A A.length v) (hA:∀ a,Way nx 0 a→b∈nx a→∃ i,i<A.length∧A.getD i 0=a) {a:Int} (wa:Way nx 0 a) (ha:b∈nx a) (pa:pO xs a≠ -1) (hlt:qO xs a<qO xs b):Best nx (fun b=>qO xs b) (fun b=>pO xs b) b v:=by
 obtain⟨i,hi,e⟩:=hA a wa ha
 rcases h with ⟨h1,h2⟩|⟨h0,h1,h2,h3,h4⟩
 ·exact absurd (by rw[←e];exact h2 i hi) pa
 ·refine⟨h1,h2,?_,fun c wc hc pc=> ?_,h4⟩
  ·have:=(dm.rl.le (by have:=h3 i hi (by rw[e];exact pa);rw[e]at this;exact this) wa).2.1
   have h5:qO xs v≤qO xs a:=this
   show qO xs v<qO xs b
   omega
  ·obtain⟨i,hi,e⟩:=hA c wc hc
   have:=h3 i hi (by rw[e];exact pc)
   rw[e]at this;exact this
structure Rul (nx:Int→List Int) (xs:List Int):Prop where
 dm:Dm nx xs
 all:∀ b,Way nx 0 b→pO xs b≠ -1
 dom:∀ y b,Way nx 0 b→(Anc (fun b=>pO xs b) y b↔Dom nx y b)
 lt:∀ b,Way nx 0 b→qO xs b<16
 un:∀ c,0≤c→c<16→¬Way nx 0 c→pO xs c= -1
theorem rul_of {nx:Int→List Int} {O qs xs:List Int} {k:Nat} (g:Md nx O qs xs xs k O.length) (hmem:∀ c,Way nx 0 c→∃ i,i<O.length∧O.getD i 0=c) (h0:O.getD 0 0=0) (hq:∀ b,Way nx 0 b→qO xs b<16):Rul nx xs:=by
 have rd:=g.done hmem
 have hall:=rd.all (by omega)
 refine⟨g.dm,hall,fun y b w=>⟨fun ha hav=> ?_,fun hd=>Rl.anc_of_dom g.dm.rpo g.dm.rl (qO xs b).toNat b y (by have h5:=g.dm.rpo.nn b w;have h5:0≤qO xs b:=h5;show qO xs b≤_;omega) w (hall b w) hd⟩,hq,g.un⟩
 obtain⟨n,hav⟩:=hav
 induction hav with
 |here h=>exact h (Anc.zero ha).symm
 |step h1 hc hne ih=>
  rename_i n a c
  cases ha with
  |here=>exact hne rfl
  |up hb hp hu=>
   obtain⟨i,hi,e⟩:=hmem c w
   have hi0:i≠0:=fun e2=>hb (by rw[←e,e2,h0])
   have:=g.fix rfl i hi hi0 a h1.way (by rw[e];exact hc) (hall a h1.way)
   rw[e]at this
   exact ih h1.way (hu.trans this)
theorem own_tail {h0 h:AHeap} {v:Value} {l:List Int} (o:OwnN h0 h v l) (hl:0<l.length):∃ r,sliceA 1 v (some 1) none none=some r∧SlI h r (l.drop 1):=by
 rcases o with ⟨rfl,rfl⟩|⟨g,g1,g2,rfl,g3⟩
 ·simp at hl
 ·refine⟨.slice (some ⟨g,1,none⟩) (l.length - 1) 1,?_,?_⟩
  ·have h1:Nat.ble 1 l.length=true:=Nat.ble_eq_true_of_le hl
   have h2:Nat.ble l.length l.length=true:=Nat.ble_eq_true_of_le (Nat.le_refl _)
   simp[sliceA,h1,h2]
  ·exact⟨by simp,.inr ⟨g,1,l.map I,by simp,yi g3,by rw[cut_ok (by simp;omega),List.map_drop,List.take_of_length_le (by simp)],g2⟩⟩
theorem own_updC {h0 h h':AHeap} {p q:Value} {cells:List Value} (o:OwnC h0 h q cells) (u:UpdC p h h') (hne:p≠q):OwnC h0 h' q cells:=by
 obtain⟨g,g1,g2,rfl,g3⟩:=o
 exact⟨g,g1,Nat.lt_of_lt_of_le g2 u.1,rfl,(u.2 g g2 hne).trans g3⟩
theorem qO_drop (l:List Int) (b:Int):qO l b=(l.drop 16).getD b.toNat 0:=by simp[qO,List.getD]
theorem eq_halves {xs ys:List Int} (hx:xs.take 16=ys.take 16) (hy:xs.drop 16=ys.drop 16):xs=ys:=by
 rw[←List.take_append_drop 16 xs,hx,hy,List.take_append_drop]
theorem ahead_in {L:List LBlk} {b:Int} {A:List Int} (hA:zS L b L.length=A) {j:Nat} (hj:j<A.length):(0≤A.getD j 0∧A.getD j 0<(L.length:Int))∧b∈nxL L (A.getD j 0):=by
 refine mem_aheadN'.1 ?_
 rw[hA,List.getD_eq_getElem?_getD,List.getElem?_eq_getElem hj]
 exact List.getElem_mem hj
end Go.Proofs.YtdcgdfbblnljjaaGreatDoor
namespace Go.Proofs.YtdcgdfbblnljjaaGreatDoor
open Go.Am
set_option linter.unusedVariables false
set_option linter.unusedSimpArgs false
set_option maxHeartbeats 1000000
theorem one_of {hB h:AHeap} {cells:List Value} {A:Nat→List Int} (hl:cells.length=16) (hall:∀ j,j<16→OwnN hB h (cells.getD j undef) (A j)):zQ cells=true:=by
 unfold zQ
 rw[List.all_eq_true]
 intro x hx
 obtain⟨j,hj,rfl⟩:=List.mem_iff_getElem.1 hx
 have e:cells.getD j undef=cells[j]:=by simp[List.getD,List.getElem?_eq_getElem hj]
 have:=hall j (by omega)
 rw[e]at this
 rcases this with ⟨h,_⟩|⟨_,_,_,h,_⟩<;>rw[h]
theorem closed_ints (l:List Int):closedD (.agg (l.map I).toArray)=true:=by
 show (l.map I).all yJ=true
 rw[List.all_eq_true]
 intro x hx
 obtain⟨n,_,rfl⟩:=List.mem_map.1 hx
 rfl
noncomputable def body39_0:ACode:=(.seq (.region [⟨some 34,none,(.bin .lss (.tmp 33) (.const (.int .i64 16)))⟩]) (.seq (.cond (.tmp 34) .skip (.exit 0)) (.seq (.block 1 (.seq (.region [⟨some 35,none,(.mov (.tmp 33))⟩,⟨some 9,none,(.mov (.tmp 35))⟩]) (.regionC [(⟨some 36,none,(.mov (.tmp 8))⟩,[]),(⟨some 37,none,(.mov (.tmp 9))⟩,[]),(⟨some 38,none,(.mov (.tmp 8))⟩,[]),(⟨some 39,none,(.mov (.tmp 9))⟩,[]),(⟨some 40,none,(.nilCheck (.tmp 36))⟩,[]),(⟨some 41,none,(.fld 0 (.tmp 40))⟩,[]),(⟨some 42,none,(.idxArr 16 1 (.tmp 41) (.tmp 37))⟩,[]),(⟨none,none,(.store 1 (.tmp 42) (.const (.int .i64 (-1))))⟩,[]),(⟨some 43,none,(.nilCheck (.tmp 38))⟩,[]),(⟨some 44,none,(.fld 16 (.tmp 43))⟩,[]),(⟨some 45,none,(.idxArr 16 1 (.tmp 44) (.tmp 39))⟩,[]),(⟨none,none,(.store 1 (.tmp 45) (.const (.int .i64 (-1))))⟩,[])]))) (.region [⟨some 46,none,(.bin .add (.tmp 33) (.const (.int .i64 1)))⟩,⟨some 33,none,(.mov (.tmp 46))⟩]))))
noncomputable def body39_1:ACode:=(.seq (.region [⟨some 50,none,(.bin .lss (.tmp 49) (.tmp 48))⟩]) (.seq (.cond (.tmp 50) .skip (.exit 2)) (.seq (.block 3 (.seq (.region [⟨some 51,none,(.mov (.tmp 49))⟩,⟨some 52,none,(.idx 1 (.tmp 47) (.tmp 49))⟩,⟨some 53,none,(.load false 1 (.tmp 52))⟩,⟨some 10,none,(.mov (.tmp 51))⟩,⟨some 11,none,(.mov (.tmp 53))⟩]) (.region [⟨some 54,none,(.mov (.tmp 8))⟩,⟨some 55,none,(.mov (.tmp 11))⟩,⟨some 56,none,(.mov (.tmp 10))⟩,⟨some 57,none,(.nilCheck (.tmp 54))⟩,⟨some 58,none,(.fld 16 (.tmp 57))⟩,⟨some 59,none,(.idxArr 16 1 (.tmp 58) (.tmp 55))⟩,⟨none,none,(.store 1 (.tmp 59) (.tmp 56))⟩]))) (.region [⟨some 60,none,(.bin .add (.tmp 49) (.const (.int .i64 1)))⟩,⟨some 49,none,(.mov (.tmp 60))⟩]))))
noncomputable def body39_2:ACode:=(.seq (.region [⟨some 81,none,(.bin .lss (.tmp 80) (.tmp 79))⟩]) (.seq (.cond (.tmp 81) .skip (.exit 8)) (.seq (.block 9 (.seq (.region [⟨some 82,none,(.idx 1 (.tmp 78) (.tmp 80))⟩,⟨some 83,none,(.load false 1 (.tmp 82))⟩,⟨some 17,none,(.mov (.tmp 83))⟩]) (.block 10 (.seq (.region [⟨some 89,none,(.mov (.tmp 8))⟩,⟨some 90,none,(.mov (.tmp 17))⟩,⟨some 91,none,(.nilCheck (.tmp 89))⟩,⟨some 92,none,(.fld 0 (.tmp 91))⟩,⟨some 93,none,(.idxArr 16 1 (.tmp 92) (.tmp 90))⟩,⟨some 94,none,(.load false 1 (.tmp 93))⟩,⟨some 95,none,(.bin .eql (.tmp 94) (.const (.int .i64 (-1))))⟩,⟨some 88,none,(.mov (.tmp 95))⟩]) (.cond (.tmp 88) .skip (.seq (.region [⟨some 97,none,(.mov (.tmp 15))⟩,⟨some 98,none,(.bin .eql (.tmp 97) (.const (.int .i64 (-1))))⟩,⟨some 96,none,(.mov (.tmp 98))⟩]) (.cond (.tmp 96) (.region [⟨some 99,none,(.mov (.tmp 17))⟩,⟨some 15,none,(.mov (.tmp 99))⟩]) (.region [⟨some 84,none,(.mov (.tmp 8))⟩,⟨some 85,none,(.mov (.tmp 15))⟩,⟨some 86,none,(.mov (.tmp 17))⟩,⟨some 87,none,(.call (.func 58) [(.tmp 84),(.tmp 85),(.tmp 86)])⟩,⟨some 15,none,(.mov (.tmp 87))⟩])))))))) (.region [⟨some 100,none,(.bin .add (.tmp 80) (.const (.int .i64 1)))⟩,⟨some 80,none,(.mov (.tmp 100))⟩]))))
noncomputable def body39_3:ACode:=(.seq (.region [⟨some 73,none,(.bin .lss (.tmp 72) (.tmp 71))⟩]) (.seq (.cond (.tmp 73) .skip (.exit 6)) (.seq (.block 7 (.seq (.region [⟨some 74,none,(.idx 1 (.tmp 70) (.tmp 72))⟩,⟨some 75,none,(.load false 1 (.tmp 74))⟩,⟨some 14,none,(.mov (.tmp 75))⟩]) (.seq (.region [⟨some 15,none,(.mov (.const (.int .i64 (-1))))⟩]) (.seq (.seq (.region [⟨some 76,none,(.mov (.tmp 14))⟩,⟨some 77,none,(.idxArr 16 1 (.tmp 7) (.tmp 76))⟩,⟨some 78,none,(.load false 1 (.tmp 77))⟩,⟨some 79,none,(.len (.tmp 78))⟩,⟨some 80,none,(.mov (.const (.int .i64 0)))⟩]) (.block 8 (.loop body39_2))) (.region [⟨some 101,none,(.mov (.tmp 8))⟩,⟨some 102,none,(.mov (.tmp 14))⟩,⟨some 103,none,(.mov (.tmp 15))⟩,⟨some 104,none,(.nilCheck (.tmp 101))⟩,⟨some 105,none,(.fld 0 (.tmp 104))⟩,⟨some 106,none,(.idxArr 16 1 (.tmp 105) (.tmp 102))⟩,⟨none,none,(.store 1 (.tmp 106) (.tmp 103))⟩]))))) (.region [⟨some 107,none,(.bin .add (.tmp 72) (.const (.int .i64 1)))⟩,⟨some 72,none,(.mov (.tmp 107))⟩]))))
noncomputable def body39_4:ACode:=(.block 5 (.seq (.region [⟨some 65,none,(.mov (.tmp 8))⟩,⟨some 66,none,(.nilCheck (.tmp 65))⟩,⟨some 67,none,(.fld 0 (.tmp 66))⟩,⟨some 68,none,(.load true 16 (.tmp 67))⟩,⟨some 12,none,(.alloc [(.int .i64 0),(.int .i64 0),(.int .i64 0),(.int .i64 0),(.int .i64 0),(.int .i64 0),(.int .i64 0),(.int .i64 0),(.int .i64 0),(.int .i64 0),(.int .i64 0),(.int .i64 0),(.int .i64 0),(.int .i64 0),(.int .i64 0),(.int .i64 0)])⟩,⟨none,none,(.store 16 (.tmp 12) (.tmp 68))⟩]) (.seq (.seq (.region [⟨some 69,none,(.mov (.tmp 5))⟩,⟨some 70,none,(.slice 1 (.tmp 69) (some (.const (.int .i64 1))) none none)⟩,⟨some 71,none,(.len (.tmp 70))⟩,⟨some 72,none,(.mov (.const (.int .i64 0)))⟩]) (.block 6 (.loop body39_3))) (.seq (.regionC [(⟨some 108,none,(.load true 16 (.tmp 12))⟩,[]),(⟨some 109,none,(.mov (.tmp 8))⟩,[]),(⟨some 110,none,(.nilCheck (.tmp 109))⟩,[]),(⟨some 111,none,(.fld 0 (.tmp 110))⟩,[]),(⟨some 112,none,(.load true 16 (.tmp 111))⟩,[]),(⟨some 113,none,(.binP .eql 71 (.tmp 108) (.tmp 112))⟩,[])]) (.cond (.tmp 113) (.exit 4) .skip)))))
noncomputable def body39:ACode:=(.seq (.region [⟨some 2,none,(.box (.tmp 0))⟩,⟨some 4,none,(.mov (.const (.pointer none)))⟩]) (.scope (.seq (.region [⟨some 19,none,(.load true 2 (.tmp 2))⟩,⟨some 20,none,(.mov (.tmp 1))⟩,⟨some 21,none,(.call (.func 56) [(.tmp 19),(.tmp 20)])⟩,⟨some 18,none,(.mov (.tmp 21))⟩,⟨some 22,none,(.extract (.tmp 18) 0)⟩,⟨some 23,none,(.extract (.tmp 18) 1)⟩,⟨some 5,none,(.mov (.tmp 22))⟩,⟨some 6,none,(.mov (.tmp 23))⟩]) (.seq (.region [⟨some 24,none,(.fld 1 (.tmp 2))⟩,⟨some 25,none,(.load false 1 (.tmp 24))⟩,⟨some 26,none,(.mov (.tmp 1))⟩,⟨some 27,none,(.idx 2 (.tmp 25) (.tmp 26))⟩,⟨some 28,none,(.fld 1 (.tmp 27))⟩,⟨some 29,none,(.load false 1 (.tmp 28))⟩,⟨some 30,none,(.call (.func 57) [(.tmp 29)])⟩,⟨some 7,none,(.alloc [(.slice none 0 0),(.slice none 0 0),(.slice none 0 0),(.slice none 0 0),(.slice none 0 0),(.slice none 0 0),(.slice none 0 0),(.slice none 0 0),(.slice none 0 0),(.slice none 0 0),(.slice none 0 0),(.slice none 0 0),(.slice none 0 0),(.slice none 0 0),(.slice none 0 0),(.slice none 0 0)])⟩,⟨none,none,(.store 16 (.tmp 7) (.tmp 30))⟩]) (.seq (.region [⟨some 31,none,(.build [(.int .i64 0),(.int .i64 0),(.int .i64 0),(.int .i64 0),(.int .i64 0),(.int .i64 0),(.int .i64 0),(.int .i64 0),(.int .i64 0),(.int .i64 0),(.int .i64 0),(.int .i64 0),(.int .i64 0),(.int .i64 0),(.int .i64 0),(.int .i64 0),(.int .i64 0),(.int .i64 0),(.int .i64 0),(.int .i64 0),(.int .i64 0),(.int .i64 0),(.int .i64 0),(.int .i64 0),(.int .i64 0),(.int .i64 0),(.int .i64 0),(.int .i64 0),(.int .i64 0),(.int .i64 0),(.int .i64 0),(.int .i64 0)] [])⟩,⟨some 32,none,(.box (.tmp 31))⟩,⟨some 8,none,(.mov (.tmp 32))⟩]) (.seq (.seq (.region [⟨some 33,none,(.mov (.const (.int .i64 0)))⟩]) (.block 0 (.loop body39_0))) (.seq (.seq (.region [⟨some 47,none,(.mov (.tmp 5))⟩,⟨some 48,none,(.len (.tmp 47))⟩,⟨some 49,none,(.mov (.const (.int .i64 0)))⟩]) (.block 2 (.loop body39_1))) (.seq (.region [⟨some 61,none,(.mov (.tmp 8))⟩,⟨some 62,none,(.nilCheck (.tmp 61))⟩,⟨some 63,none,(.fld 0 (.tmp 62))⟩,⟨some 64,none,(.idxArr 16 1 (.tmp 63) (.const (.int .i64 0)))⟩,⟨none,none,(.store 1 (.tmp 64) (.const (.int .i64 0)))⟩]) (.seq (.label 0) (.seq (.block 4 (.loop body39_4)) (.seq (.region [⟨some 114,none,(.mov (.tmp 8))⟩,⟨some 4,none,(.mov (.tmp 114))⟩]) .ret)))))))))))
set_option maxRecDepth 100000 in
theorem tab39:tb.code 39=some ⟨115,[(4,none)],body39⟩:=by kernel_rfl
theorem of_ok' (h:AHeap) (vt vf:Value) (T:List LType) (F:List LFn) (f:Int) (tt:Tbl h) (hm:h.mark≤h.n) (sm:Small T F) (st:SlT h vt T) (sf:SlF h vf F) (hb:(zC T F f 0).2=0):
  WC Tryz.prog tb 39 [.agg #[vt,vf],I f] h fun r h'=>(∃ p xs,r=p∧OwnC h h' p (xs.map I)∧Rul (nxL (zC T F f 0).1) xs)∧Ext h h':=by
 obtain⟨_,hpos,hLB,hre⟩:=zj hb
 have hreg:=regs_in hre
 obtain⟨hlen,hin⟩:=yR hb
 have hE:=blocks_ends hb
 obtain⟨law1,law2,⟨l0,law3⟩,law4,law5,law6,law7⟩:=order_law hb
 have hnd:=order_nodup hb
 have hpar:=order_par hb
 have hrpo:∀ {pos:Int→Int},(∀ i,i<(zU T F f).1.length→pos ((zU T F f).1.getD i 0)=i)→Rpo (nxL (zC T F f 0).1) pos:=fun hp=>order_rpo hb hp
 have hmem:∀ c,Way (nxL (zC T F f 0).1) 0 c→∃ i,i<(zU T F f).1.length∧(zU T F f).1.getD i 0=c:=fun c w=>yo (law4 c ((mem_reach hb).2 w))
 have hway:∀ i,i<(zU T F f).1.length→Way (nxL (zC T F f 0).1) 0 ((zU T F f).1.getD i 0):=fun i=>by
  induction i using Nat.strongRecOn with
  |_ i ih=>
   intro hi
   by_cases e:(zU T F f).1.getD i 0=0
   ·rw[e];exact .here
   ·obtain⟨j,hj,hm⟩:=hpar i hi e
    exact .step (ih j hj (by omega)) hm
 have h00:(zU T F f).1.getD 0 0=0:=by rw[law3];rfl
 have hO1:0<(zU T F f).1.length:=by rw[law3];simp
 have hbnd:∀ c,Way (nxL (zC T F f 0).1) 0 c→0≤c∧c<((zC T F f 0).1.length:Int):=fun c w=>by
  induction w with
  |here=>exact⟨Int.le_refl _,hpos⟩
  |step _ hc ih=>exact hin _ ih _ hc
 obtain⟨K,hK⟩:=steps_enough hin (by omega)
 have oerr:(zU T F f).2=0:=by unfold zU;rw[if_neg (by rw[hb];exact fun e=>e rfl)]
 clear law1 law3 law4 law5 law7
 replace law6:=Hid.mk law6
 replace hpar:=Hid.mk hpar
 replace hrpo:Hid (∀ {pos:Int→Int},(∀ i,i<(zU T F f).1.length→pos ((zU T F f).1.getD i 0)=i)→Rpo (nxL (zC T F f 0).1) pos):=Hid.mk hrpo
 replace hmem:=Hid.mk hmem
 replace hway:=Hid.mk hway
 replace hbnd:=Hid.mk hbnd
 replace hK:=Hid.mk hK
 replace hin:=Hid.mk hin
 refine WC.of (zE 39) tab39 ?_;simp only[zL,Nat.zero_add,Nat.reduceAdd]
 refine go ?_
 refine WO.bx ?_
 intro p2 h1 e1 o1
 have o1:OwnC h h1 p2 [vt,vf]:=o1
 refine go ?_
 refine WX.scope0 ?_
 refine go ?_
 refine WO.con (Order_ok h1 vt vf T F f (tt.ext e1) (zX e1 hm) sm (st.ext e1) (SlF.ext sf e1)) ?_
 rintro _ h2 ⟨⟨orv,rfl,oor⟩,e2⟩
 have e02:=e1.trans e2
 have o2:=o1.ext e2
 have sf2:=SlF.ext sf e02
 have hF:=sm.funcs
 obtain⟨csF,⟨vb,rfl,sb,hlb⟩,pcF,hsF⟩:=zZ (i:=f.toNat) sf2 (by omega)
 rw[←hLB]at sb
 rw[oerr]
 refine go ?_
 refine WO.con (ahead_ok h2 (zX e02 hm) vb (zC T F f 0).1 sb hE) ?_
 rintro _ h3 ⟨⟨cells,rfl,hcl,hca⟩,e3⟩
 have e03:=e02.trans e3
 refine go ?_
 refine WO.al ?_
 intro p7 h4 e4 o4
 have e04:=e03.trans e4
 refine WO.stC0 (cs:=cells) o4 e4 ?_ (hn:=hcl) (h1:=one_of hcl hca)
 intro hb0 e5 o5 u5
 have eb:=e03.trans e5
 have sor:SlI hb0 orv (zU T F f).1:=oor.sl.ext (e3.trans e5)
 have spr:Hid (∀ j,j<16→SlI hb0 (cells.getD j undef) (zS (zC T F f 0).1 (j:Int) (zC T F f 0).1.length)):=⟨fun j hj=>(hca j hj).sl.ext e5⟩
 have o7:OwnC h hb0 p7 cells:=o5.since e03
 obtain⟨g7,rfl⟩:∃ g7,p7= .pointer (some ⟨g7,0,none⟩):=let ⟨g,_,_,e,_⟩:=o7;⟨g,e⟩
 have oorN:OwnN h hb0 orv (zU T F f).1:=(oor.ext (e3.trans e5)).since e1
 clear o4 o5 u5 pcF hsF sb sf2 hca oor
 generalize hO:(zU T F f).1=O at *
 generalize hnx:nxL (zC T F f 0).1=nx at *
 refine go ?_
 refine WO.bx ?_
 intro p8 h6 e6 o6
 obtain⟨g8,hg8,hg8',rfl⟩:∃ g8,hb0.n≤g8∧g8<h6.n∧p8= .pointer (some ⟨g8,0,none⟩):=let ⟨g,a,b,c,_⟩:=o6;⟨g,a,b,c⟩
 have o8:OwnC hb0 h6 (.pointer (some ⟨g8,0,none⟩)) ((List.replicate 32 (0:Int)).map I):=o6
 clear o6
 have hmk:hb0.mark≤hb0.n:=zX eb hm
 refine go ?_
 refine WX.loopA [34,35,9,36,37,38,39,40,41,42,43,44,45,46,33] (by kernel_rfl) (fun k=>17 - k) (fun (k:Nat) t h'=>zB t 33=I (k:Int)∧k≤16∧Ext hb0 h'∧∃ xs:List Int,OwnC hb0 h' (.pointer (some ⟨g8,0,none⟩)) (xs.map I)∧xs.length=32∧Hid (∀ j,j<k→xs.getD j 0= -1∧xs.getD (16+j) 0= -1)) 0 ?_ ?_
 ·exact⟨sl_,by omega,e6,_,o8,by simp,⟨fun j hj=>by omega⟩⟩
 rintro k t h7 hsame ⟨s33,hk,e7,xs,o9,hlx,hx⟩
 refine go ?_
 refine WX.br (fun hc=> ?_) (fun hc=> ?_)<;>simp only[DB]at hc
 ·have hk':k<16:=by omega
  refine go ?_
  refine WX.regionU2 0 rfl rfl ?_
  have oX:OwnC hb0 (inC (zF 0 h7)) (.pointer (some ⟨g8,0,none⟩)) (xs.map I):=o9
  refine goU ?_
  refine WU2.st1 (j:=k) oX (by rw[e7.mark];exact hmk) (by omega) ?_
  intro X1 n1 oX1 u1 w1
  have oY1:OwnC hb0 (inC X1) (.pointer (some ⟨g8,0,none⟩)) ((xs.set k (-1)).map I):=oX1
  have hl1:(xs.set k (-1)).length=32:=by rw[List.length_set];exact hlx
  refine goU ?_
  refine WU2.stE (j:=16+k) oX1 e7 (by rw[e7.mark];exact hmk) n1 u1 w1 (by rw[List.length_set];omega) ?_
  intro h8 e8 o8' u8
  refine go ?_
  refine zA (k+1) (by omega) ⟨sl_,by omega,e8,_,o8',by simp[hlx],⟨fun j hj=> ?_⟩⟩
  simp only[ye (show 16+k<(xs.set k (-1)).length by omega),ye (show k<xs.length by omega)]
  by_cases e:j=k
  ·rw[if_neg (by omega),if_pos e,if_pos (by omega)];exact⟨rfl,rfl⟩
  ·rw[if_neg (by omega),if_neg e,if_neg (by omega),if_neg (by omega)];exact hx.out j (by omega)
 have hkk:k=16:=by omega
 subst hkk
 replace hx:Hid (∀ j,j<32→xs.getD j 0= -1):=⟨fun j hj=>by
  by_cases h:j<16
  ·exact(hx.out j h).1
  ·have:=(hx.out (j - 16) (by omega)).2
   rw[show 16+(j - 16)=j by omega]at this;exact this⟩
 refine go ?_
 have osl7:SlI h7 orv O:=sor.ext e7
 have hmemO:∀ i,i<O.length→O.getD i 0∈O:=fun i hi=>by rw[List.getD_eq_getElem?_getD,List.getElem?_eq_getElem hi];exact List.getElem_mem hi
 have hOb:∀ i,i<O.length→0≤O.getD i 0∧O.getD i 0<16:=fun i hi=>by have:=law6.out _ (hmemO i hi);omega
 replace hmemO:=Hid.mk hmemO
 replace hOb:=Hid.mk hOb
 refine WX.loopA [50,51,52,53,10,11,54,55,56,57,58,59,60,49] (by kernel_rfl) (fun k=>O.length+1 - k) (fun (k:Nat) t h'=>zB t 49=I (k:Int)∧k≤O.length∧Ext hb0 h'∧∃ xs:List Int,OwnC hb0 h' (.pointer (some ⟨g8,0,none⟩)) (xs.map I)∧xs.length=32∧Hid ((∀ j,j<16→xs.getD j 0= -1)∧∀ i,i<k→xs.getD (16+(O.getD i 0).toNat) 0=i)) 0 ?_ ?_
 ·exact⟨sl_,by omega,e7,_,o9,hlx,⟨fun j hj=>hx.out j (by omega),fun i hi=>by omega⟩⟩
 clear e7 o9 osl7
 rintro k t2 h7 hsame2 ⟨s49,hk,e7,xs,o9,hlx,hx⟩
 have osl7:SlI h7 orv O:=sor.ext e7
 refine go ?_
 refine WX.br (fun hc=> ?_) (fun hc=> ?_)<;>simp only[DB]at hc
 ·have hk':k<O.length:=by omega
  obtain⟨hb1,hb2⟩:=hOb.out k hk'
  refine go ?_
  refine WO.stI1 (j:=16+(O.getD k 0).toNat) o9 e7 (by omega) ?_
  intro h8 e8 o8' u8
  refine go ?_
  refine zA (k+1) (by omega) ⟨sl_,by omega,e8,_,o8',by simp[hlx],⟨fun j hj=> ?_,fun i hi=> ?_⟩⟩
  ·rw[ye (by omega),if_neg (by omega)];exact hx.out.1 j hj
  ·rw[ye (by omega)]
   obtain⟨hb3,hb4⟩:=hOb.out i (by omega)
   by_cases e:i=k
   ·subst e;rw[if_pos rfl]
   ·rw[if_neg (fun e2=>e (nodup_getD hnd (by omega) hk' (by omega)))];exact hx.out.2 i (by omega)
 have hkk:k=O.length:=by omega
 subst hkk
 refine go ?_
 refine WO.stI1 (j:=0) o9 e7 (by omega) ?_
 clear e7
 intro h8 e8 o8' u8
 obtain⟨xs0,hxs0⟩:∃ l,l=xs.set 0 (0:Int):=⟨_,rfl⟩
 rw[←hxs0]at o8'
 have hl0:xs0.length=32:=by rw[hxs0];simp[hlx]
 have hp0:∀ j,j<16→xs0.getD j 0=if j=0 then 0 else -1:=fun j hj=>by
  rw[hxs0,ye (by omega)]
  by_cases e:j=0
  ·rw[if_pos e,if_pos e]
  ·rw[if_neg e,if_neg e];exact hx.out.1 j hj
 have hq0:∀ i,i<O.length→xs0.getD (16+(O.getD i 0).toNat) 0=i:=fun i hi=>by
  rw[hxs0,ye (by omega),if_neg (by omega)];exact hx.out.2 i hi
 obtain⟨qs,hqs⟩:∃ l,l=xs0.drop 16:=⟨_,rfl⟩
 have r0:Rnd nx qs xs0 0:=by
  have hz:pO xs0 0=0:=(hp0 0 (by omega)).trans (if_pos rfl)
  have rp:Rpo nx (fun b=>qO xs0 b):=hrpo.out fun i hi=>hq0 i hi
  refine⟨⟨hl0,rp,?_,fun c w=>by have:=hbnd.out c w;omega⟩,hqs.symm,?_,?_,?_⟩
  ·have hm1:∀ b,Way nx 0 b→b≠0→pO xs0 b= -1:=fun b w hb=>by
    have:=hbnd.out b w
    exact(hp0 b.toNat (by omega)).trans (if_neg (by omega))
   exact⟨hz,fun b w hb hp=>absurd (hm1 b w hb) hp,fun b w hb hp=>absurd (hm1 b w hb) hp⟩
  ·intro c x hx
   cases hx with
   |here h=>exact far_zero (nx:=nx) (p:=fun b=>pO xs0 b) (k:=0) hz x (.here h)
  ·intro c h1 h2 h3
   exact(hp0 c.toNat (by omega)).trans (if_neg (fun e=>h3 (by rw[show c=0 by omega];exact .here)))
  ·intro h;omega
 obtain⟨vt',hrt,stl⟩:=own_tail oorN hO1
 have hqO:∀ {l:List Int},l.drop 16=qs→∀ i,i<O.length→qO l (O.getD i 0)=i:=fun e i hi=>by
  rw[qO_drop,e,hqs,←qO_drop];exact hq0 i hi
 replace hqO:Hid (∀ {l:List Int},l.drop 16=qs→∀ i,i<O.length→qO l (O.getD i 0)=i):=Hid.mk hqO
 clear hp0 hq0 hqs hxs0 hx
 refine go ?_
 refine WX.loopA [65,66,67,68,12,69,70,71,72,73,74,75,14,15,76,77,78,79,80,81,82,83,17,89,90,91,92,93,94,95,88,97,98,96,99,15,84,85,86,87,15,100,80,101,102,103,104,105,106,107,72,108,109,110,111,112,113] (by kernel_rfl) (fun p=>max K 1+1 - p.1) (fun (p:Nat×List Int) t h'=>Ext hb0 h'∧OwnC hb0 h' (.pointer (some ⟨g8,0,none⟩)) (p.2.map I)∧p.1≤max K 1∧Hid (Rnd nx qs p.2 p.1)) (0,xs0) ?_ ?_
 ·exact⟨e8,o8',Nat.zero_le _,⟨r0⟩⟩
 clear e8 o8' u8 r0 o9 osl7
 rintro⟨k,xs⟩ t3 h9 hsame3 ⟨e9,o9,hkK,⟨r⟩⟩
 simp only at o9 hkK r
 have hlx:=r.dm.len
 replace r:=Hid.mk r
 refine go ?_
 refine WO.ldMany (j:=0) (n:=16) o9 (by omega) ?_
 refine go ?_
 refine WO.al ?_
 intro p12 h10 e10 o10
 refine go ?_
 refine WO.stC0 (cs:=((xs.drop 0).take 16).map I) o10 e10 ?_ (hn:=by simp;omega) (h1:=one_ints _)
 intro h11 e11 o11 u11
 have o11:OwnC hb0 h11 p12 (((xs.drop 0).take 16).map I):=o11.since e9
 obtain⟨g12,hg12,rfl⟩:∃ g12,h9.n≤g12∧p12= .pointer (some ⟨g12,0,none⟩):=let ⟨g,a,b,c,_⟩:=o10;⟨g,a,c⟩
 have h98:g8<h9.n:=by obtain⟨q,q1,q2,q3,_⟩:=o9;cases q3;exact q2
 have hne:Value.pointer (some ⟨g8,0,none⟩)≠ .pointer (some ⟨g12,0,none⟩):=fun e=>by cases e;omega
 have e11':=e9.trans e11
 have o9:=o9.ext e11
 have stl11:SlI h11 vt' (O.drop 1):=stl.ext e11'
 refine go ?_
 refine WO.slLo (i:=1) hrt ?_ (hy:=rfl)
 refine go ?_
 have hdl:(O.drop 1).length=O.length - 1:=by simp
 refine WX.loopA [73,74,75,14,15,76,77,78,79,80,81,82,83,17,89,90,91,92,93,94,95,88,97,98,96,99,15,84,85,86,87,15,100,80,101,102,103,104,105,106,107,72] (by kernel_rfl) (fun p=>O.length - p.1) (fun (p:Nat×List Int) t h'=>zB t 72=I (p.1:Int)∧p.1+1≤O.length∧Ext hb0 h'∧OwnC hb0 h' (.pointer (some ⟨g8,0,none⟩)) (p.2.map I)∧OwnC hb0 h' (.pointer (some ⟨g12,0,none⟩)) (((xs.drop 0).take 16).map I)∧Hid (Md nx O qs xs p.2 k (p.1+1))) (0,xs) ?_ ?_
 ·exact⟨sl_,by omega,e11',o9,o11,⟨Md.start r.out h00⟩⟩
 clear e11' o9 o11 stl11
 rintro⟨m,ys⟩ t4 h12 hsame4 ⟨s72,hm72,e12,o12,ow12,g⟩
 simp only at s72 hm72 o12 g
 have hly:=g.out.dm.len
 have stl12:SlI h12 vt' (O.drop 1):=stl.ext e12
 refine go ?_
 refine WX.br (fun hc=> ?_) (fun hc=> ?_)<;>simp only[DB]at hc
 ·have hm':m+1<O.length:=by omega
  have hmd:m<(O.drop 1).length:=by omega
  have hdg:(O.drop 1).getD m 0=O.getD (m+1) 0:=by simp[List.getD,Nat.add_comm]
  obtain⟨hb1,hb2⟩:=hOb.out (m+1) hm'
  have hwb:=hway.out (m+1) hm'
  obtain⟨ja,hja,hjb⟩:=hpar.out (m+1) hm' (fun e=>by have:=nodup_getD hnd hm' hO1 (e.trans h00.symm);omega)
  have hbne:O.getD (m+1) 0≠0:=fun e=>by have:=nodup_getD hnd hm' hO1 (e.trans h00.symm);omega
  refine go ?_
  rw[hdg]
  generalize hbO:O.getD (m+1) 0=b at *
  have o7b:OwnC h h12 (.pointer (some ⟨g7,0,none⟩)) cells:=o7.ext e12
  have hb16:b.toNat<16:=by omega
  obtain⟨A,hA⟩:∃ A,zS (zC T F f 0).1 b (zC T F f 0).1.length=A:=⟨_,rfl⟩
  have sA:SlI h12 (cells.getD b.toNat undef) A:=by
   have:=(spr.out b.toNat hb16).ext e12
   rw[show ((b.toNat:Nat):Int)=b by omega,hA]at this;exact this
  have hA16:A.length≤16:=by rw[←hA];have:=aheadN_len (zC T F f 0).1 b (zC T F f 0).1.length;omega
  have hAin:Hid (∀ j,j<A.length→(0≤A.getD j 0∧A.getD j 0<16)∧b∈nx (A.getD j 0)):=⟨fun j hj=>by
   have:=ahead_in hA hj
   rw[hnx]at this;exact⟨by omega,this.2⟩⟩
  refine go ?_
  refine WO.ldV (i:=b.toNat) o7b (by omega) ?_
  refine go ?_
  have dmy:Hid (Dm nx ys):=⟨g.out.dm⟩
  have huy:Hid (∀ a,0≤a→a<16→pO ys a≠ -1→Way nx 0 a):=⟨fun a h1 h2 h3=>Classical.byContradiction fun h4=>h3 (g.out.un a h1 h2 h4)⟩
  refine WX.loopA [81,82,83,17,89,90,91,92,93,94,95,88,97,98,96,99,15,84,85,86,87,15,100,80] (by kernel_rfl) (fun p=>A.length - p.1) (fun (p:Nat×Int) t h'=>h12=h'∧zB t 80=I (p.1:Int)∧p.1≤A.length∧zB t 15=I p.2∧Hid (Bst nx ys b A p.1 p.2)) (0,-1) ?_ ?_
  ·exact⟨rfl,sl_,by omega,sl_,⟨.inl ⟨rfl,fun i hi=>by omega⟩⟩⟩
  rintro⟨j,v⟩ t5 _ hsame5 ⟨rfl,s80,hj,s15,bst⟩
  simp only at s80 hj s15 bst
  refine go ?_
  refine WX.br (fun hd=> ?_) (fun hd=> ?_)<;>simp only[DB]at hd
  ·have hj':j<A.length:=by omega
   obtain⟨⟨ha1,ha2⟩,hab⟩:=hAin.out j hj'
   refine go ?_
   generalize haA:A.getD j 0=a at *
   refine WX.br (fun hq=> ?_) (fun hq=> ?_)<;>simp only[DB]at hq
   ·refine go ?_
    refine zA (j+1,v) (by show A.length - (j+1)<A.length - j;omega) ⟨rfl,sl_,by show j+1≤_;omega,sl_,⟨bst.out.skip (by rw[haA];exact hq)⟩⟩
   have wa:=huy.out a ha1 ha2 hq
   refine go ?_
   refine WX.br (fun hv=> ?_) (fun hv=> ?_)<;>simp only[DB]at hv
   ·have hv:v= -1:=hv
    subst hv
    refine go ?_
    refine zA (j+1,a) (by show A.length - (j+1)<A.length - j;omega) ⟨rfl,sl_,by show j+1≤_;omega,sl_,⟨?_⟩⟩
    have:=bst.out.first (by rw[haA];exact wa) (by rw[haA];omega) (by rw[haA];exact hab) (by rw[haA];exact hq)
    rw[haA]at this;exact this
   have hv:v≠ -1:=hv
   have wv:Way nx 0 v∧pO ys v≠ -1:=by
    rcases bst.out with ⟨e,_⟩|⟨_,e1,e2,_⟩
    ·exact absurd e hv
    ·exact⟨e1,e2⟩
   refine go ?_
   refine WO.con (meet_ok hb0 h12 (.pointer (some ⟨g8,0,none⟩)) nx ys v a o12 dmy wv.1 wa wv.2 hq) ?_
   rintro _ _ ⟨⟨mm,rfl,hmt⟩,rfl⟩
   refine go ?_
   have hmm:=dmy.out.bnd mm hmt.way
   refine zA (j+1,mm) (by show A.length - (j+1)<A.length - j;omega) ⟨rfl,sl_,by show j+1≤_;omega,sl_,⟨?_⟩⟩
   exact bst.out.meet hv (by omega) (by rw[haA];exact hab) (by rw[haA];exact hmt)
  have hjj:j=A.length:=by omega
  subst hjj
  have bt:Best nx (fun b=>qO ys b) (fun b=>pO ys b) b v:=by
   have wp:=hway.out ja (by omega)
   refine bst.out.best dmy.out (fun a wa hab=> ?_) wp hjb (g.out.pre ja hja).2 ?_
   ·refine yo ?_
    rw[←hA]
    exact mem_aheadN'.2 ⟨hbnd.out a wa,by rw[hnx];exact hab⟩
   ·rw[hqO.out g.out.qs ja (by omega),←hbO,hqO.out g.out.qs (m+1) hm'];omega
  refine go ?_
  refine WO.stI1 (j:=b.toNat) o12 e12 (by omega) ?_
  intro h13 e13 o13 u13
  have ow13:=own_updC ow12 u13 hne
  refine go ?_
  refine zA (m+1,ys.set b.toNat v) (by show O.length - (m+1)<O.length - m;omega) ⟨sl_,by show m+1+1≤_;omega,e13,o13,ow13,⟨?_⟩⟩
  have:=g.out.step (v:=v) hnd hm' (by omega) (by rw[hbO];exact hbne) (by rw[hbO];exact hwb) (by rw[hbO];exact bt) hlx
  rw[hbO]at this;exact this
 have hmm:m+1=O.length:=by omega
 have g:Hid (Md nx O qs xs ys k O.length):=by rw[←hmm];exact g
 clear stl12 hm72 hc
 refine go ?_
 refine WO.ldMany (j:=0) (n:=16) ow12 (by simp;omega) ?_ (hx:=by show Ope _ _ (.pointer (some ⟨g12,0,none⟩));exact z9)
 refine go ?_
 refine WO.ldMany (j:=0) (n:=16) o12 (by omega) ?_
 refine WO.bp (eq_arrB (n:=16) (xs:=(((xs.drop 0).take 16).drop 0).take 16) (ys:=(ys.drop 0).take 16) (by kernel_rfl) (by simp;omega) (by simp;omega)) ?_ (hc:=by rw[closed_ints,closed_ints];rfl)
 have hde:decide (((((xs.drop 0).take 16).drop 0).take 16)=((ys.drop 0).take 16))=decide (xs=ys):=decide_eq_decide.2 ⟨fun e=>by
  simp only[List.drop_zero,List.take_take,Nat.min_self]at e
  exact eq_halves e (r.out.qs.trans g.out.qs.symm),fun e=>by rw[e];simp[List.take_take]⟩
 rw[hde]
 have rd:=g.out.done hmem.out
 refine go ?_
 refine WX.br (fun hd=> ?_) (fun hd=> ?_)<;>simp only[DB]at hd
 ·have hd:xs=ys:=hd
  subst hd
  refine go ?_
  refine scope0K_ret ?_
  refine rt ?_
  exact⟨⟨_,xs,rfl,(o12.since eb),rul_of g.out hmem.out h00 fun b w=>by obtain⟨i,hi,e⟩:=hmem.out b w;rw[←e,hqO.out g.out.qs i hi];omega⟩,eb.trans e12⟩
 have hkk:k<max K 1:=by
  refine Nat.lt_of_not_le fun hle=>hd ?_
  exact(round_same r.out g.out hmem.out h00 hbnd.out hK.out (by omega) (by omega) hlx hnd hway.out).symm
 refine go ?_
 exact zA (k+1,ys) (by show max K 1+1 - (k+1)<max K 1+1 - k;omega) ⟨e12,o12,by show k+1≤_;omega,⟨rd⟩⟩
end Go.Proofs.YtdcgdfbblnljjaaGreatDoor
namespace Go.Proofs.YtdcgdfbblnljjaaGreatDoor
open Go.Am
set_option linter.unusedVariables false
set_option linter.unusedSimpArgs false
set_option maxHeartbeats 1000000
def nxF (T:List LType) (F:List LFn) (f:Int):Int→List Int:=nxL (zC T F f 0).1
def askL (T:List LType) (F:List LFn) (f b:Int):Int:=
 if (zC T F f 0).2≠0 then (zC T F f 0).2 else if b<0∨((zC T F f 0).1.length:Int)≤b then 2 else if b∈(yW T F f).1 then 0 else 6
theorem ask_way {T:List LType} {F:List LFn} {f b:Int} (h:askL T F f b=0):(zC T F f 0).2=0∧Way (nxF T F f) 0 b:=by
 unfold askL at h
 split at h
 ·rename_i hb;exact absurd h hb
 ·rename_i hb
  have hb:(zC T F f 0).2=0:=by simpa using hb
  split at h
  ·cases h
  ·split at h
   ·rename_i hm;exact⟨hb,(mem_reach hb).1 hm⟩
   ·cases h
theorem way_in {T:List LType} {F:List LFn} {f b:Int} (hb:(zC T F f 0).2=0) (w:Way (nxF T F f) 0 b):0≤b∧b<((zC T F f 0).1.length:Int):=by
 obtain⟨_,hpos,_,_⟩:=zj hb
 obtain⟨hlen,hin⟩:=yR hb
 induction w with
 |here=>exact⟨Int.le_refl _,hpos⟩
 |step _ hc ih=>exact hin _ ih _ hc
theorem next_of {T:List LType} {F:List LFn} {f b:Int} (hb:(zC T F f 0).2=0) (w:Way (nxF T F f) 0 b):(NextL T F f b).2=0:=by
 rw[next_err,blocks_other hb (way_in hb w)];exact hb
structure Env (h:AHeap) (vt vf:Value) (T:List LType) (F:List LFn):Prop where
 tt:Tbl h
 hm:h.mark≤h.n
 sm:Small T F
 st:SlT h vt T
 sf:SlF h vf F
theorem Env.ext {h h':AHeap} {vt vf:Value} {T:List LType} {F:List LFn} (E:Env h vt vf T F) (e:Ext h h'):Env h' vt vf T F:=
 ⟨E.tt.ext e,zX e E.hm,E.sm,E.st.ext e,SlF.ext E.sf e⟩
noncomputable def body21:ACode:=(.seq (.region [⟨some 3,none,(.box (.tmp 0))⟩,⟨some 6,none,(.mov (.const (.pointer none)))⟩,⟨some 7,none,(.mov (.const (.int .i64 0)))⟩]) (.seq (.region [⟨some 11,none,(.load true 2 (.tmp 3))⟩,⟨some 12,none,(.mov (.tmp 1))⟩,⟨some 13,none,(.call (.func 37) [(.tmp 11),(.tmp 12)])⟩,⟨some 10,none,(.mov (.tmp 13))⟩,⟨some 14,none,(.extract (.tmp 10) 0)⟩,⟨some 15,none,(.extract (.tmp 10) 1)⟩,⟨some 8,none,(.mov (.tmp 14))⟩,⟨some 9,none,(.mov (.tmp 15))⟩]) (.seq (.block 0 (.seq (.region [⟨some 17,none,(.mov (.tmp 9))⟩,⟨some 18,none,(.bin .neq (.tmp 17) (.const (.int .i64 0)))⟩,⟨some 16,none,(.mov (.tmp 18))⟩]) (.cond (.tmp 16) (.seq (.region [⟨some 19,none,(.mov (.tmp 9))⟩,⟨some 6,none,(.mov (.const (.pointer none)))⟩,⟨some 7,none,(.mov (.tmp 19))⟩]) .ret) (.seq (.region [⟨some 21,none,(.mov (.tmp 2))⟩,⟨some 22,none,(.bin .lss (.tmp 21) (.const (.int .i64 0)))⟩,⟨some 23,none,(.mov (.tmp 22))⟩,⟨some 24,some (23,false),(.mov (.tmp 2))⟩,⟨some 25,some (23,false),(.fld 1 (.tmp 3))⟩,⟨some 26,some (23,false),(.load false 1 (.tmp 25))⟩,⟨some 27,some (23,false),(.mov (.tmp 1))⟩,⟨some 28,some (23,false),(.idx 2 (.tmp 26) (.tmp 27))⟩,⟨some 29,some (23,false),(.fld 1 (.tmp 28))⟩,⟨some 30,some (23,false),(.load false 1 (.tmp 29))⟩,⟨some 31,some (23,false),(.len (.tmp 30))⟩,⟨some 32,some (23,false),(.bin .geq (.tmp 24) (.tmp 31))⟩,⟨some 33,none,(.pick (.tmp 23) (.const (.bool true)) (.tmp 32))⟩,⟨some 20,none,(.mov (.tmp 33))⟩]) (.cond (.tmp 20) (.seq (.region [⟨some 6,none,(.mov (.const (.pointer none)))⟩,⟨some 7,none,(.mov (.const (.int .i64 2)))⟩]) .ret) (.seq (.region [⟨some 35,none,(.mov (.tmp 8))⟩,⟨some 36,none,(.mov (.tmp 2))⟩,⟨some 37,none,(.call (.func 38) [(.tmp 35),(.tmp 36)])⟩,⟨some 38,none,(.un .not (.tmp 37))⟩,⟨some 34,none,(.mov (.tmp 38))⟩]) (.cond (.tmp 34) (.seq (.region [⟨some 6,none,(.mov (.const (.pointer none)))⟩,⟨some 7,none,(.mov (.const (.int .i64 6)))⟩]) .ret) .skip))))))) (.seq (.region [⟨some 39,none,(.load true 2 (.tmp 3))⟩,⟨some 40,none,(.mov (.tmp 1))⟩,⟨some 41,none,(.call (.func 39) [(.tmp 39),(.tmp 40)])⟩,⟨some 6,none,(.mov (.tmp 41))⟩,⟨some 7,none,(.mov (.const (.int .i64 0)))⟩]) .ret))))
set_option maxRecDepth 100000 in
theorem tab21:tb.code 21=some ⟨42,[(6,none),(7,none)],body21⟩:=by kernel_rfl
theorem dasked_ok (h:AHeap) (vt vf:Value) (T:List LType) (F:List LFn) (f b:Int) (E:Env h vt vf T F):
  WC Tryz.prog tb 21 [.agg #[vt,vf],I f,I b] h fun r h'=>(∃ p,r= .tuple #[p,I (askL T F f b)]∧(askL T F f b=0→∃ xs,OwnC h h' p (xs.map I)∧Rul (nxF T F f) xs))∧Ext h h':=by
 refine WC.of (zE 21) tab21 ?_;simp only[zL,Nat.zero_add,Nat.reduceAdd]
 refine go ?_
 refine WO.bx ?_
 intro p h1 e1 o1
 have E1:=E.ext e1
 refine go ?_
 refine WO.con (Reach_ok h1 vt vf T F f E1.tt E1.hm E1.sm E1.st E1.sf) ?_
 rintro _ h2 ⟨⟨rev,rfl,ore⟩,e2⟩
 have e02:=e1.trans e2
 have E2:=E1.ext e2
 have o2:=o1.ext e2
 have sre:=ore.sl
 rw[reach_err]
 by_cases hb:(zC T F f 0).2=0
 case neg=>
  have hb':(zC T F f 0).2≠0:=hb
  have ha:askL T F f b=(zC T F f 0).2:=by unfold askL;rw[if_pos hb]
  refine go ?_
  refine rt ?_
  rw[ha]
  exact⟨⟨_,rfl,fun h=>absurd h hb⟩,e02⟩
 obtain⟨_,hpos,hLB,hre⟩:=zj hb
 have hreg:=regs_in hre
 obtain⟨hlen,hin⟩:=yR hb
 rw[hb]
 have hF:=E.sm.funcs
 have sf2:=E2.sf
 refine go ?_
 by_cases hb0:b<0
 ·have ha:askL T F f b=2:=by unfold askL;rw[if_neg (by rw[hb];exact fun e=>e rfl),if_pos (.inl hb0)]
  refine go ?_
  refine rt ?_
  rw[ha]
  exact⟨⟨_,rfl,fun h=>by cases h⟩,e02⟩
 obtain⟨csF,⟨vb,rfl,sb,hlb⟩,pcF,hsF⟩:=zZ (i:=f.toNat) sf2 (by omega)
 rw[←hLB]at sb
 by_cases hb1:((zC T F f 0).1.length:Int)≤b
 ·have ha:askL T F f b=2:=by unfold askL;rw[if_neg (by rw[hb];exact fun e=>e rfl),if_pos (.inr hb1)]
  refine go ?_
  refine rt ?_
  rw[ha]
  exact⟨⟨_,rfl,fun h=>by cases h⟩,e02⟩
 have hml:((yW T F f).1.length:Int)≤9223372036854775807:=by
  obtain⟨l1,l2,_⟩:=order_law hb
  omega
 refine go ?_
 refine WO.con (contains_ok h2 rev (yW T F f).1 b sre hml) ?_
 rintro _ _ ⟨rfl,rfl⟩
 by_cases hbr:b∈(yW T F f).1
 case neg=>
  have ha:askL T F f b=6:=by unfold askL;rw[if_neg (by rw[hb];exact fun e=>e rfl),if_neg (by omega),if_neg hbr]
  refine go ?_
  refine rt ?_
  rw[ha]
  exact⟨⟨_,rfl,fun h=>by cases h⟩,e02⟩
 have ha:askL T F f b=0:=by unfold askL;rw[if_neg (by rw[hb];exact fun e=>e rfl),if_neg (by omega),if_pos hbr]
 refine go ?_
 refine WO.con (of_ok' h2 vt vf T F f E2.tt E2.hm E2.sm E2.st E2.sf hb) ?_
 rintro _ h3 ⟨⟨q,xs,rfl,oq,hR⟩,e3⟩
 refine go ?_
 refine rt ?_
 rw[ha]
 exact⟨⟨_,rfl,fun _=>⟨xs,oq.since e02,hR⟩⟩,e02.trans e3⟩
noncomputable def upL (xs:List Int) (b:Int):Int:=if b=0 then -1 else pO xs b
noncomputable def body9:ACode:=(.seq (.region [⟨some 3,none,(.box (.tmp 0))⟩,⟨some 6,none,(.mov (.const (.int .i64 0)))⟩,⟨some 7,none,(.mov (.const (.int .i64 0)))⟩]) (.seq (.region [⟨some 11,none,(.load true 2 (.tmp 3))⟩,⟨some 12,none,(.mov (.tmp 1))⟩,⟨some 13,none,(.mov (.tmp 2))⟩,⟨some 14,none,(.call (.func 21) [(.tmp 11),(.tmp 12),(.tmp 13)])⟩,⟨some 10,none,(.mov (.tmp 14))⟩,⟨some 15,none,(.extract (.tmp 10) 0)⟩,⟨some 16,none,(.extract (.tmp 10) 1)⟩,⟨some 8,none,(.mov (.tmp 15))⟩,⟨some 9,none,(.mov (.tmp 16))⟩]) (.seq (.block 0 (.seq (.region [⟨some 18,none,(.mov (.tmp 9))⟩,⟨some 19,none,(.bin .neq (.tmp 18) (.const (.int .i64 0)))⟩,⟨some 17,none,(.mov (.tmp 19))⟩]) (.cond (.tmp 17) (.seq (.region [⟨some 20,none,(.mov (.tmp 9))⟩,⟨some 6,none,(.mov (.const (.int .i64 0)))⟩,⟨some 7,none,(.mov (.tmp 20))⟩]) .ret) (.seq (.region [⟨some 22,none,(.mov (.tmp 2))⟩,⟨some 23,none,(.bin .eql (.tmp 22) (.const (.int .i64 0)))⟩,⟨some 21,none,(.mov (.tmp 23))⟩]) (.cond (.tmp 21) (.seq (.region [⟨some 6,none,(.mov (.const (.int .i64 (-1))))⟩,⟨some 7,none,(.mov (.const (.int .i64 0)))⟩]) .ret) .skip))))) (.seq (.region [⟨some 24,none,(.mov (.tmp 8))⟩,⟨some 25,none,(.mov (.tmp 2))⟩,⟨some 26,none,(.nilCheck (.tmp 24))⟩,⟨some 27,none,(.fld 0 (.tmp 26))⟩,⟨some 28,none,(.idxArr 16 1 (.tmp 27) (.tmp 25))⟩,⟨some 29,none,(.load false 1 (.tmp 28))⟩,⟨some 6,none,(.mov (.tmp 29))⟩,⟨some 7,none,(.mov (.const (.int .i64 0)))⟩]) .ret))))
set_option maxRecDepth 100000 in
theorem tab9:tb.code 9=some ⟨30,[(6,none),(7,none)],body9⟩:=by kernel_rfl
theorem dNext2_ok (h:AHeap) (vt vf:Value) (T:List LType) (F:List LFn) (f b:Int) (E:Env h vt vf T F):
  WC Tryz.prog tb 9 [.agg #[vt,vf],I f,I b] h fun r h'=>(∃ v,r= .tuple #[I v,I (askL T F f b)]∧(askL T F f b=0→∃ xs,Rul (nxF T F f) xs∧v=upL xs b)∧(askL T F f b≠0→v=0))∧Ext h h':=by
 refine WC.of (zE 9) tab9 ?_;simp only[zL,Nat.zero_add,Nat.reduceAdd]
 refine go ?_
 refine WO.bx ?_
 intro p h1 e1 o1
 have E1:=E.ext e1
 refine go ?_
 refine WO.con (dasked_ok h1 vt vf T F f b E1) ?_
 rintro _ h2 ⟨⟨q,rfl,hq⟩,e2⟩
 have e02:=e1.trans e2
 by_cases ha:askL T F f b=0
 case neg=>
  have ha':askL T F f b≠0:=ha
  refine go ?_
  refine rt ?_
  exact⟨⟨0,rfl,fun h=>absurd h ha,fun _=>rfl⟩,e02⟩
 obtain⟨xs,oq,hR⟩:=hq ha
 have wb:=(ask_way ha).2
 have hbd:=hR.dm.bnd b wb
 have hlx:=hR.dm.len
 rw[ha]
 by_cases hb0:b=0
 ·refine go ?_
  refine rt ?_
  exact⟨⟨-1,rfl,fun _=>⟨xs,hR,by unfold upL;rw[if_pos hb0]⟩,fun h=>absurd rfl h⟩,e02⟩
 obtain⟨g,rfl⟩:∃ g,q= .pointer (some ⟨g,0,none⟩):=let ⟨g,_,_,e,_⟩:=oq;⟨g,e⟩
 refine go ?_
 refine rt ?_
 exact⟨⟨_,rfl,fun _=>⟨xs,hR,(if_neg hb0).symm⟩,fun h=>absurd rfl h⟩,e02⟩
def rulE (T:List LType) (F:List LFn) (f a b:Int):Int:=if (NextL T F f a).2≠0 then (NextL T F f a).2 else askL T F f b
noncomputable def body7:ACode:=(.seq (.region [⟨some 4,none,(.box (.tmp 0))⟩,⟨some 8,none,(.mov (.const (.bool false)))⟩,⟨some 9,none,(.mov (.const (.int .i64 0)))⟩]) (.seq (.seq (.region [⟨some 15,none,(.load true 2 (.tmp 4))⟩,⟨some 16,none,(.mov (.tmp 1))⟩,⟨some 17,none,(.mov (.tmp 2))⟩,⟨some 18,none,(.call (.func 20) [(.tmp 15),(.tmp 16),(.tmp 17)])⟩,⟨some 14,none,(.mov (.tmp 18))⟩,⟨some 19,none,(.extract (.tmp 14) 0)⟩,⟨some 20,none,(.extract (.tmp 14) 1)⟩,⟨some 10,none,(.mov (.tmp 19))⟩,⟨some 11,none,(.mov (.tmp 20))⟩]) (.seq (.region [⟨some 21,none,(.mov (.tmp 11))⟩,⟨some 22,none,(.bin .neq (.tmp 21) (.const (.int .i64 0)))⟩]) (.cond (.tmp 22) (.seq (.region [⟨some 23,none,(.mov (.tmp 11))⟩,⟨some 8,none,(.mov (.const (.bool false)))⟩,⟨some 9,none,(.mov (.tmp 23))⟩]) .ret) .skip))) (.seq (.region [⟨some 25,none,(.load true 2 (.tmp 4))⟩,⟨some 26,none,(.mov (.tmp 1))⟩,⟨some 27,none,(.mov (.tmp 3))⟩,⟨some 28,none,(.call (.func 21) [(.tmp 25),(.tmp 26),(.tmp 27)])⟩,⟨some 24,none,(.mov (.tmp 28))⟩,⟨some 29,none,(.extract (.tmp 24) 0)⟩,⟨some 30,none,(.extract (.tmp 24) 1)⟩,⟨some 12,none,(.mov (.tmp 29))⟩,⟨some 13,none,(.mov (.tmp 30))⟩]) (.seq (.seq (.region [⟨some 31,none,(.mov (.tmp 13))⟩,⟨some 32,none,(.bin .neq (.tmp 31) (.const (.int .i64 0)))⟩]) (.cond (.tmp 32) (.seq (.region [⟨some 33,none,(.mov (.tmp 13))⟩,⟨some 8,none,(.mov (.const (.bool false)))⟩,⟨some 9,none,(.mov (.tmp 33))⟩]) .ret) .skip)) (.seq (.region [⟨some 34,none,(.mov (.tmp 12))⟩,⟨some 35,none,(.mov (.tmp 2))⟩,⟨some 36,none,(.mov (.tmp 3))⟩,⟨some 37,none,(.call (.func 22) [(.tmp 34),(.tmp 35),(.tmp 36)])⟩,⟨some 8,none,(.mov (.tmp 37))⟩,⟨some 9,none,(.mov (.const (.int .i64 0)))⟩]) .ret)))))
set_option maxRecDepth 100000 in
theorem tab7:tb.code 7=some ⟨38,[(8,none),(9,none)],body7⟩:=by kernel_rfl
theorem dRules_ok (h:AHeap) (vt vf:Value) (T:List LType) (F:List LFn) (f a b:Int) (E:Env h vt vf T F):
  WC Tryz.prog tb 7 [.agg #[vt,vf],I f,I a,I b] h fun r h'=>(∃ bb,r= .tuple #[.bool bb,I (rulE T F f a b)]∧(rulE T F f a b≠0→bb=false)∧(rulE T F f a b=0→(bb=true↔Dom (nxF T F f) a b)∧∃ xs,Rul (nxF T F f) xs))∧Ext h h':=by
 refine WC.of (zE 7) tab7 ?_;simp only[zL,Nat.zero_add,Nat.reduceAdd]
 refine go ?_
 refine WO.bx ?_
 intro p h1 e1 o1
 have E1:=E.ext e1
 refine go ?_
 refine WO.con (Next_ok h1 vt vf T F f a E1.tt E1.hm E1.sm E1.st E1.sf) ?_
 rintro _ h2 ⟨⟨nlv,rfl,snl,fr⟩,e2⟩
 have e02:=e1.trans e2
 have E2:=E1.ext e2
 have o2:=o1.ext e2
 by_cases hn:(NextL T F f a).2=0
 case neg=>
  have hn':(NextL T F f a).2≠0:=hn
  have hr:rulE T F f a b=(NextL T F f a).2:=by unfold rulE;rw[if_pos hn]
  refine go ?_
  refine rt ?_
  rw[hr]
  exact⟨⟨false,rfl,fun _=>rfl,fun h=>absurd h hn⟩,e02⟩
 have hr:rulE T F f a b=askL T F f b:=by unfold rulE;rw[if_neg (fun h=>h hn)]
 rw[hn]
 refine go ?_
 refine WO.con (dasked_ok h2 vt vf T F f b E2) ?_
 rintro _ h3 ⟨⟨q,rfl,hq⟩,e3⟩
 have e03:=e02.trans e3
 by_cases ha:askL T F f b=0
 case neg=>
  have ha':askL T F f b≠0:=ha
  refine go ?_
  refine rt ?_
  rw[hr]
  exact⟨⟨false,rfl,fun _=>rfl,fun h=>absurd h ha⟩,e03⟩
 obtain⟨xs,oq,hR⟩:=hq ha
 have wb:=(ask_way ha).2
 rw[ha]
 refine go ?_
 refine WO.con (drules_ok h2 h3 q (nxF T F f) xs a b oq ⟨hR.dm⟩ wb ⟨hR.all⟩) ?_
 rintro _ _ ⟨⟨bb,rfl,hbb⟩,rfl⟩
 refine go ?_
 refine rt ?_
 rw[hr,ha]
 exact⟨⟨bb,rfl,fun h=>absurd rfl h,fun _=>⟨hbb.trans (hR.dom a b wb),xs,hR⟩⟩,e03⟩
def RulP (T:List LType) (F:List LFn) (f a b:Int):Prop:=rulE T F f a b=0∧Dom (nxF T F f) a b∧∃ xs,Rul (nxF T F f) xs
end Go.Proofs.YtdcgdfbblnljjaaGreatDoor
namespace Go.Proofs.YtdcgdfbblnljjaaGreatDoor
open Go.Am
set_option linter.unusedVariables false
set_option linter.unusedSimpArgs false
set_option maxHeartbeats 1000000
theorem avk_zero {nx:Int→List Int} {b:Int} {k:Nat} (h:Avk nx 0 k b):False:=by
 induction h with
 |here h=>exact h rfl
 |step _ _ _ ih=>exact ih
theorem dom_zero {nx:Int→List Int} (b:Int):Dom nx 0 b:=fun ⟨k,h⟩=>avk_zero h
theorem dom_trans {nx:Int→List Int} {a b c:Int} (h1:Dom nx a b) (h2:Dom nx b c):Dom nx a c:=fun ⟨k,h⟩=>by
 by_cases hb:(0:Int)=b
 ·subst hb
  by_cases e:(0:Int)=a
  ·subst e;exact dom_zero c ⟨k,h⟩
  ·exact h1 ⟨0,.here e⟩
 ·rcases h.split hb with h|h
  ·exact h2 ⟨_,h⟩
  ·exact h1 ⟨_,h⟩
theorem RulP.ask {T:List LType} {F:List LFn} {f a b:Int} (h:RulP T F f a b):askL T F f b=0:=by
 have:=h.1
 unfold rulE at this
 split at this
 ·rename_i hn;exact absurd this hn
 ·exact this
theorem RulP.of {T:List LType} {F:List LFn} {f a b:Int} (h:askL T F f b=0) (d:Dom (nxF T F f) a b) (hx:∃ xs,Rul (nxF T F f) xs):RulP T F f a b:=by
 obtain⟨hb,wb⟩:=ask_way h
 obtain⟨xs,hR⟩:=hx
 have wa:=hR.dm.rpo.dom_way (qO xs b).toNat b a (by have h5:=hR.dm.rpo.nn b wb;have h5:0≤qO xs b:=h5;show qO xs b≤_;omega) wb d
 refine⟨?_,d,xs,hR⟩
 unfold rulE
 rw[if_neg (fun e=>e (next_of hb wa))];exact h
theorem RulP.zero {T:List LType} {F:List LFn} {f b:Int} (h:askL T F f b=0) (hx:∃ xs,Rul (nxF T F f) xs):RulP T F f 0 b:= .of h (dom_zero b) hx
theorem RulP.self {T:List LType} {F:List LFn} {f b:Int} (h:askL T F f b=0) (hx:∃ xs,Rul (nxF T F f) xs):RulP T F f b b:= .of h (Dom.self _ b) hx
theorem RulP.trans {T:List LType} {F:List LFn} {f a b c:Int} (h:RulP T F f a b) (k:RulP T F f b c):RulP T F f a c:= .of k.ask (dom_trans h.2.1 k.2.1) h.2.2
noncomputable def cntD (nx:Int→List Int) (c:Int):Nat:=open Classical in (List.range 16).countP fun (j:Nat)=>decide (Dom nx (j:Int) c)
theorem cntD_pos {nx:Int→List Int} {c:Int} (h:0≤c∧c<16):1≤cntD nx c:=by
 classical
 unfold cntD
 refine List.countP_pos_iff.2 ⟨c.toNat,List.mem_range.2 (by omega),?_⟩
 show decide (Dom nx ((c.toNat:Nat):Int) c)=true
 rw[decide_eq_true_iff,show ((c.toNat:Nat):Int)=c by omega]
 exact Dom.self nx c
theorem cntD_lt {nx:Int→List Int} {c n:Int} (h:0≤c∧c<16) (hs:∀ a,Dom nx a n→Dom nx a c) (hn:¬Dom nx c n):cntD nx n<cntD nx c:=by
 classical
 unfold cntD
 have hc:((c.toNat:Nat):Int)=c:=by omega
 refine count_lt (p:=fun (j:Nat)=>decide (Dom nx (j:Int) c)) (q:=fun (j:Nat)=>decide (Dom nx (j:Int) n)) (i:=c.toNat) (decide_eq_true (by rw[hc];exact Dom.self nx c)) (decide_eq_false (by rw[hc];exact hn)) (fun j _ hj=> ?_) (List.mem_range.2 (by omega))
 exact decide_eq_true (hs _ (of_decide_eq_true hj))
theorem Rul.step {nx:Int→List Int} {xs:List Int} {c:Int} (r:Rul nx xs) (w:Way nx 0 c) (hc:c≠0):Way nx 0 (pO xs c)∧(∀ a,Dom nx a c↔a=c∨Dom nx a (pO xs c))∧¬Dom nx c (pO xs c):=by
 obtain⟨u1,u2,u3⟩:=r.dm.rl.up c w hc (r.all c w)
 refine⟨u1,fun a=> ?_,fun h=> ?_⟩
 ·rw[←r.dom a c w,←r.dom a _ u1]
  constructor
  ·intro h
   cases h with
   |here=>exact .inl rfl
   |up _ _ h=>exact .inr h
  ·rintro(rfl|h)
   ·exact .here
   ·exact .up hc (r.all c w) h
 ·have h2:=r.dm.rl.le ((r.dom _ _ u1).2 h) u1
  have h3:=h2.2.1
  have h3:qO xs c≤qO xs (pO xs c):=h3
  have u3:qO xs (pO xs c)<qO xs c:=u3
  omega
def Chn (nx:Int→List Int) (a b:Int) (i:Nat) (c:Int) (met:Bool):Prop:=
 (c= -1∧(Dom nx a b↔met=true))∨(Way nx 0 c∧(0≤c∧c<16)∧cntD nx c+i≤16∧(Dom nx a b↔met=true∨Dom nx a c))
theorem Chn.next {nx:Int→List Int} {xs:List Int} {a b c:Int} {i:Nat} {met:Bool} (r:Rul nx xs) (hc:0<c) (h:Chn nx a b i c met):Chn nx a b (i+1) (pO xs c) (met||decide (c=a))∧pO xs c≠c∧0≤pO xs c:=by
 rcases h with ⟨h,_⟩|⟨w,bd,hn,h⟩
 ·omega
 ·obtain⟨u1,u2,u3⟩:=r.step w (by omega)
  have hb:=r.dm.bnd _ u1
  refine⟨.inr ⟨u1,hb,?_,h.trans ?_⟩,fun e=> ?_,hb.1⟩
  ·have:=cntD_lt bd (fun a ha=>(u2 a).2 (.inr ha)) u3
   omega
  ·rw[u2 a,Bool.or_eq_true,decide_eq_true_iff]
   refine⟨?_,?_⟩
   ·rintro(h|rfl|h)
    ·exact .inl (.inl h)
    ·exact .inl (.inr rfl)
    ·exact .inr h
   ·rintro((h|h)|h)
    ·exact .inl h
    ·exact .inr (.inl h.symm)
    ·exact .inr (.inr h)
  ·exact u3 (by rw[e];exact Dom.self _ _)
theorem Chn.way {nx:Int→List Int} {a b c:Int} {i:Nat} {met:Bool} (h:Chn nx a b i c met) (hc:0≤c):Way nx 0 c∧c<16∧i≤15:=by
 rcases h with ⟨h,_⟩|⟨w,bd,hn,h⟩
 ·omega
 ·have:=cntD_pos (nx:=nx) bd
  exact⟨w,bd.2,by omega⟩
theorem Chn.end {nx:Int→List Int} {a b c:Int} {i:Nat} {met:Bool} (h:Chn nx a b i c met) (hc:c<0):c= -1∧(Dom nx a b↔met=true):=by
 rcases h with h|⟨w,bd,hn,h⟩
 ·exact h
 ·omega
theorem dom_of_zero {nx:Int→List Int} {a:Int}:Dom nx a 0↔a=0:=by
 refine⟨fun h=>Classical.byContradiction fun e=>h ⟨0,.here (Ne.symm e)⟩,fun h=>by rw[h];exact Dom.self _ _⟩
theorem fn_bounds {T:List LType} {n:Int} {f:LFn} (h:fnL T n f=true):1≤f.blocks.length∧f.blocks.length≤16∧yO f.blocks≤128:=by
 unfold fnL at h
 split at h
 ·cases h
 ·rename_i hbad
  unfold badL at hbad
  simp only[Bool.or_eq_true,not_or,Bool.not_eq_true,decide_eq_false_iff_not,Bool.not_eq_false']at hbad
  have h2:=hbad.1.2
  unfold zM at h2
  simp only[Bool.and_eq_true,decide_eq_true_eq]at h2
  omega
end Go.Proofs.YtdcgdfbblnljjaaGreatDoor
namespace Go.Proofs.YtdcgdfbblnljjaaGreatDoor
open Go.Am
set_option linter.unusedVariables false
set_option linter.unusedSimpArgs false
set_option maxHeartbeats 1000000
theorem En.env {h:AHeap} {vt vf:Value} {T:List LType} {F:List LFn} (E:En h vt vf T F):Env h vt vf T F:=⟨E.tt,E.hm,E.sm,E.st,E.sf⟩
theorem rch_av {nx:Int→List Int} {a b:Int}:Rch nx [0] a b↔Av nx a b:=by
 constructor
 ·intro h
  induction h with
  |here h1 h2=>rw[List.mem_singleton]at h1;subst h1;exact⟨0,.here h2⟩
  |step _ hc hne ih=>obtain⟨k,hk⟩:=ih;exact⟨k+1,.step hk hc hne⟩
 ·rintro⟨k,h⟩
  induction h with
  |here h=>exact .here (by simp) h
  |step _ hc hne ih=>exact .step ih hc hne
theorem av_of {nx:Int→List Int} {a b:Int} (w:Way nx 0 b) (h:¬Way nx 0 a):Av nx a b:=by
 induction w with
 |here=>exact⟨0,.here (fun e=>h (by rw[←e];exact .here))⟩
 |step w1 hc ih=>obtain⟨k,hk⟩:=ih;exact⟨k+1,.step hk hc (fun e=>h (by rw[←e];exact .step w1 hc))⟩
theorem dom_reached {nx:Int→List Int} {a b:Int} (w:Way nx 0 b) (d:Dom nx a b):Way nx 0 a:=Classical.byContradiction fun h=>d (av_of w h)
def RuledP (nx:Int→List Int) (a b:Int):Prop:=a=b∨(Way nx 0 a∧Dom nx a b)
theorem ruled_dom {nx:Int→List Int} {a b:Int} (w:Way nx 0 b):RuledP nx a b↔Dom nx a b:=
 ⟨fun h=>h.elim (fun e=>by rw[e];exact Dom.self _ _) (·.2),fun d=> .inr ⟨dom_reached w d,d⟩⟩
noncomputable def body24:ACode:=(.seq (.region [⟨some 3,none,(.box (.tmp 0))⟩,⟨some 6,none,(.mov (.const (.int .i64 0)))⟩]) (.seq (.region [⟨some 10,none,(.load true 2 (.tmp 3))⟩,⟨some 11,none,(.mov (.tmp 1))⟩,⟨some 12,none,(.mov (.tmp 2))⟩,⟨some 13,none,(.call (.func 23) [(.tmp 10),(.tmp 11),(.tmp 12)])⟩,⟨some 9,none,(.mov (.tmp 13))⟩,⟨some 14,none,(.extract (.tmp 9) 0)⟩,⟨some 15,none,(.extract (.tmp 9) 1)⟩,⟨some 7,none,(.mov (.tmp 14))⟩,⟨some 8,none,(.mov (.tmp 15))⟩]) (.seq (.seq (.region [⟨some 16,none,(.mov (.tmp 8))⟩,⟨some 17,none,(.bin .eql (.tmp 16) (.const (.int .i64 0)))⟩,⟨some 18,none,(.mov (.tmp 17))⟩,⟨some 19,some (18,true),(.fld 1 (.tmp 3))⟩,⟨some 20,some (18,true),(.load false 1 (.tmp 19))⟩,⟨some 21,some (18,true),(.mov (.tmp 1))⟩,⟨some 22,some (18,true),(.idx 2 (.tmp 20) (.tmp 21))⟩,⟨some 23,some (18,true),(.fld 1 (.tmp 22))⟩,⟨some 24,some (18,true),(.load false 1 (.tmp 23))⟩,⟨some 25,some (18,true),(.call (.func 28) [(.tmp 24)])⟩,⟨some 26,some (18,true),(.mov (.tmp 2))⟩,⟨some 27,some (18,true),(.call (.func 27) [(.tmp 25),(.tmp 26)])⟩,⟨some 28,some (18,true),(.un .not (.tmp 27))⟩,⟨some 29,none,(.pick (.tmp 18) (.tmp 28) (.const (.bool false)))⟩]) (.cond (.tmp 29) (.seq (.region [⟨some 6,none,(.mov (.const (.int .i64 6)))⟩]) .ret) .skip)) (.seq (.region [⟨some 30,none,(.mov (.tmp 8))⟩,⟨some 6,none,(.mov (.tmp 30))⟩]) .ret))))
set_option maxRecDepth 100000 in
theorem tab24:tb.code 24=some ⟨31,[(6,none)],body24⟩:=by kernel_rfl
theorem r10asked_ok (h:AHeap) (vt vf:Value) (T:List LType) (F:List LFn) (f b:Int) (E:En h vt vf T F):
  WC Tryz.prog tb 24 [.agg #[vt,vf],I f,I b] h fun r h'=>r=I (askL T F f b)∧Ext h h':=by
 have hF:=E.sm.funcs
 refine WC.of (zE 24) tab24 ?_;simp only[zL,Nat.zero_add,Nat.reduceAdd]
 refine go ?_
 refine WO.bx ?_
 intro p h1 e1 o1
 have E1:=E.ext e1
 refine go ?_
 refine WO.con (r9Next_ok h1 vt vf T F f b E1) ?_
 rintro _ h2 ⟨⟨v,rfl,sv⟩,e2⟩
 have o1:=o1.ext e2
 have e02:=e1.trans e2
 have E2:=E1.ext e2
 have sf2:=E2.sf
 obtain⟨ta,tn,tk,rfl⟩:=zI E.st
 obtain⟨ga,gn,gk,rfl⟩:=zI sf2
 rw[next_err]
 by_cases hc:(zC T F f b).2=0
 case neg=>
  have hc':(zC T F f b).2≠0:=hc
  have ha:askL T F f b=(zC T F f b).2:=by
   unfold askL
   unfold zC at hc ⊢
   split at hc
   ·rename_i h1
    have:(if (regsL T F f).2≠0 then (([]:List LBlk),(regsL T F f).2) else if (0:Int)<0∨((F.getD f.toNat default).blocks.length:Int)≤0 then ([],2) else ((F.getD f.toNat default).blocks,0))=([],(regsL T F f).2):=by rw[if_pos h1]
    rw[this,if_pos h1,if_pos h1]
   ·rename_i h1
    split at hc
    ·rename_i h2
     have hin:=regs_in (by omega:(regsL T F f).2=0)
     have hb1:=fn_bounds ((prog_sig hin.2.2).2.2.2 _ (zO (l:=F) (i:=f.toNat) (by omega)))
     have:(if (regsL T F f).2≠0 then (([]:List LBlk),(regsL T F f).2) else if (0:Int)<0∨((F.getD f.toNat default).blocks.length:Int)≤0 then ([],2) else ((F.getD f.toNat default).blocks,0))=((F.getD f.toNat default).blocks,0):=by rw[if_neg h1,if_neg (by omega)]
     rw[this,if_neg (fun e=>e rfl),if_pos h2,if_neg h1,if_pos h2]
    ·exact absurd rfl hc
  rw[ha]
  refine go ?_
  refine rt ?_
  exact⟨rfl,e02⟩
 obtain⟨h1b,h2b,h3b,h4b⟩:=zj hc
 have hin:=regs_in h4b
 have hz:(zC T F f 0).2=0:=by rw[blocks_other hc (c:=0) ⟨Int.le_refl _,by omega⟩];exact hc
 have hzb:=(zj hz).2.2.1
 obtain⟨hlen,hnx⟩:=yR hz
 have hask:askL T F f b=if b∈(yW T F f).1 then 0 else 6:=by
  unfold askL
  rw[if_neg (by rw[hz];exact fun e=>e rfl),if_neg (by rw[hzb];rw[h3b]at h2b;omega)]
 have hmr:=Hid.mk (mem_reach hz (b:=b))
 rw[hask,hc]
 rw[hzb]at hlen hnx hmr
 rw[h3b]at h2b
 obtain⟨csF,⟨vb,rfl,sb,hlb⟩,pcF,hsF⟩:=zZ (i:=f.toNat) sf2 (by omega)
 obtain⟨_,_,_,rfl⟩:=zI sb
 refine go ?_
 refine WO.con (reached_ok h2 _ _ E2.hm sb hlen (by omega) hnx) ?_
 rintro r h3 ⟨⟨l,ol,hl1,hl2,hl3⟩,e3⟩
 refine go ?_
 refine WO.con (in_ok h3 r l b ol.sl (by omega)) ?_
 rintro _ _ ⟨rfl,rfl⟩
 have e03:=e02.trans e3
 by_cases hb:b∈l
 ·rw[if_pos (hmr.out.2 ((hl3 b).1 hb))]
  refine go ?_
  refine rt ?_
  exact⟨rfl,e03⟩
 ·rw[if_neg (fun e=>hb ((hl3 b).2 (hmr.out.1 e)))]
  refine go ?_
  refine rt ?_
  exact⟨rfl,e03⟩
noncomputable def body25:ACode:=(.seq (.region [⟨some 6,none,(.mov (.const (.bool false)))⟩]) (.seq (.region [⟨some 7,none,(.mov (.tmp 1))⟩,⟨some 8,none,(.mov (.tmp 2))⟩,⟨some 9,none,(.bin .eql (.tmp 7) (.tmp 8))⟩,⟨some 10,none,(.mov (.tmp 9))⟩,⟨some 11,some (10,false),(.mov (.tmp 0))⟩,⟨some 12,some (10,false),(.buildSlice 1 1 [(.int .i64 0)] [(0,1,(.const (.int .i64 0)))])⟩,⟨some 13,some (10,false),(.call (.func 42) [(.tmp 11),(.tmp 12),(.const (.int .i64 (-1)))])⟩,⟨some 14,some (10,false),(.mov (.tmp 1))⟩,⟨some 15,some (10,false),(.idx 1 (.tmp 13) (.tmp 14))⟩,⟨some 16,some (10,false),(.load false 1 (.tmp 15))⟩,⟨some 17,some (10,false),(.mov (.tmp 16))⟩,⟨some 18,some (17,true),(.mov (.tmp 0))⟩,⟨some 19,some (17,true),(.buildSlice 1 1 [(.int .i64 0)] [(0,1,(.const (.int .i64 0)))])⟩,⟨some 20,some (17,true),(.mov (.tmp 1))⟩,⟨some 21,some (17,true),(.call (.func 42) [(.tmp 18),(.tmp 19),(.tmp 20)])⟩,⟨some 22,some (17,true),(.mov (.tmp 2))⟩,⟨some 23,some (17,true),(.idx 1 (.tmp 21) (.tmp 22))⟩,⟨some 24,some (17,true),(.load false 1 (.tmp 23))⟩,⟨some 25,some (17,true),(.un .not (.tmp 24))⟩,⟨some 26,some (10,false),(.pick (.tmp 17) (.tmp 25) (.const (.bool false)))⟩,⟨some 27,none,(.pick (.tmp 10) (.const (.bool true)) (.tmp 26))⟩,⟨some 6,none,(.mov (.tmp 27))⟩]) .ret))
set_option maxRecDepth 100000 in
theorem tab25:tb.code 25=some ⟨28,[(6,none)],body25⟩:=by kernel_rfl
theorem ruled_ok (h:AHeap) (v:Value) (L:List LBlk) (a b:Int) (hm:h.mark≤h.n) (sb:SlB h v L) (hL:L.length≤16) (ha:0≤a∧a<(L.length:Int)) (hb:0≤b∧b<(L.length:Int)) (hin:∀ c,0≤c∧c<(L.length:Int)→∀ d∈nxL L c,0≤d∧d<(L.length:Int)):
  WC Tryz.prog tb 25 [v,I a,I b] h fun r h'=>(∃ q,r= .bool q∧(q=true↔RuledP (nxL L) a b))∧Ext h h':=by
 have hf0:∀ c∈([0]:List Int),0≤c∧c<(L.length:Int):=fun c hc=>by rw[List.mem_singleton]at hc;subst hc;omega
 have hw:Rch (nxL L) [0] (-1) a↔Way (nxL L) 0 a:=by
  rw[rch_way hin hf0]
  exact⟨fun ⟨c,hc,w⟩=>by rw[List.mem_singleton]at hc;subst hc;exact w,fun w=>⟨0,by simp,w⟩⟩
 replace hw:=Hid.mk hw
 refine WC.of (zE 25) tab25 ?_;simp only[zL,Nat.zero_add,Nat.reduceAdd]
 by_cases hab:a=b
 ·refine go ?_
  refine rt ?_
  exact⟨⟨_,rfl,⟨fun _=> .inl hab,fun _=>rfl⟩⟩,Ext.refl _⟩
 refine go ?_
 refine WO.bl [0] ?_
 intro v1 h1 e1 o1
 have hm1:=zX e1 hm
 refine go ?_
 refine WO.con (come_ok h1 v v1 L [0] (-1) hm1 (SlB.ext sb e1) o1.sl hL hin hf0 (by simp)) ?_
 rintro r h2 ⟨⟨bs,ob,hbl,hbs⟩,e2⟩
 have e02:=e1.trans e2
 have sr:=ob.sl
 have hA:=(hbs a ha).trans hw.out
 obtain⟨cs1,hcs1,pc1,hs1⟩:=zZ sr (i:=a.toNat) (by omega)
 have hcs1:cs1=[.bool (bO bs a)]:=hcs1
 subst hcs1
 replace hA:=Hid.mk hA
 clear hbs
 cases hq:bO bs a with
 |false=>
  rw[hq]at hA pc1
  refine go ?_
  refine rt ?_
  exact⟨⟨_,rfl,⟨fun h=>(by cases h),fun h=>h.elim (fun e=>absurd e hab) fun h=>absurd (hA.out.2 h.1) Bool.noConfusion⟩⟩,e02⟩
 |true=>
  rw[hq]at hA pc1
  refine go ?_
  refine WO.bl [0] ?_
  intro v3 h3 e3 o3
  have e03:=e02.trans e3
  refine go ?_
  refine WO.con (come_ok h3 v v3 L [0] a (zX e03 hm) (SlB.ext sb e03) o3.sl hL hin hf0 (by simp)) ?_
  rintro r4 h4 ⟨⟨bs4,ob4,hbl4,hbs4⟩,e4⟩
  have sr4:=ob4.sl
  have hB:=(hbs4 b hb).trans rch_av
  obtain⟨cs4,hcs4,pc4,hs4⟩:=zZ sr4 (i:=b.toNat) (by omega)
  have hcs4:cs4=[.bool (bO bs4 b)]:=hcs4
  subst hcs4
  replace hB:=Hid.mk hB
  clear hbs4
  refine go ?_
  refine rt ?_
  refine⟨⟨_,rfl,?_⟩,e03.trans e4⟩
  have hw:=hA.out.1 rfl
  cases hq4:bO bs4 b with
  |true=>exact⟨fun h=>(by cases h),fun h=>h.elim (fun e=>absurd e hab) fun h=>absurd (hB.out.1 hq4) h.2⟩
  |false=>exact⟨fun _=> .inr ⟨hw,fun hav=>by have:=hB.out.2 hav;rw[hq4]at this;cases this⟩,fun _=>rfl⟩
end Go.Proofs.YtdcgdfbblnljjaaGreatDoor
namespace Go.Proofs.YtdcgdfbblnljjaaGreatDoor
open Go.Am
set_option linter.unusedVariables false
set_option linter.unusedSimpArgs false
set_option maxHeartbeats 1000000
def NextP (nx:Int→List Int) (N:Nat) (a b:Int):Prop:=a≠b∧RuledP nx a b∧∀ c,0≤c∧c<(N:Int)→c=b∨¬RuledP nx c b∨RuledP nx c a
theorem nextP_up {nx:Int→List Int} {xs:List Int} {N:Nat} {a b:Int} (r:Rul nx xs) (w:Way nx 0 b) (hin:∀ c,Way nx 0 c→0≤c∧c<(N:Int)):NextP nx N a b↔b≠0∧a=pO xs b:=by
 constructor
 ·rintro⟨hab,hr,hall⟩
  have da:=(ruled_dom w).1 hr
  have wa:=dom_reached w da
  have hb0:b≠0:=fun e=>by subst e;exact hab (dom_of_zero.1 da)
  obtain⟨u1,u2,u3⟩:=r.step w hb0
  refine⟨hb0,?_⟩
  have dan:Dom nx a (pO xs b):=((u2 a).1 da).elim (fun e=>absurd e hab) id
  have dnb:Dom nx (pO xs b) b:=(u2 _).2 (.inr (Dom.self _ _))
  have hnb:pO xs b≠b:=fun e=>u3 (by rw[e];exact Dom.self _ _)
  have dna:Dom nx (pO xs b) a:=by
   rcases hall _ (hin _ u1)with h|h|h
   ·exact absurd h hnb
   ·exact absurd ((ruled_dom w).2 dnb) h
   ·exact(ruled_dom wa).1 h
  have h1:=r.dm.rpo.dom_le u1 dan
  have h2:=r.dm.rpo.dom_le wa dna
  exact r.dm.rpo.inj a _ wa u1 (by omega)
 ·rintro⟨hb0,rfl⟩
  obtain⟨u1,u2,u3⟩:=r.step w hb0
  have dnb:Dom nx (pO xs b) b:=(u2 _).2 (.inr (Dom.self _ _))
  refine⟨fun e=>u3 (by rw[e];exact Dom.self _ _),(ruled_dom w).2 dnb,fun c _=> ?_⟩
  by_cases hc:c=b
  ·exact .inl hc
  ·by_cases hd:Dom nx c b
   ·exact .inr (.inr ((ruled_dom u1).2 (((u2 c).1 hd).elim (fun e=>absurd e hc) id)))
   ·exact .inr (.inl fun h=>hd ((ruled_dom w).1 h))
noncomputable def body26_0:ACode:=(.seq (.seq (.region [⟨some 23,none,(.mov (.tmp 7))⟩,⟨some 24,none,(.mov (.tmp 0))⟩,⟨some 25,none,(.len (.tmp 24))⟩,⟨some 26,none,(.bin .lss (.tmp 23) (.tmp 25))⟩,⟨some 27,none,(.mov (.tmp 26))⟩,⟨some 28,some (27,true),(.mov (.tmp 6))⟩,⟨some 29,none,(.pick (.tmp 27) (.tmp 28) (.const (.bool false)))⟩]) (.cond (.tmp 29) .skip (.exit 2))) (.seq (.block 3 (.region [⟨some 32,none,(.mov (.tmp 7))⟩,⟨some 33,none,(.mov (.tmp 1))⟩,⟨some 34,none,(.bin .eql (.tmp 32) (.tmp 33))⟩,⟨some 35,none,(.mov (.tmp 34))⟩,⟨some 36,some (35,false),(.mov (.tmp 0))⟩,⟨some 37,some (35,false),(.mov (.tmp 7))⟩,⟨some 38,some (35,false),(.mov (.tmp 1))⟩,⟨some 39,some (35,false),(.call (.func 25) [(.tmp 36),(.tmp 37),(.tmp 38)])⟩,⟨some 40,some (35,false),(.un .not (.tmp 39))⟩,⟨some 41,none,(.pick (.tmp 35) (.const (.bool true)) (.tmp 40))⟩,⟨some 42,none,(.mov (.tmp 41))⟩,⟨some 43,some (42,false),(.mov (.tmp 0))⟩,⟨some 44,some (42,false),(.mov (.tmp 7))⟩,⟨some 45,some (42,false),(.mov (.tmp 5))⟩,⟨some 46,some (42,false),(.call (.func 25) [(.tmp 43),(.tmp 44),(.tmp 45)])⟩,⟨some 47,none,(.pick (.tmp 42) (.const (.bool true)) (.tmp 46))⟩,⟨some 6,none,(.mov (.tmp 47))⟩])) (.region [⟨some 30,none,(.mov (.tmp 7))⟩,⟨some 31,none,(.bin .add (.tmp 30) (.const (.int .i64 1)))⟩,⟨some 7,none,(.mov (.tmp 31))⟩])))
noncomputable def body26_1:ACode:=(.seq (.seq (.region [⟨some 8,none,(.mov (.tmp 5))⟩,⟨some 9,none,(.mov (.tmp 0))⟩,⟨some 10,none,(.len (.tmp 9))⟩,⟨some 11,none,(.bin .lss (.tmp 8) (.tmp 10))⟩]) (.cond (.tmp 11) .skip (.exit 0))) (.seq (.block 1 (.seq (.region [⟨some 14,none,(.mov (.tmp 5))⟩,⟨some 15,none,(.mov (.tmp 1))⟩,⟨some 16,none,(.bin .neq (.tmp 14) (.tmp 15))⟩,⟨some 17,none,(.mov (.tmp 16))⟩,⟨some 18,some (17,true),(.mov (.tmp 0))⟩,⟨some 19,some (17,true),(.mov (.tmp 5))⟩,⟨some 20,some (17,true),(.mov (.tmp 1))⟩,⟨some 21,some (17,true),(.call (.func 25) [(.tmp 18),(.tmp 19),(.tmp 20)])⟩,⟨some 22,none,(.pick (.tmp 17) (.tmp 21) (.const (.bool false)))⟩,⟨some 6,none,(.mov (.tmp 22))⟩]) (.seq (.seq (.region [⟨some 7,none,(.mov (.const (.int .i64 0)))⟩]) (.block 2 (.loop body26_0))) (.seq (.region [⟨some 48,none,(.mov (.tmp 6))⟩]) (.cond (.tmp 48) (.seq (.region [⟨some 49,none,(.mov (.tmp 5))⟩,⟨some 4,none,(.mov (.tmp 49))⟩]) .ret) .skip))))) (.region [⟨some 12,none,(.mov (.tmp 5))⟩,⟨some 13,none,(.bin .add (.tmp 12) (.const (.int .i64 1)))⟩,⟨some 5,none,(.mov (.tmp 13))⟩])))
noncomputable def body26:ACode:=(.seq (.region [⟨some 4,none,(.mov (.const (.int .i64 0)))⟩]) (.seq (.seq (.region [⟨some 5,none,(.mov (.const (.int .i64 0)))⟩]) (.block 0 (.loop body26_1))) (.seq (.region [⟨some 4,none,(.mov (.const (.int .i64 (-1))))⟩]) .ret)))
set_option maxRecDepth 100000 in
theorem tab26:tb.code 26=some ⟨50,[(4,none)],body26⟩:=by kernel_rfl
theorem ruler_ok (h:AHeap) (v:Value) (L:List LBlk) (b:Int) (hm:h.mark≤h.n) (sb:SlB h v L) (hL:L.length≤16) (hb:0≤b∧b<(L.length:Int)) (hin:∀ c,0≤c∧c<(L.length:Int)→∀ d∈nxL L c,0≤d∧d<(L.length:Int)):
  WC Tryz.prog tb 26 [v,I b] h fun r h'=>(∃ a,r=I a∧((0≤a∧a<(L.length:Int)∧NextP (nxL L) L.length a b)∨(a= -1∧∀ c,0≤c∧c<(L.length:Int)→¬NextP (nxL L) L.length c b)))∧Ext h h':=by
 replace hin:=Hid.mk hin
 refine WC.of (zE 26) tab26 ?_;simp only[zL,Nat.zero_add,Nat.reduceAdd]
 refine go ?_
 refine WX.loopA [8,9,10,11,14,15,16,17,18,19,20,21,22,6,7,23,24,25,26,27,28,29,32,33,34,35,36,37,38,39,40,41,42,43,44,45,46,47,6,30,31,7,48,49,4,12,13,5] (by kernel_rfl) (fun i=>L.length - i) (fun i t h1=>Ext h h1∧zB t 5=I i∧i≤L.length∧Hid (∀ c:Int,0≤c∧c<(i:Int)→¬NextP (nxL L) L.length c b)) 0 ?_ ?_
 ·exact⟨Ext.refl _,sl_,Nat.zero_le _,⟨fun c hc=>by omega⟩⟩
 rintro i t h1 hsame ⟨e1,s5,hi,hno⟩
 have sb1:=SlB.ext sb e1
 refine go ?_
 refine WX.br (fun hc=> ?_) (fun hc=> ?_)<;>simp only[DB]at hc
 case refine_2=>
  have hii:i=L.length:=by omega
  subst hii
  refine go ?_
  refine rt ?_
  exact⟨⟨-1,rfl,.inr ⟨rfl,hno.out⟩⟩,e1⟩
 have hi':i<L.length:=by omega
 refine go ?_
 refine WO.mid 6 (fun t' h'=>Ext h h'∧∃ q,zB t' 6= .bool q∧(q=true↔(i:Int)≠b∧RuledP (nxL L) i b)) ?_ ?_<;>simp only[List.take_succ_cons,List.take_zero,List.drop_succ_cons,List.drop_zero]
 ·by_cases hib:(i:Int)=b
  ·refine go ?_
   exact⟨rfl,rfl,e1,_,sl_,by simp[hib]⟩
  ·refine go ?_
   refine WO.con (ruled_ok h1 v L i b (zX e1 hm) sb1 hL (by omega) hb hin.out) ?_
   rintro _ h2 ⟨⟨q,rfl,hq⟩,e2⟩
   refine go ?_
   exact⟨rfl,rfl,e1.trans e2,_,sl_,by rw[hq];simp[hib]⟩
 rintro t2 h2 hs2 ⟨e2,q,s6,hq⟩
 have hq:=Hid.mk hq
 refine go ?_
 refine WX.loopA [23,24,25,26,27,28,29,32,33,34,35,36,37,38,39,40,41,42,43,44,45,46,47,6,30,31,7] (by kernel_rfl) (fun k=>L.length - k) (fun k t h3=>Ext h h3∧zB t 7=I k∧k≤L.length∧∃ q,zB t 6= .bool q∧Hid (q=true↔((i:Int)≠b∧RuledP (nxL L) i b)∧∀ c:Int,0≤c∧c<(k:Int)→c=b∨¬RuledP (nxL L) c b∨RuledP (nxL L) c i)) 0 ?_ ?_
 ·exact⟨e2,sl_,Nat.zero_le _,q,sl_,⟨hq.out.trans ⟨fun h=>⟨h,fun c hc=>by omega⟩,fun h=>h.1⟩⟩⟩
 rintro k t3 h3 hsame3 ⟨e3,s7,hk,q,s6,hq⟩
 have sb3:=SlB.ext sb e3
 by_cases hkL:(k:Int)<L.length
 case neg=>
  have hkk:k=L.length:=by omega
  subst hkk
  refine go ?_
  cases q with
  |true=>
   refine go ?_
   refine rt ?_
   exact⟨⟨i,rfl,.inl ⟨by omega,by omega,(hq.out.1 rfl).1.1,(hq.out.1 rfl).1.2,(hq.out.1 rfl).2⟩⟩,e3⟩
  |false=>
   refine go ?_
   refine zA (i+1) (by omega) ⟨e3,sln,by omega,⟨fun c hc hn=> ?_⟩⟩
   by_cases e:c=(i:Int)
   ·subst e;exact absurd (hq.out.2 ⟨⟨hn.1,hn.2.1⟩,hn.2.2⟩) Bool.noConfusion
   ·exact hno.out c (by omega) hn
 cases q with
 |false=>
  refine go ?_
  refine zA (i+1) (by omega) ⟨e3,sln,by omega,⟨fun c hc hn=> ?_⟩⟩
  by_cases e:c=(i:Int)
  ·subst e;exact absurd (hq.out.2 ⟨⟨hn.1,hn.2.1⟩,fun c hc=>hn.2.2 c (by omega)⟩) Bool.noConfusion
  ·exact hno.out c (by omega) hn
 |true=>
 have hq1:=hq.out.1 rfl
 have step:∀ q':Bool,(q'=true↔(k:Int)=b∨¬RuledP (nxL L) k b∨RuledP (nxL L) k i)→(q'=true↔((i:Int)≠b∧RuledP (nxL L) i b)∧∀ c:Int,0≤c∧c<((k+1:Nat):Int)→c=b∨¬RuledP (nxL L) c b∨RuledP (nxL L) c i):=fun q' h=>by
  rw[h]
  refine⟨fun h2=>⟨hq1.1,fun c hc=> ?_⟩,fun h2=>h2.2 k (by omega)⟩
  by_cases e:c=(k:Int)
  ·subst e;exact h2
  ·exact hq1.2 c (by omega)
 replace step:=Hid.mk step
 clear hq hq1
 refine go ?_
 refine WO.mid 13 (fun t' h'=>Ext h h'∧∃ q,zB t' 6= .bool q∧(q=true↔(k:Int)=b∨¬RuledP (nxL L) k b∨RuledP (nxL L) k i)) ?_ ?_<;>simp only[List.take_succ_cons,List.take_zero,List.drop_succ_cons,List.drop_zero]
 ·by_cases hkb:(k:Int)=b
  ·refine go ?_
   exact⟨rfl,rfl,e3,_,sl_,by simp[hkb]⟩
  ·refine go ?_
   refine WO.con (ruled_ok h3 v L k b (zX e3 hm) sb3 hL (by omega) hb hin.out) ?_
   rintro _ h4 ⟨⟨q4,rfl,hq4⟩,e4⟩
   have e34:=e3.trans e4
   cases q4 with
   |false=>
    have hn:¬RuledP (nxL L) k b:=fun hh=>absurd (hq4.2 hh) Bool.noConfusion
    refine go ?_
    exact⟨rfl,rfl,e34,_,sl_,by simp[hn]⟩
   |true=>
    have hn:=hq4.1 rfl
    refine go ?_
    refine WO.con (ruled_ok h4 v L k i (zX e34 hm) (SlB.ext sb e34) hL (by omega) (by omega) hin.out) ?_
    rintro _ h5 ⟨⟨q5,rfl,hq5⟩,e5⟩
    refine go ?_
    exact⟨rfl,rfl,e34.trans e5,_,sl_,by rw[hq5];simp[hkb,hn]⟩
 rintro t4 h4 hs4 ⟨e4,q4,s64,hq4⟩
 refine go ?_
 exact zA (k+1) (by omega) ⟨e4,sln,by omega,q4,sl_,⟨step.out q4 hq4⟩⟩
theorem ruler_up {nx:Int→List Int} {xs:List Int} {N:Nat} {a b:Int} (r:Rul nx xs) (w:Way nx 0 b) (hin:∀ c,Way nx 0 c→0≤c∧c<(N:Int)) (h:(0≤a∧a<(N:Int)∧NextP nx N a b)∨(a= -1∧∀ c,0≤c∧c<(N:Int)→¬NextP nx N c b)):a=upL xs b:=by
 unfold upL
 rcases h with ⟨_,_,h⟩|⟨rfl,h⟩
 ·obtain⟨h1,h2⟩:=(nextP_up r w hin).1 h
  rw[if_neg h1];exact h2
 ·by_cases hb:b=0
  ·rw[if_pos hb]
  ·have u:=(r.step w hb).1
   exact absurd ((nextP_up r w hin).2 ⟨hb,rfl⟩) (h _ (hin _ u))
end Go.Proofs.YtdcgdfbblnljjaaGreatDoor
namespace Go.Proofs.YtdcgdfbblnljjaaGreatDoor
open Go.Am
set_option linter.unusedVariables false
set_option linter.unusedSimpArgs false
set_option maxHeartbeats 1000000
noncomputable def body8:ACode:=(.seq (.region [⟨some 4,none,(.box (.tmp 0))⟩,⟨some 8,none,(.mov (.const (.bool false)))⟩,⟨some 9,none,(.mov (.const (.int .i64 0)))⟩]) (.seq (.region [⟨some 13,none,(.load true 2 (.tmp 4))⟩,⟨some 14,none,(.mov (.tmp 1))⟩,⟨some 15,none,(.mov (.tmp 2))⟩,⟨some 16,none,(.call (.func 23) [(.tmp 13),(.tmp 14),(.tmp 15)])⟩,⟨some 12,none,(.mov (.tmp 16))⟩,⟨some 17,none,(.extract (.tmp 12) 0)⟩,⟨some 18,none,(.extract (.tmp 12) 1)⟩,⟨some 10,none,(.mov (.tmp 17))⟩,⟨some 11,none,(.mov (.tmp 18))⟩]) (.seq (.seq (.region [⟨some 19,none,(.mov (.tmp 11))⟩,⟨some 20,none,(.bin .eql (.tmp 19) (.const (.int .i64 0)))⟩]) (.cond (.tmp 20) (.region [⟨some 21,none,(.load true 2 (.tmp 4))⟩,⟨some 22,none,(.mov (.tmp 1))⟩,⟨some 23,none,(.mov (.tmp 3))⟩,⟨some 24,none,(.call (.func 24) [(.tmp 21),(.tmp 22),(.tmp 23)])⟩,⟨some 11,none,(.mov (.tmp 24))⟩]) .skip)) (.seq (.seq (.region [⟨some 25,none,(.mov (.tmp 11))⟩,⟨some 26,none,(.bin .neq (.tmp 25) (.const (.int .i64 0)))⟩]) (.cond (.tmp 26) (.seq (.region [⟨some 27,none,(.mov (.tmp 11))⟩,⟨some 8,none,(.mov (.const (.bool false)))⟩,⟨some 9,none,(.mov (.tmp 27))⟩]) .ret) .skip)) (.seq (.region [⟨some 28,none,(.fld 1 (.tmp 4))⟩,⟨some 29,none,(.load false 1 (.tmp 28))⟩,⟨some 30,none,(.mov (.tmp 1))⟩,⟨some 31,none,(.idx 2 (.tmp 29) (.tmp 30))⟩,⟨some 32,none,(.fld 1 (.tmp 31))⟩,⟨some 33,none,(.load false 1 (.tmp 32))⟩,⟨some 34,none,(.mov (.tmp 2))⟩,⟨some 35,none,(.mov (.tmp 3))⟩,⟨some 36,none,(.call (.func 25) [(.tmp 33),(.tmp 34),(.tmp 35)])⟩,⟨some 8,none,(.mov (.tmp 36))⟩,⟨some 9,none,(.mov (.const (.int .i64 0)))⟩]) .ret)))))
set_option maxRecDepth 100000 in
theorem tab8:tb.code 8=some ⟨37,[(8,none),(9,none)],body8⟩:=by kernel_rfl
theorem r10Rules_ok (h:AHeap) (vt vf:Value) (T:List LType) (F:List LFn) (f a b:Int) (E:En h vt vf T F):
  WC Tryz.prog tb 8 [.agg #[vt,vf],I f,I a,I b] h fun r h'=>(∃ bb,r= .tuple #[.bool bb,I (rulE T F f a b)]∧(rulE T F f a b≠0→bb=false)∧(rulE T F f a b=0→(bb=true↔Dom (nxF T F f) a b)))∧Ext h h':=by
 have hF:=E.sm.funcs
 refine WC.of (zE 8) tab8 ?_;simp only[zL,Nat.zero_add,Nat.reduceAdd]
 refine go ?_
 refine WO.bx ?_
 intro p h1 e1 o1
 have E1:=E.ext e1
 refine go ?_
 refine WO.con (r9Next_ok h1 vt vf T F f a E1) ?_
 rintro _ h2 ⟨⟨v,rfl,sv⟩,e2⟩
 have o1:=o1.ext e2
 have e02:=e1.trans e2
 have E2:=E1.ext e2
 by_cases hc:(NextL T F f a).2=0
 case neg=>
  have hc':(NextL T F f a).2≠0:=hc
  have hr:rulE T F f a b=(NextL T F f a).2:=by unfold rulE;rw[if_pos hc]
  rw[hr]
  refine go ?_
  refine rt ?_
  exact⟨⟨_,rfl,fun _=>rfl,fun h=>absurd h hc⟩,e02⟩
 have hr:rulE T F f a b=askL T F f b:=by unfold rulE;rw[if_neg (fun e=>e hc)]
 rw[hr,hc]
 refine go ?_
 refine WO.con (r10asked_ok h2 vt vf T F f b E2) ?_
 rintro _ h3 ⟨rfl,e3⟩
 have o1:=o1.ext e3
 have e03:=e02.trans e3
 have E3:=E2.ext e3
 have sf3:=E3.sf
 by_cases ha:askL T F f b=0
 case neg=>
  have ha':askL T F f b≠0:=ha
  refine go ?_
  refine rt ?_
  exact⟨⟨_,rfl,fun _=>rfl,fun h=>absurd h ha⟩,e03⟩
 obtain⟨hz,wb⟩:=ask_way ha
 have hbb:=way_in hz wb
 have hna:(zC T F f a).2=0:=by rw[←next_err];exact hc
 obtain⟨h1a,h2a,h3a,h4a⟩:=zj hna
 have hin:=regs_in h4a
 have hzb:=(zj hz).2.2.1
 obtain⟨hlen,hnx⟩:=yR hz
 have hdm:=Hid.mk (ruled_dom (a:=a) wb)
 unfold nxF at hdm ⊢
 rw[hzb]at hlen hnx hbb hdm ⊢
 rw[h3a]at h2a
 rw[ha]
 obtain⟨ta,tn,tk,rfl⟩:=zI E.st
 obtain⟨ga,gn,gk,rfl⟩:=zI sf3
 obtain⟨csF,⟨vb,rfl,sb,hlb⟩,pcF,hsF⟩:=zZ (i:=f.toNat) sf3 (by omega)
 obtain⟨_,_,_,rfl⟩:=zI sb
 refine go ?_
 refine WO.con (ruled_ok h3 _ _ a b E3.hm sb hlen ⟨h1a,h2a⟩ hbb hnx) ?_
 rintro _ h4 ⟨⟨q,rfl,hq⟩,e4⟩
 refine go ?_
 refine rt ?_
 exact⟨⟨_,rfl,fun h=>absurd rfl h,fun _=>hq.trans hdm.out⟩,e03.trans e4⟩
noncomputable def body10:ACode:=(.seq (.region [⟨some 3,none,(.box (.tmp 0))⟩,⟨some 6,none,(.mov (.const (.int .i64 0)))⟩,⟨some 7,none,(.mov (.const (.int .i64 0)))⟩]) (.seq (.region [⟨some 9,none,(.load true 2 (.tmp 3))⟩,⟨some 10,none,(.mov (.tmp 1))⟩,⟨some 11,none,(.mov (.tmp 2))⟩,⟨some 12,none,(.call (.func 24) [(.tmp 9),(.tmp 10),(.tmp 11)])⟩,⟨some 8,none,(.mov (.tmp 12))⟩]) (.seq (.seq (.region [⟨some 13,none,(.mov (.tmp 8))⟩,⟨some 14,none,(.bin .neq (.tmp 13) (.const (.int .i64 0)))⟩]) (.cond (.tmp 14) (.seq (.region [⟨some 15,none,(.mov (.tmp 8))⟩,⟨some 6,none,(.mov (.const (.int .i64 0)))⟩,⟨some 7,none,(.mov (.tmp 15))⟩]) .ret) .skip)) (.seq (.region [⟨some 16,none,(.fld 1 (.tmp 3))⟩,⟨some 17,none,(.load false 1 (.tmp 16))⟩,⟨some 18,none,(.mov (.tmp 1))⟩,⟨some 19,none,(.idx 2 (.tmp 17) (.tmp 18))⟩,⟨some 20,none,(.fld 1 (.tmp 19))⟩,⟨some 21,none,(.load false 1 (.tmp 20))⟩,⟨some 22,none,(.mov (.tmp 2))⟩,⟨some 23,none,(.call (.func 26) [(.tmp 21),(.tmp 22)])⟩,⟨some 6,none,(.mov (.tmp 23))⟩,⟨some 7,none,(.mov (.const (.int .i64 0)))⟩]) .ret))))
set_option maxRecDepth 100000 in
theorem tab10:tb.code 10=some ⟨24,[(6,none),(7,none)],body10⟩:=by kernel_rfl
theorem r10Next_ok (h:AHeap) (vt vf:Value) (T:List LType) (F:List LFn) (f b:Int) (E:En h vt vf T F):
  WC Tryz.prog tb 10 [.agg #[vt,vf],I f,I b] h fun r h'=>(∃ v,r= .tuple #[I v,I (askL T F f b)]∧(askL T F f b=0→∀ xs,Rul (nxF T F f) xs→v=upL xs b)∧(askL T F f b≠0→v=0))∧Ext h h':=by
 have hF:=E.sm.funcs
 refine WC.of (zE 10) tab10 ?_;simp only[zL,Nat.zero_add,Nat.reduceAdd]
 refine go ?_
 refine WO.bx ?_
 intro p h1 e1 o1
 have E1:=E.ext e1
 refine go ?_
 refine WO.con (r10asked_ok h1 vt vf T F f b E1) ?_
 rintro _ h2 ⟨rfl,e2⟩
 have o1:=o1.ext e2
 have e02:=e1.trans e2
 have E2:=E1.ext e2
 have sf2:=E2.sf
 by_cases ha:askL T F f b=0
 case neg=>
  have ha':askL T F f b≠0:=ha
  refine go ?_
  refine rt ?_
  exact⟨⟨0,rfl,fun h=>absurd h ha,fun _=>rfl⟩,e02⟩
 obtain⟨hz,wb⟩:=ask_way ha
 have hbb:=way_in hz wb
 obtain⟨h1z,h2z,hzb,h4z⟩:=zj hz
 have hin:=regs_in h4z
 obtain⟨hlen,hnx⟩:=yR hz
 have hup:Hid (∀ v,((0≤v∧v<((F.getD f.toNat default).blocks.length:Int)∧NextP (nxL (F.getD f.toNat default).blocks) (F.getD f.toNat default).blocks.length v b)∨(v= -1∧∀ c,0≤c∧c<((F.getD f.toNat default).blocks.length:Int)→¬NextP (nxL (F.getD f.toNat default).blocks) (F.getD f.toNat default).blocks.length c b))→∀ xs,Rul (nxF T F f) xs→v=upL xs b):=⟨fun v hv xs r=>by
  have hw:∀ c,Way (nxF T F f) 0 c→0≤c∧c<((F.getD f.toNat default).blocks.length:Int):=fun c w=>by have:=way_in hz w;rw[hzb]at this;exact this
  refine ruler_up r wb hw ?_
  unfold nxF;rw[hzb];exact hv⟩
 rw[hzb]at hlen hnx hbb
 rw[ha]
 obtain⟨ta,tn,tk,rfl⟩:=zI E.st
 obtain⟨ga,gn,gk,rfl⟩:=zI sf2
 obtain⟨csF,⟨vb,rfl,sb,hlb⟩,pcF,hsF⟩:=zZ (i:=f.toNat) sf2 (by omega)
 obtain⟨_,_,_,rfl⟩:=zI sb
 refine go ?_
 refine WO.con (ruler_ok h2 _ _ b E2.hm sb hlen hbb hnx) ?_
 rintro _ h3 ⟨⟨v,rfl,hv⟩,e3⟩
 refine go ?_
 refine rt ?_
 exact⟨⟨v,rfl,fun _=>hup.out v hv,fun h=>absurd rfl h⟩,e02.trans e3⟩
noncomputable def allUp (xs:List Int) (n:Nat):List Int:=(List.range n).map fun (i:Nat)=>upL xs (i:Int)
theorem allUp_succ (xs:List Int) (n:Nat):allUp xs (n+1)=allUp xs n++[upL xs (n:Int)]:=by unfold allUp;rw[List.range_succ,List.map_append];rfl
noncomputable def body12_0:ACode:=(.seq (.seq (.region [⟨some 23,none,(.mov (.tmp 9))⟩,⟨some 24,none,(.mov (.tmp 7))⟩,⟨some 25,none,(.len (.tmp 24))⟩,⟨some 26,none,(.bin .lss (.tmp 23) (.tmp 25))⟩]) (.cond (.tmp 26) .skip (.exit 0))) (.seq (.block 1 (.seq (.region [⟨some 10,none,(.mov (.const (.int .i64 (-1))))⟩]) (.seq (.seq (.region [⟨some 29,none,(.mov (.tmp 7))⟩,⟨some 30,none,(.call (.func 28) [(.tmp 29)])⟩,⟨some 31,none,(.mov (.tmp 9))⟩,⟨some 32,none,(.call (.func 27) [(.tmp 30),(.tmp 31)])⟩]) (.cond (.tmp 32) (.region [⟨some 33,none,(.mov (.tmp 7))⟩,⟨some 34,none,(.mov (.tmp 9))⟩,⟨some 35,none,(.call (.func 26) [(.tmp 33),(.tmp 34)])⟩,⟨some 10,none,(.mov (.tmp 35))⟩]) .skip)) (.region [⟨some 36,none,(.mov (.tmp 8))⟩,⟨some 37,none,(.mov (.tmp 10))⟩,⟨some 38,none,(.buildSlice 1 1 [(.int .i64 0)] [(0,1,(.tmp 37))])⟩,⟨some 39,none,(.append 1 (.tmp 36) (.tmp 38))⟩,⟨some 8,none,(.mov (.tmp 39))⟩])))) (.region [⟨some 27,none,(.mov (.tmp 9))⟩,⟨some 28,none,(.bin .add (.tmp 27) (.const (.int .i64 1)))⟩,⟨some 9,none,(.mov (.tmp 28))⟩])))
noncomputable def body12:ACode:=(.seq (.region [⟨some 2,none,(.box (.tmp 0))⟩,⟨some 4,none,(.mov (.const (.slice none 0 0)))⟩,⟨some 5,none,(.mov (.const (.int .i64 0)))⟩]) (.seq (.region [⟨some 11,none,(.load true 2 (.tmp 2))⟩,⟨some 12,none,(.mov (.tmp 1))⟩,⟨some 13,none,(.call (.func 24) [(.tmp 11),(.tmp 12),(.const (.int .i64 0))])⟩,⟨some 6,none,(.mov (.tmp 13))⟩]) (.seq (.seq (.region [⟨some 14,none,(.mov (.tmp 6))⟩,⟨some 15,none,(.bin .neq (.tmp 14) (.const (.int .i64 0)))⟩]) (.cond (.tmp 15) (.seq (.region [⟨some 16,none,(.mov (.tmp 6))⟩,⟨some 4,none,(.mov (.const (.slice none 0 0)))⟩,⟨some 5,none,(.mov (.tmp 16))⟩]) .ret) .skip)) (.seq (.region [⟨some 17,none,(.fld 1 (.tmp 2))⟩,⟨some 18,none,(.load false 1 (.tmp 17))⟩,⟨some 19,none,(.mov (.tmp 1))⟩,⟨some 20,none,(.idx 2 (.tmp 18) (.tmp 19))⟩,⟨some 21,none,(.fld 1 (.tmp 20))⟩,⟨some 22,none,(.load false 1 (.tmp 21))⟩,⟨some 7,none,(.mov (.tmp 22))⟩]) (.seq (.region [⟨some 8,none,(.mov (.const (.slice none 0 0)))⟩]) (.seq (.seq (.region [⟨some 9,none,(.mov (.const (.int .i64 0)))⟩]) (.block 0 (.loop body12_0))) (.seq (.region [⟨some 40,none,(.mov (.tmp 8))⟩,⟨some 4,none,(.mov (.tmp 40))⟩,⟨some 5,none,(.mov (.const (.int .i64 0)))⟩]) .ret)))))))
set_option maxRecDepth 100000 in
theorem tab12:tb.code 12=some ⟨41,[(4,none),(5,none)],body12⟩:=by kernel_rfl
theorem r10All_ok (h:AHeap) (vt vf:Value) (T:List LType) (F:List LFn) (f:Int) (E:En h vt vf T F):
  WC Tryz.prog tb 12 [.agg #[vt,vf],I f] h fun r h'=>(∃ v l,r= .tuple #[v,I (askL T F f 0)]∧SlI h' v l∧(askL T F f 0=0→∀ xs,Rul (nxF T F f) xs→l=allUp xs (F.getD f.toNat default).blocks.length)∧(askL T F f 0≠0→l=[]))∧Ext h h':=by
 have hF:=E.sm.funcs
 refine WC.of (zE 12) tab12 ?_;simp only[zL,Nat.zero_add,Nat.reduceAdd]
 refine go ?_
 refine WO.bx ?_
 intro p h1 e1 o1
 have E1:=E.ext e1
 refine go ?_
 refine WO.con (r10asked_ok h1 vt vf T F f 0 E1) ?_
 rintro _ h2 ⟨rfl,e2⟩
 have o1:=o1.ext e2
 have e02:=e1.trans e2
 have E2:=E1.ext e2
 have sf2:=E2.sf
 by_cases ha:askL T F f 0=0
 case neg=>
  have ha':askL T F f 0≠0:=ha
  refine go ?_
  refine rt ?_
  exact⟨⟨_,[],rfl,SlI.nil _,fun h=>absurd h ha,fun _=>rfl⟩,e02⟩
 obtain⟨hz,_⟩:=ask_way ha
 obtain⟨h1z,h2z,hzb,h4z⟩:=zj hz
 have hin:=regs_in h4z
 obtain⟨hlen,hnx⟩:=yR hz
 have hw:∀ c,Way (nxF T F f) 0 c→0≤c∧c<((F.getD f.toNat default).blocks.length:Int):=fun c w=>by have:=way_in hz w;rw[hzb]at this;exact this
 have hnxF:nxF T F f=nxL (F.getD f.toNat default).blocks:=by unfold nxF;rw[hzb]
 rw[hzb]at hlen hnx h2z
 rw[ha]
 rw[hnxF]at hw ⊢
 obtain⟨ta,tn,tk,rfl⟩:=zI E.st
 obtain⟨ga,gn,gk,rfl⟩:=zI sf2
 obtain⟨csF,⟨vb,rfl,sb,hlb⟩,pcF,hsF⟩:=zZ (i:=f.toNat) sf2 (by omega)
 obtain⟨_,_,_,rfl⟩:=zI sb
 have hm2:=E2.hm
 generalize (F.getD f.toNat default).blocks=L at *
 replace hw:=Hid.mk hw
 replace hnx:=Hid.mk hnx
 refine go ?_
 clear pcF
 refine WX.loopA [23,24,25,26,10,29,30,31,32,33,34,35,10,36,37,38,39,8,27,28,9] (by kernel_rfl) (fun i=>L.length - i) (fun i t h3=>Ext h2 h3∧zB t 9=I i∧i≤L.length∧∃ w l,zB t 8=w∧OwnN h2 h3 w l∧l.length=i∧Hid (∀ xs,Rul (nxL L) xs→l=allUp xs i)) 0 ?_ ?_
 ·exact⟨Ext.refl _,sl_,Nat.zero_le _,_,[],sl_,.inl ⟨rfl,rfl⟩,rfl,⟨fun xs _=>rfl⟩⟩
 rintro i t h3 hsame ⟨e3,s9,hi,w,l,s8,ow,hll,hl⟩
 have sb3:=SlB.ext sb e3
 have hm3:=zX e3 hm2
 refine go ?_
 refine WX.br (fun hc=> ?_) (fun hc=> ?_)<;>simp only[DB]at hc
 case refine_2=>
  have hii:i=L.length:=by omega
  subst hii
  refine go ?_
  refine rt ?_
  exact⟨⟨_,l,rfl,ow.sl,fun _=>hl.out,fun h=>absurd rfl h⟩,e02.trans e3⟩
 have hi':i<L.length:=by omega
 refine go ?_
 refine WO.con (reached_ok h3 _ L hm3 sb3 hlen (by omega) hnx.out) ?_
 rintro u h4 ⟨⟨m,om,hm1,hm2',hm3'⟩,e4⟩
 refine go ?_
 refine WO.con (in_ok h4 u m (i:Int) om.sl (by omega)) ?_
 rintro _ _ ⟨rfl,rfl⟩
 have e34:=e3.trans e4
 have ow4:=ow.ext e4
 have hmi:=Hid.mk (hm3' (i:Int))
 clear hm3' hm1
 refine go ?_
 refine WX.cutA [33,34,35,10] (by kernel_rfl) (fun t h'=>Ext h2 h'∧OwnN h2 h' w l∧∃ v,zB t 10=I v∧Hid (∀ xs,Rul (nxL L) xs→v=upL xs (i:Int))) ?_ ?_
 ·by_cases hin2:(i:Int)∈m
  ·have wi:=hmi.out.1 hin2
   refine go ?_
   refine WO.con (ruler_ok h4 _ L i (zX e4 hm3) (SlB.ext sb e34) hlen (by omega) hnx.out) ?_
   rintro _ h5 ⟨⟨v,rfl,hv⟩,e5⟩
   refine go ?_
   exact zH ⟨e34.trans e5,ow4.ext e5,v,sl_,⟨fun xs r=>ruler_up r wi hw.out hv⟩⟩
  ·have wi:¬Way (nxL L) 0 (i:Int):=fun h=>hin2 (hmi.out.2 h)
   refine go ?_
   refine zH ⟨e34,ow4,-1,sl_,⟨fun xs r=> ?_⟩⟩
   have hi0:(i:Int)≠0:=fun e=>wi (by rw[e];exact .here)
   unfold upL
   rw[if_neg hi0]
   exact(r.un i (by omega) (by omega) wi).symm
 rintro t6 h6 hs6 ⟨e6,ow6,v,s10,hv⟩
 refine go ?_
 refine WO.bl [v] ?_
 intro v7 h7 e7 o7
 refine go ?_
 refine WO.apN (ow6.ext e7) o7.sl (e6.trans e7) (by simp only[List.length_singleton];omega) ?_
 intro v8 h8 e8 o8
 refine go ?_
 refine zA (i+1) (by omega) ⟨e8,sln,by omega,v8,l++[v],sl_,o8,by simp[hll],⟨fun xs r=> ?_⟩⟩
 rw[allUp_succ,←hl.out xs r,←hv.out xs r]
noncomputable def body11_0:ACode:=(.seq (.region [⟨some 25,none,(.bin .lss (.tmp 24) (.tmp 23))⟩]) (.seq (.cond (.tmp 25) .skip (.exit 0)) (.seq (.block 1 (.seq (.region [⟨some 26,none,(.mov (.tmp 24))⟩,⟨some 7,none,(.mov (.tmp 26))⟩]) (.region [⟨some 27,none,(.mov (.tmp 4))⟩,⟨some 28,none,(.mov (.tmp 6))⟩,⟨some 29,none,(.mov (.tmp 7))⟩,⟨some 30,none,(.nilCheck (.tmp 28))⟩,⟨some 31,none,(.fld 0 (.tmp 30))⟩,⟨some 32,none,(.idxArr 16 1 (.tmp 31) (.tmp 29))⟩,⟨some 33,none,(.load false 1 (.tmp 32))⟩,⟨some 34,none,(.buildSlice 1 1 [(.int .i64 0)] [(0,1,(.tmp 33))])⟩,⟨some 35,none,(.append 1 (.tmp 27) (.tmp 34))⟩,⟨some 4,none,(.mov (.tmp 35))⟩]))) (.region [⟨some 36,none,(.bin .add (.tmp 24) (.const (.int .i64 1)))⟩,⟨some 24,none,(.mov (.tmp 36))⟩]))))
noncomputable def body11:ACode:=(.seq (.region [⟨some 2,none,(.box (.tmp 0))⟩,⟨some 4,none,(.mov (.const (.slice none 0 0)))⟩,⟨some 5,none,(.mov (.const (.int .i64 0)))⟩]) (.seq (.region [⟨some 9,none,(.load true 2 (.tmp 2))⟩,⟨some 10,none,(.mov (.tmp 1))⟩,⟨some 11,none,(.call (.func 21) [(.tmp 9),(.tmp 10),(.const (.int .i64 0))])⟩,⟨some 8,none,(.mov (.tmp 11))⟩,⟨some 12,none,(.extract (.tmp 8) 0)⟩,⟨some 13,none,(.extract (.tmp 8) 1)⟩,⟨some 6,none,(.mov (.tmp 12))⟩,⟨some 5,none,(.mov (.tmp 13))⟩]) (.seq (.seq (.region [⟨some 14,none,(.mov (.tmp 5))⟩,⟨some 15,none,(.bin .neq (.tmp 14) (.const (.int .i64 0)))⟩]) (.cond (.tmp 15) (.seq (.region [⟨some 16,none,(.mov (.tmp 5))⟩,⟨some 4,none,(.mov (.const (.slice none 0 0)))⟩,⟨some 5,none,(.mov (.tmp 16))⟩]) .ret) .skip)) (.seq (.seq (.region [⟨some 17,none,(.fld 1 (.tmp 2))⟩,⟨some 18,none,(.load false 1 (.tmp 17))⟩,⟨some 19,none,(.mov (.tmp 1))⟩,⟨some 20,none,(.idx 2 (.tmp 18) (.tmp 19))⟩,⟨some 21,none,(.fld 1 (.tmp 20))⟩,⟨some 22,none,(.load false 1 (.tmp 21))⟩,⟨some 23,none,(.len (.tmp 22))⟩,⟨some 24,none,(.mov (.const (.int .i64 0)))⟩]) (.block 0 (.loop body11_0))) (.seq (.region [⟨some 37,none,(.mov (.tmp 4))⟩,⟨some 38,none,(.idx 1 (.tmp 37) (.const (.int .i64 0)))⟩,⟨none,none,(.store 1 (.tmp 38) (.const (.int .i64 (-1))))⟩]) (.seq (.region [⟨some 39,none,(.mov (.tmp 4))⟩,⟨some 4,none,(.mov (.tmp 39))⟩,⟨some 5,none,(.mov (.const (.int .i64 0)))⟩]) .ret))))))
set_option maxRecDepth 100000 in
theorem tab11:tb.code 11=some ⟨40,[(4,none),(5,none)],body11⟩:=by kernel_rfl
theorem dAll_ok (h:AHeap) (vt vf:Value) (T:List LType) (F:List LFn) (f:Int) (E:Env h vt vf T F):
  WC Tryz.prog tb 11 [.agg #[vt,vf],I f] h fun r h'=>(∃ v l,r= .tuple #[v,I (askL T F f 0)]∧SlI h' v l∧l.length≤16∧(askL T F f 0=0→∃ xs,Rul (nxF T F f) xs∧l=allUp xs (F.getD f.toNat default).blocks.length)∧(askL T F f 0≠0→l=[]))∧Ext h h':=by
 have hF:=E.sm.funcs
 refine WC.of (zE 11) tab11 ?_;simp only[zL,Nat.zero_add,Nat.reduceAdd]
 refine go ?_
 refine WO.bx ?_
 intro p h1 e1 o1
 have E1:=E.ext e1
 refine go ?_
 refine WO.con (dasked_ok h1 vt vf T F f 0 E1) ?_
 rintro _ h2 ⟨⟨q,rfl,hq⟩,e2⟩
 have o1:=o1.ext e2
 have e02:=e1.trans e2
 have E2:=E1.ext e2
 have sf2:=E2.sf
 by_cases ha:askL T F f 0=0
 case neg=>
  have ha':askL T F f 0≠0:=ha
  refine go ?_
  refine rt ?_
  exact⟨⟨_,[],rfl,SlI.nil _,by simp,fun h=>absurd h ha,fun _=>rfl⟩,e02⟩
 obtain⟨xs,oq,hR⟩:=hq ha
 have hlx:=hR.dm.len
 obtain⟨g,rfl⟩:∃ g,q= .pointer (some ⟨g,0,none⟩):=let ⟨g,_,_,e,_⟩:=oq;⟨g,e⟩
 obtain⟨hz,_⟩:=ask_way ha
 obtain⟨h1z,h2z,hzb,h4z⟩:=zj hz
 have hin:=regs_in h4z
 obtain⟨hlen,hnx⟩:=yR hz
 rw[hzb]at hlen h2z
 rw[ha]
 replace hR:=Hid.mk hR
 obtain⟨ta,tn,tk,rfl⟩:=zI E.st
 obtain⟨ga,gn,gk,rfl⟩:=zI sf2
 obtain⟨csF,⟨vb,rfl,sb,hlb⟩,pcF,hsF⟩:=zZ (i:=f.toNat) sf2 (by omega)
 obtain⟨_,_,_,rfl⟩:=zI sb
 generalize (F.getD f.toNat default).blocks=L at *
 refine go ?_
 refine WX.loopA [25,26,7,27,28,29,30,31,32,33,34,35,4,36,24] (by kernel_rfl) (fun i=>L.length - i) (fun i t h3=>Ext h2 h3∧zB t 24=I i∧i≤L.length∧∃ w,zB t 4=w∧OwnN h2 h3 w ((List.range i).map fun (j:Nat)=>pO xs (j:Int))) 0 ?_ ?_
 ·exact⟨Ext.refl _,sl_,Nat.zero_le _,_,sl_,.inl ⟨rfl,rfl⟩⟩
 rintro i t h3 hsame ⟨e3,s24,hi,w,s4,ow⟩
 have oq3:=oq.ext e3
 refine go ?_
 refine WX.br (fun hc=> ?_) (fun hc=> ?_)<;>simp only[DB]at hc
 ·have hi':i<L.length:=by omega
  refine go ?_
  refine WO.bl [xs.getD i 0] ?_
  intro v7 h7 e7 o7
  refine go ?_
  refine WO.apN (ow.ext e7) o7.sl (e3.trans e7) (by simp;omega) ?_
  intro v8 h8 e8 o8
  refine go ?_
  refine zA (i+1) (by omega) ⟨e8,sln,by omega,v8,sl_,?_⟩
  rw[List.range_succ,List.map_append]
  exact o8
 ·have hii:i=L.length:=by omega
  subst hii
  have hpos:0<L.length:=by omega
  obtain⟨m,hm⟩:∃ m,m=(List.range L.length).map fun (j:Nat)=>pO xs (j:Int):=⟨_,rfl⟩
  have hml:m.length=L.length:=by rw[hm];simp
  rw[←hm]at ow
  rcases ow with ⟨_,h0⟩|ow
  ·rw[h0]at hml;simp at hml;omega
  have sw:=ow.sl
  refine go ?_
  refine WO.storeI (i:=0) (a:= -1) z9 z9 ow e3 (by omega) ?_
  intro h4 e4 o4 _
  refine go ?_
  refine rt ?_
  refine⟨⟨_,_,rfl,o4.sl,by rw[List.length_set];omega,fun _=>⟨xs,hR.out,?_⟩,fun h=>absurd rfl h⟩,e02.trans e4⟩
  rw[hm]
  refine List.ext_getElem (by simp[allUp]) fun j hj1 hj2=> ?_
  simp only[allUp,List.getElem_map,List.getElem_range,List.getElem_set]
  by_cases hj:0=j
  ·subst hj;simp[upL]
  ·rw[if_neg hj];unfold upL;rw[if_neg (by omega)]
end Go.Proofs.YtdcgdfbblnljjaaGreatDoor
namespace Go.Proofs.YtdcgdfbblnljjaaGreatDoor
open Go.Am
set_option linter.unusedVariables false
set_option linter.unusedSimpArgs false
set_option maxHeartbeats 1000000
noncomputable def body3:ACode:=(.seq (.region [⟨some 4,none,(.box (.tmp 0))⟩,⟨some 8,none,(.mov (.const (.bool false)))⟩]) (.seq (.seq (.region [⟨some 22,none,(.load true 2 (.tmp 4))⟩,⟨some 23,none,(.call (.func 5) [(.tmp 22),(.const (.int .i64 300))])⟩]) (.cond (.tmp 23) (.seq (.region [⟨some 8,none,(.mov (.const (.bool true)))⟩]) .ret) .skip)) (.seq (.region [⟨some 24,none,(.load true 2 (.tmp 4))⟩,⟨some 25,none,(.call (.func 6) [(.tmp 24)])⟩,⟨some 9,none,(.alloc [(.slice none 0 0),(.slice none 0 0)])⟩,⟨none,none,(.store 2 (.tmp 9) (.tmp 25))⟩]) (.seq (.region [⟨some 27,none,(.load true 2 (.tmp 9))⟩,⟨some 28,none,(.mov (.tmp 1))⟩,⟨some 29,none,(.mov (.tmp 2))⟩,⟨some 30,none,(.mov (.tmp 3))⟩,⟨some 31,none,(.call (.func 7) [(.tmp 27),(.tmp 28),(.tmp 29),(.tmp 30)])⟩,⟨some 26,none,(.mov (.tmp 31))⟩,⟨some 32,none,(.extract (.tmp 26) 0)⟩,⟨some 33,none,(.extract (.tmp 26) 1)⟩,⟨some 10,none,(.mov (.tmp 32))⟩,⟨some 11,none,(.mov (.tmp 33))⟩]) (.seq (.region [⟨some 35,none,(.load true 2 (.tmp 4))⟩,⟨some 36,none,(.mov (.tmp 1))⟩,⟨some 37,none,(.mov (.tmp 2))⟩,⟨some 38,none,(.mov (.tmp 3))⟩,⟨some 39,none,(.call (.func 8) [(.tmp 35),(.tmp 36),(.tmp 37),(.tmp 38)])⟩,⟨some 34,none,(.mov (.tmp 39))⟩,⟨some 40,none,(.extract (.tmp 34) 0)⟩,⟨some 41,none,(.extract (.tmp 34) 1)⟩,⟨some 12,none,(.mov (.tmp 40))⟩,⟨some 13,none,(.mov (.tmp 41))⟩]) (.seq (.region [⟨some 43,none,(.load true 2 (.tmp 9))⟩,⟨some 44,none,(.mov (.tmp 1))⟩,⟨some 45,none,(.mov (.tmp 3))⟩,⟨some 46,none,(.call (.func 9) [(.tmp 43),(.tmp 44),(.tmp 45)])⟩,⟨some 42,none,(.mov (.tmp 46))⟩,⟨some 47,none,(.extract (.tmp 42) 0)⟩,⟨some 48,none,(.extract (.tmp 42) 1)⟩,⟨some 14,none,(.mov (.tmp 47))⟩,⟨some 15,none,(.mov (.tmp 48))⟩]) (.seq (.region [⟨some 50,none,(.load true 2 (.tmp 4))⟩,⟨some 51,none,(.mov (.tmp 1))⟩,⟨some 52,none,(.mov (.tmp 3))⟩,⟨some 53,none,(.call (.func 10) [(.tmp 50),(.tmp 51),(.tmp 52)])⟩,⟨some 49,none,(.mov (.tmp 53))⟩,⟨some 54,none,(.extract (.tmp 49) 0)⟩,⟨some 55,none,(.extract (.tmp 49) 1)⟩,⟨some 16,none,(.mov (.tmp 54))⟩,⟨some 17,none,(.mov (.tmp 55))⟩]) (.seq (.region [⟨some 57,none,(.load true 2 (.tmp 9))⟩,⟨some 58,none,(.mov (.tmp 1))⟩,⟨some 59,none,(.call (.func 11) [(.tmp 57),(.tmp 58)])⟩,⟨some 56,none,(.mov (.tmp 59))⟩,⟨some 60,none,(.extract (.tmp 56) 0)⟩,⟨some 61,none,(.extract (.tmp 56) 1)⟩,⟨some 18,none,(.mov (.tmp 60))⟩,⟨some 19,none,(.mov (.tmp 61))⟩]) (.seq (.region [⟨some 63,none,(.load true 2 (.tmp 4))⟩,⟨some 64,none,(.mov (.tmp 1))⟩,⟨some 65,none,(.call (.func 12) [(.tmp 63),(.tmp 64)])⟩,⟨some 62,none,(.mov (.tmp 65))⟩,⟨some 66,none,(.extract (.tmp 62) 0)⟩,⟨some 67,none,(.extract (.tmp 62) 1)⟩,⟨some 20,none,(.mov (.tmp 66))⟩,⟨some 21,none,(.mov (.tmp 67))⟩]) (.seq (.region [⟨some 68,none,(.mov (.tmp 10))⟩,⟨some 69,none,(.mov (.tmp 12))⟩,⟨some 70,none,(.binB false (.tmp 68) (.tmp 69))⟩,⟨some 71,none,(.mov (.tmp 70))⟩,⟨some 72,some (71,true),(.mov (.tmp 11))⟩,⟨some 73,some (71,true),(.mov (.tmp 13))⟩,⟨some 74,some (71,true),(.bin .eql (.tmp 72) (.tmp 73))⟩,⟨some 75,none,(.pick (.tmp 71) (.tmp 74) (.const (.bool false)))⟩,⟨some 76,none,(.mov (.tmp 75))⟩,⟨some 77,some (76,true),(.mov (.tmp 14))⟩,⟨some 78,some (76,true),(.mov (.tmp 16))⟩,⟨some 79,some (76,true),(.bin .eql (.tmp 77) (.tmp 78))⟩,⟨some 80,none,(.pick (.tmp 76) (.tmp 79) (.const (.bool false)))⟩,⟨some 81,none,(.mov (.tmp 80))⟩,⟨some 82,some (81,true),(.mov (.tmp 15))⟩,⟨some 83,some (81,true),(.mov (.tmp 17))⟩,⟨some 84,some (81,true),(.bin .eql (.tmp 82) (.tmp 83))⟩,⟨some 85,none,(.pick (.tmp 81) (.tmp 84) (.const (.bool false)))⟩,⟨some 86,none,(.mov (.tmp 85))⟩,⟨some 87,some (86,true),(.mov (.tmp 18))⟩,⟨some 88,some (86,true),(.mov (.tmp 20))⟩,⟨some 89,some (86,true),(.call (.func 13) [(.tmp 87),(.tmp 88)])⟩,⟨some 90,none,(.pick (.tmp 86) (.tmp 89) (.const (.bool false)))⟩,⟨some 91,none,(.mov (.tmp 90))⟩,⟨some 92,some (91,true),(.mov (.tmp 19))⟩,⟨some 93,some (91,true),(.mov (.tmp 21))⟩,⟨some 94,some (91,true),(.bin .eql (.tmp 92) (.tmp 93))⟩,⟨some 95,none,(.pick (.tmp 91) (.tmp 94) (.const (.bool false)))⟩,⟨some 96,none,(.mov (.tmp 95))⟩,⟨some 97,some (96,true),(.load true 2 (.tmp 9))⟩,⟨some 98,some (96,true),(.load true 2 (.tmp 4))⟩,⟨some 99,some (96,true),(.call (.func 14) [(.tmp 97),(.tmp 98)])⟩,⟨some 100,none,(.pick (.tmp 96) (.tmp 99) (.const (.bool false)))⟩,⟨some 8,none,(.mov (.tmp 100))⟩]) .ret))))))))))
set_option maxRecDepth 100000 in
theorem tab3:tb.code 3=some ⟨101,[(8,none)],body3⟩:=by kernel_rfl
theorem DomTells_ok (h:AHeap) (vt vf:Value) (T:List LType) (F:List LFn) (f a b:Int) (tt:Tbl h) (hm:h.mark≤h.n) (st:SlT h vt T) (sf:SlF h vf F) (hT:(T.length:Int)≤1152921504606846976) (hF:(F.length:Int)≤1152921504606846976):
  WC Tryz.prog tb 3 [.agg #[vt,vf],I f,I a,I b] h fun r h'=>r= .bool true:=by
 refine WC.of (zE 3) tab3 ?_;simp only[zL,Nat.zero_add,Nat.reduceAdd]
 refine go ?_
 refine WO.bx ?_
 intro p h1 e1 o1
 refine go ?_
 refine WO.con (great2_ok h1 vt vf T F 300 (by omega) (st.ext e1) (SlF.ext sf e1) (by omega) (by omega)) ?_
 rintro r h2 ⟨hr,e2⟩
 have o1:=o1.ext e2
 rcases hr with rfl|⟨rfl,sm,si⟩
 ·refine go ?_
  refine rt ?_
  rfl
 have E:En h2 vt vf T F:=⟨(tt.ext e1).ext e2,zX e2 (zX e1 hm),sm,si,(st.ext e1).ext e2,SlF.ext (SlF.ext sf e1) e2⟩
 clear st sf tt hm e1 e2
 refine go ?_
 refine WO.con (rTwin_ok h2 vt vf T F sm si E.hm E.st E.sf) ?_
 rintro _ h3 ⟨⟨wt,wf,rfl,swt,swf⟩,e3⟩
 have o1:=o1.ext e3
 have E:=E.ext e3
 obtain⟨wa,wn,wk,rfl⟩:=zI swt
 obtain⟨xa,xn,xk,rfl⟩:=zI swf
 refine go ?_
 refine WO.al ?_
 intro q h4 e4 o4
 refine WO.stC0 o4 e4 ?_
 intro h5 e5 o5 _
 have o1:=o1.ext e5
 have E:=E.ext e5
 have W:En h5 _ _ T F:=⟨E.tt,E.hm,sm,si,swt.ext e5,SlF.ext swf e5⟩
 clear e3 e4 e5 o4 swt swf
 refine go ?_
 refine WO.con (dRules_ok h5 _ _ T F f a b W.env) ?_
 rintro _ h6 ⟨⟨b1,rfl,hb1,hb1'⟩,e6⟩
 have o1:=o1.ext e6
 have o5:=o5.ext e6
 have E:=E.ext e6
 have W:=W.ext e6
 refine go ?_
 refine WO.con (r10Rules_ok h6 vt vf T F f a b E) ?_
 rintro _ h7 ⟨⟨b2,rfl,hb2,hb2'⟩,e7⟩
 have hbb:b1=b2:=by
  by_cases hr:rulE T F f a b=0
  ·rw[Bool.eq_iff_iff,(hb1' hr).1,hb2' hr]
  ·rw[hb1 hr,hb2 hr]
 subst hbb
 clear hb1 hb1' hb2 hb2'
 have o1:=o1.ext e7
 have o5:=o5.ext e7
 have E:=E.ext e7
 have W:=W.ext e7
 refine go ?_
 refine WO.con (dNext2_ok h7 _ _ T F f b W.env) ?_
 rintro _ h8 ⟨⟨v1,rfl,hv1,hv1'⟩,e8⟩
 have o1:=o1.ext e8
 have o5:=o5.ext e8
 have E:=E.ext e8
 have W:=W.ext e8
 refine go ?_
 refine WO.con (r10Next_ok h8 vt vf T F f b E) ?_
 rintro _ h9 ⟨⟨v2,rfl,hv2,hv2'⟩,e9⟩
 have hvv:v1=v2:=by
  by_cases hr:askL T F f b=0
  ·obtain⟨xs,hR,e⟩:=hv1 hr
   rw[e,hv2 hr xs hR]
  ·rw[hv1' hr,hv2' hr]
 subst hvv
 clear hv1 hv1' hv2 hv2'
 have o1:=o1.ext e9
 have o5:=o5.ext e9
 have E:=E.ext e9
 have W:=W.ext e9
 refine go ?_
 refine WO.con (dAll_ok h9 _ _ T F f W.env) ?_
 rintro _ h10 ⟨⟨w1,l1,rfl,s1,hl1,hA,hA'⟩,e10⟩
 have o1:=o1.ext e10
 have o5:=o5.ext e10
 have E:=E.ext e10
 have W:=W.ext e10
 refine go ?_
 refine WO.con (r10All_ok h10 vt vf T F f E) ?_
 rintro _ h11 ⟨⟨w2,l2,rfl,s2,hC,hC'⟩,e11⟩
 have hll:l1=l2:=by
  by_cases hr:askL T F f 0=0
  ·obtain⟨xs,hR,e⟩:=hA hr
   rw[e,hC hr xs hR]
  ·rw[hA' hr,hC' hr]
 subst hll
 clear hA hA' hC hC'
 have s1:=s1.ext e11
 have o1:=o1.ext e11
 have o5:=o5.ext e11
 have E:=E.ext e11
 have W:=W.ext e11
 have hbt:(b1 == b1)=true:=by simp
 clear e6 e7 e8 e9 e10 e11
 refine go ?_
 refine WO.con (sameInts_ok h11 _ _ _ _ s1 s2 (by omega)) ?_
 rintro _ _ ⟨rfl,rfl⟩
 refine go ?_
 refine WO.con (rSame_ok h11 _ _ _ _ T F sm si E.hm W.st W.sf E.st E.sf) ?_
 rintro _ h12 ⟨rfl,e12⟩
 refine go ?_
 refine rt ?_
 rfl
end Go.Proofs.YtdcgdfbblnljjaaGreatDoor
