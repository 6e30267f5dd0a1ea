/- What functions of the program come to in the abstract machine, and plain laws about it; no statement of the seat is proved in this text. -/
import Derived.Test.YtdcgdfbblnljjaaGreatDoorJe
import Derived.Test.YtdcgdfbblnljjaaGreatDoorJc
import Derived.Test.YtdcgdfbblnljjaaGreatDoorJb
import Derived.Test.YtdcgdfbblnljjaaGreatDoorAmU
namespace Go.Proofs.YtdcgdfbblnljjaaGreatDoor
open Go.Am
set_option linter.unusedVariables false
def Bst (nx:Int→List Int) (xs:List Int) (b:Int) (A:List Int) (j:Nat) (v:Int):Prop:=
 (v= -1∧∀ i,i<j→pO xs (A.getD i 0)= -1)∨
 (v≠ -1∧Way nx 0 v∧pO xs v≠ -1∧(∀ i,i<j→pO xs (A.getD i 0)≠ -1→Anc (fun b=>pO xs b) v (A.getD i 0))∧∀ y,Dom nx y b→y≠b→Dom nx y v)
theorem Bst.skip {nx:Int→List Int} {xs:List Int} {b v:Int} {A:List Int} {j:Nat} (h:Bst nx xs b A j v) (hp:pO xs (A.getD j 0)= -1):Bst nx xs b A (j+1) v:=by
 rcases h with ⟨h1,h2⟩|⟨h0,h1,h2,h3,h4⟩
 ·refine .inl ⟨h1,fun i hi=> ?_⟩
  by_cases e:i=j
  ·rw[e];exact hp
  ·exact h2 i (by omega)
 ·refine .inr ⟨h0,h1,h2,fun i hi hn=> ?_,h4⟩
  by_cases e:i=j
  ·rw[e]at hn;exact absurd hp hn
  ·exact h3 i (by omega) hn
theorem Bst.first {nx:Int→List Int} {xs:List Int} {b:Int} {A:List Int} {j:Nat} (h:Bst nx xs b A j (-1)) (hw:Way nx 0 (A.getD j 0)) (hn0:A.getD j 0≠ -1) (hb:b∈nx (A.getD j 0)) (hp:pO xs (A.getD j 0)≠ -1):Bst nx xs b A (j+1) (A.getD j 0):=by
 rcases h with ⟨_,h2⟩|⟨h0,_⟩
 ·refine .inr ⟨hn0,hw,hp,fun i hi hn=> ?_,fun y hy hyb=>hy.pred hyb hb⟩
  by_cases e:i=j
  ·rw[e];exact .here
  ·exact absurd (h2 i (by omega)) hn
 ·exact absurd rfl h0
theorem Bst.meet {nx:Int→List Int} {xs:List Int} {b v m:Int} {A:List Int} {j:Nat} (h:Bst nx xs b A j v) (hv:v≠ -1) (hm0:m≠ -1) (hb:b∈nx (A.getD j 0)) (hm:Mt nx (fun b=>qO xs b) (fun b=>pO xs b) v (A.getD j 0) m):Bst nx xs b A (j+1) m:=by
 rcases h with ⟨h1,_⟩|⟨h0,h1,h2,h3,h4⟩
 ·exact absurd h1 hv
 ·refine .inr ⟨hm0,hm.way,hm.done,fun i hi hn=> ?_,fun y hy hyb=>hm.dom y (h4 y hy hyb) (hy.pred hyb hb)⟩
  by_cases e:i=j
  ·rw[e];exact hm.right
  ·exact hm.left.trans (h3 i (by omega) hn)
theorem Bst.best {nx:Int→List Int} {xs:List Int} {b v:Int} {A:List Int} (dm:Dm nx xs) (h:Bst nx xs b A A.length v) (hA:∀ a,Way nx 0 a→b∈nx a→∃ i,i<A.length∧A.getD i 0=a) {a:Int} (wa:Way nx 0 a) (ha:b∈nx a) (pa:pO xs a≠ -1) (hlt:qO xs a<qO xs b):Best nx (fun b=>qO xs b) (fun b=>pO xs b) b v:=by
 obtain⟨i,hi,e⟩:=hA a wa ha
 rcases h with ⟨h1,h2⟩|⟨h0,h1,h2,h3,h4⟩
 ·exact absurd (by rw[←e];exact h2 i hi) pa
 ·refine⟨h1,h2,?_,fun c wc hc pc=> ?_,h4⟩
  ·have:=(dm.rl.le (by have:=h3 i hi (by rw[e];exact pa);rw[e]at this;exact this) wa).2.1
   have h5:qO xs v≤qO xs a:=this
   show qO xs v<qO xs b
   omega
  ·obtain⟨i,hi,e⟩:=hA c wc hc
   have:=h3 i hi (by rw[e];exact pc)
   rw[e]at this;exact this
structure Rul (nx:Int→List Int) (xs:List Int):Prop where
 dm:Dm nx xs
 all:∀ b,Way nx 0 b→pO xs b≠ -1
 dom:∀ y b,Way nx 0 b→(Anc (fun b=>pO xs b) y b↔Dom nx y b)
 lt:∀ b,Way nx 0 b→qO xs b<16
 un:∀ c,0≤c→c<16→¬Way nx 0 c→pO xs c= -1
theorem rul_of {nx:Int→List Int} {O qs xs:List Int} {k:Nat} (g:Md nx O qs xs xs k O.length) (hmem:∀ c,Way nx 0 c→∃ i,i<O.length∧O.getD i 0=c) (h0:O.getD 0 0=0) (hq:∀ b,Way nx 0 b→qO xs b<16):Rul nx xs:=by
 have rd:=g.done hmem
 have hall:=rd.all (by omega)
 refine⟨g.dm,hall,fun y b w=>⟨fun ha hav=> ?_,fun hd=>Rl.anc_of_dom g.dm.rpo g.dm.rl (qO xs b).toNat b y (by have h5:=g.dm.rpo.nn b w;have h5:0≤qO xs b:=h5;show qO xs b≤_;omega) w (hall b w) hd⟩,hq,g.un⟩
 obtain⟨n,hav⟩:=hav
 induction hav with
 |here h=>exact h (Anc.zero ha).symm
 |step h1 hc hne ih=>
  rename_i n a c
  cases ha with
  |here=>exact hne rfl
  |up hb hp hu=>
   obtain⟨i,hi,e⟩:=hmem c w
   have hi0:i≠0:=fun e2=>hb (by rw[←e,e2,h0])
   have:=g.fix rfl i hi hi0 a h1.way (by rw[e];exact hc) (hall a h1.way)
   rw[e]at this
   exact ih h1.way (hu.trans this)
theorem own_tail {h0 h:AHeap} {v:Value} {l:List Int} (o:OwnN h0 h v l) (hl:0<l.length):∃ r,YP 1 v (some 1) none none=some r∧SlI h r (l.drop 1):=by
 rcases o with ⟨rfl,rfl⟩|⟨g,g1,g2,rfl,g3⟩
 ·simp at hl
 ·refine⟨.slice (some ⟨g,1,none⟩) (l.length - 1) 1,?_,?_⟩
  ·have h1:Nat.ble 1 l.length=true:=Nat.ble_eq_true_of_le hl
   have h2:Nat.ble l.length l.length=true:=Nat.ble_eq_true_of_le (Nat.le_refl _)
   simp[YP,h1,h2]
  ·exact⟨by simp,.inr ⟨g,1,l.map I,by simp,yt g3,by rw[ZC (by simp;omega),List.map_drop,List.take_of_length_le (by simp)],g2⟩⟩
theorem own_updC {h0 h h':AHeap} {p q:Value} {cells:List Value} (o:OwnC h0 h q cells) (u:UpdC p h h') (hne:p≠q):OwnC h0 h' q cells:=by
 obtain⟨g,g1,g2,rfl,g3⟩:=o
 exact⟨g,g1,Nat.lt_of_lt_of_le g2 u.1,rfl,(u.2 g g2 hne).trans g3⟩
theorem zGx (l:List Int) (b:Int):qO l b=(l.drop 16).getD b.toNat 0:=by simp[qO,List.getD]
theorem zH7 {xs ys:List Int} (hx:xs.take 16=ys.take 16) (hy:xs.drop 16=ys.drop 16):xs=ys:=by
 rw[←List.take_append_drop 16 xs,hx,hy,List.take_append_drop]
theorem ahead_in {L:List LBlk} {b:Int} {A:List Int} (hA:zS L b L.length=A) {j:Nat} (hj:j<A.length):(0≤A.getD j 0∧A.getD j 0<(L.length:Int))∧b∈nxL L (A.getD j 0):=by
 refine zBz.1 ?_
 rw[hA,List.getD_eq_getElem?_getD,List.getElem?_eq_getElem hj]
 exact List.getElem_mem hj
end Go.Proofs.YtdcgdfbblnljjaaGreatDoor
namespace Go.Proofs.YtdcgdfbblnljjaaGreatDoor
open Go.Am
set_option linter.unusedVariables false
set_option linter.unusedSimpArgs false
set_option maxHeartbeats 1000000
theorem one_of {hB h:AHeap} {cells:List Value} {A:Nat→List Int} (hl:cells.length=16) (hall:∀ j,j<16→OwnN hB h (cells.getD j undef) (A j)):zQ cells=true:=by
 unfold zQ
 rw[List.all_eq_true]
 intro x hx
 obtain⟨j,hj,rfl⟩:=List.mem_iff_getElem.1 hx
 have e:cells.getD j undef=cells[j]:=by simp[List.getD,List.getElem?_eq_getElem hj]
 have:=hall j (by omega)
 rw[e]at this
 rcases this with ⟨h,_⟩|⟨_,_,_,h,_⟩<;>rw[h]
theorem zBv (l:List Int):Zy (.agg (l.map I).toArray)=true:=by
 show (l.map I).all yJ=true
 rw[List.all_eq_true]
 intro x hx
 obtain⟨n,_,rfl⟩:=List.mem_map.1 hx
 rfl
noncomputable def body39_0:ACode:=(.seq (.region [⟨some 34,none,(.bin .lss (.tmp 33) (.const (.int .i64 16)))⟩]) (.seq (.cond (.tmp 34) .skip (.exit 0)) (.seq (.block 1 (.seq (.region [⟨some 35,none,(.mov (.tmp 33))⟩,⟨some 9,none,(.mov (.tmp 35))⟩]) (.regionC [(⟨some 36,none,(.mov (.tmp 8))⟩,[]),(⟨some 37,none,(.mov (.tmp 9))⟩,[]),(⟨some 38,none,(.mov (.tmp 8))⟩,[]),(⟨some 39,none,(.mov (.tmp 9))⟩,[]),(⟨some 40,none,(.nilCheck (.tmp 36))⟩,[]),(⟨some 41,none,(.fld 0 (.tmp 40))⟩,[]),(⟨some 42,none,(.idxArr 16 1 (.tmp 41) (.tmp 37))⟩,[]),(⟨none,none,(.store 1 (.tmp 42) (.const (.int .i64 (-1))))⟩,[]),(⟨some 43,none,(.nilCheck (.tmp 38))⟩,[]),(⟨some 44,none,(.fld 16 (.tmp 43))⟩,[]),(⟨some 45,none,(.idxArr 16 1 (.tmp 44) (.tmp 39))⟩,[]),(⟨none,none,(.store 1 (.tmp 45) (.const (.int .i64 (-1))))⟩,[])]))) (.region [⟨some 46,none,(.bin .add (.tmp 33) (.const (.int .i64 1)))⟩,⟨some 33,none,(.mov (.tmp 46))⟩]))))
noncomputable def body39_1:ACode:=(.seq (.region [⟨some 50,none,(.bin .lss (.tmp 49) (.tmp 48))⟩]) (.seq (.cond (.tmp 50) .skip (.exit 2)) (.seq (.block 3 (.seq (.region [⟨some 51,none,(.mov (.tmp 49))⟩,⟨some 52,none,(.idx 1 (.tmp 47) (.tmp 49))⟩,⟨some 53,none,(.load false 1 (.tmp 52))⟩,⟨some 10,none,(.mov (.tmp 51))⟩,⟨some 11,none,(.mov (.tmp 53))⟩]) (.region [⟨some 54,none,(.mov (.tmp 8))⟩,⟨some 55,none,(.mov (.tmp 11))⟩,⟨some 56,none,(.mov (.tmp 10))⟩,⟨some 57,none,(.nilCheck (.tmp 54))⟩,⟨some 58,none,(.fld 16 (.tmp 57))⟩,⟨some 59,none,(.idxArr 16 1 (.tmp 58) (.tmp 55))⟩,⟨none,none,(.store 1 (.tmp 59) (.tmp 56))⟩]))) (.region [⟨some 60,none,(.bin .add (.tmp 49) (.const (.int .i64 1)))⟩,⟨some 49,none,(.mov (.tmp 60))⟩]))))
noncomputable def body39_2:ACode:=(.seq (.region [⟨some 81,none,(.bin .lss (.tmp 80) (.tmp 79))⟩]) (.seq (.cond (.tmp 81) .skip (.exit 8)) (.seq (.block 9 (.seq (.region [⟨some 82,none,(.idx 1 (.tmp 78) (.tmp 80))⟩,⟨some 83,none,(.load false 1 (.tmp 82))⟩,⟨some 17,none,(.mov (.tmp 83))⟩]) (.block 10 (.seq (.region [⟨some 89,none,(.mov (.tmp 8))⟩,⟨some 90,none,(.mov (.tmp 17))⟩,⟨some 91,none,(.nilCheck (.tmp 89))⟩,⟨some 92,none,(.fld 0 (.tmp 91))⟩,⟨some 93,none,(.idxArr 16 1 (.tmp 92) (.tmp 90))⟩,⟨some 94,none,(.load false 1 (.tmp 93))⟩,⟨some 95,none,(.bin .eql (.tmp 94) (.const (.int .i64 (-1))))⟩,⟨some 88,none,(.mov (.tmp 95))⟩]) (.cond (.tmp 88) .skip (.seq (.region [⟨some 97,none,(.mov (.tmp 15))⟩,⟨some 98,none,(.bin .eql (.tmp 97) (.const (.int .i64 (-1))))⟩,⟨some 96,none,(.mov (.tmp 98))⟩]) (.cond (.tmp 96) (.region [⟨some 99,none,(.mov (.tmp 17))⟩,⟨some 15,none,(.mov (.tmp 99))⟩]) (.region [⟨some 84,none,(.mov (.tmp 8))⟩,⟨some 85,none,(.mov (.tmp 15))⟩,⟨some 86,none,(.mov (.tmp 17))⟩,⟨some 87,none,(.call (.func 58) [(.tmp 84),(.tmp 85),(.tmp 86)])⟩,⟨some 15,none,(.mov (.tmp 87))⟩])))))))) (.region [⟨some 100,none,(.bin .add (.tmp 80) (.const (.int .i64 1)))⟩,⟨some 80,none,(.mov (.tmp 100))⟩]))))
noncomputable def body39_3:ACode:=(.seq (.region [⟨some 73,none,(.bin .lss (.tmp 72) (.tmp 71))⟩]) (.seq (.cond (.tmp 73) .skip (.exit 6)) (.seq (.block 7 (.seq (.region [⟨some 74,none,(.idx 1 (.tmp 70) (.tmp 72))⟩,⟨some 75,none,(.load false 1 (.tmp 74))⟩,⟨some 14,none,(.mov (.tmp 75))⟩]) (.seq (.region [⟨some 15,none,(.mov (.const (.int .i64 (-1))))⟩]) (.seq (.seq (.region [⟨some 76,none,(.mov (.tmp 14))⟩,⟨some 77,none,(.idxArr 16 1 (.tmp 7) (.tmp 76))⟩,⟨some 78,none,(.load false 1 (.tmp 77))⟩,⟨some 79,none,(.len (.tmp 78))⟩,⟨some 80,none,(.mov (.const (.int .i64 0)))⟩]) (.block 8 (.loop body39_2))) (.region [⟨some 101,none,(.mov (.tmp 8))⟩,⟨some 102,none,(.mov (.tmp 14))⟩,⟨some 103,none,(.mov (.tmp 15))⟩,⟨some 104,none,(.nilCheck (.tmp 101))⟩,⟨some 105,none,(.fld 0 (.tmp 104))⟩,⟨some 106,none,(.idxArr 16 1 (.tmp 105) (.tmp 102))⟩,⟨none,none,(.store 1 (.tmp 106) (.tmp 103))⟩]))))) (.region [⟨some 107,none,(.bin .add (.tmp 72) (.const (.int .i64 1)))⟩,⟨some 72,none,(.mov (.tmp 107))⟩]))))
noncomputable def body39_4:ACode:=(.block 5 (.seq (.region [⟨some 65,none,(.mov (.tmp 8))⟩,⟨some 66,none,(.nilCheck (.tmp 65))⟩,⟨some 67,none,(.fld 0 (.tmp 66))⟩,⟨some 68,none,(.load true 16 (.tmp 67))⟩,⟨some 12,none,(.alloc [(.int .i64 0),(.int .i64 0),(.int .i64 0),(.int .i64 0),(.int .i64 0),(.int .i64 0),(.int .i64 0),(.int .i64 0),(.int .i64 0),(.int .i64 0),(.int .i64 0),(.int .i64 0),(.int .i64 0),(.int .i64 0),(.int .i64 0),(.int .i64 0)])⟩,⟨none,none,(.store 16 (.tmp 12) (.tmp 68))⟩]) (.seq (.seq (.region [⟨some 69,none,(.mov (.tmp 5))⟩,⟨some 70,none,(.slice 1 (.tmp 69) (some (.const (.int .i64 1))) none none)⟩,⟨some 71,none,(.len (.tmp 70))⟩,⟨some 72,none,(.mov (.const (.int .i64 0)))⟩]) (.block 6 (.loop body39_3))) (.seq (.regionC [(⟨some 108,none,(.load true 16 (.tmp 12))⟩,[]),(⟨some 109,none,(.mov (.tmp 8))⟩,[]),(⟨some 110,none,(.nilCheck (.tmp 109))⟩,[]),(⟨some 111,none,(.fld 0 (.tmp 110))⟩,[]),(⟨some 112,none,(.load true 16 (.tmp 111))⟩,[]),(⟨some 113,none,(.binP .eql 71 (.tmp 108) (.tmp 112))⟩,[])]) (.cond (.tmp 113) (.exit 4) .skip)))))
noncomputable def body39:ACode:=(.seq (.region [⟨some 2,none,(.box (.tmp 0))⟩,⟨some 4,none,(.mov (.const (.pointer none)))⟩]) (.scope (.seq (.region [⟨some 19,none,(.load true 2 (.tmp 2))⟩,⟨some 20,none,(.mov (.tmp 1))⟩,⟨some 21,none,(.call (.func 56) [(.tmp 19),(.tmp 20)])⟩,⟨some 18,none,(.mov (.tmp 21))⟩,⟨some 22,none,(.extract (.tmp 18) 0)⟩,⟨some 23,none,(.extract (.tmp 18) 1)⟩,⟨some 5,none,(.mov (.tmp 22))⟩,⟨some 6,none,(.mov (.tmp 23))⟩]) (.seq (.region [⟨some 24,none,(.fld 1 (.tmp 2))⟩,⟨some 25,none,(.load false 1 (.tmp 24))⟩,⟨some 26,none,(.mov (.tmp 1))⟩,⟨some 27,none,(.idx 2 (.tmp 25) (.tmp 26))⟩,⟨some 28,none,(.fld 1 (.tmp 27))⟩,⟨some 29,none,(.load false 1 (.tmp 28))⟩,⟨some 30,none,(.call (.func 57) [(.tmp 29)])⟩,⟨some 7,none,(.alloc [(.slice none 0 0),(.slice none 0 0),(.slice none 0 0),(.slice none 0 0),(.slice none 0 0),(.slice none 0 0),(.slice none 0 0),(.slice none 0 0),(.slice none 0 0),(.slice none 0 0),(.slice none 0 0),(.slice none 0 0),(.slice none 0 0),(.slice none 0 0),(.slice none 0 0),(.slice none 0 0)])⟩,⟨none,none,(.store 16 (.tmp 7) (.tmp 30))⟩]) (.seq (.region [⟨some 31,none,(.build [(.int .i64 0),(.int .i64 0),(.int .i64 0),(.int .i64 0),(.int .i64 0),(.int .i64 0),(.int .i64 0),(.int .i64 0),(.int .i64 0),(.int .i64 0),(.int .i64 0),(.int .i64 0),(.int .i64 0),(.int .i64 0),(.int .i64 0),(.int .i64 0),(.int .i64 0),(.int .i64 0),(.int .i64 0),(.int .i64 0),(.int .i64 0),(.int .i64 0),(.int .i64 0),(.int .i64 0),(.int .i64 0),(.int .i64 0),(.int .i64 0),(.int .i64 0),(.int .i64 0),(.int .i64 0),(.int .i64 0),(.int .i64 0)] [])⟩,⟨some 32,none,(.box (.tmp 31))⟩,⟨some 8,none,(.mov (.tmp 32))⟩]) (.seq (.seq (.region [⟨some 33,none,(.mov (.const (.int .i64 0)))⟩]) (.block 0 (.loop body39_0))) (.seq (.seq (.region [⟨some 47,none,(.mov (.tmp 5))⟩,⟨some 48,none,(.len (.tmp 47))⟩,⟨some 49,none,(.mov (.const (.int .i64 0)))⟩]) (.block 2 (.loop body39_1))) (.seq (.region [⟨some 61,none,(.mov (.tmp 8))⟩,⟨some 62,none,(.nilCheck (.tmp 61))⟩,⟨some 63,none,(.fld 0 (.tmp 62))⟩,⟨some 64,none,(.idxArr 16 1 (.tmp 63) (.const (.int .i64 0)))⟩,⟨none,none,(.store 1 (.tmp 64) (.const (.int .i64 0)))⟩]) (.seq (.label 0) (.seq (.block 4 (.loop body39_4)) (.seq (.region [⟨some 114,none,(.mov (.tmp 8))⟩,⟨some 4,none,(.mov (.tmp 114))⟩]) .ret)))))))))))
set_option maxRecDepth 100000 in
theorem tab39:tb.code 39=some ⟨115,[(4,none)],body39⟩:=by kernel_rfl
theorem of_ok' (h:AHeap) (vt vf:Value) (T:List LType) (F:List LFn) (f:Int) (tt:Tbl h) (hm:h.mark≤h.n) (sm:Small T F) (st:SlT h vt T) (sf:SlF h vf F) (hb:(zD T F f 0).2=0):
  WC Tryz.prog tb 39 [.agg #[vt,vf],I f] h fun r h'=>(∃ p xs,r=p∧OwnC h h' p (xs.map I)∧Rul (nxL (zD T F f 0).1) xs)∧Ext h h':=by
 obtain⟨_,hpos,hLB,hre⟩:=yN hb
 have hreg:=Zx hre
 obtain⟨hlen,hin⟩:=yv hb
 have hE:=zEw hb
 obtain⟨law1,law2,⟨l0,law3⟩,law4,law5,law6,law7⟩:=zBb hb
 have hnd:=zFG hb
 have hpar:=zDD hb
 have hrpo:∀ {pos:Int→Int},(∀ i,i<(zU T F f).1.length→pos ((zU T F f).1.getD i 0)=i)→Rpo (nxL (zD T F f 0).1) pos:=fun hp=>zHR hb hp
 have hmem:∀ c,Way (nxL (zD T F f 0).1) 0 c→∃ i,i<(zU T F f).1.length∧(zU T F f).1.getD i 0=c:=fun c w=>ZA (law4 c ((zAB hb).2 w))
 have hway:∀ i,i<(zU T F f).1.length→Way (nxL (zD T F f 0).1) 0 ((zU T F f).1.getD i 0):=fun i=>by
  induction i using Nat.strongRecOn with
  |_ i ih=>
   intro hi
   by_cases e:(zU T F f).1.getD i 0=0
   ·rw[e];exact .here
   ·obtain⟨j,hj,hm⟩:=hpar i hi e
    exact .step (ih j hj (by omega)) hm
 have h00:(zU T F f).1.getD 0 0=0:=by rw[law3];rfl
 have hO1:0<(zU T F f).1.length:=by rw[law3];simp
 have hbnd:∀ c,Way (nxL (zD T F f 0).1) 0 c→0≤c∧c<((zD T F f 0).1.length:Int):=fun c w=>by
  induction w with
  |here=>exact⟨Int.le_refl _,hpos⟩
  |step _ hc ih=>exact hin _ ih _ hc
 obtain⟨K,hK⟩:=zD4 hin (by omega)
 have oerr:(zU T F f).2=0:=by unfold zU;rw[if_neg (by rw[hb];exact fun e=>e rfl)]
 clear law1 law3 law4 law5 law7
 replace law6:=Hid.mk law6
 replace hpar:=Hid.mk hpar
 replace hrpo:Hid (∀ {pos:Int→Int},(∀ i,i<(zU T F f).1.length→pos ((zU T F f).1.getD i 0)=i)→Rpo (nxL (zD T F f 0).1) pos):=Hid.mk hrpo
 replace hmem:=Hid.mk hmem
 replace hway:=Hid.mk hway
 replace hbnd:=Hid.mk hbnd
 replace hK:=Hid.mk hK
 replace hin:=Hid.mk hin
 refine WC.of (zG 39) tab39 ?_;simp only[zN,Nat.zero_add,Nat.reduceAdd]
 refine go ?_
 refine WO.bx ?_
 intro p2 h1 e1 o1
 have o1:OwnC h h1 p2 [vt,vf]:=o1
 refine go ?_
 refine WX.scope0 ?_
 refine go ?_
 refine WO.con (Order_ok h1 vt vf T F f (tt.ext e1) (zh e1 hm) sm (st.ext e1) (SlF.ext sf e1)) ?_
 rintro _ h2 ⟨⟨orv,rfl,oor⟩,e2⟩
 have e02:=e1.trans e2
 have o2:=o1.ext e2
 have sf2:=SlF.ext sf e02
 have hF:=sm.funcs
 obtain⟨csF,⟨vb,rfl,sb,hlb⟩,pcF,hsF⟩:=zX (i:=f.toNat) sf2 (by omega)
 rw[←hLB]at sb
 rw[oerr]
 refine go ?_
 refine WO.con (ahead_ok h2 (zh e02 hm) vb (zD T F f 0).1 sb hE) ?_
 rintro _ h3 ⟨⟨cells,rfl,hcl,hca⟩,e3⟩
 have e03:=e02.trans e3
 refine go ?_
 refine WO.al ?_
 intro p7 h4 e4 o4
 have e04:=e03.trans e4
 refine WO.stC0 (cs:=cells) o4 e4 ?_ (hn:=hcl) (h1:=one_of hcl hca)
 intro hb0 e5 o5 u5
 have eb:=e03.trans e5
 have sor:SlI hb0 orv (zU T F f).1:=oor.sl.ext (e3.trans e5)
 have spr:Hid (∀ j,j<16→SlI hb0 (cells.getD j undef) (zS (zD T F f 0).1 (j:Int) (zD T F f 0).1.length)):=⟨fun j hj=>(hca j hj).sl.ext e5⟩
 have o7:OwnC h hb0 p7 cells:=o5.since e03
 obtain⟨g7,rfl⟩:∃ g7,p7= .pointer (some ⟨g7,0,none⟩):=let ⟨g,_,_,e,_⟩:=o7;⟨g,e⟩
 have oorN:OwnN h hb0 orv (zU T F f).1:=(oor.ext (e3.trans e5)).since e1
 clear o4 o5 u5 pcF hsF sb sf2 hca oor
 generalize hO:(zU T F f).1=O at *
 generalize hnx:nxL (zD T F f 0).1=nx at *
 refine go ?_
 refine WO.bx ?_
 intro p8 h6 e6 o6
 obtain⟨g8,hg8,hg8',rfl⟩:∃ g8,hb0.n≤g8∧g8<h6.n∧p8= .pointer (some ⟨g8,0,none⟩):=let ⟨g,a,b,c,_⟩:=o6;⟨g,a,b,c⟩
 have o8:OwnC hb0 h6 (.pointer (some ⟨g8,0,none⟩)) ((List.replicate 32 (0:Int)).map I):=o6
 clear o6
 have hmk:hb0.mark≤hb0.n:=zh eb hm
 refine go ?_
 refine WX.loopA [34,35,9,36,37,38,39,40,41,42,43,44,45,46,33] (by kernel_rfl) (fun k=>17 - k) (fun (k:Nat) t h'=>zB t 33=I (k:Int)∧k≤16∧Ext hb0 h'∧∃ xs:List Int,OwnC hb0 h' (.pointer (some ⟨g8,0,none⟩)) (xs.map I)∧xs.length=32∧Hid (∀ j,j<k→xs.getD j 0= -1∧xs.getD (16+j) 0= -1)) 0 ?_ ?_
 ·exact⟨sl_,by omega,e6,_,o8,by simp,⟨fun j hj=>by omega⟩⟩
 rintro k t h7 hsame ⟨s33,hk,e7,xs,o9,hlx,hx⟩
 refine go ?_
 refine WX.br (fun hc=> ?_) (fun hc=> ?_)<;>simp only[DB]at hc
 ·have hk':k<16:=by omega
  refine go ?_
  refine WX.regionU2 0 rfl rfl ?_
  have oX:OwnC hb0 (inC (zF 0 h7)) (.pointer (some ⟨g8,0,none⟩)) (xs.map I):=o9
  refine goU ?_
  refine WU2.st1 (j:=k) oX (by rw[e7.mark];exact hmk) (by omega) ?_
  intro X1 n1 oX1 u1 w1
  have oY1:OwnC hb0 (inC X1) (.pointer (some ⟨g8,0,none⟩)) ((xs.set k (-1)).map I):=oX1
  have hl1:(xs.set k (-1)).length=32:=by rw[List.length_set];exact hlx
  refine goU ?_
  refine WU2.stE (j:=16+k) oX1 e7 (by rw[e7.mark];exact hmk) n1 u1 w1 (by rw[List.length_set];omega) ?_
  intro h8 e8 o8' u8
  refine go ?_
  refine zA (k+1) (by omega) ⟨sl_,by omega,e8,_,o8',by simp[hlx],⟨fun j hj=> ?_⟩⟩
  simp only[yh (show 16+k<(xs.set k (-1)).length by omega),yh (show k<xs.length by omega)]
  by_cases e:j=k
  ·rw[if_neg (by omega),if_pos e,if_pos (by omega)];exact⟨rfl,rfl⟩
  ·rw[if_neg (by omega),if_neg e,if_neg (by omega),if_neg (by omega)];exact hx.out j (by omega)
 have hkk:k=16:=by omega
 subst hkk
 replace hx:Hid (∀ j,j<32→xs.getD j 0= -1):=⟨fun j hj=>by
  by_cases h:j<16
  ·exact(hx.out j h).1
  ·have:=(hx.out (j - 16) (by omega)).2
   rw[show 16+(j - 16)=j by omega]at this;exact this⟩
 refine go ?_
 have osl7:SlI h7 orv O:=sor.ext e7
 have hmemO:∀ i,i<O.length→O.getD i 0∈O:=fun i hi=>by rw[List.getD_eq_getElem?_getD,List.getElem?_eq_getElem hi];exact List.getElem_mem hi
 have hOb:∀ i,i<O.length→0≤O.getD i 0∧O.getD i 0<16:=fun i hi=>by have:=law6.out _ (hmemO i hi);omega
 replace hmemO:=Hid.mk hmemO
 replace hOb:=Hid.mk hOb
 refine WX.loopA [50,51,52,53,10,11,54,55,56,57,58,59,60,49] (by kernel_rfl) (fun k=>O.length+1 - k) (fun (k:Nat) t h'=>zB t 49=I (k:Int)∧k≤O.length∧Ext hb0 h'∧∃ xs:List Int,OwnC hb0 h' (.pointer (some ⟨g8,0,none⟩)) (xs.map I)∧xs.length=32∧Hid ((∀ j,j<16→xs.getD j 0= -1)∧∀ i,i<k→xs.getD (16+(O.getD i 0).toNat) 0=i)) 0 ?_ ?_
 ·exact⟨sl_,by omega,e7,_,o9,hlx,⟨fun j hj=>hx.out j (by omega),fun i hi=>by omega⟩⟩
 clear e7 o9 osl7
 rintro k t2 h7 hsame2 ⟨s49,hk,e7,xs,o9,hlx,hx⟩
 have osl7:SlI h7 orv O:=sor.ext e7
 refine go ?_
 refine WX.br (fun hc=> ?_) (fun hc=> ?_)<;>simp only[DB]at hc
 ·have hk':k<O.length:=by omega
  obtain⟨hb1,hb2⟩:=hOb.out k hk'
  refine go ?_
  refine WO.stI1 (j:=16+(O.getD k 0).toNat) o9 e7 (by omega) ?_
  intro h8 e8 o8' u8
  refine go ?_
  refine zA (k+1) (by omega) ⟨sl_,by omega,e8,_,o8',by simp[hlx],⟨fun j hj=> ?_,fun i hi=> ?_⟩⟩
  ·rw[yh (by omega),if_neg (by omega)];exact hx.out.1 j hj
  ·rw[yh (by omega)]
   obtain⟨hb3,hb4⟩:=hOb.out i (by omega)
   by_cases e:i=k
   ·subst e;rw[if_pos rfl]
   ·rw[if_neg (fun e2=>e (Z9 hnd (by omega) hk' (by omega)))];exact hx.out.2 i (by omega)
 have hkk:k=O.length:=by omega
 subst hkk
 refine go ?_
 refine WO.stI1 (j:=0) o9 e7 (by omega) ?_
 clear e7
 intro h8 e8 o8' u8
 obtain⟨xs0,hxs0⟩:∃ l,l=xs.set 0 (0:Int):=⟨_,rfl⟩
 rw[←hxs0]at o8'
 have hl0:xs0.length=32:=by rw[hxs0];simp[hlx]
 have hp0:∀ j,j<16→xs0.getD j 0=if j=0 then 0 else -1:=fun j hj=>by
  rw[hxs0,yh (by omega)]
  by_cases e:j=0
  ·rw[if_pos e,if_pos e]
  ·rw[if_neg e,if_neg e];exact hx.out.1 j hj
 have hq0:∀ i,i<O.length→xs0.getD (16+(O.getD i 0).toNat) 0=i:=fun i hi=>by
  rw[hxs0,yh (by omega),if_neg (by omega)];exact hx.out.2 i hi
 obtain⟨qs,hqs⟩:∃ l,l=xs0.drop 16:=⟨_,rfl⟩
 have r0:Rnd nx qs xs0 0:=by
  have hz:pO xs0 0=0:=(hp0 0 (by omega)).trans (if_pos rfl)
  have rp:Rpo nx (fun b=>qO xs0 b):=hrpo.out fun i hi=>hq0 i hi
  refine⟨⟨hl0,rp,?_,fun c w=>by have:=hbnd.out c w;omega⟩,hqs.symm,?_,?_,?_⟩
  ·have hm1:∀ b,Way nx 0 b→b≠0→pO xs0 b= -1:=fun b w hb=>by
    have:=hbnd.out b w
    exact(hp0 b.toNat (by omega)).trans (if_neg (by omega))
   exact⟨hz,fun b w hb hp=>absurd (hm1 b w hb) hp,fun b w hb hp=>absurd (hm1 b w hb) hp⟩
  ·intro c x hx
   cases hx with
   |here h=>exact zEx (nx:=nx) (p:=fun b=>pO xs0 b) (k:=0) hz x (.here h)
  ·intro c h1 h2 h3
   exact(hp0 c.toNat (by omega)).trans (if_neg (fun e=>h3 (by rw[show c=0 by omega];exact .here)))
  ·intro h;omega
 obtain⟨vt',hrt,stl⟩:=own_tail oorN hO1
 have hqO:∀ {l:List Int},l.drop 16=qs→∀ i,i<O.length→qO l (O.getD i 0)=i:=fun e i hi=>by
  rw[zGx,e,hqs,←zGx];exact hq0 i hi
 replace hqO:Hid (∀ {l:List Int},l.drop 16=qs→∀ i,i<O.length→qO l (O.getD i 0)=i):=Hid.mk hqO
 clear hp0 hq0 hqs hxs0 hx
 refine go ?_
 refine WX.loopA [65,66,67,68,12,69,70,71,72,73,74,75,14,15,76,77,78,79,80,81,82,83,17,89,90,91,92,93,94,95,88,97,98,96,99,15,84,85,86,87,15,100,80,101,102,103,104,105,106,107,72,108,109,110,111,112,113] (by kernel_rfl) (fun p=>max K 1+1 - p.1) (fun (p:Nat×List Int) t h'=>Ext hb0 h'∧OwnC hb0 h' (.pointer (some ⟨g8,0,none⟩)) (p.2.map I)∧p.1≤max K 1∧Hid (Rnd nx qs p.2 p.1)) (0,xs0) ?_ ?_
 ·exact⟨e8,o8',Nat.zero_le _,⟨r0⟩⟩
 clear e8 o8' u8 r0 o9 osl7
 rintro⟨k,xs⟩ t3 h9 hsame3 ⟨e9,o9,hkK,⟨r⟩⟩
 simp only at o9 hkK r
 have hlx:=r.dm.len
 replace r:=Hid.mk r
 refine go ?_
 refine WO.ldMany (j:=0) (n:=16) o9 (by omega) ?_
 refine go ?_
 refine WO.al ?_
 intro p12 h10 e10 o10
 refine go ?_
 refine WO.stC0 (cs:=((xs.drop 0).take 16).map I) o10 e10 ?_ (hn:=by simp;omega) (h1:=zCk _)
 intro h11 e11 o11 u11
 have o11:OwnC hb0 h11 p12 (((xs.drop 0).take 16).map I):=o11.since e9
 obtain⟨g12,hg12,rfl⟩:∃ g12,h9.n≤g12∧p12= .pointer (some ⟨g12,0,none⟩):=let ⟨g,a,b,c,_⟩:=o10;⟨g,a,c⟩
 have h98:g8<h9.n:=by obtain⟨q,q1,q2,q3,_⟩:=o9;cases q3;exact q2
 have hne:Value.pointer (some ⟨g8,0,none⟩)≠ .pointer (some ⟨g12,0,none⟩):=fun e=>by cases e;omega
 have e11':=e9.trans e11
 have o9:=o9.ext e11
 have stl11:SlI h11 vt' (O.drop 1):=stl.ext e11'
 refine go ?_
 refine WO.slLo (i:=1) hrt ?_ (hy:=rfl)
 refine go ?_
 have hdl:(O.drop 1).length=O.length - 1:=by simp
 refine WX.loopA [73,74,75,14,15,76,77,78,79,80,81,82,83,17,89,90,91,92,93,94,95,88,97,98,96,99,15,84,85,86,87,15,100,80,101,102,103,104,105,106,107,72] (by kernel_rfl) (fun p=>O.length - p.1) (fun (p:Nat×List Int) t h'=>zB t 72=I (p.1:Int)∧p.1+1≤O.length∧Ext hb0 h'∧OwnC hb0 h' (.pointer (some ⟨g8,0,none⟩)) (p.2.map I)∧OwnC hb0 h' (.pointer (some ⟨g12,0,none⟩)) (((xs.drop 0).take 16).map I)∧Hid (Md nx O qs xs p.2 k (p.1+1))) (0,xs) ?_ ?_
 ·exact⟨sl_,by omega,e11',o9,o11,⟨Md.start r.out h00⟩⟩
 clear e11' o9 o11 stl11
 rintro⟨m,ys⟩ t4 h12 hsame4 ⟨s72,hm72,e12,o12,ow12,g⟩
 simp only at s72 hm72 o12 g
 have hly:=g.out.dm.len
 have stl12:SlI h12 vt' (O.drop 1):=stl.ext e12
 refine go ?_
 refine WX.br (fun hc=> ?_) (fun hc=> ?_)<;>simp only[DB]at hc
 ·have hm':m+1<O.length:=by omega
  have hmd:m<(O.drop 1).length:=by omega
  have hdg:(O.drop 1).getD m 0=O.getD (m+1) 0:=by simp[List.getD,Nat.add_comm]
  obtain⟨hb1,hb2⟩:=hOb.out (m+1) hm'
  have hwb:=hway.out (m+1) hm'
  obtain⟨ja,hja,hjb⟩:=hpar.out (m+1) hm' (fun e=>by have:=Z9 hnd hm' hO1 (e.trans h00.symm);omega)
  have hbne:O.getD (m+1) 0≠0:=fun e=>by have:=Z9 hnd hm' hO1 (e.trans h00.symm);omega
  refine go ?_
  rw[hdg]
  generalize hbO:O.getD (m+1) 0=b at *
  have o7b:OwnC h h12 (.pointer (some ⟨g7,0,none⟩)) cells:=o7.ext e12
  have hb16:b.toNat<16:=by omega
  obtain⟨A,hA⟩:∃ A,zS (zD T F f 0).1 b (zD T F f 0).1.length=A:=⟨_,rfl⟩
  have sA:SlI h12 (cells.getD b.toNat undef) A:=by
   have:=(spr.out b.toNat hb16).ext e12
   rw[show ((b.toNat:Nat):Int)=b by omega,hA]at this;exact this
  have hA16:A.length≤16:=by rw[←hA];have:=zAe (zD T F f 0).1 b (zD T F f 0).1.length;omega
  have hAin:Hid (∀ j,j<A.length→(0≤A.getD j 0∧A.getD j 0<16)∧b∈nx (A.getD j 0)):=⟨fun j hj=>by
   have:=ahead_in hA hj
   rw[hnx]at this;exact⟨by omega,this.2⟩⟩
  refine go ?_
  refine WO.ldV (i:=b.toNat) o7b (by omega) ?_
  refine go ?_
  have dmy:Hid (Dm nx ys):=⟨g.out.dm⟩
  have huy:Hid (∀ a,0≤a→a<16→pO ys a≠ -1→Way nx 0 a):=⟨fun a h1 h2 h3=>Classical.byContradiction fun h4=>h3 (g.out.un a h1 h2 h4)⟩
  refine WX.loopA [81,82,83,17,89,90,91,92,93,94,95,88,97,98,96,99,15,84,85,86,87,15,100,80] (by kernel_rfl) (fun p=>A.length - p.1) (fun (p:Nat×Int) t h'=>h12=h'∧zB t 80=I (p.1:Int)∧p.1≤A.length∧zB t 15=I p.2∧Hid (Bst nx ys b A p.1 p.2)) (0,-1) ?_ ?_
  ·exact⟨rfl,sl_,by omega,sl_,⟨.inl ⟨rfl,fun i hi=>by omega⟩⟩⟩
  rintro⟨j,v⟩ t5 _ hsame5 ⟨rfl,s80,hj,s15,bst⟩
  simp only at s80 hj s15 bst
  refine go ?_
  refine WX.br (fun hd=> ?_) (fun hd=> ?_)<;>simp only[DB]at hd
  ·have hj':j<A.length:=by omega
   obtain⟨⟨ha1,ha2⟩,hab⟩:=hAin.out j hj'
   refine go ?_
   generalize haA:A.getD j 0=a at *
   refine WX.br (fun hq=> ?_) (fun hq=> ?_)<;>simp only[DB]at hq
   ·refine go ?_
    refine zA (j+1,v) (by show A.length - (j+1)<A.length - j;omega) ⟨rfl,sl_,by show j+1≤_;omega,sl_,⟨bst.out.skip (by rw[haA];exact hq)⟩⟩
   have wa:=huy.out a ha1 ha2 hq
   refine go ?_
   refine WX.br (fun hv=> ?_) (fun hv=> ?_)<;>simp only[DB]at hv
   ·have hv:v= -1:=hv
    subst hv
    refine go ?_
    refine zA (j+1,a) (by show A.length - (j+1)<A.length - j;omega) ⟨rfl,sl_,by show j+1≤_;omega,sl_,⟨?_⟩⟩
    have:=bst.out.first (by rw[haA];exact wa) (by rw[haA];omega) (by rw[haA];exact hab) (by rw[haA];exact hq)
    rw[haA]at this;exact this
   have hv:v≠ -1:=hv
   have wv:Way nx 0 v∧pO ys v≠ -1:=by
    rcases bst.out with ⟨e,_⟩|⟨_,e1,e2,_⟩
    ·exact absurd e hv
    ·exact⟨e1,e2⟩
   refine go ?_
   refine WO.con (meet_ok hb0 h12 (.pointer (some ⟨g8,0,none⟩)) nx ys v a o12 dmy wv.1 wa wv.2 hq) ?_
   rintro _ _ ⟨⟨mm,rfl,hmt⟩,rfl⟩
   refine go ?_
   have hmm:=dmy.out.bnd mm hmt.way
   refine zA (j+1,mm) (by show A.length - (j+1)<A.length - j;omega) ⟨rfl,sl_,by show j+1≤_;omega,sl_,⟨?_⟩⟩
   exact bst.out.meet hv (by omega) (by rw[haA];exact hab) (by rw[haA];exact hmt)
  have hjj:j=A.length:=by omega
  subst hjj
  have bt:Best nx (fun b=>qO ys b) (fun b=>pO ys b) b v:=by
   have wp:=hway.out ja (by omega)
   refine bst.out.best dmy.out (fun a wa hab=> ?_) wp hjb (g.out.pre ja hja).2 ?_
   ·refine ZA ?_
    rw[←hA]
    exact zBz.2 ⟨hbnd.out a wa,by rw[hnx];exact hab⟩
   ·rw[hqO.out g.out.qs ja (by omega),←hbO,hqO.out g.out.qs (m+1) hm'];omega
  refine go ?_
  refine WO.stI1 (j:=b.toNat) o12 e12 (by omega) ?_
  intro h13 e13 o13 u13
  have ow13:=own_updC ow12 u13 hne
  refine go ?_
  refine zA (m+1,ys.set b.toNat v) (by show O.length - (m+1)<O.length - m;omega) ⟨sl_,by show m+1+1≤_;omega,e13,o13,ow13,⟨?_⟩⟩
  have:=g.out.step (v:=v) hnd hm' (by omega) (by rw[hbO];exact hbne) (by rw[hbO];exact hwb) (by rw[hbO];exact bt) hlx
  rw[hbO]at this;exact this
 have hmm:m+1=O.length:=by omega
 have g:Hid (Md nx O qs xs ys k O.length):=by rw[←hmm];exact g
 clear stl12 hm72 hc
 refine go ?_
 refine WO.ldMany (j:=0) (n:=16) ow12 (by simp;omega) ?_ (hx:=by show Ope _ _ (.pointer (some ⟨g12,0,none⟩));exact yD)
 refine go ?_
 refine WO.ldMany (j:=0) (n:=16) o12 (by omega) ?_
 refine WO.bp (eq_arrB (n:=16) (xs:=(((xs.drop 0).take 16).drop 0).take 16) (ys:=(ys.drop 0).take 16) (by kernel_rfl) (by simp;omega) (by simp;omega)) ?_ (hc:=by rw[zBv,zBv];rfl)
 have hde:decide (((((xs.drop 0).take 16).drop 0).take 16)=((ys.drop 0).take 16))=decide (xs=ys):=decide_eq_decide.2 ⟨fun e=>by
  simp only[List.drop_zero,List.take_take,Nat.min_self]at e
  exact zH7 e (r.out.qs.trans g.out.qs.symm),fun e=>by rw[e];simp[List.take_take]⟩
 rw[hde]
 have rd:=g.out.done hmem.out
 refine go ?_
 refine WX.br (fun hd=> ?_) (fun hd=> ?_)<;>simp only[DB]at hd
 ·have hd:xs=ys:=hd
  subst hd
  refine go ?_
  refine zFO ?_
  refine rt ?_
  exact⟨⟨_,xs,rfl,(o12.since eb),rul_of g.out hmem.out h00 fun b w=>by obtain⟨i,hi,e⟩:=hmem.out b w;rw[←e,hqO.out g.out.qs i hi];omega⟩,eb.trans e12⟩
 have hkk:k<max K 1:=by
  refine Nat.lt_of_not_le fun hle=>hd ?_
  exact(zF8 r.out g.out hmem.out h00 hbnd.out hK.out (by omega) (by omega) hlx hnd hway.out).symm
 refine go ?_
 exact zA (k+1,ys) (by show max K 1+1 - (k+1)<max K 1+1 - k;omega) ⟨e12,o12,by show k+1≤_;omega,⟨rd⟩⟩
end Go.Proofs.YtdcgdfbblnljjaaGreatDoor
namespace Go.Proofs.YtdcgdfbblnljjaaGreatDoor
open Go.Am
set_option linter.unusedVariables false
set_option linter.unusedSimpArgs false
set_option maxHeartbeats 1000000
def nxF (T:List LType) (F:List LFn) (f:Int):Int→List Int:=nxL (zD T F f 0).1
def ZG (T:List LType) (F:List LFn) (f b:Int):Int:=
 if (zD T F f 0).2≠0 then (zD T F f 0).2 else if b<0∨((zD T F f 0).1.length:Int)≤b then 2 else if b∈(yW T F f).1 then 0 else 6
theorem zEF {T:List LType} {F:List LFn} {f b:Int} (h:ZG T F f b=0):(zD T F f 0).2=0∧Way (nxF T F f) 0 b:=by
 unfold ZG at h
 split at h
 ·rename_i hb;exact absurd h hb
 ·rename_i hb
  have hb:(zD T F f 0).2=0:=by simpa using hb
  split at h
  ·cases h
  ·split at h
   ·rename_i hm;exact⟨hb,(zAB hb).1 hm⟩
   ·cases h
theorem way_in {T:List LType} {F:List LFn} {f b:Int} (hb:(zD T F f 0).2=0) (w:Way (nxF T F f) 0 b):0≤b∧b<((zD T F f 0).1.length:Int):=by
 obtain⟨_,hpos,_,_⟩:=yN hb
 obtain⟨hlen,hin⟩:=yv hb
 induction w with
 |here=>exact⟨Int.le_refl _,hpos⟩
 |step _ hc ih=>exact hin _ ih _ hc
theorem next_of {T:List LType} {F:List LFn} {f b:Int} (hb:(zD T F f 0).2=0) (w:Way (nxF T F f) 0 b):(zBq T F f b).2=0:=by
 rw[zCw,zBJ hb (way_in hb w)];exact hb
structure Env (h:AHeap) (vt vf:Value) (T:List LType) (F:List LFn):Prop where
 tt:Tbl h
 hm:h.mark≤h.n
 sm:Small T F
 st:SlT h vt T
 sf:SlF h vf F
theorem Env.ext {h h':AHeap} {vt vf:Value} {T:List LType} {F:List LFn} (E:Env h vt vf T F) (e:Ext h h'):Env h' vt vf T F:=
 ⟨E.tt.ext e,zh e E.hm,E.sm,E.st.ext e,SlF.ext E.sf e⟩
noncomputable def body21:ACode:=(.seq (.region [⟨some 3,none,(.box (.tmp 0))⟩,⟨some 6,none,(.mov (.const (.pointer none)))⟩,⟨some 7,none,(.mov (.const (.int .i64 0)))⟩]) (.seq (.region [⟨some 11,none,(.load true 2 (.tmp 3))⟩,⟨some 12,none,(.mov (.tmp 1))⟩,⟨some 13,none,(.call (.func 37) [(.tmp 11),(.tmp 12)])⟩,⟨some 10,none,(.mov (.tmp 13))⟩,⟨some 14,none,(.extract (.tmp 10) 0)⟩,⟨some 15,none,(.extract (.tmp 10) 1)⟩,⟨some 8,none,(.mov (.tmp 14))⟩,⟨some 9,none,(.mov (.tmp 15))⟩]) (.seq (.block 0 (.seq (.region [⟨some 17,none,(.mov (.tmp 9))⟩,⟨some 18,none,(.bin .neq (.tmp 17) (.const (.int .i64 0)))⟩,⟨some 16,none,(.mov (.tmp 18))⟩]) (.cond (.tmp 16) (.seq (.region [⟨some 19,none,(.mov (.tmp 9))⟩,⟨some 6,none,(.mov (.const (.pointer none)))⟩,⟨some 7,none,(.mov (.tmp 19))⟩]) .ret) (.seq (.region [⟨some 21,none,(.mov (.tmp 2))⟩,⟨some 22,none,(.bin .lss (.tmp 21) (.const (.int .i64 0)))⟩,⟨some 23,none,(.mov (.tmp 22))⟩,⟨some 24,some (23,false),(.mov (.tmp 2))⟩,⟨some 25,some (23,false),(.fld 1 (.tmp 3))⟩,⟨some 26,some (23,false),(.load false 1 (.tmp 25))⟩,⟨some 27,some (23,false),(.mov (.tmp 1))⟩,⟨some 28,some (23,false),(.idx 2 (.tmp 26) (.tmp 27))⟩,⟨some 29,some (23,false),(.fld 1 (.tmp 28))⟩,⟨some 30,some (23,false),(.load false 1 (.tmp 29))⟩,⟨some 31,some (23,false),(.len (.tmp 30))⟩,⟨some 32,some (23,false),(.bin .geq (.tmp 24) (.tmp 31))⟩,⟨some 33,none,(.pick (.tmp 23) (.const (.bool true)) (.tmp 32))⟩,⟨some 20,none,(.mov (.tmp 33))⟩]) (.cond (.tmp 20) (.seq (.region [⟨some 6,none,(.mov (.const (.pointer none)))⟩,⟨some 7,none,(.mov (.const (.int .i64 2)))⟩]) .ret) (.seq (.region [⟨some 35,none,(.mov (.tmp 8))⟩,⟨some 36,none,(.mov (.tmp 2))⟩,⟨some 37,none,(.call (.func 38) [(.tmp 35),(.tmp 36)])⟩,⟨some 38,none,(.un .not (.tmp 37))⟩,⟨some 34,none,(.mov (.tmp 38))⟩]) (.cond (.tmp 34) (.seq (.region [⟨some 6,none,(.mov (.const (.pointer none)))⟩,⟨some 7,none,(.mov (.const (.int .i64 6)))⟩]) .ret) .skip))))))) (.seq (.region [⟨some 39,none,(.load true 2 (.tmp 3))⟩,⟨some 40,none,(.mov (.tmp 1))⟩,⟨some 41,none,(.call (.func 39) [(.tmp 39),(.tmp 40)])⟩,⟨some 6,none,(.mov (.tmp 41))⟩,⟨some 7,none,(.mov (.const (.int .i64 0)))⟩]) .ret))))
set_option maxRecDepth 100000 in
theorem tab21:tb.code 21=some ⟨42,[(6,none),(7,none)],body21⟩:=by kernel_rfl
theorem zIJ (h:AHeap) (vt vf:Value) (T:List LType) (F:List LFn) (f b:Int) (E:Env h vt vf T F):
  WC Tryz.prog tb 21 [.agg #[vt,vf],I f,I b] h fun r h'=>(∃ p,r= .tuple #[p,I (ZG T F f b)]∧(ZG T F f b=0→∃ xs,OwnC h h' p (xs.map I)∧Rul (nxF T F f) xs))∧Ext h h':=by
 refine WC.of (zG 21) tab21 ?_;simp only[zN,Nat.zero_add,Nat.reduceAdd]
 refine go ?_
 refine WO.bx ?_
 intro p h1 e1 o1
 have E1:=E.ext e1
 refine go ?_
 refine WO.con (Reach_ok h1 vt vf T F f E1.tt E1.hm E1.sm E1.st E1.sf) ?_
 rintro _ h2 ⟨⟨rev,rfl,ore⟩,e2⟩
 have e02:=e1.trans e2
 have E2:=E1.ext e2
 have o2:=o1.ext e2
 have sre:=ore.sl
 rw[zH4]
 by_cases hb:(zD T F f 0).2=0
 case neg=>
  have hb':(zD T F f 0).2≠0:=hb
  have ha:ZG T F f b=(zD T F f 0).2:=by unfold ZG;rw[if_pos hb]
  refine go ?_
  refine rt ?_
  rw[ha]
  exact⟨⟨_,rfl,fun h=>absurd h hb⟩,e02⟩
 obtain⟨_,hpos,hLB,hre⟩:=yN hb
 have hreg:=Zx hre
 obtain⟨hlen,hin⟩:=yv hb
 rw[hb]
 have hF:=E.sm.funcs
 have sf2:=E2.sf
 refine go ?_
 by_cases hb0:b<0
 ·have ha:ZG T F f b=2:=by unfold ZG;rw[if_neg (by rw[hb];exact fun e=>e rfl),if_pos (.inl hb0)]
  refine go ?_
  refine rt ?_
  rw[ha]
  exact⟨⟨_,rfl,fun h=>by cases h⟩,e02⟩
 obtain⟨csF,⟨vb,rfl,sb,hlb⟩,pcF,hsF⟩:=zX (i:=f.toNat) sf2 (by omega)
 rw[←hLB]at sb
 by_cases hb1:((zD T F f 0).1.length:Int)≤b
 ·have ha:ZG T F f b=2:=by unfold ZG;rw[if_neg (by rw[hb];exact fun e=>e rfl),if_pos (.inr hb1)]
  refine go ?_
  refine rt ?_
  rw[ha]
  exact⟨⟨_,rfl,fun h=>by cases h⟩,e02⟩
 have hml:((yW T F f).1.length:Int)≤9223372036854775807:=by
  obtain⟨l1,l2,_⟩:=zBb hb
  omega
 refine go ?_
 refine WO.con (zFa h2 rev (yW T F f).1 b sre hml) ?_
 rintro _ _ ⟨rfl,rfl⟩
 by_cases hbr:b∈(yW T F f).1
 case neg=>
  have ha:ZG T F f b=6:=by unfold ZG;rw[if_neg (by rw[hb];exact fun e=>e rfl),if_neg (by omega),if_neg hbr]
  refine go ?_
  refine rt ?_
  rw[ha]
  exact⟨⟨_,rfl,fun h=>by cases h⟩,e02⟩
 have ha:ZG T F f b=0:=by unfold ZG;rw[if_neg (by rw[hb];exact fun e=>e rfl),if_neg (by omega),if_pos hbr]
 refine go ?_
 refine WO.con (of_ok' h2 vt vf T F f E2.tt E2.hm E2.sm E2.st E2.sf hb) ?_
 rintro _ h3 ⟨⟨q,xs,rfl,oq,hR⟩,e3⟩
 refine go ?_
 refine rt ?_
 rw[ha]
 exact⟨⟨_,rfl,fun _=>⟨xs,oq.since e02,hR⟩⟩,e02.trans e3⟩
def rulE (T:List LType) (F:List LFn) (f a b:Int):Int:=if (zBq T F f a).2≠0 then (zBq T F f a).2 else ZG T F f b
def RulP (T:List LType) (F:List LFn) (f a b:Int):Prop:=rulE T F f a b=0∧Dom (nxF T F f) a b∧∃ xs,Rul (nxF T F f) xs
end Go.Proofs.YtdcgdfbblnljjaaGreatDoor
namespace Go.Proofs.YtdcgdfbblnljjaaGreatDoor
open Go.Am
set_option linter.unusedVariables false
set_option linter.unusedSimpArgs false
set_option maxHeartbeats 1000000
theorem avk_zero {nx:Int→List Int} {b:Int} {k:Nat} (h:Avk nx 0 k b):False:=by
 induction h with
 |here h=>exact h rfl
 |step _ _ _ ih=>exact ih
theorem zEf {nx:Int→List Int} (b:Int):Dom nx 0 b:=fun ⟨k,h⟩=>avk_zero h
theorem zH0 {nx:Int→List Int} {a b c:Int} (h1:Dom nx a b) (h2:Dom nx b c):Dom nx a c:=fun ⟨k,h⟩=>by
 by_cases hb:(0:Int)=b
 ·subst hb
  by_cases e:(0:Int)=a
  ·subst e;exact zEf c ⟨k,h⟩
  ·exact h1 ⟨0,.here e⟩
 ·rcases h.split hb with h|h
  ·exact h2 ⟨_,h⟩
  ·exact h1 ⟨_,h⟩
theorem RulP.ask {T:List LType} {F:List LFn} {f a b:Int} (h:RulP T F f a b):ZG T F f b=0:=by
 have:=h.1
 unfold rulE at this
 split at this
 ·rename_i hn;exact absurd this hn
 ·exact this
theorem RulP.of {T:List LType} {F:List LFn} {f a b:Int} (h:ZG T F f b=0) (d:Dom (nxF T F f) a b) (hx:∃ xs,Rul (nxF T F f) xs):RulP T F f a b:=by
 obtain⟨hb,wb⟩:=zEF h
 obtain⟨xs,hR⟩:=hx
 have wa:=hR.dm.rpo.dom_way (qO xs b).toNat b a (by have h5:=hR.dm.rpo.nn b wb;have h5:0≤qO xs b:=h5;show qO xs b≤_;omega) wb d
 refine⟨?_,d,xs,hR⟩
 unfold rulE
 rw[if_neg (fun e=>e (next_of hb wa))];exact h
theorem RulP.zero {T:List LType} {F:List LFn} {f b:Int} (h:ZG T F f b=0) (hx:∃ xs,Rul (nxF T F f) xs):RulP T F f 0 b:= .of h (zEf b) hx
theorem RulP.self {T:List LType} {F:List LFn} {f b:Int} (h:ZG T F f b=0) (hx:∃ xs,Rul (nxF T F f) xs):RulP T F f b b:= .of h (Dom.self _ b) hx
theorem RulP.trans {T:List LType} {F:List LFn} {f a b c:Int} (h:RulP T F f a b) (k:RulP T F f b c):RulP T F f a c:= .of k.ask (zH0 h.2.1 k.2.1) h.2.2
noncomputable def cntD (nx:Int→List Int) (c:Int):Nat:=open Classical in (List.range 16).countP fun (j:Nat)=>decide (Dom nx (j:Int) c)
theorem cntD_pos {nx:Int→List Int} {c:Int} (h:0≤c∧c<16):1≤cntD nx c:=by
 classical
 unfold cntD
 refine List.countP_pos_iff.2 ⟨c.toNat,List.mem_range.2 (by omega),?_⟩
 show decide (Dom nx ((c.toNat:Nat):Int) c)=true
 rw[decide_eq_true_iff,show ((c.toNat:Nat):Int)=c by omega]
 exact Dom.self nx c
theorem cntD_lt {nx:Int→List Int} {c n:Int} (h:0≤c∧c<16) (hs:∀ a,Dom nx a n→Dom nx a c) (hn:¬Dom nx c n):cntD nx n<cntD nx c:=by
 classical
 unfold cntD
 have hc:((c.toNat:Nat):Int)=c:=by omega
 refine zCm (p:=fun (j:Nat)=>decide (Dom nx (j:Int) c)) (q:=fun (j:Nat)=>decide (Dom nx (j:Int) n)) (i:=c.toNat) (decide_eq_true (by rw[hc];exact Dom.self nx c)) (decide_eq_false (by rw[hc];exact hn)) (fun j _ hj=> ?_) (List.mem_range.2 (by omega))
 exact decide_eq_true (hs _ (of_decide_eq_true hj))
theorem Rul.step {nx:Int→List Int} {xs:List Int} {c:Int} (r:Rul nx xs) (w:Way nx 0 c) (hc:c≠0):Way nx 0 (pO xs c)∧(∀ a,Dom nx a c↔a=c∨Dom nx a (pO xs c))∧¬Dom nx c (pO xs c):=by
 obtain⟨u1,u2,u3⟩:=r.dm.rl.up c w hc (r.all c w)
 refine⟨u1,fun a=> ?_,fun h=> ?_⟩
 ·rw[←r.dom a c w,←r.dom a _ u1]
  constructor
  ·intro h
   cases h with
   |here=>exact .inl rfl
   |up _ _ h=>exact .inr h
  ·rintro(rfl|h)
   ·exact .here
   ·exact .up hc (r.all c w) h
 ·have h2:=r.dm.rl.le ((r.dom _ _ u1).2 h) u1
  have h3:=h2.2.1
  have h3:qO xs c≤qO xs (pO xs c):=h3
  have u3:qO xs (pO xs c)<qO xs c:=u3
  omega
def Chn (nx:Int→List Int) (a b:Int) (i:Nat) (c:Int) (met:Bool):Prop:=
 (c= -1∧(Dom nx a b↔met=true))∨(Way nx 0 c∧(0≤c∧c<16)∧cntD nx c+i≤16∧(Dom nx a b↔met=true∨Dom nx a c))
theorem Chn.next {nx:Int→List Int} {xs:List Int} {a b c:Int} {i:Nat} {met:Bool} (r:Rul nx xs) (hc:0<c) (h:Chn nx a b i c met):Chn nx a b (i+1) (pO xs c) (met||decide (c=a))∧pO xs c≠c∧0≤pO xs c:=by
 rcases h with ⟨h,_⟩|⟨w,bd,hn,h⟩
 ·omega
 ·obtain⟨u1,u2,u3⟩:=r.step w (by omega)
  have hb:=r.dm.bnd _ u1
  refine⟨.inr ⟨u1,hb,?_,h.trans ?_⟩,fun e=> ?_,hb.1⟩
  ·have:=cntD_lt bd (fun a ha=>(u2 a).2 (.inr ha)) u3
   omega
  ·rw[u2 a,Bool.or_eq_true,decide_eq_true_iff]
   refine⟨?_,?_⟩
   ·rintro(h|rfl|h)
    ·exact .inl (.inl h)
    ·exact .inl (.inr rfl)
    ·exact .inr h
   ·rintro((h|h)|h)
    ·exact .inl h
    ·exact .inr (.inl h.symm)
    ·exact .inr (.inr h)
  ·exact u3 (by rw[e];exact Dom.self _ _)
theorem Chn.way {nx:Int→List Int} {a b c:Int} {i:Nat} {met:Bool} (h:Chn nx a b i c met) (hc:0≤c):Way nx 0 c∧c<16∧i≤15:=by
 rcases h with ⟨h,_⟩|⟨w,bd,hn,h⟩
 ·omega
 ·have:=cntD_pos (nx:=nx) bd
  exact⟨w,bd.2,by omega⟩
theorem Chn.end {nx:Int→List Int} {a b c:Int} {i:Nat} {met:Bool} (h:Chn nx a b i c met) (hc:c<0):c= -1∧(Dom nx a b↔met=true):=by
 rcases h with h|⟨w,bd,hn,h⟩
 ·exact h
 ·omega
theorem zBU {T:List LType} {n:Int} {f:LFn} (h:fnL T n f=true):1≤f.blocks.length∧f.blocks.length≤16∧zW f.blocks≤128:=by
 unfold fnL at h
 split at h
 ·cases h
 ·rename_i hbad
  unfold Yv at hbad
  simp only[Bool.or_eq_true,not_or,Bool.not_eq_true,decide_eq_false_iff_not,Bool.not_eq_false']at hbad
  have h2:=hbad.1.2
  unfold zM at h2
  simp only[Bool.and_eq_true,decide_eq_true_eq]at h2
  omega
end Go.Proofs.YtdcgdfbblnljjaaGreatDoor
namespace Go.Proofs.YtdcgdfbblnljjaaGreatDoor
open Go.Am
set_option linter.unusedVariables false
set_option linter.unusedSimpArgs false
set_option maxHeartbeats 1000000
def yL:List LBlk→Int→Int×Int
 |[],a=>(0,a)
 |b::l,a=>if (b.ins.length:Int)≤a then ((yL l (a - b.ins.length)).1+1,(yL l (a - b.ins.length)).2) else (0,a)
def zd (T:List LType) (F:List LFn) (f r:Int):Int×Int×Int:=
 if (zY T F f).2≠0 then (0,0,(zY T F f).2)
 else if r<0∨(zY T F f).1+zW (F.getD f.toNat default).blocks≤r then (0,0,2)
 else if r<(zY T F f).1 then (-1,r,0)
 else ((yL (F.getD f.toNat default).blocks (r - (zY T F f).1)).1,(yL (F.getD f.toNat default).blocks (r - (zY T F f).1)).2,0)
theorem Yn (b:LBlk) (l:List LBlk):zW (b::l)=(b.ins.length:Int)+zW l:=by unfold zW;simp
theorem zID {l:List LBlk}:∀ {a:Int},0≤a→a<zW l→0≤(yL l a).1∧(yL l a).1<(l.length:Int)∧0≤(yL l a).2∧(yL l a).2<((l.getD (yL l a).1.toNat default).ins.length:Int):=by
 induction l with
 |nil=>intro a h0 h1;simp[zW]at h1;omega
 |cons b l ih=>
  intro a h0 h1
  rw[Yn]at h1
  unfold yL
  split
  ·rename_i h
   obtain⟨i1,i2,i3,i4⟩:=ih (a:=a - b.ins.length) (by omega) (by omega)
   refine⟨by simp only;omega,by simp only[List.length_cons];omega,i3,?_⟩
   simp only
   rw[show ((yL l (a - ↑b.ins.length)).1+1).toNat=(yL l (a - ↑b.ins.length)).1.toNat+1 by omega]
   simpa [List.getD]using i4
  ·rename_i h
   exact⟨Int.le_refl _,by simp only[List.length_cons];omega,h0,by simpa [List.getD]using (by omega:a<(b.ins.length:Int))⟩
theorem zFo {l:List LBlk} {k:Nat} (h:k<l.length):l.drop k=l.getD k default::l.drop (k+1):=by
 rw[List.drop_eq_getElem_cons h];simp[List.getD,List.getElem?_eq_getElem h]
theorem zDX {T:List LType} {F:List LFn} {f:Int} (h:(zY T F f).2=0):0≤f∧f<(F.length:Int)∧ZY T F=0∧(zY T F f).1=((T.getD (F.getD f.toNat default).sig.toNat default).parts.length:Int):=by
 unfold zY at h ⊢
 split at h
 ·rename_i hp;exact absurd h hp
 ·rename_i hp
  rw[if_neg hp]
  split at h
  ·rename_i hb
   have hb2:=hb
   unfold zM at hb2;simp at hb2
   exact⟨hb2.1,hb2.2,by omega,by rw[if_pos hb]⟩
  ·cases h
theorem ins_many {l:List LBlk} {b:LBlk} (h:b∈l):(b.ins.length:Int)≤zW l:=by
 induction l with
 |nil=>cases h
 |cons c l ih=>
  rw[Yn]
  have hp:=ZO l
  rcases List.mem_cons.1 h with rfl|h
  ·omega
  ·have:=ih h;omega
noncomputable def body31_0:ACode:=(.seq (.seq (.region [⟨some 40,none,(.mov (.tmp 7))⟩,⟨some 41,none,(.fld 1 (.tmp 3))⟩,⟨some 42,none,(.load false 1 (.tmp 41))⟩,⟨some 43,none,(.mov (.tmp 1))⟩,⟨some 44,none,(.idx 2 (.tmp 42) (.tmp 43))⟩,⟨some 45,none,(.fld 1 (.tmp 44))⟩,⟨some 46,none,(.load false 1 (.tmp 45))⟩,⟨some 47,none,(.mov (.tmp 6))⟩,⟨some 48,none,(.idx 5 (.tmp 46) (.tmp 47))⟩,⟨some 49,none,(.fld 0 (.tmp 48))⟩,⟨some 50,none,(.load false 1 (.tmp 49))⟩,⟨some 51,none,(.len (.tmp 50))⟩,⟨some 52,none,(.bin .geq (.tmp 40) (.tmp 51))⟩]) (.cond (.tmp 52) .skip (.exit 1))) (.block 2 (.seq (.region [⟨some 53,none,(.mov (.tmp 7))⟩,⟨some 54,none,(.fld 1 (.tmp 3))⟩,⟨some 55,none,(.load false 1 (.tmp 54))⟩,⟨some 56,none,(.mov (.tmp 1))⟩,⟨some 57,none,(.idx 2 (.tmp 55) (.tmp 56))⟩,⟨some 58,none,(.fld 1 (.tmp 57))⟩,⟨some 59,none,(.load false 1 (.tmp 58))⟩,⟨some 60,none,(.mov (.tmp 6))⟩,⟨some 61,none,(.idx 5 (.tmp 59) (.tmp 60))⟩,⟨some 62,none,(.fld 0 (.tmp 61))⟩,⟨some 63,none,(.load false 1 (.tmp 62))⟩,⟨some 64,none,(.len (.tmp 63))⟩,⟨some 65,none,(.bin .sub (.tmp 53) (.tmp 64))⟩,⟨some 7,none,(.mov (.tmp 65))⟩]) (.region [⟨some 66,none,(.mov (.tmp 6))⟩,⟨some 67,none,(.bin .add (.tmp 66) (.const (.int .i64 1)))⟩,⟨some 6,none,(.mov (.tmp 67))⟩]))))
noncomputable def body31:ACode:=(.seq (.region [⟨some 3,none,(.box (.tmp 0))⟩,⟨some 6,none,(.mov (.const (.int .i64 0)))⟩,⟨some 7,none,(.mov (.const (.int .i64 0)))⟩,⟨some 8,none,(.mov (.const (.int .i64 0)))⟩]) (.seq (.region [⟨some 11,none,(.load true 2 (.tmp 3))⟩,⟨some 12,none,(.mov (.tmp 1))⟩,⟨some 13,none,(.call (.func 44) [(.tmp 11),(.tmp 12)])⟩,⟨some 10,none,(.mov (.tmp 13))⟩,⟨some 14,none,(.extract (.tmp 10) 0)⟩,⟨some 15,none,(.extract (.tmp 10) 1)⟩,⟨some 9,none,(.mov (.tmp 14))⟩,⟨some 8,none,(.mov (.tmp 15))⟩]) (.seq (.block 0 (.seq (.region [⟨some 17,none,(.mov (.tmp 8))⟩,⟨some 18,none,(.bin .neq (.tmp 17) (.const (.int .i64 0)))⟩,⟨some 16,none,(.mov (.tmp 18))⟩]) (.cond (.tmp 16) (.seq (.region [⟨some 19,none,(.mov (.tmp 8))⟩,⟨some 6,none,(.mov (.const (.int .i64 0)))⟩,⟨some 7,none,(.mov (.const (.int .i64 0)))⟩,⟨some 8,none,(.mov (.tmp 19))⟩]) .ret) (.seq (.region [⟨some 21,none,(.mov (.tmp 2))⟩,⟨some 22,none,(.mov (.tmp 9))⟩,⟨some 23,none,(.fld 1 (.tmp 3))⟩,⟨some 24,none,(.load false 1 (.tmp 23))⟩,⟨some 25,none,(.mov (.tmp 1))⟩,⟨some 26,none,(.idx 2 (.tmp 24) (.tmp 25))⟩,⟨some 27,none,(.load true 2 (.tmp 26))⟩,⟨some 28,none,(.call (.func 46) [(.tmp 27)])⟩,⟨some 29,none,(.bin .add (.tmp 22) (.tmp 28))⟩,⟨some 30,none,(.call (.func 45) [(.tmp 21),(.tmp 29)])⟩,⟨some 31,none,(.un .not (.tmp 30))⟩,⟨some 20,none,(.mov (.tmp 31))⟩]) (.cond (.tmp 20) (.seq (.region [⟨some 6,none,(.mov (.const (.int .i64 0)))⟩,⟨some 7,none,(.mov (.const (.int .i64 0)))⟩,⟨some 8,none,(.mov (.const (.int .i64 2)))⟩]) .ret) (.seq (.region [⟨some 33,none,(.mov (.tmp 2))⟩,⟨some 34,none,(.mov (.tmp 9))⟩,⟨some 35,none,(.bin .lss (.tmp 33) (.tmp 34))⟩,⟨some 32,none,(.mov (.tmp 35))⟩]) (.cond (.tmp 32) (.seq (.region [⟨some 36,none,(.mov (.tmp 2))⟩,⟨some 6,none,(.mov (.const (.int .i64 (-1))))⟩,⟨some 7,none,(.mov (.tmp 36))⟩,⟨some 8,none,(.mov (.const (.int .i64 0)))⟩]) .ret) .skip))))))) (.seq (.region [⟨some 37,none,(.mov (.tmp 2))⟩,⟨some 38,none,(.mov (.tmp 9))⟩,⟨some 39,none,(.bin .sub (.tmp 37) (.tmp 38))⟩,⟨some 7,none,(.mov (.tmp 39))⟩]) (.seq (.block 1 (.loop body31_0)) (.seq (.region [⟨some 68,none,(.mov (.tmp 6))⟩,⟨some 69,none,(.mov (.tmp 7))⟩,⟨some 6,none,(.mov (.tmp 68))⟩,⟨some 7,none,(.mov (.tmp 69))⟩,⟨some 8,none,(.mov (.const (.int .i64 0)))⟩]) .ret))))))
set_option maxRecDepth 100000 in
theorem tab31:tb.code 31=some ⟨70,[(6,none),(7,none),(8,none)],body31⟩:=by kernel_rfl
theorem place_ok (h:AHeap) (vt vf:Value) (T:List LType) (F:List LFn) (f r:Int) (E:Env h vt vf T F):
  WC Tryz.prog tb 31 [.agg #[vt,vf],I f,I r] h fun q h'=>q= .tuple #[I (zd T F f r).1,I (zd T F f r).2.1,I (zd T F f r).2.2]∧Ext h h':=by
 have hF:=E.sm.funcs
 refine WC.of (zG 31) tab31 ?_;simp only[zN,Nat.zero_add,Nat.reduceAdd]
 refine go ?_
 refine WO.bx ?_
 intro p h1 e1 o1
 have E1:=E.ext e1
 refine go ?_
 refine WO.con (zEk h1 vt vf T F f E1.tt E1.hm E1.sm E1.st E1.sf) ?_
 rintro _ h2 ⟨rfl,e2⟩
 have o1:=o1.ext e2
 have e02:=e1.trans e2
 have E2:=E1.ext e2
 have sf2:=E2.sf
 obtain⟨ta,tn,tk,rfl⟩:=zE E.st
 obtain⟨ga,gn,gk,rfl⟩:=zE sf2
 by_cases ha:(zY T F f).2=0
 case neg=>
  have ha':(zY T F f).2≠0:=ha
  have hp:zd T F f r=(0,0,(zY T F f).2):=by unfold zd;rw[if_pos ha]
  rw[hp]
  refine go ?_
  refine rt ?_
  exact⟨rfl,e02⟩
 obtain⟨hf0,hf1,hpr,hn⟩:=zDX ha
 have hmem:=zL (l:=F) (i:=f.toNat) (by omega)
 have hfn:=(Zp hpr).2.2.2 _ hmem
 have hb:=zBU hfn
 have hsig:=zEH hfn
 have hpart:=E.sm.parts _ (zL (l:=T) (i:=(F.getD f.toNat default).sig.toNat) (by omega))
 have hB:=E.sm.blocks _ hmem
 have hI:=E.sm.ins _ hmem
 have hmp:=ZO (F.getD f.toNat default).blocks
 have hpl:zd T F f r=if r<0∨(zY T F f).1+zW (F.getD f.toNat default).blocks≤r then (0,0,2)
   else if r<(zY T F f).1 then (-1,r,0) else ((yL (F.getD f.toNat default).blocks (r - (zY T F f).1)).1,(yL (F.getD f.toNat default).blocks (r - (zY T F f).1)).2,0):=by
  unfold zd;rw[if_neg (fun e=>e ha)]
 have hn1:0≤(zY T F f).1∧(zY T F f).1≤100:=by rw[hn];omega
 rw[ha,hpl]
 generalize (zY T F f).1=n at *
 clear hpl hn hpart hsig hfn
 obtain⟨csF,⟨vb,rfl,sb,hlb⟩,pcF,hsF⟩:=zX (i:=f.toNat) sf2 (by omega)
 obtain⟨fn,hfn⟩:∃ fn,F.getD f.toNat default=fn:=⟨_,rfl⟩
 rw[hfn]at sb hb hB hI hmp hmem pcF ⊢
 obtain⟨ba,bn,bk,rfl⟩:=zE sb
 refine go ?_
 refine WO.con (zCE h2 fn.sig _ fn.blocks sb hB hI) ?_
 rintro _ h3 ⟨rfl,e3⟩
 have o1:=o1.ext e3
 have e03:=e02.trans e3
 have sf3:=SlF.ext sf2 e3
 refine go ?_
 refine WO.con (yd h3 r (n+zW fn.blocks)) ?_
 rintro _ _ ⟨rfl,rfl⟩
 by_cases c1:r<0∨n+zW fn.blocks≤r
 ·have hbl:zM r (n+zW fn.blocks)=false:=by unfold zM;simp;omega
  rw[if_pos c1]
  refine go ?_
  refine rt ?_
  exact⟨rfl,e03⟩
 have hbl:zM r (n+zW fn.blocks)=true:=by unfold zM;simp;omega
 rw[if_neg c1]
 by_cases c2:r<n
 ·rw[if_pos c2]
  refine go ?_
  refine rt ?_
  exact⟨rfl,e03⟩
 rw[if_neg c2]
 have e0:=Hid.mk (show ∃ k:Nat,True from ⟨0,trivial⟩)
 obtain⟨csF,hcsF,pcF,hsF⟩:=zX (i:=f.toNat) sf3 (by omega)
 rw[hfn]at hcsF
 obtain⟨vb,rfl,sb,hlb⟩:=hcsF
 refine go ?_
 refine WX.loopA [40,41,42,43,44,45,46,47,48,49,50,51,52,53,54,55,56,57,58,59,60,61,62,63,64,65,7,66,67,6] (by kernel_rfl) (fun x=>fn.blocks.length - x.1) (fun (x:Nat×Int) t h4=>h3=h4∧zB t 6=I x.1∧zB t 7=I x.2∧0≤x.2∧x.2<zW (fn.blocks.drop x.1)∧Hid (yL fn.blocks (r - n)=((yL (fn.blocks.drop x.1) x.2).1+x.1,(yL (fn.blocks.drop x.1) x.2).2))∧zW (fn.blocks.drop x.1)≤128) (0,r - n) ?_ ?_
 ·exact⟨rfl,sl_,sl_,by simp only;omega,by simp only[List.drop_zero];omega,⟨by simp⟩,by simp only[List.drop_zero];omega⟩
 rintro⟨k,a⟩ t h4 hsame ⟨rfl,s6,s7,ha0,ha1,hw,h128⟩
 simp only at s6 s7 ha0 ha1 hw h128
 have hk:k<fn.blocks.length:=by
  refine Classical.byContradiction fun hh=> ?_
  rw[List.drop_eq_nil_of_le (by omega)]at ha1
  simp[zW]at ha1;omega
 obtain⟨csB,⟨vi,rfl,si,hli⟩,pcB,hsB⟩:=zX sb hk
 obtain⟨ia,iN,ik,rfl⟩:=zE si
 have hd:=zFo hk
 have hd2:=ZO (fn.blocks.drop (k+1))
 rw[hd,Yn]at ha1 h128
 rw[hd]at hw
 by_cases hc:((fn.blocks.getD k default).ins.length:Int)≤a
 ·have hw2:yL (fn.blocks.getD k default::fn.blocks.drop (k+1)) a=((yL (fn.blocks.drop (k+1)) (a - ((fn.blocks.getD k default).ins.length:Int))).1+1,(yL (fn.blocks.drop (k+1)) (a - ((fn.blocks.getD k default).ins.length:Int))).2):=by
   conv=>lhs;unfold yL
   rw[if_pos hc]
  have hw:=hw.out
  rw[hw2]at hw
  refine go ?_
  refine zA (k+1,a - ((fn.blocks.getD k default).ins.length:Int)) (by simp only;omega) ⟨rfl,sln,sl_,by simp only;omega,by simp only;omega,⟨by rw[hw];simp only[Prod.mk.injEq,and_true];omega⟩,by simp only;omega⟩
 ·have hw2:yL (fn.blocks.getD k default::fn.blocks.drop (k+1)) a=(0,a):=by
   conv=>lhs;unfold yL
   rw[if_neg hc]
  have hw:=hw.out
  rw[hw2]at hw
  refine go ?_
  refine rt ?_
  refine⟨?_,e03⟩
  rw[hw];simp[one]
end Go.Proofs.YtdcgdfbblnljjaaGreatDoor
namespace Go.Proofs.YtdcgdfbblnljjaaGreatDoor
open Go.Am
set_option linter.unusedVariables false
set_option linter.unusedSimpArgs false
set_option maxHeartbeats 1000000
noncomputable def body32:ACode:=(.seq (.region [⟨some 4,none,(.mov (.const (.complex Go.FloatKind.f64 0 0)))⟩]) (.seq (.region [⟨some 5,none,(.mov (.tmp 0))⟩,⟨some 6,none,(.convP 3 83 (.tmp 5))⟩,⟨some 7,none,(.mov (.tmp 1))⟩,⟨some 8,none,(.convP 3 83 (.tmp 7))⟩,⟨some 9,none,(.cplx (.tmp 6) (.tmp 8))⟩,⟨some 4,none,(.mov (.tmp 9))⟩]) .ret))
set_option maxRecDepth 100000 in
theorem tab32:tb.code 32=some ⟨10,[(4,none)],body32⟩:=by kernel_rfl
theorem zDI (h:AHeap) (a b:Int):WC Tryz.prog tb 32 [I a,I b] h fun r h'=>r=cpx a b∧h=h':=by
 refine WC.of (zG 32) tab32 ?_;simp only[zN,Nat.zero_add,Nat.reduceAdd]
 refine go ?_
 refine WO.cvF (n:=a) (k:= .i64) (by kernel_rfl) (by kernel_rfl) ?_
 refine go ?_
 refine WO.cvF (n:=b) (k:= .i64) (by kernel_rfl) (by kernel_rfl) ?_
 refine go ?_
 refine WO.cxF (a:=a) (b:=b) ?_
 refine go ?_
 refine rt ?_
 exact⟨rfl,rfl⟩
def zAb (T:List LType) (F:List LFn) (f r block at':Int):Int:=
 if (zd T F f r).2.2≠0 then (zd T F f r).2.2
 else if block<0∨((F.getD f.toNat default).blocks.length:Int)≤block∨at'<0∨(((F.getD f.toNat default).blocks.getD block.toNat default).ins.length:Int)<at' then 2
 else ZG T F f block
def SetP (T:List LType) (F:List LFn) (f r block at':Int):Prop:=
 (zd T F f r).1= -1∨((zd T F f r).1=block∧(zd T F f r).2.1<at')∨((zd T F f r).1≠ -1∧(zd T F f r).1≠block∧Dom (nxF T F f) (zd T F f r).1 block)
theorem zBh {T:List LType} {F:List LFn} {f r:Int} (h:(zd T F f r).2.2=0):(zY T F f).2=0∧((zd T F f r).1= -1∨(0≤(zd T F f r).1∧(zd T F f r).1<((F.getD f.toNat default).blocks.length:Int)∧0≤(zd T F f r).2.1∧(zd T F f r).2.1<(((F.getD f.toNat default).blocks.getD (zd T F f r).1.toNat default).ins.length:Int))):=by
 unfold zd at h ⊢
 split at h
 ·rename_i hh;exact absurd h hh
 ·rename_i hh
  rw[if_neg hh]
  refine⟨by omega,?_⟩
  split at h
  ·cases h
  ·rename_i h2
   rw[if_neg h2]
   split at h
   ·rename_i h3;rw[if_pos h3];exact .inl rfl
   ·rename_i h3
    rw[if_neg h3]
    right
    exact zID (by omega) (by omega)
noncomputable def body15:ACode:=(.seq (.region [⟨some 5,none,(.box (.tmp 0))⟩,⟨some 10,none,(.mov (.const (.bool false)))⟩,⟨some 11,none,(.mov (.const (.int .i64 0)))⟩]) (.seq (.region [⟨some 20,none,(.load true 2 (.tmp 5))⟩,⟨some 21,none,(.mov (.tmp 1))⟩,⟨some 22,none,(.mov (.tmp 2))⟩,⟨some 23,none,(.call (.func 31) [(.tmp 20),(.tmp 21),(.tmp 22)])⟩,⟨some 19,none,(.mov (.tmp 23))⟩,⟨some 24,none,(.extract (.tmp 19) 0)⟩,⟨some 25,none,(.extract (.tmp 19) 1)⟩,⟨some 26,none,(.extract (.tmp 19) 2)⟩,⟨some 12,none,(.mov (.tmp 24))⟩,⟨some 13,none,(.mov (.tmp 25))⟩,⟨some 14,none,(.mov (.tmp 26))⟩]) (.seq (.seq (.region [⟨some 27,none,(.mov (.tmp 14))⟩,⟨some 28,none,(.bin .neq (.tmp 27) (.const (.int .i64 0)))⟩]) (.cond (.tmp 28) (.seq (.region [⟨some 29,none,(.mov (.tmp 14))⟩,⟨some 10,none,(.mov (.const (.bool false)))⟩,⟨some 11,none,(.mov (.tmp 29))⟩]) .ret) .skip)) (.seq (.seq (.region [⟨some 30,none,(.fld 1 (.tmp 5))⟩,⟨some 31,none,(.load false 1 (.tmp 30))⟩,⟨some 32,none,(.mov (.tmp 1))⟩,⟨some 33,none,(.idx 2 (.tmp 31) (.tmp 32))⟩,⟨some 34,none,(.fld 1 (.tmp 33))⟩,⟨some 35,none,(.load false 1 (.tmp 34))⟩,⟨some 15,none,(.mov (.tmp 35))⟩]) (.seq (.region [⟨some 36,none,(.mov (.tmp 3))⟩,⟨some 37,none,(.bin .lss (.tmp 36) (.const (.int .i64 0)))⟩,⟨some 38,none,(.mov (.tmp 37))⟩,⟨some 39,some (38,false),(.mov (.tmp 3))⟩,⟨some 40,some (38,false),(.mov (.tmp 15))⟩,⟨some 41,some (38,false),(.len (.tmp 40))⟩,⟨some 42,some (38,false),(.bin .geq (.tmp 39) (.tmp 41))⟩,⟨some 43,none,(.pick (.tmp 38) (.const (.bool true)) (.tmp 42))⟩,⟨some 44,none,(.mov (.tmp 43))⟩,⟨some 45,some (44,false),(.mov (.tmp 4))⟩,⟨some 46,some (44,false),(.bin .lss (.tmp 45) (.const (.int .i64 0)))⟩,⟨some 47,none,(.pick (.tmp 44) (.const (.bool true)) (.tmp 46))⟩,⟨some 48,none,(.mov (.tmp 47))⟩,⟨some 49,some (48,false),(.mov (.tmp 4))⟩,⟨some 50,some (48,false),(.mov (.tmp 15))⟩,⟨some 51,some (48,false),(.mov (.tmp 3))⟩,⟨some 52,some (48,false),(.idx 5 (.tmp 50) (.tmp 51))⟩,⟨some 53,some (48,false),(.fld 0 (.tmp 52))⟩,⟨some 54,some (48,false),(.load false 1 (.tmp 53))⟩,⟨some 55,some (48,false),(.len (.tmp 54))⟩,⟨some 56,some (48,false),(.bin .gtr (.tmp 49) (.tmp 55))⟩,⟨some 57,none,(.pick (.tmp 48) (.const (.bool true)) (.tmp 56))⟩]) (.cond (.tmp 57) (.seq (.region [⟨some 10,none,(.mov (.const (.bool false)))⟩,⟨some 11,none,(.mov (.const (.int .i64 2)))⟩]) .ret) .skip))) (.seq (.region [⟨some 59,none,(.load true 2 (.tmp 5))⟩,⟨some 60,none,(.mov (.tmp 1))⟩,⟨some 61,none,(.mov (.tmp 3))⟩,⟨some 62,none,(.call (.func 21) [(.tmp 59),(.tmp 60),(.tmp 61)])⟩,⟨some 58,none,(.mov (.tmp 62))⟩,⟨some 63,none,(.extract (.tmp 58) 0)⟩,⟨some 64,none,(.extract (.tmp 58) 1)⟩,⟨some 16,none,(.mov (.tmp 63))⟩,⟨some 14,none,(.mov (.tmp 64))⟩]) (.seq (.seq (.region [⟨some 65,none,(.mov (.tmp 14))⟩,⟨some 66,none,(.bin .neq (.tmp 65) (.const (.int .i64 0)))⟩]) (.cond (.tmp 66) (.seq (.region [⟨some 67,none,(.mov (.tmp 14))⟩,⟨some 10,none,(.mov (.const (.bool false)))⟩,⟨some 11,none,(.mov (.tmp 67))⟩]) .ret) .skip)) (.seq (.region [⟨some 68,none,(.mov (.tmp 12))⟩,⟨some 69,none,(.mov (.tmp 13))⟩,⟨some 70,none,(.call (.func 32) [(.tmp 68),(.tmp 69)])⟩,⟨some 71,none,(.mov (.tmp 3))⟩,⟨some 72,none,(.mov (.tmp 4))⟩,⟨some 73,none,(.call (.func 32) [(.tmp 71),(.tmp 72)])⟩,⟨some 17,none,(.mov (.tmp 70))⟩,⟨some 18,none,(.mov (.tmp 73))⟩]) (.seq (.block 0 (.seq (.region [⟨some 75,none,(.mov (.tmp 12))⟩,⟨some 76,none,(.bin .eql (.tmp 75) (.const (.int .i64 (-1))))⟩,⟨some 74,none,(.mov (.tmp 76))⟩]) (.cond (.tmp 74) (.seq (.region [⟨some 10,none,(.mov (.const (.bool true)))⟩,⟨some 11,none,(.mov (.const (.int .i64 0)))⟩]) .ret) (.seq (.region [⟨some 78,none,(.mov (.tmp 17))⟩,⟨some 79,none,(.cpart false (.tmp 78))⟩,⟨some 80,none,(.mov (.tmp 18))⟩,⟨some 81,none,(.cpart false (.tmp 80))⟩,⟨some 82,none,(.binP .eql 83 (.tmp 79) (.tmp 81))⟩,⟨some 77,none,(.mov (.tmp 82))⟩]) (.cond (.tmp 77) (.seq (.region [⟨some 83,none,(.mov (.tmp 17))⟩,⟨some 84,none,(.cpart true (.tmp 83))⟩,⟨some 85,none,(.mov (.tmp 18))⟩,⟨some 86,none,(.cpart true (.tmp 85))⟩,⟨some 87,none,(.binP .lss 83 (.tmp 84) (.tmp 86))⟩,⟨some 10,none,(.mov (.tmp 87))⟩,⟨some 11,none,(.mov (.const (.int .i64 0)))⟩]) .ret) .skip))))) (.seq (.region [⟨some 88,none,(.mov (.tmp 16))⟩,⟨some 89,none,(.mov (.tmp 12))⟩,⟨some 90,none,(.mov (.tmp 3))⟩,⟨some 91,none,(.call (.func 22) [(.tmp 88),(.tmp 89),(.tmp 90)])⟩,⟨some 10,none,(.mov (.tmp 91))⟩,⟨some 11,none,(.mov (.const (.int .i64 0)))⟩]) .ret)))))))))
set_option maxRecDepth 100000 in
theorem tab15:tb.code 15=some ⟨92,[(10,none),(11,none)],body15⟩:=by kernel_rfl
theorem dSet_ok (h:AHeap) (vt vf:Value) (T:List LType) (F:List LFn) (f r block at':Int) (E:Env h vt vf T F):
  WC Tryz.prog tb 15 [.agg #[vt,vf],I f,I r,I block,I at'] h fun q h'=>(∃ bb,q= .tuple #[.bool bb,I (zAb T F f r block at')]∧(zAb T F f r block at'≠0→bb=false)∧(zAb T F f r block at'=0→(bb=true↔SetP T F f r block at')))∧Ext h h':=by
 have hF:=E.sm.funcs
 refine WC.of (zG 15) tab15 ?_;simp only[zN,Nat.zero_add,Nat.reduceAdd]
 refine go ?_
 refine WO.bx ?_
 intro p h1 e1 o1
 have E1:=E.ext e1
 refine go ?_
 refine WO.con (place_ok h1 vt vf T F f r E1) ?_
 rintro _ h2 ⟨rfl,e2⟩
 have o1:=o1.ext e2
 have e02:=e1.trans e2
 have E2:=E1.ext e2
 have sf2:=E2.sf
 by_cases hp:(zd T F f r).2.2=0
 case neg=>
  have hp':(zd T F f r).2.2≠0:=hp
  have hs:zAb T F f r block at'=(zd T F f r).2.2:=by unfold zAb;rw[if_pos hp]
  obtain⟨ta,tn,tk,rfl⟩:=zE E.st
  obtain⟨ga,gn,gk,rfl⟩:=zE sf2
  rw[hs]
  refine go ?_
  refine rt ?_
  exact⟨⟨false,rfl,fun _=>rfl,fun h=>absurd h hp⟩,e02⟩
 obtain⟨hask,hpin⟩:=zBh hp
 have hs:zAb T F f r block at'=if block<0∨((F.getD f.toNat default).blocks.length:Int)≤block∨at'<0∨(((F.getD f.toNat default).blocks.getD block.toNat default).ins.length:Int)<at' then 2 else ZG T F f block:=by unfold zAb;rw[if_neg (fun e=>e hp)]
 obtain⟨hf0,hf1,hpr,hn⟩:=zDX hask
 have hmem:=zL (l:=F) (i:=f.toNat) (by omega)
 have hfn:=(Zp hpr).2.2.2 _ hmem
 have hbn:=zBU hfn
 have himany:∀ b∈(F.getD f.toNat default).blocks,(b.ins.length:Int)≤128:=fun b hb=>by have:=ins_many hb;omega
 rw[hs,hp]
 unfold SetP
 obtain⟨csF,⟨vb,rfl,sb,hlb⟩,pcF,hsF⟩:=zX (i:=f.toNat) sf2 (by omega)
 obtain⟨ba,bn,bk,rfl⟩:=zE sb
 obtain⟨ta,tn,tk,rfl⟩:=zE E2.st
 obtain⟨ga,gn,gk,rfl⟩:=zE sf2
 generalize hPb:(zd T F f r).1=pb at *
 generalize hPn:(zd T F f r).2.1=pn at *
 clear hs hn hfn
 by_cases c1:block<0
 ·rw[if_pos (.inl c1)]
  refine go ?_
  refine rt ?_
  exact⟨⟨false,rfl,fun _=>rfl,fun h=>by cases h⟩,e02⟩
 by_cases c2:((F.getD f.toNat default).blocks.length:Int)≤block
 ·rw[if_pos (.inr (.inl c2))]
  refine go ?_
  refine rt ?_
  exact⟨⟨false,rfl,fun _=>rfl,fun h=>by cases h⟩,e02⟩
 have hbk:block.toNat<(F.getD f.toNat default).blocks.length:=by omega
 have h128:=himany _ (zL (l:=(F.getD f.toNat default).blocks) hbk)
 obtain⟨csB,⟨vi,rfl,si,hli⟩,pcB,hsB⟩:=zX (i:=block.toNat) sb hbk
 obtain⟨ia,iN,ik,rfl⟩:=zE si
 by_cases c3:at'<0
 ·rw[if_pos (.inr (.inr (.inl c3)))]
  refine go ?_
  refine rt ?_
  exact⟨⟨false,rfl,fun _=>rfl,fun h=>by cases h⟩,e02⟩
 by_cases c4:(((F.getD f.toNat default).blocks.getD block.toNat default).ins.length:Int)<at'
 ·rw[if_pos (.inr (.inr (.inr c4)))]
  refine go ?_
  refine rt ?_
  exact⟨⟨false,rfl,fun _=>rfl,fun h=>by cases h⟩,e02⟩
 rw[if_neg (by omega)]
 have hpnb:pb= -1∨(0≤pb∧pb≤15∧0≤pn∧pn≤127):=by
  rcases hpin with h|⟨a,b,c,d⟩
  ·exact .inl h
  ·have:=himany _ (zL (l:=(F.getD f.toNat default).blocks) (i:=pb.toNat) (by omega))
   exact .inr (by omega)
 refine go ?_
 refine WO.con (zIJ h2 _ _ T F f block E2) ?_
 rintro _ h3 ⟨⟨q,rfl,hq⟩,e3⟩
 have e03:=e02.trans e3
 by_cases ha:ZG T F f block=0
 case neg=>
  have ha':ZG T F f block≠0:=ha
  refine go ?_
  refine rt ?_
  exact⟨⟨false,rfl,fun _=>rfl,fun h=>absurd h ha⟩,e03⟩
 obtain⟨xs,oq,hR⟩:=hq ha
 have wb:=(zEF ha).2
 have hR:=Hid.mk hR
 rw[ha]
 refine go ?_
 refine WO.con (zDI h3 pb pn) ?_
 rintro _ _ ⟨rfl,rfl⟩
 refine go ?_
 refine WO.con (zDI h3 block at') ?_
 rintro _ _ ⟨rfl,rfl⟩
 by_cases c5:pb= -1
 ·refine go ?_
  refine rt ?_
  exact⟨⟨true,rfl,fun h=>absurd rfl h,fun _=>by simp[c5]⟩,e03⟩
 refine go ?_
 refine WO.reF (a:=pb) (b:=pn) ?_
 refine go ?_
 refine WO.reF (a:=block) (b:=at') ?_
 refine go ?_
 refine WO.eqF (a:=pb) (b:=block) (by omega) (by omega) ?_
 by_cases c6:pb=block
 ·refine go ?_
  refine WO.imF (a:=pb) (b:=pn) ?_
  refine go ?_
  refine WO.imF (a:=block) (b:=at') ?_
  refine go ?_
  refine WO.ltF (a:=pn) (b:=at') (by omega) (by omega) ?_
  refine go ?_
  refine rt ?_
  refine⟨⟨_,rfl,fun h=>absurd rfl h,fun _=> ?_⟩,e03⟩
  rw[decide_eq_true_iff]
  exact⟨fun h=> .inr (.inl ⟨c6,h⟩),fun h=>by
   rcases h with h|h|h
   ·exact absurd h c5
   ·exact h.2
   ·exact absurd c6 h.2.1⟩
 ·refine go ?_
  refine WO.con (zHr h2 h3 q (nxF T F f) xs pb block oq ⟨hR.out.dm⟩ wb ⟨hR.out.all⟩) ?_
  rintro _ _ ⟨⟨bb,rfl,hbb⟩,rfl⟩
  refine go ?_
  refine rt ?_
  refine⟨⟨_,rfl,fun h=>absurd rfl h,fun _=> ?_⟩,e03⟩
  rw[hbb,hR.out.dom pb block wb]
  exact⟨fun h=> .inr (.inr ⟨c5,c6,h⟩),fun h=>by
   rcases h with h|h|h
   ·exact absurd h c5
   ·exact absurd h.1 c6
   ·exact h.2.2⟩
end Go.Proofs.YtdcgdfbblnljjaaGreatDoor
namespace Go.Proofs.YtdcgdfbblnljjaaGreatDoor
open Go.Am
set_option linter.unusedVariables false
set_option linter.unusedSimpArgs false
set_option maxHeartbeats 1000000
theorem En.env {h:AHeap} {vt vf:Value} {T:List LType} {F:List LFn} (E:En h vt vf T F):Env h vt vf T F:=⟨E.tt,E.hm,E.sm,E.st,E.sf⟩
theorem rch_av {nx:Int→List Int} {a b:Int}:Rch nx [0] a b↔Av nx a b:=by
 constructor
 ·intro h
  induction h with
  |here h1 h2=>rw[List.mem_singleton]at h1;subst h1;exact⟨0,.here h2⟩
  |step _ hc hne ih=>obtain⟨k,hk⟩:=ih;exact⟨k+1,.step hk hc hne⟩
 ·rintro⟨k,h⟩
  induction h with
  |here h=>exact .here (by simp) h
  |step _ hc hne ih=>exact .step ih hc hne
theorem av_of {nx:Int→List Int} {a b:Int} (w:Way nx 0 b) (h:¬Way nx 0 a):Av nx a b:=by
 induction w with
 |here=>exact⟨0,.here (fun e=>h (by rw[←e];exact .here))⟩
 |step w1 hc ih=>obtain⟨k,hk⟩:=ih;exact⟨k+1,.step hk hc (fun e=>h (by rw[←e];exact .step w1 hc))⟩
theorem zEy {nx:Int→List Int} {a b:Int} (w:Way nx 0 b) (d:Dom nx a b):Way nx 0 a:=Classical.byContradiction fun h=>d (av_of w h)
def RuledP (nx:Int→List Int) (a b:Int):Prop:=a=b∨(Way nx 0 a∧Dom nx a b)
theorem zHG {nx:Int→List Int} {a b:Int} (w:Way nx 0 b):RuledP nx a b↔Dom nx a b:=
 ⟨fun h=>h.elim (fun e=>by rw[e];exact Dom.self _ _) (·.2),fun d=> .inr ⟨zEy w d,d⟩⟩
noncomputable def body24:ACode:=(.seq (.region [⟨some 3,none,(.box (.tmp 0))⟩,⟨some 6,none,(.mov (.const (.int .i64 0)))⟩]) (.seq (.region [⟨some 10,none,(.load true 2 (.tmp 3))⟩,⟨some 11,none,(.mov (.tmp 1))⟩,⟨some 12,none,(.mov (.tmp 2))⟩,⟨some 13,none,(.call (.func 23) [(.tmp 10),(.tmp 11),(.tmp 12)])⟩,⟨some 9,none,(.mov (.tmp 13))⟩,⟨some 14,none,(.extract (.tmp 9) 0)⟩,⟨some 15,none,(.extract (.tmp 9) 1)⟩,⟨some 7,none,(.mov (.tmp 14))⟩,⟨some 8,none,(.mov (.tmp 15))⟩]) (.seq (.seq (.region [⟨some 16,none,(.mov (.tmp 8))⟩,⟨some 17,none,(.bin .eql (.tmp 16) (.const (.int .i64 0)))⟩,⟨some 18,none,(.mov (.tmp 17))⟩,⟨some 19,some (18,true),(.fld 1 (.tmp 3))⟩,⟨some 20,some (18,true),(.load false 1 (.tmp 19))⟩,⟨some 21,some (18,true),(.mov (.tmp 1))⟩,⟨some 22,some (18,true),(.idx 2 (.tmp 20) (.tmp 21))⟩,⟨some 23,some (18,true),(.fld 1 (.tmp 22))⟩,⟨some 24,some (18,true),(.load false 1 (.tmp 23))⟩,⟨some 25,some (18,true),(.call (.func 28) [(.tmp 24)])⟩,⟨some 26,some (18,true),(.mov (.tmp 2))⟩,⟨some 27,some (18,true),(.call (.func 27) [(.tmp 25),(.tmp 26)])⟩,⟨some 28,some (18,true),(.un .not (.tmp 27))⟩,⟨some 29,none,(.pick (.tmp 18) (.tmp 28) (.const (.bool false)))⟩]) (.cond (.tmp 29) (.seq (.region [⟨some 6,none,(.mov (.const (.int .i64 6)))⟩]) .ret) .skip)) (.seq (.region [⟨some 30,none,(.mov (.tmp 8))⟩,⟨some 6,none,(.mov (.tmp 30))⟩]) .ret))))
set_option maxRecDepth 100000 in
theorem tab24:tb.code 24=some ⟨31,[(6,none)],body24⟩:=by kernel_rfl
theorem zFH (h:AHeap) (vt vf:Value) (T:List LType) (F:List LFn) (f b:Int) (E:En h vt vf T F):
  WC Tryz.prog tb 24 [.agg #[vt,vf],I f,I b] h fun r h'=>r=I (ZG T F f b)∧Ext h h':=by
 have hF:=E.sm.funcs
 refine WC.of (zG 24) tab24 ?_;simp only[zN,Nat.zero_add,Nat.reduceAdd]
 refine go ?_
 refine WO.bx ?_
 intro p h1 e1 o1
 have E1:=E.ext e1
 refine go ?_
 refine WO.con (zDn h1 vt vf T F f b E1) ?_
 rintro _ h2 ⟨⟨v,rfl,sv⟩,e2⟩
 have o1:=o1.ext e2
 have e02:=e1.trans e2
 have E2:=E1.ext e2
 have sf2:=E2.sf
 obtain⟨ta,tn,tk,rfl⟩:=zE E.st
 obtain⟨ga,gn,gk,rfl⟩:=zE sf2
 rw[zCw]
 by_cases hc:(zD T F f b).2=0
 case neg=>
  have hc':(zD T F f b).2≠0:=hc
  have ha:ZG T F f b=(zD T F f b).2:=by
   unfold ZG
   unfold zD at hc ⊢
   split at hc
   ·rename_i h1
    have:(if (yp T F f).2≠0 then (([]:List LBlk),(yp T F f).2) else if (0:Int)<0∨((F.getD f.toNat default).blocks.length:Int)≤0 then ([],2) else ((F.getD f.toNat default).blocks,0))=([],(yp T F f).2):=by rw[if_pos h1]
    rw[this,if_pos h1,if_pos h1]
   ·rename_i h1
    split at hc
    ·rename_i h2
     have hin:=Zx (by omega:(yp T F f).2=0)
     have hb1:=zBU ((Zp hin.2.2).2.2.2 _ (zL (l:=F) (i:=f.toNat) (by omega)))
     have:(if (yp T F f).2≠0 then (([]:List LBlk),(yp T F f).2) else if (0:Int)<0∨((F.getD f.toNat default).blocks.length:Int)≤0 then ([],2) else ((F.getD f.toNat default).blocks,0))=((F.getD f.toNat default).blocks,0):=by rw[if_neg h1,if_neg (by omega)]
     rw[this,if_neg (fun e=>e rfl),if_pos h2,if_neg h1,if_pos h2]
    ·exact absurd rfl hc
  rw[ha]
  refine go ?_
  refine rt ?_
  exact⟨rfl,e02⟩
 obtain⟨h1b,h2b,h3b,h4b⟩:=yN hc
 have hin:=Zx h4b
 have hz:(zD T F f 0).2=0:=by rw[zBJ hc (c:=0) ⟨Int.le_refl _,by omega⟩];exact hc
 have hzb:=(yN hz).2.2.1
 obtain⟨hlen,hnx⟩:=yv hz
 have hask:ZG T F f b=if b∈(yW T F f).1 then 0 else 6:=by
  unfold ZG
  rw[if_neg (by rw[hz];exact fun e=>e rfl),if_neg (by rw[hzb];rw[h3b]at h2b;omega)]
 have hmr:=Hid.mk (zAB hz (b:=b))
 rw[hask,hc]
 rw[hzb]at hlen hnx hmr
 rw[h3b]at h2b
 obtain⟨csF,⟨vb,rfl,sb,hlb⟩,pcF,hsF⟩:=zX (i:=f.toNat) sf2 (by omega)
 obtain⟨_,_,_,rfl⟩:=zE sb
 refine go ?_
 refine WO.con (zGX h2 _ _ E2.hm sb hlen (by omega) hnx) ?_
 rintro r h3 ⟨⟨l,ol,hl1,hl2,hl3⟩,e3⟩
 refine go ?_
 refine WO.con (in_ok h3 r l b ol.sl (by omega)) ?_
 rintro _ _ ⟨rfl,rfl⟩
 have e03:=e02.trans e3
 by_cases hb:b∈l
 ·rw[if_pos (hmr.out.2 ((hl3 b).1 hb))]
  refine go ?_
  refine rt ?_
  exact⟨rfl,e03⟩
 ·rw[if_neg (fun e=>hb ((hl3 b).2 (hmr.out.1 e)))]
  refine go ?_
  refine rt ?_
  exact⟨rfl,e03⟩
noncomputable def body25:ACode:=(.seq (.region [⟨some 6,none,(.mov (.const (.bool false)))⟩]) (.seq (.region [⟨some 7,none,(.mov (.tmp 1))⟩,⟨some 8,none,(.mov (.tmp 2))⟩,⟨some 9,none,(.bin .eql (.tmp 7) (.tmp 8))⟩,⟨some 10,none,(.mov (.tmp 9))⟩,⟨some 11,some (10,false),(.mov (.tmp 0))⟩,⟨some 12,some (10,false),(.buildSlice 1 1 [(.int .i64 0)] [(0,1,(.const (.int .i64 0)))])⟩,⟨some 13,some (10,false),(.call (.func 42) [(.tmp 11),(.tmp 12),(.const (.int .i64 (-1)))])⟩,⟨some 14,some (10,false),(.mov (.tmp 1))⟩,⟨some 15,some (10,false),(.idx 1 (.tmp 13) (.tmp 14))⟩,⟨some 16,some (10,false),(.load false 1 (.tmp 15))⟩,⟨some 17,some (10,false),(.mov (.tmp 16))⟩,⟨some 18,some (17,true),(.mov (.tmp 0))⟩,⟨some 19,some (17,true),(.buildSlice 1 1 [(.int .i64 0)] [(0,1,(.const (.int .i64 0)))])⟩,⟨some 20,some (17,true),(.mov (.tmp 1))⟩,⟨some 21,some (17,true),(.call (.func 42) [(.tmp 18),(.tmp 19),(.tmp 20)])⟩,⟨some 22,some (17,true),(.mov (.tmp 2))⟩,⟨some 23,some (17,true),(.idx 1 (.tmp 21) (.tmp 22))⟩,⟨some 24,some (17,true),(.load false 1 (.tmp 23))⟩,⟨some 25,some (17,true),(.un .not (.tmp 24))⟩,⟨some 26,some (10,false),(.pick (.tmp 17) (.tmp 25) (.const (.bool false)))⟩,⟨some 27,none,(.pick (.tmp 10) (.const (.bool true)) (.tmp 26))⟩,⟨some 6,none,(.mov (.tmp 27))⟩]) .ret))
set_option maxRecDepth 100000 in
theorem tab25:tb.code 25=some ⟨28,[(6,none)],body25⟩:=by kernel_rfl
theorem ruled_ok (h:AHeap) (v:Value) (L:List LBlk) (a b:Int) (hm:h.mark≤h.n) (sb:SlB h v L) (hL:L.length≤16) (ha:0≤a∧a<(L.length:Int)) (hb:0≤b∧b<(L.length:Int)) (hin:∀ c,0≤c∧c<(L.length:Int)→∀ d∈nxL L c,0≤d∧d<(L.length:Int)):
  WC Tryz.prog tb 25 [v,I a,I b] h fun r h'=>(∃ q,r= .bool q∧(q=true↔RuledP (nxL L) a b))∧Ext h h':=by
 have hf0:∀ c∈([0]:List Int),0≤c∧c<(L.length:Int):=fun c hc=>by rw[List.mem_singleton]at hc;subst hc;omega
 have hw:Rch (nxL L) [0] (-1) a↔Way (nxL L) 0 a:=by
  rw[zGs hin hf0]
  exact⟨fun ⟨c,hc,w⟩=>by rw[List.mem_singleton]at hc;subst hc;exact w,fun w=>⟨0,by simp,w⟩⟩
 replace hw:=Hid.mk hw
 refine WC.of (zG 25) tab25 ?_;simp only[zN,Nat.zero_add,Nat.reduceAdd]
 by_cases hab:a=b
 ·refine go ?_
  refine rt ?_
  exact⟨⟨_,rfl,⟨fun _=> .inl hab,fun _=>rfl⟩⟩,Ext.refl _⟩
 refine go ?_
 refine WO.bl [0] ?_
 intro v1 h1 e1 o1
 have hm1:=zh e1 hm
 refine go ?_
 refine WO.con (zEO h1 v v1 L [0] (-1) hm1 (SlB.ext sb e1) o1.sl hL hin hf0 (by simp)) ?_
 rintro r h2 ⟨⟨bs,ob,hbl,hbs⟩,e2⟩
 have e02:=e1.trans e2
 have sr:=ob.sl
 have hA:=(hbs a ha).trans hw.out
 obtain⟨cs1,hcs1,pc1,hs1⟩:=zX sr (i:=a.toNat) (by omega)
 have hcs1:cs1=[.bool (bO bs a)]:=hcs1
 subst hcs1
 replace hA:=Hid.mk hA
 clear hbs
 cases hq:bO bs a with
 |false=>
  rw[hq]at hA pc1
  refine go ?_
  refine rt ?_
  exact⟨⟨_,rfl,⟨fun h=>(by cases h),fun h=>h.elim (fun e=>absurd e hab) fun h=>absurd (hA.out.2 h.1) Bool.noConfusion⟩⟩,e02⟩
 |true=>
  rw[hq]at hA pc1
  refine go ?_
  refine WO.bl [0] ?_
  intro v3 h3 e3 o3
  have e03:=e02.trans e3
  refine go ?_
  refine WO.con (zEO h3 v v3 L [0] a (zh e03 hm) (SlB.ext sb e03) o3.sl hL hin hf0 (by simp)) ?_
  rintro r4 h4 ⟨⟨bs4,ob4,hbl4,hbs4⟩,e4⟩
  have sr4:=ob4.sl
  have hB:=(hbs4 b hb).trans rch_av
  obtain⟨cs4,hcs4,pc4,hs4⟩:=zX sr4 (i:=b.toNat) (by omega)
  have hcs4:cs4=[.bool (bO bs4 b)]:=hcs4
  subst hcs4
  replace hB:=Hid.mk hB
  clear hbs4
  refine go ?_
  refine rt ?_
  refine⟨⟨_,rfl,?_⟩,e03.trans e4⟩
  have hw:=hA.out.1 rfl
  cases hq4:bO bs4 b with
  |true=>exact⟨fun h=>(by cases h),fun h=>h.elim (fun e=>absurd e hab) fun h=>absurd (hB.out.1 hq4) h.2⟩
  |false=>exact⟨fun _=> .inr ⟨hw,fun hav=>by have:=hB.out.2 hav;rw[hq4]at this;cases this⟩,fun _=>rfl⟩
end Go.Proofs.YtdcgdfbblnljjaaGreatDoor
namespace Go.Proofs.YtdcgdfbblnljjaaGreatDoor
open Go.Am
set_option linter.unusedVariables false
set_option linter.unusedSimpArgs false
set_option maxHeartbeats 1000000
end Go.Proofs.YtdcgdfbblnljjaaGreatDoor
namespace Go.Proofs.YtdcgdfbblnljjaaGreatDoor
open Go.Am
set_option linter.unusedVariables false
set_option linter.unusedSimpArgs false
set_option maxHeartbeats 1000000
theorem slr_take {α:Type} {c i:Nat} {R:AHeap→List Value→α→Prop} {h:AHeap} {v:Value} {l:List α} (s:SlR c R h v l) (hl:0<l.length) (hi:i≤l.length):∃ r,YP c v none (some i) none=some r∧SlR c R h r (l.take i):=by
 obtain⟨cells,⟨h1,⟨h2,_⟩|⟨g,off,row,rfl,h3,h4,h5⟩⟩,hR⟩:=s
 ·omega
 have hmul:i * c≤l.length * c:=Nat.mul_le_mul_right _ hi
 have hlen:(l.take i).length=i:=by rw[List.length_take];omega
 refine⟨.slice (some ⟨g,off+0 * c,none⟩) (i - 0) c,?_,cells.take (i * c),⟨by rw[List.length_take,hlen];omega,.inr ⟨g,off,row,by rw[hlen];simp,h3,?_,h5⟩⟩,fun j a ha=> ?_⟩
 ·have b1:Nat.ble 0 i=true:=Nat.ble_eq_true_of_le (Nat.zero_le _)
  have b2:Nat.ble i l.length=true:=Nat.ble_eq_true_of_le hi
  simp only[YP,Option.getD_none,Option.getD_some,b1,b2,Option.isNone_none,Bool.and_self,cond_true,Nat.beq_refl]
 ·rw[hlen]
  obtain⟨c1,c2⟩:=zED h4
  rw[ZC (by omega),c2,List.take_take,Nat.min_eq_left hmul]
 ·have hj:j<i:=by have:=(List.getElem?_eq_some_iff.1 ha).1;omega
  have hja:l[j]?=some a:=by rw[List.getElem?_take,if_pos hj]at ha;exact ha
  have:=hR j a hja
  have h6:j * c+c≤i * c:=by rw[←Nat.succ_mul];exact Nat.mul_le_mul_right _ hj
  rw[List.drop_take,List.take_take,Nat.min_eq_left (by omega)]
  exact this
theorem zHQ {l:List LBlk}:∀ {i:Nat} {k:Int},i<l.length→0≤k→k<((l.getD i default).ins.length:Int)→yL l (zW (l.take i)+k)=((i:Int),k):=by
 induction l with
 |nil=>intro i k hi;simp at hi
 |cons b l ih=>
  intro i k hi h0 h1
  cases i with
  |zero=>
   simp only[List.take_zero,List.getD_cons_zero]at h1 ⊢
   unfold yL
   rw[show zW []=0 from rfl,Int.zero_add,if_neg (by omega)];rfl
  |succ i=>
   simp only[List.take_succ_cons,List.getD_cons_succ,List.length_cons]at h1 hi ⊢
   have hp:=ZO (l.take i)
   unfold yL
   rw[Yn,if_pos (by omega),show (b.ins.length:Int)+zW (l.take i)+k - b.ins.length=zW (l.take i)+k by omega,ih (by omega) h0 h1]
   simp
def Ze (n:Int) (L:List LBlk) (r:Int):Int×Int:=if n≤r∧r<n+zW L then yL L (r - n) else (-1,r)
noncomputable def body64:ACode:=(.seq (.region [⟨some 4,none,(.box (.tmp 0))⟩,⟨some 8,none,(.mov (.const (.int .i64 0)))⟩]) (.seq (.regionC [(⟨some 9,none,(.load true 2 (.tmp 4))⟩,[]),(⟨some 10,none,(.fld 1 (.tmp 4))⟩,[]),(⟨some 11,none,(.load false 1 (.tmp 10))⟩,[]),(⟨some 12,none,(.mov (.tmp 1))⟩,[]),(⟨some 13,none,(.idx 2 (.tmp 11) (.tmp 12))⟩,[]),(⟨some 14,none,(.load true 2 (.tmp 13))⟩,[]),(⟨some 15,none,(.call (.func 62) [(.tmp 9),(.tmp 14)])⟩,[]),(⟨some 16,none,(.fld 1 (.tmp 4))⟩,[]),(⟨some 17,none,(.load false 1 (.tmp 16))⟩,[6]),(⟨some 18,none,(.mov (.tmp 1))⟩,[]),(⟨some 19,none,(.idx 2 (.tmp 17) (.tmp 18))⟩,[]),(⟨some 20,none,(.fld 1 (.tmp 19))⟩,[]),(⟨some 21,none,(.load false 1 (.tmp 20))⟩,[6]),(⟨some 22,none,(.mov (.tmp 2))⟩,[]),(⟨some 23,none,(.slice 5 (.tmp 21) none (some (.tmp 22)) none)⟩,[]),(⟨some 24,none,(.call (.func 63) [(.tmp 23)])⟩,[]),(⟨some 25,none,(.bin .add (.tmp 15) (.tmp 24))⟩,[]),(⟨some 26,none,(.mov (.tmp 3))⟩,[]),(⟨some 27,none,(.bin .add (.tmp 25) (.tmp 26))⟩,[]),(⟨some 8,none,(.mov (.tmp 27))⟩,[])]) .ret))
set_option maxRecDepth 100000 in
theorem tab64:tb.code 64=some ⟨28,[(8,none)],body64⟩:=by kernel_rfl
theorem zGP (h:AHeap) (vt vf:Value) (T:List LType) (F:List LFn) (f k:Int) (i:Nat) (E:En h vt vf T F) (hf:0≤f∧f<(F.length:Int)) (hsig:0≤(F.getD f.toNat default).sig∧(F.getD f.toNat default).sig<(T.length:Int)) (hi:i<(F.getD f.toNat default).blocks.length) (hk:0≤k∧k≤1000000):
  WC Tryz.prog tb 64 [.agg #[vt,vf],I f,I i,I k] h fun r h'=>r=I (((T.getD (F.getD f.toNat default).sig.toNat default).parts.length:Int)+zW ((F.getD f.toNat default).blocks.take i)+k)∧Ext h h':=by
 have hF:=E.sm.funcs
 have hmem:=zL (l:=F) (i:=f.toNat) (by omega)
 have hB:=E.sm.blocks _ hmem
 have hI:=E.sm.ins _ hmem
 have hpart:=E.sm.parts _ (zL (l:=T) (i:=(F.getD f.toNat default).sig.toNat) (by omega))
 have hIt:∀ b∈(F.getD f.toNat default).blocks.take i,b.ins.length≤1000:=fun b hb=>hI b (List.mem_of_mem_take hb)
 have hlt:((F.getD f.toNat default).blocks.take i).length≤1000:=by rw[List.length_take];omega
 have hmany:=zBE hIt
 obtain⟨ta,tn,tk,rfl⟩:=zE E.st
 obtain⟨ga,gn,gk,rfl⟩:=zE E.sf
 refine WC.of (zG 64) tab64 ?_;simp only[zN,Nat.zero_add,Nat.reduceAdd]
 refine go ?_
 refine WO.bx ?_
 intro p h1 e1 o1
 have E1:=E.ext e1
 have sf1:=E1.sf
 refine go ?_
 refine WX.regionU2 0 rfl rfl ?_
 have o1X:OwnC h (inC (zF 0 h1)) p [_,_]:=o1
 have sfX:SlF (inC (zF 0 h1)) _ F:=sf1
 obtain⟨cs,⟨vb,rfl,sb,hlb⟩,px,hs⟩:=zBH sf1 (i:=f.toNat) (by omega)
 have pcX:=(px h1 (Ext.refl _)).2
 have pcX:Piece (inC (zF 0 h1)) (.slice ga gn gk) (f.toNat * 2) [I (F.getD f.toNat default).sig,vb]:=pcX
 obtain⟨ba,bn,bk,rfl⟩:=zE sb
 obtain⟨qa,qn,qk,hqv,hqb⟩:=zAC sf1 (i:=f.toNat) (by omega)
 refine goU ?_
 refine WO.con (zAi (inC (zF 0 h1)) _ _ _ T F _ E1.inC.st sfX ⟨_,_,_,rfl⟩ hsig (by omega)) ?_
 rintro _ h2 ⟨rfl,e2⟩
 refine WO.nil ?_
 refine zAU e2 yq ?_
 have sfY:SlF (inC h2) (.slice ga gn gk) F:=by have:=SlF.ext sfX e2;exact this
 have e3:Ext h1 (outC h1 (inC h2)):=e2.reg
 have pcY:Piece (inC h2) (.slice ga gn gk) (f.toNat * 2) [I (F.getD f.toNat default).sig,.slice ba bn bk]:=by
  have:=(px _ e3).2;exact this
 have sbY:SlB (inC h2) (.slice ba bn bk) (F.getD f.toNat default).blocks:=by
  have:=SlB.ext sb e3;exact this
 obtain⟨vs,hvs,sbs⟩:=slr_take (i:=i) sbY (by omega) (by omega)
 have o1Y:OwnC h (inC h2) p [.slice ta tn tk,.slice ga gn gk]:=by have:=o1X.ext e2;exact this
 refine goU ?_
 refine zB8 o1 (Nat.le_refl _) ?_
 refine goU ?_
 refine uK2_el ⟨qa,qn,qk,hqv,hqb⟩ ?_
 refine goU ?_
 refine WO.slHi (i:=i) hvs ?_
 refine WO.nil ?_
 refine yo ?_
 refine goU ?_
 refine WO.con (zAu (inC h2) _ _ sbs hlt hIt) ?_
 rintro _ _ ⟨rfl,rfl⟩
 refine WO.nil ?_
 refine yo ?_
 refine goU ?_
 refine go ?_
 refine rt ?_
 exact⟨rfl,e1.trans e3⟩
noncomputable def body49_0:ACode:=(.seq (.seq (.region [⟨some 21,none,(.mov (.tmp 9))⟩,⟨some 22,none,(.fld 1 (.tmp 3))⟩,⟨some 23,none,(.load false 1 (.tmp 22))⟩,⟨some 24,none,(.mov (.tmp 1))⟩,⟨some 25,none,(.idx 2 (.tmp 23) (.tmp 24))⟩,⟨some 26,none,(.fld 1 (.tmp 25))⟩,⟨some 27,none,(.load false 1 (.tmp 26))⟩,⟨some 28,none,(.mov (.tmp 8))⟩,⟨some 29,none,(.idx 5 (.tmp 27) (.tmp 28))⟩,⟨some 30,none,(.fld 0 (.tmp 29))⟩,⟨some 31,none,(.load false 1 (.tmp 30))⟩,⟨some 32,none,(.len (.tmp 31))⟩,⟨some 33,none,(.bin .lss (.tmp 21) (.tmp 32))⟩]) (.cond (.tmp 33) .skip (.exit 2))) (.seq (.block 3 (.seq (.region [⟨some 36,none,(.load true 2 (.tmp 3))⟩,⟨some 37,none,(.mov (.tmp 1))⟩,⟨some 38,none,(.mov (.tmp 8))⟩,⟨some 39,none,(.mov (.tmp 9))⟩,⟨some 40,none,(.call (.func 64) [(.tmp 36),(.tmp 37),(.tmp 38),(.tmp 39)])⟩,⟨some 41,none,(.mov (.tmp 2))⟩,⟨some 42,none,(.bin .eql (.tmp 40) (.tmp 41))⟩]) (.cond (.tmp 42) (.seq (.region [⟨some 43,none,(.mov (.tmp 8))⟩,⟨some 44,none,(.mov (.tmp 9))⟩,⟨some 6,none,(.mov (.tmp 43))⟩,⟨some 7,none,(.mov (.tmp 44))⟩]) .ret) .skip))) (.region [⟨some 34,none,(.mov (.tmp 9))⟩,⟨some 35,none,(.bin .add (.tmp 34) (.const (.int .i64 1)))⟩,⟨some 9,none,(.mov (.tmp 35))⟩])))
noncomputable def body49_1:ACode:=(.seq (.seq (.region [⟨some 10,none,(.mov (.tmp 8))⟩,⟨some 11,none,(.fld 1 (.tmp 3))⟩,⟨some 12,none,(.load false 1 (.tmp 11))⟩,⟨some 13,none,(.mov (.tmp 1))⟩,⟨some 14,none,(.idx 2 (.tmp 12) (.tmp 13))⟩,⟨some 15,none,(.fld 1 (.tmp 14))⟩,⟨some 16,none,(.load false 1 (.tmp 15))⟩,⟨some 17,none,(.len (.tmp 16))⟩,⟨some 18,none,(.bin .lss (.tmp 10) (.tmp 17))⟩]) (.cond (.tmp 18) .skip (.exit 0))) (.seq (.block 1 (.seq (.region [⟨some 9,none,(.mov (.const (.int .i64 0)))⟩]) (.block 2 (.loop body49_0)))) (.region [⟨some 19,none,(.mov (.tmp 8))⟩,⟨some 20,none,(.bin .add (.tmp 19) (.const (.int .i64 1)))⟩,⟨some 8,none,(.mov (.tmp 20))⟩])))
noncomputable def body49:ACode:=(.seq (.region [⟨some 3,none,(.box (.tmp 0))⟩,⟨some 6,none,(.mov (.const (.int .i64 0)))⟩,⟨some 7,none,(.mov (.const (.int .i64 0)))⟩]) (.seq (.seq (.region [⟨some 8,none,(.mov (.const (.int .i64 0)))⟩]) (.block 0 (.loop body49_1))) (.seq (.region [⟨some 45,none,(.mov (.tmp 2))⟩,⟨some 6,none,(.mov (.const (.int .i64 (-1))))⟩,⟨some 7,none,(.mov (.tmp 45))⟩]) .ret)))
set_option maxRecDepth 100000 in
theorem tab49:tb.code 49=some ⟨46,[(6,none),(7,none)],body49⟩:=by kernel_rfl
theorem zFJ (h:AHeap) (vt vf:Value) (T:List LType) (F:List LFn) (f r:Int) (E:En h vt vf T F) (hf:0≤f∧f<(F.length:Int)) (hsig:0≤(F.getD f.toNat default).sig∧(F.getD f.toNat default).sig<(T.length:Int)):
  WC Tryz.prog tb 49 [.agg #[vt,vf],I f,I r] h fun q h'=>q= .tuple #[I (Ze ((T.getD (F.getD f.toNat default).sig.toNat default).parts.length:Int) (F.getD f.toNat default).blocks r).1,I (Ze ((T.getD (F.getD f.toNat default).sig.toNat default).parts.length:Int) (F.getD f.toNat default).blocks r).2]∧Ext h h':=by
 have hF:=E.sm.funcs
 have hmem:=zL (l:=F) (i:=f.toNat) (by omega)
 have hB:=E.sm.blocks _ hmem
 have hI:=Hid.mk (E.sm.ins _ hmem)
 obtain⟨ta,tn,tk,rfl⟩:=zE E.st
 obtain⟨ga,gn,gk,rfl⟩:=zE E.sf
 refine WC.of (zG 49) tab49 ?_;simp only[zN,Nat.zero_add,Nat.reduceAdd]
 refine go ?_
 refine WO.bx ?_
 intro p h1 e1 o1
 have E1:=E.ext e1
 have num:∀ (i:Nat) (k:Int) (h2:AHeap),En h2 (.slice ta tn tk) (.slice ga gn gk) T F→i<(F.getD f.toNat default).blocks.length→0≤k∧k≤1000000→_:=fun i k h2 E2 hi hk=>zGP h2 _ _ T F f k i E2 hf hsig hi hk
 replace num:=Hid.mk num
 refine go ?_
 obtain⟨csF,⟨vb,rfl,sb,hlb⟩,px,hsF⟩:=zBH E1.sf (i:=f.toNat) (by omega)
 obtain⟨ba,bn,bk,rfl⟩:=zE sb
 generalize hnn:((T.getD (F.getD f.toNat default).sig.toNat default).parts.length:Int)=n at *
 generalize hL:(F.getD f.toNat default).blocks=L at *
 generalize (F.getD f.toNat default).sig=sg at *
 refine WX.loopA [10,11,12,13,14,15,16,17,18,9,21,22,23,24,25,26,27,28,29,30,31,32,33,36,37,38,39,40,41,42,43,44,6,7,34,35,9,19,20,8] (by kernel_rfl) (fun i=>L.length - i) (fun i t h2=>Ext h1 h2∧zB t 8=I i∧i≤L.length∧Hid (r<n∨n+zW (L.take i)≤r)) 0 ?_ ?_
 ·exact⟨Ext.refl _,sl_,Nat.zero_le _,⟨by rw[List.take_zero,show zW []=0 from rfl];omega⟩⟩
 rintro i t h2 hsame ⟨e2,s8,hi,hno⟩
 have o2:=o1.ext e2
 have sf2:=SlF.ext E1.sf e2
 have sb2:=SlB.ext sb e2
 have pc2:=(px _ e2).1
 refine go ?_
 refine WX.br (fun hc=> ?_) (fun hc=> ?_)<;>simp only[DB]at hc
 case refine_2=>
  have hii:i=L.length:=by omega
  subst hii
  have hno:=hno.out
  rw[List.take_length]at hno
  have hp:Ze n L r=(-1,r):=by unfold Ze;rw[if_neg (by omega)]
  rw[hp]
  refine go ?_
  refine rt ?_
  exact⟨rfl,e1.trans e2⟩
 have hi':i<L.length:=by omega
 have hil:=hI.out _ (zL (l:=L) hi')
 have hmt:=zCc L hi'
 refine go ?_
 refine WX.loopA [21,22,23,24,25,26,27,28,29,30,31,32,33,36,37,38,39,40,41,42,43,44,6,7,34,35,9] (by kernel_rfl) (fun k=>(L.getD i default).ins.length - k) (fun k t h3=>Ext h1 h3∧zB t 9=I k∧k≤(L.getD i default).ins.length∧Hid (r<n∨n+zW (L.take i)+k≤r)) 0 ?_ ?_
 ·exact⟨e2,sl_,Nat.zero_le _,⟨by have:=hno.out;omega⟩⟩
 rintro k t3 h3 hsame3 ⟨e3,s9,hk,hno3⟩
 have o3:=o1.ext e3
 have E3:=E1.ext e3
 have sf3:=E3.sf
 have sb3:=SlB.ext sb e3
 have pc3:=(px _ e3).1
 obtain⟨csB,⟨vi,rfl,si,hli⟩,pcB,hsB⟩:=zX sb3 hi'
 obtain⟨ia,iN,ik,rfl⟩:=zE si
 refine go ?_
 refine WX.br (fun hd=> ?_) (fun hd=> ?_)<;>simp only[DB]at hd
 case refine_2=>
  have hkk:k=(L.getD i default).ins.length:=by omega
  refine go ?_
  refine zA (i+1) (by omega) ⟨e3,sln,by omega,⟨?_⟩⟩
  have:=hno3.out
  rw[hmt];omega
 have hk':k<(L.getD i default).ins.length:=by omega
 refine go ?_
 refine WO.con (num.out i (k:Int) h3 E3 hi' (by omega)) ?_
 rintro _ h4 ⟨rfl,e4⟩
 have e14:=e3.trans e4
 have hno3:=hno3.out
 by_cases he:n+zW (L.take i)+(k:Int)=r
 ·have hp:Ze n L r=((i:Int),(k:Int)):=by
   have hmp:=ZO (L.take i)
   have hle:zW (L.take (i+1))≤zW L:=by
    have:zW L=zW (L.take (i+1))+zW (L.drop (i+1)):=by
     conv=>lhs;rw[←List.take_append_drop (i+1) L]
     unfold zW;rw[List.map_append,List.sum_append]
    have:=ZO (L.drop (i+1));omega
   unfold Ze
   rw[if_pos (by rw[hmt]at hle;omega),show r - n=zW (L.take i)+(k:Int) by omega]
   exact zHQ hi' (by omega) (by omega)
  rw[hp]
  refine go ?_
  refine rt ?_
  exact⟨rfl,e1.trans e14⟩
 ·refine go ?_
  exact zA (k+1) (by omega) ⟨e14,sln,by omega,⟨by omega⟩⟩
end Go.Proofs.YtdcgdfbblnljjaaGreatDoor
namespace Go.Proofs.YtdcgdfbblnljjaaGreatDoor
open Go.Am
set_option linter.unusedVariables false
set_option linter.unusedSimpArgs false
set_option maxHeartbeats 1000000
theorem zFP {T:List LType} {F:List LFn} {f r:Int} (h:(zY T F f).2=0):zd T F f r=if r<0∨((T.getD (F.getD f.toNat default).sig.toNat default).parts.length:Int)+zW (F.getD f.toNat default).blocks≤r then (0,0,2)
  else ((Ze ((T.getD (F.getD f.toNat default).sig.toNat default).parts.length:Int) (F.getD f.toNat default).blocks r).1,(Ze ((T.getD (F.getD f.toNat default).sig.toNat default).parts.length:Int) (F.getD f.toNat default).blocks r).2,0):=by
 have hn:=(Z3 h).2.2.2
 unfold zd Ze
 rw[if_neg (fun e=>e h),hn]
 simp only
 split
 ·rfl
 ·rename_i h1
  split
  ·rename_i h2;rw[if_neg (by omega)]
  ·rename_i h2;rw[if_pos (by omega)]
noncomputable def body33:ACode:=(.seq (.region [⟨some 3,none,(.box (.tmp 0))⟩,⟨some 6,none,(.mov (.const (.int .i64 0)))⟩,⟨some 7,none,(.mov (.const (.int .i64 0)))⟩,⟨some 8,none,(.mov (.const (.int .i64 0)))⟩]) (.seq (.region [⟨some 12,none,(.load true 2 (.tmp 3))⟩,⟨some 13,none,(.mov (.tmp 1))⟩,⟨some 14,none,(.call (.func 47) [(.tmp 12),(.tmp 13)])⟩,⟨some 9,none,(.mov (.tmp 14))⟩]) (.seq (.seq (.region [⟨some 15,none,(.mov (.tmp 9))⟩,⟨some 16,none,(.bin .eql (.tmp 15) (.const (.int .i64 0)))⟩,⟨some 17,none,(.mov (.tmp 16))⟩,⟨some 18,some (17,true),(.mov (.tmp 2))⟩,⟨some 19,some (17,true),(.bin .lss (.tmp 18) (.const (.int .i64 0)))⟩,⟨some 20,some (17,true),(.mov (.tmp 19))⟩,⟨some 21,some (20,false),(.mov (.tmp 2))⟩,⟨some 22,some (20,false),(.load true 2 (.tmp 3))⟩,⟨some 23,some (20,false),(.mov (.tmp 1))⟩,⟨some 24,some (20,false),(.call (.func 48) [(.tmp 22),(.tmp 23)])⟩,⟨some 25,some (20,false),(.bin .geq (.tmp 21) (.tmp 24))⟩,⟨some 26,some (17,true),(.pick (.tmp 20) (.const (.bool true)) (.tmp 25))⟩,⟨some 27,none,(.pick (.tmp 17) (.tmp 26) (.const (.bool false)))⟩]) (.cond (.tmp 27) (.region [⟨some 9,none,(.mov (.const (.int .i64 2)))⟩]) .skip)) (.seq (.seq (.region [⟨some 28,none,(.mov (.tmp 9))⟩,⟨some 29,none,(.bin .neq (.tmp 28) (.const (.int .i64 0)))⟩]) (.cond (.tmp 29) (.seq (.region [⟨some 30,none,(.mov (.tmp 9))⟩,⟨some 6,none,(.mov (.const (.int .i64 0)))⟩,⟨some 7,none,(.mov (.const (.int .i64 0)))⟩,⟨some 8,none,(.mov (.tmp 30))⟩]) .ret) .skip)) (.seq (.region [⟨some 32,none,(.load true 2 (.tmp 3))⟩,⟨some 33,none,(.mov (.tmp 1))⟩,⟨some 34,none,(.mov (.tmp 2))⟩,⟨some 35,none,(.call (.func 49) [(.tmp 32),(.tmp 33),(.tmp 34)])⟩,⟨some 31,none,(.mov (.tmp 35))⟩,⟨some 36,none,(.extract (.tmp 31) 0)⟩,⟨some 37,none,(.extract (.tmp 31) 1)⟩,⟨some 10,none,(.mov (.tmp 36))⟩,⟨some 11,none,(.mov (.tmp 37))⟩]) (.seq (.region [⟨some 38,none,(.mov (.tmp 10))⟩,⟨some 39,none,(.mov (.tmp 11))⟩,⟨some 6,none,(.mov (.tmp 38))⟩,⟨some 7,none,(.mov (.tmp 39))⟩,⟨some 8,none,(.mov (.const (.int .i64 0)))⟩]) .ret))))))
set_option maxRecDepth 100000 in
theorem tab33:tb.code 33=some ⟨40,[(6,none),(7,none),(8,none)],body33⟩:=by kernel_rfl
theorem zIF (h:AHeap) (vt vf:Value) (T:List LType) (F:List LFn) (f r:Int) (E:En h vt vf T F):
  WC Tryz.prog tb 33 [.agg #[vt,vf],I f,I r] h fun q h'=>q= .tuple #[I (zd T F f r).1,I (zd T F f r).2.1,I (zd T F f r).2.2]∧Ext h h':=by
 refine WC.of (zG 33) tab33 ?_;simp only[zN,Nat.zero_add,Nat.reduceAdd]
 refine go ?_
 refine WO.bx ?_
 intro p h1 e1 o1
 have E1:=E.ext e1
 refine go ?_
 refine WO.con (zCh h1 vt vf T F f E1) ?_
 rintro _ h2 ⟨rfl,e2⟩
 have o1:=o1.ext e2
 have e02:=e1.trans e2
 have E2:=E1.ext e2
 by_cases ha:(zY T F f).2=0
 case neg=>
  have ha':(zY T F f).2≠0:=ha
  have hp:zd T F f r=(0,0,(zY T F f).2):=by unfold zd;rw[if_pos ha]
  rw[hp]
  refine go ?_
  refine rt ?_
  exact⟨rfl,e02⟩
 have hin:=Z3 ha
 have hpl:=zFP (r:=r) ha
 have hsig:=zGC ha
 have hf:0≤f∧f<(F.length:Int):=⟨hin.1,hin.2.1⟩
 rw[hpl,ha]
 clear hpl hin
 by_cases c1:r<0
 ·rw[if_pos (.inl c1)]
  refine go ?_
  refine rt ?_
  exact⟨rfl,e02⟩
 refine go ?_
 refine WO.con (zDN h2 vt vf T F f E2 hf hsig) ?_
 rintro _ h3 ⟨rfl,e3⟩
 have o1:=o1.ext e3
 have e03:=e02.trans e3
 have E3:=E2.ext e3
 by_cases c2:((T.getD (F.getD f.toNat default).sig.toNat default).parts.length:Int)+zW (F.getD f.toNat default).blocks≤r
 ·rw[if_pos (.inr c2)]
  refine go ?_
  refine rt ?_
  exact⟨rfl,e03⟩
 rw[if_neg (by omega)]
 refine go ?_
 refine WO.con (zFJ h3 vt vf T F f r E3 hf hsig) ?_
 rintro _ h4 ⟨rfl,e4⟩
 refine go ?_
 refine rt ?_
 exact⟨rfl,e03.trans e4⟩
noncomputable def body34:ACode:=(.seq (.region [⟨some 5,none,(.box (.tmp 0))⟩,⟨some 10,none,(.mov (.const (.bool false)))⟩]) (.seq (.region [⟨some 14,none,(.load true 2 (.tmp 5))⟩,⟨some 15,none,(.mov (.tmp 1))⟩,⟨some 16,none,(.mov (.tmp 2))⟩,⟨some 17,none,(.call (.func 49) [(.tmp 14),(.tmp 15),(.tmp 16)])⟩,⟨some 13,none,(.mov (.tmp 17))⟩,⟨some 18,none,(.extract (.tmp 13) 0)⟩,⟨some 19,none,(.extract (.tmp 13) 1)⟩,⟨some 11,none,(.mov (.tmp 18))⟩,⟨some 12,none,(.mov (.tmp 19))⟩]) (.seq (.seq (.region [⟨some 20,none,(.mov (.tmp 11))⟩,⟨some 21,none,(.bin .lss (.tmp 20) (.const (.int .i64 0)))⟩]) (.cond (.tmp 21) (.seq (.region [⟨some 10,none,(.mov (.const (.bool true)))⟩]) .ret) .skip)) (.seq (.seq (.region [⟨some 22,none,(.mov (.tmp 11))⟩,⟨some 23,none,(.mov (.tmp 3))⟩,⟨some 24,none,(.bin .eql (.tmp 22) (.tmp 23))⟩]) (.cond (.tmp 24) (.seq (.region [⟨some 25,none,(.mov (.tmp 12))⟩,⟨some 26,none,(.mov (.tmp 4))⟩,⟨some 27,none,(.bin .lss (.tmp 25) (.tmp 26))⟩,⟨some 10,none,(.mov (.tmp 27))⟩]) .ret) .skip)) (.seq (.region [⟨some 28,none,(.fld 1 (.tmp 5))⟩,⟨some 29,none,(.load false 1 (.tmp 28))⟩,⟨some 30,none,(.mov (.tmp 1))⟩,⟨some 31,none,(.idx 2 (.tmp 29) (.tmp 30))⟩,⟨some 32,none,(.fld 1 (.tmp 31))⟩,⟨some 33,none,(.load false 1 (.tmp 32))⟩,⟨some 34,none,(.mov (.tmp 11))⟩,⟨some 35,none,(.mov (.tmp 3))⟩,⟨some 36,none,(.call (.func 25) [(.tmp 33),(.tmp 34),(.tmp 35)])⟩,⟨some 10,none,(.mov (.tmp 36))⟩]) .ret)))))
set_option maxRecDepth 100000 in
theorem tab34:tb.code 34=some ⟨37,[(10,none)],body34⟩:=by kernel_rfl
theorem isSet_ok (h:AHeap) (vt vf:Value) (T:List LType) (F:List LFn) (f r block at':Int) (E:En h vt vf T F) (hp:(zd T F f r).2.2=0) (ha:ZG T F f block=0):
  WC Tryz.prog tb 34 [.agg #[vt,vf],I f,I r,I block,I at'] h fun q h'=>(∃ bb,q= .bool bb∧(bb=true↔SetP T F f r block at'))∧Ext h h':=by
 obtain⟨hask,hpin⟩:=zBh hp
 have hin:=Z3 hask
 have hsig:=zGC hask
 have hF:=E.sm.funcs
 have hf:0≤f∧f<(F.length:Int):=⟨hin.1,hin.2.1⟩
 have hpl:=zFP (r:=r) hask
 have hpl2:(zd T F f r).1=(Ze ((T.getD (F.getD f.toNat default).sig.toNat default).parts.length:Int) (F.getD f.toNat default).blocks r).1∧(zd T F f r).2.1=(Ze ((T.getD (F.getD f.toNat default).sig.toNat default).parts.length:Int) (F.getD f.toNat default).blocks r).2:=by
  rw[hpl]at hp ⊢
  split at hp
  ·cases hp
  ·rename_i h1;rw[if_neg h1];exact⟨rfl,rfl⟩
 obtain⟨hz,wb⟩:=zEF ha
 have hbb:=way_in hz wb
 obtain⟨h1z,h2z,hzb,h4z⟩:=yN hz
 obtain⟨hlen,hnx⟩:=yv hz
 have hrd:=Hid.mk (zHG (a:=(zd T F f r).1) wb)
 unfold SetP
 unfold nxF at hrd ⊢
 rw[hzb]at hlen hnx hbb hrd ⊢
 rw[hpl2.1]at hpin hrd ⊢
 rw[hpl2.2]at hpin ⊢
 clear hpl hpl2 hp hzb h2z
 obtain⟨ta,tn,tk,rfl⟩:=zE E.st
 obtain⟨ga,gn,gk,rfl⟩:=zE E.sf
 refine WC.of (zG 34) tab34 ?_;simp only[zN,Nat.zero_add,Nat.reduceAdd]
 refine go ?_
 refine WO.bx ?_
 intro p h1 e1 o1
 have E1:=E.ext e1
 refine go ?_
 refine WO.con (zFJ h1 _ _ T F f r E1 hf hsig) ?_
 rintro _ h2 ⟨rfl,e2⟩
 have o1:=o1.ext e2
 have e02:=e1.trans e2
 have E2:=E1.ext e2
 have sf2:=E2.sf
 obtain⟨csF,⟨vb,rfl,sb,hlb⟩,pcF,hsF⟩:=zX (i:=f.toNat) sf2 (by omega)
 obtain⟨_,_,_,rfl⟩:=zE sb
 generalize (Ze ((T.getD (F.getD f.toNat default).sig.toNat default).parts.length:Int) (F.getD f.toNat default).blocks r).1=pb at *
 generalize (Ze ((T.getD (F.getD f.toNat default).sig.toNat default).parts.length:Int) (F.getD f.toNat default).blocks r).2=pn at *
 generalize (F.getD f.toNat default).blocks=L at *
 by_cases c1:pb= -1
 ·refine go ?_
  refine rt ?_
  exact⟨⟨_,rfl,by simp[c1]⟩,e02⟩
 have hpb:0≤pb∧pb<(L.length:Int):=by
  rcases hpin with h|h
  ·exact absurd h c1
  ·exact⟨h.1,h.2.1⟩
 by_cases c2:pb=block
 ·refine go ?_
  refine rt ?_
  refine⟨⟨_,rfl,?_⟩,e02⟩
  rw[decide_eq_true_iff]
  exact⟨fun h=> .inr (.inl ⟨c2,h⟩),fun h=>by
   rcases h with h|h|h
   ·exact absurd h c1
   ·exact h.2
   ·exact absurd c2 h.2.1⟩
 ·refine go ?_
  refine WO.con (ruled_ok h2 _ L pb block E2.hm sb hlen hpb hbb hnx) ?_
  rintro _ h3 ⟨⟨q,rfl,hq⟩,e3⟩
  refine go ?_
  refine rt ?_
  refine⟨⟨_,rfl,?_⟩,e02.trans e3⟩
  rw[hq,hrd.out]
  exact⟨fun h=> .inr (.inr ⟨c1,c2,h⟩),fun h=>by
   rcases h with h|h|h
   ·exact absurd h c1
   ·exact absurd h.1 c2
   ·exact h.2.2⟩
theorem zFb {T:List LType} {F:List LFn} {f b:Int} (h:(yp T F f).2=0):(zD T F f b).2=if b<0∨((F.getD f.toNat default).blocks.length:Int)≤b then 2 else 0:=by
 unfold zD
 rw[if_neg (fun e=>e h)]
 split<;>rfl
noncomputable def body16:ACode:=(.seq (.region [⟨some 5,none,(.box (.tmp 0))⟩,⟨some 10,none,(.mov (.const (.bool false)))⟩,⟨some 11,none,(.mov (.const (.int .i64 0)))⟩]) (.seq (.region [⟨some 16,none,(.load true 2 (.tmp 5))⟩,⟨some 17,none,(.mov (.tmp 1))⟩,⟨some 18,none,(.mov (.tmp 2))⟩,⟨some 19,none,(.call (.func 33) [(.tmp 16),(.tmp 17),(.tmp 18)])⟩,⟨some 15,none,(.mov (.tmp 19))⟩,⟨some 20,none,(.extract (.tmp 15) 0)⟩,⟨some 21,none,(.extract (.tmp 15) 1)⟩,⟨some 22,none,(.extract (.tmp 15) 2)⟩,⟨some 12,none,(.mov (.tmp 20))⟩,⟨some 13,none,(.mov (.tmp 21))⟩,⟨some 14,none,(.mov (.tmp 22))⟩]) (.seq (.seq (.region [⟨some 23,none,(.mov (.tmp 14))⟩,⟨some 24,none,(.bin .neq (.tmp 23) (.const (.int .i64 0)))⟩]) (.cond (.tmp 24) (.seq (.region [⟨some 25,none,(.mov (.tmp 14))⟩,⟨some 10,none,(.mov (.const (.bool false)))⟩,⟨some 11,none,(.mov (.tmp 25))⟩]) .ret) .skip)) (.seq (.region [⟨some 27,none,(.load true 2 (.tmp 5))⟩,⟨some 28,none,(.mov (.tmp 1))⟩,⟨some 29,none,(.mov (.tmp 3))⟩,⟨some 30,none,(.call (.func 23) [(.tmp 27),(.tmp 28),(.tmp 29)])⟩,⟨some 26,none,(.mov (.tmp 30))⟩,⟨some 31,none,(.extract (.tmp 26) 0)⟩,⟨some 32,none,(.extract (.tmp 26) 1)⟩,⟨some 14,none,(.mov (.tmp 32))⟩]) (.seq (.seq (.region [⟨some 33,none,(.mov (.tmp 14))⟩,⟨some 34,none,(.bin .eql (.tmp 33) (.const (.int .i64 0)))⟩,⟨some 35,none,(.mov (.tmp 34))⟩,⟨some 36,some (35,true),(.mov (.tmp 4))⟩,⟨some 37,some (35,true),(.bin .lss (.tmp 36) (.const (.int .i64 0)))⟩,⟨some 38,some (35,true),(.mov (.tmp 37))⟩,⟨some 39,some (38,false),(.mov (.tmp 4))⟩,⟨some 40,some (38,false),(.fld 1 (.tmp 5))⟩,⟨some 41,some (38,false),(.load false 1 (.tmp 40))⟩,⟨some 42,some (38,false),(.mov (.tmp 1))⟩,⟨some 43,some (38,false),(.idx 2 (.tmp 41) (.tmp 42))⟩,⟨some 44,some (38,false),(.fld 1 (.tmp 43))⟩,⟨some 45,some (38,false),(.load false 1 (.tmp 44))⟩,⟨some 46,some (38,false),(.mov (.tmp 3))⟩,⟨some 47,some (38,false),(.idx 5 (.tmp 45) (.tmp 46))⟩,⟨some 48,some (38,false),(.fld 0 (.tmp 47))⟩,⟨some 49,some (38,false),(.load false 1 (.tmp 48))⟩,⟨some 50,some (38,false),(.len (.tmp 49))⟩,⟨some 51,some (38,false),(.bin .gtr (.tmp 39) (.tmp 50))⟩,⟨some 52,some (35,true),(.pick (.tmp 38) (.const (.bool true)) (.tmp 51))⟩,⟨some 53,none,(.pick (.tmp 35) (.tmp 52) (.const (.bool false)))⟩]) (.cond (.tmp 53) (.region [⟨some 14,none,(.mov (.const (.int .i64 2)))⟩]) .skip)) (.seq (.seq (.region [⟨some 54,none,(.mov (.tmp 14))⟩,⟨some 55,none,(.bin .eql (.tmp 54) (.const (.int .i64 0)))⟩]) (.cond (.tmp 55) (.region [⟨some 56,none,(.load true 2 (.tmp 5))⟩,⟨some 57,none,(.mov (.tmp 1))⟩,⟨some 58,none,(.mov (.tmp 3))⟩,⟨some 59,none,(.call (.func 24) [(.tmp 56),(.tmp 57),(.tmp 58)])⟩,⟨some 14,none,(.mov (.tmp 59))⟩]) .skip)) (.seq (.seq (.region [⟨some 60,none,(.mov (.tmp 14))⟩,⟨some 61,none,(.bin .neq (.tmp 60) (.const (.int .i64 0)))⟩]) (.cond (.tmp 61) (.seq (.region [⟨some 62,none,(.mov (.tmp 14))⟩,⟨some 10,none,(.mov (.const (.bool false)))⟩,⟨some 11,none,(.mov (.tmp 62))⟩]) .ret) .skip)) (.seq (.region [⟨some 63,none,(.load true 2 (.tmp 5))⟩,⟨some 64,none,(.mov (.tmp 1))⟩,⟨some 65,none,(.mov (.tmp 2))⟩,⟨some 66,none,(.mov (.tmp 3))⟩,⟨some 67,none,(.mov (.tmp 4))⟩,⟨some 68,none,(.call (.func 34) [(.tmp 63),(.tmp 64),(.tmp 65),(.tmp 66),(.tmp 67)])⟩,⟨some 10,none,(.mov (.tmp 68))⟩,⟨some 11,none,(.mov (.const (.int .i64 0)))⟩]) .ret))))))))
set_option maxRecDepth 100000 in
theorem tab16:tb.code 16=some ⟨69,[(10,none),(11,none)],body16⟩:=by kernel_rfl
theorem zHz (h:AHeap) (vt vf:Value) (T:List LType) (F:List LFn) (f r block at':Int) (E:En h vt vf T F):
  WC Tryz.prog tb 16 [.agg #[vt,vf],I f,I r,I block,I at'] h fun q h'=>(∃ bb,q= .tuple #[.bool bb,I (zAb T F f r block at')]∧(zAb T F f r block at'≠0→bb=false)∧(zAb T F f r block at'=0→(bb=true↔SetP T F f r block at')))∧Ext h h':=by
 have hF:=E.sm.funcs
 refine WC.of (zG 16) tab16 ?_;simp only[zN,Nat.zero_add,Nat.reduceAdd]
 refine go ?_
 refine WO.bx ?_
 intro p h1 e1 o1
 have E1:=E.ext e1
 refine go ?_
 refine WO.con (zIF h1 vt vf T F f r E1) ?_
 rintro _ h2 ⟨rfl,e2⟩
 have o1:=o1.ext e2
 have e02:=e1.trans e2
 have E2:=E1.ext e2
 by_cases hp:(zd T F f r).2.2=0
 case neg=>
  have hp':(zd T F f r).2.2≠0:=hp
  have hs:zAb T F f r block at'=(zd T F f r).2.2:=by unfold zAb;rw[if_pos hp]
  rw[hs]
  refine go ?_
  refine rt ?_
  exact⟨⟨false,rfl,fun _=>rfl,fun h=>absurd h hp⟩,e02⟩
 obtain⟨hask,_⟩:=zBh hp
 have hin:=Z3 hask
 have hregs:(yp T F f).2=0:=by rw[zGk hask]
 have hbe:=zFb (b:=block) hregs
 have hs:zAb T F f r block at'=if block<0∨((F.getD f.toNat default).blocks.length:Int)≤block∨at'<0∨(((F.getD f.toNat default).blocks.getD block.toNat default).ins.length:Int)<at' then 2 else ZG T F f block:=by unfold zAb;rw[if_neg (fun e=>e hp)]
 rw[hs,hp]
 refine go ?_
 refine WO.con (zDn h2 vt vf T F f block E2) ?_
 rintro _ h3 ⟨⟨v,rfl,sv⟩,e3⟩
 have o1:=o1.ext e3
 have e03:=e02.trans e3
 have E3:=E2.ext e3
 have sf3:=E3.sf
 rw[zCw]
 by_cases c0:block<0∨((F.getD f.toNat default).blocks.length:Int)≤block
 ·rw[hbe,if_pos c0,if_pos (by omega)]
  refine go ?_
  refine rt ?_
  exact⟨⟨false,rfl,fun _=>rfl,fun h=>by cases h⟩,e03⟩
 rw[hbe,if_neg c0]
 have hbk:block.toNat<(F.getD f.toNat default).blocks.length:=by omega
 obtain⟨csF,⟨vb,rfl,sb,hlb⟩,pcF,hsF⟩:=zX (i:=f.toNat) sf3 (by omega)
 obtain⟨csB,⟨vi,rfl,si,hli⟩,pcB,hsB⟩:=zX (i:=block.toNat) sb hbk
 obtain⟨_,_,_,rfl⟩:=zE si
 obtain⟨_,_,_,rfl⟩:=zE sb
 obtain⟨ta,tn,tk,rfl⟩:=zE E.st
 obtain⟨ga,gn,gk,rfl⟩:=zE sf3
 by_cases c3:at'<0
 ·rw[if_pos (.inr (.inr (.inl c3)))]
  refine go ?_
  refine rt ?_
  exact⟨⟨false,rfl,fun _=>rfl,fun h=>by cases h⟩,e03⟩
 by_cases c4:(((F.getD f.toNat default).blocks.getD block.toNat default).ins.length:Int)<at'
 ·rw[if_pos (.inr (.inr (.inr c4)))]
  refine go ?_
  refine rt ?_
  exact⟨⟨false,rfl,fun _=>rfl,fun h=>by cases h⟩,e03⟩
 rw[if_neg (by omega)]
 refine go ?_
 refine WO.con (zFH h3 _ _ T F f block E3) ?_
 rintro _ h4 ⟨rfl,e4⟩
 have o1:=o1.ext e4
 have e04:=e03.trans e4
 have E4:=E3.ext e4
 by_cases ha:ZG T F f block=0
 case neg=>
  have ha':ZG T F f block≠0:=ha
  refine go ?_
  refine rt ?_
  exact⟨⟨false,rfl,fun _=>rfl,fun h=>absurd h ha⟩,e04⟩
 rw[ha]
 refine go ?_
 refine WO.con (isSet_ok h4 _ _ T F f r block at' E4 hp ha) ?_
 rintro _ h5 ⟨⟨bb,rfl,hbb⟩,e5⟩
 refine go ?_
 refine rt ?_
 exact⟨⟨_,rfl,fun h=>absurd rfl h,fun _=>hbb⟩,e04.trans e5⟩
end Go.Proofs.YtdcgdfbblnljjaaGreatDoor
namespace Go.Proofs.YtdcgdfbblnljjaaGreatDoor
open Go.Am
set_option linter.unusedVariables false
set_option linter.unusedSimpArgs false
set_option maxHeartbeats 1000000
noncomputable def body4:ACode:=(.seq (.region [⟨some 3,none,(.box (.tmp 0))⟩,⟨some 5,none,(.box (.tmp 2))⟩,⟨some 6,none,(.mov (.const (.bool false)))⟩]) (.seq (.seq (.region [⟨some 12,none,(.load true 2 (.tmp 3))⟩,⟨some 13,none,(.call (.func 5) [(.tmp 12),(.const (.int .i64 300))])⟩]) (.cond (.tmp 13) (.seq (.region [⟨some 6,none,(.mov (.const (.bool true)))⟩]) .ret) .skip)) (.seq (.region [⟨some 14,none,(.load true 2 (.tmp 3))⟩,⟨some 15,none,(.call (.func 6) [(.tmp 14)])⟩,⟨some 7,none,(.alloc [(.slice none 0 0),(.slice none 0 0)])⟩,⟨none,none,(.store 2 (.tmp 7) (.tmp 15))⟩]) (.seq (.region [⟨some 17,none,(.load true 2 (.tmp 7))⟩,⟨some 18,none,(.mov (.tmp 1))⟩,⟨some 19,none,(.fld 0 (.tmp 5))⟩,⟨some 20,none,(.load false 1 (.tmp 19))⟩,⟨some 21,none,(.fld 1 (.tmp 5))⟩,⟨some 22,none,(.load false 1 (.tmp 21))⟩,⟨some 23,none,(.fld 2 (.tmp 5))⟩,⟨some 24,none,(.load false 1 (.tmp 23))⟩,⟨some 25,none,(.call (.func 15) [(.tmp 17),(.tmp 18),(.tmp 20),(.tmp 22),(.tmp 24)])⟩,⟨some 16,none,(.mov (.tmp 25))⟩,⟨some 26,none,(.extract (.tmp 16) 0)⟩,⟨some 27,none,(.extract (.tmp 16) 1)⟩,⟨some 8,none,(.mov (.tmp 26))⟩,⟨some 9,none,(.mov (.tmp 27))⟩]) (.seq (.region [⟨some 29,none,(.load true 2 (.tmp 3))⟩,⟨some 30,none,(.mov (.tmp 1))⟩,⟨some 31,none,(.fld 0 (.tmp 5))⟩,⟨some 32,none,(.load false 1 (.tmp 31))⟩,⟨some 33,none,(.fld 1 (.tmp 5))⟩,⟨some 34,none,(.load false 1 (.tmp 33))⟩,⟨some 35,none,(.fld 2 (.tmp 5))⟩,⟨some 36,none,(.load false 1 (.tmp 35))⟩,⟨some 37,none,(.call (.func 16) [(.tmp 29),(.tmp 30),(.tmp 32),(.tmp 34),(.tmp 36)])⟩,⟨some 28,none,(.mov (.tmp 37))⟩,⟨some 38,none,(.extract (.tmp 28) 0)⟩,⟨some 39,none,(.extract (.tmp 28) 1)⟩,⟨some 10,none,(.mov (.tmp 38))⟩,⟨some 11,none,(.mov (.tmp 39))⟩]) (.seq (.region [⟨some 40,none,(.mov (.tmp 8))⟩,⟨some 41,none,(.mov (.tmp 10))⟩,⟨some 42,none,(.binB false (.tmp 40) (.tmp 41))⟩,⟨some 43,none,(.mov (.tmp 42))⟩,⟨some 44,some (43,true),(.mov (.tmp 9))⟩,⟨some 45,some (43,true),(.mov (.tmp 11))⟩,⟨some 46,some (43,true),(.bin .eql (.tmp 44) (.tmp 45))⟩,⟨some 47,none,(.pick (.tmp 43) (.tmp 46) (.const (.bool false)))⟩,⟨some 48,none,(.mov (.tmp 47))⟩,⟨some 49,some (48,true),(.load true 2 (.tmp 7))⟩,⟨some 50,some (48,true),(.load true 2 (.tmp 3))⟩,⟨some 51,some (48,true),(.call (.func 14) [(.tmp 49),(.tmp 50)])⟩,⟨some 52,none,(.pick (.tmp 48) (.tmp 51) (.const (.bool false)))⟩,⟨some 6,none,(.mov (.tmp 52))⟩]) .ret))))))
set_option maxRecDepth 100000 in
theorem tab4:tb.code 4=some ⟨53,[(6,none)],body4⟩:=by kernel_rfl
theorem zF4 (h:AHeap) (vt vf:Value) (T:List LType) (F:List LFn) (f a b c:Int) (tt:Tbl h) (hm:h.mark≤h.n) (st:SlT h vt T) (sf:SlF h vf F) (hT:(T.length:Int)≤1152921504606846976) (hF:(F.length:Int)≤1152921504606846976):
  WC Tryz.prog tb 4 [.agg #[vt,vf],I f,.agg #[I a,I b,I c]] h fun r h'=>r= .bool true:=by
 refine WC.of (zG 4) tab4 ?_;simp only[zN,Nat.zero_add,Nat.reduceAdd]
 refine go ?_
 refine WO.bx ?_
 intro p h0 e0 o0
 refine go ?_
 refine WO.bx ?_
 intro p5 h1 e1 o5
 have o5:OwnC h0 h1 p5 [I a,I b,I c]:=o5
 have o1:=o0.ext e1
 have e01:=e0.trans e1
 refine go ?_
 refine WO.con (zHW h1 vt vf T F 300 (by omega) (st.ext e01) (SlF.ext sf e01) (by omega) (by omega)) ?_
 rintro r h2 ⟨hr,e2⟩
 have o1:=o1.ext e2
 have o5:=o5.ext e2
 rcases hr with rfl|⟨rfl,sm,si⟩
 ·refine go ?_
  refine rt ?_
  rfl
 have E:En h2 vt vf T F:=⟨(tt.ext e01).ext e2,zh e2 (zh e01 hm),sm,si,(st.ext e01).ext e2,SlF.ext (SlF.ext sf e01) e2⟩
 clear st sf tt hm e1 e2 e0 e01 o0
 refine go ?_
 refine WO.con (rTwin_ok h2 vt vf T F sm si E.hm E.st E.sf) ?_
 rintro _ h3 ⟨⟨wt,wf,rfl,swt,swf⟩,e3⟩
 have o1:=o1.ext e3
 have o5:=o5.ext e3
 have E:=E.ext e3
 obtain⟨wa,wn,wk,rfl⟩:=zE swt
 obtain⟨xa,xn,xk,rfl⟩:=zE swf
 refine go ?_
 refine WO.al ?_
 intro q h4 e4 o4
 refine WO.stC0 o4 e4 ?_
 intro h5 e5 o6 _
 have o1:=o1.ext e5
 have o5:=o5.ext e5
 have E:=E.ext e5
 have W:En h5 _ _ T F:=⟨E.tt,E.hm,sm,si,swt.ext e5,SlF.ext swf e5⟩
 clear e3 e4 e5 o4 swt swf
 refine go ?_
 refine WO.con (dSet_ok h5 _ _ T F f a b c W.env) ?_
 rintro _ h6 ⟨⟨b1,rfl,hb1,hb1'⟩,e6⟩
 have o1:=o1.ext e6
 have o5:=o5.ext e6
 have o6:=o6.ext e6
 have E:=E.ext e6
 have W:=W.ext e6
 refine go ?_
 refine WO.con (zHz h6 vt vf T F f a b c E) ?_
 rintro _ h7 ⟨⟨b2,rfl,hb2,hb2'⟩,e7⟩
 have hbb:b1=b2:=by
  by_cases hr:zAb T F f a b c=0
  ·rw[Bool.eq_iff_iff,hb1' hr,hb2' hr]
  ·rw[hb1 hr,hb2 hr]
 subst hbb
 clear hb1 hb1' hb2 hb2'
 have o1:=o1.ext e7
 have o6:=o6.ext e7
 have E:=E.ext e7
 have W:=W.ext e7
 have hbt:(b1 == b1)=true:=by simp
 clear e6 e7
 refine go ?_
 refine WO.con (rSame_ok h7 _ _ _ _ T F sm si E.hm W.st W.sf E.st E.sf) ?_
 rintro _ h12 ⟨rfl,e12⟩
 refine go ?_
 refine rt ?_
 rfl
end Go.Proofs.YtdcgdfbblnljjaaGreatDoor
