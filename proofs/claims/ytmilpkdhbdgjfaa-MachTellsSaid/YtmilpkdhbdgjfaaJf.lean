/- What functions of the program come to in the abstract machine, and plain laws about it; no statement of the seat is proved in this text. -/
import Derived.Test.YtmilpkdhbdgjfaaJe
import Derived.Test.YtmilpkdhbdgjfaaJb
import Derived.Test.YtmilpkdhbdgjfaaAmD
import Derived.Test.YtmilpkdhbdgjfaaAmR
namespace Go.Proofs.Ytmilpkdhbdgjfaa
open Go.Am
set_option linter.unusedVariables false
set_option linter.unusedSimpArgs false
set_option maxHeartbeats 4000000
theorem tb_ok:tb.Ok Try.prog where
 code:=fun _ _ h=>h
 stub:=fun f s hs=>by cases hs
 grow:=fun f s hs args h v h' hk=>by cases hs
theorem RMm.get {h h' cs x} (r:RMm h cs x) (hg:∀ g,g<h.n→h'.get g=h.get g) (hn:h.n≤h'.n):RMm h' cs x:=by
 obtain⟨vm,vf,vi,ve,a,m,f,i,v,q⟩:=r
 exact⟨vm,vf,vi,ve,a,slmb_get m hg hn,slr_get f (fun _ _ ⟨v,a,b,c⟩=>⟨v,a,slv_get b hg hn,c⟩) hg hn,slc_get i hg hn,sle_get v hg hn,q⟩
theorem RMm.one {h cs x} (r:RMm h cs x):oneCells cs=true:=by
 obtain⟨vm,vf,vi,ve,rfl,m,f,i,v,q⟩:=r
 obtain⟨_,_,_,rfl⟩:=slr_shapeM m
 obtain⟨_,_,_,rfl⟩:=slr_shapeM f
 obtain⟨_,_,_,rfl⟩:=SlC.shape i
 obtain⟨_,_,_,rfl⟩:=slr_shapeM v
 rfl
theorem oc_in {hB h:AHeap} {p:Value} {cs:List Value} (o:OwnC hB h p cs):OwnC hB (inC h) p cs:=o
theorem OwnMach.ext {b:Nat} {h h':AHeap} {cs:List Value} {a:MMach} (o:OwnMach b h cs a) (e:Ext h h'):OwnMach b h' cs a:=by
 obtain⟨vm,vf,vi,ve,xs,b1,b2,w1,w2,w3,w4,w5,w6,w7,w8,⟨hb,w9,w10⟩,w11⟩:=o
 exact⟨vm,vf,vi,ve,xs,b1,b2,w1,w2.ext e,w3,w4,w5,Nat.le_trans w6 e.n,w7,fun i hi=>(w8 i hi).ext e,⟨hb,w9,w10.ext e⟩,w11⟩
theorem uK2_own0 {P:Program} {tab:Tab} {t:Trie Value} {m N0 n g:Nat} {un:List Nat} {d:Option Nat} {agg:Bool} {x:Operand} {p:Value} {cs:List Value} {h h0 hs:AHeap} {l:List (AOper×List Nat)} {fr:AFr} {Q:AFr→AHeap→Prop} (o:OwnC h0 hs p cs) (hN:hs.n≤N0) (hx:WU2 P tab m N0 l g true fr (inC h) Q)
  (hr:Ope t x p:=by exact opeA):uK2 P tab m N0 un t ⟨d,none,.load agg n x⟩ (inC h) l g true Q fr (inC h):=uK2_own (j:=0) o hN hx (by rw[←o.at0];exact hr)
noncomputable def body3:ACode:=(.seq (.region [⟨some 2,none,(.box (.tmp 0))⟩,⟨some 3,none,(.box (.tmp 1))⟩,⟨some 4,none,(.mov (.const (.bool false)))⟩]) (.seq (.seq (.region [⟨some 8,none,(.load true 10 (.tmp 2))⟩,⟨some 9,none,(.call (.func 4) [(.tmp 8)])⟩,⟨some 10,none,(.mov (.tmp 9))⟩,⟨some 11,some (10,false),(.load true 10 (.tmp 3))⟩,⟨some 12,some (10,false),(.call (.func 4) [(.tmp 11)])⟩,⟨some 13,none,(.pick (.tmp 10) (.const (.bool true)) (.tmp 12))⟩]) (.cond (.tmp 13) (.seq (.region [⟨some 4,none,(.mov (.const (.bool true)))⟩]) .ret) .skip)) (.seq (.region [⟨some 14,none,(.load true 10 (.tmp 2))⟩,⟨some 15,none,(.call (.func 5) [(.tmp 14)])⟩,⟨some 5,none,(.alloc [(.slice none 0 0),(.slice none 0 0),(.slice none 0 0),(.int .i64 0),(.slice none 0 0),(.int .i64 0),(.int .i64 0),(.int .u8 0),(.int .i64 0),(.int .i64 0)])⟩,⟨none,none,(.store 10 (.tmp 5) (.tmp 15))⟩]) (.seq (.region [⟨some 16,none,(.load true 10 (.tmp 5))⟩,⟨some 17,none,(.call (.func 6) [(.tmp 16)])⟩,⟨some 6,none,(.alloc [(.slice none 0 0),(.slice none 0 0),(.slice none 0 0),(.int .i64 0),(.slice none 0 0),(.int .i64 0),(.int .i64 0),(.int .u8 0),(.int .i64 0),(.int .i64 0)])⟩,⟨none,none,(.store 10 (.tmp 6) (.tmp 17))⟩]) (.seq (.regionC [(⟨some 18,none,(.load true 10 (.tmp 5))⟩,[]),(⟨some 19,none,(.load true 10 (.tmp 3))⟩,[]),(⟨some 20,none,(.call (.func 7) [(.tmp 18),(.tmp 19)])⟩,[]),(⟨some 21,none,(.load true 10 (.tmp 2))⟩,[2]),(⟨some 22,none,(.load true 10 (.tmp 3))⟩,[2]),(⟨some 23,none,(.call (.func 8) [(.tmp 21),(.tmp 22)])⟩,[]),(⟨some 24,none,(.binB false (.tmp 20) (.tmp 23))⟩,[]),(⟨some 25,none,(.mov (.tmp 24))⟩,[]),(⟨some 26,some (25,true),(.load true 10 (.tmp 5))⟩,[]),(⟨some 27,some (25,true),(.load true 10 (.tmp 2))⟩,[]),(⟨some 28,some (25,true),(.call (.func 7) [(.tmp 26),(.tmp 27)])⟩,[]),(⟨some 29,none,(.pick (.tmp 25) (.tmp 28) (.const (.bool false)))⟩,[]),(⟨some 30,none,(.mov (.tmp 29))⟩,[]),(⟨some 31,some (30,true),(.load true 10 (.tmp 6))⟩,[]),(⟨some 32,some (30,true),(.load true 10 (.tmp 2))⟩,[]),(⟨some 33,some (30,true),(.call (.func 8) [(.tmp 31),(.tmp 32)])⟩,[]),(⟨some 34,none,(.pick (.tmp 30) (.tmp 33) (.const (.bool false)))⟩,[]),(⟨some 7,none,(.mov (.tmp 34))⟩,[])]) (.seq (.region [⟨some 35,none,(.load true 10 (.tmp 6))⟩,⟨some 36,none,(.call (.func 9) [(.tmp 35)])⟩]) (.seq (.region [⟨some 37,none,(.mov (.tmp 7))⟩,⟨some 38,none,(.mov (.tmp 37))⟩,⟨some 39,some (38,true),(.load true 10 (.tmp 5))⟩,⟨some 40,some (38,true),(.load true 10 (.tmp 2))⟩,⟨some 41,some (38,true),(.call (.func 8) [(.tmp 39),(.tmp 40)])⟩,⟨some 42,none,(.pick (.tmp 38) (.tmp 41) (.const (.bool false)))⟩,⟨some 4,none,(.mov (.tmp 42))⟩]) .ret)))))))
set_option maxRecDepth 100000 in
theorem tab3:tb.code 3=some ⟨43,[(4,none)],body3⟩:=by kernel_rfl
theorem machTells_ok (h:AHeap) (ca cb:List Value) (a b:MMach) (hm:h.mark≤h.n) (ra:RMm h ca a) (rb:RMm h cb b):WC Try.prog tb 3 [.agg ca.toArray,.agg cb.toArray] h fun r _=>r= .bool true:=by
 have ra0:=ra
 have rb0:=rb
 obtain⟨am,af,ai,ae,rfl,_⟩:=ra0
 obtain⟨bm,bf,bi,be,rfl,_⟩:=rb0
 refine WC.of (nostub 3) tab3 ?_;simp only[mkTm,Nat.zero_add,Nat.reduceAdd]
 refine go ?_
 refine WO.bx ?_
 intro p h1 e1 o1
 replace o1:OwnC h h1 p [am,af,ai,I a.used,ae,I a.steps,I a.heaps,.int .u8 a.state,I a.trap,I a.exit]:=o1
 refine go ?_
 refine WO.bx ?_
 intro q h2 e2 o2
 replace o2:OwnC h1 h2 q [bm,bf,bi,I b.used,be,I b.steps,I b.heaps,.int .u8 b.state,I b.trap,I b.exit]:=o2
 have o1:=o1.ext e2
 have e02:=e1.trans e2
 have ra:=RMm.ext ra e02
 have rb:=RMm.ext rb e02
 refine go ?_
 refine WO.con (machGreat_ok h2 (List.take 10 (List.drop 0 [am,af,ai,I a.used,ae,I a.steps,I a.heaps,.int .u8 a.state,I a.trap,I a.exit])) a ra) ?_
 rintro r h3 ⟨hr,e3⟩
 have o1:=o1.ext e3
 have o2:=o2.ext e3
 have ra:=RMm.ext ra e3
 have rb:=RMm.ext rb e3
 have e03:=e02.trans e3
 rcases hr with rfl|⟨rfl,g1,g2,g3,g4,g5,g6⟩
 ·refine go ?_
  refine rt ?_
  rfl
 have sa:SmallM a:=⟨by omega,fun i hi=>by have:=g2 i hi;omega,by omega,fun i hi=>by have:=g4 i hi;omega,by omega,by omega⟩
 clear g1 g2 g3 g4 g5 g6
 refine go ?_
 refine WO.con (machGreat_ok h3 (List.take 10 (List.drop 0 [bm,bf,bi,I b.used,be,I b.steps,I b.heaps,.int .u8 b.state,I b.trap,I b.exit])) b rb) ?_
 rintro r h4 ⟨hr,e4⟩
 have o1:=o1.ext e4
 have o2:=o2.ext e4
 have ra:=RMm.ext ra e4
 have rb:=RMm.ext rb e4
 have e04:=e03.trans e4
 rcases hr with rfl|⟨rfl,_⟩
 ·refine go ?_
  refine rt ?_
  rfl
 refine go ?_
 refine WO.con (rMachTwin_ok h4 (List.take 10 (List.drop 0 [am,af,ai,I a.used,ae,I a.steps,I a.heaps,.int .u8 a.state,I a.trap,I a.exit])) a ra sa) ?_
 rintro _ h5 ⟨⟨co,rfl,ro⟩,e5⟩
 have o1:=o1.ext e5
 have o2:=o2.ext e5
 have ra:=RMm.ext ra e5
 have rb:=RMm.ext rb e5
 have e05:=e04.trans e5
 have ro0:=ro
 obtain⟨om,of,oi,oe,rfl,_⟩:=ro0
 refine go ?_
 refine WO.al ?_
 intro p5 h6 e6 o5
 have e06:=e05.trans e6
 refine go ?_
 refine WO.stC0 (cs:=[om,of,oi,I a.used,oe,I a.steps,I a.heaps,.int .u8 a.state,I a.trap,I a.exit]) (h1:=RMm.one ro) o5 e6 ?_
 intro h7 e7 o5 u7
 have o1:=o1.ext e7
 have o2:=o2.ext e7
 have ra:=RMm.ext ra e7
 have rb:=RMm.ext rb e7
 have ro:=RMm.ext ro e7
 have e07:=e05.trans e7
 have ra7:=ra
 have ro7:=ro
 have o17:=o1
 have o57:=o5
 have hm7:h7.mark≤h7.n:=by have:=e07.mark;have:=e07.n;omega
 refine go ?_
 refine WO.con (machTwin_ok h7 (List.take 10 (List.drop 0 [om,of,oi,I a.used,oe,I a.steps,I a.heaps,.int .u8 a.state,I a.trap,I a.exit])) a ro sa hm7) ?_
 rintro _ h8 ⟨⟨ct,rfl,rtt,ot⟩,e8⟩
 have o1:=o1.ext e8
 have o2:=o2.ext e8
 have o5:=o5.ext e8
 have ra:=RMm.ext ra e8
 have rb:=RMm.ext rb e8
 have ro8:=RMm.ext ro e8
 have e08:=e07.trans e8
 obtain⟨tm,tf,ti,te,rfl,_⟩:=id rtt
 refine go ?_
 refine WO.al ?_
 intro p6 h9 e9 o6
 refine go ?_
 refine WO.stC0 (cs:=[tm,tf,ti,I a.used,te,I a.steps,I a.heaps,.int .u8 a.state,I a.trap,I a.exit]) (h1:=RMm.one rtt) o6 e9 ?_
 intro h10 e10 o6 u10
 have o1:=o1.ext e10
 have o2:=o2.ext e10
 have o5:=o5.ext e10
 have ra:=RMm.ext ra e10
 have rb:=RMm.ext rb e10
 have ro10:=RMm.ext ro8 e10
 have rtt:=RMm.ext rtt e10
 have ot:=OwnMach.ext ot e10
 have e7a:=e8.trans e10
 have hxx:((decide (a=b)) == (decide (a=b)))=true:=by simp
 have hdd:decide (a=a)=true:=by simp
 refine go ?_
 refine WX.regionU2 0 rfl rfl ?_
 have oX1:OwnC h (inC (asideN 0 h10)) p _:=o1
 have oX2:OwnC h1 (inC (asideN 0 h10)) q _:=o2
 have oX5:OwnC h5 (inC (asideN 0 h10)) p5 _:=o5
 have oX6:OwnC h8 (inC (asideN 0 h10)) p6 _:=o6
 have rX {cs x} (r:RMm h10 cs x):RMm (inC (asideN 0 h10)) cs x:=RMm.get r (fun _ _=>rfl) (Nat.le_refl _)
 refine goU ?_
 refine WO.con (machSame_ok _ (List.take 10 (List.drop 0 [om,of,oi,I a.used,oe,I a.steps,I a.heaps,.int .u8 a.state,I a.trap,I a.exit])) (List.take 10 (List.drop 0 [bm,bf,bi,I b.used,be,I b.steps,I b.heaps,.int .u8 b.state,I b.trap,I b.exit])) a b (rX ro10) (rX rb)) ?_
 rintro _ X1 ⟨rfl,eX1⟩
 refine WO.nil ?_
 refine uK2_e eX1 reads_call ?_
 have oY1:OwnC h (inC X1) p _:=oc_in (oX1.ext eX1)
 have oY2:OwnC h1 (inC X1) q _:=oc_in (oX2.ext eX1)
 have oY5:OwnC h5 (inC X1) p5 _:=oc_in (oX5.ext eX1)
 have oY6:OwnC h8 (inC X1) p6 _:=oc_in (oX6.ext eX1)
 have rY {cs x} (r:RMm h10 cs x):RMm (inC X1) cs x:=RMm.get (RMm.ext (rX r) eX1) (fun _ _=>rfl) (Nat.le_refl _)
 clear oX1 oX2 oX5 oX6
 refine goU ?_
 refine uK2_own0 o1 (Nat.le_refl _) ?_
 refine goU ?_
 refine uK2_own0 o2 (Nat.le_refl _) ?_
 refine goU ?_
 refine WO.con (rMachSame_ok _ (List.take 10 (List.drop 0 [am,af,ai,I a.used,ae,I a.steps,I a.heaps,.int .u8 a.state,I a.trap,I a.exit])) (List.take 10 (List.drop 0 [bm,bf,bi,I b.used,be,I b.steps,I b.heaps,.int .u8 b.state,I b.trap,I b.exit])) a b (rY ra) (rY rb)) ?_
 rintro _ X2 ⟨rfl,eX2⟩
 refine WO.nil ?_
 refine uK2_e eX2 reads_call ?_
 have oZ1:OwnC h (inC X2) p _:=oc_in (oY1.ext eX2)
 have oZ5:OwnC h5 (inC X2) p5 _:=oc_in (oY5.ext eX2)
 have oZ6:OwnC h8 (inC X2) p6 _:=oc_in (oY6.ext eX2)
 have rZ {cs x} (r:RMm h10 cs x):RMm (inC X2) cs x:=RMm.get (RMm.ext (rY r) eX2) (fun _ _=>rfl) (Nat.le_refl _)
 clear oY1 oY2 oY5 oY6
 refine goU ?_
 refine WO.con (machSame_ok _ (List.take 10 (List.drop 0 [om,of,oi,I a.used,oe,I a.steps,I a.heaps,.int .u8 a.state,I a.trap,I a.exit])) (List.take 10 (List.drop 0 [am,af,ai,I a.used,ae,I a.steps,I a.heaps,.int .u8 a.state,I a.trap,I a.exit])) a a (rZ ro10) (rZ ra)) ?_
 rintro _ X3 ⟨rfl,eX3⟩
 refine WO.nil ?_
 refine uK2_e eX3 reads_call ?_
 have oW1:OwnC h (inC X3) p _:=oc_in (oZ1.ext eX3)
 have oW5:OwnC h5 (inC X3) p5 _:=oc_in (oZ5.ext eX3)
 have oW6:OwnC h8 (inC X3) p6 _:=oc_in (oZ6.ext eX3)
 have rW {cs x} (r:RMm h10 cs x):RMm (inC X3) cs x:=RMm.get (RMm.ext (rZ r) eX3) (fun _ _=>rfl) (Nat.le_refl _)
 clear oZ1 oZ5 oZ6
 refine goU ?_
 refine WO.con (rMachSame_ok _ (List.take 10 (List.drop 0 [tm,tf,ti,I a.used,te,I a.steps,I a.heaps,.int .u8 a.state,I a.trap,I a.exit])) (List.take 10 (List.drop 0 [am,af,ai,I a.used,ae,I a.steps,I a.heaps,.int .u8 a.state,I a.trap,I a.exit])) a a (rW rtt) (rW ra)) ?_
 rintro _ X4 ⟨rfl,eX4⟩
 refine WO.nil ?_
 refine uK2_e eX4 reads_call ?_
 have hgX:∀ g,g<h10.n→X4.get g=h10.get g:=fun g hg=>by
  have n1:h10.n≤X1.n:=eX1.n
  have n2:X1.n≤X2.n:=eX2.n
  have n3:X2.n≤X3.n:=eX3.n
  exact(eX4.get g (by show g<X3.n;omega)).trans ((eX3.get g (by show g<X2.n;omega)).trans ((eX2.get g (by show g<X1.n;omega)).trans (eX1.get g hg)))
 have eF:Ext h10 (outC h10 (inC X4)):=⟨Nat.le_trans eX1.n (Nat.le_trans eX2.n (Nat.le_trans eX3.n eX4.n)),hgX,fun w=>eX4.wf (eX3.wf (eX2.wf (eX1.wf w))),rfl,fun _=>rfl⟩
 clear oW1 oW5 oW6
 have ot:=OwnMach.ext ot eF
 have ra:=RMm.ext ra eF
 have ro:=RMm.ext ro10 eF
 have o1:=o1.ext eF
 have o5:=o5.ext eF
 have o6:=o6.ext eF
 have e7F:=e7a.trans eF
 refine goU ?_
 generalize outC h10 (inC X4)=hF at *
 refine WO.con (spoil_ok h7 hF (List.take 10 (List.drop 0 [tm,tf,ti,I a.used,te,I a.steps,I a.heaps,.int .u8 a.state,I a.trap,I a.exit])) a h7.n ot sa e7F (Nat.le_refl _)) ?_
 intro v hG eG
 clear ra ro o1 o5 o6 ot e7F eF
 have o1:=o17.ext eG
 have o5:=o57.ext eG
 refine go ?_
 refine WO.con (rMachSame_ok _ (List.take 10 (List.drop 0 [om,of,oi,I a.used,oe,I a.steps,I a.heaps,.int .u8 a.state,I a.trap,I a.exit])) (List.take 10 (List.drop 0 [am,af,ai,I a.used,ae,I a.steps,I a.heaps,.int .u8 a.state,I a.trap,I a.exit])) a a (RMm.ext ro7 eG) (RMm.ext ra7 eG)) ?_
 rintro _ hH ⟨rfl,eH⟩
 refine go ?_
 refine rt ?_
 rw[hdd];rfl
end Go.Proofs.Ytmilpkdhbdgjfaa
namespace Go.Proofs.Ytmilpkdhbdgjfaa
open Go.Am
set_option linter.unusedVariables false
set_option linter.unusedSimpArgs false
section
variable {H:Type} {h:AHeap}
theorem rd_boolM {P:Program} {t:TypeId} {acs:List Value} {d:DataW H} (r:Rd P h t acs d) (ht:P.underlying t=some .bool):∃ b,acs=[.bool b]:=by
 cases r<;>first|exact⟨_,rfl⟩|(rename_i ht';rw[ht]at ht';cases ht')|(rename_i ht' _;rw[ht]at ht';cases ht')|(rename_i ht' _ _;rw[ht]at ht';cases ht')|(rename_i ht' _ _ _;rw[ht]at ht';cases ht')
theorem rd_val (cs:List Value) (d:DataW H) (r:Rd Try.prog h 45 cs d):∃ a,RVal h cs a:=by
 obtain⟨parts,rfl,hl,hp,hr⟩:=rd_struct r Try.underlying45
 have hc:Try.prog.cellsOf 45=4:=by kernel_rfl
 rw[hc]at hl
 obtain⟨x0,x1,x2,x3,rfl⟩:∃ x0 x1 x2 x3,cs=[x0,x1,x2,x3]:=by
  match cs,hl with
  |[x0,x1,x2,x3],_=>exact⟨x0,x1,x2,x3,rfl⟩
 obtain⟨d0,r0⟩:=hr 0 _ rfl
 have c0:Try.prog.cellsOf 5=1:=by kernel_rfl
 replace r0:Rd Try.prog h 5 (([x0,x1,x2,x3].drop 0).take (Try.prog.cellsOf 5)) d0:=r0
 rw[c0]at r0
 replace r0:Rd Try.prog h 5 [x0] d0:=r0
 obtain⟨d1,r1⟩:=hr 1 _ rfl
 have c1:Try.prog.cellsOf 2=1:=by kernel_rfl
 replace r1:Rd Try.prog h 2 (([x0,x1,x2,x3].drop 1).take (Try.prog.cellsOf 2)) d1:=r1
 rw[c1]at r1
 replace r1:Rd Try.prog h 2 [x1] d1:=r1
 obtain⟨d2,r2⟩:=hr 2 _ rfl
 have c2:Try.prog.cellsOf 3=1:=by kernel_rfl
 replace r2:Rd Try.prog h 3 (([x0,x1,x2,x3].drop 2).take (Try.prog.cellsOf 3)) d2:=r2
 rw[c2]at r2
 replace r2:Rd Try.prog h 3 [x2] d2:=r2
 obtain⟨d3,r3⟩:=hr 3 _ rfl
 have c3:Try.prog.cellsOf 3=1:=by kernel_rfl
 replace r3:Rd Try.prog h 3 (([x0,x1,x2,x3].drop 3).take (Try.prog.cellsOf 3)) d3:=r3
 rw[c3]at r3
 replace r3:Rd Try.prog h 3 [x3] d3:=r3
 obtain⟨k,e0,f0⟩:=rd_int r0 Try.underlying5
 cases e0
 obtain⟨n,e1,f1⟩:=rd_int r1 Try.underlying2
 cases e1
 obtain⟨b,e2,f2⟩:=rd_int r2 Try.underlying3
 cases e2
 obtain⟨p,e3,f3⟩:=rd_int r3 Try.underlying3
 cases e3
 exact⟨⟨k,n,b,p⟩,rfl⟩
theorem rd_event (cs:List Value) (d:DataW H) (r:Rd Try.prog h 42 cs d):∃ a,REv h cs a:=by
 obtain⟨parts,rfl,hl,hp,hr⟩:=rd_struct r Try.underlying42
 have hc:Try.prog.cellsOf 42=2:=by kernel_rfl
 rw[hc]at hl
 obtain⟨x0,x1,rfl⟩:∃ x0 x1,cs=[x0,x1]:=by
  match cs,hl with
  |[x0,x1],_=>exact⟨x0,x1,rfl⟩
 obtain⟨d0,r0⟩:=hr 0 _ rfl
 have c0:Try.prog.cellsOf 5=1:=by kernel_rfl
 replace r0:Rd Try.prog h 5 (([x0,x1].drop 0).take (Try.prog.cellsOf 5)) d0:=r0
 rw[c0]at r0
 replace r0:Rd Try.prog h 5 [x0] d0:=r0
 obtain⟨d1,r1⟩:=hr 1 _ rfl
 have c1:Try.prog.cellsOf 2=1:=by kernel_rfl
 replace r1:Rd Try.prog h 2 (([x0,x1].drop 1).take (Try.prog.cellsOf 2)) d1:=r1
 rw[c1]at r1
 replace r1:Rd Try.prog h 2 [x1] d1:=r1
 obtain⟨k,e0,f0⟩:=rd_int r0 Try.underlying5
 cases e0
 obtain⟨n,e1,f1⟩:=rd_int r1 Try.underlying2
 cases e1
 exact⟨⟨k,n⟩,rfl⟩
theorem rd_blk (cs:List Value) (d:DataW H) (r:Rd Try.prog h 54 cs d):∃ a,RMb h cs a:=by
 obtain⟨parts,rfl,hl,hp,hr⟩:=rd_struct r Try.underlying54
 have hc:Try.prog.cellsOf 54=5:=by kernel_rfl
 rw[hc]at hl
 obtain⟨x0,x1,x2,x3,x4,rfl⟩:∃ x0 x1 x2 x3 x4,cs=[x0,x1,x2,x3,x4]:=by
  match cs,hl with
  |[x0,x1,x2,x3,x4],_=>exact⟨x0,x1,x2,x3,x4,rfl⟩
 obtain⟨d0,r0⟩:=hr 0 _ rfl
 have c0:Try.prog.cellsOf 3=1:=by kernel_rfl
 replace r0:Rd Try.prog h 3 (([x0,x1,x2,x3,x4].drop 0).take (Try.prog.cellsOf 3)) d0:=r0
 rw[c0]at r0
 replace r0:Rd Try.prog h 3 [x0] d0:=r0
 obtain⟨d1,r1⟩:=hr 1 _ rfl
 have c1:Try.prog.cellsOf 3=1:=by kernel_rfl
 replace r1:Rd Try.prog h 3 (([x0,x1,x2,x3,x4].drop 1).take (Try.prog.cellsOf 3)) d1:=r1
 rw[c1]at r1
 replace r1:Rd Try.prog h 3 [x1] d1:=r1
 obtain⟨d2,r2⟩:=hr 2 _ rfl
 have c2:Try.prog.cellsOf 3=1:=by kernel_rfl
 replace r2:Rd Try.prog h 3 (([x0,x1,x2,x3,x4].drop 2).take (Try.prog.cellsOf 3)) d2:=r2
 rw[c2]at r2
 replace r2:Rd Try.prog h 3 [x2] d2:=r2
 obtain⟨d3,r3⟩:=hr 3 _ rfl
 have c3:Try.prog.cellsOf 4=1:=by kernel_rfl
 replace r3:Rd Try.prog h 4 (([x0,x1,x2,x3,x4].drop 3).take (Try.prog.cellsOf 4)) d3:=r3
 rw[c3]at r3
 replace r3:Rd Try.prog h 4 [x3] d3:=r3
 obtain⟨d4,r4⟩:=hr 4 _ rfl
 have c4:Try.prog.cellsOf 33=1:=by kernel_rfl
 replace r4:Rd Try.prog h 33 (([x0,x1,x2,x3,x4].drop 4).take (Try.prog.cellsOf 33)) d4:=r4
 rw[c4]at r4
 replace r4:Rd Try.prog h 33 [x4] d4:=r4
 obtain⟨s,e0,f0⟩:=rd_int r0 Try.underlying3
 cases e0
 obtain⟨t,e1,f1⟩:=rd_int r1 Try.underlying3
 cases e1
 obtain⟨q,e2,f2⟩:=rd_int r2 Try.underlying3
 cases e2
 obtain⟨v,e3⟩:=rd_boolM r3 Try.underlying4
 cases e3
 obtain⟨vc,lc,e4,s4,b4⟩:=rd_recs r4 Try.underlying33 (c:=4) (by kernel_rfl) rd_val
 cases e4
 exact⟨⟨s,t,q,v,lc⟩,_,rfl,s4,b4⟩
theorem rd_frame (cs:List Value) (d:DataW H) (r:Rd Try.prog h 35 cs d):∃ a,RMf h cs a:=by
 obtain⟨parts,rfl,hl,hp,hr⟩:=rd_struct r Try.underlying35
 have hc:Try.prog.cellsOf 35=5:=by kernel_rfl
 rw[hc]at hl
 obtain⟨x0,x1,x2,x3,x4,rfl⟩:∃ x0 x1 x2 x3 x4,cs=[x0,x1,x2,x3,x4]:=by
  match cs,hl with
  |[x0,x1,x2,x3,x4],_=>exact⟨x0,x1,x2,x3,x4,rfl⟩
 obtain⟨d0,r0⟩:=hr 0 _ rfl
 have c0:Try.prog.cellsOf 3=1:=by kernel_rfl
 replace r0:Rd Try.prog h 3 (([x0,x1,x2,x3,x4].drop 0).take (Try.prog.cellsOf 3)) d0:=r0
 rw[c0]at r0
 replace r0:Rd Try.prog h 3 [x0] d0:=r0
 obtain⟨d1,r1⟩:=hr 1 _ rfl
 have c1:Try.prog.cellsOf 3=1:=by kernel_rfl
 replace r1:Rd Try.prog h 3 (([x0,x1,x2,x3,x4].drop 1).take (Try.prog.cellsOf 3)) d1:=r1
 rw[c1]at r1
 replace r1:Rd Try.prog h 3 [x1] d1:=r1
 obtain⟨d2,r2⟩:=hr 2 _ rfl
 have c2:Try.prog.cellsOf 3=1:=by kernel_rfl
 replace r2:Rd Try.prog h 3 (([x0,x1,x2,x3,x4].drop 2).take (Try.prog.cellsOf 3)) d2:=r2
 rw[c2]at r2
 replace r2:Rd Try.prog h 3 [x2] d2:=r2
 obtain⟨d3,r3⟩:=hr 3 _ rfl
 have c3:Try.prog.cellsOf 33=1:=by kernel_rfl
 replace r3:Rd Try.prog h 33 (([x0,x1,x2,x3,x4].drop 3).take (Try.prog.cellsOf 33)) d3:=r3
 rw[c3]at r3
 replace r3:Rd Try.prog h 33 [x3] d3:=r3
 obtain⟨d4,r4⟩:=hr 4 _ rfl
 have c4:Try.prog.cellsOf 3=1:=by kernel_rfl
 replace r4:Rd Try.prog h 3 (([x0,x1,x2,x3,x4].drop 4).take (Try.prog.cellsOf 3)) d4:=r4
 rw[c4]at r4
 replace r4:Rd Try.prog h 3 [x4] d4:=r4
 obtain⟨f,e0,f0⟩:=rd_int r0 Try.underlying3
 cases e0
 obtain⟨b,e1,f1⟩:=rd_int r1 Try.underlying3
 cases e1
 obtain⟨p,e2,f2⟩:=rd_int r2 Try.underlying3
 cases e2
 obtain⟨vc,lc,e3,s3,b3⟩:=rd_recs r3 Try.underlying33 (c:=4) (by kernel_rfl) rd_val
 cases e3
 obtain⟨i,e4,f4⟩:=rd_int r4 Try.underlying3
 cases e4
 exact⟨⟨f,b,p,lc,i⟩,_,rfl,s3,b3⟩
theorem rd_mach (cs:List Value) (d:DataW H) (r:Rd Try.prog h 28 cs d):∃ a,RMm h cs a:=by
 obtain⟨parts,rfl,hl,hp,hr⟩:=rd_struct r Try.underlying28
 have hc:Try.prog.cellsOf 28=10:=by kernel_rfl
 rw[hc]at hl
 obtain⟨x0,x1,x2,x3,x4,x5,x6,x7,x8,x9,rfl⟩:∃ x0 x1 x2 x3 x4 x5 x6 x7 x8 x9,cs=[x0,x1,x2,x3,x4,x5,x6,x7,x8,x9]:=by
  match cs,hl with
  |[x0,x1,x2,x3,x4,x5,x6,x7,x8,x9],_=>exact⟨x0,x1,x2,x3,x4,x5,x6,x7,x8,x9,rfl⟩
 obtain⟨d0,r0⟩:=hr 0 _ rfl
 have c0:Try.prog.cellsOf 22=1:=by kernel_rfl
 replace r0:Rd Try.prog h 22 (([x0,x1,x2,x3,x4,x5,x6,x7,x8,x9].drop 0).take (Try.prog.cellsOf 22)) d0:=r0
 rw[c0]at r0
 replace r0:Rd Try.prog h 22 [x0] d0:=r0
 obtain⟨d1,r1⟩:=hr 1 _ rfl
 have c1:Try.prog.cellsOf 23=1:=by kernel_rfl
 replace r1:Rd Try.prog h 23 (([x0,x1,x2,x3,x4,x5,x6,x7,x8,x9].drop 1).take (Try.prog.cellsOf 23)) d1:=r1
 rw[c1]at r1
 replace r1:Rd Try.prog h 23 [x1] d1:=r1
 obtain⟨d2,r2⟩:=hr 2 _ rfl
 have c2:Try.prog.cellsOf 24=1:=by kernel_rfl
 replace r2:Rd Try.prog h 24 (([x0,x1,x2,x3,x4,x5,x6,x7,x8,x9].drop 2).take (Try.prog.cellsOf 24)) d2:=r2
 rw[c2]at r2
 replace r2:Rd Try.prog h 24 [x2] d2:=r2
 obtain⟨d3,r3⟩:=hr 3 _ rfl
 have c3:Try.prog.cellsOf 3=1:=by kernel_rfl
 replace r3:Rd Try.prog h 3 (([x0,x1,x2,x3,x4,x5,x6,x7,x8,x9].drop 3).take (Try.prog.cellsOf 3)) d3:=r3
 rw[c3]at r3
 replace r3:Rd Try.prog h 3 [x3] d3:=r3
 obtain⟨d4,r4⟩:=hr 4 _ rfl
 have c4:Try.prog.cellsOf 25=1:=by kernel_rfl
 replace r4:Rd Try.prog h 25 (([x0,x1,x2,x3,x4,x5,x6,x7,x8,x9].drop 4).take (Try.prog.cellsOf 25)) d4:=r4
 rw[c4]at r4
 replace r4:Rd Try.prog h 25 [x4] d4:=r4
 obtain⟨d5,r5⟩:=hr 5 _ rfl
 have c5:Try.prog.cellsOf 3=1:=by kernel_rfl
 replace r5:Rd Try.prog h 3 (([x0,x1,x2,x3,x4,x5,x6,x7,x8,x9].drop 5).take (Try.prog.cellsOf 3)) d5:=r5
 rw[c5]at r5
 replace r5:Rd Try.prog h 3 [x5] d5:=r5
 obtain⟨d6,r6⟩:=hr 6 _ rfl
 have c6:Try.prog.cellsOf 3=1:=by kernel_rfl
 replace r6:Rd Try.prog h 3 (([x0,x1,x2,x3,x4,x5,x6,x7,x8,x9].drop 6).take (Try.prog.cellsOf 3)) d6:=r6
 rw[c6]at r6
 replace r6:Rd Try.prog h 3 [x6] d6:=r6
 obtain⟨d7,r7⟩:=hr 7 _ rfl
 have c7:Try.prog.cellsOf 5=1:=by kernel_rfl
 replace r7:Rd Try.prog h 5 (([x0,x1,x2,x3,x4,x5,x6,x7,x8,x9].drop 7).take (Try.prog.cellsOf 5)) d7:=r7
 rw[c7]at r7
 replace r7:Rd Try.prog h 5 [x7] d7:=r7
 obtain⟨d8,r8⟩:=hr 8 _ rfl
 have c8:Try.prog.cellsOf 26=1:=by kernel_rfl
 replace r8:Rd Try.prog h 26 (([x0,x1,x2,x3,x4,x5,x6,x7,x8,x9].drop 8).take (Try.prog.cellsOf 26)) d8:=r8
 rw[c8]at r8
 replace r8:Rd Try.prog h 26 [x8] d8:=r8
 obtain⟨d9,r9⟩:=hr 9 _ rfl
 have c9:Try.prog.cellsOf 2=1:=by kernel_rfl
 replace r9:Rd Try.prog h 2 (([x0,x1,x2,x3,x4,x5,x6,x7,x8,x9].drop 9).take (Try.prog.cellsOf 2)) d9:=r9
 rw[c9]at r9
 replace r9:Rd Try.prog h 2 [x9] d9:=r9
 obtain⟨vm,lm,e0,s0,b0⟩:=rd_recs r0 Try.underlying22 (c:=5) (by kernel_rfl) rd_blk
 cases e0
 obtain⟨vf,lf,e1,s1,b1⟩:=rd_recs r1 Try.underlying23 (c:=5) (by kernel_rfl) rd_frame
 cases e1
 obtain⟨vi,li,e2,s2,b2,_⟩:=rd_ints r2 Try.underlying24 Try.underlying2 (by kernel_rfl)
 cases e2
 obtain⟨u,e3,f3⟩:=rd_int r3 Try.underlying3
 cases e3
 obtain⟨ve,le,e4,s4,b4⟩:=rd_recs r4 Try.underlying25 (c:=2) (by kernel_rfl) rd_event
 cases e4
 obtain⟨s,e5,f5⟩:=rd_int r5 Try.underlying3
 cases e5
 obtain⟨hp,e6,f6⟩:=rd_int r6 Try.underlying3
 cases e6
 obtain⟨st,e7,f7⟩:=rd_int r7 Try.underlying5
 cases e7
 obtain⟨tr,e8,f8⟩:=rd_int r8 Try.underlying26
 cases e8
 obtain⟨ex,e9,f9⟩:=rd_int r9 Try.underlying2
 cases e9
 exact⟨⟨lm,lf,li,u,le,s,hp,st,tr,ex⟩,_,_,_,_,rfl,s0,s1,s2,s4,b0,b1,b2,b4⟩
end
end Go.Proofs.Ytmilpkdhbdgjfaa
