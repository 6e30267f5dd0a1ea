/- LiveWays: for all arguments, in whatever memory they lie, where the program's own tables stand as its text lays them, the function returns true, and what was there stays as it was. Shown by a run of an abstract machine, which is proved sound against the model (the texts beside this one). -/
import Derived.Test.YtemggiegiejopaaDoorJe
import Derived.Test.YtemggiegiejopaaDoorJc
import Derived.Test.YtemggiegiejopaaDoorAmD
import Derived.Test.YtemggiegiejopaaDoorAmU
import Derived.Test.YtemggiegiejopaaDoorRows
import Derived.Test.YtemggiegiejopaaDoorCards
import Derived.Test.YtemggiegiejopaaDoorTie
import Derived.WalkKit
import Derived.ProofKit
import Derived.LaidMore
import Derived.OpenShut
import Derived.ShutString
import Derived.ChangeOld
import Derived.HandedShaped
import Derived.Stop.Joined
import Derived.SevenTiedAt
namespace Go.Proofs.YtemggiegiejopaaDoor.liveWays
open Go.ChangeShapes Go.WideShapes Go.ChangeAt Go.WideMaps Go.WideElems Go.RowKit Go.Am
open Go.ChangeMaps (open_string shut_string)
set_option linter.unusedVariables false
set_option linter.unusedSimpArgs false
theorem own:ownKnob Tryd.prog.godebug=none:=by kernel_rfl
theorem zC4:laidOutB Tryd.prog=true:=by kernel_rfl
theorem bigger:Nat.ble (Tryd.prog.globals.size+1) (begin Tryd.prog (fun _ _=>0) default).world.heap.size=true:=by kernel_rfl
theorem room {w:World} (h:w.ShapedOpen Tryd.prog):Tryd.prog.globals.size≤w.heap.size:=by
 obtain⟨o,_,h1,_⟩:=h.2 Tryd.prog.globals.size (Nat.le_refl _) (Nat.le_of_ble_eq_true bigger)
 exact Nat.le_of_lt (Array.getElem?_eq_some_iff.1 h1).1
def zFj:List (String×DataW Unit):=[("math/bits.deBruijn64tab",Rows.laid_math_bits_deBruijn64tab),("fescue/shape.table",Rows.laid_fescue_shape_table)]
def cells0:List Value:=zCf 16 (Rows.laid_math_bits_deBruijn64tab:DataW Unit)
def cells1:List Value:=zCf 16 (Rows.laid_fescue_shape_table:DataW Unit)
def laidL:List (Nat×List Value):=[(1,cells0),(0,cells1)]
theorem zIq:(laidL.all fun x=>Nat.ble (x.1+1) Tryd.prog.globals.size&&yc x.2)=true:=by kernel_rfl
theorem tbl0:zg (Zd Tryd.prog.globals.size laidL) 0=some Zc∧0<(Zd Tryd.prog.globals.size laidL).n:=⟨by kernel_rfl,Nat.le_of_ble_eq_true (by kernel_rfl)⟩
theorem tbl1:zg (Zd Tryd.prog.globals.size laidL) 1=some tzV∧1<(Zd Tryd.prog.globals.size laidL).n:=⟨by kernel_rfl,Nat.le_of_ble_eq_true (by kernel_rfl)⟩
theorem mark0:(Zd Tryd.prog.globals.size laidL).mark≤(Zd Tryd.prog.globals.size laidL).n:=Nat.le_of_ble_eq_true (by kernel_rfl)
theorem door_met (os:Os) (args:Array Value):laidMetH Tryd.prog zFj ((World.doorLaid Tryd.prog 4000 os).forCall (fun _ _=>0) ⟨#[],args,[]⟩).memory:=
 laidMetH_of_parts3 (fuel:=8) (laidMet_of_run' 8 (by kernel_rfl) (by kernel_rfl)) (by kernel_rfl) (by kernel_rfl)
theorem of_laid {W:World} (h:laidMetH Tryd.prog zFj W):∀ x∈laidL,∃ elem fr,W.heap[x.1]?=some (.cells x.2.toArray elem fr):=by
 rw[MakeChecks.laidMetH_plain _ _ _ (by kernel_rfl)]at h
 obtain⟨ps,⟨G0,T0,cs0,f0,p0,q0,hg0,ht0,hv0,hd0,⟨G1,T1,cs1,f1,p1,q1,hg1,ht1,hv1,hd1,_,_⟩,_⟩,_,_⟩:=h
 obtain rfl:=Option.some.inj ((show Tryd.prog.globalNamed "math/bits.deBruijn64tab"=some 1 by kernel_rfl).symm.trans hg0)
 obtain⟨E0,hE0⟩:∃ E,(Tryd.prog.globals[1]?).map (·.type)=some E∧zA4 Tryd.prog 16 E=true:=⟨((Tryd.prog.globals[1]?).map (·.type)).getD 0,by kernel_rfl,by kernel_rfl⟩
 obtain rfl:=Option.some.inj (hE0.1.symm.trans ht0)
 have b0:=zDx hg0 hv0 hd0 hE0.2
 obtain rfl:=Option.some.inj ((show Tryd.prog.globalNamed "fescue/shape.table"=some 0 by kernel_rfl).symm.trans hg1)
 obtain⟨E1,hE1⟩:∃ E,(Tryd.prog.globals[0]?).map (·.type)=some E∧zA4 Tryd.prog 16 E=true:=⟨((Tryd.prog.globals[0]?).map (·.type)).getD 0,by kernel_rfl,by kernel_rfl⟩
 obtain rfl:=Option.some.inj (hE1.1.symm.trans ht1)
 have b1:=zDx hg1 hv1 hd1 hE1.2
 intro x hx
 simp only[laidL,List.mem_cons,List.mem_nil_iff,or_false]at hx
 rcases hx with rfl|rfl
 ·exact b0
 ·exact b1
set_option maxRecDepth 100000 in
theorem lifted (os:Os) (started:os.Started) (H:Type) (enc:TypeId×Value→H):
  ReturnsInHanded {} Tryd.checked os 6 .any (fun w args=>(Rows.liveWaysSpec.pre enc Tryd.prog Tryd.f6 [] false w args∧laidMetH Tryd.prog zFj w)∧sizedMet enc Tryd.prog Tryd.f6 (OpenSpec.ofChange Rows.liveWaysSpec) false w args)
   (Rows.liveWaysSpec.post enc Tryd.prog Tryd.f6 false true false false):=by
 refine zFa (C:=Tryd.checked) (X:=fun w _=>laidMetH Tryd.prog zFj w) (fun _ _ _ hh h=>h.of_heap hh) own started (by kernel_rfl) Tryd.func6
  (ChangeSpec.witness_shaped (enc:=enc) (C:=Tryd.checked) (os:=os) (X:=fun w _=>laidMetH Tryd.prog zFj w) false (World.doorLaid Tryd.prog 4000 os) #[.agg #[.slice none 0 0,.slice none 0 0],.int .i64 0,.int .i64 0,.agg #[.int .i64 0,.int .i64 0]] 8 rfl (World.shaped_of_RefB (by kernel_rfl) (by kernel_rfl)) (by kernel_rfl) (by kernel_rfl) (by kernel_rfl) (door_met os _)) ?_
 intro W base args ds gs before hval0 hW hsz hL hsh
 have hval:∀ (j:Nat) t v,Tryd.f6.params[j]?=some t→args[j]?=some v→Value.okWide Tryd.prog W .any base t v:=hval0
 have hW':=hW
 obtain⟨p,q,hA0,hV,rfl,hfz,hnd⟩:=hW
 have hA:DataW.TrodAll enc Tryd.prog W 0 (fun _=>true) true Tryd.f6.params.toList args.toList ds p:=hA0
 rw[Tryd.params6]at hA hval
 obtain⟨v0,vs0,d0,ds0,p0,q0,hargs,rfl,rfl,h0,r0⟩:=trodAll_cons hA
 obtain⟨v1,vs1,d1,ds1,p1,q1,rfl,rfl,rfl,h1,r1⟩:=trodAll_cons r0
 obtain⟨v2,vs2,d2,ds2,p2,q2,rfl,rfl,rfl,h2,r2⟩:=trodAll_cons r1
 obtain⟨v3,vs3,d3,ds3,p3,q3,rfl,rfl,rfl,h3,r3⟩:=trodAll_cons r2
 obtain⟨rfl,rfl,rfl⟩:=trodAll_nil r3
 obtain rfl:args=#[v0,v1,v2,v3]:=by cases args;simp_all
 obtain⟨rfl,rfl⟩:=trodVars_none hV
 have hszp:∀ (i:Nat) t d,([29,3,3,53]:List TypeId)[i]?=some t→([d0,d1,d2,d3]:List (DataW H))[i]?=some d→wOk Tryd.prog t d:=zDG (fun m hm=>by
  have:=List.all_eq_true.1 hsz m (by rw[Tryd.params6];exact hm)
  exact of_decide_eq_true this)
 have c:=cameL (P:=Tryd.prog) (room hsh) laidL fun x hx=>by
  have h1:=List.all_eq_true.1 zIq x hx
  rw[Bool.and_eq_true]at h1
  exact⟨Nat.le_of_ble_eq_true h1.1,h1.2,of_laid hL x hx⟩
 have lt0:∀ x∈p0,x.block<W.heap.size:=by obtain⟨m,hm⟩:=h0;exact DataW.trod_lt m _ _ _ hm
 have k0:=h0
 obtain⟨σ0,g0,acs0,c0,e0,le0,l0,rd0⟩:=zAr h0 16 (by kernel_rfl) c
 have lt1:∀ x∈p1,x.block<W.heap.size:=by obtain⟨m,hm⟩:=h1;exact DataW.trod_lt m _ _ _ hm
 have k1:=h1
 obtain⟨σ1,g1,acs1,c1,e1,le1,l1,rd1⟩:=zAr h1 16 (by kernel_rfl) c0
 have lt2:∀ x∈p2,x.block<W.heap.size:=by obtain⟨m,hm⟩:=h2;exact DataW.trod_lt m _ _ _ hm
 have k2:=h2
 obtain⟨σ2,g2,acs2,c2,e2,le2,l2,rd2⟩:=zAr h2 16 (by kernel_rfl) c1
 have lt3:∀ x∈p3,x.block<W.heap.size:=by obtain⟨m,hm⟩:=h3;exact DataW.trod_lt m _ _ _ hm
 have k3:=h3
 obtain⟨σ3,g3,acs3,c3,e3,le3,l3,rd3⟩:=zAr h3 16 (by kernel_rfl) c2
 have rd0:=(((rd0.ext e1).ext e2).ext e3)
 have l0:LRel σ3 acs0 _:=LRel.mono (Le.trans (Le.trans (le1) (le2)) (le3)) l0
 obtain⟨b0,rfl⟩:=zDh (.inr ⟨_,Tryd.underlying29⟩) (hval 0 29 v0 rfl rfl)
 obtain⟨vt0,vf0,T0,F0,rfl,sT0,sF0,bT0,bF0⟩:=rd_prog _ _ rd0 (hszp 0 29 d0 rfl rfl)
 have V0:=zH0 l0
 have rd1:=((rd1.ext e2).ext e3)
 have l1:LRel σ3 acs1 _:=LRel.mono (Le.trans (le2) (le3)) l1
 obtain⟨a1,rfl⟩:=okWide_int Tryd.underlying3 (hval 1 3 v1 rfl rfl)
 obtain⟨x1,rfl,w1⟩:=yv rd1 Tryd.underlying3
 have V1:=zGC l1 rfl
 have rd2:=(rd2.ext e3)
 have l2:LRel σ3 acs2 _:=LRel.mono ((le3)) l2
 obtain⟨a2,rfl⟩:=okWide_int Tryd.underlying3 (hval 2 3 v2 rfl rfl)
 obtain⟨x2,rfl,w2⟩:=yv rd2 Tryd.underlying3
 have V2:=zGC l2 rfl
 have rd3:=rd3
 have l3:LRel σ3 acs3 _:=l3
 obtain⟨b3,rfl⟩:=zDh (.inl ⟨_,_,Tryd.underlying53⟩) (hval 3 53 v3 rfl rfl)
 obtain⟨x3,y3,rfl,wx3,wy3⟩:=rd_arr2 rd3 Tryd.underlying53 Tryd.underlying3 (by kernel_rfl) (by kernel_rfl)
 have V3:=zH0 l3
 have tt:Tbl g3:=Tbl.ext tbl0 (((e0.trans e1).trans e2).trans e3)
 have hm:g3.mark≤g3.n:=by have h1:=((((e0.trans e1).trans e2).trans e3)).mark;have h2:=((((e0.trans e1).trans e2).trans e3)).n;have h3:=mark0;omega
 have tz:TzT g3:=TzT.ext tbl1 (((e0.trans e1).trans e2).trans e3)
 clear hA0 hval0
 refine(zJI Tryd.checked.mixed tb_ok c3 (LRel.cons V0 (LRel.cons V1 (LRel.cons V2 (LRel.cons V3 (LRel.nil _))))) (zGi _ _ _ _ _ _ _ _ _ tt hm tz sT0 sF0 bT0 bF0)).mono fun e W' ⟨he,bel⟩=> ?_
 subst he
 exact⟨_,rfl,_,_,_,[],_,[],hW',trodAll_mk1 (shut_bool Tryd.underlying4 _),(trodAll_cons_mk (Below.trod zC4 (by kernel_rfl) (of_decide_eq_true (by kernel_rfl)) k0 bel lt0) (trodAll_cons_mk (Below.trod zC4 (by kernel_rfl) (of_decide_eq_true (by kernel_rfl)) k1 bel lt1) (trodAll_cons_mk (Below.trod zC4 (by kernel_rfl) (of_decide_eq_true (by kernel_rfl)) k2 bel lt2) (trodAll_cons_mk (Below.trod zC4 (by kernel_rfl) (of_decide_eq_true (by kernel_rfl)) k3 bel lt3) trodAll_mk0)))),rfl,bel.frame _,fun h=>by cases h⟩
theorem zIg:Rows.LiveWaysSaid:=
 OpenClaim.holds_of_wide 6 Tryd.f6 rfl rfl rfl rfl rfl rfl rfl ⟨rfl,rfl,rfl,rfl,rfl⟩ rfl rfl rfl rfl rfl (by kernel_rfl) Tryd.func6 (by kernel_rfl)
  (of_decide_eq_true (by kernel_rfl)) (by unfold Func.isWrapper;first|(rw[if_pos (by decide+kernel)];kernel_rfl)|(rw[if_neg (by decide+kernel)];exact⟨rfl,rfl⟩))
  (fun os started H enc _=>lifted os started H enc)
theorem proved:Rows.LiveWaysCardSaid:=
 Claim7.holds_tied_plain_at .later [] [.data,.data] true (true, "f9387ca69c43afb575a0d4ccbe19cd4f907f45bb69a3620d1368948e6785333d") false
  zIg (fun _ h=>by cases h) (by kernel_rfl) (fun _ h=>by cases h) liveWays_row_tie rfl ⟨rfl,rfl⟩ (by kernel_rfl) rfl
  (fun f fn hf hfn=>by
   obtain rfl:f=6:=Option.some.inj ((show Tryd.prog.funcNamed "fescue/fescuelaw11.LiveWays"=some 6 by kernel_rfl).symm.trans hf) |>.symm
   obtain rfl:fn=Tryd.f6:=(Option.some.inj (Tryd.func6.symm.trans hfn)).symm
   exact⟨by kernel_rfl,fun j t ht=>by
    rw[Tryd.params6]at ht
    revert ht
    match j with
    |0=>intro ht;cases ht;kernel_rfl
    |1=>intro ht;cases ht;kernel_rfl
    |2=>intro ht;cases ht;kernel_rfl
    |3=>intro ht;cases ht;kernel_rfl
    |_+4=>intro ht;cases ht⟩)
  (by kernel_rfl)
#print axioms proved
end Go.Proofs.YtemggiegiejopaaDoor.liveWays
