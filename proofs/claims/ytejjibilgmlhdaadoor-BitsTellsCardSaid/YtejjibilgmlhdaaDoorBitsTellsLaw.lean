/- BitsTells: for all arguments, in whatever memory they lie, where the program's own tables stand as its text lays them, the function returns true, and what was there stays as it was. Shown by a run of an abstract machine, which is proved sound against the model (the texts beside this one). -/
import Derived.Test.YtejjibilgmlhdaaDoorJa
import Derived.Test.YtejjibilgmlhdaaDoorAmD
import Derived.Test.YtejjibilgmlhdaaDoorAmU
import Derived.Test.YtejjibilgmlhdaaDoorRows
import Derived.Test.YtejjibilgmlhdaaDoorCards
import Derived.Test.YtejjibilgmlhdaaDoorTie
import Derived.WalkKit
import Derived.ProofKit
import Derived.LaidMore
import Derived.OpenShut
import Derived.ShutString
import Derived.ChangeOld
import Derived.HandedShaped
import Derived.Stop.Joined
import Derived.SevenTiedAt
namespace Go.Proofs.YtejjibilgmlhdaaDoor.bitsTells
open Go.ChangeShapes Go.WideShapes Go.ChangeAt Go.WideMaps Go.WideElems Go.RowKit Go.Am
open Go.ChangeMaps (open_string shut_string)
set_option linter.unusedVariables false
set_option linter.unusedSimpArgs false
theorem own:ownKnob Tryd.prog.godebug=none:=by kernel_rfl
theorem laidOut:laidOutB Tryd.prog=true:=by kernel_rfl
theorem bigger:Nat.ble (Tryd.prog.globals.size+1) (begin Tryd.prog (fun _ _=>0) default).world.heap.size=true:=by kernel_rfl
theorem room {w:World} (h:w.ShapedOpen Tryd.prog):Tryd.prog.globals.size≤w.heap.size:=by
 obtain⟨o,_,h1,_⟩:=h.2 Tryd.prog.globals.size (Nat.le_refl _) (Nat.le_of_ble_eq_true bigger)
 exact Nat.le_of_lt (Array.getElem?_eq_some_iff.1 h1).1
def laids:List (String×DataW Unit):=[("math/bits.deBruijn64tab",Rows.laid_math_bits_deBruijn64tab)]
def cells0:List Value:=flatD 16 (Rows.laid_math_bits_deBruijn64tab:DataW Unit)
def laidL:List (Nat×List Value):=[(0,cells0)]
theorem closedAll:(laidL.all fun x=>Nat.ble (x.1+1) Tryd.prog.globals.size&&z9 x.2)=true:=by kernel_rfl
theorem tbl0:ze (heapL Tryd.prog.globals.size laidL) 0=some tzV∧0<(heapL Tryd.prog.globals.size laidL).n:=⟨by kernel_rfl,Nat.le_of_ble_eq_true (by kernel_rfl)⟩
theorem mark0:(heapL Tryd.prog.globals.size laidL).mark≤(heapL Tryd.prog.globals.size laidL).n:=Nat.le_of_ble_eq_true (by kernel_rfl)
theorem door_met (os:Os) (args:Array Value):laidMetH Tryd.prog laids ((World.doorLaid Tryd.prog 4000 os).forCall (fun _ _=>0) ⟨#[],args,[]⟩).memory:=
 laidMetH_of_parts3 (fuel:=8) (laidMet_of_run' 8 (by kernel_rfl) (by kernel_rfl)) (by kernel_rfl) (by kernel_rfl)
theorem of_laid {W:World} (h:laidMetH Tryd.prog laids W):∀ x∈laidL,∃ elem fr,W.heap[x.1]?=some (.cells x.2.toArray elem fr):=by
 rw[MakeChecks.laidMetH_plain _ _ _ (by kernel_rfl)]at h
 obtain⟨ps,⟨G0,T0,cs0,f0,p0,q0,hg0,ht0,hv0,hd0,_,_⟩,_,_⟩:=h
 obtain rfl:=Option.some.inj ((show Tryd.prog.globalNamed "math/bits.deBruijn64tab"=some 0 by kernel_rfl).symm.trans hg0)
 obtain⟨E0,hE0⟩:∃ E,(Tryd.prog.globals[0]?).map (·.type)=some E∧dataT Tryd.prog 16 E=true:=⟨((Tryd.prog.globals[0]?).map (·.type)).getD 0,by kernel_rfl,by kernel_rfl⟩
 obtain rfl:=Option.some.inj (hE0.1.symm.trans ht0)
 have b0:=laid_block hg0 hv0 hd0 hE0.2
 intro x hx
 simp only[laidL,List.mem_cons,List.mem_nil_iff,or_false]at hx
 subst hx
 exact b0
set_option maxRecDepth 100000 in
theorem lifted (os:Os) (started:os.Started) (H:Type) (enc:TypeId×Value→H):
  ReturnsInHanded {} Tryd.checked os 3 .any (fun w args=>(Rows.bitsTellsSpec.pre enc Tryd.prog Tryd.f3 [] false w args∧laidMetH Tryd.prog laids w)∧sizedMet enc Tryd.prog Tryd.f3 (OpenSpec.ofChange Rows.bitsTellsSpec) false w args)
   (Rows.bitsTellsSpec.post enc Tryd.prog Tryd.f3 false true false false):=by
 refine handed_sized (C:=Tryd.checked) (X:=fun w _=>laidMetH Tryd.prog laids w) (fun _ _ _ hh h=>h.of_heap hh) own started (by kernel_rfl) Tryd.func3
  (ChangeSpec.witness_shaped (enc:=enc) (C:=Tryd.checked) (os:=os) (X:=fun w _=>laidMetH Tryd.prog laids w) false (World.doorLaid Tryd.prog 4000 os) #[.slice none 0 0,.slice none 0 0,.int .i64 0] 8 rfl (World.shaped_of_RefB (by kernel_rfl) (by kernel_rfl)) (by kernel_rfl) (by kernel_rfl) (by kernel_rfl) (door_met os _)) ?_
 intro W base args ds gs before hval0 hW hsz hL hsh
 have hval:∀ (j:Nat) t v,Tryd.f3.params[j]?=some t→args[j]?=some v→Value.okWide Tryd.prog W .any base t v:=hval0
 have hW':=hW
 obtain⟨p,q,hA0,hV,rfl,hfz,hnd⟩:=hW
 have hA:DataW.TrodAll enc Tryd.prog W 0 (fun _=>true) true Tryd.f3.params.toList args.toList ds p:=hA0
 rw[Tryd.params3]at hA hval
 obtain⟨v0,vs0,d0,ds0,p0,q0,hargs,rfl,rfl,h0,r0⟩:=trodAll_cons hA
 obtain⟨v1,vs1,d1,ds1,p1,q1,rfl,rfl,rfl,h1,r1⟩:=trodAll_cons r0
 obtain⟨v2,vs2,d2,ds2,p2,q2,rfl,rfl,rfl,h2,r2⟩:=trodAll_cons r1
 obtain⟨rfl,rfl,rfl⟩:=trodAll_nil r2
 obtain rfl:args=#[v0,v1,v2]:=by cases args;simp_all
 obtain⟨rfl,rfl⟩:=trodVars_none hV
 have hszp:∀ (i:Nat) t d,([23,23,3]:List TypeId)[i]?=some t→([d0,d1,d2]:List (DataW H))[i]?=some d→wOk Tryd.prog t d:=wOk_each (fun m hm=>by
  have:=List.all_eq_true.1 hsz m (by rw[Tryd.params3];exact hm)
  exact of_decide_eq_true this)
 have c:=cameL (P:=Tryd.prog) (room hsh) laidL fun x hx=>by
  have h1:=List.all_eq_true.1 closedAll x hx
  rw[Bool.and_eq_true]at h1
  exact⟨Nat.le_of_ble_eq_true h1.1,h1.2,of_laid hL x hx⟩
 have lt0:∀ x∈p0,x.block<W.heap.size:=by obtain⟨m,hm⟩:=h0;exact DataW.trod_lt m _ _ _ hm
 have k0:=h0
 obtain⟨σ0,g0,acs0,c0,e0,le0,l0,rd0⟩:=trod_came h0 16 (by kernel_rfl) c
 have lt1:∀ x∈p1,x.block<W.heap.size:=by obtain⟨m,hm⟩:=h1;exact DataW.trod_lt m _ _ _ hm
 have k1:=h1
 obtain⟨σ1,g1,acs1,c1,e1,le1,l1,rd1⟩:=trod_came h1 16 (by kernel_rfl) c0
 have lt2:∀ x∈p2,x.block<W.heap.size:=by obtain⟨m,hm⟩:=h2;exact DataW.trod_lt m _ _ _ hm
 have k2:=h2
 obtain⟨σ2,g2,acs2,c2,e2,le2,l2,rd2⟩:=trod_came h2 16 (by kernel_rfl) c1
 have rd0:=((rd0.ext e1).ext e2)
 have l0:LRel σ2 acs0 _:=LRel.mono (Le.trans (le1) (le2)) l0
 obtain⟨b0,m0,n0,rfl⟩:=okWide_slice Tryd.underlying23 (hval 0 23 v0 rfl rfl)
 obtain⟨x0,y0,rfl,s0,z0⟩:=rd_recsW (c:=2) rd0 Tryd.underlying23 (by kernel_rfl) (by decide+kernel) (hszp 0 23 d0 rfl rfl) rd_word
 have V0:=one_rel' l0 rfl
 have rd1:=(rd1.ext e2)
 have l1:LRel σ2 acs1 _:=LRel.mono ((le2)) l1
 obtain⟨b1,m1,n1,rfl⟩:=okWide_slice Tryd.underlying23 (hval 1 23 v1 rfl rfl)
 obtain⟨x1,y1,rfl,s1,z1⟩:=rd_recsW (c:=2) rd1 Tryd.underlying23 (by kernel_rfl) (by decide+kernel) (hszp 1 23 d1 rfl rfl) rd_word
 have V1:=one_rel' l1 rfl
 have rd2:=rd2
 have l2:LRel σ2 acs2 _:=l2
 obtain⟨a2,rfl⟩:=okWide_int Tryd.underlying3 (hval 2 3 v2 rfl rfl)
 obtain⟨x2,rfl,w2⟩:=rd_int rd2 Tryd.underlying3
 have V2:=one_rel' l2 rfl
 have tt:TzT g2:=TzT.ext tbl0 ((e0.trans e1).trans e2)
 have hm:g2.mark≤g2.n:=by have h1:=(((e0.trans e1).trans e2)).mark;have h2:=(((e0.trans e1).trans e2)).n;have h3:=mark0;omega
 clear hA0 hval0
 refine(law_calls Tryd.checked.mixed tb_ok c2 (LRel.cons V0 (LRel.cons V1 (LRel.cons V2 (LRel.nil _)))) (BitsTells_ok _ _ _ _ _ _ tt hm s0 s1 z0 z1)).mono fun e W' ⟨he,bel⟩=> ?_
 subst he
 exact⟨_,rfl,_,_,_,[],_,[],hW',trodAll_mk1 (shut_bool Tryd.underlying4 _),(trodAll_cons_mk (Below.trod laidOut (by kernel_rfl) (of_decide_eq_true (by kernel_rfl)) k0 bel lt0) (trodAll_cons_mk (Below.trod laidOut (by kernel_rfl) (of_decide_eq_true (by kernel_rfl)) k1 bel lt1) (trodAll_cons_mk (Below.trod laidOut (by kernel_rfl) (of_decide_eq_true (by kernel_rfl)) k2 bel lt2) trodAll_mk0))),rfl,bel.frame _,fun h=>by cases h⟩
theorem row_holds:Rows.BitsTellsSaid:=
 OpenClaim.holds_of_wide 3 Tryd.f3 rfl rfl rfl rfl rfl rfl rfl ⟨rfl,rfl,rfl,rfl,rfl⟩ rfl rfl rfl rfl rfl (by kernel_rfl) Tryd.func3 (by kernel_rfl)
  (of_decide_eq_true (by kernel_rfl)) (by unfold Func.isWrapper;first|(rw[if_pos (by decide+kernel)];kernel_rfl)|(rw[if_neg (by decide+kernel)];exact⟨rfl,rfl⟩))
  (fun os started H enc _=>lifted os started H enc)
theorem proved:Rows.BitsTellsCardSaid:=
 Claim7.holds_tied_plain_at .later [] [.data] true (true, "ee1ea3d142ffbebdd2ac9ea02c5f6e5e0c339a0411b58484fe983110ce1fafee") false
  row_holds (fun _ h=>by cases h) (by kernel_rfl) (fun _ h=>by cases h) bitsTells_row_tie rfl ⟨rfl,rfl⟩ (by kernel_rfl) rfl
  (fun f fn hf hfn=>by
   obtain rfl:f=3:=Option.some.inj ((show Tryd.prog.funcNamed "fescue/fescuelaw02.BitsTells"=some 3 by kernel_rfl).symm.trans hf) |>.symm
   obtain rfl:fn=Tryd.f3:=(Option.some.inj (Tryd.func3.symm.trans hfn)).symm
   exact⟨by kernel_rfl,fun j t ht=>by
    rw[Tryd.params3]at ht
    revert ht
    match j with
    |0=>intro ht;cases ht;kernel_rfl
    |1=>intro ht;cases ht;kernel_rfl
    |2=>intro ht;cases ht;kernel_rfl
    |_+3=>intro ht;cases ht⟩)
  (by kernel_rfl)
#print axioms proved
end Go.Proofs.YtejjibilgmlhdaaDoor.bitsTells
