/- LeastAmong: for all arguments, in whatever memory they lie, where the program's own tables stand as its text lays them, the function returns true, and what was there stays as it was. Shown by a run of an abstract machine, which is proved sound against the model (the texts beside this one). -/
import Derived.Test.YtndffgfnndoifaaGreatDoorJj
import Derived.Test.YtndffgfnndoifaaGreatDoorJk
import Derived.Test.YtndffgfnndoifaaGreatDoorLeastAmongRow
import Derived.Test.YtndffgfnndoifaaGreatDoorCards
import Derived.Test.YtndffgfnndoifaaGreatDoorTie
import Derived.WalkKit
import Derived.ProofKit
import Derived.LaidMore
import Derived.OpenShut
import Derived.ShutString
import Derived.ChangeOld
import Derived.HandedShaped
import Derived.Stop.Joined
import Derived.SevenTiedAt
set_option linter.all false
namespace Go.Proofs.YtndffgfnndoifaaGreatDoor.leastAmong
open Go.ChangeShapes Go.WideShapes Go.ChangeAt Go.WideMaps Go.WideElems Go.RowKit Go.Am
open Go.ChangeMaps (open_string shut_string)
theorem own:ownKnob Tryz.prog.godebug=none:=by kernel_rfl
theorem zME:laidOutB Tryz.prog=true:=by kernel_rfl
theorem zUY:Nat.ble (Tryz.prog.globals.size+1) (begin Tryz.prog (fun _ _=>0) default).world.heap.size=true:=by kernel_rfl
theorem room {w:World}(h:w.ShapedOpen Tryz.prog):Tryz.prog.globals.size<=w.heap.size:=by
 obtain⟨o,_,h1,_⟩:=h.2 Tryz.prog.globals.size (QF _) (QP zUY);exact Nat.le_of_lt (JA.1 h1).1
def zJ1:List (String×DataW Unit):=[("math/bits.deBruijn64tab",Rows.laid_math_bits_deBruijn64tab),("fescue/shape.table",Rows.laid_fescue_shape_table)]
def zTU:List Value:=zEv 16 (Rows.laid_math_bits_deBruijn64tab:DataW Unit)
def zTf:List Value:=zEv 16 (Rows.laid_fescue_shape_table:DataW Unit)
def laidL:List (Nat×List Value):=[(0,zTU),(1,zTf)]
theorem yK:(laidL.all fun x=>Nat.ble (x.1+1) Tryz.prog.globals.size&&yk x.2)=true:=by kernel_rfl
theorem zT0:z0 (Z3 Tryz.prog.globals.size laidL) 1=some Yi/\1<(Z3 Tryz.prog.globals.size laidL).n:=⟨by kernel_rfl,QP (by kernel_rfl)⟩
theorem zUF:z0 (Z3 Tryz.prog.globals.size laidL) 0=some tzV/\0<(Z3 Tryz.prog.globals.size laidL).n:=⟨by kernel_rfl,QP (by kernel_rfl)⟩
theorem zVJ:(Z3 Tryz.prog.globals.size laidL).mark<=(Z3 Tryz.prog.globals.size laidL).n:=QP (by kernel_rfl)
theorem zPf (os:Os)(args:Array Value):laidMetH Tryz.prog zJ1 ((World.doorLaid Tryz.prog 4000 os).forCall (fun _ _=>0) ⟨#[],args,[]⟩).memory:=
 laidMetH_of_parts3 (fuel:=8) (laidMet_of_run' 8 (by kernel_rfl) (by kernel_rfl)) (by kernel_rfl) (by kernel_rfl)
theorem zRl {W:World}(h:laidMetH Tryz.prog zJ1 W):∀ x∈laidL,∃ elem fr,W.heap[x.1]?=some (.cells x.2.toArray elem fr):=by
 rw[MakeChecks.laidMetH_plain _ _ _ (by kernel_rfl)]at h;obtain⟨ps,⟨G0,T0,cs0,f0,p0,q0,hg0,ht0,hv0,hd0,⟨G1,T1,cs1,f1,p1,q1,hg1,ht1,hv1,hd1,_,_⟩,_⟩,_,_⟩:=h;obtain rfl:=Qm ((show Tryz.prog.globalNamed "math/bits.deBruijn64tab"=some 0 by kernel_rfl).symm.trans hg0);obtain⟨E0,hE0⟩:∃ E,(Tryz.prog.globals[0]?).map (·.type)=some E/\zCj Tryz.prog 16 E=true:=⟨((Tryz.prog.globals[0]?).map (·.type)).getD 0,by kernel_rfl,by kernel_rfl⟩;obtain rfl:=Qm (hE0.1.symm.trans ht0);have b0:=zFn hg0 hv0 hd0 hE0.2;obtain rfl:=Qm ((show Tryz.prog.globalNamed "fescue/shape.table"=some 1 by kernel_rfl).symm.trans hg1);obtain⟨E1,hE1⟩:∃ E,(Tryz.prog.globals[1]?).map (·.type)=some E/\zCj Tryz.prog 16 E=true:=⟨((Tryz.prog.globals[1]?).map (·.type)).getD 0,by kernel_rfl,by kernel_rfl⟩;obtain rfl:=Qm (hE1.1.symm.trans ht1);have b1:=zFn hg1 hv1 hd1 hE1.2;intro x hx;simp only[laidL,Qt,List.mem_nil_iff,or_false]at hx;rcases hx with rfl|rfl
 ·exact b0
 ·exact b1
set_option maxRecDepth 100000 in
theorem zUC (os:Os)(started:os.Started)(H:Type)(enc:TypeId×Value->H):
  ReturnsInHanded {} Tryz.checked os 6 .any (fun w args=>(Rows.leastAmongSpec.pre enc Tryz.prog Tryz.f6 [] false w args/\laidMetH Tryz.prog zJ1 w)/\sizedMet enc Tryz.prog Tryz.f6 (OpenSpec.ofChange Rows.leastAmongSpec) false w args)
   (Rows.leastAmongSpec.post enc Tryz.prog Tryz.f6 false true false false):=by
 refine zHu (C:=Tryz.checked) (X:=fun w _=>laidMetH Tryz.prog zJ1 w) (fun _ _ _ hh h=>h.of_heap hh) own started (by kernel_rfl) Tryz.func6
  (ChangeSpec.witness_shaped (enc:=enc) (C:=Tryz.checked) (os:=os) (X:=fun w _=>laidMetH Tryz.prog zJ1 w) false (World.doorLaid Tryz.prog 4000 os) #[.agg #[.slice none 0 0,.slice none 0 0],.slice none 0 0] 8 rfl (World.shaped_of_RefB (by kernel_rfl) (by kernel_rfl)) (by kernel_rfl) (by kernel_rfl) (by kernel_rfl) (zPf os _)) ?_
 intro W base args ds gs before hval0 hW hsz hL hsh;have hval:∀ (j:Nat) t v,Tryz.f6.params[j]?=some t->args[j]?=some v->Value.okWide Tryz.prog W .any base t v:=hval0;have hW':=hW;obtain⟨p,q,hA0,hV,rfl,hfz,hnd⟩:=hW;have hA:DataW.TrodAll enc Tryz.prog W 0 (fun _=>true) true Tryz.f6.params.toList args.toList ds p:=hA0;rw[Tryz.params6]at hA hval;obtain⟨v0,vs0,d0,ds0,p0,q0,hargs,rfl,rfl,h0,r0⟩:=trodAll_cons hA;obtain⟨v1,vs1,d1,ds1,p1,q1,rfl,rfl,rfl,h1,r1⟩:=trodAll_cons r0;obtain⟨rfl,rfl,rfl⟩:=trodAll_nil r1;obtain rfl:args=#[v0,v1]:=by cases args;simp_all
 obtain⟨rfl,rfl⟩:=trodVars_none hV;have hszp:∀ (i:Nat) t d,([25,26]:List TypeId)[i]?=some t->([d0,d1]:List (DataW H))[i]?=some d->BS Tryz.prog t d:=zFd (fun m hm=>by
  have:=QX.1 hsz m (by rw[Tryz.params6];exact hm);exact JM this)
 have c:=zU9 (P:=Tryz.prog) (room hsh) laidL fun x hx=>by
  have h1:=QX.1 yK x hx;rw[QI]at h1;exact⟨QP h1.1,h1.2,zRl hL x hx⟩
 have lt0:∀ x∈p0,x.block<W.heap.size:=by obtain⟨m,hm⟩:=h0;exact DataW.trod_lt m _ _ _ hm
 have k0:=h0;obtain⟨σ0,g0,acs0,c0,e0,le0,l0,rd0⟩:=zGx h0 16 (by kernel_rfl) c;have lt1:∀ x∈p1,x.block<W.heap.size:=by obtain⟨m,hm⟩:=h1;exact DataW.trod_lt m _ _ _ hm
 have k1:=h1;obtain⟨σ1,g1,acs1,c1,e1,le1,l1,rd1⟩:=zGx h1 16 (by kernel_rfl) c0;have rd0:=(rd0.ext e1);have l0:WQ σ1 acs0 _:=WQ.mono ((le1)) l0;obtain⟨b0,rfl⟩:=zLF (.inr ⟨_,Tryz.underlying25⟩) (hval 0 25 v0 rfl rfl);obtain⟨vt0,vf0,T0,F0,rfl,sT0,sF0,bT0,bF0⟩:=zSD _ _ rd0 (hszp 0 25 d0 rfl rfl);have V0:=zR8 l0;have rd1:=rd1;have l1:WQ σ1 acs1 _:=l1;obtain⟨b1,m1,n1,rfl⟩:=okWide_slice Tryz.underlying26 (hval 1 26 v1 rfl rfl);obtain⟨x1,y1,rfl,s1,z1⟩:=zBK (c:=1) rd1 Tryz.underlying26 (by kernel_rfl) (by decide+kernel) (hszp 1 26 d1 rfl rfl) zUG;have V1:=zPV l1 rfl;have tt:SA g1:=SA.ext zT0 (e0.trans e1);have hm:g1.mark<=g1.n:=by have h1:=((e0.trans e1)).mark;have h2:=((e0.trans e1)).n;have h3:=zVJ;omega
 have tz:SF g1:=SF.ext zUF (e0.trans e1);clear hA0 hval0;refine(zNl Tryz.checked.mixed tb_ok c1 (WQ.cons V0 (WQ.cons V1 (WQ.nil _))) (zGt _ _ _ _ _ _ _ tt hm tz sT0 sF0 s1 bT0 bF0 z1)).mono fun e W' ⟨he,bel⟩=> ?_;subst he;exact⟨_,rfl,_,_,_,[],_,[],hW',trodAll_mk1 (shut_bool Tryz.underlying4 _),(trodAll_cons_mk (Below.trod zME (by kernel_rfl) (JM (by kernel_rfl)) k0 bel lt0) (trodAll_cons_mk (Below.trod zME (by kernel_rfl) (JM (by kernel_rfl)) k1 bel lt1) trodAll_mk0)),rfl,bel.frame _,fun h=>by cases h⟩
theorem zNF:Rows.LeastAmongSaid:=
 OpenClaim.holds_of_wide 6 Tryz.f6 rfl rfl rfl rfl rfl rfl rfl ⟨rfl,rfl,rfl,rfl,rfl⟩ rfl rfl rfl rfl rfl row_named Tryz.func6 row_facts
  row_inst row_wrap
  (fun os started H enc _=>zUC os started H enc)
theorem proved:Rows.LeastAmongCardSaid:=
 Claim7.holds_tied_plain_at .later [] [.data,.data] true (true, "3b2b5eea4feda7850e0925c23c088e04fbcb91f4f84152bf62a3f15e8c7b9e63") true
  zNF (fun _ h=>by cases h) (by kernel_rfl) (fun _ h=>by cases h) leastAmong_row_tie rfl ⟨rfl,rfl⟩ (by kernel_rfl) rfl
  (fun f fn hf hfn=>by
   obtain rfl:f=6:=Qm ((show Tryz.prog.funcNamed "fescue/fescuelaw20.LeastAmong"=some 6 by kernel_rfl).symm.trans hf) |>.symm;obtain rfl:fn=Tryz.f6:=(Qm (Tryz.func6.symm.trans hfn)).symm;exact⟨by kernel_rfl,fun j t ht=>by
    rw[Tryz.params6]at ht;revert ht;match j with
    |0=>intro ht;cases ht;kernel_rfl
    |1=>intro ht;cases ht;kernel_rfl
    |_+2=>intro ht;cases ht⟩)
  (by kernel_rfl)
#print axioms proved
end Go.Proofs.YtndffgfnndoifaaGreatDoor.leastAmong
