/- SoundLive: for all arguments, in whatever memory they lie, where the program's own tables stand as its text lays them, the function returns true, and what was there stays as it was. Shown by a run of an abstract machine, which is proved sound against the model (the texts beside this one). -/
import Derived.Test.YteekipjpghikkaaGreatDoorJo
import Derived.Test.YteekipjpghikkaaGreatDoorJf
import Derived.Test.YteekipjpghikkaaGreatDoorAmD
import Derived.Test.YteekipjpghikkaaGreatDoorAmU
import Derived.Test.YteekipjpghikkaaGreatDoorRows
import Derived.Test.YteekipjpghikkaaGreatDoorCards
import Derived.Test.YteekipjpghikkaaGreatDoorTie
import Derived.WalkKit
import Derived.ProofKit
import Derived.LaidMore
import Derived.OpenShut
import Derived.ShutString
import Derived.ChangeOld
import Derived.HandedShaped
import Derived.Stop.Joined
import Derived.SevenTiedAt
set_option linter.unusedVariables false
set_option linter.unusedSimpArgs false
namespace Go.Proofs.YteekipjpghikkaaGreatDoor.soundLive
open Go.ChangeShapes Go.WideShapes Go.ChangeAt Go.WideMaps Go.WideElems Go.RowKit Go.Am
open Go.ChangeMaps (open_string shut_string)
theorem own:ownKnob Tryz.prog.godebug=none:=by kernel_rfl
theorem zD7:laidOutB Tryz.prog=true:=by kernel_rfl
theorem zTp:Nat.ble (Tryz.prog.globals.size+1) (begin Tryz.prog (fun _ _=>0) default).world.heap.size=true:=by kernel_rfl
theorem room {w:World} (h:w.ShapedOpen Tryz.prog):Tryz.prog.globals.size<=w.heap.size:=by
 obtain⟨o,_,h1,_⟩:=h.2 Tryz.prog.globals.size (QF _) (QM zTp);exact Nat.le_of_lt (Gy.1 h1).1
def zIq:List (String×DataW Unit):=[("math/bits.deBruijn64tab",Rows.laid_math_bits_deBruijn64tab),("fescue/shape.table",Rows.laid_fescue_shape_table)]
def zTq:List Value:=zDS 16 (Rows.laid_math_bits_deBruijn64tab:DataW Unit)
def zTw:List Value:=zDS 16 (Rows.laid_fescue_shape_table:DataW Unit)
def laidL:List (Nat×List Value):=[(1,zTq),(0,zTw)]
theorem zMZ:(laidL.all fun x=>Nat.ble (x.1+1) Tryz.prog.globals.size&&yw x.2)=true:=by kernel_rfl
theorem zUt:zn (YA Tryz.prog.globals.size laidL) 0=some Z7/\0<(YA Tryz.prog.globals.size laidL).n:=⟨by kernel_rfl,QM (by kernel_rfl)⟩
theorem zVE:zn (YA Tryz.prog.globals.size laidL) 1=some tzV/\1<(YA Tryz.prog.globals.size laidL).n:=⟨by kernel_rfl,QM (by kernel_rfl)⟩
theorem zVh:(YA Tryz.prog.globals.size laidL).mark<=(YA Tryz.prog.globals.size laidL).n:=QM (by kernel_rfl)
theorem zOC (os:Os) (args:Array Value):laidMetH Tryz.prog zIq ((World.doorLaid Tryz.prog 4000 os).forCall (fun _ _=>0) ⟨#[],args,[]⟩).memory:=
 laidMetH_of_parts3 (fuel:=8) (laidMet_of_run' 8 (by kernel_rfl) (by kernel_rfl)) (by kernel_rfl) (by kernel_rfl)
theorem zSm {W:World} (h:laidMetH Tryz.prog zIq W):∀ x∈laidL,∃ elem fr,W.heap[x.1]?=some (.cells x.2.toArray elem fr):=by
 rw[MakeChecks.laidMetH_plain _ _ _ (by kernel_rfl)]at h;obtain⟨ps,⟨G0,T0,cs0,f0,p0,q0,hg0,ht0,hv0,hd0,⟨G1,T1,cs1,f1,p1,q1,hg1,ht1,hv1,hd1,_,_⟩,_⟩,_,_⟩:=h;obtain rfl:=GB ((show Tryz.prog.globalNamed "math/bits.deBruijn64tab"=some 1 by kernel_rfl).symm.trans hg0);obtain⟨E0,hE0⟩:∃ E,(Tryz.prog.globals[1]?).map (·.type)=some E/\zBj Tryz.prog 16 E=true:=⟨((Tryz.prog.globals[1]?).map (·.type)).getD 0,by kernel_rfl,by kernel_rfl⟩;obtain rfl:=GB (hE0.1.symm.trans ht0);have b0:=zFI hg0 hv0 hd0 hE0.2;obtain rfl:=GB ((show Tryz.prog.globalNamed "fescue/shape.table"=some 0 by kernel_rfl).symm.trans hg1);obtain⟨E1,hE1⟩:∃ E,(Tryz.prog.globals[0]?).map (·.type)=some E/\zBj Tryz.prog 16 E=true:=⟨((Tryz.prog.globals[0]?).map (·.type)).getD 0,by kernel_rfl,by kernel_rfl⟩;obtain rfl:=GB (hE1.1.symm.trans ht1);have b1:=zFI hg1 hv1 hd1 hE1.2;intro x hx;simp only[laidL,Qi,List.mem_nil_iff,or_false]at hx;rcases hx with rfl|rfl
 ·exact b0
 ·exact b1
set_option maxRecDepth 100000 in
theorem zVG (os:Os) (started:os.Started) (H:Type) (enc:TypeId×Value->H):
  ReturnsInHanded {} Tryz.checked os 6 .any (fun w args=>(Rows.soundLiveSpec.pre enc Tryz.prog Tryz.f6 [] false w args/\laidMetH Tryz.prog zIq w)/\sizedMet enc Tryz.prog Tryz.f6 (OpenSpec.ofChange Rows.soundLiveSpec) false w args)
   (Rows.soundLiveSpec.post enc Tryz.prog Tryz.f6 false true false false):=by
 refine zHG (C:=Tryz.checked) (X:=fun w _=>laidMetH Tryz.prog zIq w) (fun _ _ _ hh h=>h.of_heap hh) own started (by kernel_rfl) Tryz.func6
  (ChangeSpec.witness_shaped (enc:=enc) (C:=Tryz.checked) (os:=os) (X:=fun w _=>laidMetH Tryz.prog zIq w) false (World.doorLaid Tryz.prog 4000 os) #[.agg #[.slice none 0 0,.slice none 0 0],.int .i64 0,.int .i64 0,.int .i64 0] 8 rfl (World.shaped_of_RefB (by kernel_rfl) (by kernel_rfl)) (by kernel_rfl) (by kernel_rfl) (by kernel_rfl) (zOC os _)) ?_
 intro W base args ds gs before hval0 hW hsz hL hsh;have hval:∀ (j:Nat) t v,Tryz.f6.params[j]?=some t->args[j]?=some v->Value.okWide Tryz.prog W .any base t v:=hval0;have hW':=hW;obtain⟨p,q,hA0,hV,rfl,hfz,hnd⟩:=hW;have hA:DataW.TrodAll enc Tryz.prog W 0 (fun _=>true) true Tryz.f6.params.toList args.toList ds p:=hA0;rw[Tryz.params6]at hA hval;obtain⟨v0,vs0,d0,ds0,p0,q0,hargs,rfl,rfl,h0,r0⟩:=trodAll_cons hA;obtain⟨v1,vs1,d1,ds1,p1,q1,rfl,rfl,rfl,h1,r1⟩:=trodAll_cons r0;obtain⟨v2,vs2,d2,ds2,p2,q2,rfl,rfl,rfl,h2,r2⟩:=trodAll_cons r1;obtain⟨v3,vs3,d3,ds3,p3,q3,rfl,rfl,rfl,h3,r3⟩:=trodAll_cons r2;obtain⟨rfl,rfl,rfl⟩:=trodAll_nil r3;obtain rfl:args=#[v0,v1,v2,v3]:=by cases args;simp_all
 obtain⟨rfl,rfl⟩:=trodVars_none hV;have hszp:∀ (i:Nat) t d,([25,3,3,3]:List TypeId)[i]?=some t->([d0,d1,d2,d3]:List (DataW H))[i]?=some d->wOk Tryz.prog t d:=zE6 (fun m hm=>by
  have:=QZ.1 hsz m (by rw[Tryz.params6];exact hm);exact Gt this)
 have c:=zVU (P:=Tryz.prog) (room hsh) laidL fun x hx=>by
  have h1:=QZ.1 zMZ x hx;rw[QJ]at h1;exact⟨QM h1.1,h1.2,zSm hL x hx⟩
 have lt0:∀ x∈p0,x.block<W.heap.size:=by obtain⟨m,hm⟩:=h0;exact DataW.trod_lt m _ _ _ hm
 have k0:=h0;obtain⟨σ0,g0,acs0,c0,e0,le0,l0,rd0⟩:=zBS h0 16 (by kernel_rfl) c;have lt1:∀ x∈p1,x.block<W.heap.size:=by obtain⟨m,hm⟩:=h1;exact DataW.trod_lt m _ _ _ hm
 have k1:=h1;obtain⟨σ1,g1,acs1,c1,e1,le1,l1,rd1⟩:=zBS h1 16 (by kernel_rfl) c0;have lt2:∀ x∈p2,x.block<W.heap.size:=by obtain⟨m,hm⟩:=h2;exact DataW.trod_lt m _ _ _ hm
 have k2:=h2;obtain⟨σ2,g2,acs2,c2,e2,le2,l2,rd2⟩:=zBS h2 16 (by kernel_rfl) c1;have lt3:∀ x∈p3,x.block<W.heap.size:=by obtain⟨m,hm⟩:=h3;exact DataW.trod_lt m _ _ _ hm
 have k3:=h3;obtain⟨σ3,g3,acs3,c3,e3,le3,l3,rd3⟩:=zBS h3 16 (by kernel_rfl) c2;have rd0:=(((rd0.ext e1).ext e2).ext e3);have l0:LRel σ3 acs0 _:=LRel.mono (Le.trans (Le.trans (le1) (le2)) (le3)) l0;obtain⟨b0,rfl⟩:=zJa (.inr ⟨_,Tryz.underlying25⟩) (hval 0 25 v0 rfl rfl);obtain⟨vt0,vf0,T0,F0,rfl,sT0,sF0,bT0,bF0⟩:=zS1 _ _ rd0 (hszp 0 25 d0 rfl rfl);have V0:=zRr l0;have rd1:=((rd1.ext e2).ext e3);have l1:LRel σ3 acs1 _:=LRel.mono (Le.trans (le2) (le3)) l1;obtain⟨a1,rfl⟩:=okWide_int Tryz.underlying3 (hval 1 3 v1 rfl rfl);obtain⟨x1,rfl,w1⟩:=ZZ rd1 Tryz.underlying3;have V1:=zEg l1 rfl;have rd2:=(rd2.ext e3);have l2:LRel σ3 acs2 _:=LRel.mono ((le3)) l2;obtain⟨a2,rfl⟩:=okWide_int Tryz.underlying3 (hval 2 3 v2 rfl rfl);obtain⟨x2,rfl,w2⟩:=ZZ rd2 Tryz.underlying3;have V2:=zEg l2 rfl;have rd3:=rd3;have l3:LRel σ3 acs3 _:=l3;obtain⟨a3,rfl⟩:=okWide_int Tryz.underlying3 (hval 3 3 v3 rfl rfl);obtain⟨x3,rfl,w3⟩:=ZZ rd3 Tryz.underlying3;have V3:=zEg l3 rfl;have tt:Tbl g3:=Tbl.ext zUt (((e0.trans e1).trans e2).trans e3);have hm:g3.mark<=g3.n:=by have h1:=((((e0.trans e1).trans e2).trans e3)).mark;have h2:=((((e0.trans e1).trans e2).trans e3)).n;have h3:=zVh;omega
 have tz:TzT g3:=TzT.ext zVE (((e0.trans e1).trans e2).trans e3);clear hA0 hval0;refine(zNQ Tryz.checked.mixed tb_ok c3 (LRel.cons V0 (LRel.cons V1 (LRel.cons V2 (LRel.cons V3 (LRel.nil _))))) (zG3 _ _ _ _ _ _ _ _ tt hm tz sT0 sF0 bT0 bF0)).mono fun e W' ⟨he,bel⟩=> ?_;subst he;exact⟨_,rfl,_,_,_,[],_,[],hW',trodAll_mk1 (shut_bool Tryz.underlying4 _),(trodAll_cons_mk (Below.trod zD7 (by kernel_rfl) (Gt (by kernel_rfl)) k0 bel lt0) (trodAll_cons_mk (Below.trod zD7 (by kernel_rfl) (Gt (by kernel_rfl)) k1 bel lt1) (trodAll_cons_mk (Below.trod zD7 (by kernel_rfl) (Gt (by kernel_rfl)) k2 bel lt2) (trodAll_cons_mk (Below.trod zD7 (by kernel_rfl) (Gt (by kernel_rfl)) k3 bel lt3) trodAll_mk0)))),rfl,bel.frame _,fun h=>by cases h⟩
theorem zLj:Rows.SoundLiveSaid:=
 OpenClaim.holds_of_wide 6 Tryz.f6 rfl rfl rfl rfl rfl rfl rfl ⟨rfl,rfl,rfl,rfl,rfl⟩ rfl rfl rfl rfl rfl (by kernel_rfl) Tryz.func6 (by kernel_rfl)
  (Gt (by kernel_rfl)) (by unfold Func.isWrapper;first|(rw[QH (by decide+kernel)];kernel_rfl)|(rw[QC (by decide+kernel)];exact⟨rfl,rfl⟩))
  (fun os started H enc _=>zVG os started H enc)
theorem proved:Rows.SoundLiveCardSaid:=
 Claim7.holds_tied_plain_at .later [] [.data,.data] true (true, "bdd5ab0e40488c6f0acff639f565cb5ad14321966024cd585e5bf17875576e7a") true
  zLj (fun _ h=>by cases h) (by kernel_rfl) (fun _ h=>by cases h) soundLive_row_tie rfl ⟨rfl,rfl⟩ (by kernel_rfl) rfl
  (fun f fn hf hfn=>by
   obtain rfl:f=6:=GB ((show Tryz.prog.funcNamed "fescue/fescuelaw12.SoundLive"=some 6 by kernel_rfl).symm.trans hf) |>.symm;obtain rfl:fn=Tryz.f6:=(GB (Tryz.func6.symm.trans hfn)).symm;exact⟨by kernel_rfl,fun j t ht=>by
    rw[Tryz.params6]at ht;revert ht;match j with
    |0=>intro ht;cases ht;kernel_rfl
    |1=>intro ht;cases ht;kernel_rfl
    |2=>intro ht;cases ht;kernel_rfl
    |3=>intro ht;cases ht;kernel_rfl
    |_+4=>intro ht;cases ht⟩)
  (by kernel_rfl)
#print axioms proved
end Go.Proofs.YteekipjpghikkaaGreatDoor.soundLive
