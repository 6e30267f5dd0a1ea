/- NodeBack: for all arguments, in whatever memory they lie, where the program's own tables stand as its text lays them, the function returns true, and what was there stays as it was. Shown by a run of an abstract machine, which is proved sound against the model (the texts beside this one). -/
import Derived.Test.YtfnndahpddkniaaGreatDoorJl
import Derived.Test.YtfnndahpddkniaaGreatDoorJf
import Derived.Test.YtfnndahpddkniaaGreatDoorAmD
import Derived.Test.YtfnndahpddkniaaGreatDoorAmU
import Derived.Test.YtfnndahpddkniaaGreatDoorRows
import Derived.Test.YtfnndahpddkniaaGreatDoorCards
import Derived.Test.YtfnndahpddkniaaGreatDoorTie
import Derived.WalkKit
import Derived.ProofKit
import Derived.LaidMore
import Derived.OpenShut
import Derived.ShutString
import Derived.ChangeOld
import Derived.HandedShaped
import Derived.Stop.Joined
import Derived.SevenTiedAt
set_option linter.unusedVariables false
set_option linter.unusedSimpArgs false
namespace Go.Proofs.YtfnndahpddkniaaGreatDoor.nodeBack
open Go.ChangeShapes Go.WideShapes Go.ChangeAt Go.WideMaps Go.WideElems Go.RowKit Go.Am
open Go.ChangeMaps (open_string shut_string)
theorem own:ownKnob Tryz.prog.godebug=none:=by kernel_rfl
theorem zJE:laidOutB Tryz.prog=true:=by kernel_rfl
theorem zSb:Nat.ble (Tryz.prog.globals.size+1) (begin Tryz.prog (fun _ _=>0) default).world.heap.size=true:=by kernel_rfl
theorem room {w:World} (h:w.ShapedOpen Tryz.prog):Tryz.prog.globals.size<=w.heap.size:=by
 obtain⟨o,_,h1,_⟩:=h.2 Tryz.prog.globals.size (QE _) (QL zSb);exact Nat.le_of_lt (Gn.1 h1).1
def zGh:List (String×DataW Unit):=[("fescue/shape.table",Rows.laid_fescue_shape_table)]
def zS0:List Value:=zDt 16 (Rows.laid_fescue_shape_table:DataW Unit)
def laidL:List (Nat×List Value):=[(0,zS0)]
theorem zr:(laidL.all fun x=>Nat.ble (x.1+1) Tryz.prog.globals.size&&yQ x.2)=true:=by kernel_rfl
theorem zR3:zt (Zl Tryz.prog.globals.size laidL) 0=some y9/\0<(Zl Tryz.prog.globals.size laidL).n:=⟨by kernel_rfl,QL (by kernel_rfl)⟩
theorem zTP:(Zl Tryz.prog.globals.size laidL).mark<=(Zl Tryz.prog.globals.size laidL).n:=QL (by kernel_rfl)
theorem zNJ (os:Os) (args:Array Value):laidMetH Tryz.prog zGh ((World.doorLaid Tryz.prog 4000 os).forCall (fun _ _=>0) ⟨#[],args,[]⟩).memory:=
 laidMetH_of_parts3 (fuel:=8) (laidMet_of_run' 8 (by kernel_rfl) (by kernel_rfl)) (by kernel_rfl) (by kernel_rfl)
theorem zO7 {W:World} (h:laidMetH Tryz.prog zGh W):∀ x∈laidL,∃ elem fr,W.heap[x.1]?=some (.cells x.2.toArray elem fr):=by
 rw[MakeChecks.laidMetH_plain _ _ _ (by kernel_rfl)]at h;obtain⟨ps,⟨G0,T0,cs0,f0,p0,q0,hg0,ht0,hv0,hd0,_,_⟩,_,_⟩:=h;obtain rfl:=Qv ((show Tryz.prog.globalNamed "fescue/shape.table"=some 0 by kernel_rfl).symm.trans hg0);obtain⟨E0,hE0⟩:∃ E,(Tryz.prog.globals[0]?).map (·.type)=some E/\zBk Tryz.prog 16 E=true:=⟨((Tryz.prog.globals[0]?).map (·.type)).getD 0,by kernel_rfl,by kernel_rfl⟩;obtain rfl:=Qv (hE0.1.symm.trans ht0);have b0:=zId hg0 hv0 hd0 hE0.2;intro x hx;simp only[laidL,GO,List.mem_nil_iff,or_false]at hx;subst hx;exact b0
set_option maxRecDepth 100000 in
theorem zR2 (os:Os) (started:os.Started) (H:Type) (enc:TypeId×Value->H):
  ReturnsInHanded {} Tryz.checked os 7 .any (fun w args=>(Rows.nodeBackSpec.pre enc Tryz.prog Tryz.f7 [] false w args/\laidMetH Tryz.prog zGh w)/\sizedMet enc Tryz.prog Tryz.f7 (OpenSpec.ofChange Rows.nodeBackSpec) false w args)
   (Rows.nodeBackSpec.post enc Tryz.prog Tryz.f7 false true false false):=by
 refine zGY (C:=Tryz.checked) (X:=fun w _=>laidMetH Tryz.prog zGh w) (fun _ _ _ hh h=>h.of_heap hh) own started (by kernel_rfl) Tryz.func7
  (ChangeSpec.witness_shaped (enc:=enc) (C:=Tryz.checked) (os:=os) (X:=fun w _=>laidMetH Tryz.prog zGh w) false (World.doorLaid Tryz.prog 4000 os) #[.agg #[.slice none 0 0,.slice none 0 0],.int .i64 0] 8 rfl (World.shaped_of_RefB (by kernel_rfl) (by kernel_rfl)) (by kernel_rfl) (by kernel_rfl) (by kernel_rfl) (zNJ os _)) ?_
 intro W base args ds gs before hval0 hW hsz hL hsh;have hval:∀ (j:Nat) t v,Tryz.f7.params[j]?=some t->args[j]?=some v->Value.okWide Tryz.prog W .any base t v:=hval0;have hW':=hW;obtain⟨p,q,hA0,hV,rfl,hfz,hnd⟩:=hW;have hA:DataW.TrodAll enc Tryz.prog W 0 (fun _=>true) true Tryz.f7.params.toList args.toList ds p:=hA0;rw[Tryz.params7]at hA hval;obtain⟨v0,vs0,d0,ds0,p0,q0,hargs,rfl,rfl,h0,r0⟩:=trodAll_cons hA;obtain⟨v1,vs1,d1,ds1,p1,q1,rfl,rfl,rfl,h1,r1⟩:=trodAll_cons r0;obtain⟨rfl,rfl,rfl⟩:=trodAll_nil r1;obtain rfl:args=#[v0,v1]:=by cases args;simp_all
 obtain⟨rfl,rfl⟩:=trodVars_none hV;have hszp:∀ (i:Nat) t d,([25,3]:List TypeId)[i]?=some t->([d0,d1]:List (DataW H))[i]?=some d->wOk Tryz.prog t d:=zEM (fun m hm=>by
  have:=QU.1 hsz m (by rw[Tryz.params7];exact hm);exact G3 this)
 have c:=zTx (P:=Tryz.prog) (room hsh) laidL fun x hx=>by
  have h1:=QU.1 zr x hx;rw[QF]at h1;exact⟨QL h1.1,h1.2,zO7 hL x hx⟩
 have lt0:∀ x∈p0,x.block<W.heap.size:=by obtain⟨m,hm⟩:=h0;exact DataW.trod_lt m _ _ _ hm
 have k0:=h0;obtain⟨σ0,g0,acs0,c0,e0,le0,l0,rd0⟩:=zFE h0 16 (by kernel_rfl) c;have lt1:∀ x∈p1,x.block<W.heap.size:=by obtain⟨m,hm⟩:=h1;exact DataW.trod_lt m _ _ _ hm
 have k1:=h1;obtain⟨σ1,g1,acs1,c1,e1,le1,l1,rd1⟩:=zFE h1 16 (by kernel_rfl) c0;have rd0:=(rd0.ext e1);have l0:LRel σ1 acs0 _:=LRel.mono ((le1)) l0;obtain⟨b0,rfl⟩:=zH6 (.inr ⟨_,Tryz.underlying25⟩) (hval 0 25 v0 rfl rfl);obtain⟨vt0,vf0,T0,F0,rfl,sT0,sF0,bT0,bF0⟩:=zRB _ _ rd0 (hszp 0 25 d0 rfl rfl);have V0:=zP6 l0;have rd1:=rd1;have l1:LRel σ1 acs1 _:=l1;obtain⟨a1,rfl⟩:=okWide_int Tryz.underlying3 (hval 1 3 v1 rfl rfl);obtain⟨x1,rfl,w1⟩:=Zh rd1 Tryz.underlying3;have V1:=zOF l1 rfl;have tt:Tbl g1:=Tbl.ext zR3 (e0.trans e1);have hm:g1.mark<=g1.n:=by have h1:=((e0.trans e1)).mark;have h2:=((e0.trans e1)).n;have h3:=zTP;omega
 clear hA0 hval0;refine(zLL Tryz.checked.mixed tb_ok c1 (LRel.cons V0 (LRel.cons V1 (LRel.nil _))) (zHn _ _ _ _ _ _ tt hm sT0 sF0 bT0 bF0)).mono fun e W' ⟨he,bel⟩=> ?_;subst he;exact⟨_,rfl,_,_,_,[],_,[],hW',trodAll_mk1 (shut_bool Tryz.underlying4 _),(trodAll_cons_mk (Below.trod zJE (by kernel_rfl) (G3 (by kernel_rfl)) k0 bel lt0) (trodAll_cons_mk (Below.trod zJE (by kernel_rfl) (G3 (by kernel_rfl)) k1 bel lt1) trodAll_mk0)),rfl,bel.frame _,fun h=>by cases h⟩
theorem zLN:Rows.NodeBackSaid:=
 OpenClaim.holds_of_wide 7 Tryz.f7 rfl rfl rfl rfl rfl rfl rfl ⟨rfl,rfl,rfl,rfl,rfl⟩ rfl rfl rfl rfl rfl (by kernel_rfl) Tryz.func7 (by kernel_rfl)
  (G3 (by kernel_rfl)) (by unfold Func.isWrapper;first|(rw[QI (by decide+kernel)];kernel_rfl)|(rw[QD (by decide+kernel)];exact⟨rfl,rfl⟩))
  (fun os started H enc _=>zR2 os started H enc)
theorem proved:Rows.NodeBackCardSaid:=
 Claim7.holds_tied_plain_at .later [] [.data] true (true, "aa8cc59f4dd9731bcf0b13e0edb9834b3ed6a84869d6777b79fcf284f9a0c67e") true
  zLN (fun _ h=>by cases h) (by kernel_rfl) (fun _ h=>by cases h) nodeBack_row_tie rfl ⟨rfl,rfl⟩ (by kernel_rfl) rfl
  (fun f fn hf hfn=>by
   obtain rfl:f=7:=Qv ((show Tryz.prog.funcNamed "fescue/fescuelaw18.NodeBack"=some 7 by kernel_rfl).symm.trans hf) |>.symm;obtain rfl:fn=Tryz.f7:=(Qv (Tryz.func7.symm.trans hfn)).symm;exact⟨by kernel_rfl,fun j t ht=>by
    rw[Tryz.params7]at ht;revert ht;match j with
    |0=>intro ht;cases ht;kernel_rfl
    |1=>intro ht;cases ht;kernel_rfl
    |_+2=>intro ht;cases ht⟩)
  (by kernel_rfl)
#print axioms proved
end Go.Proofs.YtfnndahpddkniaaGreatDoor.nodeBack
