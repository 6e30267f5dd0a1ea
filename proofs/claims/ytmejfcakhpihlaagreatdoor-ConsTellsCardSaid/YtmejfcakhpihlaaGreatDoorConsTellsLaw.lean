/- ConsTells: for all arguments, in whatever memory they lie, where the program's own tables stand as its text lays them, the function returns true, and what was there stays as it was. Shown by a run of an abstract machine, which is proved sound against the model (the texts beside this one). -/
import Derived.Test.YtmejfcakhpihlaaGreatDoorJq
import Derived.Test.YtmejfcakhpihlaaGreatDoorCards
import Derived.Test.YtmejfcakhpihlaaGreatDoorTie
import Derived.WalkKit
import Derived.ProofKit
import Derived.LaidMore
import Derived.OpenShut
import Derived.ShutString
import Derived.ChangeOld
import Derived.HandedShaped
import Derived.Stop.Joined
import Derived.SevenTiedAt
set_option linter.all false
namespace Go.Proofs.YtmejfcakhpihlaaGreatDoor.consTells
open Go.ChangeShapes Go.WideShapes Go.ChangeAt Go.WideMaps Go.WideElems Go.RowKit Go.Am
open Go.ChangeMaps (open_string shut_string)
theorem own:ownKnob Tryz.prog.godebug=none:=by kernel_rfl
theorem zPG:laidOutB Tryz.prog=true:=by kernel_rfl
theorem zQv:Nat.ble (Tryz.prog.globals.size+1) (begin Tryz.prog (fun _ _=>0) default).world.heap.size=true:=by kernel_rfl
theorem room {w:World}(h:w.ShapedOpen Tryz.prog):Tryz.prog.globals.size<=w.heap.size:=by
 obtain⟨o,_,h1,_⟩:=h.2 Tryz.prog.globals.size (QE _) (QS zQv);exact Nat.le_of_lt (G1.1 h1).1
def zHW:List (String×DataW Unit):=[("fescue/shape.table",Rows.laid_fescue_shape_table)]
def zA6:List Value:=zFA 16 (Rows.laid_fescue_shape_table:DataW Unit)
def laidL:List (Nat×List Value):=[(0,zA6)]
theorem zLA:(laidL.all fun x=>Nat.ble (x.1+1) Tryz.prog.globals.size&&Zr x.2)=true:=by kernel_rfl
theorem zQN:yj (zBd Tryz.prog.globals.size laidL) 0=some Yp/\0<(zBd Tryz.prog.globals.size laidL).n:=⟨by kernel_rfl,QS (by kernel_rfl)⟩
theorem zRa:(zBd Tryz.prog.globals.size laidL).mark<=(zBd Tryz.prog.globals.size laidL).n:=QS (by kernel_rfl)
theorem zM2 (os:Os)(args:Array Value):laidMetH Tryz.prog zHW ((World.doorLaid Tryz.prog 4000 os).forCall (fun _ _=>0) ⟨#[],args,[]⟩).memory:=
 laidMetH_of_parts3 (fuel:=8) (laidMet_of_run' 8 (by kernel_rfl) (by kernel_rfl)) (by kernel_rfl) (by kernel_rfl)
theorem zOd {W:World}(h:laidMetH Tryz.prog zHW W):∀ x∈laidL,∃ elem fr,W.heap[x.1]?=some (.cells x.2.toArray elem fr):=by
 rw[MakeChecks.laidMetH_plain _ _ _ (by kernel_rfl)]at h;obtain⟨ps,⟨G0,T0,cs0,f0,p0,q0,hg0,ht0,hv0,hd0,_,_⟩,_,_⟩:=h;obtain rfl:=GL ((show Tryz.prog.globalNamed "fescue/shape.table"=some 0 by kernel_rfl).symm.trans hg0);obtain⟨E0,hE0⟩:∃ E,(Tryz.prog.globals[0]?).map (·.type)=some E/\zCz Tryz.prog 16 E=true:=⟨((Tryz.prog.globals[0]?).map (·.type)).getD 0,by kernel_rfl,by kernel_rfl⟩;obtain rfl:=GL (hE0.1.symm.trans ht0);have b0:=zJm hg0 hv0 hd0 hE0.2;intro x hx;simp only[laidL,GG,List.mem_nil_iff,or_false]at hx;subst hx;exact b0
set_option maxRecDepth 100000 in
theorem zQM (os:Os)(started:os.Started)(H:Type)(enc:TypeId×Value->H):
  ReturnsInHanded {} Tryz.checked os 3 .any (fun w args=>(Rows.consTellsSpec.pre enc Tryz.prog Tryz.f3 [] false w args/\laidMetH Tryz.prog zHW w)/\sizedMet enc Tryz.prog Tryz.f3 (OpenSpec.ofChange Rows.consTellsSpec) false w args)
   (Rows.consTellsSpec.post enc Tryz.prog Tryz.f3 false true false false):=by
 refine zGz (C:=Tryz.checked) (X:=fun w _=>laidMetH Tryz.prog zHW w) (fun _ _ _ hh h=>h.of_heap hh) own started (by kernel_rfl) Tryz.func3
  (ChangeSpec.witness_shaped (enc:=enc) (C:=Tryz.checked) (os:=os) (X:=fun w _=>laidMetH Tryz.prog zHW w) false (World.doorLaid Tryz.prog 4000 os) #[.agg #[.slice none 0 0,.slice none 0 0]] 8 rfl (World.shaped_of_RefB (by kernel_rfl) (by kernel_rfl)) (by kernel_rfl) (by kernel_rfl) (by kernel_rfl) (zM2 os _)) ?_
 intro W base args ds gs before hval0 hW hsz hL hsh;have hval:∀ (j:Nat) t v,Tryz.f3.params[j]?=some t->args[j]?=some v->Value.okWide Tryz.prog W .any base t v:=hval0;have hW':=hW;obtain⟨p,q,hA0,hV,rfl,hfz,hnd⟩:=hW;have hA:DataW.TrodAll enc Tryz.prog W 0 (fun _=>true) true Tryz.f3.params.toList args.toList ds p:=hA0;rw[Tryz.params3]at hA hval;obtain⟨v0,vs0,d0,ds0,p0,q0,hargs,rfl,rfl,h0,r0⟩:=trodAll_cons hA;obtain⟨rfl,rfl,rfl⟩:=trodAll_nil r0;obtain rfl:args=#[v0]:=by cases args;simp_all
 obtain⟨rfl,rfl⟩:=trodVars_none hV;have hszp:∀ (i:Nat) t d,([25]:List TypeId)[i]?=some t->([d0]:List (DataW H))[i]?=some d->BN Tryz.prog t d:=zFE (fun m hm=>by
  have:=QX.1 hsz m (by rw[Tryz.params3];exact hm);exact of_decide_eq_true this)
 have c:=zRQ (P:=Tryz.prog) (room hsh) laidL fun x hx=>by
  have h1:=QX.1 zLA x hx;rw[QN]at h1;exact⟨QS h1.1,h1.2,zOd hL x hx⟩
 have lt0:∀ x∈p0,x.block<W.heap.size:=by obtain⟨m,hm⟩:=h0;exact DataW.trod_lt m _ _ _ hm
 have k0:=h0;obtain⟨σ0,g0,acs0,c0,e0,le0,l0,rd0⟩:=zLb h0 16 (by kernel_rfl) c;have rd0:=rd0;have l0:WW σ0 acs0 _:=l0;obtain⟨b0,rfl⟩:=zJi (.inr ⟨_,Tryz.underlying25⟩) (hval 0 25 v0 rfl rfl);obtain⟨vt0,vf0,T0,F0,rfl,sT0,sF0,bT0,bF0⟩:=zO2 _ _ rd0 (hszp 0 25 d0 rfl rfl);have V0:=zPg l0;have tt:Br g0:=Br.ext zQN e0;have hm:g0.mark<=g0.n:=by have h1:=(e0).mark;have h2:=(e0).n;have h3:=zRa;omega
 clear hA0 hval0;refine(zKm Tryz.checked.mixed tb_ok c0 (WW.cons V0 (WW.nil _)) (zHD _ _ _ _ _ tt hm sT0 sF0 bT0 bF0)).mono fun e W' ⟨he,bel⟩=> ?_;subst he;exact⟨_,rfl,_,_,_,[],_,[],hW',trodAll_mk1 (shut_bool Tryz.underlying4 _),(trodAll_cons_mk (Below.trod zPG (by kernel_rfl) (of_decide_eq_true (by kernel_rfl)) k0 bel lt0) trodAll_mk0),rfl,bel.frame _,fun h=>by cases h⟩
theorem zKu:Rows.ConsTellsSaid:=
 OpenClaim.holds_of_wide 3 Tryz.f3 rfl rfl rfl rfl rfl rfl rfl ⟨rfl,rfl,rfl,rfl,rfl⟩ rfl rfl rfl rfl rfl (by kernel_rfl) Tryz.func3 (by kernel_rfl)
  (of_decide_eq_true (by kernel_rfl)) (by unfold Func.isWrapper;first|(rw[QF (by decide+kernel)];kernel_rfl)|(rw[QC (by decide+kernel)];exact⟨rfl,rfl⟩))
  (fun os started H enc _=>zQM os started H enc)
theorem proved:Rows.ConsTellsCardSaid:=
 Claim7.holds_tied_plain_at .later [] [.data] true (true, "2287c5c85fa43a31fa31d1426d54e8659a15e3ebae0809714f81fa8e5def58ff") true
  zKu (fun _ h=>by cases h) (by kernel_rfl) (fun _ h=>by cases h) consTells_row_tie rfl ⟨rfl,rfl⟩ (by kernel_rfl) rfl
  (fun f fn hf hfn=>by
   obtain rfl:f=3:=GL ((show Tryz.prog.funcNamed "fescue/fescuelaw19.ConsTells"=some 3 by kernel_rfl).symm.trans hf) |>.symm;obtain rfl:fn=Tryz.f3:=(GL (Tryz.func3.symm.trans hfn)).symm;exact⟨by kernel_rfl,fun j t ht=>by
    rw[Tryz.params3]at ht;revert ht;match j with
    |0=>intro ht;cases ht;kernel_rfl
    |_+1=>intro ht;cases ht⟩)
  (by kernel_rfl)
#print axioms proved
end Go.Proofs.YtmejfcakhpihlaaGreatDoor.consTells
