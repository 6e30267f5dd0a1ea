/- ConsNodes: for all arguments, in whatever memory they lie, where the program's own tables stand as its text lays them, the function returns true, and what was there stays as it was. Shown by a run of an abstract machine, which is proved sound against the model (the texts beside this one). -/
import Derived.Test.YtmejfcakhpihlaaGreatDoorJo
import Derived.Test.YtmejfcakhpihlaaGreatDoorJf
import Derived.Test.YtmejfcakhpihlaaGreatDoorAmD
import Derived.Test.YtmejfcakhpihlaaGreatDoorAmU
import Derived.Test.YtmejfcakhpihlaaGreatDoorRows
import Derived.Test.YtmejfcakhpihlaaGreatDoorCards
import Derived.Test.YtmejfcakhpihlaaGreatDoorTie
import Derived.WalkKit
import Derived.ProofKit
import Derived.LaidMore
import Derived.OpenShut
import Derived.ShutString
import Derived.ChangeOld
import Derived.HandedShaped
import Derived.Stop.Joined
import Derived.SevenTiedAt
set_option linter.unusedVariables false
set_option linter.unusedSimpArgs false
namespace Go.Proofs.YtmejfcakhpihlaaGreatDoor.consNodes
open Go.ChangeShapes Go.WideShapes Go.ChangeAt Go.WideMaps Go.WideElems Go.RowKit Go.Am
open Go.ChangeMaps (open_string shut_string)
theorem own:ownKnob Tryz.prog.godebug=none:=by kernel_rfl
theorem zKn:laidOutB Tryz.prog=true:=by kernel_rfl
theorem zTh:Nat.ble (Tryz.prog.globals.size+1) (begin Tryz.prog (fun _ _=>0) default).world.heap.size=true:=by kernel_rfl
theorem room {w:World}(h:w.ShapedOpen Tryz.prog):Tryz.prog.globals.size<=w.heap.size:=by
 obtain⟨o,_,h1,_⟩:=h.2 Tryz.prog.globals.size (QE _) (QN zTh);exact Nat.le_of_lt (Gs.1 h1).1
def zHg:List (String×DataW Unit):=[("fescue/shape.table",Rows.laid_fescue_shape_table)]
def zTG:List Value:=zEQ 16 (Rows.laid_fescue_shape_table:DataW Unit)
def laidL:List (Nat×List Value):=[(0,zTG)]
theorem yC:(laidL.all fun x=>Nat.ble (x.1+1) Tryz.prog.globals.size&&yZ x.2)=true:=by kernel_rfl
theorem zUU:yD (Z3 Tryz.prog.globals.size laidL) 0=some ZS/\0<(Z3 Tryz.prog.globals.size laidL).n:=⟨by kernel_rfl,QN (by kernel_rfl)⟩
theorem zVg:(Z3 Tryz.prog.globals.size laidL).mark<=(Z3 Tryz.prog.globals.size laidL).n:=QN (by kernel_rfl)
theorem zPL (os:Os)(args:Array Value):laidMetH Tryz.prog zHg ((World.doorLaid Tryz.prog 4000 os).forCall (fun _ _=>0) ⟨#[],args,[]⟩).memory:=
 laidMetH_of_parts3 (fuel:=8) (laidMet_of_run' 8 (by kernel_rfl) (by kernel_rfl)) (by kernel_rfl) (by kernel_rfl)
theorem zST {W:World}(h:laidMetH Tryz.prog zHg W):∀ x∈laidL,∃ elem fr,W.heap[x.1]?=some (.cells x.2.toArray elem fr):=by
 rw[MakeChecks.laidMetH_plain _ _ _ (by kernel_rfl)]at h;obtain⟨ps,⟨G0,T0,cs0,f0,p0,q0,hg0,ht0,hv0,hd0,_,_⟩,_,_⟩:=h;obtain rfl:=Q3 ((show Tryz.prog.globalNamed "fescue/shape.table"=some 0 by kernel_rfl).symm.trans hg0);obtain⟨E0,hE0⟩:∃ E,(Tryz.prog.globals[0]?).map (·.type)=some E/\zCh Tryz.prog 16 E=true:=⟨((Tryz.prog.globals[0]?).map (·.type)).getD 0,by kernel_rfl,by kernel_rfl⟩;obtain rfl:=Q3 (hE0.1.symm.trans ht0);have b0:=zJ3 hg0 hv0 hd0 hE0.2;intro x hx;simp only[laidL,GK,List.mem_nil_iff,or_false]at hx;subst hx;exact b0
set_option maxRecDepth 100000 in
theorem zUk (os:Os)(started:os.Started)(H:Type)(enc:TypeId×Value->H):
  ReturnsInHanded {} Tryz.checked os 6 .any (fun w args=>(Rows.consNodesSpec.pre enc Tryz.prog Tryz.f6 [] false w args/\laidMetH Tryz.prog zHg w)/\sizedMet enc Tryz.prog Tryz.f6 (OpenSpec.ofChange Rows.consNodesSpec) false w args)
   (Rows.consNodesSpec.post enc Tryz.prog Tryz.f6 false true false false):=by
 refine zGy (C:=Tryz.checked) (X:=fun w _=>laidMetH Tryz.prog zHg w) (fun _ _ _ hh h=>h.of_heap hh) own started (by kernel_rfl) Tryz.func6
  (ChangeSpec.witness_shaped (enc:=enc) (C:=Tryz.checked) (os:=os) (X:=fun w _=>laidMetH Tryz.prog zHg w) false (World.doorLaid Tryz.prog 4000 os) #[.agg #[.slice none 0 0,.slice none 0 0],.int .i64 0] 8 rfl (World.shaped_of_RefB (by kernel_rfl) (by kernel_rfl)) (by kernel_rfl) (by kernel_rfl) (by kernel_rfl) (zPL os _)) ?_
 intro W base args ds gs before hval0 hW hsz hL hsh;have hval:∀ (j:Nat) t v,Tryz.f6.params[j]?=some t->args[j]?=some v->Value.okWide Tryz.prog W .any base t v:=hval0;have hW':=hW;obtain⟨p,q,hA0,hV,rfl,hfz,hnd⟩:=hW;have hA:DataW.TrodAll enc Tryz.prog W 0 (fun _=>true) true Tryz.f6.params.toList args.toList ds p:=hA0;rw[Tryz.params6]at hA hval;obtain⟨v0,vs0,d0,ds0,p0,q0,hargs,rfl,rfl,h0,r0⟩:=trodAll_cons hA;obtain⟨v1,vs1,d1,ds1,p1,q1,rfl,rfl,rfl,h1,r1⟩:=trodAll_cons r0;obtain⟨rfl,rfl,rfl⟩:=trodAll_nil r1;obtain rfl:args=#[v0,v1]:=by cases args;simp_all
 obtain⟨rfl,rfl⟩:=trodVars_none hV;have hszp:∀ (i:Nat) t d,([25,3]:List TypeId)[i]?=some t->([d0,d1]:List (DataW H))[i]?=some d->BA Tryz.prog t d:=zER (fun m hm=>by
  have:=QX.1 hsz m (by rw[Tryz.params6];exact hm);exact G9 this)
 have c:=zVE (P:=Tryz.prog) (room hsh) laidL fun x hx=>by
  have h1:=QX.1 yC x hx;rw[QF]at h1;exact⟨QN h1.1,h1.2,zST hL x hx⟩
 have lt0:∀ x∈p0,x.block<W.heap.size:=by obtain⟨m,hm⟩:=h0;exact DataW.trod_lt m _ _ _ hm
 have k0:=h0;obtain⟨σ0,g0,acs0,c0,e0,le0,l0,rd0⟩:=zFP h0 16 (by kernel_rfl) c;have lt1:∀ x∈p1,x.block<W.heap.size:=by obtain⟨m,hm⟩:=h1;exact DataW.trod_lt m _ _ _ hm
 have k1:=h1;obtain⟨σ1,g1,acs1,c1,e1,le1,l1,rd1⟩:=zFP h1 16 (by kernel_rfl) c0;have rd0:=(rd0.ext e1);have l0:WE σ1 acs0 _:=WE.mono ((le1)) l0;obtain⟨b0,rfl⟩:=zJA (.inr ⟨_,Tryz.underlying25⟩) (hval 0 25 v0 rfl rfl);obtain⟨vt0,vf0,T0,F0,rfl,sT0,sF0,bT0,bF0⟩:=zR0 _ _ rd0 (hszp 0 25 d0 rfl rfl);have V0:=zRJ l0;have rd1:=rd1;have l1:WE σ1 acs1 _:=l1;obtain⟨a1,rfl⟩:=okWide_int Tryz.underlying3 (hval 1 3 v1 rfl rfl);obtain⟨x1,rfl,w1⟩:=Zz rd1 Tryz.underlying3;have V1:=zNJ l1 rfl;have tt:Be g1:=Be.ext zUU (e0.trans e1);have hm:g1.mark<=g1.n:=by have h1:=((e0.trans e1)).mark;have h2:=((e0.trans e1)).n;have h3:=zVg;omega
 clear hA0 hval0;refine(zLT Tryz.checked.mixed tb_ok c1 (WE.cons V0 (WE.cons V1 (WE.nil _))) (zGj _ _ _ _ _ _ tt hm sT0 sF0 bT0 bF0)).mono fun e W' ⟨he,bel⟩=> ?_;subst he;exact⟨_,rfl,_,_,_,[],_,[],hW',trodAll_mk1 (shut_bool Tryz.underlying4 _),(trodAll_cons_mk (Below.trod zKn (by kernel_rfl) (G9 (by kernel_rfl)) k0 bel lt0) (trodAll_cons_mk (Below.trod zKn (by kernel_rfl) (G9 (by kernel_rfl)) k1 bel lt1) trodAll_mk0)),rfl,bel.frame _,fun h=>by cases h⟩
theorem zKz:Rows.ConsNodesSaid:=
 OpenClaim.holds_of_wide 6 Tryz.f6 rfl rfl rfl rfl rfl rfl rfl ⟨rfl,rfl,rfl,rfl,rfl⟩ rfl rfl rfl rfl rfl (by kernel_rfl) Tryz.func6 (by kernel_rfl)
  (G9 (by kernel_rfl)) (by unfold Func.isWrapper;first|(rw[QJ (by decide+kernel)];kernel_rfl)|(rw[QC (by decide+kernel)];exact⟨rfl,rfl⟩))
  (fun os started H enc _=>zUk os started H enc)
theorem proved:Rows.ConsNodesCardSaid:=
 Claim7.holds_tied_plain_at .later [] [.data] true (true, "2287c5c85fa43a31fa31d1426d54e8659a15e3ebae0809714f81fa8e5def58ff") true
  zKz (fun _ h=>by cases h) (by kernel_rfl) (fun _ h=>by cases h) consNodes_row_tie rfl ⟨rfl,rfl⟩ (by kernel_rfl) rfl
  (fun f fn hf hfn=>by
   obtain rfl:f=6:=Q3 ((show Tryz.prog.funcNamed "fescue/fescuelaw19.ConsNodes"=some 6 by kernel_rfl).symm.trans hf) |>.symm;obtain rfl:fn=Tryz.f6:=(Q3 (Tryz.func6.symm.trans hfn)).symm;exact⟨by kernel_rfl,fun j t ht=>by
    rw[Tryz.params6]at ht;revert ht;match j with
    |0=>intro ht;cases ht;kernel_rfl
    |1=>intro ht;cases ht;kernel_rfl
    |_+2=>intro ht;cases ht⟩)
  (by kernel_rfl)
#print axioms proved
end Go.Proofs.YtmejfcakhpihlaaGreatDoor.consNodes
