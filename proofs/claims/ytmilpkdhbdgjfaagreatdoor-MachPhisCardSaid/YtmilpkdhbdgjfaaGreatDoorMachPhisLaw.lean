/- MachPhis: for all arguments, in whatever memory they lie, where the program's own tables stand as its text lays them, the function returns true, and what was there stays as it was. Shown by a run of an abstract machine, which is proved sound against the model (the texts beside this one). -/
import Derived.Test.YtmilpkdhbdgjfaaGreatDoorJm
import Derived.Test.YtmilpkdhbdgjfaaGreatDoorCards
import Derived.Test.YtmilpkdhbdgjfaaGreatDoorTie
import Derived.WalkKit
import Derived.ProofKit
import Derived.LaidMore
import Derived.OpenShut
import Derived.ShutString
import Derived.ChangeOld
import Derived.HandedShaped
import Derived.Stop.Joined
import Derived.SevenTiedAt
set_option linter.all false
namespace Go.Proofs.YtmilpkdhbdgjfaaGreatDoor.machPhis
open Go.ChangeShapes Go.WideShapes Go.ChangeAt Go.WideMaps Go.WideElems Go.RowKit Go.Am
open Go.ChangeMaps (open_string shut_string)
theorem own:ownKnob Tryz.prog.godebug=none:=by kernel_rfl
theorem zFv:laidOutB Tryz.prog=true:=by kernel_rfl
theorem zPj:Nat.ble (Tryz.prog.globals.size+1) (begin Tryz.prog (fun _ _=>0) default).world.heap.size=true:=by kernel_rfl
theorem room {w:World}(h:w.ShapedOpen Tryz.prog):Tryz.prog.globals.size<=w.heap.size:=by
 obtain⟨o,_,h1,_⟩:=h.2 Tryz.prog.globals.size (QE _) (QO zPj);exact Nat.le_of_lt (Gs.1 h1).1
def zHX:List (String×DataW Unit):=[("fescue/shape.table",Rows.laid_fescue_shape_table)]
def zIX:List Value:=zEQ 16 (Rows.laid_fescue_shape_table:DataW Unit)
def laidL:List (Nat×List Value):=[(0,zIX)]
theorem zKU:(laidL.all fun x=>Nat.ble (x.1+1) Tryz.prog.globals.size&&y8 x.2)=true:=by kernel_rfl
theorem zPX:zv (YX Tryz.prog.globals.size laidL) 0=some ZK/\0<(YX Tryz.prog.globals.size laidL).n:=⟨by kernel_rfl,QO (by kernel_rfl)⟩
theorem zQT:(YX Tryz.prog.globals.size laidL).mark<=(YX Tryz.prog.globals.size laidL).n:=QO (by kernel_rfl)
theorem zNY (os:Os)(args:Array Value):laidMetH Tryz.prog zHX ((World.doorLaid Tryz.prog 4000 os).forCall (fun _ _=>0) ⟨#[],args,[]⟩).memory:=
 laidMetH_of_parts3 (fuel:=8) (laidMet_of_run' 8 (by kernel_rfl) (by kernel_rfl)) (by kernel_rfl) (by kernel_rfl)
theorem zO4 {W:World}(h:laidMetH Tryz.prog zHX W):∀ x∈laidL,∃ elem fr,W.heap[x.1]?=some (.cells x.2.toArray elem fr):=by
 rw[MakeChecks.laidMetH_plain _ _ _ (by kernel_rfl)]at h;obtain⟨ps,⟨G0,T0,cs0,f0,p0,q0,hg0,ht0,hv0,hd0,_,_⟩,_,_⟩:=h;obtain rfl:=Q5 ((show Tryz.prog.globalNamed "fescue/shape.table"=some 0 by kernel_rfl).symm.trans hg0);obtain⟨E0,hE0⟩:∃ E,(Tryz.prog.globals[0]?).map (·.type)=some E/\zCa Tryz.prog 16 E=true:=⟨((Tryz.prog.globals[0]?).map (·.type)).getD 0,by kernel_rfl,by kernel_rfl⟩;obtain rfl:=Q5 (hE0.1.symm.trans ht0);have b0:=zIT hg0 hv0 hd0 hE0.2;intro x hx;simp only[laidL,GI,List.mem_nil_iff,or_false]at hx;subst hx;exact b0
set_option maxRecDepth 100000 in
theorem zP6 (os:Os)(started:os.Started)(H:Type)(enc:TypeId×Value->H):
  ReturnsInHanded {} Tryz.checked os 5 .any (fun w args=>(Rows.machPhisSpec.pre enc Tryz.prog Tryz.f5 [] false w args/\laidMetH Tryz.prog zHX w)/\sizedMet enc Tryz.prog Tryz.f5 (OpenSpec.ofChange Rows.machPhisSpec) false w args)
   (Rows.machPhisSpec.post enc Tryz.prog Tryz.f5 false true false false):=by
 refine zF6 (C:=Tryz.checked) (X:=fun w _=>laidMetH Tryz.prog zHX w) (fun _ _ _ hh h=>h.of_heap hh) own started (by kernel_rfl) Tryz.func5
  (ChangeSpec.witness_shaped (enc:=enc) (C:=Tryz.checked) (os:=os) (X:=fun w _=>laidMetH Tryz.prog zHX w) false (World.doorLaid Tryz.prog 4000 os) #[.agg #[.slice none 0 0,.slice none 0 0],.slice none 0 0,.int .i64 0] 8 rfl (World.shaped_of_RefB (by kernel_rfl) (by kernel_rfl)) (by kernel_rfl) (by kernel_rfl) (by kernel_rfl) (zNY os _)) ?_
 intro W base args ds gs before hval0 hW hsz hL hsh;have hval:∀ (j:Nat) t v,Tryz.f5.params[j]?=some t->args[j]?=some v->Value.okWide Tryz.prog W .any base t v:=hval0;have hW':=hW;obtain⟨p,q,hA0,hV,rfl,hfz,hnd⟩:=hW;have hA:DataW.TrodAll enc Tryz.prog W 0 (fun _=>true) true Tryz.f5.params.toList args.toList ds p:=hA0;rw[Tryz.params5]at hA hval;obtain⟨v0,vs0,d0,ds0,p0,q0,hargs,rfl,rfl,h0,r0⟩:=trodAll_cons hA;obtain⟨v1,vs1,d1,ds1,p1,q1,rfl,rfl,rfl,h1,r1⟩:=trodAll_cons r0;obtain⟨v2,vs2,d2,ds2,p2,q2,rfl,rfl,rfl,h2,r2⟩:=trodAll_cons r1;obtain⟨rfl,rfl,rfl⟩:=trodAll_nil r2;obtain rfl:args=#[v0,v1,v2]:=by cases args;simp_all
 obtain⟨rfl,rfl⟩:=trodVars_none hV;have hszp:∀ (i:Nat) t d,([34,48,3]:List TypeId)[i]?=some t->([d0,d1,d2]:List (DataW H))[i]?=some d->BB Tryz.prog t d:=zDy (fun m hm=>by
  have:=QV.1 hsz m (by rw[Tryz.params5];exact hm);exact Gv this)
 have c:=zQW (P:=Tryz.prog) (room hsh) laidL fun x hx=>by
  have h1:=QV.1 zKU x hx;rw[QJ]at h1;exact⟨QO h1.1,h1.2,zO4 hL x hx⟩
 have lt0:∀ x∈p0,x.block<W.heap.size:=by obtain⟨m,hm⟩:=h0;exact DataW.trod_lt m _ _ _ hm
 have k0:=h0;obtain⟨σ0,g0,acs0,c0,e0,le0,l0,rd0⟩:=zCe h0 16 (by kernel_rfl) c;have lt1:∀ x∈p1,x.block<W.heap.size:=by obtain⟨m,hm⟩:=h1;exact DataW.trod_lt m _ _ _ hm
 have k1:=h1;obtain⟨σ1,g1,acs1,c1,e1,le1,l1,rd1⟩:=zCe h1 16 (by kernel_rfl) c0;have lt2:∀ x∈p2,x.block<W.heap.size:=by obtain⟨m,hm⟩:=h2;exact DataW.trod_lt m _ _ _ hm
 have k2:=h2;obtain⟨σ2,g2,acs2,c2,e2,le2,l2,rd2⟩:=zCe h2 16 (by kernel_rfl) c1;have rd0:=((rd0.ext e1).ext e2);have l0:WW σ2 acs0 _:=WW.mono (Le.trans (le1) (le2)) l0;obtain⟨b0,rfl⟩:=zIN (.inr ⟨_,Tryz.underlying34⟩) (hval 0 34 v0 rfl rfl);obtain⟨vt0,vf0,T0,F0,rfl,sT0,sF0,bT0,bF0⟩:=zN1 _ _ rd0 (hszp 0 34 d0 rfl rfl);have V0:=zOr l0;have rd1:=(rd1.ext e2);have l1:WW σ2 acs1 _:=WW.mono ((le2)) l1;obtain⟨b1,m1,n1,rfl⟩:=okWide_slice Tryz.underlying48 (hval 1 48 v1 rfl rfl);obtain⟨x1,y1,rfl,s1,z1⟩:=zAS (c:=8) rd1 Tryz.underlying48 (by kernel_rfl) (by decide+kernel) (hszp 1 48 d1 rfl rfl) zQK;have V1:=zHd l1 rfl;have rd2:=rd2;have l2:WW σ2 acs2 _:=l2;obtain⟨a2,rfl⟩:=okWide_int Tryz.underlying3 (hval 2 3 v2 rfl rfl);obtain⟨x2,rfl,w2⟩:=yq rd2 Tryz.underlying3;have V2:=zHd l2 rfl;have tt:By g2:=By.ext zPX ((e0.trans e1).trans e2);have hm:g2.mark<=g2.n:=by have h1:=(((e0.trans e1).trans e2)).mark;have h2:=(((e0.trans e1).trans e2)).n;have h3:=zQT;omega
 clear hA0 hval0;refine(zLb Tryz.checked.mixed tb_ok c2 (WW.cons V0 (WW.cons V1 (WW.cons V2 (WW.nil _)))) (zHU _ _ _ _ _ _ _ _ tt hm sT0 sF0 s1 bT0 bF0 z1)).mono fun e W' ⟨he,bel⟩=> ?_;subst he;exact⟨_,rfl,_,_,_,[],_,[],hW',trodAll_mk1 (shut_bool Tryz.underlying4 _),(trodAll_cons_mk (Below.trod zFv (by kernel_rfl) (Gv (by kernel_rfl)) k0 bel lt0) (trodAll_cons_mk (Below.trod zFv (by kernel_rfl) (Gv (by kernel_rfl)) k1 bel lt1) (trodAll_cons_mk (Below.trod zFv (by kernel_rfl) (Gv (by kernel_rfl)) k2 bel lt2) trodAll_mk0))),rfl,bel.frame _,fun h=>by cases h⟩
theorem zLS:Rows.MachPhisSaid:=
 OpenClaim.holds_of_wide 5 Tryz.f5 rfl rfl rfl rfl rfl rfl rfl ⟨rfl,rfl,rfl,rfl,rfl⟩ rfl rfl rfl rfl rfl (by kernel_rfl) Tryz.func5 (by kernel_rfl)
  (Gv (by kernel_rfl)) (by unfold Func.isWrapper;first|(rw[QG (by decide+kernel)];kernel_rfl)|(rw[QC (by decide+kernel)];exact⟨rfl,rfl⟩))
  (fun os started H enc _=>zP6 os started H enc)
theorem proved:Rows.MachPhisCardSaid:=
 Claim7.holds_tied_plain_at .later [] [.data] true (true, "2f9f6c0b3c2de81906776dd94da15008e22d5ca9f51bda1fc08dc53776c5bfb8") true
  zLS (fun _ h=>by cases h) (by kernel_rfl) (fun _ h=>by cases h) machPhis_row_tie rfl ⟨rfl,rfl⟩ (by kernel_rfl) rfl
  (fun f fn hf hfn=>by
   obtain rfl:f=5:=Q5 ((show Tryz.prog.funcNamed "fescue/fescuelaw15.MachPhis"=some 5 by kernel_rfl).symm.trans hf) |>.symm;obtain rfl:fn=Tryz.f5:=(Q5 (Tryz.func5.symm.trans hfn)).symm;exact⟨by kernel_rfl,fun j t ht=>by
    rw[Tryz.params5]at ht;revert ht;match j with
    |0=>intro ht;cases ht;kernel_rfl
    |1=>intro ht;cases ht;kernel_rfl
    |2=>intro ht;cases ht;kernel_rfl
    |_+3=>intro ht;cases ht⟩)
  (by kernel_rfl)
#print axioms proved
end Go.Proofs.YtmilpkdhbdgjfaaGreatDoor.machPhis
