/- MachSets: for all arguments, in whatever memory they lie, where the program's own tables stand as its text lays them, the function returns true, and what was there stays as it was. Shown by a run of an abstract machine, which is proved sound against the model (the texts beside this one). -/
import Derived.Test.YtmilpkdhbdgjfaaGreatDoorJm
import Derived.Test.YtmilpkdhbdgjfaaGreatDoorCards
import Derived.Test.YtmilpkdhbdgjfaaGreatDoorTie
import Derived.WalkKit
import Derived.ProofKit
import Derived.LaidMore
import Derived.OpenShut
import Derived.ShutString
import Derived.ChangeOld
import Derived.HandedShaped
import Derived.Stop.Joined
import Derived.SevenTiedAt
set_option linter.all false
namespace Go.Proofs.YtmilpkdhbdgjfaaGreatDoor.machSets
open Go.ChangeShapes Go.WideShapes Go.ChangeAt Go.WideMaps Go.WideElems Go.RowKit Go.Am
open Go.ChangeMaps (open_string shut_string)
theorem own:ownKnob Tryz.prog.godebug=none:=by kernel_rfl
theorem zDh:laidOutB Tryz.prog=true:=by kernel_rfl
theorem zPs:Nat.ble (Tryz.prog.globals.size+1) (begin Tryz.prog (fun _ _=>0) default).world.heap.size=true:=by kernel_rfl
theorem room {w:World}(h:w.ShapedOpen Tryz.prog):Tryz.prog.globals.size<=w.heap.size:=by
 obtain⟨o,_,h1,_⟩:=h.2 Tryz.prog.globals.size (QE _) (QP zPs);exact Nat.le_of_lt (Gs.1 h1).1
def zH1:List (String×DataW Unit):=[("fescue/shape.table",Rows.laid_fescue_shape_table)]
def zJG:List Value:=zDt 16 (Rows.laid_fescue_shape_table:DataW Unit)
def laidL:List (Nat×List Value):=[(0,zJG)]
theorem zKV:(laidL.all fun x=>Nat.ble (x.1+1) Tryz.prog.globals.size&&yz x.2)=true:=by kernel_rfl
theorem zPb:zt (YY Tryz.prog.globals.size laidL) 0=some ZM/\0<(YY Tryz.prog.globals.size laidL).n:=⟨by kernel_rfl,QP (by kernel_rfl)⟩
theorem zQr:(YY Tryz.prog.globals.size laidL).mark<=(YY Tryz.prog.globals.size laidL).n:=QP (by kernel_rfl)
theorem zMy (os:Os)(args:Array Value):laidMetH Tryz.prog zH1 ((World.doorLaid Tryz.prog 4000 os).forCall (fun _ _=>0) ⟨#[],args,[]⟩).memory:=
 laidMetH_of_parts3 (fuel:=8) (laidMet_of_run' 8 (by kernel_rfl) (by kernel_rfl)) (by kernel_rfl) (by kernel_rfl)
theorem zNz {W:World}(h:laidMetH Tryz.prog zH1 W):∀ x∈laidL,∃ elem fr,W.heap[x.1]?=some (.cells x.2.toArray elem fr):=by
 rw[MakeChecks.laidMetH_plain _ _ _ (by kernel_rfl)]at h;obtain⟨ps,⟨G0,T0,cs0,f0,p0,q0,hg0,ht0,hv0,hd0,_,_⟩,_,_⟩:=h;obtain rfl:=Q5 ((show Tryz.prog.globalNamed "fescue/shape.table"=some 0 by kernel_rfl).symm.trans hg0);obtain⟨E0,hE0⟩:∃ E,(Tryz.prog.globals[0]?).map (·.type)=some E/\zCT Tryz.prog 16 E=true:=⟨((Tryz.prog.globals[0]?).map (·.type)).getD 0,by kernel_rfl,by kernel_rfl⟩;obtain rfl:=Q5 (hE0.1.symm.trans ht0);have b0:=zIX hg0 hv0 hd0 hE0.2;intro x hx;simp only[laidL,GN,List.mem_nil_iff,or_false]at hx;subst hx;exact b0
set_option maxRecDepth 100000 in
theorem zPr (os:Os)(started:os.Started)(H:Type)(enc:TypeId×Value->H):
  ReturnsInHanded {} Tryz.checked os 6 .any (fun w args=>(Rows.machSetsSpec.pre enc Tryz.prog Tryz.f6 [] false w args/\laidMetH Tryz.prog zH1 w)/\sizedMet enc Tryz.prog Tryz.f6 (OpenSpec.ofChange Rows.machSetsSpec) false w args)
   (Rows.machSetsSpec.post enc Tryz.prog Tryz.f6 false true false false):=by
 refine zF3 (C:=Tryz.checked) (X:=fun w _=>laidMetH Tryz.prog zH1 w) (fun _ _ _ hh h=>h.of_heap hh) own started (by kernel_rfl) Tryz.func6
  (ChangeSpec.witness_shaped (enc:=enc) (C:=Tryz.checked) (os:=os) (X:=fun w _=>laidMetH Tryz.prog zH1 w) false (World.doorLaid Tryz.prog 4000 os) #[.agg #[.slice none 0 0,.slice none 0 0],.slice none 0 0,.int .i64 0,.agg #[.int .u8 0,.int .i64 0,.int .i64 0,.int .i64 0]] 8 rfl (World.shaped_of_RefB (by kernel_rfl) (by kernel_rfl)) (by kernel_rfl) (by kernel_rfl) (by kernel_rfl) (zMy os _)) ?_
 intro W base args ds gs before hval0 hW hsz hL hsh;have hval:∀ (j:Nat) t v,Tryz.f6.params[j]?=some t->args[j]?=some v->Value.okWide Tryz.prog W .any base t v:=hval0;have hW':=hW;obtain⟨p,q,hA0,hV,rfl,hfz,hnd⟩:=hW;have hA:DataW.TrodAll enc Tryz.prog W 0 (fun _=>true) true Tryz.f6.params.toList args.toList ds p:=hA0;rw[Tryz.params6]at hA hval;obtain⟨v0,vs0,d0,ds0,p0,q0,hargs,rfl,rfl,h0,r0⟩:=trodAll_cons hA;obtain⟨v1,vs1,d1,ds1,p1,q1,rfl,rfl,rfl,h1,r1⟩:=trodAll_cons r0;obtain⟨v2,vs2,d2,ds2,p2,q2,rfl,rfl,rfl,h2,r2⟩:=trodAll_cons r1;obtain⟨v3,vs3,d3,ds3,p3,q3,rfl,rfl,rfl,h3,r3⟩:=trodAll_cons r2;obtain⟨rfl,rfl,rfl⟩:=trodAll_nil r3;obtain rfl:args=#[v0,v1,v2,v3]:=by cases args;simp_all
 obtain⟨rfl,rfl⟩:=trodVars_none hV;have hszp:∀ (i:Nat) t d,([34,48,3,37]:List TypeId)[i]?=some t->([d0,d1,d2,d3]:List (DataW H))[i]?=some d->BC Tryz.prog t d:=zDs (fun m hm=>by
  have:=QX.1 hsz m (by rw[Tryz.params6];exact hm);exact Gv this)
 have c:=zQW (P:=Tryz.prog) (room hsh) laidL fun x hx=>by
  have h1:=QX.1 zKV x hx;rw[QI]at h1;exact⟨QP h1.1,h1.2,zNz hL x hx⟩
 have lt0:∀ x∈p0,x.block<W.heap.size:=by obtain⟨m,hm⟩:=h0;exact DataW.trod_lt m _ _ _ hm
 have k0:=h0;obtain⟨σ0,g0,acs0,c0,e0,le0,l0,rd0⟩:=zBO h0 16 (by kernel_rfl) c;have lt1:∀ x∈p1,x.block<W.heap.size:=by obtain⟨m,hm⟩:=h1;exact DataW.trod_lt m _ _ _ hm
 have k1:=h1;obtain⟨σ1,g1,acs1,c1,e1,le1,l1,rd1⟩:=zBO h1 16 (by kernel_rfl) c0;have lt2:∀ x∈p2,x.block<W.heap.size:=by obtain⟨m,hm⟩:=h2;exact DataW.trod_lt m _ _ _ hm
 have k2:=h2;obtain⟨σ2,g2,acs2,c2,e2,le2,l2,rd2⟩:=zBO h2 16 (by kernel_rfl) c1;have lt3:∀ x∈p3,x.block<W.heap.size:=by obtain⟨m,hm⟩:=h3;exact DataW.trod_lt m _ _ _ hm
 have k3:=h3;obtain⟨σ3,g3,acs3,c3,e3,le3,l3,rd3⟩:=zBO h3 16 (by kernel_rfl) c2;have rd0:=(((rd0.ext e1).ext e2).ext e3);have l0:WY σ3 acs0 _:=WY.mono (Le.trans (Le.trans (le1) (le2)) (le3)) l0;obtain⟨b0,rfl⟩:=zD4 (.inr ⟨_,Tryz.underlying34⟩) (hval 0 34 v0 rfl rfl);obtain⟨vt0,vf0,T0,F0,rfl,sT0,sF0,bT0,bF0⟩:=zOl _ _ rd0 (hszp 0 34 d0 rfl rfl);have V0:=zJ5 l0;have rd1:=((rd1.ext e2).ext e3);have l1:WY σ3 acs1 _:=WY.mono (Le.trans (le2) (le3)) l1;obtain⟨b1,m1,n1,rfl⟩:=okWide_slice Tryz.underlying48 (hval 1 48 v1 rfl rfl);obtain⟨x1,y1,rfl,s1,z1⟩:=zAL (c:=8) rd1 Tryz.underlying48 (by kernel_rfl) (by decide+kernel) (hszp 1 48 d1 rfl rfl) zP5;have V1:=zID l1 rfl;have rd2:=(rd2.ext e3);have l2:WY σ3 acs2 _:=WY.mono ((le3)) l2;obtain⟨a2,rfl⟩:=okWide_int Tryz.underlying3 (hval 2 3 v2 rfl rfl);obtain⟨x2,rfl,w2⟩:=yt rd2 Tryz.underlying3;have V2:=zID l2 rfl;have rd3:=rd3;have l3:WY σ3 acs3 _:=l3;obtain⟨b3,rfl⟩:=zD4 (.inr ⟨_,Tryz.underlying37⟩) (hval 3 37 v3 rfl rfl);obtain⟨x3,rfl,w3⟩:=zGc _ _ rd3 (hszp 3 37 d3 rfl rfl);have V3:=zJ5 l3;have tt:Bx g3:=Bx.ext zPb (((e0.trans e1).trans e2).trans e3);have hm:g3.mark<=g3.n:=by have h1:=((((e0.trans e1).trans e2).trans e3)).mark;have h2:=((((e0.trans e1).trans e2).trans e3)).n;have h3:=zQr;omega
 clear hA0 hval0;refine(zK7 Tryz.checked.mixed tb_ok c3 (WY.cons V0 (WY.cons V1 (WY.cons V2 (WY.cons V3 (WY.nil _))))) (zHt _ _ _ _ _ _ _ _ _ tt hm sT0 sF0 s1 bT0 bF0 z1)).mono fun e W' ⟨he,bel⟩=> ?_;subst he;exact⟨_,rfl,_,_,_,[],_,[],hW',trodAll_mk1 (shut_bool Tryz.underlying4 _),(trodAll_cons_mk (Below.trod zDh (by kernel_rfl) (Gv (by kernel_rfl)) k0 bel lt0) (trodAll_cons_mk (Below.trod zDh (by kernel_rfl) (Gv (by kernel_rfl)) k1 bel lt1) (trodAll_cons_mk (Below.trod zDh (by kernel_rfl) (Gv (by kernel_rfl)) k2 bel lt2) (trodAll_cons_mk (Below.trod zDh (by kernel_rfl) (Gv (by kernel_rfl)) k3 bel lt3) trodAll_mk0)))),rfl,bel.frame _,fun h=>by cases h⟩
theorem zLN:Rows.MachSetsSaid:=
 OpenClaim.holds_of_wide 6 Tryz.f6 rfl rfl rfl rfl rfl rfl rfl ⟨rfl,rfl,rfl,rfl,rfl⟩ rfl rfl rfl rfl rfl (by kernel_rfl) Tryz.func6 (by kernel_rfl)
  (Gv (by kernel_rfl)) (by unfold Func.isWrapper;first|(rw[QG (by decide+kernel)];kernel_rfl)|(rw[QC (by decide+kernel)];exact⟨rfl,rfl⟩))
  (fun os started H enc _=>zPr os started H enc)
theorem proved:Rows.MachSetsCardSaid:=
 Claim7.holds_tied_plain_at .later [] [.data] true (true, "2f9f6c0b3c2de81906776dd94da15008e22d5ca9f51bda1fc08dc53776c5bfb8") true
  zLN (fun _ h=>by cases h) (by kernel_rfl) (fun _ h=>by cases h) machSets_row_tie rfl ⟨rfl,rfl⟩ (by kernel_rfl) rfl
  (fun f fn hf hfn=>by
   obtain rfl:f=6:=Q5 ((show Tryz.prog.funcNamed "fescue/fescuelaw15.MachSets"=some 6 by kernel_rfl).symm.trans hf) |>.symm;obtain rfl:fn=Tryz.f6:=(Q5 (Tryz.func6.symm.trans hfn)).symm;exact⟨by kernel_rfl,fun j t ht=>by
    rw[Tryz.params6]at ht;revert ht;match j with
    |0=>intro ht;cases ht;kernel_rfl
    |1=>intro ht;cases ht;kernel_rfl
    |2=>intro ht;cases ht;kernel_rfl
    |3=>intro ht;cases ht;kernel_rfl
    |_+4=>intro ht;cases ht⟩)
  (by kernel_rfl)
#print axioms proved
end Go.Proofs.YtmilpkdhbdgjfaaGreatDoor.machSets
