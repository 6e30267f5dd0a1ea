/- MachTells: for all arguments, in whatever memory they lie, the function returns true, and what was there stays as it was. Shown by a run of an abstract machine, which is proved sound against the model (the texts beside this one). -/
import Derived.Test.YtmilpkdhbdgjfaaAmD
import Derived.Test.YtmilpkdhbdgjfaaJf
import Derived.WalkKit
import Derived.ProofKit
import Derived.OpenShut
import Derived.ShutString
import Derived.ChangeOld
import Derived.HandedShaped
namespace Go.Proofs.Ytmilpkdhbdgjfaa.machTells
open Go.ChangeShapes Go.WideShapes Go.ChangeAt Go.RowKit Go.Am
open Go.ChangeMaps (open_string shut_string)
set_option linter.unusedVariables false
set_option linter.unusedSimpArgs false
theorem own:ownKnob Try.prog.godebug=none:=by kernel_rfl
theorem laidOut:laidOutB Try.prog=true:=by kernel_rfl
theorem bigger:Nat.ble (Try.prog.globals.size+1) (begin Try.prog (fun _ _=>0) default).world.heap.size=true:=by kernel_rfl
theorem room {w:World} (h:w.ShapedOpen Try.prog):Try.prog.globals.size≤w.heap.size:=by
 obtain⟨o,_,h1,_⟩:=h.2 Try.prog.globals.size (Nat.le_refl _) (Nat.le_of_ble_eq_true bigger)
 exact Nat.le_of_lt (Array.getElem?_eq_some_iff.1 h1).1
set_option maxRecDepth 100000 in
theorem lifted (os:Os) (started:os.Started) (H:Type) (enc:TypeId×Value→H):
  ReturnsInHanded {} Try.checked os 3 .any (Rows.machTellsSpec.pre6 enc Try.prog Try.f3 Rows.machTellsRow.domain false) (Rows.machTellsSpec.post enc Try.prog Try.f3 false true false false):=by
 refine returnsInHanded_of_change_shaped (C:=Try.checked) own started (by kernel_rfl) Try.func3
  (ChangeSpec.witness6 (enc:=enc) (C:=Try.checked) false ⟨#[],#[.agg #[.slice none 0 0,.slice none 0 0,.slice none 0 0,.int .i64 0,.slice none 0 0,.int .i64 0,.int .i64 0,.int .u8 0,.int .i64 0,.int .i64 0],.agg #[.slice none 0 0,.slice none 0 0,.slice none 0 0,.int .i64 0,.slice none 0 0,.int .i64 0,.int .i64 0,.int .u8 0,.int .i64 0,.int .i64 0]],[]⟩ 8 (by kernel_rfl) (by kernel_rfl) (by kernel_rfl) (by kernel_rfl)) ?_
 intro W base args ds gs before hval0 hW hcnd _ hsh _
 have hval:∀ (j:Nat) t v,Try.f3.params[j]?=some t→args[j]?=some v→Value.okWide Try.prog W .any base t v:=hval0
 have hW':=hW
 obtain⟨p,q,hA0,hV,rfl,hfz,hnd⟩:=hW
 have hA:DataW.TrodAll enc Try.prog W 0 (fun _=>true) true Try.f3.params.toList args.toList ds p:=hA0
 rw[Try.params3]at hA hval
 obtain⟨v0,vs0,d0,ds0,p0,q0,hargs,rfl,rfl,h0,r0⟩:=trodAll_cons hA
 obtain⟨v1,vs1,d1,ds1,p1,q1,rfl,rfl,rfl,h1,r1⟩:=trodAll_cons r0
 obtain⟨rfl,rfl,rfl⟩:=trodAll_nil r1
 obtain rfl:args=#[v0,v1]:=by cases args;simp_all
 obtain⟨rfl,rfl⟩:=trodVars_none hV
 have c:=came0 (P:=Try.prog) (room hsh)
 have lt0:∀ x∈p0,x.block<W.heap.size:=by obtain⟨m,hm⟩:=h0;exact DataW.trod_lt m _ _ _ hm
 have k0:=h0
 obtain⟨σ0,g0,acs0,c0,e0,le0,l0,rd0⟩:=trod_came h0 16 (by kernel_rfl) c
 have lt1:∀ x∈p1,x.block<W.heap.size:=by obtain⟨m,hm⟩:=h1;exact DataW.trod_lt m _ _ _ hm
 have k1:=h1
 obtain⟨σ1,g1,acs1,c1,e1,le1,l1,rd1⟩:=trod_came h1 16 (by kernel_rfl) c0
 have rd0:=(rd0.ext e1)
 have l0:LRel σ1 acs0 _:=LRel.mono ((le1)) l0
 obtain⟨b0,rfl⟩:=okWide_agg (.inr ⟨_,Try.underlying28⟩) (hval 0 28 v0 rfl rfl)
 obtain⟨x0,s0⟩:=rd_mach _ _ rd0
 have V0:=agg_rel l0
 have rd1:=rd1
 have l1:LRel σ1 acs1 _:=l1
 obtain⟨b1,rfl⟩:=okWide_agg (.inr ⟨_,Try.underlying28⟩) (hval 1 28 v1 rfl rfl)
 obtain⟨x1,s1⟩:=rd_mach _ _ rd1
 have V1:=agg_rel l1
 clear hA0 hval0
 refine(law_calls Try.checked.mixed tb_ok c1 (LRel.cons V0 (LRel.cons V1 (LRel.nil _))) (machTells_ok _ _ _ _ _ (by have h1:=((e0.trans e1)).mark;have h2:=((e0.trans e1)).n;rw[h1];exact Nat.le_trans (Nat.zero_le _) h2) s0 s1)).mono fun e W' ⟨he,bel⟩=> ?_
 subst he
 exact⟨_,rfl,_,_,_,[],_,[],hW',trodAll_mk1 (shut_bool Try.underlying4 _),(trodAll_cons_mk (Below.trod laidOut (by kernel_rfl) (of_decide_eq_true (by kernel_rfl)) k0 bel lt0) (trodAll_cons_mk (Below.trod laidOut (by kernel_rfl) (of_decide_eq_true (by kernel_rfl)) k1 bel lt1) trodAll_mk0)),rfl,bel.frame _,fun h=>by cases h⟩
theorem over:Rows.machTellsRow.holds Try.pinned (OpenSpec.ofChange Rows.machTellsSpec):=
 OpenClaim.holds_of_wide 3 Try.f3 rfl rfl rfl rfl rfl rfl rfl ⟨rfl,rfl,rfl,rfl,rfl⟩ rfl rfl rfl rfl rfl (by kernel_rfl) Try.func3 (by kernel_rfl)
  (of_decide_eq_true (by kernel_rfl)) (by unfold Func.isWrapper;first|(rw[if_pos (by decide+kernel)];kernel_rfl)|(rw[if_neg (by decide+kernel)];exact⟨rfl,rfl⟩))
  (fun os started H enc _=>lifted os started H enc)
theorem proved:Rows.MachTellsSaid:=
 over
#print axioms proved
end Go.Proofs.Ytmilpkdhbdgjfaa.machTells
