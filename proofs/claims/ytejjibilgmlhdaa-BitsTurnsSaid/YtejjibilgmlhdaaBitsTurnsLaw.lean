/- BitsTurns: for all arguments, in whatever memory they lie, the function returns true, and what was there stays as it was. Shown by a run of an abstract machine, which is proved sound against the model (the texts beside this one). -/
import Derived.Test.YtejjibilgmlhdaaAmD
import Derived.Test.YtejjibilgmlhdaaJc
import Derived.WalkKit
import Derived.ProofKit
import Derived.OpenShut
import Derived.ShutString
import Derived.ChangeOld
import Derived.HandedShaped
namespace Go.Proofs.Ytejjibilgmlhdaa.bitsTurns
open Go.ChangeShapes Go.WideShapes Go.ChangeAt Go.RowKit Go.Am
open Go.ChangeMaps (open_string shut_string)
set_option linter.unusedVariables false
set_option linter.unusedSimpArgs false
theorem own:ownKnob Try.prog.godebug=none:=by kernel_rfl
theorem laidOut:laidOutB Try.prog=true:=by kernel_rfl
theorem bigger:Nat.ble (Try.prog.globals.size+1) (begin Try.prog (fun _ _=>0) default).world.heap.size=true:=by kernel_rfl
theorem room {w:World} (h:w.ShapedOpen Try.prog):Try.prog.globals.size≤w.heap.size:=by
 obtain⟨o,_,h1,_⟩:=h.2 Try.prog.globals.size (Nat.le_refl _) (Nat.le_of_ble_eq_true bigger)
 exact Nat.le_of_lt (Array.getElem?_eq_some_iff.1 h1).1
set_option maxRecDepth 100000 in
theorem lifted (os:Os) (started:os.Started) (H:Type) (enc:TypeId×Value→H):
  ReturnsInHanded {} Try.checked os 3 .any (Rows.bitsTurnsSpec.pre6 enc Try.prog Try.f3 Rows.bitsTurnsRow.domain false) (Rows.bitsTurnsSpec.post enc Try.prog Try.f3 false true false false):=by
 refine returnsInHanded_of_change_shaped (C:=Try.checked) own started (by kernel_rfl) Try.func3
  (ChangeSpec.witness6 (enc:=enc) (C:=Try.checked) false ⟨#[],#[.slice none 0 0,.slice none 0 0,.slice none 0 0],[]⟩ 8 (by kernel_rfl) (by kernel_rfl) (by kernel_rfl) (by kernel_rfl)) ?_
 intro W base args ds gs before hval0 hW hcnd _ hsh _
 have hval:∀ (j:Nat) t v,Try.f3.params[j]?=some t→args[j]?=some v→Value.okWide Try.prog W .any base t v:=hval0
 have hW':=hW
 obtain⟨p,q,hA0,hV,rfl,hfz,hnd⟩:=hW
 have hA:DataW.TrodAll enc Try.prog W 0 (fun _=>true) true Try.f3.params.toList args.toList ds p:=hA0
 rw[Try.params3]at hA hval
 obtain⟨v0,vs0,d0,ds0,p0,q0,hargs,rfl,rfl,h0,r0⟩:=trodAll_cons hA
 obtain⟨v1,vs1,d1,ds1,p1,q1,rfl,rfl,rfl,h1,r1⟩:=trodAll_cons r0
 obtain⟨v2,vs2,d2,ds2,p2,q2,rfl,rfl,rfl,h2,r2⟩:=trodAll_cons r1
 obtain⟨rfl,rfl,rfl⟩:=trodAll_nil r2
 obtain rfl:args=#[v0,v1,v2]:=by cases args;simp_all
 obtain⟨rfl,rfl⟩:=trodVars_none hV
 have c:=came0 (P:=Try.prog) (room hsh)
 have lt0:∀ x∈p0,x.block<W.heap.size:=by obtain⟨m,hm⟩:=h0;exact DataW.trod_lt m _ _ _ hm
 have k0:=h0
 obtain⟨σ0,g0,acs0,c0,e0,le0,l0,rd0⟩:=trod_came h0 16 (by kernel_rfl) c
 have lt1:∀ x∈p1,x.block<W.heap.size:=by obtain⟨m,hm⟩:=h1;exact DataW.trod_lt m _ _ _ hm
 have k1:=h1
 obtain⟨σ1,g1,acs1,c1,e1,le1,l1,rd1⟩:=trod_came h1 16 (by kernel_rfl) c0
 have lt2:∀ x∈p2,x.block<W.heap.size:=by obtain⟨m,hm⟩:=h2;exact DataW.trod_lt m _ _ _ hm
 have k2:=h2
 obtain⟨σ2,g2,acs2,c2,e2,le2,l2,rd2⟩:=trod_came h2 16 (by kernel_rfl) c1
 have rd0:=((rd0.ext e1).ext e2)
 have l0:LRel σ2 acs0 _:=LRel.mono (Le.trans (le1) (le2)) l0
 obtain⟨b0,m0,n0,rfl⟩:=okWide_slice Try.underlying23 (hval 0 23 v0 rfl rfl)
 obtain⟨x0,y0,rfl,s0,z0⟩:=rd_recs (c:=2) rd0 Try.underlying23 (by kernel_rfl) rd_word0
 have V0:=one_rel' l0 rfl
 have rd1:=(rd1.ext e2)
 have l1:LRel σ2 acs1 _:=LRel.mono ((le2)) l1
 obtain⟨b1,m1,n1,rfl⟩:=okWide_slice Try.underlying23 (hval 1 23 v1 rfl rfl)
 obtain⟨x1,y1,rfl,s1,z1⟩:=rd_recs (c:=2) rd1 Try.underlying23 (by kernel_rfl) rd_word0
 have V1:=one_rel' l1 rfl
 have rd2:=rd2
 have l2:LRel σ2 acs2 _:=l2
 obtain⟨b2,m2,n2,rfl⟩:=okWide_slice Try.underlying24 (hval 2 24 v2 rfl rfl)
 obtain⟨x2,y2,rfl,s2,z2,w2⟩:=rd_ints rd2 Try.underlying24 Try.underlying3 (by kernel_rfl)
 have V2:=one_rel' l2 rfl
 clear hA0 hval0
 refine(law_calls Try.checked.mixed tb_ok c2 (LRel.cons V0 (LRel.cons V1 (LRel.cons V2 (LRel.nil _)))) (BitsTurns_ok _ _ _ _ _ _ _ (by have h1:=((e0.trans e1).trans e2).mark;have h2:=((e0.trans e1).trans e2).n;rw[h1];exact Nat.le_trans (Nat.zero_le _) h2) s0 s1 s2 z0 z1 z2)).mono fun e W' ⟨he,bel⟩=> ?_
 subst he
 exact⟨_,rfl,_,_,_,[],_,[],hW',trodAll_mk1 (shut_bool Try.underlying4 _),(trodAll_cons_mk (Below.trod laidOut (by kernel_rfl) (of_decide_eq_true (by kernel_rfl)) k0 bel lt0) (trodAll_cons_mk (Below.trod laidOut (by kernel_rfl) (of_decide_eq_true (by kernel_rfl)) k1 bel lt1) (trodAll_cons_mk (Below.trod laidOut (by kernel_rfl) (of_decide_eq_true (by kernel_rfl)) k2 bel lt2) trodAll_mk0))),rfl,bel.frame _,fun h=>by cases h⟩
theorem over:Rows.bitsTurnsRow.holds Try.pinned (OpenSpec.ofChange Rows.bitsTurnsSpec):=
 OpenClaim.holds_of_wide 3 Try.f3 rfl rfl rfl rfl rfl rfl rfl ⟨rfl,rfl,rfl,rfl,rfl⟩ rfl rfl rfl rfl rfl (by kernel_rfl) Try.func3 (by kernel_rfl)
  (of_decide_eq_true (by kernel_rfl)) (by unfold Func.isWrapper;first|(rw[if_pos (by decide+kernel)];kernel_rfl)|(rw[if_neg (by decide+kernel)];exact⟨rfl,rfl⟩))
  (fun os started H enc _=>lifted os started H enc)
theorem proved:Rows.BitsTurnsSaid:=
 over
#print axioms proved
end Go.Proofs.Ytejjibilgmlhdaa.bitsTurns
