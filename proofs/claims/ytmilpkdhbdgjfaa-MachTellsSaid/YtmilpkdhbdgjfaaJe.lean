/- What functions of the program come to in the abstract machine, and plain laws about it; no statement of the seat is proved in this text. -/
import Derived.Test.YtmilpkdhbdgjfaaJd
namespace Go.Proofs.Ytmilpkdhbdgjfaa
open Go.Am
set_option linter.unusedVariables false
set_option linter.unusedSimpArgs false
set_option maxHeartbeats 2000000
structure SmallM (a:MMach):Prop where
 mem:a.mem.length≤100
 cells:∀ i,i<a.mem.length→(a.mem.getD i default).cells.length≤1000
 frs:a.frs.length≤100
 regs:∀ i,i<a.frs.length→(a.frs.getD i default).regs.length≤1000
 inn:a.inn.length≤1000
 evs:a.evs.length≤1000
theorem mem_getD2 {α:Type} [Inhabited α] {l:List α} {p:α→Prop} (h:∀ i,i<l.length→p (l.getD i default)):∀ x∈l,p x:=fun x hx=>by
 obtain⟨i,hi,rfl⟩:=List.getElem_of_mem hx
 have:=h i hi
 rwa [getD_of (List.getElem?_eq_getElem hi)]at this
theorem own_updM {hb h h':AHeap} {p w:Value} {l:List Int} (o:OwnN hb h w l) (u:UpdC p h h') (hp:∀ g,p= .pointer (some ⟨g,0,none⟩)→g<hb.n):OwnN hb h' w l:=by
 rcases o with o|⟨g,g1,g2,g3,g4⟩
 ·exact .inl o
 ·exact .inr ⟨g,g1,Nat.lt_of_lt_of_le g2 u.1,g3,(u.2 g g2 (fun e=>by have:=hp g e;omega)).trans g4⟩
theorem ownC_upd {hb h h':AHeap} {p q:Value} {cs:List Value} (o:OwnC hb h q cs) (u:UpdC p h h') (hp:∀ g,p= .pointer (some ⟨g,0,none⟩)→g<hb.n):OwnC hb h' q cs:=by
 obtain⟨g,g1,g2,g3,g4⟩:=o
 exact⟨g,g1,Nat.lt_of_lt_of_le g2 u.1,g3,(u.2 g g2 (fun e=>by have:=hp g e;omega)).trans g4⟩
theorem ownR_updC {α:Type} {c b:Nat} {R:AHeap→List Value→α→Prop} {h h':AHeap} {p v:Value} {xs:List α} (o:OwnR c R b h v xs) (u:UpdC p h h') (hp:∀ g,p= .pointer (some ⟨g,0,none⟩)→g<b):OwnR c R b h' v xs:=
 OwnR.upd o (fun k hk1 hk2=>u.2 k hk2 (fun e=>by have:=hp k e;omega)) u.1
noncomputable def body5:ACode:=(.seq (.region [⟨some 1,none,(.box (.tmp 0))⟩,⟨some 2,none,(.alloc [(.slice none 0 0),(.slice none 0 0),(.slice none 0 0),(.int .i64 0),(.slice none 0 0),(.int .i64 0),(.int .i64 0),(.int .u8 0),(.int .i64 0),(.int .i64 0)])⟩]) (.seq (.region [⟨some 3,none,(.fld 0 (.tmp 1))⟩,⟨some 4,none,(.load false 1 (.tmp 3))⟩,⟨some 5,none,(.call (.func 11) [(.tmp 4)])⟩,⟨some 6,none,(.fld 0 (.tmp 1))⟩,⟨none,none,(.store 1 (.tmp 6) (.tmp 5))⟩]) (.seq (.region [⟨some 7,none,(.fld 1 (.tmp 1))⟩,⟨some 8,none,(.load false 1 (.tmp 7))⟩,⟨some 9,none,(.call (.func 12) [(.tmp 8)])⟩,⟨some 10,none,(.fld 1 (.tmp 1))⟩,⟨none,none,(.store 1 (.tmp 10) (.tmp 9))⟩]) (.seq (.region [⟨some 11,none,(.buildSlice 0 1 [(.int .i64 0)] [])⟩,⟨some 12,none,(.fld 2 (.tmp 1))⟩,⟨some 13,none,(.load false 1 (.tmp 12))⟩,⟨some 14,none,(.append 1 (.tmp 11) (.tmp 13))⟩,⟨some 15,none,(.fld 2 (.tmp 1))⟩,⟨none,none,(.store 1 (.tmp 15) (.tmp 14))⟩]) (.seq (.region [⟨some 16,none,(.buildSlice 0 2 [(.int .u8 0),(.int .i64 0)] [])⟩,⟨some 17,none,(.fld 4 (.tmp 1))⟩,⟨some 18,none,(.load false 1 (.tmp 17))⟩,⟨some 19,none,(.append 2 (.tmp 16) (.tmp 18))⟩,⟨some 20,none,(.fld 4 (.tmp 1))⟩,⟨none,none,(.store 1 (.tmp 20) (.tmp 19))⟩]) (.seq (.region [⟨some 21,none,(.load true 10 (.tmp 1))⟩,⟨none,none,(.store 10 (.tmp 2) (.tmp 21))⟩]) .ret))))))
set_option maxRecDepth 100000 in
theorem tab5:tb.code 5=some ⟨22,[(2,some (true,10))],body5⟩:=by kernel_rfl
theorem rMachTwin_ok (h:AHeap) (ca:List Value) (a:MMach) (ra:RMm h ca a) (sm:SmallM a):WC Try.prog tb 5 [.agg ca.toArray] h fun r h'=>(∃ cs,r= .agg cs.toArray∧RMm h' cs a)∧Ext h h':=by
 obtain⟨am,af,ai,ae,rfl,kam,kaf,kai,kae,lam,laf,lai,lae⟩:=ra
 obtain⟨sm1,sm2,sm3,sm4,sm5,sm6⟩:=sm
 replace sm2:=Hid.mk (mem_getD2 (p:=fun b:MBlk=>b.cells.length≤1000) sm2)
 replace sm4:=Hid.mk (mem_getD2 (p:=fun b:MFrm=>b.regs.length≤1000) sm4)
 refine WC.of (nostub 5) tab5 ?_;simp only[mkTm,Nat.zero_add,Nat.reduceAdd]
 refine go ?_
 refine WO.bx ?_
 intro p h1 e1 o1
 have hp:=own_atM o1
 replace o1:OwnC h h1 p [am,af,ai,I a.used,ae,I a.steps,I a.heaps,.int .u8 a.state,I a.trap,I a.exit]:=o1
 refine go ?_
 refine WO.al ?_
 intro q h2 e2 o2
 have o1:=o1.ext e2
 have e12:=e1.trans e2
 have hq2:=own_atM o2
 refine go ?_
 refine WO.con (rTwinM_ok h2 am a.mem (SlMb.ext kam e12) (by omega) sm2.out) ?_
 rintro vm h3 ⟨om,e3⟩
 obtain⟨m1,m2,m3,rfl⟩:=slr_shapeM om.sl
 have o1:=o1.ext e3
 have e13:=e12.trans e3
 refine go ?_
 refine WO.stC (cs:=[.slice m1 m2 m3]) (j:=0) (hl:=by simp) o1 e13 ?_
 intro h4 e4 o1 u4
 replace o1:OwnC h h4 p [.slice m1 m2 m3,af,ai,I a.used,ae,I a.steps,I a.heaps,.int .u8 a.state,I a.trap,I a.exit]:=o1
 have n12:=e2.n
 have n23:=e3.n
 have n34:=u4.1
 have hp1:∀ g,p= .pointer (some ⟨g,0,none⟩)→g<h1.n:=fun g e=>(hp g e).2
 have hpn:∀ n,h1.n≤n→∀ g,p= .pointer (some ⟨g,0,none⟩)→g<n:=fun n hn g e=>Nat.lt_of_lt_of_le (hp1 g e) hn
 have om:=ownR_updC om u4 (hpn _ n12)
 have o2:=ownC_upd (o2.ext e3) u4 hp1
 refine go ?_
 refine WO.con (rTwinF_ok h4 af a.frs (SlMf.ext kaf e4) (by omega) sm4.out) ?_
 rintro vf h5 ⟨of,e5⟩
 obtain⟨f1,f2,f3,rfl⟩:=slr_shapeM of.sl
 have o1:=o1.ext e5
 have o2:=o2.ext e5
 have om:=om.ext e5
 have e05:=e4.trans e5
 refine go ?_
 refine WO.stC (cs:=[.slice f1 f2 f3]) (j:=1) (hl:=by simp) o1 e05 ?_
 intro h6 e6 o1 u6
 replace o1:OwnC h h6 p [.slice m1 m2 m3,.slice f1 f2 f3,ai,I a.used,ae,I a.steps,I a.heaps,.int .u8 a.state,I a.trap,I a.exit]:=o1
 have n45:=e5.n
 have n56:=u6.1
 have om:=ownR_updC om u6 (hpn _ n12)
 have of:=ownR_updC of u6 (hpn _ (by omega))
 have o2:=ownC_upd o2 u6 hp1
 refine go ?_
 refine WO.bl [] ?_
 intro v7 h7 e7 o7
 have o1:=o1.ext e7
 have sin:=SlI.ext kai (e6.trans e7)
 refine go ?_
 refine WO.apN (h0:=h6) (.inr o7) sin e7 (by simp;omega) ?_
 intro v8 h8 e8 o8
 rw[List.nil_append]at o8
 obtain⟨i1,i2,i3,rfl⟩:=SlC.shape o8.sl
 have o1:=(by assumption:OwnC h h6 p _).ext e8
 have om:=om.ext e8
 have of:=of.ext e8
 have o2:=o2.ext e8
 have e08:=e6.trans e8
 refine go ?_
 refine WO.stC (cs:=[.slice i1 i2 i3]) (j:=2) (hl:=by simp) o1 e08 ?_
 intro h9 e9 o1 u9
 replace o1:OwnC h h9 p [.slice m1 m2 m3,.slice f1 f2 f3,.slice i1 i2 i3,I a.used,ae,I a.steps,I a.heaps,.int .u8 a.state,I a.trap,I a.exit]:=o1
 have n68:=e8.n
 have n89:=u9.1
 have om:=ownR_updC om u9 (hpn _ n12)
 have of:=ownR_updC of u9 (hpn _ (by omega))
 have o8:=own_updM o8 u9 (hpn _ (by omega))
 have o2:=ownC_upd o2 u9 hp1
 refine go ?_
 refine WO.bl0 REv ?_
 intro v10 h10 e10 o10
 have o1:=o1.ext e10
 have sev:=SlE.ext kae (e9.trans e10)
 refine go ?_
 refine WO.apAll (hB:=h9) o10 sev (by decide) (fun cs a r hx _ _=>r) (fun cs a r=>r.one) e10 (Nat.le_refl _) e10.n (by omega) ?_
 intro v11 h11 e11 o11
 obtain⟨g1,g2,g3,rfl⟩:=slr_shapeM o11.sl
 have o1:=(by assumption:OwnC h h9 p _).ext e11
 have om:=om.ext e11
 have of:=of.ext e11
 have o8:=o8.ext e11
 have o2:=o2.ext e11
 have e0b:=e9.trans e11
 refine go ?_
 refine WO.stC (cs:=[.slice g1 g2 g3]) (j:=4) (hl:=by simp) o1 e0b ?_
 intro h12 e12' o1 u12
 have n9b:=e11.n
 have om:=ownR_updC om u12 (hpn _ n12)
 have of:=ownR_updC of u12 (hpn _ (by omega))
 have o8:=own_updM o8 u12 (hpn _ (by omega))
 have o11:=ownR_updC o11 u12 (hpn _ (by omega))
 have o2:=ownC_upd o2 u12 hp1
 have hq:=own_atM o2
 replace o1:OwnC h h12 p [.slice m1 m2 m3,.slice f1 f2 f3,.slice i1 i2 i3,I a.used,.slice g1 g2 g3,I a.steps,I a.heaps,.int .u8 a.state,I a.trap,I a.exit]:=o1
 refine go ?_
 refine WO.stC0 (h0:=h) (o2.since e1) e12' ?_
 intro h13 e13' o2 u13
 have hqn:∀ n,h2.n≤n→∀ g,q= .pointer (some ⟨g,0,none⟩)→g<n:=fun n hn g e=>Nat.lt_of_lt_of_le (hq2 g e).2 hn
 have om:=ownR_updC om u13 (hqn _ (Nat.le_refl _))
 have of:=ownR_updC of u13 (hqn _ (by omega))
 have o8:=own_updM o8 u13 (hqn _ (by omega))
 have o11:=ownR_updC o11 u13 (hqn _ (by omega))
 refine go ?_
 refine rt ?_
 exact⟨⟨_,rfl,_,_,_,_,rfl,om.sl,of.sl,o8.sl,o11.sl,lam,laf,lai,lae⟩,e13'⟩
theorem slc_get {c n:Nat} {h h':AHeap} {v:Value} {cells:List Value} (s:SlC c h v n cells) (hg:∀ g,g<h.n→h'.get g=h.get g) (hn:h.n≤h'.n):SlC c h' v n cells:=by
 obtain⟨a,b⟩:=s
 refine⟨a,b.imp id ?_⟩
 rintro⟨g,off,row,e1,e2,e3,e4⟩
 exact⟨g,off,row,e1,by unfold rowOf at e2 ⊢;rw[hg g e4];exact e2,e3,Nat.lt_of_lt_of_le e4 hn⟩
theorem slv_get {h h':AHeap} {v:Value} {l:List MVal} (s:SlV h v l) (hg:∀ g,g<h.n→h'.get g=h.get g) (hn:h.n≤h'.n):SlV h' v l:=slr_get s (fun _ _ r=>r) hg hn
theorem sle_get {h h':AHeap} {v:Value} {l:List MEv} (s:SlE h v l) (hg:∀ g,g<h.n→h'.get g=h.get g) (hn:h.n≤h'.n):SlE h' v l:=slr_get s (fun _ _ r=>r) hg hn
theorem slmb_get {h h':AHeap} {v:Value} {l:List MBlk} (s:SlMb h v l) (hg:∀ g,g<h.n→h'.get g=h.get g) (hn:h.n≤h'.n):SlMb h' v l:=slr_get s (fun _ _ ⟨v,a,b,c⟩=>⟨v,a,slv_get b hg hn,c⟩) hg hn
theorem ownC_get {hb h h':AHeap} {p:Value} {cs:List Value} (o:OwnC hb h p cs) (hg:∀ g,p= .pointer (some ⟨g,0,none⟩)→g<h.n→h'.get g=h.get g) (hn:h.n≤h'.n):OwnC hb h' p cs:=by
 obtain⟨g,a,b,c,d⟩:=o
 exact⟨g,a,Nat.lt_of_lt_of_le b hn,c,(hg g c b).trans d⟩
theorem ownN_get {hb h h':AHeap} {v:Value} {l:List Int} (o:OwnN hb h v l) (hg:∀ g,hb.n≤g→g<h.n→h'.get g=h.get g) (hn:h.n≤h'.n):OwnN hb h' v l:=by
 rcases o with o|⟨g,a,b,c,d⟩
 ·exact .inl o
 ·exact .inr ⟨g,a,Nat.lt_of_lt_of_le b hn,c,(hg g a b).trans d⟩
theorem slr_unraw {α β:Type} [Inhabited α] [Inhabited β] {c:Nat} {A:AHeap→List Value→α→Prop} {B:AHeap→List Value→β→Prop} {h:AHeap} {v:Value} {l:List α} {xs:List β} (s:SlR c B h v xs) {rel:β→α→Prop} (hl:xs.length=l.length) (hrel:∀ i,i<l.length→rel (xs.getD i default) (l.getD i default)) (hr:∀ cs x a,B h cs x→rel x a→A h cs a):SlR c A h v l:=by
 obtain⟨cells,s1,s2⟩:=s
 refine⟨cells,by rw[←hl];exact s1,fun i a ha=> ?_⟩
 have hi:=(List.getElem?_eq_some_iff.1 ha).1
 have hx:xs[i]?=some xs[i]:=List.getElem?_eq_getElem (by omega)
 have:=hrel i hi
 rw[getD_of ha,getD_of hx]at this
 exact hr _ _ _ (s2 i _ hx) this
def RelF (x:RawF) (f:MFrm):Prop:=x.fn=f.fn∧x.block=f.block∧x.pos=f.pos∧x.into=f.into
structure OwnMach (b:Nat) (h:AHeap) (cs:List Value) (a:MMach):Prop where
 own:∃ vm vf vi ve xs b1 b2,cs=[vm,vf,vi,I a.used,ve,I a.steps,I a.heaps,.int .u8 a.state,I a.trap,I a.exit]∧OwnR 5 RRf b1 h vf xs∧xs.length=a.frs.length∧b≤b1∧b1≤b2∧b2≤h.n∧(∀ g n k,vf= .slice (some ⟨g,0,none⟩) n k→g<b2)∧
  (∀ i,i<xs.length→OwnR 4 RVal b2 h (xs.getD i default).v (a.frs.getD i default).regs)∧(∃ hb:AHeap,b≤hb.n∧OwnN hb h vi a.inn)∧(∀ g n k,vi= .slice (some ⟨g,0,none⟩) n k→g<b1)
noncomputable def body6_0:ACode:=(.seq (.region [⟨some 25,none,(.bin .lss (.tmp 24) (.tmp 23))⟩]) (.seq (.cond (.tmp 25) .skip (.exit 0)) (.seq (.block 1 (.seq (.region [⟨some 26,none,(.mov (.tmp 24))⟩,⟨some 27,none,(.idx 5 (.tmp 22) (.tmp 24))⟩,⟨some 28,none,(.load true 5 (.tmp 27))⟩,⟨some 4,none,(.alloc [(.int .i64 0),(.int .i64 0),(.int .i64 0),(.slice none 0 0),(.int .i64 0)])⟩,⟨some 3,none,(.mov (.tmp 26))⟩,⟨none,none,(.store 5 (.tmp 4) (.tmp 28))⟩]) (.regionC [(⟨some 29,none,(.fld 1 (.tmp 1))⟩,[]),(⟨some 30,none,(.load false 1 (.tmp 29))⟩,[]),(⟨some 31,none,(.mov (.tmp 3))⟩,[]),(⟨some 32,none,(.fld 3 (.tmp 4))⟩,[]),(⟨some 33,none,(.load false 1 (.tmp 32))⟩,[]),(⟨some 34,none,(.call (.func 17) [(.tmp 33)])⟩,[1]),(⟨some 35,none,(.idx 5 (.tmp 30) (.tmp 31))⟩,[]),(⟨some 36,none,(.fld 3 (.tmp 35))⟩,[]),(⟨none,none,(.store 1 (.tmp 36) (.tmp 34))⟩,[])]))) (.region [⟨some 37,none,(.bin .add (.tmp 24) (.const (.int .i64 1)))⟩,⟨some 24,none,(.mov (.tmp 37))⟩]))))
noncomputable def body6:ACode:=(.seq (.region [⟨some 1,none,(.box (.tmp 0))⟩,⟨some 2,none,(.alloc [(.slice none 0 0),(.slice none 0 0),(.slice none 0 0),(.int .i64 0),(.slice none 0 0),(.int .i64 0),(.int .i64 0),(.int .u8 0),(.int .i64 0),(.int .i64 0)])⟩]) (.seq (.regionC [(⟨some 5,none,(.fld 0 (.tmp 1))⟩,[]),(⟨some 6,none,(.load false 1 (.tmp 5))⟩,[]),(⟨some 7,none,(.call (.func 13) [(.tmp 6)])⟩,[]),(⟨some 8,none,(.fld 2 (.tmp 1))⟩,[]),(⟨some 9,none,(.load false 1 (.tmp 8))⟩,[2]),(⟨some 10,none,(.call (.func 14) [(.tmp 9)])⟩,[]),(⟨some 11,none,(.fld 4 (.tmp 1))⟩,[]),(⟨some 12,none,(.load false 1 (.tmp 11))⟩,[2,5]),(⟨some 13,none,(.call (.func 15) [(.tmp 12)])⟩,[]),(⟨some 14,none,(.fld 1 (.tmp 1))⟩,[]),(⟨some 15,none,(.load false 1 (.tmp 14))⟩,[2,5,8]),(⟨some 16,none,(.call (.func 16) [(.tmp 15)])⟩,[]),(⟨some 17,none,(.fld 0 (.tmp 1))⟩,[]),(⟨none,none,(.store 1 (.tmp 17) (.tmp 7))⟩,[]),(⟨some 18,none,(.fld 2 (.tmp 1))⟩,[]),(⟨none,none,(.store 1 (.tmp 18) (.tmp 10))⟩,[]),(⟨some 19,none,(.fld 4 (.tmp 1))⟩,[]),(⟨none,none,(.store 1 (.tmp 19) (.tmp 13))⟩,[]),(⟨some 20,none,(.fld 1 (.tmp 1))⟩,[]),(⟨none,none,(.store 1 (.tmp 20) (.tmp 16))⟩,[])]) (.seq (.seq (.region [⟨some 21,none,(.fld 1 (.tmp 1))⟩,⟨some 22,none,(.load false 1 (.tmp 21))⟩,⟨some 23,none,(.len (.tmp 22))⟩,⟨some 24,none,(.mov (.const (.int .i64 0)))⟩]) (.block 0 (.loop body6_0))) (.seq (.region [⟨some 38,none,(.load true 10 (.tmp 1))⟩,⟨none,none,(.store 10 (.tmp 2) (.tmp 38))⟩]) .ret))))
set_option maxRecDepth 100000 in
theorem tab6:tb.code 6=some ⟨39,[(2,some (true,10))],body6⟩:=by kernel_rfl
theorem machTwin_ok (h:AHeap) (ca:List Value) (a:MMach) (ra:RMm h ca a) (sm:SmallM a) (hm:h.mark≤h.n):WC Try.prog tb 6 [.agg ca.toArray] h fun r h'=>(∃ cs,r= .agg cs.toArray∧RMm h' cs a∧OwnMach h.n h' cs a)∧Ext h h':=by
 obtain⟨am,af,ai,ae,rfl,kam,kaf,kai,kae,lam,laf,lai,lae⟩:=ra
 obtain⟨sm1,sm2,sm3,sm4,sm5,sm6⟩:=sm
 replace sm4:=Hid.mk sm4
 obtain⟨xs,sx,lx,rx⟩:=slr_raw (rel:=fun x f=>RelF x f∧SlV h x.v f.regs∧(f.regs.length:Int)≤9223372036854775807) (B:=RRf) kaf (fun cs a r=>by
  obtain⟨x,r1,a1,a2,a3,a4,a5⟩:=RMf.raw r
  obtain⟨_,_,_,hl⟩:=r
  exact⟨x,r1,⟨a1,a2,a3,a4⟩,a5,hl⟩)
 replace rx:=Hid.mk rx
 refine WC.of (nostub 6) tab6 ?_;simp only[mkTm,Nat.zero_add,Nat.reduceAdd]
 refine go ?_
 refine WO.bx ?_
 intro p h1 e1 o1
 have hp:=own_atM o1
 replace o1:OwnC h h1 p [am,af,ai,I a.used,ae,I a.steps,I a.heaps,.int .u8 a.state,I a.trap,I a.exit]:=o1
 refine go ?_
 refine WO.al ?_
 intro q h2 e2 o2
 have hq2:=own_atM o2
 have o1:=o1.ext e2
 have e12:=e1.trans e2
 refine go ?_
 refine WX.regionU2 0 rfl rfl ?_
 have oX:OwnC h (inC (asideN 0 h2)) p [am,af,ai,I a.used,ae,I a.steps,I a.heaps,.int .u8 a.state,I a.trap,I a.exit]:=o1
 have g0:∀ g,g<h.n→(inC (asideN 0 h2)).get g=h.get g:=fun g hg=>e12.get g hg
 have n0:h.n≤(inC (asideN 0 h2)).n:=e12.n
 have w0:Wf h→Wf (inC (asideN 0 h2)):=fun w=>e12.wf w
 have hpb:∀ g,p= .pointer (some ⟨g,0,none⟩)→g<(inC (asideN 0 h2)).n:=fun g e=>by have:=(hp g e).2;have:=e2.n;show g<h2.n;omega
 have hqb:∀ g,q= .pointer (some ⟨g,0,none⟩)→g<(inC (asideN 0 h2)).n:=fun g e=>(hq2 g e).2
 have oq:OwnC h (inC (asideN 0 h2)) q [.slice none 0 0,.slice none 0 0,.slice none 0 0,I 0,.slice none 0 0,I 0,I 0,.int .u8 0,I 0,I 0]:=o2.since e1
 have hN:(inC (asideN 0 h2)).n=h2.n:=rfl
 refine goU ?_
 refine WO.con (memTwin_ok _ am a.mem (slmb_get kam g0 n0) (Nat.le_refl _) sm1 sm2) ?_
 rintro vm X1 ⟨om,e01⟩
 refine WO.nil ?_
 refine uK2_e e01 reads_call ?_
 have oX:=oX.ext e01
 have oq:=oq.ext e01
 replace oX:OwnC h (inC X1) p _:=oX
 have g1:∀ g,g<h.n→(inC X1).get g=h.get g:=fun g hg=>(e01.get g (Nat.lt_of_lt_of_le hg n0)).trans (g0 g hg)
 have n1:h.n≤(inC X1).n:=Nat.le_trans n0 e01.n
 refine goU ?_
 refine uK2_own o1 (Nat.le_refl _) ?_
 refine goU ?_
 refine WO.con (cloneN_ok _ ai a.inn (slc_get kai g1 n1) (by omega)) ?_
 rintro vi X2 ⟨oi,e12'⟩
 refine WO.nil ?_
 refine uK2_e e12' reads_call ?_
 have oX:=oX.ext e12'
 replace oX:OwnC h (inC X2) p _:=oX
 have g2:∀ g,g<h.n→(inC X2).get g=h.get g:=fun g hg=>(e12'.get g (Nat.lt_of_lt_of_le hg n1)).trans (g1 g hg)
 have n2:h.n≤(inC X2).n:=Nat.le_trans n1 e12'.n
 refine goU ?_
 refine uK2_own o1 (Nat.le_refl _) ?_
 refine goU ?_
 refine WO.con (cloneE_ok _ ae a.evs (sle_get kae g2 n2) (by omega)) ?_
 rintro ve X3 ⟨oe,e23⟩
 refine WO.nil ?_
 refine uK2_e e23 reads_call ?_
 have oX:=oX.ext e23
 replace oX:OwnC h (inC X3) p _:=oX
 have g3:∀ g,g<h.n→(inC X3).get g=h.get g:=fun g hg=>(e23.get g (Nat.lt_of_lt_of_le hg n2)).trans (g2 g hg)
 have n3:h.n≤(inC X3).n:=Nat.le_trans n2 e23.n
 refine goU ?_
 refine uK2_own o1 (Nat.le_refl _) ?_
 refine goU ?_
 refine WO.con (cloneF_ok _ af xs (slr_get sx (fun _ _ r=>r) g3 n3) (by omega)) ?_
 rintro vf X4 ⟨of,e34⟩
 refine WO.nil ?_
 refine uK2_e e34 reads_call ?_
 have oX:=oX.ext e34
 replace oX:OwnC h (inC X4) p _:=oX
 refine goU ?_
 obtain⟨m1,m2,m3,rfl⟩:=slr_shapeM om.sl
 obtain⟨i1,i2,i3,rfl⟩:=SlC.shape oi.sl
 obtain⟨v1,v2,v3,rfl⟩:=slr_shapeM oe.sl
 obtain⟨f1,f2,f3,rfl⟩:=slr_shapeM of.sl
 have hmk:h2.mark≤h.n:=by rw[e12.mark];exact hm
 refine WU2.wMC (hB:=h) (j:=0) (cs:=[.slice m1 m2 m3]) (hl:=by simp) oX hmk ?_
 intro X5 n5 k5 oX w5 cl5
 replace oX:OwnC h (inC X5) p [.slice m1 m2 m3,af,ai,I a.used,ae,I a.steps,I a.heaps,.int .u8 a.state,I a.trap,I a.exit]:=oX
 refine goU ?_
 refine WU2.wMC (hB:=h) (j:=2) (cs:=[.slice i1 i2 i3]) (hl:=by simp) oX hmk ?_
 intro X6 n6 k6 oX w6 cl6
 replace oX:OwnC h (inC X6) p [.slice m1 m2 m3,af,.slice i1 i2 i3,I a.used,ae,I a.steps,I a.heaps,.int .u8 a.state,I a.trap,I a.exit]:=oX
 refine goU ?_
 refine WU2.wMC (hB:=h) (j:=4) (cs:=[.slice v1 v2 v3]) (hl:=by simp) oX hmk ?_
 intro X7 n7 k7 oX w7 cl7
 replace oX:OwnC h (inC X7) p [.slice m1 m2 m3,af,.slice i1 i2 i3,I a.used,.slice v1 v2 v3,I a.steps,I a.heaps,.int .u8 a.state,I a.trap,I a.exit]:=oX
 refine goU ?_
 refine WU2.wFC (hB:=h) (j:=1) (cs:=[.slice f1 f2 f3]) (hl:=by simp) oX hmk ?_
 intro H n8 k8 oX w8 m8 r8
 replace oX:OwnC h H p [.slice m1 m2 m3,.slice f1 f2 f3,.slice i1 i2 i3,I a.used,.slice v1 v2 v3,I a.steps,I a.heaps,.int .u8 a.state,I a.trap,I a.exit]:=oX
 have b2:=e2.n
 have b1:=e1.n
 have hpk:∀ k,h2.n≤k→p≠ .pointer (some ⟨k,0,none⟩):=fun k hk e=>by have:=(hp k e).2;omega
 have hpk0:∀ k,k<h.n→p≠ .pointer (some ⟨k,0,none⟩):=fun k hk e=>by have:=(hp k e).1;omega
 have c1:h2.n≤X1.n:=e01.n
 have c2:X1.n≤X2.n:=e12'.n
 have c3:X2.n≤X3.n:=e23.n
 have c4:X3.n≤X4.n:=e34.n
 have nH:H.n=X4.n:=n8.trans (n7.trans (n6.trans n5))
 have kH:∀ k,p≠ .pointer (some ⟨k,0,none⟩)→H.get k=X4.get k:=fun k hk=>(k8 k hk).trans ((k7 k hk).trans ((k6 k hk).trans (k5 k hk)))
 have om3:OwnR 5 RMb h2.n X3 (.slice m1 m2 m3) a.mem:=OwnR.ext (h:=inC X2) (OwnR.upd (OwnR.ext (h:=inC X1) (h':=X2) (OwnR.upd om (fun _ _ _=>rfl) (Nat.le_refl _)) e12') (fun _ _ _=>rfl) (Nat.le_refl _)) e23
 have oi3:OwnN (inC X1) X3 (.slice i1 i2 i3) a.inn:=OwnN.ext (h:=inC X2) oi e23
 have eH:Ext h H:=⟨by omega,fun g hg=>(kH g (hpk0 g hg)).trans ((e34.get g (Nat.lt_of_lt_of_le hg n3)).trans (g3 g hg)),fun w=>w8 (w7 (w6 (w5 (e34.wf (e23.wf (e12'.wf (e01.wf (w0 w)))))))),m8.trans e12.mark,fun hm'=>r8.trans (e12.wr hm')⟩
 have KH:∀ k,h2.n≤k→k<X3.n→H.get k=X3.get k:=fun k hk1 hk2=>(kH k (hpk k hk1)).trans (e34.get k hk2)
 have oF:OwnR 5 RRf X3.n H (.slice f1 f2 f3) xs:=OwnR.upd of (fun k hk1 hk2=>kH k (hpk k (by have hk1:X3.n≤k:=hk1;omega))) (Nat.le_of_eq nH.symm)
 have oQ:OwnC h H q [.slice none 0 0,.slice none 0 0,.slice none 0 0,I 0,.slice none 0 0,I 0,I 0,.int .u8 0,I 0,I 0]:=by
  obtain⟨g,q1,q2,q3,q4⟩:=oq
  have hg:=(hq2 g q3)
  have q2:g<X1.n:=q2
  refine⟨g,q1,by omega,q3,(kH g (fun e=>by have:=(hp g e).2;omega)).trans ?_⟩
  exact(e34.get g (by show g<X3.n;omega)).trans ((e23.get g (by show g<X2.n;omega)).trans ((e12'.get g q2).trans q4))
 have hgF:∀ g n k,Value.slice f1 f2 f3= .slice (some ⟨g,0,none⟩) n k→X3.n≤g∧g<H.n:=fun g n k e=>ownR_ltM oF e
 have hX3H:X3.n≤H.n:=by omega
 have hqX:∀ g,q= .pointer (some ⟨g,0,none⟩)→h1.n≤g∧g<h2.n:=hq2
 have hmH:H.mark≤h.n:=by rw[m8];exact hmk
 clear k8 k7 k6 k5 n8 n7 n6 n5 w8 w7 w6 w5 of oq e34 e23 e12' e01 g0 g1 g2 g3 n0 n1 n2 n3 w0 o2 om oi hN hqb hpb m8 r8 kH nH c4
 have hrelx:Hid (∀ j,j<xs.length→RelF (xs.getD j default) (a.frs.getD j default)):=⟨fun j hj=>(rx.out j (by omega)).1⟩
 have sF:=oF.sl
 refine go ?_
 refine WX.loopA [25,26,27,28,4,3,29,30,31,32,33,34,35,36,37,24] (by kernel_rfl) (fun i=>xs.length - i) (fun i t ht=>∃ ys,Ext h ht∧tmGet t 24=I i∧i≤xs.length∧H.n≤ht.n∧OwnC h ht p [.slice m1 m2 m3,.slice f1 f2 f3,.slice i1 i2 i3,I a.used,.slice v1 v2 v3,I a.steps,I a.heaps,.int .u8 a.state,I a.trap,I a.exit]∧OwnC h ht q [.slice none 0 0,.slice none 0 0,.slice none 0 0,I 0,.slice none 0 0,I 0,I 0,.int .u8 0,I 0,I 0]∧
  Hid (∀ k,h2.n≤k→k<X3.n→ht.get k=X3.get k)∧OwnR 5 RRf X3.n ht (.slice f1 f2 f3) ys∧ys.length=xs.length∧Hid (∀ j,j<xs.length→RelF (ys.getD j default) (a.frs.getD j default))∧Hid (∀ j,i≤j→j<xs.length→ys.getD j default=xs.getD j default)∧Hid (∀ j,j<i→OwnR 4 RVal H.n ht (ys.getD j default).v (a.frs.getD j default).regs)) 0 ?_ ?_
 ·exact⟨xs,eH,sl_,Nat.zero_le _,Nat.le_refl _,oX,oQ,⟨KH⟩,oF,rfl,hrelx,⟨fun j _ _=>rfl⟩,⟨fun j hj=>absurd hj (Nat.not_lt_zero _)⟩⟩
 rintro i t ht hsame ⟨ys,et,s24,hi,nt,op,oq,hK,oy,ly,hrel,hold,hnew⟩
 have sy:=oy.sl
 refine go ?_
 refine WX.br (fun hc=> ?_) (fun hc=> ?_)<;>simp only[DB]at hc
 ·have hi':i<ys.length:=by omega
  obtain⟨cs,⟨rfl,hone⟩,pc,hs⟩:=slr_atX sy hi'
  have pcX:=pc
  have pc:=(pc _ (Ext.refl _)).1
  have hyi:ys.getD i default=xs.getD i default:=hold.out i (Nat.le_refl _) (by omega)
  obtain⟨_,rv,rl⟩:=rx.out i (by omega)
  have rr:=hrel.out i (by omega)
  have hrl:=sm4.out i (by omega)
  rw[←hyi]at rv
  have hshape:∃ a n k,(ys.getD i default).v= .slice a n k:=slv_shape rv
  generalize hy:ys.getD i default=y at *
  generalize hb:a.frs.getD i default=b at *
  obtain⟨y1,y2,y3,yv,y4⟩:=y
  obtain⟨ya,yn,yk,hyv⟩:=hshape
  have hyv:yv= .slice ya yn yk:=hyv
  subst hyv
  refine go ?_
  refine WO.al ?_
  intro p4 h4 e4 o4
  have op:=op.ext e4
  refine go ?_
  refine WO.stC0 (cs:=[I y1,I y2,I y3,.slice ya yn yk,I y4]) o4 e4 ?_
  intro h5 e5 o5 u5
  have op:=(by assumption:OwnC h ht p _).ext e5
  have oy5:=oy.ext e5
  have e05:=et.trans e5
  have n5:=e5.n
  refine go ?_
  refine WX.regionU2 0 rfl rfl ?_
  have opX:OwnC h (inC (asideN 0 h5)) p _:=op
  have o5X:OwnC ht (inC (asideN 0 h5)) p4 _:=o5
  refine goU ?_
  refine WO.con (cloneV_ok _ (.slice ya yn yk) b.regs (slv_get rv (fun g hg=>e05.get g hg) e05.n) (by omega)) ?_
  rintro w X6 ⟨ow,e6⟩
  refine WO.nil ?_
  refine uK2_e e6 reads_call ?_
  obtain⟨w1,w2,w3,rfl⟩:=slr_shapeM ow.sl
  have oy6:OwnR 5 RRf X3.n X6 (.slice f1 f2 f3) ys:=OwnR.ext (h:=inC (asideN 0 h5)) (OwnR.upd oy5 (fun _ _ _=>rfl) (Nat.le_refl _)) e6
  have sy6:SlR 5 RRf (inC X6) (.slice f1 f2 f3) ys:=OwnR.sl (h:=inC X6) (OwnR.upd oy6 (fun _ _ _=>rfl) (Nat.le_refl _))
  refine goU ?_
  refine WU2.wFR (i:=i) (off:=3) (cs:=[.slice w1 w2 w3]) (ho:=by simp) ⟨y1,y2,y3,.slice w1 w2 w3,y4⟩ oy6 (by have:=e05.mark;show h5.mark≤X3.n;omega) hi' (fun old hx hr ho=>by
   rw[hy]at hr
   obtain⟨rfl,_⟩:=hr
   exact⟨rfl,rfl⟩) ?_
  intro H7 n7 k7 oy7 w7 m7 r7
  have n7:H7.n=X6.n:=n7
  have n6:h5.n≤X6.n:=e6.n
  have k6:∀ g,g<h5.n→X6.get g=h5.get g:=fun g hg=>e6.get g hg
  have n45:ht.n≤h5.n:=n5
  have hno:∀ g,(g<X3.n∨H.n≤g)→∀ n k',Value.slice f1 f2 f3≠ .slice (some ⟨g,0,none⟩) n k':=fun g hg n k' e=>by have:=hgF g n k' e;omega
  have kk:∀ g,g<h5.n→(g<X3.n∨H.n≤g)→H7.get g=h5.get g:=fun g hg hq=>(k7 g (by omega) (hno g hq)).trans (k6 g hg)
  have e7:Ext h H7:=⟨by have:=e05.n;omega,fun g hg=>(kk g (by have:=e05.n;omega) (.inl (by omega))).trans (e05.get g hg),fun w=>w7 (e6.wf (e05.wf w)),m7.trans e05.mark,fun hm'=>r7.trans (e05.wr hm')⟩
  refine go ?_
  refine loopK_normal (i+1) (by omega) ⟨_,e7,sln,by omega,by omega,ownC_get op (fun g e hg=>kk g hg (.inl (by have:=(hp g e).2;omega))) (by omega),ownC_get (oq.ext e5) (fun g e hg=>kk g hg (.inl (by have:=(hqX g e).2;omega))) (by omega),⟨fun k hk1 hk2=> ?_⟩,oy7,by rw[List.length_set];exact ly,⟨fun j hj=> ?_⟩,⟨fun j hj hj2=> ?_⟩,⟨fun j hj=> ?_⟩⟩
  ·exact(kk k (by omega) (.inl hk2)).trans ((e5.get k (by omega)).trans (hK.out k hk1 hk2))
  ·rw[getD_setM hi']
   by_cases e:j=i
   ·subst e;rw[if_pos rfl,hb];exact rr
   ·rw[if_neg e];exact hrel.out j hj
  ·rw[getD_setM hi',if_neg (by omega)];exact hold.out j (by omega) hj2
  ·rw[getD_setM hi']
   by_cases e:j=i
   ·subst e
    rw[if_pos rfl,hb]
    exact OwnR.upd (OwnR.base ow (show H.n≤h5.n by omega)) (fun k hk1 hk2=>k7 k hk2 (hno k (.inr hk1))) (Nat.le_of_eq n7.symm)
   ·rw[if_neg e]
    exact OwnR.upd ((hnew.out j (by omega)).ext e5) (fun k hk1 hk2=>kk k hk2 (.inr hk1)) (by omega)
 ·have hii:i=xs.length:=by omega
  subst hii
  refine go ?_
  refine WO.stC0 (h0:=h) oq et ?_
  intro h8 e8 o8 u8
  have n8:=u8.1
  have k8:∀ k,h2.n≤k→k<ht.n→h8.get k=ht.get k:=fun k hk1 hk2=>u8.2 k hk2 (fun e=>by have:=(hqX k e).2;omega)
  have hK8:∀ k,h2.n≤k→k<X3.n→h8.get k=X3.get k:=fun k hk1 hk2=>(k8 k hk1 (by omega)).trans (hK.out k hk1 hk2)
  have oy8:OwnR 5 RRf X3.n h8 (.slice f1 f2 f3) ys:=OwnR.upd oy (fun k hk1 hk2=>k8 k (by omega) hk2) n8
  have hnew8:∀ j,j<xs.length→OwnR 4 RVal H.n h8 (ys.getD j default).v (a.frs.getD j default).regs:=fun j hj=>OwnR.upd (hnew.out j hj) (fun k hk1 hk2=>k8 k (by omega) hk2) n8
  have oi8:OwnN (inC X1) h8 (.slice i1 i2 i3) a.inn:=ownN_get oi3 (fun g hg1 hg2=>hK8 g (by have hg1:X1.n≤g:=hg1;omega) hg2) (by omega)
  have om8:SlMb h8 (.slice m1 m2 m3) a.mem:=om3.dep (fun k o hk1 hk2 e=>(hK8 k hk1 hk2).trans e) (by omega)
  have oe8:SlE h8 (.slice v1 v2 v3) a.evs:=OwnR.dep oe (fun k o hk1 hk2 e=>(hK8 k (by have hk1:X2.n≤k:=hk1;omega) hk2).trans e) (by omega)
  have of8:SlMf h8 (.slice f1 f2 f3) a.frs:=slr_unraw (rel:=fun x f=>RelF x f∧SlV h8 x.v f.regs∧(f.regs.length:Int)≤9223372036854775807) oy8.sl (by omega) (fun j hj=>⟨hrel.out j (by omega),(hnew8 j (by omega)).sl,(rx.out j hj).2.2⟩) (fun cs x f r ⟨⟨q1,q2,q3,q4⟩,q5,q6⟩=>⟨x.v,by rw[r.1,q1,q2,q3,q4],q5,q6⟩)
  refine go ?_
  refine rt ?_
  refine⟨⟨_,rfl,⟨_,_,_,_,rfl,om8,of8,oi8.sl,oe8,lam,laf,lai,lae⟩,⟨_,_,_,_,ys,X3.n,H.n,rfl,oy8,by omega,by omega,by omega,by omega,fun g n k e=>(hgF g n k e).2,fun j hj=>hnew8 j (by omega),⟨_,?_,oi8⟩,fun g n k e=> ?_⟩⟩,e8⟩
  ·show h.n≤X1.n
   omega
  ·rcases oi3 with ⟨e2,_⟩|⟨g2,q1,q2,q3,_⟩
   ·rw[e2]at e;cases e
   ·rw[q3]at e;cases e;exact q2
end Go.Proofs.Ytmilpkdhbdgjfaa
namespace Go.Proofs.Ytmilpkdhbdgjfaa
open Go.Am
set_option linter.unusedVariables false
set_option linter.unusedSimpArgs false
set_option maxHeartbeats 2000000
def RAny {α:Type} (_:AHeap) (_:List Value) (_:α):Prop:=True
theorem own_any {α:Type} {c b:Nat} {R:AHeap→List Value→α→Prop} {h:AHeap} {v:Value} {l:List α} (o:OwnR c R b h v l):OwnR c RAny b h v l:=by
 rcases o with o|⟨g,cells,D,g1,g2,g3,g4,g5,_⟩
 ·exact .inl o
 ·exact .inr ⟨g,cells,fun _=>False,g1,g2,g3,g4,g5,id,fun _ h=>h.elim,fun _ _ _ _ _ _=>trivial⟩
theorem any_keep {α β:Type} {c b b' b'':Nat} {h h':AHeap} {v v':Value} {l:List α} {l' l2:List β} (o:OwnR c RAny b h v l) (o1:OwnR c RAny b' h v' l') (o2:OwnR c RAny b'' h' v' l2) (hl:l2.length=l'.length) (hk:∀ k,k<h.n→(∀ n k',v'≠ .slice (some ⟨k,0,none⟩) n k')→h'.get k=h.get k) (hn:h.n≤h'.n):OwnR c RAny b h' v l:=by
 rcases o with o|⟨g,cells,D,g1,g2,g3,g4,g5,_⟩
 ·exact .inl o
 ·by_cases e:∀ n k',v'≠ .slice (some ⟨g,0,none⟩) n k'
  ·exact .inr ⟨g,cells,fun _=>False,g1,Nat.lt_of_lt_of_le g2 hn,g3,(hk g g2 e).trans g4,g5,id,fun _ h=>h.elim,fun _ _ _ _ _ _=>trivial⟩
  ·obtain⟨n,k',e⟩:∃ n k',v'= .slice (some ⟨g,0,none⟩) n k':=by
    refine Classical.byContradiction fun hn=>e fun n k' he=>hn ⟨n,k',he⟩
   rcases o1 with ⟨e1,_⟩|⟨q,cq,_,_,_,q3,q4,q5,_⟩
   ·rw[e1]at e;cases e
   rcases o2 with ⟨e1,_⟩|⟨r,cr,_,_,r2,r3,r4,r5,_⟩
   ·rw[e1]at e;cases e
   rw[e]at q3 r3
   cases q3
   rw[hl]at r3
   cases r3
   rw[g4]at q4
   cases q4
   exact .inr ⟨g,cr,fun _=>False,g1,r2,g3,r4,by rw[r5,hl,←q5];exact g5,id,fun _ h=>h.elim,fun _ _ _ _ _ _=>trivial⟩
theorem own_free {α:Type} {c b:Nat} {R:AHeap→List Value→α→Prop} {h h':AHeap} {v:Value} {l:List α} (o:OwnR c R b h v l) (hf:∀ h h' cs a,R h cs a→R h' cs a) (hv:∀ g n k,v= .slice (some ⟨g,0,none⟩) n k→h'.get g=h.get g) (hn:h.n≤h'.n):OwnR c R b h' v l:=by
 rcases o with o|⟨g,cells,D,g1,g2,g3,g4,g5,g6,g7,g8⟩
 ·exact .inl o
 ·exact .inr ⟨g,cells,fun _=>False,g1,Nat.lt_of_lt_of_le g2 hn,g3,(hv _ _ _ g3).trans g4,g5,id,fun _ h=>h.elim,fun i a ha hx _ _=>hf _ _ _ _ (g8 i a ha).self⟩
noncomputable def body9_0:ACode:=(.seq (.seq (.region [⟨some 12,none,(.mov (.tmp 3))⟩,⟨some 13,none,(.fld 1 (.tmp 1))⟩,⟨some 14,none,(.load false 1 (.tmp 13))⟩,⟨some 15,none,(.mov (.tmp 2))⟩,⟨some 16,none,(.idx 5 (.tmp 14) (.tmp 15))⟩,⟨some 17,none,(.fld 3 (.tmp 16))⟩,⟨some 18,none,(.load false 1 (.tmp 17))⟩,⟨some 19,none,(.len (.tmp 18))⟩,⟨some 20,none,(.bin .lss (.tmp 12) (.tmp 19))⟩]) (.cond (.tmp 20) .skip (.exit 2))) (.seq (.block 3 (.region [⟨some 23,none,(.fld 1 (.tmp 1))⟩,⟨some 24,none,(.load false 1 (.tmp 23))⟩,⟨some 25,none,(.mov (.tmp 2))⟩,⟨some 26,none,(.idx 5 (.tmp 24) (.tmp 25))⟩,⟨some 27,none,(.fld 3 (.tmp 26))⟩,⟨some 28,none,(.load false 1 (.tmp 27))⟩,⟨some 29,none,(.mov (.tmp 3))⟩,⟨some 30,none,(.idx 4 (.tmp 28) (.tmp 29))⟩,⟨some 31,none,(.fld 0 (.tmp 30))⟩,⟨none,none,(.store 1 (.tmp 31) (.const (.int .u8 9)))⟩])) (.region [⟨some 21,none,(.mov (.tmp 3))⟩,⟨some 22,none,(.bin .add (.tmp 21) (.const (.int .i64 1)))⟩,⟨some 3,none,(.mov (.tmp 22))⟩])))
noncomputable def body9_1:ACode:=(.seq (.seq (.region [⟨some 5,none,(.mov (.tmp 2))⟩,⟨some 6,none,(.fld 1 (.tmp 1))⟩,⟨some 7,none,(.load false 1 (.tmp 6))⟩,⟨some 8,none,(.len (.tmp 7))⟩,⟨some 9,none,(.bin .lss (.tmp 5) (.tmp 8))⟩]) (.cond (.tmp 9) .skip (.exit 0))) (.seq (.block 1 (.seq (.seq (.region [⟨some 3,none,(.mov (.const (.int .i64 0)))⟩]) (.block 2 (.loop body9_0))) (.region [⟨some 32,none,(.fld 1 (.tmp 1))⟩,⟨some 33,none,(.load false 1 (.tmp 32))⟩,⟨some 34,none,(.mov (.tmp 2))⟩,⟨some 35,none,(.idx 5 (.tmp 33) (.tmp 34))⟩,⟨some 36,none,(.fld 0 (.tmp 35))⟩,⟨none,none,(.store 1 (.tmp 36) (.const (.int .i64 (-7))))⟩]))) (.region [⟨some 10,none,(.mov (.tmp 2))⟩,⟨some 11,none,(.bin .add (.tmp 10) (.const (.int .i64 1)))⟩,⟨some 2,none,(.mov (.tmp 11))⟩])))
noncomputable def body9_2:ACode:=(.seq (.seq (.region [⟨some 37,none,(.mov (.tmp 4))⟩,⟨some 38,none,(.fld 2 (.tmp 1))⟩,⟨some 39,none,(.load false 1 (.tmp 38))⟩,⟨some 40,none,(.len (.tmp 39))⟩,⟨some 41,none,(.bin .lss (.tmp 37) (.tmp 40))⟩]) (.cond (.tmp 41) .skip (.exit 4))) (.seq (.block 5 (.region [⟨some 44,none,(.fld 2 (.tmp 1))⟩,⟨some 45,none,(.load false 1 (.tmp 44))⟩,⟨some 46,none,(.mov (.tmp 4))⟩,⟨some 47,none,(.idx 1 (.tmp 45) (.tmp 46))⟩,⟨none,none,(.store 1 (.tmp 47) (.const (.int .i64 (-7))))⟩])) (.region [⟨some 42,none,(.mov (.tmp 4))⟩,⟨some 43,none,(.bin .add (.tmp 42) (.const (.int .i64 1)))⟩,⟨some 4,none,(.mov (.tmp 43))⟩])))
noncomputable def body9:ACode:=(.seq (.region [⟨some 1,none,(.box (.tmp 0))⟩]) (.seq (.seq (.region [⟨some 2,none,(.mov (.const (.int .i64 0)))⟩]) (.block 0 (.loop body9_1))) (.seq (.region [⟨some 4,none,(.mov (.const (.int .i64 0)))⟩]) (.block 4 (.loop body9_2)))))
set_option maxRecDepth 100000 in
theorem tab9:tb.code 9=some ⟨48,[],body9⟩:=by kernel_rfl
theorem spoil_ok (hB h:AHeap) (cs:List Value) (a:MMach) (b:Nat) (o:OwnMach b h cs a) (sm:SmallM a) (e0:Ext hB h) (hb:hB.n≤b):WC Try.prog tb 9 [.agg cs.toArray] h fun r h'=>Ext hB h':=by
 obtain⟨vm,vf,vi,ve,xs,b1,b2,rfl,of,lx,hb1,hb2,hb3,hgF,hregs,⟨hI,hbI,oi⟩,hgI⟩:=o
 obtain⟨sm1,sm2,sm3,sm4,sm5,sm6⟩:=sm
 replace sm4:=Hid.mk sm4
 refine WC.of (nostub 9) tab9 ?_;simp only[mkTm,Nat.zero_add,Nat.reduceAdd]
 refine go ?_
 refine WO.bx ?_
 intro p h1 e1 o1
 have hp:=own_atM o1
 replace o1:OwnC h h1 p [vm,vf,vi,I a.used,ve,I a.steps,I a.heaps,.int .u8 a.state,I a.trap,I a.exit]:=o1
 have n1:=e1.n
 have e01:=e0.trans e1
 have hxl:Hid (∀ j,j<xs.length→∀ g n k,(xs.getD j default).v= .slice (some ⟨g,0,none⟩) n k→b2≤g∧g<h.n):=⟨fun j hj g n k e=>ownR_ltM (hregs j hj) e⟩
 have hregs:Hid (∀ j,j<xs.length→OwnR 4 RAny b2 h1 (xs.getD j default).v (a.frs.getD j default).regs):=⟨fun j hj=>own_any ((hregs j hj).ext e1)⟩
 refine go ?_
 refine WX.loopA [5,6,7,8,9,3,12,13,14,15,16,17,18,19,20,23,24,25,26,27,28,29,30,31,21,22,3,32,33,34,35,36,10,11,2] (by kernel_rfl) (fun i=>xs.length - i) (fun i t ht=>∃ ys,Ext hB ht∧tmGet t 2=I i∧i≤xs.length∧h1.n≤ht.n∧OwnC h ht p [vm,vf,vi,I a.used,ve,I a.steps,I a.heaps,.int .u8 a.state,I a.trap,I a.exit]∧OwnR 5 RRf b1 ht vf ys∧ys.length=xs.length∧Hid (∀ g,g<b1→ht.get g=h1.get g)∧
  Hid (∀ j,j<xs.length→(ys.getD j default).v=(xs.getD j default).v)∧Hid (∀ j,j<xs.length→OwnR 4 RAny b2 ht (xs.getD j default).v (a.frs.getD j default).regs)) 0 ?_ ?_
 ·exact⟨xs,e01,sl_,Nat.zero_le _,Nat.le_refl _,o1,of.ext e1,rfl,⟨fun _ _=>rfl⟩,⟨fun _ _=>rfl⟩,hregs⟩
 ·rintro i t ht hsame ⟨ys,et,s2,hi,nt,op,oy,ly,hlow,hv,hr⟩
  have sy:=oy.sl
  refine go ?_
  refine WX.br (fun hc=> ?_) (fun hc=> ?_)<;>simp only[DB]at hc
  ·have hi':i<ys.length:=by omega
   have hix:i<xs.length:=by omega
   refine go ?_
   have hvi:=hv.out i hix
   have hri:=hr.out i hix
   have hrl:=sm4.out i (by omega)
   refine WX.loopA [12,13,14,15,16,17,18,19,20,23,24,25,26,27,28,29,30,31,21,22,3] (by kernel_rfl) (fun k=>(a.frs.getD i default).regs.length - k) (fun k t ht=>Ext hB ht∧tmGet t 3=I k∧k≤(a.frs.getD i default).regs.length∧h1.n≤ht.n∧OwnC h ht p [vm,vf,vi,I a.used,ve,I a.steps,I a.heaps,.int .u8 a.state,I a.trap,I a.exit]∧OwnR 5 RRf b1 ht vf ys∧Hid (∀ g,g<b1→ht.get g=h1.get g)∧Hid (∀ j,j<xs.length→OwnR 4 RAny b2 ht (xs.getD j default).v (a.frs.getD j default).regs)) 0 ?_ ?_
   ·exact⟨et,sl_,Nat.zero_le _,nt,op,oy,hlow,hr⟩
   ·clear et op oy hlow hr hri nt sy
    rintro k t3 ht hsame3 ⟨et,s3,hk,nt,op,oy,hlow,hr⟩
    have sy:=oy.sl
    have hri:=hr.out i hix
    have hxi:=hxl.out i hix
    have sri:=hri.sl
    obtain⟨cs,⟨rfl,hone⟩,pc,hs⟩:=slr_atX sy hi'
    have pc:=(pc _ (Ext.refl _)).1
    rw[hvi]at pc
    generalize hrr:(a.frs.getD i default).regs=rs at *
    generalize hxv:(xs.getD i default).v=xv at *
    refine go ?_
    refine WX.br (fun hc2=> ?_) (fun hc2=> ?_)<;>simp only[DB]at hc2
    ·obtain⟨_,_,_,hsv⟩:=slr_atX sri (show k<rs.length by omega)
     refine go ?_
     refine WO.stR (hB:=hB) (i:=k) (off:=0) (cs:=[.int .u8 9]) (ho:=by simp) (default:MVal) hri et (by omega) (by omega) (fun _ _ _ _=>trivial) ?_
     intro h5 e5 o5 n5 k5 _
     refine go ?_
     refine loopK_normal (k+1) (by omega) ⟨e5,sln,by omega,by omega,ownC_get op (fun g e _=>k5 g (by omega) fun n k' e2=> ?_) (by omega),own_free oy (fun _ _ _ _ r=>r) (fun g n k' e=>k5 g (ownR_ltM oy e).2 fun n2 k2 e2=> ?_) (by omega),⟨fun g hg=>(k5 g (by omega) fun n2 k2 e2=> ?_).trans (hlow.out g hg)⟩,⟨fun j hj=>any_keep (hr.out j hj) hri o5 (by rw[List.length_set]) k5 (by omega)⟩⟩
     ·have:=(hp g e).1;have:=(hxi g _ _ e2).2;omega
     ·have:=hgF g n k' e;have:=(hxi g _ _ e2).1;omega
     ·have:=(hxi g _ _ e2).1;omega
    ·refine go ?_
     refine WO.stR (hB:=hB) (i:=i) (off:=0) (cs:=[I (-7)]) (ho:=by simp) ⟨-7,(ys.getD i default).block,(ys.getD i default).pos,xv,(ys.getD i default).into⟩ oy et (by omega) hi' (fun old hx hr ho=>by
      obtain⟨rfl,r2⟩:=hr
      refine⟨by rw[hvi];rfl,?_⟩
      rw[hvi]at r2;exact r2) ?_
     intro h5 e5 o5 n5 k5 _
     have hnf:∀ g,(g<b1∨b2≤g)→∀ n k',vf≠ .slice (some ⟨g,0,none⟩) n k':=fun g hg n k' e=>by have:=hgF g n k' e;have:=(ownR_ltM oy e).1;omega
     refine go ?_
     refine loopK_normal (i+1) (by omega) ⟨_,e5,sln,by omega,by omega,ownC_get op (fun g e _=>k5 g (by omega) (hnf g (.inr (by have:=(hp g e).1;omega)))) (by omega),o5,by rw[List.length_set];exact ly,⟨fun g hg=>(k5 g (by omega) (hnf g (.inl hg))).trans (hlow.out g hg)⟩,⟨fun j hj=> ?_⟩,⟨fun j hj=>OwnR.upd (hr.out j hj) (fun k hk1 hk2=>k5 k hk2 (hnf k (.inr hk1))) (by omega)⟩⟩
     rw[getD_setM hi']
     by_cases e:j=i
     ·subst e;rw[if_pos rfl];exact hxv.symm
     ·rw[if_neg e];exact hv.out j hj
  ·have oi2:OwnN hB ht vi a.inn:=by
    rcases oi with oi|⟨g,q1,q2,q3,q4⟩
    ·exact .inl oi
    ·have:=hgI _ _ _ q3
     exact .inr ⟨g,by omega,by omega,q3,(hlow.out g this).trans ((e1.get g q2).trans q4)⟩
   clear hlow hr hv oy hxl hregs sy s2
   refine go ?_
   refine WX.loopA [37,38,39,40,41,44,45,46,47,42,43,4] (by kernel_rfl) (fun i=>a.inn.length - i) (fun i t ht=>∃ ns,Ext hB ht∧tmGet t 4=I i∧i≤a.inn.length∧OwnC h ht p [vm,vf,vi,I a.used,ve,I a.steps,I a.heaps,.int .u8 a.state,I a.trap,I a.exit]∧OwnN hB ht vi ns∧ns.length=a.inn.length) 0 ?_ ?_
   ·exact⟨_,et,sl_,Nat.zero_le _,op,oi2,rfl⟩
   clear et op oi2 nt
   rintro k t3 ht hsame3 ⟨ns,et,s4,hk,op,oi,ln⟩
   have si:=oi.sl
   refine go ?_
   refine WX.br (fun hc2=> ?_) (fun hc2=> ?_)<;>simp only[DB]at hc2
   ·rcases oi with ⟨_,e⟩|oi
    ·subst e;simp at hc2;omega
    obtain⟨g,q1,q2,rfl,q4⟩:=id oi
    refine go ?_
    refine WO.storeI (by exact ope_) (by exact ope_) oi et (by omega) ?_
    intro h5 e5 o5 u5
    have n5:=u5.1
    refine go ?_
    refine loopK_normal (k+1) (by omega) ⟨_,e5,sln,by omega,ownC_get op (fun g' e hg'=>u5.2 g' hg' fun a n c e2 e3=> ?_) (by omega),.inr o5,by rw[List.length_set];exact ln⟩
    cases e2
    cases e3
    have:h.n≤g:=(hp _ e).1
    have:=hgI _ _ _ rfl
    omega
   ·refine go ?_
    refine rtN ?_
    exact et
end Go.Proofs.Ytmilpkdhbdgjfaa
