/- What functions of the program come to in the abstract machine, and plain laws about it; no statement of the seat is proved in this text. -/
import Derived.Test.YtmilpkdhbdgjfaaJc
namespace Go.Proofs.Ytmilpkdhbdgjfaa
open Go.Am
set_option linter.unusedVariables false
set_option linter.unusedSimpArgs false
set_option maxHeartbeats 2000000
def cellsN (l:List MBlk):Nat:=(l.map fun b=>b.cells.length).sum
theorem cellsN_succ {l:List MBlk} {i:Nat} (h:i<l.length):cellsN (l.take (i+1))=cellsN (l.take i)+(l.getD i default).cells.length:=by
 rw[take_succM h];simp[cellsN]
theorem cellsN_le {l:List MBlk} {i:Nat}:cellsN (l.take i)≤cellsN l:=by
 have h:=List.take_append_drop i l
 have:cellsN l=cellsN (l.take i)+cellsN (l.drop i):=by
  conv=>lhs;rw[←h]
  simp only[cellsN,List.map_append,List.sum_append]
 omega
theorem cellsN_most {l:List MBlk} (h:∀ i,i<l.length→(l.getD i default).cells.length≤1000):∀ i,i≤l.length→cellsN (l.take i)≤1000 * i
 |0,_=>by simp[cellsN]
 |i+1,hi=>by
  have:=cellsN_most h i (by omega)
  have:=h i (by omega)
  rw[cellsN_succ (by omega)];omega
def InRow (q:Nat) (row:List Value) (w:Value) (l:List MVal) (S:Nat):Prop:=
 ∃ off,off+l.length * 4≤S∧S≤row.length∧w= .slice (some ⟨q,off,none⟩) l.length (if l.length=0 then 0 else 4)∧∀ i a,l[i]?=some a→(row.drop (off+i * 4)).take 4=[.int .u8 a.kind,I a.n,I a.block,I a.pos]
theorem InRow.sl {q:Nat} {row:List Value} {w:Value} {l:List MVal} {S:Nat} (r:InRow q row w l S) {hx:AHeap} (hq:hx.get q=some (.row row true 0)) (hn:q<hx.n):SlV hx w l:=by
 obtain⟨off,r1,r2,rfl,r4⟩:=r
 by_cases h0:l.length=0
 ·have:l=[]:=List.eq_nil_of_length_eq_zero h0
  subst this
  exact⟨[],⟨rfl,.inl ⟨rfl,.inr ⟨_,_,rfl⟩⟩⟩,fun i a h=>by simp at h⟩
 rw[if_neg h0]
 refine⟨(row.drop off).take (l.length * 4),⟨by rw[List.length_take,List.length_drop];omega,.inr ⟨q,off,row,rfl,rowOf_get hq,cut_ok (by omega),hn⟩⟩,fun i a h=> ?_⟩
 have hi:=(List.getElem?_eq_some_iff.1 h).1
 show _=_
 rw[←r4 i a h,List.drop_take,List.take_take,List.drop_drop,Nat.min_eq_left (by omega)]
theorem InRow.put {q:Nat} {row cs:List Value} {w:Value} {l:List MVal} {S o:Nat} (r:InRow q row w l S) (ho:S≤o) (hl:o+cs.length≤row.length):InRow q (putAt row o cs) w l S:=by
 obtain⟨off,r1,r2,rfl,r4⟩:=r
 refine⟨off,r1,by rw[putAt_len hl];exact r2,rfl,fun i a h=> ?_⟩
 have hi:=(List.getElem?_eq_some_iff.1 h).1
 rw[←r4 i a h]
 refine List.ext_getElem? fun m=> ?_
 rw[piece_get,piece_get]
 split
 ·rw[putAt_getL hl,if_pos (by omega)]
 ·rfl
theorem InRow.new {q:Nat} {row cs:List Value} {l:List MVal} {o:Nat} (hl:o+cs.length≤row.length) (hc:cs.length=l.length * 4) (h:∀ i a,l[i]?=some a→(cs.drop (i * 4)).take 4=[.int .u8 a.kind,I a.n,I a.block,I a.pos]):InRow q (putAt row o cs) (.slice (some ⟨q,o,none⟩) l.length (if l.length=0 then 0 else 4)) l (o+l.length * 4):=by
 refine⟨o,Nat.le_refl _,by rw[putAt_len hl];omega,rfl,fun i a hi=> ?_⟩
 have hi':=(List.getElem?_eq_some_iff.1 hi).1
 rw[←h i a hi]
 refine List.ext_getElem? fun m=> ?_
 rw[piece_get,piece_get]
 split
 ·rw[putAt_getL hl,if_neg (by omega),if_pos (by omega)]
  congr 1;omega
 ·rfl
theorem InRow.mono {q:Nat} {row:List Value} {w:Value} {l:List MVal} {S S':Nat} (r:InRow q row w l S) (h:S≤S') (h2:S'≤row.length):InRow q row w l S':=by
 obtain⟨off,r1,r2,r3,r4⟩:=r
 exact⟨off,by omega,h2,r3,r4⟩
theorem slr_get {α:Type} {c:Nat} {R:AHeap→List Value→α→Prop} {h h':AHeap} {v:Value} {xs:List α} (s:SlR c R h v xs) (hR:∀ cs a,R h cs a→R h' cs a) (hg:∀ g,g<h.n→h'.get g=h.get g) (hn:h.n≤h'.n):SlR c R h' v xs:=by
 obtain⟨cells,⟨a,b⟩,s2⟩:=s
 refine⟨cells,⟨a,b.imp id ?_⟩,fun i x h=>hR _ _ (s2 i x h)⟩
 rintro⟨g,off,row,e1,e2,e3,e4⟩
 exact⟨g,off,row,e1,by unfold rowOf at e2 ⊢;rw[hg g e4];exact e2,e3,Nat.lt_of_lt_of_le e4 hn⟩
theorem getD_setM {α:Type} [Inhabited α] {l:List α} {i j:Nat} {a:α} (h:i<l.length):(l.set i a).getD j default=if j=i then a else l.getD j default:=by
 rw[List.getD_eq_getElem?_getD,List.getD_eq_getElem?_getD]
 by_cases e:j=i
 ·subst e;rw[if_pos rfl,List.getElem?_set_self h];rfl
 ·rw[if_neg e,List.getElem?_set_ne (fun x=>e x.symm)]
def RelB (x:RawB) (b:MBlk):Prop:=x.site=b.site∧x.ty=b.ty∧x.depth=b.depth∧x.alive=b.alive
noncomputable def body13_0:ACode:=(.seq (.region [⟨some 13,none,(.bin .lss (.tmp 12) (.tmp 11))⟩]) (.seq (.cond (.tmp 13) .skip (.exit 0)) (.seq (.block 1 (.seq (.region [⟨some 14,none,(.idx 5 (.tmp 10) (.tmp 12))⟩,⟨some 15,none,(.load true 5 (.tmp 14))⟩,⟨some 5,none,(.alloc [(.int .i64 0),(.int .i64 0),(.int .i64 0),(.bool false),(.slice none 0 0)])⟩,⟨none,none,(.store 5 (.tmp 5) (.tmp 15))⟩]) (.region [⟨some 16,none,(.mov (.tmp 3))⟩,⟨some 17,none,(.fld 4 (.tmp 5))⟩,⟨some 18,none,(.load false 1 (.tmp 17))⟩,⟨some 19,none,(.len (.tmp 18))⟩,⟨some 20,none,(.bin .add (.tmp 16) (.tmp 19))⟩,⟨some 3,none,(.mov (.tmp 20))⟩]))) (.region [⟨some 21,none,(.bin .add (.tmp 12) (.const (.int .i64 1)))⟩,⟨some 12,none,(.mov (.tmp 21))⟩]))))
noncomputable def body13_1:ACode:=(.seq (.region [⟨some 29,none,(.bin .lss (.tmp 28) (.tmp 27))⟩]) (.seq (.cond (.tmp 29) .skip (.exit 2)) (.seq (.block 3 (.seq (.region [⟨some 30,none,(.mov (.tmp 28))⟩,⟨some 8,none,(.mov (.tmp 30))⟩]) (.seq (.region [⟨some 31,none,(.mov (.tmp 7))⟩,⟨some 32,none,(.mov (.tmp 6))⟩,⟨some 33,none,(.mov (.tmp 8))⟩,⟨some 34,none,(.idx 5 (.tmp 32) (.tmp 33))⟩,⟨some 35,none,(.fld 4 (.tmp 34))⟩,⟨some 36,none,(.load false 1 (.tmp 35))⟩,⟨some 37,none,(.copy 4 (.tmp 31) (.tmp 36))⟩,⟨some 9,none,(.mov (.tmp 37))⟩]) (.regionC [(⟨some 38,none,(.mov (.tmp 6))⟩,[]),(⟨some 39,none,(.mov (.tmp 8))⟩,[]),(⟨some 40,none,(.mov (.tmp 7))⟩,[]),(⟨some 41,none,(.mov (.tmp 9))⟩,[]),(⟨some 42,none,(.mov (.tmp 9))⟩,[]),(⟨some 43,none,(.slice 4 (.tmp 40) none (some (.tmp 41)) (some (.tmp 42)))⟩,[]),(⟨some 44,none,(.mov (.tmp 7))⟩,[]),(⟨some 45,none,(.mov (.tmp 9))⟩,[]),(⟨some 46,none,(.slice 4 (.tmp 44) (some (.tmp 45)) none none)⟩,[]),(⟨some 47,none,(.idx 5 (.tmp 38) (.tmp 39))⟩,[]),(⟨some 48,none,(.fld 4 (.tmp 47))⟩,[]),(⟨none,none,(.store 1 (.tmp 48) (.tmp 43))⟩,[]),(⟨some 7,none,(.mov (.tmp 46))⟩,[])])))) (.region [⟨some 49,none,(.bin .add (.tmp 28) (.const (.int .i64 1)))⟩,⟨some 28,none,(.mov (.tmp 49))⟩]))))
noncomputable def body13:ACode:=(.seq (.region [⟨some 2,none,(.mov (.const (.slice none 0 0)))⟩]) (.seq (.region [⟨some 3,none,(.mov (.const (.int .i64 0)))⟩]) (.seq (.seq (.region [⟨some 10,none,(.mov (.tmp 0))⟩,⟨some 11,none,(.len (.tmp 10))⟩,⟨some 12,none,(.mov (.const (.int .i64 0)))⟩]) (.block 0 (.loop body13_0))) (.seq (.regionC [(⟨some 22,none,(.mov (.tmp 0))⟩,[]),(⟨some 23,none,(.call (.func 28) [(.tmp 22)])⟩,[]),(⟨some 24,none,(.mov (.tmp 3))⟩,[]),(⟨some 25,none,(.mkSlice 4 [(.int .u8 0),(.int .i64 0),(.int .i64 0),(.int .i64 0)] (.tmp 24) (.tmp 24))⟩,[]),(⟨some 6,none,(.mov (.tmp 23))⟩,[]),(⟨some 7,none,(.mov (.tmp 25))⟩,[])]) (.seq (.seq (.region [⟨some 26,none,(.mov (.tmp 6))⟩,⟨some 27,none,(.len (.tmp 26))⟩,⟨some 28,none,(.mov (.const (.int .i64 0)))⟩]) (.block 2 (.loop body13_1))) (.seq (.region [⟨some 50,none,(.mov (.tmp 6))⟩,⟨some 2,none,(.mov (.tmp 50))⟩]) .ret))))))
set_option maxRecDepth 100000 in
theorem tab13:tb.code 13=some ⟨51,[(2,none)],body13⟩:=by kernel_rfl
theorem memTwin_ok (h:AHeap) (v:Value) (L:List MBlk) (s:SlMb h v L) (hm:h.mark≤h.n) (hL:L.length≤100) (hp:∀ i,i<L.length→(L.getD i default).cells.length≤1000):
  WC Try.prog tb 13 [v] h fun r h'=>OwnR 5 RMb h.n h' r L∧Ext h h':=by
 obtain⟨xs,sx,lx,rx⟩:=slr_raw (rel:=fun x a=>RelB x a∧SlV h x.v a.cells∧(a.cells.length:Int)≤9223372036854775807) (B:=RRb) s (fun cs a r=>by
  obtain⟨x,r1,a1,a2,a3,a4,a5⟩:=RMb.raw r
  obtain⟨_,_,_,hl⟩:=r
  exact⟨x,r1,⟨a1,a2,a3,a4⟩,a5,hl⟩)
 replace rx:=Hid.mk rx
 have most:=Hid.mk (cellsN_most hp)
 have hNL:=most.out L.length (Nat.le_refl _)
 rw[List.take_length]at hNL
 replace hp:=Hid.mk hp
 have extR:∀ {h':AHeap},Ext h h'→SlR 5 RRb h' v xs:=fun {h'} e=>SlR.ext (h:=h) (h':=h') (fun cs a (r:RRb h cs a)=>(r:RRb h' cs a)) sx e
 refine WC.of (nostub 13) tab13 ?_;simp only[mkTm,Nat.zero_add,Nat.reduceAdd]
 refine go ?_
 refine WX.loopA [13,14,15,5,16,17,18,19,20,3,21,12] (by kernel_rfl) (fun i=>L.length - i) (fun i t h1=>Ext h h1∧tmGet t 12=I i∧i≤L.length∧tmGet t 3=I (cellsN (L.take i))) 0 ?_ ?_
 ·exact⟨Ext.refl _,sl_,Nat.zero_le _,sl_⟩
 ·rintro i t h1 hsame ⟨e1,s12,hi,s3⟩
  have sx1:=extR e1
  refine go ?_
  refine WX.br (fun hc=> ?_) (fun hc=> ?_)<;>simp only[DB]at hc
  ·have hi':i<xs.length:=by omega
   obtain⟨cs,⟨rfl,hone⟩,pc,hs⟩:=slr_atX sx1 hi'
   have pc:=(pc _ (Ext.refl _)).1
   obtain⟨rr,rv,rl⟩:=rx.out i (by omega)
   have hsucc:=cellsN_succ (l:=L) (i:=i) (by omega)
   have hcl:=hp.out i (by omega)
   have hmi:=most.out i (by omega)
   generalize xs.getD i default=x at *
   generalize L.getD i default=b at *
   obtain⟨x1,x2,x3,x4,xv⟩:=x
   obtain⟨aa,an,ak,rfl⟩:∃ a n k,xv= .slice a n k:=slv_shape rv
   have rv1:=SlV.ext rv e1
   refine go ?_
   refine WO.al ?_
   intro p h2 e2 o2
   refine go ?_
   refine WO.stC0 o2 e2 ?_
   intro h3 e3 o3 u3
   have rv3:=SlV.ext rv1 e3
   refine go ?_
   refine loopK_normal (i+1) (by omega) ⟨e1.trans e3,sln,by omega,?_⟩
   rw[hsucc,Int.natCast_add];exact sl_
  ·have hii:i=L.length:=by omega
   subst hii
   rw[List.take_length]at s3
   refine go ?_
   have hm1:h1.mark≤h.n:=by rw[e1.mark];exact hm
   refine WX.regionU2 1 rfl rfl ?_
   refine goU ?_
   refine WO.con (cloneB_ok _ v xs (slr_get sx1 (fun cs a r=>r) (fun _ _=>rfl) (Nat.le_succ _)) (by omega)) ?_
   rintro v6 X1 ⟨o6,eX⟩
   refine WO.nil ?_
   refine uK2_e eX reads_call ?_
   refine goU ?_
   refine WU2.mkSl (n:=cellsN L) (by have:=e1.n;omega) (by omega) ?_
   intro X2 n2 g2
   refine goU ?_
   have en:=eX.n
   have en:h1.n+1≤X1.n:=en
   have eg:∀ g,g<h1.n→X1.get g=h1.get g:=fun g hg=>eX.get g (Nat.lt_succ_of_lt hg)
   have ew:Wf h1→Wf X1:=fun w=>eX.wf fun g hg=>w g (Nat.le_of_succ_le hg)
   have o6:OwnR 5 RRb (h1.n+1) (outC h1 (inC X2)) v6 xs:=OwnR.upd o6 (fun k hk1 hk2=>(g2 k).trans (if_neg (by omega))) (Nat.le_of_eq n2.symm)
   have eA:Ext h (outC h1 (inC X2)):=⟨by have:=e1.n;show h.n≤X2.n;omega,fun g hg=>((g2 g).trans (if_neg (by have:=e1.n;omega))).trans ((eg g (by have:=e1.n;omega)).trans (e1.get g hg)),fun w g hg=>by
    have hg:X2.n≤g:=hg
    exact(g2 g).trans ((if_neg (by omega)).trans (ew (e1.wf w) g (by omega))),e1.mark,e1.wr⟩
   have gA:(outC h1 (inC X2)).get h1.n=some (.row (repl [.int .u8 0,I 0,I 0,I 0] (cellsN L)) true 0):=(g2 h1.n).trans (if_pos rfl)
   have nA:h1.n+1≤(outC h1 (inC X2)).n:=by show h1.n+1≤X2.n;omega
   have h1n:=e1.n
   generalize outC h1 (inC X2)=hA at *
   clear g2 n2 eX eg ew en sx1
   generalize hQ:h1.n=q at *
   obtain⟨oa,on,ok,rfl⟩:=slr_shapeM o6.sl
   have s6:=o6.sl
   have rlen:(repl [.int .u8 0,I 0,I 0,I 0] (cellsN L)).length=cellsN L * 4:=repl_length _ _
   generalize repl [.int .u8 0,I 0,I 0,I 0] (cellsN L)=row0 at *
   refine go ?_
   refine WX.loopA [29,30,8,31,32,33,34,35,36,37,9,38,39,40,41,42,43,44,45,46,47,48,7,49,28] (by kernel_rfl) (fun i=>L.length - i) (fun i t h2=>∃ row ys,Ext h h2∧tmGet t 28=I i∧i≤L.length∧q+1≤h2.n∧OwnR 5 RRb (q+1) h2 (.slice oa on ok) ys∧ys.length=L.length∧h2.get q=some (.row row true 0)∧row.length=cellsN L * 4∧tmGet t 7= .slice (some ⟨q,cellsN (L.take i) * 4,none⟩) (cellsN L - cellsN (L.take i)) 4∧
    Hid (∀ j,j<L.length→RelB (ys.getD j default) (L.getD j default))∧Hid (∀ j,i≤j→j<L.length→ys.getD j default=xs.getD j default)∧Hid (∀ j,j<i→InRow q row (ys.getD j default).v (L.getD j default).cells (cellsN (L.take i) * 4))) 0 ?_ ?_
   ·refine⟨row0,xs,eA,sl_,Nat.zero_le _,nA,o6,lx,gA,rlen,?_,⟨fun j hj=>(rx.out j hj).1⟩,⟨fun j _ _=>rfl⟩,⟨fun j hj=>absurd hj (Nat.not_lt_zero _)⟩⟩
    exact sl_
   rintro i t2 h2 hsame2 ⟨row,ys,e2,s28,hi2,nq,oy,ly,gq,rl,s7,hrel,hold,hnew⟩
   have sy:=oy.sl
   refine go ?_
   refine WX.br (fun hc2=> ?_) (fun hc2=> ?_)<;>simp only[DB]at hc2
   ·have hi':i<ys.length:=by omega
    have hiL:i<L.length:=by omega
    obtain⟨cs,⟨rfl,hone⟩,pc,hs⟩:=slr_atX sy hi'
    have pc:=(pc _ (Ext.refl _)).1
    have hyi:ys.getD i default=xs.getD i default:=hold.out i (Nat.le_refl _) hiL
    obtain⟨_,rv,rl'⟩:=rx.out i hiL
    have rr:=hrel.out i hiL
    rw[←hyi]at rv
    have hsucc:=cellsN_succ hiL
    have hle:=cellsN_le (l:=L) (i:=i+1)
    have rv2:=SlV.ext rv e2
    have hshape:∃ a n k,(ys.getD i default).v= .slice a n k:=slv_shape rv2
    generalize hy:ys.getD i default=y at *
    generalize hb:L.getD i default=b at *
    obtain⟨y1,y2,y3,y4,yv⟩:=y
    obtain⟨ya,yn,yk,hyv⟩:=hshape
    have hyv:yv= .slice ya yn yk:=hyv
    subst hyv
    obtain⟨yc,sc,sr⟩:=id rv2
    have hone2:oneCells yc=true:=one_all (by decide) sc.1 fun m hm'=>(sr m _ (List.getElem?_eq_getElem hm')).one
    have hycl:yc.length=b.cells.length * 4:=sc.1
    refine go ?_
    refine WO.cpA (off:=cellsN (L.take i) * 4) (n:=cellsN L - cellsN (L.take i)) (k:=b.cells.length) gq sc (by decide) (by omega) (by omega) hone2 ?_
    intro h3 n3 k3 g3 w3 m3 r3
    have n3:h3.n=h2.n:=n3
    have oy3:OwnR 5 RRb (q+1) h3 (.slice oa on ok) ys:=OwnR.upd oy (fun k hk1 hk2=>k3 k (by omega)) (Nat.le_of_eq n3.symm)
    have e3:Ext h h3:=⟨by have:=e2.n;omega,fun g hg=>(k3 g (by omega)).trans (e2.get g hg),fun w=>w3 (e2.wf w),m3.trans e2.mark,fun hm'=>(r3 (by rw[e2.mark];omega)).trans (e2.wr hm')⟩
    refine go ?_
    refine WX.regionU2 0 rfl rfl ?_
    have oX:OwnR 5 RRb (q+1) (asideN 0 h3) (.slice oa on ok) ys:=OwnR.upd oy3 (fun _ _ _=>rfl) (Nat.le_refl _)
    have sX:=OwnR.sl oX
    have sX:SlR 5 RRb (inC (asideN 0 h3)) (.slice oa on ok) ys:=slr_get sX (fun cs a r=>r) (fun _ _=>rfl) (Nat.le_refl _)
    refine goU ?_
    refine WO.slHM (sliceA_head (c:=4) (g:=q) (off:=cellsN (L.take i) * 4) (len:=cellsN L - cellsN (L.take i)) (n:=b.cells.length) (by omega)) ?_
    refine WO.nil ?_
    refine uK2_q ?_
    refine goU ?_
    refine WO.slLo (sliceA_rest (c:=4) (g:=q) (off:=cellsN (L.take i) * 4) (len:=cellsN L - cellsN (L.take i)) (n:=b.cells.length) (by omega)) ?_
    refine WO.nil ?_
    refine uK2_q ?_
    refine goU ?_
    refine WU2.wMR (i:=i) (off:=4) (cs:=[.slice (some ⟨q,cellsN (L.take i) * 4,none⟩) b.cells.length (if b.cells.length=0 then 0 else 4)]) (ho:=by simp) ⟨y1,y2,y3,y4,.slice (some ⟨q,cellsN (L.take i) * 4,none⟩) b.cells.length (if b.cells.length=0 then 0 else 4)⟩ oX (by have:=e3.mark;show h3.mark≤_;omega) hi' (fun old hx hr ho=>by
     rw[hy]at hr
     obtain⟨rfl,_⟩:=hr
     exact⟨rfl,rfl⟩) ?_
    intro X' nX kX oX' wX cl'
    refine goU ?_
    have nX:X'.n=h3.n:=nX
    have hno:∀ g,g≤q→∀ n k',Value.slice oa on ok≠ .slice (some ⟨g,0,none⟩) n k':=fun g hg n k' e=>by have:=(ownR_ltM oy e).1;omega
    have eF:Ext h (outC h3 (inC X')):=⟨by have:=e3.n;show h.n≤X'.n;omega,fun g hg=>(kX g (by show g<h3.n;have:=e3.n;omega) (hno g (by omega))).trans (e3.get g hg),fun w=>wX (fun g hg=>e3.wf w g hg),e3.mark,e3.wr⟩
    have oF:OwnR 5 RRb (q+1) (outC h3 (inC X')) (.slice oa on ok) (ys.set i ⟨y1,y2,y3,y4,.slice (some ⟨q,cellsN (L.take i) * 4,none⟩) b.cells.length (if b.cells.length=0 then 0 else 4)⟩):=OwnR.upd oX' (fun _ _ _=>rfl) (Nat.le_refl _)
    have gF:(outC h3 (inC X')).get q=some (.row (putAt row (cellsN (L.take i) * 4) yc) true 0):=(kX q (by show q<h3.n;omega) (hno q (Nat.le_refl _))).trans g3
    have nF:q+1≤(outC h3 (inC X')).n:=by show q+1≤X'.n;omega
    have hset:=fun j=>getD_setM (a:=(⟨y1,y2,y3,y4,.slice (some ⟨q,cellsN (L.take i) * 4,none⟩) b.cells.length (if b.cells.length=0 then 0 else 4)⟩:RawB)) (j:=j) hi'
    have hput:cellsN (L.take i) * 4+yc.length≤row.length:=by omega
    generalize outC h3 (inC X')=hF at *
    refine loopK_normal (i+1) (by omega) ⟨_,_,eF,sln,by omega,nF,oF,by rw[List.length_set];exact ly,gF,by rw[putAt_len hput];exact rl,?_,⟨fun j hj=> ?_⟩,⟨fun j hj hj2=> ?_⟩,⟨fun j hj=> ?_⟩⟩
    ·rw[hsucc,Nat.add_mul,←Nat.sub_sub];exact sl_
    ·rw[hset]
     by_cases e:j=i
     ·subst e;rw[if_pos rfl,hb];exact rr
     ·rw[if_neg e];exact hrel.out j hj
    ·rw[hset,if_neg (by omega)];exact hold.out j (by omega) hj2
    ·rw[hset,hsucc]
     by_cases e:j=i
     ·subst e
      rw[if_pos rfl,hb,Nat.add_mul]
      exact InRow.new hput hycl sr
     ·rw[if_neg e]
      exact((hnew.out j (by omega)).put (Nat.le_refl _) hput).mono (by omega) (by rw[putAt_len hput];omega)
   ·have hii:i=L.length:=by omega
    subst hii
    refine go ?_
    refine rt ?_
    refine⟨?_,e2⟩
    rcases oy with ⟨e4,e5⟩|⟨g,cells,D,d1,d2,d3,d4,d5,d6,d7,d8⟩
    ·subst e5
     have:L=[]:=List.eq_nil_of_length_eq_zero ly.symm
     subst this
     exact .inl ⟨e4,rfl⟩
    ·refine .inr ⟨g,cells,fun k=>k=q,by omega,d2,by rw[←ly];exact d3,d4,by rw[←ly];exact d5,by omega,fun k hk=>by subst hk;omega,fun j a ha hx hk hn=> ?_⟩
     have hj:=(List.getElem?_eq_some_iff.1 ha).1
     have hR:=(d8 j _ (List.getElem?_eq_getElem (show j<ys.length by omega))).self
     have hR2:=hrel.out j hj
     have hN:=hnew.out j hj
     rw[getD_of (List.getElem?_eq_getElem (show j<ys.length by omega)),getD_of ha]at hR2 hN
     obtain⟨r1,r2,r3,r4⟩:=hR2
     refine⟨_,by rw[hR.1,r1,r2,r3,r4],hN.sl (hk q _ rfl gq) (by omega),?_⟩
     have:=(rx.out j hj).2.2
     rwa [getD_of ha]at this
end Go.Proofs.Ytmilpkdhbdgjfaa
