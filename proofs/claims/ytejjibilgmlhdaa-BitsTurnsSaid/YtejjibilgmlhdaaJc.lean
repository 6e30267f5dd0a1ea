/- What functions of the program come to in the abstract machine, and plain laws about it; no statement of the seat is proved in this text. -/
import Derived.Test.YtejjibilgmlhdaaJb
import Derived.Test.YtejjibilgmlhdaaJa
import Derived.Test.YtejjibilgmlhdaaAmD
import Derived.Test.YtejjibilgmlhdaaAmU
namespace Go.Proofs.Ytejjibilgmlhdaa
open Go.Am
set_option linter.unusedVariables false
set_option linter.unusedSimpArgs false
theorem yO (f:Nat→Nat→Nat):∀ A B:List LWd,(zR f A B).length≤A.length+B.length
 |[],[]=>by rw[zR];exact Nat.le_refl _
 |x::a,[]=>by
  have:=yO f a []
  rw[zR];unfold putW;split<;>simp only[List.length_cons,List.length_nil]at * <;>omega
 |[],y::b=>by
  have:=yO f [] b
  rw[zR];unfold putW;split<;>simp only[List.length_cons,List.length_nil]at * <;>omega
 |x::a,y::b=>by
  rw[zR]
  have h1:=yO f a (y::b)
  have h2:=yO f (x::a) b
  have h3:=yO f a b
  unfold putW
  split
  ·split<;>simp only[List.length_cons]at * <;>omega
  ·split
   ·split<;>simp only[List.length_cons]at * <;>omega
   ·split<;>simp only[List.length_cons]at * <;>omega
 termination_by A B=>A.length+B.length
abbrev orL (A B:List LWd):=zR (fun a b=>a|||b) A B
abbrev andL (A B:List LWd):=zR (fun a b=>a&&& b) A B
abbrev minL (A B:List LWd):=zR notN A B
theorem or_is {A B:List LWd} (ha:OkW A) (hb:OkW B):OkW (orL A B)∧∀ n,inB (orL A B) n=(inB A n||inB B n):=let ⟨a,b,_⟩:=mergeL_is bit_or ha hb;⟨a,b⟩
theorem and_is {A B:List LWd} (ha:OkW A) (hb:OkW B):OkW (andL A B)∧∀ n,inB (andL A B) n=(inB A n&&inB B n):=let ⟨a,b,_⟩:=mergeL_is bit_and ha hb;⟨a,b⟩
theorem min_is {A B:List LWd} (ha:OkW A) (hb:OkW B):OkW (minL A B)∧∀ n,inB (minL A B) n=(inB A n&& !inB B n):=let ⟨a,b,_⟩:=mergeL_is bit_not ha hb;⟨a,b⟩
section
variable {P:Program} {tab:Tab} {t:Trie Value} {h:AHeap} {ds:List Deferred} {rd:Option Nat} {l:List AOper} {Q:AFr→AHeap→Prop}
end
theorem okk {h v s} (k:SlW h v s) (hc:zM (-1) s=true):OkW s:=(okW_iff k.bd).1 hc
end Go.Proofs.Ytejjibilgmlhdaa
namespace Go.Proofs.Ytejjibilgmlhdaa
open Go.Am
set_option linter.unusedVariables false
set_option linter.unusedSimpArgs false
set_option maxHeartbeats 2000000
theorem RW.ind {h:AHeap} (cs:List Value) (a:LWd) (r:RW h cs a):Dep RW h cs a (fun _=>False):=fun _ _ _=>r
theorem RW.one {h:AHeap} (cs:List Value) (a:LWd) (r:RW h cs a):zI cs=true:=by
 obtain⟨rfl,_⟩:=r;rfl
def withR (s:List LWd) (n:Int):List LWd:=if inB s n then s else withL (n / 64) (2 ^ (n % 64).toNat) s
theorem withR_is {s:List LWd} {n:Int} (ok:OkW s) (hn:0≤n∧n<1048576):OkW (withR s n)∧∀ m,InW (withR s n) m↔InW s m∨m=n:=by
 unfold withR
 by_cases h:inB s n=true
 ·rw[if_pos h]
  exact⟨ok,fun m=>⟨.inl,fun h2=>h2.elim id fun e=>by subst e;exact inB_iff.1 h⟩⟩
 ·rw[if_neg h]
  have e:64 * (n / 64)+((n % 64).toNat:Int)=n:=by omega
  obtain⟨a,b,_⟩:=withL_is (q:=n / 64) (k:=(n % 64).toNat) (by omega) (by omega) ok (by rw[e];exact fun hh=>h (inB_iff.2 hh))
  exact⟨a,fun m=>by rw[b,e]⟩
theorem withL_len (q:Int) (m:Nat):∀ s:List LWd,(withL q m s).length≤s.length+1
 |[]=>by unfold withL;exact Nat.le_refl _
 |w::s=>by
  have:=withL_len q m s
  unfold withL
  split
  ·simp only[List.length_cons];omega
  ·split
   ·simp only[List.length_cons];omega
   ·simp only[List.length_cons];omega
theorem withR_len (s:List LWd) (n:Int):(withR s n).length≤s.length+1:=by
 unfold withR;split
 ·omega
 ·exact withL_len _ _ _
theorem ownC_keepF {hA h h':AHeap} {p:Value} {cells:List Value} {vn vk b:Nat} {va:Option Addr} (o:OwnC hA h p cells) (hv:∀ g,va=some ⟨g,0,none⟩→g<b) (hb:b≤hA.n)
  (keep:∀ k,k<h.n→(∀ n k',Value.slice va vn vk≠ .slice (some ⟨k,0,none⟩) n k')→h'.get k=h.get k) (hn:h.n≤h'.n):OwnC hA h' p cells:=by
 obtain⟨g,g1,g2,rfl,g4⟩:=o
 refine⟨g,g1,Nat.lt_of_lt_of_le g2 hn,rfl,(keep g g2 fun n k' e=> ?_).trans g4⟩
 cases e
 have h2:=hv g rfl
 omega
noncomputable def body18_0:ACode:=(.seq (.seq (.region [⟨some 15,none,(.mov (.tmp 7))⟩,⟨some 16,none,(.mov (.tmp 0))⟩,⟨some 17,none,(.len (.tmp 16))⟩,⟨some 18,none,(.bin .lss (.tmp 15) (.tmp 17))⟩]) (.cond (.tmp 18) .skip (.exit 0))) (.seq (.block 1 (.seq (.region [⟨some 21,none,(.mov (.tmp 0))⟩,⟨some 22,none,(.mov (.tmp 7))⟩,⟨some 23,none,(.idx 2 (.tmp 21) (.tmp 22))⟩,⟨some 24,none,(.load true 2 (.tmp 23))⟩,⟨some 8,none,(.alloc [(.int .i64 0),(.int .u64 0)])⟩,⟨none,none,(.store 2 (.tmp 8) (.tmp 24))⟩]) (.seq (.seq (.region [⟨some 25,none,(.fld 0 (.tmp 8))⟩,⟨some 26,none,(.load false 1 (.tmp 25))⟩,⟨some 27,none,(.mov (.tmp 1))⟩,⟨some 28,none,(.bin .quo (.tmp 27) (.const (.int .i64 64)))⟩,⟨some 29,none,(.bin .eql (.tmp 26) (.tmp 28))⟩]) (.cond (.tmp 29) (.seq (.regionC [(⟨some 30,none,(.fld 1 (.tmp 8))⟩,[]),(⟨some 31,none,(.load false 1 (.tmp 30))⟩,[]),(⟨some 32,none,(.mov (.tmp 1))⟩,[]),(⟨some 33,none,(.call (.func 30) [(.tmp 32)])⟩,[1]),(⟨some 34,none,(.bin .add (.tmp 31) (.tmp 33))⟩,[]),(⟨some 35,none,(.fld 1 (.tmp 8))⟩,[]),(⟨none,none,(.store 1 (.tmp 35) (.tmp 34))⟩,[])]) (.region [⟨some 6,none,(.mov (.const (.bool true)))⟩])) .skip)) (.seq (.seq (.region [⟨some 36,none,(.fld 0 (.tmp 8))⟩,⟨some 37,none,(.load false 1 (.tmp 36))⟩,⟨some 38,none,(.mov (.tmp 1))⟩,⟨some 39,none,(.bin .quo (.tmp 38) (.const (.int .i64 64)))⟩,⟨some 40,none,(.bin .gtr (.tmp 37) (.tmp 39))⟩,⟨some 41,none,(.mov (.tmp 40))⟩,⟨some 42,some (41,true),(.mov (.tmp 6))⟩,⟨some 43,some (41,true),(.un .not (.tmp 42))⟩,⟨some 44,none,(.pick (.tmp 41) (.tmp 43) (.const (.bool false)))⟩]) (.cond (.tmp 44) (.seq (.region [⟨some 45,none,(.mov (.tmp 5))⟩,⟨some 46,none,(.mov (.tmp 1))⟩,⟨some 47,none,(.bin .quo (.tmp 46) (.const (.int .i64 64)))⟩,⟨some 48,none,(.mov (.tmp 1))⟩,⟨some 49,none,(.call (.func 30) [(.tmp 48)])⟩,⟨some 50,none,(.build [(.int .i64 0),(.int .u64 0)] [(0,1,(.tmp 47)),(1,1,(.tmp 49))])⟩,⟨some 51,none,(.buildSlice 1 2 [(.int .i64 0),(.int .u64 0)] [(0,2,(.tmp 50))])⟩,⟨some 52,none,(.append 2 (.tmp 45) (.tmp 51))⟩,⟨some 5,none,(.mov (.tmp 52))⟩]) (.region [⟨some 6,none,(.mov (.const (.bool true)))⟩])) .skip)) (.region [⟨some 53,none,(.mov (.tmp 5))⟩,⟨some 54,none,(.load true 2 (.tmp 8))⟩,⟨some 55,none,(.buildSlice 1 2 [(.int .i64 0),(.int .u64 0)] [(0,2,(.tmp 54))])⟩,⟨some 56,none,(.append 2 (.tmp 53) (.tmp 55))⟩,⟨some 5,none,(.mov (.tmp 56))⟩]))))) (.region [⟨some 19,none,(.mov (.tmp 7))⟩,⟨some 20,none,(.bin .add (.tmp 19) (.const (.int .i64 1)))⟩,⟨some 7,none,(.mov (.tmp 20))⟩])))
noncomputable def body18:ACode:=(.seq (.region [⟨some 4,none,(.mov (.const (.slice none 0 0)))⟩]) (.seq (.seq (.region [⟨some 9,none,(.mov (.tmp 0))⟩,⟨some 10,none,(.mov (.tmp 1))⟩,⟨some 11,none,(.call (.func 29) [(.tmp 9),(.tmp 10)])⟩]) (.cond (.tmp 11) (.seq (.region [⟨some 12,none,(.buildSlice 0 2 [(.int .i64 0),(.int .u64 0)] [])⟩,⟨some 13,none,(.mov (.tmp 0))⟩,⟨some 14,none,(.append 2 (.tmp 12) (.tmp 13))⟩,⟨some 4,none,(.mov (.tmp 14))⟩]) .ret) .skip)) (.seq (.region [⟨some 5,none,(.mov (.const (.slice none 0 0)))⟩]) (.seq (.region [⟨some 6,none,(.mov (.const (.bool false)))⟩]) (.seq (.seq (.region [⟨some 7,none,(.mov (.const (.int .i64 0)))⟩]) (.block 0 (.loop body18_0))) (.seq (.seq (.region [⟨some 57,none,(.mov (.tmp 6))⟩,⟨some 58,none,(.un .not (.tmp 57))⟩]) (.cond (.tmp 58) (.region [⟨some 59,none,(.mov (.tmp 5))⟩,⟨some 60,none,(.mov (.tmp 1))⟩,⟨some 61,none,(.bin .quo (.tmp 60) (.const (.int .i64 64)))⟩,⟨some 62,none,(.mov (.tmp 1))⟩,⟨some 63,none,(.call (.func 30) [(.tmp 62)])⟩,⟨some 64,none,(.build [(.int .i64 0),(.int .u64 0)] [(0,1,(.tmp 61)),(1,1,(.tmp 63))])⟩,⟨some 65,none,(.buildSlice 1 2 [(.int .i64 0),(.int .u64 0)] [(0,2,(.tmp 64))])⟩,⟨some 66,none,(.append 2 (.tmp 59) (.tmp 65))⟩,⟨some 5,none,(.mov (.tmp 66))⟩]) .skip)) (.seq (.region [⟨some 67,none,(.mov (.tmp 5))⟩,⟨some 4,none,(.mov (.tmp 67))⟩]) .ret)))))))
set_option maxRecDepth 100000 in
theorem tab18:tb.code 18=some ⟨68,[(4,none)],body18⟩:=by kernel_rfl
theorem rWith_ok (h:AHeap) (v:Value) (s:List LWd) (n:Int) (k:SlW h v s) (ok:OkW s) (hl:s.length≤20000) (hn:0≤n∧n<1048576) (hm:h.mark≤h.n):WC Try.prog tb 18 [v,I n] h fun r h'=>MineW h h' r (withR s n)∧Ext h h':=by
 refine WC.of (zH 18) tab18 ?_;simp only[zn,Nat.zero_add,Nat.reduceAdd]
 refine go ?_
 refine WO.con (rIn_ok h v s n k ok (by omega) hn) ?_
 rintro _ _ ⟨rfl,rfl⟩
 unfold withR
 cases hin:inB s n with
 |true=>
  refine go ?_
  refine WO.bl0 (c:=2) RW ?_
  intro v1 h1 e1 o1
  have k1:=SlW.ext k e1
  refine go ?_
  refine WO.apAll o1 k1 (by decide) RW.ind RW.one e1 (Nat.le_refl _) e1.n (by omega) ?_
  intro vo h2 e2 oo
  refine go ?_
  refine rt ?_
  exact⟨⟨h.n,Nat.le_refl _,oo⟩,e2⟩
 |false=>
  rw[if_neg (by simp)]
  have hno:∀ i,i<s.length→(s.getD i default).pos=n / 64→(s.getD i default).bits.testBit (n % 64).toNat=false:=fun i hi hp=>by rw[←has_word (n:=n) ok hi hp];exact hin
  have hpw:2 ^ (n % 64).toNat<18446744073709551616:=(u_shl1 (k:=(n % 64).toNat) (by omega)).2
  have hadd:∀ i,i<s.length→(s.getD i default).pos=n / 64→(s.getD i default).bits<18446744073709551616→(s.getD i default).bits+2 ^ (n % 64).toNat<18446744073709551616:=fun i hi hp hb=>by
   rw[add_bit (hno i hi hp)];exact(set_bit (by omega) hb).1
  have hrb:=fun h0=>rbit_ok h0 n hn.1 (by omega)
  have hq0:=b_quo hn.1 (show n<9223372036854775808 by omega)
  clear hno
  have hfar:∀ i j,i<j→j<s.length→(s.getD i default).pos<(s.getD j default).pos:=fun i j hij hj=>by
   rw[List.getD_eq_getElem?_getD,List.getD_eq_getElem?_getD,List.getElem?_eq_getElem hj,List.getElem?_eq_getElem (Nat.lt_trans hij hj)]
   exact List.pairwise_iff_getElem.1 ok.rise _ _ _ _ hij
  have hwp:∀ i,i<s.length→0≤(s.getD i default).pos∧(s.getD i default).pos<16384:=fun i hi=>by
   have:=ok.each (s.getD i default) (by rw[List.getD_eq_getElem?_getD,List.getElem?_eq_getElem hi];exact List.getElem_mem hi)
   exact⟨this.1,this.2.1⟩
  generalize hm2:2 ^ (n % 64).toNat=m at *
  generalize hR:withL (n / 64) m s=RS
  have hR:=Hid.mk hR
  have hadd:=Hid.mk hadd
  have hfar:=Hid.mk hfar
  have hwp:=Hid.mk hwp
  have hrb:=Hid.mk hrb
  clear ok hm2
  refine go ?_
  refine WX.loopA [15,16,17,18,21,22,23,24,8,25,26,27,28,29,30,31,32,33,34,35,6,36,37,38,39,40,41,42,43,44,45,46,47,48,49,50,51,52,5,6,53,54,55,56,5,19,20,7] (by kernel_rfl) (fun i=>s.length - i) (fun i t h1=>∃ w out b,zB t 7=I i∧i≤s.length∧Ext h h1∧zB t 5=w∧OwnW h.n h1 w out∧zB t 6= .bool b∧out.length≤i+1∧(b=true→Hid (out++s.drop i=RS∧∀ j,i≤j→j<s.length→n / 64<(s.getD j default).pos))∧(b=false→Hid (RS=out++withL (n / 64) m (s.drop i)∧out.length≤i))) 0 ?_ ?_
  ·exact⟨_,[],false,sl_,Nat.zero_le _,Ext.refl _,sl_,OwnR.nil,sl_,Nat.zero_le _,(fun h=>by cases h),fun _=>⟨hR.out.symm,Nat.le_refl _⟩⟩
  rintro i t h1 hsame ⟨w,out,b,s7,hi,e1,s5,ow,s6,hol,hT,hF⟩
  have k1:=SlW.ext k e1
  refine go ?_
  refine WX.br (fun hb=> ?_) (fun hb=> ?_)<;>simp only[DB]at hb
  ·have hi':i<s.length:=by omega
   obtain⟨cs,⟨rfl,w1,w2,w3⟩,pc,hs⟩:=wd_at k1 hi'
   have hadd1:=hadd.out i hi'
   have hdrop:=Hid.mk (drop_cons hi')
   have hpos:=hwp.out i hi'
   have hnext:=Hid.mk (fun j=>hfar.out i j)
   have hbig:b=true→n / 64<(s.getD i default).pos:=fun hb=>(hT hb).out.2 i (Nat.le_refl _) hi'
   generalize hx:s.getD i default=x at *
   obtain⟨va,vn,vk,rfl,hvn⟩:=zV ow
   refine go ?_
   refine WO.al ?_
   intro p8 h2 e2 o8
   refine go ?_
   refine WO.stC0 (cs:=[I x.pos,W x.bits]) o8 e2 ?_
   intro h3 e3 o83 u3
   have ow3:=OwnR.ext ow e3
   have e13:=e1.trans e3
   refine go ?_
   refine WO.bin zP rfl hq0 ?_
   by_cases c1:x.pos=n / 64
   ·have hbF:b=false:=by
     cases b with
     |false=>rfl
     |true=>have:=hbig rfl;omega
    subst hbF
    obtain⟨hF,hoi⟩:=(hF rfl).out
    rw[hdrop.out,withL,if_pos c1]at hF
    have hadd1:=hadd1 c1 w1
    refine go ?_
    refine WX.regionU2 0 rfl rfl ?_
    have o8X:OwnC h1 (inC (zC 0 h3)) p8 [I x.pos,W x.bits]:=o83
    refine goU ?_
    refine WO.con (hrb.out (inC (zC 0 h3))) ?_
    rintro _ _ ⟨rfl,rfl⟩
    refine WO.nil ?_
    refine uK2_e (Ext.refl _) yC ?_
    refine goU ?_
    refine WO.bin zP zP (u_add hadd1) ?_
    refine WO.nil ?_
    refine zy ?_
    have o8Y:OwnC h1 (inC (inC (zC 0 h3))) p8 [I x.pos,W x.bits]:=o83
    refine goU ?_
    refine WU2.stC (hB:=h1) (hS:=h3) (X:=inC (zC 0 h3)) (j:=1) (cs:=[W (x.bits+m)]) o83 e3 (by rw[e3.mark,e1.mark];have:=e1.n;omega) rfl ?_ (by simp)
    intro h4 e4 o84 u4
    have o84:OwnC h1 h4 p8 [I x.pos,W (x.bits+m)]:=o84
    have e14:=e1.trans e4
    have ow4:=OwnR.ext ow e4
    refine go ?_
    refine WO.bin zP rfl hq0 ?_
    refine go ?_
    refine WO.apRw (b:=h.n) (R:=RW) (hB:=h) ⟨x.pos,x.bits+m⟩ (fun _=>False) ow4 e14 (Nat.le_refl _) e14.n (by decide) (by omega) (RW.dep hadd1 (by simp only;omega) (by simp only;omega) _) (fun k hk=>hk.elim) (fun _ _ _ _ h=>h) ?_
    intro w5 h5 lit e5 ow5 n5 keep5 wr5
    obtain⟨va5,vn5,vk5,rfl,_⟩:=zV ow5
    refine go ?_
    refine zA (i+1) (by omega) ⟨_,_,true,sln,by omega,e5,sl_,ow5,sl_,by simp only[List.length_append,List.length_singleton];omega,fun _=>⟨?_,fun j h1 h2=> ?_⟩,fun h=>by cases h⟩
    ·rw[hF,c1];simp
    ·have:=hnext.out j (by omega) h2;omega
   ·by_cases c2:n / 64<x.pos
    ·cases b with
     |false=>
      obtain⟨hF,hoi⟩:=(hF rfl).out
      rw[hdrop.out,withL,if_neg c1,if_pos c2]at hF
      refine go ?_
      refine WO.bin zP rfl hq0 ?_
      refine go ?_
      refine WO.bin zP rfl hq0 ?_
      refine go ?_
      refine WO.con (hrb.out h3) ?_
      rintro _ _ ⟨rfl,rfl⟩
      refine go ?_
      refine WO.apRw (b:=h.n) (R:=RW) (hB:=h) ⟨n / 64,m⟩ (fun _=>False) ow3 e13 (Nat.le_refl _) e13.n (by decide) (by omega) (RW.dep hpw (by simp only;omega) (by simp only;omega) _) (fun k hk=>hk.elim) (fun _ _ _ _ h=>h) ?_
      intro w4 h4 lit e4 ow4 n4 keep4 wr4
      obtain⟨va4,vn4,vk4,rfl,_⟩:=zV ow4
      have o84:OwnC h1 h4 p8 [I x.pos,W x.bits]:=ownC_keepF o83 (fun g e=>(hvn g e).2) (Nat.le_refl _) keep4 n4
      refine go ?_
      refine WO.apRw (b:=h.n) (R:=RW) (hB:=h) x (fun _=>False) ow4 e4 (Nat.le_refl _) e4.n (by decide) (by simp only[List.length_append,List.length_singleton];omega) (RW.dep w1 w2 w3 _) (fun k hk=>hk.elim) (fun _ _ _ _ h=>h) ?_
      intro w5 h5 lit e5 ow5 n5 keep5 wr5
      obtain⟨va5,vn5,vk5,rfl,_⟩:=zV ow5
      refine go ?_
      refine zA (i+1) (by omega) ⟨_,_,true,sln,by omega,e5,sl_,ow5,sl_,by simp only[List.length_append,List.length_singleton];omega,fun _=>⟨?_,fun j h1 h2=> ?_⟩,fun h=>by cases h⟩
      ·rw[hF];simp
      ·have:=hnext.out j (by omega) h2;omega
     |true=>
      have hT:=(hT rfl).out
      refine go ?_
      refine WO.bin zP rfl hq0 ?_
      refine go ?_
      refine WO.apRw (b:=h.n) (R:=RW) (hB:=h) x (fun _=>False) ow3 e13 (Nat.le_refl _) e13.n (by decide) (by omega) (RW.dep w1 w2 w3 _) (fun k hk=>hk.elim) (fun _ _ _ _ h=>h) ?_
      intro w5 h5 lit e5 ow5 n5 keep5 wr5
      obtain⟨va5,vn5,vk5,rfl,_⟩:=zV ow5
      refine go ?_
      refine zA (i+1) (by omega) ⟨_,_,true,sln,by omega,e5,sl_,ow5,sl_,by simp only[List.length_append,List.length_singleton];omega,fun _=>⟨?_,fun j h1 h2=>hT.2 j (by omega) h2⟩,fun h=>by cases h⟩
      rw[←hT.1,hdrop.out];simp
    ·have hbF:b=false:=by
      cases b with
      |false=>rfl
      |true=>have:=hbig rfl;omega
     subst hbF
     obtain⟨hF,hoi⟩:=(hF rfl).out
     rw[hdrop.out,withL,if_neg c1,if_neg c2]at hF
     refine go ?_
     refine WO.bin zP rfl hq0 ?_
     refine go ?_
     refine WO.apRw (b:=h.n) (R:=RW) (hB:=h) x (fun _=>False) ow3 e13 (Nat.le_refl _) e13.n (by decide) (by omega) (RW.dep w1 w2 w3 _) (fun k hk=>hk.elim) (fun _ _ _ _ h=>h) ?_
     intro w5 h5 lit e5 ow5 n5 keep5 wr5
     obtain⟨va5,vn5,vk5,rfl,_⟩:=zV ow5
     refine go ?_
     refine zA (i+1) (by omega) ⟨_,_,false,sln,by omega,e5,sl_,ow5,sl_,by simp only[List.length_append,List.length_singleton];omega,(fun h=>by cases h),fun _=>⟨?_,by simp only[List.length_append,List.length_singleton];omega⟩⟩
     rw[hF];simp
  ·have hil:i=s.length:=by omega
   subst hil
   rw[List.drop_length]at hT hF
   obtain⟨va,vn,vk,rfl,hvn⟩:=zV ow
   cases b with
   |true=>
    have hT:=(hT rfl).out.1
    rw[List.append_nil]at hT
    refine go ?_
    refine rt ?_
    rw[←hT]
    exact⟨⟨h.n,Nat.le_refl _,ow⟩,e1⟩
   |false=>
    obtain⟨hF,hoi⟩:=(hF rfl).out
    refine go ?_
    refine WO.bin zP rfl hq0 ?_
    refine go ?_
    refine WO.con (hrb.out h1) ?_
    rintro _ _ ⟨rfl,rfl⟩
    refine go ?_
    refine WO.apRw (b:=h.n) (R:=RW) (hB:=h) ⟨n / 64,m⟩ (fun _=>False) ow e1 (Nat.le_refl _) e1.n (by decide) (by omega) (RW.dep hpw (by simp only;omega) (by simp only;omega) _) (fun k hk=>hk.elim) (fun _ _ _ _ h=>h) ?_
    intro w4 h4 lit e4 ow4 n4 keep4 wr4
    obtain⟨va4,vn4,vk4,rfl,_⟩:=zV ow4
    refine go ?_
    refine rt ?_
    rw[hF,show withL (n / 64) m []=[⟨n / 64,m⟩] from rfl]
    exact⟨⟨h.n,Nat.le_refl _,ow4⟩,e4⟩
theorem take_succ (l:List Int) {i:Nat} (h:i<l.length):l.take (i+1)=l.take i++[l.getD i 0]:=by
 rw[List.take_add_one];simp[List.getD,List.getElem?_eq_getElem h]
theorem getD_memI {l:List Int} {i:Nat} (h:i<l.length):l.getD i 0∈l:=by
 rw[List.getD_eq_getElem?_getD,List.getElem?_eq_getElem h];exact List.getElem_mem h
theorem Upto.withR {s:List LWd} {xs:List Int} {n:Int} (u:Upto s xs) (hn:0≤n∧n<1048576):Upto (withR s n) (xs++[n]):=by
 obtain⟨a,b⟩:=withR_is u.ok hn
 exact⟨a,fun m=>by rw[b,u.mem,List.mem_append,List.mem_singleton]⟩
noncomputable def body5_0:ACode:=(.seq (.seq (.region [⟨some 7,none,(.mov (.tmp 5))⟩,⟨some 8,none,(.mov (.tmp 0))⟩,⟨some 9,none,(.len (.tmp 8))⟩,⟨some 10,none,(.bin .lss (.tmp 7) (.tmp 9))⟩]) (.cond (.tmp 10) .skip (.exit 0))) (.seq (.block 1 (.seq (.region [⟨some 13,none,(.mov (.tmp 0))⟩,⟨some 14,none,(.mov (.tmp 5))⟩,⟨some 15,none,(.idx 1 (.tmp 13) (.tmp 14))⟩,⟨some 16,none,(.load false 1 (.tmp 15))⟩,⟨some 17,none,(.bin .lss (.tmp 16) (.const (.int .i64 0)))⟩,⟨some 18,none,(.mov (.tmp 17))⟩,⟨some 19,some (18,false),(.mov (.tmp 0))⟩,⟨some 20,some (18,false),(.mov (.tmp 5))⟩,⟨some 21,some (18,false),(.idx 1 (.tmp 19) (.tmp 20))⟩,⟨some 22,some (18,false),(.load false 1 (.tmp 21))⟩,⟨some 23,some (18,false),(.bin .geq (.tmp 22) (.const (.int .i64 1048576)))⟩,⟨some 24,none,(.pick (.tmp 18) (.const (.bool true)) (.tmp 23))⟩]) (.cond (.tmp 24) (.seq (.region [⟨some 2,none,(.mov (.const (.slice none 0 0)))⟩,⟨some 3,none,(.mov (.const (.int .i64 2)))⟩]) .ret) .skip))) (.region [⟨some 11,none,(.mov (.tmp 5))⟩,⟨some 12,none,(.bin .add (.tmp 11) (.const (.int .i64 1)))⟩,⟨some 5,none,(.mov (.tmp 12))⟩])))
noncomputable def body5_1:ACode:=(.seq (.seq (.region [⟨some 25,none,(.mov (.tmp 6))⟩,⟨some 26,none,(.mov (.tmp 0))⟩,⟨some 27,none,(.len (.tmp 26))⟩,⟨some 28,none,(.bin .lss (.tmp 25) (.tmp 27))⟩]) (.cond (.tmp 28) .skip (.exit 2))) (.seq (.block 3 (.region [⟨some 31,none,(.mov (.tmp 4))⟩,⟨some 32,none,(.mov (.tmp 0))⟩,⟨some 33,none,(.mov (.tmp 6))⟩,⟨some 34,none,(.idx 1 (.tmp 32) (.tmp 33))⟩,⟨some 35,none,(.load false 1 (.tmp 34))⟩,⟨some 36,none,(.call (.func 18) [(.tmp 31),(.tmp 35)])⟩,⟨some 4,none,(.mov (.tmp 36))⟩])) (.region [⟨some 29,none,(.mov (.tmp 6))⟩,⟨some 30,none,(.bin .add (.tmp 29) (.const (.int .i64 1)))⟩,⟨some 6,none,(.mov (.tmp 30))⟩])))
noncomputable def body5:ACode:=(.seq (.region [⟨some 2,none,(.mov (.const (.slice none 0 0)))⟩,⟨some 3,none,(.mov (.const (.int .i64 0)))⟩]) (.seq (.region [⟨some 4,none,(.mov (.const (.slice none 0 0)))⟩]) (.seq (.seq (.region [⟨some 5,none,(.mov (.const (.int .i64 0)))⟩]) (.block 0 (.loop body5_0))) (.seq (.seq (.region [⟨some 6,none,(.mov (.const (.int .i64 0)))⟩]) (.block 2 (.loop body5_1))) (.seq (.region [⟨some 37,none,(.mov (.tmp 4))⟩,⟨some 2,none,(.mov (.tmp 37))⟩,⟨some 3,none,(.mov (.const (.int .i64 0)))⟩]) .ret)))))
set_option maxRecDepth 100000 in
theorem tab5:tb.code 5=some ⟨38,[(2,none),(3,none)],body5⟩:=by kernel_rfl
theorem rOf_ok (h:AHeap) (v:Value) (l:List Int) (s:SlI h v l) (hl:l.length≤10000) (hm:h.mark≤h.n):
  WC Try.prog tb 5 [v] h fun r h'=>(∃ w t,r= .tuple #[w,I (ofE l)]∧SlW h' w t∧(ofE l=0→Upto t l)∧(ofE l≠0→t=[]))∧Ext h h':=by
 refine WC.of (zH 5) tab5 ?_;simp only[zn,Nat.zero_add,Nat.reduceAdd]
 refine go ?_
 refine WX.loopA [7,8,9,10,13,14,15,16,17,18,19,20,21,22,23,24,2,3,11,12,5] (by kernel_rfl) (fun i=>l.length - i) (fun i t h1=>h=h1∧zB t 5=I i∧i≤l.length∧Hid (∀ j,j<i→0≤l.getD j 0∧l.getD j 0<1048576)) 0 ?_ ?_
 ·exact⟨rfl,sl_,Nat.zero_le _,⟨fun j hj=>absurd hj (Nat.not_lt_zero _)⟩⟩
 rintro i t _ hsame ⟨rfl,s5,hi,hI⟩
 refine go ?_
 refine WX.br (fun hb=> ?_) (fun hb=> ?_)<;>simp only[DB]at hb
 ·have hi':i<l.length:=by omega
  have hmem:=getD_memI hi'
  by_cases c1:l.getD i 0<0
  ·refine go ?_
   refine rt ?_
   rw[ofE_bad hmem (by rw[decide_eq_false (show ¬0≤l.getD i 0 by omega)];rfl)]
   exact⟨⟨_,[],rfl,SlR.nil,(fun h=>by cases h),fun _=>rfl⟩,Ext.refl _⟩
  by_cases c2:1048576≤l.getD i 0
  ·refine go ?_
   refine rt ?_
   rw[ofE_bad hmem (by rw[decide_eq_false (show ¬l.getD i 0<1048576 by omega),Bool.and_false])]
   exact⟨⟨_,[],rfl,SlR.nil,(fun h=>by cases h),fun _=>rfl⟩,Ext.refl _⟩
  refine go ?_
  refine zA (i+1) (by omega) ⟨rfl,sln,by omega,⟨fun j hj=> ?_⟩⟩
  by_cases e:j=i
  ·subst e;omega
  ·exact hI.out j (by omega)
 ·have hr:∀ n∈l,0≤n∧n<1048576:=fun n hn=>by
   obtain⟨j,hj,e⟩:=List.getElem_of_mem hn
   have:=hI.out j (by omega)
   rwa [List.getD_eq_getElem?_getD,List.getElem?_eq_getElem hj,Option.getD_some,e]at this
  rw[ofE_good hr]
  have hr:=Hid.mk hr
  refine go ?_
  refine WX.loopA [25,26,27,28,31,32,33,34,35,36,4,29,30,6] (by kernel_rfl) (fun i=>l.length - i) (fun i t h1=>∃ w out,Ext h h1∧zB t 6=I i∧i≤l.length∧zB t 4=w∧SlW h1 w out∧Hid (Upto out (l.take i))∧out.length≤i) 0 ?_ ?_
  ·exact⟨_,[],Ext.refl _,sl_,Nat.zero_le _,sl_,SlR.nil,⟨upto_nil⟩,Nat.le_refl _⟩
  rintro i t2 h1 hsame2 ⟨w,out,e1,s6,hi2,s4,kw,hU,hol⟩
  have sl1:=SlI.ext s e1
  refine go ?_
  refine WX.br (fun hb2=> ?_) (fun hb2=> ?_)<;>simp only[DB]at hb2
  ·have hi':i<l.length:=by omega
   have hn:=hr.out _ (getD_memI hi')
   have hlen:=withR_len out (l.getD i 0)
   have hu:=Hid.mk (hU.out.withR hn)
   have htk:=Hid.mk (take_succ l hi')
   refine go ?_
   refine WO.con (rWith_ok h1 w out (l.getD i 0) kw hU.out.ok (by omega) hn (by have:=e1.mark;have:=e1.n;omega)) ?_
   rintro w2 h2 ⟨m2,e2⟩
   have mw:=m2.sl
   refine go ?_
   refine zA (i+1) (by omega) ⟨_,_,e1.trans e2,sln,by omega,sl_,mw,⟨?_⟩,by omega⟩
   rw[htk.out];exact hu.out
  ·refine go ?_
   refine rt ?_
   rw[show i=l.length by omega,List.take_length]at hU
   subst s4
   exact⟨⟨_,out,rfl,kw,fun _=>hU.out,fun h=>absurd rfl h⟩,e1⟩
noncomputable def body22_0:ACode:=(.seq (.seq (.region [⟨some 9,none,(.mov (.tmp 6))⟩,⟨some 10,none,(.mov (.tmp 5))⟩,⟨some 11,none,(.len (.tmp 10))⟩,⟨some 12,none,(.bin .lss (.tmp 9) (.tmp 11))⟩]) (.cond (.tmp 12) .skip (.exit 0))) (.seq (.block 1 (.region [⟨some 15,none,(.mov (.tmp 0))⟩,⟨some 16,none,(.mov (.tmp 5))⟩,⟨some 17,none,(.mov (.tmp 6))⟩,⟨some 18,none,(.idx 1 (.tmp 16) (.tmp 17))⟩,⟨some 19,none,(.load false 1 (.tmp 18))⟩,⟨some 20,none,(.call (.func 18) [(.tmp 15),(.tmp 19)])⟩,⟨some 0,none,(.mov (.tmp 20))⟩])) (.region [⟨some 13,none,(.mov (.tmp 6))⟩,⟨some 14,none,(.bin .add (.tmp 13) (.const (.int .i64 1)))⟩,⟨some 6,none,(.mov (.tmp 14))⟩])))
noncomputable def body22:ACode:=(.seq (.region [⟨some 4,none,(.mov (.const (.slice none 0 0)))⟩]) (.seq (.region [⟨some 7,none,(.mov (.tmp 1))⟩,⟨some 8,none,(.call (.func 35) [(.tmp 7)])⟩,⟨some 5,none,(.mov (.tmp 8))⟩]) (.seq (.seq (.region [⟨some 6,none,(.mov (.const (.int .i64 0)))⟩]) (.block 0 (.loop body22_0))) (.seq (.region [⟨some 21,none,(.buildSlice 0 2 [(.int .i64 0),(.int .u64 0)] [])⟩,⟨some 22,none,(.mov (.tmp 0))⟩,⟨some 23,none,(.append 2 (.tmp 21) (.tmp 22))⟩,⟨some 4,none,(.mov (.tmp 23))⟩]) .ret))))
set_option maxRecDepth 100000 in
theorem tab22:tb.code 22=some ⟨24,[(4,none)],body22⟩:=by kernel_rfl
theorem rUnion_ok (h:AHeap) (va vb:Value) (A B:List LWd) (ka:SlW h va A) (kb:SlW h vb B) (oa:OkW A) (ob:OkW B) (la:A.length≤100) (lb:B.length≤100) (hm:h.mark≤h.n):
  WC Try.prog tb 22 [va,vb] h fun r h'=>SlW h' r (orL A B)∧Ext h h':=by
 refine WC.of (zH 22) tab22 ?_;simp only[zn,Nat.zero_add,Nat.reduceAdd]
 refine go ?_
 refine WO.con (rNumbers_ok h vb B kb ob (by omega)) ?_
 rintro vl h1 ⟨o1,e1⟩
 have hmem:∀ n,n∈numsL B↔InW B n:=fun n=>mem_numsL ob
 have hlen:(numsL B).length≤6400:=by
  have:∀ l:List LWd,(numsL l).length≤64 * l.length:=fun l=>by
   induction l with
   |nil=>exact Nat.le_refl _
   |cons w l ih=>rw[numsL_cons,List.length_cons];have:=bitsL_le w.bits;omega
  have:=this B;omega
 have hr:∀ n∈numsL B,0≤n∧n<1048576:=fun n hn=>((hmem n).1 hn).range ob
 generalize numsL B=l at *
 have hr:=Hid.mk hr
 have hmem:=Hid.mk hmem
 have s1:=o1.sl
 have ka1:=SlW.ext ka e1
 have hm1:h1.mark≤h1.n:=by have:=e1.mark;have:=e1.n;omega
 refine go ?_
 refine WX.loopA [9,10,11,12,15,16,17,18,19,20,0,13,14,6] (by kernel_rfl) (fun i=>l.length - i) (fun i t h2=>∃ w out,Ext h1 h2∧zB t 6=I i∧i≤l.length∧zB t 0=w∧SlW h2 w out∧Hid (OkW out∧∀ n,InW out n↔InW A n∨n∈l.take i)∧out.length≤100+i) 0 ?_ ?_
 ·exact⟨va,A,Ext.refl _,sl_,Nat.zero_le _,sl_,ka1,⟨oa,fun n=>by simp⟩,la⟩
 rintro i t h2 hsame ⟨w,out,e2,s6,hi,s0,kw,hU,hol⟩
 have sl2:=SlI.ext s1 e2
 refine go ?_
 refine WX.br (fun hb=> ?_) (fun hb=> ?_)<;>simp only[DB]at hb
 ·have hi':i<l.length:=by omega
  have hn:=hr.out _ (getD_memI hi')
  have hlen2:=withR_len out (l.getD i 0)
  have hw:=withR_is hU.out.1 hn
  have htk:=take_succ l hi'
  have hnew:Hid (OkW (withR out (l.getD i 0))∧∀ n,InW (withR out (l.getD i 0)) n↔InW A n∨n∈l.take (i+1)):=⟨hw.1,fun n=>by
   rw[hw.2,hU.out.2,htk,List.mem_append,List.mem_singleton,or_assoc]⟩
  clear hw htk
  refine go ?_
  refine WO.con (rWith_ok h2 w out (l.getD i 0) kw hU.out.1 (by omega) hn (by have:=e2.mark;have:=e2.n;omega)) ?_
  rintro w2 h3 ⟨m2,e3⟩
  have mw:=m2.sl
  refine go ?_
  exact zA (i+1) (by omega) ⟨_,_,e2.trans e3,sln,by omega,sl_,mw,hnew,by omega⟩
 ·rw[show i=l.length by omega,List.take_length]at hU
  obtain⟨oo,io⟩:=or_is oa ob
  have heq:out=orL A B:=okW_ext hU.out.1 oo fun n=>by
   rw[hU.out.2,hmem.out,←inB_iff (s:=orL A B),io,Bool.or_eq_true,inB_iff,inB_iff]
  refine go ?_
  refine WO.bl0 (c:=2) RW ?_
  intro v3 h3 e3 o3
  have kw3:=SlW.ext kw e3
  refine go ?_
  refine WO.apAll o3 kw3 (by decide) RW.ind RW.one e3 (Nat.le_refl _) e3.n (by omega) ?_
  intro v4 h4 e4 o4
  refine go ?_
  refine rt ?_
  rw[←heq]
  exact⟨OwnR.sl o4,e1.trans (e2.trans e4)⟩
noncomputable def body24_0:ACode:=(.seq (.seq (.region [⟨some 10,none,(.mov (.tmp 7))⟩,⟨some 11,none,(.mov (.tmp 6))⟩,⟨some 12,none,(.len (.tmp 11))⟩,⟨some 13,none,(.bin .lss (.tmp 10) (.tmp 12))⟩]) (.cond (.tmp 13) .skip (.exit 0))) (.seq (.block 1 (.seq (.region [⟨some 16,none,(.mov (.tmp 1))⟩,⟨some 17,none,(.mov (.tmp 6))⟩,⟨some 18,none,(.mov (.tmp 7))⟩,⟨some 19,none,(.idx 1 (.tmp 17) (.tmp 18))⟩,⟨some 20,none,(.load false 1 (.tmp 19))⟩,⟨some 21,none,(.call (.func 29) [(.tmp 16),(.tmp 20)])⟩]) (.cond (.tmp 21) (.region [⟨some 22,none,(.mov (.tmp 5))⟩,⟨some 23,none,(.mov (.tmp 6))⟩,⟨some 24,none,(.mov (.tmp 7))⟩,⟨some 25,none,(.idx 1 (.tmp 23) (.tmp 24))⟩,⟨some 26,none,(.load false 1 (.tmp 25))⟩,⟨some 27,none,(.call (.func 18) [(.tmp 22),(.tmp 26)])⟩,⟨some 5,none,(.mov (.tmp 27))⟩]) .skip))) (.region [⟨some 14,none,(.mov (.tmp 7))⟩,⟨some 15,none,(.bin .add (.tmp 14) (.const (.int .i64 1)))⟩,⟨some 7,none,(.mov (.tmp 15))⟩])))
noncomputable def body24:ACode:=(.seq (.region [⟨some 4,none,(.mov (.const (.slice none 0 0)))⟩]) (.seq (.region [⟨some 5,none,(.mov (.const (.slice none 0 0)))⟩]) (.seq (.region [⟨some 8,none,(.mov (.tmp 0))⟩,⟨some 9,none,(.call (.func 35) [(.tmp 8)])⟩,⟨some 6,none,(.mov (.tmp 9))⟩]) (.seq (.seq (.region [⟨some 7,none,(.mov (.const (.int .i64 0)))⟩]) (.block 0 (.loop body24_0))) (.seq (.region [⟨some 28,none,(.mov (.tmp 5))⟩,⟨some 4,none,(.mov (.tmp 28))⟩]) .ret)))))
set_option maxRecDepth 100000 in
theorem tab24:tb.code 24=some ⟨29,[(4,none)],body24⟩:=by kernel_rfl
theorem rMeet_ok (h:AHeap) (va vb:Value) (A B:List LWd) (ka:SlW h va A) (kb:SlW h vb B) (oa:OkW A) (ob:OkW B) (la:A.length≤100) (lb:B.length≤100) (hm:h.mark≤h.n):
  WC Try.prog tb 24 [va,vb] h fun r h'=>SlW h' r (andL A B)∧Ext h h':=by
 refine WC.of (zH 24) tab24 ?_;simp only[zn,Nat.zero_add,Nat.reduceAdd]
 refine go ?_
 refine WO.con (rNumbers_ok h va A ka oa (by omega)) ?_
 rintro vl h1 ⟨o1,e1⟩
 have hmem:∀ n,n∈numsL A↔InW A n:=fun n=>mem_numsL oa
 have hlen:(numsL A).length≤6400:=by
  have:∀ l:List LWd,(numsL l).length≤64 * l.length:=fun l=>by
   induction l with
   |nil=>exact Nat.le_refl _
   |cons w l ih=>rw[numsL_cons,List.length_cons];have:=bitsL_le w.bits;omega
  have:=this A;omega
 have hr:∀ n∈numsL A,0≤n∧n<1048576:=fun n hn=>((hmem n).1 hn).range oa
 generalize numsL A=l at *
 have hr:=Hid.mk hr
 have hmem:=Hid.mk hmem
 have s1:=o1.sl
 have kb1:=SlW.ext kb e1
 have hm1:h1.mark≤h1.n:=by have:=e1.mark;have:=e1.n;omega
 refine go ?_
 refine WX.loopA [10,11,12,13,16,17,18,19,20,21,22,23,24,25,26,27,5,14,15,7] (by kernel_rfl) (fun i=>l.length - i) (fun i t h2=>∃ w out,Ext h1 h2∧zB t 7=I i∧i≤l.length∧zB t 5=w∧SlW h2 w out∧Hid (OkW out∧∀ n,InW out n↔n∈l.take i∧inB B n=true)∧out.length≤i) 0 ?_ ?_
 ·exact⟨_,[],Ext.refl _,sl_,Nat.zero_le _,sl_,SlR.nil,⟨OkW.nil,fun n=>⟨(fun ⟨_,h,_⟩=>by cases h),(fun h=>by simp at h)⟩⟩,Nat.le_refl _⟩
 rintro i t h2 hsame ⟨w,out,e2,s7,hi,s5,kw,hU,hol⟩
 have sl2:=SlI.ext s1 e2
 have kb2:=SlW.ext kb1 e2
 refine go ?_
 refine WX.br (fun hb=> ?_) (fun hb=> ?_)<;>simp only[DB]at hb
 ·have hi':i<l.length:=by omega
  have hn:=hr.out _ (getD_memI hi')
  have hlen2:=withR_len out (l.getD i 0)
  have hw:=withR_is hU.out.1 hn
  have htk:=take_succ l hi'
  have hnew:inB B (l.getD i 0)=true→Hid (OkW (withR out (l.getD i 0))∧∀ n,InW (withR out (l.getD i 0)) n↔n∈l.take (i+1)∧inB B n=true):=fun hb=>⟨hw.1,fun n=>by
   rw[hw.2,hU.out.2,htk,List.mem_append,List.mem_singleton]
   constructor
   ·rintro(⟨a,b⟩|e)
    ·exact⟨.inl a,b⟩
    ·subst e;exact⟨.inr rfl,hb⟩
   ·rintro⟨a|e,b⟩
    ·exact .inl ⟨a,b⟩
    ·exact .inr e⟩
  have hold:inB B (l.getD i 0)=false→Hid (OkW out∧∀ n,InW out n↔n∈l.take (i+1)∧inB B n=true):=fun hb=>⟨hU.out.1,fun n=>by
   rw[hU.out.2,htk,List.mem_append,List.mem_singleton]
   constructor
   ·rintro⟨a,b⟩;exact⟨.inl a,b⟩
   ·rintro⟨a|e,b⟩
    ·exact⟨a,b⟩
    ·subst e;rw[hb]at b;cases b⟩
  clear hw htk
  refine go ?_
  refine WO.con (rIn_ok h2 vb B (l.getD i 0) kb2 ob (by omega) hn) ?_
  rintro _ _ ⟨rfl,rfl⟩
  cases hin:inB B (l.getD i 0)with
  |true=>
   have hnew:=hnew hin
   refine go ?_
   refine WO.con (rWith_ok h2 w out (l.getD i 0) kw hU.out.1 (by omega) hn (by have:=e2.mark;have:=e2.n;omega)) ?_
   rintro w2 h3 ⟨m2,e3⟩
   have mw:=m2.sl
   refine go ?_
   exact zA (i+1) (by omega) ⟨_,_,e2.trans e3,sln,by omega,sl_,mw,hnew,by omega⟩
  |false=>
   have hold:=hold hin
   refine go ?_
   exact zA (i+1) (by omega) ⟨_,out,e2,sln,by omega,sl_,kw,hold,by omega⟩
 ·rw[show i=l.length by omega,List.take_length]at hU
  obtain⟨oo,io⟩:=and_is oa ob
  have heq:out=andL A B:=okW_ext hU.out.1 oo fun n=>by
   rw[hU.out.2,hmem.out,←inB_iff (s:=A),←inB_iff (s:=andL A B),io,Bool.and_eq_true]
  refine go ?_
  refine rt ?_
  rw[←heq]
  subst s5
  exact⟨kw,e1.trans e2⟩
noncomputable def body26_0:ACode:=(.seq (.seq (.region [⟨some 10,none,(.mov (.tmp 7))⟩,⟨some 11,none,(.mov (.tmp 6))⟩,⟨some 12,none,(.len (.tmp 11))⟩,⟨some 13,none,(.bin .lss (.tmp 10) (.tmp 12))⟩]) (.cond (.tmp 13) .skip (.exit 0))) (.seq (.block 1 (.seq (.region [⟨some 16,none,(.mov (.tmp 1))⟩,⟨some 17,none,(.mov (.tmp 6))⟩,⟨some 18,none,(.mov (.tmp 7))⟩,⟨some 19,none,(.idx 1 (.tmp 17) (.tmp 18))⟩,⟨some 20,none,(.load false 1 (.tmp 19))⟩,⟨some 21,none,(.call (.func 29) [(.tmp 16),(.tmp 20)])⟩,⟨some 22,none,(.un .not (.tmp 21))⟩]) (.cond (.tmp 22) (.region [⟨some 23,none,(.mov (.tmp 5))⟩,⟨some 24,none,(.mov (.tmp 6))⟩,⟨some 25,none,(.mov (.tmp 7))⟩,⟨some 26,none,(.idx 1 (.tmp 24) (.tmp 25))⟩,⟨some 27,none,(.load false 1 (.tmp 26))⟩,⟨some 28,none,(.call (.func 18) [(.tmp 23),(.tmp 27)])⟩,⟨some 5,none,(.mov (.tmp 28))⟩]) .skip))) (.region [⟨some 14,none,(.mov (.tmp 7))⟩,⟨some 15,none,(.bin .add (.tmp 14) (.const (.int .i64 1)))⟩,⟨some 7,none,(.mov (.tmp 15))⟩])))
noncomputable def body26:ACode:=(.seq (.region [⟨some 4,none,(.mov (.const (.slice none 0 0)))⟩]) (.seq (.region [⟨some 5,none,(.mov (.const (.slice none 0 0)))⟩]) (.seq (.region [⟨some 8,none,(.mov (.tmp 0))⟩,⟨some 9,none,(.call (.func 35) [(.tmp 8)])⟩,⟨some 6,none,(.mov (.tmp 9))⟩]) (.seq (.seq (.region [⟨some 7,none,(.mov (.const (.int .i64 0)))⟩]) (.block 0 (.loop body26_0))) (.seq (.region [⟨some 29,none,(.mov (.tmp 5))⟩,⟨some 4,none,(.mov (.tmp 29))⟩]) .ret)))))
set_option maxRecDepth 100000 in
theorem tab26:tb.code 26=some ⟨30,[(4,none)],body26⟩:=by kernel_rfl
theorem rWithout_ok (h:AHeap) (va vb:Value) (A B:List LWd) (ka:SlW h va A) (kb:SlW h vb B) (oa:OkW A) (ob:OkW B) (la:A.length≤100) (lb:B.length≤100) (hm:h.mark≤h.n):
  WC Try.prog tb 26 [va,vb] h fun r h'=>SlW h' r (minL A B)∧Ext h h':=by
 refine WC.of (zH 26) tab26 ?_;simp only[zn,Nat.zero_add,Nat.reduceAdd]
 refine go ?_
 refine WO.con (rNumbers_ok h va A ka oa (by omega)) ?_
 rintro vl h1 ⟨o1,e1⟩
 have hmem:∀ n,n∈numsL A↔InW A n:=fun n=>mem_numsL oa
 have hlen:(numsL A).length≤6400:=by
  have:∀ l:List LWd,(numsL l).length≤64 * l.length:=fun l=>by
   induction l with
   |nil=>exact Nat.le_refl _
   |cons w l ih=>rw[numsL_cons,List.length_cons];have:=bitsL_le w.bits;omega
  have:=this A;omega
 have hr:∀ n∈numsL A,0≤n∧n<1048576:=fun n hn=>((hmem n).1 hn).range oa
 generalize numsL A=l at *
 have hr:=Hid.mk hr
 have hmem:=Hid.mk hmem
 have s1:=o1.sl
 have kb1:=SlW.ext kb e1
 have hm1:h1.mark≤h1.n:=by have:=e1.mark;have:=e1.n;omega
 refine go ?_
 refine WX.loopA [10,11,12,13,16,17,18,19,20,21,22,23,24,25,26,27,28,5,14,15,7] (by kernel_rfl) (fun i=>l.length - i) (fun i t h2=>∃ w out,Ext h1 h2∧zB t 7=I i∧i≤l.length∧zB t 5=w∧SlW h2 w out∧Hid (OkW out∧∀ n,InW out n↔n∈l.take i∧inB B n=false)∧out.length≤i) 0 ?_ ?_
 ·exact⟨_,[],Ext.refl _,sl_,Nat.zero_le _,sl_,SlR.nil,⟨OkW.nil,fun n=>⟨(fun ⟨_,h,_⟩=>by cases h),(fun h=>by simp at h)⟩⟩,Nat.le_refl _⟩
 rintro i t h2 hsame ⟨w,out,e2,s7,hi,s5,kw,hU,hol⟩
 have sl2:=SlI.ext s1 e2
 have kb2:=SlW.ext kb1 e2
 refine go ?_
 refine WX.br (fun hb=> ?_) (fun hb=> ?_)<;>simp only[DB]at hb
 ·have hi':i<l.length:=by omega
  have hn:=hr.out _ (getD_memI hi')
  have hlen2:=withR_len out (l.getD i 0)
  have hw:=withR_is hU.out.1 hn
  have htk:=take_succ l hi'
  have hnew:inB B (l.getD i 0)=false→Hid (OkW (withR out (l.getD i 0))∧∀ n,InW (withR out (l.getD i 0)) n↔n∈l.take (i+1)∧inB B n=false):=fun hb=>⟨hw.1,fun n=>by
   rw[hw.2,hU.out.2,htk,List.mem_append,List.mem_singleton]
   constructor
   ·rintro(⟨a,b⟩|e)
    ·exact⟨.inl a,b⟩
    ·subst e;exact⟨.inr rfl,hb⟩
   ·rintro⟨a|e,b⟩
    ·exact .inl ⟨a,b⟩
    ·exact .inr e⟩
  have hold:inB B (l.getD i 0)=true→Hid (OkW out∧∀ n,InW out n↔n∈l.take (i+1)∧inB B n=false):=fun hb=>⟨hU.out.1,fun n=>by
   rw[hU.out.2,htk,List.mem_append,List.mem_singleton]
   constructor
   ·rintro⟨a,b⟩;exact⟨.inl a,b⟩
   ·rintro⟨a|e,b⟩
    ·exact⟨a,b⟩
    ·subst e;rw[hb]at b;cases b⟩
  clear hw htk
  refine go ?_
  refine WO.con (rIn_ok h2 vb B (l.getD i 0) kb2 ob (by omega) hn) ?_
  rintro _ _ ⟨rfl,rfl⟩
  cases hin:inB B (l.getD i 0)with
  |false=>
   have hnew:=hnew hin
   refine go ?_
   refine WO.con (rWith_ok h2 w out (l.getD i 0) kw hU.out.1 (by omega) hn (by have:=e2.mark;have:=e2.n;omega)) ?_
   rintro w2 h3 ⟨m2,e3⟩
   have mw:=m2.sl
   refine go ?_
   exact zA (i+1) (by omega) ⟨_,_,e2.trans e3,sln,by omega,sl_,mw,hnew,by omega⟩
  |true=>
   have hold:=hold hin
   refine go ?_
   exact zA (i+1) (by omega) ⟨_,out,e2,sln,by omega,sl_,kw,hold,by omega⟩
 ·rw[show i=l.length by omega,List.take_length]at hU
  obtain⟨oo,io⟩:=min_is oa ob
  have heq:out=minL A B:=okW_ext hU.out.1 oo fun n=>by
   rw[hU.out.2,hmem.out,←inB_iff (s:=A),←inB_iff (s:=minL A B),io,Bool.and_eq_true]
   rw[Bool.not_eq_true']
  refine go ?_
  refine rt ?_
  rw[←heq]
  subst s5
  exact⟨kw,e1.trans e2⟩
noncomputable def body7:ACode:=(.seq (.region [⟨some 4,none,(.mov (.const (.slice none 0 0)))⟩,⟨some 5,none,(.mov (.const (.int .i64 0)))⟩]) (.seq (.seq (.region [⟨some 6,none,(.mov (.tmp 0))⟩,⟨some 7,none,(.call (.func 21) [(.tmp 6)])⟩,⟨some 8,none,(.un .not (.tmp 7))⟩,⟨some 9,none,(.mov (.tmp 8))⟩,⟨some 10,some (9,false),(.mov (.tmp 1))⟩,⟨some 11,some (9,false),(.call (.func 21) [(.tmp 10)])⟩,⟨some 12,some (9,false),(.un .not (.tmp 11))⟩,⟨some 13,none,(.pick (.tmp 9) (.const (.bool true)) (.tmp 12))⟩]) (.cond (.tmp 13) (.seq (.region [⟨some 4,none,(.mov (.const (.slice none 0 0)))⟩,⟨some 5,none,(.mov (.const (.int .i64 8)))⟩]) .ret) .skip)) (.seq (.region [⟨some 14,none,(.mov (.tmp 0))⟩,⟨some 15,none,(.mov (.tmp 1))⟩,⟨some 16,none,(.call (.func 22) [(.tmp 14),(.tmp 15)])⟩,⟨some 4,none,(.mov (.tmp 16))⟩,⟨some 5,none,(.mov (.const (.int .i64 0)))⟩]) .ret)))
set_option maxRecDepth 100000 in
theorem tab7:tb.code 7=some ⟨17,[(4,none),(5,none)],body7⟩:=by kernel_rfl
theorem rOr_ok (h:AHeap) (va vb:Value) (A B:List LWd) (ka:SlW h va A) (kb:SlW h vb B) (la:A.length≤100) (lb:B.length≤100) (hm:h.mark≤h.n):
  WC Try.prog tb 7 [va,vb] h fun r h'=>(∃ w,r= .tuple #[w,I (bothE A B)]∧SlW h' w (bothL (fun a b=>a|||b) A B))∧Ext h h':=by
 refine WC.of (zH 7) tab7 ?_;simp only[zn,Nat.zero_add,Nat.reduceAdd]
 refine go ?_
 refine WO.con (rMay_ok h va A ka (by omega)) ?_
 rintro _ _ ⟨rfl,rfl⟩
 unfold bothE bothL
 by_cases hca:zM (-1) A=true
 case neg=>
  have hca:zM (-1) A=false:=by simpa using hca
  rw[hca]
  refine go ?_
  refine rt ?_
  exact⟨⟨_,rfl,SlR.nil⟩,Ext.refl _⟩
 have oa:=okk ka hca
 rw[hca]
 refine go ?_
 refine WO.con (rMay_ok h vb B kb (by omega)) ?_
 rintro _ _ ⟨rfl,rfl⟩
 by_cases hcb:zM (-1) B=true
 case neg=>
  have hcb:zM (-1) B=false:=by simpa using hcb
  rw[hcb]
  refine go ?_
  refine rt ?_
  exact⟨⟨_,rfl,SlR.nil⟩,Ext.refl _⟩
 have ob:=okk kb hcb
 rw[hcb]
 refine go ?_
 refine WO.con (rUnion_ok h va vb A B ka kb oa ob la lb hm) ?_
 rintro w h1 ⟨k1,e1⟩
 refine go ?_
 refine rt ?_
 exact⟨⟨w,rfl,k1⟩,e1⟩
noncomputable def body9:ACode:=(.seq (.region [⟨some 4,none,(.mov (.const (.slice none 0 0)))⟩,⟨some 5,none,(.mov (.const (.int .i64 0)))⟩]) (.seq (.seq (.region [⟨some 6,none,(.mov (.tmp 0))⟩,⟨some 7,none,(.call (.func 21) [(.tmp 6)])⟩,⟨some 8,none,(.un .not (.tmp 7))⟩,⟨some 9,none,(.mov (.tmp 8))⟩,⟨some 10,some (9,false),(.mov (.tmp 1))⟩,⟨some 11,some (9,false),(.call (.func 21) [(.tmp 10)])⟩,⟨some 12,some (9,false),(.un .not (.tmp 11))⟩,⟨some 13,none,(.pick (.tmp 9) (.const (.bool true)) (.tmp 12))⟩]) (.cond (.tmp 13) (.seq (.region [⟨some 4,none,(.mov (.const (.slice none 0 0)))⟩,⟨some 5,none,(.mov (.const (.int .i64 8)))⟩]) .ret) .skip)) (.seq (.region [⟨some 14,none,(.mov (.tmp 0))⟩,⟨some 15,none,(.mov (.tmp 1))⟩,⟨some 16,none,(.call (.func 24) [(.tmp 14),(.tmp 15)])⟩,⟨some 4,none,(.mov (.tmp 16))⟩,⟨some 5,none,(.mov (.const (.int .i64 0)))⟩]) .ret)))
set_option maxRecDepth 100000 in
theorem tab9:tb.code 9=some ⟨17,[(4,none),(5,none)],body9⟩:=by kernel_rfl
theorem rAnd_ok (h:AHeap) (va vb:Value) (A B:List LWd) (ka:SlW h va A) (kb:SlW h vb B) (la:A.length≤100) (lb:B.length≤100) (hm:h.mark≤h.n):
  WC Try.prog tb 9 [va,vb] h fun r h'=>(∃ w,r= .tuple #[w,I (bothE A B)]∧SlW h' w (bothL (fun a b=>a&&& b) A B))∧Ext h h':=by
 refine WC.of (zH 9) tab9 ?_;simp only[zn,Nat.zero_add,Nat.reduceAdd]
 refine go ?_
 refine WO.con (rMay_ok h va A ka (by omega)) ?_
 rintro _ _ ⟨rfl,rfl⟩
 unfold bothE bothL
 by_cases hca:zM (-1) A=true
 case neg=>
  have hca:zM (-1) A=false:=by simpa using hca
  rw[hca]
  refine go ?_
  refine rt ?_
  exact⟨⟨_,rfl,SlR.nil⟩,Ext.refl _⟩
 have oa:=okk ka hca
 rw[hca]
 refine go ?_
 refine WO.con (rMay_ok h vb B kb (by omega)) ?_
 rintro _ _ ⟨rfl,rfl⟩
 by_cases hcb:zM (-1) B=true
 case neg=>
  have hcb:zM (-1) B=false:=by simpa using hcb
  rw[hcb]
  refine go ?_
  refine rt ?_
  exact⟨⟨_,rfl,SlR.nil⟩,Ext.refl _⟩
 have ob:=okk kb hcb
 rw[hcb]
 refine go ?_
 refine WO.con (rMeet_ok h va vb A B ka kb oa ob la lb hm) ?_
 rintro w h1 ⟨k1,e1⟩
 refine go ?_
 refine rt ?_
 exact⟨⟨w,rfl,k1⟩,e1⟩
noncomputable def body11:ACode:=(.seq (.region [⟨some 4,none,(.mov (.const (.slice none 0 0)))⟩,⟨some 5,none,(.mov (.const (.int .i64 0)))⟩]) (.seq (.seq (.region [⟨some 6,none,(.mov (.tmp 0))⟩,⟨some 7,none,(.call (.func 21) [(.tmp 6)])⟩,⟨some 8,none,(.un .not (.tmp 7))⟩,⟨some 9,none,(.mov (.tmp 8))⟩,⟨some 10,some (9,false),(.mov (.tmp 1))⟩,⟨some 11,some (9,false),(.call (.func 21) [(.tmp 10)])⟩,⟨some 12,some (9,false),(.un .not (.tmp 11))⟩,⟨some 13,none,(.pick (.tmp 9) (.const (.bool true)) (.tmp 12))⟩]) (.cond (.tmp 13) (.seq (.region [⟨some 4,none,(.mov (.const (.slice none 0 0)))⟩,⟨some 5,none,(.mov (.const (.int .i64 8)))⟩]) .ret) .skip)) (.seq (.region [⟨some 14,none,(.mov (.tmp 0))⟩,⟨some 15,none,(.mov (.tmp 1))⟩,⟨some 16,none,(.call (.func 26) [(.tmp 14),(.tmp 15)])⟩,⟨some 4,none,(.mov (.tmp 16))⟩,⟨some 5,none,(.mov (.const (.int .i64 0)))⟩]) .ret)))
set_option maxRecDepth 100000 in
theorem tab11:tb.code 11=some ⟨17,[(4,none),(5,none)],body11⟩:=by kernel_rfl
theorem rMinus_ok (h:AHeap) (va vb:Value) (A B:List LWd) (ka:SlW h va A) (kb:SlW h vb B) (la:A.length≤100) (lb:B.length≤100) (hm:h.mark≤h.n):
  WC Try.prog tb 11 [va,vb] h fun r h'=>(∃ w,r= .tuple #[w,I (bothE A B)]∧SlW h' w (bothL notN A B))∧Ext h h':=by
 refine WC.of (zH 11) tab11 ?_;simp only[zn,Nat.zero_add,Nat.reduceAdd]
 refine go ?_
 refine WO.con (rMay_ok h va A ka (by omega)) ?_
 rintro _ _ ⟨rfl,rfl⟩
 unfold bothE bothL
 by_cases hca:zM (-1) A=true
 case neg=>
  have hca:zM (-1) A=false:=by simpa using hca
  rw[hca]
  refine go ?_
  refine rt ?_
  exact⟨⟨_,rfl,SlR.nil⟩,Ext.refl _⟩
 have oa:=okk ka hca
 rw[hca]
 refine go ?_
 refine WO.con (rMay_ok h vb B kb (by omega)) ?_
 rintro _ _ ⟨rfl,rfl⟩
 by_cases hcb:zM (-1) B=true
 case neg=>
  have hcb:zM (-1) B=false:=by simpa using hcb
  rw[hcb]
  refine go ?_
  refine rt ?_
  exact⟨⟨_,rfl,SlR.nil⟩,Ext.refl _⟩
 have ob:=okk kb hcb
 rw[hcb]
 refine go ?_
 refine WO.con (rWithout_ok h va vb A B ka kb oa ob la lb hm) ?_
 rintro w h1 ⟨k1,e1⟩
 refine go ?_
 refine rt ?_
 exact⟨⟨w,rfl,k1⟩,e1⟩
end Go.Proofs.Ytejjibilgmlhdaa
namespace Go.Proofs.Ytejjibilgmlhdaa
open Go.Am
set_option maxRecDepth 1000000 in
theorem tb_ok:tb.Ok Try.prog where
 code:=fun _ _ h=>h
 stub:=fun f s hs=>by cases hs
 grow:=fun f s hs args h v h' hk=>by cases hs
end Go.Proofs.Ytejjibilgmlhdaa
namespace Go.Proofs.Ytejjibilgmlhdaa
open Go.Am
set_option linter.unusedVariables false
set_option linter.unusedSimpArgs false
set_option maxHeartbeats 4000000
theorem upto_eq {s t:List LWd} {l:List Int} (u:Upto s l) (w:Upto t l):s=t:=okW_ext u.ok w.ok fun n=>(u.mem n).trans (w.mem n).symm
theorem upto_len2 {t:List LWd} {l:List Int} (u:Upto t l):t.length≤l.length:=by
 have h1:∀ w∈t,∃ n∈l,n / 64=w.pos:=fun w hw=>by
  obtain⟨a,b,c,d⟩:=u.ok.each w hw
  obtain⟨k,hk⟩:=bits_ex c
  have hk2:=bits_lt d hk
  exact⟨64 * w.pos+k,(u.mem _).1 ⟨w,hw,by omega,by rw[show ((64 * w.pos+(k:Int)) % 64).toNat=k by omega];exact hk⟩,by omega⟩
 have h2:(t.map (·.pos)).Nodup:=by
  rw[List.Nodup,List.pairwise_map];exact u.ok.rise.imp fun h=>by omega
 have h3:(t.map (·.pos)).length≤(l.map (· / 64)).length:=List.Nodup.length_le_of_subset h2 fun x hx=>by
  obtain⟨w,hw,rfl⟩:=List.mem_map.1 hx
  obtain⟨n,hn,e⟩:=h1 w hw
  exact List.mem_map.2 ⟨n,hn,e⟩
 simpa using h3
theorem mine_keep {h h':AHeap} {v:Value} {s:List LWd} {b b':Nat} {va:Option Addr} {vn vk:Nat} (o:OwnW b h v s) (hv:∀ g,va=some ⟨g,0,none⟩→g<b') (hb:b'≤b)
  (hk:∀ k,k<h.n→(∀ n k',Value.slice va vn vk≠ .slice (some ⟨k,0,none⟩) n k')→h'.get k=h.get k) (hn:h'.n=h.n):OwnW b h' v s:=OwnR.upd o (fun k k1 k2=>hk k k2 fun n k' e=>by
 cases e
 have:=hv k rfl
 omega) (by omega)
noncomputable def body13_0:ACode:=(.seq (.seq (.region [⟨some 3,none,(.mov (.tmp 2))⟩,⟨some 4,none,(.mov (.tmp 0))⟩,⟨some 5,none,(.len (.tmp 4))⟩,⟨some 6,none,(.bin .lss (.tmp 3) (.tmp 5))⟩]) (.cond (.tmp 6) .skip (.exit 0))) (.seq (.block 1 (.region [⟨some 9,none,(.mov (.tmp 0))⟩,⟨some 10,none,(.mov (.tmp 2))⟩,⟨some 11,none,(.build [(.int .i64 0),(.int .u64 0)] [(0,1,(.const (.int .i64 (-7))))])⟩,⟨some 12,none,(.idx 2 (.tmp 9) (.tmp 10))⟩,⟨none,none,(.store 2 (.tmp 12) (.tmp 11))⟩])) (.region [⟨some 7,none,(.mov (.tmp 2))⟩,⟨some 8,none,(.bin .add (.tmp 7) (.const (.int .i64 1)))⟩,⟨some 2,none,(.mov (.tmp 8))⟩])))
noncomputable def body13:ACode:=(.seq (.region [⟨some 2,none,(.mov (.const (.int .i64 0)))⟩]) (.block 0 (.loop body13_0)))
set_option maxRecDepth 100000 in
theorem tab13:tb.code 13=some ⟨13,[],body13⟩:=by kernel_rfl
theorem spoil_ok (hB h:AHeap) (v:Value) (s:List LWd) (b:Nat) (e0:Ext hB h) (hb:hB.n≤b) (o:OwnW b h v s) (hl:s.length≤100000):
  WC Try.prog tb 13 [v] h fun r h'=>Ext hB h'∧h'.n=h.n∧∀ k,k<h.n→(∀ n k',v≠ .slice (some ⟨k,0,none⟩) n k')→h'.get k=h.get k:=by
 obtain⟨va,vn,vk,rfl,hv⟩:=zV o
 refine WC.of (zH 13) tab13 ?_;simp only[zn,Nat.zero_add,Nat.reduceAdd]
 refine go ?_
 refine WX.loopA [3,4,5,6,9,10,11,12,7,8,2] (by kernel_rfl) (fun i=>s.length - i) (fun i t h1=>∃ s',Ext hB h1∧zB t 2=I i∧i≤s.length∧OwnW b h1 (.slice va vn vk) s'∧s'.length=s.length∧h1.n=h.n∧∀ k,k<h.n→(∀ n k',Value.slice va vn vk≠ .slice (some ⟨k,0,none⟩) n k')→h1.get k=h.get k) 0 ?_ ?_
 ·exact⟨s,e0,sl_,Nat.zero_le _,o,rfl,rfl,fun _ _ _=>rfl⟩
 rintro i t h1 hsame ⟨s',e1,s2,hi,ow,hls,hn,hk⟩
 have sl1:=OwnR.sl ow
 refine go ?_
 refine WX.br (fun hb2=> ?_) (fun hb2=> ?_)<;>simp only[DB]at hb2
 ·have hi':i<s'.length:=by omega
  refine go ?_
  refine WO.stR (i:=i) (off:=0) (cs:=[I (-7),W 0]) ⟨-7,0⟩ ow e1 hb hi' (fun old hx hr ho=> ?_) ?_ (hx:=by show Ope _ _ (zd _ (i * 2));exact zP)
  ·obtain⟨rfl,_⟩:=hr
   exact⟨rfl,by decide,by decide,by decide⟩
  intro h2 e2 ow2 n2 k2 _
  refine go ?_
  refine zA (i+1) (by omega) ⟨_,e2,sln,by omega,ow2,by rw[List.length_set];exact hls,n2.trans hn,fun k q1 q2=>(k2 k (by omega) q2).trans (hk k q1 q2)⟩
 ·refine go ?_
  refine rtN ?_
  exact⟨e1,hn,hk⟩
noncomputable def body3:ACode:=(.seq (.region [⟨some 6,none,(.mov (.const (.bool false)))⟩]) (.seq (.seq (.region [⟨some 27,none,(.mov (.tmp 0))⟩,⟨some 28,none,(.len (.tmp 27))⟩,⟨some 29,none,(.bin .gtr (.tmp 28) (.const (.int .i64 10)))⟩,⟨some 30,none,(.mov (.tmp 29))⟩,⟨some 31,some (30,false),(.mov (.tmp 1))⟩,⟨some 32,some (30,false),(.len (.tmp 31))⟩,⟨some 33,some (30,false),(.bin .gtr (.tmp 32) (.const (.int .i64 10)))⟩,⟨some 34,none,(.pick (.tmp 30) (.const (.bool true)) (.tmp 33))⟩,⟨some 35,none,(.mov (.tmp 34))⟩,⟨some 36,some (35,false),(.mov (.tmp 2))⟩,⟨some 37,some (35,false),(.len (.tmp 36))⟩,⟨some 38,some (35,false),(.bin .gtr (.tmp 37) (.const (.int .i64 200)))⟩,⟨some 39,none,(.pick (.tmp 35) (.const (.bool true)) (.tmp 38))⟩]) (.cond (.tmp 39) (.seq (.region [⟨some 6,none,(.mov (.const (.bool true)))⟩]) .ret) .skip)) (.seq (.region [⟨some 40,none,(.buildSlice 0 2 [(.int .i64 0),(.int .u64 0)] [])⟩,⟨some 41,none,(.mov (.tmp 0))⟩,⟨some 42,none,(.append 2 (.tmp 40) (.tmp 41))⟩,⟨some 43,none,(.buildSlice 0 2 [(.int .i64 0),(.int .u64 0)] [])⟩,⟨some 44,none,(.mov (.tmp 1))⟩,⟨some 45,none,(.append 2 (.tmp 43) (.tmp 44))⟩,⟨some 46,none,(.buildSlice 0 1 [(.int .i64 0)] [])⟩,⟨some 47,none,(.mov (.tmp 2))⟩,⟨some 48,none,(.append 1 (.tmp 46) (.tmp 47))⟩,⟨some 7,none,(.mov (.tmp 42))⟩,⟨some 8,none,(.mov (.tmp 45))⟩,⟨some 9,none,(.mov (.tmp 48))⟩]) (.seq (.region [⟨some 50,none,(.mov (.tmp 9))⟩,⟨some 51,none,(.call (.func 4) [(.tmp 50)])⟩,⟨some 49,none,(.mov (.tmp 51))⟩,⟨some 52,none,(.extract (.tmp 49) 0)⟩,⟨some 53,none,(.extract (.tmp 49) 1)⟩,⟨some 10,none,(.mov (.tmp 52))⟩,⟨some 11,none,(.mov (.tmp 53))⟩]) (.seq (.region [⟨some 55,none,(.mov (.tmp 2))⟩,⟨some 56,none,(.call (.func 5) [(.tmp 55)])⟩,⟨some 54,none,(.mov (.tmp 56))⟩,⟨some 57,none,(.extract (.tmp 54) 0)⟩,⟨some 58,none,(.extract (.tmp 54) 1)⟩,⟨some 12,none,(.mov (.tmp 57))⟩,⟨some 13,none,(.mov (.tmp 58))⟩]) (.seq (.region [⟨some 60,none,(.mov (.tmp 7))⟩,⟨some 61,none,(.mov (.tmp 8))⟩,⟨some 62,none,(.call (.func 6) [(.tmp 60),(.tmp 61)])⟩,⟨some 59,none,(.mov (.tmp 62))⟩,⟨some 63,none,(.extract (.tmp 59) 0)⟩,⟨some 64,none,(.extract (.tmp 59) 1)⟩,⟨some 14,none,(.mov (.tmp 63))⟩,⟨some 15,none,(.mov (.tmp 64))⟩]) (.seq (.region [⟨some 66,none,(.mov (.tmp 0))⟩,⟨some 67,none,(.mov (.tmp 1))⟩,⟨some 68,none,(.call (.func 7) [(.tmp 66),(.tmp 67)])⟩,⟨some 65,none,(.mov (.tmp 68))⟩,⟨some 69,none,(.extract (.tmp 65) 0)⟩,⟨some 70,none,(.extract (.tmp 65) 1)⟩,⟨some 16,none,(.mov (.tmp 69))⟩,⟨some 17,none,(.mov (.tmp 70))⟩]) (.seq (.region [⟨some 72,none,(.mov (.tmp 7))⟩,⟨some 73,none,(.mov (.tmp 8))⟩,⟨some 74,none,(.call (.func 8) [(.tmp 72),(.tmp 73)])⟩,⟨some 71,none,(.mov (.tmp 74))⟩,⟨some 75,none,(.extract (.tmp 71) 0)⟩,⟨some 76,none,(.extract (.tmp 71) 1)⟩,⟨some 18,none,(.mov (.tmp 75))⟩,⟨some 19,none,(.mov (.tmp 76))⟩]) (.seq (.region [⟨some 78,none,(.mov (.tmp 0))⟩,⟨some 79,none,(.mov (.tmp 1))⟩,⟨some 80,none,(.call (.func 9) [(.tmp 78),(.tmp 79)])⟩,⟨some 77,none,(.mov (.tmp 80))⟩,⟨some 81,none,(.extract (.tmp 77) 0)⟩,⟨some 82,none,(.extract (.tmp 77) 1)⟩,⟨some 20,none,(.mov (.tmp 81))⟩,⟨some 21,none,(.mov (.tmp 82))⟩]) (.seq (.region [⟨some 84,none,(.mov (.tmp 7))⟩,⟨some 85,none,(.mov (.tmp 8))⟩,⟨some 86,none,(.call (.func 10) [(.tmp 84),(.tmp 85)])⟩,⟨some 83,none,(.mov (.tmp 86))⟩,⟨some 87,none,(.extract (.tmp 83) 0)⟩,⟨some 88,none,(.extract (.tmp 83) 1)⟩,⟨some 22,none,(.mov (.tmp 87))⟩,⟨some 23,none,(.mov (.tmp 88))⟩]) (.seq (.region [⟨some 90,none,(.mov (.tmp 0))⟩,⟨some 91,none,(.mov (.tmp 1))⟩,⟨some 92,none,(.call (.func 11) [(.tmp 90),(.tmp 91)])⟩,⟨some 89,none,(.mov (.tmp 92))⟩,⟨some 93,none,(.extract (.tmp 89) 0)⟩,⟨some 94,none,(.extract (.tmp 89) 1)⟩,⟨some 24,none,(.mov (.tmp 93))⟩,⟨some 25,none,(.mov (.tmp 94))⟩]) (.seq (.region [⟨some 95,none,(.mov (.tmp 10))⟩,⟨some 96,none,(.mov (.tmp 12))⟩,⟨some 97,none,(.call (.func 12) [(.tmp 95),(.tmp 96)])⟩,⟨some 98,none,(.mov (.tmp 97))⟩,⟨some 99,some (98,true),(.mov (.tmp 11))⟩,⟨some 100,some (98,true),(.mov (.tmp 13))⟩,⟨some 101,some (98,true),(.bin .eql (.tmp 99) (.tmp 100))⟩,⟨some 102,none,(.pick (.tmp 98) (.tmp 101) (.const (.bool false)))⟩,⟨some 103,none,(.mov (.tmp 102))⟩,⟨some 104,some (103,true),(.mov (.tmp 14))⟩,⟨some 105,some (103,true),(.mov (.tmp 16))⟩,⟨some 106,some (103,true),(.call (.func 12) [(.tmp 104),(.tmp 105)])⟩,⟨some 107,none,(.pick (.tmp 103) (.tmp 106) (.const (.bool false)))⟩,⟨some 108,none,(.mov (.tmp 107))⟩,⟨some 109,some (108,true),(.mov (.tmp 15))⟩,⟨some 110,some (108,true),(.mov (.tmp 17))⟩,⟨some 111,some (108,true),(.bin .eql (.tmp 109) (.tmp 110))⟩,⟨some 112,none,(.pick (.tmp 108) (.tmp 111) (.const (.bool false)))⟩,⟨some 113,none,(.mov (.tmp 112))⟩,⟨some 114,some (113,true),(.mov (.tmp 18))⟩,⟨some 115,some (113,true),(.mov (.tmp 20))⟩,⟨some 116,some (113,true),(.call (.func 12) [(.tmp 114),(.tmp 115)])⟩,⟨some 117,none,(.pick (.tmp 113) (.tmp 116) (.const (.bool false)))⟩,⟨some 118,none,(.mov (.tmp 117))⟩,⟨some 119,some (118,true),(.mov (.tmp 19))⟩,⟨some 120,some (118,true),(.mov (.tmp 21))⟩,⟨some 121,some (118,true),(.bin .eql (.tmp 119) (.tmp 120))⟩,⟨some 122,none,(.pick (.tmp 118) (.tmp 121) (.const (.bool false)))⟩,⟨some 123,none,(.mov (.tmp 122))⟩,⟨some 124,some (123,true),(.mov (.tmp 22))⟩,⟨some 125,some (123,true),(.mov (.tmp 24))⟩,⟨some 126,some (123,true),(.call (.func 12) [(.tmp 124),(.tmp 125)])⟩,⟨some 127,none,(.pick (.tmp 123) (.tmp 126) (.const (.bool false)))⟩,⟨some 128,none,(.mov (.tmp 127))⟩,⟨some 129,some (128,true),(.mov (.tmp 23))⟩,⟨some 130,some (128,true),(.mov (.tmp 25))⟩,⟨some 131,some (128,true),(.bin .eql (.tmp 129) (.tmp 130))⟩,⟨some 132,none,(.pick (.tmp 128) (.tmp 131) (.const (.bool false)))⟩,⟨some 26,none,(.mov (.tmp 132))⟩]) (.seq (.region [⟨some 133,none,(.mov (.tmp 10))⟩,⟨some 134,none,(.call (.func 13) [(.tmp 133)])⟩]) (.seq (.region [⟨some 135,none,(.mov (.tmp 14))⟩,⟨some 136,none,(.call (.func 13) [(.tmp 135)])⟩]) (.seq (.region [⟨some 137,none,(.mov (.tmp 18))⟩,⟨some 138,none,(.call (.func 13) [(.tmp 137)])⟩]) (.seq (.region [⟨some 139,none,(.mov (.tmp 22))⟩,⟨some 140,none,(.call (.func 13) [(.tmp 139)])⟩]) (.seq (.region [⟨some 141,none,(.mov (.tmp 26))⟩,⟨some 142,none,(.mov (.tmp 141))⟩,⟨some 143,some (142,true),(.mov (.tmp 7))⟩,⟨some 144,some (142,true),(.mov (.tmp 0))⟩,⟨some 145,some (142,true),(.call (.func 12) [(.tmp 143),(.tmp 144)])⟩,⟨some 146,none,(.pick (.tmp 142) (.tmp 145) (.const (.bool false)))⟩,⟨some 147,none,(.mov (.tmp 146))⟩,⟨some 148,some (147,true),(.mov (.tmp 8))⟩,⟨some 149,some (147,true),(.mov (.tmp 1))⟩,⟨some 150,some (147,true),(.call (.func 12) [(.tmp 148),(.tmp 149)])⟩,⟨some 151,none,(.pick (.tmp 147) (.tmp 150) (.const (.bool false)))⟩,⟨some 152,none,(.mov (.tmp 151))⟩,⟨some 153,some (152,true),(.mov (.tmp 9))⟩,⟨some 154,some (152,true),(.mov (.tmp 2))⟩,⟨some 155,some (152,true),(.call (.func 14) [(.tmp 153),(.tmp 154)])⟩,⟨some 156,none,(.pick (.tmp 152) (.tmp 155) (.const (.bool false)))⟩,⟨some 6,none,(.mov (.tmp 156))⟩]) .ret)))))))))))))))))
set_option maxRecDepth 100000 in
theorem tab3:tb.code 3=some ⟨157,[(6,none)],body3⟩:=by kernel_rfl
theorem BitsTurns_ok (h:AHeap) (va:Value) (A:List LWd) (vb:Value) (B:List LWd) (vl:Value) (l:List Int) (hm:h.mark≤h.n) (ka:SlW h va A) (kb:SlW h vb B) (sl:SlI h vl l) (la:(A.length:Int)≤9223372036854775807) (lb:(B.length:Int)≤9223372036854775807) (ll:(l.length:Int)≤9223372036854775807):
  WC Try.prog tb 3 [va,vb,vl] h fun r _=>r= .bool true:=by
 refine WC.of (zH 3) tab3 ?_;simp only[zn,Nat.zero_add,Nat.reduceAdd]
 by_cases c1:10<(A.length:Int)
 ·refine go ?_
  refine rt ?_
  rfl
 by_cases c2:10<(B.length:Int)
 ·refine go ?_
  refine rt ?_
  rfl
 by_cases c3:200<(l.length:Int)
 ·refine go ?_
  refine rt ?_
  rfl
 refine go ?_
 refine WO.bl0 (c:=2) RW ?_
 intro v1 h1 e1 o1
 have ka1:=SlW.ext ka e1
 refine go ?_
 refine WO.apAll o1 ka1 (by decide) RW.ind RW.one e1 (Nat.le_refl _) e1.n (by omega) ?_
 intro vx h2 e2 ox
 have kx:=OwnR.sl ox
 have kb2:=SlW.ext kb e2
 refine go ?_
 refine WO.bl0 (c:=2) RW ?_
 intro v3 h3 e3 o3
 have kb3:=SlW.ext kb2 e3
 refine go ?_
 refine WO.apAll o3 kb3 (by decide) RW.ind RW.one e3 (Nat.le_refl _) e3.n (by omega) ?_
 intro vy h4 e4 oy
 have ky:=OwnR.sl oy
 have kx:=SlW.ext kx e4
 have sl4:=SlI.ext sl (e2.trans e4)
 refine go ?_
 refine WO.bl [] ?_
 intro v5 h5 e5 o5
 have sl5:=SlI.ext sl4 e5
 refine go ?_
 refine WO.apN (.inr o5) sl5 e5 (by simp only[List.length_nil];omega) ?_
 intro vk h6 e6 ok'
 rw[List.nil_append]at ok'
 have sk:=ok'.sl
 have ky:=SlW.ext ky e6
 have kx:=SlW.ext kx e6
 have e06:=e2.trans (e4.trans e6)
 have ka:=SlW.ext ka e06
 have kb:=SlW.ext kb e06
 have sl:=SlI.ext sl e06
 have hm6:h6.mark≤h6.n:=by have:=e06.mark;have:=e06.n;omega
 clear e1 o1 ka1 e2 ox kb2 e3 o3 kb3 e4 oy sl4 e5 o5 sl5 e6 ok' e06 hm
 refine go ?_
 refine WO.con (of_ok h6 vk l sk (by omega) hm6) ?_
 rintro _ h7 ⟨⟨ws,ts,rfl,ms,us,bs⟩,e7⟩
 have hm7:h7.mark≤h7.n:=by have:=e7.mark;have:=e7.n;omega
 refine go ?_
 refine WO.con (rOf_ok h7 vl l (SlI.ext sl e7) (by omega) hm7) ?_
 rintro _ h8 ⟨⟨wt,tt,rfl,mt,ut,bt⟩,e8⟩
 have hst:ts=tt:=by
  by_cases hE:ofE l=0
  ·exact upto_eq (us hE) (ut hE)
  ·rw[bs hE,bt hE]
 subst hst
 have hlen:ts.length≤100000:=by
  by_cases hE:ofE l=0
  ·have:=upto_len2 (us hE);omega
  ·rw[bs hE];simp
 clear us bs ut bt
 obtain⟨bts,hbts,ots⟩:=ms
 obtain⟨ats,nts,qts,rfl,sts'⟩:=zV ots
 have ots:=OwnR.ext ots e8
 have E8:=e7.trans e8
 have hm8:h8.mark≤h8.n:=by have:=E8.mark;have:=E8.n;omega
 refine go ?_
 refine WO.con (or_ok h8 vx vy A B (SlW.ext kx E8) (SlW.ext ky E8) (by omega) (by omega) hm8) ?_
 rintro _ h9 ⟨⟨vor,rfl,mor⟩,e9⟩
 obtain⟨bor,hbor,oor⟩:=mor
 obtain⟨aor,nor,qor,rfl,sor⟩:=zV oor
 have hm9:h9.mark≤h9.n:=by have:=e9.mark;have:=e9.n;omega
 have E9:=E8.trans e9
 refine go ?_
 refine WO.con (rOr_ok h9 va vb A B (SlW.ext ka E9) (SlW.ext kb E9) (by omega) (by omega) hm9) ?_
 rintro _ h10 ⟨⟨wor,rfl,kor⟩,e10⟩
 have oor:=OwnR.ext oor e10
 have hm10:h10.mark≤h10.n:=by have:=e10.mark;have:=e10.n;omega
 have E10:=E9.trans e10
 have lenor:(bothL (fun a b=>a|||b) A B).length≤20:=by
  unfold bothL;split
  ·have:=yO (fun a b=>a|||b) A B;omega
  ·simp
 generalize bothL (fun a b=>a|||b) A B=Lor at *
 refine go ?_
 refine WO.con (and_ok h10 vx vy A B (SlW.ext kx E10) (SlW.ext ky E10) (by omega) (by omega) hm10) ?_
 rintro _ h11 ⟨⟨vand,rfl,mand⟩,e11⟩
 obtain⟨band,hband,oand⟩:=mand
 obtain⟨aand,nand,qand,rfl,sand⟩:=zV oand
 have hm11:h11.mark≤h11.n:=by have:=e11.mark;have:=e11.n;omega
 have E11:=E10.trans e11
 refine go ?_
 refine WO.con (rAnd_ok h11 va vb A B (SlW.ext ka E11) (SlW.ext kb E11) (by omega) (by omega) hm11) ?_
 rintro _ h12 ⟨⟨wand,rfl,kand⟩,e12⟩
 have oand:=OwnR.ext oand e12
 have hm12:h12.mark≤h12.n:=by have:=e12.mark;have:=e12.n;omega
 have E12:=E11.trans e12
 have lenand:(bothL (fun a b=>a&&& b) A B).length≤20:=by
  unfold bothL;split
  ·have:=yO (fun a b=>a&&& b) A B;omega
  ·simp
 generalize bothL (fun a b=>a&&& b) A B=Land at *
 refine go ?_
 refine WO.con (minus_ok h12 vx vy A B (SlW.ext kx E12) (SlW.ext ky E12) (by omega) (by omega) hm12) ?_
 rintro _ h13 ⟨⟨vminus,rfl,mminus⟩,e13⟩
 obtain⟨bminus,hbminus,ominus⟩:=mminus
 obtain⟨aminus,nminus,qminus,rfl,sminus⟩:=zV ominus
 have hm13:h13.mark≤h13.n:=by have:=e13.mark;have:=e13.n;omega
 have E13:=E12.trans e13
 refine go ?_
 refine WO.con (rMinus_ok h13 va vb A B (SlW.ext ka E13) (SlW.ext kb E13) (by omega) (by omega) hm13) ?_
 rintro _ h14 ⟨⟨wminus,rfl,kminus⟩,e14⟩
 have ominus:=OwnR.ext ominus e14
 have hm14:h14.mark≤h14.n:=by have:=e14.mark;have:=e14.n;omega
 have E14:=E13.trans e14
 have lenminus:(bothL notN A B).length≤20:=by
  unfold bothL;split
  ·have:=yO notN A B;omega
  ·simp
 generalize bothL notN A B=Lminus at *
 generalize bothE A B=eB
 generalize ofE l=eO
 have ots:=OwnR.ext ots (e9.trans (e10.trans (e11.trans (e12.trans (e13.trans e14)))))
 have mt:=SlW.ext mt (e9.trans (e10.trans (e11.trans (e12.trans (e13.trans e14)))))
 have oor:=OwnR.ext oor (e11.trans (e12.trans (e13.trans e14)))
 have kor:=SlW.ext kor (e11.trans (e12.trans (e13.trans e14)))
 have oand:=OwnR.ext oand (e13.trans e14)
 have kand:=SlW.ext kand (e13.trans e14)
 have sts:=OwnR.sl ots
 have slor:=OwnR.sl oor
 have sland:=OwnR.sl oand
 have smin:=OwnR.sl ominus
 refine go ?_
 refine WO.con (rSame_ok h14 _ wt ts ts sts mt (by omega)) ?_
 rintro _ _ ⟨rfl,rfl⟩
 rw[decide_eq_true (rfl:ts=ts)]
 refine go ?_
 refine WO.con (rSame_ok h14 _ wor Lor Lor slor kor (by omega)) ?_
 rintro _ _ ⟨rfl,rfl⟩
 rw[decide_eq_true (rfl:Lor=Lor)]
 refine go ?_
 refine WO.con (rSame_ok h14 _ wand Land Land sland kand (by omega)) ?_
 rintro _ _ ⟨rfl,rfl⟩
 rw[decide_eq_true (rfl:Land=Land)]
 refine go ?_
 refine WO.con (rSame_ok h14 _ wminus Lminus Lminus smin kminus (by omega)) ?_
 rintro _ _ ⟨rfl,rfl⟩
 rw[decide_eq_true (rfl:Lminus=Lminus)]
 clear mt kor kand kminus sts slor sland smin
 have n6:=e7.n
 have n8:=e9.n
 have n9:=e10.n
 have n10:=e11.n
 have n11:=e12.n
 have n12:=e13.n
 have n13:=e14.n
 have n7:=e8.n
 refine go ?_
 refine WO.con (spoil_ok h6 h14 _ ts bts E14 (by omega) ots (by omega)) ?_
 rintro _ h15 ⟨E15,m15,f15⟩
 have oor:=mine_keep oor (b':=h7.n) (fun g e=>(sts' g e).2) (by omega) f15 m15
 have oand:=mine_keep oand (b':=h7.n) (fun g e=>(sts' g e).2) (by omega) f15 m15
 have ominus:=mine_keep ominus (b':=h7.n) (fun g e=>(sts' g e).2) (by omega) f15 m15
 refine go ?_
 refine WO.con (spoil_ok h6 h15 _ Lor bor E15 (by omega) oor (by omega)) ?_
 rintro _ h16 ⟨E16,m16,f16⟩
 have oand:=mine_keep oand (b':=h9.n) (fun g e=>(sor g e).2) (by omega) f16 m16
 have ominus:=mine_keep ominus (b':=h9.n) (fun g e=>(sor g e).2) (by omega) f16 m16
 refine go ?_
 refine WO.con (spoil_ok h6 h16 _ Land band E16 (by omega) oand (by omega)) ?_
 rintro _ h17 ⟨E17,m17,f17⟩
 have ominus:=mine_keep ominus (b':=h11.n) (fun g e=>(sand g e).2) (by omega) f17 m17
 refine go ?_
 refine WO.con (spoil_ok h6 h17 _ Lminus bminus E17 (by omega) ominus (by omega)) ?_
 rintro _ h18 ⟨E18,m18,f18⟩
 have kx:=SlW.ext kx E18
 have ky:=SlW.ext ky E18
 have ka:=SlW.ext ka E18
 have kb:=SlW.ext kb E18
 have sk:=SlI.ext sk E18
 have sl:=SlI.ext sl E18
 refine go ?_
 refine WO.con (rSame_ok h18 vx va A A kx ka (by omega)) ?_
 rintro _ _ ⟨rfl,rfl⟩
 rw[decide_eq_true (rfl:A=A)]
 refine go ?_
 refine WO.con (rSame_ok h18 vy vb B B ky kb (by omega)) ?_
 rintro _ _ ⟨rfl,rfl⟩
 rw[decide_eq_true (rfl:B=B)]
 refine go ?_
 refine WO.con (sameIntsB_ok h18 vk vl l l sk sl (by omega)) ?_
 rintro _ _ ⟨rfl,rfl⟩
 rw[decide_eq_true (rfl:l=l)]
 refine go ?_
 refine rt ?_
 rfl
end Go.Proofs.Ytejjibilgmlhdaa
namespace Go.Proofs.Ytejjibilgmlhdaa
open Go.Am
set_option linter.unusedVariables false
set_option linter.unusedSimpArgs false
theorem wf_u64 {n:Int} (h:(Lit.int .u64 n).wf=true):0≤n∧n≤18446744073709551615:=by
 simp[Lit.wf,IntKind.wrap,IntKind.signed,IntKind.bits]at h
 have h1:IntKind.min .u64=0:=by decide
 have h2:IntKind.max .u64=18446744073709551615:=by decide
 omega
theorem wf_i64 {n:Int} (h:(Lit.int .i64 n).wf=true): -9223372036854775808≤n∧n≤9223372036854775807:=by
 simp[Lit.wf,IntKind.wrap,IntKind.signed,IntKind.bits]at h
 have h1:IntKind.min .i64= -9223372036854775808:=by decide
 have h2:IntKind.max .i64=9223372036854775807:=by decide
 omega
theorem lenW2 {l:List Value} (h:l.length=2):∃ a b,l=[a,b]:=by
 match l,h with
 |[a,b],_=>exact⟨a,b,rfl⟩
theorem rd_word0 {H:Type} {h:AHeap} (cs:List Value) (d:DataW H) (r:Rd Try.prog h 41 cs d):∃ a,RW h cs a:=by
 obtain⟨parts,rfl,hl,hp,hr⟩:=rd_struct r Try.underlying41
 have hc:Try.prog.cellsOf 41=2:=by kernel_rfl
 rw[hc]at hl
 obtain⟨x0,x1,rfl⟩:=lenW2 hl
 obtain⟨d0,r0⟩:=hr 0 _ rfl
 have c0:Try.prog.cellsOf 3=1:=by kernel_rfl
 replace r0:Rd Try.prog h 3 (([x0,x1].drop 0).take (Try.prog.cellsOf 3)) d0:=r0
 rw[c0]at r0
 replace r0:Rd Try.prog h 3 [x0] d0:=r0
 obtain⟨d1,r1⟩:=hr 1 _ rfl
 have c1:Try.prog.cellsOf 39=1:=by kernel_rfl
 replace r1:Rd Try.prog h 39 (([x0,x1].drop 1).take (Try.prog.cellsOf 39)) d1:=r1
 rw[c1]at r1
 replace r1:Rd Try.prog h 39 [x1] d1:=r1
 obtain⟨a,e0,f0⟩:=rd_int r0 Try.underlying3
 cases e0
 obtain⟨b,e1,f1⟩:=rd_int r1 Try.underlying39
 cases e1
 have g0:=wf_i64 f0
 have g1:=wf_u64 f1
 obtain⟨m,rfl⟩:∃ m:Nat,b=m:=⟨b.toNat,by omega⟩
 exact⟨⟨a,m⟩,rfl,by simp only;omega,g0.1,g0.2⟩
end Go.Proofs.Ytejjibilgmlhdaa
