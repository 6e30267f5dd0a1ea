/- What functions of the program come to in the abstract machine, and plain laws about it; no statement of the seat is proved in this text. -/
import Derived.Test.YtemggiegiejopaaDoorJd
import Derived.Test.YtemggiegiejopaaDoorJa
import Derived.Test.YtemggiegiejopaaDoorAmE
namespace Go.Proofs.YtemggiegiejopaaDoor
open Go.Am
set_option linter.unusedVariables false
set_option linter.unusedSimpArgs false
set_option maxHeartbeats 4000000
theorem zEa {T:List LType} {F:List LFn} {f par:Int} {L:List LBlk} (O:FnOk T F f L par) {b:Int} (hb:0≤b∧b<(L.length:Int)):zU T F f b=(L,0):=by
 have h1:(YE T F f).2=0:=by unfold YE;rw[O.ask];rfl
 have hL:=O.isL
 unfold zU
 rw[if_neg (by omega),if_neg (by rw[←hL];omega),←hL]
theorem next_of {T:List LType} {F:List LFn} {f par:Int} {L:List LBlk} (O:FnOk T F f L par) {b:Int} (hb:0≤b∧b<(L.length:Int)):ZI T F f b=(nxL L b,0):=by
 unfold ZI;rw[zEa O hb];rfl
theorem preds_of {T:List LType} {F:List LFn} {f par:Int} {L:List LBlk} (O:FnOk T F f L par) {b:Int} (hb:0≤b∧b<(L.length:Int)):zAf T F f b=(ZA L b L.length,0):=by
 unfold zAf;rw[zEa O hb];rfl
theorem zCF {L:List LBlk} {b c:Int}:c∈ZA L b L.length↔0≤c∧c<(L.length:Int)∧b∈nxL L c:=by
 unfold ZA nxL
 rw[List.mem_map]
 constructor
 ·rintro⟨i,hi,rfl⟩
  obtain⟨h1,h2⟩:=List.mem_filter.1 hi
  rw[List.mem_range]at h1
  exact⟨by omega,by omega,by simpa using h2⟩
 ·rintro⟨h0,h1,h2⟩
  exact⟨c.toNat,List.mem_filter.2 ⟨List.mem_range.2 (by omega),by simpa using h2⟩,by omega⟩
theorem zDv (l:List Int) {i:Nat} (h:i<l.length):l.take (i+1)=l.take i++[l.getD i 0]:=by
 rw[List.take_add_one];simp[List.getD,List.getElem?_eq_getElem h]
theorem zJG {l:List Int} {i:Nat} (h:i<l.length):l.getD i 0∈l:=by
 rw[List.getD_eq_getElem?_getD,List.getElem?_eq_getElem h];exact List.getElem_mem h
theorem zGJ {S:ZZ} {P:List LWd→Prop} (h:∀ s∈S,P s) {i:Nat} (hi:i<S.length):P (S.getD i []):=by
 rw[List.getD_eq_getElem?_getD,List.getElem?_eq_getElem hi];exact h _ (List.getElem_mem hi)
theorem zIV {h h':AHeap} {v:Value} {l:List Int} {gm:Nat} (s:SlI h v l) (u:UpdM (.map (some gm)) h h') (hx:∀ a n c,v= .slice (some a) n c→a.block≠gm):SlI h' v l:=by
 refine⟨s.1,s.2.imp id ?_⟩
 rintro⟨g,off,row,rfl,hr,hc,hg⟩
 have:=hx _ _ _ rfl
 refine⟨g,off,row,rfl,?_,hc,Nat.lt_of_lt_of_le hg u.1⟩
 unfold zh at hr ⊢
 rw[u.2 g hg (fun e=>by cases e;exact this rfl)];exact hr
noncomputable def body34_0:ACode:=(.seq (.region [⟨some 36,none,(.bin .lss (.tmp 35) (.tmp 34))⟩]) (.seq (.cond (.tmp 36) .skip (.exit 0)) (.seq (.block 1 (.seq (.region [⟨some 37,none,(.idx 1 (.tmp 33) (.tmp 35))⟩,⟨some 38,none,(.load false 1 (.tmp 37))⟩,⟨some 8,none,(.mov (.tmp 38))⟩]) (.seq (.region [⟨some 40,none,(.mov (.tmp 6))⟩,⟨some 41,none,(.mov (.tmp 0))⟩,⟨some 42,none,(.nilCheck (.tmp 41))⟩,⟨some 43,none,(.fld 3 (.tmp 42))⟩,⟨some 44,none,(.load false 1 (.tmp 43))⟩,⟨some 45,none,(.mov (.tmp 8))⟩,⟨some 46,none,(.idx 1 (.tmp 44) (.tmp 45))⟩,⟨some 47,none,(.load false 1 (.tmp 46))⟩,⟨some 48,none,(.call (.func 42) [(.tmp 40),(.tmp 47)])⟩,⟨some 39,none,(.mov (.tmp 48))⟩,⟨some 49,none,(.extract (.tmp 39) 0)⟩,⟨some 50,none,(.extract (.tmp 39) 1)⟩,⟨some 6,none,(.mov (.tmp 49))⟩]) (.regionC [(⟨some 51,none,(.mov (.tmp 6))⟩,[]),(⟨some 52,none,(.mov (.tmp 0))⟩,[]),(⟨some 53,none,(.nilCheck (.tmp 52))⟩,[]),(⟨some 54,none,(.fld 0 (.tmp 53))⟩,[]),(⟨some 55,none,(.fld 1 (.tmp 54))⟩,[]),(⟨some 56,none,(.load false 1 (.tmp 55))⟩,[]),(⟨some 57,none,(.mov (.tmp 0))⟩,[]),(⟨some 58,none,(.nilCheck (.tmp 57))⟩,[]),(⟨some 59,none,(.fld 2 (.tmp 58))⟩,[]),(⟨some 60,none,(.load false 1 (.tmp 59))⟩,[]),(⟨some 61,none,(.idx 2 (.tmp 56) (.tmp 60))⟩,[]),(⟨some 62,none,(.fld 1 (.tmp 61))⟩,[]),(⟨some 63,none,(.load false 1 (.tmp 62))⟩,[]),(⟨some 64,none,(.mov (.tmp 8))⟩,[]),(⟨some 65,none,(.idx 5 (.tmp 63) (.tmp 64))⟩,[]),(⟨some 66,none,(.load true 5 (.tmp 65))⟩,[]),(⟨some 67,none,(.mov (.tmp 1))⟩,[]),(⟨some 68,none,(.call (.func 43) [(.tmp 66),(.tmp 67)])⟩,[]),(⟨some 69,none,(.call (.func 35) [(.tmp 51),(.tmp 68)])⟩,[]),(⟨some 6,none,(.mov (.tmp 69))⟩,[])])))) (.region [⟨some 70,none,(.bin .add (.tmp 35) (.const (.int .i64 1)))⟩,⟨some 35,none,(.mov (.tmp 70))⟩]))))
noncomputable def body34_1:ACode:=(.seq (.region [⟨some 113,none,(.bin .lss (.tmp 112) (.tmp 111))⟩]) (.seq (.cond (.tmp 113) .skip (.exit 2)) (.seq (.block 3 (.seq (.region [⟨some 114,none,(.idx 1 (.tmp 110) (.tmp 112))⟩,⟨some 115,none,(.load false 1 (.tmp 114))⟩,⟨some 12,none,(.mov (.tmp 115))⟩]) (.region [⟨some 116,none,(.mov (.tmp 0))⟩,⟨some 117,none,(.nilCheck (.tmp 116))⟩,⟨some 118,none,(.fld 5 (.tmp 117))⟩,⟨some 119,none,(.load false 1 (.tmp 118))⟩,⟨some 120,none,(.mov (.tmp 12))⟩,⟨some 121,none,(.mov (.tmp 1))⟩,⟨none,none,(.update (.tmp 119) (.tmp 120) (.tmp 121))⟩]))) (.region [⟨some 122,none,(.bin .add (.tmp 112) (.const (.int .i64 1)))⟩,⟨some 112,none,(.mov (.tmp 122))⟩]))))
noncomputable def body34:ACode:=(.seq (.regionC [(⟨some 14,none,(.mov (.tmp 0))⟩,[]),(⟨some 15,none,(.nilCheck (.tmp 14))⟩,[]),(⟨some 16,none,(.fld 0 (.tmp 15))⟩,[]),(⟨some 17,none,(.load true 2 (.tmp 16))⟩,[]),(⟨some 18,none,(.mov (.tmp 0))⟩,[]),(⟨some 19,none,(.nilCheck (.tmp 18))⟩,[]),(⟨some 20,none,(.fld 2 (.tmp 19))⟩,[]),(⟨some 21,none,(.load false 1 (.tmp 20))⟩,[]),(⟨some 22,none,(.mov (.tmp 1))⟩,[]),(⟨some 23,none,(.call (.func 18) [(.tmp 17),(.tmp 21),(.tmp 22)])⟩,[]),(⟨some 13,none,(.mov (.tmp 23))⟩,[]),(⟨some 24,none,(.extract (.tmp 13) 0)⟩,[]),(⟨some 25,none,(.extract (.tmp 13) 1)⟩,[]),(⟨some 4,none,(.mov (.tmp 24))⟩,[]),(⟨some 5,none,(.mov (.tmp 25))⟩,[])]) (.seq (.region [⟨some 26,none,(.mov (.tmp 0))⟩,⟨some 27,none,(.nilCheck (.tmp 26))⟩,⟨some 28,none,(.fld 4 (.tmp 27))⟩,⟨some 29,none,(.load false 1 (.tmp 28))⟩,⟨some 30,none,(.mov (.tmp 1))⟩,⟨some 31,none,(.idx 1 (.tmp 29) (.tmp 30))⟩,⟨some 32,none,(.load false 1 (.tmp 31))⟩,⟨some 6,none,(.mov (.tmp 32))⟩]) (.seq (.seq (.region [⟨some 33,none,(.mov (.tmp 4))⟩,⟨some 34,none,(.len (.tmp 33))⟩,⟨some 35,none,(.mov (.const (.int .i64 0)))⟩]) (.block 0 (.loop body34_0))) (.seq (.region [⟨some 71,none,(.mov (.tmp 0))⟩,⟨some 72,none,(.nilCheck (.tmp 71))⟩,⟨some 73,none,(.fld 4 (.tmp 72))⟩,⟨some 74,none,(.load false 1 (.tmp 73))⟩,⟨some 75,none,(.mov (.tmp 1))⟩,⟨some 76,none,(.mov (.tmp 6))⟩,⟨some 77,none,(.idx 1 (.tmp 74) (.tmp 75))⟩,⟨none,none,(.store 1 (.tmp 77) (.tmp 76))⟩]) (.seq (.region [⟨some 78,none,(.mov (.tmp 0))⟩,⟨some 79,none,(.mov (.tmp 1))⟩,⟨some 80,none,(.call (.func 24) [(.tmp 78),(.tmp 79),(.const (.int .i64 0))])⟩,⟨some 6,none,(.mov (.tmp 80))⟩]) (.seq (.seq (.region [⟨some 81,none,(.mov (.tmp 6))⟩,⟨some 82,none,(.mov (.tmp 0))⟩,⟨some 83,none,(.nilCheck (.tmp 82))⟩,⟨some 84,none,(.fld 3 (.tmp 83))⟩,⟨some 85,none,(.load false 1 (.tmp 84))⟩,⟨some 86,none,(.mov (.tmp 1))⟩,⟨some 87,none,(.idx 1 (.tmp 85) (.tmp 86))⟩,⟨some 88,none,(.load false 1 (.tmp 87))⟩,⟨some 89,none,(.call (.func 44) [(.tmp 81),(.tmp 88)])⟩]) (.cond (.tmp 89) .ret .skip)) (.seq (.region [⟨some 90,none,(.mov (.tmp 0))⟩,⟨some 91,none,(.nilCheck (.tmp 90))⟩,⟨some 92,none,(.fld 3 (.tmp 91))⟩,⟨some 93,none,(.load false 1 (.tmp 92))⟩,⟨some 94,none,(.mov (.tmp 1))⟩,⟨some 95,none,(.mov (.tmp 6))⟩,⟨some 96,none,(.idx 1 (.tmp 93) (.tmp 94))⟩,⟨none,none,(.store 1 (.tmp 96) (.tmp 95))⟩]) (.seq (.regionC [(⟨some 98,none,(.mov (.tmp 0))⟩,[]),(⟨some 99,none,(.nilCheck (.tmp 98))⟩,[]),(⟨some 100,none,(.fld 0 (.tmp 99))⟩,[]),(⟨some 101,none,(.load true 2 (.tmp 100))⟩,[]),(⟨some 102,none,(.mov (.tmp 0))⟩,[]),(⟨some 103,none,(.nilCheck (.tmp 102))⟩,[]),(⟨some 104,none,(.fld 2 (.tmp 103))⟩,[]),(⟨some 105,none,(.load false 1 (.tmp 104))⟩,[]),(⟨some 106,none,(.mov (.tmp 1))⟩,[]),(⟨some 107,none,(.call (.func 45) [(.tmp 101),(.tmp 105),(.tmp 106)])⟩,[]),(⟨some 97,none,(.mov (.tmp 107))⟩,[]),(⟨some 108,none,(.extract (.tmp 97) 0)⟩,[]),(⟨some 109,none,(.extract (.tmp 97) 1)⟩,[]),(⟨some 9,none,(.mov (.tmp 108))⟩,[]),(⟨some 10,none,(.mov (.tmp 109))⟩,[])]) (.seq (.region [⟨some 110,none,(.mov (.tmp 9))⟩,⟨some 111,none,(.len (.tmp 110))⟩,⟨some 112,none,(.mov (.const (.int .i64 0)))⟩]) (.block 2 (.loop body34_1)))))))))))
set_option maxRecDepth 100000 in
theorem tab34:tb.code 34=some ⟨123,[],body34⟩:=by kernel_rfl
theorem look_ok (hB h:AHeap) (X gp gb ge gm:Nat) (vt vf:Value) (T:List LType) (F:List LFn) (f par:Int) (L:List LBlk) (bg ed:ZZ) (es:List (Int×Int)) (b:Int) (S:FS hB h X gp gb ge gm vt vf f bg ed es) (E:EnvL hB vt vf T F) (O:FnOk T F f L par)
  (U:∀ x∈L,BlkU x (z8 par L) L.length) (hb:0≤b∧b<(L.length:Int)) (lb:bg.length=L.length) (le:ed.length=L.length) (okb:∀ s∈bg,OkW s∧∀ r,InW s r→r<z8 par L) (oke:∀ s∈ed,OkW s∧∀ r,InW s r→r<z8 par L):
  WC Tryd.prog tb 34 [.pointer (some ⟨gp,0,none⟩),I b] h fun _ h'=>∃ s1 s es',FS hB h' X gp gb ge gm vt vf f (bg.set b.toNat s) (ed.set b.toNat s1) es'∧(OkW s1∧∀ r,InW s1 r→r<z8 par L)∧(OkW s∧∀ r,InW s r→r<z8 par L)∧
   (∀ r,InW s1 r↔inS ed b r∨Y1 L (inS bg) b r)∧(∀ r,InW s r↔yv par L b 0 (InW s1) r)∧((s=bg.getD b.toNat []∧es'=es)∨(s≠bg.getD b.toNat []∧(ZK es→ZK es')∧∀ c,c∈es'.map (·.1)↔c∈es.map (·.1)∨c∈ZA L b L.length)):=by
 have hF:=E.sm.funcs
 have hN:0≤z8 par L∧z8 par L≤228:=by
  have:=O.par0;have:=O.parl;have:=O.many;have:=yX L;unfold z8;omega
 have hf0:=O.f0
 have hf1:=O.f1
 have hisL:=O.isL
 have hlen:=O.len
 have hmB:=E.hm
 have hnx:=next_of O hb
 have hpr:=preds_of O hb
 have hUb:=U _ (zN (l:=L) (i:=b.toNat) (by omega))
 have hrange:∀ k∈nxL L b,0≤k∧k<(L.length:Int):=hUb.next
 have hnl:(nxL L b).length≤2:=by unfold nxL YB;split<;>(try split)<;>(try split)<;>simp
 have hpl:=zDE L b L.length
 have hpm:∀ c,c∈ZA L b L.length→0≤c∧c<(L.length:Int):=fun c hc=>let ⟨a,b,_⟩:=zCF.1 hc;⟨a,b⟩
 obtain⟨ta,tn,tk,rfl⟩:=zI E.st
 obtain⟨ga,gn,gk,rfl⟩:=zI E.sf
 have E0:=E.ext S.e
 have o1:=S.own
 refine WC.of (zF 34) tab34 ?_;simp only[zM,Nat.zero_add,Nat.reduceAdd]
 refine go ?_
 refine WX.regionU2 0 rfl rfl ?_
 have oX:OwnC hB (inC (zC 0 h)) (.pointer (some ⟨gp,0,none⟩)) [.slice ta tn tk,.slice ga gn gk,I f,.slice (some ⟨gb,0,none⟩) bg.length 1,.slice (some ⟨ge,0,none⟩) ed.length 1,.map (some gm)]:=o1
 refine goU ?_
 refine WO.con (zH2 (inC (zC 0 h)) _ _ T F f b E0.inC.tt (Nat.le_refl _) E0.sm E0.inC.st E0.inC.sf) ?_
 rintro _ h1 ⟨⟨vn,rfl,sn,_⟩,e1⟩
 rw[hnx]at sn ⊢
 refine WO.nil ?_
 refine ZJ e1 ze ?_
 refine goU ?_
 have e01:Ext h (outC h (inC h1)):=extI e1
 have sn2:SlI (outC h (inC h1)) vn (nxL L b):=sn
 generalize outC h (inC h1)=h2 at e01 sn2 ⊢
 clear sn e1 oX
 have S2:=S.ext e01
 have o2:=S2.own
 have sE2:=S2.ends
 obtain⟨csE,⟨ve,rfl,hfar⟩,pcE,hsE⟩:=yL S2.ends (i:=b.toNat) (by omega)
 obtain⟨ea,en,ek,rfl⟩:=yW hfar.1
 have hed:List.getD ed b.toNat (default:List LWd)=ed.getD b.toNat []:=rfl
 rw[hed]at hfar
 have oed:=zGJ oke (i:=b.toNat) (by omega)
 refine go ?_
 refine WX.loopA [36,37,38,8,40,41,42,43,44,45,46,47,48,39,49,50,6,51,52,53,54,55,56,57,58,59,60,61,62,63,64,65,66,67,68,69,6,70,35] (by kernel_rfl) (fun i=>(nxL L b).length - i) (fun i t h3=>∃ v s,zB t 35=I i∧i≤(nxL L b).length∧Ext h2 h3∧zB t 6=v∧FarW h3 X v s∧Hid (OkW s∧∀ r,InW s r→r<z8 par L)∧Hid (∀ r,InW s r↔inS ed b r∨∃ k∈(nxL L b).take i,inS bg k r∨r∈zAw (L.getD k.toNat default) b)) 0 ?_ ?_
 ·exact⟨_,ed.getD b.toNat [],sl_,Nat.zero_le _,Ext.refl _,sl_,hfar,⟨oed⟩,⟨fun r=>by simp[inS]⟩⟩
 rintro i t h3 hsame ⟨v,s,s35,hi,e3,s6,hv,os,hs⟩
 have S3:=S2.ext e3
 have E3:=E.ext S3.e
 have o3:=S3.own
 have sn3:=SlI.ext sn2 e3
 have hsl:s.length≤228:=by
  have:=Ye (N:=(z8 par L).toNat) os.out.1 fun r q=>by have:=os.out.2 r q;omega
  omega
 obtain⟨wa,wn,wk,rfl⟩:=yW hv.1
 refine go ?_
 refine WX.br (fun hc=> ?_) (fun hc=> ?_)<;>simp only[DB]at hc
 ·have hi':i<(nxL L b).length:=by omega
  have hk:=hrange _ (zJG hi')
  have htk:=zDv (nxL L b) hi'
  have sB3:=S3.begs
  obtain⟨csB,⟨vb,rfl,hfb⟩,pcB,hsB⟩:=yL S3.begs (i:=((nxL L b).getD i 0).toNat) (by omega)
  obtain⟨xa,xn,xk,rfl⟩:=yW hfb.1
  have obk:=zGJ okb (i:=((nxL L b).getD i 0).toNat) (by omega)
  have hbd:List.getD bg ((nxL L b).getD i 0).toNat (default:List LWd)=bg.getD ((nxL L b).getD i 0).toNat []:=rfl
  rw[hbd]at hfb
  have hbl:(bg.getD ((nxL L b).getD i 0).toNat []).length≤228:=by
   have:=Ye (N:=(z8 par L).toNat) obk.1 fun r q=>by have:=obk.2 r q;omega
   omega
  have hUk:=U _ (zN (l:=L) (i:=((nxL L b).getD i 0).toNat) (by omega))
  have hbm:=O.ins _ (zN (l:=L) (i:=((nxL L b).getD i 0).toNat) (by omega))
  have hm3:h3.mark≤h3.n:=E3.hm
  refine go ?_
  refine WO.con (or_ok h3 _ _ s _ hv.1 hfb.1 (by omega) (by omega) hm3) ?_
  rintro _ h4 ⟨⟨v4,rfl,m4⟩,e4⟩
  rw[zDo os.out.1 obk.1]
  rw[zDq os.out.1 obk.1]at m4
  obtain⟨oo,io⟩:=or_is os.out.1 obk.1
  have hlo:=yy (fun a b=>a|||b) s (bg.getD ((nxL L b).getD i 0).toNat [])
  obtain⟨s4,hs4⟩:∃ s4,s4=zi (fun a b=>a|||b) s (bg.getD ((nxL L b).getD i 0).toNat []):=⟨_,rfl⟩
  have hor:∀ r,InW s4 r↔InW s r∨inS bg ((nxL L b).getD i 0) r:=fun r=>by
   rw[hs4,←Zu,io,Bool.or_eq_true,Zu,Zu];exact Iff.rfl
  have oo:OkW s4:=by rw[hs4];exact oo
  rw[←hs4]at m4 hlo
  clear hs4 io
  have k4:=m4.sl
  obtain⟨ya,yn,yk,rfl⟩:=yW k4
  have hX3:=S3.hX
  have hor:=Hid.mk hor
  have hfar4:=m4.far hX3
  clear m4 hfb pcB hsB sB3
  have S4:=S3.ext e4
  have E4:=E.ext S4.e
  have o4:=S4.own
  have sf4:=E4.sf
  refine go ?_
  refine WX.regionU2 0 rfl rfl ?_
  have oX:OwnC hB (inC (zC 0 h4)) (.pointer (some ⟨gp,0,none⟩)) [.slice ta tn tk,.slice ga gn gk,I f,.slice (some ⟨gb,0,none⟩) bg.length 1,.slice (some ⟨ge,0,none⟩) ed.length 1,.map (some gm)]:=o4
  have sfX:SlF (inC (zC 0 h4)) (.slice ga gn gk) F:=sf4
  obtain⟨csF,⟨vbl,rfl,sb,hlb⟩,pcF,hsF⟩:=ZR sf4 (i:=f.toNat) (by omega)
  obtain⟨ba,bn,bk,rfl⟩:=zI sb
  rw[←hisL]at sb
  have sbX:SlB (inC (zC 0 h4)) (.slice ba bn bk) L:=sb
  obtain⟨csK,hcsK,pcK,hsK⟩:=ZR sb (i:=((nxL L b).getD i 0).toNat) (by omega)
  have hcsK0:=hcsK
  have pcFX:=(pcF _ (Ext.refl _)).2
  have pcFX:Piece (inC (zC 0 h4)) (.slice ga gn gk) (f.toNat * 2) [I (F.getD f.toNat default).sig,.slice ba bn bk]:=pcFX
  have pcKX:=(pcK _ (Ext.refl _)).2
  obtain⟨vi,rfl,si,hli⟩:=hcsK0
  obtain⟨ia,iN,ik,rfl⟩:=zI si
  have pcKX:Piece (inC (zC 0 h4)) (.slice ba bn bk) (((nxL L b).getD i 0).toNat * 5) [.slice ia iN ik,.int .u8 (L.getD ((nxL L b).getD i 0).toNat default).fin.kind,I (L.getD ((nxL L b).getD i 0).toNat default).fin.a,I (L.getD ((nxL L b).getD i 0).toNat default).fin.to,I (L.getD ((nxL L b).getD i 0).toNat default).fin.els]:=pcKX
  have hcsX:RBlk (inC (zC 0 h4)) [.slice ia iN ik,.int .u8 (L.getD ((nxL L b).getD i 0).toNat default).fin.kind,I (L.getD ((nxL L b).getD i 0).toNat default).fin.a,I (L.getD ((nxL L b).getD i 0).toNat default).fin.to,I (L.getD ((nxL L b).getD i 0).toNat default).fin.els] (L.getD ((nxL L b).getD i 0).toNat default):=hcsK
  refine goU ?_
  refine WO.con (phis_ok (inC (zC 0 h4)) (L.getD ((nxL L b).getD i 0).toNat default) _ b hcsX hbm (fun x hx=>(hUk.ins x hx).frm) (fun x hx e=>((hUk.ins x hx).phi e).1)) ?_
  rintro vp h5 ⟨op,e5⟩
  refine WO.nil ?_
  refine ZJ e5 ze ?_
  have hpl2:(zAw (L.getD ((nxL L b).getD i 0).toNat default) b).length≤2560:=by
   have:=zD6 (L.getD ((nxL L b).getD i 0).toNat default).ins b fun x hx=>(hUk.ins x hx).frm
   have h2:(zAw (L.getD ((nxL L b).getD i 0).toNat default) b).length≤20 * (L.getD ((nxL L b).getD i 0).toNat default).ins.length:=this
   omega
  have hpr2:∀ r∈zAw (L.getD ((nxL L b).getD i 0).toNat default) b,0≤r∧r<z8 par L:=fun r hr=>phis_in hUk hr
  have k5:SlW (inC h5) (.slice ya yn yk) s4:=by have:=SlW.ext k4 (extI e5);exact this
  have sp5:SlI (inC h5) vp (zAw (L.getD ((nxL L b).getD i 0).toNat default) b):=by have:=op.sl;exact this
  refine goU ?_
  refine WO.con (zFC (inC h5) _ _ s4 (zAw (L.getD ((nxL L b).getD i 0).toNat default) b) k5 sp5 oo (fun n hn=>by have:=hpr2 n hn;omega) (by omega) (by omega) (Nat.le_refl _)) ?_
  rintro v6 h6 ⟨⟨t6,m6,o6,len6,mem6⟩,e6⟩
  refine WO.nil ?_
  refine ZJ e6 ze ?_
  have e46:Ext h4 (outC h4 (inC h6)):=extI2 e5 e6
  have m6:MineW h4 (outC h4 (inC h6)) v6 t6:=mineR m6 (by have:=e5.n;exact this)
  have hX4:=S4.hX
  refine goU ?_
  have hfar6:=m6.far hX4
  generalize outC h4 (inC h6)=h7 at e46 m6 hfar6 ⊢
  refine go ?_
  refine zA (i+1) (by omega) ⟨v6,t6,sln,by omega,e3.trans (e4.trans e46),sl_,hfar6,⟨o6,fun r q=> ?_⟩,⟨fun r=> ?_⟩⟩
  ·rcases(mem6 r).1 q with q|q
   ·rcases(hor.out r).1 q with q|q
    ·exact os.out.2 r q
    ·exact obk.2 r q
   ·exact(hpr2 r q).2
  ·rw[mem6,hor.out,hs.out,htk]
   constructor
   ·rintro(((a|⟨k,hk,q⟩)|c)|d)
    ·exact .inl a
    ·exact .inr ⟨k,List.mem_append.2 (.inl hk),q⟩
    ·exact .inr ⟨_,List.mem_append.2 (.inr (List.mem_singleton.2 rfl)),.inl c⟩
    ·exact .inr ⟨_,List.mem_append.2 (.inr (List.mem_singleton.2 rfl)),.inr d⟩
   ·rintro(a|⟨k,hk,q⟩)
    ·exact .inl (.inl (.inl a))
    ·rcases List.mem_append.1 hk with hk|hk
     ·exact .inl (.inl (.inr ⟨k,hk,q⟩))
     ·rw[List.mem_singleton]at hk
      subst hk
      exact q.elim (fun c=> .inl (.inr c)) .inr
 ·have hil:i=(nxL L b).length:=by omega
  subst hil
  rw[List.take_length]at hs
  have sE3:=S3.ends
  have hsets:∀ x:List LWd,(ed.set b.toNat x).getD b.toNat []=x:=fun x=>by
   rw[List.getD_eq_getElem?_getD,List.getElem?_set_self (by omega)];rfl
  refine go ?_
  refine WO.stRow (i:=b.toNat) S3.se S3.e S3.de S3.hX (by omega) hv ?_
  intro h4 e4 r4 n4 k4
  have S4:=S3.setE e4 r4 (by rw[List.length_set]) (by omega) k4
  have E4:=E.ext e4
  have hE:inS (ed.set b.toNat s) b=InW s:=by funext r;unfold inS;rw[hsets]
  have hat:WC Tryd.prog tb 24 [.pointer (some ⟨gp,0,none⟩),I b,I 0] h4 _:=zEP hB h4 X gp gb ge gm _ _ T F f par L bg (ed.set b.toNat s) es b 0 S4 E4 O U hb (Nat.zero_le _) (by rw[List.length_set];exact le) (by rw[hsets,hE];exact os.out)
  refine go ?_
  refine WO.con hat ?_
  rintro v5 h5 ⟨⟨t5,m5,o5,mem5⟩,e5⟩
  rw[hE]at mem5
  clear hat
  have S5:=S4.ext e5
  have E5:=E4.ext e5
  have k5:=m5.sl
  have hX4:=S4.hX
  have far5:=m5.far hX4
  obtain⟨ya,yn,yk,rfl⟩:=yW k5
  have o5p:=S5.own
  have sB5:=S5.begs
  obtain⟨csB,⟨vb,rfl,hfb⟩,pcB,hsB⟩:=yL S5.begs (i:=b.toNat) (by omega)
  obtain⟨xa,xn,xk,rfl⟩:=yW hfb.1
  have hbd:List.getD bg b.toNat (default:List LWd)=bg.getD b.toNat []:=rfl
  rw[hbd]at hfb
  have hlt:∀ r,InW t5 r→r<z8 par L:=fun r q=>by
   have q:=(mem5 r).1 q
   unfold yv at q
   exact(zB1 (fun x hx=>(hUb.ins x (List.mem_of_mem_drop hx)).uses) (fun r q=>q.elim (fun q=>hUb.ends r q) fun q=>⟨(InW.range os.out.1 q).1,os.out.2 r q⟩) q).2
  have ht5:t5.length≤228:=by
   have:=Ye (N:=(z8 par L).toNat) o5 fun r q=>by have:=hlt r q;omega
   omega
  have mem5:=Hid.mk mem5
  have hlt:=Hid.mk hlt
  have hs':Hid (∀ r,InW s r↔inS ed b r∨Y1 L (inS bg) b r):=⟨hs.out⟩
  refine go ?_
  refine WO.con (same_ok h5 _ _ t5 (bg.getD b.toNat []) k5 hfb.1 (by omega)) ?_
  rintro _ _ ⟨rfl,rfl⟩
  by_cases heq:t5=bg.getD b.toNat []
  ·rw[decide_eq_true heq]
   refine go ?_
   refine rt ?_
   refine⟨s,t5,es,?_,os.out,⟨o5,hlt.out⟩,hs'.out,mem5.out,.inl ⟨heq,rfl⟩⟩
   have hself:bg.set b.toNat t5=bg:=by
    rw[heq,List.getD_eq_getElem?_getD,List.getElem?_eq_getElem (show b.toNat<bg.length by omega)]
    exact List.set_getElem_self _
   rw[hself];exact S5
  ·rw[decide_eq_false heq]
   refine go ?_
   refine WO.stRow (i:=b.toNat) S5.sb S5.e S5.db S5.hX (by omega) far5 ?_
   intro h6 e6 r6 n6 k6
   have S6:=S5.setB e6 r6 (by rw[List.length_set]) (by omega) k6
   have E6:=E.ext e6
   have o6p:=S6.own
   clear sB5 pcB hfb hsB far5 k5 o5p S5 S4 S3 sE3
   refine go ?_
   refine WX.regionU2 0 rfl rfl ?_
   have oX:OwnC hB (inC (zC 0 h6)) (.pointer (some ⟨gp,0,none⟩)) [.slice ta tn tk,.slice ga gn gk,I f,.slice (some ⟨gb,0,none⟩) (bg.set b.toNat t5).length 1,.slice (some ⟨ge,0,none⟩) (ed.set b.toNat s).length 1,.map (some gm)]:=o6p
   refine goU ?_
   refine WO.con (Preds_ok (inC (zC 0 h6)) _ _ T F f b E6.inC.tt (Nat.le_refl _) E6.sm E6.inC.st E6.inC.sf) ?_
   rintro _ h7 ⟨⟨vp,rfl,op⟩,e7⟩
   rw[hpr]at op ⊢
   refine WO.nil ?_
   refine ZJ e7 ze ?_
   refine goU ?_
   have e67:Ext h6 (outC h6 (inC h7)):=extI e7
   have sp:SlI (outC h6 (inC h7)) vp (ZA L b L.length):=by have:=op.sl;exact this
   have hpX:∀ a n c,vp= .slice (some a) n c→a.block≠gm:=fun a n c e=>by
    rcases op with ⟨q,_⟩|⟨q,q1,q2,q3,q4⟩
    ·rw[q]at e;cases e
    ·rw[q3]at e;cases e
     have h1:h6.n≤q:=q1
     have:=S6.hX
     have:=S6.dm.2
     show q≠gm
     omega
   generalize outC h6 (inC h7)=h8 at e67 sp ⊢
   have S8:=S6.ext e67
   have hpl16:(ZA L b L.length).length≤16:=by omega
   generalize hA:ZA L b L.length=A at *
   refine go ?_
   refine WX.loopA [113,114,115,12,116,117,118,119,120,121,122,112] (by kernel_rfl) (fun i=>A.length - i) (fun i t h9=>∃ es',zB t 112=I i∧i≤A.length∧FS hB h9 X gp gb ge gm (.slice ta tn tk) (.slice ga gn gk) f (bg.set b.toNat t5) (ed.set b.toNat s) es'∧SlI h9 vp A∧Hid ((ZK es→ZK es')∧∀ c,c∈es'.map (·.1)↔c∈es.map (·.1)∨c∈A.take i)) 0 ?_ ?_
   ·exact⟨es,sl_,Nat.zero_le _,S8,sp,⟨id,fun c=>by simp⟩⟩
   rintro i t9 h9 hsame9 ⟨es',s112,hi9,S9,sp9,hK⟩
   have o9:=S9.own
   refine go ?_
   refine WX.br (fun hc9=> ?_) (fun hc9=> ?_)<;>simp only[DB]at hc9
   ·have hi':i<A.length:=by omega
    have htk:=zDv A hi'
    refine go ?_
    refine WO.upM S9.rm S9.e ?_
    intro h10 e10 o10 u10
    have S10:=S9.setM e10 o10 u10
    have sp10:=zIV sp9 u10 hpX
    refine go ?_
    refine zA (i+1) (by omega) ⟨_,sln,by omega,S10,sp10,⟨fun q=>zCT (hK.out.1 q),fun c=> ?_⟩⟩
    rw[zCH,hK.out.2,htk,List.mem_append,List.mem_singleton]
    constructor
    ·rintro(a|a|a)
     ·exact .inr (.inr a)
     ·exact .inl a
     ·exact .inr (.inl a)
    ·rintro(a|a|a)
     ·exact .inr (.inl a)
     ·exact .inr (.inr a)
     ·exact .inl a
   ·refine go ?_
    refine rtN ?_
    rw[show i=A.length by omega,List.take_length]at hK
    exact⟨s,t5,es',S9,os.out,⟨o5,hlt.out⟩,hs'.out,mem5.out,.inr ⟨heq,hK.out.1,hK.out.2⟩⟩
end Go.Proofs.YtemggiegiejopaaDoor
namespace Go.Proofs.YtemggiegiejopaaDoor
open Go.Am
set_option linter.unusedVariables false
set_option linter.unusedSimpArgs false
set_option maxHeartbeats 4000000
theorem zGi (v:Value):∀ n,zx [v] n=List.replicate n v
 |0=>rfl
 |n+1=>by rw[zx,zGi v n];rfl
theorem keys_nil {es:List (Int×Int)} (h:∀ c,c∉es.map (·.1)):es=[]:=by
 cases es with
 |nil=>rfl
 |cons e es=>exact absurd (List.mem_map.2 ⟨e,List.mem_cons_self ..,rfl⟩) (h e.1)
noncomputable def body23_0:ACode:=(.seq (.region [⟨some 32,none,(.bin .lss (.tmp 31) (.tmp 30))⟩]) (.seq (.cond (.tmp 32) .skip (.exit 0)) (.seq (.block 1 (.seq (.region [⟨some 33,none,(.mov (.tmp 31))⟩,⟨some 8,none,(.mov (.tmp 33))⟩]) (.region [⟨some 34,none,(.mov (.tmp 6))⟩,⟨some 35,none,(.nilCheck (.tmp 34))⟩,⟨some 36,none,(.fld 5 (.tmp 35))⟩,⟨some 37,none,(.load false 1 (.tmp 36))⟩,⟨some 38,none,(.mov (.tmp 8))⟩,⟨some 39,none,(.mov (.tmp 8))⟩,⟨none,none,(.update (.tmp 37) (.tmp 38) (.tmp 39))⟩]))) (.region [⟨some 40,none,(.bin .add (.tmp 31) (.const (.int .i64 1)))⟩,⟨some 31,none,(.mov (.tmp 40))⟩]))))
noncomputable def body23_1:ACode:=(.seq (.region [⟨some 49,none,(.bin .lss (.tmp 48) (.tmp 47))⟩]) (.seq (.cond (.tmp 49) .skip (.exit 4)) (.seq (.block 5 (.seq (.region [⟨some 50,none,(.mov (.tmp 48))⟩,⟨some 9,none,(.mov (.tmp 50))⟩]) (.seq (.region [⟨some 52,none,(.mov (.tmp 6))⟩,⟨some 53,none,(.nilCheck (.tmp 52))⟩,⟨some 54,none,(.fld 5 (.tmp 53))⟩,⟨some 55,none,(.load false 1 (.tmp 54))⟩,⟨some 56,none,(.mov (.tmp 9))⟩,⟨some 57,none,(.lookup true (.int .i64 0) (.tmp 55) (.tmp 56))⟩,⟨some 51,none,(.mov (.tmp 57))⟩,⟨some 58,none,(.extract (.tmp 51) 0)⟩,⟨some 59,none,(.extract (.tmp 51) 1)⟩,⟨some 10,none,(.mov (.tmp 58))⟩,⟨some 11,none,(.mov (.tmp 59))⟩]) (.seq (.region [⟨some 60,none,(.mov (.tmp 11))⟩]) (.cond (.tmp 60) (.seq (.region [⟨some 61,none,(.mov (.tmp 6))⟩,⟨some 62,none,(.nilCheck (.tmp 61))⟩,⟨some 63,none,(.fld 5 (.tmp 62))⟩,⟨some 64,none,(.load false 1 (.tmp 63))⟩,⟨some 65,none,(.mov (.tmp 9))⟩,⟨none,none,(.delete (.tmp 64) (.tmp 65))⟩]) (.region [⟨some 66,none,(.mov (.tmp 7))⟩,⟨some 67,none,(.mov (.tmp 9))⟩,⟨some 68,none,(.call (.tmp 66) [(.tmp 67)])⟩])) .skip))))) (.region [⟨some 69,none,(.bin .add (.tmp 48) (.const (.int .i64 1)))⟩,⟨some 48,none,(.mov (.tmp 69))⟩]))))
noncomputable def body23_2:ACode:=(.seq (.seq (.region [⟨some 41,none,(.mov (.tmp 6))⟩,⟨some 42,none,(.nilCheck (.tmp 41))⟩,⟨some 43,none,(.fld 5 (.tmp 42))⟩,⟨some 44,none,(.load false 1 (.tmp 43))⟩,⟨some 45,none,(.lenMap (.tmp 44))⟩,⟨some 46,none,(.bin .gtr (.tmp 45) (.const (.int .i64 0)))⟩]) (.cond (.tmp 46) .skip (.exit 2))) (.block 3 (.seq (.region [⟨some 47,none,(.mov (.tmp 5))⟩,⟨some 48,none,(.mov (.const (.int .i64 0)))⟩]) (.block 4 (.loop body23_1)))))
noncomputable def body23:ACode:=(.seq (.region [⟨some 2,none,(.box (.tmp 0))⟩,⟨some 4,none,(.mov (.const (.pointer none)))⟩]) (.seq (.region [⟨some 12,none,(.fld 1 (.tmp 2))⟩,⟨some 13,none,(.load false 1 (.tmp 12))⟩,⟨some 14,none,(.mov (.tmp 1))⟩,⟨some 15,none,(.idx 2 (.tmp 13) (.tmp 14))⟩,⟨some 16,none,(.fld 1 (.tmp 15))⟩,⟨some 17,none,(.load false 1 (.tmp 16))⟩,⟨some 18,none,(.len (.tmp 17))⟩,⟨some 5,none,(.mov (.tmp 18))⟩]) (.seq (.regionC [(⟨some 19,none,(.load true 2 (.tmp 2))⟩,[]),(⟨some 20,none,(.mov (.tmp 1))⟩,[]),(⟨some 21,none,(.mov (.tmp 5))⟩,[]),(⟨some 22,none,(.mkSlice 1 [(.slice none 0 0)] (.tmp 21) (.tmp 21))⟩,[]),(⟨some 23,none,(.mov (.tmp 5))⟩,[]),(⟨some 24,none,(.mkSlice 1 [(.slice none 0 0)] (.tmp 23) (.tmp 23))⟩,[]),(⟨some 25,none,.mkMap⟩,[]),(⟨some 26,none,(.build [(.slice none 0 0),(.slice none 0 0),(.int .i64 0),(.slice none 0 0),(.slice none 0 0),(.map none)] [(0,2,(.tmp 19)),(2,1,(.tmp 20)),(3,1,(.tmp 22)),(4,1,(.tmp 24)),(5,1,(.tmp 25))])⟩,[]),(⟨some 27,none,(.box (.tmp 26))⟩,[]),(⟨some 6,none,(.mov (.tmp 27))⟩,[])]) (.seq (.region [⟨some 28,none,(.mov (.tmp 6))⟩,⟨some 29,none,(.mkFunc (.func 34) [(.tmp 28)] [])⟩,⟨some 7,none,(.mov (.tmp 29))⟩]) (.seq (.seq (.region [⟨some 30,none,(.mov (.tmp 5))⟩,⟨some 31,none,(.mov (.const (.int .i64 0)))⟩]) (.block 0 (.loop body23_0))) (.seq (.block 2 (.loop body23_2)) (.seq (.region [⟨some 70,none,(.mov (.tmp 6))⟩,⟨some 71,none,(.nilCheck (.tmp 70))⟩,⟨some 72,none,(.fld 5 (.tmp 71))⟩,⟨some 73,none,(.load false 1 (.tmp 72))⟩,⟨none,none,(.clear (.tmp 73))⟩]) (.seq (.region [⟨some 74,none,(.mov (.tmp 6))⟩,⟨some 4,none,(.mov (.tmp 74))⟩]) .ret))))))))
set_option maxRecDepth 100000 in
theorem tab23:tb.code 23=some ⟨75,[(4,none)],body23⟩:=by kernel_rfl
theorem zEu (h:AHeap) (vt vf:Value) (T:List LType) (F:List LFn) (f par:Int) (L:List LBlk) (E:EnvL h vt vf T F) (O:FnOk T F f L par) (U:∀ x∈L,BlkU x (z8 par L) L.length):
  WC Tryd.prog tb 23 [.agg #[vt,vf],I f] h fun r h'=>∃ X gp gb ge gm bg ed,r= .pointer (some ⟨gp,0,none⟩)∧FS h h' X gp gb ge gm vt vf f bg ed []∧LFix par L (inS bg) (inS ed)∧bg.length=L.length∧ed.length=L.length∧(∀ s∈bg,OkW s∧∀ r,InW s r→r<z8 par L)∧(∀ s∈ed,OkW s∧∀ r,InW s r→r<z8 par L):=by
 have hF:=E.sm.funcs
 have hN:0≤z8 par L∧z8 par L≤228:=by
  have:=O.par0;have:=O.parl;have:=O.many;have:=yX L;unfold z8;omega
 have hf0:=O.f0
 have hf1:=O.f1
 have hisL:=O.isL
 have hlen:=O.len
 have hm:=E.hm
 obtain⟨ta,tn,tk,rfl⟩:=zI E.st
 obtain⟨ga,gn,gk,rfl⟩:=zI E.sf
 refine WC.of (zF 23) tab23 ?_;simp only[zM,Nat.zero_add,Nat.reduceAdd]
 refine go ?_
 refine WO.bx ?_
 intro p2 h1 e1 o2
 have E1:=E.ext e1
 have sf1:=E1.sf
 obtain⟨csF,⟨vb,rfl,sb,hlb⟩,pcF,hsF⟩:=yL (i:=f.toNat) sf1 (by omega)
 obtain⟨ba,bn,bk,rfl⟩:=zI sb
 rw[←hisL]at sb
 refine go ?_
 refine WX.regionU2 4 rfl rfl ?_
 have eA:Ext h1 (zC 4 h1):=zCM 4 h1
 have oX:=o2.ext eA
 have oX:OwnC h (inC (zC 4 h1)) p2 [.slice ta tn tk,.slice ga gn gk]:=oX
 have hm1:h1.mark≤h1.n:=E1.hm
 refine goU ?_
 refine WU2.mkSl (n:=L.length) hm1 (by omega) ?_
 intro X1 n1 g1
 refine goU ?_
 refine WU2.mkSl (n:=L.length) (by omega) (by omega) ?_
 intro X2 n2 g2
 refine WU2.mkMp (by omega) ?_
 intro X3 n3 g3
 refine goU ?_
 refine WU2.mkBx (cs:=[.slice ta tn tk,.slice ga gn gk,I f,.slice (some ⟨h1.n,0,none⟩) L.length 1,.slice (some ⟨h1.n+1,0,none⟩) L.length 1,.map (some (h1.n+1+1))]) (by omega) ?_
 intro X4 n4 g4
 refine goU ?_
 have hn4:X4.n=h1.n+4:=by rw[n4,n3,n2,n1];rfl
 have gall:∀ j,X4.get j=if j=h1.n+3 then some (.row [.slice ta tn tk,.slice ga gn gk,I f,.slice (some ⟨h1.n,0,none⟩) L.length 1,.slice (some ⟨h1.n+1,0,none⟩) L.length 1,.map (some (h1.n+2))] true 0) else if j=h1.n+2 then some (.map [] 0) else if j=h1.n+1 then some (.row (List.replicate L.length (.slice none 0 0)) true 0) else if j=h1.n then some (.row (List.replicate L.length (.slice none 0 0)) true 0) else h1.get j:=fun j=>by
  rw[g4,g3,g2,g1,zGi];rfl
 have eH:Ext h1 (outC h1 (inC X4)):=⟨by show h1.n≤X4.n;omega,fun j hj=>by show X4.get j=_;rw[gall,if_neg (by omega),if_neg (by omega),if_neg (by omega),if_neg (by omega)],fun w j hj=>by
  have hj:X4.n≤j:=hj
  show X4.get j=_
  rw[gall,if_neg (by omega),if_neg (by omega),if_neg (by omega),if_neg (by omega)];exact w j (by omega),rfl,fun _=>rfl⟩
 have hrow:∀ H:AHeap,RowS H (h1.n+4) (h1.n) (List.replicate L.length [])→True:=fun _ _=>trivial
 have hfn:∀ (H:AHeap) (g:Nat),H.get g=some (.row (List.replicate L.length (.slice none 0 0)) true 0)→RowS H (h1.n+4) g (List.replicate L.length []):=fun H g hg=>⟨_,hg,by simp,fun i hi=>by
  rw[List.length_replicate]at hi
  rw[List.getD_eq_getElem?_getD,List.getElem?_replicate,if_pos hi,List.getD_eq_getElem?_getD,List.getElem?_replicate,if_pos hi]
  exact FarW.nil⟩
 have S0:FS h (outC h1 (inC X4)) (h1.n+4) (h1.n+3) h1.n (h1.n+1) (h1.n+2) (.slice ta tn tk) (.slice ga gn gk) f (List.replicate L.length []) (List.replicate L.length []) []:=by
  have hh:=e1.n
  refine⟨e1.trans eH,by show h1.n+4≤X4.n;omega,⟨by omega,by omega⟩,⟨by omega,by omega⟩,⟨by omega,by omega⟩,⟨by omega,by omega⟩,⟨by omega,by omega,by omega,by omega,by omega,by omega⟩,?_,hfn _ _ ?_,hfn _ _ ?_,⟨h1.n+2,0,[],by omega,by show h1.n+2<X4.n;omega,rfl,?_,rfl⟩⟩
  ·show X4.get _=_;rw[gall,if_pos rfl,List.length_replicate]
  ·show X4.get _=_;rw[gall,if_neg (by omega),if_neg (by omega),if_neg (by omega),if_pos rfl]
  ·show X4.get _=_;rw[gall,if_neg (by omega),if_neg (by omega),if_pos rfl]
  ·show X4.get _=_;rw[gall,if_neg (by omega),if_pos rfl]
 clear gall g1 g2 g3 g4 n1 n2 n3 n4 hfn hrow hn4 oX eA
 have w0:=WInv.start par L (z8 par L) (K:=fun c=>0≤c∧c<(L.length:Int)) (fun b h1 h2=>⟨h1,h2⟩)
 generalize hX:h1.n+4=X at S0
 generalize hgp:h1.n+3=gp at S0 ⊢
 generalize hgb:h1.n=gb at S0
 generalize hge:gb+1=ge at S0
 generalize hgm:gb+2=gm at S0
 generalize outC h1 (inC X4)=h2 at S0 ⊢
 have hVs:∀ es:List (Int×Int),OwnM h h2 (.map (some gm)) es→True:=fun _ _=>trivial
 clear hVs hX hgp hgb hge hgm eH
 have o3:=S0.own
 refine go ?_
 refine WX.loopA [32,33,8,34,35,36,37,38,39,40,31] (by kernel_rfl) (fun i=>L.length - i) (fun i t h3=>∃ es,zB t 31=I i∧i≤L.length∧FS h h3 X gp gb ge gm (.slice ta tn tk) (.slice ga gn gk) f (List.replicate L.length []) (List.replicate L.length []) es∧Hid (ZK es∧∀ c,c∈es.map (·.1)↔0≤c∧c<(i:Int))) 0 ?_ ?_
 ·exact⟨[],sl_,Nat.zero_le _,S0,⟨by unfold ZK;simp,fun c=>by simp⟩⟩
 clear S0 o3
 rintro i t h3 hsame ⟨es,s31,hi,S,hK⟩
 have o3:=S.own
 refine go ?_
 refine WX.br (fun hc=> ?_) (fun hc=> ?_)<;>simp only[DB]at hc
 ·refine go ?_
  refine WO.upM S.rm S.e ?_
  intro h4 e4 o4 u4
  have S4:=S.setM e4 o4 u4
  refine go ?_
  refine zA (i+1) (by omega) ⟨_,sln,by omega,S4,⟨zCT hK.out.1,fun c=> ?_⟩⟩
  rw[zCH,hK.out.2]
  omega
 have hil:i=L.length:=by omega
 subst hil
 have w1:WInv par L (z8 par L) (List.replicate L.length []) (List.replicate L.length []) (fun c=>c∈es.map (·.1)):=WInv.start par L (z8 par L) (fun c h1 h2=>(hK.out.2 c).2 ⟨h1,h2⟩)
 have hkr:∀ c∈es.map (·.1),0≤c∧c<(L.length:Int):=fun c hc=>(hK.out.2 c).1 hc
 have hnxr:∀ c,0≤c→c<(L.length:Int)→∀ k∈nxL L c,0≤k∧k<(L.length:Int):=fun c h1 h2=>(U _ (zN (l:=L) (i:=c.toNat) (by omega))).next
 have hnxr:=Hid.mk hnxr
 have w1:=Hid.mk w1
 have hK1:=Hid.mk (And.intro hK.out.1 hkr)
 clear hK hkr w0
 refine go ?_
 refine WX.loopA [41,42,43,44,45,46,47,48,49,50,9,52,53,54,55,56,57,51,58,59,10,11,60,61,62,63,64,65,66,67,68,69,48] (by kernel_rfl) (fun x:ZZ×ZZ×List (Int×Int)=>2 * (L.length * (z8 par L).toNat - Zv x.1)+(if x.2.2.length=0 then 0 else 1)) (fun x t h4=>FS h h4 X gp gb ge gm (.slice ta tn tk) (.slice ga gn gk) f x.1 x.2.1 x.2.2∧Hid (ZK x.2.2∧∀ c∈x.2.2.map (·.1),0≤c∧c<(L.length:Int))∧Hid (WInv par L (z8 par L) x.1 x.2.1 (fun c=>c∈x.2.2.map (·.1)))) (List.replicate L.length [],List.replicate L.length [],es) ?_ ?_
 ·exact⟨S,hK1,w1⟩
 clear S hK1 w1 o3
 rintro⟨bg0,ed0,es0⟩ t4 h4 hsame4 ⟨S,hK,hW⟩
 simp only at S hK hW
 have o4:=S.own
 refine go ?_
 refine WO.lnM S.rm ?_
 refine go ?_
 refine WX.br (fun hc=> ?_) (fun hc=> ?_)<;>simp only[DB]at hc
 ·refine go ?_
  refine WX.loopA [49,50,9,52,53,54,55,56,57,51,58,59,10,11,60,61,62,63,64,65,66,67,68,69,48] (by kernel_rfl) (fun i=>L.length - i) (fun i t h5=>∃ bg ed es,zB t 48=I i∧i≤L.length∧FS h h5 X gp gb ge gm (.slice ta tn tk) (.slice ga gn gk) f bg ed es∧Hid (ZK es∧∀ c∈es.map (·.1),0≤c∧c<(L.length:Int))∧Hid (WInv par L (z8 par L) bg ed (fun c=>c∈es.map (·.1)))∧Hid (Zv bg0<Zv bg∨(Zv bg0=Zv bg∧∀ c∈es.map (·.1),(i:Int)≤c))) 0 ?_ ?_
  ·exact⟨bg0,ed0,es0,sl_,Nat.zero_le _,S,hK,hW,⟨.inr ⟨rfl,fun c hc=>(hK.out.2 c hc).1⟩⟩⟩
  have hc0:es0.length≠0:=by omega
  clear S o4 hK
  rintro i t5 h5 hsame5 ⟨bg,ed,es,s48,hi,S,hK,hW5,hM⟩
  have o5:=S.own
  refine go ?_
  refine WX.br (fun hc5=> ?_) (fun hc5=> ?_)<;>simp only[DB]at hc5
  ·refine go ?_
   refine WO.lkM S.rm ?_
   by_cases hin:(i:Int)∈es.map (·.1)
   ·obtain⟨w,hw⟩:∃ w,es.lookup (i:Int)=some w:=by
     cases hl:es.lookup (i:Int)with
     |none=>exact absurd hl (look_mem.2 hin)
     |some w=>exact⟨w,rfl⟩
    rw[hw]
    refine go ?_
    refine WO.dlM S.rm S.e ?_
    intro h6 e6 o6 u6
    have S6:=S.setM e6 o6 u6
    have hlb:=hW5.out.lb
    have hle:=hW5.out.le
    have hob:=hW5.out.okb
    have hoe:=hW5.out.oke
    refine go ?_
    refine WO.conV (WV.func (look_ok h h6 X gp gb ge gm _ _ T F f par L bg ed (zAu i es) i S6 E O U ⟨by omega,by omega⟩ hlb hle hob hoe)) ?_
    rintro _ h7 ⟨s1,s,es',S7,k1,k2,m1,m2,hcase⟩
    refine go ?_
    have hdk:∀ c,c∈(zAu (i:Int) es).map (·.1)↔c≠(i:Int)∧c∈es.map (·.1):=fun c=>zCC hK.out.1
    have hdo:ZK (zAu (i:Int) es):=zEo hK.out.1
    have hi0:(0:Int)≤i:=by omega
    have hi1:(i:Int)<(L.length:Int):=by omega
    have hsz:=zEj (bg:=bg) (i:=(i:Int).toNat) (s:=s) (by omega)
    have hW7:WInv par L (z8 par L) (bg.set (i:Int).toNat s) (ed.set (i:Int).toNat s1) (fun c=>c∈es'.map (·.1)):=by
     refine hW5.out.look hi0 hi1 hnxr.out k1 k2 m1 m2 fun c hc1 hc2 hnk=> ?_
     rcases hcase with ⟨q1,q2⟩|⟨q1,q2,q3⟩
     ·subst q2
      refine⟨?_,.inl q1⟩
      by_cases e:c=i
      ·exact .inl e
      ·exact .inr fun hm=>hnk ((hdk c).2 ⟨e,hm⟩)
     ·refine⟨?_,.inr fun hm=>hnk ((q3 c).2 (.inr (zCF.2 ⟨hc1,hc2,hm⟩)))⟩
      by_cases e:c=i
      ·exact .inl e
      ·exact .inr fun hm=>hnk ((q3 c).2 (.inl ((hdk c).2 ⟨e,hm⟩)))
    have hK7:ZK es'∧∀ c∈es'.map (·.1),0≤c∧c<(L.length:Int):=by
     rcases hcase with ⟨q1,q2⟩|⟨q1,q2,q3⟩
     ·subst q2
      exact⟨hdo,fun c hc=>hK.out.2 c ((hdk c).1 hc).2⟩
     ·exact⟨q2 hdo,fun c hc=>((q3 c).1 hc).elim (fun hc=>hK.out.2 c ((hdk c).1 hc).2) fun hc=>let ⟨a,b,_⟩:=zCF.1 hc;⟨a,b⟩⟩
    have hM7:Zv bg0<Zv (bg.set (i:Int).toNat s)∨(Zv bg0=Zv (bg.set (i:Int).toNat s)∧∀ c∈es'.map (·.1),((i+1:Nat):Int)≤c):=by
     rcases hcase with ⟨q1,q2⟩|⟨q1,q2,q3⟩
     ·rw[q1]at hsz
      have hsz2:Zv (bg.set (i:Int).toNat s)=Zv bg:=by rw[q1];omega
      rw[hsz2]
      rcases hM.out with r|⟨r1,r2⟩
      ·exact .inl r
      ·refine .inr ⟨r1,fun c hc=> ?_⟩
       subst q2
       obtain⟨a,b⟩:=(hdk c).1 hc
       have:=r2 c b;omega
     ·left
      have hob':=zGJ hob (i:=(i:Int).toNat) (by omega)
      have hmore:=zId (s:=bg.getD (i:Int).toNat []) (t:=s) hob'.1 k2.1 (fun r q=>(m2 r).2 (yR (fun r q=>(m1 r).2 (.inl q)) (hW5.out.sub i r hi0 hi1 q))) q1
      rcases hM.out with r|⟨r1,_⟩<;>omega
    exact zA (i+1) (by omega) ⟨_,_,es',sln,by omega,S7,⟨hK7⟩,⟨hW7⟩,⟨hM7⟩⟩
   ·have hw:es.lookup (i:Int)=none:=by
     cases hl:es.lookup (i:Int)with
     |none=>rfl
     |some w=>exact absurd (look_mem.1 (by rw[hl];simp)) hin
    rw[hw]
    refine go ?_
    refine zA (i+1) (by omega) ⟨bg,ed,es,sln,by omega,S,hK,hW5,⟨?_⟩⟩
    rcases hM.out with r|⟨r1,r2⟩
    ·exact .inl r
    ·refine .inr ⟨r1,fun c hc=> ?_⟩
     have:=r2 c hc
     have:c≠i:=fun e=>hin (e▸hc)
     omega
  ·have hiL:i=L.length:=by omega
   subst hiL
   refine go ?_
   have hup:=zF9 (N:=(z8 par L).toNat) fun s hs=>⟨(hW5.out.okb s hs).1,fun r q=>by have:=(hW5.out.okb s hs).2 r q;omega⟩
   rw[hW5.out.lb]at hup
   refine zA (bg,ed,es) ?_ ⟨S,hK,hW5⟩
   simp only
   rw[if_neg hc0]
   rcases hM.out with r|⟨r1,r2⟩
   ·split<;>omega
   ·have hes:es=[]:=keys_nil fun c hc=>by
     have h1:=r2 c hc
     have h2:=(hK.out.2 c hc).2
     omega
    subst hes
    rw[if_pos (show ([]:List (Int×Int)).length=0 from rfl),r1];omega
 ·have hes:es0=[]:=List.eq_nil_of_length_eq_zero (by omega)
  subst hes
  refine go ?_
  refine WO.clM S.rm S.e ?_
  intro h6 e6 o6 u6
  have S6:=S.setM e6 o6 u6
  refine go ?_
  refine rt ?_
  exact⟨X,gp,gb,ge,gm,bg0,ed0,rfl,S6,hW.out.fix (fun b _ _ hb=>by cases hb),hW.out.lb,hW.out.le,hW.out.okb,hW.out.oke⟩
end Go.Proofs.YtemggiegiejopaaDoor
namespace Go.Proofs.YtemggiegiejopaaDoor
open Go.Am
set_option linter.unusedVariables false
set_option linter.unusedSimpArgs false
set_option maxHeartbeats 4000000
def LB (par:Int) (L:List LBlk) (b r:Int):Prop:=∀ B E,Clo par L B E→B b r
def LE (par:Int) (L:List LBlk) (b r:Int):Prop:=∀ B E,Clo par L B E→E b r
theorem LFix.isB {par L B E} (h:LFix par L B E) {b r:Int} (h1:0≤b) (h2:b<(L.length:Int)):B b r↔LB par L b r:=⟨fun q B' E' k=>(h.least B' E' k b r h1 h2).1 q,fun q=>q B E h.clo⟩
theorem LFix.isE {par L B E} (h:LFix par L B E) {b r:Int} (h1:0≤b) (h2:b<(L.length:Int)):E b r↔LE par L b r:=⟨fun q B' E' k=>(h.least B' E' k b r h1 h2).2 q,fun q=>q B E h.clo⟩
theorem LFix.the {par L B E} (h:LFix par L B E) (hn:∀ c,0≤c→c<(L.length:Int)→∀ k∈nxL L c,0≤k∧k<(L.length:Int)):LFix par L (LB par L) (LE par L):=by
 refine⟨fun b r h1 h2=> ?_,fun b r h1 h2=> ?_,fun B' E' k b r _ _=>⟨fun q=>q B' E' k,fun q=>q B' E' k⟩⟩
 ·rw[←h.isE h1 h2,h.e b r h1 h2]
  exact⟨YL fun k hk r q=>(h.isB (hn b h1 h2 k hk).1 (hn b h1 h2 k hk).2).1 q,YL fun k hk r q=>(h.isB (hn b h1 h2 k hk).1 (hn b h1 h2 k hk).2).2 q⟩
 ·rw[←h.isB h1 h2,h.b b r h1 h2]
  exact⟨yR fun r q=>(h.isE h1 h2).1 q,yR fun r q=>(h.isE h1 h2).2 q⟩
def YC (T:List LType) (F:List LFn) (f b at':Int):Int:=
 if (ZI T F f b).2≠0 then (ZI T F f b).2 else if at'<0∨(((F.getD f.toNat default).blocks.getD b.toNat default).ins.length:Int)<at' then 2 else 0
theorem zC5 {T:List LType} {F:List LFn} {f b:Int} (h:(ZI T F f b).2=0):(yV T F f).2=0∧0≤b∧b<((F.getD f.toNat default).blocks.length:Int):=by
 have h1:(zU T F f b).2=0:=by
  unfold ZI at h
  split at h
  ·rename_i q;exact absurd h q
  ·rename_i q;omega
 obtain⟨a,c,d,e⟩:=zCR h1
 rw[d]at c
 refine⟨?_,a,c⟩
 unfold YE at e
 split at e
 ·rename_i q;exact absurd e q
 ·rename_i q;omega
abbrev yK (F:List LFn) (f:Int):List LBlk:=(F.getD f.toNat default).blocks
abbrev Zb (T:List LType) (F:List LFn) (f:Int):Int:=((T.getD (F.getD f.toNat default).sig.toNat default).parts.length:Int)
noncomputable def body21:ACode:=(.seq (.region [⟨some 4,none,(.box (.tmp 0))⟩,⟨some 8,none,(.mov (.const (.int .i64 0)))⟩]) (.seq (.seq (.region [⟨some 12,none,(.load true 2 (.tmp 4))⟩,⟨some 13,none,(.mov (.tmp 1))⟩,⟨some 14,none,(.mov (.tmp 2))⟩,⟨some 15,none,(.call (.func 18) [(.tmp 12),(.tmp 13),(.tmp 14)])⟩,⟨some 11,none,(.mov (.tmp 15))⟩,⟨some 16,none,(.extract (.tmp 11) 0)⟩,⟨some 17,none,(.extract (.tmp 11) 1)⟩,⟨some 9,none,(.mov (.tmp 16))⟩,⟨some 10,none,(.mov (.tmp 17))⟩]) (.seq (.region [⟨some 18,none,(.mov (.tmp 10))⟩,⟨some 19,none,(.bin .neq (.tmp 18) (.const (.int .i64 0)))⟩]) (.cond (.tmp 19) (.seq (.region [⟨some 20,none,(.mov (.tmp 10))⟩,⟨some 8,none,(.mov (.tmp 20))⟩]) .ret) .skip))) (.seq (.seq (.region [⟨some 21,none,(.mov (.tmp 3))⟩,⟨some 22,none,(.bin .lss (.tmp 21) (.const (.int .i64 0)))⟩,⟨some 23,none,(.mov (.tmp 22))⟩,⟨some 24,some (23,false),(.mov (.tmp 3))⟩,⟨some 25,some (23,false),(.fld 1 (.tmp 4))⟩,⟨some 26,some (23,false),(.load false 1 (.tmp 25))⟩,⟨some 27,some (23,false),(.mov (.tmp 1))⟩,⟨some 28,some (23,false),(.idx 2 (.tmp 26) (.tmp 27))⟩,⟨some 29,some (23,false),(.fld 1 (.tmp 28))⟩,⟨some 30,some (23,false),(.load false 1 (.tmp 29))⟩,⟨some 31,some (23,false),(.mov (.tmp 2))⟩,⟨some 32,some (23,false),(.idx 5 (.tmp 30) (.tmp 31))⟩,⟨some 33,some (23,false),(.fld 0 (.tmp 32))⟩,⟨some 34,some (23,false),(.load false 1 (.tmp 33))⟩,⟨some 35,some (23,false),(.len (.tmp 34))⟩,⟨some 36,some (23,false),(.bin .gtr (.tmp 24) (.tmp 35))⟩,⟨some 37,none,(.pick (.tmp 23) (.const (.bool true)) (.tmp 36))⟩]) (.cond (.tmp 37) (.seq (.region [⟨some 8,none,(.mov (.const (.int .i64 2)))⟩]) .ret) .skip)) (.seq (.region [⟨some 8,none,(.mov (.const (.int .i64 0)))⟩]) .ret))))
set_option maxRecDepth 100000 in
theorem tab21:tb.code 21=some ⟨38,[(8,none)],body21⟩:=by kernel_rfl
theorem zEe (h:AHeap) (vt vf:Value) (T:List LType) (F:List LFn) (f b at':Int) (E:EnvL h vt vf T F):
  WC Tryd.prog tb 21 [.agg #[vt,vf],I f,I b,I at'] h fun r h'=>r=I (YC T F f b at')∧Ext h h':=by
 have hF:=E.sm.funcs
 obtain⟨ta,tn,tk,rfl⟩:=zI E.st
 obtain⟨ga,gn,gk,rfl⟩:=zI E.sf
 refine WC.of (zF 21) tab21 ?_;simp only[zM,Nat.zero_add,Nat.reduceAdd]
 refine go ?_
 refine WO.bx ?_
 intro p h1 e1 o1
 have E1:=E.ext e1
 refine go ?_
 refine WO.con (zH2 h1 _ _ T F f b E1.tt E1.hm E1.sm E1.st E1.sf) ?_
 rintro _ h2 ⟨⟨vn,rfl,sn,_⟩,e2⟩
 have e12:=e1.trans e2
 unfold YC
 by_cases hn:(ZI T F f b).2=0
 case neg=>
  rw[if_pos hn]
  refine go ?_
  refine rt ?_
  exact⟨rfl,e12⟩
 obtain⟨ha,hb0,hb1⟩:=zC5 hn
 obtain⟨hf0,hf1,_⟩:=zCz ha
 have E2:=E1.ext e2
 have sf2:=E2.sf
 have o2:=o1.ext e2
 obtain⟨csF,⟨vb,rfl,sb,hlb⟩,pcF,hsF⟩:=yL (i:=f.toNat) sf2 (by omega)
 obtain⟨ba,bn,bk,rfl⟩:=zI sb
 obtain⟨csB,⟨vi,rfl,si,hli⟩,pcB,hsB⟩:=yL (i:=b.toNat) sb (by omega)
 obtain⟨ia,iN,ik,rfl⟩:=zI si
 rw[if_neg (fun q=>q hn),hn]
 by_cases c1:at'<0
 ·rw[if_pos (.inl c1)]
  refine go ?_
  refine rt ?_
  exact⟨rfl,e12⟩
 by_cases c2:(((F.getD f.toNat default).blocks.getD b.toNat default).ins.length:Int)<at'
 ·rw[if_pos (.inr c2)]
  refine go ?_
  refine rt ?_
  exact⟨rfl,e12⟩
 rw[if_neg (by omega)]
 refine go ?_
 refine rt ?_
 exact⟨rfl,e12⟩
structure AtR (T:List LType) (F:List LFn) (f b at':Int) (l:List Int):Prop where
 rise:l.Pairwise (·<·)
 mem:∀ r,r∈l↔yv (Zb T F f) (yK F f) b at'.toNat (LE (Zb T F f) (yK F f) b) r
 fix:LFix (Zb T F f) (yK F f) (LB (Zb T F f) (yK F f)) (LE (Zb T F f) (yK F f))
 reg:∀ r∈l,0≤r∧r<z8 (Zb T F f) (yK F f)
structure EndR (T:List LType) (F:List LFn) (f b:Int) (l:List Int):Prop where
 rise:l.Pairwise (·<·)
 mem:∀ r,r∈l↔LE (Zb T F f) (yK F f) b r
 fix:LFix (Zb T F f) (yK F f) (LB (Zb T F f) (yK F f)) (LE (Zb T F f) (yK F f))
 reg:∀ r∈l,0≤r∧r<z8 (Zb T F f) (yK F f)
noncomputable def body7:ACode:=(.seq (.region [⟨some 4,none,(.box (.tmp 0))⟩,⟨some 8,none,(.mov (.const (.slice none 0 0)))⟩,⟨some 9,none,(.mov (.const (.int .i64 0)))⟩]) (.seq (.seq (.region [⟨some 11,none,(.load true 2 (.tmp 4))⟩,⟨some 12,none,(.mov (.tmp 1))⟩,⟨some 13,none,(.mov (.tmp 2))⟩,⟨some 14,none,(.mov (.tmp 3))⟩,⟨some 15,none,(.call (.func 21) [(.tmp 11),(.tmp 12),(.tmp 13),(.tmp 14)])⟩,⟨some 10,none,(.mov (.tmp 15))⟩]) (.seq (.region [⟨some 16,none,(.mov (.tmp 10))⟩,⟨some 17,none,(.bin .neq (.tmp 16) (.const (.int .i64 0)))⟩]) (.cond (.tmp 17) (.seq (.region [⟨some 18,none,(.mov (.tmp 10))⟩,⟨some 8,none,(.mov (.const (.slice none 0 0)))⟩,⟨some 9,none,(.mov (.tmp 18))⟩]) .ret) .skip))) (.seq (.region [⟨some 19,none,(.load true 2 (.tmp 4))⟩,⟨some 20,none,(.mov (.tmp 1))⟩,⟨some 21,none,(.call (.func 23) [(.tmp 19),(.tmp 20)])⟩,⟨some 22,none,(.mov (.tmp 2))⟩,⟨some 23,none,(.mov (.tmp 3))⟩,⟨some 24,none,(.call (.func 24) [(.tmp 21),(.tmp 22),(.tmp 23)])⟩,⟨some 25,none,(.call (.func 22) [(.tmp 24)])⟩,⟨some 26,none,(.extract (.tmp 25) 0)⟩,⟨some 27,none,(.extract (.tmp 25) 1)⟩,⟨some 8,none,(.mov (.tmp 26))⟩,⟨some 9,none,(.mov (.tmp 27))⟩]) .ret)))
set_option maxRecDepth 100000 in
theorem tab7:tb.code 7=some ⟨28,[(8,none),(9,none)],body7⟩:=by kernel_rfl
theorem lAt_ok (h:AHeap) (vt vf:Value) (T:List LType) (F:List LFn) (f b at':Int) (E:EnvL h vt vf T F) (Z:TzT h):
  WC Tryd.prog tb 7 [.agg #[vt,vf],I f,I b,I at'] h fun r h'=>(∃ v l,r= .tuple #[v,I (YC T F f b at')]∧OwnN h h' v l∧(YC T F f b at'≠0→l=[])∧(YC T F f b at'=0→AtR T F f b at' l))∧Ext h h':=by
 obtain⟨ta,tn,tk,rfl⟩:=zI E.st
 obtain⟨ga,gn,gk,rfl⟩:=zI E.sf
 refine WC.of (zF 7) tab7 ?_;simp only[zM,Nat.zero_add,Nat.reduceAdd]
 refine go ?_
 refine WO.bx ?_
 intro p h1 e1 o1
 have E1:=E.ext e1
 refine go ?_
 refine WO.con (zEe h1 _ _ T F f b at' E1) ?_
 rintro _ h2 ⟨rfl,e2⟩
 have e12:=e1.trans e2
 have o2:=o1.ext e2
 have E2:=E1.ext e2
 by_cases ha:YC T F f b at'=0
 case neg=>
  refine go ?_
  refine rt ?_
  exact⟨⟨_,[],rfl,.inl ⟨rfl,rfl⟩,fun _=>rfl,fun h=>absurd h ha⟩,e12⟩
 have hn:(ZI T F f b).2=0:=by
  unfold YC at ha
  split at ha
  ·rename_i q;exact absurd ha q
  ·rename_i q;omega
 have hat:0≤at'∧at'≤(((F.getD f.toNat default).blocks.getD b.toNat default).ins.length:Int):=by
  unfold YC at ha
  rw[if_neg (fun q=>q hn)]at ha
  split at ha
  ·cases ha
  ·rename_i q;omega
 obtain⟨hask,hb0,hb1⟩:=zC5 hn
 obtain⟨O,U⟩:FnOk T F f (yK F f) (Zb T F f)∧∀ b∈yK F f,BlkU b (z8 (Zb T F f) (yK F f)) (yK F f).length:=zFf E.sm hask
 have hb1:b<((yK F f).length:Int):=hb1
 have hnx:∀ c,0≤c→c<((yK F f).length:Int)→∀ k∈nxL (yK F f) c,0≤k∧k<((yK F f).length:Int):=fun c h1 h2=>(U _ (zN (l:=yK F f) (i:=c.toNat) (by omega))).next
 refine go ?_
 refine WO.con (zEu h2 _ _ T F f _ _ E2 O U) ?_
 rintro _ h3 ⟨X,gp,gb,ge,gm,bg,ed,rfl,S,hfix,hlb,hle,hob,hoe⟩
 have e23:=S.e
 have E3:=E2.ext e23
 have hoed:=zGJ hoe (i:=b.toNat) (by omega)
 have hat2:at'.toNat≤((yK F f).getD b.toNat default).ins.length:=by
  show at'.toNat≤((F.getD f.toNat default).blocks.getD b.toNat default).ins.length
  omega
 have hA:=zEP h2 h3 X gp gb ge gm _ _ T F f _ _ bg ed [] b at'.toNat S E3 O U ⟨hb0,hb1⟩ hat2 hle hoed
 rw[show ((at'.toNat:Nat):Int)=at' by omega]at hA
 refine go ?_
 refine WO.con hA ?_
 rintro v4 h4 ⟨⟨t4,m4,o4,mem4⟩,e4⟩
 have e04:=e12.trans (e23.trans e4)
 have Z4:=Z.ext e04
 have hm4:h4.mark≤h4.n:=(E3.ext e4).hm
 have hreg:∀ r,InW t4 r→0≤r∧r<z8 (Zb T F f) (yK F f):=fun r q=>by
  have q:=(mem4 r).1 q
  unfold yv at q
  have hUb:=U _ (zN (l:=yK F f) (i:=b.toNat) (by omega))
  exact zB1 (fun x hx=>(hUb.ins x (List.mem_of_mem_drop hx)).uses) (fun r q=>q.elim (fun q=>hUb.ends r q) fun q=>⟨(InW.range hoed.1 q).1,hoed.2 r q⟩) q
 have hN:0≤z8 (Zb T F f) (yK F f)∧z8 (Zb T F f) (yK F f)≤228:=by
  have:=O.par0;have:=O.parl;have:=O.many;have:=yX (yK F f);unfold z8;omega
 have hl4:t4.length≤228:=by
  have:=Ye (N:=(z8 (Zb T F f) (yK F f)).toNat) o4 fun r q=>by have:=hreg r q;omega
  omega
 refine go ?_
 refine WO.con (zHq h4 v4 t4 m4.sl Z4 (by omega) hm4) ?_
 rintro _ h5 ⟨⟨w,rfl,ow⟩,e5⟩
 rw[Zy o4,if_pos rfl]at ow
 rw[Zy o4,show errW true=0 from rfl]
 refine go ?_
 refine rt ?_
 rw[ha]
 refine⟨⟨w,zl t4,rfl,ow.since e04,fun h=>absurd rfl h,fun _=>⟨YP o4,fun r=> ?_,hfix.the hnx,fun r hr=>hreg r ((yr o4).1 hr)⟩⟩,e04.trans e5⟩
 rw[yr o4,mem4]
 exact⟨yR fun r q=>(hfix.isE hb0 hb1).1 q,yR fun r q=>(hfix.isE hb0 hb1).2 q⟩
noncomputable def body9:ACode:=(.seq (.region [⟨some 3,none,(.box (.tmp 0))⟩,⟨some 6,none,(.mov (.const (.slice none 0 0)))⟩,⟨some 7,none,(.mov (.const (.int .i64 0)))⟩]) (.seq (.seq (.region [⟨some 9,none,(.load true 2 (.tmp 3))⟩,⟨some 10,none,(.mov (.tmp 1))⟩,⟨some 11,none,(.mov (.tmp 2))⟩,⟨some 12,none,(.call (.func 21) [(.tmp 9),(.tmp 10),(.tmp 11),(.const (.int .i64 0))])⟩,⟨some 8,none,(.mov (.tmp 12))⟩]) (.seq (.region [⟨some 13,none,(.mov (.tmp 8))⟩,⟨some 14,none,(.bin .neq (.tmp 13) (.const (.int .i64 0)))⟩]) (.cond (.tmp 14) (.seq (.region [⟨some 15,none,(.mov (.tmp 8))⟩,⟨some 6,none,(.mov (.const (.slice none 0 0)))⟩,⟨some 7,none,(.mov (.tmp 15))⟩]) .ret) .skip))) (.seq (.region [⟨some 16,none,(.load true 2 (.tmp 3))⟩,⟨some 17,none,(.mov (.tmp 1))⟩,⟨some 18,none,(.call (.func 23) [(.tmp 16),(.tmp 17)])⟩,⟨some 19,none,(.nilCheck (.tmp 18))⟩,⟨some 20,none,(.fld 4 (.tmp 19))⟩,⟨some 21,none,(.load false 1 (.tmp 20))⟩,⟨some 22,none,(.mov (.tmp 2))⟩,⟨some 23,none,(.idx 1 (.tmp 21) (.tmp 22))⟩,⟨some 24,none,(.load false 1 (.tmp 23))⟩,⟨some 25,none,(.call (.func 22) [(.tmp 24)])⟩,⟨some 26,none,(.extract (.tmp 25) 0)⟩,⟨some 27,none,(.extract (.tmp 25) 1)⟩,⟨some 6,none,(.mov (.tmp 26))⟩,⟨some 7,none,(.mov (.tmp 27))⟩]) .ret)))
set_option maxRecDepth 100000 in
theorem tab9:tb.code 9=some ⟨28,[(6,none),(7,none)],body9⟩:=by kernel_rfl
theorem lEnd_ok (h:AHeap) (vt vf:Value) (T:List LType) (F:List LFn) (f b:Int) (E:EnvL h vt vf T F) (Z:TzT h):
  WC Tryd.prog tb 9 [.agg #[vt,vf],I f,I b] h fun r h'=>(∃ v l,r= .tuple #[v,I (ZI T F f b).2]∧OwnN h h' v l∧((ZI T F f b).2≠0→l=[])∧((ZI T F f b).2=0→EndR T F f b l))∧Ext h h':=by
 obtain⟨ta,tn,tk,rfl⟩:=zI E.st
 obtain⟨ga,gn,gk,rfl⟩:=zI E.sf
 refine WC.of (zF 9) tab9 ?_;simp only[zM,Nat.zero_add,Nat.reduceAdd]
 refine go ?_
 refine WO.bx ?_
 intro p h1 e1 o1
 have E1:=E.ext e1
 refine go ?_
 refine WO.con (zEe h1 _ _ T F f b 0 E1) ?_
 rintro _ h2 ⟨rfl,e2⟩
 have e12:=e1.trans e2
 have o2:=o1.ext e2
 have E2:=E1.ext e2
 have hask0:YC T F f b 0=(ZI T F f b).2:=by
  unfold YC
  split
  ·rfl
  ·rename_i q;rw[if_neg (by omega)];omega
 rw[hask0]
 by_cases hn:(ZI T F f b).2=0
 case neg=>
  refine go ?_
  refine rt ?_
  exact⟨⟨_,[],rfl,.inl ⟨rfl,rfl⟩,fun _=>rfl,fun h=>absurd h hn⟩,e12⟩
 obtain⟨hask,hb0,hb1⟩:=zC5 hn
 obtain⟨O,U⟩:FnOk T F f (yK F f) (Zb T F f)∧∀ b∈yK F f,BlkU b (z8 (Zb T F f) (yK F f)) (yK F f).length:=zFf E.sm hask
 have hb1:b<((yK F f).length:Int):=hb1
 have hnx:∀ c,0≤c→c<((yK F f).length:Int)→∀ k∈nxL (yK F f) c,0≤k∧k<((yK F f).length:Int):=fun c h1 h2=>(U _ (zN (l:=yK F f) (i:=c.toNat) (by omega))).next
 refine go ?_
 refine WO.con (zEu h2 _ _ T F f _ _ E2 O U) ?_
 rintro _ h3 ⟨X,gp,gb,ge,gm,bg,ed,rfl,S,hfix,hlb,hle,hob,hoe⟩
 have e23:=S.e
 have E3:=E2.ext e23
 have hoed:=zGJ hoe (i:=b.toNat) (by omega)
 have o3:=S.own
 have sE3:=S.ends
 obtain⟨csE,⟨ve,rfl,hfar⟩,pcE,hsE⟩:=yL S.ends (i:=b.toNat) (by omega)
 obtain⟨ea,en,ek,rfl⟩:=yW hfar.1
 have hed:List.getD ed b.toNat (default:List LWd)=ed.getD b.toNat []:=rfl
 rw[hed]at hfar
 have e03:=e12.trans e23
 have hN:0≤z8 (Zb T F f) (yK F f)∧z8 (Zb T F f) (yK F f)≤228:=by
  have:=O.par0;have:=O.parl;have:=O.many;have:=yX (yK F f);unfold z8;omega
 have hl4:(ed.getD b.toNat []).length≤228:=by
  have:=Ye (N:=(z8 (Zb T F f) (yK F f)).toNat) hoed.1 fun r q=>by have:=hoed.2 r q;omega
  omega
 refine go ?_
 refine WO.con (zHq h3 _ _ hfar.1 (Z.ext e03) (by omega) E3.hm) ?_
 rintro _ h5 ⟨⟨w,rfl,ow⟩,e5⟩
 rw[Zy hoed.1,if_pos rfl]at ow
 rw[Zy hoed.1,show errW true=0 from rfl]
 refine go ?_
 refine rt ?_
 rw[hn]
 refine⟨⟨w,zl (ed.getD b.toNat []),rfl,ow.since e03,fun h=>absurd rfl h,fun _=>⟨YP hoed.1,fun r=> ?_,hfix.the hnx,fun r hr=>⟨(InW.range hoed.1 ((yr hoed.1).1 hr)).1,hoed.2 r ((yr hoed.1).1 hr)⟩⟩⟩,e03.trans e5⟩
 rw[yr hoed.1]
 exact hfix.isE hb0 hb1
end Go.Proofs.YtemggiegiejopaaDoor
namespace Go.Proofs.YtemggiegiejopaaDoor
open Go.Am
set_option maxRecDepth 1000000 in
theorem zIS:(aexK Tryd.prog (zFb Tryd.prog) 400).call 10 [] (Zc Tryd.prog.globals.size zBl) (fun v _=>some v)=some (.bool true):=by kernel_rfl
theorem ev_alive:((aex Tryd.prog (zFb Tryd.prog) 400).call 10 [] (Zc Tryd.prog.globals.size zBl)).map (·.1)=some (.bool true):=run_fast zIS
set_option maxRecDepth 1000000 in
theorem zFP:(zBl:List (Nat×List Value)).all (fun x=>Nat.ble (x.1+1) Tryd.prog.globals.size&&yY x.2)=true:=by kernel_rfl
set_option maxRecDepth 1000000 in
theorem tb_ok:tb.Ok Tryd.prog where
 code:=fun _ _ h=>h
 stub:=fun f s hs=>by
  have hs:(if f=10 then some (Yw zBl (.bool true)) else none)=some s:=hs
  split at hs
  ·rename_i e;subst e;cases hs
   exact zGa Tryd.checked.mixed (zHN _) rfl (fun x hx=>by
    have h1:=List.all_eq_true.1 zFP x hx
    rw[Bool.and_eq_true]at h1
    exact⟨Nat.le_of_ble_eq_true h1.1,h1.2⟩) ev_alive
  ·cases hs
 grow:=fun f s hs args h v h' hk=>by
  have hs:(if f=10 then some (Yw zBl (.bool true)) else none)=some s:=hs
  split at hs
  ·cases hs;exact zHC args h v h' hk
  ·cases hs
end Go.Proofs.YtemggiegiejopaaDoor
namespace Go.Proofs.YtemggiegiejopaaDoor
open Go.Am
set_option linter.unusedVariables false
set_option linter.unusedSimpArgs false
set_option maxHeartbeats 4000000
noncomputable def body17_0:ACode:=(.seq (.seq (.region [⟨some 6,none,(.mov (.tmp 5))⟩,⟨some 7,none,(.mov (.tmp 0))⟩,⟨some 8,none,(.len (.tmp 7))⟩,⟨some 9,none,(.bin .lss (.tmp 6) (.tmp 8))⟩]) (.cond (.tmp 9) .skip (.exit 0))) (.seq (.block 1 (.seq (.region [⟨some 12,none,(.mov (.tmp 0))⟩,⟨some 13,none,(.mov (.tmp 5))⟩,⟨some 14,none,(.idx 1 (.tmp 12) (.tmp 13))⟩,⟨some 15,none,(.load false 1 (.tmp 14))⟩,⟨some 16,none,(.mov (.tmp 1))⟩,⟨some 17,none,(.bin .eql (.tmp 15) (.tmp 16))⟩]) (.cond (.tmp 17) (.seq (.region [⟨some 4,none,(.mov (.const (.bool true)))⟩]) .ret) .skip))) (.region [⟨some 10,none,(.mov (.tmp 5))⟩,⟨some 11,none,(.bin .add (.tmp 10) (.const (.int .i64 1)))⟩,⟨some 5,none,(.mov (.tmp 11))⟩])))
noncomputable def body17:ACode:=(.seq (.region [⟨some 4,none,(.mov (.const (.bool false)))⟩]) (.seq (.seq (.region [⟨some 5,none,(.mov (.const (.int .i64 0)))⟩]) (.block 0 (.loop body17_0))) (.seq (.region [⟨some 4,none,(.mov (.const (.bool false)))⟩]) .ret)))
set_option maxRecDepth 100000 in
theorem tab17:tb.code 17=some ⟨18,[(4,none)],body17⟩:=by kernel_rfl
theorem zCE (h:AHeap) (v:Value) (l:List Int) (n:Int) (s:SlI h v l) (hl:(l.length:Int)≤9223372036854775807):
  WC Tryd.prog tb 17 [v,I n] h fun r h'=>r= .bool (decide (n∈l))∧h=h':=by
 refine WC.of (zF 17) tab17 ?_;simp only[zM,Nat.zero_add,Nat.reduceAdd]
 refine go ?_
 refine WX.loopA [6,7,8,9,12,13,14,15,16,17,4,10,11,5] (by kernel_rfl) (fun i=>l.length - i) (fun i t h1=>h=h1∧zB t 5=I i∧i≤l.length∧∀ j,j<i→l.getD j 0≠n) 0 ?_ ?_
 ·exact⟨rfl,sl_,Nat.zero_le _,fun j hj=>absurd hj (Nat.not_lt_zero _)⟩
 rintro i t _ hsame ⟨rfl,s5,hi,hm⟩
 refine go ?_
 refine WX.br (fun hb=> ?_) (fun hb=> ?_)<;>simp only[DB]at hb
 ·have hi':i<l.length:=by omega
  refine go ?_
  refine WX.br (fun hc=> ?_) (fun hc=> ?_)<;>simp only[DB]at hc<;>refine go ?_
  ·refine rt ?_
   exact⟨by rw[decide_eq_true (mem_of hi' hc)];rfl,rfl⟩
  ·refine zA (i+1) (by omega) ⟨rfl,sln,by omega,fun j hj=> ?_⟩
   by_cases e:j=i
   ·subst e;exact hc
   ·exact hm j (by omega)
 ·refine go ?_
  refine rt ?_
  exact⟨by rw[decide_eq_false (zDx fun j hj=>hm j (by omega))];rfl,rfl⟩
theorem rise_len {l:List Int} {N:Int} (h:l.Pairwise (·<·)) (hr:∀ r∈l,0≤r∧r<N):(l.length:Int)≤N∨l=[]:=by
 by_cases hN:0≤N
 ·left
  have hd:l.Nodup:=h.imp fun h=>by omega
  have:=List.Nodup.length_le_of_subset hd (l₂:=(List.range N.toNat).map fun (i:Nat)=>(i:Int)) fun x hx=>by
   have:=hr x hx
   exact List.mem_map.2 ⟨x.toNat,List.mem_range.2 (by omega),by omega⟩
  simp at this;omega
 ·right
  cases l with
  |nil=>rfl
  |cons x l=>have:=hr x (List.mem_cons_self ..);omega
theorem zFD {l:List Int} {N:Int} (h:l.Pairwise (·<·)) (hr:∀ r∈l,0≤r∧r<N) (hN:0≤N):(l.length:Int)≤N:=by
 rcases rise_len h hr with q|q
 ·exact q
 ·subst q;exact hN
theorem regs_of {T:List LType} {F:List LFn} {f:Int} (h:(yV T F f).2=0):YE T F f=(z8 (Zb T F f) (yK F f),0):=by
 obtain⟨_,_,_,ha⟩:=zCz h
 unfold YE;rw[ha];rfl
theorem regN_le {T:List LType} {F:List LFn} {f par:Int} {L:List LBlk} (O:FnOk T F f L par):0≤z8 par L∧z8 par L≤228:=by
 have:=O.par0;have:=O.parl;have:=O.many;have:=yX L;unfold z8;omega
theorem ask_next {T:List LType} {F:List LFn} {f b at':Int} (h:YC T F f b at'=0):(ZI T F f b).2=0∧0≤at'∧at'≤(((F.getD f.toNat default).blocks.getD b.toNat default).ins.length:Int):=by
 unfold YC at h
 split at h
 ·rename_i q;exact absurd h q
 ·split at h
  ·cases h
  ·omega
theorem ask_zero {T:List LType} {F:List LFn} {f b at':Int} (h:(ZI T F f b).2=0) (h0:0≤at') (h1:at'≤(((F.getD f.toNat default).blocks.getD b.toNat default).ins.length:Int)):YC T F f b at'=0:=by
 unfold YC;rw[if_neg (fun q=>q h),if_neg (by omega)]
noncomputable def body4_0:ACode:=(.seq (.seq (.region [⟨some 116,none,(.mov (.tmp 18))⟩,⟨some 117,none,(.mov (.tmp 12))⟩,⟨some 118,none,(.bin .lss (.tmp 116) (.tmp 117))⟩]) (.cond (.tmp 118) .skip (.exit 0))) (.seq (.block 1 (.seq (.region [⟨some 121,none,(.mov (.tmp 10))⟩,⟨some 122,none,(.mov (.tmp 18))⟩,⟨some 123,none,(.call (.func 17) [(.tmp 121),(.tmp 122)])⟩,⟨some 124,none,(.mov (.tmp 16))⟩,⟨some 125,none,(.mov (.tmp 18))⟩,⟨some 126,none,(.call (.func 17) [(.tmp 124),(.tmp 125)])⟩,⟨some 127,none,(.mov (.tmp 126))⟩,⟨some 128,some (127,false),(.mov (.tmp 15))⟩,⟨some 129,some (127,false),(.mov (.tmp 18))⟩,⟨some 130,some (127,false),(.call (.func 17) [(.tmp 128),(.tmp 129)])⟩,⟨some 131,some (127,false),(.mov (.tmp 130))⟩,⟨some 132,some (131,true),(.mov (.tmp 18))⟩,⟨some 133,some (131,true),(.mov (.tmp 17))⟩,⟨some 134,some (131,true),(.bin .neq (.tmp 132) (.tmp 133))⟩,⟨some 135,some (127,false),(.pick (.tmp 131) (.tmp 134) (.const (.bool false)))⟩,⟨some 136,none,(.pick (.tmp 127) (.const (.bool true)) (.tmp 135))⟩,⟨some 137,none,(.binB true (.tmp 123) (.tmp 136))⟩]) (.cond (.tmp 137) (.seq (.region [⟨some 8,none,(.mov (.const (.bool false)))⟩]) .ret) .skip))) (.region [⟨some 119,none,(.mov (.tmp 18))⟩,⟨some 120,none,(.bin .add (.tmp 119) (.const (.int .i64 1)))⟩,⟨some 18,none,(.mov (.tmp 120))⟩])))
noncomputable def body4:ACode:=(.seq (.region [⟨some 4,none,(.box (.tmp 0))⟩,⟨some 8,none,(.mov (.const (.bool false)))⟩]) (.seq (.region [⟨some 19,none,(.call (.func 10) [])⟩,⟨some 9,none,(.mov (.tmp 19))⟩]) (.seq (.seq (.region [⟨some 20,none,(.load true 2 (.tmp 4))⟩,⟨some 21,none,(.call (.func 12) [(.tmp 20),(.const (.int .i64 200))])⟩,⟨some 22,none,(.mov (.tmp 21))⟩,⟨some 23,some (22,false),(.mov (.tmp 3))⟩,⟨some 24,some (22,false),(.bin .lss (.tmp 23) (.const (.int .i64 0)))⟩,⟨some 25,none,(.pick (.tmp 22) (.const (.bool true)) (.tmp 24))⟩,⟨some 26,none,(.mov (.tmp 25))⟩,⟨some 27,some (26,false),(.mov (.tmp 3))⟩,⟨some 28,some (26,false),(.bin .gtr (.tmp 27) (.const (.int .i64 1000)))⟩,⟨some 29,none,(.pick (.tmp 26) (.const (.bool true)) (.tmp 28))⟩,⟨some 30,none,(.mov (.tmp 29))⟩,⟨some 31,some (30,false),(.mov (.tmp 9))⟩,⟨some 32,some (30,false),(.un .not (.tmp 31))⟩,⟨some 33,none,(.pick (.tmp 30) (.const (.bool true)) (.tmp 32))⟩]) (.cond (.tmp 33) (.seq (.region [⟨some 34,none,(.mov (.tmp 9))⟩,⟨some 8,none,(.mov (.tmp 34))⟩]) .ret) .skip)) (.seq (.region [⟨some 36,none,(.load true 2 (.tmp 4))⟩,⟨some 37,none,(.mov (.tmp 1))⟩,⟨some 38,none,(.mov (.tmp 2))⟩,⟨some 39,none,(.mov (.tmp 3))⟩,⟨some 40,none,(.call (.func 7) [(.tmp 36),(.tmp 37),(.tmp 38),(.tmp 39)])⟩,⟨some 35,none,(.mov (.tmp 40))⟩,⟨some 41,none,(.extract (.tmp 35) 0)⟩,⟨some 42,none,(.extract (.tmp 35) 1)⟩,⟨some 10,none,(.mov (.tmp 41))⟩,⟨some 11,none,(.mov (.tmp 42))⟩]) (.seq (.region [⟨some 44,none,(.load true 2 (.tmp 4))⟩,⟨some 45,none,(.mov (.tmp 1))⟩,⟨some 46,none,(.call (.func 13) [(.tmp 44),(.tmp 45)])⟩,⟨some 43,none,(.mov (.tmp 46))⟩,⟨some 47,none,(.extract (.tmp 43) 0)⟩,⟨some 48,none,(.extract (.tmp 43) 1)⟩,⟨some 12,none,(.mov (.tmp 47))⟩,⟨some 13,none,(.mov (.tmp 48))⟩]) (.seq (.seq (.region [⟨some 49,none,(.mov (.tmp 11))⟩,⟨some 50,none,(.bin .neq (.tmp 49) (.const (.int .i64 0)))⟩,⟨some 51,none,(.mov (.tmp 50))⟩,⟨some 52,some (51,false),(.mov (.tmp 13))⟩,⟨some 53,some (51,false),(.bin .neq (.tmp 52) (.const (.int .i64 0)))⟩,⟨some 54,none,(.pick (.tmp 51) (.const (.bool true)) (.tmp 53))⟩]) (.cond (.tmp 54) (.seq (.region [⟨some 55,none,(.mov (.tmp 9))⟩,⟨some 56,none,(.mov (.tmp 55))⟩,⟨some 57,some (56,true),(.mov (.tmp 10))⟩,⟨some 58,some (56,true),(.len (.tmp 57))⟩,⟨some 59,some (56,true),(.bin .eql (.tmp 58) (.const (.int .i64 0)))⟩,⟨some 60,none,(.pick (.tmp 56) (.tmp 59) (.const (.bool false)))⟩,⟨some 8,none,(.mov (.tmp 60))⟩]) .ret) .skip)) (.seq (.region [⟨some 61,none,(.fld 1 (.tmp 4))⟩,⟨some 62,none,(.load false 1 (.tmp 61))⟩,⟨some 63,none,(.mov (.tmp 1))⟩,⟨some 64,none,(.idx 2 (.tmp 62) (.tmp 63))⟩,⟨some 65,none,(.fld 1 (.tmp 64))⟩,⟨some 66,none,(.load false 1 (.tmp 65))⟩,⟨some 67,none,(.mov (.tmp 2))⟩,⟨some 68,none,(.idx 5 (.tmp 66) (.tmp 67))⟩,⟨some 69,none,(.load true 5 (.tmp 68))⟩,⟨some 14,none,(.alloc [(.slice none 0 0),(.int .u8 0),(.int .i64 0),(.int .i64 0),(.int .i64 0)])⟩,⟨none,none,(.store 5 (.tmp 14) (.tmp 69))⟩]) (.seq (.region [⟨some 70,none,(.buildSlice 0 1 [(.int .i64 0)] [])⟩,⟨some 71,none,(.fld 1 (.tmp 14))⟩,⟨some 72,none,(.load true 4 (.tmp 71))⟩,⟨some 73,none,(.call (.func 14) [(.tmp 72)])⟩,⟨some 15,none,(.mov (.tmp 70))⟩,⟨some 16,none,(.mov (.tmp 73))⟩,⟨some 17,none,(.mov (.const (.int .i64 (-1))))⟩]) (.seq (.seq (.region [⟨some 74,none,(.mov (.tmp 3))⟩,⟨some 75,none,(.fld 0 (.tmp 14))⟩,⟨some 76,none,(.load false 1 (.tmp 75))⟩,⟨some 77,none,(.len (.tmp 76))⟩,⟨some 78,none,(.bin .lss (.tmp 74) (.tmp 77))⟩]) (.cond (.tmp 78) (.seq (.region [⟨some 80,none,(.load true 2 (.tmp 4))⟩,⟨some 81,none,(.mov (.tmp 1))⟩,⟨some 82,none,(.mov (.tmp 2))⟩,⟨some 83,none,(.mov (.tmp 3))⟩,⟨some 84,none,(.bin .add (.tmp 83) (.const (.int .i64 1)))⟩,⟨some 85,none,(.call (.func 7) [(.tmp 80),(.tmp 81),(.tmp 82),(.tmp 84)])⟩,⟨some 79,none,(.mov (.tmp 85))⟩,⟨some 86,none,(.extract (.tmp 79) 0)⟩,⟨some 87,none,(.extract (.tmp 79) 1)⟩,⟨some 15,none,(.mov (.tmp 86))⟩]) (.seq (.region [⟨some 88,none,(.fld 0 (.tmp 14))⟩,⟨some 89,none,(.load false 1 (.tmp 88))⟩,⟨some 90,none,(.mov (.tmp 3))⟩,⟨some 91,none,(.idx 7 (.tmp 89) (.tmp 90))⟩,⟨some 92,none,(.load true 7 (.tmp 91))⟩,⟨some 93,none,(.call (.func 15) [(.tmp 92)])⟩,⟨some 16,none,(.mov (.tmp 93))⟩]) (.seq (.seq (.region [⟨some 94,none,(.fld 0 (.tmp 14))⟩,⟨some 95,none,(.load false 1 (.tmp 94))⟩,⟨some 96,none,(.mov (.tmp 3))⟩,⟨some 97,none,(.idx 7 (.tmp 95) (.tmp 96))⟩,⟨some 98,none,(.fld 0 (.tmp 97))⟩,⟨some 99,none,(.load false 1 (.tmp 98))⟩,⟨some 100,none,(.bin .eql (.tmp 99) (.const (.int .u8 22)))⟩]) (.cond (.tmp 100) (.region [⟨some 16,none,(.mov (.const (.slice none 0 0)))⟩]) .skip)) (.region [⟨some 102,none,(.load true 2 (.tmp 4))⟩,⟨some 103,none,(.mov (.tmp 1))⟩,⟨some 104,none,(.mov (.tmp 2))⟩,⟨some 105,none,(.mov (.tmp 3))⟩,⟨some 106,none,(.call (.func 16) [(.tmp 102),(.tmp 103),(.tmp 104),(.tmp 105)])⟩,⟨some 101,none,(.mov (.tmp 106))⟩,⟨some 107,none,(.extract (.tmp 101) 0)⟩,⟨some 108,none,(.extract (.tmp 101) 1)⟩,⟨some 17,none,(.mov (.tmp 107))⟩])))) (.region [⟨some 110,none,(.load true 2 (.tmp 4))⟩,⟨some 111,none,(.mov (.tmp 1))⟩,⟨some 112,none,(.mov (.tmp 2))⟩,⟨some 113,none,(.call (.func 9) [(.tmp 110),(.tmp 111),(.tmp 112)])⟩,⟨some 109,none,(.mov (.tmp 113))⟩,⟨some 114,none,(.extract (.tmp 109) 0)⟩,⟨some 115,none,(.extract (.tmp 109) 1)⟩,⟨some 15,none,(.mov (.tmp 114))⟩]))) (.seq (.seq (.region [⟨some 18,none,(.mov (.const (.int .i64 0)))⟩]) (.block 0 (.loop body4_0))) (.seq (.region [⟨some 138,none,(.mov (.tmp 9))⟩,⟨some 8,none,(.mov (.tmp 138))⟩]) .ret)))))))))))
set_option maxRecDepth 100000 in
theorem tab4:tb.code 4=some ⟨139,[(8,none)],body4⟩:=by kernel_rfl
theorem zGI (h:AHeap) (vt vf:Value) (T:List LType) (F:List LFn) (f b at':Int) (tt:Tbl h) (hm:h.mark≤h.n) (Z:TzT h) (st:SlT h vt T) (sf:SlF h vf F) (hT:(T.length:Int)≤1152921504606846976) (hF:(F.length:Int)≤1152921504606846976):
  WC Tryd.prog tb 4 [.agg #[vt,vf],I f,I b,I at'] h fun r h'=>r= .bool true:=by
 obtain⟨ta,tn,tk,rfl⟩:=zI st
 obtain⟨ga,gn,gk,rfl⟩:=zI sf
 refine WC.of (zF 4) tab4 ?_;simp only[zM,Nat.zero_add,Nat.reduceAdd]
 refine go ?_
 refine WO.bx ?_
 intro p h1 e1 o1
 have tt1:=tt.ext e1
 have Z1:=Z.ext e1
 refine go ?_
 refine WO.con (alive_ok h1 tt1.1 Z1.1) ?_
 rintro _ _ ⟨rfl,rfl⟩
 refine go ?_
 refine WO.con (great_ok h1 _ _ T F 200 (by omega) (st.ext e1) (SlF.ext sf e1) (by omega) (by omega)) ?_
 rintro r h3 ⟨hr,e3⟩
 have o1:=o1.ext e3
 rcases hr with rfl|⟨rfl,sm⟩
 ·refine go ?_
  refine rt ?_
  rfl
 by_cases c1:at'<0
 ·refine go ?_
  refine rt ?_
  rfl
 by_cases c2:1000<at'
 ·refine go ?_
  refine rt ?_
  rfl
 have E:EnvL h3 (.slice ta tn tk) (.slice ga gn gk) T F:=⟨tt1.ext e3,ZF e3 (ZF e1 hm),sm,(st.ext e1).ext e3,SlF.ext (SlF.ext sf e1) e3⟩
 have Z3:=Z1.ext e3
 clear st sf tt tt1 Z Z1 hm e1 e3
 refine go ?_
 refine WO.con (lAt_ok h3 _ _ T F f b at' E Z3) ?_
 rintro _ h4 ⟨⟨vn,l,rfl,on,hl1,hl2⟩,e4⟩
 have o1:=o1.ext e4
 have E:=E.ext e4
 have Z4:=Z3.ext e4
 have sn:=on.sl
 refine go ?_
 refine WO.con (zH0 h4 _ _ T F f E.tt E.hm E.sm E.st E.sf) ?_
 rintro _ h5 ⟨rfl,e5⟩
 have o1:=o1.ext e5
 have E:=E.ext e5
 have Z5:=Z4.ext e5
 have sn:=SlI.ext sn e5
 by_cases ha:YC T F f b at'=0
 case neg=>
  have:=hl1 ha
  subst this
  refine go ?_
  refine rt ?_
  rfl
 have A:=hl2 ha
 obtain⟨hnx,ha0,ha1⟩:=ask_next ha
 obtain⟨hask,hb0,hb1⟩:=zC5 hnx
 obtain⟨hf0,hf1,_⟩:=zCz hask
 rw[regs_of hask,ha]
 obtain⟨O,U⟩:FnOk T F f (yK F f) (Zb T F f)∧∀ b∈yK F f,BlkU b (z8 (Zb T F f) (yK F f)) (yK F f).length:=zFf E.sm hask
 have hN:=regN_le O
 have hll:=zFD A.rise A.reg hN.1
 have sf5:=E.sf
 obtain⟨csF,⟨vb,rfl,sb,hlb⟩,pcF,hsF⟩:=yL (i:=f.toNat) sf5 (by omega)
 obtain⟨ba,bn,bk,rfl⟩:=zI sb
 obtain⟨csB,⟨vi,rfl,si,hli⟩,pcB,hsB⟩:=yL (i:=b.toNat) sb (by omega)
 obtain⟨ia,iN,ik,rfl⟩:=zI si
 have hUb:=U _ (zN (l:=yK F f) (i:=b.toNat) (by show b.toNat<(F.getD f.toNat default).blocks.length;omega))
 obtain⟨B,hB⟩:∃ B,B=(yK F f).getD b.toNat default:=⟨_,rfl⟩
 have hB':(F.getD f.toNat default).blocks.getD b.toNat default=B:=hB.symm
 rw[hB']at si hli pcB ha1
 rw[←hB]at hUb
 have hib:(B.ins.length:Int)≤128:=by rw[hB];exact O.ins _ (zN (l:=yK F f) (i:=b.toNat) (by show b.toNat<(F.getD f.toNat default).blocks.length;omega))
 refine go ?_
 refine WO.al ?_
 intro p14 h6 e6 o14
 refine go ?_
 refine WO.stC0 (cs:=[.slice ia iN ik,.int .u8 B.fin.kind,I B.fin.a,I B.fin.to,I B.fin.els]) o14 e6 ?_
 intro h7 e7 o147 u7
 have o1:=o1.ext e7
 have E:=E.ext e7
 have Z7:=Z5.ext e7
 have sn:=SlI.ext sn e7
 have si:=SlN.ext si e7
 refine go ?_
 refine WO.bl [] ?_
 intro v15 h8 e8 o15
 have o1:=o1.ext e8
 have E:=E.ext e8
 have Z8:=Z7.ext e8
 have sn:=SlI.ext sn e8
 have si:=SlN.ext si e8
 have o14:=o147.ext e8
 refine go ?_
 refine WO.con (zFy h8 B.fin) ?_
 rintro v16 h9 ⟨o16,e9⟩
 have o1:=o1.ext e9
 have E:=E.ext e9
 have Z9:=Z8.ext e9
 have sn:=SlI.ext sn e9
 have si:=SlN.ext si e9
 have o14:=o14.ext e9
 have s16:=o16.sl
 clear o15 o16 e6 e7 e8 e9 u7 o147 hl1 hl2 sf5 sb pcB pcF hsF hsB on Z5 Z7 Z8 Z3 Z4 e4 e5
 obtain⟨k,rfl⟩:∃ k:Nat,at'=k:=⟨at'.toNat,by omega⟩
 have A:=Hid.mk A
 have hUb:=Hid.mk hUb
 have hBh:=Hid.mk hB
 have hBh':=Hid.mk hB'
 clear hB hB'
 refine go ?_
 refine WX.cutA [80,81,82,83,84,85,79,86,87,15,88,89,90,91,92,93,16,94,95,96,97,98,99,100,16,102,103,104,105,106,101,107,108,17,110,111,112,113,109,114,115,15] (by kernel_rfl) (fun t h'=>∃ v15 v16 l15 l16 own,Ext h9 h'∧zB t 15=v15∧zB t 16=v16∧zB t 17=I own∧SlI h' v15 l15∧SlI h' v16 l16∧(l15.length:Int)≤1000∧(l16.length:Int)≤1000∧Hid (∀ r,r∈l↔r∈l16∨(r∈l15∧r≠own))) ?_ ?_
 ·by_cases hlt:(k:Int)<B.ins.length
  ·have hk:k<B.ins.length:=by omega
   have hz1:YC T F f b ((k:Int)+1)=0:=ask_zero hnx (by omega) (by rw[hBh'.out];omega)
   have hUx:=hUb.out.ins _ (zN (l:=B.ins) hk)
   refine go ?_
   refine WO.con (lAt_ok h9 _ _ T F f b ((k:Int)+1) E Z9) ?_
   rintro _ h10 ⟨⟨vn2,l2,rfl,on2,_,hl2⟩,e10⟩
   have A2:=hl2 hz1
   have hll2:=zFD A2.rise A2.reg hN.1
   have o1:=o1.ext e10
   have E:=E.ext e10
   have si:=SlN.ext si e10
   have o14:=o14.ext e10
   have sn2:=on2.sl
   obtain⟨csx,hcsx,pcx,hsx⟩:=yL si hk
   have hcsx0:=hcsx
   obtain⟨va,vf,rfl,sa,sfr,ha1',ha2',ho1,ho2⟩:=hcsx0
   obtain⟨aa,an,ak,rfl⟩:=SlC.shape sa
   obtain⟨fa,fn,fk,rfl⟩:=SlC.shape sfr
   have hx20:=hUx.args
   have hstep:∀ r,r∈l↔r∈y9 (B.ins.getD k default)∨(r∈l2∧r≠YR (Zb T F f) (yK F f) b+(k:Int)):=fun r=>by
    have h1:=A.out.mem r
    have h2:=A2.mem r
    rw[show ((k:Nat):Int).toNat=k by omega]at h1
    rw[show ((k:Int)+1).toNat=k+1 by omega]at h2
    rw[h1,zDt (by rw[←hBh.out];exact hk),h2,←hBh.out]
    exact or_congr Iff.rfl And.comm
   have hstep:=Hid.mk hstep
   have hub:(Yg (B.ins.getD k default)).length≤22:=by
    unfold Yg
    simp only[List.length_append]
    split<;>split<;>split<;>simp only[List.length_cons,List.length_nil]<;>omega
   have hreg:WC Tryd.prog tb 16 [.agg #[.slice ta tn tk,.slice ga gn gk],I f,I b,I (k:Int)]=WC Tryd.prog tb 16 [.agg #[.slice ta tn tk,.slice ga gn gk],I f,I b,I (k:Int)]:=rfl
   clear hreg
   refine go ?_
   refine WO.con (zGe h10 _ _ hcsx E.tt hx20) ?_
   rintro v11 h11 ⟨o11,e11⟩
   have o1:=o1.ext e11
   have E:=E.ext e11
   have si:=SlN.ext si e11
   have o14:=o14.ext e11
   have sn2:=SlI.ext sn2 e11
   have su:=o11.sl
   obtain⟨csy,hcsy,pcy,hsy⟩:=yL si hk
   obtain⟨va',vf',rfl,sa',sfr',_,_,_,_⟩:=hcsy
   by_cases c22:(B.ins.getD k default).op=22
   ·refine go ?_
    refine WO.con (zE7 h11 _ _ T F f _ _ E O b (k:Int) ⟨hb0,hb1⟩ (by rw[←hBh.out];omega)) ?_
    rintro _ h12 ⟨rfl,e12⟩
    refine go ?_
    refine zE ⟨_,_,l2,[],_,e10.trans (e11.trans e12),sl_,sl_,sl_,SlI.ext sn2 e12,SlI.nil _,by omega,by simp,⟨fun r=> ?_⟩⟩
    rw[hstep.out r,show y9 (B.ins.getD k default)=[] by unfold y9;rw[if_pos c22]]
   ·refine go ?_
    refine WO.con (zE7 h11 _ _ T F f _ _ E O b (k:Int) ⟨hb0,hb1⟩ (by rw[←hBh.out];omega)) ?_
    rintro _ h12 ⟨rfl,e12⟩
    refine go ?_
    refine zE ⟨_,_,l2,_,_,e10.trans (e11.trans e12),sl_,sl_,sl_,SlI.ext sn2 e12,SlI.ext su e12,by omega,by omega,⟨fun r=> ?_⟩⟩
    rw[hstep.out r,show y9 (B.ins.getD k default)=Yg (B.ins.getD k default) by unfold y9;rw[if_neg c22]]
  ·have hke:k=B.ins.length:=by omega
   refine go ?_
   refine WO.con (lEnd_ok h9 _ _ T F f b E Z9) ?_
   rintro _ h10 ⟨⟨vn2,l2,rfl,on2,_,hl2⟩,e10⟩
   have A2:=hl2 hnx
   have hll2:=zFD A2.rise A2.reg hN.1
   have sn2:=on2.sl
   have hul:(Y5 B.fin).length≤1:=by unfold Y5;split<;>simp
   refine go ?_
   refine zE ⟨_,_,l2,_,_,e10,sl_,sl_,sl_,sn2,SlI.ext s16 e10,by omega,by omega,⟨fun r=> ?_⟩⟩
   have h1:=A.out.mem r
   rw[show ((k:Nat):Int).toNat=k by omega,zEK (by rw[←hBh.out];omega),←hBh.out]at h1
   rw[h1,A2.mem r]
   constructor
   ·rintro(q|q)
    ·exact .inl q
    ·exact .inr ⟨q,by have:=(A2.reg r ((A2.mem r).2 q)).1;omega⟩
   ·rintro(q|⟨q,_⟩)
    ·exact .inl q
    ·exact .inr q
 rintro t10 h10 hs10 ⟨v15',v16',l15,l16,own,e10,s15,s16',s17,sl15,sl16,ll15,ll16,hmem⟩
 have sn:=SlI.ext sn e10
 have n1:(true != true)=false:=rfl
 have n2:(false != false)=false:=rfl
 refine go ?_
 refine WX.loopA [116,117,118,121,122,123,124,125,126,127,128,129,130,131,132,133,134,135,136,137,8,119,120,18] (by kernel_rfl) (fun r=>(z8 (Zb T F f) (yK F f)).toNat - r) (fun r t h'=>h10=h'∧zB t 18=I (r:Nat)∧(r:Int)≤z8 (Zb T F f) (yK F f)) 0 ?_ ?_
 ·exact⟨rfl,sl_,hN.1⟩
 rintro r t11 _ hsame ⟨rfl,s18,hr⟩
 refine go ?_
 refine WX.br (fun hc=> ?_) (fun hc=> ?_)<;>simp only[DB]at hc
 ·refine go ?_
  refine WO.con (zCE h10 vn l (r:Int) sn (by omega)) ?_
  rintro _ _ ⟨rfl,rfl⟩
  refine go ?_
  refine WO.con (zCE h10 v16' l16 (r:Int) sl16 (by omega)) ?_
  rintro _ _ ⟨rfl,rfl⟩
  have hm:=hmem.out (r:Int)
  by_cases q16:(r:Int)∈l16
  ·rw[decide_eq_true q16,decide_eq_true (hm.2 (.inl q16))]
   refine go ?_
   rw[n1]
   refine go ?_
   exact zA (r+1) (by omega) ⟨rfl,sln,by omega⟩
  ·rw[decide_eq_false q16]
   refine go ?_
   refine WO.con (zCE h10 v15' l15 (r:Int) sl15 (by omega)) ?_
   rintro _ _ ⟨rfl,rfl⟩
   by_cases q15:(r:Int)∈l15
   ·rw[decide_eq_true q15]
    by_cases qo:(r:Int)=own
    ·rw[decide_eq_false (fun q=>((hm.1 q).elim q16 (fun q=>q.2 qo)))]
     refine go ?_
     rw[decide_eq_true qo,show (false != !true)=false from rfl]
     refine go ?_
     exact zA (r+1) (by omega) ⟨rfl,sln,by omega⟩
    ·rw[decide_eq_true (hm.2 (.inr ⟨q15,qo⟩))]
     refine go ?_
     rw[decide_eq_false qo,show (true != !false)=false from rfl]
     refine go ?_
     exact zA (r+1) (by omega) ⟨rfl,sln,by omega⟩
   ·rw[decide_eq_false q15,decide_eq_false (fun q=>((hm.1 q).elim q16 (fun q=>q15 q.1)))]
    refine go ?_
    rw[n2]
    refine go ?_
    exact zA (r+1) (by omega) ⟨rfl,sln,by omega⟩
 ·refine go ?_
  refine rt ?_
  rfl
end Go.Proofs.YtemggiegiejopaaDoor
