/- What functions of the program come to in the abstract machine, and plain laws about it; no statement of the seat is proved in this text. -/
import Derived.Test.YtemggiegiejopaaDoorJd
import Derived.Test.YtemggiegiejopaaDoorJa
import Derived.Test.YtemggiegiejopaaDoorAmE
namespace Go.Proofs.YtemggiegiejopaaDoor
open Go.Am
set_option linter.unusedVariables false
set_option linter.unusedSimpArgs false
set_option maxHeartbeats 4000000
theorem zEk {T:List LType} {F:List LFn} {f par:Int} {L:List LBlk} (O:FnOk T F f L par) {b:Int} (hb:0≤b∧b<(L.length:Int)):zT T F f b=(L,0):=by
 have h1:(YB T F f).2=0:=by unfold YB;rw[O.ask];rfl
 have hL:=O.isL
 unfold zT
 rw[if_neg (by omega),if_neg (by rw[←hL];omega),←hL]
theorem zE1 {T:List LType} {F:List LFn} {f par:Int} {L:List LBlk} (O:FnOk T F f L par) {b:Int} (hb:0≤b∧b<(L.length:Int)):ZK T F f b=(nxL L b,0):=by
 unfold ZK;rw[zEk O hb];rfl
theorem preds_of {T:List LType} {F:List LFn} {f par:Int} {L:List LBlk} (O:FnOk T F f L par) {b:Int} (hb:0≤b∧b<(L.length:Int)):zAe T F f b=(y9 L b L.length,0):=by
 unfold zAe;rw[zEk O hb];rfl
theorem zCW {L:List LBlk} {b c:Int}:c∈y9 L b L.length↔0≤c∧c<(L.length:Int)∧b∈nxL L c:=by
 unfold y9 nxL
 rw[List.mem_map]
 constructor
 ·rintro⟨i,hi,rfl⟩
  obtain⟨h1,h2⟩:=List.mem_filter.1 hi
  rw[List.mem_range]at h1
  exact⟨by omega,by omega,by simpa using h2⟩
 ·rintro⟨h0,h1,h2⟩
  exact⟨c.toNat,List.mem_filter.2 ⟨List.mem_range.2 (by omega),by simpa using h2⟩,by omega⟩
theorem zBP (l:List Int) {i:Nat} (h:i<l.length):l.take (i+1)=l.take i++[l.getD i 0]:=by
 rw[List.take_add_one];simp[List.getD,List.getElem?_eq_getElem h]
theorem zEN {l:List Int} {i:Nat} (h:i<l.length):l.getD i 0∈l:=by
 rw[List.getD_eq_getElem?_getD,List.getElem?_eq_getElem h];exact List.getElem_mem h
theorem zFm {S:Zb} {P:List LWd→Prop} (h:∀ s∈S,P s) {i:Nat} (hi:i<S.length):P (S.getD i []):=by
 rw[List.getD_eq_getElem?_getD,List.getElem?_eq_getElem hi];exact h _ (List.getElem_mem hi)
theorem zI9 {h h':AHeap} {v:Value} {l:List Int} {gm:Nat} (s:SlI h v l) (u:UpdM (.map (some gm)) h h') (hx:∀ a n c,v= .slice (some a) n c→a.block≠gm):SlI h' v l:=by
 refine⟨s.1,s.2.imp id ?_⟩
 rintro⟨g,off,row,rfl,hr,hc,hg⟩
 have:=hx _ _ _ rfl
 refine⟨g,off,row,rfl,?_,hc,Nat.lt_of_lt_of_le hg u.1⟩
 unfold zi at hr ⊢
 rw[u.2 g hg (fun e=>by cases e;exact this rfl)];exact hr
noncomputable def body34_0:ACode:=(.seq (.region [⟨some 36,none,(.bin .lss (.tmp 35) (.tmp 34))⟩]) (.seq (.cond (.tmp 36) .skip (.exit 0)) (.seq (.block 1 (.seq (.region [⟨some 37,none,(.idx 1 (.tmp 33) (.tmp 35))⟩,⟨some 38,none,(.load false 1 (.tmp 37))⟩,⟨some 8,none,(.mov (.tmp 38))⟩]) (.seq (.region [⟨some 40,none,(.mov (.tmp 6))⟩,⟨some 41,none,(.mov (.tmp 0))⟩,⟨some 42,none,(.nilCheck (.tmp 41))⟩,⟨some 43,none,(.fld 3 (.tmp 42))⟩,⟨some 44,none,(.load false 1 (.tmp 43))⟩,⟨some 45,none,(.mov (.tmp 8))⟩,⟨some 46,none,(.idx 1 (.tmp 44) (.tmp 45))⟩,⟨some 47,none,(.load false 1 (.tmp 46))⟩,⟨some 48,none,(.call (.func 42) [(.tmp 40),(.tmp 47)])⟩,⟨some 39,none,(.mov (.tmp 48))⟩,⟨some 49,none,(.extract (.tmp 39) 0)⟩,⟨some 50,none,(.extract (.tmp 39) 1)⟩,⟨some 6,none,(.mov (.tmp 49))⟩]) (.regionC [(⟨some 51,none,(.mov (.tmp 6))⟩,[]),(⟨some 52,none,(.mov (.tmp 0))⟩,[]),(⟨some 53,none,(.nilCheck (.tmp 52))⟩,[]),(⟨some 54,none,(.fld 0 (.tmp 53))⟩,[]),(⟨some 55,none,(.fld 1 (.tmp 54))⟩,[]),(⟨some 56,none,(.load false 1 (.tmp 55))⟩,[]),(⟨some 57,none,(.mov (.tmp 0))⟩,[]),(⟨some 58,none,(.nilCheck (.tmp 57))⟩,[]),(⟨some 59,none,(.fld 2 (.tmp 58))⟩,[]),(⟨some 60,none,(.load false 1 (.tmp 59))⟩,[]),(⟨some 61,none,(.idx 2 (.tmp 56) (.tmp 60))⟩,[]),(⟨some 62,none,(.fld 1 (.tmp 61))⟩,[]),(⟨some 63,none,(.load false 1 (.tmp 62))⟩,[]),(⟨some 64,none,(.mov (.tmp 8))⟩,[]),(⟨some 65,none,(.idx 5 (.tmp 63) (.tmp 64))⟩,[]),(⟨some 66,none,(.load true 5 (.tmp 65))⟩,[]),(⟨some 67,none,(.mov (.tmp 1))⟩,[]),(⟨some 68,none,(.call (.func 43) [(.tmp 66),(.tmp 67)])⟩,[]),(⟨some 69,none,(.call (.func 35) [(.tmp 51),(.tmp 68)])⟩,[]),(⟨some 6,none,(.mov (.tmp 69))⟩,[])])))) (.region [⟨some 70,none,(.bin .add (.tmp 35) (.const (.int .i64 1)))⟩,⟨some 35,none,(.mov (.tmp 70))⟩]))))
noncomputable def body34_1:ACode:=(.seq (.region [⟨some 113,none,(.bin .lss (.tmp 112) (.tmp 111))⟩]) (.seq (.cond (.tmp 113) .skip (.exit 2)) (.seq (.block 3 (.seq (.region [⟨some 114,none,(.idx 1 (.tmp 110) (.tmp 112))⟩,⟨some 115,none,(.load false 1 (.tmp 114))⟩,⟨some 12,none,(.mov (.tmp 115))⟩]) (.region [⟨some 116,none,(.mov (.tmp 0))⟩,⟨some 117,none,(.nilCheck (.tmp 116))⟩,⟨some 118,none,(.fld 5 (.tmp 117))⟩,⟨some 119,none,(.load false 1 (.tmp 118))⟩,⟨some 120,none,(.mov (.tmp 12))⟩,⟨some 121,none,(.mov (.tmp 1))⟩,⟨none,none,(.update (.tmp 119) (.tmp 120) (.tmp 121))⟩]))) (.region [⟨some 122,none,(.bin .add (.tmp 112) (.const (.int .i64 1)))⟩,⟨some 112,none,(.mov (.tmp 122))⟩]))))
noncomputable def body34:ACode:=(.seq (.regionC [(⟨some 14,none,(.mov (.tmp 0))⟩,[]),(⟨some 15,none,(.nilCheck (.tmp 14))⟩,[]),(⟨some 16,none,(.fld 0 (.tmp 15))⟩,[]),(⟨some 17,none,(.load true 2 (.tmp 16))⟩,[]),(⟨some 18,none,(.mov (.tmp 0))⟩,[]),(⟨some 19,none,(.nilCheck (.tmp 18))⟩,[]),(⟨some 20,none,(.fld 2 (.tmp 19))⟩,[]),(⟨some 21,none,(.load false 1 (.tmp 20))⟩,[]),(⟨some 22,none,(.mov (.tmp 1))⟩,[]),(⟨some 23,none,(.call (.func 18) [(.tmp 17),(.tmp 21),(.tmp 22)])⟩,[]),(⟨some 13,none,(.mov (.tmp 23))⟩,[]),(⟨some 24,none,(.extract (.tmp 13) 0)⟩,[]),(⟨some 25,none,(.extract (.tmp 13) 1)⟩,[]),(⟨some 4,none,(.mov (.tmp 24))⟩,[]),(⟨some 5,none,(.mov (.tmp 25))⟩,[])]) (.seq (.region [⟨some 26,none,(.mov (.tmp 0))⟩,⟨some 27,none,(.nilCheck (.tmp 26))⟩,⟨some 28,none,(.fld 4 (.tmp 27))⟩,⟨some 29,none,(.load false 1 (.tmp 28))⟩,⟨some 30,none,(.mov (.tmp 1))⟩,⟨some 31,none,(.idx 1 (.tmp 29) (.tmp 30))⟩,⟨some 32,none,(.load false 1 (.tmp 31))⟩,⟨some 6,none,(.mov (.tmp 32))⟩]) (.seq (.seq (.region [⟨some 33,none,(.mov (.tmp 4))⟩,⟨some 34,none,(.len (.tmp 33))⟩,⟨some 35,none,(.mov (.const (.int .i64 0)))⟩]) (.block 0 (.loop body34_0))) (.seq (.region [⟨some 71,none,(.mov (.tmp 0))⟩,⟨some 72,none,(.nilCheck (.tmp 71))⟩,⟨some 73,none,(.fld 4 (.tmp 72))⟩,⟨some 74,none,(.load false 1 (.tmp 73))⟩,⟨some 75,none,(.mov (.tmp 1))⟩,⟨some 76,none,(.mov (.tmp 6))⟩,⟨some 77,none,(.idx 1 (.tmp 74) (.tmp 75))⟩,⟨none,none,(.store 1 (.tmp 77) (.tmp 76))⟩]) (.seq (.region [⟨some 78,none,(.mov (.tmp 0))⟩,⟨some 79,none,(.mov (.tmp 1))⟩,⟨some 80,none,(.call (.func 24) [(.tmp 78),(.tmp 79),(.const (.int .i64 0))])⟩,⟨some 6,none,(.mov (.tmp 80))⟩]) (.seq (.seq (.region [⟨some 81,none,(.mov (.tmp 6))⟩,⟨some 82,none,(.mov (.tmp 0))⟩,⟨some 83,none,(.nilCheck (.tmp 82))⟩,⟨some 84,none,(.fld 3 (.tmp 83))⟩,⟨some 85,none,(.load false 1 (.tmp 84))⟩,⟨some 86,none,(.mov (.tmp 1))⟩,⟨some 87,none,(.idx 1 (.tmp 85) (.tmp 86))⟩,⟨some 88,none,(.load false 1 (.tmp 87))⟩,⟨some 89,none,(.call (.func 44) [(.tmp 81),(.tmp 88)])⟩]) (.cond (.tmp 89) .ret .skip)) (.seq (.region [⟨some 90,none,(.mov (.tmp 0))⟩,⟨some 91,none,(.nilCheck (.tmp 90))⟩,⟨some 92,none,(.fld 3 (.tmp 91))⟩,⟨some 93,none,(.load false 1 (.tmp 92))⟩,⟨some 94,none,(.mov (.tmp 1))⟩,⟨some 95,none,(.mov (.tmp 6))⟩,⟨some 96,none,(.idx 1 (.tmp 93) (.tmp 94))⟩,⟨none,none,(.store 1 (.tmp 96) (.tmp 95))⟩]) (.seq (.regionC [(⟨some 98,none,(.mov (.tmp 0))⟩,[]),(⟨some 99,none,(.nilCheck (.tmp 98))⟩,[]),(⟨some 100,none,(.fld 0 (.tmp 99))⟩,[]),(⟨some 101,none,(.load true 2 (.tmp 100))⟩,[]),(⟨some 102,none,(.mov (.tmp 0))⟩,[]),(⟨some 103,none,(.nilCheck (.tmp 102))⟩,[]),(⟨some 104,none,(.fld 2 (.tmp 103))⟩,[]),(⟨some 105,none,(.load false 1 (.tmp 104))⟩,[]),(⟨some 106,none,(.mov (.tmp 1))⟩,[]),(⟨some 107,none,(.call (.func 45) [(.tmp 101),(.tmp 105),(.tmp 106)])⟩,[]),(⟨some 97,none,(.mov (.tmp 107))⟩,[]),(⟨some 108,none,(.extract (.tmp 97) 0)⟩,[]),(⟨some 109,none,(.extract (.tmp 97) 1)⟩,[]),(⟨some 9,none,(.mov (.tmp 108))⟩,[]),(⟨some 10,none,(.mov (.tmp 109))⟩,[])]) (.seq (.region [⟨some 110,none,(.mov (.tmp 9))⟩,⟨some 111,none,(.len (.tmp 110))⟩,⟨some 112,none,(.mov (.const (.int .i64 0)))⟩]) (.block 2 (.loop body34_1)))))))))))
set_option maxRecDepth 100000 in
theorem tab34:tb.code 34=some ⟨123,[],body34⟩:=by kernel_rfl
theorem look_ok (hB h:AHeap) (X gp gb ge gm:Nat) (vt vf:Value) (T:List LType) (F:List LFn) (f par:Int) (L:List LBlk) (bg ed:Zb) (es:List (Int×Int)) (b:Int) (S:FS hB h X gp gb ge gm vt vf f bg ed es) (E:EnvL hB vt vf T F) (O:FnOk T F f L par)
  (U:∀ x∈L,BlkU x (z9 par L) L.length) (hb:0≤b∧b<(L.length:Int)) (lb:bg.length=L.length) (le:ed.length=L.length) (okb:∀ s∈bg,OkW s∧∀ r,InW s r→r<z9 par L) (oke:∀ s∈ed,OkW s∧∀ r,InW s r→r<z9 par L):
  WC Tryd.prog tb 34 [.pointer (some ⟨gp,0,none⟩),I b] h fun _ h'=>∃ s1 s es',FS hB h' X gp gb ge gm vt vf f (bg.set b.toNat s) (ed.set b.toNat s1) es'∧(OkW s1∧∀ r,InW s1 r→r<z9 par L)∧(OkW s∧∀ r,InW s r→r<z9 par L)∧
   (∀ r,InW s1 r↔inS ed b r∨Yb L (inS bg) b r)∧(∀ r,InW s r↔yr par L b 0 (InW s1) r)∧((s=bg.getD b.toNat []∧es'=es)∨(s≠bg.getD b.toNat []∧(ZL es→ZL es')∧∀ c,c∈es'.map (·.1)↔c∈es.map (·.1)∨c∈y9 L b L.length)):=by
 have hF:=E.sm.funcs
 have hN:0≤z9 par L∧z9 par L≤228:=by
  have:=O.par0;have:=O.parl;have:=O.many;have:=yW L;unfold z9;omega
 have hf0:=O.f0
 have hf1:=O.f1
 have hisL:=O.isL
 have hlen:=O.len
 have hmB:=E.hm
 have hnx:=zE1 O hb
 have hpr:=preds_of O hb
 have hUb:=U _ (zM (l:=L) (i:=b.toNat) (by omega))
 have hrange:∀ k∈nxL L b,0≤k∧k<(L.length:Int):=hUb.next
 have hnl:(nxL L b).length≤2:=by unfold nxL Z2;split<;>(try split)<;>(try split)<;>simp
 have hpl:=zDP L b L.length
 have hpm:∀ c,c∈y9 L b L.length→0≤c∧c<(L.length:Int):=fun c hc=>let ⟨a,b,_⟩:=zCW.1 hc;⟨a,b⟩
 obtain⟨ta,tn,tk,rfl⟩:=zJ E.st
 obtain⟨ga,gn,gk,rfl⟩:=zJ E.sf
 have E0:=E.ext S.e
 have o1:=S.own
 refine WC.of (zF 34) tab34 ?_;simp only[zN,Nat.zero_add,Nat.reduceAdd]
 refine go ?_
 refine WX.regionU2 0 rfl rfl ?_
 have oX:OwnC hB (inC (zC 0 h)) (.pointer (some ⟨gp,0,none⟩)) [.slice ta tn tk,.slice ga gn gk,I f,.slice (some ⟨gb,0,none⟩) bg.length 1,.slice (some ⟨ge,0,none⟩) ed.length 1,.map (some gm)]:=o1
 refine goU ?_
 refine WO.con (zE8 (inC (zC 0 h)) _ _ T F f b E0.inC.tt (Nat.le_refl _) E0.sm E0.inC.st E0.inC.sf) ?_
 rintro _ h1 ⟨⟨vn,rfl,sn,_⟩,e1⟩
 rw[hnx]at sn ⊢
 refine WO.nil ?_
 refine ZD e1 zY ?_
 refine goU ?_
 have e01:Ext h (outC h (inC h1)):=extI e1
 have sn2:SlI (outC h (inC h1)) vn (nxL L b):=sn
 generalize outC h (inC h1)=h2 at e01 sn2 ⊢
 clear sn e1 oX
 have S2:=S.ext e01
 have o2:=S2.own
 have sE2:=S2.ends
 obtain⟨csE,⟨ve,rfl,hfar⟩,pcE,hsE⟩:=yd S2.ends (i:=b.toNat) (by omega)
 obtain⟨ea,en,ek,rfl⟩:=yV hfar.1
 have hed:List.getD ed b.toNat (default:List LWd)=ed.getD b.toNat []:=rfl
 rw[hed]at hfar
 have oed:=zFm oke (i:=b.toNat) (by omega)
 refine go ?_
 refine WX.loopA [36,37,38,8,40,41,42,43,44,45,46,47,48,39,49,50,6,51,52,53,54,55,56,57,58,59,60,61,62,63,64,65,66,67,68,69,6,70,35] (by kernel_rfl) (fun i=>(nxL L b).length - i) (fun i t h3=>∃ v s,zB t 35=I i∧i≤(nxL L b).length∧Ext h2 h3∧zB t 6=v∧FarW h3 X v s∧Hid (OkW s∧∀ r,InW s r→r<z9 par L)∧Hid (∀ r,InW s r↔inS ed b r∨∃ k∈(nxL L b).take i,inS bg k r∨r∈zAN (L.getD k.toNat default) b)) 0 ?_ ?_
 ·exact⟨_,ed.getD b.toNat [],sl_,Nat.zero_le _,Ext.refl _,sl_,hfar,⟨oed⟩,⟨fun r=>by simp[inS]⟩⟩
 rintro i t h3 hsame ⟨v,s,s35,hi,e3,s6,hv,os,hs⟩
 have S3:=S2.ext e3
 have E3:=E.ext S3.e
 have o3:=S3.own
 have sn3:=SlI.ext sn2 e3
 have hsl:s.length≤228:=by
  have:=Ym (N:=(z9 par L).toNat) os.out.1 fun r q=>by have:=os.out.2 r q;omega
  omega
 obtain⟨wa,wn,wk,rfl⟩:=yV hv.1
 refine go ?_
 refine WX.br (fun hc=> ?_) (fun hc=> ?_)<;>simp only[DB]at hc
 ·have hi':i<(nxL L b).length:=by omega
  have hk:=hrange _ (zEN hi')
  have htk:=zBP (nxL L b) hi'
  have sB3:=S3.begs
  obtain⟨csB,⟨vb,rfl,hfb⟩,pcB,hsB⟩:=yd S3.begs (i:=((nxL L b).getD i 0).toNat) (by omega)
  obtain⟨xa,xn,xk,rfl⟩:=yV hfb.1
  have obk:=zFm okb (i:=((nxL L b).getD i 0).toNat) (by omega)
  have hbd:List.getD bg ((nxL L b).getD i 0).toNat (default:List LWd)=bg.getD ((nxL L b).getD i 0).toNat []:=rfl
  rw[hbd]at hfb
  have hbl:(bg.getD ((nxL L b).getD i 0).toNat []).length≤228:=by
   have:=Ym (N:=(z9 par L).toNat) obk.1 fun r q=>by have:=obk.2 r q;omega
   omega
  have hUk:=U _ (zM (l:=L) (i:=((nxL L b).getD i 0).toNat) (by omega))
  have hbm:=O.ins _ (zM (l:=L) (i:=((nxL L b).getD i 0).toNat) (by omega))
  have hm3:h3.mark≤h3.n:=E3.hm
  refine go ?_
  refine WO.con (or_ok h3 _ _ s _ hv.1 hfb.1 (by omega) (by omega) hm3) ?_
  rintro _ h4 ⟨⟨v4,rfl,m4⟩,e4⟩
  rw[zDb os.out.1 obk.1]
  rw[zDW os.out.1 obk.1]at m4
  obtain⟨oo,io⟩:=or_is os.out.1 obk.1
  have hlo:=y8 (fun a b=>a|||b) s (bg.getD ((nxL L b).getD i 0).toNat [])
  obtain⟨s4,hs4⟩:∃ s4,s4=zj (fun a b=>a|||b) s (bg.getD ((nxL L b).getD i 0).toNat []):=⟨_,rfl⟩
  have hor:∀ r,InW s4 r↔InW s r∨inS bg ((nxL L b).getD i 0) r:=fun r=>by
   rw[hs4,←Zs,io,Bool.or_eq_true,Zs,Zs];exact Iff.rfl
  have oo:OkW s4:=by rw[hs4];exact oo
  rw[←hs4]at m4 hlo
  clear hs4 io
  have k4:=m4.sl
  obtain⟨ya,yn,yk,rfl⟩:=yV k4
  have hX3:=S3.hX
  have hor:=Hid.mk hor
  have hfar4:=m4.far hX3
  clear m4 hfb pcB hsB sB3
  have S4:=S3.ext e4
  have E4:=E.ext S4.e
  have o4:=S4.own
  have sf4:=E4.sf
  refine go ?_
  refine WX.regionU2 0 rfl rfl ?_
  have oX:OwnC hB (inC (zC 0 h4)) (.pointer (some ⟨gp,0,none⟩)) [.slice ta tn tk,.slice ga gn gk,I f,.slice (some ⟨gb,0,none⟩) bg.length 1,.slice (some ⟨ge,0,none⟩) ed.length 1,.map (some gm)]:=o4
  have sfX:SlF (inC (zC 0 h4)) (.slice ga gn gk) F:=sf4
  obtain⟨csF,⟨vbl,rfl,sb,hlb⟩,pcF,hsF⟩:=yy sf4 (i:=f.toNat) (by omega)
  obtain⟨ba,bn,bk,rfl⟩:=zJ sb
  rw[←hisL]at sb
  have sbX:SlB (inC (zC 0 h4)) (.slice ba bn bk) L:=sb
  obtain⟨csK,hcsK,pcK,hsK⟩:=yy sb (i:=((nxL L b).getD i 0).toNat) (by omega)
  have hcsK0:=hcsK
  have pcFX:=(pcF _ (Ext.refl _)).2
  have pcFX:Piece (inC (zC 0 h4)) (.slice ga gn gk) (f.toNat * 2) [I (F.getD f.toNat default).sig,.slice ba bn bk]:=pcFX
  have pcKX:=(pcK _ (Ext.refl _)).2
  obtain⟨vi,rfl,si,hli⟩:=hcsK0
  obtain⟨ia,iN,ik,rfl⟩:=zJ si
  have pcKX:Piece (inC (zC 0 h4)) (.slice ba bn bk) (((nxL L b).getD i 0).toNat * 5) [.slice ia iN ik,.int .u8 (L.getD ((nxL L b).getD i 0).toNat default).fin.kind,I (L.getD ((nxL L b).getD i 0).toNat default).fin.a,I (L.getD ((nxL L b).getD i 0).toNat default).fin.to,I (L.getD ((nxL L b).getD i 0).toNat default).fin.els]:=pcKX
  have hcsX:RBlk (inC (zC 0 h4)) [.slice ia iN ik,.int .u8 (L.getD ((nxL L b).getD i 0).toNat default).fin.kind,I (L.getD ((nxL L b).getD i 0).toNat default).fin.a,I (L.getD ((nxL L b).getD i 0).toNat default).fin.to,I (L.getD ((nxL L b).getD i 0).toNat default).fin.els] (L.getD ((nxL L b).getD i 0).toNat default):=hcsK
  refine goU ?_
  refine WO.con (phis_ok (inC (zC 0 h4)) (L.getD ((nxL L b).getD i 0).toNat default) _ b hcsX hbm (fun x hx=>(hUk.ins x hx).frm) (fun x hx e=>((hUk.ins x hx).phi e).1)) ?_
  rintro vp h5 ⟨op,e5⟩
  refine WO.nil ?_
  refine ZD e5 zY ?_
  have hpl2:(zAN (L.getD ((nxL L b).getD i 0).toNat default) b).length≤2560:=by
   have:=zAi (L.getD ((nxL L b).getD i 0).toNat default).ins b fun x hx=>(hUk.ins x hx).frm
   have h2:(zAN (L.getD ((nxL L b).getD i 0).toNat default) b).length≤20 * (L.getD ((nxL L b).getD i 0).toNat default).ins.length:=this
   omega
  have hpr2:∀ r∈zAN (L.getD ((nxL L b).getD i 0).toNat default) b,0≤r∧r<z9 par L:=fun r hr=>phis_in hUk hr
  have k5:SlW (inC h5) (.slice ya yn yk) s4:=by have:=SlW.ext k4 (extI e5);exact this
  have sp5:SlI (inC h5) vp (zAN (L.getD ((nxL L b).getD i 0).toNat default) b):=by have:=op.sl;exact this
  refine goU ?_
  refine WO.con (zEz (inC h5) _ _ s4 (zAN (L.getD ((nxL L b).getD i 0).toNat default) b) k5 sp5 oo (fun n hn=>by have:=hpr2 n hn;omega) (by omega) (by omega) (Nat.le_refl _)) ?_
  rintro v6 h6 ⟨⟨t6,m6,o6,len6,mem6⟩,e6⟩
  refine WO.nil ?_
  refine ZD e6 zY ?_
  have e46:Ext h4 (outC h4 (inC h6)):=extI2 e5 e6
  have m6:MineW h4 (outC h4 (inC h6)) v6 t6:=mineR m6 (by have:=e5.n;exact this)
  have hX4:=S4.hX
  refine goU ?_
  have hfar6:=m6.far hX4
  generalize outC h4 (inC h6)=h7 at e46 m6 hfar6 ⊢
  refine go ?_
  refine zA (i+1) (by omega) ⟨v6,t6,sln,by omega,e3.trans (e4.trans e46),sl_,hfar6,⟨o6,fun r q=> ?_⟩,⟨fun r=> ?_⟩⟩
  ·rcases(mem6 r).1 q with q|q
   ·rcases(hor.out r).1 q with q|q
    ·exact os.out.2 r q
    ·exact obk.2 r q
   ·exact(hpr2 r q).2
  ·rw[mem6,hor.out,hs.out,htk]
   constructor
   ·rintro(((a|⟨k,hk,q⟩)|c)|d)
    ·exact .inl a
    ·exact .inr ⟨k,List.mem_append.2 (.inl hk),q⟩
    ·exact .inr ⟨_,List.mem_append.2 (.inr (List.mem_singleton.2 rfl)),.inl c⟩
    ·exact .inr ⟨_,List.mem_append.2 (.inr (List.mem_singleton.2 rfl)),.inr d⟩
   ·rintro(a|⟨k,hk,q⟩)
    ·exact .inl (.inl (.inl a))
    ·rcases List.mem_append.1 hk with hk|hk
     ·exact .inl (.inl (.inr ⟨k,hk,q⟩))
     ·rw[List.mem_singleton]at hk
      subst hk
      exact q.elim (fun c=> .inl (.inr c)) .inr
 ·have hil:i=(nxL L b).length:=by omega
  subst hil
  rw[List.take_length]at hs
  have sE3:=S3.ends
  have hsets:∀ x:List LWd,(ed.set b.toNat x).getD b.toNat []=x:=fun x=>by
   rw[List.getD_eq_getElem?_getD,List.getElem?_set_self (by omega)];rfl
  refine go ?_
  refine WO.stRow (i:=b.toNat) S3.se S3.e S3.de S3.hX (by omega) hv ?_
  intro h4 e4 r4 n4 k4
  have S4:=S3.setE e4 r4 (by rw[List.length_set]) (by omega) k4
  have E4:=E.ext e4
  have hE:inS (ed.set b.toNat s) b=InW s:=by funext r;unfold inS;rw[hsets]
  have hat:WC Tryd.prog tb 24 [.pointer (some ⟨gp,0,none⟩),I b,I 0] h4 _:=zEB hB h4 X gp gb ge gm _ _ T F f par L bg (ed.set b.toNat s) es b 0 S4 E4 O U hb (Nat.zero_le _) (by rw[List.length_set];exact le) (by rw[hsets,hE];exact os.out)
  refine go ?_
  refine WO.con hat ?_
  rintro v5 h5 ⟨⟨t5,m5,o5,mem5⟩,e5⟩
  rw[hE]at mem5
  clear hat
  have S5:=S4.ext e5
  have E5:=E4.ext e5
  have k5:=m5.sl
  have hX4:=S4.hX
  have far5:=m5.far hX4
  obtain⟨ya,yn,yk,rfl⟩:=yV k5
  have o5p:=S5.own
  have sB5:=S5.begs
  obtain⟨csB,⟨vb,rfl,hfb⟩,pcB,hsB⟩:=yd S5.begs (i:=b.toNat) (by omega)
  obtain⟨xa,xn,xk,rfl⟩:=yV hfb.1
  have hbd:List.getD bg b.toNat (default:List LWd)=bg.getD b.toNat []:=rfl
  rw[hbd]at hfb
  have hlt:∀ r,InW t5 r→r<z9 par L:=fun r q=>by
   have q:=(mem5 r).1 q
   unfold yr at q
   exact(zBa (fun x hx=>(hUb.ins x (List.mem_of_mem_drop hx)).uses) (fun r q=>q.elim (fun q=>hUb.ends r q) fun q=>⟨(InW.range os.out.1 q).1,os.out.2 r q⟩) q).2
  have ht5:t5.length≤228:=by
   have:=Ym (N:=(z9 par L).toNat) o5 fun r q=>by have:=hlt r q;omega
   omega
  have mem5:=Hid.mk mem5
  have hlt:=Hid.mk hlt
  have hs':Hid (∀ r,InW s r↔inS ed b r∨Yb L (inS bg) b r):=⟨hs.out⟩
  refine go ?_
  refine WO.con (same_ok h5 _ _ t5 (bg.getD b.toNat []) k5 hfb.1 (by omega)) ?_
  rintro _ _ ⟨rfl,rfl⟩
  by_cases heq:t5=bg.getD b.toNat []
  ·rw[decide_eq_true heq]
   refine go ?_
   refine rt ?_
   refine⟨s,t5,es,?_,os.out,⟨o5,hlt.out⟩,hs'.out,mem5.out,.inl ⟨heq,rfl⟩⟩
   have hself:bg.set b.toNat t5=bg:=by
    rw[heq,List.getD_eq_getElem?_getD,List.getElem?_eq_getElem (show b.toNat<bg.length by omega)]
    exact List.set_getElem_self _
   rw[hself];exact S5
  ·rw[decide_eq_false heq]
   refine go ?_
   refine WO.stRow (i:=b.toNat) S5.sb S5.e S5.db S5.hX (by omega) far5 ?_
   intro h6 e6 r6 n6 k6
   have S6:=S5.setB e6 r6 (by rw[List.length_set]) (by omega) k6
   have E6:=E.ext e6
   have o6p:=S6.own
   clear sB5 pcB hfb hsB far5 k5 o5p S5 S4 S3 sE3
   refine go ?_
   refine WX.regionU2 0 rfl rfl ?_
   have oX:OwnC hB (inC (zC 0 h6)) (.pointer (some ⟨gp,0,none⟩)) [.slice ta tn tk,.slice ga gn gk,I f,.slice (some ⟨gb,0,none⟩) (bg.set b.toNat t5).length 1,.slice (some ⟨ge,0,none⟩) (ed.set b.toNat s).length 1,.map (some gm)]:=o6p
   refine goU ?_
   refine WO.con (Preds_ok (inC (zC 0 h6)) _ _ T F f b E6.inC.tt (Nat.le_refl _) E6.sm E6.inC.st E6.inC.sf) ?_
   rintro _ h7 ⟨⟨vp,rfl,op⟩,e7⟩
   rw[hpr]at op ⊢
   refine WO.nil ?_
   refine ZD e7 zY ?_
   refine goU ?_
   have e67:Ext h6 (outC h6 (inC h7)):=extI e7
   have sp:SlI (outC h6 (inC h7)) vp (y9 L b L.length):=by have:=op.sl;exact this
   have hpX:∀ a n c,vp= .slice (some a) n c→a.block≠gm:=fun a n c e=>by
    rcases op with ⟨q,_⟩|⟨q,q1,q2,q3,q4⟩
    ·rw[q]at e;cases e
    ·rw[q3]at e;cases e
     have h1:h6.n≤q:=q1
     have:=S6.hX
     have:=S6.dm.2
     show q≠gm
     omega
   generalize outC h6 (inC h7)=h8 at e67 sp ⊢
   have S8:=S6.ext e67
   have hpl16:(y9 L b L.length).length≤16:=by omega
   generalize hA:y9 L b L.length=A at *
   refine go ?_
   refine WX.loopA [113,114,115,12,116,117,118,119,120,121,122,112] (by kernel_rfl) (fun i=>A.length - i) (fun i t h9=>∃ es',zB t 112=I i∧i≤A.length∧FS hB h9 X gp gb ge gm (.slice ta tn tk) (.slice ga gn gk) f (bg.set b.toNat t5) (ed.set b.toNat s) es'∧SlI h9 vp A∧Hid ((ZL es→ZL es')∧∀ c,c∈es'.map (·.1)↔c∈es.map (·.1)∨c∈A.take i)) 0 ?_ ?_
   ·exact⟨es,sl_,Nat.zero_le _,S8,sp,⟨id,fun c=>by simp⟩⟩
   rintro i t9 h9 hsame9 ⟨es',s112,hi9,S9,sp9,hK⟩
   have o9:=S9.own
   refine go ?_
   refine WX.br (fun hc9=> ?_) (fun hc9=> ?_)<;>simp only[DB]at hc9
   ·have hi':i<A.length:=by omega
    have htk:=zBP A hi'
    refine go ?_
    refine WO.upM S9.rm S9.e ?_
    intro h10 e10 o10 u10
    have S10:=S9.setM e10 o10 u10
    have sp10:=zI9 sp9 u10 hpX
    refine go ?_
    refine zA (i+1) (by omega) ⟨_,sln,by omega,S10,sp10,⟨fun q=>zB8 (hK.out.1 q),fun c=> ?_⟩⟩
    rw[zCM,hK.out.2,htk,List.mem_append,List.mem_singleton]
    constructor
    ·rintro(a|a|a)
     ·exact .inr (.inr a)
     ·exact .inl a
     ·exact .inr (.inl a)
    ·rintro(a|a|a)
     ·exact .inr (.inl a)
     ·exact .inr (.inr a)
     ·exact .inl a
   ·refine go ?_
    refine rtN ?_
    rw[show i=A.length by omega,List.take_length]at hK
    exact⟨s,t5,es',S9,os.out,⟨o5,hlt.out⟩,hs'.out,mem5.out,.inr ⟨heq,hK.out.1,hK.out.2⟩⟩
end Go.Proofs.YtemggiegiejopaaDoor
namespace Go.Proofs.YtemggiegiejopaaDoor
open Go.Am
set_option linter.unusedVariables false
set_option linter.unusedSimpArgs false
set_option maxHeartbeats 4000000
theorem zFo (v:Value):∀ n,zy [v] n=List.replicate n v
 |0=>rfl
 |n+1=>by rw[zy,zFo v n];rfl
theorem keys_nil {es:List (Int×Int)} (h:∀ c,c∉es.map (·.1)):es=[]:=by
 cases es with
 |nil=>rfl
 |cons e es=>exact absurd (List.mem_map.2 ⟨e,List.mem_cons_self ..,rfl⟩) (h e.1)
noncomputable def body23_0:ACode:=(.seq (.region [⟨some 32,none,(.bin .lss (.tmp 31) (.tmp 30))⟩]) (.seq (.cond (.tmp 32) .skip (.exit 0)) (.seq (.block 1 (.seq (.region [⟨some 33,none,(.mov (.tmp 31))⟩,⟨some 8,none,(.mov (.tmp 33))⟩]) (.region [⟨some 34,none,(.mov (.tmp 6))⟩,⟨some 35,none,(.nilCheck (.tmp 34))⟩,⟨some 36,none,(.fld 5 (.tmp 35))⟩,⟨some 37,none,(.load false 1 (.tmp 36))⟩,⟨some 38,none,(.mov (.tmp 8))⟩,⟨some 39,none,(.mov (.tmp 8))⟩,⟨none,none,(.update (.tmp 37) (.tmp 38) (.tmp 39))⟩]))) (.region [⟨some 40,none,(.bin .add (.tmp 31) (.const (.int .i64 1)))⟩,⟨some 31,none,(.mov (.tmp 40))⟩]))))
noncomputable def body23_1:ACode:=(.seq (.region [⟨some 49,none,(.bin .lss (.tmp 48) (.tmp 47))⟩]) (.seq (.cond (.tmp 49) .skip (.exit 4)) (.seq (.block 5 (.seq (.region [⟨some 50,none,(.mov (.tmp 48))⟩,⟨some 9,none,(.mov (.tmp 50))⟩]) (.seq (.region [⟨some 52,none,(.mov (.tmp 6))⟩,⟨some 53,none,(.nilCheck (.tmp 52))⟩,⟨some 54,none,(.fld 5 (.tmp 53))⟩,⟨some 55,none,(.load false 1 (.tmp 54))⟩,⟨some 56,none,(.mov (.tmp 9))⟩,⟨some 57,none,(.lookup true (.int .i64 0) (.tmp 55) (.tmp 56))⟩,⟨some 51,none,(.mov (.tmp 57))⟩,⟨some 58,none,(.extract (.tmp 51) 0)⟩,⟨some 59,none,(.extract (.tmp 51) 1)⟩,⟨some 10,none,(.mov (.tmp 58))⟩,⟨some 11,none,(.mov (.tmp 59))⟩]) (.seq (.region [⟨some 60,none,(.mov (.tmp 11))⟩]) (.cond (.tmp 60) (.seq (.region [⟨some 61,none,(.mov (.tmp 6))⟩,⟨some 62,none,(.nilCheck (.tmp 61))⟩,⟨some 63,none,(.fld 5 (.tmp 62))⟩,⟨some 64,none,(.load false 1 (.tmp 63))⟩,⟨some 65,none,(.mov (.tmp 9))⟩,⟨none,none,(.delete (.tmp 64) (.tmp 65))⟩]) (.region [⟨some 66,none,(.mov (.tmp 7))⟩,⟨some 67,none,(.mov (.tmp 9))⟩,⟨some 68,none,(.call (.tmp 66) [(.tmp 67)])⟩])) .skip))))) (.region [⟨some 69,none,(.bin .add (.tmp 48) (.const (.int .i64 1)))⟩,⟨some 48,none,(.mov (.tmp 69))⟩]))))
noncomputable def body23_2:ACode:=(.seq (.seq (.region [⟨some 41,none,(.mov (.tmp 6))⟩,⟨some 42,none,(.nilCheck (.tmp 41))⟩,⟨some 43,none,(.fld 5 (.tmp 42))⟩,⟨some 44,none,(.load false 1 (.tmp 43))⟩,⟨some 45,none,(.lenMap (.tmp 44))⟩,⟨some 46,none,(.bin .gtr (.tmp 45) (.const (.int .i64 0)))⟩]) (.cond (.tmp 46) .skip (.exit 2))) (.block 3 (.seq (.region [⟨some 47,none,(.mov (.tmp 5))⟩,⟨some 48,none,(.mov (.const (.int .i64 0)))⟩]) (.block 4 (.loop body23_1)))))
noncomputable def body23:ACode:=(.seq (.region [⟨some 2,none,(.box (.tmp 0))⟩,⟨some 4,none,(.mov (.const (.pointer none)))⟩]) (.seq (.region [⟨some 12,none,(.fld 1 (.tmp 2))⟩,⟨some 13,none,(.load false 1 (.tmp 12))⟩,⟨some 14,none,(.mov (.tmp 1))⟩,⟨some 15,none,(.idx 2 (.tmp 13) (.tmp 14))⟩,⟨some 16,none,(.fld 1 (.tmp 15))⟩,⟨some 17,none,(.load false 1 (.tmp 16))⟩,⟨some 18,none,(.len (.tmp 17))⟩,⟨some 5,none,(.mov (.tmp 18))⟩]) (.seq (.regionC [(⟨some 19,none,(.load true 2 (.tmp 2))⟩,[]),(⟨some 20,none,(.mov (.tmp 1))⟩,[]),(⟨some 21,none,(.mov (.tmp 5))⟩,[]),(⟨some 22,none,(.mkSlice 1 [(.slice none 0 0)] (.tmp 21) (.tmp 21))⟩,[]),(⟨some 23,none,(.mov (.tmp 5))⟩,[]),(⟨some 24,none,(.mkSlice 1 [(.slice none 0 0)] (.tmp 23) (.tmp 23))⟩,[]),(⟨some 25,none,.mkMap⟩,[]),(⟨some 26,none,(.build [(.slice none 0 0),(.slice none 0 0),(.int .i64 0),(.slice none 0 0),(.slice none 0 0),(.map none)] [(0,2,(.tmp 19)),(2,1,(.tmp 20)),(3,1,(.tmp 22)),(4,1,(.tmp 24)),(5,1,(.tmp 25))])⟩,[]),(⟨some 27,none,(.box (.tmp 26))⟩,[]),(⟨some 6,none,(.mov (.tmp 27))⟩,[])]) (.seq (.region [⟨some 28,none,(.mov (.tmp 6))⟩,⟨some 29,none,(.mkFunc (.func 34) [(.tmp 28)] [])⟩,⟨some 7,none,(.mov (.tmp 29))⟩]) (.seq (.seq (.region [⟨some 30,none,(.mov (.tmp 5))⟩,⟨some 31,none,(.mov (.const (.int .i64 0)))⟩]) (.block 0 (.loop body23_0))) (.seq (.block 2 (.loop body23_2)) (.seq (.region [⟨some 70,none,(.mov (.tmp 6))⟩,⟨some 71,none,(.nilCheck (.tmp 70))⟩,⟨some 72,none,(.fld 5 (.tmp 71))⟩,⟨some 73,none,(.load false 1 (.tmp 72))⟩,⟨none,none,(.clear (.tmp 73))⟩]) (.seq (.region [⟨some 74,none,(.mov (.tmp 6))⟩,⟨some 4,none,(.mov (.tmp 74))⟩]) .ret))))))))
set_option maxRecDepth 100000 in
theorem tab23:tb.code 23=some ⟨75,[(4,none)],body23⟩:=by kernel_rfl
theorem zEP (h:AHeap) (vt vf:Value) (T:List LType) (F:List LFn) (f par:Int) (L:List LBlk) (E:EnvL h vt vf T F) (O:FnOk T F f L par) (U:∀ x∈L,BlkU x (z9 par L) L.length):
  WC Tryd.prog tb 23 [.agg #[vt,vf],I f] h fun r h'=>∃ X gp gb ge gm bg ed,r= .pointer (some ⟨gp,0,none⟩)∧FS h h' X gp gb ge gm vt vf f bg ed []∧LFix par L (inS bg) (inS ed)∧bg.length=L.length∧ed.length=L.length∧(∀ s∈bg,OkW s∧∀ r,InW s r→r<z9 par L)∧(∀ s∈ed,OkW s∧∀ r,InW s r→r<z9 par L):=by
 have hF:=E.sm.funcs
 have hN:0≤z9 par L∧z9 par L≤228:=by
  have:=O.par0;have:=O.parl;have:=O.many;have:=yW L;unfold z9;omega
 have hf0:=O.f0
 have hf1:=O.f1
 have hisL:=O.isL
 have hlen:=O.len
 have hm:=E.hm
 obtain⟨ta,tn,tk,rfl⟩:=zJ E.st
 obtain⟨ga,gn,gk,rfl⟩:=zJ E.sf
 refine WC.of (zF 23) tab23 ?_;simp only[zN,Nat.zero_add,Nat.reduceAdd]
 refine go ?_
 refine WO.bx ?_
 intro p2 h1 e1 o2
 have E1:=E.ext e1
 have sf1:=E1.sf
 obtain⟨csF,⟨vb,rfl,sb,hlb⟩,pcF,hsF⟩:=yd (i:=f.toNat) sf1 (by omega)
 obtain⟨ba,bn,bk,rfl⟩:=zJ sb
 rw[←hisL]at sb
 refine go ?_
 refine WX.regionU2 4 rfl rfl ?_
 have eA:Ext h1 (zC 4 h1):=zCE 4 h1
 have oX:=o2.ext eA
 have oX:OwnC h (inC (zC 4 h1)) p2 [.slice ta tn tk,.slice ga gn gk]:=oX
 have hm1:h1.mark≤h1.n:=E1.hm
 refine goU ?_
 refine WU2.mkSl (n:=L.length) hm1 (by omega) ?_
 intro X1 n1 g1
 refine goU ?_
 refine WU2.mkSl (n:=L.length) (by omega) (by omega) ?_
 intro X2 n2 g2
 refine WU2.mkMp (by omega) ?_
 intro X3 n3 g3
 refine goU ?_
 refine WU2.mkBx (cs:=[.slice ta tn tk,.slice ga gn gk,I f,.slice (some ⟨h1.n,0,none⟩) L.length 1,.slice (some ⟨h1.n+1,0,none⟩) L.length 1,.map (some (h1.n+1+1))]) (by omega) ?_
 intro X4 n4 g4
 refine goU ?_
 have hn4:X4.n=h1.n+4:=by rw[n4,n3,n2,n1];rfl
 have gall:∀ j,X4.get j=if j=h1.n+3 then some (.row [.slice ta tn tk,.slice ga gn gk,I f,.slice (some ⟨h1.n,0,none⟩) L.length 1,.slice (some ⟨h1.n+1,0,none⟩) L.length 1,.map (some (h1.n+2))] true 0) else if j=h1.n+2 then some (.map [] 0) else if j=h1.n+1 then some (.row (List.replicate L.length (.slice none 0 0)) true 0) else if j=h1.n then some (.row (List.replicate L.length (.slice none 0 0)) true 0) else h1.get j:=fun j=>by
  rw[g4,g3,g2,g1,zFo];rfl
 have eH:Ext h1 (outC h1 (inC X4)):=⟨by show h1.n≤X4.n;omega,fun j hj=>by show X4.get j=_;rw[gall,if_neg (by omega),if_neg (by omega),if_neg (by omega),if_neg (by omega)],fun w j hj=>by
  have hj:X4.n≤j:=hj
  show X4.get j=_
  rw[gall,if_neg (by omega),if_neg (by omega),if_neg (by omega),if_neg (by omega)];exact w j (by omega),rfl,fun _=>rfl⟩
 have hrow:∀ H:AHeap,RowS H (h1.n+4) (h1.n) (List.replicate L.length [])→True:=fun _ _=>trivial
 have hfn:∀ (H:AHeap) (g:Nat),H.get g=some (.row (List.replicate L.length (.slice none 0 0)) true 0)→RowS H (h1.n+4) g (List.replicate L.length []):=fun H g hg=>⟨_,hg,by simp,fun i hi=>by
  rw[List.length_replicate]at hi
  rw[List.getD_eq_getElem?_getD,List.getElem?_replicate,if_pos hi,List.getD_eq_getElem?_getD,List.getElem?_replicate,if_pos hi]
  exact FarW.nil⟩
 have S0:FS h (outC h1 (inC X4)) (h1.n+4) (h1.n+3) h1.n (h1.n+1) (h1.n+2) (.slice ta tn tk) (.slice ga gn gk) f (List.replicate L.length []) (List.replicate L.length []) []:=by
  have hh:=e1.n
  refine⟨e1.trans eH,by show h1.n+4≤X4.n;omega,⟨by omega,by omega⟩,⟨by omega,by omega⟩,⟨by omega,by omega⟩,⟨by omega,by omega⟩,⟨by omega,by omega,by omega,by omega,by omega,by omega⟩,?_,hfn _ _ ?_,hfn _ _ ?_,⟨h1.n+2,0,[],by omega,by show h1.n+2<X4.n;omega,rfl,?_,rfl⟩⟩
  ·show X4.get _=_;rw[gall,if_pos rfl,List.length_replicate]
  ·show X4.get _=_;rw[gall,if_neg (by omega),if_neg (by omega),if_neg (by omega),if_pos rfl]
  ·show X4.get _=_;rw[gall,if_neg (by omega),if_neg (by omega),if_pos rfl]
  ·show X4.get _=_;rw[gall,if_neg (by omega),if_pos rfl]
 clear gall g1 g2 g3 g4 n1 n2 n3 n4 hfn hrow hn4 oX eA
 have w0:=WInv.start par L (z9 par L) (K:=fun c=>0≤c∧c<(L.length:Int)) (fun b h1 h2=>⟨h1,h2⟩)
 generalize hX:h1.n+4=X at S0
 generalize hgp:h1.n+3=gp at S0 ⊢
 generalize hgb:h1.n=gb at S0
 generalize hge:gb+1=ge at S0
 generalize hgm:gb+2=gm at S0
 generalize outC h1 (inC X4)=h2 at S0 ⊢
 have hVs:∀ es:List (Int×Int),OwnM h h2 (.map (some gm)) es→True:=fun _ _=>trivial
 clear hVs hX hgp hgb hge hgm eH
 have o3:=S0.own
 refine go ?_
 refine WX.loopA [32,33,8,34,35,36,37,38,39,40,31] (by kernel_rfl) (fun i=>L.length - i) (fun i t h3=>∃ es,zB t 31=I i∧i≤L.length∧FS h h3 X gp gb ge gm (.slice ta tn tk) (.slice ga gn gk) f (List.replicate L.length []) (List.replicate L.length []) es∧Hid (ZL es∧∀ c,c∈es.map (·.1)↔0≤c∧c<(i:Int))) 0 ?_ ?_
 ·exact⟨[],sl_,Nat.zero_le _,S0,⟨by unfold ZL;simp,fun c=>by simp⟩⟩
 clear S0 o3
 rintro i t h3 hsame ⟨es,s31,hi,S,hK⟩
 have o3:=S.own
 refine go ?_
 refine WX.br (fun hc=> ?_) (fun hc=> ?_)<;>simp only[DB]at hc
 ·refine go ?_
  refine WO.upM S.rm S.e ?_
  intro h4 e4 o4 u4
  have S4:=S.setM e4 o4 u4
  refine go ?_
  refine zA (i+1) (by omega) ⟨_,sln,by omega,S4,⟨zB8 hK.out.1,fun c=> ?_⟩⟩
  rw[zCM,hK.out.2]
  omega
 have hil:i=L.length:=by omega
 subst hil
 have w1:WInv par L (z9 par L) (List.replicate L.length []) (List.replicate L.length []) (fun c=>c∈es.map (·.1)):=WInv.start par L (z9 par L) (fun c h1 h2=>(hK.out.2 c).2 ⟨h1,h2⟩)
 have hkr:∀ c∈es.map (·.1),0≤c∧c<(L.length:Int):=fun c hc=>(hK.out.2 c).1 hc
 have hnxr:∀ c,0≤c→c<(L.length:Int)→∀ k∈nxL L c,0≤k∧k<(L.length:Int):=fun c h1 h2=>(U _ (zM (l:=L) (i:=c.toNat) (by omega))).next
 have hnxr:=Hid.mk hnxr
 have w1:=Hid.mk w1
 have hK1:=Hid.mk (And.intro hK.out.1 hkr)
 clear hK hkr w0
 refine go ?_
 refine WX.loopA [41,42,43,44,45,46,47,48,49,50,9,52,53,54,55,56,57,51,58,59,10,11,60,61,62,63,64,65,66,67,68,69,48] (by kernel_rfl) (fun x:Zb×Zb×List (Int×Int)=>2 * (L.length * (z9 par L).toNat - Zz x.1)+(if x.2.2.length=0 then 0 else 1)) (fun x t h4=>FS h h4 X gp gb ge gm (.slice ta tn tk) (.slice ga gn gk) f x.1 x.2.1 x.2.2∧Hid (ZL x.2.2∧∀ c∈x.2.2.map (·.1),0≤c∧c<(L.length:Int))∧Hid (WInv par L (z9 par L) x.1 x.2.1 (fun c=>c∈x.2.2.map (·.1)))) (List.replicate L.length [],List.replicate L.length [],es) ?_ ?_
 ·exact⟨S,hK1,w1⟩
 clear S hK1 w1 o3
 rintro⟨bg0,ed0,es0⟩ t4 h4 hsame4 ⟨S,hK,hW⟩
 simp only at S hK hW
 have o4:=S.own
 refine go ?_
 refine WO.lnM S.rm ?_
 refine go ?_
 refine WX.br (fun hc=> ?_) (fun hc=> ?_)<;>simp only[DB]at hc
 ·refine go ?_
  refine WX.loopA [49,50,9,52,53,54,55,56,57,51,58,59,10,11,60,61,62,63,64,65,66,67,68,69,48] (by kernel_rfl) (fun i=>L.length - i) (fun i t h5=>∃ bg ed es,zB t 48=I i∧i≤L.length∧FS h h5 X gp gb ge gm (.slice ta tn tk) (.slice ga gn gk) f bg ed es∧Hid (ZL es∧∀ c∈es.map (·.1),0≤c∧c<(L.length:Int))∧Hid (WInv par L (z9 par L) bg ed (fun c=>c∈es.map (·.1)))∧Hid (Zz bg0<Zz bg∨(Zz bg0=Zz bg∧∀ c∈es.map (·.1),(i:Int)≤c))) 0 ?_ ?_
  ·exact⟨bg0,ed0,es0,sl_,Nat.zero_le _,S,hK,hW,⟨.inr ⟨rfl,fun c hc=>(hK.out.2 c hc).1⟩⟩⟩
  have hc0:es0.length≠0:=by omega
  clear S o4 hK
  rintro i t5 h5 hsame5 ⟨bg,ed,es,s48,hi,S,hK,hW5,hM⟩
  have o5:=S.own
  refine go ?_
  refine WX.br (fun hc5=> ?_) (fun hc5=> ?_)<;>simp only[DB]at hc5
  ·refine go ?_
   refine WO.lkM S.rm ?_
   by_cases hin:(i:Int)∈es.map (·.1)
   ·obtain⟨w,hw⟩:∃ w,es.lookup (i:Int)=some w:=by
     cases hl:es.lookup (i:Int)with
     |none=>exact absurd hl (look_mem.2 hin)
     |some w=>exact⟨w,rfl⟩
    rw[hw]
    refine go ?_
    refine WO.dlM S.rm S.e ?_
    intro h6 e6 o6 u6
    have S6:=S.setM e6 o6 u6
    have hlb:=hW5.out.lb
    have hle:=hW5.out.le
    have hob:=hW5.out.okb
    have hoe:=hW5.out.oke
    refine go ?_
    refine WO.conV (WV.func (look_ok h h6 X gp gb ge gm _ _ T F f par L bg ed (zAv i es) i S6 E O U ⟨by omega,by omega⟩ hlb hle hob hoe)) ?_
    rintro _ h7 ⟨s1,s,es',S7,k1,k2,m1,m2,hcase⟩
    refine go ?_
    have hdk:∀ c,c∈(zAv (i:Int) es).map (·.1)↔c≠(i:Int)∧c∈es.map (·.1):=fun c=>zCU hK.out.1
    have hdo:ZL (zAv (i:Int) es):=zEL hK.out.1
    have hi0:(0:Int)≤i:=by omega
    have hi1:(i:Int)<(L.length:Int):=by omega
    have hsz:=zEs (bg:=bg) (i:=(i:Int).toNat) (s:=s) (by omega)
    have hW7:WInv par L (z9 par L) (bg.set (i:Int).toNat s) (ed.set (i:Int).toNat s1) (fun c=>c∈es'.map (·.1)):=by
     refine hW5.out.look hi0 hi1 hnxr.out k1 k2 m1 m2 fun c hc1 hc2 hnk=> ?_
     rcases hcase with ⟨q1,q2⟩|⟨q1,q2,q3⟩
     ·subst q2
      refine⟨?_,.inl q1⟩
      by_cases e:c=i
      ·exact .inl e
      ·exact .inr fun hm=>hnk ((hdk c).2 ⟨e,hm⟩)
     ·refine⟨?_,.inr fun hm=>hnk ((q3 c).2 (.inr (zCW.2 ⟨hc1,hc2,hm⟩)))⟩
      by_cases e:c=i
      ·exact .inl e
      ·exact .inr fun hm=>hnk ((q3 c).2 (.inl ((hdk c).2 ⟨e,hm⟩)))
    have hK7:ZL es'∧∀ c∈es'.map (·.1),0≤c∧c<(L.length:Int):=by
     rcases hcase with ⟨q1,q2⟩|⟨q1,q2,q3⟩
     ·subst q2
      exact⟨hdo,fun c hc=>hK.out.2 c ((hdk c).1 hc).2⟩
     ·exact⟨q2 hdo,fun c hc=>((q3 c).1 hc).elim (fun hc=>hK.out.2 c ((hdk c).1 hc).2) fun hc=>let ⟨a,b,_⟩:=zCW.1 hc;⟨a,b⟩⟩
    have hM7:Zz bg0<Zz (bg.set (i:Int).toNat s)∨(Zz bg0=Zz (bg.set (i:Int).toNat s)∧∀ c∈es'.map (·.1),((i+1:Nat):Int)≤c):=by
     rcases hcase with ⟨q1,q2⟩|⟨q1,q2,q3⟩
     ·rw[q1]at hsz
      have hsz2:Zz (bg.set (i:Int).toNat s)=Zz bg:=by rw[q1];omega
      rw[hsz2]
      rcases hM.out with r|⟨r1,r2⟩
      ·exact .inl r
      ·refine .inr ⟨r1,fun c hc=> ?_⟩
       subst q2
       obtain⟨a,b⟩:=(hdk c).1 hc
       have:=r2 c b;omega
     ·left
      have hob':=zFm hob (i:=(i:Int).toNat) (by omega)
      have hmore:=zIz (s:=bg.getD (i:Int).toNat []) (t:=s) hob'.1 k2.1 (fun r q=>(m2 r).2 (yQ (fun r q=>(m1 r).2 (.inl q)) (hW5.out.sub i r hi0 hi1 q))) q1
      rcases hM.out with r|⟨r1,_⟩<;>omega
    exact zA (i+1) (by omega) ⟨_,_,es',sln,by omega,S7,⟨hK7⟩,⟨hW7⟩,⟨hM7⟩⟩
   ·have hw:es.lookup (i:Int)=none:=by
     cases hl:es.lookup (i:Int)with
     |none=>rfl
     |some w=>exact absurd (look_mem.1 (by rw[hl];simp)) hin
    rw[hw]
    refine go ?_
    refine zA (i+1) (by omega) ⟨bg,ed,es,sln,by omega,S,hK,hW5,⟨?_⟩⟩
    rcases hM.out with r|⟨r1,r2⟩
    ·exact .inl r
    ·refine .inr ⟨r1,fun c hc=> ?_⟩
     have:=r2 c hc
     have:c≠i:=fun e=>hin (e▸hc)
     omega
  ·have hiL:i=L.length:=by omega
   subst hiL
   refine go ?_
   have hup:=zGW (N:=(z9 par L).toNat) fun s hs=>⟨(hW5.out.okb s hs).1,fun r q=>by have:=(hW5.out.okb s hs).2 r q;omega⟩
   rw[hW5.out.lb]at hup
   refine zA (bg,ed,es) ?_ ⟨S,hK,hW5⟩
   simp only
   rw[if_neg hc0]
   rcases hM.out with r|⟨r1,r2⟩
   ·split<;>omega
   ·have hes:es=[]:=keys_nil fun c hc=>by
     have h1:=r2 c hc
     have h2:=(hK.out.2 c hc).2
     omega
    subst hes
    rw[if_pos (show ([]:List (Int×Int)).length=0 from rfl),r1];omega
 ·have hes:es0=[]:=List.eq_nil_of_length_eq_zero (by omega)
  subst hes
  refine go ?_
  refine WO.clM S.rm S.e ?_
  intro h6 e6 o6 u6
  have S6:=S.setM e6 o6 u6
  refine go ?_
  refine rt ?_
  exact⟨X,gp,gb,ge,gm,bg0,ed0,rfl,S6,hW.out.fix (fun b _ _ hb=>by cases hb),hW.out.lb,hW.out.le,hW.out.okb,hW.out.oke⟩
end Go.Proofs.YtemggiegiejopaaDoor
namespace Go.Proofs.YtemggiegiejopaaDoor
open Go.Am
set_option linter.unusedVariables false
set_option linter.unusedSimpArgs false
set_option maxHeartbeats 4000000
def LB (par:Int) (L:List LBlk) (b r:Int):Prop:=∀ B E,Clo par L B E→B b r
def LE (par:Int) (L:List LBlk) (b r:Int):Prop:=∀ B E,Clo par L B E→E b r
theorem LFix.isB {par L B E} (h:LFix par L B E) {b r:Int} (h1:0≤b) (h2:b<(L.length:Int)):B b r↔LB par L b r:=⟨fun q B' E' k=>(h.least B' E' k b r h1 h2).1 q,fun q=>q B E h.clo⟩
theorem LFix.isE {par L B E} (h:LFix par L B E) {b r:Int} (h1:0≤b) (h2:b<(L.length:Int)):E b r↔LE par L b r:=⟨fun q B' E' k=>(h.least B' E' k b r h1 h2).2 q,fun q=>q B E h.clo⟩
theorem LFix.the {par L B E} (h:LFix par L B E) (hn:∀ c,0≤c→c<(L.length:Int)→∀ k∈nxL L c,0≤k∧k<(L.length:Int)):LFix par L (LB par L) (LE par L):=by
 refine⟨fun b r h1 h2=> ?_,fun b r h1 h2=> ?_,fun B' E' k b r _ _=>⟨fun q=>q B' E' k,fun q=>q B' E' k⟩⟩
 ·rw[←h.isE h1 h2,h.e b r h1 h2]
  exact⟨YL fun k hk r q=>(h.isB (hn b h1 h2 k hk).1 (hn b h1 h2 k hk).2).1 q,YL fun k hk r q=>(h.isB (hn b h1 h2 k hk).1 (hn b h1 h2 k hk).2).2 q⟩
 ·rw[←h.isB h1 h2,h.b b r h1 h2]
  exact⟨yQ fun r q=>(h.isE h1 h2).1 q,yQ fun r q=>(h.isE h1 h2).2 q⟩
def Y1 (T:List LType) (F:List LFn) (f b at':Int):Int:=
 if (ZK T F f b).2≠0 then (ZK T F f b).2 else if at'<0∨(((F.getD f.toNat default).blocks.getD b.toNat default).ins.length:Int)<at' then 2 else 0
theorem zC2 {T:List LType} {F:List LFn} {f b:Int} (h:(ZK T F f b).2=0):(yU T F f).2=0∧0≤b∧b<((F.getD f.toNat default).blocks.length:Int):=by
 have h1:(zT T F f b).2=0:=by
  unfold ZK at h
  split at h
  ·rename_i q;exact absurd h q
  ·rename_i q;omega
 obtain⟨a,c,d,e⟩:=zCB h1
 rw[d]at c
 refine⟨?_,a,c⟩
 unfold YB at e
 split at e
 ·rename_i q;exact absurd e q
 ·rename_i q;omega
abbrev ze (F:List LFn) (f:Int):List LBlk:=(F.getD f.toNat default).blocks
abbrev ZF (T:List LType) (F:List LFn) (f:Int):Int:=((T.getD (F.getD f.toNat default).sig.toNat default).parts.length:Int)
noncomputable def body21:ACode:=(.seq (.region [⟨some 4,none,(.box (.tmp 0))⟩,⟨some 8,none,(.mov (.const (.int .i64 0)))⟩]) (.seq (.seq (.region [⟨some 12,none,(.load true 2 (.tmp 4))⟩,⟨some 13,none,(.mov (.tmp 1))⟩,⟨some 14,none,(.mov (.tmp 2))⟩,⟨some 15,none,(.call (.func 18) [(.tmp 12),(.tmp 13),(.tmp 14)])⟩,⟨some 11,none,(.mov (.tmp 15))⟩,⟨some 16,none,(.extract (.tmp 11) 0)⟩,⟨some 17,none,(.extract (.tmp 11) 1)⟩,⟨some 9,none,(.mov (.tmp 16))⟩,⟨some 10,none,(.mov (.tmp 17))⟩]) (.seq (.region [⟨some 18,none,(.mov (.tmp 10))⟩,⟨some 19,none,(.bin .neq (.tmp 18) (.const (.int .i64 0)))⟩]) (.cond (.tmp 19) (.seq (.region [⟨some 20,none,(.mov (.tmp 10))⟩,⟨some 8,none,(.mov (.tmp 20))⟩]) .ret) .skip))) (.seq (.seq (.region [⟨some 21,none,(.mov (.tmp 3))⟩,⟨some 22,none,(.bin .lss (.tmp 21) (.const (.int .i64 0)))⟩,⟨some 23,none,(.mov (.tmp 22))⟩,⟨some 24,some (23,false),(.mov (.tmp 3))⟩,⟨some 25,some (23,false),(.fld 1 (.tmp 4))⟩,⟨some 26,some (23,false),(.load false 1 (.tmp 25))⟩,⟨some 27,some (23,false),(.mov (.tmp 1))⟩,⟨some 28,some (23,false),(.idx 2 (.tmp 26) (.tmp 27))⟩,⟨some 29,some (23,false),(.fld 1 (.tmp 28))⟩,⟨some 30,some (23,false),(.load false 1 (.tmp 29))⟩,⟨some 31,some (23,false),(.mov (.tmp 2))⟩,⟨some 32,some (23,false),(.idx 5 (.tmp 30) (.tmp 31))⟩,⟨some 33,some (23,false),(.fld 0 (.tmp 32))⟩,⟨some 34,some (23,false),(.load false 1 (.tmp 33))⟩,⟨some 35,some (23,false),(.len (.tmp 34))⟩,⟨some 36,some (23,false),(.bin .gtr (.tmp 24) (.tmp 35))⟩,⟨some 37,none,(.pick (.tmp 23) (.const (.bool true)) (.tmp 36))⟩]) (.cond (.tmp 37) (.seq (.region [⟨some 8,none,(.mov (.const (.int .i64 2)))⟩]) .ret) .skip)) (.seq (.region [⟨some 8,none,(.mov (.const (.int .i64 0)))⟩]) .ret))))
set_option maxRecDepth 100000 in
theorem tab21:tb.code 21=some ⟨38,[(8,none)],body21⟩:=by kernel_rfl
theorem zEo (h:AHeap) (vt vf:Value) (T:List LType) (F:List LFn) (f b at':Int) (E:EnvL h vt vf T F):
  WC Tryd.prog tb 21 [.agg #[vt,vf],I f,I b,I at'] h fun r h'=>r=I (Y1 T F f b at')∧Ext h h':=by
 have hF:=E.sm.funcs
 obtain⟨ta,tn,tk,rfl⟩:=zJ E.st
 obtain⟨ga,gn,gk,rfl⟩:=zJ E.sf
 refine WC.of (zF 21) tab21 ?_;simp only[zN,Nat.zero_add,Nat.reduceAdd]
 refine go ?_
 refine WO.bx ?_
 intro p h1 e1 o1
 have E1:=E.ext e1
 refine go ?_
 refine WO.con (zE8 h1 _ _ T F f b E1.tt E1.hm E1.sm E1.st E1.sf) ?_
 rintro _ h2 ⟨⟨vn,rfl,sn,_⟩,e2⟩
 have e12:=e1.trans e2
 unfold Y1
 by_cases hn:(ZK T F f b).2=0
 case neg=>
  rw[if_pos hn]
  refine go ?_
  refine rt ?_
  exact⟨rfl,e12⟩
 obtain⟨ha,hb0,hb1⟩:=zC2 hn
 obtain⟨hf0,hf1,_⟩:=zC5 ha
 have E2:=E1.ext e2
 have sf2:=E2.sf
 have o2:=o1.ext e2
 obtain⟨csF,⟨vb,rfl,sb,hlb⟩,pcF,hsF⟩:=yd (i:=f.toNat) sf2 (by omega)
 obtain⟨ba,bn,bk,rfl⟩:=zJ sb
 obtain⟨csB,⟨vi,rfl,si,hli⟩,pcB,hsB⟩:=yd (i:=b.toNat) sb (by omega)
 obtain⟨ia,iN,ik,rfl⟩:=zJ si
 rw[if_neg (fun q=>q hn),hn]
 by_cases c1:at'<0
 ·rw[if_pos (.inl c1)]
  refine go ?_
  refine rt ?_
  exact⟨rfl,e12⟩
 by_cases c2:(((F.getD f.toNat default).blocks.getD b.toNat default).ins.length:Int)<at'
 ·rw[if_pos (.inr c2)]
  refine go ?_
  refine rt ?_
  exact⟨rfl,e12⟩
 rw[if_neg (by omega)]
 refine go ?_
 refine rt ?_
 exact⟨rfl,e12⟩
structure AtR (T:List LType) (F:List LFn) (f b at':Int) (l:List Int):Prop where
 rise:l.Pairwise (·<·)
 mem:∀ r,r∈l↔yr (ZF T F f) (ze F f) b at'.toNat (LE (ZF T F f) (ze F f) b) r
 fix:LFix (ZF T F f) (ze F f) (LB (ZF T F f) (ze F f)) (LE (ZF T F f) (ze F f))
 reg:∀ r∈l,0≤r∧r<z9 (ZF T F f) (ze F f)
structure EndR (T:List LType) (F:List LFn) (f b:Int) (l:List Int):Prop where
 rise:l.Pairwise (·<·)
 mem:∀ r,r∈l↔LE (ZF T F f) (ze F f) b r
 fix:LFix (ZF T F f) (ze F f) (LB (ZF T F f) (ze F f)) (LE (ZF T F f) (ze F f))
 reg:∀ r∈l,0≤r∧r<z9 (ZF T F f) (ze F f)
noncomputable def body7:ACode:=(.seq (.region [⟨some 4,none,(.box (.tmp 0))⟩,⟨some 8,none,(.mov (.const (.slice none 0 0)))⟩,⟨some 9,none,(.mov (.const (.int .i64 0)))⟩]) (.seq (.seq (.region [⟨some 11,none,(.load true 2 (.tmp 4))⟩,⟨some 12,none,(.mov (.tmp 1))⟩,⟨some 13,none,(.mov (.tmp 2))⟩,⟨some 14,none,(.mov (.tmp 3))⟩,⟨some 15,none,(.call (.func 21) [(.tmp 11),(.tmp 12),(.tmp 13),(.tmp 14)])⟩,⟨some 10,none,(.mov (.tmp 15))⟩]) (.seq (.region [⟨some 16,none,(.mov (.tmp 10))⟩,⟨some 17,none,(.bin .neq (.tmp 16) (.const (.int .i64 0)))⟩]) (.cond (.tmp 17) (.seq (.region [⟨some 18,none,(.mov (.tmp 10))⟩,⟨some 8,none,(.mov (.const (.slice none 0 0)))⟩,⟨some 9,none,(.mov (.tmp 18))⟩]) .ret) .skip))) (.seq (.region [⟨some 19,none,(.load true 2 (.tmp 4))⟩,⟨some 20,none,(.mov (.tmp 1))⟩,⟨some 21,none,(.call (.func 23) [(.tmp 19),(.tmp 20)])⟩,⟨some 22,none,(.mov (.tmp 2))⟩,⟨some 23,none,(.mov (.tmp 3))⟩,⟨some 24,none,(.call (.func 24) [(.tmp 21),(.tmp 22),(.tmp 23)])⟩,⟨some 25,none,(.call (.func 22) [(.tmp 24)])⟩,⟨some 26,none,(.extract (.tmp 25) 0)⟩,⟨some 27,none,(.extract (.tmp 25) 1)⟩,⟨some 8,none,(.mov (.tmp 26))⟩,⟨some 9,none,(.mov (.tmp 27))⟩]) .ret)))
set_option maxRecDepth 100000 in
theorem tab7:tb.code 7=some ⟨28,[(8,none),(9,none)],body7⟩:=by kernel_rfl
theorem lAt_ok (h:AHeap) (vt vf:Value) (T:List LType) (F:List LFn) (f b at':Int) (E:EnvL h vt vf T F) (Z:TzT h):
  WC Tryd.prog tb 7 [.agg #[vt,vf],I f,I b,I at'] h fun r h'=>(∃ v l,r= .tuple #[v,I (Y1 T F f b at')]∧OwnN h h' v l∧(Y1 T F f b at'≠0→l=[])∧(Y1 T F f b at'=0→AtR T F f b at' l))∧Ext h h':=by
 obtain⟨ta,tn,tk,rfl⟩:=zJ E.st
 obtain⟨ga,gn,gk,rfl⟩:=zJ E.sf
 refine WC.of (zF 7) tab7 ?_;simp only[zN,Nat.zero_add,Nat.reduceAdd]
 refine go ?_
 refine WO.bx ?_
 intro p h1 e1 o1
 have E1:=E.ext e1
 refine go ?_
 refine WO.con (zEo h1 _ _ T F f b at' E1) ?_
 rintro _ h2 ⟨rfl,e2⟩
 have e12:=e1.trans e2
 have o2:=o1.ext e2
 have E2:=E1.ext e2
 by_cases ha:Y1 T F f b at'=0
 case neg=>
  refine go ?_
  refine rt ?_
  exact⟨⟨_,[],rfl,.inl ⟨rfl,rfl⟩,fun _=>rfl,fun h=>absurd h ha⟩,e12⟩
 have hn:(ZK T F f b).2=0:=by
  unfold Y1 at ha
  split at ha
  ·rename_i q;exact absurd ha q
  ·rename_i q;omega
 have hat:0≤at'∧at'≤(((F.getD f.toNat default).blocks.getD b.toNat default).ins.length:Int):=by
  unfold Y1 at ha
  rw[if_neg (fun q=>q hn)]at ha
  split at ha
  ·cases ha
  ·rename_i q;omega
 obtain⟨hask,hb0,hb1⟩:=zC2 hn
 obtain⟨O,U⟩:FnOk T F f (ze F f) (ZF T F f)∧∀ b∈ze F f,BlkU b (z9 (ZF T F f) (ze F f)) (ze F f).length:=zE0 E.sm hask
 have hb1:b<((ze F f).length:Int):=hb1
 have hnx:∀ c,0≤c→c<((ze F f).length:Int)→∀ k∈nxL (ze F f) c,0≤k∧k<((ze F f).length:Int):=fun c h1 h2=>(U _ (zM (l:=ze F f) (i:=c.toNat) (by omega))).next
 refine go ?_
 refine WO.con (zEP h2 _ _ T F f _ _ E2 O U) ?_
 rintro _ h3 ⟨X,gp,gb,ge,gm,bg,ed,rfl,S,hfix,hlb,hle,hob,hoe⟩
 have e23:=S.e
 have E3:=E2.ext e23
 have hoed:=zFm hoe (i:=b.toNat) (by omega)
 have hat2:at'.toNat≤((ze F f).getD b.toNat default).ins.length:=by
  show at'.toNat≤((F.getD f.toNat default).blocks.getD b.toNat default).ins.length
  omega
 have hA:=zEB h2 h3 X gp gb ge gm _ _ T F f _ _ bg ed [] b at'.toNat S E3 O U ⟨hb0,hb1⟩ hat2 hle hoed
 rw[show ((at'.toNat:Nat):Int)=at' by omega]at hA
 refine go ?_
 refine WO.con hA ?_
 rintro v4 h4 ⟨⟨t4,m4,o4,mem4⟩,e4⟩
 have e04:=e12.trans (e23.trans e4)
 have Z4:=Z.ext e04
 have hm4:h4.mark≤h4.n:=(E3.ext e4).hm
 have hreg:∀ r,InW t4 r→0≤r∧r<z9 (ZF T F f) (ze F f):=fun r q=>by
  have q:=(mem4 r).1 q
  unfold yr at q
  have hUb:=U _ (zM (l:=ze F f) (i:=b.toNat) (by omega))
  exact zBa (fun x hx=>(hUb.ins x (List.mem_of_mem_drop hx)).uses) (fun r q=>q.elim (fun q=>hUb.ends r q) fun q=>⟨(InW.range hoed.1 q).1,hoed.2 r q⟩) q
 have hN:0≤z9 (ZF T F f) (ze F f)∧z9 (ZF T F f) (ze F f)≤228:=by
  have:=O.par0;have:=O.parl;have:=O.many;have:=yW (ze F f);unfold z9;omega
 have hl4:t4.length≤228:=by
  have:=Ym (N:=(z9 (ZF T F f) (ze F f)).toNat) o4 fun r q=>by have:=hreg r q;omega
  omega
 refine go ?_
 refine WO.con (zIG h4 v4 t4 m4.sl Z4 (by omega) hm4) ?_
 rintro _ h5 ⟨⟨w,rfl,ow⟩,e5⟩
 rw[Zy o4,if_pos rfl]at ow
 rw[Zy o4,show errW true=0 from rfl]
 refine go ?_
 refine rt ?_
 rw[ha]
 refine⟨⟨w,zn t4,rfl,ow.since e04,fun h=>absurd rfl h,fun _=>⟨YS o4,fun r=> ?_,hfix.the hnx,fun r hr=>hreg r ((yt o4).1 hr)⟩⟩,e04.trans e5⟩
 rw[yt o4,mem4]
 exact⟨yQ fun r q=>(hfix.isE hb0 hb1).1 q,yQ fun r q=>(hfix.isE hb0 hb1).2 q⟩
noncomputable def body9:ACode:=(.seq (.region [⟨some 3,none,(.box (.tmp 0))⟩,⟨some 6,none,(.mov (.const (.slice none 0 0)))⟩,⟨some 7,none,(.mov (.const (.int .i64 0)))⟩]) (.seq (.seq (.region [⟨some 9,none,(.load true 2 (.tmp 3))⟩,⟨some 10,none,(.mov (.tmp 1))⟩,⟨some 11,none,(.mov (.tmp 2))⟩,⟨some 12,none,(.call (.func 21) [(.tmp 9),(.tmp 10),(.tmp 11),(.const (.int .i64 0))])⟩,⟨some 8,none,(.mov (.tmp 12))⟩]) (.seq (.region [⟨some 13,none,(.mov (.tmp 8))⟩,⟨some 14,none,(.bin .neq (.tmp 13) (.const (.int .i64 0)))⟩]) (.cond (.tmp 14) (.seq (.region [⟨some 15,none,(.mov (.tmp 8))⟩,⟨some 6,none,(.mov (.const (.slice none 0 0)))⟩,⟨some 7,none,(.mov (.tmp 15))⟩]) .ret) .skip))) (.seq (.region [⟨some 16,none,(.load true 2 (.tmp 3))⟩,⟨some 17,none,(.mov (.tmp 1))⟩,⟨some 18,none,(.call (.func 23) [(.tmp 16),(.tmp 17)])⟩,⟨some 19,none,(.nilCheck (.tmp 18))⟩,⟨some 20,none,(.fld 4 (.tmp 19))⟩,⟨some 21,none,(.load false 1 (.tmp 20))⟩,⟨some 22,none,(.mov (.tmp 2))⟩,⟨some 23,none,(.idx 1 (.tmp 21) (.tmp 22))⟩,⟨some 24,none,(.load false 1 (.tmp 23))⟩,⟨some 25,none,(.call (.func 22) [(.tmp 24)])⟩,⟨some 26,none,(.extract (.tmp 25) 0)⟩,⟨some 27,none,(.extract (.tmp 25) 1)⟩,⟨some 6,none,(.mov (.tmp 26))⟩,⟨some 7,none,(.mov (.tmp 27))⟩]) .ret)))
set_option maxRecDepth 100000 in
theorem tab9:tb.code 9=some ⟨28,[(6,none),(7,none)],body9⟩:=by kernel_rfl
theorem lEnd_ok (h:AHeap) (vt vf:Value) (T:List LType) (F:List LFn) (f b:Int) (E:EnvL h vt vf T F) (Z:TzT h):
  WC Tryd.prog tb 9 [.agg #[vt,vf],I f,I b] h fun r h'=>(∃ v l,r= .tuple #[v,I (ZK T F f b).2]∧OwnN h h' v l∧((ZK T F f b).2≠0→l=[])∧((ZK T F f b).2=0→EndR T F f b l))∧Ext h h':=by
 obtain⟨ta,tn,tk,rfl⟩:=zJ E.st
 obtain⟨ga,gn,gk,rfl⟩:=zJ E.sf
 refine WC.of (zF 9) tab9 ?_;simp only[zN,Nat.zero_add,Nat.reduceAdd]
 refine go ?_
 refine WO.bx ?_
 intro p h1 e1 o1
 have E1:=E.ext e1
 refine go ?_
 refine WO.con (zEo h1 _ _ T F f b 0 E1) ?_
 rintro _ h2 ⟨rfl,e2⟩
 have e12:=e1.trans e2
 have o2:=o1.ext e2
 have E2:=E1.ext e2
 have hask0:Y1 T F f b 0=(ZK T F f b).2:=by
  unfold Y1
  split
  ·rfl
  ·rename_i q;rw[if_neg (by omega)];omega
 rw[hask0]
 by_cases hn:(ZK T F f b).2=0
 case neg=>
  refine go ?_
  refine rt ?_
  exact⟨⟨_,[],rfl,.inl ⟨rfl,rfl⟩,fun _=>rfl,fun h=>absurd h hn⟩,e12⟩
 obtain⟨hask,hb0,hb1⟩:=zC2 hn
 obtain⟨O,U⟩:FnOk T F f (ze F f) (ZF T F f)∧∀ b∈ze F f,BlkU b (z9 (ZF T F f) (ze F f)) (ze F f).length:=zE0 E.sm hask
 have hb1:b<((ze F f).length:Int):=hb1
 have hnx:∀ c,0≤c→c<((ze F f).length:Int)→∀ k∈nxL (ze F f) c,0≤k∧k<((ze F f).length:Int):=fun c h1 h2=>(U _ (zM (l:=ze F f) (i:=c.toNat) (by omega))).next
 refine go ?_
 refine WO.con (zEP h2 _ _ T F f _ _ E2 O U) ?_
 rintro _ h3 ⟨X,gp,gb,ge,gm,bg,ed,rfl,S,hfix,hlb,hle,hob,hoe⟩
 have e23:=S.e
 have E3:=E2.ext e23
 have hoed:=zFm hoe (i:=b.toNat) (by omega)
 have o3:=S.own
 have sE3:=S.ends
 obtain⟨csE,⟨ve,rfl,hfar⟩,pcE,hsE⟩:=yd S.ends (i:=b.toNat) (by omega)
 obtain⟨ea,en,ek,rfl⟩:=yV hfar.1
 have hed:List.getD ed b.toNat (default:List LWd)=ed.getD b.toNat []:=rfl
 rw[hed]at hfar
 have e03:=e12.trans e23
 have hN:0≤z9 (ZF T F f) (ze F f)∧z9 (ZF T F f) (ze F f)≤228:=by
  have:=O.par0;have:=O.parl;have:=O.many;have:=yW (ze F f);unfold z9;omega
 have hl4:(ed.getD b.toNat []).length≤228:=by
  have:=Ym (N:=(z9 (ZF T F f) (ze F f)).toNat) hoed.1 fun r q=>by have:=hoed.2 r q;omega
  omega
 refine go ?_
 refine WO.con (zIG h3 _ _ hfar.1 (Z.ext e03) (by omega) E3.hm) ?_
 rintro _ h5 ⟨⟨w,rfl,ow⟩,e5⟩
 rw[Zy hoed.1,if_pos rfl]at ow
 rw[Zy hoed.1,show errW true=0 from rfl]
 refine go ?_
 refine rt ?_
 rw[hn]
 refine⟨⟨w,zn (ed.getD b.toNat []),rfl,ow.since e03,fun h=>absurd rfl h,fun _=>⟨YS hoed.1,fun r=> ?_,hfix.the hnx,fun r hr=>⟨(InW.range hoed.1 ((yt hoed.1).1 hr)).1,hoed.2 r ((yt hoed.1).1 hr)⟩⟩⟩,e03.trans e5⟩
 rw[yt hoed.1]
 exact hfix.isE hb0 hb1
end Go.Proofs.YtemggiegiejopaaDoor
namespace Go.Proofs.YtemggiegiejopaaDoor
open Go.Am
set_option maxRecDepth 1000000 in
theorem zJB:(aexK Tryd.prog (zFP Tryd.prog) 400).call 10 [] (Zc Tryd.prog.globals.size zBS) (fun v _=>some v)=some (.bool true):=by kernel_rfl
theorem ev_alive:((aex Tryd.prog (zFP Tryd.prog) 400).call 10 [] (Zc Tryd.prog.globals.size zBS)).map (·.1)=some (.bool true):=run_fast zJB
set_option maxRecDepth 1000000 in
theorem zFb:(zBS:List (Nat×List Value)).all (fun x=>Nat.ble (x.1+1) Tryd.prog.globals.size&&yc x.2)=true:=by kernel_rfl
set_option maxRecDepth 1000000 in
theorem tb_ok:tb.Ok Tryd.prog where
 code:=fun _ _ h=>h
 stub:=fun f s hs=>by
  have hs:(if f=10 then some (Y4 zBS (.bool true)) else none)=some s:=hs
  split at hs
  ·rename_i e;subst e;cases hs
   exact zGc Tryd.checked.mixed (zHB _) rfl (fun x hx=>by
    have h1:=List.all_eq_true.1 zFb x hx
    rw[Bool.and_eq_true]at h1
    exact⟨Nat.le_of_ble_eq_true h1.1,h1.2⟩) ev_alive
  ·cases hs
 grow:=fun f s hs args h v h' hk=>by
  have hs:(if f=10 then some (Y4 zBS (.bool true)) else none)=some s:=hs
  split at hs
  ·cases hs;exact zGz args h v h' hk
  ·cases hs
end Go.Proofs.YtemggiegiejopaaDoor
namespace Go.Proofs.YtemggiegiejopaaDoor
open Go.Am
set_option linter.unusedVariables false
set_option linter.unusedSimpArgs false
set_option maxHeartbeats 4000000
noncomputable def body17_0:ACode:=(.seq (.seq (.region [⟨some 6,none,(.mov (.tmp 5))⟩,⟨some 7,none,(.mov (.tmp 0))⟩,⟨some 8,none,(.len (.tmp 7))⟩,⟨some 9,none,(.bin .lss (.tmp 6) (.tmp 8))⟩]) (.cond (.tmp 9) .skip (.exit 0))) (.seq (.block 1 (.seq (.region [⟨some 12,none,(.mov (.tmp 0))⟩,⟨some 13,none,(.mov (.tmp 5))⟩,⟨some 14,none,(.idx 1 (.tmp 12) (.tmp 13))⟩,⟨some 15,none,(.load false 1 (.tmp 14))⟩,⟨some 16,none,(.mov (.tmp 1))⟩,⟨some 17,none,(.bin .eql (.tmp 15) (.tmp 16))⟩]) (.cond (.tmp 17) (.seq (.region [⟨some 4,none,(.mov (.const (.bool true)))⟩]) .ret) .skip))) (.region [⟨some 10,none,(.mov (.tmp 5))⟩,⟨some 11,none,(.bin .add (.tmp 10) (.const (.int .i64 1)))⟩,⟨some 5,none,(.mov (.tmp 11))⟩])))
noncomputable def body17:ACode:=(.seq (.region [⟨some 4,none,(.mov (.const (.bool false)))⟩]) (.seq (.seq (.region [⟨some 5,none,(.mov (.const (.int .i64 0)))⟩]) (.block 0 (.loop body17_0))) (.seq (.region [⟨some 4,none,(.mov (.const (.bool false)))⟩]) .ret)))
set_option maxRecDepth 100000 in
theorem tab17:tb.code 17=some ⟨18,[(4,none)],body17⟩:=by kernel_rfl
theorem zEK (h:AHeap) (v:Value) (l:List Int) (n:Int) (s:SlI h v l) (hl:(l.length:Int)≤9223372036854775807):
  WC Tryd.prog tb 17 [v,I n] h fun r h'=>r= .bool (decide (n∈l))∧h=h':=by
 refine WC.of (zF 17) tab17 ?_;simp only[zN,Nat.zero_add,Nat.reduceAdd]
 refine go ?_
 refine WX.loopA [6,7,8,9,12,13,14,15,16,17,4,10,11,5] (by kernel_rfl) (fun i=>l.length - i) (fun i t h1=>h=h1∧zB t 5=I i∧i≤l.length∧∀ j,j<i→l.getD j 0≠n) 0 ?_ ?_
 ·exact⟨rfl,sl_,Nat.zero_le _,fun j hj=>absurd hj (Nat.not_lt_zero _)⟩
 rintro i t _ hsame ⟨rfl,s5,hi,hm⟩
 refine go ?_
 refine WX.br (fun hb=> ?_) (fun hb=> ?_)<;>simp only[DB]at hb
 ·have hi':i<l.length:=by omega
  refine go ?_
  refine WX.br (fun hc=> ?_) (fun hc=> ?_)<;>simp only[DB]at hc<;>refine go ?_
  ·refine rt ?_
   exact⟨by rw[decide_eq_true (mem_of hi' hc)];rfl,rfl⟩
  ·refine zA (i+1) (by omega) ⟨rfl,sln,by omega,fun j hj=> ?_⟩
   by_cases e:j=i
   ·subst e;exact hc
   ·exact hm j (by omega)
 ·refine go ?_
  refine rt ?_
  exact⟨by rw[decide_eq_false (zDT fun j hj=>hm j (by omega))];rfl,rfl⟩
theorem rise_len {l:List Int} {N:Int} (h:l.Pairwise (·<·)) (hr:∀ r∈l,0≤r∧r<N):(l.length:Int)≤N∨l=[]:=by
 by_cases hN:0≤N
 ·left
  have hd:l.Nodup:=h.imp fun h=>by omega
  have:=List.Nodup.length_le_of_subset hd (l₂:=(List.range N.toNat).map fun (i:Nat)=>(i:Int)) fun x hx=>by
   have:=hr x hx
   exact List.mem_map.2 ⟨x.toNat,List.mem_range.2 (by omega),by omega⟩
  simp at this;omega
 ·right
  cases l with
  |nil=>rfl
  |cons x l=>have:=hr x (List.mem_cons_self ..);omega
theorem zHm {l:List Int} {N:Int} (h:l.Pairwise (·<·)) (hr:∀ r∈l,0≤r∧r<N) (hN:0≤N):(l.length:Int)≤N:=by
 rcases rise_len h hr with q|q
 ·exact q
 ·subst q;exact hN
theorem regs_of {T:List LType} {F:List LFn} {f:Int} (h:(yU T F f).2=0):YB T F f=(z9 (ZF T F f) (ze F f),0):=by
 obtain⟨_,_,_,ha⟩:=zC5 h
 unfold YB;rw[ha];rfl
theorem regN_le {T:List LType} {F:List LFn} {f par:Int} {L:List LBlk} (O:FnOk T F f L par):0≤z9 par L∧z9 par L≤228:=by
 have:=O.par0;have:=O.parl;have:=O.many;have:=yW L;unfold z9;omega
theorem ask_zero {T:List LType} {F:List LFn} {f b at':Int} (h:(ZK T F f b).2=0) (h0:0≤at') (h1:at'≤(((F.getD f.toNat default).blocks.getD b.toNat default).ins.length:Int)):Y1 T F f b at'=0:=by
 unfold Y1;rw[if_neg (fun q=>q h),if_neg (by omega)]
end Go.Proofs.YtemggiegiejopaaDoor
namespace Go.Proofs.YtemggiegiejopaaDoor
open Go.Am
set_option linter.unusedVariables false
set_option linter.unusedSimpArgs false
set_option maxHeartbeats 4000000
noncomputable def body5_0:ACode:=(.seq (.seq (.region [⟨some 104,none,(.mov (.tmp 20))⟩,⟨some 105,none,(.mov (.tmp 18))⟩,⟨some 106,none,(.mov (.tmp 19))⟩,⟨some 107,none,(.idx 7 (.tmp 105) (.tmp 106))⟩,⟨some 108,none,(.fld 6 (.tmp 107))⟩,⟨some 109,none,(.load false 1 (.tmp 108))⟩,⟨some 110,none,(.len (.tmp 109))⟩,⟨some 111,none,(.bin .lss (.tmp 104) (.tmp 110))⟩,⟨some 112,none,(.mov (.tmp 111))⟩,⟨some 113,some (112,true),(.mov (.tmp 20))⟩,⟨some 114,some (112,true),(.mov (.tmp 18))⟩,⟨some 115,some (112,true),(.mov (.tmp 19))⟩,⟨some 116,some (112,true),(.idx 7 (.tmp 114) (.tmp 115))⟩,⟨some 117,some (112,true),(.fld 5 (.tmp 116))⟩,⟨some 118,some (112,true),(.load false 1 (.tmp 117))⟩,⟨some 119,some (112,true),(.len (.tmp 118))⟩,⟨some 120,some (112,true),(.bin .lss (.tmp 113) (.tmp 119))⟩,⟨some 121,none,(.pick (.tmp 112) (.tmp 120) (.const (.bool false)))⟩,⟨some 122,none,(.mov (.tmp 121))⟩,⟨some 123,some (122,true),(.mov (.tmp 18))⟩,⟨some 124,some (122,true),(.mov (.tmp 19))⟩,⟨some 125,some (122,true),(.idx 7 (.tmp 123) (.tmp 124))⟩,⟨some 126,some (122,true),(.fld 0 (.tmp 125))⟩,⟨some 127,some (122,true),(.load false 1 (.tmp 126))⟩,⟨some 128,some (122,true),(.bin .eql (.tmp 127) (.const (.int .u8 22)))⟩,⟨some 129,none,(.pick (.tmp 122) (.tmp 128) (.const (.bool false)))⟩]) (.cond (.tmp 129) .skip (.exit 4))) (.seq (.block 5 (.seq (.region [⟨some 132,none,(.mov (.tmp 18))⟩,⟨some 133,none,(.mov (.tmp 19))⟩,⟨some 134,none,(.idx 7 (.tmp 132) (.tmp 133))⟩,⟨some 135,none,(.fld 6 (.tmp 134))⟩,⟨some 136,none,(.load false 1 (.tmp 135))⟩,⟨some 137,none,(.mov (.tmp 20))⟩,⟨some 138,none,(.idx 1 (.tmp 136) (.tmp 137))⟩,⟨some 139,none,(.load false 1 (.tmp 138))⟩,⟨some 140,none,(.mov (.tmp 2))⟩,⟨some 141,none,(.bin .eql (.tmp 139) (.tmp 140))⟩]) (.cond (.tmp 141) (.region [⟨some 142,none,(.mov (.tmp 14))⟩,⟨some 143,none,(.mov (.tmp 18))⟩,⟨some 144,none,(.mov (.tmp 19))⟩,⟨some 145,none,(.idx 7 (.tmp 143) (.tmp 144))⟩,⟨some 146,none,(.fld 5 (.tmp 145))⟩,⟨some 147,none,(.load false 1 (.tmp 146))⟩,⟨some 148,none,(.mov (.tmp 20))⟩,⟨some 149,none,(.idx 1 (.tmp 147) (.tmp 148))⟩,⟨some 150,none,(.load false 1 (.tmp 149))⟩,⟨some 151,none,(.buildSlice 1 1 [(.int .i64 0)] [(0,1,(.tmp 150))])⟩,⟨some 152,none,(.append 1 (.tmp 142) (.tmp 151))⟩,⟨some 14,none,(.mov (.tmp 152))⟩]) .skip))) (.region [⟨some 130,none,(.mov (.tmp 20))⟩,⟨some 131,none,(.bin .add (.tmp 130) (.const (.int .i64 1)))⟩,⟨some 20,none,(.mov (.tmp 131))⟩])))
noncomputable def body5_1:ACode:=(.seq (.seq (.region [⟨some 98,none,(.mov (.tmp 19))⟩,⟨some 99,none,(.mov (.tmp 18))⟩,⟨some 100,none,(.len (.tmp 99))⟩,⟨some 101,none,(.bin .lss (.tmp 98) (.tmp 100))⟩]) (.cond (.tmp 101) .skip (.exit 2))) (.seq (.block 3 (.seq (.region [⟨some 20,none,(.mov (.const (.int .i64 0)))⟩]) (.block 4 (.loop body5_0)))) (.region [⟨some 102,none,(.mov (.tmp 19))⟩,⟨some 103,none,(.bin .add (.tmp 102) (.const (.int .i64 1)))⟩,⟨some 19,none,(.mov (.tmp 103))⟩])))
noncomputable def body5_2:ACode:=(.seq (.seq (.region [⟨some 66,none,(.mov (.tmp 15))⟩,⟨some 67,none,(.mov (.tmp 12))⟩,⟨some 68,none,(.len (.tmp 67))⟩,⟨some 69,none,(.bin .lss (.tmp 66) (.tmp 68))⟩]) (.cond (.tmp 69) .skip (.exit 0))) (.seq (.block 1 (.seq (.regionC [(⟨some 73,none,(.load true 2 (.tmp 3))⟩,[]),(⟨some 74,none,(.mov (.tmp 1))⟩,[]),(⟨some 75,none,(.mov (.tmp 12))⟩,[]),(⟨some 76,none,(.mov (.tmp 15))⟩,[]),(⟨some 77,none,(.idx 1 (.tmp 75) (.tmp 76))⟩,[]),(⟨some 78,none,(.load false 1 (.tmp 77))⟩,[]),(⟨some 79,none,(.call (.func 7) [(.tmp 73),(.tmp 74),(.tmp 78),(.const (.int .i64 0))])⟩,[]),(⟨some 72,none,(.mov (.tmp 79))⟩,[]),(⟨some 80,none,(.extract (.tmp 72) 0)⟩,[]),(⟨some 81,none,(.extract (.tmp 72) 1)⟩,[]),(⟨some 16,none,(.mov (.tmp 80))⟩,[]),(⟨some 17,none,(.mov (.tmp 81))⟩,[])]) (.seq (.region [⟨some 82,none,(.mov (.tmp 14))⟩,⟨some 83,none,(.mov (.tmp 16))⟩,⟨some 84,none,(.append 1 (.tmp 82) (.tmp 83))⟩,⟨some 14,none,(.mov (.tmp 84))⟩]) (.seq (.regionC [(⟨some 85,none,(.fld 1 (.tmp 3))⟩,[]),(⟨some 86,none,(.load false 1 (.tmp 85))⟩,[]),(⟨some 87,none,(.mov (.tmp 1))⟩,[]),(⟨some 88,none,(.idx 2 (.tmp 86) (.tmp 87))⟩,[]),(⟨some 89,none,(.fld 1 (.tmp 88))⟩,[]),(⟨some 90,none,(.load false 1 (.tmp 89))⟩,[]),(⟨some 91,none,(.mov (.tmp 12))⟩,[]),(⟨some 92,none,(.mov (.tmp 15))⟩,[]),(⟨some 93,none,(.idx 1 (.tmp 91) (.tmp 92))⟩,[]),(⟨some 94,none,(.load false 1 (.tmp 93))⟩,[]),(⟨some 95,none,(.idx 5 (.tmp 90) (.tmp 94))⟩,[]),(⟨some 96,none,(.fld 0 (.tmp 95))⟩,[]),(⟨some 97,none,(.load false 1 (.tmp 96))⟩,[]),(⟨some 18,none,(.mov (.tmp 97))⟩,[])]) (.seq (.region [⟨some 19,none,(.mov (.const (.int .i64 0)))⟩]) (.block 2 (.loop body5_1))))))) (.region [⟨some 70,none,(.mov (.tmp 15))⟩,⟨some 71,none,(.bin .add (.tmp 70) (.const (.int .i64 1)))⟩,⟨some 15,none,(.mov (.tmp 71))⟩])))
noncomputable def body5_3:ACode:=(.seq (.seq (.region [⟨some 153,none,(.mov (.tmp 21))⟩,⟨some 154,none,(.mov (.tmp 10))⟩,⟨some 155,none,(.bin .lss (.tmp 153) (.tmp 154))⟩]) (.cond (.tmp 155) .skip (.exit 6))) (.seq (.block 7 (.seq (.region [⟨some 158,none,(.mov (.tmp 8))⟩,⟨some 159,none,(.mov (.tmp 21))⟩,⟨some 160,none,(.call (.func 17) [(.tmp 158),(.tmp 159)])⟩,⟨some 161,none,(.mov (.tmp 14))⟩,⟨some 162,none,(.mov (.tmp 21))⟩,⟨some 163,none,(.call (.func 17) [(.tmp 161),(.tmp 162)])⟩,⟨some 164,none,(.binB true (.tmp 160) (.tmp 163))⟩]) (.cond (.tmp 164) (.seq (.region [⟨some 6,none,(.mov (.const (.bool false)))⟩]) .ret) .skip))) (.region [⟨some 156,none,(.mov (.tmp 21))⟩,⟨some 157,none,(.bin .add (.tmp 156) (.const (.int .i64 1)))⟩,⟨some 21,none,(.mov (.tmp 157))⟩])))
noncomputable def body5:ACode:=(.seq (.region [⟨some 3,none,(.box (.tmp 0))⟩,⟨some 6,none,(.mov (.const (.bool false)))⟩]) (.seq (.region [⟨some 22,none,(.call (.func 10) [])⟩,⟨some 7,none,(.mov (.tmp 22))⟩]) (.seq (.seq (.region [⟨some 23,none,(.load true 2 (.tmp 3))⟩,⟨some 24,none,(.call (.func 12) [(.tmp 23),(.const (.int .i64 200))])⟩,⟨some 25,none,(.mov (.tmp 24))⟩,⟨some 26,some (25,false),(.mov (.tmp 7))⟩,⟨some 27,some (25,false),(.un .not (.tmp 26))⟩,⟨some 28,none,(.pick (.tmp 25) (.const (.bool true)) (.tmp 27))⟩]) (.cond (.tmp 28) (.seq (.region [⟨some 29,none,(.mov (.tmp 7))⟩,⟨some 6,none,(.mov (.tmp 29))⟩]) .ret) .skip)) (.seq (.region [⟨some 31,none,(.load true 2 (.tmp 3))⟩,⟨some 32,none,(.mov (.tmp 1))⟩,⟨some 33,none,(.mov (.tmp 2))⟩,⟨some 34,none,(.call (.func 9) [(.tmp 31),(.tmp 32),(.tmp 33)])⟩,⟨some 30,none,(.mov (.tmp 34))⟩,⟨some 35,none,(.extract (.tmp 30) 0)⟩,⟨some 36,none,(.extract (.tmp 30) 1)⟩,⟨some 8,none,(.mov (.tmp 35))⟩,⟨some 9,none,(.mov (.tmp 36))⟩]) (.seq (.region [⟨some 38,none,(.load true 2 (.tmp 3))⟩,⟨some 39,none,(.mov (.tmp 1))⟩,⟨some 40,none,(.call (.func 13) [(.tmp 38),(.tmp 39)])⟩,⟨some 37,none,(.mov (.tmp 40))⟩,⟨some 41,none,(.extract (.tmp 37) 0)⟩,⟨some 42,none,(.extract (.tmp 37) 1)⟩,⟨some 10,none,(.mov (.tmp 41))⟩,⟨some 11,none,(.mov (.tmp 42))⟩]) (.seq (.region [⟨some 44,none,(.load true 2 (.tmp 3))⟩,⟨some 45,none,(.mov (.tmp 1))⟩,⟨some 46,none,(.mov (.tmp 2))⟩,⟨some 47,none,(.call (.func 18) [(.tmp 44),(.tmp 45),(.tmp 46)])⟩,⟨some 43,none,(.mov (.tmp 47))⟩,⟨some 48,none,(.extract (.tmp 43) 0)⟩,⟨some 49,none,(.extract (.tmp 43) 1)⟩,⟨some 12,none,(.mov (.tmp 48))⟩,⟨some 13,none,(.mov (.tmp 49))⟩]) (.seq (.seq (.region [⟨some 50,none,(.mov (.tmp 9))⟩,⟨some 51,none,(.bin .neq (.tmp 50) (.const (.int .i64 0)))⟩,⟨some 52,none,(.mov (.tmp 51))⟩,⟨some 53,some (52,false),(.mov (.tmp 11))⟩,⟨some 54,some (52,false),(.bin .neq (.tmp 53) (.const (.int .i64 0)))⟩,⟨some 55,none,(.pick (.tmp 52) (.const (.bool true)) (.tmp 54))⟩,⟨some 56,none,(.mov (.tmp 55))⟩,⟨some 57,some (56,false),(.mov (.tmp 13))⟩,⟨some 58,some (56,false),(.bin .neq (.tmp 57) (.const (.int .i64 0)))⟩,⟨some 59,none,(.pick (.tmp 56) (.const (.bool true)) (.tmp 58))⟩]) (.cond (.tmp 59) (.seq (.region [⟨some 60,none,(.mov (.tmp 7))⟩,⟨some 61,none,(.mov (.tmp 60))⟩,⟨some 62,some (61,true),(.mov (.tmp 8))⟩,⟨some 63,some (61,true),(.len (.tmp 62))⟩,⟨some 64,some (61,true),(.bin .eql (.tmp 63) (.const (.int .i64 0)))⟩,⟨some 65,none,(.pick (.tmp 61) (.tmp 64) (.const (.bool false)))⟩,⟨some 6,none,(.mov (.tmp 65))⟩]) .ret) .skip)) (.seq (.region [⟨some 14,none,(.mov (.const (.slice none 0 0)))⟩]) (.seq (.seq (.region [⟨some 15,none,(.mov (.const (.int .i64 0)))⟩]) (.block 0 (.loop body5_2))) (.seq (.seq (.region [⟨some 21,none,(.mov (.const (.int .i64 0)))⟩]) (.block 6 (.loop body5_3))) (.seq (.region [⟨some 165,none,(.mov (.tmp 7))⟩,⟨some 6,none,(.mov (.tmp 165))⟩]) .ret)))))))))))
set_option maxRecDepth 100000 in
theorem tab5:tb.code 5=some ⟨166,[(6,none)],body5⟩:=by kernel_rfl
theorem zG8 (h:AHeap) (vt vf:Value) (T:List LType) (F:List LFn) (f b:Int) (tt:Tbl h) (hm:h.mark≤h.n) (Z:TzT h) (st:SlT h vt T) (sf:SlF h vf F) (hT:(T.length:Int)≤1152921504606846976) (hF:(F.length:Int)≤1152921504606846976):
  WC Tryd.prog tb 5 [.agg #[vt,vf],I f,I b] h fun r h'=>r= .bool true:=by
 obtain⟨ta,tn,tk,rfl⟩:=zJ st
 obtain⟨ga,gn,gk,rfl⟩:=zJ sf
 refine WC.of (zF 5) tab5 ?_;simp only[zN,Nat.zero_add,Nat.reduceAdd]
 refine go ?_
 refine WO.bx ?_
 intro p h1 e1 o1
 have tt1:=tt.ext e1
 have Z1:=Z.ext e1
 refine go ?_
 refine WO.con (alive_ok h1 tt1.1 Z1.1) ?_
 rintro _ _ ⟨rfl,rfl⟩
 refine go ?_
 refine WO.con (great_ok h1 _ _ T F 200 (by omega) (st.ext e1) (SlF.ext sf e1) (by omega) (by omega)) ?_
 rintro r h3 ⟨hr,e3⟩
 have o1:=o1.ext e3
 rcases hr with rfl|⟨rfl,sm⟩
 ·refine go ?_
  refine rt ?_
  rfl
 have E:EnvL h3 (.slice ta tn tk) (.slice ga gn gk) T F:=⟨tt1.ext e3,ZJ e3 (ZJ e1 hm),sm,(st.ext e1).ext e3,SlF.ext (SlF.ext sf e1) e3⟩
 have Z3:=Z1.ext e3
 clear st sf tt tt1 Z Z1 hm e1 e3
 refine go ?_
 refine WO.con (lEnd_ok h3 _ _ T F f b E Z3) ?_
 rintro _ h4 ⟨⟨vn,l,rfl,on,hl1,hl2⟩,e4⟩
 have o1:=o1.ext e4
 have E:=E.ext e4
 have Z4:=Z3.ext e4
 have sn:=on.sl
 refine go ?_
 refine WO.con (zIJ h4 _ _ T F f E.tt E.hm E.sm E.st E.sf) ?_
 rintro _ h5 ⟨rfl,e5⟩
 have o1:=o1.ext e5
 have E:=E.ext e5
 have Z5:=Z4.ext e5
 have sn:=SlI.ext sn e5
 refine go ?_
 refine WO.con (zE8 h5 _ _ T F f b E.tt E.hm E.sm E.st E.sf) ?_
 rintro _ h6 ⟨⟨vto,rfl,sto,_⟩,e6⟩
 have o1:=o1.ext e6
 have E:=E.ext e6
 have Z6:=Z5.ext e6
 have sn:=SlI.ext sn e6
 by_cases ha:(ZK T F f b).2=0
 case neg=>
  have:=hl1 ha
  subst this
  refine go ?_
  refine rt ?_
  rfl
 have A:=hl2 ha
 obtain⟨hask,hb0,hb1⟩:=zC2 ha
 obtain⟨hf0,hf1,_⟩:=zC5 hask
 obtain⟨O,U⟩:FnOk T F f (ze F f) (ZF T F f)∧∀ b∈ze F f,BlkU b (z9 (ZF T F f) (ze F f)) (ze F f).length:=zE0 E.sm hask
 have hb1:b<((ze F f).length:Int):=hb1
 rw[zE1 O ⟨hb0,hb1⟩]at sto ⊢
 rw[regs_of hask]
 have hN:=regN_le O
 have hll:=zHm A.rise A.reg hN.1
 have hUb:=U _ (zM (l:=ze F f) (i:=b.toNat) (by omega))
 have hrange:∀ k∈nxL (ze F f) b,0≤k∧k<((ze F f).length:Int):=hUb.next
 have hnl:(nxL (ze F f) b).length≤2:=by unfold nxL Z2;split<;>(try split)<;>(try split)<;>simp
 have hwant:∀ r,r∈l↔Yb (ze F f) (LB (ZF T F f) (ze F f)) b r:=fun r=>(A.mem r).trans (A.fix.e b r hb0 hb1)
 have hLB:∀ k r,0≤k→k<((ze F f).length:Int)→(LB (ZF T F f) (ze F f) k r↔yr (ZF T F f) (ze F f) k 0 (LE (ZF T F f) (ze F f) k) r):=fun k r h1 h2=>A.fix.b k r h1 h2
 have hwant:=Hid.mk hwant
 have hLB:=Hid.mk hLB
 have U:=Hid.mk U
 have hO:Hid (∀ b∈ze F f,(b.ins.length:Int)≤128):=⟨O.ins⟩
 have hnx:=Hid.mk (fun k (h1:0≤k) (h2:k<((ze F f).length:Int))=>zE1 O ⟨h1,h2⟩)
 clear hl1 hl2 A on hUb
 refine go ?_
 refine WX.loopA [66,67,68,69,73,74,75,76,77,78,79,72,80,81,16,17,82,83,84,14,85,86,87,88,89,90,91,92,93,94,95,96,97,18,19,98,99,100,101,20,104,105,106,107,108,109,110,111,112,113,114,115,116,117,118,119,120,121,122,123,124,125,126,127,128,129,132,133,134,135,136,137,138,139,140,141,142,143,144,145,146,147,148,149,150,151,152,14,130,131,20,102,103,19,70,71,15] (by kernel_rfl) (fun i=>(nxL (ze F f) b).length - i) (fun i t h'=>∃ w W,zB t 15=I i∧i≤(nxL (ze F f) b).length∧Ext h6 h'∧zB t 14=w∧OwnN h6 h' w W∧W.length≤i * 3000∧Hid (∀ r,r∈W↔∃ k∈(nxL (ze F f) b).take i,LB (ZF T F f) (ze F f) k r∨r∈zAN ((ze F f).getD k.toNat default) b)) 0 ?_ ?_
 ·exact⟨_,[],sl_,Nat.zero_le _,Ext.refl _,sl_,.inl ⟨rfl,rfl⟩,Nat.zero_le _,⟨fun r=>by simp⟩⟩
 rintro i t h7 hsame ⟨w,W,s15,hi,e7,s14,ow,hWl,hW⟩
 have o17:=o1.ext e7
 have E7:=E.ext e7
 have Z7:=Z6.ext e7
 have sto7:=SlI.ext sto e7
 refine go ?_
 refine WX.br (fun hc=> ?_) (fun hc=> ?_)<;>simp only[DB]at hc
 ·have hi':i<(nxL (ze F f) b).length:=by omega
  have hk:=hrange _ (zEN hi')
  have htk:=Hid.mk (zBP (nxL (ze F f) b) hi')
  have hz:Y1 T F f ((nxL (ze F f) b).getD i 0) 0=0:=ask_zero (by rw[hnx.out _ hk.1 hk.2]) (Int.le_refl _) (by omega)
  refine go ?_
  refine WX.regionU2 0 rfl rfl ?_
  have oX:OwnC h (inC (zC 0 h7)) p [.slice ta tn tk,.slice ga gn gk]:=o17
  have stX:SlI (inC (zC 0 h7)) vto (nxL (ze F f) b):=sto7
  have ZX:TzT (inC (zC 0 h7)):=by have:=Z7;exact this
  refine goU ?_
  refine WO.con (lAt_ok (inC (zC 0 h7)) _ _ T F f ((nxL (ze F f) b).getD i 0) 0 E7.inC ZX) ?_
  rintro _ h8 ⟨⟨vl2,l2,rfl,ol2,_,hl2⟩,e8⟩
  have A2:=hl2 hz
  have hll2:=zHm A2.rise A2.reg hN.1
  refine WO.nil ?_
  refine ZD e8 zY ?_
  refine goU ?_
  have e78:Ext h7 (outC h7 (inC h8)):=extI e8
  have sl2:SlI (outC h7 (inC h8)) vl2 l2:=by have:=ol2.sl;exact this
  generalize outC h7 (inC h8)=h9 at e78 sl2 ⊢
  have ow9:=OwnN.ext ow e78
  have e69:=e7.trans e78
  have hl2m:Hid (∀ r,r∈l2↔LB (ZF T F f) (ze F f) ((nxL (ze F f) b).getD i 0) r):=⟨fun r=>by rw[A2.mem r,hLB.out _ _ hk.1 hk.2];exact Iff.rfl⟩
  clear A2 hl2 ol2 e8 oX stX ZX
  obtain⟨wa,wn,wk,rfl⟩:=SlC.shape ow9.sl
  refine go ?_
  refine WO.apN ow9 sl2 e69 (by omega) ?_
  intro v10 h10 e10 o10
  have o110:=o1.ext e10
  have E10:=E.ext e10
  have sf10:=E10.sf
  have sto10:=SlI.ext sto e10
  obtain⟨csF,⟨vb,rfl,sb,hlb⟩,pcFX,hsF⟩:=yy (i:=f.toNat) E.sf (by omega)
  have pcF:=(pcFX _ e10).1
  obtain⟨ba,bn,bk,rfl⟩:=zJ sb
  have hkl:((nxL (ze F f) b).getD i 0).toNat<(F.getD f.toNat default).blocks.length:=by show _<(ze F f).length;omega
  obtain⟨csB,⟨vi,rfl,si,hli⟩,pcB,hsB⟩:=yy (i:=((nxL (ze F f) b).getD i 0).toNat) sb hkl
  have pcB:=(pcB _ e10).1
  have sb10:=SlB.ext sb e10
  obtain⟨ia,iN,ik,rfl⟩:=zJ si
  have hUk:=U.out _ (zM (l:=ze F f) (i:=((nxL (ze F f) b).getD i 0).toNat) hkl)
  have hbm:=hO.out _ (zM (l:=ze F f) (i:=((nxL (ze F f) b).getD i 0).toNat) hkl)
  obtain⟨B,hB⟩:∃ B,B=(ze F f).getD ((nxL (ze F f) b).getD i 0).toNat default:=⟨_,rfl⟩
  have hB':(F.getD f.toNat default).blocks.getD ((nxL (ze F f) b).getD i 0).toNat default=B:=hB.symm
  rw[hB']at si hli pcB
  rw[←hB]at hUk hbm
  have hBh:=Hid.mk hB
  clear hB hB'
  have si10:=si
  have hfr:=Hid.mk (fun x hx=>(hUk.ins x hx).frm)
  have hphi:=Hid.mk (fun x hx e=>((hUk.ins x hx).phi e).1)
  have hnone:=Hid.mk (fun x hx e=>(hUk.ins x hx).none e)
  clear hUk
  have hk1:=hk.1
  have hk2:(nxL (ze F f) b).getD i 0<((F.getD f.toNat default).blocks.length:Int):=hk.2
  refine go ?_
  refine WX.loopA [98,99,100,101,20,104,105,106,107,108,109,110,111,112,113,114,115,116,117,118,119,120,121,122,123,124,125,126,127,128,129,132,133,134,135,136,137,138,139,140,141,142,143,144,145,146,147,148,149,150,151,152,14,130,131,20,102,103,19] (by kernel_rfl) (fun n=>B.ins.length - n) (fun n t h'=>∃ w,zB t 19=I n∧n≤B.ins.length∧Ext h6 h'∧zB t 14=w∧OwnN h6 h' w ((W++l2)++(B.ins.take n).flatMap fun x=>zA9 x b)) 0 ?_ ?_
  ·exact⟨_,sl_,Nat.zero_le _,e10,sl_,by simpa using o10⟩
  rintro n t11 h11 hsame11 ⟨w11,s19,hn,e11,s14',ow11⟩
  have si11:=SlN.ext si10 e11
  refine go ?_
  refine WX.br (fun hc2=> ?_) (fun hc2=> ?_)<;>simp only[DB]at hc2
  ·have hn':n<B.ins.length:=by omega
   have hmem:=zM (l:=B.ins) hn'
   have hfx:=hfr.out _ hmem
   have hpx:=hphi.out _ hmem
   have hnx:=hnone.out _ hmem
   have hsn:=Hid.mk (zEI (b:=b) hn')
   have hpl:=zAi (B.ins.take n) b fun x hx=>hfr.out x (List.mem_of_mem_take hx)
   have hpl2:(B.ins.take n).length≤n:=by rw[List.length_take];omega
   obtain⟨csx,⟨va,vf,rfl,sa,sf,ha1,ha2,ho1,ho2⟩,pcX,hs⟩:=yy si10 hn'
   have pc:=(pcX _ e11).1
   obtain⟨aa,an,ak,rfl⟩:=SlC.shape sa
   obtain⟨fa,fn,fk,rfl⟩:=SlC.shape sf
   generalize (B.ins.take n).flatMap (fun x=>zA9 x b)=P at *
   generalize B.ins.getD n default=x at *
   refine go ?_
   refine WX.loopA [104,105,106,107,108,109,110,111,112,113,114,115,116,117,118,119,120,121,122,123,124,125,126,127,128,129,132,133,134,135,136,137,138,139,140,141,142,143,144,145,146,147,148,149,150,151,152,14,130,131,20] (by kernel_rfl) (fun j=>x.frm.length - j) (fun j t h'=>∃ w,zB t 20=I j∧j≤x.frm.length∧Ext h6 h'∧zB t 14=w∧OwnN h6 h' w (((W++l2)++P)++YP (x.frm.take j) (x.args.take j) b)) 0 ?_ ?_
   ·exact⟨_,sl_,Nat.zero_le _,e11,sl_,by simpa [YP]using ow11⟩
   rintro j t12 h12 hsame12 ⟨w12,s20,hj,e12,s14'',ow12⟩
   have pc12:=(pcX _ e12).1
   have si12:=SlN.ext si10 e12
   have sa12:=SlI.ext sa e12
   have sf12:=SlI.ext sf e12
   by_cases cj:(j:Int)<(x.frm.length:Int)
   ·have hop:x.op=22:=by
     by_cases q:x.op=22
     ·exact q
     ·exact absurd (hnx q) (by omega)
    have hfa:=hpx hop
    have cj2:(j:Int)<(x.args.length:Int):=by omega
    have hps:=zCA x.frm x.args b j hfa (by omega)
    have hpal:=zBh (x.frm.take j) (x.args.take j) b
    have hpal2:(x.frm.take j).length≤j:=by rw[List.length_take];omega
    by_cases hk:x.frm.getD j 0=b
    ·rw[if_pos hk]at hps
     refine go ?_
     refine WO.bl [x.args.getD j 0] ?_
     intro v6 h6b e6b o6b
     refine go ?_
     refine WO.apN (OwnN.ext ow12 e6b) o6b.sl (e12.trans e6b) (by simp only[List.length_append,List.length_singleton];omega) ?_
     intro v7 h7b e7b o7b
     refine go ?_
     exact zA (j+1) (by omega) ⟨_,sln,by omega,e7b,sl_,by rw[hps,←List.append_assoc];exact o7b⟩
    ·rw[if_neg hk,List.append_nil]at hps
     refine go ?_
     exact zA (j+1) (by omega) ⟨_,sln,by omega,e12,sl_,by rw[hps];exact ow12⟩
   ·have hjl:j=x.frm.length:=by omega
    subst hjl
    have hphx:YP x.frm (x.args.take x.frm.length) b=zA9 x b:=by
     unfold zA9
     split
     ·next q=>rw[hpx q,List.take_length]
     ·next q=>rw[List.eq_nil_of_length_eq_zero (by have:=hnx q;omega:x.frm.length=0)];simp[YP]
    rw[List.take_length,hphx,List.append_assoc,←hsn.out]at ow12
    refine go ?_
    exact zA (n+1) (by omega) ⟨_,sln,by omega,e12,sl_,ow12⟩
  ·have hnl':n=B.ins.length:=by omega
   subst hnl'
   rw[List.take_length]at ow11
   have hpl:=zAi B.ins b fun x hx=>hfr.out x hx
   refine go ?_
   refine zA (i+1) (by omega) ⟨_,_,sln,by omega,e11,sl_,ow11,by simp only[List.length_append];omega,⟨fun r=> ?_⟩⟩
   have e1:r∈(B.ins.flatMap fun x=>zA9 x b)↔r∈zAN B b:=Iff.rfl
   rw[List.mem_append,List.mem_append,e1,hW.out,htk.out,hl2m.out,hBh.out]
   constructor
   ·rintro((⟨k,hk,q⟩|q)|q)
    ·exact⟨k,List.mem_append_left _ hk,q⟩
    ·exact⟨_,List.mem_append_right _ (List.mem_singleton_self _),.inl q⟩
    ·exact⟨_,List.mem_append_right _ (List.mem_singleton_self _),.inr q⟩
   ·rintro⟨k,hk,q⟩
    rcases List.mem_append.1 hk with hk|hk
    ·exact .inl (.inl ⟨k,hk,q⟩)
    ·rw[List.mem_singleton.1 hk]at q
     rcases q with q|q
     ·exact .inl (.inr q)
     ·exact .inr q
 ·have hil:i=(nxL (ze F f) b).length:=by omega
  subst hil
  rw[List.take_length]at hW
  have sn7:=SlI.ext sn e7
  have sw:=ow.sl
  have n1:(true != true)=false:=rfl
  have n2:(false != false)=false:=rfl
  refine go ?_
  refine WX.loopA [153,154,155,158,159,160,161,162,163,164,6,156,157,21] (by kernel_rfl) (fun r=>(z9 (ZF T F f) (ze F f)).toNat - r) (fun r t h'=>h7=h'∧zB t 21=I (r:Nat)∧(r:Int)≤z9 (ZF T F f) (ze F f)) 0 ?_ ?_
  ·exact⟨rfl,sl_,hN.1⟩
  rintro r t11 _ hsame11 ⟨rfl,s21,hr⟩
  refine go ?_
  refine WX.br (fun hc11=> ?_) (fun hc11=> ?_)<;>simp only[DB]at hc11
  ·refine go ?_
   refine WO.con (zEK h7 vn l (r:Int) sn7 (by omega)) ?_
   rintro _ _ ⟨rfl,rfl⟩
   refine go ?_
   refine WO.con (zEK h7 w W (r:Int) sw (by omega)) ?_
   rintro _ _ ⟨rfl,rfl⟩
   have hm:(r:Int)∈l↔(r:Int)∈W:=(hwant.out r).trans (hW.out r).symm
   by_cases q:(r:Int)∈l
   ·rw[decide_eq_true q,decide_eq_true (hm.1 q)]
    refine go ?_
    rw[n1]
    refine go ?_
    exact zA (r+1) (by omega) ⟨rfl,sln,by omega⟩
   ·rw[decide_eq_false q,decide_eq_false (fun q2=>q (hm.2 q2))]
    refine go ?_
    rw[n2]
    refine go ?_
    exact zA (r+1) (by omega) ⟨rfl,sln,by omega⟩
  ·refine go ?_
   refine rt ?_
   rfl
end Go.Proofs.YtemggiegiejopaaDoor
