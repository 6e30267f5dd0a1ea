/- What functions of the program come to in the abstract machine, and plain laws about it; no statement of the seat is proved in this text. -/
import Derived.Test.YteekipjpghikkaaGreatDoorJi
import Derived.Test.YteekipjpghikkaaGreatDoorJh
import Derived.Test.YteekipjpghikkaaGreatDoorAmV
import Derived.Test.YteekipjpghikkaaGreatDoorJg
set_option linter.unusedVariables false
set_option linter.unusedSimpArgs false
set_option maxHeartbeats 2000000
namespace Go.Proofs.YteekipjpghikkaaGreatDoor
noncomputable section
open Go.Am
theorem WO.mi {P:Program} {tab:Tab} {l:List AOper} {t:Trie Value} {ds:List Deferred} {rd:Option Nat} {h:AHeap} {Q:AFr->AHeap->Prop} {d:Nat} {ty:TypeId} {x:Operand} {v:Value} (k:WO P tab l ⟨t.set d (.iface ty v),ds,rd⟩ h Q) (hx:Ope t x v:=by exact zJ):WO P tab (⟨some d,none,.mkIface ty x⟩::l) ⟨t,ds,rd⟩ h Q:=
 WO.op _ _ rfl (by unfold Ope at *;simp only[aop,hx]) k
theorem zUs {P:Program} {tab:Tab} {m N0 g:Nat} {o:AOper} {un:List Nat} {l:List (AOper×List Nat)} {fr:AFr} {h:AHeap} {Q:AFr->AHeap->Prop} {t:Trie Value} (hr:zZ t o=none) (hx:WU2 P tab m N0 l g true fr (inC h) Q):uK2 P tab m N0 un t o (inC h) l g true Q fr (inC h):=
 zCK (fun g hg=>by rw[hr]at hg;cases hg) hx
structure InsT (T:List LType) (F:List LFn) (x:LIns):Prop where
 ty:InT T x.ty
 n14:x.op=14->0<=x.n
 n2:x.op=3\/x.op=18->0<=x.n/\x.n<(F.length:Int)
 l1:x.op=14\/x.op=15\/x.op=16\/x.op=17\/x.op=19->1<=(yg x).length
 l2:x.op=15\/x.op=17\/x.op=10->2<=(yg x).length
theorem zFg {x:LIns} {N n:Int} (u:InsU x N n):(yg x).length<=30:=by
 have:=u.args;unfold yg;simp only[QX];have h1:(if (zo x.op).1 then [x.a] else []).length<=1:=by split<;>simp
 have h2:(if (zo x.op).2.1 then [x.b] else []).length<=1:=by split<;>simp
 have h3:(if (zo x.op).2.2.2.1 then x.args else []).length<=20:=by
  split
  ·exact this
  ·exact QV _
 omega
theorem zTw {T:List LType} {F:List LFn} {f:LFn} {x:LIns} (hT:0<T.length) (h:zCr x (szL T F.length f)=true):InsT T F x:=by
 have ho:=zO4 h;have m:=(zEO (by omega)).1 h;have ha:=zCU (op:=x.op) (by omega);have hty:=m.ans;have hn:=m.num;refine⟨?_,fun e=> ?_,fun e=> ?_,fun e=> ?_,fun e=> ?_⟩
 ·split at hty
  ·exact .inr hty
  ·exact .inr ⟨by omega,by omega⟩
 ·unfold zL0 at hn;rw[QD (by omega),QD (by omega),QI e]at hn;exact hn.1
 ·unfold zL0 at hn;rw[QD (by omega),QI e]at hn;exact hn
 ·have h1:(zo x.op).1=true:=ha.2.1.2 (by unfold zIN zJb;omega);unfold yg;rw[h1];simp
 ·have h1:(zo x.op).1=true:=ha.2.1.2 (by unfold zIN zJb;omega);have h2:(zo x.op).2.1=true:=ha.1.2 (by unfold zJb;omega);unfold yg;rw[h1,h2];simp
def YJ (ks rs:List Int):List Int:=rs.map fun r=>ks.getD r.toNat 0
def zEX (T:List LType) (F:List LFn) (ks:List Int) (ps:List (Int×Int)) (nx:Int->List Int) (L:List LBlk) (P:List Int) (b:Int) (i:Nat) (pre:Prop) (x:LIns):Prop:=
 ¬(-1:Int)∈YJ ks (yg x)/\zGc T F x (YJ ks (yg x))=true/\(x.op=22->pre/\x.frm=P/\zVG nx ps L x.frm x.args)/\(x.op≠22->∀ r∈yg x,zBl nx (ps.getD r.toNat default) b i)
def Zw (T:List LType) (F:List LFn) (ks:List Int) (ps:List (Int×Int)) (nx:Int->List Int) (L:List LBlk) (P:List Int) (b:Int) (i:Nat):Prop:=
 zEX T F ks ps nx L P b i (∀ j,j<i->((L.getD b.toNat default).ins.getD j default).op=22) ((L.getD b.toNat default).ins.getD i default)
def zDJ (T:List LType) (F:List LFn) (f:Int) (ks:List Int) (ps:List (Int×Int)) (nx:Int->List Int) (b:Int) (B:LBlk):Prop:=
 (¬(-1:Int)∈YJ ks (yQ B.fin)/\∀ r∈yQ B.fin,zBl nx (ps.getD r.toNat default) b B.ins.length)/\(B.fin.kind=2->isL T 1 (YJ ks (yQ B.fin))=true)/\(B.fin.kind=1\/B.fin.kind=2->B.fin.to≠0/\(B.fin.kind=1\/B.fin.els≠0))/\(B.fin.kind=3->(YJ ks (yQ B.fin)).getD 0 0=(T.getD (F.getD f.toNat default).sig.toNat default).elem)
def Z8 (T:List LType) (F:List LFn) (f:Int) (ks:List Int) (ps:List (Int×Int)) (nx:Int->List Int) (L:List LBlk) (b:Int):Prop:=zDJ T F f ks ps nx b (L.getD b.toNat default)
def tyF:Nat:=119
def zAN (f b:Int):Value:= .iface tyF (.agg #[I f,I b,I 120])
section
variable {vt vf:Value} {T:List LType} {F:List LFn} {f:Int} {ks:List Int} {ps:List (Int×Int)} {xs:List Int} {g:Nat} {nx:Int->List Int} {L:List LBlk}
theorem SlN.ia {X:AHeap} {v:Value} {l:List LIns} (o:SlN X v l):SlN (inC X) v l:=o
theorem zPS {h:AHeap} {vi:Value} {B:LBlk} {i:Nat} (s:SlN h vi B.ins) (hi:i<B.ins.length):∃ cs,RIns h cs (B.ins.getD i default)/\(∀ h',Ext h h'->Piece h' vi (i * 7) cs/\Piece (inC h') vi (i * 7) cs)/\zMY vi:=yB s hi
def zOu:Nat->ACode->ACode
 |n+1,.seq _ b=>zOu n b
 |_,c=>c
def zPp:ACode:=(oV (oR [oB .lss 54 53 52]) (oV (oT 54 0) (oV (o5 1 (oV (oR [oM 55 53,oI 7 56 51 53,oA 7 57 56,⟨some 11,none,(.alloc [(.int .u8 0),(.int .i64 0),(.int .i64 0),(.int .i64 0),(.int .i64 0),(.slice none 0 0),(.slice none 0 0)])⟩,oM 10 55,oS 7 11 57]) (oV (oR [oA 7 58 11,o1 59 111 58,oM 12 59]) (oV (oR [oM 60 0,oM 61 12,o2 62 112 60 61,oM 13 62]) (o5 2 (oV (oR [oM 72 13,⟨some 73,none,(.call (.func 45) [(.tmp 72),(.const (.int .i64 (-1)))])⟩,oM 74 73,oH 74 (oM 75 0),oH 74 (oA 7 76 11),oH 74 (oM 77 13),oH 74 (o3 78 113 75 76 77),oH 74 (oW 79 78),oO 80 74 79,oM 71 80]) (oJ 71 (oV (oR [oA 3 81 8,⟨some 82,none,(.mkIface 119 (.tmp 81))⟩,oM 4 82]) .ret) (oV (oR [oF 0 84 11,oL 85 84,oD .eql 86 85 22,oM 83 86]) (oJ 83 (oV (oR [oM 87 9,oW 88 87,oM 89 88,oH 89 (oM 90 0),oH 89 (oA 7 91 11),oH 89 (oM 92 6),oH 89 (o3 93 114 90 91 92),oH 89 (oW 94 93),oO 95 89 94]) (oJ 95 (oV (oR [oA 3 96 8,⟨some 97,none,(.mkIface 119 (.tmp 96))⟩,oM 4 97]) .ret) .skip)) (oV (oR [oZ 9]) (oV (oR [oM 63 0,oM 64 1,oM 65 10,oM 66 12,o4 67 115 63 64 65 66,oW 68 67]) (oJ 68 (oV (oR [oA 3 69 8,⟨some 70,none,(.mkIface 119 (.tmp 69))⟩,oM 4 70]) .ret) .skip)))))))))))) (oR [oC .add 98 53 1,oM 53 98]))))
def zKD:ACode:=(oV (oR [⟨some 4,none,(.mov (.const .nilIface))⟩]) (oV (o6 [oM 16 0,(⟨some 17,none,(.nilCheck (.tmp 16))⟩,[]),oF 0 18 17,oF 1 19 18,oL 20 19,oM 21 0,(⟨some 22,none,(.nilCheck (.tmp 21))⟩,[]),oF 2 23 22,oL 24 23,oI 2 25 20 24,oF 1 26 25,oL 27 26,oM 28 1,oI 5 29 27 28,oA 5 30 29,(⟨some 5,none,(.alloc [(.slice none 0 0),(.int .u8 0),(.int .i64 0),(.int .i64 0),(.int .i64 0)])⟩,[]),oS 5 5 30]) (oV (o6 [oM 32 0,(⟨some 33,none,(.nilCheck (.tmp 32))⟩,[]),oF 0 34 33,oA 2 35 34,oM 36 0,(⟨some 37,none,(.nilCheck (.tmp 36))⟩,[]),oF 2 38 37,oL 39 38,oM 40 1,o3 41 19 35 39 40,oM 31 41,oE 42 31 0,oE 43 31 1,oM 6 42,oM 7 43]) (oV (oR [oM 44 0,⟨some 45,none,(.nilCheck (.tmp 44))⟩,oF 2 46 45,oL 47 46,oM 48 1,⟨some 49,none,(.build [(.int .i64 0),(.int .i64 0),(.int .i64 0)] [(0,1,(.tmp 47)),(1,1,(.tmp 48)),(2,1,(.const (.int .i64 120)))])⟩,⟨some 8,none,(.alloc [(.int .i64 0),(.int .i64 0),(.int .i64 0)])⟩,oS 3 8 49]) (oV (oR [oK 9 (.bool true)]) (oV (oV (oR [oF 0 50 5,oL 51 50,oQ 52 51,oN 53 0]) (o5 0 (.loop zPp))) (oV (oR [oM 99 0,oF 1 100 5,oA 4 101 100,o1 102 86 101,o2 103 112 99 102,oM 14 103]) (oV (o6 [oM 104 14,(⟨some 105,none,(.call (.func 45) [(.tmp 104),(.const (.int .i64 (-1)))])⟩,[]),oW 106 105,oM 107 106,oG 107 (oM 108 0),oG 107 (oM 109 1),oG 107 (oF 0 110 5),oG 107 (oL 111 110),oG 107 (oQ 112 111),oG 107 (oF 1 113 5),oG 107 (oA 4 114 113),(oG 107 (o1 115 86 114),[7]),oG 107 (o4 116 115 108 109 112 115),oP 117 107 116,oM 15 117]) (oV (oV (oR [oF 1 118 5,oF 0 119 118,oL 120 119]) (o5 3 (oV (o5 6 (oV (o5 5 (oV (o5 4 (oV (oV (oV (oR [oD .eql 122 120 2,oM 121 122]) (oJ 121 (.exit 4) .skip)) (oV (oV (oR [oD .eql 124 120 1,oM 123 124]) (oJ 123 (.exit 5) .skip)) (oV (oR [oD .eql 126 120 3,oM 125 126]) (oJ 125 (.exit 6) .skip)))) (.exit 3))) (oR [oM 127 15,oM 128 127,oG 128 (oM 129 0),oG 128 (oM 130 14),⟨some 131,some (128,true),(.call (.func 67) [(.tmp 129),(.const (.int .u8 1)),(.tmp 130)])⟩,oP 132 128 131,oM 15 132]))) (oV (oR [oM 133 15,oM 134 133,oG 134 (oF 1 135 5),oG 134 (oF 2 136 135),oG 134 (oL 137 136),oG 134 (oC .neq 138 137 0),oP 139 134 138,oM 140 139,oG 140 (oF 1 141 5),oG 140 (oF 0 142 141),oG 140 (oL 143 142),oG 140 (oD .eql 144 143 1),oG 140 (oM 145 144),oH 145 (oF 1 146 5),oH 145 (oF 3 147 146),oH 145 (oL 148 147),oH 145 (oC .neq 149 148 0),oG 140 (oO 150 145 149),oP 151 140 150,oM 15 151]) (.exit 3)))) (oV (o6 [oM 152 15,oM 153 152,oG 153 (oM 154 14),(⟨some 155,some (153,true),(.idx 1 (.tmp 154) (.const (.int .i64 0)))⟩,[]),oG 153 (oL 156 155),oG 153 (oM 157 0),(⟨some 158,some (153,true),(.nilCheck (.tmp 157))⟩,[]),oG 153 (oF 0 159 158),oG 153 (oF 0 160 159),oG 153 (oL 161 160),oG 153 (oM 162 0),(⟨some 163,some (153,true),(.nilCheck (.tmp 162))⟩,[]),oG 153 (oF 0 164 163),oG 153 (oF 1 165 164),oG 153 (oL 166 165),oG 153 (oM 167 0),(⟨some 168,some (153,true),(.nilCheck (.tmp 167))⟩,[]),oG 153 (oF 2 169 168),oG 153 (oL 170 169),oG 153 (oI 2 171 166 170),oG 153 (oF 0 172 171),oG 153 (oL 173 172),oG 153 (oI 4 174 161 173),oG 153 (oF 1 175 174),oG 153 (oL 176 175),oG 153 (oB .eql 177 156 176),oP 178 153 177,oM 15 178]) (.exit 3))))) (oV (oV (oR [oM 179 15,oW 180 179]) (oJ 180 (oV (oR [oA 3 181 8,⟨some 182,none,(.mkIface 119 (.tmp 181))⟩,oM 4 182]) .ret) .skip)) (oV (oR [⟨some 4,none,(.mov (.const .nilIface))⟩]) .ret)))))))))))
theorem zJ9 (h h8 h0 h00:AHeap) (t8:Trie Value) (b:Int) (B:LBlk) (P:List Int) (p5 p8 vl vi:Value) (q:Bool) (e08:Ext h h8) (M8:FnM h8 g vt vf T F f ks ps (Z7 xs L.length)) (hG:0<=f/\f<(F.length:Int)) (hBq:L.getD b.toNat default=B)
  (hsig:0<=(F.getD f.toNat default).sig/\(F.getD f.toNat default).sig<(T.length:Int)) (hinT:∀ t∈YJ ks (yQ B.fin),InT T t) (hell:(YJ ks (yQ B.fin)).length=(yQ B.fin).length) (hue:(yQ B.fin).length<=1)
  (o58:OwnC h0 h8 p5 [vi,.int .u8 B.fin.kind,I B.fin.a,I B.fin.to,I B.fin.els]) (o88:OwnC h00 h8 p8 [I f,I b,I 120]) (ol8:SlI h8 vl (YJ ks (yQ B.fin)))
  (s0:zB t8 0= .pointer (some ⟨g,0,none⟩)) (s1:zB t8 1=I b) (s5:zB t8 5=p5) (s8:zB t8 8=p8) (s14:zB t8 14=vl) (s15:zB t8 15= .bool q)
  (hI:Hid (∀ j,j<B.ins.length->Zw T F ks ps nx L P b j)) (hq:Hid (q=true↔¬(-1:Int)∈YJ ks (yQ B.fin)/\∀ r∈yQ B.fin,zBl nx (ps.getD r.toNat default) b B.ins.length)):
  WX Tryz.prog tb (zOu 8 zKD) ⟨t8,[],none⟩ h8 (zE4 Tryz.prog tb [(4,none)] fun q h'=>(q= .nilIface/\(∀ i,i<B.ins.length->Zw T F ks ps nx L P b i)/\Z8 T F f ks ps nx L b\/q=zAN f b/\¬((∀ i,i<B.ins.length->Zw T F ks ps nx L P b i)/\Z8 T F f ks ps nx L b))/\Ext h h'):=by
 simp only[zOu,oV,zKD];have hE:Z8 T F f ks ps nx L b↔zDJ T F f ks ps nx b B:=by unfold Z8;rw[hBq]
 unfold zDJ at hE;rw[<-hq.out]at hE;have goodE:∀ {h'},Z8 T F f ks ps nx L b->Ext h h'->(Value.nilIface= .nilIface/\(∀ i,i<B.ins.length->Zw T F ks ps nx L P b i)/\Z8 T F f ks ps nx L b\/Value.nilIface=zAN f b/\¬((∀ i,i<B.ins.length->Zw T F ks ps nx L P b i)/\Z8 T F f ks ps nx L b))/\Ext h h':=fun he e=>⟨.inl ⟨rfl,hI.out,he⟩,e⟩;have badE:∀ {h'},¬Z8 T F f ks ps nx L b->Ext h h'->(zAN f b= .nilIface/\(∀ i,i<B.ins.length->Zw T F ks ps nx L P b i)/\Z8 T F f ks ps nx L b\/zAN f b=zAN f b/\¬((∀ i,i<B.ins.length->Zw T F ks ps nx L P b i)/\Z8 T F f ks ps nx L b))/\Ext h h':=fun hn e=>⟨.inr ⟨rfl,fun ⟨_,a⟩=>hn a⟩,e⟩;have hE:=Hid.mk hE;have goodE:=Hid.mk @goodE;have badE:=Hid.mk @badE;refine go ?_;by_cases k2:B.fin.kind=2
 ·have k1:¬B.fin.kind=1:=by omega
  have k3:¬B.fin.kind=3:=by omega
  cases q with
  |false=>
   refine go ?_;refine WO.mi ?_;refine gr ?_;exact badE.out (fun e'=>have e:=hE.out.1 e';absurd e.1 Bool.noConfusion) e08
  |true=>
   refine go ?_;refine WO.con (yq h8 1 vl _ M8 ol8 (by omega) hinT) ?_;rintro _ h9 ⟨rfl,e9⟩;have o59:=o58.ext e9;have o89:=o88.ext e9;cases c1:isL T 1 (YJ ks (yQ B.fin))with
   |false=>
    refine go ?_;refine WO.mi ?_;refine gr ?_;exact badE.out (fun e'=>have e:=hE.out.1 e';absurd ((e.2.1 k2).symm.trans c1) Bool.noConfusion) (e08.trans e9)
   |true=>
    by_cases ct:B.fin.to=0
    ·have ct':¬B.fin.to≠0:=fun h=>h ct;refine go ?_;refine WO.mi ?_;refine gr ?_;exact badE.out (fun e'=>have e:=hE.out.1 e';(e.2.2.1 (.inr k2)).1 ct) (e08.trans e9)
    ·have ct':B.fin.to≠0:=ct;by_cases ce:B.fin.els=0
     ·have ce':¬B.fin.els≠0:=fun h=>h ce;refine go ?_;refine WO.mi ?_;refine gr ?_;exact badE.out (fun e'=>have e:=hE.out.1 e';(e.2.2.1 (.inr k2)).2.elim k1 (fun h=>h ce)) (e08.trans e9)
     ·have ce':B.fin.els≠0:=ce;refine go ?_;rw[QT ce];refine gr ?_;exact goodE.out (hE.out.2 ⟨rfl,fun _=>c1,fun _=>⟨ct,.inr ce⟩,fun h=>absurd h k3⟩) (e08.trans e9)
 refine go ?_;by_cases k1:B.fin.kind=1
 ·have k3:¬B.fin.kind=3:=by omega
  cases q with
  |false=>
   refine go ?_;refine WO.mi ?_;refine gr ?_;exact badE.out (fun e'=>have e:=hE.out.1 e';absurd e.1 Bool.noConfusion) e08
  |true=>
   by_cases ct:B.fin.to=0
   ·have ct':¬B.fin.to≠0:=fun h=>h ct;refine go ?_;refine WO.mi ?_;refine gr ?_;exact badE.out (fun e'=>have e:=hE.out.1 e';(e.2.2.1 (.inl k1)).1 ct) e08
   ·have ct':B.fin.to≠0:=ct;refine go ?_;rw[QT ct];refine gr ?_;exact goodE.out (hE.out.2 ⟨rfl,fun h=>absurd h k2,fun _=>⟨ct,.inl k1⟩,fun h=>absurd h k3⟩) e08
 refine go ?_;by_cases k3:B.fin.kind=3
 ·cases q with
  |false=>
   refine go ?_;refine WO.mi ?_;refine gr ?_;exact badE.out (fun e'=>have e:=hE.out.1 e';absurd e.1 Bool.noConfusion) e08
  |true=>
   have hel1:(YJ ks (yQ B.fin)).length=1:=by rw[hell];unfold yQ;rw[QI (.inr k3)];rfl
   obtain⟨⟨hB3,vk3,vp3,vr3,om,oma,omb,omc⟩,st3,sf3,hm3⟩:=id M8;obtain⟨csf,⟨vbf,rfl,sbf,hlbf⟩,pcf,hslf⟩:=yB (i:=f.toNat) sf3 (by omega);have pcf1:=(pcf _ (Ext.refl _)).1;obtain⟨cst,⟨vat,rfl,sat,hlat⟩,pct,hslt⟩:=YI (i:=(F.getD f.toNat default).sig.toNat) st3 (by omega);by_cases ct:(YJ ks (yQ B.fin)).getD 0 0=(T.getD (F.getD f.toNat default).sig.toNat default).elem
   ·have cd:=QZ ct;refine gr ?_;exact goodE.out (hE.out.2 ⟨rfl,fun h=>absurd h k2,fun h=>absurd h (by omega),fun _=>ct⟩) e08
   ·have cd:=QT ct;refine go ?_;refine WO.mi ?_;refine gr ?_;exact badE.out (fun e'=>have e:=hE.out.1 e';absurd (e.2.2.2 k3) ct) e08
 cases q with
 |false=>
  refine go ?_;refine WO.mi ?_;refine gr ?_;exact badE.out (fun e'=>have e:=hE.out.1 e';absurd e.1 Bool.noConfusion) e08
 |true=>
  refine gr ?_;exact goodE.out (hE.out.2 ⟨rfl,fun h=>absurd h k2,fun h=>absurd h (by omega),fun h=>absurd h k3⟩) e08
end
set_option maxRecDepth 100000
section
variable {vt vf:Value} {T:List LType} {F:List LFn} {f:Int} {ks:List Int} {ps:List (Int×Int)} {xs:List Int} {g:Nat} {nx:Int->List Int} {L:List LBlk}
theorem zL6 (h:AHeap) (b:Int) (M:FnM h g vt vf T F f ks ps (Z7 xs L.length)) (G:Gr F f nx xs ps L) (E:Env h vt vf T F) (hc:ZR T=0) (hks:∀ t∈ks,InT T t) (hF:∀ f∈F,InT T f.sig)
  (hsig:0<=(F.getD f.toNat default).sig/\(F.getD f.toNat default).sig<(T.length:Int)) (hlen:ks.length=ps.length) (U:∀ B∈L,BlkU B ks.length L.length) (V:∀ B∈L,∀ x∈B.ins,InsT T F x) (hb:0<=b/\b<(L.length:Int)) (hil:(L.getD b.toNat default).ins.length<=1000):
  WC Tryz.prog tb 68 [.pointer (some ⟨g,0,none⟩),I b] h fun q h'=>(q= .nilIface/\(∀ i,i<(L.getD b.toNat default).ins.length->Zw T F ks ps nx L (yd T F f b).1 b i)/\Z8 T F f ks ps nx L b\/q=zAN f b/\¬((∀ i,i<(L.getD b.toNat default).ins.length->Zw T F ks ps nx L (yd T F f b).1 b i)/\Z8 T F f ks ps nx L b))/\Ext h h':=by
 have hb0:=hb;have hBL:L.getD b.toNat default∈L:=zH (by omega);have UB:=U _ hBL;have VB:=V _ hBL;have hG:=G.hf;have hGL:=G.hL;refine en 183 [(4,none)] zKD ?_;refine WX.regionU2 1 rfl rfl ?_;have ea:=zq 1 h;obtain⟨⟨hB,vk,vp,vr,o,a,b',c⟩,st,sf,hm⟩:=M.aside 1;obtain⟨cs,⟨vb,rfl,sb,hlb⟩,pc,hsl⟩:=yB (i:=f.toNat) M.sf (by omega);have pc1:=(pc _ ea).2;rw[hGL]at sb;have sbX:=SlB.ext sb ea;have sbX:SlB (inC (zC 1 h)) vb L:=sbX;obtain⟨cs2,⟨vi,rfl,si,hli⟩,pc',hsl'⟩:=yB (i:=b.toNat) sb (by omega);have pc2:=(pc' _ ea).2;obtain⟨ia,iN,ik,rfl⟩:=zM si;refine goU ?_;refine WU2.alE (X:=inC (zC 1 h)) (Ext.refl _) E.hm ?_;intro h1 p5 e1 o5;have si1:SlN h1 _ (L.getD b.toNat default).ins:=SlN.ext si e1;have M1:=M.ext e1;have E1:=E.ext e1;clear o a b' c st sf hm sb sbX si pc1 pc2 pc pc' hsl hsl' ea;refine go ?_;refine WX.regionU2 0 rfl rfl ?_;obtain⟨⟨hB',vk',vp',vr',o,a,b',c⟩,st,sf,hm⟩:=M1.aside 0;refine goU ?_;refine WO.con (zEa _ vt vf T F f b E1.tt (QF _) E1.sm E1.st E1.sf) ?_;rintro _ X2 ⟨⟨vq,rfl,oq0⟩,e2⟩;refine nE e2 ?_;have e2'':Ext h1 (zc h1 X2):=(zq 0 h1).trans (ZD (h:=h1) e2);have e2':Ext h1 (zc h1 (inC X2)):=e2'';refine goU ?_;have oq:OwnN h1 (zc h1 (inC X2)) vq (yd T F f b).1:=oq0;generalize (yd T F f b).2=eq at *;generalize zc h1 (inC X2)=h2 at *;generalize hP:(yd T F f b).1=P at *;clear o a b' c st sf hm oq0 e2 e2'';have M2:=M1.ext e2';have o5:=o5.ext e2';have si2:=SlN.ext si1 e2';have e02:=e1.trans e2';obtain⟨⟨hB2,vk2,vp2,vr2,om,oma,omb,omc⟩,omd,ome,omf⟩:=id M2;refine go ?_;refine WO.al ?_;intro p8 h3 e3 o8;refine go ?_;refine WO.stC0 (cs:=[I f,I b,I 120]) o8 e3 ?_;intro h4 e4 o8 u8;have e04:=e02.trans e4;have M4:=M2.ext e4;have o5:=o5.ext e4;have si4:=SlN.ext si2 e4;have oq4:=oq.ext e4;clear oma omb omc omd ome omf om M1 si1 E1;have E4:=E.ext e04;generalize hBq:L.getD b.toNat default=B at *;refine go ?_;refine WX.loopA [54,55,56,57,11,10,58,59,12,60,61,62,13,72,73,74,75,76,77,78,79,80,71,81,82,4,84,85,86,83,87,88,89,90,91,92,93,94,95,96,97,4,9,63,64,65,66,67,68,69,70,4,98,53] (by kernel_rfl) (fun i=>B.ins.length - i) (fun i t h1=>Ext h4 h1/\zB t 53=I i/\i<=B.ins.length/\(∃ fl,zB t 9= .bool fl/\Hid (fl=true↔∀ j,j<i->(B.ins.getD j default).op=22))/\Hid (∀ j,j<i->Zw T F ks ps nx L P b j)) 0 ?_ ?_
 ·exact⟨Ext.refl _,sl_,QV _,⟨true,sl_,⟨by simp⟩⟩,⟨fun j hj=>absurd hj (GG _)⟩⟩
 rintro i t h5 hsame ⟨e5,s53,hi,⟨fl,s9,hfl⟩,hI⟩;have M5:=M4.ext e5;have o55:=o5.ext e5;have o85:=o8.ext e5;have si5:=SlN.ext si4 e5;have oq5:=oq4.ext e5;have E5:=E4.ext e5;have e05:=e04.trans e5;refine go ?_;refine WX.br (fun hb=> ?_) (fun hb=> ?_)<;>simp only[DB]at hb
 ·have hi':i<B.ins.length:=by omega
  obtain⟨cs,hR,pcx,hsx⟩:=zPS si5 hi';have hxm:B.ins.getD i default∈B.ins:=zH hi';generalize hx:B.ins.getD i default=x at *;have hok:Zw T F ks ps nx L P b i↔zEX T F ks ps nx L P b i (∀ j,j<i->(B.ins.getD j default).op=22) x:=by unfold Zw;rw[hBq,hx]
  have ux:=UB.ins x hxm;have vx:=VB x hxm;have pcx1:=(pcx h5 (Ext.refl _)).1;obtain⟨xa,xf,rfl,sxa,sxf,hla,hlf,ho⟩:=id hR;obtain⟨xa1,xa2,xa3,rfl⟩:=SlC.shape sxa;obtain⟨xf1,xf2,xf3,rfl⟩:=SlC.shape sxf;refine go ?_;refine WO.al ?_;intro p11 h6 e6 o11;refine go ?_;refine WO.stC0 (cs:=[.int .u8 x.op,I x.ty,I x.a,I x.b,I x.n,.slice xa1 xa2 xa3,.slice xf1 xf2 xf3]) o11 e6 ?_;intro h7 e7 o11 u7;have hR7:=hR.ext e7;have E7:=E5.ext e7;refine go ?_;refine WO.con (zIh h7 x _ hR7 E7.tt ux.args) ?_;rintro vu h8 ⟨ou,e8⟩;have e58:=e7.trans e8;refine go ?_;refine WO.con (zNz h8 vu (yg x) (M5.ext e58) ou.sl (by have:=zFg ux;omega) (fun r hr=>ux.uses r hr)) ?_;rintro vl h9 ⟨ol,e9⟩;have e59:=e58.trans e9;have e09:=e05.trans e59;have bad:∀ {h'},¬Zw T F ks ps nx L P b i->Ext h h'->(zAN f b= .nilIface/\(∀ i,i<B.ins.length->Zw T F ks ps nx L P b i)/\Z8 T F f ks ps nx L b\/zAN f b=zAN f b/\¬((∀ i,i<B.ins.length->Zw T F ks ps nx L P b i)/\Z8 T F f ks ps nx L b))/\Ext h h':=fun hn e=>⟨.inr ⟨rfl,fun ⟨a,_⟩=>hn (a i hi')⟩,e⟩;have bad:=Hid.mk @bad;have hok:=Hid.mk hok;have M9:=M5.ext e59;have o89:=o85.ext e59;have o119:=o11.ext (e8.trans e9);have hlu:=zFg ux;have ouI:=ou.sl.ext e9;have hll:(YJ ks (yg x)).length=(yg x).length:=by unfold YJ;simp
  have hinT:∀ t∈YJ ks (yg x),InT T t:=fun t ht=>by
   obtain⟨r,hr,rfl⟩:=Q0.1 ht;have:=ux.uses r hr;exact hks _ (yS (by omega))
  replace ol:OwnN h8 h9 vl (YJ ks (yg x)):=ol;have R9:=hR.ext e59;refine go ?_;refine WO.con (Y1 h9 vl (YJ ks (yg x)) (-1) ol.sl (by omega)) ?_;rintro _ _ ⟨rfl,rfl⟩;by_cases c1:(-1:Int)∈YJ ks (yg x)
  ·rw[QZ c1];refine go ?_;refine WO.mi ?_;refine gr ?_;exact bad.out (fun q=>(hok.out.1 q).1 c1) e09
  rw[QT c1];refine go ?_;refine WO.con (zNJ h9 x _ vl (YJ ks (yg x)) M9 hc R9 ol.sl (by omega) hinT vx.ty hF vx.n14 vx.n2 (fun e=>by have:=vx.l1 e;omega) (fun e=>by have:=vx.l2 e;omega)) ?_;rintro _ h10 ⟨rfl,e10⟩;have e010:=e09.trans e10;have o810:=o89.ext e10;have o1110:=o119.ext e10;cases c2:zGc T F x (YJ ks (yg x))with
  |false=>
   refine go ?_;refine WO.mi ?_;refine gr ?_;exact bad.out (fun q=>absurd ((hok.out.1 q).2.1.symm.trans c2) Bool.noConfusion) e010
  |true=>
  have M10:=M9.ext e10;have oq10:=oq5.ext (e59.trans e10);have R10:=R9.ext e10;refine go ?_;by_cases c3:x.op=22
  ·cases fl with
   |false=>
    refine go ?_;refine WO.mi ?_;refine gr ?_;exact bad.out (fun q=>absurd (hfl.out.2 ((hok.out.1 q).2.2.1 c3).1) Bool.noConfusion) e010
   |true=>
    refine go ?_;have hph:=ux.phi c3;refine WO.con (zQT h10 x _ _ P M10 G R10 oq10.sl (fun j hj=>hph.2.2 _ (yS hj)) (by omega) (fun j hj=>by have:=hph.2.1 _ (yS hj);omega)) ?_;rintro _ h11 ⟨⟨bb,rfl,hbb⟩,e11⟩;have e011:=e010.trans e11;have o811:=o810.ext e11;cases bb with
    |false=>
     refine go ?_;refine WO.mi ?_;refine gr ?_;exact bad.out (fun q=>absurd (hbb.2 ((hok.out.1 q).2.2.1 c3).2) Bool.noConfusion) e011
    |true=>
     refine go ?_;refine zA (i+1) (by omega) ⟨e5.trans (e59.trans (e10.trans e11)),sln,by omega,⟨true,sl_,⟨?_⟩⟩,⟨fun j hj=> ?_⟩⟩
     ·simp only[true_iff];intro j hj;by_cases e:j=i
      ·subst e;rw[hx];exact c3
      ·exact hfl.out.1 rfl j (by omega)
     ·by_cases e:j=i
      ·subst e;exact hok.out.2 ⟨c1,c2,fun _=>⟨hfl.out.1 rfl,hbb.1 rfl⟩,fun h=>absurd c3 h⟩
      ·exact hI.out j (by omega)
  ·refine go ?_;have ou10:=ouI.ext e10;refine WO.con (zGf h10 vu (yg x) b i M10 G.r (G.way b hb0.1 hb0.2) (by have:=G.n;omega) G.inn ou10 (by omega) (fun r hr=>by have:=ux.uses r hr;omega) G.pl) ?_;rintro _ h11 ⟨⟨bb,rfl,hbb⟩,e11⟩;have e011:=e010.trans e11;have o811:=o810.ext e11;cases bb with
   |false=>
    refine go ?_;refine WO.mi ?_;refine gr ?_;exact bad.out (fun q=>absurd (hbb.2 ((hok.out.1 q).2.2.2 c3)) Bool.noConfusion) e011
   |true=>
    refine go ?_;refine zA (i+1) (by omega) ⟨e5.trans (e59.trans (e10.trans e11)),sln,by omega,⟨false,sl_,⟨?_⟩⟩,⟨fun j hj=> ?_⟩⟩
    ·simp only[Qk,JL];intro hall;have:=hall i (by omega);rw[hx]at this;exact c3 this
    ·by_cases e:j=i
     ·subst e;exact hok.out.2 ⟨c1,c2,fun h=>absurd h c3,fun _=>hbb.1 rfl⟩
     ·exact hI.out j (by omega)
 ·have hii:i=B.ins.length:=by omega
  subst hii;obtain⟨⟨hB3,vk3,vp3,vr3,om,oma,omb,omc⟩,st3,sf3,hm3⟩:=id M5;refine go ?_;refine WO.con (zE1 h5 B.fin) ?_;rintro ve h6 ⟨oe,e6⟩;refine go ?_;have hue:(yQ B.fin).length<=1:=by unfold yQ;split<;>simp
  refine WO.con (zNz h6 ve (yQ B.fin) (M5.ext e6) oe.sl (by omega) UB.ends) ?_;rintro vl h7 ⟨ol,e7⟩;replace ol:OwnN h6 h7 vl (YJ ks (yQ B.fin)):=ol;have e57:=e6.trans e7;have e07:=e05.trans e57;have hell:(YJ ks (yQ B.fin)).length=(yQ B.fin).length:=by unfold YJ;simp
  have hinT:∀ t∈YJ ks (yQ B.fin),InT T t:=fun t ht=>by
   obtain⟨r,hr,rfl⟩:=Q0.1 ht;have:=UB.ends r hr;exact hks _ (yS (by omega))
  have M7:=M5.ext e57;have o87:=o85.ext e57;have o57:=o55.ext e57;have si7:=SlN.ext si5 e57;clear om oma omb omc st3 sf3 hm3;refine go ?_;refine WX.cutA [104,105,106,107,108,109,110,111,112,113,114,115,116,117,15] (by kernel_rfl) (fun t h'=>Ext h7 h'/\∃ q,zB t 15= .bool q/\Hid (q=true↔¬(-1:Int)∈YJ ks (yQ B.fin)/\∀ r∈yQ B.fin,zBl nx (ps.getD r.toNat default) b B.ins.length)) ?_ ?_
  ·refine WX.regionU2 0 rfl rfl ?_;have ea:=zq 0 h7;have olX:=SlI.ia (ol.sl.ext ea);have o5X:=OwnC.ia (o57.ext ea);have siX:=SlN.ia (SlN.ext si7 ea);refine goU ?_;refine WO.con (Y1 _ vl _ (-1) olX (by omega)) ?_;rintro _ _ ⟨rfl,rfl⟩;refine nQ ?_;by_cases c1:(-1:Int)∈YJ ks (yQ B.fin)
   ·rw[QZ c1];refine goU ?_;refine zUs zFE ?_;refine goU ?_;exact zE ⟨ea,false,sl_,⟨by simp[c1]⟩⟩
   ·rw[QT c1];refine goU ?_;refine WO.con (zE1 _ B.fin) ?_;rintro ve2 X8 ⟨oe2,e8⟩;refine nE e8 ?_;have e8':=ea.trans (ZD (h:=h7) (X:=zC 0 h7) (Y:=X8) e8);refine goU ?_;refine WO.con (zGf _ ve2 (yQ B.fin) b B.ins.length (FnM.inC' (M7.ext e8')) G.r (G.way b hb0.1 hb0.2) (by have:=G.n;omega) G.inn (SlI.ia oe2.sl) (by omega) (fun r hr=>by have:=UB.ends r hr;omega) G.pl) ?_;rintro _ X9 ⟨⟨bb,rfl,hbb⟩,e9⟩;refine nE e9 ?_;have e9':=e8'.trans (ZD (h:=h7) e9);refine goU ?_;exact zE ⟨e9',bb,sl_,⟨by rw[hbb];simp[c1]⟩⟩
  rintro t8 h8 hs8 ⟨e8,q,s15,hq⟩;refine Zz ?_;exact zJ9 (xs:=xs) h h8 _ _ t8 b B P p5 p8 vl _ q (e07.trans e8) (M7.ext e8) hG hBq hsig hinT hell hue (o57.ext e8) (o87.ext e8) (ol.sl.ext e8) (by exact Z1) (by exact Z1) (by exact Z1) (by exact Z1) (by exact Z1) s15 hI hq
end
set_option maxRecDepth 100000
theorem zCc (h h':AHeap) (cs:List Value) (a:Int×Int) (r:RPl h cs a):RPl h' cs a:=r
structure FO (hB h:AHeap) (p:Value) (vt vf:Value) (f:Int) (ks:List Int) (ps:List (Int×Int)) (rs:List Int) (vk vp vr:Value):Prop where
 own:OwnC hB h p [vt,vf,I f,vk,vp,vr]
 k:OwnN hB h vk ks
 q:OwnR 2 RPl hB.n h vp ps
 r:OwnN hB h vr rs
 kp:OffV vk vp
 kr:OffV vk vr
 pr:OffV vp vr
 ok:OffV p vk
 op:OffV p vp
 or:OffV p vr
 s:(∃ a n k,vk= .slice a n k)/\(∃ a n k,vp= .slice a n k)/\(∃ a n k,vr= .slice a n k)
section
variable {hB h h' h2:AHeap} {p vt vf:Value} {f:Int} {ks:List Int} {ps:List (Int×Int)} {rs:List Int} {vk vp vr v':Value}
theorem FO.ext (F:FO hB h p vt vf f ks ps rs vk vp vr) (e:Ext h h'):FO hB h' p vt vf f ks ps rs vk vp vr:=⟨F.own.ext e,F.k.ext e,F.q.ext e,F.r.ext e,F.kp,F.kr,F.pr,F.ok,F.op,F.or,F.s⟩
theorem FO.putK {ks':List Int} (F:FO hB h p vt vf f ks ps rs vk vp vr) (u:Upd vk h h') (hn:hB.n<=h.n) (o:OwnI h h' v' ks') (oc:OwnC hB h2 p [vt,vf,I f,v',vp,vr]) (u2:UpdC p h' h2):FO hB h2 p vt vf f ks' ps rs v' vp vr:=by
 have hs:zEd h v':=(OwnN.since' (.inr o));have u1:=u.upB;have u2:=u2.upB;have o1:=OffV.fresh hs F.own.within;have o2:=OffV.fresh hs F.q.within;have o3:=OffV.fresh hs F.r.within;have ob:OwnN hB h' v' ks':= .inr (let ⟨g,a,b⟩:=o;⟨g,QW hn a,b⟩);exact⟨oc,ob.upB u2 o1.symm,(F.q.upB zCc u1 F.kp).upB zCc u2 F.op,(F.r.upB u1 F.kr).upB u2 F.or,o2,o3,F.pr,o1.symm,F.op,F.or,⟨SlC.shape ob.sl,F.s.2⟩⟩
theorem FO.putP {ps':List (Int×Int)} (F:FO hB h p vt vf f ks ps rs vk vp vr) (u:UpB vp h h') (hs:zEd h v') (hsl:∃ a n k,v'= .slice a n k) (o:OwnR 2 RPl hB.n h' v' ps') (oc:OwnC hB h2 p [vt,vf,I f,vk,v',vr]) (u2:UpdC p h' h2):FO hB h2 p vt vf f ks ps' rs vk v' vr:=by
 have u2:=u2.upB;have o1:=OffV.fresh hs F.own.within;have o2:=OffV.fresh hs F.k.within;have o3:=OffV.fresh hs F.r.within;exact⟨oc,(F.k.upB u F.kp.symm).upB u2 F.ok,o.upB zCc u2 o1.symm,(F.r.upB u F.pr).upB u2 F.or,o2.symm,F.kr,o3,F.ok,o1.symm,F.or,⟨F.s.1,hsl,F.s.2.2⟩⟩
end
theorem zN3 {α:Type} {n i:Nat} {a d:α} (h:i<n):(List.replicate n a).getD i d=a:=by
 rw[QE,Gt,QI h];rfl
theorem zSR {h:AHeap} {b g k:Nat} {x y:Int} (h1:b<=g) (h2:g<h.n) (hg:h.get g=some (.row (zV [I x,I y] k) true 0)):OwnR 2 RPl b h (.slice (some ⟨g,0,none⟩) k 2) (List.replicate k (x,y)):=by
 refine .inr ⟨g,zV [I x,I y] k,fun _=>False,h1,h2,by rw[Gd],hg,by rw[zj,Gd];rfl,id,fun _ h=>h.elim,fun i a ha hx _ _=> ?_⟩;rw[Gt]at ha;split at ha;case isFalse=>cases ha
 rename_i hi;cases ha;show _=_;have h3:List.drop (i * 2) (zV [I x,I y] k)=zV [I x,I y] (k - i):=zBL (z:=[I x,I y]);rw[h3,show k - i=(k - i - 1)+1 by omega];rfl
theorem zDM {L:List LBlk} (h:∀ b∈L,b.ins.length<=1000):∀ n,n<=L.length->(yX L n).length<=1000 * n
 |0,_=>QV _
 |n+1,hn=>by
  have:=zDM h n (by omega);have h2:=h _ (zH (l:=L) (i:=n) (by omega));show (yX L n++_).length<=_;rw[QX,GK,G5];omega
theorem zEm {L:List LBlk} (h:∀ b∈L,b.ins.length<=1000):∀ n,n<=L.length->(YN (L.take n)).length<=1000 * n
 |0,_=>by simp[YN]
 |n+1,hn=>by
  have:=zEm h n (by omega);have h2:=h _ (zH (l:=L) (i:=n) (by omega));rw[zBA (by omega),QX,GK];omega
theorem zJ6 {α:Type} [Inhabited α] {l:List α} {n:Nat} (h:n<l.length):l.take (n+1)=l.take n++[l.getD n default]:=by
 rw[GI,QB h,QE,QB h];rfl
def zTU:ACode:=(oV (oR [oZ 2]) (oV (oR [oM 3 0,o1 4 43 3,⟨some 5,none,(.part false 5 1 (.tmp 4))⟩,oM 2 5]) .ret))
theorem zHu (h:AHeap) (op:Int) (tt:Tbl h) (h0:0<=op) (h1:op<=255):WC Tryz.prog tb 18 [.int .u8 op] h fun r h'=>r= .bool (zo op).2.2.2.2.2/\Ext h h':=by
 refine en 6 [(2,none)] zTU ?_;refine WO.con (zPy h op tt h0 h1) ?_;rintro _ h2 ⟨rfl,e2⟩;refine gr ?_;exact⟨rfl,e2⟩
def zNp:ACode:=(oV (oR [oB .lss 63 62 61]) (oV (oT 63 2) (oV (o5 3 (oV (oR [oM 64 62,oI 7 65 60 62,oA 7 66 65,⟨some 9,none,(.alloc [(.int .u8 0),(.int .i64 0),(.int .i64 0),(.int .i64 0),(.int .i64 0),(.slice none 0 0),(.slice none 0 0)])⟩,oM 8 64,oS 7 9 66]) (oV (oR [oM 67 5,oM 68 5,⟨some 69,none,(.nilCheck (.tmp 68))⟩,oF 4 70 69,oL 71 70,oM 72 6,oM 73 8,⟨some 74,none,(.build [(.int .i64 0),(.int .i64 0)] [(0,1,(.tmp 72)),(1,1,(.tmp 73))])⟩,⟨some 75,none,(.buildSlice 1 2 [(.int .i64 0),(.int .i64 0)] [(0,2,(.tmp 74))])⟩,oY 2 76 71 75,⟨some 77,none,(.nilCheck (.tmp 67))⟩,oF 4 78 77,oS 1 78 76]) (oV (oR [oN 10 (-1)]) (oV (oV (oR [oF 0 79 9,oL 80 79,o1 81 18 80]) (oJ 81 (oR [oF 1 82 9,oL 83 82,oM 10 83]) .skip)) (oR [oM 84 5,oM 85 5,⟨some 86,none,(.nilCheck (.tmp 85))⟩,oF 3 87 86,oL 88 87,oM 89 10,⟨some 90,none,(.buildSlice 1 1 [(.int .i64 0)] [(0,1,(.tmp 89))])⟩,oY 1 91 88 90,⟨some 92,none,(.nilCheck (.tmp 84))⟩,oF 3 93 92,oS 1 93 91])))))) (oR [oC .add 94 62 1,oM 62 94]))))
def zNl:ACode:=(oV (oR [oB .lss 55 54 53]) (oV (oT 55 0) (oV (o5 1 (oV (oR [oM 56 54,oI 5 57 52 54,oA 5 58 57,⟨some 7,none,(.alloc [(.slice none 0 0),(.int .u8 0),(.int .i64 0),(.int .i64 0),(.int .i64 0)])⟩,oM 6 56,oS 5 7 58]) (oV (oR [oF 0 59 7,oL 60 59,oQ 61 60,oN 62 0]) (o5 2 (.loop zNp))))) (oR [oC .add 95 54 1,oM 54 95]))))
def zUX:ACode:=(oV (oR [oX 2 0,oK 4 (.pointer none)]) (oV (o6 [oA 2 11 2,oM 12 1,oF 0 13 2,oL 14 13,oF 1 15 2,oL 16 15,oM 17 1,oI 2 18 16 17,oF 0 19 18,oL 20 19,oI 4 21 14 20,oF 3 22 21,oL 23 22,(o1 24 55 23,[0]),(⟨some 25,none,(.build [(.slice none 0 0),(.slice none 0 0),(.int .i64 0),(.slice none 0 0),(.slice none 0 0),(.slice none 0 0)] [(0,2,(.tmp 11)),(2,1,(.tmp 12)),(3,1,(.tmp 24))])⟩,[]),oX 26 25,oM 5 26]) (oV (oR [oM 28 5,oA 2 29 2,oM 30 1,o2 31 56 29 30,oM 27 31,oE 32 27 0,oE 33 27 1,⟨some 34,none,(.nilCheck (.tmp 28))⟩,oF 5 35 34,oS 1 35 32]) (oV (oR [oM 36 5,⟨some 37,none,(.build [(.int .i64 0),(.int .i64 0)] [(0,1,(.const (.int .i64 (-1)))),(1,1,(.const (.int .i64 (-1))))])⟩,⟨some 38,none,(.buildSlice 1 2 [(.int .i64 0),(.int .i64 0)] [(0,2,(.tmp 37))])⟩,oM 39 5,⟨some 40,none,(.nilCheck (.tmp 39))⟩,oF 3 41 40,oL 42 41,oQ 43 42,o2 44 57 38 43,⟨some 45,none,(.nilCheck (.tmp 36))⟩,oF 4 46 45,oS 1 46 44]) (oV (oV (oR [oF 1 47 2,oL 48 47,oM 49 1,oI 2 50 48 49,oF 1 51 50,oL 52 51,oQ 53 52,oN 54 0]) (o5 0 (.loop zNl))) (oV (oR [oM 96 5,oM 4 96]) .ret))))))
theorem zRE (h:AHeap) (vt vf:Value) (T:List LType) (F:List LFn) (f:Int) (E:Env h vt vf T F) (ha:Yx T F f 0=0) (hf:0<=f/\f<(F.length:Int)) (hsig:0<=(F.getD f.toNat default).sig/\(F.getD f.toNat default).sig<(T.length:Int)) (hL:(F.getD f.toNat default).blocks.length<=16):
  WC Tryz.prog tb 27 [.agg #[vt,vf],I f] h fun r h'=>(∃ g xs,r= .pointer (some ⟨g,0,none⟩)/\Rul (nxF T F f) xs/\
   FnM h' g vt vf T F f (zHV (T.getD (F.getD f.toNat default).sig.toNat default).parts (F.getD f.toNat default).blocks) (zDu (T.getD (F.getD f.toNat default).sig.toNat default).parts.length (F.getD f.toNat default).blocks) (Z7 xs (F.getD f.toNat default).blocks.length))/\Ext h h':=by
 have hI:=E.sm.ins _ (zH (l:=F) (i:=f.toNat) (by omega));have hP:=E.sm.parts _ (zH (l:=T) (i:=(F.getD f.toNat default).sig.toNat) (by omega));have hI:=Hid.mk hI;refine en 97 [(4,none)] zUX ?_;refine WO.bx ?_;intro p0 h1 e1 o1;have E1:=E.ext e1;refine go ?_;refine WX.regionU2 1 rfl rfl ?_;have ea:=zq 1 h1;have o1X:=OwnC.ia (o1.ext ea);obtain⟨cs,⟨vb,rfl,sb,hlb⟩,pc,hsl⟩:=yB (i:=f.toNat) E1.sf (by omega);have pc1:=(pc _ ea).2;obtain⟨cst,⟨vat,rfl,sat,hlat⟩,pct,hslt⟩:=yB (i:=(F.getD f.toNat default).sig.toNat) E1.st (by omega);have pct1:=(pct _ ea).2;have satX:=SlI.ia (sat.ext ea);have stX0:=SlT.ext E1.st ea;have stX:SlT (inC (zC 1 h1)) vt T:=stX0;have sfX0:=SlF.ext E1.sf ea;have sfX:SlF (inC (zC 1 h1)) vf F:=sfX0;refine goU ?_;refine WO.con (zIC _ vat _ satX (by omega)) ?_;rintro vk X2 ⟨ok,e2⟩;obtain⟨k1,k2,k3,rfl⟩:=SlC.shape ok.sl;have hlt:h1.n<X2.n:=e2.n;refine nE e2 ?_;refine goU ?_;refine WU2.mkBx E1.hm ?_;intro X3 n3 g3;have e3:=zDr ((zq 1 h1).trans (ZD (h:=h1) e2)) n3 g3 (QF _) hlt;have o5:OwnC h1 (zc h1 (inC X3)) (.pointer (some ⟨h1.n,0,none⟩)) [vt,vf,I f,(.slice k1 k2 k3),.slice none 0 0,.slice none 0 0]:=⟨h1.n,QF _,by show h1.n<X3.n;omega,rfl,by show X3.get _=_;rw[g3,QI rfl];rfl⟩;have ok5:OwnN h1 (zc h1 (inC X3)) (.slice k1 k2 k3) (T.getD (F.getD f.toNat default).sig.toNat default).parts:=by
  rcases ok with ok|⟨g,g1,g2,g4,g5⟩
  ·exact .inl ok
  ·have g1:h1.n+1<=g:=g1;exact .inr ⟨g,by omega,by show g<X3.n;omega,g4,by show X3.get g=_;rw[g3,QD (by omega)];exact g5⟩
 have f5:OffV (.pointer (some ⟨h1.n,0,none⟩)) (.slice k1 k2 k3):=fun b hb hk=>by
  cases hb;have:=OwnN.since' ok _ hk;have:h1.n+1<=h1.n:=this;omega
 refine goU ?_;have e4:Ext h1 (zc h1 (inC X3)):=e3;generalize zc h1 (inC X3)=h4 at *;clear g3 n3 e3 e2 ok hlt X2;have E4:=E1.ext e4;have e04:=e1.trans e4;have o14:=o1.ext e4;refine go ?_;refine WO.con (zSd h4 vt vf T F f E4) ?_;rintro _ h5 ⟨⟨vr,rs,rfl,orr,hlr,hrs,_⟩,e5⟩;obtain⟨r1,r2,r3,rfl⟩:=SlC.shape orr.sl;obtain⟨xs,hRul,rfl⟩:=hrs ha;have o55:=o5.ext e5;have e45:=e4.trans e5;rw[ha];refine go ?_;refine WO.stC (cs:=[.slice r1 r2 r3]) (j:=5) (hl:=by simp) o55 e45 ?_;intro h6 e6 o6 u6;replace o6:OwnC h1 h6 (.pointer (some ⟨h1.n,0,none⟩)) [vt,vf,I f,.slice k1 k2 k3,.slice none 0 0,.slice r1 r2 r3]:=o6;have fr:=OffV.fresh (OwnN.since' orr) o5.within;have ok6:=(ok5.ext e5).upB u6.upB f5;have or6:=orr.upB u6.upB fr.symm;have fkr:=(OffV.fresh (OwnN.since' orr) ok5.within).symm;refine go ?_;refine WO.bl1 (cs:=[I (-1),I (-1)]) ?_;intro h7 e7 n7 s7 _;have ok7:=ok6.ext e7;have o7:=o6.ext e7;refine go ?_;refine WO.con (zKF h7 _ (-1) (-1) (T.getD (F.getD f.toNat default).sig.toNat default).parts.length s7 (yA (e6.trans e7) E1.hm) (by omega)) ?_;rintro _ h8 ⟨⟨gp,gp1,gp2,rfl,gp3⟩,e8⟩;have e68:=e7.trans e8;have e18:=e6.trans e68;have o8:=o6.ext e68;have n17:h1.n<=h7.n:=(e6.trans e7).n;have op8:=zSR (b:=h1.n) (by omega) gp2 gp3;have ok8:=ok6.ext e68;have or8:=or6.ext e68;have hsp:zEd h7 (.slice (some ⟨gp,0,none⟩) (T.getD (F.getD f.toNat default).sig.toNat default).parts.length 2):=fun b hb=>by cases hb;exact gp1
 have fp1:=OffV.fresh hsp (o6.ext e7).within;have fp2:=OffV.fresh hsp (ok6.ext e7).within;have fp3:=OffV.fresh hsp (or6.ext e7).within;refine go ?_;refine WO.stC (cs:=[.slice (some ⟨gp,0,none⟩) (T.getD (F.getD f.toNat default).sig.toNat default).parts.length 2]) (j:=4) (hl:=by simp) o8 e18 ?_;intro h9 e9 o9 u9;have n4:h1.n<=h4.n:=e4.n;have FO9:FO h1 h9 (.pointer (some ⟨h1.n,0,none⟩)) vt vf f (T.getD (F.getD f.toNat default).sig.toNat default).parts (List.replicate (T.getD (F.getD f.toNat default).sig.toNat default).parts.length (-1,-1)) (Z7 xs (F.getD f.toNat default).blocks.length) (.slice k1 k2 k3) (.slice (some ⟨gp,0,none⟩) (T.getD (F.getD f.toNat default).sig.toNat default).parts.length 2) (.slice r1 r2 r3):=
  ⟨o9,ok8.upB u9.upB f5,op8.upB zCc u9.upB fp1.symm,(or8.since e4).upB u9.upB fr.symm,fp2.symm,fkr,fp3,f5,fp1.symm,fr.symm,⟨⟨_,_,_,rfl⟩,⟨_,_,_,rfl⟩,⟨_,_,_,rfl⟩⟩⟩
 have o19:=o1.ext e9;have pc9:=(pc _ e9).1;have sb9:=SlB.ext sb e9;have sf9:=SlF.ext E1.sf e9;clear o9 u9 o8 op8 ok8 or8 fp1 fp2 fp3 hsp gp3 gp1 gp2 o7 ok7 s7 o6 ok6 or6 u6 o55 orr ok5 o5 E4 o14 fr fkr f5 pc1 pct1 satX stX sfX stX0 sfX0 o1X ea pct hslt sat;have hI2:=hI.out;generalize hLd:(F.getD f.toNat default).blocks=L at *;generalize hpd:(T.getD (F.getD f.toNat default).sig.toNat default).parts=par at *;refine go ?_;refine WX.loopA [55,56,57,58,7,6,59,60,61,62,63,64,65,66,9,8,67,68,69,70,71,72,73,74,75,76,77,78,10,79,80,81,82,83,10,84,85,86,87,88,89,90,91,92,93,94,62,95,54] (by kernel_rfl) (fun i=>L.length - i) (fun i t h'=>Ext h1 h'/\zB t 54=I i/\i<=L.length/\∃ vk vp,FO h1 h' (.pointer (some ⟨h1.n,0,none⟩)) vt vf f (par++YN (L.take i)) (List.replicate par.length (-1,-1)++yX L i) (Z7 xs L.length) vk vp (.slice r1 r2 r3)) 0 ?_ ?_
 ·exact⟨e9,sl_,QV _,_,_,by simpa [YN,yX]using FO9⟩
 rintro i t h10 hsame ⟨e10,s54,hi,vk,vp,G10⟩;refine go ?_;refine WX.br (fun hb=> ?_) (fun hb=> ?_)<;>simp only[DB]at hb;rotate_left 1
 ·have hii:i=L.length:=by omega
  subst hii;rw[GN]at G10;refine gr ?_;exact⟨⟨h1.n,xs,rfl,hRul,⟨h1,_,_,_,G10.own,G10.k.sl,G10.q.sl,G10.r.sl⟩,SlT.ext E1.st e10,SlF.ext E1.sf e10,yA e10 E1.hm⟩,e1.trans e10⟩
 have hi':i<L.length:=by omega
 obtain⟨csb,⟨vi,rfl,si,hli⟩,pcb,hsb⟩:=yB (i:=i) sb (by omega);have pcb10:=(pcb _ e10).1;have sb10:=SlB.ext sb e10;have hil:=hI2 _ (zH hi');have hkl:=zEm hI2 i (by omega);have hpl:=zDM hI2 i (by omega);generalize hBd:L.getD i default=B at *;obtain⟨ia,iN,ik,rfl⟩:=zM si;refine go ?_;refine WO.al ?_;intro p7 h11 e11 o7;refine go ?_;refine WO.stC0 (cs:=[.slice ia iN ik,.int .u8 B.fin.kind,I B.fin.a,I B.fin.to,I B.fin.els]) o7 e11 ?_;intro h12 e12 o7 u7;have e1_12:=e10.trans e12;have si12:=SlN.ext si e1_12;refine go ?_;refine WX.loopA [63,64,65,66,9,8,67,68,69,70,71,72,73,74,75,76,77,78,10,79,80,81,82,83,10,84,85,86,87,88,89,90,91,92,93,94,62] (by kernel_rfl) (fun j=>B.ins.length - j) (fun j t h'=>Ext h1 h'/\zB t 62=I j/\j<=B.ins.length/\∃ vk vp,FO h1 h' (.pointer (some ⟨h1.n,0,none⟩)) vt vf f (par++YN (L.take i)++(B.ins.take j).map zBf) (List.replicate par.length (-1,-1)++yX L i++(List.range j).map fun (a:Nat)=>((i:Int),(a:Int))) (Z7 xs L.length) vk vp (.slice r1 r2 r3)) 0 ?_ ?_
 ·exact⟨e1_12,sl_,QV _,_,_,by simpa using G10.ext e12⟩
 rintro j t h13 hsame2 ⟨e13,s62,hj,vk,vp,G13⟩;refine go ?_;refine WX.br (fun hb=> ?_) (fun hb=> ?_)<;>simp only[DB]at hb;rotate_left 1
 ·have hjj:j=B.ins.length:=by omega
  subst hjj;refine go ?_;refine zA (i+1) (by omega) ⟨e13,sln,by omega,vk,vp,?_⟩;rw[zBA hi',hBd,show yX L (i+1)=yX L i++(List.range B.ins.length).map fun (a:Nat)=>((i:Int),(a:Int)) by rw[<-hBd];rfl];rw[GN,GC,GC]at G13;exact G13
 have hj':j<B.ins.length:=by omega
 obtain⟨csx,hR,pcx,hsx⟩:=yB (i:=j) si (by omega);have pcx13:=(pcx _ e13).1;have si13:=SlN.ext si e13;have hsucc:(B.ins.take (j+1)).map zBf=(B.ins.take j).map zBf++[zBf (B.ins.getD j default)]:=by rw[zJ6 hj',Gg];rfl
 generalize hxd:B.ins.getD j default=x at *;obtain⟨xa,xf,rfl,sxa,sxf,hla,hlf,ho⟩:=id hR;obtain⟨xa1,xa2,xa3,rfl⟩:=SlC.shape sxa;obtain⟨xf1,xf2,xf3,rfl⟩:=SlC.shape sxf;refine go ?_;refine WO.al ?_;intro p9 h14 e14 o9;refine go ?_;refine WO.stC0 (cs:=[.int .u8 x.op,I x.ty,I x.a,I x.b,I x.n,.slice xa1 xa2 xa3,.slice xf1 xf2 xf3]) o9 e14 ?_;intro h15 e15 o9 u9;have G15:=G13.ext e15;have e1_15:=e13.trans e15;have own15:=G15.own;refine go ?_;refine WO.apRF (a:=((i:Int),(j:Int))) (Dn:=fun _=>False) G15.q e1_15 (QF _) e1_15.n (by decide) (by simp only[QX,Gd,GK,G5];omega) (fun hx _ _=>rfl) (fun _ h=>h.elim) (fun _ _ _ _ h=>h) ?_;intro v8 h16 lit e16 op16 n16 k16 fr16;have hs16:zEd h15 v8:=fun b hb=>by obtain⟨n,k,g,rfl,hg⟩:=fr16;cases hb;exact hg
 have sh16:∃ a n k,v8= .slice a n k:=let ⟨n,k,g,e,_⟩:=fr16;⟨_,n,k,e⟩;have uB16:=zQD n16 k16;have own16:=own15.upB uB16 G15.op.symm;have o9_16:=o9.upB uB16 (OffV.fresh o9.since' G13.q.within).symm;obtain⟨w1,w2,w3,rfl⟩:=sh16;refine go ?_;refine WO.stC (cs:=[.slice w1 w2 w3]) (j:=4) (hl:=by simp) own16 e16 ?_;intro h17 e17 own17 u17;replace own17:OwnC h1 h17 (.pointer (some ⟨h1.n,0,none⟩)) [vt,vf,I f,vk,.slice w1 w2 w3,.slice r1 r2 r3]:=own17;have G17:=G15.putP uB16 hs16 ⟨_,_,_,rfl⟩ op16 own17 u17;have o9_17:=o9_16.upB u17.upB (OffV.fresh o9.since' G13.own.within).symm;refine go ?_;refine WO.con (zHu h17 x.op (E1.ext e17).tt ho.1 ho.2) ?_;rintro _ h18 ⟨rfl,e18⟩;have G18:=G17.ext e18;have own18:=G18.own;have o9_18:=o9_17.ext e18;have e1_18:=e17.trans e18;have hk:zBf x=if (zo x.op).2.2.2.2.2 then x.ty else -1:=rfl;have ok18:=G18.k;obtain⟨⟨q1,q2,q3,rfl⟩,_⟩:=G18.s;cases hb2:(zo x.op).2.2.2.2.2 with
 |true=>
  have hk1:zBf x=x.ty:=by rw[hk,hb2];rfl
  refine go ?_;refine WO.bl [x.ty] ?_;intro v19 h19 e19 ol19;refine go ?_;refine WO.apF (ok18.ext e19) ol19.sl (e1_18.trans e19) (by simp) (by simp only[QX,GK,Q1,Qa];omega) ?_;intro v20 h20 e20 oi20 u20;have own20:=(own18.ext e19).upB u20.upB G18.ok.symm;obtain⟨y1,y2,y3,rfl⟩:=SlC.shape oi20.sl;refine go ?_;refine WO.stC (cs:=[.slice y1 y2 y3]) (j:=3) (hl:=by simp) own20 e20 ?_;intro h21 e21 own21 u21;replace own21:OwnC h1 h21 (.pointer (some ⟨h1.n,0,none⟩)) [vt,vf,I f,.slice y1 y2 y3,.slice w1 w2 w3,.slice r1 r2 r3]:=own21;have G21:=(G18.ext e19).putK u20 (e1_18.trans e19).n oi20 own21 u21;refine go ?_;refine zA (j+1) (by omega) ⟨e21,sln,by omega,.slice y1 y2 y3,.slice w1 w2 w3,?_⟩;rw[hsucc,hk1,List.range_succ,Gg,<-GC,<-GC];exact G21
 |false=>
  have hk1:zBf x= -1:=by rw[hk,hb2];rfl
  refine go ?_;refine WO.bl [-1] ?_;intro v19 h19 e19 ol19;refine go ?_;refine WO.apF (ok18.ext e19) ol19.sl (e1_18.trans e19) (by simp) (by simp only[QX,GK,Q1,Qa];omega) ?_;intro v20 h20 e20 oi20 u20;have own20:=(own18.ext e19).upB u20.upB G18.ok.symm;obtain⟨y1,y2,y3,rfl⟩:=SlC.shape oi20.sl;refine go ?_;refine WO.stC (cs:=[.slice y1 y2 y3]) (j:=3) (hl:=by simp) own20 e20 ?_;intro h21 e21 own21 u21;replace own21:OwnC h1 h21 (.pointer (some ⟨h1.n,0,none⟩)) [vt,vf,I f,.slice y1 y2 y3,.slice w1 w2 w3,.slice r1 r2 r3]:=own21;have G21:=(G18.ext e19).putK u20 (e1_18.trans e19).n oi20 own21 u21;refine go ?_;refine zA (j+1) (by omega) ⟨e21,sln,by omega,.slice y1 y2 y3,.slice w1 w2 w3,?_⟩;rw[hsucc,hk1,List.range_succ,Gg,<-GC,<-GC];exact G21
theorem zEk {O:List Int} {n:Nat} (h:O.Nodup) (hr:∀ c∈O,0<=c/\c<(n:Int)):O.length<=n:=by
 have hs:O ⊆ (List.range n).map fun (i:Nat)=>(i:Int):=fun c hc=>by
  have:=hr c hc;exact Q0.2 ⟨c.toNat,GH.2 (by omega),by omega⟩
 have:=h.length_le_of_subset hs;simpa using this
theorem zMG (n:Nat):((List.range n).map fun (i:Nat)=>(i:Int)).Nodup:=by
 exact List.Pairwise.map (R:=(·≠·)) (S:=(·≠·)) (fun (i:Nat)=>(i:Int)) (fun a b hne (e:(a:Int)=b)=>hne (by omega)) List.nodup_range
theorem zLc {T:List LType} {F:List LFn} {f:Int} (h:(zD T F f 0).2=0):(yM T F f).1.length=(zD T F f 0).1.length↔∀ c,0<=c->c<((zD T F f 0).1.length:Int)->Way (nxL (zD T F f 0).1) 0 c:=by
 obtain⟨h1,_,_,h4,_,h6,_⟩:=zBV h;have hnd:=zDe h;have hle:=zEk hnd h6;rw[<-h1];constructor
 ·intro he c c0 c1;refine(Yh h).1 (JE fun hc=> ?_);have hco:c∉(zU T F f).1:=fun hm=>hc (by
   unfold zU at hm;unfold yM;rw[QD (fun e=>e h)]at hm |-;exact zC5.2 (List.mem_reverse.1 hm))
  have:=zEk (O:=c::(zU T F f).1) (n:=(zD T F f 0).1.length) (G7.2 ⟨hco,hnd⟩) (fun d hd=>by
   rcases Qj.1 hd with rfl|hd
   ·exact⟨c0,c1⟩
   ·exact h6 d hd)
  rw[Q2]at this;omega
 ·intro hw;have hs:((List.range (zD T F f 0).1.length).map fun (i:Nat)=>(i:Int)) ⊆ (zU T F f).1:=fun c hc=>by
   obtain⟨i,hi,rfl⟩:=Q0.1 hc;exact h4 _ ((Yh h).2 (hw _ (by omega) (by have:=GH.1 hi;omega)))
  have:=(zMG _).length_le_of_subset hs;simp at this;omega
def zQ (F:List LFn) (f:Int):List LBlk:=(F.getD f.toNat default).blocks
def ZH (T:List LType) (F:List LFn) (f:Int):LType:=T.getD (F.getD f.toNat default).sig.toNat default
def ksF (T:List LType) (F:List LFn) (f:Int):List Int:=zHV (ZH T F f).parts (zQ F f)
def psF (T:List LType) (F:List LFn) (f:Int):List (Int×Int):=zDu (ZH T F f).parts.length (zQ F f)
def zSt (T:List LType) (F:List LFn) (f b:Int):Prop:=
 (∀ i,i<((zQ F f).getD b.toNat default).ins.length->Zw T F (ksF T F f) (psF T F f) (nxL (zQ F f)) (zQ F f) (zK (zQ F f) b (zQ F f).length) b i)/\Z8 T F f (ksF T F f) (psF T F f) (nxL (zQ F f)) (zQ F f) b
def zBr (T:List LType) (F:List LFn) (f:Int):Prop:=
 (∀ c,0<=c->c<((zQ F f).length:Int)->Way (nxL (zQ F f)) 0 c)/\(f=0->(ZH T F f).parts=[]/\isT T 1 (ZH T F f).elem=true)/\∀ b,0<=b->b<((zQ F f).length:Int)->zSt T F f b
def WfP (T:List LType) (F:List LFn):Prop:=∀ f,0<=f->f<(F.length:Int)->zBr T F f
theorem zCx (L:List LBlk):∀ n,n<=L.length->(YN (L.take n)).length=(yX L n).length
 |0,_=>by simp[YN,yX]
 |n+1,hn=>by
  rw[zBA (by omega),QX,zCx L n (by omega)];show _=(yX L n++_).length;rw[QX,GK,GK,G5]
theorem zEB (L:List LBlk):((YN L).length:Int)=zt L:=by
 unfold YN zt;induction L with
 |nil=>rfl
 |cons b L ih=>rw[List.flatMap_cons,QX,Qh,List.sum_cons,GK,<-ih];omega
theorem zF1 {L:List LBlk}:∀ n,∀ p∈yX L n,(0<=p.1/\p.1<(n:Int))/\0<=p.2/\p.2<((L.getD p.1.toNat default).ins.length:Int)
 |0,p,hp=>by cases hp
 |n+1,p,hp=>by
  have hp:p∈yX L n++(List.range (L.getD n default).ins.length).map fun (i:Nat)=>((n:Int),(i:Int)):=hp;rcases Qf.1 hp with hp|hp
  ·have:=zF1 n p hp;omega
  ·obtain⟨i,hi,rfl⟩:=Q0.1 hp;have:=GH.1 hi;exact⟨⟨by show (0:Int)<=(n:Int);omega,by show (n:Int)<_;omega⟩,by show (0:Int)<=(i:Int);omega,by show (i:Int)<((L.getD (n:Int).toNat default).ins.length:Int);rw[GQ];omega⟩
structure FnIn (T:List LType) (F:List LFn) (f:Int):Prop where
 hf:0<=f/\f<(F.length:Int)
 hc:ZR T=0
 bl:∀ b,0<=b->b<((zQ F f).length:Int)->zD T F f b=(zQ F f,0)
 n1:1<=(zQ F f).length
 n16:(zQ F f).length<=16
 many:zt (zQ F f)<=128
 sig:0<=(F.getD f.toNat default).sig/\(F.getD f.toNat default).sig<(T.length:Int)
 sigF:∀ g∈F,InT T g.sig
 ks:∀ t∈ksF T F f,InT T t
 par:∀ t∈(ZH T F f).parts,PlT T t
 el:PlT T (ZH T F f).elem
 par4:(ZH T F f).parts.length<=4
 len:(ksF T F f).length=(psF T F f).length
 reg:((ksF T F f).length:Int)=yL ((ZH T F f).parts.length:Int) (zQ F f)
 U:∀ B∈zQ F f,BlkU B (ksF T F f).length (zQ F f).length
 V:∀ B∈zQ F f,∀ x∈B.ins,InsT T F x
 pl:∀ i,i<(psF T F f).length->((psF T F f).getD i default).1= -1\/0<=((psF T F f).getD i default).1
 nx:∀ c,0<=c/\c<((zQ F f).length:Int)->∀ d∈nxL (zQ F f) c,0<=d/\d<((zQ F f).length:Int)
theorem zTj {T:List LType} {F:List LFn} {f:Int} (h:Zq T F=0) (hf:0<=f/\f<(F.length:Int)):FnIn T F f:=by
 obtain⟨hc,hF1,hF8,hfn⟩:=zAP h;have hm:=zH (l:=F) (i:=f.toNat) (by omega);have hfn1:=hfn _ hm;have hlen:=zOE hfn1;have hsg:=zHE hfn1;have hask:yl T F f=(((ZH T F f).parts.length:Int),0):=by
  unfold yl;rw[QD (fun e=>e h),QI (by unfold zW;simp;omega)];rfl
 have hreg:(Yb T F f).2=0:=by unfold Yb;rw[hask];rfl
 have hbl:∀ b,0<=b->b<((zQ F f).length:Int)->zD T F f b=(zQ F f,0):=fun b b0 b1=>by
  unfold zD;rw[QD (fun e=>e hreg),QD (by unfold zQ at b1;omega)];rfl
 have hmay:=zGz hc hsg.1 hsg.2;have hk3:(ZH T F f).kind=3:=by
  unfold fnL at hfn1;split at hfn1
  ·cases hfn1
  ·rename_i hb;unfold zB8 at hb;simp only[GA,Gk,GF,not_or,Bool.not_eq_false,JH,Decidable.not_not]at hb;exact hb.1.1.2
 have hfnT:zHv T (ZH T F f):=by
  have hk3':(T.getD (F.getD f.toNat default).sig.toNat default).kind=3:=hk3;rcases hmay with ⟨k,_⟩|⟨k,_⟩|⟨_,k⟩|⟨k,_⟩|⟨k,_⟩
  ·omega
  ·omega
  ·exact k
  ·omega
  ·omega
 have hV:∀ B∈zQ F f,∀ x∈B.ins,InsT T F x:=fun B hB x hx=>by
  refine zTw (f:=F.getD f.toNat default) (by omega) ?_;have h0:fnL T F.length (F.getD f.toNat default)=true:=hfn1;unfold fnL at h0;split at h0
  ·cases h0
  ·have h0:((F.getD f.toNat default).blocks.any fun b=>zCo b (szL T F.length (F.getD f.toNat default)))=false:=by simpa using h0
   have hb:=G8.1 h0 B hB;have hb:zCo B (szL T F.length (F.getD f.toNat default))=false:=by simpa using hb
   unfold zCo at hb;rw[Bool.or_eq_false_iff]at hb;have:=G8.1 hb.1 x hx;simpa using this
 have hkm:((ksF T F f).length:Int)=yL ((ZH T F f).parts.length:Int) (zQ F f):=by
  unfold ksF zHV yL;rw[QX,<-zEB];omega
 have hkl:(ksF T F f).length=(psF T F f).length:=by
  unfold ksF psF zHV zDu;rw[QX,QX,Gd,<-zCx _ _ (QF _),GN]
 refine⟨hf,hc,hbl,hlen.1,hlen.2.1,hlen.2.2,hsg,fun g hg=> .inr (zHE (hfn g hg)),?_,hfnT.1,hfnT.2.1,hfnT.2.2.1,hkl,hkm,?_,hV,?_,?_⟩
 ·intro t ht;rcases Qf.1 ht with ht|ht
  ·have:=hfnT.1 t ht;exact .inr ⟨this.1,this.2.1⟩
  ·obtain⟨B,hB,ht⟩:=List.mem_flatMap.1 ht;obtain⟨x,hx,rfl⟩:=Q0.1 ht;unfold zBf;split
   ·exact(hV B hB x hx).ty
   ·exact .inl rfl
 ·intro B hB;rw[hkm];exact zUi hfn1 B hB
 ·intro i hi;have hp:=zH (l:=psF T F f) hi;rcases Qf.1 hp with hp|hp
  ·rw[(List.mem_replicate.1 hp).2];exact .inl rfl
  ·exact .inr (zF1 _ _ hp).1.1
 ·intro c hcc d hd;have hU:=zUi hfn1 _ (zH (l:=zQ F f) (i:=c.toNat) (by omega));exact hU.next d hd
end
end Go.Proofs.YteekipjpghikkaaGreatDoor
