/- Walks of functions, plain laws; proves no statement. -/
import Derived.Test.YtmilpkdhbdgjfaaGreatDoorJg
set_option linter.all false
set_option maxHeartbeats 2000000
namespace Go.Proofs.YtmilpkdhbdgjfaaGreatDoor
open Go.Am
theorem VR{P:Program}{tab:Wv}{l:List WG}{t:WI Value}{ds:List Deferred}{rd:Option Nat}{h:WF}{Q:WR->WF->Prop}{d:Nat}{ty:TypeId}{x:Operand}{v:Value}(k:WO P tab l ⟨t.set d (.iface ty v),ds,rd⟩ h Q)(hx:WQ t x v:=by exact zP):WO P tab (⟨some d,none,.mkIface ty x⟩::l) ⟨t,ds,rd⟩ h Q:=
 WO.op _ _ rfl (by unfold WQ at *;simp only[WN,hx]) k
theorem zQC{P:Program}{tab:Wv}{m N0 g:Nat}{o:WG}{un:List Nat}{l:List (WG×List Nat)}{fr:WR}{h:WF}{Q:WR->WF->Prop}{t:WI Value}(hr:zi t o=none)(hx:We P tab m N0 l g true fr (inC h) Q):uK2 P tab m N0 un t o (inC h) l g true Q fr (inC h):=
 zIB (fun g hg=>by rw[hr]at hg;cases hg) hx
structure InsT(T:List WJ)(F:List Wj)(x:Wo):Prop where
 ty:BU T x.ty
 n14:x.op=14->0<=x.n
 n2:x.op=3\/x.op=18->0<=x.n/\x.n<(F.length:Int)
 l1:x.op=14\/x.op=15\/x.op=16\/x.op=17\/x.op=19->1<=(ZG x).length
 l2:x.op=15\/x.op=17\/x.op=10->2<=(ZG x).length
theorem zFb{x:Wo}{N n:Int}(u:InsU x N n):(ZG x).length<=30:=by
 have:=u.args;unfold ZG;simp only[QT];have h1:(if(zt x.op).1 then[x.a]else[]).length<=1:=by split<;>simp
 have h2:(if(zt x.op).2.1 then[x.b]else[]).length<=1:=by split<;>simp
 have h3:(if(zt x.op).2.2.2.1 then x.args else[]).length<=20:=by
  split
  ·exact this
  ·exact QU _
 omega
theorem zPo{T:List WJ}{F:List Wj}{f:Wj}{x:Wo}(hT:0<T.length)(h:zCY x (szL T F.length f)=true):InsT T F x:=by
 have ho:=zL9 h;have m:=(zEN (by omega)).1 h;have ha:=zDY (op:=x.op) (by omega);have hty:=m.ans;have hn:=m.num;refine⟨?_,fun e=> ?_,fun e=> ?_,fun e=> ?_,fun e=> ?_⟩
 ·split at hty
  ·exact .inr hty
  ·exact .inr ⟨by omega,by omega⟩
 ·unfold zLG at hn;rw[QC (by omega),QC (by omega),QG e]at hn;exact hn.1
 ·unfold zLG at hn;rw[QC (by omega),QG e]at hn;exact hn
 ·have h1:(zt x.op).1=true:=ha.2.1.2 (by unfold zHV zJD;omega);unfold ZG;rw[h1];simp
 ·have h1:(zt x.op).1=true:=ha.2.1.2 (by unfold zHV zJD;omega);have h2:(zt x.op).2.1=true:=ha.1.2 (by unfold zJD;omega);unfold ZG;rw[h1,h2];simp
def YQ(ks rs:List Int):List Int:=rs.map fun r=>ks.getD r.toNat 0
def zMc(T:List WJ)(F:List Wj)(ks:List Int)(ps:List (Int×Int))(nx:Int->List Int)(L:List Wl)(P:List Int)(b:Int)(i:Nat)(pre:Prop)(x:Wo):Prop:=
 ¬(-1:Int)∈YQ ks (ZG x)/\zGh T F x (YQ ks (ZG x))=true/\(x.op=22->pre/\x.frm=P/\zQs nx ps L x.frm x.args)/\(x.op≠22->∀ r∈ZG x,zEp nx (ps.getD r.toNat default) b i)
def YW(T:List WJ)(F:List Wj)(ks:List Int)(ps:List (Int×Int))(nx:Int->List Int)(L:List Wl)(P:List Int)(b:Int)(i:Nat):Prop:=
 zMc T F ks ps nx L P b i (∀ j,j<i->((L.getD b.toNat default).ins.getD j default).op=22) ((L.getD b.toNat default).ins.getD i default)
def zI3(T:List WJ)(F:List Wj)(f:Int)(ks:List Int)(ps:List (Int×Int))(nx:Int->List Int)(b:Int)(B:Wl):Prop:=
 (¬(-1:Int)∈YQ ks (yp B.fin)/\∀ r∈yp B.fin,zEp nx (ps.getD r.toNat default) b B.ins.length)/\(B.fin.kind=2->isL T 1 (YQ ks (yp B.fin))=true)/\(B.fin.kind=1\/B.fin.kind=2->B.fin.to≠0/\(B.fin.kind=1\/B.fin.els≠0))/\(B.fin.kind=3->(YQ ks (yp B.fin)).getD 0 0=(T.getD (F.getD f.toNat default).sig.toNat default).elem)
def Yl(T:List WJ)(F:List Wj)(f:Int)(ks:List Int)(ps:List (Int×Int))(nx:Int->List Int)(L:List Wl)(b:Int):Prop:=zI3 T F f ks ps nx b (L.getD b.toNat default)
def tyF:Nat:=165
def B7(f b:Int):Value:= .iface tyF (.agg #[I f,I b,I 120])
section
variable {vt vf:Value}{T:List WJ}{F:List Wj}{f:Int}{ks:List Int}{ps:List (Int×Int)}{xs:List Int}{g:Nat}{nx:Int->List Int}{L:List Wl}
theorem Uz{X:WF}{v:Value}{l:List Wo}(o:BD X v l):BD (inC X) v l:=o
theorem zM4{h:WF}{vi:Value}{B:Wl}{i:Nat}(s:BD h vi B.ins)(hi:i<B.ins.length):∃ cs,BT h cs (B.ins.getD i default)/\(∀ h',WK h h'->Wh h' vi (i*7) cs/\Wh (inC h') vi (i*7) cs)/\zJB vi:=zg s hi
def zMe:Nat->WU->WU
 |n+1,.seq _ b=>zMe n b
 |_,c=>c
noncomputable def zKn:WU:=(oV (oR [oB .lss 54 53 52]) (oV (oT 54 0) (oV (o5 1 (oV (oR [oM 55 53,oI 7 56 51 53,oA 7 57 56,⟨some 11,none,(.alloc [(.int .u8 0),(.int .i64 0),(.int .i64 0),(.int .i64 0),(.int .i64 0),(.slice none 0 0),(.slice none 0 0)])⟩,oM 10 55,oS 7 11 57]) (oV (oR [oA 7 58 11,o1 59 142 58,oM 12 59]) (oV (oR [oM 60 0,oM 61 12,o2 62 143 60 61,oM 13 62]) (o5 2 (oV (oR [oM 72 13,⟨some 73,none,(.call (.func 144) [(.tmp 72),(.const (.int .i64 (-1)))])⟩,oM 74 73,oH 74 (oM 75 0),oH 74 (oA 7 76 11),oH 74 (oM 77 13),oH 74 (o3 78 145 75 76 77),oH 74 (oW 79 78),oO 80 74 79,oM 71 80]) (oJ 71 (oV (oR [oA 3 81 8,⟨some 82,none,(.mkIface 165 (.tmp 81))⟩,oM 4 82]) .ret) (oV (oR [oF 0 84 11,oL 85 84,oD .eql 86 85 22,oM 83 86]) (oJ 83 (oV (oR [oM 87 9,oW 88 87,oM 89 88,oH 89 (oM 90 0),oH 89 (oA 7 91 11),oH 89 (oM 92 6),oH 89 (o3 93 146 90 91 92),oH 89 (oW 94 93),oO 95 89 94]) (oJ 95 (oV (oR [oA 3 96 8,⟨some 97,none,(.mkIface 165 (.tmp 96))⟩,oM 4 97]) .ret) .skip)) (oV (oR [oZ 9]) (oV (oR [oM 63 0,oM 64 1,oM 65 10,oM 66 12,o4 67 147 63 64 65 66,oW 68 67]) (oJ 68 (oV (oR [oA 3 69 8,⟨some 70,none,(.mkIface 165 (.tmp 69))⟩,oM 4 70]) .ret) .skip)))))))))))) (oR [oC .add 98 53 1,oM 53 98]))))
noncomputable def zJh:WU:=(oV (oR [⟨some 4,none,(.mov (.const .nilIface))⟩]) (oV (o6 [oM 16 0,(⟨some 17,none,(.nilCheck (.tmp 16))⟩,[]),oF 0 18 17,oF 1 19 18,oL 20 19,oM 21 0,(⟨some 22,none,(.nilCheck (.tmp 21))⟩,[]),oF 2 23 22,oL 24 23,oI 2 25 20 24,oF 1 26 25,oL 27 26,oM 28 1,oI 5 29 27 28,oA 5 30 29,(⟨some 5,none,(.alloc [(.slice none 0 0),(.int .u8 0),(.int .i64 0),(.int .i64 0),(.int .i64 0)])⟩,[]),oS 5 5 30]) (oV (o6 [oM 32 0,(⟨some 33,none,(.nilCheck (.tmp 32))⟩,[]),oF 0 34 33,oA 2 35 34,oM 36 0,(⟨some 37,none,(.nilCheck (.tmp 36))⟩,[]),oF 2 38 37,oL 39 38,oM 40 1,o3 41 141 35 39 40,oM 31 41,oE 42 31 0,oE 43 31 1,oM 6 42,oM 7 43]) (oV (oR [oM 44 0,⟨some 45,none,(.nilCheck (.tmp 44))⟩,oF 2 46 45,oL 47 46,oM 48 1,⟨some 49,none,(.build [(.int .i64 0),(.int .i64 0),(.int .i64 0)] [(0,1,(.tmp 47)),(1,1,(.tmp 48)),(2,1,(.const (.int .i64 120)))])⟩,⟨some 8,none,(.alloc [(.int .i64 0),(.int .i64 0),(.int .i64 0)])⟩,oS 3 8 49]) (oV (oR [oK 9 (.bool true)]) (oV (oV (oR [oF 0 50 5,oL 51 50,oQ 52 51,oN 53 0]) (o5 0 (.loop zKn))) (oV (oR [oM 99 0,oF 1 100 5,oA 4 101 100,o1 102 148 101,o2 103 143 99 102,oM 14 103]) (oV (o6 [oM 104 14,(⟨some 105,none,(.call (.func 144) [(.tmp 104),(.const (.int .i64 (-1)))])⟩,[]),oW 106 105,oM 107 106,oG 107 (oM 108 0),oG 107 (oM 109 1),oG 107 (oF 0 110 5),oG 107 (oL 111 110),oG 107 (oQ 112 111),oG 107 (oF 1 113 5),oG 107 (oA 4 114 113),(oG 107 (o1 115 148 114),[7]),oG 107 (o4 116 147 108 109 112 115),oP 117 107 116,oM 15 117]) (oV (oV (oR [oF 1 118 5,oF 0 119 118,oL 120 119]) (o5 3 (oV (o5 6 (oV (o5 5 (oV (o5 4 (oV (oV (oV (oR [oD .eql 122 120 2,oM 121 122]) (oJ 121 (.exit 4) .skip)) (oV (oV (oR [oD .eql 124 120 1,oM 123 124]) (oJ 123 (.exit 5) .skip)) (oV (oR [oD .eql 126 120 3,oM 125 126]) (oJ 125 (.exit 6) .skip)))) (.exit 3))) (oR [oM 127 15,oM 128 127,oG 128 (oM 129 0),oG 128 (oM 130 14),⟨some 131,some (128,true),(.call (.func 109) [(.tmp 129),(.const (.int .u8 1)),(.tmp 130)])⟩,oP 132 128 131,oM 15 132]))) (oV (oR [oM 133 15,oM 134 133,oG 134 (oF 1 135 5),oG 134 (oF 2 136 135),oG 134 (oL 137 136),oG 134 (oC .neq 138 137 0),oP 139 134 138,oM 140 139,oG 140 (oF 1 141 5),oG 140 (oF 0 142 141),oG 140 (oL 143 142),oG 140 (oD .eql 144 143 1),oG 140 (oM 145 144),oH 145 (oF 1 146 5),oH 145 (oF 3 147 146),oH 145 (oL 148 147),oH 145 (oC .neq 149 148 0),oG 140 (oO 150 145 149),oP 151 140 150,oM 15 151]) (.exit 3)))) (oV (o6 [oM 152 15,oM 153 152,oG 153 (oM 154 14),(⟨some 155,some (153,true),(.idx 1 (.tmp 154) (.const (.int .i64 0)))⟩,[]),oG 153 (oL 156 155),oG 153 (oM 157 0),(⟨some 158,some (153,true),(.nilCheck (.tmp 157))⟩,[]),oG 153 (oF 0 159 158),oG 153 (oF 0 160 159),oG 153 (oL 161 160),oG 153 (oM 162 0),(⟨some 163,some (153,true),(.nilCheck (.tmp 162))⟩,[]),oG 153 (oF 0 164 163),oG 153 (oF 1 165 164),oG 153 (oL 166 165),oG 153 (oM 167 0),(⟨some 168,some (153,true),(.nilCheck (.tmp 167))⟩,[]),oG 153 (oF 2 169 168),oG 153 (oL 170 169),oG 153 (oI 2 171 166 170),oG 153 (oF 0 172 171),oG 153 (oL 173 172),oG 153 (oI 4 174 161 173),oG 153 (oF 1 175 174),oG 153 (oL 176 175),oG 153 (oB .eql 177 156 176),oP 178 153 177,oM 15 178]) (.exit 3))))) (oV (oV (oR [oM 179 15,oW 180 179]) (oJ 180 (oV (oR [oA 3 181 8,⟨some 182,none,(.mkIface 165 (.tmp 181))⟩,oM 4 182]) .ret) .skip)) (oV (oR [⟨some 4,none,(.mov (.const .nilIface))⟩]) .ret)))))))))))
theorem zJI(h h8 h0 h00:WF)(t8:WI Value)(b:Int)(B:Wl)(P:List Int)(p5 p8 vl vi:Value)(q:Bool)(e08:WK h h8)(M8:BK h8 g vt vf T F f ks ps (YB xs L.length))(hG:0<=f/\f<(F.length:Int))(hBq:L.getD b.toNat default=B)
  (hsig:0<=(F.getD f.toNat default).sig/\(F.getD f.toNat default).sig<(T.length:Int)) (hinT:∀ t∈YQ ks (yp B.fin),BU T t) (hell:(YQ ks (yp B.fin)).length=(yp B.fin).length) (hue:(yp B.fin).length<=1)
  (o58:WH h0 h8 p5 [vi,.int .u8 B.fin.kind,I B.fin.a,I B.fin.to,I B.fin.els]) (o88:WH h00 h8 p8 [I f,I b,I 120]) (ol8:Wd h8 vl (YQ ks (yp B.fin)))
  (s0:zC t8 0=.pointer (some ⟨g,0,none⟩)) (s1:zC t8 1=I b) (s5:zC t8 5=p5) (s8:zC t8 8=p8) (s14:zC t8 14=vl) (s15:zC t8 15=.bool q)
  (hI:Wu (∀ j,j<B.ins.length->YW T F ks ps nx L P b j)) (hq:Wu (q=true↔¬(-1:Int)∈YQ ks (yp B.fin)/\∀ r∈yp B.fin,zEp nx (ps.getD r.toNat default) b B.ins.length)):
  WX Tryz.prog tb (zMe 8 zJh) ⟨t8,[],none⟩ h8 (zEB Tryz.prog tb [(4,none)] fun q h'=>(q=.nilIface/\(∀ i,i<B.ins.length->YW T F ks ps nx L P b i)/\Yl T F f ks ps nx L b\/q=B7 f b/\¬((∀ i,i<B.ins.length->YW T F ks ps nx L P b i)/\Yl T F f ks ps nx L b))/\WK h h'):=by
 simp only[zMe,oV,zJh];have hE:Yl T F f ks ps nx L b↔zI3 T F f ks ps nx b B:=by unfold Yl;rw[hBq]
 unfold zI3 at hE;rw[<-hq.out]at hE;have goodE:∀ {h'},Yl T F f ks ps nx L b->WK h h'->(Value.nilIface=.nilIface/\(∀ i,i<B.ins.length->YW T F ks ps nx L P b i)/\Yl T F f ks ps nx L b\/Value.nilIface=B7 f b/\¬((∀ i,i<B.ins.length->YW T F ks ps nx L P b i)/\Yl T F f ks ps nx L b))/\WK h h':=fun he e=>⟨.inl ⟨rfl,hI.out,he⟩,e⟩;have badE:∀ {h'},¬Yl T F f ks ps nx L b->WK h h'->(B7 f b=.nilIface/\(∀ i,i<B.ins.length->YW T F ks ps nx L P b i)/\Yl T F f ks ps nx L b\/B7 f b=B7 f b/\¬((∀ i,i<B.ins.length->YW T F ks ps nx L P b i)/\Yl T F f ks ps nx L b))/\WK h h':=fun hn e=>⟨.inr ⟨rfl,fun⟨_,a⟩=>hn a⟩,e⟩;have hE:=Wu.mk hE;have goodE:=Wu.mk @goodE;have badE:=Wu.mk @badE;refine go ?_;by_cases k2:B.fin.kind=2
 ·have k1:¬B.fin.kind=1:=by omega
  have k3:¬B.fin.kind=3:=by omega
  cases q with
  |false=>
   refine go ?_;refine VR ?_;refine gr ?_;exact badE.out (fun e'=>have e:=hE.out.1 e';absurd e.1 Bool.noConfusion) e08
  |true=>
   refine go ?_;refine VA (yr h8 1 vl _ M8 ol8 (by omega) hinT) ?_;rintro _ h9 ⟨rfl,e9⟩;have o59:=o58.ext e9;have o89:=o88.ext e9;cases c1:isL T 1 (YQ ks (yp B.fin))with
   |false=>
    refine go ?_;refine VR ?_;refine gr ?_;exact badE.out (fun e'=>have e:=hE.out.1 e';absurd ((e.2.1 k2).symm.trans c1) Bool.noConfusion) (e08.trans e9)
   |true=>
    by_cases ct:B.fin.to=0
    ·have ct':¬B.fin.to≠0:=fun h=>h ct;refine go ?_;refine VR ?_;refine gr ?_;exact badE.out (fun e'=>have e:=hE.out.1 e';(e.2.2.1 (.inr k2)).1 ct) (e08.trans e9)
    ·have ct':B.fin.to≠0:=ct;by_cases ce:B.fin.els=0
     ·have ce':¬B.fin.els≠0:=fun h=>h ce;refine go ?_;refine VR ?_;refine gr ?_;exact badE.out (fun e'=>have e:=hE.out.1 e';(e.2.2.1 (.inr k2)).2.elim k1 (fun h=>h ce)) (e08.trans e9)
     ·have ce':B.fin.els≠0:=ce;refine go ?_;rw[QW ce];refine gr ?_;exact goodE.out (hE.out.2 ⟨rfl,fun _=>c1,fun _=>⟨ct,.inr ce⟩,fun h=>absurd h k3⟩) (e08.trans e9)
 refine go ?_;by_cases k1:B.fin.kind=1
 ·have k3:¬B.fin.kind=3:=by omega
  cases q with
  |false=>
   refine go ?_;refine VR ?_;refine gr ?_;exact badE.out (fun e'=>have e:=hE.out.1 e';absurd e.1 Bool.noConfusion) e08
  |true=>
   by_cases ct:B.fin.to=0
   ·have ct':¬B.fin.to≠0:=fun h=>h ct;refine go ?_;refine VR ?_;refine gr ?_;exact badE.out (fun e'=>have e:=hE.out.1 e';(e.2.2.1 (.inl k1)).1 ct) e08
   ·have ct':B.fin.to≠0:=ct;refine go ?_;rw[QW ct];refine gr ?_;exact goodE.out (hE.out.2 ⟨rfl,fun h=>absurd h k2,fun _=>⟨ct,.inl k1⟩,fun h=>absurd h k3⟩) e08
 refine go ?_;by_cases k3:B.fin.kind=3
 ·cases q with
  |false=>
   refine go ?_;refine VR ?_;refine gr ?_;exact badE.out (fun e'=>have e:=hE.out.1 e';absurd e.1 Bool.noConfusion) e08
  |true=>
   have hel1:(YQ ks (yp B.fin)).length=1:=by rw[hell];unfold yp;rw[QG (.inr k3)];rfl
   obtain⟨⟨hB3,vk3,vp3,vr3,om,oma,omb,omc⟩,st3,sf3,hm3⟩:=id M8;obtain⟨csf,⟨vbf,rfl,sbf,hlbf⟩,pcf,hslf⟩:=zg (i:=f.toNat) sf3 (by omega);have pcf1:=(pcf _ (WK.refl _)).1;obtain⟨cst,⟨vat,rfl,sat,hlat⟩,pct,hslt⟩:=Zy (i:=(F.getD f.toNat default).sig.toNat) st3 (by omega);by_cases ct:(YQ ks (yp B.fin)).getD 0 0=(T.getD (F.getD f.toNat default).sig.toNat default).elem
   ·have cd:=QX ct;refine gr ?_;exact goodE.out (hE.out.2 ⟨rfl,fun h=>absurd h k2,fun h=>absurd h (by omega),fun _=>ct⟩) e08
   ·have cd:=QW ct;refine go ?_;refine VR ?_;refine gr ?_;exact badE.out (fun e'=>have e:=hE.out.1 e';absurd (e.2.2.2 k3) ct) e08
 cases q with
 |false=>
  refine go ?_;refine VR ?_;refine gr ?_;exact badE.out (fun e'=>have e:=hE.out.1 e';absurd e.1 Bool.noConfusion) e08
 |true=>
  refine gr ?_;exact goodE.out (hE.out.2 ⟨rfl,fun h=>absurd h k2,fun h=>absurd h (by omega),fun h=>absurd h k3⟩) e08
end
end Go.Proofs.YtmilpkdhbdgjfaaGreatDoor
set_option maxRecDepth 100000
namespace Go.Proofs.YtmilpkdhbdgjfaaGreatDoor
open Go.Am
section
variable {vt vf:Value}{T:List WJ}{F:List Wj}{f:Int}{ks:List Int}{ps:List (Int×Int)}{xs:List Int}{g:Nat}{nx:Int->List Int}{L:List Wl}
theorem zKo(h:WF)(b:Int)(M:BK h g vt vf T F f ks ps (YB xs L.length))(G:Gr F f nx xs ps L)(E:B4 h vt vf T F)(hc:Za T=0)(hks:∀ t∈ks,BU T t)(hF:∀ f∈F,BU T f.sig)
  (hsig:0<=(F.getD f.toNat default).sig/\(F.getD f.toNat default).sig<(T.length:Int)) (hlen:ks.length=ps.length) (U:∀ B∈L,BlkU B ks.length L.length) (V:∀ B∈L,∀ x∈B.ins,InsT T F x) (hb:0<=b/\b<(L.length:Int)) (hil:(L.getD b.toNat default).ins.length<=1000):
  WC Tryz.prog tb 110 [.pointer (some ⟨g,0,none⟩),I b] h fun q h'=>(q=.nilIface/\(∀ i,i<(L.getD b.toNat default).ins.length->YW T F ks ps nx L (YD T F f b).1 b i)/\Yl T F f ks ps nx L b\/q=B7 f b/\¬((∀ i,i<(L.getD b.toNat default).ins.length->YW T F ks ps nx L (YD T F f b).1 b i)/\Yl T F f ks ps nx L b))/\WK h h':=by
 have hb0:=hb;have hBL:L.getD b.toNat default∈L:=zL (by omega);have UB:=U _ hBL;have VB:=V _ hBL;have hG:=G.hf;have hGL:=G.hL;refine en ?_;refine VC 1 rfl rfl ?_;have ea:=zQ 1 h;obtain⟨⟨hB,vk,vp,vr,o,a,b',c⟩,st,sf,hm⟩:=M.aside 1;obtain⟨cs,⟨vb,rfl,sb,hlb⟩,pc,hsl⟩:=zg (i:=f.toNat) M.sf (by omega);have pc1:=(pc _ ea).2;rw[hGL]at sb;have sbX:=BN.ext sb ea;have sbX:BN (inC (zB 1 h)) vb L:=sbX;obtain⟨cs2,⟨vi,rfl,si,hli⟩,pc',hsl'⟩:=zg (i:=b.toNat) sb (by omega);have pc2:=(pc' _ ea).2;obtain⟨ia,iN,ik,rfl⟩:=zN si;refine Wc ?_;refine XM (X:=inC (zB 1 h)) (WK.refl _) E.hm ?_;intro h1 p5 e1 o5;have si1:BD h1 _ (L.getD b.toNat default).ins:=BD.ext si e1;have M1:=M.ext e1;have E1:=E.ext e1;clear o a b' c st sf hm sb sbX si pc1 pc2 pc pc' hsl hsl' ea;refine go ?_;refine VC 0 rfl rfl ?_;obtain⟨⟨hB',vk',vp',vr',o,a,b',c⟩,st,sf,hm⟩:=M1.aside 0;refine Wc ?_;refine VA (zM2 _ vt vf T F f b E1.tt (QE _) E1.sm E1.st E1.sf) ?_;rintro _ X2 ⟨⟨vq,rfl,oq0⟩,e2⟩;refine nE e2 ?_;have e2'':WK h1 (zq h1 X2):=(zQ 0 h1).trans (yP (h:=h1) e2);have e2':WK h1 (zq h1 (inC X2)):=e2'';refine Wc ?_;have oq:Wb h1 (zq h1 (inC X2)) vq (YD T F f b).1:=oq0;generalize(YD T F f b).2=eq at *;generalize zq h1 (inC X2)=h2 at *;generalize hP:(YD T F f b).1=P at *;clear o a b' c st sf hm oq0 e2 e2'';have M2:=M1.ext e2';have o5:=o5.ext e2';have si2:=BD.ext si1 e2';have e02:=e1.trans e2';obtain⟨⟨hB2,vk2,vp2,vr2,om,oma,omb,omc⟩,omd,ome,omf⟩:=id M2;refine go ?_;refine VJ ?_;intro p8 h3 e3 o8;refine go ?_;refine VF (cs:=[I f,I b,I 120]) o8 e3 ?_;intro h4 e4 o8 u8;have e04:=e02.trans e4;have M4:=M2.ext e4;have o5:=o5.ext e4;have si4:=BD.ext si2 e4;have oq4:=oq.ext e4;clear oma omb omc omd ome omf om M1 si1 E1;have E4:=E.ext e04;generalize hBq:L.getD b.toNat default=B at *;refine go ?_;refine VE (fun i=>B.ins.length-i) (fun i t h1=>WK h4 h1/\zC t 53=I i/\i<=B.ins.length/\(∃ fl,zC t 9=.bool fl/\Wu (fl=true↔∀ j,j<i->(B.ins.getD j default).op=22))/\Wu (∀ j,j<i->YW T F ks ps nx L P b j)) 0 ?_ ?_
 ·exact⟨WK.refl _,WM,QU _,⟨true,WM,⟨by simp⟩⟩,⟨fun j hj=>absurd hj (Qw _)⟩⟩
 rintro i t h5 hsame ⟨e5,s53,hi,⟨fl,s9,hfl⟩,hI⟩;have M5:=M4.ext e5;have o55:=o5.ext e5;have o85:=o8.ext e5;have si5:=BD.ext si4 e5;have oq5:=oq4.ext e5;have E5:=E4.ext e5;have e05:=e04.trans e5;refine go ?_;refine VD (fun hb=> ?_) (fun hb=> ?_)<;>simp only[DB]at hb
 ·have hi':i<B.ins.length:=by omega
  obtain⟨cs,hR,pcx,hsx⟩:=zM4 si5 hi';have hxm:B.ins.getD i default∈B.ins:=zL hi';generalize hx:B.ins.getD i default=x at *;have hok:YW T F ks ps nx L P b i↔zMc T F ks ps nx L P b i (∀ j,j<i->(B.ins.getD j default).op=22) x:=by unfold YW;rw[hBq,hx]
  have ux:=UB.ins x hxm;have vx:=VB x hxm;have pcx1:=(pcx h5 (WK.refl _)).1;obtain⟨xa,xf,rfl,sxa,sxf,hla,hlf,ho⟩:=id hR;obtain⟨xa1,xa2,xa3,rfl⟩:=Wt.shape sxa;obtain⟨xf1,xf2,xf3,rfl⟩:=Wt.shape sxf;refine go ?_;refine VJ ?_;intro p11 h6 e6 o11;refine go ?_;refine VF (cs:=[.int .u8 x.op,I x.ty,I x.a,I x.b,I x.n,.slice xa1 xa2 xa3,.slice xf1 xf2 xf3]) o11 e6 ?_;intro h7 e7 o11 u7;have hR7:=hR.ext e7;have E7:=E5.ext e7;refine go ?_;refine VA (zLr h7 x _ hR7 E7.tt ux.args) ?_;rintro vu h8 ⟨ou,e8⟩;have e58:=e7.trans e8;refine go ?_;refine VA (zMO h8 vu (ZG x) (M5.ext e58) ou.sl (by have:=zFb ux;omega) (fun r hr=>ux.uses r hr)) ?_;rintro vl h9 ⟨ol,e9⟩;have e59:=e58.trans e9;have e09:=e05.trans e59;have bad:∀ {h'},¬YW T F ks ps nx L P b i->WK h h'->(B7 f b=.nilIface/\(∀ i,i<B.ins.length->YW T F ks ps nx L P b i)/\Yl T F f ks ps nx L b\/B7 f b=B7 f b/\¬((∀ i,i<B.ins.length->YW T F ks ps nx L P b i)/\Yl T F f ks ps nx L b))/\WK h h':=fun hn e=>⟨.inr ⟨rfl,fun⟨a,_⟩=>hn (a i hi')⟩,e⟩;have bad:=Wu.mk @bad;have hok:=Wu.mk hok;have M9:=M5.ext e59;have o89:=o85.ext e59;have o119:=o11.ext (e8.trans e9);have hlu:=zFb ux;have ouI:=ou.sl.ext e9;have hll:(YQ ks (ZG x)).length=(ZG x).length:=by unfold YQ;simp
  have hinT:∀ t∈YQ ks (ZG x),BU T t:=fun t ht=>by
   obtain⟨r,hr,rfl⟩:=GQ.1 ht;have:=ux.uses r hr;exact hks _ (yZ (by omega))
  replace ol:Wb h8 h9 vl (YQ ks (ZG x)):=ol;have R9:=hR.ext e59;refine go ?_;refine VA (Y5 h9 vl (YQ ks (ZG x)) (-1) ol.sl (by omega)) ?_;rintro _ _ ⟨rfl,rfl⟩;by_cases c1:(-1:Int)∈YQ ks (ZG x)
  ·rw[QX c1];refine go ?_;refine VR ?_;refine gr ?_;exact bad.out (fun q=>(hok.out.1 q).1 c1) e09
  rw[QW c1];refine go ?_;refine VA (zKm h9 x _ vl (YQ ks (ZG x)) M9 hc R9 ol.sl (by omega) hinT vx.ty hF vx.n14 vx.n2 (fun e=>by have:=vx.l1 e;omega) (fun e=>by have:=vx.l2 e;omega)) ?_;rintro _ h10 ⟨rfl,e10⟩;have e010:=e09.trans e10;have o810:=o89.ext e10;have o1110:=o119.ext e10;cases c2:zGh T F x (YQ ks (ZG x))with
  |false=>
   refine go ?_;refine VR ?_;refine gr ?_;exact bad.out (fun q=>absurd ((hok.out.1 q).2.1.symm.trans c2) Bool.noConfusion) e010
  |true=>
  have M10:=M9.ext e10;have oq10:=oq5.ext (e59.trans e10);have R10:=R9.ext e10;refine go ?_;by_cases c3:x.op=22
  ·cases fl with
   |false=>
    refine go ?_;refine VR ?_;refine gr ?_;exact bad.out (fun q=>absurd (hfl.out.2 ((hok.out.1 q).2.2.1 c3).1) Bool.noConfusion) e010
   |true=>
    refine go ?_;have hph:=ux.phi c3;refine VA (zPD h10 x _ _ P M10 G R10 oq10.sl (fun j hj=>hph.2.2 _ (yZ hj)) (by omega) (fun j hj=>by have:=hph.2.1 _ (yZ hj);omega)) ?_;rintro _ h11 ⟨⟨bb,rfl,hbb⟩,e11⟩;have e011:=e010.trans e11;have o811:=o810.ext e11;cases bb with
    |false=>
     refine go ?_;refine VR ?_;refine gr ?_;exact bad.out (fun q=>absurd (hbb.2 ((hok.out.1 q).2.2.1 c3).2) Bool.noConfusion) e011
    |true=>
     refine go ?_;refine zA (i+1) (by omega) ⟨e5.trans (e59.trans (e10.trans e11)),BF,by omega,⟨true,WM,⟨?_⟩⟩,⟨fun j hj=> ?_⟩⟩
     ·simp only[true_iff];intro j hj;by_cases e:j=i
      ·subst e;rw[hx];exact c3
      ·exact hfl.out.1 rfl j (by omega)
     ·by_cases e:j=i
      ·subst e;exact hok.out.2 ⟨c1,c2,fun _=>⟨hfl.out.1 rfl,hbb.1 rfl⟩,fun h=>absurd c3 h⟩
      ·exact hI.out j (by omega)
  ·refine go ?_;have ou10:=ouI.ext e10;refine VA (zGc h10 vu (ZG x) b i M10 G.r (G.way b hb0.1 hb0.2) (by have:=G.n;omega) G.inn ou10 (by omega) (fun r hr=>by have:=ux.uses r hr;omega) G.pl) ?_;rintro _ h11 ⟨⟨bb,rfl,hbb⟩,e11⟩;have e011:=e010.trans e11;have o811:=o810.ext e11;cases bb with
   |false=>
    refine go ?_;refine VR ?_;refine gr ?_;exact bad.out (fun q=>absurd (hbb.2 ((hok.out.1 q).2.2.2 c3)) Bool.noConfusion) e011
   |true=>
    refine go ?_;refine zA (i+1) (by omega) ⟨e5.trans (e59.trans (e10.trans e11)),BF,by omega,⟨false,WM,⟨?_⟩⟩,⟨fun j hj=> ?_⟩⟩
    ·simp only[Qs,JF];intro hall;have:=hall i (by omega);rw[hx]at this;exact c3 this
    ·by_cases e:j=i
     ·subst e;exact hok.out.2 ⟨c1,c2,fun h=>absurd h c3,fun _=>hbb.1 rfl⟩
     ·exact hI.out j (by omega)
 ·have hii:i=B.ins.length:=by omega
  subst hii;obtain⟨⟨hB3,vk3,vp3,vr3,om,oma,omb,omc⟩,st3,sf3,hm3⟩:=id M5;refine go ?_;refine VA (zHB h5 B.fin) ?_;rintro ve h6 ⟨oe,e6⟩;refine go ?_;have hue:(yp B.fin).length<=1:=by unfold yp;split<;>simp
  refine VA (zMO h6 ve (yp B.fin) (M5.ext e6) oe.sl (by omega) UB.ends) ?_;rintro vl h7 ⟨ol,e7⟩;replace ol:Wb h6 h7 vl (YQ ks (yp B.fin)):=ol;have e57:=e6.trans e7;have e07:=e05.trans e57;have hell:(YQ ks (yp B.fin)).length=(yp B.fin).length:=by unfold YQ;simp
  have hinT:∀ t∈YQ ks (yp B.fin),BU T t:=fun t ht=>by
   obtain⟨r,hr,rfl⟩:=GQ.1 ht;have:=UB.ends r hr;exact hks _ (yZ (by omega))
  have M7:=M5.ext e57;have o87:=o85.ext e57;have o57:=o55.ext e57;have si7:=BD.ext si5 e57;clear om oma omb omc st3 sf3 hm3;refine go ?_;refine VK (fun t h'=>WK h7 h'/\∃ q,zC t 15=.bool q/\Wu (q=true↔¬(-1:Int)∈YQ ks (yp B.fin)/\∀ r∈yp B.fin,zEp nx (ps.getD r.toNat default) b B.ins.length)) ?_ ?_
  ·refine VC 0 rfl rfl ?_;have ea:=zQ 0 h7;have olX:=Vc (ol.sl.ext ea);have o5X:=VW (o57.ext ea);have siX:=Uz (BD.ext si7 ea);refine Wc ?_;refine VA (Y5 _ vl _ (-1) olX (by omega)) ?_;rintro _ _ ⟨rfl,rfl⟩;refine nQ ?_;by_cases c1:(-1:Int)∈YQ ks (yp B.fin)
   ·rw[QX c1];refine Wc ?_;refine zQC zBq ?_;refine Wc ?_;exact zD ⟨ea,false,WM,⟨by simp[c1]⟩⟩
   ·rw[QW c1];refine Wc ?_;refine VA (zHB _ B.fin) ?_;rintro ve2 X8 ⟨oe2,e8⟩;refine nE e8 ?_;have e8':=ea.trans (yP (h:=h7) (X:=zB 0 h7) (Y:=X8) e8);refine Wc ?_;refine VA (zGc _ ve2 (yp B.fin) b B.ins.length (VQ (M7.ext e8')) G.r (G.way b hb0.1 hb0.2) (by have:=G.n;omega) G.inn (Vc oe2.sl) (by omega) (fun r hr=>by have:=UB.ends r hr;omega) G.pl) ?_;rintro _ X9 ⟨⟨bb,rfl,hbb⟩,e9⟩;refine nE e9 ?_;have e9':=e8'.trans (yP (h:=h7) e9);refine Wc ?_;exact zD ⟨e9',bb,WM,⟨by rw[hbb];simp[c1]⟩⟩
  rintro t8 h8 hs8 ⟨e8,q,s15,hq⟩;refine Zz ?_;exact zJI (xs:=xs) h h8 _ _ t8 b B P p5 p8 vl _ q (e07.trans e8) (M7.ext e8) hG hBq hsig hinT hell hue (o57.ext e8) (o87.ext e8) (ol.sl.ext e8) (by exact YZ) (by exact YZ) (by exact YZ) (by exact YZ) (by exact YZ) s15 hI hq
end
end Go.Proofs.YtmilpkdhbdgjfaaGreatDoor
set_option maxRecDepth 100000
namespace Go.Proofs.YtmilpkdhbdgjfaaGreatDoor
open Go.Am
theorem zCL(h h':WF)(cs:List Value)(a:Int×Int)(r:RPl h cs a):RPl h' cs a:=r
structure FO(hB h:WF)(p:Value)(vt vf:Value)(f:Int)(ks:List Int)(ps:List (Int×Int))(rs:List Int)(vk vp vr:Value):Prop where
 own:WH hB h p [vt,vf,I f,vk,vp,vr]
 k:Wb hB h vk ks
 q:WZ 2 RPl hB.n h vp ps
 r:Wb hB h vr rs
 kp:Wp vk vp
 kr:Wp vk vr
 pr:Wp vp vr
 ok:Wp p vk
 op:Wp p vp
 or:Wp p vr
 s:(∃ a n k,vk=.slice a n k)/\(∃ a n k,vp=.slice a n k)/\(∃ a n k,vr=.slice a n k)
section
variable {hB h h' h2:WF}{p vt vf:Value}{f:Int}{ks:List Int}{ps:List (Int×Int)}{rs:List Int}{vk vp vr v':Value}
theorem FO.ext(F:FO hB h p vt vf f ks ps rs vk vp vr)(e:WK h h'):FO hB h' p vt vf f ks ps rs vk vp vr:=⟨F.own.ext e,F.k.ext e,F.q.ext e,F.r.ext e,F.kp,F.kr,F.pr,F.ok,F.op,F.or,F.s⟩
theorem FO.putK{ks':List Int}(F:FO hB h p vt vf f ks ps rs vk vp vr)(u:Bh vk h h')(hn:hB.n<=h.n)(o:Wn h h' v' ks')(oc:WH hB h2 p [vt,vf,I f,v',vp,vr])(u2:Ws p h' h2):FO hB h2 p vt vf f ks' ps rs v' vp vr:=by
 have hs:zC1 h v':=(Wb.since' (.inr o));have u1:=u.upB;have u2:=u2.upB;have o1:=VI hs F.own.within;have o2:=VI hs F.q.within;have o3:=VI hs F.r.within;have ob:Wb hB h' v' ks':= .inr (let⟨g,a,b⟩:=o;⟨g,QN hn a,b⟩);exact⟨oc,ob.upB u2 o1.symm,(F.q.upB zCL u1 F.kp).upB zCL u2 F.op,(F.r.upB u1 F.kr).upB u2 F.or,o2,o3,F.pr,o1.symm,F.op,F.or,⟨Wt.shape ob.sl,F.s.2⟩⟩
theorem FO.putP{ps':List (Int×Int)}(F:FO hB h p vt vf f ks ps rs vk vp vr)(u:UpB vp h h')(hs:zC1 h v')(hsl:∃ a n k,v'=.slice a n k)(o:WZ 2 RPl hB.n h' v' ps')(oc:WH hB h2 p [vt,vf,I f,vk,v',vr])(u2:Ws p h' h2):FO hB h2 p vt vf f ks ps' rs vk v' vr:=by
 have u2:=u2.upB;have o1:=VI hs F.own.within;have o2:=VI hs F.k.within;have o3:=VI hs F.r.within;exact⟨oc,(F.k.upB u F.kp.symm).upB u2 F.ok,o.upB zCL u2 o1.symm,(F.r.upB u F.pr).upB u2 F.or,o2.symm,F.kr,o3,F.ok,o1.symm,F.or,⟨F.s.1,hsl,F.s.2.2⟩⟩
end
theorem zOM{h:WF}{b g k:Nat}{x y:Int}(h1:b<=g)(h2:g<h.n)(hg:h.get g=some (.row (zS [I x,I y] k) true 0)):WZ 2 RPl b h (.slice (some ⟨g,0,none⟩) k 2) (List.replicate k (x,y)):=by
 refine .inr ⟨g,zS [I x,I y] k,fun _=>False,h1,h2,by rw[List.length_replicate],hg,by rw[zn,List.length_replicate];rfl,id,fun _ h=>h.elim,fun i a ha hx _ _=> ?_⟩;rw[List.getElem?_replicate]at ha;split at ha;case isFalse=>cases ha
 rename_i hi;cases ha;show _=_;have h3:List.drop (i*2) (zS [I x,I y] k)=zS [I x,I y] (k-i):=zBA (z:=[I x,I y]);rw[h3,show k-i=(k-i-1)+1 by omega];rfl
theorem zC0{L:List Wl}(h:∀ b∈L,b.ins.length<=1000):∀ n,n<=L.length->(ZS L n).length<=1000*n
 |0,_=>QU _
 |n+1,hn=>by
  have:=zC0 h n (by omega);have h2:=h _ (zL (l:=L) (i:=n) (by omega));show(ZS L n++_).length<=_;rw[QT,GR,List.length_range];omega
theorem zEG{L:List Wl}(h:∀ b∈L,b.ins.length<=1000):∀ n,n<=L.length->(YF (L.take n)).length<=1000*n
 |0,_=>by simp[YF]
 |n+1,hn=>by
  have:=zEG h n (by omega);have h2:=h _ (zL (l:=L) (i:=n) (by omega));rw[zAr (by omega),QT,GR];omega
theorem zIl{α:Type}[Inhabited α]{l:List α}{n:Nat}(h:n<l.length):l.take (n+1)=l.take n++[l.getD n default]:=by
 rw[GE,QB h,QL,QB h];rfl
theorem zIH(h:WF)(op:Int)(tt:By h)(h0:0<=op)(h1:op<=255):WC Tryz.prog tb 134 [.int .u8 op] h fun r h'=>r=.bool (zt op).2.2.2.2.2/\WK h h':=by
 refine en ?_;refine VA (zNi h op tt h0 h1) ?_;rintro _ h2 ⟨rfl,e2⟩;refine gr ?_;exact⟨rfl,e2⟩
theorem zOx(h:WF)(vt vf:Value)(T:List WJ)(F:List Wj)(f:Int)(E:B4 h vt vf T F)(ha:Yx T F f 0=0)(hf:0<=f/\f<(F.length:Int))(hsig:0<=(F.getD f.toNat default).sig/\(F.getD f.toNat default).sig<(T.length:Int))(hL:(F.getD f.toNat default).blocks.length<=16):
  WC Tryz.prog tb 107 [.agg #[vt,vf],I f] h fun r h'=>(∃ g xs,r=.pointer (some ⟨g,0,none⟩)/\Rul (nxF T F f) xs/\
   BK h' g vt vf T F f (zF0 (T.getD (F.getD f.toNat default).sig.toNat default).parts (F.getD f.toNat default).blocks) (zGi (T.getD (F.getD f.toNat default).sig.toNat default).parts.length (F.getD f.toNat default).blocks) (YB xs (F.getD f.toNat default).blocks.length))/\WK h h':=by
 have hI:=E.sm.ins _ (zL (l:=F) (i:=f.toNat) (by omega));have hP:=E.sm.parts _ (zL (l:=T) (i:=(F.getD f.toNat default).sig.toNat) (by omega));have hI:=Wu.mk hI;refine en ?_;refine VG ?_;intro p0 h1 e1 o1;have E1:=E.ext e1;refine go ?_;refine VC 1 rfl rfl ?_;have ea:=zQ 1 h1;have o1X:=VW (o1.ext ea);obtain⟨cs,⟨vb,rfl,sb,hlb⟩,pc,hsl⟩:=zg (i:=f.toNat) E1.sf (by omega);have pc1:=(pc _ ea).2;obtain⟨cst,⟨vat,rfl,sat,hlat⟩,pct,hslt⟩:=zg (i:=(F.getD f.toNat default).sig.toNat) E1.st (by omega);have pct1:=(pct _ ea).2;have satX:=Vc (sat.ext ea);have stX0:=Bc.ext E1.st ea;have stX:Bc (inC (zB 1 h1)) vt T:=stX0;have sfX0:=W7.ext E1.sf ea;have sfX:W7 (inC (zB 1 h1)) vf F:=sfX0;refine Wc ?_;refine VA (zMC _ vat _ satX (by omega)) ?_;rintro vk X2 ⟨ok,e2⟩;obtain⟨k1,k2,k3,rfl⟩:=Wt.shape ok.sl;have hlt:h1.n<X2.n:=e2.n;refine nE e2 ?_;refine Wc ?_;refine XZ E1.hm ?_;intro X3 n3 g3;have e3:=zDX ((zQ 1 h1).trans (yP (h:=h1) e2)) n3 g3 (QE _) hlt;have o5:WH h1 (zq h1 (inC X3)) (.pointer (some ⟨h1.n,0,none⟩)) [vt,vf,I f,(.slice k1 k2 k3),.slice none 0 0,.slice none 0 0]:=⟨h1.n,QE _,by show h1.n<X3.n;omega,rfl,by show X3.get _=_;rw[g3,QG rfl];rfl⟩;have ok5:Wb h1 (zq h1 (inC X3)) (.slice k1 k2 k3) (T.getD (F.getD f.toNat default).sig.toNat default).parts:=by
  rcases ok with ok|⟨g,g1,g2,g4,g5⟩
  ·exact .inl ok
  ·have g1:h1.n+1<=g:=g1;exact .inr ⟨g,by omega,by show g<X3.n;omega,g4,by show X3.get g=_;rw[g3,QC (by omega)];exact g5⟩
 have f5:Wp (.pointer (some ⟨h1.n,0,none⟩)) (.slice k1 k2 k3):=fun b hb hk=>by
  cases hb;have:=Wb.since' ok _ hk;have:h1.n+1<=h1.n:=this;omega
 refine Wc ?_;have e4:WK h1 (zq h1 (inC X3)):=e3;generalize zq h1 (inC X3)=h4 at *;clear g3 n3 e3 e2 ok hlt X2;have E4:=E1.ext e4;have e04:=e1.trans e4;have o14:=o1.ext e4;refine go ?_;refine VA (zO0 h4 vt vf T F f E4) ?_;rintro _ h5 ⟨⟨vr,rs,rfl,orr,hlr,hrs,_⟩,e5⟩;obtain⟨r1,r2,r3,rfl⟩:=Wt.shape orr.sl;obtain⟨xs,hRul,rfl⟩:=hrs ha;have o55:=o5.ext e5;have e45:=e4.trans e5;rw[ha];refine go ?_;refine Vj (cs:=[.slice r1 r2 r3]) (j:=5) (hl:=by simp) o55 e45 ?_;intro h6 e6 o6 u6;replace o6:WH h1 h6 (.pointer (some ⟨h1.n,0,none⟩)) [vt,vf,I f,.slice k1 k2 k3,.slice none 0 0,.slice r1 r2 r3]:=o6;have fr:=VI (Wb.since' orr) o5.within;have ok6:=(ok5.ext e5).upB u6.upB f5;have or6:=orr.upB u6.upB fr.symm;have fkr:=(VI (Wb.since' orr) ok5.within).symm;refine go ?_;refine Vz (cs:=[I (-1),I (-1)]) ?_;intro h7 e7 n7 s7 _;have ok7:=ok6.ext e7;have o7:=o6.ext e7;refine go ?_;refine VA (zIJ h7 _ (-1) (-1) (T.getD (F.getD f.toNat default).sig.toNat default).parts.length s7 (yN (e6.trans e7) E1.hm) (by omega)) ?_;rintro _ h8 ⟨⟨gp,gp1,gp2,rfl,gp3⟩,e8⟩;have e68:=e7.trans e8;have e18:=e6.trans e68;have o8:=o6.ext e68;have n17:h1.n<=h7.n:=(e6.trans e7).n;have op8:=zOM (b:=h1.n) (by omega) gp2 gp3;have ok8:=ok6.ext e68;have or8:=or6.ext e68;have hsp:zC1 h7 (.slice (some ⟨gp,0,none⟩) (T.getD (F.getD f.toNat default).sig.toNat default).parts.length 2):=fun b hb=>by cases hb;exact gp1
 have fp1:=VI hsp (o6.ext e7).within;have fp2:=VI hsp (ok6.ext e7).within;have fp3:=VI hsp (or6.ext e7).within;refine go ?_;refine Vj (cs:=[.slice (some ⟨gp,0,none⟩) (T.getD (F.getD f.toNat default).sig.toNat default).parts.length 2]) (j:=4) (hl:=by simp) o8 e18 ?_;intro h9 e9 o9 u9;have n4:h1.n<=h4.n:=e4.n;have FO9:FO h1 h9 (.pointer (some ⟨h1.n,0,none⟩)) vt vf f (T.getD (F.getD f.toNat default).sig.toNat default).parts (List.replicate (T.getD (F.getD f.toNat default).sig.toNat default).parts.length (-1,-1)) (YB xs (F.getD f.toNat default).blocks.length) (.slice k1 k2 k3) (.slice (some ⟨gp,0,none⟩) (T.getD (F.getD f.toNat default).sig.toNat default).parts.length 2) (.slice r1 r2 r3):=
  ⟨o9,ok8.upB u9.upB f5,op8.upB zCL u9.upB fp1.symm,(or8.since e4).upB u9.upB fr.symm,fp2.symm,fkr,fp3,f5,fp1.symm,fr.symm,⟨⟨_,_,_,rfl⟩,⟨_,_,_,rfl⟩,⟨_,_,_,rfl⟩⟩⟩
 have o19:=o1.ext e9;have pc9:=(pc _ e9).1;have sb9:=BN.ext sb e9;have sf9:=W7.ext E1.sf e9;clear o9 u9 o8 op8 ok8 or8 fp1 fp2 fp3 hsp gp3 gp1 gp2 o7 ok7 s7 o6 ok6 or6 u6 o55 orr ok5 o5 E4 o14 fr fkr f5 pc1 pct1 satX stX sfX stX0 sfX0 o1X ea pct hslt sat;have hI2:=hI.out;generalize hLd:(F.getD f.toNat default).blocks=L at *;generalize hpd:(T.getD (F.getD f.toNat default).sig.toNat default).parts=par at *;refine go ?_;refine VE (fun i=>L.length-i) (fun i t h'=>WK h1 h'/\zC t 54=I i/\i<=L.length/\∃ vk vp,FO h1 h' (.pointer (some ⟨h1.n,0,none⟩)) vt vf f (par++YF (L.take i)) (List.replicate par.length (-1,-1)++ZS L i) (YB xs L.length) vk vp (.slice r1 r2 r3)) 0 ?_ ?_
 ·exact⟨e9,WM,QU _,_,_,by simpa [YF,ZS]using FO9⟩
 rintro i t h10 hsame ⟨e10,s54,hi,vk,vp,G10⟩;refine go ?_;refine VD (fun hb=> ?_) (fun hb=> ?_)<;>simp only[DB]at hb;rotate_left 1
 ·have hii:i=L.length:=by omega
  subst hii;rw[Gc]at G10;refine gr ?_;exact⟨⟨h1.n,xs,rfl,hRul,⟨h1,_,_,_,G10.own,G10.k.sl,G10.q.sl,G10.r.sl⟩,Bc.ext E1.st e10,W7.ext E1.sf e10,yN e10 E1.hm⟩,e1.trans e10⟩
 have hi':i<L.length:=by omega
 obtain⟨csb,⟨vi,rfl,si,hli⟩,pcb,hsb⟩:=zg (i:=i) sb (by omega);have pcb10:=(pcb _ e10).1;have sb10:=BN.ext sb e10;have hil:=hI2 _ (zL hi');have hkl:=zEG hI2 i (by omega);have hpl:=zC0 hI2 i (by omega);generalize hBd:L.getD i default=B at *;obtain⟨ia,iN,ik,rfl⟩:=zN si;refine go ?_;refine VJ ?_;intro p7 h11 e11 o7;refine go ?_;refine VF (cs:=[.slice ia iN ik,.int .u8 B.fin.kind,I B.fin.a,I B.fin.to,I B.fin.els]) o7 e11 ?_;intro h12 e12 o7 u7;have e1_12:=e10.trans e12;have si12:=BD.ext si e1_12;refine go ?_;refine VE (fun j=>B.ins.length-j) (fun j t h'=>WK h1 h'/\zC t 62=I j/\j<=B.ins.length/\∃ vk vp,FO h1 h' (.pointer (some ⟨h1.n,0,none⟩)) vt vf f (par++YF (L.take i)++(B.ins.take j).map zBX) (List.replicate par.length (-1,-1)++ZS L i++(List.range j).map fun(a:Nat)=>((i:Int),(a:Int))) (YB xs L.length) vk vp (.slice r1 r2 r3)) 0 ?_ ?_
 ·exact⟨e1_12,WM,QU _,_,_,by simpa using G10.ext e12⟩
 rintro j t h13 hsame2 ⟨e13,s62,hj,vk,vp,G13⟩;refine go ?_;refine VD (fun hb=> ?_) (fun hb=> ?_)<;>simp only[DB]at hb;rotate_left 1
 ·have hjj:j=B.ins.length:=by omega
  subst hjj;refine go ?_;refine zA (i+1) (by omega) ⟨e13,BF,by omega,vk,vp,?_⟩;rw[zAr hi',hBd,show ZS L (i+1)=ZS L i++(List.range B.ins.length).map fun(a:Nat)=>((i:Int),(a:Int)) by rw[<-hBd];rfl];rw[Gc,Q3,Q3]at G13;exact G13
 have hj':j<B.ins.length:=by omega
 obtain⟨csx,hR,pcx,hsx⟩:=zg (i:=j) si (by omega);have pcx13:=(pcx _ e13).1;have si13:=BD.ext si e13;have hsucc:(B.ins.take (j+1)).map zBX=(B.ins.take j).map zBX++[zBX (B.ins.getD j default)]:=by rw[zIl hj',GU];rfl
 generalize hxd:B.ins.getD j default=x at *;obtain⟨xa,xf,rfl,sxa,sxf,hla,hlf,ho⟩:=id hR;obtain⟨xa1,xa2,xa3,rfl⟩:=Wt.shape sxa;obtain⟨xf1,xf2,xf3,rfl⟩:=Wt.shape sxf;refine go ?_;refine VJ ?_;intro p9 h14 e14 o9;refine go ?_;refine VF (cs:=[.int .u8 x.op,I x.ty,I x.a,I x.b,I x.n,.slice xa1 xa2 xa3,.slice xf1 xf2 xf3]) o9 e14 ?_;intro h15 e15 o9 u9;have G15:=G13.ext e15;have e1_15:=e13.trans e15;have own15:=G15.own;refine go ?_;refine UI (a:=((i:Int),(j:Int))) (Dn:=fun _=>False) G15.q e1_15 (QE _) e1_15.n (by decide) (by simp only[QT,List.length_replicate,GR,List.length_range];omega) (fun hx _ _=>rfl) (fun _ h=>h.elim) (fun _ _ _ _ h=>h) ?_;intro v8 h16 lit e16 op16 n16 k16 fr16;have hs16:zC1 h15 v8:=fun b hb=>by obtain⟨n,k,g,rfl,hg⟩:=fr16;cases hb;exact hg
 have sh16:∃ a n k,v8=.slice a n k:=let⟨n,k,g,e,_⟩:=fr16;⟨_,n,k,e⟩;have uB16:=zGY n16 k16;have own16:=own15.upB uB16 G15.op.symm;have o9_16:=o9.upB uB16 (VI o9.since' G13.q.within).symm;obtain⟨w1,w2,w3,rfl⟩:=sh16;refine go ?_;refine Vj (cs:=[.slice w1 w2 w3]) (j:=4) (hl:=by simp) own16 e16 ?_;intro h17 e17 own17 u17;replace own17:WH h1 h17 (.pointer (some ⟨h1.n,0,none⟩)) [vt,vf,I f,vk,.slice w1 w2 w3,.slice r1 r2 r3]:=own17;have G17:=G15.putP uB16 hs16 ⟨_,_,_,rfl⟩ op16 own17 u17;have o9_17:=o9_16.upB u17.upB (VI o9.since' G13.own.within).symm;refine go ?_;refine VA (zIH h17 x.op (E1.ext e17).tt ho.1 ho.2) ?_;rintro _ h18 ⟨rfl,e18⟩;have G18:=G17.ext e18;have own18:=G18.own;have o9_18:=o9_17.ext e18;have e1_18:=e17.trans e18;have hk:zBX x=if(zt x.op).2.2.2.2.2 then x.ty else -1:=rfl;have ok18:=G18.k;obtain⟨⟨q1,q2,q3,rfl⟩,_⟩:=G18.s;cases hb2:(zt x.op).2.2.2.2.2 with
 |true=>
  have hk1:zBX x=x.ty:=by rw[hk,hb2];rfl
  refine go ?_;refine WO.bl [x.ty] ?_;intro v19 h19 e19 ol19;refine go ?_;refine UD (ok18.ext e19) ol19.sl (e1_18.trans e19) (by simp) (by simp only[QT,GR,Ql,QZ];omega) ?_;intro v20 h20 e20 oi20 u20;have own20:=(own18.ext e19).upB u20.upB G18.ok.symm;obtain⟨y1,y2,y3,rfl⟩:=Wt.shape oi20.sl;refine go ?_;refine Vj (cs:=[.slice y1 y2 y3]) (j:=3) (hl:=by simp) own20 e20 ?_;intro h21 e21 own21 u21;replace own21:WH h1 h21 (.pointer (some ⟨h1.n,0,none⟩)) [vt,vf,I f,.slice y1 y2 y3,.slice w1 w2 w3,.slice r1 r2 r3]:=own21;have G21:=(G18.ext e19).putK u20 (e1_18.trans e19).n oi20 own21 u21;refine go ?_;refine zA (j+1) (by omega) ⟨e21,BF,by omega,.slice y1 y2 y3,.slice w1 w2 w3,?_⟩;rw[hsucc,hk1,List.range_succ,GU,<-Q3,<-Q3];exact G21
 |false=>
  have hk1:zBX x= -1:=by rw[hk,hb2];rfl
  refine go ?_;refine WO.bl [-1] ?_;intro v19 h19 e19 ol19;refine go ?_;refine UD (ok18.ext e19) ol19.sl (e1_18.trans e19) (by simp) (by simp only[QT,GR,Ql,QZ];omega) ?_;intro v20 h20 e20 oi20 u20;have own20:=(own18.ext e19).upB u20.upB G18.ok.symm;obtain⟨y1,y2,y3,rfl⟩:=Wt.shape oi20.sl;refine go ?_;refine Vj (cs:=[.slice y1 y2 y3]) (j:=3) (hl:=by simp) own20 e20 ?_;intro h21 e21 own21 u21;replace own21:WH h1 h21 (.pointer (some ⟨h1.n,0,none⟩)) [vt,vf,I f,.slice y1 y2 y3,.slice w1 w2 w3,.slice r1 r2 r3]:=own21;have G21:=(G18.ext e19).putK u20 (e1_18.trans e19).n oi20 own21 u21;refine go ?_;refine zA (j+1) (by omega) ⟨e21,BF,by omega,.slice y1 y2 y3,.slice w1 w2 w3,?_⟩;rw[hsucc,hk1,List.range_succ,GU,<-Q3,<-Q3];exact G21
theorem zEM{O:List Int}{n:Nat}(h:O.Nodup)(hr:∀ c∈O,0<=c/\c<(n:Int)):O.length<=n:=by
 have hs:O ⊆ (List.range n).map fun(i:Nat)=>(i:Int):=fun c hc=>by
  have:=hr c hc;exact GQ.2 ⟨c.toNat,GT.2 (by omega),by omega⟩
 have:=h.length_le_of_subset hs;simpa using this
theorem zKw(n:Nat):((List.range n).map fun(i:Nat)=>(i:Int)).Nodup:=by
 exact List.Pairwise.map (R:=(·≠·)) (S:=(·≠·)) (fun(i:Nat)=>(i:Int)) (fun a b hne (e:(a:Int)=b)=>hne (by omega)) List.nodup_range
theorem zKz{T:List WJ}{F:List Wj}{f:Int}(h:(zF T F f 0).2=0):(yO T F f).1.length=(zF T F f 0).1.length↔∀ c,0<=c->c<((zF T F f 0).1.length:Int)->Wr (W0 (zF T F f 0).1) 0 c:=by
 obtain⟨h1,_,_,h4,_,h6,_⟩:=zBI h;have hnd:=zCz h;have hle:=zEM hnd h6;rw[<-h1];constructor
 ·intro he c c0 c1;refine(Yj h).1 (Classical.byContradiction fun hc=> ?_);have hco:c∉(zb T F f).1:=fun hm=>hc (by
   unfold zb at hm;unfold yO;rw[QC (fun e=>e h)]at hm |-;exact zCc.2 (List.mem_reverse.1 hm))
  have:=zEM (O:=c::(zb T F f).1) (n:=(zF T F f 0).1.length) (List.nodup_cons.2 ⟨hco,hnd⟩) (fun d hd=>by
   rcases GI.1 hd with rfl|hd
   ·exact⟨c0,c1⟩
   ·exact h6 d hd)
  rw[JA]at this;omega
 ·intro hw;have hs:((List.range (zF T F f 0).1.length).map fun(i:Nat)=>(i:Int)) ⊆ (zb T F f).1:=fun c hc=>by
   obtain⟨i,hi,rfl⟩:=GQ.1 hc;exact h4 _ ((Yj h).2 (hw _ (by omega) (by have:=GT.1 hi;omega)))
  have:=(zKw _).length_le_of_subset hs;simp at this;omega
def zp(F:List Wj)(f:Int):List Wl:=(F.getD f.toNat default).blocks
def Yc(T:List WJ)(F:List Wj)(f:Int):WJ:=T.getD (F.getD f.toNat default).sig.toNat default
def ksF(T:List WJ)(F:List Wj)(f:Int):List Int:=zF0 (Yc T F f).parts (zp F f)
def psF(T:List WJ)(F:List Wj)(f:Int):List (Int×Int):=zGi (Yc T F f).parts.length (zp F f)
def zPQ(T:List WJ)(F:List Wj)(f b:Int):Prop:=
 (∀ i,i<((zp F f).getD b.toNat default).ins.length->YW T F (ksF T F f) (psF T F f) (W0 (zp F f)) (zp F f) (zV (zp F f) b (zp F f).length) b i)/\Yl T F f (ksF T F f) (psF T F f) (W0 (zp F f)) (zp F f) b
def zJT(T:List WJ)(F:List Wj)(f:Int):Prop:=
 (∀ c,0<=c->c<((zp F f).length:Int)->Wr (W0 (zp F f)) 0 c)/\(f=0->(Yc T F f).parts=[]/\BG T 1 (Yc T F f).elem=true)/\∀ b,0<=b->b<((zp F f).length:Int)->zPQ T F f b
def WfP(T:List WJ)(F:List Wj):Prop:=∀ f,0<=f->f<(F.length:Int)->zJT T F f
theorem zE9(L:List Wl):∀ n,n<=L.length->(YF (L.take n)).length=(ZS L n).length
 |0,_=>by simp[YF,ZS]
 |n+1,hn=>by
  rw[zAr (by omega),QT,zE9 L n (by omega)];show _=(ZS L n++_).length;rw[QT,GR,GR,List.length_range]
theorem zIo(L:List Wl):((YF L).length:Int)=zz L:=by
 unfold YF zz;induction L with
 |nil=>rfl
 |cons b L ih=>rw[List.flatMap_cons,QT,Q6,List.sum_cons,GR,<-ih];omega
theorem zFe{L:List Wl}:∀ n,∀ p∈ZS L n,(0<=p.1/\p.1<(n:Int))/\0<=p.2/\p.2<((L.getD p.1.toNat default).ins.length:Int)
 |0,p,hp=>by cases hp
 |n+1,p,hp=>by
  have hp:p∈ZS L n++(List.range (L.getD n default).ins.length).map fun(i:Nat)=>((n:Int),(i:Int)):=hp;rcases Qy.1 hp with hp|hp
  ·have:=zFe n p hp;omega
  ·obtain⟨i,hi,rfl⟩:=GQ.1 hp;have:=GT.1 hi;exact⟨⟨by show(0:Int)<=(n:Int);omega,by show(n:Int)<_;omega⟩,by show(0:Int)<=(i:Int);omega,by show(i:Int)<((L.getD (n:Int).toNat default).ins.length:Int);rw[Q7];omega⟩
structure FnIn(T:List WJ)(F:List Wj)(f:Int):Prop where
 hf:0<=f/\f<(F.length:Int)
 hc:Za T=0
 bl:∀ b,0<=b->b<((zp F f).length:Int)->zF T F f b=(zp F f,0)
 n1:1<=(zp F f).length
 n16:(zp F f).length<=16
 many:zz (zp F f)<=128
 sig:0<=(F.getD f.toNat default).sig/\(F.getD f.toNat default).sig<(T.length:Int)
 sigF:∀ g∈F,BU T g.sig
 ks:∀ t∈ksF T F f,BU T t
 par:∀ t∈(Yc T F f).parts,PlT T t
 el:PlT T (Yc T F f).elem
 par4:(Yc T F f).parts.length<=4
 len:(ksF T F f).length=(psF T F f).length
 reg:((ksF T F f).length:Int)=zNL ((Yc T F f).parts.length:Int) (zp F f)
 U:∀ B∈zp F f,BlkU B (ksF T F f).length (zp F f).length
 V:∀ B∈zp F f,∀ x∈B.ins,InsT T F x
 pl:∀ i,i<(psF T F f).length->((psF T F f).getD i default).1= -1\/0<=((psF T F f).getD i default).1
 nx:∀ c,0<=c/\c<((zp F f).length:Int)->∀ d∈W0 (zp F f) c,0<=d/\d<((zp F f).length:Int)
theorem zNb{T:List WJ}{F:List Wj}{f:Int}(h:yl T F=0)(hf:0<=f/\f<(F.length:Int)):FnIn T F f:=by
 obtain⟨hc,hF1,hF8,hfn⟩:=Z3 h;have hm:=zL (l:=F) (i:=f.toNat) (by omega);have hfn1:=hfn _ hm;have hlen:=zLu hfn1;have hsg:=zGV hfn1;have hask:yY T F f=(((Yc T F f).parts.length:Int),0):=by
  unfold yY;rw[QC (fun e=>e h),QG (by unfold za;simp;omega)];rfl
 have hreg:(Ym T F f).2=0:=by unfold Ym;rw[hask];rfl
 have hbl:∀ b,0<=b->b<((zp F f).length:Int)->zF T F f b=(zp F f,0):=fun b b0 b1=>by
  unfold zF;rw[QC (fun e=>e hreg),QC (by unfold zp at b1;omega)];rfl
 have hmay:=zGM hc hsg.1 hsg.2;have hk3:(Yc T F f).kind=3:=by
  unfold Bs at hfn1;split at hfn1
  ·cases hfn1
  ·rename_i hb;unfold zB5 at hb;simp only[GM,Gp,Gj,not_or,Bool.not_eq_false,JD,Decidable.not_not]at hb;exact hb.1.1.2
 have hfnT:zHE T (Yc T F f):=by
  have hk3':(T.getD (F.getD f.toNat default).sig.toNat default).kind=3:=hk3;rcases hmay with⟨k,_⟩|⟨k,_⟩|⟨_,k⟩|⟨k,_⟩|⟨k,_⟩
  ·omega
  ·omega
  ·exact k
  ·omega
  ·omega
 have hV:∀ B∈zp F f,∀ x∈B.ins,InsT T F x:=fun B hB x hx=>by
  refine zPo (f:=F.getD f.toNat default) (by omega) ?_;have h0:Bs T F.length (F.getD f.toNat default)=true:=hfn1;unfold Bs at h0;split at h0
  ·cases h0
  ·have h0:((F.getD f.toNat default).blocks.any fun b=>zCP b (szL T F.length (F.getD f.toNat default)))=false:=by simpa using h0
   have hb:=Gy.1 h0 B hB;have hb:zCP B (szL T F.length (F.getD f.toNat default))=false:=by simpa using hb
   unfold zCP at hb;rw[Bool.or_eq_false_iff]at hb;have:=Gy.1 hb.1 x hx;simpa using this
 have hkm:((ksF T F f).length:Int)=zNL ((Yc T F f).parts.length:Int) (zp F f):=by
  unfold ksF zF0 zNL;rw[QT,<-zIo];omega
 have hkl:(ksF T F f).length=(psF T F f).length:=by
  unfold ksF psF zF0 zGi;rw[QT,QT,List.length_replicate,<-zE9 _ _ (QE _),Gc]
 refine⟨hf,hc,hbl,hlen.1,hlen.2.1,hlen.2.2,hsg,fun g hg=> .inr (zGV (hfn g hg)),?_,hfnT.1,hfnT.2.1,hfnT.2.2.1,hkl,hkm,?_,hV,?_,?_⟩
 ·intro t ht;rcases Qy.1 ht with ht|ht
  ·have:=hfnT.1 t ht;exact .inr ⟨this.1,this.2.1⟩
  ·obtain⟨B,hB,ht⟩:=List.mem_flatMap.1 ht;obtain⟨x,hx,rfl⟩:=GQ.1 ht;unfold zBX;split
   ·exact(hV B hB x hx).ty
   ·exact .inl rfl
 ·intro B hB;rw[hkm];exact zQJ hfn1 B hB
 ·intro i hi;have hp:=zL (l:=psF T F f) hi;rcases Qy.1 hp with hp|hp
  ·rw[(List.mem_replicate.1 hp).2];exact .inl rfl
  ·exact .inr (zFe _ _ hp).1.1
 ·intro c hcc d hd;have hU:=zQJ hfn1 _ (zL (l:=zp F f) (i:=c.toNat) (by omega));exact hU.next d hd
end Go.Proofs.YtmilpkdhbdgjfaaGreatDoor
set_option maxRecDepth 100000
namespace Go.Proofs.YtmilpkdhbdgjfaaGreatDoor
open Go.Am
theorem zFm(h:WF)(vt vf:Value)(T:List WJ)(F:List Wj)(f:Int)(E:B4 h vt vf T F)(hp:yl T F=0)(hf:0<=f/\f<(F.length:Int)):
  WC Tryz.prog tb 73 [.agg #[vt,vf],I f] h fun r h'=>(r=.nilIface/\zJT T F f\/(∃ b,r=B7 f b)/\¬zJT T F f)/\WK h h':=by
 have Z:=zNb hp hf;have hb0:=Z.bl 0 (Qh 0) (by have:=Z.n1;omega);have hbe:(zF T F f 0).2=0:=by rw[hb0]
 have ha:Yx T F f 0=0:=by
  unfold Yx;rw[QC (fun e=>e hbe),QC (by rw[hb0];have:=Z.n1;show ¬(_\/((zp F f).length:Int)<=0);omega),QG ((Yj hbe).2 (by rw[hb0];exact Wr.here))]
 have hra:=zKz hbe;have hre:(yO T F f).2=0:=by rw[zFL];exact hbe
 have hn16:=Z.n16;have hn1:=Z.n1;have hsg:=Z.sig;have hpar:=Z.par4;have hnx:nxF T F f=W0 (zp F f):=by unfold nxF;rw[hb0]
 rw[hb0]at hra;replace hra:(yO T F f).1.length=(zp F f).length↔∀ c,0<=c->c<((zp F f).length:Int)->Wr (W0 (zp F f)) 0 c:=hra;refine en ?_;refine VG ?_;intro p2 h1 e1 o1;replace o1:WH h h1 p2 [vt,vf]:=o1;have E1:=E.ext e1;refine go ?_;refine VA (zOx h1 vt vf T F f E1 ha hf Z.sig hn16) ?_;rintro _ h2 ⟨⟨g,xs,rfl,hR,M⟩,e2⟩;rw[hnx]at hR;have E2:=E1.ext e2;have o2:=o1.ext e2;refine go ?_;refine VA (zHo h2 vt vf T F f E2.tt E2.hm E2.sm E2.st E2.sf) ?_;rintro _ h3 ⟨⟨vr,rfl,orr⟩,e3⟩;rw[hre];have E3:=E2.ext e3;have o3:=o2.ext e3;have M3:=M.ext e3;refine go ?_;refine VC 1 rfl rfl ?_;have ea:=zQ 1 h3;have o3X:=VW (o3.ext ea);obtain⟨cs,⟨vb,rfl,sb,hlb⟩,pc,hsl⟩:=zg (i:=f.toNat) E3.sf (by omega);have pc1:=(pc _ ea).2;obtain⟨cst,⟨vat,rfl,sat,hlat⟩,pct,hslt⟩:=zg (i:=(F.getD f.toNat default).sig.toNat) E3.st (by omega);have pct1:=(pct _ ea).2;have stX0:=Bc.ext E3.st ea;have stX:Bc (inC (zB 1 h3)) vt T:=stX0;have sfX0:=W7.ext E3.sf ea;have sfX:W7 (inC (zB 1 h3)) vf F:=sfX0;obtain⟨va1,va2,va3,rfl⟩:=Wt.shape sat;refine Wc ?_;refine XM (X:=inC (zB 1 h3)) (cs:=[.int .u8 (Yc T F f).kind,I (Yc T F f).elem,I (Yc T F f).many,.slice va1 va2 va3]) (WK.refl _) E3.hm ?_;intro h4 p8 e4 o8;have E4:=E3.ext e4;have o4:=o3.ext e4;have M4:=M3.ext e4;have or4:=orr.ext e4;have pc4:=(pc _ e4).1;have sb4:=BN.ext sb e4;have sf4:=E4.sf;have sat4:=Wd.ext sat e4;have st4:=E4.st;have e04:=e1.trans (e2.trans (e3.trans e4));have bad:∀ (b:Int) {h'},¬zJT T F f->WK h h'->(B7 f b=.nilIface/\zJT T F f\/(∃ b',B7 f b=B7 f b')/\¬zJT T F f)/\WK h h':=fun b h' hn e=>⟨.inr ⟨⟨b,rfl⟩,hn⟩,e⟩;have bad:=Wu.mk @bad;clear stX0 sfX0 stX sfX o3X pc1 pct1 ea pct sat hslt;have hLb:(F.getD f.toNat default).blocks=zp F f:=rfl;rw[hLb]at sb4;have hgo:(f=0->(Yc T F f).parts=[]/\BG T 1 (Yc T F f).elem=true)\/¬(f=0->(Yc T F f).parts=[]/\BG T 1 (Yc T F f).elem=true):=Classical.em _;refine Zz ?_;refine VK (fun t h'=>WK h4 h'/\(yO T F f).1.length=(zp F f).length/\(f=0->(Yc T F f).parts=[]/\BG T 1 (Yc T F f).elem=true)) ?_ ?_
 ·by_cases hr:(yO T F f).1.length=(zp F f).length;case neg=>
   have hrI:¬(((yO T F f).1.length:Int)=((zp F f).length:Int)):=by omega
   refine go ?_;refine VR ?_;refine go ?_;refine zB0 ?_;refine gr ?_;exact bad.out 0 (fun q=>hr (hra.2 q.1)) e04
  have hrI:(((yO T F f).1.length:Int)=((zp F f).length:Int)):=by omega
  refine go ?_;by_cases f0:f=0;case neg=>
   refine go ?_;exact zD ⟨WK.refl _,hr,fun e=>absurd e f0⟩
  refine go ?_;by_cases hpl:((T.getD (F.getD f.toNat default).sig.toNat default).parts.length:Int)>0
  ·refine go ?_;refine VR ?_;refine go ?_;refine zB0 ?_;refine gr ?_;exact bad.out 0 (fun q=>by have q1:(T.getD (F.getD f.toNat default).sig.toNat default).parts=[]:=(q.2.1 f0).1;rw[q1]at hpl;simp at hpl) e04
  ·have hpn:(T.getD (F.getD f.toNat default).sig.toNat default).parts=[]:=GH (by omega);refine go ?_;refine WO.bl [(T.getD (F.getD f.toNat default).sig.toNat default).elem] ?_;intro v5 h5 e5 o5;refine go ?_;refine VA (yr h5 1 v5 [(T.getD (F.getD f.toNat default).sig.toNat default).elem] (M4.ext e5) o5.sl (by simp) (fun t ht=>by rw[Qe.1 ht];exact .inr ⟨Z.el.1,Z.el.2.1⟩)) ?_;rintro _ h6 ⟨rfl,e6⟩;rw[yx];cases c1:BG T 1 (T.getD (F.getD f.toNat default).sig.toNat default).elem with
   |false=>
    refine go ?_;refine VR ?_;refine go ?_;refine zB0 ?_;refine gr ?_;exact bad.out 0 (fun q=>by have q1:BG T 1 (T.getD (F.getD f.toNat default).sig.toNat default).elem=true:=(q.2.1 f0).2;rw[q1]at c1;cases c1) (e04.trans (e5.trans e6))
   |true=>
    refine go ?_;exact zD ⟨e5.trans e6,hr,fun _=>⟨hpn,c1⟩⟩
 rintro t h5 hsame ⟨e5,hr,hmain⟩;have hway:=hra.1 hr;have hin:∀ c,Wr (W0 (zp F f)) 0 c->0<=c/\c<((zp F f).length:Int):=fun c w=>by
  induction w with
  |here=>omega
  |step _ hm ih=>exact Z.nx _ ih _ hm
 have G:Gr F f (W0 (zp F f)) xs (psF T F f) (zp F f):=⟨hf,rfl,hn16,hR,hway,hin,Z.pl⟩;have hil:∀ i,i<(zp F f).length->((zp F f).getD i default).ins.length<=1000:=fun i hi=>E.sm.ins _ (zL (l:=F) (i:=f.toNat) (by omega)) _ (zL (l:=zp F f) hi);have sb5:=BN.ext sb4 e5;have sf5:=W7.ext sf4 e5;have o5:=o4.ext e5;have pc5:=(pc _ (e4.trans e5)).1;have M5:BK h5 g vt vf T F f (ksF T F f) (psF T F f) (YB xs (zp F f).length):=M4.ext e5;have E5:=E4.ext e5;have e05:=e04.trans e5;replace hway:=Wu.mk hway;replace hin:=Wu.mk hin;replace hil:=Wu.mk hil;clear pc sb4 sf4 st4 sat4 o4 M4 E4 or4 o8 orr E3 E2 E1;refine go ?_;refine VE (fun i=>(zp F f).length-i) (fun i t h'=>WK h5 h'/\zC t 68=I i/\i<=(zp F f).length/\Wu (∀ b:Int,0<=b->b<(i:Int)->zPQ T F f b)) 0 ?_ ?_
 ·exact⟨WK.refl _,WM,QU _,⟨fun b b0 b1=>by omega⟩⟩
 rintro i t6 h6 hsame6 ⟨e6,s68,hi,hI⟩;have M6:=M5.ext e6;have e06:=e05.trans e6;refine go ?_;refine VD (fun hb=> ?_) (fun hb=> ?_)<;>simp only[DB]at hb
 ·have hi':i<(zp F f).length:=by omega
  refine go ?_;refine VA (zKo h6 i M6 G (E5.ext e6) Z.hc Z.ks Z.sigF Z.sig Z.len Z.U Z.V ⟨by omega,by omega⟩ (by rw[Q7];exact hil.out i hi')) ?_;have hP:(YD T F f (i:Int)).1=zV (zp F f) i (zp F f).length:=by
   have:=Z.bl i (by omega) (by omega);unfold YD;rw[this];rfl
  rw[hP];rintro q h7 ⟨hq,e7⟩;rcases hq with⟨rfl,hq1,hq2⟩|⟨rfl,hq⟩
  ·refine go ?_;simp only[Q9,QS];refine go ?_;refine zA (i+1) (by omega) ⟨e6.trans e7,BF,by omega,⟨fun b b0 b1=> ?_⟩⟩;by_cases hbi:b=i
   ·subst hbi;exact⟨hq1,hq2⟩
   ·exact hI.out b b0 (by omega)
  ·unfold B7;refine go ?_;simp only[Q9,Qa];refine gr ?_;exact bad.out i (fun q=>hq (q.2.2 i (by omega) (by omega))) (e06.trans e7)
 ·have hii:i=(zp F f).length:=by omega
  refine gr ?_;exact⟨.inl ⟨rfl,hway.out,hmain,fun b b0 b1=>hI.out b b0 (by omega)⟩,e06⟩
end Go.Proofs.YtmilpkdhbdgjfaaGreatDoor
