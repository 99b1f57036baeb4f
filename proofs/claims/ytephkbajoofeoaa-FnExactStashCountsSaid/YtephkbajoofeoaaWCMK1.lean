/- -/
import Derived.Test.YtephkbajoofeoaaWCGF
namespace Go.Proofs.Ytephkbajoofeoaa.Am
open Go Go.RowKit Go.Proofs.Ytephkbajoofeoaa
set_option linter.all false
noncomputable section
variable (K:TRes→Prop)
def YB (t:Int × (List Int)):TRes:=⟨(zci t.1),[],[],true,[(.sl 0 [TI] (.dp 0 false []) t.2)]⟩
def Yy:TRow:=Qm 69 [(.d [TI]),(.c TI)] fun x=>(none,YB (Qg (α:=List Int) x.1 x.2.1))
def Qbz:TTab:=⟨[],true⟩
def Qkr:TCode :=
 (zsq [(zsq [(.reg [zmv 6 5,zmv 7 0,zle 8 7,zbi 9 .lss 6 8]),(.cond 9 .skip (.exit 0))]),(.block 1 (zsq [(.reg [zmv 12 0,zmv 13 5,zmv 14 1,zia 15 12 13 [TI],zst 15 14 1]),(.reg [zmv 16 1,zbi 17 .add 16 (zki 1),zmv 1 17])])),(.reg [zmv 10 5,zbi 11 .add 10 (zki 1),zmv 5 11])])
def Qjt:List (Nat × Md):=[(0,.one .f),(1,.one .d),(5,.one .d)]
def Qk0:TCode :=
 (zsq [(.reg [zmv 18 1,zmv 4 18]),.ret])
def Qqo:TCode :=
 (zsq [(.reg [zmv 4 (zki 0)]),(zsq [(.reg [zmv 5 (zki 0)]),(.block 0 (.loop Qjt Qkr))]),Qk0])
def Qin:List (ARv × Md):=[(.t 4,.one .d)]
def Qky:Qb:=TQ 0 1 Qin K
def QqZ:Qb:=Qseq (tawp Qbz 1 Qk0 (Qky K)) (Qky K)
def QnD:Qb:=Qblk 0 (QqZ K)
def Qbv (a:List Int) (k1:Int) (i:Int) (a1:List Int):Prop:=Loop Qbz 1 Qjt Qkr (QnD K) ⟨[(0,(.r [TI] 0 0 a.length)),(1,(zci k1)),(5,(zci i))],[(0,(.sl 0 [TI] (.dp 0 false []) a1))],1⟩
theorem Qmt (a:List Int) (k1:Int) (i:Int) (a1:List Int) (h :
 (zif (decide (i<((a.length:Nat):Int))) ((((0:Int)≤i∧Int.toNat i<a.length)∧((0+(Int.toNat i))<a1.length))∧(Qbv K a (w64 (k1+(1:Int))) (w64 (i+(1:Int))) ((a1).set (0+(Int.toNat i)) k1))) (K (YB (k1,a1))))):Qbv K a k1 i a1 :=
 Loop.of (by kernel_rfl) h
theorem Qoo (a:List Int) (k:Int) (h :
 (Qbv K a k 0 a)):Hold (tawp Qbz (0+1) Qqo (TQ 0 1 Qin K) (Ql [(.ow 0 [TI] dw a),(.c TI k)])) :=
 Hold.of (by kernel_rfl) h
theorem Qpu (a:List Int) (k:Int):TCon Try.prog 69 [(.ow 0 [TI] dw a),(.c TI k)] (YB (Qg (α:=List Int) a k)):=by
 refine Qq rfl fun hb=>tcg (Γ:=Qbz) (n:=19) (sg:=Yy.sg) Qp TOkL.nil (by kernel_rfl) (by kernel_rfl) (Qoo _ a k ?_)
 have hl_a:a.length≤9223372036854775807:=hb.1.1
 refine Yd (A:=fun kk ii ll=>Qbv (fun r'=>r'=YB (Qg (α:=List Int) a k)) a kk ii ll) (Q:=fun z=>YB z=YB (Qg (α:=List Int) a k)) a k ?_ ?_ rfl
 ·intro kk pre post x hl hA
  have hlt:pre.length<a.length:=by omega
  have hw:w64 (((pre.length:Nat):Int)+1)=((pre.length+1:Nat):Int):=by rw [QO (by omega) (by omega)];omega
  refine Qmt (fun r'=>r'=YB (Qg (α:=List Int) a k)) a kk ((pre.length:Nat):Int) (pre++x::post) ?_
  refine ⟨fun _=>?_,fun h=>absurd h (by simp;omega)⟩
  simp only [Int.toNat_natCast,Nat.zero_add,ZV,Ya,Zy,Yi,hw,lt_f,hlt,ZM,and_true,true_and,Int.natCast_nonneg]
  exact hA
 ·intro kk l hl hq
  refine Qmt (fun r'=>r'=YB (Qg (α:=List Int) a k)) a kk ((a.length:Nat):Int) l ?_
  exact ⟨fun h=>absurd h (by simp),fun _=>hq⟩
theorem J5:Qo Try.prog Yy:=Qr fun x _=>Qpu x.1 x.2.1
def Z5 (t:Int):TRes:=zre (zci t)
def QdN:TRow:=Qm 70 [(.c (.sl [TI])),(.c TI)] fun x=>(some (Zp (α:=List Int) x.1 x.2.1),Z5 (m_held (α:=List Int) x.1 x.2.1))
def QcD:TTab:=⟨[],false⟩
def Ql1:TCode :=
 (zsq [(zsq [(.reg [zmv 6 5,zmv 7 0,zle 8 7,zbi 9 .lss 6 8]),(.cond 9 .skip (.exit 0))]),(.block 1 (zsq [(zsq [(.reg [zmv 12 0,zmv 13 5,zia 14 12 13 [TI],zld 15 14 1,zmv 16 1,zbi 17 .neq 15 16]),(.cond 17 (zsq [(.reg [zmv 4 (zki (-1))]),.ret]) .skip)]),(.reg [zmv 18 1,zbi 19 .add 18 (zki 1),zmv 1 19])])),(.reg [zmv 10 5,zbi 11 .add 10 (zki 1),zmv 5 11])])
def Qjs:List (Nat × Md):=zdl [0,1,5]
def Qgl:TCode :=
 (zsq [(.reg [zmv 20 1,zmv 4 20]),.ret])
def QnR:TCode :=
 (zsq [(.reg [zmv 4 (zki 0)]),(zsq [(.reg [zmv 5 (zki 0)]),(.block 0 (.loop Qjs Ql1))]),Qgl])
def Qlv:List (ARv × Md):=[(.t 4,.one .d)]
def Qiq:Qb:=TQ 0 0 Qlv K
def Qr8:Qb:=Qseq (tawp QcD 0 Qgl (Qiq K)) (Qiq K)
def Qse:Qb:=Qblk 0 (Qr8 K)
def QcZ (a:List Int) (k1:Int) (i:Int):Prop:=Loop QcD 0 Qjs Ql1 (Qse K) ⟨[(0,(zcs [TI] a)),(1,(zci k1)),(5,(zci i))],[],0⟩
theorem Qm6 (a:List Int) (k1:Int) (i:Int) (h :
 (zif (decide (i<(a.length:Int))) (((0:Int)≤i∧Int.toNat i<a.length)∧(zif ((gtd (0:Int) a (Int.toNat i)) != k1) (K (Z5 (-1:Int))) (QcZ K a (w64 (k1+(1:Int))) (w64 (i+(1:Int)))))) (K (Z5 k1)))):QcZ K a k1 i :=
 Loop.of (by kernel_rfl) h
theorem Qwd (a:List Int) (k:Int) (h :
 (QcZ K a k 0)):Hold (tawp QcD (0+0) QnR (TQ 0 0 Qlv K) (Ql [(.c (.sl [TI]) a),(.c TI k)])) :=
 Hold.of (by kernel_rfl) h
theorem Qr7 (a:List Int) (k:Int) (hp:Zp (α:=List Int) a k):TCon Try.prog 70 [(.c (.sl [TI]) a),(.c TI k)] (Z5 (m_held (α:=List Int) a k)):=by
 refine Qq rfl fun hb=>tcg (Γ:=QcD) (n:=21) (sg:=QdN.sg) Qp TOkL.nil (by kernel_rfl) (by kernel_rfl) (Qwd _ a k ?_)
 have hl_a:a.length≤9223372036854775807:=hb.1.1
 refine QnV (A:=fun kk ii=>QcZ (fun r'=>r'=Z5 (m_held (α:=List Int) a k)) a kk ii) (Q:=fun z=>Z5 z=Z5 (m_held (α:=List Int) a k)) a k hp ?_ ?_ rfl
 ·intro kk pre post x ha hpx hneg hpos
  have hlt:pre.length<a.length:=by rw [ha];simp
  have hg:∀ d,gtd d a pre.length=x:=fun d=>by rw [ha];exact Zy d pre post x
  have hw:w64 (((pre.length:Nat):Int)+1)=((pre.length+1:Nat):Int):=by rw [QO (by omega) (by omega)];omega
  refine Qm6 (fun r'=>r'=Z5 (m_held (α:=List Int) a k)) a kk ((pre.length:Nat):Int) ?_
  refine ⟨fun _=>?_,fun h=>absurd h (by simp;omega)⟩
  simp only [Int.toNat_natCast,hg,hw,hlt,ZM,and_true,true_and,Int.natCast_nonneg]
  simp only [QvI,Qss,QsL,Prod.ext_iff] at hneg hpos
  refine ⟨fun h=>hneg (fun e=>Qqr h (e).symm),fun h0=>?_⟩
  have e0:=(QvM h0).symm
  exact hpos e0
 ·intro kk hq
  refine Qm6 (fun r'=>r'=Z5 (m_held (α:=List Int) a k)) a kk ((a.length:Nat):Int) ?_
  exact ⟨fun h=>absurd h (by simp),fun _=>hq⟩
theorem Qpx:Qo Try.prog QdN:=Qr fun x h=>Qr7 x.1 x.2.1 h
def Yr (t:Int × (List (List Int))):TRes:=⟨(zci t.1),[],[],true,[(.sl 0 [(.sl [TI])] (.dp 0 false []) t.2)]⟩
def Qbj:TRow:=Qm 161 [(.d [(.sl [TI])]),(.c TI)] fun x=>(none,Yr (Qg (α:=List (List Int)) x.1 x.2.1))
def Qcj:TTab:=⟨[Yy],true⟩
def QgX:TCode :=
 (zsq [(zsq [(.reg [zmv 6 5,zmv 7 0,zle 8 7,zbi 9 .lss 6 8]),(.cond 9 .skip (.exit 0))]),(.block 1 (.reg [zmv 12 0,zmv 13 5,zia 14 12 13 [(.sl [TI])],zfa 15 14 0,zld 16 15 1,zmv 17 1,zca 18 69 [16,17],zmv 1 18])),(.reg [zmv 10 5,zbi 11 .add 10 (zki 1),zmv 5 11])])
def Qju:List (Nat × Md):=[(0,.one .f),(1,.one .d),(5,.one .d)]
def QgV:TCode :=
 (zsq [(.reg [zmv 19 1,zmv 4 19]),.ret])
def Qrf:TCode :=
 (zsq [(.reg [zmv 4 (zki 0)]),(zsq [(.reg [zmv 5 (zki 0)]),(.block 0 (.loop Qju QgX))]),QgV])
def Qmb:List (ARv × Md):=[(.t 4,.one .d)]
def Qlq:Qb:=TQ 0 1 Qmb K
def Qpz:Qb:=Qseq (tawp Qcj 1 QgV (Qlq K)) (Qlq K)
def QtW:Qb:=Qblk 0 (Qpz K)
def QbH (a:List (List Int)) (k1:Int) (i:Int) (a1:List (List Int)):Prop:=Loop Qcj 1 Qju QgX (QtW K) ⟨[(0,(.r [(.sl [TI])] 0 0 a.length)),(1,(zci k1)),(5,(zci i))],[(0,(.sl 0 [(.sl [TI])] (.dp 0 false []) a1))],1⟩
theorem QkP (a:List (List Int)) (k1:Int) (i:Int) (a1:List (List Int)) (h :
 (zif (decide (i<((a.length:Nat):Int))) ((((0:Int)≤i∧Int.toNat i<a.length)∧(((0+(Int.toNat i))<a1.length)∧((0+(Int.toNat i))<a1.length)))∧(QbH K a ((nst ([]:List Int) (0+(Int.toNat i)) (fun e_=>e_) (fun e_ y_=>y_) (Qg (α:=List Int)) (k1,a1)).1) (w64 (i+(1:Int))) ((nst ([]:List Int) (0+(Int.toNat i)) (fun e_=>e_) (fun e_ y_=>y_) (Qg (α:=List Int)) (k1,a1)).2))) (K (Yr (k1,a1))))):QbH K a k1 i a1 :=
 Loop.of (by kernel_rfl) h
theorem Qsh (a:List (List Int)) (k:Int) (h :
 (QbH K a k 0 a)):Hold (tawp Qcj (0+1) Qrf (TQ 0 1 Qmb K) (Ql [(.ow 0 [(.sl [TI])] dw a),(.c TI k)])) :=
 Hold.of (by kernel_rfl) h
theorem Qp5 (a:List (List Int)) (k:Int):TCon Try.prog 161 [(.ow 0 [(.sl [TI])] dw a),(.c TI k)] (Yr (Qg (α:=List (List Int)) a k)):=by
 refine Qq rfl fun hb=>tcg (Γ:=Qcj) (n:=20) (sg:=Qbj.sg) Qp (TOkL.cons J5 TOkL.nil) (by kernel_rfl) (by kernel_rfl) (Qsh _ a k ?_)
 have hl_a:a.length≤9223372036854775807:=hb.1.1
 refine Yd (A:=fun kk ii ll=>QbH (fun r'=>r'=Yr (Qg (α:=List (List Int)) a k)) a kk ii ll) (Q:=fun z=>Yr z=Yr (Qg (α:=List (List Int)) a k)) a k ?_ ?_ rfl
 ·intro kk pre post x hl hA
  have hlt:pre.length<a.length:=by omega
  have hw:w64 (((pre.length:Nat):Int)+1)=((pre.length+1:Nat):Int):=by rw [QO (by omega) (by omega)];omega
  refine QkP (fun r'=>r'=Yr (Qg (α:=List (List Int)) a k)) a kk ((pre.length:Nat):Int) (pre++x::post) ?_
  refine ⟨fun _=>?_,fun h=>absurd h (by simp;omega)⟩
  simp only [Int.toNat_natCast,Nat.zero_add,ZV,Ya,Zy,Yi,hw,lt_f,hlt,ZM,and_true,true_and,Int.natCast_nonneg]
  exact hA
 ·intro kk l hl hq
  refine QkP (fun r'=>r'=Yr (Qg (α:=List (List Int)) a k)) a kk ((a.length:Nat):Int) l ?_
  exact ⟨fun h=>absurd h (by simp),fun _=>hq⟩
theorem Qmu:Qo Try.prog Qbj:=Qr fun x _=>Qp5 x.1 x.2.1
def Yt (t:Int × (List TIns)):TRes:=⟨(zci t.1),[],[],true,[(.sl 0 QB (.dp 0 false []) t.2)]⟩
def Qdn:TRow:=Qm 20 [(.d QB),(.c TI)] fun x=>(none,Yt (Qg (α:=List TIns) x.1 x.2.1))
def QcJ:TTab:=⟨[],true⟩
def QiU:TCode :=
 (zsq [(zsq [(.reg [zmv 6 5,zmv 7 0,zle 8 7,zbi 9 .lss 6 8]),(.cond 9 .skip (.exit 0))]),(.block 1 (zsq [(.reg [zmv 12 0,zmv 13 5,zmv 14 1,zia 15 12 13 QB,zfa 16 15 0,zst 16 14 1]),(.reg [zmv 17 1,zbi 18 .add 17 (zki 1),zmv 1 18]),(.reg [zmv 19 0,zmv 20 5,zmv 21 1,zia 22 19 20 QB,zfa 23 22 1,zst 23 21 1]),(.reg [zmv 24 1,zbi 25 .add 24 (zki 1),zmv 1 25])])),(.reg [zmv 10 5,zbi 11 .add 10 (zki 1),zmv 5 11])])
def Qhf:List (Nat × Md):=[(0,.one .f),(1,.one .d),(5,.one .d)]
def Qke:TCode :=
 (zsq [(.reg [zmv 26 1,zmv 4 26]),.ret])
def QuB:TCode :=
 (zsq [(.reg [zmv 4 (zki 0)]),(zsq [(.reg [zmv 5 (zki 0)]),(.block 0 (.loop Qhf QiU))]),Qke])
def QlC:List (ARv × Md):=[(.t 4,.one .d)]
def Qjo:Qb:=TQ 0 1 QlC K
def Qwt:Qb:=Qseq (tawp QcJ 1 Qke (Qjo K)) (Qjo K)
def QuD:Qb:=Qblk 0 (Qwt K)
def Qcn (a:List TIns) (k1:Int) (i:Int) (a1:List TIns):Prop:=Loop QcJ 1 Qhf QiU (QuD K) ⟨[(0,(.r QB 0 0 a.length)),(1,(zci k1)),(5,(zci i))],[(0,(.sl 0 QB (.dp 0 false []) a1))],1⟩
theorem QhY (a:List TIns) (k1:Int) (i:Int) (a1:List TIns) (h :
 (zif (decide (i<((a.length:Nat):Int))) ((((0:Int)≤i∧Int.toNat i<a.length)∧((0+(Int.toNat i))<a1.length))∧((((0:Int)≤i∧Int.toNat i<a.length)∧((0+(Int.toNat i))<((sst dIns (0+(Int.toNat i)) (fun e_ k_=>(k_,e_.2)) (k1,a1)).2).length))∧(Qcn K a (w64 ((w64 (k1+(1:Int)))+(1:Int))) (w64 (i+(1:Int))) ((sst dIns (0+(Int.toNat i)) (fun e_ k_=>(e_.1,k_)) (sst dIns (0+(Int.toNat i)) (fun e_ k_=>(k_,e_.2)) (k1,a1))).2)))) (K (Yt (k1,a1))))):Qcn K a k1 i a1 :=
 Loop.of (by kernel_rfl) h
theorem QnK (a:List TIns) (k:Int) (h :
 (Qcn K a k 0 a)):Hold (tawp QcJ (0+1) QuB (TQ 0 1 QlC K) (Ql [(.ow 0 QB dw a),(.c TI k)])) :=
 Hold.of (by kernel_rfl) h
theorem QtN (a:List TIns) (k:Int):TCon Try.prog 20 [(.ow 0 QB dw a),(.c TI k)] (Yt (Qg (α:=List TIns) a k)):=by
 refine Qq rfl fun hb=>tcg (Γ:=QcJ) (n:=27) (sg:=Qdn.sg) Qp TOkL.nil (by kernel_rfl) (by kernel_rfl) (QnK _ a k ?_)
 have hl_a:a.length≤9223372036854775807:=hb.1.1
 refine Yd (A:=fun kk ii ll=>Qcn (fun r'=>r'=Yt (Qg (α:=List TIns) a k)) a kk ii ll) (Q:=fun z=>Yt z=Yt (Qg (α:=List TIns) a k)) a k ?_ ?_ rfl
 ·intro kk pre post x hl hA
  have hlt:pre.length<a.length:=by omega
  have hw:w64 (((pre.length:Nat):Int)+1)=((pre.length+1:Nat):Int):=by rw [QO (by omega) (by omega)];omega
  refine QhY (fun r'=>r'=Yt (Qg (α:=List TIns) a k)) a kk ((pre.length:Nat):Int) (pre++x::post) ?_
  refine ⟨fun _=>?_,fun h=>absurd h (by simp;omega)⟩
  simp only [Int.toNat_natCast,Nat.zero_add,ZV,Ya,Zy,Yi,hw,lt_f,hlt,ZM,and_true,true_and,Int.natCast_nonneg]
  exact hA
 ·intro kk l hl hq
  refine QhY (fun r'=>r'=Yt (Qg (α:=List TIns) a k)) a kk ((a.length:Nat):Int) l ?_
  exact ⟨fun h=>absurd h (by simp),fun _=>hq⟩
theorem Qql:Qo Try.prog Qdn:=Qr fun x _=>QtN x.1 x.2.1
def YD (t:Int × (List Qe)):TRes:=⟨(zci t.1),[],[],true,[(.sl 0 Qv (.dp 0 false []) t.2)]⟩
def QdY:TRow:=Qm 129 [(.d Qv),(.c TI)] fun x=>(none,YD (Qg (α:=List Qe) x.1 x.2.1))
def QbS:TTab:=⟨[Yy],true⟩
def QkN:TCode :=
 (zsq [(zsq [(.reg [zmv 6 5,zmv 7 0,zle 8 7,zbi 9 .lss 6 8]),(.cond 9 .skip (.exit 0))]),(.block 1 (zsq [(.reg [zmv 12 0,zmv 13 5,zmv 14 1,zia 15 12 13 Qv,zfa 16 15 0,zst 16 14 1]),(.reg [zmv 17 1,zbi 18 .add 17 (zki 1),zmv 1 18]),(.reg [zmv 19 0,zmv 20 5,zia 21 19 20 Qv,zfa 22 21 1,zld 23 22 1,zmv 24 1,zca 25 69 [23,24],zmv 1 25])])),(.reg [zmv 10 5,zbi 11 .add 10 (zki 1),zmv 5 11])])
def QmD:List (Nat × Md):=[(0,.one .f),(1,.one .d),(5,.one .d)]
def Qkl:TCode :=
 (zsq [(.reg [zmv 26 1,zmv 4 26]),.ret])
def QwT:TCode :=
 (zsq [(.reg [zmv 4 (zki 0)]),(zsq [(.reg [zmv 5 (zki 0)]),(.block 0 (.loop QmD QkN))]),Qkl])
def QlD:List (ARv × Md):=[(.t 4,.one .d)]
def Qlr:Qb:=TQ 0 1 QlD K
def Qs6:Qb:=Qseq (tawp QbS 1 Qkl (Qlr K)) (Qlr K)
def Qol:Qb:=Qblk 0 (Qs6 K)
def Qbs (a:List Qe) (k1:Int) (i:Int) (a1:List Qe):Prop:=Loop QbS 1 QmD QkN (Qol K) ⟨[(0,(.r Qv 0 0 a.length)),(1,(zci k1)),(5,(zci i))],[(0,(.sl 0 Qv (.dp 0 false []) a1))],1⟩
theorem QlO (a:List Qe) (k1:Int) (i:Int) (a1:List Qe) (h :
 (zif (decide (i<((a.length:Nat):Int))) ((((0:Int)≤i∧Int.toNat i<a.length)∧((0+(Int.toNat i))<a1.length))∧((((0:Int)≤i∧Int.toNat i<a.length)∧(((0+(Int.toNat i))<((sst ((0,[]):Qe) (0+(Int.toNat i)) (fun e_ k_=>(k_,e_.2)) (k1,a1)).2).length)∧((0+(Int.toNat i))<((sst ((0,[]):Qe) (0+(Int.toNat i)) (fun e_ k_=>(k_,e_.2)) (k1,a1)).2).length)))∧(Qbs K a ((nst ((0,[]):Qe) (0+(Int.toNat i)) (fun e_=>e_.2) (fun e_ y_=>(e_.1,y_)) (Qg (α:=List Int)) (sst ((0,[]):Qe) (0+(Int.toNat i)) (fun e_ k_=>(k_,e_.2)) (k1,a1))).1) (w64 (i+(1:Int))) ((nst ((0,[]):Qe) (0+(Int.toNat i)) (fun e_=>e_.2) (fun e_ y_=>(e_.1,y_)) (Qg (α:=List Int)) (sst ((0,[]):Qe) (0+(Int.toNat i)) (fun e_ k_=>(k_,e_.2)) (k1,a1))).2)))) (K (YD (k1,a1))))):Qbs K a k1 i a1 :=
 Loop.of (by kernel_rfl) h
theorem Qri (a:List Qe) (k:Int) (h :
 (Qbs K a k 0 a)):Hold (tawp QbS (0+1) QwT (TQ 0 1 QlD K) (Ql [(.ow 0 Qv dw a),(.c TI k)])) :=
 Hold.of (by kernel_rfl) h
theorem QrU (a:List Qe) (k:Int):TCon Try.prog 129 [(.ow 0 Qv dw a),(.c TI k)] (YD (Qg (α:=List Qe) a k)):=by
 refine Qq rfl fun hb=>tcg (Γ:=QbS) (n:=27) (sg:=QdY.sg) Qp (TOkL.cons J5 TOkL.nil) (by kernel_rfl) (by kernel_rfl) (Qri _ a k ?_)
 have hl_a:a.length≤9223372036854775807:=hb.1.1
 refine Yd (A:=fun kk ii ll=>Qbs (fun r'=>r'=YD (Qg (α:=List Qe) a k)) a kk ii ll) (Q:=fun z=>YD z=YD (Qg (α:=List Qe) a k)) a k ?_ ?_ rfl
 ·intro kk pre post x hl hA
  have hlt:pre.length<a.length:=by omega
  have hw:w64 (((pre.length:Nat):Int)+1)=((pre.length+1:Nat):Int):=by rw [QO (by omega) (by omega)];omega
  refine QlO (fun r'=>r'=YD (Qg (α:=List Qe) a k)) a kk ((pre.length:Nat):Int) (pre++x::post) ?_
  refine ⟨fun _=>?_,fun h=>absurd h (by simp;omega)⟩
  simp only [Int.toNat_natCast,Nat.zero_add,ZV,Ya,Zy,Yi,hw,lt_f,hlt,ZM,and_true,true_and,Int.natCast_nonneg]
  exact hA
 ·intro kk l hl hq
  refine QlO (fun r'=>r'=YD (Qg (α:=List Qe) a k)) a kk ((a.length:Nat):Int) l ?_
  exact ⟨fun h=>absurd h (by simp),fun _=>hq⟩
theorem QtM:Qo Try.prog QdY:=Qr fun x _=>QrU x.1 x.2.1
def Ym (t:Int × (List TOp')):TRes:=⟨(zci t.1),[],[],true,[(.sl 0 ctOp (.dp 0 false []) t.2)]⟩
def QdS:TRow:=Qm 88 [(.d ctOp),(.c TI)] fun x=>(none,Ym (Qg (α:=List TOp') x.1 x.2.1))
def QbL:TTab:=⟨[Yy],true⟩
def Qmg:TCode :=
 (zsq [(zsq [(.reg [zmv 6 5,zmv 7 0,zle 8 7,zbi 9 .lss 6 8]),(.cond 9 .skip (.exit 0))]),(.block 1 (zsq [(.reg [zmv 12 0,zmv 13 5,zmv 14 1,zia 15 12 13 ctOp,zfa 16 15 0,zst 16 14 1]),(.reg [zmv 17 1,zbi 18 .add 17 (zki 1),zmv 1 18]),(.reg [zmv 19 0,zmv 20 5,zmv 21 1,zia 22 19 20 ctOp,zfa 23 22 1,zst 23 21 1]),(.reg [zmv 24 1,zbi 25 .add 24 (zki 1),zmv 1 25]),(.reg [zmv 26 0,zmv 27 5,zmv 28 1,zia 29 26 27 ctOp,zfa 30 29 2,zst 30 28 1]),(.reg [zmv 31 1,zbi 32 .add 31 (zki 1),zmv 1 32]),(.reg [zmv 33 0,zmv 34 5,zia 35 33 34 ctOp,zfa 36 35 3,zld 37 36 1,zmv 38 1,zca 39 69 [37,38],zmv 1 39])])),(.reg [zmv 10 5,zbi 11 .add 10 (zki 1),zmv 5 11])])
def Qk8:List (Nat × Md):=[(0,.one .f),(1,.one .d),(5,.one .d)]
def Qhn:TCode :=
 (zsq [(.reg [zmv 40 1,zmv 4 40]),.ret])
def Qv8:TCode :=
 (zsq [(.reg [zmv 4 (zki 0)]),(zsq [(.reg [zmv 5 (zki 0)]),(.block 0 (.loop Qk8 Qmg))]),Qhn])
def Qht:List (ARv × Md):=[(.t 4,.one .d)]
def Qli:Qb:=TQ 0 1 Qht K
def QuH:Qb:=Qseq (tawp QbL 1 Qhn (Qli K)) (Qli K)
def Qpo:Qb:=Qblk 0 (QuH K)
def Qc1 (a:List TOp') (k1:Int) (i:Int) (a1:List TOp'):Prop:=Loop QbL 1 Qk8 Qmg (Qpo K) ⟨[(0,(.r ctOp 0 0 a.length)),(1,(zci k1)),(5,(zci i))],[(0,(.sl 0 ctOp (.dp 0 false []) a1))],1⟩
theorem QjJ (a:List TOp') (k1:Int) (i:Int) (a1:List TOp') (h :
 let z2:=sst dOp (0+(Int.toNat i)) (fun e_ k_=>(k_,e_.2.1,e_.2.2.1,e_.2.2.2)) (k1,a1)
 let z4:=sst dOp (0+(Int.toNat i)) (fun e_ k_=>(e_.1,k_,e_.2.2.1,e_.2.2.2)) z2
 let z1:=sst dOp (0+(Int.toNat i)) (fun e_ k_=>(e_.1,e_.2.1,k_,e_.2.2.2)) z4
 let z3:=nst dOp (0+(Int.toNat i)) (fun e_=>e_.2.2.2) (fun e_ y_=>(e_.1,e_.2.1,e_.2.2.1,y_)) (Qg (α:=List Int)) z1
 (zif (decide (i<((a.length:Nat):Int))) ((((0:Int)≤i∧Int.toNat i<a.length)∧((0+(Int.toNat i))<a1.length))∧((((0:Int)≤i∧Int.toNat i<a.length)∧((0+(Int.toNat i))<(z2.2).length))∧((((0:Int)≤i∧Int.toNat i<a.length)∧((0+(Int.toNat i))<(z4.2).length))∧((((0:Int)≤i∧Int.toNat i<a.length)∧(((0+(Int.toNat i))<(z1.2).length)∧((0+(Int.toNat i))<(z1.2).length)))∧(Qc1 K a (z3.1) (w64 (i+(1:Int))) (z3.2)))))) (K (Ym (k1,a1))))):Qc1 K a k1 i a1 :=
 Loop.of (by kernel_rfl) h
theorem Qnu (a:List TOp') (k:Int) (h :
 (Qc1 K a k 0 a)):Hold (tawp QbL (0+1) Qv8 (TQ 0 1 Qht K) (Ql [(.ow 0 ctOp dw a),(.c TI k)])) :=
 Hold.of (by kernel_rfl) h
theorem Qth (a:List TOp') (k:Int):TCon Try.prog 88 [(.ow 0 ctOp dw a),(.c TI k)] (Ym (Qg (α:=List TOp') a k)):=by
 refine Qq rfl fun hb=>tcg (Γ:=QbL) (n:=41) (sg:=QdS.sg) Qp (TOkL.cons J5 TOkL.nil) (by kernel_rfl) (by kernel_rfl) (Qnu _ a k ?_)
 have hl_a:a.length≤9223372036854775807:=hb.1.1
 refine Yd (A:=fun kk ii ll=>Qc1 (fun r'=>r'=Ym (Qg (α:=List TOp') a k)) a kk ii ll) (Q:=fun z=>Ym z=Ym (Qg (α:=List TOp') a k)) a k ?_ ?_ rfl
 ·intro kk pre post x hl hA
  have hlt:pre.length<a.length:=by omega
  have hw:w64 (((pre.length:Nat):Int)+1)=((pre.length+1:Nat):Int):=by rw [QO (by omega) (by omega)];omega
  refine QjJ (fun r'=>r'=Ym (Qg (α:=List TOp') a k)) a kk ((pre.length:Nat):Int) (pre++x::post) ?_
  conv=>zeta
  refine ⟨fun _=>?_,fun h=>absurd h (by simp;omega)⟩
  simp only [Int.toNat_natCast,Nat.zero_add,ZV,Ya,Zy,Yi,hw,lt_f,hlt,ZM,and_true,true_and,Int.natCast_nonneg]
  exact hA
 ·intro kk l hl hq
  refine QjJ (fun r'=>r'=Ym (Qg (α:=List TOp') a k)) a kk ((a.length:Nat):Int) l ?_
  conv=>zeta
  exact ⟨fun h=>absurd h (by simp),fun _=>hq⟩
theorem Qqu:Qo Try.prog QdS:=Qr fun x _=>Qth x.1 x.2.1
def YH (t:Int × (List Qd)):TRes:=⟨(zci t.1),[],[],true,[(.sl 0 Qw (.dp 0 false []) t.2)]⟩
def QdW:TRow:=Qm 174 [(.d Qw),(.c TI)] fun x=>(none,YH (Qg (α:=List Qd) x.1 x.2.1))
def QcP:TTab:=⟨[Yy],true⟩
def QmG:TCode :=
 (zsq [(zsq [(.reg [zmv 6 5,zmv 7 0,zle 8 7,zbi 9 .lss 6 8]),(.cond 9 .skip (.exit 0))]),(.block 1 (zsq [(.reg [zmv 12 0,zmv 13 5,zia 14 12 13 Qw,zfa 15 14 0,zld 16 15 1,zmv 17 1,zca 18 69 [16,17],zmv 1 18]),(.reg [zmv 19 0,zmv 20 5,zia 21 19 20 Qw,zfa 22 21 1,zld 23 22 1,zmv 24 1,zca 25 69 [23,24],zmv 1 25])])),(.reg [zmv 10 5,zbi 11 .add 10 (zki 1),zmv 5 11])])
def Qib:List (Nat × Md):=[(0,.one .f),(1,.one .d),(5,.one .d)]
def Qlc:TCode :=
 (zsq [(.reg [zmv 26 1,zmv 4 26]),.ret])
def Qp3:TCode :=
 (zsq [(.reg [zmv 4 (zki 0)]),(zsq [(.reg [zmv 5 (zki 0)]),(.block 0 (.loop Qib QmG))]),Qlc])
def Qg9:List (ARv × Md):=[(.t 4,.one .d)]
def QlV:Qb:=TQ 0 1 Qg9 K
def QqW:Qb:=Qseq (tawp QcP 1 Qlc (QlV K)) (QlV K)
def Qn4:Qb:=Qblk 0 (QqW K)
def Qbh (a:List Qd) (k1:Int) (i:Int) (a1:List Qd):Prop:=Loop QcP 1 Qib QmG (Qn4 K) ⟨[(0,(.r Qw 0 0 a.length)),(1,(zci k1)),(5,(zci i))],[(0,(.sl 0 Qw (.dp 0 false []) a1))],1⟩
theorem Qip (a:List Qd) (k1:Int) (i:Int) (a1:List Qd) (h :
 (zif (decide (i<((a.length:Nat):Int))) ((((0:Int)≤i∧Int.toNat i<a.length)∧(((0+(Int.toNat i))<a1.length)∧((0+(Int.toNat i))<a1.length)))∧((((0:Int)≤i∧Int.toNat i<a.length)∧(((0+(Int.toNat i))<((nst Q0 (0+(Int.toNat i)) (fun e_=>e_.1) (fun e_ y_=>(y_,e_.2)) (Qg (α:=List Int)) (k1,a1)).2).length)∧((0+(Int.toNat i))<((nst Q0 (0+(Int.toNat i)) (fun e_=>e_.1) (fun e_ y_=>(y_,e_.2)) (Qg (α:=List Int)) (k1,a1)).2).length)))∧(Qbh K a ((nst Q0 (0+(Int.toNat i)) (fun e_=>e_.2) (fun e_ y_=>(e_.1,y_)) (Qg (α:=List Int)) (nst Q0 (0+(Int.toNat i)) (fun e_=>e_.1) (fun e_ y_=>(y_,e_.2)) (Qg (α:=List Int)) (k1,a1))).1) (w64 (i+(1:Int))) ((nst Q0 (0+(Int.toNat i)) (fun e_=>e_.2) (fun e_ y_=>(e_.1,y_)) (Qg (α:=List Int)) (nst Q0 (0+(Int.toNat i)) (fun e_=>e_.1) (fun e_ y_=>(y_,e_.2)) (Qg (α:=List Int)) (k1,a1))).2)))) (K (YH (k1,a1))))):Qbh K a k1 i a1 :=
 Loop.of (by kernel_rfl) h
theorem Qtr (a:List Qd) (k:Int) (h :
 (Qbh K a k 0 a)):Hold (tawp QcP (0+1) Qp3 (TQ 0 1 Qg9 K) (Ql [(.ow 0 Qw dw a),(.c TI k)])) :=
 Hold.of (by kernel_rfl) h
theorem Qon (a:List Qd) (k:Int):TCon Try.prog 174 [(.ow 0 Qw dw a),(.c TI k)] (YH (Qg (α:=List Qd) a k)):=by
 refine Qq rfl fun hb=>tcg (Γ:=QcP) (n:=27) (sg:=QdW.sg) Qp (TOkL.cons J5 TOkL.nil) (by kernel_rfl) (by kernel_rfl) (Qtr _ a k ?_)
 have hl_a:a.length≤9223372036854775807:=hb.1.1
 refine Yd (A:=fun kk ii ll=>Qbh (fun r'=>r'=YH (Qg (α:=List Qd) a k)) a kk ii ll) (Q:=fun z=>YH z=YH (Qg (α:=List Qd) a k)) a k ?_ ?_ rfl
 ·intro kk pre post x hl hA
  have hlt:pre.length<a.length:=by omega
  have hw:w64 (((pre.length:Nat):Int)+1)=((pre.length+1:Nat):Int):=by rw [QO (by omega) (by omega)];omega
  refine Qip (fun r'=>r'=YH (Qg (α:=List Qd) a k)) a kk ((pre.length:Nat):Int) (pre++x::post) ?_
  refine ⟨fun _=>?_,fun h=>absurd h (by simp;omega)⟩
  simp only [Int.toNat_natCast,Nat.zero_add,ZV,Ya,Zy,Yi,hw,lt_f,hlt,ZM,and_true,true_and,Int.natCast_nonneg]
  exact hA
 ·intro kk l hl hq
  refine Qip (fun r'=>r'=YH (Qg (α:=List Qd) a k)) a kk ((a.length:Nat):Int) l ?_
  exact ⟨fun h=>absurd h (by simp),fun _=>hq⟩
theorem QrI:Qo Try.prog QdW:=Qr fun x _=>Qon x.1 x.2.1
def YG (t:Int × (List Qj)):TRes:=⟨(zci t.1),[],[],true,[(.sl 0 Qz (.dp 0 false []) t.2)]⟩
def Qd8:TRow:=Qm 160 [(.d Qz),(.c TI)] fun x=>(none,YG (Qg (α:=List Qj) x.1 x.2.1))
def QbD:TTab:=⟨[Qbj],true⟩
def Qjc:TCode :=
 (zsq [(zsq [(.reg [zmv 6 5,zmv 7 0,zle 8 7,zbi 9 .lss 6 8]),(.cond 9 .skip (.exit 0))]),(.block 1 (zsq [(.reg [zmv 12 0,zmv 13 5,zmv 14 1,zia 15 12 13 Qz,zfa 16 15 0,zst 16 14 1]),(.reg [zmv 17 1,zbi 18 .add 17 (zki 1),zmv 1 18]),(.reg [zmv 19 0,zmv 20 5,zia 21 19 20 Qz,zfa 22 21 1,zld 23 22 1,zmv 24 1,zca 25 161 [23,24],zmv 1 25])])),(.reg [zmv 10 5,zbi 11 .add 10 (zki 1),zmv 5 11])])
def QhH:List (Nat × Md):=[(0,.one .f),(1,.one .d),(5,.one .d)]
def QlH:TCode :=
 (zsq [(.reg [zmv 26 1,zmv 4 26]),.ret])
def QpO:TCode :=
 (zsq [(.reg [zmv 4 (zki 0)]),(zsq [(.reg [zmv 5 (zki 0)]),(.block 0 (.loop QhH Qjc))]),QlH])
def Qhg:List (ARv × Md):=[(.t 4,.one .d)]
def QiZ:Qb:=TQ 0 1 Qhg K
def QvL:Qb:=Qseq (tawp QbD 1 QlH (QiZ K)) (QiZ K)
def Qn3:Qb:=Qblk 0 (QvL K)
def Qbr (a:List Qj) (k1:Int) (i:Int) (a1:List Qj):Prop:=Loop QbD 1 QhH Qjc (Qn3 K) ⟨[(0,(.r Qz 0 0 a.length)),(1,(zci k1)),(5,(zci i))],[(0,(.sl 0 Qz (.dp 0 false []) a1))],1⟩
theorem Qig (a:List Qj) (k1:Int) (i:Int) (a1:List Qj) (h :
 (zif (decide (i<((a.length:Nat):Int))) ((((0:Int)≤i∧Int.toNat i<a.length)∧((0+(Int.toNat i))<a1.length))∧((((0:Int)≤i∧Int.toNat i<a.length)∧(((0+(Int.toNat i))<((sst Q4 (0+(Int.toNat i)) (fun e_ k_=>(k_,e_.2)) (k1,a1)).2).length)∧((0+(Int.toNat i))<((sst Q4 (0+(Int.toNat i)) (fun e_ k_=>(k_,e_.2)) (k1,a1)).2).length)))∧(Qbr K a ((nst Q4 (0+(Int.toNat i)) (fun e_=>e_.2) (fun e_ y_=>(e_.1,y_)) (Qg (α:=List (List Int))) (sst Q4 (0+(Int.toNat i)) (fun e_ k_=>(k_,e_.2)) (k1,a1))).1) (w64 (i+(1:Int))) ((nst Q4 (0+(Int.toNat i)) (fun e_=>e_.2) (fun e_ y_=>(e_.1,y_)) (Qg (α:=List (List Int))) (sst Q4 (0+(Int.toNat i)) (fun e_ k_=>(k_,e_.2)) (k1,a1))).2)))) (K (YG (k1,a1))))):Qbr K a k1 i a1 :=
 Loop.of (by kernel_rfl) h
theorem Qsm (a:List Qj) (k:Int) (h :
 (Qbr K a k 0 a)):Hold (tawp QbD (0+1) QpO (TQ 0 1 Qhg K) (Ql [(.ow 0 Qz dw a),(.c TI k)])) :=
 Hold.of (by kernel_rfl) h
theorem Qtl (a:List Qj) (k:Int):TCon Try.prog 160 [(.ow 0 Qz dw a),(.c TI k)] (YG (Qg (α:=List Qj) a k)):=by
 refine Qq rfl fun hb=>tcg (Γ:=QbD) (n:=27) (sg:=Qd8.sg) Qp (TOkL.cons Qmu TOkL.nil) (by kernel_rfl) (by kernel_rfl) (Qsm _ a k ?_)
 have hl_a:a.length≤9223372036854775807:=hb.1.1
 refine Yd (A:=fun kk ii ll=>Qbr (fun r'=>r'=YG (Qg (α:=List Qj) a k)) a kk ii ll) (Q:=fun z=>YG z=YG (Qg (α:=List Qj) a k)) a k ?_ ?_ rfl
 ·intro kk pre post x hl hA
  have hlt:pre.length<a.length:=by omega
  have hw:w64 (((pre.length:Nat):Int)+1)=((pre.length+1:Nat):Int):=by rw [QO (by omega) (by omega)];omega
  refine Qig (fun r'=>r'=YG (Qg (α:=List Qj) a k)) a kk ((pre.length:Nat):Int) (pre++x::post) ?_
  refine ⟨fun _=>?_,fun h=>absurd h (by simp;omega)⟩
  simp only [Int.toNat_natCast,Nat.zero_add,ZV,Ya,Zy,Yi,hw,lt_f,hlt,ZM,and_true,true_and,Int.natCast_nonneg]
  exact hA
 ·intro kk l hl hq
  refine Qig (fun r'=>r'=YG (Qg (α:=List Qj) a k)) a kk ((a.length:Nat):Int) l ?_
  exact ⟨fun h=>absurd h (by simp),fun _=>hq⟩
theorem Qsj:Qo Try.prog Qd8:=Qr fun x _=>Qtl x.1 x.2.1
end
end Go.Proofs.Ytephkbajoofeoaa.Am

