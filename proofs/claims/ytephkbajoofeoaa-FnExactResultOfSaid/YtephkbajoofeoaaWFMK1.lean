/- -/
import Derived.Test.YtephkbajoofeoaaWFGF
namespace Go.Proofs.Ytephkbajoofeoaa.Am
open Go Go.RowKit Go.Proofs.Ytephkbajoofeoaa
set_option linter.all false
noncomputable section
variable (K:TRes→Prop)
def YH (t:Int × (List Int)):TRes:=⟨(zci t.1),[],[],true,[(.sl 0 [TI] (.dp 0 false []) t.2)]⟩
def JP:TRow:=Ql 69 [(.d [TI]),(.c TI)] fun x=>(none,YH (Qi (α:=List Int) x.1 x.2.1))
def QcZ:TTab:=⟨[],true⟩
def Qhw:TCode :=
 (zsq [(zsq [(.reg [zmv 6 5,zmv 7 0,zle 8 7,zbi 9 .lss 6 8]),(.cond 9 .skip (.exit 0))]),(.block 1 (zsq [(.reg [zmv 12 0,zmv 13 5,zmv 14 1,zia 15 12 13 [TI],zst 15 14 1]),(.reg [zmv 16 1,zbi 17 .add 16 (zki 1),zmv 1 17])])),(.reg [zmv 10 5,zbi 11 .add 10 (zki 1),zmv 5 11])])
def QlT:List (Nat × Md):=[(0,.one .f),(1,.one .d),(5,.one .d)]
def Qi2:TCode :=
 (zsq [(.reg [zmv 18 1,zmv 4 18]),.ret])
def Qu6:TCode :=
 (zsq [(.reg [zmv 4 (zki 0)]),(zsq [(.reg [zmv 5 (zki 0)]),(.block 0 (.loop QlT Qhw))]),Qi2])
def Qoq:List (ARv × Md):=[(.t 4,.one .d)]
def QhB:Qb:=TQ 0 1 Qoq K
def QqQ:Qb:=Qseq (tawp QcZ 1 Qi2 (QhB K)) (QhB K)
def Qvg:Qb:=Qblk 0 (QqQ K)
def Qdq (a:List Int) (k1:Int) (i:Int) (a1:List Int):Prop:=Loop QcZ 1 QlT Qhw (Qvg K) ⟨[(0,(.r [TI] 0 0 a.length)),(1,(zci k1)),(5,(zci i))],[(0,(.sl 0 [TI] (.dp 0 false []) a1))],1⟩
theorem Qna (a:List Int) (k1:Int) (i:Int) (a1:List Int) (h :
 (zif (decide (i<((a.length:Nat):Int))) ((((0:Int)≤i∧Int.toNat i<a.length)∧((0+(Int.toNat i))<a1.length))∧(Qdq K a (w64 (k1+(1:Int))) (w64 (i+(1:Int))) ((a1).set (0+(Int.toNat i)) k1))) (K (YH (k1,a1))))):Qdq K a k1 i a1 :=
 Loop.of (by kernel_rfl) h
theorem QuN (a:List Int) (k:Int) (h :
 (Qdq K a k 0 a)):Hold (tawp QcZ (0+1) Qu6 (TQ 0 1 Qoq K) (Qk [(.ow 0 [TI] dw a),(.c TI k)])) :=
 Hold.of (by kernel_rfl) h
theorem QpB (a:List Int) (k:Int):TCon Try.prog 69 [(.ow 0 [TI] dw a),(.c TI k)] (YH (Qi (α:=List Int) a k)):=by
 refine Qp rfl fun hb=>tcg (Γ:=QcZ) (n:=19) (sg:=JP.sg) Qo TOkL.nil (by kernel_rfl) (by kernel_rfl) (QuN _ a k ?_)
 have hl_a:a.length≤9223372036854775807:=hb.1.1
 refine Yn (A:=fun kk ii ll=>Qdq (fun r'=>r'=YH (Qi (α:=List Int) a k)) a kk ii ll) (Q:=fun z=>YH z=YH (Qi (α:=List Int) a k)) a k ?_ ?_ rfl
 ·intro kk pre post x hl hA
  have hlt:pre.length<a.length:=by omega
  have hw:w64 (((pre.length:Nat):Int)+1)=((pre.length+1:Nat):Int):=by rw [QN (by omega) (by omega)];omega
  refine Qna (fun r'=>r'=YH (Qi (α:=List Int) a k)) a kk ((pre.length:Nat):Int) (pre++x::post) ?_
  refine ⟨fun _=>?_,fun h=>absurd h (by simp;omega)⟩
  simp only [Int.toNat_natCast,Nat.zero_add,Yb,Yz,Zw,Z8,hw,lt_f,hlt,ZK,and_true,true_and,Int.natCast_nonneg]
  exact hA
 ·intro kk l hl hq
  refine Qna (fun r'=>r'=YH (Qi (α:=List Int) a k)) a kk ((a.length:Nat):Int) l ?_
  exact ⟨fun h=>absurd h (by simp),fun _=>hq⟩
theorem Qbt:Qm Try.prog JP:=Qr fun x _=>QpB x.1 x.2.1
def Yp (t:Int):TRes:=zre (zci t)
def Qgy:TRow:=Ql 70 [(.c (.sl [TI])),(.c TI)] fun x=>(some (Zv (α:=List Int) x.1 x.2.1),Yp (m_held (α:=List Int) x.1 x.2.1))
def Qb6:TTab:=⟨[],false⟩
def Qml:TCode :=
 (zsq [(zsq [(.reg [zmv 6 5,zmv 7 0,zle 8 7,zbi 9 .lss 6 8]),(.cond 9 .skip (.exit 0))]),(.block 1 (zsq [(zsq [(.reg [zmv 12 0,zmv 13 5,zia 14 12 13 [TI],zld 15 14 1,zmv 16 1,zbi 17 .neq 15 16]),(.cond 17 (zsq [(.reg [zmv 4 (zki (-1))]),.ret]) .skip)]),(.reg [zmv 18 1,zbi 19 .add 18 (zki 1),zmv 1 19])])),(.reg [zmv 10 5,zbi 11 .add 10 (zki 1),zmv 5 11])])
def QmX:List (Nat × Md):=zdl [0,1,5]
def Qn8:TCode :=
 (zsq [(.reg [zmv 20 1,zmv 4 20]),.ret])
def QzA:TCode :=
 (zsq [(.reg [zmv 4 (zki 0)]),(zsq [(.reg [zmv 5 (zki 0)]),(.block 0 (.loop QmX Qml))]),Qn8])
def Qh2:List (ARv × Md):=[(.t 4,.one .d)]
def Qmz:Qb:=TQ 0 0 Qh2 K
def Qrh:Qb:=Qseq (tawp Qb6 0 Qn8 (Qmz K)) (Qmz K)
def Qwn:Qb:=Qblk 0 (Qrh K)
def QcY (a:List Int) (k1:Int) (i:Int):Prop:=Loop Qb6 0 QmX Qml (Qwn K) ⟨[(0,(zcs [TI] a)),(1,(zci k1)),(5,(zci i))],[],0⟩
theorem Qkc (a:List Int) (k1:Int) (i:Int) (h :
 (zif (decide (i<(a.length:Int))) (((0:Int)≤i∧Int.toNat i<a.length)∧(zif ((gtd (0:Int) a (Int.toNat i)) != k1) (K (Yp (-1:Int))) (QcY K a (w64 (k1+(1:Int))) (w64 (i+(1:Int)))))) (K (Yp k1)))):QcY K a k1 i :=
 Loop.of (by kernel_rfl) h
theorem QqV (a:List Int) (k:Int) (h :
 (QcY K a k 0)):Hold (tawp Qb6 (0+0) QzA (TQ 0 0 Qh2 K) (Qk [(.c (.sl [TI]) a),(.c TI k)])) :=
 Hold.of (by kernel_rfl) h
theorem QoS (a:List Int) (k:Int) (hp:Zv (α:=List Int) a k):TCon Try.prog 70 [(.c (.sl [TI]) a),(.c TI k)] (Yp (m_held (α:=List Int) a k)):=by
 refine Qp rfl fun hb=>tcg (Γ:=Qb6) (n:=21) (sg:=Qgy.sg) Qo TOkL.nil (by kernel_rfl) (by kernel_rfl) (QqV _ a k ?_)
 have hl_a:a.length≤9223372036854775807:=hb.1.1
 refine Ql2 (A:=fun kk ii=>QcY (fun r'=>r'=Yp (m_held (α:=List Int) a k)) a kk ii) (Q:=fun z=>Yp z=Yp (m_held (α:=List Int) a k)) a k hp ?_ ?_ rfl
 ·intro kk pre post x ha hpx hneg hpos
  have hlt:pre.length<a.length:=by rw [ha];simp
  have hg:∀ d,gtd d a pre.length=x:=fun d=>by rw [ha];exact Zw d pre post x
  have hw:w64 (((pre.length:Nat):Int)+1)=((pre.length+1:Nat):Int):=by rw [QN (by omega) (by omega)];omega
  refine Qkc (fun r'=>r'=Yp (m_held (α:=List Int) a k)) a kk ((pre.length:Nat):Int) ?_
  refine ⟨fun _=>?_,fun h=>absurd h (by simp;omega)⟩
  simp only [Int.toNat_natCast,hg,hw,hlt,ZK,and_true,true_and,Int.natCast_nonneg]
  simp only [QsF,Qxb,QvP,Prod.ext_iff] at hneg hpos
  refine ⟨fun h=>hneg (fun e=>Qzj h (e).symm),fun h0=>?_⟩
  have e0:=(QrJ h0).symm
  exact hpos e0
 ·intro kk hq
  refine Qkc (fun r'=>r'=Yp (m_held (α:=List Int) a k)) a kk ((a.length:Nat):Int) ?_
  exact ⟨fun h=>absurd h (by simp),fun _=>hq⟩
theorem Qwq:Qm Try.prog Qgy:=Qr fun x h=>QoS x.1 x.2.1 h
def Y9 (t:Int × (List (List Int))):TRes:=⟨(zci t.1),[],[],true,[(.sl 0 [(.sl [TI])] (.dp 0 false []) t.2)]⟩
def QbB:TRow:=Ql 161 [(.d [(.sl [TI])]),(.c TI)] fun x=>(none,Y9 (Qi (α:=List (List Int)) x.1 x.2.1))
def QcK:TTab:=⟨[JP],true⟩
def Qiv:TCode :=
 (zsq [(zsq [(.reg [zmv 6 5,zmv 7 0,zle 8 7,zbi 9 .lss 6 8]),(.cond 9 .skip (.exit 0))]),(.block 1 (.reg [zmv 12 0,zmv 13 5,zia 14 12 13 [(.sl [TI])],zfa 15 14 0,zld 16 15 1,zmv 17 1,zca 18 69 [16,17],zmv 1 18])),(.reg [zmv 10 5,zbi 11 .add 10 (zki 1),zmv 5 11])])
def QoD:List (Nat × Md):=[(0,.one .f),(1,.one .d),(5,.one .d)]
def Qoy:TCode :=
 (zsq [(.reg [zmv 19 1,zmv 4 19]),.ret])
def Qpo:TCode :=
 (zsq [(.reg [zmv 4 (zki 0)]),(zsq [(.reg [zmv 5 (zki 0)]),(.block 0 (.loop QoD Qiv))]),Qoy])
def QmW:List (ARv × Md):=[(.t 4,.one .d)]
def QnT:Qb:=TQ 0 1 QmW K
def QoL:Qb:=Qseq (tawp QcK 1 Qoy (QnT K)) (QnT K)
def QtX:Qb:=Qblk 0 (QoL K)
def QbT (a:List (List Int)) (k1:Int) (i:Int) (a1:List (List Int)):Prop:=Loop QcK 1 QoD Qiv (QtX K) ⟨[(0,(.r [(.sl [TI])] 0 0 a.length)),(1,(zci k1)),(5,(zci i))],[(0,(.sl 0 [(.sl [TI])] (.dp 0 false []) a1))],1⟩
theorem QkU (a:List (List Int)) (k1:Int) (i:Int) (a1:List (List Int)) (h :
 (zif (decide (i<((a.length:Nat):Int))) ((((0:Int)≤i∧Int.toNat i<a.length)∧(((0+(Int.toNat i))<a1.length)∧((0+(Int.toNat i))<a1.length)))∧(QbT K a ((nst ([]:List Int) (0+(Int.toNat i)) (fun e_=>e_) (fun e_ y_=>y_) (Qi (α:=List Int)) (k1,a1)).1) (w64 (i+(1:Int))) ((nst ([]:List Int) (0+(Int.toNat i)) (fun e_=>e_) (fun e_ y_=>y_) (Qi (α:=List Int)) (k1,a1)).2))) (K (Y9 (k1,a1))))):QbT K a k1 i a1 :=
 Loop.of (by kernel_rfl) h
theorem QsB (a:List (List Int)) (k:Int) (h :
 (QbT K a k 0 a)):Hold (tawp QcK (0+1) Qpo (TQ 0 1 QmW K) (Qk [(.ow 0 [(.sl [TI])] dw a),(.c TI k)])) :=
 Hold.of (by kernel_rfl) h
theorem Qqz (a:List (List Int)) (k:Int):TCon Try.prog 161 [(.ow 0 [(.sl [TI])] dw a),(.c TI k)] (Y9 (Qi (α:=List (List Int)) a k)):=by
 refine Qp rfl fun hb=>tcg (Γ:=QcK) (n:=20) (sg:=QbB.sg) Qo (TOkL.cons Qbt TOkL.nil) (by kernel_rfl) (by kernel_rfl) (QsB _ a k ?_)
 have hl_a:a.length≤9223372036854775807:=hb.1.1
 refine Yn (A:=fun kk ii ll=>QbT (fun r'=>r'=Y9 (Qi (α:=List (List Int)) a k)) a kk ii ll) (Q:=fun z=>Y9 z=Y9 (Qi (α:=List (List Int)) a k)) a k ?_ ?_ rfl
 ·intro kk pre post x hl hA
  have hlt:pre.length<a.length:=by omega
  have hw:w64 (((pre.length:Nat):Int)+1)=((pre.length+1:Nat):Int):=by rw [QN (by omega) (by omega)];omega
  refine QkU (fun r'=>r'=Y9 (Qi (α:=List (List Int)) a k)) a kk ((pre.length:Nat):Int) (pre++x::post) ?_
  refine ⟨fun _=>?_,fun h=>absurd h (by simp;omega)⟩
  simp only [Int.toNat_natCast,Nat.zero_add,Yb,Yz,Zw,Z8,hw,lt_f,hlt,ZK,and_true,true_and,Int.natCast_nonneg]
  exact hA
 ·intro kk l hl hq
  refine QkU (fun r'=>r'=Y9 (Qi (α:=List (List Int)) a k)) a kk ((a.length:Nat):Int) l ?_
  exact ⟨fun h=>absurd h (by simp),fun _=>hq⟩
theorem Qgz:Qm Try.prog QbB:=Qr fun x _=>Qqz x.1 x.2.1
def Z1 (t:Int):TRes:=zre (zci t)
def Qd1:TRow:=Ql 164 [(.c (.sl [(.sl [TI])])),(.c TI)] fun x=>(some (Zv (α:=List (List Int)) x.1 x.2.1),Z1 (m_held (α:=List (List Int)) x.1 x.2.1))
def QbJ:TTab:=⟨[Qgy],false⟩
def QiJ:TCode :=
 (zsq [(zsq [(.reg [zmv 6 5,zmv 7 0,zle 8 7,zbi 9 .lss 6 8]),(.cond 9 .skip (.exit 0))]),(.block 1 (zsq [(.reg [zmv 12 0,zmv 13 5,zia 14 12 13 [(.sl [TI])],zfa 15 14 0,zld 16 15 1,zmv 17 1,zca 18 70 [16,17],zmv 1 18]),(.reg [zmv 19 1,zbi 20 .lss 19 (zki 0)]),(.cond 20 (zsq [(.reg [zmv 4 (zki (-1))]),.ret]) .skip)])),(.reg [zmv 10 5,zbi 11 .add 10 (zki 1),zmv 5 11])])
def Qg2:List (Nat × Md):=zdl [0,1,5]
def QlF:TCode :=
 (zsq [(.reg [zmv 21 1,zmv 4 21]),.ret])
def Qsz:TCode :=
 (zsq [(.reg [zmv 4 (zki 0)]),(zsq [(.reg [zmv 5 (zki 0)]),(.block 0 (.loop Qg2 QiJ))]),QlF])
def Qje:List (ARv × Md):=[(.t 4,.one .d)]
def Qlx:Qb:=TQ 0 0 Qje K
def Qo7:Qb:=Qseq (tawp QbJ 0 QlF (Qlx K)) (Qlx K)
def Qwh:Qb:=Qblk 0 (Qo7 K)
def QbM (a:List (List Int)) (k1:Int) (i:Int):Prop:=Loop QbJ 0 Qg2 QiJ (Qwh K) ⟨[(0,(zcs [(.sl [TI])] a)),(1,(zci k1)),(5,(zci i))],[],0⟩
theorem Qh6 (a:List (List Int)) (k1:Int) (i:Int) (h :
 (zif (decide (i<(a.length:Int))) ((((0:Int)≤i∧Int.toNat i<a.length)∧(Zv (α:=List Int) (gtd ([]:List Int) a (Int.toNat i)) k1))∧(zif (decide ((m_held (α:=List Int) (gtd ([]:List Int) a (Int.toNat i)) k1)<(0:Int))) (K (Z1 (-1:Int))) (QbM K a (m_held (α:=List Int) (gtd ([]:List Int) a (Int.toNat i)) k1) (w64 (i+(1:Int)))))) (K (Z1 k1)))):QbM K a k1 i :=
 Loop.of (by kernel_rfl) h
theorem Qq5 (a:List (List Int)) (k:Int) (h :
 (QbM K a k 0)):Hold (tawp QbJ (0+0) Qsz (TQ 0 0 Qje K) (Qk [(.c (.sl [(.sl [TI])]) a),(.c TI k)])) :=
 Hold.of (by kernel_rfl) h
theorem QxH (a:List (List Int)) (k:Int) (hp:Zv (α:=List (List Int)) a k):TCon Try.prog 164 [(.c (.sl [(.sl [TI])]) a),(.c TI k)] (Z1 (m_held (α:=List (List Int)) a k)):=by
 refine Qp rfl fun hb=>tcg (Γ:=QbJ) (n:=22) (sg:=Qd1.sg) Qo (TOkL.cons Qwq TOkL.nil) (by kernel_rfl) (by kernel_rfl) (Qq5 _ a k ?_)
 have hl_a:a.length≤9223372036854775807:=hb.1.1
 refine Ql2 (A:=fun kk ii=>QbM (fun r'=>r'=Z1 (m_held (α:=List (List Int)) a k)) a kk ii) (Q:=fun z=>Z1 z=Z1 (m_held (α:=List (List Int)) a k)) a k hp ?_ ?_ rfl
 ·intro kk pre post x ha hpx hneg hpos
  have hlt:pre.length<a.length:=by rw [ha];simp
  have hg:∀ d,gtd d a pre.length=x:=fun d=>by rw [ha];exact Zw d pre post x
  have hw:w64 (((pre.length:Nat):Int)+1)=((pre.length+1:Nat):Int):=by rw [QN (by omega) (by omega)];omega
  refine Qh6 (fun r'=>r'=Z1 (m_held (α:=List (List Int)) a k)) a kk ((pre.length:Nat):Int) ?_
  refine ⟨fun _=>?_,fun h=>absurd h (by simp;omega)⟩
  simp only [Int.toNat_natCast,hg,hw,hlt,ZK,and_true,true_and,Int.natCast_nonneg]
  refine ⟨hpx,fun h=>hneg (fun e=>Qmc hpx (of_decide_eq_true h) (e)),fun h0=>?_⟩
  obtain ⟨e0,h0⟩:=Qog (of_decide_eq_false h0)
  rw [h0]
  exact hpos e0
 ·intro kk hq
  refine Qh6 (fun r'=>r'=Z1 (m_held (α:=List (List Int)) a k)) a kk ((a.length:Nat):Int) ?_
  exact ⟨fun h=>absurd h (by simp),fun _=>hq⟩
theorem Qvy:Qm Try.prog Qd1:=Qr fun x h=>QxH x.1 x.2.1 h
def Y6 (t:Int × (List TIns)):TRes:=⟨(zci t.1),[],[],true,[(.sl 0 QE (.dp 0 false []) t.2)]⟩
def Qgr:TRow:=Ql 20 [(.d QE),(.c TI)] fun x=>(none,Y6 (Qi (α:=List TIns) x.1 x.2.1))
def QbW:TTab:=⟨[],true⟩
def Ql1:TCode :=
 (zsq [(zsq [(.reg [zmv 6 5,zmv 7 0,zle 8 7,zbi 9 .lss 6 8]),(.cond 9 .skip (.exit 0))]),(.block 1 (zsq [(.reg [zmv 12 0,zmv 13 5,zmv 14 1,zia 15 12 13 QE,zfa 16 15 0,zst 16 14 1]),(.reg [zmv 17 1,zbi 18 .add 17 (zki 1),zmv 1 18]),(.reg [zmv 19 0,zmv 20 5,zmv 21 1,zia 22 19 20 QE,zfa 23 22 1,zst 23 21 1]),(.reg [zmv 24 1,zbi 25 .add 24 (zki 1),zmv 1 25])])),(.reg [zmv 10 5,zbi 11 .add 10 (zki 1),zmv 5 11])])
def Qhi:List (Nat × Md):=[(0,.one .f),(1,.one .d),(5,.one .d)]
def Qia:TCode :=
 (zsq [(.reg [zmv 26 1,zmv 4 26]),.ret])
def Qsc:TCode :=
 (zsq [(.reg [zmv 4 (zki 0)]),(zsq [(.reg [zmv 5 (zki 0)]),(.block 0 (.loop Qhi Ql1))]),Qia])
def Qh5:List (ARv × Md):=[(.t 4,.one .d)]
def QlG:Qb:=TQ 0 1 Qh5 K
def Qo9:Qb:=Qseq (tawp QbW 1 Qia (QlG K)) (QlG K)
def Qyz:Qb:=Qblk 0 (Qo9 K)
def Qde (a:List TIns) (k1:Int) (i:Int) (a1:List TIns):Prop:=Loop QbW 1 Qhi Ql1 (Qyz K) ⟨[(0,(.r QE 0 0 a.length)),(1,(zci k1)),(5,(zci i))],[(0,(.sl 0 QE (.dp 0 false []) a1))],1⟩
theorem Qny (a:List TIns) (k1:Int) (i:Int) (a1:List TIns) (h :
 (zif (decide (i<((a.length:Nat):Int))) ((((0:Int)≤i∧Int.toNat i<a.length)∧((0+(Int.toNat i))<a1.length))∧((((0:Int)≤i∧Int.toNat i<a.length)∧((0+(Int.toNat i))<((sst dIns (0+(Int.toNat i)) (fun e_ k_=>(k_,e_.2)) (k1,a1)).2).length))∧(Qde K a (w64 ((w64 (k1+(1:Int)))+(1:Int))) (w64 (i+(1:Int))) ((sst dIns (0+(Int.toNat i)) (fun e_ k_=>(e_.1,k_)) (sst dIns (0+(Int.toNat i)) (fun e_ k_=>(k_,e_.2)) (k1,a1))).2)))) (K (Y6 (k1,a1))))):Qde K a k1 i a1 :=
 Loop.of (by kernel_rfl) h
theorem Qsh (a:List TIns) (k:Int) (h :
 (Qde K a k 0 a)):Hold (tawp QbW (0+1) Qsc (TQ 0 1 Qh5 K) (Qk [(.ow 0 QE dw a),(.c TI k)])) :=
 Hold.of (by kernel_rfl) h
theorem QqJ (a:List TIns) (k:Int):TCon Try.prog 20 [(.ow 0 QE dw a),(.c TI k)] (Y6 (Qi (α:=List TIns) a k)):=by
 refine Qp rfl fun hb=>tcg (Γ:=QbW) (n:=27) (sg:=Qgr.sg) Qo TOkL.nil (by kernel_rfl) (by kernel_rfl) (Qsh _ a k ?_)
 have hl_a:a.length≤9223372036854775807:=hb.1.1
 refine Yn (A:=fun kk ii ll=>Qde (fun r'=>r'=Y6 (Qi (α:=List TIns) a k)) a kk ii ll) (Q:=fun z=>Y6 z=Y6 (Qi (α:=List TIns) a k)) a k ?_ ?_ rfl
 ·intro kk pre post x hl hA
  have hlt:pre.length<a.length:=by omega
  have hw:w64 (((pre.length:Nat):Int)+1)=((pre.length+1:Nat):Int):=by rw [QN (by omega) (by omega)];omega
  refine Qny (fun r'=>r'=Y6 (Qi (α:=List TIns) a k)) a kk ((pre.length:Nat):Int) (pre++x::post) ?_
  refine ⟨fun _=>?_,fun h=>absurd h (by simp;omega)⟩
  simp only [Int.toNat_natCast,Nat.zero_add,Yb,Yz,Zw,Z8,hw,lt_f,hlt,ZK,and_true,true_and,Int.natCast_nonneg]
  exact hA
 ·intro kk l hl hq
  refine Qny (fun r'=>r'=Y6 (Qi (α:=List TIns) a k)) a kk ((a.length:Nat):Int) l ?_
  exact ⟨fun h=>absurd h (by simp),fun _=>hq⟩
theorem Qxe:Qm Try.prog Qgr:=Qr fun x _=>QqJ x.1 x.2.1
def Y0 (t:Int × (List Qf)):TRes:=⟨(zci t.1),[],[],true,[(.sl 0 Qv (.dp 0 false []) t.2)]⟩
def Qgc:TRow:=Ql 129 [(.d Qv),(.c TI)] fun x=>(none,Y0 (Qi (α:=List Qf) x.1 x.2.1))
def QcP:TTab:=⟨[JP],true⟩
def Qn9:TCode :=
 (zsq [(zsq [(.reg [zmv 6 5,zmv 7 0,zle 8 7,zbi 9 .lss 6 8]),(.cond 9 .skip (.exit 0))]),(.block 1 (zsq [(.reg [zmv 12 0,zmv 13 5,zmv 14 1,zia 15 12 13 Qv,zfa 16 15 0,zst 16 14 1]),(.reg [zmv 17 1,zbi 18 .add 17 (zki 1),zmv 1 18]),(.reg [zmv 19 0,zmv 20 5,zia 21 19 20 Qv,zfa 22 21 1,zld 23 22 1,zmv 24 1,zca 25 69 [23,24],zmv 1 25])])),(.reg [zmv 10 5,zbi 11 .add 10 (zki 1),zmv 5 11])])
def Qhm:List (Nat × Md):=[(0,.one .f),(1,.one .d),(5,.one .d)]
def Qkn:TCode :=
 (zsq [(.reg [zmv 26 1,zmv 4 26]),.ret])
def QsO:TCode :=
 (zsq [(.reg [zmv 4 (zki 0)]),(zsq [(.reg [zmv 5 (zki 0)]),(.block 0 (.loop Qhm Qn9))]),Qkn])
def QjN:List (ARv × Md):=[(.t 4,.one .d)]
def Qmj:Qb:=TQ 0 1 QjN K
def QpE:Qb:=Qseq (tawp QcP 1 Qkn (Qmj K)) (Qmj K)
def Qru:Qb:=Qblk 0 (QpE K)
def Qdz (a:List Qf) (k1:Int) (i:Int) (a1:List Qf):Prop:=Loop QcP 1 Qhm Qn9 (Qru K) ⟨[(0,(.r Qv 0 0 a.length)),(1,(zci k1)),(5,(zci i))],[(0,(.sl 0 Qv (.dp 0 false []) a1))],1⟩
theorem Qjn (a:List Qf) (k1:Int) (i:Int) (a1:List Qf) (h :
 (zif (decide (i<((a.length:Nat):Int))) ((((0:Int)≤i∧Int.toNat i<a.length)∧((0+(Int.toNat i))<a1.length))∧((((0:Int)≤i∧Int.toNat i<a.length)∧(((0+(Int.toNat i))<((sst ((0,[]):Qf) (0+(Int.toNat i)) (fun e_ k_=>(k_,e_.2)) (k1,a1)).2).length)∧((0+(Int.toNat i))<((sst ((0,[]):Qf) (0+(Int.toNat i)) (fun e_ k_=>(k_,e_.2)) (k1,a1)).2).length)))∧(Qdz K a ((nst ((0,[]):Qf) (0+(Int.toNat i)) (fun e_=>e_.2) (fun e_ y_=>(e_.1,y_)) (Qi (α:=List Int)) (sst ((0,[]):Qf) (0+(Int.toNat i)) (fun e_ k_=>(k_,e_.2)) (k1,a1))).1) (w64 (i+(1:Int))) ((nst ((0,[]):Qf) (0+(Int.toNat i)) (fun e_=>e_.2) (fun e_ y_=>(e_.1,y_)) (Qi (α:=List Int)) (sst ((0,[]):Qf) (0+(Int.toNat i)) (fun e_ k_=>(k_,e_.2)) (k1,a1))).2)))) (K (Y0 (k1,a1))))):Qdz K a k1 i a1 :=
 Loop.of (by kernel_rfl) h
theorem QtY (a:List Qf) (k:Int) (h :
 (Qdz K a k 0 a)):Hold (tawp QcP (0+1) QsO (TQ 0 1 QjN K) (Qk [(.ow 0 Qv dw a),(.c TI k)])) :=
 Hold.of (by kernel_rfl) h
theorem QqE (a:List Qf) (k:Int):TCon Try.prog 129 [(.ow 0 Qv dw a),(.c TI k)] (Y0 (Qi (α:=List Qf) a k)):=by
 refine Qp rfl fun hb=>tcg (Γ:=QcP) (n:=27) (sg:=Qgc.sg) Qo (TOkL.cons Qbt TOkL.nil) (by kernel_rfl) (by kernel_rfl) (QtY _ a k ?_)
 have hl_a:a.length≤9223372036854775807:=hb.1.1
 refine Yn (A:=fun kk ii ll=>Qdz (fun r'=>r'=Y0 (Qi (α:=List Qf) a k)) a kk ii ll) (Q:=fun z=>Y0 z=Y0 (Qi (α:=List Qf) a k)) a k ?_ ?_ rfl
 ·intro kk pre post x hl hA
  have hlt:pre.length<a.length:=by omega
  have hw:w64 (((pre.length:Nat):Int)+1)=((pre.length+1:Nat):Int):=by rw [QN (by omega) (by omega)];omega
  refine Qjn (fun r'=>r'=Y0 (Qi (α:=List Qf) a k)) a kk ((pre.length:Nat):Int) (pre++x::post) ?_
  refine ⟨fun _=>?_,fun h=>absurd h (by simp;omega)⟩
  simp only [Int.toNat_natCast,Nat.zero_add,Yb,Yz,Zw,Z8,hw,lt_f,hlt,ZK,and_true,true_and,Int.natCast_nonneg]
  exact hA
 ·intro kk l hl hq
  refine Qjn (fun r'=>r'=Y0 (Qi (α:=List Qf) a k)) a kk ((a.length:Nat):Int) l ?_
  exact ⟨fun h=>absurd h (by simp),fun _=>hq⟩
theorem Qvc:Qm Try.prog Qgc:=Qr fun x _=>QqE x.1 x.2.1
def YI (t:Int × (List TOp')):TRes:=⟨(zci t.1),[],[],true,[(.sl 0 ctOp (.dp 0 false []) t.2)]⟩
def QeL:TRow:=Ql 88 [(.d ctOp),(.c TI)] fun x=>(none,YI (Qi (α:=List TOp') x.1 x.2.1))
def QcX:TTab:=⟨[JP],true⟩
def QlZ:TCode :=
 (zsq [(zsq [(.reg [zmv 6 5,zmv 7 0,zle 8 7,zbi 9 .lss 6 8]),(.cond 9 .skip (.exit 0))]),(.block 1 (zsq [(.reg [zmv 12 0,zmv 13 5,zmv 14 1,zia 15 12 13 ctOp,zfa 16 15 0,zst 16 14 1]),(.reg [zmv 17 1,zbi 18 .add 17 (zki 1),zmv 1 18]),(.reg [zmv 19 0,zmv 20 5,zmv 21 1,zia 22 19 20 ctOp,zfa 23 22 1,zst 23 21 1]),(.reg [zmv 24 1,zbi 25 .add 24 (zki 1),zmv 1 25]),(.reg [zmv 26 0,zmv 27 5,zmv 28 1,zia 29 26 27 ctOp,zfa 30 29 2,zst 30 28 1]),(.reg [zmv 31 1,zbi 32 .add 31 (zki 1),zmv 1 32]),(.reg [zmv 33 0,zmv 34 5,zia 35 33 34 ctOp,zfa 36 35 3,zld 37 36 1,zmv 38 1,zca 39 69 [37,38],zmv 1 39])])),(.reg [zmv 10 5,zbi 11 .add 10 (zki 1),zmv 5 11])])
def QjC:List (Nat × Md):=[(0,.one .f),(1,.one .d),(5,.one .d)]
def QnR:TCode :=
 (zsq [(.reg [zmv 40 1,zmv 4 40]),.ret])
def Qx1:TCode :=
 (zsq [(.reg [zmv 4 (zki 0)]),(zsq [(.reg [zmv 5 (zki 0)]),(.block 0 (.loop QjC QlZ))]),QnR])
def Qk4:List (ARv × Md):=[(.t 4,.one .d)]
def Qlp:Qb:=TQ 0 1 Qk4 K
def Qpl:Qb:=Qseq (tawp QcX 1 QnR (Qlp K)) (Qlp K)
def QxT:Qb:=Qblk 0 (Qpl K)
def QdF (a:List TOp') (k1:Int) (i:Int) (a1:List TOp'):Prop:=Loop QcX 1 QjC QlZ (QxT K) ⟨[(0,(.r ctOp 0 0 a.length)),(1,(zci k1)),(5,(zci i))],[(0,(.sl 0 ctOp (.dp 0 false []) a1))],1⟩
theorem Qm5 (a:List TOp') (k1:Int) (i:Int) (a1:List TOp') (h :
 let z2:=sst dOp (0+(Int.toNat i)) (fun e_ k_=>(k_,e_.2.1,e_.2.2.1,e_.2.2.2)) (k1,a1)
 let z4:=sst dOp (0+(Int.toNat i)) (fun e_ k_=>(e_.1,k_,e_.2.2.1,e_.2.2.2)) z2
 let z1:=sst dOp (0+(Int.toNat i)) (fun e_ k_=>(e_.1,e_.2.1,k_,e_.2.2.2)) z4
 let z3:=nst dOp (0+(Int.toNat i)) (fun e_=>e_.2.2.2) (fun e_ y_=>(e_.1,e_.2.1,e_.2.2.1,y_)) (Qi (α:=List Int)) z1
 (zif (decide (i<((a.length:Nat):Int))) ((((0:Int)≤i∧Int.toNat i<a.length)∧((0+(Int.toNat i))<a1.length))∧((((0:Int)≤i∧Int.toNat i<a.length)∧((0+(Int.toNat i))<(z2.2).length))∧((((0:Int)≤i∧Int.toNat i<a.length)∧((0+(Int.toNat i))<(z4.2).length))∧((((0:Int)≤i∧Int.toNat i<a.length)∧(((0+(Int.toNat i))<(z1.2).length)∧((0+(Int.toNat i))<(z1.2).length)))∧(QdF K a (z3.1) (w64 (i+(1:Int))) (z3.2)))))) (K (YI (k1,a1))))):QdF K a k1 i a1 :=
 Loop.of (by kernel_rfl) h
theorem Qr7 (a:List TOp') (k:Int) (h :
 (QdF K a k 0 a)):Hold (tawp QcX (0+1) Qx1 (TQ 0 1 Qk4 K) (Qk [(.ow 0 ctOp dw a),(.c TI k)])) :=
 Hold.of (by kernel_rfl) h
theorem Qxd (a:List TOp') (k:Int):TCon Try.prog 88 [(.ow 0 ctOp dw a),(.c TI k)] (YI (Qi (α:=List TOp') a k)):=by
 refine Qp rfl fun hb=>tcg (Γ:=QcX) (n:=41) (sg:=QeL.sg) Qo (TOkL.cons Qbt TOkL.nil) (by kernel_rfl) (by kernel_rfl) (Qr7 _ a k ?_)
 have hl_a:a.length≤9223372036854775807:=hb.1.1
 refine Yn (A:=fun kk ii ll=>QdF (fun r'=>r'=YI (Qi (α:=List TOp') a k)) a kk ii ll) (Q:=fun z=>YI z=YI (Qi (α:=List TOp') a k)) a k ?_ ?_ rfl
 ·intro kk pre post x hl hA
  have hlt:pre.length<a.length:=by omega
  have hw:w64 (((pre.length:Nat):Int)+1)=((pre.length+1:Nat):Int):=by rw [QN (by omega) (by omega)];omega
  refine Qm5 (fun r'=>r'=YI (Qi (α:=List TOp') a k)) a kk ((pre.length:Nat):Int) (pre++x::post) ?_
  conv=>zeta
  refine ⟨fun _=>?_,fun h=>absurd h (by simp;omega)⟩
  simp only [Int.toNat_natCast,Nat.zero_add,Yb,Yz,Zw,Z8,hw,lt_f,hlt,ZK,and_true,true_and,Int.natCast_nonneg]
  exact hA
 ·intro kk l hl hq
  refine Qm5 (fun r'=>r'=YI (Qi (α:=List TOp') a k)) a kk ((a.length:Nat):Int) l ?_
  conv=>zeta
  exact ⟨fun h=>absurd h (by simp),fun _=>hq⟩
theorem Qrq:Qm Try.prog QeL:=Qr fun x _=>Qxd x.1 x.2.1
def YO (t:Int × (List Qe)):TRes:=⟨(zci t.1),[],[],true,[(.sl 0 Qz (.dp 0 false []) t.2)]⟩
def QeI:TRow:=Ql 174 [(.d Qz),(.c TI)] fun x=>(none,YO (Qi (α:=List Qe) x.1 x.2.1))
def QcE:TTab:=⟨[JP],true⟩
def Qjl:TCode :=
 (zsq [(zsq [(.reg [zmv 6 5,zmv 7 0,zle 8 7,zbi 9 .lss 6 8]),(.cond 9 .skip (.exit 0))]),(.block 1 (zsq [(.reg [zmv 12 0,zmv 13 5,zia 14 12 13 Qz,zfa 15 14 0,zld 16 15 1,zmv 17 1,zca 18 69 [16,17],zmv 1 18]),(.reg [zmv 19 0,zmv 20 5,zia 21 19 20 Qz,zfa 22 21 1,zld 23 22 1,zmv 24 1,zca 25 69 [23,24],zmv 1 25])])),(.reg [zmv 10 5,zbi 11 .add 10 (zki 1),zmv 5 11])])
def QiD:List (Nat × Md):=[(0,.one .f),(1,.one .d),(5,.one .d)]
def Qnu:TCode :=
 (zsq [(.reg [zmv 26 1,zmv 4 26]),.ret])
def Qs2:TCode :=
 (zsq [(.reg [zmv 4 (zki 0)]),(zsq [(.reg [zmv 5 (zki 0)]),(.block 0 (.loop QiD Qjl))]),Qnu])
def QnU:List (ARv × Md):=[(.t 4,.one .d)]
def Qh4:Qb:=TQ 0 1 QnU K
def Qxz:Qb:=Qseq (tawp QcE 1 Qnu (Qh4 K)) (Qh4 K)
def QpZ:Qb:=Qblk 0 (Qxz K)
def QbY (a:List Qe) (k1:Int) (i:Int) (a1:List Qe):Prop:=Loop QcE 1 QiD Qjl (QpZ K) ⟨[(0,(.r Qz 0 0 a.length)),(1,(zci k1)),(5,(zci i))],[(0,(.sl 0 Qz (.dp 0 false []) a1))],1⟩
theorem Qlu (a:List Qe) (k1:Int) (i:Int) (a1:List Qe) (h :
 (zif (decide (i<((a.length:Nat):Int))) ((((0:Int)≤i∧Int.toNat i<a.length)∧(((0+(Int.toNat i))<a1.length)∧((0+(Int.toNat i))<a1.length)))∧((((0:Int)≤i∧Int.toNat i<a.length)∧(((0+(Int.toNat i))<((nst Q5 (0+(Int.toNat i)) (fun e_=>e_.1) (fun e_ y_=>(y_,e_.2)) (Qi (α:=List Int)) (k1,a1)).2).length)∧((0+(Int.toNat i))<((nst Q5 (0+(Int.toNat i)) (fun e_=>e_.1) (fun e_ y_=>(y_,e_.2)) (Qi (α:=List Int)) (k1,a1)).2).length)))∧(QbY K a ((nst Q5 (0+(Int.toNat i)) (fun e_=>e_.2) (fun e_ y_=>(e_.1,y_)) (Qi (α:=List Int)) (nst Q5 (0+(Int.toNat i)) (fun e_=>e_.1) (fun e_ y_=>(y_,e_.2)) (Qi (α:=List Int)) (k1,a1))).1) (w64 (i+(1:Int))) ((nst Q5 (0+(Int.toNat i)) (fun e_=>e_.2) (fun e_ y_=>(e_.1,y_)) (Qi (α:=List Int)) (nst Q5 (0+(Int.toNat i)) (fun e_=>e_.1) (fun e_ y_=>(y_,e_.2)) (Qi (α:=List Int)) (k1,a1))).2)))) (K (YO (k1,a1))))):QbY K a k1 i a1 :=
 Loop.of (by kernel_rfl) h
theorem QpU (a:List Qe) (k:Int) (h :
 (QbY K a k 0 a)):Hold (tawp QcE (0+1) Qs2 (TQ 0 1 QnU K) (Qk [(.ow 0 Qz dw a),(.c TI k)])) :=
 Hold.of (by kernel_rfl) h
theorem Qxu (a:List Qe) (k:Int):TCon Try.prog 174 [(.ow 0 Qz dw a),(.c TI k)] (YO (Qi (α:=List Qe) a k)):=by
 refine Qp rfl fun hb=>tcg (Γ:=QcE) (n:=27) (sg:=QeI.sg) Qo (TOkL.cons Qbt TOkL.nil) (by kernel_rfl) (by kernel_rfl) (QpU _ a k ?_)
 have hl_a:a.length≤9223372036854775807:=hb.1.1
 refine Yn (A:=fun kk ii ll=>QbY (fun r'=>r'=YO (Qi (α:=List Qe) a k)) a kk ii ll) (Q:=fun z=>YO z=YO (Qi (α:=List Qe) a k)) a k ?_ ?_ rfl
 ·intro kk pre post x hl hA
  have hlt:pre.length<a.length:=by omega
  have hw:w64 (((pre.length:Nat):Int)+1)=((pre.length+1:Nat):Int):=by rw [QN (by omega) (by omega)];omega
  refine Qlu (fun r'=>r'=YO (Qi (α:=List Qe) a k)) a kk ((pre.length:Nat):Int) (pre++x::post) ?_
  refine ⟨fun _=>?_,fun h=>absurd h (by simp;omega)⟩
  simp only [Int.toNat_natCast,Nat.zero_add,Yb,Yz,Zw,Z8,hw,lt_f,hlt,ZK,and_true,true_and,Int.natCast_nonneg]
  exact hA
 ·intro kk l hl hq
  refine Qlu (fun r'=>r'=YO (Qi (α:=List Qe) a k)) a kk ((a.length:Nat):Int) l ?_
  exact ⟨fun h=>absurd h (by simp),fun _=>hq⟩
theorem Qr8:Qm Try.prog QeI:=Qr fun x _=>Qxu x.1 x.2.1
def Y5 (t:Int × (List Qj)):TRes:=⟨(zci t.1),[],[],true,[(.sl 0 QA (.dp 0 false []) t.2)]⟩
def QfN:TRow:=Ql 160 [(.d QA),(.c TI)] fun x=>(none,Y5 (Qi (α:=List Qj) x.1 x.2.1))
def Qb8:TTab:=⟨[QbB],true⟩
def Qjk:TCode :=
 (zsq [(zsq [(.reg [zmv 6 5,zmv 7 0,zle 8 7,zbi 9 .lss 6 8]),(.cond 9 .skip (.exit 0))]),(.block 1 (zsq [(.reg [zmv 12 0,zmv 13 5,zmv 14 1,zia 15 12 13 QA,zfa 16 15 0,zst 16 14 1]),(.reg [zmv 17 1,zbi 18 .add 17 (zki 1),zmv 1 18]),(.reg [zmv 19 0,zmv 20 5,zia 21 19 20 QA,zfa 22 21 1,zld 23 22 1,zmv 24 1,zca 25 161 [23,24],zmv 1 25])])),(.reg [zmv 10 5,zbi 11 .add 10 (zki 1),zmv 5 11])])
def QmD:List (Nat × Md):=[(0,.one .f),(1,.one .d),(5,.one .d)]
def Qhb:TCode :=
 (zsq [(.reg [zmv 26 1,zmv 4 26]),.ret])
def QxQ:TCode :=
 (zsq [(.reg [zmv 4 (zki 0)]),(zsq [(.reg [zmv 5 (zki 0)]),(.block 0 (.loop QmD Qjk))]),Qhb])
def Qng:List (ARv × Md):=[(.t 4,.one .d)]
def QjF:Qb:=TQ 0 1 Qng K
def QxB:Qb:=Qseq (tawp Qb8 1 Qhb (QjF K)) (QjF K)
def Qr5:Qb:=Qblk 0 (QxB K)
def Qb2 (a:List Qj) (k1:Int) (i:Int) (a1:List Qj):Prop:=Loop Qb8 1 QmD Qjk (Qr5 K) ⟨[(0,(.r QA 0 0 a.length)),(1,(zci k1)),(5,(zci i))],[(0,(.sl 0 QA (.dp 0 false []) a1))],1⟩
theorem Qmt (a:List Qj) (k1:Int) (i:Int) (a1:List Qj) (h :
 (zif (decide (i<((a.length:Nat):Int))) ((((0:Int)≤i∧Int.toNat i<a.length)∧((0+(Int.toNat i))<a1.length))∧((((0:Int)≤i∧Int.toNat i<a.length)∧(((0+(Int.toNat i))<((sst Q9 (0+(Int.toNat i)) (fun e_ k_=>(k_,e_.2)) (k1,a1)).2).length)∧((0+(Int.toNat i))<((sst Q9 (0+(Int.toNat i)) (fun e_ k_=>(k_,e_.2)) (k1,a1)).2).length)))∧(Qb2 K a ((nst Q9 (0+(Int.toNat i)) (fun e_=>e_.2) (fun e_ y_=>(e_.1,y_)) (Qi (α:=List (List Int))) (sst Q9 (0+(Int.toNat i)) (fun e_ k_=>(k_,e_.2)) (k1,a1))).1) (w64 (i+(1:Int))) ((nst Q9 (0+(Int.toNat i)) (fun e_=>e_.2) (fun e_ y_=>(e_.1,y_)) (Qi (α:=List (List Int))) (sst Q9 (0+(Int.toNat i)) (fun e_ k_=>(k_,e_.2)) (k1,a1))).2)))) (K (Y5 (k1,a1))))):Qb2 K a k1 i a1 :=
 Loop.of (by kernel_rfl) h
theorem Qwb (a:List Qj) (k:Int) (h :
 (Qb2 K a k 0 a)):Hold (tawp Qb8 (0+1) QxQ (TQ 0 1 Qng K) (Qk [(.ow 0 QA dw a),(.c TI k)])) :=
 Hold.of (by kernel_rfl) h
theorem QuL (a:List Qj) (k:Int):TCon Try.prog 160 [(.ow 0 QA dw a),(.c TI k)] (Y5 (Qi (α:=List Qj) a k)):=by
 refine Qp rfl fun hb=>tcg (Γ:=Qb8) (n:=27) (sg:=QfN.sg) Qo (TOkL.cons Qgz TOkL.nil) (by kernel_rfl) (by kernel_rfl) (Qwb _ a k ?_)
 have hl_a:a.length≤9223372036854775807:=hb.1.1
 refine Yn (A:=fun kk ii ll=>Qb2 (fun r'=>r'=Y5 (Qi (α:=List Qj) a k)) a kk ii ll) (Q:=fun z=>Y5 z=Y5 (Qi (α:=List Qj) a k)) a k ?_ ?_ rfl
 ·intro kk pre post x hl hA
  have hlt:pre.length<a.length:=by omega
  have hw:w64 (((pre.length:Nat):Int)+1)=((pre.length+1:Nat):Int):=by rw [QN (by omega) (by omega)];omega
  refine Qmt (fun r'=>r'=Y5 (Qi (α:=List Qj) a k)) a kk ((pre.length:Nat):Int) (pre++x::post) ?_
  refine ⟨fun _=>?_,fun h=>absurd h (by simp;omega)⟩
  simp only [Int.toNat_natCast,Nat.zero_add,Yb,Yz,Zw,Z8,hw,lt_f,hlt,ZK,and_true,true_and,Int.natCast_nonneg]
  exact hA
 ·intro kk l hl hq
  refine Qmt (fun r'=>r'=Y5 (Qi (α:=List Qj) a k)) a kk ((a.length:Nat):Int) l ?_
  exact ⟨fun h=>absurd h (by simp),fun _=>hq⟩
theorem QqT:Qm Try.prog QfN:=Qr fun x _=>QuL x.1 x.2.1
end
end Go.Proofs.Ytephkbajoofeoaa.Am

