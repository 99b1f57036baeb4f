/- -/
import Derived.Test.YtephkbajoofeoaaWAGF
namespace Go.Proofs.Ytephkbajoofeoaa.Am
open Go Go.RowKit Go.Proofs.Ytephkbajoofeoaa
set_option linter.all false
noncomputable section
variable (K:TRes→Prop)
def ZR (t:Int × (List Int)):TRes:=⟨(zci t.1),[],[],true,[(.sl 0 [TI] (.dp 0 false []) t.2)]⟩
def QaR:TRow:=Qm 69 [(.d [TI]),(.c TI)] fun x=>(none,ZR (QH (α:=List Int) x.1 x.2.1))
def QaA:TTab:=⟨[],true⟩
def QdI:TCode :=
 (zsq [(zsq [(.reg [zmv 6 5,zmv 7 0,zle 8 7,zbi 9 .lss 6 8]),(.cond 9 .skip (.exit 0))]),(.block 1 (zsq [(.reg [zmv 12 0,zmv 13 5,zmv 14 1,zia 15 12 13 [TI],zst 15 14 1]),(.reg [zmv 16 1,zbi 17 .add 16 (zki 1),zmv 1 17])])),(.reg [zmv 10 5,zbi 11 .add 10 (zki 1),zmv 5 11])])
def Qhq:List (Nat × Md):=[(0,.one .f),(1,.one .d),(5,.one .d)]
def Qgf:TCode :=
 (zsq [(.reg [zmv 18 1,zmv 4 18]),.ret])
def Qlx:TCode :=
 (zsq [(.reg [zmv 4 (zki 0)]),(zsq [(.reg [zmv 5 (zki 0)]),(.block 0 (.loop Qhq QdI))]),Qgf])
def Qe8:List (ARv × Md):=[(.t 4,.one .d)]
def Qgr:Qi:=TQ 0 1 Qe8 K
def Qns:Qi:=Qseq (tawp QaA 1 Qgf (Qgr K)) (Qgr K)
def Qlp:Qi:=Qblk 0 (Qns K)
def Qad (a:List Int) (k1:Int) (i:Int) (a1:List Int):Prop:=Loop QaA 1 Qhq QdI (Qlp K) ⟨[(0,(.r [TI] 0 0 a.length)),(1,(zci k1)),(5,(zci i))],[(0,(.sl 0 [TI] (.dp 0 false []) a1))],1⟩
theorem QfF (a:List Int) (k1:Int) (i:Int) (a1:List Int) (h :
 (zif (decide (i<((a.length:Nat):Int))) ((((0:Int)≤i∧Int.toNat i<a.length)∧((0+(Int.toNat i))<a1.length))∧(Qad K a (w64 (k1+(1:Int))) (w64 (i+(1:Int))) ((a1).set (0+(Int.toNat i)) k1))) (K (ZR (k1,a1))))):Qad K a k1 i a1 :=
 Loop.of (by kernel_rfl) h
theorem Qkn (a:List Int) (k:Int) (h :
 (Qad K a k 0 a)):Hold (tawp QaA (0+1) Qlx (TQ 0 1 Qe8 K) (Qk [(.ow 0 [TI] dw a),(.c TI k)])) :=
 Hold.of (by kernel_rfl) h
theorem Qip (a:List Int) (k:Int):TCon Try.prog 69 [(.ow 0 [TI] dw a),(.c TI k)] (ZR (QH (α:=List Int) a k)):=by
 refine Qp rfl fun hb=>tcg (Γ:=QaA) (n:=19) (sg:=QaR.sg) Qr TOkL.nil (by kernel_rfl) (by kernel_rfl) (Qkn _ a k ?_)
 have hl_a:a.length≤9223372036854775807:=hb.1.1
 refine Qe6 (A:=fun kk ii ll=>Qad (fun r'=>r'=ZR (QH (α:=List Int) a k)) a kk ii ll) (Q:=fun z=>ZR z=ZR (QH (α:=List Int) a k)) a k ?_ ?_ rfl
 ·intro kk pre post x hl hA
  have hlt:pre.length<a.length:=by omega
  have hw:w64 (((pre.length:Nat):Int)+1)=((pre.length+1:Nat):Int):=by rw [Q0 (by omega) (by omega)];omega
  refine QfF (fun r'=>r'=ZR (QH (α:=List Int) a k)) a kk ((pre.length:Nat):Int) (pre++x::post) ?_
  refine ⟨fun _=>?_,fun h=>absurd h (by simp;omega)⟩
  simp only [Int.toNat_natCast,Nat.zero_add,QgW,Qd3,YF,QeU,hw,lt_f,hlt,J8,and_true,true_and,Int.natCast_nonneg]
  exact hA
 ·intro kk l hl hq
  refine QfF (fun r'=>r'=ZR (QH (α:=List Int) a k)) a kk ((a.length:Nat):Int) l ?_
  exact ⟨fun h=>absurd h (by simp),fun _=>hq⟩
theorem QfS:Qo Try.prog QaR:=Qu fun x _=>Qip x.1 x.2.1
def ZF (t:Int):TRes:=zre (zci t)
def Qbf:TRow:=Qm 70 [(.c (.sl [TI])),(.c TI)] fun x=>(some (QO (α:=List Int) x.1 x.2.1),ZF (m_held (α:=List Int) x.1 x.2.1))
def QaJ:TTab:=⟨[],false⟩
def Qel:TCode :=
 (zsq [(zsq [(.reg [zmv 6 5,zmv 7 0,zle 8 7,zbi 9 .lss 6 8]),(.cond 9 .skip (.exit 0))]),(.block 1 (zsq [(zsq [(.reg [zmv 12 0,zmv 13 5,zia 14 12 13 [TI],zld 15 14 1,zmv 16 1,zbi 17 .neq 15 16]),(.cond 17 (zsq [(.reg [zmv 4 (zki (-1))]),.ret]) .skip)]),(.reg [zmv 18 1,zbi 19 .add 18 (zki 1),zmv 1 19])])),(.reg [zmv 10 5,zbi 11 .add 10 (zki 1),zmv 5 11])])
def Qe4:List (Nat × Md):=zdl [0,1,5]
def QhA:TCode :=
 (zsq [(.reg [zmv 20 1,zmv 4 20]),.ret])
def Qje:TCode :=
 (zsq [(.reg [zmv 4 (zki 0)]),(zsq [(.reg [zmv 5 (zki 0)]),(.block 0 (.loop Qe4 Qel))]),QhA])
def QdG:List (ARv × Md):=[(.t 4,.one .d)]
def QgY:Qi:=TQ 0 0 QdG K
def QlN:Qi:=Qseq (tawp QaJ 0 QhA (QgY K)) (QgY K)
def QmG:Qi:=Qblk 0 (QlN K)
def QaF (a:List Int) (k1:Int) (i:Int):Prop:=Loop QaJ 0 Qe4 Qel (QmG K) ⟨[(0,(zcs [TI] a)),(1,(zci k1)),(5,(zci i))],[],0⟩
theorem Qdg (a:List Int) (k1:Int) (i:Int) (h :
 (zif (decide (i<(a.length:Int))) (((0:Int)≤i∧Int.toNat i<a.length)∧(zif ((gtd (0:Int) a (Int.toNat i)) != k1) (K (ZF (-1:Int))) (QaF K a (w64 (k1+(1:Int))) (w64 (i+(1:Int)))))) (K (ZF k1)))):QaF K a k1 i :=
 Loop.of (by kernel_rfl) h
theorem Qi6 (a:List Int) (k:Int) (h :
 (QaF K a k 0)):Hold (tawp QaJ (0+0) Qje (TQ 0 0 QdG K) (Qk [(.c (.sl [TI]) a),(.c TI k)])) :=
 Hold.of (by kernel_rfl) h
theorem QmB (a:List Int) (k:Int) (hp:QO (α:=List Int) a k):TCon Try.prog 70 [(.c (.sl [TI]) a),(.c TI k)] (ZF (m_held (α:=List Int) a k)):=by
 refine Qp rfl fun hb=>tcg (Γ:=QaJ) (n:=21) (sg:=Qbf.sg) Qr TOkL.nil (by kernel_rfl) (by kernel_rfl) (Qi6 _ a k ?_)
 have hl_a:a.length≤9223372036854775807:=hb.1.1
 refine Qh1 (A:=fun kk ii=>QaF (fun r'=>r'=ZF (m_held (α:=List Int) a k)) a kk ii) (Q:=fun z=>ZF z=ZF (m_held (α:=List Int) a k)) a k hp ?_ ?_ rfl
 ·intro kk pre post x ha hpx hneg hpos
  have hlt:pre.length<a.length:=by rw [ha];simp
  have hg:∀ d,gtd d a pre.length=x:=fun d=>by rw [ha];exact YF d pre post x
  have hw:w64 (((pre.length:Nat):Int)+1)=((pre.length+1:Nat):Int):=by rw [Q0 (by omega) (by omega)];omega
  refine Qdg (fun r'=>r'=ZF (m_held (α:=List Int) a k)) a kk ((pre.length:Nat):Int) ?_
  refine ⟨fun _=>?_,fun h=>absurd h (by simp;omega)⟩
  simp only [Int.toNat_natCast,hg,hw,hlt,J8,and_true,true_and,Int.natCast_nonneg]
  simp only [Qh9,Qh2,Qfn,Prod.ext_iff] at hneg hpos
  refine ⟨fun h=>hneg (fun e=>QfT h (e).symm),fun h0=>?_⟩
  have e0:=(Qef h0).symm
  exact hpos e0
 ·intro kk hq
  refine Qdg (fun r'=>r'=ZF (m_held (α:=List Int) a k)) a kk ((a.length:Nat):Int) ?_
  exact ⟨fun h=>absurd h (by simp),fun _=>hq⟩
theorem QnS:Qo Try.prog Qbf:=Qu fun x h=>QmB x.1 x.2.1 h
def Z3 (t:Int × (List Qb)):TRes:=⟨(zci t.1),[],[],true,[(.sl 0 Qc (.dp 0 false []) t.2)]⟩
def Qbc:TRow:=Qm 129 [(.d Qc),(.c TI)] fun x=>(none,Z3 (QH (α:=List Qb) x.1 x.2.1))
def Qav:TTab:=⟨[QaR],true⟩
def QgD:TCode :=
 (zsq [(zsq [(.reg [zmv 6 5,zmv 7 0,zle 8 7,zbi 9 .lss 6 8]),(.cond 9 .skip (.exit 0))]),(.block 1 (zsq [(.reg [zmv 12 0,zmv 13 5,zmv 14 1,zia 15 12 13 Qc,zfa 16 15 0,zst 16 14 1]),(.reg [zmv 17 1,zbi 18 .add 17 (zki 1),zmv 1 18]),(.reg [zmv 19 0,zmv 20 5,zia 21 19 20 Qc,zfa 22 21 1,zld 23 22 1,zmv 24 1,zca 25 69 [23,24],zmv 1 25])])),(.reg [zmv 10 5,zbi 11 .add 10 (zki 1),zmv 5 11])])
def Qex:List (Nat × Md):=[(0,.one .f),(1,.one .d),(5,.one .d)]
def QhS:TCode :=
 (zsq [(.reg [zmv 26 1,zmv 4 26]),.ret])
def QmK:TCode :=
 (zsq [(.reg [zmv 4 (zki 0)]),(zsq [(.reg [zmv 5 (zki 0)]),(.block 0 (.loop Qex QgD))]),QhS])
def Qey:List (ARv × Md):=[(.t 4,.one .d)]
def QfP:Qi:=TQ 0 1 Qey K
def Qk8:Qi:=Qseq (tawp Qav 1 QhS (QfP K)) (QfP K)
def Qm7:Qi:=Qblk 0 (Qk8 K)
def Qay (a:List Qb) (k1:Int) (i:Int) (a1:List Qb):Prop:=Loop Qav 1 Qex QgD (Qm7 K) ⟨[(0,(.r Qc 0 0 a.length)),(1,(zci k1)),(5,(zci i))],[(0,(.sl 0 Qc (.dp 0 false []) a1))],1⟩
theorem QdV (a:List Qb) (k1:Int) (i:Int) (a1:List Qb) (h :
 (zif (decide (i<((a.length:Nat):Int))) ((((0:Int)≤i∧Int.toNat i<a.length)∧((0+(Int.toNat i))<a1.length))∧((((0:Int)≤i∧Int.toNat i<a.length)∧(((0+(Int.toNat i))<((sst ((0,[]):Qb) (0+(Int.toNat i)) (fun e_ k_=>(k_,e_.2)) (k1,a1)).2).length)∧((0+(Int.toNat i))<((sst ((0,[]):Qb) (0+(Int.toNat i)) (fun e_ k_=>(k_,e_.2)) (k1,a1)).2).length)))∧(Qay K a ((nst ((0,[]):Qb) (0+(Int.toNat i)) (fun e_=>e_.2) (fun e_ y_=>(e_.1,y_)) (QH (α:=List Int)) (sst ((0,[]):Qb) (0+(Int.toNat i)) (fun e_ k_=>(k_,e_.2)) (k1,a1))).1) (w64 (i+(1:Int))) ((nst ((0,[]):Qb) (0+(Int.toNat i)) (fun e_=>e_.2) (fun e_ y_=>(e_.1,y_)) (QH (α:=List Int)) (sst ((0,[]):Qb) (0+(Int.toNat i)) (fun e_ k_=>(k_,e_.2)) (k1,a1))).2)))) (K (Z3 (k1,a1))))):Qay K a k1 i a1 :=
 Loop.of (by kernel_rfl) h
theorem Qm2 (a:List Qb) (k:Int) (h :
 (Qay K a k 0 a)):Hold (tawp Qav (0+1) QmK (TQ 0 1 Qey K) (Qk [(.ow 0 Qc dw a),(.c TI k)])) :=
 Hold.of (by kernel_rfl) h
theorem QmZ (a:List Qb) (k:Int):TCon Try.prog 129 [(.ow 0 Qc dw a),(.c TI k)] (Z3 (QH (α:=List Qb) a k)):=by
 refine Qp rfl fun hb=>tcg (Γ:=Qav) (n:=27) (sg:=Qbc.sg) Qr (TOkL.cons QfS TOkL.nil) (by kernel_rfl) (by kernel_rfl) (Qm2 _ a k ?_)
 have hl_a:a.length≤9223372036854775807:=hb.1.1
 refine Qe6 (A:=fun kk ii ll=>Qay (fun r'=>r'=Z3 (QH (α:=List Qb) a k)) a kk ii ll) (Q:=fun z=>Z3 z=Z3 (QH (α:=List Qb) a k)) a k ?_ ?_ rfl
 ·intro kk pre post x hl hA
  have hlt:pre.length<a.length:=by omega
  have hw:w64 (((pre.length:Nat):Int)+1)=((pre.length+1:Nat):Int):=by rw [Q0 (by omega) (by omega)];omega
  refine QdV (fun r'=>r'=Z3 (QH (α:=List Qb) a k)) a kk ((pre.length:Nat):Int) (pre++x::post) ?_
  refine ⟨fun _=>?_,fun h=>absurd h (by simp;omega)⟩
  simp only [Int.toNat_natCast,Nat.zero_add,QgW,Qd3,YF,QeU,hw,lt_f,hlt,J8,and_true,true_and,Int.natCast_nonneg]
  exact hA
 ·intro kk l hl hq
  refine QdV (fun r'=>r'=Z3 (QH (α:=List Qb) a k)) a kk ((a.length:Nat):Int) l ?_
  exact ⟨fun h=>absurd h (by simp),fun _=>hq⟩
theorem Qoa:Qo Try.prog Qbc:=Qu fun x _=>QmZ x.1 x.2.1
def Zp (t:Int):TRes:=zre (zci t)
def Qbb:TRow:=Qm 130 [(.c (.sl Qc)),(.c TI)] fun x=>(some (QO (α:=List Qb) x.1 x.2.1),Zp (m_held (α:=List Qb) x.1 x.2.1))
def Qan:TTab:=⟨[Qbf],false⟩
def QdJ:TCode :=
 (zsq [(zsq [(.reg [zmv 6 5,zmv 7 0,zle 8 7,zbi 9 .lss 6 8]),(.cond 9 .skip (.exit 0))]),(.block 1 (zsq [(zsq [(.reg [zmv 12 0,zmv 13 5,zia 14 12 13 Qc,zfa 15 14 0,zld 16 15 1,zmv 17 1,zbi 18 .neq 16 17]),(.cond 18 (zsq [(.reg [zmv 4 (zki (-1))]),.ret]) .skip)]),(.reg [zmv 19 1,zbi 20 .add 19 (zki 1),zmv 1 20]),(.reg [zmv 21 0,zmv 22 5,zia 23 21 22 Qc,zfa 24 23 1,zld 25 24 1,zmv 26 1,zca 27 70 [25,26],zmv 1 27]),(.reg [zmv 28 1,zbi 29 .lss 28 (zki 0)]),(.cond 29 (zsq [(.reg [zmv 4 (zki (-1))]),.ret]) .skip)])),(.reg [zmv 10 5,zbi 11 .add 10 (zki 1),zmv 5 11])])
def QfW:List (Nat × Md):=zdl [0,1,5]
def Qfu:TCode :=
 (zsq [(.reg [zmv 30 1,zmv 4 30]),.ret])
def QjE:TCode :=
 (zsq [(.reg [zmv 4 (zki 0)]),(zsq [(.reg [zmv 5 (zki 0)]),(.block 0 (.loop QfW QdJ))]),Qfu])
def Qe2:List (ARv × Md):=[(.t 4,.one .d)]
def Qgl:Qi:=TQ 0 0 Qe2 K
def Qmb:Qi:=Qseq (tawp Qan 0 Qfu (Qgl K)) (Qgl K)
def Qlq:Qi:=Qblk 0 (Qmb K)
def JY (a:List Qb) (k1:Int) (i:Int):Prop:=Loop Qan 0 QfW QdJ (Qlq K) ⟨[(0,(zcs Qc a)),(1,(zci k1)),(5,(zci i))],[],0⟩
theorem Qgq (a:List Qb) (k1:Int) (i:Int) (h :
 (zif (decide (i<(a.length:Int))) (((0:Int)≤i∧Int.toNat i<a.length)∧(zif (((gtd ((0,[]):Qb) a (Int.toNat i)).1) != k1) (K (Zp (-1:Int))) ((((0:Int)≤i∧Int.toNat i<a.length)∧(QO (α:=List Int) ((gtd ((0,[]):Qb) a (Int.toNat i)).2) (w64 (k1+(1:Int)))))∧(zif (decide ((m_held (α:=List Int) ((gtd ((0,[]):Qb) a (Int.toNat i)).2) (w64 (k1+(1:Int))))<(0:Int))) (K (Zp (-1:Int))) (JY K a (m_held (α:=List Int) ((gtd ((0,[]):Qb) a (Int.toNat i)).2) (w64 (k1+(1:Int)))) (w64 (i+(1:Int)))))))) (K (Zp k1)))):JY K a k1 i :=
 Loop.of (by kernel_rfl) h
theorem QjH (a:List Qb) (k:Int) (h :
 (JY K a k 0)):Hold (tawp Qan (0+0) QjE (TQ 0 0 Qe2 K) (Qk [(.c (.sl Qc) a),(.c TI k)])) :=
 Hold.of (by kernel_rfl) h
theorem QjJ (a:List Qb) (k:Int) (hp:QO (α:=List Qb) a k):TCon Try.prog 130 [(.c (.sl Qc) a),(.c TI k)] (Zp (m_held (α:=List Qb) a k)):=by
 refine Qp rfl fun hb=>tcg (Γ:=Qan) (n:=31) (sg:=Qbb.sg) Qr (TOkL.cons QnS TOkL.nil) (by kernel_rfl) (by kernel_rfl) (QjH _ a k ?_)
 have hl_a:a.length≤9223372036854775807:=hb.1.1
 refine Qh1 (A:=fun kk ii=>JY (fun r'=>r'=Zp (m_held (α:=List Qb) a k)) a kk ii) (Q:=fun z=>Zp z=Zp (m_held (α:=List Qb) a k)) a k hp ?_ ?_ rfl
 ·intro kk pre post x ha hpx hneg hpos
  have hlt:pre.length<a.length:=by rw [ha];simp
  have hg:∀ d,gtd d a pre.length=x:=fun d=>by rw [ha];exact YF d pre post x
  have hw:w64 (((pre.length:Nat):Int)+1)=((pre.length+1:Nat):Int):=by rw [Q0 (by omega) (by omega)];omega
  refine Qgq (fun r'=>r'=Zp (m_held (α:=List Qb) a k)) a kk ((pre.length:Nat):Int) ?_
  refine ⟨fun _=>?_,fun h=>absurd h (by simp;omega)⟩
  simp only [Int.toNat_natCast,hg,hw,hlt,J8,and_true,true_and,Int.natCast_nonneg]
  have hp0:=(QhB hpx).1
  have hq0:=(QhB hpx).2
  simp only [Qh9,Qh2,Qfn,Prod.ext_iff] at hneg hpos hp0 hq0
  refine ⟨fun h=>hneg (fun e=>QfT h (e.1).symm),fun h0=>?_⟩
  have e0:=(Qef h0).symm
  refine ⟨hq0,fun h=>hneg (fun e=>QhC hq0 (of_decide_eq_true h) (e.2)),fun h1=>?_⟩
  obtain ⟨e1,h1⟩:=Qg4 (of_decide_eq_false h1)
  rw [h1]
  exact hpos ⟨e0,e1⟩
 ·intro kk hq
  refine Qgq (fun r'=>r'=Zp (m_held (α:=List Qb) a k)) a kk ((a.length:Nat):Int) ?_
  exact ⟨fun h=>absurd h (by simp),fun _=>hq⟩
theorem Qj8:Qo Try.prog Qbb:=Qu fun x h=>QjJ x.1 x.2.1 h
end
end Go.Proofs.Ytephkbajoofeoaa.Am

