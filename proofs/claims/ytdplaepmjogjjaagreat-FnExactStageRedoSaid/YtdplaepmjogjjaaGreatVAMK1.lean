/- -/
import Derived.Test.YtdplaepmjogjjaaGreatVAGF
namespace Go.Proofs.YtdplaepmjogjjaaGreat.Am
open Go Go.RowKit Go.Proofs.YtdplaepmjogjjaaGreat
set_option linter.all false
noncomputable section
variable (K:TRes→Prop)
def Jj (t:Int × (List Int)):TRes:=⟨(zci t.1),[],[],true,[(.sl 0 [TI] (.dp 0 false []) t.2)]⟩
def QcC:TRow:=Qh 26 [(.d [TI]),(.c TI)] fun x=>(none,Jj (Qy (α:=List Int) x.1 x.2.1))
def Qet:TTab:=⟨[],true⟩
def QjZ:TCode :=
 (zsq [(zsq [(.reg [zmv 6 5,zmv 7 0,zle 8 7,zbi 9 .lss 6 8]),(.cond 9 .skip (.exit 0))]),(.block 1 (zsq [(.reg [zmv 12 0,zmv 13 5,zmv 14 1,zia 15 12 13 [TI],zst 15 14 1]),(.reg [zmv 16 1,zbi 17 .add 16 (zki 1),zmv 1 17])])),(.reg [zmv 10 5,zbi 11 .add 10 (zki 1),zmv 5 11])])
def QoW:List (Nat × Md):=[(0,.one .f),(1,.one .d),(5,.one .d)]
def Qn2:TCode :=
 (zsq [(.reg [zmv 18 1,zmv 4 18]),.ret])
def Qtz:TCode :=
 (zsq [(.reg [zmv 4 (zki 0)]),(zsq [(.reg [zmv 5 (zki 0)]),(.block 0 (.loop QoW QjZ))]),Qn2])
def Qr3:List (ARv × Md):=[(.t 4,.one .d)]
def QnB:Qb:=TQ 0 1 Qr3 K
def QtQ:Qb:=Qseq (tawp Qet 1 Qn2 (QnB K)) (QnB K)
def Qx7:Qb:=Qblk 0 (QtQ K)
def Qdd (a:List Int) (k1:Int) (i:Int) (a1:List Int):Prop:=Loop Qet 1 QoW QjZ (Qx7 K) ⟨[(0,(.r [TI] 0 0 a.length)),(1,(zci k1)),(5,(zci i))],[(0,(.sl 0 [TI] (.dp 0 false []) a1))],1⟩
theorem QjR (a:List Int) (k1:Int) (i:Int) (a1:List Int) (h :
 (zif (decide (i<((a.length:Nat):Int))) ((((0:Int)≤i∧Int.toNat i<a.length)∧((0+(Int.toNat i))<a1.length))∧(Qdd K a (w64 (k1+(1:Int))) (w64 (i+(1:Int))) ((a1).set (0+(Int.toNat i)) k1))) (K (Jj (k1,a1))))):Qdd K a k1 i a1 :=
 Loop.of (by kernel_rfl) h
theorem QGJ (a:List Int) (k:Int) (h :
 (Qdd K a k 0 a)):Hold (tawp Qet (0+1) Qtz (TQ 0 1 Qr3 K) (Qf [(.ow 0 [TI] dw a),(.c TI k)])) :=
 Hold.of (by kernel_rfl) h
theorem Qxl (a:List Int) (k:Int):TCon Tryz.prog 26 [(.ow 0 [TI] dw a),(.c TI k)] (Jj (Qy (α:=List Int) a k)):=by
 refine Qj rfl fun hb=>tcg (Γ:=Qet) (n:=19) (sg:=QcC.sg) Qi TOkL.nil (by kernel_rfl) (by kernel_rfl) (QGJ _ a k ?_)
 have hl_a:a.length≤9223372036854775807:=hb.1.1
 refine Qbq (A:=fun kk ii ll=>Qdd (fun r'=>r'=Jj (Qy (α:=List Int) a k)) a kk ii ll) (Q:=fun z=>Jj z=Jj (Qy (α:=List Int) a k)) a k ?_ ?_ rfl
 ·intro kk pre post x hl hA
  have hlt:pre.length<a.length:=by omega
  have hw:w64 (((pre.length:Nat):Int)+1)=((pre.length+1:Nat):Int):=by rw [Qv (by omega) (by omega)];omega
  refine QjR (fun r'=>r'=Jj (Qy (α:=List Int) a k)) a kk ((pre.length:Nat):Int) (pre++x::post) ?_
  refine ⟨fun _=>?_,fun h=>absurd h (by simp;omega)⟩
  simp only [Int.toNat_natCast,Nat.zero_add,Qcw,Qb0,Yh,Qb9,hw,lt_f,hlt,YH,and_true,true_and,Int.natCast_nonneg]
  exact hA
 ·intro kk l hl hq
  refine QjR (fun r'=>r'=Jj (Qy (α:=List Int) a k)) a kk ((a.length:Nat):Int) l ?_
  exact ⟨fun h=>absurd h (by simp),fun _=>hq⟩
theorem QiZ:Qg Tryz.prog QcC:=Qk fun x _=>Qxl x.1 x.2.1
def Jc (t:Int):TRes:=zre (zci t)
def Qcx:TRow:=Qh 27 [(.c (.sl [TI])),(.c TI)] fun x=>(some (QO (α:=List Int) x.1 x.2.1),Jc (m_held (α:=List Int) x.1 x.2.1))
def Qfr:TTab:=⟨[],false⟩
def QkM:TCode :=
 (zsq [(zsq [(.reg [zmv 6 5,zmv 7 0,zle 8 7,zbi 9 .lss 6 8]),(.cond 9 .skip (.exit 0))]),(.block 1 (zsq [(zsq [(.reg [zmv 12 0,zmv 13 5,zia 14 12 13 [TI],zld 15 14 1,zmv 16 1,zbi 17 .neq 15 16]),(.cond 17 (zsq [(.reg [zmv 4 (zki (-1))]),.ret]) .skip)]),(.reg [zmv 18 1,zbi 19 .add 18 (zki 1),zmv 1 19])])),(.reg [zmv 10 5,zbi 11 .add 10 (zki 1),zmv 5 11])])
def Qoy:List (Nat × Md):=zdl [0,1,5]
def Qmf:TCode :=
 (zsq [(.reg [zmv 20 1,zmv 4 20]),.ret])
def Qv6:TCode :=
 (zsq [(.reg [zmv 4 (zki 0)]),(zsq [(.reg [zmv 5 (zki 0)]),(.block 0 (.loop Qoy QkM))]),Qmf])
def Qkf:List (ARv × Md):=[(.t 4,.one .d)]
def QlB:Qb:=TQ 0 0 Qkf K
def Quy:Qb:=Qseq (tawp Qfr 0 Qmf (QlB K)) (QlB K)
def QFz:Qb:=Qblk 0 (Quy K)
def QcX (a:List Int) (k1:Int) (i:Int):Prop:=Loop Qfr 0 Qoy QkM (QFz K) ⟨[(0,(zcs [TI] a)),(1,(zci k1)),(5,(zci i))],[],0⟩
theorem QqW (a:List Int) (k1:Int) (i:Int) (h :
 (zif (decide (i<(a.length:Int))) (((0:Int)≤i∧Int.toNat i<a.length)∧(zif ((gtd (0:Int) a (Int.toNat i)) != k1) (K (Jc (-1:Int))) (QcX K a (w64 (k1+(1:Int))) (w64 (i+(1:Int)))))) (K (Jc k1)))):QcX K a k1 i :=
 Loop.of (by kernel_rfl) h
theorem Qxm (a:List Int) (k:Int) (h :
 (QcX K a k 0)):Hold (tawp Qfr (0+0) Qv6 (TQ 0 0 Qkf K) (Qf [(.c (.sl [TI]) a),(.c TI k)])) :=
 Hold.of (by kernel_rfl) h
theorem QwZ (a:List Int) (k:Int) (hp:QO (α:=List Int) a k):TCon Tryz.prog 27 [(.c (.sl [TI]) a),(.c TI k)] (Jc (m_held (α:=List Int) a k)):=by
 refine Qj rfl fun hb=>tcg (Γ:=Qfr) (n:=21) (sg:=Qcx.sg) Qi TOkL.nil (by kernel_rfl) (by kernel_rfl) (Qxm _ a k ?_)
 have hl_a:a.length≤9223372036854775807:=hb.1.1
 refine Qcl (A:=fun kk ii=>QcX (fun r'=>r'=Jc (m_held (α:=List Int) a k)) a kk ii) (Q:=fun z=>Jc z=Jc (m_held (α:=List Int) a k)) a k hp ?_ ?_ rfl
 ·intro kk pre post x ha hpx hneg hpos
  have hlt:pre.length<a.length:=by rw [ha];simp
  have hg:∀ d,gtd d a pre.length=x:=fun d=>by rw [ha];exact Yh d pre post x
  have hw:w64 (((pre.length:Nat):Int)+1)=((pre.length+1:Nat):Int):=by rw [Qv (by omega) (by omega)];omega
  refine QqW (fun r'=>r'=Jc (m_held (α:=List Int) a k)) a kk ((pre.length:Nat):Int) ?_
  refine ⟨fun _=>?_,fun h=>absurd h (by simp;omega)⟩
  simp only [Int.toNat_natCast,hg,hw,hlt,YH,and_true,true_and,Int.natCast_nonneg]
  simp only [Qfl,QfD,Qc6,Prod.ext_iff] at hneg hpos
  refine ⟨fun h=>hneg (fun e=>Qaj h (e).symm),fun h0=>?_⟩
  have e0:=(J6 h0).symm
  exact hpos e0
 ·intro kk hq
  refine QqW (fun r'=>r'=Jc (m_held (α:=List Int) a k)) a kk ((a.length:Nat):Int) ?_
  exact ⟨fun h=>absurd h (by simp),fun _=>hq⟩
theorem Qhk:Qg Tryz.prog Qcx:=Qk fun x h=>QwZ x.1 x.2.1 h
def Jk (t:Int × (List (List Int))):TRes:=⟨(zci t.1),[],[],true,[(.sl 0 [(.sl [TI])] (.dp 0 false []) t.2)]⟩
def Qcf:TRow:=Qh 82 [(.d [(.sl [TI])]),(.c TI)] fun x=>(none,Jk (Qy (α:=List (List Int)) x.1 x.2.1))
def Qc2:TTab:=⟨[QcC],true⟩
def Qj8:TCode :=
 (zsq [(zsq [(.reg [zmv 6 5,zmv 7 0,zle 8 7,zbi 9 .lss 6 8]),(.cond 9 .skip (.exit 0))]),(.block 1 (.reg [zmv 12 0,zmv 13 5,zia 14 12 13 [(.sl [TI])],zfa 15 14 0,zld 16 15 1,zmv 17 1,zca 18 26 [16,17],zmv 1 18])),(.reg [zmv 10 5,zbi 11 .add 10 (zki 1),zmv 5 11])])
def Qkd:List (Nat × Md):=[(0,.one .f),(1,.one .d),(5,.one .d)]
def Qnb:TCode :=
 (zsq [(.reg [zmv 19 1,zmv 4 19]),.ret])
def QDe:TCode :=
 (zsq [(.reg [zmv 4 (zki 0)]),(zsq [(.reg [zmv 5 (zki 0)]),(.block 0 (.loop Qkd Qj8))]),Qnb])
def Qpz:List (ARv × Md):=[(.t 4,.one .d)]
def QqX:Qb:=TQ 0 1 Qpz K
def QzO:Qb:=Qseq (tawp Qc2 1 Qnb (QqX K)) (QqX K)
def QEd:Qb:=Qblk 0 (QzO K)
def QcW (a:List (List Int)) (k1:Int) (i:Int) (a1:List (List Int)):Prop:=Loop Qc2 1 Qkd Qj8 (QEd K) ⟨[(0,(.r [(.sl [TI])] 0 0 a.length)),(1,(zci k1)),(5,(zci i))],[(0,(.sl 0 [(.sl [TI])] (.dp 0 false []) a1))],1⟩
theorem Qlo (a:List (List Int)) (k1:Int) (i:Int) (a1:List (List Int)) (h :
 (zif (decide (i<((a.length:Nat):Int))) ((((0:Int)≤i∧Int.toNat i<a.length)∧(((0+(Int.toNat i))<a1.length)∧((0+(Int.toNat i))<a1.length)))∧(QcW K a ((nst ([]:List Int) (0+(Int.toNat i)) (fun e_=>e_) (fun e_ y_=>y_) (Qy (α:=List Int)) (k1,a1)).1) (w64 (i+(1:Int))) ((nst ([]:List Int) (0+(Int.toNat i)) (fun e_=>e_) (fun e_ y_=>y_) (Qy (α:=List Int)) (k1,a1)).2))) (K (Jk (k1,a1))))):QcW K a k1 i a1 :=
 Loop.of (by kernel_rfl) h
theorem Qvn (a:List (List Int)) (k:Int) (h :
 (QcW K a k 0 a)):Hold (tawp Qc2 (0+1) QDe (TQ 0 1 Qpz K) (Qf [(.ow 0 [(.sl [TI])] dw a),(.c TI k)])) :=
 Hold.of (by kernel_rfl) h
theorem QzA (a:List (List Int)) (k:Int):TCon Tryz.prog 82 [(.ow 0 [(.sl [TI])] dw a),(.c TI k)] (Jk (Qy (α:=List (List Int)) a k)):=by
 refine Qj rfl fun hb=>tcg (Γ:=Qc2) (n:=20) (sg:=Qcf.sg) Qi (TOkL.cons QiZ TOkL.nil) (by kernel_rfl) (by kernel_rfl) (Qvn _ a k ?_)
 have hl_a:a.length≤9223372036854775807:=hb.1.1
 refine Qbq (A:=fun kk ii ll=>QcW (fun r'=>r'=Jk (Qy (α:=List (List Int)) a k)) a kk ii ll) (Q:=fun z=>Jk z=Jk (Qy (α:=List (List Int)) a k)) a k ?_ ?_ rfl
 ·intro kk pre post x hl hA
  have hlt:pre.length<a.length:=by omega
  have hw:w64 (((pre.length:Nat):Int)+1)=((pre.length+1:Nat):Int):=by rw [Qv (by omega) (by omega)];omega
  refine Qlo (fun r'=>r'=Jk (Qy (α:=List (List Int)) a k)) a kk ((pre.length:Nat):Int) (pre++x::post) ?_
  refine ⟨fun _=>?_,fun h=>absurd h (by simp;omega)⟩
  simp only [Int.toNat_natCast,Nat.zero_add,Qcw,Qb0,Yh,Qb9,hw,lt_f,hlt,YH,and_true,true_and,Int.natCast_nonneg]
  exact hA
 ·intro kk l hl hq
  refine Qlo (fun r'=>r'=Jk (Qy (α:=List (List Int)) a k)) a kk ((a.length:Nat):Int) l ?_
  exact ⟨fun h=>absurd h (by simp),fun _=>hq⟩
theorem QgH:Qg Tryz.prog Qcf:=Qk fun x _=>QzA x.1 x.2.1
def Je (t:Int):TRes:=zre (zci t)
def Qcy:TRow:=Qh 86 [(.c (.sl [(.sl [TI])])),(.c TI)] fun x=>(some (QO (α:=List (List Int)) x.1 x.2.1),Je (m_held (α:=List (List Int)) x.1 x.2.1))
def Qe7:TTab:=⟨[Qcx],false⟩
def QnA:TCode :=
 (zsq [(zsq [(.reg [zmv 6 5,zmv 7 0,zle 8 7,zbi 9 .lss 6 8]),(.cond 9 .skip (.exit 0))]),(.block 1 (zsq [(.reg [zmv 12 0,zmv 13 5,zia 14 12 13 [(.sl [TI])],zfa 15 14 0,zld 16 15 1,zmv 17 1,zca 18 27 [16,17],zmv 1 18]),(.reg [zmv 19 1,zbi 20 .lss 19 (zki 0)]),(.cond 20 (zsq [(.reg [zmv 4 (zki (-1))]),.ret]) .skip)])),(.reg [zmv 10 5,zbi 11 .add 10 (zki 1),zmv 5 11])])
def Qpu:List (Nat × Md):=zdl [0,1,5]
def Qn3:TCode :=
 (zsq [(.reg [zmv 21 1,zmv 4 21]),.ret])
def QDP:TCode :=
 (zsq [(.reg [zmv 4 (zki 0)]),(zsq [(.reg [zmv 5 (zki 0)]),(.block 0 (.loop Qpu QnA))]),Qn3])
def QpG:List (ARv × Md):=[(.t 4,.one .d)]
def QmC:Qb:=TQ 0 0 QpG K
def QFN:Qb:=Qseq (tawp Qe7 0 Qn3 (QmC K)) (QmC K)
def QAC:Qb:=Qblk 0 (QFN K)
def Qc9 (a:List (List Int)) (k1:Int) (i:Int):Prop:=Loop Qe7 0 Qpu QnA (QAC K) ⟨[(0,(zcs [(.sl [TI])] a)),(1,(zci k1)),(5,(zci i))],[],0⟩
theorem Qo8 (a:List (List Int)) (k1:Int) (i:Int) (h :
 (zif (decide (i<(a.length:Int))) ((((0:Int)≤i∧Int.toNat i<a.length)∧(QO (α:=List Int) (gtd ([]:List Int) a (Int.toNat i)) k1))∧(zif (decide ((m_held (α:=List Int) (gtd ([]:List Int) a (Int.toNat i)) k1)<(0:Int))) (K (Je (-1:Int))) (Qc9 K a (m_held (α:=List Int) (gtd ([]:List Int) a (Int.toNat i)) k1) (w64 (i+(1:Int)))))) (K (Je k1)))):Qc9 K a k1 i :=
 Loop.of (by kernel_rfl) h
theorem QyU (a:List (List Int)) (k:Int) (h :
 (Qc9 K a k 0)):Hold (tawp Qe7 (0+0) QDP (TQ 0 0 QpG K) (Qf [(.c (.sl [(.sl [TI])]) a),(.c TI k)])) :=
 Hold.of (by kernel_rfl) h
theorem QzQ (a:List (List Int)) (k:Int) (hp:QO (α:=List (List Int)) a k):TCon Tryz.prog 86 [(.c (.sl [(.sl [TI])]) a),(.c TI k)] (Je (m_held (α:=List (List Int)) a k)):=by
 refine Qj rfl fun hb=>tcg (Γ:=Qe7) (n:=22) (sg:=Qcy.sg) Qi (TOkL.cons Qhk TOkL.nil) (by kernel_rfl) (by kernel_rfl) (QyU _ a k ?_)
 have hl_a:a.length≤9223372036854775807:=hb.1.1
 refine Qcl (A:=fun kk ii=>Qc9 (fun r'=>r'=Je (m_held (α:=List (List Int)) a k)) a kk ii) (Q:=fun z=>Je z=Je (m_held (α:=List (List Int)) a k)) a k hp ?_ ?_ rfl
 ·intro kk pre post x ha hpx hneg hpos
  have hlt:pre.length<a.length:=by rw [ha];simp
  have hg:∀ d,gtd d a pre.length=x:=fun d=>by rw [ha];exact Yh d pre post x
  have hw:w64 (((pre.length:Nat):Int)+1)=((pre.length+1:Nat):Int):=by rw [Qv (by omega) (by omega)];omega
  refine Qo8 (fun r'=>r'=Je (m_held (α:=List (List Int)) a k)) a kk ((pre.length:Nat):Int) ?_
  refine ⟨fun _=>?_,fun h=>absurd h (by simp;omega)⟩
  simp only [Int.toNat_natCast,hg,hw,hlt,YH,and_true,true_and,Int.natCast_nonneg]
  refine ⟨hpx,fun h=>hneg (fun e=>Z9 hpx (of_decide_eq_true h) (e)),fun h0=>?_⟩
  obtain ⟨e0,h0⟩:=Yj (of_decide_eq_false h0)
  rw [h0]
  exact hpos e0
 ·intro kk hq
  refine Qo8 (fun r'=>r'=Je (m_held (α:=List (List Int)) a k)) a kk ((a.length:Nat):Int) ?_
  exact ⟨fun h=>absurd h (by simp),fun _=>hq⟩
theorem QhE:Qg Tryz.prog Qcy:=Qk fun x h=>QzQ x.1 x.2.1 h
def JE (t:Int × (List TIns)):TRes:=⟨(zci t.1),[],[],true,[(.sl 0 Qo (.dp 0 false []) t.2)]⟩
def QhX:TRow:=Qh 79 [(.d Qo),(.c TI)] fun x=>(none,JE (Qy (α:=List TIns) x.1 x.2.1))
def QeF:TTab:=⟨[],true⟩
def Qqb:TCode :=
 (zsq [(zsq [(.reg [zmv 6 5,zmv 7 0,zle 8 7,zbi 9 .lss 6 8]),(.cond 9 .skip (.exit 0))]),(.block 1 (zsq [(.reg [zmv 12 0,zmv 13 5,zmv 14 1,zia 15 12 13 Qo,zfa 16 15 0,zst 16 14 1]),(.reg [zmv 17 1,zbi 18 .add 17 (zki 1),zmv 1 18]),(.reg [zmv 19 0,zmv 20 5,zmv 21 1,zia 22 19 20 Qo,zfa 23 22 1,zst 23 21 1]),(.reg [zmv 24 1,zbi 25 .add 24 (zki 1),zmv 1 25])])),(.reg [zmv 10 5,zbi 11 .add 10 (zki 1),zmv 5 11])])
def QqY:List (Nat × Md):=[(0,.one .f),(1,.one .d),(5,.one .d)]
def Qrr:TCode :=
 (zsq [(.reg [zmv 26 1,zmv 4 26]),.ret])
def QBb:TCode :=
 (zsq [(.reg [zmv 4 (zki 0)]),(zsq [(.reg [zmv 5 (zki 0)]),(.block 0 (.loop QqY Qqb))]),Qrr])
def Qnk:List (ARv × Md):=[(.t 4,.one .d)]
def Qj6:Qb:=TQ 0 1 Qnk K
def Qyz:Qb:=Qseq (tawp QeF 1 Qrr (Qj6 K)) (Qj6 K)
def Qvo:Qb:=Qblk 0 (Qyz K)
def Qdg (a:List TIns) (k1:Int) (i:Int) (a1:List TIns):Prop:=Loop QeF 1 QqY Qqb (Qvo K) ⟨[(0,(.r Qo 0 0 a.length)),(1,(zci k1)),(5,(zci i))],[(0,(.sl 0 Qo (.dp 0 false []) a1))],1⟩
theorem Qp3 (a:List TIns) (k1:Int) (i:Int) (a1:List TIns) (h :
 (zif (decide (i<((a.length:Nat):Int))) ((((0:Int)≤i∧Int.toNat i<a.length)∧((0+(Int.toNat i))<a1.length))∧((((0:Int)≤i∧Int.toNat i<a.length)∧((0+(Int.toNat i))<((sst dIns (0+(Int.toNat i)) (fun e_ k_=>(k_,e_.2)) (k1,a1)).2).length))∧(Qdg K a (w64 ((w64 (k1+(1:Int)))+(1:Int))) (w64 (i+(1:Int))) ((sst dIns (0+(Int.toNat i)) (fun e_ k_=>(e_.1,k_)) (sst dIns (0+(Int.toNat i)) (fun e_ k_=>(k_,e_.2)) (k1,a1))).2)))) (K (JE (k1,a1))))):Qdg K a k1 i a1 :=
 Loop.of (by kernel_rfl) h
theorem QBh (a:List TIns) (k:Int) (h :
 (Qdg K a k 0 a)):Hold (tawp QeF (0+1) QBb (TQ 0 1 Qnk K) (Qf [(.ow 0 Qo dw a),(.c TI k)])) :=
 Hold.of (by kernel_rfl) h
theorem Qxq (a:List TIns) (k:Int):TCon Tryz.prog 79 [(.ow 0 Qo dw a),(.c TI k)] (JE (Qy (α:=List TIns) a k)):=by
 refine Qj rfl fun hb=>tcg (Γ:=QeF) (n:=27) (sg:=QhX.sg) Qi TOkL.nil (by kernel_rfl) (by kernel_rfl) (QBh _ a k ?_)
 have hl_a:a.length≤9223372036854775807:=hb.1.1
 refine Qbq (A:=fun kk ii ll=>Qdg (fun r'=>r'=JE (Qy (α:=List TIns) a k)) a kk ii ll) (Q:=fun z=>JE z=JE (Qy (α:=List TIns) a k)) a k ?_ ?_ rfl
 ·intro kk pre post x hl hA
  have hlt:pre.length<a.length:=by omega
  have hw:w64 (((pre.length:Nat):Int)+1)=((pre.length+1:Nat):Int):=by rw [Qv (by omega) (by omega)];omega
  refine Qp3 (fun r'=>r'=JE (Qy (α:=List TIns) a k)) a kk ((pre.length:Nat):Int) (pre++x::post) ?_
  refine ⟨fun _=>?_,fun h=>absurd h (by simp;omega)⟩
  simp only [Int.toNat_natCast,Nat.zero_add,Qcw,Qb0,Yh,Qb9,hw,lt_f,hlt,YH,and_true,true_and,Int.natCast_nonneg]
  exact hA
 ·intro kk l hl hq
  refine Qp3 (fun r'=>r'=JE (Qy (α:=List TIns) a k)) a kk ((a.length:Nat):Int) l ?_
  exact ⟨fun h=>absurd h (by simp),fun _=>hq⟩
theorem QEH:Qg Tryz.prog QhX:=Qk fun x _=>Qxq x.1 x.2.1
def YL (t:Int):TRes:=zre (zci t)
def Qh0:TRow:=Qh 83 [(.c (.sl Qo)),(.c TI)] fun x=>(some (QO (α:=List TIns) x.1 x.2.1),YL (m_held (α:=List TIns) x.1 x.2.1))
def QeX:TTab:=⟨[],false⟩
def Ql2:TCode :=
 (zsq [(zsq [(.reg [zmv 6 5,zmv 7 0,zle 8 7,zbi 9 .lss 6 8]),(.cond 9 .skip (.exit 0))]),(.block 1 (zsq [(zsq [(.reg [zmv 12 0,zmv 13 5,zia 14 12 13 Qo,zfa 15 14 0,zld 16 15 1,zmv 17 1,zbi 18 .neq 16 17]),(.cond 18 (zsq [(.reg [zmv 4 (zki (-1))]),.ret]) .skip)]),(.reg [zmv 19 1,zbi 20 .add 19 (zki 1),zmv 1 20]),(zsq [(.reg [zmv 21 0,zmv 22 5,zia 23 21 22 Qo,zfa 24 23 1,zld 25 24 1,zmv 26 1,zbi 27 .neq 25 26]),(.cond 27 (zsq [(.reg [zmv 4 (zki (-1))]),.ret]) .skip)]),(.reg [zmv 28 1,zbi 29 .add 28 (zki 1),zmv 1 29])])),(.reg [zmv 10 5,zbi 11 .add 10 (zki 1),zmv 5 11])])
def QmJ:List (Nat × Md):=zdl [0,1,5]
def Qmt:TCode :=
 (zsq [(.reg [zmv 30 1,zmv 4 30]),.ret])
def QAi:TCode :=
 (zsq [(.reg [zmv 4 (zki 0)]),(zsq [(.reg [zmv 5 (zki 0)]),(.block 0 (.loop QmJ Ql2))]),Qmt])
def Qpx:List (ARv × Md):=[(.t 4,.one .d)]
def Qnp:Qb:=TQ 0 0 Qpx K
def QFd:Qb:=Qseq (tawp QeX 0 Qmt (Qnp K)) (Qnp K)
def QA2:Qb:=Qblk 0 (QFd K)
def Qed (a:List TIns) (k1:Int) (i:Int):Prop:=Loop QeX 0 QmJ Ql2 (QA2 K) ⟨[(0,(zcs Qo a)),(1,(zci k1)),(5,(zci i))],[],0⟩
theorem Qm2 (a:List TIns) (k1:Int) (i:Int) (h :
 (zif (decide (i<(a.length:Int))) (((0:Int)≤i∧Int.toNat i<a.length)∧(zif (((gtd dIns a (Int.toNat i)).1) != k1) (K (YL (-1:Int))) (((0:Int)≤i∧Int.toNat i<a.length)∧(zif (((gtd dIns a (Int.toNat i)).2) != (w64 (k1+(1:Int)))) (K (YL (-1:Int))) (Qed K a (w64 ((w64 (k1+(1:Int)))+(1:Int))) (w64 (i+(1:Int)))))))) (K (YL k1)))):Qed K a k1 i :=
 Loop.of (by kernel_rfl) h
theorem QxZ (a:List TIns) (k:Int) (h :
 (Qed K a k 0)):Hold (tawp QeX (0+0) QAi (TQ 0 0 Qpx K) (Qf [(.c (.sl Qo) a),(.c TI k)])) :=
 Hold.of (by kernel_rfl) h
theorem QFW (a:List TIns) (k:Int) (hp:QO (α:=List TIns) a k):TCon Tryz.prog 83 [(.c (.sl Qo) a),(.c TI k)] (YL (m_held (α:=List TIns) a k)):=by
 refine Qj rfl fun hb=>tcg (Γ:=QeX) (n:=31) (sg:=Qh0.sg) Qi TOkL.nil (by kernel_rfl) (by kernel_rfl) (QxZ _ a k ?_)
 have hl_a:a.length≤9223372036854775807:=hb.1.1
 refine Qcl (A:=fun kk ii=>Qed (fun r'=>r'=YL (m_held (α:=List TIns) a k)) a kk ii) (Q:=fun z=>YL z=YL (m_held (α:=List TIns) a k)) a k hp ?_ ?_ rfl
 ·intro kk pre post x ha hpx hneg hpos
  have hlt:pre.length<a.length:=by rw [ha];simp
  have hg:∀ d,gtd d a pre.length=x:=fun d=>by rw [ha];exact Yh d pre post x
  have hw:w64 (((pre.length:Nat):Int)+1)=((pre.length+1:Nat):Int):=by rw [Qv (by omega) (by omega)];omega
  refine Qm2 (fun r'=>r'=YL (m_held (α:=List TIns) a k)) a kk ((pre.length:Nat):Int) ?_
  refine ⟨fun _=>?_,fun h=>absurd h (by simp;omega)⟩
  simp only [Int.toNat_natCast,hg,hw,hlt,YH,and_true,true_and,Int.natCast_nonneg]
  have hp0:=(YK hpx).1
  have hq0:=(YK hpx).2
  simp only [Qfl,QfD,Qc6,Prod.ext_iff] at hneg hpos hp0 hq0
  refine ⟨fun h=>hneg (fun e=>Qaj h (e.1).symm),fun h0=>?_⟩
  have e0:=(J6 h0).symm
  refine ⟨fun h=>hneg (fun e=>Qaj h (e.2).symm),fun h1=>?_⟩
  have e1:=(J6 h1).symm
  exact hpos ⟨e0,e1⟩
 ·intro kk hq
  refine Qm2 (fun r'=>r'=YL (m_held (α:=List TIns) a k)) a kk ((a.length:Nat):Int) ?_
  exact ⟨fun h=>absurd h (by simp),fun _=>hq⟩
theorem QBQ:Qg Tryz.prog Qh0:=Qk fun x h=>QFW x.1 x.2.1 h
def JB (t:Int × (List TOp')):TRes:=⟨(zci t.1),[],[],true,[(.sl 0 ctOp (.dp 0 false []) t.2)]⟩
def QfO:TRow:=Qh 80 [(.d ctOp),(.c TI)] fun x=>(none,JB (Qy (α:=List TOp') x.1 x.2.1))
def Qfd:TTab:=⟨[QcC],true⟩
def QqV:TCode :=
 (zsq [(zsq [(.reg [zmv 6 5,zmv 7 0,zle 8 7,zbi 9 .lss 6 8]),(.cond 9 .skip (.exit 0))]),(.block 1 (zsq [(.reg [zmv 12 0,zmv 13 5,zmv 14 1,zia 15 12 13 ctOp,zfa 16 15 0,zst 16 14 1]),(.reg [zmv 17 1,zbi 18 .add 17 (zki 1),zmv 1 18]),(.reg [zmv 19 0,zmv 20 5,zmv 21 1,zia 22 19 20 ctOp,zfa 23 22 1,zst 23 21 1]),(.reg [zmv 24 1,zbi 25 .add 24 (zki 1),zmv 1 25]),(.reg [zmv 26 0,zmv 27 5,zmv 28 1,zia 29 26 27 ctOp,zfa 30 29 2,zst 30 28 1]),(.reg [zmv 31 1,zbi 32 .add 31 (zki 1),zmv 1 32]),(.reg [zmv 33 0,zmv 34 5,zia 35 33 34 ctOp,zfa 36 35 3,zld 37 36 1,zmv 38 1,zca 39 26 [37,38],zmv 1 39])])),(.reg [zmv 10 5,zbi 11 .add 10 (zki 1),zmv 5 11])])
def Qrl:List (Nat × Md):=[(0,.one .f),(1,.one .d),(5,.one .d)]
def QoL:TCode :=
 (zsq [(.reg [zmv 40 1,zmv 4 40]),.ret])
def QAV:TCode :=
 (zsq [(.reg [zmv 4 (zki 0)]),(zsq [(.reg [zmv 5 (zki 0)]),(.block 0 (.loop Qrl QqV))]),QoL])
def Qnn:List (ARv × Md):=[(.t 4,.one .d)]
def QmG:Qb:=TQ 0 1 Qnn K
def QD0:Qb:=Qseq (tawp Qfd 1 QoL (QmG K)) (QmG K)
def QyZ:Qb:=Qblk 0 (QD0 K)
def QeD (a:List TOp') (k1:Int) (i:Int) (a1:List TOp'):Prop:=Loop Qfd 1 Qrl QqV (QyZ K) ⟨[(0,(.r ctOp 0 0 a.length)),(1,(zci k1)),(5,(zci i))],[(0,(.sl 0 ctOp (.dp 0 false []) a1))],1⟩
theorem Qs2 (a:List TOp') (k1:Int) (i:Int) (a1:List TOp') (h :
 let z2:=sst dOp (0+(Int.toNat i)) (fun e_ k_=>(k_,e_.2.1,e_.2.2.1,e_.2.2.2)) (k1,a1)
 let z4:=sst dOp (0+(Int.toNat i)) (fun e_ k_=>(e_.1,k_,e_.2.2.1,e_.2.2.2)) z2
 let z1:=sst dOp (0+(Int.toNat i)) (fun e_ k_=>(e_.1,e_.2.1,k_,e_.2.2.2)) z4
 let z3:=nst dOp (0+(Int.toNat i)) (fun e_=>e_.2.2.2) (fun e_ y_=>(e_.1,e_.2.1,e_.2.2.1,y_)) (Qy (α:=List Int)) z1
 (zif (decide (i<((a.length:Nat):Int))) ((((0:Int)≤i∧Int.toNat i<a.length)∧((0+(Int.toNat i))<a1.length))∧((((0:Int)≤i∧Int.toNat i<a.length)∧((0+(Int.toNat i))<(z2.2).length))∧((((0:Int)≤i∧Int.toNat i<a.length)∧((0+(Int.toNat i))<(z4.2).length))∧((((0:Int)≤i∧Int.toNat i<a.length)∧(((0+(Int.toNat i))<(z1.2).length)∧((0+(Int.toNat i))<(z1.2).length)))∧(QeD K a (z3.1) (w64 (i+(1:Int))) (z3.2)))))) (K (JB (k1,a1))))):QeD K a k1 i a1 :=
 Loop.of (by kernel_rfl) h
theorem QF4 (a:List TOp') (k:Int) (h :
 (QeD K a k 0 a)):Hold (tawp Qfd (0+1) QAV (TQ 0 1 Qnn K) (Qf [(.ow 0 ctOp dw a),(.c TI k)])) :=
 Hold.of (by kernel_rfl) h
theorem QBk (a:List TOp') (k:Int):TCon Tryz.prog 80 [(.ow 0 ctOp dw a),(.c TI k)] (JB (Qy (α:=List TOp') a k)):=by
 refine Qj rfl fun hb=>tcg (Γ:=Qfd) (n:=41) (sg:=QfO.sg) Qi (TOkL.cons QiZ TOkL.nil) (by kernel_rfl) (by kernel_rfl) (QF4 _ a k ?_)
 have hl_a:a.length≤9223372036854775807:=hb.1.1
 refine Qbq (A:=fun kk ii ll=>QeD (fun r'=>r'=JB (Qy (α:=List TOp') a k)) a kk ii ll) (Q:=fun z=>JB z=JB (Qy (α:=List TOp') a k)) a k ?_ ?_ rfl
 ·intro kk pre post x hl hA
  have hlt:pre.length<a.length:=by omega
  have hw:w64 (((pre.length:Nat):Int)+1)=((pre.length+1:Nat):Int):=by rw [Qv (by omega) (by omega)];omega
  refine Qs2 (fun r'=>r'=JB (Qy (α:=List TOp') a k)) a kk ((pre.length:Nat):Int) (pre++x::post) ?_
  conv=>zeta
  refine ⟨fun _=>?_,fun h=>absurd h (by simp;omega)⟩
  simp only [Int.toNat_natCast,Nat.zero_add,Qcw,Qb0,Yh,Qb9,hw,lt_f,hlt,YH,and_true,true_and,Int.natCast_nonneg]
  exact hA
 ·intro kk l hl hq
  refine Qs2 (fun r'=>r'=JB (Qy (α:=List TOp') a k)) a kk ((a.length:Nat):Int) l ?_
  conv=>zeta
  exact ⟨fun h=>absurd h (by simp),fun _=>hq⟩
theorem QvK:Qg Tryz.prog QfO:=Qk fun x _=>QBk x.1 x.2.1
def Ya (t:Int):TRes:=zre (zci t)
def QhM:TRow:=Qh 84 [(.c (.sl ctOp)),(.c TI)] fun x=>(some (QO (α:=List TOp') x.1 x.2.1),Ya (m_held (α:=List TOp') x.1 x.2.1))
def QeW:TTab:=⟨[Qcx],false⟩
def QsF:TCode :=
 (zsq [(zsq [(.reg [zmv 6 5,zmv 7 0,zle 8 7,zbi 9 .lss 6 8]),(.cond 9 .skip (.exit 0))]),(.block 1 (zsq [(zsq [(.reg [zmv 12 0,zmv 13 5,zia 14 12 13 ctOp,zfa 15 14 0,zld 16 15 1,zmv 17 1,zbi 18 .neq 16 17]),(.cond 18 (zsq [(.reg [zmv 4 (zki (-1))]),.ret]) .skip)]),(.reg [zmv 19 1,zbi 20 .add 19 (zki 1),zmv 1 20]),(zsq [(.reg [zmv 21 0,zmv 22 5,zia 23 21 22 ctOp,zfa 24 23 1,zld 25 24 1,zmv 26 1,zbi 27 .neq 25 26]),(.cond 27 (zsq [(.reg [zmv 4 (zki (-1))]),.ret]) .skip)]),(.reg [zmv 28 1,zbi 29 .add 28 (zki 1),zmv 1 29]),(zsq [(.reg [zmv 30 0,zmv 31 5,zia 32 30 31 ctOp,zfa 33 32 2,zld 34 33 1,zmv 35 1,zbi 36 .neq 34 35]),(.cond 36 (zsq [(.reg [zmv 4 (zki (-1))]),.ret]) .skip)]),(.reg [zmv 37 1,zbi 38 .add 37 (zki 1),zmv 1 38]),(.reg [zmv 39 0,zmv 40 5,zia 41 39 40 ctOp,zfa 42 41 3,zld 43 42 1,zmv 44 1,zca 45 27 [43,44],zmv 1 45]),(.reg [zmv 46 1,zbi 47 .lss 46 (zki 0)]),(.cond 47 (zsq [(.reg [zmv 4 (zki (-1))]),.ret]) .skip)])),(.reg [zmv 10 5,zbi 11 .add 10 (zki 1),zmv 5 11])])
def Qqo:List (Nat × Md):=zdl [0,1,5]
def Qr6:TCode :=
 (zsq [(.reg [zmv 48 1,zmv 4 48]),.ret])
def QuW:TCode :=
 (zsq [(.reg [zmv 4 (zki 0)]),(zsq [(.reg [zmv 5 (zki 0)]),(.block 0 (.loop Qqo QsF))]),Qr6])
def Qo3:List (ARv × Md):=[(.t 4,.one .d)]
def Qp0:Qb:=TQ 0 0 Qo3 K
def Qx1:Qb:=Qseq (tawp QeW 0 Qr6 (Qp0 K)) (Qp0 K)
def QzR:Qb:=Qblk 0 (Qx1 K)
def Qfo (a:List TOp') (k1:Int) (i:Int):Prop:=Loop QeW 0 Qqo QsF (QzR K) ⟨[(0,(zcs ctOp a)),(1,(zci k1)),(5,(zci i))],[],0⟩
theorem Qnd (a:List TOp') (k1:Int) (i:Int) (h :
 (zif (decide (i<(a.length:Int))) (((0:Int)≤i∧Int.toNat i<a.length)∧(zif (((gtd dOp a (Int.toNat i)).1) != k1) (K (Ya (-1:Int))) (((0:Int)≤i∧Int.toNat i<a.length)∧(zif (((gtd dOp a (Int.toNat i)).2.1) != (w64 (k1+(1:Int)))) (K (Ya (-1:Int))) (((0:Int)≤i∧Int.toNat i<a.length)∧(zif (((gtd dOp a (Int.toNat i)).2.2.1) != (w64 ((w64 (k1+(1:Int)))+(1:Int)))) (K (Ya (-1:Int))) ((((0:Int)≤i∧Int.toNat i<a.length)∧(QO (α:=List Int) ((gtd dOp a (Int.toNat i)).2.2.2) (w64 ((w64 ((w64 (k1+(1:Int)))+(1:Int)))+(1:Int)))))∧(zif (decide ((m_held (α:=List Int) ((gtd dOp a (Int.toNat i)).2.2.2) (w64 ((w64 ((w64 (k1+(1:Int)))+(1:Int)))+(1:Int))))<(0:Int))) (K (Ya (-1:Int))) (Qfo K a (m_held (α:=List Int) ((gtd dOp a (Int.toNat i)).2.2.2) (w64 ((w64 ((w64 (k1+(1:Int)))+(1:Int)))+(1:Int)))) (w64 (i+(1:Int)))))))))))) (K (Ya k1)))):Qfo K a k1 i :=
 Loop.of (by kernel_rfl) h
theorem QGr (a:List TOp') (k:Int) (h :
 (Qfo K a k 0)):Hold (tawp QeW (0+0) QuW (TQ 0 0 Qo3 K) (Qf [(.c (.sl ctOp) a),(.c TI k)])) :=
 Hold.of (by kernel_rfl) h
theorem QDJ (a:List TOp') (k:Int) (hp:QO (α:=List TOp') a k):TCon Tryz.prog 84 [(.c (.sl ctOp) a),(.c TI k)] (Ya (m_held (α:=List TOp') a k)):=by
 refine Qj rfl fun hb=>tcg (Γ:=QeW) (n:=49) (sg:=QhM.sg) Qi (TOkL.cons Qhk TOkL.nil) (by kernel_rfl) (by kernel_rfl) (QGr _ a k ?_)
 have hl_a:a.length≤9223372036854775807:=hb.1.1
 refine Qcl (A:=fun kk ii=>Qfo (fun r'=>r'=Ya (m_held (α:=List TOp') a k)) a kk ii) (Q:=fun z=>Ya z=Ya (m_held (α:=List TOp') a k)) a k hp ?_ ?_ rfl
 ·intro kk pre post x ha hpx hneg hpos
  have hlt:pre.length<a.length:=by rw [ha];simp
  have hg:∀ d,gtd d a pre.length=x:=fun d=>by rw [ha];exact Yh d pre post x
  have hw:w64 (((pre.length:Nat):Int)+1)=((pre.length+1:Nat):Int):=by rw [Qv (by omega) (by omega)];omega
  refine Qnd (fun r'=>r'=Ya (m_held (α:=List TOp') a k)) a kk ((pre.length:Nat):Int) ?_
  refine ⟨fun _=>?_,fun h=>absurd h (by simp;omega)⟩
  simp only [Int.toNat_natCast,hg,hw,hlt,YH,and_true,true_and,Int.natCast_nonneg]
  have hp0:=(YK hpx).1
  have hq0:=(YK hpx).2
  have hp1:=(YK hq0).1
  have hq1:=(YK hq0).2
  have hp2:=(YK hq1).1
  have hq2:=(YK hq1).2
  simp only [Qfl,QfD,Qc6,Prod.ext_iff] at hneg hpos hp0 hq0 hp1 hq1 hp2 hq2
  refine ⟨fun h=>hneg (fun e=>Qaj h (e.1).symm),fun h0=>?_⟩
  have e0:=(J6 h0).symm
  refine ⟨fun h=>hneg (fun e=>Qaj h (e.2.1).symm),fun h1=>?_⟩
  have e1:=(J6 h1).symm
  refine ⟨fun h=>hneg (fun e=>Qaj h (e.2.2.1).symm),fun h2=>?_⟩
  have e2:=(J6 h2).symm
  refine ⟨hq2,fun h=>hneg (fun e=>Z9 hq2 (of_decide_eq_true h) (e.2.2.2)),fun h3=>?_⟩
  obtain ⟨e3,h3⟩:=Yj (of_decide_eq_false h3)
  rw [h3]
  exact hpos ⟨e0,e1,e2,e3⟩
 ·intro kk hq
  refine Qnd (fun r'=>r'=Ya (m_held (α:=List TOp') a k)) a kk ((a.length:Nat):Int) ?_
  exact ⟨fun h=>absurd h (by simp),fun _=>hq⟩
theorem QwT:Qg Tryz.prog QhM:=Qk fun x h=>QDJ x.1 x.2.1 h
def JG (t:Int × (List Qd)):TRes:=⟨(zci t.1),[],[],true,[(.sl 0 Ql (.dp 0 false []) t.2)]⟩
def Qhv:TRow:=Qh 81 [(.d Ql),(.c TI)] fun x=>(none,JG (Qy (α:=List Qd) x.1 x.2.1))
def Qei:TTab:=⟨[Qcf],true⟩
def QoO:TCode :=
 (zsq [(zsq [(.reg [zmv 6 5,zmv 7 0,zle 8 7,zbi 9 .lss 6 8]),(.cond 9 .skip (.exit 0))]),(.block 1 (zsq [(.reg [zmv 12 0,zmv 13 5,zmv 14 1,zia 15 12 13 Ql,zfa 16 15 0,zst 16 14 1]),(.reg [zmv 17 1,zbi 18 .add 17 (zki 1),zmv 1 18]),(.reg [zmv 19 0,zmv 20 5,zia 21 19 20 Ql,zfa 22 21 1,zld 23 22 1,zmv 24 1,zca 25 82 [23,24],zmv 1 25])])),(.reg [zmv 10 5,zbi 11 .add 10 (zki 1),zmv 5 11])])
def QnW:List (Nat × Md):=[(0,.one .f),(1,.one .d),(5,.one .d)]
def Qrm:TCode :=
 (zsq [(.reg [zmv 26 1,zmv 4 26]),.ret])
def QDq:TCode :=
 (zsq [(.reg [zmv 4 (zki 0)]),(zsq [(.reg [zmv 5 (zki 0)]),(.block 0 (.loop QnW QoO))]),Qrm])
def Qpd:List (ARv × Md):=[(.t 4,.one .d)]
def QpD:Qb:=TQ 0 1 Qpd K
def QFp:Qb:=Qseq (tawp Qei 1 Qrm (QpD K)) (QpD K)
def QEu:Qb:=Qblk 0 (QFp K)
def QdH (a:List Qd) (k1:Int) (i:Int) (a1:List Qd):Prop:=Loop Qei 1 QnW QoO (QEu K) ⟨[(0,(.r Ql 0 0 a.length)),(1,(zci k1)),(5,(zci i))],[(0,(.sl 0 Ql (.dp 0 false []) a1))],1⟩
theorem Qrb (a:List Qd) (k1:Int) (i:Int) (a1:List Qd) (h :
 (zif (decide (i<((a.length:Nat):Int))) ((((0:Int)≤i∧Int.toNat i<a.length)∧((0+(Int.toNat i))<a1.length))∧((((0:Int)≤i∧Int.toNat i<a.length)∧(((0+(Int.toNat i))<((sst Qu (0+(Int.toNat i)) (fun e_ k_=>(k_,e_.2)) (k1,a1)).2).length)∧((0+(Int.toNat i))<((sst Qu (0+(Int.toNat i)) (fun e_ k_=>(k_,e_.2)) (k1,a1)).2).length)))∧(QdH K a ((nst Qu (0+(Int.toNat i)) (fun e_=>e_.2) (fun e_ y_=>(e_.1,y_)) (Qy (α:=List (List Int))) (sst Qu (0+(Int.toNat i)) (fun e_ k_=>(k_,e_.2)) (k1,a1))).1) (w64 (i+(1:Int))) ((nst Qu (0+(Int.toNat i)) (fun e_=>e_.2) (fun e_ y_=>(e_.1,y_)) (Qy (α:=List (List Int))) (sst Qu (0+(Int.toNat i)) (fun e_ k_=>(k_,e_.2)) (k1,a1))).2)))) (K (JG (k1,a1))))):QdH K a k1 i a1 :=
 Loop.of (by kernel_rfl) h
theorem QFy (a:List Qd) (k:Int) (h :
 (QdH K a k 0 a)):Hold (tawp Qei (0+1) QDq (TQ 0 1 Qpd K) (Qf [(.ow 0 Ql dw a),(.c TI k)])) :=
 Hold.of (by kernel_rfl) h
theorem QC6 (a:List Qd) (k:Int):TCon Tryz.prog 81 [(.ow 0 Ql dw a),(.c TI k)] (JG (Qy (α:=List Qd) a k)):=by
 refine Qj rfl fun hb=>tcg (Γ:=Qei) (n:=27) (sg:=Qhv.sg) Qi (TOkL.cons QgH TOkL.nil) (by kernel_rfl) (by kernel_rfl) (QFy _ a k ?_)
 have hl_a:a.length≤9223372036854775807:=hb.1.1
 refine Qbq (A:=fun kk ii ll=>QdH (fun r'=>r'=JG (Qy (α:=List Qd) a k)) a kk ii ll) (Q:=fun z=>JG z=JG (Qy (α:=List Qd) a k)) a k ?_ ?_ rfl
 ·intro kk pre post x hl hA
  have hlt:pre.length<a.length:=by omega
  have hw:w64 (((pre.length:Nat):Int)+1)=((pre.length+1:Nat):Int):=by rw [Qv (by omega) (by omega)];omega
  refine Qrb (fun r'=>r'=JG (Qy (α:=List Qd) a k)) a kk ((pre.length:Nat):Int) (pre++x::post) ?_
  refine ⟨fun _=>?_,fun h=>absurd h (by simp;omega)⟩
  simp only [Int.toNat_natCast,Nat.zero_add,Qcw,Qb0,Yh,Qb9,hw,lt_f,hlt,YH,and_true,true_and,Int.natCast_nonneg]
  exact hA
 ·intro kk l hl hq
  refine Qrb (fun r'=>r'=JG (Qy (α:=List Qd) a k)) a kk ((a.length:Nat):Int) l ?_
  exact ⟨fun h=>absurd h (by simp),fun _=>hq⟩
theorem QxG:Qg Tryz.prog Qhv:=Qk fun x _=>QC6 x.1 x.2.1
def Yz (t:Int):TRes:=zre (zci t)
def QiQ:TRow:=Qh 85 [(.c (.sl Ql)),(.c TI)] fun x=>(some (QO (α:=List Qd) x.1 x.2.1),Yz (m_held (α:=List Qd) x.1 x.2.1))
def QcU:TTab:=⟨[Qcy],false⟩
def Qmz:TCode :=
 (zsq [(zsq [(.reg [zmv 6 5,zmv 7 0,zle 8 7,zbi 9 .lss 6 8]),(.cond 9 .skip (.exit 0))]),(.block 1 (zsq [(zsq [(.reg [zmv 12 0,zmv 13 5,zia 14 12 13 Ql,zfa 15 14 0,zld 16 15 1,zmv 17 1,zbi 18 .neq 16 17]),(.cond 18 (zsq [(.reg [zmv 4 (zki (-1))]),.ret]) .skip)]),(.reg [zmv 19 1,zbi 20 .add 19 (zki 1),zmv 1 20]),(.reg [zmv 21 0,zmv 22 5,zia 23 21 22 Ql,zfa 24 23 1,zld 25 24 1,zmv 26 1,zca 27 86 [25,26],zmv 1 27]),(.reg [zmv 28 1,zbi 29 .lss 28 (zki 0)]),(.cond 29 (zsq [(.reg [zmv 4 (zki (-1))]),.ret]) .skip)])),(.reg [zmv 10 5,zbi 11 .add 10 (zki 1),zmv 5 11])])
def QnJ:List (Nat × Md):=zdl [0,1,5]
def Qrv:TCode :=
 (zsq [(.reg [zmv 30 1,zmv 4 30]),.ret])
def QuB:TCode :=
 (zsq [(.reg [zmv 4 (zki 0)]),(zsq [(.reg [zmv 5 (zki 0)]),(.block 0 (.loop QnJ Qmz))]),Qrv])
def Qld:List (ARv × Md):=[(.t 4,.one .d)]
def Qk3:Qb:=TQ 0 0 Qld K
def QyS:Qb:=Qseq (tawp QcU 0 Qrv (Qk3 K)) (Qk3 K)
def Qx8:Qb:=Qblk 0 (QyS K)
def Qc0 (a:List Qd) (k1:Int) (i:Int):Prop:=Loop QcU 0 QnJ Qmz (Qx8 K) ⟨[(0,(zcs Ql a)),(1,(zci k1)),(5,(zci i))],[],0⟩
theorem Qm5 (a:List Qd) (k1:Int) (i:Int) (h :
 (zif (decide (i<(a.length:Int))) (((0:Int)≤i∧Int.toNat i<a.length)∧(zif (((gtd Qu a (Int.toNat i)).1) != k1) (K (Yz (-1:Int))) ((((0:Int)≤i∧Int.toNat i<a.length)∧(QO (α:=List (List Int)) ((gtd Qu a (Int.toNat i)).2) (w64 (k1+(1:Int)))))∧(zif (decide ((m_held (α:=List (List Int)) ((gtd Qu a (Int.toNat i)).2) (w64 (k1+(1:Int))))<(0:Int))) (K (Yz (-1:Int))) (Qc0 K a (m_held (α:=List (List Int)) ((gtd Qu a (Int.toNat i)).2) (w64 (k1+(1:Int)))) (w64 (i+(1:Int)))))))) (K (Yz k1)))):Qc0 K a k1 i :=
 Loop.of (by kernel_rfl) h
theorem QtS (a:List Qd) (k:Int) (h :
 (Qc0 K a k 0)):Hold (tawp QcU (0+0) QuB (TQ 0 0 Qld K) (Qf [(.c (.sl Ql) a),(.c TI k)])) :=
 Hold.of (by kernel_rfl) h
theorem Qxb (a:List Qd) (k:Int) (hp:QO (α:=List Qd) a k):TCon Tryz.prog 85 [(.c (.sl Ql) a),(.c TI k)] (Yz (m_held (α:=List Qd) a k)):=by
 refine Qj rfl fun hb=>tcg (Γ:=QcU) (n:=31) (sg:=QiQ.sg) Qi (TOkL.cons QhE TOkL.nil) (by kernel_rfl) (by kernel_rfl) (QtS _ a k ?_)
 have hl_a:a.length≤9223372036854775807:=hb.1.1
 refine Qcl (A:=fun kk ii=>Qc0 (fun r'=>r'=Yz (m_held (α:=List Qd) a k)) a kk ii) (Q:=fun z=>Yz z=Yz (m_held (α:=List Qd) a k)) a k hp ?_ ?_ rfl
 ·intro kk pre post x ha hpx hneg hpos
  have hlt:pre.length<a.length:=by rw [ha];simp
  have hg:∀ d,gtd d a pre.length=x:=fun d=>by rw [ha];exact Yh d pre post x
  have hw:w64 (((pre.length:Nat):Int)+1)=((pre.length+1:Nat):Int):=by rw [Qv (by omega) (by omega)];omega
  refine Qm5 (fun r'=>r'=Yz (m_held (α:=List Qd) a k)) a kk ((pre.length:Nat):Int) ?_
  refine ⟨fun _=>?_,fun h=>absurd h (by simp;omega)⟩
  simp only [Int.toNat_natCast,hg,hw,hlt,YH,and_true,true_and,Int.natCast_nonneg]
  have hp0:=(YK hpx).1
  have hq0:=(YK hpx).2
  simp only [Qfl,QfD,Qc6,Prod.ext_iff] at hneg hpos hp0 hq0
  refine ⟨fun h=>hneg (fun e=>Qaj h (e.1).symm),fun h0=>?_⟩
  have e0:=(J6 h0).symm
  refine ⟨hq0,fun h=>hneg (fun e=>Z9 hq0 (of_decide_eq_true h) (e.2)),fun h1=>?_⟩
  obtain ⟨e1,h1⟩:=Yj (of_decide_eq_false h1)
  rw [h1]
  exact hpos ⟨e0,e1⟩
 ·intro kk hq
  refine Qm5 (fun r'=>r'=Yz (m_held (α:=List Qd) a k)) a kk ((a.length:Nat):Int) ?_
  exact ⟨fun h=>absurd h (by simp),fun _=>hq⟩
theorem Qz8:Qg Tryz.prog QiQ:=Qk fun x h=>Qxb x.1 x.2.1 h
end
end Go.Proofs.YtdplaepmjogjjaaGreat.Am

