/- -/
import Derived.Test.YtdplaepmjogjjaaGreatVCGF
namespace Go.Proofs.YtdplaepmjogjjaaGreat.Am
open Go Go.RowKit Go.Proofs.YtdplaepmjogjjaaGreat
set_option linter.all false
noncomputable section
variable (K:TRes→Prop)
def JE (t:Int × (List Int)):TRes:=⟨(zci t.1),[],[],true,[(.sl 0 [TI] (.dp 0 false []) t.2)]⟩
def Qbd:TRow:=Qg 26 [(.d [TI]),(.c TI)] fun x=>(none,JE (Qz (α:=List Int) x.1 x.2.1))
def QeB:TTab:=⟨[],true⟩
def Qud:TCode :=
 (zsq [(zsq [(.reg [zmv 6 5,zmv 7 0,zle 8 7,zbi 9 .lss 6 8]),(.cond 9 .skip (.exit 0))]),(.block 1 (zsq [(.reg [zmv 12 0,zmv 13 5,zmv 14 1,zia 15 12 13 [TI],zst 15 14 1]),(.reg [zmv 16 1,zbi 17 .add 16 (zki 1),zmv 1 17])])),(.reg [zmv 10 5,zbi 11 .add 10 (zki 1),zmv 5 11])])
def QsK:List (Nat × Md):=[(0,.one .f),(1,.one .d),(5,.one .d)]
def QmQ:TCode :=
 (zsq [(.reg [zmv 18 1,zmv 4 18]),.ret])
def Qzu:TCode :=
 (zsq [(.reg [zmv 4 (zki 0)]),(zsq [(.reg [zmv 5 (zki 0)]),(.block 0 (.loop QsK Qud))]),QmQ])
def Qna:List (ARv × Md):=[(.t 4,.one .d)]
def Qpz:Qb:=TQ 0 1 Qna K
def Qv2:Qb:=Qseq (tawp QeB 1 QmQ (Qpz K)) (Qpz K)
def QB7:Qb:=Qblk 0 (Qv2 K)
def Qdk (a:List Int) (k1:Int) (i:Int) (a1:List Int):Prop:=Loop QeB 1 QsK Qud (QB7 K) ⟨[(0,(.r [TI] 0 0 a.length)),(1,(zci k1)),(5,(zci i))],[(0,(.sl 0 [TI] (.dp 0 false []) a1))],1⟩
theorem Qo9 (a:List Int) (k1:Int) (i:Int) (a1:List Int) (h :
 (zif (decide (i<((a.length:Nat):Int))) ((((0:Int)≤i∧Int.toNat i<a.length)∧((0+(Int.toNat i))<a1.length))∧(Qdk K a (w64 (k1+(1:Int))) (w64 (i+(1:Int))) ((a1).set (0+(Int.toNat i)) k1))) (K (JE (k1,a1))))):Qdk K a k1 i a1 :=
 Loop.of (by kernel_rfl) h
theorem QFX (a:List Int) (k:Int) (h :
 (Qdk K a k 0 a)):Hold (tawp QeB (0+1) Qzu (TQ 0 1 Qna K) (Qd [(.ow 0 [TI] dw a),(.c TI k)])) :=
 Hold.of (by kernel_rfl) h
theorem QHA (a:List Int) (k:Int):TCon Tryz.prog 26 [(.ow 0 [TI] dw a),(.c TI k)] (JE (Qz (α:=List Int) a k)):=by
 refine Qi rfl fun hb=>tcg (Γ:=QeB) (n:=19) (sg:=Qbd.sg) Qj TOkL.nil (by kernel_rfl) (by kernel_rfl) (QFX _ a k ?_)
 have hl_a:a.length≤9223372036854775807:=hb.1.1
 refine Qcp (A:=fun kk ii ll=>Qdk (fun r'=>r'=JE (Qz (α:=List Int) a k)) a kk ii ll) (Q:=fun z=>JE z=JE (Qz (α:=List Int) a k)) a k ?_ ?_ rfl
 ·intro kk pre post x hl hA
  have hlt:pre.length<a.length:=by omega
  have hw:w64 (((pre.length:Nat):Int)+1)=((pre.length+1:Nat):Int):=by rw [Qv (by omega) (by omega)];omega
  refine Qo9 (fun r'=>r'=JE (Qz (α:=List Int) a k)) a kk ((pre.length:Nat):Int) (pre++x::post) ?_
  refine ⟨fun _=>?_,fun h=>absurd h (by simp;omega)⟩
  simp only [Int.toNat_natCast,Nat.zero_add,Qc4,Qb0,Yr,QcI,hw,lt_f,hlt,YT,and_true,true_and,Int.natCast_nonneg]
  exact hA
 ·intro kk l hl hq
  refine Qo9 (fun r'=>r'=JE (Qz (α:=List Int) a k)) a kk ((a.length:Nat):Int) l ?_
  exact ⟨fun h=>absurd h (by simp),fun _=>hq⟩
theorem Qfz:Qe Tryz.prog Qbd:=Qk fun x _=>QHA x.1 x.2.1
def Y9 (t:Int):TRes:=zre (zci t)
def Qc0:TRow:=Qg 27 [(.c (.sl [TI])),(.c TI)] fun x=>(some (QZ (α:=List Int) x.1 x.2.1),Y9 (m_held (α:=List Int) x.1 x.2.1))
def QfA:TTab:=⟨[],false⟩
def Qnl:TCode :=
 (zsq [(zsq [(.reg [zmv 6 5,zmv 7 0,zle 8 7,zbi 9 .lss 6 8]),(.cond 9 .skip (.exit 0))]),(.block 1 (zsq [(zsq [(.reg [zmv 12 0,zmv 13 5,zia 14 12 13 [TI],zld 15 14 1,zmv 16 1,zbi 17 .neq 15 16]),(.cond 17 (zsq [(.reg [zmv 4 (zki (-1))]),.ret]) .skip)]),(.reg [zmv 18 1,zbi 19 .add 18 (zki 1),zmv 1 19])])),(.reg [zmv 10 5,zbi 11 .add 10 (zki 1),zmv 5 11])])
def QnE:List (Nat × Md):=zdl [0,1,5]
def QkQ:TCode :=
 (zsq [(.reg [zmv 20 1,zmv 4 20]),.ret])
def QyJ:TCode :=
 (zsq [(.reg [zmv 4 (zki 0)]),(zsq [(.reg [zmv 5 (zki 0)]),(.block 0 (.loop QnE Qnl))]),QkQ])
def Qnu:List (ARv × Md):=[(.t 4,.one .d)]
def Qqq:Qb:=TQ 0 0 Qnu K
def Qu6:Qb:=Qseq (tawp QfA 0 QkQ (Qqq K)) (Qqq K)
def QxR:Qb:=Qblk 0 (Qu6 K)
def QeE (a:List Int) (k1:Int) (i:Int):Prop:=Loop QfA 0 QnE Qnl (QxR K) ⟨[(0,(zcs [TI] a)),(1,(zci k1)),(5,(zci i))],[],0⟩
theorem Qsv (a:List Int) (k1:Int) (i:Int) (h :
 (zif (decide (i<(a.length:Int))) (((0:Int)≤i∧Int.toNat i<a.length)∧(zif ((gtd (0:Int) a (Int.toNat i)) != k1) (K (Y9 (-1:Int))) (QeE K a (w64 (k1+(1:Int))) (w64 (i+(1:Int)))))) (K (Y9 k1)))):QeE K a k1 i :=
 Loop.of (by kernel_rfl) h
theorem QHi (a:List Int) (k:Int) (h :
 (QeE K a k 0)):Hold (tawp QfA (0+0) QyJ (TQ 0 0 Qnu K) (Qd [(.c (.sl [TI]) a),(.c TI k)])) :=
 Hold.of (by kernel_rfl) h
theorem QCC (a:List Int) (k:Int) (hp:QZ (α:=List Int) a k):TCon Tryz.prog 27 [(.c (.sl [TI]) a),(.c TI k)] (Y9 (m_held (α:=List Int) a k)):=by
 refine Qi rfl fun hb=>tcg (Γ:=QfA) (n:=21) (sg:=Qc0.sg) Qj TOkL.nil (by kernel_rfl) (by kernel_rfl) (QHi _ a k ?_)
 have hl_a:a.length≤9223372036854775807:=hb.1.1
 refine Qck (A:=fun kk ii=>QeE (fun r'=>r'=Y9 (m_held (α:=List Int) a k)) a kk ii) (Q:=fun z=>Y9 z=Y9 (m_held (α:=List Int) a k)) a k hp ?_ ?_ rfl
 ·intro kk pre post x ha hpx hneg hpos
  have hlt:pre.length<a.length:=by rw [ha];simp
  have hg:∀ d,gtd d a pre.length=x:=fun d=>by rw [ha];exact Yr d pre post x
  have hw:w64 (((pre.length:Nat):Int)+1)=((pre.length+1:Nat):Int):=by rw [Qv (by omega) (by omega)];omega
  refine Qsv (fun r'=>r'=Y9 (m_held (α:=List Int) a k)) a kk ((pre.length:Nat):Int) ?_
  refine ⟨fun _=>?_,fun h=>absurd h (by simp;omega)⟩
  simp only [Int.toNat_natCast,hg,hw,hlt,YT,and_true,true_and,Int.natCast_nonneg]
  simp only [QeO,Qen,QdK,Prod.ext_iff] at hneg hpos
  refine ⟨fun h=>hneg (fun e=>Qaf h (e).symm),fun h0=>?_⟩
  have e0:=(Qat h0).symm
  exact hpos e0
 ·intro kk hq
  refine Qsv (fun r'=>r'=Y9 (m_held (α:=List Int) a k)) a kk ((a.length:Nat):Int) ?_
  exact ⟨fun h=>absurd h (by simp),fun _=>hq⟩
theorem Qj8:Qe Tryz.prog Qc0:=Qk fun x h=>QCC x.1 x.2.1 h
def JX (t:Int × (List (List Int))):TRes:=⟨(zci t.1),[],[],true,[(.sl 0 [(.sl [TI])] (.dp 0 false []) t.2)]⟩
def QcL:TRow:=Qg 82 [(.d [(.sl [TI])]),(.c TI)] fun x=>(none,JX (Qz (α:=List (List Int)) x.1 x.2.1))
def Qe6:TTab:=⟨[Qbd],true⟩
def Qmu:TCode :=
 (zsq [(zsq [(.reg [zmv 6 5,zmv 7 0,zle 8 7,zbi 9 .lss 6 8]),(.cond 9 .skip (.exit 0))]),(.block 1 (.reg [zmv 12 0,zmv 13 5,zia 14 12 13 [(.sl [TI])],zfa 15 14 0,zld 16 15 1,zmv 17 1,zca 18 26 [16,17],zmv 1 18])),(.reg [zmv 10 5,zbi 11 .add 10 (zki 1),zmv 5 11])])
def Qmt:List (Nat × Md):=[(0,.one .f),(1,.one .d),(5,.one .d)]
def QsJ:TCode :=
 (zsq [(.reg [zmv 19 1,zmv 4 19]),.ret])
def QFn:TCode :=
 (zsq [(.reg [zmv 4 (zki 0)]),(zsq [(.reg [zmv 5 (zki 0)]),(.block 0 (.loop Qmt Qmu))]),QsJ])
def QkJ:List (ARv × Md):=[(.t 4,.one .d)]
def Qq4:Qb:=TQ 0 1 QkJ K
def QBi:Qb:=Qseq (tawp Qe6 1 QsJ (Qq4 K)) (Qq4 K)
def QC5:Qb:=Qblk 0 (QBi K)
def Qfg (a:List (List Int)) (k1:Int) (i:Int) (a1:List (List Int)):Prop:=Loop Qe6 1 Qmt Qmu (QC5 K) ⟨[(0,(.r [(.sl [TI])] 0 0 a.length)),(1,(zci k1)),(5,(zci i))],[(0,(.sl 0 [(.sl [TI])] (.dp 0 false []) a1))],1⟩
theorem Qnt (a:List (List Int)) (k1:Int) (i:Int) (a1:List (List Int)) (h :
 (zif (decide (i<((a.length:Nat):Int))) ((((0:Int)≤i∧Int.toNat i<a.length)∧(((0+(Int.toNat i))<a1.length)∧((0+(Int.toNat i))<a1.length)))∧(Qfg K a ((nst ([]:List Int) (0+(Int.toNat i)) (fun e_=>e_) (fun e_ y_=>y_) (Qz (α:=List Int)) (k1,a1)).1) (w64 (i+(1:Int))) ((nst ([]:List Int) (0+(Int.toNat i)) (fun e_=>e_) (fun e_ y_=>y_) (Qz (α:=List Int)) (k1,a1)).2))) (K (JX (k1,a1))))):Qfg K a k1 i a1 :=
 Loop.of (by kernel_rfl) h
theorem QF9 (a:List (List Int)) (k:Int) (h :
 (Qfg K a k 0 a)):Hold (tawp Qe6 (0+1) QFn (TQ 0 1 QkJ K) (Qd [(.ow 0 [(.sl [TI])] dw a),(.c TI k)])) :=
 Hold.of (by kernel_rfl) h
theorem QvQ (a:List (List Int)) (k:Int):TCon Tryz.prog 82 [(.ow 0 [(.sl [TI])] dw a),(.c TI k)] (JX (Qz (α:=List (List Int)) a k)):=by
 refine Qi rfl fun hb=>tcg (Γ:=Qe6) (n:=20) (sg:=QcL.sg) Qj (TOkL.cons Qfz TOkL.nil) (by kernel_rfl) (by kernel_rfl) (QF9 _ a k ?_)
 have hl_a:a.length≤9223372036854775807:=hb.1.1
 refine Qcp (A:=fun kk ii ll=>Qfg (fun r'=>r'=JX (Qz (α:=List (List Int)) a k)) a kk ii ll) (Q:=fun z=>JX z=JX (Qz (α:=List (List Int)) a k)) a k ?_ ?_ rfl
 ·intro kk pre post x hl hA
  have hlt:pre.length<a.length:=by omega
  have hw:w64 (((pre.length:Nat):Int)+1)=((pre.length+1:Nat):Int):=by rw [Qv (by omega) (by omega)];omega
  refine Qnt (fun r'=>r'=JX (Qz (α:=List (List Int)) a k)) a kk ((pre.length:Nat):Int) (pre++x::post) ?_
  refine ⟨fun _=>?_,fun h=>absurd h (by simp;omega)⟩
  simp only [Int.toNat_natCast,Nat.zero_add,Qc4,Qb0,Yr,QcI,hw,lt_f,hlt,YT,and_true,true_and,Int.natCast_nonneg]
  exact hA
 ·intro kk l hl hq
  refine Qnt (fun r'=>r'=JX (Qz (α:=List (List Int)) a k)) a kk ((a.length:Nat):Int) l ?_
  exact ⟨fun h=>absurd h (by simp),fun _=>hq⟩
theorem QgQ:Qe Tryz.prog QcL:=Qk fun x _=>QvQ x.1 x.2.1
def Je (t:Int):TRes:=zre (zci t)
def QcH:TRow:=Qg 86 [(.c (.sl [(.sl [TI])])),(.c TI)] fun x=>(some (QZ (α:=List (List Int)) x.1 x.2.1),Je (m_held (α:=List (List Int)) x.1 x.2.1))
def Qex:TTab:=⟨[Qc0],false⟩
def QmV:TCode :=
 (zsq [(zsq [(.reg [zmv 6 5,zmv 7 0,zle 8 7,zbi 9 .lss 6 8]),(.cond 9 .skip (.exit 0))]),(.block 1 (zsq [(.reg [zmv 12 0,zmv 13 5,zia 14 12 13 [(.sl [TI])],zfa 15 14 0,zld 16 15 1,zmv 17 1,zca 18 27 [16,17],zmv 1 18]),(.reg [zmv 19 1,zbi 20 .lss 19 (zki 0)]),(.cond 20 (zsq [(.reg [zmv 4 (zki (-1))]),.ret]) .skip)])),(.reg [zmv 10 5,zbi 11 .add 10 (zki 1),zmv 5 11])])
def QmB:List (Nat × Md):=zdl [0,1,5]
def QoM:TCode :=
 (zsq [(.reg [zmv 21 1,zmv 4 21]),.ret])
def QHh:TCode :=
 (zsq [(.reg [zmv 4 (zki 0)]),(zsq [(.reg [zmv 5 (zki 0)]),(.block 0 (.loop QmB QmV))]),QoM])
def QmK:List (ARv × Md):=[(.t 4,.one .d)]
def QpX:Qb:=TQ 0 0 QmK K
def QwI:Qb:=Qseq (tawp Qex 0 QoM (QpX K)) (QpX K)
def QDZ:Qb:=Qblk 0 (QwI K)
def Qdt (a:List (List Int)) (k1:Int) (i:Int):Prop:=Loop Qex 0 QmB QmV (QDZ K) ⟨[(0,(zcs [(.sl [TI])] a)),(1,(zci k1)),(5,(zci i))],[],0⟩
theorem QrT (a:List (List Int)) (k1:Int) (i:Int) (h :
 (zif (decide (i<(a.length:Int))) ((((0:Int)≤i∧Int.toNat i<a.length)∧(QZ (α:=List Int) (gtd ([]:List Int) a (Int.toNat i)) k1))∧(zif (decide ((m_held (α:=List Int) (gtd ([]:List Int) a (Int.toNat i)) k1)<(0:Int))) (K (Je (-1:Int))) (Qdt K a (m_held (α:=List Int) (gtd ([]:List Int) a (Int.toNat i)) k1) (w64 (i+(1:Int)))))) (K (Je k1)))):Qdt K a k1 i :=
 Loop.of (by kernel_rfl) h
theorem QFG (a:List (List Int)) (k:Int) (h :
 (Qdt K a k 0)):Hold (tawp Qex (0+0) QHh (TQ 0 0 QmK K) (Qd [(.c (.sl [(.sl [TI])]) a),(.c TI k)])) :=
 Hold.of (by kernel_rfl) h
theorem QAy (a:List (List Int)) (k:Int) (hp:QZ (α:=List (List Int)) a k):TCon Tryz.prog 86 [(.c (.sl [(.sl [TI])]) a),(.c TI k)] (Je (m_held (α:=List (List Int)) a k)):=by
 refine Qi rfl fun hb=>tcg (Γ:=Qex) (n:=22) (sg:=QcH.sg) Qj (TOkL.cons Qj8 TOkL.nil) (by kernel_rfl) (by kernel_rfl) (QFG _ a k ?_)
 have hl_a:a.length≤9223372036854775807:=hb.1.1
 refine Qck (A:=fun kk ii=>Qdt (fun r'=>r'=Je (m_held (α:=List (List Int)) a k)) a kk ii) (Q:=fun z=>Je z=Je (m_held (α:=List (List Int)) a k)) a k hp ?_ ?_ rfl
 ·intro kk pre post x ha hpx hneg hpos
  have hlt:pre.length<a.length:=by rw [ha];simp
  have hg:∀ d,gtd d a pre.length=x:=fun d=>by rw [ha];exact Yr d pre post x
  have hw:w64 (((pre.length:Nat):Int)+1)=((pre.length+1:Nat):Int):=by rw [Qv (by omega) (by omega)];omega
  refine QrT (fun r'=>r'=Je (m_held (α:=List (List Int)) a k)) a kk ((pre.length:Nat):Int) ?_
  refine ⟨fun _=>?_,fun h=>absurd h (by simp;omega)⟩
  simp only [Int.toNat_natCast,hg,hw,hlt,YT,and_true,true_and,Int.natCast_nonneg]
  refine ⟨hpx,fun h=>hneg (fun e=>Yl hpx (of_decide_eq_true h) (e)),fun h0=>?_⟩
  obtain ⟨e0,h0⟩:=Yf (of_decide_eq_false h0)
  rw [h0]
  exact hpos e0
 ·intro kk hq
  refine QrT (fun r'=>r'=Je (m_held (α:=List (List Int)) a k)) a kk ((a.length:Nat):Int) ?_
  exact ⟨fun h=>absurd h (by simp),fun _=>hq⟩
theorem Qh1:Qe Tryz.prog QcH:=Qk fun x h=>QAy x.1 x.2.1 h
def Jv (t:Int × (List TIns)):TRes:=⟨(zci t.1),[],[],true,[(.sl 0 Qr (.dp 0 false []) t.2)]⟩
def QgC:TRow:=Qg 79 [(.d Qr),(.c TI)] fun x=>(none,Jv (Qz (α:=List TIns) x.1 x.2.1))
def QdE:TTab:=⟨[],true⟩
def Qm9:TCode :=
 (zsq [(zsq [(.reg [zmv 6 5,zmv 7 0,zle 8 7,zbi 9 .lss 6 8]),(.cond 9 .skip (.exit 0))]),(.block 1 (zsq [(.reg [zmv 12 0,zmv 13 5,zmv 14 1,zia 15 12 13 Qr,zfa 16 15 0,zst 16 14 1]),(.reg [zmv 17 1,zbi 18 .add 17 (zki 1),zmv 1 18]),(.reg [zmv 19 0,zmv 20 5,zmv 21 1,zia 22 19 20 Qr,zfa 23 22 1,zst 23 21 1]),(.reg [zmv 24 1,zbi 25 .add 24 (zki 1),zmv 1 25])])),(.reg [zmv 10 5,zbi 11 .add 10 (zki 1),zmv 5 11])])
def Qlq:List (Nat × Md):=[(0,.one .f),(1,.one .d),(5,.one .d)]
def Qqt:TCode :=
 (zsq [(.reg [zmv 26 1,zmv 4 26]),.ret])
def Qut:TCode :=
 (zsq [(.reg [zmv 4 (zki 0)]),(zsq [(.reg [zmv 5 (zki 0)]),(.block 0 (.loop Qlq Qm9))]),Qqt])
def Qod:List (ARv × Md):=[(.t 4,.one .d)]
def QsN:Qb:=TQ 0 1 Qod K
def QDu:Qb:=Qseq (tawp QdE 1 Qqt (QsN K)) (QsN K)
def QFp:Qb:=Qblk 0 (QDu K)
def Qeo (a:List TIns) (k1:Int) (i:Int) (a1:List TIns):Prop:=Loop QdE 1 Qlq Qm9 (QFp K) ⟨[(0,(.r Qr 0 0 a.length)),(1,(zci k1)),(5,(zci i))],[(0,(.sl 0 Qr (.dp 0 false []) a1))],1⟩
theorem QmG (a:List TIns) (k1:Int) (i:Int) (a1:List TIns) (h :
 (zif (decide (i<((a.length:Nat):Int))) ((((0:Int)≤i∧Int.toNat i<a.length)∧((0+(Int.toNat i))<a1.length))∧((((0:Int)≤i∧Int.toNat i<a.length)∧((0+(Int.toNat i))<((sst dIns (0+(Int.toNat i)) (fun e_ k_=>(k_,e_.2)) (k1,a1)).2).length))∧(Qeo K a (w64 ((w64 (k1+(1:Int)))+(1:Int))) (w64 (i+(1:Int))) ((sst dIns (0+(Int.toNat i)) (fun e_ k_=>(e_.1,k_)) (sst dIns (0+(Int.toNat i)) (fun e_ k_=>(k_,e_.2)) (k1,a1))).2)))) (K (Jv (k1,a1))))):Qeo K a k1 i a1 :=
 Loop.of (by kernel_rfl) h
theorem QCJ (a:List TIns) (k:Int) (h :
 (Qeo K a k 0 a)):Hold (tawp QdE (0+1) Qut (TQ 0 1 Qod K) (Qd [(.ow 0 Qr dw a),(.c TI k)])) :=
 Hold.of (by kernel_rfl) h
theorem QCX (a:List TIns) (k:Int):TCon Tryz.prog 79 [(.ow 0 Qr dw a),(.c TI k)] (Jv (Qz (α:=List TIns) a k)):=by
 refine Qi rfl fun hb=>tcg (Γ:=QdE) (n:=27) (sg:=QgC.sg) Qj TOkL.nil (by kernel_rfl) (by kernel_rfl) (QCJ _ a k ?_)
 have hl_a:a.length≤9223372036854775807:=hb.1.1
 refine Qcp (A:=fun kk ii ll=>Qeo (fun r'=>r'=Jv (Qz (α:=List TIns) a k)) a kk ii ll) (Q:=fun z=>Jv z=Jv (Qz (α:=List TIns) a k)) a k ?_ ?_ rfl
 ·intro kk pre post x hl hA
  have hlt:pre.length<a.length:=by omega
  have hw:w64 (((pre.length:Nat):Int)+1)=((pre.length+1:Nat):Int):=by rw [Qv (by omega) (by omega)];omega
  refine QmG (fun r'=>r'=Jv (Qz (α:=List TIns) a k)) a kk ((pre.length:Nat):Int) (pre++x::post) ?_
  refine ⟨fun _=>?_,fun h=>absurd h (by simp;omega)⟩
  simp only [Int.toNat_natCast,Nat.zero_add,Qc4,Qb0,Yr,QcI,hw,lt_f,hlt,YT,and_true,true_and,Int.natCast_nonneg]
  exact hA
 ·intro kk l hl hq
  refine QmG (fun r'=>r'=Jv (Qz (α:=List TIns) a k)) a kk ((a.length:Nat):Int) l ?_
  exact ⟨fun h=>absurd h (by simp),fun _=>hq⟩
theorem Qw6:Qe Tryz.prog QgC:=Qk fun x _=>QCX x.1 x.2.1
def YS (t:Int):TRes:=zre (zci t)
def Qi6:TRow:=Qg 83 [(.c (.sl Qr)),(.c TI)] fun x=>(some (QZ (α:=List TIns) x.1 x.2.1),YS (m_held (α:=List TIns) x.1 x.2.1))
def Qec:TTab:=⟨[],false⟩
def Qqp:TCode :=
 (zsq [(zsq [(.reg [zmv 6 5,zmv 7 0,zle 8 7,zbi 9 .lss 6 8]),(.cond 9 .skip (.exit 0))]),(.block 1 (zsq [(zsq [(.reg [zmv 12 0,zmv 13 5,zia 14 12 13 Qr,zfa 15 14 0,zld 16 15 1,zmv 17 1,zbi 18 .neq 16 17]),(.cond 18 (zsq [(.reg [zmv 4 (zki (-1))]),.ret]) .skip)]),(.reg [zmv 19 1,zbi 20 .add 19 (zki 1),zmv 1 20]),(zsq [(.reg [zmv 21 0,zmv 22 5,zia 23 21 22 Qr,zfa 24 23 1,zld 25 24 1,zmv 26 1,zbi 27 .neq 25 26]),(.cond 27 (zsq [(.reg [zmv 4 (zki (-1))]),.ret]) .skip)]),(.reg [zmv 28 1,zbi 29 .add 28 (zki 1),zmv 1 29])])),(.reg [zmv 10 5,zbi 11 .add 10 (zki 1),zmv 5 11])])
def QqV:List (Nat × Md):=zdl [0,1,5]
def QlA:TCode :=
 (zsq [(.reg [zmv 30 1,zmv 4 30]),.ret])
def QGN:TCode :=
 (zsq [(.reg [zmv 4 (zki 0)]),(zsq [(.reg [zmv 5 (zki 0)]),(.block 0 (.loop QqV Qqp))]),QlA])
def Qq0:List (ARv × Md):=[(.t 4,.one .d)]
def Qlj:Qb:=TQ 0 0 Qq0 K
def QGe:Qb:=Qseq (tawp Qec 0 QlA (Qlj K)) (Qlj K)
def QyI:Qb:=Qblk 0 (QGe K)
def QfF (a:List TIns) (k1:Int) (i:Int):Prop:=Loop Qec 0 QqV Qqp (QyI K) ⟨[(0,(zcs Qr a)),(1,(zci k1)),(5,(zci i))],[],0⟩
theorem Ql2 (a:List TIns) (k1:Int) (i:Int) (h :
 (zif (decide (i<(a.length:Int))) (((0:Int)≤i∧Int.toNat i<a.length)∧(zif (((gtd dIns a (Int.toNat i)).1) != k1) (K (YS (-1:Int))) (((0:Int)≤i∧Int.toNat i<a.length)∧(zif (((gtd dIns a (Int.toNat i)).2) != (w64 (k1+(1:Int)))) (K (YS (-1:Int))) (QfF K a (w64 ((w64 (k1+(1:Int)))+(1:Int))) (w64 (i+(1:Int)))))))) (K (YS k1)))):QfF K a k1 i :=
 Loop.of (by kernel_rfl) h
theorem Qu2 (a:List TIns) (k:Int) (h :
 (QfF K a k 0)):Hold (tawp Qec (0+0) QGN (TQ 0 0 Qq0 K) (Qd [(.c (.sl Qr) a),(.c TI k)])) :=
 Hold.of (by kernel_rfl) h
theorem QvA (a:List TIns) (k:Int) (hp:QZ (α:=List TIns) a k):TCon Tryz.prog 83 [(.c (.sl Qr) a),(.c TI k)] (YS (m_held (α:=List TIns) a k)):=by
 refine Qi rfl fun hb=>tcg (Γ:=Qec) (n:=31) (sg:=Qi6.sg) Qj TOkL.nil (by kernel_rfl) (by kernel_rfl) (Qu2 _ a k ?_)
 have hl_a:a.length≤9223372036854775807:=hb.1.1
 refine Qck (A:=fun kk ii=>QfF (fun r'=>r'=YS (m_held (α:=List TIns) a k)) a kk ii) (Q:=fun z=>YS z=YS (m_held (α:=List TIns) a k)) a k hp ?_ ?_ rfl
 ·intro kk pre post x ha hpx hneg hpos
  have hlt:pre.length<a.length:=by rw [ha];simp
  have hg:∀ d,gtd d a pre.length=x:=fun d=>by rw [ha];exact Yr d pre post x
  have hw:w64 (((pre.length:Nat):Int)+1)=((pre.length+1:Nat):Int):=by rw [Qv (by omega) (by omega)];omega
  refine Ql2 (fun r'=>r'=YS (m_held (α:=List TIns) a k)) a kk ((pre.length:Nat):Int) ?_
  refine ⟨fun _=>?_,fun h=>absurd h (by simp;omega)⟩
  simp only [Int.toNat_natCast,hg,hw,hlt,YT,and_true,true_and,Int.natCast_nonneg]
  have hp0:=(YH hpx).1
  have hq0:=(YH hpx).2
  simp only [QeO,Qen,QdK,Prod.ext_iff] at hneg hpos hp0 hq0
  refine ⟨fun h=>hneg (fun e=>Qaf h (e.1).symm),fun h0=>?_⟩
  have e0:=(Qat h0).symm
  refine ⟨fun h=>hneg (fun e=>Qaf h (e.2).symm),fun h1=>?_⟩
  have e1:=(Qat h1).symm
  exact hpos ⟨e0,e1⟩
 ·intro kk hq
  refine Ql2 (fun r'=>r'=YS (m_held (α:=List TIns) a k)) a kk ((a.length:Nat):Int) ?_
  exact ⟨fun h=>absurd h (by simp),fun _=>hq⟩
theorem QzK:Qe Tryz.prog Qi6:=Qk fun x h=>QvA x.1 x.2.1 h
def JU (t:Int × (List TOp')):TRes:=⟨(zci t.1),[],[],true,[(.sl 0 ctOp (.dp 0 false []) t.2)]⟩
def QhX:TRow:=Qg 80 [(.d ctOp),(.c TI)] fun x=>(none,JU (Qz (α:=List TOp') x.1 x.2.1))
def Qfc:TTab:=⟨[Qbd],true⟩
def Qsf:TCode :=
 (zsq [(zsq [(.reg [zmv 6 5,zmv 7 0,zle 8 7,zbi 9 .lss 6 8]),(.cond 9 .skip (.exit 0))]),(.block 1 (zsq [(.reg [zmv 12 0,zmv 13 5,zmv 14 1,zia 15 12 13 ctOp,zfa 16 15 0,zst 16 14 1]),(.reg [zmv 17 1,zbi 18 .add 17 (zki 1),zmv 1 18]),(.reg [zmv 19 0,zmv 20 5,zmv 21 1,zia 22 19 20 ctOp,zfa 23 22 1,zst 23 21 1]),(.reg [zmv 24 1,zbi 25 .add 24 (zki 1),zmv 1 25]),(.reg [zmv 26 0,zmv 27 5,zmv 28 1,zia 29 26 27 ctOp,zfa 30 29 2,zst 30 28 1]),(.reg [zmv 31 1,zbi 32 .add 31 (zki 1),zmv 1 32]),(.reg [zmv 33 0,zmv 34 5,zia 35 33 34 ctOp,zfa 36 35 3,zld 37 36 1,zmv 38 1,zca 39 26 [37,38],zmv 1 39])])),(.reg [zmv 10 5,zbi 11 .add 10 (zki 1),zmv 5 11])])
def Qmn:List (Nat × Md):=[(0,.one .f),(1,.one .d),(5,.one .d)]
def QkA:TCode :=
 (zsq [(.reg [zmv 40 1,zmv 4 40]),.ret])
def QvU:TCode :=
 (zsq [(.reg [zmv 4 (zki 0)]),(zsq [(.reg [zmv 5 (zki 0)]),(.block 0 (.loop Qmn Qsf))]),QkA])
def Qs2:List (ARv × Md):=[(.t 4,.one .d)]
def Qte:Qb:=TQ 0 1 Qs2 K
def Qxh:Qb:=Qseq (tawp Qfc 1 QkA (Qte K)) (Qte K)
def QAR:Qb:=Qblk 0 (Qxh K)
def Qe5 (a:List TOp') (k1:Int) (i:Int) (a1:List TOp'):Prop:=Loop Qfc 1 Qmn Qsf (QAR K) ⟨[(0,(.r ctOp 0 0 a.length)),(1,(zci k1)),(5,(zci i))],[(0,(.sl 0 ctOp (.dp 0 false []) a1))],1⟩
theorem QoD (a:List TOp') (k1:Int) (i:Int) (a1:List TOp') (h :
 let z2:=sst dOp (0+(Int.toNat i)) (fun e_ k_=>(k_,e_.2.1,e_.2.2.1,e_.2.2.2)) (k1,a1)
 let z4:=sst dOp (0+(Int.toNat i)) (fun e_ k_=>(e_.1,k_,e_.2.2.1,e_.2.2.2)) z2
 let z1:=sst dOp (0+(Int.toNat i)) (fun e_ k_=>(e_.1,e_.2.1,k_,e_.2.2.2)) z4
 let z3:=nst dOp (0+(Int.toNat i)) (fun e_=>e_.2.2.2) (fun e_ y_=>(e_.1,e_.2.1,e_.2.2.1,y_)) (Qz (α:=List Int)) z1
 (zif (decide (i<((a.length:Nat):Int))) ((((0:Int)≤i∧Int.toNat i<a.length)∧((0+(Int.toNat i))<a1.length))∧((((0:Int)≤i∧Int.toNat i<a.length)∧((0+(Int.toNat i))<(z2.2).length))∧((((0:Int)≤i∧Int.toNat i<a.length)∧((0+(Int.toNat i))<(z4.2).length))∧((((0:Int)≤i∧Int.toNat i<a.length)∧(((0+(Int.toNat i))<(z1.2).length)∧((0+(Int.toNat i))<(z1.2).length)))∧(Qe5 K a (z3.1) (w64 (i+(1:Int))) (z3.2)))))) (K (JU (k1,a1))))):Qe5 K a k1 i a1 :=
 Loop.of (by kernel_rfl) h
theorem QH8 (a:List TOp') (k:Int) (h :
 (Qe5 K a k 0 a)):Hold (tawp Qfc (0+1) QvU (TQ 0 1 Qs2 K) (Qd [(.ow 0 ctOp dw a),(.c TI k)])) :=
 Hold.of (by kernel_rfl) h
theorem QEg (a:List TOp') (k:Int):TCon Tryz.prog 80 [(.ow 0 ctOp dw a),(.c TI k)] (JU (Qz (α:=List TOp') a k)):=by
 refine Qi rfl fun hb=>tcg (Γ:=Qfc) (n:=41) (sg:=QhX.sg) Qj (TOkL.cons Qfz TOkL.nil) (by kernel_rfl) (by kernel_rfl) (QH8 _ a k ?_)
 have hl_a:a.length≤9223372036854775807:=hb.1.1
 refine Qcp (A:=fun kk ii ll=>Qe5 (fun r'=>r'=JU (Qz (α:=List TOp') a k)) a kk ii ll) (Q:=fun z=>JU z=JU (Qz (α:=List TOp') a k)) a k ?_ ?_ rfl
 ·intro kk pre post x hl hA
  have hlt:pre.length<a.length:=by omega
  have hw:w64 (((pre.length:Nat):Int)+1)=((pre.length+1:Nat):Int):=by rw [Qv (by omega) (by omega)];omega
  refine QoD (fun r'=>r'=JU (Qz (α:=List TOp') a k)) a kk ((pre.length:Nat):Int) (pre++x::post) ?_
  conv=>zeta
  refine ⟨fun _=>?_,fun h=>absurd h (by simp;omega)⟩
  simp only [Int.toNat_natCast,Nat.zero_add,Qc4,Qb0,Yr,QcI,hw,lt_f,hlt,YT,and_true,true_and,Int.natCast_nonneg]
  exact hA
 ·intro kk l hl hq
  refine QoD (fun r'=>r'=JU (Qz (α:=List TOp') a k)) a kk ((a.length:Nat):Int) l ?_
  conv=>zeta
  exact ⟨fun h=>absurd h (by simp),fun _=>hq⟩
theorem QA6:Qe Tryz.prog QhX:=Qk fun x _=>QEg x.1 x.2.1
def Yi (t:Int):TRes:=zre (zci t)
def QiO:TRow:=Qg 84 [(.c (.sl ctOp)),(.c TI)] fun x=>(some (QZ (α:=List TOp') x.1 x.2.1),Yi (m_held (α:=List TOp') x.1 x.2.1))
def QfW:TTab:=⟨[Qc0],false⟩
def QsS:TCode :=
 (zsq [(zsq [(.reg [zmv 6 5,zmv 7 0,zle 8 7,zbi 9 .lss 6 8]),(.cond 9 .skip (.exit 0))]),(.block 1 (zsq [(zsq [(.reg [zmv 12 0,zmv 13 5,zia 14 12 13 ctOp,zfa 15 14 0,zld 16 15 1,zmv 17 1,zbi 18 .neq 16 17]),(.cond 18 (zsq [(.reg [zmv 4 (zki (-1))]),.ret]) .skip)]),(.reg [zmv 19 1,zbi 20 .add 19 (zki 1),zmv 1 20]),(zsq [(.reg [zmv 21 0,zmv 22 5,zia 23 21 22 ctOp,zfa 24 23 1,zld 25 24 1,zmv 26 1,zbi 27 .neq 25 26]),(.cond 27 (zsq [(.reg [zmv 4 (zki (-1))]),.ret]) .skip)]),(.reg [zmv 28 1,zbi 29 .add 28 (zki 1),zmv 1 29]),(zsq [(.reg [zmv 30 0,zmv 31 5,zia 32 30 31 ctOp,zfa 33 32 2,zld 34 33 1,zmv 35 1,zbi 36 .neq 34 35]),(.cond 36 (zsq [(.reg [zmv 4 (zki (-1))]),.ret]) .skip)]),(.reg [zmv 37 1,zbi 38 .add 37 (zki 1),zmv 1 38]),(.reg [zmv 39 0,zmv 40 5,zia 41 39 40 ctOp,zfa 42 41 3,zld 43 42 1,zmv 44 1,zca 45 27 [43,44],zmv 1 45]),(.reg [zmv 46 1,zbi 47 .lss 46 (zki 0)]),(.cond 47 (zsq [(.reg [zmv 4 (zki (-1))]),.ret]) .skip)])),(.reg [zmv 10 5,zbi 11 .add 10 (zki 1),zmv 5 11])])
def Qr6:List (Nat × Md):=zdl [0,1,5]
def QnG:TCode :=
 (zsq [(.reg [zmv 48 1,zmv 4 48]),.ret])
def QGt:TCode :=
 (zsq [(.reg [zmv 4 (zki 0)]),(zsq [(.reg [zmv 5 (zki 0)]),(.block 0 (.loop Qr6 QsS))]),QnG])
def Qp0:List (ARv × Md):=[(.t 4,.one .d)]
def QkW:Qb:=TQ 0 0 Qp0 K
def QBx:Qb:=Qseq (tawp QfW 0 QnG (QkW K)) (QkW K)
def QE3:Qb:=Qblk 0 (QBx K)
def QeA (a:List TOp') (k1:Int) (i:Int):Prop:=Loop QfW 0 Qr6 QsS (QE3 K) ⟨[(0,(zcs ctOp a)),(1,(zci k1)),(5,(zci i))],[],0⟩
theorem Qmo (a:List TOp') (k1:Int) (i:Int) (h :
 (zif (decide (i<(a.length:Int))) (((0:Int)≤i∧Int.toNat i<a.length)∧(zif (((gtd dOp a (Int.toNat i)).1) != k1) (K (Yi (-1:Int))) (((0:Int)≤i∧Int.toNat i<a.length)∧(zif (((gtd dOp a (Int.toNat i)).2.1) != (w64 (k1+(1:Int)))) (K (Yi (-1:Int))) (((0:Int)≤i∧Int.toNat i<a.length)∧(zif (((gtd dOp a (Int.toNat i)).2.2.1) != (w64 ((w64 (k1+(1:Int)))+(1:Int)))) (K (Yi (-1:Int))) ((((0:Int)≤i∧Int.toNat i<a.length)∧(QZ (α:=List Int) ((gtd dOp a (Int.toNat i)).2.2.2) (w64 ((w64 ((w64 (k1+(1:Int)))+(1:Int)))+(1:Int)))))∧(zif (decide ((m_held (α:=List Int) ((gtd dOp a (Int.toNat i)).2.2.2) (w64 ((w64 ((w64 (k1+(1:Int)))+(1:Int)))+(1:Int))))<(0:Int))) (K (Yi (-1:Int))) (QeA K a (m_held (α:=List Int) ((gtd dOp a (Int.toNat i)).2.2.2) (w64 ((w64 ((w64 (k1+(1:Int)))+(1:Int)))+(1:Int)))) (w64 (i+(1:Int)))))))))))) (K (Yi k1)))):QeA K a k1 i :=
 Loop.of (by kernel_rfl) h
theorem Qy1 (a:List TOp') (k:Int) (h :
 (QeA K a k 0)):Hold (tawp QfW (0+0) QGt (TQ 0 0 Qp0 K) (Qd [(.c (.sl ctOp) a),(.c TI k)])) :=
 Hold.of (by kernel_rfl) h
theorem QFl (a:List TOp') (k:Int) (hp:QZ (α:=List TOp') a k):TCon Tryz.prog 84 [(.c (.sl ctOp) a),(.c TI k)] (Yi (m_held (α:=List TOp') a k)):=by
 refine Qi rfl fun hb=>tcg (Γ:=QfW) (n:=49) (sg:=QiO.sg) Qj (TOkL.cons Qj8 TOkL.nil) (by kernel_rfl) (by kernel_rfl) (Qy1 _ a k ?_)
 have hl_a:a.length≤9223372036854775807:=hb.1.1
 refine Qck (A:=fun kk ii=>QeA (fun r'=>r'=Yi (m_held (α:=List TOp') a k)) a kk ii) (Q:=fun z=>Yi z=Yi (m_held (α:=List TOp') a k)) a k hp ?_ ?_ rfl
 ·intro kk pre post x ha hpx hneg hpos
  have hlt:pre.length<a.length:=by rw [ha];simp
  have hg:∀ d,gtd d a pre.length=x:=fun d=>by rw [ha];exact Yr d pre post x
  have hw:w64 (((pre.length:Nat):Int)+1)=((pre.length+1:Nat):Int):=by rw [Qv (by omega) (by omega)];omega
  refine Qmo (fun r'=>r'=Yi (m_held (α:=List TOp') a k)) a kk ((pre.length:Nat):Int) ?_
  refine ⟨fun _=>?_,fun h=>absurd h (by simp;omega)⟩
  simp only [Int.toNat_natCast,hg,hw,hlt,YT,and_true,true_and,Int.natCast_nonneg]
  have hp0:=(YH hpx).1
  have hq0:=(YH hpx).2
  have hp1:=(YH hq0).1
  have hq1:=(YH hq0).2
  have hp2:=(YH hq1).1
  have hq2:=(YH hq1).2
  simp only [QeO,Qen,QdK,Prod.ext_iff] at hneg hpos hp0 hq0 hp1 hq1 hp2 hq2
  refine ⟨fun h=>hneg (fun e=>Qaf h (e.1).symm),fun h0=>?_⟩
  have e0:=(Qat h0).symm
  refine ⟨fun h=>hneg (fun e=>Qaf h (e.2.1).symm),fun h1=>?_⟩
  have e1:=(Qat h1).symm
  refine ⟨fun h=>hneg (fun e=>Qaf h (e.2.2.1).symm),fun h2=>?_⟩
  have e2:=(Qat h2).symm
  refine ⟨hq2,fun h=>hneg (fun e=>Yl hq2 (of_decide_eq_true h) (e.2.2.2)),fun h3=>?_⟩
  obtain ⟨e3,h3⟩:=Yf (of_decide_eq_false h3)
  rw [h3]
  exact hpos ⟨e0,e1,e2,e3⟩
 ·intro kk hq
  refine Qmo (fun r'=>r'=Yi (m_held (α:=List TOp') a k)) a kk ((a.length:Nat):Int) ?_
  exact ⟨fun h=>absurd h (by simp),fun _=>hq⟩
theorem Qxz:Qe Tryz.prog QiO:=Qk fun x h=>QFl x.1 x.2.1 h
def Jx (t:Int × (List Qf)):TRes:=⟨(zci t.1),[],[],true,[(.sl 0 Ql (.dp 0 false []) t.2)]⟩
def QgV:TRow:=Qg 81 [(.d Ql),(.c TI)] fun x=>(none,Jx (Qz (α:=List Qf) x.1 x.2.1))
def Qfn:TTab:=⟨[QcL],true⟩
def QnK:TCode :=
 (zsq [(zsq [(.reg [zmv 6 5,zmv 7 0,zle 8 7,zbi 9 .lss 6 8]),(.cond 9 .skip (.exit 0))]),(.block 1 (zsq [(.reg [zmv 12 0,zmv 13 5,zmv 14 1,zia 15 12 13 Ql,zfa 16 15 0,zst 16 14 1]),(.reg [zmv 17 1,zbi 18 .add 17 (zki 1),zmv 1 18]),(.reg [zmv 19 0,zmv 20 5,zia 21 19 20 Ql,zfa 22 21 1,zld 23 22 1,zmv 24 1,zca 25 82 [23,24],zmv 1 25])])),(.reg [zmv 10 5,zbi 11 .add 10 (zki 1),zmv 5 11])])
def Qsz:List (Nat × Md):=[(0,.one .f),(1,.one .d),(5,.one .d)]
def QkV:TCode :=
 (zsq [(.reg [zmv 26 1,zmv 4 26]),.ret])
def QDW:TCode :=
 (zsq [(.reg [zmv 4 (zki 0)]),(zsq [(.reg [zmv 5 (zki 0)]),(.block 0 (.loop Qsz QnK))]),QkV])
def QqA:List (ARv × Md):=[(.t 4,.one .d)]
def Qkz:Qb:=TQ 0 1 QqA K
def QFZ:Qb:=Qseq (tawp Qfn 1 QkV (Qkz K)) (Qkz K)
def QHC:Qb:=Qblk 0 (QFZ K)
def QdO (a:List Qf) (k1:Int) (i:Int) (a1:List Qf):Prop:=Loop Qfn 1 Qsz QnK (QHC K) ⟨[(0,(.r Ql 0 0 a.length)),(1,(zci k1)),(5,(zci i))],[(0,(.sl 0 Ql (.dp 0 false []) a1))],1⟩
theorem Qt7 (a:List Qf) (k1:Int) (i:Int) (a1:List Qf) (h :
 (zif (decide (i<((a.length:Nat):Int))) ((((0:Int)≤i∧Int.toNat i<a.length)∧((0+(Int.toNat i))<a1.length))∧((((0:Int)≤i∧Int.toNat i<a.length)∧(((0+(Int.toNat i))<((sst QS (0+(Int.toNat i)) (fun e_ k_=>(k_,e_.2)) (k1,a1)).2).length)∧((0+(Int.toNat i))<((sst QS (0+(Int.toNat i)) (fun e_ k_=>(k_,e_.2)) (k1,a1)).2).length)))∧(QdO K a ((nst QS (0+(Int.toNat i)) (fun e_=>e_.2) (fun e_ y_=>(e_.1,y_)) (Qz (α:=List (List Int))) (sst QS (0+(Int.toNat i)) (fun e_ k_=>(k_,e_.2)) (k1,a1))).1) (w64 (i+(1:Int))) ((nst QS (0+(Int.toNat i)) (fun e_=>e_.2) (fun e_ y_=>(e_.1,y_)) (Qz (α:=List (List Int))) (sst QS (0+(Int.toNat i)) (fun e_ k_=>(k_,e_.2)) (k1,a1))).2)))) (K (Jx (k1,a1))))):QdO K a k1 i a1 :=
 Loop.of (by kernel_rfl) h
theorem QHm (a:List Qf) (k:Int) (h :
 (QdO K a k 0 a)):Hold (tawp Qfn (0+1) QDW (TQ 0 1 QqA K) (Qd [(.ow 0 Ql dw a),(.c TI k)])) :=
 Hold.of (by kernel_rfl) h
theorem Quo (a:List Qf) (k:Int):TCon Tryz.prog 81 [(.ow 0 Ql dw a),(.c TI k)] (Jx (Qz (α:=List Qf) a k)):=by
 refine Qi rfl fun hb=>tcg (Γ:=Qfn) (n:=27) (sg:=QgV.sg) Qj (TOkL.cons QgQ TOkL.nil) (by kernel_rfl) (by kernel_rfl) (QHm _ a k ?_)
 have hl_a:a.length≤9223372036854775807:=hb.1.1
 refine Qcp (A:=fun kk ii ll=>QdO (fun r'=>r'=Jx (Qz (α:=List Qf) a k)) a kk ii ll) (Q:=fun z=>Jx z=Jx (Qz (α:=List Qf) a k)) a k ?_ ?_ rfl
 ·intro kk pre post x hl hA
  have hlt:pre.length<a.length:=by omega
  have hw:w64 (((pre.length:Nat):Int)+1)=((pre.length+1:Nat):Int):=by rw [Qv (by omega) (by omega)];omega
  refine Qt7 (fun r'=>r'=Jx (Qz (α:=List Qf) a k)) a kk ((pre.length:Nat):Int) (pre++x::post) ?_
  refine ⟨fun _=>?_,fun h=>absurd h (by simp;omega)⟩
  simp only [Int.toNat_natCast,Nat.zero_add,Qc4,Qb0,Yr,QcI,hw,lt_f,hlt,YT,and_true,true_and,Int.natCast_nonneg]
  exact hA
 ·intro kk l hl hq
  refine Qt7 (fun r'=>r'=Jx (Qz (α:=List Qf) a k)) a kk ((a.length:Nat):Int) l ?_
  exact ⟨fun h=>absurd h (by simp),fun _=>hq⟩
theorem Qzx:Qe Tryz.prog QgV:=Qk fun x _=>Quo x.1 x.2.1
def YU (t:Int):TRes:=zre (zci t)
def Qhg:TRow:=Qg 85 [(.c (.sl Ql)),(.c TI)] fun x=>(some (QZ (α:=List Qf) x.1 x.2.1),YU (m_held (α:=List Qf) x.1 x.2.1))
def QeU:TTab:=⟨[QcH],false⟩
def Qm1:TCode :=
 (zsq [(zsq [(.reg [zmv 6 5,zmv 7 0,zle 8 7,zbi 9 .lss 6 8]),(.cond 9 .skip (.exit 0))]),(.block 1 (zsq [(zsq [(.reg [zmv 12 0,zmv 13 5,zia 14 12 13 Ql,zfa 15 14 0,zld 16 15 1,zmv 17 1,zbi 18 .neq 16 17]),(.cond 18 (zsq [(.reg [zmv 4 (zki (-1))]),.ret]) .skip)]),(.reg [zmv 19 1,zbi 20 .add 19 (zki 1),zmv 1 20]),(.reg [zmv 21 0,zmv 22 5,zia 23 21 22 Ql,zfa 24 23 1,zld 25 24 1,zmv 26 1,zca 27 86 [25,26],zmv 1 27]),(.reg [zmv 28 1,zbi 29 .lss 28 (zki 0)]),(.cond 29 (zsq [(.reg [zmv 4 (zki (-1))]),.ret]) .skip)])),(.reg [zmv 10 5,zbi 11 .add 10 (zki 1),zmv 5 11])])
def Qra:List (Nat × Md):=zdl [0,1,5]
def Qpr:TCode :=
 (zsq [(.reg [zmv 30 1,zmv 4 30]),.ret])
def QGd:TCode :=
 (zsq [(.reg [zmv 4 (zki 0)]),(zsq [(.reg [zmv 5 (zki 0)]),(.block 0 (.loop Qra Qm1))]),Qpr])
def Qn3:List (ARv × Md):=[(.t 4,.one .d)]
def Qsd:Qb:=TQ 0 0 Qn3 K
def QHr:Qb:=Qseq (tawp QeU 0 Qpr (Qsd K)) (Qsd K)
def QzM:Qb:=Qblk 0 (QHr K)
def Qfl (a:List Qf) (k1:Int) (i:Int):Prop:=Loop QeU 0 Qra Qm1 (QzM K) ⟨[(0,(zcs Ql a)),(1,(zci k1)),(5,(zci i))],[],0⟩
theorem Qrm (a:List Qf) (k1:Int) (i:Int) (h :
 (zif (decide (i<(a.length:Int))) (((0:Int)≤i∧Int.toNat i<a.length)∧(zif (((gtd QS a (Int.toNat i)).1) != k1) (K (YU (-1:Int))) ((((0:Int)≤i∧Int.toNat i<a.length)∧(QZ (α:=List (List Int)) ((gtd QS a (Int.toNat i)).2) (w64 (k1+(1:Int)))))∧(zif (decide ((m_held (α:=List (List Int)) ((gtd QS a (Int.toNat i)).2) (w64 (k1+(1:Int))))<(0:Int))) (K (YU (-1:Int))) (Qfl K a (m_held (α:=List (List Int)) ((gtd QS a (Int.toNat i)).2) (w64 (k1+(1:Int)))) (w64 (i+(1:Int)))))))) (K (YU k1)))):Qfl K a k1 i :=
 Loop.of (by kernel_rfl) h
theorem Qx3 (a:List Qf) (k:Int) (h :
 (Qfl K a k 0)):Hold (tawp QeU (0+0) QGd (TQ 0 0 Qn3 K) (Qd [(.c (.sl Ql) a),(.c TI k)])) :=
 Hold.of (by kernel_rfl) h
theorem QGz (a:List Qf) (k:Int) (hp:QZ (α:=List Qf) a k):TCon Tryz.prog 85 [(.c (.sl Ql) a),(.c TI k)] (YU (m_held (α:=List Qf) a k)):=by
 refine Qi rfl fun hb=>tcg (Γ:=QeU) (n:=31) (sg:=Qhg.sg) Qj (TOkL.cons Qh1 TOkL.nil) (by kernel_rfl) (by kernel_rfl) (Qx3 _ a k ?_)
 have hl_a:a.length≤9223372036854775807:=hb.1.1
 refine Qck (A:=fun kk ii=>Qfl (fun r'=>r'=YU (m_held (α:=List Qf) a k)) a kk ii) (Q:=fun z=>YU z=YU (m_held (α:=List Qf) a k)) a k hp ?_ ?_ rfl
 ·intro kk pre post x ha hpx hneg hpos
  have hlt:pre.length<a.length:=by rw [ha];simp
  have hg:∀ d,gtd d a pre.length=x:=fun d=>by rw [ha];exact Yr d pre post x
  have hw:w64 (((pre.length:Nat):Int)+1)=((pre.length+1:Nat):Int):=by rw [Qv (by omega) (by omega)];omega
  refine Qrm (fun r'=>r'=YU (m_held (α:=List Qf) a k)) a kk ((pre.length:Nat):Int) ?_
  refine ⟨fun _=>?_,fun h=>absurd h (by simp;omega)⟩
  simp only [Int.toNat_natCast,hg,hw,hlt,YT,and_true,true_and,Int.natCast_nonneg]
  have hp0:=(YH hpx).1
  have hq0:=(YH hpx).2
  simp only [QeO,Qen,QdK,Prod.ext_iff] at hneg hpos hp0 hq0
  refine ⟨fun h=>hneg (fun e=>Qaf h (e.1).symm),fun h0=>?_⟩
  have e0:=(Qat h0).symm
  refine ⟨hq0,fun h=>hneg (fun e=>Yl hq0 (of_decide_eq_true h) (e.2)),fun h1=>?_⟩
  obtain ⟨e1,h1⟩:=Yf (of_decide_eq_false h1)
  rw [h1]
  exact hpos ⟨e0,e1⟩
 ·intro kk hq
  refine Qrm (fun r'=>r'=YU (m_held (α:=List Qf) a k)) a kk ((a.length:Nat):Int) ?_
  exact ⟨fun h=>absurd h (by simp),fun _=>hq⟩
theorem Qz9:Qe Tryz.prog Qhg:=Qk fun x h=>QGz x.1 x.2.1 h
end
end Go.Proofs.YtdplaepmjogjjaaGreat.Am

