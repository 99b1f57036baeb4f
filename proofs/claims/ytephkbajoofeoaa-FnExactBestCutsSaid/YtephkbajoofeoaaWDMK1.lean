/- -/
import Derived.Test.YtephkbajoofeoaaWDGF
namespace Go.Proofs.Ytephkbajoofeoaa.Am
open Go Go.RowKit Go.Proofs.Ytephkbajoofeoaa
set_option linter.all false
noncomputable section
variable (K:TRes→Prop)
def Yk (t:Int × (List Int)):TRes:=⟨(zci t.1),[],[],true,[(.sl 0 [TI] (.dp 0 false []) t.2)]⟩
def QaM:TRow:=Qj 69 [(.d [TI]),(.c TI)] fun x=>(none,Yk (Qz (α:=List Int) x.1 x.2.1))
def QbT:TTab:=⟨[],true⟩
def QkE:TCode :=
 (zsq [(zsq [(.reg [zmv 6 5,zmv 7 0,zle 8 7,zbi 9 .lss 6 8]),(.cond 9 .skip (.exit 0))]),(.block 1 (zsq [(.reg [zmv 12 0,zmv 13 5,zmv 14 1,zia 15 12 13 [TI],zst 15 14 1]),(.reg [zmv 16 1,zbi 17 .add 16 (zki 1),zmv 1 17])])),(.reg [zmv 10 5,zbi 11 .add 10 (zki 1),zmv 5 11])])
def Qgo:List (Nat × Md):=[(0,.one .f),(1,.one .d),(5,.one .d)]
def QgL:TCode :=
 (zsq [(.reg [zmv 18 1,zmv 4 18]),.ret])
def QlX:TCode :=
 (zsq [(.reg [zmv 4 (zki 0)]),(zsq [(.reg [zmv 5 (zki 0)]),(.block 0 (.loop Qgo QkE))]),QgL])
def Qkz:List (ARv × Md):=[(.t 4,.one .d)]
def Qf6:Qc:=TQ 0 1 Qkz K
def QpR:Qc:=Qseq (tawp QbT 1 QgL (Qf6 K)) (Qf6 K)
def Qq4:Qc:=Qblk 0 (QpR K)
def Qco (a:List Int) (k1:Int) (i:Int) (a1:List Int):Prop:=Loop QbT 1 Qgo QkE (Qq4 K) ⟨[(0,(.r [TI] 0 0 a.length)),(1,(zci k1)),(5,(zci i))],[(0,(.sl 0 [TI] (.dp 0 false []) a1))],1⟩
theorem Qlo (a:List Int) (k1:Int) (i:Int) (a1:List Int) (h :
 (zif (decide (i<((a.length:Nat):Int))) ((((0:Int)≤i∧Int.toNat i<a.length)∧((0+(Int.toNat i))<a1.length))∧(Qco K a (w64 (k1+(1:Int))) (w64 (i+(1:Int))) ((a1).set (0+(Int.toNat i)) k1))) (K (Yk (k1,a1))))):Qco K a k1 i a1 :=
 Loop.of (by kernel_rfl) h
theorem Qrf (a:List Int) (k:Int) (h :
 (Qco K a k 0 a)):Hold (tawp QbT (0+1) QlX (TQ 0 1 Qkz K) (Qh [(.ow 0 [TI] dw a),(.c TI k)])) :=
 Hold.of (by kernel_rfl) h
theorem QpJ (a:List Int) (k:Int):TCon Try.prog 69 [(.ow 0 [TI] dw a),(.c TI k)] (Yk (Qz (α:=List Int) a k)):=by
 refine Ql rfl fun hb=>tcg (Γ:=QbT) (n:=19) (sg:=QaM.sg) Qm TOkL.nil (by kernel_rfl) (by kernel_rfl) (Qrf _ a k ?_)
 have hl_a:a.length≤9223372036854775807:=hb.1.1
 refine Qj2 (A:=fun kk ii ll=>Qco (fun r'=>r'=Yk (Qz (α:=List Int) a k)) a kk ii ll) (Q:=fun z=>Yk z=Yk (Qz (α:=List Int) a k)) a k ?_ ?_ rfl
 ·intro kk pre post x hl hA
  have hlt:pre.length<a.length:=by omega
  have hw:w64 (((pre.length:Nat):Int)+1)=((pre.length+1:Nat):Int):=by rw [Qr (by omega) (by omega)];omega
  refine Qlo (fun r'=>r'=Yk (Qz (α:=List Int) a k)) a kk ((pre.length:Nat):Int) (pre++x::post) ?_
  refine ⟨fun _=>?_,fun h=>absurd h (by simp;omega)⟩
  simp only [Int.toNat_natCast,Nat.zero_add,Qg8,Qi3,JH,Qho,hw,lt_f,hlt,Qd0,and_true,true_and,Int.natCast_nonneg]
  exact hA
 ·intro kk l hl hq
  refine Qlo (fun r'=>r'=Yk (Qz (α:=List Int) a k)) a kk ((a.length:Nat):Int) l ?_
  exact ⟨fun h=>absurd h (by simp),fun _=>hq⟩
theorem QjB:Qi Try.prog QaM:=Qn fun x _=>QpJ x.1 x.2.1
def Z8 (t:Int):TRes:=zre (zci t)
def QcI:TRow:=Qj 70 [(.c (.sl [TI])),(.c TI)] fun x=>(some (Zb (α:=List Int) x.1 x.2.1),Z8 (m_held (α:=List Int) x.1 x.2.1))
def QbK:TTab:=⟨[],false⟩
def QkV:TCode :=
 (zsq [(zsq [(.reg [zmv 6 5,zmv 7 0,zle 8 7,zbi 9 .lss 6 8]),(.cond 9 .skip (.exit 0))]),(.block 1 (zsq [(zsq [(.reg [zmv 12 0,zmv 13 5,zia 14 12 13 [TI],zld 15 14 1,zmv 16 1,zbi 17 .neq 15 16]),(.cond 17 (zsq [(.reg [zmv 4 (zki (-1))]),.ret]) .skip)]),(.reg [zmv 18 1,zbi 19 .add 18 (zki 1),zmv 1 19])])),(.reg [zmv 10 5,zbi 11 .add 10 (zki 1),zmv 5 11])])
def QgG:List (Nat × Md):=zdl [0,1,5]
def Qif:TCode :=
 (zsq [(.reg [zmv 20 1,zmv 4 20]),.ret])
def Qnv:TCode :=
 (zsq [(.reg [zmv 4 (zki 0)]),(zsq [(.reg [zmv 5 (zki 0)]),(.block 0 (.loop QgG QkV))]),Qif])
def Qlp:List (ARv × Md):=[(.t 4,.one .d)]
def QjE:Qc:=TQ 0 0 Qlp K
def Qpl:Qc:=Qseq (tawp QbK 0 Qif (QjE K)) (QjE K)
def Qst:Qc:=Qblk 0 (Qpl K)
def QcA (a:List Int) (k1:Int) (i:Int):Prop:=Loop QbK 0 QgG QkV (Qst K) ⟨[(0,(zcs [TI] a)),(1,(zci k1)),(5,(zci i))],[],0⟩
theorem Qfp (a:List Int) (k1:Int) (i:Int) (h :
 (zif (decide (i<(a.length:Int))) (((0:Int)≤i∧Int.toNat i<a.length)∧(zif ((gtd (0:Int) a (Int.toNat i)) != k1) (K (Z8 (-1:Int))) (QcA K a (w64 (k1+(1:Int))) (w64 (i+(1:Int)))))) (K (Z8 k1)))):QcA K a k1 i :=
 Loop.of (by kernel_rfl) h
theorem QlA (a:List Int) (k:Int) (h :
 (QcA K a k 0)):Hold (tawp QbK (0+0) Qnv (TQ 0 0 Qlp K) (Qh [(.c (.sl [TI]) a),(.c TI k)])) :=
 Hold.of (by kernel_rfl) h
theorem QnK (a:List Int) (k:Int) (hp:Zb (α:=List Int) a k):TCon Try.prog 70 [(.c (.sl [TI]) a),(.c TI k)] (Z8 (m_held (α:=List Int) a k)):=by
 refine Ql rfl fun hb=>tcg (Γ:=QbK) (n:=21) (sg:=QcI.sg) Qm TOkL.nil (by kernel_rfl) (by kernel_rfl) (QlA _ a k ?_)
 have hl_a:a.length≤9223372036854775807:=hb.1.1
 refine Qsw (A:=fun kk ii=>QcA (fun r'=>r'=Z8 (m_held (α:=List Int) a k)) a kk ii) (Q:=fun z=>Z8 z=Z8 (m_held (α:=List Int) a k)) a k hp ?_ ?_ rfl
 ·intro kk pre post x ha hpx hneg hpos
  have hlt:pre.length<a.length:=by rw [ha];simp
  have hg:∀ d,gtd d a pre.length=x:=fun d=>by rw [ha];exact JH d pre post x
  have hw:w64 (((pre.length:Nat):Int)+1)=((pre.length+1:Nat):Int):=by rw [Qr (by omega) (by omega)];omega
  refine Qfp (fun r'=>r'=Z8 (m_held (α:=List Int) a k)) a kk ((pre.length:Nat):Int) ?_
  refine ⟨fun _=>?_,fun h=>absurd h (by simp;omega)⟩
  simp only [Int.toNat_natCast,hg,hw,hlt,Qd0,and_true,true_and,Int.natCast_nonneg]
  simp only [QmZ,QlK,Ql0,Prod.ext_iff] at hneg hpos
  refine ⟨fun h=>hneg (fun e=>Qnu h (e).symm),fun h0=>?_⟩
  have e0:=(Qmy h0).symm
  exact hpos e0
 ·intro kk hq
  refine Qfp (fun r'=>r'=Z8 (m_held (α:=List Int) a k)) a kk ((a.length:Nat):Int) ?_
  exact ⟨fun h=>absurd h (by simp),fun _=>hq⟩
theorem QnE:Qi Try.prog QcI:=Qn fun x h=>QnK x.1 x.2.1 h
def Yf (t:Int × (List TOp')):TRes:=⟨(zci t.1),[],[],true,[(.sl 0 ctOp (.dp 0 false []) t.2)]⟩
def Qed:TRow:=Qj 88 [(.d ctOp),(.c TI)] fun x=>(none,Yf (Qz (α:=List TOp') x.1 x.2.1))
def QbG:TTab:=⟨[QaM],true⟩
def Qhf:TCode :=
 (zsq [(zsq [(.reg [zmv 6 5,zmv 7 0,zle 8 7,zbi 9 .lss 6 8]),(.cond 9 .skip (.exit 0))]),(.block 1 (zsq [(.reg [zmv 12 0,zmv 13 5,zmv 14 1,zia 15 12 13 ctOp,zfa 16 15 0,zst 16 14 1]),(.reg [zmv 17 1,zbi 18 .add 17 (zki 1),zmv 1 18]),(.reg [zmv 19 0,zmv 20 5,zmv 21 1,zia 22 19 20 ctOp,zfa 23 22 1,zst 23 21 1]),(.reg [zmv 24 1,zbi 25 .add 24 (zki 1),zmv 1 25]),(.reg [zmv 26 0,zmv 27 5,zmv 28 1,zia 29 26 27 ctOp,zfa 30 29 2,zst 30 28 1]),(.reg [zmv 31 1,zbi 32 .add 31 (zki 1),zmv 1 32]),(.reg [zmv 33 0,zmv 34 5,zia 35 33 34 ctOp,zfa 36 35 3,zld 37 36 1,zmv 38 1,zca 39 69 [37,38],zmv 1 39])])),(.reg [zmv 10 5,zbi 11 .add 10 (zki 1),zmv 5 11])])
def Qh5:List (Nat × Md):=[(0,.one .f),(1,.one .d),(5,.one .d)]
def QfO:TCode :=
 (zsq [(.reg [zmv 40 1,zmv 4 40]),.ret])
def Qpm:TCode :=
 (zsq [(.reg [zmv 4 (zki 0)]),(zsq [(.reg [zmv 5 (zki 0)]),(.block 0 (.loop Qh5 Qhf))]),QfO])
def Qin:List (ARv × Md):=[(.t 4,.one .d)]
def Qg1:Qc:=TQ 0 1 Qin K
def Qrm:Qc:=Qseq (tawp QbG 1 QfO (Qg1 K)) (Qg1 K)
def Qp1:Qc:=Qblk 0 (Qrm K)
def Qb1 (a:List TOp') (k1:Int) (i:Int) (a1:List TOp'):Prop:=Loop QbG 1 Qh5 Qhf (Qp1 K) ⟨[(0,(.r ctOp 0 0 a.length)),(1,(zci k1)),(5,(zci i))],[(0,(.sl 0 ctOp (.dp 0 false []) a1))],1⟩
theorem Qis (a:List TOp') (k1:Int) (i:Int) (a1:List TOp') (h :
 let z2:=sst dOp (0+(Int.toNat i)) (fun e_ k_=>(k_,e_.2.1,e_.2.2.1,e_.2.2.2)) (k1,a1)
 let z4:=sst dOp (0+(Int.toNat i)) (fun e_ k_=>(e_.1,k_,e_.2.2.1,e_.2.2.2)) z2
 let z1:=sst dOp (0+(Int.toNat i)) (fun e_ k_=>(e_.1,e_.2.1,k_,e_.2.2.2)) z4
 let z3:=nst dOp (0+(Int.toNat i)) (fun e_=>e_.2.2.2) (fun e_ y_=>(e_.1,e_.2.1,e_.2.2.1,y_)) (Qz (α:=List Int)) z1
 (zif (decide (i<((a.length:Nat):Int))) ((((0:Int)≤i∧Int.toNat i<a.length)∧((0+(Int.toNat i))<a1.length))∧((((0:Int)≤i∧Int.toNat i<a.length)∧((0+(Int.toNat i))<(z2.2).length))∧((((0:Int)≤i∧Int.toNat i<a.length)∧((0+(Int.toNat i))<(z4.2).length))∧((((0:Int)≤i∧Int.toNat i<a.length)∧(((0+(Int.toNat i))<(z1.2).length)∧((0+(Int.toNat i))<(z1.2).length)))∧(Qb1 K a (z3.1) (w64 (i+(1:Int))) (z3.2)))))) (K (Yf (k1,a1))))):Qb1 K a k1 i a1 :=
 Loop.of (by kernel_rfl) h
theorem Qm6 (a:List TOp') (k:Int) (h :
 (Qb1 K a k 0 a)):Hold (tawp QbG (0+1) Qpm (TQ 0 1 Qin K) (Qh [(.ow 0 ctOp dw a),(.c TI k)])) :=
 Hold.of (by kernel_rfl) h
theorem Qri (a:List TOp') (k:Int):TCon Try.prog 88 [(.ow 0 ctOp dw a),(.c TI k)] (Yf (Qz (α:=List TOp') a k)):=by
 refine Ql rfl fun hb=>tcg (Γ:=QbG) (n:=41) (sg:=Qed.sg) Qm (TOkL.cons QjB TOkL.nil) (by kernel_rfl) (by kernel_rfl) (Qm6 _ a k ?_)
 have hl_a:a.length≤9223372036854775807:=hb.1.1
 refine Qj2 (A:=fun kk ii ll=>Qb1 (fun r'=>r'=Yf (Qz (α:=List TOp') a k)) a kk ii ll) (Q:=fun z=>Yf z=Yf (Qz (α:=List TOp') a k)) a k ?_ ?_ rfl
 ·intro kk pre post x hl hA
  have hlt:pre.length<a.length:=by omega
  have hw:w64 (((pre.length:Nat):Int)+1)=((pre.length+1:Nat):Int):=by rw [Qr (by omega) (by omega)];omega
  refine Qis (fun r'=>r'=Yf (Qz (α:=List TOp') a k)) a kk ((pre.length:Nat):Int) (pre++x::post) ?_
  conv=>zeta
  refine ⟨fun _=>?_,fun h=>absurd h (by simp;omega)⟩
  simp only [Int.toNat_natCast,Nat.zero_add,Qg8,Qi3,JH,Qho,hw,lt_f,hlt,Qd0,and_true,true_and,Int.natCast_nonneg]
  exact hA
 ·intro kk l hl hq
  refine Qis (fun r'=>r'=Yf (Qz (α:=List TOp') a k)) a kk ((a.length:Nat):Int) l ?_
  conv=>zeta
  exact ⟨fun h=>absurd h (by simp),fun _=>hq⟩
theorem QoE:Qi Try.prog Qed:=Qn fun x _=>Qri x.1 x.2.1
end
end Go.Proofs.Ytephkbajoofeoaa.Am

