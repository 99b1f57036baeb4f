/- -/
import Derived.Test.YtdplaepmjogjjaaGreatVEGF
namespace Go.Proofs.YtdplaepmjogjjaaGreat.Am
open Go Go.RowKit Go.Proofs.YtdplaepmjogjjaaGreat
set_option linter.all false
noncomputable section
variable (K:TRes→Prop)
def JE (t:Int × (List Int)):TRes:=⟨(zci t.1),[],[],true,[(.sl 0 [TI] (.dp 0 false []) t.2)]⟩
def J3:TRow:=Qg 26 [(.d [TI]),(.c TI)] fun x=>(none,JE (Qn (α:=List Int) x.1 x.2.1))
def Qe5:TTab:=⟨[],true⟩
def QnR:TCode :=
 (zsq [(zsq [(.reg [zmv 6 5,zmv 7 0,zle 8 7,zbi 9 .lss 6 8]),(.cond 9 .skip (.exit 0))]),(.block 1 (zsq [(.reg [zmv 12 0,zmv 13 5,zmv 14 1,zia 15 12 13 [TI],zst 15 14 1]),(.reg [zmv 16 1,zbi 17 .add 16 (zki 1),zmv 1 17])])),(.reg [zmv 10 5,zbi 11 .add 10 (zki 1),zmv 5 11])])
def QnJ:List (Nat × Md):=[(0,.one .f),(1,.one .d),(5,.one .d)]
def QsJ:TCode :=
 (zsq [(.reg [zmv 18 1,zmv 4 18]),.ret])
def Qz7:TCode :=
 (zsq [(.reg [zmv 4 (zki 0)]),(zsq [(.reg [zmv 5 (zki 0)]),(.block 0 (.loop QnJ QnR))]),QsJ])
def Qoo:List (ARv × Md):=[(.t 4,.one .d)]
def Qm3:Qb:=TQ 0 1 Qoo K
def QwU:Qb:=Qseq (tawp Qe5 1 QsJ (Qm3 K)) (Qm3 K)
def Qwo:Qb:=Qblk 0 (QwU K)
def Qgf (a:List Int) (k1:Int) (i:Int) (a1:List Int):Prop:=Loop Qe5 1 QnJ QnR (Qwo K) ⟨[(0,(.r [TI] 0 0 a.length)),(1,(zci k1)),(5,(zci i))],[(0,(.sl 0 [TI] (.dp 0 false []) a1))],1⟩
theorem QmM (a:List Int) (k1:Int) (i:Int) (a1:List Int) (h :
 (zif (decide (i<((a.length:Nat):Int))) ((((0:Int)≤i∧Int.toNat i<a.length)∧((0+(Int.toNat i))<a1.length))∧(Qgf K a (w64 (k1+(1:Int))) (w64 (i+(1:Int))) ((a1).set (0+(Int.toNat i)) k1))) (K (JE (k1,a1))))):Qgf K a k1 i a1 :=
 Loop.of (by kernel_rfl) h
theorem Qx6 (a:List Int) (k:Int) (h :
 (Qgf K a k 0 a)):Hold (tawp Qe5 (0+1) Qz7 (TQ 0 1 Qoo K) (Qe [(.ow 0 [TI] dw a),(.c TI k)])) :=
 Hold.of (by kernel_rfl) h
theorem Qxd (a:List Int) (k:Int):TCon Tryz.prog 26 [(.ow 0 [TI] dw a),(.c TI k)] (JE (Qn (α:=List Int) a k)):=by
 refine Ql rfl fun hb=>tcg (Γ:=Qe5) (n:=19) (sg:=J3.sg) Qk TOkL.nil (by kernel_rfl) (by kernel_rfl) (Qx6 _ a k ?_)
 have hl_a:a.length≤9223372036854775807:=hb.1.1
 refine YU (A:=fun kk ii ll=>Qgf (fun r'=>r'=JE (Qn (α:=List Int) a k)) a kk ii ll) (Q:=fun z=>JE z=JE (Qn (α:=List Int) a k)) a k ?_ ?_ rfl
 ·intro kk pre post x hl hA
  have hlt:pre.length<a.length:=by omega
  have hw:w64 (((pre.length:Nat):Int)+1)=((pre.length+1:Nat):Int):=by rw [Qx (by omega) (by omega)];omega
  refine QmM (fun r'=>r'=JE (Qn (α:=List Int) a k)) a kk ((pre.length:Nat):Int) (pre++x::post) ?_
  refine ⟨fun _=>?_,fun h=>absurd h (by simp;omega)⟩
  simp only [Int.toNat_natCast,Nat.zero_add,YL,YV,Zh,YD,hw,lt_f,hlt,Zu,and_true,true_and,Int.natCast_nonneg]
  exact hA
 ·intro kk l hl hq
  refine QmM (fun r'=>r'=JE (Qn (α:=List Int) a k)) a kk ((a.length:Nat):Int) l ?_
  exact ⟨fun h=>absurd h (by simp),fun _=>hq⟩
theorem Qbw:Qi Tryz.prog J3:=Qm fun x _=>Qxd x.1 x.2.1
def Y4 (t:Int):TRes:=zre (zci t)
def QaQ:TRow:=Qg 27 [(.c (.sl [TI])),(.c TI)] fun x=>(some (QD (α:=List Int) x.1 x.2.1),Y4 (m_held (α:=List Int) x.1 x.2.1))
def Qeg:TTab:=⟨[],false⟩
def Qk9:TCode :=
 (zsq [(zsq [(.reg [zmv 6 5,zmv 7 0,zle 8 7,zbi 9 .lss 6 8]),(.cond 9 .skip (.exit 0))]),(.block 1 (zsq [(zsq [(.reg [zmv 12 0,zmv 13 5,zia 14 12 13 [TI],zld 15 14 1,zmv 16 1,zbi 17 .neq 15 16]),(.cond 17 (zsq [(.reg [zmv 4 (zki (-1))]),.ret]) .skip)]),(.reg [zmv 18 1,zbi 19 .add 18 (zki 1),zmv 1 19])])),(.reg [zmv 10 5,zbi 11 .add 10 (zki 1),zmv 5 11])])
def QmH:List (Nat × Md):=zdl [0,1,5]
def QoY:TCode :=
 (zsq [(.reg [zmv 20 1,zmv 4 20]),.ret])
def QvJ:TCode :=
 (zsq [(.reg [zmv 4 (zki 0)]),(zsq [(.reg [zmv 5 (zki 0)]),(.block 0 (.loop QmH Qk9))]),QoY])
def QpO:List (ARv × Md):=[(.t 4,.one .d)]
def QoS:Qb:=TQ 0 0 QpO K
def QDw:Qb:=Qseq (tawp Qeg 0 QoY (QoS K)) (QoS K)
def QzI:Qb:=Qblk 0 (QDw K)
def QfJ (a:List Int) (k1:Int) (i:Int):Prop:=Loop Qeg 0 QmH Qk9 (QzI K) ⟨[(0,(zcs [TI] a)),(1,(zci k1)),(5,(zci i))],[],0⟩
theorem Qol (a:List Int) (k1:Int) (i:Int) (h :
 (zif (decide (i<(a.length:Int))) (((0:Int)≤i∧Int.toNat i<a.length)∧(zif ((gtd (0:Int) a (Int.toNat i)) != k1) (K (Y4 (-1:Int))) (QfJ K a (w64 (k1+(1:Int))) (w64 (i+(1:Int)))))) (K (Y4 k1)))):QfJ K a k1 i :=
 Loop.of (by kernel_rfl) h
theorem QxE (a:List Int) (k:Int) (h :
 (QfJ K a k 0)):Hold (tawp Qeg (0+0) QvJ (TQ 0 0 QpO K) (Qe [(.c (.sl [TI]) a),(.c TI k)])) :=
 Hold.of (by kernel_rfl) h
theorem QEG (a:List Int) (k:Int) (hp:QD (α:=List Int) a k):TCon Tryz.prog 27 [(.c (.sl [TI]) a),(.c TI k)] (Y4 (m_held (α:=List Int) a k)):=by
 refine Ql rfl fun hb=>tcg (Γ:=Qeg) (n:=21) (sg:=QaQ.sg) Qk TOkL.nil (by kernel_rfl) (by kernel_rfl) (QxE _ a k ?_)
 have hl_a:a.length≤9223372036854775807:=hb.1.1
 refine Ji (A:=fun kk ii=>QfJ (fun r'=>r'=Y4 (m_held (α:=List Int) a k)) a kk ii) (Q:=fun z=>Y4 z=Y4 (m_held (α:=List Int) a k)) a k hp ?_ ?_ rfl
 ·intro kk pre post x ha hpx hneg hpos
  have hlt:pre.length<a.length:=by rw [ha];simp
  have hg:∀ d,gtd d a pre.length=x:=fun d=>by rw [ha];exact Zh d pre post x
  have hw:w64 (((pre.length:Nat):Int)+1)=((pre.length+1:Nat):Int):=by rw [Qx (by omega) (by omega)];omega
  refine Qol (fun r'=>r'=Y4 (m_held (α:=List Int) a k)) a kk ((pre.length:Nat):Int) ?_
  refine ⟨fun _=>?_,fun h=>absurd h (by simp;omega)⟩
  simp only [Int.toNat_natCast,hg,hw,hlt,Zu,and_true,true_and,Int.natCast_nonneg]
  simp only [JN,J4,JC,Prod.ext_iff] at hneg hpos
  refine ⟨fun h=>hneg (fun e=>Z1 h (e).symm),fun h0=>?_⟩
  have e0:=(ZY h0).symm
  exact hpos e0
 ·intro kk hq
  refine Qol (fun r'=>r'=Y4 (m_held (α:=List Int) a k)) a kk ((a.length:Nat):Int) ?_
  exact ⟨fun h=>absurd h (by simp),fun _=>hq⟩
theorem QcI:Qi Tryz.prog QaQ:=Qm fun x h=>QEG x.1 x.2.1 h
def JM (t:Int × (List Bool)):TRes:=⟨(zci t.1),[],[],true,[(.sl 0 [.bool] (.dp 0 false []) t.2)]⟩
def Qkq:TRow:=Qg 135 [(.d [.bool]),(.c TI)] fun x=>(none,JM (Qn (α:=List Bool) x.1 x.2.1))
def Qgn:TTab:=⟨[],true⟩
def Ql7:TCode :=
 (zsq [(zsq [(.reg [zmv 6 5,zmv 7 0,zle 8 7,zbi 9 .lss 6 8]),(.cond 9 .skip (.exit 0))]),(.block 1 (zsq [(.reg [zmv 12 0,zmv 13 5,zmv 14 1,zbi 15 .rem 14 (zki 3),zbi 16 .eql 15 (zki 0),zia 17 12 13 [.bool],zst 17 16 1]),(.reg [zmv 18 1,zbi 19 .add 18 (zki 1),zmv 1 19])])),(.reg [zmv 10 5,zbi 11 .add 10 (zki 1),zmv 5 11])])
def Qsp:List (Nat × Md):=[(0,.one .f),(1,.one .d),(5,.one .d)]
def Qsu:TCode :=
 (zsq [(.reg [zmv 20 1,zmv 4 20]),.ret])
def Qxz:TCode :=
 (zsq [(.reg [zmv 4 (zki 0)]),(zsq [(.reg [zmv 5 (zki 0)]),(.block 0 (.loop Qsp Ql7))]),Qsu])
def Qrz:List (ARv × Md):=[(.t 4,.one .d)]
def QnZ:Qb:=TQ 0 1 Qrz K
def QHE:Qb:=Qseq (tawp Qgn 1 Qsu (QnZ K)) (QnZ K)
def QG6:Qb:=Qblk 0 (QHE K)
def QfO (a:List Bool) (k1:Int) (i:Int) (a1:List Bool):Prop:=Loop Qgn 1 Qsp Ql7 (QG6 K) ⟨[(0,(.r [.bool] 0 0 a.length)),(1,(zci k1)),(5,(zci i))],[(0,(.sl 0 [.bool] (.dp 0 false []) a1))],1⟩
theorem Qr7 (a:List Bool) (k1:Int) (i:Int) (a1:List Bool) (h :
 (zif (decide (i<((a.length:Nat):Int))) (((¬ ((3:Int):Int)=0)∧(((0:Int)≤i∧Int.toNat i<a.length)∧((0+(Int.toNat i))<a1.length)))∧(QfO K a (w64 (k1+(1:Int))) (w64 (i+(1:Int))) ((a1).set (0+(Int.toNat i)) ((Int.tmod k1 (3:Int))==(0:Int))))) (K (JM (k1,a1))))):QfO K a k1 i a1 :=
 Loop.of (by kernel_rfl) h
theorem QBy (a:List Bool) (k:Int) (h :
 (QfO K a k 0 a)):Hold (tawp Qgn (0+1) Qxz (TQ 0 1 Qrz K) (Qe [(.ow 0 [.bool] dw a),(.c TI k)])) :=
 Hold.of (by kernel_rfl) h
theorem QId (a:List Bool) (k:Int):TCon Tryz.prog 135 [(.ow 0 [.bool] dw a),(.c TI k)] (JM (Qn (α:=List Bool) a k)):=by
 refine Ql rfl fun hb=>tcg (Γ:=Qgn) (n:=21) (sg:=Qkq.sg) Qk TOkL.nil (by kernel_rfl) (by kernel_rfl) (QBy _ a k ?_)
 have hl_a:a.length≤9223372036854775807:=hb.1.1
 refine YU (A:=fun kk ii ll=>QfO (fun r'=>r'=JM (Qn (α:=List Bool) a k)) a kk ii ll) (Q:=fun z=>JM z=JM (Qn (α:=List Bool) a k)) a k ?_ ?_ rfl
 ·intro kk pre post x hl hA
  have hlt:pre.length<a.length:=by omega
  have hw:w64 (((pre.length:Nat):Int)+1)=((pre.length+1:Nat):Int):=by rw [Qx (by omega) (by omega)];omega
  refine Qr7 (fun r'=>r'=JM (Qn (α:=List Bool) a k)) a kk ((pre.length:Nat):Int) (pre++x::post) ?_
  refine ⟨fun _=>?_,fun h=>absurd h (by simp;omega)⟩
  simp only [Int.toNat_natCast,Nat.zero_add,YL,YV,Zh,YD,hw,lt_f,hlt,Zu,and_true,true_and,Int.natCast_nonneg]
  exact hA
 ·intro kk l hl hq
  refine Qr7 (fun r'=>r'=JM (Qn (α:=List Bool) a k)) a kk ((a.length:Nat):Int) l ?_
  exact ⟨fun h=>absurd h (by simp),fun _=>hq⟩
theorem QvQ:Qi Tryz.prog Qkq:=Qm fun x _=>QId x.1 x.2.1
def Qad (t:Int × (List (List Int))):TRes:=⟨(zci t.1),[],[],true,[(.sl 0 [(.sl [TI])] (.dp 0 false []) t.2)]⟩
def QeN:TRow:=Qg 82 [(.d [(.sl [TI])]),(.c TI)] fun x=>(none,Qad (Qn (α:=List (List Int)) x.1 x.2.1))
def QfM:TTab:=⟨[J3],true⟩
def QmG:TCode :=
 (zsq [(zsq [(.reg [zmv 6 5,zmv 7 0,zle 8 7,zbi 9 .lss 6 8]),(.cond 9 .skip (.exit 0))]),(.block 1 (.reg [zmv 12 0,zmv 13 5,zia 14 12 13 [(.sl [TI])],zfa 15 14 0,zld 16 15 1,zmv 17 1,zca 18 26 [16,17],zmv 1 18])),(.reg [zmv 10 5,zbi 11 .add 10 (zki 1),zmv 5 11])])
def QuI:List (Nat × Md):=[(0,.one .f),(1,.one .d),(5,.one .d)]
def Qov:TCode :=
 (zsq [(.reg [zmv 19 1,zmv 4 19]),.ret])
def QEp:TCode :=
 (zsq [(.reg [zmv 4 (zki 0)]),(zsq [(.reg [zmv 5 (zki 0)]),(.block 0 (.loop QuI QmG))]),Qov])
def Qmd:List (ARv × Md):=[(.t 4,.one .d)]
def QoC:Qb:=TQ 0 1 Qmd K
def QwQ:Qb:=Qseq (tawp QfM 1 Qov (QoC K)) (QoC K)
def QCD:Qb:=Qblk 0 (QwQ K)
def QeI (a:List (List Int)) (k1:Int) (i:Int) (a1:List (List Int)):Prop:=Loop QfM 1 QuI QmG (QCD K) ⟨[(0,(.r [(.sl [TI])] 0 0 a.length)),(1,(zci k1)),(5,(zci i))],[(0,(.sl 0 [(.sl [TI])] (.dp 0 false []) a1))],1⟩
theorem Qts (a:List (List Int)) (k1:Int) (i:Int) (a1:List (List Int)) (h :
 (zif (decide (i<((a.length:Nat):Int))) ((((0:Int)≤i∧Int.toNat i<a.length)∧(((0+(Int.toNat i))<a1.length)∧((0+(Int.toNat i))<a1.length)))∧(QeI K a ((nst ([]:List Int) (0+(Int.toNat i)) (fun e_=>e_) (fun e_ y_=>y_) (Qn (α:=List Int)) (k1,a1)).1) (w64 (i+(1:Int))) ((nst ([]:List Int) (0+(Int.toNat i)) (fun e_=>e_) (fun e_ y_=>y_) (Qn (α:=List Int)) (k1,a1)).2))) (K (Qad (k1,a1))))):QeI K a k1 i a1 :=
 Loop.of (by kernel_rfl) h
theorem QzL (a:List (List Int)) (k:Int) (h :
 (QeI K a k 0 a)):Hold (tawp QfM (0+1) QEp (TQ 0 1 Qmd K) (Qe [(.ow 0 [(.sl [TI])] dw a),(.c TI k)])) :=
 Hold.of (by kernel_rfl) h
theorem Qzk (a:List (List Int)) (k:Int):TCon Tryz.prog 82 [(.ow 0 [(.sl [TI])] dw a),(.c TI k)] (Qad (Qn (α:=List (List Int)) a k)):=by
 refine Ql rfl fun hb=>tcg (Γ:=QfM) (n:=20) (sg:=QeN.sg) Qk (TOkL.cons Qbw TOkL.nil) (by kernel_rfl) (by kernel_rfl) (QzL _ a k ?_)
 have hl_a:a.length≤9223372036854775807:=hb.1.1
 refine YU (A:=fun kk ii ll=>QeI (fun r'=>r'=Qad (Qn (α:=List (List Int)) a k)) a kk ii ll) (Q:=fun z=>Qad z=Qad (Qn (α:=List (List Int)) a k)) a k ?_ ?_ rfl
 ·intro kk pre post x hl hA
  have hlt:pre.length<a.length:=by omega
  have hw:w64 (((pre.length:Nat):Int)+1)=((pre.length+1:Nat):Int):=by rw [Qx (by omega) (by omega)];omega
  refine Qts (fun r'=>r'=Qad (Qn (α:=List (List Int)) a k)) a kk ((pre.length:Nat):Int) (pre++x::post) ?_
  refine ⟨fun _=>?_,fun h=>absurd h (by simp;omega)⟩
  simp only [Int.toNat_natCast,Nat.zero_add,YL,YV,Zh,YD,hw,lt_f,hlt,Zu,and_true,true_and,Int.natCast_nonneg]
  exact hA
 ·intro kk l hl hq
  refine Qts (fun r'=>r'=Qad (Qn (α:=List (List Int)) a k)) a kk ((a.length:Nat):Int) l ?_
  exact ⟨fun h=>absurd h (by simp),fun _=>hq⟩
theorem Qrg:Qi Tryz.prog QeN:=Qm fun x _=>Qzk x.1 x.2.1
def Jg (t:Int):TRes:=zre (zci t)
def Qfk:TRow:=Qg 86 [(.c (.sl [(.sl [TI])])),(.c TI)] fun x=>(some (QD (α:=List (List Int)) x.1 x.2.1),Jg (m_held (α:=List (List Int)) x.1 x.2.1))
def Qdz:TTab:=⟨[QaQ],false⟩
def Qqa:TCode :=
 (zsq [(zsq [(.reg [zmv 6 5,zmv 7 0,zle 8 7,zbi 9 .lss 6 8]),(.cond 9 .skip (.exit 0))]),(.block 1 (zsq [(.reg [zmv 12 0,zmv 13 5,zia 14 12 13 [(.sl [TI])],zfa 15 14 0,zld 16 15 1,zmv 17 1,zca 18 27 [16,17],zmv 1 18]),(.reg [zmv 19 1,zbi 20 .lss 19 (zki 0)]),(.cond 20 (zsq [(.reg [zmv 4 (zki (-1))]),.ret]) .skip)])),(.reg [zmv 10 5,zbi 11 .add 10 (zki 1),zmv 5 11])])
def QkQ:List (Nat × Md):=zdl [0,1,5]
def QqV:TCode :=
 (zsq [(.reg [zmv 21 1,zmv 4 21]),.ret])
def QJd:TCode :=
 (zsq [(.reg [zmv 4 (zki 0)]),(zsq [(.reg [zmv 5 (zki 0)]),(.block 0 (.loop QkQ Qqa))]),QqV])
def Qtr:List (ARv × Md):=[(.t 4,.one .d)]
def Qpz:Qb:=TQ 0 0 Qtr K
def QES:Qb:=Qseq (tawp Qdz 0 QqV (Qpz K)) (Qpz K)
def QIH:Qb:=Qblk 0 (QES K)
def Qga (a:List (List Int)) (k1:Int) (i:Int):Prop:=Loop Qdz 0 QkQ Qqa (QIH K) ⟨[(0,(zcs [(.sl [TI])] a)),(1,(zci k1)),(5,(zci i))],[],0⟩
theorem Qme (a:List (List Int)) (k1:Int) (i:Int) (h :
 (zif (decide (i<(a.length:Int))) ((((0:Int)≤i∧Int.toNat i<a.length)∧(QD (α:=List Int) (gtd ([]:List Int) a (Int.toNat i)) k1))∧(zif (decide ((m_held (α:=List Int) (gtd ([]:List Int) a (Int.toNat i)) k1)<(0:Int))) (K (Jg (-1:Int))) (Qga K a (m_held (α:=List Int) (gtd ([]:List Int) a (Int.toNat i)) k1) (w64 (i+(1:Int)))))) (K (Jg k1)))):Qga K a k1 i :=
 Loop.of (by kernel_rfl) h
theorem QJa (a:List (List Int)) (k:Int) (h :
 (Qga K a k 0)):Hold (tawp Qdz (0+0) QJd (TQ 0 0 Qtr K) (Qe [(.c (.sl [(.sl [TI])]) a),(.c TI k)])) :=
 Hold.of (by kernel_rfl) h
theorem Qws (a:List (List Int)) (k:Int) (hp:QD (α:=List (List Int)) a k):TCon Tryz.prog 86 [(.c (.sl [(.sl [TI])]) a),(.c TI k)] (Jg (m_held (α:=List (List Int)) a k)):=by
 refine Ql rfl fun hb=>tcg (Γ:=Qdz) (n:=22) (sg:=Qfk.sg) Qk (TOkL.cons QcI TOkL.nil) (by kernel_rfl) (by kernel_rfl) (QJa _ a k ?_)
 have hl_a:a.length≤9223372036854775807:=hb.1.1
 refine Ji (A:=fun kk ii=>Qga (fun r'=>r'=Jg (m_held (α:=List (List Int)) a k)) a kk ii) (Q:=fun z=>Jg z=Jg (m_held (α:=List (List Int)) a k)) a k hp ?_ ?_ rfl
 ·intro kk pre post x ha hpx hneg hpos
  have hlt:pre.length<a.length:=by rw [ha];simp
  have hg:∀ d,gtd d a pre.length=x:=fun d=>by rw [ha];exact Zh d pre post x
  have hw:w64 (((pre.length:Nat):Int)+1)=((pre.length+1:Nat):Int):=by rw [Qx (by omega) (by omega)];omega
  refine Qme (fun r'=>r'=Jg (m_held (α:=List (List Int)) a k)) a kk ((pre.length:Nat):Int) ?_
  refine ⟨fun _=>?_,fun h=>absurd h (by simp;omega)⟩
  simp only [Int.toNat_natCast,hg,hw,hlt,Zu,and_true,true_and,Int.natCast_nonneg]
  refine ⟨hpx,fun h=>hneg (fun e=>Zl hpx (of_decide_eq_true h) (e)),fun h0=>?_⟩
  obtain ⟨e0,h0⟩:=Zn (of_decide_eq_false h0)
  rw [h0]
  exact hpos e0
 ·intro kk hq
  refine Qme (fun r'=>r'=Jg (m_held (α:=List (List Int)) a k)) a kk ((a.length:Nat):Int) ?_
  exact ⟨fun h=>absurd h (by simp),fun _=>hq⟩
theorem Qnq:Qi Tryz.prog Qfk:=Qm fun x h=>Qws x.1 x.2.1 h
def Qae (t:Int × (List TIns)):TRes:=⟨(zci t.1),[],[],true,[(.sl 0 Qd (.dp 0 false []) t.2)]⟩
def Qi8:TRow:=Qg 79 [(.d Qd),(.c TI)] fun x=>(none,Qae (Qn (α:=List TIns) x.1 x.2.1))
def QfU:TTab:=⟨[],true⟩
def QnX:TCode :=
 (zsq [(zsq [(.reg [zmv 6 5,zmv 7 0,zle 8 7,zbi 9 .lss 6 8]),(.cond 9 .skip (.exit 0))]),(.block 1 (zsq [(.reg [zmv 12 0,zmv 13 5,zmv 14 1,zia 15 12 13 Qd,zfa 16 15 0,zst 16 14 1]),(.reg [zmv 17 1,zbi 18 .add 17 (zki 1),zmv 1 18]),(.reg [zmv 19 0,zmv 20 5,zmv 21 1,zia 22 19 20 Qd,zfa 23 22 1,zst 23 21 1]),(.reg [zmv 24 1,zbi 25 .add 24 (zki 1),zmv 1 25])])),(.reg [zmv 10 5,zbi 11 .add 10 (zki 1),zmv 5 11])])
def Qld:List (Nat × Md):=[(0,.one .f),(1,.one .d),(5,.one .d)]
def QqR:TCode :=
 (zsq [(.reg [zmv 26 1,zmv 4 26]),.ret])
def QHD:TCode :=
 (zsq [(.reg [zmv 4 (zki 0)]),(zsq [(.reg [zmv 5 (zki 0)]),(.block 0 (.loop Qld QnX))]),QqR])
def Qqq:List (ARv × Md):=[(.t 4,.one .d)]
def Qmt:Qb:=TQ 0 1 Qqq K
def Qxb:Qb:=Qseq (tawp QfU 1 QqR (Qmt K)) (Qmt K)
def QwT:Qb:=Qblk 0 (Qxb K)
def Qff (a:List TIns) (k1:Int) (i:Int) (a1:List TIns):Prop:=Loop QfU 1 Qld QnX (QwT K) ⟨[(0,(.r Qd 0 0 a.length)),(1,(zci k1)),(5,(zci i))],[(0,(.sl 0 Qd (.dp 0 false []) a1))],1⟩
theorem Quu (a:List TIns) (k1:Int) (i:Int) (a1:List TIns) (h :
 (zif (decide (i<((a.length:Nat):Int))) ((((0:Int)≤i∧Int.toNat i<a.length)∧((0+(Int.toNat i))<a1.length))∧((((0:Int)≤i∧Int.toNat i<a.length)∧((0+(Int.toNat i))<((sst dIns (0+(Int.toNat i)) (fun e_ k_=>(k_,e_.2)) (k1,a1)).2).length))∧(Qff K a (w64 ((w64 (k1+(1:Int)))+(1:Int))) (w64 (i+(1:Int))) ((sst dIns (0+(Int.toNat i)) (fun e_ k_=>(e_.1,k_)) (sst dIns (0+(Int.toNat i)) (fun e_ k_=>(k_,e_.2)) (k1,a1))).2)))) (K (Qae (k1,a1))))):Qff K a k1 i a1 :=
 Loop.of (by kernel_rfl) h
theorem QEL (a:List TIns) (k:Int) (h :
 (Qff K a k 0 a)):Hold (tawp QfU (0+1) QHD (TQ 0 1 Qqq K) (Qe [(.ow 0 Qd dw a),(.c TI k)])) :=
 Hold.of (by kernel_rfl) h
theorem QwX (a:List TIns) (k:Int):TCon Tryz.prog 79 [(.ow 0 Qd dw a),(.c TI k)] (Qae (Qn (α:=List TIns) a k)):=by
 refine Ql rfl fun hb=>tcg (Γ:=QfU) (n:=27) (sg:=Qi8.sg) Qk TOkL.nil (by kernel_rfl) (by kernel_rfl) (QEL _ a k ?_)
 have hl_a:a.length≤9223372036854775807:=hb.1.1
 refine YU (A:=fun kk ii ll=>Qff (fun r'=>r'=Qae (Qn (α:=List TIns) a k)) a kk ii ll) (Q:=fun z=>Qae z=Qae (Qn (α:=List TIns) a k)) a k ?_ ?_ rfl
 ·intro kk pre post x hl hA
  have hlt:pre.length<a.length:=by omega
  have hw:w64 (((pre.length:Nat):Int)+1)=((pre.length+1:Nat):Int):=by rw [Qx (by omega) (by omega)];omega
  refine Quu (fun r'=>r'=Qae (Qn (α:=List TIns) a k)) a kk ((pre.length:Nat):Int) (pre++x::post) ?_
  refine ⟨fun _=>?_,fun h=>absurd h (by simp;omega)⟩
  simp only [Int.toNat_natCast,Nat.zero_add,YL,YV,Zh,YD,hw,lt_f,hlt,Zu,and_true,true_and,Int.natCast_nonneg]
  exact hA
 ·intro kk l hl hq
  refine Quu (fun r'=>r'=Qae (Qn (α:=List TIns) a k)) a kk ((a.length:Nat):Int) l ?_
  exact ⟨fun h=>absurd h (by simp),fun _=>hq⟩
theorem QvN:Qi Tryz.prog Qi8:=Qm fun x _=>QwX x.1 x.2.1
def YE (t:Int):TRes:=zre (zci t)
def QiM:TRow:=Qg 83 [(.c (.sl Qd)),(.c TI)] fun x=>(some (QD (α:=List TIns) x.1 x.2.1),YE (m_held (α:=List TIns) x.1 x.2.1))
def QeO:TTab:=⟨[],false⟩
def Qrb:TCode :=
 (zsq [(zsq [(.reg [zmv 6 5,zmv 7 0,zle 8 7,zbi 9 .lss 6 8]),(.cond 9 .skip (.exit 0))]),(.block 1 (zsq [(zsq [(.reg [zmv 12 0,zmv 13 5,zia 14 12 13 Qd,zfa 15 14 0,zld 16 15 1,zmv 17 1,zbi 18 .neq 16 17]),(.cond 18 (zsq [(.reg [zmv 4 (zki (-1))]),.ret]) .skip)]),(.reg [zmv 19 1,zbi 20 .add 19 (zki 1),zmv 1 20]),(zsq [(.reg [zmv 21 0,zmv 22 5,zia 23 21 22 Qd,zfa 24 23 1,zld 25 24 1,zmv 26 1,zbi 27 .neq 25 26]),(.cond 27 (zsq [(.reg [zmv 4 (zki (-1))]),.ret]) .skip)]),(.reg [zmv 28 1,zbi 29 .add 28 (zki 1),zmv 1 29])])),(.reg [zmv 10 5,zbi 11 .add 10 (zki 1),zmv 5 11])])
def Qlv:List (Nat × Md):=zdl [0,1,5]
def Qr5:TCode :=
 (zsq [(.reg [zmv 30 1,zmv 4 30]),.ret])
def QCS:TCode :=
 (zsq [(.reg [zmv 4 (zki 0)]),(zsq [(.reg [zmv 5 (zki 0)]),(.block 0 (.loop Qlv Qrb))]),Qr5])
def QpX:List (ARv × Md):=[(.t 4,.one .d)]
def QsG:Qb:=TQ 0 0 QpX K
def QEv:Qb:=Qseq (tawp QeO 0 Qr5 (QsG K)) (QsG K)
def QBg:Qb:=Qblk 0 (QEv K)
def Qee (a:List TIns) (k1:Int) (i:Int):Prop:=Loop QeO 0 Qlv Qrb (QBg K) ⟨[(0,(zcs Qd a)),(1,(zci k1)),(5,(zci i))],[],0⟩
theorem Qrs (a:List TIns) (k1:Int) (i:Int) (h :
 (zif (decide (i<(a.length:Int))) (((0:Int)≤i∧Int.toNat i<a.length)∧(zif (((gtd dIns a (Int.toNat i)).1) != k1) (K (YE (-1:Int))) (((0:Int)≤i∧Int.toNat i<a.length)∧(zif (((gtd dIns a (Int.toNat i)).2) != (w64 (k1+(1:Int)))) (K (YE (-1:Int))) (Qee K a (w64 ((w64 (k1+(1:Int)))+(1:Int))) (w64 (i+(1:Int)))))))) (K (YE k1)))):Qee K a k1 i :=
 Loop.of (by kernel_rfl) h
theorem QI9 (a:List TIns) (k:Int) (h :
 (Qee K a k 0)):Hold (tawp QeO (0+0) QCS (TQ 0 0 QpX K) (Qe [(.c (.sl Qd) a),(.c TI k)])) :=
 Hold.of (by kernel_rfl) h
theorem QIy (a:List TIns) (k:Int) (hp:QD (α:=List TIns) a k):TCon Tryz.prog 83 [(.c (.sl Qd) a),(.c TI k)] (YE (m_held (α:=List TIns) a k)):=by
 refine Ql rfl fun hb=>tcg (Γ:=QeO) (n:=31) (sg:=QiM.sg) Qk TOkL.nil (by kernel_rfl) (by kernel_rfl) (QI9 _ a k ?_)
 have hl_a:a.length≤9223372036854775807:=hb.1.1
 refine Ji (A:=fun kk ii=>Qee (fun r'=>r'=YE (m_held (α:=List TIns) a k)) a kk ii) (Q:=fun z=>YE z=YE (m_held (α:=List TIns) a k)) a k hp ?_ ?_ rfl
 ·intro kk pre post x ha hpx hneg hpos
  have hlt:pre.length<a.length:=by rw [ha];simp
  have hg:∀ d,gtd d a pre.length=x:=fun d=>by rw [ha];exact Zh d pre post x
  have hw:w64 (((pre.length:Nat):Int)+1)=((pre.length+1:Nat):Int):=by rw [Qx (by omega) (by omega)];omega
  refine Qrs (fun r'=>r'=YE (m_held (α:=List TIns) a k)) a kk ((pre.length:Nat):Int) ?_
  refine ⟨fun _=>?_,fun h=>absurd h (by simp;omega)⟩
  simp only [Int.toNat_natCast,hg,hw,hlt,Zu,and_true,true_and,Int.natCast_nonneg]
  have hp0:=(QH hpx).1
  have hq0:=(QH hpx).2
  simp only [JN,J4,JC,Prod.ext_iff] at hneg hpos hp0 hq0
  refine ⟨fun h=>hneg (fun e=>Z1 h (e.1).symm),fun h0=>?_⟩
  have e0:=(ZY h0).symm
  refine ⟨fun h=>hneg (fun e=>Z1 h (e.2).symm),fun h1=>?_⟩
  have e1:=(ZY h1).symm
  exact hpos ⟨e0,e1⟩
 ·intro kk hq
  refine Qrs (fun r'=>r'=YE (m_held (α:=List TIns) a k)) a kk ((a.length:Nat):Int) ?_
  exact ⟨fun h=>absurd h (by simp),fun _=>hq⟩
theorem QIV:Qi Tryz.prog QiM:=Qm fun x h=>QIy x.1 x.2.1 h
def Qab (t:Int × (List Qy)):TRes:=⟨(zci t.1),[],[],true,[(.sl 0 QW (.dp 0 false []) t.2)]⟩
def Qkp:TRow:=Qg 182 [(.d QW),(.c TI)] fun x=>(none,Qab (Qn (α:=List Qy) x.1 x.2.1))
def QdW:TTab:=⟨[J3],true⟩
def QuE:TCode :=
 (zsq [(zsq [(.reg [zmv 6 5,zmv 7 0,zle 8 7,zbi 9 .lss 6 8]),(.cond 9 .skip (.exit 0))]),(.block 1 (zsq [(.reg [zmv 12 0,zmv 13 5,zmv 14 1,zia 15 12 13 QW,zfa 16 15 0,zst 16 14 1]),(.reg [zmv 17 1,zbi 18 .add 17 (zki 1),zmv 1 18]),(.reg [zmv 19 0,zmv 20 5,zia 21 19 20 QW,zfa 22 21 1,zld 23 22 1,zmv 24 1,zca 25 26 [23,24],zmv 1 25])])),(.reg [zmv 10 5,zbi 11 .add 10 (zki 1),zmv 5 11])])
def QkV:List (Nat × Md):=[(0,.one .f),(1,.one .d),(5,.one .d)]
def Qun:TCode :=
 (zsq [(.reg [zmv 26 1,zmv 4 26]),.ret])
def Qw5:TCode :=
 (zsq [(.reg [zmv 4 (zki 0)]),(zsq [(.reg [zmv 5 (zki 0)]),(.block 0 (.loop QkV QuE))]),Qun])
def Qtj:List (ARv × Md):=[(.t 4,.one .d)]
def Qu1:Qb:=TQ 0 1 Qtj K
def Qx4:Qb:=Qseq (tawp QdW 1 Qun (Qu1 K)) (Qu1 K)
def Qvz:Qb:=Qblk 0 (Qx4 K)
def Qf1 (a:List Qy) (k1:Int) (i:Int) (a1:List Qy):Prop:=Loop QdW 1 QkV QuE (Qvz K) ⟨[(0,(.r QW 0 0 a.length)),(1,(zci k1)),(5,(zci i))],[(0,(.sl 0 QW (.dp 0 false []) a1))],1⟩
theorem Qns (a:List Qy) (k1:Int) (i:Int) (a1:List Qy) (h :
 (zif (decide (i<((a.length:Nat):Int))) ((((0:Int)≤i∧Int.toNat i<a.length)∧((0+(Int.toNat i))<a1.length))∧((((0:Int)≤i∧Int.toNat i<a.length)∧(((0+(Int.toNat i))<((sst ((0,[]):Qy) (0+(Int.toNat i)) (fun e_ k_=>(k_,e_.2)) (k1,a1)).2).length)∧((0+(Int.toNat i))<((sst ((0,[]):Qy) (0+(Int.toNat i)) (fun e_ k_=>(k_,e_.2)) (k1,a1)).2).length)))∧(Qf1 K a ((nst ((0,[]):Qy) (0+(Int.toNat i)) (fun e_=>e_.2) (fun e_ y_=>(e_.1,y_)) (Qn (α:=List Int)) (sst ((0,[]):Qy) (0+(Int.toNat i)) (fun e_ k_=>(k_,e_.2)) (k1,a1))).1) (w64 (i+(1:Int))) ((nst ((0,[]):Qy) (0+(Int.toNat i)) (fun e_=>e_.2) (fun e_ y_=>(e_.1,y_)) (Qn (α:=List Int)) (sst ((0,[]):Qy) (0+(Int.toNat i)) (fun e_ k_=>(k_,e_.2)) (k1,a1))).2)))) (K (Qab (k1,a1))))):Qf1 K a k1 i a1 :=
 Loop.of (by kernel_rfl) h
theorem QHl (a:List Qy) (k:Int) (h :
 (Qf1 K a k 0 a)):Hold (tawp QdW (0+1) Qw5 (TQ 0 1 Qtj K) (Qe [(.ow 0 QW dw a),(.c TI k)])) :=
 Hold.of (by kernel_rfl) h
theorem QAZ (a:List Qy) (k:Int):TCon Tryz.prog 182 [(.ow 0 QW dw a),(.c TI k)] (Qab (Qn (α:=List Qy) a k)):=by
 refine Ql rfl fun hb=>tcg (Γ:=QdW) (n:=27) (sg:=Qkp.sg) Qk (TOkL.cons Qbw TOkL.nil) (by kernel_rfl) (by kernel_rfl) (QHl _ a k ?_)
 have hl_a:a.length≤9223372036854775807:=hb.1.1
 refine YU (A:=fun kk ii ll=>Qf1 (fun r'=>r'=Qab (Qn (α:=List Qy) a k)) a kk ii ll) (Q:=fun z=>Qab z=Qab (Qn (α:=List Qy) a k)) a k ?_ ?_ rfl
 ·intro kk pre post x hl hA
  have hlt:pre.length<a.length:=by omega
  have hw:w64 (((pre.length:Nat):Int)+1)=((pre.length+1:Nat):Int):=by rw [Qx (by omega) (by omega)];omega
  refine Qns (fun r'=>r'=Qab (Qn (α:=List Qy) a k)) a kk ((pre.length:Nat):Int) (pre++x::post) ?_
  refine ⟨fun _=>?_,fun h=>absurd h (by simp;omega)⟩
  simp only [Int.toNat_natCast,Nat.zero_add,YL,YV,Zh,YD,hw,lt_f,hlt,Zu,and_true,true_and,Int.natCast_nonneg]
  exact hA
 ·intro kk l hl hq
  refine Qns (fun r'=>r'=Qab (Qn (α:=List Qy) a k)) a kk ((a.length:Nat):Int) l ?_
  exact ⟨fun h=>absurd h (by simp),fun _=>hq⟩
theorem QJp:Qi Tryz.prog Qkp:=Qm fun x _=>QAZ x.1 x.2.1
def YG (t:Int):TRes:=zre (zci t)
def QiI:TRow:=Qg 214 [(.c (.sl QW)),(.c TI)] fun x=>(some (QD (α:=List Qy) x.1 x.2.1),YG (m_held (α:=List Qy) x.1 x.2.1))
def Qeo:TTab:=⟨[QaQ],false⟩
def Qqo:TCode :=
 (zsq [(zsq [(.reg [zmv 6 5,zmv 7 0,zle 8 7,zbi 9 .lss 6 8]),(.cond 9 .skip (.exit 0))]),(.block 1 (zsq [(zsq [(.reg [zmv 12 0,zmv 13 5,zia 14 12 13 QW,zfa 15 14 0,zld 16 15 1,zmv 17 1,zbi 18 .neq 16 17]),(.cond 18 (zsq [(.reg [zmv 4 (zki (-1))]),.ret]) .skip)]),(.reg [zmv 19 1,zbi 20 .add 19 (zki 1),zmv 1 20]),(.reg [zmv 21 0,zmv 22 5,zia 23 21 22 QW,zfa 24 23 1,zld 25 24 1,zmv 26 1,zca 27 27 [25,26],zmv 1 27]),(.reg [zmv 28 1,zbi 29 .lss 28 (zki 0)]),(.cond 29 (zsq [(.reg [zmv 4 (zki (-1))]),.ret]) .skip)])),(.reg [zmv 10 5,zbi 11 .add 10 (zki 1),zmv 5 11])])
def Qob:List (Nat × Md):=zdl [0,1,5]
def Qlx:TCode :=
 (zsq [(.reg [zmv 30 1,zmv 4 30]),.ret])
def Qv7:TCode :=
 (zsq [(.reg [zmv 4 (zki 0)]),(zsq [(.reg [zmv 5 (zki 0)]),(.block 0 (.loop Qob Qqo))]),Qlx])
def Qlj:List (ARv × Md):=[(.t 4,.one .d)]
def Quo:Qb:=TQ 0 0 Qlj K
def QvL:Qb:=Qseq (tawp Qeo 0 Qlx (Quo K)) (Quo K)
def QGo:Qb:=Qblk 0 (QvL K)
def Qdv (a:List Qy) (k1:Int) (i:Int):Prop:=Loop Qeo 0 Qob Qqo (QGo K) ⟨[(0,(zcs QW a)),(1,(zci k1)),(5,(zci i))],[],0⟩
theorem QsN (a:List Qy) (k1:Int) (i:Int) (h :
 (zif (decide (i<(a.length:Int))) (((0:Int)≤i∧Int.toNat i<a.length)∧(zif (((gtd ((0,[]):Qy) a (Int.toNat i)).1) != k1) (K (YG (-1:Int))) ((((0:Int)≤i∧Int.toNat i<a.length)∧(QD (α:=List Int) ((gtd ((0,[]):Qy) a (Int.toNat i)).2) (w64 (k1+(1:Int)))))∧(zif (decide ((m_held (α:=List Int) ((gtd ((0,[]):Qy) a (Int.toNat i)).2) (w64 (k1+(1:Int))))<(0:Int))) (K (YG (-1:Int))) (Qdv K a (m_held (α:=List Int) ((gtd ((0,[]):Qy) a (Int.toNat i)).2) (w64 (k1+(1:Int)))) (w64 (i+(1:Int)))))))) (K (YG k1)))):Qdv K a k1 i :=
 Loop.of (by kernel_rfl) h
theorem QyO (a:List Qy) (k:Int) (h :
 (Qdv K a k 0)):Hold (tawp Qeo (0+0) Qv7 (TQ 0 0 Qlj K) (Qe [(.c (.sl QW) a),(.c TI k)])) :=
 Hold.of (by kernel_rfl) h
theorem QDk (a:List Qy) (k:Int) (hp:QD (α:=List Qy) a k):TCon Tryz.prog 214 [(.c (.sl QW) a),(.c TI k)] (YG (m_held (α:=List Qy) a k)):=by
 refine Ql rfl fun hb=>tcg (Γ:=Qeo) (n:=31) (sg:=QiI.sg) Qk (TOkL.cons QcI TOkL.nil) (by kernel_rfl) (by kernel_rfl) (QyO _ a k ?_)
 have hl_a:a.length≤9223372036854775807:=hb.1.1
 refine Ji (A:=fun kk ii=>Qdv (fun r'=>r'=YG (m_held (α:=List Qy) a k)) a kk ii) (Q:=fun z=>YG z=YG (m_held (α:=List Qy) a k)) a k hp ?_ ?_ rfl
 ·intro kk pre post x ha hpx hneg hpos
  have hlt:pre.length<a.length:=by rw [ha];simp
  have hg:∀ d,gtd d a pre.length=x:=fun d=>by rw [ha];exact Zh d pre post x
  have hw:w64 (((pre.length:Nat):Int)+1)=((pre.length+1:Nat):Int):=by rw [Qx (by omega) (by omega)];omega
  refine QsN (fun r'=>r'=YG (m_held (α:=List Qy) a k)) a kk ((pre.length:Nat):Int) ?_
  refine ⟨fun _=>?_,fun h=>absurd h (by simp;omega)⟩
  simp only [Int.toNat_natCast,hg,hw,hlt,Zu,and_true,true_and,Int.natCast_nonneg]
  have hp0:=(QH hpx).1
  have hq0:=(QH hpx).2
  simp only [JN,J4,JC,Prod.ext_iff] at hneg hpos hp0 hq0
  refine ⟨fun h=>hneg (fun e=>Z1 h (e.1).symm),fun h0=>?_⟩
  have e0:=(ZY h0).symm
  refine ⟨hq0,fun h=>hneg (fun e=>Zl hq0 (of_decide_eq_true h) (e.2)),fun h1=>?_⟩
  obtain ⟨e1,h1⟩:=Zn (of_decide_eq_false h1)
  rw [h1]
  exact hpos ⟨e0,e1⟩
 ·intro kk hq
  refine QsN (fun r'=>r'=YG (m_held (α:=List Qy) a k)) a kk ((a.length:Nat):Int) ?_
  exact ⟨fun h=>absurd h (by simp),fun _=>hq⟩
theorem QyR:Qi Tryz.prog QiI:=Qm fun x h=>QDk x.1 x.2.1 h
def JY (t:Int × (List TOp')):TRes:=⟨(zci t.1),[],[],true,[(.sl 0 ctOp (.dp 0 false []) t.2)]⟩
def Qf3:TRow:=Qg 80 [(.d ctOp),(.c TI)] fun x=>(none,JY (Qn (α:=List TOp') x.1 x.2.1))
def Qgp:TTab:=⟨[J3],true⟩
def Qp3:TCode :=
 (zsq [(zsq [(.reg [zmv 6 5,zmv 7 0,zle 8 7,zbi 9 .lss 6 8]),(.cond 9 .skip (.exit 0))]),(.block 1 (zsq [(.reg [zmv 12 0,zmv 13 5,zmv 14 1,zia 15 12 13 ctOp,zfa 16 15 0,zst 16 14 1]),(.reg [zmv 17 1,zbi 18 .add 17 (zki 1),zmv 1 18]),(.reg [zmv 19 0,zmv 20 5,zmv 21 1,zia 22 19 20 ctOp,zfa 23 22 1,zst 23 21 1]),(.reg [zmv 24 1,zbi 25 .add 24 (zki 1),zmv 1 25]),(.reg [zmv 26 0,zmv 27 5,zmv 28 1,zia 29 26 27 ctOp,zfa 30 29 2,zst 30 28 1]),(.reg [zmv 31 1,zbi 32 .add 31 (zki 1),zmv 1 32]),(.reg [zmv 33 0,zmv 34 5,zia 35 33 34 ctOp,zfa 36 35 3,zld 37 36 1,zmv 38 1,zca 39 26 [37,38],zmv 1 39])])),(.reg [zmv 10 5,zbi 11 .add 10 (zki 1),zmv 5 11])])
def Qp6:List (Nat × Md):=[(0,.one .f),(1,.one .d),(5,.one .d)]
def Qmw:TCode :=
 (zsq [(.reg [zmv 40 1,zmv 4 40]),.ret])
def QI4:TCode :=
 (zsq [(.reg [zmv 4 (zki 0)]),(zsq [(.reg [zmv 5 (zki 0)]),(.block 0 (.loop Qp6 Qp3))]),Qmw])
def Qui:List (ARv × Md):=[(.t 4,.one .d)]
def Qtp:Qb:=TQ 0 1 Qui K
def Qvp:Qb:=Qseq (tawp Qgp 1 Qmw (Qtp K)) (Qtp K)
def QyS:Qb:=Qblk 0 (Qvp K)
def QeZ (a:List TOp') (k1:Int) (i:Int) (a1:List TOp'):Prop:=Loop Qgp 1 Qp6 Qp3 (QyS K) ⟨[(0,(.r ctOp 0 0 a.length)),(1,(zci k1)),(5,(zci i))],[(0,(.sl 0 ctOp (.dp 0 false []) a1))],1⟩
theorem Qsz (a:List TOp') (k1:Int) (i:Int) (a1:List TOp') (h :
 let z2:=sst dOp (0+(Int.toNat i)) (fun e_ k_=>(k_,e_.2.1,e_.2.2.1,e_.2.2.2)) (k1,a1)
 let z4:=sst dOp (0+(Int.toNat i)) (fun e_ k_=>(e_.1,k_,e_.2.2.1,e_.2.2.2)) z2
 let z1:=sst dOp (0+(Int.toNat i)) (fun e_ k_=>(e_.1,e_.2.1,k_,e_.2.2.2)) z4
 let z3:=nst dOp (0+(Int.toNat i)) (fun e_=>e_.2.2.2) (fun e_ y_=>(e_.1,e_.2.1,e_.2.2.1,y_)) (Qn (α:=List Int)) z1
 (zif (decide (i<((a.length:Nat):Int))) ((((0:Int)≤i∧Int.toNat i<a.length)∧((0+(Int.toNat i))<a1.length))∧((((0:Int)≤i∧Int.toNat i<a.length)∧((0+(Int.toNat i))<(z2.2).length))∧((((0:Int)≤i∧Int.toNat i<a.length)∧((0+(Int.toNat i))<(z4.2).length))∧((((0:Int)≤i∧Int.toNat i<a.length)∧(((0+(Int.toNat i))<(z1.2).length)∧((0+(Int.toNat i))<(z1.2).length)))∧(QeZ K a (z3.1) (w64 (i+(1:Int))) (z3.2)))))) (K (JY (k1,a1))))):QeZ K a k1 i a1 :=
 Loop.of (by kernel_rfl) h
theorem QyL (a:List TOp') (k:Int) (h :
 (QeZ K a k 0 a)):Hold (tawp Qgp (0+1) QI4 (TQ 0 1 Qui K) (Qe [(.ow 0 ctOp dw a),(.c TI k)])) :=
 Hold.of (by kernel_rfl) h
theorem QAC (a:List TOp') (k:Int):TCon Tryz.prog 80 [(.ow 0 ctOp dw a),(.c TI k)] (JY (Qn (α:=List TOp') a k)):=by
 refine Ql rfl fun hb=>tcg (Γ:=Qgp) (n:=41) (sg:=Qf3.sg) Qk (TOkL.cons Qbw TOkL.nil) (by kernel_rfl) (by kernel_rfl) (QyL _ a k ?_)
 have hl_a:a.length≤9223372036854775807:=hb.1.1
 refine YU (A:=fun kk ii ll=>QeZ (fun r'=>r'=JY (Qn (α:=List TOp') a k)) a kk ii ll) (Q:=fun z=>JY z=JY (Qn (α:=List TOp') a k)) a k ?_ ?_ rfl
 ·intro kk pre post x hl hA
  have hlt:pre.length<a.length:=by omega
  have hw:w64 (((pre.length:Nat):Int)+1)=((pre.length+1:Nat):Int):=by rw [Qx (by omega) (by omega)];omega
  refine Qsz (fun r'=>r'=JY (Qn (α:=List TOp') a k)) a kk ((pre.length:Nat):Int) (pre++x::post) ?_
  conv=>zeta
  refine ⟨fun _=>?_,fun h=>absurd h (by simp;omega)⟩
  simp only [Int.toNat_natCast,Nat.zero_add,YL,YV,Zh,YD,hw,lt_f,hlt,Zu,and_true,true_and,Int.natCast_nonneg]
  exact hA
 ·intro kk l hl hq
  refine Qsz (fun r'=>r'=JY (Qn (α:=List TOp') a k)) a kk ((a.length:Nat):Int) l ?_
  conv=>zeta
  exact ⟨fun h=>absurd h (by simp),fun _=>hq⟩
theorem Qof:Qi Tryz.prog Qf3:=Qm fun x _=>QAC x.1 x.2.1
def Yh (t:Int):TRes:=zre (zci t)
def Qjt:TRow:=Qg 84 [(.c (.sl ctOp)),(.c TI)] fun x=>(some (QD (α:=List TOp') x.1 x.2.1),Yh (m_held (α:=List TOp') x.1 x.2.1))
def Qdu:TTab:=⟨[QaQ],false⟩
def QnW:TCode :=
 (zsq [(zsq [(.reg [zmv 6 5,zmv 7 0,zle 8 7,zbi 9 .lss 6 8]),(.cond 9 .skip (.exit 0))]),(.block 1 (zsq [(zsq [(.reg [zmv 12 0,zmv 13 5,zia 14 12 13 ctOp,zfa 15 14 0,zld 16 15 1,zmv 17 1,zbi 18 .neq 16 17]),(.cond 18 (zsq [(.reg [zmv 4 (zki (-1))]),.ret]) .skip)]),(.reg [zmv 19 1,zbi 20 .add 19 (zki 1),zmv 1 20]),(zsq [(.reg [zmv 21 0,zmv 22 5,zia 23 21 22 ctOp,zfa 24 23 1,zld 25 24 1,zmv 26 1,zbi 27 .neq 25 26]),(.cond 27 (zsq [(.reg [zmv 4 (zki (-1))]),.ret]) .skip)]),(.reg [zmv 28 1,zbi 29 .add 28 (zki 1),zmv 1 29]),(zsq [(.reg [zmv 30 0,zmv 31 5,zia 32 30 31 ctOp,zfa 33 32 2,zld 34 33 1,zmv 35 1,zbi 36 .neq 34 35]),(.cond 36 (zsq [(.reg [zmv 4 (zki (-1))]),.ret]) .skip)]),(.reg [zmv 37 1,zbi 38 .add 37 (zki 1),zmv 1 38]),(.reg [zmv 39 0,zmv 40 5,zia 41 39 40 ctOp,zfa 42 41 3,zld 43 42 1,zmv 44 1,zca 45 27 [43,44],zmv 1 45]),(.reg [zmv 46 1,zbi 47 .lss 46 (zki 0)]),(.cond 47 (zsq [(.reg [zmv 4 (zki (-1))]),.ret]) .skip)])),(.reg [zmv 10 5,zbi 11 .add 10 (zki 1),zmv 5 11])])
def Qm2:List (Nat × Md):=zdl [0,1,5]
def Qor:TCode :=
 (zsq [(.reg [zmv 48 1,zmv 4 48]),.ret])
def QCO:TCode :=
 (zsq [(.reg [zmv 4 (zki 0)]),(zsq [(.reg [zmv 5 (zki 0)]),(.block 0 (.loop Qm2 QnW))]),Qor])
def QmA:List (ARv × Md):=[(.t 4,.one .d)]
def Qp0:Qb:=TQ 0 0 QmA K
def QyK:Qb:=Qseq (tawp Qdu 0 Qor (Qp0 K)) (Qp0 K)
def QJq:Qb:=Qblk 0 (QyK K)
def Qeq (a:List TOp') (k1:Int) (i:Int):Prop:=Loop Qdu 0 Qm2 QnW (QJq K) ⟨[(0,(zcs ctOp a)),(1,(zci k1)),(5,(zci i))],[],0⟩
theorem Qk2 (a:List TOp') (k1:Int) (i:Int) (h :
 (zif (decide (i<(a.length:Int))) (((0:Int)≤i∧Int.toNat i<a.length)∧(zif (((gtd dOp a (Int.toNat i)).1) != k1) (K (Yh (-1:Int))) (((0:Int)≤i∧Int.toNat i<a.length)∧(zif (((gtd dOp a (Int.toNat i)).2.1) != (w64 (k1+(1:Int)))) (K (Yh (-1:Int))) (((0:Int)≤i∧Int.toNat i<a.length)∧(zif (((gtd dOp a (Int.toNat i)).2.2.1) != (w64 ((w64 (k1+(1:Int)))+(1:Int)))) (K (Yh (-1:Int))) ((((0:Int)≤i∧Int.toNat i<a.length)∧(QD (α:=List Int) ((gtd dOp a (Int.toNat i)).2.2.2) (w64 ((w64 ((w64 (k1+(1:Int)))+(1:Int)))+(1:Int)))))∧(zif (decide ((m_held (α:=List Int) ((gtd dOp a (Int.toNat i)).2.2.2) (w64 ((w64 ((w64 (k1+(1:Int)))+(1:Int)))+(1:Int))))<(0:Int))) (K (Yh (-1:Int))) (Qeq K a (m_held (α:=List Int) ((gtd dOp a (Int.toNat i)).2.2.2) (w64 ((w64 ((w64 (k1+(1:Int)))+(1:Int)))+(1:Int)))) (w64 (i+(1:Int)))))))))))) (K (Yh k1)))):Qeq K a k1 i :=
 Loop.of (by kernel_rfl) h
theorem QHR (a:List TOp') (k:Int) (h :
 (Qeq K a k 0)):Hold (tawp Qdu (0+0) QCO (TQ 0 0 QmA K) (Qe [(.c (.sl ctOp) a),(.c TI k)])) :=
 Hold.of (by kernel_rfl) h
theorem QDl (a:List TOp') (k:Int) (hp:QD (α:=List TOp') a k):TCon Tryz.prog 84 [(.c (.sl ctOp) a),(.c TI k)] (Yh (m_held (α:=List TOp') a k)):=by
 refine Ql rfl fun hb=>tcg (Γ:=Qdu) (n:=49) (sg:=Qjt.sg) Qk (TOkL.cons QcI TOkL.nil) (by kernel_rfl) (by kernel_rfl) (QHR _ a k ?_)
 have hl_a:a.length≤9223372036854775807:=hb.1.1
 refine Ji (A:=fun kk ii=>Qeq (fun r'=>r'=Yh (m_held (α:=List TOp') a k)) a kk ii) (Q:=fun z=>Yh z=Yh (m_held (α:=List TOp') a k)) a k hp ?_ ?_ rfl
 ·intro kk pre post x ha hpx hneg hpos
  have hlt:pre.length<a.length:=by rw [ha];simp
  have hg:∀ d,gtd d a pre.length=x:=fun d=>by rw [ha];exact Zh d pre post x
  have hw:w64 (((pre.length:Nat):Int)+1)=((pre.length+1:Nat):Int):=by rw [Qx (by omega) (by omega)];omega
  refine Qk2 (fun r'=>r'=Yh (m_held (α:=List TOp') a k)) a kk ((pre.length:Nat):Int) ?_
  refine ⟨fun _=>?_,fun h=>absurd h (by simp;omega)⟩
  simp only [Int.toNat_natCast,hg,hw,hlt,Zu,and_true,true_and,Int.natCast_nonneg]
  have hp0:=(QH hpx).1
  have hq0:=(QH hpx).2
  have hp1:=(QH hq0).1
  have hq1:=(QH hq0).2
  have hp2:=(QH hq1).1
  have hq2:=(QH hq1).2
  simp only [JN,J4,JC,Prod.ext_iff] at hneg hpos hp0 hq0 hp1 hq1 hp2 hq2
  refine ⟨fun h=>hneg (fun e=>Z1 h (e.1).symm),fun h0=>?_⟩
  have e0:=(ZY h0).symm
  refine ⟨fun h=>hneg (fun e=>Z1 h (e.2.1).symm),fun h1=>?_⟩
  have e1:=(ZY h1).symm
  refine ⟨fun h=>hneg (fun e=>Z1 h (e.2.2.1).symm),fun h2=>?_⟩
  have e2:=(ZY h2).symm
  refine ⟨hq2,fun h=>hneg (fun e=>Zl hq2 (of_decide_eq_true h) (e.2.2.2)),fun h3=>?_⟩
  obtain ⟨e3,h3⟩:=Zn (of_decide_eq_false h3)
  rw [h3]
  exact hpos ⟨e0,e1,e2,e3⟩
 ·intro kk hq
  refine Qk2 (fun r'=>r'=Yh (m_held (α:=List TOp') a k)) a kk ((a.length:Nat):Int) ?_
  exact ⟨fun h=>absurd h (by simp),fun _=>hq⟩
theorem Qx7:Qi Tryz.prog Qjt:=Qm fun x h=>QDl x.1 x.2.1 h
def JJ (t:Int × (List Qc)):TRes:=⟨(zci t.1),[],[],true,[(.sl 0 Qj (.dp 0 false []) t.2)]⟩
def Qez:TRow:=Qg 42 [(.d Qj),(.c TI)] fun x=>(none,JJ (Qn (α:=List Qc) x.1 x.2.1))
def QdK:TTab:=⟨[J3],true⟩
def QoL:TCode :=
 (zsq [(zsq [(.reg [zmv 6 5,zmv 7 0,zle 8 7,zbi 9 .lss 6 8]),(.cond 9 .skip (.exit 0))]),(.block 1 (zsq [(.reg [zmv 12 0,zmv 13 5,zia 14 12 13 Qj,zfa 15 14 0,zld 16 15 1,zmv 17 1,zca 18 26 [16,17],zmv 1 18]),(.reg [zmv 19 0,zmv 20 5,zia 21 19 20 Qj,zfa 22 21 1,zld 23 22 1,zmv 24 1,zca 25 26 [23,24],zmv 1 25])])),(.reg [zmv 10 5,zbi 11 .add 10 (zki 1),zmv 5 11])])
def Qr4:List (Nat × Md):=[(0,.one .f),(1,.one .d),(5,.one .d)]
def Quc:TCode :=
 (zsq [(.reg [zmv 26 1,zmv 4 26]),.ret])
def QJk:TCode :=
 (zsq [(.reg [zmv 4 (zki 0)]),(zsq [(.reg [zmv 5 (zki 0)]),(.block 0 (.loop Qr4 QoL))]),Quc])
def QrU:List (ARv × Md):=[(.t 4,.one .d)]
def Qup:Qb:=TQ 0 1 QrU K
def QCN:Qb:=Qseq (tawp QdK 1 Quc (Qup K)) (Qup K)
def QFo:Qb:=Qblk 0 (QCN K)
def QfB (a:List Qc) (k1:Int) (i:Int) (a1:List Qc):Prop:=Loop QdK 1 Qr4 QoL (QFo K) ⟨[(0,(.r Qj 0 0 a.length)),(1,(zci k1)),(5,(zci i))],[(0,(.sl 0 Qj (.dp 0 false []) a1))],1⟩
theorem Qt2 (a:List Qc) (k1:Int) (i:Int) (a1:List Qc) (h :
 (zif (decide (i<((a.length:Nat):Int))) ((((0:Int)≤i∧Int.toNat i<a.length)∧(((0+(Int.toNat i))<a1.length)∧((0+(Int.toNat i))<a1.length)))∧((((0:Int)≤i∧Int.toNat i<a.length)∧(((0+(Int.toNat i))<((nst QC (0+(Int.toNat i)) (fun e_=>e_.1) (fun e_ y_=>(y_,e_.2)) (Qn (α:=List Int)) (k1,a1)).2).length)∧((0+(Int.toNat i))<((nst QC (0+(Int.toNat i)) (fun e_=>e_.1) (fun e_ y_=>(y_,e_.2)) (Qn (α:=List Int)) (k1,a1)).2).length)))∧(QfB K a ((nst QC (0+(Int.toNat i)) (fun e_=>e_.2) (fun e_ y_=>(e_.1,y_)) (Qn (α:=List Int)) (nst QC (0+(Int.toNat i)) (fun e_=>e_.1) (fun e_ y_=>(y_,e_.2)) (Qn (α:=List Int)) (k1,a1))).1) (w64 (i+(1:Int))) ((nst QC (0+(Int.toNat i)) (fun e_=>e_.2) (fun e_ y_=>(e_.1,y_)) (Qn (α:=List Int)) (nst QC (0+(Int.toNat i)) (fun e_=>e_.1) (fun e_ y_=>(y_,e_.2)) (Qn (α:=List Int)) (k1,a1))).2)))) (K (JJ (k1,a1))))):QfB K a k1 i a1 :=
 Loop.of (by kernel_rfl) h
theorem QID (a:List Qc) (k:Int) (h :
 (QfB K a k 0 a)):Hold (tawp QdK (0+1) QJk (TQ 0 1 QrU K) (Qe [(.ow 0 Qj dw a),(.c TI k)])) :=
 Hold.of (by kernel_rfl) h
theorem Qww (a:List Qc) (k:Int):TCon Tryz.prog 42 [(.ow 0 Qj dw a),(.c TI k)] (JJ (Qn (α:=List Qc) a k)):=by
 refine Ql rfl fun hb=>tcg (Γ:=QdK) (n:=27) (sg:=Qez.sg) Qk (TOkL.cons Qbw TOkL.nil) (by kernel_rfl) (by kernel_rfl) (QID _ a k ?_)
 have hl_a:a.length≤9223372036854775807:=hb.1.1
 refine YU (A:=fun kk ii ll=>QfB (fun r'=>r'=JJ (Qn (α:=List Qc) a k)) a kk ii ll) (Q:=fun z=>JJ z=JJ (Qn (α:=List Qc) a k)) a k ?_ ?_ rfl
 ·intro kk pre post x hl hA
  have hlt:pre.length<a.length:=by omega
  have hw:w64 (((pre.length:Nat):Int)+1)=((pre.length+1:Nat):Int):=by rw [Qx (by omega) (by omega)];omega
  refine Qt2 (fun r'=>r'=JJ (Qn (α:=List Qc) a k)) a kk ((pre.length:Nat):Int) (pre++x::post) ?_
  refine ⟨fun _=>?_,fun h=>absurd h (by simp;omega)⟩
  simp only [Int.toNat_natCast,Nat.zero_add,YL,YV,Zh,YD,hw,lt_f,hlt,Zu,and_true,true_and,Int.natCast_nonneg]
  exact hA
 ·intro kk l hl hq
  refine Qt2 (fun r'=>r'=JJ (Qn (α:=List Qc) a k)) a kk ((a.length:Nat):Int) l ?_
  exact ⟨fun h=>absurd h (by simp),fun _=>hq⟩
theorem QsP:Qi Tryz.prog Qez:=Qm fun x _=>Qww x.1 x.2.1
def YT (t:Int):TRes:=zre (zci t)
def QgV:TRow:=Qg 136 [(.c (.sl Qj)),(.c TI)] fun x=>(some (QD (α:=List Qc) x.1 x.2.1),YT (m_held (α:=List Qc) x.1 x.2.1))
def Qd2:TTab:=⟨[QaQ],false⟩
def Qrp:TCode :=
 (zsq [(zsq [(.reg [zmv 6 5,zmv 7 0,zle 8 7,zbi 9 .lss 6 8]),(.cond 9 .skip (.exit 0))]),(.block 1 (zsq [(.reg [zmv 12 0,zmv 13 5,zia 14 12 13 Qj,zfa 15 14 0,zld 16 15 1,zmv 17 1,zca 18 27 [16,17],zmv 1 18]),(zsq [(.reg [zmv 19 1,zbi 20 .lss 19 (zki 0)]),(.cond 20 (zsq [(.reg [zmv 4 (zki (-1))]),.ret]) .skip)]),(.reg [zmv 21 0,zmv 22 5,zia 23 21 22 Qj,zfa 24 23 1,zld 25 24 1,zmv 26 1,zca 27 27 [25,26],zmv 1 27]),(.reg [zmv 28 1,zbi 29 .lss 28 (zki 0)]),(.cond 29 (zsq [(.reg [zmv 4 (zki (-1))]),.ret]) .skip)])),(.reg [zmv 10 5,zbi 11 .add 10 (zki 1),zmv 5 11])])
def QkN:List (Nat × Md):=zdl [0,1,5]
def QrO:TCode :=
 (zsq [(.reg [zmv 30 1,zmv 4 30]),.ret])
def QHV:TCode :=
 (zsq [(.reg [zmv 4 (zki 0)]),(zsq [(.reg [zmv 5 (zki 0)]),(.block 0 (.loop QkN Qrp))]),QrO])
def Quy:List (ARv × Md):=[(.t 4,.one .d)]
def QkM:Qb:=TQ 0 0 Quy K
def QBk:Qb:=Qseq (tawp Qd2 0 QrO (QkM K)) (QkM K)
def QzT:Qb:=Qblk 0 (QBk K)
def QfH (a:List Qc) (k1:Int) (i:Int):Prop:=Loop Qd2 0 QkN Qrp (QzT K) ⟨[(0,(zcs Qj a)),(1,(zci k1)),(5,(zci i))],[],0⟩
theorem QtK (a:List Qc) (k1:Int) (i:Int) (h :
 (zif (decide (i<(a.length:Int))) ((((0:Int)≤i∧Int.toNat i<a.length)∧(QD (α:=List Int) ((gtd QC a (Int.toNat i)).1) k1))∧(zif (decide ((m_held (α:=List Int) ((gtd QC a (Int.toNat i)).1) k1)<(0:Int))) (K (YT (-1:Int))) ((((0:Int)≤i∧Int.toNat i<a.length)∧(QD (α:=List Int) ((gtd QC a (Int.toNat i)).2) (m_held (α:=List Int) ((gtd QC a (Int.toNat i)).1) k1)))∧(zif (decide ((m_held (α:=List Int) ((gtd QC a (Int.toNat i)).2) (m_held (α:=List Int) ((gtd QC a (Int.toNat i)).1) k1))<(0:Int))) (K (YT (-1:Int))) (QfH K a (m_held (α:=List Int) ((gtd QC a (Int.toNat i)).2) (m_held (α:=List Int) ((gtd QC a (Int.toNat i)).1) k1)) (w64 (i+(1:Int)))))))) (K (YT k1)))):QfH K a k1 i :=
 Loop.of (by kernel_rfl) h
theorem Qx8 (a:List Qc) (k:Int) (h :
 (QfH K a k 0)):Hold (tawp Qd2 (0+0) QHV (TQ 0 0 Quy K) (Qe [(.c (.sl Qj) a),(.c TI k)])) :=
 Hold.of (by kernel_rfl) h
theorem Qv8 (a:List Qc) (k:Int) (hp:QD (α:=List Qc) a k):TCon Tryz.prog 136 [(.c (.sl Qj) a),(.c TI k)] (YT (m_held (α:=List Qc) a k)):=by
 refine Ql rfl fun hb=>tcg (Γ:=Qd2) (n:=31) (sg:=QgV.sg) Qk (TOkL.cons QcI TOkL.nil) (by kernel_rfl) (by kernel_rfl) (Qx8 _ a k ?_)
 have hl_a:a.length≤9223372036854775807:=hb.1.1
 refine Ji (A:=fun kk ii=>QfH (fun r'=>r'=YT (m_held (α:=List Qc) a k)) a kk ii) (Q:=fun z=>YT z=YT (m_held (α:=List Qc) a k)) a k hp ?_ ?_ rfl
 ·intro kk pre post x ha hpx hneg hpos
  have hlt:pre.length<a.length:=by rw [ha];simp
  have hg:∀ d,gtd d a pre.length=x:=fun d=>by rw [ha];exact Zh d pre post x
  have hw:w64 (((pre.length:Nat):Int)+1)=((pre.length+1:Nat):Int):=by rw [Qx (by omega) (by omega)];omega
  refine QtK (fun r'=>r'=YT (m_held (α:=List Qc) a k)) a kk ((pre.length:Nat):Int) ?_
  refine ⟨fun _=>?_,fun h=>absurd h (by simp;omega)⟩
  simp only [Int.toNat_natCast,hg,hw,hlt,Zu,and_true,true_and,Int.natCast_nonneg]
  have hp0:=(QH hpx).1
  have hq0:=(QH hpx).2
  simp only [JN,J4,JC,Prod.ext_iff] at hneg hpos hp0 hq0
  refine ⟨hp0,fun h=>hneg (fun e=>Zl hp0 (of_decide_eq_true h) (e.1)),fun h0=>?_⟩
  obtain ⟨e0,h0⟩:=Zn (of_decide_eq_false h0)
  rw [h0]
  refine ⟨hq0,fun h=>hneg (fun e=>Zl hq0 (of_decide_eq_true h) (e.2)),fun h1=>?_⟩
  obtain ⟨e1,h1⟩:=Zn (of_decide_eq_false h1)
  rw [h1]
  exact hpos ⟨e0,e1⟩
 ·intro kk hq
  refine QtK (fun r'=>r'=YT (m_held (α:=List Qc) a k)) a kk ((a.length:Nat):Int) ?_
  exact ⟨fun h=>absurd h (by simp),fun _=>hq⟩
theorem QHq:Qi Tryz.prog QgV:=Qm fun x h=>Qv8 x.1 x.2.1 h
def JK (t:Int × (List QA)):TRes:=⟨(zci t.1),[],[],true,[(.sl 0 QZ (.dp 0 false []) t.2)]⟩
def Qin:TRow:=Qg 81 [(.d QZ),(.c TI)] fun x=>(none,JK (Qn (α:=List QA) x.1 x.2.1))
def Qfr:TTab:=⟨[QeN],true⟩
def Qq0:TCode :=
 (zsq [(zsq [(.reg [zmv 6 5,zmv 7 0,zle 8 7,zbi 9 .lss 6 8]),(.cond 9 .skip (.exit 0))]),(.block 1 (zsq [(.reg [zmv 12 0,zmv 13 5,zmv 14 1,zia 15 12 13 QZ,zfa 16 15 0,zst 16 14 1]),(.reg [zmv 17 1,zbi 18 .add 17 (zki 1),zmv 1 18]),(.reg [zmv 19 0,zmv 20 5,zia 21 19 20 QZ,zfa 22 21 1,zld 23 22 1,zmv 24 1,zca 25 82 [23,24],zmv 1 25])])),(.reg [zmv 10 5,zbi 11 .add 10 (zki 1),zmv 5 11])])
def QoU:List (Nat × Md):=[(0,.one .f),(1,.one .d),(5,.one .d)]
def QqK:TCode :=
 (zsq [(.reg [zmv 26 1,zmv 4 26]),.ret])
def Qzy:TCode :=
 (zsq [(.reg [zmv 4 (zki 0)]),(zsq [(.reg [zmv 5 (zki 0)]),(.block 0 (.loop QoU Qq0))]),QqK])
def QkW:List (ARv × Md):=[(.t 4,.one .d)]
def QnQ:Qb:=TQ 0 1 QkW K
def QGO:Qb:=Qseq (tawp Qfr 1 QqK (QnQ K)) (QnQ K)
def QFx:Qb:=Qblk 0 (QGO K)
def Qfe (a:List QA) (k1:Int) (i:Int) (a1:List QA):Prop:=Loop Qfr 1 QoU Qq0 (QFx K) ⟨[(0,(.r QZ 0 0 a.length)),(1,(zci k1)),(5,(zci i))],[(0,(.sl 0 QZ (.dp 0 false []) a1))],1⟩
theorem QnK (a:List QA) (k1:Int) (i:Int) (a1:List QA) (h :
 (zif (decide (i<((a.length:Nat):Int))) ((((0:Int)≤i∧Int.toNat i<a.length)∧((0+(Int.toNat i))<a1.length))∧((((0:Int)≤i∧Int.toNat i<a.length)∧(((0+(Int.toNat i))<((sst Z5 (0+(Int.toNat i)) (fun e_ k_=>(k_,e_.2)) (k1,a1)).2).length)∧((0+(Int.toNat i))<((sst Z5 (0+(Int.toNat i)) (fun e_ k_=>(k_,e_.2)) (k1,a1)).2).length)))∧(Qfe K a ((nst Z5 (0+(Int.toNat i)) (fun e_=>e_.2) (fun e_ y_=>(e_.1,y_)) (Qn (α:=List (List Int))) (sst Z5 (0+(Int.toNat i)) (fun e_ k_=>(k_,e_.2)) (k1,a1))).1) (w64 (i+(1:Int))) ((nst Z5 (0+(Int.toNat i)) (fun e_=>e_.2) (fun e_ y_=>(e_.1,y_)) (Qn (α:=List (List Int))) (sst Z5 (0+(Int.toNat i)) (fun e_ k_=>(k_,e_.2)) (k1,a1))).2)))) (K (JK (k1,a1))))):Qfe K a k1 i a1 :=
 Loop.of (by kernel_rfl) h
theorem QFV (a:List QA) (k:Int) (h :
 (Qfe K a k 0 a)):Hold (tawp Qfr (0+1) Qzy (TQ 0 1 QkW K) (Qe [(.ow 0 QZ dw a),(.c TI k)])) :=
 Hold.of (by kernel_rfl) h
theorem QH7 (a:List QA) (k:Int):TCon Tryz.prog 81 [(.ow 0 QZ dw a),(.c TI k)] (JK (Qn (α:=List QA) a k)):=by
 refine Ql rfl fun hb=>tcg (Γ:=Qfr) (n:=27) (sg:=Qin.sg) Qk (TOkL.cons Qrg TOkL.nil) (by kernel_rfl) (by kernel_rfl) (QFV _ a k ?_)
 have hl_a:a.length≤9223372036854775807:=hb.1.1
 refine YU (A:=fun kk ii ll=>Qfe (fun r'=>r'=JK (Qn (α:=List QA) a k)) a kk ii ll) (Q:=fun z=>JK z=JK (Qn (α:=List QA) a k)) a k ?_ ?_ rfl
 ·intro kk pre post x hl hA
  have hlt:pre.length<a.length:=by omega
  have hw:w64 (((pre.length:Nat):Int)+1)=((pre.length+1:Nat):Int):=by rw [Qx (by omega) (by omega)];omega
  refine QnK (fun r'=>r'=JK (Qn (α:=List QA) a k)) a kk ((pre.length:Nat):Int) (pre++x::post) ?_
  refine ⟨fun _=>?_,fun h=>absurd h (by simp;omega)⟩
  simp only [Int.toNat_natCast,Nat.zero_add,YL,YV,Zh,YD,hw,lt_f,hlt,Zu,and_true,true_and,Int.natCast_nonneg]
  exact hA
 ·intro kk l hl hq
  refine QnK (fun r'=>r'=JK (Qn (α:=List QA) a k)) a kk ((a.length:Nat):Int) l ?_
  exact ⟨fun h=>absurd h (by simp),fun _=>hq⟩
theorem Qvw:Qi Tryz.prog Qin:=Qm fun x _=>QH7 x.1 x.2.1
def YK (t:Int):TRes:=zre (zci t)
def Qkb:TRow:=Qg 85 [(.c (.sl QZ)),(.c TI)] fun x=>(some (QD (α:=List QA) x.1 x.2.1),YK (m_held (α:=List QA) x.1 x.2.1))
def QfV:TTab:=⟨[Qfk],false⟩
def QlD:TCode :=
 (zsq [(zsq [(.reg [zmv 6 5,zmv 7 0,zle 8 7,zbi 9 .lss 6 8]),(.cond 9 .skip (.exit 0))]),(.block 1 (zsq [(zsq [(.reg [zmv 12 0,zmv 13 5,zia 14 12 13 QZ,zfa 15 14 0,zld 16 15 1,zmv 17 1,zbi 18 .neq 16 17]),(.cond 18 (zsq [(.reg [zmv 4 (zki (-1))]),.ret]) .skip)]),(.reg [zmv 19 1,zbi 20 .add 19 (zki 1),zmv 1 20]),(.reg [zmv 21 0,zmv 22 5,zia 23 21 22 QZ,zfa 24 23 1,zld 25 24 1,zmv 26 1,zca 27 86 [25,26],zmv 1 27]),(.reg [zmv 28 1,zbi 29 .lss 28 (zki 0)]),(.cond 29 (zsq [(.reg [zmv 4 (zki (-1))]),.ret]) .skip)])),(.reg [zmv 10 5,zbi 11 .add 10 (zki 1),zmv 5 11])])
def QqF:List (Nat × Md):=zdl [0,1,5]
def Qnp:TCode :=
 (zsq [(.reg [zmv 30 1,zmv 4 30]),.ret])
def QHg:TCode :=
 (zsq [(.reg [zmv 4 (zki 0)]),(zsq [(.reg [zmv 5 (zki 0)]),(.block 0 (.loop QqF QlD))]),Qnp])
def QlF:List (ARv × Md):=[(.t 4,.one .d)]
def Qql:Qb:=TQ 0 0 QlF K
def QFb:Qb:=Qseq (tawp QfV 0 Qnp (Qql K)) (Qql K)
def QAp:Qb:=Qblk 0 (QFb K)
def QeR (a:List QA) (k1:Int) (i:Int):Prop:=Loop QfV 0 QqF QlD (QAp K) ⟨[(0,(zcs QZ a)),(1,(zci k1)),(5,(zci i))],[],0⟩
theorem QnA (a:List QA) (k1:Int) (i:Int) (h :
 (zif (decide (i<(a.length:Int))) (((0:Int)≤i∧Int.toNat i<a.length)∧(zif (((gtd Z5 a (Int.toNat i)).1) != k1) (K (YK (-1:Int))) ((((0:Int)≤i∧Int.toNat i<a.length)∧(QD (α:=List (List Int)) ((gtd Z5 a (Int.toNat i)).2) (w64 (k1+(1:Int)))))∧(zif (decide ((m_held (α:=List (List Int)) ((gtd Z5 a (Int.toNat i)).2) (w64 (k1+(1:Int))))<(0:Int))) (K (YK (-1:Int))) (QeR K a (m_held (α:=List (List Int)) ((gtd Z5 a (Int.toNat i)).2) (w64 (k1+(1:Int)))) (w64 (i+(1:Int)))))))) (K (YK k1)))):QeR K a k1 i :=
 Loop.of (by kernel_rfl) h
theorem Qyb (a:List QA) (k:Int) (h :
 (QeR K a k 0)):Hold (tawp QfV (0+0) QHg (TQ 0 0 QlF K) (Qe [(.c (.sl QZ) a),(.c TI k)])) :=
 Hold.of (by kernel_rfl) h
theorem QF8 (a:List QA) (k:Int) (hp:QD (α:=List QA) a k):TCon Tryz.prog 85 [(.c (.sl QZ) a),(.c TI k)] (YK (m_held (α:=List QA) a k)):=by
 refine Ql rfl fun hb=>tcg (Γ:=QfV) (n:=31) (sg:=Qkb.sg) Qk (TOkL.cons Qnq TOkL.nil) (by kernel_rfl) (by kernel_rfl) (Qyb _ a k ?_)
 have hl_a:a.length≤9223372036854775807:=hb.1.1
 refine Ji (A:=fun kk ii=>QeR (fun r'=>r'=YK (m_held (α:=List QA) a k)) a kk ii) (Q:=fun z=>YK z=YK (m_held (α:=List QA) a k)) a k hp ?_ ?_ rfl
 ·intro kk pre post x ha hpx hneg hpos
  have hlt:pre.length<a.length:=by rw [ha];simp
  have hg:∀ d,gtd d a pre.length=x:=fun d=>by rw [ha];exact Zh d pre post x
  have hw:w64 (((pre.length:Nat):Int)+1)=((pre.length+1:Nat):Int):=by rw [Qx (by omega) (by omega)];omega
  refine QnA (fun r'=>r'=YK (m_held (α:=List QA) a k)) a kk ((pre.length:Nat):Int) ?_
  refine ⟨fun _=>?_,fun h=>absurd h (by simp;omega)⟩
  simp only [Int.toNat_natCast,hg,hw,hlt,Zu,and_true,true_and,Int.natCast_nonneg]
  have hp0:=(QH hpx).1
  have hq0:=(QH hpx).2
  simp only [JN,J4,JC,Prod.ext_iff] at hneg hpos hp0 hq0
  refine ⟨fun h=>hneg (fun e=>Z1 h (e.1).symm),fun h0=>?_⟩
  have e0:=(ZY h0).symm
  refine ⟨hq0,fun h=>hneg (fun e=>Zl hq0 (of_decide_eq_true h) (e.2)),fun h1=>?_⟩
  obtain ⟨e1,h1⟩:=Zn (of_decide_eq_false h1)
  rw [h1]
  exact hpos ⟨e0,e1⟩
 ·intro kk hq
  refine QnA (fun r'=>r'=YK (m_held (α:=List QA) a k)) a kk ((a.length:Nat):Int) ?_
  exact ⟨fun h=>absurd h (by simp),fun _=>hq⟩
theorem QD4:Qi Tryz.prog Qkb:=Qm fun x h=>QF8 x.1 x.2.1 h
end
end Go.Proofs.YtdplaepmjogjjaaGreat.Am

