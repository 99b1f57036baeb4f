/- -/
import Derived.Test.YtephkbajoofeoaaWEGF
namespace Go.Proofs.Ytephkbajoofeoaa.Am
open Go Go.RowKit Go.Proofs.Ytephkbajoofeoaa
set_option linter.all false
noncomputable section
variable (K:TRes→Prop)
def Yu (t:Int × (List Int)):TRes:=⟨(zci t.1),[],[],true,[(.sl 0 [TI] (.dp 0 false []) t.2)]⟩
def Qao:TRow:=Ql 69 [(.d [TI]),(.c TI)] fun x=>(none,Yu (Qk (α:=List Int) x.1 x.2.1))
def QcS:TTab:=⟨[],true⟩
def Qf3:TCode :=
 (zsq [(zsq [(.reg [zmv 6 5,zmv 7 0,zle 8 7,zbi 9 .lss 6 8]),(.cond 9 .skip (.exit 0))]),(.block 1 (zsq [(.reg [zmv 12 0,zmv 13 5,zmv 14 1,zia 15 12 13 [TI],zst 15 14 1]),(.reg [zmv 16 1,zbi 17 .add 16 (zki 1),zmv 1 17])])),(.reg [zmv 10 5,zbi 11 .add 10 (zki 1),zmv 5 11])])
def Qhr:List (Nat × Md):=[(0,.one .f),(1,.one .d),(5,.one .d)]
def QkM:TCode :=
 (zsq [(.reg [zmv 18 1,zmv 4 18]),.ret])
def Qmx:TCode :=
 (zsq [(.reg [zmv 4 (zki 0)]),(zsq [(.reg [zmv 5 (zki 0)]),(.block 0 (.loop Qhr Qf3))]),QkM])
def Qg1:List (ARv × Md):=[(.t 4,.one .d)]
def Qkd:Qc:=TQ 0 1 Qg1 K
def QnQ:Qc:=Qseq (tawp QcS 1 QkM (Qkd K)) (Qkd K)
def QpP:Qc:=Qblk 0 (QnQ K)
def Qca (a:List Int) (k1:Int) (i:Int) (a1:List Int):Prop:=Loop QcS 1 Qhr Qf3 (QpP K) ⟨[(0,(.r [TI] 0 0 a.length)),(1,(zci k1)),(5,(zci i))],[(0,(.sl 0 [TI] (.dp 0 false []) a1))],1⟩
theorem QhJ (a:List Int) (k1:Int) (i:Int) (a1:List Int) (h :
 (zif (decide (i<((a.length:Nat):Int))) ((((0:Int)≤i∧Int.toNat i<a.length)∧((0+(Int.toNat i))<a1.length))∧(Qca K a (w64 (k1+(1:Int))) (w64 (i+(1:Int))) ((a1).set (0+(Int.toNat i)) k1))) (K (Yu (k1,a1))))):Qca K a k1 i a1 :=
 Loop.of (by kernel_rfl) h
theorem QsV (a:List Int) (k:Int) (h :
 (Qca K a k 0 a)):Hold (tawp QcS (0+1) Qmx (TQ 0 1 Qg1 K) (Qh [(.ow 0 [TI] dw a),(.c TI k)])) :=
 Hold.of (by kernel_rfl) h
theorem Qrp (a:List Int) (k:Int):TCon Try.prog 69 [(.ow 0 [TI] dw a),(.c TI k)] (Yu (Qk (α:=List Int) a k)):=by
 refine Qn rfl fun hb=>tcg (Γ:=QcS) (n:=19) (sg:=Qao.sg) Qo TOkL.nil (by kernel_rfl) (by kernel_rfl) (QsV _ a k ?_)
 have hl_a:a.length≤9223372036854775807:=hb.1.1
 refine QaA (A:=fun kk ii ll=>Qca (fun r'=>r'=Yu (Qk (α:=List Int) a k)) a kk ii ll) (Q:=fun z=>Yu z=Yu (Qk (α:=List Int) a k)) a k ?_ ?_ rfl
 ·intro kk pre post x hl hA
  have hlt:pre.length<a.length:=by omega
  have hw:w64 (((pre.length:Nat):Int)+1)=((pre.length+1:Nat):Int):=by rw [QJ (by omega) (by omega)];omega
  refine QhJ (fun r'=>r'=Yu (Qk (α:=List Int) a k)) a kk ((pre.length:Nat):Int) (pre++x::post) ?_
  refine ⟨fun _=>?_,fun h=>absurd h (by simp;omega)⟩
  simp only [Int.toNat_natCast,Nat.zero_add,QaM,QaB,Zq,QaH,hw,lt_f,hlt,ZI,and_true,true_and,Int.natCast_nonneg]
  exact hA
 ·intro kk l hl hq
  refine QhJ (fun r'=>r'=Yu (Qk (α:=List Int) a k)) a kk ((a.length:Nat):Int) l ?_
  exact ⟨fun h=>absurd h (by simp),fun _=>hq⟩
theorem Qfo:Qm Try.prog Qao:=Qp fun x _=>Qrp x.1 x.2.1
def ZY (t:Int):TRes:=zre (zci t)
def Qal:TRow:=Ql 70 [(.c (.sl [TI])),(.c TI)] fun x=>(some (Qw (α:=List Int) x.1 x.2.1),ZY (m_held (α:=List Int) x.1 x.2.1))
def Qcl:TTab:=⟨[],false⟩
def Qlq:TCode :=
 (zsq [(zsq [(.reg [zmv 6 5,zmv 7 0,zle 8 7,zbi 9 .lss 6 8]),(.cond 9 .skip (.exit 0))]),(.block 1 (zsq [(zsq [(.reg [zmv 12 0,zmv 13 5,zia 14 12 13 [TI],zld 15 14 1,zmv 16 1,zbi 17 .neq 15 16]),(.cond 17 (zsq [(.reg [zmv 4 (zki (-1))]),.ret]) .skip)]),(.reg [zmv 18 1,zbi 19 .add 18 (zki 1),zmv 1 19])])),(.reg [zmv 10 5,zbi 11 .add 10 (zki 1),zmv 5 11])])
def QlX:List (Nat × Md):=zdl [0,1,5]
def QiP:TCode :=
 (zsq [(.reg [zmv 20 1,zmv 4 20]),.ret])
def Qtj:TCode :=
 (zsq [(.reg [zmv 4 (zki 0)]),(zsq [(.reg [zmv 5 (zki 0)]),(.block 0 (.loop QlX Qlq))]),QiP])
def QlS:List (ARv × Md):=[(.t 4,.one .d)]
def Qkp:Qc:=TQ 0 0 QlS K
def QoR:Qc:=Qseq (tawp Qcl 0 QiP (Qkp K)) (Qkp K)
def Qq2:Qc:=Qblk 0 (QoR K)
def Qbu (a:List Int) (k1:Int) (i:Int):Prop:=Loop Qcl 0 QlX Qlq (Qq2 K) ⟨[(0,(zcs [TI] a)),(1,(zci k1)),(5,(zci i))],[],0⟩
theorem Qgk (a:List Int) (k1:Int) (i:Int) (h :
 (zif (decide (i<(a.length:Int))) (((0:Int)≤i∧Int.toNat i<a.length)∧(zif ((gtd (0:Int) a (Int.toNat i)) != k1) (K (ZY (-1:Int))) (Qbu K a (w64 (k1+(1:Int))) (w64 (i+(1:Int)))))) (K (ZY k1)))):Qbu K a k1 i :=
 Loop.of (by kernel_rfl) h
theorem Qq8 (a:List Int) (k:Int) (h :
 (Qbu K a k 0)):Hold (tawp Qcl (0+0) Qtj (TQ 0 0 QlS K) (Qh [(.c (.sl [TI]) a),(.c TI k)])) :=
 Hold.of (by kernel_rfl) h
theorem Qof (a:List Int) (k:Int) (hp:Qw (α:=List Int) a k):TCon Try.prog 70 [(.c (.sl [TI]) a),(.c TI k)] (ZY (m_held (α:=List Int) a k)):=by
 refine Qn rfl fun hb=>tcg (Γ:=Qcl) (n:=21) (sg:=Qal.sg) Qo TOkL.nil (by kernel_rfl) (by kernel_rfl) (Qq8 _ a k ?_)
 have hl_a:a.length≤9223372036854775807:=hb.1.1
 refine Qad (A:=fun kk ii=>Qbu (fun r'=>r'=ZY (m_held (α:=List Int) a k)) a kk ii) (Q:=fun z=>ZY z=ZY (m_held (α:=List Int) a k)) a k hp ?_ ?_ rfl
 ·intro kk pre post x ha hpx hneg hpos
  have hlt:pre.length<a.length:=by rw [ha];simp
  have hg:∀ d,gtd d a pre.length=x:=fun d=>by rw [ha];exact Zq d pre post x
  have hw:w64 (((pre.length:Nat):Int)+1)=((pre.length+1:Nat):Int):=by rw [QJ (by omega) (by omega)];omega
  refine Qgk (fun r'=>r'=ZY (m_held (α:=List Int) a k)) a kk ((pre.length:Nat):Int) ?_
  refine ⟨fun _=>?_,fun h=>absurd h (by simp;omega)⟩
  simp only [Int.toNat_natCast,hg,hw,hlt,ZI,and_true,true_and,Int.natCast_nonneg]
  simp only [Qcu,Qby,Qa9,Prod.ext_iff] at hneg hpos
  refine ⟨fun h=>hneg (fun e=>YK h (e).symm),fun h0=>?_⟩
  have e0:=(Y6 h0).symm
  exact hpos e0
 ·intro kk hq
  refine Qgk (fun r'=>r'=ZY (m_held (α:=List Int) a k)) a kk ((a.length:Nat):Int) ?_
  exact ⟨fun h=>absurd h (by simp),fun _=>hq⟩
theorem QeG:Qm Try.prog Qal:=Qp fun x h=>Qof x.1 x.2.1 h
def YG (t:Int × (List (List Int))):TRes:=⟨(zci t.1),[],[],true,[(.sl 0 [(.sl [TI])] (.dp 0 false []) t.2)]⟩
def QaC:TRow:=Ql 161 [(.d [(.sl [TI])]),(.c TI)] fun x=>(none,YG (Qk (α:=List (List Int)) x.1 x.2.1))
def Qcr:TTab:=⟨[Qao],true⟩
def Qgc:TCode :=
 (zsq [(zsq [(.reg [zmv 6 5,zmv 7 0,zle 8 7,zbi 9 .lss 6 8]),(.cond 9 .skip (.exit 0))]),(.block 1 (.reg [zmv 12 0,zmv 13 5,zia 14 12 13 [(.sl [TI])],zfa 15 14 0,zld 16 15 1,zmv 17 1,zca 18 69 [16,17],zmv 1 18])),(.reg [zmv 10 5,zbi 11 .add 10 (zki 1),zmv 5 11])])
def Qh1:List (Nat × Md):=[(0,.one .f),(1,.one .d),(5,.one .d)]
def Qju:TCode :=
 (zsq [(.reg [zmv 19 1,zmv 4 19]),.ret])
def Qml:TCode :=
 (zsq [(.reg [zmv 4 (zki 0)]),(zsq [(.reg [zmv 5 (zki 0)]),(.block 0 (.loop Qh1 Qgc))]),Qju])
def QfY:List (ARv × Md):=[(.t 4,.one .d)]
def QiC:Qc:=TQ 0 1 QfY K
def QqQ:Qc:=Qseq (tawp Qcr 1 Qju (QiC K)) (QiC K)
def Qoo:Qc:=Qblk 0 (QqQ K)
def Qb6 (a:List (List Int)) (k1:Int) (i:Int) (a1:List (List Int)):Prop:=Loop Qcr 1 Qh1 Qgc (Qoo K) ⟨[(0,(.r [(.sl [TI])] 0 0 a.length)),(1,(zci k1)),(5,(zci i))],[(0,(.sl 0 [(.sl [TI])] (.dp 0 false []) a1))],1⟩
theorem QkD (a:List (List Int)) (k1:Int) (i:Int) (a1:List (List Int)) (h :
 (zif (decide (i<((a.length:Nat):Int))) ((((0:Int)≤i∧Int.toNat i<a.length)∧(((0+(Int.toNat i))<a1.length)∧((0+(Int.toNat i))<a1.length)))∧(Qb6 K a ((nst ([]:List Int) (0+(Int.toNat i)) (fun e_=>e_) (fun e_ y_=>y_) (Qk (α:=List Int)) (k1,a1)).1) (w64 (i+(1:Int))) ((nst ([]:List Int) (0+(Int.toNat i)) (fun e_=>e_) (fun e_ y_=>y_) (Qk (α:=List Int)) (k1,a1)).2))) (K (YG (k1,a1))))):Qb6 K a k1 i a1 :=
 Loop.of (by kernel_rfl) h
theorem Qnu (a:List (List Int)) (k:Int) (h :
 (Qb6 K a k 0 a)):Hold (tawp Qcr (0+1) Qml (TQ 0 1 QfY K) (Qh [(.ow 0 [(.sl [TI])] dw a),(.c TI k)])) :=
 Hold.of (by kernel_rfl) h
theorem Qt9 (a:List (List Int)) (k:Int):TCon Try.prog 161 [(.ow 0 [(.sl [TI])] dw a),(.c TI k)] (YG (Qk (α:=List (List Int)) a k)):=by
 refine Qn rfl fun hb=>tcg (Γ:=Qcr) (n:=20) (sg:=QaC.sg) Qo (TOkL.cons Qfo TOkL.nil) (by kernel_rfl) (by kernel_rfl) (Qnu _ a k ?_)
 have hl_a:a.length≤9223372036854775807:=hb.1.1
 refine QaA (A:=fun kk ii ll=>Qb6 (fun r'=>r'=YG (Qk (α:=List (List Int)) a k)) a kk ii ll) (Q:=fun z=>YG z=YG (Qk (α:=List (List Int)) a k)) a k ?_ ?_ rfl
 ·intro kk pre post x hl hA
  have hlt:pre.length<a.length:=by omega
  have hw:w64 (((pre.length:Nat):Int)+1)=((pre.length+1:Nat):Int):=by rw [QJ (by omega) (by omega)];omega
  refine QkD (fun r'=>r'=YG (Qk (α:=List (List Int)) a k)) a kk ((pre.length:Nat):Int) (pre++x::post) ?_
  refine ⟨fun _=>?_,fun h=>absurd h (by simp;omega)⟩
  simp only [Int.toNat_natCast,Nat.zero_add,QaM,QaB,Zq,QaH,hw,lt_f,hlt,ZI,and_true,true_and,Int.natCast_nonneg]
  exact hA
 ·intro kk l hl hq
  refine QkD (fun r'=>r'=YG (Qk (α:=List (List Int)) a k)) a kk ((a.length:Nat):Int) l ?_
  exact ⟨fun h=>absurd h (by simp),fun _=>hq⟩
theorem Qez:Qm Try.prog QaC:=Qp fun x _=>Qt9 x.1 x.2.1
def Yg (t:Int):TRes:=zre (zci t)
def Qa3:TRow:=Ql 164 [(.c (.sl [(.sl [TI])])),(.c TI)] fun x=>(some (Qw (α:=List (List Int)) x.1 x.2.1),Yg (m_held (α:=List (List Int)) x.1 x.2.1))
def Qbi:TTab:=⟨[Qal],false⟩
def QlC:TCode :=
 (zsq [(zsq [(.reg [zmv 6 5,zmv 7 0,zle 8 7,zbi 9 .lss 6 8]),(.cond 9 .skip (.exit 0))]),(.block 1 (zsq [(.reg [zmv 12 0,zmv 13 5,zia 14 12 13 [(.sl [TI])],zfa 15 14 0,zld 16 15 1,zmv 17 1,zca 18 70 [16,17],zmv 1 18]),(.reg [zmv 19 1,zbi 20 .lss 19 (zki 0)]),(.cond 20 (zsq [(.reg [zmv 4 (zki (-1))]),.ret]) .skip)])),(.reg [zmv 10 5,zbi 11 .add 10 (zki 1),zmv 5 11])])
def Qg2:List (Nat × Md):=zdl [0,1,5]
def Qiu:TCode :=
 (zsq [(.reg [zmv 21 1,zmv 4 21]),.ret])
def Qnd:TCode :=
 (zsq [(.reg [zmv 4 (zki 0)]),(zsq [(.reg [zmv 5 (zki 0)]),(.block 0 (.loop Qg2 QlC))]),Qiu])
def Qgm:List (ARv × Md):=[(.t 4,.one .d)]
def Qly:Qc:=TQ 0 0 Qgm K
def Qpz:Qc:=Qseq (tawp Qbi 0 Qiu (Qly K)) (Qly K)
def Qoa:Qc:=Qblk 0 (Qpz K)
def Qbf (a:List (List Int)) (k1:Int) (i:Int):Prop:=Loop Qbi 0 Qg2 QlC (Qoa K) ⟨[(0,(zcs [(.sl [TI])] a)),(1,(zci k1)),(5,(zci i))],[],0⟩
theorem Qjm (a:List (List Int)) (k1:Int) (i:Int) (h :
 (zif (decide (i<(a.length:Int))) ((((0:Int)≤i∧Int.toNat i<a.length)∧(Qw (α:=List Int) (gtd ([]:List Int) a (Int.toNat i)) k1))∧(zif (decide ((m_held (α:=List Int) (gtd ([]:List Int) a (Int.toNat i)) k1)<(0:Int))) (K (Yg (-1:Int))) (Qbf K a (m_held (α:=List Int) (gtd ([]:List Int) a (Int.toNat i)) k1) (w64 (i+(1:Int)))))) (K (Yg k1)))):Qbf K a k1 i :=
 Loop.of (by kernel_rfl) h
theorem Qpc (a:List (List Int)) (k:Int) (h :
 (Qbf K a k 0)):Hold (tawp Qbi (0+0) Qnd (TQ 0 0 Qgm K) (Qh [(.c (.sl [(.sl [TI])]) a),(.c TI k)])) :=
 Hold.of (by kernel_rfl) h
theorem Qsy (a:List (List Int)) (k:Int) (hp:Qw (α:=List (List Int)) a k):TCon Try.prog 164 [(.c (.sl [(.sl [TI])]) a),(.c TI k)] (Yg (m_held (α:=List (List Int)) a k)):=by
 refine Qn rfl fun hb=>tcg (Γ:=Qbi) (n:=22) (sg:=Qa3.sg) Qo (TOkL.cons QeG TOkL.nil) (by kernel_rfl) (by kernel_rfl) (Qpc _ a k ?_)
 have hl_a:a.length≤9223372036854775807:=hb.1.1
 refine Qad (A:=fun kk ii=>Qbf (fun r'=>r'=Yg (m_held (α:=List (List Int)) a k)) a kk ii) (Q:=fun z=>Yg z=Yg (m_held (α:=List (List Int)) a k)) a k hp ?_ ?_ rfl
 ·intro kk pre post x ha hpx hneg hpos
  have hlt:pre.length<a.length:=by rw [ha];simp
  have hg:∀ d,gtd d a pre.length=x:=fun d=>by rw [ha];exact Zq d pre post x
  have hw:w64 (((pre.length:Nat):Int)+1)=((pre.length+1:Nat):Int):=by rw [QJ (by omega) (by omega)];omega
  refine Qjm (fun r'=>r'=Yg (m_held (α:=List (List Int)) a k)) a kk ((pre.length:Nat):Int) ?_
  refine ⟨fun _=>?_,fun h=>absurd h (by simp;omega)⟩
  simp only [Int.toNat_natCast,hg,hw,hlt,ZI,and_true,true_and,Int.natCast_nonneg]
  refine ⟨hpx,fun h=>hneg (fun e=>Zz hpx (of_decide_eq_true h) (e)),fun h0=>?_⟩
  obtain ⟨e0,h0⟩:=Zp (of_decide_eq_false h0)
  rw [h0]
  exact hpos e0
 ·intro kk hq
  refine Qjm (fun r'=>r'=Yg (m_held (α:=List (List Int)) a k)) a kk ((a.length:Nat):Int) ?_
  exact ⟨fun h=>absurd h (by simp),fun _=>hq⟩
theorem Qdi:Qm Try.prog Qa3:=Qp fun x h=>Qsy x.1 x.2.1 h
def Yl (t:Int × (List TIns)):TRes:=⟨(zci t.1),[],[],true,[(.sl 0 Qf (.dp 0 false []) t.2)]⟩
def QbA:TRow:=Ql 20 [(.d Qf),(.c TI)] fun x=>(none,Yl (Qk (α:=List TIns) x.1 x.2.1))
def Qcg:TTab:=⟨[],true⟩
def QlU:TCode :=
 (zsq [(zsq [(.reg [zmv 6 5,zmv 7 0,zle 8 7,zbi 9 .lss 6 8]),(.cond 9 .skip (.exit 0))]),(.block 1 (zsq [(.reg [zmv 12 0,zmv 13 5,zmv 14 1,zia 15 12 13 Qf,zfa 16 15 0,zst 16 14 1]),(.reg [zmv 17 1,zbi 18 .add 17 (zki 1),zmv 1 18]),(.reg [zmv 19 0,zmv 20 5,zmv 21 1,zia 22 19 20 Qf,zfa 23 22 1,zst 23 21 1]),(.reg [zmv 24 1,zbi 25 .add 24 (zki 1),zmv 1 25])])),(.reg [zmv 10 5,zbi 11 .add 10 (zki 1),zmv 5 11])])
def Qhb:List (Nat × Md):=[(0,.one .f),(1,.one .d),(5,.one .d)]
def QjN:TCode :=
 (zsq [(.reg [zmv 26 1,zmv 4 26]),.ret])
def Qmb:TCode :=
 (zsq [(.reg [zmv 4 (zki 0)]),(zsq [(.reg [zmv 5 (zki 0)]),(.block 0 (.loop Qhb QlU))]),QjN])
def Qjv:List (ARv × Md):=[(.t 4,.one .d)]
def QiH:Qc:=TQ 0 1 Qjv K
def Qqn:Qc:=Qseq (tawp Qcg 1 QjN (QiH K)) (QiH K)
def QnF:Qc:=Qblk 0 (Qqn K)
def QbO (a:List TIns) (k1:Int) (i:Int) (a1:List TIns):Prop:=Loop Qcg 1 Qhb QlU (QnF K) ⟨[(0,(.r Qf 0 0 a.length)),(1,(zci k1)),(5,(zci i))],[(0,(.sl 0 Qf (.dp 0 false []) a1))],1⟩
theorem QfH (a:List TIns) (k1:Int) (i:Int) (a1:List TIns) (h :
 (zif (decide (i<((a.length:Nat):Int))) ((((0:Int)≤i∧Int.toNat i<a.length)∧((0+(Int.toNat i))<a1.length))∧((((0:Int)≤i∧Int.toNat i<a.length)∧((0+(Int.toNat i))<((sst dIns (0+(Int.toNat i)) (fun e_ k_=>(k_,e_.2)) (k1,a1)).2).length))∧(QbO K a (w64 ((w64 (k1+(1:Int)))+(1:Int))) (w64 (i+(1:Int))) ((sst dIns (0+(Int.toNat i)) (fun e_ k_=>(e_.1,k_)) (sst dIns (0+(Int.toNat i)) (fun e_ k_=>(k_,e_.2)) (k1,a1))).2)))) (K (Yl (k1,a1))))):QbO K a k1 i a1 :=
 Loop.of (by kernel_rfl) h
theorem Qrl (a:List TIns) (k:Int) (h :
 (QbO K a k 0 a)):Hold (tawp Qcg (0+1) Qmb (TQ 0 1 Qjv K) (Qh [(.ow 0 Qf dw a),(.c TI k)])) :=
 Hold.of (by kernel_rfl) h
theorem QqJ (a:List TIns) (k:Int):TCon Try.prog 20 [(.ow 0 Qf dw a),(.c TI k)] (Yl (Qk (α:=List TIns) a k)):=by
 refine Qn rfl fun hb=>tcg (Γ:=Qcg) (n:=27) (sg:=QbA.sg) Qo TOkL.nil (by kernel_rfl) (by kernel_rfl) (Qrl _ a k ?_)
 have hl_a:a.length≤9223372036854775807:=hb.1.1
 refine QaA (A:=fun kk ii ll=>QbO (fun r'=>r'=Yl (Qk (α:=List TIns) a k)) a kk ii ll) (Q:=fun z=>Yl z=Yl (Qk (α:=List TIns) a k)) a k ?_ ?_ rfl
 ·intro kk pre post x hl hA
  have hlt:pre.length<a.length:=by omega
  have hw:w64 (((pre.length:Nat):Int)+1)=((pre.length+1:Nat):Int):=by rw [QJ (by omega) (by omega)];omega
  refine QfH (fun r'=>r'=Yl (Qk (α:=List TIns) a k)) a kk ((pre.length:Nat):Int) (pre++x::post) ?_
  refine ⟨fun _=>?_,fun h=>absurd h (by simp;omega)⟩
  simp only [Int.toNat_natCast,Nat.zero_add,QaM,QaB,Zq,QaH,hw,lt_f,hlt,ZI,and_true,true_and,Int.natCast_nonneg]
  exact hA
 ·intro kk l hl hq
  refine QfH (fun r'=>r'=Yl (Qk (α:=List TIns) a k)) a kk ((a.length:Nat):Int) l ?_
  exact ⟨fun h=>absurd h (by simp),fun _=>hq⟩
theorem QkY:Qm Try.prog QbA:=Qp fun x _=>QqJ x.1 x.2.1
def ZQ (t:Int):TRes:=zre (zci t)
def Qeo:TRow:=Ql 21 [(.c (.sl Qf)),(.c TI)] fun x=>(some (Qw (α:=List TIns) x.1 x.2.1),ZQ (m_held (α:=List TIns) x.1 x.2.1))
def QbV:TTab:=⟨[],false⟩
def Qlh:TCode :=
 (zsq [(zsq [(.reg [zmv 6 5,zmv 7 0,zle 8 7,zbi 9 .lss 6 8]),(.cond 9 .skip (.exit 0))]),(.block 1 (zsq [(zsq [(.reg [zmv 12 0,zmv 13 5,zia 14 12 13 Qf,zfa 15 14 0,zld 16 15 1,zmv 17 1,zbi 18 .neq 16 17]),(.cond 18 (zsq [(.reg [zmv 4 (zki (-1))]),.ret]) .skip)]),(.reg [zmv 19 1,zbi 20 .add 19 (zki 1),zmv 1 20]),(zsq [(.reg [zmv 21 0,zmv 22 5,zia 23 21 22 Qf,zfa 24 23 1,zld 25 24 1,zmv 26 1,zbi 27 .neq 25 26]),(.cond 27 (zsq [(.reg [zmv 4 (zki (-1))]),.ret]) .skip)]),(.reg [zmv 28 1,zbi 29 .add 28 (zki 1),zmv 1 29])])),(.reg [zmv 10 5,zbi 11 .add 10 (zki 1),zmv 5 11])])
def Qi9:List (Nat × Md):=zdl [0,1,5]
def QkB:TCode :=
 (zsq [(.reg [zmv 30 1,zmv 4 30]),.ret])
def Qmv:TCode :=
 (zsq [(.reg [zmv 4 (zki 0)]),(zsq [(.reg [zmv 5 (zki 0)]),(.block 0 (.loop Qi9 Qlh))]),QkB])
def QhA:List (ARv × Md):=[(.t 4,.one .d)]
def QlJ:Qc:=TQ 0 0 QhA K
def QmP:Qc:=Qseq (tawp QbV 0 QkB (QlJ K)) (QlJ K)
def Qp8:Qc:=Qblk 0 (QmP K)
def Qbd (a:List TIns) (k1:Int) (i:Int):Prop:=Loop QbV 0 Qi9 Qlh (Qp8 K) ⟨[(0,(zcs Qf a)),(1,(zci k1)),(5,(zci i))],[],0⟩
theorem Qj2 (a:List TIns) (k1:Int) (i:Int) (h :
 (zif (decide (i<(a.length:Int))) (((0:Int)≤i∧Int.toNat i<a.length)∧(zif (((gtd dIns a (Int.toNat i)).1) != k1) (K (ZQ (-1:Int))) (((0:Int)≤i∧Int.toNat i<a.length)∧(zif (((gtd dIns a (Int.toNat i)).2) != (w64 (k1+(1:Int)))) (K (ZQ (-1:Int))) (Qbd K a (w64 ((w64 (k1+(1:Int)))+(1:Int))) (w64 (i+(1:Int)))))))) (K (ZQ k1)))):Qbd K a k1 i :=
 Loop.of (by kernel_rfl) h
theorem QrZ (a:List TIns) (k:Int) (h :
 (Qbd K a k 0)):Hold (tawp QbV (0+0) Qmv (TQ 0 0 QhA K) (Qh [(.c (.sl Qf) a),(.c TI k)])) :=
 Hold.of (by kernel_rfl) h
theorem Qph (a:List TIns) (k:Int) (hp:Qw (α:=List TIns) a k):TCon Try.prog 21 [(.c (.sl Qf) a),(.c TI k)] (ZQ (m_held (α:=List TIns) a k)):=by
 refine Qn rfl fun hb=>tcg (Γ:=QbV) (n:=31) (sg:=Qeo.sg) Qo TOkL.nil (by kernel_rfl) (by kernel_rfl) (QrZ _ a k ?_)
 have hl_a:a.length≤9223372036854775807:=hb.1.1
 refine Qad (A:=fun kk ii=>Qbd (fun r'=>r'=ZQ (m_held (α:=List TIns) a k)) a kk ii) (Q:=fun z=>ZQ z=ZQ (m_held (α:=List TIns) a k)) a k hp ?_ ?_ rfl
 ·intro kk pre post x ha hpx hneg hpos
  have hlt:pre.length<a.length:=by rw [ha];simp
  have hg:∀ d,gtd d a pre.length=x:=fun d=>by rw [ha];exact Zq d pre post x
  have hw:w64 (((pre.length:Nat):Int)+1)=((pre.length+1:Nat):Int):=by rw [QJ (by omega) (by omega)];omega
  refine Qj2 (fun r'=>r'=ZQ (m_held (α:=List TIns) a k)) a kk ((pre.length:Nat):Int) ?_
  refine ⟨fun _=>?_,fun h=>absurd h (by simp;omega)⟩
  simp only [Int.toNat_natCast,hg,hw,hlt,ZI,and_true,true_and,Int.natCast_nonneg]
  have hp0:=(ZR hpx).1
  have hq0:=(ZR hpx).2
  simp only [Qcu,Qby,Qa9,Prod.ext_iff] at hneg hpos hp0 hq0
  refine ⟨fun h=>hneg (fun e=>YK h (e.1).symm),fun h0=>?_⟩
  have e0:=(Y6 h0).symm
  refine ⟨fun h=>hneg (fun e=>YK h (e.2).symm),fun h1=>?_⟩
  have e1:=(Y6 h1).symm
  exact hpos ⟨e0,e1⟩
 ·intro kk hq
  refine Qj2 (fun r'=>r'=ZQ (m_held (α:=List TIns) a k)) a kk ((a.length:Nat):Int) ?_
  exact ⟨fun h=>absurd h (by simp),fun _=>hq⟩
theorem QtH:Qm Try.prog Qeo:=Qp fun x h=>Qph x.1 x.2.1 h
def Yn (t:Int × (List TOp')):TRes:=⟨(zci t.1),[],[],true,[(.sl 0 ctOp (.dp 0 false []) t.2)]⟩
def Qcf:TRow:=Ql 88 [(.d ctOp),(.c TI)] fun x=>(none,Yn (Qk (α:=List TOp') x.1 x.2.1))
def Qci:TTab:=⟨[Qao],true⟩
def Qgy:TCode :=
 (zsq [(zsq [(.reg [zmv 6 5,zmv 7 0,zle 8 7,zbi 9 .lss 6 8]),(.cond 9 .skip (.exit 0))]),(.block 1 (zsq [(.reg [zmv 12 0,zmv 13 5,zmv 14 1,zia 15 12 13 ctOp,zfa 16 15 0,zst 16 14 1]),(.reg [zmv 17 1,zbi 18 .add 17 (zki 1),zmv 1 18]),(.reg [zmv 19 0,zmv 20 5,zmv 21 1,zia 22 19 20 ctOp,zfa 23 22 1,zst 23 21 1]),(.reg [zmv 24 1,zbi 25 .add 24 (zki 1),zmv 1 25]),(.reg [zmv 26 0,zmv 27 5,zmv 28 1,zia 29 26 27 ctOp,zfa 30 29 2,zst 30 28 1]),(.reg [zmv 31 1,zbi 32 .add 31 (zki 1),zmv 1 32]),(.reg [zmv 33 0,zmv 34 5,zia 35 33 34 ctOp,zfa 36 35 3,zld 37 36 1,zmv 38 1,zca 39 69 [37,38],zmv 1 39])])),(.reg [zmv 10 5,zbi 11 .add 10 (zki 1),zmv 5 11])])
def QiT:List (Nat × Md):=[(0,.one .f),(1,.one .d),(5,.one .d)]
def QiO:TCode :=
 (zsq [(.reg [zmv 40 1,zmv 4 40]),.ret])
def QoA:TCode :=
 (zsq [(.reg [zmv 4 (zki 0)]),(zsq [(.reg [zmv 5 (zki 0)]),(.block 0 (.loop QiT Qgy))]),QiO])
def QgP:List (ARv × Md):=[(.t 4,.one .d)]
def QgY:Qc:=TQ 0 1 QgP K
def Qqv:Qc:=Qseq (tawp Qci 1 QiO (QgY K)) (QgY K)
def QoP:Qc:=Qblk 0 (Qqv K)
def Qcd (a:List TOp') (k1:Int) (i:Int) (a1:List TOp'):Prop:=Loop Qci 1 QiT Qgy (QoP K) ⟨[(0,(.r ctOp 0 0 a.length)),(1,(zci k1)),(5,(zci i))],[(0,(.sl 0 ctOp (.dp 0 false []) a1))],1⟩
theorem Qhw (a:List TOp') (k1:Int) (i:Int) (a1:List TOp') (h :
 let z2:=sst dOp (0+(Int.toNat i)) (fun e_ k_=>(k_,e_.2.1,e_.2.2.1,e_.2.2.2)) (k1,a1)
 let z4:=sst dOp (0+(Int.toNat i)) (fun e_ k_=>(e_.1,k_,e_.2.2.1,e_.2.2.2)) z2
 let z1:=sst dOp (0+(Int.toNat i)) (fun e_ k_=>(e_.1,e_.2.1,k_,e_.2.2.2)) z4
 let z3:=nst dOp (0+(Int.toNat i)) (fun e_=>e_.2.2.2) (fun e_ y_=>(e_.1,e_.2.1,e_.2.2.1,y_)) (Qk (α:=List Int)) z1
 (zif (decide (i<((a.length:Nat):Int))) ((((0:Int)≤i∧Int.toNat i<a.length)∧((0+(Int.toNat i))<a1.length))∧((((0:Int)≤i∧Int.toNat i<a.length)∧((0+(Int.toNat i))<(z2.2).length))∧((((0:Int)≤i∧Int.toNat i<a.length)∧((0+(Int.toNat i))<(z4.2).length))∧((((0:Int)≤i∧Int.toNat i<a.length)∧(((0+(Int.toNat i))<(z1.2).length)∧((0+(Int.toNat i))<(z1.2).length)))∧(Qcd K a (z3.1) (w64 (i+(1:Int))) (z3.2)))))) (K (Yn (k1,a1))))):Qcd K a k1 i a1 :=
 Loop.of (by kernel_rfl) h
theorem QmU (a:List TOp') (k:Int) (h :
 (Qcd K a k 0 a)):Hold (tawp Qci (0+1) QoA (TQ 0 1 QgP K) (Qh [(.ow 0 ctOp dw a),(.c TI k)])) :=
 Hold.of (by kernel_rfl) h
theorem QnV (a:List TOp') (k:Int):TCon Try.prog 88 [(.ow 0 ctOp dw a),(.c TI k)] (Yn (Qk (α:=List TOp') a k)):=by
 refine Qn rfl fun hb=>tcg (Γ:=Qci) (n:=41) (sg:=Qcf.sg) Qo (TOkL.cons Qfo TOkL.nil) (by kernel_rfl) (by kernel_rfl) (QmU _ a k ?_)
 have hl_a:a.length≤9223372036854775807:=hb.1.1
 refine QaA (A:=fun kk ii ll=>Qcd (fun r'=>r'=Yn (Qk (α:=List TOp') a k)) a kk ii ll) (Q:=fun z=>Yn z=Yn (Qk (α:=List TOp') a k)) a k ?_ ?_ rfl
 ·intro kk pre post x hl hA
  have hlt:pre.length<a.length:=by omega
  have hw:w64 (((pre.length:Nat):Int)+1)=((pre.length+1:Nat):Int):=by rw [QJ (by omega) (by omega)];omega
  refine Qhw (fun r'=>r'=Yn (Qk (α:=List TOp') a k)) a kk ((pre.length:Nat):Int) (pre++x::post) ?_
  conv=>zeta
  refine ⟨fun _=>?_,fun h=>absurd h (by simp;omega)⟩
  simp only [Int.toNat_natCast,Nat.zero_add,QaM,QaB,Zq,QaH,hw,lt_f,hlt,ZI,and_true,true_and,Int.natCast_nonneg]
  exact hA
 ·intro kk l hl hq
  refine Qhw (fun r'=>r'=Yn (Qk (α:=List TOp') a k)) a kk ((a.length:Nat):Int) l ?_
  conv=>zeta
  exact ⟨fun h=>absurd h (by simp),fun _=>hq⟩
theorem Qir:Qm Try.prog Qcf:=Qp fun x _=>QnV x.1 x.2.1
def ZA (t:Int):TRes:=zre (zci t)
def Qe8:TRow:=Ql 162 [(.c (.sl ctOp)),(.c TI)] fun x=>(some (Qw (α:=List TOp') x.1 x.2.1),ZA (m_held (α:=List TOp') x.1 x.2.1))
def Qcv:TTab:=⟨[Qal],false⟩
def Qjl:TCode :=
 (zsq [(zsq [(.reg [zmv 6 5,zmv 7 0,zle 8 7,zbi 9 .lss 6 8]),(.cond 9 .skip (.exit 0))]),(.block 1 (zsq [(zsq [(.reg [zmv 12 0,zmv 13 5,zia 14 12 13 ctOp,zfa 15 14 0,zld 16 15 1,zmv 17 1,zbi 18 .neq 16 17]),(.cond 18 (zsq [(.reg [zmv 4 (zki (-1))]),.ret]) .skip)]),(.reg [zmv 19 1,zbi 20 .add 19 (zki 1),zmv 1 20]),(zsq [(.reg [zmv 21 0,zmv 22 5,zia 23 21 22 ctOp,zfa 24 23 1,zld 25 24 1,zmv 26 1,zbi 27 .neq 25 26]),(.cond 27 (zsq [(.reg [zmv 4 (zki (-1))]),.ret]) .skip)]),(.reg [zmv 28 1,zbi 29 .add 28 (zki 1),zmv 1 29]),(zsq [(.reg [zmv 30 0,zmv 31 5,zia 32 30 31 ctOp,zfa 33 32 2,zld 34 33 1,zmv 35 1,zbi 36 .neq 34 35]),(.cond 36 (zsq [(.reg [zmv 4 (zki (-1))]),.ret]) .skip)]),(.reg [zmv 37 1,zbi 38 .add 37 (zki 1),zmv 1 38]),(.reg [zmv 39 0,zmv 40 5,zia 41 39 40 ctOp,zfa 42 41 3,zld 43 42 1,zmv 44 1,zca 45 70 [43,44],zmv 1 45]),(.reg [zmv 46 1,zbi 47 .lss 46 (zki 0)]),(.cond 47 (zsq [(.reg [zmv 4 (zki (-1))]),.ret]) .skip)])),(.reg [zmv 10 5,zbi 11 .add 10 (zki 1),zmv 5 11])])
def QjI:List (Nat × Md):=zdl [0,1,5]
def QgM:TCode :=
 (zsq [(.reg [zmv 48 1,zmv 4 48]),.ret])
def QtQ:TCode :=
 (zsq [(.reg [zmv 4 (zki 0)]),(zsq [(.reg [zmv 5 (zki 0)]),(.block 0 (.loop QjI Qjl))]),QgM])
def QgL:List (ARv × Md):=[(.t 4,.one .d)]
def QgQ:Qc:=TQ 0 0 QgL K
def Qnl:Qc:=Qseq (tawp Qcv 0 QgM (QgQ K)) (QgQ K)
def Qrm:Qc:=Qblk 0 (Qnl K)
def Qbw (a:List TOp') (k1:Int) (i:Int):Prop:=Loop Qcv 0 QjI Qjl (Qrm K) ⟨[(0,(zcs ctOp a)),(1,(zci k1)),(5,(zci i))],[],0⟩
theorem QiW (a:List TOp') (k1:Int) (i:Int) (h :
 (zif (decide (i<(a.length:Int))) (((0:Int)≤i∧Int.toNat i<a.length)∧(zif (((gtd dOp a (Int.toNat i)).1) != k1) (K (ZA (-1:Int))) (((0:Int)≤i∧Int.toNat i<a.length)∧(zif (((gtd dOp a (Int.toNat i)).2.1) != (w64 (k1+(1:Int)))) (K (ZA (-1:Int))) (((0:Int)≤i∧Int.toNat i<a.length)∧(zif (((gtd dOp a (Int.toNat i)).2.2.1) != (w64 ((w64 (k1+(1:Int)))+(1:Int)))) (K (ZA (-1:Int))) ((((0:Int)≤i∧Int.toNat i<a.length)∧(Qw (α:=List Int) ((gtd dOp a (Int.toNat i)).2.2.2) (w64 ((w64 ((w64 (k1+(1:Int)))+(1:Int)))+(1:Int)))))∧(zif (decide ((m_held (α:=List Int) ((gtd dOp a (Int.toNat i)).2.2.2) (w64 ((w64 ((w64 (k1+(1:Int)))+(1:Int)))+(1:Int))))<(0:Int))) (K (ZA (-1:Int))) (Qbw K a (m_held (α:=List Int) ((gtd dOp a (Int.toNat i)).2.2.2) (w64 ((w64 ((w64 (k1+(1:Int)))+(1:Int)))+(1:Int)))) (w64 (i+(1:Int)))))))))))) (K (ZA k1)))):Qbw K a k1 i :=
 Loop.of (by kernel_rfl) h
theorem Ql6 (a:List TOp') (k:Int) (h :
 (Qbw K a k 0)):Hold (tawp Qcv (0+0) QtQ (TQ 0 0 QgL K) (Qh [(.c (.sl ctOp) a),(.c TI k)])) :=
 Hold.of (by kernel_rfl) h
theorem Qui (a:List TOp') (k:Int) (hp:Qw (α:=List TOp') a k):TCon Try.prog 162 [(.c (.sl ctOp) a),(.c TI k)] (ZA (m_held (α:=List TOp') a k)):=by
 refine Qn rfl fun hb=>tcg (Γ:=Qcv) (n:=49) (sg:=Qe8.sg) Qo (TOkL.cons QeG TOkL.nil) (by kernel_rfl) (by kernel_rfl) (Ql6 _ a k ?_)
 have hl_a:a.length≤9223372036854775807:=hb.1.1
 refine Qad (A:=fun kk ii=>Qbw (fun r'=>r'=ZA (m_held (α:=List TOp') a k)) a kk ii) (Q:=fun z=>ZA z=ZA (m_held (α:=List TOp') a k)) a k hp ?_ ?_ rfl
 ·intro kk pre post x ha hpx hneg hpos
  have hlt:pre.length<a.length:=by rw [ha];simp
  have hg:∀ d,gtd d a pre.length=x:=fun d=>by rw [ha];exact Zq d pre post x
  have hw:w64 (((pre.length:Nat):Int)+1)=((pre.length+1:Nat):Int):=by rw [QJ (by omega) (by omega)];omega
  refine QiW (fun r'=>r'=ZA (m_held (α:=List TOp') a k)) a kk ((pre.length:Nat):Int) ?_
  refine ⟨fun _=>?_,fun h=>absurd h (by simp;omega)⟩
  simp only [Int.toNat_natCast,hg,hw,hlt,ZI,and_true,true_and,Int.natCast_nonneg]
  have hp0:=(ZR hpx).1
  have hq0:=(ZR hpx).2
  have hp1:=(ZR hq0).1
  have hq1:=(ZR hq0).2
  have hp2:=(ZR hq1).1
  have hq2:=(ZR hq1).2
  simp only [Qcu,Qby,Qa9,Prod.ext_iff] at hneg hpos hp0 hq0 hp1 hq1 hp2 hq2
  refine ⟨fun h=>hneg (fun e=>YK h (e.1).symm),fun h0=>?_⟩
  have e0:=(Y6 h0).symm
  refine ⟨fun h=>hneg (fun e=>YK h (e.2.1).symm),fun h1=>?_⟩
  have e1:=(Y6 h1).symm
  refine ⟨fun h=>hneg (fun e=>YK h (e.2.2.1).symm),fun h2=>?_⟩
  have e2:=(Y6 h2).symm
  refine ⟨hq2,fun h=>hneg (fun e=>Zz hq2 (of_decide_eq_true h) (e.2.2.2)),fun h3=>?_⟩
  obtain ⟨e3,h3⟩:=Zp (of_decide_eq_false h3)
  rw [h3]
  exact hpos ⟨e0,e1,e2,e3⟩
 ·intro kk hq
  refine QiW (fun r'=>r'=ZA (m_held (α:=List TOp') a k)) a kk ((a.length:Nat):Int) ?_
  exact ⟨fun h=>absurd h (by simp),fun _=>hq⟩
theorem QsX:Qm Try.prog Qe8:=Qp fun x h=>Qui x.1 x.2.1 h
def Ys (t:Int × (List Qj)):TRes:=⟨(zci t.1),[],[],true,[(.sl 0 QB (.dp 0 false []) t.2)]⟩
def QeM:TRow:=Ql 160 [(.d QB),(.c TI)] fun x=>(none,Ys (Qk (α:=List Qj) x.1 x.2.1))
def QcJ:TTab:=⟨[QaC],true⟩
def QlN:TCode :=
 (zsq [(zsq [(.reg [zmv 6 5,zmv 7 0,zle 8 7,zbi 9 .lss 6 8]),(.cond 9 .skip (.exit 0))]),(.block 1 (zsq [(.reg [zmv 12 0,zmv 13 5,zmv 14 1,zia 15 12 13 QB,zfa 16 15 0,zst 16 14 1]),(.reg [zmv 17 1,zbi 18 .add 17 (zki 1),zmv 1 18]),(.reg [zmv 19 0,zmv 20 5,zia 21 19 20 QB,zfa 22 21 1,zld 23 22 1,zmv 24 1,zca 25 161 [23,24],zmv 1 25])])),(.reg [zmv 10 5,zbi 11 .add 10 (zki 1),zmv 5 11])])
def Qko:List (Nat × Md):=[(0,.one .f),(1,.one .d),(5,.one .d)]
def QjL:TCode :=
 (zsq [(.reg [zmv 26 1,zmv 4 26]),.ret])
def Qsx:TCode :=
 (zsq [(.reg [zmv 4 (zki 0)]),(zsq [(.reg [zmv 5 (zki 0)]),(.block 0 (.loop Qko QlN))]),QjL])
def Qhj:List (ARv × Md):=[(.t 4,.one .d)]
def Qf6:Qc:=TQ 0 1 Qhj K
def Qr0:Qc:=Qseq (tawp QcJ 1 QjL (Qf6 K)) (Qf6 K)
def QqD:Qc:=Qblk 0 (Qr0 K)
def Qbv (a:List Qj) (k1:Int) (i:Int) (a1:List Qj):Prop:=Loop QcJ 1 Qko QlN (QqD K) ⟨[(0,(.r QB 0 0 a.length)),(1,(zci k1)),(5,(zci i))],[(0,(.sl 0 QB (.dp 0 false []) a1))],1⟩
theorem Qh8 (a:List Qj) (k1:Int) (i:Int) (a1:List Qj) (h :
 (zif (decide (i<((a.length:Nat):Int))) ((((0:Int)≤i∧Int.toNat i<a.length)∧((0+(Int.toNat i))<a1.length))∧((((0:Int)≤i∧Int.toNat i<a.length)∧(((0+(Int.toNat i))<((sst Zj (0+(Int.toNat i)) (fun e_ k_=>(k_,e_.2)) (k1,a1)).2).length)∧((0+(Int.toNat i))<((sst Zj (0+(Int.toNat i)) (fun e_ k_=>(k_,e_.2)) (k1,a1)).2).length)))∧(Qbv K a ((nst Zj (0+(Int.toNat i)) (fun e_=>e_.2) (fun e_ y_=>(e_.1,y_)) (Qk (α:=List (List Int))) (sst Zj (0+(Int.toNat i)) (fun e_ k_=>(k_,e_.2)) (k1,a1))).1) (w64 (i+(1:Int))) ((nst Zj (0+(Int.toNat i)) (fun e_=>e_.2) (fun e_ y_=>(e_.1,y_)) (Qk (α:=List (List Int))) (sst Zj (0+(Int.toNat i)) (fun e_ k_=>(k_,e_.2)) (k1,a1))).2)))) (K (Ys (k1,a1))))):Qbv K a k1 i a1 :=
 Loop.of (by kernel_rfl) h
theorem QsU (a:List Qj) (k:Int) (h :
 (Qbv K a k 0 a)):Hold (tawp QcJ (0+1) Qsx (TQ 0 1 Qhj K) (Qh [(.ow 0 QB dw a),(.c TI k)])) :=
 Hold.of (by kernel_rfl) h
theorem Qox (a:List Qj) (k:Int):TCon Try.prog 160 [(.ow 0 QB dw a),(.c TI k)] (Ys (Qk (α:=List Qj) a k)):=by
 refine Qn rfl fun hb=>tcg (Γ:=QcJ) (n:=27) (sg:=QeM.sg) Qo (TOkL.cons Qez TOkL.nil) (by kernel_rfl) (by kernel_rfl) (QsU _ a k ?_)
 have hl_a:a.length≤9223372036854775807:=hb.1.1
 refine QaA (A:=fun kk ii ll=>Qbv (fun r'=>r'=Ys (Qk (α:=List Qj) a k)) a kk ii ll) (Q:=fun z=>Ys z=Ys (Qk (α:=List Qj) a k)) a k ?_ ?_ rfl
 ·intro kk pre post x hl hA
  have hlt:pre.length<a.length:=by omega
  have hw:w64 (((pre.length:Nat):Int)+1)=((pre.length+1:Nat):Int):=by rw [QJ (by omega) (by omega)];omega
  refine Qh8 (fun r'=>r'=Ys (Qk (α:=List Qj) a k)) a kk ((pre.length:Nat):Int) (pre++x::post) ?_
  refine ⟨fun _=>?_,fun h=>absurd h (by simp;omega)⟩
  simp only [Int.toNat_natCast,Nat.zero_add,QaM,QaB,Zq,QaH,hw,lt_f,hlt,ZI,and_true,true_and,Int.natCast_nonneg]
  exact hA
 ·intro kk l hl hq
  refine Qh8 (fun r'=>r'=Ys (Qk (α:=List Qj) a k)) a kk ((a.length:Nat):Int) l ?_
  exact ⟨fun h=>absurd h (by simp),fun _=>hq⟩
theorem Qqc:Qm Try.prog QeM:=Qp fun x _=>Qox x.1 x.2.1
def ZM (t:Int):TRes:=zre (zci t)
def Qfg:TRow:=Ql 163 [(.c (.sl QB)),(.c TI)] fun x=>(some (Qw (α:=List Qj) x.1 x.2.1),ZM (m_held (α:=List Qj) x.1 x.2.1))
def QcH:TTab:=⟨[Qa3],false⟩
def QiL:TCode :=
 (zsq [(zsq [(.reg [zmv 6 5,zmv 7 0,zle 8 7,zbi 9 .lss 6 8]),(.cond 9 .skip (.exit 0))]),(.block 1 (zsq [(zsq [(.reg [zmv 12 0,zmv 13 5,zia 14 12 13 QB,zfa 15 14 0,zld 16 15 1,zmv 17 1,zbi 18 .neq 16 17]),(.cond 18 (zsq [(.reg [zmv 4 (zki (-1))]),.ret]) .skip)]),(.reg [zmv 19 1,zbi 20 .add 19 (zki 1),zmv 1 20]),(.reg [zmv 21 0,zmv 22 5,zia 23 21 22 QB,zfa 24 23 1,zld 25 24 1,zmv 26 1,zca 27 164 [25,26],zmv 1 27]),(.reg [zmv 28 1,zbi 29 .lss 28 (zki 0)]),(.cond 29 (zsq [(.reg [zmv 4 (zki (-1))]),.ret]) .skip)])),(.reg [zmv 10 5,zbi 11 .add 10 (zki 1),zmv 5 11])])
def Qh3:List (Nat × Md):=zdl [0,1,5]
def QhO:TCode :=
 (zsq [(.reg [zmv 30 1,zmv 4 30]),.ret])
def Qo3:TCode :=
 (zsq [(.reg [zmv 4 (zki 0)]),(zsq [(.reg [zmv 5 (zki 0)]),(.block 0 (.loop Qh3 QiL))]),QhO])
def QgD:List (ARv × Md):=[(.t 4,.one .d)]
def QfN:Qc:=TQ 0 0 QgD K
def QmY:Qc:=Qseq (tawp QcH 0 QhO (QfN K)) (QfN K)
def Qsc:Qc:=Qblk 0 (QmY K)
def QbM (a:List Qj) (k1:Int) (i:Int):Prop:=Loop QcH 0 Qh3 QiL (Qsc K) ⟨[(0,(zcs QB a)),(1,(zci k1)),(5,(zci i))],[],0⟩
theorem Qkk (a:List Qj) (k1:Int) (i:Int) (h :
 (zif (decide (i<(a.length:Int))) (((0:Int)≤i∧Int.toNat i<a.length)∧(zif (((gtd Zj a (Int.toNat i)).1) != k1) (K (ZM (-1:Int))) ((((0:Int)≤i∧Int.toNat i<a.length)∧(Qw (α:=List (List Int)) ((gtd Zj a (Int.toNat i)).2) (w64 (k1+(1:Int)))))∧(zif (decide ((m_held (α:=List (List Int)) ((gtd Zj a (Int.toNat i)).2) (w64 (k1+(1:Int))))<(0:Int))) (K (ZM (-1:Int))) (QbM K a (m_held (α:=List (List Int)) ((gtd Zj a (Int.toNat i)).2) (w64 (k1+(1:Int)))) (w64 (i+(1:Int)))))))) (K (ZM k1)))):QbM K a k1 i :=
 Loop.of (by kernel_rfl) h
theorem QrQ (a:List Qj) (k:Int) (h :
 (QbM K a k 0)):Hold (tawp QcH (0+0) Qo3 (TQ 0 0 QgD K) (Qh [(.c (.sl QB) a),(.c TI k)])) :=
 Hold.of (by kernel_rfl) h
theorem Qn3 (a:List Qj) (k:Int) (hp:Qw (α:=List Qj) a k):TCon Try.prog 163 [(.c (.sl QB) a),(.c TI k)] (ZM (m_held (α:=List Qj) a k)):=by
 refine Qn rfl fun hb=>tcg (Γ:=QcH) (n:=31) (sg:=Qfg.sg) Qo (TOkL.cons Qdi TOkL.nil) (by kernel_rfl) (by kernel_rfl) (QrQ _ a k ?_)
 have hl_a:a.length≤9223372036854775807:=hb.1.1
 refine Qad (A:=fun kk ii=>QbM (fun r'=>r'=ZM (m_held (α:=List Qj) a k)) a kk ii) (Q:=fun z=>ZM z=ZM (m_held (α:=List Qj) a k)) a k hp ?_ ?_ rfl
 ·intro kk pre post x ha hpx hneg hpos
  have hlt:pre.length<a.length:=by rw [ha];simp
  have hg:∀ d,gtd d a pre.length=x:=fun d=>by rw [ha];exact Zq d pre post x
  have hw:w64 (((pre.length:Nat):Int)+1)=((pre.length+1:Nat):Int):=by rw [QJ (by omega) (by omega)];omega
  refine Qkk (fun r'=>r'=ZM (m_held (α:=List Qj) a k)) a kk ((pre.length:Nat):Int) ?_
  refine ⟨fun _=>?_,fun h=>absurd h (by simp;omega)⟩
  simp only [Int.toNat_natCast,hg,hw,hlt,ZI,and_true,true_and,Int.natCast_nonneg]
  have hp0:=(ZR hpx).1
  have hq0:=(ZR hpx).2
  simp only [Qcu,Qby,Qa9,Prod.ext_iff] at hneg hpos hp0 hq0
  refine ⟨fun h=>hneg (fun e=>YK h (e.1).symm),fun h0=>?_⟩
  have e0:=(Y6 h0).symm
  refine ⟨hq0,fun h=>hneg (fun e=>Zz hq0 (of_decide_eq_true h) (e.2)),fun h1=>?_⟩
  obtain ⟨e1,h1⟩:=Zp (of_decide_eq_false h1)
  rw [h1]
  exact hpos ⟨e0,e1⟩
 ·intro kk hq
  refine Qkk (fun r'=>r'=ZM (m_held (α:=List Qj) a k)) a kk ((a.length:Nat):Int) ?_
  exact ⟨fun h=>absurd h (by simp),fun _=>hq⟩
theorem QnR:Qm Try.prog Qfg:=Qp fun x h=>Qn3 x.1 x.2.1 h
end
end Go.Proofs.Ytephkbajoofeoaa.Am

