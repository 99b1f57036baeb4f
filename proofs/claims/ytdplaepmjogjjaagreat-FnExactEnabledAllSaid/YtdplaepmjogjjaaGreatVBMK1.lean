/- -/
import Derived.Test.YtdplaepmjogjjaaGreatVBGF
namespace Go.Proofs.YtdplaepmjogjjaaGreat.Am
open Go Go.RowKit Go.Proofs.YtdplaepmjogjjaaGreat
set_option linter.all false
noncomputable section
variable (K:TRes→Prop)
def JD (t:Int × (List Int)):TRes:=⟨(zci t.1),[],[],true,[(.sl 0 [TI] (.dp 0 false []) t.2)]⟩
def Ja:TRow:=Qi 26 [(.d [TI]),(.c TI)] fun x=>(none,JD (Qm (α:=List Int) x.1 x.2.1))
def QdI:TTab:=⟨[],true⟩
def Qi5:TCode :=
 (zsq [(zsq [(.reg [zmv 6 5,zmv 7 0,zle 8 7,zbi 9 .lss 6 8]),(.cond 9 .skip (.exit 0))]),(.block 1 (zsq [(.reg [zmv 12 0,zmv 13 5,zmv 14 1,zia 15 12 13 [TI],zst 15 14 1]),(.reg [zmv 16 1,zbi 17 .add 16 (zki 1),zmv 1 17])])),(.reg [zmv 10 5,zbi 11 .add 10 (zki 1),zmv 5 11])])
def Qpi:List (Nat × Md):=[(0,.one .f),(1,.one .d),(5,.one .d)]
def Qos:TCode :=
 (zsq [(.reg [zmv 18 1,zmv 4 18]),.ret])
def Qsv:TCode :=
 (zsq [(.reg [zmv 4 (zki 0)]),(zsq [(.reg [zmv 5 (zki 0)]),(.block 0 (.loop Qpi Qi5))]),Qos])
def Qr5:List (ARv × Md):=[(.t 4,.one .d)]
def Qmm:Qb:=TQ 0 1 Qr5 K
def QBe:Qb:=Qseq (tawp QdI 1 Qos (Qmm K)) (Qmm K)
def QxH:Qb:=Qblk 0 (QBe K)
def QeA (a:List Int) (k1:Int) (i:Int) (a1:List Int):Prop:=Loop QdI 1 Qpi Qi5 (QxH K) ⟨[(0,(.r [TI] 0 0 a.length)),(1,(zci k1)),(5,(zci i))],[(0,(.sl 0 [TI] (.dp 0 false []) a1))],1⟩
theorem QnJ (a:List Int) (k1:Int) (i:Int) (a1:List Int) (h :
 (zif (decide (i<((a.length:Nat):Int))) ((((0:Int)≤i∧Int.toNat i<a.length)∧((0+(Int.toNat i))<a1.length))∧(QeA K a (w64 (k1+(1:Int))) (w64 (i+(1:Int))) ((a1).set (0+(Int.toNat i)) k1))) (K (JD (k1,a1))))):QeA K a k1 i a1 :=
 Loop.of (by kernel_rfl) h
theorem QvH (a:List Int) (k:Int) (h :
 (QeA K a k 0 a)):Hold (tawp QdI (0+1) Qsv (TQ 0 1 Qr5 K) (Qg [(.ow 0 [TI] dw a),(.c TI k)])) :=
 Hold.of (by kernel_rfl) h
theorem Qtc (a:List Int) (k:Int):TCon Tryz.prog 26 [(.ow 0 [TI] dw a),(.c TI k)] (JD (Qm (α:=List Int) a k)):=by
 refine Qk rfl fun hb=>tcg (Γ:=QdI) (n:=19) (sg:=Ja.sg) Ql TOkL.nil (by kernel_rfl) (by kernel_rfl) (QvH _ a k ?_)
 have hl_a:a.length≤9223372036854775807:=hb.1.1
 refine YA (A:=fun kk ii ll=>QeA (fun r'=>r'=JD (Qm (α:=List Int) a k)) a kk ii ll) (Q:=fun z=>JD z=JD (Qm (α:=List Int) a k)) a k ?_ ?_ rfl
 ·intro kk pre post x hl hA
  have hlt:pre.length<a.length:=by omega
  have hw:w64 (((pre.length:Nat):Int)+1)=((pre.length+1:Nat):Int):=by rw [Qw (by omega) (by omega)];omega
  refine QnJ (fun r'=>r'=JD (Qm (α:=List Int) a k)) a kk ((pre.length:Nat):Int) (pre++x::post) ?_
  refine ⟨fun _=>?_,fun h=>absurd h (by simp;omega)⟩
  simp only [Int.toNat_natCast,Nat.zero_add,Y0,YQ,ZZ,YK,hw,lt_f,hlt,Yo,and_true,true_and,Int.natCast_nonneg]
  exact hA
 ·intro kk l hl hq
  refine QnJ (fun r'=>r'=JD (Qm (α:=List Int) a k)) a kk ((a.length:Nat):Int) l ?_
  exact ⟨fun h=>absurd h (by simp),fun _=>hq⟩
theorem QaR:Qj Tryz.prog Ja:=Qn fun x _=>Qtc x.1 x.2.1
def YP (t:Int):TRes:=zre (zci t)
def Qfo:TRow:=Qi 27 [(.c (.sl [TI])),(.c TI)] fun x=>(some (ZN (α:=List Int) x.1 x.2.1),YP (m_held (α:=List Int) x.1 x.2.1))
def QcX:TTab:=⟨[],false⟩
def Qml:TCode :=
 (zsq [(zsq [(.reg [zmv 6 5,zmv 7 0,zle 8 7,zbi 9 .lss 6 8]),(.cond 9 .skip (.exit 0))]),(.block 1 (zsq [(zsq [(.reg [zmv 12 0,zmv 13 5,zia 14 12 13 [TI],zld 15 14 1,zmv 16 1,zbi 17 .neq 15 16]),(.cond 17 (zsq [(.reg [zmv 4 (zki (-1))]),.ret]) .skip)]),(.reg [zmv 18 1,zbi 19 .add 18 (zki 1),zmv 1 19])])),(.reg [zmv 10 5,zbi 11 .add 10 (zki 1),zmv 5 11])])
def QqU:List (Nat × Md):=zdl [0,1,5]
def QkU:TCode :=
 (zsq [(.reg [zmv 20 1,zmv 4 20]),.ret])
def QDl:TCode :=
 (zsq [(.reg [zmv 4 (zki 0)]),(zsq [(.reg [zmv 5 (zki 0)]),(.block 0 (.loop QqU Qml))]),QkU])
def QmJ:List (ARv × Md):=[(.t 4,.one .d)]
def QkJ:Qb:=TQ 0 0 QmJ K
def Qyn:Qb:=Qseq (tawp QcX 0 QkU (QkJ K)) (QkJ K)
def QsX:Qb:=Qblk 0 (Qyn K)
def QeK (a:List Int) (k1:Int) (i:Int):Prop:=Loop QcX 0 QqU Qml (QsX K) ⟨[(0,(zcs [TI] a)),(1,(zci k1)),(5,(zci i))],[],0⟩
theorem Qpb (a:List Int) (k1:Int) (i:Int) (h :
 (zif (decide (i<(a.length:Int))) (((0:Int)≤i∧Int.toNat i<a.length)∧(zif ((gtd (0:Int) a (Int.toNat i)) != k1) (K (YP (-1:Int))) (QeK K a (w64 (k1+(1:Int))) (w64 (i+(1:Int)))))) (K (YP k1)))):QeK K a k1 i :=
 Loop.of (by kernel_rfl) h
theorem QD8 (a:List Int) (k:Int) (h :
 (QeK K a k 0)):Hold (tawp QcX (0+0) QDl (TQ 0 0 QmJ K) (Qg [(.c (.sl [TI]) a),(.c TI k)])) :=
 Hold.of (by kernel_rfl) h
theorem QFx (a:List Int) (k:Int) (hp:ZN (α:=List Int) a k):TCon Tryz.prog 27 [(.c (.sl [TI]) a),(.c TI k)] (YP (m_held (α:=List Int) a k)):=by
 refine Qk rfl fun hb=>tcg (Γ:=QcX) (n:=21) (sg:=Qfo.sg) Ql TOkL.nil (by kernel_rfl) (by kernel_rfl) (QD8 _ a k ?_)
 have hl_a:a.length≤9223372036854775807:=hb.1.1
 refine QBF (A:=fun kk ii=>QeK (fun r'=>r'=YP (m_held (α:=List Int) a k)) a kk ii) (Q:=fun z=>YP z=YP (m_held (α:=List Int) a k)) a k hp ?_ ?_ rfl
 ·intro kk pre post x ha hpx hneg hpos
  have hlt:pre.length<a.length:=by rw [ha];simp
  have hg:∀ d,gtd d a pre.length=x:=fun d=>by rw [ha];exact ZZ d pre post x
  have hw:w64 (((pre.length:Nat):Int)+1)=((pre.length+1:Nat):Int):=by rw [Qw (by omega) (by omega)];omega
  refine Qpb (fun r'=>r'=YP (m_held (α:=List Int) a k)) a kk ((pre.length:Nat):Int) ?_
  refine ⟨fun _=>?_,fun h=>absurd h (by simp;omega)⟩
  simp only [Int.toNat_natCast,hg,hw,hlt,Yo,and_true,true_and,Int.natCast_nonneg]
  simp only [QDA,Qva,Qsl,Prod.ext_iff] at hneg hpos
  refine ⟨fun h=>hneg (fun e=>QBq h (e).symm),fun h0=>?_⟩
  have e0:=(Qs7 h0).symm
  exact hpos e0
 ·intro kk hq
  refine Qpb (fun r'=>r'=YP (m_held (α:=List Int) a k)) a kk ((a.length:Nat):Int) ?_
  exact ⟨fun h=>absurd h (by simp),fun _=>hq⟩
theorem QEM:Qj Tryz.prog Qfo:=Qn fun x h=>QFx x.1 x.2.1 h
def Jn (t:Int × (List (List Int))):TRes:=⟨(zci t.1),[],[],true,[(.sl 0 [(.sl [TI])] (.dp 0 false []) t.2)]⟩
def QeJ:TRow:=Qi 82 [(.d [(.sl [TI])]),(.c TI)] fun x=>(none,Jn (Qm (α:=List (List Int)) x.1 x.2.1))
def Qc7:TTab:=⟨[Ja],true⟩
def QqC:TCode :=
 (zsq [(zsq [(.reg [zmv 6 5,zmv 7 0,zle 8 7,zbi 9 .lss 6 8]),(.cond 9 .skip (.exit 0))]),(.block 1 (.reg [zmv 12 0,zmv 13 5,zia 14 12 13 [(.sl [TI])],zfa 15 14 0,zld 16 15 1,zmv 17 1,zca 18 26 [16,17],zmv 1 18])),(.reg [zmv 10 5,zbi 11 .add 10 (zki 1),zmv 5 11])])
def Qjl:List (Nat × Md):=[(0,.one .f),(1,.one .d),(5,.one .d)]
def QrJ:TCode :=
 (zsq [(.reg [zmv 19 1,zmv 4 19]),.ret])
def QFj:TCode :=
 (zsq [(.reg [zmv 4 (zki 0)]),(zsq [(.reg [zmv 5 (zki 0)]),(.block 0 (.loop Qjl QqC))]),QrJ])
def QpE:List (ARv × Md):=[(.t 4,.one .d)]
def QqV:Qb:=TQ 0 1 QpE K
def QAI:Qb:=Qseq (tawp Qc7 1 QrJ (QqV K)) (QqV K)
def Qw3:Qb:=Qblk 0 (QAI K)
def QcL (a:List (List Int)) (k1:Int) (i:Int) (a1:List (List Int)):Prop:=Loop Qc7 1 Qjl QqC (Qw3 K) ⟨[(0,(.r [(.sl [TI])] 0 0 a.length)),(1,(zci k1)),(5,(zci i))],[(0,(.sl 0 [(.sl [TI])] (.dp 0 false []) a1))],1⟩
theorem QkI (a:List (List Int)) (k1:Int) (i:Int) (a1:List (List Int)) (h :
 (zif (decide (i<((a.length:Nat):Int))) ((((0:Int)≤i∧Int.toNat i<a.length)∧(((0+(Int.toNat i))<a1.length)∧((0+(Int.toNat i))<a1.length)))∧(QcL K a ((nst ([]:List Int) (0+(Int.toNat i)) (fun e_=>e_) (fun e_ y_=>y_) (Qm (α:=List Int)) (k1,a1)).1) (w64 (i+(1:Int))) ((nst ([]:List Int) (0+(Int.toNat i)) (fun e_=>e_) (fun e_ y_=>y_) (Qm (α:=List Int)) (k1,a1)).2))) (K (Jn (k1,a1))))):QcL K a k1 i a1 :=
 Loop.of (by kernel_rfl) h
theorem Qsk (a:List (List Int)) (k:Int) (h :
 (QcL K a k 0 a)):Hold (tawp Qc7 (0+1) QFj (TQ 0 1 QpE K) (Qg [(.ow 0 [(.sl [TI])] dw a),(.c TI k)])) :=
 Hold.of (by kernel_rfl) h
theorem QzH (a:List (List Int)) (k:Int):TCon Tryz.prog 82 [(.ow 0 [(.sl [TI])] dw a),(.c TI k)] (Jn (Qm (α:=List (List Int)) a k)):=by
 refine Qk rfl fun hb=>tcg (Γ:=Qc7) (n:=20) (sg:=QeJ.sg) Ql (TOkL.cons QaR TOkL.nil) (by kernel_rfl) (by kernel_rfl) (Qsk _ a k ?_)
 have hl_a:a.length≤9223372036854775807:=hb.1.1
 refine YA (A:=fun kk ii ll=>QcL (fun r'=>r'=Jn (Qm (α:=List (List Int)) a k)) a kk ii ll) (Q:=fun z=>Jn z=Jn (Qm (α:=List (List Int)) a k)) a k ?_ ?_ rfl
 ·intro kk pre post x hl hA
  have hlt:pre.length<a.length:=by omega
  have hw:w64 (((pre.length:Nat):Int)+1)=((pre.length+1:Nat):Int):=by rw [Qw (by omega) (by omega)];omega
  refine QkI (fun r'=>r'=Jn (Qm (α:=List (List Int)) a k)) a kk ((pre.length:Nat):Int) (pre++x::post) ?_
  refine ⟨fun _=>?_,fun h=>absurd h (by simp;omega)⟩
  simp only [Int.toNat_natCast,Nat.zero_add,Y0,YQ,ZZ,YK,hw,lt_f,hlt,Yo,and_true,true_and,Int.natCast_nonneg]
  exact hA
 ·intro kk l hl hq
  refine QkI (fun r'=>r'=Jn (Qm (α:=List (List Int)) a k)) a kk ((a.length:Nat):Int) l ?_
  exact ⟨fun h=>absurd h (by simp),fun _=>hq⟩
theorem QpC:Qj Tryz.prog QeJ:=Qn fun x _=>QzH x.1 x.2.1
def Jb (t:Int × (List TIns)):TRes:=⟨(zci t.1),[],[],true,[(.sl 0 Qz (.dp 0 false []) t.2)]⟩
def Qgj:TRow:=Qi 79 [(.d Qz),(.c TI)] fun x=>(none,Jb (Qm (α:=List TIns) x.1 x.2.1))
def QdF:TTab:=⟨[],true⟩
def QrT:TCode :=
 (zsq [(zsq [(.reg [zmv 6 5,zmv 7 0,zle 8 7,zbi 9 .lss 6 8]),(.cond 9 .skip (.exit 0))]),(.block 1 (zsq [(.reg [zmv 12 0,zmv 13 5,zmv 14 1,zia 15 12 13 Qz,zfa 16 15 0,zst 16 14 1]),(.reg [zmv 17 1,zbi 18 .add 17 (zki 1),zmv 1 18]),(.reg [zmv 19 0,zmv 20 5,zmv 21 1,zia 22 19 20 Qz,zfa 23 22 1,zst 23 21 1]),(.reg [zmv 24 1,zbi 25 .add 24 (zki 1),zmv 1 25])])),(.reg [zmv 10 5,zbi 11 .add 10 (zki 1),zmv 5 11])])
def Qle:List (Nat × Md):=[(0,.one .f),(1,.one .d),(5,.one .d)]
def Qnt:TCode :=
 (zsq [(.reg [zmv 26 1,zmv 4 26]),.ret])
def QuJ:TCode :=
 (zsq [(.reg [zmv 4 (zki 0)]),(zsq [(.reg [zmv 5 (zki 0)]),(.block 0 (.loop Qle QrT))]),Qnt])
def QqS:List (ARv × Md):=[(.t 4,.one .d)]
def Qrm:Qb:=TQ 0 1 QqS K
def Qy1:Qb:=Qseq (tawp QdF 1 Qnt (Qrm K)) (Qrm K)
def Qw1:Qb:=Qblk 0 (Qy1 K)
def Qep (a:List TIns) (k1:Int) (i:Int) (a1:List TIns):Prop:=Loop QdF 1 Qle QrT (Qw1 K) ⟨[(0,(.r Qz 0 0 a.length)),(1,(zci k1)),(5,(zci i))],[(0,(.sl 0 Qz (.dp 0 false []) a1))],1⟩
theorem Qoz (a:List TIns) (k1:Int) (i:Int) (a1:List TIns) (h :
 (zif (decide (i<((a.length:Nat):Int))) ((((0:Int)≤i∧Int.toNat i<a.length)∧((0+(Int.toNat i))<a1.length))∧((((0:Int)≤i∧Int.toNat i<a.length)∧((0+(Int.toNat i))<((sst dIns (0+(Int.toNat i)) (fun e_ k_=>(k_,e_.2)) (k1,a1)).2).length))∧(Qep K a (w64 ((w64 (k1+(1:Int)))+(1:Int))) (w64 (i+(1:Int))) ((sst dIns (0+(Int.toNat i)) (fun e_ k_=>(e_.1,k_)) (sst dIns (0+(Int.toNat i)) (fun e_ k_=>(k_,e_.2)) (k1,a1))).2)))) (K (Jb (k1,a1))))):Qep K a k1 i a1 :=
 Loop.of (by kernel_rfl) h
theorem Qv8 (a:List TIns) (k:Int) (h :
 (Qep K a k 0 a)):Hold (tawp QdF (0+1) QuJ (TQ 0 1 QqS K) (Qg [(.ow 0 Qz dw a),(.c TI k)])) :=
 Hold.of (by kernel_rfl) h
theorem Qwp (a:List TIns) (k:Int):TCon Tryz.prog 79 [(.ow 0 Qz dw a),(.c TI k)] (Jb (Qm (α:=List TIns) a k)):=by
 refine Qk rfl fun hb=>tcg (Γ:=QdF) (n:=27) (sg:=Qgj.sg) Ql TOkL.nil (by kernel_rfl) (by kernel_rfl) (Qv8 _ a k ?_)
 have hl_a:a.length≤9223372036854775807:=hb.1.1
 refine YA (A:=fun kk ii ll=>Qep (fun r'=>r'=Jb (Qm (α:=List TIns) a k)) a kk ii ll) (Q:=fun z=>Jb z=Jb (Qm (α:=List TIns) a k)) a k ?_ ?_ rfl
 ·intro kk pre post x hl hA
  have hlt:pre.length<a.length:=by omega
  have hw:w64 (((pre.length:Nat):Int)+1)=((pre.length+1:Nat):Int):=by rw [Qw (by omega) (by omega)];omega
  refine Qoz (fun r'=>r'=Jb (Qm (α:=List TIns) a k)) a kk ((pre.length:Nat):Int) (pre++x::post) ?_
  refine ⟨fun _=>?_,fun h=>absurd h (by simp;omega)⟩
  simp only [Int.toNat_natCast,Nat.zero_add,Y0,YQ,ZZ,YK,hw,lt_f,hlt,Yo,and_true,true_and,Int.natCast_nonneg]
  exact hA
 ·intro kk l hl hq
  refine Qoz (fun r'=>r'=Jb (Qm (α:=List TIns) a k)) a kk ((a.length:Nat):Int) l ?_
  exact ⟨fun h=>absurd h (by simp),fun _=>hq⟩
theorem Qxd:Qj Tryz.prog Qgj:=Qn fun x _=>Qwp x.1 x.2.1
def Y5 (t:Int × (List Qe)):TRes:=⟨(zci t.1),[],[],true,[(.sl 0 Qu (.dp 0 false []) t.2)]⟩
def Qg9:TRow:=Qi 182 [(.d Qu),(.c TI)] fun x=>(none,Y5 (Qm (α:=List Qe) x.1 x.2.1))
def QeG:TTab:=⟨[Ja],true⟩
def QqF:TCode :=
 (zsq [(zsq [(.reg [zmv 6 5,zmv 7 0,zle 8 7,zbi 9 .lss 6 8]),(.cond 9 .skip (.exit 0))]),(.block 1 (zsq [(.reg [zmv 12 0,zmv 13 5,zmv 14 1,zia 15 12 13 Qu,zfa 16 15 0,zst 16 14 1]),(.reg [zmv 17 1,zbi 18 .add 17 (zki 1),zmv 1 18]),(.reg [zmv 19 0,zmv 20 5,zia 21 19 20 Qu,zfa 22 21 1,zld 23 22 1,zmv 24 1,zca 25 26 [23,24],zmv 1 25])])),(.reg [zmv 10 5,zbi 11 .add 10 (zki 1),zmv 5 11])])
def Qq5:List (Nat × Md):=[(0,.one .f),(1,.one .d),(5,.one .d)]
def Qmk:TCode :=
 (zsq [(.reg [zmv 26 1,zmv 4 26]),.ret])
def QsK:TCode :=
 (zsq [(.reg [zmv 4 (zki 0)]),(zsq [(.reg [zmv 5 (zki 0)]),(.block 0 (.loop Qq5 QqF))]),Qmk])
def QlV:List (ARv × Md):=[(.t 4,.one .d)]
def QrM:Qb:=TQ 0 1 QlV K
def QAL:Qb:=Qseq (tawp QeG 1 Qmk (QrM K)) (QrM K)
def QBj:Qb:=Qblk 0 (QAL K)
def Qee (a:List Qe) (k1:Int) (i:Int) (a1:List Qe):Prop:=Loop QeG 1 Qq5 QqF (QBj K) ⟨[(0,(.r Qu 0 0 a.length)),(1,(zci k1)),(5,(zci i))],[(0,(.sl 0 Qu (.dp 0 false []) a1))],1⟩
theorem QnR (a:List Qe) (k1:Int) (i:Int) (a1:List Qe) (h :
 (zif (decide (i<((a.length:Nat):Int))) ((((0:Int)≤i∧Int.toNat i<a.length)∧((0+(Int.toNat i))<a1.length))∧((((0:Int)≤i∧Int.toNat i<a.length)∧(((0+(Int.toNat i))<((sst ((0,[]):Qe) (0+(Int.toNat i)) (fun e_ k_=>(k_,e_.2)) (k1,a1)).2).length)∧((0+(Int.toNat i))<((sst ((0,[]):Qe) (0+(Int.toNat i)) (fun e_ k_=>(k_,e_.2)) (k1,a1)).2).length)))∧(Qee K a ((nst ((0,[]):Qe) (0+(Int.toNat i)) (fun e_=>e_.2) (fun e_ y_=>(e_.1,y_)) (Qm (α:=List Int)) (sst ((0,[]):Qe) (0+(Int.toNat i)) (fun e_ k_=>(k_,e_.2)) (k1,a1))).1) (w64 (i+(1:Int))) ((nst ((0,[]):Qe) (0+(Int.toNat i)) (fun e_=>e_.2) (fun e_ y_=>(e_.1,y_)) (Qm (α:=List Int)) (sst ((0,[]):Qe) (0+(Int.toNat i)) (fun e_ k_=>(k_,e_.2)) (k1,a1))).2)))) (K (Y5 (k1,a1))))):Qee K a k1 i a1 :=
 Loop.of (by kernel_rfl) h
theorem QuO (a:List Qe) (k:Int) (h :
 (Qee K a k 0 a)):Hold (tawp QeG (0+1) QsK (TQ 0 1 QlV K) (Qg [(.ow 0 Qu dw a),(.c TI k)])) :=
 Hold.of (by kernel_rfl) h
theorem Qwj (a:List Qe) (k:Int):TCon Tryz.prog 182 [(.ow 0 Qu dw a),(.c TI k)] (Y5 (Qm (α:=List Qe) a k)):=by
 refine Qk rfl fun hb=>tcg (Γ:=QeG) (n:=27) (sg:=Qg9.sg) Ql (TOkL.cons QaR TOkL.nil) (by kernel_rfl) (by kernel_rfl) (QuO _ a k ?_)
 have hl_a:a.length≤9223372036854775807:=hb.1.1
 refine YA (A:=fun kk ii ll=>Qee (fun r'=>r'=Y5 (Qm (α:=List Qe) a k)) a kk ii ll) (Q:=fun z=>Y5 z=Y5 (Qm (α:=List Qe) a k)) a k ?_ ?_ rfl
 ·intro kk pre post x hl hA
  have hlt:pre.length<a.length:=by omega
  have hw:w64 (((pre.length:Nat):Int)+1)=((pre.length+1:Nat):Int):=by rw [Qw (by omega) (by omega)];omega
  refine QnR (fun r'=>r'=Y5 (Qm (α:=List Qe) a k)) a kk ((pre.length:Nat):Int) (pre++x::post) ?_
  refine ⟨fun _=>?_,fun h=>absurd h (by simp;omega)⟩
  simp only [Int.toNat_natCast,Nat.zero_add,Y0,YQ,ZZ,YK,hw,lt_f,hlt,Yo,and_true,true_and,Int.natCast_nonneg]
  exact hA
 ·intro kk l hl hq
  refine QnR (fun r'=>r'=Y5 (Qm (α:=List Qe) a k)) a kk ((a.length:Nat):Int) l ?_
  exact ⟨fun h=>absurd h (by simp),fun _=>hq⟩
theorem Qyr:Qj Tryz.prog Qg9:=Qn fun x _=>Qwj x.1 x.2.1
def JG (t:Int × (List TOp')):TRes:=⟨(zci t.1),[],[],true,[(.sl 0 ctOp (.dp 0 false []) t.2)]⟩
def Qg2:TRow:=Qi 80 [(.d ctOp),(.c TI)] fun x=>(none,JG (Qm (α:=List TOp') x.1 x.2.1))
def QdJ:TTab:=⟨[Ja],true⟩
def QqP:TCode :=
 (zsq [(zsq [(.reg [zmv 6 5,zmv 7 0,zle 8 7,zbi 9 .lss 6 8]),(.cond 9 .skip (.exit 0))]),(.block 1 (zsq [(.reg [zmv 12 0,zmv 13 5,zmv 14 1,zia 15 12 13 ctOp,zfa 16 15 0,zst 16 14 1]),(.reg [zmv 17 1,zbi 18 .add 17 (zki 1),zmv 1 18]),(.reg [zmv 19 0,zmv 20 5,zmv 21 1,zia 22 19 20 ctOp,zfa 23 22 1,zst 23 21 1]),(.reg [zmv 24 1,zbi 25 .add 24 (zki 1),zmv 1 25]),(.reg [zmv 26 0,zmv 27 5,zmv 28 1,zia 29 26 27 ctOp,zfa 30 29 2,zst 30 28 1]),(.reg [zmv 31 1,zbi 32 .add 31 (zki 1),zmv 1 32]),(.reg [zmv 33 0,zmv 34 5,zia 35 33 34 ctOp,zfa 36 35 3,zld 37 36 1,zmv 38 1,zca 39 26 [37,38],zmv 1 39])])),(.reg [zmv 10 5,zbi 11 .add 10 (zki 1),zmv 5 11])])
def QiU:List (Nat × Md):=[(0,.one .f),(1,.one .d),(5,.one .d)]
def Qot:TCode :=
 (zsq [(.reg [zmv 40 1,zmv 4 40]),.ret])
def QDF:TCode :=
 (zsq [(.reg [zmv 4 (zki 0)]),(zsq [(.reg [zmv 5 (zki 0)]),(.block 0 (.loop QiU QqP))]),Qot])
def QqL:List (ARv × Md):=[(.t 4,.one .d)]
def Qr1:Qb:=TQ 0 1 QqL K
def Qvv:Qb:=Qseq (tawp QdJ 1 Qot (Qr1 K)) (Qr1 K)
def QCK:Qb:=Qblk 0 (Qvv K)
def Qdz (a:List TOp') (k1:Int) (i:Int) (a1:List TOp'):Prop:=Loop QdJ 1 QiU QqP (QCK K) ⟨[(0,(.r ctOp 0 0 a.length)),(1,(zci k1)),(5,(zci i))],[(0,(.sl 0 ctOp (.dp 0 false []) a1))],1⟩
theorem Qkx (a:List TOp') (k1:Int) (i:Int) (a1:List TOp') (h :
 let z2:=sst dOp (0+(Int.toNat i)) (fun e_ k_=>(k_,e_.2.1,e_.2.2.1,e_.2.2.2)) (k1,a1)
 let z4:=sst dOp (0+(Int.toNat i)) (fun e_ k_=>(e_.1,k_,e_.2.2.1,e_.2.2.2)) z2
 let z1:=sst dOp (0+(Int.toNat i)) (fun e_ k_=>(e_.1,e_.2.1,k_,e_.2.2.2)) z4
 let z3:=nst dOp (0+(Int.toNat i)) (fun e_=>e_.2.2.2) (fun e_ y_=>(e_.1,e_.2.1,e_.2.2.1,y_)) (Qm (α:=List Int)) z1
 (zif (decide (i<((a.length:Nat):Int))) ((((0:Int)≤i∧Int.toNat i<a.length)∧((0+(Int.toNat i))<a1.length))∧((((0:Int)≤i∧Int.toNat i<a.length)∧((0+(Int.toNat i))<(z2.2).length))∧((((0:Int)≤i∧Int.toNat i<a.length)∧((0+(Int.toNat i))<(z4.2).length))∧((((0:Int)≤i∧Int.toNat i<a.length)∧(((0+(Int.toNat i))<(z1.2).length)∧((0+(Int.toNat i))<(z1.2).length)))∧(Qdz K a (z3.1) (w64 (i+(1:Int))) (z3.2)))))) (K (JG (k1,a1))))):Qdz K a k1 i a1 :=
 Loop.of (by kernel_rfl) h
theorem QxL (a:List TOp') (k:Int) (h :
 (Qdz K a k 0 a)):Hold (tawp QdJ (0+1) QDF (TQ 0 1 QqL K) (Qg [(.ow 0 ctOp dw a),(.c TI k)])) :=
 Hold.of (by kernel_rfl) h
theorem QBY (a:List TOp') (k:Int):TCon Tryz.prog 80 [(.ow 0 ctOp dw a),(.c TI k)] (JG (Qm (α:=List TOp') a k)):=by
 refine Qk rfl fun hb=>tcg (Γ:=QdJ) (n:=41) (sg:=Qg2.sg) Ql (TOkL.cons QaR TOkL.nil) (by kernel_rfl) (by kernel_rfl) (QxL _ a k ?_)
 have hl_a:a.length≤9223372036854775807:=hb.1.1
 refine YA (A:=fun kk ii ll=>Qdz (fun r'=>r'=JG (Qm (α:=List TOp') a k)) a kk ii ll) (Q:=fun z=>JG z=JG (Qm (α:=List TOp') a k)) a k ?_ ?_ rfl
 ·intro kk pre post x hl hA
  have hlt:pre.length<a.length:=by omega
  have hw:w64 (((pre.length:Nat):Int)+1)=((pre.length+1:Nat):Int):=by rw [Qw (by omega) (by omega)];omega
  refine Qkx (fun r'=>r'=JG (Qm (α:=List TOp') a k)) a kk ((pre.length:Nat):Int) (pre++x::post) ?_
  conv=>zeta
  refine ⟨fun _=>?_,fun h=>absurd h (by simp;omega)⟩
  simp only [Int.toNat_natCast,Nat.zero_add,Y0,YQ,ZZ,YK,hw,lt_f,hlt,Yo,and_true,true_and,Int.natCast_nonneg]
  exact hA
 ·intro kk l hl hq
  refine Qkx (fun r'=>r'=JG (Qm (α:=List TOp') a k)) a kk ((a.length:Nat):Int) l ?_
  conv=>zeta
  exact ⟨fun h=>absurd h (by simp),fun _=>hq⟩
theorem QFH:Qj Tryz.prog Qg2:=Qn fun x _=>QBY x.1 x.2.1
def JF (t:Int × (List Qh)):TRes:=⟨(zci t.1),[],[],true,[(.sl 0 QA (.dp 0 false []) t.2)]⟩
def Qii:TRow:=Qi 42 [(.d QA),(.c TI)] fun x=>(none,JF (Qm (α:=List Qh) x.1 x.2.1))
def QdB:TTab:=⟨[Ja],true⟩
def Qlc:TCode :=
 (zsq [(zsq [(.reg [zmv 6 5,zmv 7 0,zle 8 7,zbi 9 .lss 6 8]),(.cond 9 .skip (.exit 0))]),(.block 1 (zsq [(.reg [zmv 12 0,zmv 13 5,zia 14 12 13 QA,zfa 15 14 0,zld 16 15 1,zmv 17 1,zca 18 26 [16,17],zmv 1 18]),(.reg [zmv 19 0,zmv 20 5,zia 21 19 20 QA,zfa 22 21 1,zld 23 22 1,zmv 24 1,zca 25 26 [23,24],zmv 1 25])])),(.reg [zmv 10 5,zbi 11 .add 10 (zki 1),zmv 5 11])])
def Qpe:List (Nat × Md):=[(0,.one .f),(1,.one .d),(5,.one .d)]
def QjB:TCode :=
 (zsq [(.reg [zmv 26 1,zmv 4 26]),.ret])
def QAG:TCode :=
 (zsq [(.reg [zmv 4 (zki 0)]),(zsq [(.reg [zmv 5 (zki 0)]),(.block 0 (.loop Qpe Qlc))]),QjB])
def Qj2:List (ARv × Md):=[(.t 4,.one .d)]
def QlB:Qb:=TQ 0 1 Qj2 K
def Qyf:Qb:=Qseq (tawp QdB 1 QjB (QlB K)) (QlB K)
def Qtg:Qb:=Qblk 0 (Qyf K)
def Qeb (a:List Qh) (k1:Int) (i:Int) (a1:List Qh):Prop:=Loop QdB 1 Qpe Qlc (Qtg K) ⟨[(0,(.r QA 0 0 a.length)),(1,(zci k1)),(5,(zci i))],[(0,(.sl 0 QA (.dp 0 false []) a1))],1⟩
theorem QqA (a:List Qh) (k1:Int) (i:Int) (a1:List Qh) (h :
 (zif (decide (i<((a.length:Nat):Int))) ((((0:Int)≤i∧Int.toNat i<a.length)∧(((0+(Int.toNat i))<a1.length)∧((0+(Int.toNat i))<a1.length)))∧((((0:Int)≤i∧Int.toNat i<a.length)∧(((0+(Int.toNat i))<((nst QZ (0+(Int.toNat i)) (fun e_=>e_.1) (fun e_ y_=>(y_,e_.2)) (Qm (α:=List Int)) (k1,a1)).2).length)∧((0+(Int.toNat i))<((nst QZ (0+(Int.toNat i)) (fun e_=>e_.1) (fun e_ y_=>(y_,e_.2)) (Qm (α:=List Int)) (k1,a1)).2).length)))∧(Qeb K a ((nst QZ (0+(Int.toNat i)) (fun e_=>e_.2) (fun e_ y_=>(e_.1,y_)) (Qm (α:=List Int)) (nst QZ (0+(Int.toNat i)) (fun e_=>e_.1) (fun e_ y_=>(y_,e_.2)) (Qm (α:=List Int)) (k1,a1))).1) (w64 (i+(1:Int))) ((nst QZ (0+(Int.toNat i)) (fun e_=>e_.2) (fun e_ y_=>(e_.1,y_)) (Qm (α:=List Int)) (nst QZ (0+(Int.toNat i)) (fun e_=>e_.1) (fun e_ y_=>(y_,e_.2)) (Qm (α:=List Int)) (k1,a1))).2)))) (K (JF (k1,a1))))):Qeb K a k1 i a1 :=
 Loop.of (by kernel_rfl) h
theorem QxY (a:List Qh) (k:Int) (h :
 (Qeb K a k 0 a)):Hold (tawp QdB (0+1) QAG (TQ 0 1 Qj2 K) (Qg [(.ow 0 QA dw a),(.c TI k)])) :=
 Hold.of (by kernel_rfl) h
theorem QvX (a:List Qh) (k:Int):TCon Tryz.prog 42 [(.ow 0 QA dw a),(.c TI k)] (JF (Qm (α:=List Qh) a k)):=by
 refine Qk rfl fun hb=>tcg (Γ:=QdB) (n:=27) (sg:=Qii.sg) Ql (TOkL.cons QaR TOkL.nil) (by kernel_rfl) (by kernel_rfl) (QxY _ a k ?_)
 have hl_a:a.length≤9223372036854775807:=hb.1.1
 refine YA (A:=fun kk ii ll=>Qeb (fun r'=>r'=JF (Qm (α:=List Qh) a k)) a kk ii ll) (Q:=fun z=>JF z=JF (Qm (α:=List Qh) a k)) a k ?_ ?_ rfl
 ·intro kk pre post x hl hA
  have hlt:pre.length<a.length:=by omega
  have hw:w64 (((pre.length:Nat):Int)+1)=((pre.length+1:Nat):Int):=by rw [Qw (by omega) (by omega)];omega
  refine QqA (fun r'=>r'=JF (Qm (α:=List Qh) a k)) a kk ((pre.length:Nat):Int) (pre++x::post) ?_
  refine ⟨fun _=>?_,fun h=>absurd h (by simp;omega)⟩
  simp only [Int.toNat_natCast,Nat.zero_add,Y0,YQ,ZZ,YK,hw,lt_f,hlt,Yo,and_true,true_and,Int.natCast_nonneg]
  exact hA
 ·intro kk l hl hq
  refine QqA (fun r'=>r'=JF (Qm (α:=List Qh) a k)) a kk ((a.length:Nat):Int) l ?_
  exact ⟨fun h=>absurd h (by simp),fun _=>hq⟩
theorem QBM:Qj Tryz.prog Qii:=Qn fun x _=>QvX x.1 x.2.1
def Jx (t:Int × (List Qr)):TRes:=⟨(zci t.1),[],[],true,[(.sl 0 QB (.dp 0 false []) t.2)]⟩
def Qgo:TRow:=Qi 81 [(.d QB),(.c TI)] fun x=>(none,Jx (Qm (α:=List Qr) x.1 x.2.1))
def QeR:TTab:=⟨[QeJ],true⟩
def Qjv:TCode :=
 (zsq [(zsq [(.reg [zmv 6 5,zmv 7 0,zle 8 7,zbi 9 .lss 6 8]),(.cond 9 .skip (.exit 0))]),(.block 1 (zsq [(.reg [zmv 12 0,zmv 13 5,zmv 14 1,zia 15 12 13 QB,zfa 16 15 0,zst 16 14 1]),(.reg [zmv 17 1,zbi 18 .add 17 (zki 1),zmv 1 18]),(.reg [zmv 19 0,zmv 20 5,zia 21 19 20 QB,zfa 22 21 1,zld 23 22 1,zmv 24 1,zca 25 82 [23,24],zmv 1 25])])),(.reg [zmv 10 5,zbi 11 .add 10 (zki 1),zmv 5 11])])
def Qk2:List (Nat × Md):=[(0,.one .f),(1,.one .d),(5,.one .d)]
def Qkb:TCode :=
 (zsq [(.reg [zmv 26 1,zmv 4 26]),.ret])
def QwI:TCode :=
 (zsq [(.reg [zmv 4 (zki 0)]),(zsq [(.reg [zmv 5 (zki 0)]),(.block 0 (.loop Qk2 Qjv))]),Qkb])
def Qnv:List (ARv × Md):=[(.t 4,.one .d)]
def Qp1:Qb:=TQ 0 1 Qnv K
def QCn:Qb:=Qseq (tawp QeR 1 Qkb (Qp1 K)) (Qp1 K)
def QAX:Qb:=Qblk 0 (QCn K)
def Qdr (a:List Qr) (k1:Int) (i:Int) (a1:List Qr):Prop:=Loop QeR 1 Qk2 Qjv (QAX K) ⟨[(0,(.r QB 0 0 a.length)),(1,(zci k1)),(5,(zci i))],[(0,(.sl 0 QB (.dp 0 false []) a1))],1⟩
theorem QpL (a:List Qr) (k1:Int) (i:Int) (a1:List Qr) (h :
 (zif (decide (i<((a.length:Nat):Int))) ((((0:Int)≤i∧Int.toNat i<a.length)∧((0+(Int.toNat i))<a1.length))∧((((0:Int)≤i∧Int.toNat i<a.length)∧(((0+(Int.toNat i))<((sst QV (0+(Int.toNat i)) (fun e_ k_=>(k_,e_.2)) (k1,a1)).2).length)∧((0+(Int.toNat i))<((sst QV (0+(Int.toNat i)) (fun e_ k_=>(k_,e_.2)) (k1,a1)).2).length)))∧(Qdr K a ((nst QV (0+(Int.toNat i)) (fun e_=>e_.2) (fun e_ y_=>(e_.1,y_)) (Qm (α:=List (List Int))) (sst QV (0+(Int.toNat i)) (fun e_ k_=>(k_,e_.2)) (k1,a1))).1) (w64 (i+(1:Int))) ((nst QV (0+(Int.toNat i)) (fun e_=>e_.2) (fun e_ y_=>(e_.1,y_)) (Qm (α:=List (List Int))) (sst QV (0+(Int.toNat i)) (fun e_ k_=>(k_,e_.2)) (k1,a1))).2)))) (K (Jx (k1,a1))))):Qdr K a k1 i a1 :=
 Loop.of (by kernel_rfl) h
theorem Qs5 (a:List Qr) (k:Int) (h :
 (Qdr K a k 0 a)):Hold (tawp QeR (0+1) QwI (TQ 0 1 Qnv K) (Qg [(.ow 0 QB dw a),(.c TI k)])) :=
 Hold.of (by kernel_rfl) h
theorem QtZ (a:List Qr) (k:Int):TCon Tryz.prog 81 [(.ow 0 QB dw a),(.c TI k)] (Jx (Qm (α:=List Qr) a k)):=by
 refine Qk rfl fun hb=>tcg (Γ:=QeR) (n:=27) (sg:=Qgo.sg) Ql (TOkL.cons QpC TOkL.nil) (by kernel_rfl) (by kernel_rfl) (Qs5 _ a k ?_)
 have hl_a:a.length≤9223372036854775807:=hb.1.1
 refine YA (A:=fun kk ii ll=>Qdr (fun r'=>r'=Jx (Qm (α:=List Qr) a k)) a kk ii ll) (Q:=fun z=>Jx z=Jx (Qm (α:=List Qr) a k)) a k ?_ ?_ rfl
 ·intro kk pre post x hl hA
  have hlt:pre.length<a.length:=by omega
  have hw:w64 (((pre.length:Nat):Int)+1)=((pre.length+1:Nat):Int):=by rw [Qw (by omega) (by omega)];omega
  refine QpL (fun r'=>r'=Jx (Qm (α:=List Qr) a k)) a kk ((pre.length:Nat):Int) (pre++x::post) ?_
  refine ⟨fun _=>?_,fun h=>absurd h (by simp;omega)⟩
  simp only [Int.toNat_natCast,Nat.zero_add,Y0,YQ,ZZ,YK,hw,lt_f,hlt,Yo,and_true,true_and,Int.natCast_nonneg]
  exact hA
 ·intro kk l hl hq
  refine QpL (fun r'=>r'=Jx (Qm (α:=List Qr) a k)) a kk ((a.length:Nat):Int) l ?_
  exact ⟨fun h=>absurd h (by simp),fun _=>hq⟩
theorem Qsw:Qj Tryz.prog Qgo:=Qn fun x _=>QtZ x.1 x.2.1
end
end Go.Proofs.YtdplaepmjogjjaaGreat.Am

