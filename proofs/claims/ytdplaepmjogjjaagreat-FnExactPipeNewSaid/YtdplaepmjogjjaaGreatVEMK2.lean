/- -/
import Derived.Test.YtdplaepmjogjjaaGreatVEMK1
import Derived.Test.YtdplaepmjogjjaaGreatVEGF
namespace Go.Proofs.YtdplaepmjogjjaaGreat.Am
open Go Go.RowKit Go.Proofs.YtdplaepmjogjjaaGreat
set_option linter.all false
noncomputable section
variable (K:TRes→Prop)
def QgE (t:Int × (List TOp')):TRes:=⟨(zci t.1),[],[],true,[(.sl 0 ctOp (.dp 0 false []) t.2)]⟩
def QjN:TRow:=Qg 134 [(.s [(.sl ctOp)]),(.c TI)] fun x=>(none,QgE (QX (α:=List TOp') x.1 x.2.1))
def Qu5:TTab:=⟨[Qf3],true⟩
def Qxq:TCode :=
 (zsq [(.reg [zop 2 (.box 77 0 1),zmv 4 (zki 0)]),(.reg [zfa 5 2 0,zld 6 5 1,zmv 7 1,zca 8 80 [6,7],zmv 1 8]),(.reg [zmv 9 1,zmv 4 9]),.ret])
def QAH:List (ARv × Md):=[(.t 4,.one .d)]
theorem QI0 (a:List TOp') (k:Int) (h :
 ((a.length=a.length)∧K (QgE ((Qn (α:=List TOp') a k).1,(Qn (α:=List TOp') a k).2)))):Hold (tawp Qu5 (0+1) Qxq (TQ 0 1 QAH K) (Qe [(.a [(.ow 0 ctOp dw a)]),(.c TI k)])) :=
 Hold.of (by kernel_rfl) h
theorem QHT (a:List TOp') (k:Int):TCon Tryz.prog 134 [(.a [(.ow 0 ctOp dw a)]),(.c TI k)] (QgE (QX (α:=List TOp') a k)):=by
 refine Ql rfl fun hb=>tcg (Γ:=Qu5) (n:=10) (sg:=QjN.sg) Qk (TOkL.cons Qof TOkL.nil) (by kernel_rfl) (by kernel_rfl) (QI0 _ a k ?_)
 have hl_a_0:(a).length≤9223372036854775807:=hb.1.1.1
 repeat' apply And.intro
 all_goals first | rfl | exact R_eq rfl
theorem Qu9:Qi Tryz.prog QjN:=Qm fun x _=>QHT x.1 x.2.1
def JL (t:Int × (List Qp)):TRes:=⟨(zci t.1),[],[],true,[(.sl 0 Qw (.dp 0 false []) t.2)]⟩
def Qjw:TRow:=Qg 96 [(.d Qw),(.c TI)] fun x=>(none,JL (Qn (α:=List Qp) x.1 x.2.1))
def QfC:TTab:=⟨[Qkp],true⟩
def Qm0:TCode :=
 (zsq [(zsq [(.reg [zmv 6 5,zmv 7 0,zle 8 7,zbi 9 .lss 6 8]),(.cond 9 .skip (.exit 0))]),(.block 1 (zsq [(.reg [zmv 12 0,zmv 13 5,zmv 14 1,zia 15 12 13 Qw,zfa 16 15 0,zst 16 14 1]),(.reg [zmv 17 1,zbi 18 .add 17 (zki 1),zmv 1 18]),(.reg [zmv 19 0,zmv 20 5,zia 21 19 20 Qw,zfa 22 21 1,zld 23 22 1,zmv 24 1,zca 25 182 [23,24],zmv 1 25])])),(.reg [zmv 10 5,zbi 11 .add 10 (zki 1),zmv 5 11])])
def Qtu:List (Nat × Md):=[(0,.one .f),(1,.one .d),(5,.one .d)]
def Qqi:TCode :=
 (zsq [(.reg [zmv 26 1,zmv 4 26]),.ret])
def QzR:TCode :=
 (zsq [(.reg [zmv 4 (zki 0)]),(zsq [(.reg [zmv 5 (zki 0)]),(.block 0 (.loop Qtu Qm0))]),Qqi])
def QoW:List (ARv × Md):=[(.t 4,.one .d)]
def Qlp:Qb:=TQ 0 1 QoW K
def QCe:Qb:=Qseq (tawp QfC 1 Qqi (Qlp K)) (Qlp K)
def Qu7:Qb:=Qblk 0 (QCe K)
def Qgw (a:List Qp) (k1:Int) (i:Int) (a1:List Qp):Prop:=Loop QfC 1 Qtu Qm0 (Qu7 K) ⟨[(0,(.r Qw 0 0 a.length)),(1,(zci k1)),(5,(zci i))],[(0,(.sl 0 Qw (.dp 0 false []) a1))],1⟩
theorem Qpy (a:List Qp) (k1:Int) (i:Int) (a1:List Qp) (h :
 (zif (decide (i<((a.length:Nat):Int))) ((((0:Int)≤i∧Int.toNat i<a.length)∧((0+(Int.toNat i))<a1.length))∧((((0:Int)≤i∧Int.toNat i<a.length)∧(((0+(Int.toNat i))<((sst Z7 (0+(Int.toNat i)) (fun e_ k_=>(k_,e_.2)) (k1,a1)).2).length)∧((0+(Int.toNat i))<((sst Z7 (0+(Int.toNat i)) (fun e_ k_=>(k_,e_.2)) (k1,a1)).2).length)))∧(Qgw K a ((nst Z7 (0+(Int.toNat i)) (fun e_=>e_.2) (fun e_ y_=>(e_.1,y_)) (Qn (α:=List Qy)) (sst Z7 (0+(Int.toNat i)) (fun e_ k_=>(k_,e_.2)) (k1,a1))).1) (w64 (i+(1:Int))) ((nst Z7 (0+(Int.toNat i)) (fun e_=>e_.2) (fun e_ y_=>(e_.1,y_)) (Qn (α:=List Qy)) (sst Z7 (0+(Int.toNat i)) (fun e_ k_=>(k_,e_.2)) (k1,a1))).2)))) (K (JL (k1,a1))))):Qgw K a k1 i a1 :=
 Loop.of (by kernel_rfl) h
theorem QB1 (a:List Qp) (k:Int) (h :
 (Qgw K a k 0 a)):Hold (tawp QfC (0+1) QzR (TQ 0 1 QoW K) (Qe [(.ow 0 Qw dw a),(.c TI k)])) :=
 Hold.of (by kernel_rfl) h
theorem QDm (a:List Qp) (k:Int):TCon Tryz.prog 96 [(.ow 0 Qw dw a),(.c TI k)] (JL (Qn (α:=List Qp) a k)):=by
 refine Ql rfl fun hb=>tcg (Γ:=QfC) (n:=27) (sg:=Qjw.sg) Qk (TOkL.cons QJp TOkL.nil) (by kernel_rfl) (by kernel_rfl) (QB1 _ a k ?_)
 have hl_a:a.length≤9223372036854775807:=hb.1.1
 refine YU (A:=fun kk ii ll=>Qgw (fun r'=>r'=JL (Qn (α:=List Qp) a k)) a kk ii ll) (Q:=fun z=>JL z=JL (Qn (α:=List Qp) a k)) a k ?_ ?_ rfl
 ·intro kk pre post x hl hA
  have hlt:pre.length<a.length:=by omega
  have hw:w64 (((pre.length:Nat):Int)+1)=((pre.length+1:Nat):Int):=by rw [Qx (by omega) (by omega)];omega
  refine Qpy (fun r'=>r'=JL (Qn (α:=List Qp) a k)) a kk ((pre.length:Nat):Int) (pre++x::post) ?_
  refine ⟨fun _=>?_,fun h=>absurd h (by simp;omega)⟩
  simp only [Int.toNat_natCast,Nat.zero_add,YL,YV,Zh,YD,hw,lt_f,hlt,Zu,and_true,true_and,Int.natCast_nonneg]
  exact hA
 ·intro kk l hl hq
  refine Qpy (fun r'=>r'=JL (Qn (α:=List Qp) a k)) a kk ((a.length:Nat):Int) l ?_
  exact ⟨fun h=>absurd h (by simp),fun _=>hq⟩
theorem QyP:Qi Tryz.prog Qjw:=Qm fun x _=>QDm x.1 x.2.1
def YQ (t:Int):TRes:=zre (zci t)
def Qij:TRow:=Qg 138 [(.c (.sl Qw)),(.c TI)] fun x=>(some (QD (α:=List Qp) x.1 x.2.1),YQ (m_held (α:=List Qp) x.1 x.2.1))
def QeC:TTab:=⟨[QiI],false⟩
def Qra:TCode :=
 (zsq [(zsq [(.reg [zmv 6 5,zmv 7 0,zle 8 7,zbi 9 .lss 6 8]),(.cond 9 .skip (.exit 0))]),(.block 1 (zsq [(zsq [(.reg [zmv 12 0,zmv 13 5,zia 14 12 13 Qw,zfa 15 14 0,zld 16 15 1,zmv 17 1,zbi 18 .neq 16 17]),(.cond 18 (zsq [(.reg [zmv 4 (zki (-1))]),.ret]) .skip)]),(.reg [zmv 19 1,zbi 20 .add 19 (zki 1),zmv 1 20]),(.reg [zmv 21 0,zmv 22 5,zia 23 21 22 Qw,zfa 24 23 1,zld 25 24 1,zmv 26 1,zca 27 214 [25,26],zmv 1 27]),(.reg [zmv 28 1,zbi 29 .lss 28 (zki 0)]),(.cond 29 (zsq [(.reg [zmv 4 (zki (-1))]),.ret]) .skip)])),(.reg [zmv 10 5,zbi 11 .add 10 (zki 1),zmv 5 11])])
def QkZ:List (Nat × Md):=zdl [0,1,5]
def Qse:TCode :=
 (zsq [(.reg [zmv 30 1,zmv 4 30]),.ret])
def QEM:TCode :=
 (zsq [(.reg [zmv 4 (zki 0)]),(zsq [(.reg [zmv 5 (zki 0)]),(.block 0 (.loop QkZ Qra))]),Qse])
def Qqm:List (ARv × Md):=[(.t 4,.one .d)]
def QsC:Qb:=TQ 0 0 Qqm K
def QAk:Qb:=Qseq (tawp QeC 0 Qse (QsC K)) (QsC K)
def QBm:Qb:=Qblk 0 (QAk K)
def QdJ (a:List Qp) (k1:Int) (i:Int):Prop:=Loop QeC 0 QkZ Qra (QBm K) ⟨[(0,(zcs Qw a)),(1,(zci k1)),(5,(zci i))],[],0⟩
theorem QoV (a:List Qp) (k1:Int) (i:Int) (h :
 (zif (decide (i<(a.length:Int))) (((0:Int)≤i∧Int.toNat i<a.length)∧(zif (((gtd Z7 a (Int.toNat i)).1) != k1) (K (YQ (-1:Int))) ((((0:Int)≤i∧Int.toNat i<a.length)∧(QD (α:=List Qy) ((gtd Z7 a (Int.toNat i)).2) (w64 (k1+(1:Int)))))∧(zif (decide ((m_held (α:=List Qy) ((gtd Z7 a (Int.toNat i)).2) (w64 (k1+(1:Int))))<(0:Int))) (K (YQ (-1:Int))) (QdJ K a (m_held (α:=List Qy) ((gtd Z7 a (Int.toNat i)).2) (w64 (k1+(1:Int)))) (w64 (i+(1:Int)))))))) (K (YQ k1)))):QdJ K a k1 i :=
 Loop.of (by kernel_rfl) h
theorem QBI (a:List Qp) (k:Int) (h :
 (QdJ K a k 0)):Hold (tawp QeC (0+0) QEM (TQ 0 0 Qqm K) (Qe [(.c (.sl Qw) a),(.c TI k)])) :=
 Hold.of (by kernel_rfl) h
theorem QFi (a:List Qp) (k:Int) (hp:QD (α:=List Qp) a k):TCon Tryz.prog 138 [(.c (.sl Qw) a),(.c TI k)] (YQ (m_held (α:=List Qp) a k)):=by
 refine Ql rfl fun hb=>tcg (Γ:=QeC) (n:=31) (sg:=Qij.sg) Qk (TOkL.cons QyR TOkL.nil) (by kernel_rfl) (by kernel_rfl) (QBI _ a k ?_)
 have hl_a:a.length≤9223372036854775807:=hb.1.1
 refine Ji (A:=fun kk ii=>QdJ (fun r'=>r'=YQ (m_held (α:=List Qp) a k)) a kk ii) (Q:=fun z=>YQ z=YQ (m_held (α:=List Qp) a k)) a k hp ?_ ?_ rfl
 ·intro kk pre post x ha hpx hneg hpos
  have hlt:pre.length<a.length:=by rw [ha];simp
  have hg:∀ d,gtd d a pre.length=x:=fun d=>by rw [ha];exact Zh d pre post x
  have hw:w64 (((pre.length:Nat):Int)+1)=((pre.length+1:Nat):Int):=by rw [Qx (by omega) (by omega)];omega
  refine QoV (fun r'=>r'=YQ (m_held (α:=List Qp) a k)) a kk ((pre.length:Nat):Int) ?_
  refine ⟨fun _=>?_,fun h=>absurd h (by simp;omega)⟩
  simp only [Int.toNat_natCast,hg,hw,hlt,Zu,and_true,true_and,Int.natCast_nonneg]
  have hp0:=(QH hpx).1
  have hq0:=(QH hpx).2
  simp only [JN,J4,JC,Prod.ext_iff] at hneg hpos hp0 hq0
  refine ⟨fun h=>hneg (fun e=>Z1 h (e.1).symm),fun h0=>?_⟩
  have e0:=(ZY h0).symm
  refine ⟨hq0,fun h=>hneg (fun e=>Zl hq0 (of_decide_eq_true h) (e.2)),fun h1=>?_⟩
  obtain ⟨e1,h1⟩:=Zn (of_decide_eq_false h1)
  rw [h1]
  exact hpos ⟨e0,e1⟩
 ·intro kk hq
  refine QoV (fun r'=>r'=YQ (m_held (α:=List Qp) a k)) a kk ((a.length:Nat):Int) ?_
  exact ⟨fun h=>absurd h (by simp),fun _=>hq⟩
theorem QE9:Qi Tryz.prog Qij:=Qm fun x h=>QFi x.1 x.2.1 h
end
end Go.Proofs.YtdplaepmjogjjaaGreat.Am

