/- -/
import Derived.Test.YtephkbajoofeoaaWFMK1
import Derived.Test.YtephkbajoofeoaaWFGF
namespace Go.Proofs.Ytephkbajoofeoaa.Am
open Go Go.RowKit Go.Proofs.Ytephkbajoofeoaa
set_option linter.all false
noncomputable section
variable (K:TRes→Prop)
def Qfe (t:Int × Qx):TRes:=⟨(zci t.1),[],[],true,[(.sl 0 [(.sl [TI])] (.dp 0 false []) t.2.1)]⟩
def QeC:TRow:=Ql 100 [(.s QM),(.c TI)] fun x=>(none,Qfe (QX (α:=Qx) x.1 x.2.1))
def Qij:TTab:=⟨[QbB],true⟩
def Qph:TCode :=
 (zsq [(.reg [zop 2 (.box 119 0 3),zmv 4 (zki 0)]),(.reg [zfa 5 2 0,zld 6 5 1,zmv 7 1,zca 8 161 [6,7],zmv 1 8]),(.reg [zmv 9 1,zmv 4 9]),.ret])
def Qv7:List (ARv × Md):=[(.t 4,.one .d)]
theorem QuI (a:Qx) (k:Int) (h :
 (((a.1).length=(a.1).length)∧K (Qfe ((Qi (α:=List (List Int)) a.1 k).1,((Qi (α:=List (List Int)) a.1 k).2,a.2.1,a.2.2))))):Hold (tawp Qij (0+1) Qph (TQ 0 1 Qv7 K) (Qk [(.a [(.ow 0 [(.sl [TI])] dw a.1),(.c TI a.2.1),(.c .bool a.2.2)]),(.c TI k)])) :=
 Hold.of (by kernel_rfl) h
theorem Qtb (a:Qx) (k:Int):TCon Try.prog 100 [(.a [(.ow 0 [(.sl [TI])] dw a.1),(.c TI a.2.1),(.c .bool a.2.2)]),(.c TI k)] (Qfe (QX (α:=Qx) a k)):=by
 refine Qp rfl fun hb=>tcg (Γ:=Qij) (n:=10) (sg:=QeC.sg) Qo (TOkL.cons Qgz TOkL.nil) (by kernel_rfl) (by kernel_rfl) (QuI _ a k ?_)
 have hl_a_0:(a.1).length≤9223372036854775807:=hb.1.1.1
 repeat' apply And.intro
 all_goals first | rfl | exact R_eq rfl
theorem Qyp:Qm Try.prog QeC:=Qr fun x _=>Qtb x.1 x.2.1
def Qdd (t:Int):TRes:=zre (zci t)
def Qgw:TRow:=Ql 101 [(.a QM),(.c TI)] fun x=>(some (ZG (α:=Qx) x.1 x.2.1),Qdd (m_heldS (α:=Qx) x.1 x.2.1))
def Qhp:TTab:=⟨[Qd1],false⟩
def Qo3:TCode :=
 (zsq [(.reg [zop 2 (.box 119 0 3),zmv 4 (zki 0)]),(.reg [zfa 5 2 0,zld 6 5 1,zmv 7 1,zca 8 164 [6,7],zmv 1 8]),(zsq [(.reg [zmv 9 1,zbi 10 .lss 9 (zki 0)]),(.cond 10 (zsq [(.reg [zmv 4 (zki (-1))]),.ret]) .skip)]),(.reg [zmv 11 1,zmv 4 11]),.ret])
def Quq:List (ARv × Md):=[(.t 4,.one .d)]
theorem QpG (a:Qx) (k:Int) (h :
 ((Zv (α:=List (List Int)) a.1 k)∧(zif (decide ((m_held (α:=List (List Int)) a.1 k)<(0:Int))) (K (Qdd (-1:Int))) (K (Qdd (m_held (α:=List (List Int)) a.1 k)))))):Hold (tawp Qhp (0+0) Qo3 (TQ 0 0 Quq K) (Qk [(.a (Tup.cells QM a)),(.c TI k)])) :=
 Hold.of (by kernel_rfl) h
theorem Qxj (a:Qx) (k:Int) (hp:ZG (α:=Qx) a k):TCon Try.prog 101 [(.a (Tup.cells QM a)),(.c TI k)] (Qdd (m_heldS (α:=Qx) a k)):=by
 refine Qp rfl fun hb=>tcg (Γ:=Qhp) (n:=12) (sg:=Qgw.sg) Qo (TOkL.cons Qvy TOkL.nil) (by kernel_rfl) (by kernel_rfl) (QpG _ a k ?_)
 have hl_a_0:(a.1).length≤9223372036854775807:=hb.1.1.1
 have hp0:=(Qc6 hp).1
 have hq0:=(Qc6 hp).2
 have hp1:=(Qc6 hq0).1
 have hq1:=(Qc6 hq0).2
 simp only [Qr4,Qpr,Qxw,QqL] at hp0 hq0 hp1 hq1
 refine ⟨(Qnw hp0),fun h=>R_eq (Qvf (fun e=>Qmc (Qnw hp0) (of_decide_eq_true h) (congrArg (fun z=>z.1) e))).symm,fun g0=>?_⟩
 obtain ⟨e0,h0⟩:=Qog (of_decide_eq_false g0)
 rw [h0]
 exact R_eq (QnF (x:=a) (k:=k) (Prod.ext e0 (Prod.ext rfl rfl))).symm
theorem Qyn:Qm Try.prog Qgw:=Qr fun x h=>Qxj x.1 x.2.1 h
def Y3 (t:Int × (List Qg)):TRes:=⟨(zci t.1),[],[],true,[(.sl 0 Qu (.dp 0 false []) t.2)]⟩
def Qd6:TRow:=Ql 176 [(.d Qu),(.c TI)] fun x=>(none,Y3 (Qi (α:=List Qg) x.1 x.2.1))
def Qdt:TTab:=⟨[Qgc],true⟩
def QnY:TCode :=
 (zsq [(zsq [(.reg [zmv 6 5,zmv 7 0,zle 8 7,zbi 9 .lss 6 8]),(.cond 9 .skip (.exit 0))]),(.block 1 (zsq [(.reg [zmv 12 0,zmv 13 5,zmv 14 1,zia 15 12 13 Qu,zfa 16 15 0,zst 16 14 1]),(.reg [zmv 17 1,zbi 18 .add 17 (zki 1),zmv 1 18]),(.reg [zmv 19 0,zmv 20 5,zia 21 19 20 Qu,zfa 22 21 1,zld 23 22 1,zmv 24 1,zca 25 129 [23,24],zmv 1 25])])),(.reg [zmv 10 5,zbi 11 .add 10 (zki 1),zmv 5 11])])
def QnA:List (Nat × Md):=[(0,.one .f),(1,.one .d),(5,.one .d)]
def QnS:TCode :=
 (zsq [(.reg [zmv 26 1,zmv 4 26]),.ret])
def Qp5:TCode :=
 (zsq [(.reg [zmv 4 (zki 0)]),(zsq [(.reg [zmv 5 (zki 0)]),(.block 0 (.loop QnA QnY))]),QnS])
def QkJ:List (ARv × Md):=[(.t 4,.one .d)]
def QmU:Qb:=TQ 0 1 QkJ K
def Qrs:Qb:=Qseq (tawp Qdt 1 QnS (QmU K)) (QmU K)
def Qyv:Qb:=Qblk 0 (Qrs K)
def Qc2 (a:List Qg) (k1:Int) (i:Int) (a1:List Qg):Prop:=Loop Qdt 1 QnA QnY (Qyv K) ⟨[(0,(.r Qu 0 0 a.length)),(1,(zci k1)),(5,(zci i))],[(0,(.sl 0 Qu (.dp 0 false []) a1))],1⟩
theorem Qko (a:List Qg) (k1:Int) (i:Int) (a1:List Qg) (h :
 (zif (decide (i<((a.length:Nat):Int))) ((((0:Int)≤i∧Int.toNat i<a.length)∧((0+(Int.toNat i))<a1.length))∧((((0:Int)≤i∧Int.toNat i<a.length)∧(((0+(Int.toNat i))<((sst Za (0+(Int.toNat i)) (fun e_ k_=>(k_,e_.2)) (k1,a1)).2).length)∧((0+(Int.toNat i))<((sst Za (0+(Int.toNat i)) (fun e_ k_=>(k_,e_.2)) (k1,a1)).2).length)))∧(Qc2 K a ((nst Za (0+(Int.toNat i)) (fun e_=>e_.2) (fun e_ y_=>(e_.1,y_)) (Qi (α:=List Qf)) (sst Za (0+(Int.toNat i)) (fun e_ k_=>(k_,e_.2)) (k1,a1))).1) (w64 (i+(1:Int))) ((nst Za (0+(Int.toNat i)) (fun e_=>e_.2) (fun e_ y_=>(e_.1,y_)) (Qi (α:=List Qf)) (sst Za (0+(Int.toNat i)) (fun e_ k_=>(k_,e_.2)) (k1,a1))).2)))) (K (Y3 (k1,a1))))):Qc2 K a k1 i a1 :=
 Loop.of (by kernel_rfl) h
theorem QwW (a:List Qg) (k:Int) (h :
 (Qc2 K a k 0 a)):Hold (tawp Qdt (0+1) Qp5 (TQ 0 1 QkJ K) (Qk [(.ow 0 Qu dw a),(.c TI k)])) :=
 Hold.of (by kernel_rfl) h
theorem QuX (a:List Qg) (k:Int):TCon Try.prog 176 [(.ow 0 Qu dw a),(.c TI k)] (Y3 (Qi (α:=List Qg) a k)):=by
 refine Qp rfl fun hb=>tcg (Γ:=Qdt) (n:=27) (sg:=Qd6.sg) Qo (TOkL.cons Qvc TOkL.nil) (by kernel_rfl) (by kernel_rfl) (QwW _ a k ?_)
 have hl_a:a.length≤9223372036854775807:=hb.1.1
 refine Yn (A:=fun kk ii ll=>Qc2 (fun r'=>r'=Y3 (Qi (α:=List Qg) a k)) a kk ii ll) (Q:=fun z=>Y3 z=Y3 (Qi (α:=List Qg) a k)) a k ?_ ?_ rfl
 ·intro kk pre post x hl hA
  have hlt:pre.length<a.length:=by omega
  have hw:w64 (((pre.length:Nat):Int)+1)=((pre.length+1:Nat):Int):=by rw [QN (by omega) (by omega)];omega
  refine Qko (fun r'=>r'=Y3 (Qi (α:=List Qg) a k)) a kk ((pre.length:Nat):Int) (pre++x::post) ?_
  refine ⟨fun _=>?_,fun h=>absurd h (by simp;omega)⟩
  simp only [Int.toNat_natCast,Nat.zero_add,Yb,Yz,Zw,Z8,hw,lt_f,hlt,ZK,and_true,true_and,Int.natCast_nonneg]
  exact hA
 ·intro kk l hl hq
  refine Qko (fun r'=>r'=Y3 (Qi (α:=List Qg) a k)) a kk ((a.length:Nat):Int) l ?_
  exact ⟨fun h=>absurd h (by simp),fun _=>hq⟩
theorem Qyf:Qm Try.prog Qd6:=Qr fun x _=>QuX x.1 x.2.1
end
end Go.Proofs.Ytephkbajoofeoaa.Am

