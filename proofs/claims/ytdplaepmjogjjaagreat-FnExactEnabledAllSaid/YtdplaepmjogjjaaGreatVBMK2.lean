/- -/
import Derived.Test.YtdplaepmjogjjaaGreatVBMK1
import Derived.Test.YtdplaepmjogjjaaGreatVBGF
namespace Go.Proofs.YtdplaepmjogjjaaGreat.Am
open Go Go.RowKit Go.Proofs.YtdplaepmjogjjaaGreat
set_option linter.all false
noncomputable section
variable (K:TRes→Prop)
def Jz (t:Int × (List Qf)):TRes:=⟨(zci t.1),[],[],true,[(.sl 0 Qt (.dp 0 false []) t.2)]⟩
def QiI:TRow:=Qi 96 [(.d Qt),(.c TI)] fun x=>(none,Jz (Qm (α:=List Qf) x.1 x.2.1))
def Qd9:TTab:=⟨[Qg9],true⟩
def Qrn:TCode :=
 (zsq [(zsq [(.reg [zmv 6 5,zmv 7 0,zle 8 7,zbi 9 .lss 6 8]),(.cond 9 .skip (.exit 0))]),(.block 1 (zsq [(.reg [zmv 12 0,zmv 13 5,zmv 14 1,zia 15 12 13 Qt,zfa 16 15 0,zst 16 14 1]),(.reg [zmv 17 1,zbi 18 .add 17 (zki 1),zmv 1 18]),(.reg [zmv 19 0,zmv 20 5,zia 21 19 20 Qt,zfa 22 21 1,zld 23 22 1,zmv 24 1,zca 25 182 [23,24],zmv 1 25])])),(.reg [zmv 10 5,zbi 11 .add 10 (zki 1),zmv 5 11])])
def Qo4:List (Nat × Md):=[(0,.one .f),(1,.one .d),(5,.one .d)]
def Qn9:TCode :=
 (zsq [(.reg [zmv 26 1,zmv 4 26]),.ret])
def QCY:TCode :=
 (zsq [(.reg [zmv 4 (zki 0)]),(zsq [(.reg [zmv 5 (zki 0)]),(.block 0 (.loop Qo4 Qrn))]),Qn9])
def QpG:List (ARv × Md):=[(.t 4,.one .d)]
def Qox:Qb:=TQ 0 1 QpG K
def QBG:Qb:=Qseq (tawp Qd9 1 Qn9 (Qox K)) (Qox K)
def QA5:Qb:=Qblk 0 (QBG K)
def Qc5 (a:List Qf) (k1:Int) (i:Int) (a1:List Qf):Prop:=Loop Qd9 1 Qo4 Qrn (QA5 K) ⟨[(0,(.r Qt 0 0 a.length)),(1,(zci k1)),(5,(zci i))],[(0,(.sl 0 Qt (.dp 0 false []) a1))],1⟩
theorem QlS (a:List Qf) (k1:Int) (i:Int) (a1:List Qf) (h :
 (zif (decide (i<((a.length:Nat):Int))) ((((0:Int)≤i∧Int.toNat i<a.length)∧((0+(Int.toNat i))<a1.length))∧((((0:Int)≤i∧Int.toNat i<a.length)∧(((0+(Int.toNat i))<((sst QC (0+(Int.toNat i)) (fun e_ k_=>(k_,e_.2)) (k1,a1)).2).length)∧((0+(Int.toNat i))<((sst QC (0+(Int.toNat i)) (fun e_ k_=>(k_,e_.2)) (k1,a1)).2).length)))∧(Qc5 K a ((nst QC (0+(Int.toNat i)) (fun e_=>e_.2) (fun e_ y_=>(e_.1,y_)) (Qm (α:=List Qe)) (sst QC (0+(Int.toNat i)) (fun e_ k_=>(k_,e_.2)) (k1,a1))).1) (w64 (i+(1:Int))) ((nst QC (0+(Int.toNat i)) (fun e_=>e_.2) (fun e_ y_=>(e_.1,y_)) (Qm (α:=List Qe)) (sst QC (0+(Int.toNat i)) (fun e_ k_=>(k_,e_.2)) (k1,a1))).2)))) (K (Jz (k1,a1))))):Qc5 K a k1 i a1 :=
 Loop.of (by kernel_rfl) h
theorem QFK (a:List Qf) (k:Int) (h :
 (Qc5 K a k 0 a)):Hold (tawp Qd9 (0+1) QCY (TQ 0 1 QpG K) (Qg [(.ow 0 Qt dw a),(.c TI k)])) :=
 Hold.of (by kernel_rfl) h
theorem Qtv (a:List Qf) (k:Int):TCon Tryz.prog 96 [(.ow 0 Qt dw a),(.c TI k)] (Jz (Qm (α:=List Qf) a k)):=by
 refine Qk rfl fun hb=>tcg (Γ:=Qd9) (n:=27) (sg:=QiI.sg) Ql (TOkL.cons Qyr TOkL.nil) (by kernel_rfl) (by kernel_rfl) (QFK _ a k ?_)
 have hl_a:a.length≤9223372036854775807:=hb.1.1
 refine YA (A:=fun kk ii ll=>Qc5 (fun r'=>r'=Jz (Qm (α:=List Qf) a k)) a kk ii ll) (Q:=fun z=>Jz z=Jz (Qm (α:=List Qf) a k)) a k ?_ ?_ rfl
 ·intro kk pre post x hl hA
  have hlt:pre.length<a.length:=by omega
  have hw:w64 (((pre.length:Nat):Int)+1)=((pre.length+1:Nat):Int):=by rw [Qw (by omega) (by omega)];omega
  refine QlS (fun r'=>r'=Jz (Qm (α:=List Qf) a k)) a kk ((pre.length:Nat):Int) (pre++x::post) ?_
  refine ⟨fun _=>?_,fun h=>absurd h (by simp;omega)⟩
  simp only [Int.toNat_natCast,Nat.zero_add,Y0,YQ,ZZ,YK,hw,lt_f,hlt,Yo,and_true,true_and,Int.natCast_nonneg]
  exact hA
 ·intro kk l hl hq
  refine QlS (fun r'=>r'=Jz (Qm (α:=List Qf) a k)) a kk ((a.length:Nat):Int) l ?_
  exact ⟨fun h=>absurd h (by simp),fun _=>hq⟩
theorem QD3:Qj Tryz.prog QiI:=Qn fun x _=>Qtv x.1 x.2.1
end
end Go.Proofs.YtdplaepmjogjjaaGreat.Am

