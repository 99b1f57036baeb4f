/- -/
import Derived.Test.YtdplaepmjogjjaaGreatVBP4
import Derived.Test.YtdplaepmjogjjaaGreatVBP1
import Derived.Test.YtdplaepmjogjjaaGreatVBG8
import Derived.Test.YtdplaepmjogjjaaGreatVBP8
import Derived.Test.YtdplaepmjogjjaaGreatVBGD
import Derived.Test.YtdplaepmjogjjaaGreatVBP2
import Derived.Test.YtdplaepmjogjjaaGreatVBPA
namespace Go.Proofs.YtdplaepmjogjjaaGreat.Am
open Go Go.RowKit Go.Proofs.YtdplaepmjogjjaaGreat
set_option linter.all false
set_option maxHeartbeats 2000000
noncomputable section
variable (K:TRes→Prop)
def JY (t:(List Int)):TRes:=⟨(.r [TI] 0 0 t.length),[(.sl 3 [TI] (.dp 0 true []) t)],[],false,[]⟩
def Qiy:TRow:=Qi 22 [(.a Qx)] fun x=>(some (Qaw (α:=Qp) x.1),JY (Zc x.1))
def Qd7:TTab:=⟨[Qh3],true⟩
def QoA:TCode :=
 (zsq [(.reg [zbi 10 .lss 9 8]),(.cond 10 .skip (.exit 0)),(.block 1 (zsq [(.reg [zmv 11 9,zmv 4 11]),(.reg [zLd 12 1 4,zmv 13 4,zca 14 92 [12,13]]),(.cond 14 (.reg [zmv 15 3,zmv 16 4,zop 17 (.bsl 3 [TI] [16]),zop 18 (.app 15 17 3 [TI]),zmv 3 18]) .skip)])),(.reg [zbi 19 .add 9 (zki 1),zmv 9 19])])
def Qpj:List (Nat × Md):=[(1,.b (zds 4)),(3,.one .f),(8,.one .d),(9,.one .d)]
def Qjm:TCode :=
 (zsq [(.reg [zmv 20 3,zmv 2 20]),.ret])
def QEQ:TCode :=
 (zsq [(.reg [zop 1 (.box 56 0 4),zmv 2 (.k (.n [TI]))]),(.reg [zop 5 (.bsl 3 [TI] []),zmv 3 5]),(zsq [(.reg [zfa 6 1 1,zld 7 6 1,zle 8 7,zmv 9 (zki 0)]),(.block 0 (.loop Qpj QoA))]),Qjm])
def Qqr:List (ARv × Md):=[(.t 2,.one (.p 3))]
def QmP:Qb:=TQ 0 0 Qqr K
def QuH:Qb:=Qseq (tawp Qd7 0 Qjm (QmP K)) (QmP K)
def QD1:Qb:=Qblk 0 (QuH K)
def Qa7 (p:Qp) (x:Int) (l:List Int):Prop:=Loop Qd7 0 Qpj QoA (QD1 K) ⟨[(1,(.p 0 0 0)),(3,(.r [TI] 1 0 l.length)),(8,(zci ((p.2.1).length:Int))),(9,(zci x))],[(0,(.box (Tup.cells Qx p))),(1,(.sl 3 [TI] (.dp 0 true []) l))],2⟩
theorem QkG (p:Qp) (x:Int) (l:List Int) (h :
 (zif (decide (x<((p.2.1).length:Int))) (zif (QO p x) (((l.length=l.length∨l.length+1≤l.length)∧l.length+1≤big)∧(Qa7 K p (w64 (x+(1:Int))) (List.take (l.length+1) ((List.take l.length l)++([x]))))) (Qa7 K p (w64 (x+(1:Int))) (List.take l.length l))) (K (JY (List.take l.length l))))):Qa7 K p x l :=
 Loop.of (by kernel_rfl) h
theorem Qvw (p:Qp) (h :
 (Qa7 K p 0 ([]:List Int))):Hold (tawp Qd7 (0+0) QEQ (TQ 0 0 Qqr K) (Qg [(.a (Tup.cells Qx p))])) :=
 Hold.of (by kernel_rfl) h
theorem Qwb (p:Qp) (hp:Qaw (α:=Qp) p):TCon Tryz.prog 22 [(.a (Tup.cells Qx p))] (JY (Zc p)):=by
 refine Qk rfl fun hb=>tcg (Γ:=Qd7) (n:=21) (sg:=Qiy.sg) Ql (TOkL.cons QuR TOkL.nil) (by kernel_rfl) (by kernel_rfl) (Qvw _ p ?_)
 have hl_p_0:(p.1).length≤9223372036854775807:=hb.1.1.1
 have hl_p_1:(p.2.1).length≤9223372036854775807:=hb.1.2.1.1
 have hl_p_2:(p.2.2.1).length≤9223372036854775807:=hb.1.2.2.1.1
 have hl_p_3:(p.2.2.2).length≤9223372036854775807:=hb.1.2.2.2.1.1
 have hp':Sz.sz p≤2147483648:=hp
 have hs:Sz.sz p=Sz.sz p.1+Sz.sz p.2.1+Sz.sz p.2.2.1+Sz.sz p.2.2.2:=Qgh p
 have hl:=QaW p.2.1
 have hlen:∀ k:Nat,(((List.range k).map fun k:Nat=>(k:Int)).filter fun s=>QO p s).length≤k:=fun k=>Nat.le_trans (List.length_filter_le _ _) (by simp)
 have hsn:∀ k:Nat,(((List.range (k+1)).map fun k:Nat=>(k:Int)).filter fun s=>QO p s)=(((List.range k).map fun k:Nat=>(k:Int)).filter fun s=>QO p s)++(if QO p (k:Int) then [(k:Int)] else []):=by
  intro k
  rw [List.range_succ,List.map_append,List.filter_append]
  congr 1
  cases he:QO p (k:Int) <;> simp [he]
 have key:Qa7 (fun r'=>r'=JY (Zc p)) p ((0:Nat):Int) (((List.range 0).map fun k:Nat=>(k:Int)).filter fun s=>QO p s):=by
  refine Qo1 p.2.1.length (fun k=>Qa7 (fun r'=>r'=JY (Zc p)) p (k:Int) (((List.range k).map fun k:Nat=>(k:Int)).filter fun s=>QO p s)) ?_ ?_
  ·refine QkG (fun r'=>r'=JY (Zc p)) p _ _ ⟨fun h=>by simp at h,fun _=>R_eq ?_⟩
   rw [List.take_length];rfl
  ·intro k hk ih
   have:=hlen k
   rw [hsn] at ih
   refine QkG (fun r'=>r'=JY (Zc p)) p _ _ ⟨fun _=>⟨fun he=>⟨room (by omega),?_⟩,fun he=>?_⟩,fun h=>by simp at h;omega⟩
   ·rw [Qq9,sc1 (by omega)]
    rw [if_pos he] at ih
    exact ih
   ·rw [List.take_length,sc1 (by omega)]
    rw [if_neg (by rw [he];simp),List.append_nil] at ih
    exact ih
 exact key
theorem QDI:Qj Tryz.prog Qiy:=Qn fun x h=>Qwb x.1 h
def JZ (t:(List Int)):TRes:=zra (zcs [TI] t)
def QeZ:TRow:=Qi 20 [(.a Qx)] fun x=>(some (Qaw (α:=Qp) x.1),JZ (Zc x.1))
def QcC:TTab:=⟨[QhL],false⟩
def Qnj:TCode :=
 (zsq [(zsq [(.reg [zmv 6 4,zfa 7 1 1,zld 8 7 1,zle 9 8,zbi 10 .lss 6 9]),(.cond 10 .skip (.exit 0))]),(.block 1 (zsq [(.reg [zLd 13 1 4,zmv 14 4,zca 15 89 [13,14]]),(.cond 15 (.reg [zmv 16 3,zmv 17 4,zop 18 (.bsl 3 [TI] [17]),zop 19 (.app 16 18 3 [TI]),zmv 3 19]) .skip)])),(.reg [zmv 11 4,zbi 12 .add 11 (zki 1),zmv 4 12])])
def QqK:List (Nat × Md):=[(1,.b (zds 4)),(3,.one .f),(4,.one .d)]
def QmX:TCode :=
 (zsq [(.reg [zmv 20 3,zmv 2 20]),.ret])
def QBd:TCode :=
 (zsq [(.reg [zop 1 (.box 56 0 4),zmv 2 (.k (.n [TI]))]),(.reg [zop 5 (.bsl 3 [TI] []),zmv 3 5]),(zsq [(.reg [zmv 4 (zki 0)]),(.block 0 (.loop QqK Qnj))]),QmX])
def Qp5:List (ARv × Md):=[(.t 2,.one .d)]
def Qom:Qb:=TQ 0 0 Qp5 K
def QB3:Qb:=Qseq (tawp QcC 0 QmX (Qom K)) (Qom K)
def Qtk:Qb:=Qblk 0 (QB3 K)
def QaY (p:Qp) (s:Int) (out:List Int):Prop:=Loop QcC 0 QqK Qnj (Qtk K) ⟨[(1,(.p 0 0 0)),(3,(.r [TI] 1 0 out.length)),(4,(zci s))],[(0,(.box (Tup.cells Qx p))),(1,(.sl 3 [TI] .ow out))],2⟩
theorem QmW (p:Qp) (s:Int) (out:List Int) (h :
 (zif (decide (s<((p.2.1).length:Int))) (zif (QO p s) (((out.length=out.length∨out.length+1≤out.length)∧out.length+1≤big)∧(QaY K p (w64 (s+(1:Int))) (List.take (out.length+1) ((List.take out.length out)++([s]))))) (QaY K p (w64 (s+(1:Int))) (List.take out.length out))) (K (JZ (List.take out.length (List.drop 0 out)))))):QaY K p s out :=
 Loop.of (by kernel_rfl) h
theorem Qyy (p:Qp) (h :
 (QaY K p 0 ([]:List Int))):Hold (tawp QcC (0+0) QBd (TQ 0 0 Qp5 K) (Qg [(.a (Tup.cells Qx p))])) :=
 Hold.of (by kernel_rfl) h
theorem QAQ (p:Qp) (hp:Qaw (α:=Qp) p):TCon Tryz.prog 20 [(.a (Tup.cells Qx p))] (JZ (Zc p)):=by
 refine Qk rfl fun hb=>tcg (Γ:=QcC) (n:=21) (sg:=QeZ.sg) Ql (TOkL.cons Qxv TOkL.nil) (by kernel_rfl) (by kernel_rfl) (Qyy _ p ?_)
 have hl_p_0:(p.1).length≤9223372036854775807:=hb.1.1.1
 have hl_p_1:(p.2.1).length≤9223372036854775807:=hb.1.2.1.1
 have hl_p_2:(p.2.2.1).length≤9223372036854775807:=hb.1.2.2.1.1
 have hl_p_3:(p.2.2.2).length≤9223372036854775807:=hb.1.2.2.2.1.1
 have hp':Sz.sz p≤2147483648:=hp
 have hs:Sz.sz p=Sz.sz p.1+Sz.sz p.2.1+Sz.sz p.2.2.1+Sz.sz p.2.2.2:=Qgh p
 have hl:=QaW p.2.1
 have hlen:∀ k:Nat,(((List.range k).map fun k:Nat=>(k:Int)).filter fun s=>QO p s).length≤k:=fun k=>Nat.le_trans (List.length_filter_le _ _) (by simp)
 have hsn:∀ k:Nat,(((List.range (k+1)).map fun k:Nat=>(k:Int)).filter fun s=>QO p s)=(((List.range k).map fun k:Nat=>(k:Int)).filter fun s=>QO p s)++(if QO p (k:Int) then [(k:Int)] else []):=by
  intro k
  rw [List.range_succ,List.map_append,List.filter_append]
  congr 1
  cases he:QO p (k:Int) <;> simp [he]
 have key:QaY (fun r'=>r'=JZ (Zc p)) p ((0:Nat):Int) (((List.range 0).map fun k:Nat=>(k:Int)).filter fun s=>QO p s):=by
  refine Qo1 p.2.1.length (fun k=>QaY (fun r'=>r'=JZ (Zc p)) p (k:Int) (((List.range k).map fun k:Nat=>(k:Int)).filter fun s=>QO p s)) ?_ ?_
  ·refine QmW (fun r'=>r'=JZ (Zc p)) p _ _ ⟨fun h=>by simp at h,fun _=>R_eq ?_⟩
   rw [QCN];rfl
  ·intro k hk ih
   have:=hlen k
   rw [hsn] at ih
   refine QmW (fun r'=>r'=JZ (Zc p)) p _ _ ⟨fun _=>⟨fun he=>⟨room (by omega),?_⟩,fun he=>?_⟩,fun h=>by simp at h;omega⟩
   ·rw [Qq9,sc1 (by omega)]
    rw [if_pos he] at ih
    exact ih
   ·rw [List.take_length,sc1 (by omega)]
    rw [if_neg (by rw [he];simp),List.append_nil] at ih
    exact ih
 exact key
theorem QyS:Qj Tryz.prog QeZ:=Qn fun x h=>QAQ x.1 h
end
end Go.Proofs.YtdplaepmjogjjaaGreat.Am

