/- -/
import Derived.Test.YtdplaepmjogjjaaGreatVCG8
namespace Go.Proofs.YtdplaepmjogjjaaGreat.Am
open Go Go.RowKit Go.Proofs.YtdplaepmjogjjaaGreat
set_option linter.all false
noncomputable section
variable (K:TRes→Prop)
def Qax (t:Int):TRes:=zre (zci t)
def Qj7:TRow:=Qg 62 [(.c (.sl Ql)),(.c TI)] fun x=>(none,Qax (Zs x.1 x.2.1))
def Qd9:TTab:=⟨[],false⟩
def QpA:TCode :=
 (zsq [(zsq [(.reg [zmv 6 5,zmv 7 0,zle 8 7,zbi 9 .lss 6 8]),(.cond 9 .skip (.exit 0))]),(.block 1 (zsq [(.reg [zmv 12 0,zmv 13 5,zia 14 12 13 Ql,zfa 15 14 0,zld 16 15 1,zmv 17 1,zbi 18 .eql 16 17]),(.cond 18 (zsq [(.reg [zmv 19 5,zmv 4 19]),.ret]) .skip)])),(.reg [zmv 10 5,zbi 11 .add 10 (zki 1),zmv 5 11])])
def Qny:List (Nat × Md):=zdl [0,1,5]
def Ql7:TCode :=
 (zsq [(.reg [zmv 4 (zki (-1))]),.ret])
def QvM:TCode :=
 (zsq [(.reg [zmv 4 (zki 0)]),(zsq [(.reg [zmv 5 (zki 0)]),(.block 0 (.loop Qny QpA))]),Ql7])
def Qli:List (ARv × Md):=[(.t 4,.one .d)]
def QlO:Qb:=TQ 0 0 Qli K
def QuH:Qb:=Qseq (tawp Qd9 0 Ql7 (QlO K)) (QlO K)
def Qyw:Qb:=Qblk 0 (QuH K)
def QfX (l:List Qf) (m:Int) (i:Int):Prop:=Loop Qd9 0 Qny QpA (Qyw K) ⟨[(0,(zcs Ql l)),(1,(zci m)),(5,(zci i))],[],0⟩
theorem QtB (l:List Qf) (m:Int) (i:Int) (h :
 (zif (decide (i<(l.length:Int))) (((0:Int)≤i∧Int.toNat i<l.length)∧(zif (((gtd QS l (Int.toNat i)).1)==m) (K (Qax i)) (QfX K l m (w64 (i+(1:Int)))))) (K (Qax (-1:Int))))):QfX K l m i :=
 Loop.of (by kernel_rfl) h
theorem Qw3 (l:List Qf) (m:Int) (h :
 (QfX K l m 0)):Hold (tawp Qd9 (0+0) QvM (TQ 0 0 Qli K) (Qd [(.c (.sl Ql) l),(.c TI m)])) :=
 Hold.of (by kernel_rfl) h
theorem QDY (l:List Qf) (m:Int):TCon Tryz.prog 62 [(.c (.sl Ql) l),(.c TI m)] (Qax (Zs l m)):=by
 refine Qi rfl fun hb=>tcg (Γ:=Qd9) (n:=20) (sg:=Qj7.sg) Qj TOkL.nil (by kernel_rfl) (by kernel_rfl) (Qw3 _ l m ?_)
 have hl_l:l.length≤9223372036854775807:=hb.1.1
 refine Zh l (fun r k=>JG r m k=Zs l m→QfX (fun r'=>r'=Qax (Zs l m)) l m k) ?_ ?_ rfl
 ·intro he
  refine QtB (fun r'=>r'=Qax (Zs l m)) l m _ ⟨fun h=>by simp at h,fun _=>?_⟩
  grind [JG]
 ·intro k x r hk hlt hg ih he
  refine QtB (fun r'=>r'=Qax (Zs l m)) l m _ ⟨fun _=>?_,fun h=>by simp at h;omega⟩
  rw [Int.toNat_natCast,hg,Qv (by omega) (by omega)]
  grind [JG]
theorem QGf:Qe Tryz.prog Qj7:=Qk fun x _=>QDY x.1 x.2.1
def QaU (t:Int):TRes:=zre (zci t)
def Qjp:TRow:=Qg 71 [(.c (.sl Ql)),(.c TI)] fun x=>(none,QaU (Zs x.1 x.2.1))
def QdG:TTab:=⟨[],false⟩
def QoT:TCode :=
 (zsq [(.reg [zbi 10 .lss 9 8]),(.cond 10 .skip (.exit 0)),(.block 1 (zsq [(.reg [zmv 11 9,zia 12 7 9 Ql,zLd 13 12 2,zop 6 (.new 108 (z0s Ql)),zmv 5 11,zst 6 13 2]),(.reg [zfa 14 6 0,zld 15 14 1,zmv 16 1,zbi 17 .eql 15 16]),(.cond 17 (zsq [(.reg [zmv 18 5,zmv 4 18]),.ret]) .skip)])),(.reg [zbi 19 .add 9 (zki 1),zmv 9 19])])
def QrM:List (Nat × Md):=zdl [1,7,8,9]
def QrH:TCode :=
 (zsq [(.reg [zmv 4 (zki (-1))]),.ret])
def QIc:TCode :=
 (zsq [(.reg [zmv 4 (zki 0)]),(zsq [(.reg [zmv 7 0,zle 8 7,zmv 9 (zki 0)]),(.block 0 (.loop QrM QoT))]),QrH])
def Qov:List (ARv × Md):=[(.t 4,.one .d)]
def QoY:Qb:=TQ 0 0 Qov K
def QxL:Qb:=Qseq (tawp QdG 0 QrH (QoY K)) (QoY K)
def QvW:Qb:=Qblk 0 (QxL K)
def Qe2 (l:List Qf) (m:Int) (x:Int):Prop:=Loop QdG 0 QrM QoT (QvW K) ⟨[(1,(zci m)),(7,(zcs Ql l)),(8,(zci (l.length:Int))),(9,(zci x))],[],0⟩
theorem Qn4 (l:List Qf) (m:Int) (x:Int) (h :
 (zif (decide (x<(l.length:Int))) (((0:Int)≤x∧Int.toNat x<l.length)∧(zif (((gtd QS l (Int.toNat x)).1)==m) (K (QaU x)) (Qe2 K l m (w64 (x+(1:Int)))))) (K (QaU (-1:Int))))):Qe2 K l m x :=
 Loop.of (by kernel_rfl) h
theorem QC9 (l:List Qf) (m:Int) (h :
 (Qe2 K l m 0)):Hold (tawp QdG (0+0) QIc (TQ 0 0 Qov K) (Qd [(.c (.sl Ql) l),(.c TI m)])) :=
 Hold.of (by kernel_rfl) h
theorem QHH (l:List Qf) (m:Int):TCon Tryz.prog 71 [(.c (.sl Ql) l),(.c TI m)] (QaU (Zs l m)):=by
 refine Qi rfl fun hb=>tcg (Γ:=QdG) (n:=20) (sg:=Qjp.sg) Qj TOkL.nil (by kernel_rfl) (by kernel_rfl) (QC9 _ l m ?_)
 have hl_l:l.length≤9223372036854775807:=hb.1.1
 refine Zh l (fun r k=>JG r m k=Zs l m→Qe2 (fun r'=>r'=QaU (Zs l m)) l m k) ?_ ?_ rfl
 ·intro he
  refine Qn4 (fun r'=>r'=QaU (Zs l m)) l m _ ⟨fun h=>by simp at h,fun _=>?_⟩
  grind [JG]
 ·intro k x r hk hlt hg ih he
  refine Qn4 (fun r'=>r'=QaU (Zs l m)) l m _ ⟨fun _=>?_,fun h=>by simp at h;omega⟩
  rw [Int.toNat_natCast,hg,Qv (by omega) (by omega)]
  grind [JG]
theorem QvC:Qe Tryz.prog Qjp:=Qk fun x _=>QHH x.1 x.2.1
end
end Go.Proofs.YtdplaepmjogjjaaGreat.Am

