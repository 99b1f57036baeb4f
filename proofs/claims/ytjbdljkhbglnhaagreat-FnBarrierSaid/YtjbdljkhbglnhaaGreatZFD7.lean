/- -/
import Derived.Test.YtjbdljkhbglnhaaGreatZFD1
import Derived.Test.YtjbdljkhbglnhaaGreatZFGE
namespace Go.Proofs.YtjbdljkhbglnhaaGreat.Am
open Go Go.RowKit Go.Proofs.YtjbdljkhbglnhaaGreat
set_option linter.all false
set_option maxHeartbeats 2000000
noncomputable section
variable (K:TRes→Prop)
def QbH (t:(List Int)):TRes:=zra (zcs [TI] t)
def Qbv (x0:List Int) (x1:Int):(List Int):=Classical.epsilon fun t:(List Int)=>(Qdl x0 x1 t)∧TCon Tryz.prog 18 [(.c (.sl [(.int .u8)]) x0),(.c TI x1)] (QbH t)
def Qoz:TRow:=Qh 18 [(.c (.sl [(.int .u8)])),(.c TI)] fun x=>(none,QbH (Qbv x.1 x.2.1))
def QoZ:List TRow:=[Qi2]
def QGN:TCode :=
 (zsq [(zsq [(.reg [zmv 8 6,zbi 9 .lss 8 (zki 60),zmv 10 9,.grp 10 true [zmv 11 1,zbi 12 .gtr 11 (zki 0)] 13 12]),(.cond 13 .skip (.exit 0))]),(.block 1 (.reg [zmv 16 5,zmv 17 0,zmv 18 6,zca 19 29 [17,18],zmv 20 1,zbi 21 .rem 19 20,zop 22 (.bsl 3 [TI] [21]),zop 23 (.app 16 22 3 [TI]),zmv 5 23])),(.reg [zmv 14 6,zbi 15 .add 14 (zki 1),zmv 6 15])])
def QF9:List (Nat × Md):=[(0,.one .d),(1,.one .d),(5,.one .f),(6,.one .d)]
def Qvv:TCode :=
 (zsq [(.reg [zmv 24 5,zmv 4 24]),.ret])
def QSj:TCode :=
 (zsq [(.reg [zmv 4 (.k (.n [TI]))]),(.reg [zop 7 (.bsl 3 [TI] []),zmv 5 7]),(zsq [(.reg [zmv 6 (zki 0)]),(.block 0 (.loop QF9 QGN))]),Qvv])
def QCJ:List (ARv × Md):=[(.t 4,.one .d)]
def Qu5:Qb:=TQ 0 0 QCJ K
def QYH:Qb:=Qseq (tawp QoZ 0 Qvv (Qu5 K)) (Qu5 K)
def QOy:Qb:=Qblk 0 (QYH K)
def Qin (code:List Int) (stages:Int) (i:Int) (l:List Int):Prop:=Loop QoZ 0 QF9 QGN (QOy K) ⟨[(0,(zcs [(.int .u8)] code)),(1,(zci stages)),(5,(.r [TI] 0 0 l.length)),(6,(zci i))],[(0,(.sl 3 [TI] true l))],1⟩
theorem Qt9 (code:List Int) (stages:Int) (i:Int) (l:List Int) (h :
 (zif ((decide (i<(60:Int)))&&(decide (stages>(0:Int)))) (((p_at code i)∧((¬ (stages:Int)=0)∧((l.length=l.length∨l.length+1≤l.length)∧l.length+1≤big)))∧(Qin K code stages (w64 (i+(1:Int))) (List.take (l.length+1) ((List.take l.length l)++([(Int.tmod (m_at code i) stages)]))))) (K (QbH (List.take l.length (List.drop 0 l)))))):Qin K code stages i l :=
 Loop.of (by kernel_rfl) h
theorem QXc (code:List Int) (stages:Int) (h :
 (Qin K code stages 0 ([]:List Int))):Hold (tawp QoZ (0+0) QSj (TQ 0 0 QCJ K) (Qf [(.c (.sl [(.int .u8)]) code),(.c TI stages)])) :=
 Hold.of (by kernel_rfl) h
theorem Qt3 (code:List Int) (stages:Int):∃ t:(List Int),(Qdl code stages t)∧TCon Tryz.prog 18 [(.c (.sl [(.int .u8)]) code),(.c TI stages)] (QbH t):=by
 refine Y2 (tcx (n:=25) (sg:=Qoz.sg) Qj (TOk.cons QvL TOk.nil) (by kernel_rfl) (by kernel_rfl) (QXc (fun r'=>∃ t,(Qdl code stages t)∧r'=QbH t) code stages ?_))
 refine Y7 60 (fun k=>∀ l:List Int,l.length=k→Qin (fun r'=>∃ t,(Qdl code stages t)∧r'=QbH t) code stages (k:Int) l) ?_ ?_ [] rfl
 ·intro l hl
  exact Qt9 (fun r'=>∃ t,(Qdl code stages t)∧r'=QbH t) code stages _ _ ⟨fun h=>by simp at h,fun _=>Zg (show (List.take l.length (List.drop 0 l)).length≤60 by rw [QbP];omega)⟩
 ·intro k hk ih l hl
  refine Qt9 (fun r'=>∃ t,(Qdl code stages t)∧r'=QbH t) code stages _ _ ⟨fun h=>?_,fun _=>Zg (show (List.take l.length (List.drop 0 l)).length≤60 by rw [QbP];omega)⟩
  simp only [Bool.and_eq_true,decide_eq_true_eq] at h
  rw [Q7,sc1 (by omega)]
  exact ⟨⟨show (0:Int)≤_ by omega,by omega,room (by omega)⟩,ih _ (by simp;omega)⟩
theorem Q28 (code:List Int) (stages:Int):Qdl code stages (Qbv code stages):=(Classical.epsilon_spec (Qt3 code stages)).1
theorem QPQ (code:List Int) (stages:Int):TCon Tryz.prog 18 [(.c (.sl [(.int .u8)]) code),(.c TI stages)] (QbH (Qbv code stages)):=(Classical.epsilon_spec (Qt3 code stages)).2
theorem QQM:Qg Tryz.prog Qoz:=Qk fun x _=>QPQ x.1 x.2.1
end
end Go.Proofs.YtjbdljkhbglnhaaGreat.Am

