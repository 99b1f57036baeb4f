/- -/
import Derived.Test.YtjbdljkhbglnhaaGreatZED1
import Derived.Test.YtjbdljkhbglnhaaGreatZEGE
namespace Go.Proofs.YtjbdljkhbglnhaaGreat.Am
open Go Go.RowKit Go.Proofs.YtjbdljkhbglnhaaGreat
set_option linter.all false
set_option maxHeartbeats 2000000
noncomputable section
variable (K:TRes→Prop)
def Qbi (t:(List Int)):TRes:=zra (zcs [TI] t)
def QaN (x0:List Int) (x1:Int):(List Int):=Classical.epsilon fun t:(List Int)=>(QcT x0 x1 t)∧TCon Tryz.prog 18 [(.c (.sl [(.int .u8)]) x0),(.c TI x1)] (Qbi t)
def Qk8:TRow:=Qk 18 [(.c (.sl [(.int .u8)])),(.c TI)] fun x=>(none,Qbi (QaN x.1 x.2.1))
def QmP:List TRow:=[Qia]
def QwE:TCode :=
 (zsq [(zsq [(.reg [zmv 8 6,zbi 9 .lss 8 (zki 60),zmv 10 9,.grp 10 true [zmv 11 1,zbi 12 .gtr 11 (zki 0)] 13 12]),(.cond 13 .skip (.exit 0))]),(.block 1 (.reg [zmv 16 5,zmv 17 0,zmv 18 6,zca 19 29 [17,18],zmv 20 1,zbi 21 .rem 19 20,zop 22 (.bsl 3 [TI] [21]),zop 23 (.app 16 22 3 [TI]),zmv 5 23])),(.reg [zmv 14 6,zbi 15 .add 14 (zki 1),zmv 6 15])])
def QES:List (Nat × Md):=[(0,.one .d),(1,.one .d),(5,.one .f),(6,.one .d)]
def QAS:TCode :=
 (zsq [(.reg [zmv 24 5,zmv 4 24]),.ret])
def QHc:TCode :=
 (zsq [(.reg [zmv 4 (.k (.n [TI]))]),(.reg [zop 7 (.bsl 3 [TI] []),zmv 5 7]),(zsq [(.reg [zmv 6 (zki 0)]),(.block 0 (.loop QES QwE))]),QAS])
def Qzm:List (ARv × Md):=[(.t 4,.one .d)]
def QD6:Qb:=TQ 0 0 Qzm K
def QMU:Qb:=Qseq (tawp QmP 0 QAS (QD6 K)) (QD6 K)
def QTH:Qb:=Qblk 0 (QMU K)
def Qjn (code:List Int) (stages:Int) (i:Int) (l:List Int):Prop:=Loop QmP 0 QES QwE (QTH K) ⟨[(0,(zcs [(.int .u8)] code)),(1,(zci stages)),(5,(.r [TI] 0 0 l.length)),(6,(zci i))],[(0,(.sl 3 [TI] true l))],1⟩
theorem Qsm (code:List Int) (stages:Int) (i:Int) (l:List Int) (h :
 (zif ((decide (i<(60:Int)))&&(decide (stages>(0:Int)))) (((p_at code i)∧((¬ (stages:Int)=0)∧((l.length=l.length∨l.length+1≤l.length)∧l.length+1≤big)))∧(Qjn K code stages (w64 (i+(1:Int))) (List.take (l.length+1) ((List.take l.length l)++([(Int.tmod (m_at code i) stages)]))))) (K (Qbi (List.take l.length (List.drop 0 l)))))):Qjn K code stages i l :=
 Loop.of (by kernel_rfl) h
theorem QJD (code:List Int) (stages:Int) (h :
 (Qjn K code stages 0 ([]:List Int))):Hold (tawp QmP (0+0) QHc (TQ 0 0 Qzm K) (Qg [(.c (.sl [(.int .u8)]) code),(.c TI stages)])) :=
 Hold.of (by kernel_rfl) h
theorem QrN (code:List Int) (stages:Int):∃ t:(List Int),(QcT code stages t)∧TCon Tryz.prog 18 [(.c (.sl [(.int .u8)]) code),(.c TI stages)] (Qbi t):=by
 refine YT (tcx (n:=25) (sg:=Qk8.sg) Qm (TOk.cons QDd TOk.nil) (by kernel_rfl) (by kernel_rfl) (QJD (fun r'=>∃ t,(QcT code stages t)∧r'=Qbi t) code stages ?_))
 refine Y4 60 (fun k=>∀ l:List Int,l.length=k→Qjn (fun r'=>∃ t,(QcT code stages t)∧r'=Qbi t) code stages (k:Int) l) ?_ ?_ [] rfl
 ·intro l hl
  exact Qsm (fun r'=>∃ t,(QcT code stages t)∧r'=Qbi t) code stages _ _ ⟨fun h=>by simp at h,fun _=>Zg (show (List.take l.length (List.drop 0 l)).length≤60 by rw [JI];omega)⟩
 ·intro k hk ih l hl
  refine Qsm (fun r'=>∃ t,(QcT code stages t)∧r'=Qbi t) code stages _ _ ⟨fun h=>?_,fun _=>Zg (show (List.take l.length (List.drop 0 l)).length≤60 by rw [JI];omega)⟩
  simp only [Bool.and_eq_true,decide_eq_true_eq] at h
  rw [Q8,sc1 (by omega)]
  exact ⟨⟨show (0:Int)≤_ by omega,by omega,room (by omega)⟩,ih _ (by simp;omega)⟩
theorem QXa (code:List Int) (stages:Int):QcT code stages (QaN code stages):=(Classical.epsilon_spec (QrN code stages)).1
theorem QUP (code:List Int) (stages:Int):TCon Tryz.prog 18 [(.c (.sl [(.int .u8)]) code),(.c TI stages)] (Qbi (QaN code stages)):=(Classical.epsilon_spec (QrN code stages)).2
theorem QOy:Qj Tryz.prog Qk8:=Qn fun x _=>QUP x.1 x.2.1
end
end Go.Proofs.YtjbdljkhbglnhaaGreat.Am

