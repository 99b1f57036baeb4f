/- -/
import Derived.Test.YtjbdljkhbglnhaaGreatZBD1
import Derived.Test.YtjbdljkhbglnhaaGreatZBGE
namespace Go.Proofs.YtjbdljkhbglnhaaGreat.Am
open Go Go.RowKit Go.Proofs.YtjbdljkhbglnhaaGreat
set_option linter.all false
set_option maxHeartbeats 2000000
noncomputable section
variable (K:TRes→Prop)
def QaW (t:(List Int)):TRes:=zra (zcs [TI] t)
def Ju (x0:List Int) (x1:Int):(List Int):=Classical.epsilon fun t:(List Int)=>(Qc7 x0 x1 t)∧TCon Tryz.prog 18 [(.c (.sl [(.int .u8)]) x0),(.c TI x1)] (QaW t)
def Qmb:TRow:=Qi 18 [(.c (.sl [(.int .u8)])),(.c TI)] fun x=>(none,QaW (Ju x.1 x.2.1))
def Qj9:List TRow:=[Qmm]
def QwX:TCode :=
 (zsq [(zsq [(.reg [zmv 8 6,zbi 9 .lss 8 (zki 60),zmv 10 9,.grp 10 true [zmv 11 1,zbi 12 .gtr 11 (zki 0)] 13 12]),(.cond 13 .skip (.exit 0))]),(.block 1 (.reg [zmv 16 5,zmv 17 0,zmv 18 6,zca 19 29 [17,18],zmv 20 1,zbi 21 .rem 19 20,zop 22 (.bsl 3 [TI] [21]),zop 23 (.app 16 22 3 [TI]),zmv 5 23])),(.reg [zmv 14 6,zbi 15 .add 14 (zki 1),zmv 6 15])])
def QrL:List (Nat × Md):=[(0,.one .d),(1,.one .d),(5,.one .f),(6,.one .d)]
def Qy6:TCode :=
 (zsq [(.reg [zmv 24 5,zmv 4 24]),.ret])
def QOq:TCode :=
 (zsq [(.reg [zmv 4 (.k (.n [TI]))]),(.reg [zop 7 (.bsl 3 [TI] []),zmv 5 7]),(zsq [(.reg [zmv 6 (zki 0)]),(.block 0 (.loop QrL QwX))]),Qy6])
def QrC:List (ARv × Md):=[(.t 4,.one .d)]
def Qp6:Qb:=TQ 0 0 QrC K
def QNX:Qb:=Qseq (tawp Qj9 0 Qy6 (Qp6 K)) (Qp6 K)
def QKt:Qb:=Qblk 0 (QNX K)
def Qf3 (code:List Int) (stages:Int) (i:Int) (l:List Int):Prop:=Loop Qj9 0 QrL QwX (QKt K) ⟨[(0,(zcs [(.int .u8)] code)),(1,(zci stages)),(5,(.r [TI] 0 0 l.length)),(6,(zci i))],[(0,(.sl 3 [TI] true l))],1⟩
theorem Qxr (code:List Int) (stages:Int) (i:Int) (l:List Int) (h :
 (zif ((decide (i<(60:Int)))&&(decide (stages>(0:Int)))) (((p_at code i)∧((¬ (stages:Int)=0)∧((l.length=l.length∨l.length+1≤l.length)∧l.length+1≤big)))∧(Qf3 K code stages (w64 (i+(1:Int))) (List.take (l.length+1) ((List.take l.length l)++([(Int.tmod (m_at code i) stages)]))))) (K (QaW (List.take l.length (List.drop 0 l)))))):Qf3 K code stages i l :=
 Loop.of (by kernel_rfl) h
theorem QBE (code:List Int) (stages:Int) (h :
 (Qf3 K code stages 0 ([]:List Int))):Hold (tawp Qj9 (0+0) QOq (TQ 0 0 QrC K) (Qf [(.c (.sl [(.int .u8)]) code),(.c TI stages)])) :=
 Hold.of (by kernel_rfl) h
theorem Qsf (code:List Int) (stages:Int):∃ t:(List Int),(Qc7 code stages t)∧TCon Tryz.prog 18 [(.c (.sl [(.int .u8)]) code),(.c TI stages)] (QaW t):=by
 refine YE (tcx (n:=25) (sg:=Qmb.sg) Qk (TOk.cons QL3 TOk.nil) (by kernel_rfl) (by kernel_rfl) (QBE (fun r'=>∃ t,(Qc7 code stages t)∧r'=QaW t) code stages ?_))
 refine Qap 60 (fun k=>∀ l:List Int,l.length=k→Qf3 (fun r'=>∃ t,(Qc7 code stages t)∧r'=QaW t) code stages (k:Int) l) ?_ ?_ [] rfl
 ·intro l hl
  exact Qxr (fun r'=>∃ t,(Qc7 code stages t)∧r'=QaW t) code stages _ _ ⟨fun h=>by simp at h,fun _=>Q0 (show (List.take l.length (List.drop 0 l)).length≤60 by rw [QdP];omega)⟩
 ·intro k hk ih l hl
  refine Qxr (fun r'=>∃ t,(Qc7 code stages t)∧r'=QaW t) code stages _ _ ⟨fun h=>?_,fun _=>Q0 (show (List.take l.length (List.drop 0 l)).length≤60 by rw [QdP];omega)⟩
  simp only [Bool.and_eq_true,decide_eq_true_eq] at h
  rw [Zn,sc1 (by omega)]
  exact ⟨⟨show (0:Int)≤_ by omega,by omega,room (by omega)⟩,ih _ (by simp;omega)⟩
theorem QO7 (code:List Int) (stages:Int):Qc7 code stages (Ju code stages):=(Classical.epsilon_spec (Qsf code stages)).1
theorem QHb (code:List Int) (stages:Int):TCon Tryz.prog 18 [(.c (.sl [(.int .u8)]) code),(.c TI stages)] (QaW (Ju code stages)):=(Classical.epsilon_spec (Qsf code stages)).2
theorem QA5:Qj Tryz.prog Qmb:=Qm fun x _=>QHb x.1 x.2.1
end
end Go.Proofs.YtjbdljkhbglnhaaGreat.Am

