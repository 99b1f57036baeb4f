/- -/
import Derived.Test.YtjbdljkhbglnhaaGreatZCD1
import Derived.Test.YtjbdljkhbglnhaaGreatZCGE
namespace Go.Proofs.YtjbdljkhbglnhaaGreat.Am
open Go Go.RowKit Go.Proofs.YtjbdljkhbglnhaaGreat
set_option linter.all false
set_option maxHeartbeats 2000000
noncomputable section
variable (K:TRes→Prop)
def Qbt (t:(List Int)):TRes:=zra (zcs [TI] t)
def Qe5 (x0:List Int) (x1:Int):(List Int):=Classical.epsilon fun t:(List Int)=>(Qev x0 x1 t)∧TCon Tryz.prog 18 [(.c (.sl [(.int .u8)]) x0),(.c TI x1)] (Qbt t)
def QkY:TRow:=Qf 18 [(.c (.sl [(.int .u8)])),(.c TI)] fun x=>(none,Qbt (Qe5 x.1 x.2.1))
def Qm0:List TRow:=[QmI]
def QDV:TCode :=
 (zsq [(zsq [(.reg [zmv 8 6,zbi 9 .lss 8 (zki 60),zmv 10 9,.grp 10 true [zmv 11 1,zbi 12 .gtr 11 (zki 0)] 13 12]),(.cond 13 .skip (.exit 0))]),(.block 1 (.reg [zmv 16 5,zmv 17 0,zmv 18 6,zca 19 29 [17,18],zmv 20 1,zbi 21 .rem 19 20,zop 22 (.bsl 3 [TI] [21]),zop 23 (.app 16 22 3 [TI]),zmv 5 23])),(.reg [zmv 14 6,zbi 15 .add 14 (zki 1),zmv 6 15])])
def Qte:List (Nat × Md):=[(0,.one .d),(1,.one .d),(5,.one .f),(6,.one .d)]
def QDq:TCode :=
 (zsq [(.reg [zmv 24 5,zmv 4 24]),.ret])
def QKh:TCode :=
 (zsq [(.reg [zmv 4 (.k (.n [TI]))]),(.reg [zop 7 (.bsl 3 [TI] []),zmv 5 7]),(zsq [(.reg [zmv 6 (zki 0)]),(.block 0 (.loop Qte QDV))]),QDq])
def Qs0:List (ARv × Md):=[(.t 4,.one .d)]
def QEd:Qb:=TQ 0 0 Qs0 K
def QLH:Qb:=Qseq (tawp Qm0 0 QDq (QEd K)) (QEd K)
def QRh:Qb:=Qblk 0 (QLH K)
def Qim (code:List Int) (stages:Int) (i:Int) (l:List Int):Prop:=Loop Qm0 0 Qte QDV (QRh K) ⟨[(0,(zcs [(.int .u8)] code)),(1,(zci stages)),(5,(.r [TI] 0 0 l.length)),(6,(zci i))],[(0,(.sl 3 [TI] true l))],1⟩
theorem Qq8 (code:List Int) (stages:Int) (i:Int) (l:List Int) (h :
 (zif ((decide (i<(60:Int)))&&(decide (stages>(0:Int)))) (((p_at code i)∧((¬ (stages:Int)=0)∧((l.length=l.length∨l.length+1≤l.length)∧l.length+1≤big)))∧(Qim K code stages (w64 (i+(1:Int))) (List.take (l.length+1) ((List.take l.length l)++([(Int.tmod (m_at code i) stages)]))))) (K (Qbt (List.take l.length (List.drop 0 l)))))):Qim K code stages i l :=
 Loop.of (by kernel_rfl) h
theorem QGT (code:List Int) (stages:Int) (h :
 (Qim K code stages 0 ([]:List Int))):Hold (tawp Qm0 (0+0) QKh (TQ 0 0 Qs0 K) (Qd [(.c (.sl [(.int .u8)]) code),(.c TI stages)])) :=
 Hold.of (by kernel_rfl) h
theorem QF6 (code:List Int) (stages:Int):∃ t:(List Int),(Qev code stages t)∧TCon Tryz.prog 18 [(.c (.sl [(.int .u8)]) code),(.c TI stages)] (Qbt t):=by
 refine YV (tcx (n:=25) (sg:=QkY.sg) Qg (TOk.cons QPu TOk.nil) (by kernel_rfl) (by kernel_rfl) (QGT (fun r'=>∃ t,(Qev code stages t)∧r'=Qbt t) code stages ?_))
 refine Jb 60 (fun k=>∀ l:List Int,l.length=k→Qim (fun r'=>∃ t,(Qev code stages t)∧r'=Qbt t) code stages (k:Int) l) ?_ ?_ [] rfl
 ·intro l hl
  exact Qq8 (fun r'=>∃ t,(Qev code stages t)∧r'=Qbt t) code stages _ _ ⟨fun h=>by simp at h,fun _=>Ze (show (List.take l.length (List.drop 0 l)).length≤60 by rw [QcY];omega)⟩
 ·intro k hk ih l hl
  refine Qq8 (fun r'=>∃ t,(Qev code stages t)∧r'=Qbt t) code stages _ _ ⟨fun h=>?_,fun _=>Ze (show (List.take l.length (List.drop 0 l)).length≤60 by rw [QcY];omega)⟩
  simp only [Bool.and_eq_true,decide_eq_true_eq] at h
  rw [Zf,sc1 (by omega)]
  exact ⟨⟨show (0:Int)≤_ by omega,by omega,room (by omega)⟩,ih _ (by simp;omega)⟩
theorem QMn (code:List Int) (stages:Int):TCon Tryz.prog 18 [(.c (.sl [(.int .u8)]) code),(.c TI stages)] (Qbt (Qe5 code stages)):=(Classical.epsilon_spec (QF6 code stages)).2
theorem QIa:Qe Tryz.prog QkY:=Qh fun x _=>QMn x.1 x.2.1
end
end Go.Proofs.YtjbdljkhbglnhaaGreat.Am

