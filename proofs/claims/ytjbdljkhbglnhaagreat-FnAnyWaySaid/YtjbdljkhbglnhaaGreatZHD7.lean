/- -/
import Derived.Test.YtjbdljkhbglnhaaGreatZHD1
import Derived.Test.YtjbdljkhbglnhaaGreatZHGE
namespace Go.Proofs.YtjbdljkhbglnhaaGreat.Am
open Go Go.RowKit Go.Proofs.YtjbdljkhbglnhaaGreat
set_option linter.all false
set_option maxHeartbeats 2000000
noncomputable section
variable (K:TRes→Prop)
def Qa9 (t:(List Int)):TRes:=zra (zcs [(.int .u8)] t)
def Qcs (x0:List Int) (x1:Int):(List Int):=Classical.epsilon fun t:(List Int)=>(QcI x0 x1 t)∧TCon Tryz.prog 64 [(.c (.sl [(.int .u8)]) x0),(.c TI x1)] (Qa9 t)
def Qju:TRow:=Qg 64 [(.c (.sl [(.int .u8)])),(.c TI)] fun x=>(none,Qa9 (Qcs x.1 x.2.1))
def Qnt:List TRow:=[]
def QxX:TCode :=
 (zsq [(zsq [(.reg [zmv 10 6,zmv 11 0,zle 12 11,zbi 13 .lss 10 12,zmv 14 13,.grp 14 true [zmv 15 6,zbi 16 .lss 15 (zki 600)] 17 16]),(.cond 17 .skip (.exit 0))]),(.block 1 (.reg [zmv 20 5,zmv 21 0,zmv 22 6,zia 23 21 22 [(.int .u8)],zld 24 23 1,zop 25 (.conv .i64 24),zbi 26 .mul 25 (zki 3),zmv 27 1,zmv 28 6,zbi 29 .rem 28 (zki 7),zbi 30 .add 29 (zki 1),zbi 31 .mul 27 30,zbi 32 .add 26 31,zop 33 (.conv .u8 32),zop 34 (.bsl 5 [(.int .u8)] [33]),zop 35 (.app 20 34 5 [(.int .u8)]),zmv 5 35])),(.reg [zmv 18 6,zbi 19 .add 18 (zki 1),zmv 6 19])])
def Qqj:List (Nat × Md):=[(0,.one .d),(1,.one .d),(5,.one .f),(6,.one .d)]
def QxL:TCode :=
 (zsq [(.reg [zmv 36 5,zmv 4 36]),.ret])
def QHE:TCode :=
 (zsq [(.reg [zmv 4 (.k (.n [(.int .u8)]))]),(.reg [zmv 7 1,zop 8 (.conv .u8 7),zop 9 (.bsl 5 [(.int .u8)] [8]),zmv 5 9]),(zsq [(.reg [zmv 6 (zki 0)]),(.block 0 (.loop Qqj QxX))]),QxL])
def QtI:List (ARv × Md):=[(.t 4,.one .d)]
def QsN:Qb:=TQ 0 0 QtI K
def QLj:Qb:=Qseq (tawp Qnt 0 QxL (QsN K)) (QsN K)
def QEU:Qb:=Qblk 0 (QLj K)
def QgG (code:List Int) (salt:Int) (i:Int) (out:List Int):Prop:=Loop Qnt 0 Qqj QxX (QEU K) ⟨[(0,(zcs [(.int .u8)] code)),(1,(zci salt)),(5,(.r [(.int .u8)] 0 0 out.length)),(6,(zci i))],[(0,(.sl 5 [(.int .u8)] true out))],1⟩
theorem Qr6 (code:List Int) (salt:Int) (i:Int) (out:List Int) (h :
 (zif ((decide (i<(code.length:Int)))&&(decide (i<(600:Int)))) ((((0:Int)≤i∧Int.toNat i<code.length)∧((¬ ((7:Int):Int)=0)∧((out.length=out.length∨out.length+1≤out.length)∧out.length+1≤big)))∧(QgG K code salt (w64 (i+(1:Int))) (List.take (out.length+1) ((List.take out.length out)++([IntKind.u8.wrap (w64 ((w64 ((w64 ((gtd (0:Int) code (Int.toNat i))))*(3:Int)))+(w64 (salt*(w64 ((Int.tmod i (7:Int))+(1:Int)))))))]))))) (K (Qa9 (List.take out.length (List.drop 0 out)))))):QgG K code salt i out :=
 Loop.of (by kernel_rfl) h
theorem QPh (code:List Int) (salt:Int) (h :
 (QgG K code salt 0 ([IntKind.u8.wrap (salt)]))):Hold (tawp Qnt (0+0) QHE (TQ 0 0 QtI K) (Qf [(.c (.sl [(.int .u8)]) code),(.c TI salt)])) :=
 Hold.of (by kernel_rfl) h
theorem QpJ (code:List Int) (salt:Int):∃ t:(List Int),(QcI code salt t)∧TCon Tryz.prog 64 [(.c (.sl [(.int .u8)]) code),(.c TI salt)] (Qa9 t):=by
 refine YM (tcx (n:=37) (sg:=Qju.sg) Qj TOk.nil (by kernel_rfl) (by kernel_rfl) (QPh (fun r'=>∃ t,(QcI code salt t)∧r'=Qa9 t) code salt ?_))
 refine JL 600 (fun k=>∀ out:List Int,out.length=k+1→QgG (fun r'=>∃ t,(QcI code salt t)∧r'=Qa9 t) code salt (k:Int) out) ?_ ?_ _ rfl
 ·intro l hl
  exact Qr6 (fun r'=>∃ t,(QcI code salt t)∧r'=Qa9 t) code salt _ _ ⟨fun h=>by simp at h,fun _=>Q5 (show (List.take l.length (List.drop 0 l)).length≤1000 by rw [JP];omega)⟩
 ·intro k hk ih l hl
  refine Qr6 (fun r'=>∃ t,(QcI code salt t)∧r'=Qa9 t) code salt _ _ ⟨fun h=>?_,fun _=>Q5 (show (List.take l.length (List.drop 0 l)).length≤1000 by rw [JP];omega)⟩
  simp only [Bool.and_eq_true,decide_eq_true_eq] at h
  rw [Zq,sc1 (by omega)]
  exact ⟨⟨⟨by omega,by rw [Int.toNat_natCast];omega⟩,by omega,room (by omega)⟩,ih _ (by simp;omega)⟩
theorem QNp (code:List Int) (salt:Int):QcI code salt (Qcs code salt):=(Classical.epsilon_spec (QpJ code salt)).1
theorem QFk (code:List Int) (salt:Int):TCon Tryz.prog 64 [(.c (.sl [(.int .u8)]) code),(.c TI salt)] (Qa9 (Qcs code salt)):=(Classical.epsilon_spec (QpJ code salt)).2
theorem QQy:Qh Tryz.prog Qju:=Qk fun x _=>QFk x.1 x.2.1
end
end Go.Proofs.YtjbdljkhbglnhaaGreat.Am

