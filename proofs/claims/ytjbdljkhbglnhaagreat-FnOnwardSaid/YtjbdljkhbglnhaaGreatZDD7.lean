/- -/
import Derived.Test.YtjbdljkhbglnhaaGreatZDD1
import Derived.Test.YtjbdljkhbglnhaaGreatZDGE
namespace Go.Proofs.YtjbdljkhbglnhaaGreat.Am
open Go Go.RowKit Go.Proofs.YtjbdljkhbglnhaaGreat
set_option linter.all false
set_option maxHeartbeats 2000000
noncomputable section
variable (K:TRes→Prop)
def Qbh (t:(List Int)):TRes:=zra (zcs [TI] t)
def QdG (x0:List Int) (x1:Int):(List Int):=Classical.epsilon fun t:(List Int)=>(QeI x0 x1 t)∧TCon Tryz.prog 18 [(.c (.sl [(.int .u8)]) x0),(.c TI x1)] (Qbh t)
def Qlz:TRow:=Qj 18 [(.c (.sl [(.int .u8)])),(.c TI)] fun x=>(none,Qbh (QdG x.1 x.2.1))
def Qop:List TRow:=[Qmm]
def QEc:TCode :=
 (zsq [(zsq [(.reg [zmv 8 6,zbi 9 .lss 8 (zki 60),zmv 10 9,.grp 10 true [zmv 11 1,zbi 12 .gtr 11 (zki 0)] 13 12]),(.cond 13 .skip (.exit 0))]),(.block 1 (.reg [zmv 16 5,zmv 17 0,zmv 18 6,zca 19 29 [17,18],zmv 20 1,zbi 21 .rem 19 20,zop 22 (.bsl 3 [TI] [21]),zop 23 (.app 16 22 3 [TI]),zmv 5 23])),(.reg [zmv 14 6,zbi 15 .add 14 (zki 1),zmv 6 15])])
def QE0:List (Nat × Md):=[(0,.one .d),(1,.one .d),(5,.one .f),(6,.one .d)]
def QCx:TCode :=
 (zsq [(.reg [zmv 24 5,zmv 4 24]),.ret])
def QSo:TCode :=
 (zsq [(.reg [zmv 4 (.k (.n [TI]))]),(.reg [zop 7 (.bsl 3 [TI] []),zmv 5 7]),(zsq [(.reg [zmv 6 (zki 0)]),(.block 0 (.loop QE0 QEc))]),QCx])
def QtZ:List (ARv × Md):=[(.t 4,.one .d)]
def Qst:Qb:=TQ 0 0 QtZ K
def QGY:Qb:=Qseq (tawp Qop 0 QCx (Qst K)) (Qst K)
def QKe:Qb:=Qblk 0 (QGY K)
def Qiy (code:List Int) (stages:Int) (i:Int) (l:List Int):Prop:=Loop Qop 0 QE0 QEc (QKe K) ⟨[(0,(zcs [(.int .u8)] code)),(1,(zci stages)),(5,(.r [TI] 0 0 l.length)),(6,(zci i))],[(0,(.sl 3 [TI] true l))],1⟩
theorem QEv (code:List Int) (stages:Int) (i:Int) (l:List Int) (h :
 (zif ((decide (i<(60:Int)))&&(decide (stages>(0:Int)))) (((p_at code i)∧((¬ (stages:Int)=0)∧((l.length=l.length∨l.length+1≤l.length)∧l.length+1≤big)))∧(Qiy K code stages (w64 (i+(1:Int))) (List.take (l.length+1) ((List.take l.length l)++([(Int.tmod (m_at code i) stages)]))))) (K (Qbh (List.take l.length (List.drop 0 l)))))):Qiy K code stages i l :=
 Loop.of (by kernel_rfl) h
theorem QRJ (code:List Int) (stages:Int) (h :
 (Qiy K code stages 0 ([]:List Int))):Hold (tawp Qop (0+0) QSo (TQ 0 0 QtZ K) (Qh [(.c (.sl [(.int .u8)]) code),(.c TI stages)])) :=
 Hold.of (by kernel_rfl) h
theorem QJ5 (code:List Int) (stages:Int):∃ t:(List Int),(QeI code stages t)∧TCon Tryz.prog 18 [(.c (.sl [(.int .u8)]) code),(.c TI stages)] (Qbh t):=by
 refine YT (tcx (n:=25) (sg:=Qlz.sg) Ql (TOk.cons QI7 TOk.nil) (by kernel_rfl) (by kernel_rfl) (QRJ (fun r'=>∃ t,(QeI code stages t)∧r'=Qbh t) code stages ?_))
 refine Jb 60 (fun k=>∀ l:List Int,l.length=k→Qiy (fun r'=>∃ t,(QeI code stages t)∧r'=Qbh t) code stages (k:Int) l) ?_ ?_ [] rfl
 ·intro l hl
  exact QEv (fun r'=>∃ t,(QeI code stages t)∧r'=Qbh t) code stages _ _ ⟨fun h=>by simp at h,fun _=>Ze (show (List.take l.length (List.drop 0 l)).length≤60 by rw [Qam];omega)⟩
 ·intro k hk ih l hl
  refine QEv (fun r'=>∃ t,(QeI code stages t)∧r'=Qbh t) code stages _ _ ⟨fun h=>?_,fun _=>Ze (show (List.take l.length (List.drop 0 l)).length≤60 by rw [Qam];omega)⟩
  simp only [Bool.and_eq_true,decide_eq_true_eq] at h
  rw [Za,sc1 (by omega)]
  exact ⟨⟨show (0:Int)≤_ by omega,by omega,room (by omega)⟩,ih _ (by simp;omega)⟩
theorem QK5 (code:List Int) (stages:Int):TCon Tryz.prog 18 [(.c (.sl [(.int .u8)]) code),(.c TI stages)] (Qbh (QdG code stages)):=(Classical.epsilon_spec (QJ5 code stages)).2
theorem QSG:Qi Tryz.prog Qlz:=Qm fun x _=>QK5 x.1 x.2.1
def Qdb (t:Bool):TRes:=zre (zcb t)
def QmM:TRow:=Qj 37 [(.c (.sl [TI])),(.c TI)] fun x=>(none,Qdb (Qba x.1 x.2.1))
def Qma:List TRow:=[]
def Qyv:TCode :=
 (zsq [(zsq [(.reg [zmv 6 5,zmv 7 0,zle 8 7,zbi 9 .lss 6 8]),(.cond 9 .skip (.exit 0))]),(.block 1 (zsq [(.reg [zmv 12 0,zmv 13 5,zia 14 12 13 [TI],zld 15 14 1,zmv 16 1,zbi 17 .eql 15 16]),(.cond 17 (zsq [(.reg [zmv 4 (zkb true)]),.ret]) .skip)])),(.reg [zmv 10 5,zbi 11 .add 10 (zki 1),zmv 5 11])])
def QuV:List (Nat × Md):=zdl [0,1,5]
def Qrs:TCode :=
 (zsq [(.reg [zmv 4 (zkb false)]),.ret])
def QSa:TCode :=
 (zsq [(.reg [zmv 4 (zkb false)]),(zsq [(.reg [zmv 5 (zki 0)]),(.block 0 (.loop QuV Qyv))]),Qrs])
def QuY:List (ARv × Md):=[(.t 4,.one .d)]
def QxK:Qb:=TQ 0 0 QuY K
def QYv:Qb:=Qseq (tawp Qma 0 Qrs (QxK K)) (QxK K)
def QQI:Qb:=Qblk 0 (QYv K)
def QiP (l:List Int) (x:Int) (i:Int):Prop:=Loop Qma 0 QuV Qyv (QQI K) ⟨[(0,(zcs [TI] l)),(1,(zci x)),(5,(zci i))],[],0⟩
theorem Qsy (l:List Int) (x:Int) (i:Int) (h :
 (zif (decide (i<(l.length:Int))) (((0:Int)≤i∧Int.toNat i<l.length)∧(zif ((gtd (0:Int) l (Int.toNat i))==x) (K (Qdb true)) (QiP K l x (w64 (i+(1:Int)))))) (K (Qdb false)))):QiP K l x i :=
 Loop.of (by kernel_rfl) h
theorem QJj (l:List Int) (x:Int) (h :
 (QiP K l x 0)):Hold (tawp Qma (0+0) QSa (TQ 0 0 QuY K) (Qh [(.c (.sl [TI]) l),(.c TI x)])) :=
 Hold.of (by kernel_rfl) h
theorem QGU (l:List Int) (x:Int):TCon Tryz.prog 37 [(.c (.sl [TI]) l),(.c TI x)] (Qdb (Qba l x)):=by
 refine Qo rfl fun hb=>tcg (n:=18) (sg:=QmM.sg) Ql TOk.nil (by kernel_rfl) (by kernel_rfl) (QJj _ l x ?_)
 have hl_l:l.length≤9223372036854775807:=hb.1.1
 refine Zj l (fun r k=>decide (x∈r)=(Qba l x)→QiP (fun r'=>r'=Qdb (Qba l x)) l x (k:Int)) ?_ ?_ rfl
 ·intro he
  refine Qsy (fun r'=>r'=Qdb (Qba l x)) l x _ ⟨fun h=>by simp at h,fun _=>R_eq ?_⟩
  rw [← he];simp
 ·intro k y r hk hlt hg ih he
  refine Qsy (fun r'=>r'=Qdb (Qba l x)) l x _ ⟨fun _=>?_,fun h=>by simp at h;omega⟩
  rw [Int.toNat_natCast,hg,sc1 (by omega)]
  refine ⟨⟨by omega,hlt⟩,fun h=>R_eq ?_,fun h=>ih ?_⟩
  ·rw [← he]
   have:y=x:=by simpa using h
   simp [this]
  ·rw [← he]
   have:¬ y=x:=by simpa using h
   rw [decide_eq_decide]
   simp
   intro h2;exact absurd h2.symm this
theorem QUS:Qi Tryz.prog QmM:=Qm fun x _=>QGU x.1 x.2.1
end
end Go.Proofs.YtjbdljkhbglnhaaGreat.Am

