/- -/
import Derived.Test.YtjbdljkhbglnhaaGreatZAP1
namespace Go.Proofs.YtjbdljkhbglnhaaGreat.Am
open Go Go.RowKit Go.Proofs.YtjbdljkhbglnhaaGreat
set_option linter.all false
noncomputable section
variable (K:TRes→Prop)
def QlQ (t:Int):TRes:=zre (zci t)
def QcC:TRow:=Qj 190 [(.c TI)] fun x=>(none,QlQ (Zd x.1))
def QDt:List TRow:=[]
def QPE:TCode :=
 (zsq [(.reg [zmv 2 (zki 0)]),(.reg [zmv 3 0,zop 4 (.mm true 3 (zki (-2147483647))),zop 5 (.mm false 4 (zki 2147483647)),zmv 2 5]),.ret])
def QA2:List (ARv × Md):=[(.t 2,.one .d)]
theorem QK6 (x:Int) (h :
 K (QlQ (if (2147483647:Int)<(if x<(-2147483647:Int) then (-2147483647:Int) else x) then (2147483647:Int) else (if x<(-2147483647:Int) then (-2147483647:Int) else x)))):Hold (tawp QDt (0+0) QPE (TQ 0 0 QA2 K) (Qf [(.c TI x)])) :=
 Hold.of (by kernel_rfl) h
theorem QBi (x:Int):TCon Tryz.prog 190 [(.c TI x)] (QlQ (Zd x)):=by
 refine Qq rfl fun hb=>tcg (n:=6) (sg:=QcC.sg) Ql TOk.nil (by kernel_rfl) (by kernel_rfl) (QK6 _ x ?_)
 exact R_eq (QEQ x)
theorem QeF:Qi Tryz.prog QcC:=Qm fun x _=>QBi x.1
def Qmo (t:Int × Bool):TRes:=zre (.tp [(zci t.1),(zcb t.2)])
def Qfg:TRow:=Qj 189 [(.c TI)] fun x=>(none,Qmo (JE x.1))
def QQk:List TRow:=[QcC,Qen]
def QAt:TCode :=
 (zsq [(.reg [zmv 2 (zki 0),zmv 3 (zkb false)]),(.reg [zmv 4 0,zca 5 190 [4],zmv 6 0,zca 7 217 [6],zno 8 7,zmv 2 5,zmv 3 8]),.ret])
def QBA:List (ARv × Md):=[(.t 2,.one .d),(.t 3,.one .d)]
theorem QIA (x:Int) (h :
 K (Qmo ((Zd x),(!(Q6 x))))):Hold (tawp QQk (0+0) QAt (TQ 0 0 QBA K) (Qf [(.c TI x)])) :=
 Hold.of (by kernel_rfl) h
theorem QGD (x:Int):TCon Tryz.prog 189 [(.c TI x)] (Qmo (JE x)):=by
 refine Qq rfl fun hb=>tcg (n:=9) (sg:=Qfg.sg) Ql (TOk.cons QeF (TOk.cons Qnw TOk.nil)) (by kernel_rfl) (by kernel_rfl) (QIA _ x ?_)
 exact R_eq rfl
theorem QjR:Qi Tryz.prog Qfg:=Qm fun x _=>QGD x.1
def QkP (t:Int × Bool):TRes:=zre (.tp [(zci t.1),(zcb t.2)])
def QdI:TRow:=Qj 121 [(.c TI),(.c TI)] fun x=>(none,QkP (Zi x.1 x.2.1))
def QHM:List TRow:=[QcC,Qfg]
def QB1:TCode :=
 (zsq [(.reg [zmv 4 (zki 0),zmv 5 (zkb false)]),(.reg [zmv 6 0,zca 7 190 [6],zmv 8 1,zca 9 190 [8],zbi 10 .add 7 9,zca 11 189 [10],zex 12 11 0,zex 13 11 1,zmv 4 12,zmv 5 13]),.ret])
def QKc:List (ARv × Md):=[(.t 4,.one .d),(.t 5,.one .d)]
theorem QJx (a:Int) (b:Int) (h :
 K (QkP ((JE (w64 ((Zd a)+(Zd b)))).1,(JE (w64 ((Zd a)+(Zd b)))).2))):Hold (tawp QHM (0+0) QB1 (TQ 0 0 QKc K) (Qf [(.c TI a),(.c TI b)])) :=
 Hold.of (by kernel_rfl) h
theorem QKB (a:Int) (b:Int):TCon Tryz.prog 121 [(.c TI a),(.c TI b)] (QkP (Zi a b)):=by
 refine Qq rfl fun hb=>tcg (n:=14) (sg:=QdI.sg) Ql (TOk.cons QeF (TOk.cons QjR TOk.nil)) (by kernel_rfl) (by kernel_rfl) (QJx _ a b ?_)
 have h1:=QbQ a
 have h2:=QbQ b
 rw [Qp (x:=Zd a+Zd b) (by omega) (by omega)]
 exact R_eq rfl
theorem QfT:Qi Tryz.prog QdI:=Qm fun x _=>QKB x.1 x.2.1
def QjN (t:Int × Bool):TRes:=zre (.tp [(zci t.1),(zcb t.2)])
def QkQ:TRow:=Qj 192 [(.c TI),(.c TI)] fun x=>(none,QjN (Qbw x.1 x.2.1))
def QPY:List TRow:=[QcC,Qfg]
def QAw:TCode :=
 (zsq [(.reg [zmv 4 (zki 0),zmv 5 (zkb false)]),(.reg [zmv 6 0,zca 7 190 [6],zmv 8 1,zca 9 190 [8],zbi 10 .sub 7 9,zca 11 189 [10],zex 12 11 0,zex 13 11 1,zmv 4 12,zmv 5 13]),.ret])
def QPG:List (ARv × Md):=[(.t 4,.one .d),(.t 5,.one .d)]
theorem QF4 (a:Int) (b:Int) (h :
 K (QjN ((JE (w64 ((Zd a)-(Zd b)))).1,(JE (w64 ((Zd a)-(Zd b)))).2))):Hold (tawp QPY (0+0) QAw (TQ 0 0 QPG K) (Qf [(.c TI a),(.c TI b)])) :=
 Hold.of (by kernel_rfl) h
theorem QCJ (a:Int) (b:Int):TCon Tryz.prog 192 [(.c TI a),(.c TI b)] (QjN (Qbw a b)):=by
 refine Qq rfl fun hb=>tcg (n:=14) (sg:=QkQ.sg) Ql (TOk.cons QeF (TOk.cons QjR TOk.nil)) (by kernel_rfl) (by kernel_rfl) (QF4 _ a b ?_)
 have h1:=QbQ a
 have h2:=QbQ b
 rw [Qp (x:=Zd a-Zd b) (by omega) (by omega)]
 exact R_eq rfl
theorem QMX:Qi Tryz.prog QkQ:=Qm fun x _=>QCJ x.1 x.2.1
def Qk9 (t:Int × Bool):TRes:=zre (.tp [(zci t.1),(zcb t.2)])
def Qe6:TRow:=Qj 216 [(.c TI),(.c TI)] fun x=>(none,Qk9 (ZS x.1 x.2.1))
def QHH:List TRow:=[QcC,Qfg]
def QRo:TCode :=
 (zsq [(.reg [zmv 4 (zki 0),zmv 5 (zkb false)]),(.reg [zmv 6 0,zca 7 190 [6],zmv 8 1,zca 9 190 [8],zbi 10 .mul 7 9,zbi 11 .shr 10 (.k (.c (.int .u64) (16:Int))),zca 12 189 [11],zex 13 12 0,zex 14 12 1,zmv 4 13,zmv 5 14]),.ret])
def QGB:List (ARv × Md):=[(.t 4,.one .d),(.t 5,.one .d)]
theorem QKO (a:Int) (b:Int) (h :
 (((0:Int)≤(16:Int))∧K (Qk9 ((JE (Int.fdiv (w64 ((Zd a)*(Zd b))) (2 ^ (min (Int.toNat (16:Int)) (IntKind.i64.bits))))).1,(JE (Int.fdiv (w64 ((Zd a)*(Zd b))) (2 ^ (min (Int.toNat (16:Int)) (IntKind.i64.bits))))).2)))):Hold (tawp QHH (0+0) QRo (TQ 0 0 QGB K) (Qf [(.c TI a),(.c TI b)])) :=
 Hold.of (by kernel_rfl) h
theorem QJJ (a:Int) (b:Int):TCon Tryz.prog 216 [(.c TI a),(.c TI b)] (Qk9 (ZS a b)):=by
 refine Qq rfl fun hb=>tcg (n:=15) (sg:=Qe6.sg) Ql (TOk.cons QeF (TOk.cons QjR TOk.nil)) (by kernel_rfl) (by kernel_rfl) (QKO _ a b ?_)
 have h:=QGu a b
 rw [Qp (x:=Zd a*Zd b) (by omega) (by omega)]
 exact ⟨by omega,R_eq rfl⟩
theorem QmJ:Qi Tryz.prog Qe6:=Qm fun x _=>QJJ x.1 x.2.1
def Qn1 (t:Int):TRes:=zre (zci t)
def QnU:TRow:=Qj 234 [(.c TI)] fun x=>(none,Qn1 (QcP x.1))
def QQq:List TRow:=[QcC]
def QGQ:TCode :=
 (zsq [(.reg [zmv 2 (zki 0)]),(.reg [zmv 3 0,zca 4 190 [3],zop 5 (.mm true (zki 0) 4),zmv 2 5]),.ret])
def QNH:List (ARv × Md):=[(.t 2,.one .d)]
theorem QFA (a:Int) (h :
 K (Qn1 (if (0:Int)<(Zd a) then (Zd a) else (0:Int)))):Hold (tawp QQq (0+0) QGQ (TQ 0 0 QNH K) (Qf [(.c TI a)])) :=
 Hold.of (by kernel_rfl) h
theorem QCZ (a:Int):TCon Tryz.prog 234 [(.c TI a)] (Qn1 (QcP a)):=by
 refine Qq rfl fun hb=>tcg (n:=6) (sg:=QnU.sg) Ql (TOk.cons QeF TOk.nil) (by kernel_rfl) (by kernel_rfl) (QFA _ a ?_)
 exact R_eq rfl
theorem QLM:Qi Tryz.prog QnU:=Qm fun x _=>QCZ x.1
def Qly (t:(List Int)):TRes:=⟨(.r [TI] 0 0 t.length),[(.sl 3 [TI] true t)],[],true,[]⟩
def Qah:TRow:=Qj 119 [(.c (.sl [TI]))] fun x=>(some (QE (α:=List Int) x.1),Qly (id (α:=List Int) x.1))
def QDO:List TRow:=[]
def QEB:TCode :=
 (zsq [(.reg [zmv 2 (.k (.n [TI]))]),(.reg [zop 3 (.bsl 3 [TI] []),zmv 4 0,zop 5 (.app 3 4 3 [TI]),zmv 2 5]),.ret])
def QIe:List (ARv × Md):=[(.t 2,.one (.o 3))]
theorem QPk (l:List Int) (h :
 (((0=0∨0+l.length≤0)∧0+l.length≤big)∧K (Qly (List.take (0+l.length) (l:List Int))))):Hold (tawp QDO (0+0) QEB (TQ 0 0 QIe K) (Qf [(.c (.sl [TI]) l)])) :=
 Hold.of (by kernel_rfl) h
theorem QB3 (l:List Int) (hp:QE (α:=List Int) l):TCon Tryz.prog 119 [(.c (.sl [TI]) l)] (Qly (id (α:=List Int) l)):=by
 refine Qq rfl fun hb=>tcg (n:=6) (sg:=Qah.sg) Ql TOk.nil (by kernel_rfl) (by kernel_rfl) (QPk _ l ?_)
 have hl_l:l.length≤9223372036854775807:=hb.1.1
 have hl:=Ja l
 unfold QE at hp
 exact ⟨⟨.inl rfl,by rw [Zy];omega⟩,R_eq (by simp)⟩
theorem Qbf:Qi Tryz.prog Qah:=Qm fun x h=>QB3 x.1 h
end
end Go.Proofs.YtjbdljkhbglnhaaGreat.Am

