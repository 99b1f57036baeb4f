/- -/
import Derived.Test.YtjbdljkhbglnhaaGreatZFP1
namespace Go.Proofs.YtjbdljkhbglnhaaGreat.Am
open Go Go.RowKit Go.Proofs.YtjbdljkhbglnhaaGreat
set_option linter.all false
noncomputable section
variable (K:TRes→Prop)
def QrV (t:Int):TRes:=zre (zci t)
def Qdy:TRow:=Qh 190 [(.c TI)] fun x=>(none,QrV (QW x.1))
def QR3:List TRow:=[]
def QM9:TCode :=
 (zsq [(.reg [zmv 2 (zki 0)]),(.reg [zmv 3 0,zop 4 (.mm true 3 (zki (-2147483647))),zop 5 (.mm false 4 (zki 2147483647)),zmv 2 5]),.ret])
def QSK:List (ARv × Md):=[(.t 2,.one .d)]
theorem Q2j (x:Int) (h :
 K (QrV (if (2147483647:Int)<(if x<(-2147483647:Int) then (-2147483647:Int) else x) then (2147483647:Int) else (if x<(-2147483647:Int) then (-2147483647:Int) else x)))):Hold (tawp QR3 (0+0) QM9 (TQ 0 0 QSK K) (Qf [(.c TI x)])) :=
 Hold.of (by kernel_rfl) h
theorem QOU (x:Int):TCon Tryz.prog 190 [(.c TI x)] (QrV (QW x)):=by
 refine Qo rfl fun hb=>tcg (n:=6) (sg:=Qdy.sg) Qj TOk.nil (by kernel_rfl) (by kernel_rfl) (Q2j _ x ?_)
 exact R_eq (QLh x)
theorem Qfc:Qg Tryz.prog Qdy:=Qk fun x _=>QOU x.1
def Qrq (t:Int × Bool):TRes:=zre (.tp [(zci t.1),(zcb t.2)])
def Qgo:TRow:=Qh 189 [(.c TI)] fun x=>(none,Qrq (YI x.1))
def QNc:List TRow:=[Qdy,QgH]
def QIN:TCode :=
 (zsq [(.reg [zmv 2 (zki 0),zmv 3 (zkb false)]),(.reg [zmv 4 0,zca 5 190 [4],zmv 6 0,zca 7 217 [6],zno 8 7,zmv 2 5,zmv 3 8]),.ret])
def QWf:List (ARv × Md):=[(.t 2,.one .d),(.t 3,.one .d)]
theorem Q1j (x:Int) (h :
 K (Qrq ((QW x),(!(Zc x))))):Hold (tawp QNc (0+0) QIN (TQ 0 0 QWf K) (Qf [(.c TI x)])) :=
 Hold.of (by kernel_rfl) h
theorem QIE (x:Int):TCon Tryz.prog 189 [(.c TI x)] (Qrq (YI x)):=by
 refine Qo rfl fun hb=>tcg (n:=9) (sg:=Qgo.sg) Qj (TOk.cons Qfc (TOk.cons Qol TOk.nil)) (by kernel_rfl) (by kernel_rfl) (Q1j _ x ?_)
 exact R_eq rfl
theorem QlS:Qg Tryz.prog Qgo:=Qk fun x _=>QIE x.1
def QgD (t:Int × Bool):TRes:=zre (.tp [(zci t.1),(zcb t.2)])
def QeV:TRow:=Qh 203 [(.c TI)] fun x=>(none,QgD (YI x.1))
def QHJ:List TRow:=[]
def QTR:TCode :=
 (zsq [(.reg [zmv 2 (zki 0),zmv 3 (zkb false)]),(zsq [(.reg [zmv 4 0,zbi 5 .gtr 4 (zki 2147483647)]),(.cond 5 (zsq [(.reg [zmv 2 (zki 2147483647),zmv 3 (zkb true)]),.ret]) .skip)]),(zsq [(.reg [zmv 6 0,zbi 7 .lss 6 (zki (-2147483647))]),(.cond 7 (zsq [(.reg [zmv 2 (zki (-2147483647)),zmv 3 (zkb true)]),.ret]) .skip)]),(.reg [zmv 8 0,zmv 2 8,zmv 3 (zkb false)]),.ret])
def QYu:List (ARv × Md):=[(.t 2,.one .d),(.t 3,.one .d)]
theorem QKm (x:Int) (h :
 (zif (decide (x>(2147483647:Int))) (K (QgD ((2147483647:Int),true))) (zif (decide (x<(-2147483647:Int))) (K (QgD ((-2147483647:Int),true))) (K (QgD (x,false)))))):Hold (tawp QHJ (0+0) QTR (TQ 0 0 QYu K) (Qf [(.c TI x)])) :=
 Hold.of (by kernel_rfl) h
theorem QLy (x:Int):TCon Tryz.prog 203 [(.c TI x)] (QgD (YI x)):=by
 refine Qo rfl fun hb=>tcg (n:=9) (sg:=QeV.sg) Qj TOk.nil (by kernel_rfl) (by kernel_rfl) (QKm _ x ?_)
 refine ⟨fun h=>R_eq ?_,fun h=>⟨fun h2=>R_eq ?_,fun h2=>R_eq ?_⟩⟩
 all_goals (simp at *;simp [YI,QW,Zc,iMin,iMax];omega)
theorem Qi0:Qg Tryz.prog QeV:=Qk fun x _=>QLy x.1
def QrB (t:Int):TRes:=zre (zci t)
def Qey:TRow:=Qh 204 [(.c TI)] fun x=>(none,QrB (QW x.1))
def QYQ:List TRow:=[QeV]
def Q0j:TCode :=
 (zsq [(.reg [zmv 2 (zki 0)]),(.reg [zmv 6 0,zca 7 203 [6],zmv 5 7,zex 8 5 0,zex 9 5 1,zmv 3 8,zmv 4 9]),(.reg [zmv 10 3,zmv 2 10]),.ret])
def QRU:List (ARv × Md):=[(.t 2,.one .d)]
theorem QKj (x:Int) (h :
 K (QrB ((YI x).1))):Hold (tawp QYQ (0+0) Q0j (TQ 0 0 QRU K) (Qf [(.c TI x)])) :=
 Hold.of (by kernel_rfl) h
theorem QP9 (x:Int):TCon Tryz.prog 204 [(.c TI x)] (QrB (QW x)):=by
 refine Qo rfl fun hb=>tcg (n:=11) (sg:=Qey.sg) Qj (TOk.cons Qi0 TOk.nil) (by kernel_rfl) (by kernel_rfl) (QKj _ x ?_)
 exact R_eq rfl
theorem Qjj:Qg Tryz.prog Qey:=Qk fun x _=>QP9 x.1
def Qil (t:Int):TRes:=zre (zci t)
def Qrr:TRow:=Qh 239 [(.c TI),(.c TI)] fun x=>(some (Qo5 x.1 x.2.1),Qil (Qjm x.1 x.2.1))
def QND:List TRow:=[]
def QRx:TCode :=
 (zsq [(.reg [zmv 4 (zki 0)]),(.reg [zmv 6 0,zmv 7 1,zbi 8 .quo 6 7,zmv 5 8]),(zsq [(.reg [zmv 9 0,zmv 10 1,zbi 11 .rem 9 10,zbi 12 .neq 11 (zki 0),zmv 13 12,.grp 13 true [zmv 14 0,zbi 15 .lss 14 (zki 0),zmv 16 1,zbi 17 .lss 16 (zki 0),zop 18 (.eqb true 15 17)] 19 18]),(.cond 19 (.reg [zmv 20 5,zbi 21 .sub 20 (zki 1),zmv 5 21]) .skip)]),(.reg [zmv 22 5,zmv 4 22]),.ret])
def Q1Z:List (ARv × Md):=[(.t 4,.one .d)]
theorem QKo (a:Int) (b:Int) (h :
 ((¬ (b:Int)=0)∧((¬ (b:Int)=0)∧(zif (((Int.tmod a b) != (0:Int))&&(!((decide (a<(0:Int)))==(decide (b<(0:Int)))))) (K (Qil (w64 ((w64 (Int.tdiv a b))-(1:Int))))) (K (Qil (w64 (Int.tdiv a b)))))))):Hold (tawp QND (0+0) QRx (TQ 0 0 Q1Z K) (Qf [(.c TI a),(.c TI b)])) :=
 Hold.of (by kernel_rfl) h
theorem QHL (a:Int) (b:Int) (hp:Qo5 a b):TCon Tryz.prog 239 [(.c TI a),(.c TI b)] (Qil (Qjm a b)):=by
 refine Qo rfl fun hb=>tcg (n:=23) (sg:=Qrr.sg) Qj TOk.nil (by kernel_rfl) (by kernel_rfl) (QKo _ a b ?_)
 obtain ⟨h1,h2,rfl⟩:=hp
 have hq:w64 (Int.tdiv a 65536)=Int.tdiv a 65536:=by
  rw [Int.tdiv_eq_ediv];have:Int.sign 65536=1:=rfl;rw [this];exact Qq (by split <;> omega) (by split <;> omega)
 have hq1:w64 (Int.tdiv a 65536-1)=Int.tdiv a 65536-1:=by
  rw [Int.tdiv_eq_ediv];have:Int.sign 65536=1:=rfl;rw [this];exact Qq (by split <;> omega) (by split <;> omega)
 have hf:=QOx a
 rw [hq,hq1]
 refine ⟨by omega,by omega,fun h=>R_eq ?_,fun h=>R_eq ?_⟩
 ·rw [if_pos h] at hf;exact hf
 ·rw [if_neg (by rw [h];simp)] at hf;exact hf
theorem QKa:Qg Tryz.prog Qrr:=Qk fun x h=>QHL x.1 x.2.1 h
def Qnw (t:Int × Bool):TRes:=zre (.tp [(zci t.1),(zcb t.2)])
def Qes:TRow:=Qh 121 [(.c TI),(.c TI)] fun x=>(none,Qnw (Q9 x.1 x.2.1))
def QLj:List TRow:=[Qdy,Qgo]
def QZJ:TCode :=
 (zsq [(.reg [zmv 4 (zki 0),zmv 5 (zkb false)]),(.reg [zmv 6 0,zca 7 190 [6],zmv 8 1,zca 9 190 [8],zbi 10 .add 7 9,zca 11 189 [10],zex 12 11 0,zex 13 11 1,zmv 4 12,zmv 5 13]),.ret])
def QRN:List (ARv × Md):=[(.t 4,.one .d),(.t 5,.one .d)]
theorem QSl (a:Int) (b:Int) (h :
 K (Qnw ((YI (w64 ((QW a)+(QW b)))).1,(YI (w64 ((QW a)+(QW b)))).2))):Hold (tawp QLj (0+0) QZJ (TQ 0 0 QRN K) (Qf [(.c TI a),(.c TI b)])) :=
 Hold.of (by kernel_rfl) h
theorem QKb (a:Int) (b:Int):TCon Tryz.prog 121 [(.c TI a),(.c TI b)] (Qnw (Q9 a b)):=by
 refine Qo rfl fun hb=>tcg (n:=14) (sg:=Qes.sg) Qj (TOk.cons Qfc (TOk.cons QlS TOk.nil)) (by kernel_rfl) (by kernel_rfl) (QSl _ a b ?_)
 have h1:=Qav a
 have h2:=Qav b
 rw [Qq (x:=QW a+QW b) (by omega) (by omega)]
 exact R_eq rfl
theorem QkV:Qg Tryz.prog Qes:=Qk fun x _=>QKb x.1 x.2.1
def Qrl (t:Int × Bool):TRes:=zre (.tp [(zci t.1),(zcb t.2)])
def Qc1:TRow:=Qh 162 [(.c TI),(.c TI)] fun x=>(none,Qrl (Q9 x.1 x.2.1))
def QX7:List TRow:=[Qey,QeV]
def QKB:TCode :=
 (zsq [(.reg [zmv 4 (zki 0),zmv 5 (zkb false)]),(.reg [zmv 6 0,zca 7 204 [6],zmv 8 1,zca 9 204 [8],zbi 10 .add 7 9,zca 11 203 [10],zex 12 11 0,zex 13 11 1,zmv 4 12,zmv 5 13]),.ret])
def QLr:List (ARv × Md):=[(.t 4,.one .d),(.t 5,.one .d)]
theorem QRB (a:Int) (b:Int) (h :
 K (Qrl ((YI (w64 ((QW a)+(QW b)))).1,(YI (w64 ((QW a)+(QW b)))).2))):Hold (tawp QX7 (0+0) QKB (TQ 0 0 QLr K) (Qf [(.c TI a),(.c TI b)])) :=
 Hold.of (by kernel_rfl) h
theorem QUd (a:Int) (b:Int):TCon Tryz.prog 162 [(.c TI a),(.c TI b)] (Qrl (Q9 a b)):=by
 refine Qo rfl fun hb=>tcg (n:=14) (sg:=Qc1.sg) Qj (TOk.cons Qjj (TOk.cons Qi0 TOk.nil)) (by kernel_rfl) (by kernel_rfl) (QRB _ a b ?_)
 have h1:=Qav a
 have h2:=Qav b
 rw [Qq (x:=QW a+QW b) (by omega) (by omega)]
 exact R_eq rfl
theorem Qge:Qg Tryz.prog Qc1:=Qk fun x _=>QUd x.1 x.2.1
def Qm4 (t:Int × Bool):TRes:=zre (.tp [(zci t.1),(zcb t.2)])
def Qoe:TRow:=Qh 192 [(.c TI),(.c TI)] fun x=>(none,Qm4 (JK x.1 x.2.1))
def Q2u:List TRow:=[Qdy,Qgo]
def QIV:TCode :=
 (zsq [(.reg [zmv 4 (zki 0),zmv 5 (zkb false)]),(.reg [zmv 6 0,zca 7 190 [6],zmv 8 1,zca 9 190 [8],zbi 10 .sub 7 9,zca 11 189 [10],zex 12 11 0,zex 13 11 1,zmv 4 12,zmv 5 13]),.ret])
def Q1F:List (ARv × Md):=[(.t 4,.one .d),(.t 5,.one .d)]
theorem QO1 (a:Int) (b:Int) (h :
 K (Qm4 ((YI (w64 ((QW a)-(QW b)))).1,(YI (w64 ((QW a)-(QW b)))).2))):Hold (tawp Q2u (0+0) QIV (TQ 0 0 Q1F K) (Qf [(.c TI a),(.c TI b)])) :=
 Hold.of (by kernel_rfl) h
theorem Q1E (a:Int) (b:Int):TCon Tryz.prog 192 [(.c TI a),(.c TI b)] (Qm4 (JK a b)):=by
 refine Qo rfl fun hb=>tcg (n:=14) (sg:=Qoe.sg) Qj (TOk.cons Qfc (TOk.cons QlS TOk.nil)) (by kernel_rfl) (by kernel_rfl) (QO1 _ a b ?_)
 have h1:=Qav a
 have h2:=Qav b
 rw [Qq (x:=QW a-QW b) (by omega) (by omega)]
 exact R_eq rfl
theorem QOA:Qg Tryz.prog Qoe:=Qk fun x _=>Q1E x.1 x.2.1
def Qm6 (t:Int × Bool):TRes:=zre (.tp [(zci t.1),(zcb t.2)])
def QmM:TRow:=Qh 208 [(.c TI),(.c TI)] fun x=>(none,Qm6 (JK x.1 x.2.1))
def QSN:List TRow:=[Qey,QeV]
def QVF:TCode :=
 (zsq [(.reg [zmv 4 (zki 0),zmv 5 (zkb false)]),(.reg [zmv 6 0,zca 7 204 [6],zmv 8 1,zca 9 204 [8],zbi 10 .sub 7 9,zca 11 203 [10],zex 12 11 0,zex 13 11 1,zmv 4 12,zmv 5 13]),.ret])
def QIQ:List (ARv × Md):=[(.t 4,.one .d),(.t 5,.one .d)]
theorem QPM (a:Int) (b:Int) (h :
 K (Qm6 ((YI (w64 ((QW a)-(QW b)))).1,(YI (w64 ((QW a)-(QW b)))).2))):Hold (tawp QSN (0+0) QVF (TQ 0 0 QIQ K) (Qf [(.c TI a),(.c TI b)])) :=
 Hold.of (by kernel_rfl) h
theorem QX6 (a:Int) (b:Int):TCon Tryz.prog 208 [(.c TI a),(.c TI b)] (Qm6 (JK a b)):=by
 refine Qo rfl fun hb=>tcg (n:=14) (sg:=QmM.sg) Qj (TOk.cons Qjj (TOk.cons Qi0 TOk.nil)) (by kernel_rfl) (by kernel_rfl) (QPM _ a b ?_)
 have h1:=Qav a
 have h2:=Qav b
 rw [Qq (x:=QW a-QW b) (by omega) (by omega)]
 exact R_eq rfl
theorem QZq:Qg Tryz.prog QmM:=Qk fun x _=>QX6 x.1 x.2.1
def Qm5 (t:Int × Bool):TRes:=zre (.tp [(zci t.1),(zcb t.2)])
def QfK:TRow:=Qh 216 [(.c TI),(.c TI)] fun x=>(none,Qm5 (Zq x.1 x.2.1))
def QNr:List TRow:=[Qdy,Qgo]
def Q01:TCode :=
 (zsq [(.reg [zmv 4 (zki 0),zmv 5 (zkb false)]),(.reg [zmv 6 0,zca 7 190 [6],zmv 8 1,zca 9 190 [8],zbi 10 .mul 7 9,zbi 11 .shr 10 (.k (.c (.int .u64) (16:Int))),zca 12 189 [11],zex 13 12 0,zex 14 12 1,zmv 4 13,zmv 5 14]),.ret])
def QWa:List (ARv × Md):=[(.t 4,.one .d),(.t 5,.one .d)]
theorem QJS (a:Int) (b:Int) (h :
 (((0:Int)≤(16:Int))∧K (Qm5 ((YI (Int.fdiv (w64 ((QW a)*(QW b))) (2 ^ (min (Int.toNat (16:Int)) (IntKind.i64.bits))))).1,(YI (Int.fdiv (w64 ((QW a)*(QW b))) (2 ^ (min (Int.toNat (16:Int)) (IntKind.i64.bits))))).2)))):Hold (tawp QNr (0+0) Q01 (TQ 0 0 QWa K) (Qf [(.c TI a),(.c TI b)])) :=
 Hold.of (by kernel_rfl) h
theorem QOv (a:Int) (b:Int):TCon Tryz.prog 216 [(.c TI a),(.c TI b)] (Qm5 (Zq a b)):=by
 refine Qo rfl fun hb=>tcg (n:=15) (sg:=QfK.sg) Qj (TOk.cons Qfc (TOk.cons QlS TOk.nil)) (by kernel_rfl) (by kernel_rfl) (QJS _ a b ?_)
 have h:=QC4 a b
 rw [Qq (x:=QW a*QW b) (by omega) (by omega)]
 exact ⟨by omega,R_eq rfl⟩
theorem QmB:Qg Tryz.prog QfK:=Qk fun x _=>QOv x.1 x.2.1
def Qo3 (t:Int × Bool):TRes:=zre (.tp [(zci t.1),(zcb t.2)])
def QfG:TRow:=Qh 229 [(.c TI),(.c TI)] fun x=>(none,Qo3 (Zq x.1 x.2.1))
def QSI:List TRow:=[Qey,Qrr,QeV]
def Q2d:TCode :=
 (zsq [(.reg [zmv 4 (zki 0),zmv 5 (zkb false)]),(.reg [zmv 6 0,zca 7 204 [6],zmv 8 1,zca 9 204 [8],zbi 10 .mul 7 9,zca 11 239 [10,(zki 65536)],zca 12 203 [11],zex 13 12 0,zex 14 12 1,zmv 4 13,zmv 5 14]),.ret])
def QXy:List (ARv × Md):=[(.t 4,.one .d),(.t 5,.one .d)]
theorem QYh (a:Int) (b:Int) (h :
 ((Qo5 (w64 ((QW a)*(QW b))) (65536:Int))∧K (Qo3 ((YI (Qjm (w64 ((QW a)*(QW b))) (65536:Int))).1,(YI (Qjm (w64 ((QW a)*(QW b))) (65536:Int))).2)))):Hold (tawp QSI (0+0) Q2d (TQ 0 0 QXy K) (Qf [(.c TI a),(.c TI b)])) :=
 Hold.of (by kernel_rfl) h
theorem QSy (a:Int) (b:Int):TCon Tryz.prog 229 [(.c TI a),(.c TI b)] (Qo3 (Zq a b)):=by
 refine Qo rfl fun hb=>tcg (n:=15) (sg:=QfG.sg) Qj (TOk.cons Qjj (TOk.cons QKa (TOk.cons Qi0 TOk.nil))) (by kernel_rfl) (by kernel_rfl) (QYh _ a b ?_)
 have h:=QC4 a b
 rw [Qq (x:=QW a*QW b) (by omega) (by omega)]
 exact ⟨⟨h.1,h.2,rfl⟩,R_eq rfl⟩
theorem Qqw:Qg Tryz.prog QfG:=Qk fun x _=>QSy x.1 x.2.1
def QpU (t:Int):TRes:=zre (zci t)
def Qnr:TRow:=Qh 234 [(.c TI)] fun x=>(none,QpU (QaH x.1))
def QSZ:List TRow:=[Qdy]
def QXZ:TCode :=
 (zsq [(.reg [zmv 2 (zki 0)]),(.reg [zmv 3 0,zca 4 190 [3],zop 5 (.mm true (zki 0) 4),zmv 2 5]),.ret])
def QRv:List (ARv × Md):=[(.t 2,.one .d)]
theorem QMp (a:Int) (h :
 K (QpU (if (0:Int)<(QW a) then (QW a) else (0:Int)))):Hold (tawp QSZ (0+0) QXZ (TQ 0 0 QRv K) (Qf [(.c TI a)])) :=
 Hold.of (by kernel_rfl) h
theorem QVL (a:Int):TCon Tryz.prog 234 [(.c TI a)] (QpU (QaH a)):=by
 refine Qo rfl fun hb=>tcg (n:=6) (sg:=Qnr.sg) Qj (TOk.cons Qfc TOk.nil) (by kernel_rfl) (by kernel_rfl) (QMp _ a ?_)
 exact R_eq rfl
theorem QXn:Qg Tryz.prog Qnr:=Qk fun x _=>QVL x.1
def Qrv (t:Int):TRes:=zre (zci t)
def QnO:TRow:=Qh 238 [(.c TI)] fun x=>(none,Qrv (QaH x.1))
def QPD:List TRow:=[Qey]
def QQH:TCode :=
 (zsq [(.reg [zmv 2 (zki 0)]),(.reg [zmv 3 0,zca 4 204 [3],zop 5 (.mm true (zki 0) 4),zmv 2 5]),.ret])
def QZd:List (ARv × Md):=[(.t 2,.one .d)]
theorem QNS (a:Int) (h :
 K (Qrv (if (0:Int)<(QW a) then (QW a) else (0:Int)))):Hold (tawp QPD (0+0) QQH (TQ 0 0 QZd K) (Qf [(.c TI a)])) :=
 Hold.of (by kernel_rfl) h
theorem QTg (a:Int):TCon Tryz.prog 238 [(.c TI a)] (Qrv (QaH a)):=by
 refine Qo rfl fun hb=>tcg (n:=6) (sg:=QnO.sg) Qj (TOk.cons Qjj TOk.nil) (by kernel_rfl) (by kernel_rfl) (QNS _ a ?_)
 exact R_eq rfl
theorem QPE:Qg Tryz.prog QnO:=Qk fun x _=>QTg x.1
def Qnq (t:(List Int)):TRes:=⟨(.r [TI] 0 0 t.length),[(.sl 3 [TI] true t)],[],true,[]⟩
def QaJ:TRow:=Qh 119 [(.c (.sl [TI]))] fun x=>(some (Qv (α:=List Int) x.1),Qnq (id (α:=List Int) x.1))
def QIR:List TRow:=[]
def QNZ:TCode :=
 (zsq [(.reg [zmv 2 (.k (.n [TI]))]),(.reg [zop 3 (.bsl 3 [TI] []),zmv 4 0,zop 5 (.app 3 4 3 [TI]),zmv 2 5]),.ret])
def QZs:List (ARv × Md):=[(.t 2,.one (.o 3))]
theorem QYp (l:List Int) (h :
 (((0=0∨0+l.length≤0)∧0+l.length≤big)∧K (Qnq (List.take (0+l.length) (l:List Int))))):Hold (tawp QIR (0+0) QNZ (TQ 0 0 QZs K) (Qf [(.c (.sl [TI]) l)])) :=
 Hold.of (by kernel_rfl) h
theorem QK8 (l:List Int) (hp:Qv (α:=List Int) l):TCon Tryz.prog 119 [(.c (.sl [TI]) l)] (Qnq (id (α:=List Int) l)):=by
 refine Qo rfl fun hb=>tcg (n:=6) (sg:=QaJ.sg) Qj TOk.nil (by kernel_rfl) (by kernel_rfl) (QYp _ l ?_)
 have hl_l:l.length≤9223372036854775807:=hb.1.1
 have hl:=ZW l
 unfold Qv at hp
 exact ⟨⟨.inl rfl,by rw [Q1];omega⟩,R_eq (by simp)⟩
theorem Qbq:Qg Tryz.prog QaJ:=Qk fun x h=>QK8 x.1 h
end
end Go.Proofs.YtjbdljkhbglnhaaGreat.Am

