/- -/
import Derived.Test.YtjbdljkhbglnhaaGreatZHP1
namespace Go.Proofs.YtjbdljkhbglnhaaGreat.Am
open Go Go.RowKit Go.Proofs.YtjbdljkhbglnhaaGreat
set_option linter.all false
noncomputable section
variable (K:TRes→Prop)
def Qk3 (t:Int):TRes:=zre (zci t)
def Qcw:TRow:=Qg 190 [(.c TI)] fun x=>(none,Qk3 (Zf x.1))
def QFR:List TRow:=[]
def QIb:TCode :=
 (zsq [(.reg [zmv 2 (zki 0)]),(.reg [zmv 3 0,zop 4 (.mm true 3 (zki (-2147483647))),zop 5 (.mm false 4 (zki 2147483647)),zmv 2 5]),.ret])
def QDc:List (ARv × Md):=[(.t 2,.one .d)]
theorem QP7 (x:Int) (h :
 K (Qk3 (if (2147483647:Int)<(if x<(-2147483647:Int) then (-2147483647:Int) else x) then (2147483647:Int) else (if x<(-2147483647:Int) then (-2147483647:Int) else x)))):Hold (tawp QFR (0+0) QIb (TQ 0 0 QDc K) (Qf [(.c TI x)])) :=
 Hold.of (by kernel_rfl) h
theorem QML (x:Int):TCon Tryz.prog 190 [(.c TI x)] (Qk3 (Zf x)):=by
 refine Qq rfl fun hb=>tcg (n:=6) (sg:=Qcw.sg) Qj TOk.nil (by kernel_rfl) (by kernel_rfl) (QP7 _ x ?_)
 exact R_eq (QE8 x)
theorem QeN:Qh Tryz.prog Qcw:=Qk fun x _=>QML x.1
def QkR (t:Int × Bool):TRes:=zre (.tp [(zci t.1),(zcb t.2)])
def Qe1:TRow:=Qg 189 [(.c TI)] fun x=>(none,QkR (JI x.1))
def QM7:List TRow:=[Qcw,QfH]
def QQO:TCode :=
 (zsq [(.reg [zmv 2 (zki 0),zmv 3 (zkb false)]),(.reg [zmv 4 0,zca 5 190 [4],zmv 6 0,zca 7 217 [6],zno 8 7,zmv 2 5,zmv 3 8]),.ret])
def QNa:List (ARv × Md):=[(.t 2,.one .d),(.t 3,.one .d)]
theorem QKF (x:Int) (h :
 K (QkR ((Zf x),(!(Za x))))):Hold (tawp QM7 (0+0) QQO (TQ 0 0 QNa K) (Qf [(.c TI x)])) :=
 Hold.of (by kernel_rfl) h
theorem QC9 (x:Int):TCon Tryz.prog 189 [(.c TI x)] (QkR (JI x)):=by
 refine Qq rfl fun hb=>tcg (n:=9) (sg:=Qe1.sg) Qj (TOk.cons QeN (TOk.cons QlM TOk.nil)) (by kernel_rfl) (by kernel_rfl) (QKF _ x ?_)
 exact R_eq rfl
theorem Qng:Qh Tryz.prog Qe1:=Qk fun x _=>QC9 x.1
def Qnw (t:Int × Bool):TRes:=zre (.tp [(zci t.1),(zcb t.2)])
def Qed:TRow:=Qg 121 [(.c TI),(.c TI)] fun x=>(none,Qnw (Zl x.1 x.2.1))
def QNj:List TRow:=[Qcw,Qe1]
def QLz:TCode :=
 (zsq [(.reg [zmv 4 (zki 0),zmv 5 (zkb false)]),(.reg [zmv 6 0,zca 7 190 [6],zmv 8 1,zca 9 190 [8],zbi 10 .add 7 9,zca 11 189 [10],zex 12 11 0,zex 13 11 1,zmv 4 12,zmv 5 13]),.ret])
def QGb:List (ARv × Md):=[(.t 4,.one .d),(.t 5,.one .d)]
theorem QNF (a:Int) (b:Int) (h :
 K (Qnw ((JI (w64 ((Zf a)+(Zf b)))).1,(JI (w64 ((Zf a)+(Zf b)))).2))):Hold (tawp QNj (0+0) QLz (TQ 0 0 QGb K) (Qf [(.c TI a),(.c TI b)])) :=
 Hold.of (by kernel_rfl) h
theorem QJx (a:Int) (b:Int):TCon Tryz.prog 121 [(.c TI a),(.c TI b)] (Qnw (Zl a b)):=by
 refine Qq rfl fun hb=>tcg (n:=14) (sg:=Qed.sg) Qj (TOk.cons QeN (TOk.cons Qng TOk.nil)) (by kernel_rfl) (by kernel_rfl) (QNF _ a b ?_)
 have h1:=QbX a
 have h2:=QbX b
 rw [Qo (x:=Zf a+Zf b) (by omega) (by omega)]
 exact R_eq rfl
theorem QgW:Qh Tryz.prog Qed:=Qk fun x _=>QJx x.1 x.2.1
def Qk7 (t:Int × Bool):TRes:=zre (.tp [(zci t.1),(zcb t.2)])
def Qoi:TRow:=Qg 192 [(.c TI),(.c TI)] fun x=>(none,Qk7 (QbG x.1 x.2.1))
def QA4:List TRow:=[Qcw,Qe1]
def QGP:TCode :=
 (zsq [(.reg [zmv 4 (zki 0),zmv 5 (zkb false)]),(.reg [zmv 6 0,zca 7 190 [6],zmv 8 1,zca 9 190 [8],zbi 10 .sub 7 9,zca 11 189 [10],zex 12 11 0,zex 13 11 1,zmv 4 12,zmv 5 13]),.ret])
def QGI:List (ARv × Md):=[(.t 4,.one .d),(.t 5,.one .d)]
theorem QEi (a:Int) (b:Int) (h :
 K (Qk7 ((JI (w64 ((Zf a)-(Zf b)))).1,(JI (w64 ((Zf a)-(Zf b)))).2))):Hold (tawp QA4 (0+0) QGP (TQ 0 0 QGI K) (Qf [(.c TI a),(.c TI b)])) :=
 Hold.of (by kernel_rfl) h
theorem QPF (a:Int) (b:Int):TCon Tryz.prog 192 [(.c TI a),(.c TI b)] (Qk7 (QbG a b)):=by
 refine Qq rfl fun hb=>tcg (n:=14) (sg:=Qoi.sg) Qj (TOk.cons QeN (TOk.cons Qng TOk.nil)) (by kernel_rfl) (by kernel_rfl) (QEi _ a b ?_)
 have h1:=QbX a
 have h2:=QbX b
 rw [Qo (x:=Zf a-Zf b) (by omega) (by omega)]
 exact R_eq rfl
theorem QGw:Qh Tryz.prog Qoi:=Qk fun x _=>QPF x.1 x.2.1
def Qlg (t:Int × Bool):TRes:=zre (.tp [(zci t.1),(zcb t.2)])
def Qfn:TRow:=Qg 216 [(.c TI),(.c TI)] fun x=>(none,Qlg (ZV x.1 x.2.1))
def QCz:List TRow:=[Qcw,Qe1]
def QDD:TCode :=
 (zsq [(.reg [zmv 4 (zki 0),zmv 5 (zkb false)]),(.reg [zmv 6 0,zca 7 190 [6],zmv 8 1,zca 9 190 [8],zbi 10 .mul 7 9,zbi 11 .shr 10 (.k (.c (.int .u64) (16:Int))),zca 12 189 [11],zex 13 12 0,zex 14 12 1,zmv 4 13,zmv 5 14]),.ret])
def QOn:List (ARv × Md):=[(.t 4,.one .d),(.t 5,.one .d)]
theorem QKg (a:Int) (b:Int) (h :
 (((0:Int)≤(16:Int))∧K (Qlg ((JI (Int.fdiv (w64 ((Zf a)*(Zf b))) (2 ^ (min (Int.toNat (16:Int)) (IntKind.i64.bits))))).1,(JI (Int.fdiv (w64 ((Zf a)*(Zf b))) (2 ^ (min (Int.toNat (16:Int)) (IntKind.i64.bits))))).2)))):Hold (tawp QCz (0+0) QDD (TQ 0 0 QOn K) (Qf [(.c TI a),(.c TI b)])) :=
 Hold.of (by kernel_rfl) h
theorem QEk (a:Int) (b:Int):TCon Tryz.prog 216 [(.c TI a),(.c TI b)] (Qlg (ZV a b)):=by
 refine Qq rfl fun hb=>tcg (n:=15) (sg:=Qfn.sg) Qj (TOk.cons QeN (TOk.cons Qng TOk.nil)) (by kernel_rfl) (by kernel_rfl) (QKg _ a b ?_)
 have h:=QD9 a b
 rw [Qo (x:=Zf a*Zf b) (by omega) (by omega)]
 exact ⟨by omega,R_eq rfl⟩
theorem Qki:Qh Tryz.prog Qfn:=Qk fun x _=>QEk x.1 x.2.1
def Qlz (t:Int):TRes:=zre (zci t)
def Qlv:TRow:=Qg 234 [(.c TI)] fun x=>(none,Qlz (Qdc x.1))
def QBX:List TRow:=[Qcw]
def QE2:TCode :=
 (zsq [(.reg [zmv 2 (zki 0)]),(.reg [zmv 3 0,zca 4 190 [3],zop 5 (.mm true (zki 0) 4),zmv 2 5]),.ret])
def QI5:List (ARv × Md):=[(.t 2,.one .d)]
theorem QNg (a:Int) (h :
 K (Qlz (if (0:Int)<(Zf a) then (Zf a) else (0:Int)))):Hold (tawp QBX (0+0) QE2 (TQ 0 0 QI5 K) (Qf [(.c TI a)])) :=
 Hold.of (by kernel_rfl) h
theorem QNe (a:Int):TCon Tryz.prog 234 [(.c TI a)] (Qlz (Qdc a)):=by
 refine Qq rfl fun hb=>tcg (n:=6) (sg:=Qlv.sg) Qj (TOk.cons QeN TOk.nil) (by kernel_rfl) (by kernel_rfl) (QNg _ a ?_)
 exact R_eq rfl
theorem QKL:Qh Tryz.prog Qlv:=Qk fun x _=>QNe x.1
def Qm9 (t:(List Int)):TRes:=⟨(.r [TI] 0 0 t.length),[(.sl 3 [TI] true t)],[],true,[]⟩
def Qab:TRow:=Qg 119 [(.c (.sl [TI]))] fun x=>(some (QI (α:=List Int) x.1),Qm9 (id (α:=List Int) x.1))
def QAX:List TRow:=[]
def QJH:TCode :=
 (zsq [(.reg [zmv 2 (.k (.n [TI]))]),(.reg [zop 3 (.bsl 3 [TI] []),zmv 4 0,zop 5 (.app 3 4 3 [TI]),zmv 2 5]),.ret])
def QQz:List (ARv × Md):=[(.t 2,.one (.o 3))]
theorem QQm (l:List Int) (h :
 (((0=0∨0+l.length≤0)∧0+l.length≤big)∧K (Qm9 (List.take (0+l.length) (l:List Int))))):Hold (tawp QAX (0+0) QJH (TQ 0 0 QQz K) (Qf [(.c (.sl [TI]) l)])) :=
 Hold.of (by kernel_rfl) h
theorem QEW (l:List Int) (hp:QI (α:=List Int) l):TCon Tryz.prog 119 [(.c (.sl [TI]) l)] (Qm9 (id (α:=List Int) l)):=by
 refine Qq rfl fun hb=>tcg (n:=6) (sg:=Qab.sg) Qj TOk.nil (by kernel_rfl) (by kernel_rfl) (QQm _ l ?_)
 have hl_l:l.length≤9223372036854775807:=hb.1.1
 have hl:=Je l
 unfold QI at hp
 exact ⟨⟨.inl rfl,by rw [Zi];omega⟩,R_eq (by simp)⟩
theorem Qbk:Qh Tryz.prog Qab:=Qk fun x h=>QEW x.1 h
end
end Go.Proofs.YtjbdljkhbglnhaaGreat.Am

