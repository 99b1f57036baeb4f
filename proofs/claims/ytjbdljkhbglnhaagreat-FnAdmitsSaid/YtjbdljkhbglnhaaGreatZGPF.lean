/- -/
import Derived.Test.YtjbdljkhbglnhaaGreatZGP1
namespace Go.Proofs.YtjbdljkhbglnhaaGreat.Am
open Go Go.RowKit Go.Proofs.YtjbdljkhbglnhaaGreat
set_option linter.all false
noncomputable section
variable (K:TRes→Prop)
def QlH (t:Int):TRes:=zre (zci t)
def QcF:TRow:=Qi 190 [(.c TI)] fun x=>(none,QlH (Zg x.1))
def QJP:List TRow:=[]
def QAx:TCode :=
 (zsq [(.reg [zmv 2 (zki 0)]),(.reg [zmv 3 0,zop 4 (.mm true 3 (zki (-2147483647))),zop 5 (.mm false 4 (zki 2147483647)),zmv 2 5]),.ret])
def QAX:List (ARv × Md):=[(.t 2,.one .d)]
theorem QPh (x:Int) (h :
 K (QlH (if (2147483647:Int)<(if x<(-2147483647:Int) then (-2147483647:Int) else x) then (2147483647:Int) else (if x<(-2147483647:Int) then (-2147483647:Int) else x)))):Hold (tawp QJP (0+0) QAx (TQ 0 0 QAX K) (Qf [(.c TI x)])) :=
 Hold.of (by kernel_rfl) h
theorem QM4 (x:Int):TCon Tryz.prog 190 [(.c TI x)] (QlH (Zg x)):=by
 refine Qr rfl fun hb=>tcg (n:=6) (sg:=QcF.sg) Qk TOk.nil (by kernel_rfl) (by kernel_rfl) (QPh _ x ?_)
 exact R_eq (QHS x)
theorem Qej:Qj Tryz.prog QcF:=Ql fun x _=>QM4 x.1
def QnB (t:Int × Bool):TRes:=zre (.tp [(zci t.1),(zcb t.2)])
def Qex:TRow:=Qi 189 [(.c TI)] fun x=>(none,QnB (JL x.1))
def QFi:List TRow:=[QcF,Qe3]
def QC7:TCode :=
 (zsq [(.reg [zmv 2 (zki 0),zmv 3 (zkb false)]),(.reg [zmv 4 0,zca 5 190 [4],zmv 6 0,zca 7 217 [6],zno 8 7,zmv 2 5,zmv 3 8]),.ret])
def QAS:List (ARv × Md):=[(.t 2,.one .d),(.t 3,.one .d)]
theorem QOY (x:Int) (h :
 K (QnB ((Zg x),(!(Zc x))))):Hold (tawp QFi (0+0) QC7 (TQ 0 0 QAS K) (Qf [(.c TI x)])) :=
 Hold.of (by kernel_rfl) h
theorem QzH (x:Int):TCon Tryz.prog 189 [(.c TI x)] (QnB (JL x)):=by
 refine Qr rfl fun hb=>tcg (n:=9) (sg:=Qex.sg) Qk (TOk.cons Qej (TOk.cons QjM TOk.nil)) (by kernel_rfl) (by kernel_rfl) (QOY _ x ?_)
 exact R_eq rfl
theorem Qjg:Qj Tryz.prog Qex:=Ql fun x _=>QzH x.1
def Qnz (t:Int × Bool):TRes:=zre (.tp [(zci t.1),(zcb t.2)])
def QdS:TRow:=Qi 121 [(.c TI),(.c TI)] fun x=>(none,Qnz (Zn x.1 x.2.1))
def QO5:List TRow:=[QcF,Qex]
def QEJ:TCode :=
 (zsq [(.reg [zmv 4 (zki 0),zmv 5 (zkb false)]),(.reg [zmv 6 0,zca 7 190 [6],zmv 8 1,zca 9 190 [8],zbi 10 .add 7 9,zca 11 189 [10],zex 12 11 0,zex 13 11 1,zmv 4 12,zmv 5 13]),.ret])
def QG6:List (ARv × Md):=[(.t 4,.one .d),(.t 5,.one .d)]
theorem QMk (a:Int) (b:Int) (h :
 K (Qnz ((JL (w64 ((Zg a)+(Zg b)))).1,(JL (w64 ((Zg a)+(Zg b)))).2))):Hold (tawp QO5 (0+0) QEJ (TQ 0 0 QG6 K) (Qf [(.c TI a),(.c TI b)])) :=
 Hold.of (by kernel_rfl) h
theorem QOR (a:Int) (b:Int):TCon Tryz.prog 121 [(.c TI a),(.c TI b)] (Qnz (Zn a b)):=by
 refine Qr rfl fun hb=>tcg (n:=14) (sg:=QdS.sg) Qk (TOk.cons Qej (TOk.cons Qjg TOk.nil)) (by kernel_rfl) (by kernel_rfl) (QMk _ a b ?_)
 have h1:=QbS a
 have h2:=QbS b
 rw [Qp (x:=Zg a+Zg b) (by omega) (by omega)]
 exact R_eq rfl
theorem Qib:Qj Tryz.prog QdS:=Ql fun x _=>QOR x.1 x.2.1
def Qlm (t:Int × Bool):TRes:=zre (.tp [(zci t.1),(zcb t.2)])
def QlB:TRow:=Qi 192 [(.c TI),(.c TI)] fun x=>(none,Qlm (Qby x.1 x.2.1))
def Qzy:List TRow:=[QcF,Qex]
def QKb:TCode :=
 (zsq [(.reg [zmv 4 (zki 0),zmv 5 (zkb false)]),(.reg [zmv 6 0,zca 7 190 [6],zmv 8 1,zca 9 190 [8],zbi 10 .sub 7 9,zca 11 189 [10],zex 12 11 0,zex 13 11 1,zmv 4 12,zmv 5 13]),.ret])
def QOM:List (ARv × Md):=[(.t 4,.one .d),(.t 5,.one .d)]
theorem QBH (a:Int) (b:Int) (h :
 K (Qlm ((JL (w64 ((Zg a)-(Zg b)))).1,(JL (w64 ((Zg a)-(Zg b)))).2))):Hold (tawp Qzy (0+0) QKb (TQ 0 0 QOM K) (Qf [(.c TI a),(.c TI b)])) :=
 Hold.of (by kernel_rfl) h
theorem QC4 (a:Int) (b:Int):TCon Tryz.prog 192 [(.c TI a),(.c TI b)] (Qlm (Qby a b)):=by
 refine Qr rfl fun hb=>tcg (n:=14) (sg:=QlB.sg) Qk (TOk.cons Qej (TOk.cons Qjg TOk.nil)) (by kernel_rfl) (by kernel_rfl) (QBH _ a b ?_)
 have h1:=QbS a
 have h2:=QbS b
 rw [Qp (x:=Zg a-Zg b) (by omega) (by omega)]
 exact R_eq rfl
theorem QPM:Qj Tryz.prog QlB:=Ql fun x _=>QC4 x.1 x.2.1
def QlT (t:Int × Bool):TRes:=zre (.tp [(zci t.1),(zcb t.2)])
def Qfp:TRow:=Qi 216 [(.c TI),(.c TI)] fun x=>(none,QlT (Z0 x.1 x.2.1))
def QGW:List TRow:=[QcF,Qex]
def QBq:TCode :=
 (zsq [(.reg [zmv 4 (zki 0),zmv 5 (zkb false)]),(.reg [zmv 6 0,zca 7 190 [6],zmv 8 1,zca 9 190 [8],zbi 10 .mul 7 9,zbi 11 .shr 10 (.k (.c (.int .u64) (16:Int))),zca 12 189 [11],zex 13 12 0,zex 14 12 1,zmv 4 13,zmv 5 14]),.ret])
def QC1:List (ARv × Md):=[(.t 4,.one .d),(.t 5,.one .d)]
theorem QPj (a:Int) (b:Int) (h :
 (((0:Int)≤(16:Int))∧K (QlT ((JL (Int.fdiv (w64 ((Zg a)*(Zg b))) (2 ^ (min (Int.toNat (16:Int)) (IntKind.i64.bits))))).1,(JL (Int.fdiv (w64 ((Zg a)*(Zg b))) (2 ^ (min (Int.toNat (16:Int)) (IntKind.i64.bits))))).2)))):Hold (tawp QGW (0+0) QBq (TQ 0 0 QC1 K) (Qf [(.c TI a),(.c TI b)])) :=
 Hold.of (by kernel_rfl) h
theorem QFn (a:Int) (b:Int):TCon Tryz.prog 216 [(.c TI a),(.c TI b)] (QlT (Z0 a b)):=by
 refine Qr rfl fun hb=>tcg (n:=15) (sg:=Qfp.sg) Qk (TOk.cons Qej (TOk.cons Qjg TOk.nil)) (by kernel_rfl) (by kernel_rfl) (QPj _ a b ?_)
 have h:=QGL a b
 rw [Qp (x:=Zg a*Zg b) (by omega) (by omega)]
 exact ⟨by omega,R_eq rfl⟩
theorem Qlp:Qj Tryz.prog Qfp:=Ql fun x _=>QFn x.1 x.2.1
def Qle (t:Int):TRes:=zre (zci t)
def Qma:TRow:=Qi 234 [(.c TI)] fun x=>(none,Qle (QcW x.1))
def QLb:List TRow:=[QcF]
def QGH:TCode :=
 (zsq [(.reg [zmv 2 (zki 0)]),(.reg [zmv 3 0,zca 4 190 [3],zop 5 (.mm true (zki 0) 4),zmv 2 5]),.ret])
def QH4:List (ARv × Md):=[(.t 2,.one .d)]
theorem QLx (a:Int) (h :
 K (Qle (if (0:Int)<(Zg a) then (Zg a) else (0:Int)))):Hold (tawp QLb (0+0) QGH (TQ 0 0 QH4 K) (Qf [(.c TI a)])) :=
 Hold.of (by kernel_rfl) h
theorem QLg (a:Int):TCon Tryz.prog 234 [(.c TI a)] (Qle (QcW a)):=by
 refine Qr rfl fun hb=>tcg (n:=6) (sg:=Qma.sg) Qk (TOk.cons Qej TOk.nil) (by kernel_rfl) (by kernel_rfl) (QLx _ a ?_)
 exact R_eq rfl
theorem QNv:Qj Tryz.prog Qma:=Ql fun x _=>QLg x.1
def QlM (t:(List Int)):TRes:=⟨(.r [TI] 0 0 t.length),[(.sl 3 [TI] true t)],[],true,[]⟩
def Qab:TRow:=Qi 119 [(.c (.sl [TI]))] fun x=>(some (QJ (α:=List Int) x.1),QlM (id (α:=List Int) x.1))
def QCB:List TRow:=[]
def QCn:TCode :=
 (zsq [(.reg [zmv 2 (.k (.n [TI]))]),(.reg [zop 3 (.bsl 3 [TI] []),zmv 4 0,zop 5 (.app 3 4 3 [TI]),zmv 2 5]),.ret])
def QBW:List (ARv × Md):=[(.t 2,.one (.o 3))]
theorem QME (l:List Int) (h :
 (((0=0∨0+l.length≤0)∧0+l.length≤big)∧K (QlM (List.take (0+l.length) (l:List Int))))):Hold (tawp QCB (0+0) QCn (TQ 0 0 QBW K) (Qf [(.c (.sl [TI]) l)])) :=
 Hold.of (by kernel_rfl) h
theorem QDM (l:List Int) (hp:QJ (α:=List Int) l):TCon Tryz.prog 119 [(.c (.sl [TI]) l)] (QlM (id (α:=List Int) l)):=by
 refine Qr rfl fun hb=>tcg (n:=6) (sg:=Qab.sg) Qk TOk.nil (by kernel_rfl) (by kernel_rfl) (QME _ l ?_)
 have hl_l:l.length≤9223372036854775807:=hb.1.1
 have hl:=Jc l
 unfold QJ at hp
 exact ⟨⟨.inl rfl,by rw [Zw];omega⟩,R_eq (by simp)⟩
theorem QaX:Qj Tryz.prog Qab:=Ql fun x h=>QDM x.1 h
end
end Go.Proofs.YtjbdljkhbglnhaaGreat.Am

