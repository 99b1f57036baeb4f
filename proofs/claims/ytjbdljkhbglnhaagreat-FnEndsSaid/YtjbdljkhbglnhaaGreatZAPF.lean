/- -/
import Derived.Test.YtjbdljkhbglnhaaGreatZAP1
namespace Go.Proofs.YtjbdljkhbglnhaaGreat.Am
open Go Go.RowKit Go.Proofs.YtjbdljkhbglnhaaGreat
set_option linter.all false
noncomputable section
variable (K:TRes→Prop)
def QlT (t:Int):TRes:=zre (zci t)
def QcT:TRow:=Qh 190 [(.c TI)] fun x=>(none,QlT (Zd x.1))
def QDG:List TRow:=[]
def QNn:TCode :=
 (zsq [(.reg [zmv 2 (zki 0)]),(.reg [zmv 3 0,zop 4 (.mm true 3 (zki (-2147483647))),zop 5 (.mm false 4 (zki 2147483647)),zmv 2 5]),.ret])
def QKd:List (ARv × Md):=[(.t 2,.one .d)]
theorem QMw (x:Int) (h :
K (QlT (if (2147483647:Int)<(if x<(-2147483647:Int) then (-2147483647:Int) else x) then (2147483647:Int) else (if x<(-2147483647:Int) then (-2147483647:Int) else x)))):Hold (tawp QDG (0+0) QNn (TQ 0 0 QKd K) (Qf [(.c TI x)])) :=
 Hold.of (by kernel_rfl) h
theorem QIl (x:Int):TCon Tryz.prog 190 [(.c TI x)] (QlT (Zd x)):=by
 refine Qq rfl fun hb=>tcg (n:=6) (sg:=QcT.sg) Ql TOk.nil (by kernel_rfl) (by kernel_rfl) (QMw _ x ?_)
 exact R_eq (QNG x)
theorem Qff:Qi Tryz.prog QcT:=Qm fun x _=>QIl x.1
def Qld (t:Int × Bool):TRes:=zre (.tp [(zci t.1),(zcb t.2)])
def Qfz:TRow:=Qh 189 [(.c TI)] fun x=>(none,Qld (JH x.1))
def QRr:List TRow:=[QcT,QeV]
def QRl:TCode :=
 (zsq [(.reg [zmv 2 (zki 0),zmv 3 (zkb false)]),(.reg [zmv 4 0,zca 5 190 [4],zmv 6 0,zca 7 217 [6],zno 8 7,zmv 2 5,zmv 3 8]),.ret])
def QDU:List (ARv × Md):=[(.t 2,.one .d),(.t 3,.one .d)]
theorem QM8 (x:Int) (h :
K (Qld ((Zd x),(!(Q6 x))))):Hold (tawp QRr (0+0) QRl (TQ 0 0 QDU K) (Qf [(.c TI x)])) :=
 Hold.of (by kernel_rfl) h
theorem QMc (x:Int):TCon Tryz.prog 189 [(.c TI x)] (Qld (JH x)):=by
 refine Qq rfl fun hb=>tcg (n:=9) (sg:=Qfz.sg) Ql (TOk.cons Qff (TOk.cons QnA TOk.nil)) (by kernel_rfl) (by kernel_rfl) (QM8 _ x ?_)
 exact R_eq rfl
theorem Qoe:Qi Tryz.prog Qfz:=Qm fun x _=>QMc x.1
def Qj9 (t:Int × Bool):TRes:=zre (.tp [(zci t.1),(zcb t.2)])
def Qdu:TRow:=Qh 121 [(.c TI),(.c TI)] fun x=>(none,Qj9 (Zk x.1 x.2.1))
def QLb:List TRow:=[QcT,Qfz]
def QHB:TCode :=
 (zsq [(.reg [zmv 4 (zki 0),zmv 5 (zkb false)]),(.reg [zmv 6 0,zca 7 190 [6],zmv 8 1,zca 9 190 [8],zbi 10 .add 7 9,zca 11 189 [10],zex 12 11 0,zex 13 11 1,zmv 4 12,zmv 5 13]),.ret])
def QHA:List (ARv × Md):=[(.t 4,.one .d),(.t 5,.one .d)]
theorem QN1 (a:Int) (b:Int) (h :
K (Qj9 ((JH (w64 ((Zd a)+(Zd b)))).1,(JH (w64 ((Zd a)+(Zd b)))).2))):Hold (tawp QLb (0+0) QHB (TQ 0 0 QHA K) (Qf [(.c TI a),(.c TI b)])) :=
 Hold.of (by kernel_rfl) h
theorem QFB (a:Int) (b:Int):TCon Tryz.prog 121 [(.c TI a),(.c TI b)] (Qj9 (Zk a b)):=by
 refine Qq rfl fun hb=>tcg (n:=14) (sg:=Qdu.sg) Ql (TOk.cons Qff (TOk.cons Qoe TOk.nil)) (by kernel_rfl) (by kernel_rfl) (QN1 _ a b ?_)
 have h1:=Qbt a
 have h2:=Qbt b
 rw [Qp (x:=Zd a+Zd b) (by omega) (by omega)]
 exact R_eq rfl
theorem QiO:Qi Tryz.prog Qdu:=Qm fun x _=>QFB x.1 x.2.1
def QnJ (t:Int × Bool):TRes:=zre (.tp [(zci t.1),(zcb t.2)])
def Qkw:TRow:=Qh 192 [(.c TI),(.c TI)] fun x=>(none,QnJ (Qb6 x.1 x.2.1))
def QKb:List TRow:=[QcT,Qfz]
def QIH:TCode :=
 (zsq [(.reg [zmv 4 (zki 0),zmv 5 (zkb false)]),(.reg [zmv 6 0,zca 7 190 [6],zmv 8 1,zca 9 190 [8],zbi 10 .sub 7 9,zca 11 189 [10],zex 12 11 0,zex 13 11 1,zmv 4 12,zmv 5 13]),.ret])
def QJB:List (ARv × Md):=[(.t 4,.one .d),(.t 5,.one .d)]
theorem QO3 (a:Int) (b:Int) (h :
K (QnJ ((JH (w64 ((Zd a)-(Zd b)))).1,(JH (w64 ((Zd a)-(Zd b)))).2))):Hold (tawp QKb (0+0) QIH (TQ 0 0 QJB K) (Qf [(.c TI a),(.c TI b)])) :=
 Hold.of (by kernel_rfl) h
theorem QES (a:Int) (b:Int):TCon Tryz.prog 192 [(.c TI a),(.c TI b)] (QnJ (Qb6 a b)):=by
 refine Qq rfl fun hb=>tcg (n:=14) (sg:=Qkw.sg) Ql (TOk.cons Qff (TOk.cons Qoe TOk.nil)) (by kernel_rfl) (by kernel_rfl) (QO3 _ a b ?_)
 have h1:=Qbt a
 have h2:=Qbt b
 rw [Qp (x:=Zd a-Zd b) (by omega) (by omega)]
 exact R_eq rfl
theorem QCS:Qi Tryz.prog Qkw:=Qm fun x _=>QES x.1 x.2.1
def Qm9 (t:Int × Bool):TRes:=zre (.tp [(zci t.1),(zcb t.2)])
def Qer:TRow:=Qh 216 [(.c TI),(.c TI)] fun x=>(none,Qm9 (ZT x.1 x.2.1))
def QK5:List TRow:=[QcT,Qfz]
def QKF:TCode :=
 (zsq [(.reg [zmv 4 (zki 0),zmv 5 (zkb false)]),(.reg [zmv 6 0,zca 7 190 [6],zmv 8 1,zca 9 190 [8],zbi 10 .mul 7 9,zbi 11 .shr 10 (.k (.c (.int .u64) (16:Int))),zca 12 189 [11],zex 13 12 0,zex 14 12 1,zmv 4 13,zmv 5 14]),.ret])
def QMq:List (ARv × Md):=[(.t 4,.one .d),(.t 5,.one .d)]
theorem QOw (a:Int) (b:Int) (h :
(((0:Int)≤(16:Int))∧K (Qm9 ((JH (Int.fdiv (w64 ((Zd a)*(Zd b))) (2 ^ (min (Int.toNat (16:Int)) (IntKind.i64.bits))))).1,(JH (Int.fdiv (w64 ((Zd a)*(Zd b))) (2 ^ (min (Int.toNat (16:Int)) (IntKind.i64.bits))))).2)))):Hold (tawp QK5 (0+0) QKF (TQ 0 0 QMq K) (Qf [(.c TI a),(.c TI b)])) :=
 Hold.of (by kernel_rfl) h
theorem QKa (a:Int) (b:Int):TCon Tryz.prog 216 [(.c TI a),(.c TI b)] (Qm9 (ZT a b)):=by
 refine Qq rfl fun hb=>tcg (n:=15) (sg:=Qer.sg) Ql (TOk.cons Qff (TOk.cons Qoe TOk.nil)) (by kernel_rfl) (by kernel_rfl) (QOw _ a b ?_)
 have h:=QMI a b
 rw [Qp (x:=Zd a*Zd b) (by omega) (by omega)]
 exact ⟨by omega,R_eq rfl⟩
theorem QlG:Qi Tryz.prog Qer:=Qm fun x _=>QKa x.1 x.2.1
def QmY (t:Int):TRes:=zre (zci t)
def QkA:TRow:=Qh 234 [(.c TI)] fun x=>(none,QmY (Qca x.1))
def QPw:List TRow:=[QcT]
def QQL:TCode :=
 (zsq [(.reg [zmv 2 (zki 0)]),(.reg [zmv 3 0,zca 4 190 [3],zop 5 (.mm true (zki 0) 4),zmv 2 5]),.ret])
def QHy:List (ARv × Md):=[(.t 2,.one .d)]
theorem QIE (a:Int) (h :
K (QmY (if (0:Int)<(Zd a) then (Zd a) else (0:Int)))):Hold (tawp QPw (0+0) QQL (TQ 0 0 QHy K) (Qf [(.c TI a)])) :=
 Hold.of (by kernel_rfl) h
theorem QHr (a:Int):TCon Tryz.prog 234 [(.c TI a)] (QmY (Qca a)):=by
 refine Qq rfl fun hb=>tcg (n:=6) (sg:=QkA.sg) Ql (TOk.cons Qff TOk.nil) (by kernel_rfl) (by kernel_rfl) (QIE _ a ?_)
 exact R_eq rfl
theorem QKR:Qi Tryz.prog QkA:=Qm fun x _=>QHr x.1
def Qnw (t:(List Int)):TRes:=⟨(.r [TI] 0 0 t.length),[(.sl 3 [TI] true t)],[],true,[]⟩
def Qak:TRow:=Qh 119 [(.c (.sl [TI]))] fun x=>(some (QG (α:=List Int) x.1),Qnw (id (α:=List Int) x.1))
def QPf:List TRow:=[]
def QG3:TCode :=
 (zsq [(.reg [zmv 2 (.k (.n [TI]))]),(.reg [zop 3 (.bsl 3 [TI] []),zmv 4 0,zop 5 (.app 3 4 3 [TI]),zmv 2 5]),.ret])
def QNt:List (ARv × Md):=[(.t 2,.one (.o 3))]
theorem QEU (l:List Int) (h :
(((0=0∨0+l.length≤0)∧0+l.length≤big)∧K (Qnw (List.take (0+l.length) (l:List Int))))):Hold (tawp QPf (0+0) QG3 (TQ 0 0 QNt K) (Qf [(.c (.sl [TI]) l)])) :=
 Hold.of (by kernel_rfl) h
theorem QA2 (l:List Int) (hp:QG (α:=List Int) l):TCon Tryz.prog 119 [(.c (.sl [TI]) l)] (Qnw (id (α:=List Int) l)):=by
 refine Qq rfl fun hb=>tcg (n:=6) (sg:=Qak.sg) Ql TOk.nil (by kernel_rfl) (by kernel_rfl) (QEU _ l ?_)
 have hl_l:l.length≤9223372036854775807:=hb.1.1
 have hl:=Ja l
 unfold QG at hp
 exact ⟨⟨.inl rfl,by rw [Zx];omega⟩,R_eq (by simp)⟩
theorem Qa1:Qi Tryz.prog Qak:=Qm fun x h=>QA2 x.1 h
end
end Go.Proofs.YtjbdljkhbglnhaaGreat.Am

