/- -/
import Derived.Test.YtjbdljkhbglnhaaGreatZBP1
namespace Go.Proofs.YtjbdljkhbglnhaaGreat.Am
open Go Go.RowKit Go.Proofs.YtjbdljkhbglnhaaGreat
set_option linter.all false
noncomputable section
variable (K:TRes→Prop)
def Qln (t:Int):TRes:=zre (zci t)
def QcT:TRow:=Qi 190 [(.c TI)] fun x=>(none,Qln (Za x.1))
def QFx:List TRow:=[]
def QLj:TCode :=
 (zsq [(.reg [zmv 2 (zki 0)]),(.reg [zmv 3 0,zop 4 (.mm true 3 (zki (-2147483647))),zop 5 (.mm false 4 (zki 2147483647)),zmv 2 5]),.ret])
def Qz6:List (ARv × Md):=[(.t 2,.one .d)]
theorem QC4 (x:Int) (h :
 K (Qln (if (2147483647:Int)<(if x<(-2147483647:Int) then (-2147483647:Int) else x) then (2147483647:Int) else (if x<(-2147483647:Int) then (-2147483647:Int) else x)))):Hold (tawp QFx (0+0) QLj (TQ 0 0 Qz6 K) (Qf [(.c TI x)])) :=
 Hold.of (by kernel_rfl) h
theorem QPR (x:Int):TCon Tryz.prog 190 [(.c TI x)] (Qln (Za x)):=by
 refine Qr rfl fun hb=>tcg (n:=6) (sg:=QcT.sg) Qk TOk.nil (by kernel_rfl) (by kernel_rfl) (QC4 _ x ?_)
 exact R_eq (QDB x)
theorem Qet:Qj Tryz.prog QcT:=Qm fun x _=>QPR x.1
def QnI (t:Int × Bool):TRes:=zre (.tp [(zci t.1),(zcb t.2)])
def Qfb:TRow:=Qi 189 [(.c TI)] fun x=>(none,QnI (Jz x.1))
def QFQ:List TRow:=[QcT,Qd7]
def QE4:TCode :=
 (zsq [(.reg [zmv 2 (zki 0),zmv 3 (zkb false)]),(.reg [zmv 4 0,zca 5 190 [4],zmv 6 0,zca 7 217 [6],zno 8 7,zmv 2 5,zmv 3 8]),.ret])
def QEe:List (ARv × Md):=[(.t 2,.one .d),(.t 3,.one .d)]
theorem QIM (x:Int) (h :
 K (QnI ((Za x),(!(Q5 x))))):Hold (tawp QFQ (0+0) QE4 (TQ 0 0 QEe K) (Qf [(.c TI x)])) :=
 Hold.of (by kernel_rfl) h
theorem QNk (x:Int):TCon Tryz.prog 189 [(.c TI x)] (QnI (Jz x)):=by
 refine Qr rfl fun hb=>tcg (n:=9) (sg:=Qfb.sg) Qk (TOk.cons Qet (TOk.cons Qko TOk.nil)) (by kernel_rfl) (by kernel_rfl) (QIM _ x ?_)
 exact R_eq rfl
theorem Qjz:Qj Tryz.prog Qfb:=Qm fun x _=>QNk x.1
def Qi5 (t:Int × Bool):TRes:=zre (.tp [(zci t.1),(zcb t.2)])
def Qd3:TRow:=Qi 121 [(.c TI),(.c TI)] fun x=>(none,Qi5 (Ze x.1 x.2.1))
def QNL:List TRow:=[QcT,Qfb]
def Qz9:TCode :=
 (zsq [(.reg [zmv 4 (zki 0),zmv 5 (zkb false)]),(.reg [zmv 6 0,zca 7 190 [6],zmv 8 1,zca 9 190 [8],zbi 10 .add 7 9,zca 11 189 [10],zex 12 11 0,zex 13 11 1,zmv 4 12,zmv 5 13]),.ret])
def QJb:List (ARv × Md):=[(.t 4,.one .d),(.t 5,.one .d)]
theorem QDM (a:Int) (b:Int) (h :
 K (Qi5 ((Jz (w64 ((Za a)+(Za b)))).1,(Jz (w64 ((Za a)+(Za b)))).2))):Hold (tawp QNL (0+0) Qz9 (TQ 0 0 QJb K) (Qf [(.c TI a),(.c TI b)])) :=
 Hold.of (by kernel_rfl) h
theorem QFs (a:Int) (b:Int):TCon Tryz.prog 121 [(.c TI a),(.c TI b)] (Qi5 (Ze a b)):=by
 refine Qr rfl fun hb=>tcg (n:=14) (sg:=Qd3.sg) Qk (TOk.cons Qet (TOk.cons Qjz TOk.nil)) (by kernel_rfl) (by kernel_rfl) (QDM _ a b ?_)
 have h1:=QbB a
 have h2:=QbB b
 rw [Qp (x:=Za a+Za b) (by omega) (by omega)]
 exact R_eq rfl
theorem Qgs:Qj Tryz.prog Qd3:=Qm fun x _=>QFs x.1 x.2.1
def QjX (t:Int × Bool):TRes:=zre (.tp [(zci t.1),(zcb t.2)])
def Qjy:TRow:=Qi 192 [(.c TI),(.c TI)] fun x=>(none,QjX (QbM x.1 x.2.1))
def QKI:List TRow:=[QcT,Qfb]
def QOH:TCode :=
 (zsq [(.reg [zmv 4 (zki 0),zmv 5 (zkb false)]),(.reg [zmv 6 0,zca 7 190 [6],zmv 8 1,zca 9 190 [8],zbi 10 .sub 7 9,zca 11 189 [10],zex 12 11 0,zex 13 11 1,zmv 4 12,zmv 5 13]),.ret])
def QIH:List (ARv × Md):=[(.t 4,.one .d),(.t 5,.one .d)]
theorem QBc (a:Int) (b:Int) (h :
 K (QjX ((Jz (w64 ((Za a)-(Za b)))).1,(Jz (w64 ((Za a)-(Za b)))).2))):Hold (tawp QKI (0+0) QOH (TQ 0 0 QIH K) (Qf [(.c TI a),(.c TI b)])) :=
 Hold.of (by kernel_rfl) h
theorem QCL (a:Int) (b:Int):TCon Tryz.prog 192 [(.c TI a),(.c TI b)] (QjX (QbM a b)):=by
 refine Qr rfl fun hb=>tcg (n:=14) (sg:=Qjy.sg) Qk (TOk.cons Qet (TOk.cons Qjz TOk.nil)) (by kernel_rfl) (by kernel_rfl) (QBc _ a b ?_)
 have h1:=QbB a
 have h2:=QbB b
 rw [Qp (x:=Za a-Za b) (by omega) (by omega)]
 exact R_eq rfl
theorem QJO:Qj Tryz.prog Qjy:=Qm fun x _=>QCL x.1 x.2.1
def QkV (t:Int × Bool):TRes:=zre (.tp [(zci t.1),(zcb t.2)])
def QeK:TRow:=Qi 216 [(.c TI),(.c TI)] fun x=>(none,QkV (ZQ x.1 x.2.1))
def QDO:List TRow:=[QcT,Qfb]
def QIC:TCode :=
 (zsq [(.reg [zmv 4 (zki 0),zmv 5 (zkb false)]),(.reg [zmv 6 0,zca 7 190 [6],zmv 8 1,zca 9 190 [8],zbi 10 .mul 7 9,zbi 11 .shr 10 (.k (.c (.int .u64) (16:Int))),zca 12 189 [11],zex 13 12 0,zex 14 12 1,zmv 4 13,zmv 5 14]),.ret])
def QIA:List (ARv × Md):=[(.t 4,.one .d),(.t 5,.one .d)]
theorem QEh (a:Int) (b:Int) (h :
 (((0:Int)≤(16:Int))∧K (QkV ((Jz (Int.fdiv (w64 ((Za a)*(Za b))) (2 ^ (min (Int.toNat (16:Int)) (IntKind.i64.bits))))).1,(Jz (Int.fdiv (w64 ((Za a)*(Za b))) (2 ^ (min (Int.toNat (16:Int)) (IntKind.i64.bits))))).2)))):Hold (tawp QDO (0+0) QIC (TQ 0 0 QIA K) (Qf [(.c TI a),(.c TI b)])) :=
 Hold.of (by kernel_rfl) h
theorem QA3 (a:Int) (b:Int):TCon Tryz.prog 216 [(.c TI a),(.c TI b)] (QkV (ZQ a b)):=by
 refine Qr rfl fun hb=>tcg (n:=15) (sg:=QeK.sg) Qk (TOk.cons Qet (TOk.cons Qjz TOk.nil)) (by kernel_rfl) (by kernel_rfl) (QEh _ a b ?_)
 have h:=QLq a b
 rw [Qp (x:=Za a*Za b) (by omega) (by omega)]
 exact ⟨by omega,R_eq rfl⟩
theorem Qkn:Qj Tryz.prog QeK:=Qm fun x _=>QA3 x.1 x.2.1
def Qnu (t:Int):TRes:=zre (zci t)
def QkF:TRow:=Qi 234 [(.c TI)] fun x=>(none,Qnu (Qc4 x.1))
def QKQ:List TRow:=[QcT]
def QBy:TCode :=
 (zsq [(.reg [zmv 2 (zki 0)]),(.reg [zmv 3 0,zca 4 190 [3],zop 5 (.mm true (zki 0) 4),zmv 2 5]),.ret])
def QEv:List (ARv × Md):=[(.t 2,.one .d)]
theorem QBA (a:Int) (h :
 K (Qnu (if (0:Int)<(Za a) then (Za a) else (0:Int)))):Hold (tawp QKQ (0+0) QBy (TQ 0 0 QEv K) (Qf [(.c TI a)])) :=
 Hold.of (by kernel_rfl) h
theorem QJx (a:Int):TCon Tryz.prog 234 [(.c TI a)] (Qnu (Qc4 a)):=by
 refine Qr rfl fun hb=>tcg (n:=6) (sg:=QkF.sg) Qk (TOk.cons Qet TOk.nil) (by kernel_rfl) (by kernel_rfl) (QBA _ a ?_)
 exact R_eq rfl
theorem QL5:Qj Tryz.prog QkF:=Qm fun x _=>QJx x.1
def Qkt (t:(List Int)):TRes:=⟨(.r [TI] 0 0 t.length),[(.sl 3 [TI] true t)],[],true,[]⟩
def Qal:TRow:=Qi 119 [(.c (.sl [TI]))] fun x=>(some (QC (α:=List Int) x.1),Qkt (id (α:=List Int) x.1))
def QQm:List TRow:=[]
def QE5:TCode :=
 (zsq [(.reg [zmv 2 (.k (.n [TI]))]),(.reg [zop 3 (.bsl 3 [TI] []),zmv 4 0,zop 5 (.app 3 4 3 [TI]),zmv 2 5]),.ret])
def QOX:List (ARv × Md):=[(.t 2,.one (.o 3))]
theorem QMG (l:List Int) (h :
 (((0=0∨0+l.length≤0)∧0+l.length≤big)∧K (Qkt (List.take (0+l.length) (l:List Int))))):Hold (tawp QQm (0+0) QE5 (TQ 0 0 QOX K) (Qf [(.c (.sl [TI]) l)])) :=
 Hold.of (by kernel_rfl) h
theorem QDu (l:List Int) (hp:QC (α:=List Int) l):TCon Tryz.prog 119 [(.c (.sl [TI]) l)] (Qkt (id (α:=List Int) l)):=by
 refine Qr rfl fun hb=>tcg (n:=6) (sg:=Qal.sg) Qk TOk.nil (by kernel_rfl) (by kernel_rfl) (QMG _ l ?_)
 have hl_l:l.length≤9223372036854775807:=hb.1.1
 have hl:=Jb l
 unfold QC at hp
 exact ⟨⟨.inl rfl,by rw [Zv];omega⟩,R_eq (by simp)⟩
theorem Qa7:Qj Tryz.prog Qal:=Qm fun x h=>QDu x.1 h
end
end Go.Proofs.YtjbdljkhbglnhaaGreat.Am

