/- -/
import Derived.Test.YtjbdljkhbglnhaaGreatZCP1
import Derived.Test.YtjbdljkhbglnhaaGreatZCP4
namespace Go.Proofs.YtjbdljkhbglnhaaGreat.Am
open Go Go.RowKit Go.Proofs.YtjbdljkhbglnhaaGreat
set_option linter.all false
noncomputable section
variable (K:TRes→Prop)
def QnY (t:(List TOp')):TRes:=zra (.a [(zcs ctOp t)])
def QdL:TRow:=Qf 112 [(.a QI)] fun x=>(none,QnY (Z3 x.1))
def QNZ:List TRow:=[]
def QIM:TCode :=
 (zsq [(.reg [zop 1 (.box 63 0 14),zop 2 (.new 26 [(.n ctOp)])]),(.reg [zfa 3 1 2,zld 4 3 1,zop 5 (.build [(.n ctOp)] [(0,1,4)]),zst 2 5 1]),.ret])
def QHh:List (ARv × Md):=[(.l 2 1 true,.b [.d])]
theorem QXM (s:Qc) (h :
 K (QnY s.2.2.1)):Hold (tawp QNZ (0+0) QIM (TQ 0 0 QHh K) (Qd [(.a (Tup.cells QI s))])) :=
 Hold.of (by kernel_rfl) h
theorem QMP (s:Qc):TCon Tryz.prog 112 [(.a (Tup.cells QI s))] (QnY (Z3 s)):=by
 refine Qj rfl fun hb=>tcg (n:=6) (sg:=QdL.sg) Qg TOk.nil (by kernel_rfl) (by kernel_rfl) (QXM _ s ?_)
 have hl_s_1:(s.2.1).length≤9223372036854775807:=hb.1.2.1.1
 have hl_s_2:(s.2.2.1).length≤9223372036854775807:=hb.1.2.2.1.1
 have hl_s_5:(s.2.2.2.2.2.1).length≤9223372036854775807:=hb.1.2.2.2.2.2.1.1
 have hl_s_6:(s.2.2.2.2.2.2.1).length≤9223372036854775807:=hb.1.2.2.2.2.2.2.1.1
 have hl_s_7:(s.2.2.2.2.2.2.2.1).length≤9223372036854775807:=hb.1.2.2.2.2.2.2.2.1.1
 have hl_s_8:(s.2.2.2.2.2.2.2.2.1).length≤9223372036854775807:=hb.1.2.2.2.2.2.2.2.2.1.1
 have hl_s_9:(s.2.2.2.2.2.2.2.2.2.1).length≤9223372036854775807:=hb.1.2.2.2.2.2.2.2.2.2.1.1
 have hl_s_10:(s.2.2.2.2.2.2.2.2.2.2.1).length≤9223372036854775807:=hb.1.2.2.2.2.2.2.2.2.2.2.1.1
 have hl_s_11:(s.2.2.2.2.2.2.2.2.2.2.2.1).length≤9223372036854775807:=hb.1.2.2.2.2.2.2.2.2.2.2.2.1.1
 exact R_eq rfl
theorem QiZ:Qe Tryz.prog QdL:=Qh fun x _=>QMP x.1
def QbQ (t:Bool):TRes:=zre (zcb t)
def Qme:TRow:=Qf 185 [(.a [(.sl ctOp)]),(.c (.sl [(.sl [TI])]))] fun x=>(none,QbQ (JQ x.1 x.2.1))
def QlY:List TRow:=[]
def Qzo:TCode :=
 (zsq [(.reg [zbi 17 .lss 16 15]),(.cond 17 .skip (.exit 0)),(.block 1 (zsq [(.reg [zmv 18 16,zia 19 14 16 ctOp,zLd 20 19 4,zop 6 (.new 69 (z0s ctOp)),zmv 5 18,zst 6 20 4]),(.draw [zmv 21 1,zmv 22 5,zia 23 21 22 [(.sl [TI])],zfa 24 23 0,zld 25 24 1,zle 26 25,zfa 27 6 3,zld 28 27 1,zle 29 28,zbi 30 .neq 26 29] []),(.cond 30 (zsq [(.reg [zmv 4 (zkb false)]),.ret]) .skip)])),(.reg [zbi 31 .add 16 (zki 1),zmv 16 31])])
def Qrt:List (Nat × Md):=zdl [1,14,15,16]
def QCD:TCode :=
 (zsq [(.reg [zmv 4 (zkb true)]),.ret])
def QUr:TCode :=
 (zsq [(.reg [zop 2 (.box 26 0 1),zmv 4 (zkb false)]),(zsq [(.reg [zmv 7 1,zle 8 7,zfa 9 2 0,zld 10 9 1,zle 11 10,zbi 12 .neq 8 11]),(.cond 12 (zsq [(.reg [zmv 4 (zkb false)]),.ret]) .skip)]),(zsq [(.reg [zfa 13 2 0,zld 14 13 1,zle 15 14,zmv 16 (zki 0)]),(.block 0 (.loop Qrt Qzo))]),QCD])
def QvW:List (ARv × Md):=[(.t 4,.one .d)]
def QA3:Qb:=TQ 0 0 QvW K
def QHD:Qb:=Qseq (tawp QlY 0 QCD (QA3 K)) (QA3 K)
def QGi:Qb:=Qblk 0 (QHD K)
def QjW (m:List TOp') (rows:List (List Int)) (x:Int):Prop:=Loop QlY 0 Qrt Qzo (QGi K) ⟨[(1,(zcs [(.sl [TI])] rows)),(14,(zcs ctOp m)),(15,(zci (m.length:Int))),(16,(zci x))],[],0⟩
theorem QvM (m:List TOp') (rows:List (List Int)) (x:Int) (h :
 (zif (decide (x<(m.length:Int))) (((0:Int)≤x∧Int.toNat x<m.length)∧(((0:Int)≤x∧Int.toNat x<rows.length)∧(zif (((gtd ([]:List Int) rows (Int.toNat x)).length:Int) != (((gtd dOp m (Int.toNat x)).2.2.2).length:Int)) (K (QbQ false)) (QjW K m rows (w64 (x+(1:Int))))))) (K (QbQ true)))):QjW K m rows x :=
 Loop.of (by kernel_rfl) h
theorem QRu (m:List TOp') (rows:List (List Int)) (h :
 (zif ((rows.length:Int) != (m.length:Int)) (K (QbQ false)) (QjW K m rows 0))):Hold (tawp QlY (0+0) QUr (TQ 0 0 QvW K) (Qd [(.a [(.c (.sl ctOp) m)]),(.c (.sl [(.sl [TI])]) rows)])) :=
 Hold.of (by kernel_rfl) h
theorem QOF (m:List TOp') (rows:List (List Int)):TCon Tryz.prog 185 [(.a [(.c (.sl ctOp) m)]),(.c (.sl [(.sl [TI])]) rows)] (QbQ (JQ m rows)):=by
 refine Qj rfl fun hb=>tcg (n:=32) (sg:=Qme.sg) Qg TOk.nil (by kernel_rfl) (by kernel_rfl) (QRu _ m rows ?_)
 have hl_m_0:(m).length≤9223372036854775807:=hb.1.1.1
 have hl_rows:rows.length≤9223372036854775807:=hb.2.1.1
 refine ⟨fun h=>R_eq (by grind [JQ]),fun h=>?_⟩
 have hl:rows.length=m.length:=by
  have:((rows.length:Int)==(m.length:Int))=true:=by simpa [bne] using h
  have:=of_decide_eq_true (by simpa using this:decide ((rows.length:Int)=m.length)=true)
  omega
 refine Zp m (fun r k=>ZT r (rows.drop k)=ZT m rows→QjW (fun r'=>r'=QbQ (JQ m rows)) m rows k) ?_ ?_ rfl
 ·intro he
  refine QvM (fun r'=>r'=QbQ (JQ m rows)) m rows _ ⟨fun h=>by simp at h,fun _=>R_eq ?_⟩
  grind [JQ,ZT]
 ·intro k x r hk hlt hg ih he
  obtain ⟨y,q,hq⟩:∃ y q,rows.drop k=y::q:=by
   cases hq:rows.drop k with
   | nil=>have:=congrArg List.length hq;simp at this;omega
   | cons y q=>exact ⟨y,q,rfl⟩
  refine QvM (fun r'=>r'=QbQ (JQ m rows)) m rows _ ⟨fun _=>?_,fun h=>by simp at h;omega⟩
  rw [Int.toNat_natCast,hg,Yp hq,Qq (x:=(k:Int)+1) (by omega) (by omega)]
  rw [hq,ZT] at he
  rw [Z6 hq] at ih
  refine ⟨⟨by omega,hlt⟩,⟨by omega,by omega⟩,fun h=>R_eq ?_,fun h=>ih ?_⟩
  ·grind [JQ]
  ·grind
theorem QO5:Qe Tryz.prog Qme:=Qh fun x _=>QOF x.1 x.2.1
def Qbq (t:Bool):TRes:=zre (zcb t)
def QgR:TRow:=Qf 123 [(.c (.sl ctOp)),(.c (.sl [(.sl [TI])])),(.c TI)] fun x=>(some (Qja x.1 x.2.1 x.2.2.1),Qbq (YU x.1 x.2.1 x.2.2.1))
def QeG:List TRow:=[JO]
def Qul:TCode :=
 (zsq [(.reg [zmv 30 1,zmv 31 7,zia 32 30 31 [(.sl [TI])],zfa 33 32 0,zld 34 33 1,zmv 35 8,zca 36 114 [34,35],zno 37 36]),(.cond 37 (zsq [(.reg [zmv 6 (zkb false)]),.ret]) .skip)])
def QEA:List (Nat × Md):=zdl [0,1,2,7,8]
def QUQ:TCode:=.wk QEA Qul
def Qrn:TCode :=
 (.reg [zmv 12 7,zbi 13 .add 12 (zki 1),zmv 7 13])
def Qmp:TCode :=
 (zsq [(zsq [(.reg [zmv 9 7,zmv 10 2,zbi 11 .lss 9 10]),(.cond 11 .skip (.exit 0))]),(.block 1 (zsq [(.reg [zmv 14 0,zmv 15 0,zle 16 15,zbi 17 .sub 16 (zki 1),zia 18 14 17 ctOp,zfa 19 18 2,zld 20 19 1,zmv 8 20]),(zsq [(.reg [zmv 21 7,zmv 22 0,zle 23 22,zbi 24 .lss 21 23]),(.cond 24 (.reg [zmv 25 0,zmv 26 7,zia 27 25 26 ctOp,zfa 28 27 1,zld 29 28 1,zmv 8 29]) .skip)]),QUQ])),Qrn])
def Qi4:List (Nat × Md):=zdl [0,1,2,7]
def QxZ:TCode :=
 (zsq [(.reg [zmv 6 (zkb true)]),.ret])
def QJO:TCode :=
 (zsq [(.reg [zmv 6 (zkb false)]),(zsq [(.reg [zmv 7 (zki 0)]),(.block 0 (.loop Qi4 Qmp))]),QxZ])
def QyS:List (ARv × Md):=[(.t 6,.one .d)]
def QCv:Qb:=TQ 0 0 QyS K
def QIu:Qb:=Qseq (tawp QeG 0 QxZ (QCv K)) (QCv K)
def QnM:Qb:=Qblk 0 (QIu K)
def Qt9:Qb:=Qseq (fun s'=>Loop QeG 0 Qi4 Qmp (QnM K) (gc 0 Qi4 s')) (QnM K)
def QWn:Qb:=Qseq (tawp QeG 0 Qrn (Qt9 K)) (Qt9 K)
def QMw:Qb:=Qblk 1 (QWn K)
def Qib (ops:List TOp') (rows:List (List Int)) (n:Int) (size:Int) (i:Int):Prop:=tawp QeG 0 Qul (QMw K) ⟨[(0,(zcs ctOp ops)),(1,(zcs [(.sl [TI])] rows)),(2,(zci n)),(7,(zci i)),(8,(zci size))],[],0⟩
def QiT (ops:List TOp') (rows:List (List Int)) (n:Int) (i:Int):Prop:=Loop QeG 0 Qi4 Qmp (QnM K) ⟨[(0,(zcs ctOp ops)),(1,(zcs [(.sl [TI])] rows)),(2,(zci n)),(7,(zci i))],[],0⟩
theorem QGY (ops:List TOp') (rows:List (List Int)) (n:Int) (size:Int) (i:Int) (h :
 (((0:Int)≤i∧Int.toNat i<rows.length)∧(zif (!(Qr (gtd ([]:List Int) rows (Int.toNat i)) size)) (K (Qbq false)) (QiT K ops rows n (w64 (i+(1:Int))))))):Hold (Qib K ops rows n size i) :=
 Hold.of (by kernel_rfl) h
theorem Qwj (ops:List TOp') (rows:List (List Int)) (n:Int) (i:Int) (h :
 (zif (decide (i<n)) (((0:Int)≤w64 ((ops.length:Int)-(1:Int))∧Int.toNat (w64 ((ops.length:Int)-(1:Int)))<ops.length)∧(zif (decide (i<(ops.length:Int))) (((0:Int)≤i∧Int.toNat i<ops.length)∧(Qib K ops rows n ((gtd dOp ops (Int.toNat i)).2.1) i)) (Qib K ops rows n ((gtd dOp ops (Int.toNat (w64 ((ops.length:Int)-(1:Int))))).2.2.1) i))) (K (Qbq true)))):QiT K ops rows n i :=
 Loop.of (by kernel_rfl) h
theorem QE7 (ops:List TOp') (rows:List (List Int)) (n:Int) (h :
 (QiT K ops rows n 0)):Hold (tawp QeG (0+0) QJO (TQ 0 0 QyS K) (Qd [(.c (.sl ctOp) ops),(.c (.sl [(.sl [TI])]) rows),(.c TI n)])) :=
 Hold.of (by kernel_rfl) h
theorem QMN (ops:List TOp') (rows:List (List Int)) (n:Int) (hp:Qja ops rows n):TCon Tryz.prog 123 [(.c (.sl ctOp) ops),(.c (.sl [(.sl [TI])]) rows),(.c TI n)] (Qbq (YU ops rows n)):=by
 refine Qj rfl fun hb=>tcg (n:=38) (sg:=QgR.sg) Qg (TOk.cons Qav TOk.nil) (by kernel_rfl) (by kernel_rfl) (QE7 _ ops rows n ?_)
 have hl_ops:ops.length≤9223372036854775807:=hb.1.1
 have hl_rows:rows.length≤9223372036854775807:=hb.2.1.1
 have:=QnA rows 0 n (Int.le_refl 0) hp.2.1 hp.2.2 (fun r k=>Jl ops k r=(YU ops rows n)→QiT (fun r'=>r'=Qbq (YU ops rows n)) ops rows n k) ?_ ?_ (by simp [YU,slice])
 ·exact this
 ·intro he
  refine Qwj (fun r'=>r'=Qbq (YU ops rows n)) ops rows n _ ⟨fun h=>by simp at h;omega,fun _=>R_eq ?_⟩
  simpa [Jl] using he
 ·intro k x r h1 h2 hlt hg ih he
  have e:=Qdl hp.1 hl_ops
  have key:Qib (fun r'=>r'=Qbq (YU ops rows n)) ops rows n (QbD ops k) k:=by
   refine (QGY (fun r'=>r'=Qbq (YU ops rows n)) ops rows n _ _ ?_).h
   rw [Int.toNat_natCast,hg,Qq (x:=(k:Int)+1) (by omega) (by omega)]
   rw [Jl] at he
   refine ⟨⟨by omega,hlt⟩,fun h=>R_eq ?_,fun h=>ih ?_⟩ <;> grind
  refine Qwj (fun r'=>r'=Qbq (YU ops rows n)) ops rows n _ ⟨fun _=>?_,fun h=>by simp at h;omega⟩
  rw [e.1,Int.toNat_natCast]
  refine ⟨⟨e.2,by have:=hp.1;omega⟩,fun h=>⟨⟨by omega,by simpa using h⟩,?_⟩,fun h=>?_⟩
  ·rw [QbD,if_pos (by simpa using h)] at key;exact key
  ·rw [QbD,if_neg (by simpa using h)] at key;exact key
theorem QsN:Qe Tryz.prog QgR:=Qh fun x h=>QMN x.1 x.2.1 x.2.2.1 h
def Qau (t:Bool):TRes:=zre (zcb t)
def Qec:TRow:=Qf 113 [(.a QI)] fun x=>(none,Qau (Zn x.1))
def Qkq:List TRow:=[QdL,JU,Qme,QgR,QdP,Qef,QmH]
def Qx4:TCode :=
 (zsq [(.reg [zbi 45 .lss 44 43]),(.cond 45 .skip (.exit 0)),(.block 1 (zsq [(.reg [zia 46 42 44 ZM,zLd 47 46 2,zop 6 (.new 76 (z0s ZM)),zst 6 47 2]),(.reg [zfa 48 6 1,zld 49 48 1,zle 50 49,zmv 51 4,zbi 52 .neq 50 51,zmv 53 52,.grp 53 false [zfa 54 1 2,zld 55 54 1,zfa 56 6 1,zld 57 56 1,zmv 58 4,zca 59 123 [55,57,58],zno 60 59] 61 60]),(.cond 61 (zsq [(.reg [zmv 2 (zkb false)]),.ret]) .skip)])),(.reg [zbi 62 .add 44 (zki 1),zmv 44 62])])
def QDR:List (Nat × Md):=[(1,.b (zds 14)),(3,.b [.d]),(4,.one .d),(42,.one .d),(43,.one .d),(44,.one .d)]
def Qxz:TCode :=
 (zsq [(.draw [zLd 63 3 1,zca 64 115 [63],zLd 65 3 1,zca 66 117 [65],zmv 7 64,zmv 8 66] [(1,2)]),(.reg [zfa 67 1 7,zld 68 67 1,zmv 69 7,zca 70 186 [68,69],zmv 71 70,.grp 71 true [zfa 72 1 10,zld 73 72 1,zmv 74 7,zca 75 186 [73,74]] 76 75,zmv 77 76,.grp 77 true [zfa 78 1 8,zld 79 78 1,zmv 80 8,zca 81 186 [79,80]] 82 81,zmv 83 82,.grp 83 true [zfa 84 1 9,zld 85 84 1,zmv 86 8,zca 87 186 [85,86]] 88 87,zmv 2 88]),.ret])
def Qxn:TCode :=
 (zsq [(zsq [(.reg [zfa 41 1 5,zld 42 41 1,zle 43 42,zmv 44 (zki 0)]),(.block 0 (.loop QDR Qx4))]),Qxz])
def QET:List (Nat × Md):=[(1,.b (zds 14)),(3,.b [.d]),(4,.one .d)]
def QV3:TCode:=.wk QET Qxn
def QG1:TCode :=
 (zsq [(.reg [zop 1 (.box 63 0 14),zmv 2 (zkb false)]),(.reg [zLd 9 1 14,zca 10 112 [9],zop 3 (.new 26 [(.n ctOp)]),zst 3 10 1]),(zsq [(.reg [zLd 11 3 1,zca 12 131 [11],zno 13 12,zmv 14 13,.grp 14 false [zfa 15 1 0,zld 16 15 1,zbi 17 .lss 16 (zki 0)] 18 17,zmv 19 18,.grp 19 false [zfa 20 1 0,zld 21 20 1,zfa 22 1 1,zld 23 22 1,zle 24 23,zbi 25 .gtr 21 24] 26 25,zmv 27 26,.grp 27 false [zLd 28 3 1,zfa 29 1 11,zfa 30 29 0,zld 31 30 1,zca 32 185 [28,31],zno 33 32] 34 33]),(.cond 34 (zsq [(.reg [zmv 2 (zkb false)]),.ret]) .skip)]),(.reg [zfa 35 1 2,zld 36 35 1,zle 37 36,zbi 38 .add 37 (zki 1),zmv 4 38]),(zsq [(.reg [zfa 39 1 4,zld 40 39 1]),(.cond 40 (.reg [zmv 4 (zki 1)]) .skip)]),QV3])
def QxF:List (ARv × Md):=[(.t 2,.one .d)]
def QmX:Qb:=TQ 0 0 QxF K
def QLm:Qb:=Qseq (tawp Qkq 0 Qxz (QmX K)) (QmX K)
def QT8:Qb:=Qblk 0 (QLm K)
def QfV (s:Qc) (kept:Int) (x:Int):Prop:=Loop Qkq 0 QDR Qx4 (QT8 K) ⟨[(1,(.p 0 0 0)),(3,(.p 1 0 0)),(4,(zci kept)),(42,(zcs ZM s.2.2.2.2.2.1)),(43,(zci ((s.2.2.2.2.2.1).length:Int))),(44,(zci x))],[(0,(.box (Tup.cells QI s))),(1,(.box [(zcs ctOp (Z3 s))]))],2⟩
def QpO (s:Qc) (kept:Int):Prop:=tawp Qkq 0 Qxn (QmX K) ⟨[(1,(.p 0 0 0)),(3,(.p 1 0 0)),(4,(zci kept))],[(0,(.box (Tup.cells QI s))),(1,(.box [(zcs ctOp (Z3 s))]))],2⟩
theorem QzN (s:Qc) (kept:Int) (x:Int) (h :
 (zif (decide (x<((s.2.2.2.2.2.1).length:Int))) (((0:Int)≤x∧Int.toNat x<(s.2.2.2.2.2.1).length)∧(((!((((gtd YO s.2.2.2.2.2.1 (Int.toNat x)).2).length:Int) != kept))=true→(Qja s.2.2.1 ((gtd YO s.2.2.2.2.2.1 (Int.toNat x)).2) kept))∧(zif (((((gtd YO s.2.2.2.2.2.1 (Int.toNat x)).2).length:Int) != kept)||(!(YU s.2.2.1 ((gtd YO s.2.2.2.2.2.1 (Int.toNat x)).2) kept))) (K (Qau false)) (QfV K s kept (w64 (x+(1:Int))))))) (K (Qau ((((YX s.2.2.2.2.2.2.2.1 (Q7 (Z3 s)))&&(YX s.2.2.2.2.2.2.2.2.2.2.1 (Q7 (Z3 s))))&&(YX s.2.2.2.2.2.2.2.2.1 (Za (Z3 s))))&&(YX s.2.2.2.2.2.2.2.2.2.1 (Za (Z3 s)))))))):QfV K s kept x :=
 Loop.of (by kernel_rfl) h
theorem Quy (s:Qc) (kept:Int) (h :
 (QfV K s kept 0)):Hold (QpO K s kept) :=
 Hold.of (by kernel_rfl) h
theorem QKK (s:Qc) (h :
 (zif ((((!(QN (Z3 s)))||(decide (s.1<(0:Int))))||(decide (s.1>((s.2.1).length:Int))))||(!(JQ (Z3 s) s.2.2.2.2.2.2.2.2.2.2.2.1))) (K (Qau false)) (zif s.2.2.2.2.1 (QpO K s 1) (QpO K s (w64 (((s.2.2.1).length:Int)+(1:Int))))))):Hold (tawp Qkq (0+0) QG1 (TQ 0 0 QxF K) (Qd [(.a (Tup.cells QI s))])) :=
 Hold.of (by kernel_rfl) h
theorem QMI (s:Qc):TCon Tryz.prog 113 [(.a (Tup.cells QI s))] (Qau (Zn s)):=by
 refine Qj rfl fun hb=>tcg (n:=89) (sg:=Qec.sg) Qg (TOk.cons QiZ (TOk.cons QaU (TOk.cons QO5 (TOk.cons QsN (TOk.cons QjR (TOk.cons QgJ (TOk.cons QIl TOk.nil))))))) (by kernel_rfl) (by kernel_rfl) (QKK _ s ?_)
 have hl_s_1:(s.2.1).length≤9223372036854775807:=hb.1.2.1.1
 have hl_s_2:(s.2.2.1).length≤9223372036854775807:=hb.1.2.2.1.1
 have hl_s_5:(s.2.2.2.2.2.1).length≤9223372036854775807:=hb.1.2.2.2.2.2.1.1
 have hl_s_6:(s.2.2.2.2.2.2.1).length≤9223372036854775807:=hb.1.2.2.2.2.2.2.1.1
 have hl_s_7:(s.2.2.2.2.2.2.2.1).length≤9223372036854775807:=hb.1.2.2.2.2.2.2.2.1.1
 have hl_s_8:(s.2.2.2.2.2.2.2.2.1).length≤9223372036854775807:=hb.1.2.2.2.2.2.2.2.2.1.1
 have hl_s_9:(s.2.2.2.2.2.2.2.2.2.1).length≤9223372036854775807:=hb.1.2.2.2.2.2.2.2.2.2.1.1
 have hl_s_10:(s.2.2.2.2.2.2.2.2.2.2.1).length≤9223372036854775807:=hb.1.2.2.2.2.2.2.2.2.2.2.1.1
 have hl_s_11:(s.2.2.2.2.2.2.2.2.2.2.2.1).length≤9223372036854775807:=hb.1.2.2.2.2.2.2.2.2.2.2.2.1.1
 refine ⟨fun h=>R_eq (by grind [Zn,m_in]),fun h=>?_⟩
 have h0:QN s.2.2.1=true∧m_in s.1 0 s.2.1.length=true∧JQ s.2.2.1 s.2.2.2.2.2.2.2.2.2.2.2.1=true:=by grind [m_in]
 have hm:=YM h0.1
 have hk:1≤Jr s∧Jr s≤9:=by unfold Jr;split <;> omega
 have key:QfV (fun r'=>r'=Qau (Zn s)) s (Jr s) ((0:Nat):Int):=by
  refine Zp s.2.2.2.2.2.1 (fun r k=>r.all (QaR s)=s.2.2.2.2.2.1.all (QaR s)→QfV (fun r'=>r'=Qau (Zn s)) s (Jr s) k) ?_ ?_ rfl
  ·intro he
   refine QzN (fun r'=>r'=Qau (Zn s)) s _ _ ⟨fun h=>by simp at h,fun _=>R_eq ?_⟩
   grind [Zn]
  ·intro k x r hk2 hlt hg ih he
   refine QzN (fun r'=>r'=Qau (Zn s)) s _ _ ⟨fun _=>?_,fun h=>by simp at h;omega⟩
   rw [Int.toNat_natCast,hg,Qq (x:=(k:Int)+1) (by omega) (by omega)]
   refine ⟨⟨by omega,hlt⟩,fun h=>?_,fun h=>R_eq ?_,fun h=>ih ?_⟩
   ·have:(x.2.length:Int)=Jr s:=by simpa using h
    exact ⟨hm.1,by omega,by omega⟩
   ·grind [Zn,QaR]
   ·grind [QaR]
 refine ⟨fun h1=>?_,fun h1=>?_⟩
 ·have e:Jr s=1:=by simp [Jr,h1]
  rw [e] at key
  exact (Quy (fun r'=>r'=Qau (Zn s)) s _ key).h
 ·have e:Jr s=s.2.2.1.length+1:=by simp [Jr,h1]
  rw [Qq (x:=(s.2.2.1.length:Int)+1) (by omega) (by omega)]
  rw [e] at key
  exact (Quy (fun r'=>r'=Qau (Zn s)) s _ key).h
theorem QhD:Qe Tryz.prog Qec:=Qh fun x _=>QMI x.1
end
end Go.Proofs.YtjbdljkhbglnhaaGreat.Am

