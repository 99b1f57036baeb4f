/- -/
import Derived.Test.YtjbdljkhbglnhaaGreatZAP1
import Derived.Test.YtjbdljkhbglnhaaGreatZAP4
namespace Go.Proofs.YtjbdljkhbglnhaaGreat.Am
open Go Go.RowKit Go.Proofs.YtjbdljkhbglnhaaGreat
set_option linter.all false
noncomputable section
variable (K:TRes→Prop)
def QkS (t:(List TOp')):TRes:=zra (.a [(zcs ctOp t)])
def QdP:TRow:=Qh 112 [(.a Qt)] fun x=>(none,QkS (ZR x.1))
def QDF:List TRow:=[]
def QDP:TCode :=
 (zsq [(.reg [zop 1 (.box 63 0 14),zop 2 (.new 26 [(.n ctOp)])]),(.reg [zfa 3 1 2,zld 4 3 1,zop 5 (.build [(.n ctOp)] [(0,1,4)]),zst 2 5 1]),.ret])
def QG4:List (ARv × Md):=[(.l 2 1 true,.b [.d])]
theorem QDw (s:Qc) (h :
K (QkS s.2.2.1)):Hold (tawp QDF (0+0) QDP (TQ 0 0 QG4 K) (Qf [(.a (Tup.cells Qt s))])) :=
 Hold.of (by kernel_rfl) h
theorem QGV (s:Qc):TCon Tryz.prog 112 [(.a (Tup.cells Qt s))] (QkS (ZR s)):=by
 refine Qq rfl fun hb=>tcg (n:=6) (sg:=QdP.sg) Ql TOk.nil (by kernel_rfl) (by kernel_rfl) (QDw _ s ?_)
 have hl_s_1:(s.2.1).length≤9223372036854775807:=hb.1.2.1.1
 have hl_s_2:(s.2.2.1).length≤9223372036854775807:=hb.1.2.2.1.1
 have hl_s_5:(s.2.2.2.2.2.1).length≤9223372036854775807:=hb.1.2.2.2.2.2.1.1
 have hl_s_6:(s.2.2.2.2.2.2.1).length≤9223372036854775807:=hb.1.2.2.2.2.2.2.1.1
 have hl_s_7:(s.2.2.2.2.2.2.2.1).length≤9223372036854775807:=hb.1.2.2.2.2.2.2.2.1.1
 have hl_s_8:(s.2.2.2.2.2.2.2.2.1).length≤9223372036854775807:=hb.1.2.2.2.2.2.2.2.2.1.1
 have hl_s_9:(s.2.2.2.2.2.2.2.2.2.1).length≤9223372036854775807:=hb.1.2.2.2.2.2.2.2.2.2.1.1
 have hl_s_10:(s.2.2.2.2.2.2.2.2.2.2.1).length≤9223372036854775807:=hb.1.2.2.2.2.2.2.2.2.2.2.1.1
 have hl_s_11:(s.2.2.2.2.2.2.2.2.2.2.2.1).length≤9223372036854775807:=hb.1.2.2.2.2.2.2.2.2.2.2.2.1.1
 exact R_eq rfl
theorem QiK:Qi Tryz.prog QdP:=Qm fun x _=>QGV x.1
def Qbu (t:Bool):TRes:=zre (zcb t)
def Qle:TRow:=Qh 185 [(.a [(.sl ctOp)]),(.c (.sl [(.sl [TI])]))] fun x=>(none,Qbu (JM x.1 x.2.1))
def QkM:List TRow:=[]
def Qs9:TCode :=
 (zsq [(.reg [zbi 17 .lss 16 15]),(.cond 17 .skip (.exit 0)),(.block 1 (zsq [(.reg [zmv 18 16,zia 19 14 16 ctOp,zLd 20 19 4,zop 6 (.new 69 (z0s ctOp)),zmv 5 18,zst 6 20 4]),(.draw [zmv 21 1,zmv 22 5,zia 23 21 22 [(.sl [TI])],zfa 24 23 0,zld 25 24 1,zle 26 25,zfa 27 6 3,zld 28 27 1,zle 29 28,zbi 30 .neq 26 29] []),(.cond 30 (zsq [(.reg [zmv 4 (zkb false)]),.ret]) .skip)])),(.reg [zbi 31 .add 16 (zki 1),zmv 16 31])])
def Qrc:List (Nat × Md):=zdl [1,14,15,16]
def Qwe:TCode :=
 (zsq [(.reg [zmv 4 (zkb true)]),.ret])
def QO8:TCode :=
 (zsq [(.reg [zop 2 (.box 26 0 1),zmv 4 (zkb false)]),(zsq [(.reg [zmv 7 1,zle 8 7,zfa 9 2 0,zld 10 9 1,zle 11 10,zbi 12 .neq 8 11]),(.cond 12 (zsq [(.reg [zmv 4 (zkb false)]),.ret]) .skip)]),(zsq [(.reg [zfa 13 2 0,zld 14 13 1,zle 15 14,zmv 16 (zki 0)]),(.block 0 (.loop Qrc Qs9))]),Qwe])
def Qrn:List (ARv × Md):=[(.t 4,.one .d)]
def Qwk:Qb:=TQ 0 0 Qrn K
def QCH:Qb:=Qseq (tawp QkM 0 Qwe (Qwk K)) (Qwk K)
def QPR:Qb:=Qblk 0 (QCH K)
def Qh8 (m:List TOp') (rows:List (List Int)) (x:Int):Prop:=Loop QkM 0 Qrc Qs9 (QPR K) ⟨[(1,(zcs [(.sl [TI])] rows)),(14,(zcs ctOp m)),(15,(zci (m.length:Int))),(16,(zci x))],[],0⟩
theorem Quk (m:List TOp') (rows:List (List Int)) (x:Int) (h :
(zif (decide (x<(m.length:Int))) (((0:Int)≤x∧Int.toNat x<m.length)∧(((0:Int)≤x∧Int.toNat x<rows.length)∧(zif (((gtd ([]:List Int) rows (Int.toNat x)).length:Int) != (((gtd dOp m (Int.toNat x)).2.2.2).length:Int)) (K (Qbu false)) (Qh8 K m rows (w64 (x+(1:Int))))))) (K (Qbu true)))):Qh8 K m rows x :=
 Loop.of (by kernel_rfl) h
theorem QFT (m:List TOp') (rows:List (List Int)) (h :
(zif ((rows.length:Int) != (m.length:Int)) (K (Qbu false)) (Qh8 K m rows 0))):Hold (tawp QkM (0+0) QO8 (TQ 0 0 Qrn K) (Qf [(.a [(.c (.sl ctOp) m)]),(.c (.sl [(.sl [TI])]) rows)])) :=
 Hold.of (by kernel_rfl) h
theorem QCy (m:List TOp') (rows:List (List Int)):TCon Tryz.prog 185 [(.a [(.c (.sl ctOp) m)]),(.c (.sl [(.sl [TI])]) rows)] (Qbu (JM m rows)):=by
 refine Qq rfl fun hb=>tcg (n:=32) (sg:=Qle.sg) Ql TOk.nil (by kernel_rfl) (by kernel_rfl) (QFT _ m rows ?_)
 have hl_m_0:(m).length≤9223372036854775807:=hb.1.1.1
 have hl_rows:rows.length≤9223372036854775807:=hb.2.1.1
 refine ⟨fun h=>R_eq (by grind [JM]),fun h=>?_⟩
 have hl:rows.length=m.length:=by
  have:((rows.length:Int)==(m.length:Int))=true:=by simpa [bne] using h
  have:=of_decide_eq_true (by simpa using this:decide ((rows.length:Int)=m.length)=true)
  omega
 refine Zi m (fun r k=>Z6 r (rows.drop k)=Z6 m rows→Qh8 (fun r'=>r'=Qbu (JM m rows)) m rows k) ?_ ?_ rfl
 ·intro he
  refine Quk (fun r'=>r'=Qbu (JM m rows)) m rows _ ⟨fun h=>by simp at h,fun _=>R_eq ?_⟩
  grind [JM,Z6]
 ·intro k x r hk hlt hg ih he
  obtain ⟨y,q,hq⟩:∃ y q,rows.drop k=y::q:=by
   cases hq:rows.drop k with
   | nil=>have:=congrArg List.length hq;simp at this;omega
   | cons y q=>exact ⟨y,q,rfl⟩
  refine Quk (fun r'=>r'=Qbu (JM m rows)) m rows _ ⟨fun _=>?_,fun h=>by simp at h;omega⟩
  rw [Int.toNat_natCast,hg,Y4 hq,Qp (x:=(k:Int)+1) (by omega) (by omega)]
  rw [hq,Z6] at he
  rw [YN hq] at ih
  refine ⟨⟨by omega,hlt⟩,⟨by omega,by omega⟩,fun h=>R_eq ?_,fun h=>ih ?_⟩
  ·grind [JM]
  ·grind
theorem QKI:Qi Tryz.prog Qle:=Qm fun x _=>QCy x.1 x.2.1
def Qa8 (t:Bool):TRes:=zre (zcb t)
def Qgt:TRow:=Qh 123 [(.c (.sl ctOp)),(.c (.sl [(.sl [TI])])),(.c TI)] fun x=>(some (Qg3 x.1 x.2.1 x.2.2.1),Qa8 (YJ x.1 x.2.1 x.2.2.1))
def QdD:List TRow:=[JF]
def QuO:TCode :=
 (zsq [(.reg [zmv 30 1,zmv 31 7,zia 32 30 31 [(.sl [TI])],zfa 33 32 0,zld 34 33 1,zmv 35 8,zca 36 114 [34,35],zno 37 36]),(.cond 37 (zsq [(.reg [zmv 6 (zkb false)]),.ret]) .skip)])
def QOn:List (Nat × Md):=zdl [0,1,2,7,8]
def QHX:TCode:=.wk QOn QuO
def QxC:TCode :=
 (.reg [zmv 12 7,zbi 13 .add 12 (zki 1),zmv 7 13])
def QjO:TCode :=
 (zsq [(zsq [(.reg [zmv 9 7,zmv 10 2,zbi 11 .lss 9 10]),(.cond 11 .skip (.exit 0))]),(.block 1 (zsq [(.reg [zmv 14 0,zmv 15 0,zle 16 15,zbi 17 .sub 16 (zki 1),zia 18 14 17 ctOp,zfa 19 18 2,zld 20 19 1,zmv 8 20]),(zsq [(.reg [zmv 21 7,zmv 22 0,zle 23 22,zbi 24 .lss 21 23]),(.cond 24 (.reg [zmv 25 0,zmv 26 7,zia 27 25 26 ctOp,zfa 28 27 1,zld 29 28 1,zmv 8 29]) .skip)]),QHX])),QxC])
def Qgw:List (Nat × Md):=zdl [0,1,2,7]
def Qw2:TCode :=
 (zsq [(.reg [zmv 6 (zkb true)]),.ret])
def QQT:TCode :=
 (zsq [(.reg [zmv 6 (zkb false)]),(zsq [(.reg [zmv 7 (zki 0)]),(.block 0 (.loop Qgw QjO))]),Qw2])
def Qy7:List (ARv × Md):=[(.t 6,.one .d)]
def Qov:Qb:=TQ 0 0 Qy7 K
def QQu:Qb:=Qseq (tawp QdD 0 Qw2 (Qov K)) (Qov K)
def Qlw:Qb:=Qblk 0 (QQu K)
def QrA:Qb:=Qseq (fun s'=>Loop QdD 0 Qgw QjO (Qlw K) (gc 0 Qgw s')) (Qlw K)
def QJs:Qb:=Qseq (tawp QdD 0 QxC (QrA K)) (QrA K)
def QLi:Qb:=Qblk 1 (QJs K)
def QgT (ops:List TOp') (rows:List (List Int)) (n:Int) (size:Int) (i:Int):Prop:=tawp QdD 0 QuO (QLi K) ⟨[(0,(zcs ctOp ops)),(1,(zcs [(.sl [TI])] rows)),(2,(zci n)),(7,(zci i)),(8,(zci size))],[],0⟩
def Qhn (ops:List TOp') (rows:List (List Int)) (n:Int) (i:Int):Prop:=Loop QdD 0 Qgw QjO (Qlw K) ⟨[(0,(zcs ctOp ops)),(1,(zcs [(.sl [TI])] rows)),(2,(zci n)),(7,(zci i))],[],0⟩
theorem QQ9 (ops:List TOp') (rows:List (List Int)) (n:Int) (size:Int) (i:Int) (h :
(((0:Int)≤i∧Int.toNat i<rows.length)∧(zif (!(Qs (gtd ([]:List Int) rows (Int.toNat i)) size)) (K (Qa8 false)) (Qhn K ops rows n (w64 (i+(1:Int))))))):Hold (QgT K ops rows n size i) :=
 Hold.of (by kernel_rfl) h
theorem Qt9 (ops:List TOp') (rows:List (List Int)) (n:Int) (i:Int) (h :
(zif (decide (i<n)) (((0:Int)≤w64 ((ops.length:Int)-(1:Int))∧Int.toNat (w64 ((ops.length:Int)-(1:Int)))<ops.length)∧(zif (decide (i<(ops.length:Int))) (((0:Int)≤i∧Int.toNat i<ops.length)∧(QgT K ops rows n ((gtd dOp ops (Int.toNat i)).2.1) i)) (QgT K ops rows n ((gtd dOp ops (Int.toNat (w64 ((ops.length:Int)-(1:Int))))).2.2.1) i))) (K (Qa8 true)))):Qhn K ops rows n i :=
 Loop.of (by kernel_rfl) h
theorem QOD (ops:List TOp') (rows:List (List Int)) (n:Int) (h :
(Qhn K ops rows n 0)):Hold (tawp QdD (0+0) QQT (TQ 0 0 Qy7 K) (Qf [(.c (.sl ctOp) ops),(.c (.sl [(.sl [TI])]) rows),(.c TI n)])) :=
 Hold.of (by kernel_rfl) h
theorem QMv (ops:List TOp') (rows:List (List Int)) (n:Int) (hp:Qg3 ops rows n):TCon Tryz.prog 123 [(.c (.sl ctOp) ops),(.c (.sl [(.sl [TI])]) rows),(.c TI n)] (Qa8 (YJ ops rows n)):=by
 refine Qq rfl fun hb=>tcg (n:=38) (sg:=Qgt.sg) Ql (TOk.cons Qaf TOk.nil) (by kernel_rfl) (by kernel_rfl) (QOD _ ops rows n ?_)
 have hl_ops:ops.length≤9223372036854775807:=hb.1.1
 have hl_rows:rows.length≤9223372036854775807:=hb.2.1.1
 have:=QkJ rows 0 n (Int.le_refl 0) hp.2.1 hp.2.2 (fun r k=>Jc ops k r=(YJ ops rows n)→Qhn (fun r'=>r'=Qa8 (YJ ops rows n)) ops rows n k) ?_ ?_ (by simp [YJ,slice])
 ·exact this
 ·intro he
  refine Qt9 (fun r'=>r'=Qa8 (YJ ops rows n)) ops rows n _ ⟨fun h=>by simp at h;omega,fun _=>R_eq ?_⟩
  simpa [Jc] using he
 ·intro k x r h1 h2 hlt hg ih he
  have e:=Qc5 hp.1 hl_ops
  have key:QgT (fun r'=>r'=Qa8 (YJ ops rows n)) ops rows n (Qba ops k) k:=by
   refine (QQ9 (fun r'=>r'=Qa8 (YJ ops rows n)) ops rows n _ _ ?_).h
   rw [Int.toNat_natCast,hg,Qp (x:=(k:Int)+1) (by omega) (by omega)]
   rw [Jc] at he
   refine ⟨⟨by omega,hlt⟩,fun h=>R_eq ?_,fun h=>ih ?_⟩ <;> grind
  refine Qt9 (fun r'=>r'=Qa8 (YJ ops rows n)) ops rows n _ ⟨fun _=>?_,fun h=>by simp at h;omega⟩
  rw [e.1,Int.toNat_natCast]
  refine ⟨⟨e.2,by have:=hp.1;omega⟩,fun h=>⟨⟨by omega,by simpa using h⟩,?_⟩,fun h=>?_⟩
  ·rw [Qba,if_pos (by simpa using h)] at key;exact key
  ·rw [Qba,if_neg (by simpa using h)] at key;exact key
theorem QtX:Qi Tryz.prog Qgt:=Qm fun x h=>QMv x.1 x.2.1 x.2.2.1 h
def Qae (t:Bool):TRes:=zre (zcb t)
def Qd2:TRow:=Qh 113 [(.a Qt)] fun x=>(none,Qae (Q9 x.1))
def Qh7:List TRow:=[QdP,JV,Qle,Qgt,Qdh,QdS,Qll]
def QyB:TCode :=
 (zsq [(.reg [zbi 45 .lss 44 43]),(.cond 45 .skip (.exit 0)),(.block 1 (zsq [(.reg [zia 46 42 44 Zn,zLd 47 46 2,zop 6 (.new 76 (z0s Zn)),zst 6 47 2]),(.reg [zfa 48 6 1,zld 49 48 1,zle 50 49,zmv 51 4,zbi 52 .neq 50 51,zmv 53 52,.grp 53 false [zfa 54 1 2,zld 55 54 1,zfa 56 6 1,zld 57 56 1,zmv 58 4,zca 59 123 [55,57,58],zno 60 59] 61 60]),(.cond 61 (zsq [(.reg [zmv 2 (zkb false)]),.ret]) .skip)])),(.reg [zbi 62 .add 44 (zki 1),zmv 44 62])])
def QsN:List (Nat × Md):=[(1,.b (zds 14)),(3,.b [.d]),(4,.one .d),(42,.one .d),(43,.one .d),(44,.one .d)]
def QtH:TCode :=
 (zsq [(.draw [zLd 63 3 1,zca 64 115 [63],zLd 65 3 1,zca 66 117 [65],zmv 7 64,zmv 8 66] [(1,2)]),(.reg [zfa 67 1 7,zld 68 67 1,zmv 69 7,zca 70 186 [68,69],zmv 71 70,.grp 71 true [zfa 72 1 10,zld 73 72 1,zmv 74 7,zca 75 186 [73,74]] 76 75,zmv 77 76,.grp 77 true [zfa 78 1 8,zld 79 78 1,zmv 80 8,zca 81 186 [79,80]] 82 81,zmv 83 82,.grp 83 true [zfa 84 1 9,zld 85 84 1,zmv 86 8,zca 87 186 [85,86]] 88 87,zmv 2 88]),.ret])
def QwI:TCode :=
 (zsq [(zsq [(.reg [zfa 41 1 5,zld 42 41 1,zle 43 42,zmv 44 (zki 0)]),(.block 0 (.loop QsN QyB))]),QtH])
def QGq:List (Nat × Md):=[(1,.b (zds 14)),(3,.b [.d]),(4,.one .d)]
def QOd:TCode:=.wk QGq QwI
def QOW:TCode :=
 (zsq [(.reg [zop 1 (.box 63 0 14),zmv 2 (zkb false)]),(.reg [zLd 9 1 14,zca 10 112 [9],zop 3 (.new 26 [(.n ctOp)]),zst 3 10 1]),(zsq [(.reg [zLd 11 3 1,zca 12 131 [11],zno 13 12,zmv 14 13,.grp 14 false [zfa 15 1 0,zld 16 15 1,zbi 17 .lss 16 (zki 0)] 18 17,zmv 19 18,.grp 19 false [zfa 20 1 0,zld 21 20 1,zfa 22 1 1,zld 23 22 1,zle 24 23,zbi 25 .gtr 21 24] 26 25,zmv 27 26,.grp 27 false [zLd 28 3 1,zfa 29 1 11,zfa 30 29 0,zld 31 30 1,zca 32 185 [28,31],zno 33 32] 34 33]),(.cond 34 (zsq [(.reg [zmv 2 (zkb false)]),.ret]) .skip)]),(.reg [zfa 35 1 2,zld 36 35 1,zle 37 36,zbi 38 .add 37 (zki 1),zmv 4 38]),(zsq [(.reg [zfa 39 1 4,zld 40 39 1]),(.cond 40 (.reg [zmv 4 (zki 1)]) .skip)]),QOd])
def Qvl:List (ARv × Md):=[(.t 2,.one .d)]
def Qly:Qb:=TQ 0 0 Qvl K
def QOr:Qb:=Qseq (tawp Qh7 0 QtH (Qly K)) (Qly K)
def QJX:Qb:=Qblk 0 (QOr K)
def QeM (s:Qc) (kept:Int) (x:Int):Prop:=Loop Qh7 0 QsN QyB (QJX K) ⟨[(1,(.p 0 0 0)),(3,(.p 1 0 0)),(4,(zci kept)),(42,(zcs Zn s.2.2.2.2.2.1)),(43,(zci ((s.2.2.2.2.2.1).length:Int))),(44,(zci x))],[(0,(.box (Tup.cells Qt s))),(1,(.box [(zcs ctOp (ZR s))]))],2⟩
def Ql3 (s:Qc) (kept:Int):Prop:=tawp Qh7 0 QwI (Qly K) ⟨[(1,(.p 0 0 0)),(3,(.p 1 0 0)),(4,(zci kept))],[(0,(.box (Tup.cells Qt s))),(1,(.box [(zcs ctOp (ZR s))]))],2⟩
theorem Qo7 (s:Qc) (kept:Int) (x:Int) (h :
(zif (decide (x<((s.2.2.2.2.2.1).length:Int))) (((0:Int)≤x∧Int.toNat x<(s.2.2.2.2.2.1).length)∧(((!((((gtd Z5 s.2.2.2.2.2.1 (Int.toNat x)).2).length:Int) != kept))=true→(Qg3 s.2.2.1 ((gtd Z5 s.2.2.2.2.2.1 (Int.toNat x)).2) kept))∧(zif (((((gtd Z5 s.2.2.2.2.2.1 (Int.toNat x)).2).length:Int) != kept)||(!(YJ s.2.2.1 ((gtd Z5 s.2.2.2.2.2.1 (Int.toNat x)).2) kept))) (K (Qae false)) (QeM K s kept (w64 (x+(1:Int))))))) (K (Qae ((((YU s.2.2.2.2.2.2.2.1 (QZ (ZR s)))&&(YU s.2.2.2.2.2.2.2.2.2.2.1 (QZ (ZR s))))&&(YU s.2.2.2.2.2.2.2.2.1 (Q3 (ZR s))))&&(YU s.2.2.2.2.2.2.2.2.2.1 (Q3 (ZR s)))))))):QeM K s kept x :=
 Loop.of (by kernel_rfl) h
theorem Qup (s:Qc) (kept:Int) (h :
(QeM K s kept 0)):Hold (Ql3 K s kept) :=
 Hold.of (by kernel_rfl) h
theorem QMH (s:Qc) (h :
(zif ((((!(QN (ZR s)))||(decide (s.1<(0:Int))))||(decide (s.1>((s.2.1).length:Int))))||(!(JM (ZR s) s.2.2.2.2.2.2.2.2.2.2.2.1))) (K (Qae false)) (zif s.2.2.2.2.1 (Ql3 K s 1) (Ql3 K s (w64 (((s.2.2.1).length:Int)+(1:Int))))))):Hold (tawp Qh7 (0+0) QOW (TQ 0 0 Qvl K) (Qf [(.a (Tup.cells Qt s))])) :=
 Hold.of (by kernel_rfl) h
theorem QEF (s:Qc):TCon Tryz.prog 113 [(.a (Tup.cells Qt s))] (Qae (Q9 s)):=by
 refine Qq rfl fun hb=>tcg (n:=89) (sg:=Qd2.sg) Ql (TOk.cons QiK (TOk.cons Qaw (TOk.cons QKI (TOk.cons QtX (TOk.cons QiZ (TOk.cons QiF (TOk.cons QLY TOk.nil))))))) (by kernel_rfl) (by kernel_rfl) (QMH _ s ?_)
 have hl_s_1:(s.2.1).length≤9223372036854775807:=hb.1.2.1.1
 have hl_s_2:(s.2.2.1).length≤9223372036854775807:=hb.1.2.2.1.1
 have hl_s_5:(s.2.2.2.2.2.1).length≤9223372036854775807:=hb.1.2.2.2.2.2.1.1
 have hl_s_6:(s.2.2.2.2.2.2.1).length≤9223372036854775807:=hb.1.2.2.2.2.2.2.1.1
 have hl_s_7:(s.2.2.2.2.2.2.2.1).length≤9223372036854775807:=hb.1.2.2.2.2.2.2.2.1.1
 have hl_s_8:(s.2.2.2.2.2.2.2.2.1).length≤9223372036854775807:=hb.1.2.2.2.2.2.2.2.2.1.1
 have hl_s_9:(s.2.2.2.2.2.2.2.2.2.1).length≤9223372036854775807:=hb.1.2.2.2.2.2.2.2.2.2.1.1
 have hl_s_10:(s.2.2.2.2.2.2.2.2.2.2.1).length≤9223372036854775807:=hb.1.2.2.2.2.2.2.2.2.2.2.1.1
 have hl_s_11:(s.2.2.2.2.2.2.2.2.2.2.2.1).length≤9223372036854775807:=hb.1.2.2.2.2.2.2.2.2.2.2.2.1.1
 refine ⟨fun h=>R_eq (by grind [Q9,m_in]),fun h=>?_⟩
 have h0:QN s.2.2.1=true∧m_in s.1 0 s.2.1.length=true∧JM s.2.2.1 s.2.2.2.2.2.2.2.2.2.2.2.1=true:=by grind [m_in]
 have hm:=YV h0.1
 have hk:1≤Jm s∧Jm s≤9:=by unfold Jm;split <;> omega
 have key:QeM (fun r'=>r'=Qae (Q9 s)) s (Jm s) ((0:Nat):Int):=by
  refine Zi s.2.2.2.2.2.1 (fun r k=>r.all (QaF s)=s.2.2.2.2.2.1.all (QaF s)→QeM (fun r'=>r'=Qae (Q9 s)) s (Jm s) k) ?_ ?_ rfl
  ·intro he
   refine Qo7 (fun r'=>r'=Qae (Q9 s)) s _ _ ⟨fun h=>by simp at h,fun _=>R_eq ?_⟩
   grind [Q9]
  ·intro k x r hk2 hlt hg ih he
   refine Qo7 (fun r'=>r'=Qae (Q9 s)) s _ _ ⟨fun _=>?_,fun h=>by simp at h;omega⟩
   rw [Int.toNat_natCast,hg,Qp (x:=(k:Int)+1) (by omega) (by omega)]
   refine ⟨⟨by omega,hlt⟩,fun h=>?_,fun h=>R_eq ?_,fun h=>ih ?_⟩
   ·have:(x.2.length:Int)=Jm s:=by simpa using h
    exact ⟨hm.1,by omega,by omega⟩
   ·grind [Q9,QaF]
   ·grind [QaF]
 refine ⟨fun h1=>?_,fun h1=>?_⟩
 ·have e:Jm s=1:=by simp [Jm,h1]
  rw [e] at key
  exact (Qup (fun r'=>r'=Qae (Q9 s)) s _ key).h
 ·have e:Jm s=s.2.2.1.length+1:=by simp [Jm,h1]
  rw [Qp (x:=(s.2.2.1.length:Int)+1) (by omega) (by omega)]
  rw [e] at key
  exact (Qup (fun r'=>r'=Qae (Q9 s)) s _ key).h
theorem QhD:Qi Tryz.prog Qd2:=Qm fun x _=>QEF x.1
end
end Go.Proofs.YtjbdljkhbglnhaaGreat.Am

