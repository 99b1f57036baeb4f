/- -/
import Derived.Test.YtjbdljkhbglnhaaGreatZBP1
import Derived.Test.YtjbdljkhbglnhaaGreatZBP4
namespace Go.Proofs.YtjbdljkhbglnhaaGreat.Am
open Go Go.RowKit Go.Proofs.YtjbdljkhbglnhaaGreat
set_option linter.all false
noncomputable section
variable (K:TRes→Prop)
def QjF (t:(List TOp')):TRes:=zra (.a [(zcs ctOp t)])
def QdM:TRow:=Qi 112 [(.a Qv)] fun x=>(none,QjF (ZP x.1))
def QIt:List TRow:=[]
def QLB:TCode :=
 (zsq [(.reg [zop 1 (.box 63 0 14),zop 2 (.new 26 [(.n ctOp)])]),(.reg [zfa 3 1 2,zld 4 3 1,zop 5 (.build [(.n ctOp)] [(0,1,4)]),zst 2 5 1]),.ret])
def QDL:List (ARv × Md):=[(.l 2 1 true,.b [.d])]
theorem QPa (s:Qc) (h :
 K (QjF s.2.2.1)):Hold (tawp QIt (0+0) QLB (TQ 0 0 QDL K) (Qf [(.a (Tup.cells Qv s))])) :=
 Hold.of (by kernel_rfl) h
theorem QNl (s:Qc):TCon Tryz.prog 112 [(.a (Tup.cells Qv s))] (QjF (ZP s)):=by
 refine Qr rfl fun hb=>tcg (n:=6) (sg:=QdM.sg) Qk TOk.nil (by kernel_rfl) (by kernel_rfl) (QPa _ s ?_)
 have hl_s_1:(s.2.1).length≤9223372036854775807:=hb.1.2.1.1
 have hl_s_2:(s.2.2.1).length≤9223372036854775807:=hb.1.2.2.1.1
 have hl_s_5:(s.2.2.2.2.2.1).length≤9223372036854775807:=hb.1.2.2.2.2.2.1.1
 have hl_s_6:(s.2.2.2.2.2.2.1).length≤9223372036854775807:=hb.1.2.2.2.2.2.2.1.1
 have hl_s_7:(s.2.2.2.2.2.2.2.1).length≤9223372036854775807:=hb.1.2.2.2.2.2.2.2.1.1
 have hl_s_8:(s.2.2.2.2.2.2.2.2.1).length≤9223372036854775807:=hb.1.2.2.2.2.2.2.2.2.1.1
 have hl_s_9:(s.2.2.2.2.2.2.2.2.2.1).length≤9223372036854775807:=hb.1.2.2.2.2.2.2.2.2.2.1.1
 have hl_s_10:(s.2.2.2.2.2.2.2.2.2.2.1).length≤9223372036854775807:=hb.1.2.2.2.2.2.2.2.2.2.2.1.1
 have hl_s_11:(s.2.2.2.2.2.2.2.2.2.2.2.1).length≤9223372036854775807:=hb.1.2.2.2.2.2.2.2.2.2.2.2.1.1
 exact R_eq rfl
theorem Qgm:Qj Tryz.prog QdM:=Qm fun x _=>QNl x.1
def QbT (t:Bool):TRes:=zre (zcb t)
def QjI:TRow:=Qi 185 [(.a [(.sl ctOp)]),(.c (.sl [(.sl [TI])]))] fun x=>(none,QbT (JF x.1 x.2.1))
def Qju:List TRow:=[]
def QqB:TCode :=
 (zsq [(.reg [zbi 17 .lss 16 15]),(.cond 17 .skip (.exit 0)),(.block 1 (zsq [(.reg [zmv 18 16,zia 19 14 16 ctOp,zLd 20 19 4,zop 6 (.new 69 (z0s ctOp)),zmv 5 18,zst 6 20 4]),(.draw [zmv 21 1,zmv 22 5,zia 23 21 22 [(.sl [TI])],zfa 24 23 0,zld 25 24 1,zle 26 25,zfa 27 6 3,zld 28 27 1,zle 29 28,zbi 30 .neq 26 29] []),(.cond 30 (zsq [(.reg [zmv 4 (zkb false)]),.ret]) .skip)])),(.reg [zbi 31 .add 16 (zki 1),zmv 16 31])])
def Qoh:List (Nat × Md):=zdl [1,14,15,16]
def QuL:TCode :=
 (zsq [(.reg [zmv 4 (zkb true)]),.ret])
def QMi:TCode :=
 (zsq [(.reg [zop 2 (.box 26 0 1),zmv 4 (zkb false)]),(zsq [(.reg [zmv 7 1,zle 8 7,zfa 9 2 0,zld 10 9 1,zle 11 10,zbi 12 .neq 8 11]),(.cond 12 (zsq [(.reg [zmv 4 (zkb false)]),.ret]) .skip)]),(zsq [(.reg [zfa 13 2 0,zld 14 13 1,zle 15 14,zmv 16 (zki 0)]),(.block 0 (.loop Qoh QqB))]),QuL])
def QvN:List (ARv × Md):=[(.t 4,.one .d)]
def QxK:Qb:=TQ 0 0 QvN K
def QOu:Qb:=Qseq (tawp Qju 0 QuL (QxK K)) (QxK K)
def QAz:Qb:=Qblk 0 (QOu K)
def QiE (m:List TOp') (rows:List (List Int)) (x:Int):Prop:=Loop Qju 0 Qoh QqB (QAz K) ⟨[(1,(zcs [(.sl [TI])] rows)),(14,(zcs ctOp m)),(15,(zci (m.length:Int))),(16,(zci x))],[],0⟩
theorem QvR (m:List TOp') (rows:List (List Int)) (x:Int) (h :
 (zif (decide (x<(m.length:Int))) (((0:Int)≤x∧Int.toNat x<m.length)∧(((0:Int)≤x∧Int.toNat x<rows.length)∧(zif (((gtd ([]:List Int) rows (Int.toNat x)).length:Int) != (((gtd dOp m (Int.toNat x)).2.2.2).length:Int)) (K (QbT false)) (QiE K m rows (w64 (x+(1:Int))))))) (K (QbT true)))):QiE K m rows x :=
 Loop.of (by kernel_rfl) h
theorem QOl (m:List TOp') (rows:List (List Int)) (h :
 (zif ((rows.length:Int) != (m.length:Int)) (K (QbT false)) (QiE K m rows 0))):Hold (tawp Qju (0+0) QMi (TQ 0 0 QvN K) (Qf [(.a [(.c (.sl ctOp) m)]),(.c (.sl [(.sl [TI])]) rows)])) :=
 Hold.of (by kernel_rfl) h
theorem QIW (m:List TOp') (rows:List (List Int)):TCon Tryz.prog 185 [(.a [(.c (.sl ctOp) m)]),(.c (.sl [(.sl [TI])]) rows)] (QbT (JF m rows)):=by
 refine Qr rfl fun hb=>tcg (n:=32) (sg:=QjI.sg) Qk TOk.nil (by kernel_rfl) (by kernel_rfl) (QOl _ m rows ?_)
 have hl_m_0:(m).length≤9223372036854775807:=hb.1.1.1
 have hl_rows:rows.length≤9223372036854775807:=hb.2.1.1
 refine ⟨fun h=>R_eq (by grind [JF]),fun h=>?_⟩
 have hl:rows.length=m.length:=by
  have:((rows.length:Int)==(m.length:Int))=true:=by simpa [bne] using h
  have:=of_decide_eq_true (by simpa using this:decide ((rows.length:Int)=m.length)=true)
  omega
 refine Zt m (fun r k=>Z9 r (rows.drop k)=Z9 m rows→QiE (fun r'=>r'=QbT (JF m rows)) m rows k) ?_ ?_ rfl
 ·intro he
  refine QvR (fun r'=>r'=QbT (JF m rows)) m rows _ ⟨fun h=>by simp at h,fun _=>R_eq ?_⟩
  grind [JF,Z9]
 ·intro k x r hk hlt hg ih he
  obtain ⟨y,q,hq⟩:∃ y q,rows.drop k=y::q:=by
   cases hq:rows.drop k with
   | nil=>have:=congrArg List.length hq;simp at this;omega
   | cons y q=>exact ⟨y,q,rfl⟩
  refine QvR (fun r'=>r'=QbT (JF m rows)) m rows _ ⟨fun _=>?_,fun h=>by simp at h;omega⟩
  rw [Int.toNat_natCast,hg,Y1 hq,Qp (x:=(k:Int)+1) (by omega) (by omega)]
  rw [hq,Z9] at he
  rw [YS hq] at ih
  refine ⟨⟨by omega,hlt⟩,⟨by omega,by omega⟩,fun h=>R_eq ?_,fun h=>ih ?_⟩
  ·grind [JF]
  ·grind
theorem QKf:Qj Tryz.prog QjI:=Qm fun x _=>QIW x.1 x.2.1
def Qbc (t:Bool):TRes:=zre (zcb t)
def QgC:TRow:=Qi 123 [(.c (.sl ctOp)),(.c (.sl [(.sl [TI])])),(.c TI)] fun x=>(some (QgU x.1 x.2.1 x.2.2.1),Qbc (YG x.1 x.2.1 x.2.2.1))
def QdX:List TRow:=[JA]
def QuG:TCode :=
 (zsq [(.reg [zmv 30 1,zmv 31 7,zia 32 30 31 [(.sl [TI])],zfa 33 32 0,zld 34 33 1,zmv 35 8,zca 36 114 [34,35],zno 37 36]),(.cond 37 (zsq [(.reg [zmv 6 (zkb false)]),.ret]) .skip)])
def QFY:List (Nat × Md):=zdl [0,1,2,7,8]
def QzA:TCode:=.wk QFY QuG
def QyA:TCode :=
 (.reg [zmv 12 7,zbi 13 .add 12 (zki 1),zmv 7 13])
def Qmg:TCode :=
 (zsq [(zsq [(.reg [zmv 9 7,zmv 10 2,zbi 11 .lss 9 10]),(.cond 11 .skip (.exit 0))]),(.block 1 (zsq [(.reg [zmv 14 0,zmv 15 0,zle 16 15,zbi 17 .sub 16 (zki 1),zia 18 14 17 ctOp,zfa 19 18 2,zld 20 19 1,zmv 8 20]),(zsq [(.reg [zmv 21 7,zmv 22 0,zle 23 22,zbi 24 .lss 21 23]),(.cond 24 (.reg [zmv 25 0,zmv 26 7,zia 27 25 26 ctOp,zfa 28 27 1,zld 29 28 1,zmv 8 29]) .skip)]),QzA])),QyA])
def QiK:List (Nat × Md):=zdl [0,1,2,7]
def Qx2:TCode :=
 (zsq [(.reg [zmv 6 (zkb true)]),.ret])
def QHC:TCode :=
 (zsq [(.reg [zmv 6 (zkb false)]),(zsq [(.reg [zmv 7 (zki 0)]),(.block 0 (.loop QiK Qmg))]),Qx2])
def Qph:List (ARv × Md):=[(.t 6,.one .d)]
def Qvo:Qb:=TQ 0 0 Qph K
def QAa:Qb:=Qseq (tawp QdX 0 Qx2 (Qvo K)) (Qvo K)
def Qnm:Qb:=Qblk 0 (QAa K)
def Qzi:Qb:=Qseq (fun s'=>Loop QdX 0 QiK Qmg (Qnm K) (gc 0 QiK s')) (Qnm K)
def QMw:Qb:=Qseq (tawp QdX 0 QyA (Qzi K)) (Qzi K)
def QOv:Qb:=Qblk 1 (QMw K)
def Qgd (ops:List TOp') (rows:List (List Int)) (n:Int) (size:Int) (i:Int):Prop:=tawp QdX 0 QuG (QOv K) ⟨[(0,(zcs ctOp ops)),(1,(zcs [(.sl [TI])] rows)),(2,(zci n)),(7,(zci i)),(8,(zci size))],[],0⟩
def QhM (ops:List TOp') (rows:List (List Int)) (n:Int) (i:Int):Prop:=Loop QdX 0 QiK Qmg (Qnm K) ⟨[(0,(zcs ctOp ops)),(1,(zcs [(.sl [TI])] rows)),(2,(zci n)),(7,(zci i))],[],0⟩
theorem QQa (ops:List TOp') (rows:List (List Int)) (n:Int) (size:Int) (i:Int) (h :
 (((0:Int)≤i∧Int.toNat i<rows.length)∧(zif (!(Qs (gtd ([]:List Int) rows (Int.toNat i)) size)) (K (Qbc false)) (QhM K ops rows n (w64 (i+(1:Int))))))):Hold (Qgd K ops rows n size i) :=
 Hold.of (by kernel_rfl) h
theorem Qvv (ops:List TOp') (rows:List (List Int)) (n:Int) (i:Int) (h :
 (zif (decide (i<n)) (((0:Int)≤w64 ((ops.length:Int)-(1:Int))∧Int.toNat (w64 ((ops.length:Int)-(1:Int)))<ops.length)∧(zif (decide (i<(ops.length:Int))) (((0:Int)≤i∧Int.toNat i<ops.length)∧(Qgd K ops rows n ((gtd dOp ops (Int.toNat i)).2.1) i)) (Qgd K ops rows n ((gtd dOp ops (Int.toNat (w64 ((ops.length:Int)-(1:Int))))).2.2.1) i))) (K (Qbc true)))):QhM K ops rows n i :=
 Loop.of (by kernel_rfl) h
theorem QJc (ops:List TOp') (rows:List (List Int)) (n:Int) (h :
 (QhM K ops rows n 0)):Hold (tawp QdX (0+0) QHC (TQ 0 0 Qph K) (Qf [(.c (.sl ctOp) ops),(.c (.sl [(.sl [TI])]) rows),(.c TI n)])) :=
 Hold.of (by kernel_rfl) h
theorem Qz0 (ops:List TOp') (rows:List (List Int)) (n:Int) (hp:QgU ops rows n):TCon Tryz.prog 123 [(.c (.sl ctOp) ops),(.c (.sl [(.sl [TI])]) rows),(.c TI n)] (Qbc (YG ops rows n)):=by
 refine Qr rfl fun hb=>tcg (n:=38) (sg:=QgC.sg) Qk (TOk.cons Qac TOk.nil) (by kernel_rfl) (by kernel_rfl) (QJc _ ops rows n ?_)
 have hl_ops:ops.length≤9223372036854775807:=hb.1.1
 have hl_rows:rows.length≤9223372036854775807:=hb.2.1.1
 have:=Qmz rows 0 n (Int.le_refl 0) hp.2.1 hp.2.2 (fun r k=>Jf ops k r=(YG ops rows n)→QhM (fun r'=>r'=Qbc (YG ops rows n)) ops rows n k) ?_ ?_ (by simp [YG,slice])
 ·exact this
 ·intro he
  refine Qvv (fun r'=>r'=Qbc (YG ops rows n)) ops rows n _ ⟨fun h=>by simp at h;omega,fun _=>R_eq ?_⟩
  simpa [Jf] using he
 ·intro k x r h1 h2 hlt hg ih he
  have e:=Qcd hp.1 hl_ops
  have key:Qgd (fun r'=>r'=Qbc (YG ops rows n)) ops rows n (QaU ops k) k:=by
   refine (QQa (fun r'=>r'=Qbc (YG ops rows n)) ops rows n _ _ ?_).h
   rw [Int.toNat_natCast,hg,Qp (x:=(k:Int)+1) (by omega) (by omega)]
   rw [Jf] at he
   refine ⟨⟨by omega,hlt⟩,fun h=>R_eq ?_,fun h=>ih ?_⟩ <;> grind
  refine Qvv (fun r'=>r'=Qbc (YG ops rows n)) ops rows n _ ⟨fun _=>?_,fun h=>by simp at h;omega⟩
  rw [e.1,Int.toNat_natCast]
  refine ⟨⟨e.2,by have:=hp.1;omega⟩,fun h=>⟨⟨by omega,by simpa using h⟩,?_⟩,fun h=>?_⟩
  ·rw [QaU,if_pos (by simpa using h)] at key;exact key
  ·rw [QaU,if_neg (by simpa using h)] at key;exact key
theorem Qpn:Qj Tryz.prog QgC:=Qm fun x h=>Qz0 x.1 x.2.1 x.2.2.1 h
def J9 (t:Bool):TRes:=zre (zcb t)
def Qd5:TRow:=Qi 113 [(.a Qv)] fun x=>(none,J9 (Q7 x.1))
def QgT:List TRow:=[QdM,JV,QjI,QgC,QdK,QdI,Qi3]
def QyR:TCode :=
 (zsq [(.reg [zbi 45 .lss 44 43]),(.cond 45 .skip (.exit 0)),(.block 1 (zsq [(.reg [zia 46 42 44 Zk,zLd 47 46 2,zop 6 (.new 76 (z0s Zk)),zst 6 47 2]),(.reg [zfa 48 6 1,zld 49 48 1,zle 50 49,zmv 51 4,zbi 52 .neq 50 51,zmv 53 52,.grp 53 false [zfa 54 1 2,zld 55 54 1,zfa 56 6 1,zld 57 56 1,zmv 58 4,zca 59 123 [55,57,58],zno 60 59] 61 60]),(.cond 61 (zsq [(.reg [zmv 2 (zkb false)]),.ret]) .skip)])),(.reg [zbi 62 .add 44 (zki 1),zmv 44 62])])
def QrD:List (Nat × Md):=[(1,.b (zds 14)),(3,.b [.d]),(4,.one .d),(42,.one .d),(43,.one .d),(44,.one .d)]
def QtH:TCode :=
 (zsq [(.draw [zLd 63 3 1,zca 64 115 [63],zLd 65 3 1,zca 66 117 [65],zmv 7 64,zmv 8 66] [(1,2)]),(.reg [zfa 67 1 7,zld 68 67 1,zmv 69 7,zca 70 186 [68,69],zmv 71 70,.grp 71 true [zfa 72 1 10,zld 73 72 1,zmv 74 7,zca 75 186 [73,74]] 76 75,zmv 77 76,.grp 77 true [zfa 78 1 8,zld 79 78 1,zmv 80 8,zca 81 186 [79,80]] 82 81,zmv 83 82,.grp 83 true [zfa 84 1 9,zld 85 84 1,zmv 86 8,zca 87 186 [85,86]] 88 87,zmv 2 88]),.ret])
def Qn7:TCode :=
 (zsq [(zsq [(.reg [zfa 41 1 5,zld 42 41 1,zle 43 42,zmv 44 (zki 0)]),(.block 0 (.loop QrD QyR))]),QtH])
def QHD:List (Nat × Md):=[(1,.b (zds 14)),(3,.b [.d]),(4,.one .d)]
def QE6:TCode:=.wk QHD Qn7
def QEP:TCode :=
 (zsq [(.reg [zop 1 (.box 63 0 14),zmv 2 (zkb false)]),(.reg [zLd 9 1 14,zca 10 112 [9],zop 3 (.new 26 [(.n ctOp)]),zst 3 10 1]),(zsq [(.reg [zLd 11 3 1,zca 12 131 [11],zno 13 12,zmv 14 13,.grp 14 false [zfa 15 1 0,zld 16 15 1,zbi 17 .lss 16 (zki 0)] 18 17,zmv 19 18,.grp 19 false [zfa 20 1 0,zld 21 20 1,zfa 22 1 1,zld 23 22 1,zle 24 23,zbi 25 .gtr 21 24] 26 25,zmv 27 26,.grp 27 false [zLd 28 3 1,zfa 29 1 11,zfa 30 29 0,zld 31 30 1,zca 32 185 [28,31],zno 33 32] 34 33]),(.cond 34 (zsq [(.reg [zmv 2 (zkb false)]),.ret]) .skip)]),(.reg [zfa 35 1 2,zld 36 35 1,zle 37 36,zbi 38 .add 37 (zki 1),zmv 4 38]),(zsq [(.reg [zfa 39 1 4,zld 40 39 1]),(.cond 40 (.reg [zmv 4 (zki 1)]) .skip)]),QE6])
def Qsl:List (ARv × Md):=[(.t 2,.one .d)]
def Qlj:Qb:=TQ 0 0 Qsl K
def QEy:Qb:=Qseq (tawp QgT 0 QtH (Qlj K)) (Qlj K)
def QGd:Qb:=Qblk 0 (QEy K)
def Qeo (s:Qc) (kept:Int) (x:Int):Prop:=Loop QgT 0 QrD QyR (QGd K) ⟨[(1,(.p 0 0 0)),(3,(.p 1 0 0)),(4,(zci kept)),(42,(zcs Zk s.2.2.2.2.2.1)),(43,(zci ((s.2.2.2.2.2.1).length:Int))),(44,(zci x))],[(0,(.box (Tup.cells Qv s))),(1,(.box [(zcs ctOp (ZP s))]))],2⟩
def Qns (s:Qc) (kept:Int):Prop:=tawp QgT 0 Qn7 (Qlj K) ⟨[(1,(.p 0 0 0)),(3,(.p 1 0 0)),(4,(zci kept))],[(0,(.box (Tup.cells Qv s))),(1,(.box [(zcs ctOp (ZP s))]))],2⟩
theorem Qw3 (s:Qc) (kept:Int) (x:Int) (h :
 (zif (decide (x<((s.2.2.2.2.2.1).length:Int))) (((0:Int)≤x∧Int.toNat x<(s.2.2.2.2.2.1).length)∧(((!((((gtd Yc s.2.2.2.2.2.1 (Int.toNat x)).2).length:Int) != kept))=true→(QgU s.2.2.1 ((gtd Yc s.2.2.2.2.2.1 (Int.toNat x)).2) kept))∧(zif (((((gtd Yc s.2.2.2.2.2.1 (Int.toNat x)).2).length:Int) != kept)||(!(YG s.2.2.1 ((gtd Yc s.2.2.2.2.2.1 (Int.toNat x)).2) kept))) (K (J9 false)) (Qeo K s kept (w64 (x+(1:Int))))))) (K (J9 ((((YR s.2.2.2.2.2.2.2.1 (QZ (ZP s)))&&(YR s.2.2.2.2.2.2.2.2.2.2.1 (QZ (ZP s))))&&(YR s.2.2.2.2.2.2.2.2.1 (Q1 (ZP s))))&&(YR s.2.2.2.2.2.2.2.2.2.1 (Q1 (ZP s)))))))):Qeo K s kept x :=
 Loop.of (by kernel_rfl) h
theorem QyL (s:Qc) (kept:Int) (h :
 (Qeo K s kept 0)):Hold (Qns K s kept) :=
 Hold.of (by kernel_rfl) h
theorem QCx (s:Qc) (h :
 (zif ((((!(QN (ZP s)))||(decide (s.1<(0:Int))))||(decide (s.1>((s.2.1).length:Int))))||(!(JF (ZP s) s.2.2.2.2.2.2.2.2.2.2.2.1))) (K (J9 false)) (zif s.2.2.2.2.1 (Qns K s 1) (Qns K s (w64 (((s.2.2.1).length:Int)+(1:Int))))))):Hold (tawp QgT (0+0) QEP (TQ 0 0 Qsl K) (Qf [(.a (Tup.cells Qv s))])) :=
 Hold.of (by kernel_rfl) h
theorem QFz (s:Qc):TCon Tryz.prog 113 [(.a (Tup.cells Qv s))] (J9 (Q7 s)):=by
 refine Qr rfl fun hb=>tcg (n:=89) (sg:=Qd5.sg) Qk (TOk.cons Qgm (TOk.cons QaP (TOk.cons QKf (TOk.cons Qpn (TOk.cons Qg6 (TOk.cons QiW (TOk.cons QCa TOk.nil))))))) (by kernel_rfl) (by kernel_rfl) (QCx _ s ?_)
 have hl_s_1:(s.2.1).length≤9223372036854775807:=hb.1.2.1.1
 have hl_s_2:(s.2.2.1).length≤9223372036854775807:=hb.1.2.2.1.1
 have hl_s_5:(s.2.2.2.2.2.1).length≤9223372036854775807:=hb.1.2.2.2.2.2.1.1
 have hl_s_6:(s.2.2.2.2.2.2.1).length≤9223372036854775807:=hb.1.2.2.2.2.2.2.1.1
 have hl_s_7:(s.2.2.2.2.2.2.2.1).length≤9223372036854775807:=hb.1.2.2.2.2.2.2.2.1.1
 have hl_s_8:(s.2.2.2.2.2.2.2.2.1).length≤9223372036854775807:=hb.1.2.2.2.2.2.2.2.2.1.1
 have hl_s_9:(s.2.2.2.2.2.2.2.2.2.1).length≤9223372036854775807:=hb.1.2.2.2.2.2.2.2.2.2.1.1
 have hl_s_10:(s.2.2.2.2.2.2.2.2.2.2.1).length≤9223372036854775807:=hb.1.2.2.2.2.2.2.2.2.2.2.1.1
 have hl_s_11:(s.2.2.2.2.2.2.2.2.2.2.2.1).length≤9223372036854775807:=hb.1.2.2.2.2.2.2.2.2.2.2.2.1.1
 refine ⟨fun h=>R_eq (by grind [Q7,m_in]),fun h=>?_⟩
 have h0:QN s.2.2.1=true∧m_in s.1 0 s.2.1.length=true∧JF s.2.2.1 s.2.2.2.2.2.2.2.2.2.2.2.1=true:=by grind [m_in]
 have hm:=YY h0.1
 have hk:1≤Jl s∧Jl s≤9:=by unfold Jl;split <;> omega
 have key:Qeo (fun r'=>r'=J9 (Q7 s)) s (Jl s) ((0:Nat):Int):=by
  refine Zt s.2.2.2.2.2.1 (fun r k=>r.all (QaA s)=s.2.2.2.2.2.1.all (QaA s)→Qeo (fun r'=>r'=J9 (Q7 s)) s (Jl s) k) ?_ ?_ rfl
  ·intro he
   refine Qw3 (fun r'=>r'=J9 (Q7 s)) s _ _ ⟨fun h=>by simp at h,fun _=>R_eq ?_⟩
   grind [Q7]
  ·intro k x r hk2 hlt hg ih he
   refine Qw3 (fun r'=>r'=J9 (Q7 s)) s _ _ ⟨fun _=>?_,fun h=>by simp at h;omega⟩
   rw [Int.toNat_natCast,hg,Qp (x:=(k:Int)+1) (by omega) (by omega)]
   refine ⟨⟨by omega,hlt⟩,fun h=>?_,fun h=>R_eq ?_,fun h=>ih ?_⟩
   ·have:(x.2.length:Int)=Jl s:=by simpa using h
    exact ⟨hm.1,by omega,by omega⟩
   ·grind [Q7,QaA]
   ·grind [QaA]
 refine ⟨fun h1=>?_,fun h1=>?_⟩
 ·have e:Jl s=1:=by simp [Jl,h1]
  rw [e] at key
  exact (QyL (fun r'=>r'=J9 (Q7 s)) s _ key).h
 ·have e:Jl s=s.2.2.1.length+1:=by simp [Jl,h1]
  rw [Qp (x:=(s.2.2.1.length:Int)+1) (by omega) (by omega)]
  rw [e] at key
  exact (QyL (fun r'=>r'=J9 (Q7 s)) s _ key).h
theorem QgE:Qj Tryz.prog Qd5:=Qm fun x _=>QFz x.1
end
end Go.Proofs.YtjbdljkhbglnhaaGreat.Am

