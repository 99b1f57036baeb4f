/- -/
import Derived.Test.YtjbdljkhbglnhaaGreatZEP1
import Derived.Test.YtjbdljkhbglnhaaGreatZEP4
namespace Go.Proofs.YtjbdljkhbglnhaaGreat.Am
open Go Go.RowKit Go.Proofs.YtjbdljkhbglnhaaGreat
set_option linter.all false
noncomputable section
variable (K:TRes→Prop)
def QoR (t:(List TOp')):TRes:=zra (.a [(zcs ctOp t)])
def Qd9:TRow:=Qk 112 [(.a Qh)] fun x=>(none,QoR (ZQ x.1))
def QWG:List TRow:=[]
def QJJ:TCode :=
 (zsq [(.reg [zop 1 (.box 63 0 14),zop 2 (.new 26 [(.n ctOp)])]),(.reg [zfa 3 1 2,zld 4 3 1,zop 5 (.build [(.n ctOp)] [(0,1,4)]),zst 2 5 1]),.ret])
def QMo:List (ARv × Md):=[(.l 2 1 true,.b [.d])]
theorem QLc (s:Qc) (h :
 K (QoR s.2.2.1)):Hold (tawp QWG (0+0) QJJ (TQ 0 0 QMo K) (Qg [(.a (Tup.cells Qh s))])) :=
 Hold.of (by kernel_rfl) h
theorem QJZ (s:Qc):TCon Tryz.prog 112 [(.a (Tup.cells Qh s))] (QoR (ZQ s)):=by
 refine Qo rfl fun hb=>tcg (n:=6) (sg:=Qd9.sg) Qm TOk.nil (by kernel_rfl) (by kernel_rfl) (QLc _ s ?_)
 have hl_s_1:(s.2.1).length≤9223372036854775807:=hb.1.2.1.1
 have hl_s_2:(s.2.2.1).length≤9223372036854775807:=hb.1.2.2.1.1
 have hl_s_5:(s.2.2.2.2.2.1).length≤9223372036854775807:=hb.1.2.2.2.2.2.1.1
 have hl_s_6:(s.2.2.2.2.2.2.1).length≤9223372036854775807:=hb.1.2.2.2.2.2.2.1.1
 have hl_s_7:(s.2.2.2.2.2.2.2.1).length≤9223372036854775807:=hb.1.2.2.2.2.2.2.2.1.1
 have hl_s_8:(s.2.2.2.2.2.2.2.2.1).length≤9223372036854775807:=hb.1.2.2.2.2.2.2.2.2.1.1
 have hl_s_9:(s.2.2.2.2.2.2.2.2.2.1).length≤9223372036854775807:=hb.1.2.2.2.2.2.2.2.2.2.1.1
 have hl_s_10:(s.2.2.2.2.2.2.2.2.2.2.1).length≤9223372036854775807:=hb.1.2.2.2.2.2.2.2.2.2.2.1.1
 have hl_s_11:(s.2.2.2.2.2.2.2.2.2.2.2.1).length≤9223372036854775807:=hb.1.2.2.2.2.2.2.2.2.2.2.2.1.1
 exact R_eq rfl
theorem Qis:Qj Tryz.prog Qd9:=Qn fun x _=>QJZ x.1
def QbH (t:Bool):TRes:=zre (zcb t)
def QnR:TRow:=Qk 185 [(.a [(.sl ctOp)]),(.c (.sl [(.sl [TI])]))] fun x=>(none,QbH (Jh x.1 x.2.1))
def QpF:List TRow:=[]
def QtR:TCode :=
 (zsq [(.reg [zbi 17 .lss 16 15]),(.cond 17 .skip (.exit 0)),(.block 1 (zsq [(.reg [zmv 18 16,zia 19 14 16 ctOp,zLd 20 19 4,zop 6 (.new 69 (z0s ctOp)),zmv 5 18,zst 6 20 4]),(.draw [zmv 21 1,zmv 22 5,zia 23 21 22 [(.sl [TI])],zfa 24 23 0,zld 25 24 1,zle 26 25,zfa 27 6 3,zld 28 27 1,zle 29 28,zbi 30 .neq 26 29] []),(.cond 30 (zsq [(.reg [zmv 4 (zkb false)]),.ret]) .skip)])),(.reg [zbi 31 .add 16 (zki 1),zmv 16 31])])
def QyQ:List (Nat × Md):=zdl [1,14,15,16]
def QBX:TCode :=
 (zsq [(.reg [zmv 4 (zkb true)]),.ret])
def QIU:TCode :=
 (zsq [(.reg [zop 2 (.box 26 0 1),zmv 4 (zkb false)]),(zsq [(.reg [zmv 7 1,zle 8 7,zfa 9 2 0,zld 10 9 1,zle 11 10,zbi 12 .neq 8 11]),(.cond 12 (zsq [(.reg [zmv 4 (zkb false)]),.ret]) .skip)]),(zsq [(.reg [zfa 13 2 0,zld 14 13 1,zle 15 14,zmv 16 (zki 0)]),(.block 0 (.loop QyQ QtR))]),QBX])
def Qw2:List (ARv × Md):=[(.t 4,.one .d)]
def QAq:Qb:=TQ 0 0 Qw2 K
def QKt:Qb:=Qseq (tawp QpF 0 QBX (QAq K)) (QAq K)
def QGG:Qb:=Qblk 0 (QKt K)
def QjR (m:List TOp') (rows:List (List Int)) (x:Int):Prop:=Loop QpF 0 QyQ QtR (QGG K) ⟨[(1,(zcs [(.sl [TI])] rows)),(14,(zcs ctOp m)),(15,(zci (m.length:Int))),(16,(zci x))],[],0⟩
theorem QzO (m:List TOp') (rows:List (List Int)) (x:Int) (h :
 (zif (decide (x<(m.length:Int))) (((0:Int)≤x∧Int.toNat x<m.length)∧(((0:Int)≤x∧Int.toNat x<rows.length)∧(zif (((gtd ([]:List Int) rows (Int.toNat x)).length:Int) != (((gtd dOp m (Int.toNat x)).2.2.2).length:Int)) (K (QbH false)) (QjR K m rows (w64 (x+(1:Int))))))) (K (QbH true)))):QjR K m rows x :=
 Loop.of (by kernel_rfl) h
theorem QGX (m:List TOp') (rows:List (List Int)) (h :
 (zif ((rows.length:Int) != (m.length:Int)) (K (QbH false)) (QjR K m rows 0))):Hold (tawp QpF (0+0) QIU (TQ 0 0 Qw2 K) (Qg [(.a [(.c (.sl ctOp) m)]),(.c (.sl [(.sl [TI])]) rows)])) :=
 Hold.of (by kernel_rfl) h
theorem QPD (m:List TOp') (rows:List (List Int)):TCon Tryz.prog 185 [(.a [(.c (.sl ctOp) m)]),(.c (.sl [(.sl [TI])]) rows)] (QbH (Jh m rows)):=by
 refine Qo rfl fun hb=>tcg (n:=32) (sg:=QnR.sg) Qm TOk.nil (by kernel_rfl) (by kernel_rfl) (QGX _ m rows ?_)
 have hl_m_0:(m).length≤9223372036854775807:=hb.1.1.1
 have hl_rows:rows.length≤9223372036854775807:=hb.2.1.1
 refine ⟨fun h=>R_eq (by grind [Jh]),fun h=>?_⟩
 have hl:rows.length=m.length:=by
  have:((rows.length:Int)==(m.length:Int))=true:=by simpa [bne] using h
  have:=of_decide_eq_true (by simpa using this:decide ((rows.length:Int)=m.length)=true)
  omega
 refine Zp m (fun r k=>Z1 r (rows.drop k)=Z1 m rows→QjR (fun r'=>r'=QbH (Jh m rows)) m rows k) ?_ ?_ rfl
 ·intro he
  refine QzO (fun r'=>r'=QbH (Jh m rows)) m rows _ ⟨fun h=>by simp at h,fun _=>R_eq ?_⟩
  grind [Jh,Z1]
 ·intro k x r hk hlt hg ih he
  obtain ⟨y,q,hq⟩:∃ y q,rows.drop k=y::q:=by
   cases hq:rows.drop k with
   | nil=>have:=congrArg List.length hq;simp at this;omega
   | cons y q=>exact ⟨y,q,rfl⟩
  refine QzO (fun r'=>r'=QbH (Jh m rows)) m rows _ ⟨fun _=>?_,fun h=>by simp at h;omega⟩
  rw [Int.toNat_natCast,hg,Yb hq,Qr (x:=(k:Int)+1) (by omega) (by omega)]
  rw [hq,Z1] at he
  rw [ZY hq] at ih
  refine ⟨⟨by omega,hlt⟩,⟨by omega,by omega⟩,fun h=>R_eq ?_,fun h=>ih ?_⟩
  ·grind [Jh]
  ·grind
theorem QS9:Qj Tryz.prog QnR:=Qn fun x _=>QPD x.1 x.2.1
def Qbe (t:Bool):TRes:=zre (zcb t)
def QjK:TRow:=Qk 123 [(.c (.sl ctOp)),(.c (.sl [(.sl [TI])])),(.c TI)] fun x=>(some (QiH x.1 x.2.1 x.2.2.1),Qbe (Yl x.1 x.2.1 x.2.2.1))
def Qd1:List TRow:=[Qai]
def QAL:TCode :=
 (zsq [(.reg [zmv 30 1,zmv 31 7,zia 32 30 31 [(.sl [TI])],zfa 33 32 0,zld 34 33 1,zmv 35 8,zca 36 114 [34,35],zno 37 36]),(.cond 37 (zsq [(.reg [zmv 6 (zkb false)]),.ret]) .skip)])
def QYJ:List (Nat × Md):=zdl [0,1,2,7,8]
def QMQ:TCode:=.wk QYJ QAL
def Qs2:TCode :=
 (.reg [zmv 12 7,zbi 13 .add 12 (zki 1),zmv 7 13])
def Qov:TCode :=
 (zsq [(zsq [(.reg [zmv 9 7,zmv 10 2,zbi 11 .lss 9 10]),(.cond 11 .skip (.exit 0))]),(.block 1 (zsq [(.reg [zmv 14 0,zmv 15 0,zle 16 15,zbi 17 .sub 16 (zki 1),zia 18 14 17 ctOp,zfa 19 18 2,zld 20 19 1,zmv 8 20]),(zsq [(.reg [zmv 21 7,zmv 22 0,zle 23 22,zbi 24 .lss 21 23]),(.cond 24 (.reg [zmv 25 0,zmv 26 7,zia 27 25 26 ctOp,zfa 28 27 1,zld 29 28 1,zmv 8 29]) .skip)]),QMQ])),Qs2])
def Qkv:List (Nat × Md):=zdl [0,1,2,7]
def QCt:TCode :=
 (zsq [(.reg [zmv 6 (zkb true)]),.ret])
def QP3:TCode :=
 (zsq [(.reg [zmv 6 (zkb false)]),(zsq [(.reg [zmv 7 (zki 0)]),(.block 0 (.loop Qkv Qov))]),QCt])
def QzC:List (ARv × Md):=[(.t 6,.one .d)]
def QDe:Qb:=TQ 0 0 QzC K
def QFF:Qb:=Qseq (tawp Qd1 0 QCt (QDe K)) (QDe K)
def QnQ:Qb:=Qblk 0 (QFF K)
def QwF:Qb:=Qseq (fun s'=>Loop Qd1 0 Qkv Qov (QnQ K) (gc 0 Qkv s')) (QnQ K)
def QK2:Qb:=Qseq (tawp Qd1 0 Qs2 (QwF K)) (QwF K)
def QYt:Qb:=Qblk 1 (QK2 K)
def QjT (ops:List TOp') (rows:List (List Int)) (n:Int) (size:Int) (i:Int):Prop:=tawp Qd1 0 QAL (QYt K) ⟨[(0,(zcs ctOp ops)),(1,(zcs [(.sl [TI])] rows)),(2,(zci n)),(7,(zci i)),(8,(zci size))],[],0⟩
def Qh9 (ops:List TOp') (rows:List (List Int)) (n:Int) (i:Int):Prop:=Loop Qd1 0 Qkv Qov (QnQ K) ⟨[(0,(zcs ctOp ops)),(1,(zcs [(.sl [TI])] rows)),(2,(zci n)),(7,(zci i))],[],0⟩
theorem QNT (ops:List TOp') (rows:List (List Int)) (n:Int) (size:Int) (i:Int) (h :
 (((0:Int)≤i∧Int.toNat i<rows.length)∧(zif (!(Qq (gtd ([]:List Int) rows (Int.toNat i)) size)) (K (Qbe false)) (Qh9 K ops rows n (w64 (i+(1:Int))))))):Hold (QjT K ops rows n size i) :=
 Hold.of (by kernel_rfl) h
theorem QB3 (ops:List TOp') (rows:List (List Int)) (n:Int) (i:Int) (h :
 (zif (decide (i<n)) (((0:Int)≤w64 ((ops.length:Int)-(1:Int))∧Int.toNat (w64 ((ops.length:Int)-(1:Int)))<ops.length)∧(zif (decide (i<(ops.length:Int))) (((0:Int)≤i∧Int.toNat i<ops.length)∧(QjT K ops rows n ((gtd dOp ops (Int.toNat i)).2.1) i)) (QjT K ops rows n ((gtd dOp ops (Int.toNat (w64 ((ops.length:Int)-(1:Int))))).2.2.1) i))) (K (Qbe true)))):Qh9 K ops rows n i :=
 Loop.of (by kernel_rfl) h
theorem QFG (ops:List TOp') (rows:List (List Int)) (n:Int) (h :
 (Qh9 K ops rows n 0)):Hold (tawp Qd1 (0+0) QP3 (TQ 0 0 QzC K) (Qg [(.c (.sl ctOp) ops),(.c (.sl [(.sl [TI])]) rows),(.c TI n)])) :=
 Hold.of (by kernel_rfl) h
theorem QVC (ops:List TOp') (rows:List (List Int)) (n:Int) (hp:QiH ops rows n):TCon Tryz.prog 123 [(.c (.sl ctOp) ops),(.c (.sl [(.sl [TI])]) rows),(.c TI n)] (Qbe (Yl ops rows n)):=by
 refine Qo rfl fun hb=>tcg (n:=38) (sg:=QjK.sg) Qm (TOk.cons QaD TOk.nil) (by kernel_rfl) (by kernel_rfl) (QFG _ ops rows n ?_)
 have hl_ops:ops.length≤9223372036854775807:=hb.1.1
 have hl_rows:rows.length≤9223372036854775807:=hb.2.1.1
 have:=Quq rows 0 n (Int.le_refl 0) hp.2.1 hp.2.2 (fun r k=>Yr ops k r=(Yl ops rows n)→Qh9 (fun r'=>r'=Qbe (Yl ops rows n)) ops rows n k) ?_ ?_ (by simp [Yl,slice])
 ·exact this
 ·intro he
  refine QB3 (fun r'=>r'=Qbe (Yl ops rows n)) ops rows n _ ⟨fun h=>by simp at h;omega,fun _=>R_eq ?_⟩
  simpa [Yr] using he
 ·intro k x r h1 h2 hlt hg ih he
  have e:=Qbh hp.1 hl_ops
  have key:QjT (fun r'=>r'=Qbe (Yl ops rows n)) ops rows n (Jc ops k) k:=by
   refine (QNT (fun r'=>r'=Qbe (Yl ops rows n)) ops rows n _ _ ?_).h
   rw [Int.toNat_natCast,hg,Qr (x:=(k:Int)+1) (by omega) (by omega)]
   rw [Yr] at he
   refine ⟨⟨by omega,hlt⟩,fun h=>R_eq ?_,fun h=>ih ?_⟩ <;> grind
  refine QB3 (fun r'=>r'=Qbe (Yl ops rows n)) ops rows n _ ⟨fun _=>?_,fun h=>by simp at h;omega⟩
  rw [e.1,Int.toNat_natCast]
  refine ⟨⟨e.2,by have:=hp.1;omega⟩,fun h=>⟨⟨by omega,by simpa using h⟩,?_⟩,fun h=>?_⟩
  ·rw [Jc,if_pos (by simpa using h)] at key;exact key
  ·rw [Jc,if_neg (by simpa using h)] at key;exact key
theorem Qxg:Qj Tryz.prog QjK:=Qn fun x h=>QVC x.1 x.2.1 x.2.2.1 h
def Qau (t:Bool):TRes:=zre (zcb t)
def Qep:TRow:=Qk 113 [(.a Qh)] fun x=>(none,Qau (QR x.1))
def QgK:List TRow:=[Qd9,QdV,QnR,QjK,Qfx,Qfk,Qlp]
def QyZ:TCode :=
 (zsq [(.reg [zbi 45 .lss 44 43]),(.cond 45 .skip (.exit 0)),(.block 1 (zsq [(.reg [zia 46 42 44 QX,zLd 47 46 2,zop 6 (.new 76 (z0s QX)),zst 6 47 2]),(.reg [zfa 48 6 1,zld 49 48 1,zle 50 49,zmv 51 4,zbi 52 .neq 50 51,zmv 53 52,.grp 53 false [zfa 54 1 2,zld 55 54 1,zfa 56 6 1,zld 57 56 1,zmv 58 4,zca 59 123 [55,57,58],zno 60 59] 61 60]),(.cond 61 (zsq [(.reg [zmv 2 (zkb false)]),.ret]) .skip)])),(.reg [zbi 62 .add 44 (zki 1),zmv 44 62])])
def Qs3:List (Nat × Md):=[(1,.b (zds 14)),(3,.b [.d]),(4,.one .d),(42,.one .d),(43,.one .d),(44,.one .d)]
def Qxp:TCode :=
 (zsq [(.draw [zLd 63 3 1,zca 64 115 [63],zLd 65 3 1,zca 66 117 [65],zmv 7 64,zmv 8 66] [(1,2)]),(.reg [zfa 67 1 7,zld 68 67 1,zmv 69 7,zca 70 186 [68,69],zmv 71 70,.grp 71 true [zfa 72 1 10,zld 73 72 1,zmv 74 7,zca 75 186 [73,74]] 76 75,zmv 77 76,.grp 77 true [zfa 78 1 8,zld 79 78 1,zmv 80 8,zca 81 186 [79,80]] 82 81,zmv 83 82,.grp 83 true [zfa 84 1 9,zld 85 84 1,zmv 86 8,zca 87 186 [85,86]] 88 87,zmv 2 88]),.ret])
def QAA:TCode :=
 (zsq [(zsq [(.reg [zfa 41 1 5,zld 42 41 1,zle 43 42,zmv 44 (zki 0)]),(.block 0 (.loop Qs3 QyZ))]),Qxp])
def QGb:List (Nat × Md):=[(1,.b (zds 14)),(3,.b [.d]),(4,.one .d)]
def QKO:TCode:=.wk QGb QAA
def QFK:TCode :=
 (zsq [(.reg [zop 1 (.box 63 0 14),zmv 2 (zkb false)]),(.reg [zLd 9 1 14,zca 10 112 [9],zop 3 (.new 26 [(.n ctOp)]),zst 3 10 1]),(zsq [(.reg [zLd 11 3 1,zca 12 131 [11],zno 13 12,zmv 14 13,.grp 14 false [zfa 15 1 0,zld 16 15 1,zbi 17 .lss 16 (zki 0)] 18 17,zmv 19 18,.grp 19 false [zfa 20 1 0,zld 21 20 1,zfa 22 1 1,zld 23 22 1,zle 24 23,zbi 25 .gtr 21 24] 26 25,zmv 27 26,.grp 27 false [zLd 28 3 1,zfa 29 1 11,zfa 30 29 0,zld 31 30 1,zca 32 185 [28,31],zno 33 32] 34 33]),(.cond 34 (zsq [(.reg [zmv 2 (zkb false)]),.ret]) .skip)]),(.reg [zfa 35 1 2,zld 36 35 1,zle 37 36,zbi 38 .add 37 (zki 1),zmv 4 38]),(zsq [(.reg [zfa 39 1 4,zld 40 39 1]),(.cond 40 (.reg [zmv 4 (zki 1)]) .skip)]),QKO])
def QvS:List (ARv × Md):=[(.t 2,.one .d)]
def Qqr:Qb:=TQ 0 0 QvS K
def QF0:Qb:=Qseq (tawp QgK 0 Qxp (Qqr K)) (Qqr K)
def QIG:Qb:=Qblk 0 (QF0 K)
def QfB (s:Qc) (kept:Int) (x:Int):Prop:=Loop QgK 0 Qs3 QyZ (QIG K) ⟨[(1,(.p 0 0 0)),(3,(.p 1 0 0)),(4,(zci kept)),(42,(zcs QX s.2.2.2.2.2.1)),(43,(zci ((s.2.2.2.2.2.1).length:Int))),(44,(zci x))],[(0,(.box (Tup.cells Qh s))),(1,(.box [(zcs ctOp (ZQ s))]))],2⟩
def Qpi (s:Qc) (kept:Int):Prop:=tawp QgK 0 QAA (Qqr K) ⟨[(1,(.p 0 0 0)),(3,(.p 1 0 0)),(4,(zci kept))],[(0,(.box (Tup.cells Qh s))),(1,(.box [(zcs ctOp (ZQ s))]))],2⟩
theorem Qww (s:Qc) (kept:Int) (x:Int) (h :
 (zif (decide (x<((s.2.2.2.2.2.1).length:Int))) (((0:Int)≤x∧Int.toNat x<(s.2.2.2.2.2.1).length)∧(((!((((gtd Zu s.2.2.2.2.2.1 (Int.toNat x)).2).length:Int) != kept))=true→(QiH s.2.2.1 ((gtd Zu s.2.2.2.2.2.1 (Int.toNat x)).2) kept))∧(zif (((((gtd Zu s.2.2.2.2.2.1 (Int.toNat x)).2).length:Int) != kept)||(!(Yl s.2.2.1 ((gtd Zu s.2.2.2.2.2.1 (Int.toNat x)).2) kept))) (K (Qau false)) (QfB K s kept (w64 (x+(1:Int))))))) (K (Qau ((((Yk s.2.2.2.2.2.2.2.1 (Q6 (ZQ s)))&&(Yk s.2.2.2.2.2.2.2.2.2.2.1 (Q6 (ZQ s))))&&(Yk s.2.2.2.2.2.2.2.2.1 (Q5 (ZQ s))))&&(Yk s.2.2.2.2.2.2.2.2.2.1 (Q5 (ZQ s)))))))):QfB K s kept x :=
 Loop.of (by kernel_rfl) h
theorem QD3 (s:Qc) (kept:Int) (h :
 (QfB K s kept 0)):Hold (Qpi K s kept) :=
 Hold.of (by kernel_rfl) h
theorem QYD (s:Qc) (h :
 (zif ((((!(QU (ZQ s)))||(decide (s.1<(0:Int))))||(decide (s.1>((s.2.1).length:Int))))||(!(Jh (ZQ s) s.2.2.2.2.2.2.2.2.2.2.2.1))) (K (Qau false)) (zif s.2.2.2.2.1 (Qpi K s 1) (Qpi K s (w64 (((s.2.2.1).length:Int)+(1:Int))))))):Hold (tawp QgK (0+0) QFK (TQ 0 0 QvS K) (Qg [(.a (Tup.cells Qh s))])) :=
 Hold.of (by kernel_rfl) h
theorem QUu (s:Qc):TCon Tryz.prog 113 [(.a (Tup.cells Qh s))] (Qau (QR s)):=by
 refine Qo rfl fun hb=>tcg (n:=89) (sg:=Qep.sg) Qm (TOk.cons Qis (TOk.cons Qj3 (TOk.cons QS9 (TOk.cons Qxg (TOk.cons Qmo (TOk.cons QkV (TOk.cons QIF TOk.nil))))))) (by kernel_rfl) (by kernel_rfl) (QYD _ s ?_)
 have hl_s_1:(s.2.1).length≤9223372036854775807:=hb.1.2.1.1
 have hl_s_2:(s.2.2.1).length≤9223372036854775807:=hb.1.2.2.1.1
 have hl_s_5:(s.2.2.2.2.2.1).length≤9223372036854775807:=hb.1.2.2.2.2.2.1.1
 have hl_s_6:(s.2.2.2.2.2.2.1).length≤9223372036854775807:=hb.1.2.2.2.2.2.2.1.1
 have hl_s_7:(s.2.2.2.2.2.2.2.1).length≤9223372036854775807:=hb.1.2.2.2.2.2.2.2.1.1
 have hl_s_8:(s.2.2.2.2.2.2.2.2.1).length≤9223372036854775807:=hb.1.2.2.2.2.2.2.2.2.1.1
 have hl_s_9:(s.2.2.2.2.2.2.2.2.2.1).length≤9223372036854775807:=hb.1.2.2.2.2.2.2.2.2.2.1.1
 have hl_s_10:(s.2.2.2.2.2.2.2.2.2.2.1).length≤9223372036854775807:=hb.1.2.2.2.2.2.2.2.2.2.2.1.1
 have hl_s_11:(s.2.2.2.2.2.2.2.2.2.2.2.1).length≤9223372036854775807:=hb.1.2.2.2.2.2.2.2.2.2.2.2.1.1
 refine ⟨fun h=>R_eq (by grind [QR,m_in]),fun h=>?_⟩
 have h0:QU s.2.2.1=true∧m_in s.1 0 s.2.1.length=true∧Jh s.2.2.1 s.2.2.2.2.2.2.2.2.2.2.2.1=true:=by grind [m_in]
 have hm:=Ym h0.1
 have hk:1≤Z9 s∧Z9 s≤9:=by unfold Z9;split <;> omega
 have key:QfB (fun r'=>r'=Qau (QR s)) s (Z9 s) ((0:Nat):Int):=by
  refine Zp s.2.2.2.2.2.1 (fun r k=>r.all (YP s)=s.2.2.2.2.2.1.all (YP s)→QfB (fun r'=>r'=Qau (QR s)) s (Z9 s) k) ?_ ?_ rfl
  ·intro he
   refine Qww (fun r'=>r'=Qau (QR s)) s _ _ ⟨fun h=>by simp at h,fun _=>R_eq ?_⟩
   grind [QR]
  ·intro k x r hk2 hlt hg ih he
   refine Qww (fun r'=>r'=Qau (QR s)) s _ _ ⟨fun _=>?_,fun h=>by simp at h;omega⟩
   rw [Int.toNat_natCast,hg,Qr (x:=(k:Int)+1) (by omega) (by omega)]
   refine ⟨⟨by omega,hlt⟩,fun h=>?_,fun h=>R_eq ?_,fun h=>ih ?_⟩
   ·have:(x.2.length:Int)=Z9 s:=by simpa using h
    exact ⟨hm.1,by omega,by omega⟩
   ·grind [QR,YP]
   ·grind [YP]
 refine ⟨fun h1=>?_,fun h1=>?_⟩
 ·have e:Z9 s=1:=by simp [Z9,h1]
  rw [e] at key
  exact (QD3 (fun r'=>r'=Qau (QR s)) s _ key).h
 ·have e:Z9 s=s.2.2.1.length+1:=by simp [Z9,h1]
  rw [Qr (x:=(s.2.2.1.length:Int)+1) (by omega) (by omega)]
  rw [e] at key
  exact (QD3 (fun r'=>r'=Qau (QR s)) s _ key).h
theorem Qhf:Qj Tryz.prog Qep:=Qn fun x _=>QUu x.1
def Jg (t:Bool):TRes:=zre (zcb t)
def Qex:TRow:=Qk 41 [(.a Qh)] fun x=>(none,Jg (QR x.1))
def QbZ:List TRow:=[QaL,YO,Y7,Qmp]
def Qvo:TCode :=
 (zsq [(zsq [(.reg [zmv 47 5,zfa 48 1 2,zld 49 48 1,zle 50 49,zbi 51 .lss 47 50]),(.cond 51 .skip (.exit 0))]),(.block 1 (zsq [(.draw [zfa 54 1 11,zfa 55 54 0,zld 56 55 1,zmv 57 5,zia 58 56 57 [(.sl [TI])],zfa 59 58 0,zld 60 59 1,zle 61 60,zfa 62 1 2,zld 63 62 1,zmv 64 5,zia 65 63 64 ctOp,zfa 66 65 3,zld 67 66 1,zle 68 67,zbi 69 .neq 61 68] []),(.cond 69 (zsq [(.reg [zmv 2 (zkb false)]),.ret]) .skip)])),(.reg [zmv 52 5,zbi 53 .add 52 (zki 1),zmv 5 53])])
def QAK:List (Nat × Md):=[(1,.b (zds 14)),(3,.one .d),(4,.one .d),(5,.one .d)]
def Qvv:TCode :=
 (zsq [(zsq [(.reg [zmv 126 8,zmv 127 7,zle 128 127,zbi 129 .lss 126 128]),(.cond 129 .skip (.exit 4))]),(.block 5 (zsq [(.draw [zmv 132 7,zmv 133 8,zia 134 132 133 [(.sl [TI])],zfa 135 134 0,zld 136 135 1,zca 137 42 [136],zno 138 137,zmv 139 138,.grp 139 false [zmv 140 7,zmv 141 8,zia 142 140 141 [(.sl [TI])],zfa 143 142 0,zld 144 143 1,zle 145 144,zfa 146 1 2,zld 147 146 1,zmv 148 8,zbi 149 .sub 148 (zki 1),zia 150 147 149 ctOp,zfa 151 150 2,zld 152 151 1,zbi 153 .neq 145 152] 154 153] []),(.cond 154 (zsq [(.reg [zmv 2 (zkb false)]),.ret]) .skip)])),(.reg [zmv 130 8,zbi 131 .add 130 (zki 1),zmv 8 131])])
def Qro:List (Nat × Md):=[(1,.b (zds 14)),(3,.one .d),(4,.one .d),(6,.one .d),(7,.one .d),(8,.one .d)]
def QsT:TCode :=
 (.reg [zmv 75 6,zbi 76 .add 75 (zki 1),zmv 6 76])
def Qlz:TCode :=
 (zsq [(zsq [(.reg [zmv 70 6,zfa 71 1 5,zld 72 71 1,zle 73 72,zbi 74 .lss 70 73]),(.cond 74 .skip (.exit 2))]),(.block 3 (zsq [(.reg [zfa 77 1 5,zld 78 77 1,zmv 79 6,zia 80 78 79 QX,zfa 81 80 1,zld 82 81 1,zmv 7 82]),(zsq [(.reg [zmv 83 7,zle 84 83,zbi 85 .eql 84 (zki 0),zmv 86 85,.grp 86 false [zmv 87 7,zia 88 87 (zki 0) [(.sl [TI])],zfa 89 88 0,zld 90 89 1,zca 91 42 [90],zno 92 91] 93 92,zmv 94 93,.grp 94 false [zmv 95 7,zia 96 95 (zki 0) [(.sl [TI])],zfa 97 96 0,zld 98 97 1,zle 99 98,zmv 100 3,zbi 101 .neq 99 100] 102 101,zmv 103 102,.grp 103 false [zfa 104 1 4,zld 105 104 1,zno 106 105,zmv 107 106,.grp 107 true [zmv 108 7,zle 109 108,zfa 110 1 2,zld 111 110 1,zle 112 111,zbi 113 .add 112 (zki 1),zbi 114 .neq 109 113] 115 114] 116 115,zmv 117 116,.grp 117 false [zfa 118 1 4,zld 119 118 1,zmv 120 119,.grp 120 true [zmv 121 7,zle 122 121,zbi 123 .neq 122 (zki 1)] 124 123] 125 124]),(.cond 125 (zsq [(.reg [zmv 2 (zkb false)]),.ret]) .skip)]),(.reg [zmv 8 (zki 1)]),(.block 4 (.loop Qro Qvv))])),QsT])
def QgR:List (Nat × Md):=[(1,.b (zds 14)),(3,.one .d),(4,.one .d),(6,.one .d)]
def Qwu:TCode :=
 (zsq [(.reg [zfa 155 1 7,zld 156 155 1,zmv 157 3,zca 158 109 [156,157],zmv 159 158,.grp 159 true [zfa 160 1 8,zld 161 160 1,zmv 162 4,zca 163 109 [161,162]] 164 163,zmv 165 164,.grp 165 true [zfa 166 1 9,zld 167 166 1,zmv 168 4,zca 169 109 [167,168]] 170 169,zmv 171 170,.grp 171 true [zfa 172 1 10,zld 173 172 1,zmv 174 3,zca 175 109 [173,174]] 176 175,zmv 2 176]),.ret])
def QzG:TCode :=
 (zsq [(zsq [(.reg [zmv 6 (zki 0)]),(.block 2 (.loop QgR Qlz))]),Qwu])
def QKZ:TCode :=
 (zsq [(.reg [zop 1 (.box 63 0 14),zmv 2 (zkb false)]),(zsq [(.reg [zfa 9 1 2,zld 10 9 1,zop 11 (.build [(.n ctOp)] [(0,1,10)]),zca 12 74 [11],zno 13 12,zmv 14 13,.grp 14 false [zfa 15 1 0,zld 16 15 1,zfa 17 1 1,zld 18 17 1,zle 19 18,zca 20 77 [16,(zki 0),19],zno 21 20] 22 21,zmv 23 22,.grp 23 false [zfa 24 1 11,zfa 25 24 0,zld 26 25 1,zle 27 26,zfa 28 1 2,zld 29 28 1,zle 30 29,zbi 31 .neq 27 30] 32 31]),(.cond 32 (zsq [(.reg [zmv 2 (zkb false)]),.ret]) .skip)]),(.reg [zfa 33 1 2,zld 34 33 1,zia 35 34 (zki 0) ctOp,zfa 36 35 1,zld 37 36 1,zmv 3 37]),(.reg [zfa 38 1 2,zld 39 38 1,zfa 40 1 2,zld 41 40 1,zle 42 41,zbi 43 .sub 42 (zki 1),zia 44 39 43 ctOp,zfa 45 44 2,zld 46 45 1,zmv 4 46]),(zsq [(.reg [zmv 5 (zki 0)]),(.block 0 (.loop QAK Qvo))]),QzG])
def QB2:List (ARv × Md):=[(.t 2,.one .d)]
def Qjz:Qb:=TQ 0 0 QB2 K
def QTB:Qb:=Qseq (tawp QbZ 0 Qwu (Qjz K)) (Qjz K)
def Qqs:Qb:=Qblk 2 (QTB K)
def Quh:Qb:=Qseq (fun s'=>Loop QbZ 0 QgR Qlz (Qqs K) (gc 0 QgR s')) (Qqs K)
def QL3:Qb:=Qseq (tawp QbZ 0 QsT (Quh K)) (Quh K)
def QMY:Qb:=Qblk 3 (QL3 K)
def QH4:Qb:=Qblk 4 (QMY K)
def Qhy (s:Qc) (k:Int) (i1:Int):Prop:=Loop QbZ 0 Qro Qvv (QH4 K) ⟨[(1,(.p 0 0 0)),(3,(zci ((gtd dOp s.2.2.1 (Int.toNat (0:Int))).2.1))),(4,(zci ((gtd dOp s.2.2.1 (Int.toNat (w64 (((s.2.2.1).length:Int)-(1:Int))))).2.2.1))),(6,(zci i1)),(7,(zcs [(.sl [TI])] ((gtd Zu s.2.2.2.2.2.1 (Int.toNat i1)).2))),(8,(zci k))],[(0,(.box (Tup.cells Qh s)))],1⟩
def QeT (s:Qc) (i1:Int):Prop:=Loop QbZ 0 QgR Qlz (Qqs K) ⟨[(1,(.p 0 0 0)),(3,(zci ((gtd dOp s.2.2.1 (Int.toNat (0:Int))).2.1))),(4,(zci ((gtd dOp s.2.2.1 (Int.toNat (w64 (((s.2.2.1).length:Int)-(1:Int))))).2.2.1))),(6,(zci i1))],[(0,(.box (Tup.cells Qh s)))],1⟩
def QND:Qb:=Qseq (tawp QbZ 0 QzG (Qjz K)) (Qjz K)
def QXK:Qb:=Qblk 0 (QND K)
def QjE (s:Qc) (i:Int):Prop:=Loop QbZ 0 QAK Qvo (QXK K) ⟨[(1,(.p 0 0 0)),(3,(zci ((gtd dOp s.2.2.1 (Int.toNat (0:Int))).2.1))),(4,(zci ((gtd dOp s.2.2.1 (Int.toNat (w64 (((s.2.2.1).length:Int)-(1:Int))))).2.2.1))),(5,(zci i))],[(0,(.box (Tup.cells Qh s)))],1⟩
theorem QBu (s:Qc) (k:Int) (i1:Int) (h :
 (zif (decide (k<(((gtd Zu s.2.2.2.2.2.1 (Int.toNat i1)).2).length:Int))) ((((0:Int)≤k∧Int.toNat k<((gtd Zu s.2.2.2.2.2.1 (Int.toNat i1)).2).length)∧((!(!(QJ (gtd ([]:List Int) ((gtd Zu s.2.2.2.2.2.1 (Int.toNat i1)).2) (Int.toNat k)))))=true→(((0:Int)≤k∧Int.toNat k<((gtd Zu s.2.2.2.2.2.1 (Int.toNat i1)).2).length)∧((0:Int)≤w64 (k-(1:Int))∧Int.toNat (w64 (k-(1:Int)))<(s.2.2.1).length))))∧(zif ((!(QJ (gtd ([]:List Int) ((gtd Zu s.2.2.2.2.2.1 (Int.toNat i1)).2) (Int.toNat k))))||(((gtd ([]:List Int) ((gtd Zu s.2.2.2.2.2.1 (Int.toNat i1)).2) (Int.toNat k)).length:Int) != ((gtd dOp s.2.2.1 (Int.toNat (w64 (k-(1:Int))))).2.2.1))) (K (Jg false)) (Qhy K s (w64 (k+(1:Int))) i1))) (QeT K s (w64 (i1+(1:Int)))))):Qhy K s k i1 :=
 Loop.of (by kernel_rfl) h
theorem QvE (s:Qc) (i1:Int) (h :
 let z1:=gtd Zu s.2.2.2.2.2.1 (Int.toNat i1)
 let z2:=gtd ([]:List Int) (z1.2) (Int.toNat (0:Int))
 let z3:=gtd dOp s.2.2.1 (Int.toNat (0:Int))
 let z4:=gtd dOp s.2.2.1 (Int.toNat (w64 (((s.2.2.1).length:Int)-(1:Int))))
 (zif (decide (i1<((s.2.2.2.2.2.1).length:Int))) (((0:Int)≤i1∧Int.toNat i1<(s.2.2.2.2.2.1).length)∧((((!(((z1.2).length:Int)==(0:Int)))=true→((0:Int)≤(0:Int)∧Int.toNat (0:Int)<(z1.2).length))∧((!((((z1.2).length:Int)==(0:Int))||(!(QJ z2))))=true→((0:Int)≤(0:Int)∧Int.toNat (0:Int)<(z1.2).length)))∧(zif (((((((z1.2).length:Int)==(0:Int))||(!(QJ z2)))||((z2.length:Int) != (z3.2.1)))||((!s.2.2.2.2.1)&&(((z1.2).length:Int) != (w64 (((s.2.2.1).length:Int)+(1:Int))))))||(s.2.2.2.2.1&&(((z1.2).length:Int) != (1:Int)))) (K (Jg false)) (Qhy K s 1 i1)))) (K (Jg ((((Yk s.2.2.2.2.2.2.2.1 (z3.2.1))&&(Yk s.2.2.2.2.2.2.2.2.1 (z4.2.2.1)))&&(Yk s.2.2.2.2.2.2.2.2.2.1 (z4.2.2.1)))&&(Yk s.2.2.2.2.2.2.2.2.2.2.1 (z3.2.1))))))):QeT K s i1 :=
 Loop.of (by kernel_rfl) h
theorem QDr (s:Qc) (i:Int) (h :
 (zif (decide (i<((s.2.2.1).length:Int))) ((((0:Int)≤i∧Int.toNat i<(s.2.2.2.2.2.2.2.2.2.2.2.1).length)∧((0:Int)≤i∧Int.toNat i<(s.2.2.1).length))∧(zif (((gtd ([]:List Int) s.2.2.2.2.2.2.2.2.2.2.2.1 (Int.toNat i)).length:Int) != (((gtd dOp s.2.2.1 (Int.toNat i)).2.2.2).length:Int)) (K (Jg false)) (QjE K s (w64 (i+(1:Int)))))) (QeT K s 0))):QjE K s i :=
 Loop.of (by kernel_rfl) h
theorem QGl (s:Qc) (h :
 (zif (((!(QU s.2.2.1))||(!(m_in s.1 (0:Int) ((s.2.1).length:Int))))||(((s.2.2.2.2.2.2.2.2.2.2.2.1).length:Int) != ((s.2.2.1).length:Int))) (K (Jg false)) (((0:Int)≤(0:Int)∧Int.toNat (0:Int)<(s.2.2.1).length)∧(((0:Int)≤w64 (((s.2.2.1).length:Int)-(1:Int))∧Int.toNat (w64 (((s.2.2.1).length:Int)-(1:Int)))<(s.2.2.1).length)∧(QjE K s 0))))):Hold (tawp QbZ (0+0) QKZ (TQ 0 0 QB2 K) (Qg [(.a (Tup.cells Qh s))])) :=
 Hold.of (by kernel_rfl) h
theorem QSV (s:Qc):TCon Tryz.prog 41 [(.a (Tup.cells Qh s))] (Jg (QR s)):=by
 refine Qo rfl fun hb=>tcg (n:=177) (sg:=Qex.sg) Qm (TOk.cons Qb2 (TOk.cons YX (TOk.cons Jp (TOk.cons QIj TOk.nil)))) (by kernel_rfl) (by kernel_rfl) (QGl _ s ?_)
 have hl_s_1:(s.2.1).length≤9223372036854775807:=hb.1.2.1.1
 have hl_s_2:(s.2.2.1).length≤9223372036854775807:=hb.1.2.2.1.1
 have hl_s_5:(s.2.2.2.2.2.1).length≤9223372036854775807:=hb.1.2.2.2.2.2.1.1
 have hl_s_6:(s.2.2.2.2.2.2.1).length≤9223372036854775807:=hb.1.2.2.2.2.2.2.1.1
 have hl_s_7:(s.2.2.2.2.2.2.2.1).length≤9223372036854775807:=hb.1.2.2.2.2.2.2.2.1.1
 have hl_s_8:(s.2.2.2.2.2.2.2.2.1).length≤9223372036854775807:=hb.1.2.2.2.2.2.2.2.2.1.1
 have hl_s_9:(s.2.2.2.2.2.2.2.2.2.1).length≤9223372036854775807:=hb.1.2.2.2.2.2.2.2.2.2.1.1
 have hl_s_10:(s.2.2.2.2.2.2.2.2.2.2.1).length≤9223372036854775807:=hb.1.2.2.2.2.2.2.2.2.2.2.1.1
 have hl_s_11:(s.2.2.2.2.2.2.2.2.2.2.2.1).length≤9223372036854775807:=hb.1.2.2.2.2.2.2.2.2.2.2.2.1.1
 refine ⟨fun h=>R_eq (by grind [QR,Jh]),fun h=>?_⟩
 have h0:QU s.2.2.1=true∧m_in s.1 0 s.2.1.length=true∧s.2.2.2.2.2.2.2.2.2.2.2.1.length=s.2.2.1.length:=by
  have:((s.2.2.2.2.2.2.2.2.2.2.2.1.length:Int) != (s.2.2.1.length:Int))=false:=by grind
  have h3:s.2.2.2.2.2.2.2.2.2.2.2.1.length=s.2.2.1.length:=by
   have h4:((s.2.2.2.2.2.2.2.2.2.2.2.1.length:Int)==(s.2.2.1.length:Int))=true:=by simpa [bne] using this
   have:=of_decide_eq_true (by simpa using h4:decide ((s.2.2.2.2.2.2.2.2.2.2.2.1.length:Int)=s.2.2.1.length)=true)
   omega
  grind
 have hm:=Ym h0.1
 have eo:=Qbh (n:=s.2.2.1.length) hm.1 (by omega)
 have ei:Q6 s.2.2.1=(gtd dOp s.2.2.1 0).2.1:=by simp [Q6,h0.1]
 have eu:Q5 s.2.2.1=(gtd dOp s.2.2.1 (s.2.2.1.length-1)).2.2.1:=by simp [Q5,h0.1]
 have hk9:1≤Z9 s∧Z9 s≤s.2.2.1.length+1:=by unfold Z9;split <;> omega
 have saved:Jh s.2.2.1 s.2.2.2.2.2.2.2.2.2.2.2.1=true→QeT (fun r'=>r'=Jg (QR s)) s ((0:Nat):Int):=by
  intro hgf
  refine Zp s.2.2.2.2.2.1 (fun r k=>r.all (YP s)=s.2.2.2.2.2.1.all (YP s)→QeT (fun r'=>r'=Jg (QR s)) s k) ?_ ?_ rfl
  ·intro he
   refine QvE (fun r'=>r'=Jg (QR s)) s _ ⟨fun h=>by simp at h,fun _=>R_eq ?_⟩
   rw [eo.1]
   grind [QR]
  ·intro k x r hk hlt hg ih he
   have hbx:x.2.length≤9223372036854775807:=by
    have hmem:x∈s.2.2.2.2.2.1:=List.mem_of_mem_drop (i:=k) (by rw [hk];exact List.mem_cons_self)
    exact (hb.1.2.2.2.2.2.1.2 x hmem).2.1.1
   have rows:(x.2.length:Int)=Z9 s→∀ (q:List (List Int)) (j:Nat),1≤j→x.2.drop j=q→j≤x.2.length→Yr s.2.2.1 j q=YP s x→Qhy (fun r'=>r'=Jg (QR s)) s j k:=by
    intro hlen q
    induction q with
    | nil =>
     intro j h1 hj hle hgo
     have:x.2.length≤j:=by simpa using hj
     refine QBu (fun r'=>r'=Jg (QR s)) s _ _ ⟨fun h=>?_,fun _=>?_⟩
     ·rw [Int.toNat_natCast,hg] at h;simp at h;omega
     ·rw [Qr (x:=(k:Int)+1) (by omega) (by omega)]
      refine ih ?_
      simp only [Yr] at hgo
      rw [← he,List.all_cons,← hgo,Bool.true_and]
    | cons z q ihq =>
     intro j h1 hj hle hgo
     have hjl:=Qgu hj
     have e2:=Qbh h1 (by omega:j≤9223372036854775807)
     have hsz:=QWk h0.1 h1 (by omega:j≤s.2.2.1.length)
     refine QBu (fun r'=>r'=Jg (QR s)) s _ _ ⟨fun _=>?_,fun h=>?_⟩
     ·rw [Int.toNat_natCast,Int.toNat_natCast,hg,Yb hj,e2.1,Qr (x:=(j:Int)+1) (by omega) (by omega)]
      rw [Yr,hsz] at hgo
      refine ⟨⟨⟨by omega,hjl⟩,fun _=>⟨⟨by omega,hjl⟩,e2.2,by omega⟩⟩,fun h=>R_eq ?_,fun h=>ihq (j+1) (by omega) (ZY hj) hjl ?_⟩
      ·have hf:YP s x=false:=by rw [← hgo];grind [Qq]
       have:s.2.2.2.2.2.1.all (YP s)=false:=by rw [← he,List.all_cons,hf];rfl
       simp [QR,this]
      ·rw [← hgo];grind [Qq]
     ·rw [Int.toNat_natCast,hg] at h;simp at h;omega
   refine QvE (fun r'=>r'=Jg (QR s)) s _ ⟨fun _=>?_,fun h=>by simp at h;omega⟩
   rw [Int.toNat_natCast,hg]
   have bad:YP s x=false→false=QR s:=by
    intro hf
    have:s.2.2.2.2.2.1.all (YP s)=false:=by rw [← he,List.all_cons,hf];rfl
    simp [QR,this]
   have ek:w64 ((s.2.2.1.length:Int)+1)=s.2.2.1.length+1:=Qr (by omega) (by omega)
   rw [ek]
   cases hx:x.2 with
   | nil =>
    refine ⟨⟨by omega,hlt⟩,⟨by simp,by simp⟩,fun _=>R_eq (bad ?_),fun h=>by simp at h⟩
    simp [YP,hx];omega
   | cons z q =>
    have z0:gtd ([]:List Int) (z::q) (Int.toNat 0)=z:=QbG _ _ _
    rw [z0]
    have hsz:Jc s.2.2.1 0=(gtd dOp s.2.2.1 (Int.toNat 0)).2.1:=QQQ h0.1
    rw [← hsz]
    have main:(((q.length+1:Nat):Int)==Z9 s)=true→YP s x=(Qq z (Jc s.2.2.1 0)&&Yr s.2.2.1 1 q):=by
     intro h
     have h:((q.length+1:Nat):Int)=Z9 s:=by simpa using h
     have e:(z::q).take (Z9 s).toNat=z::q:=by rw [List.take_of_length_le];simp;omega
     simp only [YP,hx,Yl,e,Yr]
     simp;omega
    refine ⟨⟨by omega,hlt⟩,⟨fun _=>by simp,fun _=>by simp⟩,fun h=>R_eq (bad ?_),fun h=>?_⟩
    ·by_cases hl:(((q.length+1:Nat):Int)==Z9 s)=true
     ·rw [main hl]
      have hl:((q.length+1:Nat):Int)=Z9 s:=by simpa using hl
      unfold Z9 at hl
      by_cases hr:s.2.2.2.2.1=true
      ·rw [if_pos hr] at hl
       simp [hr] at h
       grind [Qq]
      ·rw [if_neg hr] at hl
       simp [hr] at h
       grind [Qq]
     ·have:(((x.2.length:Nat):Int)==Z9 s)=false:=by rw [hx];simpa using hl
      simp [YP,this]
    ·have hl:((q.length+1:Nat):Int)=Z9 s:=by
      unfold Z9
      by_cases hr:s.2.2.2.2.1=true
      ·rw [if_pos hr];simp [hr] at h;omega
      ·rw [if_neg hr];simp [hr] at h;omega
     have hv:Qq z (Jc s.2.2.1 0)=true:=by simp at h;simp [Qq,h]
     refine rows (by rw [hx];simpa using hl) q 1 (Nat.le_refl _) (by rw [hx];rfl) (by rw [hx];simp) ?_
     rw [main (by simpa using hl),hv,Bool.true_and]
 refine ⟨⟨by omega,by simp;omega⟩,⟨eo.2,by rw [eo.1];omega⟩,?_⟩
 refine Zp s.2.2.1 (fun r k=>Z1 r (s.2.2.2.2.2.2.2.2.2.2.2.1.drop k)=Z1 s.2.2.1 s.2.2.2.2.2.2.2.2.2.2.2.1→QjE (fun r'=>r'=Jg (QR s)) s k) ?_ ?_ rfl
 ·intro he
  refine QDr (fun r'=>r'=Jg (QR s)) s _ ⟨fun h=>by simp at h,fun _=>saved ?_⟩
  grind [Jh,Z1]
 ·intro k x r hk hlt hg ih he
  obtain ⟨y,q,hq⟩:∃ y q,s.2.2.2.2.2.2.2.2.2.2.2.1.drop k=y::q:=by
   cases hq:s.2.2.2.2.2.2.2.2.2.2.2.1.drop k with
   | nil=>have:=congrArg List.length hq;simp at this;omega
   | cons y q=>exact ⟨y,q,rfl⟩
  refine QDr (fun r'=>r'=Jg (QR s)) s _ ⟨fun _=>?_,fun h=>by simp at h;omega⟩
  rw [Int.toNat_natCast,hg,Yb hq,Qr (x:=(k:Int)+1) (by omega) (by omega)]
  rw [hq,Z1] at he
  rw [ZY hq] at ih
  refine ⟨⟨⟨by omega,by omega⟩,by omega,hlt⟩,fun h=>R_eq ?_,fun h=>ih ?_⟩
  ·grind [QR,Jh]
  ·grind
theorem QjV:Qj Tryz.prog Qex:=Qn fun x _=>QSV x.1
end
end Go.Proofs.YtjbdljkhbglnhaaGreat.Am

