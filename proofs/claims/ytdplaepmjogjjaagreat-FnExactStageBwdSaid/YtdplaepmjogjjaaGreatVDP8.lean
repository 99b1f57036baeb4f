/- -/
import Derived.Test.YtdplaepmjogjjaaGreatVDP1
import Derived.Test.YtdplaepmjogjjaaGreatVDP4
namespace Go.Proofs.YtdplaepmjogjjaaGreat.Am
open Go Go.RowKit Go.Proofs.YtdplaepmjogjjaaGreat
set_option linter.all false
noncomputable section
variable (K:TRes→Prop)
def Qkr (t:(List TOp')):TRes:=zra (.a [(zcs ctOp t)])
def QdM:TRow:=Qg 74 [(.a Qs)] fun x=>(none,Qkr (Zx x.1))
def QqO:TTab:=⟨[],false⟩
def QDG:TCode :=
 (zsq [(.reg [zop 1 (.box 39 0 14),zop 2 (.new 77 [(.n ctOp)])]),(.reg [zfa 3 1 2,zld 4 3 1,zop 5 (.build [(.n ctOp)] [(0,1,4)]),zst 2 5 1]),.ret])
def QFA:List (ARv × Md):=[(.l 2 1 true,.b [.d])]
theorem Qxx (s:Qc) (h :
 K (Qkr s.2.2.1)):Hold (tawp QqO (0+0) QDG (TQ 0 0 QFA K) (Qd [(.a (Tup.cells Qs s))])) :=
 Hold.of (by kernel_rfl) h
theorem QBS (s:Qc):TCon Tryz.prog 74 [(.a (Tup.cells Qs s))] (Qkr (Zx s)):=by
 refine Qh rfl fun hb=>tcg (Γ:=QqO) (n:=6) (sg:=QdM.sg) Qi TOkL.nil (by kernel_rfl) (by kernel_rfl) (Qxx _ s ?_)
 have hl_s_1:(s.2.1).length≤9223372036854775807:=hb.1.2.1.1
 have hl_s_2:(s.2.2.1).length≤9223372036854775807:=hb.1.2.2.1.1
 have hl_s_5:(s.2.2.2.2.2.1).length≤9223372036854775807:=hb.1.2.2.2.2.2.1.1
 have hl_s_6:(s.2.2.2.2.2.2.1).length≤9223372036854775807:=hb.1.2.2.2.2.2.2.1.1
 have hl_s_7:(s.2.2.2.2.2.2.2.1).length≤9223372036854775807:=hb.1.2.2.2.2.2.2.2.1.1
 have hl_s_8:(s.2.2.2.2.2.2.2.2.1).length≤9223372036854775807:=hb.1.2.2.2.2.2.2.2.2.1.1
 have hl_s_9:(s.2.2.2.2.2.2.2.2.2.1).length≤9223372036854775807:=hb.1.2.2.2.2.2.2.2.2.2.1.1
 have hl_s_10:(s.2.2.2.2.2.2.2.2.2.2.1).length≤9223372036854775807:=hb.1.2.2.2.2.2.2.2.2.2.2.1.1
 have hl_s_11:(s.2.2.2.2.2.2.2.2.2.2.2.1).length≤9223372036854775807:=hb.1.2.2.2.2.2.2.2.2.2.2.2.1.1
 exact R_eq rfl
theorem Qnr:Qf Tryz.prog QdM:=Qj fun x _=>QBS x.1
def JY (t:Bool):TRes:=zre (zcb t)
def Qip:TRow:=Qg 168 [(.a [(.sl ctOp)]),(.c (.sl [(.sl [TI])]))] fun x=>(none,JY (Z3 x.1 x.2.1))
def Qec:TTab:=⟨[],false⟩
def Qnz:TCode :=
 (zsq [(.reg [zbi 17 .lss 16 15]),(.cond 17 .skip (.exit 0)),(.block 1 (zsq [(.reg [zmv 18 16,zia 19 14 16 ctOp,zLd 20 19 4,zop 6 (.new 134 (z0s ctOp)),zmv 5 18,zst 6 20 4]),(.draw [zmv 21 1,zmv 22 5,zia 23 21 22 [(.sl [TI])],zfa 24 23 0,zld 25 24 1,zle 26 25,zfa 27 6 3,zld 28 27 1,zle 29 28,zbi 30 .neq 26 29] []),(.cond 30 (zsq [(.reg [zmv 4 (zkb false)]),.ret]) .skip)])),(.reg [zbi 31 .add 16 (zki 1),zmv 16 31])])
def QvS:List (Nat × Md):=zdl [1,14,15,16]
def Qnb:TCode :=
 (zsq [(.reg [zmv 4 (zkb true)]),.ret])
def QIp:TCode :=
 (zsq [(.reg [zop 2 (.box 77 0 1),zmv 4 (zkb false)]),(zsq [(.reg [zmv 7 1,zle 8 7,zfa 9 2 0,zld 10 9 1,zle 11 10,zbi 12 .neq 8 11]),(.cond 12 (zsq [(.reg [zmv 4 (zkb false)]),.ret]) .skip)]),(zsq [(.reg [zfa 13 2 0,zld 14 13 1,zle 15 14,zmv 16 (zki 0)]),(.block 0 (.loop QvS Qnz))]),Qnb])
def Qp8:List (ARv × Md):=[(.t 4,.one .d)]
def Qnv:Qb:=TQ 0 0 Qp8 K
def QHf:Qb:=Qseq (tawp Qec 0 Qnb (Qnv K)) (Qnv K)
def QEQ:Qb:=Qblk 0 (QHf K)
def QeZ (m:List TOp') (rows:List (List Int)) (x:Int):Prop:=Loop Qec 0 QvS Qnz (QEQ K) ⟨[(1,(zcs [(.sl [TI])] rows)),(14,(zcs ctOp m)),(15,(zci (m.length:Int))),(16,(zci x))],[],0⟩
theorem Qr2 (m:List TOp') (rows:List (List Int)) (x:Int) (h :
 (zif (decide (x<(m.length:Int))) (((0:Int)≤x∧Int.toNat x<m.length)∧(((0:Int)≤x∧Int.toNat x<rows.length)∧(zif (((gtd ([]:List Int) rows (Int.toNat x)).length:Int) != (((gtd dOp m (Int.toNat x)).2.2.2).length:Int)) (K (JY false)) (QeZ K m rows (w64 (x+(1:Int))))))) (K (JY true)))):QeZ K m rows x :=
 Loop.of (by kernel_rfl) h
theorem QIB (m:List TOp') (rows:List (List Int)) (h :
 (zif ((rows.length:Int) != (m.length:Int)) (K (JY false)) (QeZ K m rows 0))):Hold (tawp Qec (0+0) QIp (TQ 0 0 Qp8 K) (Qd [(.a [(.c (.sl ctOp) m)]),(.c (.sl [(.sl [TI])]) rows)])) :=
 Hold.of (by kernel_rfl) h
theorem Qzp (m:List TOp') (rows:List (List Int)):TCon Tryz.prog 168 [(.a [(.c (.sl ctOp) m)]),(.c (.sl [(.sl [TI])]) rows)] (JY (Z3 m rows)):=by
 refine Qh rfl fun hb=>tcg (Γ:=Qec) (n:=32) (sg:=Qip.sg) Qi TOkL.nil (by kernel_rfl) (by kernel_rfl) (QIB _ m rows ?_)
 have hl_m_0:(m).length≤9223372036854775807:=hb.1.1.1
 have hl_rows:rows.length≤9223372036854775807:=hb.2.1.1
 refine ⟨fun h=>R_eq (by grind [Z3]),fun h=>?_⟩
 have hl:rows.length=m.length:=by
  have:((rows.length:Int)==(m.length:Int))=true:=by simpa [bne] using h
  have:=of_decide_eq_true (by simpa using this:decide ((rows.length:Int)=m.length)=true)
  omega
 refine Za m (fun r k=>Ya r (rows.drop k)=Ya m rows→QeZ (fun r'=>r'=JY (Z3 m rows)) m rows k) ?_ ?_ rfl
 ·intro he
  refine Qr2 (fun r'=>r'=JY (Z3 m rows)) m rows _ ⟨fun h=>by simp at h,fun _=>R_eq ?_⟩
  grind [Z3,Ya]
 ·intro k x r hk hlt hg ih he
  obtain ⟨y,q,hq⟩:∃ y q,rows.drop k=y::q:=by
   cases hq:rows.drop k with
   | nil=>have:=congrArg List.length hq;simp at this;omega
   | cons y q=>exact ⟨y,q,rfl⟩
  refine Qr2 (fun r'=>r'=JY (Z3 m rows)) m rows _ ⟨fun _=>?_,fun h=>by simp at h;omega⟩
  rw [Int.toNat_natCast,hg,Zr hq,Qx (x:=(k:Int)+1) (by omega) (by omega)]
  rw [hq,Ya] at he
  rw [Zj hq] at ih
  refine ⟨⟨by omega,hlt⟩,⟨by omega,by omega⟩,fun h=>R_eq ?_,fun h=>ih ?_⟩
  ·grind [Z3]
  ·grind
theorem QwA:Qf Tryz.prog Qip:=Qj fun x _=>Qzp x.1 x.2.1
def Jj (t:Bool):TRes:=zre (zcb t)
def Qd5:TRow:=Qg 110 [(.c (.sl ctOp)),(.c (.sl [(.sl [TI])])),(.c TI)] fun x=>(some (Qdo x.1 x.2.1 x.2.2.1),Jj (Zs x.1 x.2.1 x.2.2.1))
def Qao:TTab:=⟨[Ju],false⟩
def Qn0:TCode :=
 (zsq [(.reg [zmv 30 1,zmv 31 7,zia 32 30 31 [(.sl [TI])],zfa 33 32 0,zld 34 33 1,zmv 35 8,zca 36 100 [34,35],zno 37 36]),(.cond 37 (zsq [(.reg [zmv 6 (zkb false)]),.ret]) .skip)])
def QBO:List (Nat × Md):=zdl [0,1,2,7,8]
def Qyj:TCode:=.wk QBO Qn0
def QpK:TCode :=
 (.reg [zmv 12 7,zbi 13 .add 12 (zki 1),zmv 7 13])
def QjR:TCode :=
 (zsq [(zsq [(.reg [zmv 9 7,zmv 10 2,zbi 11 .lss 9 10]),(.cond 11 .skip (.exit 0))]),(.block 1 (zsq [(.reg [zmv 14 0,zmv 15 0,zle 16 15,zbi 17 .sub 16 (zki 1),zia 18 14 17 ctOp,zfa 19 18 2,zld 20 19 1,zmv 8 20]),(zsq [(.reg [zmv 21 7,zmv 22 0,zle 23 22,zbi 24 .lss 21 23]),(.cond 24 (.reg [zmv 25 0,zmv 26 7,zia 27 25 26 ctOp,zfa 28 27 1,zld 29 28 1,zmv 8 29]) .skip)]),Qyj])),QpK])
def Qf8:List (Nat × Md):=zdl [0,1,2,7]
def Qnq:TCode :=
 (zsq [(.reg [zmv 6 (zkb true)]),.ret])
def QJl:TCode :=
 (zsq [(.reg [zmv 6 (zkb false)]),(zsq [(.reg [zmv 7 (zki 0)]),(.block 0 (.loop Qf8 QjR))]),Qnq])
def Qq1:List (ARv × Md):=[(.t 6,.one .d)]
def Qpc:Qb:=TQ 0 0 Qq1 K
def QEk:Qb:=Qseq (tawp Qao 0 Qnq (Qpc K)) (Qpc K)
def Qi7:Qb:=Qblk 0 (QEk K)
def QmX:Qb:=Qseq (fun s'=>Loop Qao 0 Qf8 QjR (Qi7 K) (gc 0 Qf8 s')) (Qi7 K)
def QJq:Qb:=Qseq (tawp Qao 0 QpK (QmX K)) (QmX K)
def QBr:Qb:=Qblk 1 (QJq K)
@[irreducible] def Qf9 (ops:List TOp') (rows:List (List Int)) (n:Int) (size:Int) (i:Int):Prop:=tawp Qao 0 Qn0 (QBr K) ⟨[(0,(zcs ctOp ops)),(1,(zcs [(.sl [TI])] rows)),(2,(zci n)),(7,(zci i)),(8,(zci size))],[],0⟩
def Qgh (ops:List TOp') (rows:List (List Int)) (n:Int) (i:Int):Prop:=Loop Qao 0 Qf8 QjR (Qi7 K) ⟨[(0,(zcs ctOp ops)),(1,(zcs [(.sl [TI])] rows)),(2,(zci n)),(7,(zci i))],[],0⟩
theorem QCC (ops:List TOp') (rows:List (List Int)) (n:Int) (size:Int) (i:Int) (h :
 (((0:Int)≤i∧Int.toNat i<rows.length)∧(zif (!(Qq (gtd ([]:List Int) rows (Int.toNat i)) size)) (K (Jj false)) (Qgh K ops rows n (w64 (i+(1:Int))))))):Hold (Qf9 K ops rows n size i) :=
 Hold.of (by kernel_rfl) h
theorem QrW (ops:List TOp') (rows:List (List Int)) (n:Int) (i:Int) (h :
 (zif (decide (i<n)) (((0:Int)≤w64 ((ops.length:Int)-(1:Int))∧Int.toNat (w64 ((ops.length:Int)-(1:Int)))<ops.length)∧(zif (decide (i<(ops.length:Int))) (((0:Int)≤i∧Int.toNat i<ops.length)∧(Qf9 K ops rows n ((gtd dOp ops (Int.toNat i)).2.1) i)) (Qf9 K ops rows n ((gtd dOp ops (Int.toNat (w64 ((ops.length:Int)-(1:Int))))).2.2.1) i))) (K (Jj true)))):Qgh K ops rows n i :=
 Loop.of (by kernel_rfl) h
theorem QFb (ops:List TOp') (rows:List (List Int)) (n:Int) (h :
 (Qgh K ops rows n 0)):Hold (tawp Qao (0+0) QJl (TQ 0 0 Qq1 K) (Qd [(.c (.sl ctOp) ops),(.c (.sl [(.sl [TI])]) rows),(.c TI n)])) :=
 Hold.of (by kernel_rfl) h
theorem QAi (ops:List TOp') (rows:List (List Int)) (n:Int) (hp:Qdo ops rows n):TCon Tryz.prog 110 [(.c (.sl ctOp) ops),(.c (.sl [(.sl [TI])]) rows),(.c TI n)] (Jj (Zs ops rows n)):=by
 refine Qh rfl fun hb=>tcg (Γ:=Qao) (n:=38) (sg:=Qd5.sg) Qi (TOkL.cons Qay TOkL.nil) (by kernel_rfl) (by kernel_rfl) (QFb _ ops rows n ?_)
 have hl_ops:ops.length≤9223372036854775807:=hb.1.1
 have hl_rows:rows.length≤9223372036854775807:=hb.2.1.1
 have:=QEd rows 0 n (Int.le_refl 0) hp.2.1 hp.2.2 (fun r k=>Z7 ops k r=(Zs ops rows n)→Qgh (fun r'=>r'=Jj (Zs ops rows n)) ops rows n k) ?_ ?_ (by simp [Zs,slice])
 ·exact this
 ·intro he
  refine QrW (fun r'=>r'=Jj (Zs ops rows n)) ops rows n _ ⟨fun h=>by simp at h;omega,fun _=>R_eq ?_⟩
  simpa [Z7] using he
 ·intro k x r h1 h2 hlt hg ih he
  have e:=Qb1 hp.1 hl_ops
  have key:Qf9 (fun r'=>r'=Jj (Zs ops rows n)) ops rows n (Yx ops k) k:=by
   refine (QCC (fun r'=>r'=Jj (Zs ops rows n)) ops rows n _ _ ?_).h
   rw [Int.toNat_natCast,hg,Qx (x:=(k:Int)+1) (by omega) (by omega)]
   rw [Z7] at he
   refine ⟨⟨by omega,hlt⟩,fun h=>R_eq ?_,fun h=>ih ?_⟩ <;> grind
  refine QrW (fun r'=>r'=Jj (Zs ops rows n)) ops rows n _ ⟨fun _=>?_,fun h=>by simp at h;omega⟩
  rw [e.1,Int.toNat_natCast]
  refine ⟨⟨e.2,by have:=hp.1;omega⟩,fun h=>⟨⟨by omega,by simpa using h⟩,?_⟩,fun h=>?_⟩
  ·rw [Yx,if_pos (by simpa using h)] at key;exact key
  ·rw [Yx,if_neg (by simpa using h)] at key;exact key
theorem QnQ:Qf Tryz.prog Qd5:=Qj fun x h=>QAi x.1 x.2.1 x.2.2.1 h
def YQ (t:Bool):TRes:=zre (zcb t)
def Qhk:TRow:=Qg 72 [(.a Qs)] fun x=>(none,YQ (QU x.1))
def QcD:TTab:=⟨[QdM,Qc8,Qip,Qd5,Qhw,Qey,Qjb],false⟩
def Qna:TCode :=
 (zsq [(.reg [zbi 45 .lss 44 43]),(.cond 45 .skip (.exit 0)),(.block 1 (zsq [(.reg [zia 46 42 44 Ql,zLd 47 46 2,zop 6 (.new 108 (z0s Ql)),zst 6 47 2]),(.reg [zfa 48 6 1,zld 49 48 1,zle 50 49,zmv 51 4,zbi 52 .neq 50 51,zmv 53 52,.grp 53 false [zfa 54 1 2,zld 55 54 1,zfa 56 6 1,zld 57 56 1,zmv 58 4,zca 59 110 [55,57,58],zno 60 59] 61 60]),(.cond 61 (zsq [(.reg [zmv 2 (zkb false)]),.ret]) .skip)])),(.reg [zbi 62 .add 44 (zki 1),zmv 44 62])])
def QnN:List (Nat × Md):=[(1,.b (zds 14)),(3,.b [.d]),(4,.one .d),(42,.one .d),(43,.one .d),(44,.one .d)]
def QoD:TCode :=
 (zsq [(.draw [zLd 63 3 1,zca 64 101 [63],zLd 65 3 1,zca 66 102 [65],zmv 7 64,zmv 8 66] [(1,2)]),(.reg [zfa 67 1 7,zld 68 67 1,zmv 69 7,zca 70 169 [68,69],zmv 71 70,.grp 71 true [zfa 72 1 10,zld 73 72 1,zmv 74 7,zca 75 169 [73,74]] 76 75,zmv 77 76,.grp 77 true [zfa 78 1 8,zld 79 78 1,zmv 80 8,zca 81 169 [79,80]] 82 81,zmv 83 82,.grp 83 true [zfa 84 1 9,zld 85 84 1,zmv 86 8,zca 87 169 [85,86]] 88 87,zmv 2 88]),.ret])
def Qu8:TCode :=
 (zsq [(zsq [(.reg [zfa 41 1 5,zld 42 41 1,zle 43 42,zmv 44 (zki 0)]),(.block 0 (.loop QnN Qna))]),QoD])
def QzP:List (Nat × Md):=[(1,.b (zds 14)),(3,.b [.d]),(4,.one .d)]
def QvY:TCode:=.wk QzP Qu8
def QJY:TCode :=
 (zsq [(.reg [zop 1 (.box 39 0 14),zmv 2 (zkb false)]),(.reg [zLd 9 1 14,zca 10 74 [9],zop 3 (.new 77 [(.n ctOp)]),zst 3 10 1]),(zsq [(.reg [zLd 11 3 1,zca 12 167 [11],zno 13 12,zmv 14 13,.grp 14 false [zfa 15 1 0,zld 16 15 1,zbi 17 .lss 16 (zki 0)] 18 17,zmv 19 18,.grp 19 false [zfa 20 1 0,zld 21 20 1,zfa 22 1 1,zld 23 22 1,zle 24 23,zbi 25 .gtr 21 24] 26 25,zmv 27 26,.grp 27 false [zLd 28 3 1,zfa 29 1 11,zfa 30 29 0,zld 31 30 1,zca 32 168 [28,31],zno 33 32] 34 33]),(.cond 34 (zsq [(.reg [zmv 2 (zkb false)]),.ret]) .skip)]),(.reg [zfa 35 1 2,zld 36 35 1,zle 37 36,zbi 38 .add 37 (zki 1),zmv 4 38]),(zsq [(.reg [zfa 39 1 4,zld 40 39 1]),(.cond 40 (.reg [zmv 4 (zki 1)]) .skip)]),QvY])
def QmP:List (ARv × Md):=[(.t 2,.one .d)]
def QjM:Qb:=TQ 0 0 QmP K
def QFM:Qb:=Qseq (tawp QcD 0 QoD (QjM K)) (QjM K)
def QDO:Qb:=Qblk 0 (QFM K)
def QdB (s:Qc) (kept:Int) (x:Int):Prop:=Loop QcD 0 QnN Qna (QDO K) ⟨[(1,(.p 0 0 0)),(3,(.p 1 0 0)),(4,(zci kept)),(42,(zcs Ql s.2.2.2.2.2.1)),(43,(zci ((s.2.2.2.2.2.1).length:Int))),(44,(zci x))],[(0,(.box (Tup.cells Qs s))),(1,(.box [(zcs ctOp (Zx s))]))],2⟩
@[irreducible] def QjU (s:Qc) (kept:Int):Prop:=tawp QcD 0 Qu8 (QjM K) ⟨[(1,(.p 0 0 0)),(3,(.p 1 0 0)),(4,(zci kept))],[(0,(.box (Tup.cells Qs s))),(1,(.box [(zcs ctOp (Zx s))]))],2⟩
theorem QpU (s:Qc) (kept:Int) (x:Int) (h :
 (zif (decide (x<((s.2.2.2.2.2.1).length:Int))) (((0:Int)≤x∧Int.toNat x<(s.2.2.2.2.2.1).length)∧(((!((((gtd Qw s.2.2.2.2.2.1 (Int.toNat x)).2).length:Int) != kept))=true→(Qdo s.2.2.1 ((gtd Qw s.2.2.2.2.2.1 (Int.toNat x)).2) kept))∧(zif (((((gtd Qw s.2.2.2.2.2.1 (Int.toNat x)).2).length:Int) != kept)||(!(Zs s.2.2.1 ((gtd Qw s.2.2.2.2.2.1 (Int.toNat x)).2) kept))) (K (YQ false)) (QdB K s kept (w64 (x+(1:Int))))))) (K (YQ ((((ZN s.2.2.2.2.2.2.2.1 (YK (Zx s)))&&(ZN s.2.2.2.2.2.2.2.2.2.2.1 (YK (Zx s))))&&(ZN s.2.2.2.2.2.2.2.2.1 (Zi (Zx s))))&&(ZN s.2.2.2.2.2.2.2.2.2.1 (Zi (Zx s)))))))):QdB K s kept x :=
 Loop.of (by kernel_rfl) h
theorem Qpp (s:Qc) (kept:Int) (h :
 (QdB K s kept 0)):Hold (QjU K s kept) :=
 Hold.of (by kernel_rfl) h
theorem QGk (s:Qc) (h :
 (zif ((((!(QX (Zx s)))||(decide (s.1<(0:Int))))||(decide (s.1>((s.2.1).length:Int))))||(!(Z3 (Zx s) s.2.2.2.2.2.2.2.2.2.2.2.1))) (K (YQ false)) (zif s.2.2.2.2.1 (QjU K s 1) (QjU K s (w64 (((s.2.2.1).length:Int)+(1:Int))))))):Hold (tawp QcD (0+0) QJY (TQ 0 0 QmP K) (Qd [(.a (Tup.cells Qs s))])) :=
 Hold.of (by kernel_rfl) h
theorem QDH (s:Qc):TCon Tryz.prog 72 [(.a (Tup.cells Qs s))] (YQ (QU s)):=by
 refine Qh rfl fun hb=>tcg (Γ:=QcD) (n:=89) (sg:=Qhk.sg) Qi (TOkL.cons Qnr (TOkL.cons QgO (TOkL.cons QwA (TOkL.cons QnQ (TOkL.cons QFo (TOkL.cons QqY (TOkL.cons QHQ TOkL.nil))))))) (by kernel_rfl) (by kernel_rfl) (QGk _ s ?_)
 have hl_s_1:(s.2.1).length≤9223372036854775807:=hb.1.2.1.1
 have hl_s_2:(s.2.2.1).length≤9223372036854775807:=hb.1.2.2.1.1
 have hl_s_5:(s.2.2.2.2.2.1).length≤9223372036854775807:=hb.1.2.2.2.2.2.1.1
 have hl_s_6:(s.2.2.2.2.2.2.1).length≤9223372036854775807:=hb.1.2.2.2.2.2.2.1.1
 have hl_s_7:(s.2.2.2.2.2.2.2.1).length≤9223372036854775807:=hb.1.2.2.2.2.2.2.2.1.1
 have hl_s_8:(s.2.2.2.2.2.2.2.2.1).length≤9223372036854775807:=hb.1.2.2.2.2.2.2.2.2.1.1
 have hl_s_9:(s.2.2.2.2.2.2.2.2.2.1).length≤9223372036854775807:=hb.1.2.2.2.2.2.2.2.2.2.1.1
 have hl_s_10:(s.2.2.2.2.2.2.2.2.2.2.1).length≤9223372036854775807:=hb.1.2.2.2.2.2.2.2.2.2.2.1.1
 have hl_s_11:(s.2.2.2.2.2.2.2.2.2.2.2.1).length≤9223372036854775807:=hb.1.2.2.2.2.2.2.2.2.2.2.2.1.1
 refine ⟨fun h=>R_eq (by grind [QU,m_in]),fun h=>?_⟩
 have h0:QX s.2.2.1=true∧m_in s.1 0 s.2.1.length=true∧Z3 s.2.2.1 s.2.2.2.2.2.2.2.2.2.2.2.1=true:=by grind [m_in]
 have hm:=YX h0.1
 have hk:1≤Zq s∧Zq s≤9:=by unfold Zq;split <;> omega
 have key:QdB (fun r'=>r'=YQ (QU s)) s (Zq s) ((0:Nat):Int):=by
  refine Za s.2.2.2.2.2.1 (fun r k=>r.all (ZU s)=s.2.2.2.2.2.1.all (ZU s)→QdB (fun r'=>r'=YQ (QU s)) s (Zq s) k) ?_ ?_ rfl
  ·intro he
   refine QpU (fun r'=>r'=YQ (QU s)) s _ _ ⟨fun h=>by simp at h,fun _=>R_eq ?_⟩
   grind [QU]
  ·intro k x r hk2 hlt hg ih he
   refine QpU (fun r'=>r'=YQ (QU s)) s _ _ ⟨fun _=>?_,fun h=>by simp at h;omega⟩
   rw [Int.toNat_natCast,hg,Qx (x:=(k:Int)+1) (by omega) (by omega)]
   refine ⟨⟨by omega,hlt⟩,fun h=>?_,fun h=>R_eq ?_,fun h=>ih ?_⟩
   ·have:(x.2.length:Int)=Zq s:=by simpa using h
    exact ⟨hm.1,by omega,by omega⟩
   ·grind [QU,ZU]
   ·grind [ZU]
 refine ⟨fun h1=>?_,fun h1=>?_⟩
 ·have e:Zq s=1:=by simp [Zq,h1]
  rw [e] at key
  exact (Qpp (fun r'=>r'=YQ (QU s)) s _ key).h
 ·have e:Zq s=s.2.2.1.length+1:=by simp [Zq,h1]
  rw [Qx (x:=(s.2.2.1.length:Int)+1) (by omega) (by omega)]
  rw [e] at key
  exact (Qpp (fun r'=>r'=YQ (QU s)) s _ key).h
theorem Qye:Qf Tryz.prog Qhk:=Qj fun x _=>QDH x.1
def ZS (t:Bool):TRes:=zre (zcb t)
def QgN:TRow:=Qg 63 [(.a Qs)] fun x=>(none,ZS (QU x.1))
def Jy:TTab:=⟨[Qid,Ji,YU,QkY],false⟩
def QmW:TCode :=
 (zsq [(zsq [(.reg [zmv 47 5,zfa 48 1 2,zld 49 48 1,zle 50 49,zbi 51 .lss 47 50]),(.cond 51 .skip (.exit 0))]),(.block 1 (zsq [(.draw [zfa 54 1 11,zfa 55 54 0,zld 56 55 1,zmv 57 5,zia 58 56 57 [(.sl [TI])],zfa 59 58 0,zld 60 59 1,zle 61 60,zfa 62 1 2,zld 63 62 1,zmv 64 5,zia 65 63 64 ctOp,zfa 66 65 3,zld 67 66 1,zle 68 67,zbi 69 .neq 61 68] []),(.cond 69 (zsq [(.reg [zmv 2 (zkb false)]),.ret]) .skip)])),(.reg [zmv 52 5,zbi 53 .add 52 (zki 1),zmv 5 53])])
def Qmv:List (Nat × Md):=[(1,.b (zds 14)),(3,.one .d),(4,.one .d),(5,.one .d)]
def QuC:TCode :=
 (zsq [(zsq [(.reg [zmv 126 8,zmv 127 7,zle 128 127,zbi 129 .lss 126 128]),(.cond 129 .skip (.exit 4))]),(.block 5 (zsq [(.draw [zmv 132 7,zmv 133 8,zia 134 132 133 [(.sl [TI])],zfa 135 134 0,zld 136 135 1,zca 137 97 [136],zno 138 137,zmv 139 138,.grp 139 false [zmv 140 7,zmv 141 8,zia 142 140 141 [(.sl [TI])],zfa 143 142 0,zld 144 143 1,zle 145 144,zfa 146 1 2,zld 147 146 1,zmv 148 8,zbi 149 .sub 148 (zki 1),zia 150 147 149 ctOp,zfa 151 150 2,zld 152 151 1,zbi 153 .neq 145 152] 154 153] []),(.cond 154 (zsq [(.reg [zmv 2 (zkb false)]),.ret]) .skip)])),(.reg [zmv 130 8,zbi 131 .add 130 (zki 1),zmv 8 131])])
def Qsk:List (Nat × Md):=[(1,.b (zds 14)),(3,.one .d),(4,.one .d),(6,.one .d),(7,.one .d),(8,.one .d)]
def Qq9:TCode :=
 (.reg [zmv 75 6,zbi 76 .add 75 (zki 1),zmv 6 76])
def Qk7:TCode :=
 (zsq [(zsq [(.reg [zmv 70 6,zfa 71 1 5,zld 72 71 1,zle 73 72,zbi 74 .lss 70 73]),(.cond 74 .skip (.exit 2))]),(.block 3 (zsq [(.reg [zfa 77 1 5,zld 78 77 1,zmv 79 6,zia 80 78 79 Ql,zfa 81 80 1,zld 82 81 1,zmv 7 82]),(zsq [(.reg [zmv 83 7,zle 84 83,zbi 85 .eql 84 (zki 0),zmv 86 85,.grp 86 false [zmv 87 7,zia 88 87 (zki 0) [(.sl [TI])],zfa 89 88 0,zld 90 89 1,zca 91 97 [90],zno 92 91] 93 92,zmv 94 93,.grp 94 false [zmv 95 7,zia 96 95 (zki 0) [(.sl [TI])],zfa 97 96 0,zld 98 97 1,zle 99 98,zmv 100 3,zbi 101 .neq 99 100] 102 101,zmv 103 102,.grp 103 false [zfa 104 1 4,zld 105 104 1,zno 106 105,zmv 107 106,.grp 107 true [zmv 108 7,zle 109 108,zfa 110 1 2,zld 111 110 1,zle 112 111,zbi 113 .add 112 (zki 1),zbi 114 .neq 109 113] 115 114] 116 115,zmv 117 116,.grp 117 false [zfa 118 1 4,zld 119 118 1,zmv 120 119,.grp 120 true [zmv 121 7,zle 122 121,zbi 123 .neq 122 (zki 1)] 124 123] 125 124]),(.cond 125 (zsq [(.reg [zmv 2 (zkb false)]),.ret]) .skip)]),(.reg [zmv 8 (zki 1)]),(.block 4 (.loop Qsk QuC))])),Qq9])
def QeB:List (Nat × Md):=[(1,.b (zds 14)),(3,.one .d),(4,.one .d),(6,.one .d)]
def QuK:TCode :=
 (zsq [(.reg [zfa 155 1 7,zld 156 155 1,zmv 157 3,zca 158 159 [156,157],zmv 159 158,.grp 159 true [zfa 160 1 8,zld 161 160 1,zmv 162 4,zca 163 159 [161,162]] 164 163,zmv 165 164,.grp 165 true [zfa 166 1 9,zld 167 166 1,zmv 168 4,zca 169 159 [167,168]] 170 169,zmv 171 170,.grp 171 true [zfa 172 1 10,zld 173 172 1,zmv 174 3,zca 175 159 [173,174]] 176 175,zmv 2 176]),.ret])
def Qq0:TCode :=
 (zsq [(zsq [(.reg [zmv 6 (zki 0)]),(.block 2 (.loop QeB Qk7))]),QuK])
def QEu:TCode :=
 (zsq [(.reg [zop 1 (.box 39 0 14),zmv 2 (zkb false)]),(zsq [(.reg [zfa 9 1 2,zld 10 9 1,zop 11 (.build [(.n ctOp)] [(0,1,10)]),zca 12 157 [11],zno 13 12,zmv 14 13,.grp 14 false [zfa 15 1 0,zld 16 15 1,zfa 17 1 1,zld 18 17 1,zle 19 18,zca 20 158 [16,(zki 0),19],zno 21 20] 22 21,zmv 23 22,.grp 23 false [zfa 24 1 11,zfa 25 24 0,zld 26 25 1,zle 27 26,zfa 28 1 2,zld 29 28 1,zle 30 29,zbi 31 .neq 27 30] 32 31]),(.cond 32 (zsq [(.reg [zmv 2 (zkb false)]),.ret]) .skip)]),(.reg [zfa 33 1 2,zld 34 33 1,zia 35 34 (zki 0) ctOp,zfa 36 35 1,zld 37 36 1,zmv 3 37]),(.reg [zfa 38 1 2,zld 39 38 1,zfa 40 1 2,zld 41 40 1,zle 42 41,zbi 43 .sub 42 (zki 1),zia 44 39 43 ctOp,zfa 45 44 2,zld 46 45 1,zmv 4 46]),(zsq [(.reg [zmv 5 (zki 0)]),(.block 0 (.loop Qmv QmW))]),Qq0])
def QuX:List (ARv × Md):=[(.t 2,.one .d)]
def QgH:Qb:=TQ 0 0 QuX K
def QwL:Qb:=Qseq (tawp Jy 0 QuK (QgH K)) (QgH K)
def Qjp:Qb:=Qblk 2 (QwL K)
def Qnc:Qb:=Qseq (fun s'=>Loop Jy 0 QeB Qk7 (Qjp K) (gc 0 QeB s')) (Qjp K)
def QAC:Qb:=Qseq (tawp Jy 0 Qq9 (Qnc K)) (Qnc K)
def QGU:Qb:=Qblk 3 (QAC K)
def QwR:Qb:=Qblk 4 (QGU K)
def Qd4 (s:Qc) (k:Int) (i1:Int):Prop:=Loop Jy 0 Qsk QuC (QwR K) ⟨[(1,(.p 0 0 0)),(3,(zci ((gtd dOp s.2.2.1 (Int.toNat (0:Int))).2.1))),(4,(zci ((gtd dOp s.2.2.1 (Int.toNat (w64 (((s.2.2.1).length:Int)-(1:Int))))).2.2.1))),(6,(zci i1)),(7,(zcs [(.sl [TI])] ((gtd Qw s.2.2.2.2.2.1 (Int.toNat i1)).2))),(8,(zci k))],[(0,(.box (Tup.cells Qs s)))],1⟩
def Qcq (s:Qc) (i1:Int):Prop:=Loop Jy 0 QeB Qk7 (Qjp K) ⟨[(1,(.p 0 0 0)),(3,(zci ((gtd dOp s.2.2.1 (Int.toNat (0:Int))).2.1))),(4,(zci ((gtd dOp s.2.2.1 (Int.toNat (w64 (((s.2.2.1).length:Int)-(1:Int))))).2.2.1))),(6,(zci i1))],[(0,(.box (Tup.cells Qs s)))],1⟩
def QCL:Qb:=Qseq (tawp Jy 0 Qq0 (QgH K)) (QgH K)
def Qwq:Qb:=Qblk 0 (QCL K)
def Qe8 (s:Qc) (i:Int):Prop:=Loop Jy 0 Qmv QmW (Qwq K) ⟨[(1,(.p 0 0 0)),(3,(zci ((gtd dOp s.2.2.1 (Int.toNat (0:Int))).2.1))),(4,(zci ((gtd dOp s.2.2.1 (Int.toNat (w64 (((s.2.2.1).length:Int)-(1:Int))))).2.2.1))),(5,(zci i))],[(0,(.box (Tup.cells Qs s)))],1⟩
theorem Que (s:Qc) (k:Int) (i1:Int) (h :
 (zif (decide (k<(((gtd Qw s.2.2.2.2.2.1 (Int.toNat i1)).2).length:Int))) ((((0:Int)≤k∧Int.toNat k<((gtd Qw s.2.2.2.2.2.1 (Int.toNat i1)).2).length)∧((!(!(QA (gtd ([]:List Int) ((gtd Qw s.2.2.2.2.2.1 (Int.toNat i1)).2) (Int.toNat k)))))=true→(((0:Int)≤k∧Int.toNat k<((gtd Qw s.2.2.2.2.2.1 (Int.toNat i1)).2).length)∧((0:Int)≤w64 (k-(1:Int))∧Int.toNat (w64 (k-(1:Int)))<(s.2.2.1).length))))∧(zif ((!(QA (gtd ([]:List Int) ((gtd Qw s.2.2.2.2.2.1 (Int.toNat i1)).2) (Int.toNat k))))||(((gtd ([]:List Int) ((gtd Qw s.2.2.2.2.2.1 (Int.toNat i1)).2) (Int.toNat k)).length:Int) != ((gtd dOp s.2.2.1 (Int.toNat (w64 (k-(1:Int))))).2.2.1))) (K (ZS false)) (Qd4 K s (w64 (k+(1:Int))) i1))) (Qcq K s (w64 (i1+(1:Int)))))):Qd4 K s k i1 :=
 Loop.of (by kernel_rfl) h
theorem QvM (s:Qc) (i1:Int) (h :
 let z1:=gtd Qw s.2.2.2.2.2.1 (Int.toNat i1)
 let z2:=gtd ([]:List Int) (z1.2) (Int.toNat (0:Int))
 let z3:=gtd dOp s.2.2.1 (Int.toNat (0:Int))
 let z4:=gtd dOp s.2.2.1 (Int.toNat (w64 (((s.2.2.1).length:Int)-(1:Int))))
 (zif (decide (i1<((s.2.2.2.2.2.1).length:Int))) (((0:Int)≤i1∧Int.toNat i1<(s.2.2.2.2.2.1).length)∧((((!(((z1.2).length:Int)==(0:Int)))=true→((0:Int)≤(0:Int)∧Int.toNat (0:Int)<(z1.2).length))∧((!((((z1.2).length:Int)==(0:Int))||(!(QA z2))))=true→((0:Int)≤(0:Int)∧Int.toNat (0:Int)<(z1.2).length)))∧(zif (((((((z1.2).length:Int)==(0:Int))||(!(QA z2)))||((z2.length:Int) != (z3.2.1)))||((!s.2.2.2.2.1)&&(((z1.2).length:Int) != (w64 (((s.2.2.1).length:Int)+(1:Int))))))||(s.2.2.2.2.1&&(((z1.2).length:Int) != (1:Int)))) (K (ZS false)) (Qd4 K s 1 i1)))) (K (ZS ((((ZN s.2.2.2.2.2.2.2.1 (z3.2.1))&&(ZN s.2.2.2.2.2.2.2.2.1 (z4.2.2.1)))&&(ZN s.2.2.2.2.2.2.2.2.2.1 (z4.2.2.1)))&&(ZN s.2.2.2.2.2.2.2.2.2.2.1 (z3.2.1))))))):Qcq K s i1 :=
 Loop.of (by kernel_rfl) h
theorem Qm4 (s:Qc) (i:Int) (h :
 (zif (decide (i<((s.2.2.1).length:Int))) ((((0:Int)≤i∧Int.toNat i<(s.2.2.2.2.2.2.2.2.2.2.2.1).length)∧((0:Int)≤i∧Int.toNat i<(s.2.2.1).length))∧(zif (((gtd ([]:List Int) s.2.2.2.2.2.2.2.2.2.2.2.1 (Int.toNat i)).length:Int) != (((gtd dOp s.2.2.1 (Int.toNat i)).2.2.2).length:Int)) (K (ZS false)) (Qe8 K s (w64 (i+(1:Int)))))) (Qcq K s 0))):Qe8 K s i :=
 Loop.of (by kernel_rfl) h
theorem QGn (s:Qc) (h :
 (zif (((!(QX s.2.2.1))||(!(m_in s.1 (0:Int) ((s.2.1).length:Int))))||(((s.2.2.2.2.2.2.2.2.2.2.2.1).length:Int) != ((s.2.2.1).length:Int))) (K (ZS false)) (((0:Int)≤(0:Int)∧Int.toNat (0:Int)<(s.2.2.1).length)∧(((0:Int)≤w64 (((s.2.2.1).length:Int)-(1:Int))∧Int.toNat (w64 (((s.2.2.1).length:Int)-(1:Int)))<(s.2.2.1).length)∧(Qe8 K s 0))))):Hold (tawp Jy (0+0) QEu (TQ 0 0 QuX K) (Qd [(.a (Tup.cells Qs s))])) :=
 Hold.of (by kernel_rfl) h
theorem QwY (s:Qc):TCon Tryz.prog 63 [(.a (Tup.cells Qs s))] (ZS (QU s)):=by
 refine Qh rfl fun hb=>tcg (Γ:=Jy) (n:=177) (sg:=QgN.sg) Qi (TOkL.cons QzJ (TOkL.cons Qa6 (TOkL.cons JW (TOkL.cons QCO TOkL.nil)))) (by kernel_rfl) (by kernel_rfl) (QGn _ s ?_)
 have hl_s_1:(s.2.1).length≤9223372036854775807:=hb.1.2.1.1
 have hl_s_2:(s.2.2.1).length≤9223372036854775807:=hb.1.2.2.1.1
 have hl_s_5:(s.2.2.2.2.2.1).length≤9223372036854775807:=hb.1.2.2.2.2.2.1.1
 have hl_s_6:(s.2.2.2.2.2.2.1).length≤9223372036854775807:=hb.1.2.2.2.2.2.2.1.1
 have hl_s_7:(s.2.2.2.2.2.2.2.1).length≤9223372036854775807:=hb.1.2.2.2.2.2.2.2.1.1
 have hl_s_8:(s.2.2.2.2.2.2.2.2.1).length≤9223372036854775807:=hb.1.2.2.2.2.2.2.2.2.1.1
 have hl_s_9:(s.2.2.2.2.2.2.2.2.2.1).length≤9223372036854775807:=hb.1.2.2.2.2.2.2.2.2.2.1.1
 have hl_s_10:(s.2.2.2.2.2.2.2.2.2.2.1).length≤9223372036854775807:=hb.1.2.2.2.2.2.2.2.2.2.2.1.1
 have hl_s_11:(s.2.2.2.2.2.2.2.2.2.2.2.1).length≤9223372036854775807:=hb.1.2.2.2.2.2.2.2.2.2.2.2.1.1
 refine ⟨fun h=>R_eq (by grind [QU,Z3]),fun h=>?_⟩
 have h0:QX s.2.2.1=true∧m_in s.1 0 s.2.1.length=true∧s.2.2.2.2.2.2.2.2.2.2.2.1.length=s.2.2.1.length:=by
  have:((s.2.2.2.2.2.2.2.2.2.2.2.1.length:Int) != (s.2.2.1.length:Int))=false:=by grind
  have h3:s.2.2.2.2.2.2.2.2.2.2.2.1.length=s.2.2.1.length:=by
   have h4:((s.2.2.2.2.2.2.2.2.2.2.2.1.length:Int)==(s.2.2.1.length:Int))=true:=by simpa [bne] using this
   have:=of_decide_eq_true (by simpa using h4:decide ((s.2.2.2.2.2.2.2.2.2.2.2.1.length:Int)=s.2.2.1.length)=true)
   omega
  grind
 have hm:=YX h0.1
 have eo:=Qb1 (n:=s.2.2.1.length) hm.1 (by omega)
 have ei:YK s.2.2.1=(gtd dOp s.2.2.1 0).2.1:=by simp [YK,h0.1]
 have eu:Zi s.2.2.1=(gtd dOp s.2.2.1 (s.2.2.1.length-1)).2.2.1:=by simp [Zi,h0.1]
 have hk9:1≤Zq s∧Zq s≤s.2.2.1.length+1:=by unfold Zq;split <;> omega
 have saved:Z3 s.2.2.1 s.2.2.2.2.2.2.2.2.2.2.2.1=true→Qcq (fun r'=>r'=ZS (QU s)) s ((0:Nat):Int):=by
  intro hgf
  refine Za s.2.2.2.2.2.1 (fun r k=>r.all (ZU s)=s.2.2.2.2.2.1.all (ZU s)→Qcq (fun r'=>r'=ZS (QU s)) s k) ?_ ?_ rfl
  ·intro he
   refine QvM (fun r'=>r'=ZS (QU s)) s _ ⟨fun h=>by simp at h,fun _=>R_eq ?_⟩
   rw [eo.1]
   grind [QU]
  ·intro k x r hk hlt hg ih he
   have hbx:x.2.length≤9223372036854775807:=by
    have hmem:x∈s.2.2.2.2.2.1:=List.mem_of_mem_drop (i:=k) (by rw [hk];exact List.mem_cons_self)
    exact (hb.1.2.2.2.2.2.1.2 x hmem).2.1.1
   have rows:(x.2.length:Int)=Zq s→∀ (q:List (List Int)) (j:Nat),1≤j→x.2.drop j=q→j≤x.2.length→Z7 s.2.2.1 j q=ZU s x→Qd4 (fun r'=>r'=ZS (QU s)) s j k:=by
    intro hlen q
    induction q with
    | nil =>
     intro j h1 hj hle hgo
     have:x.2.length≤j:=by simpa using hj
     refine Que (fun r'=>r'=ZS (QU s)) s _ _ ⟨fun h=>?_,fun _=>?_⟩
     ·rw [Int.toNat_natCast,hg] at h;simp at h;omega
     ·rw [Qx (x:=(k:Int)+1) (by omega) (by omega)]
      refine ih ?_
      simp only [Z7] at hgo
      rw [← he,List.all_cons,← hgo,Bool.true_and]
    | cons z q ihq =>
     intro j h1 hj hle hgo
     have hjl:=Qrx hj
     have e2:=Qb1 h1 (by omega:j≤9223372036854775807)
     have hsz:=Qw4 h0.1 h1 (by omega:j≤s.2.2.1.length)
     refine Que (fun r'=>r'=ZS (QU s)) s _ _ ⟨fun _=>?_,fun h=>?_⟩
     ·rw [Int.toNat_natCast,Int.toNat_natCast,hg,Zr hj,e2.1,Qx (x:=(j:Int)+1) (by omega) (by omega)]
      rw [Z7,hsz] at hgo
      refine ⟨⟨⟨by omega,hjl⟩,fun _=>⟨⟨by omega,hjl⟩,e2.2,by omega⟩⟩,fun h=>R_eq ?_,fun h=>ihq (j+1) (by omega) (Zj hj) hjl ?_⟩
      ·have hf:ZU s x=false:=by rw [← hgo];grind [Qq]
       have:s.2.2.2.2.2.1.all (ZU s)=false:=by rw [← he,List.all_cons,hf];rfl
       simp [QU,this]
      ·rw [← hgo];grind [Qq]
     ·rw [Int.toNat_natCast,hg] at h;simp at h;omega
   refine QvM (fun r'=>r'=ZS (QU s)) s _ ⟨fun _=>?_,fun h=>by simp at h;omega⟩
   rw [Int.toNat_natCast,hg]
   have bad:ZU s x=false→false=QU s:=by
    intro hf
    have:s.2.2.2.2.2.1.all (ZU s)=false:=by rw [← he,List.all_cons,hf];rfl
    simp [QU,this]
   have ek:w64 ((s.2.2.1.length:Int)+1)=s.2.2.1.length+1:=Qx (by omega) (by omega)
   rw [ek]
   cases hx:x.2 with
   | nil =>
    refine ⟨⟨by omega,hlt⟩,⟨by simp,by simp⟩,fun _=>R_eq (bad ?_),fun h=>by simp at h⟩
    simp [ZU,hx];omega
   | cons z q =>
    have z0:gtd ([]:List Int) (z::q) (Int.toNat 0)=z:=QE1 _ _ _
    rw [z0]
    have hsz:Yx s.2.2.1 0=(gtd dOp s.2.2.1 (Int.toNat 0)).2.1:=QBQ h0.1
    rw [← hsz]
    have main:(((q.length+1:Nat):Int)==Zq s)=true→ZU s x=(Qq z (Yx s.2.2.1 0)&&Z7 s.2.2.1 1 q):=by
     intro h
     have h:((q.length+1:Nat):Int)=Zq s:=by simpa using h
     have e:(z::q).take (Zq s).toNat=z::q:=by rw [List.take_of_length_le];simp;omega
     simp only [ZU,hx,Zs,e,Z7]
     simp;omega
    refine ⟨⟨by omega,hlt⟩,⟨fun _=>by simp,fun _=>by simp⟩,fun h=>R_eq (bad ?_),fun h=>?_⟩
    ·by_cases hl:(((q.length+1:Nat):Int)==Zq s)=true
     ·rw [main hl]
      have hl:((q.length+1:Nat):Int)=Zq s:=by simpa using hl
      unfold Zq at hl
      by_cases hr:s.2.2.2.2.1=true
      ·rw [if_pos hr] at hl
       simp [hr] at h
       grind [Qq]
      ·rw [if_neg hr] at hl
       simp [hr] at h
       grind [Qq]
     ·have:(((x.2.length:Nat):Int)==Zq s)=false:=by rw [hx];simpa using hl
      simp [ZU,this]
    ·have hl:((q.length+1:Nat):Int)=Zq s:=by
      unfold Zq
      by_cases hr:s.2.2.2.2.1=true
      ·rw [if_pos hr];simp [hr] at h;omega
      ·rw [if_neg hr];simp [hr] at h;omega
     have hv:Qq z (Yx s.2.2.1 0)=true:=by simp at h;simp [Qq,h]
     refine rows (by rw [hx];simpa using hl) q 1 (Nat.le_refl _) (by rw [hx];rfl) (by rw [hx];simp) ?_
     rw [main (by simpa using hl),hv,Bool.true_and]
 refine ⟨⟨by omega,by simp;omega⟩,⟨eo.2,by rw [eo.1];omega⟩,?_⟩
 refine Za s.2.2.1 (fun r k=>Ya r (s.2.2.2.2.2.2.2.2.2.2.2.1.drop k)=Ya s.2.2.1 s.2.2.2.2.2.2.2.2.2.2.2.1→Qe8 (fun r'=>r'=ZS (QU s)) s k) ?_ ?_ rfl
 ·intro he
  refine Qm4 (fun r'=>r'=ZS (QU s)) s _ ⟨fun h=>by simp at h,fun _=>saved ?_⟩
  grind [Z3,Ya]
 ·intro k x r hk hlt hg ih he
  obtain ⟨y,q,hq⟩:∃ y q,s.2.2.2.2.2.2.2.2.2.2.2.1.drop k=y::q:=by
   cases hq:s.2.2.2.2.2.2.2.2.2.2.2.1.drop k with
   | nil=>have:=congrArg List.length hq;simp at this;omega
   | cons y q=>exact ⟨y,q,rfl⟩
  refine Qm4 (fun r'=>r'=ZS (QU s)) s _ ⟨fun _=>?_,fun h=>by simp at h;omega⟩
  rw [Int.toNat_natCast,hg,Zr hq,Qx (x:=(k:Int)+1) (by omega) (by omega)]
  rw [hq,Ya] at he
  rw [Zj hq] at ih
  refine ⟨⟨⟨by omega,by omega⟩,by omega,hlt⟩,fun h=>R_eq ?_,fun h=>ih ?_⟩
  ·grind [QU,Z3]
  ·grind
theorem Qyi:Qf Tryz.prog QgN:=Qj fun x _=>QwY x.1
end
end Go.Proofs.YtdplaepmjogjjaaGreat.Am

