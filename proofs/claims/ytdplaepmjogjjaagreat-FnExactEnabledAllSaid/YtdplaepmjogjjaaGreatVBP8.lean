/- -/
import Derived.Test.YtdplaepmjogjjaaGreatVBP1
import Derived.Test.YtdplaepmjogjjaaGreatVBP4
namespace Go.Proofs.YtdplaepmjogjjaaGreat.Am
open Go Go.RowKit Go.Proofs.YtdplaepmjogjjaaGreat
set_option linter.all false
noncomputable section
variable (K:TRes→Prop)
def Qig (t:(List TOp')):TRes:=zra (.a [(zcs ctOp t)])
def Qfy:TRow:=Qi 74 [(.a Qo)] fun x=>(none,Qig (Ys x.1))
def Qn2:TTab:=⟨[],false⟩
def Qsj:TCode :=
 (zsq [(.reg [zop 1 (.box 39 0 14),zop 2 (.new 77 [(.n ctOp)])]),(.reg [zfa 3 1 2,zld 4 3 1,zop 5 (.build [(.n ctOp)] [(0,1,4)]),zst 2 5 1]),.ret])
def QDk:List (ARv × Md):=[(.l 2 1 true,.b [.d])]
theorem QD2 (s:Qc) (h :
 K (Qig s.2.2.1)):Hold (tawp Qn2 (0+0) Qsj (TQ 0 0 QDk K) (Qg [(.a (Tup.cells Qo s))])) :=
 Hold.of (by kernel_rfl) h
theorem QyP (s:Qc):TCon Tryz.prog 74 [(.a (Tup.cells Qo s))] (Qig (Ys s)):=by
 refine Qk rfl fun hb=>tcg (Γ:=Qn2) (n:=6) (sg:=Qfy.sg) Ql TOkL.nil (by kernel_rfl) (by kernel_rfl) (QD2 _ s ?_)
 have hl_s_1:(s.2.1).length≤9223372036854775807:=hb.1.2.1.1
 have hl_s_2:(s.2.2.1).length≤9223372036854775807:=hb.1.2.2.1.1
 have hl_s_5:(s.2.2.2.2.2.1).length≤9223372036854775807:=hb.1.2.2.2.2.2.1.1
 have hl_s_6:(s.2.2.2.2.2.2.1).length≤9223372036854775807:=hb.1.2.2.2.2.2.2.1.1
 have hl_s_7:(s.2.2.2.2.2.2.2.1).length≤9223372036854775807:=hb.1.2.2.2.2.2.2.2.1.1
 have hl_s_8:(s.2.2.2.2.2.2.2.2.1).length≤9223372036854775807:=hb.1.2.2.2.2.2.2.2.2.1.1
 have hl_s_9:(s.2.2.2.2.2.2.2.2.2.1).length≤9223372036854775807:=hb.1.2.2.2.2.2.2.2.2.2.1.1
 have hl_s_10:(s.2.2.2.2.2.2.2.2.2.2.1).length≤9223372036854775807:=hb.1.2.2.2.2.2.2.2.2.2.2.1.1
 have hl_s_11:(s.2.2.2.2.2.2.2.2.2.2.2.1).length≤9223372036854775807:=hb.1.2.2.2.2.2.2.2.2.2.2.2.1.1
 exact R_eq rfl
theorem QCE:Qj Tryz.prog Qfy:=Qn fun x _=>QyP x.1
def Jw (t:Bool):TRes:=zre (zcb t)
def Qh1:TRow:=Qi 168 [(.a [(.sl ctOp)]),(.c (.sl [(.sl [TI])]))] fun x=>(none,Jw (Zv x.1 x.2.1))
def QdY:TTab:=⟨[],false⟩
def QmG:TCode :=
 (zsq [(.reg [zbi 17 .lss 16 15]),(.cond 17 .skip (.exit 0)),(.block 1 (zsq [(.reg [zmv 18 16,zia 19 14 16 ctOp,zLd 20 19 4,zop 6 (.new 134 (z0s ctOp)),zmv 5 18,zst 6 20 4]),(.draw [zmv 21 1,zmv 22 5,zia 23 21 22 [(.sl [TI])],zfa 24 23 0,zld 25 24 1,zle 26 25,zfa 27 6 3,zld 28 27 1,zle 29 28,zbi 30 .neq 26 29] []),(.cond 30 (zsq [(.reg [zmv 4 (zkb false)]),.ret]) .skip)])),(.reg [zbi 31 .add 16 (zki 1),zmv 16 31])])
def Qrl:List (Nat × Md):=zdl [1,14,15,16]
def Qk5:TCode :=
 (zsq [(.reg [zmv 4 (zkb true)]),.ret])
def QtS:TCode :=
 (zsq [(.reg [zop 2 (.box 77 0 1),zmv 4 (zkb false)]),(zsq [(.reg [zmv 7 1,zle 8 7,zfa 9 2 0,zld 10 9 1,zle 11 10,zbi 12 .neq 8 11]),(.cond 12 (zsq [(.reg [zmv 4 (zkb false)]),.ret]) .skip)]),(zsq [(.reg [zfa 13 2 0,zld 14 13 1,zle 15 14,zmv 16 (zki 0)]),(.block 0 (.loop Qrl QmG))]),Qk5])
def Qnn:List (ARv × Md):=[(.t 4,.one .d)]
def Qky:Qb:=TQ 0 0 Qnn K
def QyC:Qb:=Qseq (tawp QdY 0 Qk5 (Qky K)) (Qky K)
def Qzv:Qb:=Qblk 0 (QyC K)
def Qei (m:List TOp') (rows:List (List Int)) (x:Int):Prop:=Loop QdY 0 Qrl QmG (Qzv K) ⟨[(1,(zcs [(.sl [TI])] rows)),(14,(zcs ctOp m)),(15,(zci (m.length:Int))),(16,(zci x))],[],0⟩
theorem QmI (m:List TOp') (rows:List (List Int)) (x:Int) (h :
 (zif (decide (x<(m.length:Int))) (((0:Int)≤x∧Int.toNat x<m.length)∧(((0:Int)≤x∧Int.toNat x<rows.length)∧(zif (((gtd ([]:List Int) rows (Int.toNat x)).length:Int) != (((gtd dOp m (Int.toNat x)).2.2.2).length:Int)) (K (Jw false)) (Qei K m rows (w64 (x+(1:Int))))))) (K (Jw true)))):Qei K m rows x :=
 Loop.of (by kernel_rfl) h
theorem QEd (m:List TOp') (rows:List (List Int)) (h :
 (zif ((rows.length:Int) != (m.length:Int)) (K (Jw false)) (Qei K m rows 0))):Hold (tawp QdY (0+0) QtS (TQ 0 0 Qnn K) (Qg [(.a [(.c (.sl ctOp) m)]),(.c (.sl [(.sl [TI])]) rows)])) :=
 Hold.of (by kernel_rfl) h
theorem Qv0 (m:List TOp') (rows:List (List Int)):TCon Tryz.prog 168 [(.a [(.c (.sl ctOp) m)]),(.c (.sl [(.sl [TI])]) rows)] (Jw (Zv m rows)):=by
 refine Qk rfl fun hb=>tcg (Γ:=QdY) (n:=32) (sg:=Qh1.sg) Ql TOkL.nil (by kernel_rfl) (by kernel_rfl) (QEd _ m rows ?_)
 have hl_m_0:(m).length≤9223372036854775807:=hb.1.1.1
 have hl_rows:rows.length≤9223372036854775807:=hb.2.1.1
 refine ⟨fun h=>R_eq (by grind [Zv]),fun h=>?_⟩
 have hl:rows.length=m.length:=by
  have:((rows.length:Int)==(m.length:Int))=true:=by simpa [bne] using h
  have:=of_decide_eq_true (by simpa using this:decide ((rows.length:Int)=m.length)=true)
  omega
 refine Zp m (fun r k=>Yt r (rows.drop k)=Yt m rows→Qei (fun r'=>r'=Jw (Zv m rows)) m rows k) ?_ ?_ rfl
 ·intro he
  refine QmI (fun r'=>r'=Jw (Zv m rows)) m rows _ ⟨fun h=>by simp at h,fun _=>R_eq ?_⟩
  grind [Zv,Yt]
 ·intro k x r hk hlt hg ih he
  obtain ⟨y,q,hq⟩:∃ y q,rows.drop k=y::q:=by
   cases hq:rows.drop k with
   | nil=>have:=congrArg List.length hq;simp at this;omega
   | cons y q=>exact ⟨y,q,rfl⟩
  refine QmI (fun r'=>r'=Jw (Zv m rows)) m rows _ ⟨fun _=>?_,fun h=>by simp at h;omega⟩
  rw [Int.toNat_natCast,hg,Jh hq,Qw (x:=(k:Int)+1) (by omega) (by omega)]
  rw [hq,Yt] at he
  rw [Jm hq] at ih
  refine ⟨⟨by omega,hlt⟩,⟨by omega,by omega⟩,fun h=>R_eq ?_,fun h=>ih ?_⟩
  ·grind [Zv]
  ·grind
theorem Qyo:Qj Tryz.prog Qh1:=Qn fun x _=>Qv0 x.1 x.2.1
def YS (t:Bool):TRes:=zre (zcb t)
def Qgl:TRow:=Qi 110 [(.c (.sl ctOp)),(.c (.sl [(.sl [TI])])),(.c TI)] fun x=>(some (Qh6 x.1 x.2.1 x.2.2.1),YS (Z2 x.1 x.2.1 x.2.2.1))
def Qab:TTab:=⟨[QeT],false⟩
def Qqi:TCode :=
 (zsq [(.reg [zmv 30 1,zmv 31 7,zia 32 30 31 [(.sl [TI])],zfa 33 32 0,zld 34 33 1,zmv 35 8,zca 36 100 [34,35],zno 37 36]),(.cond 37 (zsq [(.reg [zmv 6 (zkb false)]),.ret]) .skip)])
def QFk:List (Nat × Md):=zdl [0,1,2,7,8]
def QEJ:TCode:=.wk QFk Qqi
def Qk8:TCode :=
 (.reg [zmv 12 7,zbi 13 .add 12 (zki 1),zmv 7 13])
def Qhs:TCode :=
 (zsq [(zsq [(.reg [zmv 9 7,zmv 10 2,zbi 11 .lss 9 10]),(.cond 11 .skip (.exit 0))]),(.block 1 (zsq [(.reg [zmv 14 0,zmv 15 0,zle 16 15,zbi 17 .sub 16 (zki 1),zia 18 14 17 ctOp,zfa 19 18 2,zld 20 19 1,zmv 8 20]),(zsq [(.reg [zmv 21 7,zmv 22 0,zle 23 22,zbi 24 .lss 21 23]),(.cond 24 (.reg [zmv 25 0,zmv 26 7,zia 27 25 26 ctOp,zfa 28 27 1,zld 29 28 1,zmv 8 29]) .skip)]),QEJ])),Qk8])
def QeM:List (Nat × Md):=zdl [0,1,2,7]
def QmY:TCode :=
 (zsq [(.reg [zmv 6 (zkb true)]),.ret])
def QCL:TCode :=
 (zsq [(.reg [zmv 6 (zkb false)]),(zsq [(.reg [zmv 7 (zki 0)]),(.block 0 (.loop QeM Qhs))]),QmY])
def QoF:List (ARv × Md):=[(.t 6,.one .d)]
def Qlm:Qb:=TQ 0 0 QoF K
def Qzn:Qb:=Qseq (tawp Qab 0 QmY (Qlm K)) (Qlm K)
def QiA:Qb:=Qblk 0 (Qzn K)
def Qk3:Qb:=Qseq (fun s'=>Loop Qab 0 QeM Qhs (QiA K) (gc 0 QeM s')) (QiA K)
def QtD:Qb:=Qseq (tawp Qab 0 Qk8 (Qk3 K)) (Qk3 K)
def QyK:Qb:=Qblk 1 (QtD K)
@[irreducible] def Qec (ops:List TOp') (rows:List (List Int)) (n:Int) (size:Int) (i:Int):Prop:=tawp Qab 0 Qqi (QyK K) ⟨[(0,(zcs ctOp ops)),(1,(zcs [(.sl [TI])] rows)),(2,(zci n)),(7,(zci i)),(8,(zci size))],[],0⟩
def Qdg (ops:List TOp') (rows:List (List Int)) (n:Int) (i:Int):Prop:=Loop Qab 0 QeM Qhs (QiA K) ⟨[(0,(zcs ctOp ops)),(1,(zcs [(.sl [TI])] rows)),(2,(zci n)),(7,(zci i))],[],0⟩
theorem Qyi (ops:List TOp') (rows:List (List Int)) (n:Int) (size:Int) (i:Int) (h :
 (((0:Int)≤i∧Int.toNat i<rows.length)∧(zif (!(Q2 (gtd ([]:List Int) rows (Int.toNat i)) size)) (K (YS false)) (Qdg K ops rows n (w64 (i+(1:Int))))))):Hold (Qec K ops rows n size i) :=
 Hold.of (by kernel_rfl) h
theorem QrX (ops:List TOp') (rows:List (List Int)) (n:Int) (i:Int) (h :
 (zif (decide (i<n)) (((0:Int)≤w64 ((ops.length:Int)-(1:Int))∧Int.toNat (w64 ((ops.length:Int)-(1:Int)))<ops.length)∧(zif (decide (i<(ops.length:Int))) (((0:Int)≤i∧Int.toNat i<ops.length)∧(Qec K ops rows n ((gtd dOp ops (Int.toNat i)).2.1) i)) (Qec K ops rows n ((gtd dOp ops (Int.toNat (w64 ((ops.length:Int)-(1:Int))))).2.2.1) i))) (K (YS true)))):Qdg K ops rows n i :=
 Loop.of (by kernel_rfl) h
theorem QDG (ops:List TOp') (rows:List (List Int)) (n:Int) (h :
 (Qdg K ops rows n 0)):Hold (tawp Qab (0+0) QCL (TQ 0 0 QoF K) (Qg [(.c (.sl ctOp) ops),(.c (.sl [(.sl [TI])]) rows),(.c TI n)])) :=
 Hold.of (by kernel_rfl) h
theorem Qty (ops:List TOp') (rows:List (List Int)) (n:Int) (hp:Qh6 ops rows n):TCon Tryz.prog 110 [(.c (.sl ctOp) ops),(.c (.sl [(.sl [TI])]) rows),(.c TI n)] (YS (Z2 ops rows n)):=by
 refine Qk rfl fun hb=>tcg (Γ:=Qab) (n:=38) (sg:=Qgl.sg) Ql (TOkL.cons Qkh TOkL.nil) (by kernel_rfl) (by kernel_rfl) (QDG _ ops rows n ?_)
 have hl_ops:ops.length≤9223372036854775807:=hb.1.1
 have hl_rows:rows.length≤9223372036854775807:=hb.2.1.1
 have:=Qt6 rows 0 n (Int.le_refl 0) hp.2.1 hp.2.2 (fun r k=>Yg ops k r=(Z2 ops rows n)→Qdg (fun r'=>r'=YS (Z2 ops rows n)) ops rows n k) ?_ ?_ (by simp [Z2,slice])
 ·exact this
 ·intro he
  refine QrX (fun r'=>r'=YS (Z2 ops rows n)) ops rows n _ ⟨fun h=>by simp at h;omega,fun _=>R_eq ?_⟩
  simpa [Yg] using he
 ·intro k x r h1 h2 hlt hg ih he
  have e:=JJ hp.1 hl_ops
  have key:Qec (fun r'=>r'=YS (Z2 ops rows n)) ops rows n (Z3 ops k) k:=by
   refine (Qyi (fun r'=>r'=YS (Z2 ops rows n)) ops rows n _ _ ?_).h
   rw [Int.toNat_natCast,hg,Qw (x:=(k:Int)+1) (by omega) (by omega)]
   rw [Yg] at he
   refine ⟨⟨by omega,hlt⟩,fun h=>R_eq ?_,fun h=>ih ?_⟩ <;> grind
  refine QrX (fun r'=>r'=YS (Z2 ops rows n)) ops rows n _ ⟨fun _=>?_,fun h=>by simp at h;omega⟩
  rw [e.1,Int.toNat_natCast]
  refine ⟨⟨e.2,by have:=hp.1;omega⟩,fun h=>⟨⟨by omega,by simpa using h⟩,?_⟩,fun h=>?_⟩
  ·rw [Z3,if_pos (by simpa using h)] at key;exact key
  ·rw [Z3,if_neg (by simpa using h)] at key;exact key
theorem QxF:Qj Tryz.prog Qgl:=Qn fun x h=>Qty x.1 x.2.1 x.2.2.1 h
def Yb (t:Bool):TRes:=zre (zcb t)
def Qia:TRow:=Qi 72 [(.a Qo)] fun x=>(none,Yb (QM x.1))
def Qcm:TTab:=⟨[Qfy,QbQ,Qh1,Qgl,Qis,QgW,Qie],false⟩
def Qql:TCode :=
 (zsq [(.reg [zbi 45 .lss 44 43]),(.cond 45 .skip (.exit 0)),(.block 1 (zsq [(.reg [zia 46 42 44 QB,zLd 47 46 2,zop 6 (.new 108 (z0s QB)),zst 6 47 2]),(.reg [zfa 48 6 1,zld 49 48 1,zle 50 49,zmv 51 4,zbi 52 .neq 50 51,zmv 53 52,.grp 53 false [zfa 54 1 2,zld 55 54 1,zfa 56 6 1,zld 57 56 1,zmv 58 4,zca 59 110 [55,57,58],zno 60 59] 61 60]),(.cond 61 (zsq [(.reg [zmv 2 (zkb false)]),.ret]) .skip)])),(.reg [zbi 62 .add 44 (zki 1),zmv 44 62])])
def Qrk:List (Nat × Md):=[(1,.b (zds 14)),(3,.b [.d]),(4,.one .d),(42,.one .d),(43,.one .d),(44,.one .d)]
def Qjy:TCode :=
 (zsq [(.draw [zLd 63 3 1,zca 64 101 [63],zLd 65 3 1,zca 66 102 [65],zmv 7 64,zmv 8 66] [(1,2)]),(.reg [zfa 67 1 7,zld 68 67 1,zmv 69 7,zca 70 169 [68,69],zmv 71 70,.grp 71 true [zfa 72 1 10,zld 73 72 1,zmv 74 7,zca 75 169 [73,74]] 76 75,zmv 77 76,.grp 77 true [zfa 78 1 8,zld 79 78 1,zmv 80 8,zca 81 169 [79,80]] 82 81,zmv 83 82,.grp 83 true [zfa 84 1 9,zld 85 84 1,zmv 86 8,zca 87 169 [85,86]] 88 87,zmv 2 88]),.ret])
def Qkc:TCode :=
 (zsq [(zsq [(.reg [zfa 41 1 5,zld 42 41 1,zle 43 42,zmv 44 (zki 0)]),(.block 0 (.loop Qrk Qql))]),Qjy])
def Qyx:List (Nat × Md):=[(1,.b (zds 14)),(3,.b [.d]),(4,.one .d)]
def QCT:TCode:=.wk Qyx Qkc
def QFo:TCode :=
 (zsq [(.reg [zop 1 (.box 39 0 14),zmv 2 (zkb false)]),(.reg [zLd 9 1 14,zca 10 74 [9],zop 3 (.new 77 [(.n ctOp)]),zst 3 10 1]),(zsq [(.reg [zLd 11 3 1,zca 12 167 [11],zno 13 12,zmv 14 13,.grp 14 false [zfa 15 1 0,zld 16 15 1,zbi 17 .lss 16 (zki 0)] 18 17,zmv 19 18,.grp 19 false [zfa 20 1 0,zld 21 20 1,zfa 22 1 1,zld 23 22 1,zle 24 23,zbi 25 .gtr 21 24] 26 25,zmv 27 26,.grp 27 false [zLd 28 3 1,zfa 29 1 11,zfa 30 29 0,zld 31 30 1,zca 32 168 [28,31],zno 33 32] 34 33]),(.cond 34 (zsq [(.reg [zmv 2 (zkb false)]),.ret]) .skip)]),(.reg [zfa 35 1 2,zld 36 35 1,zle 37 36,zbi 38 .add 37 (zki 1),zmv 4 38]),(zsq [(.reg [zfa 39 1 4,zld 40 39 1]),(.cond 40 (.reg [zmv 4 (zki 1)]) .skip)]),QCT])
def Qmr:List (ARv × Md):=[(.t 2,.one .d)]
def Qg0:Qb:=TQ 0 0 Qmr K
def Qyb:Qb:=Qseq (tawp Qcm 0 Qjy (Qg0 K)) (Qg0 K)
def QCH:Qb:=Qblk 0 (Qyb K)
def QbS (s:Qc) (kept:Int) (x:Int):Prop:=Loop Qcm 0 Qrk Qql (QCH K) ⟨[(1,(.p 0 0 0)),(3,(.p 1 0 0)),(4,(zci kept)),(42,(zcs QB s.2.2.2.2.2.1)),(43,(zci ((s.2.2.2.2.2.1).length:Int))),(44,(zci x))],[(0,(.box (Tup.cells Qo s))),(1,(.box [(zcs ctOp (Ys s))]))],2⟩
@[irreducible] def QhV (s:Qc) (kept:Int):Prop:=tawp Qcm 0 Qkc (Qg0 K) ⟨[(1,(.p 0 0 0)),(3,(.p 1 0 0)),(4,(zci kept))],[(0,(.box (Tup.cells Qo s))),(1,(.box [(zcs ctOp (Ys s))]))],2⟩
theorem QoU (s:Qc) (kept:Int) (x:Int) (h :
 (zif (decide (x<((s.2.2.2.2.2.1).length:Int))) (((0:Int)≤x∧Int.toNat x<(s.2.2.2.2.2.1).length)∧(((!((((gtd QV s.2.2.2.2.2.1 (Int.toNat x)).2).length:Int) != kept))=true→(Qh6 s.2.2.1 ((gtd QV s.2.2.2.2.2.1 (Int.toNat x)).2) kept))∧(zif (((((gtd QV s.2.2.2.2.2.1 (Int.toNat x)).2).length:Int) != kept)||(!(Z2 s.2.2.1 ((gtd QV s.2.2.2.2.2.1 (Int.toNat x)).2) kept))) (K (Yb false)) (QbS K s kept (w64 (x+(1:Int))))))) (K (Yb ((((Zi s.2.2.2.2.2.2.2.1 (Z9 (Ys s)))&&(Zi s.2.2.2.2.2.2.2.2.2.2.1 (Z9 (Ys s))))&&(Zi s.2.2.2.2.2.2.2.2.1 (Z8 (Ys s))))&&(Zi s.2.2.2.2.2.2.2.2.2.1 (Z8 (Ys s)))))))):QbS K s kept x :=
 Loop.of (by kernel_rfl) h
theorem Qq0 (s:Qc) (kept:Int) (h :
 (QbS K s kept 0)):Hold (QhV K s kept) :=
 Hold.of (by kernel_rfl) h
theorem Qua (s:Qc) (h :
 (zif ((((!(QL (Ys s)))||(decide (s.1<(0:Int))))||(decide (s.1>((s.2.1).length:Int))))||(!(Zv (Ys s) s.2.2.2.2.2.2.2.2.2.2.2.1))) (K (Yb false)) (zif s.2.2.2.2.1 (QhV K s 1) (QhV K s (w64 (((s.2.2.1).length:Int)+(1:Int))))))):Hold (tawp Qcm (0+0) QFo (TQ 0 0 Qmr K) (Qg [(.a (Tup.cells Qo s))])) :=
 Hold.of (by kernel_rfl) h
theorem Qwz (s:Qc):TCon Tryz.prog 72 [(.a (Tup.cells Qo s))] (Yb (QM s)):=by
 refine Qk rfl fun hb=>tcg (Γ:=Qcm) (n:=89) (sg:=Qia.sg) Ql (TOkL.cons QCE (TOkL.cons QfT (TOkL.cons Qyo (TOkL.cons QxF (TOkL.cons QyX (TOkL.cons QwK (TOkL.cons Qyh TOkL.nil))))))) (by kernel_rfl) (by kernel_rfl) (Qua _ s ?_)
 have hl_s_1:(s.2.1).length≤9223372036854775807:=hb.1.2.1.1
 have hl_s_2:(s.2.2.1).length≤9223372036854775807:=hb.1.2.2.1.1
 have hl_s_5:(s.2.2.2.2.2.1).length≤9223372036854775807:=hb.1.2.2.2.2.2.1.1
 have hl_s_6:(s.2.2.2.2.2.2.1).length≤9223372036854775807:=hb.1.2.2.2.2.2.2.1.1
 have hl_s_7:(s.2.2.2.2.2.2.2.1).length≤9223372036854775807:=hb.1.2.2.2.2.2.2.2.1.1
 have hl_s_8:(s.2.2.2.2.2.2.2.2.1).length≤9223372036854775807:=hb.1.2.2.2.2.2.2.2.2.1.1
 have hl_s_9:(s.2.2.2.2.2.2.2.2.2.1).length≤9223372036854775807:=hb.1.2.2.2.2.2.2.2.2.2.1.1
 have hl_s_10:(s.2.2.2.2.2.2.2.2.2.2.1).length≤9223372036854775807:=hb.1.2.2.2.2.2.2.2.2.2.2.1.1
 have hl_s_11:(s.2.2.2.2.2.2.2.2.2.2.2.1).length≤9223372036854775807:=hb.1.2.2.2.2.2.2.2.2.2.2.2.1.1
 refine ⟨fun h=>R_eq (by grind [QM,m_in]),fun h=>?_⟩
 have h0:QL s.2.2.1=true∧m_in s.1 0 s.2.1.length=true∧Zv s.2.2.1 s.2.2.2.2.2.2.2.2.2.2.2.1=true:=by grind [m_in]
 have hm:=Qb0 h0.1
 have hk:1≤Q0 s∧Q0 s≤9:=by unfold Q0;split <;> omega
 have key:QbS (fun r'=>r'=Yb (QM s)) s (Q0 s) ((0:Nat):Int):=by
  refine Zp s.2.2.2.2.2.1 (fun r k=>r.all (Zr s)=s.2.2.2.2.2.1.all (Zr s)→QbS (fun r'=>r'=Yb (QM s)) s (Q0 s) k) ?_ ?_ rfl
  ·intro he
   refine QoU (fun r'=>r'=Yb (QM s)) s _ _ ⟨fun h=>by simp at h,fun _=>R_eq ?_⟩
   grind [QM]
  ·intro k x r hk2 hlt hg ih he
   refine QoU (fun r'=>r'=Yb (QM s)) s _ _ ⟨fun _=>?_,fun h=>by simp at h;omega⟩
   rw [Int.toNat_natCast,hg,Qw (x:=(k:Int)+1) (by omega) (by omega)]
   refine ⟨⟨by omega,hlt⟩,fun h=>?_,fun h=>R_eq ?_,fun h=>ih ?_⟩
   ·have:(x.2.length:Int)=Q0 s:=by simpa using h
    exact ⟨hm.1,by omega,by omega⟩
   ·grind [QM,Zr]
   ·grind [Zr]
 refine ⟨fun h1=>?_,fun h1=>?_⟩
 ·have e:Q0 s=1:=by simp [Q0,h1]
  rw [e] at key
  exact (Qq0 (fun r'=>r'=Yb (QM s)) s _ key).h
 ·have e:Q0 s=s.2.2.1.length+1:=by simp [Q0,h1]
  rw [Qw (x:=(s.2.2.1.length:Int)+1) (by omega) (by omega)]
  rw [e] at key
  exact (Qq0 (fun r'=>r'=Yb (QM s)) s _ key).h
theorem QC8:Qj Tryz.prog Qia:=Qn fun x _=>Qwz x.1
def Zl (t:Bool):TRes:=zre (zcb t)
def QgI:TRow:=Qi 63 [(.a Qo)] fun x=>(none,Zl (QM x.1))
def YL:TTab:=⟨[QfD,ZP,Qbd,Qfe],false⟩
def QmR:TCode :=
 (zsq [(zsq [(.reg [zmv 47 5,zfa 48 1 2,zld 49 48 1,zle 50 49,zbi 51 .lss 47 50]),(.cond 51 .skip (.exit 0))]),(.block 1 (zsq [(.draw [zfa 54 1 11,zfa 55 54 0,zld 56 55 1,zmv 57 5,zia 58 56 57 [(.sl [TI])],zfa 59 58 0,zld 60 59 1,zle 61 60,zfa 62 1 2,zld 63 62 1,zmv 64 5,zia 65 63 64 ctOp,zfa 66 65 3,zld 67 66 1,zle 68 67,zbi 69 .neq 61 68] []),(.cond 69 (zsq [(.reg [zmv 2 (zkb false)]),.ret]) .skip)])),(.reg [zmv 52 5,zbi 53 .add 52 (zki 1),zmv 5 53])])
def Ql1:List (Nat × Md):=[(1,.b (zds 14)),(3,.one .d),(4,.one .d),(5,.one .d)]
def QjA:TCode :=
 (zsq [(zsq [(.reg [zmv 126 8,zmv 127 7,zle 128 127,zbi 129 .lss 126 128]),(.cond 129 .skip (.exit 4))]),(.block 5 (zsq [(.draw [zmv 132 7,zmv 133 8,zia 134 132 133 [(.sl [TI])],zfa 135 134 0,zld 136 135 1,zca 137 97 [136],zno 138 137,zmv 139 138,.grp 139 false [zmv 140 7,zmv 141 8,zia 142 140 141 [(.sl [TI])],zfa 143 142 0,zld 144 143 1,zle 145 144,zfa 146 1 2,zld 147 146 1,zmv 148 8,zbi 149 .sub 148 (zki 1),zia 150 147 149 ctOp,zfa 151 150 2,zld 152 151 1,zbi 153 .neq 145 152] 154 153] []),(.cond 154 (zsq [(.reg [zmv 2 (zkb false)]),.ret]) .skip)])),(.reg [zmv 130 8,zbi 131 .add 130 (zki 1),zmv 8 131])])
def Qns:List (Nat × Md):=[(1,.b (zds 14)),(3,.one .d),(4,.one .d),(6,.one .d),(7,.one .d),(8,.one .d)]
def Qnd:TCode :=
 (.reg [zmv 75 6,zbi 76 .add 75 (zki 1),zmv 6 76])
def Qhg:TCode :=
 (zsq [(zsq [(.reg [zmv 70 6,zfa 71 1 5,zld 72 71 1,zle 73 72,zbi 74 .lss 70 73]),(.cond 74 .skip (.exit 2))]),(.block 3 (zsq [(.reg [zfa 77 1 5,zld 78 77 1,zmv 79 6,zia 80 78 79 QB,zfa 81 80 1,zld 82 81 1,zmv 7 82]),(zsq [(.reg [zmv 83 7,zle 84 83,zbi 85 .eql 84 (zki 0),zmv 86 85,.grp 86 false [zmv 87 7,zia 88 87 (zki 0) [(.sl [TI])],zfa 89 88 0,zld 90 89 1,zca 91 97 [90],zno 92 91] 93 92,zmv 94 93,.grp 94 false [zmv 95 7,zia 96 95 (zki 0) [(.sl [TI])],zfa 97 96 0,zld 98 97 1,zle 99 98,zmv 100 3,zbi 101 .neq 99 100] 102 101,zmv 103 102,.grp 103 false [zfa 104 1 4,zld 105 104 1,zno 106 105,zmv 107 106,.grp 107 true [zmv 108 7,zle 109 108,zfa 110 1 2,zld 111 110 1,zle 112 111,zbi 113 .add 112 (zki 1),zbi 114 .neq 109 113] 115 114] 116 115,zmv 117 116,.grp 117 false [zfa 118 1 4,zld 119 118 1,zmv 120 119,.grp 120 true [zmv 121 7,zle 122 121,zbi 123 .neq 122 (zki 1)] 124 123] 125 124]),(.cond 125 (zsq [(.reg [zmv 2 (zkb false)]),.ret]) .skip)]),(.reg [zmv 8 (zki 1)]),(.block 4 (.loop Qns QjA))])),Qnd])
def Qdu:List (Nat × Md):=[(1,.b (zds 14)),(3,.one .d),(4,.one .d),(6,.one .d)]
def QjC:TCode :=
 (zsq [(.reg [zfa 155 1 7,zld 156 155 1,zmv 157 3,zca 158 159 [156,157],zmv 159 158,.grp 159 true [zfa 160 1 8,zld 161 160 1,zmv 162 4,zca 163 159 [161,162]] 164 163,zmv 165 164,.grp 165 true [zfa 166 1 9,zld 167 166 1,zmv 168 4,zca 169 159 [167,168]] 170 169,zmv 171 170,.grp 171 true [zfa 172 1 10,zld 173 172 1,zmv 174 3,zca 175 159 [173,174]] 176 175,zmv 2 176]),.ret])
def QpI:TCode :=
 (zsq [(zsq [(.reg [zmv 6 (zki 0)]),(.block 2 (.loop Qdu Qhg))]),QjC])
def QB4:TCode :=
 (zsq [(.reg [zop 1 (.box 39 0 14),zmv 2 (zkb false)]),(zsq [(.reg [zfa 9 1 2,zld 10 9 1,zop 11 (.build [(.n ctOp)] [(0,1,10)]),zca 12 157 [11],zno 13 12,zmv 14 13,.grp 14 false [zfa 15 1 0,zld 16 15 1,zfa 17 1 1,zld 18 17 1,zle 19 18,zca 20 158 [16,(zki 0),19],zno 21 20] 22 21,zmv 23 22,.grp 23 false [zfa 24 1 11,zfa 25 24 0,zld 26 25 1,zle 27 26,zfa 28 1 2,zld 29 28 1,zle 30 29,zbi 31 .neq 27 30] 32 31]),(.cond 32 (zsq [(.reg [zmv 2 (zkb false)]),.ret]) .skip)]),(.reg [zfa 33 1 2,zld 34 33 1,zia 35 34 (zki 0) ctOp,zfa 36 35 1,zld 37 36 1,zmv 3 37]),(.reg [zfa 38 1 2,zld 39 38 1,zfa 40 1 2,zld 41 40 1,zle 42 41,zbi 43 .sub 42 (zki 1),zia 44 39 43 ctOp,zfa 45 44 2,zld 46 45 1,zmv 4 46]),(zsq [(.reg [zmv 5 (zki 0)]),(.block 0 (.loop Ql1 QmR))]),QpI])
def Qm7:List (ARv × Md):=[(.t 2,.one .d)]
def Qdt:Qb:=TQ 0 0 Qm7 K
def QvQ:Qb:=Qseq (tawp YL 0 QjC (Qdt K)) (Qdt K)
def Qhn:Qb:=Qblk 2 (QvQ K)
def Qpv:Qb:=Qseq (fun s'=>Loop YL 0 Qdu Qhg (Qhn K) (gc 0 Qdu s')) (Qhn K)
def QDe:Qb:=Qseq (tawp YL 0 Qnd (Qpv K)) (Qpv K)
def QtR:Qb:=Qblk 3 (QDe K)
def QuB:Qb:=Qblk 4 (QtR K)
def QcG (s:Qc) (k:Int) (i1:Int):Prop:=Loop YL 0 Qns QjA (QuB K) ⟨[(1,(.p 0 0 0)),(3,(zci ((gtd dOp s.2.2.1 (Int.toNat (0:Int))).2.1))),(4,(zci ((gtd dOp s.2.2.1 (Int.toNat (w64 (((s.2.2.1).length:Int)-(1:Int))))).2.2.1))),(6,(zci i1)),(7,(zcs [(.sl [TI])] ((gtd QV s.2.2.2.2.2.1 (Int.toNat i1)).2))),(8,(zci k))],[(0,(.box (Tup.cells Qo s)))],1⟩
def Qbt (s:Qc) (i1:Int):Prop:=Loop YL 0 Qdu Qhg (Qhn K) ⟨[(1,(.p 0 0 0)),(3,(zci ((gtd dOp s.2.2.1 (Int.toNat (0:Int))).2.1))),(4,(zci ((gtd dOp s.2.2.1 (Int.toNat (w64 (((s.2.2.1).length:Int)-(1:Int))))).2.2.1))),(6,(zci i1))],[(0,(.box (Tup.cells Qo s)))],1⟩
def QCj:Qb:=Qseq (tawp YL 0 QpI (Qdt K)) (Qdt K)
def Qyv:Qb:=Qblk 0 (QCj K)
def QdC (s:Qc) (i:Int):Prop:=Loop YL 0 Ql1 QmR (Qyv K) ⟨[(1,(.p 0 0 0)),(3,(zci ((gtd dOp s.2.2.1 (Int.toNat (0:Int))).2.1))),(4,(zci ((gtd dOp s.2.2.1 (Int.toNat (w64 (((s.2.2.1).length:Int)-(1:Int))))).2.2.1))),(5,(zci i))],[(0,(.box (Tup.cells Qo s)))],1⟩
theorem Qmf (s:Qc) (k:Int) (i1:Int) (h :
 (zif (decide (k<(((gtd QV s.2.2.2.2.2.1 (Int.toNat i1)).2).length:Int))) ((((0:Int)≤k∧Int.toNat k<((gtd QV s.2.2.2.2.2.1 (Int.toNat i1)).2).length)∧((!(!(QS (gtd ([]:List Int) ((gtd QV s.2.2.2.2.2.1 (Int.toNat i1)).2) (Int.toNat k)))))=true→(((0:Int)≤k∧Int.toNat k<((gtd QV s.2.2.2.2.2.1 (Int.toNat i1)).2).length)∧((0:Int)≤w64 (k-(1:Int))∧Int.toNat (w64 (k-(1:Int)))<(s.2.2.1).length))))∧(zif ((!(QS (gtd ([]:List Int) ((gtd QV s.2.2.2.2.2.1 (Int.toNat i1)).2) (Int.toNat k))))||(((gtd ([]:List Int) ((gtd QV s.2.2.2.2.2.1 (Int.toNat i1)).2) (Int.toNat k)).length:Int) != ((gtd dOp s.2.2.1 (Int.toNat (w64 (k-(1:Int))))).2.2.1))) (K (Zl false)) (QcG K s (w64 (k+(1:Int))) i1))) (Qbt K s (w64 (i1+(1:Int)))))):QcG K s k i1 :=
 Loop.of (by kernel_rfl) h
theorem Qn3 (s:Qc) (i1:Int) (h :
 let z1:=gtd QV s.2.2.2.2.2.1 (Int.toNat i1)
 let z2:=gtd ([]:List Int) (z1.2) (Int.toNat (0:Int))
 let z3:=gtd dOp s.2.2.1 (Int.toNat (0:Int))
 let z4:=gtd dOp s.2.2.1 (Int.toNat (w64 (((s.2.2.1).length:Int)-(1:Int))))
 (zif (decide (i1<((s.2.2.2.2.2.1).length:Int))) (((0:Int)≤i1∧Int.toNat i1<(s.2.2.2.2.2.1).length)∧((((!(((z1.2).length:Int)==(0:Int)))=true→((0:Int)≤(0:Int)∧Int.toNat (0:Int)<(z1.2).length))∧((!((((z1.2).length:Int)==(0:Int))||(!(QS z2))))=true→((0:Int)≤(0:Int)∧Int.toNat (0:Int)<(z1.2).length)))∧(zif (((((((z1.2).length:Int)==(0:Int))||(!(QS z2)))||((z2.length:Int) != (z3.2.1)))||((!s.2.2.2.2.1)&&(((z1.2).length:Int) != (w64 (((s.2.2.1).length:Int)+(1:Int))))))||(s.2.2.2.2.1&&(((z1.2).length:Int) != (1:Int)))) (K (Zl false)) (QcG K s 1 i1)))) (K (Zl ((((Zi s.2.2.2.2.2.2.2.1 (z3.2.1))&&(Zi s.2.2.2.2.2.2.2.2.1 (z4.2.2.1)))&&(Zi s.2.2.2.2.2.2.2.2.2.1 (z4.2.2.1)))&&(Zi s.2.2.2.2.2.2.2.2.2.2.1 (z3.2.1))))))):Qbt K s i1 :=
 Loop.of (by kernel_rfl) h
theorem Qka (s:Qc) (i:Int) (h :
 (zif (decide (i<((s.2.2.1).length:Int))) ((((0:Int)≤i∧Int.toNat i<(s.2.2.2.2.2.2.2.2.2.2.2.1).length)∧((0:Int)≤i∧Int.toNat i<(s.2.2.1).length))∧(zif (((gtd ([]:List Int) s.2.2.2.2.2.2.2.2.2.2.2.1 (Int.toNat i)).length:Int) != (((gtd dOp s.2.2.1 (Int.toNat i)).2.2.2).length:Int)) (K (Zl false)) (QdC K s (w64 (i+(1:Int)))))) (Qbt K s 0))):QdC K s i :=
 Loop.of (by kernel_rfl) h
theorem QuZ (s:Qc) (h :
 (zif (((!(QL s.2.2.1))||(!(m_in s.1 (0:Int) ((s.2.1).length:Int))))||(((s.2.2.2.2.2.2.2.2.2.2.2.1).length:Int) != ((s.2.2.1).length:Int))) (K (Zl false)) (((0:Int)≤(0:Int)∧Int.toNat (0:Int)<(s.2.2.1).length)∧(((0:Int)≤w64 (((s.2.2.1).length:Int)-(1:Int))∧Int.toNat (w64 (((s.2.2.1).length:Int)-(1:Int)))<(s.2.2.1).length)∧(QdC K s 0))))):Hold (tawp YL (0+0) QB4 (TQ 0 0 Qm7 K) (Qg [(.a (Tup.cells Qo s))])) :=
 Hold.of (by kernel_rfl) h
theorem Qut (s:Qc):TCon Tryz.prog 63 [(.a (Tup.cells Qo s))] (Zl (QM s)):=by
 refine Qk rfl fun hb=>tcg (Γ:=YL) (n:=177) (sg:=QgI.sg) Ql (TOkL.cons QwP (TOkL.cons Yr (TOkL.cons Qey (TOkL.cons QsU TOkL.nil)))) (by kernel_rfl) (by kernel_rfl) (QuZ _ s ?_)
 have hl_s_1:(s.2.1).length≤9223372036854775807:=hb.1.2.1.1
 have hl_s_2:(s.2.2.1).length≤9223372036854775807:=hb.1.2.2.1.1
 have hl_s_5:(s.2.2.2.2.2.1).length≤9223372036854775807:=hb.1.2.2.2.2.2.1.1
 have hl_s_6:(s.2.2.2.2.2.2.1).length≤9223372036854775807:=hb.1.2.2.2.2.2.2.1.1
 have hl_s_7:(s.2.2.2.2.2.2.2.1).length≤9223372036854775807:=hb.1.2.2.2.2.2.2.2.1.1
 have hl_s_8:(s.2.2.2.2.2.2.2.2.1).length≤9223372036854775807:=hb.1.2.2.2.2.2.2.2.2.1.1
 have hl_s_9:(s.2.2.2.2.2.2.2.2.2.1).length≤9223372036854775807:=hb.1.2.2.2.2.2.2.2.2.2.1.1
 have hl_s_10:(s.2.2.2.2.2.2.2.2.2.2.1).length≤9223372036854775807:=hb.1.2.2.2.2.2.2.2.2.2.2.1.1
 have hl_s_11:(s.2.2.2.2.2.2.2.2.2.2.2.1).length≤9223372036854775807:=hb.1.2.2.2.2.2.2.2.2.2.2.2.1.1
 refine ⟨fun h=>R_eq (by grind [QM,Zv]),fun h=>?_⟩
 have h0:QL s.2.2.1=true∧m_in s.1 0 s.2.1.length=true∧s.2.2.2.2.2.2.2.2.2.2.2.1.length=s.2.2.1.length:=by
  have:((s.2.2.2.2.2.2.2.2.2.2.2.1.length:Int) != (s.2.2.1.length:Int))=false:=by grind
  have h3:s.2.2.2.2.2.2.2.2.2.2.2.1.length=s.2.2.1.length:=by
   have h4:((s.2.2.2.2.2.2.2.2.2.2.2.1.length:Int)==(s.2.2.1.length:Int))=true:=by simpa [bne] using this
   have:=of_decide_eq_true (by simpa using h4:decide ((s.2.2.2.2.2.2.2.2.2.2.2.1.length:Int)=s.2.2.1.length)=true)
   omega
  grind
 have hm:=Qb0 h0.1
 have eo:=JJ (n:=s.2.2.1.length) hm.1 (by omega)
 have ei:Z9 s.2.2.1=(gtd dOp s.2.2.1 0).2.1:=by simp [Z9,h0.1]
 have eu:Z8 s.2.2.1=(gtd dOp s.2.2.1 (s.2.2.1.length-1)).2.2.1:=by simp [Z8,h0.1]
 have hk9:1≤Q0 s∧Q0 s≤s.2.2.1.length+1:=by unfold Q0;split <;> omega
 have saved:Zv s.2.2.1 s.2.2.2.2.2.2.2.2.2.2.2.1=true→Qbt (fun r'=>r'=Zl (QM s)) s ((0:Nat):Int):=by
  intro hgf
  refine Zp s.2.2.2.2.2.1 (fun r k=>r.all (Zr s)=s.2.2.2.2.2.1.all (Zr s)→Qbt (fun r'=>r'=Zl (QM s)) s k) ?_ ?_ rfl
  ·intro he
   refine Qn3 (fun r'=>r'=Zl (QM s)) s _ ⟨fun h=>by simp at h,fun _=>R_eq ?_⟩
   rw [eo.1]
   grind [QM]
  ·intro k x r hk hlt hg ih he
   have hbx:x.2.length≤9223372036854775807:=by
    have hmem:x∈s.2.2.2.2.2.1:=List.mem_of_mem_drop (i:=k) (by rw [hk];exact List.mem_cons_self)
    exact (hb.1.2.2.2.2.2.1.2 x hmem).2.1.1
   have rows:(x.2.length:Int)=Q0 s→∀ (q:List (List Int)) (j:Nat),1≤j→x.2.drop j=q→j≤x.2.length→Yg s.2.2.1 j q=Zr s x→QcG (fun r'=>r'=Zl (QM s)) s j k:=by
    intro hlen q
    induction q with
    | nil =>
     intro j h1 hj hle hgo
     have:x.2.length≤j:=by simpa using hj
     refine Qmf (fun r'=>r'=Zl (QM s)) s _ _ ⟨fun h=>?_,fun _=>?_⟩
     ·rw [Int.toNat_natCast,hg] at h;simp at h;omega
     ·rw [Qw (x:=(k:Int)+1) (by omega) (by omega)]
      refine ih ?_
      simp only [Yg] at hgo
      rw [← he,List.all_cons,← hgo,Bool.true_and]
    | cons z q ihq =>
     intro j h1 hj hle hgo
     have hjl:=QdG hj
     have e2:=JJ h1 (by omega:j≤9223372036854775807)
     have hsz:=QBL h0.1 h1 (by omega:j≤s.2.2.1.length)
     refine Qmf (fun r'=>r'=Zl (QM s)) s _ _ ⟨fun _=>?_,fun h=>?_⟩
     ·rw [Int.toNat_natCast,Int.toNat_natCast,hg,Jh hj,e2.1,Qw (x:=(j:Int)+1) (by omega) (by omega)]
      rw [Yg,hsz] at hgo
      refine ⟨⟨⟨by omega,hjl⟩,fun _=>⟨⟨by omega,hjl⟩,e2.2,by omega⟩⟩,fun h=>R_eq ?_,fun h=>ihq (j+1) (by omega) (Jm hj) hjl ?_⟩
      ·have hf:Zr s x=false:=by rw [← hgo];grind [Q2]
       have:s.2.2.2.2.2.1.all (Zr s)=false:=by rw [← he,List.all_cons,hf];rfl
       simp [QM,this]
      ·rw [← hgo];grind [Q2]
     ·rw [Int.toNat_natCast,hg] at h;simp at h;omega
   refine Qn3 (fun r'=>r'=Zl (QM s)) s _ ⟨fun _=>?_,fun h=>by simp at h;omega⟩
   rw [Int.toNat_natCast,hg]
   have bad:Zr s x=false→false=QM s:=by
    intro hf
    have:s.2.2.2.2.2.1.all (Zr s)=false:=by rw [← he,List.all_cons,hf];rfl
    simp [QM,this]
   have ek:w64 ((s.2.2.1.length:Int)+1)=s.2.2.1.length+1:=Qw (by omega) (by omega)
   rw [ek]
   cases hx:x.2 with
   | nil =>
    refine ⟨⟨by omega,hlt⟩,⟨by simp,by simp⟩,fun _=>R_eq (bad ?_),fun h=>by simp at h⟩
    simp [Zr,hx];omega
   | cons z q =>
    have z0:gtd ([]:List Int) (z::q) (Int.toNat 0)=z:=Qsf _ _ _
    rw [z0]
    have hsz:Z3 s.2.2.1 0=(gtd dOp s.2.2.1 (Int.toNat 0)).2.1:=QyE h0.1
    rw [← hsz]
    have main:(((q.length+1:Nat):Int)==Q0 s)=true→Zr s x=(Q2 z (Z3 s.2.2.1 0)&&Yg s.2.2.1 1 q):=by
     intro h
     have h:((q.length+1:Nat):Int)=Q0 s:=by simpa using h
     have e:(z::q).take (Q0 s).toNat=z::q:=by rw [List.take_of_length_le];simp;omega
     simp only [Zr,hx,Z2,e,Yg]
     simp;omega
    refine ⟨⟨by omega,hlt⟩,⟨fun _=>by simp,fun _=>by simp⟩,fun h=>R_eq (bad ?_),fun h=>?_⟩
    ·by_cases hl:(((q.length+1:Nat):Int)==Q0 s)=true
     ·rw [main hl]
      have hl:((q.length+1:Nat):Int)=Q0 s:=by simpa using hl
      unfold Q0 at hl
      by_cases hr:s.2.2.2.2.1=true
      ·rw [if_pos hr] at hl
       simp [hr] at h
       grind [Q2]
      ·rw [if_neg hr] at hl
       simp [hr] at h
       grind [Q2]
     ·have:(((x.2.length:Nat):Int)==Q0 s)=false:=by rw [hx];simpa using hl
      simp [Zr,this]
    ·have hl:((q.length+1:Nat):Int)=Q0 s:=by
      unfold Q0
      by_cases hr:s.2.2.2.2.1=true
      ·rw [if_pos hr];simp [hr] at h;omega
      ·rw [if_neg hr];simp [hr] at h;omega
     have hv:Q2 z (Z3 s.2.2.1 0)=true:=by simp at h;simp [Q2,h]
     refine rows (by rw [hx];simpa using hl) q 1 (Nat.le_refl _) (by rw [hx];rfl) (by rw [hx];simp) ?_
     rw [main (by simpa using hl),hv,Bool.true_and]
 refine ⟨⟨by omega,by simp;omega⟩,⟨eo.2,by rw [eo.1];omega⟩,?_⟩
 refine Zp s.2.2.1 (fun r k=>Yt r (s.2.2.2.2.2.2.2.2.2.2.2.1.drop k)=Yt s.2.2.1 s.2.2.2.2.2.2.2.2.2.2.2.1→QdC (fun r'=>r'=Zl (QM s)) s k) ?_ ?_ rfl
 ·intro he
  refine Qka (fun r'=>r'=Zl (QM s)) s _ ⟨fun h=>by simp at h,fun _=>saved ?_⟩
  grind [Zv,Yt]
 ·intro k x r hk hlt hg ih he
  obtain ⟨y,q,hq⟩:∃ y q,s.2.2.2.2.2.2.2.2.2.2.2.1.drop k=y::q:=by
   cases hq:s.2.2.2.2.2.2.2.2.2.2.2.1.drop k with
   | nil=>have:=congrArg List.length hq;simp at this;omega
   | cons y q=>exact ⟨y,q,rfl⟩
  refine Qka (fun r'=>r'=Zl (QM s)) s _ ⟨fun _=>?_,fun h=>by simp at h;omega⟩
  rw [Int.toNat_natCast,hg,Jh hq,Qw (x:=(k:Int)+1) (by omega) (by omega)]
  rw [hq,Yt] at he
  rw [Jm hq] at ih
  refine ⟨⟨⟨by omega,by omega⟩,by omega,hlt⟩,fun h=>R_eq ?_,fun h=>ih ?_⟩
  ·grind [QM,Zv]
  ·grind
theorem QEi:Qj Tryz.prog QgI:=Qn fun x _=>Qut x.1
end
end Go.Proofs.YtdplaepmjogjjaaGreat.Am

