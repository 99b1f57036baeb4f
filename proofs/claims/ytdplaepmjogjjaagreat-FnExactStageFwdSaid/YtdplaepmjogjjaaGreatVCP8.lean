/- -/
import Derived.Test.YtdplaepmjogjjaaGreatVCP1
import Derived.Test.YtdplaepmjogjjaaGreatVCP4
namespace Go.Proofs.YtdplaepmjogjjaaGreat.Am
open Go Go.RowKit Go.Proofs.YtdplaepmjogjjaaGreat
set_option linter.all false
noncomputable section
variable (K:TRes→Prop)
def Qg7 (t:(List TOp')):TRes:=zra (.a [(zcs ctOp t)])
def Qeu:TRow:=Qg 74 [(.a Qp)] fun x=>(none,Qg7 (Zq x.1))
def Qth:TTab:=⟨[],false⟩
def QCP:TCode :=
 (zsq [(.reg [zop 1 (.box 39 0 14),zop 2 (.new 77 [(.n ctOp)])]),(.reg [zfa 3 1 2,zld 4 3 1,zop 5 (.build [(.n ctOp)] [(0,1,4)]),zst 2 5 1]),.ret])
def QFj:List (ARv × Md):=[(.l 2 1 true,.b [.d])]
theorem QEN (s:Qc) (h :
 K (Qg7 s.2.2.1)):Hold (tawp Qth (0+0) QCP (TQ 0 0 QFj K) (Qd [(.a (Tup.cells Qp s))])) :=
 Hold.of (by kernel_rfl) h
theorem Qx1 (s:Qc):TCon Tryz.prog 74 [(.a (Tup.cells Qp s))] (Qg7 (Zq s)):=by
 refine Qi rfl fun hb=>tcg (Γ:=Qth) (n:=6) (sg:=Qeu.sg) Qj TOkL.nil (by kernel_rfl) (by kernel_rfl) (QEN _ s ?_)
 have hl_s_1:(s.2.1).length≤9223372036854775807:=hb.1.2.1.1
 have hl_s_2:(s.2.2.1).length≤9223372036854775807:=hb.1.2.2.1.1
 have hl_s_5:(s.2.2.2.2.2.1).length≤9223372036854775807:=hb.1.2.2.2.2.2.1.1
 have hl_s_6:(s.2.2.2.2.2.2.1).length≤9223372036854775807:=hb.1.2.2.2.2.2.2.1.1
 have hl_s_7:(s.2.2.2.2.2.2.2.1).length≤9223372036854775807:=hb.1.2.2.2.2.2.2.2.1.1
 have hl_s_8:(s.2.2.2.2.2.2.2.2.1).length≤9223372036854775807:=hb.1.2.2.2.2.2.2.2.2.1.1
 have hl_s_9:(s.2.2.2.2.2.2.2.2.2.1).length≤9223372036854775807:=hb.1.2.2.2.2.2.2.2.2.2.1.1
 have hl_s_10:(s.2.2.2.2.2.2.2.2.2.2.1).length≤9223372036854775807:=hb.1.2.2.2.2.2.2.2.2.2.2.1.1
 have hl_s_11:(s.2.2.2.2.2.2.2.2.2.2.2.1).length≤9223372036854775807:=hb.1.2.2.2.2.2.2.2.2.2.2.2.1.1
 exact R_eq rfl
theorem QqD:Qe Tryz.prog Qeu:=Qk fun x _=>Qx1 x.1
def JD (t:Bool):TRes:=zre (zcb t)
def Qf7:TRow:=Qg 168 [(.a [(.sl ctOp)]),(.c (.sl [(.sl [TI])]))] fun x=>(none,JD (ZV x.1 x.2.1))
def QeQ:TTab:=⟨[],false⟩
def QqN:TCode :=
 (zsq [(.reg [zbi 17 .lss 16 15]),(.cond 17 .skip (.exit 0)),(.block 1 (zsq [(.reg [zmv 18 16,zia 19 14 16 ctOp,zLd 20 19 4,zop 6 (.new 134 (z0s ctOp)),zmv 5 18,zst 6 20 4]),(.draw [zmv 21 1,zmv 22 5,zia 23 21 22 [(.sl [TI])],zfa 24 23 0,zld 25 24 1,zle 26 25,zfa 27 6 3,zld 28 27 1,zle 29 28,zbi 30 .neq 26 29] []),(.cond 30 (zsq [(.reg [zmv 4 (zkb false)]),.ret]) .skip)])),(.reg [zbi 31 .add 16 (zki 1),zmv 16 31])])
def QoO:List (Nat × Md):=zdl [1,14,15,16]
def QrP:TCode :=
 (zsq [(.reg [zmv 4 (zkb true)]),.ret])
def QAB:TCode :=
 (zsq [(.reg [zop 2 (.box 77 0 1),zmv 4 (zkb false)]),(zsq [(.reg [zmv 7 1,zle 8 7,zfa 9 2 0,zld 10 9 1,zle 11 10,zbi 12 .neq 8 11]),(.cond 12 (zsq [(.reg [zmv 4 (zkb false)]),.ret]) .skip)]),(zsq [(.reg [zfa 13 2 0,zld 14 13 1,zle 15 14,zmv 16 (zki 0)]),(.block 0 (.loop QoO QqN))]),QrP])
def Qoc:List (ARv × Md):=[(.t 4,.one .d)]
def QrR:Qb:=TQ 0 0 Qoc K
def Qv5:Qb:=Qseq (tawp QeQ 0 QrP (QrR K)) (QrR K)
def Quj:Qb:=Qblk 0 (Qv5 K)
def QfS (m:List TOp') (rows:List (List Int)) (x:Int):Prop:=Loop QeQ 0 QoO QqN (Quj K) ⟨[(1,(zcs [(.sl [TI])] rows)),(14,(zcs ctOp m)),(15,(zci (m.length:Int))),(16,(zci x))],[],0⟩
theorem QtL (m:List TOp') (rows:List (List Int)) (x:Int) (h :
 (zif (decide (x<(m.length:Int))) (((0:Int)≤x∧Int.toNat x<m.length)∧(((0:Int)≤x∧Int.toNat x<rows.length)∧(zif (((gtd ([]:List Int) rows (Int.toNat x)).length:Int) != (((gtd dOp m (Int.toNat x)).2.2.2).length:Int)) (K (JD false)) (QfS K m rows (w64 (x+(1:Int))))))) (K (JD true)))):QfS K m rows x :=
 Loop.of (by kernel_rfl) h
theorem QzI (m:List TOp') (rows:List (List Int)) (h :
 (zif ((rows.length:Int) != (m.length:Int)) (K (JD false)) (QfS K m rows 0))):Hold (tawp QeQ (0+0) QAB (TQ 0 0 Qoc K) (Qd [(.a [(.c (.sl ctOp) m)]),(.c (.sl [(.sl [TI])]) rows)])) :=
 Hold.of (by kernel_rfl) h
theorem QBU (m:List TOp') (rows:List (List Int)):TCon Tryz.prog 168 [(.a [(.c (.sl ctOp) m)]),(.c (.sl [(.sl [TI])]) rows)] (JD (ZV m rows)):=by
 refine Qi rfl fun hb=>tcg (Γ:=QeQ) (n:=32) (sg:=Qf7.sg) Qj TOkL.nil (by kernel_rfl) (by kernel_rfl) (QzI _ m rows ?_)
 have hl_m_0:(m).length≤9223372036854775807:=hb.1.1.1
 have hl_rows:rows.length≤9223372036854775807:=hb.2.1.1
 refine ⟨fun h=>R_eq (by grind [ZV]),fun h=>?_⟩
 have hl:rows.length=m.length:=by
  have:((rows.length:Int)==(m.length:Int))=true:=by simpa [bne] using h
  have:=of_decide_eq_true (by simpa using this:decide ((rows.length:Int)=m.length)=true)
  omega
 refine Zh m (fun r k=>YJ r (rows.drop k)=YJ m rows→QfS (fun r'=>r'=JD (ZV m rows)) m rows k) ?_ ?_ rfl
 ·intro he
  refine QtL (fun r'=>r'=JD (ZV m rows)) m rows _ ⟨fun h=>by simp at h,fun _=>R_eq ?_⟩
  grind [ZV,YJ]
 ·intro k x r hk hlt hg ih he
  obtain ⟨y,q,hq⟩:∃ y q,rows.drop k=y::q:=by
   cases hq:rows.drop k with
   | nil=>have:=congrArg List.length hq;simp at this;omega
   | cons y q=>exact ⟨y,q,rfl⟩
  refine QtL (fun r'=>r'=JD (ZV m rows)) m rows _ ⟨fun _=>?_,fun h=>by simp at h;omega⟩
  rw [Int.toNat_natCast,hg,Yg hq,Qv (x:=(k:Int)+1) (by omega) (by omega)]
  rw [hq,YJ] at he
  rw [Yp hq] at ih
  refine ⟨⟨by omega,hlt⟩,⟨by omega,by omega⟩,fun h=>R_eq ?_,fun h=>ih ?_⟩
  ·grind [ZV]
  ·grind
theorem QBl:Qe Tryz.prog Qf7:=Qk fun x _=>QBU x.1 x.2.1
def Y3 (t:Bool):TRes:=zre (zcb t)
def QjZ:TRow:=Qg 110 [(.c (.sl ctOp)),(.c (.sl [(.sl [TI])])),(.c TI)] fun x=>(some (Qh8 x.1 x.2.1 x.2.2.1),Y3 (Ys x.1 x.2.1 x.2.2.1))
def QaA:TTab:=⟨[Y0],false⟩
def QkP:TCode :=
 (zsq [(.reg [zmv 30 1,zmv 31 7,zia 32 30 31 [(.sl [TI])],zfa 33 32 0,zld 34 33 1,zmv 35 8,zca 36 100 [34,35],zno 37 36]),(.cond 37 (zsq [(.reg [zmv 6 (zkb false)]),.ret]) .skip)])
def QAl:List (Nat × Md):=zdl [0,1,2,7,8]
def Qz2:TCode:=.wk QAl QkP
def QpS:TCode :=
 (.reg [zmv 12 7,zbi 13 .add 12 (zki 1),zmv 7 13])
def QgG:TCode :=
 (zsq [(zsq [(.reg [zmv 9 7,zmv 10 2,zbi 11 .lss 9 10]),(.cond 11 .skip (.exit 0))]),(.block 1 (zsq [(.reg [zmv 14 0,zmv 15 0,zle 16 15,zbi 17 .sub 16 (zki 1),zia 18 14 17 ctOp,zfa 19 18 2,zld 20 19 1,zmv 8 20]),(zsq [(.reg [zmv 21 7,zmv 22 0,zle 23 22,zbi 24 .lss 21 23]),(.cond 24 (.reg [zmv 25 0,zmv 26 7,zia 27 25 26 ctOp,zfa 28 27 1,zld 29 28 1,zmv 8 29]) .skip)]),Qz2])),QpS])
def QeG:List (Nat × Md):=zdl [0,1,2,7]
def Qry:TCode :=
 (zsq [(.reg [zmv 6 (zkb true)]),.ret])
def QxE:TCode :=
 (zsq [(.reg [zmv 6 (zkb false)]),(zsq [(.reg [zmv 7 (zki 0)]),(.block 0 (.loop QeG QgG))]),Qry])
def Quc:List (ARv × Md):=[(.t 6,.one .d)]
def QrB:Qb:=TQ 0 0 Quc K
def QFy:Qb:=Qseq (tawp QaA 0 Qry (QrB K)) (QrB K)
def QgY:Qb:=Qblk 0 (QFy K)
def QsX:Qb:=Qseq (fun s'=>Loop QaA 0 QeG QgG (QgY K) (gc 0 QeG s')) (QgY K)
def QzS:Qb:=Qseq (tawp QaA 0 QpS (QsX K)) (QsX K)
def QBS:Qb:=Qblk 1 (QzS K)
@[irreducible] def Qfs (ops:List TOp') (rows:List (List Int)) (n:Int) (size:Int) (i:Int):Prop:=tawp QaA 0 QkP (QBS K) ⟨[(0,(zcs ctOp ops)),(1,(zcs [(.sl [TI])] rows)),(2,(zci n)),(7,(zci i)),(8,(zci size))],[],0⟩
def QdF (ops:List TOp') (rows:List (List Int)) (n:Int) (i:Int):Prop:=Loop QaA 0 QeG QgG (QgY K) ⟨[(0,(zcs ctOp ops)),(1,(zcs [(.sl [TI])] rows)),(2,(zci n)),(7,(zci i))],[],0⟩
theorem Qwe (ops:List TOp') (rows:List (List Int)) (n:Int) (size:Int) (i:Int) (h :
 (((0:Int)≤i∧Int.toNat i<rows.length)∧(zif (!(Qw (gtd ([]:List Int) rows (Int.toNat i)) size)) (K (Y3 false)) (QdF K ops rows n (w64 (i+(1:Int))))))):Hold (Qfs K ops rows n size i) :=
 Hold.of (by kernel_rfl) h
theorem QtD (ops:List TOp') (rows:List (List Int)) (n:Int) (i:Int) (h :
 (zif (decide (i<n)) (((0:Int)≤w64 ((ops.length:Int)-(1:Int))∧Int.toNat (w64 ((ops.length:Int)-(1:Int)))<ops.length)∧(zif (decide (i<(ops.length:Int))) (((0:Int)≤i∧Int.toNat i<ops.length)∧(Qfs K ops rows n ((gtd dOp ops (Int.toNat i)).2.1) i)) (Qfs K ops rows n ((gtd dOp ops (Int.toNat (w64 ((ops.length:Int)-(1:Int))))).2.2.1) i))) (K (Y3 true)))):QdF K ops rows n i :=
 Loop.of (by kernel_rfl) h
theorem Qu7 (ops:List TOp') (rows:List (List Int)) (n:Int) (h :
 (QdF K ops rows n 0)):Hold (tawp QaA (0+0) QxE (TQ 0 0 Quc K) (Qd [(.c (.sl ctOp) ops),(.c (.sl [(.sl [TI])]) rows),(.c TI n)])) :=
 Hold.of (by kernel_rfl) h
theorem QEl (ops:List TOp') (rows:List (List Int)) (n:Int) (hp:Qh8 ops rows n):TCon Tryz.prog 110 [(.c (.sl ctOp) ops),(.c (.sl [(.sl [TI])]) rows),(.c TI n)] (Y3 (Ys ops rows n)):=by
 refine Qi rfl fun hb=>tcg (Γ:=QaA) (n:=38) (sg:=QjZ.sg) Qj (TOkL.cons QaD TOkL.nil) (by kernel_rfl) (by kernel_rfl) (Qu7 _ ops rows n ?_)
 have hl_ops:ops.length≤9223372036854775807:=hb.1.1
 have hl_rows:rows.length≤9223372036854775807:=hb.2.1.1
 have:=QCY rows 0 n (Int.le_refl 0) hp.2.1 hp.2.2 (fun r k=>YW ops k r=(Ys ops rows n)→QdF (fun r'=>r'=Y3 (Ys ops rows n)) ops rows n k) ?_ ?_ (by simp [Ys,slice])
 ·exact this
 ·intro he
  refine QtD (fun r'=>r'=Y3 (Ys ops rows n)) ops rows n _ ⟨fun h=>by simp at h;omega,fun _=>R_eq ?_⟩
  simpa [YW] using he
 ·intro k x r h1 h2 hlt hg ih he
  have e:=QbB hp.1 hl_ops
  have key:Qfs (fun r'=>r'=Y3 (Ys ops rows n)) ops rows n (Yz ops k) k:=by
   refine (Qwe (fun r'=>r'=Y3 (Ys ops rows n)) ops rows n _ _ ?_).h
   rw [Int.toNat_natCast,hg,Qv (x:=(k:Int)+1) (by omega) (by omega)]
   rw [YW] at he
   refine ⟨⟨by omega,hlt⟩,fun h=>R_eq ?_,fun h=>ih ?_⟩ <;> grind
  refine QtD (fun r'=>r'=Y3 (Ys ops rows n)) ops rows n _ ⟨fun _=>?_,fun h=>by simp at h;omega⟩
  rw [e.1,Int.toNat_natCast]
  refine ⟨⟨e.2,by have:=hp.1;omega⟩,fun h=>⟨⟨by omega,by simpa using h⟩,?_⟩,fun h=>?_⟩
  ·rw [Yz,if_pos (by simpa using h)] at key;exact key
  ·rw [Yz,if_neg (by simpa using h)] at key;exact key
theorem Qvt:Qe Tryz.prog QjZ:=Qk fun x h=>QEl x.1 x.2.1 x.2.2.1 h
def Yt (t:Bool):TRes:=zre (zcb t)
def Qgg:TRow:=Qg 72 [(.a Qp)] fun x=>(none,Yt (QI x.1))
def QbL:TTab:=⟨[Qeu,Qa8,Qf7,QjZ,Qcc,QfO,QjT],false⟩
def Qmk:TCode :=
 (zsq [(.reg [zbi 45 .lss 44 43]),(.cond 45 .skip (.exit 0)),(.block 1 (zsq [(.reg [zia 46 42 44 Ql,zLd 47 46 2,zop 6 (.new 108 (z0s Ql)),zst 6 47 2]),(.reg [zfa 48 6 1,zld 49 48 1,zle 50 49,zmv 51 4,zbi 52 .neq 50 51,zmv 53 52,.grp 53 false [zfa 54 1 2,zld 55 54 1,zfa 56 6 1,zld 57 56 1,zmv 58 4,zca 59 110 [55,57,58],zno 60 59] 61 60]),(.cond 61 (zsq [(.reg [zmv 2 (zkb false)]),.ret]) .skip)])),(.reg [zbi 62 .add 44 (zki 1),zmv 44 62])])
def Qm6:List (Nat × Md):=[(1,.b (zds 14)),(3,.b [.d]),(4,.one .d),(42,.one .d),(43,.one .d),(44,.one .d)]
def Qtq:TCode :=
 (zsq [(.draw [zLd 63 3 1,zca 64 101 [63],zLd 65 3 1,zca 66 102 [65],zmv 7 64,zmv 8 66] [(1,2)]),(.reg [zfa 67 1 7,zld 68 67 1,zmv 69 7,zca 70 169 [68,69],zmv 71 70,.grp 71 true [zfa 72 1 10,zld 73 72 1,zmv 74 7,zca 75 169 [73,74]] 76 75,zmv 77 76,.grp 77 true [zfa 78 1 8,zld 79 78 1,zmv 80 8,zca 81 169 [79,80]] 82 81,zmv 83 82,.grp 83 true [zfa 84 1 9,zld 85 84 1,zmv 86 8,zca 87 169 [85,86]] 88 87,zmv 2 88]),.ret])
def Qpw:TCode :=
 (zsq [(zsq [(.reg [zfa 41 1 5,zld 42 41 1,zle 43 42,zmv 44 (zki 0)]),(.block 0 (.loop Qm6 Qmk))]),Qtq])
def QCB:List (Nat × Md):=[(1,.b (zds 14)),(3,.b [.d]),(4,.one .d)]
def QEV:TCode:=.wk QCB Qpw
def QEK:TCode :=
 (zsq [(.reg [zop 1 (.box 39 0 14),zmv 2 (zkb false)]),(.reg [zLd 9 1 14,zca 10 74 [9],zop 3 (.new 77 [(.n ctOp)]),zst 3 10 1]),(zsq [(.reg [zLd 11 3 1,zca 12 167 [11],zno 13 12,zmv 14 13,.grp 14 false [zfa 15 1 0,zld 16 15 1,zbi 17 .lss 16 (zki 0)] 18 17,zmv 19 18,.grp 19 false [zfa 20 1 0,zld 21 20 1,zfa 22 1 1,zld 23 22 1,zle 24 23,zbi 25 .gtr 21 24] 26 25,zmv 27 26,.grp 27 false [zLd 28 3 1,zfa 29 1 11,zfa 30 29 0,zld 31 30 1,zca 32 168 [28,31],zno 33 32] 34 33]),(.cond 34 (zsq [(.reg [zmv 2 (zkb false)]),.ret]) .skip)]),(.reg [zfa 35 1 2,zld 36 35 1,zle 37 36,zbi 38 .add 37 (zki 1),zmv 4 38]),(zsq [(.reg [zfa 39 1 4,zld 40 39 1]),(.cond 40 (.reg [zmv 4 (zki 1)]) .skip)]),QEV])
def QkU:List (ARv × Md):=[(.t 2,.one .d)]
def Qj3:Qb:=TQ 0 0 QkU K
def Qzf:Qb:=Qseq (tawp QbL 0 Qtq (Qj3 K)) (Qj3 K)
def QxX:Qb:=Qblk 0 (Qzf K)
def Qb9 (s:Qc) (kept:Int) (x:Int):Prop:=Loop QbL 0 Qm6 Qmk (QxX K) ⟨[(1,(.p 0 0 0)),(3,(.p 1 0 0)),(4,(zci kept)),(42,(zcs Ql s.2.2.2.2.2.1)),(43,(zci ((s.2.2.2.2.2.1).length:Int))),(44,(zci x))],[(0,(.box (Tup.cells Qp s))),(1,(.box [(zcs ctOp (Zq s))]))],2⟩
@[irreducible] def Qi4 (s:Qc) (kept:Int):Prop:=tawp QbL 0 Qpw (Qj3 K) ⟨[(1,(.p 0 0 0)),(3,(.p 1 0 0)),(4,(zci kept))],[(0,(.box (Tup.cells Qp s))),(1,(.box [(zcs ctOp (Zq s))]))],2⟩
theorem Qq3 (s:Qc) (kept:Int) (x:Int) (h :
 (zif (decide (x<((s.2.2.2.2.2.1).length:Int))) (((0:Int)≤x∧Int.toNat x<(s.2.2.2.2.2.1).length)∧(((!((((gtd QS s.2.2.2.2.2.1 (Int.toNat x)).2).length:Int) != kept))=true→(Qh8 s.2.2.1 ((gtd QS s.2.2.2.2.2.1 (Int.toNat x)).2) kept))∧(zif (((((gtd QS s.2.2.2.2.2.1 (Int.toNat x)).2).length:Int) != kept)||(!(Ys s.2.2.1 ((gtd QS s.2.2.2.2.2.1 (Int.toNat x)).2) kept))) (K (Yt false)) (Qb9 K s kept (w64 (x+(1:Int))))))) (K (Yt ((((ZF s.2.2.2.2.2.2.2.1 (Zn (Zq s)))&&(ZF s.2.2.2.2.2.2.2.2.2.2.1 (Zn (Zq s))))&&(ZF s.2.2.2.2.2.2.2.2.1 (ZE (Zq s))))&&(ZF s.2.2.2.2.2.2.2.2.2.1 (ZE (Zq s)))))))):Qb9 K s kept x :=
 Loop.of (by kernel_rfl) h
theorem Qst (s:Qc) (kept:Int) (h :
 (Qb9 K s kept 0)):Hold (Qi4 K s kept) :=
 Hold.of (by kernel_rfl) h
theorem Qu9 (s:Qc) (h :
 (zif ((((!(QR (Zq s)))||(decide (s.1<(0:Int))))||(decide (s.1>((s.2.1).length:Int))))||(!(ZV (Zq s) s.2.2.2.2.2.2.2.2.2.2.2.1))) (K (Yt false)) (zif s.2.2.2.2.1 (Qi4 K s 1) (Qi4 K s (w64 (((s.2.2.1).length:Int)+(1:Int))))))):Hold (tawp QbL (0+0) QEK (TQ 0 0 QkU K) (Qd [(.a (Tup.cells Qp s))])) :=
 Hold.of (by kernel_rfl) h
theorem QvF (s:Qc):TCon Tryz.prog 72 [(.a (Tup.cells Qp s))] (Yt (QI s)):=by
 refine Qi rfl fun hb=>tcg (Γ:=QbL) (n:=89) (sg:=Qgg.sg) Qj (TOkL.cons QqD (TOkL.cons Qd8 (TOkL.cons QBl (TOkL.cons Qvt (TOkL.cons QgZ (TOkL.cons Qkt (TOkL.cons QCi TOkL.nil))))))) (by kernel_rfl) (by kernel_rfl) (Qu9 _ s ?_)
 have hl_s_1:(s.2.1).length≤9223372036854775807:=hb.1.2.1.1
 have hl_s_2:(s.2.2.1).length≤9223372036854775807:=hb.1.2.2.1.1
 have hl_s_5:(s.2.2.2.2.2.1).length≤9223372036854775807:=hb.1.2.2.2.2.2.1.1
 have hl_s_6:(s.2.2.2.2.2.2.1).length≤9223372036854775807:=hb.1.2.2.2.2.2.2.1.1
 have hl_s_7:(s.2.2.2.2.2.2.2.1).length≤9223372036854775807:=hb.1.2.2.2.2.2.2.2.1.1
 have hl_s_8:(s.2.2.2.2.2.2.2.2.1).length≤9223372036854775807:=hb.1.2.2.2.2.2.2.2.2.1.1
 have hl_s_9:(s.2.2.2.2.2.2.2.2.2.1).length≤9223372036854775807:=hb.1.2.2.2.2.2.2.2.2.2.1.1
 have hl_s_10:(s.2.2.2.2.2.2.2.2.2.2.1).length≤9223372036854775807:=hb.1.2.2.2.2.2.2.2.2.2.2.1.1
 have hl_s_11:(s.2.2.2.2.2.2.2.2.2.2.2.1).length≤9223372036854775807:=hb.1.2.2.2.2.2.2.2.2.2.2.2.1.1
 refine ⟨fun h=>R_eq (by grind [QI,m_in]),fun h=>?_⟩
 have h0:QR s.2.2.1=true∧m_in s.1 0 s.2.1.length=true∧ZV s.2.2.1 s.2.2.2.2.2.2.2.2.2.2.2.1=true:=by grind [m_in]
 have hm:=YG h0.1
 have hk:1≤Zf s∧Zf s≤9:=by unfold Zf;split <;> omega
 have key:Qb9 (fun r'=>r'=Yt (QI s)) s (Zf s) ((0:Nat):Int):=by
  refine Zh s.2.2.2.2.2.1 (fun r k=>r.all (ZJ s)=s.2.2.2.2.2.1.all (ZJ s)→Qb9 (fun r'=>r'=Yt (QI s)) s (Zf s) k) ?_ ?_ rfl
  ·intro he
   refine Qq3 (fun r'=>r'=Yt (QI s)) s _ _ ⟨fun h=>by simp at h,fun _=>R_eq ?_⟩
   grind [QI]
  ·intro k x r hk2 hlt hg ih he
   refine Qq3 (fun r'=>r'=Yt (QI s)) s _ _ ⟨fun _=>?_,fun h=>by simp at h;omega⟩
   rw [Int.toNat_natCast,hg,Qv (x:=(k:Int)+1) (by omega) (by omega)]
   refine ⟨⟨by omega,hlt⟩,fun h=>?_,fun h=>R_eq ?_,fun h=>ih ?_⟩
   ·have:(x.2.length:Int)=Zf s:=by simpa using h
    exact ⟨hm.1,by omega,by omega⟩
   ·grind [QI,ZJ]
   ·grind [ZJ]
 refine ⟨fun h1=>?_,fun h1=>?_⟩
 ·have e:Zf s=1:=by simp [Zf,h1]
  rw [e] at key
  exact (Qst (fun r'=>r'=Yt (QI s)) s _ key).h
 ·have e:Zf s=s.2.2.1.length+1:=by simp [Zf,h1]
  rw [Qv (x:=(s.2.2.1.length:Int)+1) (by omega) (by omega)]
  rw [e] at key
  exact (Qst (fun r'=>r'=Yt (QI s)) s _ key).h
theorem QHy:Qe Tryz.prog Qgg:=Qk fun x _=>QvF x.1
def ZG (t:Bool):TRes:=zre (zcb t)
def Qi2:TRow:=Qg 63 [(.a Qp)] fun x=>(none,ZG (QI x.1))
def Jb:TTab:=⟨[QiV,Jk,YQ,QjN],false⟩
def QmY:TCode :=
 (zsq [(zsq [(.reg [zmv 47 5,zfa 48 1 2,zld 49 48 1,zle 50 49,zbi 51 .lss 47 50]),(.cond 51 .skip (.exit 0))]),(.block 1 (zsq [(.draw [zfa 54 1 11,zfa 55 54 0,zld 56 55 1,zmv 57 5,zia 58 56 57 [(.sl [TI])],zfa 59 58 0,zld 60 59 1,zle 61 60,zfa 62 1 2,zld 63 62 1,zmv 64 5,zia 65 63 64 ctOp,zfa 66 65 3,zld 67 66 1,zle 68 67,zbi 69 .neq 61 68] []),(.cond 69 (zsq [(.reg [zmv 2 (zkb false)]),.ret]) .skip)])),(.reg [zmv 52 5,zbi 53 .add 52 (zki 1),zmv 5 53])])
def QmO:List (Nat × Md):=[(1,.b (zds 14)),(3,.one .d),(4,.one .d),(5,.one .d)]
def QsH:TCode :=
 (zsq [(zsq [(.reg [zmv 126 8,zmv 127 7,zle 128 127,zbi 129 .lss 126 128]),(.cond 129 .skip (.exit 4))]),(.block 5 (zsq [(.draw [zmv 132 7,zmv 133 8,zia 134 132 133 [(.sl [TI])],zfa 135 134 0,zld 136 135 1,zca 137 97 [136],zno 138 137,zmv 139 138,.grp 139 false [zmv 140 7,zmv 141 8,zia 142 140 141 [(.sl [TI])],zfa 143 142 0,zld 144 143 1,zle 145 144,zfa 146 1 2,zld 147 146 1,zmv 148 8,zbi 149 .sub 148 (zki 1),zia 150 147 149 ctOp,zfa 151 150 2,zld 152 151 1,zbi 153 .neq 145 152] 154 153] []),(.cond 154 (zsq [(.reg [zmv 2 (zkb false)]),.ret]) .skip)])),(.reg [zmv 130 8,zbi 131 .add 130 (zki 1),zmv 8 131])])
def QsL:List (Nat × Md):=[(1,.b (zds 14)),(3,.one .d),(4,.one .d),(6,.one .d),(7,.one .d),(8,.one .d)]
def Qqa:TCode :=
 (.reg [zmv 75 6,zbi 76 .add 75 (zki 1),zmv 6 76])
def QiQ:TCode :=
 (zsq [(zsq [(.reg [zmv 70 6,zfa 71 1 5,zld 72 71 1,zle 73 72,zbi 74 .lss 70 73]),(.cond 74 .skip (.exit 2))]),(.block 3 (zsq [(.reg [zfa 77 1 5,zld 78 77 1,zmv 79 6,zia 80 78 79 Ql,zfa 81 80 1,zld 82 81 1,zmv 7 82]),(zsq [(.reg [zmv 83 7,zle 84 83,zbi 85 .eql 84 (zki 0),zmv 86 85,.grp 86 false [zmv 87 7,zia 88 87 (zki 0) [(.sl [TI])],zfa 89 88 0,zld 90 89 1,zca 91 97 [90],zno 92 91] 93 92,zmv 94 93,.grp 94 false [zmv 95 7,zia 96 95 (zki 0) [(.sl [TI])],zfa 97 96 0,zld 98 97 1,zle 99 98,zmv 100 3,zbi 101 .neq 99 100] 102 101,zmv 103 102,.grp 103 false [zfa 104 1 4,zld 105 104 1,zno 106 105,zmv 107 106,.grp 107 true [zmv 108 7,zle 109 108,zfa 110 1 2,zld 111 110 1,zle 112 111,zbi 113 .add 112 (zki 1),zbi 114 .neq 109 113] 115 114] 116 115,zmv 117 116,.grp 117 false [zfa 118 1 4,zld 119 118 1,zmv 120 119,.grp 120 true [zmv 121 7,zle 122 121,zbi 123 .neq 122 (zki 1)] 124 123] 125 124]),(.cond 125 (zsq [(.reg [zmv 2 (zkb false)]),.ret]) .skip)]),(.reg [zmv 8 (zki 1)]),(.block 4 (.loop QsL QsH))])),Qqa])
def QdH:List (Nat × Md):=[(1,.b (zds 14)),(3,.one .d),(4,.one .d),(6,.one .d)]
def Qp6:TCode :=
 (zsq [(.reg [zfa 155 1 7,zld 156 155 1,zmv 157 3,zca 158 159 [156,157],zmv 159 158,.grp 159 true [zfa 160 1 8,zld 161 160 1,zmv 162 4,zca 163 159 [161,162]] 164 163,zmv 165 164,.grp 165 true [zfa 166 1 9,zld 167 166 1,zmv 168 4,zca 169 159 [167,168]] 170 169,zmv 171 170,.grp 171 true [zfa 172 1 10,zld 173 172 1,zmv 174 3,zca 175 159 [173,174]] 176 175,zmv 2 176]),.ret])
def QpW:TCode :=
 (zsq [(zsq [(.reg [zmv 6 (zki 0)]),(.block 2 (.loop QdH QiQ))]),Qp6])
def QAD:TCode :=
 (zsq [(.reg [zop 1 (.box 39 0 14),zmv 2 (zkb false)]),(zsq [(.reg [zfa 9 1 2,zld 10 9 1,zop 11 (.build [(.n ctOp)] [(0,1,10)]),zca 12 157 [11],zno 13 12,zmv 14 13,.grp 14 false [zfa 15 1 0,zld 16 15 1,zfa 17 1 1,zld 18 17 1,zle 19 18,zca 20 158 [16,(zki 0),19],zno 21 20] 22 21,zmv 23 22,.grp 23 false [zfa 24 1 11,zfa 25 24 0,zld 26 25 1,zle 27 26,zfa 28 1 2,zld 29 28 1,zle 30 29,zbi 31 .neq 27 30] 32 31]),(.cond 32 (zsq [(.reg [zmv 2 (zkb false)]),.ret]) .skip)]),(.reg [zfa 33 1 2,zld 34 33 1,zia 35 34 (zki 0) ctOp,zfa 36 35 1,zld 37 36 1,zmv 3 37]),(.reg [zfa 38 1 2,zld 39 38 1,zfa 40 1 2,zld 41 40 1,zle 42 41,zbi 43 .sub 42 (zki 1),zia 44 39 43 ctOp,zfa 45 44 2,zld 46 45 1,zmv 4 46]),(zsq [(.reg [zmv 5 (zki 0)]),(.block 0 (.loop QmO QmY))]),QpW])
def QsP:List (ARv × Md):=[(.t 2,.one .d)]
def QdL:Qb:=TQ 0 0 QsP K
def QxY:Qb:=Qseq (tawp Jb 0 Qp6 (QdL K)) (QdL K)
def QjK:Qb:=Qblk 2 (QxY K)
def Qqg:Qb:=Qseq (fun s'=>Loop Jb 0 QdH QiQ (QjK K) (gc 0 QdH s')) (QjK K)
def QGA:Qb:=Qseq (tawp Jb 0 Qqa (Qqg K)) (Qqg K)
def QxQ:Qb:=Qblk 3 (QGA K)
def QEm:Qb:=Qblk 4 (QxQ K)
def Qfh (s:Qc) (k:Int) (i1:Int):Prop:=Loop Jb 0 QsL QsH (QEm K) ⟨[(1,(.p 0 0 0)),(3,(zci ((gtd dOp s.2.2.1 (Int.toNat (0:Int))).2.1))),(4,(zci ((gtd dOp s.2.2.1 (Int.toNat (w64 (((s.2.2.1).length:Int)-(1:Int))))).2.2.1))),(6,(zci i1)),(7,(zcs [(.sl [TI])] ((gtd QS s.2.2.2.2.2.1 (Int.toNat i1)).2))),(8,(zci k))],[(0,(.box (Tup.cells Qp s)))],1⟩
def Qc6 (s:Qc) (i1:Int):Prop:=Loop Jb 0 QdH QiQ (QjK K) ⟨[(1,(.p 0 0 0)),(3,(zci ((gtd dOp s.2.2.1 (Int.toNat (0:Int))).2.1))),(4,(zci ((gtd dOp s.2.2.1 (Int.toNat (w64 (((s.2.2.1).length:Int)-(1:Int))))).2.2.1))),(6,(zci i1))],[(0,(.box (Tup.cells Qp s)))],1⟩
def QvB:Qb:=Qseq (tawp Jb 0 QpW (QdL K)) (QdL K)
def QE6:Qb:=Qblk 0 (QvB K)
def Qf1 (s:Qc) (i:Int):Prop:=Loop Jb 0 QmO QmY (QE6 K) ⟨[(1,(.p 0 0 0)),(3,(zci ((gtd dOp s.2.2.1 (Int.toNat (0:Int))).2.1))),(4,(zci ((gtd dOp s.2.2.1 (Int.toNat (w64 (((s.2.2.1).length:Int)-(1:Int))))).2.2.1))),(5,(zci i))],[(0,(.box (Tup.cells Qp s)))],1⟩
theorem QqU (s:Qc) (k:Int) (i1:Int) (h :
 (zif (decide (k<(((gtd QS s.2.2.2.2.2.1 (Int.toNat i1)).2).length:Int))) ((((0:Int)≤k∧Int.toNat k<((gtd QS s.2.2.2.2.2.1 (Int.toNat i1)).2).length)∧((!(!(QD (gtd ([]:List Int) ((gtd QS s.2.2.2.2.2.1 (Int.toNat i1)).2) (Int.toNat k)))))=true→(((0:Int)≤k∧Int.toNat k<((gtd QS s.2.2.2.2.2.1 (Int.toNat i1)).2).length)∧((0:Int)≤w64 (k-(1:Int))∧Int.toNat (w64 (k-(1:Int)))<(s.2.2.1).length))))∧(zif ((!(QD (gtd ([]:List Int) ((gtd QS s.2.2.2.2.2.1 (Int.toNat i1)).2) (Int.toNat k))))||(((gtd ([]:List Int) ((gtd QS s.2.2.2.2.2.1 (Int.toNat i1)).2) (Int.toNat k)).length:Int) != ((gtd dOp s.2.2.1 (Int.toNat (w64 (k-(1:Int))))).2.2.1))) (K (ZG false)) (Qfh K s (w64 (k+(1:Int))) i1))) (Qc6 K s (w64 (i1+(1:Int)))))):Qfh K s k i1 :=
 Loop.of (by kernel_rfl) h
theorem QtA (s:Qc) (i1:Int) (h :
 let z1:=gtd QS s.2.2.2.2.2.1 (Int.toNat i1)
 let z2:=gtd ([]:List Int) (z1.2) (Int.toNat (0:Int))
 let z3:=gtd dOp s.2.2.1 (Int.toNat (0:Int))
 let z4:=gtd dOp s.2.2.1 (Int.toNat (w64 (((s.2.2.1).length:Int)-(1:Int))))
 (zif (decide (i1<((s.2.2.2.2.2.1).length:Int))) (((0:Int)≤i1∧Int.toNat i1<(s.2.2.2.2.2.1).length)∧((((!(((z1.2).length:Int)==(0:Int)))=true→((0:Int)≤(0:Int)∧Int.toNat (0:Int)<(z1.2).length))∧((!((((z1.2).length:Int)==(0:Int))||(!(QD z2))))=true→((0:Int)≤(0:Int)∧Int.toNat (0:Int)<(z1.2).length)))∧(zif (((((((z1.2).length:Int)==(0:Int))||(!(QD z2)))||((z2.length:Int) != (z3.2.1)))||((!s.2.2.2.2.1)&&(((z1.2).length:Int) != (w64 (((s.2.2.1).length:Int)+(1:Int))))))||(s.2.2.2.2.1&&(((z1.2).length:Int) != (1:Int)))) (K (ZG false)) (Qfh K s 1 i1)))) (K (ZG ((((ZF s.2.2.2.2.2.2.2.1 (z3.2.1))&&(ZF s.2.2.2.2.2.2.2.2.1 (z4.2.2.1)))&&(ZF s.2.2.2.2.2.2.2.2.2.1 (z4.2.2.1)))&&(ZF s.2.2.2.2.2.2.2.2.2.2.1 (z3.2.1))))))):Qc6 K s i1 :=
 Loop.of (by kernel_rfl) h
theorem QqQ (s:Qc) (i:Int) (h :
 (zif (decide (i<((s.2.2.1).length:Int))) ((((0:Int)≤i∧Int.toNat i<(s.2.2.2.2.2.2.2.2.2.2.2.1).length)∧((0:Int)≤i∧Int.toNat i<(s.2.2.1).length))∧(zif (((gtd ([]:List Int) s.2.2.2.2.2.2.2.2.2.2.2.1 (Int.toNat i)).length:Int) != (((gtd dOp s.2.2.1 (Int.toNat i)).2.2.2).length:Int)) (K (ZG false)) (Qf1 K s (w64 (i+(1:Int)))))) (Qc6 K s 0))):Qf1 K s i :=
 Loop.of (by kernel_rfl) h
theorem QxF (s:Qc) (h :
 (zif (((!(QR s.2.2.1))||(!(m_in s.1 (0:Int) ((s.2.1).length:Int))))||(((s.2.2.2.2.2.2.2.2.2.2.2.1).length:Int) != ((s.2.2.1).length:Int))) (K (ZG false)) (((0:Int)≤(0:Int)∧Int.toNat (0:Int)<(s.2.2.1).length)∧(((0:Int)≤w64 (((s.2.2.1).length:Int)-(1:Int))∧Int.toNat (w64 (((s.2.2.1).length:Int)-(1:Int)))<(s.2.2.1).length)∧(Qf1 K s 0))))):Hold (tawp Jb (0+0) QAD (TQ 0 0 QsP K) (Qd [(.a (Tup.cells Qp s))])) :=
 Hold.of (by kernel_rfl) h
theorem QE9 (s:Qc):TCon Tryz.prog 63 [(.a (Tup.cells Qp s))] (ZG (QI s)):=by
 refine Qi rfl fun hb=>tcg (Γ:=Jb) (n:=177) (sg:=Qi2.sg) Qj (TOkL.cons Qxm (TOkL.cons Qak (TOkL.cons JI (TOkL.cons QzR TOkL.nil)))) (by kernel_rfl) (by kernel_rfl) (QxF _ s ?_)
 have hl_s_1:(s.2.1).length≤9223372036854775807:=hb.1.2.1.1
 have hl_s_2:(s.2.2.1).length≤9223372036854775807:=hb.1.2.2.1.1
 have hl_s_5:(s.2.2.2.2.2.1).length≤9223372036854775807:=hb.1.2.2.2.2.2.1.1
 have hl_s_6:(s.2.2.2.2.2.2.1).length≤9223372036854775807:=hb.1.2.2.2.2.2.2.1.1
 have hl_s_7:(s.2.2.2.2.2.2.2.1).length≤9223372036854775807:=hb.1.2.2.2.2.2.2.2.1.1
 have hl_s_8:(s.2.2.2.2.2.2.2.2.1).length≤9223372036854775807:=hb.1.2.2.2.2.2.2.2.2.1.1
 have hl_s_9:(s.2.2.2.2.2.2.2.2.2.1).length≤9223372036854775807:=hb.1.2.2.2.2.2.2.2.2.2.1.1
 have hl_s_10:(s.2.2.2.2.2.2.2.2.2.2.1).length≤9223372036854775807:=hb.1.2.2.2.2.2.2.2.2.2.2.1.1
 have hl_s_11:(s.2.2.2.2.2.2.2.2.2.2.2.1).length≤9223372036854775807:=hb.1.2.2.2.2.2.2.2.2.2.2.2.1.1
 refine ⟨fun h=>R_eq (by grind [QI,ZV]),fun h=>?_⟩
 have h0:QR s.2.2.1=true∧m_in s.1 0 s.2.1.length=true∧s.2.2.2.2.2.2.2.2.2.2.2.1.length=s.2.2.1.length:=by
  have:((s.2.2.2.2.2.2.2.2.2.2.2.1.length:Int) != (s.2.2.1.length:Int))=false:=by grind
  have h3:s.2.2.2.2.2.2.2.2.2.2.2.1.length=s.2.2.1.length:=by
   have h4:((s.2.2.2.2.2.2.2.2.2.2.2.1.length:Int)==(s.2.2.1.length:Int))=true:=by simpa [bne] using this
   have:=of_decide_eq_true (by simpa using h4:decide ((s.2.2.2.2.2.2.2.2.2.2.2.1.length:Int)=s.2.2.1.length)=true)
   omega
  grind
 have hm:=YG h0.1
 have eo:=QbB (n:=s.2.2.1.length) hm.1 (by omega)
 have ei:Zn s.2.2.1=(gtd dOp s.2.2.1 0).2.1:=by simp [Zn,h0.1]
 have eu:ZE s.2.2.1=(gtd dOp s.2.2.1 (s.2.2.1.length-1)).2.2.1:=by simp [ZE,h0.1]
 have hk9:1≤Zf s∧Zf s≤s.2.2.1.length+1:=by unfold Zf;split <;> omega
 have saved:ZV s.2.2.1 s.2.2.2.2.2.2.2.2.2.2.2.1=true→Qc6 (fun r'=>r'=ZG (QI s)) s ((0:Nat):Int):=by
  intro hgf
  refine Zh s.2.2.2.2.2.1 (fun r k=>r.all (ZJ s)=s.2.2.2.2.2.1.all (ZJ s)→Qc6 (fun r'=>r'=ZG (QI s)) s k) ?_ ?_ rfl
  ·intro he
   refine QtA (fun r'=>r'=ZG (QI s)) s _ ⟨fun h=>by simp at h,fun _=>R_eq ?_⟩
   rw [eo.1]
   grind [QI]
  ·intro k x r hk hlt hg ih he
   have hbx:x.2.length≤9223372036854775807:=by
    have hmem:x∈s.2.2.2.2.2.1:=List.mem_of_mem_drop (i:=k) (by rw [hk];exact List.mem_cons_self)
    exact (hb.1.2.2.2.2.2.1.2 x hmem).2.1.1
   have rows:(x.2.length:Int)=Zf s→∀ (q:List (List Int)) (j:Nat),1≤j→x.2.drop j=q→j≤x.2.length→YW s.2.2.1 j q=ZJ s x→Qfh (fun r'=>r'=ZG (QI s)) s j k:=by
    intro hlen q
    induction q with
    | nil =>
     intro j h1 hj hle hgo
     have:x.2.length≤j:=by simpa using hj
     refine QqU (fun r'=>r'=ZG (QI s)) s _ _ ⟨fun h=>?_,fun _=>?_⟩
     ·rw [Int.toNat_natCast,hg] at h;simp at h;omega
     ·rw [Qv (x:=(k:Int)+1) (by omega) (by omega)]
      refine ih ?_
      simp only [YW] at hgo
      rw [← he,List.all_cons,← hgo,Bool.true_and]
    | cons z q ihq =>
     intro j h1 hj hle hgo
     have hjl:=Qq9 hj
     have e2:=QbB h1 (by omega:j≤9223372036854775807)
     have hsz:=QwF h0.1 h1 (by omega:j≤s.2.2.1.length)
     refine QqU (fun r'=>r'=ZG (QI s)) s _ _ ⟨fun _=>?_,fun h=>?_⟩
     ·rw [Int.toNat_natCast,Int.toNat_natCast,hg,Yg hj,e2.1,Qv (x:=(j:Int)+1) (by omega) (by omega)]
      rw [YW,hsz] at hgo
      refine ⟨⟨⟨by omega,hjl⟩,fun _=>⟨⟨by omega,hjl⟩,e2.2,by omega⟩⟩,fun h=>R_eq ?_,fun h=>ihq (j+1) (by omega) (Yp hj) hjl ?_⟩
      ·have hf:ZJ s x=false:=by rw [← hgo];grind [Qw]
       have:s.2.2.2.2.2.1.all (ZJ s)=false:=by rw [← he,List.all_cons,hf];rfl
       simp [QI,this]
      ·rw [← hgo];grind [Qw]
     ·rw [Int.toNat_natCast,hg] at h;simp at h;omega
   refine QtA (fun r'=>r'=ZG (QI s)) s _ ⟨fun _=>?_,fun h=>by simp at h;omega⟩
   rw [Int.toNat_natCast,hg]
   have bad:ZJ s x=false→false=QI s:=by
    intro hf
    have:s.2.2.2.2.2.1.all (ZJ s)=false:=by rw [← he,List.all_cons,hf];rfl
    simp [QI,this]
   have ek:w64 ((s.2.2.1.length:Int)+1)=s.2.2.1.length+1:=Qv (by omega) (by omega)
   rw [ek]
   cases hx:x.2 with
   | nil =>
    refine ⟨⟨by omega,hlt⟩,⟨by simp,by simp⟩,fun _=>R_eq (bad ?_),fun h=>by simp at h⟩
    simp [ZJ,hx];omega
   | cons z q =>
    have z0:gtd ([]:List Int) (z::q) (Int.toNat 0)=z:=QC2 _ _ _
    rw [z0]
    have hsz:Yz s.2.2.1 0=(gtd dOp s.2.2.1 (Int.toNat 0)).2.1:=QCn h0.1
    rw [← hsz]
    have main:(((q.length+1:Nat):Int)==Zf s)=true→ZJ s x=(Qw z (Yz s.2.2.1 0)&&YW s.2.2.1 1 q):=by
     intro h
     have h:((q.length+1:Nat):Int)=Zf s:=by simpa using h
     have e:(z::q).take (Zf s).toNat=z::q:=by rw [List.take_of_length_le];simp;omega
     simp only [ZJ,hx,Ys,e,YW]
     simp;omega
    refine ⟨⟨by omega,hlt⟩,⟨fun _=>by simp,fun _=>by simp⟩,fun h=>R_eq (bad ?_),fun h=>?_⟩
    ·by_cases hl:(((q.length+1:Nat):Int)==Zf s)=true
     ·rw [main hl]
      have hl:((q.length+1:Nat):Int)=Zf s:=by simpa using hl
      unfold Zf at hl
      by_cases hr:s.2.2.2.2.1=true
      ·rw [if_pos hr] at hl
       simp [hr] at h
       grind [Qw]
      ·rw [if_neg hr] at hl
       simp [hr] at h
       grind [Qw]
     ·have:(((x.2.length:Nat):Int)==Zf s)=false:=by rw [hx];simpa using hl
      simp [ZJ,this]
    ·have hl:((q.length+1:Nat):Int)=Zf s:=by
      unfold Zf
      by_cases hr:s.2.2.2.2.1=true
      ·rw [if_pos hr];simp [hr] at h;omega
      ·rw [if_neg hr];simp [hr] at h;omega
     have hv:Qw z (Yz s.2.2.1 0)=true:=by simp at h;simp [Qw,h]
     refine rows (by rw [hx];simpa using hl) q 1 (Nat.le_refl _) (by rw [hx];rfl) (by rw [hx];simp) ?_
     rw [main (by simpa using hl),hv,Bool.true_and]
 refine ⟨⟨by omega,by simp;omega⟩,⟨eo.2,by rw [eo.1];omega⟩,?_⟩
 refine Zh s.2.2.1 (fun r k=>YJ r (s.2.2.2.2.2.2.2.2.2.2.2.1.drop k)=YJ s.2.2.1 s.2.2.2.2.2.2.2.2.2.2.2.1→Qf1 (fun r'=>r'=ZG (QI s)) s k) ?_ ?_ rfl
 ·intro he
  refine QqQ (fun r'=>r'=ZG (QI s)) s _ ⟨fun h=>by simp at h,fun _=>saved ?_⟩
  grind [ZV,YJ]
 ·intro k x r hk hlt hg ih he
  obtain ⟨y,q,hq⟩:∃ y q,s.2.2.2.2.2.2.2.2.2.2.2.1.drop k=y::q:=by
   cases hq:s.2.2.2.2.2.2.2.2.2.2.2.1.drop k with
   | nil=>have:=congrArg List.length hq;simp at this;omega
   | cons y q=>exact ⟨y,q,rfl⟩
  refine QqQ (fun r'=>r'=ZG (QI s)) s _ ⟨fun _=>?_,fun h=>by simp at h;omega⟩
  rw [Int.toNat_natCast,hg,Yg hq,Qv (x:=(k:Int)+1) (by omega) (by omega)]
  rw [hq,YJ] at he
  rw [Yp hq] at ih
  refine ⟨⟨⟨by omega,by omega⟩,by omega,hlt⟩,fun h=>R_eq ?_,fun h=>ih ?_⟩
  ·grind [QI,ZV]
  ·grind
theorem QEa:Qe Tryz.prog Qi2:=Qk fun x _=>QE9 x.1
end
end Go.Proofs.YtdplaepmjogjjaaGreat.Am

