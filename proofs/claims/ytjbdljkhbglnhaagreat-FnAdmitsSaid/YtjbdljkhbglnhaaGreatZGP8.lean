/- -/
import Derived.Test.YtjbdljkhbglnhaaGreatZGP1
import Derived.Test.YtjbdljkhbglnhaaGreatZGP4
namespace Go.Proofs.YtjbdljkhbglnhaaGreat.Am
open Go Go.RowKit Go.Proofs.YtjbdljkhbglnhaaGreat
set_option linter.all false
noncomputable section
variable (K:TRes→Prop)
def Qk4 (t:(List TOp')):TRes:=zra (.a [(zcs ctOp t)])
def QdF:TRow:=Qi 112 [(.a Qu)] fun x=>(none,Qk4 (ZZ x.1))
def QEn:List TRow:=[]
def QHF:TCode :=
 (zsq [(.reg [zop 1 (.box 63 0 14),zop 2 (.new 26 [(.n ctOp)])]),(.reg [zfa 3 1 2,zld 4 3 1,zop 5 (.build [(.n ctOp)] [(0,1,4)]),zst 2 5 1]),.ret])
def QHz:List (ARv × Md):=[(.l 2 1 true,.b [.d])]
theorem QB6 (s:Qc) (h :
 K (Qk4 s.2.2.1)):Hold (tawp QEn (0+0) QHF (TQ 0 0 QHz K) (Qf [(.a (Tup.cells Qu s))])) :=
 Hold.of (by kernel_rfl) h
theorem QOE (s:Qc):TCon Tryz.prog 112 [(.a (Tup.cells Qu s))] (Qk4 (ZZ s)):=by
 refine Qr rfl fun hb=>tcg (n:=6) (sg:=QdF.sg) Qk TOk.nil (by kernel_rfl) (by kernel_rfl) (QB6 _ s ?_)
 have hl_s_1:(s.2.1).length≤9223372036854775807:=hb.1.2.1.1
 have hl_s_2:(s.2.2.1).length≤9223372036854775807:=hb.1.2.2.1.1
 have hl_s_5:(s.2.2.2.2.2.1).length≤9223372036854775807:=hb.1.2.2.2.2.2.1.1
 have hl_s_6:(s.2.2.2.2.2.2.1).length≤9223372036854775807:=hb.1.2.2.2.2.2.2.1.1
 have hl_s_7:(s.2.2.2.2.2.2.2.1).length≤9223372036854775807:=hb.1.2.2.2.2.2.2.2.1.1
 have hl_s_8:(s.2.2.2.2.2.2.2.2.1).length≤9223372036854775807:=hb.1.2.2.2.2.2.2.2.2.1.1
 have hl_s_9:(s.2.2.2.2.2.2.2.2.2.1).length≤9223372036854775807:=hb.1.2.2.2.2.2.2.2.2.2.1.1
 have hl_s_10:(s.2.2.2.2.2.2.2.2.2.2.1).length≤9223372036854775807:=hb.1.2.2.2.2.2.2.2.2.2.2.1.1
 have hl_s_11:(s.2.2.2.2.2.2.2.2.2.2.2.1).length≤9223372036854775807:=hb.1.2.2.2.2.2.2.2.2.2.2.2.1.1
 exact R_eq rfl
theorem Qh2:Qj Tryz.prog QdF:=Ql fun x _=>QOE x.1
def QbX (t:Bool):TRes:=zre (zcb t)
def QmJ:TRow:=Qi 185 [(.a [(.sl ctOp)]),(.c (.sl [(.sl [TI])]))] fun x=>(none,QbX (Y6 x.1 x.2.1))
def Qm9:List TRow:=[]
def QrR:TCode :=
 (zsq [(.reg [zbi 17 .lss 16 15]),(.cond 17 .skip (.exit 0)),(.block 1 (zsq [(.reg [zmv 18 16,zia 19 14 16 ctOp,zLd 20 19 4,zop 6 (.new 69 (z0s ctOp)),zmv 5 18,zst 6 20 4]),(.draw [zmv 21 1,zmv 22 5,zia 23 21 22 [(.sl [TI])],zfa 24 23 0,zld 25 24 1,zle 26 25,zfa 27 6 3,zld 28 27 1,zle 29 28,zbi 30 .neq 26 29] []),(.cond 30 (zsq [(.reg [zmv 4 (zkb false)]),.ret]) .skip)])),(.reg [zbi 31 .add 16 (zki 1),zmv 16 31])])
def QqQ:List (Nat × Md):=zdl [1,14,15,16]
def QrS:TCode :=
 (zsq [(.reg [zmv 4 (zkb true)]),.ret])
def QCR:TCode :=
 (zsq [(.reg [zop 2 (.box 26 0 1),zmv 4 (zkb false)]),(zsq [(.reg [zmv 7 1,zle 8 7,zfa 9 2 0,zld 10 9 1,zle 11 10,zbi 12 .neq 8 11]),(.cond 12 (zsq [(.reg [zmv 4 (zkb false)]),.ret]) .skip)]),(zsq [(.reg [zfa 13 2 0,zld 14 13 1,zle 15 14,zmv 16 (zki 0)]),(.block 0 (.loop QqQ QrR))]),QrS])
def Qqa:List (ARv × Md):=[(.t 4,.one .d)]
def QwW:Qb:=TQ 0 0 Qqa K
def QGb:Qb:=Qseq (tawp Qm9 0 QrS (QwW K)) (QwW K)
def QNM:Qb:=Qblk 0 (QGb K)
def Qhl (m:List TOp') (rows:List (List Int)) (x:Int):Prop:=Loop Qm9 0 QqQ QrR (QNM K) ⟨[(1,(zcs [(.sl [TI])] rows)),(14,(zcs ctOp m)),(15,(zci (m.length:Int))),(16,(zci x))],[],0⟩
theorem Qsa (m:List TOp') (rows:List (List Int)) (x:Int) (h :
 (zif (decide (x<(m.length:Int))) (((0:Int)≤x∧Int.toNat x<m.length)∧(((0:Int)≤x∧Int.toNat x<rows.length)∧(zif (((gtd ([]:List Int) rows (Int.toNat x)).length:Int) != (((gtd dOp m (Int.toNat x)).2.2.2).length:Int)) (K (QbX false)) (Qhl K m rows (w64 (x+(1:Int))))))) (K (QbX true)))):Qhl K m rows x :=
 Loop.of (by kernel_rfl) h
theorem QCa (m:List TOp') (rows:List (List Int)) (h :
 (zif ((rows.length:Int) != (m.length:Int)) (K (QbX false)) (Qhl K m rows 0))):Hold (tawp Qm9 (0+0) QCR (TQ 0 0 Qqa K) (Qf [(.a [(.c (.sl ctOp) m)]),(.c (.sl [(.sl [TI])]) rows)])) :=
 Hold.of (by kernel_rfl) h
theorem QDH (m:List TOp') (rows:List (List Int)):TCon Tryz.prog 185 [(.a [(.c (.sl ctOp) m)]),(.c (.sl [(.sl [TI])]) rows)] (QbX (Y6 m rows)):=by
 refine Qr rfl fun hb=>tcg (n:=32) (sg:=QmJ.sg) Qk TOk.nil (by kernel_rfl) (by kernel_rfl) (QCa _ m rows ?_)
 have hl_m_0:(m).length≤9223372036854775807:=hb.1.1.1
 have hl_rows:rows.length≤9223372036854775807:=hb.2.1.1
 refine ⟨fun h=>R_eq (by grind [Y6]),fun h=>?_⟩
 have hl:rows.length=m.length:=by
  have:((rows.length:Int)==(m.length:Int))=true:=by simpa [bne] using h
  have:=of_decide_eq_true (by simpa using this:decide ((rows.length:Int)=m.length)=true)
  omega
 refine Zz m (fun r k=>ZQ r (rows.drop k)=ZQ m rows→Qhl (fun r'=>r'=QbX (Y6 m rows)) m rows k) ?_ ?_ rfl
 ·intro he
  refine Qsa (fun r'=>r'=QbX (Y6 m rows)) m rows _ ⟨fun h=>by simp at h,fun _=>R_eq ?_⟩
  grind [Y6,ZQ]
 ·intro k x r hk hlt hg ih he
  obtain ⟨y,q,hq⟩:∃ y q,rows.drop k=y::q:=by
   cases hq:rows.drop k with
   | nil=>have:=congrArg List.length hq;simp at this;omega
   | cons y q=>exact ⟨y,q,rfl⟩
  refine Qsa (fun r'=>r'=QbX (Y6 m rows)) m rows _ ⟨fun _=>?_,fun h=>by simp at h;omega⟩
  rw [Int.toNat_natCast,hg,Y1 hq,Qp (x:=(k:Int)+1) (by omega) (by omega)]
  rw [hq,ZQ] at he
  rw [YL hq] at ih
  refine ⟨⟨by omega,hlt⟩,⟨by omega,by omega⟩,fun h=>R_eq ?_,fun h=>ih ?_⟩
  ·grind [Y6]
  ·grind
theorem QKO:Qj Tryz.prog QmJ:=Ql fun x _=>QDH x.1 x.2.1
def Qa4 (t:Bool):TRes:=zre (zcb t)
def Qgj:TRow:=Qi 123 [(.c (.sl ctOp)),(.c (.sl [(.sl [TI])])),(.c TI)] fun x=>(some (Qiw x.1 x.2.1 x.2.2.1),Qa4 (YG x.1 x.2.1 x.2.2.1))
def QdC:List TRow:=[JJ]
def Qux:TCode :=
 (zsq [(.reg [zmv 30 1,zmv 31 7,zia 32 30 31 [(.sl [TI])],zfa 33 32 0,zld 34 33 1,zmv 35 8,zca 36 114 [34,35],zno 37 36]),(.cond 37 (zsq [(.reg [zmv 6 (zkb false)]),.ret]) .skip)])
def QIR:List (Nat × Md):=zdl [0,1,2,7,8]
def QEp:TCode:=.wk QIR Qux
def QoY:TCode :=
 (.reg [zmv 12 7,zbi 13 .add 12 (zki 1),zmv 7 13])
def Ql7:TCode :=
 (zsq [(zsq [(.reg [zmv 9 7,zmv 10 2,zbi 11 .lss 9 10]),(.cond 11 .skip (.exit 0))]),(.block 1 (zsq [(.reg [zmv 14 0,zmv 15 0,zle 16 15,zbi 17 .sub 16 (zki 1),zia 18 14 17 ctOp,zfa 19 18 2,zld 20 19 1,zmv 8 20]),(zsq [(.reg [zmv 21 7,zmv 22 0,zle 23 22,zbi 24 .lss 21 23]),(.cond 24 (.reg [zmv 25 0,zmv 26 7,zia 27 25 26 ctOp,zfa 28 27 1,zld 29 28 1,zmv 8 29]) .skip)]),QEp])),QoY])
def Qhx:List (Nat × Md):=zdl [0,1,2,7]
def Qw6:TCode :=
 (zsq [(.reg [zmv 6 (zkb true)]),.ret])
def QFP:TCode :=
 (zsq [(.reg [zmv 6 (zkb false)]),(zsq [(.reg [zmv 7 (zki 0)]),(.block 0 (.loop Qhx Ql7))]),Qw6])
def Qtk:List (ARv × Md):=[(.t 6,.one .d)]
def Qt6:Qb:=TQ 0 0 Qtk K
def QLB:Qb:=Qseq (tawp QdC 0 Qw6 (Qt6 K)) (Qt6 K)
def Qje:Qb:=Qblk 0 (QLB K)
def Qyh:Qb:=Qseq (fun s'=>Loop QdC 0 Qhx Ql7 (Qje K) (gc 0 Qhx s')) (Qje K)
def QD0:Qb:=Qseq (tawp QdC 0 QoY (Qyh K)) (Qyh K)
def QPP:Qb:=Qblk 1 (QD0 K)
@[irreducible] def QgZ (ops:List TOp') (rows:List (List Int)) (n:Int) (size:Int) (i:Int):Prop:=tawp QdC 0 Qux (QPP K) ⟨[(0,(zcs ctOp ops)),(1,(zcs [(.sl [TI])] rows)),(2,(zci n)),(7,(zci i)),(8,(zci size))],[],0⟩
def QfU (ops:List TOp') (rows:List (List Int)) (n:Int) (i:Int):Prop:=Loop QdC 0 Qhx Ql7 (Qje K) ⟨[(0,(zcs ctOp ops)),(1,(zcs [(.sl [TI])] rows)),(2,(zci n)),(7,(zci i))],[],0⟩
theorem QKm (ops:List TOp') (rows:List (List Int)) (n:Int) (size:Int) (i:Int) (h :
 (((0:Int)≤i∧Int.toNat i<rows.length)∧(zif (!(Qq (gtd ([]:List Int) rows (Int.toNat i)) size)) (K (Qa4 false)) (QfU K ops rows n (w64 (i+(1:Int))))))):Hold (QgZ K ops rows n size i) :=
 Hold.of (by kernel_rfl) h
theorem QsH (ops:List TOp') (rows:List (List Int)) (n:Int) (i:Int) (h :
 (zif (decide (i<n)) (((0:Int)≤w64 ((ops.length:Int)-(1:Int))∧Int.toNat (w64 ((ops.length:Int)-(1:Int)))<ops.length)∧(zif (decide (i<(ops.length:Int))) (((0:Int)≤i∧Int.toNat i<ops.length)∧(QgZ K ops rows n ((gtd dOp ops (Int.toNat i)).2.1) i)) (QgZ K ops rows n ((gtd dOp ops (Int.toNat (w64 ((ops.length:Int)-(1:Int))))).2.2.1) i))) (K (Qa4 true)))):QfU K ops rows n i :=
 Loop.of (by kernel_rfl) h
theorem QIk (ops:List TOp') (rows:List (List Int)) (n:Int) (h :
 (QfU K ops rows n 0)):Hold (tawp QdC (0+0) QFP (TQ 0 0 Qtk K) (Qf [(.c (.sl ctOp) ops),(.c (.sl [(.sl [TI])]) rows),(.c TI n)])) :=
 Hold.of (by kernel_rfl) h
theorem QEf (ops:List TOp') (rows:List (List Int)) (n:Int) (hp:Qiw ops rows n):TCon Tryz.prog 123 [(.c (.sl ctOp) ops),(.c (.sl [(.sl [TI])]) rows),(.c TI n)] (Qa4 (YG ops rows n)):=by
 refine Qr rfl fun hb=>tcg (n:=38) (sg:=Qgj.sg) Qk (TOk.cons Qaa TOk.nil) (by kernel_rfl) (by kernel_rfl) (QIk _ ops rows n ?_)
 have hl_ops:ops.length≤9223372036854775807:=hb.1.1
 have hl_rows:rows.length≤9223372036854775807:=hb.2.1.1
 have:=QjU rows 0 n (Int.le_refl 0) hp.2.1 hp.2.2 (fun r k=>YB ops k r=(YG ops rows n)→QfU (fun r'=>r'=Qa4 (YG ops rows n)) ops rows n k) ?_ ?_ (by simp [YG,slice])
 ·exact this
 ·intro he
  refine QsH (fun r'=>r'=Qa4 (YG ops rows n)) ops rows n _ ⟨fun h=>by simp at h;omega,fun _=>R_eq ?_⟩
  simpa [YB] using he
 ·intro k x r h1 h2 hlt hg ih he
  have e:=QaD hp.1 hl_ops
  have key:QgZ (fun r'=>r'=Qa4 (YG ops rows n)) ops rows n (Jd ops k) k:=by
   refine (QKm (fun r'=>r'=Qa4 (YG ops rows n)) ops rows n _ _ ?_).h
   rw [Int.toNat_natCast,hg,Qp (x:=(k:Int)+1) (by omega) (by omega)]
   rw [YB] at he
   refine ⟨⟨by omega,hlt⟩,fun h=>R_eq ?_,fun h=>ih ?_⟩ <;> grind
  refine QsH (fun r'=>r'=Qa4 (YG ops rows n)) ops rows n _ ⟨fun _=>?_,fun h=>by simp at h;omega⟩
  rw [e.1,Int.toNat_natCast]
  refine ⟨⟨e.2,by have:=hp.1;omega⟩,fun h=>⟨⟨by omega,by simpa using h⟩,?_⟩,fun h=>?_⟩
  ·rw [Jd,if_pos (by simpa using h)] at key;exact key
  ·rw [Jd,if_neg (by simpa using h)] at key;exact key
theorem QwQ:Qj Tryz.prog Qgj:=Ql fun x h=>QEf x.1 x.2.1 x.2.2.1 h
def Qaj (t:Bool):TRes:=zre (zcb t)
def QdU:TRow:=Qi 113 [(.a Qu)] fun x=>(none,Qaj (QS x.1))
def Qfz:List TRow:=[QdF,JX,QmJ,Qgj,Qc7,Qde,Qi3]
def QpC:TCode :=
 (zsq [(.reg [zbi 45 .lss 44 43]),(.cond 45 .skip (.exit 0)),(.block 1 (zsq [(.reg [zia 46 42 44 ZA,zLd 47 46 2,zop 6 (.new 76 (z0s ZA)),zst 6 47 2]),(.reg [zfa 48 6 1,zld 49 48 1,zle 50 49,zmv 51 4,zbi 52 .neq 50 51,zmv 53 52,.grp 53 false [zfa 54 1 2,zld 55 54 1,zfa 56 6 1,zld 57 56 1,zmv 58 4,zca 59 123 [55,57,58],zno 60 59] 61 60]),(.cond 61 (zsq [(.reg [zmv 2 (zkb false)]),.ret]) .skip)])),(.reg [zbi 62 .add 44 (zki 1),zmv 44 62])])
def Qvs:List (Nat × Md):=[(1,.b (zds 14)),(3,.b [.d]),(4,.one .d),(42,.one .d),(43,.one .d),(44,.one .d)]
def Qv6:TCode :=
 (zsq [(.draw [zLd 63 3 1,zca 64 115 [63],zLd 65 3 1,zca 66 117 [65],zmv 7 64,zmv 8 66] [(1,2)]),(.reg [zfa 67 1 7,zld 68 67 1,zmv 69 7,zca 70 186 [68,69],zmv 71 70,.grp 71 true [zfa 72 1 10,zld 73 72 1,zmv 74 7,zca 75 186 [73,74]] 76 75,zmv 77 76,.grp 77 true [zfa 78 1 8,zld 79 78 1,zmv 80 8,zca 81 186 [79,80]] 82 81,zmv 83 82,.grp 83 true [zfa 84 1 9,zld 85 84 1,zmv 86 8,zca 87 186 [85,86]] 88 87,zmv 2 88]),.ret])
def Qwt:TCode :=
 (zsq [(zsq [(.reg [zfa 41 1 5,zld 42 41 1,zle 43 42,zmv 44 (zki 0)]),(.block 0 (.loop Qvs QpC))]),Qv6])
def QLq:List (Nat × Md):=[(1,.b (zds 14)),(3,.b [.d]),(4,.one .d)]
def QHB:TCode:=.wk QLq Qwt
def QG7:TCode :=
 (zsq [(.reg [zop 1 (.box 63 0 14),zmv 2 (zkb false)]),(.reg [zLd 9 1 14,zca 10 112 [9],zop 3 (.new 26 [(.n ctOp)]),zst 3 10 1]),(zsq [(.reg [zLd 11 3 1,zca 12 131 [11],zno 13 12,zmv 14 13,.grp 14 false [zfa 15 1 0,zld 16 15 1,zbi 17 .lss 16 (zki 0)] 18 17,zmv 19 18,.grp 19 false [zfa 20 1 0,zld 21 20 1,zfa 22 1 1,zld 23 22 1,zle 24 23,zbi 25 .gtr 21 24] 26 25,zmv 27 26,.grp 27 false [zLd 28 3 1,zfa 29 1 11,zfa 30 29 0,zld 31 30 1,zca 32 185 [28,31],zno 33 32] 34 33]),(.cond 34 (zsq [(.reg [zmv 2 (zkb false)]),.ret]) .skip)]),(.reg [zfa 35 1 2,zld 36 35 1,zle 37 36,zbi 38 .add 37 (zki 1),zmv 4 38]),(zsq [(.reg [zfa 39 1 4,zld 40 39 1]),(.cond 40 (.reg [zmv 4 (zki 1)]) .skip)]),QHB])
def Qwo:List (ARv × Md):=[(.t 2,.one .d)]
def Qno:Qb:=TQ 0 0 Qwo K
def QC5:Qb:=Qseq (tawp Qfz 0 Qv6 (Qno K)) (Qno K)
def QCV:Qb:=Qblk 0 (QC5 K)
def QeU (s:Qc) (kept:Int) (x:Int):Prop:=Loop Qfz 0 Qvs QpC (QCV K) ⟨[(1,(.p 0 0 0)),(3,(.p 1 0 0)),(4,(zci kept)),(42,(zcs ZA s.2.2.2.2.2.1)),(43,(zci ((s.2.2.2.2.2.1).length:Int))),(44,(zci x))],[(0,(.box (Tup.cells Qu s))),(1,(.box [(zcs ctOp (ZZ s))]))],2⟩
@[irreducible] def Qjf (s:Qc) (kept:Int):Prop:=tawp Qfz 0 Qwt (Qno K) ⟨[(1,(.p 0 0 0)),(3,(.p 1 0 0)),(4,(zci kept))],[(0,(.box (Tup.cells Qu s))),(1,(.box [(zcs ctOp (ZZ s))]))],2⟩
theorem QxX (s:Qc) (kept:Int) (x:Int) (h :
 (zif (decide (x<((s.2.2.2.2.2.1).length:Int))) (((0:Int)≤x∧Int.toNat x<(s.2.2.2.2.2.1).length)∧(((!((((gtd ZR s.2.2.2.2.2.1 (Int.toNat x)).2).length:Int) != kept))=true→(Qiw s.2.2.1 ((gtd ZR s.2.2.2.2.2.1 (Int.toNat x)).2) kept))∧(zif (((((gtd ZR s.2.2.2.2.2.1 (Int.toNat x)).2).length:Int) != kept)||(!(YG s.2.2.1 ((gtd ZR s.2.2.2.2.2.1 (Int.toNat x)).2) kept))) (K (Qaj false)) (QeU K s kept (w64 (x+(1:Int))))))) (K (Qaj ((((Z7 s.2.2.2.2.2.2.2.1 (QX (ZZ s)))&&(Z7 s.2.2.2.2.2.2.2.2.2.2.1 (QX (ZZ s))))&&(Z7 s.2.2.2.2.2.2.2.2.1 (Q1 (ZZ s))))&&(Z7 s.2.2.2.2.2.2.2.2.2.1 (Q1 (ZZ s)))))))):QeU K s kept x :=
 Loop.of (by kernel_rfl) h
theorem Qys (s:Qc) (kept:Int) (h :
 (QeU K s kept 0)):Hold (Qjf K s kept) :=
 Hold.of (by kernel_rfl) h
theorem QDm (s:Qc) (h :
 (zif ((((!(QE (ZZ s)))||(decide (s.1<(0:Int))))||(decide (s.1>((s.2.1).length:Int))))||(!(Y6 (ZZ s) s.2.2.2.2.2.2.2.2.2.2.2.1))) (K (Qaj false)) (zif s.2.2.2.2.1 (Qjf K s 1) (Qjf K s (w64 (((s.2.2.1).length:Int)+(1:Int))))))):Hold (tawp Qfz (0+0) QG7 (TQ 0 0 Qwo K) (Qf [(.a (Tup.cells Qu s))])) :=
 Hold.of (by kernel_rfl) h
theorem QPY (s:Qc):TCon Tryz.prog 113 [(.a (Tup.cells Qu s))] (Qaj (QS s)):=by
 refine Qr rfl fun hb=>tcg (n:=89) (sg:=QdU.sg) Qk (TOk.cons Qh2 (TOk.cons Qar (TOk.cons QKO (TOk.cons QwQ (TOk.cons QgF (TOk.cons QiR (TOk.cons QO3 TOk.nil))))))) (by kernel_rfl) (by kernel_rfl) (QDm _ s ?_)
 have hl_s_1:(s.2.1).length≤9223372036854775807:=hb.1.2.1.1
 have hl_s_2:(s.2.2.1).length≤9223372036854775807:=hb.1.2.2.1.1
 have hl_s_5:(s.2.2.2.2.2.1).length≤9223372036854775807:=hb.1.2.2.2.2.2.1.1
 have hl_s_6:(s.2.2.2.2.2.2.1).length≤9223372036854775807:=hb.1.2.2.2.2.2.2.1.1
 have hl_s_7:(s.2.2.2.2.2.2.2.1).length≤9223372036854775807:=hb.1.2.2.2.2.2.2.2.1.1
 have hl_s_8:(s.2.2.2.2.2.2.2.2.1).length≤9223372036854775807:=hb.1.2.2.2.2.2.2.2.2.1.1
 have hl_s_9:(s.2.2.2.2.2.2.2.2.2.1).length≤9223372036854775807:=hb.1.2.2.2.2.2.2.2.2.2.1.1
 have hl_s_10:(s.2.2.2.2.2.2.2.2.2.2.1).length≤9223372036854775807:=hb.1.2.2.2.2.2.2.2.2.2.2.1.1
 have hl_s_11:(s.2.2.2.2.2.2.2.2.2.2.2.1).length≤9223372036854775807:=hb.1.2.2.2.2.2.2.2.2.2.2.2.1.1
 refine ⟨fun h=>R_eq (by grind [QS,m_in]),fun h=>?_⟩
 have h0:QE s.2.2.1=true∧m_in s.1 0 s.2.1.length=true∧Y6 s.2.2.1 s.2.2.2.2.2.2.2.2.2.2.2.1=true:=by grind [m_in]
 have hm:=YM h0.1
 have hk:1≤ZX s∧ZX s≤9:=by unfold ZX;split <;> omega
 have key:QeU (fun r'=>r'=Qaj (QS s)) s (ZX s) ((0:Nat):Int):=by
  refine Zz s.2.2.2.2.2.1 (fun r k=>r.all (YC s)=s.2.2.2.2.2.1.all (YC s)→QeU (fun r'=>r'=Qaj (QS s)) s (ZX s) k) ?_ ?_ rfl
  ·intro he
   refine QxX (fun r'=>r'=Qaj (QS s)) s _ _ ⟨fun h=>by simp at h,fun _=>R_eq ?_⟩
   grind [QS]
  ·intro k x r hk2 hlt hg ih he
   refine QxX (fun r'=>r'=Qaj (QS s)) s _ _ ⟨fun _=>?_,fun h=>by simp at h;omega⟩
   rw [Int.toNat_natCast,hg,Qp (x:=(k:Int)+1) (by omega) (by omega)]
   refine ⟨⟨by omega,hlt⟩,fun h=>?_,fun h=>R_eq ?_,fun h=>ih ?_⟩
   ·have:(x.2.length:Int)=ZX s:=by simpa using h
    exact ⟨hm.1,by omega,by omega⟩
   ·grind [QS,YC]
   ·grind [YC]
 refine ⟨fun h1=>?_,fun h1=>?_⟩
 ·have e:ZX s=1:=by simp [ZX,h1]
  rw [e] at key
  exact (Qys (fun r'=>r'=Qaj (QS s)) s _ key).h
 ·have e:ZX s=s.2.2.1.length+1:=by simp [ZX,h1]
  rw [Qp (x:=(s.2.2.1.length:Int)+1) (by omega) (by omega)]
  rw [e] at key
  exact (Qys (fun r'=>r'=Qaj (QS s)) s _ key).h
theorem Qii:Qj Tryz.prog QdU:=Ql fun x _=>QPY x.1
def Ja (t:Bool):TRes:=zre (zcb t)
def QmW:TRow:=Qi 41 [(.a Qu)] fun x=>(none,Ja (QS x.1))
def QbK:List TRow:=[QbC,Jj,Qb7,Qng]
def Qzb:TCode :=
 (zsq [(zsq [(.reg [zmv 47 5,zfa 48 1 2,zld 49 48 1,zle 50 49,zbi 51 .lss 47 50]),(.cond 51 .skip (.exit 0))]),(.block 1 (zsq [(.draw [zfa 54 1 11,zfa 55 54 0,zld 56 55 1,zmv 57 5,zia 58 56 57 [(.sl [TI])],zfa 59 58 0,zld 60 59 1,zle 61 60,zfa 62 1 2,zld 63 62 1,zmv 64 5,zia 65 63 64 ctOp,zfa 66 65 3,zld 67 66 1,zle 68 67,zbi 69 .neq 61 68] []),(.cond 69 (zsq [(.reg [zmv 2 (zkb false)]),.ret]) .skip)])),(.reg [zmv 52 5,zbi 53 .add 52 (zki 1),zmv 5 53])])
def QtE:List (Nat × Md):=[(1,.b (zds 14)),(3,.one .d),(4,.one .d),(5,.one .d)]
def QxD:TCode :=
 (zsq [(zsq [(.reg [zmv 126 8,zmv 127 7,zle 128 127,zbi 129 .lss 126 128]),(.cond 129 .skip (.exit 4))]),(.block 5 (zsq [(.draw [zmv 132 7,zmv 133 8,zia 134 132 133 [(.sl [TI])],zfa 135 134 0,zld 136 135 1,zca 137 42 [136],zno 138 137,zmv 139 138,.grp 139 false [zmv 140 7,zmv 141 8,zia 142 140 141 [(.sl [TI])],zfa 143 142 0,zld 144 143 1,zle 145 144,zfa 146 1 2,zld 147 146 1,zmv 148 8,zbi 149 .sub 148 (zki 1),zia 150 147 149 ctOp,zfa 151 150 2,zld 152 151 1,zbi 153 .neq 145 152] 154 153] []),(.cond 154 (zsq [(.reg [zmv 2 (zkb false)]),.ret]) .skip)])),(.reg [zmv 130 8,zbi 131 .add 130 (zki 1),zmv 8 131])])
def Qwy:List (Nat × Md):=[(1,.b (zds 14)),(3,.one .d),(4,.one .d),(6,.one .d),(7,.one .d),(8,.one .d)]
def Qx9:TCode :=
 (.reg [zmv 75 6,zbi 76 .add 75 (zki 1),zmv 6 76])
def Qjr:TCode :=
 (zsq [(zsq [(.reg [zmv 70 6,zfa 71 1 5,zld 72 71 1,zle 73 72,zbi 74 .lss 70 73]),(.cond 74 .skip (.exit 2))]),(.block 3 (zsq [(.reg [zfa 77 1 5,zld 78 77 1,zmv 79 6,zia 80 78 79 ZA,zfa 81 80 1,zld 82 81 1,zmv 7 82]),(zsq [(.reg [zmv 83 7,zle 84 83,zbi 85 .eql 84 (zki 0),zmv 86 85,.grp 86 false [zmv 87 7,zia 88 87 (zki 0) [(.sl [TI])],zfa 89 88 0,zld 90 89 1,zca 91 42 [90],zno 92 91] 93 92,zmv 94 93,.grp 94 false [zmv 95 7,zia 96 95 (zki 0) [(.sl [TI])],zfa 97 96 0,zld 98 97 1,zle 99 98,zmv 100 3,zbi 101 .neq 99 100] 102 101,zmv 103 102,.grp 103 false [zfa 104 1 4,zld 105 104 1,zno 106 105,zmv 107 106,.grp 107 true [zmv 108 7,zle 109 108,zfa 110 1 2,zld 111 110 1,zle 112 111,zbi 113 .add 112 (zki 1),zbi 114 .neq 109 113] 115 114] 116 115,zmv 117 116,.grp 117 false [zfa 118 1 4,zld 119 118 1,zmv 120 119,.grp 120 true [zmv 121 7,zle 122 121,zbi 123 .neq 122 (zki 1)] 124 123] 125 124]),(.cond 125 (zsq [(.reg [zmv 2 (zkb false)]),.ret]) .skip)]),(.reg [zmv 8 (zki 1)]),(.block 4 (.loop Qwy QxD))])),Qx9])
def Qgu:List (Nat × Md):=[(1,.b (zds 14)),(3,.one .d),(4,.one .d),(6,.one .d)]
def QtX:TCode :=
 (zsq [(.reg [zfa 155 1 7,zld 156 155 1,zmv 157 3,zca 158 109 [156,157],zmv 159 158,.grp 159 true [zfa 160 1 8,zld 161 160 1,zmv 162 4,zca 163 109 [161,162]] 164 163,zmv 165 164,.grp 165 true [zfa 166 1 9,zld 167 166 1,zmv 168 4,zca 169 109 [167,168]] 170 169,zmv 171 170,.grp 171 true [zfa 172 1 10,zld 173 172 1,zmv 174 3,zca 175 109 [173,174]] 176 175,zmv 2 176]),.ret])
def Qvw:TCode :=
 (zsq [(zsq [(.reg [zmv 6 (zki 0)]),(.block 2 (.loop Qgu Qjr))]),QtX])
def QIm:TCode :=
 (zsq [(.reg [zop 1 (.box 63 0 14),zmv 2 (zkb false)]),(zsq [(.reg [zfa 9 1 2,zld 10 9 1,zop 11 (.build [(.n ctOp)] [(0,1,10)]),zca 12 74 [11],zno 13 12,zmv 14 13,.grp 14 false [zfa 15 1 0,zld 16 15 1,zfa 17 1 1,zld 18 17 1,zle 19 18,zca 20 77 [16,(zki 0),19],zno 21 20] 22 21,zmv 23 22,.grp 23 false [zfa 24 1 11,zfa 25 24 0,zld 26 25 1,zle 27 26,zfa 28 1 2,zld 29 28 1,zle 30 29,zbi 31 .neq 27 30] 32 31]),(.cond 32 (zsq [(.reg [zmv 2 (zkb false)]),.ret]) .skip)]),(.reg [zfa 33 1 2,zld 34 33 1,zia 35 34 (zki 0) ctOp,zfa 36 35 1,zld 37 36 1,zmv 3 37]),(.reg [zfa 38 1 2,zld 39 38 1,zfa 40 1 2,zld 41 40 1,zle 42 41,zbi 43 .sub 42 (zki 1),zia 44 39 43 ctOp,zfa 45 44 2,zld 46 45 1,zmv 4 46]),(zsq [(.reg [zmv 5 (zki 0)]),(.block 0 (.loop QtE Qzb))]),Qvw])
def Qq2:List (ARv × Md):=[(.t 2,.one .d)]
def Qf7:Qb:=TQ 0 0 Qq2 K
def QAk:Qb:=Qseq (tawp QbK 0 QtX (Qf7 K)) (Qf7 K)
def Qkn:Qb:=Qblk 2 (QAk K)
def Qo4:Qb:=Qseq (fun s'=>Loop QbK 0 Qgu Qjr (Qkn K) (gc 0 Qgu s')) (Qkn K)
def QPu:Qb:=Qseq (tawp QbK 0 Qx9 (Qo4 K)) (Qo4 K)
def QIX:Qb:=Qblk 3 (QPu K)
def QIB:Qb:=Qblk 4 (QIX K)
def QfR (s:Qc) (k:Int) (i1:Int):Prop:=Loop QbK 0 Qwy QxD (QIB K) ⟨[(1,(.p 0 0 0)),(3,(zci ((gtd dOp s.2.2.1 (Int.toNat (0:Int))).2.1))),(4,(zci ((gtd dOp s.2.2.1 (Int.toNat (w64 (((s.2.2.1).length:Int)-(1:Int))))).2.2.1))),(6,(zci i1)),(7,(zcs [(.sl [TI])] ((gtd ZR s.2.2.2.2.2.1 (Int.toNat i1)).2))),(8,(zci k))],[(0,(.box (Tup.cells Qu s)))],1⟩
def QeC (s:Qc) (i1:Int):Prop:=Loop QbK 0 Qgu Qjr (Qkn K) ⟨[(1,(.p 0 0 0)),(3,(zci ((gtd dOp s.2.2.1 (Int.toNat (0:Int))).2.1))),(4,(zci ((gtd dOp s.2.2.1 (Int.toNat (w64 (((s.2.2.1).length:Int)-(1:Int))))).2.2.1))),(6,(zci i1))],[(0,(.box (Tup.cells Qu s)))],1⟩
def QFa:Qb:=Qseq (tawp QbK 0 Qvw (Qf7 K)) (Qf7 K)
def QAb:Qb:=Qblk 0 (QFa K)
def Qhg (s:Qc) (i:Int):Prop:=Loop QbK 0 QtE Qzb (QAb K) ⟨[(1,(.p 0 0 0)),(3,(zci ((gtd dOp s.2.2.1 (Int.toNat (0:Int))).2.1))),(4,(zci ((gtd dOp s.2.2.1 (Int.toNat (w64 (((s.2.2.1).length:Int)-(1:Int))))).2.2.1))),(5,(zci i))],[(0,(.box (Tup.cells Qu s)))],1⟩
theorem Qxe (s:Qc) (k:Int) (i1:Int) (h :
 (zif (decide (k<(((gtd ZR s.2.2.2.2.2.1 (Int.toNat i1)).2).length:Int))) ((((0:Int)≤k∧Int.toNat k<((gtd ZR s.2.2.2.2.2.1 (Int.toNat i1)).2).length)∧((!(!(QW (gtd ([]:List Int) ((gtd ZR s.2.2.2.2.2.1 (Int.toNat i1)).2) (Int.toNat k)))))=true→(((0:Int)≤k∧Int.toNat k<((gtd ZR s.2.2.2.2.2.1 (Int.toNat i1)).2).length)∧((0:Int)≤w64 (k-(1:Int))∧Int.toNat (w64 (k-(1:Int)))<(s.2.2.1).length))))∧(zif ((!(QW (gtd ([]:List Int) ((gtd ZR s.2.2.2.2.2.1 (Int.toNat i1)).2) (Int.toNat k))))||(((gtd ([]:List Int) ((gtd ZR s.2.2.2.2.2.1 (Int.toNat i1)).2) (Int.toNat k)).length:Int) != ((gtd dOp s.2.2.1 (Int.toNat (w64 (k-(1:Int))))).2.2.1))) (K (Ja false)) (QfR K s (w64 (k+(1:Int))) i1))) (QeC K s (w64 (i1+(1:Int)))))):QfR K s k i1 :=
 Loop.of (by kernel_rfl) h
theorem Qxx (s:Qc) (i1:Int) (h :
 let z1:=gtd ZR s.2.2.2.2.2.1 (Int.toNat i1)
 let z2:=gtd ([]:List Int) (z1.2) (Int.toNat (0:Int))
 let z3:=gtd dOp s.2.2.1 (Int.toNat (0:Int))
 let z4:=gtd dOp s.2.2.1 (Int.toNat (w64 (((s.2.2.1).length:Int)-(1:Int))))
 (zif (decide (i1<((s.2.2.2.2.2.1).length:Int))) (((0:Int)≤i1∧Int.toNat i1<(s.2.2.2.2.2.1).length)∧((((!(((z1.2).length:Int)==(0:Int)))=true→((0:Int)≤(0:Int)∧Int.toNat (0:Int)<(z1.2).length))∧((!((((z1.2).length:Int)==(0:Int))||(!(QW z2))))=true→((0:Int)≤(0:Int)∧Int.toNat (0:Int)<(z1.2).length)))∧(zif (((((((z1.2).length:Int)==(0:Int))||(!(QW z2)))||((z2.length:Int) != (z3.2.1)))||((!s.2.2.2.2.1)&&(((z1.2).length:Int) != (w64 (((s.2.2.1).length:Int)+(1:Int))))))||(s.2.2.2.2.1&&(((z1.2).length:Int) != (1:Int)))) (K (Ja false)) (QfR K s 1 i1)))) (K (Ja ((((Z7 s.2.2.2.2.2.2.2.1 (z3.2.1))&&(Z7 s.2.2.2.2.2.2.2.2.1 (z4.2.2.1)))&&(Z7 s.2.2.2.2.2.2.2.2.2.1 (z4.2.2.1)))&&(Z7 s.2.2.2.2.2.2.2.2.2.2.1 (z3.2.1))))))):QeC K s i1 :=
 Loop.of (by kernel_rfl) h
theorem QwR (s:Qc) (i:Int) (h :
 (zif (decide (i<((s.2.2.1).length:Int))) ((((0:Int)≤i∧Int.toNat i<(s.2.2.2.2.2.2.2.2.2.2.2.1).length)∧((0:Int)≤i∧Int.toNat i<(s.2.2.1).length))∧(zif (((gtd ([]:List Int) s.2.2.2.2.2.2.2.2.2.2.2.1 (Int.toNat i)).length:Int) != (((gtd dOp s.2.2.1 (Int.toNat i)).2.2.2).length:Int)) (K (Ja false)) (Qhg K s (w64 (i+(1:Int)))))) (QeC K s 0))):Qhg K s i :=
 Loop.of (by kernel_rfl) h
theorem QHq (s:Qc) (h :
 (zif (((!(QE s.2.2.1))||(!(m_in s.1 (0:Int) ((s.2.1).length:Int))))||(((s.2.2.2.2.2.2.2.2.2.2.2.1).length:Int) != ((s.2.2.1).length:Int))) (K (Ja false)) (((0:Int)≤(0:Int)∧Int.toNat (0:Int)<(s.2.2.1).length)∧(((0:Int)≤w64 (((s.2.2.1).length:Int)-(1:Int))∧Int.toNat (w64 (((s.2.2.1).length:Int)-(1:Int)))<(s.2.2.1).length)∧(Qhg K s 0))))):Hold (tawp QbK (0+0) QIm (TQ 0 0 Qq2 K) (Qf [(.a (Tup.cells Qu s))])) :=
 Hold.of (by kernel_rfl) h
theorem QOZ (s:Qc):TCon Tryz.prog 41 [(.a (Tup.cells Qu s))] (Ja (QS s)):=by
 refine Qr rfl fun hb=>tcg (n:=177) (sg:=QmW.sg) Qk (TOk.cons Qdn (TOk.cons JM (TOk.cons Qea (TOk.cons QON TOk.nil)))) (by kernel_rfl) (by kernel_rfl) (QHq _ s ?_)
 have hl_s_1:(s.2.1).length≤9223372036854775807:=hb.1.2.1.1
 have hl_s_2:(s.2.2.1).length≤9223372036854775807:=hb.1.2.2.1.1
 have hl_s_5:(s.2.2.2.2.2.1).length≤9223372036854775807:=hb.1.2.2.2.2.2.1.1
 have hl_s_6:(s.2.2.2.2.2.2.1).length≤9223372036854775807:=hb.1.2.2.2.2.2.2.1.1
 have hl_s_7:(s.2.2.2.2.2.2.2.1).length≤9223372036854775807:=hb.1.2.2.2.2.2.2.2.1.1
 have hl_s_8:(s.2.2.2.2.2.2.2.2.1).length≤9223372036854775807:=hb.1.2.2.2.2.2.2.2.2.1.1
 have hl_s_9:(s.2.2.2.2.2.2.2.2.2.1).length≤9223372036854775807:=hb.1.2.2.2.2.2.2.2.2.2.1.1
 have hl_s_10:(s.2.2.2.2.2.2.2.2.2.2.1).length≤9223372036854775807:=hb.1.2.2.2.2.2.2.2.2.2.2.1.1
 have hl_s_11:(s.2.2.2.2.2.2.2.2.2.2.2.1).length≤9223372036854775807:=hb.1.2.2.2.2.2.2.2.2.2.2.2.1.1
 refine ⟨fun h=>R_eq (by grind [QS,Y6]),fun h=>?_⟩
 have h0:QE s.2.2.1=true∧m_in s.1 0 s.2.1.length=true∧s.2.2.2.2.2.2.2.2.2.2.2.1.length=s.2.2.1.length:=by
  have:((s.2.2.2.2.2.2.2.2.2.2.2.1.length:Int) != (s.2.2.1.length:Int))=false:=by grind
  have h3:s.2.2.2.2.2.2.2.2.2.2.2.1.length=s.2.2.1.length:=by
   have h4:((s.2.2.2.2.2.2.2.2.2.2.2.1.length:Int)==(s.2.2.1.length:Int))=true:=by simpa [bne] using this
   have:=of_decide_eq_true (by simpa using h4:decide ((s.2.2.2.2.2.2.2.2.2.2.2.1.length:Int)=s.2.2.1.length)=true)
   omega
  grind
 have hm:=YM h0.1
 have eo:=QaD (n:=s.2.2.1.length) hm.1 (by omega)
 have ei:QX s.2.2.1=(gtd dOp s.2.2.1 0).2.1:=by simp [QX,h0.1]
 have eu:Q1 s.2.2.1=(gtd dOp s.2.2.1 (s.2.2.1.length-1)).2.2.1:=by simp [Q1,h0.1]
 have hk9:1≤ZX s∧ZX s≤s.2.2.1.length+1:=by unfold ZX;split <;> omega
 have saved:Y6 s.2.2.1 s.2.2.2.2.2.2.2.2.2.2.2.1=true→QeC (fun r'=>r'=Ja (QS s)) s ((0:Nat):Int):=by
  intro hgf
  refine Zz s.2.2.2.2.2.1 (fun r k=>r.all (YC s)=s.2.2.2.2.2.1.all (YC s)→QeC (fun r'=>r'=Ja (QS s)) s k) ?_ ?_ rfl
  ·intro he
   refine Qxx (fun r'=>r'=Ja (QS s)) s _ ⟨fun h=>by simp at h,fun _=>R_eq ?_⟩
   rw [eo.1]
   grind [QS]
  ·intro k x r hk hlt hg ih he
   have hbx:x.2.length≤9223372036854775807:=by
    have hmem:x∈s.2.2.2.2.2.1:=List.mem_of_mem_drop (i:=k) (by rw [hk];exact List.mem_cons_self)
    exact (hb.1.2.2.2.2.2.1.2 x hmem).2.1.1
   have rows:(x.2.length:Int)=ZX s→∀ (q:List (List Int)) (j:Nat),1≤j→x.2.drop j=q→j≤x.2.length→YB s.2.2.1 j q=YC s x→QfR (fun r'=>r'=Ja (QS s)) s j k:=by
    intro hlen q
    induction q with
    | nil =>
     intro j h1 hj hle hgo
     have:x.2.length≤j:=by simpa using hj
     refine Qxe (fun r'=>r'=Ja (QS s)) s _ _ ⟨fun h=>?_,fun _=>?_⟩
     ·rw [Int.toNat_natCast,hg] at h;simp at h;omega
     ·rw [Qp (x:=(k:Int)+1) (by omega) (by omega)]
      refine ih ?_
      simp only [YB] at hgo
      rw [← he,List.all_cons,← hgo,Bool.true_and]
    | cons z q ihq =>
     intro j h1 hj hle hgo
     have hjl:=Qe6 hj
     have e2:=QaD h1 (by omega:j≤9223372036854775807)
     have hsz:=QKd h0.1 h1 (by omega:j≤s.2.2.1.length)
     refine Qxe (fun r'=>r'=Ja (QS s)) s _ _ ⟨fun _=>?_,fun h=>?_⟩
     ·rw [Int.toNat_natCast,Int.toNat_natCast,hg,Y1 hj,e2.1,Qp (x:=(j:Int)+1) (by omega) (by omega)]
      rw [YB,hsz] at hgo
      refine ⟨⟨⟨by omega,hjl⟩,fun _=>⟨⟨by omega,hjl⟩,e2.2,by omega⟩⟩,fun h=>R_eq ?_,fun h=>ihq (j+1) (by omega) (YL hj) hjl ?_⟩
      ·have hf:YC s x=false:=by rw [← hgo];grind [Qq]
       have:s.2.2.2.2.2.1.all (YC s)=false:=by rw [← he,List.all_cons,hf];rfl
       simp [QS,this]
      ·rw [← hgo];grind [Qq]
     ·rw [Int.toNat_natCast,hg] at h;simp at h;omega
   refine Qxx (fun r'=>r'=Ja (QS s)) s _ ⟨fun _=>?_,fun h=>by simp at h;omega⟩
   rw [Int.toNat_natCast,hg]
   have bad:YC s x=false→false=QS s:=by
    intro hf
    have:s.2.2.2.2.2.1.all (YC s)=false:=by rw [← he,List.all_cons,hf];rfl
    simp [QS,this]
   have ek:w64 ((s.2.2.1.length:Int)+1)=s.2.2.1.length+1:=Qp (by omega) (by omega)
   rw [ek]
   cases hx:x.2 with
   | nil =>
    refine ⟨⟨by omega,hlt⟩,⟨by simp,by simp⟩,fun _=>R_eq (bad ?_),fun h=>by simp at h⟩
    simp [YC,hx];omega
   | cons z q =>
    have z0:gtd ([]:List Int) (z::q) (Int.toNat 0)=z:=QbR _ _ _
    rw [z0]
    have hsz:Jd s.2.2.1 0=(gtd dOp s.2.2.1 (Int.toNat 0)).2.1:=QD4 h0.1
    rw [← hsz]
    have main:(((q.length+1:Nat):Int)==ZX s)=true→YC s x=(Qq z (Jd s.2.2.1 0)&&YB s.2.2.1 1 q):=by
     intro h
     have h:((q.length+1:Nat):Int)=ZX s:=by simpa using h
     have e:(z::q).take (ZX s).toNat=z::q:=by rw [List.take_of_length_le];simp;omega
     simp only [YC,hx,YG,e,YB]
     simp;omega
    refine ⟨⟨by omega,hlt⟩,⟨fun _=>by simp,fun _=>by simp⟩,fun h=>R_eq (bad ?_),fun h=>?_⟩
    ·by_cases hl:(((q.length+1:Nat):Int)==ZX s)=true
     ·rw [main hl]
      have hl:((q.length+1:Nat):Int)=ZX s:=by simpa using hl
      unfold ZX at hl
      by_cases hr:s.2.2.2.2.1=true
      ·rw [if_pos hr] at hl
       simp [hr] at h
       grind [Qq]
      ·rw [if_neg hr] at hl
       simp [hr] at h
       grind [Qq]
     ·have:(((x.2.length:Nat):Int)==ZX s)=false:=by rw [hx];simpa using hl
      simp [YC,this]
    ·have hl:((q.length+1:Nat):Int)=ZX s:=by
      unfold ZX
      by_cases hr:s.2.2.2.2.1=true
      ·rw [if_pos hr];simp [hr] at h;omega
      ·rw [if_neg hr];simp [hr] at h;omega
     have hv:Qq z (Jd s.2.2.1 0)=true:=by simp at h;simp [Qq,h]
     refine rows (by rw [hx];simpa using hl) q 1 (Nat.le_refl _) (by rw [hx];rfl) (by rw [hx];simp) ?_
     rw [main (by simpa using hl),hv,Bool.true_and]
 refine ⟨⟨by omega,by simp;omega⟩,⟨eo.2,by rw [eo.1];omega⟩,?_⟩
 refine Zz s.2.2.1 (fun r k=>ZQ r (s.2.2.2.2.2.2.2.2.2.2.2.1.drop k)=ZQ s.2.2.1 s.2.2.2.2.2.2.2.2.2.2.2.1→Qhg (fun r'=>r'=Ja (QS s)) s k) ?_ ?_ rfl
 ·intro he
  refine QwR (fun r'=>r'=Ja (QS s)) s _ ⟨fun h=>by simp at h,fun _=>saved ?_⟩
  grind [Y6,ZQ]
 ·intro k x r hk hlt hg ih he
  obtain ⟨y,q,hq⟩:∃ y q,s.2.2.2.2.2.2.2.2.2.2.2.1.drop k=y::q:=by
   cases hq:s.2.2.2.2.2.2.2.2.2.2.2.1.drop k with
   | nil=>have:=congrArg List.length hq;simp at this;omega
   | cons y q=>exact ⟨y,q,rfl⟩
  refine QwR (fun r'=>r'=Ja (QS s)) s _ ⟨fun _=>?_,fun h=>by simp at h;omega⟩
  rw [Int.toNat_natCast,hg,Y1 hq,Qp (x:=(k:Int)+1) (by omega) (by omega)]
  rw [hq,ZQ] at he
  rw [YL hq] at ih
  refine ⟨⟨⟨by omega,by omega⟩,by omega,hlt⟩,fun h=>R_eq ?_,fun h=>ih ?_⟩
  ·grind [QS,Y6]
  ·grind
theorem QO0:Qj Tryz.prog QmW:=Ql fun x _=>QOZ x.1
end
end Go.Proofs.YtjbdljkhbglnhaaGreat.Am

