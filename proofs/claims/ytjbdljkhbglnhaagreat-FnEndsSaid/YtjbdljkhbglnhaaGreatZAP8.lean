/- -/
import Derived.Test.YtjbdljkhbglnhaaGreatZAP1
import Derived.Test.YtjbdljkhbglnhaaGreatZAP4
namespace Go.Proofs.YtjbdljkhbglnhaaGreat.Am
open Go Go.RowKit Go.Proofs.YtjbdljkhbglnhaaGreat
set_option linter.all false
noncomputable section
variable (K:TRes→Prop)
def QmV (t:(List TOp')):TRes:=zra (.a [(zcs ctOp t)])
def QdE:TRow:=Qj 112 [(.a Qs)] fun x=>(none,QmV (ZU x.1))
def QRF:List TRow:=[]
def QGP:TCode :=
 (zsq [(.reg [zop 1 (.box 63 0 14),zop 2 (.new 26 [(.n ctOp)])]),(.reg [zfa 3 1 2,zld 4 3 1,zop 5 (.build [(.n ctOp)] [(0,1,4)]),zst 2 5 1]),.ret])
def QNO:List (ARv × Md):=[(.l 2 1 true,.b [.d])]
theorem QAB (s:Qc) (h :
 K (QmV s.2.2.1)):Hold (tawp QRF (0+0) QGP (TQ 0 0 QNO K) (Qf [(.a (Tup.cells Qs s))])) :=
 Hold.of (by kernel_rfl) h
theorem QGG (s:Qc):TCon Tryz.prog 112 [(.a (Tup.cells Qs s))] (QmV (ZU s)):=by
 refine Qq rfl fun hb=>tcg (n:=6) (sg:=QdE.sg) Ql TOk.nil (by kernel_rfl) (by kernel_rfl) (QAB _ s ?_)
 have hl_s_1:(s.2.1).length≤9223372036854775807:=hb.1.2.1.1
 have hl_s_2:(s.2.2.1).length≤9223372036854775807:=hb.1.2.2.1.1
 have hl_s_5:(s.2.2.2.2.2.1).length≤9223372036854775807:=hb.1.2.2.2.2.2.1.1
 have hl_s_6:(s.2.2.2.2.2.2.1).length≤9223372036854775807:=hb.1.2.2.2.2.2.2.1.1
 have hl_s_7:(s.2.2.2.2.2.2.2.1).length≤9223372036854775807:=hb.1.2.2.2.2.2.2.2.1.1
 have hl_s_8:(s.2.2.2.2.2.2.2.2.1).length≤9223372036854775807:=hb.1.2.2.2.2.2.2.2.2.1.1
 have hl_s_9:(s.2.2.2.2.2.2.2.2.2.1).length≤9223372036854775807:=hb.1.2.2.2.2.2.2.2.2.2.1.1
 have hl_s_10:(s.2.2.2.2.2.2.2.2.2.2.1).length≤9223372036854775807:=hb.1.2.2.2.2.2.2.2.2.2.2.1.1
 have hl_s_11:(s.2.2.2.2.2.2.2.2.2.2.2.1).length≤9223372036854775807:=hb.1.2.2.2.2.2.2.2.2.2.2.2.1.1
 exact R_eq rfl
theorem QhA:Qi Tryz.prog QdE:=Qm fun x _=>QGG x.1
def Qbt (t:Bool):TRes:=zre (zcb t)
def Qog:TRow:=Qj 185 [(.a [(.sl ctOp)]),(.c (.sl [(.sl [TI])]))] fun x=>(none,Qbt (JI x.1 x.2.1))
def Qm3:List TRow:=[]
def Qq6:TCode :=
 (zsq [(.reg [zbi 17 .lss 16 15]),(.cond 17 .skip (.exit 0)),(.block 1 (zsq [(.reg [zmv 18 16,zia 19 14 16 ctOp,zLd 20 19 4,zop 6 (.new 69 (z0s ctOp)),zmv 5 18,zst 6 20 4]),(.draw [zmv 21 1,zmv 22 5,zia 23 21 22 [(.sl [TI])],zfa 24 23 0,zld 25 24 1,zle 26 25,zfa 27 6 3,zld 28 27 1,zle 29 28,zbi 30 .neq 26 29] []),(.cond 30 (zsq [(.reg [zmv 4 (zkb false)]),.ret]) .skip)])),(.reg [zbi 31 .add 16 (zki 1),zmv 16 31])])
def Qqx:List (Nat × Md):=zdl [1,14,15,16]
def QqO:TCode :=
 (zsq [(.reg [zmv 4 (zkb true)]),.ret])
def QCc:TCode :=
 (zsq [(.reg [zop 2 (.box 26 0 1),zmv 4 (zkb false)]),(zsq [(.reg [zmv 7 1,zle 8 7,zfa 9 2 0,zld 10 9 1,zle 11 10,zbi 12 .neq 8 11]),(.cond 12 (zsq [(.reg [zmv 4 (zkb false)]),.ret]) .skip)]),(zsq [(.reg [zfa 13 2 0,zld 14 13 1,zle 15 14,zmv 16 (zki 0)]),(.block 0 (.loop Qqx Qq6))]),QqO])
def Qxw:List (ARv × Md):=[(.t 4,.one .d)]
def QoY:Qb:=TQ 0 0 Qxw K
def QCn:Qb:=Qseq (tawp Qm3 0 QqO (QoY K)) (QoY K)
def QHz:Qb:=Qblk 0 (QCn K)
def Qi4 (m:List TOp') (rows:List (List Int)) (x:Int):Prop:=Loop Qm3 0 Qqx Qq6 (QHz K) ⟨[(1,(zcs [(.sl [TI])] rows)),(14,(zcs ctOp m)),(15,(zci (m.length:Int))),(16,(zci x))],[],0⟩
theorem Qu9 (m:List TOp') (rows:List (List Int)) (x:Int) (h :
 (zif (decide (x<(m.length:Int))) (((0:Int)≤x∧Int.toNat x<m.length)∧(((0:Int)≤x∧Int.toNat x<rows.length)∧(zif (((gtd ([]:List Int) rows (Int.toNat x)).length:Int) != (((gtd dOp m (Int.toNat x)).2.2.2).length:Int)) (K (Qbt false)) (Qi4 K m rows (w64 (x+(1:Int))))))) (K (Qbt true)))):Qi4 K m rows x :=
 Loop.of (by kernel_rfl) h
theorem QEx (m:List TOp') (rows:List (List Int)) (h :
 (zif ((rows.length:Int) != (m.length:Int)) (K (Qbt false)) (Qi4 K m rows 0))):Hold (tawp Qm3 (0+0) QCc (TQ 0 0 Qxw K) (Qf [(.a [(.c (.sl ctOp) m)]),(.c (.sl [(.sl [TI])]) rows)])) :=
 Hold.of (by kernel_rfl) h
theorem QFZ (m:List TOp') (rows:List (List Int)):TCon Tryz.prog 185 [(.a [(.c (.sl ctOp) m)]),(.c (.sl [(.sl [TI])]) rows)] (Qbt (JI m rows)):=by
 refine Qq rfl fun hb=>tcg (n:=32) (sg:=Qog.sg) Ql TOk.nil (by kernel_rfl) (by kernel_rfl) (QEx _ m rows ?_)
 have hl_m_0:(m).length≤9223372036854775807:=hb.1.1.1
 have hl_rows:rows.length≤9223372036854775807:=hb.2.1.1
 refine ⟨fun h=>R_eq (by grind [JI]),fun h=>?_⟩
 have hl:rows.length=m.length:=by
  have:((rows.length:Int)==(m.length:Int))=true:=by simpa [bne] using h
  have:=of_decide_eq_true (by simpa using this:decide ((rows.length:Int)=m.length)=true)
  omega
 refine Zj m (fun r k=>Z6 r (rows.drop k)=Z6 m rows→Qi4 (fun r'=>r'=Qbt (JI m rows)) m rows k) ?_ ?_ rfl
 ·intro he
  refine Qu9 (fun r'=>r'=Qbt (JI m rows)) m rows _ ⟨fun h=>by simp at h,fun _=>R_eq ?_⟩
  grind [JI,Z6]
 ·intro k x r hk hlt hg ih he
  obtain ⟨y,q,hq⟩:∃ y q,rows.drop k=y::q:=by
   cases hq:rows.drop k with
   | nil=>have:=congrArg List.length hq;simp at this;omega
   | cons y q=>exact ⟨y,q,rfl⟩
  refine Qu9 (fun r'=>r'=Qbt (JI m rows)) m rows _ ⟨fun _=>?_,fun h=>by simp at h;omega⟩
  rw [Int.toNat_natCast,hg,Y3 hq,Qp (x:=(k:Int)+1) (by omega) (by omega)]
  rw [hq,Z6] at he
  rw [YS hq] at ih
  refine ⟨⟨by omega,hlt⟩,⟨by omega,by omega⟩,fun h=>R_eq ?_,fun h=>ih ?_⟩
  ·grind [JI]
  ·grind
theorem QHy:Qi Tryz.prog Qog:=Qm fun x _=>QFZ x.1 x.2.1
def Qa9 (t:Bool):TRes:=zre (zcb t)
def QgH:TRow:=Qj 123 [(.c (.sl ctOp)),(.c (.sl [(.sl [TI])])),(.c TI)] fun x=>(some (Qh4 x.1 x.2.1 x.2.2.1),Qa9 (YE x.1 x.2.1 x.2.2.1))
def Qdf:List TRow:=[JJ]
def Qv6:TCode :=
 (zsq [(.reg [zmv 30 1,zmv 31 7,zia 32 30 31 [(.sl [TI])],zfa 33 32 0,zld 34 33 1,zmv 35 8,zca 36 114 [34,35],zno 37 36]),(.cond 37 (zsq [(.reg [zmv 6 (zkb false)]),.ret]) .skip)])
def QIH:List (Nat × Md):=zdl [0,1,2,7,8]
def QHS:TCode:=.wk QIH Qv6
def Qps:TCode :=
 (.reg [zmv 12 7,zbi 13 .add 12 (zki 1),zmv 7 13])
def QjF:TCode :=
 (zsq [(zsq [(.reg [zmv 9 7,zmv 10 2,zbi 11 .lss 9 10]),(.cond 11 .skip (.exit 0))]),(.block 1 (zsq [(.reg [zmv 14 0,zmv 15 0,zle 16 15,zbi 17 .sub 16 (zki 1),zia 18 14 17 ctOp,zfa 19 18 2,zld 20 19 1,zmv 8 20]),(zsq [(.reg [zmv 21 7,zmv 22 0,zle 23 22,zbi 24 .lss 21 23]),(.cond 24 (.reg [zmv 25 0,zmv 26 7,zia 27 25 26 ctOp,zfa 28 27 1,zld 29 28 1,zmv 8 29]) .skip)]),QHS])),Qps])
def Qhh:List (Nat × Md):=zdl [0,1,2,7]
def Qy7:TCode :=
 (zsq [(.reg [zmv 6 (zkb true)]),.ret])
def QPa:TCode :=
 (zsq [(.reg [zmv 6 (zkb false)]),(zsq [(.reg [zmv 7 (zki 0)]),(.block 0 (.loop Qhh QjF))]),Qy7])
def Qrd:List (ARv × Md):=[(.t 6,.one .d)]
def Qty:Qb:=TQ 0 0 Qrd K
def QFS:Qb:=Qseq (tawp Qdf 0 Qy7 (Qty K)) (Qty K)
def Qnz:Qb:=Qblk 0 (QFS K)
def Qrf:Qb:=Qseq (fun s'=>Loop Qdf 0 Qhh QjF (Qnz K) (gc 0 Qhh s')) (Qnz K)
def QG8:Qb:=Qseq (tawp Qdf 0 Qps (Qrf K)) (Qrf K)
def QFh:Qb:=Qblk 1 (QG8 K)
def QfV (ops:List TOp') (rows:List (List Int)) (n:Int) (size:Int) (i:Int):Prop:=tawp Qdf 0 Qv6 (QFh K) ⟨[(0,(zcs ctOp ops)),(1,(zcs [(.sl [TI])] rows)),(2,(zci n)),(7,(zci i)),(8,(zci size))],[],0⟩
def Qhb (ops:List TOp') (rows:List (List Int)) (n:Int) (i:Int):Prop:=Loop Qdf 0 Qhh QjF (Qnz K) ⟨[(0,(zcs ctOp ops)),(1,(zcs [(.sl [TI])] rows)),(2,(zci n)),(7,(zci i))],[],0⟩
theorem QAs (ops:List TOp') (rows:List (List Int)) (n:Int) (size:Int) (i:Int) (h :
 (((0:Int)≤i∧Int.toNat i<rows.length)∧(zif (!(Qt (gtd ([]:List Int) rows (Int.toNat i)) size)) (K (Qa9 false)) (Qhb K ops rows n (w64 (i+(1:Int))))))):Hold (QfV K ops rows n size i) :=
 Hold.of (by kernel_rfl) h
theorem QpS (ops:List TOp') (rows:List (List Int)) (n:Int) (i:Int) (h :
 (zif (decide (i<n)) (((0:Int)≤w64 ((ops.length:Int)-(1:Int))∧Int.toNat (w64 ((ops.length:Int)-(1:Int)))<ops.length)∧(zif (decide (i<(ops.length:Int))) (((0:Int)≤i∧Int.toNat i<ops.length)∧(QfV K ops rows n ((gtd dOp ops (Int.toNat i)).2.1) i)) (QfV K ops rows n ((gtd dOp ops (Int.toNat (w64 ((ops.length:Int)-(1:Int))))).2.2.1) i))) (K (Qa9 true)))):Qhb K ops rows n i :=
 Loop.of (by kernel_rfl) h
theorem QKl (ops:List TOp') (rows:List (List Int)) (n:Int) (h :
 (Qhb K ops rows n 0)):Hold (tawp Qdf (0+0) QPa (TQ 0 0 Qrd K) (Qf [(.c (.sl ctOp) ops),(.c (.sl [(.sl [TI])]) rows),(.c TI n)])) :=
 Hold.of (by kernel_rfl) h
theorem QGT (ops:List TOp') (rows:List (List Int)) (n:Int) (hp:Qh4 ops rows n):TCon Tryz.prog 123 [(.c (.sl ctOp) ops),(.c (.sl [(.sl [TI])]) rows),(.c TI n)] (Qa9 (YE ops rows n)):=by
 refine Qq rfl fun hb=>tcg (n:=38) (sg:=QgH.sg) Ql (TOk.cons Qak TOk.nil) (by kernel_rfl) (by kernel_rfl) (QKl _ ops rows n ?_)
 have hl_ops:ops.length≤9223372036854775807:=hb.1.1
 have hl_rows:rows.length≤9223372036854775807:=hb.2.1.1
 have:=Qm7 rows 0 n (Int.le_refl 0) hp.2.1 hp.2.2 (fun r k=>Je ops k r=(YE ops rows n)→Qhb (fun r'=>r'=Qa9 (YE ops rows n)) ops rows n k) ?_ ?_ (by simp [YE,slice])
 ·exact this
 ·intro he
  refine QpS (fun r'=>r'=Qa9 (YE ops rows n)) ops rows n _ ⟨fun h=>by simp at h;omega,fun _=>R_eq ?_⟩
  simpa [Je] using he
 ·intro k x r h1 h2 hlt hg ih he
  have e:=QcH hp.1 hl_ops
  have key:QfV (fun r'=>r'=Qa9 (YE ops rows n)) ops rows n (Qbb ops k) k:=by
   refine (QAs (fun r'=>r'=Qa9 (YE ops rows n)) ops rows n _ _ ?_).h
   rw [Int.toNat_natCast,hg,Qp (x:=(k:Int)+1) (by omega) (by omega)]
   rw [Je] at he
   refine ⟨⟨by omega,hlt⟩,fun h=>R_eq ?_,fun h=>ih ?_⟩ <;> grind
  refine QpS (fun r'=>r'=Qa9 (YE ops rows n)) ops rows n _ ⟨fun _=>?_,fun h=>by simp at h;omega⟩
  rw [e.1,Int.toNat_natCast]
  refine ⟨⟨e.2,by have:=hp.1;omega⟩,fun h=>⟨⟨by omega,by simpa using h⟩,?_⟩,fun h=>?_⟩
  ·rw [Qbb,if_pos (by simpa using h)] at key;exact key
  ·rw [Qbb,if_neg (by simpa using h)] at key;exact key
theorem Qxd:Qi Tryz.prog QgH:=Qm fun x h=>QGT x.1 x.2.1 x.2.2.1 h
def J9 (t:Bool):TRes:=zre (zcb t)
def QdC:TRow:=Qj 113 [(.a Qs)] fun x=>(none,J9 (Q9 x.1))
def Qir:List TRow:=[QdE,JS,Qog,QgH,Qdg,Qdn,Qln]
def QtF:TCode :=
 (zsq [(.reg [zbi 45 .lss 44 43]),(.cond 45 .skip (.exit 0)),(.block 1 (zsq [(.reg [zia 46 42 44 Zo,zLd 47 46 2,zop 6 (.new 76 (z0s Zo)),zst 6 47 2]),(.reg [zfa 48 6 1,zld 49 48 1,zle 50 49,zmv 51 4,zbi 52 .neq 50 51,zmv 53 52,.grp 53 false [zfa 54 1 2,zld 55 54 1,zfa 56 6 1,zld 57 56 1,zmv 58 4,zca 59 123 [55,57,58],zno 60 59] 61 60]),(.cond 61 (zsq [(.reg [zmv 2 (zkb false)]),.ret]) .skip)])),(.reg [zbi 62 .add 44 (zki 1),zmv 44 62])])
def QvP:List (Nat × Md):=[(1,.b (zds 14)),(3,.b [.d]),(4,.one .d),(42,.one .d),(43,.one .d),(44,.one .d)]
def QrX:TCode :=
 (zsq [(.draw [zLd 63 3 1,zca 64 115 [63],zLd 65 3 1,zca 66 117 [65],zmv 7 64,zmv 8 66] [(1,2)]),(.reg [zfa 67 1 7,zld 68 67 1,zmv 69 7,zca 70 186 [68,69],zmv 71 70,.grp 71 true [zfa 72 1 10,zld 73 72 1,zmv 74 7,zca 75 186 [73,74]] 76 75,zmv 77 76,.grp 77 true [zfa 78 1 8,zld 79 78 1,zmv 80 8,zca 81 186 [79,80]] 82 81,zmv 83 82,.grp 83 true [zfa 84 1 9,zld 85 84 1,zmv 86 8,zca 87 186 [85,86]] 88 87,zmv 2 88]),.ret])
def QtG:TCode :=
 (zsq [(zsq [(.reg [zfa 41 1 5,zld 42 41 1,zle 43 42,zmv 44 (zki 0)]),(.block 0 (.loop QvP QtF))]),QrX])
def QFV:List (Nat × Md):=[(1,.b (zds 14)),(3,.b [.d]),(4,.one .d)]
def QAU:TCode:=.wk QFV QtG
def QQa:TCode :=
 (zsq [(.reg [zop 1 (.box 63 0 14),zmv 2 (zkb false)]),(.reg [zLd 9 1 14,zca 10 112 [9],zop 3 (.new 26 [(.n ctOp)]),zst 3 10 1]),(zsq [(.reg [zLd 11 3 1,zca 12 131 [11],zno 13 12,zmv 14 13,.grp 14 false [zfa 15 1 0,zld 16 15 1,zbi 17 .lss 16 (zki 0)] 18 17,zmv 19 18,.grp 19 false [zfa 20 1 0,zld 21 20 1,zfa 22 1 1,zld 23 22 1,zle 24 23,zbi 25 .gtr 21 24] 26 25,zmv 27 26,.grp 27 false [zLd 28 3 1,zfa 29 1 11,zfa 30 29 0,zld 31 30 1,zca 32 185 [28,31],zno 33 32] 34 33]),(.cond 34 (zsq [(.reg [zmv 2 (zkb false)]),.ret]) .skip)]),(.reg [zfa 35 1 2,zld 36 35 1,zle 37 36,zbi 38 .add 37 (zki 1),zmv 4 38]),(zsq [(.reg [zfa 39 1 4,zld 40 39 1]),(.cond 40 (.reg [zmv 4 (zki 1)]) .skip)]),QAU])
def QqR:List (ARv × Md):=[(.t 2,.one .d)]
def Qjv:Qb:=TQ 0 0 QqR K
def QHh:Qb:=Qseq (tawp Qir 0 QrX (Qjv K)) (Qjv K)
def QIz:Qb:=Qblk 0 (QHh K)
def QeQ (s:Qc) (kept:Int) (x:Int):Prop:=Loop Qir 0 QvP QtF (QIz K) ⟨[(1,(.p 0 0 0)),(3,(.p 1 0 0)),(4,(zci kept)),(42,(zcs Zo s.2.2.2.2.2.1)),(43,(zci ((s.2.2.2.2.2.1).length:Int))),(44,(zci x))],[(0,(.box (Tup.cells Qs s))),(1,(.box [(zcs ctOp (ZU s))]))],2⟩
def Qjo (s:Qc) (kept:Int):Prop:=tawp Qir 0 QtG (Qjv K) ⟨[(1,(.p 0 0 0)),(3,(.p 1 0 0)),(4,(zci kept))],[(0,(.box (Tup.cells Qs s))),(1,(.box [(zcs ctOp (ZU s))]))],2⟩
theorem Qto (s:Qc) (kept:Int) (x:Int) (h :
 (zif (decide (x<((s.2.2.2.2.2.1).length:Int))) (((0:Int)≤x∧Int.toNat x<(s.2.2.2.2.2.1).length)∧(((!((((gtd Ya s.2.2.2.2.2.1 (Int.toNat x)).2).length:Int) != kept))=true→(Qh4 s.2.2.1 ((gtd Ya s.2.2.2.2.2.1 (Int.toNat x)).2) kept))∧(zif (((((gtd Ya s.2.2.2.2.2.1 (Int.toNat x)).2).length:Int) != kept)||(!(YE s.2.2.1 ((gtd Ya s.2.2.2.2.2.1 (Int.toNat x)).2) kept))) (K (J9 false)) (QeQ K s kept (w64 (x+(1:Int))))))) (K (J9 ((((YU s.2.2.2.2.2.2.2.1 (QZ (ZU s)))&&(YU s.2.2.2.2.2.2.2.2.2.2.1 (QZ (ZU s))))&&(YU s.2.2.2.2.2.2.2.2.1 (Q3 (ZU s))))&&(YU s.2.2.2.2.2.2.2.2.2.1 (Q3 (ZU s)))))))):QeQ K s kept x :=
 Loop.of (by kernel_rfl) h
theorem QtY (s:Qc) (kept:Int) (h :
 (QeQ K s kept 0)):Hold (Qjo K s kept) :=
 Hold.of (by kernel_rfl) h
theorem QFF (s:Qc) (h :
 (zif ((((!(QM (ZU s)))||(decide (s.1<(0:Int))))||(decide (s.1>((s.2.1).length:Int))))||(!(JI (ZU s) s.2.2.2.2.2.2.2.2.2.2.2.1))) (K (J9 false)) (zif s.2.2.2.2.1 (Qjo K s 1) (Qjo K s (w64 (((s.2.2.1).length:Int)+(1:Int))))))):Hold (tawp Qir (0+0) QQa (TQ 0 0 QqR K) (Qf [(.a (Tup.cells Qs s))])) :=
 Hold.of (by kernel_rfl) h
theorem QO7 (s:Qc):TCon Tryz.prog 113 [(.a (Tup.cells Qs s))] (J9 (Q9 s)):=by
 refine Qq rfl fun hb=>tcg (n:=89) (sg:=QdC.sg) Ql (TOk.cons QhA (TOk.cons QaQ (TOk.cons QHy (TOk.cons Qxd (TOk.cons QhX (TOk.cons Qf8 (TOk.cons QKX TOk.nil))))))) (by kernel_rfl) (by kernel_rfl) (QFF _ s ?_)
 have hl_s_1:(s.2.1).length≤9223372036854775807:=hb.1.2.1.1
 have hl_s_2:(s.2.2.1).length≤9223372036854775807:=hb.1.2.2.1.1
 have hl_s_5:(s.2.2.2.2.2.1).length≤9223372036854775807:=hb.1.2.2.2.2.2.1.1
 have hl_s_6:(s.2.2.2.2.2.2.1).length≤9223372036854775807:=hb.1.2.2.2.2.2.2.1.1
 have hl_s_7:(s.2.2.2.2.2.2.2.1).length≤9223372036854775807:=hb.1.2.2.2.2.2.2.2.1.1
 have hl_s_8:(s.2.2.2.2.2.2.2.2.1).length≤9223372036854775807:=hb.1.2.2.2.2.2.2.2.2.1.1
 have hl_s_9:(s.2.2.2.2.2.2.2.2.2.1).length≤9223372036854775807:=hb.1.2.2.2.2.2.2.2.2.2.1.1
 have hl_s_10:(s.2.2.2.2.2.2.2.2.2.2.1).length≤9223372036854775807:=hb.1.2.2.2.2.2.2.2.2.2.2.1.1
 have hl_s_11:(s.2.2.2.2.2.2.2.2.2.2.2.1).length≤9223372036854775807:=hb.1.2.2.2.2.2.2.2.2.2.2.2.1.1
 refine ⟨fun h=>R_eq (by grind [Q9,m_in]),fun h=>?_⟩
 have h0:QM s.2.2.1=true∧m_in s.1 0 s.2.1.length=true∧JI s.2.2.1 s.2.2.2.2.2.2.2.2.2.2.2.1=true:=by grind [m_in]
 have hm:=YZ h0.1
 have hk:1≤Ji s∧Ji s≤9:=by unfold Ji;split <;> omega
 have key:QeQ (fun r'=>r'=J9 (Q9 s)) s (Ji s) ((0:Nat):Int):=by
  refine Zj s.2.2.2.2.2.1 (fun r k=>r.all (Qav s)=s.2.2.2.2.2.1.all (Qav s)→QeQ (fun r'=>r'=J9 (Q9 s)) s (Ji s) k) ?_ ?_ rfl
  ·intro he
   refine Qto (fun r'=>r'=J9 (Q9 s)) s _ _ ⟨fun h=>by simp at h,fun _=>R_eq ?_⟩
   grind [Q9]
  ·intro k x r hk2 hlt hg ih he
   refine Qto (fun r'=>r'=J9 (Q9 s)) s _ _ ⟨fun _=>?_,fun h=>by simp at h;omega⟩
   rw [Int.toNat_natCast,hg,Qp (x:=(k:Int)+1) (by omega) (by omega)]
   refine ⟨⟨by omega,hlt⟩,fun h=>?_,fun h=>R_eq ?_,fun h=>ih ?_⟩
   ·have:(x.2.length:Int)=Ji s:=by simpa using h
    exact ⟨hm.1,by omega,by omega⟩
   ·grind [Q9,Qav]
   ·grind [Qav]
 refine ⟨fun h1=>?_,fun h1=>?_⟩
 ·have e:Ji s=1:=by simp [Ji,h1]
  rw [e] at key
  exact (QtY (fun r'=>r'=J9 (Q9 s)) s _ key).h
 ·have e:Ji s=s.2.2.1.length+1:=by simp [Ji,h1]
  rw [Qp (x:=(s.2.2.1.length:Int)+1) (by omega) (by omega)]
  rw [e] at key
  exact (QtY (fun r'=>r'=J9 (Q9 s)) s _ key).h
theorem Qh9:Qi Tryz.prog QdC:=Qm fun x _=>QO7 x.1
end
end Go.Proofs.YtjbdljkhbglnhaaGreat.Am

