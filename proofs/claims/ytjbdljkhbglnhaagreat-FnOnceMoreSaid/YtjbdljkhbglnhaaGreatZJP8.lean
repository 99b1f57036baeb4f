/- -/
import Derived.Test.YtjbdljkhbglnhaaGreatZJP1
import Derived.Test.YtjbdljkhbglnhaaGreatZJP4
namespace Go.Proofs.YtjbdljkhbglnhaaGreat.Am
open Go Go.RowKit Go.Proofs.YtjbdljkhbglnhaaGreat
set_option linter.all false
noncomputable section
variable (K:TRes→Prop)
def Qkv (t:(List TOp')):TRes:=zra (.a [(zcs ctOp t)])
def Qcf:TRow:=Qg 112 [(.a Qn)] fun x=>(none,Qkv (Zk x.1))
def Qyi:List TRow:=[]
def QGj:TCode :=
 (zsq [(.reg [zop 1 (.box 63 0 14),zop 2 (.new 26 [(.n ctOp)])]),(.reg [zfa 3 1 2,zld 4 3 1,zop 5 (.build [(.n ctOp)] [(0,1,4)]),zst 2 5 1]),.ret])
def Qzd:List (ARv × Md):=[(.l 2 1 true,.b [.d])]
theorem QyT (s:Qb) (h :
 K (Qkv s.2.2.1)):Hold (tawp Qyi (0+0) QGj (TQ 0 0 Qzd K) (Qe [(.a (Tup.cells Qn s))])) :=
 Hold.of (by kernel_rfl) h
theorem Qy9 (s:Qb):TCon Tryz.prog 112 [(.a (Tup.cells Qn s))] (Qkv (Zk s)):=by
 refine Ql rfl fun hb=>tcg (n:=6) (sg:=Qcf.sg) Qi TOk.nil (by kernel_rfl) (by kernel_rfl) (QyT _ s ?_)
 have hl_s_1:(s.2.1).length≤9223372036854775807:=hb.1.2.1.1
 have hl_s_2:(s.2.2.1).length≤9223372036854775807:=hb.1.2.2.1.1
 have hl_s_5:(s.2.2.2.2.2.1).length≤9223372036854775807:=hb.1.2.2.2.2.2.1.1
 have hl_s_6:(s.2.2.2.2.2.2.1).length≤9223372036854775807:=hb.1.2.2.2.2.2.2.1.1
 have hl_s_7:(s.2.2.2.2.2.2.2.1).length≤9223372036854775807:=hb.1.2.2.2.2.2.2.2.1.1
 have hl_s_8:(s.2.2.2.2.2.2.2.2.1).length≤9223372036854775807:=hb.1.2.2.2.2.2.2.2.2.1.1
 have hl_s_9:(s.2.2.2.2.2.2.2.2.2.1).length≤9223372036854775807:=hb.1.2.2.2.2.2.2.2.2.2.1.1
 have hl_s_10:(s.2.2.2.2.2.2.2.2.2.2.1).length≤9223372036854775807:=hb.1.2.2.2.2.2.2.2.2.2.2.1.1
 have hl_s_11:(s.2.2.2.2.2.2.2.2.2.2.2.1).length≤9223372036854775807:=hb.1.2.2.2.2.2.2.2.2.2.2.2.1.1
 exact R_eq rfl
theorem Qf4:Qh Tryz.prog Qcf:=Qk fun x _=>Qy9 x.1
def Qah (t:Bool):TRes:=zre (zcb t)
def Qjx:TRow:=Qg 185 [(.a [(.sl ctOp)]),(.c (.sl [(.sl [TI])]))] fun x=>(none,Qah (Yl x.1 x.2.1))
def QjX:List TRow:=[]
def Ql7:TCode :=
 (zsq [(.reg [zbi 17 .lss 16 15]),(.cond 17 .skip (.exit 0)),(.block 1 (zsq [(.reg [zmv 18 16,zia 19 14 16 ctOp,zLd 20 19 4,zop 6 (.new 69 (z0s ctOp)),zmv 5 18,zst 6 20 4]),(.draw [zmv 21 1,zmv 22 5,zia 23 21 22 [(.sl [TI])],zfa 24 23 0,zld 25 24 1,zle 26 25,zfa 27 6 3,zld 28 27 1,zle 29 28,zbi 30 .neq 26 29] []),(.cond 30 (zsq [(.reg [zmv 4 (zkb false)]),.ret]) .skip)])),(.reg [zbi 31 .add 16 (zki 1),zmv 16 31])])
def Qrs:List (Nat × Md):=zdl [1,14,15,16]
def QlU:TCode :=
 (zsq [(.reg [zmv 4 (zkb true)]),.ret])
def QHr:TCode :=
 (zsq [(.reg [zop 2 (.box 26 0 1),zmv 4 (zkb false)]),(zsq [(.reg [zmv 7 1,zle 8 7,zfa 9 2 0,zld 10 9 1,zle 11 10,zbi 12 .neq 8 11]),(.cond 12 (zsq [(.reg [zmv 4 (zkb false)]),.ret]) .skip)]),(zsq [(.reg [zfa 13 2 0,zld 14 13 1,zle 15 14,zmv 16 (zki 0)]),(.block 0 (.loop Qrs Ql7))]),QlU])
def QrQ:List (ARv × Md):=[(.t 4,.one .d)]
def Qs6:Qc:=TQ 0 0 QrQ K
def Qzx:Qc:=Qseq (tawp QjX 0 QlU (Qs6 K)) (Qs6 K)
def QF7:Qc:=Qblk 0 (Qzx K)
def Qfm (m:List TOp') (rows:List (List Int)) (x:Int):Prop:=Loop QjX 0 Qrs Ql7 (QF7 K) ⟨[(1,(zcs [(.sl [TI])] rows)),(14,(zcs ctOp m)),(15,(zci (m.length:Int))),(16,(zci x))],[],0⟩
theorem Qur (m:List TOp') (rows:List (List Int)) (x:Int) (h :
 (zif (decide (x<(m.length:Int))) (((0:Int)≤x∧Int.toNat x<m.length)∧(((0:Int)≤x∧Int.toNat x<rows.length)∧(zif (((gtd ([]:List Int) rows (Int.toNat x)).length:Int) != (((gtd dOp m (Int.toNat x)).2.2.2).length:Int)) (K (Qah false)) (Qfm K m rows (w64 (x+(1:Int))))))) (K (Qah true)))):Qfm K m rows x :=
 Loop.of (by kernel_rfl) h
theorem QEs (m:List TOp') (rows:List (List Int)) (h :
 (zif ((rows.length:Int) != (m.length:Int)) (K (Qah false)) (Qfm K m rows 0))):Hold (tawp QjX (0+0) QHr (TQ 0 0 QrQ K) (Qe [(.a [(.c (.sl ctOp) m)]),(.c (.sl [(.sl [TI])]) rows)])) :=
 Hold.of (by kernel_rfl) h
theorem QIB (m:List TOp') (rows:List (List Int)):TCon Tryz.prog 185 [(.a [(.c (.sl ctOp) m)]),(.c (.sl [(.sl [TI])]) rows)] (Qah (Yl m rows)):=by
 refine Ql rfl fun hb=>tcg (n:=32) (sg:=Qjx.sg) Qi TOk.nil (by kernel_rfl) (by kernel_rfl) (QEs _ m rows ?_)
 have hl_m_0:(m).length≤9223372036854775807:=hb.1.1.1
 have hl_rows:rows.length≤9223372036854775807:=hb.2.1.1
 refine ⟨fun h=>R_eq (by grind [Yl]),fun h=>?_⟩
 have hl:rows.length=m.length:=by
  have:((rows.length:Int)==(m.length:Int))=true:=by simpa [bne] using h
  have:=of_decide_eq_true (by simpa using this:decide ((rows.length:Int)=m.length)=true)
  omega
 refine Zc m (fun r k=>Z8 r (rows.drop k)=Z8 m rows→Qfm (fun r'=>r'=Qah (Yl m rows)) m rows k) ?_ ?_ rfl
 ·intro he
  refine Qur (fun r'=>r'=Qah (Yl m rows)) m rows _ ⟨fun h=>by simp at h,fun _=>R_eq ?_⟩
  grind [Yl,Z8]
 ·intro k x r hk hlt hg ih he
  obtain ⟨y,q,hq⟩:∃ y q,rows.drop k=y::q:=by
   cases hq:rows.drop k with
   | nil=>have:=congrArg List.length hq;simp at this;omega
   | cons y q=>exact ⟨y,q,rfl⟩
  refine Qur (fun r'=>r'=Qah (Yl m rows)) m rows _ ⟨fun _=>?_,fun h=>by simp at h;omega⟩
  rw [Int.toNat_natCast,hg,ZN hq,Qs (x:=(k:Int)+1) (by omega) (by omega)]
  rw [hq,Z8] at he
  rw [Zx hq] at ih
  refine ⟨⟨by omega,hlt⟩,⟨by omega,by omega⟩,fun h=>R_eq ?_,fun h=>ih ?_⟩
  ·grind [Yl]
  ·grind
theorem QzS:Qh Tryz.prog Qjx:=Qk fun x _=>QIB x.1 x.2.1
def JK (t:Bool):TRes:=zre (zcb t)
def QdE:TRow:=Qg 123 [(.c (.sl ctOp)),(.c (.sl [(.sl [TI])])),(.c TI)] fun x=>(some (Qee x.1 x.2.1 x.2.2.1),JK (ZK x.1 x.2.1 x.2.2.1))
def QbB:List TRow:=[Y0]
def QqC:TCode :=
 (zsq [(.reg [zmv 30 1,zmv 31 7,zia 32 30 31 [(.sl [TI])],zfa 33 32 0,zld 34 33 1,zmv 35 8,zca 36 114 [34,35],zno 37 36]),(.cond 37 (zsq [(.reg [zmv 6 (zkb false)]),.ret]) .skip)])
def QwR:List (Nat × Md):=zdl [0,1,2,7,8]
def QEo:TCode:=.wk QwR QqC
def QrS:TCode :=
 (.reg [zmv 12 7,zbi 13 .add 12 (zki 1),zmv 7 13])
def QhC:TCode :=
 (zsq [(zsq [(.reg [zmv 9 7,zmv 10 2,zbi 11 .lss 9 10]),(.cond 11 .skip (.exit 0))]),(.block 1 (zsq [(.reg [zmv 14 0,zmv 15 0,zle 16 15,zbi 17 .sub 16 (zki 1),zia 18 14 17 ctOp,zfa 19 18 2,zld 20 19 1,zmv 8 20]),(zsq [(.reg [zmv 21 7,zmv 22 0,zle 23 22,zbi 24 .lss 21 23]),(.cond 24 (.reg [zmv 25 0,zmv 26 7,zia 27 25 26 ctOp,zfa 28 27 1,zld 29 28 1,zmv 8 29]) .skip)]),QEo])),QrS])
def Qev:List (Nat × Md):=zdl [0,1,2,7]
def QuY:TCode :=
 (zsq [(.reg [zmv 6 (zkb true)]),.ret])
def Qxq:TCode :=
 (zsq [(.reg [zmv 6 (zkb false)]),(zsq [(.reg [zmv 7 (zki 0)]),(.block 0 (.loop Qev QhC))]),QuY])
def Qqo:List (ARv × Md):=[(.t 6,.one .d)]
def Qmh:Qc:=TQ 0 0 Qqo K
def QDS:Qc:=Qseq (tawp QbB 0 QuY (Qmh K)) (Qmh K)
def Qg8:Qc:=Qblk 0 (QDS K)
def Qp4:Qc:=Qseq (fun s'=>Loop QbB 0 Qev QhC (Qg8 K) (gc 0 Qev s')) (Qg8 K)
def QJF:Qc:=Qseq (tawp QbB 0 QrS (Qp4 K)) (Qp4 K)
def QJH:Qc:=Qblk 1 (QJF K)
@[irreducible] def QdA (ops:List TOp') (rows:List (List Int)) (n:Int) (size:Int) (i:Int):Prop:=tawp QbB 0 QqC (QJH K) ⟨[(0,(zcs ctOp ops)),(1,(zcs [(.sl [TI])] rows)),(2,(zci n)),(7,(zci i)),(8,(zci size))],[],0⟩
def Qdt (ops:List TOp') (rows:List (List Int)) (n:Int) (i:Int):Prop:=Loop QbB 0 Qev QhC (Qg8 K) ⟨[(0,(zcs ctOp ops)),(1,(zcs [(.sl [TI])] rows)),(2,(zci n)),(7,(zci i))],[],0⟩
theorem QEX (ops:List TOp') (rows:List (List Int)) (n:Int) (size:Int) (i:Int) (h :
 (((0:Int)≤i∧Int.toNat i<rows.length)∧(zif (!(Qf (gtd ([]:List Int) rows (Int.toNat i)) size)) (K (JK false)) (Qdt K ops rows n (w64 (i+(1:Int))))))):Hold (QdA K ops rows n size i) :=
 Hold.of (by kernel_rfl) h
theorem Qr2 (ops:List TOp') (rows:List (List Int)) (n:Int) (i:Int) (h :
 (zif (decide (i<n)) (((0:Int)≤w64 ((ops.length:Int)-(1:Int))∧Int.toNat (w64 ((ops.length:Int)-(1:Int)))<ops.length)∧(zif (decide (i<(ops.length:Int))) (((0:Int)≤i∧Int.toNat i<ops.length)∧(QdA K ops rows n ((gtd dOp ops (Int.toNat i)).2.1) i)) (QdA K ops rows n ((gtd dOp ops (Int.toNat (w64 ((ops.length:Int)-(1:Int))))).2.2.1) i))) (K (JK true)))):Qdt K ops rows n i :=
 Loop.of (by kernel_rfl) h
theorem Qyr (ops:List TOp') (rows:List (List Int)) (n:Int) (h :
 (Qdt K ops rows n 0)):Hold (tawp QbB (0+0) Qxq (TQ 0 0 Qqo K) (Qe [(.c (.sl ctOp) ops),(.c (.sl [(.sl [TI])]) rows),(.c TI n)])) :=
 Hold.of (by kernel_rfl) h
theorem QJn (ops:List TOp') (rows:List (List Int)) (n:Int) (hp:Qee ops rows n):TCon Tryz.prog 123 [(.c (.sl ctOp) ops),(.c (.sl [(.sl [TI])]) rows),(.c TI n)] (JK (ZK ops rows n)):=by
 refine Ql rfl fun hb=>tcg (n:=38) (sg:=QdE.sg) Qi (TOk.cons Js TOk.nil) (by kernel_rfl) (by kernel_rfl) (Qyr _ ops rows n ?_)
 have hl_ops:ops.length≤9223372036854775807:=hb.1.1
 have hl_rows:rows.length≤9223372036854775807:=hb.2.1.1
 have:=QGd rows 0 n (Int.le_refl 0) hp.2.1 hp.2.2 (fun r k=>Zp ops k r=(ZK ops rows n)→Qdt (fun r'=>r'=JK (ZK ops rows n)) ops rows n k) ?_ ?_ (by simp [ZK,slice])
 ·exact this
 ·intro he
  refine Qr2 (fun r'=>r'=JK (ZK ops rows n)) ops rows n _ ⟨fun h=>by simp at h;omega,fun _=>R_eq ?_⟩
  simpa [Zp] using he
 ·intro k x r h1 h2 hlt hg ih he
  have e:=QaO hp.1 hl_ops
  have key:QdA (fun r'=>r'=JK (ZK ops rows n)) ops rows n (Ye ops k) k:=by
   refine (QEX (fun r'=>r'=JK (ZK ops rows n)) ops rows n _ _ ?_).h
   rw [Int.toNat_natCast,hg,Qs (x:=(k:Int)+1) (by omega) (by omega)]
   rw [Zp] at he
   refine ⟨⟨by omega,hlt⟩,fun h=>R_eq ?_,fun h=>ih ?_⟩ <;> grind
  refine Qr2 (fun r'=>r'=JK (ZK ops rows n)) ops rows n _ ⟨fun _=>?_,fun h=>by simp at h;omega⟩
  rw [e.1,Int.toNat_natCast]
  refine ⟨⟨e.2,by have:=hp.1;omega⟩,fun h=>⟨⟨by omega,by simpa using h⟩,?_⟩,fun h=>?_⟩
  ·rw [Ye,if_pos (by simpa using h)] at key;exact key
  ·rw [Ye,if_neg (by simpa using h)] at key;exact key
theorem Qtp:Qh Tryz.prog QdE:=Qk fun x h=>QJn x.1 x.2.1 x.2.2.1 h
def Y3 (t:Bool):TRes:=zre (zcb t)
def QcA:TRow:=Qg 113 [(.a Qn)] fun x=>(none,Y3 (Qv x.1))
def QfX:List TRow:=[Qcf,Qcd,Qjx,QdE,QcH,Qc8,Qhh]
def Qrg:TCode :=
 (zsq [(.reg [zbi 45 .lss 44 43]),(.cond 45 .skip (.exit 0)),(.block 1 (zsq [(.reg [zia 46 42 44 Qz,zLd 47 46 2,zop 6 (.new 76 (z0s Qz)),zst 6 47 2]),(.reg [zfa 48 6 1,zld 49 48 1,zle 50 49,zmv 51 4,zbi 52 .neq 50 51,zmv 53 52,.grp 53 false [zfa 54 1 2,zld 55 54 1,zfa 56 6 1,zld 57 56 1,zmv 58 4,zca 59 123 [55,57,58],zno 60 59] 61 60]),(.cond 61 (zsq [(.reg [zmv 2 (zkb false)]),.ret]) .skip)])),(.reg [zbi 62 .add 44 (zki 1),zmv 44 62])])
def QuC:List (Nat × Md):=[(1,.b (zds 14)),(3,.b [.d]),(4,.one .d),(42,.one .d),(43,.one .d),(44,.one .d)]
def Qt8:TCode :=
 (zsq [(.draw [zLd 63 3 1,zca 64 115 [63],zLd 65 3 1,zca 66 117 [65],zmv 7 64,zmv 8 66] [(1,2)]),(.reg [zfa 67 1 7,zld 68 67 1,zmv 69 7,zca 70 186 [68,69],zmv 71 70,.grp 71 true [zfa 72 1 10,zld 73 72 1,zmv 74 7,zca 75 186 [73,74]] 76 75,zmv 77 76,.grp 77 true [zfa 78 1 8,zld 79 78 1,zmv 80 8,zca 81 186 [79,80]] 82 81,zmv 83 82,.grp 83 true [zfa 84 1 9,zld 85 84 1,zmv 86 8,zca 87 186 [85,86]] 88 87,zmv 2 88]),.ret])
def Qs0:TCode :=
 (zsq [(zsq [(.reg [zfa 41 1 5,zld 42 41 1,zle 43 42,zmv 44 (zki 0)]),(.block 0 (.loop QuC Qrg))]),Qt8])
def QxF:List (Nat × Md):=[(1,.b (zds 14)),(3,.b [.d]),(4,.one .d)]
def QxQ:TCode:=.wk QxF Qs0
def QE2:TCode :=
 (zsq [(.reg [zop 1 (.box 63 0 14),zmv 2 (zkb false)]),(.reg [zLd 9 1 14,zca 10 112 [9],zop 3 (.new 26 [(.n ctOp)]),zst 3 10 1]),(zsq [(.reg [zLd 11 3 1,zca 12 131 [11],zno 13 12,zmv 14 13,.grp 14 false [zfa 15 1 0,zld 16 15 1,zbi 17 .lss 16 (zki 0)] 18 17,zmv 19 18,.grp 19 false [zfa 20 1 0,zld 21 20 1,zfa 22 1 1,zld 23 22 1,zle 24 23,zbi 25 .gtr 21 24] 26 25,zmv 27 26,.grp 27 false [zLd 28 3 1,zfa 29 1 11,zfa 30 29 0,zld 31 30 1,zca 32 185 [28,31],zno 33 32] 34 33]),(.cond 34 (zsq [(.reg [zmv 2 (zkb false)]),.ret]) .skip)]),(.reg [zfa 35 1 2,zld 36 35 1,zle 37 36,zbi 38 .add 37 (zki 1),zmv 4 38]),(zsq [(.reg [zfa 39 1 4,zld 40 39 1]),(.cond 40 (.reg [zmv 4 (zki 1)]) .skip)]),QxQ])
def Qoq:List (ARv × Md):=[(.t 2,.one .d)]
def QgA:Qc:=TQ 0 0 Qoq K
def QHv:Qc:=Qseq (tawp QfX 0 Qt8 (QgA K)) (QgA K)
def Qvp:Qc:=Qblk 0 (QHv K)
def QcJ (s:Qb) (kept:Int) (x:Int):Prop:=Loop QfX 0 QuC Qrg (Qvp K) ⟨[(1,(.p 0 0 0)),(3,(.p 1 0 0)),(4,(zci kept)),(42,(zcs Qz s.2.2.2.2.2.1)),(43,(zci ((s.2.2.2.2.2.1).length:Int))),(44,(zci x))],[(0,(.box (Tup.cells Qn s))),(1,(.box [(zcs ctOp (Zk s))]))],2⟩
@[irreducible] def Qkp (s:Qb) (kept:Int):Prop:=tawp QfX 0 Qs0 (QgA K) ⟨[(1,(.p 0 0 0)),(3,(.p 1 0 0)),(4,(zci kept))],[(0,(.box (Tup.cells Qn s))),(1,(.box [(zcs ctOp (Zk s))]))],2⟩
theorem Qru (s:Qb) (kept:Int) (x:Int) (h :
 (zif (decide (x<((s.2.2.2.2.2.1).length:Int))) (((0:Int)≤x∧Int.toNat x<(s.2.2.2.2.2.1).length)∧(((!((((gtd Zb s.2.2.2.2.2.1 (Int.toNat x)).2).length:Int) != kept))=true→(Qee s.2.2.1 ((gtd Zb s.2.2.2.2.2.1 (Int.toNat x)).2) kept))∧(zif (((((gtd Zb s.2.2.2.2.2.1 (Int.toNat x)).2).length:Int) != kept)||(!(ZK s.2.2.1 ((gtd Zb s.2.2.2.2.2.1 (Int.toNat x)).2) kept))) (K (Y3 false)) (QcJ K s kept (w64 (x+(1:Int))))))) (K (Y3 ((((ZI s.2.2.2.2.2.2.2.1 (QV (Zk s)))&&(ZI s.2.2.2.2.2.2.2.2.2.2.1 (QV (Zk s))))&&(ZI s.2.2.2.2.2.2.2.2.1 (QP (Zk s))))&&(ZI s.2.2.2.2.2.2.2.2.2.1 (QP (Zk s)))))))):QcJ K s kept x :=
 Loop.of (by kernel_rfl) h
theorem Qqf (s:Qb) (kept:Int) (h :
 (QcJ K s kept 0)):Hold (Qkp K s kept) :=
 Hold.of (by kernel_rfl) h
theorem Qyz (s:Qb) (h :
 (zif ((((!(QC (Zk s)))||(decide (s.1<(0:Int))))||(decide (s.1>((s.2.1).length:Int))))||(!(Yl (Zk s) s.2.2.2.2.2.2.2.2.2.2.2.1))) (K (Y3 false)) (zif s.2.2.2.2.1 (Qkp K s 1) (Qkp K s (w64 (((s.2.2.1).length:Int)+(1:Int))))))):Hold (tawp QfX (0+0) QE2 (TQ 0 0 Qoq K) (Qe [(.a (Tup.cells Qn s))])) :=
 Hold.of (by kernel_rfl) h
theorem QJU (s:Qb):TCon Tryz.prog 113 [(.a (Tup.cells Qn s))] (Y3 (Qv s)):=by
 refine Ql rfl fun hb=>tcg (n:=89) (sg:=QcA.sg) Qi (TOk.cons Qf4 (TOk.cons Qfv (TOk.cons QzS (TOk.cons Qtp (TOk.cons Qkn (TOk.cons Qk7 (TOk.cons QBv TOk.nil))))))) (by kernel_rfl) (by kernel_rfl) (Qyz _ s ?_)
 have hl_s_1:(s.2.1).length≤9223372036854775807:=hb.1.2.1.1
 have hl_s_2:(s.2.2.1).length≤9223372036854775807:=hb.1.2.2.1.1
 have hl_s_5:(s.2.2.2.2.2.1).length≤9223372036854775807:=hb.1.2.2.2.2.2.1.1
 have hl_s_6:(s.2.2.2.2.2.2.1).length≤9223372036854775807:=hb.1.2.2.2.2.2.2.1.1
 have hl_s_7:(s.2.2.2.2.2.2.2.1).length≤9223372036854775807:=hb.1.2.2.2.2.2.2.2.1.1
 have hl_s_8:(s.2.2.2.2.2.2.2.2.1).length≤9223372036854775807:=hb.1.2.2.2.2.2.2.2.2.1.1
 have hl_s_9:(s.2.2.2.2.2.2.2.2.2.1).length≤9223372036854775807:=hb.1.2.2.2.2.2.2.2.2.2.1.1
 have hl_s_10:(s.2.2.2.2.2.2.2.2.2.2.1).length≤9223372036854775807:=hb.1.2.2.2.2.2.2.2.2.2.2.1.1
 have hl_s_11:(s.2.2.2.2.2.2.2.2.2.2.2.1).length≤9223372036854775807:=hb.1.2.2.2.2.2.2.2.2.2.2.2.1.1
 refine ⟨fun h=>R_eq (by grind [Qv,m_in]),fun h=>?_⟩
 have h0:QC s.2.2.1=true∧m_in s.1 0 s.2.1.length=true∧Yl s.2.2.1 s.2.2.2.2.2.2.2.2.2.2.2.1=true:=by grind [m_in]
 have hm:=Zw h0.1
 have hk:1≤Zz s∧Zz s≤9:=by unfold Zz;split <;> omega
 have key:QcJ (fun r'=>r'=Y3 (Qv s)) s (Zz s) ((0:Nat):Int):=by
  refine Zc s.2.2.2.2.2.1 (fun r k=>r.all (Z3 s)=s.2.2.2.2.2.1.all (Z3 s)→QcJ (fun r'=>r'=Y3 (Qv s)) s (Zz s) k) ?_ ?_ rfl
  ·intro he
   refine Qru (fun r'=>r'=Y3 (Qv s)) s _ _ ⟨fun h=>by simp at h,fun _=>R_eq ?_⟩
   grind [Qv]
  ·intro k x r hk2 hlt hg ih he
   refine Qru (fun r'=>r'=Y3 (Qv s)) s _ _ ⟨fun _=>?_,fun h=>by simp at h;omega⟩
   rw [Int.toNat_natCast,hg,Qs (x:=(k:Int)+1) (by omega) (by omega)]
   refine ⟨⟨by omega,hlt⟩,fun h=>?_,fun h=>R_eq ?_,fun h=>ih ?_⟩
   ·have:(x.2.length:Int)=Zz s:=by simpa using h
    exact ⟨hm.1,by omega,by omega⟩
   ·grind [Qv,Z3]
   ·grind [Z3]
 refine ⟨fun h1=>?_,fun h1=>?_⟩
 ·have e:Zz s=1:=by simp [Zz,h1]
  rw [e] at key
  exact (Qqf (fun r'=>r'=Y3 (Qv s)) s _ key).h
 ·have e:Zz s=s.2.2.1.length+1:=by simp [Zz,h1]
  rw [Qs (x:=(s.2.2.1.length:Int)+1) (by omega) (by omega)]
  rw [e] at key
  exact (Qqf (fun r'=>r'=Y3 (Qv s)) s _ key).h
theorem Qh7:Qh Tryz.prog QcA:=Qk fun x _=>QJU x.1
def Yf (t:Bool):TRes:=zre (zcb t)
def QbO:TRow:=Qg 41 [(.a Qn)] fun x=>(none,Yf (Qv x.1))
def J5:List TRow:=[Qau,Y4,Ys,Qll]
def QuT:TCode :=
 (zsq [(zsq [(.reg [zmv 47 5,zfa 48 1 2,zld 49 48 1,zle 50 49,zbi 51 .lss 47 50]),(.cond 51 .skip (.exit 0))]),(.block 1 (zsq [(.draw [zfa 54 1 11,zfa 55 54 0,zld 56 55 1,zmv 57 5,zia 58 56 57 [(.sl [TI])],zfa 59 58 0,zld 60 59 1,zle 61 60,zfa 62 1 2,zld 63 62 1,zmv 64 5,zia 65 63 64 ctOp,zfa 66 65 3,zld 67 66 1,zle 68 67,zbi 69 .neq 61 68] []),(.cond 69 (zsq [(.reg [zmv 2 (zkb false)]),.ret]) .skip)])),(.reg [zmv 52 5,zbi 53 .add 52 (zki 1),zmv 5 53])])
def Qpm:List (Nat × Md):=[(1,.b (zds 14)),(3,.one .d),(4,.one .d),(5,.one .d)]
def QnB:TCode :=
 (zsq [(zsq [(.reg [zmv 126 8,zmv 127 7,zle 128 127,zbi 129 .lss 126 128]),(.cond 129 .skip (.exit 4))]),(.block 5 (zsq [(.draw [zmv 132 7,zmv 133 8,zia 134 132 133 [(.sl [TI])],zfa 135 134 0,zld 136 135 1,zca 137 42 [136],zno 138 137,zmv 139 138,.grp 139 false [zmv 140 7,zmv 141 8,zia 142 140 141 [(.sl [TI])],zfa 143 142 0,zld 144 143 1,zle 145 144,zfa 146 1 2,zld 147 146 1,zmv 148 8,zbi 149 .sub 148 (zki 1),zia 150 147 149 ctOp,zfa 151 150 2,zld 152 151 1,zbi 153 .neq 145 152] 154 153] []),(.cond 154 (zsq [(.reg [zmv 2 (zkb false)]),.ret]) .skip)])),(.reg [zmv 130 8,zbi 131 .add 130 (zki 1),zmv 8 131])])
def Qtz:List (Nat × Md):=[(1,.b (zds 14)),(3,.one .d),(4,.one .d),(6,.one .d),(7,.one .d),(8,.one .d)]
def Qnw:TCode :=
 (.reg [zmv 75 6,zbi 76 .add 75 (zki 1),zmv 6 76])
def QjG:TCode :=
 (zsq [(zsq [(.reg [zmv 70 6,zfa 71 1 5,zld 72 71 1,zle 73 72,zbi 74 .lss 70 73]),(.cond 74 .skip (.exit 2))]),(.block 3 (zsq [(.reg [zfa 77 1 5,zld 78 77 1,zmv 79 6,zia 80 78 79 Qz,zfa 81 80 1,zld 82 81 1,zmv 7 82]),(zsq [(.reg [zmv 83 7,zle 84 83,zbi 85 .eql 84 (zki 0),zmv 86 85,.grp 86 false [zmv 87 7,zia 88 87 (zki 0) [(.sl [TI])],zfa 89 88 0,zld 90 89 1,zca 91 42 [90],zno 92 91] 93 92,zmv 94 93,.grp 94 false [zmv 95 7,zia 96 95 (zki 0) [(.sl [TI])],zfa 97 96 0,zld 98 97 1,zle 99 98,zmv 100 3,zbi 101 .neq 99 100] 102 101,zmv 103 102,.grp 103 false [zfa 104 1 4,zld 105 104 1,zno 106 105,zmv 107 106,.grp 107 true [zmv 108 7,zle 109 108,zfa 110 1 2,zld 111 110 1,zle 112 111,zbi 113 .add 112 (zki 1),zbi 114 .neq 109 113] 115 114] 116 115,zmv 117 116,.grp 117 false [zfa 118 1 4,zld 119 118 1,zmv 120 119,.grp 120 true [zmv 121 7,zle 122 121,zbi 123 .neq 122 (zki 1)] 124 123] 125 124]),(.cond 125 (zsq [(.reg [zmv 2 (zkb false)]),.ret]) .skip)]),(.reg [zmv 8 (zki 1)]),(.block 4 (.loop Qtz QnB))])),Qnw])
def QeU:List (Nat × Md):=[(1,.b (zds 14)),(3,.one .d),(4,.one .d),(6,.one .d)]
def QoA:TCode :=
 (zsq [(.reg [zfa 155 1 7,zld 156 155 1,zmv 157 3,zca 158 109 [156,157],zmv 159 158,.grp 159 true [zfa 160 1 8,zld 161 160 1,zmv 162 4,zca 163 109 [161,162]] 164 163,zmv 165 164,.grp 165 true [zfa 166 1 9,zld 167 166 1,zmv 168 4,zca 169 109 [167,168]] 170 169,zmv 171 170,.grp 171 true [zfa 172 1 10,zld 173 172 1,zmv 174 3,zca 175 109 [173,174]] 176 175,zmv 2 176]),.ret])
def Qsv:TCode :=
 (zsq [(zsq [(.reg [zmv 6 (zki 0)]),(.block 2 (.loop QeU QjG))]),QoA])
def QG2:TCode :=
 (zsq [(.reg [zop 1 (.box 63 0 14),zmv 2 (zkb false)]),(zsq [(.reg [zfa 9 1 2,zld 10 9 1,zop 11 (.build [(.n ctOp)] [(0,1,10)]),zca 12 74 [11],zno 13 12,zmv 14 13,.grp 14 false [zfa 15 1 0,zld 16 15 1,zfa 17 1 1,zld 18 17 1,zle 19 18,zca 20 77 [16,(zki 0),19],zno 21 20] 22 21,zmv 23 22,.grp 23 false [zfa 24 1 11,zfa 25 24 0,zld 26 25 1,zle 27 26,zfa 28 1 2,zld 29 28 1,zle 30 29,zbi 31 .neq 27 30] 32 31]),(.cond 32 (zsq [(.reg [zmv 2 (zkb false)]),.ret]) .skip)]),(.reg [zfa 33 1 2,zld 34 33 1,zia 35 34 (zki 0) ctOp,zfa 36 35 1,zld 37 36 1,zmv 3 37]),(.reg [zfa 38 1 2,zld 39 38 1,zfa 40 1 2,zld 41 40 1,zle 42 41,zbi 43 .sub 42 (zki 1),zia 44 39 43 ctOp,zfa 45 44 2,zld 46 45 1,zmv 4 46]),(zsq [(.reg [zmv 5 (zki 0)]),(.block 0 (.loop Qpm QuT))]),Qsv])
def QlV:List (ARv × Md):=[(.t 2,.one .d)]
def QdX:Qc:=TQ 0 0 QlV K
def QBW:Qc:=Qseq (tawp J5 0 QoA (QdX K)) (QdX K)
def QgE:Qc:=Qblk 2 (QBW K)
def QtX:Qc:=Qseq (fun s'=>Loop J5 0 QeU QjG (QgE K) (gc 0 QeU s')) (QgE K)
def QzX:Qc:=Qseq (tawp J5 0 Qnw (QtX K)) (QtX K)
def QIP:Qc:=Qblk 3 (QzX K)
def QGD:Qc:=Qblk 4 (QIP K)
def QfD (s:Qb) (k:Int) (i1:Int):Prop:=Loop J5 0 Qtz QnB (QGD K) ⟨[(1,(.p 0 0 0)),(3,(zci ((gtd dOp s.2.2.1 (Int.toNat (0:Int))).2.1))),(4,(zci ((gtd dOp s.2.2.1 (Int.toNat (w64 (((s.2.2.1).length:Int)-(1:Int))))).2.2.1))),(6,(zci i1)),(7,(zcs [(.sl [TI])] ((gtd Zb s.2.2.2.2.2.1 (Int.toNat i1)).2))),(8,(zci k))],[(0,(.box (Tup.cells Qn s)))],1⟩
def Qcj (s:Qb) (i1:Int):Prop:=Loop J5 0 QeU QjG (QgE K) ⟨[(1,(.p 0 0 0)),(3,(zci ((gtd dOp s.2.2.1 (Int.toNat (0:Int))).2.1))),(4,(zci ((gtd dOp s.2.2.1 (Int.toNat (w64 (((s.2.2.1).length:Int)-(1:Int))))).2.2.1))),(6,(zci i1))],[(0,(.box (Tup.cells Qn s)))],1⟩
def QFK:Qc:=Qseq (tawp J5 0 Qsv (QdX K)) (QdX K)
def Qvh:Qc:=Qblk 0 (QFK K)
def QdP (s:Qb) (i:Int):Prop:=Loop J5 0 Qpm QuT (Qvh K) ⟨[(1,(.p 0 0 0)),(3,(zci ((gtd dOp s.2.2.1 (Int.toNat (0:Int))).2.1))),(4,(zci ((gtd dOp s.2.2.1 (Int.toNat (w64 (((s.2.2.1).length:Int)-(1:Int))))).2.2.1))),(5,(zci i))],[(0,(.box (Tup.cells Qn s)))],1⟩
theorem Qsa (s:Qb) (k:Int) (i1:Int) (h :
 (zif (decide (k<(((gtd Zb s.2.2.2.2.2.1 (Int.toNat i1)).2).length:Int))) ((((0:Int)≤k∧Int.toNat k<((gtd Zb s.2.2.2.2.2.1 (Int.toNat i1)).2).length)∧((!(!(Qu (gtd ([]:List Int) ((gtd Zb s.2.2.2.2.2.1 (Int.toNat i1)).2) (Int.toNat k)))))=true→(((0:Int)≤k∧Int.toNat k<((gtd Zb s.2.2.2.2.2.1 (Int.toNat i1)).2).length)∧((0:Int)≤w64 (k-(1:Int))∧Int.toNat (w64 (k-(1:Int)))<(s.2.2.1).length))))∧(zif ((!(Qu (gtd ([]:List Int) ((gtd Zb s.2.2.2.2.2.1 (Int.toNat i1)).2) (Int.toNat k))))||(((gtd ([]:List Int) ((gtd Zb s.2.2.2.2.2.1 (Int.toNat i1)).2) (Int.toNat k)).length:Int) != ((gtd dOp s.2.2.1 (Int.toNat (w64 (k-(1:Int))))).2.2.1))) (K (Yf false)) (QfD K s (w64 (k+(1:Int))) i1))) (Qcj K s (w64 (i1+(1:Int)))))):QfD K s k i1 :=
 Loop.of (by kernel_rfl) h
theorem Qlz (s:Qb) (i1:Int) (h :
 let z1:=gtd Zb s.2.2.2.2.2.1 (Int.toNat i1)
 let z2:=gtd ([]:List Int) (z1.2) (Int.toNat (0:Int))
 let z3:=gtd dOp s.2.2.1 (Int.toNat (0:Int))
 let z4:=gtd dOp s.2.2.1 (Int.toNat (w64 (((s.2.2.1).length:Int)-(1:Int))))
 (zif (decide (i1<((s.2.2.2.2.2.1).length:Int))) (((0:Int)≤i1∧Int.toNat i1<(s.2.2.2.2.2.1).length)∧((((!(((z1.2).length:Int)==(0:Int)))=true→((0:Int)≤(0:Int)∧Int.toNat (0:Int)<(z1.2).length))∧((!((((z1.2).length:Int)==(0:Int))||(!(Qu z2))))=true→((0:Int)≤(0:Int)∧Int.toNat (0:Int)<(z1.2).length)))∧(zif (((((((z1.2).length:Int)==(0:Int))||(!(Qu z2)))||((z2.length:Int) != (z3.2.1)))||((!s.2.2.2.2.1)&&(((z1.2).length:Int) != (w64 (((s.2.2.1).length:Int)+(1:Int))))))||(s.2.2.2.2.1&&(((z1.2).length:Int) != (1:Int)))) (K (Yf false)) (QfD K s 1 i1)))) (K (Yf ((((ZI s.2.2.2.2.2.2.2.1 (z3.2.1))&&(ZI s.2.2.2.2.2.2.2.2.1 (z4.2.2.1)))&&(ZI s.2.2.2.2.2.2.2.2.2.1 (z4.2.2.1)))&&(ZI s.2.2.2.2.2.2.2.2.2.2.1 (z3.2.1))))))):Qcj K s i1 :=
 Loop.of (by kernel_rfl) h
theorem Qum (s:Qb) (i:Int) (h :
 (zif (decide (i<((s.2.2.1).length:Int))) ((((0:Int)≤i∧Int.toNat i<(s.2.2.2.2.2.2.2.2.2.2.2.1).length)∧((0:Int)≤i∧Int.toNat i<(s.2.2.1).length))∧(zif (((gtd ([]:List Int) s.2.2.2.2.2.2.2.2.2.2.2.1 (Int.toNat i)).length:Int) != (((gtd dOp s.2.2.1 (Int.toNat i)).2.2.2).length:Int)) (K (Yf false)) (QdP K s (w64 (i+(1:Int)))))) (Qcj K s 0))):QdP K s i :=
 Loop.of (by kernel_rfl) h
theorem QGW (s:Qb) (h :
 (zif (((!(QC s.2.2.1))||(!(m_in s.1 (0:Int) ((s.2.1).length:Int))))||(((s.2.2.2.2.2.2.2.2.2.2.2.1).length:Int) != ((s.2.2.1).length:Int))) (K (Yf false)) (((0:Int)≤(0:Int)∧Int.toNat (0:Int)<(s.2.2.1).length)∧(((0:Int)≤w64 (((s.2.2.1).length:Int)-(1:Int))∧Int.toNat (w64 (((s.2.2.1).length:Int)-(1:Int)))<(s.2.2.1).length)∧(QdP K s 0))))):Hold (tawp J5 (0+0) QG2 (TQ 0 0 QlV K) (Qe [(.a (Tup.cells Qn s))])) :=
 Hold.of (by kernel_rfl) h
theorem QGR (s:Qb):TCon Tryz.prog 41 [(.a (Tup.cells Qn s))] (Yf (Qv s)):=by
 refine Ql rfl fun hb=>tcg (n:=177) (sg:=QbO.sg) Qi (TOk.cons Qcu (TOk.cons JB (TOk.cons YF (TOk.cons QxX TOk.nil)))) (by kernel_rfl) (by kernel_rfl) (QGW _ s ?_)
 have hl_s_1:(s.2.1).length≤9223372036854775807:=hb.1.2.1.1
 have hl_s_2:(s.2.2.1).length≤9223372036854775807:=hb.1.2.2.1.1
 have hl_s_5:(s.2.2.2.2.2.1).length≤9223372036854775807:=hb.1.2.2.2.2.2.1.1
 have hl_s_6:(s.2.2.2.2.2.2.1).length≤9223372036854775807:=hb.1.2.2.2.2.2.2.1.1
 have hl_s_7:(s.2.2.2.2.2.2.2.1).length≤9223372036854775807:=hb.1.2.2.2.2.2.2.2.1.1
 have hl_s_8:(s.2.2.2.2.2.2.2.2.1).length≤9223372036854775807:=hb.1.2.2.2.2.2.2.2.2.1.1
 have hl_s_9:(s.2.2.2.2.2.2.2.2.2.1).length≤9223372036854775807:=hb.1.2.2.2.2.2.2.2.2.2.1.1
 have hl_s_10:(s.2.2.2.2.2.2.2.2.2.2.1).length≤9223372036854775807:=hb.1.2.2.2.2.2.2.2.2.2.2.1.1
 have hl_s_11:(s.2.2.2.2.2.2.2.2.2.2.2.1).length≤9223372036854775807:=hb.1.2.2.2.2.2.2.2.2.2.2.2.1.1
 refine ⟨fun h=>R_eq (by grind [Qv,Yl]),fun h=>?_⟩
 have h0:QC s.2.2.1=true∧m_in s.1 0 s.2.1.length=true∧s.2.2.2.2.2.2.2.2.2.2.2.1.length=s.2.2.1.length:=by
  have:((s.2.2.2.2.2.2.2.2.2.2.2.1.length:Int) != (s.2.2.1.length:Int))=false:=by grind
  have h3:s.2.2.2.2.2.2.2.2.2.2.2.1.length=s.2.2.1.length:=by
   have h4:((s.2.2.2.2.2.2.2.2.2.2.2.1.length:Int)==(s.2.2.1.length:Int))=true:=by simpa [bne] using this
   have:=of_decide_eq_true (by simpa using h4:decide ((s.2.2.2.2.2.2.2.2.2.2.2.1.length:Int)=s.2.2.1.length)=true)
   omega
  grind
 have hm:=Zw h0.1
 have eo:=QaO (n:=s.2.2.1.length) hm.1 (by omega)
 have ei:QV s.2.2.1=(gtd dOp s.2.2.1 0).2.1:=by simp [QV,h0.1]
 have eu:QP s.2.2.1=(gtd dOp s.2.2.1 (s.2.2.1.length-1)).2.2.1:=by simp [QP,h0.1]
 have hk9:1≤Zz s∧Zz s≤s.2.2.1.length+1:=by unfold Zz;split <;> omega
 have saved:Yl s.2.2.1 s.2.2.2.2.2.2.2.2.2.2.2.1=true→Qcj (fun r'=>r'=Yf (Qv s)) s ((0:Nat):Int):=by
  intro hgf
  refine Zc s.2.2.2.2.2.1 (fun r k=>r.all (Z3 s)=s.2.2.2.2.2.1.all (Z3 s)→Qcj (fun r'=>r'=Yf (Qv s)) s k) ?_ ?_ rfl
  ·intro he
   refine Qlz (fun r'=>r'=Yf (Qv s)) s _ ⟨fun h=>by simp at h,fun _=>R_eq ?_⟩
   rw [eo.1]
   grind [Qv]
  ·intro k x r hk hlt hg ih he
   have hbx:x.2.length≤9223372036854775807:=by
    have hmem:x∈s.2.2.2.2.2.1:=List.mem_of_mem_drop (i:=k) (by rw [hk];exact List.mem_cons_self)
    exact (hb.1.2.2.2.2.2.1.2 x hmem).2.1.1
   have rows:(x.2.length:Int)=Zz s→∀ (q:List (List Int)) (j:Nat),1≤j→x.2.drop j=q→j≤x.2.length→Zp s.2.2.1 j q=Z3 s x→QfD (fun r'=>r'=Yf (Qv s)) s j k:=by
    intro hlen q
    induction q with
    | nil =>
     intro j h1 hj hle hgo
     have:x.2.length≤j:=by simpa using hj
     refine Qsa (fun r'=>r'=Yf (Qv s)) s _ _ ⟨fun h=>?_,fun _=>?_⟩
     ·rw [Int.toNat_natCast,hg] at h;simp at h;omega
     ·rw [Qs (x:=(k:Int)+1) (by omega) (by omega)]
      refine ih ?_
      simp only [Zp] at hgo
      rw [← he,List.all_cons,← hgo,Bool.true_and]
    | cons z q ihq =>
     intro j h1 hj hle hgo
     have hjl:=QgL hj
     have e2:=QaO h1 (by omega:j≤9223372036854775807)
     have hsz:=QEp h0.1 h1 (by omega:j≤s.2.2.1.length)
     refine Qsa (fun r'=>r'=Yf (Qv s)) s _ _ ⟨fun _=>?_,fun h=>?_⟩
     ·rw [Int.toNat_natCast,Int.toNat_natCast,hg,ZN hj,e2.1,Qs (x:=(j:Int)+1) (by omega) (by omega)]
      rw [Zp,hsz] at hgo
      refine ⟨⟨⟨by omega,hjl⟩,fun _=>⟨⟨by omega,hjl⟩,e2.2,by omega⟩⟩,fun h=>R_eq ?_,fun h=>ihq (j+1) (by omega) (Zx hj) hjl ?_⟩
      ·have hf:Z3 s x=false:=by rw [← hgo];grind [Qf]
       have:s.2.2.2.2.2.1.all (Z3 s)=false:=by rw [← he,List.all_cons,hf];rfl
       simp [Qv,this]
      ·rw [← hgo];grind [Qf]
     ·rw [Int.toNat_natCast,hg] at h;simp at h;omega
   refine Qlz (fun r'=>r'=Yf (Qv s)) s _ ⟨fun _=>?_,fun h=>by simp at h;omega⟩
   rw [Int.toNat_natCast,hg]
   have bad:Z3 s x=false→false=Qv s:=by
    intro hf
    have:s.2.2.2.2.2.1.all (Z3 s)=false:=by rw [← he,List.all_cons,hf];rfl
    simp [Qv,this]
   have ek:w64 ((s.2.2.1.length:Int)+1)=s.2.2.1.length+1:=Qs (by omega) (by omega)
   rw [ek]
   cases hx:x.2 with
   | nil =>
    refine ⟨⟨by omega,hlt⟩,⟨by simp,by simp⟩,fun _=>R_eq (bad ?_),fun h=>by simp at h⟩
    simp [Z3,hx];omega
   | cons z q =>
    have z0:gtd ([]:List Int) (z::q) (Int.toNat 0)=z:=Qly _ _ _
    rw [z0]
    have hsz:Ye s.2.2.1 0=(gtd dOp s.2.2.1 (Int.toNat 0)).2.1:=QyD h0.1
    rw [← hsz]
    have main:(((q.length+1:Nat):Int)==Zz s)=true→Z3 s x=(Qf z (Ye s.2.2.1 0)&&Zp s.2.2.1 1 q):=by
     intro h
     have h:((q.length+1:Nat):Int)=Zz s:=by simpa using h
     have e:(z::q).take (Zz s).toNat=z::q:=by rw [List.take_of_length_le];simp;omega
     simp only [Z3,hx,ZK,e,Zp]
     simp;omega
    refine ⟨⟨by omega,hlt⟩,⟨fun _=>by simp,fun _=>by simp⟩,fun h=>R_eq (bad ?_),fun h=>?_⟩
    ·by_cases hl:(((q.length+1:Nat):Int)==Zz s)=true
     ·rw [main hl]
      have hl:((q.length+1:Nat):Int)=Zz s:=by simpa using hl
      unfold Zz at hl
      by_cases hr:s.2.2.2.2.1=true
      ·rw [if_pos hr] at hl
       simp [hr] at h
       grind [Qf]
      ·rw [if_neg hr] at hl
       simp [hr] at h
       grind [Qf]
     ·have:(((x.2.length:Nat):Int)==Zz s)=false:=by rw [hx];simpa using hl
      simp [Z3,this]
    ·have hl:((q.length+1:Nat):Int)=Zz s:=by
      unfold Zz
      by_cases hr:s.2.2.2.2.1=true
      ·rw [if_pos hr];simp [hr] at h;omega
      ·rw [if_neg hr];simp [hr] at h;omega
     have hv:Qf z (Ye s.2.2.1 0)=true:=by simp at h;simp [Qf,h]
     refine rows (by rw [hx];simpa using hl) q 1 (Nat.le_refl _) (by rw [hx];rfl) (by rw [hx];simp) ?_
     rw [main (by simpa using hl),hv,Bool.true_and]
 refine ⟨⟨by omega,by simp;omega⟩,⟨eo.2,by rw [eo.1];omega⟩,?_⟩
 refine Zc s.2.2.1 (fun r k=>Z8 r (s.2.2.2.2.2.2.2.2.2.2.2.1.drop k)=Z8 s.2.2.1 s.2.2.2.2.2.2.2.2.2.2.2.1→QdP (fun r'=>r'=Yf (Qv s)) s k) ?_ ?_ rfl
 ·intro he
  refine Qum (fun r'=>r'=Yf (Qv s)) s _ ⟨fun h=>by simp at h,fun _=>saved ?_⟩
  grind [Yl,Z8]
 ·intro k x r hk hlt hg ih he
  obtain ⟨y,q,hq⟩:∃ y q,s.2.2.2.2.2.2.2.2.2.2.2.1.drop k=y::q:=by
   cases hq:s.2.2.2.2.2.2.2.2.2.2.2.1.drop k with
   | nil=>have:=congrArg List.length hq;simp at this;omega
   | cons y q=>exact ⟨y,q,rfl⟩
  refine Qum (fun r'=>r'=Yf (Qv s)) s _ ⟨fun _=>?_,fun h=>by simp at h;omega⟩
  rw [Int.toNat_natCast,hg,ZN hq,Qs (x:=(k:Int)+1) (by omega) (by omega)]
  rw [hq,Z8] at he
  rw [Zx hq] at ih
  refine ⟨⟨⟨by omega,by omega⟩,by omega,hlt⟩,fun h=>R_eq ?_,fun h=>ih ?_⟩
  ·grind [Qv,Yl]
  ·grind
theorem Qey:Qh Tryz.prog QbO:=Qk fun x _=>QGR x.1
end
end Go.Proofs.YtjbdljkhbglnhaaGreat.Am

