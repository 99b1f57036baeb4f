/- -/
import Derived.Test.YtjbdljkhbglnhaaGreatZHP1
import Derived.Test.YtjbdljkhbglnhaaGreatZHP4
namespace Go.Proofs.YtjbdljkhbglnhaaGreat.Am
open Go Go.RowKit Go.Proofs.YtjbdljkhbglnhaaGreat
set_option linter.all false
noncomputable section
variable (K:TRes→Prop)
def Qk4 (t:(List TOp')):TRes:=zra (.a [(zcs ctOp t)])
def QdT:TRow:=Qg 112 [(.a Qx)] fun x=>(none,Qk4 (ZW x.1))
def QEI:List TRow:=[]
def QG2:TCode :=
 (zsq [(.reg [zop 1 (.box 63 0 14),zop 2 (.new 26 [(.n ctOp)])]),(.reg [zfa 3 1 2,zld 4 3 1,zop 5 (.build [(.n ctOp)] [(0,1,4)]),zst 2 5 1]),.ret])
def QIp:List (ARv × Md):=[(.l 2 1 true,.b [.d])]
theorem QH0 (s:Qc) (h :
 K (Qk4 s.2.2.1)):Hold (tawp QEI (0+0) QG2 (TQ 0 0 QIp K) (Qf [(.a (Tup.cells Qx s))])) :=
 Hold.of (by kernel_rfl) h
theorem QCb (s:Qc):TCon Tryz.prog 112 [(.a (Tup.cells Qx s))] (Qk4 (ZW s)):=by
 refine Qq rfl fun hb=>tcg (n:=6) (sg:=QdT.sg) Qj TOk.nil (by kernel_rfl) (by kernel_rfl) (QH0 _ s ?_)
 have hl_s_1:(s.2.1).length≤9223372036854775807:=hb.1.2.1.1
 have hl_s_2:(s.2.2.1).length≤9223372036854775807:=hb.1.2.2.1.1
 have hl_s_5:(s.2.2.2.2.2.1).length≤9223372036854775807:=hb.1.2.2.2.2.2.1.1
 have hl_s_6:(s.2.2.2.2.2.2.1).length≤9223372036854775807:=hb.1.2.2.2.2.2.2.1.1
 have hl_s_7:(s.2.2.2.2.2.2.2.1).length≤9223372036854775807:=hb.1.2.2.2.2.2.2.2.1.1
 have hl_s_8:(s.2.2.2.2.2.2.2.2.1).length≤9223372036854775807:=hb.1.2.2.2.2.2.2.2.2.1.1
 have hl_s_9:(s.2.2.2.2.2.2.2.2.2.1).length≤9223372036854775807:=hb.1.2.2.2.2.2.2.2.2.2.1.1
 have hl_s_10:(s.2.2.2.2.2.2.2.2.2.2.1).length≤9223372036854775807:=hb.1.2.2.2.2.2.2.2.2.2.2.1.1
 have hl_s_11:(s.2.2.2.2.2.2.2.2.2.2.2.1).length≤9223372036854775807:=hb.1.2.2.2.2.2.2.2.2.2.2.2.1.1
 exact R_eq rfl
theorem Qf6:Qh Tryz.prog QdT:=Qk fun x _=>QCb x.1
def Qb4 (t:Bool):TRes:=zre (zcb t)
def QkG:TRow:=Qg 185 [(.a [(.sl ctOp)]),(.c (.sl [(.sl [TI])]))] fun x=>(none,Qb4 (JF x.1 x.2.1))
def Qn7:List TRow:=[]
def QwC:TCode :=
 (zsq [(.reg [zbi 17 .lss 16 15]),(.cond 17 .skip (.exit 0)),(.block 1 (zsq [(.reg [zmv 18 16,zia 19 14 16 ctOp,zLd 20 19 4,zop 6 (.new 69 (z0s ctOp)),zmv 5 18,zst 6 20 4]),(.draw [zmv 21 1,zmv 22 5,zia 23 21 22 [(.sl [TI])],zfa 24 23 0,zld 25 24 1,zle 26 25,zfa 27 6 3,zld 28 27 1,zle 29 28,zbi 30 .neq 26 29] []),(.cond 30 (zsq [(.reg [zmv 4 (zkb false)]),.ret]) .skip)])),(.reg [zbi 31 .add 16 (zki 1),zmv 16 31])])
def QtF:List (Nat × Md):=zdl [1,14,15,16]
def QvQ:TCode :=
 (zsq [(.reg [zmv 4 (zkb true)]),.ret])
def QIv:TCode :=
 (zsq [(.reg [zop 2 (.box 26 0 1),zmv 4 (zkb false)]),(zsq [(.reg [zmv 7 1,zle 8 7,zfa 9 2 0,zld 10 9 1,zle 11 10,zbi 12 .neq 8 11]),(.cond 12 (zsq [(.reg [zmv 4 (zkb false)]),.ret]) .skip)]),(zsq [(.reg [zfa 13 2 0,zld 14 13 1,zle 15 14,zmv 16 (zki 0)]),(.block 0 (.loop QtF QwC))]),QvQ])
def QxW:List (ARv × Md):=[(.t 4,.one .d)]
def Qyg:Qb:=TQ 0 0 QxW K
def QPc:Qb:=Qseq (tawp Qn7 0 QvQ (Qyg K)) (Qyg K)
def QP4:Qb:=Qblk 0 (QPc K)
def Qf3 (m:List TOp') (rows:List (List Int)) (x:Int):Prop:=Loop Qn7 0 QtF QwC (QP4 K) ⟨[(1,(zcs [(.sl [TI])] rows)),(14,(zcs ctOp m)),(15,(zci (m.length:Int))),(16,(zci x))],[],0⟩
theorem Qzq (m:List TOp') (rows:List (List Int)) (x:Int) (h :
 (zif (decide (x<(m.length:Int))) (((0:Int)≤x∧Int.toNat x<m.length)∧(((0:Int)≤x∧Int.toNat x<rows.length)∧(zif (((gtd ([]:List Int) rows (Int.toNat x)).length:Int) != (((gtd dOp m (Int.toNat x)).2.2.2).length:Int)) (K (Qb4 false)) (Qf3 K m rows (w64 (x+(1:Int))))))) (K (Qb4 true)))):Qf3 K m rows x :=
 Loop.of (by kernel_rfl) h
theorem QAw (m:List TOp') (rows:List (List Int)) (h :
 (zif ((rows.length:Int) != (m.length:Int)) (K (Qb4 false)) (Qf3 K m rows 0))):Hold (tawp Qn7 (0+0) QIv (TQ 0 0 QxW K) (Qf [(.a [(.c (.sl ctOp) m)]),(.c (.sl [(.sl [TI])]) rows)])) :=
 Hold.of (by kernel_rfl) h
theorem QN0 (m:List TOp') (rows:List (List Int)):TCon Tryz.prog 185 [(.a [(.c (.sl ctOp) m)]),(.c (.sl [(.sl [TI])]) rows)] (Qb4 (JF m rows)):=by
 refine Qq rfl fun hb=>tcg (n:=32) (sg:=QkG.sg) Qj TOk.nil (by kernel_rfl) (by kernel_rfl) (QAw _ m rows ?_)
 have hl_m_0:(m).length≤9223372036854775807:=hb.1.1.1
 have hl_rows:rows.length≤9223372036854775807:=hb.2.1.1
 refine ⟨fun h=>R_eq (by grind [JF]),fun h=>?_⟩
 have hl:rows.length=m.length:=by
  have:((rows.length:Int)==(m.length:Int))=true:=by simpa [bne] using h
  have:=of_decide_eq_true (by simpa using this:decide ((rows.length:Int)=m.length)=true)
  omega
 refine ZL m (fun r k=>ZP r (rows.drop k)=ZP m rows→Qf3 (fun r'=>r'=Qb4 (JF m rows)) m rows k) ?_ ?_ rfl
 ·intro he
  refine Qzq (fun r'=>r'=Qb4 (JF m rows)) m rows _ ⟨fun h=>by simp at h,fun _=>R_eq ?_⟩
  grind [JF,ZP]
 ·intro k x r hk hlt hg ih he
  obtain ⟨y,q,hq⟩:∃ y q,rows.drop k=y::q:=by
   cases hq:rows.drop k with
   | nil=>have:=congrArg List.length hq;simp at this;omega
   | cons y q=>exact ⟨y,q,rfl⟩
  refine Qzq (fun r'=>r'=Qb4 (JF m rows)) m rows _ ⟨fun _=>?_,fun h=>by simp at h;omega⟩
  rw [Int.toNat_natCast,hg,Y1 hq,Qo (x:=(k:Int)+1) (by omega) (by omega)]
  rw [hq,ZP] at he
  rw [YO hq] at ih
  refine ⟨⟨by omega,hlt⟩,⟨by omega,by omega⟩,fun h=>R_eq ?_,fun h=>ih ?_⟩
  ·grind [JF]
  ·grind
theorem QHi:Qh Tryz.prog QkG:=Qk fun x _=>QN0 x.1 x.2.1
def Qbq (t:Bool):TRes:=zre (zcb t)
def Qhf:TRow:=Qg 123 [(.c (.sl ctOp)),(.c (.sl [(.sl [TI])])),(.c TI)] fun x=>(some (Qhc x.1 x.2.1 x.2.2.1),Qbq (YK x.1 x.2.1 x.2.2.1))
def QdW:List TRow:=[JA]
def QwY:TCode :=
 (zsq [(.reg [zmv 30 1,zmv 31 7,zia 32 30 31 [(.sl [TI])],zfa 33 32 0,zld 34 33 1,zmv 35 8,zca 36 114 [34,35],zno 37 36]),(.cond 37 (zsq [(.reg [zmv 6 (zkb false)]),.ret]) .skip)])
def QGS:List (Nat × Md):=zdl [0,1,2,7,8]
def QBo:TCode:=.wk QGS QwY
def QsV:TCode :=
 (.reg [zmv 12 7,zbi 13 .add 12 (zki 1),zmv 7 13])
def Qjn:TCode :=
 (zsq [(zsq [(.reg [zmv 9 7,zmv 10 2,zbi 11 .lss 9 10]),(.cond 11 .skip (.exit 0))]),(.block 1 (zsq [(.reg [zmv 14 0,zmv 15 0,zle 16 15,zbi 17 .sub 16 (zki 1),zia 18 14 17 ctOp,zfa 19 18 2,zld 20 19 1,zmv 8 20]),(zsq [(.reg [zmv 21 7,zmv 22 0,zle 23 22,zbi 24 .lss 21 23]),(.cond 24 (.reg [zmv 25 0,zmv 26 7,zia 27 25 26 ctOp,zfa 28 27 1,zld 29 28 1,zmv 8 29]) .skip)]),QBo])),QsV])
def Qh5:List (Nat × Md):=zdl [0,1,2,7]
def Qo8:TCode :=
 (zsq [(.reg [zmv 6 (zkb true)]),.ret])
def QO1:TCode :=
 (zsq [(.reg [zmv 6 (zkb false)]),(zsq [(.reg [zmv 7 (zki 0)]),(.block 0 (.loop Qh5 Qjn))]),Qo8])
def QoZ:List (ARv × Md):=[(.t 6,.one .d)]
def Qs3:Qb:=TQ 0 0 QoZ K
def QHA:Qb:=Qseq (tawp QdW 0 Qo8 (Qs3 K)) (Qs3 K)
def QkH:Qb:=Qblk 0 (QHA K)
def Qxx:Qb:=Qseq (fun s'=>Loop QdW 0 Qh5 Qjn (QkH K) (gc 0 Qh5 s')) (QkH K)
def QCO:Qb:=Qseq (tawp QdW 0 QsV (Qxx K)) (Qxx K)
def QPp:Qb:=Qblk 1 (QCO K)
@[irreducible] def Qix (ops:List TOp') (rows:List (List Int)) (n:Int) (size:Int) (i:Int):Prop:=tawp QdW 0 QwY (QPp K) ⟨[(0,(zcs ctOp ops)),(1,(zcs [(.sl [TI])] rows)),(2,(zci n)),(7,(zci i)),(8,(zci size))],[],0⟩
def Qhy (ops:List TOp') (rows:List (List Int)) (n:Int) (i:Int):Prop:=Loop QdW 0 Qh5 Qjn (QkH K) ⟨[(0,(zcs ctOp ops)),(1,(zcs [(.sl [TI])] rows)),(2,(zci n)),(7,(zci i))],[],0⟩
theorem QKo (ops:List TOp') (rows:List (List Int)) (n:Int) (size:Int) (i:Int) (h :
 (((0:Int)≤i∧Int.toNat i<rows.length)∧(zif (!(Qs (gtd ([]:List Int) rows (Int.toNat i)) size)) (K (Qbq false)) (Qhy K ops rows n (w64 (i+(1:Int))))))):Hold (Qix K ops rows n size i) :=
 Hold.of (by kernel_rfl) h
theorem Qqp (ops:List TOp') (rows:List (List Int)) (n:Int) (i:Int) (h :
 (zif (decide (i<n)) (((0:Int)≤w64 ((ops.length:Int)-(1:Int))∧Int.toNat (w64 ((ops.length:Int)-(1:Int)))<ops.length)∧(zif (decide (i<(ops.length:Int))) (((0:Int)≤i∧Int.toNat i<ops.length)∧(Qix K ops rows n ((gtd dOp ops (Int.toNat i)).2.1) i)) (Qix K ops rows n ((gtd dOp ops (Int.toNat (w64 ((ops.length:Int)-(1:Int))))).2.2.1) i))) (K (Qbq true)))):Qhy K ops rows n i :=
 Loop.of (by kernel_rfl) h
theorem QKY (ops:List TOp') (rows:List (List Int)) (n:Int) (h :
 (Qhy K ops rows n 0)):Hold (tawp QdW (0+0) QO1 (TQ 0 0 QoZ K) (Qf [(.c (.sl ctOp) ops),(.c (.sl [(.sl [TI])]) rows),(.c TI n)])) :=
 Hold.of (by kernel_rfl) h
theorem QDj (ops:List TOp') (rows:List (List Int)) (n:Int) (hp:Qhc ops rows n):TCon Tryz.prog 123 [(.c (.sl ctOp) ops),(.c (.sl [(.sl [TI])]) rows),(.c TI n)] (Qbq (YK ops rows n)):=by
 refine Qq rfl fun hb=>tcg (n:=38) (sg:=Qhf.sg) Qj (TOk.cons Qao TOk.nil) (by kernel_rfl) (by kernel_rfl) (QKY _ ops rows n ?_)
 have hl_ops:ops.length≤9223372036854775807:=hb.1.1
 have hl_rows:rows.length≤9223372036854775807:=hb.2.1.1
 have:=QhM rows 0 n (Int.le_refl 0) hp.2.1 hp.2.2 (fun r k=>Jd ops k r=(YK ops rows n)→Qhy (fun r'=>r'=Qbq (YK ops rows n)) ops rows n k) ?_ ?_ (by simp [YK,slice])
 ·exact this
 ·intro he
  refine Qqp (fun r'=>r'=Qbq (YK ops rows n)) ops rows n _ ⟨fun h=>by simp at h;omega,fun _=>R_eq ?_⟩
  simpa [Jd] using he
 ·intro k x r h1 h2 hlt hg ih he
  have e:=QcP hp.1 hl_ops
  have key:Qix (fun r'=>r'=Qbq (YK ops rows n)) ops rows n (Qa6 ops k) k:=by
   refine (QKo (fun r'=>r'=Qbq (YK ops rows n)) ops rows n _ _ ?_).h
   rw [Int.toNat_natCast,hg,Qo (x:=(k:Int)+1) (by omega) (by omega)]
   rw [Jd] at he
   refine ⟨⟨by omega,hlt⟩,fun h=>R_eq ?_,fun h=>ih ?_⟩ <;> grind
  refine Qqp (fun r'=>r'=Qbq (YK ops rows n)) ops rows n _ ⟨fun _=>?_,fun h=>by simp at h;omega⟩
  rw [e.1,Int.toNat_natCast]
  refine ⟨⟨e.2,by have:=hp.1;omega⟩,fun h=>⟨⟨by omega,by simpa using h⟩,?_⟩,fun h=>?_⟩
  ·rw [Qa6,if_pos (by simpa using h)] at key;exact key
  ·rw [Qa6,if_neg (by simpa using h)] at key;exact key
theorem Qtn:Qh Tryz.prog Qhf:=Qk fun x h=>QDj x.1 x.2.1 x.2.2.1 h
def Qak (t:Bool):TRes:=zre (zcb t)
def Qdi:TRow:=Qg 113 [(.a Qx)] fun x=>(none,Qak (Zc x.1))
def QiK:List TRow:=[QdT,J6,QkG,Qhf,Qdr,Qdk,Qmu]
def QyC:TCode :=
 (zsq [(.reg [zbi 45 .lss 44 43]),(.cond 45 .skip (.exit 0)),(.block 1 (zsq [(.reg [zia 46 42 44 ZA,zLd 47 46 2,zop 6 (.new 76 (z0s ZA)),zst 6 47 2]),(.reg [zfa 48 6 1,zld 49 48 1,zle 50 49,zmv 51 4,zbi 52 .neq 50 51,zmv 53 52,.grp 53 false [zfa 54 1 2,zld 55 54 1,zfa 56 6 1,zld 57 56 1,zmv 58 4,zca 59 123 [55,57,58],zno 60 59] 61 60]),(.cond 61 (zsq [(.reg [zmv 2 (zkb false)]),.ret]) .skip)])),(.reg [zbi 62 .add 44 (zki 1),zmv 44 62])])
def Qzi:List (Nat × Md):=[(1,.b (zds 14)),(3,.b [.d]),(4,.one .d),(42,.one .d),(43,.one .d),(44,.one .d)]
def QoX:TCode :=
 (zsq [(.draw [zLd 63 3 1,zca 64 115 [63],zLd 65 3 1,zca 66 117 [65],zmv 7 64,zmv 8 66] [(1,2)]),(.reg [zfa 67 1 7,zld 68 67 1,zmv 69 7,zca 70 186 [68,69],zmv 71 70,.grp 71 true [zfa 72 1 10,zld 73 72 1,zmv 74 7,zca 75 186 [73,74]] 76 75,zmv 77 76,.grp 77 true [zfa 78 1 8,zld 79 78 1,zmv 80 8,zca 81 186 [79,80]] 82 81,zmv 83 82,.grp 83 true [zfa 84 1 9,zld 85 84 1,zmv 86 8,zca 87 186 [85,86]] 88 87,zmv 2 88]),.ret])
def Qvc:TCode :=
 (zsq [(zsq [(.reg [zfa 41 1 5,zld 42 41 1,zle 43 42,zmv 44 (zki 0)]),(.block 0 (.loop Qzi QyC))]),QoX])
def QD4:List (Nat × Md):=[(1,.b (zds 14)),(3,.b [.d]),(4,.one .d)]
def QJb:TCode:=.wk QD4 Qvc
def QKu:TCode :=
 (zsq [(.reg [zop 1 (.box 63 0 14),zmv 2 (zkb false)]),(.reg [zLd 9 1 14,zca 10 112 [9],zop 3 (.new 26 [(.n ctOp)]),zst 3 10 1]),(zsq [(.reg [zLd 11 3 1,zca 12 131 [11],zno 13 12,zmv 14 13,.grp 14 false [zfa 15 1 0,zld 16 15 1,zbi 17 .lss 16 (zki 0)] 18 17,zmv 19 18,.grp 19 false [zfa 20 1 0,zld 21 20 1,zfa 22 1 1,zld 23 22 1,zle 24 23,zbi 25 .gtr 21 24] 26 25,zmv 27 26,.grp 27 false [zLd 28 3 1,zfa 29 1 11,zfa 30 29 0,zld 31 30 1,zca 32 185 [28,31],zno 33 32] 34 33]),(.cond 34 (zsq [(.reg [zmv 2 (zkb false)]),.ret]) .skip)]),(.reg [zfa 35 1 2,zld 36 35 1,zle 37 36,zbi 38 .add 37 (zki 1),zmv 4 38]),(zsq [(.reg [zfa 39 1 4,zld 40 39 1]),(.cond 40 (.reg [zmv 4 (zki 1)]) .skip)]),QJb])
def Qpx:List (ARv × Md):=[(.t 2,.one .d)]
def QjA:Qb:=TQ 0 0 Qpx K
def QHq:Qb:=Qseq (tawp QiK 0 QoX (QjA K)) (QjA K)
def QCc:Qb:=Qblk 0 (QHq K)
def QeY (s:Qc) (kept:Int) (x:Int):Prop:=Loop QiK 0 Qzi QyC (QCc K) ⟨[(1,(.p 0 0 0)),(3,(.p 1 0 0)),(4,(zci kept)),(42,(zcs ZA s.2.2.2.2.2.1)),(43,(zci ((s.2.2.2.2.2.1).length:Int))),(44,(zci x))],[(0,(.box (Tup.cells Qx s))),(1,(.box [(zcs ctOp (ZW s))]))],2⟩
@[irreducible] def QlS (s:Qc) (kept:Int):Prop:=tawp QiK 0 Qvc (QjA K) ⟨[(1,(.p 0 0 0)),(3,(.p 1 0 0)),(4,(zci kept))],[(0,(.box (Tup.cells Qx s))),(1,(.box [(zcs ctOp (ZW s))]))],2⟩
theorem Qpr (s:Qc) (kept:Int) (x:Int) (h :
 (zif (decide (x<((s.2.2.2.2.2.1).length:Int))) (((0:Int)≤x∧Int.toNat x<(s.2.2.2.2.2.1).length)∧(((!((((gtd YC s.2.2.2.2.2.1 (Int.toNat x)).2).length:Int) != kept))=true→(Qhc s.2.2.1 ((gtd YC s.2.2.2.2.2.1 (Int.toNat x)).2) kept))∧(zif (((((gtd YC s.2.2.2.2.2.1 (Int.toNat x)).2).length:Int) != kept)||(!(YK s.2.2.1 ((gtd YC s.2.2.2.2.2.1 (Int.toNat x)).2) kept))) (K (Qak false)) (QeY K s kept (w64 (x+(1:Int))))))) (K (Qak ((((YT s.2.2.2.2.2.2.2.1 (QX (ZW s)))&&(YT s.2.2.2.2.2.2.2.2.2.2.1 (QX (ZW s))))&&(YT s.2.2.2.2.2.2.2.2.1 (Q1 (ZW s))))&&(YT s.2.2.2.2.2.2.2.2.2.1 (Q1 (ZW s)))))))):QeY K s kept x :=
 Loop.of (by kernel_rfl) h
theorem QrN (s:Qc) (kept:Int) (h :
 (QeY K s kept 0)):Hold (QlS K s kept) :=
 Hold.of (by kernel_rfl) h
theorem QQJ (s:Qc) (h :
 (zif ((((!(Qw (ZW s)))||(decide (s.1<(0:Int))))||(decide (s.1>((s.2.1).length:Int))))||(!(JF (ZW s) s.2.2.2.2.2.2.2.2.2.2.2.1))) (K (Qak false)) (zif s.2.2.2.2.1 (QlS K s 1) (QlS K s (w64 (((s.2.2.1).length:Int)+(1:Int))))))):Hold (tawp QiK (0+0) QKu (TQ 0 0 Qpx K) (Qf [(.a (Tup.cells Qx s))])) :=
 Hold.of (by kernel_rfl) h
theorem QRf (s:Qc):TCon Tryz.prog 113 [(.a (Tup.cells Qx s))] (Qak (Zc s)):=by
 refine Qq rfl fun hb=>tcg (n:=89) (sg:=Qdi.sg) Qj (TOk.cons Qf6 (TOk.cons QaP (TOk.cons QHi (TOk.cons Qtn (TOk.cons QhR (TOk.cons Qgb (TOk.cons QDW TOk.nil))))))) (by kernel_rfl) (by kernel_rfl) (QQJ _ s ?_)
 have hl_s_1:(s.2.1).length≤9223372036854775807:=hb.1.2.1.1
 have hl_s_2:(s.2.2.1).length≤9223372036854775807:=hb.1.2.2.1.1
 have hl_s_5:(s.2.2.2.2.2.1).length≤9223372036854775807:=hb.1.2.2.2.2.2.1.1
 have hl_s_6:(s.2.2.2.2.2.2.1).length≤9223372036854775807:=hb.1.2.2.2.2.2.2.1.1
 have hl_s_7:(s.2.2.2.2.2.2.2.1).length≤9223372036854775807:=hb.1.2.2.2.2.2.2.2.1.1
 have hl_s_8:(s.2.2.2.2.2.2.2.2.1).length≤9223372036854775807:=hb.1.2.2.2.2.2.2.2.2.1.1
 have hl_s_9:(s.2.2.2.2.2.2.2.2.2.1).length≤9223372036854775807:=hb.1.2.2.2.2.2.2.2.2.2.1.1
 have hl_s_10:(s.2.2.2.2.2.2.2.2.2.2.1).length≤9223372036854775807:=hb.1.2.2.2.2.2.2.2.2.2.2.1.1
 have hl_s_11:(s.2.2.2.2.2.2.2.2.2.2.2.1).length≤9223372036854775807:=hb.1.2.2.2.2.2.2.2.2.2.2.2.1.1
 refine ⟨fun h=>R_eq (by grind [Zc,m_in]),fun h=>?_⟩
 have h0:Qw s.2.2.1=true∧m_in s.1 0 s.2.1.length=true∧JF s.2.2.1 s.2.2.2.2.2.2.2.2.2.2.2.1=true:=by grind [m_in]
 have hm:=Yx h0.1
 have hk:1≤Jh s∧Jh s≤9:=by unfold Jh;split <;> omega
 have key:QeY (fun r'=>r'=Qak (Zc s)) s (Jh s) ((0:Nat):Int):=by
  refine ZL s.2.2.2.2.2.1 (fun r k=>r.all (QaT s)=s.2.2.2.2.2.1.all (QaT s)→QeY (fun r'=>r'=Qak (Zc s)) s (Jh s) k) ?_ ?_ rfl
  ·intro he
   refine Qpr (fun r'=>r'=Qak (Zc s)) s _ _ ⟨fun h=>by simp at h,fun _=>R_eq ?_⟩
   grind [Zc]
  ·intro k x r hk2 hlt hg ih he
   refine Qpr (fun r'=>r'=Qak (Zc s)) s _ _ ⟨fun _=>?_,fun h=>by simp at h;omega⟩
   rw [Int.toNat_natCast,hg,Qo (x:=(k:Int)+1) (by omega) (by omega)]
   refine ⟨⟨by omega,hlt⟩,fun h=>?_,fun h=>R_eq ?_,fun h=>ih ?_⟩
   ·have:(x.2.length:Int)=Jh s:=by simpa using h
    exact ⟨hm.1,by omega,by omega⟩
   ·grind [Zc,QaT]
   ·grind [QaT]
 refine ⟨fun h1=>?_,fun h1=>?_⟩
 ·have e:Jh s=1:=by simp [Jh,h1]
  rw [e] at key
  exact (QrN (fun r'=>r'=Qak (Zc s)) s _ key).h
 ·have e:Jh s=s.2.2.1.length+1:=by simp [Jh,h1]
  rw [Qo (x:=(s.2.2.1.length:Int)+1) (by omega) (by omega)]
  rw [e] at key
  exact (QrN (fun r'=>r'=Qak (Zc s)) s _ key).h
theorem Qhv:Qh Tryz.prog Qdi:=Qk fun x _=>QRf x.1
end
end Go.Proofs.YtjbdljkhbglnhaaGreat.Am

