/- -/
import Derived.Test.YtjbdljkhbglnhaaGreatZAG8
namespace Go.Proofs.YtjbdljkhbglnhaaGreat.Am
open Go Go.RowKit Go.Proofs.YtjbdljkhbglnhaaGreat
set_option linter.all false
noncomputable section
variable (K:TRes→Prop)
def Qcc (t:Int):TRes:=zre (zci t)
def Qfm:TRow:=Qj 116 [(.c (.sl Zo)),(.c TI)] fun x=>(none,Qcc (QS x.1 x.2.1))
def Qmy:List TRow:=[]
def Qqg:TCode :=
 (zsq [(.reg [zbi 10 .lss 9 8]),(.cond 10 .skip (.exit 0)),(.block 1 (zsq [(.reg [zmv 11 9,zia 12 7 9 Zo,zLd 13 12 2,zop 6 (.new 76 (z0s Zo)),zmv 5 11,zst 6 13 2]),(.reg [zfa 14 6 0,zld 15 14 1,zmv 16 1,zbi 17 .eql 15 16]),(.cond 17 (zsq [(.reg [zmv 18 5,zmv 4 18]),.ret]) .skip)])),(.reg [zbi 19 .add 9 (zki 1),zmv 9 19])])
def QwW:List (Nat × Md):=zdl [1,7,8,9]
def QsW:TCode :=
 (zsq [(.reg [zmv 4 (zki (-1))]),.ret])
def QHe:TCode :=
 (zsq [(.reg [zmv 4 (zki 0)]),(zsq [(.reg [zmv 7 0,zle 8 7,zmv 9 (zki 0)]),(.block 0 (.loop QwW Qqg))]),QsW])
def Qvs:List (ARv × Md):=[(.t 4,.one .d)]
def QuF:Qb:=TQ 0 0 Qvs K
def QRm:Qb:=Qseq (tawp Qmy 0 QsW (QuF K)) (QuF K)
def QDj:Qb:=Qblk 0 (QRm K)
def Qi6 (l:List Yg) (m:Int) (x:Int):Prop:=Loop Qmy 0 QwW Qqg (QDj K) ⟨[(1,(zci m)),(7,(zcs Zo l)),(8,(zci (l.length:Int))),(9,(zci x))],[],0⟩
theorem Qpc (l:List Yg) (m:Int) (x:Int) (h :
 (zif (decide (x<(l.length:Int))) (((0:Int)≤x∧Int.toNat x<l.length)∧(zif (((gtd Ya l (Int.toNat x)).1)==m) (K (Qcc x)) (Qi6 K l m (w64 (x+(1:Int)))))) (K (Qcc (-1:Int))))):Qi6 K l m x :=
 Loop.of (by kernel_rfl) h
theorem QJw (l:List Yg) (m:Int) (h :
 (Qi6 K l m 0)):Hold (tawp Qmy (0+0) QHe (TQ 0 0 Qvs K) (Qf [(.c (.sl Zo) l),(.c TI m)])) :=
 Hold.of (by kernel_rfl) h
theorem QQg (l:List Yg) (m:Int):TCon Tryz.prog 116 [(.c (.sl Zo) l),(.c TI m)] (Qcc (QS l m)):=by
 refine Qq rfl fun hb=>tcg (n:=20) (sg:=Qfm.sg) Ql TOk.nil (by kernel_rfl) (by kernel_rfl) (QJw _ l m ?_)
 have hl_l:l.length≤9223372036854775807:=hb.1.1
 refine Zj l (fun r k=>JY r m k=QS l m→Qi6 (fun r'=>r'=Qcc (QS l m)) l m k) ?_ ?_ rfl
 ·intro he
  refine Qpc (fun r'=>r'=Qcc (QS l m)) l m _ ⟨fun h=>by simp at h,fun _=>?_⟩
  grind [JY]
 ·intro k x r hk hlt hg ih he
  refine Qpc (fun r'=>r'=Qcc (QS l m)) l m _ ⟨fun _=>?_,fun h=>by simp at h;omega⟩
  rw [Int.toNat_natCast,hg,Qp (by omega) (by omega)]
  grind [JY]
theorem Qnf:Qi Tryz.prog Qfm:=Qm fun x _=>QQg x.1 x.2.1
def QdY (t:Int):TRes:=zre (zci t)
def QkV:TRow:=Qj 122 [(.c (.sl [(.sl [TI])]))] fun x=>(none,QdY (Qag x.1))
def QmL:List TRow:=[]
def Qt8:TCode :=
 (zsq [(.reg [zbi 9 .lss 8 7]),(.cond 9 .skip (.exit 0)),(.block 1 (zsq [(.reg [zia 10 6 8 [(.sl [TI])],zLd 11 10 1,zop 5 (.new 129 [(.n [TI])]),zst 5 11 1]),(.reg [zmv 12 3,zfa 13 5 0,zld 14 13 1,zle 15 14,zbi 16 .add 12 15,zmv 3 16])])),(.reg [zbi 17 .add 8 (zki 1),zmv 8 17])])
def QyJ:List (Nat × Md):=zdl [3,6,7,8]
def QrG:TCode :=
 (zsq [(.reg [zmv 18 3,zmv 2 18]),.ret])
def QPl:TCode :=
 (zsq [(.reg [zmv 2 (zki 0)]),(.reg [zmv 3 (zki 0)]),(zsq [(.reg [zmv 6 0,zle 7 6,zmv 8 (zki 0)]),(.block 0 (.loop QyJ Qt8))]),QrG])
def Qup:List (ARv × Md):=[(.t 2,.one .d)]
def QtP:Qb:=TQ 0 0 Qup K
def QBO:Qb:=Qseq (tawp QmL 0 QrG (QtP K)) (QtP K)
def QER:Qb:=Qblk 0 (QBO K)
def QgV (rows:List (List Int)) (n:Int) (x:Int):Prop:=Loop QmL 0 QyJ Qt8 (QER K) ⟨[(3,(zci n)),(6,(zcs [(.sl [TI])] rows)),(7,(zci (rows.length:Int))),(8,(zci x))],[],0⟩
theorem QyA (rows:List (List Int)) (n:Int) (x:Int) (h :
 (zif (decide (x<(rows.length:Int))) (((0:Int)≤x∧Int.toNat x<rows.length)∧(QgV K rows (w64 (n+((gtd ([]:List Int) rows (Int.toNat x)).length:Int))) (w64 (x+(1:Int))))) (K (QdY n)))):QgV K rows n x :=
 Loop.of (by kernel_rfl) h
theorem QKV (rows:List (List Int)) (h :
 (QgV K rows 0 0)):Hold (tawp QmL (0+0) QPl (TQ 0 0 Qup K) (Qf [(.c (.sl [(.sl [TI])]) rows)])) :=
 Hold.of (by kernel_rfl) h
theorem QQD (rows:List (List Int)):TCon Tryz.prog 122 [(.c (.sl [(.sl [TI])]) rows)] (QdY (Qag rows)):=by
 refine Qq rfl fun hb=>tcg (n:=19) (sg:=QkV.sg) Ql TOk.nil (by kernel_rfl) (by kernel_rfl) (QKV _ rows ?_)
 have hl_rows:rows.length≤9223372036854775807:=hb.1.1
 refine Zj rows (fun r k=>∀ y:Int,w64 (y+(r.map fun r=>(r.length:Int)).sum)=(Qag rows)→QgV (fun r'=>r'=QdY (Qag rows)) rows (w64 y) k) ?_ ?_ 0 (by simp [Qag])
 ·intro y he
  refine QyA (fun r'=>r'=QdY (Qag rows)) rows _ _ ⟨fun h=>by simp at h,fun _=>R_eq ?_⟩
  simpa using he
 ·intro k x r hk hlt hg ih y he
  refine QyA (fun r'=>r'=QdY (Qag rows)) rows _ _ ⟨fun _=>?_,fun h=>by simp at h;omega⟩
  rw [Int.toNat_natCast,hg,Qp (x:=(k:Int)+1) (by omega) (by omega),Yy]
  refine ⟨⟨by omega,hlt⟩,ih _ ?_⟩
  rw [← he,List.map_cons,List.sum_cons,Int.add_assoc]
theorem QJD:Qi Tryz.prog QkV:=Qm fun x _=>QQD x.1
def QdP (t:Int):TRes:=zre (zci t)
def QlF:TRow:=Qj 45 [(.a Qs)] fun x=>(none,QdP (ZD x.1))
def Qmf:List TRow:=[QkV]
def Qz4:TCode :=
 (zsq [(.reg [zbi 29 .lss 28 27]),(.cond 29 .skip (.exit 0)),(.block 1 (zsq [(.reg [zia 30 26 28 Zo,zLd 31 30 2,zop 5 (.new 76 (z0s Zo)),zst 5 31 2]),(.reg [zmv 32 3,zfa 33 5 1,zld 34 33 1,zca 35 122 [34],zbi 36 .add 32 35,zmv 3 36])])),(.reg [zbi 37 .add 28 (zki 1),zmv 28 37])])
def QAj:List (Nat × Md):=zdl [3,26,27,28]
def Qyg:TCode :=
 (zsq [(.reg [zmv 38 3,zmv 2 38]),.ret])
def QFa:TCode :=
 (zsq [(.reg [zop 1 (.box 63 0 14),zmv 2 (zki 0)]),(.draw [zfa 6 1 7,zld 7 6 1,zle 8 7,zfa 9 1 8,zld 10 9 1,zle 11 10,zbi 12 .add 8 11,zfa 13 1 9,zld 14 13 1,zle 15 14,zbi 16 .add 12 15,zfa 17 1 10,zld 18 17 1,zle 19 18,zbi 20 .add 16 19,zfa 21 1 6,zld 22 21 1,zca 23 122 [22],zbi 24 .add 20 23,zmv 3 24] [(0,17),(1,17),(2,17),(3,17),(4,17),(5,17),(7,17),(8,17),(9,17),(11,17),(12,17),(13,17)]),(zsq [(.reg [zfa 25 1 5,zld 26 25 1,zle 27 26,zmv 28 (zki 0)]),(.block 0 (.loop QAj Qz4))]),Qyg])
def QwO:List (ARv × Md):=[(.t 2,.one .d)]
def Qth:Qb:=TQ 0 0 QwO K
def QQG:Qb:=Qseq (tawp Qmf 0 Qyg (Qth K)) (Qth K)
def QF0:Qb:=Qblk 0 (QQG K)
def Qhu (s:Qc) (n:Int) (x:Int):Prop:=Loop Qmf 0 QAj Qz4 (QF0 K) ⟨[(3,(zci n)),(26,(zcs Zo s.2.2.2.2.2.1)),(27,(zci ((s.2.2.2.2.2.1).length:Int))),(28,(zci x))],[],0⟩
theorem QvG (s:Qc) (n:Int) (x:Int) (h :
 (zif (decide (x<((s.2.2.2.2.2.1).length:Int))) (((0:Int)≤x∧Int.toNat x<(s.2.2.2.2.2.1).length)∧(Qhu K s (w64 (n+(Qag ((gtd Ya s.2.2.2.2.2.1 (Int.toNat x)).2)))) (w64 (x+(1:Int))))) (K (QdP n)))):Qhu K s n x :=
 Loop.of (by kernel_rfl) h
theorem QKu (s:Qc) (h :
 (Qhu K s (w64 ((w64 ((w64 ((w64 (((s.2.2.2.2.2.2.2.1).length:Int)+((s.2.2.2.2.2.2.2.2.1).length:Int)))+((s.2.2.2.2.2.2.2.2.2.1).length:Int)))+((s.2.2.2.2.2.2.2.2.2.2.1).length:Int)))+(Qag s.2.2.2.2.2.2.1))) 0)):Hold (tawp Qmf (0+0) QFa (TQ 0 0 QwO K) (Qf [(.a (Tup.cells Qs s))])) :=
 Hold.of (by kernel_rfl) h
theorem QM6 (s:Qc):TCon Tryz.prog 45 [(.a (Tup.cells Qs s))] (QdP (ZD s)):=by
 refine Qq rfl fun hb=>tcg (n:=39) (sg:=QlF.sg) Ql (TOk.cons QJD TOk.nil) (by kernel_rfl) (by kernel_rfl) (QKu _ s ?_)
 have hl_s_1:(s.2.1).length≤9223372036854775807:=hb.1.2.1.1
 have hl_s_2:(s.2.2.1).length≤9223372036854775807:=hb.1.2.2.1.1
 have hl_s_5:(s.2.2.2.2.2.1).length≤9223372036854775807:=hb.1.2.2.2.2.2.1.1
 have hl_s_6:(s.2.2.2.2.2.2.1).length≤9223372036854775807:=hb.1.2.2.2.2.2.2.1.1
 have hl_s_7:(s.2.2.2.2.2.2.2.1).length≤9223372036854775807:=hb.1.2.2.2.2.2.2.2.1.1
 have hl_s_8:(s.2.2.2.2.2.2.2.2.1).length≤9223372036854775807:=hb.1.2.2.2.2.2.2.2.2.1.1
 have hl_s_9:(s.2.2.2.2.2.2.2.2.2.1).length≤9223372036854775807:=hb.1.2.2.2.2.2.2.2.2.2.1.1
 have hl_s_10:(s.2.2.2.2.2.2.2.2.2.2.1).length≤9223372036854775807:=hb.1.2.2.2.2.2.2.2.2.2.2.1.1
 have hl_s_11:(s.2.2.2.2.2.2.2.2.2.2.2.1).length≤9223372036854775807:=hb.1.2.2.2.2.2.2.2.2.2.2.2.1.1
 simp only [Qag,Yy,Qt6]
 refine Zj s.2.2.2.2.2.1 (fun r k=>∀ y:Int,w64 (y+(r.map fun x=>(x.2.map fun r=>(r.length:Int)).sum).sum)=(ZD s)→Qhu (fun r'=>r'=QdP (ZD s)) s (w64 y) k) ?_ ?_ _ rfl
 ·intro y he
  refine QvG (fun r'=>r'=QdP (ZD s)) s _ _ ⟨fun h=>by simp at h,fun _=>R_eq ?_⟩
  simpa using he
 ·intro k x r hk hlt hg ih y he
  refine QvG (fun r'=>r'=QdP (ZD s)) s _ _ ⟨fun _=>?_,fun h=>by simp at h;omega⟩
  rw [Int.toNat_natCast,hg,Qp (x:=(k:Int)+1) (by omega) (by omega)]
  simp only [Qag,Yy,Qt6]
  refine ⟨⟨by omega,hlt⟩,ih _ ?_⟩
  rw [← he,List.map_cons,List.sum_cons,Int.add_assoc]
theorem QP6:Qi Tryz.prog QlF:=Qm fun x _=>QM6 x.1
def JO (t:Int):TRes:=zre (zci t)
def Qmb:TRow:=Qj 126 [(.a Qs)] fun x=>(none,JO (ZD x.1))
def Qbz:List TRow:=[]
def QvJ:TCode :=
 (zsq [(zsq [(.reg [zmv 29 5,zfa 30 1 5,zld 31 30 1,zmv 32 4,zia 33 31 32 Zo,zfa 34 33 1,zld 35 34 1,zle 36 35,zbi 37 .lss 29 36]),(.cond 37 .skip (.exit 2))]),(.block 3 (.reg [zmv 40 3,zfa 41 1 5,zld 42 41 1,zmv 43 4,zia 44 42 43 Zo,zfa 45 44 1,zld 46 45 1,zmv 47 5,zia 48 46 47 [(.sl [TI])],zfa 49 48 0,zld 50 49 1,zle 51 50,zbi 52 .add 40 51,zmv 3 52])),(.reg [zmv 38 5,zbi 39 .add 38 (zki 1),zmv 5 39])])
def Qzk:List (Nat × Md):=[(1,.b (zds 14)),(3,.one .d),(4,.one .d),(5,.one .d)]
def QzP:TCode :=
 (.reg [zmv 27 4,zbi 28 .add 27 (zki 1),zmv 4 28])
def QnL:TCode :=
 (zsq [(zsq [(.reg [zmv 22 4,zfa 23 1 5,zld 24 23 1,zle 25 24,zbi 26 .lss 22 25]),(.cond 26 .skip (.exit 0))]),(.block 1 (zsq [(.reg [zmv 5 (zki 0)]),(.block 2 (.loop Qzk QvJ))])),QzP])
def Qgy:List (Nat × Md):=[(1,.b (zds 14)),(3,.one .d),(4,.one .d)]
def QAn:TCode :=
 (zsq [(zsq [(.reg [zmv 53 6,zfa 54 1 6,zld 55 54 1,zle 56 55,zbi 57 .lss 53 56]),(.cond 57 .skip (.exit 4))]),(.block 5 (.reg [zmv 60 3,zfa 61 1 6,zld 62 61 1,zmv 63 6,zia 64 62 63 [(.sl [TI])],zfa 65 64 0,zld 66 65 1,zle 67 66,zbi 68 .add 60 67,zmv 3 68])),(.reg [zmv 58 6,zbi 59 .add 58 (zki 1),zmv 6 59])])
def QxR:List (Nat × Md):=[(1,.b (zds 14)),(3,.one .d),(6,.one .d)]
def Qw6:TCode :=
 (zsq [(.reg [zmv 69 3,zmv 2 69]),.ret])
def QAl:TCode :=
 (zsq [(zsq [(.reg [zmv 6 (zki 0)]),(.block 4 (.loop QxR QAn))]),Qw6])
def QGy:TCode :=
 (zsq [(.reg [zop 1 (.box 63 0 14),zmv 2 (zki 0)]),(.reg [zfa 7 1 7,zld 8 7 1,zle 9 8,zfa 10 1 8,zld 11 10 1,zle 12 11,zbi 13 .add 9 12,zfa 14 1 9,zld 15 14 1,zle 16 15,zbi 17 .add 13 16,zfa 18 1 10,zld 19 18 1,zle 20 19,zbi 21 .add 17 20,zmv 3 21]),(zsq [(.reg [zmv 4 (zki 0)]),(.block 0 (.loop Qgy QnL))]),QAl])
def Qry:List (ARv × Md):=[(.t 2,.one .d)]
def Qig:Qb:=TQ 0 0 Qry K
def QP5:Qb:=Qseq (tawp Qbz 0 QAl (Qig K)) (Qig K)
def QkR:Qb:=Qblk 0 (QP5 K)
def Qpy:Qb:=Qseq (fun s'=>Loop Qbz 0 Qgy QnL (QkR K) (gc 0 Qgy s')) (QkR K)
def QBn:Qb:=Qseq (tawp Qbz 0 QzP (Qpy K)) (Qpy K)
def QMC:Qb:=Qblk 1 (QBn K)
def QMf:Qb:=Qblk 2 (QMC K)
def QfP (s:Qc) (n:Int) (k:Int) (i:Int):Prop:=Loop Qbz 0 Qzk QvJ (QMf K) ⟨[(1,(.p 0 0 0)),(3,(zci n)),(4,(zci i)),(5,(zci k))],[(0,(.box (Tup.cells Qs s)))],1⟩
def QPo:Qb:=Qseq (tawp Qbz 0 Qw6 (Qig K)) (Qig K)
def QOh:Qb:=Qblk 4 (QPo K)
def Qe4 (s:Qc) (n2:Int) (k1:Int):Prop:=Loop Qbz 0 QxR QAn (QOh K) ⟨[(1,(.p 0 0 0)),(3,(zci n2)),(6,(zci k1))],[(0,(.box (Tup.cells Qs s)))],1⟩
def QfS (s:Qc) (n1:Int) (i:Int):Prop:=Loop Qbz 0 Qgy QnL (QkR K) ⟨[(1,(.p 0 0 0)),(3,(zci n1)),(4,(zci i))],[(0,(.box (Tup.cells Qs s)))],1⟩
theorem QzG (s:Qc) (n:Int) (k:Int) (i:Int) (h :
 (((0:Int)≤i∧Int.toNat i<(s.2.2.2.2.2.1).length)∧(zif (decide (k<(((gtd Ya s.2.2.2.2.2.1 (Int.toNat i)).2).length:Int))) ((((0:Int)≤i∧Int.toNat i<(s.2.2.2.2.2.1).length)∧((0:Int)≤k∧Int.toNat k<((gtd Ya s.2.2.2.2.2.1 (Int.toNat i)).2).length))∧(QfP K s (w64 (n+((gtd ([]:List Int) ((gtd Ya s.2.2.2.2.2.1 (Int.toNat i)).2) (Int.toNat k)).length:Int))) (w64 (k+(1:Int))) i)) (QfS K s n (w64 (i+(1:Int))))))):QfP K s n k i :=
 Loop.of (by kernel_rfl) h
theorem QtS (s:Qc) (n2:Int) (k1:Int) (h :
 (zif (decide (k1<((s.2.2.2.2.2.2.1).length:Int))) (((0:Int)≤k1∧Int.toNat k1<(s.2.2.2.2.2.2.1).length)∧(Qe4 K s (w64 (n2+((gtd ([]:List Int) s.2.2.2.2.2.2.1 (Int.toNat k1)).length:Int))) (w64 (k1+(1:Int))))) (K (JO n2)))):Qe4 K s n2 k1 :=
 Loop.of (by kernel_rfl) h
theorem Qts (s:Qc) (n1:Int) (i:Int) (h :
 (zif (decide (i<((s.2.2.2.2.2.1).length:Int))) (QfP K s n1 0 i) (Qe4 K s n1 0))):QfS K s n1 i :=
 Loop.of (by kernel_rfl) h
theorem QJt (s:Qc) (h :
 (QfS K s (w64 ((w64 ((w64 (((s.2.2.2.2.2.2.2.1).length:Int)+((s.2.2.2.2.2.2.2.2.1).length:Int)))+((s.2.2.2.2.2.2.2.2.2.1).length:Int)))+((s.2.2.2.2.2.2.2.2.2.2.1).length:Int))) 0)):Hold (tawp Qbz (0+0) QGy (TQ 0 0 Qry K) (Qf [(.a (Tup.cells Qs s))])) :=
 Hold.of (by kernel_rfl) h
theorem QAX (s:Qc):TCon Tryz.prog 126 [(.a (Tup.cells Qs s))] (JO (ZD s)):=by
 refine Qq rfl fun hb=>tcg (n:=70) (sg:=Qmb.sg) Ql TOk.nil (by kernel_rfl) (by kernel_rfl) (QJt _ s ?_)
 have hl_s_1:(s.2.1).length≤9223372036854775807:=hb.1.2.1.1
 have hl_s_2:(s.2.2.1).length≤9223372036854775807:=hb.1.2.2.1.1
 have hl_s_5:(s.2.2.2.2.2.1).length≤9223372036854775807:=hb.1.2.2.2.2.2.1.1
 have hl_s_6:(s.2.2.2.2.2.2.1).length≤9223372036854775807:=hb.1.2.2.2.2.2.2.1.1
 have hl_s_7:(s.2.2.2.2.2.2.2.1).length≤9223372036854775807:=hb.1.2.2.2.2.2.2.2.1.1
 have hl_s_8:(s.2.2.2.2.2.2.2.2.1).length≤9223372036854775807:=hb.1.2.2.2.2.2.2.2.2.1.1
 have hl_s_9:(s.2.2.2.2.2.2.2.2.2.1).length≤9223372036854775807:=hb.1.2.2.2.2.2.2.2.2.2.1.1
 have hl_s_10:(s.2.2.2.2.2.2.2.2.2.2.1).length≤9223372036854775807:=hb.1.2.2.2.2.2.2.2.2.2.2.1.1
 have hl_s_11:(s.2.2.2.2.2.2.2.2.2.2.2.1).length≤9223372036854775807:=hb.1.2.2.2.2.2.2.2.2.2.2.2.1.1
 simp only [Yy]
 have full:∀ y:Int,w64 (y+(s.2.2.2.2.2.2.1.map fun r=>(r.length:Int)).sum)=(ZD s)→Qe4 (fun r'=>r'=JO (ZD s)) s (w64 y) 0:=by
  refine Zj s.2.2.2.2.2.2.1 (fun r k=>∀ y:Int,w64 (y+(r.map fun r=>(r.length:Int)).sum)=(ZD s)→Qe4 (fun r'=>r'=JO (ZD s)) s (w64 y) k) ?_ ?_
  ·intro y he
   refine QtS (fun r'=>r'=JO (ZD s)) s _ _ ⟨fun h=>by simp at h,fun _=>R_eq ?_⟩
   simpa using he
  ·intro k x r hk hlt hg ih y he
   refine QtS (fun r'=>r'=JO (ZD s)) s _ _ ⟨fun _=>?_,fun h=>by simp at h;omega⟩
   rw [Int.toNat_natCast,hg,Qp (x:=(k:Int)+1) (by omega) (by omega),Yy]
   refine ⟨⟨by omega,hlt⟩,ih _ ?_⟩
   rw [← he,List.map_cons,List.sum_cons,Int.add_assoc]
 refine Zj s.2.2.2.2.2.1 (fun r k=>∀ y:Int,w64 (y+(r.map fun x=>(x.2.map fun r=>(r.length:Int)).sum).sum+(s.2.2.2.2.2.2.1.map fun r=>(r.length:Int)).sum)=(ZD s)→QfS (fun r'=>r'=JO (ZD s)) s (w64 y) k) ?_ ?_ _ (by unfold ZD;congr 1;omega)
 ·intro y he
  refine Qts (fun r'=>r'=JO (ZD s)) s _ _ ⟨fun h=>by simp at h,fun _=>full y ?_⟩
  simpa using he
 ·intro k x r hk hlt hg ih y he
  have inner:∀ (q:List (List Int)) (j:Nat),x.2.drop j=q→j≤x.2.length→∀ y:Int,w64 (y+(q.map fun r=>(r.length:Int)).sum+(r.map fun x=>(x.2.map fun r=>(r.length:Int)).sum).sum+(s.2.2.2.2.2.2.1.map fun r=>(r.length:Int)).sum)=(ZD s)→QfP (fun r'=>r'=JO (ZD s)) s (w64 y) j k:=by
   intro q
   induction q with
   | nil =>
    intro j hj hle y he
    have:x.2.length≤j:=by simpa using hj
    refine QzG (fun r'=>r'=JO (ZD s)) s _ _ _ ⟨⟨by omega,by rw [Int.toNat_natCast];exact hlt⟩,fun h=>?_,fun _=>?_⟩
    ·rw [Int.toNat_natCast,hg] at h;simp at h;omega
    ·rw [Qp (x:=(k:Int)+1) (by omega) (by omega)]
     exact ih y (by simpa using he)
   | cons z q ihq =>
    intro j hj hle y he
    have hjl:=Qer hj
    have hb2:x.2.length≤9223372036854775807:=by
     have hmem:x∈s.2.2.2.2.2.1:=List.mem_of_mem_drop (i:=k) (by rw [hk];exact List.mem_cons_self)
     have hm:=hb.1.2.2.2.2.2.1.2 x hmem
     exact hm.2.1.1
    refine QzG (fun r'=>r'=JO (ZD s)) s _ _ _ ⟨⟨by omega,by rw [Int.toNat_natCast];exact hlt⟩,fun _=>?_,fun h=>?_⟩
    ·rw [Int.toNat_natCast,Int.toNat_natCast,hg,Y3 hj,Qp (x:=(j:Int)+1) (by omega) (by omega),Yy]
     refine ⟨⟨⟨by omega,hlt⟩,by omega,hjl⟩,ihq (j+1) (YS hj) hjl _ ?_⟩
     rw [← he,List.map_cons,List.sum_cons]
     congr 1
     omega
    ·rw [Int.toNat_natCast,hg] at h;simp at h;omega
  refine Qts (fun r'=>r'=JO (ZD s)) s _ _ ⟨fun _=>?_,fun h=>by simp at h;omega⟩
  refine inner x.2 0 rfl (Nat.zero_le _) y ?_
  rw [← he,List.map_cons,List.sum_cons]
  congr 1
  omega
theorem QP7:Qi Tryz.prog Qmb:=Qm fun x _=>QAX x.1
end
end Go.Proofs.YtjbdljkhbglnhaaGreat.Am

