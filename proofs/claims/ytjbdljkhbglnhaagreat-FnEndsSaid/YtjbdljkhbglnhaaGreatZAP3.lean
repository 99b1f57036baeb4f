/- -/
import Derived.Test.YtjbdljkhbglnhaaGreatZAG8
namespace Go.Proofs.YtjbdljkhbglnhaaGreat.Am
open Go Go.RowKit Go.Proofs.YtjbdljkhbglnhaaGreat
set_option linter.all false
noncomputable section
variable (K:TRes→Prop)
def QcG (t:Int):TRes:=zre (zci t)
def Qe6:TRow:=Qh 116 [(.c (.sl Zn)),(.c TI)] fun x=>(none,QcG (QS x.1 x.2.1))
def Qlb:List TRow:=[]
def QrI:TCode :=
 (zsq [(.reg [zbi 10 .lss 9 8]),(.cond 10 .skip (.exit 0)),(.block 1 (zsq [(.reg [zmv 11 9,zia 12 7 9 Zn,zLd 13 12 2,zop 6 (.new 76 (z0s Zn)),zmv 5 11,zst 6 13 2]),(.reg [zfa 14 6 0,zld 15 14 1,zmv 16 1,zbi 17 .eql 15 16]),(.cond 17 (zsq [(.reg [zmv 18 5,zmv 4 18]),.ret]) .skip)])),(.reg [zbi 19 .add 9 (zki 1),zmv 9 19])])
def Qp7:List (Nat × Md):=zdl [1,7,8,9]
def Qwz:TCode :=
 (zsq [(.reg [zmv 4 (zki (-1))]),.ret])
def QFr:TCode :=
 (zsq [(.reg [zmv 4 (zki 0)]),(zsq [(.reg [zmv 7 0,zle 8 7,zmv 9 (zki 0)]),(.block 0 (.loop Qp7 QrI))]),Qwz])
def QtU:List (ARv × Md):=[(.t 4,.one .d)]
def Qzo:Qb:=TQ 0 0 QtU K
def QJQ:Qb:=Qseq (tawp Qlb 0 Qwz (Qzo K)) (Qzo K)
def QOy:Qb:=Qblk 0 (QJQ K)
def QfJ (l:List Yg) (m:Int) (x:Int):Prop:=Loop Qlb 0 Qp7 QrI (QOy K) ⟨[(1,(zci m)),(7,(zcs Zn l)),(8,(zci (l.length:Int))),(9,(zci x))],[],0⟩
theorem QuS (l:List Yg) (m:Int) (x:Int) (h :
(zif (decide (x<(l.length:Int))) (((0:Int)≤x∧Int.toNat x<l.length)∧(zif (((gtd Z5 l (Int.toNat x)).1)==m) (K (QcG x)) (QfJ K l m (w64 (x+(1:Int)))))) (K (QcG (-1:Int))))):QfJ K l m x :=
 Loop.of (by kernel_rfl) h
theorem QGj (l:List Yg) (m:Int) (h :
(QfJ K l m 0)):Hold (tawp Qlb (0+0) QFr (TQ 0 0 QtU K) (Qf [(.c (.sl Zn) l),(.c TI m)])) :=
 Hold.of (by kernel_rfl) h
theorem QKf (l:List Yg) (m:Int):TCon Tryz.prog 116 [(.c (.sl Zn) l),(.c TI m)] (QcG (QS l m)):=by
 refine Qq rfl fun hb=>tcg (n:=20) (sg:=Qe6.sg) Ql TOk.nil (by kernel_rfl) (by kernel_rfl) (QGj _ l m ?_)
 have hl_l:l.length≤9223372036854775807:=hb.1.1
 refine Zi l (fun r k=>JW r m k=QS l m→QfJ (fun r'=>r'=QcG (QS l m)) l m k) ?_ ?_ rfl
 ·intro he
  refine QuS (fun r'=>r'=QcG (QS l m)) l m _ ⟨fun h=>by simp at h,fun _=>?_⟩
  grind [JW]
 ·intro k x r hk hlt hg ih he
  refine QuS (fun r'=>r'=QcG (QS l m)) l m _ ⟨fun _=>?_,fun h=>by simp at h;omega⟩
  rw [Int.toNat_natCast,hg,Qp (by omega) (by omega)]
  grind [JW]
theorem Qmv:Qi Tryz.prog Qe6:=Qm fun x _=>QKf x.1 x.2.1
def QdI (t:Int):TRes:=zre (zci t)
def Qjw:TRow:=Qh 122 [(.c (.sl [(.sl [TI])]))] fun x=>(none,QdI (Qac x.1))
def Qlk:List TRow:=[]
def QwU:TCode :=
 (zsq [(.reg [zbi 9 .lss 8 7]),(.cond 9 .skip (.exit 0)),(.block 1 (zsq [(.reg [zia 10 6 8 [(.sl [TI])],zLd 11 10 1,zop 5 (.new 129 [(.n [TI])]),zst 5 11 1]),(.reg [zmv 12 3,zfa 13 5 0,zld 14 13 1,zle 15 14,zbi 16 .add 12 15,zmv 3 16])])),(.reg [zbi 17 .add 8 (zki 1),zmv 8 17])])
def Qrt:List (Nat × Md):=zdl [3,6,7,8]
def QsZ:TCode :=
 (zsq [(.reg [zmv 18 3,zmv 2 18]),.ret])
def QOz:TCode :=
 (zsq [(.reg [zmv 2 (zki 0)]),(.reg [zmv 3 (zki 0)]),(zsq [(.reg [zmv 6 0,zle 7 6,zmv 8 (zki 0)]),(.block 0 (.loop Qrt QwU))]),QsZ])
def Qqw:List (ARv × Md):=[(.t 2,.one .d)]
def Qpm:Qb:=TQ 0 0 Qqw K
def QOX:Qb:=Qseq (tawp Qlk 0 QsZ (Qpm K)) (Qpm K)
def QOG:Qb:=Qblk 0 (QOX K)
def QiQ (rows:List (List Int)) (n:Int) (x:Int):Prop:=Loop Qlk 0 Qrt QwU (QOG K) ⟨[(3,(zci n)),(6,(zcs [(.sl [TI])] rows)),(7,(zci (rows.length:Int))),(8,(zci x))],[],0⟩
theorem Qqb (rows:List (List Int)) (n:Int) (x:Int) (h :
(zif (decide (x<(rows.length:Int))) (((0:Int)≤x∧Int.toNat x<rows.length)∧(QiQ K rows (w64 (n+((gtd ([]:List Int) rows (Int.toNat x)).length:Int))) (w64 (x+(1:Int))))) (K (QdI n)))):QiQ K rows n x :=
 Loop.of (by kernel_rfl) h
theorem QQv (rows:List (List Int)) (h :
(QiQ K rows 0 0)):Hold (tawp Qlk (0+0) QOz (TQ 0 0 Qqw K) (Qf [(.c (.sl [(.sl [TI])]) rows)])) :=
 Hold.of (by kernel_rfl) h
theorem QJY (rows:List (List Int)):TCon Tryz.prog 122 [(.c (.sl [(.sl [TI])]) rows)] (QdI (Qac rows)):=by
 refine Qq rfl fun hb=>tcg (n:=19) (sg:=Qjw.sg) Ql TOk.nil (by kernel_rfl) (by kernel_rfl) (QQv _ rows ?_)
 have hl_rows:rows.length≤9223372036854775807:=hb.1.1
 refine Zi rows (fun r k=>∀ y:Int,w64 (y+(r.map fun r=>(r.length:Int)).sum)=(Qac rows)→QiQ (fun r'=>r'=QdI (Qac rows)) rows (w64 y) k) ?_ ?_ 0 (by simp [Qac])
 ·intro y he
  refine Qqb (fun r'=>r'=QdI (Qac rows)) rows _ _ ⟨fun h=>by simp at h,fun _=>R_eq ?_⟩
  simpa using he
 ·intro k x r hk hlt hg ih y he
  refine Qqb (fun r'=>r'=QdI (Qac rows)) rows _ _ ⟨fun _=>?_,fun h=>by simp at h;omega⟩
  rw [Int.toNat_natCast,hg,Qp (x:=(k:Int)+1) (by omega) (by omega),Yw]
  refine ⟨⟨by omega,hlt⟩,ih _ ?_⟩
  rw [← he,List.map_cons,List.sum_cons,Int.add_assoc]
theorem QOu:Qi Tryz.prog Qjw:=Qm fun x _=>QJY x.1
def Qd7 (t:Int):TRes:=zre (zci t)
def Qkr:TRow:=Qh 45 [(.a Qt)] fun x=>(none,Qd7 (ZD x.1))
def Qlp:List TRow:=[Qjw]
def QxS:TCode :=
 (zsq [(.reg [zbi 29 .lss 28 27]),(.cond 29 .skip (.exit 0)),(.block 1 (zsq [(.reg [zia 30 26 28 Zn,zLd 31 30 2,zop 5 (.new 76 (z0s Zn)),zst 5 31 2]),(.reg [zmv 32 3,zfa 33 5 1,zld 34 33 1,zca 35 122 [34],zbi 36 .add 32 35,zmv 3 36])])),(.reg [zbi 37 .add 28 (zki 1),zmv 28 37])])
def Qy4:List (Nat × Md):=zdl [3,26,27,28]
def QwZ:TCode :=
 (zsq [(.reg [zmv 38 3,zmv 2 38]),.ret])
def QP3:TCode :=
 (zsq [(.reg [zop 1 (.box 63 0 14),zmv 2 (zki 0)]),(.draw [zfa 6 1 7,zld 7 6 1,zle 8 7,zfa 9 1 8,zld 10 9 1,zle 11 10,zbi 12 .add 8 11,zfa 13 1 9,zld 14 13 1,zle 15 14,zbi 16 .add 12 15,zfa 17 1 10,zld 18 17 1,zle 19 18,zbi 20 .add 16 19,zfa 21 1 6,zld 22 21 1,zca 23 122 [22],zbi 24 .add 20 23,zmv 3 24] [(0,17),(1,17),(2,17),(3,17),(4,17),(5,17),(7,17),(8,17),(9,17),(11,17),(12,17),(13,17)]),(zsq [(.reg [zfa 25 1 5,zld 26 25 1,zle 27 26,zmv 28 (zki 0)]),(.block 0 (.loop Qy4 QxS))]),QwZ])
def Qxg:List (ARv × Md):=[(.t 2,.one .d)]
def QtY:Qb:=TQ 0 0 Qxg K
def QC0:Qb:=Qseq (tawp Qlp 0 QwZ (QtY K)) (QtY K)
def QFM:Qb:=Qblk 0 (QC0 K)
def Qgr (s:Qc) (n:Int) (x:Int):Prop:=Loop Qlp 0 Qy4 QxS (QFM K) ⟨[(3,(zci n)),(26,(zcs Zn s.2.2.2.2.2.1)),(27,(zci ((s.2.2.2.2.2.1).length:Int))),(28,(zci x))],[],0⟩
theorem Qsh (s:Qc) (n:Int) (x:Int) (h :
(zif (decide (x<((s.2.2.2.2.2.1).length:Int))) (((0:Int)≤x∧Int.toNat x<(s.2.2.2.2.2.1).length)∧(Qgr K s (w64 (n+(Qac ((gtd Z5 s.2.2.2.2.2.1 (Int.toNat x)).2)))) (w64 (x+(1:Int))))) (K (Qd7 n)))):Qgr K s n x :=
 Loop.of (by kernel_rfl) h
theorem QBR (s:Qc) (h :
(Qgr K s (w64 ((w64 ((w64 ((w64 (((s.2.2.2.2.2.2.2.1).length:Int)+((s.2.2.2.2.2.2.2.2.1).length:Int)))+((s.2.2.2.2.2.2.2.2.2.1).length:Int)))+((s.2.2.2.2.2.2.2.2.2.2.1).length:Int)))+(Qac s.2.2.2.2.2.2.1))) 0)):Hold (tawp Qlp (0+0) QP3 (TQ 0 0 Qxg K) (Qf [(.a (Tup.cells Qt s))])) :=
 Hold.of (by kernel_rfl) h
theorem QKW (s:Qc):TCon Tryz.prog 45 [(.a (Tup.cells Qt s))] (Qd7 (ZD s)):=by
 refine Qq rfl fun hb=>tcg (n:=39) (sg:=Qkr.sg) Ql (TOk.cons QOu TOk.nil) (by kernel_rfl) (by kernel_rfl) (QBR _ s ?_)
 have hl_s_1:(s.2.1).length≤9223372036854775807:=hb.1.2.1.1
 have hl_s_2:(s.2.2.1).length≤9223372036854775807:=hb.1.2.2.1.1
 have hl_s_5:(s.2.2.2.2.2.1).length≤9223372036854775807:=hb.1.2.2.2.2.2.1.1
 have hl_s_6:(s.2.2.2.2.2.2.1).length≤9223372036854775807:=hb.1.2.2.2.2.2.2.1.1
 have hl_s_7:(s.2.2.2.2.2.2.2.1).length≤9223372036854775807:=hb.1.2.2.2.2.2.2.2.1.1
 have hl_s_8:(s.2.2.2.2.2.2.2.2.1).length≤9223372036854775807:=hb.1.2.2.2.2.2.2.2.2.1.1
 have hl_s_9:(s.2.2.2.2.2.2.2.2.2.1).length≤9223372036854775807:=hb.1.2.2.2.2.2.2.2.2.2.1.1
 have hl_s_10:(s.2.2.2.2.2.2.2.2.2.2.1).length≤9223372036854775807:=hb.1.2.2.2.2.2.2.2.2.2.2.1.1
 have hl_s_11:(s.2.2.2.2.2.2.2.2.2.2.2.1).length≤9223372036854775807:=hb.1.2.2.2.2.2.2.2.2.2.2.2.1.1
 simp only [Qac,Yw,QpF]
 refine Zi s.2.2.2.2.2.1 (fun r k=>∀ y:Int,w64 (y+(r.map fun x=>(x.2.map fun r=>(r.length:Int)).sum).sum)=(ZD s)→Qgr (fun r'=>r'=Qd7 (ZD s)) s (w64 y) k) ?_ ?_ _ rfl
 ·intro y he
  refine Qsh (fun r'=>r'=Qd7 (ZD s)) s _ _ ⟨fun h=>by simp at h,fun _=>R_eq ?_⟩
  simpa using he
 ·intro k x r hk hlt hg ih y he
  refine Qsh (fun r'=>r'=Qd7 (ZD s)) s _ _ ⟨fun _=>?_,fun h=>by simp at h;omega⟩
  rw [Int.toNat_natCast,hg,Qp (x:=(k:Int)+1) (by omega) (by omega)]
  simp only [Qac,Yw,QpF]
  refine ⟨⟨by omega,hlt⟩,ih _ ?_⟩
  rw [← he,List.map_cons,List.sum_cons,Int.add_assoc]
theorem QDJ:Qi Tryz.prog Qkr:=Qm fun x _=>QKW x.1
def JE (t:Int):TRes:=zre (zci t)
def Qlr:TRow:=Qh 126 [(.a Qt)] fun x=>(none,JE (ZD x.1))
def QbN:List TRow:=[]
def QoQ:TCode :=
 (zsq [(zsq [(.reg [zmv 29 5,zfa 30 1 5,zld 31 30 1,zmv 32 4,zia 33 31 32 Zn,zfa 34 33 1,zld 35 34 1,zle 36 35,zbi 37 .lss 29 36]),(.cond 37 .skip (.exit 2))]),(.block 3 (.reg [zmv 40 3,zfa 41 1 5,zld 42 41 1,zmv 43 4,zia 44 42 43 Zn,zfa 45 44 1,zld 46 45 1,zmv 47 5,zia 48 46 47 [(.sl [TI])],zfa 49 48 0,zld 50 49 1,zle 51 50,zbi 52 .add 40 51,zmv 3 52])),(.reg [zmv 38 5,zbi 39 .add 38 (zki 1),zmv 5 39])])
def Qpa:List (Nat × Md):=[(1,.b (zds 14)),(3,.one .d),(4,.one .d),(5,.one .d)]
def QAq:TCode :=
 (.reg [zmv 27 4,zbi 28 .add 27 (zki 1),zmv 4 28])
def QmG:TCode :=
 (zsq [(zsq [(.reg [zmv 22 4,zfa 23 1 5,zld 24 23 1,zle 25 24,zbi 26 .lss 22 25]),(.cond 26 .skip (.exit 0))]),(.block 1 (zsq [(.reg [zmv 5 (zki 0)]),(.block 2 (.loop Qpa QoQ))])),QAq])
def QiI:List (Nat × Md):=[(1,.b (zds 14)),(3,.one .d),(4,.one .d)]
def QAk:TCode :=
 (zsq [(zsq [(.reg [zmv 53 6,zfa 54 1 6,zld 55 54 1,zle 56 55,zbi 57 .lss 53 56]),(.cond 57 .skip (.exit 4))]),(.block 5 (.reg [zmv 60 3,zfa 61 1 6,zld 62 61 1,zmv 63 6,zia 64 62 63 [(.sl [TI])],zfa 65 64 0,zld 66 65 1,zle 67 66,zbi 68 .add 60 67,zmv 3 68])),(.reg [zmv 58 6,zbi 59 .add 58 (zki 1),zmv 6 59])])
def QoP:List (Nat × Md):=[(1,.b (zds 14)),(3,.one .d),(6,.one .d)]
def Qqk:TCode :=
 (zsq [(.reg [zmv 69 3,zmv 2 69]),.ret])
def Qrf:TCode :=
 (zsq [(zsq [(.reg [zmv 6 (zki 0)]),(.block 4 (.loop QoP QAk))]),Qqk])
def QL4:TCode :=
 (zsq [(.reg [zop 1 (.box 63 0 14),zmv 2 (zki 0)]),(.reg [zfa 7 1 7,zld 8 7 1,zle 9 8,zfa 10 1 8,zld 11 10 1,zle 12 11,zbi 13 .add 9 12,zfa 14 1 9,zld 15 14 1,zle 16 15,zbi 17 .add 13 16,zfa 18 1 10,zld 19 18 1,zle 20 19,zbi 21 .add 17 20,zmv 3 21]),(zsq [(.reg [zmv 4 (zki 0)]),(.block 0 (.loop QiI QmG))]),Qrf])
def Qxa:List (ARv × Md):=[(.t 2,.one .d)]
def QfH:Qb:=TQ 0 0 Qxa K
def QDR:Qb:=Qseq (tawp QbN 0 Qrf (QfH K)) (QfH K)
def Qlx:Qb:=Qblk 0 (QDR K)
def Qt8:Qb:=Qseq (fun s'=>Loop QbN 0 QiI QmG (Qlx K) (gc 0 QiI s')) (Qlx K)
def QRx:Qb:=Qseq (tawp QbN 0 QAq (Qt8 K)) (Qt8 K)
def QQ4:Qb:=Qblk 1 (QRx K)
def QC9:Qb:=Qblk 2 (QQ4 K)
def QiV (s:Qc) (n:Int) (k:Int) (i:Int):Prop:=Loop QbN 0 Qpa QoQ (QC9 K) ⟨[(1,(.p 0 0 0)),(3,(zci n)),(4,(zci i)),(5,(zci k))],[(0,(.box (Tup.cells Qt s)))],1⟩
def QIB:Qb:=Qseq (tawp QbN 0 Qqk (QfH K)) (QfH K)
def QKr:Qb:=Qblk 4 (QIB K)
def QeR (s:Qc) (n2:Int) (k1:Int):Prop:=Loop QbN 0 QoP QAk (QKr K) ⟨[(1,(.p 0 0 0)),(3,(zci n2)),(6,(zci k1))],[(0,(.box (Tup.cells Qt s)))],1⟩
def Qhe (s:Qc) (n1:Int) (i:Int):Prop:=Loop QbN 0 QiI QmG (Qlx K) ⟨[(1,(.p 0 0 0)),(3,(zci n1)),(4,(zci i))],[(0,(.box (Tup.cells Qt s)))],1⟩
theorem Qvi (s:Qc) (n:Int) (k:Int) (i:Int) (h :
(((0:Int)≤i∧Int.toNat i<(s.2.2.2.2.2.1).length)∧(zif (decide (k<(((gtd Z5 s.2.2.2.2.2.1 (Int.toNat i)).2).length:Int))) ((((0:Int)≤i∧Int.toNat i<(s.2.2.2.2.2.1).length)∧((0:Int)≤k∧Int.toNat k<((gtd Z5 s.2.2.2.2.2.1 (Int.toNat i)).2).length))∧(QiV K s (w64 (n+((gtd ([]:List Int) ((gtd Z5 s.2.2.2.2.2.1 (Int.toNat i)).2) (Int.toNat k)).length:Int))) (w64 (k+(1:Int))) i)) (Qhe K s n (w64 (i+(1:Int))))))):QiV K s n k i :=
 Loop.of (by kernel_rfl) h
theorem QrH (s:Qc) (n2:Int) (k1:Int) (h :
(zif (decide (k1<((s.2.2.2.2.2.2.1).length:Int))) (((0:Int)≤k1∧Int.toNat k1<(s.2.2.2.2.2.2.1).length)∧(QeR K s (w64 (n2+((gtd ([]:List Int) s.2.2.2.2.2.2.1 (Int.toNat k1)).length:Int))) (w64 (k1+(1:Int))))) (K (JE n2)))):QeR K s n2 k1 :=
 Loop.of (by kernel_rfl) h
theorem QqW (s:Qc) (n1:Int) (i:Int) (h :
(zif (decide (i<((s.2.2.2.2.2.1).length:Int))) (QiV K s n1 0 i) (QeR K s n1 0))):Qhe K s n1 i :=
 Loop.of (by kernel_rfl) h
theorem QAY (s:Qc) (h :
(Qhe K s (w64 ((w64 ((w64 (((s.2.2.2.2.2.2.2.1).length:Int)+((s.2.2.2.2.2.2.2.2.1).length:Int)))+((s.2.2.2.2.2.2.2.2.2.1).length:Int)))+((s.2.2.2.2.2.2.2.2.2.2.1).length:Int))) 0)):Hold (tawp QbN (0+0) QL4 (TQ 0 0 Qxa K) (Qf [(.a (Tup.cells Qt s))])) :=
 Hold.of (by kernel_rfl) h
theorem QCb (s:Qc):TCon Tryz.prog 126 [(.a (Tup.cells Qt s))] (JE (ZD s)):=by
 refine Qq rfl fun hb=>tcg (n:=70) (sg:=Qlr.sg) Ql TOk.nil (by kernel_rfl) (by kernel_rfl) (QAY _ s ?_)
 have hl_s_1:(s.2.1).length≤9223372036854775807:=hb.1.2.1.1
 have hl_s_2:(s.2.2.1).length≤9223372036854775807:=hb.1.2.2.1.1
 have hl_s_5:(s.2.2.2.2.2.1).length≤9223372036854775807:=hb.1.2.2.2.2.2.1.1
 have hl_s_6:(s.2.2.2.2.2.2.1).length≤9223372036854775807:=hb.1.2.2.2.2.2.2.1.1
 have hl_s_7:(s.2.2.2.2.2.2.2.1).length≤9223372036854775807:=hb.1.2.2.2.2.2.2.2.1.1
 have hl_s_8:(s.2.2.2.2.2.2.2.2.1).length≤9223372036854775807:=hb.1.2.2.2.2.2.2.2.2.1.1
 have hl_s_9:(s.2.2.2.2.2.2.2.2.2.1).length≤9223372036854775807:=hb.1.2.2.2.2.2.2.2.2.2.1.1
 have hl_s_10:(s.2.2.2.2.2.2.2.2.2.2.1).length≤9223372036854775807:=hb.1.2.2.2.2.2.2.2.2.2.2.1.1
 have hl_s_11:(s.2.2.2.2.2.2.2.2.2.2.2.1).length≤9223372036854775807:=hb.1.2.2.2.2.2.2.2.2.2.2.2.1.1
 simp only [Yw]
 have full:∀ y:Int,w64 (y+(s.2.2.2.2.2.2.1.map fun r=>(r.length:Int)).sum)=(ZD s)→QeR (fun r'=>r'=JE (ZD s)) s (w64 y) 0:=by
  refine Zi s.2.2.2.2.2.2.1 (fun r k=>∀ y:Int,w64 (y+(r.map fun r=>(r.length:Int)).sum)=(ZD s)→QeR (fun r'=>r'=JE (ZD s)) s (w64 y) k) ?_ ?_
  ·intro y he
   refine QrH (fun r'=>r'=JE (ZD s)) s _ _ ⟨fun h=>by simp at h,fun _=>R_eq ?_⟩
   simpa using he
  ·intro k x r hk hlt hg ih y he
   refine QrH (fun r'=>r'=JE (ZD s)) s _ _ ⟨fun _=>?_,fun h=>by simp at h;omega⟩
   rw [Int.toNat_natCast,hg,Qp (x:=(k:Int)+1) (by omega) (by omega),Yw]
   refine ⟨⟨by omega,hlt⟩,ih _ ?_⟩
   rw [← he,List.map_cons,List.sum_cons,Int.add_assoc]
 refine Zi s.2.2.2.2.2.1 (fun r k=>∀ y:Int,w64 (y+(r.map fun x=>(x.2.map fun r=>(r.length:Int)).sum).sum+(s.2.2.2.2.2.2.1.map fun r=>(r.length:Int)).sum)=(ZD s)→Qhe (fun r'=>r'=JE (ZD s)) s (w64 y) k) ?_ ?_ _ (by unfold ZD;congr 1;omega)
 ·intro y he
  refine QqW (fun r'=>r'=JE (ZD s)) s _ _ ⟨fun h=>by simp at h,fun _=>full y ?_⟩
  simpa using he
 ·intro k x r hk hlt hg ih y he
  have inner:∀ (q:List (List Int)) (j:Nat),x.2.drop j=q→j≤x.2.length→∀ y:Int,w64 (y+(q.map fun r=>(r.length:Int)).sum+(r.map fun x=>(x.2.map fun r=>(r.length:Int)).sum).sum+(s.2.2.2.2.2.2.1.map fun r=>(r.length:Int)).sum)=(ZD s)→QiV (fun r'=>r'=JE (ZD s)) s (w64 y) j k:=by
   intro q
   induction q with
   | nil =>
    intro j hj hle y he
    have:x.2.length≤j:=by simpa using hj
    refine Qvi (fun r'=>r'=JE (ZD s)) s _ _ _ ⟨⟨by omega,by rw [Int.toNat_natCast];exact hlt⟩,fun h=>?_,fun _=>?_⟩
    ·rw [Int.toNat_natCast,hg] at h;simp at h;omega
    ·rw [Qp (x:=(k:Int)+1) (by omega) (by omega)]
     exact ih y (by simpa using he)
   | cons z q ihq =>
    intro j hj hle y he
    have hjl:=Qe3 hj
    have hb2:x.2.length≤9223372036854775807:=by
     have hmem:x∈s.2.2.2.2.2.1:=List.mem_of_mem_drop (i:=k) (by rw [hk];exact List.mem_cons_self)
     have hm:=hb.1.2.2.2.2.2.1.2 x hmem
     exact hm.2.1.1
    refine Qvi (fun r'=>r'=JE (ZD s)) s _ _ _ ⟨⟨by omega,by rw [Int.toNat_natCast];exact hlt⟩,fun _=>?_,fun h=>?_⟩
    ·rw [Int.toNat_natCast,Int.toNat_natCast,hg,Y4 hj,Qp (x:=(j:Int)+1) (by omega) (by omega),Yw]
     refine ⟨⟨⟨by omega,hlt⟩,by omega,hjl⟩,ihq (j+1) (YN hj) hjl _ ?_⟩
     rw [← he,List.map_cons,List.sum_cons]
     congr 1
     omega
    ·rw [Int.toNat_natCast,hg] at h;simp at h;omega
  refine QqW (fun r'=>r'=JE (ZD s)) s _ _ ⟨fun _=>?_,fun h=>by simp at h;omega⟩
  refine inner x.2 0 rfl (Nat.zero_le _) y ?_
  rw [← he,List.map_cons,List.sum_cons]
  congr 1
  omega
theorem QDX:Qi Tryz.prog Qlr:=Qm fun x _=>QCb x.1
end
end Go.Proofs.YtjbdljkhbglnhaaGreat.Am

