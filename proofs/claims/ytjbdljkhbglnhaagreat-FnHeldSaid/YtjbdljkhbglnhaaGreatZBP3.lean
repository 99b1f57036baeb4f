/- -/
import Derived.Test.YtjbdljkhbglnhaaGreatZBG8
namespace Go.Proofs.YtjbdljkhbglnhaaGreat.Am
open Go Go.RowKit Go.Proofs.YtjbdljkhbglnhaaGreat
set_option linter.all false
noncomputable section
variable (K:TRes→Prop)
def Qcy (t:Int):TRes:=zre (zci t)
def QeB:TRow:=Qi 116 [(.c (.sl Zk)),(.c TI)] fun x=>(none,Qcy (QU x.1 x.2.1))
def Qmq:List TRow:=[]
def QtS:TCode :=
 (zsq [(.reg [zbi 10 .lss 9 8]),(.cond 10 .skip (.exit 0)),(.block 1 (zsq [(.reg [zmv 11 9,zia 12 7 9 Zk,zLd 13 12 2,zop 6 (.new 76 (z0s Zk)),zmv 5 11,zst 6 13 2]),(.reg [zfa 14 6 0,zld 15 14 1,zmv 16 1,zbi 17 .eql 15 16]),(.cond 17 (zsq [(.reg [zmv 18 5,zmv 4 18]),.ret]) .skip)])),(.reg [zbi 19 .add 9 (zki 1),zmv 9 19])])
def QoV:List (Nat × Md):=zdl [1,7,8,9]
def Qth:TCode :=
 (zsq [(.reg [zmv 4 (zki (-1))]),.ret])
def QH9:TCode :=
 (zsq [(.reg [zmv 4 (zki 0)]),(zsq [(.reg [zmv 7 0,zle 8 7,zmv 9 (zki 0)]),(.block 0 (.loop QoV QtS))]),Qth])
def Qp2:List (ARv × Md):=[(.t 4,.one .d)]
def Qyn:Qb:=TQ 0 0 Qp2 K
def QId:Qb:=Qseq (tawp Qmq 0 Qth (Qyn K)) (Qyn K)
def QBG:Qb:=Qblk 0 (QId K)
def QhW (l:List Z8) (m:Int) (x:Int):Prop:=Loop Qmq 0 QoV QtS (QBG K) ⟨[(1,(zci m)),(7,(zcs Zk l)),(8,(zci (l.length:Int))),(9,(zci x))],[],0⟩
theorem Qqv (l:List Z8) (m:Int) (x:Int) (h :
 (zif (decide (x<(l.length:Int))) (((0:Int)≤x∧Int.toNat x<l.length)∧(zif (((gtd Yc l (Int.toNat x)).1)==m) (K (Qcy x)) (QhW K l m (w64 (x+(1:Int)))))) (K (Qcy (-1:Int))))):QhW K l m x :=
 Loop.of (by kernel_rfl) h
theorem QD0 (l:List Z8) (m:Int) (h :
 (QhW K l m 0)):Hold (tawp Qmq (0+0) QH9 (TQ 0 0 Qp2 K) (Qf [(.c (.sl Zk) l),(.c TI m)])) :=
 Hold.of (by kernel_rfl) h
theorem QHg (l:List Z8) (m:Int):TCon Tryz.prog 116 [(.c (.sl Zk) l),(.c TI m)] (Qcy (QU l m)):=by
 refine Qr rfl fun hb=>tcg (n:=20) (sg:=QeB.sg) Qk TOk.nil (by kernel_rfl) (by kernel_rfl) (QD0 _ l m ?_)
 have hl_l:l.length≤9223372036854775807:=hb.1.1
 refine Zt l (fun r k=>JR r m k=QU l m→QhW (fun r'=>r'=Qcy (QU l m)) l m k) ?_ ?_ rfl
 ·intro he
  refine Qqv (fun r'=>r'=Qcy (QU l m)) l m _ ⟨fun h=>by simp at h,fun _=>?_⟩
  grind [JR]
 ·intro k x r hk hlt hg ih he
  refine Qqv (fun r'=>r'=Qcy (QU l m)) l m _ ⟨fun _=>?_,fun h=>by simp at h;omega⟩
  rw [Int.toNat_natCast,hg,Qp (by omega) (by omega)]
  grind [JR]
theorem Qj1:Qj Tryz.prog QeB:=Qm fun x _=>QHg x.1 x.2.1
def QdV (t:Int):TRes:=zre (zci t)
def QnW:TRow:=Qi 122 [(.c (.sl [(.sl [TI])]))] fun x=>(none,QdV (Qag x.1))
def Qny:List TRow:=[]
def Qvl:TCode :=
 (zsq [(.reg [zbi 9 .lss 8 7]),(.cond 9 .skip (.exit 0)),(.block 1 (zsq [(.reg [zia 10 6 8 [(.sl [TI])],zLd 11 10 1,zop 5 (.new 129 [(.n [TI])]),zst 5 11 1]),(.reg [zmv 12 3,zfa 13 5 0,zld 14 13 1,zle 15 14,zbi 16 .add 12 15,zmv 3 16])])),(.reg [zbi 17 .add 8 (zki 1),zmv 8 17])])
def Qyu:List (Nat × Md):=zdl [3,6,7,8]
def Qvg:TCode :=
 (zsq [(.reg [zmv 18 3,zmv 2 18]),.ret])
def QCd:TCode :=
 (zsq [(.reg [zmv 2 (zki 0)]),(.reg [zmv 3 (zki 0)]),(zsq [(.reg [zmv 6 0,zle 7 6,zmv 8 (zki 0)]),(.block 0 (.loop Qyu Qvl))]),Qvg])
def Qt0:List (ARv × Md):=[(.t 2,.one .d)]
def Qr1:Qb:=TQ 0 0 Qt0 K
def QEG:Qb:=Qseq (tawp Qny 0 Qvg (Qr1 K)) (Qr1 K)
def QA4:Qb:=Qblk 0 (QEG K)
def Qiz (rows:List (List Int)) (n:Int) (x:Int):Prop:=Loop Qny 0 Qyu Qvl (QA4 K) ⟨[(3,(zci n)),(6,(zcs [(.sl [TI])] rows)),(7,(zci (rows.length:Int))),(8,(zci x))],[],0⟩
theorem QsR (rows:List (List Int)) (n:Int) (x:Int) (h :
 (zif (decide (x<(rows.length:Int))) (((0:Int)≤x∧Int.toNat x<rows.length)∧(Qiz K rows (w64 (n+((gtd ([]:List Int) rows (Int.toNat x)).length:Int))) (w64 (x+(1:Int))))) (K (QdV n)))):Qiz K rows n x :=
 Loop.of (by kernel_rfl) h
theorem QJt (rows:List (List Int)) (h :
 (Qiz K rows 0 0)):Hold (tawp Qny (0+0) QCd (TQ 0 0 Qt0 K) (Qf [(.c (.sl [(.sl [TI])]) rows)])) :=
 Hold.of (by kernel_rfl) h
theorem QBp (rows:List (List Int)):TCon Tryz.prog 122 [(.c (.sl [(.sl [TI])]) rows)] (QdV (Qag rows)):=by
 refine Qr rfl fun hb=>tcg (n:=19) (sg:=QnW.sg) Qk TOk.nil (by kernel_rfl) (by kernel_rfl) (QJt _ rows ?_)
 have hl_rows:rows.length≤9223372036854775807:=hb.1.1
 refine Zt rows (fun r k=>∀ y:Int,w64 (y+(r.map fun r=>(r.length:Int)).sum)=(Qag rows)→Qiz (fun r'=>r'=QdV (Qag rows)) rows (w64 y) k) ?_ ?_ 0 (by simp [Qag])
 ·intro y he
  refine QsR (fun r'=>r'=QdV (Qag rows)) rows _ _ ⟨fun h=>by simp at h,fun _=>R_eq ?_⟩
  simpa using he
 ·intro k x r hk hlt hg ih y he
  refine QsR (fun r'=>r'=QdV (Qag rows)) rows _ _ ⟨fun _=>?_,fun h=>by simp at h;omega⟩
  rw [Int.toNat_natCast,hg,Qp (x:=(k:Int)+1) (by omega) (by omega),Qao]
  refine ⟨⟨by omega,hlt⟩,ih _ ?_⟩
  rw [← he,List.map_cons,List.sum_cons,Int.add_assoc]
theorem QHV:Qj Tryz.prog QnW:=Qm fun x _=>QBp x.1
def QdC (t:Int):TRes:=zre (zci t)
def QiV:TRow:=Qi 45 [(.a Qv)] fun x=>(none,QdC (ZJ x.1))
def QjZ:List TRow:=[QnW]
def Qzl:TCode :=
 (zsq [(.reg [zbi 29 .lss 28 27]),(.cond 29 .skip (.exit 0)),(.block 1 (zsq [(.reg [zia 30 26 28 Zk,zLd 31 30 2,zop 5 (.new 76 (z0s Zk)),zst 5 31 2]),(.reg [zmv 32 3,zfa 33 5 1,zld 34 33 1,zca 35 122 [34],zbi 36 .add 32 35,zmv 3 36])])),(.reg [zbi 37 .add 28 (zki 1),zmv 28 37])])
def Qq9:List (Nat × Md):=zdl [3,26,27,28]
def Qys:TCode :=
 (zsq [(.reg [zmv 38 3,zmv 2 38]),.ret])
def QNh:TCode :=
 (zsq [(.reg [zop 1 (.box 63 0 14),zmv 2 (zki 0)]),(.draw [zfa 6 1 7,zld 7 6 1,zle 8 7,zfa 9 1 8,zld 10 9 1,zle 11 10,zbi 12 .add 8 11,zfa 13 1 9,zld 14 13 1,zle 15 14,zbi 16 .add 12 15,zfa 17 1 10,zld 18 17 1,zle 19 18,zbi 20 .add 16 19,zfa 21 1 6,zld 22 21 1,zca 23 122 [22],zbi 24 .add 20 23,zmv 3 24] [(0,17),(1,17),(2,17),(3,17),(4,17),(5,17),(7,17),(8,17),(9,17),(11,17),(12,17),(13,17)]),(zsq [(.reg [zfa 25 1 5,zld 26 25 1,zle 27 26,zmv 28 (zki 0)]),(.block 0 (.loop Qq9 Qzl))]),Qys])
def Qry:List (ARv × Md):=[(.t 2,.one .d)]
def QuD:Qb:=TQ 0 0 Qry K
def QPA:Qb:=Qseq (tawp QjZ 0 Qys (QuD K)) (QuD K)
def QNR:Qb:=Qblk 0 (QPA K)
def QgP (s:Qc) (n:Int) (x:Int):Prop:=Loop QjZ 0 Qq9 Qzl (QNR K) ⟨[(3,(zci n)),(26,(zcs Zk s.2.2.2.2.2.1)),(27,(zci ((s.2.2.2.2.2.1).length:Int))),(28,(zci x))],[],0⟩
theorem QuQ (s:Qc) (n:Int) (x:Int) (h :
 (zif (decide (x<((s.2.2.2.2.2.1).length:Int))) (((0:Int)≤x∧Int.toNat x<(s.2.2.2.2.2.1).length)∧(QgP K s (w64 (n+(Qag ((gtd Yc s.2.2.2.2.2.1 (Int.toNat x)).2)))) (w64 (x+(1:Int))))) (K (QdC n)))):QgP K s n x :=
 Loop.of (by kernel_rfl) h
theorem QMW (s:Qc) (h :
 (QgP K s (w64 ((w64 ((w64 ((w64 (((s.2.2.2.2.2.2.2.1).length:Int)+((s.2.2.2.2.2.2.2.2.1).length:Int)))+((s.2.2.2.2.2.2.2.2.2.1).length:Int)))+((s.2.2.2.2.2.2.2.2.2.2.1).length:Int)))+(Qag s.2.2.2.2.2.2.1))) 0)):Hold (tawp QjZ (0+0) QNh (TQ 0 0 Qry K) (Qf [(.a (Tup.cells Qv s))])) :=
 Hold.of (by kernel_rfl) h
theorem QBC (s:Qc):TCon Tryz.prog 45 [(.a (Tup.cells Qv s))] (QdC (ZJ s)):=by
 refine Qr rfl fun hb=>tcg (n:=39) (sg:=QiV.sg) Qk (TOk.cons QHV TOk.nil) (by kernel_rfl) (by kernel_rfl) (QMW _ s ?_)
 have hl_s_1:(s.2.1).length≤9223372036854775807:=hb.1.2.1.1
 have hl_s_2:(s.2.2.1).length≤9223372036854775807:=hb.1.2.2.1.1
 have hl_s_5:(s.2.2.2.2.2.1).length≤9223372036854775807:=hb.1.2.2.2.2.2.1.1
 have hl_s_6:(s.2.2.2.2.2.2.1).length≤9223372036854775807:=hb.1.2.2.2.2.2.2.1.1
 have hl_s_7:(s.2.2.2.2.2.2.2.1).length≤9223372036854775807:=hb.1.2.2.2.2.2.2.2.1.1
 have hl_s_8:(s.2.2.2.2.2.2.2.2.1).length≤9223372036854775807:=hb.1.2.2.2.2.2.2.2.2.1.1
 have hl_s_9:(s.2.2.2.2.2.2.2.2.2.1).length≤9223372036854775807:=hb.1.2.2.2.2.2.2.2.2.2.1.1
 have hl_s_10:(s.2.2.2.2.2.2.2.2.2.2.1).length≤9223372036854775807:=hb.1.2.2.2.2.2.2.2.2.2.2.1.1
 have hl_s_11:(s.2.2.2.2.2.2.2.2.2.2.2.1).length≤9223372036854775807:=hb.1.2.2.2.2.2.2.2.2.2.2.2.1.1
 simp only [Qag,Qao,QvQ]
 refine Zt s.2.2.2.2.2.1 (fun r k=>∀ y:Int,w64 (y+(r.map fun x=>(x.2.map fun r=>(r.length:Int)).sum).sum)=(ZJ s)→QgP (fun r'=>r'=QdC (ZJ s)) s (w64 y) k) ?_ ?_ _ rfl
 ·intro y he
  refine QuQ (fun r'=>r'=QdC (ZJ s)) s _ _ ⟨fun h=>by simp at h,fun _=>R_eq ?_⟩
  simpa using he
 ·intro k x r hk hlt hg ih y he
  refine QuQ (fun r'=>r'=QdC (ZJ s)) s _ _ ⟨fun _=>?_,fun h=>by simp at h;omega⟩
  rw [Int.toNat_natCast,hg,Qp (x:=(k:Int)+1) (by omega) (by omega)]
  simp only [Qag,Qao,QvQ]
  refine ⟨⟨by omega,hlt⟩,ih _ ?_⟩
  rw [← he,List.map_cons,List.sum_cons,Int.add_assoc]
theorem QvK:Qj Tryz.prog QiV:=Qm fun x _=>QBC x.1
def JD (t:Int):TRes:=zre (zci t)
def Qlw:TRow:=Qi 126 [(.a Qv)] fun x=>(none,JD (ZJ x.1))
def QbG:List TRow:=[]
def Qtr:TCode :=
 (zsq [(zsq [(.reg [zmv 29 5,zfa 30 1 5,zld 31 30 1,zmv 32 4,zia 33 31 32 Zk,zfa 34 33 1,zld 35 34 1,zle 36 35,zbi 37 .lss 29 36]),(.cond 37 .skip (.exit 2))]),(.block 3 (.reg [zmv 40 3,zfa 41 1 5,zld 42 41 1,zmv 43 4,zia 44 42 43 Zk,zfa 45 44 1,zld 46 45 1,zmv 47 5,zia 48 46 47 [(.sl [TI])],zfa 49 48 0,zld 50 49 1,zle 51 50,zbi 52 .add 40 51,zmv 3 52])),(.reg [zmv 38 5,zbi 39 .add 38 (zki 1),zmv 5 39])])
def QuP:List (Nat × Md):=[(1,.b (zds 14)),(3,.one .d),(4,.one .d),(5,.one .d)]
def QpA:TCode :=
 (.reg [zmv 27 4,zbi 28 .add 27 (zki 1),zmv 4 28])
def Qje:TCode :=
 (zsq [(zsq [(.reg [zmv 22 4,zfa 23 1 5,zld 24 23 1,zle 25 24,zbi 26 .lss 22 25]),(.cond 26 .skip (.exit 0))]),(.block 1 (zsq [(.reg [zmv 5 (zki 0)]),(.block 2 (.loop QuP Qtr))])),QpA])
def QfA:List (Nat × Md):=[(1,.b (zds 14)),(3,.one .d),(4,.one .d)]
def QxT:TCode :=
 (zsq [(zsq [(.reg [zmv 53 6,zfa 54 1 6,zld 55 54 1,zle 56 55,zbi 57 .lss 53 56]),(.cond 57 .skip (.exit 4))]),(.block 5 (.reg [zmv 60 3,zfa 61 1 6,zld 62 61 1,zmv 63 6,zia 64 62 63 [(.sl [TI])],zfa 65 64 0,zld 66 65 1,zle 67 66,zbi 68 .add 60 67,zmv 3 68])),(.reg [zmv 58 6,zbi 59 .add 58 (zki 1),zmv 6 59])])
def Qol:List (Nat × Md):=[(1,.b (zds 14)),(3,.one .d),(6,.one .d)]
def QsC:TCode :=
 (zsq [(.reg [zmv 69 3,zmv 2 69]),.ret])
def Qwq:TCode :=
 (zsq [(zsq [(.reg [zmv 6 (zki 0)]),(.block 4 (.loop Qol QxT))]),QsC])
def QNv:TCode :=
 (zsq [(.reg [zop 1 (.box 63 0 14),zmv 2 (zki 0)]),(.reg [zfa 7 1 7,zld 8 7 1,zle 9 8,zfa 10 1 8,zld 11 10 1,zle 12 11,zbi 13 .add 9 12,zfa 14 1 9,zld 15 14 1,zle 16 15,zbi 17 .add 13 16,zfa 18 1 10,zld 19 18 1,zle 20 19,zbi 21 .add 17 20,zmv 3 21]),(zsq [(.reg [zmv 4 (zki 0)]),(.block 0 (.loop QfA Qje))]),Qwq])
def Qsd:List (ARv × Md):=[(.t 2,.one .d)]
def Qf0:Qb:=TQ 0 0 Qsd K
def QDc:Qb:=Qseq (tawp QbG 0 Qwq (Qf0 K)) (Qf0 K)
def Ql2:Qb:=Qblk 0 (QDc K)
def QsQ:Qb:=Qseq (fun s'=>Loop QbG 0 QfA Qje (Ql2 K) (gc 0 QfA s')) (Ql2 K)
def QLK:Qb:=Qseq (tawp QbG 0 QpA (QsQ K)) (QsQ K)
def QEb:Qb:=Qblk 1 (QLK K)
def QC5:Qb:=Qblk 2 (QEb K)
def QiS (s:Qc) (n:Int) (k:Int) (i:Int):Prop:=Loop QbG 0 QuP Qtr (QC5 K) ⟨[(1,(.p 0 0 0)),(3,(zci n)),(4,(zci i)),(5,(zci k))],[(0,(.box (Tup.cells Qv s)))],1⟩
def QP1:Qb:=Qseq (tawp QbG 0 QsC (Qf0 K)) (Qf0 K)
def QGq:Qb:=Qblk 4 (QP1 K)
def Qef (s:Qc) (n2:Int) (k1:Int):Prop:=Loop QbG 0 Qol QxT (QGq K) ⟨[(1,(.p 0 0 0)),(3,(zci n2)),(6,(zci k1))],[(0,(.box (Tup.cells Qv s)))],1⟩
def QhX (s:Qc) (n1:Int) (i:Int):Prop:=Loop QbG 0 QfA Qje (Ql2 K) ⟨[(1,(.p 0 0 0)),(3,(zci n1)),(4,(zci i))],[(0,(.box (Tup.cells Qv s)))],1⟩
theorem QxG (s:Qc) (n:Int) (k:Int) (i:Int) (h :
 (((0:Int)≤i∧Int.toNat i<(s.2.2.2.2.2.1).length)∧(zif (decide (k<(((gtd Yc s.2.2.2.2.2.1 (Int.toNat i)).2).length:Int))) ((((0:Int)≤i∧Int.toNat i<(s.2.2.2.2.2.1).length)∧((0:Int)≤k∧Int.toNat k<((gtd Yc s.2.2.2.2.2.1 (Int.toNat i)).2).length))∧(QiS K s (w64 (n+((gtd ([]:List Int) ((gtd Yc s.2.2.2.2.2.1 (Int.toNat i)).2) (Int.toNat k)).length:Int))) (w64 (k+(1:Int))) i)) (QhX K s n (w64 (i+(1:Int))))))):QiS K s n k i :=
 Loop.of (by kernel_rfl) h
theorem Qsw (s:Qc) (n2:Int) (k1:Int) (h :
 (zif (decide (k1<((s.2.2.2.2.2.2.1).length:Int))) (((0:Int)≤k1∧Int.toNat k1<(s.2.2.2.2.2.2.1).length)∧(Qef K s (w64 (n2+((gtd ([]:List Int) s.2.2.2.2.2.2.1 (Int.toNat k1)).length:Int))) (w64 (k1+(1:Int))))) (K (JD n2)))):Qef K s n2 k1 :=
 Loop.of (by kernel_rfl) h
theorem QoD (s:Qc) (n1:Int) (i:Int) (h :
 (zif (decide (i<((s.2.2.2.2.2.1).length:Int))) (QiS K s n1 0 i) (Qef K s n1 0))):QhX K s n1 i :=
 Loop.of (by kernel_rfl) h
theorem QBo (s:Qc) (h :
 (QhX K s (w64 ((w64 ((w64 (((s.2.2.2.2.2.2.2.1).length:Int)+((s.2.2.2.2.2.2.2.2.1).length:Int)))+((s.2.2.2.2.2.2.2.2.2.1).length:Int)))+((s.2.2.2.2.2.2.2.2.2.2.1).length:Int))) 0)):Hold (tawp QbG (0+0) QNv (TQ 0 0 Qsd K) (Qf [(.a (Tup.cells Qv s))])) :=
 Hold.of (by kernel_rfl) h
theorem QEz (s:Qc):TCon Tryz.prog 126 [(.a (Tup.cells Qv s))] (JD (ZJ s)):=by
 refine Qr rfl fun hb=>tcg (n:=70) (sg:=Qlw.sg) Qk TOk.nil (by kernel_rfl) (by kernel_rfl) (QBo _ s ?_)
 have hl_s_1:(s.2.1).length≤9223372036854775807:=hb.1.2.1.1
 have hl_s_2:(s.2.2.1).length≤9223372036854775807:=hb.1.2.2.1.1
 have hl_s_5:(s.2.2.2.2.2.1).length≤9223372036854775807:=hb.1.2.2.2.2.2.1.1
 have hl_s_6:(s.2.2.2.2.2.2.1).length≤9223372036854775807:=hb.1.2.2.2.2.2.2.1.1
 have hl_s_7:(s.2.2.2.2.2.2.2.1).length≤9223372036854775807:=hb.1.2.2.2.2.2.2.2.1.1
 have hl_s_8:(s.2.2.2.2.2.2.2.2.1).length≤9223372036854775807:=hb.1.2.2.2.2.2.2.2.2.1.1
 have hl_s_9:(s.2.2.2.2.2.2.2.2.2.1).length≤9223372036854775807:=hb.1.2.2.2.2.2.2.2.2.2.1.1
 have hl_s_10:(s.2.2.2.2.2.2.2.2.2.2.1).length≤9223372036854775807:=hb.1.2.2.2.2.2.2.2.2.2.2.1.1
 have hl_s_11:(s.2.2.2.2.2.2.2.2.2.2.2.1).length≤9223372036854775807:=hb.1.2.2.2.2.2.2.2.2.2.2.2.1.1
 simp only [Qao]
 have full:∀ y:Int,w64 (y+(s.2.2.2.2.2.2.1.map fun r=>(r.length:Int)).sum)=(ZJ s)→Qef (fun r'=>r'=JD (ZJ s)) s (w64 y) 0:=by
  refine Zt s.2.2.2.2.2.2.1 (fun r k=>∀ y:Int,w64 (y+(r.map fun r=>(r.length:Int)).sum)=(ZJ s)→Qef (fun r'=>r'=JD (ZJ s)) s (w64 y) k) ?_ ?_
  ·intro y he
   refine Qsw (fun r'=>r'=JD (ZJ s)) s _ _ ⟨fun h=>by simp at h,fun _=>R_eq ?_⟩
   simpa using he
  ·intro k x r hk hlt hg ih y he
   refine Qsw (fun r'=>r'=JD (ZJ s)) s _ _ ⟨fun _=>?_,fun h=>by simp at h;omega⟩
   rw [Int.toNat_natCast,hg,Qp (x:=(k:Int)+1) (by omega) (by omega),Qao]
   refine ⟨⟨by omega,hlt⟩,ih _ ?_⟩
   rw [← he,List.map_cons,List.sum_cons,Int.add_assoc]
 refine Zt s.2.2.2.2.2.1 (fun r k=>∀ y:Int,w64 (y+(r.map fun x=>(x.2.map fun r=>(r.length:Int)).sum).sum+(s.2.2.2.2.2.2.1.map fun r=>(r.length:Int)).sum)=(ZJ s)→QhX (fun r'=>r'=JD (ZJ s)) s (w64 y) k) ?_ ?_ _ (by unfold ZJ;congr 1;omega)
 ·intro y he
  refine QoD (fun r'=>r'=JD (ZJ s)) s _ _ ⟨fun h=>by simp at h,fun _=>full y ?_⟩
  simpa using he
 ·intro k x r hk hlt hg ih y he
  have inner:∀ (q:List (List Int)) (j:Nat),x.2.drop j=q→j≤x.2.length→∀ y:Int,w64 (y+(q.map fun r=>(r.length:Int)).sum+(r.map fun x=>(x.2.map fun r=>(r.length:Int)).sum).sum+(s.2.2.2.2.2.2.1.map fun r=>(r.length:Int)).sum)=(ZJ s)→QiS (fun r'=>r'=JD (ZJ s)) s (w64 y) j k:=by
   intro q
   induction q with
   | nil =>
    intro j hj hle y he
    have:x.2.length≤j:=by simpa using hj
    refine QxG (fun r'=>r'=JD (ZJ s)) s _ _ _ ⟨⟨by omega,by rw [Int.toNat_natCast];exact hlt⟩,fun h=>?_,fun _=>?_⟩
    ·rw [Int.toNat_natCast,hg] at h;simp at h;omega
    ·rw [Qp (x:=(k:Int)+1) (by omega) (by omega)]
     exact ih y (by simpa using he)
   | cons z q ihq =>
    intro j hj hle y he
    have hjl:=Qfa hj
    have hb2:x.2.length≤9223372036854775807:=by
     have hmem:x∈s.2.2.2.2.2.1:=List.mem_of_mem_drop (i:=k) (by rw [hk];exact List.mem_cons_self)
     have hm:=hb.1.2.2.2.2.2.1.2 x hmem
     exact hm.2.1.1
    refine QxG (fun r'=>r'=JD (ZJ s)) s _ _ _ ⟨⟨by omega,by rw [Int.toNat_natCast];exact hlt⟩,fun _=>?_,fun h=>?_⟩
    ·rw [Int.toNat_natCast,Int.toNat_natCast,hg,Y1 hj,Qp (x:=(j:Int)+1) (by omega) (by omega),Qao]
     refine ⟨⟨⟨by omega,hlt⟩,by omega,hjl⟩,ihq (j+1) (YS hj) hjl _ ?_⟩
     rw [← he,List.map_cons,List.sum_cons]
     congr 1
     omega
    ·rw [Int.toNat_natCast,hg] at h;simp at h;omega
  refine QoD (fun r'=>r'=JD (ZJ s)) s _ _ ⟨fun _=>?_,fun h=>by simp at h;omega⟩
  refine inner x.2 0 rfl (Nat.zero_le _) y ?_
  rw [← he,List.map_cons,List.sum_cons]
  congr 1
  omega
theorem QLE:Qj Tryz.prog Qlw:=Qm fun x _=>QEz x.1
end
end Go.Proofs.YtjbdljkhbglnhaaGreat.Am

