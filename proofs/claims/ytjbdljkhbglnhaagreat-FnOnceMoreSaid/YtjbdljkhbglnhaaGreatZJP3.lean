/- -/
import Derived.Test.YtjbdljkhbglnhaaGreatZJG8
namespace Go.Proofs.YtjbdljkhbglnhaaGreat.Am
open Go Go.RowKit Go.Proofs.YtjbdljkhbglnhaaGreat
set_option linter.all false
noncomputable section
variable (K:TRes→Prop)
def Qbe (t:Int):TRes:=zre (zci t)
def Qcc:TRow:=Qg 43 [(.c (.sl Qz)),(.c TI)] fun x=>(none,Qbe (Qo x.1 x.2.1))
def Qis:List TRow:=[]
def Qrp:TCode :=
 (zsq [(zsq [(.reg [zmv 6 5,zmv 7 0,zle 8 7,zbi 9 .lss 6 8]),(.cond 9 .skip (.exit 0))]),(.block 1 (zsq [(.reg [zmv 12 0,zmv 13 5,zia 14 12 13 Qz,zfa 15 14 0,zld 16 15 1,zmv 17 1,zbi 18 .eql 16 17]),(.cond 18 (zsq [(.reg [zmv 19 5,zmv 4 19]),.ret]) .skip)])),(.reg [zmv 10 5,zbi 11 .add 10 (zki 1),zmv 5 11])])
def Qni:List (Nat × Md):=zdl [0,1,5]
def Qtc:TCode :=
 (zsq [(.reg [zmv 4 (zki (-1))]),.ret])
def QG9:TCode :=
 (zsq [(.reg [zmv 4 (zki 0)]),(zsq [(.reg [zmv 5 (zki 0)]),(.block 0 (.loop Qni Qrp))]),Qtc])
def Qr1:List (ARv × Md):=[(.t 4,.one .d)]
def Qow:Qc:=TQ 0 0 Qr1 K
def Qvq:Qc:=Qseq (tawp Qis 0 Qtc (Qow K)) (Qow K)
def QCQ:Qc:=Qblk 0 (Qvq K)
def QeK (l:List Q5) (m:Int) (i:Int):Prop:=Loop Qis 0 Qni Qrp (QCQ K) ⟨[(0,(zcs Qz l)),(1,(zci m)),(5,(zci i))],[],0⟩
theorem Qo0 (l:List Q5) (m:Int) (i:Int) (h :
 (zif (decide (i<(l.length:Int))) (((0:Int)≤i∧Int.toNat i<l.length)∧(zif (((gtd Zb l (Int.toNat i)).1)==m) (K (Qbe i)) (QeK K l m (w64 (i+(1:Int)))))) (K (Qbe (-1:Int))))):QeK K l m i :=
 Loop.of (by kernel_rfl) h
theorem QHf (l:List Q5) (m:Int) (h :
 (QeK K l m 0)):Hold (tawp Qis (0+0) QG9 (TQ 0 0 Qr1 K) (Qe [(.c (.sl Qz) l),(.c TI m)])) :=
 Hold.of (by kernel_rfl) h
theorem Qwf (l:List Q5) (m:Int):TCon Tryz.prog 43 [(.c (.sl Qz) l),(.c TI m)] (Qbe (Qo l m)):=by
 refine Ql rfl fun hb=>tcg (n:=20) (sg:=Qcc.sg) Qi TOk.nil (by kernel_rfl) (by kernel_rfl) (QHf _ l m ?_)
 have hl_l:l.length≤9223372036854775807:=hb.1.1
 refine Zc l (fun r k=>YH r m k=Qo l m→QeK (fun r'=>r'=Qbe (Qo l m)) l m k) ?_ ?_ rfl
 ·intro he
  refine Qo0 (fun r'=>r'=Qbe (Qo l m)) l m _ ⟨fun h=>by simp at h,fun _=>?_⟩
  grind [YH]
 ·intro k x r hk hlt hg ih he
  refine Qo0 (fun r'=>r'=Qbe (Qo l m)) l m _ ⟨fun _=>?_,fun h=>by simp at h;omega⟩
  rw [Int.toNat_natCast,hg,Qs (by omega) (by omega)]
  grind [YH]
theorem Qgj:Qh Tryz.prog Qcc:=Qk fun x _=>Qwf x.1 x.2.1
def Qa1 (t:Int):TRes:=zre (zci t)
def Qcl:TRow:=Qg 116 [(.c (.sl Qz)),(.c TI)] fun x=>(none,Qa1 (Qo x.1 x.2.1))
def Qjz:List TRow:=[]
def Qra:TCode :=
 (zsq [(.reg [zbi 10 .lss 9 8]),(.cond 10 .skip (.exit 0)),(.block 1 (zsq [(.reg [zmv 11 9,zia 12 7 9 Qz,zLd 13 12 2,zop 6 (.new 76 (z0s Qz)),zmv 5 11,zst 6 13 2]),(.reg [zfa 14 6 0,zld 15 14 1,zmv 16 1,zbi 17 .eql 15 16]),(.cond 17 (zsq [(.reg [zmv 18 5,zmv 4 18]),.ret]) .skip)])),(.reg [zbi 19 .add 9 (zki 1),zmv 9 19])])
def Qsf:List (Nat × Md):=zdl [1,7,8,9]
def Qtf:TCode :=
 (zsq [(.reg [zmv 4 (zki (-1))]),.ret])
def QzT:TCode :=
 (zsq [(.reg [zmv 4 (zki 0)]),(zsq [(.reg [zmv 7 0,zle 8 7,zmv 9 (zki 0)]),(.block 0 (.loop Qsf Qra))]),Qtf])
def QrG:List (ARv × Md):=[(.t 4,.one .d)]
def Qrc:Qc:=TQ 0 0 QrG K
def QCj:Qc:=Qseq (tawp Qjz 0 Qtf (Qrc K)) (Qrc K)
def QC8:Qc:=Qblk 0 (QCj K)
def Qf2 (l:List Q5) (m:Int) (x:Int):Prop:=Loop Qjz 0 Qsf Qra (QC8 K) ⟨[(1,(zci m)),(7,(zcs Qz l)),(8,(zci (l.length:Int))),(9,(zci x))],[],0⟩
theorem QqG (l:List Q5) (m:Int) (x:Int) (h :
 (zif (decide (x<(l.length:Int))) (((0:Int)≤x∧Int.toNat x<l.length)∧(zif (((gtd Zb l (Int.toNat x)).1)==m) (K (Qa1 x)) (Qf2 K l m (w64 (x+(1:Int)))))) (K (Qa1 (-1:Int))))):Qf2 K l m x :=
 Loop.of (by kernel_rfl) h
theorem QED (l:List Q5) (m:Int) (h :
 (Qf2 K l m 0)):Hold (tawp Qjz (0+0) QzT (TQ 0 0 QrG K) (Qe [(.c (.sl Qz) l),(.c TI m)])) :=
 Hold.of (by kernel_rfl) h
theorem QDK (l:List Q5) (m:Int):TCon Tryz.prog 116 [(.c (.sl Qz) l),(.c TI m)] (Qa1 (Qo l m)):=by
 refine Ql rfl fun hb=>tcg (n:=20) (sg:=Qcl.sg) Qi TOk.nil (by kernel_rfl) (by kernel_rfl) (QED _ l m ?_)
 have hl_l:l.length≤9223372036854775807:=hb.1.1
 refine Zc l (fun r k=>YH r m k=Qo l m→Qf2 (fun r'=>r'=Qa1 (Qo l m)) l m k) ?_ ?_ rfl
 ·intro he
  refine QqG (fun r'=>r'=Qa1 (Qo l m)) l m _ ⟨fun h=>by simp at h,fun _=>?_⟩
  grind [YH]
 ·intro k x r hk hlt hg ih he
  refine QqG (fun r'=>r'=Qa1 (Qo l m)) l m _ ⟨fun _=>?_,fun h=>by simp at h;omega⟩
  rw [Int.toNat_natCast,hg,Qs (by omega) (by omega)]
  grind [YH]
theorem QiV:Qh Tryz.prog Qcl:=Qk fun x _=>QDK x.1 x.2.1
def QbX (t:Int):TRes:=zre (zci t)
def Qhu:TRow:=Qg 122 [(.c (.sl [(.sl [TI])]))] fun x=>(none,QbX (Y5 x.1))
def Qi5:List TRow:=[]
def Qug:TCode :=
 (zsq [(.reg [zbi 9 .lss 8 7]),(.cond 9 .skip (.exit 0)),(.block 1 (zsq [(.reg [zia 10 6 8 [(.sl [TI])],zLd 11 10 1,zop 5 (.new 129 [(.n [TI])]),zst 5 11 1]),(.reg [zmv 12 3,zfa 13 5 0,zld 14 13 1,zle 15 14,zbi 16 .add 12 15,zmv 3 16])])),(.reg [zbi 17 .add 8 (zki 1),zmv 8 17])])
def Quu:List (Nat × Md):=zdl [3,6,7,8]
def QoW:TCode :=
 (zsq [(.reg [zmv 18 3,zmv 2 18]),.ret])
def QDH:TCode :=
 (zsq [(.reg [zmv 2 (zki 0)]),(.reg [zmv 3 (zki 0)]),(zsq [(.reg [zmv 6 0,zle 7 6,zmv 8 (zki 0)]),(.block 0 (.loop Quu Qug))]),QoW])
def Ql3:List (ARv × Md):=[(.t 2,.one .d)]
def QnJ:Qc:=TQ 0 0 Ql3 K
def QzG:Qc:=Qseq (tawp Qi5 0 QoW (QnJ K)) (QnJ K)
def QvN:Qc:=Qblk 0 (QzG K)
def Qgl (rows:List (List Int)) (n:Int) (x:Int):Prop:=Loop Qi5 0 Quu Qug (QvN K) ⟨[(3,(zci n)),(6,(zcs [(.sl [TI])] rows)),(7,(zci (rows.length:Int))),(8,(zci x))],[],0⟩
theorem QmE (rows:List (List Int)) (n:Int) (x:Int) (h :
 (zif (decide (x<(rows.length:Int))) (((0:Int)≤x∧Int.toNat x<rows.length)∧(Qgl K rows (w64 (n+((gtd ([]:List Int) rows (Int.toNat x)).length:Int))) (w64 (x+(1:Int))))) (K (QbX n)))):Qgl K rows n x :=
 Loop.of (by kernel_rfl) h
theorem QDN (rows:List (List Int)) (h :
 (Qgl K rows 0 0)):Hold (tawp Qi5 (0+0) QDH (TQ 0 0 Ql3 K) (Qe [(.c (.sl [(.sl [TI])]) rows)])) :=
 Hold.of (by kernel_rfl) h
theorem QFN (rows:List (List Int)):TCon Tryz.prog 122 [(.c (.sl [(.sl [TI])]) rows)] (QbX (Y5 rows)):=by
 refine Ql rfl fun hb=>tcg (n:=19) (sg:=Qhu.sg) Qi TOk.nil (by kernel_rfl) (by kernel_rfl) (QDN _ rows ?_)
 have hl_rows:rows.length≤9223372036854775807:=hb.1.1
 refine Zc rows (fun r k=>∀ y:Int,w64 (y+(r.map fun r=>(r.length:Int)).sum)=(Y5 rows)→Qgl (fun r'=>r'=QbX (Y5 rows)) rows (w64 y) k) ?_ ?_ 0 (by simp [Y5])
 ·intro y he
  refine QmE (fun r'=>r'=QbX (Y5 rows)) rows _ _ ⟨fun h=>by simp at h,fun _=>R_eq ?_⟩
  simpa using he
 ·intro k x r hk hlt hg ih y he
  refine QmE (fun r'=>r'=QbX (Y5 rows)) rows _ _ ⟨fun _=>?_,fun h=>by simp at h;omega⟩
  rw [Int.toNat_natCast,hg,Qs (x:=(k:Int)+1) (by omega) (by omega),Qga]
  refine ⟨⟨by omega,hlt⟩,ih _ ?_⟩
  rw [← he,List.map_cons,List.sum_cons,Int.add_assoc]
theorem QwI:Qh Tryz.prog Qhu:=Qk fun x _=>QFN x.1
def QbR (t:Int):TRes:=zre (zci t)
def Qiu:TRow:=Qg 45 [(.a Qn)] fun x=>(none,QbR (Y9 x.1))
def Qiq:List TRow:=[Qhu]
def QnR:TCode :=
 (zsq [(.reg [zbi 29 .lss 28 27]),(.cond 29 .skip (.exit 0)),(.block 1 (zsq [(.reg [zia 30 26 28 Qz,zLd 31 30 2,zop 5 (.new 76 (z0s Qz)),zst 5 31 2]),(.reg [zmv 32 3,zfa 33 5 1,zld 34 33 1,zca 35 122 [34],zbi 36 .add 32 35,zmv 3 36])])),(.reg [zbi 37 .add 28 (zki 1),zmv 28 37])])
def QpQ:List (Nat × Md):=zdl [3,26,27,28]
def Qoz:TCode :=
 (zsq [(.reg [zmv 38 3,zmv 2 38]),.ret])
def QwZ:TCode :=
 (zsq [(.reg [zop 1 (.box 63 0 14),zmv 2 (zki 0)]),(.draw [zfa 6 1 7,zld 7 6 1,zle 8 7,zfa 9 1 8,zld 10 9 1,zle 11 10,zbi 12 .add 8 11,zfa 13 1 9,zld 14 13 1,zle 15 14,zbi 16 .add 12 15,zfa 17 1 10,zld 18 17 1,zle 19 18,zbi 20 .add 16 19,zfa 21 1 6,zld 22 21 1,zca 23 122 [22],zbi 24 .add 20 23,zmv 3 24] [(0,17),(1,17),(2,17),(3,17),(4,17),(5,17),(7,17),(8,17),(9,17),(11,17),(12,17),(13,17)]),(zsq [(.reg [zfa 25 1 5,zld 26 25 1,zle 27 26,zmv 28 (zki 0)]),(.block 0 (.loop QpQ QnR))]),Qoz])
def Que:List (ARv × Md):=[(.t 2,.one .d)]
def QlB:Qc:=TQ 0 0 Que K
def Qyg:Qc:=Qseq (tawp Qiq 0 Qoz (QlB K)) (QlB K)
def QAE:Qc:=Qblk 0 (Qyg K)
def Qfi (s:Qb) (n:Int) (x:Int):Prop:=Loop Qiq 0 QpQ QnR (QAE K) ⟨[(3,(zci n)),(26,(zcs Qz s.2.2.2.2.2.1)),(27,(zci ((s.2.2.2.2.2.1).length:Int))),(28,(zci x))],[],0⟩
theorem Qsw (s:Qb) (n:Int) (x:Int) (h :
 (zif (decide (x<((s.2.2.2.2.2.1).length:Int))) (((0:Int)≤x∧Int.toNat x<(s.2.2.2.2.2.1).length)∧(Qfi K s (w64 (n+(Y5 ((gtd Zb s.2.2.2.2.2.1 (Int.toNat x)).2)))) (w64 (x+(1:Int))))) (K (QbR n)))):Qfi K s n x :=
 Loop.of (by kernel_rfl) h
theorem QFM (s:Qb) (h :
 (Qfi K s (w64 ((w64 ((w64 ((w64 (((s.2.2.2.2.2.2.2.1).length:Int)+((s.2.2.2.2.2.2.2.2.1).length:Int)))+((s.2.2.2.2.2.2.2.2.2.1).length:Int)))+((s.2.2.2.2.2.2.2.2.2.2.1).length:Int)))+(Y5 s.2.2.2.2.2.2.1))) 0)):Hold (tawp Qiq (0+0) QwZ (TQ 0 0 Que K) (Qe [(.a (Tup.cells Qn s))])) :=
 Hold.of (by kernel_rfl) h
theorem QGZ (s:Qb):TCon Tryz.prog 45 [(.a (Tup.cells Qn s))] (QbR (Y9 s)):=by
 refine Ql rfl fun hb=>tcg (n:=39) (sg:=Qiu.sg) Qi (TOk.cons QwI TOk.nil) (by kernel_rfl) (by kernel_rfl) (QFM _ s ?_)
 have hl_s_1:(s.2.1).length≤9223372036854775807:=hb.1.2.1.1
 have hl_s_2:(s.2.2.1).length≤9223372036854775807:=hb.1.2.2.1.1
 have hl_s_5:(s.2.2.2.2.2.1).length≤9223372036854775807:=hb.1.2.2.2.2.2.1.1
 have hl_s_6:(s.2.2.2.2.2.2.1).length≤9223372036854775807:=hb.1.2.2.2.2.2.2.1.1
 have hl_s_7:(s.2.2.2.2.2.2.2.1).length≤9223372036854775807:=hb.1.2.2.2.2.2.2.2.1.1
 have hl_s_8:(s.2.2.2.2.2.2.2.2.1).length≤9223372036854775807:=hb.1.2.2.2.2.2.2.2.2.1.1
 have hl_s_9:(s.2.2.2.2.2.2.2.2.2.1).length≤9223372036854775807:=hb.1.2.2.2.2.2.2.2.2.2.1.1
 have hl_s_10:(s.2.2.2.2.2.2.2.2.2.2.1).length≤9223372036854775807:=hb.1.2.2.2.2.2.2.2.2.2.2.1.1
 have hl_s_11:(s.2.2.2.2.2.2.2.2.2.2.2.1).length≤9223372036854775807:=hb.1.2.2.2.2.2.2.2.2.2.2.2.1.1
 simp only [Y5,Qga,Quc]
 refine Zc s.2.2.2.2.2.1 (fun r k=>∀ y:Int,w64 (y+(r.map fun x=>(x.2.map fun r=>(r.length:Int)).sum).sum)=(Y9 s)→Qfi (fun r'=>r'=QbR (Y9 s)) s (w64 y) k) ?_ ?_ _ rfl
 ·intro y he
  refine Qsw (fun r'=>r'=QbR (Y9 s)) s _ _ ⟨fun h=>by simp at h,fun _=>R_eq ?_⟩
  simpa using he
 ·intro k x r hk hlt hg ih y he
  refine Qsw (fun r'=>r'=QbR (Y9 s)) s _ _ ⟨fun _=>?_,fun h=>by simp at h;omega⟩
  rw [Int.toNat_natCast,hg,Qs (x:=(k:Int)+1) (by omega) (by omega)]
  simp only [Y5,Qga,Quc]
  refine ⟨⟨by omega,hlt⟩,ih _ ?_⟩
  rw [← he,List.map_cons,List.sum_cons,Int.add_assoc]
theorem Qx3:Qh Tryz.prog Qiu:=Qk fun x _=>QGZ x.1
end
end Go.Proofs.YtjbdljkhbglnhaaGreat.Am

