/- -/
import Derived.Test.YtjbdljkhbglnhaaGreatZAP3
import Derived.Test.YtjbdljkhbglnhaaGreatZAP2
namespace Go.Proofs.YtjbdljkhbglnhaaGreat.Am
open Go Go.RowKit Go.Proofs.YtjbdljkhbglnhaaGreat
set_option linter.all false
noncomputable section
variable (K:TRes→Prop)
def QdW (t:Int):TRes:=zre (zci t)
def QmA:TRow:=Qh 63 [(.a QQ)] fun x=>(none,QdW (QaB x.1))
def QmU:List TRow:=[]
def Qxi:TCode :=
 (zsq [(.reg [zbi 10 .lss 9 8]),(.cond 10 .skip (.exit 0)),(.block 1 (zsq [(.reg [zia 11 7 9 Qt,zLd 12 11 14,zop 5 (.new 63 (z0s Qt)),zst 5 12 14]),(.reg [zfa 13 5 0,zld 14 13 1,zfa 15 5 1,zld 16 15 1,zle 17 16,zbi 18 .geq 14 17]),(.cond 18 (.reg [zmv 19 3,zbi 20 .add 19 (zki 1),zmv 3 20]) .skip)])),(.reg [zbi 21 .add 9 (zki 1),zmv 9 21])])
def QtM:List (Nat × Md):=zdl [3,7,8,9]
def QpK:TCode :=
 (zsq [(.reg [zmv 22 3,zmv 2 22]),.ret])
def QRp:TCode :=
 (zsq [(.reg [zop 1 (.box 37 0 4),zmv 2 (zki 0)]),(.reg [zmv 3 (zki 0)]),(zsq [(.reg [zfa 6 1 1,zld 7 6 1,zle 8 7,zmv 9 (zki 0)]),(.block 0 (.loop QtM Qxi))]),QpK])
def QoH:List (ARv × Md):=[(.t 2,.one .d)]
def Qwb:Qb:=TQ 0 0 QoH K
def QPh:Qb:=Qseq (tawp QmU 0 QpK (Qwb K)) (Qwb K)
def QDg:Qb:=Qblk 0 (QPh K)
def Qeb (p:Qd) (n:Int) (x:Int):Prop:=Loop QmU 0 QtM Qxi (QDg K) ⟨[(3,(zci n)),(7,(zcs Qt p.2.1)),(8,(zci ((p.2.1).length:Int))),(9,(zci x))],[],0⟩
theorem QrM (p:Qd) (n:Int) (x:Int) (h :
(zif (decide (x<((p.2.1).length:Int))) (((0:Int)≤x∧Int.toNat x<(p.2.1).length)∧(zif (decide (((gtd QL p.2.1 (Int.toNat x)).1)≥(((gtd QL p.2.1 (Int.toNat x)).2.1).length:Int))) (Qeb K p (w64 (n+(1:Int))) (w64 (x+(1:Int)))) (Qeb K p n (w64 (x+(1:Int)))))) (K (QdW n)))):Qeb K p n x :=
 Loop.of (by kernel_rfl) h
theorem QOK (p:Qd) (h :
(Qeb K p 0 0)):Hold (tawp QmU (0+0) QRp (TQ 0 0 QoH K) (Qf [(.a (Tup.cells QQ p))])) :=
 Hold.of (by kernel_rfl) h
theorem QGN (p:Qd):TCon Tryz.prog 63 [(.a (Tup.cells QQ p))] (QdW (QaB p)):=by
 refine Qq rfl fun hb=>tcg (n:=23) (sg:=QmA.sg) Ql TOk.nil (by kernel_rfl) (by kernel_rfl) (QOK _ p ?_)
 have hl_p_0:(p.1).length≤9223372036854775807:=hb.1.1.1
 have hl_p_1:(p.2.1).length≤9223372036854775807:=hb.1.2.1.1
 have hl_p_2:(p.2.2.1).length≤9223372036854775807:=hb.1.2.2.1.1
 have hl_p_3:(p.2.2.2).length≤9223372036854775807:=hb.1.2.2.2.1.1
 refine Zi p.2.1 (fun r k=>∀ y:Int,w64 (y+(r.map fun s=>if QaQ s then (1:Int) else 0).sum)=(QaB p)→Qeb (fun r'=>r'=QdW (QaB p)) p (w64 y) k) ?_ ?_ 0 (by simp [QaB])
 ·intro y he
  refine QrM (fun r'=>r'=QdW (QaB p)) p _ _ ⟨fun h=>by simp at h,fun _=>R_eq ?_⟩
  simpa using he
 ·intro k x r hk hlt hg ih y he
  refine QrM (fun r'=>r'=QdW (QaB p)) p _ _ ⟨fun _=>?_,fun h=>by simp at h;omega⟩
  rw [Int.toNat_natCast,hg,Qp (x:=(k:Int)+1) (by omega) (by omega),Yw]
  rw [List.map_cons,List.sum_cons] at he
  refine ⟨⟨by omega,hlt⟩,fun h=>ih _ ?_,fun h=>ih _ ?_⟩
  ·have:QaQ x=true:=by simpa [QaQ] using h
   rw [this] at he
   rw [← he,Int.add_assoc];rfl
  ·have:QaQ x=false:=by simpa [QaQ] using h
   rw [this] at he
   simpa using he
theorem QKD:Qi Tryz.prog QmA:=Qm fun x _=>QGN x.1
def Js (t:Int):TRes:=zre (zci t)
def QlO:TRow:=Qh 62 [(.a QQ)] fun x=>(none,Js (Ze x.1))
def Qcg:List TRow:=[Qlr,Qn1]
def QqL:TCode :=
 (zsq [(zsq [(.reg [zmv 7 4,zfa 8 1 1,zld 9 8 1,zle 10 9,zbi 11 .lss 7 10]),(.cond 11 .skip (.exit 0))]),(.block 1 (.reg [zmv 14 3,zfa 15 1 1,zld 16 15 1,zmv 17 4,zia 18 16 17 Qt,zLd 19 18 14,zca 20 126 [19],zbi 21 .add 14 20,zmv 3 21])),(.reg [zmv 12 4,zbi 13 .add 12 (zki 1),zmv 4 13])])
def Qtt:List (Nat × Md):=[(1,.b (zds 4)),(3,.one .d),(4,.one .d)]
def Qyz:TCode :=
 (zsq [(zsq [(.reg [zmv 22 5,zfa 23 1 2,zld 24 23 1,zle 25 24,zbi 26 .lss 22 25]),(.cond 26 .skip (.exit 2))]),(.block 3 (.reg [zmv 29 3,zfa 30 1 2,zld 31 30 1,zmv 32 5,zia 33 31 32 Qv,zLd 34 33 2,zca 35 138 [34],zbi 36 .add 29 35,zmv 3 36])),(.reg [zmv 27 5,zbi 28 .add 27 (zki 1),zmv 5 28])])
def QpV:List (Nat × Md):=[(1,.b (zds 4)),(3,.one .d),(5,.one .d)]
def Qtr:TCode :=
 (zsq [(zsq [(.reg [zmv 37 6,zfa 38 1 3,zld 39 38 1,zle 40 39,zbi 41 .lss 37 40]),(.cond 41 .skip (.exit 4))]),(.block 5 (.reg [zmv 44 3,zfa 45 1 3,zld 46 45 1,zmv 47 6,zia 48 46 47 Qv,zLd 49 48 2,zca 50 138 [49],zbi 51 .add 44 50,zmv 3 51])),(.reg [zmv 42 6,zbi 43 .add 42 (zki 1),zmv 6 43])])
def Qy1:List (Nat × Md):=[(1,.b (zds 4)),(3,.one .d),(6,.one .d)]
def Qs2:TCode :=
 (zsq [(.reg [zmv 52 3,zmv 2 52]),.ret])
def QqN:TCode :=
 (zsq [(zsq [(.reg [zmv 6 (zki 0)]),(.block 4 (.loop Qy1 Qtr))]),Qs2])
def Qtj:TCode :=
 (zsq [(zsq [(.reg [zmv 5 (zki 0)]),(.block 2 (.loop QpV Qyz))]),QqN])
def QRz:TCode :=
 (zsq [(.reg [zop 1 (.box 37 0 4),zmv 2 (zki 0)]),(.reg [zmv 3 (zki 0)]),(zsq [(.reg [zmv 4 (zki 0)]),(.block 0 (.loop Qtt QqL))]),Qtj])
def Quq:List (ARv × Md):=[(.t 2,.one .d)]
def Qc8:Qb:=TQ 0 0 Quq K
def QE5:Qb:=Qseq (tawp Qcg 0 Qs2 (Qc8 K)) (Qc8 K)
def QBc:Qb:=Qblk 4 (QE5 K)
def Qeq (p:Qd) (n2:Int) (i1:Int):Prop:=Loop Qcg 0 Qy1 Qtr (QBc K) ⟨[(1,(.p 0 0 0)),(3,(zci n2)),(6,(zci i1))],[(0,(.box (Tup.cells QQ p)))],1⟩
def QBO:Qb:=Qseq (tawp Qcg 0 QqN (Qc8 K)) (Qc8 K)
def QEN:Qb:=Qblk 2 (QBO K)
def QeU (p:Qd) (n1:Int) (i:Int):Prop:=Loop Qcg 0 QpV Qyz (QEN K) ⟨[(1,(.p 0 0 0)),(3,(zci n1)),(5,(zci i))],[(0,(.box (Tup.cells QQ p)))],1⟩
def QN3:Qb:=Qseq (tawp Qcg 0 Qtj (Qc8 K)) (Qc8 K)
def QCv:Qb:=Qblk 0 (QN3 K)
def QfT (p:Qd) (n:Int) (s:Int):Prop:=Loop Qcg 0 Qtt QqL (QCv K) ⟨[(1,(.p 0 0 0)),(3,(zci n)),(4,(zci s))],[(0,(.box (Tup.cells QQ p)))],1⟩
theorem Qzt (p:Qd) (n2:Int) (i1:Int) (h :
(zif (decide (i1<((p.2.2.2).length:Int))) (((0:Int)≤i1∧Int.toNat i1<(p.2.2.2).length)∧(Qeq K p (w64 (n2+(Zo (gtd QV p.2.2.2 (Int.toNat i1))))) (w64 (i1+(1:Int))))) (K (Js n2)))):Qeq K p n2 i1 :=
 Loop.of (by kernel_rfl) h
theorem QtF (p:Qd) (n1:Int) (i:Int) (h :
(zif (decide (i<((p.2.2.1).length:Int))) (((0:Int)≤i∧Int.toNat i<(p.2.2.1).length)∧(QeU K p (w64 (n1+(Zo (gtd QV p.2.2.1 (Int.toNat i))))) (w64 (i+(1:Int))))) (Qeq K p n1 0))):QeU K p n1 i :=
 Loop.of (by kernel_rfl) h
theorem Qq2 (p:Qd) (n:Int) (s:Int) (h :
(zif (decide (s<((p.2.1).length:Int))) (((0:Int)≤s∧Int.toNat s<(p.2.1).length)∧(QfT K p (w64 (n+(ZD (gtd QL p.2.1 (Int.toNat s))))) (w64 (s+(1:Int))))) (QeU K p n 0))):QfT K p n s :=
 Loop.of (by kernel_rfl) h
theorem QQG (p:Qd) (h :
(QfT K p 0 0)):Hold (tawp Qcg (0+0) QRz (TQ 0 0 Quq K) (Qf [(.a (Tup.cells QQ p))])) :=
 Hold.of (by kernel_rfl) h
theorem QA6 (p:Qd):TCon Tryz.prog 62 [(.a (Tup.cells QQ p))] (Js (Ze p)):=by
 refine Qq rfl fun hb=>tcg (n:=53) (sg:=QlO.sg) Ql (TOk.cons QDX (TOk.cons QCU TOk.nil)) (by kernel_rfl) (by kernel_rfl) (QQG _ p ?_)
 have hl_p_0:(p.1).length≤9223372036854775807:=hb.1.1.1
 have hl_p_1:(p.2.1).length≤9223372036854775807:=hb.1.2.1.1
 have hl_p_2:(p.2.2.1).length≤9223372036854775807:=hb.1.2.2.1.1
 have hl_p_3:(p.2.2.2).length≤9223372036854775807:=hb.1.2.2.2.1.1
 have backs:∀ y:Int,w64 (y+(p.2.2.2.map Zo).sum)=(Ze p)→Qeq (fun r'=>r'=Js (Ze p)) p (w64 y) ((0:Nat):Int):=by
  refine Zi p.2.2.2 (fun r k=>∀ y:Int,w64 (y+(r.map Zo).sum)=(Ze p)→Qeq (fun r'=>r'=Js (Ze p)) p (w64 y) k) ?_ ?_
  ·intro y he
   refine Qzt (fun r'=>r'=Js (Ze p)) p _ _ ⟨fun h=>by simp at h,fun _=>R_eq ?_⟩
   simpa using he
  ·intro k x r hk hlt hg ih y he
   refine Qzt (fun r'=>r'=Js (Ze p)) p _ _ ⟨fun _=>?_,fun h=>by simp at h;omega⟩
   rw [Int.toNat_natCast,hg,Qp (x:=(k:Int)+1) (by omega) (by omega),Yw]
   refine ⟨⟨by omega,hlt⟩,ih _ ?_⟩
   rw [← he,List.map_cons,List.sum_cons,Int.add_assoc]
 have acts:∀ y:Int,w64 (y+(p.2.2.1.map Zo).sum+(p.2.2.2.map Zo).sum)=(Ze p)→QeU (fun r'=>r'=Js (Ze p)) p (w64 y) ((0:Nat):Int):=by
  refine Zi p.2.2.1 (fun r k=>∀ y:Int,w64 (y+(r.map Zo).sum+(p.2.2.2.map Zo).sum)=(Ze p)→QeU (fun r'=>r'=Js (Ze p)) p (w64 y) k) ?_ ?_
  ·intro y he
   refine QtF (fun r'=>r'=Js (Ze p)) p _ _ ⟨fun h=>by simp at h,fun _=>backs y ?_⟩
   simpa using he
  ·intro k x r hk hlt hg ih y he
   refine QtF (fun r'=>r'=Js (Ze p)) p _ _ ⟨fun _=>?_,fun h=>by simp at h;omega⟩
   rw [Int.toNat_natCast,hg,Qp (x:=(k:Int)+1) (by omega) (by omega),Yw]
   refine ⟨⟨by omega,hlt⟩,ih _ ?_⟩
   rw [← he,List.map_cons,List.sum_cons];congr 1;omega
 refine Zi p.2.1 (fun r k=>∀ y:Int,w64 (y+(r.map ZD).sum+(p.2.2.1.map Zo).sum+(p.2.2.2.map Zo).sum)=(Ze p)→QfT (fun r'=>r'=Js (Ze p)) p (w64 y) k) ?_ ?_ 0 (by simp [Ze])
 ·intro y he
  refine Qq2 (fun r'=>r'=Js (Ze p)) p _ _ ⟨fun h=>by simp at h,fun _=>acts y ?_⟩
  simpa using he
 ·intro k x r hk hlt hg ih y he
  refine Qq2 (fun r'=>r'=Js (Ze p)) p _ _ ⟨fun _=>?_,fun h=>by simp at h;omega⟩
  rw [Int.toNat_natCast,hg,Qp (x:=(k:Int)+1) (by omega) (by omega),Yw]
  refine ⟨⟨by omega,hlt⟩,ih _ ?_⟩
  rw [← he,List.map_cons,List.sum_cons];congr 1;omega
theorem QIn:Qi Tryz.prog QlO:=Qm fun x _=>QA6 x.1
def Y6 (t:Int):TRes:=zre (zci t)
def Ql6:TRow:=Qh 61 [(.a QQ)] fun x=>(none,Y6 (Ze x.1))
def QbK:List TRow:=[Qkr,Qmy]
def Qx0:TCode :=
 (zsq [(.reg [zbi 14 .lss 13 12]),(.cond 14 .skip (.exit 0)),(.block 1 (zsq [(.reg [zia 15 11 13 Qt,zLd 16 15 14,zop 5 (.new 63 (z0s Qt)),zst 5 16 14]),(.reg [zmv 17 3,zLd 18 5 14,zca 19 45 [18],zbi 20 .add 17 19,zmv 3 20])])),(.reg [zbi 21 .add 13 (zki 1),zmv 13 21])])
def QsX:List (Nat × Md):=[(1,.b (zds 4)),(3,.one .d),(11,.one .d),(12,.one .d),(13,.one .d)]
def Qsq:TCode :=
 (zsq [(.reg [zbi 35 .lss 34 33]),(.cond 35 .skip (.exit 4)),(.block 5 (zsq [(.reg [zia 36 32 34 Qv,zLd 37 36 2,zop 9 (.new 97 (z0s Qv)),zst 9 37 2]),(.reg [zmv 38 3,zLd 39 9 2,zca 40 137 [39],zbi 41 .add 38 40,zmv 3 41])])),(.reg [zbi 42 .add 34 (zki 1),zmv 34 42])])
def Qs8:List (Nat × Md):=zdl [3,26,27,28,32,33,34]
def QwM:TCode :=
 (.reg [zbi 43 .add 28 (zki 1),zmv 28 43])
def Qml:TCode :=
 (zsq [(.reg [zbi 29 .lss 28 27]),(.cond 29 .skip (.exit 2)),(.block 3 (zsq [(.reg [zia 30 26 28 [(.sl Qv)],zld 31 30 1,zmv 7 31]),(.reg [zmv 32 7,zle 33 32,zmv 34 (zki 0)]),(.block 4 (.loop Qs8 Qsq))])),QwM])
def Qja:List (Nat × Md):=zdl [3,26,27,28]
def Qq3:TCode :=
 (zsq [(.reg [zmv 44 3,zmv 2 44]),.ret])
def Qt5:TCode :=
 (zsq [(zsq [(.reg [zfa 22 1 2,zld 23 22 1,zfa 24 1 3,zld 25 24 1,zop 26 (.bsl 35 [(.sl Qv)] [23,25]),zle 27 26,zmv 28 (zki 0)]),(.block 2 (.loop Qja Qml))]),Qq3])
def QBC:TCode :=
 (zsq [(.reg [zop 1 (.box 37 0 4),zmv 2 (zki 0)]),(.reg [zmv 3 (zki 0)]),(zsq [(.reg [zfa 10 1 1,zld 11 10 1,zle 12 11,zmv 13 (zki 0)]),(.block 0 (.loop QsX Qx0))]),Qt5])
def QxA:List (ARv × Md):=[(.t 2,.one .d)]
def QgA:Qb:=TQ 0 0 QxA K
def QNO:Qb:=Qseq (tawp QbK 0 Qq3 (QgA K)) (QgA K)
def QmJ:Qb:=Qblk 2 (QNO K)
def QqB:Qb:=Qseq (fun s'=>Loop QbK 0 Qja Qml (QmJ K) (gc 0 Qja s')) (QmJ K)
def QCw:Qb:=Qseq (tawp QbK 0 QwM (QqB K)) (QqB K)
def QKV:Qb:=Qblk 3 (QCw K)
def QMl:Qb:=Qblk 4 (QKV K)
def Qeg (p:Qd) (n1:Int) (x1:Int) (x2:Int):Prop:=Loop QbK 0 Qs8 Qsq (QMl K) ⟨[(3,(zci n1)),(26,(zcs [(.sl Qv)] ([p.2.2.1,p.2.2.2]))),(27,(zci ((2:Nat):Int))),(28,(zci x2)),(32,(zcs Qv (gtd ([]:List Qe) ([p.2.2.1,p.2.2.2]) (Int.toNat x2)))),(33,(zci ((gtd ([]:List Qe) ([p.2.2.1,p.2.2.2]) (Int.toNat x2)).length:Int))),(34,(zci x1))],[],0⟩
def Qdw (p:Qd) (n2:Int) (x2:Int):Prop:=Loop QbK 0 Qja Qml (QmJ K) ⟨[(3,(zci n2)),(26,(zcs [(.sl Qv)] ([p.2.2.1,p.2.2.2]))),(27,(zci ((2:Nat):Int))),(28,(zci x2))],[],0⟩
def QJM:Qb:=Qseq (tawp QbK 0 Qt5 (QgA K)) (QgA K)
def QRa:Qb:=Qblk 0 (QJM K)
def Qg9 (p:Qd) (n:Int) (x:Int):Prop:=Loop QbK 0 QsX Qx0 (QRa K) ⟨[(1,(.p 0 0 0)),(3,(zci n)),(11,(zcs Qt p.2.1)),(12,(zci ((p.2.1).length:Int))),(13,(zci x))],[(0,(.box (Tup.cells QQ p)))],1⟩
theorem Qv1 (p:Qd) (n1:Int) (x1:Int) (x2:Int) (h :
(zif (decide (x1<((gtd ([]:List Qe) ([p.2.2.1,p.2.2.2]) (Int.toNat x2)).length:Int))) (((0:Int)≤x1∧Int.toNat x1<(gtd ([]:List Qe) ([p.2.2.1,p.2.2.2]) (Int.toNat x2)).length)∧(Qeg K p (w64 (n1+(Zo (gtd QV (gtd ([]:List Qe) ([p.2.2.1,p.2.2.2]) (Int.toNat x2)) (Int.toNat x1))))) (w64 (x1+(1:Int))) x2)) (Qdw K p n1 (w64 (x2+(1:Int)))))):Qeg K p n1 x1 x2 :=
 Loop.of (by kernel_rfl) h
theorem Qmm (p:Qd) (n2:Int) (x2:Int) (h :
(zif (decide (x2<((2:Nat):Int))) (((0:Int)≤x2∧Int.toNat x2<2)∧(Qeg K p n2 0 x2)) (K (Y6 n2)))):Qdw K p n2 x2 :=
 Loop.of (by kernel_rfl) h
theorem Qos (p:Qd) (n:Int) (x:Int) (h :
(zif (decide (x<((p.2.1).length:Int))) (((0:Int)≤x∧Int.toNat x<(p.2.1).length)∧(Qg9 K p (w64 (n+(ZD (gtd QL p.2.1 (Int.toNat x))))) (w64 (x+(1:Int))))) (Qdw K p n 0))):Qg9 K p n x :=
 Loop.of (by kernel_rfl) h
theorem QIv (p:Qd) (h :
(Qg9 K p 0 0)):Hold (tawp QbK (0+0) QBC (TQ 0 0 QxA K) (Qf [(.a (Tup.cells QQ p))])) :=
 Hold.of (by kernel_rfl) h
theorem QPZ (p:Qd):TCon Tryz.prog 61 [(.a (Tup.cells QQ p))] (Y6 (Ze p)):=by
 refine Qq rfl fun hb=>tcg (n:=45) (sg:=Ql6.sg) Ql (TOk.cons QDJ (TOk.cons QP8 TOk.nil)) (by kernel_rfl) (by kernel_rfl) (QIv _ p ?_)
 have hl_p_0:(p.1).length≤9223372036854775807:=hb.1.1.1
 have hl_p_1:(p.2.1).length≤9223372036854775807:=hb.1.2.1.1
 have hl_p_2:(p.2.2.1).length≤9223372036854775807:=hb.1.2.2.1.1
 have hl_p_3:(p.2.2.2).length≤9223372036854775807:=hb.1.2.2.2.1.1
 have two:∀ y:Int,w64 y=(Ze p)→Qdw (fun r'=>r'=Y6 (Ze p)) p (w64 y) 2:=fun y h=>Qmm (fun r'=>r'=Y6 (Ze p)) p _ _ ⟨fun h=>by simp at h,fun _=>R_eq h⟩
 have loop:∀ (l:List Qe) (j:Int) (nxt:Int),gtd ([]:List Qe) ([p.2.2.1,p.2.2.2]:List (List Qe)) (Int.toNat j)=l→l.length≤9223372036854775807→w64 (j+1)=nxt→∀ rest:Int,(∀ y:Int,w64 (y+rest)=(Ze p)→Qdw (fun r'=>r'=Y6 (Ze p)) p (w64 y) nxt) →
   ∀ y:Int,w64 (y+(l.map Zo).sum+rest)=(Ze p)→Qeg (fun r'=>r'=Y6 (Ze p)) p (w64 y) ((0:Nat):Int) j:=by
  intro l j nxt hl hb2 hn rest h1
  refine Zi l (fun r k=>∀ y:Int,w64 (y+(r.map Zo).sum+rest)=(Ze p)→Qeg (fun r'=>r'=Y6 (Ze p)) p (w64 y) k j) ?_ ?_
  ·intro y he
   refine Qv1 (fun r'=>r'=Y6 (Ze p)) p _ _ _ ?_
   rw [hl,hn]
   exact ⟨fun h=>by simp at h,fun _=>h1 y (by simpa using he)⟩
  ·intro k x r hk hlt hg ih y he
   refine Qv1 (fun r'=>r'=Y6 (Ze p)) p _ _ _ ?_
   rw [hl,hn]
   refine ⟨fun _=>?_,fun h=>by simp at h;omega⟩
   rw [Int.toNat_natCast,hg,Qp (x:=(k:Int)+1) (by omega) (by omega),Yw]
   refine ⟨⟨by omega,hlt⟩,ih _ ?_⟩
   rw [← he,List.map_cons,List.sum_cons];congr 1;omega
 have queues:∀ y:Int,w64 (y+(p.2.2.1.map Zo).sum+(p.2.2.2.map Zo).sum)=(Ze p)→Qdw (fun r'=>r'=Y6 (Ze p)) p (w64 y) 0:=by
  intro y he
  refine Qmm (fun r'=>r'=Y6 (Ze p)) p _ _ ⟨fun _=>⟨⟨by omega,by simp⟩,?_⟩,fun h=>by simp at h⟩
  refine loop p.2.2.1 0 1 rfl hl_p_2 rfl (p.2.2.2.map Zo).sum (fun y he=>?_) y he
  refine Qmm (fun r'=>r'=Y6 (Ze p)) p _ _ ⟨fun _=>⟨⟨by omega,by simp⟩,?_⟩,fun h=>by simp at h⟩
  exact loop p.2.2.2 1 2 rfl hl_p_3 rfl 0 (fun y he=>two y (by simpa using he)) y (by simpa using he)
 refine Zi p.2.1 (fun r k=>∀ y:Int,w64 (y+(r.map ZD).sum+(p.2.2.1.map Zo).sum+(p.2.2.2.map Zo).sum)=(Ze p)→Qg9 (fun r'=>r'=Y6 (Ze p)) p (w64 y) k) ?_ ?_ 0 (by simp [Ze])
 ·intro y he
  refine Qos (fun r'=>r'=Y6 (Ze p)) p _ _ ⟨fun h=>by simp at h,fun _=>queues y ?_⟩
  simpa using he
 ·intro k x r hk hlt hg ih y he
  refine Qos (fun r'=>r'=Y6 (Ze p)) p _ _ ⟨fun _=>?_,fun h=>by simp at h;omega⟩
  rw [Int.toNat_natCast,hg,Qp (x:=(k:Int)+1) (by omega) (by omega),Yw]
  refine ⟨⟨by omega,hlt⟩,ih _ ?_⟩
  rw [← he,List.map_cons,List.sum_cons];congr 1;omega
theorem QMe:Qi Tryz.prog Ql6:=Qm fun x _=>QPZ x.1
end
end Go.Proofs.YtjbdljkhbglnhaaGreat.Am

