/- -/
import Derived.Test.YtjbdljkhbglnhaaGreatZAP3
import Derived.Test.YtjbdljkhbglnhaaGreatZAP2
namespace Go.Proofs.YtjbdljkhbglnhaaGreat.Am
open Go Go.RowKit Go.Proofs.YtjbdljkhbglnhaaGreat
set_option linter.all false
noncomputable section
variable (K:TRes→Prop)
def QdG (t:Int):TRes:=zre (zci t)
def Qla:TRow:=Qj 63 [(.a QQ)] fun x=>(none,QdG (QaO x.1))
def Qjh:List TRow:=[]
def QyB:TCode :=
 (zsq [(.reg [zbi 10 .lss 9 8]),(.cond 10 .skip (.exit 0)),(.block 1 (zsq [(.reg [zia 11 7 9 Qs,zLd 12 11 14,zop 5 (.new 63 (z0s Qs)),zst 5 12 14]),(.reg [zfa 13 5 0,zld 14 13 1,zfa 15 5 1,zld 16 15 1,zle 17 16,zbi 18 .geq 14 17]),(.cond 18 (.reg [zmv 19 3,zbi 20 .add 19 (zki 1),zmv 3 20]) .skip)])),(.reg [zbi 21 .add 9 (zki 1),zmv 9 21])])
def Qsf:List (Nat × Md):=zdl [3,7,8,9]
def QoI:TCode :=
 (zsq [(.reg [zmv 22 3,zmv 2 22]),.ret])
def QHg:TCode :=
 (zsq [(.reg [zop 1 (.box 37 0 4),zmv 2 (zki 0)]),(.reg [zmv 3 (zki 0)]),(zsq [(.reg [zfa 6 1 1,zld 7 6 1,zle 8 7,zmv 9 (zki 0)]),(.block 0 (.loop Qsf QyB))]),QoI])
def Qvm:List (ARv × Md):=[(.t 2,.one .d)]
def Qvp:Qb:=TQ 0 0 Qvm K
def QKI:Qb:=Qseq (tawp Qjh 0 QoI (Qvp K)) (Qvp K)
def QQV:Qb:=Qblk 0 (QKI K)
def Qe5 (p:Qd) (n:Int) (x:Int):Prop:=Loop Qjh 0 Qsf QyB (QQV K) ⟨[(3,(zci n)),(7,(zcs Qs p.2.1)),(8,(zci ((p.2.1).length:Int))),(9,(zci x))],[],0⟩
theorem QsT (p:Qd) (n:Int) (x:Int) (h :
 (zif (decide (x<((p.2.1).length:Int))) (((0:Int)≤x∧Int.toNat x<(p.2.1).length)∧(zif (decide (((gtd QL p.2.1 (Int.toNat x)).1)≥(((gtd QL p.2.1 (Int.toNat x)).2.1).length:Int))) (Qe5 K p (w64 (n+(1:Int))) (w64 (x+(1:Int)))) (Qe5 K p n (w64 (x+(1:Int)))))) (K (QdG n)))):Qe5 K p n x :=
 Loop.of (by kernel_rfl) h
theorem QJi (p:Qd) (h :
 (Qe5 K p 0 0)):Hold (tawp Qjh (0+0) QHg (TQ 0 0 Qvm K) (Qf [(.a (Tup.cells QQ p))])) :=
 Hold.of (by kernel_rfl) h
theorem QPQ (p:Qd):TCon Tryz.prog 63 [(.a (Tup.cells QQ p))] (QdG (QaO p)):=by
 refine Qq rfl fun hb=>tcg (n:=23) (sg:=Qla.sg) Ql TOk.nil (by kernel_rfl) (by kernel_rfl) (QJi _ p ?_)
 have hl_p_0:(p.1).length≤9223372036854775807:=hb.1.1.1
 have hl_p_1:(p.2.1).length≤9223372036854775807:=hb.1.2.1.1
 have hl_p_2:(p.2.2.1).length≤9223372036854775807:=hb.1.2.2.1.1
 have hl_p_3:(p.2.2.2).length≤9223372036854775807:=hb.1.2.2.2.1.1
 refine Zj p.2.1 (fun r k=>∀ y:Int,w64 (y+(r.map fun s=>if QaP s then (1:Int) else 0).sum)=(QaO p)→Qe5 (fun r'=>r'=QdG (QaO p)) p (w64 y) k) ?_ ?_ 0 (by simp [QaO])
 ·intro y he
  refine QsT (fun r'=>r'=QdG (QaO p)) p _ _ ⟨fun h=>by simp at h,fun _=>R_eq ?_⟩
  simpa using he
 ·intro k x r hk hlt hg ih y he
  refine QsT (fun r'=>r'=QdG (QaO p)) p _ _ ⟨fun _=>?_,fun h=>by simp at h;omega⟩
  rw [Int.toNat_natCast,hg,Qp (x:=(k:Int)+1) (by omega) (by omega),Yy]
  rw [List.map_cons,List.sum_cons] at he
  refine ⟨⟨by omega,hlt⟩,fun h=>ih _ ?_,fun h=>ih _ ?_⟩
  ·have:QaP x=true:=by simpa [QaP] using h
   rw [this] at he
   rw [← he,Int.add_assoc];rfl
  ·have:QaP x=false:=by simpa [QaP] using h
   rw [this] at he
   simpa using he
theorem QKb:Qi Tryz.prog Qla:=Qm fun x _=>QPQ x.1
def Jx (t:Int):TRes:=zre (zci t)
def QjJ:TRow:=Qj 62 [(.a QQ)] fun x=>(none,Jx (Ze x.1))
def Qcz:List TRow:=[Qmb,Qoc]
def Qq1:TCode :=
 (zsq [(zsq [(.reg [zmv 7 4,zfa 8 1 1,zld 9 8 1,zle 10 9,zbi 11 .lss 7 10]),(.cond 11 .skip (.exit 0))]),(.block 1 (.reg [zmv 14 3,zfa 15 1 1,zld 16 15 1,zmv 17 4,zia 18 16 17 Qs,zLd 19 18 14,zca 20 126 [19],zbi 21 .add 14 20,zmv 3 21])),(.reg [zmv 12 4,zbi 13 .add 12 (zki 1),zmv 4 13])])
def Qv4:List (Nat × Md):=[(1,.b (zds 4)),(3,.one .d),(4,.one .d)]
def QuR:TCode :=
 (zsq [(zsq [(.reg [zmv 22 5,zfa 23 1 2,zld 24 23 1,zle 25 24,zbi 26 .lss 22 25]),(.cond 26 .skip (.exit 2))]),(.block 3 (.reg [zmv 29 3,zfa 30 1 2,zld 31 30 1,zmv 32 5,zia 33 31 32 Qv,zLd 34 33 2,zca 35 138 [34],zbi 36 .add 29 35,zmv 3 36])),(.reg [zmv 27 5,zbi 28 .add 27 (zki 1),zmv 5 28])])
def Qoz:List (Nat × Md):=[(1,.b (zds 4)),(3,.one .d),(5,.one .d)]
def Qp3:TCode :=
 (zsq [(zsq [(.reg [zmv 37 6,zfa 38 1 3,zld 39 38 1,zle 40 39,zbi 41 .lss 37 40]),(.cond 41 .skip (.exit 4))]),(.block 5 (.reg [zmv 44 3,zfa 45 1 3,zld 46 45 1,zmv 47 6,zia 48 46 47 Qv,zLd 49 48 2,zca 50 138 [49],zbi 51 .add 44 50,zmv 3 51])),(.reg [zmv 42 6,zbi 43 .add 42 (zki 1),zmv 6 43])])
def Qta:List (Nat × Md):=[(1,.b (zds 4)),(3,.one .d),(6,.one .d)]
def QpQ:TCode :=
 (zsq [(.reg [zmv 52 3,zmv 2 52]),.ret])
def Qw1:TCode :=
 (zsq [(zsq [(.reg [zmv 6 (zki 0)]),(.block 4 (.loop Qta Qp3))]),QpQ])
def Qqf:TCode :=
 (zsq [(zsq [(.reg [zmv 5 (zki 0)]),(.block 2 (.loop Qoz QuR))]),Qw1])
def QFd:TCode :=
 (zsq [(.reg [zop 1 (.box 37 0 4),zmv 2 (zki 0)]),(.reg [zmv 3 (zki 0)]),(zsq [(.reg [zmv 4 (zki 0)]),(.block 0 (.loop Qv4 Qq1))]),Qqf])
def Qr1:List (ARv × Md):=[(.t 2,.one .d)]
def Qdc:Qb:=TQ 0 0 Qr1 K
def QHs:Qb:=Qseq (tawp Qcz 0 QpQ (Qdc K)) (Qdc K)
def QIk:Qb:=Qblk 4 (QHs K)
def Qei (p:Qd) (n2:Int) (i1:Int):Prop:=Loop Qcz 0 Qta Qp3 (QIk K) ⟨[(1,(.p 0 0 0)),(3,(zci n2)),(6,(zci i1))],[(0,(.box (Tup.cells QQ p)))],1⟩
def QFM:Qb:=Qseq (tawp Qcz 0 Qw1 (Qdc K)) (Qdc K)
def QJz:Qb:=Qblk 2 (QFM K)
def QeS (p:Qd) (n1:Int) (i:Int):Prop:=Loop Qcz 0 Qoz QuR (QJz K) ⟨[(1,(.p 0 0 0)),(3,(zci n1)),(5,(zci i))],[(0,(.box (Tup.cells QQ p)))],1⟩
def QCM:Qb:=Qseq (tawp Qcz 0 Qqf (Qdc K)) (Qdc K)
def QJH:Qb:=Qblk 0 (QCM K)
def Qi7 (p:Qd) (n:Int) (s:Int):Prop:=Loop Qcz 0 Qv4 Qq1 (QJH K) ⟨[(1,(.p 0 0 0)),(3,(zci n)),(4,(zci s))],[(0,(.box (Tup.cells QQ p)))],1⟩
theorem QrJ (p:Qd) (n2:Int) (i1:Int) (h :
 (zif (decide (i1<((p.2.2.2).length:Int))) (((0:Int)≤i1∧Int.toNat i1<(p.2.2.2).length)∧(Qei K p (w64 (n2+(Zn (gtd QW p.2.2.2 (Int.toNat i1))))) (w64 (i1+(1:Int))))) (K (Jx n2)))):Qei K p n2 i1 :=
 Loop.of (by kernel_rfl) h
theorem Qov (p:Qd) (n1:Int) (i:Int) (h :
 (zif (decide (i<((p.2.2.1).length:Int))) (((0:Int)≤i∧Int.toNat i<(p.2.2.1).length)∧(QeS K p (w64 (n1+(Zn (gtd QW p.2.2.1 (Int.toNat i))))) (w64 (i+(1:Int))))) (Qei K p n1 0))):QeS K p n1 i :=
 Loop.of (by kernel_rfl) h
theorem Qwu (p:Qd) (n:Int) (s:Int) (h :
 (zif (decide (s<((p.2.1).length:Int))) (((0:Int)≤s∧Int.toNat s<(p.2.1).length)∧(Qi7 K p (w64 (n+(ZD (gtd QL p.2.1 (Int.toNat s))))) (w64 (s+(1:Int))))) (QeS K p n 0))):Qi7 K p n s :=
 Loop.of (by kernel_rfl) h
theorem QHU (p:Qd) (h :
 (Qi7 K p 0 0)):Hold (tawp Qcz (0+0) QFd (TQ 0 0 Qr1 K) (Qf [(.a (Tup.cells QQ p))])) :=
 Hold.of (by kernel_rfl) h
theorem QJu (p:Qd):TCon Tryz.prog 62 [(.a (Tup.cells QQ p))] (Jx (Ze p)):=by
 refine Qq rfl fun hb=>tcg (n:=53) (sg:=QjJ.sg) Ql (TOk.cons QP7 (TOk.cons QDW TOk.nil)) (by kernel_rfl) (by kernel_rfl) (QHU _ p ?_)
 have hl_p_0:(p.1).length≤9223372036854775807:=hb.1.1.1
 have hl_p_1:(p.2.1).length≤9223372036854775807:=hb.1.2.1.1
 have hl_p_2:(p.2.2.1).length≤9223372036854775807:=hb.1.2.2.1.1
 have hl_p_3:(p.2.2.2).length≤9223372036854775807:=hb.1.2.2.2.1.1
 have backs:∀ y:Int,w64 (y+(p.2.2.2.map Zn).sum)=(Ze p)→Qei (fun r'=>r'=Jx (Ze p)) p (w64 y) ((0:Nat):Int):=by
  refine Zj p.2.2.2 (fun r k=>∀ y:Int,w64 (y+(r.map Zn).sum)=(Ze p)→Qei (fun r'=>r'=Jx (Ze p)) p (w64 y) k) ?_ ?_
  ·intro y he
   refine QrJ (fun r'=>r'=Jx (Ze p)) p _ _ ⟨fun h=>by simp at h,fun _=>R_eq ?_⟩
   simpa using he
  ·intro k x r hk hlt hg ih y he
   refine QrJ (fun r'=>r'=Jx (Ze p)) p _ _ ⟨fun _=>?_,fun h=>by simp at h;omega⟩
   rw [Int.toNat_natCast,hg,Qp (x:=(k:Int)+1) (by omega) (by omega),Yy]
   refine ⟨⟨by omega,hlt⟩,ih _ ?_⟩
   rw [← he,List.map_cons,List.sum_cons,Int.add_assoc]
 have acts:∀ y:Int,w64 (y+(p.2.2.1.map Zn).sum+(p.2.2.2.map Zn).sum)=(Ze p)→QeS (fun r'=>r'=Jx (Ze p)) p (w64 y) ((0:Nat):Int):=by
  refine Zj p.2.2.1 (fun r k=>∀ y:Int,w64 (y+(r.map Zn).sum+(p.2.2.2.map Zn).sum)=(Ze p)→QeS (fun r'=>r'=Jx (Ze p)) p (w64 y) k) ?_ ?_
  ·intro y he
   refine Qov (fun r'=>r'=Jx (Ze p)) p _ _ ⟨fun h=>by simp at h,fun _=>backs y ?_⟩
   simpa using he
  ·intro k x r hk hlt hg ih y he
   refine Qov (fun r'=>r'=Jx (Ze p)) p _ _ ⟨fun _=>?_,fun h=>by simp at h;omega⟩
   rw [Int.toNat_natCast,hg,Qp (x:=(k:Int)+1) (by omega) (by omega),Yy]
   refine ⟨⟨by omega,hlt⟩,ih _ ?_⟩
   rw [← he,List.map_cons,List.sum_cons];congr 1;omega
 refine Zj p.2.1 (fun r k=>∀ y:Int,w64 (y+(r.map ZD).sum+(p.2.2.1.map Zn).sum+(p.2.2.2.map Zn).sum)=(Ze p)→Qi7 (fun r'=>r'=Jx (Ze p)) p (w64 y) k) ?_ ?_ 0 (by simp [Ze])
 ·intro y he
  refine Qwu (fun r'=>r'=Jx (Ze p)) p _ _ ⟨fun h=>by simp at h,fun _=>acts y ?_⟩
  simpa using he
 ·intro k x r hk hlt hg ih y he
  refine Qwu (fun r'=>r'=Jx (Ze p)) p _ _ ⟨fun _=>?_,fun h=>by simp at h;omega⟩
  rw [Int.toNat_natCast,hg,Qp (x:=(k:Int)+1) (by omega) (by omega),Yy]
  refine ⟨⟨by omega,hlt⟩,ih _ ?_⟩
  rw [← he,List.map_cons,List.sum_cons];congr 1;omega
theorem QLm:Qi Tryz.prog QjJ:=Qm fun x _=>QJu x.1
def Y7 (t:Int):TRes:=zre (zci t)
def QkD:TRow:=Qj 61 [(.a QQ)] fun x=>(none,Y7 (Ze x.1))
def QbL:List TRow:=[QlF,Qli]
def QvQ:TCode :=
 (zsq [(.reg [zbi 14 .lss 13 12]),(.cond 14 .skip (.exit 0)),(.block 1 (zsq [(.reg [zia 15 11 13 Qs,zLd 16 15 14,zop 5 (.new 63 (z0s Qs)),zst 5 16 14]),(.reg [zmv 17 3,zLd 18 5 14,zca 19 45 [18],zbi 20 .add 17 19,zmv 3 20])])),(.reg [zbi 21 .add 13 (zki 1),zmv 13 21])])
def Qqp:List (Nat × Md):=[(1,.b (zds 4)),(3,.one .d),(11,.one .d),(12,.one .d),(13,.one .d)]
def QwS:TCode :=
 (zsq [(.reg [zbi 35 .lss 34 33]),(.cond 35 .skip (.exit 4)),(.block 5 (zsq [(.reg [zia 36 32 34 Qv,zLd 37 36 2,zop 9 (.new 97 (z0s Qv)),zst 9 37 2]),(.reg [zmv 38 3,zLd 39 9 2,zca 40 137 [39],zbi 41 .add 38 40,zmv 3 41])])),(.reg [zbi 42 .add 34 (zki 1),zmv 34 42])])
def Qyi:List (Nat × Md):=zdl [3,26,27,28,32,33,34]
def Qrt:TCode :=
 (.reg [zbi 43 .add 28 (zki 1),zmv 28 43])
def Qku:TCode :=
 (zsq [(.reg [zbi 29 .lss 28 27]),(.cond 29 .skip (.exit 2)),(.block 3 (zsq [(.reg [zia 30 26 28 [(.sl Qv)],zld 31 30 1,zmv 7 31]),(.reg [zmv 32 7,zle 33 32,zmv 34 (zki 0)]),(.block 4 (.loop Qyi QwS))])),Qrt])
def QfX:List (Nat × Md):=zdl [3,26,27,28]
def Qpx:TCode :=
 (zsq [(.reg [zmv 44 3,zmv 2 44]),.ret])
def QxM:TCode :=
 (zsq [(zsq [(.reg [zfa 22 1 2,zld 23 22 1,zfa 24 1 3,zld 25 24 1,zop 26 (.bsl 35 [(.sl Qv)] [23,25]),zle 27 26,zmv 28 (zki 0)]),(.block 2 (.loop QfX Qku))]),Qpx])
def QJq:TCode :=
 (zsq [(.reg [zop 1 (.box 37 0 4),zmv 2 (zki 0)]),(.reg [zmv 3 (zki 0)]),(zsq [(.reg [zfa 10 1 1,zld 11 10 1,zle 12 11,zmv 13 (zki 0)]),(.block 0 (.loop Qqp QvQ))]),QxM])
def QtE:List (ARv × Md):=[(.t 2,.one .d)]
def Qio:Qb:=TQ 0 0 QtE K
def QPf:Qb:=Qseq (tawp QbL 0 Qpx (Qio K)) (Qio K)
def QlJ:Qb:=Qblk 2 (QPf K)
def QsC:Qb:=Qseq (fun s'=>Loop QbL 0 QfX Qku (QlJ K) (gc 0 QfX s')) (QlJ K)
def QMV:Qb:=Qseq (tawp QbL 0 Qrt (QsC K)) (QsC K)
def QCh:Qb:=Qblk 3 (QMV K)
def QKK:Qb:=Qblk 4 (QCh K)
def Qe7 (p:Qd) (n1:Int) (x1:Int) (x2:Int):Prop:=Loop QbL 0 Qyi QwS (QKK K) ⟨[(3,(zci n1)),(26,(zcs [(.sl Qv)] ([p.2.2.1,p.2.2.2]))),(27,(zci ((2:Nat):Int))),(28,(zci x2)),(32,(zcs Qv (gtd ([]:List Qe) ([p.2.2.1,p.2.2.2]) (Int.toNat x2)))),(33,(zci ((gtd ([]:List Qe) ([p.2.2.1,p.2.2.2]) (Int.toNat x2)).length:Int))),(34,(zci x1))],[],0⟩
def Qda (p:Qd) (n2:Int) (x2:Int):Prop:=Loop QbL 0 QfX Qku (QlJ K) ⟨[(3,(zci n2)),(26,(zcs [(.sl Qv)] ([p.2.2.1,p.2.2.2]))),(27,(zci ((2:Nat):Int))),(28,(zci x2))],[],0⟩
def QGW:Qb:=Qseq (tawp QbL 0 QxM (Qio K)) (Qio K)
def QNb:Qb:=Qblk 0 (QGW K)
def Qi8 (p:Qd) (n:Int) (x:Int):Prop:=Loop QbL 0 Qqp QvQ (QNb K) ⟨[(1,(.p 0 0 0)),(3,(zci n)),(11,(zcs Qs p.2.1)),(12,(zci ((p.2.1).length:Int))),(13,(zci x))],[(0,(.box (Tup.cells QQ p)))],1⟩
theorem QxL (p:Qd) (n1:Int) (x1:Int) (x2:Int) (h :
 (zif (decide (x1<((gtd ([]:List Qe) ([p.2.2.1,p.2.2.2]) (Int.toNat x2)).length:Int))) (((0:Int)≤x1∧Int.toNat x1<(gtd ([]:List Qe) ([p.2.2.1,p.2.2.2]) (Int.toNat x2)).length)∧(Qe7 K p (w64 (n1+(Zn (gtd QW (gtd ([]:List Qe) ([p.2.2.1,p.2.2.2]) (Int.toNat x2)) (Int.toNat x1))))) (w64 (x1+(1:Int))) x2)) (Qda K p n1 (w64 (x2+(1:Int)))))):Qe7 K p n1 x1 x2 :=
 Loop.of (by kernel_rfl) h
theorem Qoa (p:Qd) (n2:Int) (x2:Int) (h :
 (zif (decide (x2<((2:Nat):Int))) (((0:Int)≤x2∧Int.toNat x2<2)∧(Qe7 K p n2 0 x2)) (K (Y7 n2)))):Qda K p n2 x2 :=
 Loop.of (by kernel_rfl) h
theorem Qo9 (p:Qd) (n:Int) (x:Int) (h :
 (zif (decide (x<((p.2.1).length:Int))) (((0:Int)≤x∧Int.toNat x<(p.2.1).length)∧(Qi8 K p (w64 (n+(ZD (gtd QL p.2.1 (Int.toNat x))))) (w64 (x+(1:Int))))) (Qda K p n 0))):Qi8 K p n x :=
 Loop.of (by kernel_rfl) h
theorem QFJ (p:Qd) (h :
 (Qi8 K p 0 0)):Hold (tawp QbL (0+0) QJq (TQ 0 0 QtE K) (Qf [(.a (Tup.cells QQ p))])) :=
 Hold.of (by kernel_rfl) h
theorem QKz (p:Qd):TCon Tryz.prog 61 [(.a (Tup.cells QQ p))] (Y7 (Ze p)):=by
 refine Qq rfl fun hb=>tcg (n:=45) (sg:=QkD.sg) Ql (TOk.cons QP6 (TOk.cons QE8 TOk.nil)) (by kernel_rfl) (by kernel_rfl) (QFJ _ p ?_)
 have hl_p_0:(p.1).length≤9223372036854775807:=hb.1.1.1
 have hl_p_1:(p.2.1).length≤9223372036854775807:=hb.1.2.1.1
 have hl_p_2:(p.2.2.1).length≤9223372036854775807:=hb.1.2.2.1.1
 have hl_p_3:(p.2.2.2).length≤9223372036854775807:=hb.1.2.2.2.1.1
 have two:∀ y:Int,w64 y=(Ze p)→Qda (fun r'=>r'=Y7 (Ze p)) p (w64 y) 2:=fun y h=>Qoa (fun r'=>r'=Y7 (Ze p)) p _ _ ⟨fun h=>by simp at h,fun _=>R_eq h⟩
 have loop:∀ (l:List Qe) (j:Int) (nxt:Int),gtd ([]:List Qe) ([p.2.2.1,p.2.2.2]:List (List Qe)) (Int.toNat j)=l→l.length≤9223372036854775807→w64 (j+1)=nxt→∀ rest:Int,(∀ y:Int,w64 (y+rest)=(Ze p)→Qda (fun r'=>r'=Y7 (Ze p)) p (w64 y) nxt) →
   ∀ y:Int,w64 (y+(l.map Zn).sum+rest)=(Ze p)→Qe7 (fun r'=>r'=Y7 (Ze p)) p (w64 y) ((0:Nat):Int) j:=by
  intro l j nxt hl hb2 hn rest h1
  refine Zj l (fun r k=>∀ y:Int,w64 (y+(r.map Zn).sum+rest)=(Ze p)→Qe7 (fun r'=>r'=Y7 (Ze p)) p (w64 y) k j) ?_ ?_
  ·intro y he
   refine QxL (fun r'=>r'=Y7 (Ze p)) p _ _ _ ?_
   rw [hl,hn]
   exact ⟨fun h=>by simp at h,fun _=>h1 y (by simpa using he)⟩
  ·intro k x r hk hlt hg ih y he
   refine QxL (fun r'=>r'=Y7 (Ze p)) p _ _ _ ?_
   rw [hl,hn]
   refine ⟨fun _=>?_,fun h=>by simp at h;omega⟩
   rw [Int.toNat_natCast,hg,Qp (x:=(k:Int)+1) (by omega) (by omega),Yy]
   refine ⟨⟨by omega,hlt⟩,ih _ ?_⟩
   rw [← he,List.map_cons,List.sum_cons];congr 1;omega
 have queues:∀ y:Int,w64 (y+(p.2.2.1.map Zn).sum+(p.2.2.2.map Zn).sum)=(Ze p)→Qda (fun r'=>r'=Y7 (Ze p)) p (w64 y) 0:=by
  intro y he
  refine Qoa (fun r'=>r'=Y7 (Ze p)) p _ _ ⟨fun _=>⟨⟨by omega,by simp⟩,?_⟩,fun h=>by simp at h⟩
  refine loop p.2.2.1 0 1 rfl hl_p_2 rfl (p.2.2.2.map Zn).sum (fun y he=>?_) y he
  refine Qoa (fun r'=>r'=Y7 (Ze p)) p _ _ ⟨fun _=>⟨⟨by omega,by simp⟩,?_⟩,fun h=>by simp at h⟩
  exact loop p.2.2.2 1 2 rfl hl_p_3 rfl 0 (fun y he=>two y (by simpa using he)) y (by simpa using he)
 refine Zj p.2.1 (fun r k=>∀ y:Int,w64 (y+(r.map ZD).sum+(p.2.2.1.map Zn).sum+(p.2.2.2.map Zn).sum)=(Ze p)→Qi8 (fun r'=>r'=Y7 (Ze p)) p (w64 y) k) ?_ ?_ 0 (by simp [Ze])
 ·intro y he
  refine Qo9 (fun r'=>r'=Y7 (Ze p)) p _ _ ⟨fun h=>by simp at h,fun _=>queues y ?_⟩
  simpa using he
 ·intro k x r hk hlt hg ih y he
  refine Qo9 (fun r'=>r'=Y7 (Ze p)) p _ _ ⟨fun _=>?_,fun h=>by simp at h;omega⟩
  rw [Int.toNat_natCast,hg,Qp (x:=(k:Int)+1) (by omega) (by omega),Yy]
  refine ⟨⟨by omega,hlt⟩,ih _ ?_⟩
  rw [← he,List.map_cons,List.sum_cons];congr 1;omega
theorem QN8:Qi Tryz.prog QkD:=Qm fun x _=>QKz x.1
end
end Go.Proofs.YtjbdljkhbglnhaaGreat.Am

