/- -/
import Derived.Test.YtephkbajoofeoaaYGP1
import Derived.Test.YtephkbajoofeoaaYGP4
namespace Go.Proofs.Ytephkbajoofeoaa.Am
open Go Go.RowKit Go.Proofs.Ytephkbajoofeoaa
set_option linter.all false
noncomputable section
variable (K:TRes→Prop)
def Yj (t:Bool):TRes:=zre (zcb t)
def Qcs:TRow:=Qj 48 [(.a [(.sl ctOp)]),(.c (.sl [TI]))] fun x=>(none,Yj (QC x.1 x.2.1))
def QcO:List TRow:=[ZH,QcH]
def Qfl:TCode :=
 (zsq [(zsq [(.reg [zmv 6 5,zmv 7 1,zle 8 7,zbi 9 .lss 6 8]),(.cond 9 .skip (.exit 0))]),(.block 1 (zsq [(.draw [zmv 12 1,zmv 13 5,zia 14 12 13 [TI],zld 15 14 1,zfa 16 2 0,zld 17 16 1,zle 18 17,zbi 19 .sub 18 (zki 1),zca 20 102 [15,(zki 1),19],zno 21 20,zmv 22 21,.grp 22 false [zmv 23 5,zbi 24 .gtr 23 (zki 0),zmv 25 24,.grp 25 true [zmv 26 1,zmv 27 5,zia 28 26 27 [TI],zld 29 28 1,zmv 30 1,zmv 31 5,zbi 32 .sub 31 (zki 1),zia 33 30 32 [TI],zld 34 33 1,zbi 35 .leq 29 34] 36 35] 37 36] []),(.cond 37 (zsq [(.reg [zmv 4 (zkb false)]),.ret]) .skip)])),(.reg [zmv 10 5,zbi 11 .add 10 (zki 1),zmv 5 11])])
def QeY:List (Nat × Md):=[(1,.one .d),(2,.b [.d]),(5,.one .d)]
def QeF:TCode :=
 (zsq [(.reg [zLd 38 2 1,zca 39 60 [38],zmv 4 39]),.ret])
def Qiw:TCode :=
 (zsq [(.reg [zop 2 (.box 66 0 1),zmv 4 (zkb false)]),(zsq [(.reg [zmv 5 (zki 0)]),(.block 0 (.loop QeY Qfl))]),QeF])
def Qet:List (ARv × Md):=[(.t 4,.one .d)]
def Qhf:Qd:=TQ 0 0 Qet K
def Qhr:Qd:=Qseq (tawp QcO 0 QeF (Qhf K)) (Qhf K)
def QiP:Qd:=Qblk 0 (Qhr K)
def JW (m:List TOp') (cuts:List Int) (i:Int):Prop:=Loop QcO 0 QeY Qfl (QiP K) ⟨[(1,(zcs [TI] cuts)),(2,(.p 0 0 0)),(5,(zci i))],[(0,(.box [(zcs ctOp m)]))],1⟩
theorem Qgp (m:List TOp') (cuts:List Int) (i:Int) (h :
 (zif (decide (i<(cuts.length:Int))) ((((0:Int)≤i∧Int.toNat i<cuts.length)∧((!(!(m_in (gtd (0:Int) cuts (Int.toNat i)) (1:Int) (w64 ((m.length:Int)-(1:Int))))))=true→((decide (i>(0:Int)))=true→(((0:Int)≤i∧Int.toNat i<cuts.length)∧((0:Int)≤w64 (i-(1:Int))∧Int.toNat (w64 (i-(1:Int)))<cuts.length)))))∧(zif ((!(m_in (gtd (0:Int) cuts (Int.toNat i)) (1:Int) (w64 ((m.length:Int)-(1:Int)))))||((decide (i>(0:Int)))&&(decide ((gtd (0:Int) cuts (Int.toNat i))≤(gtd (0:Int) cuts (Int.toNat (w64 (i-(1:Int))))))))) (K (Yj false)) (JW K m cuts (w64 (i+(1:Int)))))) (K (Yj (QE m))))):JW K m cuts i :=
 Loop.of (by kernel_rfl) h
theorem Qn4 (m:List TOp') (cuts:List Int) (h :
 (JW K m cuts 0)):Hold (tawp QcO (0+0) Qiw (TQ 0 0 Qet K) (Qh [(.a [(.c (.sl ctOp) m)]),(.c (.sl [TI]) cuts)])) :=
 Hold.of (by kernel_rfl) h
theorem Qij (m:List TOp') (cuts:List Int):TCon Try.prog 48 [(.a [(.c (.sl ctOp) m)]),(.c (.sl [TI]) cuts)] (Yj (QC m cuts)):=by
 refine Ql rfl fun hb=>tcg (n:=40) (sg:=Qcs.sg) Qm (TOk.cons Z7 (TOk.cons QjL TOk.nil)) (by kernel_rfl) (by kernel_rfl) (Qn4 _ m cuts ?_)
 have hl_m_0:(m).length≤9223372036854775807:=hb.1.1.1
 have hl_cuts:cuts.length≤9223372036854775807:=hb.2.1.1
 refine ZT cuts (fun r k=>QX (m.length-1) (Zp cuts k) r=QX (m.length-1) none cuts→JW (fun r'=>r'=Yj (QC m cuts)) m cuts k) ?_ ?_ rfl
 ·intro he
  refine Qgp (fun r'=>r'=Yj (QC m cuts)) m cuts _ ⟨fun h=>by simp at h,fun _=>?_⟩
  grind [QX,QC]
 ·intro k x r hk hlt hg ih he
  refine Qgp (fun r'=>r'=Yj (QC m cuts)) m cuts _ ⟨fun _=>?_,fun h=>by simp at h;omega⟩
  rw [Int.toNat_natCast,hg,Qz (x:=(k:Int)+1) (by omega) (by omega),Qz (x:=(m.length:Int)-1) (by omega) (by omega)]
  have ep:Zp cuts (k+1)=some x:=by simp [Zp,hg]
  rw [ep] at ih
  rcases Nat.eq_zero_or_pos k with h0 | h0
  ·subst h0
   simp only [QX,Zp,if_true] at he
   grind [QC]
  ·have e2:=JN h0 (by omega:k≤9223372036854775807)
   simp only [QX,Zp,if_neg (Nat.ne_of_gt h0)] at he
   grind [QC]
theorem Qmr:Qi Try.prog Qcs:=Qn fun x _=>Qij x.1 x.2.1
def ZW (t:Bool):TRes:=zre (zcb t)
def Qcx:TRow:=Qj 47 [(.a [(.sl ctOp)]),(.c (.sl [TI]))] fun x=>(none,ZW (QC x.1 x.2.1))
def QbM:List TRow:=[Qa6]
def Qex:TCode :=
 (zsq [(.reg [zbi 13 .lss 12 11]),(.cond 13 .skip (.exit 0)),(.block 1 (zsq [(.reg [zmv 14 12,zia 15 10 12 [TI],zld 16 15 1,zmv 5 14,zmv 6 16]),(.reg [zmv 17 6,zbi 18 .lss 17 (zki 1),zmv 19 18,.grp 19 false [zmv 20 6,zfa 21 2 0,zld 22 21 1,zle 23 22,zbi 24 .sub 23 (zki 1),zbi 25 .gtr 20 24] 26 25,zmv 27 26,.grp 27 false [zmv 28 5,zbi 29 .gtr 28 (zki 0),zmv 30 29,.grp 30 true [zmv 31 1,zmv 32 5,zbi 33 .sub 32 (zki 1),zia 34 31 33 [TI],zld 35 34 1,zmv 36 6,zbi 37 .geq 35 36] 38 37] 39 38]),(.cond 39 (zsq [(.reg [zmv 4 (zkb false)]),.ret]) .skip)])),(.reg [zbi 40 .add 12 (zki 1),zmv 12 40])])
def QdP:List (Nat × Md):=[(1,.one .d),(2,.b [.d]),(10,.one .d),(11,.one .d),(12,.one .d)]
def Qgh:TCode :=
 (zsq [(.reg [zmv 4 (zkb true)]),.ret])
def Qlz:TCode :=
 (zsq [(.reg [zop 2 (.box 66 0 1),zmv 4 (zkb false)]),(zsq [(.reg [zLd 7 2 1,zca 8 133 [7],zno 9 8]),(.cond 9 (zsq [(.reg [zmv 4 (zkb false)]),.ret]) .skip)]),(zsq [(.reg [zmv 10 1,zle 11 10,zmv 12 (zki 0)]),(.block 0 (.loop QdP Qex))]),Qgh])
def QeW:List (ARv × Md):=[(.t 4,.one .d)]
def Qeu:Qd:=TQ 0 0 QeW K
def Qni:Qd:=Qseq (tawp QbM 0 Qgh (Qeu K)) (Qeu K)
def Qi5:Qd:=Qblk 0 (Qni K)
def Qad (m:List TOp') (cuts:List Int) (x:Int):Prop:=Loop QbM 0 QdP Qex (Qi5 K) ⟨[(1,(zcs [TI] cuts)),(2,(.p 0 0 0)),(10,(zcs [TI] cuts)),(11,(zci (cuts.length:Int))),(12,(zci x))],[(0,(.box [(zcs ctOp m)]))],1⟩
theorem Qdw (m:List TOp') (cuts:List Int) (x:Int) (h :
 (zif (decide (x<(cuts.length:Int))) (((0:Int)≤x∧Int.toNat x<cuts.length)∧(((!((decide ((gtd (0:Int) cuts (Int.toNat x))<(1:Int)))||(decide ((gtd (0:Int) cuts (Int.toNat x))>(w64 ((m.length:Int)-(1:Int)))))))=true→((decide (x>(0:Int)))=true→((0:Int)≤w64 (x-(1:Int))∧Int.toNat (w64 (x-(1:Int)))<cuts.length)))∧(zif (((decide ((gtd (0:Int) cuts (Int.toNat x))<(1:Int)))||(decide ((gtd (0:Int) cuts (Int.toNat x))>(w64 ((m.length:Int)-(1:Int))))))||((decide (x>(0:Int)))&&(decide ((gtd (0:Int) cuts (Int.toNat (w64 (x-(1:Int)))))≥(gtd (0:Int) cuts (Int.toNat x)))))) (K (ZW false)) (Qad K m cuts (w64 (x+(1:Int))))))) (K (ZW true)))):Qad K m cuts x :=
 Loop.of (by kernel_rfl) h
theorem QnT (m:List TOp') (cuts:List Int) (h :
 (zif (!(QE m)) (K (ZW false)) (Qad K m cuts 0))):Hold (tawp QbM (0+0) Qlz (TQ 0 0 QeW K) (Qh [(.a [(.c (.sl ctOp) m)]),(.c (.sl [TI]) cuts)])) :=
 Hold.of (by kernel_rfl) h
theorem QhN (m:List TOp') (cuts:List Int):TCon Try.prog 47 [(.a [(.c (.sl ctOp) m)]),(.c (.sl [TI]) cuts)] (ZW (QC m cuts)):=by
 refine Ql rfl fun hb=>tcg (n:=41) (sg:=Qcx.sg) Qm (TOk.cons QjC TOk.nil) (by kernel_rfl) (by kernel_rfl) (QnT _ m cuts ?_)
 have hl_m_0:(m).length≤9223372036854775807:=hb.1.1.1
 have hl_cuts:cuts.length≤9223372036854775807:=hb.2.1.1
 refine ⟨fun h=>R_eq (by grind [QC]),fun h=>?_⟩
 refine ZT cuts (fun r k=>QX (m.length-1) (Zp cuts k) r=QX (m.length-1) none cuts→Qad (fun r'=>r'=ZW (QC m cuts)) m cuts k) ?_ ?_ rfl
 ·intro he
  refine Qdw (fun r'=>r'=ZW (QC m cuts)) m cuts _ ⟨fun h=>by simp at h,fun _=>?_⟩
  grind [QX,QC]
 ·intro k x r hk hlt hg ih he
  refine Qdw (fun r'=>r'=ZW (QC m cuts)) m cuts _ ⟨fun _=>?_,fun h=>by simp at h;omega⟩
  rw [Int.toNat_natCast,hg,Qz (x:=(k:Int)+1) (by omega) (by omega),Qz (x:=(m.length:Int)-1) (by omega) (by omega)]
  have ep:Zp cuts (k+1)=some x:=by simp [Zp,hg]
  rw [ep] at ih
  rcases Nat.eq_zero_or_pos k with h0 | h0
  ·subst h0
   simp only [QX,Zp,if_true,m_in] at he
   grind [QC]
  ·have e2:=JN h0 (by omega:k≤9223372036854775807)
   simp only [QX,Zp,if_neg (Nat.ne_of_gt h0),m_in] at he
   grind [QC]
theorem Qlw:Qi Try.prog Qcx:=Qn fun x _=>QhN x.1 x.2.1
def JL (t:Int):TRes:=zre (zci t)
def QaI:TRow:=Qj 148 [(.a Qq)] fun x=>(none,JL (QH x.1))
def Qh5:List TRow:=[Qcs]
def QmQ:TCode :=
 (zsq [(.reg [zop 1 (.box 103 0 6),zmv 2 (zki 0)]),(zsq [(.reg [zfa 3 1 0,zLd 4 3 1,zfa 5 1 1,zld 6 5 1,zca 7 48 [4,6],zno 8 7]),(.cond 8 (zsq [(.reg [zmv 2 (zki 0)]),.ret]) .skip)]),(.reg [zfa 9 1 1,zld 10 9 1,zle 11 10,zbi 12 .add 11 (zki 1),zmv 2 12]),.ret])
def Qmy:List (ARv × Md):=[(.t 2,.one .d)]
theorem Qmz (c:Qg) (h :
 (zif (!(QC c.1 c.2.1)) (K (JL (0:Int))) (K (JL (w64 (((c.2.1).length:Int)+(1:Int))))))):Hold (tawp Qh5 (0+0) QmQ (TQ 0 0 Qmy K) (Qh [(.a (Tup.cells Qq c))])) :=
 Hold.of (by kernel_rfl) h
theorem Qke (c:Qg):TCon Try.prog 148 [(.a (Tup.cells Qq c))] (JL (QH c)):=by
 refine Ql rfl fun hb=>tcg (n:=13) (sg:=QaI.sg) Qm (TOk.cons Qmr TOk.nil) (by kernel_rfl) (by kernel_rfl) (Qmz _ c ?_)
 have hl_c_0:(c.1).length≤9223372036854775807:=hb.1.1.1
 have hl_c_1:(c.2.1).length≤9223372036854775807:=hb.1.2.1.1
 have hl_c_3:(c.2.2.2.1).length≤9223372036854775807:=hb.1.2.2.2.1.1
 have hl_c_4:(c.2.2.2.2.1).length≤9223372036854775807:=hb.1.2.2.2.2.1.1
 have hl_c_5:(c.2.2.2.2.2).length≤9223372036854775807:=hb.1.2.2.2.2.2.1.1
 grind [QH]
theorem QhB:Qi Try.prog QaI:=Qn fun x _=>Qke x.1
def J6 (t:Int):TRes:=zre (zci t)
def Qa8:TRow:=Qj 141 [(.a Qq)] fun x=>(none,J6 (QH x.1))
def Qmt:List TRow:=[Qcx]
def QnR:TCode :=
 (zsq [(.reg [zop 1 (.box 103 0 6),zmv 2 (zki 0)]),(zsq [(.reg [zfa 3 1 0,zLd 4 3 1,zfa 5 1 1,zld 6 5 1,zca 7 47 [4,6],zno 8 7]),(.cond 8 (zsq [(.reg [zmv 2 (zki 0)]),.ret]) .skip)]),(.reg [zfa 9 1 1,zld 10 9 1,zle 11 10,zbi 12 .add 11 (zki 1),zmv 2 12]),.ret])
def Qm2:List (ARv × Md):=[(.t 2,.one .d)]
theorem Qhq (c:Qg) (h :
 (zif (!(QC c.1 c.2.1)) (K (J6 (0:Int))) (K (J6 (w64 (((c.2.1).length:Int)+(1:Int))))))):Hold (tawp Qmt (0+0) QnR (TQ 0 0 Qm2 K) (Qh [(.a (Tup.cells Qq c))])) :=
 Hold.of (by kernel_rfl) h
theorem QhA (c:Qg):TCon Try.prog 141 [(.a (Tup.cells Qq c))] (J6 (QH c)):=by
 refine Ql rfl fun hb=>tcg (n:=13) (sg:=Qa8.sg) Qm (TOk.cons Qlw TOk.nil) (by kernel_rfl) (by kernel_rfl) (Qhq _ c ?_)
 have hl_c_0:(c.1).length≤9223372036854775807:=hb.1.1.1
 have hl_c_1:(c.2.1).length≤9223372036854775807:=hb.1.2.1.1
 have hl_c_3:(c.2.2.2.1).length≤9223372036854775807:=hb.1.2.2.2.1.1
 have hl_c_4:(c.2.2.2.2.1).length≤9223372036854775807:=hb.1.2.2.2.2.1.1
 have hl_c_5:(c.2.2.2.2.2).length≤9223372036854775807:=hb.1.2.2.2.2.2.1.1
 grind [QH]
theorem QiC:Qi Try.prog Qa8:=Qn fun x _=>QhA x.1
end
end Go.Proofs.Ytephkbajoofeoaa.Am

