/- -/
import Derived.Test.YtdplaepmjogjjaaGreatVDPJ
import Derived.Test.YtdplaepmjogjjaaGreatVDP4
import Derived.Test.YtdplaepmjogjjaaGreatVDPF
import Derived.Test.YtdplaepmjogjjaaGreatVDP8
import Derived.Test.YtdplaepmjogjjaaGreatVDP1
import Derived.Test.YtdplaepmjogjjaaGreatVDP3
import Derived.Test.YtdplaepmjogjjaaGreatVDPK
import Derived.Test.YtdplaepmjogjjaaGreatVDPI
import Derived.Test.YtdplaepmjogjjaaGreatVDPG
import Derived.Test.YtdplaepmjogjjaaGreatVDGD
namespace Go.Proofs.YtdplaepmjogjjaaGreat.Am
open Go Go.RowKit Go.Proofs.YtdplaepmjogjjaaGreat
set_option linter.all false
set_option maxHeartbeats 2000000
noncomputable section
variable (K:TRes→Prop)
def JK (t:Qc):TRes:=⟨(.a [(zci t.1),(.r Qt 0 0 ((t.2.1).length)),(.r ctOp 1 0 ((t.2.2.1).length)),(zcb t.2.2.2.1),(zcb t.2.2.2.2.1),(.r Ql 2 0 ((t.2.2.2.2.2.1).length)),(.r [(.sl [TI])] 3 0 ((t.2.2.2.2.2.2.1).length)),(.r [TI] 4 0 ((t.2.2.2.2.2.2.2.1).length)),(.r [TI] 5 0 ((t.2.2.2.2.2.2.2.2.1).length)),(.r [TI] 6 0 ((t.2.2.2.2.2.2.2.2.2.1).length)),(.r [TI] 7 0 ((t.2.2.2.2.2.2.2.2.2.2.1).length)),(.r [(.sl [TI])] 8 0 ((t.2.2.2.2.2.2.2.2.2.2.2.1).length)),(zci t.2.2.2.2.2.2.2.2.2.2.2.2.1),(zcb t.2.2.2.2.2.2.2.2.2.2.2.2.2)]),[(.sl 175 Qt (.dp 0 true []) t.2.1),(.sl 134 ctOp (.dp 0 true []) t.2.2.1),(.sl 108 Ql (.dp 0 true []) t.2.2.2.2.2.1),(.sl 106 [(.sl [TI])] (.dp 0 true []) t.2.2.2.2.2.2.1),(.sl 3 [TI] (.dp 0 true []) t.2.2.2.2.2.2.2.1),(.sl 3 [TI] (.dp 0 true []) t.2.2.2.2.2.2.2.2.1),(.sl 3 [TI] (.dp 0 true []) t.2.2.2.2.2.2.2.2.2.1),(.sl 3 [TI] (.dp 0 true []) t.2.2.2.2.2.2.2.2.2.2.1),(.sl 106 [(.sl [TI])] (.dp 0 true []) t.2.2.2.2.2.2.2.2.2.2.2.1)],[],false,[]⟩
def QjT:TRow:=Qg 70 [(.a Qs)] fun x=>(some (QH (α:=Qc) x.1),JK (id (α:=Qc) x.1))
def QeI:TTab:=⟨[QiV,QfF,QbW,QkQ],true⟩
def QrG:TCode :=
 (zsq [(.reg [zbi 24 .lss 23 22]),(.cond 24 .skip (.exit 0)),(.block 1 (zsq [(.reg [zia 25 21 23 Ql,zLd 26 25 2,zop 5 (.new 108 (z0s Ql)),zst 5 26 2]),(.draw [zfa 27 3 5,zld 28 27 1,zfa 29 5 0,zld 30 29 1,zfa 31 5 1,zld 32 31 1,zca 33 103 [32],zop 34 (.build (z0s Ql) [(0,1,30),(1,1,33)]),zop 35 (.bsl 108 Ql [34]),zop 36 (.app 28 35 108 Ql),zfa 37 3 5,zst 37 36 1] [(0,6),(1,6),(2,6),(3,6),(0,8),(1,8)])])),(.reg [zbi 38 .add 23 (zki 1),zmv 23 38])])
def QvB:List (Nat × Md):=[(1,.b (zds 14)),(2,.b [.d,.f,.f,.d,.d,.f,.f,.f,.f,.f,.f,.f,.d,.d]),(3,.b [.d,.f,.f,.d,.d,.p 108,.f,.f,.f,.f,.f,.f,.d,.d]),(21,.one .d),(22,.one .d),(23,.one .d)]
def Qte:TCode :=
 (zsq [(.reg [zfa 39 1 6,zld 40 39 1,zca 41 103 [40],zfa 42 3 6,zst 42 41 1]),(.draw [zfa 43 1 7,zld 44 43 1,zca 45 104 [44],zfa 46 1 8,zld 47 46 1,zca 48 104 [47],zfa 49 1 9,zld 50 49 1,zca 51 104 [50],zfa 52 1 10,zld 53 52 1,zca 54 104 [53],zfa 55 3 7,zst 55 45 1,zfa 56 3 8,zst 56 48 1,zfa 57 3 9,zst 57 51 1,zfa 58 3 10,zst 58 54 1] [(2,3),(2,4),(2,6),(5,6),(2,7),(5,7),(2,9),(5,9),(8,9),(2,10),(5,10),(8,10),(5,12),(8,12),(11,12)]),(.reg [zfa 59 1 11,zLd 60 59 3,zca 61 166 [60],zfa 62 3 11,zst 62 61 3]),(.reg [zLd 63 3 14,zst 2 63 14]),.ret])
def QKj:TCode :=
 (zsq [(.reg [zop 1 (.box 39 0 14),zop 2 (.new 39 (z0s Qs))]),(.draw [zfa 6 1 0,zld 7 6 1,zop 8 (.bsl 175 Qt []),zfa 9 1 1,zld 10 9 1,zop 11 (.app 8 10 175 Qt),zfa 12 1 2,zld 13 12 1,zca 14 165 [13],zfa 15 1 3,zld 16 15 1,zfa 17 1 4,zld 18 17 1,zop 19 (.build (z0s Qs) [(0,1,7),(1,1,11),(2,1,14),(3,1,16),(4,1,18)]),zop 3 (.new 39 (z0s Qs)),zst 3 19 14] [(0,2),(1,2),(2,3),(2,4),(0,5),(1,5),(2,6),(5,6),(2,7),(5,7),(0,8),(1,8),(2,9),(5,9),(8,9),(2,10),(5,10),(8,10),(2,11),(5,11),(8,11),(2,12),(5,12),(8,12),(0,14),(1,14),(2,14),(3,14),(4,14),(5,14),(6,14),(7,14),(8,14),(9,14),(10,14),(11,14),(12,14)]),(zsq [(.reg [zfa 20 1 5,zld 21 20 1,zle 22 21,zmv 23 (zki 0)]),(.block 0 (.loop QvB QrG))]),Qte])
def QmT:List (ARv × Md):=[(.l 2 14 true,.b [.d,.p 175,.p 134,.d,.d,.p 108,.p 106,.p 3,.p 3,.p 3,.p 3,.p 106,.d,.d])]
def Qrd:Qb:=TQ 0 0 QmT K
def Qxu:Qb:=Qseq (tawp QeI 0 Qte (Qrd K)) (Qrd K)
def QAr:Qb:=Qblk 0 (Qxu K)
def Qfv (s:Qc) (x:Int) (t1:List TIns) (t2:List TOp') (t5:List Qe):Prop:=Loop QeI 0 QvB QrG (QAr K) ⟨[(1,(.p 0 0 0)),(2,(.p 1 0 0)),(3,(.p 5 0 0)),(21,(zcs Ql s.2.2.2.2.2.1)),(22,(zci ((s.2.2.2.2.2.1).length:Int))),(23,(zci x))],[(0,(.box (Tup.cells Qs s))),(1,(.box [(zci 0),(.n Qt),(.n ctOp),(zcb false),(zcb false),(.n Ql),(.n [(.sl [TI])]),(.n [TI]),(.n [TI]),(.n [TI]),(.n [TI]),(.n [(.sl [TI])]),(zci 0),(zcb false)])),(2,(.sl 175 Qt (.dp 0 true []) t1)),(3,(.sl 134 ctOp (.dp 0 true []) t2)),(4,(.sl 108 Ql (.dp 0 true []) t5)),(5,(.box [(zci s.1),(.r Qt 2 0 t1.length),(.r ctOp 3 0 t2.length),(zcb s.2.2.2.1),(zcb s.2.2.2.2.1),(.r Ql 4 0 t5.length),(.n [(.sl [TI])]),(.n [TI]),(.n [TI]),(.n [TI]),(.n [TI]),(.n [(.sl [TI])]),(zci 0),(zcb false)]))],6⟩
theorem Qr4 (s:Qc) (x:Int) (t1:List TIns) (t2:List TOp') (t5:List Qe) (h :
 (zif (decide (x<((s.2.2.2.2.2.1).length:Int))) (((0:Int)≤x∧Int.toNat x<(s.2.2.2.2.2.1).length)∧(((QH (α:=List (List Int)) ((gtd Qw s.2.2.2.2.2.1 (Int.toNat x)).2))∧((t5.length=t5.length∨t5.length+1≤t5.length)∧t5.length+1≤big))∧(Qfv K s (w64 (x+(1:Int))) (List.take t1.length t1) (List.take t2.length t2) (List.take (t5.length+1) ((List.take t5.length t5)++([((gtd Qw s.2.2.2.2.2.1 (Int.toNat x)).1,(List.take ((id (α:=List (List Int)) ((gtd Qw s.2.2.2.2.2.1 (Int.toNat x)).2)).length) (List.drop 0 (id (α:=List (List Int)) ((gtd Qw s.2.2.2.2.2.1 (Int.toNat x)).2)))))])))))) ((QH (α:=List (List Int)) s.2.2.2.2.2.2.1)∧(((QH (α:=List Int) s.2.2.2.2.2.2.2.1)∧((QH (α:=List Int) s.2.2.2.2.2.2.2.2.1)∧((QH (α:=List Int) s.2.2.2.2.2.2.2.2.2.1)∧(QH (α:=List Int) s.2.2.2.2.2.2.2.2.2.2.1))))∧((QH (α:=Qm) s.2.2.2.2.2.2.2.2.2.2.2)∧K (JK (s.1,(List.take t1.length t1),(List.take t2.length t2),s.2.2.2.1,s.2.2.2.2.1,(List.take t5.length t5),(List.take ((id (α:=List (List Int)) s.2.2.2.2.2.2.1).length) (id (α:=List (List Int)) s.2.2.2.2.2.2.1)),(List.take ((id (α:=List Int) s.2.2.2.2.2.2.2.1).length) (id (α:=List Int) s.2.2.2.2.2.2.2.1)),(List.take ((id (α:=List Int) s.2.2.2.2.2.2.2.2.1).length) (id (α:=List Int) s.2.2.2.2.2.2.2.2.1)),(List.take ((id (α:=List Int) s.2.2.2.2.2.2.2.2.2.1).length) (id (α:=List Int) s.2.2.2.2.2.2.2.2.2.1)),(List.take ((id (α:=List Int) s.2.2.2.2.2.2.2.2.2.2.1).length) (id (α:=List Int) s.2.2.2.2.2.2.2.2.2.2.1)),(List.take (((id (α:=Qm) s.2.2.2.2.2.2.2.2.2.2.2).1).length) ((id (α:=Qm) s.2.2.2.2.2.2.2.2.2.2.2).1)),(id (α:=Qm) s.2.2.2.2.2.2.2.2.2.2.2).2.1,(id (α:=Qm) s.2.2.2.2.2.2.2.2.2.2.2).2.2))))))):Qfv K s x t1 t2 t5 :=
 Loop.of (by kernel_rfl) h
theorem QyU (s:Qc) (h :
 ((((0=0∨0+(s.2.1).length≤0)∧0+(s.2.1).length≤big)∧(QH (α:=List TOp') s.2.2.1))∧(Qfv K s 0 (List.take (0+(s.2.1).length) (s.2.1:List TIns)) (List.take ((id (α:=List TOp') s.2.2.1).length) (id (α:=List TOp') s.2.2.1)) ([]:List Qe)))):Hold (tawp QeI (0+0) QKj (TQ 0 0 QmT K) (Qd [(.a (Tup.cells Qs s))])) :=
 Hold.of (by kernel_rfl) h
theorem QBv (s:Qc) (hp:QH (α:=Qc) s):TCon Tryz.prog 70 [(.a (Tup.cells Qs s))] (JK (id (α:=Qc) s)):=by
 refine Qh rfl fun hb=>tcg (Γ:=QeI) (n:=64) (sg:=QjT.sg) Qi (TOkL.cons QC0 (TOkL.cons Qrn (TOkL.cons QeO (TOkL.cons QwP TOkL.nil)))) (by kernel_rfl) (by kernel_rfl) (QyU _ s ?_)
 have hl_s_1:(s.2.1).length≤9223372036854775807:=hb.1.2.1.1
 have hl_s_2:(s.2.2.1).length≤9223372036854775807:=hb.1.2.2.1.1
 have hl_s_5:(s.2.2.2.2.2.1).length≤9223372036854775807:=hb.1.2.2.2.2.2.1.1
 have hl_s_6:(s.2.2.2.2.2.2.1).length≤9223372036854775807:=hb.1.2.2.2.2.2.2.1.1
 have hl_s_7:(s.2.2.2.2.2.2.2.1).length≤9223372036854775807:=hb.1.2.2.2.2.2.2.2.1.1
 have hl_s_8:(s.2.2.2.2.2.2.2.2.1).length≤9223372036854775807:=hb.1.2.2.2.2.2.2.2.2.1.1
 have hl_s_9:(s.2.2.2.2.2.2.2.2.2.1).length≤9223372036854775807:=hb.1.2.2.2.2.2.2.2.2.2.1.1
 have hl_s_10:(s.2.2.2.2.2.2.2.2.2.2.1).length≤9223372036854775807:=hb.1.2.2.2.2.2.2.2.2.2.2.1.1
 have hl_s_11:(s.2.2.2.2.2.2.2.2.2.2.2.1).length≤9223372036854775807:=hb.1.2.2.2.2.2.2.2.2.2.2.2.1.1
 have hp':Sz.sz s≤2147483648:=hp
 have hs:=Qbh s
 have l1:=Jc (QG s)
 simp only [id,List.drop_zero,List.take_length,true_or,true_and,Nat.zero_add]
 refine ⟨⟨by rw [Zz];((try simp only [sPc,QG,sOps,QC,QB,Qn,QI,sX,sY,sG,sD,QF,QJ,sSat,QN,QO,QM,QP] at *);omega),by unfold QH;((try simp only [sPc,QG,sOps,QC,QB,Qn,QI,sX,sY,sG,sD,QF,QJ,sSat,QN,QO,QM,QP] at *);omega)⟩,?_⟩
 refine Qbm (l:=s.2.2.2.2.2.1) (A:=fun i v=>Qfv (fun r'=>r'=JK (id (α:=Qc) s)) s i s.2.1 s.2.2.1 v) (Q:=fun z=>JK (s.1,s.2.1,s.2.2.1,s.2.2.2.1,s.2.2.2.2.1,z,s.2.2.2.2.2.2)=JK (id (α:=Qc) s)) (by ((try simp only [sPc,QG,sOps,QC,QB,Qn,QI,sX,sY,sG,sD,QF,QJ,sSat,QN,QO,QM,QP] at *);omega)) (fun k x v hk hl hg hv hx ih=>?_) (fun hq=>?_) (R_eq rfl)
 ·refine Qr4 (fun r'=>r'=JK (id (α:=Qc) s)) s _ _ _ _ ⟨fun _=>?_,fun h=>by simp at h;omega⟩
  simp only [QZ,QK] at hx
  rw [Int.toNat_natCast,hg,sc1 (by omega),Zm,Qif,List.take_length,List.take_length]
  exact ⟨⟨by omega,hk⟩,⟨by unfold QH;omega,room (by omega)⟩,ih⟩
 ·refine Qr4 (fun r'=>r'=JK (id (α:=Qc) s)) s _ _ _ _ ⟨fun h=>by simp at h,fun _=>?_⟩
  simp only [id,List.drop_zero,List.take_length,true_or,true_and,Nat.zero_add]
  exact ⟨by unfold QH;((try simp only [sPc,QG,sOps,QC,QB,Qn,QI,sX,sY,sG,sD,QF,QJ,sSat,QN,QO,QM,QP] at *);omega),⟨by unfold QH;((try simp only [sPc,QG,sOps,QC,QB,Qn,QI,sX,sY,sG,sD,QF,QJ,sSat,QN,QO,QM,QP] at *);omega),by unfold QH;((try simp only [sPc,QG,sOps,QC,QB,Qn,QI,sX,sY,sG,sD,QF,QJ,sSat,QN,QO,QM,QP] at *);omega),by unfold QH;((try simp only [sPc,QG,sOps,QC,QB,Qn,QI,sX,sY,sG,sD,QF,QJ,sSat,QN,QO,QM,QP] at *);omega),by unfold QH;((try simp only [sPc,QG,sOps,QC,QB,Qn,QI,sX,sY,sG,sD,QF,QJ,sSat,QN,QO,QM,QP] at *);omega)⟩,by unfold QH;simp only [QZ,QK,Q0];((try simp only [sPc,QG,sOps,QC,QB,Qn,QI,sX,sY,sG,sD,QF,QJ,sSat,QN,QO,QM,QP] at *);omega),by first | exact hq | trivial⟩
theorem QCb:Qf Tryz.prog QjT:=Qj fun x h=>QBv x.1 h
def JZ (t:Qc):TRes:=⟨(.a [(zci t.1),(zcs Qt t.2.1),(zcs ctOp t.2.2.1),(zcb t.2.2.2.1),(zcb t.2.2.2.2.1),(.r Ql 0 0 ((t.2.2.2.2.2.1).length)),(zcs [(.sl [TI])] t.2.2.2.2.2.2.1),(zcs [TI] t.2.2.2.2.2.2.2.1),(zcs [TI] t.2.2.2.2.2.2.2.2.1),(zcs [TI] t.2.2.2.2.2.2.2.2.2.1),(zcs [TI] t.2.2.2.2.2.2.2.2.2.2.1),(zcs [(.sl [TI])] t.2.2.2.2.2.2.2.2.2.2.2.1),(zci t.2.2.2.2.2.2.2.2.2.2.2.2.1),(zcb t.2.2.2.2.2.2.2.2.2.2.2.2.2)]),[(.sl 108 Ql .ow t.2.2.2.2.2.1)],[],true,[]⟩
def QkA:TRow:=Qg 61 [(.a Qs)] fun x=>(some (QH (α:=Qc) x.1),JZ (id (α:=Qc) x.1))
def QdG:TTab:=⟨[Qg1,QkL],false⟩
def Qo3:TCode :=
 (zsq [(zsq [(.reg [zmv 17 4,zfa 18 1 5,zld 19 18 1,zle 20 19,zbi 21 .lss 17 20]),(.cond 21 .skip (.exit 0))]),(.block 1 (.draw [zfa 24 3 5,zld 25 24 1,zfa 26 1 5,zld 27 26 1,zmv 28 4,zia 29 27 28 Ql,zfa 30 29 0,zld 31 30 1,zfa 32 1 5,zld 33 32 1,zmv 34 4,zia 35 33 34 Ql,zfa 36 35 1,zld 37 36 1,zca 38 156 [37],zop 39 (.build (z0s Ql) [(0,1,31),(1,1,38)]),zop 40 (.bsl 108 Ql [39]),zop 41 (.app 25 40 108 Ql),zfa 42 3 5,zst 42 41 1] [(0,14),(1,14),(2,14),(3,14),(5,14),(6,14),(7,14),(0,16),(1,16)])),(.reg [zmv 22 4,zbi 23 .add 22 (zki 1),zmv 4 23])])
def QrZ:List (Nat × Md):=[(1,.b (zds 14)),(2,.b (zds 14)),(3,.b [.d,.d,.d,.d,.d,.f,.d,.d,.d,.d,.d,.d,.d,.d]),(4,.one .d)]
def Qqq:TCode :=
 (zsq [(.reg [zfa 43 1 6,zld 44 43 1,zca 45 156 [44],zfa 46 3 6,zst 46 45 1]),(.reg [zop 47 (.bsl 3 [TI] []),zfa 48 1 7,zld 49 48 1,zop 50 (.app 47 49 3 [TI]),zfa 51 3 7,zst 51 50 1]),(.reg [zop 52 (.bsl 3 [TI] []),zfa 53 1 8,zld 54 53 1,zop 55 (.app 52 54 3 [TI]),zfa 56 3 8,zst 56 55 1]),(.reg [zop 57 (.bsl 3 [TI] []),zfa 58 1 9,zld 59 58 1,zop 60 (.app 57 59 3 [TI]),zfa 61 3 9,zst 61 60 1]),(.reg [zop 62 (.bsl 3 [TI] []),zfa 63 1 10,zld 64 63 1,zop 65 (.app 62 64 3 [TI]),zfa 66 3 10,zst 66 65 1]),(.reg [zfa 67 1 11,zfa 68 67 0,zld 69 68 1,zca 70 156 [69],zfa 71 3 11,zfa 72 71 0,zst 72 70 1]),(.reg [zLd 73 3 14,zst 2 73 14]),.ret])
def QJf:TCode :=
 (zsq [(.reg [zop 1 (.box 39 0 14),zop 2 (.new 39 (z0s Qs))]),(.reg [zLd 5 1 14,zop 3 (.new 39 (z0s Qs)),zst 3 5 14]),(.reg [zfa 6 1 2,zld 7 6 1,zca 8 155 [7],zfa 9 3 2,zst 9 8 1]),(.reg [zop 10 (.bsl 175 Qt []),zfa 11 1 1,zld 12 11 1,zop 13 (.app 10 12 175 Qt),zfa 14 3 1,zst 14 13 1]),(.reg [zop 15 (.bsl 108 Ql []),zfa 16 3 5,zst 16 15 1]),(zsq [(.reg [zmv 4 (zki 0)]),(.block 0 (.loop QrZ Qo3))]),Qqq])
def Qt3:List (ARv × Md):=[(.l 2 14 true,.b [.d,.d,.d,.d,.d,.o 108,.d,.d,.d,.d,.d,.d,.d,.d])]
def Qmf:Qb:=TQ 0 0 Qt3 K
def QHZ:Qb:=Qseq (tawp QdG 0 Qqq (Qmf K)) (Qmf K)
def QFJ:Qb:=Qblk 0 (QHZ K)
def QdY (s:Qc) (i:Int) (x5:List Qe):Prop:=Loop QdG 0 QrZ Qo3 (QFJ K) ⟨[(1,(.p 0 0 0)),(2,(.p 1 0 0)),(3,(.p 3 0 0)),(4,(zci i))],[(0,(.box (Tup.cells Qs s))),(1,(.box (Tup.cells Qs ((0:Int),[],[],false,false,[],[],[],[],[],[],[],(0:Int),false)))),(2,(.sl 108 Ql .ow x5)),(3,(.box [(zci s.1),(zcs Qt (List.take (0+(s.2.1).length) (List.drop 0 (s.2.1:List TIns)))),(zcs ctOp (id (α:=List TOp') s.2.2.1)),(zcb s.2.2.2.1),(zcb s.2.2.2.2.1),(.r Ql 2 0 x5.length),(zcs [(.sl [TI])] s.2.2.2.2.2.2.1),(zcs [TI] s.2.2.2.2.2.2.2.1),(zcs [TI] s.2.2.2.2.2.2.2.2.1),(zcs [TI] s.2.2.2.2.2.2.2.2.2.1),(zcs [TI] s.2.2.2.2.2.2.2.2.2.2.1),(zcs [(.sl [TI])] s.2.2.2.2.2.2.2.2.2.2.2.1),(zci s.2.2.2.2.2.2.2.2.2.2.2.2.1),(zcb s.2.2.2.2.2.2.2.2.2.2.2.2.2)]))],4⟩
theorem Ql3 (s:Qc) (i:Int) (x5:List Qe) (h :
 (zif (decide (i<((s.2.2.2.2.2.1).length:Int))) ((((0:Int)≤i∧Int.toNat i<(s.2.2.2.2.2.1).length)∧(((0:Int)≤i∧Int.toNat i<(s.2.2.2.2.2.1).length)∧((QH (α:=List (List Int)) ((gtd Qw s.2.2.2.2.2.1 (Int.toNat i)).2))∧((x5.length=x5.length∨x5.length+1≤x5.length)∧x5.length+1≤big))))∧(QdY K s (w64 (i+(1:Int))) (List.take (x5.length+1) ((List.take x5.length x5)++([((gtd Qw s.2.2.2.2.2.1 (Int.toNat i)).1,(id (α:=List (List Int)) ((gtd Qw s.2.2.2.2.2.1 (Int.toNat i)).2)))]))))) ((QH (α:=List (List Int)) s.2.2.2.2.2.2.1)∧(((0=0∨0+(s.2.2.2.2.2.2.2.1).length≤0)∧0+(s.2.2.2.2.2.2.2.1).length≤big)∧(((0=0∨0+(s.2.2.2.2.2.2.2.2.1).length≤0)∧0+(s.2.2.2.2.2.2.2.2.1).length≤big)∧(((0=0∨0+(s.2.2.2.2.2.2.2.2.2.1).length≤0)∧0+(s.2.2.2.2.2.2.2.2.2.1).length≤big)∧(((0=0∨0+(s.2.2.2.2.2.2.2.2.2.2.1).length≤0)∧0+(s.2.2.2.2.2.2.2.2.2.2.1).length≤big)∧((QH (α:=List (List Int)) s.2.2.2.2.2.2.2.2.2.2.2.1)∧K (JZ (s.1,(List.take (0+(s.2.1).length) (List.drop 0 (s.2.1:List TIns))),(id (α:=List TOp') s.2.2.1),s.2.2.2.1,s.2.2.2.2.1,(List.take x5.length x5),(id (α:=List (List Int)) s.2.2.2.2.2.2.1),(List.take (0+(s.2.2.2.2.2.2.2.1).length) (List.drop 0 (s.2.2.2.2.2.2.2.1:List Int))),(List.take (0+(s.2.2.2.2.2.2.2.2.1).length) (List.drop 0 (s.2.2.2.2.2.2.2.2.1:List Int))),(List.take (0+(s.2.2.2.2.2.2.2.2.2.1).length) (List.drop 0 (s.2.2.2.2.2.2.2.2.2.1:List Int))),(List.take (0+(s.2.2.2.2.2.2.2.2.2.2.1).length) (List.drop 0 (s.2.2.2.2.2.2.2.2.2.2.1:List Int))),(id (α:=List (List Int)) s.2.2.2.2.2.2.2.2.2.2.2.1),s.2.2.2.2.2.2.2.2.2.2.2.2.1,s.2.2.2.2.2.2.2.2.2.2.2.2.2)))))))))):QdY K s i x5 :=
 Loop.of (by kernel_rfl) h
theorem QEe (s:Qc) (h :
 ((QH (α:=List TOp') s.2.2.1)∧(((0=0∨0+(s.2.1).length≤0)∧0+(s.2.1).length≤big)∧(QdY K s 0 ([]:List Qe))))):Hold (tawp QdG (0+0) QJf (TQ 0 0 Qt3 K) (Qd [(.a (Tup.cells Qs s))])) :=
 Hold.of (by kernel_rfl) h
theorem Qv2 (s:Qc) (hp:QH (α:=Qc) s):TCon Tryz.prog 61 [(.a (Tup.cells Qs s))] (JZ (id (α:=Qc) s)):=by
 refine Qh rfl fun hb=>tcg (Γ:=QdG) (n:=74) (sg:=QkA.sg) Qi (TOkL.cons Qzt (TOkL.cons Qxs TOkL.nil)) (by kernel_rfl) (by kernel_rfl) (QEe _ s ?_)
 have hl_s_1:(s.2.1).length≤9223372036854775807:=hb.1.2.1.1
 have hl_s_2:(s.2.2.1).length≤9223372036854775807:=hb.1.2.2.1.1
 have hl_s_5:(s.2.2.2.2.2.1).length≤9223372036854775807:=hb.1.2.2.2.2.2.1.1
 have hl_s_6:(s.2.2.2.2.2.2.1).length≤9223372036854775807:=hb.1.2.2.2.2.2.2.1.1
 have hl_s_7:(s.2.2.2.2.2.2.2.1).length≤9223372036854775807:=hb.1.2.2.2.2.2.2.2.1.1
 have hl_s_8:(s.2.2.2.2.2.2.2.2.1).length≤9223372036854775807:=hb.1.2.2.2.2.2.2.2.2.1.1
 have hl_s_9:(s.2.2.2.2.2.2.2.2.2.1).length≤9223372036854775807:=hb.1.2.2.2.2.2.2.2.2.2.1.1
 have hl_s_10:(s.2.2.2.2.2.2.2.2.2.2.1).length≤9223372036854775807:=hb.1.2.2.2.2.2.2.2.2.2.2.1.1
 have hl_s_11:(s.2.2.2.2.2.2.2.2.2.2.2.1).length≤9223372036854775807:=hb.1.2.2.2.2.2.2.2.2.2.2.2.1.1
 have hp':Sz.sz s≤2147483648:=hp
 have hs:=Qbh s
 have l1:=Jc (QG s)
 have l2:=Z2 (sX s)
 have l3:=Z2 (sY s)
 have l4:=Z2 (sG s)
 have l5:=Z2 (sD s)
 simp only [id,List.drop_zero,List.take_length,true_or,true_and,Nat.zero_add]
 refine ⟨by unfold QH;((try simp only [sPc,QG,sOps,QC,QB,Qn,QI,sX,sY,sG,sD,QF,QJ,sSat,QN,QO,QM,QP] at *);omega),by rw [Zz];((try simp only [sPc,QG,sOps,QC,QB,Qn,QI,sX,sY,sG,sD,QF,QJ,sSat,QN,QO,QM,QP] at *);omega),?_⟩
 refine Qbm (l:=s.2.2.2.2.2.1) (A:=fun i v=>QdY (fun r'=>r'=JZ (id (α:=Qc) s)) s i v) (Q:=fun z=>JZ (s.1,s.2.1,s.2.2.1,s.2.2.2.1,s.2.2.2.2.1,z,s.2.2.2.2.2.2)=JZ (id (α:=Qc) s)) (by ((try simp only [sPc,QG,sOps,QC,QB,Qn,QI,sX,sY,sG,sD,QF,QJ,sSat,QN,QO,QM,QP] at *);omega)) (fun k x v hk hl hg hv hx ih=>?_) (fun hq=>?_) (R_eq rfl)
 ·refine Ql3 (fun r'=>r'=JZ (id (α:=Qc) s)) s _ _ ⟨fun _=>?_,fun h=>by simp at h;omega⟩
  simp only [QZ,QK] at hx
  rw [Int.toNat_natCast,hg,sc1 (by omega),Zm]
  exact ⟨⟨⟨by omega,hk⟩,⟨by omega,hk⟩,by unfold QH;omega,room (by omega)⟩,ih⟩
 ·refine Ql3 (fun r'=>r'=JZ (id (α:=Qc) s)) s _ _ ⟨fun h=>by simp at h,fun _=>?_⟩
  simp only [id,List.drop_zero,List.take_length,true_or,true_and,Nat.zero_add]
  exact ⟨by unfold QH;((try simp only [sPc,QG,sOps,QC,QB,Qn,QI,sX,sY,sG,sD,QF,QJ,sSat,QN,QO,QM,QP] at *);omega),by rw [Zz];((try simp only [sPc,QG,sOps,QC,QB,Qn,QI,sX,sY,sG,sD,QF,QJ,sSat,QN,QO,QM,QP] at *);omega),by rw [Zz];((try simp only [sPc,QG,sOps,QC,QB,Qn,QI,sX,sY,sG,sD,QF,QJ,sSat,QN,QO,QM,QP] at *);omega),by rw [Zz];((try simp only [sPc,QG,sOps,QC,QB,Qn,QI,sX,sY,sG,sD,QF,QJ,sSat,QN,QO,QM,QP] at *);omega),by rw [Zz];((try simp only [sPc,QG,sOps,QC,QB,Qn,QI,sX,sY,sG,sD,QF,QJ,sSat,QN,QO,QM,QP] at *);omega),by unfold QH;((try simp only [sPc,QG,sOps,QC,QB,Qn,QI,sX,sY,sG,sD,QF,QJ,sSat,QN,QO,QM,QP] at *);omega),by first | exact hq | trivial⟩
theorem QEo:Qf Tryz.prog QkA:=Qj fun x h=>Qv2 x.1 h
def Yp (t:Qc):TRes:=⟨(.a [(zci t.1),(.r Qt 0 0 ((t.2.1).length)),(.r ctOp 1 0 ((t.2.2.1).length)),(zcb t.2.2.2.1),(zcb t.2.2.2.2.1),(.r Ql 2 0 ((t.2.2.2.2.2.1).length)),(.r [(.sl [TI])] 3 0 ((t.2.2.2.2.2.2.1).length)),(.r [TI] 4 0 ((t.2.2.2.2.2.2.2.1).length)),(.r [TI] 5 0 ((t.2.2.2.2.2.2.2.2.1).length)),(.r [TI] 6 0 ((t.2.2.2.2.2.2.2.2.2.1).length)),(.r [TI] 7 0 ((t.2.2.2.2.2.2.2.2.2.2.1).length)),(.r [(.sl [TI])] 8 0 ((t.2.2.2.2.2.2.2.2.2.2.2.1).length)),(zci t.2.2.2.2.2.2.2.2.2.2.2.2.1),(zcb t.2.2.2.2.2.2.2.2.2.2.2.2.2)]),[(.sl 175 Qt (.dp 0 true []) t.2.1),(.sl 134 ctOp (.dp 0 true []) t.2.2.1),(.sl 108 Ql (.dp 0 true []) t.2.2.2.2.2.1),(.sl 106 [(.sl [TI])] (.dp 0 true []) t.2.2.2.2.2.2.1),(.sl 3 [TI] (.dp 0 true []) t.2.2.2.2.2.2.2.1),(.sl 3 [TI] (.dp 0 true []) t.2.2.2.2.2.2.2.2.1),(.sl 3 [TI] (.dp 0 true []) t.2.2.2.2.2.2.2.2.2.1),(.sl 3 [TI] (.dp 0 true []) t.2.2.2.2.2.2.2.2.2.2.1),(.sl 106 [(.sl [TI])] (.dp 0 true []) t.2.2.2.2.2.2.2.2.2.2.2.1)],[],false,[]⟩
def Qi3:TRow:=Qg 32 [(.a Qs),(.c TI),(.c (.sl [TI]))] fun x=>(some (QaP x.1 x.2.1 x.2.2.1),Yp (Qu x.1 x.2.1 x.2.2.1))
def Qrc:TTab:=⟨[QjT,Qkn,Qhk,Qd5,QhJ,QdM,Qey,Ju,Qhm,QiW],true⟩
def QCK:TCode :=
 (zsq [(.reg [zop 3 (.box 39 0 14),zop 6 (.new 39 (z0s Qs))]),(.reg [zLd 15 3 14,zca 16 70 [15],zop 7 (.new 39 (z0s Qs)),zst 7 16 14]),(.reg [zfa 17 3 5,zld 18 17 1,zmv 19 1,zca 20 71 [18,19],zmv 8 20]),(zsq [(.reg [zLd 21 3 14,zca 22 72 [21],zno 23 22,zmv 24 23,.grp 24 false [zmv 25 8,zbi 26 .lss 25 (zki 0)] 27 26]),(.cond 27 (zsq [(.reg [zLd 28 7 14,zst 6 28 14]),.ret]) .skip)]),(.reg [zfa 29 7 5,zld 30 29 1,zmv 31 8,zia 32 30 31 Ql,zfa 33 32 1,zld 34 33 1,zmv 9 34]),(zsq [(.reg [zfa 35 3 4,zld 36 35 1]),(.cond 36 (.reg [zfa 37 7 6,zld 38 37 1,zmv 9 38]) .skip)]),(.reg [zfa 39 3 2,zld 40 39 1,zle 41 40,zmv 10 41]),(zsq [(.reg [zmv 42 9,zle 43 42,zmv 44 10,zbi 45 .add 44 (zki 1),zbi 46 .neq 43 45,zmv 47 46,.grp 47 false [zfa 48 3 2,zld 49 48 1,zmv 50 9,zmv 51 10,zca 52 110 [49,50,51],zno 53 52] 54 53]),(.cond 54 (zsq [(.reg [zLd 55 7 14,zst 6 55 14]),.ret]) .skip)]),(.reg [zfa 56 7 9,zld 57 56 1,zmv 11 57,zmv 12 (zkb false)]),(zsq [(.reg [zfa 58 3 3,zld 59 58 1]),(.cond 59 (.reg [zmv 61 9,zmv 62 10,zia 63 61 62 [(.sl [TI])],zfa 64 63 0,zld 65 64 1,zmv 66 2,zca 67 111 [65,66],zmv 60 67,zex 68 60 0,zex 69 60 1,zmv 11 68,zmv 12 69]) .skip)]),(zsq [(.reg [zmv 70 11,zLd 71 3 14,zca 72 74 [71],zca 73 102 [72],zca 74 100 [70,73],zno 75 74]),(.cond 75 (zsq [(.reg [zLd 76 7 14,zst 6 76 14]),.ret]) .skip)]),(.reg [zfa 78 3 2,zld 79 78 1,zmv 80 9,zmv 81 11,zca 82 112 [79,80,81],zmv 77 82,zex 83 77 0,zex 84 77 1,zex 85 77 2,zmv 13 83,zmv 11 84,zmv 14 85]),(.reg [zfa 86 7 11,zLd 87 86 3,zmv 88 13,zmv 89 12,zmv 90 89,.grp 90 false [zmv 91 14] 92 91,zop 93 (.build (z0s QE) [(0,1,88),(2,1,92)]),zca 94 113 [87,93],zfa 95 7 11,zst 95 94 3]),(.reg [zmv 96 11,zfa 97 7 10,zst 97 96 1]),(.reg [zfa 98 7 9,zst 98 (.k (.n [TI])) 1]),(.reg [zfa 99 7 6,zst 99 (.k (.n [(.sl [TI])])) 1]),(.draw [zfa 100 7 5,zld 101 100 1,zmv 102 8,zop 103 (.slc 101 none (some 102) Ql),zfa 104 7 5,zld 105 104 1,zmv 106 8,zbi 107 .add 106 (zki 1),zop 108 (.slc 105 (some 107) none Ql),zop 109 (.app 103 108 108 Ql),zfa 110 7 5,zst 110 109 1] []),(.reg [zLd 111 7 14,zst 6 111 14]),.ret])
def QBL:List (ARv × Md):=[(.l 6 14 true,.b [.d,.p 175,.p 134,.d,.d,.p 108,.p 106,.p 3,.p 3,.p 3,.p 3,.p 106,.d,.d])]
theorem QHV (s:Qc) (m:Int) (t:List Int) (h :
 let z1:=id (α:=Qc) s
 let z5:=List.take ((z1.2.2.2.2.2.2.2.2.2.1).length) (List.drop 0 (z1.2.2.2.2.2.2.2.2.2.1))
 let z7:=List.take ((z1.2.2.2.2.2.2.2.2.2.2.2.1).length) (List.drop 0 (z1.2.2.2.2.2.2.2.2.2.2.2.1))
 let z8:=List.take ((z1.2.2.2.2.2.2.1).length) (List.drop 0 (z1.2.2.2.2.2.2.1))
 let z12:=Qr s.2.2.2.2.2.1 m
 let z6:=gtd Qw (z1.2.2.2.2.2.1) (0+(Int.toNat z12))
 let z9:=Int.toNat z12-Int.toNat (0:Int)
 let z15:=List.take ((z1.2.2.2.2.2.2.2.2.1).length) (z1.2.2.2.2.2.2.2.2.1)
 let z16:=List.take ((z1.2.2.2.2.2.2.2.1).length) (z1.2.2.2.2.2.2.2.1)
 let z19:=List.take ((z1.2.2.2.2.2.2.2.2.2.2.2.1).length) (z1.2.2.2.2.2.2.2.2.2.2.2.1)
 let z20:=List.take ((z1.2.2.2.2.2.2.2.2.2.2.1).length) (z1.2.2.2.2.2.2.2.2.2.2.1)
 let z21:=List.take ((z1.2.2.2.2.2.2.2.2.2.1).length) (z1.2.2.2.2.2.2.2.2.2.1)
 let z22:=List.take ((z1.2.2.1).length) (z1.2.2.1)
 let z23:=List.take ((z1.2.1).length) (z1.2.1)
 let z24:=List.take ((z1.2.2.2.2.2.2.1).length) (z1.2.2.2.2.2.2.1)
 let z25:=List.take ((z1.2.2.2.2.2.1).length) (z1.2.2.2.2.2.1)
 let z27:=Qy s.2.2.1 (z6.2) z5
 let z28:=Qy s.2.2.1 z8 z5
 let z29:=w64 (((s.2.2.1).length:Int)+(1:Int))
 let z30:=w64 (z12+(1:Int))
 let z4:=List.take (Int.toNat (((z1.2.2.2.2.2.1).length:Nat):Int)-Int.toNat z30) (List.drop (0+Int.toNat z30) (z1.2.2.2.2.2.1))
 let z26:=List.take (z9+z4.length) ((List.take z9 (z1.2.2.2.2.2.1))++z4)
 let z33:=Int.toNat ((s.2.2.1).length:Int)
 let z10:=QT (gtd ([]:List Int) (z1.2.2.2.2.2.2.1) (0+z33)) t
 let z11:=QT (gtd ([]:List Int) (z6.2) z33) t
 let z31:=List.take ((z10.1).length) (List.drop 0 (z10.1))
 let z3:=Qy s.2.2.1 z8 z31
 let z32:=List.take ((z11.1).length) (List.drop 0 (z11.1))
 let z2:=Qy s.2.2.1 (z6.2) z32
 let z34:=Zi (Zx s)
 let z35:=List.take ((z28.1).length) (List.drop 0 (z28.1))
 let z14:=Ze (z7,z1.2.2.2.2.2.2.2.2.2.2.2.2.1,z1.2.2.2.2.2.2.2.2.2.2.2.2.2) (z35,(0:Int),(false||(z28.2.2)))
 let z36:=List.take ((z27.1).length) (List.drop 0 (z27.1))
 let z13:=Ze (z7,z1.2.2.2.2.2.2.2.2.2.2.2.2.1,z1.2.2.2.2.2.2.2.2.2.2.2.2.2) (z36,(0:Int),(false||(z27.2.2)))
 let z37:=List.take ((z3.1).length) (List.drop 0 (z3.1))
 let z17:=Ze (z7,z1.2.2.2.2.2.2.2.2.2.2.2.2.1,z1.2.2.2.2.2.2.2.2.2.2.2.2.2) (z37,(0:Int),((z10.2)||(z3.2.2)))
 let z38:=List.take ((z2.1).length) (List.drop 0 (z2.1))
 let z18:=Ze (z7,z1.2.2.2.2.2.2.2.2.2.2.2.2.1,z1.2.2.2.2.2.2.2.2.2.2.2.2.2) (z38,(0:Int),((z11.2)||(z2.2.2)))
 ((QH (α:=Qc) s)∧(zif ((!(QU s))||(decide (z12<(0:Int)))) (K (Yp (z1.1,z23,z22,z1.2.2.2.1,z1.2.2.2.2.1,z25,z24,z16,z15,z21,z20,z19,z1.2.2.2.2.2.2.2.2.2.2.2.2.1,z1.2.2.2.2.2.2.2.2.2.2.2.2.2))) ((((0:Int)≤z12∧Int.toNat z12<(z1.2.2.2.2.2.1).length)∧((0+(Int.toNat z12))<(z1.2.2.2.2.2.1).length))∧(zif s.2.2.2.2.1 (((!((((z1.2.2.2.2.2.2.1).length:Nat):Int) != z29))=true→(Qdo s.2.2.1 z8 ((s.2.2.1).length:Int)))∧(zif (((((z1.2.2.2.2.2.2.1).length:Nat):Int) != z29)||(!(Zs s.2.2.1 z8 ((s.2.2.1).length:Int)))) (K (Yp (z1.1,z23,z22,z1.2.2.2.1,z1.2.2.2.2.1,z25,z24,z16,z15,z21,z20,z19,z1.2.2.2.2.2.2.2.2.2.2.2.2.1,z1.2.2.2.2.2.2.2.2.2.2.2.2.2))) (zif s.2.2.2.1 ((((0:Int)≤((s.2.2.1).length:Int)∧Int.toNat ((s.2.2.1).length:Int)<(z1.2.2.2.2.2.2.1).length)∧((0+z33)<(z1.2.2.2.2.2.2.1).length))∧(zif (!(Qq z31 z34)) (K (Yp (z1.1,z23,z22,z1.2.2.2.1,z1.2.2.2.2.1,z25,z24,z16,z15,z21,z20,z19,z1.2.2.2.2.2.2.2.2.2.2.2.2.1,z1.2.2.2.2.2.2.2.2.2.2.2.2.2))) ((QbT s.2.2.1 z8 z31)∧((ZB (α:=Qm) (β:=Qm) (z7,z1.2.2.2.2.2.2.2.2.2.2.2.2.1,z1.2.2.2.2.2.2.2.2.2.2.2.2.2) (z37,(0:Int),((z10.2)||(z3.2.2))))∧((((0:Int)≤(0:Int)∧(0:Int)≤z12∧z12≤(((z1.2.2.2.2.2.1).length:Nat):Int))∧(((0:Int)≤w64 (z12+(1:Int))∧w64 (z12+(1:Int))≤(((z1.2.2.2.2.2.1).length:Nat):Int)∧(((z1.2.2.2.2.2.1).length:Nat):Int)≤(((z1.2.2.2.2.2.1).length:Nat):Int))∧(((z9=(z1.2.2.2.2.2.1).length∨z9+z4.length≤(z1.2.2.2.2.2.1).length)∧z9+z4.length≤big)∧(z9≤(0+Int.toNat z30)))))∧K (Yp (z1.1,z23,z22,z1.2.2.2.1,z1.2.2.2.2.1,z26,([]:List (List Int)),z16,z15,([]:List Int),(List.take ((z3.2.1).length) (z3.2.1)),(List.take ((z17.1).length) (z17.1)),z17.2.1,z17.2.2))))))) (zif (!(Qq z5 z34)) (K (Yp (z1.1,z23,z22,z1.2.2.2.1,z1.2.2.2.2.1,z25,z24,z16,z15,z21,z20,z19,z1.2.2.2.2.2.2.2.2.2.2.2.2.1,z1.2.2.2.2.2.2.2.2.2.2.2.2.2))) ((QbT s.2.2.1 z8 z5)∧((ZB (α:=Qm) (β:=Qm) (z7,z1.2.2.2.2.2.2.2.2.2.2.2.2.1,z1.2.2.2.2.2.2.2.2.2.2.2.2.2) (z35,(0:Int),(false||(z28.2.2))))∧((((0:Int)≤(0:Int)∧(0:Int)≤z12∧z12≤(((z1.2.2.2.2.2.1).length:Nat):Int))∧(((0:Int)≤w64 (z12+(1:Int))∧w64 (z12+(1:Int))≤(((z1.2.2.2.2.2.1).length:Nat):Int)∧(((z1.2.2.2.2.2.1).length:Nat):Int)≤(((z1.2.2.2.2.2.1).length:Nat):Int))∧(((z9=(z1.2.2.2.2.2.1).length∨z9+z4.length≤(z1.2.2.2.2.2.1).length)∧z9+z4.length≤big)∧(z9≤(0+Int.toNat z30)))))∧K (Yp (z1.1,z23,z22,z1.2.2.2.1,z1.2.2.2.2.1,z26,([]:List (List Int)),z16,z15,([]:List Int),(List.take ((z28.2.1).length) (z28.2.1)),(List.take ((z14.1).length) (z14.1)),z14.2.1,z14.2.2))))))))) (((!(((z6.2).length:Int) != z29))=true→(Qdo s.2.2.1 (z6.2) ((s.2.2.1).length:Int)))∧(zif ((((z6.2).length:Int) != z29)||(!(Zs s.2.2.1 (z6.2) ((s.2.2.1).length:Int)))) (K (Yp (z1.1,z23,z22,z1.2.2.2.1,z1.2.2.2.2.1,z25,z24,z16,z15,z21,z20,z19,z1.2.2.2.2.2.2.2.2.2.2.2.2.1,z1.2.2.2.2.2.2.2.2.2.2.2.2.2))) (zif s.2.2.2.1 (((0:Int)≤((s.2.2.1).length:Int)∧Int.toNat ((s.2.2.1).length:Int)<(z6.2).length)∧(zif (!(Qq z32 z34)) (K (Yp (z1.1,z23,z22,z1.2.2.2.1,z1.2.2.2.2.1,z25,z24,z16,z15,z21,z20,z19,z1.2.2.2.2.2.2.2.2.2.2.2.2.1,z1.2.2.2.2.2.2.2.2.2.2.2.2.2))) ((QbT s.2.2.1 (z6.2) z32)∧((ZB (α:=Qm) (β:=Qm) (z7,z1.2.2.2.2.2.2.2.2.2.2.2.2.1,z1.2.2.2.2.2.2.2.2.2.2.2.2.2) (z38,(0:Int),((z11.2)||(z2.2.2))))∧((((0:Int)≤(0:Int)∧(0:Int)≤z12∧z12≤(((z1.2.2.2.2.2.1).length:Nat):Int))∧(((0:Int)≤w64 (z12+(1:Int))∧w64 (z12+(1:Int))≤(((z1.2.2.2.2.2.1).length:Nat):Int)∧(((z1.2.2.2.2.2.1).length:Nat):Int)≤(((z1.2.2.2.2.2.1).length:Nat):Int))∧(((z9=(z1.2.2.2.2.2.1).length∨z9+z4.length≤(z1.2.2.2.2.2.1).length)∧z9+z4.length≤big)∧(z9≤(0+Int.toNat z30)))))∧K (Yp (z1.1,z23,z22,z1.2.2.2.1,z1.2.2.2.2.1,z26,([]:List (List Int)),z16,z15,([]:List Int),(List.take ((z2.2.1).length) (z2.2.1)),(List.take ((z18.1).length) (z18.1)),z18.2.1,z18.2.2))))))) (zif (!(Qq z5 z34)) (K (Yp (z1.1,z23,z22,z1.2.2.2.1,z1.2.2.2.2.1,z25,z24,z16,z15,z21,z20,z19,z1.2.2.2.2.2.2.2.2.2.2.2.2.1,z1.2.2.2.2.2.2.2.2.2.2.2.2.2))) ((QbT s.2.2.1 (z6.2) z5)∧((ZB (α:=Qm) (β:=Qm) (z7,z1.2.2.2.2.2.2.2.2.2.2.2.2.1,z1.2.2.2.2.2.2.2.2.2.2.2.2.2) (z36,(0:Int),(false||(z27.2.2))))∧((((0:Int)≤(0:Int)∧(0:Int)≤z12∧z12≤(((z1.2.2.2.2.2.1).length:Nat):Int))∧(((0:Int)≤w64 (z12+(1:Int))∧w64 (z12+(1:Int))≤(((z1.2.2.2.2.2.1).length:Nat):Int)∧(((z1.2.2.2.2.2.1).length:Nat):Int)≤(((z1.2.2.2.2.2.1).length:Nat):Int))∧(((z9=(z1.2.2.2.2.2.1).length∨z9+z4.length≤(z1.2.2.2.2.2.1).length)∧z9+z4.length≤big)∧(z9≤(0+Int.toNat z30)))))∧K (Yp (z1.1,z23,z22,z1.2.2.2.1,z1.2.2.2.2.1,z26,([]:List (List Int)),z16,z15,([]:List Int),(List.take ((z27.2.1).length) (z27.2.1)),(List.take ((z13.1).length) (z13.1)),z13.2.1,z13.2.2)))))))))))))):Hold (tawp Qrc (0+0) QCK (TQ 0 0 QBL K) (Qd [(.a (Tup.cells Qs s)),(.c TI m),(.c (.sl [TI]) t)])) :=
 Hold.of (by kernel_rfl) h
theorem Qx6 (s:Qc) (m:Int) (t:List Int) (hp:QaP s m t):TCon Tryz.prog 32 [(.a (Tup.cells Qs s)),(.c TI m),(.c (.sl [TI]) t)] (Yp (Qu s m t)):=by
 refine Qh rfl fun hb=>tcg (Γ:=Qrc) (n:=112) (sg:=Qi3.sg) Qi (TOkL.cons QCb (TOkL.cons Qw9 (TOkL.cons Qye (TOkL.cons QnQ (TOkL.cons QzU (TOkL.cons Qnr (TOkL.cons QqY (TOkL.cons Qay (TOkL.cons QJi (TOkL.cons QxQ TOkL.nil)))))))))) (by kernel_rfl) (by kernel_rfl) (QHV _ s m t ?_)
 have hl_s_1:(s.2.1).length≤9223372036854775807:=hb.1.2.1.1
 have hl_s_2:(s.2.2.1).length≤9223372036854775807:=hb.1.2.2.1.1
 have hl_s_5:(s.2.2.2.2.2.1).length≤9223372036854775807:=hb.1.2.2.2.2.2.1.1
 have hl_s_6:(s.2.2.2.2.2.2.1).length≤9223372036854775807:=hb.1.2.2.2.2.2.2.1.1
 have hl_s_7:(s.2.2.2.2.2.2.2.1).length≤9223372036854775807:=hb.1.2.2.2.2.2.2.2.1.1
 have hl_s_8:(s.2.2.2.2.2.2.2.2.1).length≤9223372036854775807:=hb.1.2.2.2.2.2.2.2.2.1.1
 have hl_s_9:(s.2.2.2.2.2.2.2.2.2.1).length≤9223372036854775807:=hb.1.2.2.2.2.2.2.2.2.2.1.1
 have hl_s_10:(s.2.2.2.2.2.2.2.2.2.2.1).length≤9223372036854775807:=hb.1.2.2.2.2.2.2.2.2.2.2.1.1
 have hl_s_11:(s.2.2.2.2.2.2.2.2.2.2.2.1).length≤9223372036854775807:=hb.1.2.2.2.2.2.2.2.2.2.2.2.1.1
 have hl_t:t.length≤9223372036854775807:=hb.2.2.1.1
 conv=>zeta
 have hp':Sz.sz s≤2147483648:=hp
 have hs:=Qbh s
 have l1:=Jc (Qn s)
 obtain ⟨kf,hkf⟩:∃ kf,Qr s.2.2.2.2.2.1 m=kf:=⟨_,rfl⟩
 have hf:=Qqu (Qn s) m
 rw [show Qr (Qn s) m=kf from hkf] at hf
 have hno:ZT s kf t=false→(Qu s m t)=s:=fun h=>Qpl (by rw [show Qr (Qn s) m=kf from hkf,h];simp)
 simp only [id,List.drop_zero,List.take_length,true_or,true_and,Nat.zero_add,Int.toNat_natCast]
 rw [Qp3,show Qr (Qn s) m=kf from hkf]
 refine ⟨hp,fun h=>R_eq ?_,fun h=>?_⟩
 ·rw [hno]
  simp only [Bool.not_eq_true'] at h
  rw [YL,h];rfl
 simp only [Bool.not_eq_false',Bool.and_eq_true,decide_eq_true_eq] at h
 obtain ⟨h1,h2⟩:=h
 obtain ⟨kn,rfl⟩:∃ kn:Nat,kf=kn:=⟨kf.toNat,by omega⟩
 have hml:1≤s.2.2.1.length∧s.2.2.1.length≤8:=YX (QbN h1)
 have hfit:=Qr7 h1
 have hsum:Sz.sz (α:=Qm) s.2.2.2.2.2.2.2.2.2.2.2≤296:=QuB (QbN h1) ⟨hfit.1,hfit.2⟩
 have hsum2:Sz.sz s.2.2.2.2.2.2.2.2.2.2.2.1≤296:=by have h:=hsum;simp only [QZ,QK,Q0] at h;omega
 have hk:kn<s.2.2.2.2.2.1.length:=by ((try simp only [sPc,QG,sOps,QC,QB,Qn,QI,sX,sY,sG,sD,QF,QJ,sSat,QN,QO,QM,QP] at *);omega)
 have hl2:(List.take (s.2.2.2.2.2.1.length-(kn+1)) (List.drop (kn+1) s.2.2.2.2.2.1)).length=s.2.2.2.2.2.1.length-(kn+1):=by simp
 rw [sc1 (k:=s.2.2.1.length) (by omega),sc1 (k:=kn) (by ((try simp only [sPc,QG,sOps,QC,QB,Qn,QI,sX,sY,sG,sD,QF,QJ,sSat,QN,QO,QM,QP] at *);omega))]
 simp only [Int.toNat_natCast,show Int.toNat (0:Int)=0 from rfl,Nat.sub_zero]
 refine ⟨⟨⟨h2,by ((try simp only [sPc,QG,sOps,QC,QB,Qn,QI,sX,sY,sG,sD,QF,QJ,sSat,QN,QO,QM,QP] at *);omega)⟩,by ((try simp only [sPc,QG,sOps,QC,QB,Qn,QI,sX,sY,sG,sD,QF,QJ,sSat,QN,QO,QM,QP] at *);omega)⟩,fun hred=>?_,fun hred=>?_⟩
 ·have hrw:(s.2.2.2.2.2.2.1)=Q4 s (kn:Int):=by unfold Q4;rw [if_pos (show QB s=true from hred)];try rfl
  refine ⟨fun h=>?_,fun h=>R_eq ?_,fun h=>?_⟩
  ·simp at h
   exact ⟨by omega,by omega,by omega⟩
  ·rw [hno]
   rw [YL,← hrw]
   simp only [Bool.or_eq_true,bne_iff_ne,Bool.not_eq_true'] at h
   rcases h with h | h
   ·have:((s.2.2.2.2.2.2.1).length==s.2.2.1.length+1)=false:=by rw [beq_eq_false_iff_ne];omega
    simp [this]
   ·have h':Zs (sOps s) (s.2.2.2.2.2.2.1) (sOps s).length=false:=h
    simp [h']
  ·simp only [Bool.or_eq_false_iff,bne_eq_false_iff_eq,Bool.not_eq_false'] at h
   have h3:((Q4 s (kn:Int)).length==(sOps s).length+1)=true:=by rw [← hrw,beq_iff_eq];have:=h.1;((try simp only [sPc,QG,sOps,QC,QB,Qn,QI,sX,sY,sG,sD,QF,QJ,sSat,QN,QO,QM,QP] at *);omega)
   have h4:Zs (sOps s) (Q4 s (kn:Int)) (sOps s).length=true:=by rw [← hrw];exact h.2
   refine ⟨fun hl=>⟨⟨⟨by omega,by have:=h.1;omega⟩,by have:=h.1;omega⟩,?_⟩,fun hl=>?_⟩
   ·have hr:(s.2.2.2.2.2.2.1)=Q4 s (kn:Int):=by unfold Q4;rw [if_pos (show QB s=true from hred)];try rfl
    have hd:(((QT (gtd [] (s.2.2.2.2.2.2.1) s.2.2.1.length) t).1),((QT (gtd [] (s.2.2.2.2.2.2.1) s.2.2.1.length) t).2))=bwdD s (kn:Int) t:=by unfold bwdD;rw [if_pos (show QC s=true from hl),← hr];try rfl
    have hb:ZT s (kn:Int) t=Qq ((QT (gtd [] (s.2.2.2.2.2.2.1) s.2.2.1.length) t).1) (Zi (Zx s)):=by
     rw [YL,← hd,h1,h3,h4,decide_eq_true h2];rfl
    refine ⟨fun h=>R_eq ?_,fun h=>?_⟩
    ·rw [hno (by rw [hb];simpa using h)]
    ·have hv:Qq ((QT (gtd [] (s.2.2.2.2.2.2.1) s.2.2.1.length) t).1) (Zi (Zx s))=true:=by simpa using h
     have hok:ZT s (kn:Int) t=true:=by rw [hb,hv]
     have hv6:=JO hv
     have hout:=QcM (t:=t) (rows:=s.2.2.2.2.2.2.1) (d:=(QT (gtd [] (s.2.2.2.2.2.2.1) s.2.2.1.length) t).1) (b:=(QT (gtd [] (s.2.2.2.2.2.2.1) s.2.2.1.length) t).2) (by rw [show Qr (Qn s) m=(kn:Int) from hkf];exact hok) (by rw [show Qr (Qn s) m=(kn:Int) from hkf] ;exact hr) (by rw [show Qr (Qn s) m=(kn:Int) from hkf] ;exact hd)
     have hrl:(s.2.2.2.2.2.2.1).length=s.2.2.1.length+1:=by rw [hr];rw [beq_iff_eq] at h3;exact h3
     have hbg:=Qbx s.2.2.1 (s.2.2.2.2.2.2.1) ((QT (gtd [] (s.2.2.2.2.2.2.1) s.2.2.1.length) t).1)
     refine ⟨⟨⟨by omega,by rw [Zz];((try simp only [sPc,QG,sOps,QC,QB,Qn,QI,sX,sY,sG,sD,QF,QJ,sSat,QN,QO,QM,QP] at *);omega)⟩,by omega⟩,?_,⟨⟨by omega,by omega,by omega⟩,⟨by omega,by omega,by omega⟩,?_,by omega⟩,R_eq ?_⟩
     ·unfold ZB
      simp only [QaH,QK,Q0]
      ((try simp only [sPc,QG,sOps,QC,QB,Qn,QI,sX,sY,sG,sD,QF,QJ,sSat,QN,QO,QM,QP] at *);omega)
     ·rw [hl2,Zz];((try simp only [sPc,QG,sOps,QC,QB,Qn,QI,sX,sY,sG,sD,QF,QJ,sSat,QN,QO,QM,QP] at *);omega)
     ·rw [Qdi hk,hout,show Qr (Qn s) m=(kn:Int) from hkf,Int.toNat_natCast]
   ·have hr:(s.2.2.2.2.2.2.1)=Q4 s (kn:Int):=by unfold Q4;rw [if_pos (show QB s=true from hred)];try rfl
    have hd:((s.2.2.2.2.2.2.2.2.2.1),(false))=bwdD s (kn:Int) t:=by unfold bwdD;rw [if_neg (by rw [show QC s=false from hl];simp)];try rfl
    have hb:ZT s (kn:Int) t=Qq (s.2.2.2.2.2.2.2.2.2.1) (Zi (Zx s)):=by
     rw [YL,← hd,h1,h3,h4,decide_eq_true h2];rfl
    refine ⟨fun h=>R_eq ?_,fun h=>?_⟩
    ·rw [hno (by rw [hb];simpa using h)]
    ·have hv:Qq (s.2.2.2.2.2.2.2.2.2.1) (Zi (Zx s))=true:=by simpa using h
     have hok:ZT s (kn:Int) t=true:=by rw [hb,hv]
     have hv6:=JO hv
     have hout:=QcM (t:=t) (rows:=s.2.2.2.2.2.2.1) (d:=s.2.2.2.2.2.2.2.2.2.1) (b:=false) (by rw [show Qr (Qn s) m=(kn:Int) from hkf];exact hok) (by rw [show Qr (Qn s) m=(kn:Int) from hkf] ;exact hr) (by rw [show Qr (Qn s) m=(kn:Int) from hkf] ;exact hd)
     have hrl:(s.2.2.2.2.2.2.1).length=s.2.2.1.length+1:=by rw [hr];rw [beq_iff_eq] at h3;exact h3
     have hbg:=Qbx s.2.2.1 (s.2.2.2.2.2.2.1) (s.2.2.2.2.2.2.2.2.2.1)
     refine ⟨⟨⟨by omega,by rw [Zz];((try simp only [sPc,QG,sOps,QC,QB,Qn,QI,sX,sY,sG,sD,QF,QJ,sSat,QN,QO,QM,QP] at *);omega)⟩,by omega⟩,?_,⟨⟨by omega,by omega,by omega⟩,⟨by omega,by omega,by omega⟩,?_,by omega⟩,R_eq ?_⟩
     ·unfold ZB
      simp only [QaH,QK,Q0]
      ((try simp only [sPc,QG,sOps,QC,QB,Qn,QI,sX,sY,sG,sD,QF,QJ,sSat,QN,QO,QM,QP] at *);omega)
     ·rw [hl2,Zz];((try simp only [sPc,QG,sOps,QC,QB,Qn,QI,sX,sY,sG,sD,QF,QJ,sSat,QN,QO,QM,QP] at *);omega)
     ·rw [Qdi hk,hout,show Qr (Qn s) m=(kn:Int) from hkf,Int.toNat_natCast]
 ·have hrw:((gtd Qw s.2.2.2.2.2.1 kn).2)=Q4 s (kn:Int):=by unfold Q4;rw [if_neg (by rw [show QB s=false from hred];simp)];try rfl
  refine ⟨fun h=>?_,fun h=>R_eq ?_,fun h=>?_⟩
  ·simp at h
   exact ⟨by omega,by omega,by omega⟩
  ·rw [hno]
   rw [YL,← hrw]
   simp only [Bool.or_eq_true,bne_iff_ne,Bool.not_eq_true'] at h
   rcases h with h | h
   ·have:(((gtd Qw s.2.2.2.2.2.1 kn).2).length==s.2.2.1.length+1)=false:=by rw [beq_eq_false_iff_ne];omega
    simp [this]
   ·have h':Zs (sOps s) ((gtd Qw s.2.2.2.2.2.1 kn).2) (sOps s).length=false:=h
    simp [h']
  ·simp only [Bool.or_eq_false_iff,bne_eq_false_iff_eq,Bool.not_eq_false'] at h
   have h3:((Q4 s (kn:Int)).length==(sOps s).length+1)=true:=by rw [← hrw,beq_iff_eq];have:=h.1;((try simp only [sPc,QG,sOps,QC,QB,Qn,QI,sX,sY,sG,sD,QF,QJ,sSat,QN,QO,QM,QP] at *);omega)
   have h4:Zs (sOps s) (Q4 s (kn:Int)) (sOps s).length=true:=by rw [← hrw];exact h.2
   refine ⟨fun hl=>⟨⟨by omega,by have:=h.1;omega⟩,?_⟩,fun hl=>?_⟩
   ·have hr:((gtd Qw s.2.2.2.2.2.1 kn).2)=Q4 s (kn:Int):=by unfold Q4;rw [if_neg (by rw [show QB s=false from hred];simp)];try rfl
    have hd:(((QT (gtd [] ((gtd Qw s.2.2.2.2.2.1 kn).2) s.2.2.1.length) t).1),((QT (gtd [] ((gtd Qw s.2.2.2.2.2.1 kn).2) s.2.2.1.length) t).2))=bwdD s (kn:Int) t:=by unfold bwdD;rw [if_pos (show QC s=true from hl),← hr];try rfl
    have hb:ZT s (kn:Int) t=Qq ((QT (gtd [] ((gtd Qw s.2.2.2.2.2.1 kn).2) s.2.2.1.length) t).1) (Zi (Zx s)):=by
     rw [YL,← hd,h1,h3,h4,decide_eq_true h2];rfl
    refine ⟨fun h=>R_eq ?_,fun h=>?_⟩
    ·rw [hno (by rw [hb];simpa using h)]
    ·have hv:Qq ((QT (gtd [] ((gtd Qw s.2.2.2.2.2.1 kn).2) s.2.2.1.length) t).1) (Zi (Zx s))=true:=by simpa using h
     have hok:ZT s (kn:Int) t=true:=by rw [hb,hv]
     have hv6:=JO hv
     have hout:=QcM (t:=t) (rows:=(gtd Qw s.2.2.2.2.2.1 kn).2) (d:=(QT (gtd [] ((gtd Qw s.2.2.2.2.2.1 kn).2) s.2.2.1.length) t).1) (b:=(QT (gtd [] ((gtd Qw s.2.2.2.2.2.1 kn).2) s.2.2.1.length) t).2) (by rw [show Qr (Qn s) m=(kn:Int) from hkf];exact hok) (by rw [show Qr (Qn s) m=(kn:Int) from hkf] ;exact hr) (by rw [show Qr (Qn s) m=(kn:Int) from hkf] ;exact hd)
     have hrl:((gtd Qw s.2.2.2.2.2.1 kn).2).length=s.2.2.1.length+1:=by rw [hr];rw [beq_iff_eq] at h3;exact h3
     have hbg:=Qbx s.2.2.1 ((gtd Qw s.2.2.2.2.2.1 kn).2) ((QT (gtd [] ((gtd Qw s.2.2.2.2.2.1 kn).2) s.2.2.1.length) t).1)
     refine ⟨⟨⟨by omega,by rw [Zz];((try simp only [sPc,QG,sOps,QC,QB,Qn,QI,sX,sY,sG,sD,QF,QJ,sSat,QN,QO,QM,QP] at *);omega)⟩,by omega⟩,?_,⟨⟨by omega,by omega,by omega⟩,⟨by omega,by omega,by omega⟩,?_,by omega⟩,R_eq ?_⟩
     ·unfold ZB
      simp only [QaH,QK,Q0]
      ((try simp only [sPc,QG,sOps,QC,QB,Qn,QI,sX,sY,sG,sD,QF,QJ,sSat,QN,QO,QM,QP] at *);omega)
     ·rw [hl2,Zz];((try simp only [sPc,QG,sOps,QC,QB,Qn,QI,sX,sY,sG,sD,QF,QJ,sSat,QN,QO,QM,QP] at *);omega)
     ·rw [Qdi hk,hout,show Qr (Qn s) m=(kn:Int) from hkf,Int.toNat_natCast]
   ·have hr:((gtd Qw s.2.2.2.2.2.1 kn).2)=Q4 s (kn:Int):=by unfold Q4;rw [if_neg (by rw [show QB s=false from hred];simp)];try rfl
    have hd:((s.2.2.2.2.2.2.2.2.2.1),(false))=bwdD s (kn:Int) t:=by unfold bwdD;rw [if_neg (by rw [show QC s=false from hl];simp)];try rfl
    have hb:ZT s (kn:Int) t=Qq (s.2.2.2.2.2.2.2.2.2.1) (Zi (Zx s)):=by
     rw [YL,← hd,h1,h3,h4,decide_eq_true h2];rfl
    refine ⟨fun h=>R_eq ?_,fun h=>?_⟩
    ·rw [hno (by rw [hb];simpa using h)]
    ·have hv:Qq (s.2.2.2.2.2.2.2.2.2.1) (Zi (Zx s))=true:=by simpa using h
     have hok:ZT s (kn:Int) t=true:=by rw [hb,hv]
     have hv6:=JO hv
     have hout:=QcM (t:=t) (rows:=(gtd Qw s.2.2.2.2.2.1 kn).2) (d:=s.2.2.2.2.2.2.2.2.2.1) (b:=false) (by rw [show Qr (Qn s) m=(kn:Int) from hkf];exact hok) (by rw [show Qr (Qn s) m=(kn:Int) from hkf] ;exact hr) (by rw [show Qr (Qn s) m=(kn:Int) from hkf] ;exact hd)
     have hrl:((gtd Qw s.2.2.2.2.2.1 kn).2).length=s.2.2.1.length+1:=by rw [hr];rw [beq_iff_eq] at h3;exact h3
     have hbg:=Qbx s.2.2.1 ((gtd Qw s.2.2.2.2.2.1 kn).2) (s.2.2.2.2.2.2.2.2.2.1)
     refine ⟨⟨⟨by omega,by rw [Zz];((try simp only [sPc,QG,sOps,QC,QB,Qn,QI,sX,sY,sG,sD,QF,QJ,sSat,QN,QO,QM,QP] at *);omega)⟩,by omega⟩,?_,⟨⟨by omega,by omega,by omega⟩,⟨by omega,by omega,by omega⟩,?_,by omega⟩,R_eq ?_⟩
     ·unfold ZB
      simp only [QaH,QK,Q0]
      ((try simp only [sPc,QG,sOps,QC,QB,Qn,QI,sX,sY,sG,sD,QF,QJ,sSat,QN,QO,QM,QP] at *);omega)
     ·rw [hl2,Zz];((try simp only [sPc,QG,sOps,QC,QB,Qn,QI,sX,sY,sG,sD,QF,QJ,sSat,QN,QO,QM,QP] at *);omega)
     ·rw [Qdi hk,hout,show Qr (Qn s) m=(kn:Int) from hkf,Int.toNat_natCast]
theorem QGh:Qf Tryz.prog Qi3:=Qj fun x h=>Qx6 x.1 x.2.1 x.2.2.1 h
def Z6 (t:Qc):TRes:=zra (.a (Tup.cells Qs t))
def Qhr:TRow:=Qg 31 [(.a Qs),(.c TI),(.c (.sl [TI]))] fun x=>(some (QaP x.1 x.2.1 x.2.2.1),Z6 (Qu x.1 x.2.1 x.2.2.1))
def Qb2:TTab:=⟨[QkA,QjX,QgN,YU,QhO,Qjk,Qkt],false⟩
def Qlh:TCode :=
 (zsq [(zsq [(.reg [zmv 53 12,zfa 54 3 2,zld 55 54 1,zle 56 55,zbi 57 .lss 53 56]),(.cond 57 .skip (.exit 0))]),(.block 1 (zsq [(.draw [zmv 60 9,zmv 61 12,zia 62 60 61 [(.sl [TI])],zfa 63 62 0,zld 64 63 1,zca 65 97 [64],zno 66 65,zmv 67 66,.grp 67 false [zmv 68 9,zmv 69 12,zia 70 68 69 [(.sl [TI])],zfa 71 70 0,zld 72 71 1,zle 73 72,zfa 74 3 2,zld 75 74 1,zmv 76 12,zia 77 75 76 ctOp,zfa 78 77 1,zld 79 78 1,zbi 80 .neq 73 79] 81 80] []),(.cond 81 (zsq [(.reg [zLd 82 7 14,zst 6 82 14]),.ret]) .skip)])),(.reg [zmv 58 12,zbi 59 .add 58 (zki 1),zmv 12 59])])
def Qmh:List (Nat × Md):=[(2,.one .d),(3,.b (zds 14)),(6,.b (zds 14)),(7,.b [.d,.d,.d,.d,.d,.f,.d,.d,.d,.d,.d,.d,.d,.d]),(8,.one .d),(9,.one .d),(10,.one .d),(11,.one .d),(12,.one .d)]
def Qvm:TCode :=
 (zsq [(zsq [(.reg [zmv 99 10,zle 100 99,zfa 101 3 2,zld 102 101 1,zfa 103 3 2,zld 104 103 1,zle 105 104,zbi 106 .sub 105 (zki 1),zia 107 102 106 ctOp,zfa 108 107 2,zld 109 108 1,zbi 110 .neq 100 109,zmv 111 110,.grp 111 false [zmv 112 10,zca 113 97 [112],zno 114 113] 115 114]),(.cond 115 (zsq [(.reg [zLd 116 7 14,zst 6 116 14]),.ret]) .skip)]),(.reg [zfa 118 3 2,zld 119 118 1,zmv 120 9,zmv 121 10,zca 122 108 [119,120,121],zmv 117 122,zex 123 117 0,zex 124 117 1,zex 125 117 2,zmv 15 123,zmv 16 124,zmv 17 125]),(.reg [zfa 126 3 11,zLd 127 126 3,zmv 128 15,zmv 129 11,zmv 130 129,.grp 130 false [zmv 131 17] 132 131,zop 133 (.build (z0s QE) [(0,1,128),(2,1,132)]),zca 134 109 [127,133],zop 18 (.new 37 (z0s QE)),zst 18 134 3]),(.reg [zLd 135 18 3,zfa 136 7 11,zst 136 135 3]),(.reg [zmv 137 16,zfa 138 7 10,zst 138 137 1]),(.reg [zop 139 (.bsl 3 [TI] []),zfa 140 7 9,zst 140 139 1]),(.reg [zop 141 (.bsl 106 [(.sl [TI])] []),zfa 142 7 6,zst 142 141 1]),(.draw [zfa 143 7 5,zld 144 143 1,zmv 145 8,zop 146 (.slc 144 none (some 145) Ql),zfa 147 7 5,zld 148 147 1,zmv 149 8,zbi 150 .add 149 (zki 1),zop 151 (.slc 148 (some 150) none Ql),zop 152 (.app 146 151 108 Ql),zfa 153 7 5,zst 153 152 1] []),(.reg [zLd 154 7 14,zst 6 154 14]),.ret])
def QCc:List (Nat × Md):=[(3,.b (zds 14)),(6,.b (zds 14)),(7,.b [.d,.d,.d,.d,.d,.f,.d,.d,.d,.d,.d,.d,.d,.d]),(8,.one .d),(9,.one .d),(10,.one .d),(11,.one .d)]
def QAg:TCode:=.wk QCc Qvm
def Qop:TCode :=
 (zsq [(zsq [(.reg [zfa 83 3 3,zld 84 83 1]),(.cond 84 (zsq [(.reg [zmv 86 9,zfa 87 3 2,zld 88 87 1,zle 89 88,zia 90 86 89 [(.sl [TI])],zfa 91 90 0,zld 92 91 1,zmv 93 2,zca 94 107 [92,93],zmv 85 94,zex 95 85 0,zex 96 85 1,zmv 13 95,zmv 14 96]),(.reg [zmv 97 13,zmv 10 97]),(.reg [zmv 98 14,zmv 11 98])]) .skip)]),QAg])
def QqU:TCode :=
 (zsq [(.reg [zfa 43 3 9,zld 44 43 1,zmv 10 44]),(.reg [zmv 11 (zkb false)]),(zsq [(.reg [zmv 45 9,zle 46 45,zfa 47 3 2,zld 48 47 1,zle 49 48,zbi 50 .add 49 (zki 1),zbi 51 .neq 46 50]),(.cond 51 (zsq [(.reg [zLd 52 7 14,zst 6 52 14]),.ret]) .skip)]),(zsq [(.reg [zmv 12 (zki 0)]),(.block 0 (.loop Qmh Qlh))]),Qop])
def QxS:List (Nat × Md):=[(2,.one .d),(3,.b (zds 14)),(6,.b (zds 14)),(7,.b [.d,.d,.d,.d,.d,.f,.d,.d,.d,.d,.d,.d,.d,.d]),(8,.one .d),(9,.one .d)]
def QC1:TCode:=.wk QxS QqU
def QHg:TCode :=
 (zsq [(.reg [zop 3 (.box 39 0 14),zop 6 (.new 39 (z0s Qs))]),(.reg [zLd 19 3 14,zca 20 61 [19],zop 7 (.new 39 (z0s Qs)),zst 7 20 14]),(.reg [zfa 21 3 5,zld 22 21 1,zmv 23 1,zca 24 62 [22,23],zmv 8 24]),(zsq [(.reg [zLd 25 3 14,zca 26 63 [25],zno 27 26,zmv 28 27,.grp 28 false [zmv 29 8,zbi 30 .lss 29 (zki 0)] 31 30]),(.cond 31 (zsq [(.reg [zLd 32 7 14,zst 6 32 14]),.ret]) .skip)]),(.reg [zfa 33 3 5,zld 34 33 1,zmv 35 8,zia 36 34 35 Ql,zfa 37 36 1,zld 38 37 1,zmv 9 38]),(zsq [(.reg [zfa 39 3 4,zld 40 39 1]),(.cond 40 (.reg [zfa 41 3 6,zld 42 41 1,zmv 9 42]) .skip)]),QC1])
def QsP:List (ARv × Md):=[(.l 6 14 true,.b (zds 14))]
def Qgs:Qb:=TQ 0 0 QsP K
@[irreducible] def Qfu (s:Qc) (m:Int) (inn:List (List Int)) (y5:List Qe) (d:List Int) (sat:Bool):Prop:=let z1:=id (α:=Qc) s
 tawp Qb2 0 Qvm (Qgs K) ⟨[(3,(.p 0 0 0)),(6,(.p 1 0 0)),(7,(.p 3 0 0)),(8,(zci (Qr s.2.2.2.2.2.1 m))),(9,(zcs [(.sl [TI])] inn)),(10,(zcs [TI] d)),(11,(zcb sat))],[(0,(.box (Tup.cells Qs s))),(1,(.box (Tup.cells Qs ((0:Int),[],[],false,false,[],[],[],[],[],[],[],(0:Int),false)))),(2,(.sl 108 Ql .ow (List.take y5.length y5))),(3,(.box [(zci (z1.1)),(zcs Qt (z1.2.1)),(zcs ctOp (z1.2.2.1)),(zcb (z1.2.2.2.1)),(zcb (z1.2.2.2.2.1)),(.r Ql 2 0 ((List.take y5.length y5).length)),(zcs [(.sl [TI])] (z1.2.2.2.2.2.2.1)),(zcs [TI] (z1.2.2.2.2.2.2.2.1)),(zcs [TI] (z1.2.2.2.2.2.2.2.2.1)),(zcs [TI] (z1.2.2.2.2.2.2.2.2.2.1)),(zcs [TI] (z1.2.2.2.2.2.2.2.2.2.2.1)),(zcs [(.sl [TI])] (z1.2.2.2.2.2.2.2.2.2.2.2.1)),(zci (z1.2.2.2.2.2.2.2.2.2.2.2.2.1)),(zcb (z1.2.2.2.2.2.2.2.2.2.2.2.2.2))]))],4⟩
def QJb:Qb:=Qseq (tawp Qb2 0 Qop (Qgs K)) (Qgs K)
def QHE:Qb:=Qblk 0 (QJb K)
def Qcv (s:Qc) (m:Int) (t:List Int) (inn:List (List Int)) (i:Int) (y5:List Qe):Prop:=let z1:=id (α:=Qc) s
 Loop Qb2 0 Qmh Qlh (QHE K) ⟨[(2,(zcs [TI] t)),(3,(.p 0 0 0)),(6,(.p 1 0 0)),(7,(.p 3 0 0)),(8,(zci (Qr s.2.2.2.2.2.1 m))),(9,(zcs [(.sl [TI])] inn)),(10,(zcs [TI] s.2.2.2.2.2.2.2.2.2.1)),(11,(zcb false)),(12,(zci i))],[(0,(.box (Tup.cells Qs s))),(1,(.box (Tup.cells Qs ((0:Int),[],[],false,false,[],[],[],[],[],[],[],(0:Int),false)))),(2,(.sl 108 Ql .ow y5)),(3,(.box [(zci (z1.1)),(zcs Qt (z1.2.1)),(zcs ctOp (z1.2.2.1)),(zcb (z1.2.2.2.1)),(zcb (z1.2.2.2.2.1)),(.r Ql 2 0 y5.length),(zcs [(.sl [TI])] (z1.2.2.2.2.2.2.1)),(zcs [TI] (z1.2.2.2.2.2.2.2.1)),(zcs [TI] (z1.2.2.2.2.2.2.2.2.1)),(zcs [TI] (z1.2.2.2.2.2.2.2.2.2.1)),(zcs [TI] (z1.2.2.2.2.2.2.2.2.2.2.1)),(zcs [(.sl [TI])] (z1.2.2.2.2.2.2.2.2.2.2.2.1)),(zci (z1.2.2.2.2.2.2.2.2.2.2.2.2.1)),(zcb (z1.2.2.2.2.2.2.2.2.2.2.2.2.2))]))],4⟩
@[irreducible] def Qe0 (s:Qc) (m:Int) (t:List Int) (inn:List (List Int)):Prop:=let z1:=id (α:=Qc) s
 let z2:=List.take ((z1.2.2.2.2.2.1).length) (z1.2.2.2.2.2.1)
 tawp Qb2 0 QqU (Qgs K) ⟨[(2,(zcs [TI] t)),(3,(.p 0 0 0)),(6,(.p 1 0 0)),(7,(.p 3 0 0)),(8,(zci (Qr s.2.2.2.2.2.1 m))),(9,(zcs [(.sl [TI])] inn))],[(0,(.box (Tup.cells Qs s))),(1,(.box (Tup.cells Qs ((0:Int),[],[],false,false,[],[],[],[],[],[],[],(0:Int),false)))),(2,(.sl 108 Ql .ow z2)),(3,(.box [(zci (z1.1)),(zcs Qt (z1.2.1)),(zcs ctOp (z1.2.2.1)),(zcb (z1.2.2.2.1)),(zcb (z1.2.2.2.2.1)),(.r Ql 2 0 (z2.length)),(zcs [(.sl [TI])] (z1.2.2.2.2.2.2.1)),(zcs [TI] (z1.2.2.2.2.2.2.2.1)),(zcs [TI] (z1.2.2.2.2.2.2.2.2.1)),(zcs [TI] (z1.2.2.2.2.2.2.2.2.2.1)),(zcs [TI] (z1.2.2.2.2.2.2.2.2.2.2.1)),(zcs [(.sl [TI])] (z1.2.2.2.2.2.2.2.2.2.2.2.1)),(zci (z1.2.2.2.2.2.2.2.2.2.2.2.2.1)),(zcb (z1.2.2.2.2.2.2.2.2.2.2.2.2.2))]))],4⟩
theorem Qy4 (s:Qc) (m:Int) (inn:List (List Int)) (y5:List Qe) (d:List Int) (sat:Bool) (h :
 let z2:=id (α:=Qc) s
 let z3:=Qr s.2.2.2.2.2.1 m
 let z5:=List.take y5.length y5
 let z1:=List.take (Int.toNat ((z5.length:Nat):Int)-Int.toNat (w64 (z3+(1:Int)))) (List.drop (0+Int.toNat (w64 (z3+(1:Int)))) z5)
 let z6:=Int.toNat z3-Int.toNat (0:Int)
 let z7:=Qy s.2.2.1 inn d
 let z4:=Ze s.2.2.2.2.2.2.2.2.2.2.2 (z7.1,(0:Int),(sat||(z7.2.2)))
 let z8:=w64 (((s.2.2.1).length:Int)-(1:Int))
 (((0:Int)≤w64 (((s.2.2.1).length:Int)-(1:Int))∧Int.toNat z8<(s.2.2.1).length)∧(zif (((d.length:Int) != ((gtd dOp s.2.2.1 (Int.toNat z8)).2.2.1))||(!(QA d))) (K (Z6 (z2.1,z2.2.1,z2.2.2.1,z2.2.2.2.1,z2.2.2.2.2.1,(List.take (z5.length) (List.drop 0 z5)),z2.2.2.2.2.2.2.1,z2.2.2.2.2.2.2.2.1,z2.2.2.2.2.2.2.2.2.1,z2.2.2.2.2.2.2.2.2.2.1,z2.2.2.2.2.2.2.2.2.2.2.1,z2.2.2.2.2.2.2.2.2.2.2.2.1,z2.2.2.2.2.2.2.2.2.2.2.2.2.1,z2.2.2.2.2.2.2.2.2.2.2.2.2.2))) ((Qhu s.2.2.1 inn d)∧((ZB (α:=Qm) (β:=Qm) s.2.2.2.2.2.2.2.2.2.2.2 (z7.1,(0:Int),(sat||(z7.2.2))))∧((((0:Int)≤(0:Int)∧(0:Int)≤z3∧z3≤((z5.length:Nat):Int))∧(((0:Int)≤w64 (z3+(1:Int))∧w64 (z3+(1:Int))≤((z5.length:Nat):Int)∧((z5.length:Nat):Int)≤((z5.length:Nat):Int))∧((z6=z5.length∨z6+z1.length≤z5.length)∧z6+z1.length≤big)))∧K (Z6 (z2.1,z2.2.1,z2.2.2.1,z2.2.2.2.1,z2.2.2.2.2.1,(List.take (z6+z1.length) (List.drop 0 ((List.take z6 z5)++z1))),([]:List (List Int)),z2.2.2.2.2.2.2.2.1,z2.2.2.2.2.2.2.2.2.1,([]:List Int),z7.2.1,z4.1,z4.2.1,z4.2.2)))))))):Hold (Qfu K s m inn y5 d sat) :=
 Hold.of (by kernel_rfl) h
theorem QoH (s:Qc) (m:Int) (t:List Int) (inn:List (List Int)) (i:Int) (y5:List Qe) (h :
 (zif (decide (i<((s.2.2.1).length:Int))) ((((0:Int)≤i∧Int.toNat i<inn.length)∧((!(!(QA (gtd ([]:List Int) inn (Int.toNat i)))))=true→(((0:Int)≤i∧Int.toNat i<inn.length)∧((0:Int)≤i∧Int.toNat i<(s.2.2.1).length))))∧(zif ((!(QA (gtd ([]:List Int) inn (Int.toNat i))))||(((gtd ([]:List Int) inn (Int.toNat i)).length:Int) != ((gtd dOp s.2.2.1 (Int.toNat i)).2.1))) (K (Z6 ((id (α:=Qc) s).1,(id (α:=Qc) s).2.1,(id (α:=Qc) s).2.2.1,(id (α:=Qc) s).2.2.2.1,(id (α:=Qc) s).2.2.2.2.1,(List.take y5.length (List.drop 0 y5)),(id (α:=Qc) s).2.2.2.2.2.2.1,(id (α:=Qc) s).2.2.2.2.2.2.2.1,(id (α:=Qc) s).2.2.2.2.2.2.2.2.1,(id (α:=Qc) s).2.2.2.2.2.2.2.2.2.1,(id (α:=Qc) s).2.2.2.2.2.2.2.2.2.2.1,(id (α:=Qc) s).2.2.2.2.2.2.2.2.2.2.2.1,(id (α:=Qc) s).2.2.2.2.2.2.2.2.2.2.2.2.1,(id (α:=Qc) s).2.2.2.2.2.2.2.2.2.2.2.2.2))) (Qcv K s m t inn (w64 (i+(1:Int))) (List.take y5.length y5)))) (zif s.2.2.2.1 (((0:Int)≤((s.2.2.1).length:Int)∧Int.toNat ((s.2.2.1).length:Int)<inn.length)∧(Qfu K s m inn y5 ((QT (gtd ([]:List Int) inn (Int.toNat ((s.2.2.1).length:Int))) t).1) ((QT (gtd ([]:List Int) inn (Int.toNat ((s.2.2.1).length:Int))) t).2))) (Qfu K s m inn y5 s.2.2.2.2.2.2.2.2.2.1 false)))):Qcv K s m t inn i y5 :=
 Loop.of (by kernel_rfl) h
theorem QBT (s:Qc) (m:Int) (t:List Int) (inn:List (List Int)) (h :
 let z1:=id (α:=Qc) s
 let z2:=List.take ((z1.2.2.2.2.2.1).length) (z1.2.2.2.2.2.1)
 (zif ((inn.length:Int) != (w64 (((s.2.2.1).length:Int)+(1:Int)))) (K (Z6 (z1.1,z1.2.1,z1.2.2.1,z1.2.2.2.1,z1.2.2.2.2.1,(List.take (z2.length) (List.drop 0 z2)),z1.2.2.2.2.2.2.1,z1.2.2.2.2.2.2.2.1,z1.2.2.2.2.2.2.2.2.1,z1.2.2.2.2.2.2.2.2.2.1,z1.2.2.2.2.2.2.2.2.2.2.1,z1.2.2.2.2.2.2.2.2.2.2.2.1,z1.2.2.2.2.2.2.2.2.2.2.2.2.1,z1.2.2.2.2.2.2.2.2.2.2.2.2.2))) (Qcv K s m t inn 0 (List.take (z2.length) z2)))):Hold (Qe0 K s m t inn) :=
 Hold.of (by kernel_rfl) h
theorem QJJ (s:Qc) (m:Int) (t:List Int) (h :
 ((QH (α:=Qc) s)∧(zif ((!(QU s))||(decide ((Qr s.2.2.2.2.2.1 m)<(0:Int)))) (K (Z6 ((id (α:=Qc) s).1,(id (α:=Qc) s).2.1,(id (α:=Qc) s).2.2.1,(id (α:=Qc) s).2.2.2.1,(id (α:=Qc) s).2.2.2.2.1,(List.take (((id (α:=Qc) s).2.2.2.2.2.1).length) (List.drop 0 ((id (α:=Qc) s).2.2.2.2.2.1))),(id (α:=Qc) s).2.2.2.2.2.2.1,(id (α:=Qc) s).2.2.2.2.2.2.2.1,(id (α:=Qc) s).2.2.2.2.2.2.2.2.1,(id (α:=Qc) s).2.2.2.2.2.2.2.2.2.1,(id (α:=Qc) s).2.2.2.2.2.2.2.2.2.2.1,(id (α:=Qc) s).2.2.2.2.2.2.2.2.2.2.2.1,(id (α:=Qc) s).2.2.2.2.2.2.2.2.2.2.2.2.1,(id (α:=Qc) s).2.2.2.2.2.2.2.2.2.2.2.2.2))) (((0:Int)≤(Qr s.2.2.2.2.2.1 m)∧Int.toNat (Qr s.2.2.2.2.2.1 m)<(s.2.2.2.2.2.1).length)∧(zif s.2.2.2.2.1 (Qe0 K s m t s.2.2.2.2.2.2.1) (Qe0 K s m t ((gtd Qw s.2.2.2.2.2.1 (Int.toNat (Qr s.2.2.2.2.2.1 m))).2))))))):Hold (tawp Qb2 (0+0) QHg (TQ 0 0 QsP K) (Qd [(.a (Tup.cells Qs s)),(.c TI m),(.c (.sl [TI]) t)])) :=
 Hold.of (by kernel_rfl) h
theorem QAO (s:Qc) (m:Int) (t:List Int) (hp:QaP s m t):TCon Tryz.prog 31 [(.a (Tup.cells Qs s)),(.c TI m),(.c (.sl [TI]) t)] (Z6 (Qu s m t)):=by
 refine Qh rfl fun hb=>tcg (Γ:=Qb2) (n:=155) (sg:=Qhr.sg) Qi (TOkL.cons QEo (TOkL.cons QFN (TOkL.cons Qyi (TOkL.cons JW (TOkL.cons QGr (TOkL.cons QI9 (TOkL.cons Qw2 TOkL.nil))))))) (by kernel_rfl) (by kernel_rfl) (QJJ _ s m t ?_)
 have hl_s_1:(s.2.1).length≤9223372036854775807:=hb.1.2.1.1
 have hl_s_2:(s.2.2.1).length≤9223372036854775807:=hb.1.2.2.1.1
 have hl_s_5:(s.2.2.2.2.2.1).length≤9223372036854775807:=hb.1.2.2.2.2.2.1.1
 have hl_s_6:(s.2.2.2.2.2.2.1).length≤9223372036854775807:=hb.1.2.2.2.2.2.2.1.1
 have hl_s_7:(s.2.2.2.2.2.2.2.1).length≤9223372036854775807:=hb.1.2.2.2.2.2.2.2.1.1
 have hl_s_8:(s.2.2.2.2.2.2.2.2.1).length≤9223372036854775807:=hb.1.2.2.2.2.2.2.2.2.1.1
 have hl_s_9:(s.2.2.2.2.2.2.2.2.2.1).length≤9223372036854775807:=hb.1.2.2.2.2.2.2.2.2.2.1.1
 have hl_s_10:(s.2.2.2.2.2.2.2.2.2.2.1).length≤9223372036854775807:=hb.1.2.2.2.2.2.2.2.2.2.2.1.1
 have hl_s_11:(s.2.2.2.2.2.2.2.2.2.2.2.1).length≤9223372036854775807:=hb.1.2.2.2.2.2.2.2.2.2.2.2.1.1
 have hl_t:t.length≤9223372036854775807:=hb.2.2.1.1
 have hp':Sz.sz s≤2147483648:=hp
 have hs:=Qbh s
 have l1:=Jc (Qn s)
 obtain ⟨kf,hkf⟩:∃ kf,Qr s.2.2.2.2.2.1 m=kf:=⟨_,rfl⟩
 have hf:=Qqu (Qn s) m
 rw [show Qr (Qn s) m=kf from hkf] at hf
 have hno:ZT s kf t=false→(Qu s m t)=s:=fun h=>Qpl (by rw [show Qr (Qn s) m=kf from hkf,h];simp)
 have k4:QU s=true→0≤kf→∀ rows d sat,rows=Q4 s kf→(d,sat)=bwdD s kf t→((Q4 s kf).length==(sOps s).length+1)=true→Zs (sOps s) (Q4 s kf) (sOps s).length=true→Qfu (fun r'=>r'=Z6 (Qu s m t)) s m rows s.2.2.2.2.2.1 d sat:=by
  intro h1 h2 rows d sat hr hd h3 h4
  have hm:=QbN h1
  have hml:1≤s.2.2.1.length∧s.2.2.1.length≤8:=YX hm
  have hb:ZT s kf t=Qq d (Zi (Zx s)):=by
   rw [YL,← hd,h1,h3,h4,decide_eq_true h2];rfl
  obtain ⟨kn,hkn⟩:∃ kn:Nat,kf=kn:=⟨kf.toNat,by omega⟩
  have hw:w64 ((s.2.2.1.length:Int)-1)=((s.2.2.1.length-1:Nat):Int):=by rw [Qx (by omega) (by omega)];omega
  have hg:(((d.length:Int) != (gtd dOp s.2.2.1 (s.2.2.1.length-1)).2.2.1)||(!(QA d))) = !Qq d (Zi (Zx s)):=by
   rw [show Zi (Zx s)=_ from QJ1 hm]
   show _ = !(QA d&&((d.length:Int)==(gtd dOp s.2.2.1 (s.2.2.1.length-1)).2.2.1))
   simp only [bne]
   cases QA d <;> cases ((d.length:Int)==(gtd dOp s.2.2.1 (s.2.2.1.length-1)).2.2.1) <;> rfl
  refine (Qy4 (fun r'=>r'=Z6 (Qu s m t)) s m rows _ d sat ?_).h
  conv=>zeta
  simp only [id,List.drop_zero,List.take_length,true_or,true_and,Nat.zero_add]
  rw [hkf,hkn,hw,Int.toNat_natCast,hg]
  refine ⟨⟨by omega,by omega⟩,fun h=>R_eq ?_,fun h=>?_⟩
  ·rw [hno (by rw [hb];simpa using h)]
  ·have hv:Qq d (Zi (Zx s))=true:=by simpa using h
   have hok:ZT s kf t=true:=by rw [hb,hv]
   have hv6:=JO hv
   rw [beq_iff_eq] at h3
   have hfit:=Qr7 h1
   have hsum:Sz.sz (α:=Qm) s.2.2.2.2.2.2.2.2.2.2.2≤296:=QuB (QbN h1) ⟨hfit.1,hfit.2⟩
   have hout:=QcM (t:=t) (rows:=rows) (d:=d) (b:=sat) (by rw [show Qr (Qn s) m=kf from hkf];exact hok) (by rw [show Qr (Qn s) m=kf from hkf] ;exact hr) (by rw [show Qr (Qn s) m=kf from hkf] ;exact hd)
   have hk:kn<s.2.2.2.2.2.1.length:=by ((try simp only [sPc,QG,sOps,QC,QB,Qn,QI,sX,sY,sG,sD,QF,QJ,sSat,QN,QO,QM,QP] at *);omega)
   have hrl:rows.length=s.2.2.1.length+1:=by rw [hr];exact h3
   have hbg:=Qbx s.2.2.1 rows d
   have hl2:(List.take (s.2.2.2.2.2.1.length-(kn+1)) (List.drop (kn+1) s.2.2.2.2.2.1)).length=s.2.2.2.2.2.1.length-(kn+1):=by simp
   rw [sc1 (by ((try simp only [sPc,QG,sOps,QC,QB,Qn,QI,sX,sY,sG,sD,QF,QJ,sSat,QN,QO,QM,QP] at *);omega))]
   simp only [Int.toNat_natCast,show Int.toNat (0:Int)=0 from rfl,Nat.sub_zero]
   refine ⟨⟨by omega,by rw [Zz];((try simp only [sPc,QG,sOps,QC,QB,Qn,QI,sX,sY,sG,sD,QF,QJ,sSat,QN,QO,QM,QP] at *);omega)⟩,?_,⟨⟨by omega,by omega,by omega⟩,⟨by omega,by omega,by omega⟩,?_⟩,R_eq ?_⟩
   ·unfold ZB
    simp only [QaH,QK,Q0]
    ((try simp only [sPc,QG,sOps,QC,QB,Qn,QI,sX,sY,sG,sD,QF,QJ,sSat,QN,QO,QM,QP] at *);omega)
   ·rw [hl2,Zz];((try simp only [sPc,QG,sOps,QC,QB,Qn,QI,sX,sY,sG,sD,QF,QJ,sSat,QN,QO,QM,QP] at *);omega)
   ·rw [Qdi hk,hout,show Qr (Qn s) m=kf from hkf,hkn,Int.toNat_natCast]
 have k3:QU s=true→0≤kf→∀ rows,rows=Q4 s kf→((Q4 s kf).length==(sOps s).length+1)=true→Qcv (fun r'=>r'=Z6 (Qu s m t)) s m t rows ((0:Nat):Int) s.2.2.2.2.2.1:=by
  intro h1 h2 rows hr h3
  have hm:=QbN h1
  have hml:1≤s.2.2.1.length∧s.2.2.1.length≤8:=YX hm
  have hrl:rows.length=s.2.2.1.length+1:=by rw [hr];exact beq_iff_eq.1 h3
  refine Qb3 s.2.2.1.length (fun k=>Z7 s.2.2.1 k ((rows.drop k).take (s.2.2.1.length-k))=Zs s.2.2.1 rows s.2.2.1.length→Qcv (fun r'=>r'=Z6 (Qu s m t)) s m t rows (k:Int) s.2.2.2.2.2.1) ?_ ?_ ?_
  ·intro hg
   rw [Nat.sub_self,List.take_zero,Z7] at hg
   have h4:Zs (sOps s) (Q4 s kf) (sOps s).length=true:=by rw [← hr];exact hg.symm
   refine QoH (fun r'=>r'=Z6 (Qu s m t)) s m t rows _ _ ⟨fun h=>by simp at h,fun _=>⟨fun hl=>⟨⟨by omega,by rw [Int.toNat_natCast];omega⟩,?_⟩,fun hl=>k4 h1 h2 _ _ _ hr ?_ h3 h4⟩⟩
   ·rw [Int.toNat_natCast]
    refine k4 h1 h2 _ _ _ hr ?_ h3 h4
    unfold bwdD;rw [if_pos hl,← hr]
   ·unfold bwdD;rw [if_neg (by rw [show QC s=false from hl];simp)]
  ·intro k hk ih hg
   rw [QDb hk (by omega)] at hg
   have hv:((!(QA (gtd [] rows k)))||(((gtd [] rows k).length:Int) != (gtd dOp s.2.2.1 k).2.1)) = !Qq (gtd [] rows k) (gtd dOp s.2.2.1 k).2.1:=by
    unfold Qq
    simp only [bne]
    cases QA (gtd [] rows k) <;> cases (((gtd [] rows k).length:Int)==(gtd dOp s.2.2.1 k).2.1) <;> rfl
   refine QoH (fun r'=>r'=Z6 (Qu s m t)) s m t rows _ _ ⟨fun _=>?_,fun h=>by simp at h;omega⟩
   simp only [id,List.drop_zero,List.take_length,Int.toNat_natCast]
   rw [hv,sc1 (by omega)]
   refine ⟨⟨⟨by omega,by omega⟩,fun _=>⟨⟨by omega,by omega⟩,by omega,by omega⟩⟩,fun h=>R_eq ?_,fun h=>ih ?_⟩
   ·rw [hno]
    have h5:Qq (gtd [] rows k) (gtd dOp s.2.2.1 k).2.1=false:=by simpa using h
    rw [h5,Bool.false_and] at hg
    rw [YL,← hr,show Zs (sOps s) rows (sOps s).length=false from hg.symm]
    simp
   ·have h5:Qq (gtd [] rows k) (gtd dOp s.2.2.1 k).2.1=true:=by simpa using h
    rw [h5,Bool.true_and] at hg
    exact hg
  ·rw [List.drop_zero,Nat.sub_zero]
   unfold Zs
   rw [Int.toNat_natCast]
 have k1:QU s=true→0≤kf→∀ rows,rows=Q4 s kf→Qe0 (fun r'=>r'=Z6 (Qu s m t)) s m t rows:=by
  intro h1 h2 rows hr
  have hml:1≤s.2.2.1.length∧s.2.2.1.length≤8:=YX (QbN h1)
  refine (QBT (fun r'=>r'=Z6 (Qu s m t)) s m t rows ?_).h
  conv=>zeta
  simp only [id,List.drop_zero,List.take_length,true_or,true_and,Nat.zero_add,Int.toNat_natCast]
  rw [sc1 (k:=s.2.2.1.length) (by omega)]
  refine ⟨fun h=>R_eq ?_,fun h=>k3 h1 h2 _ hr ?_⟩
  ·rw [hno]
   have:(rows.length==s.2.2.1.length+1)=false:=by
    rw [beq_eq_false_iff_ne]
    simp only [bne_iff_ne] at h
    omega
   rw [YL,← hr]
   simp [this]
  ·rw [← hr,beq_iff_eq]
   simp only [bne_eq_false_iff_eq] at h
   ((try simp only [sPc,QG,sOps,QC,QB,Qn,QI,sX,sY,sG,sD,QF,QJ,sSat,QN,QO,QM,QP] at *);omega)
 simp only [id,List.drop_zero,List.take_length,true_or,true_and,Nat.zero_add]
 rw [Qp3,show Qr (Qn s) m=kf from hkf]
 refine ⟨hp,fun h=>R_eq ?_,fun h=>?_⟩
 ·rw [hno]
  simp only [Bool.not_eq_true'] at h
  rw [YL,h];rfl
 ·simp only [Bool.not_eq_false',Bool.and_eq_true,decide_eq_true_eq] at h
  refine ⟨⟨h.2,by ((try simp only [sPc,QG,sOps,QC,QB,Qn,QI,sX,sY,sG,sD,QF,QJ,sSat,QN,QO,QM,QP] at *);omega)⟩,fun hr=>k1 h.1 h.2 _ ?_,fun hr=>k1 h.1 h.2 _ ?_⟩
  ·unfold Q4;rw [if_pos hr]
  ·unfold Q4;rw [if_neg (by rw [show QB s=false from hr];simp)]
theorem QJ0:Qf Tryz.prog Qhr:=Qj fun x h=>QAO x.1 x.2.1 x.2.2.1 h
end
end Go.Proofs.YtdplaepmjogjjaaGreat.Am

