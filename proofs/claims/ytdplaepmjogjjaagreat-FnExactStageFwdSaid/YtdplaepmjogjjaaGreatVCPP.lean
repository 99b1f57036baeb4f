/- -/
import Derived.Test.YtdplaepmjogjjaaGreatVCPJ
import Derived.Test.YtdplaepmjogjjaaGreatVCP4
import Derived.Test.YtdplaepmjogjjaaGreatVCPF
import Derived.Test.YtdplaepmjogjjaaGreatVCP8
import Derived.Test.YtdplaepmjogjjaaGreatVCP1
import Derived.Test.YtdplaepmjogjjaaGreatVCP3
import Derived.Test.YtdplaepmjogjjaaGreatVCPK
import Derived.Test.YtdplaepmjogjjaaGreatVCPI
import Derived.Test.YtdplaepmjogjjaaGreatVCPG
import Derived.Test.YtdplaepmjogjjaaGreatVCGD
namespace Go.Proofs.YtdplaepmjogjjaaGreat.Am
open Go Go.RowKit Go.Proofs.YtdplaepmjogjjaaGreat
set_option linter.all false
set_option maxHeartbeats 2000000
noncomputable section
variable (K:TRes→Prop)
def JL (t:Qc):TRes:=⟨(.a [(zci t.1),(.r Qr 0 0 ((t.2.1).length)),(.r ctOp 1 0 ((t.2.2.1).length)),(zcb t.2.2.2.1),(zcb t.2.2.2.2.1),(.r Ql 2 0 ((t.2.2.2.2.2.1).length)),(.r [(.sl [TI])] 3 0 ((t.2.2.2.2.2.2.1).length)),(.r [TI] 4 0 ((t.2.2.2.2.2.2.2.1).length)),(.r [TI] 5 0 ((t.2.2.2.2.2.2.2.2.1).length)),(.r [TI] 6 0 ((t.2.2.2.2.2.2.2.2.2.1).length)),(.r [TI] 7 0 ((t.2.2.2.2.2.2.2.2.2.2.1).length)),(.r [(.sl [TI])] 8 0 ((t.2.2.2.2.2.2.2.2.2.2.2.1).length)),(zci t.2.2.2.2.2.2.2.2.2.2.2.2.1),(zcb t.2.2.2.2.2.2.2.2.2.2.2.2.2)]),[(.sl 175 Qr (.dp 0 true []) t.2.1),(.sl 134 ctOp (.dp 0 true []) t.2.2.1),(.sl 108 Ql (.dp 0 true []) t.2.2.2.2.2.1),(.sl 106 [(.sl [TI])] (.dp 0 true []) t.2.2.2.2.2.2.1),(.sl 3 [TI] (.dp 0 true []) t.2.2.2.2.2.2.2.1),(.sl 3 [TI] (.dp 0 true []) t.2.2.2.2.2.2.2.2.1),(.sl 3 [TI] (.dp 0 true []) t.2.2.2.2.2.2.2.2.2.1),(.sl 3 [TI] (.dp 0 true []) t.2.2.2.2.2.2.2.2.2.2.1),(.sl 106 [(.sl [TI])] (.dp 0 true []) t.2.2.2.2.2.2.2.2.2.2.2.1)],[],false,[]⟩
def Qh2:TRow:=Qg 70 [(.a Qp)] fun x=>(some (Qx (α:=Qc) x.1),JL (id (α:=Qc) x.1))
def QfG:TTab:=⟨[QjJ,Qb6,QaP,Qic],true⟩
def Qnw:TCode :=
 (zsq [(.reg [zbi 24 .lss 23 22]),(.cond 24 .skip (.exit 0)),(.block 1 (zsq [(.reg [zia 25 21 23 Ql,zLd 26 25 2,zop 5 (.new 108 (z0s Ql)),zst 5 26 2]),(.draw [zfa 27 3 5,zld 28 27 1,zfa 29 5 0,zld 30 29 1,zfa 31 5 1,zld 32 31 1,zca 33 103 [32],zop 34 (.build (z0s Ql) [(0,1,30),(1,1,33)]),zop 35 (.bsl 108 Ql [34]),zop 36 (.app 28 35 108 Ql),zfa 37 3 5,zst 37 36 1] [(0,6),(1,6),(2,6),(3,6),(0,8),(1,8)])])),(.reg [zbi 38 .add 23 (zki 1),zmv 23 38])])
def Qq2:List (Nat × Md):=[(1,.b (zds 14)),(2,.b [.d,.f,.f,.d,.d,.f,.f,.f,.f,.f,.f,.f,.d,.d]),(3,.b [.d,.f,.f,.d,.d,.p 108,.f,.f,.f,.f,.f,.f,.d,.d]),(21,.one .d),(22,.one .d),(23,.one .d)]
def QkG:TCode :=
 (zsq [(.reg [zfa 39 1 6,zld 40 39 1,zca 41 103 [40],zfa 42 3 6,zst 42 41 1]),(.draw [zfa 43 1 7,zld 44 43 1,zca 45 104 [44],zfa 46 1 8,zld 47 46 1,zca 48 104 [47],zfa 49 1 9,zld 50 49 1,zca 51 104 [50],zfa 52 1 10,zld 53 52 1,zca 54 104 [53],zfa 55 3 7,zst 55 45 1,zfa 56 3 8,zst 56 48 1,zfa 57 3 9,zst 57 51 1,zfa 58 3 10,zst 58 54 1] [(2,3),(2,4),(2,6),(5,6),(2,7),(5,7),(2,9),(5,9),(8,9),(2,10),(5,10),(8,10),(5,12),(8,12),(11,12)]),(.reg [zfa 59 1 11,zLd 60 59 3,zca 61 166 [60],zfa 62 3 11,zst 62 61 3]),(.reg [zLd 63 3 14,zst 2 63 14]),.ret])
def QwV:TCode :=
 (zsq [(.reg [zop 1 (.box 39 0 14),zop 2 (.new 39 (z0s Qp))]),(.draw [zfa 6 1 0,zld 7 6 1,zop 8 (.bsl 175 Qr []),zfa 9 1 1,zld 10 9 1,zop 11 (.app 8 10 175 Qr),zfa 12 1 2,zld 13 12 1,zca 14 165 [13],zfa 15 1 3,zld 16 15 1,zfa 17 1 4,zld 18 17 1,zop 19 (.build (z0s Qp) [(0,1,7),(1,1,11),(2,1,14),(3,1,16),(4,1,18)]),zop 3 (.new 39 (z0s Qp)),zst 3 19 14] [(0,2),(1,2),(2,3),(2,4),(0,5),(1,5),(2,6),(5,6),(2,7),(5,7),(0,8),(1,8),(2,9),(5,9),(8,9),(2,10),(5,10),(8,10),(2,11),(5,11),(8,11),(2,12),(5,12),(8,12),(0,14),(1,14),(2,14),(3,14),(4,14),(5,14),(6,14),(7,14),(8,14),(9,14),(10,14),(11,14),(12,14)]),(zsq [(.reg [zfa 20 1 5,zld 21 20 1,zle 22 21,zmv 23 (zki 0)]),(.block 0 (.loop Qq2 Qnw))]),QkG])
def Qlw:List (ARv × Md):=[(.l 2 14 true,.b [.d,.p 175,.p 134,.d,.d,.p 108,.p 106,.p 3,.p 3,.p 3,.p 3,.p 106,.d,.d])]
def Qpm:Qb:=TQ 0 0 Qlw K
def QIi:Qb:=Qseq (tawp QfG 0 QkG (Qpm K)) (Qpm K)
def QGS:Qb:=Qblk 0 (QIi K)
def Qfk (s:Qc) (x:Int) (t1:List TIns) (t2:List TOp') (t5:List Qf):Prop:=Loop QfG 0 Qq2 Qnw (QGS K) ⟨[(1,(.p 0 0 0)),(2,(.p 1 0 0)),(3,(.p 5 0 0)),(21,(zcs Ql s.2.2.2.2.2.1)),(22,(zci ((s.2.2.2.2.2.1).length:Int))),(23,(zci x))],[(0,(.box (Tup.cells Qp s))),(1,(.box [(zci 0),(.n Qr),(.n ctOp),(zcb false),(zcb false),(.n Ql),(.n [(.sl [TI])]),(.n [TI]),(.n [TI]),(.n [TI]),(.n [TI]),(.n [(.sl [TI])]),(zci 0),(zcb false)])),(2,(.sl 175 Qr (.dp 0 true []) t1)),(3,(.sl 134 ctOp (.dp 0 true []) t2)),(4,(.sl 108 Ql (.dp 0 true []) t5)),(5,(.box [(zci s.1),(.r Qr 2 0 t1.length),(.r ctOp 3 0 t2.length),(zcb s.2.2.2.1),(zcb s.2.2.2.2.1),(.r Ql 4 0 t5.length),(.n [(.sl [TI])]),(.n [TI]),(.n [TI]),(.n [TI]),(.n [TI]),(.n [(.sl [TI])]),(zci 0),(zcb false)]))],6⟩
theorem Qlg (s:Qc) (x:Int) (t1:List TIns) (t2:List TOp') (t5:List Qf) (h :
 (zif (decide (x<((s.2.2.2.2.2.1).length:Int))) (((0:Int)≤x∧Int.toNat x<(s.2.2.2.2.2.1).length)∧(((Qx (α:=List (List Int)) ((gtd QS s.2.2.2.2.2.1 (Int.toNat x)).2))∧((t5.length=t5.length∨t5.length+1≤t5.length)∧t5.length+1≤big))∧(Qfk K s (w64 (x+(1:Int))) (List.take t1.length t1) (List.take t2.length t2) (List.take (t5.length+1) ((List.take t5.length t5)++([((gtd QS s.2.2.2.2.2.1 (Int.toNat x)).1,(List.take ((id (α:=List (List Int)) ((gtd QS s.2.2.2.2.2.1 (Int.toNat x)).2)).length) (List.drop 0 (id (α:=List (List Int)) ((gtd QS s.2.2.2.2.2.1 (Int.toNat x)).2)))))])))))) ((Qx (α:=List (List Int)) s.2.2.2.2.2.2.1)∧(((Qx (α:=List Int) s.2.2.2.2.2.2.2.1)∧((Qx (α:=List Int) s.2.2.2.2.2.2.2.2.1)∧((Qx (α:=List Int) s.2.2.2.2.2.2.2.2.2.1)∧(Qx (α:=List Int) s.2.2.2.2.2.2.2.2.2.2.1))))∧((Qx (α:=Qy) s.2.2.2.2.2.2.2.2.2.2.2)∧K (JL (s.1,(List.take t1.length t1),(List.take t2.length t2),s.2.2.2.1,s.2.2.2.2.1,(List.take t5.length t5),(List.take ((id (α:=List (List Int)) s.2.2.2.2.2.2.1).length) (id (α:=List (List Int)) s.2.2.2.2.2.2.1)),(List.take ((id (α:=List Int) s.2.2.2.2.2.2.2.1).length) (id (α:=List Int) s.2.2.2.2.2.2.2.1)),(List.take ((id (α:=List Int) s.2.2.2.2.2.2.2.2.1).length) (id (α:=List Int) s.2.2.2.2.2.2.2.2.1)),(List.take ((id (α:=List Int) s.2.2.2.2.2.2.2.2.2.1).length) (id (α:=List Int) s.2.2.2.2.2.2.2.2.2.1)),(List.take ((id (α:=List Int) s.2.2.2.2.2.2.2.2.2.2.1).length) (id (α:=List Int) s.2.2.2.2.2.2.2.2.2.2.1)),(List.take (((id (α:=Qy) s.2.2.2.2.2.2.2.2.2.2.2).1).length) ((id (α:=Qy) s.2.2.2.2.2.2.2.2.2.2.2).1)),(id (α:=Qy) s.2.2.2.2.2.2.2.2.2.2.2).2.1,(id (α:=Qy) s.2.2.2.2.2.2.2.2.2.2.2).2.2))))))):Qfk K s x t1 t2 t5 :=
 Loop.of (by kernel_rfl) h
theorem QwD (s:Qc) (h :
 ((((0=0∨0+(s.2.1).length≤0)∧0+(s.2.1).length≤big)∧(Qx (α:=List TOp') s.2.2.1))∧(Qfk K s 0 (List.take (0+(s.2.1).length) (s.2.1:List TIns)) (List.take ((id (α:=List TOp') s.2.2.1).length) (id (α:=List TOp') s.2.2.1)) ([]:List Qf)))):Hold (tawp QfG (0+0) QwV (TQ 0 0 Qlw K) (Qd [(.a (Tup.cells Qp s))])) :=
 Hold.of (by kernel_rfl) h
theorem QFi (s:Qc) (hp:Qx (α:=Qc) s):TCon Tryz.prog 70 [(.a (Tup.cells Qp s))] (JL (id (α:=Qc) s)):=by
 refine Qi rfl fun hb=>tcg (Γ:=QfG) (n:=64) (sg:=Qh2.sg) Qj (TOkL.cons QHE (TOkL.cons Qgx (TOkL.cons QbV (TOkL.cons QuV TOkL.nil)))) (by kernel_rfl) (by kernel_rfl) (QwD _ s ?_)
 have hl_s_1:(s.2.1).length≤9223372036854775807:=hb.1.2.1.1
 have hl_s_2:(s.2.2.1).length≤9223372036854775807:=hb.1.2.2.1.1
 have hl_s_5:(s.2.2.2.2.2.1).length≤9223372036854775807:=hb.1.2.2.2.2.2.1.1
 have hl_s_6:(s.2.2.2.2.2.2.1).length≤9223372036854775807:=hb.1.2.2.2.2.2.2.1.1
 have hl_s_7:(s.2.2.2.2.2.2.2.1).length≤9223372036854775807:=hb.1.2.2.2.2.2.2.2.1.1
 have hl_s_8:(s.2.2.2.2.2.2.2.2.1).length≤9223372036854775807:=hb.1.2.2.2.2.2.2.2.2.1.1
 have hl_s_9:(s.2.2.2.2.2.2.2.2.2.1).length≤9223372036854775807:=hb.1.2.2.2.2.2.2.2.2.2.1.1
 have hl_s_10:(s.2.2.2.2.2.2.2.2.2.2.1).length≤9223372036854775807:=hb.1.2.2.2.2.2.2.2.2.2.2.1.1
 have hl_s_11:(s.2.2.2.2.2.2.2.2.2.2.2.1).length≤9223372036854775807:=hb.1.2.2.2.2.2.2.2.2.2.2.2.1.1
 have hp':Sz.sz s≤2147483648:=hp
 have hs:=Qbm s
 have l1:=Ju (QE s)
 simp only [id,List.drop_zero,List.take_length,true_or,true_and,Nat.zero_add]
 refine ⟨⟨by rw [ZT];((try simp only [sPc,QE,sOps,Qs,QA,QC,QH,sX,sY,sG,sD,QF,QB,sSat,QO,QM,QL,QN] at *);omega),by unfold Qx;((try simp only [sPc,QE,sOps,Qs,QA,QC,QH,sX,sY,sG,sD,QF,QB,sSat,QO,QM,QL,QN] at *);omega)⟩,?_⟩
 refine Qa2 (l:=s.2.2.2.2.2.1) (A:=fun i v=>Qfk (fun r'=>r'=JL (id (α:=Qc) s)) s i s.2.1 s.2.2.1 v) (Q:=fun z=>JL (s.1,s.2.1,s.2.2.1,s.2.2.2.1,s.2.2.2.2.1,z,s.2.2.2.2.2.2)=JL (id (α:=Qc) s)) (by ((try simp only [sPc,QE,sOps,Qs,QA,QC,QH,sX,sY,sG,sD,QF,QB,sSat,QO,QM,QL,QN] at *);omega)) (fun k x v hk hl hg hv hx ih=>?_) (fun hq=>?_) (R_eq rfl)
 ·refine Qlg (fun r'=>r'=JL (id (α:=Qc) s)) s _ _ _ _ ⟨fun _=>?_,fun h=>by simp at h;omega⟩
  simp only [QX,QV] at hx
  rw [Int.toNat_natCast,hg,sc1 (by omega),Zu,Qee,List.take_length,List.take_length]
  exact ⟨⟨by omega,hk⟩,⟨by unfold Qx;omega,room (by omega)⟩,ih⟩
 ·refine Qlg (fun r'=>r'=JL (id (α:=Qc) s)) s _ _ _ _ ⟨fun h=>by simp at h,fun _=>?_⟩
  simp only [id,List.drop_zero,List.take_length,true_or,true_and,Nat.zero_add]
  exact ⟨by unfold Qx;((try simp only [sPc,QE,sOps,Qs,QA,QC,QH,sX,sY,sG,sD,QF,QB,sSat,QO,QM,QL,QN] at *);omega),⟨by unfold Qx;((try simp only [sPc,QE,sOps,Qs,QA,QC,QH,sX,sY,sG,sD,QF,QB,sSat,QO,QM,QL,QN] at *);omega),by unfold Qx;((try simp only [sPc,QE,sOps,Qs,QA,QC,QH,sX,sY,sG,sD,QF,QB,sSat,QO,QM,QL,QN] at *);omega),by unfold Qx;((try simp only [sPc,QE,sOps,Qs,QA,QC,QH,sX,sY,sG,sD,QF,QB,sSat,QO,QM,QL,QN] at *);omega),by unfold Qx;((try simp only [sPc,QE,sOps,Qs,QA,QC,QH,sX,sY,sG,sD,QF,QB,sSat,QO,QM,QL,QN] at *);omega)⟩,by unfold Qx;simp only [QX,QV,Q5];((try simp only [sPc,QE,sOps,Qs,QA,QC,QH,sX,sY,sG,sD,QF,QB,sSat,QO,QM,QL,QN] at *);omega),by first | exact hq | trivial⟩
theorem QCO:Qe Tryz.prog Qh2:=Qk fun x h=>QFi x.1 h
def JQ (t:Qc):TRes:=⟨(.a [(zci t.1),(zcs Qr t.2.1),(zcs ctOp t.2.2.1),(zcb t.2.2.2.1),(zcb t.2.2.2.2.1),(.r Ql 0 0 ((t.2.2.2.2.2.1).length)),(zcs [(.sl [TI])] t.2.2.2.2.2.2.1),(zcs [TI] t.2.2.2.2.2.2.2.1),(zcs [TI] t.2.2.2.2.2.2.2.2.1),(zcs [TI] t.2.2.2.2.2.2.2.2.2.1),(zcs [TI] t.2.2.2.2.2.2.2.2.2.2.1),(zcs [(.sl [TI])] t.2.2.2.2.2.2.2.2.2.2.2.1),(zci t.2.2.2.2.2.2.2.2.2.2.2.2.1),(zcb t.2.2.2.2.2.2.2.2.2.2.2.2.2)]),[(.sl 108 Ql .ow t.2.2.2.2.2.1)],[],true,[]⟩
def Qjb:TRow:=Qg 61 [(.a Qp)] fun x=>(some (Qx (α:=Qc) x.1),JQ (id (α:=Qc) x.1))
def Qdj:TTab:=⟨[QjE,QjD],false⟩
def QrX:TCode :=
 (zsq [(zsq [(.reg [zmv 17 4,zfa 18 1 5,zld 19 18 1,zle 20 19,zbi 21 .lss 17 20]),(.cond 21 .skip (.exit 0))]),(.block 1 (.draw [zfa 24 3 5,zld 25 24 1,zfa 26 1 5,zld 27 26 1,zmv 28 4,zia 29 27 28 Ql,zfa 30 29 0,zld 31 30 1,zfa 32 1 5,zld 33 32 1,zmv 34 4,zia 35 33 34 Ql,zfa 36 35 1,zld 37 36 1,zca 38 156 [37],zop 39 (.build (z0s Ql) [(0,1,31),(1,1,38)]),zop 40 (.bsl 108 Ql [39]),zop 41 (.app 25 40 108 Ql),zfa 42 3 5,zst 42 41 1] [(0,14),(1,14),(2,14),(3,14),(5,14),(6,14),(7,14),(0,16),(1,16)])),(.reg [zmv 22 4,zbi 23 .add 22 (zki 1),zmv 4 23])])
def Qn7:List (Nat × Md):=[(1,.b (zds 14)),(2,.b (zds 14)),(3,.b [.d,.d,.d,.d,.d,.f,.d,.d,.d,.d,.d,.d,.d,.d]),(4,.one .d)]
def QqG:TCode :=
 (zsq [(.reg [zfa 43 1 6,zld 44 43 1,zca 45 156 [44],zfa 46 3 6,zst 46 45 1]),(.reg [zop 47 (.bsl 3 [TI] []),zfa 48 1 7,zld 49 48 1,zop 50 (.app 47 49 3 [TI]),zfa 51 3 7,zst 51 50 1]),(.reg [zop 52 (.bsl 3 [TI] []),zfa 53 1 8,zld 54 53 1,zop 55 (.app 52 54 3 [TI]),zfa 56 3 8,zst 56 55 1]),(.reg [zop 57 (.bsl 3 [TI] []),zfa 58 1 9,zld 59 58 1,zop 60 (.app 57 59 3 [TI]),zfa 61 3 9,zst 61 60 1]),(.reg [zop 62 (.bsl 3 [TI] []),zfa 63 1 10,zld 64 63 1,zop 65 (.app 62 64 3 [TI]),zfa 66 3 10,zst 66 65 1]),(.reg [zfa 67 1 11,zfa 68 67 0,zld 69 68 1,zca 70 156 [69],zfa 71 3 11,zfa 72 71 0,zst 72 70 1]),(.reg [zLd 73 3 14,zst 2 73 14]),.ret])
def QF7:TCode :=
 (zsq [(.reg [zop 1 (.box 39 0 14),zop 2 (.new 39 (z0s Qp))]),(.reg [zLd 5 1 14,zop 3 (.new 39 (z0s Qp)),zst 3 5 14]),(.reg [zfa 6 1 2,zld 7 6 1,zca 8 155 [7],zfa 9 3 2,zst 9 8 1]),(.reg [zop 10 (.bsl 175 Qr []),zfa 11 1 1,zld 12 11 1,zop 13 (.app 10 12 175 Qr),zfa 14 3 1,zst 14 13 1]),(.reg [zop 15 (.bsl 108 Ql []),zfa 16 3 5,zst 16 15 1]),(zsq [(.reg [zmv 4 (zki 0)]),(.block 0 (.loop Qn7 QrX))]),QqG])
def Qr3:List (ARv × Md):=[(.l 2 14 true,.b [.d,.d,.d,.d,.d,.o 108,.d,.d,.d,.d,.d,.d,.d,.d])]
def Qnf:Qb:=TQ 0 0 Qr3 K
def QAX:Qb:=Qseq (tawp Qdj 0 QqG (Qnf K)) (Qnf K)
def QCA:Qb:=Qblk 0 (QAX K)
def Qfd (s:Qc) (i:Int) (x5:List Qf):Prop:=Loop Qdj 0 Qn7 QrX (QCA K) ⟨[(1,(.p 0 0 0)),(2,(.p 1 0 0)),(3,(.p 3 0 0)),(4,(zci i))],[(0,(.box (Tup.cells Qp s))),(1,(.box (Tup.cells Qp ((0:Int),[],[],false,false,[],[],[],[],[],[],[],(0:Int),false)))),(2,(.sl 108 Ql .ow x5)),(3,(.box [(zci s.1),(zcs Qr (List.take (0+(s.2.1).length) (List.drop 0 (s.2.1:List TIns)))),(zcs ctOp (id (α:=List TOp') s.2.2.1)),(zcb s.2.2.2.1),(zcb s.2.2.2.2.1),(.r Ql 2 0 x5.length),(zcs [(.sl [TI])] s.2.2.2.2.2.2.1),(zcs [TI] s.2.2.2.2.2.2.2.1),(zcs [TI] s.2.2.2.2.2.2.2.2.1),(zcs [TI] s.2.2.2.2.2.2.2.2.2.1),(zcs [TI] s.2.2.2.2.2.2.2.2.2.2.1),(zcs [(.sl [TI])] s.2.2.2.2.2.2.2.2.2.2.2.1),(zci s.2.2.2.2.2.2.2.2.2.2.2.2.1),(zcb s.2.2.2.2.2.2.2.2.2.2.2.2.2)]))],4⟩
theorem Qm0 (s:Qc) (i:Int) (x5:List Qf) (h :
 (zif (decide (i<((s.2.2.2.2.2.1).length:Int))) ((((0:Int)≤i∧Int.toNat i<(s.2.2.2.2.2.1).length)∧(((0:Int)≤i∧Int.toNat i<(s.2.2.2.2.2.1).length)∧((Qx (α:=List (List Int)) ((gtd QS s.2.2.2.2.2.1 (Int.toNat i)).2))∧((x5.length=x5.length∨x5.length+1≤x5.length)∧x5.length+1≤big))))∧(Qfd K s (w64 (i+(1:Int))) (List.take (x5.length+1) ((List.take x5.length x5)++([((gtd QS s.2.2.2.2.2.1 (Int.toNat i)).1,(id (α:=List (List Int)) ((gtd QS s.2.2.2.2.2.1 (Int.toNat i)).2)))]))))) ((Qx (α:=List (List Int)) s.2.2.2.2.2.2.1)∧(((0=0∨0+(s.2.2.2.2.2.2.2.1).length≤0)∧0+(s.2.2.2.2.2.2.2.1).length≤big)∧(((0=0∨0+(s.2.2.2.2.2.2.2.2.1).length≤0)∧0+(s.2.2.2.2.2.2.2.2.1).length≤big)∧(((0=0∨0+(s.2.2.2.2.2.2.2.2.2.1).length≤0)∧0+(s.2.2.2.2.2.2.2.2.2.1).length≤big)∧(((0=0∨0+(s.2.2.2.2.2.2.2.2.2.2.1).length≤0)∧0+(s.2.2.2.2.2.2.2.2.2.2.1).length≤big)∧((Qx (α:=List (List Int)) s.2.2.2.2.2.2.2.2.2.2.2.1)∧K (JQ (s.1,(List.take (0+(s.2.1).length) (List.drop 0 (s.2.1:List TIns))),(id (α:=List TOp') s.2.2.1),s.2.2.2.1,s.2.2.2.2.1,(List.take x5.length x5),(id (α:=List (List Int)) s.2.2.2.2.2.2.1),(List.take (0+(s.2.2.2.2.2.2.2.1).length) (List.drop 0 (s.2.2.2.2.2.2.2.1:List Int))),(List.take (0+(s.2.2.2.2.2.2.2.2.1).length) (List.drop 0 (s.2.2.2.2.2.2.2.2.1:List Int))),(List.take (0+(s.2.2.2.2.2.2.2.2.2.1).length) (List.drop 0 (s.2.2.2.2.2.2.2.2.2.1:List Int))),(List.take (0+(s.2.2.2.2.2.2.2.2.2.2.1).length) (List.drop 0 (s.2.2.2.2.2.2.2.2.2.2.1:List Int))),(id (α:=List (List Int)) s.2.2.2.2.2.2.2.2.2.2.2.1),s.2.2.2.2.2.2.2.2.2.2.2.2.1,s.2.2.2.2.2.2.2.2.2.2.2.2.2)))))))))):Qfd K s i x5 :=
 Loop.of (by kernel_rfl) h
theorem QDh (s:Qc) (h :
 ((Qx (α:=List TOp') s.2.2.1)∧(((0=0∨0+(s.2.1).length≤0)∧0+(s.2.1).length≤big)∧(Qfd K s 0 ([]:List Qf))))):Hold (tawp Qdj (0+0) QF7 (TQ 0 0 Qr3 K) (Qd [(.a (Tup.cells Qp s))])) :=
 Hold.of (by kernel_rfl) h
theorem QF1 (s:Qc) (hp:Qx (α:=Qc) s):TCon Tryz.prog 61 [(.a (Tup.cells Qp s))] (JQ (id (α:=Qc) s)):=by
 refine Qi rfl fun hb=>tcg (Γ:=Qdj) (n:=74) (sg:=Qjb.sg) Qj (TOkL.cons Qwz (TOkL.cons QvE TOkL.nil)) (by kernel_rfl) (by kernel_rfl) (QDh _ s ?_)
 have hl_s_1:(s.2.1).length≤9223372036854775807:=hb.1.2.1.1
 have hl_s_2:(s.2.2.1).length≤9223372036854775807:=hb.1.2.2.1.1
 have hl_s_5:(s.2.2.2.2.2.1).length≤9223372036854775807:=hb.1.2.2.2.2.2.1.1
 have hl_s_6:(s.2.2.2.2.2.2.1).length≤9223372036854775807:=hb.1.2.2.2.2.2.2.1.1
 have hl_s_7:(s.2.2.2.2.2.2.2.1).length≤9223372036854775807:=hb.1.2.2.2.2.2.2.2.1.1
 have hl_s_8:(s.2.2.2.2.2.2.2.2.1).length≤9223372036854775807:=hb.1.2.2.2.2.2.2.2.2.1.1
 have hl_s_9:(s.2.2.2.2.2.2.2.2.2.1).length≤9223372036854775807:=hb.1.2.2.2.2.2.2.2.2.2.1.1
 have hl_s_10:(s.2.2.2.2.2.2.2.2.2.2.1).length≤9223372036854775807:=hb.1.2.2.2.2.2.2.2.2.2.2.1.1
 have hl_s_11:(s.2.2.2.2.2.2.2.2.2.2.2.1).length≤9223372036854775807:=hb.1.2.2.2.2.2.2.2.2.2.2.2.1.1
 have hp':Sz.sz s≤2147483648:=hp
 have hs:=Qbm s
 have l1:=Ju (QE s)
 have l2:=Z8 (sX s)
 have l3:=Z8 (sY s)
 have l4:=Z8 (sG s)
 have l5:=Z8 (sD s)
 simp only [id,List.drop_zero,List.take_length,true_or,true_and,Nat.zero_add]
 refine ⟨by unfold Qx;((try simp only [sPc,QE,sOps,Qs,QA,QC,QH,sX,sY,sG,sD,QF,QB,sSat,QO,QM,QL,QN] at *);omega),by rw [ZT];((try simp only [sPc,QE,sOps,Qs,QA,QC,QH,sX,sY,sG,sD,QF,QB,sSat,QO,QM,QL,QN] at *);omega),?_⟩
 refine Qa2 (l:=s.2.2.2.2.2.1) (A:=fun i v=>Qfd (fun r'=>r'=JQ (id (α:=Qc) s)) s i v) (Q:=fun z=>JQ (s.1,s.2.1,s.2.2.1,s.2.2.2.1,s.2.2.2.2.1,z,s.2.2.2.2.2.2)=JQ (id (α:=Qc) s)) (by ((try simp only [sPc,QE,sOps,Qs,QA,QC,QH,sX,sY,sG,sD,QF,QB,sSat,QO,QM,QL,QN] at *);omega)) (fun k x v hk hl hg hv hx ih=>?_) (fun hq=>?_) (R_eq rfl)
 ·refine Qm0 (fun r'=>r'=JQ (id (α:=Qc) s)) s _ _ ⟨fun _=>?_,fun h=>by simp at h;omega⟩
  simp only [QX,QV] at hx
  rw [Int.toNat_natCast,hg,sc1 (by omega),Zu]
  exact ⟨⟨⟨by omega,hk⟩,⟨by omega,hk⟩,by unfold Qx;omega,room (by omega)⟩,ih⟩
 ·refine Qm0 (fun r'=>r'=JQ (id (α:=Qc) s)) s _ _ ⟨fun h=>by simp at h,fun _=>?_⟩
  simp only [id,List.drop_zero,List.take_length,true_or,true_and,Nat.zero_add]
  exact ⟨by unfold Qx;((try simp only [sPc,QE,sOps,Qs,QA,QC,QH,sX,sY,sG,sD,QF,QB,sSat,QO,QM,QL,QN] at *);omega),by rw [ZT];((try simp only [sPc,QE,sOps,Qs,QA,QC,QH,sX,sY,sG,sD,QF,QB,sSat,QO,QM,QL,QN] at *);omega),by rw [ZT];((try simp only [sPc,QE,sOps,Qs,QA,QC,QH,sX,sY,sG,sD,QF,QB,sSat,QO,QM,QL,QN] at *);omega),by rw [ZT];((try simp only [sPc,QE,sOps,Qs,QA,QC,QH,sX,sY,sG,sD,QF,QB,sSat,QO,QM,QL,QN] at *);omega),by rw [ZT];((try simp only [sPc,QE,sOps,Qs,QA,QC,QH,sX,sY,sG,sD,QF,QB,sSat,QO,QM,QL,QN] at *);omega),by unfold Qx;((try simp only [sPc,QE,sOps,Qs,QA,QC,QH,sX,sY,sG,sD,QF,QB,sSat,QO,QM,QL,QN] at *);omega),by first | exact hq | trivial⟩
theorem QFE:Qe Tryz.prog Qjb:=Qk fun x h=>QF1 x.1 h
def JA (t:Qc):TRes:=⟨(.a [(zci t.1),(.r Qr 0 0 ((t.2.1).length)),(.r ctOp 1 0 ((t.2.2.1).length)),(zcb t.2.2.2.1),(zcb t.2.2.2.2.1),(.r Ql 2 0 ((t.2.2.2.2.2.1).length)),(.r [(.sl [TI])] 3 0 ((t.2.2.2.2.2.2.1).length)),(.r [TI] 4 0 ((t.2.2.2.2.2.2.2.1).length)),(.r [TI] 5 0 ((t.2.2.2.2.2.2.2.2.1).length)),(.r [TI] 6 0 ((t.2.2.2.2.2.2.2.2.2.1).length)),(.r [TI] 7 0 ((t.2.2.2.2.2.2.2.2.2.2.1).length)),(.r [(.sl [TI])] 8 0 ((t.2.2.2.2.2.2.2.2.2.2.2.1).length)),(zci t.2.2.2.2.2.2.2.2.2.2.2.2.1),(zcb t.2.2.2.2.2.2.2.2.2.2.2.2.2)]),[(.sl 175 Qr (.dp 0 true []) t.2.1),(.sl 134 ctOp (.dp 0 true []) t.2.2.1),(.sl 108 Ql (.dp 0 true []) t.2.2.2.2.2.1),(.sl 106 [(.sl [TI])] (.dp 0 true []) t.2.2.2.2.2.2.1),(.sl 3 [TI] (.dp 0 true []) t.2.2.2.2.2.2.2.1),(.sl 3 [TI] (.dp 0 true []) t.2.2.2.2.2.2.2.2.1),(.sl 3 [TI] (.dp 0 true []) t.2.2.2.2.2.2.2.2.2.1),(.sl 3 [TI] (.dp 0 true []) t.2.2.2.2.2.2.2.2.2.2.1),(.sl 106 [(.sl [TI])] (.dp 0 true []) t.2.2.2.2.2.2.2.2.2.2.2.1)],[],false,[]⟩
def Qgy:TRow:=Qg 30 [(.a Qp),(.c TI),(.c (.sl [TI])),(.c (.sl [TI]))] fun x=>(some (J0 x.1 x.2.1 x.2.2.1 x.2.2.2.1),JA (Qt x.1 x.2.1 x.2.2.1 x.2.2.2.1))
def QnP:TTab:=⟨[Qh2,Qeu,Qgg,Qcc,Y0,Qjp,QfO,QgB,Qb6,QaP,QiM,QcJ],true⟩
def QHI:TCode :=
 (zsq [(.reg [zop 4 (.box 39 0 14),zop 8 (.new 39 (z0s Qp))]),(.reg [zLd 19 4 14,zca 20 70 [19],zop 9 (.new 39 (z0s Qp)),zst 9 20 14]),(.reg [zLd 21 4 14,zca 22 74 [21],zop 10 (.new 77 [(.n ctOp)]),zst 10 22 1]),(zsq [(.reg [zLd 23 4 14,zca 24 72 [23],zno 25 24,zmv 26 25,.grp 26 false [zmv 27 2,zLd 28 10 1,zca 29 101 [28],zca 30 100 [27,29],zno 31 30] 32 31,zmv 33 32,.grp 33 false [zfa 34 4 5,zld 35 34 1,zmv 36 1,zca 37 71 [35,36],zbi 38 .geq 37 (zki 0)] 39 38]),(.cond 39 (zsq [(.reg [zLd 40 9 14,zst 8 40 14]),.ret]) .skip)]),(zsq [(.reg [zfa 41 4 3,zld 42 41 1,zmv 43 42,.grp 43 true [zmv 44 3,zLd 45 10 1,zca 46 102 [45],zca 47 100 [44,46],zno 48 47] 49 48]),(.cond 49 (zsq [(.reg [zLd 50 9 14,zst 8 50 14]),.ret]) .skip)]),(.reg [zLd 52 10 1,zmv 53 2,zca 54 73 [52,53],zmv 51 54,zex 55 51 0,zex 56 51 1,zmv 11 55,zmv 12 56]),(.reg [zmv 57 11,zfa 58 4 2,zld 59 58 1,zle 60 59,zia 61 57 60 [(.sl [TI])],zfa 62 61 0,zld 63 62 1,zmv 13 63]),(.reg [zmv 64 11,zmv 14 64]),(zsq [(.reg [zfa 65 4 4,zld 66 65 1]),(.cond 66 (.reg [zmv 67 11,zop 68 (.slc 67 none (some (zki 1)) [(.sl [TI])]),zmv 14 68]) .skip)]),(.draw [zfa 69 9 5,zld 70 69 1,zmv 71 1,zmv 72 14,zca 73 103 [72],zop 74 (.build (z0s Ql) [(0,1,71),(1,1,73)]),zop 75 (.bsl 108 Ql [74]),zop 76 (.app 70 75 108 Ql),zfa 77 9 5,zst 77 76 1] [(0,4),(1,4),(0,6),(1,6)]),(.reg [zfa 78 9 7,zst 78 (.k (.n [TI])) 1]),(.reg [zfa 79 9 11,zfa 80 79 2,zld 81 80 1,zmv 82 81,.grp 82 false [zmv 83 12] 84 83,zfa 85 9 11,zfa 86 85 2,zst 86 84 1]),(zsq [(.reg [zfa 87 4 3,zld 88 87 1,zno 89 88]),(.cond 89 (zsq [(.reg [zmv 90 13,zca 91 104 [90],zfa 92 9 8,zst 92 91 1]),(.reg [zLd 93 9 14,zst 8 93 14]),.ret]) .skip)]),(.reg [zmv 95 13,zmv 96 3,zca 97 105 [95,96],zmv 94 97,zex 98 94 0,zex 99 94 1,zmv 15 98,zmv 16 99]),(.reg [zfa 101 9 11,zfa 102 101 1,zld 103 102 1,zmv 104 15,zca 105 106 [103,104],zmv 100 105,zex 106 100 0,zex 107 100 1,zmv 17 106,zmv 18 107]),(.reg [zmv 108 17,zfa 109 9 11,zfa 110 109 1,zst 110 108 1]),(.reg [zfa 111 9 11,zfa 112 111 2,zld 113 112 1,zmv 114 113,.grp 114 false [zmv 115 16] 116 115,zmv 117 116,.grp 117 false [zmv 118 18] 119 118,zfa 120 9 11,zfa 121 120 2,zst 121 119 1]),(.reg [zLd 122 9 14,zst 8 122 14]),.ret])
def QCy:List (ARv × Md):=[(.l 8 14 true,.b [.d,.p 175,.p 134,.d,.d,.p 108,.p 106,.p 3,.p 3,.p 3,.p 3,.p 106,.d,.d])]
theorem Qxx (s:Qc) (m:Int) (x:List Int) (t:List Int) (h :
 let z1:=id (α:=Qc) s
 let z3:=YO (Zq s) x
 let z2:=gtd ([]:List Int) (z3.1) (0+(Int.toNat ((s.2.2.1).length:Int)))
 let z4:=List.take ((z1.2.2.2.2.2.2.2.2.2.2.2.1).length) (z1.2.2.2.2.2.2.2.2.2.2.2.1)
 let z5:=List.take ((z1.2.2.2.2.2.2.2.2.2.2.1).length) (z1.2.2.2.2.2.2.2.2.2.2.1)
 let z6:=List.take ((z1.2.2.2.2.2.2.2.2.2.1).length) (z1.2.2.2.2.2.2.2.2.2.1)
 let z8:=List.take ((z1.2.2.2.2.2.2.1).length) (z1.2.2.2.2.2.2.1)
 let z9:=List.take ((z1.2.2.2.2.2.1).length) (z1.2.2.2.2.2.1)
 let z11:=List.take ((z1.2.2.1).length) (z1.2.2.1)
 let z12:=List.take ((z1.2.2.2.2.2.2.2.2.1).length) (z1.2.2.2.2.2.2.2.2.1)
 let z13:=List.take ((z1.2.1).length) (z1.2.1)
 let z14:=Q3 (z1.2.2.2.2.2.2.2.2.2.2.2.2.1) ((Zv z2 t).1)
 let z15:=List.take (Int.toNat (1:Int)-Int.toNat (0:Int)) (List.drop 0 (z3.1))
 let z7:=id (α:=List (List Int)) z15
 let z16:=List.take ((id (α:=List Int) z2).length) (id (α:=List Int) z2)
 let z17:=List.take ((z1.2.2.2.2.2.2.2.1).length) (z1.2.2.2.2.2.2.2.1)
 let z18:=List.take ((z3.1).length) (List.drop 0 (z3.1))
 let z10:=id (α:=List (List Int)) z18
 ((Qx (α:=Qc) s)∧(zif (((!(QI s))||(!(Qw x (Zn (Zq s)))))||(decide ((Zs s.2.2.2.2.2.1 m)≥(0:Int)))) (K (JA (z1.1,z13,z11,z1.2.2.2.1,z1.2.2.2.2.1,z9,z8,z17,z12,z6,z5,z4,z1.2.2.2.2.2.2.2.2.2.2.2.2.1,z1.2.2.2.2.2.2.2.2.2.2.2.2.2))) (zif (s.2.2.2.1&&(!(Qw t (ZE (Zq s))))) (K (JA (z1.1,z13,z11,z1.2.2.2.1,z1.2.2.2.2.1,z9,z8,z17,z12,z6,z5,z4,z1.2.2.2.2.2.2.2.2.2.2.2.2.1,z1.2.2.2.2.2.2.2.2.2.2.2.2.2))) ((((0:Int)≤((s.2.2.1).length:Int)∧Int.toNat ((s.2.2.1).length:Int)<(z3.1).length)∧((0+(Int.toNat ((s.2.2.1).length:Int)))<(z3.1).length))∧(zif s.2.2.2.2.1 (((0:Int)≤(0:Int)∧(0:Int)≤(1:Int)∧(1:Int)≤(((z3.1).length:Nat):Int))∧(((Qx (α:=List (List Int)) z15)∧(((z1.2.2.2.2.2.1).length=(z1.2.2.2.2.2.1).length∨(z1.2.2.2.2.2.1).length+1≤(z1.2.2.2.2.2.1).length)∧(z1.2.2.2.2.2.1).length+1≤big))∧(zif (!s.2.2.2.1) ((Qx (α:=List Int) z2)∧K (JA (z1.1,z13,z11,z1.2.2.2.1,z1.2.2.2.2.1,(List.take ((z1.2.2.2.2.2.1).length+1) (z9++([(m,(List.take (z7.length) (List.drop 0 z7)))]))),z8,([]:List Int),z16,z6,z5,z4,z1.2.2.2.2.2.2.2.2.2.2.2.2.1,((z1.2.2.2.2.2.2.2.2.2.2.2.2.2)||(z3.2))))) (K (JA (z1.1,z13,z11,z1.2.2.2.1,z1.2.2.2.2.1,(List.take ((z1.2.2.2.2.2.1).length+1) (z9++([(m,(List.take (z7.length) (List.drop 0 z7)))]))),z8,([]:List Int),z12,z6,z5,z4,z14.1,((((z1.2.2.2.2.2.2.2.2.2.2.2.2.2)||(z3.2))||((Zv z2 t).2))||(z14.2)))))))) (((Qx (α:=List (List Int)) z18)∧(((z1.2.2.2.2.2.1).length=(z1.2.2.2.2.2.1).length∨(z1.2.2.2.2.2.1).length+1≤(z1.2.2.2.2.2.1).length)∧(z1.2.2.2.2.2.1).length+1≤big))∧(zif (!s.2.2.2.1) ((Qx (α:=List Int) z2)∧K (JA (z1.1,z13,z11,z1.2.2.2.1,z1.2.2.2.2.1,(List.take ((z1.2.2.2.2.2.1).length+1) (z9++([(m,(List.take (z10.length) (List.drop 0 z10)))]))),z8,([]:List Int),z16,z6,z5,z4,z1.2.2.2.2.2.2.2.2.2.2.2.2.1,((z1.2.2.2.2.2.2.2.2.2.2.2.2.2)||(z3.2))))) (K (JA (z1.1,z13,z11,z1.2.2.2.1,z1.2.2.2.2.1,(List.take ((z1.2.2.2.2.2.1).length+1) (z9++([(m,(List.take (z10.length) (List.drop 0 z10)))]))),z8,([]:List Int),z12,z6,z5,z4,z14.1,((((z1.2.2.2.2.2.2.2.2.2.2.2.2.2)||(z3.2))||((Zv z2 t).2))||(z14.2))))))))))))):Hold (tawp QnP (0+0) QHI (TQ 0 0 QCy K) (Qd [(.a (Tup.cells Qp s)),(.c TI m),(.c (.sl [TI]) x),(.c (.sl [TI]) t)])) :=
 Hold.of (by kernel_rfl) h
theorem Qwc (s:Qc) (m:Int) (x:List Int) (t:List Int) (hp:J0 s m x t):TCon Tryz.prog 30 [(.a (Tup.cells Qp s)),(.c TI m),(.c (.sl [TI]) x),(.c (.sl [TI]) t)] (JA (Qt s m x t)):=by
 refine Qi rfl fun hb=>tcg (Γ:=QnP) (n:=123) (sg:=Qgy.sg) Qj (TOkL.cons QCO (TOkL.cons QqD (TOkL.cons QHy (TOkL.cons QgZ (TOkL.cons QaD (TOkL.cons QvC (TOkL.cons Qkt (TOkL.cons Qvf (TOkL.cons Qgx (TOkL.cons QbV (TOkL.cons QDS (TOkL.cons Qil TOkL.nil)))))))))))) (by kernel_rfl) (by kernel_rfl) (Qxx _ s m x t ?_)
 have hl_s_1:(s.2.1).length≤9223372036854775807:=hb.1.2.1.1
 have hl_s_2:(s.2.2.1).length≤9223372036854775807:=hb.1.2.2.1.1
 have hl_s_5:(s.2.2.2.2.2.1).length≤9223372036854775807:=hb.1.2.2.2.2.2.1.1
 have hl_s_6:(s.2.2.2.2.2.2.1).length≤9223372036854775807:=hb.1.2.2.2.2.2.2.1.1
 have hl_s_7:(s.2.2.2.2.2.2.2.1).length≤9223372036854775807:=hb.1.2.2.2.2.2.2.2.1.1
 have hl_s_8:(s.2.2.2.2.2.2.2.2.1).length≤9223372036854775807:=hb.1.2.2.2.2.2.2.2.2.1.1
 have hl_s_9:(s.2.2.2.2.2.2.2.2.2.1).length≤9223372036854775807:=hb.1.2.2.2.2.2.2.2.2.2.1.1
 have hl_s_10:(s.2.2.2.2.2.2.2.2.2.2.1).length≤9223372036854775807:=hb.1.2.2.2.2.2.2.2.2.2.2.1.1
 have hl_s_11:(s.2.2.2.2.2.2.2.2.2.2.2.1).length≤9223372036854775807:=hb.1.2.2.2.2.2.2.2.2.2.2.2.1.1
 have hl_x:x.length≤9223372036854775807:=hb.2.2.1.1
 have hl_t:t.length≤9223372036854775807:=hb.2.2.2.1.1
 conv=>zeta
 have hp':Sz.sz s≤2147483648:=hp
 have hs:=Qbm s
 have l1:=Ju (QC s)
 have e:=Qoq s m x t
 simp only [id,List.drop_zero,List.take_length,true_or,true_and,Nat.zero_add,Int.toNat_natCast]
 refine ⟨hp,fun h=>R_eq ?_,fun h=>⟨fun h2=>R_eq ?_,fun h2=>?_⟩⟩
 ·rw [h] at e;rw [Qgb (by rw [e];simp)]
 ·rw [h2] at e;rw [Qgb (by rw [e];simp)]
 rw [h,h2] at e
 have e:Yb s m x t=true:=by simpa using e
 have e2:=e
 simp only [Yb,Bool.and_eq_true] at e2
 have hm:=Qco e2.1.1.1
 have hml:=YG hm
 have ei:YO (Zq s) x=Qq (sOps s) x:=Qkn hm e2.1.1.2
 have hil:=QjI (sOps s) x
 have hx6:=Qg0 e2.1.1.2
 have hsz:=Qfj (sOps s) x
 have hout:=Qo0 e
 have hgs:=QiB [] (Qq (sOps s) x).1 (sOps s).length
 have e0:Sz.sz ([]:List Int)=0:=rfl
 have t10:Int.toNat (1:Int)-Int.toNat (0:Int)=1:=rfl
 rw [ei]
 simp only [t10,Zu,List.drop_zero,List.take_length]
 refine ⟨⟨by ((try simp only [sPc,QE,sOps,Qs,QA,QC,QH,sX,sY,sG,sD,QF,QB,sSat,QO,QM,QL,QN] at *);omega),by ((try simp only [sPc,QE,sOps,Qs,QA,QC,QH,sX,sY,sG,sD,QF,QB,sSat,QO,QM,QL,QN] at *);omega)⟩,fun hr=>⟨by ((try simp only [sPc,QE,sOps,Qs,QA,QC,QH,sX,sY,sG,sD,QF,QB,sSat,QO,QM,QL,QN] at *);omega),?_⟩,fun hr=>?_⟩
 ·have hks:Sz.sz ((Qq (sOps s) x).1.take 1)≤Sz.sz (Qq (sOps s) x).1:=by
   first
    | exact Qg8 _ _
    | exact Nat.le_refl _
  rw [if_pos (show QA s=true from hr)] at hout
  refine ⟨⟨by unfold Qx;((try simp only [sPc,QE,sOps,Qs,QA,QC,QH,sX,sY,sG,sD,QF,QB,sSat,QO,QM,QL,QN] at *);omega),by rw [ZT];((try simp only [sPc,QE,sOps,Qs,QA,QC,QH,sX,sY,sG,sD,QF,QB,sSat,QO,QM,QL,QN] at *);omega)⟩,fun hl=>⟨by unfold Qx;((try simp only [sPc,QE,sOps,Qs,QA,QC,QH,sX,sY,sG,sD,QF,QB,sSat,QO,QM,QL,QN] at *);omega),R_eq ?_⟩,fun hl=>R_eq ?_⟩
  ·have hl:s.2.2.2.1=false:=by simpa using hl
   rw [hout]
   simp only [Qs,hl]
   simp [List.take_of_length_le]
  ·have hl:s.2.2.2.1=true:=by simpa using hl
   rw [hout]
   simp only [Qs,hl]
   simp [Bool.or_assoc,List.take_of_length_le]
 ·have hks:Sz.sz ((Qq (sOps s) x).1)≤Sz.sz (Qq (sOps s) x).1:=by
   first
    | exact Qg8 _ _
    | exact Nat.le_refl _
  rw [if_neg (by rw [show QA s=false from hr];simp)] at hout
  refine ⟨⟨by unfold Qx;((try simp only [sPc,QE,sOps,Qs,QA,QC,QH,sX,sY,sG,sD,QF,QB,sSat,QO,QM,QL,QN] at *);omega),by rw [ZT];((try simp only [sPc,QE,sOps,Qs,QA,QC,QH,sX,sY,sG,sD,QF,QB,sSat,QO,QM,QL,QN] at *);omega)⟩,fun hl=>⟨by unfold Qx;((try simp only [sPc,QE,sOps,Qs,QA,QC,QH,sX,sY,sG,sD,QF,QB,sSat,QO,QM,QL,QN] at *);omega),R_eq ?_⟩,fun hl=>R_eq ?_⟩
  ·have hl:s.2.2.2.1=false:=by simpa using hl
   rw [hout]
   simp only [Qs,hl]
   simp [List.take_of_length_le]
  ·have hl:s.2.2.2.1=true:=by simpa using hl
   rw [hout]
   simp only [Qs,hl]
   simp [Bool.or_assoc,List.take_of_length_le]
theorem QFm:Qe Tryz.prog Qgy:=Qk fun x h=>Qwc x.1 x.2.1 x.2.2.1 x.2.2.2.1 h
def Js (t:Qc):TRes:=zra (.a (Tup.cells Qp t))
def QhE:TRow:=Qg 28 [(.a Qp),(.c TI),(.c (.sl [TI])),(.c (.sl [TI]))] fun x=>(some (J0 x.1 x.2.1 x.2.2.1 x.2.2.2.1),Js (Qt x.1 x.2.1 x.2.2.1 x.2.2.2.1))
def QdI:TTab:=⟨[Qjb,Qi2,YQ,Qj7,QjR,QgO,Qb2],false⟩
def Qlp:TCode :=
 (zsq [(.reg [zfa 130 9 5,zld 131 130 1,zmv 132 1,zmv 133 10,zop 134 (.build (z0s Ql) [(0,1,132),(1,1,133)]),zop 135 (.bsl 108 Ql [134]),zop 136 (.app 131 135 108 Ql),zfa 137 9 5,zst 137 136 1]),(.reg [zLd 138 9 14,zst 8 138 14]),.ret])
def Qx8:List (Nat × Md):=[(1,.one .d),(8,.b (zds 14)),(9,.b [.d,.d,.d,.d,.d,.f,.d,.d,.d,.d,.d,.d,.d,.d]),(10,.one .d)]
def QGC:TCode:=.wk Qx8 Qlp
def QsF:TCode :=
 (zsq [(zsq [(.reg [zfa 126 4 4,zld 127 126 1]),(.cond 127 (.reg [zmv 128 10,zop 129 (.slc 128 none (some (zki 1)) [(.sl [TI])]),zmv 10 129]) .skip)]),QGC])
def QH7:List (Nat × Md):=[(1,.one .d),(4,.b (zds 14)),(8,.b (zds 14)),(9,.b [.d,.d,.d,.d,.d,.f,.d,.d,.d,.d,.d,.d,.d,.d]),(10,.one .d)]
def Qv4:TCode:=.wk QH7 QsF
def QCz:TCode :=
 (zsq [(.reg [zop 4 (.box 39 0 14),zop 8 (.new 39 (z0s Qp))]),(.reg [zLd 17 4 14,zca 18 61 [17],zop 9 (.new 39 (z0s Qp)),zst 9 18 14]),(zsq [(.reg [zLd 19 4 14,zca 20 63 [19],zno 21 20,zmv 22 21,.grp 22 false [zmv 23 2,zca 24 97 [23],zno 25 24] 26 25,zmv 27 26,.grp 27 false [zmv 28 2,zle 29 28,zfa 30 4 2,zld 31 30 1,zia 32 31 (zki 0) ctOp,zfa 33 32 1,zld 34 33 1,zbi 35 .neq 29 34] 36 35,zmv 37 36,.grp 37 false [zfa 38 4 5,zld 39 38 1,zmv 40 1,zca 41 62 [39,40],zbi 42 .geq 41 (zki 0)] 43 42,zmv 44 43,.grp 44 false [zfa 45 4 3,zld 46 45 1,zmv 47 46,.grp 47 true [zmv 48 3,zca 49 97 [48],zno 50 49,zmv 51 50,.grp 51 false [zmv 52 3,zle 53 52,zfa 54 4 2,zld 55 54 1,zfa 56 4 2,zld 57 56 1,zle 58 57,zbi 59 .sub 58 (zki 1),zia 60 55 59 ctOp,zfa 61 60 2,zld 62 61 1,zbi 63 .neq 53 62] 64 63] 65 64] 66 65]),(.cond 66 (zsq [(.reg [zLd 67 9 14,zst 8 67 14]),.ret]) .skip)]),(.reg [zfa 69 4 2,zld 70 69 1,zmv 71 2,zca 72 64 [70,71],zmv 68 72,zex 73 68 0,zex 74 68 1,zmv 10 73,zmv 11 74]),(.reg [zmv 75 10,zmv 76 10,zle 77 76,zbi 78 .sub 77 (zki 1),zia 79 75 78 [(.sl [TI])],zfa 80 79 0,zld 81 80 1,zmv 12 81]),(.reg [zop 82 (.bsl 3 [TI] []),zfa 83 9 7,zst 83 82 1]),(.reg [zfa 84 4 11,zfa 85 84 2,zld 86 85 1,zmv 87 86,.grp 87 false [zmv 88 11] 89 88,zfa 90 9 11,zfa 91 90 2,zst 91 89 1]),(zsq [(.reg [zfa 92 4 3,zld 93 92 1]),(.cond 93 (zsq [(.reg [zmv 95 12,zmv 96 3,zca 97 98 [95,96],zmv 94 97,zex 98 94 0,zex 99 94 1,zmv 13 98,zmv 14 99]),(.reg [zfa 101 4 11,zfa 102 101 1,zld 103 102 1,zmv 104 13,zca 105 99 [103,104],zmv 100 105,zex 106 100 0,zex 107 100 1,zmv 15 106,zmv 16 107]),(.reg [zmv 108 15,zfa 109 9 11,zfa 110 109 1,zst 110 108 1]),(.reg [zfa 111 9 11,zfa 112 111 2,zld 113 112 1,zmv 114 113,.grp 114 false [zmv 115 14] 116 115,zmv 117 116,.grp 117 false [zmv 118 16] 119 118,zfa 120 9 11,zfa 121 120 2,zst 121 119 1])]) (.reg [zop 122 (.bsl 3 [TI] []),zmv 123 12,zop 124 (.app 122 123 3 [TI]),zfa 125 9 8,zst 125 124 1]))]),Qv4])
def Qkq:List (ARv × Md):=[(.l 8 14 true,.b (zds 14))]
def QrV:Qb:=TQ 0 0 Qkq K
@[irreducible] def QfZ (s:Qc) (m:Int) (y8:List Int) (y12:Int) (y13:Bool) (r:List (List Int)):Prop:=let z1:=id (α:=Qc) s
 let z2:=List.take ((z1.2.2.2.2.2.1).length) (z1.2.2.2.2.2.1)
 tawp QdI 0 Qlp (QrV K) ⟨[(1,(zci m)),(8,(.p 0 0 0)),(9,(.p 2 0 0)),(10,(zcs [(.sl [TI])] r))],[(0,(.box (Tup.cells Qp ((0:Int),[],[],false,false,[],[],[],[],[],[],[],(0:Int),false)))),(1,(.sl 108 Ql .ow (List.take (z2.length) z2))),(2,(.box [(zci (z1.1)),(zcs Qr (z1.2.1)),(zcs ctOp (z1.2.2.1)),(zcb (z1.2.2.2.1)),(zcb (z1.2.2.2.2.1)),(.r Ql 1 0 ((List.take (z2.length) z2).length)),(zcs [(.sl [TI])] (z1.2.2.2.2.2.2.1)),(zcs [TI] ([]:List Int)),(zcs [TI] y8),(zcs [TI] (z1.2.2.2.2.2.2.2.2.2.1)),(zcs [TI] (z1.2.2.2.2.2.2.2.2.2.2.1)),(zcs [(.sl [TI])] (z1.2.2.2.2.2.2.2.2.2.2.2.1)),(zci y12),(zcb y13)]))],3⟩
@[irreducible] def QfI (s:Qc) (m:Int) (x:List Int) (y8:List Int) (y12:Int) (y13:Bool):Prop:=let z1:=id (α:=Qc) s
 let z2:=List.take ((z1.2.2.2.2.2.1).length) (z1.2.2.2.2.2.1)
 tawp QdI 0 QsF (QrV K) ⟨[(1,(zci m)),(4,(.p 0 0 0)),(8,(.p 1 0 0)),(9,(.p 3 0 0)),(10,(zcs [(.sl [TI])] ((Qq s.2.2.1 x).1)))],[(0,(.box (Tup.cells Qp s))),(1,(.box (Tup.cells Qp ((0:Int),[],[],false,false,[],[],[],[],[],[],[],(0:Int),false)))),(2,(.sl 108 Ql .ow z2)),(3,(.box [(zci (z1.1)),(zcs Qr (z1.2.1)),(zcs ctOp (z1.2.2.1)),(zcb (z1.2.2.2.1)),(zcb (z1.2.2.2.2.1)),(.r Ql 2 0 (z2.length)),(zcs [(.sl [TI])] (z1.2.2.2.2.2.2.1)),(zcs [TI] ([]:List Int)),(zcs [TI] y8),(zcs [TI] (z1.2.2.2.2.2.2.2.2.2.1)),(zcs [TI] (z1.2.2.2.2.2.2.2.2.2.2.1)),(zcs [(.sl [TI])] (z1.2.2.2.2.2.2.2.2.2.2.2.1)),(zci y12),(zcb y13)]))],4⟩
theorem QFD (s:Qc) (m:Int) (y8:List Int) (y12:Int) (y13:Bool) (r:List (List Int)) (h :
 let z2:=id (α:=Qc) s
 let z3:=List.take ((z2.2.2.2.2.2.1).length) (z2.2.2.2.2.2.1)
 let z1:=List.take (z3.length) z3
 (((z1.length=z1.length∨z1.length+1≤z1.length)∧z1.length+1≤big)∧K (Js (z2.1,z2.2.1,z2.2.2.1,z2.2.2.2.1,z2.2.2.2.2.1,(List.take (z1.length+1) (List.drop 0 ((List.take (z1.length) z1)++([(m,r)])))),z2.2.2.2.2.2.2.1,([]:List Int),y8,z2.2.2.2.2.2.2.2.2.2.1,z2.2.2.2.2.2.2.2.2.2.2.1,z2.2.2.2.2.2.2.2.2.2.2.2.1,y12,y13)))):Hold (QfZ K s m y8 y12 y13 r) :=
 Hold.of (by kernel_rfl) h
theorem QBV (s:Qc) (m:Int) (x:List Int) (y8:List Int) (y12:Int) (y13:Bool) (h :
 (zif s.2.2.2.2.1 (((0:Int)≤(0:Int)∧(0:Int)≤(1:Int)∧(1:Int)≤(((Qq s.2.2.1 x).1).length:Int))∧(QfZ K s m y8 y12 y13 (List.take (Int.toNat (1:Int)-Int.toNat (0:Int)) (List.drop (Int.toNat (0:Int)) ((Qq s.2.2.1 x).1))))) (QfZ K s m y8 y12 y13 ((Qq s.2.2.1 x).1)))):Hold (QfI K s m x y8 y12 y13) :=
 Hold.of (by kernel_rfl) h
theorem QEv (s:Qc) (m:Int) (x:List Int) (t:List Int) (h :
 let z2:=id (α:=Qc) s
 let z3:=Qq s.2.2.1 x
 let z1:=gtd ([]:List Int) (z3.1) (Int.toNat (w64 (((z3.1).length:Int)-(1:Int))))
 let z4:=Q3 s.2.2.2.2.2.2.2.2.2.2.2.2.1 ((Zv z1 t).1)
 let z5:=w64 (((s.2.2.1).length:Int)-(1:Int))
 ((Qx (α:=Qc) s)∧((((!((!(QI s))||(!(QD x))))=true→((0:Int)≤(0:Int)∧Int.toNat (0:Int)<(s.2.2.1).length))∧((!((((!(QI s))||(!(QD x)))||((x.length:Int) != ((gtd dOp s.2.2.1 (Int.toNat (0:Int))).2.1)))||(decide ((Zs s.2.2.2.2.2.1 m)≥(0:Int)))))=true→(s.2.2.2.1=true→((!(!(QD t)))=true→((0:Int)≤w64 (((s.2.2.1).length:Int)-(1:Int))∧Int.toNat z5<(s.2.2.1).length)))))∧(zif (((((!(QI s))||(!(QD x)))||((x.length:Int) != ((gtd dOp s.2.2.1 (Int.toNat (0:Int))).2.1)))||(decide ((Zs s.2.2.2.2.2.1 m)≥(0:Int))))||(s.2.2.2.1&&((!(QD t))||((t.length:Int) != ((gtd dOp s.2.2.1 (Int.toNat z5)).2.2.1))))) (K (Js (z2.1,z2.2.1,z2.2.2.1,z2.2.2.2.1,z2.2.2.2.2.1,(List.take ((z2.2.2.2.2.2.1).length) (List.drop 0 (z2.2.2.2.2.2.1))),z2.2.2.2.2.2.2.1,z2.2.2.2.2.2.2.2.1,z2.2.2.2.2.2.2.2.2.1,z2.2.2.2.2.2.2.2.2.2.1,z2.2.2.2.2.2.2.2.2.2.2.1,z2.2.2.2.2.2.2.2.2.2.2.2.1,z2.2.2.2.2.2.2.2.2.2.2.2.2.1,z2.2.2.2.2.2.2.2.2.2.2.2.2.2))) ((QgE s.2.2.1 x)∧(((0:Int)≤w64 (((z3.1).length:Int)-(1:Int))∧Int.toNat (w64 (((z3.1).length:Int)-(1:Int)))<(z3.1).length)∧(zif s.2.2.2.1 (QfI K s m x (z2.2.2.2.2.2.2.2.2.1) (z4.1) (((s.2.2.2.2.2.2.2.2.2.2.2.2.2||(z3.2))||((Zv z1 t).2))||(z4.2))) (((0=0∨0+z1.length≤0)∧0+z1.length≤big)∧(QfI K s m x (List.take (0+z1.length) (List.drop 0 z1)) (z2.2.2.2.2.2.2.2.2.2.2.2.2.1) (s.2.2.2.2.2.2.2.2.2.2.2.2.2||(z3.2))))))))))):Hold (tawp QdI (0+0) QCz (TQ 0 0 Qkq K) (Qd [(.a (Tup.cells Qp s)),(.c TI m),(.c (.sl [TI]) x),(.c (.sl [TI]) t)])) :=
 Hold.of (by kernel_rfl) h
theorem QvX (s:Qc) (m:Int) (x:List Int) (t:List Int) (hp:J0 s m x t):TCon Tryz.prog 28 [(.a (Tup.cells Qp s)),(.c TI m),(.c (.sl [TI]) x),(.c (.sl [TI]) t)] (Js (Qt s m x t)):=by
 refine Qi rfl fun hb=>tcg (Γ:=QdI) (n:=139) (sg:=QhE.sg) Qj (TOkL.cons QFE (TOkL.cons QEa (TOkL.cons JI (TOkL.cons QGf (TOkL.cons QAq (TOkL.cons Qux (TOkL.cons Qgv TOkL.nil))))))) (by kernel_rfl) (by kernel_rfl) (QEv _ s m x t ?_)
 have hl_s_1:(s.2.1).length≤9223372036854775807:=hb.1.2.1.1
 have hl_s_2:(s.2.2.1).length≤9223372036854775807:=hb.1.2.2.1.1
 have hl_s_5:(s.2.2.2.2.2.1).length≤9223372036854775807:=hb.1.2.2.2.2.2.1.1
 have hl_s_6:(s.2.2.2.2.2.2.1).length≤9223372036854775807:=hb.1.2.2.2.2.2.2.1.1
 have hl_s_7:(s.2.2.2.2.2.2.2.1).length≤9223372036854775807:=hb.1.2.2.2.2.2.2.2.1.1
 have hl_s_8:(s.2.2.2.2.2.2.2.2.1).length≤9223372036854775807:=hb.1.2.2.2.2.2.2.2.2.1.1
 have hl_s_9:(s.2.2.2.2.2.2.2.2.2.1).length≤9223372036854775807:=hb.1.2.2.2.2.2.2.2.2.2.1.1
 have hl_s_10:(s.2.2.2.2.2.2.2.2.2.2.1).length≤9223372036854775807:=hb.1.2.2.2.2.2.2.2.2.2.2.1.1
 have hl_s_11:(s.2.2.2.2.2.2.2.2.2.2.2.1).length≤9223372036854775807:=hb.1.2.2.2.2.2.2.2.2.2.2.2.1.1
 have hl_x:x.length≤9223372036854775807:=hb.2.2.1.1
 have hl_t:t.length≤9223372036854775807:=hb.2.2.2.1.1
 conv=>zeta
 have hp':Sz.sz s≤2147483648:=hp
 have hs:=Qbm s
 have l1:=Ju (QC s)
 simp only [id,List.drop_zero,List.take_length,true_or,true_and,Nat.zero_add]
 have hk0:QI s=true→Int.toNat (w64 ((s.2.2.1.length:Int)-1))=s.2.2.1.length-1∧0≤w64 ((s.2.2.1.length:Int)-1)∧1≤s.2.2.1.length:=by
  intro h
  have:=YG (Qco h)
  rw [Qv (by ((try simp only [sPc,QE,sOps,Qs,QA,QC,QH,sX,sY,sG,sD,QF,QB,sSat,QO,QM,QL,QN] at *);omega)) (by ((try simp only [sPc,QE,sOps,Qs,QA,QC,QH,sX,sY,sG,sD,QF,QB,sSat,QO,QM,QL,QN] at *);omega))];((try simp only [sPc,QE,sOps,Qs,QA,QC,QH,sX,sY,sG,sD,QF,QB,sSat,QO,QM,QL,QN] at *);omega)
 have e:=QCR s m x t (Int.toNat (w64 ((s.2.2.1.length:Int)-1))) (fun h=>(hk0 h).1)
 have hb:∀ {b x:Bool},(!((!b)||x))=true→b=true:=by intro b x h;cases b <;> simp_all
 refine ⟨hp,⟨fun h=>⟨by omega,?_⟩,fun h _ _=>?_⟩,fun h=>R_eq ?_,fun h=>?_⟩
 ·have:=hk0 (hb h)
  simp;((try simp only [sPc,QE,sOps,Qs,QA,QC,QH,sX,sY,sG,sD,QF,QB,sSat,QO,QM,QL,QN] at *);omega)
 ·have h:QI s=true:=by
   cases hh:QI s
   ·rw [hh] at h;simp at h
   ·rfl
  have:=hk0 h
  exact ⟨this.2.1,by ((try simp only [sPc,QE,sOps,Qs,QA,QC,QH,sX,sY,sG,sD,QF,QB,sSat,QO,QM,QL,QN] at *);omega)⟩
 ·have e:(!Yb s m x t)=true:=e ▸ h
  simp only [Bool.not_eq_true'] at e
  rw [Qgb (by rw [e];simp)]
 have e:(!Yb s m x t)=false:=e ▸ h
 have e:Yb s m x t=true:=by simpa using e
 have e2:=e
 simp only [Yb,Bool.and_eq_true] at e2
 have hm:=Qco e2.1.1.1
 have hml:=YG hm
 have hil:=QjI (sOps s) x
 have hx6:=Qg0 e2.1.1.2
 have hsz:=Qfj (sOps s) x
 have hout:=Qo0 e
 have hw:w64 (((Qq (sOps s) x).1.length:Int)-1)=((sOps s).length:Nat):=by rw [hil,Qv (by ((try simp only [sPc,QE,sOps,Qs,QA,QC,QH,sX,sY,sG,sD,QF,QB,sSat,QO,QM,QL,QN] at *);omega)) (by ((try simp only [sPc,QE,sOps,Qs,QA,QC,QH,sX,sY,sG,sD,QF,QB,sSat,QO,QM,QL,QN] at *);omega))];((try simp only [sPc,QE,sOps,Qs,QA,QC,QH,sX,sY,sG,sD,QF,QB,sSat,QO,QM,QL,QN] at *);omega)
 have hgs:=QiB [] (Qq (sOps s) x).1 (sOps s).length
 have hgi:=Z8 (gtd [] (Qq (sOps s) x).1 (sOps s).length)
 have e0:Sz.sz ([]:List Int)=0:=rfl
 have k1:∀ y8 y12 y13,y8=(if Qs s then sY s else gtd [] (Qq (sOps s) x).1 (sOps s).length) →
   y12=(if Qs s then (Q3 (QB s) (Zv (gtd [] (Qq (sOps s) x).1 (sOps s).length) t).1).1 else QB s) →
   y13=(sSat s||(Qq (sOps s) x).2||(Qs s&&((Zv (gtd [] (Qq (sOps s) x).1 (sOps s).length) t).2||(Q3 (QB s) (Zv (gtd [] (Qq (sOps s) x).1 (sOps s).length) t).1).2)))→QfI (fun r'=>r'=Js (Qt s m x t)) s m x y8 y12 y13:=by
  intro y8 y12 y13 h1 h2 h3
  have k2:∀ r,r=(if QA s then (Qq (sOps s) x).1.take 1 else (Qq (sOps s) x).1)→QfZ (fun r'=>r'=Js (Qt s m x t)) s m y8 y12 y13 r:=by
   intro r hr
   refine (QFD (fun r'=>r'=Js (Qt s m x t)) s m y8 y12 y13 r ?_).h
   conv=>zeta
   simp only [id,List.drop_zero,List.take_length,true_or,true_and,Nat.zero_add,Zu]
   refine ⟨by rw [ZT];((try simp only [sPc,QE,sOps,Qs,QA,QC,QH,sX,sY,sG,sD,QF,QB,sSat,QO,QM,QL,QN] at *);omega),R_eq ?_⟩
   rw [hout,← hr,← h1,← h2,← h3]
   simp [List.take_of_length_le]
  refine (QBV (fun r'=>r'=Js (Qt s m x t)) s m x y8 y12 y13 ⟨fun hr=>⟨by ((try simp only [sPc,QE,sOps,Qs,QA,QC,QH,sX,sY,sG,sD,QF,QB,sSat,QO,QM,QL,QN] at *);omega),k2 _ ?_⟩,fun hr=>k2 _ ?_⟩).h
  ·rw [if_pos hr];rfl
  ·rw [if_neg (by rw [show QA s=false from hr];simp)]
 rw [hw]
 refine ⟨⟨by ((try simp only [sPc,QE,sOps,Qs,QA,QC,QH,sX,sY,sG,sD,QF,QB,sSat,QO,QM,QL,QN] at *);omega),by omega⟩,⟨by omega,by rw [Int.toNat_natCast];((try simp only [sPc,QE,sOps,Qs,QA,QC,QH,sX,sY,sG,sD,QF,QB,sSat,QO,QM,QL,QN] at *);omega)⟩,fun hl=>k1 _ _ _ ?_ ?_ ?_,fun hl=>⟨?_,k1 _ _ _ ?_ ?_ ?_⟩⟩
 ·rw [if_pos hl]
 ·rw [if_pos hl,Int.toNat_natCast]
 ·rw [show Qs s=true from hl,Int.toNat_natCast];simp [Bool.or_assoc]
 ·rw [Int.toNat_natCast,ZT];((try simp only [sPc,QE,sOps,Qs,QA,QC,QH,sX,sY,sG,sD,QF,QB,sSat,QO,QM,QL,QN] at *);omega)
 ·rw [if_neg (by rw [show Qs s=false from hl];simp),Int.toNat_natCast]
 ·rw [if_neg (by rw [show Qs s=false from hl];simp)]
 ·rw [show Qs s=false from hl];simp
theorem QHM:Qe Tryz.prog QhE:=Qk fun x h=>QvX x.1 x.2.1 x.2.2.1 x.2.2.2.1 h
end
end Go.Proofs.YtdplaepmjogjjaaGreat.Am

