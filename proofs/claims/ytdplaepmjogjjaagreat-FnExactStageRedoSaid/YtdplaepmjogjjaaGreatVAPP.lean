/- -/
import Derived.Test.YtdplaepmjogjjaaGreatVAPJ
import Derived.Test.YtdplaepmjogjjaaGreatVAP4
import Derived.Test.YtdplaepmjogjjaaGreatVAPF
import Derived.Test.YtdplaepmjogjjaaGreatVAP8
import Derived.Test.YtdplaepmjogjjaaGreatVAP1
import Derived.Test.YtdplaepmjogjjaaGreatVAP3
import Derived.Test.YtdplaepmjogjjaaGreatVAPK
import Derived.Test.YtdplaepmjogjjaaGreatVAPI
import Derived.Test.YtdplaepmjogjjaaGreatVAPG
import Derived.Test.YtdplaepmjogjjaaGreatVAGD
namespace Go.Proofs.YtdplaepmjogjjaaGreat.Am
open Go Go.RowKit Go.Proofs.YtdplaepmjogjjaaGreat
set_option linter.all false
set_option maxHeartbeats 2000000
noncomputable section
variable (K:TRes→Prop)
def Jv (t:Qc):TRes:=⟨(.a [(zci t.1),(.r Qo 0 0 ((t.2.1).length)),(.r ctOp 1 0 ((t.2.2.1).length)),(zcb t.2.2.2.1),(zcb t.2.2.2.2.1),(.r Ql 2 0 ((t.2.2.2.2.2.1).length)),(.r [(.sl [TI])] 3 0 ((t.2.2.2.2.2.2.1).length)),(.r [TI] 4 0 ((t.2.2.2.2.2.2.2.1).length)),(.r [TI] 5 0 ((t.2.2.2.2.2.2.2.2.1).length)),(.r [TI] 6 0 ((t.2.2.2.2.2.2.2.2.2.1).length)),(.r [TI] 7 0 ((t.2.2.2.2.2.2.2.2.2.2.1).length)),(.r [(.sl [TI])] 8 0 ((t.2.2.2.2.2.2.2.2.2.2.2.1).length)),(zci t.2.2.2.2.2.2.2.2.2.2.2.2.1),(zcb t.2.2.2.2.2.2.2.2.2.2.2.2.2)]),[(.sl 175 Qo (.dp 0 true []) t.2.1),(.sl 134 ctOp (.dp 0 true []) t.2.2.1),(.sl 108 Ql (.dp 0 true []) t.2.2.2.2.2.1),(.sl 106 [(.sl [TI])] (.dp 0 true []) t.2.2.2.2.2.2.1),(.sl 3 [TI] (.dp 0 true []) t.2.2.2.2.2.2.2.1),(.sl 3 [TI] (.dp 0 true []) t.2.2.2.2.2.2.2.2.1),(.sl 3 [TI] (.dp 0 true []) t.2.2.2.2.2.2.2.2.2.1),(.sl 3 [TI] (.dp 0 true []) t.2.2.2.2.2.2.2.2.2.2.1),(.sl 106 [(.sl [TI])] (.dp 0 true []) t.2.2.2.2.2.2.2.2.2.2.2.1)],[],false,[]⟩
def Qim:TRow:=Qh 70 [(.a Qp)] fun x=>(some (Qw (α:=Qc) x.1),Jv (id (α:=Qc) x.1))
def Qfa:TTab:=⟨[Qhp,Qes,Qa8,QfM],true⟩
def QjU:TCode :=
 (zsq [(.reg [zbi 24 .lss 23 22]),(.cond 24 .skip (.exit 0)),(.block 1 (zsq [(.reg [zia 25 21 23 Ql,zLd 26 25 2,zop 5 (.new 108 (z0s Ql)),zst 5 26 2]),(.draw [zfa 27 3 5,zld 28 27 1,zfa 29 5 0,zld 30 29 1,zfa 31 5 1,zld 32 31 1,zca 33 103 [32],zop 34 (.build (z0s Ql) [(0,1,30),(1,1,33)]),zop 35 (.bsl 108 Ql [34]),zop 36 (.app 28 35 108 Ql),zfa 37 3 5,zst 37 36 1] [(0,6),(1,6),(2,6),(3,6),(0,8),(1,8)])])),(.reg [zbi 38 .add 23 (zki 1),zmv 23 38])])
def Qs6:List (Nat × Md):=[(1,.b (zds 14)),(2,.b [.d,.f,.f,.d,.d,.f,.f,.f,.f,.f,.f,.f,.d,.d]),(3,.b [.d,.f,.f,.d,.d,.p 108,.f,.f,.f,.f,.f,.f,.d,.d]),(21,.one .d),(22,.one .d),(23,.one .d)]
def QlO:TCode :=
 (zsq [(.reg [zfa 39 1 6,zld 40 39 1,zca 41 103 [40],zfa 42 3 6,zst 42 41 1]),(.draw [zfa 43 1 7,zld 44 43 1,zca 45 104 [44],zfa 46 1 8,zld 47 46 1,zca 48 104 [47],zfa 49 1 9,zld 50 49 1,zca 51 104 [50],zfa 52 1 10,zld 53 52 1,zca 54 104 [53],zfa 55 3 7,zst 55 45 1,zfa 56 3 8,zst 56 48 1,zfa 57 3 9,zst 57 51 1,zfa 58 3 10,zst 58 54 1] [(2,3),(2,4),(2,6),(5,6),(2,7),(5,7),(2,9),(5,9),(8,9),(2,10),(5,10),(8,10),(5,12),(8,12),(11,12)]),(.reg [zfa 59 1 11,zLd 60 59 3,zca 61 166 [60],zfa 62 3 11,zst 62 61 3]),(.reg [zLd 63 3 14,zst 2 63 14]),.ret])
def Qzl:TCode :=
 (zsq [(.reg [zop 1 (.box 39 0 14),zop 2 (.new 39 (z0s Qp))]),(.draw [zfa 6 1 0,zld 7 6 1,zop 8 (.bsl 175 Qo []),zfa 9 1 1,zld 10 9 1,zop 11 (.app 8 10 175 Qo),zfa 12 1 2,zld 13 12 1,zca 14 165 [13],zfa 15 1 3,zld 16 15 1,zfa 17 1 4,zld 18 17 1,zop 19 (.build (z0s Qp) [(0,1,7),(1,1,11),(2,1,14),(3,1,16),(4,1,18)]),zop 3 (.new 39 (z0s Qp)),zst 3 19 14] [(0,2),(1,2),(2,3),(2,4),(0,5),(1,5),(2,6),(5,6),(2,7),(5,7),(0,8),(1,8),(2,9),(5,9),(8,9),(2,10),(5,10),(8,10),(2,11),(5,11),(8,11),(2,12),(5,12),(8,12),(0,14),(1,14),(2,14),(3,14),(4,14),(5,14),(6,14),(7,14),(8,14),(9,14),(10,14),(11,14),(12,14)]),(zsq [(.reg [zfa 20 1 5,zld 21 20 1,zle 22 21,zmv 23 (zki 0)]),(.block 0 (.loop Qs6 QjU))]),QlO])
def Qqn:List (ARv × Md):=[(.l 2 14 true,.b [.d,.p 175,.p 134,.d,.d,.p 108,.p 106,.p 3,.p 3,.p 3,.p 3,.p 106,.d,.d])]
def Qpj:Qb:=TQ 0 0 Qqn K
def QA1:Qb:=Qseq (tawp Qfa 0 QlO (Qpj K)) (Qpj K)
def Qux:Qb:=Qblk 0 (QA1 K)
def Qds (s:Qc) (x:Int) (t1:List TIns) (t2:List TOp') (t5:List Qd):Prop:=Loop Qfa 0 Qs6 QjU (Qux K) ⟨[(1,(.p 0 0 0)),(2,(.p 1 0 0)),(3,(.p 5 0 0)),(21,(zcs Ql s.2.2.2.2.2.1)),(22,(zci ((s.2.2.2.2.2.1).length:Int))),(23,(zci x))],[(0,(.box (Tup.cells Qp s))),(1,(.box [(zci 0),(.n Qo),(.n ctOp),(zcb false),(zcb false),(.n Ql),(.n [(.sl [TI])]),(.n [TI]),(.n [TI]),(.n [TI]),(.n [TI]),(.n [(.sl [TI])]),(zci 0),(zcb false)])),(2,(.sl 175 Qo (.dp 0 true []) t1)),(3,(.sl 134 ctOp (.dp 0 true []) t2)),(4,(.sl 108 Ql (.dp 0 true []) t5)),(5,(.box [(zci s.1),(.r Qo 2 0 t1.length),(.r ctOp 3 0 t2.length),(zcb s.2.2.2.1),(zcb s.2.2.2.2.1),(.r Ql 4 0 t5.length),(.n [(.sl [TI])]),(.n [TI]),(.n [TI]),(.n [TI]),(.n [TI]),(.n [(.sl [TI])]),(zci 0),(zcb false)]))],6⟩
theorem Qtm (s:Qc) (x:Int) (t1:List TIns) (t2:List TOp') (t5:List Qd) (h :
 (zif (decide (x<((s.2.2.2.2.2.1).length:Int))) (((0:Int)≤x∧Int.toNat x<(s.2.2.2.2.2.1).length)∧(((Qw (α:=List (List Int)) ((gtd Qu s.2.2.2.2.2.1 (Int.toNat x)).2))∧((t5.length=t5.length∨t5.length+1≤t5.length)∧t5.length+1≤big))∧(Qds K s (w64 (x+(1:Int))) (List.take t1.length t1) (List.take t2.length t2) (List.take (t5.length+1) ((List.take t5.length t5)++([((gtd Qu s.2.2.2.2.2.1 (Int.toNat x)).1,(List.take ((id (α:=List (List Int)) ((gtd Qu s.2.2.2.2.2.1 (Int.toNat x)).2)).length) (List.drop 0 (id (α:=List (List Int)) ((gtd Qu s.2.2.2.2.2.1 (Int.toNat x)).2)))))])))))) ((Qw (α:=List (List Int)) s.2.2.2.2.2.2.1)∧(((Qw (α:=List Int) s.2.2.2.2.2.2.2.1)∧((Qw (α:=List Int) s.2.2.2.2.2.2.2.2.1)∧((Qw (α:=List Int) s.2.2.2.2.2.2.2.2.2.1)∧(Qw (α:=List Int) s.2.2.2.2.2.2.2.2.2.2.1))))∧((Qw (α:=Qr) s.2.2.2.2.2.2.2.2.2.2.2)∧K (Jv (s.1,(List.take t1.length t1),(List.take t2.length t2),s.2.2.2.1,s.2.2.2.2.1,(List.take t5.length t5),(List.take ((id (α:=List (List Int)) s.2.2.2.2.2.2.1).length) (id (α:=List (List Int)) s.2.2.2.2.2.2.1)),(List.take ((id (α:=List Int) s.2.2.2.2.2.2.2.1).length) (id (α:=List Int) s.2.2.2.2.2.2.2.1)),(List.take ((id (α:=List Int) s.2.2.2.2.2.2.2.2.1).length) (id (α:=List Int) s.2.2.2.2.2.2.2.2.1)),(List.take ((id (α:=List Int) s.2.2.2.2.2.2.2.2.2.1).length) (id (α:=List Int) s.2.2.2.2.2.2.2.2.2.1)),(List.take ((id (α:=List Int) s.2.2.2.2.2.2.2.2.2.2.1).length) (id (α:=List Int) s.2.2.2.2.2.2.2.2.2.2.1)),(List.take (((id (α:=Qr) s.2.2.2.2.2.2.2.2.2.2.2).1).length) ((id (α:=Qr) s.2.2.2.2.2.2.2.2.2.2.2).1)),(id (α:=Qr) s.2.2.2.2.2.2.2.2.2.2.2).2.1,(id (α:=Qr) s.2.2.2.2.2.2.2.2.2.2.2).2.2))))))):Qds K s x t1 t2 t5 :=
 Loop.of (by kernel_rfl) h
theorem QBZ (s:Qc) (h :
 ((((0=0∨0+(s.2.1).length≤0)∧0+(s.2.1).length≤big)∧(Qw (α:=List TOp') s.2.2.1))∧(Qds K s 0 (List.take (0+(s.2.1).length) (s.2.1:List TIns)) (List.take ((id (α:=List TOp') s.2.2.1).length) (id (α:=List TOp') s.2.2.1)) ([]:List Qd)))):Hold (tawp Qfa (0+0) Qzl (TQ 0 0 Qqn K) (Qf [(.a (Tup.cells Qp s))])) :=
 Hold.of (by kernel_rfl) h
theorem QtC (s:Qc) (hp:Qw (α:=Qc) s):TCon Tryz.prog 70 [(.a (Tup.cells Qp s))] (Jv (id (α:=Qc) s)):=by
 refine Qj rfl fun hb=>tcg (Γ:=Qfa) (n:=64) (sg:=Qim.sg) Qi (TOkL.cons QDA (TOkL.cons Qlk (TOkL.cons Qdc (TOkL.cons Qxa TOkL.nil)))) (by kernel_rfl) (by kernel_rfl) (QBZ _ s ?_)
 have hl_s_1:(s.2.1).length≤9223372036854775807:=hb.1.2.1.1
 have hl_s_2:(s.2.2.1).length≤9223372036854775807:=hb.1.2.2.1.1
 have hl_s_5:(s.2.2.2.2.2.1).length≤9223372036854775807:=hb.1.2.2.2.2.2.1.1
 have hl_s_6:(s.2.2.2.2.2.2.1).length≤9223372036854775807:=hb.1.2.2.2.2.2.2.1.1
 have hl_s_7:(s.2.2.2.2.2.2.2.1).length≤9223372036854775807:=hb.1.2.2.2.2.2.2.2.1.1
 have hl_s_8:(s.2.2.2.2.2.2.2.2.1).length≤9223372036854775807:=hb.1.2.2.2.2.2.2.2.2.1.1
 have hl_s_9:(s.2.2.2.2.2.2.2.2.2.1).length≤9223372036854775807:=hb.1.2.2.2.2.2.2.2.2.2.1.1
 have hl_s_10:(s.2.2.2.2.2.2.2.2.2.2.1).length≤9223372036854775807:=hb.1.2.2.2.2.2.2.2.2.2.2.1.1
 have hl_s_11:(s.2.2.2.2.2.2.2.2.2.2.2.1).length≤9223372036854775807:=hb.1.2.2.2.2.2.2.2.2.2.2.2.1.1
 have hp':Sz.sz s≤2147483648:=hp
 have hs:=QdE s
 have l1:=QaV (QZ s)
 simp only [id,List.drop_zero,List.take_length,true_or,true_and,Nat.zero_add]
 refine ⟨⟨by rw [Yt];((try simp only [sPc,QZ,sOps,Za,Q8,QD,Zb,sX,sY,sG,sD,Q4,Zc,sSat,Ze,Zh,Zg,Zk] at *);omega),by unfold Qw;((try simp only [sPc,QZ,sOps,Za,Q8,QD,Zb,sX,sY,sG,sD,Q4,Zc,sSat,Ze,Zh,Zg,Zk] at *);omega)⟩,?_⟩
 refine QaT (l:=s.2.2.2.2.2.1) (A:=fun i v=>Qds (fun r'=>r'=Jv (id (α:=Qc) s)) s i s.2.1 s.2.2.1 v) (Q:=fun z=>Jv (s.1,s.2.1,s.2.2.1,s.2.2.2.1,s.2.2.2.2.1,z,s.2.2.2.2.2.2)=Jv (id (α:=Qc) s)) (by ((try simp only [sPc,QZ,sOps,Za,Q8,QD,Zb,sX,sY,sG,sD,Q4,Zc,sSat,Ze,Zh,Zg,Zk] at *);omega)) (fun k x v hk hl hg hv hx ih=>?_) (fun hq=>?_) (R_eq rfl)
 ·refine Qtm (fun r'=>r'=Jv (id (α:=Qc) s)) s _ _ _ _ ⟨fun _=>?_,fun h=>by simp at h;omega⟩
  simp only [QL,QI] at hx
  rw [Int.toNat_natCast,hg,sc1 (by omega),ZI,Qfq,List.take_length,List.take_length]
  exact ⟨⟨by omega,hk⟩,⟨by unfold Qw;omega,room (by omega)⟩,ih⟩
 ·refine Qtm (fun r'=>r'=Jv (id (α:=Qc) s)) s _ _ _ _ ⟨fun h=>by simp at h,fun _=>?_⟩
  simp only [id,List.drop_zero,List.take_length,true_or,true_and,Nat.zero_add]
  exact ⟨by unfold Qw;((try simp only [sPc,QZ,sOps,Za,Q8,QD,Zb,sX,sY,sG,sD,Q4,Zc,sSat,Ze,Zh,Zg,Zk] at *);omega),⟨by unfold Qw;((try simp only [sPc,QZ,sOps,Za,Q8,QD,Zb,sX,sY,sG,sD,Q4,Zc,sSat,Ze,Zh,Zg,Zk] at *);omega),by unfold Qw;((try simp only [sPc,QZ,sOps,Za,Q8,QD,Zb,sX,sY,sG,sD,Q4,Zc,sSat,Ze,Zh,Zg,Zk] at *);omega),by unfold Qw;((try simp only [sPc,QZ,sOps,Za,Q8,QD,Zb,sX,sY,sG,sD,Q4,Zc,sSat,Ze,Zh,Zg,Zk] at *);omega),by unfold Qw;((try simp only [sPc,QZ,sOps,Za,Q8,QD,Zb,sX,sY,sG,sD,Q4,Zc,sSat,Ze,Zh,Zg,Zk] at *);omega)⟩,by unfold Qw;simp only [QL,QI,QS];((try simp only [sPc,QZ,sOps,Za,Q8,QD,Zb,sX,sY,sG,sD,Q4,Zc,sSat,Ze,Zh,Zg,Zk] at *);omega),by first | exact hq | trivial⟩
theorem QyG:Qg Tryz.prog Qim:=Qk fun x h=>QtC x.1 h
def Jm (t:Qc):TRes:=⟨(.a [(zci t.1),(zcs Qo t.2.1),(zcs ctOp t.2.2.1),(zcb t.2.2.2.1),(zcb t.2.2.2.2.1),(.r Ql 0 0 ((t.2.2.2.2.2.1).length)),(zcs [(.sl [TI])] t.2.2.2.2.2.2.1),(zcs [TI] t.2.2.2.2.2.2.2.1),(zcs [TI] t.2.2.2.2.2.2.2.2.1),(zcs [TI] t.2.2.2.2.2.2.2.2.2.1),(zcs [TI] t.2.2.2.2.2.2.2.2.2.2.1),(zcs [(.sl [TI])] t.2.2.2.2.2.2.2.2.2.2.2.1),(zci t.2.2.2.2.2.2.2.2.2.2.2.2.1),(zcb t.2.2.2.2.2.2.2.2.2.2.2.2.2)]),[(.sl 108 Ql .ow t.2.2.2.2.2.1)],[],true,[]⟩
def Qjh:TRow:=Qh 61 [(.a Qp)] fun x=>(some (Qw (α:=Qc) x.1),Jm (id (α:=Qc) x.1))
def Qdf:TTab:=⟨[QjC,Qf3],false⟩
def QoG:TCode :=
 (zsq [(zsq [(.reg [zmv 17 4,zfa 18 1 5,zld 19 18 1,zle 20 19,zbi 21 .lss 17 20]),(.cond 21 .skip (.exit 0))]),(.block 1 (.draw [zfa 24 3 5,zld 25 24 1,zfa 26 1 5,zld 27 26 1,zmv 28 4,zia 29 27 28 Ql,zfa 30 29 0,zld 31 30 1,zfa 32 1 5,zld 33 32 1,zmv 34 4,zia 35 33 34 Ql,zfa 36 35 1,zld 37 36 1,zca 38 156 [37],zop 39 (.build (z0s Ql) [(0,1,31),(1,1,38)]),zop 40 (.bsl 108 Ql [39]),zop 41 (.app 25 40 108 Ql),zfa 42 3 5,zst 42 41 1] [(0,14),(1,14),(2,14),(3,14),(5,14),(6,14),(7,14),(0,16),(1,16)])),(.reg [zmv 22 4,zbi 23 .add 22 (zki 1),zmv 4 23])])
def Qk2:List (Nat × Md):=[(1,.b (zds 14)),(2,.b (zds 14)),(3,.b [.d,.d,.d,.d,.d,.f,.d,.d,.d,.d,.d,.d,.d,.d]),(4,.one .d)]
def QpS:TCode :=
 (zsq [(.reg [zfa 43 1 6,zld 44 43 1,zca 45 156 [44],zfa 46 3 6,zst 46 45 1]),(.reg [zop 47 (.bsl 3 [TI] []),zfa 48 1 7,zld 49 48 1,zop 50 (.app 47 49 3 [TI]),zfa 51 3 7,zst 51 50 1]),(.reg [zop 52 (.bsl 3 [TI] []),zfa 53 1 8,zld 54 53 1,zop 55 (.app 52 54 3 [TI]),zfa 56 3 8,zst 56 55 1]),(.reg [zop 57 (.bsl 3 [TI] []),zfa 58 1 9,zld 59 58 1,zop 60 (.app 57 59 3 [TI]),zfa 61 3 9,zst 61 60 1]),(.reg [zop 62 (.bsl 3 [TI] []),zfa 63 1 10,zld 64 63 1,zop 65 (.app 62 64 3 [TI]),zfa 66 3 10,zst 66 65 1]),(.reg [zfa 67 1 11,zfa 68 67 0,zld 69 68 1,zca 70 156 [69],zfa 71 3 11,zfa 72 71 0,zst 72 70 1]),(.reg [zLd 73 3 14,zst 2 73 14]),.ret])
def QxJ:TCode :=
 (zsq [(.reg [zop 1 (.box 39 0 14),zop 2 (.new 39 (z0s Qp))]),(.reg [zLd 5 1 14,zop 3 (.new 39 (z0s Qp)),zst 3 5 14]),(.reg [zfa 6 1 2,zld 7 6 1,zca 8 155 [7],zfa 9 3 2,zst 9 8 1]),(.reg [zop 10 (.bsl 175 Qo []),zfa 11 1 1,zld 12 11 1,zop 13 (.app 10 12 175 Qo),zfa 14 3 1,zst 14 13 1]),(.reg [zop 15 (.bsl 108 Ql []),zfa 16 3 5,zst 16 15 1]),(zsq [(.reg [zmv 4 (zki 0)]),(.block 0 (.loop Qk2 QoG))]),QpS])
def QkS:List (ARv × Md):=[(.l 2 14 true,.b [.d,.d,.d,.d,.d,.o 108,.d,.d,.d,.d,.d,.d,.d,.d])]
def QoN:Qb:=TQ 0 0 QkS K
def Qvc:Qb:=Qseq (tawp Qdf 0 QpS (QoN K)) (QoN K)
def Qxg:Qb:=Qblk 0 (Qvc K)
def Qfi (s:Qc) (i:Int) (x5:List Qd):Prop:=Loop Qdf 0 Qk2 QoG (Qxg K) ⟨[(1,(.p 0 0 0)),(2,(.p 1 0 0)),(3,(.p 3 0 0)),(4,(zci i))],[(0,(.box (Tup.cells Qp s))),(1,(.box (Tup.cells Qp ((0:Int),[],[],false,false,[],[],[],[],[],[],[],(0:Int),false)))),(2,(.sl 108 Ql .ow x5)),(3,(.box [(zci s.1),(zcs Qo (List.take (0+(s.2.1).length) (List.drop 0 (s.2.1:List TIns)))),(zcs ctOp (id (α:=List TOp') s.2.2.1)),(zcb s.2.2.2.1),(zcb s.2.2.2.2.1),(.r Ql 2 0 x5.length),(zcs [(.sl [TI])] s.2.2.2.2.2.2.1),(zcs [TI] s.2.2.2.2.2.2.2.1),(zcs [TI] s.2.2.2.2.2.2.2.2.1),(zcs [TI] s.2.2.2.2.2.2.2.2.2.1),(zcs [TI] s.2.2.2.2.2.2.2.2.2.2.1),(zcs [(.sl [TI])] s.2.2.2.2.2.2.2.2.2.2.2.1),(zci s.2.2.2.2.2.2.2.2.2.2.2.2.1),(zcb s.2.2.2.2.2.2.2.2.2.2.2.2.2)]))],4⟩
theorem Qlu (s:Qc) (i:Int) (x5:List Qd) (h :
 (zif (decide (i<((s.2.2.2.2.2.1).length:Int))) ((((0:Int)≤i∧Int.toNat i<(s.2.2.2.2.2.1).length)∧(((0:Int)≤i∧Int.toNat i<(s.2.2.2.2.2.1).length)∧((Qw (α:=List (List Int)) ((gtd Qu s.2.2.2.2.2.1 (Int.toNat i)).2))∧((x5.length=x5.length∨x5.length+1≤x5.length)∧x5.length+1≤big))))∧(Qfi K s (w64 (i+(1:Int))) (List.take (x5.length+1) ((List.take x5.length x5)++([((gtd Qu s.2.2.2.2.2.1 (Int.toNat i)).1,(id (α:=List (List Int)) ((gtd Qu s.2.2.2.2.2.1 (Int.toNat i)).2)))]))))) ((Qw (α:=List (List Int)) s.2.2.2.2.2.2.1)∧(((0=0∨0+(s.2.2.2.2.2.2.2.1).length≤0)∧0+(s.2.2.2.2.2.2.2.1).length≤big)∧(((0=0∨0+(s.2.2.2.2.2.2.2.2.1).length≤0)∧0+(s.2.2.2.2.2.2.2.2.1).length≤big)∧(((0=0∨0+(s.2.2.2.2.2.2.2.2.2.1).length≤0)∧0+(s.2.2.2.2.2.2.2.2.2.1).length≤big)∧(((0=0∨0+(s.2.2.2.2.2.2.2.2.2.2.1).length≤0)∧0+(s.2.2.2.2.2.2.2.2.2.2.1).length≤big)∧((Qw (α:=List (List Int)) s.2.2.2.2.2.2.2.2.2.2.2.1)∧K (Jm (s.1,(List.take (0+(s.2.1).length) (List.drop 0 (s.2.1:List TIns))),(id (α:=List TOp') s.2.2.1),s.2.2.2.1,s.2.2.2.2.1,(List.take x5.length x5),(id (α:=List (List Int)) s.2.2.2.2.2.2.1),(List.take (0+(s.2.2.2.2.2.2.2.1).length) (List.drop 0 (s.2.2.2.2.2.2.2.1:List Int))),(List.take (0+(s.2.2.2.2.2.2.2.2.1).length) (List.drop 0 (s.2.2.2.2.2.2.2.2.1:List Int))),(List.take (0+(s.2.2.2.2.2.2.2.2.2.1).length) (List.drop 0 (s.2.2.2.2.2.2.2.2.2.1:List Int))),(List.take (0+(s.2.2.2.2.2.2.2.2.2.2.1).length) (List.drop 0 (s.2.2.2.2.2.2.2.2.2.2.1:List Int))),(id (α:=List (List Int)) s.2.2.2.2.2.2.2.2.2.2.2.1),s.2.2.2.2.2.2.2.2.2.2.2.2.1,s.2.2.2.2.2.2.2.2.2.2.2.2.2)))))))))):Qfi K s i x5 :=
 Loop.of (by kernel_rfl) h
theorem Qzv (s:Qc) (h :
 ((Qw (α:=List TOp') s.2.2.1)∧(((0=0∨0+(s.2.1).length≤0)∧0+(s.2.1).length≤big)∧(Qfi K s 0 ([]:List Qd))))):Hold (tawp Qdf (0+0) QxJ (TQ 0 0 QkS K) (Qf [(.a (Tup.cells Qp s))])) :=
 Hold.of (by kernel_rfl) h
theorem Qxd (s:Qc) (hp:Qw (α:=Qc) s):TCon Tryz.prog 61 [(.a (Tup.cells Qp s))] (Jm (id (α:=Qc) s)):=by
 refine Qj rfl fun hb=>tcg (Γ:=Qdf) (n:=74) (sg:=Qjh.sg) Qi (TOkL.cons QvL (TOkL.cons QGn TOkL.nil)) (by kernel_rfl) (by kernel_rfl) (Qzv _ s ?_)
 have hl_s_1:(s.2.1).length≤9223372036854775807:=hb.1.2.1.1
 have hl_s_2:(s.2.2.1).length≤9223372036854775807:=hb.1.2.2.1.1
 have hl_s_5:(s.2.2.2.2.2.1).length≤9223372036854775807:=hb.1.2.2.2.2.2.1.1
 have hl_s_6:(s.2.2.2.2.2.2.1).length≤9223372036854775807:=hb.1.2.2.2.2.2.2.1.1
 have hl_s_7:(s.2.2.2.2.2.2.2.1).length≤9223372036854775807:=hb.1.2.2.2.2.2.2.2.1.1
 have hl_s_8:(s.2.2.2.2.2.2.2.2.1).length≤9223372036854775807:=hb.1.2.2.2.2.2.2.2.2.1.1
 have hl_s_9:(s.2.2.2.2.2.2.2.2.2.1).length≤9223372036854775807:=hb.1.2.2.2.2.2.2.2.2.2.1.1
 have hl_s_10:(s.2.2.2.2.2.2.2.2.2.2.1).length≤9223372036854775807:=hb.1.2.2.2.2.2.2.2.2.2.2.1.1
 have hl_s_11:(s.2.2.2.2.2.2.2.2.2.2.2.1).length≤9223372036854775807:=hb.1.2.2.2.2.2.2.2.2.2.2.2.1.1
 have hp':Sz.sz s≤2147483648:=hp
 have hs:=QdE s
 have l1:=QaV (QZ s)
 have l2:=YA (sX s)
 have l3:=YA (sY s)
 have l4:=YA (sG s)
 have l5:=YA (sD s)
 simp only [id,List.drop_zero,List.take_length,true_or,true_and,Nat.zero_add]
 refine ⟨by unfold Qw;((try simp only [sPc,QZ,sOps,Za,Q8,QD,Zb,sX,sY,sG,sD,Q4,Zc,sSat,Ze,Zh,Zg,Zk] at *);omega),by rw [Yt];((try simp only [sPc,QZ,sOps,Za,Q8,QD,Zb,sX,sY,sG,sD,Q4,Zc,sSat,Ze,Zh,Zg,Zk] at *);omega),?_⟩
 refine QaT (l:=s.2.2.2.2.2.1) (A:=fun i v=>Qfi (fun r'=>r'=Jm (id (α:=Qc) s)) s i v) (Q:=fun z=>Jm (s.1,s.2.1,s.2.2.1,s.2.2.2.1,s.2.2.2.2.1,z,s.2.2.2.2.2.2)=Jm (id (α:=Qc) s)) (by ((try simp only [sPc,QZ,sOps,Za,Q8,QD,Zb,sX,sY,sG,sD,Q4,Zc,sSat,Ze,Zh,Zg,Zk] at *);omega)) (fun k x v hk hl hg hv hx ih=>?_) (fun hq=>?_) (R_eq rfl)
 ·refine Qlu (fun r'=>r'=Jm (id (α:=Qc) s)) s _ _ ⟨fun _=>?_,fun h=>by simp at h;omega⟩
  simp only [QL,QI] at hx
  rw [Int.toNat_natCast,hg,sc1 (by omega),ZI]
  exact ⟨⟨⟨by omega,hk⟩,⟨by omega,hk⟩,by unfold Qw;omega,room (by omega)⟩,ih⟩
 ·refine Qlu (fun r'=>r'=Jm (id (α:=Qc) s)) s _ _ ⟨fun h=>by simp at h,fun _=>?_⟩
  simp only [id,List.drop_zero,List.take_length,true_or,true_and,Nat.zero_add]
  exact ⟨by unfold Qw;((try simp only [sPc,QZ,sOps,Za,Q8,QD,Zb,sX,sY,sG,sD,Q4,Zc,sSat,Ze,Zh,Zg,Zk] at *);omega),by rw [Yt];((try simp only [sPc,QZ,sOps,Za,Q8,QD,Zb,sX,sY,sG,sD,Q4,Zc,sSat,Ze,Zh,Zg,Zk] at *);omega),by rw [Yt];((try simp only [sPc,QZ,sOps,Za,Q8,QD,Zb,sX,sY,sG,sD,Q4,Zc,sSat,Ze,Zh,Zg,Zk] at *);omega),by rw [Yt];((try simp only [sPc,QZ,sOps,Za,Q8,QD,Zb,sX,sY,sG,sD,Q4,Zc,sSat,Ze,Zh,Zg,Zk] at *);omega),by rw [Yt];((try simp only [sPc,QZ,sOps,Za,Q8,QD,Zb,sX,sY,sG,sD,Q4,Zc,sSat,Ze,Zh,Zg,Zk] at *);omega),by unfold Qw;((try simp only [sPc,QZ,sOps,Za,Q8,QD,Zb,sX,sY,sG,sD,Q4,Zc,sSat,Ze,Zh,Zg,Zk] at *);omega),by first | exact hq | trivial⟩
theorem Qzj:Qg Tryz.prog Qjh:=Qk fun x h=>Qxd x.1 h
def QdN (t:Qc):TRes:=⟨(.a [(zci t.1),(.r Qo 0 0 ((t.2.1).length)),(.r ctOp 1 0 ((t.2.2.1).length)),(zcb t.2.2.2.1),(zcb t.2.2.2.2.1),(.r Ql 2 0 ((t.2.2.2.2.2.1).length)),(.r [(.sl [TI])] 3 0 ((t.2.2.2.2.2.2.1).length)),(.r [TI] 4 0 ((t.2.2.2.2.2.2.2.1).length)),(.r [TI] 5 0 ((t.2.2.2.2.2.2.2.2.1).length)),(.r [TI] 6 0 ((t.2.2.2.2.2.2.2.2.2.1).length)),(.r [TI] 7 0 ((t.2.2.2.2.2.2.2.2.2.2.1).length)),(.r [(.sl [TI])] 8 0 ((t.2.2.2.2.2.2.2.2.2.2.2.1).length)),(zci t.2.2.2.2.2.2.2.2.2.2.2.2.1),(zcb t.2.2.2.2.2.2.2.2.2.2.2.2.2)]),[(.sl 175 Qo (.dp 0 true []) t.2.1),(.sl 134 ctOp (.dp 0 true []) t.2.2.1),(.sl 108 Ql (.dp 0 true []) t.2.2.2.2.2.1),(.sl 106 [(.sl [TI])] (.dp 0 true []) t.2.2.2.2.2.2.1),(.sl 3 [TI] (.dp 0 true []) t.2.2.2.2.2.2.2.1),(.sl 3 [TI] (.dp 0 true []) t.2.2.2.2.2.2.2.2.1),(.sl 3 [TI] (.dp 0 true []) t.2.2.2.2.2.2.2.2.2.1),(.sl 3 [TI] (.dp 0 true []) t.2.2.2.2.2.2.2.2.2.2.1),(.sl 106 [(.sl [TI])] (.dp 0 true []) t.2.2.2.2.2.2.2.2.2.2.2.1)],[],false,[]⟩
def Qg5:TRow:=Qh 15 [(.a Qp),(.c TI)] fun x=>(some (Qaf x.1 x.2.1),QdN (Qs x.1 x.2.1))
def QrO:TTab:=⟨[Qim,QjG,QiY,QeC,QfL],true⟩
def Qxz:TCode :=
 (zsq [(.reg [zop 2 (.box 39 0 14),zop 4 (.new 39 (z0s Qp))]),(.reg [zLd 7 2 14,zca 8 70 [7],zop 5 (.new 39 (z0s Qp)),zst 5 8 14]),(.reg [zfa 9 2 5,zld 10 9 1,zmv 11 1,zca 12 71 [10,11],zmv 6 12]),(zsq [(.reg [zLd 13 2 14,zca 14 72 [13],zno 15 14,zmv 16 15,.grp 16 false [zmv 17 6,zbi 18 .lss 17 (zki 0)] 19 18]),(.cond 19 (zsq [(.reg [zLd 20 5 14,zst 4 20 14]),.ret]) .skip)]),(.draw [zLd 22 2 14,zca 23 74 [22],zfa 24 2 5,zld 25 24 1,zmv 26 6,zia 27 25 26 Ql,zfa 28 27 1,zld 29 28 1,zia 30 29 (zki 0) [(.sl [TI])],zfa 31 30 0,zld 32 31 1,zca 33 73 [23,32],zmv 21 33,zex 34 21 0,zex 35 21 1,zfa 36 5 6,zst 36 34 1] [(1,2),(1,3),(1,5),(1,6),(1,7),(1,8),(1,9),(1,10)]),(.reg [zLd 37 5 14,zst 4 37 14]),.ret])
def QxL:List (ARv × Md):=[(.l 4 14 true,.b [.d,.p 175,.p 134,.d,.d,.p 108,.p 106,.p 3,.p 3,.p 3,.p 3,.p 106,.d,.d])]
theorem Qxt (s:Qc) (m:Int) (h :
 let z1:=id (α:=Qc) s
 let z3:=QR s.2.2.2.2.2.1 m
 let z2:=YD (Ye s) (gtd ([]:List Int) ((gtd Qu s.2.2.2.2.2.1 (Int.toNat z3)).2) (Int.toNat (0:Int)))
 let z4:=List.take ((z1.2.2.2.2.2.2.2.2.2.2.2.1).length) (z1.2.2.2.2.2.2.2.2.2.2.2.1)
 let z5:=List.take ((z1.2.2.2.2.2.2.2.2.2.2.1).length) (z1.2.2.2.2.2.2.2.2.2.2.1)
 let z6:=List.take ((z1.2.2.2.2.2.2.2.2.2.1).length) (z1.2.2.2.2.2.2.2.2.2.1)
 let z7:=List.take ((z1.2.2.2.2.2.2.2.2.1).length) (z1.2.2.2.2.2.2.2.2.1)
 let z8:=List.take ((z1.2.2.2.2.2.2.2.1).length) (z1.2.2.2.2.2.2.2.1)
 let z9:=List.take ((z1.2.2.2.2.2.1).length) (z1.2.2.2.2.2.1)
 ((Qw (α:=Qc) s)∧(zif ((!(QB s))||(decide (z3<(0:Int)))) (K (QdN (z1.1,(List.take ((z1.2.1).length) (z1.2.1)),(List.take ((z1.2.2.1).length) (z1.2.2.1)),z1.2.2.2.1,z1.2.2.2.2.1,z9,(List.take ((z1.2.2.2.2.2.2.1).length) (z1.2.2.2.2.2.2.1)),z8,z7,z6,z5,z4,z1.2.2.2.2.2.2.2.2.2.2.2.2.1,z1.2.2.2.2.2.2.2.2.2.2.2.2.2))) ((((0:Int)≤z3∧Int.toNat z3<(s.2.2.2.2.2.1).length)∧((0:Int)≤(0:Int)∧Int.toNat (0:Int)<((gtd Qu s.2.2.2.2.2.1 (Int.toNat z3)).2).length))∧K (QdN (z1.1,(List.take ((z1.2.1).length) (z1.2.1)),(List.take ((z1.2.2.1).length) (z1.2.2.1)),z1.2.2.2.1,z1.2.2.2.2.1,z9,(List.take ((z2.1).length) (z2.1)),z8,z7,z6,z5,z4,z1.2.2.2.2.2.2.2.2.2.2.2.2.1,z1.2.2.2.2.2.2.2.2.2.2.2.2.2)))))):Hold (tawp QrO (0+0) Qxz (TQ 0 0 QxL K) (Qf [(.a (Tup.cells Qp s)),(.c TI m)])) :=
 Hold.of (by kernel_rfl) h
theorem QEs (s:Qc) (m:Int) (hp:Qaf s m):TCon Tryz.prog 15 [(.a (Tup.cells Qp s)),(.c TI m)] (QdN (Qs s m)):=by
 refine Qj rfl fun hb=>tcg (Γ:=QrO) (n:=38) (sg:=Qg5.sg) Qi (TOkL.cons QyG (TOkL.cons Qup (TOkL.cons Qub (TOkL.cons QoE (TOkL.cons QER TOkL.nil))))) (by kernel_rfl) (by kernel_rfl) (Qxt _ s m ?_)
 have hl_s_1:(s.2.1).length≤9223372036854775807:=hb.1.2.1.1
 have hl_s_2:(s.2.2.1).length≤9223372036854775807:=hb.1.2.2.1.1
 have hl_s_5:(s.2.2.2.2.2.1).length≤9223372036854775807:=hb.1.2.2.2.2.2.1.1
 have hl_s_6:(s.2.2.2.2.2.2.1).length≤9223372036854775807:=hb.1.2.2.2.2.2.2.1.1
 have hl_s_7:(s.2.2.2.2.2.2.2.1).length≤9223372036854775807:=hb.1.2.2.2.2.2.2.2.1.1
 have hl_s_8:(s.2.2.2.2.2.2.2.2.1).length≤9223372036854775807:=hb.1.2.2.2.2.2.2.2.2.1.1
 have hl_s_9:(s.2.2.2.2.2.2.2.2.2.1).length≤9223372036854775807:=hb.1.2.2.2.2.2.2.2.2.2.1.1
 have hl_s_10:(s.2.2.2.2.2.2.2.2.2.2.1).length≤9223372036854775807:=hb.1.2.2.2.2.2.2.2.2.2.2.1.1
 have hl_s_11:(s.2.2.2.2.2.2.2.2.2.2.2.1).length≤9223372036854775807:=hb.1.2.2.2.2.2.2.2.2.2.2.2.1.1
 conv=>zeta
 have hp':Sz.sz s≤2147483648:=hp
 simp only [id,List.drop_zero,List.take_length]
 rw [QmR]
 refine ⟨hp,fun h=>R_eq ?_,fun h=>?_⟩
 ·simp only [Bool.not_eq_true'] at h
  rw [QlG (by rw [h];simp)]
 have h:(QB s&&decide (0≤QR (QD s) m))=true:=by simpa using h
 have h':=h
 simp only [Bool.and_eq_true,decide_eq_true_eq] at h'
 have hf:=Qjt (QD s) m
 have hk:(QR (QD s) m).toNat<(QD s).length:=by omega
 have hr:=QhT h'.1 (QiJ h'.1 _ (Qji hk Qu))
 have ei:YD (Ye s) (gtd [] (gtd Qu s.2.2.2.2.2.1 (QR s.2.2.2.2.2.1 m).toNat).2 0)=QW (sOps s) (gtd [] (gtd Qu s.2.2.2.2.2.1 (QR s.2.2.2.2.2.1 m).toNat).2 0):=QkF (QeA h'.1) hr.2.2
 refine ⟨⟨⟨h'.2,hk⟩,⟨by omega,hr.1⟩⟩,R_eq ?_⟩
 rw [show Int.toNat (0:Int)=0 from rfl,ei]
 unfold Qs
 simp only
 rw [if_pos h]
theorem QtU:Qg Tryz.prog Qg5:=Qk fun x h=>QEs x.1 x.2.1 h
def Qe4 (t:Qc):TRes:=zra (.a (Tup.cells Qp t))
def Qia:TRow:=Qh 13 [(.a Qp),(.c TI)] fun x=>(some (Qaf x.1 x.2.1),Qe4 (Qs x.1 x.2.1))
def Qnj:TTab:=⟨[Qjh,QgR,QgY,QhN],false⟩
def QEB:TCode :=
 (zsq [(.reg [zop 2 (.box 39 0 14),zop 4 (.new 39 (z0s Qp))]),(.reg [zLd 9 2 14,zca 10 61 [9],zop 5 (.new 39 (z0s Qp)),zst 5 10 14]),(.reg [zfa 11 2 5,zld 12 11 1,zmv 13 1,zca 14 62 [12,13],zmv 6 14]),(zsq [(.reg [zLd 15 2 14,zca 16 63 [15],zno 17 16,zmv 18 17,.grp 18 false [zmv 19 6,zbi 20 .lss 19 (zki 0)] 21 20]),(.cond 21 (zsq [(.reg [zLd 22 5 14,zst 4 22 14]),.ret]) .skip)]),(.draw [zfa 24 2 2,zld 25 24 1,zfa 26 2 5,zld 27 26 1,zmv 28 6,zia 29 27 28 Ql,zfa 30 29 1,zld 31 30 1,zia 32 31 (zki 0) [(.sl [TI])],zfa 33 32 0,zld 34 33 1,zca 35 64 [25,34],zmv 23 35,zex 36 23 0,zex 37 23 1,zmv 7 36,zmv 8 37] []),(.reg [zmv 38 7,zfa 39 5 6,zst 39 38 1]),(.reg [zLd 40 5 14,zst 4 40 14]),.ret])
def QyO:List (ARv × Md):=[(.l 4 14 true,.b (zds 14))]
theorem QGf (s:Qc) (m:Int) (h :
 let z1:=id (α:=Qc) s
 let z2:=QR s.2.2.2.2.2.1 m
 let z3:=gtd ([]:List Int) ((gtd Qu s.2.2.2.2.2.1 (Int.toNat z2)).2) (Int.toNat (0:Int))
 let z4:=List.take ((z1.2.2.2.2.2.1).length) (List.drop 0 (z1.2.2.2.2.2.1))
 ((Qw (α:=Qc) s)∧(zif ((!(QB s))||(decide (z2<(0:Int)))) (K (Qe4 (z1.1,z1.2.1,z1.2.2.1,z1.2.2.2.1,z1.2.2.2.2.1,z4,z1.2.2.2.2.2.2.1,z1.2.2.2.2.2.2.2.1,z1.2.2.2.2.2.2.2.2.1,z1.2.2.2.2.2.2.2.2.2.1,z1.2.2.2.2.2.2.2.2.2.2.1,z1.2.2.2.2.2.2.2.2.2.2.2.1,z1.2.2.2.2.2.2.2.2.2.2.2.2.1,z1.2.2.2.2.2.2.2.2.2.2.2.2.2))) ((((0:Int)≤z2∧Int.toNat z2<(s.2.2.2.2.2.1).length)∧(((0:Int)≤(0:Int)∧Int.toNat (0:Int)<((gtd Qu s.2.2.2.2.2.1 (Int.toNat z2)).2).length)∧(QgK s.2.2.1 z3)))∧K (Qe4 (z1.1,z1.2.1,z1.2.2.1,z1.2.2.2.1,z1.2.2.2.2.1,z4,(QW s.2.2.1 z3).1,z1.2.2.2.2.2.2.2.1,z1.2.2.2.2.2.2.2.2.1,z1.2.2.2.2.2.2.2.2.2.1,z1.2.2.2.2.2.2.2.2.2.2.1,z1.2.2.2.2.2.2.2.2.2.2.2.1,z1.2.2.2.2.2.2.2.2.2.2.2.2.1,z1.2.2.2.2.2.2.2.2.2.2.2.2.2)))))):Hold (tawp Qnj (0+0) QEB (TQ 0 0 QyO K) (Qf [(.a (Tup.cells Qp s)),(.c TI m)])) :=
 Hold.of (by kernel_rfl) h
theorem QwB (s:Qc) (m:Int) (hp:Qaf s m):TCon Tryz.prog 13 [(.a (Tup.cells Qp s)),(.c TI m)] (Qe4 (Qs s m)):=by
 refine Qj rfl fun hb=>tcg (Γ:=Qnj) (n:=41) (sg:=Qia.sg) Qi (TOkL.cons Qzj (TOkL.cons QCF (TOkL.cons Qw1 (TOkL.cons QDY TOkL.nil)))) (by kernel_rfl) (by kernel_rfl) (QGf _ s m ?_)
 have hl_s_1:(s.2.1).length≤9223372036854775807:=hb.1.2.1.1
 have hl_s_2:(s.2.2.1).length≤9223372036854775807:=hb.1.2.2.1.1
 have hl_s_5:(s.2.2.2.2.2.1).length≤9223372036854775807:=hb.1.2.2.2.2.2.1.1
 have hl_s_6:(s.2.2.2.2.2.2.1).length≤9223372036854775807:=hb.1.2.2.2.2.2.2.1.1
 have hl_s_7:(s.2.2.2.2.2.2.2.1).length≤9223372036854775807:=hb.1.2.2.2.2.2.2.2.1.1
 have hl_s_8:(s.2.2.2.2.2.2.2.2.1).length≤9223372036854775807:=hb.1.2.2.2.2.2.2.2.2.1.1
 have hl_s_9:(s.2.2.2.2.2.2.2.2.2.1).length≤9223372036854775807:=hb.1.2.2.2.2.2.2.2.2.2.1.1
 have hl_s_10:(s.2.2.2.2.2.2.2.2.2.2.1).length≤9223372036854775807:=hb.1.2.2.2.2.2.2.2.2.2.2.1.1
 have hl_s_11:(s.2.2.2.2.2.2.2.2.2.2.2.1).length≤9223372036854775807:=hb.1.2.2.2.2.2.2.2.2.2.2.2.1.1
 conv=>zeta
 have hp':Sz.sz s≤2147483648:=hp
 simp only [id,List.drop_zero,List.take_length]
 rw [QmR]
 refine ⟨hp,fun h=>R_eq ?_,fun h=>?_⟩
 ·simp only [Bool.not_eq_true'] at h
  rw [QlG (by rw [h];simp)]
 have h:(QB s&&decide (0≤QR (QD s) m))=true:=by simpa using h
 have h':=h
 simp only [Bool.and_eq_true,decide_eq_true_eq] at h'
 have hf:=Qjt (QD s) m
 have hk:(QR (QD s) m).toNat<(QD s).length:=by omega
 have hr:=QhT h'.1 (QiJ h'.1 _ (Qji hk Qu))
 have hv:=Qot hr.2.2
 have hml:=Ja (QeA h'.1)
 refine ⟨⟨⟨h'.2,hk⟩,⟨by omega,hr.1⟩,⟨by ((try simp only [sPc,QZ,sOps,Za,Q8,QD,Zb,sX,sY,sG,sD,Q4,Zc,sSat,Ze,Zh,Zg,Zk] at *);omega),Nat.le_trans hv (by omega)⟩⟩,R_eq ?_⟩
 rw [show Int.toNat (0:Int)=0 from rfl]
 unfold Qs
 simp only
 rw [if_pos h]
theorem QB7:Qg Tryz.prog Qia:=Qk fun x h=>QwB x.1 x.2.1 h
end
end Go.Proofs.YtdplaepmjogjjaaGreat.Am

