/- -/
import Derived.Test.YtjbdljkhbglnhaaGreatZFP5
import Derived.Test.YtjbdljkhbglnhaaGreatZFP6
import Derived.Test.YtjbdljkhbglnhaaGreatZFP4
import Derived.Test.YtjbdljkhbglnhaaGreatZFP1
namespace Go.Proofs.YtjbdljkhbglnhaaGreat.Am
open Go Go.RowKit Go.Proofs.YtjbdljkhbglnhaaGreat
set_option linter.all false
noncomputable section
variable (K:TRes→Prop)
def QbS (t:Bool):TRes:=zre (zcb t)
def QoR:TRow:=Qh 132 [(.a Q0)] fun x=>(none,QbS (YS x.1))
def QoA:List TRow:=[]
def QDv:TCode :=
 (zsq [(.reg [zbi 16 .lss 15 14]),(.cond 16 .skip (.exit 0)),(.block 1 (zsq [(.reg [zia 17 13 15 [TI],zld 18 17 1,zmv 4 18]),(.reg [zmv 19 4,zbi 20 .lss 19 (zki 1),zmv 21 20,.grp 21 false [zmv 22 4,zbi 23 .gtr 22 (zki 5)] 24 23]),(.cond 24 (zsq [(.reg [zmv 2 (zkb false)]),.ret]) .skip)])),(.reg [zbi 25 .add 15 (zki 1),zmv 15 25])])
def QtS:List (Nat × Md):=zdl [13,14,15]
def QBq:TCode :=
 (zsq [(.reg [zmv 2 (zkb true)]),.ret])
def QL3:TCode :=
 (zsq [(.reg [zop 1 (.box 30 0 6),zmv 2 (zkb false)]),(zsq [(.reg [zfa 5 1 4,zld 6 5 1,zle 7 6,zfa 8 1 1,zld 9 8 1,zle 10 9,zbi 11 .neq 7 10]),(.cond 11 (zsq [(.reg [zmv 2 (zkb false)]),.ret]) .skip)]),(zsq [(.reg [zfa 12 1 4,zld 13 12 1,zle 14 13,zmv 15 (zki 0)]),(.block 0 (.loop QtS QDv))]),QBq])
def Qvp:List (ARv × Md):=[(.t 2,.one .d)]
def QEB:Qb:=TQ 0 0 Qvp K
def QKq:Qb:=Qseq (tawp QoA 0 QBq (QEB K)) (QEB K)
def Q0B:Qb:=Qblk 0 (QKq K)
def QoO (c:QC) (x:Int):Prop:=Loop QoA 0 QtS QDv (Q0B K) ⟨[(13,(zcs [TI] c.2.2.2.2.1)),(14,(zci ((c.2.2.2.2.1).length:Int))),(15,(zci x))],[],0⟩
theorem QKZ (c:QC) (x:Int) (h :
 (zif (decide (x<((c.2.2.2.2.1).length:Int))) (((0:Int)≤x∧Int.toNat x<(c.2.2.2.2.1).length)∧(zif ((decide ((gtd (0:Int) c.2.2.2.2.1 (Int.toNat x))<(1:Int)))||(decide ((gtd (0:Int) c.2.2.2.2.1 (Int.toNat x))>(5:Int)))) (K (QbS false)) (QoO K c (w64 (x+(1:Int)))))) (K (QbS true)))):QoO K c x :=
 Loop.of (by kernel_rfl) h
theorem QJU (c:QC) (h :
 (zif (((c.2.2.2.2.1).length:Int) != ((c.2.1).length:Int)) (K (QbS false)) (QoO K c 0))):Hold (tawp QoA (0+0) QL3 (TQ 0 0 Qvp K) (Qf [(.a (Tup.cells Q0 c))])) :=
 Hold.of (by kernel_rfl) h
theorem QIm (c:QC):TCon Tryz.prog 132 [(.a (Tup.cells Q0 c))] (QbS (YS c)):=by
 refine Qo rfl fun hb=>tcg (n:=26) (sg:=QoR.sg) Qj TOk.nil (by kernel_rfl) (by kernel_rfl) (QJU _ c ?_)
 have hl_c_0:(c.1).length≤9223372036854775807:=hb.1.1.1
 have hl_c_1:(c.2.1).length≤9223372036854775807:=hb.1.2.1.1
 have hl_c_3:(c.2.2.2.1).length≤9223372036854775807:=hb.1.2.2.2.1.1
 have hl_c_4:(c.2.2.2.2.1).length≤9223372036854775807:=hb.1.2.2.2.2.1.1
 have hl_c_5:(c.2.2.2.2.2).length≤9223372036854775807:=hb.1.2.2.2.2.2.1.1
 refine ⟨fun h=>R_eq (by grind [YS]),fun h=>?_⟩
 have hl:(c.2.2.2.2.1.length==c.2.1.length)=true:=by
  have h:((c.2.2.2.2.1.length:Int)==(c.2.1.length:Int))=true:=by simpa [bne] using h
  have:=of_decide_eq_true (by simpa using h:decide ((c.2.2.2.2.1.length:Int)=c.2.1.length)=true)
  simp;omega
 exact Qba (Q:=fun x=>QbS x=QbS (YS c)) (p:=fun n=>m_in n 1 5) (c:=fun n=>decide (n<1)||decide (n>5)) 0 hl_c_4 (by intro x;grind [m_in]) (fun i h=>QKZ (fun r'=>r'=QbS (YS c)) c i h) (R_eq (by simp [YS];intro _;simpa using hl))
theorem Q3k:Qg Tryz.prog QoR:=Qk fun x _=>QIm x.1
def Qcr (t:Bool):TRes:=zre (zcb t)
def QoX:TRow:=Qh 133 [(.a Q0),(.c TI)] fun x=>(none,Qcr (Jb x.1 x.2.1))
def Qry:List TRow:=[QeE,QqG]
def Qtn:TCode :=
 (zsq [(.reg [zbi 17 .lss 16 15]),(.cond 17 .skip (.exit 0)),(.block 1 (zsq [(.reg [zmv 18 16,zia 19 14 16 [TI],zld 20 19 1,zmv 5 18,zmv 6 20]),(.reg [zmv 21 6,zLd 22 2 6,zmv 23 5,zmv 24 1,zca 25 54 [22,23,24],zbi 26 .lss 21 25,zmv 27 26,.grp 27 false [zmv 28 6,zbi 29 .gtr 28 (zki 100000)] 30 29]),(.cond 30 (zsq [(.reg [zmv 4 (zkb false)]),.ret]) .skip)])),(.reg [zbi 31 .add 16 (zki 1),zmv 16 31])])
def QzG:List (Nat × Md):=[(1,.one .d),(2,.b (zds 6)),(14,.one .d),(15,.one .d),(16,.one .d)]
def QGC:TCode :=
 (zsq [(.reg [zmv 4 (zkb true)]),.ret])
def QJl:TCode :=
 (zsq [(.reg [zop 2 (.box 30 0 6),zmv 4 (zkb false)]),(zsq [(.draw [zfa 7 2 5,zld 8 7 1,zle 9 8,zLd 10 2 6,zca 11 59 [10],zbi 12 .neq 9 11] [(0,4),(1,4),(2,4)]),(.cond 12 (zsq [(.reg [zmv 4 (zkb false)]),.ret]) .skip)]),(zsq [(.reg [zfa 13 2 5,zld 14 13 1,zle 15 14,zmv 16 (zki 0)]),(.block 0 (.loop QzG Qtn))]),QGC])
def QFF:List (ARv × Md):=[(.t 4,.one .d)]
def QBF:Qb:=TQ 0 0 QFF K
def QVf:Qb:=Qseq (tawp Qry 0 QGC (QBF K)) (QBF K)
def QPL:Qb:=Qblk 0 (QVf K)
def Qkm (c:QC) (micro:Int) (x:Int):Prop:=Loop Qry 0 QzG Qtn (QPL K) ⟨[(1,(zci micro)),(2,(.p 0 0 0)),(14,(zcs [TI] c.2.2.2.2.2)),(15,(zci ((c.2.2.2.2.2).length:Int))),(16,(zci x))],[(0,(.box (Tup.cells Q0 c)))],1⟩
theorem QE4 (c:QC) (micro:Int) (x:Int) (h :
 (zif (decide (x<((c.2.2.2.2.2).length:Int))) (((0:Int)≤x∧Int.toNat x<(c.2.2.2.2.2).length)∧(zif ((decide ((gtd (0:Int) c.2.2.2.2.2 (Int.toNat x))<(Y1 c x micro)))||(decide ((gtd (0:Int) c.2.2.2.2.2 (Int.toNat x))>(100000:Int)))) (K (Qcr false)) (Qkm K c micro (w64 (x+(1:Int)))))) (K (Qcr true)))):Qkm K c micro x :=
 Loop.of (by kernel_rfl) h
theorem QHq (c:QC) (micro:Int) (h :
 (zif (((c.2.2.2.2.2).length:Int) != (QR c)) (K (Qcr false)) (Qkm K c micro 0))):Hold (tawp Qry (0+0) QJl (TQ 0 0 QFF K) (Qf [(.a (Tup.cells Q0 c)),(.c TI micro)])) :=
 Hold.of (by kernel_rfl) h
theorem QSb (c:QC) (micro:Int):TCon Tryz.prog 133 [(.a (Tup.cells Q0 c)),(.c TI micro)] (Qcr (Jb c micro)):=by
 refine Qo rfl fun hb=>tcg (n:=32) (sg:=QoX.sg) Qj (TOk.cons QjO (TOk.cons QI5 TOk.nil)) (by kernel_rfl) (by kernel_rfl) (QHq _ c micro ?_)
 have hl_c_0:(c.1).length≤9223372036854775807:=hb.1.1.1
 have hl_c_1:(c.2.1).length≤9223372036854775807:=hb.1.2.1.1
 have hl_c_3:(c.2.2.2.1).length≤9223372036854775807:=hb.1.2.2.2.1.1
 have hl_c_4:(c.2.2.2.2.1).length≤9223372036854775807:=hb.1.2.2.2.2.1.1
 have hl_c_5:(c.2.2.2.2.2).length≤9223372036854775807:=hb.1.2.2.2.2.2.1.1
 refine ⟨fun h=>R_eq (by grind [Jb]),fun h=>?_⟩
 refine Zk c.2.2.2.2.2 (fun r k=>Qbc c micro r k=Qbc c micro c.2.2.2.2.2 0→Qkm (fun r'=>r'=Qcr (Jb c micro)) c micro k) ?_ ?_ rfl
 ·intro he
  refine QE4 (fun r'=>r'=Qcr (Jb c micro)) c micro _ ⟨fun h=>by simp at h,fun _=>R_eq ?_⟩
  grind [Jb,Qbc]
 ·intro k x r hk hlt hg ih he
  refine QE4 (fun r'=>r'=Qcr (Jb c micro)) c micro _ ⟨fun _=>?_,fun h=>by simp at h;omega⟩
  rw [Int.toNat_natCast,hg,Qq (x:=(k:Int)+1) (by omega) (by omega)]
  rw [Qbc] at he
  refine ⟨⟨by omega,hlt⟩,fun h=>R_eq ?_,fun h=>ih ?_⟩
  ·grind [Jb,m_in]
  ·grind [m_in]
theorem QW5:Qg Tryz.prog QoX:=Qk fun x _=>QSb x.1 x.2.1
def QaQ (t:Int):TRes:=zre (zci t)
def QoC:TRow:=Qh 56 [(.a Q0),(.c (.sl Qx))] fun x=>(none,QaQ (ZB x.1 x.2.1))
def QOY:List TRow:=[QeE,Qaq,Qov,QoR,QoX]
def QWR:TCode :=
 (zsq [(.reg [zop 2 (.box 30 0 6),zmv 4 (zki 0)]),(.reg [zLd 6 2 6,zca 7 59 [6],zmv 5 7]),(.block 0 (zsq [(.reg [zfa 9 2 0,zLd 10 9 1,zca 11 131 [10],zno 12 11,zmv 8 12]),(.cond 8 (zsq [(.reg [zmv 4 (zki 1)]),.ret]) (zsq [(.reg [zfa 14 2 0,zLd 15 14 1,zmv 16 1,zca 17 87 [15,16],zno 18 17,zmv 13 18]),(.cond 13 (zsq [(.reg [zmv 4 (zki 2)]),.ret]) (zsq [(.reg [zmv 20 5,zbi 21 .eql 20 (zki 0),zmv 22 21,.grp 22 false [zmv 23 5,zbi 24 .gtr 23 (zki 4)] 25 24,zmv 19 25]),(.cond 19 (zsq [(.reg [zmv 4 (zki 3)]),.ret]) (zsq [(.reg [zfa 27 2 2,zld 28 27 1,zbi 29 .neq 28 (zki 1),zmv 30 29,.grp 30 true [zfa 31 2 2,zld 32 31 1,zbi 33 .neq 32 (zki 2)] 34 33,zmv 26 34]),(.cond 26 (zsq [(.reg [zmv 4 (zki 4)]),.ret]) (zsq [(.reg [zfa 36 2 3,zld 37 36 1,zle 38 37,zmv 39 5,zbi 40 .neq 38 39,zmv 35 40]),(.cond 35 (zsq [(.reg [zmv 4 (zki 5)]),.ret]) (zsq [(.reg [zLd 42 2 6,zca 43 132 [42],zno 44 43,zmv 41 44]),(.cond 41 (zsq [(.reg [zmv 4 (zki 6)]),.ret]) (zsq [(.reg [zLd 46 2 6,zmv 47 1,zle 48 47,zca 49 133 [46,48],zno 50 49,zmv 45 50]),(.cond 45 (zsq [(.reg [zmv 4 (zki 7)]),.ret]) .skip)]))]))]))]))]))]))])),(.reg [zmv 4 (zki 0)]),.ret])
def QLb:List (ARv × Md):=[(.t 4,.one .d)]
theorem QXQ (c:QC) (b:List Qp) (h :
 (zif (!(QT c.1)) (K (QaQ (1:Int))) (zif (!(Yj c.1 b)) (K (QaQ (2:Int))) (zif (((QR c)==(0:Int))||(decide ((QR c)>(4:Int)))) (K (QaQ (3:Int))) (zif ((c.2.2.1 != (1:Int))&&(c.2.2.1 != (2:Int))) (K (QaQ (4:Int))) (zif (((c.2.2.2.1).length:Int) != (QR c)) (K (QaQ (5:Int))) (zif (!(YS c)) (K (QaQ (6:Int))) (zif (!(Jb c (b.length:Int))) (K (QaQ (7:Int))) (K (QaQ (0:Int))))))))))):Hold (tawp QOY (0+0) QWR (TQ 0 0 QLb K) (Qf [(.a (Tup.cells Q0 c)),(.c (.sl Qx) b)])) :=
 Hold.of (by kernel_rfl) h
theorem QPA (c:QC) (b:List Qp):TCon Tryz.prog 56 [(.a (Tup.cells Q0 c)),(.c (.sl Qx) b)] (QaQ (ZB c b)):=by
 refine Qo rfl fun hb=>tcg (n:=51) (sg:=QoC.sg) Qj (TOk.cons QjO (TOk.cons Qbb (TOk.cons Q3l (TOk.cons Q3k (TOk.cons QW5 TOk.nil))))) (by kernel_rfl) (by kernel_rfl) (QXQ _ c b ?_)
 have hl_c_0:(c.1).length≤9223372036854775807:=hb.1.1.1
 have hl_c_1:(c.2.1).length≤9223372036854775807:=hb.1.2.1.1
 have hl_c_3:(c.2.2.2.1).length≤9223372036854775807:=hb.1.2.2.2.1.1
 have hl_c_4:(c.2.2.2.2.1).length≤9223372036854775807:=hb.1.2.2.2.2.1.1
 have hl_c_5:(c.2.2.2.2.2).length≤9223372036854775807:=hb.1.2.2.2.2.2.1.1
 have hl_b:b.length≤9223372036854775807:=hb.2.1.1
 have hs:=QcW (c:=c)
 refine ⟨fun h=>R_eq (by grind [ZB]),fun h1=>⟨fun h=>R_eq (by grind [ZB]),fun h2=>⟨fun h=>R_eq (by grind [ZB]),fun h3=>⟨fun h=>R_eq ?_,fun h4=>⟨fun h=>R_eq ?_,fun h5=>⟨fun h=>R_eq ?_,fun h6=>⟨fun h=>R_eq ?_,fun h7=>R_eq ?_⟩⟩⟩⟩⟩⟩⟩
 all_goals
  have a1:QT c.1=true:=by simpa using h1
  have a2:Yj c.1 b=true:=by simpa using h2
  have a3:¬ (QR c=0∨4<QR c):=by grind
 ·have:m_in c.2.2.1 1 2=false:=by simp at h;simp [m_in];omega
  simp [ZB,a1,a2,a3,this]
 ·have:m_in c.2.2.1 1 2=true:=by simp at h4;simp [m_in];omega
  have h:¬ (c.2.2.2.1.length:Int)=QR c:=by grind
  simp [ZB,a1,a2,a3,this,h]
 all_goals
  have a4:m_in c.2.2.1 1 2=true:=by simp at h4;simp [m_in];omega
  have a5:(c.2.2.2.1.length:Int)=QR c:=by grind
 ·have h:YS c=false:=by simpa using h
  simp [ZB,a1,a2,a3,a4,a5,h]
 ·have h:Jb c b.length=false:=by simpa using h
  have h6:YS c=true:=by simpa using h6
  simp [ZB,a1,a2,a3,a4,a5,h6,h]
 ·have h7:Jb c b.length=true:=by simpa using h7
  have h6:YS c=true:=by simpa using h6
  simp [ZB,a1,a2,a3,a4,a5,h6,h7]
theorem QLH:Qg Tryz.prog QoC:=Qk fun x _=>QPA x.1 x.2.1
def Ja (t:Int):TRes:=zre (zci t)
def Qka:TRow:=Qh 16 [(.a Q0),(.c (.sl Qx))] fun x=>(none,Ja (ZB x.1 x.2.1))
def QfB:List TRow:=[Qa9,QoT,QgY,YR,Qjb]
def Qw5:TCode :=
 (zsq [(zsq [(.reg [zmv 48 5,zfa 49 2 4,zld 50 49 1,zle 51 50,zbi 52 .lss 48 51]),(.cond 52 .skip (.exit 0))]),(.block 1 (zsq [(.reg [zfa 55 2 4,zld 56 55 1,zmv 57 5,zia 58 56 57 [TI],zld 59 58 1,zca 60 77 [59,(zki 1),(zki 5)],zno 61 60]),(.cond 61 (zsq [(.reg [zmv 4 (zki 6)]),.ret]) .skip)])),(.reg [zmv 53 5,zbi 54 .add 53 (zki 1),zmv 5 54])])
def QAh:List (Nat × Md):=[(1,.one .d),(2,.b (zds 6)),(5,.one .d)]
def QBS:TCode :=
 (zsq [(zsq [(.reg [zmv 70 6,zfa 71 2 5,zld 72 71 1,zle 73 72,zbi 74 .lss 70 73]),(.cond 74 .skip (.exit 2))]),(.block 3 (zsq [(.draw [zfa 77 2 5,zld 78 77 1,zmv 79 6,zia 80 78 79 [TI],zld 81 80 1,zLd 82 2 6,zmv 83 6,zmv 84 1,zle 85 84,zca 86 78 [82,83,85],zca 87 77 [81,86,(zki 100000)],zno 88 87] [(0,9),(1,9),(3,9),(4,9)]),(.cond 88 (zsq [(.reg [zmv 4 (zki 7)]),.ret]) .skip)])),(.reg [zmv 75 6,zbi 76 .add 75 (zki 1),zmv 6 76])])
def QE5:List (Nat × Md):=[(1,.one .d),(2,.b (zds 6)),(6,.one .d)]
def Qyy:TCode :=
 (zsq [(.reg [zmv 4 (zki 0)]),.ret])
def Qzx:TCode :=
 (zsq [(zsq [(.reg [zfa 62 2 5,zld 63 62 1,zle 64 63,zfa 65 2 1,zld 66 65 1,zle 67 66,zbi 68 .add 67 (zki 1),zbi 69 .neq 64 68]),(.cond 69 (zsq [(.reg [zmv 4 (zki 7)]),.ret]) .skip)]),(zsq [(.reg [zmv 6 (zki 0)]),(.block 2 (.loop QE5 QBS))]),Qyy])
def QLA:TCode :=
 (zsq [(.reg [zop 2 (.box 30 0 6),zmv 4 (zki 0)]),(zsq [(.reg [zfa 7 2 0,zLd 8 7 1,zca 9 74 [8],zno 10 9]),(.cond 10 (zsq [(.reg [zmv 4 (zki 1)]),.ret]) .skip)]),(zsq [(.reg [zfa 11 2 0,zLd 12 11 1,zmv 13 1,zca 14 75 [12,13],zno 15 14]),(.cond 15 (zsq [(.reg [zmv 4 (zki 2)]),.ret]) .skip)]),(zsq [(.reg [zfa 16 2 0,zLd 17 16 1,zfa 18 2 1,zld 19 18 1,zca 20 76 [17,19],zno 21 20,zmv 22 21,.grp 22 false [zfa 23 2 1,zld 24 23 1,zle 25 24,zbi 26 .add 25 (zki 1),zbi 27 .gtr 26 (zki 4)] 28 27]),(.cond 28 (zsq [(.reg [zmv 4 (zki 3)]),.ret]) .skip)]),(zsq [(.reg [zfa 29 2 2,zld 30 29 1,zca 31 77 [30,(zki 1),(zki 2)],zno 32 31]),(.cond 32 (zsq [(.reg [zmv 4 (zki 4)]),.ret]) .skip)]),(zsq [(.reg [zfa 33 2 3,zld 34 33 1,zle 35 34,zfa 36 2 1,zld 37 36 1,zle 38 37,zbi 39 .add 38 (zki 1),zbi 40 .neq 35 39]),(.cond 40 (zsq [(.reg [zmv 4 (zki 5)]),.ret]) .skip)]),(zsq [(.reg [zfa 41 2 4,zld 42 41 1,zle 43 42,zfa 44 2 1,zld 45 44 1,zle 46 45,zbi 47 .neq 43 46]),(.cond 47 (zsq [(.reg [zmv 4 (zki 6)]),.ret]) .skip)]),(zsq [(.reg [zmv 5 (zki 0)]),(.block 0 (.loop QAh Qw5))]),Qzx])
def QED:List (ARv × Md):=[(.t 4,.one .d)]
def Qlf:Qb:=TQ 0 0 QED K
def QXN:Qb:=Qseq (tawp QfB 0 Qyy (Qlf K)) (Qlf K)
def QLa:Qb:=Qblk 2 (QXN K)
def QgG (c:QC) (b:List Qp) (s:Int):Prop:=Loop QfB 0 QE5 QBS (QLa K) ⟨[(1,(zcs Qx b)),(2,(.p 0 0 0)),(6,(zci s))],[(0,(.box (Tup.cells Q0 c)))],1⟩
def QVY:Qb:=Qseq (tawp QfB 0 Qzx (Qlf K)) (Qlf K)
def QZm:Qb:=Qblk 0 (QVY K)
def Qhs (c:QC) (b:List Qp) (i:Int):Prop:=Loop QfB 0 QAh Qw5 (QZm K) ⟨[(1,(zcs Qx b)),(2,(.p 0 0 0)),(5,(zci i))],[(0,(.box (Tup.cells Q0 c)))],1⟩
theorem QGo (c:QC) (b:List Qp) (s:Int) (h :
 (zif (decide (s<((c.2.2.2.2.2).length:Int))) (((0:Int)≤s∧Int.toNat s<(c.2.2.2.2.2).length)∧(zif (!(m_in (gtd (0:Int) c.2.2.2.2.2 (Int.toNat s)) (Y1 c s (b.length:Int)) (100000:Int))) (K (Ja (7:Int))) (QgG K c b (w64 (s+(1:Int)))))) (K (Ja (0:Int))))):QgG K c b s :=
 Loop.of (by kernel_rfl) h
theorem QAP (c:QC) (b:List Qp) (i:Int) (h :
 (zif (decide (i<((c.2.2.2.2.1).length:Int))) (((0:Int)≤i∧Int.toNat i<(c.2.2.2.2.1).length)∧(zif (!(m_in (gtd (0:Int) c.2.2.2.2.1 (Int.toNat i)) (1:Int) (5:Int))) (K (Ja (6:Int))) (Qhs K c b (w64 (i+(1:Int)))))) (zif (((c.2.2.2.2.2).length:Int) != (w64 (((c.2.1).length:Int)+(1:Int)))) (K (Ja (7:Int))) (QgG K c b 0)))):Qhs K c b i :=
 Loop.of (by kernel_rfl) h
theorem Q20 (c:QC) (b:List Qp) (h :
 (zif (!(QT c.1)) (K (Ja (1:Int))) (zif (!(Yj c.1 b)) (K (Ja (2:Int))) (zif ((!(Zj c.1 c.2.1))||(decide ((w64 (((c.2.1).length:Int)+(1:Int)))>(4:Int)))) (K (Ja (3:Int))) (zif (!(m_in c.2.2.1 (1:Int) (2:Int))) (K (Ja (4:Int))) (zif (((c.2.2.2.1).length:Int) != (w64 (((c.2.1).length:Int)+(1:Int)))) (K (Ja (5:Int))) (zif (((c.2.2.2.2.1).length:Int) != ((c.2.1).length:Int)) (K (Ja (6:Int))) (Qhs K c b 0)))))))):Hold (tawp QfB (0+0) QLA (TQ 0 0 QED K) (Qf [(.a (Tup.cells Q0 c)),(.c (.sl Qx) b)])) :=
 Hold.of (by kernel_rfl) h
theorem QJi (c:QC) (b:List Qp):TCon Tryz.prog 16 [(.a (Tup.cells Q0 c)),(.c (.sl Qx) b)] (Ja (ZB c b)):=by
 refine Qo rfl fun hb=>tcg (n:=89) (sg:=Qka.sg) Qj (TOk.cons QbY (TOk.cons Q1U (TOk.cons QoL (TOk.cons Y9 (TOk.cons QwD TOk.nil))))) (by kernel_rfl) (by kernel_rfl) (Q20 _ c b ?_)
 have hl_c_0:(c.1).length≤9223372036854775807:=hb.1.1.1
 have hl_c_1:(c.2.1).length≤9223372036854775807:=hb.1.2.1.1
 have hl_c_3:(c.2.2.2.1).length≤9223372036854775807:=hb.1.2.2.2.1.1
 have hl_c_4:(c.2.2.2.2.1).length≤9223372036854775807:=hb.1.2.2.2.2.1.1
 have hl_c_5:(c.2.2.2.2.2).length≤9223372036854775807:=hb.1.2.2.2.2.2.1.1
 have hl_b:b.length≤9223372036854775807:=hb.2.1.1
 have hs:=QcW (c:=c)
 refine ⟨fun h=>R_eq (by grind [ZB]),fun h1=>⟨fun h=>R_eq (by grind [ZB]),fun h2=>⟨fun h=>R_eq ?_,fun h3=>?_⟩⟩⟩
 ·have a1:QT c.1=true:=by simpa using h1
  have a2:Yj c.1 b=true:=by simpa using h2
  have a3:QR c=0∨4<QR c:=by
   by_cases hc:Zj c.1 c.2.1=true
   ·have:=hs.2.2.2 hc
    have hcl:=QaU hc
    rw [← this,Qq (x:=QR c) (by omega) (by omega),hc] at h
    right;simpa using h
   ·left
    exact Classical.byContradiction fun hn=>hc (hs.2.2.1.1 hn)
  simp [ZB,a1,a2,a3]
 have a1:QT c.1=true:=by simpa using h1
 have a2:Yj c.1 b=true:=by simpa using h2
 have hc:Zj c.1 c.2.1=true:=by grind
 have hst:=hs.2.2.2 hc
 have hcl:=QaU hc
 have e2:w64 ((c.2.1.length:Int)+1)=QR c:=by rw [hst];exact Qq (by omega) (by omega)
 rw [e2] at h3 ⊢
 have a3:¬ (QR c=0∨4<QR c):=by grind
 refine ⟨fun h=>R_eq ?_,fun h4=>⟨fun h=>R_eq ?_,fun h5=>⟨fun h=>R_eq ?_,fun h6=>?_⟩⟩⟩
 ·have h:m_in c.2.2.1 1 2=false:=by simpa using h
  simp [ZB,a1,a2,a3,h]
 all_goals
  have a4:m_in c.2.2.1 1 2=true:=by simpa using h4
 ·have h:¬ (c.2.2.2.1.length:Int)=QR c:=by grind
  simp [ZB,a1,a2,a3,a4,h]
 all_goals
  have a5:(c.2.2.2.1.length:Int)=QR c:=by grind
 ·have h:YS c=false:=by grind [YS]
  simp [ZB,a1,a2,a3,a4,a5,h]
 have hl6:(c.2.2.2.2.1.length==c.2.1.length)=true:=by
  have h:((c.2.2.2.2.1.length:Int)==(c.2.1.length:Int))=true:=by simpa [bne] using h6
  have:=of_decide_eq_true (by simpa using h:decide ((c.2.2.2.2.1.length:Int)=c.2.1.length)=true)
  simp;omega
 have lims:YS c=true→(c.2.2.2.2.2.length:Int)=QR c→QgG (fun r'=>r'=Ja (ZB c b)) c b ((0:Nat):Int):=by
  intro a6 a7
  refine Zk c.2.2.2.2.2 (fun r k=>Qbc c b.length r k=Qbc c b.length c.2.2.2.2.2 0→QgG (fun r'=>r'=Ja (ZB c b)) c b k) ?_ ?_ rfl
  ·intro he
   refine QGo (fun r'=>r'=Ja (ZB c b)) c b _ ⟨fun h=>by simp at h,fun _=>R_eq ?_⟩
   have:Jb c b.length=true:=by grind [Jb,Qbc]
   simp [ZB,a1,a2,a3,a4,a5,a6,this]
  ·intro k x r hk hlt hg ih he
   refine QGo (fun r'=>r'=Ja (ZB c b)) c b _ ⟨fun _=>?_,fun h=>by simp at h;omega⟩
   rw [Int.toNat_natCast,hg,Qq (x:=(k:Int)+1) (by omega) (by omega)]
   rw [Qbc] at he
   refine ⟨⟨by omega,hlt⟩,fun h=>R_eq ?_,fun h=>ih ?_⟩
   ·have:Jb c b.length=false:=by grind [Jb]
    simp [ZB,a1,a2,a3,a4,a5,a6,this]
   ·grind
 refine Zk c.2.2.2.2.1 (fun r k=>(r.all fun n=>m_in n 1 5)=(c.2.2.2.2.1.all fun n=>m_in n 1 5)→Qhs (fun r'=>r'=Ja (ZB c b)) c b k) ?_ ?_ rfl
 ·intro he
  have a6:YS c=true:=by grind [YS]
  refine QAP (fun r'=>r'=Ja (ZB c b)) c b _ ⟨fun h=>by simp at h,fun _=>⟨fun h=>R_eq ?_,fun h=>lims a6 ?_⟩⟩
  ·have:Jb c b.length=false:=by grind [Jb]
   simp [ZB,a1,a2,a3,a4,a5,a6,this]
  ·grind
 ·intro k x r hk hlt hg ih he
  refine QAP (fun r'=>r'=Ja (ZB c b)) c b _ ⟨fun _=>?_,fun h=>by simp at h;omega⟩
  rw [Int.toNat_natCast,hg,Qq (x:=(k:Int)+1) (by omega) (by omega)]
  rw [List.all_cons] at he
  refine ⟨⟨by omega,hlt⟩,fun h=>R_eq ?_,fun h=>ih ?_⟩
  ·have h:m_in x 1 5=false:=by simpa using h
   rw [h,Bool.false_and] at he
   have:YS c=false:=by simp only [YS,← he,Bool.and_false]
   simp [ZB,a1,a2,a3,a4,a5,this]
  ·have h:m_in x 1 5=true:=by simpa using h
   rw [h,Bool.true_and] at he
   exact he
theorem QAv:Qg Tryz.prog Qka:=Qk fun x _=>QJi x.1 x.2.1
end
end Go.Proofs.YtjbdljkhbglnhaaGreat.Am

