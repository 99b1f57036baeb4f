/- -/
import Derived.Test.YtjbdljkhbglnhaaGreatZHP5
import Derived.Test.YtjbdljkhbglnhaaGreatZHP6
import Derived.Test.YtjbdljkhbglnhaaGreatZHP4
import Derived.Test.YtjbdljkhbglnhaaGreatZHP1
namespace Go.Proofs.YtjbdljkhbglnhaaGreat.Am
open Go Go.RowKit Go.Proofs.YtjbdljkhbglnhaaGreat
set_option linter.all false
noncomputable section
variable (K:TRes→Prop)
def QbL (t:Bool):TRes:=zre (zcb t)
def Qos:TRow:=Qg 132 [(.a QS)] fun x=>(none,QbL (Yp x.1))
def Qlf:List TRow:=[]
def QwF:TCode :=
 (zsq [(.reg [zbi 16 .lss 15 14]),(.cond 16 .skip (.exit 0)),(.block 1 (zsq [(.reg [zia 17 13 15 [TI],zld 18 17 1,zmv 4 18]),(.reg [zmv 19 4,zbi 20 .lss 19 (zki 1),zmv 21 20,.grp 21 false [zmv 22 4,zbi 23 .gtr 22 (zki 5)] 24 23]),(.cond 24 (zsq [(.reg [zmv 2 (zkb false)]),.ret]) .skip)])),(.reg [zbi 25 .add 15 (zki 1),zmv 15 25])])
def QuE:List (Nat × Md):=zdl [13,14,15]
def Qwz:TCode :=
 (zsq [(.reg [zmv 2 (zkb true)]),.ret])
def QMW:TCode :=
 (zsq [(.reg [zop 1 (.box 30 0 6),zmv 2 (zkb false)]),(zsq [(.reg [zfa 5 1 4,zld 6 5 1,zle 7 6,zfa 8 1 1,zld 9 8 1,zle 10 9,zbi 11 .neq 7 10]),(.cond 11 (zsq [(.reg [zmv 2 (zkb false)]),.ret]) .skip)]),(zsq [(.reg [zfa 12 1 4,zld 13 12 1,zle 14 13,zmv 15 (zki 0)]),(.block 0 (.loop QuE QwF))]),Qwz])
def Qrz:List (ARv × Md):=[(.t 2,.one .d)]
def Qq9:Qb:=TQ 0 0 Qrz K
def QLe:Qb:=Qseq (tawp Qlf 0 Qwz (Qq9 K)) (Qq9 K)
def QJl:Qb:=Qblk 0 (QLe K)
def Qj6 (c:Ql) (x:Int):Prop:=Loop Qlf 0 QuE QwF (QJl K) ⟨[(13,(zcs [TI] c.2.2.2.2.1)),(14,(zci ((c.2.2.2.2.1).length:Int))),(15,(zci x))],[],0⟩
theorem QE5 (c:Ql) (x:Int) (h :
 (zif (decide (x<((c.2.2.2.2.1).length:Int))) (((0:Int)≤x∧Int.toNat x<(c.2.2.2.2.1).length)∧(zif ((decide ((gtd (0:Int) c.2.2.2.2.1 (Int.toNat x))<(1:Int)))||(decide ((gtd (0:Int) c.2.2.2.2.1 (Int.toNat x))>(5:Int)))) (K (QbL false)) (Qj6 K c (w64 (x+(1:Int)))))) (K (QbL true)))):Qj6 K c x :=
 Loop.of (by kernel_rfl) h
theorem QGj (c:Ql) (h :
 (zif (((c.2.2.2.2.1).length:Int) != ((c.2.1).length:Int)) (K (QbL false)) (Qj6 K c 0))):Hold (tawp Qlf (0+0) QMW (TQ 0 0 Qrz K) (Qf [(.a (Tup.cells QS c))])) :=
 Hold.of (by kernel_rfl) h
theorem QIw (c:Ql):TCon Tryz.prog 132 [(.a (Tup.cells QS c))] (QbL (Yp c)):=by
 refine Qq rfl fun hb=>tcg (n:=26) (sg:=Qos.sg) Qj TOk.nil (by kernel_rfl) (by kernel_rfl) (QGj _ c ?_)
 have hl_c_0:(c.1).length≤9223372036854775807:=hb.1.1.1
 have hl_c_1:(c.2.1).length≤9223372036854775807:=hb.1.2.1.1
 have hl_c_3:(c.2.2.2.1).length≤9223372036854775807:=hb.1.2.2.2.1.1
 have hl_c_4:(c.2.2.2.2.1).length≤9223372036854775807:=hb.1.2.2.2.2.1.1
 have hl_c_5:(c.2.2.2.2.2).length≤9223372036854775807:=hb.1.2.2.2.2.2.1.1
 refine ⟨fun h=>R_eq (by grind [Yp]),fun h=>?_⟩
 have hl:(c.2.2.2.2.1.length==c.2.1.length)=true:=by
  have h:((c.2.2.2.2.1.length:Int)==(c.2.1.length:Int))=true:=by simpa [bne] using h
  have:=of_decide_eq_true (by simpa using h:decide ((c.2.2.2.2.1.length:Int)=c.2.1.length)=true)
  simp;omega
 exact Qb3 (Q:=fun x=>QbL x=QbL (Yp c)) (p:=fun n=>m_in n 1 5) (c:=fun n=>decide (n<1)||decide (n>5)) 0 hl_c_4 (by intro x;grind [m_in]) (fun i h=>QE5 (fun r'=>r'=QbL (Yp c)) c i h) (R_eq (by simp [Yp];intro _;simpa using hl))
theorem QLy:Qh Tryz.prog Qos:=Qk fun x _=>QIw x.1
def Qcc (t:Bool):TRes:=zre (zcb t)
def Qom:TRow:=Qg 133 [(.a QS),(.c TI)] fun x=>(none,Qcc (YG x.1 x.2.1))
def Qln:List TRow:=[QdM,QmI]
def Qy2:TCode :=
 (zsq [(.reg [zbi 17 .lss 16 15]),(.cond 17 .skip (.exit 0)),(.block 1 (zsq [(.reg [zmv 18 16,zia 19 14 16 [TI],zld 20 19 1,zmv 5 18,zmv 6 20]),(.reg [zmv 21 6,zLd 22 2 6,zmv 23 5,zmv 24 1,zca 25 54 [22,23,24],zbi 26 .lss 21 25,zmv 27 26,.grp 27 false [zmv 28 6,zbi 29 .gtr 28 (zki 100000)] 30 29]),(.cond 30 (zsq [(.reg [zmv 4 (zkb false)]),.ret]) .skip)])),(.reg [zbi 31 .add 16 (zki 1),zmv 16 31])])
def Qw5:List (Nat × Md):=[(1,.one .d),(2,.b (zds 6)),(14,.one .d),(15,.one .d),(16,.one .d)]
def Qss:TCode :=
 (zsq [(.reg [zmv 4 (zkb true)]),.ret])
def QE7:TCode :=
 (zsq [(.reg [zop 2 (.box 30 0 6),zmv 4 (zkb false)]),(zsq [(.draw [zfa 7 2 5,zld 8 7 1,zle 9 8,zLd 10 2 6,zca 11 59 [10],zbi 12 .neq 9 11] [(0,4),(1,4),(2,4)]),(.cond 12 (zsq [(.reg [zmv 4 (zkb false)]),.ret]) .skip)]),(zsq [(.reg [zfa 13 2 5,zld 14 13 1,zle 15 14,zmv 16 (zki 0)]),(.block 0 (.loop Qw5 Qy2))]),Qss])
def QyF:List (ARv × Md):=[(.t 4,.one .d)]
def QvZ:Qb:=TQ 0 0 QyF K
def QQt:Qb:=Qseq (tawp Qln 0 Qss (QvZ K)) (QvZ K)
def QOS:Qb:=Qblk 0 (QQt K)
def QiT (c:Ql) (micro:Int) (x:Int):Prop:=Loop Qln 0 Qw5 Qy2 (QOS K) ⟨[(1,(zci micro)),(2,(.p 0 0 0)),(14,(zcs [TI] c.2.2.2.2.2)),(15,(zci ((c.2.2.2.2.2).length:Int))),(16,(zci x))],[(0,(.box (Tup.cells QS c)))],1⟩
theorem QwW (c:Ql) (micro:Int) (x:Int) (h :
 (zif (decide (x<((c.2.2.2.2.2).length:Int))) (((0:Int)≤x∧Int.toNat x<(c.2.2.2.2.2).length)∧(zif ((decide ((gtd (0:Int) c.2.2.2.2.2 (Int.toNat x))<(Zy c x micro)))||(decide ((gtd (0:Int) c.2.2.2.2.2 (Int.toNat x))>(100000:Int)))) (K (Qcc false)) (QiT K c micro (w64 (x+(1:Int)))))) (K (Qcc true)))):QiT K c micro x :=
 Loop.of (by kernel_rfl) h
theorem QPI (c:Ql) (micro:Int) (h :
 (zif (((c.2.2.2.2.2).length:Int) != (QH c)) (K (Qcc false)) (QiT K c micro 0))):Hold (tawp Qln (0+0) QE7 (TQ 0 0 QyF K) (Qf [(.a (Tup.cells QS c)),(.c TI micro)])) :=
 Hold.of (by kernel_rfl) h
theorem QNS (c:Ql) (micro:Int):TCon Tryz.prog 133 [(.a (Tup.cells QS c)),(.c TI micro)] (Qcc (YG c micro)):=by
 refine Qq rfl fun hb=>tcg (n:=32) (sg:=Qom.sg) Qj (TOk.cons Qgw (TOk.cons QGe TOk.nil)) (by kernel_rfl) (by kernel_rfl) (QPI _ c micro ?_)
 have hl_c_0:(c.1).length≤9223372036854775807:=hb.1.1.1
 have hl_c_1:(c.2.1).length≤9223372036854775807:=hb.1.2.1.1
 have hl_c_3:(c.2.2.2.1).length≤9223372036854775807:=hb.1.2.2.2.1.1
 have hl_c_4:(c.2.2.2.2.1).length≤9223372036854775807:=hb.1.2.2.2.2.1.1
 have hl_c_5:(c.2.2.2.2.2).length≤9223372036854775807:=hb.1.2.2.2.2.2.1.1
 refine ⟨fun h=>R_eq (by grind [YG]),fun h=>?_⟩
 refine ZL c.2.2.2.2.2 (fun r k=>J1 c micro r k=J1 c micro c.2.2.2.2.2 0→QiT (fun r'=>r'=Qcc (YG c micro)) c micro k) ?_ ?_ rfl
 ·intro he
  refine QwW (fun r'=>r'=Qcc (YG c micro)) c micro _ ⟨fun h=>by simp at h,fun _=>R_eq ?_⟩
  grind [YG,J1]
 ·intro k x r hk hlt hg ih he
  refine QwW (fun r'=>r'=Qcc (YG c micro)) c micro _ ⟨fun _=>?_,fun h=>by simp at h;omega⟩
  rw [Int.toNat_natCast,hg,Qo (x:=(k:Int)+1) (by omega) (by omega)]
  rw [J1] at he
  refine ⟨⟨by omega,hlt⟩,fun h=>R_eq ?_,fun h=>ih ?_⟩
  ·grind [YG,m_in]
  ·grind [m_in]
theorem QGk:Qh Tryz.prog Qom:=Qk fun x _=>QNS x.1 x.2.1
def QaG (t:Int):TRes:=zre (zci t)
def Qik:TRow:=Qg 56 [(.a QS),(.c (.sl QB))] fun x=>(none,QaG (Zj x.1 x.2.1))
def QOm:List TRow:=[QdM,J6,QmZ,Qos,Qom]
def QKs:TCode :=
 (zsq [(.reg [zop 2 (.box 30 0 6),zmv 4 (zki 0)]),(.reg [zLd 6 2 6,zca 7 59 [6],zmv 5 7]),(.block 0 (zsq [(.reg [zfa 9 2 0,zLd 10 9 1,zca 11 131 [10],zno 12 11,zmv 8 12]),(.cond 8 (zsq [(.reg [zmv 4 (zki 1)]),.ret]) (zsq [(.reg [zfa 14 2 0,zLd 15 14 1,zmv 16 1,zca 17 87 [15,16],zno 18 17,zmv 13 18]),(.cond 13 (zsq [(.reg [zmv 4 (zki 2)]),.ret]) (zsq [(.reg [zmv 20 5,zbi 21 .eql 20 (zki 0),zmv 22 21,.grp 22 false [zmv 23 5,zbi 24 .gtr 23 (zki 4)] 25 24,zmv 19 25]),(.cond 19 (zsq [(.reg [zmv 4 (zki 3)]),.ret]) (zsq [(.reg [zfa 27 2 2,zld 28 27 1,zbi 29 .neq 28 (zki 1),zmv 30 29,.grp 30 true [zfa 31 2 2,zld 32 31 1,zbi 33 .neq 32 (zki 2)] 34 33,zmv 26 34]),(.cond 26 (zsq [(.reg [zmv 4 (zki 4)]),.ret]) (zsq [(.reg [zfa 36 2 3,zld 37 36 1,zle 38 37,zmv 39 5,zbi 40 .neq 38 39,zmv 35 40]),(.cond 35 (zsq [(.reg [zmv 4 (zki 5)]),.ret]) (zsq [(.reg [zLd 42 2 6,zca 43 132 [42],zno 44 43,zmv 41 44]),(.cond 41 (zsq [(.reg [zmv 4 (zki 6)]),.ret]) (zsq [(.reg [zLd 46 2 6,zmv 47 1,zle 48 47,zca 49 133 [46,48],zno 50 49,zmv 45 50]),(.cond 45 (zsq [(.reg [zmv 4 (zki 7)]),.ret]) .skip)]))]))]))]))]))]))])),(.reg [zmv 4 (zki 0)]),.ret])
def QPv:List (ARv × Md):=[(.t 4,.one .d)]
theorem QM3 (c:Ql) (b:List Qd) (h :
 (zif (!(Qw c.1)) (K (QaG (1:Int))) (zif (!(ZC c.1 b)) (K (QaG (2:Int))) (zif (((QH c)==(0:Int))||(decide ((QH c)>(4:Int)))) (K (QaG (3:Int))) (zif ((c.2.2.1 != (1:Int))&&(c.2.2.1 != (2:Int))) (K (QaG (4:Int))) (zif (((c.2.2.2.1).length:Int) != (QH c)) (K (QaG (5:Int))) (zif (!(Yp c)) (K (QaG (6:Int))) (zif (!(YG c (b.length:Int))) (K (QaG (7:Int))) (K (QaG (0:Int))))))))))):Hold (tawp QOm (0+0) QKs (TQ 0 0 QPv K) (Qf [(.a (Tup.cells QS c)),(.c (.sl QB) b)])) :=
 Hold.of (by kernel_rfl) h
theorem QOM (c:Ql) (b:List Qd):TCon Tryz.prog 56 [(.a (Tup.cells QS c)),(.c (.sl QB) b)] (QaG (Zj c b)):=by
 refine Qq rfl fun hb=>tcg (n:=51) (sg:=Qik.sg) Qj (TOk.cons Qgw (TOk.cons QaP (TOk.cons QF7 (TOk.cons QLy (TOk.cons QGk TOk.nil))))) (by kernel_rfl) (by kernel_rfl) (QM3 _ c b ?_)
 have hl_c_0:(c.1).length≤9223372036854775807:=hb.1.1.1
 have hl_c_1:(c.2.1).length≤9223372036854775807:=hb.1.2.1.1
 have hl_c_3:(c.2.2.2.1).length≤9223372036854775807:=hb.1.2.2.2.1.1
 have hl_c_4:(c.2.2.2.2.1).length≤9223372036854775807:=hb.1.2.2.2.2.1.1
 have hl_c_5:(c.2.2.2.2.2).length≤9223372036854775807:=hb.1.2.2.2.2.2.1.1
 have hl_b:b.length≤9223372036854775807:=hb.2.1.1
 have hs:=QbC (c:=c)
 refine ⟨fun h=>R_eq (by grind [Zj]),fun h1=>⟨fun h=>R_eq (by grind [Zj]),fun h2=>⟨fun h=>R_eq (by grind [Zj]),fun h3=>⟨fun h=>R_eq ?_,fun h4=>⟨fun h=>R_eq ?_,fun h5=>⟨fun h=>R_eq ?_,fun h6=>⟨fun h=>R_eq ?_,fun h7=>R_eq ?_⟩⟩⟩⟩⟩⟩⟩
 all_goals
  have a1:Qw c.1=true:=by simpa using h1
  have a2:ZC c.1 b=true:=by simpa using h2
  have a3:¬ (QH c=0∨4<QH c):=by grind
 ·have:m_in c.2.2.1 1 2=false:=by simp at h;simp [m_in];omega
  simp [Zj,a1,a2,a3,this]
 ·have:m_in c.2.2.1 1 2=true:=by simp at h4;simp [m_in];omega
  have h:¬ (c.2.2.2.1.length:Int)=QH c:=by grind
  simp [Zj,a1,a2,a3,this,h]
 all_goals
  have a4:m_in c.2.2.1 1 2=true:=by simp at h4;simp [m_in];omega
  have a5:(c.2.2.2.1.length:Int)=QH c:=by grind
 ·have h:Yp c=false:=by simpa using h
  simp [Zj,a1,a2,a3,a4,a5,h]
 ·have h:YG c b.length=false:=by simpa using h
  have h6:Yp c=true:=by simpa using h6
  simp [Zj,a1,a2,a3,a4,a5,h6,h]
 ·have h7:YG c b.length=true:=by simpa using h7
  have h6:Yp c=true:=by simpa using h6
  simp [Zj,a1,a2,a3,a4,a5,h6,h7]
theorem Qzb:Qh Tryz.prog Qik:=Qk fun x _=>QOM x.1 x.2.1
def YU (t:Int):TRes:=zre (zci t)
def Qkm:TRow:=Qg 16 [(.a QS),(.c (.sl QB))] fun x=>(none,YU (Zj x.1 x.2.1))
def QeQ:List TRow:=[QbH,QlR,QeA,Jz,Qgo]
def QtQ:TCode :=
 (zsq [(zsq [(.reg [zmv 48 5,zfa 49 2 4,zld 50 49 1,zle 51 50,zbi 52 .lss 48 51]),(.cond 52 .skip (.exit 0))]),(.block 1 (zsq [(.reg [zfa 55 2 4,zld 56 55 1,zmv 57 5,zia 58 56 57 [TI],zld 59 58 1,zca 60 77 [59,(zki 1),(zki 5)],zno 61 60]),(.cond 61 (zsq [(.reg [zmv 4 (zki 6)]),.ret]) .skip)])),(.reg [zmv 53 5,zbi 54 .add 53 (zki 1),zmv 5 54])])
def Qpg:List (Nat × Md):=[(1,.one .d),(2,.b (zds 6)),(5,.one .d)]
def QoR:TCode :=
 (zsq [(zsq [(.reg [zmv 70 6,zfa 71 2 5,zld 72 71 1,zle 73 72,zbi 74 .lss 70 73]),(.cond 74 .skip (.exit 2))]),(.block 3 (zsq [(.draw [zfa 77 2 5,zld 78 77 1,zmv 79 6,zia 80 78 79 [TI],zld 81 80 1,zLd 82 2 6,zmv 83 6,zmv 84 1,zle 85 84,zca 86 78 [82,83,85],zca 87 77 [81,86,(zki 100000)],zno 88 87] [(0,9),(1,9),(3,9),(4,9)]),(.cond 88 (zsq [(.reg [zmv 4 (zki 7)]),.ret]) .skip)])),(.reg [zmv 75 6,zbi 76 .add 75 (zki 1),zmv 6 76])])
def Qo7:List (Nat × Md):=[(1,.one .d),(2,.b (zds 6)),(6,.one .d)]
def QtW:TCode :=
 (zsq [(.reg [zmv 4 (zki 0)]),.ret])
def Qsn:TCode :=
 (zsq [(zsq [(.reg [zfa 62 2 5,zld 63 62 1,zle 64 63,zfa 65 2 1,zld 66 65 1,zle 67 66,zbi 68 .add 67 (zki 1),zbi 69 .neq 64 68]),(.cond 69 (zsq [(.reg [zmv 4 (zki 7)]),.ret]) .skip)]),(zsq [(.reg [zmv 6 (zki 0)]),(.block 2 (.loop Qo7 QoR))]),QtW])
def QIf:TCode :=
 (zsq [(.reg [zop 2 (.box 30 0 6),zmv 4 (zki 0)]),(zsq [(.reg [zfa 7 2 0,zLd 8 7 1,zca 9 74 [8],zno 10 9]),(.cond 10 (zsq [(.reg [zmv 4 (zki 1)]),.ret]) .skip)]),(zsq [(.reg [zfa 11 2 0,zLd 12 11 1,zmv 13 1,zca 14 75 [12,13],zno 15 14]),(.cond 15 (zsq [(.reg [zmv 4 (zki 2)]),.ret]) .skip)]),(zsq [(.reg [zfa 16 2 0,zLd 17 16 1,zfa 18 2 1,zld 19 18 1,zca 20 76 [17,19],zno 21 20,zmv 22 21,.grp 22 false [zfa 23 2 1,zld 24 23 1,zle 25 24,zbi 26 .add 25 (zki 1),zbi 27 .gtr 26 (zki 4)] 28 27]),(.cond 28 (zsq [(.reg [zmv 4 (zki 3)]),.ret]) .skip)]),(zsq [(.reg [zfa 29 2 2,zld 30 29 1,zca 31 77 [30,(zki 1),(zki 2)],zno 32 31]),(.cond 32 (zsq [(.reg [zmv 4 (zki 4)]),.ret]) .skip)]),(zsq [(.reg [zfa 33 2 3,zld 34 33 1,zle 35 34,zfa 36 2 1,zld 37 36 1,zle 38 37,zbi 39 .add 38 (zki 1),zbi 40 .neq 35 39]),(.cond 40 (zsq [(.reg [zmv 4 (zki 5)]),.ret]) .skip)]),(zsq [(.reg [zfa 41 2 4,zld 42 41 1,zle 43 42,zfa 44 2 1,zld 45 44 1,zle 46 45,zbi 47 .neq 43 46]),(.cond 47 (zsq [(.reg [zmv 4 (zki 6)]),.ret]) .skip)]),(zsq [(.reg [zmv 5 (zki 0)]),(.block 0 (.loop Qpg QtQ))]),Qsn])
def Qwe:List (ARv × Md):=[(.t 4,.one .d)]
def Qf4:Qb:=TQ 0 0 Qwe K
def QPE:Qb:=Qseq (tawp QeQ 0 QtW (Qf4 K)) (Qf4 K)
def QCq:Qb:=Qblk 2 (QPE K)
def QeE (c:Ql) (b:List Qd) (s:Int):Prop:=Loop QeQ 0 Qo7 QoR (QCq K) ⟨[(1,(zcs QB b)),(2,(.p 0 0 0)),(6,(zci s))],[(0,(.box (Tup.cells QS c)))],1⟩
def QKz:Qb:=Qseq (tawp QeQ 0 Qsn (Qf4 K)) (Qf4 K)
def QFx:Qb:=Qblk 0 (QKz K)
def Qib (c:Ql) (b:List Qd) (i:Int):Prop:=Loop QeQ 0 Qpg QtQ (QFx K) ⟨[(1,(zcs QB b)),(2,(.p 0 0 0)),(5,(zci i))],[(0,(.box (Tup.cells QS c)))],1⟩
theorem Qr7 (c:Ql) (b:List Qd) (s:Int) (h :
 (zif (decide (s<((c.2.2.2.2.2).length:Int))) (((0:Int)≤s∧Int.toNat s<(c.2.2.2.2.2).length)∧(zif (!(m_in (gtd (0:Int) c.2.2.2.2.2 (Int.toNat s)) (Zy c s (b.length:Int)) (100000:Int))) (K (YU (7:Int))) (QeE K c b (w64 (s+(1:Int)))))) (K (YU (0:Int))))):QeE K c b s :=
 Loop.of (by kernel_rfl) h
theorem Qov (c:Ql) (b:List Qd) (i:Int) (h :
 (zif (decide (i<((c.2.2.2.2.1).length:Int))) (((0:Int)≤i∧Int.toNat i<(c.2.2.2.2.1).length)∧(zif (!(m_in (gtd (0:Int) c.2.2.2.2.1 (Int.toNat i)) (1:Int) (5:Int))) (K (YU (6:Int))) (Qib K c b (w64 (i+(1:Int)))))) (zif (((c.2.2.2.2.2).length:Int) != (w64 (((c.2.1).length:Int)+(1:Int)))) (K (YU (7:Int))) (QeE K c b 0)))):Qib K c b i :=
 Loop.of (by kernel_rfl) h
theorem QES (c:Ql) (b:List Qd) (h :
 (zif (!(Qw c.1)) (K (YU (1:Int))) (zif (!(ZC c.1 b)) (K (YU (2:Int))) (zif ((!(Q0 c.1 c.2.1))||(decide ((w64 (((c.2.1).length:Int)+(1:Int)))>(4:Int)))) (K (YU (3:Int))) (zif (!(m_in c.2.2.1 (1:Int) (2:Int))) (K (YU (4:Int))) (zif (((c.2.2.2.1).length:Int) != (w64 (((c.2.1).length:Int)+(1:Int)))) (K (YU (5:Int))) (zif (((c.2.2.2.2.1).length:Int) != ((c.2.1).length:Int)) (K (YU (6:Int))) (Qib K c b 0)))))))):Hold (tawp QeQ (0+0) QIf (TQ 0 0 Qwe K) (Qf [(.a (Tup.cells QS c)),(.c (.sl QB) b)])) :=
 Hold.of (by kernel_rfl) h
theorem QFn (c:Ql) (b:List Qd):TCon Tryz.prog 16 [(.a (Tup.cells QS c)),(.c (.sl QB) b)] (YU (Zj c b)):=by
 refine Qq rfl fun hb=>tcg (n:=89) (sg:=Qkm.sg) Qj (TOk.cons Qd8 (TOk.cons QKj (TOk.cons Qkg (TOk.cons JU (TOk.cons Qsu TOk.nil))))) (by kernel_rfl) (by kernel_rfl) (QES _ c b ?_)
 have hl_c_0:(c.1).length≤9223372036854775807:=hb.1.1.1
 have hl_c_1:(c.2.1).length≤9223372036854775807:=hb.1.2.1.1
 have hl_c_3:(c.2.2.2.1).length≤9223372036854775807:=hb.1.2.2.2.1.1
 have hl_c_4:(c.2.2.2.2.1).length≤9223372036854775807:=hb.1.2.2.2.2.1.1
 have hl_c_5:(c.2.2.2.2.2).length≤9223372036854775807:=hb.1.2.2.2.2.2.1.1
 have hl_b:b.length≤9223372036854775807:=hb.2.1.1
 have hs:=QbC (c:=c)
 refine ⟨fun h=>R_eq (by grind [Zj]),fun h1=>⟨fun h=>R_eq (by grind [Zj]),fun h2=>⟨fun h=>R_eq ?_,fun h3=>?_⟩⟩⟩
 ·have a1:Qw c.1=true:=by simpa using h1
  have a2:ZC c.1 b=true:=by simpa using h2
  have a3:QH c=0∨4<QH c:=by
   by_cases hc:Q0 c.1 c.2.1=true
   ·have:=hs.2.2.2 hc
    have hcl:=Qag hc
    rw [← this,Qo (x:=QH c) (by omega) (by omega),hc] at h
    right;simpa using h
   ·left
    exact Classical.byContradiction fun hn=>hc (hs.2.2.1.1 hn)
  simp [Zj,a1,a2,a3]
 have a1:Qw c.1=true:=by simpa using h1
 have a2:ZC c.1 b=true:=by simpa using h2
 have hc:Q0 c.1 c.2.1=true:=by grind
 have hst:=hs.2.2.2 hc
 have hcl:=Qag hc
 have e2:w64 ((c.2.1.length:Int)+1)=QH c:=by rw [hst];exact Qo (by omega) (by omega)
 rw [e2] at h3 ⊢
 have a3:¬ (QH c=0∨4<QH c):=by grind
 refine ⟨fun h=>R_eq ?_,fun h4=>⟨fun h=>R_eq ?_,fun h5=>⟨fun h=>R_eq ?_,fun h6=>?_⟩⟩⟩
 ·have h:m_in c.2.2.1 1 2=false:=by simpa using h
  simp [Zj,a1,a2,a3,h]
 all_goals
  have a4:m_in c.2.2.1 1 2=true:=by simpa using h4
 ·have h:¬ (c.2.2.2.1.length:Int)=QH c:=by grind
  simp [Zj,a1,a2,a3,a4,h]
 all_goals
  have a5:(c.2.2.2.1.length:Int)=QH c:=by grind
 ·have h:Yp c=false:=by grind [Yp]
  simp [Zj,a1,a2,a3,a4,a5,h]
 have hl6:(c.2.2.2.2.1.length==c.2.1.length)=true:=by
  have h:((c.2.2.2.2.1.length:Int)==(c.2.1.length:Int))=true:=by simpa [bne] using h6
  have:=of_decide_eq_true (by simpa using h:decide ((c.2.2.2.2.1.length:Int)=c.2.1.length)=true)
  simp;omega
 have lims:Yp c=true→(c.2.2.2.2.2.length:Int)=QH c→QeE (fun r'=>r'=YU (Zj c b)) c b ((0:Nat):Int):=by
  intro a6 a7
  refine ZL c.2.2.2.2.2 (fun r k=>J1 c b.length r k=J1 c b.length c.2.2.2.2.2 0→QeE (fun r'=>r'=YU (Zj c b)) c b k) ?_ ?_ rfl
  ·intro he
   refine Qr7 (fun r'=>r'=YU (Zj c b)) c b _ ⟨fun h=>by simp at h,fun _=>R_eq ?_⟩
   have:YG c b.length=true:=by grind [YG,J1]
   simp [Zj,a1,a2,a3,a4,a5,a6,this]
  ·intro k x r hk hlt hg ih he
   refine Qr7 (fun r'=>r'=YU (Zj c b)) c b _ ⟨fun _=>?_,fun h=>by simp at h;omega⟩
   rw [Int.toNat_natCast,hg,Qo (x:=(k:Int)+1) (by omega) (by omega)]
   rw [J1] at he
   refine ⟨⟨by omega,hlt⟩,fun h=>R_eq ?_,fun h=>ih ?_⟩
   ·have:YG c b.length=false:=by grind [YG]
    simp [Zj,a1,a2,a3,a4,a5,a6,this]
   ·grind
 refine ZL c.2.2.2.2.1 (fun r k=>(r.all fun n=>m_in n 1 5)=(c.2.2.2.2.1.all fun n=>m_in n 1 5)→Qib (fun r'=>r'=YU (Zj c b)) c b k) ?_ ?_ rfl
 ·intro he
  have a6:Yp c=true:=by grind [Yp]
  refine Qov (fun r'=>r'=YU (Zj c b)) c b _ ⟨fun h=>by simp at h,fun _=>⟨fun h=>R_eq ?_,fun h=>lims a6 ?_⟩⟩
  ·have:YG c b.length=false:=by grind [YG]
   simp [Zj,a1,a2,a3,a4,a5,a6,this]
  ·grind
 ·intro k x r hk hlt hg ih he
  refine Qov (fun r'=>r'=YU (Zj c b)) c b _ ⟨fun _=>?_,fun h=>by simp at h;omega⟩
  rw [Int.toNat_natCast,hg,Qo (x:=(k:Int)+1) (by omega) (by omega)]
  rw [List.all_cons] at he
  refine ⟨⟨by omega,hlt⟩,fun h=>R_eq ?_,fun h=>ih ?_⟩
  ·have h:m_in x 1 5=false:=by simpa using h
   rw [h,Bool.false_and] at he
   have:Yp c=false:=by simp only [Yp,← he,Bool.and_false]
   simp [Zj,a1,a2,a3,a4,a5,this]
  ·have h:m_in x 1 5=true:=by simpa using h
   rw [h,Bool.true_and] at he
   exact he
theorem QJR:Qh Tryz.prog Qkm:=Qk fun x _=>QFn x.1 x.2.1
end
end Go.Proofs.YtjbdljkhbglnhaaGreat.Am

