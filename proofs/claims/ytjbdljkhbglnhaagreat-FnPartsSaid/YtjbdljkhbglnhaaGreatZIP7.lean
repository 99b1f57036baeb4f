/- -/
import Derived.Test.YtjbdljkhbglnhaaGreatZIP5
import Derived.Test.YtjbdljkhbglnhaaGreatZIP6
import Derived.Test.YtjbdljkhbglnhaaGreatZIP4
import Derived.Test.YtjbdljkhbglnhaaGreatZIP1
namespace Go.Proofs.YtjbdljkhbglnhaaGreat.Am
open Go Go.RowKit Go.Proofs.YtjbdljkhbglnhaaGreat
set_option linter.all false
noncomputable section
variable (K:TRes→Prop)
def Y0 (t:Int):TRes:=zre (zci t)
def Qmr:TRow:=Qk 16 [(.a ZW),(.c (.sl QK))] fun x=>(none,Y0 (Yd x.1 x.2.1))
def Qe1:List TRow:=[QaF,Qoe,Qgn,YN,QjS]
def Qsk:TCode :=
 (zsq [(zsq [(.reg [zmv 48 5,zfa 49 2 4,zld 50 49 1,zle 51 50,zbi 52 .lss 48 51]),(.cond 52 .skip (.exit 0))]),(.block 1 (zsq [(.reg [zfa 55 2 4,zld 56 55 1,zmv 57 5,zia 58 56 57 [TI],zld 59 58 1,zca 60 77 [59,(zki 1),(zki 5)],zno 61 60]),(.cond 61 (zsq [(.reg [zmv 4 (zki 6)]),.ret]) .skip)])),(.reg [zmv 53 5,zbi 54 .add 53 (zki 1),zmv 5 54])])
def Qzq:List (Nat × Md):=[(1,.one .d),(2,.b (zds 6)),(5,.one .d)]
def QCt:TCode :=
 (zsq [(zsq [(.reg [zmv 70 6,zfa 71 2 5,zld 72 71 1,zle 73 72,zbi 74 .lss 70 73]),(.cond 74 .skip (.exit 2))]),(.block 3 (zsq [(.draw [zfa 77 2 5,zld 78 77 1,zmv 79 6,zia 80 78 79 [TI],zld 81 80 1,zLd 82 2 6,zmv 83 6,zmv 84 1,zle 85 84,zca 86 78 [82,83,85],zca 87 77 [81,86,(zki 100000)],zno 88 87] [(0,9),(1,9),(3,9),(4,9)]),(.cond 88 (zsq [(.reg [zmv 4 (zki 7)]),.ret]) .skip)])),(.reg [zmv 75 6,zbi 76 .add 75 (zki 1),zmv 6 76])])
def QxI:List (Nat × Md):=[(1,.one .d),(2,.b (zds 6)),(6,.one .d)]
def Qyk:TCode :=
 (zsq [(.reg [zmv 4 (zki 0)]),.ret])
def Qzl:TCode :=
 (zsq [(zsq [(.reg [zfa 62 2 5,zld 63 62 1,zle 64 63,zfa 65 2 1,zld 66 65 1,zle 67 66,zbi 68 .add 67 (zki 1),zbi 69 .neq 64 68]),(.cond 69 (zsq [(.reg [zmv 4 (zki 7)]),.ret]) .skip)]),(zsq [(.reg [zmv 6 (zki 0)]),(.block 2 (.loop QxI QCt))]),Qyk])
def QOV:TCode :=
 (zsq [(.reg [zop 2 (.box 30 0 6),zmv 4 (zki 0)]),(zsq [(.reg [zfa 7 2 0,zLd 8 7 1,zca 9 74 [8],zno 10 9]),(.cond 10 (zsq [(.reg [zmv 4 (zki 1)]),.ret]) .skip)]),(zsq [(.reg [zfa 11 2 0,zLd 12 11 1,zmv 13 1,zca 14 75 [12,13],zno 15 14]),(.cond 15 (zsq [(.reg [zmv 4 (zki 2)]),.ret]) .skip)]),(zsq [(.reg [zfa 16 2 0,zLd 17 16 1,zfa 18 2 1,zld 19 18 1,zca 20 76 [17,19],zno 21 20,zmv 22 21,.grp 22 false [zfa 23 2 1,zld 24 23 1,zle 25 24,zbi 26 .add 25 (zki 1),zbi 27 .gtr 26 (zki 4)] 28 27]),(.cond 28 (zsq [(.reg [zmv 4 (zki 3)]),.ret]) .skip)]),(zsq [(.reg [zfa 29 2 2,zld 30 29 1,zca 31 77 [30,(zki 1),(zki 2)],zno 32 31]),(.cond 32 (zsq [(.reg [zmv 4 (zki 4)]),.ret]) .skip)]),(zsq [(.reg [zfa 33 2 3,zld 34 33 1,zle 35 34,zfa 36 2 1,zld 37 36 1,zle 38 37,zbi 39 .add 38 (zki 1),zbi 40 .neq 35 39]),(.cond 40 (zsq [(.reg [zmv 4 (zki 5)]),.ret]) .skip)]),(zsq [(.reg [zfa 41 2 4,zld 42 41 1,zle 43 42,zfa 44 2 1,zld 45 44 1,zle 46 45,zbi 47 .neq 43 46]),(.cond 47 (zsq [(.reg [zmv 4 (zki 6)]),.ret]) .skip)]),(zsq [(.reg [zmv 5 (zki 0)]),(.block 0 (.loop Qzq Qsk))]),Qzl])
def QsQ:List (ARv × Md):=[(.t 4,.one .d)]
def Qh9:Qb:=TQ 0 0 QsQ K
def QIK:Qb:=Qseq (tawp Qe1 0 Qyk (Qh9 K)) (Qh9 K)
def QP7:Qb:=Qblk 2 (QIK K)
def QeY (c:QM) (b:List Qy) (s:Int):Prop:=Loop Qe1 0 QxI QCt (QP7 K) ⟨[(1,(zcs QK b)),(2,(.p 0 0 0)),(6,(zci s))],[(0,(.box (Tup.cells ZW c)))],1⟩
def QMR:Qb:=Qseq (tawp Qe1 0 Qzl (Qh9 K)) (Qh9 K)
def QL9:Qb:=Qblk 0 (QMR K)
def Qko (c:QM) (b:List Qy) (i:Int):Prop:=Loop Qe1 0 Qzq Qsk (QL9 K) ⟨[(1,(zcs QK b)),(2,(.p 0 0 0)),(5,(zci i))],[(0,(.box (Tup.cells ZW c)))],1⟩
theorem Qq6 (c:QM) (b:List Qy) (s:Int) (h :
 (zif (decide (s<((c.2.2.2.2.2).length:Int))) (((0:Int)≤s∧Int.toNat s<(c.2.2.2.2.2).length)∧(zif (!(m_in (gtd (0:Int) c.2.2.2.2.2 (Int.toNat s)) (Yp c s (b.length:Int)) (100000:Int))) (K (Y0 (7:Int))) (QeY K c b (w64 (s+(1:Int)))))) (K (Y0 (0:Int))))):QeY K c b s :=
 Loop.of (by kernel_rfl) h
theorem QB7 (c:QM) (b:List Qy) (i:Int) (h :
 (zif (decide (i<((c.2.2.2.2.1).length:Int))) (((0:Int)≤i∧Int.toNat i<(c.2.2.2.2.1).length)∧(zif (!(m_in (gtd (0:Int) c.2.2.2.2.1 (Int.toNat i)) (1:Int) (5:Int))) (K (Y0 (6:Int))) (Qko K c b (w64 (i+(1:Int)))))) (zif (((c.2.2.2.2.2).length:Int) != (w64 (((c.2.1).length:Int)+(1:Int)))) (K (Y0 (7:Int))) (QeY K c b 0)))):Qko K c b i :=
 Loop.of (by kernel_rfl) h
theorem QTh (c:QM) (b:List Qy) (h :
 (zif (!(QT c.1)) (K (Y0 (1:Int))) (zif (!(YL c.1 b)) (K (Y0 (2:Int))) (zif ((!(Zy c.1 c.2.1))||(decide ((w64 (((c.2.1).length:Int)+(1:Int)))>(4:Int)))) (K (Y0 (3:Int))) (zif (!(m_in c.2.2.1 (1:Int) (2:Int))) (K (Y0 (4:Int))) (zif (((c.2.2.2.1).length:Int) != (w64 (((c.2.1).length:Int)+(1:Int)))) (K (Y0 (5:Int))) (zif (((c.2.2.2.2.1).length:Int) != ((c.2.1).length:Int)) (K (Y0 (6:Int))) (Qko K c b 0)))))))):Hold (tawp Qe1 (0+0) QOV (TQ 0 0 QsQ K) (Qi [(.a (Tup.cells ZW c)),(.c (.sl QK) b)])) :=
 Hold.of (by kernel_rfl) h
theorem QTX (c:QM) (b:List Qy):TCon Tryz.prog 16 [(.a (Tup.cells ZW c)),(.c (.sl QK) b)] (Y0 (Yd c b)):=by
 refine Qo rfl fun hb=>tcg (n:=89) (sg:=Qmr.sg) Qm (TOk.cons Qck (TOk.cons QLt (TOk.cons Qos (TOk.cons Y5 (TOk.cons QAS TOk.nil))))) (by kernel_rfl) (by kernel_rfl) (QTh _ c b ?_)
 have hl_c_0:(c.1).length≤9223372036854775807:=hb.1.1.1
 have hl_c_1:(c.2.1).length≤9223372036854775807:=hb.1.2.1.1
 have hl_c_3:(c.2.2.2.1).length≤9223372036854775807:=hb.1.2.2.2.1.1
 have hl_c_4:(c.2.2.2.2.1).length≤9223372036854775807:=hb.1.2.2.2.2.1.1
 have hl_c_5:(c.2.2.2.2.2).length≤9223372036854775807:=hb.1.2.2.2.2.2.1.1
 have hl_b:b.length≤9223372036854775807:=hb.2.1.1
 have hs:=QdP (c:=c)
 refine ⟨fun h=>R_eq (by grind [Yd]),fun h1=>⟨fun h=>R_eq (by grind [Yd]),fun h2=>⟨fun h=>R_eq ?_,fun h3=>?_⟩⟩⟩
 ·have a1:QT c.1=true:=by simpa using h1
  have a2:YL c.1 b=true:=by simpa using h2
  have a3:QZ c=0∨4<QZ c:=by
   by_cases hc:Zy c.1 c.2.1=true
   ·have:=hs.2.2.2 hc
    have hcl:=Qa9 hc
    rw [← this,Qp (x:=QZ c) (by omega) (by omega),hc] at h
    right;simpa using h
   ·left
    exact Classical.byContradiction fun hn=>hc (hs.2.2.1.1 hn)
  simp [Yd,a1,a2,a3]
 have a1:QT c.1=true:=by simpa using h1
 have a2:YL c.1 b=true:=by simpa using h2
 have hc:Zy c.1 c.2.1=true:=by grind
 have hst:=hs.2.2.2 hc
 have hcl:=Qa9 hc
 have e2:w64 ((c.2.1.length:Int)+1)=QZ c:=by rw [hst];exact Qp (by omega) (by omega)
 rw [e2] at h3 ⊢
 have a3:¬ (QZ c=0∨4<QZ c):=by grind
 refine ⟨fun h=>R_eq ?_,fun h4=>⟨fun h=>R_eq ?_,fun h5=>⟨fun h=>R_eq ?_,fun h6=>?_⟩⟩⟩
 ·have h:m_in c.2.2.1 1 2=false:=by simpa using h
  simp [Yd,a1,a2,a3,h]
 all_goals
  have a4:m_in c.2.2.1 1 2=true:=by simpa using h4
 ·have h:¬ (c.2.2.2.1.length:Int)=QZ c:=by grind
  simp [Yd,a1,a2,a3,a4,h]
 all_goals
  have a5:(c.2.2.2.1.length:Int)=QZ c:=by grind
 ·have h:Qaj c=false:=by grind [Qaj]
  simp [Yd,a1,a2,a3,a4,a5,h]
 have hl6:(c.2.2.2.2.1.length==c.2.1.length)=true:=by
  have h:((c.2.2.2.2.1.length:Int)==(c.2.1.length:Int))=true:=by simpa [bne] using h6
  have:=of_decide_eq_true (by simpa using h:decide ((c.2.2.2.2.1.length:Int)=c.2.1.length)=true)
  simp;omega
 have lims:Qaj c=true→(c.2.2.2.2.2.length:Int)=QZ c→QeY (fun r'=>r'=Y0 (Yd c b)) c b ((0:Nat):Int):=by
  intro a6 a7
  refine Zj c.2.2.2.2.2 (fun r k=>QbM c b.length r k=QbM c b.length c.2.2.2.2.2 0→QeY (fun r'=>r'=Y0 (Yd c b)) c b k) ?_ ?_ rfl
  ·intro he
   refine Qq6 (fun r'=>r'=Y0 (Yd c b)) c b _ ⟨fun h=>by simp at h,fun _=>R_eq ?_⟩
   have:Qbn c b.length=true:=by grind [Qbn,QbM]
   simp [Yd,a1,a2,a3,a4,a5,a6,this]
  ·intro k x r hk hlt hg ih he
   refine Qq6 (fun r'=>r'=Y0 (Yd c b)) c b _ ⟨fun _=>?_,fun h=>by simp at h;omega⟩
   rw [Int.toNat_natCast,hg,Qp (x:=(k:Int)+1) (by omega) (by omega)]
   rw [QbM] at he
   refine ⟨⟨by omega,hlt⟩,fun h=>R_eq ?_,fun h=>ih ?_⟩
   ·have:Qbn c b.length=false:=by grind [Qbn]
    simp [Yd,a1,a2,a3,a4,a5,a6,this]
   ·grind
 refine Zj c.2.2.2.2.1 (fun r k=>(r.all fun n=>m_in n 1 5)=(c.2.2.2.2.1.all fun n=>m_in n 1 5)→Qko (fun r'=>r'=Y0 (Yd c b)) c b k) ?_ ?_ rfl
 ·intro he
  have a6:Qaj c=true:=by grind [Qaj]
  refine QB7 (fun r'=>r'=Y0 (Yd c b)) c b _ ⟨fun h=>by simp at h,fun _=>⟨fun h=>R_eq ?_,fun h=>lims a6 ?_⟩⟩
  ·have:Qbn c b.length=false:=by grind [Qbn]
   simp [Yd,a1,a2,a3,a4,a5,a6,this]
  ·grind
 ·intro k x r hk hlt hg ih he
  refine QB7 (fun r'=>r'=Y0 (Yd c b)) c b _ ⟨fun _=>?_,fun h=>by simp at h;omega⟩
  rw [Int.toNat_natCast,hg,Qp (x:=(k:Int)+1) (by omega) (by omega)]
  rw [List.all_cons] at he
  refine ⟨⟨by omega,hlt⟩,fun h=>R_eq ?_,fun h=>ih ?_⟩
  ·have h:m_in x 1 5=false:=by simpa using h
   rw [h,Bool.false_and] at he
   have:Qaj c=false:=by simp only [Qaj,← he,Bool.and_false]
   simp [Yd,a1,a2,a3,a4,a5,this]
  ·have h:m_in x 1 5=true:=by simpa using h
   rw [h,Bool.true_and] at he
   exact he
theorem QX1:Ql Tryz.prog Qmr:=Qn fun x _=>QTX x.1 x.2.1
end
end Go.Proofs.YtjbdljkhbglnhaaGreat.Am

