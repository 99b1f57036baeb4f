/- -/
import Derived.Test.YtdplaepmjogjjaaGreatVBP1
import Derived.Test.YtdplaepmjogjjaaGreatVBP9
import Derived.Test.YtdplaepmjogjjaaGreatVBP2
namespace Go.Proofs.YtdplaepmjogjjaaGreat.Am
open Go Go.RowKit Go.Proofs.YtdplaepmjogjjaaGreat
set_option linter.all false
noncomputable section
variable (K:TRes→Prop)
def QdD (t:TIns):TRes:=zre (.a [(zci t.1),(zci t.2)])
def QfK:TRow:=Qi 144 [(.a Qx),(.c TI)] fun x=>(none,QdD (QG x.1 x.2.1))
def Qm6:TTab:=⟨[ZP],false⟩
def QCs:TCode :=
 (zsq [(.reg [zop 2 (.box 56 0 4),zop 4 (.new 175 (z0s Qz))]),(zsq [(.draw [zmv 5 1,zfa 6 2 1,zld 7 6 1,zle 8 7,zbi 9 .sub 8 (zki 1),zca 10 158 [5,(zki 0),9],zno 11 10,zmv 12 11,.grp 12 false [zfa 13 2 1,zld 14 13 1,zmv 15 1,zia 16 14 15 Qo,zfa 17 16 0,zld 18 17 1,zfa 19 2 1,zld 20 19 1,zmv 21 1,zia 22 20 21 Qo,zfa 23 22 1,zld 24 23 1,zle 25 24,zbi 26 .sub 25 (zki 1),zca 27 158 [18,(zki 0),26],zno 28 27] 29 28] []),(.cond 29 (zsq [(.reg [zop 30 (.build (z0s Qz) []),zst 4 30 2]),.ret]) .skip)]),(.draw [zfa 31 2 1,zld 32 31 1,zmv 33 1,zia 34 32 33 Qo,zfa 35 34 1,zld 36 35 1,zfa 37 2 1,zld 38 37 1,zmv 39 1,zia 40 38 39 Qo,zfa 41 40 0,zld 42 41 1,zia 43 36 42 Qz,zLd 44 43 2,zst 4 44 2] []),.ret])
def Qy0:List (ARv × Md):=[(.l 4 2 true,.b [.d,.d])]
theorem QBA (p:Qp) (s:Int) (h :
 (((!(!(m_in s (0:Int) (w64 (((p.2.1).length:Int)-(1:Int))))))=true→(((0:Int)≤s∧Int.toNat s<(p.2.1).length)∧((0:Int)≤s∧Int.toNat s<(p.2.1).length)))∧(zif ((!(m_in s (0:Int) (w64 (((p.2.1).length:Int)-(1:Int)))))||(!(m_in ((gtd Qv p.2.1 (Int.toNat s)).1) (0:Int) (w64 ((((gtd Qv p.2.1 (Int.toNat s)).2.1).length:Int)-(1:Int)))))) (K (QdD ((0:Int),(0:Int)))) ((((0:Int)≤s∧Int.toNat s<(p.2.1).length)∧(((0:Int)≤s∧Int.toNat s<(p.2.1).length)∧((0:Int)≤(gtd Qv p.2.1 (Int.toNat s)).1∧Int.toNat ((gtd Qv p.2.1 (Int.toNat s)).1)<((gtd Qv p.2.1 (Int.toNat s)).2.1).length)))∧K (QdD (gtd dIns ((gtd Qv p.2.1 (Int.toNat s)).2.1) (Int.toNat ((gtd Qv p.2.1 (Int.toNat s)).1)))))))):Hold (tawp Qm6 (0+0) QCs (TQ 0 0 Qy0 K) (Qg [(.a (Tup.cells Qx p)),(.c TI s)])) :=
 Hold.of (by kernel_rfl) h
theorem Qsn (p:Qp) (s:Int):TCon Tryz.prog 144 [(.a (Tup.cells Qx p)),(.c TI s)] (QdD (QG p s)):=by
 refine Qk rfl fun hb=>tcg (Γ:=Qm6) (n:=45) (sg:=QfK.sg) Ql (TOkL.cons Yr TOkL.nil) (by kernel_rfl) (by kernel_rfl) (QBA _ p s ?_)
 have hl_p_0:(p.1).length≤9223372036854775807:=hb.1.1.1
 have hl_p_1:(p.2.1).length≤9223372036854775807:=hb.1.2.1.1
 have hl_p_2:(p.2.2.1).length≤9223372036854775807:=hb.1.2.2.1.1
 have hl_p_3:(p.2.2.2).length≤9223372036854775807:=hb.1.2.2.2.1.1
 have e1:w64 ((p.2.1.length:Int)-1)=p.2.1.length-1:=Qw (by omega) (by omega)
 rw [e1]
 by_cases h0:m_in s 0 (p.2.1.length-1)=true
 ·have h1:=Q5.1 h0
  have hlt:s.toNat<p.2.1.length:=by omega
  have hmem:=Qn8 hlt Qv
  have hbx:(gtd Qv p.2.1 s.toNat).2.1.length≤9223372036854775807:=(hb.1.2.1.2 _ hmem).2.1.1
  rw [Qw (x:=((gtd Qv p.2.1 s.toNat).2.1.length:Int)-1) (by omega) (by omega)]
  refine ⟨fun _=>⟨⟨h1.1,hlt⟩,h1.1,hlt⟩,fun h=>R_eq ?_,fun h=>⟨⟨⟨h1.1,hlt⟩,⟨h1.1,hlt⟩,?_⟩,R_eq ?_⟩⟩
  ·simp [h0] at h
   simp [QG,h0,Qbq,h]
  ·simp [h0] at h
   have:=Q5.1 h
   omega
  ·simp [h0] at h
   simp [QG,h0,Qbq,h]
 ·refine ⟨fun h=>by simp [h0] at h,fun h=>R_eq ?_,fun h=>by simp [h0] at h⟩
  simp [QG,h0]
theorem QAr:Qj Tryz.prog QfK:=Qn fun x _=>Qsn x.1 x.2.1
def Qci (t:TIns):TRes:=zre (.a [(zci t.1),(zci t.2)])
def QgO:TRow:=Qi 148 [(.a Qx),(.c TI)] fun x=>(none,Qci (QG x.1 x.2.1))
def Qny:TTab:=⟨[],false⟩
def QEg:TCode :=
 (zsq [(.reg [zop 2 (.box 56 0 4),zop 4 (.new 175 (z0s Qz))]),(zsq [(.reg [zmv 6 1,zbi 7 .lss 6 (zki 0),zmv 8 7,.grp 8 false [zmv 9 1,zfa 10 2 1,zld 11 10 1,zle 12 11,zbi 13 .geq 9 12] 14 13]),(.cond 14 (zsq [(.reg [zop 15 (.build (z0s Qz) []),zst 4 15 2]),.ret]) .skip)]),(.reg [zfa 16 2 1,zld 17 16 1,zmv 18 1,zia 19 17 18 Qo,zLd 20 19 14,zop 5 (.new 39 (z0s Qo)),zst 5 20 14]),(zsq [(.reg [zfa 21 5 0,zld 22 21 1,zbi 23 .lss 22 (zki 0),zmv 24 23,.grp 24 false [zfa 25 5 0,zld 26 25 1,zfa 27 5 1,zld 28 27 1,zle 29 28,zbi 30 .geq 26 29] 31 30]),(.cond 31 (zsq [(.reg [zop 32 (.build (z0s Qz) []),zst 4 32 2]),.ret]) .skip)]),(.reg [zfa 33 5 1,zld 34 33 1,zfa 35 5 0,zld 36 35 1,zia 37 34 36 Qz,zLd 38 37 2,zst 4 38 2]),.ret])
def QuN:List (ARv × Md):=[(.l 4 2 true,.b [.d,.d])]
theorem QyY (p:Qp) (s:Int) (h :
 (zif ((decide (s<(0:Int)))||(decide (s≥((p.2.1).length:Int)))) (K (Qci ((0:Int),(0:Int)))) (((0:Int)≤s∧Int.toNat s<(p.2.1).length)∧(zif ((decide (((gtd Qv p.2.1 (Int.toNat s)).1)<(0:Int)))||(decide (((gtd Qv p.2.1 (Int.toNat s)).1)≥(((gtd Qv p.2.1 (Int.toNat s)).2.1).length:Int)))) (K (Qci ((0:Int),(0:Int)))) (((0:Int)≤(gtd Qv p.2.1 (Int.toNat s)).1∧Int.toNat ((gtd Qv p.2.1 (Int.toNat s)).1)<((gtd Qv p.2.1 (Int.toNat s)).2.1).length)∧K (Qci (gtd dIns ((gtd Qv p.2.1 (Int.toNat s)).2.1) (Int.toNat ((gtd Qv p.2.1 (Int.toNat s)).1))))))))):Hold (tawp Qny (0+0) QEg (TQ 0 0 QuN K) (Qg [(.a (Tup.cells Qx p)),(.c TI s)])) :=
 Hold.of (by kernel_rfl) h
theorem Qvr (p:Qp) (s:Int):TCon Tryz.prog 148 [(.a (Tup.cells Qx p)),(.c TI s)] (Qci (QG p s)):=by
 refine Qk rfl fun hb=>tcg (Γ:=Qny) (n:=39) (sg:=QgO.sg) Ql TOkL.nil (by kernel_rfl) (by kernel_rfl) (QyY _ p s ?_)
 have hl_p_0:(p.1).length≤9223372036854775807:=hb.1.1.1
 have hl_p_1:(p.2.1).length≤9223372036854775807:=hb.1.2.1.1
 have hl_p_2:(p.2.2.1).length≤9223372036854775807:=hb.1.2.2.1.1
 have hl_p_3:(p.2.2.2).length≤9223372036854775807:=hb.1.2.2.2.1.1
 refine ⟨fun h=>R_eq ?_,fun h=>?_⟩
 ·have h0:m_in s 0 (p.2.1.length-1)=false:=by simp at h;simp [m_in];omega
  simp [QG,h0]
 have h0:m_in s 0 (p.2.1.length-1)=true:=by simp at h;simp [m_in];omega
 have h1:=Q5.1 h0
 have hlt:s.toNat<p.2.1.length:=by omega
 refine ⟨⟨h1.1,hlt⟩,fun h=>R_eq ?_,fun h=>?_⟩
 ·have h2:m_in (gtd Qv p.2.1 s.toNat).1 0 ((gtd Qv p.2.1 s.toNat).2.1.length-1)=false:=by simp at h;simp [m_in];omega
  simp [QG,h0,Qbq,h2]
 ·have h2:m_in (gtd Qv p.2.1 s.toNat).1 0 ((gtd Qv p.2.1 s.toNat).2.1.length-1)=true:=by simp at h;simp [m_in];omega
  have h3:=Q5.1 h2
  refine ⟨⟨h3.1,by omega⟩,R_eq ?_⟩
  simp [QG,h0,Qbq,h2]
theorem QsY:Qj Tryz.prog QgO:=Qn fun x _=>Qvr x.1 x.2.1
def JR (t:Bool):TRes:=zre (zcb t)
def QhF:TRow:=Qi 177 [(.a Qx)] fun x=>(none,JR (Yl x.1))
def Qdj:TTab:=⟨[],false⟩
def Qr8:TCode :=
 (zsq [(zsq [(.reg [zmv 4 3,zfa 5 1 1,zld 6 5 1,zle 7 6,zbi 8 .lss 4 7]),(.cond 8 .skip (.exit 0))]),(.block 1 (zsq [(.draw [zfa 11 1 1,zld 12 11 1,zmv 13 3,zia 14 12 13 Qo,zfa 15 14 0,zld 16 15 1,zfa 17 1 1,zld 18 17 1,zmv 19 3,zia 20 18 19 Qo,zfa 21 20 1,zld 22 21 1,zle 23 22,zbi 24 .sub 23 (zki 1),zbi 25 .lss 16 24] []),(.cond 25 (zsq [(.reg [zmv 2 (zkb false)]),.ret]) .skip)])),(.reg [zmv 9 3,zbi 10 .add 9 (zki 1),zmv 3 10])])
def Qoi:List (Nat × Md):=[(1,.b (zds 4)),(3,.one .d)]
def Qmc:TCode :=
 (zsq [(.reg [zmv 2 (zkb true)]),.ret])
def QyW:TCode :=
 (zsq [(.reg [zop 1 (.box 56 0 4),zmv 2 (zkb false)]),(zsq [(.reg [zmv 3 (zki 0)]),(.block 0 (.loop Qoi Qr8))]),Qmc])
def Qrv:List (ARv × Md):=[(.t 2,.one .d)]
def Qpq:Qb:=TQ 0 0 Qrv K
def QDg:Qb:=Qseq (tawp Qdj 0 Qmc (Qpq K)) (Qpq K)
def Qyq:Qb:=Qblk 0 (QDg K)
def Qel (p:Qp) (s:Int):Prop:=Loop Qdj 0 Qoi Qr8 (Qyq K) ⟨[(1,(.p 0 0 0)),(3,(zci s))],[(0,(.box (Tup.cells Qx p)))],1⟩
theorem QrR (p:Qp) (s:Int) (h :
 (zif (decide (s<((p.2.1).length:Int))) ((((0:Int)≤s∧Int.toNat s<(p.2.1).length)∧((0:Int)≤s∧Int.toNat s<(p.2.1).length))∧(zif (decide (((gtd Qv p.2.1 (Int.toNat s)).1)<(w64 ((((gtd Qv p.2.1 (Int.toNat s)).2.1).length:Int)-(1:Int))))) (K (JR false)) (Qel K p (w64 (s+(1:Int)))))) (K (JR true)))):Qel K p s :=
 Loop.of (by kernel_rfl) h
theorem QuE (p:Qp) (h :
 (Qel K p 0)):Hold (tawp Qdj (0+0) QyW (TQ 0 0 Qrv K) (Qg [(.a (Tup.cells Qx p))])) :=
 Hold.of (by kernel_rfl) h
theorem QsM (p:Qp):TCon Tryz.prog 177 [(.a (Tup.cells Qx p))] (JR (Yl p)):=by
 refine Qk rfl fun hb=>tcg (Γ:=Qdj) (n:=26) (sg:=QhF.sg) Ql TOkL.nil (by kernel_rfl) (by kernel_rfl) (QuE _ p ?_)
 have hl_p_0:(p.1).length≤9223372036854775807:=hb.1.1.1
 have hl_p_1:(p.2.1).length≤9223372036854775807:=hb.1.2.1.1
 have hl_p_2:(p.2.2.1).length≤9223372036854775807:=hb.1.2.2.1.1
 have hl_p_3:(p.2.2.2).length≤9223372036854775807:=hb.1.2.2.2.1.1
 refine Zp p.2.1 (fun r k=>r.all ZJ=p.2.1.all ZJ→Qel (fun r'=>r'=JR (Yl p)) p k) ?_ ?_ rfl
 ·intro he
  refine QrR (fun r'=>r'=JR (Yl p)) p _ ⟨fun h=>by simp at h,fun _=>R_eq ?_⟩
  exact he
 ·intro k x r hk hlt hg ih he
  have hmem:x∈p.2.1:=List.mem_of_mem_drop (i:=k) (by rw [hk];exact List.mem_cons_self)
  have hbx:x.2.1.length≤9223372036854775807:=(hb.1.2.1.2 x hmem).2.1.1
  refine QrR (fun r'=>r'=JR (Yl p)) p _ ⟨fun _=>?_,fun h=>by simp at h;omega⟩
  rw [Int.toNat_natCast,hg,Qw (x:=(k:Int)+1) (by omega) (by omega),Qw (x:=(x.2.1.length:Int)-1) (by omega) (by omega)]
  rw [List.all_cons] at he
  refine ⟨⟨⟨by omega,hlt⟩,by omega,hlt⟩,fun h=>R_eq ?_,fun h=>ih ?_⟩
  ·have:ZJ x=false:=by simp at h;simp [ZJ];omega
   rw [this] at he
   exact he
  ·have:ZJ x=true:=by simp at h;simp [ZJ];omega
   rw [this,Bool.true_and] at he
   exact he
theorem QB8:Qj Tryz.prog QhF:=Qn fun x _=>QsM x.1
def Z1 (t:Bool):TRes:=zre (zcb t)
def QhL:TRow:=Qi 89 [(.a Qx),(.c TI)] fun x=>(none,Z1 (QO x.1 x.2.1))
def QcI:TTab:=⟨[QeV,ZP,QfK,QhF],false⟩
def QrD:TCode :=
 (.cond 100 (zsq [(.reg [zmv 4 (zkb true)]),.ret]) (zsq [(.reg [zbi 105 .eql 20 (zki 8),zmv 104 105]),(.cond 104 (zsq [(.reg [zLd 106 2 4,zca 107 177 [106],zmv 4 107]),.ret]) .skip)]))
def QD9:List (Nat × Md):=[(2,.b (zds 4)),(20,.one .d),(100,.one .d)]
def QCt:TCode:=.wk QD9 QrD
def Ql3:TCode :=
 (zsq [(.reg [zmv 4 (zkb false)]),.ret])
def Quz:TCode :=
 (zsq [(.reg [zop 2 (.box 56 0 4),zmv 4 (zkb false)]),(zsq [(.reg [zLd 5 2 4,zca 6 176 [5],zno 7 6,zmv 8 7,.grp 8 false [zmv 9 1,zfa 10 2 1,zld 11 10 1,zle 12 11,zbi 13 .sub 12 (zki 1),zca 14 158 [9,(zki 0),13],zno 15 14] 16 15]),(.cond 16 (zsq [(.reg [zmv 4 (zkb false)]),.ret]) .skip)]),(zsq [(.reg [zLd 17 2 4,zmv 18 1,zca 19 144 [17,18],zop 20 (.fld 19 0 1 false)]),(.block 0 (zsq [(.reg [zbi 22 .eql 20 (zki 1),zmv 21 22]),(.cond 21 (zsq [(.reg [zmv 23 1,zbi 24 .gtr 23 (zki 0),zmv 25 24,.grp 25 true [zfa 26 2 2,zld 27 26 1,zmv 28 1,zbi 29 .sub 28 (zki 1),zia 30 27 29 Qt,zfa 31 30 1,zld 32 31 1,zle 33 32,zbi 34 .gtr 33 (zki 0)] 35 34,zmv 4 35]),.ret]) (zsq [(.reg [zbi 37 .eql 20 (zki 3),zmv 36 37]),(.cond 36 (zsq [(.draw [zmv 38 1,zfa 39 2 1,zld 40 39 1,zle 41 40,zbi 42 .sub 41 (zki 1),zbi 43 .lss 38 42,zmv 44 43,.grp 44 true [zfa 45 2 2,zld 46 45 1,zmv 47 1,zia 48 46 47 Qt,zfa 49 48 1,zld 50 49 1,zle 51 50,zfa 52 2 2,zld 53 52 1,zmv 54 1,zia 55 53 54 Qt,zfa 56 55 0,zld 57 56 1,zbi 58 .lss 51 57] 59 58,zmv 4 59] []),.ret]) (zsq [(.reg [zbi 61 .eql 20 (zki 4),zmv 60 61]),(.cond 60 (zsq [(.reg [zmv 62 1,zfa 63 2 1,zld 64 63 1,zle 65 64,zbi 66 .sub 65 (zki 1),zbi 67 .lss 62 66,zmv 68 67,.grp 68 true [zfa 69 2 3,zld 70 69 1,zmv 71 1,zia 72 70 71 Qt,zfa 73 72 1,zld 74 73 1,zle 75 74,zbi 76 .gtr 75 (zki 0)] 77 76,zmv 4 77]),.ret]) (zsq [(.reg [zbi 79 .eql 20 (zki 7),zmv 78 79]),(.cond 78 (zsq [(.draw [zmv 80 1,zbi 81 .gtr 80 (zki 0),zmv 82 81,.grp 82 true [zfa 83 2 3,zld 84 83 1,zmv 85 1,zbi 86 .sub 85 (zki 1),zia 87 84 86 Qt,zfa 88 87 1,zld 89 88 1,zle 90 89,zfa 91 2 3,zld 92 91 1,zmv 93 1,zbi 94 .sub 93 (zki 1),zia 95 92 94 Qt,zfa 96 95 0,zld 97 96 1,zbi 98 .lss 90 97] 99 98,zmv 4 99] []),.ret]) (zsq [(zsq [(.reg [zbi 101 .eql 20 (zki 2),zmv 100 101]),(.cond 100 .skip (zsq [(.reg [zbi 102 .eql 20 (zki 5),zmv 100 102]),(.cond 100 .skip (.reg [zbi 103 .eql 20 (zki 6),zmv 100 103]))]))]),QCt]))]))]))]))]))]),Ql3])
def QnU:List (ARv × Md):=[(.t 4,.one .d)]
def QoC:Qb:=TQ 0 0 QnU K
def Qya:Qb:=Qseq (tawp QcI 0 Ql3 (QoC K)) (QoC K)
def Qxo:Qb:=Qblk 0 (Qya K)
@[irreducible] def Qcr (p:Qp) (s:Int) (x:Bool):Prop:=tawp QcI 0 QrD (Qxo K) ⟨[(2,(.p 0 0 0)),(20,(zci ((QG p s).1))),(100,(zcb x))],[(0,(.box (Tup.cells Qx p)))],1⟩
theorem Qxt (p:Qp) (s:Int) (x:Bool) (h :
 (zif x (K (Z1 true)) (zif (((QG p s).1)==(8:Int)) (K (Z1 (Yl p))) (K (Z1 false))))):Hold (Qcr K p s x) :=
 Hold.of (by kernel_rfl) h
theorem QEu (p:Qp) (s:Int) (h :
 (zif ((!(QF p))||(!(m_in s (0:Int) (w64 (((p.2.1).length:Int)-(1:Int)))))) (K (Z1 false)) (zif (((QG p s).1)==(1:Int)) (((decide (s>(0:Int)))=true→((0:Int)≤w64 (s-(1:Int))∧Int.toNat (w64 (s-(1:Int)))<(p.2.2.1).length))∧K (Z1 ((decide (s>(0:Int)))&&(decide ((((gtd QC p.2.2.1 (Int.toNat (w64 (s-(1:Int))))).2).length:Int)>(0:Int)))))) (zif (((QG p s).1)==(3:Int)) (((decide (s<(w64 (((p.2.1).length:Int)-(1:Int)))))=true→(((0:Int)≤s∧Int.toNat s<(p.2.2.1).length)∧((0:Int)≤s∧Int.toNat s<(p.2.2.1).length)))∧K (Z1 ((decide (s<(w64 (((p.2.1).length:Int)-(1:Int)))))&&(decide ((((gtd QC p.2.2.1 (Int.toNat s)).2).length:Int)<((gtd QC p.2.2.1 (Int.toNat s)).1)))))) (zif (((QG p s).1)==(4:Int)) (((decide (s<(w64 (((p.2.1).length:Int)-(1:Int)))))=true→((0:Int)≤s∧Int.toNat s<(p.2.2.2).length))∧K (Z1 ((decide (s<(w64 (((p.2.1).length:Int)-(1:Int)))))&&(decide ((((gtd QC p.2.2.2 (Int.toNat s)).2).length:Int)>(0:Int)))))) (zif (((QG p s).1)==(7:Int)) (((decide (s>(0:Int)))=true→(((0:Int)≤w64 (s-(1:Int))∧Int.toNat (w64 (s-(1:Int)))<(p.2.2.2).length)∧((0:Int)≤w64 (s-(1:Int))∧Int.toNat (w64 (s-(1:Int)))<(p.2.2.2).length)))∧K (Z1 ((decide (s>(0:Int)))&&(decide ((((gtd QC p.2.2.2 (Int.toNat (w64 (s-(1:Int))))).2).length:Int)<((gtd QC p.2.2.2 (Int.toNat (w64 (s-(1:Int))))).1)))))) (zif (((QG p s).1)==(2:Int)) (Qcr K p s (((QG p s).1)==(2:Int))) (zif (((QG p s).1)==(5:Int)) (Qcr K p s (((QG p s).1)==(5:Int))) (Qcr K p s (((QG p s).1)==(6:Int))))))))))):Hold (tawp QcI (0+0) Quz (TQ 0 0 QnU K) (Qg [(.a (Tup.cells Qx p)),(.c TI s)])) :=
 Hold.of (by kernel_rfl) h
theorem QwT (p:Qp) (s:Int):TCon Tryz.prog 89 [(.a (Tup.cells Qx p)),(.c TI s)] (Z1 (QO p s)):=by
 refine Qk rfl fun hb=>tcg (Γ:=QcI) (n:=108) (sg:=QhL.sg) Ql (TOkL.cons QyO (TOkL.cons Yr (TOkL.cons QAr (TOkL.cons QB8 TOkL.nil)))) (by kernel_rfl) (by kernel_rfl) (QEu _ p s ?_)
 have hl_p_0:(p.1).length≤9223372036854775807:=hb.1.1.1
 have hl_p_1:(p.2.1).length≤9223372036854775807:=hb.1.2.1.1
 have hl_p_2:(p.2.2.1).length≤9223372036854775807:=hb.1.2.2.1.1
 have hl_p_3:(p.2.2.2).length≤9223372036854775807:=hb.1.2.2.2.1.1
 by_cases h0:(QF p&&m_in s 0 (p.2.1.length-1))=true
 rotate_left
 ·have e1:w64 ((p.2.1.length:Int)-1)=p.2.1.length-1:=Qw (by omega) (by omega)
  rw [e1]
  refine ⟨fun h=>R_eq (by grind [QO]),fun h=>by grind⟩
 have h00:=h0
 simp only [Bool.and_eq_true,Q5] at h00
 have hp2:=h00.1
 simp only [QF,Bool.and_eq_true,Q5,beq_iff_eq] at hp2
 have e1:w64 ((p.2.1.length:Int)-1)=p.2.1.length-1:=Qw (by omega) (by omega)
 have e2:w64 (s-1)=s-1:=Qw (by omega) (by omega)
 rw [e1,e2]
 have e4:Int.toNat (s-1)=s.toNat-1:=by omega
 rw [e4]
 have hM:(QO p s)=Yj p s (QG p s).1:=by unfold QO;rw [h0,Bool.true_and]
 have k2:∀ b:Bool,(b=true→Yj p s (QG p s).1=true)→(b=false→Yj p s (QG p s).1=if (QG p s).1=8 then Yl p else false)→Qcr (fun r'=>r'=Z1 (QO p s)) p s b:=by
  intro b hb1 hb2
  refine (Qxt (fun r'=>r'=Z1 (QO p s)) p s _ ⟨fun h=>R_eq ?_,fun h=>⟨fun h8=>R_eq ?_,fun h8=>R_eq ?_⟩⟩).h
  ·rw [hM,hb1 h]
  ·rw [hM,hb2 h,if_pos (by simpa using h8)]
  ·rw [hM,hb2 h,if_neg (by simpa using h8)]
 generalize (QG p s).1=kd at *
 refine ⟨fun h=>by grind,fun _=>⟨fun h1=>⟨fun h=>by simp at h;omega,R_eq ?_⟩,fun h1=>⟨fun h2=>⟨fun h=>by simp at h;omega,R_eq ?_⟩,fun h2=>⟨fun h3=>⟨fun h=>by simp at h;omega,R_eq ?_⟩,fun h3=>⟨fun h4=>⟨fun h=>by simp at h;omega,R_eq ?_⟩,fun h4=>⟨fun h5=>k2 _ ?_ ?_,fun h5=>⟨fun h6=>k2 _ ?_ ?_,fun h6=>k2 _ ?_ ?_⟩⟩⟩⟩⟩⟩⟩
 all_goals (try rw [hM]);simp only [Yj,Jp] at *;grind
theorem Qxv:Qj Tryz.prog QhL:=Qn fun x _=>QwT x.1 x.2.1
def Zk (t:Bool):TRes:=zre (zcb t)
def Qh3:TRow:=Qi 92 [(.a Qx),(.c TI)] fun x=>(none,Zk (QO x.1 x.2.1))
def Qa3:TTab:=⟨[QgM,QgO,Qfq],false⟩
def QoJ:TCode :=
 (zsq [(.reg [zbi 94 .lss 93 92]),(.cond 94 .skip (.exit 1)),(.block 2 (zsq [(.reg [zia 95 91 93 Qo,zLd 96 95 14,zop 7 (.new 39 (z0s Qo)),zst 7 96 14]),(.reg [zfa 97 7 0,zld 98 97 1,zfa 99 7 1,zld 100 99 1,zle 101 100,zbi 102 .sub 101 (zki 1),zbi 103 .lss 98 102]),(.cond 103 (zsq [(.reg [zmv 4 (zkb false)]),.ret]) .skip)])),(.reg [zbi 104 .add 93 (zki 1),zmv 93 104])])
def QpD:List (Nat × Md):=zdl [91,92,93]
def Qkd:TCode :=
 (zsq [(.reg [zmv 4 (zkb true)]),.ret])
def QrZ:TCode :=
 (.cond 84 (zsq [(.reg [zmv 4 (zkb true)]),.ret]) (zsq [(.reg [zbi 89 .eql 31 (zki 8),zmv 88 89]),(.cond 88 (zsq [(zsq [(.reg [zfa 90 2 1,zld 91 90 1,zle 92 91,zmv 93 (zki 0)]),(.block 1 (.loop QpD QoJ))]),Qkd]) .skip)]))
def QtA:List (Nat × Md):=[(2,.b (zds 4)),(31,.one .d),(84,.one .d)]
def Qv3:TCode:=.wk QtA QrZ
def Qmz:TCode :=
 (zsq [(.reg [zmv 4 (zkb false)]),.ret])
def Qzm:TCode :=
 (zsq [(.reg [zop 2 (.box 56 0 4),zmv 4 (zkb false)]),(zsq [(.reg [zLd 8 2 4,zca 9 179 [8],zno 10 9,zmv 11 10,.grp 11 false [zmv 12 1,zbi 13 .lss 12 (zki 0)] 14 13,zmv 15 14,.grp 15 false [zmv 16 1,zfa 17 2 1,zld 18 17 1,zle 19 18,zbi 20 .geq 16 19] 21 20]),(.cond 21 (zsq [(.reg [zmv 4 (zkb false)]),.ret]) .skip)]),(.reg [zmv 22 1,zfa 23 2 1,zld 24 23 1,zle 25 24,zbi 26 .sub 25 (zki 1),zbi 27 .lss 22 26,zmv 5 27]),(zsq [(.reg [zLd 28 2 4,zmv 29 1,zca 30 148 [28,29],zop 31 (.fld 30 0 1 false)]),(.block 0 (zsq [(.reg [zbi 33 .eql 31 (zki 1),zmv 32 33]),(.cond 32 (zsq [(.reg [zmv 34 1,zbi 35 .gtr 34 (zki 0),zmv 36 35,.grp 36 true [zfa 37 2 2,zld 38 37 1,zmv 39 1,zbi 40 .sub 39 (zki 1),zia 41 38 40 Qt,zfa 42 41 1,zld 43 42 1,zle 44 43,zbi 45 .gtr 44 (zki 0)] 46 45,zmv 4 46]),.ret]) (zsq [(.reg [zbi 48 .eql 31 (zki 3),zmv 47 48]),(.cond 47 (zsq [(.reg [zmv 49 5,zmv 50 49,.grp 50 true [zfa 51 2 2,zld 52 51 1,zmv 53 1,zia 54 52 53 Qt,zLd 55 54 2,zca 56 180 [55]] 57 56,zmv 4 57]),.ret]) (zsq [(.reg [zbi 59 .eql 31 (zki 4),zmv 58 59]),(.cond 58 (zsq [(.reg [zmv 60 5,zmv 61 60,.grp 61 true [zfa 62 2 3,zld 63 62 1,zmv 64 1,zia 65 63 64 Qt,zfa 66 65 1,zld 67 66 1,zle 68 67,zbi 69 .gtr 68 (zki 0)] 70 69,zmv 4 70]),.ret]) (zsq [(.reg [zbi 72 .eql 31 (zki 7),zmv 71 72]),(.cond 71 (zsq [(.reg [zmv 73 1,zbi 74 .gtr 73 (zki 0),zmv 75 74,.grp 75 true [zfa 76 2 3,zld 77 76 1,zmv 78 1,zbi 79 .sub 78 (zki 1),zia 80 77 79 Qt,zLd 81 80 2,zca 82 180 [81]] 83 82,zmv 4 83]),.ret]) (zsq [(zsq [(.reg [zbi 85 .eql 31 (zki 2),zmv 84 85]),(.cond 84 .skip (zsq [(.reg [zbi 86 .eql 31 (zki 5),zmv 84 86]),(.cond 84 .skip (.reg [zbi 87 .eql 31 (zki 6),zmv 84 87]))]))]),Qv3]))]))]))]))]))]),Qmz])
def QnA:List (ARv × Md):=[(.t 4,.one .d)]
def Qqq:Qb:=TQ 0 0 QnA K
def QDt:Qb:=Qseq (tawp Qa3 0 Qmz (Qqq K)) (Qqq K)
def QfE:Qb:=Qblk 0 (QDt K)
def QEX:Qb:=Qseq (tawp Qa3 0 Qkd (QfE K)) (QfE K)
def QDn:Qb:=Qblk 1 (QEX K)
def Qch (p:Qp) (x1:Int):Prop:=Loop Qa3 0 QpD QoJ (QDn K) ⟨[(91,(zcs Qo p.2.1)),(92,(zci ((p.2.1).length:Int))),(93,(zci x1))],[],0⟩
@[irreducible] def QbI (p:Qp) (s:Int) (x:Bool):Prop:=tawp Qa3 0 QrZ (QfE K) ⟨[(2,(.p 0 0 0)),(31,(zci ((QG p s).1))),(84,(zcb x))],[(0,(.box (Tup.cells Qx p)))],1⟩
theorem Qp3 (p:Qp) (x1:Int) (h :
 (zif (decide (x1<((p.2.1).length:Int))) (((0:Int)≤x1∧Int.toNat x1<(p.2.1).length)∧(zif (decide (((gtd Qv p.2.1 (Int.toNat x1)).1)<(w64 ((((gtd Qv p.2.1 (Int.toNat x1)).2.1).length:Int)-(1:Int))))) (K (Zk false)) (Qch K p (w64 (x1+(1:Int)))))) (K (Zk true)))):Qch K p x1 :=
 Loop.of (by kernel_rfl) h
theorem QAh (p:Qp) (s:Int) (x:Bool) (h :
 (zif x (K (Zk true)) (zif (((QG p s).1)==(8:Int)) (Qch K p 0) (K (Zk false))))):Hold (QbI K p s x) :=
 Hold.of (by kernel_rfl) h
theorem QsF (p:Qp) (s:Int) (h :
 (zif (((!(QF p))||(decide (s<(0:Int))))||(decide (s≥((p.2.1).length:Int)))) (K (Zk false)) (zif (((QG p s).1)==(1:Int)) (((decide (s>(0:Int)))=true→((0:Int)≤w64 (s-(1:Int))∧Int.toNat (w64 (s-(1:Int)))<(p.2.2.1).length))∧K (Zk ((decide (s>(0:Int)))&&(decide ((((gtd QC p.2.2.1 (Int.toNat (w64 (s-(1:Int))))).2).length:Int)>(0:Int)))))) (zif (((QG p s).1)==(3:Int)) (((decide (s<(w64 (((p.2.1).length:Int)-(1:Int)))))=true→((0:Int)≤s∧Int.toNat s<(p.2.2.1).length))∧K (Zk ((decide (s<(w64 (((p.2.1).length:Int)-(1:Int)))))&&(Jp (gtd QC p.2.2.1 (Int.toNat s)))))) (zif (((QG p s).1)==(4:Int)) (((decide (s<(w64 (((p.2.1).length:Int)-(1:Int)))))=true→((0:Int)≤s∧Int.toNat s<(p.2.2.2).length))∧K (Zk ((decide (s<(w64 (((p.2.1).length:Int)-(1:Int)))))&&(decide ((((gtd QC p.2.2.2 (Int.toNat s)).2).length:Int)>(0:Int)))))) (zif (((QG p s).1)==(7:Int)) (((decide (s>(0:Int)))=true→((0:Int)≤w64 (s-(1:Int))∧Int.toNat (w64 (s-(1:Int)))<(p.2.2.2).length))∧K (Zk ((decide (s>(0:Int)))&&(Jp (gtd QC p.2.2.2 (Int.toNat (w64 (s-(1:Int))))))))) (zif (((QG p s).1)==(2:Int)) (QbI K p s (((QG p s).1)==(2:Int))) (zif (((QG p s).1)==(5:Int)) (QbI K p s (((QG p s).1)==(5:Int))) (QbI K p s (((QG p s).1)==(6:Int))))))))))):Hold (tawp Qa3 (0+0) Qzm (TQ 0 0 QnA K) (Qg [(.a (Tup.cells Qx p)),(.c TI s)])) :=
 Hold.of (by kernel_rfl) h
theorem QBT (p:Qp) (s:Int):TCon Tryz.prog 92 [(.a (Tup.cells Qx p)),(.c TI s)] (Zk (QO p s)):=by
 refine Qk rfl fun hb=>tcg (Γ:=Qa3) (n:=105) (sg:=Qh3.sg) Ql (TOkL.cons QCI (TOkL.cons QsY (TOkL.cons QwH TOkL.nil))) (by kernel_rfl) (by kernel_rfl) (QsF _ p s ?_)
 have hl_p_0:(p.1).length≤9223372036854775807:=hb.1.1.1
 have hl_p_1:(p.2.1).length≤9223372036854775807:=hb.1.2.1.1
 have hl_p_2:(p.2.2.1).length≤9223372036854775807:=hb.1.2.2.1.1
 have hl_p_3:(p.2.2.2).length≤9223372036854775807:=hb.1.2.2.2.1.1
 by_cases h0:(QF p&&m_in s 0 (p.2.1.length-1))=true
 rotate_left
 ·refine ⟨fun h=>R_eq (by grind [QO]),fun h=>by grind [m_in]⟩
 have h00:=h0
 simp only [Bool.and_eq_true,Q5] at h00
 have hp2:=h00.1
 simp only [QF,Bool.and_eq_true,Q5,beq_iff_eq] at hp2
 have e1:w64 ((p.2.1.length:Int)-1)=p.2.1.length-1:=Qw (by omega) (by omega)
 have e2:w64 (s-1)=s-1:=Qw (by omega) (by omega)
 rw [e1,e2]
 have e4:Int.toNat (s-1)=s.toNat-1:=by omega
 rw [e4]
 have hM:(QO p s)=Yj p s (QG p s).1:=by unfold QO;rw [h0,Bool.true_and]
 have hall:Yj p s (QG p s).1=Yl p→Qch (fun r'=>r'=Zk (QO p s)) p ((0:Nat):Int):=by
  intro hm
  refine Zp p.2.1 (fun r k=>r.all ZJ=p.2.1.all ZJ→Qch (fun r'=>r'=Zk (QO p s)) p k) ?_ ?_ rfl
  ·intro he
   refine Qp3 (fun r'=>r'=Zk (QO p s)) p _ ⟨fun h=>by simp at h,fun _=>R_eq ?_⟩
   rw [hM,hm];exact he
  ·intro k x r hk hlt hg ih he
   have hmem:x∈p.2.1:=List.mem_of_mem_drop (i:=k) (by rw [hk];exact List.mem_cons_self)
   have hbx:x.2.1.length≤9223372036854775807:=(hb.1.2.1.2 x hmem).2.1.1
   refine Qp3 (fun r'=>r'=Zk (QO p s)) p _ ⟨fun _=>?_,fun h=>by simp at h;omega⟩
   rw [Int.toNat_natCast,hg,Qw (x:=(k:Int)+1) (by omega) (by omega),Qw (x:=(x.2.1.length:Int)-1) (by omega) (by omega)]
   rw [List.all_cons] at he
   refine ⟨⟨by omega,hlt⟩,fun h=>R_eq ?_,fun h=>ih ?_⟩
   ·have:ZJ x=false:=by simp at h;simp [ZJ];omega
    rw [this] at he
    rw [hM,hm];exact he
   ·have:ZJ x=true:=by simp at h;simp [ZJ];omega
    rw [this,Bool.true_and] at he
    exact he
 have k2:∀ b:Bool,(b=true→Yj p s (QG p s).1=true)→(b=false→Yj p s (QG p s).1=if (QG p s).1=8 then Yl p else false)→QbI (fun r'=>r'=Zk (QO p s)) p s b:=by
  intro b hb1 hb2
  refine (QAh (fun r'=>r'=Zk (QO p s)) p s _ ⟨fun h=>R_eq ?_,fun h=>⟨fun h8=>hall ?_,fun h8=>R_eq ?_⟩⟩).h
  ·rw [hM,hb1 h]
  ·rw [hb2 h,if_pos (by simpa using h8)]
  ·rw [hM,hb2 h,if_neg (by simpa using h8)]
 clear hall
 generalize (QG p s).1=kd at *
 refine ⟨fun h=>by grind [m_in],fun _=>⟨fun h1=>⟨fun h=>by simp at h;omega,R_eq ?_⟩,fun h1=>⟨fun h2=>⟨fun h=>by simp at h;omega,R_eq ?_⟩,fun h2=>⟨fun h3=>⟨fun h=>by simp at h;omega,R_eq ?_⟩,fun h3=>⟨fun h4=>⟨fun h=>by simp at h;omega,R_eq ?_⟩,fun h4=>⟨fun h5=>k2 _ ?_ ?_,fun h5=>⟨fun h6=>k2 _ ?_ ?_,fun h6=>k2 _ ?_ ?_⟩⟩⟩⟩⟩⟩⟩
 all_goals (try rw [hM]);simp only [Yj,Jp] at *;grind
theorem QuR:Qj Tryz.prog Qh3:=Qn fun x _=>QBT x.1 x.2.1
end
end Go.Proofs.YtdplaepmjogjjaaGreat.Am

