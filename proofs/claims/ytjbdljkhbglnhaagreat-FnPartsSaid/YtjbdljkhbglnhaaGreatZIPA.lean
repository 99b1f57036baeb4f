/- -/
import Derived.Test.YtjbdljkhbglnhaaGreatZIP1
import Derived.Test.YtjbdljkhbglnhaaGreatZIP9
import Derived.Test.YtjbdljkhbglnhaaGreatZIP2
namespace Go.Proofs.YtjbdljkhbglnhaaGreat.Am
open Go Go.RowKit Go.Proofs.YtjbdljkhbglnhaaGreat
set_option linter.all false
noncomputable section
variable (K:TRes→Prop)
def QgA (t:TIns):TRes:=zre (.a [(zci t.1),(zci t.2)])
def Qg1:TRow:=Qk 170 [(.a QE),(.c TI)] fun x=>(none,QgA (Qj x.1 x.2.1))
def QRL:List TRow:=[YN]
def QVI:TCode :=
 (zsq [(.reg [zop 2 (.box 37 0 4),zop 4 (.new 111 (z0s QR))]),(zsq [(.draw [zmv 5 1,zfa 6 2 1,zld 7 6 1,zle 8 7,zbi 9 .sub 8 (zki 1),zca 10 77 [5,(zki 0),9],zno 11 10,zmv 12 11,.grp 12 false [zfa 13 2 1,zld 14 13 1,zmv 15 1,zia 16 14 15 Qg,zfa 17 16 0,zld 18 17 1,zfa 19 2 1,zld 20 19 1,zmv 21 1,zia 22 20 21 Qg,zfa 23 22 1,zld 24 23 1,zle 25 24,zbi 26 .sub 25 (zki 1),zca 27 77 [18,(zki 0),26],zno 28 27] 29 28] []),(.cond 29 (zsq [(.reg [zop 30 (.build (z0s QR) []),zst 4 30 2]),.ret]) .skip)]),(.draw [zfa 31 2 1,zld 32 31 1,zmv 33 1,zia 34 32 33 Qg,zfa 35 34 1,zld 36 35 1,zfa 37 2 1,zld 38 37 1,zmv 39 1,zia 40 38 39 Qg,zfa 41 40 0,zld 42 41 1,zia 43 36 42 QR,zLd 44 43 2,zst 4 44 2] []),.ret])
def QLe:List (ARv × Md):=[(.l 4 2 true,.b [.d,.d])]
theorem QTx (p:Qe) (s:Int) (h :
 (((!(!(m_in s (0:Int) (w64 (((p.2.1).length:Int)-(1:Int))))))=true→(((0:Int)≤s∧Int.toNat s<(p.2.1).length)∧((0:Int)≤s∧Int.toNat s<(p.2.1).length)))∧(zif ((!(m_in s (0:Int) (w64 (((p.2.1).length:Int)-(1:Int)))))||(!(m_in ((gtd QH p.2.1 (Int.toNat s)).1) (0:Int) (w64 ((((gtd QH p.2.1 (Int.toNat s)).2.1).length:Int)-(1:Int)))))) (K (QgA ((0:Int),(0:Int)))) ((((0:Int)≤s∧Int.toNat s<(p.2.1).length)∧(((0:Int)≤s∧Int.toNat s<(p.2.1).length)∧((0:Int)≤(gtd QH p.2.1 (Int.toNat s)).1∧Int.toNat ((gtd QH p.2.1 (Int.toNat s)).1)<((gtd QH p.2.1 (Int.toNat s)).2.1).length)))∧K (QgA (gtd dIns ((gtd QH p.2.1 (Int.toNat s)).2.1) (Int.toNat ((gtd QH p.2.1 (Int.toNat s)).1)))))))):Hold (tawp QRL (0+0) QVI (TQ 0 0 QLe K) (Qi [(.a (Tup.cells QE p)),(.c TI s)])) :=
 Hold.of (by kernel_rfl) h
theorem QTK (p:Qe) (s:Int):TCon Tryz.prog 170 [(.a (Tup.cells QE p)),(.c TI s)] (QgA (Qj p s)):=by
 refine Qo rfl fun hb=>tcg (n:=45) (sg:=Qg1.sg) Qm (TOk.cons Y5 TOk.nil) (by kernel_rfl) (by kernel_rfl) (QTx _ p s ?_)
 have hl_p_0:(p.1).length≤9223372036854775807:=hb.1.1.1
 have hl_p_1:(p.2.1).length≤9223372036854775807:=hb.1.2.1.1
 have hl_p_2:(p.2.2.1).length≤9223372036854775807:=hb.1.2.2.1.1
 have hl_p_3:(p.2.2.2).length≤9223372036854775807:=hb.1.2.2.2.1.1
 have e1:w64 ((p.2.1.length:Int)-1)=p.2.1.length-1:=Qp (by omega) (by omega)
 rw [e1]
 by_cases h0:m_in s 0 (p.2.1.length-1)=true
 ·have h1:=QP.1 h0
  have hlt:s.toNat<p.2.1.length:=by omega
  have hmem:=Jb hlt QH
  have hbx:(gtd QH p.2.1 s.toNat).2.1.length≤9223372036854775807:=(hb.1.2.1.2 _ hmem).2.1.1
  rw [Qp (x:=((gtd QH p.2.1 s.toNat).2.1.length:Int)-1) (by omega) (by omega)]
  refine ⟨fun _=>⟨⟨h1.1,hlt⟩,h1.1,hlt⟩,fun h=>R_eq ?_,fun h=>⟨⟨⟨h1.1,hlt⟩,⟨h1.1,hlt⟩,?_⟩,R_eq ?_⟩⟩
  ·simp [h0] at h
   simp [Qj,h0,Qb9,h]
  ·simp [h0] at h
   have:=QP.1 h
   omega
  ·simp [h0] at h
   simp [Qj,h0,Qb9,h]
 ·refine ⟨fun h=>by simp [h0] at h,fun h=>R_eq ?_,fun h=>by simp [h0] at h⟩
  simp [Qj,h0]
theorem QBA:Ql Tryz.prog Qg1:=Qn fun x _=>QTK x.1 x.2.1
def Qfx (t:TIns):TRes:=zre (.a [(zci t.1),(zci t.2)])
def Qhs:TRow:=Qk 96 [(.a QE),(.c TI)] fun x=>(none,Qfx (Qj x.1 x.2.1))
def QLP:List TRow:=[]
def QNo:TCode :=
 (zsq [(.reg [zop 2 (.box 37 0 4),zop 4 (.new 111 (z0s QR))]),(zsq [(.reg [zmv 6 1,zbi 7 .lss 6 (zki 0),zmv 8 7,.grp 8 false [zmv 9 1,zfa 10 2 1,zld 11 10 1,zle 12 11,zbi 13 .geq 9 12] 14 13]),(.cond 14 (zsq [(.reg [zop 15 (.build (z0s QR) []),zst 4 15 2]),.ret]) .skip)]),(.reg [zfa 16 2 1,zld 17 16 1,zmv 18 1,zia 19 17 18 Qg,zLd 20 19 14,zop 5 (.new 63 (z0s Qg)),zst 5 20 14]),(zsq [(.reg [zfa 21 5 0,zld 22 21 1,zbi 23 .lss 22 (zki 0),zmv 24 23,.grp 24 false [zfa 25 5 0,zld 26 25 1,zfa 27 5 1,zld 28 27 1,zle 29 28,zbi 30 .geq 26 29] 31 30]),(.cond 31 (zsq [(.reg [zop 32 (.build (z0s QR) []),zst 4 32 2]),.ret]) .skip)]),(.reg [zfa 33 5 1,zld 34 33 1,zfa 35 5 0,zld 36 35 1,zia 37 34 36 QR,zLd 38 37 2,zst 4 38 2]),.ret])
def QJ3:List (ARv × Md):=[(.l 4 2 true,.b [.d,.d])]
theorem QSQ (p:Qe) (s:Int) (h :
 (zif ((decide (s<(0:Int)))||(decide (s≥((p.2.1).length:Int)))) (K (Qfx ((0:Int),(0:Int)))) (((0:Int)≤s∧Int.toNat s<(p.2.1).length)∧(zif ((decide (((gtd QH p.2.1 (Int.toNat s)).1)<(0:Int)))||(decide (((gtd QH p.2.1 (Int.toNat s)).1)≥(((gtd QH p.2.1 (Int.toNat s)).2.1).length:Int)))) (K (Qfx ((0:Int),(0:Int)))) (((0:Int)≤(gtd QH p.2.1 (Int.toNat s)).1∧Int.toNat ((gtd QH p.2.1 (Int.toNat s)).1)<((gtd QH p.2.1 (Int.toNat s)).2.1).length)∧K (Qfx (gtd dIns ((gtd QH p.2.1 (Int.toNat s)).2.1) (Int.toNat ((gtd QH p.2.1 (Int.toNat s)).1))))))))):Hold (tawp QLP (0+0) QNo (TQ 0 0 QJ3 K) (Qi [(.a (Tup.cells QE p)),(.c TI s)])) :=
 Hold.of (by kernel_rfl) h
theorem QWE (p:Qe) (s:Int):TCon Tryz.prog 96 [(.a (Tup.cells QE p)),(.c TI s)] (Qfx (Qj p s)):=by
 refine Qo rfl fun hb=>tcg (n:=39) (sg:=Qhs.sg) Qm TOk.nil (by kernel_rfl) (by kernel_rfl) (QSQ _ p s ?_)
 have hl_p_0:(p.1).length≤9223372036854775807:=hb.1.1.1
 have hl_p_1:(p.2.1).length≤9223372036854775807:=hb.1.2.1.1
 have hl_p_2:(p.2.2.1).length≤9223372036854775807:=hb.1.2.2.1.1
 have hl_p_3:(p.2.2.2).length≤9223372036854775807:=hb.1.2.2.2.1.1
 refine ⟨fun h=>R_eq ?_,fun h=>?_⟩
 ·have h0:m_in s 0 (p.2.1.length-1)=false:=by simp at h;simp [m_in];omega
  simp [Qj,h0]
 have h0:m_in s 0 (p.2.1.length-1)=true:=by simp at h;simp [m_in];omega
 have h1:=QP.1 h0
 have hlt:s.toNat<p.2.1.length:=by omega
 refine ⟨⟨h1.1,hlt⟩,fun h=>R_eq ?_,fun h=>?_⟩
 ·have h2:m_in (gtd QH p.2.1 s.toNat).1 0 ((gtd QH p.2.1 s.toNat).2.1.length-1)=false:=by simp at h;simp [m_in];omega
  simp [Qj,h0,Qb9,h2]
 ·have h2:m_in (gtd QH p.2.1 s.toNat).1 0 ((gtd QH p.2.1 s.toNat).2.1.length-1)=true:=by simp at h;simp [m_in];omega
  have h3:=QP.1 h2
  refine ⟨⟨h3.1,by omega⟩,R_eq ?_⟩
  simp [Qj,h0,Qb9,h2]
theorem Qz2:Ql Tryz.prog Qhs:=Qn fun x _=>QWE x.1 x.2.1
def Qde (t:Bool):TRes:=zre (zcb t)
def QmZ:TRow:=Qk 177 [(.a QE)] fun x=>(none,Qde (J6 x.1))
def Qoa:List TRow:=[]
def Qte:TCode :=
 (zsq [(zsq [(.reg [zmv 4 3,zfa 5 1 1,zld 6 5 1,zle 7 6,zbi 8 .lss 4 7]),(.cond 8 .skip (.exit 0))]),(.block 1 (zsq [(.draw [zfa 11 1 1,zld 12 11 1,zmv 13 3,zia 14 12 13 Qg,zfa 15 14 0,zld 16 15 1,zfa 17 1 1,zld 18 17 1,zmv 19 3,zia 20 18 19 Qg,zfa 21 20 1,zld 22 21 1,zle 23 22,zbi 24 .sub 23 (zki 1),zbi 25 .lss 16 24] []),(.cond 25 (zsq [(.reg [zmv 2 (zkb false)]),.ret]) .skip)])),(.reg [zmv 9 3,zbi 10 .add 9 (zki 1),zmv 3 10])])
def Qze:List (Nat × Md):=[(1,.b (zds 4)),(3,.one .d)]
def Quk:TCode :=
 (zsq [(.reg [zmv 2 (zkb true)]),.ret])
def QOp:TCode :=
 (zsq [(.reg [zop 1 (.box 37 0 4),zmv 2 (zkb false)]),(zsq [(.reg [zmv 3 (zki 0)]),(.block 0 (.loop Qze Qte))]),Quk])
def Qt6:List (ARv × Md):=[(.t 2,.one .d)]
def Qxm:Qb:=TQ 0 0 Qt6 K
def QRV:Qb:=Qseq (tawp Qoa 0 Quk (Qxm K)) (Qxm K)
def QVT:Qb:=Qblk 0 (QRV K)
def Qjg (p:Qe) (s:Int):Prop:=Loop Qoa 0 Qze Qte (QVT K) ⟨[(1,(.p 0 0 0)),(3,(zci s))],[(0,(.box (Tup.cells QE p)))],1⟩
theorem QsL (p:Qe) (s:Int) (h :
 (zif (decide (s<((p.2.1).length:Int))) ((((0:Int)≤s∧Int.toNat s<(p.2.1).length)∧((0:Int)≤s∧Int.toNat s<(p.2.1).length))∧(zif (decide (((gtd QH p.2.1 (Int.toNat s)).1)<(w64 ((((gtd QH p.2.1 (Int.toNat s)).2.1).length:Int)-(1:Int))))) (K (Qde false)) (Qjg K p (w64 (s+(1:Int)))))) (K (Qde true)))):Qjg K p s :=
 Loop.of (by kernel_rfl) h
theorem QEJ (p:Qe) (h :
 (Qjg K p 0)):Hold (tawp Qoa (0+0) QOp (TQ 0 0 Qt6 K) (Qi [(.a (Tup.cells QE p))])) :=
 Hold.of (by kernel_rfl) h
theorem QTe (p:Qe):TCon Tryz.prog 177 [(.a (Tup.cells QE p))] (Qde (J6 p)):=by
 refine Qo rfl fun hb=>tcg (n:=26) (sg:=QmZ.sg) Qm TOk.nil (by kernel_rfl) (by kernel_rfl) (QEJ _ p ?_)
 have hl_p_0:(p.1).length≤9223372036854775807:=hb.1.1.1
 have hl_p_1:(p.2.1).length≤9223372036854775807:=hb.1.2.1.1
 have hl_p_2:(p.2.2.1).length≤9223372036854775807:=hb.1.2.2.1.1
 have hl_p_3:(p.2.2.2).length≤9223372036854775807:=hb.1.2.2.2.1.1
 refine Zj p.2.1 (fun r k=>r.all Jw=p.2.1.all Jw→Qjg (fun r'=>r'=Qde (J6 p)) p k) ?_ ?_ rfl
 ·intro he
  refine QsL (fun r'=>r'=Qde (J6 p)) p _ ⟨fun h=>by simp at h,fun _=>R_eq ?_⟩
  exact he
 ·intro k x r hk hlt hg ih he
  have hmem:x∈p.2.1:=List.mem_of_mem_drop (i:=k) (by rw [hk];exact List.mem_cons_self)
  have hbx:x.2.1.length≤9223372036854775807:=(hb.1.2.1.2 x hmem).2.1.1
  refine QsL (fun r'=>r'=Qde (J6 p)) p _ ⟨fun _=>?_,fun h=>by simp at h;omega⟩
  rw [Int.toNat_natCast,hg,Qp (x:=(k:Int)+1) (by omega) (by omega),Qp (x:=(x.2.1.length:Int)-1) (by omega) (by omega)]
  rw [List.all_cons] at he
  refine ⟨⟨⟨by omega,hlt⟩,by omega,hlt⟩,fun h=>R_eq ?_,fun h=>ih ?_⟩
  ·have:Jw x=false:=by simp at h;simp [Jw];omega
   rw [this] at he
   exact he
  ·have:Jw x=true:=by simp at h;simp [Jw];omega
   rw [this,Bool.true_and] at he
   exact he
theorem QRd:Ql Tryz.prog QmZ:=Qn fun x _=>QTe x.1
def Qam (t:Bool):TRes:=zre (zcb t)
def Qkx:TRow:=Qk 95 [(.a QE),(.c TI)] fun x=>(none,Qam (ZV x.1 x.2.1))
def Qor:List TRow:=[QlW,YN,Qg1,QmZ]
def QyA:TCode :=
 (.cond 100 (zsq [(.reg [zmv 4 (zkb true)]),.ret]) (zsq [(.reg [zbi 105 .eql 20 (zki 8),zmv 104 105]),(.cond 104 (zsq [(.reg [zLd 106 2 4,zca 107 177 [106],zmv 4 107]),.ret]) .skip)]))
def QST:List (Nat × Md):=[(2,.b (zds 4)),(20,.one .d),(100,.one .d)]
def QXU:TCode:=.wk QST QyA
def QBV:TCode :=
 (zsq [(.reg [zmv 4 (zkb false)]),.ret])
def QJ6:TCode :=
 (zsq [(.reg [zop 2 (.box 37 0 4),zmv 4 (zkb false)]),(zsq [(.reg [zLd 5 2 4,zca 6 38 [5],zno 7 6,zmv 8 7,.grp 8 false [zmv 9 1,zfa 10 2 1,zld 11 10 1,zle 12 11,zbi 13 .sub 12 (zki 1),zca 14 77 [9,(zki 0),13],zno 15 14] 16 15]),(.cond 16 (zsq [(.reg [zmv 4 (zkb false)]),.ret]) .skip)]),(zsq [(.reg [zLd 17 2 4,zmv 18 1,zca 19 170 [17,18],zop 20 (.fld 19 0 1 false)]),(.block 0 (zsq [(.reg [zbi 22 .eql 20 (zki 1),zmv 21 22]),(.cond 21 (zsq [(.reg [zmv 23 1,zbi 24 .gtr 23 (zki 0),zmv 25 24,.grp 25 true [zfa 26 2 2,zld 27 26 1,zmv 28 1,zbi 29 .sub 28 (zki 1),zia 30 27 29 Qh,zfa 31 30 1,zld 32 31 1,zle 33 32,zbi 34 .gtr 33 (zki 0)] 35 34,zmv 4 35]),.ret]) (zsq [(.reg [zbi 37 .eql 20 (zki 3),zmv 36 37]),(.cond 36 (zsq [(.draw [zmv 38 1,zfa 39 2 1,zld 40 39 1,zle 41 40,zbi 42 .sub 41 (zki 1),zbi 43 .lss 38 42,zmv 44 43,.grp 44 true [zfa 45 2 2,zld 46 45 1,zmv 47 1,zia 48 46 47 Qh,zfa 49 48 1,zld 50 49 1,zle 51 50,zfa 52 2 2,zld 53 52 1,zmv 54 1,zia 55 53 54 Qh,zfa 56 55 0,zld 57 56 1,zbi 58 .lss 51 57] 59 58,zmv 4 59] []),.ret]) (zsq [(.reg [zbi 61 .eql 20 (zki 4),zmv 60 61]),(.cond 60 (zsq [(.reg [zmv 62 1,zfa 63 2 1,zld 64 63 1,zle 65 64,zbi 66 .sub 65 (zki 1),zbi 67 .lss 62 66,zmv 68 67,.grp 68 true [zfa 69 2 3,zld 70 69 1,zmv 71 1,zia 72 70 71 Qh,zfa 73 72 1,zld 74 73 1,zle 75 74,zbi 76 .gtr 75 (zki 0)] 77 76,zmv 4 77]),.ret]) (zsq [(.reg [zbi 79 .eql 20 (zki 7),zmv 78 79]),(.cond 78 (zsq [(.draw [zmv 80 1,zbi 81 .gtr 80 (zki 0),zmv 82 81,.grp 82 true [zfa 83 2 3,zld 84 83 1,zmv 85 1,zbi 86 .sub 85 (zki 1),zia 87 84 86 Qh,zfa 88 87 1,zld 89 88 1,zle 90 89,zfa 91 2 3,zld 92 91 1,zmv 93 1,zbi 94 .sub 93 (zki 1),zia 95 92 94 Qh,zfa 96 95 0,zld 97 96 1,zbi 98 .lss 90 97] 99 98,zmv 4 99] []),.ret]) (zsq [(zsq [(.reg [zbi 101 .eql 20 (zki 2),zmv 100 101]),(.cond 100 .skip (zsq [(.reg [zbi 102 .eql 20 (zki 5),zmv 100 102]),(.cond 100 .skip (.reg [zbi 103 .eql 20 (zki 6),zmv 100 103]))]))]),QXU]))]))]))]))]))]),QBV])
def Qtw:List (ARv × Md):=[(.t 4,.one .d)]
def QqR:Qb:=TQ 0 0 Qtw K
def QNp:Qb:=Qseq (tawp Qor 0 QBV (QqR K)) (QqR K)
def QX5:Qb:=Qblk 0 (QNp K)
@[irreducible] def Qe0 (p:Qe) (s:Int) (x:Bool):Prop:=tawp Qor 0 QyA (QX5 K) ⟨[(2,(.p 0 0 0)),(20,(zci ((Qj p s).1))),(100,(zcb x))],[(0,(.box (Tup.cells QE p)))],1⟩
theorem QJZ (p:Qe) (s:Int) (x:Bool) (h :
 (zif x (K (Qam true)) (zif (((Qj p s).1)==(8:Int)) (K (Qam (J6 p))) (K (Qam false))))):Hold (Qe0 K p s x) :=
 Hold.of (by kernel_rfl) h
theorem QEs (p:Qe) (s:Int) (h :
 (zif ((!(Zk p))||(!(m_in s (0:Int) (w64 (((p.2.1).length:Int)-(1:Int)))))) (K (Qam false)) (zif (((Qj p s).1)==(1:Int)) (((decide (s>(0:Int)))=true→((0:Int)≤w64 (s-(1:Int))∧Int.toNat (w64 (s-(1:Int)))<(p.2.2.1).length))∧K (Qam ((decide (s>(0:Int)))&&(decide ((((gtd Qw p.2.2.1 (Int.toNat (w64 (s-(1:Int))))).2).length:Int)>(0:Int)))))) (zif (((Qj p s).1)==(3:Int)) (((decide (s<(w64 (((p.2.1).length:Int)-(1:Int)))))=true→(((0:Int)≤s∧Int.toNat s<(p.2.2.1).length)∧((0:Int)≤s∧Int.toNat s<(p.2.2.1).length)))∧K (Qam ((decide (s<(w64 (((p.2.1).length:Int)-(1:Int)))))&&(decide ((((gtd Qw p.2.2.1 (Int.toNat s)).2).length:Int)<((gtd Qw p.2.2.1 (Int.toNat s)).1)))))) (zif (((Qj p s).1)==(4:Int)) (((decide (s<(w64 (((p.2.1).length:Int)-(1:Int)))))=true→((0:Int)≤s∧Int.toNat s<(p.2.2.2).length))∧K (Qam ((decide (s<(w64 (((p.2.1).length:Int)-(1:Int)))))&&(decide ((((gtd Qw p.2.2.2 (Int.toNat s)).2).length:Int)>(0:Int)))))) (zif (((Qj p s).1)==(7:Int)) (((decide (s>(0:Int)))=true→(((0:Int)≤w64 (s-(1:Int))∧Int.toNat (w64 (s-(1:Int)))<(p.2.2.2).length)∧((0:Int)≤w64 (s-(1:Int))∧Int.toNat (w64 (s-(1:Int)))<(p.2.2.2).length)))∧K (Qam ((decide (s>(0:Int)))&&(decide ((((gtd Qw p.2.2.2 (Int.toNat (w64 (s-(1:Int))))).2).length:Int)<((gtd Qw p.2.2.2 (Int.toNat (w64 (s-(1:Int))))).1)))))) (zif (((Qj p s).1)==(2:Int)) (Qe0 K p s (((Qj p s).1)==(2:Int))) (zif (((Qj p s).1)==(5:Int)) (Qe0 K p s (((Qj p s).1)==(5:Int))) (Qe0 K p s (((Qj p s).1)==(6:Int))))))))))):Hold (tawp Qor (0+0) QJ6 (TQ 0 0 Qtw K) (Qi [(.a (Tup.cells QE p)),(.c TI s)])) :=
 Hold.of (by kernel_rfl) h
theorem QUX (p:Qe) (s:Int):TCon Tryz.prog 95 [(.a (Tup.cells QE p)),(.c TI s)] (Qam (ZV p s)):=by
 refine Qo rfl fun hb=>tcg (n:=108) (sg:=Qkx.sg) Qm (TOk.cons QMk (TOk.cons Y5 (TOk.cons QBA (TOk.cons QRd TOk.nil)))) (by kernel_rfl) (by kernel_rfl) (QEs _ p s ?_)
 have hl_p_0:(p.1).length≤9223372036854775807:=hb.1.1.1
 have hl_p_1:(p.2.1).length≤9223372036854775807:=hb.1.2.1.1
 have hl_p_2:(p.2.2.1).length≤9223372036854775807:=hb.1.2.2.1.1
 have hl_p_3:(p.2.2.2).length≤9223372036854775807:=hb.1.2.2.2.1.1
 by_cases h0:(Zk p&&m_in s 0 (p.2.1.length-1))=true
 rotate_left
 ·have e1:w64 ((p.2.1.length:Int)-1)=p.2.1.length-1:=Qp (by omega) (by omega)
  rw [e1]
  refine ⟨fun h=>R_eq (by grind [ZV]),fun h=>by grind⟩
 have h00:=h0
 simp only [Bool.and_eq_true,QP] at h00
 have hp2:=h00.1
 simp only [Zk,Bool.and_eq_true,QP,beq_iff_eq] at hp2
 have e1:w64 ((p.2.1.length:Int)-1)=p.2.1.length-1:=Qp (by omega) (by omega)
 have e2:w64 (s-1)=s-1:=Qp (by omega) (by omega)
 rw [e1,e2]
 have e4:Int.toNat (s-1)=s.toNat-1:=by omega
 rw [e4]
 have hM:(ZV p s)=JI p s (Qj p s).1:=by unfold ZV;rw [h0,Bool.true_and]
 have k2:∀ b:Bool,(b=true→JI p s (Qj p s).1=true)→(b=false→JI p s (Qj p s).1=if (Qj p s).1=8 then J6 p else false)→Qe0 (fun r'=>r'=Qam (ZV p s)) p s b:=by
  intro b hb1 hb2
  refine (QJZ (fun r'=>r'=Qam (ZV p s)) p s _ ⟨fun h=>R_eq ?_,fun h=>⟨fun h8=>R_eq ?_,fun h8=>R_eq ?_⟩⟩).h
  ·rw [hM,hb1 h]
  ·rw [hM,hb2 h,if_pos (by simpa using h8)]
  ·rw [hM,hb2 h,if_neg (by simpa using h8)]
 generalize (Qj p s).1=kd at *
 refine ⟨fun h=>by grind,fun _=>⟨fun h1=>⟨fun h=>by simp at h;omega,R_eq ?_⟩,fun h1=>⟨fun h2=>⟨fun h=>by simp at h;omega,R_eq ?_⟩,fun h2=>⟨fun h3=>⟨fun h=>by simp at h;omega,R_eq ?_⟩,fun h3=>⟨fun h4=>⟨fun h=>by simp at h;omega,R_eq ?_⟩,fun h4=>⟨fun h5=>k2 _ ?_ ?_,fun h5=>⟨fun h6=>k2 _ ?_ ?_,fun h6=>k2 _ ?_ ?_⟩⟩⟩⟩⟩⟩⟩
 all_goals (try rw [hM]);simp only [JI,QaR] at *;grind
theorem QG6:Ql Tryz.prog Qkx:=Qn fun x _=>QUX x.1 x.2.1
def Ji (t:Bool):TRes:=zre (zcb t)
def Qo1:TRow:=Qk 34 [(.a QE),(.c TI)] fun x=>(none,Ji (ZV x.1 x.2.1))
def QfH:List TRow:=[QoV,Qhs,Qo7]
def Qtb:TCode :=
 (zsq [(.reg [zbi 94 .lss 93 92]),(.cond 94 .skip (.exit 1)),(.block 2 (zsq [(.reg [zia 95 91 93 Qg,zLd 96 95 14,zop 7 (.new 63 (z0s Qg)),zst 7 96 14]),(.reg [zfa 97 7 0,zld 98 97 1,zfa 99 7 1,zld 100 99 1,zle 101 100,zbi 102 .sub 101 (zki 1),zbi 103 .lss 98 102]),(.cond 103 (zsq [(.reg [zmv 4 (zkb false)]),.ret]) .skip)])),(.reg [zbi 104 .add 93 (zki 1),zmv 93 104])])
def QBs:List (Nat × Md):=zdl [91,92,93]
def QDU:TCode :=
 (zsq [(.reg [zmv 4 (zkb true)]),.ret])
def Qys:TCode :=
 (.cond 84 (zsq [(.reg [zmv 4 (zkb true)]),.ret]) (zsq [(.reg [zbi 89 .eql 31 (zki 8),zmv 88 89]),(.cond 88 (zsq [(zsq [(.reg [zfa 90 2 1,zld 91 90 1,zle 92 91,zmv 93 (zki 0)]),(.block 1 (.loop QBs Qtb))]),QDU]) .skip)]))
def QSC:List (Nat × Md):=[(2,.b (zds 4)),(31,.one .d),(84,.one .d)]
def QNF:TCode:=.wk QSC Qys
def QsJ:TCode :=
 (zsq [(.reg [zmv 4 (zkb false)]),.ret])
def QJ9:TCode :=
 (zsq [(.reg [zop 2 (.box 37 0 4),zmv 4 (zkb false)]),(zsq [(.reg [zLd 8 2 4,zca 9 58 [8],zno 10 9,zmv 11 10,.grp 11 false [zmv 12 1,zbi 13 .lss 12 (zki 0)] 14 13,zmv 15 14,.grp 15 false [zmv 16 1,zfa 17 2 1,zld 18 17 1,zle 19 18,zbi 20 .geq 16 19] 21 20]),(.cond 21 (zsq [(.reg [zmv 4 (zkb false)]),.ret]) .skip)]),(.reg [zmv 22 1,zfa 23 2 1,zld 24 23 1,zle 25 24,zbi 26 .sub 25 (zki 1),zbi 27 .lss 22 26,zmv 5 27]),(zsq [(.reg [zLd 28 2 4,zmv 29 1,zca 30 96 [28,29],zop 31 (.fld 30 0 1 false)]),(.block 0 (zsq [(.reg [zbi 33 .eql 31 (zki 1),zmv 32 33]),(.cond 32 (zsq [(.reg [zmv 34 1,zbi 35 .gtr 34 (zki 0),zmv 36 35,.grp 36 true [zfa 37 2 2,zld 38 37 1,zmv 39 1,zbi 40 .sub 39 (zki 1),zia 41 38 40 Qh,zfa 42 41 1,zld 43 42 1,zle 44 43,zbi 45 .gtr 44 (zki 0)] 46 45,zmv 4 46]),.ret]) (zsq [(.reg [zbi 48 .eql 31 (zki 3),zmv 47 48]),(.cond 47 (zsq [(.reg [zmv 49 5,zmv 50 49,.grp 50 true [zfa 51 2 2,zld 52 51 1,zmv 53 1,zia 54 52 53 Qh,zLd 55 54 2,zca 56 99 [55]] 57 56,zmv 4 57]),.ret]) (zsq [(.reg [zbi 59 .eql 31 (zki 4),zmv 58 59]),(.cond 58 (zsq [(.reg [zmv 60 5,zmv 61 60,.grp 61 true [zfa 62 2 3,zld 63 62 1,zmv 64 1,zia 65 63 64 Qh,zfa 66 65 1,zld 67 66 1,zle 68 67,zbi 69 .gtr 68 (zki 0)] 70 69,zmv 4 70]),.ret]) (zsq [(.reg [zbi 72 .eql 31 (zki 7),zmv 71 72]),(.cond 71 (zsq [(.reg [zmv 73 1,zbi 74 .gtr 73 (zki 0),zmv 75 74,.grp 75 true [zfa 76 2 3,zld 77 76 1,zmv 78 1,zbi 79 .sub 78 (zki 1),zia 80 77 79 Qh,zLd 81 80 2,zca 82 99 [81]] 83 82,zmv 4 83]),.ret]) (zsq [(zsq [(.reg [zbi 85 .eql 31 (zki 2),zmv 84 85]),(.cond 84 .skip (zsq [(.reg [zbi 86 .eql 31 (zki 5),zmv 84 86]),(.cond 84 .skip (.reg [zbi 87 .eql 31 (zki 6),zmv 84 87]))]))]),QNF]))]))]))]))]))]),QsJ])
def Qxq:List (ARv × Md):=[(.t 4,.one .d)]
def QCG:Qb:=TQ 0 0 Qxq K
def QOy:Qb:=Qseq (tawp QfH 0 QsJ (QCG K)) (QCG K)
def Qpk:Qb:=Qblk 0 (QOy K)
def QGU:Qb:=Qseq (tawp QfH 0 QDU (Qpk K)) (Qpk K)
def QKx:Qb:=Qblk 1 (QGU K)
def QfZ (p:Qe) (x1:Int):Prop:=Loop QfH 0 QBs Qtb (QKx K) ⟨[(91,(zcs Qg p.2.1)),(92,(zci ((p.2.1).length:Int))),(93,(zci x1))],[],0⟩
@[irreducible] def Qgf (p:Qe) (s:Int) (x:Bool):Prop:=tawp QfH 0 Qys (Qpk K) ⟨[(2,(.p 0 0 0)),(31,(zci ((Qj p s).1))),(84,(zcb x))],[(0,(.box (Tup.cells QE p)))],1⟩
theorem Qwi (p:Qe) (x1:Int) (h :
 (zif (decide (x1<((p.2.1).length:Int))) (((0:Int)≤x1∧Int.toNat x1<(p.2.1).length)∧(zif (decide (((gtd QH p.2.1 (Int.toNat x1)).1)<(w64 ((((gtd QH p.2.1 (Int.toNat x1)).2.1).length:Int)-(1:Int))))) (K (Ji false)) (QfZ K p (w64 (x1+(1:Int)))))) (K (Ji true)))):QfZ K p x1 :=
 Loop.of (by kernel_rfl) h
theorem QH1 (p:Qe) (s:Int) (x:Bool) (h :
 (zif x (K (Ji true)) (zif (((Qj p s).1)==(8:Int)) (QfZ K p 0) (K (Ji false))))):Hold (Qgf K p s x) :=
 Hold.of (by kernel_rfl) h
theorem QJP (p:Qe) (s:Int) (h :
 (zif (((!(Zk p))||(decide (s<(0:Int))))||(decide (s≥((p.2.1).length:Int)))) (K (Ji false)) (zif (((Qj p s).1)==(1:Int)) (((decide (s>(0:Int)))=true→((0:Int)≤w64 (s-(1:Int))∧Int.toNat (w64 (s-(1:Int)))<(p.2.2.1).length))∧K (Ji ((decide (s>(0:Int)))&&(decide ((((gtd Qw p.2.2.1 (Int.toNat (w64 (s-(1:Int))))).2).length:Int)>(0:Int)))))) (zif (((Qj p s).1)==(3:Int)) (((decide (s<(w64 (((p.2.1).length:Int)-(1:Int)))))=true→((0:Int)≤s∧Int.toNat s<(p.2.2.1).length))∧K (Ji ((decide (s<(w64 (((p.2.1).length:Int)-(1:Int)))))&&(QaR (gtd Qw p.2.2.1 (Int.toNat s)))))) (zif (((Qj p s).1)==(4:Int)) (((decide (s<(w64 (((p.2.1).length:Int)-(1:Int)))))=true→((0:Int)≤s∧Int.toNat s<(p.2.2.2).length))∧K (Ji ((decide (s<(w64 (((p.2.1).length:Int)-(1:Int)))))&&(decide ((((gtd Qw p.2.2.2 (Int.toNat s)).2).length:Int)>(0:Int)))))) (zif (((Qj p s).1)==(7:Int)) (((decide (s>(0:Int)))=true→((0:Int)≤w64 (s-(1:Int))∧Int.toNat (w64 (s-(1:Int)))<(p.2.2.2).length))∧K (Ji ((decide (s>(0:Int)))&&(QaR (gtd Qw p.2.2.2 (Int.toNat (w64 (s-(1:Int))))))))) (zif (((Qj p s).1)==(2:Int)) (Qgf K p s (((Qj p s).1)==(2:Int))) (zif (((Qj p s).1)==(5:Int)) (Qgf K p s (((Qj p s).1)==(5:Int))) (Qgf K p s (((Qj p s).1)==(6:Int))))))))))):Hold (tawp QfH (0+0) QJ9 (TQ 0 0 Qxq K) (Qi [(.a (Tup.cells QE p)),(.c TI s)])) :=
 Hold.of (by kernel_rfl) h
theorem QEZ (p:Qe) (s:Int):TCon Tryz.prog 34 [(.a (Tup.cells QE p)),(.c TI s)] (Ji (ZV p s)):=by
 refine Qo rfl fun hb=>tcg (n:=105) (sg:=Qo1.sg) Qm (TOk.cons QRD (TOk.cons Qz2 (TOk.cons QN9 TOk.nil))) (by kernel_rfl) (by kernel_rfl) (QJP _ p s ?_)
 have hl_p_0:(p.1).length≤9223372036854775807:=hb.1.1.1
 have hl_p_1:(p.2.1).length≤9223372036854775807:=hb.1.2.1.1
 have hl_p_2:(p.2.2.1).length≤9223372036854775807:=hb.1.2.2.1.1
 have hl_p_3:(p.2.2.2).length≤9223372036854775807:=hb.1.2.2.2.1.1
 by_cases h0:(Zk p&&m_in s 0 (p.2.1.length-1))=true
 rotate_left
 ·refine ⟨fun h=>R_eq (by grind [ZV]),fun h=>by grind [m_in]⟩
 have h00:=h0
 simp only [Bool.and_eq_true,QP] at h00
 have hp2:=h00.1
 simp only [Zk,Bool.and_eq_true,QP,beq_iff_eq] at hp2
 have e1:w64 ((p.2.1.length:Int)-1)=p.2.1.length-1:=Qp (by omega) (by omega)
 have e2:w64 (s-1)=s-1:=Qp (by omega) (by omega)
 rw [e1,e2]
 have e4:Int.toNat (s-1)=s.toNat-1:=by omega
 rw [e4]
 have hM:(ZV p s)=JI p s (Qj p s).1:=by unfold ZV;rw [h0,Bool.true_and]
 have hall:JI p s (Qj p s).1=J6 p→QfZ (fun r'=>r'=Ji (ZV p s)) p ((0:Nat):Int):=by
  intro hm
  refine Zj p.2.1 (fun r k=>r.all Jw=p.2.1.all Jw→QfZ (fun r'=>r'=Ji (ZV p s)) p k) ?_ ?_ rfl
  ·intro he
   refine Qwi (fun r'=>r'=Ji (ZV p s)) p _ ⟨fun h=>by simp at h,fun _=>R_eq ?_⟩
   rw [hM,hm];exact he
  ·intro k x r hk hlt hg ih he
   have hmem:x∈p.2.1:=List.mem_of_mem_drop (i:=k) (by rw [hk];exact List.mem_cons_self)
   have hbx:x.2.1.length≤9223372036854775807:=(hb.1.2.1.2 x hmem).2.1.1
   refine Qwi (fun r'=>r'=Ji (ZV p s)) p _ ⟨fun _=>?_,fun h=>by simp at h;omega⟩
   rw [Int.toNat_natCast,hg,Qp (x:=(k:Int)+1) (by omega) (by omega),Qp (x:=(x.2.1.length:Int)-1) (by omega) (by omega)]
   rw [List.all_cons] at he
   refine ⟨⟨by omega,hlt⟩,fun h=>R_eq ?_,fun h=>ih ?_⟩
   ·have:Jw x=false:=by simp at h;simp [Jw];omega
    rw [this] at he
    rw [hM,hm];exact he
   ·have:Jw x=true:=by simp at h;simp [Jw];omega
    rw [this,Bool.true_and] at he
    exact he
 have k2:∀ b:Bool,(b=true→JI p s (Qj p s).1=true)→(b=false→JI p s (Qj p s).1=if (Qj p s).1=8 then J6 p else false)→Qgf (fun r'=>r'=Ji (ZV p s)) p s b:=by
  intro b hb1 hb2
  refine (QH1 (fun r'=>r'=Ji (ZV p s)) p s _ ⟨fun h=>R_eq ?_,fun h=>⟨fun h8=>hall ?_,fun h8=>R_eq ?_⟩⟩).h
  ·rw [hM,hb1 h]
  ·rw [hb2 h,if_pos (by simpa using h8)]
  ·rw [hM,hb2 h,if_neg (by simpa using h8)]
 clear hall
 generalize (Qj p s).1=kd at *
 refine ⟨fun h=>by grind [m_in],fun _=>⟨fun h1=>⟨fun h=>by simp at h;omega,R_eq ?_⟩,fun h1=>⟨fun h2=>⟨fun h=>by simp at h;omega,R_eq ?_⟩,fun h2=>⟨fun h3=>⟨fun h=>by simp at h;omega,R_eq ?_⟩,fun h3=>⟨fun h4=>⟨fun h=>by simp at h;omega,R_eq ?_⟩,fun h4=>⟨fun h5=>k2 _ ?_ ?_,fun h5=>⟨fun h6=>k2 _ ?_ ?_,fun h6=>k2 _ ?_ ?_⟩⟩⟩⟩⟩⟩⟩
 all_goals (try rw [hM]);simp only [JI,QaR] at *;grind
theorem QQc:Ql Tryz.prog Qo1:=Qn fun x _=>QEZ x.1 x.2.1
end
end Go.Proofs.YtjbdljkhbglnhaaGreat.Am

