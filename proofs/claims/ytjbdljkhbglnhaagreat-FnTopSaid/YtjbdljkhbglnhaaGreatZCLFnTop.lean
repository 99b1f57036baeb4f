/-
  Written by program: the code of functions, what it asks, and that it comes to what the models say.
-/
import Derived.Test.YtjbdljkhbglnhaaGreatZCD1
import Derived.Test.YtjbdljkhbglnhaaGreatZCD6
import Derived.Test.YtjbdljkhbglnhaaGreatZCPQ
import Derived.Test.YtjbdljkhbglnhaaGreatZCP7
import Derived.Test.YtjbdljkhbglnhaaGreatZCD7
import Derived.Test.YtjbdljkhbglnhaaGreatZCPR
import Derived.Test.YtjbdljkhbglnhaaGreatZCPM
import Derived.Test.YtjbdljkhbglnhaaGreatZCPK
import Derived.Test.YtjbdljkhbglnhaaGreatZCPB
import Derived.Test.YtjbdljkhbglnhaaGreatZCPS
import Derived.Test.YtjbdljkhbglnhaaGreatZCGE
namespace Go.Proofs.YtjbdljkhbglnhaaGreat.Am
open Go Go.RowKit Go.Proofs.YtjbdljkhbglnhaaGreat
set_option linter.all false
set_option maxHeartbeats 2000000
noncomputable section
variable (K:TRes→Prop)
def QfB (t:Bool):TRes:=zre (zcb t)
def QQE:TRow:=Qf 3 [(.c (.sl [(.int .u8)]))] fun x=>(none,QfB (QnR x.1))
def QXR:List TRow:=[Qo2,QkM,QgI,Qlz,QkY,Qpz,QkZ,Ql5,Qpc,Qql,Qfe,Qka,QmU,QlM]
def QKr:TCode :=
 (zsq [(.reg [zmv 2 (zkb false)]),(zsq [(.reg [zmv 9 0,zca 10 13 [9]]),(.cond 10 (zsq [(.reg [zmv 2 (zkb true)]),.ret]) .skip)]),(.reg [zmv 12 0,zca 13 14 [12],zmv 11 13,zex 14 11 0,zex 15 11 1,zop 3 (.new 30 (z0s QV)),zst 3 14 6,zmv 4 15]),(.reg [zLd 16 3 6,zmv 17 4,zca 18 15 [16,17],zop 5 (.new 37 (z0s QY)),zst 5 18 4]),(zsq [(.reg [zLd 19 3 6,zmv 20 4,zca 21 16 [19,20],zbi 22 .neq 21 (zki 0)]),(.cond 22 (zsq [(.reg [zfa 23 5 1,zld 24 23 1,zle 25 24,zbi 26 .eql 25 (zki 0),zmv 2 26]),.ret]) .skip)]),(.draw [zLd 27 5 4,zmv 28 0,zfa 29 5 1,zld 30 29 1,zle 31 30,zca 32 18 [28,31],zca 33 17 [27,32],zst 5 33 4] [(0,5)]),(.draw [zLd 34 5 4,zfa 35 5 1,zld 36 35 1,zle 37 36,zLd 38 3 6,zmv 39 4,zle 40 39,zca 41 20 [38,40],zbi 42 .mul 37 41,zca 43 19 [34,42],zst 5 43 4] [(0,7),(1,7),(2,7),(3,7)]),(.reg [zLd 45 3 6,zmv 46 4,zca 47 21 [45,46],zmv 44 47,zex 48 44 0,zex 49 44 1,zop 6 (.new 46 (z0s QK)),zst 6 48 3,zmv 7 49]),(.reg [zfa 50 3 0,zLd 51 50 1,zmv 52 4,zca 53 22 [51,52],zop 8 (.new 46 (z0s QK)),zst 8 53 3]),(.draw [zLd 54 5 4,zca 55 23 [54],zmv 56 55,.grp 56 true [zLd 57 5 4,zca 58 25 [57],zLd 59 8 3,zca 60 24 [58,59]] 61 60,zmv 62 61,.grp 62 true [zmv 63 7,zbi 64 .eql 63 (zki 0)] 65 64,zmv 66 65,.grp 66 true [zLd 67 6 3,zLd 68 8 3,zca 69 24 [67,68]] 70 69,zmv 71 70,.grp 71 true [zfa 72 3 0,zLd 73 72 1,zmv 74 4,zca 75 26 [73,74],zLd 76 8 3,zca 77 24 [75,76]] 78 77,zmv 2 78] [(4,5),(21,22)]),.ret])
def QSy:List (ARv × Md):=[(.t 2,.one .d)]
theorem QUz (code:List Int) (h :
 let z2:=Qig code
 let z4:=Zi (z2.1) (z2.2)
 let z1:=Jq z4 (Qe5 code ((z4.2.1).length:Int))
 let z3:=w64 (((z1.2.1).length:Int)*(Qaz (z2.1) ((z2.2).length:Int)))
 let z5:=Yu ((z2.1).1) (z2.2)
 (zif (Qgn code) (K (QfB true)) ((Qas code)∧(zif ((Zt (z2.1) (z2.2)) != (0:Int)) (K (QfB (((z4.2.1).length:Int)==(0:Int)))) ((QiC z4 (Qe5 code ((z4.2.1).length:Int)))∧((Qjj z1 z3)∧(((Ja (YW z1 z3))=true→(QjH (YW z1 z3)))∧K (QfB (((((Ja (YW z1 z3))&&(m_eq (α:=QG) (Jw (YW z1 z3)) z5))&&(((JH (z2.1) (z2.2)).2)==(0:Int)))&&(m_eq (α:=QG) ((JH (z2.1) (z2.2)).1) z5))&&(m_eq (α:=QG) z5 z5)))))))))):Hold (tawp QXR (0+0) QKr (TQ 0 0 QSy K) (Qd [(.c (.sl [(.int .u8)]) code)])) :=
 Hold.of (by kernel_rfl) h
theorem l_FnTop_h (code:List Int):TCon Tryz.prog 3 [(.c (.sl [(.int .u8)]) code)] (QfB (QnR code)):=by
 refine Qj rfl fun hb=>tcg (n:=79) (sg:=QQE.sg) Qg (TOk.cons QOx (TOk.cons QQa (TOk.cons Qxk (TOk.cons QOL (TOk.cons QIa (TOk.cons QRJ (TOk.cons QH2 (TOk.cons QOq (TOk.cons QEN (TOk.cons QHx (TOk.cons Qlf (TOk.cons QsC (TOk.cons QXh (TOk.cons QHb TOk.nil)))))))))))))) (by kernel_rfl) (by kernel_rfl) (QUz _ code ?_)
 have hl_code:code.length≤9223372036854775807:=hb.1.1
 conv=>zeta
 refine ⟨fun _=>R_eq rfl,fun hb=>?_⟩
 have hn:=QM2 hb
 obtain ⟨⟨c,b⟩,hr⟩:∃ r,Qig code=r:=⟨_,rfl⟩
 rw [hr]
 simp only
 refine ⟨hn,fun h=>R_eq ?_,fun h=>?_⟩
 ·rw [QWy (by simpa using h)];rfl
 have h0:Zt c b=0:=by simpa using h
 have A:=QhL h0
 generalize Qe5 code _=l
 have h1:=Qw9 c b
 have h2:=QKF (Zi c b) l
 have h3:=QTa (Jq (Zi c b) l) (w64 (((Jq (Zi c b) l).2.1.length:Int)*Qaz c b.length))
 rw [QU3 A l] at h3 ⊢
 obtain ⟨e1,e2,e3,e4⟩:=QTR A
 refine ⟨by unfold QiC;omega,by unfold Qjj;omega,fun _=>⟨by omega,e4⟩,R_eq ?_⟩
 rw [e1,e3]
 unfold JH
 rw [if_pos h0,h0]
 simp [m_eq,QnR]
end
end Go.Proofs.YtjbdljkhbglnhaaGreat.Am

