/-
  Written by program: the code of functions, what it asks, and that it comes to what the models say.
-/
import Derived.Test.YtjbdljkhbglnhaaGreatZAD1
import Derived.Test.YtjbdljkhbglnhaaGreatZAD6
import Derived.Test.YtjbdljkhbglnhaaGreatZAP7
import Derived.Test.YtjbdljkhbglnhaaGreatZAPQ
import Derived.Test.YtjbdljkhbglnhaaGreatZAPM
import Derived.Test.YtjbdljkhbglnhaaGreatZAPB
import Derived.Test.YtjbdljkhbglnhaaGreatZAPR
import Derived.Test.YtjbdljkhbglnhaaGreatZAPC
import Derived.Test.YtjbdljkhbglnhaaGreatZAGE
namespace Go.Proofs.YtjbdljkhbglnhaaGreat.Am
open Go Go.RowKit Go.Proofs.YtjbdljkhbglnhaaGreat
set_option linter.all false
set_option maxHeartbeats 2000000
noncomputable section
variable (K:TRes→Prop)
def QdV (t:Bool):TRes:=zre (zcb t)
def QOZ:TRow:=Qj 9 [(.c (.sl [(.int .u8)]))] fun x=>(none,QdV (Qn0 x.1))
def QMj:List TRow:=[QlN,Qkg,Qm0,QmU,Qjf,Qnt,QhJ,QmX,QkL,QkD,QjJ,Qla]
def QMk:TCode :=
 (zsq [(.reg [zmv 2 (zkb false)]),(zsq [(.reg [zmv 8 0,zca 9 13 [8]]),(.cond 9 (zsq [(.reg [zmv 2 (zkb true)]),.ret]) .skip)]),(.reg [zmv 11 0,zca 12 14 [11],zmv 10 12,zex 13 10 0,zex 14 10 1,zop 3 (.new 30 (z0s QU)),zst 3 13 6,zmv 4 14]),(zsq [(.reg [zLd 15 3 6,zmv 16 4,zca 17 16 [15,16],zbi 18 .neq 17 (zki 0)]),(.cond 18 (zsq [(.reg [zmv 2 (zkb true)]),.ret]) .skip)]),(.reg [zLd 19 3 6,zmv 20 4,zca 21 15 [19,20],zop 5 (.new 37 (z0s QQ)),zst 5 21 4]),(.reg [zLd 22 3 6,zmv 23 4,zle 24 23,zca 25 60 [22,24],zmv 6 25]),(zsq [(.reg [zmv 26 6,zLd 27 5 4,zca 28 36 [27],zbi 29 .neq 26 28,zmv 30 29,.grp 30 false [zmv 31 6,zLd 32 5 4,zca 33 39 [32],zbi 34 .neq 31 33] 35 34,zmv 36 35,.grp 36 false [zmv 37 6,zfa 38 5 1,zld 39 38 1,zle 40 39,zmv 41 4,zle 42 41,zbi 43 .mul (zki 7) 42,zbi 44 .add 43 (zki 1),zbi 45 .mul 40 44,zbi 46 .gtr 37 45] 47 46]),(.cond 47 (zsq [(.reg [zmv 2 (zkb false)]),.ret]) .skip)]),(.reg [zLd 48 5 4,zmv 49 6,zfa 50 5 1,zld 51 50 1,zle 52 51,zbi 53 .mul 49 52,zca 54 19 [48,53],zop 7 (.new 37 (z0s QQ)),zst 7 54 4]),(.draw [zLd 55 7 4,zca 56 23 [55],zmv 57 56,.grp 57 true [zLd 58 7 4,zca 59 36 [58],zbi 60 .eql 59 (zki 0)] 61 60,zmv 62 61,.grp 62 true [zLd 63 7 4,zca 64 61 [63],zbi 65 .eql 64 (zki 0)] 66 65,zmv 67 66,.grp 67 true [zLd 68 7 4,zca 69 62 [68],zbi 70 .eql 69 (zki 0)] 71 70,zmv 72 71,.grp 72 true [zLd 73 7 4,zca 74 63 [73],zfa 75 7 1,zld 76 75 1,zle 77 76,zbi 78 .eql 74 77] 79 78,zmv 2 79] [(19,20),(19,21),(19,22)]),.ret])
def QMB:List (ARv × Md):=[(.t 2,.one .d)]
theorem QDp (code:List Int) (h :
 let z2:=Qh0 code
 let z3:=Ys (z2.1) (z2.2)
 let z4:=Qab (z2.1) ((z2.2).length:Int)
 let z1:=Y6 z3 (w64 (z4*((z3.2.1).length:Int)))
 (zif (QeI code) (K (QdV true)) ((Qam code)∧(zif ((Zq (z2.1) (z2.2)) != (0:Int)) (K (QdV true)) ((QdS z3)∧(zif (((z4 != (Yq z3))||(z4 != (Yq z3)))||(decide (z4>(w64 (((z3.2.1).length:Int)*(w64 ((w64 ((7:Int)*((z2.2).length:Int)))+(1:Int)))))))) (K (QdV false)) ((QgQ z3 (w64 (z4*((z3.2.1).length:Int))))∧(((Qat z1)=true→(QdS z1))∧K (QdV (((((Qat z1)&&((Yq z1)==(0:Int)))&&((Ze z1)==(0:Int)))&&((Ze z1)==(0:Int)))&&((QaO z1)==((z1.2.1).length:Int)))))))))))):Hold (tawp QMj (0+0) QMk (TQ 0 0 QMB K) (Qf [(.c (.sl [(.int .u8)]) code)])) :=
 Hold.of (by kernel_rfl) h
theorem l_FnEnds_h (code:List Int):TCon Tryz.prog 9 [(.c (.sl [(.int .u8)]) code)] (QdV (Qn0 code)):=by
 refine Qq rfl fun hb=>tcg (n:=80) (sg:=QOZ.sg) Ql (TOk.cons QJI (TOk.cons QGx (TOk.cons QPp (TOk.cons QNU (TOk.cons QPe (TOk.cons QHP (TOk.cons QwA (TOk.cons QC0 (TOk.cons QDk (TOk.cons QN8 (TOk.cons QLm (TOk.cons QKb TOk.nil)))))))))))) (by kernel_rfl) (by kernel_rfl) (QDp _ code ?_)
 have hl_code:code.length≤9223372036854775807:=hb.1.1
 conv=>zeta
 refine ⟨fun _=>R_eq rfl,fun hb=>?_⟩
 have hn:=QAT hb
 obtain ⟨⟨c,b⟩,hr⟩:∃ r,Qh0 code=r:=⟨_,rfl⟩
 rw [hr]
 simp only
 refine ⟨hn,fun h=>R_eq rfl,fun h=>?_⟩
 have h0:Zq c b=0:=by simpa using h
 have A:=QkF h0
 have h1:=QRd c b
 have h3:=QK2 (Ys c b) (w64 (Qab c b.length*((Ys c b).2.1.length:Int)))
 have hlen:(QT c b (fun _=>0)).2.1.length=nSt c:=Qay _
 obtain ⟨t1,t2,t3⟩:=Qvx A
 obtain ⟨e1,e2,e3,e4⟩:=QBc A
 have hb5:=QEG A
 have hle:=QvY A (ks:=fun _=>0)
 have hnl:=Jk A
 have e5:=QE9 A
 have e6:=QFW A
 have e7:(QT c b (lenP c b)).2.1.length=nSt c:=Qay _
 have hm:((nSt c:Nat):Int)*(7*(b.length:Int)+1)=((nSt c*(7*b.length+1):Nat):Int):=by rw [Int.natCast_mul];rfl
 have hsm:nSt c*(7*b.length+1)≤4*36:=Nat.mul_le_mul hnl.2 (by omega)
 rw [QNI A] at h3 ⊢
 rw [QmR A,Ql5 A (QkI A),hlen,t1,Qp (x:=7*(b.length:Int)) (by omega) (by omega),Qp (x:=7*(b.length:Int)+1) (by omega) (by omega),hm,Qp (x:=((nSt c*(7*b.length+1):Nat):Int)) (by omega) (by omega)]
 refine ⟨Qwr A (QkI A),fun h=>?_,fun _=>⟨by unfold QgQ;rw [← QmR A];omega,fun _=>e4,R_eq ?_⟩⟩
 ·simp at h;omega
 ·rw [e1,e2,e5,e6,e7];simp [Qn0]
end
end Go.Proofs.YtjbdljkhbglnhaaGreat.Am

