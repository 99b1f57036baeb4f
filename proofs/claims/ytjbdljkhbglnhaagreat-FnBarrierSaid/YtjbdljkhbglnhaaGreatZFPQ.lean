/- -/
import Derived.Test.YtjbdljkhbglnhaaGreatZFP7
import Derived.Test.YtjbdljkhbglnhaaGreatZFPJ
import Derived.Test.YtjbdljkhbglnhaaGreatZFP5
import Derived.Test.YtjbdljkhbglnhaaGreatZFPL
import Derived.Test.YtjbdljkhbglnhaaGreatZFPP
import Derived.Test.YtjbdljkhbglnhaaGreatZFPO
import Derived.Test.YtjbdljkhbglnhaaGreatZFPA
import Derived.Test.YtjbdljkhbglnhaaGreatZFGD
namespace Go.Proofs.YtjbdljkhbglnhaaGreat.Am
open Go Go.RowKit Go.Proofs.YtjbdljkhbglnhaaGreat
set_option linter.all false
set_option maxHeartbeats 2000000
noncomputable section
variable (K:TRes→Prop)
def Qai (t:Qe):TRes:=zra (.a (Tup.cells QE t))
def Qr2:TRow:=Qh 15 [(.a Q0),(.c (.sl Qx))] fun x=>(none,Qai (Zy x.1 x.2.1))
def QfJ:List TRow:=[QoC,Qih,QeE,Qfa,Qn6,Qpj]
def QF3:TCode :=
 (zsq [(zsq [(.reg [zmv 23 7,zmv 24 6,zbi 25 .lss 23 24]),(.cond 25 .skip (.exit 0))]),(.block 1 (zsq [(.reg [zfa 29 2 0,zLd 30 29 1,zfa 31 2 1,zld 32 31 1,zmv 33 7,zca 34 71 [30,32,33],zmv 28 34,zex 35 28 0,zex 36 28 1,zmv 8 35,zmv 9 36]),(.draw [zfa 37 2 2,zld 38 37 1,zmv 39 6,zmv 40 7,zmv 41 1,zle 42 41,zfa 43 2 3,zld 44 43 1,zmv 45 7,zia 46 44 45 [.bool],zld 47 46 1,zca 48 72 [38,39,40,42,47],zmv 10 48] []),(.draw [zfa 49 5 1,zld 50 49 1,zfa 51 2 0,zfa 52 51 0,zld 53 52 1,zmv 54 8,zmv 55 9,zop 56 (.slc 53 (some 54) (some 55) ctOp),zmv 57 10,zmv 58 7,zmv 59 6,zbi 60 .sub 59 (zki 1),zbi 61 .eql 58 60,zfa 62 2 3,zld 63 62 1,zmv 64 7,zia 65 63 64 [.bool],zld 66 65 1,zca 67 73 [56,57,61,66],zop 68 (.bsl 63 Qi [67]),zop 69 (.app 50 68 63 Qi),zfa 70 5 1,zst 70 69 1] [(0,18),(1,18),(0,19),(1,19)])])),(.reg [zmv 26 7,zbi 27 .add 26 (zki 1),zmv 7 27])])
def Qts:List (Nat × Md):=[(1,.one .d),(2,.b (zds 6)),(4,.b (zds 4)),(5,.b [.d,.o 63,.o 97,.o 97]),(6,.one .d),(7,.one .d)]
def QvB:TCode :=
 (zsq [(.reg [zbi 75 .lss 74 73]),(.cond 75 .skip (.exit 2)),(.block 3 (zsq [(.reg [zia 76 72 74 [TI],zld 77 76 1,zmv 12 77]),(.reg [zfa 78 5 2,zld 79 78 1,zmv 80 12,zop 81 (.build (z0s Qm) [(0,1,80)]),zop 82 (.bsl 97 Qm [81]),zop 83 (.app 79 82 97 Qm),zfa 84 5 2,zst 84 83 1]),(.reg [zfa 85 5 3,zld 86 85 1,zmv 87 12,zop 88 (.build (z0s Qm) [(0,1,87)]),zop 89 (.bsl 97 Qm [88]),zop 90 (.app 86 89 97 Qm),zfa 91 5 3,zst 91 90 1])])),(.reg [zbi 92 .add 74 (zki 1),zmv 74 92])])
def Qw8:List (Nat × Md):=[(4,.b (zds 4)),(5,.b [.d,.f,.f,.f]),(72,.one .d),(73,.one .d),(74,.one .d)]
def Qz7:TCode :=
 (zsq [(.reg [zLd 93 5 4,zst 4 93 4]),.ret])
def QGY:TCode :=
 (zsq [(zsq [(.reg [zfa 71 2 4,zld 72 71 1,zle 73 72,zmv 74 (zki 0)]),(.block 2 (.loop Qw8 QvB))]),Qz7])
def Q1h:TCode :=
 (zsq [(.reg [zop 2 (.box 30 0 6),zop 4 (.new 37 (z0s QE))]),(zsq [(.reg [zLd 13 2 6,zmv 14 1,zca 15 56 [13,14],zbi 16 .neq 15 (zki 0)]),(.cond 16 (zsq [(.reg [zop 17 (.build (z0s QE) []),zst 4 17 4]),.ret]) .skip)]),(.reg [zmv 18 1,zca 19 70 [18],zop 20 (.build (z0s QE) [(0,1,19)]),zop 5 (.new 37 (z0s QE)),zst 5 20 4]),(.reg [zLd 21 2 6,zca 22 59 [21],zmv 6 22]),(zsq [(.reg [zmv 7 (zki 0)]),(.block 0 (.loop Qts QF3))]),QGY])
def QCs:List (ARv × Md):=[(.l 4 4 true,.b (zds 4))]
def Qio:Qb:=TQ 0 0 QCs K
def QIF:Qb:=Qseq (tawp QfJ 0 Qz7 (Qio K)) (Qio K)
def QRK:Qb:=Qblk 2 (QIF K)
def QfA (c:QC) (b:List Qp) (x:Int) (p11:List Qc) (p2:List Qd) (p3:List Qd):Prop:=Loop QfJ 0 Qw8 QvB (QRK K) ⟨[(4,(.p 0 0 0)),(5,(.p 4 0 0)),(72,(zcs [TI] c.2.2.2.2.1)),(73,(zci ((c.2.2.2.2.1).length:Int))),(74,(zci x))],[(0,(.box (Tup.cells QE ([],[],[],[])))),(1,(.sl 63 Qi true p11)),(2,(.sl 97 Qm true p2)),(3,(.sl 97 Qm true p3)),(4,(.box [(zcs Qx (id (α:=List Qp) b)),(.r Qi 1 0 p11.length),(.r Qm 2 0 p2.length),(.r Qm 3 0 p3.length)]))],5⟩
def QVC:Qb:=Qseq (tawp QfJ 0 QGY (Qio K)) (Qio K)
def Q0Q:Qb:=Qblk 0 (QVC K)
def QgK (c:QC) (b:List Qp) (s:Int) (p1:List Qc):Prop:=Loop QfJ 0 Qts QF3 (Q0Q K) ⟨[(1,(zcs Qx b)),(2,(.p 0 0 0)),(4,(.p 1 0 0)),(5,(.p 5 0 0)),(6,(zci (QR c))),(7,(zci s))],[(0,(.box (Tup.cells Q0 c))),(1,(.box (Tup.cells QE ([],[],[],[])))),(2,(.sl 63 Qi true p1)),(3,(.sl 97 Qm true ([]:List Qd))),(4,(.sl 97 Qm true ([]:List Qd))),(5,(.box [(zcs Qx (id (α:=List Qp) b)),(.r Qi 2 0 p1.length),(.r Qm 3 0 0),(.r Qm 4 0 0)]))],6⟩
theorem QHf (c:QC) (b:List Qp) (x:Int) (p11:List Qc) (p2:List Qd) (p3:List Qd) (h :
 (zif (decide (x<((c.2.2.2.2.1).length:Int))) (((0:Int)≤x∧Int.toNat x<(c.2.2.2.2.1).length)∧(((p2.length=p2.length∨p2.length+1≤p2.length)∧p2.length+1≤big)∧(((p3.length=p3.length∨p3.length+1≤p3.length)∧p3.length+1≤big)∧(QfA K c b (w64 (x+(1:Int))) (List.take p11.length p11) (List.take (p2.length+1) ((List.take p2.length p2)++([((gtd (0:Int) c.2.2.2.2.1 (Int.toNat x)),[])]))) (List.take (p3.length+1) ((List.take p3.length p3)++([((gtd (0:Int) c.2.2.2.2.1 (Int.toNat x)),[])]))))))) (K (Qai ((id (α:=List Qp) b),(List.take p11.length (List.drop 0 p11)),(List.take p2.length (List.drop 0 p2)),(List.take p3.length (List.drop 0 p3))))))):QfA K c b x p11 p2 p3 :=
 Loop.of (by kernel_rfl) h
theorem QxN (c:QC) (b:List Qp) (s:Int) (p1:List Qc) (h :
 let z2:=QK c.1 c.2.1 s
 let z3:=gtd (false:Bool) c.2.2.2.1 (Int.toNat s)
 let z1:=ZL c.2.2.1 (QR c) s (b.length:Int) z3
 let z4:=List.take (Int.toNat (z2.2)-Int.toNat (z2.1)) (List.drop (Int.toNat (z2.1)) c.1)
 (zif (decide (s<(QR c))) (((0:Int)≤s∧Int.toNat s<(c.2.2.2.1).length)∧((((0:Int)≤z2.1∧z2.1≤z2.2∧z2.2≤((c.1).length:Int))∧(((0:Int)≤s∧Int.toNat s<(c.2.2.2.1).length)∧((Qd3 z4 (List.take (z1.length) (List.drop 0 z1)) (s==(w64 ((QR c)-(1:Int)))) z3)∧((p1.length=p1.length∨p1.length+1≤p1.length)∧p1.length+1≤big))))∧(QgK K c b (w64 (s+(1:Int))) (List.take (p1.length+1) ((List.take p1.length p1)++([(JF z4 (List.take (z1.length) (List.drop 0 z1)) (s==(w64 ((QR c)-(1:Int)))) z3)])))))) (QfA K c b 0 (List.take p1.length p1) ([]:List Qd) ([]:List Qd)))):QgK K c b s p1 :=
 Loop.of (by kernel_rfl) h
theorem QPk (c:QC) (b:List Qp) (h :
 (zif ((ZB c b) != (0:Int)) (K (Qai ([],[],[],[]))) ((Qv (α:=List Qp) b)∧(QgK K c b 0 ([]:List Qc))))):Hold (tawp QfJ (0+0) Q1h (TQ 0 0 QCs K) (Qf [(.a (Tup.cells Q0 c)),(.c (.sl Qx) b)])) :=
 Hold.of (by kernel_rfl) h
theorem Q0D (c:QC) (b:List Qp):TCon Tryz.prog 15 [(.a (Tup.cells Q0 c)),(.c (.sl Qx) b)] (Qai (Zy c b)):=by
 refine Qo rfl fun hb=>tcg (n:=94) (sg:=Qr2.sg) Qj (TOk.cons QLH (TOk.cons Qyo (TOk.cons QjO (TOk.cons Qm9 (TOk.cons QP3 (TOk.cons QVv TOk.nil)))))) (by kernel_rfl) (by kernel_rfl) (QPk _ c b ?_)
 have hl_c_0:(c.1).length≤9223372036854775807:=hb.1.1.1
 have hl_c_1:(c.2.1).length≤9223372036854775807:=hb.1.2.1.1
 have hl_c_3:(c.2.2.2.1).length≤9223372036854775807:=hb.1.2.2.2.1.1
 have hl_c_4:(c.2.2.2.2.1).length≤9223372036854775807:=hb.1.2.2.2.2.1.1
 have hl_c_5:(c.2.2.2.2.2).length≤9223372036854775807:=hb.1.2.2.2.2.2.1.1
 have hl_b:b.length≤9223372036854775807:=hb.2.1.1
 refine ⟨fun h=>R_eq ?_,fun h=>?_⟩
 ·unfold Zy;rw [if_neg (by simpa using h)]
 have h0:ZB c b=0:=by simpa using h
 have A:=Qln h0
 have hn:=Qji A
 have hM:(Zy c b)=(b,Jy c (QR c) b.length (QR c).toNat,(JU c).map fun n=>(n,[]),(JU c).map fun n=>(n,[])):=by unfold Zy;rw [if_pos h0]
 have h5:=A.stages
 have h6:nSt c=(ZF c).length+1:=rfl
 have h7:c.2.2.2.1.length=(ZF c).length+1:=A.redo
 have h8:c.2.2.2.2.1.length=nSt c-1:=Qgt A
 have hbs:=QlV A.batch
 have hms:=QmE A.model
 refine ⟨by unfold Qv;omega,?_⟩
 have k4:∀ (ss:List Qc),ss=Jy c (QR c) b.length (QR c).toNat→QfA (fun r'=>r'=Qai (Zy c b)) c b ((0:Nat):Int) ss ([]) ([]):=by
  intro ss hss
  refine Zk c.2.2.2.2.1 (fun r k=>∀ v:List Qd,v.length=k→v++r.map (fun n=>((n,[]):Qd))=c.2.2.2.2.1.map (fun n=>((n,[]):Qd))→QfA (fun r'=>r'=Qai (Zy c b)) c b (k:Int) ss v v) ?_ ?_ [] rfl rfl
  ·intro v hv he
   refine QHf (fun r'=>r'=Qai (Zy c b)) c b _ _ _ _ ⟨fun h=>by simp at h,fun _=>R_eq ?_⟩
   rw [List.map_nil,List.append_nil] at he
   rw [hM,← hss]
   simp only [id,List.drop_zero,List.take_length,he]
  ·intro k x r hk hlt hg ih v hv he
   refine QHf (fun r'=>r'=Qai (Zy c b)) c b _ _ _ _ ⟨fun _=>?_,fun h=>by simp at h;omega⟩
   rw [Int.toNat_natCast,hg,sc1 (by omega),Q7,List.take_length]
   exact ⟨⟨by omega,hlt⟩,(by first | exact room (by omega) | (simp [Q1];omega)),(by first | exact room (by omega) | (simp [Q1];omega)),ih _ (by simp;omega) (by rw [← he];simp)⟩
 have key:QgK (fun r'=>r'=Qai (Zy c b)) c b ((0:Nat):Int) (Jy c (QR c) b.length 0):=by
  refine Y7 (nSt c) (fun k=>QgK (fun r'=>r'=Qai (Zy c b)) c b (k:Int) (Jy c (QR c) b.length k)) ?_ ?_
  ·refine QxN (fun r'=>r'=Qai (Zy c b)) c b _ _ ⟨fun h=>by rw [hn] at h;simp at h,fun _=>?_⟩
   rw [List.take_length]
   exact k4 _ (by rw [hn,Int.toNat_natCast])
  ·intro k hk ih
   refine QxN (fun r'=>r'=Qai (Zy c b)) c b _ _ ⟨fun _=>?_,fun h=>by rw [hn] at h;simp at h;omega⟩
   have hr:=Qdv c.1 c.2.1 (k:Int)
   have hpl:=Qpf c.2.2.1 (QR c) k b.length (gtd false c.2.2.2.1 k)
   have hss:=QjN c (QR c) b.length k
   have hsl:=YT (Jy c (QR c) b.length k)
   have e:((k:Int)==w64 (QR c-1))=decide ((k:Int)=QR c-1):=by
    rw [Qq (by omega) (by omega)];rfl
   rw [e,Int.toNat_natCast,Q7,sc1 (by omega)]
   simp only [List.drop_zero,List.take_length]
   refine ⟨⟨by omega,by omega⟩,⟨⟨hr.1,hr.2.1,hr.2.2.1⟩,⟨by omega,by omega⟩,⟨?_,by omega⟩,(by first | exact room (by omega) | (simp [Q1];omega))⟩,ih⟩
   refine Nat.le_trans (Nat.le_trans (QiK _ _) (Qph _ _)) ?_
   exact Nat.le_trans hms (by omega)
 exact key
theorem Q1r:Qg Tryz.prog Qr2:=Qk fun x _=>Q0D x.1 x.2.1
def QaA (t:Qe):TRes:=⟨(.a [(zcs Qx t.1),(.r Qi 0 0 ((t.2.1).length)),(.r Qm 1 0 ((t.2.2.1).length)),(zcs Qm t.2.2.2)]),[(.sl 63 Qi true t.2.1),(.sl 97 Qm true t.2.2.1)],[],true,[]⟩
def QnR:TRow:=Qh 28 [(.a Q0),(.c (.sl Qx))] fun x=>(none,QaA (Zy x.1 x.2.1))
def Qfh:List TRow:=[Qka,Qq4,QeC,QqE,Qpk]
def QDD:TCode :=
 (zsq [(zsq [(.reg [zmv 19 7,zmv 20 1,zle 21 20,zbi 22 .lss 19 21]),(.cond 22 .skip (.exit 0))]),(.block 1 (.draw [zfa 25 5 0,zld 26 25 1,zop 27 (.bsl 3 [TI] []),zmv 28 1,zmv 29 7,zia 30 28 29 Qx,zfa 31 30 0,zld 32 31 1,zop 33 (.app 27 32 3 [TI]),zop 34 (.bsl 3 [TI] []),zmv 35 1,zmv 36 7,zia 37 35 36 Qx,zfa 38 37 1,zld 39 38 1,zop 40 (.app 34 39 3 [TI]),zop 41 (.build (z0s Qx) [(0,1,33),(1,1,40)]),zop 42 (.bsl 108 Qx [41]),zop 43 (.app 26 42 108 Qx),zfa 44 5 0,zst 44 43 1] [(0,2),(1,2),(2,5),(2,6),(2,7),(0,8),(1,8),(0,9),(1,9),(2,9),(5,9),(6,9),(7,9),(8,9),(2,12),(8,12),(9,12),(2,13),(8,13),(9,13),(2,14),(8,14),(9,14),(0,15),(1,15),(0,17),(1,17)])),(.reg [zmv 23 7,zbi 24 .add 23 (zki 1),zmv 7 24])])
def QAu:List (Nat × Md):=[(1,.one .d),(2,.b (zds 6)),(4,.b (zds 4)),(5,.b [.o 108,.o 63,.o 97,.o 97]),(6,.one .d),(7,.one .d)]
def Qsw:TCode :=
 (zsq [(zsq [(.reg [zmv 45 8,zmv 46 6,zbi 47 .lss 45 46]),(.cond 47 .skip (.exit 2))]),(.block 3 (zsq [(.reg [zfa 51 2 0,zLd 52 51 1,zfa 53 2 1,zld 54 53 1,zmv 55 8,zca 56 93 [52,54,55],zmv 50 56,zex 57 50 0,zex 58 50 1,zmv 9 57,zmv 10 58]),(.draw [zfa 59 5 1,zld 60 59 1,zfa 61 2 0,zfa 62 61 0,zld 63 62 1,zmv 64 9,zmv 65 10,zop 66 (.slc 63 (some 64) (some 65) ctOp),zfa 67 2 2,zld 68 67 1,zmv 69 6,zmv 70 8,zmv 71 1,zle 72 71,zfa 73 2 3,zld 74 73 1,zmv 75 8,zia 76 74 75 [.bool],zld 77 76 1,zca 78 82 [68,69,70,72,77],zmv 79 8,zmv 80 6,zbi 81 .sub 80 (zki 1),zbi 82 .eql 79 81,zfa 83 2 3,zld 84 83 1,zmv 85 8,zia 86 84 85 [.bool],zld 87 86 1,zca 88 94 [66,78,82,87],zop 89 (.bsl 63 Qi [88]),zop 90 (.app 60 89 63 Qi),zfa 91 5 1,zst 91 90 1] [(0,19),(1,19),(2,19),(3,19),(4,19),(7,19),(19,24),(19,25),(19,27),(19,28),(0,29),(1,29),(0,30),(1,30)]),(.reg [zmv 92 8,zbi 93 .gtr 92 (zki 0)]),(.cond 93 (zsq [(.draw [zfa 94 5 2,zld 95 94 1,zfa 96 2 4,zld 97 96 1,zmv 98 8,zbi 99 .sub 98 (zki 1),zia 100 97 99 [TI],zld 101 100 1,zop 102 (.build (z0s Qm) [(0,1,101)]),zop 103 (.bsl 97 Qm [102]),zop 104 (.app 95 103 97 Qm),zfa 105 5 2,zst 105 104 1] [(0,9),(1,9)]),(.draw [zfa 106 5 3,zld 107 106 1,zfa 108 2 4,zld 109 108 1,zmv 110 8,zbi 111 .sub 110 (zki 1),zia 112 109 111 [TI],zld 113 112 1,zop 114 (.build (z0s Qm) [(0,1,113)]),zop 115 (.bsl 97 Qm [114]),zop 116 (.app 107 115 97 Qm),zfa 117 5 3,zst 117 116 1] [(0,9),(1,9)])]) .skip)])),(.reg [zmv 48 8,zbi 49 .add 48 (zki 1),zmv 8 49])])
def Qtj:List (Nat × Md):=[(1,.one .d),(2,.b (zds 6)),(4,.b (zds 4)),(5,.b [.f,.f,.f,.f]),(6,.one .d),(8,.one .d)]
def QsK:TCode :=
 (zsq [(.reg [zLd 118 5 4,zst 4 118 4]),.ret])
def QA1:TCode :=
 (zsq [(zsq [(.reg [zmv 8 (zki 0)]),(.block 2 (.loop Qtj Qsw))]),QsK])
def QVZ:TCode :=
 (zsq [(.reg [zop 2 (.box 30 0 6),zop 4 (.new 37 (z0s QE))]),(.reg [zop 11 (.build (z0s QE) []),zop 5 (.new 37 (z0s QE)),zst 5 11 4]),(zsq [(.reg [zLd 12 2 6,zmv 13 1,zca 14 16 [12,13],zbi 15 .neq 14 (zki 0)]),(.cond 15 (zsq [(.reg [zLd 16 5 4,zst 4 16 4]),.ret]) .skip)]),(.reg [zLd 17 2 6,zca 18 81 [17],zmv 6 18]),(zsq [(.reg [zmv 7 (zki 0)]),(.block 0 (.loop QAu QDD))]),QA1])
def QvT:List (ARv × Md):=[(.l 4 4 true,.b [.d,.o 63,.o 97,.d])]
def Qir:Qb:=TQ 0 0 QvT K
def QIr:Qb:=Qseq (tawp Qfh 0 QsK (Qir K)) (Qir K)
def QW8:Qb:=Qblk 2 (QIr K)
def Qer (c:QC) (b:List Qp) (s:Int) (p01:List Qp) (p1:List Qc) (p2:List Qd) (p3:List Qd):Prop:=Loop Qfh 0 Qtj Qsw (QW8 K) ⟨[(1,(zcs Qx b)),(2,(.p 0 0 0)),(4,(.p 1 0 0)),(5,(.p 6 0 0)),(6,(zci (QR c))),(8,(zci s))],[(0,(.box (Tup.cells Q0 c))),(1,(.box (Tup.cells QE ([],[],[],[])))),(2,(.sl 108 Qx true p01)),(3,(.sl 63 Qi true p1)),(4,(.sl 97 Qm true p2)),(5,(.sl 97 Qm true p3)),(6,(.box [(.r Qx 2 0 p01.length),(.r Qi 3 0 p1.length),(.r Qm 4 0 p2.length),(.r Qm 5 0 p3.length)]))],7⟩
def QZz:Qb:=Qseq (tawp Qfh 0 QA1 (Qir K)) (Qir K)
def QH4:Qb:=Qblk 0 (QZz K)
def Qkz (c:QC) (b:List Qp) (i:Int) (p0:List Qp):Prop:=Loop Qfh 0 QAu QDD (QH4 K) ⟨[(1,(zcs Qx b)),(2,(.p 0 0 0)),(4,(.p 1 0 0)),(5,(.p 6 0 0)),(6,(zci (QR c))),(7,(zci i))],[(0,(.box (Tup.cells Q0 c))),(1,(.box (Tup.cells QE ([],[],[],[])))),(2,(.sl 108 Qx true p0)),(3,(.sl 63 Qi true ([]:List Qc))),(4,(.sl 97 Qm true ([]:List Qd))),(5,(.sl 97 Qm true ([]:List Qd))),(6,(.box [(.r Qx 2 0 p0.length),(.r Qi 3 0 0),(.r Qm 4 0 0),(.r Qm 5 0 0)]))],7⟩
theorem QyV (c:QC) (b:List Qp) (s:Int) (p01:List Qp) (p1:List Qc) (p2:List Qd) (p3:List Qd) (h :
 let z3:=QK c.1 c.2.1 s
 let z4:=gtd (false:Bool) c.2.2.2.1 (Int.toNat s)
 let z2:=ZL c.2.2.1 (QR c) s (b.length:Int) z4
 let z5:=List.take (Int.toNat (z3.2)-Int.toNat (z3.1)) (List.drop (Int.toNat (z3.1)) c.1)
 let z1:=JF z5 (List.take (z2.length) (List.drop 0 z2)) (s==(w64 ((QR c)-(1:Int)))) z4
 let z6:=gtd (0:Int) c.2.2.2.2.1 (Int.toNat (w64 (s-(1:Int))))
 let z7:=List.take p1.length p1
 let z8:=List.take p2.length p2
 (zif (decide (s<(QR c))) ((((0:Int)≤z3.1∧z3.1≤z3.2∧z3.2≤((c.1).length:Int))∧(((0:Int)≤s∧Int.toNat s<(c.2.2.2.1).length)∧(((0:Int)≤s∧Int.toNat s<(c.2.2.2.1).length)∧((Qd3 z5 (List.take (z2.length) (List.drop 0 z2)) (s==(w64 ((QR c)-(1:Int)))) z4)∧((p1.length=p1.length∨p1.length+1≤p1.length)∧p1.length+1≤big)))))∧(zif (decide (s>(0:Int))) ((((0:Int)≤w64 (s-(1:Int))∧Int.toNat (w64 (s-(1:Int)))<(c.2.2.2.2.1).length)∧((p2.length=p2.length∨p2.length+1≤p2.length)∧p2.length+1≤big))∧((((0:Int)≤w64 (s-(1:Int))∧Int.toNat (w64 (s-(1:Int)))<(c.2.2.2.2.1).length)∧((p3.length=p3.length∨p3.length+1≤p3.length)∧p3.length+1≤big))∧(Qer K c b (w64 (s+(1:Int))) (List.take p01.length p01) (List.take (p1.length+1) (z7++([z1]))) (List.take (p2.length+1) (z8++([(z6,[])]))) (List.take (p3.length+1) ((List.take p3.length p3)++([(z6,[])])))))) (Qer K c b (w64 (s+(1:Int))) (List.take p01.length p01) (List.take (p1.length+1) (z7++([z1]))) z8 (List.take p3.length p3)))) (K (QaA ((List.take p01.length (List.drop 0 p01)),z7,z8,(List.take p3.length (List.drop 0 p3))))))):Qer K c b s p01 p1 p2 p3 :=
 Loop.of (by kernel_rfl) h
theorem QAd (c:QC) (b:List Qp) (i:Int) (p0:List Qp) (h :
 (zif (decide (i<(b.length:Int))) ((((0:Int)≤i∧Int.toNat i<b.length)∧(((0=0∨0+((gtd QY b (Int.toNat i)).1).length≤0)∧0+((gtd QY b (Int.toNat i)).1).length≤big)∧(((0:Int)≤i∧Int.toNat i<b.length)∧(((0=0∨0+((gtd QY b (Int.toNat i)).2).length≤0)∧0+((gtd QY b (Int.toNat i)).2).length≤big)∧((p0.length=p0.length∨p0.length+1≤p0.length)∧p0.length+1≤big)))))∧(Qkz K c b (w64 (i+(1:Int))) (List.take (p0.length+1) ((List.take p0.length p0)++([((List.take (0+((gtd QY b (Int.toNat i)).1).length) (List.drop 0 ((gtd QY b (Int.toNat i)).1))),(List.take (0+((gtd QY b (Int.toNat i)).2).length) (List.drop 0 ((gtd QY b (Int.toNat i)).2))))]))))) (Qer K c b 0 (List.take p0.length p0) ([]:List Qc) ([]:List Qd) ([]:List Qd)))):Qkz K c b i p0 :=
 Loop.of (by kernel_rfl) h
theorem QPG (c:QC) (b:List Qp) (h :
 (zif ((ZB c b) != (0:Int)) (K (QaA ([],([]:List Qc),([]:List Qd),[]))) (Qkz K c b 0 ([]:List Qp)))):Hold (tawp Qfh (0+0) QVZ (TQ 0 0 QvT K) (Qf [(.a (Tup.cells Q0 c)),(.c (.sl Qx) b)])) :=
 Hold.of (by kernel_rfl) h
theorem QUN (c:QC) (b:List Qp):TCon Tryz.prog 28 [(.a (Tup.cells Q0 c)),(.c (.sl Qx) b)] (QaA (Zy c b)):=by
 refine Qo rfl fun hb=>tcg (n:=119) (sg:=QnR.sg) Qj (TOk.cons QAv (TOk.cons Q2U (TOk.cons Qke (TOk.cons QUJ (TOk.cons QIp TOk.nil))))) (by kernel_rfl) (by kernel_rfl) (QPG _ c b ?_)
 have hl_c_0:(c.1).length≤9223372036854775807:=hb.1.1.1
 have hl_c_1:(c.2.1).length≤9223372036854775807:=hb.1.2.1.1
 have hl_c_3:(c.2.2.2.1).length≤9223372036854775807:=hb.1.2.2.2.1.1
 have hl_c_4:(c.2.2.2.2.1).length≤9223372036854775807:=hb.1.2.2.2.2.1.1
 have hl_c_5:(c.2.2.2.2.2).length≤9223372036854775807:=hb.1.2.2.2.2.2.1.1
 have hl_b:b.length≤9223372036854775807:=hb.2.1.1
 refine ⟨fun h=>R_eq ?_,fun h=>?_⟩
 ·unfold Zy;rw [if_neg (by simpa using h)]
 have h0:ZB c b=0:=by simpa using h
 have A:=Qln h0
 have hn:=Qji A
 have hM:(Zy c b)=(b,Jy c (QR c) b.length (QR c).toNat,(JU c).map fun n=>(n,[]),(JU c).map fun n=>(n,[])):=by unfold Zy;rw [if_pos h0]
 have h5:=A.stages
 have h6:nSt c=(ZF c).length+1:=rfl
 have h7:c.2.2.2.1.length=(ZF c).length+1:=A.redo
 have h8:c.2.2.2.2.1.length=nSt c-1:=Qgt A
 have hbs:=QlV A.batch
 have hbl:=YT b
 have hms:=QmE A.model
 have k4:Qer (fun r'=>r'=QaA (Zy c b)) c b ((0:Nat):Int) b (Jy c (QR c) b.length 0) ((c.2.2.2.2.1.take (0-1)).map fun n=>((n,[]):Qd)) ((c.2.2.2.2.1.take (0-1)).map fun n=>((n,[]):Qd)):=by
  refine Y7 (nSt c) (fun k=>Qer (fun r'=>r'=QaA (Zy c b)) c b (k:Int) b (Jy c (QR c) b.length k) ((c.2.2.2.2.1.take (k-1)).map fun n=>((n,[]):Qd)) ((c.2.2.2.2.1.take (k-1)).map fun n=>((n,[]):Qd))) ?_ ?_
  ·refine QyV (fun r'=>r'=QaA (Zy c b)) c b _ _ _ _ _ ⟨fun h=>by rw [hn] at h;simp at h,fun _=>R_eq ?_⟩
   simp only [List.drop_zero,List.take_length]
   rw [hM,List.take_of_length_le (by omega),hn,Int.toNat_natCast]
  ·intro k hk ih
   refine QyV (fun r'=>r'=QaA (Zy c b)) c b _ _ _ _ _ ⟨fun _=>?_,fun h=>by rw [hn] at h;simp at h;omega⟩
   have hr:=Qdv c.1 c.2.1 (k:Int)
   have hpl:=Qpf c.2.2.1 (QR c) k b.length (gtd false c.2.2.2.1 k)
   have hss:=QjN c (QR c) b.length k
   have hsl:=YT (Jy c (QR c) b.length k)
   have hql:((c.2.2.2.2.1.take (k-1)).map fun n=>((n,[]):Qd)).length≤4:=by simp;omega
   have e:((k:Int)==w64 (QR c-1))=decide ((k:Int)=QR c-1):=by
    rw [Qq (by omega) (by omega)];rfl
   rw [e,Int.toNat_natCast,Q7,sc1 (by omega)]
   simp only [List.drop_zero,List.take_length]
   refine ⟨⟨⟨hr.1,hr.2.1,hr.2.2.1⟩,⟨by omega,by omega⟩,⟨by omega,by omega⟩,⟨?_,by omega⟩,(by first | exact room (by omega) | (simp [Q1];omega))⟩,fun hk0=>?_,fun hk0=>?_⟩
   ·refine Nat.le_trans (Nat.le_trans (QiK _ _) (Qph _ _)) ?_
    exact Nat.le_trans hms (by omega)
   ·simp at hk0
    have e2:w64 ((k:Int)-1)=((k-1:Nat):Int):=by rw [Qq (by omega) (by omega)];omega
    have e3:(c.2.2.2.2.1.take (k+1-1)).map (fun n=>((n,[]):Qd))=(c.2.2.2.2.1.take (k-1)).map (fun n=>((n,[]):Qd))++[(gtd 0 c.2.2.2.2.1 (k-1),[])]:=by
     rw [show k+1-1=(k-1)+1 by omega,List.take_add_one,Y4 (show k-1<c.2.2.2.2.1.length by omega) 0]
     simp
    rw [e3] at ih
    rw [e2,Int.toNat_natCast]
    refine ⟨⟨⟨by omega,by omega⟩,by simp [Q1];omega⟩,⟨⟨by omega,by omega⟩,by simp [Q1];omega⟩,?_⟩
    have e4:∀ x:Qd,List.take (((c.2.2.2.2.1.take (k-1)).map fun n=>((n,[]):Qd)).length+1) (((c.2.2.2.2.1.take (k-1)).map fun n=>((n,[]):Qd))++[x])=((c.2.2.2.2.1.take (k-1)).map fun n=>((n,[]):Qd))++[x]:=fun x=>List.take_of_length_le (by simp)
    rw [e4]
    exact ih
   ·have:k=0:=by simpa using hk0
    subst this
    exact ih
 refine Zk b (fun r k=>∀ v:List Qp,v.length=k→v++r=b→Qkz (fun r'=>r'=QaA (Zy c b)) c b (k:Int) v) ?_ ?_ [] rfl rfl
 ·intro v hv he
  rw [List.append_nil] at he
  refine QAd (fun r'=>r'=QaA (Zy c b)) c b _ _ ⟨fun h=>by simp at h,fun _=>?_⟩
  rw [List.take_length,he]
  exact k4
 ·intro k x r hk hlt hg ih v hv he
  have hx:=QgL hk
  simp only [ZU] at hx
  have h1:=ZW x.1
  have h2:=ZW x.2
  refine QAd (fun r'=>r'=QaA (Zy c b)) c b _ _ ⟨fun _=>?_,fun h=>by simp at h;omega⟩
  rw [Int.toNat_natCast,hg,sc1 (by omega),Q7,Qcu,Qcu]
  exact ⟨⟨⟨by omega,hlt⟩,⟨.inl rfl,by rw [Q1];omega⟩,⟨by omega,hlt⟩,⟨.inl rfl,by rw [Q1];omega⟩,(by first | exact room (by omega) | (simp [Q1];omega))⟩,ih _ (by simp;omega) (by rw [← he];simp)⟩
theorem QIM:Qg Tryz.prog QnR:=Qk fun x _=>QUN x.1 x.2.1
def Jq (t:Qe):TRes:=⟨(.a [(zcs Qx t.1),(.r Qi 0 0 ((t.2.1).length)),(.r Qm 1 0 ((t.2.2.1).length)),(.r Qm 2 0 ((t.2.2.2).length))]),[(.sl 63 Qi true t.2.1),(.sl 97 Qm true t.2.2.1),(.sl 97 Qm true t.2.2.2)],[],true,[]⟩
def QkW:TRow:=Qh 79 [(.a QE)] fun x=>(some (Qv (α:=Qe) x.1),Jq (id (α:=Qe) x.1))
def QdE:List TRow:=[Qih,QeD,Qgs]
def Qz1:TCode :=
 (zsq [(.reg [zbi 18 .lss 17 16]),(.cond 18 .skip (.exit 0)),(.block 1 (zsq [(.reg [zia 19 15 17 Qi,zLd 20 19 14,zop 5 (.new 63 (z0s Qi)),zst 5 20 14]),(.draw [zfa 21 3 1,zld 22 21 1,zLd 23 5 14,zca 24 111 [23],zop 25 (.bsl 63 Qi [24]),zop 26 (.app 22 25 63 Qi),zfa 27 3 1,zst 27 26 1] [(0,3),(1,3),(0,4),(1,4)])])),(.reg [zbi 28 .add 17 (zki 1),zmv 17 28])])
def QDT:List (Nat × Md):=[(1,.b (zds 4)),(2,.b (zds 4)),(3,.b [.d,.o 63,.o 97,.o 97]),(15,.one .d),(16,.one .d),(17,.one .d)]
def QEF:TCode :=
 (zsq [(.reg [zbi 33 .lss 32 31]),(.cond 33 .skip (.exit 2)),(.block 3 (zsq [(.reg [zia 34 30 32 Qm,zLd 35 34 2,zop 7 (.new 97 (z0s Qm)),zst 7 35 2]),(.draw [zfa 36 3 2,zld 37 36 1,zLd 38 7 2,zca 39 157 [38],zop 40 (.bsl 97 Qm [39]),zop 41 (.app 37 40 97 Qm),zfa 42 3 2,zst 42 41 1] [(0,3),(1,3),(0,4),(1,4)])])),(.reg [zbi 43 .add 32 (zki 1),zmv 32 43])])
def QDG:List (Nat × Md):=[(1,.b (zds 4)),(2,.b (zds 4)),(3,.b [.d,.f,.f,.f]),(30,.one .d),(31,.one .d),(32,.one .d)]
def Qtu:TCode :=
 (zsq [(.reg [zbi 48 .lss 47 46]),(.cond 48 .skip (.exit 4)),(.block 5 (zsq [(.reg [zia 49 45 47 Qm,zLd 50 49 2,zop 9 (.new 97 (z0s Qm)),zst 9 50 2]),(.draw [zfa 51 3 3,zld 52 51 1,zLd 53 9 2,zca 54 157 [53],zop 55 (.bsl 97 Qm [54]),zop 56 (.app 52 55 97 Qm),zfa 57 3 3,zst 57 56 1] [(0,3),(1,3),(0,4),(1,4)])])),(.reg [zbi 58 .add 47 (zki 1),zmv 47 58])])
def QGf:List (Nat × Md):=[(2,.b (zds 4)),(3,.b [.d,.f,.f,.f]),(45,.one .d),(46,.one .d),(47,.one .d)]
def QBl:TCode :=
 (zsq [(.reg [zLd 59 3 4,zst 2 59 4]),.ret])
def QwJ:TCode :=
 (zsq [(zsq [(.reg [zfa 44 1 3,zld 45 44 1,zle 46 45,zmv 47 (zki 0)]),(.block 4 (.loop QGf Qtu))]),QBl])
def Qxt:TCode :=
 (zsq [(zsq [(.reg [zfa 29 1 2,zld 30 29 1,zle 31 30,zmv 32 (zki 0)]),(.block 2 (.loop QDG QEF))]),QwJ])
def Q0S:TCode :=
 (zsq [(.reg [zop 1 (.box 37 0 4),zop 2 (.new 37 (z0s QE))]),(.reg [zfa 10 1 0,zld 11 10 1,zca 12 70 [11],zop 13 (.build (z0s QE) [(0,1,12)]),zop 3 (.new 37 (z0s QE)),zst 3 13 4]),(zsq [(.reg [zfa 14 1 1,zld 15 14 1,zle 16 15,zmv 17 (zki 0)]),(.block 0 (.loop QDT Qz1))]),Qxt])
def Qxd:List (ARv × Md):=[(.l 2 4 true,.b [.d,.o 63,.o 97,.o 97])]
def Qec:Qb:=TQ 0 0 Qxd K
def QIO:Qb:=Qseq (tawp QdE 0 QBl (Qec K)) (Qec K)
def QLX:Qb:=Qblk 4 (QIO K)
def Qfd (p:Qe) (x2:Int) (q12:List Qc) (q21:List Qd) (q3:List Qd):Prop:=Loop QdE 0 QGf Qtu (QLX K) ⟨[(2,(.p 0 0 0)),(3,(.p 4 0 0)),(45,(zcs Qm p.2.2.2)),(46,(zci ((p.2.2.2).length:Int))),(47,(zci x2))],[(0,(.box (Tup.cells QE ([],[],[],[])))),(1,(.sl 63 Qi true q12)),(2,(.sl 97 Qm true q21)),(3,(.sl 97 Qm true q3)),(4,(.box [(zcs Qx (id (α:=List Qp) p.1)),(.r Qi 1 0 q12.length),(.r Qm 2 0 q21.length),(.r Qm 3 0 q3.length)]))],5⟩
def QV2:Qb:=Qseq (tawp QdE 0 QwJ (Qec K)) (Qec K)
def QLV:Qb:=Qblk 2 (QV2 K)
def QgA (p:Qe) (x1:Int) (q11:List Qc) (q2:List Qd):Prop:=Loop QdE 0 QDG QEF (QLV K) ⟨[(1,(.p 0 0 0)),(2,(.p 1 0 0)),(3,(.p 5 0 0)),(30,(zcs Qm p.2.2.1)),(31,(zci ((p.2.2.1).length:Int))),(32,(zci x1))],[(0,(.box (Tup.cells QE p))),(1,(.box (Tup.cells QE ([],[],[],[])))),(2,(.sl 63 Qi true q11)),(3,(.sl 97 Qm true q2)),(4,(.sl 97 Qm true ([]:List Qd))),(5,(.box [(zcs Qx (id (α:=List Qp) p.1)),(.r Qi 2 0 q11.length),(.r Qm 3 0 q2.length),(.r Qm 4 0 0)]))],6⟩
def QKJ:Qb:=Qseq (tawp QdE 0 Qxt (Qec K)) (Qec K)
def QWJ:Qb:=Qblk 0 (QKJ K)
def Qi9 (p:Qe) (x:Int) (q1:List Qc):Prop:=Loop QdE 0 QDT Qz1 (QWJ K) ⟨[(1,(.p 0 0 0)),(2,(.p 1 0 0)),(3,(.p 5 0 0)),(15,(zcs Qi p.2.1)),(16,(zci ((p.2.1).length:Int))),(17,(zci x))],[(0,(.box (Tup.cells QE p))),(1,(.box (Tup.cells QE ([],[],[],[])))),(2,(.sl 63 Qi true q1)),(3,(.sl 97 Qm true ([]:List Qd))),(4,(.sl 97 Qm true ([]:List Qd))),(5,(.box [(zcs Qx (id (α:=List Qp) p.1)),(.r Qi 2 0 q1.length),(.r Qm 3 0 0),(.r Qm 4 0 0)]))],6⟩
theorem QEY (p:Qe) (x2:Int) (q12:List Qc) (q21:List Qd) (q3:List Qd) (h :
 (zif (decide (x2<((p.2.2.2).length:Int))) (((0:Int)≤x2∧Int.toNat x2<(p.2.2.2).length)∧(((Qv (α:=Qd) (gtd Qw p.2.2.2 (Int.toNat x2)))∧((q3.length=q3.length∨q3.length+1≤q3.length)∧q3.length+1≤big))∧(Qfd K p (w64 (x2+(1:Int))) (List.take q12.length q12) (List.take q21.length q21) (List.take (q3.length+1) ((List.take q3.length q3)++([((id (α:=Qd) (gtd Qw p.2.2.2 (Int.toNat x2))).1,(List.take (((id (α:=Qd) (gtd Qw p.2.2.2 (Int.toNat x2))).2).length) (List.drop 0 ((id (α:=Qd) (gtd Qw p.2.2.2 (Int.toNat x2))).2))))])))))) (K (Jq ((id (α:=List Qp) p.1),(List.take q12.length q12),(List.take q21.length q21),(List.take q3.length q3)))))):Qfd K p x2 q12 q21 q3 :=
 Loop.of (by kernel_rfl) h
theorem QBe (p:Qe) (x1:Int) (q11:List Qc) (q2:List Qd) (h :
 (zif (decide (x1<((p.2.2.1).length:Int))) (((0:Int)≤x1∧Int.toNat x1<(p.2.2.1).length)∧(((Qv (α:=Qd) (gtd Qw p.2.2.1 (Int.toNat x1)))∧((q2.length=q2.length∨q2.length+1≤q2.length)∧q2.length+1≤big))∧(QgA K p (w64 (x1+(1:Int))) (List.take q11.length q11) (List.take (q2.length+1) ((List.take q2.length q2)++([((id (α:=Qd) (gtd Qw p.2.2.1 (Int.toNat x1))).1,(List.take (((id (α:=Qd) (gtd Qw p.2.2.1 (Int.toNat x1))).2).length) (List.drop 0 ((id (α:=Qd) (gtd Qw p.2.2.1 (Int.toNat x1))).2))))])))))) (Qfd K p 0 (List.take q11.length q11) (List.take q2.length q2) ([]:List Qd)))):QgA K p x1 q11 q2 :=
 Loop.of (by kernel_rfl) h
theorem QE2 (p:Qe) (x:Int) (q1:List Qc) (h :
 let z1:=id (α:=Qc) (gtd QM p.2.1 (Int.toNat x))
 (zif (decide (x<((p.2.1).length:Int))) (((0:Int)≤x∧Int.toNat x<(p.2.1).length)∧(((Qv (α:=Qc) (gtd QM p.2.1 (Int.toNat x)))∧((q1.length=q1.length∨q1.length+1≤q1.length)∧q1.length+1≤big))∧(Qi9 K p (w64 (x+(1:Int))) (List.take (q1.length+1) ((List.take q1.length q1)++([(z1.1,z1.2.1,z1.2.2.1,z1.2.2.2.1,z1.2.2.2.2.1,(List.take ((z1.2.2.2.2.2.1).length) (List.drop 0 (z1.2.2.2.2.2.1))),z1.2.2.2.2.2.2.1,z1.2.2.2.2.2.2.2.1,z1.2.2.2.2.2.2.2.2.1,z1.2.2.2.2.2.2.2.2.2.1,z1.2.2.2.2.2.2.2.2.2.2.1,z1.2.2.2.2.2.2.2.2.2.2.2.1,z1.2.2.2.2.2.2.2.2.2.2.2.2.1,z1.2.2.2.2.2.2.2.2.2.2.2.2.2)])))))) (QgA K p 0 (List.take q1.length q1) ([]:List Qd)))):Qi9 K p x q1 :=
 Loop.of (by kernel_rfl) h
theorem QUS (p:Qe) (h :
 ((Qv (α:=List Qp) p.1)∧(Qi9 K p 0 ([]:List Qc)))):Hold (tawp QdE (0+0) Q0S (TQ 0 0 Qxd K) (Qf [(.a (Tup.cells QE p))])) :=
 Hold.of (by kernel_rfl) h
theorem QPx (p:Qe) (hp:Qv (α:=Qe) p):TCon Tryz.prog 79 [(.a (Tup.cells QE p))] (Jq (id (α:=Qe) p)):=by
 refine Qo rfl fun hb=>tcg (n:=60) (sg:=QkW.sg) Qj (TOk.cons Qyo (TOk.cons Qhx (TOk.cons Qp3 TOk.nil))) (by kernel_rfl) (by kernel_rfl) (QUS _ p ?_)
 have hl_p_0:(p.1).length≤9223372036854775807:=hb.1.1.1
 have hl_p_1:(p.2.1).length≤9223372036854775807:=hb.1.2.1.1
 have hl_p_2:(p.2.2.1).length≤9223372036854775807:=hb.1.2.2.1.1
 have hl_p_3:(p.2.2.2).length≤9223372036854775807:=hb.1.2.2.2.1.1
 have hp':Sz.sz p≤2147483648:=hp
 have hs:Sz.sz p=Sz.sz p.1+Sz.sz p.2.1+Sz.sz p.2.2.1+Sz.sz p.2.2.2:=Qch p
 have k6:Qfd (fun r'=>r'=Jq (id (α:=Qe) p)) p 0 p.2.1 p.2.2.1 ([]):=by
  refine Jx (l:=p.2.2.2) (A:=fun i v=>Qfd (fun r'=>r'=Jq (id (α:=Qe) p)) p i p.2.1 p.2.2.1 v) (Q:=fun z=>Jq (p.1,p.2.1,p.2.2.1,z)=Jq (id (α:=Qe) p)) (by omega) (fun k x v hk hl hg hv hx ih=>?_) (fun hq=>?_) (R_eq rfl)
  ·refine QEY (fun r'=>r'=Jq (id (α:=Qe) p)) p _ _ _ _ ⟨fun _=>?_,fun h=>by simp at h;omega⟩
   rw [Int.toNat_natCast,hg,sc1 (by omega),Q7]
   simp only [id,List.drop_zero,List.take_length]
   exact ⟨⟨by omega,hk⟩,⟨by unfold Qv;omega,(by first | exact room (by omega) | (simp [Q1];omega))⟩,ih⟩
  ·refine QEY (fun r'=>r'=Jq (id (α:=Qe) p)) p _ _ _ _ ⟨fun h=>by simp at h,fun _=>?_⟩
   simp only [id,List.drop_zero,List.take_length]
   first | done | exact hq | trivial
 have k4:QgA (fun r'=>r'=Jq (id (α:=Qe) p)) p 0 p.2.1 ([]):=by
  refine Jx (l:=p.2.2.1) (A:=fun i v=>QgA (fun r'=>r'=Jq (id (α:=Qe) p)) p i p.2.1 v) (Q:=fun z=>z=p.2.2.1) (by omega) (fun k x v hk hl hg hv hx ih=>?_) (fun hq=>?_) rfl
  ·refine QBe (fun r'=>r'=Jq (id (α:=Qe) p)) p _ _ _ ⟨fun _=>?_,fun h=>by simp at h;omega⟩
   rw [Int.toNat_natCast,hg,sc1 (by omega),Q7]
   simp only [id,List.drop_zero,List.take_length]
   exact ⟨⟨by omega,hk⟩,⟨by unfold Qv;omega,(by first | exact room (by omega) | (simp [Q1];omega))⟩,ih⟩
  ·refine QBe (fun r'=>r'=Jq (id (α:=Qe) p)) p _ _ _ ⟨fun h=>by simp at h,fun _=>?_⟩
   simp only [id,List.drop_zero,List.take_length]
   exact k6
 refine ⟨by unfold Qv;omega,?_⟩
 refine Jx (l:=p.2.1) (A:=fun i v=>Qi9 (fun r'=>r'=Jq (id (α:=Qe) p)) p i v) (Q:=fun z=>z=p.2.1) (by omega) (fun k x v hk hl hg hv hx ih=>?_) (fun hq=>?_) rfl
 ·refine QE2 (fun r'=>r'=Jq (id (α:=Qe) p)) p _ _ ⟨fun _=>?_,fun h=>by simp at h;omega⟩
  rw [Int.toNat_natCast,hg,sc1 (by omega),Q7]
  simp only [id,List.drop_zero,List.take_length]
  exact ⟨⟨by omega,hk⟩,⟨by unfold Qv;omega,(by first | exact room (by omega) | (simp [Q1];omega))⟩,ih⟩
 ·refine QE2 (fun r'=>r'=Jq (id (α:=Qe) p)) p _ _ ⟨fun h=>by simp at h,fun _=>?_⟩
  simp only [id,List.drop_zero,List.take_length]
  exact k4
theorem QGa:Qg Tryz.prog QkW:=Qk fun x h=>QPx x.1 h
def Y3 (t:Qe):TRes:=⟨(.a [(zcs Qx t.1),(.r Qi 0 0 ((t.2.1).length)),(.r Qm 1 0 ((t.2.2.1).length)),(.r Qm 2 0 ((t.2.2.2).length))]),[(.sl 63 Qi true t.2.1),(.sl 97 Qm true t.2.2.1),(.sl 97 Qm true t.2.2.2)],[],true,[]⟩
def QjT:TRow:=Qh 91 [(.a QE)] fun x=>(some (Qv (α:=Qe) x.1),Y3 (id (α:=Qe) x.1))
def QbI:List TRow:=[QeB,QfW]
def QDO:TCode :=
 (zsq [(zsq [(.reg [zmv 9 4,zfa 10 1 0,zld 11 10 1,zle 12 11,zbi 13 .lss 9 12]),(.cond 13 .skip (.exit 0))]),(.block 1 (.draw [zfa 16 3 0,zld 17 16 1,zop 18 (.bsl 3 [TI] []),zfa 19 1 0,zld 20 19 1,zmv 21 4,zia 22 20 21 Qx,zfa 23 22 0,zld 24 23 1,zop 25 (.app 18 24 3 [TI]),zop 26 (.bsl 3 [TI] []),zfa 27 1 0,zld 28 27 1,zmv 29 4,zia 30 28 29 Qx,zfa 31 30 1,zld 32 31 1,zop 33 (.app 26 32 3 [TI]),zop 34 (.build (z0s Qx) [(0,1,25),(1,1,33)]),zop 35 (.bsl 108 Qx [34]),zop 36 (.app 17 35 108 Qx),zfa 37 3 0,zst 37 36 1] [(0,2),(1,2),(2,3),(2,4),(2,6),(2,7),(2,8),(0,9),(1,9),(0,10),(1,10),(2,10),(3,10),(4,10),(6,10),(7,10),(8,10),(9,10),(2,11),(9,11),(10,11),(2,12),(9,12),(10,12),(2,14),(9,14),(10,14),(2,15),(9,15),(10,15),(2,16),(9,16),(10,16),(0,17),(1,17),(0,19),(1,19)])),(.reg [zmv 14 4,zbi 15 .add 14 (zki 1),zmv 4 15])])
def Qsa:List (Nat × Md):=[(1,.b (zds 4)),(2,.b (zds 4)),(3,.b [.o 108,.o 63,.o 97,.o 97]),(4,.one .d)]
def Quf:TCode :=
 (zsq [(zsq [(.reg [zmv 38 5,zfa 39 1 1,zld 40 39 1,zle 41 40,zbi 42 .lss 38 41]),(.cond 42 .skip (.exit 2))]),(.block 3 (.draw [zfa 45 3 1,zld 46 45 1,zfa 47 1 1,zld 48 47 1,zmv 49 5,zia 50 48 49 Qi,zLd 51 50 14,zca 52 168 [51],zop 53 (.bsl 63 Qi [52]),zop 54 (.app 46 53 63 Qi),zfa 55 3 1,zst 55 54 1] [(0,7),(1,7),(0,8),(1,8)])),(.reg [zmv 43 5,zbi 44 .add 43 (zki 1),zmv 5 44])])
def Qw0:List (Nat × Md):=[(1,.b (zds 4)),(2,.b (zds 4)),(3,.b [.f,.f,.f,.f]),(5,.one .d)]
def QCL:TCode :=
 (zsq [(zsq [(.reg [zmv 56 6,zfa 57 1 2,zld 58 57 1,zle 59 58,zbi 60 .lss 56 59]),(.cond 60 .skip (.exit 4))]),(.block 5 (.draw [zfa 63 3 2,zld 64 63 1,zfa 65 1 2,zld 66 65 1,zmv 67 6,zia 68 66 67 Qm,zLd 69 68 2,zca 70 169 [69],zop 71 (.bsl 97 Qm [70]),zop 72 (.app 64 71 97 Qm),zfa 73 3 2,zst 73 72 1] [(0,7),(1,7),(0,8),(1,8)])),(.reg [zmv 61 6,zbi 62 .add 61 (zki 1),zmv 6 62])])
def QFY:List (Nat × Md):=[(1,.b (zds 4)),(2,.b (zds 4)),(3,.b [.f,.f,.f,.f]),(6,.one .d)]
def QDZ:TCode :=
 (zsq [(zsq [(.reg [zmv 74 7,zfa 75 1 3,zld 76 75 1,zle 77 76,zbi 78 .lss 74 77]),(.cond 78 .skip (.exit 6))]),(.block 7 (.draw [zfa 81 3 3,zld 82 81 1,zfa 83 1 3,zld 84 83 1,zmv 85 7,zia 86 84 85 Qm,zLd 87 86 2,zca 88 169 [87],zop 89 (.bsl 97 Qm [88]),zop 90 (.app 82 89 97 Qm),zfa 91 3 3,zst 91 90 1] [(0,7),(1,7),(0,8),(1,8)])),(.reg [zmv 79 7,zbi 80 .add 79 (zki 1),zmv 7 80])])
def QDR:List (Nat × Md):=[(1,.b (zds 4)),(2,.b (zds 4)),(3,.b [.f,.f,.f,.f]),(7,.one .d)]
def QFR:TCode :=
 (zsq [(.reg [zLd 92 3 4,zst 2 92 4]),.ret])
def Qvq:TCode :=
 (zsq [(zsq [(.reg [zmv 7 (zki 0)]),(.block 6 (.loop QDR QDZ))]),QFR])
def QAs:TCode :=
 (zsq [(zsq [(.reg [zmv 6 (zki 0)]),(.block 4 (.loop QFY QCL))]),Qvq])
def QuB:TCode :=
 (zsq [(zsq [(.reg [zmv 5 (zki 0)]),(.block 2 (.loop Qw0 Quf))]),QAs])
def QQz:TCode :=
 (zsq [(.reg [zop 1 (.box 37 0 4),zop 2 (.new 37 (z0s QE))]),(.reg [zop 8 (.build (z0s QE) []),zop 3 (.new 37 (z0s QE)),zst 3 8 4]),(zsq [(.reg [zmv 4 (zki 0)]),(.block 0 (.loop Qsa QDO))]),QuB])
def Qtt:List (ARv × Md):=[(.l 2 4 true,.b [.d,.o 63,.o 97,.o 97])]
def QbL:Qb:=TQ 0 0 Qtt K
def QRX:Qb:=Qseq (tawp QbI 0 QFR (QbL K)) (QbL K)
def QVH:Qb:=Qblk 6 (QRX K)
def QgV (p:Qe) (i3:Int) (x03:List Qp) (x12:List Qc) (x21:List Qd) (x3:List Qd):Prop:=Loop QbI 0 QDR QDZ (QVH K) ⟨[(1,(.p 0 0 0)),(2,(.p 1 0 0)),(3,(.p 6 0 0)),(7,(zci i3))],[(0,(.box (Tup.cells QE p))),(1,(.box (Tup.cells QE ([],[],[],[])))),(2,(.sl 108 Qx true x03)),(3,(.sl 63 Qi true x12)),(4,(.sl 97 Qm true x21)),(5,(.sl 97 Qm true x3)),(6,(.box [(.r Qx 2 0 x03.length),(.r Qi 3 0 x12.length),(.r Qm 4 0 x21.length),(.r Qm 5 0 x3.length)]))],7⟩
def QJW:Qb:=Qseq (tawp QbI 0 Qvq (QbL K)) (QbL K)
def QQT:Qb:=Qblk 4 (QJW K)
def QfI (p:Qe) (i2:Int) (x02:List Qp) (x11:List Qc) (x2:List Qd):Prop:=Loop QbI 0 QFY QCL (QQT K) ⟨[(1,(.p 0 0 0)),(2,(.p 1 0 0)),(3,(.p 6 0 0)),(6,(zci i2))],[(0,(.box (Tup.cells QE p))),(1,(.box (Tup.cells QE ([],[],[],[])))),(2,(.sl 108 Qx true x02)),(3,(.sl 63 Qi true x11)),(4,(.sl 97 Qm true x2)),(5,(.sl 97 Qm true ([]:List Qd))),(6,(.box [(.r Qx 2 0 x02.length),(.r Qi 3 0 x11.length),(.r Qm 4 0 x2.length),(.r Qm 5 0 0)]))],7⟩
def QWM:Qb:=Qseq (tawp QbI 0 QAs (QbL K)) (QbL K)
def QSf:Qb:=Qblk 2 (QWM K)
def QfV (p:Qe) (i1:Int) (x01:List Qp) (x1:List Qc):Prop:=Loop QbI 0 Qw0 Quf (QSf K) ⟨[(1,(.p 0 0 0)),(2,(.p 1 0 0)),(3,(.p 6 0 0)),(5,(zci i1))],[(0,(.box (Tup.cells QE p))),(1,(.box (Tup.cells QE ([],[],[],[])))),(2,(.sl 108 Qx true x01)),(3,(.sl 63 Qi true x1)),(4,(.sl 97 Qm true ([]:List Qd))),(5,(.sl 97 Qm true ([]:List Qd))),(6,(.box [(.r Qx 2 0 x01.length),(.r Qi 3 0 x1.length),(.r Qm 4 0 0),(.r Qm 5 0 0)]))],7⟩
def QLU:Qb:=Qseq (tawp QbI 0 QuB (QbL K)) (QbL K)
def QRC:Qb:=Qblk 0 (QLU K)
def QkC (p:Qe) (i:Int) (x0:List Qp):Prop:=Loop QbI 0 Qsa QDO (QRC K) ⟨[(1,(.p 0 0 0)),(2,(.p 1 0 0)),(3,(.p 6 0 0)),(4,(zci i))],[(0,(.box (Tup.cells QE p))),(1,(.box (Tup.cells QE ([],[],[],[])))),(2,(.sl 108 Qx true x0)),(3,(.sl 63 Qi true ([]:List Qc))),(4,(.sl 97 Qm true ([]:List Qd))),(5,(.sl 97 Qm true ([]:List Qd))),(6,(.box [(.r Qx 2 0 x0.length),(.r Qi 3 0 0),(.r Qm 4 0 0),(.r Qm 5 0 0)]))],7⟩
theorem Qzd (p:Qe) (i3:Int) (x03:List Qp) (x12:List Qc) (x21:List Qd) (x3:List Qd) (h :
 (zif (decide (i3<((p.2.2.2).length:Int))) ((((0:Int)≤i3∧Int.toNat i3<(p.2.2.2).length)∧((Qv (α:=Qd) (gtd Qw p.2.2.2 (Int.toNat i3)))∧((x3.length=x3.length∨x3.length+1≤x3.length)∧x3.length+1≤big)))∧(QgV K p (w64 (i3+(1:Int))) (List.take x03.length x03) (List.take x12.length x12) (List.take x21.length x21) (List.take (x3.length+1) ((List.take x3.length x3)++([((id (α:=Qd) (gtd Qw p.2.2.2 (Int.toNat i3))).1,(List.take (((id (α:=Qd) (gtd Qw p.2.2.2 (Int.toNat i3))).2).length) (List.drop 0 ((id (α:=Qd) (gtd Qw p.2.2.2 (Int.toNat i3))).2))))]))))) (K (Y3 ((List.take x03.length (List.drop 0 x03)),(List.take x12.length x12),(List.take x21.length x21),(List.take x3.length x3)))))):QgV K p i3 x03 x12 x21 x3 :=
 Loop.of (by kernel_rfl) h
theorem QDC (p:Qe) (i2:Int) (x02:List Qp) (x11:List Qc) (x2:List Qd) (h :
 (zif (decide (i2<((p.2.2.1).length:Int))) ((((0:Int)≤i2∧Int.toNat i2<(p.2.2.1).length)∧((Qv (α:=Qd) (gtd Qw p.2.2.1 (Int.toNat i2)))∧((x2.length=x2.length∨x2.length+1≤x2.length)∧x2.length+1≤big)))∧(QfI K p (w64 (i2+(1:Int))) (List.take x02.length x02) (List.take x11.length x11) (List.take (x2.length+1) ((List.take x2.length x2)++([((id (α:=Qd) (gtd Qw p.2.2.1 (Int.toNat i2))).1,(List.take (((id (α:=Qd) (gtd Qw p.2.2.1 (Int.toNat i2))).2).length) (List.drop 0 ((id (α:=Qd) (gtd Qw p.2.2.1 (Int.toNat i2))).2))))]))))) (QgV K p 0 (List.take x02.length x02) (List.take x11.length x11) (List.take x2.length x2) ([]:List Qd)))):QfI K p i2 x02 x11 x2 :=
 Loop.of (by kernel_rfl) h
theorem QBk (p:Qe) (i1:Int) (x01:List Qp) (x1:List Qc) (h :
 let z1:=id (α:=Qc) (gtd QM p.2.1 (Int.toNat i1))
 (zif (decide (i1<((p.2.1).length:Int))) ((((0:Int)≤i1∧Int.toNat i1<(p.2.1).length)∧((Qv (α:=Qc) (gtd QM p.2.1 (Int.toNat i1)))∧((x1.length=x1.length∨x1.length+1≤x1.length)∧x1.length+1≤big)))∧(QfV K p (w64 (i1+(1:Int))) (List.take x01.length x01) (List.take (x1.length+1) ((List.take x1.length x1)++([(z1.1,z1.2.1,z1.2.2.1,z1.2.2.2.1,z1.2.2.2.2.1,(List.take ((z1.2.2.2.2.2.1).length) (List.drop 0 (z1.2.2.2.2.2.1))),z1.2.2.2.2.2.2.1,z1.2.2.2.2.2.2.2.1,z1.2.2.2.2.2.2.2.2.1,z1.2.2.2.2.2.2.2.2.2.1,z1.2.2.2.2.2.2.2.2.2.2.1,z1.2.2.2.2.2.2.2.2.2.2.2.1,z1.2.2.2.2.2.2.2.2.2.2.2.2.1,z1.2.2.2.2.2.2.2.2.2.2.2.2.2)]))))) (QfI K p 0 (List.take x01.length x01) (List.take x1.length x1) ([]:List Qd)))):QfV K p i1 x01 x1 :=
 Loop.of (by kernel_rfl) h
theorem QEQ (p:Qe) (i:Int) (x0:List Qp) (h :
 (zif (decide (i<((p.1).length:Int))) ((((0:Int)≤i∧Int.toNat i<(p.1).length)∧(((0=0∨0+((gtd QY p.1 (Int.toNat i)).1).length≤0)∧0+((gtd QY p.1 (Int.toNat i)).1).length≤big)∧(((0:Int)≤i∧Int.toNat i<(p.1).length)∧(((0=0∨0+((gtd QY p.1 (Int.toNat i)).2).length≤0)∧0+((gtd QY p.1 (Int.toNat i)).2).length≤big)∧((x0.length=x0.length∨x0.length+1≤x0.length)∧x0.length+1≤big)))))∧(QkC K p (w64 (i+(1:Int))) (List.take (x0.length+1) ((List.take x0.length x0)++([((List.take (0+((gtd QY p.1 (Int.toNat i)).1).length) (List.drop 0 ((gtd QY p.1 (Int.toNat i)).1))),(List.take (0+((gtd QY p.1 (Int.toNat i)).2).length) (List.drop 0 ((gtd QY p.1 (Int.toNat i)).2))))]))))) (QfV K p 0 (List.take x0.length x0) ([]:List Qc)))):QkC K p i x0 :=
 Loop.of (by kernel_rfl) h
theorem QN6 (p:Qe) (h :
 (QkC K p 0 ([]:List Qp))):Hold (tawp QbI (0+0) QQz (TQ 0 0 Qtt K) (Qf [(.a (Tup.cells QE p))])) :=
 Hold.of (by kernel_rfl) h
theorem QJr (p:Qe) (hp:Qv (α:=Qe) p):TCon Tryz.prog 91 [(.a (Tup.cells QE p))] (Y3 (id (α:=Qe) p)):=by
 refine Qo rfl fun hb=>tcg (n:=93) (sg:=QjT.sg) Qj (TOk.cons Qh2 (TOk.cons QqH TOk.nil)) (by kernel_rfl) (by kernel_rfl) (QN6 _ p ?_)
 have hl_p_0:(p.1).length≤9223372036854775807:=hb.1.1.1
 have hl_p_1:(p.2.1).length≤9223372036854775807:=hb.1.2.1.1
 have hl_p_2:(p.2.2.1).length≤9223372036854775807:=hb.1.2.2.1.1
 have hl_p_3:(p.2.2.2).length≤9223372036854775807:=hb.1.2.2.2.1.1
 have hp':Sz.sz p≤2147483648:=hp
 have hs:Sz.sz p=Sz.sz p.1+Sz.sz p.2.1+Sz.sz p.2.2.1+Sz.sz p.2.2.2:=Qch p
 have k8:QgV (fun r'=>r'=Y3 (id (α:=Qe) p)) p 0 p.1 p.2.1 p.2.2.1 ([]):=by
  refine Jx (l:=p.2.2.2) (A:=fun i v=>QgV (fun r'=>r'=Y3 (id (α:=Qe) p)) p i p.1 p.2.1 p.2.2.1 v) (Q:=fun z=>Y3 (p.1,p.2.1,p.2.2.1,z)=Y3 (id (α:=Qe) p)) (by omega) (fun k x v hk hl hg hv hx ih=>?_) (fun hq=>?_) (R_eq rfl)
  ·refine Qzd (fun r'=>r'=Y3 (id (α:=Qe) p)) p _ _ _ _ _ ⟨fun _=>?_,fun h=>by simp at h;omega⟩
   rw [Int.toNat_natCast,hg,sc1 (by omega),Q7]
   simp only [id,List.drop_zero,List.take_length]
   exact ⟨⟨⟨by omega,hk⟩,by unfold Qv;omega,(by first | exact room (by omega) | (simp [Q1];omega))⟩,ih⟩
  ·refine Qzd (fun r'=>r'=Y3 (id (α:=Qe) p)) p _ _ _ _ _ ⟨fun h=>by simp at h,fun _=>?_⟩
   simp only [id,List.drop_zero,List.take_length]
   first | done | exact hq | trivial
 have k6:QfI (fun r'=>r'=Y3 (id (α:=Qe) p)) p 0 p.1 p.2.1 ([]):=by
  refine Jx (l:=p.2.2.1) (A:=fun i v=>QfI (fun r'=>r'=Y3 (id (α:=Qe) p)) p i p.1 p.2.1 v) (Q:=fun z=>z=p.2.2.1) (by omega) (fun k x v hk hl hg hv hx ih=>?_) (fun hq=>?_) rfl
  ·refine QDC (fun r'=>r'=Y3 (id (α:=Qe) p)) p _ _ _ _ ⟨fun _=>?_,fun h=>by simp at h;omega⟩
   rw [Int.toNat_natCast,hg,sc1 (by omega),Q7]
   simp only [id,List.drop_zero,List.take_length]
   exact ⟨⟨⟨by omega,hk⟩,by unfold Qv;omega,(by first | exact room (by omega) | (simp [Q1];omega))⟩,ih⟩
  ·refine QDC (fun r'=>r'=Y3 (id (α:=Qe) p)) p _ _ _ _ ⟨fun h=>by simp at h,fun _=>?_⟩
   simp only [id,List.drop_zero,List.take_length]
   exact k8
 have k4:QfV (fun r'=>r'=Y3 (id (α:=Qe) p)) p 0 p.1 ([]):=by
  refine Jx (l:=p.2.1) (A:=fun i v=>QfV (fun r'=>r'=Y3 (id (α:=Qe) p)) p i p.1 v) (Q:=fun z=>z=p.2.1) (by omega) (fun k x v hk hl hg hv hx ih=>?_) (fun hq=>?_) rfl
  ·refine QBk (fun r'=>r'=Y3 (id (α:=Qe) p)) p _ _ _ ⟨fun _=>?_,fun h=>by simp at h;omega⟩
   rw [Int.toNat_natCast,hg,sc1 (by omega),Q7]
   simp only [id,List.drop_zero,List.take_length]
   exact ⟨⟨⟨by omega,hk⟩,by unfold Qv;omega,(by first | exact room (by omega) | (simp [Q1];omega))⟩,ih⟩
  ·refine QBk (fun r'=>r'=Y3 (id (α:=Qe) p)) p _ _ _ ⟨fun h=>by simp at h,fun _=>?_⟩
   simp only [id,List.drop_zero,List.take_length]
   exact k6
 refine Jx (l:=p.1) (A:=fun i v=>QkC (fun r'=>r'=Y3 (id (α:=Qe) p)) p i v) (Q:=fun z=>z=p.1) (by omega) (fun k x v hk hl hg hv hx ih=>?_) (fun hq=>?_) rfl
 ·refine QEQ (fun r'=>r'=Y3 (id (α:=Qe) p)) p _ _ ⟨fun _=>?_,fun h=>by simp at h;omega⟩
  simp only [ZU] at hx
  have h1:=ZW x.1
  have h2:=ZW x.2
  rw [Int.toNat_natCast,hg,sc1 (by omega),Q7,Qcu,Qcu]
  exact ⟨⟨⟨by omega,hk⟩,⟨.inl rfl,by rw [Q1];omega⟩,⟨by omega,hk⟩,⟨.inl rfl,by rw [Q1];omega⟩,(by first | exact room (by omega) | (simp [Q1];omega))⟩,ih⟩
 ·refine QEQ (fun r'=>r'=Y3 (id (α:=Qe) p)) p _ _ ⟨fun h=>by simp at h,fun _=>?_⟩
  rw [List.take_length]
  exact k4
theorem Qze:Qg Tryz.prog QjT:=Qk fun x h=>QJr x.1 h
def Qcn (t:Qe):TRes:=zra (.a (Tup.cells QE t))
def QhL:TRow:=Qh 33 [(.a QE),(.c TI)] fun x=>(some (Qbl x.1 x.2.1),Qcn (Zl x.1 x.2.1))
def QiT:List TRow:=[QkW,QrR,QiQ,Qnj,Qrd,Qo8,QoD,QlL]
def QCg:TCode :=
 (.draw [zLd 67 6 14,zfa 68 7 1,zld 69 68 1,zmv 70 11,zfa 71 5 0,zld 72 71 1,zfa 73 7 1,zld 74 73 1,zia 75 72 74 Qx,zfa 76 75 1,zld 77 76 1,zca 78 44 [67,69,70,77],zst 6 78 14] [])
def QWB:List (Nat × Md):=[(1,.one .d),(4,.b (zds 4)),(5,.b [.d,.f,.f,.f]),(6,.b (zds 14)),(7,.b [.d,.d]),(11,.one .d)]
def Q0F:TCode:=.wk QWB QCg
def QDi:TCode :=
 (zsq [(.reg [zfa 165 6 0,zld 166 165 1,zbi 167 .add 166 (zki 1),zfa 168 6 0,zst 168 167 1]),(.reg [zfa 169 5 1,zld 170 169 1,zmv 171 1,zLd 172 6 14,zia 173 170 171 Qi,zst 173 172 14]),(.reg [zLd 174 5 4,zst 4 174 4]),.ret])
def QUo:List (Nat × Md):=[(1,.one .d),(4,.b (zds 4)),(5,.b [.d,.f,.f,.f]),(6,.b (zds 14))]
def QxA:TCode:=.wk QUo QDi
def QH2:TCode :=
 (zsq [(.reg [zop 2 (.box 37 0 4),zop 4 (.new 37 (z0s QE))]),(.reg [zLd 15 2 4,zca 16 79 [15],zop 5 (.new 37 (z0s QE)),zst 5 16 4]),(zsq [(.reg [zLd 17 2 4,zmv 18 1,zca 19 34 [17,18],zno 20 19]),(.cond 20 (zsq [(.reg [zLd 21 5 4,zst 4 21 4]),.ret]) .skip)]),(.reg [zfa 22 5 1,zld 23 22 1,zmv 24 1,zia 25 23 24 Qi,zLd 26 25 14,zop 6 (.new 63 (z0s Qi)),zst 6 26 14]),(.reg [zLd 27 2 4,zmv 28 1,zca 29 96 [27,28],zop 7 (.new 111 (z0s Qr)),zst 7 29 2]),(zsq [(.reg [zfa 30 7 0,zld 31 30 1]),(.block 0 (zsq [(.reg [zbi 33 .eql 31 (zki 1),zmv 32 33]),(.cond 32 (zsq [(.reg [zfa 35 5 2,zld 36 35 1,zmv 37 1,zbi 38 .sub 37 (zki 1),zia 39 36 38 Qm,zLd 40 39 2,zca 41 97 [40],zmv 34 41,zex 42 34 0,zex 43 34 1,zex 44 34 2,zop 8 (.new 97 (z0s Qm)),zop 9 (.new 114 (z0s QQ)),zst 8 42 2,zst 9 43 2,zmv 10 44]),(.reg [zfa 45 5 2,zld 46 45 1,zmv 47 1,zbi 48 .sub 47 (zki 1),zLd 49 8 2,zia 50 46 48 Qm,zst 50 49 2]),(.reg [zfa 51 9 1,zld 52 51 1,zfa 53 6 7,zst 53 52 1])]) (zsq [(.reg [zbi 55 .eql 31 (zki 2),zmv 54 55]),(.cond 54 (zsq [(.reg [zfa 56 6 7,zld 57 56 1,zmv 11 57]),(zsq [(.reg [zmv 58 1,zbi 59 .eql 58 (zki 0)]),(.cond 59 (.reg [zfa 60 5 0,zld 61 60 1,zfa 62 7 1,zld 63 62 1,zia 64 61 63 Qx,zfa 65 64 0,zld 66 65 1,zmv 11 66]) .skip)]),Q0F]) (zsq [(.reg [zbi 80 .eql 31 (zki 3),zmv 79 80]),(.cond 79 (zsq [(.draw [zfa 82 5 2,zld 83 82 1,zmv 84 1,zfa 85 5 2,zld 86 85 1,zmv 87 1,zia 88 86 87 Qm,zLd 89 88 2,zfa 90 7 1,zld 91 90 1,zfa 92 6 8,zld 93 92 1,zop 94 (.build (z0s QQ) [(0,1,91),(1,1,93)]),zca 95 98 [89,94],zmv 81 95,zex 96 81 0,zex 97 81 1,zia 98 83 84 Qm,zst 98 96 2] [(0,13),(1,13)]),(.reg [zfa 99 6 8,zst 99 (.k (.n [TI])) 1])]) (zsq [(.reg [zbi 101 .eql 31 (zki 4),zmv 100 101]),(.cond 100 (zsq [(.reg [zfa 103 5 3,zld 104 103 1,zmv 105 1,zia 106 104 105 Qm,zLd 107 106 2,zca 108 97 [107],zmv 102 108,zex 109 102 0,zex 110 102 1,zex 111 102 2,zop 12 (.new 97 (z0s Qm)),zop 13 (.new 114 (z0s QQ)),zst 12 109 2,zst 13 110 2,zmv 14 111]),(.reg [zfa 112 5 3,zld 113 112 1,zmv 114 1,zLd 115 12 2,zia 116 113 114 Qm,zst 116 115 2]),(.reg [zfa 117 13 1,zld 118 117 1,zfa 119 6 9,zst 119 118 1])]) (zsq [(.reg [zbi 121 .eql 31 (zki 5),zmv 120 121]),(.cond 120 (.reg [zLd 122 6 14,zfa 123 7 1,zld 124 123 1,zca 125 46 [122,124],zst 6 125 14]) (zsq [(.reg [zbi 127 .eql 31 (zki 6),zmv 126 127]),(.cond 126 (zsq [(.draw [zLd 128 6 14,zfa 129 7 1,zld 130 129 1,zfa 131 5 0,zld 132 131 1,zfa 133 7 1,zld 134 133 1,zia 135 132 134 Qx,zfa 136 135 1,zld 137 136 1,zca 138 48 [128,130,137],zst 6 138 14] []),(.reg [zmv 139 1,zbi 140 .eql 139 (zki 0)]),(.cond 140 (.reg [zfa 141 6 10,zst 141 (.k (.n [TI])) 1]) .skip)]) (zsq [(.reg [zbi 143 .eql 31 (zki 7),zmv 142 143]),(.cond 142 (zsq [(.draw [zfa 145 5 3,zld 146 145 1,zmv 147 1,zbi 148 .sub 147 (zki 1),zfa 149 5 3,zld 150 149 1,zmv 151 1,zbi 152 .sub 151 (zki 1),zia 153 150 152 Qm,zLd 154 153 2,zfa 155 7 1,zld 156 155 1,zfa 157 6 10,zld 158 157 1,zop 159 (.build (z0s QQ) [(0,1,156),(1,1,158)]),zca 160 98 [154,159],zmv 144 160,zex 161 144 0,zex 162 144 1,zia 163 146 148 Qm,zst 163 161 2] [(0,15),(1,15)]),(.reg [zfa 164 6 10,zst 164 (.k (.n [TI])) 1])]) .skip)]))]))]))]))]))]))]))]),QxA])
def QwT:List (ARv × Md):=[(.l 4 4 true,.b (zds 4))]
def Qmq:Qb:=TQ 0 0 QwT K
def QaG (p:Qe) (s:Int) (q1:List Qc) (q2:List Qd) (q3:List Qd) (x0:Int) (x1:List TIns) (x2:List TOp') (x3:Bool) (x4:Bool) (x5:List ZI) (x6:List (List Int)) (x7:List Int) (x8:List Int) (x9:List Int) (x10:List Int) (x11:List (List Int)) (x12:Int) (x13:Bool):Prop:=tawp QiT 0 QDi (Qmq K) ⟨[(1,(zci s)),(4,(.p 0 0 0)),(5,(.p 4 0 0)),(6,(.p 5 0 0))],[(0,(.box (Tup.cells QE ([],[],[],[])))),(1,(.sl 63 Qi true q1)),(2,(.sl 97 Qm true q2)),(3,(.sl 97 Qm true q3)),(4,(.box [(zcs Qx ((id (α:=Qe) p).1)),(.r Qi 1 0 q1.length),(.r Qm 2 0 q2.length),(.r Qm 3 0 q3.length)])),(5,(.box (Tup.cells Qi (x0,x1,x2,x3,x4,x5,x6,x7,x8,x9,x10,x11,x12,x13))))],6⟩
def QP4:Qb:=Qseq (tawp QiT 0 QxA (Qmq K)) (Qmq K)
def Q0l:Qb:=Qblk 0 (QP4 K)
def QkI (p:Qe) (s:Int) (inn:List Int):Prop:=let z1:=id (α:=Qe) p
 tawp QiT 0 QCg (Q0l K) ⟨[(1,(zci s)),(4,(.p 0 0 0)),(5,(.p 4 0 0)),(6,(.p 5 0 0)),(7,(.p 6 0 0)),(11,(zcs [TI] inn))],[(0,(.box (Tup.cells QE ([],[],[],[])))),(1,(.sl 63 Qi true (List.take ((z1.2.1).length) (z1.2.1)))),(2,(.sl 97 Qm true (List.take ((z1.2.2.1).length) (z1.2.2.1)))),(3,(.sl 97 Qm true (List.take ((z1.2.2.2).length) (z1.2.2.2)))),(4,(.box [(zcs Qx (z1.1)),(.r Qi 1 0 ((List.take ((z1.2.1).length) (z1.2.1)).length)),(.r Qm 2 0 ((List.take ((z1.2.2.1).length) (z1.2.2.1)).length)),(.r Qm 3 0 ((List.take ((z1.2.2.2).length) (z1.2.2.2)).length))])),(5,(.box (Tup.cells Qi (gtd QM (z1.2.1) (0+(Int.toNat s)))))),(6,(.box [(zci ((Qn p s).1)),(zci ((Qn p s).2))]))],7⟩
theorem QSo (p:Qe) (s:Int) (q1:List Qc) (q2:List Qd) (q3:List Qd) (x0:Int) (x1:List TIns) (x2:List TOp') (x3:Bool) (x4:Bool) (x5:List ZI) (x6:List (List Int)) (x7:List Int) (x8:List Int) (x9:List Int) (x10:List Int) (x11:List (List Int)) (x12:Int) (x13:Bool) (h :
 ((((0:Int)≤s∧Int.toNat s<q1.length)∧((0+(Int.toNat s))<q1.length))∧K (Qcn ((id (α:=Qe) p).1,(List.take q1.length (List.drop 0 ((q1).set (0+(Int.toNat s)) (w64 (x0+(1:Int)),x1,x2,x3,x4,x5,x6,x7,x8,x9,x10,x11,x12,x13)))),(List.take q2.length (List.drop 0 q2)),(List.take q3.length (List.drop 0 q3)))))):Hold (QaG K p s q1 q2 q3 x0 x1 x2 x3 x4 x5 x6 x7 x8 x9 x10 x11 x12 x13) :=
 Hold.of (by kernel_rfl) h
theorem QXU (p:Qe) (s:Int) (inn:List Int) (h :
 let z2:=id (α:=Qe) p
 let z3:=gtd QY (z2.1) (Int.toNat ((Qn p s).2))
 let z1:=Yn (gtd QM (z2.2.1) (0+(Int.toNat s))) ((Qn p s).2) inn (z3.2)
 ((((0:Int)≤(Qn p s).2∧Int.toNat ((Qn p s).2)<(z2.1).length)∧(QcB (gtd QM (z2.2.1) (0+(Int.toNat s))) ((Qn p s).2) inn (z3.2)))∧(QaG K p s (List.take ((List.take ((z2.2.1).length) (z2.2.1)).length) (List.take ((z2.2.1).length) (z2.2.1))) (List.take ((List.take ((z2.2.2.1).length) (z2.2.2.1)).length) (List.take ((z2.2.2.1).length) (z2.2.2.1))) (List.take ((List.take ((z2.2.2.2).length) (z2.2.2.2)).length) (List.take ((z2.2.2.2).length) (z2.2.2.2))) (z1.1) (z1.2.1) (z1.2.2.1) (z1.2.2.2.1) (z1.2.2.2.2.1) (z1.2.2.2.2.2.1) (z1.2.2.2.2.2.2.1) (z1.2.2.2.2.2.2.2.1) (z1.2.2.2.2.2.2.2.2.1) (z1.2.2.2.2.2.2.2.2.2.1) (z1.2.2.2.2.2.2.2.2.2.2.1) (z1.2.2.2.2.2.2.2.2.2.2.2.1) (z1.2.2.2.2.2.2.2.2.2.2.2.2.1) (z1.2.2.2.2.2.2.2.2.2.2.2.2.2)))):Hold (QkI K p s inn) :=
 Hold.of (by kernel_rfl) h
theorem QXT (p:Qe) (s:Int) (h :
 let z3:=id (α:=Qe) p
 let z1:=gtd QM (z3.2.1) (0+(Int.toNat s))
 let z4:=Y5 z1 ((Qn p s).2)
 let z6:=List.take ((z3.2.1).length) (z3.2.1)
 let z7:=List.take ((z3.2.2.2).length) (z3.2.2.2)
 let z8:=List.take ((z3.2.2.1).length) (z3.2.2.1)
 let z11:=gtd QY (z3.1) (Int.toNat ((Qn p s).2))
 let z2:=Zz z1 ((Qn p s).2) (z11.2)
 let z12:=gtd Qw (z3.2.2.2) (0+(Int.toNat s))
 let z13:=w64 (s-(1:Int))
 let z5:=Int.toNat z13
 let z10:=YC (gtd Qw (z3.2.2.2) (0+z5)) ((Qn p s).2,z1.2.2.2.2.2.2.2.2.2.2.1)
 let z14:=gtd Qw (z3.2.2.1) (0+z5)
 let z15:=gtd Qw (z3.2.2.1) (0+(Int.toNat s))
 let z9:=YC z15 ((Qn p s).2,z1.2.2.2.2.2.2.2.2.1)
 ((Qv (α:=Qe) p)∧(zif (!(Z4 p s)) (K (Qcn (z3.1,(List.take ((z3.2.1).length) (List.drop 0 (z3.2.1))),(List.take ((z3.2.2.1).length) (List.drop 0 (z3.2.2.1))),(List.take ((z3.2.2.2).length) (List.drop 0 (z3.2.2.2)))))) ((((0:Int)≤s∧Int.toNat s<(z3.2.1).length)∧((0+(Int.toNat s))<(z3.2.1).length))∧(zif (((Qn p s).1)==(1:Int)) ((((0:Int)≤w64 (s-(1:Int))∧Int.toNat z13<(z3.2.2.1).length)∧(((0+z5)<(z3.2.2.1).length)∧(Qv (α:=Qd) z14)))∧((((0:Int)≤w64 (s-(1:Int))∧Int.toNat z13<(z3.2.2.1).length)∧((0+z5)<(z3.2.2.1).length))∧(QaG K p s z6 (List.take ((z3.2.2.1).length) ((z3.2.2.1).set (0+z5) ((Zx z14).1))) z7 (z1.1) (z1.2.1) (z1.2.2.1) (z1.2.2.2.1) (z1.2.2.2.2.1) (z1.2.2.2.2.2.1) (z1.2.2.2.2.2.2.1) (((Zx z14).2.1).2) (z1.2.2.2.2.2.2.2.2.1) (z1.2.2.2.2.2.2.2.2.2.1) (z1.2.2.2.2.2.2.2.2.2.2.1) (z1.2.2.2.2.2.2.2.2.2.2.2.1) (z1.2.2.2.2.2.2.2.2.2.2.2.2.1) (z1.2.2.2.2.2.2.2.2.2.2.2.2.2)))) (zif (((Qn p s).1)==(2:Int)) (zif (s==(0:Int)) (((0:Int)≤(Qn p s).2∧Int.toNat ((Qn p s).2)<(z3.1).length)∧(QkI K p s (z11.1))) (QkI K p s (z1.2.2.2.2.2.2.2.1))) (zif (((Qn p s).1)==(3:Int)) ((((0:Int)≤s∧Int.toNat s<(z3.2.2.1).length)∧(((0+(Int.toNat s))<(z3.2.2.1).length)∧((Z9 (α:=Qd) (β:=Zd) z15 ((Qn p s).2,z1.2.2.2.2.2.2.2.2.1))∧(((0:Int)≤s∧Int.toNat s<(z3.2.2.1).length)∧((0+(Int.toNat s))<(z3.2.2.1).length)))))∧(QaG K p s z6 (List.take ((z3.2.2.1).length) ((z3.2.2.1).set (0+(Int.toNat s)) ((z9.1).1,(List.take (((z9.1).2).length) (List.drop 0 ((z9.1).2)))))) z7 (z1.1) (z1.2.1) (z1.2.2.1) (z1.2.2.2.1) (z1.2.2.2.2.1) (z1.2.2.2.2.2.1) (z1.2.2.2.2.2.2.1) (z1.2.2.2.2.2.2.2.1) ([]) (z1.2.2.2.2.2.2.2.2.2.1) (z1.2.2.2.2.2.2.2.2.2.2.1) (z1.2.2.2.2.2.2.2.2.2.2.2.1) (z1.2.2.2.2.2.2.2.2.2.2.2.2.1) (z1.2.2.2.2.2.2.2.2.2.2.2.2.2))) (zif (((Qn p s).1)==(4:Int)) ((((0:Int)≤s∧Int.toNat s<(z3.2.2.2).length)∧(((0+(Int.toNat s))<(z3.2.2.2).length)∧(Qv (α:=Qd) z12)))∧((((0:Int)≤s∧Int.toNat s<(z3.2.2.2).length)∧((0+(Int.toNat s))<(z3.2.2.2).length))∧(QaG K p s z6 z8 (List.take ((z3.2.2.2).length) ((z3.2.2.2).set (0+(Int.toNat s)) ((Zx z12).1))) (z1.1) (z1.2.1) (z1.2.2.1) (z1.2.2.2.1) (z1.2.2.2.2.1) (z1.2.2.2.2.2.1) (z1.2.2.2.2.2.2.1) (z1.2.2.2.2.2.2.2.1) (z1.2.2.2.2.2.2.2.2.1) (((Zx z12).2.1).2) (z1.2.2.2.2.2.2.2.2.2.2.1) (z1.2.2.2.2.2.2.2.2.2.2.2.1) (z1.2.2.2.2.2.2.2.2.2.2.2.2.1) (z1.2.2.2.2.2.2.2.2.2.2.2.2.2)))) (zif (((Qn p s).1)==(5:Int)) ((Qb1 z1 ((Qn p s).2))∧(QaG K p s z6 z8 z7 (z4.1) (z4.2.1) (z4.2.2.1) (z4.2.2.2.1) (z4.2.2.2.2.1) (z4.2.2.2.2.2.1) (z4.2.2.2.2.2.2.1) (z4.2.2.2.2.2.2.2.1) (z4.2.2.2.2.2.2.2.2.1) (z4.2.2.2.2.2.2.2.2.2.1) (z4.2.2.2.2.2.2.2.2.2.2.1) (z4.2.2.2.2.2.2.2.2.2.2.2.1) (z4.2.2.2.2.2.2.2.2.2.2.2.2.1) (z4.2.2.2.2.2.2.2.2.2.2.2.2.2))) (zif (((Qn p s).1)==(6:Int)) ((((0:Int)≤(Qn p s).2∧Int.toNat ((Qn p s).2)<(z3.1).length)∧(Qb0 z1 ((Qn p s).2) (z11.2)))∧(zif (s==(0:Int)) (QaG K p s z6 z8 z7 (z2.1) (z2.2.1) (z2.2.2.1) (z2.2.2.2.1) (z2.2.2.2.2.1) (z2.2.2.2.2.2.1) (z2.2.2.2.2.2.2.1) (z2.2.2.2.2.2.2.2.1) (z2.2.2.2.2.2.2.2.2.1) (z2.2.2.2.2.2.2.2.2.2.1) ([]) (z2.2.2.2.2.2.2.2.2.2.2.2.1) (z2.2.2.2.2.2.2.2.2.2.2.2.2.1) (z2.2.2.2.2.2.2.2.2.2.2.2.2.2)) (QaG K p s z6 z8 z7 (z2.1) (z2.2.1) (z2.2.2.1) (z2.2.2.2.1) (z2.2.2.2.2.1) (z2.2.2.2.2.2.1) (z2.2.2.2.2.2.2.1) (z2.2.2.2.2.2.2.2.1) (z2.2.2.2.2.2.2.2.2.1) (z2.2.2.2.2.2.2.2.2.2.1) (z2.2.2.2.2.2.2.2.2.2.2.1) (z2.2.2.2.2.2.2.2.2.2.2.2.1) (z2.2.2.2.2.2.2.2.2.2.2.2.2.1) (z2.2.2.2.2.2.2.2.2.2.2.2.2.2)))) (zif (((Qn p s).1)==(7:Int)) ((((0:Int)≤w64 (s-(1:Int))∧Int.toNat z13<(z3.2.2.2).length)∧(((0+z5)<(z3.2.2.2).length)∧((Z9 (α:=Qd) (β:=Zd) (gtd Qw (z3.2.2.2) (0+z5)) ((Qn p s).2,z1.2.2.2.2.2.2.2.2.2.2.1))∧(((0:Int)≤w64 (s-(1:Int))∧Int.toNat z13<(z3.2.2.2).length)∧((0+z5)<(z3.2.2.2).length)))))∧(QaG K p s z6 z8 (List.take ((z3.2.2.2).length) ((z3.2.2.2).set (0+z5) ((z10.1).1,(List.take (((z10.1).2).length) (List.drop 0 ((z10.1).2)))))) (z1.1) (z1.2.1) (z1.2.2.1) (z1.2.2.2.1) (z1.2.2.2.2.1) (z1.2.2.2.2.2.1) (z1.2.2.2.2.2.2.1) (z1.2.2.2.2.2.2.2.1) (z1.2.2.2.2.2.2.2.2.1) (z1.2.2.2.2.2.2.2.2.2.1) ([]) (z1.2.2.2.2.2.2.2.2.2.2.2.1) (z1.2.2.2.2.2.2.2.2.2.2.2.2.1) (z1.2.2.2.2.2.2.2.2.2.2.2.2.2))) (QaG K p s z6 z8 z7 (z1.1) (z1.2.1) (z1.2.2.1) (z1.2.2.2.1) (z1.2.2.2.2.1) (z1.2.2.2.2.2.1) (z1.2.2.2.2.2.2.1) (z1.2.2.2.2.2.2.2.1) (z1.2.2.2.2.2.2.2.2.1) (z1.2.2.2.2.2.2.2.2.2.1) (z1.2.2.2.2.2.2.2.2.2.2.1) (z1.2.2.2.2.2.2.2.2.2.2.2.1) (z1.2.2.2.2.2.2.2.2.2.2.2.2.1) (z1.2.2.2.2.2.2.2.2.2.2.2.2.2))))))))))))):Hold (tawp QiT (0+0) QH2 (TQ 0 0 QwT K) (Qf [(.a (Tup.cells QE p)),(.c TI s)])) :=
 Hold.of (by kernel_rfl) h
theorem QNg (p:Qe) (s:Int) (hp:Qbl p s):TCon Tryz.prog 33 [(.a (Tup.cells QE p)),(.c TI s)] (Qcn (Zl p s)):=by
 refine Qo rfl fun hb=>tcg (n:=175) (sg:=QhL.sg) Qj (TOk.cons QGa (TOk.cons QRk (TOk.cons QA4 (TOk.cons QMI (TOk.cons QSW (TOk.cons QKR (TOk.cons QQX (TOk.cons QJz TOk.nil)))))))) (by kernel_rfl) (by kernel_rfl) (QXT _ p s ?_)
 have hl_p_0:(p.1).length≤9223372036854775807:=hb.1.1.1
 have hl_p_1:(p.2.1).length≤9223372036854775807:=hb.1.2.1.1
 have hl_p_2:(p.2.2.1).length≤9223372036854775807:=hb.1.2.2.1.1
 have hl_p_3:(p.2.2.2).length≤9223372036854775807:=hb.1.2.2.2.1.1
 conv=>zeta
 have hp':Sz.sz p≤1073741824:=hp
 have hs:Sz.sz p=Sz.sz p.1+Sz.sz p.2.1+Sz.sz p.2.2.1+Sz.sz p.2.2.2:=Qch p
 simp only [id,List.drop_zero,List.take_length,Nat.zero_add]
 refine ⟨by unfold Qv;omega,fun h=>R_eq ?_,fun h=>?_⟩
 ·rw [QuI (by simpa using h)]
 have he:Z4 p s=true:=by simpa using h
 obtain ⟨k,rfl,hk,h4,ha,hb,hst,hm1,hm2,c1,c3,c4,c7,hkind⟩:=Qsi he
 have hpc:=Qyk hst
 have hxs:=QbD QM p.2.1 k
 have hx:=Ym (gtd QM p.2.1 k)
 have hpl:=YT (QD (gtd QM p.2.1 k))
 have hq1:=fun j=>QbD Qw p.2.2.1 j
 have hq2:=fun j=>QbD Qw p.2.2.2 j
 have d0:Sz.sz QM=0:=rfl
 have d1:Sz.sz Qw=0:=rfl
 have ts:∀ (l:List Qd) (i:Nat) (v:Qd),List.take l.length (l.set i v)=l.set i v:=fun l i v=>List.take_of_length_le (by simp)
 simp only [Int.toNat_natCast]
 have key:∀ (y:Qc) (a b:List Qd),Ys p k (gtd QM p.2.1 k) (Qn p (k:Int))=(y,a,b)→y.1=(gtd QM p.2.1 k).1→QaG (fun r'=>r'=Qcn (Zl p (k:Int))) p (k:Int) p.2.1 a b y.1 y.2.1 y.2.2.1 y.2.2.2.1 y.2.2.2.2.1 y.2.2.2.2.2.1 y.2.2.2.2.2.2.1 y.2.2.2.2.2.2.2.1 y.2.2.2.2.2.2.2.2.1 y.2.2.2.2.2.2.2.2.2.1 y.2.2.2.2.2.2.2.2.2.2.1 y.2.2.2.2.2.2.2.2.2.2.2.1 y.2.2.2.2.2.2.2.2.2.2.2.2.1 y.2.2.2.2.2.2.2.2.2.2.2.2.2:=by
  intro y a b hy hpy
  have hw:w64 (y.1+1)=y.1+1:=by rw [hpy];exact Qq (by ((try simp only [sPc,QD,sOps,Qu,Qz,Ql,QH,sX,sY,sG,sD,QG,QF,sSat,QL,QJ,QB,QA] at *);omega)) (by ((try simp only [sPc,QD,sOps,Qu,Qz,Ql,QH,sX,sY,sG,sD,QG,QF,sSat,QL,QJ,QB,QA] at *);omega))
  refine (QSo (fun r'=>r'=Qcn (Zl p (k:Int))) p (k:Int) _ _ _ y.1 y.2.1 y.2.2.1 y.2.2.2.1 y.2.2.2.2.1 y.2.2.2.2.2.1 y.2.2.2.2.2.2.1 y.2.2.2.2.2.2.2.1 y.2.2.2.2.2.2.2.2.1 y.2.2.2.2.2.2.2.2.2.1 y.2.2.2.2.2.2.2.2.2.2.1 y.2.2.2.2.2.2.2.2.2.2.2.1 y.2.2.2.2.2.2.2.2.2.2.2.2.1 y.2.2.2.2.2.2.2.2.2.2.2.2.2 ?_).h
  simp only [id,List.drop_zero,List.take_length,Nat.zero_add,Int.toNat_natCast]
  refine ⟨⟨⟨by omega,hk⟩,hk⟩,R_eq ?_⟩
  rw [Qs7 he rfl hy hpy,hw,List.take_of_length_le (by simp)]
 have k2:(Qn p (k:Int)).1=2→∀ inn,inn=(if k=0 then (gtd QY p.1 (Qn p (k:Int)).2.toNat).1 else sX (gtd QM p.2.1 k))→QkI (fun r'=>r'=Qcn (Zl p (k:Int))) p (k:Int) inn:=by
  intro g inn hi
  refine (QXU (fun r'=>r'=Qcn (Zl p (k:Int))) p (k:Int) inn ?_).h
  conv=>zeta
  simp only [id,List.drop_zero,List.take_length,Nat.zero_add,Int.toNat_natCast]
  refine ⟨⟨⟨hm1,by omega⟩,by unfold QcB;omega⟩,?_⟩
  exact key (Yn (gtd QM p.2.1 k) (Qn p (k:Int)).2 inn (gtd QY p.1 (Qn p (k:Int)).2.toNat).2) _ _ (by rw [pi2 g,hi]) (QB2 _ _ _ _)
 refine ⟨⟨⟨by omega,hk⟩,hk⟩,?_⟩
 refine ⟨fun g=>?_,fun n1=>?_⟩
 ·have g:(Qn p (k:Int)).1=1:=by simpa using g
  have g1:=c1 g
  have e:w64 ((k:Int)-1)=((k-1:Nat):Int):=by rw [Qq (by omega) (by omega)];omega
  rw [e]
  simp only [Int.toNat_natCast]
  rw [ts]
  exact ⟨⟨⟨by omega,by omega⟩,by omega,by unfold Qv;have:=hq1 (k-1);omega⟩,⟨⟨by omega,by omega⟩,by omega⟩,key (setX (gtd QM p.2.1 k) (Zx (gtd Qw p.2.2.1 (k-1))).2.1.2) _ _ (pi1 g) rfl⟩
 refine ⟨fun g=>?_,fun n2=>?_⟩
 ·have g:(Qn p (k:Int)).1=2:=by simpa using g
  refine ⟨fun hz=>⟨⟨hm1,by omega⟩,k2 g _ ?_⟩,fun hz=>k2 g _ ?_⟩
  ·rw [if_pos (by simp at hz;omega)]
  ·rw [if_neg (by simp at hz;omega)]
 refine ⟨fun g=>?_,fun n3=>?_⟩
 ·have g:(Qn p (k:Int)).1=3:=by simpa using g
  have g1:=c3 g
  rw [ts]
  refine ⟨⟨⟨by omega,by omega⟩,by omega,?_,⟨by omega,by omega⟩,by omega⟩,key (setY (gtd QM p.2.1 k) []) _ _ (pi3 g) rfl⟩
  unfold Z9;simp only [QaV,ZK];have:=hq1 (k);((try simp only [sPc,QD,sOps,Qu,Qz,Ql,QH,sX,sY,sG,sD,QG,QF,sSat,QL,QJ,QB,QA] at *);omega)
 refine ⟨fun g=>?_,fun n4=>?_⟩
 ·have g:(Qn p (k:Int)).1=4:=by simpa using g
  have g1:=c4 g
  rw [ts]
  exact ⟨⟨⟨by omega,by omega⟩,by omega,by unfold Qv;have:=hq2 (k);omega⟩,⟨⟨by omega,by omega⟩,by omega⟩,key (setG (gtd QM p.2.1 k) (Zx (gtd Qw p.2.2.2 k)).2.1.2) _ _ (pi4 g) rfl⟩
 refine ⟨fun g=>?_,fun n5=>?_⟩
 ·have g:(Qn p (k:Int)).1=5:=by simpa using g
  exact ⟨by unfold Qb1;omega,key (Y5 (gtd QM p.2.1 k) (Qn p (k:Int)).2) _ _ (pi5 g) (Qtv _ _)⟩
 refine ⟨fun g=>?_,fun n6=>?_⟩
 ·have g:(Qn p (k:Int)).1=6:=by simpa using g
  refine ⟨⟨⟨hm1,by omega⟩,by unfold Qb0;omega⟩,fun hz=>?_,fun hz=>?_⟩
  ·exact key (setD (Zz (gtd QM p.2.1 k) (Qn p (k:Int)).2 (gtd QY p.1 (Qn p (k:Int)).2.toNat).2) []) _ _ (by rw [pi6 g,if_pos (by simp at hz;omega)]) (Qhf _ _ _)
  ·exact key (Zz (gtd QM p.2.1 k) (Qn p (k:Int)).2 (gtd QY p.1 (Qn p (k:Int)).2.toNat).2) _ _ (by rw [pi6 g,if_neg (by simp at hz;omega)]) (Qhf _ _ _)
 refine ⟨fun g=>?_,fun n7=>?_⟩
 ·have g:(Qn p (k:Int)).1=7:=by simpa using g
  have g1:=c7 g
  have e:w64 ((k:Int)-1)=((k-1:Nat):Int):=by rw [Qq (by omega) (by omega)];omega
  rw [e]
  simp only [Int.toNat_natCast]
  rw [ts]
  refine ⟨⟨⟨by omega,by omega⟩,by omega,?_,⟨by omega,by omega⟩,by omega⟩,key (setD (gtd QM p.2.1 k) []) _ _ (pi7 g) rfl⟩
  unfold Z9;simp only [QaV,ZK];have:=hq2 (k-1);((try simp only [sPc,QD,sOps,Qu,Qz,Ql,QH,sX,sY,sG,sD,QG,QF,sSat,QL,QJ,QB,QA] at *);omega)
 ·simp at n1 n2 n3 n4 n5 n6 n7
  exact key (gtd QM p.2.1 k) _ _ (pi8 (by omega)) rfl
theorem QD3:Qg Tryz.prog QhL:=Qk fun x h=>QNg x.1 x.2.1 h
def Qce (t:Qe):TRes:=⟨(.a [(zcs Qx t.1),(.r Qi 0 0 ((t.2.1).length)),(.r Qm 1 0 ((t.2.2.1).length)),(zcs Qm t.2.2.2)]),[(.sl 63 Qi true t.2.1),(.sl 97 Qm true t.2.2.1)],[],true,[]⟩
def QmS:TRow:=Qh 92 [(.a QE),(.c TI)] fun x=>(some (Qbl x.1 x.2.1),Qce (Zl x.1 x.2.1))
def Qju:List TRow:=[QjT,QmZ,QiV,Qmh,QrU,QmJ,QnV,Qn5]
def Qv8:TCode :=
 (.draw [zLd 71 7 14,zfa 72 6 1,zld 73 72 1,zmv 74 11,zfa 75 2 0,zld 76 75 1,zfa 77 6 1,zld 78 77 1,zia 79 76 78 Qx,zfa 80 79 1,zld 81 80 1,zca 82 172 [71,73,74,81],zst 7 82 14] [])
def QYi:List (Nat × Md):=[(1,.one .d),(2,.b (zds 4)),(4,.b (zds 4)),(5,.b [.d,.f,.f,.f]),(6,.b [.d,.d]),(7,.b (zds 14)),(11,.one .d)]
def QSP:TCode:=.wk QYi Qv8
def QwV:TCode :=
 (zsq [(.reg [zfa 174 7 0,zld 175 174 1,zbi 176 .add 175 (zki 1),zfa 177 7 0,zst 177 176 1]),(.reg [zfa 178 5 1,zld 179 178 1,zmv 180 1,zLd 181 7 14,zia 182 179 180 Qi,zst 182 181 14]),(.reg [zLd 183 5 4,zst 4 183 4]),.ret])
def Q1u:List (Nat × Md):=[(1,.one .d),(4,.b (zds 4)),(5,.b [.d,.f,.f,.f]),(7,.b (zds 14))]
def QEx:TCode:=.wk Q1u QwV
def Q0K:TCode :=
 (zsq [(.reg [zop 2 (.box 37 0 4),zop 4 (.new 37 (z0s QE))]),(.reg [zLd 19 2 4,zca 20 91 [19],zop 5 (.new 37 (z0s QE)),zst 5 20 4]),(zsq [(.reg [zLd 21 2 4,zmv 22 1,zca 23 95 [21,22],zno 24 23]),(.cond 24 (zsq [(.reg [zLd 25 5 4,zst 4 25 4]),.ret]) .skip)]),(.reg [zLd 26 2 4,zmv 27 1,zca 28 170 [26,27],zop 6 (.new 111 (z0s Qr)),zst 6 28 2]),(.reg [zfa 29 5 1,zld 30 29 1,zmv 31 1,zia 32 30 31 Qi,zLd 33 32 14,zop 7 (.new 63 (z0s Qi)),zst 7 33 14]),(zsq [(.reg [zfa 34 6 0,zld 35 34 1]),(.block 0 (zsq [(.reg [zbi 37 .eql 35 (zki 1),zmv 36 37]),(.cond 36 (zsq [(.reg [zfa 39 2 2,zld 40 39 1,zmv 41 1,zbi 42 .sub 41 (zki 1),zia 43 40 42 Qm,zLd 44 43 2,zca 45 171 [44],zmv 38 45,zex 46 38 0,zex 47 38 1,zex 48 38 2,zop 8 (.new 97 (z0s Qm)),zop 9 (.new 114 (z0s QQ)),zst 8 46 2,zst 9 47 2,zmv 10 48]),(.reg [zfa 49 5 2,zld 50 49 1,zmv 51 1,zbi 52 .sub 51 (zki 1),zLd 53 8 2,zia 54 50 52 Qm,zst 54 53 2]),(.reg [zfa 55 9 1,zld 56 55 1,zfa 57 7 7,zst 57 56 1])]) (zsq [(.reg [zbi 59 .eql 35 (zki 2),zmv 58 59]),(.cond 58 (zsq [(.reg [zfa 60 7 7,zld 61 60 1,zmv 11 61]),(zsq [(.reg [zmv 62 1,zbi 63 .eql 62 (zki 0)]),(.cond 63 (.reg [zfa 64 2 0,zld 65 64 1,zfa 66 6 1,zld 67 66 1,zia 68 65 67 Qx,zfa 69 68 0,zld 70 69 1,zmv 11 70]) .skip)]),QSP]) (zsq [(.reg [zbi 84 .eql 35 (zki 3),zmv 83 84]),(.cond 83 (zsq [(.draw [zfa 86 2 2,zld 87 86 1,zmv 88 1,zia 89 87 88 Qm,zLd 90 89 2,zfa 91 6 1,zld 92 91 1,zfa 93 7 8,zld 94 93 1,zop 95 (.build (z0s QQ) [(0,1,92),(1,1,94)]),zca 96 173 [90,95],zmv 85 96,zex 97 85 0,zex 98 85 1,zop 12 (.new 97 (z0s Qm)),zst 12 97 2,zmv 13 98] [(0,14),(1,14),(3,14),(4,14),(5,14),(6,14),(7,14),(8,14),(10,14)]),(.reg [zfa 99 5 2,zld 100 99 1,zmv 101 1,zLd 102 12 2,zia 103 100 101 Qm,zst 103 102 2]),(.reg [zop 104 (.bsl 3 [TI] []),zfa 105 7 8,zst 105 104 1])]) (zsq [(.reg [zbi 107 .eql 35 (zki 4),zmv 106 107]),(.cond 106 (zsq [(.reg [zfa 109 2 3,zld 110 109 1,zmv 111 1,zia 112 110 111 Qm,zLd 113 112 2,zca 114 171 [113],zmv 108 114,zex 115 108 0,zex 116 108 1,zex 117 108 2,zop 14 (.new 97 (z0s Qm)),zop 15 (.new 114 (z0s QQ)),zst 14 115 2,zst 15 116 2,zmv 16 117]),(.reg [zfa 118 5 3,zld 119 118 1,zmv 120 1,zLd 121 14 2,zia 122 119 120 Qm,zst 122 121 2]),(.reg [zfa 123 15 1,zld 124 123 1,zfa 125 7 9,zst 125 124 1])]) (zsq [(.reg [zbi 127 .eql 35 (zki 5),zmv 126 127]),(.cond 126 (.reg [zLd 128 7 14,zfa 129 6 1,zld 130 129 1,zca 131 174 [128,130],zst 7 131 14]) (zsq [(.reg [zbi 133 .eql 35 (zki 6),zmv 132 133]),(.cond 132 (zsq [(.draw [zLd 134 7 14,zfa 135 6 1,zld 136 135 1,zfa 137 2 0,zld 138 137 1,zfa 139 6 1,zld 140 139 1,zia 141 138 140 Qx,zfa 142 141 1,zld 143 142 1,zca 144 175 [134,136,143],zst 7 144 14] []),(.reg [zmv 145 1,zbi 146 .eql 145 (zki 0)]),(.cond 146 (.reg [zop 147 (.bsl 3 [TI] []),zfa 148 7 10,zst 148 147 1]) .skip)]) (zsq [(.reg [zbi 150 .eql 35 (zki 7),zmv 149 150]),(.cond 149 (zsq [(.draw [zfa 152 2 3,zld 153 152 1,zmv 154 1,zbi 155 .sub 154 (zki 1),zia 156 153 155 Qm,zLd 157 156 2,zfa 158 6 1,zld 159 158 1,zfa 160 7 10,zld 161 160 1,zop 162 (.build (z0s QQ) [(0,1,159),(1,1,161)]),zca 163 173 [157,162],zmv 151 163,zex 164 151 0,zex 165 151 1,zop 17 (.new 97 (z0s Qm)),zst 17 164 2,zmv 18 165] [(0,15),(1,15),(4,15),(5,15),(6,15),(7,15),(8,15),(9,15),(11,15)]),(.reg [zfa 166 5 3,zld 167 166 1,zmv 168 1,zbi 169 .sub 168 (zki 1),zLd 170 17 2,zia 171 167 169 Qm,zst 171 170 2]),(.reg [zop 172 (.bsl 3 [TI] []),zfa 173 7 10,zst 173 172 1])]) .skip)]))]))]))]))]))]))]))]),QEx])
def QDn:List (ARv × Md):=[(.l 4 4 true,.b [.d,.o 63,.o 97,.d])]
def Qnl:Qb:=TQ 0 0 QDn K
def QaF (p:Qe) (s:Int) (x1:List Qc) (x2:List Qd) (x3:List Qd) (st0:Int) (st1:List TIns) (st2:List TOp') (st3:Bool) (st4:Bool) (st5:List ZI) (st6:List (List Int)) (st7:List Int) (st8:List Int) (st9:List Int) (st10:List Int) (st11:List (List Int)) (st12:Int) (st13:Bool):Prop:=tawp Qju 0 QwV (Qnl K) ⟨[(1,(zci s)),(4,(.p 0 0 0)),(5,(.p 4 0 0)),(7,(.p 5 0 0))],[(0,(.box (Tup.cells QE ([],[],[],[])))),(1,(.sl 63 Qi true x1)),(2,(.sl 97 Qm true x2)),(3,(.sl 97 Qm true x3)),(4,(.box [(zcs Qx ((id (α:=Qe) p).1)),(.r Qi 1 0 x1.length),(.r Qm 2 0 x2.length),(.r Qm 3 0 x3.length)])),(5,(.box (Tup.cells Qi (st0,st1,st2,st3,st4,st5,st6,st7,st8,st9,st10,st11,st12,st13))))],6⟩
def QNO:Qb:=Qseq (tawp Qju 0 QEx (Qnl K)) (Qnl K)
def QTx:Qb:=Qblk 0 (QNO K)
def Qj2 (p:Qe) (s:Int) (inn:List Int):Prop:=let z1:=id (α:=Qe) p
 tawp Qju 0 Qv8 (QTx K) ⟨[(1,(zci s)),(2,(.p 0 0 0)),(4,(.p 1 0 0)),(5,(.p 5 0 0)),(6,(.p 6 0 0)),(7,(.p 7 0 0)),(11,(zcs [TI] inn))],[(0,(.box (Tup.cells QE p))),(1,(.box (Tup.cells QE ([],[],[],[])))),(2,(.sl 63 Qi true (List.take ((z1.2.1).length) (z1.2.1)))),(3,(.sl 97 Qm true (List.take ((z1.2.2.1).length) (z1.2.2.1)))),(4,(.sl 97 Qm true (List.take ((z1.2.2.2).length) (z1.2.2.2)))),(5,(.box [(zcs Qx (z1.1)),(.r Qi 2 0 ((List.take ((z1.2.1).length) (z1.2.1)).length)),(.r Qm 3 0 ((List.take ((z1.2.2.1).length) (z1.2.2.1)).length)),(.r Qm 4 0 ((List.take ((z1.2.2.2).length) (z1.2.2.2)).length))])),(6,(.box [(zci ((Qn p s).1)),(zci ((Qn p s).2))])),(7,(.box (Tup.cells Qi (gtd QM (z1.2.1) (0+(Int.toNat s))))))],8⟩
theorem QVB (p:Qe) (s:Int) (x1:List Qc) (x2:List Qd) (x3:List Qd) (st0:Int) (st1:List TIns) (st2:List TOp') (st3:Bool) (st4:Bool) (st5:List ZI) (st6:List (List Int)) (st7:List Int) (st8:List Int) (st9:List Int) (st10:List Int) (st11:List (List Int)) (st12:Int) (st13:Bool) (h :
 ((((0:Int)≤s∧Int.toNat s<x1.length)∧((0+(Int.toNat s))<x1.length))∧K (Qce ((id (α:=Qe) p).1,(List.take x1.length ((x1).set (0+(Int.toNat s)) (w64 (st0+(1:Int)),st1,st2,st3,st4,st5,st6,st7,st8,st9,st10,st11,st12,st13))),(List.take x2.length x2),(List.take x3.length (List.drop 0 x3)))))):Hold (QaF K p s x1 x2 x3 st0 st1 st2 st3 st4 st5 st6 st7 st8 st9 st10 st11 st12 st13) :=
 Hold.of (by kernel_rfl) h
theorem QTs (p:Qe) (s:Int) (inn:List Int) (h :
 let z2:=id (α:=Qe) p
 let z3:=gtd QY p.1 (Int.toNat ((Qn p s).2))
 let z1:=Yn (gtd QM (z2.2.1) (0+(Int.toNat s))) ((Qn p s).2) inn (z3.2)
 ((((0:Int)≤(Qn p s).2∧Int.toNat ((Qn p s).2)<(p.1).length)∧(QcB (gtd QM (z2.2.1) (0+(Int.toNat s))) ((Qn p s).2) inn (z3.2)))∧(QaF K p s (List.take ((List.take ((z2.2.1).length) (z2.2.1)).length) (List.take ((z2.2.1).length) (z2.2.1))) (List.take ((List.take ((z2.2.2.1).length) (z2.2.2.1)).length) (List.take ((z2.2.2.1).length) (z2.2.2.1))) (List.take ((List.take ((z2.2.2.2).length) (z2.2.2.2)).length) (List.take ((z2.2.2.2).length) (z2.2.2.2))) (z1.1) (z1.2.1) (z1.2.2.1) (z1.2.2.2.1) (z1.2.2.2.2.1) (z1.2.2.2.2.2.1) (z1.2.2.2.2.2.2.1) (z1.2.2.2.2.2.2.2.1) (z1.2.2.2.2.2.2.2.2.1) (z1.2.2.2.2.2.2.2.2.2.1) (z1.2.2.2.2.2.2.2.2.2.2.1) (z1.2.2.2.2.2.2.2.2.2.2.2.1) (z1.2.2.2.2.2.2.2.2.2.2.2.2.1) (z1.2.2.2.2.2.2.2.2.2.2.2.2.2)))):Hold (Qj2 K p s inn) :=
 Hold.of (by kernel_rfl) h
theorem QUm (p:Qe) (s:Int) (h :
 let z3:=id (α:=Qe) p
 let z1:=gtd QM (z3.2.1) (0+(Int.toNat s))
 let z4:=Y5 z1 ((Qn p s).2)
 let z6:=List.take ((z3.2.1).length) (z3.2.1)
 let z7:=List.take ((z3.2.2.1).length) (z3.2.2.1)
 let z8:=List.take ((z3.2.2.2).length) (z3.2.2.2)
 let z9:=YC (gtd Qw p.2.2.1 (Int.toNat s)) ((Qn p s).2,z1.2.2.2.2.2.2.2.2.1)
 let z11:=gtd QY p.1 (Int.toNat ((Qn p s).2))
 let z2:=Zz z1 ((Qn p s).2) (z11.2)
 let z12:=w64 (s-(1:Int))
 let z5:=Int.toNat z12
 let z10:=YC (gtd Qw p.2.2.2 z5) ((Qn p s).2,z1.2.2.2.2.2.2.2.2.2.2.1)
 let z13:=gtd Qw p.2.2.2 (Int.toNat s)
 let z14:=gtd Qw p.2.2.1 z5
 ((Qv (α:=Qe) p)∧(zif (!(Z4 p s)) (K (Qce (z3.1,z6,z7,(List.take ((z3.2.2.2).length) (List.drop 0 (z3.2.2.2)))))) ((((0:Int)≤s∧Int.toNat s<(z3.2.1).length)∧((0+(Int.toNat s))<(z3.2.1).length))∧(zif (((Qn p s).1)==(1:Int)) ((((0:Int)≤w64 (s-(1:Int))∧Int.toNat z12<(p.2.2.1).length)∧(Qv (α:=Qd) z14))∧((((0:Int)≤w64 (s-(1:Int))∧Int.toNat z12<(z3.2.2.1).length)∧((0+z5)<(z3.2.2.1).length))∧(QaF K p s z6 (List.take ((z3.2.2.1).length) ((z3.2.2.1).set (0+z5) ((Zx z14).1))) z8 (z1.1) (z1.2.1) (z1.2.2.1) (z1.2.2.2.1) (z1.2.2.2.2.1) (z1.2.2.2.2.2.1) (z1.2.2.2.2.2.2.1) (((Zx z14).2.1).2) (z1.2.2.2.2.2.2.2.2.1) (z1.2.2.2.2.2.2.2.2.2.1) (z1.2.2.2.2.2.2.2.2.2.2.1) (z1.2.2.2.2.2.2.2.2.2.2.2.1) (z1.2.2.2.2.2.2.2.2.2.2.2.2.1) (z1.2.2.2.2.2.2.2.2.2.2.2.2.2)))) (zif (((Qn p s).1)==(2:Int)) (zif (s==(0:Int)) (((0:Int)≤(Qn p s).2∧Int.toNat ((Qn p s).2)<(p.1).length)∧(Qj2 K p s (z11.1))) (Qj2 K p s (z1.2.2.2.2.2.2.2.1))) (zif (((Qn p s).1)==(3:Int)) ((((0:Int)≤s∧Int.toNat s<(p.2.2.1).length)∧(Z9 (α:=Qd) (β:=Zd) (gtd Qw p.2.2.1 (Int.toNat s)) ((Qn p s).2,z1.2.2.2.2.2.2.2.2.1)))∧((((0:Int)≤s∧Int.toNat s<(z3.2.2.1).length)∧((0+(Int.toNat s))<(z3.2.2.1).length))∧(QaF K p s z6 (List.take ((z3.2.2.1).length) ((z3.2.2.1).set (0+(Int.toNat s)) ((z9.1).1,(List.take (((z9.1).2).length) (List.drop 0 ((z9.1).2)))))) z8 (z1.1) (z1.2.1) (z1.2.2.1) (z1.2.2.2.1) (z1.2.2.2.2.1) (z1.2.2.2.2.2.1) (z1.2.2.2.2.2.2.1) (z1.2.2.2.2.2.2.2.1) ([]:List Int) (z1.2.2.2.2.2.2.2.2.2.1) (z1.2.2.2.2.2.2.2.2.2.2.1) (z1.2.2.2.2.2.2.2.2.2.2.2.1) (z1.2.2.2.2.2.2.2.2.2.2.2.2.1) (z1.2.2.2.2.2.2.2.2.2.2.2.2.2)))) (zif (((Qn p s).1)==(4:Int)) ((((0:Int)≤s∧Int.toNat s<(p.2.2.2).length)∧(Qv (α:=Qd) z13))∧((((0:Int)≤s∧Int.toNat s<(z3.2.2.2).length)∧((0+(Int.toNat s))<(z3.2.2.2).length))∧(QaF K p s z6 z7 (List.take ((z3.2.2.2).length) ((z3.2.2.2).set (0+(Int.toNat s)) ((Zx z13).1))) (z1.1) (z1.2.1) (z1.2.2.1) (z1.2.2.2.1) (z1.2.2.2.2.1) (z1.2.2.2.2.2.1) (z1.2.2.2.2.2.2.1) (z1.2.2.2.2.2.2.2.1) (z1.2.2.2.2.2.2.2.2.1) (((Zx z13).2.1).2) (z1.2.2.2.2.2.2.2.2.2.2.1) (z1.2.2.2.2.2.2.2.2.2.2.2.1) (z1.2.2.2.2.2.2.2.2.2.2.2.2.1) (z1.2.2.2.2.2.2.2.2.2.2.2.2.2)))) (zif (((Qn p s).1)==(5:Int)) ((Qb1 z1 ((Qn p s).2))∧(QaF K p s z6 z7 z8 (z4.1) (z4.2.1) (z4.2.2.1) (z4.2.2.2.1) (z4.2.2.2.2.1) (z4.2.2.2.2.2.1) (z4.2.2.2.2.2.2.1) (z4.2.2.2.2.2.2.2.1) (z4.2.2.2.2.2.2.2.2.1) (z4.2.2.2.2.2.2.2.2.2.1) (z4.2.2.2.2.2.2.2.2.2.2.1) (z4.2.2.2.2.2.2.2.2.2.2.2.1) (z4.2.2.2.2.2.2.2.2.2.2.2.2.1) (z4.2.2.2.2.2.2.2.2.2.2.2.2.2))) (zif (((Qn p s).1)==(6:Int)) ((((0:Int)≤(Qn p s).2∧Int.toNat ((Qn p s).2)<(p.1).length)∧(Qb0 z1 ((Qn p s).2) (z11.2)))∧(zif (s==(0:Int)) (QaF K p s z6 z7 z8 (z2.1) (z2.2.1) (z2.2.2.1) (z2.2.2.2.1) (z2.2.2.2.2.1) (z2.2.2.2.2.2.1) (z2.2.2.2.2.2.2.1) (z2.2.2.2.2.2.2.2.1) (z2.2.2.2.2.2.2.2.2.1) (z2.2.2.2.2.2.2.2.2.2.1) ([]:List Int) (z2.2.2.2.2.2.2.2.2.2.2.2.1) (z2.2.2.2.2.2.2.2.2.2.2.2.2.1) (z2.2.2.2.2.2.2.2.2.2.2.2.2.2)) (QaF K p s z6 z7 z8 (z2.1) (z2.2.1) (z2.2.2.1) (z2.2.2.2.1) (z2.2.2.2.2.1) (z2.2.2.2.2.2.1) (z2.2.2.2.2.2.2.1) (z2.2.2.2.2.2.2.2.1) (z2.2.2.2.2.2.2.2.2.1) (z2.2.2.2.2.2.2.2.2.2.1) (z2.2.2.2.2.2.2.2.2.2.2.1) (z2.2.2.2.2.2.2.2.2.2.2.2.1) (z2.2.2.2.2.2.2.2.2.2.2.2.2.1) (z2.2.2.2.2.2.2.2.2.2.2.2.2.2)))) (zif (((Qn p s).1)==(7:Int)) ((((0:Int)≤w64 (s-(1:Int))∧Int.toNat z12<(p.2.2.2).length)∧(Z9 (α:=Qd) (β:=Zd) (gtd Qw p.2.2.2 z5) ((Qn p s).2,z1.2.2.2.2.2.2.2.2.2.2.1)))∧((((0:Int)≤w64 (s-(1:Int))∧Int.toNat z12<(z3.2.2.2).length)∧((0+z5)<(z3.2.2.2).length))∧(QaF K p s z6 z7 (List.take ((z3.2.2.2).length) ((z3.2.2.2).set (0+z5) ((z10.1).1,(List.take (((z10.1).2).length) (List.drop 0 ((z10.1).2)))))) (z1.1) (z1.2.1) (z1.2.2.1) (z1.2.2.2.1) (z1.2.2.2.2.1) (z1.2.2.2.2.2.1) (z1.2.2.2.2.2.2.1) (z1.2.2.2.2.2.2.2.1) (z1.2.2.2.2.2.2.2.2.1) (z1.2.2.2.2.2.2.2.2.2.1) ([]:List Int) (z1.2.2.2.2.2.2.2.2.2.2.2.1) (z1.2.2.2.2.2.2.2.2.2.2.2.2.1) (z1.2.2.2.2.2.2.2.2.2.2.2.2.2)))) (QaF K p s z6 z7 z8 (z1.1) (z1.2.1) (z1.2.2.1) (z1.2.2.2.1) (z1.2.2.2.2.1) (z1.2.2.2.2.2.1) (z1.2.2.2.2.2.2.1) (z1.2.2.2.2.2.2.2.1) (z1.2.2.2.2.2.2.2.2.1) (z1.2.2.2.2.2.2.2.2.2.1) (z1.2.2.2.2.2.2.2.2.2.2.1) (z1.2.2.2.2.2.2.2.2.2.2.2.1) (z1.2.2.2.2.2.2.2.2.2.2.2.2.1) (z1.2.2.2.2.2.2.2.2.2.2.2.2.2))))))))))))):Hold (tawp Qju (0+0) Q0K (TQ 0 0 QDn K) (Qf [(.a (Tup.cells QE p)),(.c TI s)])) :=
 Hold.of (by kernel_rfl) h
theorem QU6 (p:Qe) (s:Int) (hp:Qbl p s):TCon Tryz.prog 92 [(.a (Tup.cells QE p)),(.c TI s)] (Qce (Zl p s)):=by
 refine Qo rfl fun hb=>tcg (n:=184) (sg:=QmS.sg) Qj (TOk.cons Qze (TOk.cons QMb (TOk.cons QAD (TOk.cons Q1P (TOk.cons Q3i (TOk.cons QJL (TOk.cons QXw (TOk.cons QVz TOk.nil)))))))) (by kernel_rfl) (by kernel_rfl) (QUm _ p s ?_)
 have hl_p_0:(p.1).length≤9223372036854775807:=hb.1.1.1
 have hl_p_1:(p.2.1).length≤9223372036854775807:=hb.1.2.1.1
 have hl_p_2:(p.2.2.1).length≤9223372036854775807:=hb.1.2.2.1.1
 have hl_p_3:(p.2.2.2).length≤9223372036854775807:=hb.1.2.2.2.1.1
 conv=>zeta
 have hp':Sz.sz p≤1073741824:=hp
 have hs:Sz.sz p=Sz.sz p.1+Sz.sz p.2.1+Sz.sz p.2.2.1+Sz.sz p.2.2.2:=Qch p
 simp only [id,List.drop_zero,List.take_length,Nat.zero_add]
 refine ⟨by unfold Qv;omega,fun h=>R_eq ?_,fun h=>?_⟩
 ·rw [QuI (by simpa using h)]
 have he:Z4 p s=true:=by simpa using h
 obtain ⟨k,rfl,hk,h4,ha,hb,hst,hm1,hm2,c1,c3,c4,c7,hkind⟩:=Qsi he
 have hpc:=Qyk hst
 have hxs:=QbD QM p.2.1 k
 have hx:=Ym (gtd QM p.2.1 k)
 have hpl:=YT (QD (gtd QM p.2.1 k))
 have hq1:=fun j=>QbD Qw p.2.2.1 j
 have hq2:=fun j=>QbD Qw p.2.2.2 j
 have d0:Sz.sz QM=0:=rfl
 have d1:Sz.sz Qw=0:=rfl
 have ts:∀ (l:List Qd) (i:Nat) (v:Qd),List.take l.length (l.set i v)=l.set i v:=fun l i v=>List.take_of_length_le (by simp)
 simp only [Int.toNat_natCast]
 have key:∀ (y:Qc) (a b:List Qd),Ys p k (gtd QM p.2.1 k) (Qn p (k:Int))=(y,a,b)→y.1=(gtd QM p.2.1 k).1→QaF (fun r'=>r'=Qce (Zl p (k:Int))) p (k:Int) p.2.1 a b y.1 y.2.1 y.2.2.1 y.2.2.2.1 y.2.2.2.2.1 y.2.2.2.2.2.1 y.2.2.2.2.2.2.1 y.2.2.2.2.2.2.2.1 y.2.2.2.2.2.2.2.2.1 y.2.2.2.2.2.2.2.2.2.1 y.2.2.2.2.2.2.2.2.2.2.1 y.2.2.2.2.2.2.2.2.2.2.2.1 y.2.2.2.2.2.2.2.2.2.2.2.2.1 y.2.2.2.2.2.2.2.2.2.2.2.2.2:=by
  intro y a b hy hpy
  have hw:w64 (y.1+1)=y.1+1:=by rw [hpy];exact Qq (by ((try simp only [sPc,QD,sOps,Qu,Qz,Ql,QH,sX,sY,sG,sD,QG,QF,sSat,QL,QJ,QB,QA] at *);omega)) (by ((try simp only [sPc,QD,sOps,Qu,Qz,Ql,QH,sX,sY,sG,sD,QG,QF,sSat,QL,QJ,QB,QA] at *);omega))
  refine (QVB (fun r'=>r'=Qce (Zl p (k:Int))) p (k:Int) _ _ _ y.1 y.2.1 y.2.2.1 y.2.2.2.1 y.2.2.2.2.1 y.2.2.2.2.2.1 y.2.2.2.2.2.2.1 y.2.2.2.2.2.2.2.1 y.2.2.2.2.2.2.2.2.1 y.2.2.2.2.2.2.2.2.2.1 y.2.2.2.2.2.2.2.2.2.2.1 y.2.2.2.2.2.2.2.2.2.2.2.1 y.2.2.2.2.2.2.2.2.2.2.2.2.1 y.2.2.2.2.2.2.2.2.2.2.2.2.2 ?_).h
  simp only [id,List.drop_zero,List.take_length,Nat.zero_add,Int.toNat_natCast]
  refine ⟨⟨⟨by omega,hk⟩,hk⟩,R_eq ?_⟩
  rw [Qs7 he rfl hy hpy,hw,List.take_of_length_le (by simp)]
 have k2:(Qn p (k:Int)).1=2→∀ inn,inn=(if k=0 then (gtd QY p.1 (Qn p (k:Int)).2.toNat).1 else sX (gtd QM p.2.1 k))→Qj2 (fun r'=>r'=Qce (Zl p (k:Int))) p (k:Int) inn:=by
  intro g inn hi
  refine (QTs (fun r'=>r'=Qce (Zl p (k:Int))) p (k:Int) inn ?_).h
  conv=>zeta
  simp only [id,List.drop_zero,List.take_length,Nat.zero_add,Int.toNat_natCast]
  refine ⟨⟨⟨hm1,by omega⟩,by unfold QcB;omega⟩,?_⟩
  exact key (Yn (gtd QM p.2.1 k) (Qn p (k:Int)).2 inn (gtd QY p.1 (Qn p (k:Int)).2.toNat).2) _ _ (by rw [pi2 g,hi]) (QB2 _ _ _ _)
 refine ⟨⟨⟨by omega,hk⟩,hk⟩,?_⟩
 refine ⟨fun g=>?_,fun n1=>?_⟩
 ·have g:(Qn p (k:Int)).1=1:=by simpa using g
  have g1:=c1 g
  have e:w64 ((k:Int)-1)=((k-1:Nat):Int):=by rw [Qq (by omega) (by omega)];omega
  rw [e]
  simp only [Int.toNat_natCast]
  rw [ts]
  exact ⟨⟨⟨by omega,by omega⟩,by unfold Qv;have:=hq1 (k-1);omega⟩,⟨⟨by omega,by omega⟩,by omega⟩,key (setX (gtd QM p.2.1 k) (Zx (gtd Qw p.2.2.1 (k-1))).2.1.2) _ _ (pi1 g) rfl⟩
 refine ⟨fun g=>?_,fun n2=>?_⟩
 ·have g:(Qn p (k:Int)).1=2:=by simpa using g
  refine ⟨fun hz=>⟨⟨hm1,by omega⟩,k2 g _ ?_⟩,fun hz=>k2 g _ ?_⟩
  ·rw [if_pos (by simp at hz;omega)]
  ·rw [if_neg (by simp at hz;omega)]
 refine ⟨fun g=>?_,fun n3=>?_⟩
 ·have g:(Qn p (k:Int)).1=3:=by simpa using g
  have g1:=c3 g
  rw [ts]
  refine ⟨⟨⟨by omega,by omega⟩,?_⟩,⟨⟨by omega,by omega⟩,by omega⟩,key (setY (gtd QM p.2.1 k) []) _ _ (pi3 g) rfl⟩
  unfold Z9;simp only [QaV,ZK];have:=hq1 (k);((try simp only [sPc,QD,sOps,Qu,Qz,Ql,QH,sX,sY,sG,sD,QG,QF,sSat,QL,QJ,QB,QA] at *);omega)
 refine ⟨fun g=>?_,fun n4=>?_⟩
 ·have g:(Qn p (k:Int)).1=4:=by simpa using g
  have g1:=c4 g
  rw [ts]
  exact ⟨⟨⟨by omega,by omega⟩,by unfold Qv;have:=hq2 (k);omega⟩,⟨⟨by omega,by omega⟩,by omega⟩,key (setG (gtd QM p.2.1 k) (Zx (gtd Qw p.2.2.2 k)).2.1.2) _ _ (pi4 g) rfl⟩
 refine ⟨fun g=>?_,fun n5=>?_⟩
 ·have g:(Qn p (k:Int)).1=5:=by simpa using g
  exact ⟨by unfold Qb1;omega,key (Y5 (gtd QM p.2.1 k) (Qn p (k:Int)).2) _ _ (pi5 g) (Qtv _ _)⟩
 refine ⟨fun g=>?_,fun n6=>?_⟩
 ·have g:(Qn p (k:Int)).1=6:=by simpa using g
  refine ⟨⟨⟨hm1,by omega⟩,by unfold Qb0;omega⟩,fun hz=>?_,fun hz=>?_⟩
  ·exact key (setD (Zz (gtd QM p.2.1 k) (Qn p (k:Int)).2 (gtd QY p.1 (Qn p (k:Int)).2.toNat).2) []) _ _ (by rw [pi6 g,if_pos (by simp at hz;omega)]) (Qhf _ _ _)
  ·exact key (Zz (gtd QM p.2.1 k) (Qn p (k:Int)).2 (gtd QY p.1 (Qn p (k:Int)).2.toNat).2) _ _ (by rw [pi6 g,if_neg (by simp at hz;omega)]) (Qhf _ _ _)
 refine ⟨fun g=>?_,fun n7=>?_⟩
 ·have g:(Qn p (k:Int)).1=7:=by simpa using g
  have g1:=c7 g
  have e:w64 ((k:Int)-1)=((k-1:Nat):Int):=by rw [Qq (by omega) (by omega)];omega
  rw [e]
  simp only [Int.toNat_natCast]
  rw [ts]
  refine ⟨⟨⟨by omega,by omega⟩,?_⟩,⟨⟨by omega,by omega⟩,by omega⟩,key (setD (gtd QM p.2.1 k) []) _ _ (pi7 g) rfl⟩
  unfold Z9;simp only [QaV,ZK];have:=hq2 (k-1);((try simp only [sPc,QD,sOps,Qu,Qz,Ql,QH,sX,sY,sG,sD,QG,QF,sSat,QL,QJ,QB,QA] at *);omega)
 ·simp at n1 n2 n3 n4 n5 n6 n7
  exact key (gtd QM p.2.1 k) _ _ (pi8 (by omega)) rfl
theorem Q14:Qg Tryz.prog QmS:=Qk fun x h=>QU6 x.1 x.2.1 h
end
end Go.Proofs.YtjbdljkhbglnhaaGreat.Am

