/- -/
import Derived.Test.YtjbdljkhbglnhaaGreatZHP7
import Derived.Test.YtjbdljkhbglnhaaGreatZHPJ
import Derived.Test.YtjbdljkhbglnhaaGreatZHP5
import Derived.Test.YtjbdljkhbglnhaaGreatZHPL
import Derived.Test.YtjbdljkhbglnhaaGreatZHPP
import Derived.Test.YtjbdljkhbglnhaaGreatZHPO
import Derived.Test.YtjbdljkhbglnhaaGreatZHPA
import Derived.Test.YtjbdljkhbglnhaaGreatZHGD
namespace Go.Proofs.YtjbdljkhbglnhaaGreat.Am
open Go Go.RowKit Go.Proofs.YtjbdljkhbglnhaaGreat
set_option linter.all false
set_option maxHeartbeats 2000000
noncomputable section
variable (K:TRes→Prop)
def J9 (t:Qr):TRes:=zra (.a (Tup.cells Q9 t))
def QlA:TRow:=Qg 15 [(.a QS),(.c (.sl QB))] fun x=>(none,J9 (Zr x.1 x.2.1))
def Qe6:List TRow:=[Qik,Qh0,QdM,Qfg,Qj9,Qml]
def QtX:TCode :=
 (zsq [(zsq [(.reg [zmv 23 7,zmv 24 6,zbi 25 .lss 23 24]),(.cond 25 .skip (.exit 0))]),(.block 1 (zsq [(.reg [zfa 29 2 0,zLd 30 29 1,zfa 31 2 1,zld 32 31 1,zmv 33 7,zca 34 71 [30,32,33],zmv 28 34,zex 35 28 0,zex 36 28 1,zmv 8 35,zmv 9 36]),(.draw [zfa 37 2 2,zld 38 37 1,zmv 39 6,zmv 40 7,zmv 41 1,zle 42 41,zfa 43 2 3,zld 44 43 1,zmv 45 7,zia 46 44 45 [.bool],zld 47 46 1,zca 48 72 [38,39,40,42,47],zmv 10 48] []),(.draw [zfa 49 5 1,zld 50 49 1,zfa 51 2 0,zfa 52 51 0,zld 53 52 1,zmv 54 8,zmv 55 9,zop 56 (.slc 53 (some 54) (some 55) ctOp),zmv 57 10,zmv 58 7,zmv 59 6,zbi 60 .sub 59 (zki 1),zbi 61 .eql 58 60,zfa 62 2 3,zld 63 62 1,zmv 64 7,zia 65 63 64 [.bool],zld 66 65 1,zca 67 73 [56,57,61,66],zop 68 (.bsl 63 Qx [67]),zop 69 (.app 50 68 63 Qx),zfa 70 5 1,zst 70 69 1] [(0,18),(1,18),(0,19),(1,19)])])),(.reg [zmv 26 7,zbi 27 .add 26 (zki 1),zmv 7 27])])
def Qqo:List (Nat × Md):=[(1,.one .d),(2,.b (zds 6)),(4,.b (zds 4)),(5,.b [.d,.o 63,.o 97,.o 97]),(6,.one .d),(7,.one .d)]
def Qr9:TCode :=
 (zsq [(.reg [zbi 75 .lss 74 73]),(.cond 75 .skip (.exit 2)),(.block 3 (zsq [(.reg [zia 76 72 74 [TI],zld 77 76 1,zmv 12 77]),(.reg [zfa 78 5 2,zld 79 78 1,zmv 80 12,zop 81 (.build (z0s QL) [(0,1,80)]),zop 82 (.bsl 97 QL [81]),zop 83 (.app 79 82 97 QL),zfa 84 5 2,zst 84 83 1]),(.reg [zfa 85 5 3,zld 86 85 1,zmv 87 12,zop 88 (.build (z0s QL) [(0,1,87)]),zop 89 (.bsl 97 QL [88]),zop 90 (.app 86 89 97 QL),zfa 91 5 3,zst 91 90 1])])),(.reg [zbi 92 .add 74 (zki 1),zmv 74 92])])
def QxP:List (Nat × Md):=[(4,.b (zds 4)),(5,.b [.d,.f,.f,.f]),(72,.one .d),(73,.one .d),(74,.one .d)]
def Qwv:TCode :=
 (zsq [(.reg [zLd 93 5 4,zst 4 93 4]),.ret])
def Qs1:TCode :=
 (zsq [(zsq [(.reg [zfa 71 2 4,zld 72 71 1,zle 73 72,zmv 74 (zki 0)]),(.block 2 (.loop QxP Qr9))]),Qwv])
def QD7:TCode :=
 (zsq [(.reg [zop 2 (.box 30 0 6),zop 4 (.new 37 (z0s Q9))]),(zsq [(.reg [zLd 13 2 6,zmv 14 1,zca 15 56 [13,14],zbi 16 .neq 15 (zki 0)]),(.cond 16 (zsq [(.reg [zop 17 (.build (z0s Q9) []),zst 4 17 4]),.ret]) .skip)]),(.reg [zmv 18 1,zca 19 70 [18],zop 20 (.build (z0s Q9) [(0,1,19)]),zop 5 (.new 37 (z0s Q9)),zst 5 20 4]),(.reg [zLd 21 2 6,zca 22 59 [21],zmv 6 22]),(zsq [(.reg [zmv 7 (zki 0)]),(.block 0 (.loop Qqo QtX))]),Qs1])
def Qyz:List (ARv × Md):=[(.l 4 4 true,.b (zds 4))]
def QfQ:Qb:=TQ 0 0 Qyz K
def QBk:Qb:=Qseq (tawp Qe6 0 Qwv (QfQ K)) (QfQ K)
def QQa:Qb:=Qblk 2 (QBk K)
def Qep (c:Ql) (b:List Qd) (x:Int) (p11:List Qc) (p2:List Qm) (p3:List Qm):Prop:=Loop Qe6 0 QxP Qr9 (QQa K) ⟨[(4,(.p 0 0 0)),(5,(.p 4 0 0)),(72,(zcs [TI] c.2.2.2.2.1)),(73,(zci ((c.2.2.2.2.1).length:Int))),(74,(zci x))],[(0,(.box (Tup.cells Q9 ([],[],[],[])))),(1,(.sl 63 Qx true p11)),(2,(.sl 97 QL true p2)),(3,(.sl 97 QL true p3)),(4,(.box [(zcs QB (id (α:=List Qd) b)),(.r Qx 1 0 p11.length),(.r QL 2 0 p2.length),(.r QL 3 0 p3.length)]))],5⟩
def QJr:Qb:=Qseq (tawp Qe6 0 Qs1 (QfQ K)) (QfQ K)
def QJg:Qb:=Qblk 0 (QJr K)
def QeR (c:Ql) (b:List Qd) (s:Int) (p1:List Qc):Prop:=Loop Qe6 0 Qqo QtX (QJg K) ⟨[(1,(zcs QB b)),(2,(.p 0 0 0)),(4,(.p 1 0 0)),(5,(.p 5 0 0)),(6,(zci (QH c))),(7,(zci s))],[(0,(.box (Tup.cells QS c))),(1,(.box (Tup.cells Q9 ([],[],[],[])))),(2,(.sl 63 Qx true p1)),(3,(.sl 97 QL true ([]:List Qm))),(4,(.sl 97 QL true ([]:List Qm))),(5,(.box [(zcs QB (id (α:=List Qd) b)),(.r Qx 2 0 p1.length),(.r QL 3 0 0),(.r QL 4 0 0)]))],6⟩
theorem Qo6 (c:Ql) (b:List Qd) (x:Int) (p11:List Qc) (p2:List Qm) (p3:List Qm) (h :
 (zif (decide (x<((c.2.2.2.2.1).length:Int))) (((0:Int)≤x∧Int.toNat x<(c.2.2.2.2.1).length)∧(((p2.length=p2.length∨p2.length+1≤p2.length)∧p2.length+1≤big)∧(((p3.length=p3.length∨p3.length+1≤p3.length)∧p3.length+1≤big)∧(Qep K c b (w64 (x+(1:Int))) (List.take p11.length p11) (List.take (p2.length+1) ((List.take p2.length p2)++([((gtd (0:Int) c.2.2.2.2.1 (Int.toNat x)),[])]))) (List.take (p3.length+1) ((List.take p3.length p3)++([((gtd (0:Int) c.2.2.2.2.1 (Int.toNat x)),[])]))))))) (K (J9 ((id (α:=List Qd) b),(List.take p11.length (List.drop 0 p11)),(List.take p2.length (List.drop 0 p2)),(List.take p3.length (List.drop 0 p3))))))):Qep K c b x p11 p2 p3 :=
 Loop.of (by kernel_rfl) h
theorem Qv2 (c:Ql) (b:List Qd) (s:Int) (p1:List Qc) (h :
 let z2:=Qp c.1 c.2.1 s
 let z3:=gtd (false:Bool) c.2.2.2.1 (Int.toNat s)
 let z1:=Z7 c.2.2.1 (QH c) s (b.length:Int) z3
 let z4:=List.take (Int.toNat (z2.2)-Int.toNat (z2.1)) (List.drop (Int.toNat (z2.1)) c.1)
 (zif (decide (s<(QH c))) (((0:Int)≤s∧Int.toNat s<(c.2.2.2.1).length)∧((((0:Int)≤z2.1∧z2.1≤z2.2∧z2.2≤((c.1).length:Int))∧(((0:Int)≤s∧Int.toNat s<(c.2.2.2.1).length)∧((QlX z4 (List.take (z1.length) (List.drop 0 z1)) (s==(w64 ((QH c)-(1:Int)))) z3)∧((p1.length=p1.length∨p1.length+1≤p1.length)∧p1.length+1≤big))))∧(QeR K c b (w64 (s+(1:Int))) (List.take (p1.length+1) ((List.take p1.length p1)++([(Qay z4 (List.take (z1.length) (List.drop 0 z1)) (s==(w64 ((QH c)-(1:Int)))) z3)])))))) (Qep K c b 0 (List.take p1.length p1) ([]:List Qm) ([]:List Qm)))):QeR K c b s p1 :=
 Loop.of (by kernel_rfl) h
theorem QDU (c:Ql) (b:List Qd) (h :
 (zif ((Zj c b) != (0:Int)) (K (J9 ([],[],[],[]))) ((QI (α:=List Qd) b)∧(QeR K c b 0 ([]:List Qc))))):Hold (tawp Qe6 (0+0) QD7 (TQ 0 0 Qyz K) (Qf [(.a (Tup.cells QS c)),(.c (.sl QB) b)])) :=
 Hold.of (by kernel_rfl) h
theorem QRt (c:Ql) (b:List Qd):TCon Tryz.prog 15 [(.a (Tup.cells QS c)),(.c (.sl QB) b)] (J9 (Zr c b)):=by
 refine Qq rfl fun hb=>tcg (n:=94) (sg:=QlA.sg) Qj (TOk.cons Qzb (TOk.cons Qxl (TOk.cons Qgw (TOk.cons QmY (TOk.cons QFr (TOk.cons QQW TOk.nil)))))) (by kernel_rfl) (by kernel_rfl) (QDU _ c b ?_)
 have hl_c_0:(c.1).length≤9223372036854775807:=hb.1.1.1
 have hl_c_1:(c.2.1).length≤9223372036854775807:=hb.1.2.1.1
 have hl_c_3:(c.2.2.2.1).length≤9223372036854775807:=hb.1.2.2.2.1.1
 have hl_c_4:(c.2.2.2.2.1).length≤9223372036854775807:=hb.1.2.2.2.2.1.1
 have hl_c_5:(c.2.2.2.2.2).length≤9223372036854775807:=hb.1.2.2.2.2.2.1.1
 have hl_b:b.length≤9223372036854775807:=hb.2.1.1
 refine ⟨fun h=>R_eq ?_,fun h=>?_⟩
 ·unfold Zr;rw [if_neg (by simpa using h)]
 have h0:Zj c b=0:=by simpa using h
 have A:=Qi8 h0
 have hn:=Qjh A
 have hM:(Zr c b)=(b,Qar c (QH c) b.length (QH c).toNat,(Jr c).map fun n=>(n,[]),(Jr c).map fun n=>(n,[])):=by unfold Zr;rw [if_pos h0]
 have h5:=A.stages
 have h6:nSt c=(Q3 c).length+1:=rfl
 have h7:c.2.2.2.1.length=(Q3 c).length+1:=A.redo
 have h8:c.2.2.2.2.1.length=nSt c-1:=QgS A
 have hbs:=Qw8 A.batch
 have hms:=QuK A.model
 refine ⟨by unfold QI;omega,?_⟩
 have k4:∀ (ss:List Qc),ss=Qar c (QH c) b.length (QH c).toNat→Qep (fun r'=>r'=J9 (Zr c b)) c b ((0:Nat):Int) ss ([]) ([]):=by
  intro ss hss
  refine ZL c.2.2.2.2.1 (fun r k=>∀ v:List Qm,v.length=k→v++r.map (fun n=>((n,[]):Qm))=c.2.2.2.2.1.map (fun n=>((n,[]):Qm))→Qep (fun r'=>r'=J9 (Zr c b)) c b (k:Int) ss v v) ?_ ?_ [] rfl rfl
  ·intro v hv he
   refine Qo6 (fun r'=>r'=J9 (Zr c b)) c b _ _ _ _ ⟨fun h=>by simp at h,fun _=>R_eq ?_⟩
   rw [List.map_nil,List.append_nil] at he
   rw [hM,← hss]
   simp only [id,List.drop_zero,List.take_length,he]
  ·intro k x r hk hlt hg ih v hv he
   refine Qo6 (fun r'=>r'=J9 (Zr c b)) c b _ _ _ _ ⟨fun _=>?_,fun h=>by simp at h;omega⟩
   rw [Int.toNat_natCast,hg,sc1 (by omega),Zq,List.take_length]
   exact ⟨⟨by omega,hlt⟩,(by first | exact room (by omega) | (simp [Zi];omega)),(by first | exact room (by omega) | (simp [Zi];omega)),ih _ (by simp;omega) (by rw [← he];simp)⟩
 have key:QeR (fun r'=>r'=J9 (Zr c b)) c b ((0:Nat):Int) (Qar c (QH c) b.length 0):=by
  refine JL (nSt c) (fun k=>QeR (fun r'=>r'=J9 (Zr c b)) c b (k:Int) (Qar c (QH c) b.length k)) ?_ ?_
  ·refine Qv2 (fun r'=>r'=J9 (Zr c b)) c b _ _ ⟨fun h=>by rw [hn] at h;simp at h,fun _=>?_⟩
   rw [List.take_length]
   exact k4 _ (by rw [hn,Int.toNat_natCast])
  ·intro k hk ih
   refine Qv2 (fun r'=>r'=J9 (Zr c b)) c b _ _ ⟨fun _=>?_,fun h=>by rw [hn] at h;simp at h;omega⟩
   have hr:=Qb1 c.1 c.2.1 (k:Int)
   have hpl:=Qqq c.2.2.1 (QH c) k b.length (gtd false c.2.2.2.1 k)
   have hss:=Ql1 c (QH c) b.length k
   have hsl:=Qas (Qar c (QH c) b.length k)
   have e:((k:Int)==w64 (QH c-1))=decide ((k:Int)=QH c-1):=by
    rw [Qo (by omega) (by omega)];rfl
   rw [e,Int.toNat_natCast,Zq,sc1 (by omega)]
   simp only [List.drop_zero,List.take_length]
   refine ⟨⟨by omega,by omega⟩,⟨⟨hr.1,hr.2.1,hr.2.2.1⟩,⟨by omega,by omega⟩,⟨?_,by omega⟩,(by first | exact room (by omega) | (simp [Zi];omega))⟩,ih⟩
   refine Nat.le_trans (Nat.le_trans (QmR _ _) (QuW _ _)) ?_
   exact Nat.le_trans hms (by omega)
 exact key
theorem QG6:Qh Tryz.prog QlA:=Qk fun x _=>QRt x.1 x.2.1
def Jc (t:Qr):TRes:=⟨(.a [(zcs QB t.1),(.r Qx 0 0 ((t.2.1).length)),(.r QL 1 0 ((t.2.2.1).length)),(.r QL 2 0 ((t.2.2.2).length))]),[(.sl 63 Qx true t.2.1),(.sl 97 QL true t.2.2.1),(.sl 97 QL true t.2.2.2)],[],true,[]⟩
def QkY:TRow:=Qg 79 [(.a Q9)] fun x=>(some (QI (α:=Qr) x.1),Jc (id (α:=Qr) x.1))
def Qc4:List TRow:=[Qh0,Qdz,QeH]
def Qp8:TCode :=
 (zsq [(.reg [zbi 18 .lss 17 16]),(.cond 18 .skip (.exit 0)),(.block 1 (zsq [(.reg [zia 19 15 17 Qx,zLd 20 19 14,zop 5 (.new 63 (z0s Qx)),zst 5 20 14]),(.draw [zfa 21 3 1,zld 22 21 1,zLd 23 5 14,zca 24 111 [23],zop 25 (.bsl 63 Qx [24]),zop 26 (.app 22 25 63 Qx),zfa 27 3 1,zst 27 26 1] [(0,3),(1,3),(0,4),(1,4)])])),(.reg [zbi 28 .add 17 (zki 1),zmv 17 28])])
def Qru:List (Nat × Md):=[(1,.b (zds 4)),(2,.b (zds 4)),(3,.b [.d,.o 63,.o 97,.o 97]),(15,.one .d),(16,.one .d),(17,.one .d)]
def Qri:TCode :=
 (zsq [(.reg [zbi 33 .lss 32 31]),(.cond 33 .skip (.exit 2)),(.block 3 (zsq [(.reg [zia 34 30 32 QL,zLd 35 34 2,zop 7 (.new 97 (z0s QL)),zst 7 35 2]),(.draw [zfa 36 3 2,zld 37 36 1,zLd 38 7 2,zca 39 157 [38],zop 40 (.bsl 97 QL [39]),zop 41 (.app 37 40 97 QL),zfa 42 3 2,zst 42 41 1] [(0,3),(1,3),(0,4),(1,4)])])),(.reg [zbi 43 .add 32 (zki 1),zmv 32 43])])
def QrR:List (Nat × Md):=[(1,.b (zds 4)),(2,.b (zds 4)),(3,.b [.d,.f,.f,.f]),(30,.one .d),(31,.one .d),(32,.one .d)]
def Qz0:TCode :=
 (zsq [(.reg [zbi 48 .lss 47 46]),(.cond 48 .skip (.exit 4)),(.block 5 (zsq [(.reg [zia 49 45 47 QL,zLd 50 49 2,zop 9 (.new 97 (z0s QL)),zst 9 50 2]),(.draw [zfa 51 3 3,zld 52 51 1,zLd 53 9 2,zca 54 157 [53],zop 55 (.bsl 97 QL [54]),zop 56 (.app 52 55 97 QL),zfa 57 3 3,zst 57 56 1] [(0,3),(1,3),(0,4),(1,4)])])),(.reg [zbi 58 .add 47 (zki 1),zmv 47 58])])
def QwE:List (Nat × Md):=[(2,.b (zds 4)),(3,.b [.d,.f,.f,.f]),(45,.one .d),(46,.one .d),(47,.one .d)]
def QrW:TCode :=
 (zsq [(.reg [zLd 59 3 4,zst 2 59 4]),.ret])
def Quh:TCode :=
 (zsq [(zsq [(.reg [zfa 44 1 3,zld 45 44 1,zle 46 45,zmv 47 (zki 0)]),(.block 4 (.loop QwE Qz0))]),QrW])
def QxK:TCode :=
 (zsq [(zsq [(.reg [zfa 29 1 2,zld 30 29 1,zle 31 30,zmv 32 (zki 0)]),(.block 2 (.loop QrR Qri))]),Quh])
def QLx:TCode :=
 (zsq [(.reg [zop 1 (.box 37 0 4),zop 2 (.new 37 (z0s Q9))]),(.reg [zfa 10 1 0,zld 11 10 1,zca 12 70 [11],zop 13 (.build (z0s Q9) [(0,1,12)]),zop 3 (.new 37 (z0s Q9)),zst 3 13 4]),(zsq [(.reg [zfa 14 1 1,zld 15 14 1,zle 16 15,zmv 17 (zki 0)]),(.block 0 (.loop Qru Qp8))]),QxK])
def Qp7:List (ARv × Md):=[(.l 2 4 true,.b [.d,.o 63,.o 97,.o 97])]
def QdV:Qb:=TQ 0 0 Qp7 K
def QLI:Qb:=Qseq (tawp Qc4 0 QrW (QdV K)) (QdV K)
def QPA:Qb:=Qblk 4 (QLI K)
def QfG (p:Qr) (x2:Int) (q12:List Qc) (q21:List Qm) (q3:List Qm):Prop:=Loop Qc4 0 QwE Qz0 (QPA K) ⟨[(2,(.p 0 0 0)),(3,(.p 4 0 0)),(45,(zcs QL p.2.2.2)),(46,(zci ((p.2.2.2).length:Int))),(47,(zci x2))],[(0,(.box (Tup.cells Q9 ([],[],[],[])))),(1,(.sl 63 Qx true q12)),(2,(.sl 97 QL true q21)),(3,(.sl 97 QL true q3)),(4,(.box [(zcs QB (id (α:=List Qd) p.1)),(.r Qx 1 0 q12.length),(.r QL 2 0 q21.length),(.r QL 3 0 q3.length)]))],5⟩
def QHY:Qb:=Qseq (tawp Qc4 0 Quh (QdV K)) (QdV K)
def QNY:Qb:=Qblk 2 (QHY K)
def Qeo (p:Qr) (x1:Int) (q11:List Qc) (q2:List Qm):Prop:=Loop Qc4 0 QrR Qri (QNY K) ⟨[(1,(.p 0 0 0)),(2,(.p 1 0 0)),(3,(.p 5 0 0)),(30,(zcs QL p.2.2.1)),(31,(zci ((p.2.2.1).length:Int))),(32,(zci x1))],[(0,(.box (Tup.cells Q9 p))),(1,(.box (Tup.cells Q9 ([],[],[],[])))),(2,(.sl 63 Qx true q11)),(3,(.sl 97 QL true q2)),(4,(.sl 97 QL true ([]:List Qm))),(5,(.box [(zcs QB (id (α:=List Qd) p.1)),(.r Qx 2 0 q11.length),(.r QL 3 0 q2.length),(.r QL 4 0 0)]))],6⟩
def QBT:Qb:=Qseq (tawp Qc4 0 QxK (QdV K)) (QdV K)
def QBU:Qb:=Qblk 0 (QBT K)
def Qhm (p:Qr) (x:Int) (q1:List Qc):Prop:=Loop Qc4 0 Qru Qp8 (QBU K) ⟨[(1,(.p 0 0 0)),(2,(.p 1 0 0)),(3,(.p 5 0 0)),(15,(zcs Qx p.2.1)),(16,(zci ((p.2.1).length:Int))),(17,(zci x))],[(0,(.box (Tup.cells Q9 p))),(1,(.box (Tup.cells Q9 ([],[],[],[])))),(2,(.sl 63 Qx true q1)),(3,(.sl 97 QL true ([]:List Qm))),(4,(.sl 97 QL true ([]:List Qm))),(5,(.box [(zcs QB (id (α:=List Qd) p.1)),(.r Qx 2 0 q1.length),(.r QL 3 0 0),(.r QL 4 0 0)]))],6⟩
theorem Qxr (p:Qr) (x2:Int) (q12:List Qc) (q21:List Qm) (q3:List Qm) (h :
 (zif (decide (x2<((p.2.2.2).length:Int))) (((0:Int)≤x2∧Int.toNat x2<(p.2.2.2).length)∧(((QI (α:=Qm) (gtd QW p.2.2.2 (Int.toNat x2)))∧((q3.length=q3.length∨q3.length+1≤q3.length)∧q3.length+1≤big))∧(QfG K p (w64 (x2+(1:Int))) (List.take q12.length q12) (List.take q21.length q21) (List.take (q3.length+1) ((List.take q3.length q3)++([((id (α:=Qm) (gtd QW p.2.2.2 (Int.toNat x2))).1,(List.take (((id (α:=Qm) (gtd QW p.2.2.2 (Int.toNat x2))).2).length) (List.drop 0 ((id (α:=Qm) (gtd QW p.2.2.2 (Int.toNat x2))).2))))])))))) (K (Jc ((id (α:=List Qd) p.1),(List.take q12.length q12),(List.take q21.length q21),(List.take q3.length q3)))))):QfG K p x2 q12 q21 q3 :=
 Loop.of (by kernel_rfl) h
theorem QsO (p:Qr) (x1:Int) (q11:List Qc) (q2:List Qm) (h :
 (zif (decide (x1<((p.2.2.1).length:Int))) (((0:Int)≤x1∧Int.toNat x1<(p.2.2.1).length)∧(((QI (α:=Qm) (gtd QW p.2.2.1 (Int.toNat x1)))∧((q2.length=q2.length∨q2.length+1≤q2.length)∧q2.length+1≤big))∧(Qeo K p (w64 (x1+(1:Int))) (List.take q11.length q11) (List.take (q2.length+1) ((List.take q2.length q2)++([((id (α:=Qm) (gtd QW p.2.2.1 (Int.toNat x1))).1,(List.take (((id (α:=Qm) (gtd QW p.2.2.1 (Int.toNat x1))).2).length) (List.drop 0 ((id (α:=Qm) (gtd QW p.2.2.1 (Int.toNat x1))).2))))])))))) (QfG K p 0 (List.take q11.length q11) (List.take q2.length q2) ([]:List Qm)))):Qeo K p x1 q11 q2 :=
 Loop.of (by kernel_rfl) h
theorem QtD (p:Qr) (x:Int) (q1:List Qc) (h :
 let z1:=id (α:=Qc) (gtd QQ p.2.1 (Int.toNat x))
 (zif (decide (x<((p.2.1).length:Int))) (((0:Int)≤x∧Int.toNat x<(p.2.1).length)∧(((QI (α:=Qc) (gtd QQ p.2.1 (Int.toNat x)))∧((q1.length=q1.length∨q1.length+1≤q1.length)∧q1.length+1≤big))∧(Qhm K p (w64 (x+(1:Int))) (List.take (q1.length+1) ((List.take q1.length q1)++([(z1.1,z1.2.1,z1.2.2.1,z1.2.2.2.1,z1.2.2.2.2.1,(List.take ((z1.2.2.2.2.2.1).length) (List.drop 0 (z1.2.2.2.2.2.1))),z1.2.2.2.2.2.2.1,z1.2.2.2.2.2.2.2.1,z1.2.2.2.2.2.2.2.2.1,z1.2.2.2.2.2.2.2.2.2.1,z1.2.2.2.2.2.2.2.2.2.2.1,z1.2.2.2.2.2.2.2.2.2.2.2.1,z1.2.2.2.2.2.2.2.2.2.2.2.2.1,z1.2.2.2.2.2.2.2.2.2.2.2.2.2)])))))) (Qeo K p 0 (List.take q1.length q1) ([]:List Qm)))):Qhm K p x q1 :=
 Loop.of (by kernel_rfl) h
theorem QNl (p:Qr) (h :
 ((QI (α:=List Qd) p.1)∧(Qhm K p 0 ([]:List Qc)))):Hold (tawp Qc4 (0+0) QLx (TQ 0 0 Qp7 K) (Qf [(.a (Tup.cells Q9 p))])) :=
 Hold.of (by kernel_rfl) h
theorem QBY (p:Qr) (hp:QI (α:=Qr) p):TCon Tryz.prog 79 [(.a (Tup.cells Q9 p))] (Jc (id (α:=Qr) p)):=by
 refine Qq rfl fun hb=>tcg (n:=60) (sg:=QkY.sg) Qj (TOk.cons Qxl (TOk.cons Qiz (TOk.cons Qkb TOk.nil))) (by kernel_rfl) (by kernel_rfl) (QNl _ p ?_)
 have hl_p_0:(p.1).length≤9223372036854775807:=hb.1.1.1
 have hl_p_1:(p.2.1).length≤9223372036854775807:=hb.1.2.1.1
 have hl_p_2:(p.2.2.1).length≤9223372036854775807:=hb.1.2.2.1.1
 have hl_p_3:(p.2.2.2).length≤9223372036854775807:=hb.1.2.2.2.1.1
 have hp':Sz.sz p≤2147483648:=hp
 have hs:Sz.sz p=Sz.sz p.1+Sz.sz p.2.1+Sz.sz p.2.2.1+Sz.sz p.2.2.2:=Qd4 p
 have k6:QfG (fun r'=>r'=Jc (id (α:=Qr) p)) p 0 p.2.1 p.2.2.1 ([]):=by
  refine Qca (l:=p.2.2.2) (A:=fun i v=>QfG (fun r'=>r'=Jc (id (α:=Qr) p)) p i p.2.1 p.2.2.1 v) (Q:=fun z=>Jc (p.1,p.2.1,p.2.2.1,z)=Jc (id (α:=Qr) p)) (by omega) (fun k x v hk hl hg hv hx ih=>?_) (fun hq=>?_) (R_eq rfl)
  ·refine Qxr (fun r'=>r'=Jc (id (α:=Qr) p)) p _ _ _ _ ⟨fun _=>?_,fun h=>by simp at h;omega⟩
   rw [Int.toNat_natCast,hg,sc1 (by omega),Zq]
   simp only [id,List.drop_zero,List.take_length]
   exact ⟨⟨by omega,hk⟩,⟨by unfold QI;omega,(by first | exact room (by omega) | (simp [Zi];omega))⟩,ih⟩
  ·refine Qxr (fun r'=>r'=Jc (id (α:=Qr) p)) p _ _ _ _ ⟨fun h=>by simp at h,fun _=>?_⟩
   simp only [id,List.drop_zero,List.take_length]
   first | done | exact hq | trivial
 have k4:Qeo (fun r'=>r'=Jc (id (α:=Qr) p)) p 0 p.2.1 ([]):=by
  refine Qca (l:=p.2.2.1) (A:=fun i v=>Qeo (fun r'=>r'=Jc (id (α:=Qr) p)) p i p.2.1 v) (Q:=fun z=>z=p.2.2.1) (by omega) (fun k x v hk hl hg hv hx ih=>?_) (fun hq=>?_) rfl
  ·refine QsO (fun r'=>r'=Jc (id (α:=Qr) p)) p _ _ _ ⟨fun _=>?_,fun h=>by simp at h;omega⟩
   rw [Int.toNat_natCast,hg,sc1 (by omega),Zq]
   simp only [id,List.drop_zero,List.take_length]
   exact ⟨⟨by omega,hk⟩,⟨by unfold QI;omega,(by first | exact room (by omega) | (simp [Zi];omega))⟩,ih⟩
  ·refine QsO (fun r'=>r'=Jc (id (α:=Qr) p)) p _ _ _ ⟨fun h=>by simp at h,fun _=>?_⟩
   simp only [id,List.drop_zero,List.take_length]
   exact k6
 refine ⟨by unfold QI;omega,?_⟩
 refine Qca (l:=p.2.1) (A:=fun i v=>Qhm (fun r'=>r'=Jc (id (α:=Qr) p)) p i v) (Q:=fun z=>z=p.2.1) (by omega) (fun k x v hk hl hg hv hx ih=>?_) (fun hq=>?_) rfl
 ·refine QtD (fun r'=>r'=Jc (id (α:=Qr) p)) p _ _ ⟨fun _=>?_,fun h=>by simp at h;omega⟩
  rw [Int.toNat_natCast,hg,sc1 (by omega),Zq]
  simp only [id,List.drop_zero,List.take_length]
  exact ⟨⟨by omega,hk⟩,⟨by unfold QI;omega,(by first | exact room (by omega) | (simp [Zi];omega))⟩,ih⟩
 ·refine QtD (fun r'=>r'=Jc (id (α:=Qr) p)) p _ _ ⟨fun h=>by simp at h,fun _=>?_⟩
  simp only [id,List.drop_zero,List.take_length]
  exact k4
theorem QCN:Qh Tryz.prog QkY:=Qk fun x h=>QBY x.1 h
def Qb5 (t:Qr):TRes:=zra (.a (Tup.cells Q9 t))
def QnS:TRow:=Qg 33 [(.a Q9),(.c TI)] fun x=>(some (Qnx x.1 x.2.1),Qb5 (Yg x.1 x.2.1))
def QhT:List TRow:=[QkY,QnW,Qgz,Qnr,Qlo,QkT,Qkp,Qoj]
def Qy1:TCode :=
 (.draw [zLd 67 6 14,zfa 68 7 1,zld 69 68 1,zmv 70 11,zfa 71 5 0,zld 72 71 1,zfa 73 7 1,zld 74 73 1,zia 75 72 74 QB,zfa 76 75 1,zld 77 76 1,zca 78 44 [67,69,70,77],zst 6 78 14] [])
def QFa:List (Nat × Md):=[(1,.one .d),(4,.b (zds 4)),(5,.b [.d,.f,.f,.f]),(6,.b (zds 14)),(7,.b [.d,.d]),(11,.one .d)]
def QO0:TCode:=.wk QFa Qy1
def Qy8:TCode :=
 (zsq [(.reg [zfa 165 6 0,zld 166 165 1,zbi 167 .add 166 (zki 1),zfa 168 6 0,zst 168 167 1]),(.reg [zfa 169 5 1,zld 170 169 1,zmv 171 1,zLd 172 6 14,zia 173 170 171 Qx,zst 173 172 14]),(.reg [zLd 174 5 4,zst 4 174 4]),.ret])
def QNb:List (Nat × Md):=[(1,.one .d),(4,.b (zds 4)),(5,.b [.d,.f,.f,.f]),(6,.b (zds 14))]
def QuH:TCode:=.wk QNb Qy8
def QOF:TCode :=
 (zsq [(.reg [zop 2 (.box 37 0 4),zop 4 (.new 37 (z0s Q9))]),(.reg [zLd 15 2 4,zca 16 79 [15],zop 5 (.new 37 (z0s Q9)),zst 5 16 4]),(zsq [(.reg [zLd 17 2 4,zmv 18 1,zca 19 34 [17,18],zno 20 19]),(.cond 20 (zsq [(.reg [zLd 21 5 4,zst 4 21 4]),.ret]) .skip)]),(.reg [zfa 22 5 1,zld 23 22 1,zmv 24 1,zia 25 23 24 Qx,zLd 26 25 14,zop 6 (.new 63 (z0s Qx)),zst 6 26 14]),(.reg [zLd 27 2 4,zmv 28 1,zca 29 96 [27,28],zop 7 (.new 111 (z0s QP)),zst 7 29 2]),(zsq [(.reg [zfa 30 7 0,zld 31 30 1]),(.block 0 (zsq [(.reg [zbi 33 .eql 31 (zki 1),zmv 32 33]),(.cond 32 (zsq [(.reg [zfa 35 5 2,zld 36 35 1,zmv 37 1,zbi 38 .sub 37 (zki 1),zia 39 36 38 QL,zLd 40 39 2,zca 41 97 [40],zmv 34 41,zex 42 34 0,zex 43 34 1,zex 44 34 2,zop 8 (.new 97 (z0s QL)),zop 9 (.new 114 (z0s Zp)),zst 8 42 2,zst 9 43 2,zmv 10 44]),(.reg [zfa 45 5 2,zld 46 45 1,zmv 47 1,zbi 48 .sub 47 (zki 1),zLd 49 8 2,zia 50 46 48 QL,zst 50 49 2]),(.reg [zfa 51 9 1,zld 52 51 1,zfa 53 6 7,zst 53 52 1])]) (zsq [(.reg [zbi 55 .eql 31 (zki 2),zmv 54 55]),(.cond 54 (zsq [(.reg [zfa 56 6 7,zld 57 56 1,zmv 11 57]),(zsq [(.reg [zmv 58 1,zbi 59 .eql 58 (zki 0)]),(.cond 59 (.reg [zfa 60 5 0,zld 61 60 1,zfa 62 7 1,zld 63 62 1,zia 64 61 63 QB,zfa 65 64 0,zld 66 65 1,zmv 11 66]) .skip)]),QO0]) (zsq [(.reg [zbi 80 .eql 31 (zki 3),zmv 79 80]),(.cond 79 (zsq [(.draw [zfa 82 5 2,zld 83 82 1,zmv 84 1,zfa 85 5 2,zld 86 85 1,zmv 87 1,zia 88 86 87 QL,zLd 89 88 2,zfa 90 7 1,zld 91 90 1,zfa 92 6 8,zld 93 92 1,zop 94 (.build (z0s Zp) [(0,1,91),(1,1,93)]),zca 95 98 [89,94],zmv 81 95,zex 96 81 0,zex 97 81 1,zia 98 83 84 QL,zst 98 96 2] [(0,13),(1,13)]),(.reg [zfa 99 6 8,zst 99 (.k (.n [TI])) 1])]) (zsq [(.reg [zbi 101 .eql 31 (zki 4),zmv 100 101]),(.cond 100 (zsq [(.reg [zfa 103 5 3,zld 104 103 1,zmv 105 1,zia 106 104 105 QL,zLd 107 106 2,zca 108 97 [107],zmv 102 108,zex 109 102 0,zex 110 102 1,zex 111 102 2,zop 12 (.new 97 (z0s QL)),zop 13 (.new 114 (z0s Zp)),zst 12 109 2,zst 13 110 2,zmv 14 111]),(.reg [zfa 112 5 3,zld 113 112 1,zmv 114 1,zLd 115 12 2,zia 116 113 114 QL,zst 116 115 2]),(.reg [zfa 117 13 1,zld 118 117 1,zfa 119 6 9,zst 119 118 1])]) (zsq [(.reg [zbi 121 .eql 31 (zki 5),zmv 120 121]),(.cond 120 (.reg [zLd 122 6 14,zfa 123 7 1,zld 124 123 1,zca 125 46 [122,124],zst 6 125 14]) (zsq [(.reg [zbi 127 .eql 31 (zki 6),zmv 126 127]),(.cond 126 (zsq [(.draw [zLd 128 6 14,zfa 129 7 1,zld 130 129 1,zfa 131 5 0,zld 132 131 1,zfa 133 7 1,zld 134 133 1,zia 135 132 134 QB,zfa 136 135 1,zld 137 136 1,zca 138 48 [128,130,137],zst 6 138 14] []),(.reg [zmv 139 1,zbi 140 .eql 139 (zki 0)]),(.cond 140 (.reg [zfa 141 6 10,zst 141 (.k (.n [TI])) 1]) .skip)]) (zsq [(.reg [zbi 143 .eql 31 (zki 7),zmv 142 143]),(.cond 142 (zsq [(.draw [zfa 145 5 3,zld 146 145 1,zmv 147 1,zbi 148 .sub 147 (zki 1),zfa 149 5 3,zld 150 149 1,zmv 151 1,zbi 152 .sub 151 (zki 1),zia 153 150 152 QL,zLd 154 153 2,zfa 155 7 1,zld 156 155 1,zfa 157 6 10,zld 158 157 1,zop 159 (.build (z0s Zp) [(0,1,156),(1,1,158)]),zca 160 98 [154,159],zmv 144 160,zex 161 144 0,zex 162 144 1,zia 163 146 148 QL,zst 163 161 2] [(0,15),(1,15)]),(.reg [zfa 164 6 10,zst 164 (.k (.n [TI])) 1])]) .skip)]))]))]))]))]))]))]))]),QuH])
def QrV:List (ARv × Md):=[(.l 4 4 true,.b (zds 4))]
def Qkk:Qb:=TQ 0 0 QrV K
@[irreducible] def Qae (p:Qr) (s:Int) (q1:List Qc) (q2:List Qm) (q3:List Qm) (x0:Int) (x1:List TIns) (x2:List TOp') (x3:Bool) (x4:Bool) (x5:List Yi) (x6:List (List Int)) (x7:List Int) (x8:List Int) (x9:List Int) (x10:List Int) (x11:List (List Int)) (x12:Int) (x13:Bool):Prop:=tawp QhT 0 Qy8 (Qkk K) ⟨[(1,(zci s)),(4,(.p 0 0 0)),(5,(.p 4 0 0)),(6,(.p 5 0 0))],[(0,(.box (Tup.cells Q9 ([],[],[],[])))),(1,(.sl 63 Qx true q1)),(2,(.sl 97 QL true q2)),(3,(.sl 97 QL true q3)),(4,(.box [(zcs QB ((id (α:=Qr) p).1)),(.r Qx 1 0 q1.length),(.r QL 2 0 q2.length),(.r QL 3 0 q3.length)])),(5,(.box (Tup.cells Qx (x0,x1,x2,x3,x4,x5,x6,x7,x8,x9,x10,x11,x12,x13))))],6⟩
def QJW:Qb:=Qseq (tawp QhT 0 QuH (Qkk K)) (Qkk K)
def QMc:Qb:=Qblk 0 (QJW K)
@[irreducible] def QiR (p:Qr) (s:Int) (inn:List Int):Prop:=let z1:=id (α:=Qr) p
 tawp QhT 0 Qy1 (QMc K) ⟨[(1,(zci s)),(4,(.p 0 0 0)),(5,(.p 4 0 0)),(6,(.p 5 0 0)),(7,(.p 6 0 0)),(11,(zcs [TI] inn))],[(0,(.box (Tup.cells Q9 ([],[],[],[])))),(1,(.sl 63 Qx true (List.take ((z1.2.1).length) (z1.2.1)))),(2,(.sl 97 QL true (List.take ((z1.2.2.1).length) (z1.2.2.1)))),(3,(.sl 97 QL true (List.take ((z1.2.2.2).length) (z1.2.2.2)))),(4,(.box [(zcs QB (z1.1)),(.r Qx 1 0 ((List.take ((z1.2.1).length) (z1.2.1)).length)),(.r QL 2 0 ((List.take ((z1.2.2.1).length) (z1.2.2.1)).length)),(.r QL 3 0 ((List.take ((z1.2.2.2).length) (z1.2.2.2)).length))])),(5,(.box (Tup.cells Qx (gtd QQ (z1.2.1) (0+(Int.toNat s)))))),(6,(.box [(zci ((Qt p s).1)),(zci ((Qt p s).2))]))],7⟩
theorem QMl (p:Qr) (s:Int) (q1:List Qc) (q2:List Qm) (q3:List Qm) (x0:Int) (x1:List TIns) (x2:List TOp') (x3:Bool) (x4:Bool) (x5:List Yi) (x6:List (List Int)) (x7:List Int) (x8:List Int) (x9:List Int) (x10:List Int) (x11:List (List Int)) (x12:Int) (x13:Bool) (h :
 ((((0:Int)≤s∧Int.toNat s<q1.length)∧((0+(Int.toNat s))<q1.length))∧K (Qb5 ((id (α:=Qr) p).1,(List.take q1.length (List.drop 0 ((q1).set (0+(Int.toNat s)) (w64 (x0+(1:Int)),x1,x2,x3,x4,x5,x6,x7,x8,x9,x10,x11,x12,x13)))),(List.take q2.length (List.drop 0 q2)),(List.take q3.length (List.drop 0 q3)))))):Hold (Qae K p s q1 q2 q3 x0 x1 x2 x3 x4 x5 x6 x7 x8 x9 x10 x11 x12 x13) :=
 Hold.of (by kernel_rfl) h
theorem QCX (p:Qr) (s:Int) (inn:List Int) (h :
 let z2:=id (α:=Qr) p
 let z3:=gtd Zn (z2.1) (Int.toNat ((Qt p s).2))
 let z1:=YW (gtd QQ (z2.2.1) (0+(Int.toNat s))) ((Qt p s).2) inn (z3.2)
 ((((0:Int)≤(Qt p s).2∧Int.toNat ((Qt p s).2)<(z2.1).length)∧(Qgt (gtd QQ (z2.2.1) (0+(Int.toNat s))) ((Qt p s).2) inn (z3.2)))∧(Qae K p s (List.take ((List.take ((z2.2.1).length) (z2.2.1)).length) (List.take ((z2.2.1).length) (z2.2.1))) (List.take ((List.take ((z2.2.2.1).length) (z2.2.2.1)).length) (List.take ((z2.2.2.1).length) (z2.2.2.1))) (List.take ((List.take ((z2.2.2.2).length) (z2.2.2.2)).length) (List.take ((z2.2.2.2).length) (z2.2.2.2))) (z1.1) (z1.2.1) (z1.2.2.1) (z1.2.2.2.1) (z1.2.2.2.2.1) (z1.2.2.2.2.2.1) (z1.2.2.2.2.2.2.1) (z1.2.2.2.2.2.2.2.1) (z1.2.2.2.2.2.2.2.2.1) (z1.2.2.2.2.2.2.2.2.2.1) (z1.2.2.2.2.2.2.2.2.2.2.1) (z1.2.2.2.2.2.2.2.2.2.2.2.1) (z1.2.2.2.2.2.2.2.2.2.2.2.2.1) (z1.2.2.2.2.2.2.2.2.2.2.2.2.2)))):Hold (QiR K p s inn) :=
 Hold.of (by kernel_rfl) h
theorem QJT (p:Qr) (s:Int) (h :
 let z3:=id (α:=Qr) p
 let z1:=gtd QQ (z3.2.1) (0+(Int.toNat s))
 let z4:=Jk z1 ((Qt p s).2)
 let z6:=List.take ((z3.2.1).length) (z3.2.1)
 let z7:=List.take ((z3.2.2.2).length) (z3.2.2.2)
 let z8:=List.take ((z3.2.2.1).length) (z3.2.2.1)
 let z11:=gtd Zn (z3.1) (Int.toNat ((Qt p s).2))
 let z2:=Z3 z1 ((Qt p s).2) (z11.2)
 let z12:=gtd QW (z3.2.2.2) (0+(Int.toNat s))
 let z13:=w64 (s-(1:Int))
 let z5:=Int.toNat z13
 let z10:=Y2 (gtd QW (z3.2.2.2) (0+z5)) ((Qt p s).2,z1.2.2.2.2.2.2.2.2.2.2.1)
 let z14:=gtd QW (z3.2.2.1) (0+z5)
 let z15:=gtd QW (z3.2.2.1) (0+(Int.toNat s))
 let z9:=Y2 z15 ((Qt p s).2,z1.2.2.2.2.2.2.2.2.1)
 ((QI (α:=Qr) p)∧(zif (!(YF p s)) (K (Qb5 (z3.1,(List.take ((z3.2.1).length) (List.drop 0 (z3.2.1))),(List.take ((z3.2.2.1).length) (List.drop 0 (z3.2.2.1))),(List.take ((z3.2.2.2).length) (List.drop 0 (z3.2.2.2)))))) ((((0:Int)≤s∧Int.toNat s<(z3.2.1).length)∧((0+(Int.toNat s))<(z3.2.1).length))∧(zif (((Qt p s).1)==(1:Int)) ((((0:Int)≤w64 (s-(1:Int))∧Int.toNat z13<(z3.2.2.1).length)∧(((0+z5)<(z3.2.2.1).length)∧(QI (α:=Qm) z14)))∧((((0:Int)≤w64 (s-(1:Int))∧Int.toNat z13<(z3.2.2.1).length)∧((0+z5)<(z3.2.2.1).length))∧(Qae K p s z6 (List.take ((z3.2.2.1).length) ((z3.2.2.1).set (0+z5) ((ZH z14).1))) z7 (z1.1) (z1.2.1) (z1.2.2.1) (z1.2.2.2.1) (z1.2.2.2.2.1) (z1.2.2.2.2.2.1) (z1.2.2.2.2.2.2.1) (((ZH z14).2.1).2) (z1.2.2.2.2.2.2.2.2.1) (z1.2.2.2.2.2.2.2.2.2.1) (z1.2.2.2.2.2.2.2.2.2.2.1) (z1.2.2.2.2.2.2.2.2.2.2.2.1) (z1.2.2.2.2.2.2.2.2.2.2.2.2.1) (z1.2.2.2.2.2.2.2.2.2.2.2.2.2)))) (zif (((Qt p s).1)==(2:Int)) (zif (s==(0:Int)) (((0:Int)≤(Qt p s).2∧Int.toNat ((Qt p s).2)<(z3.1).length)∧(QiR K p s (z11.1))) (QiR K p s (z1.2.2.2.2.2.2.2.1))) (zif (((Qt p s).1)==(3:Int)) ((((0:Int)≤s∧Int.toNat s<(z3.2.2.1).length)∧(((0+(Int.toNat s))<(z3.2.2.1).length)∧((JR (α:=Qm) (β:=Z8) z15 ((Qt p s).2,z1.2.2.2.2.2.2.2.2.1))∧(((0:Int)≤s∧Int.toNat s<(z3.2.2.1).length)∧((0+(Int.toNat s))<(z3.2.2.1).length)))))∧(Qae K p s z6 (List.take ((z3.2.2.1).length) ((z3.2.2.1).set (0+(Int.toNat s)) ((z9.1).1,(List.take (((z9.1).2).length) (List.drop 0 ((z9.1).2)))))) z7 (z1.1) (z1.2.1) (z1.2.2.1) (z1.2.2.2.1) (z1.2.2.2.2.1) (z1.2.2.2.2.2.1) (z1.2.2.2.2.2.2.1) (z1.2.2.2.2.2.2.2.1) ([]) (z1.2.2.2.2.2.2.2.2.2.1) (z1.2.2.2.2.2.2.2.2.2.2.1) (z1.2.2.2.2.2.2.2.2.2.2.2.1) (z1.2.2.2.2.2.2.2.2.2.2.2.2.1) (z1.2.2.2.2.2.2.2.2.2.2.2.2.2))) (zif (((Qt p s).1)==(4:Int)) ((((0:Int)≤s∧Int.toNat s<(z3.2.2.2).length)∧(((0+(Int.toNat s))<(z3.2.2.2).length)∧(QI (α:=Qm) z12)))∧((((0:Int)≤s∧Int.toNat s<(z3.2.2.2).length)∧((0+(Int.toNat s))<(z3.2.2.2).length))∧(Qae K p s z6 z8 (List.take ((z3.2.2.2).length) ((z3.2.2.2).set (0+(Int.toNat s)) ((ZH z12).1))) (z1.1) (z1.2.1) (z1.2.2.1) (z1.2.2.2.1) (z1.2.2.2.2.1) (z1.2.2.2.2.2.1) (z1.2.2.2.2.2.2.1) (z1.2.2.2.2.2.2.2.1) (z1.2.2.2.2.2.2.2.2.1) (((ZH z12).2.1).2) (z1.2.2.2.2.2.2.2.2.2.2.1) (z1.2.2.2.2.2.2.2.2.2.2.2.1) (z1.2.2.2.2.2.2.2.2.2.2.2.2.1) (z1.2.2.2.2.2.2.2.2.2.2.2.2.2)))) (zif (((Qt p s).1)==(5:Int)) ((QiN z1 ((Qt p s).2))∧(Qae K p s z6 z8 z7 (z4.1) (z4.2.1) (z4.2.2.1) (z4.2.2.2.1) (z4.2.2.2.2.1) (z4.2.2.2.2.2.1) (z4.2.2.2.2.2.2.1) (z4.2.2.2.2.2.2.2.1) (z4.2.2.2.2.2.2.2.2.1) (z4.2.2.2.2.2.2.2.2.2.1) (z4.2.2.2.2.2.2.2.2.2.2.1) (z4.2.2.2.2.2.2.2.2.2.2.2.1) (z4.2.2.2.2.2.2.2.2.2.2.2.2.1) (z4.2.2.2.2.2.2.2.2.2.2.2.2.2))) (zif (((Qt p s).1)==(6:Int)) ((((0:Int)≤(Qt p s).2∧Int.toNat ((Qt p s).2)<(z3.1).length)∧(QiE z1 ((Qt p s).2) (z11.2)))∧(zif (s==(0:Int)) (Qae K p s z6 z8 z7 (z2.1) (z2.2.1) (z2.2.2.1) (z2.2.2.2.1) (z2.2.2.2.2.1) (z2.2.2.2.2.2.1) (z2.2.2.2.2.2.2.1) (z2.2.2.2.2.2.2.2.1) (z2.2.2.2.2.2.2.2.2.1) (z2.2.2.2.2.2.2.2.2.2.1) ([]) (z2.2.2.2.2.2.2.2.2.2.2.2.1) (z2.2.2.2.2.2.2.2.2.2.2.2.2.1) (z2.2.2.2.2.2.2.2.2.2.2.2.2.2)) (Qae K p s z6 z8 z7 (z2.1) (z2.2.1) (z2.2.2.1) (z2.2.2.2.1) (z2.2.2.2.2.1) (z2.2.2.2.2.2.1) (z2.2.2.2.2.2.2.1) (z2.2.2.2.2.2.2.2.1) (z2.2.2.2.2.2.2.2.2.1) (z2.2.2.2.2.2.2.2.2.2.1) (z2.2.2.2.2.2.2.2.2.2.2.1) (z2.2.2.2.2.2.2.2.2.2.2.2.1) (z2.2.2.2.2.2.2.2.2.2.2.2.2.1) (z2.2.2.2.2.2.2.2.2.2.2.2.2.2)))) (zif (((Qt p s).1)==(7:Int)) ((((0:Int)≤w64 (s-(1:Int))∧Int.toNat z13<(z3.2.2.2).length)∧(((0+z5)<(z3.2.2.2).length)∧((JR (α:=Qm) (β:=Z8) (gtd QW (z3.2.2.2) (0+z5)) ((Qt p s).2,z1.2.2.2.2.2.2.2.2.2.2.1))∧(((0:Int)≤w64 (s-(1:Int))∧Int.toNat z13<(z3.2.2.2).length)∧((0+z5)<(z3.2.2.2).length)))))∧(Qae K p s z6 z8 (List.take ((z3.2.2.2).length) ((z3.2.2.2).set (0+z5) ((z10.1).1,(List.take (((z10.1).2).length) (List.drop 0 ((z10.1).2)))))) (z1.1) (z1.2.1) (z1.2.2.1) (z1.2.2.2.1) (z1.2.2.2.2.1) (z1.2.2.2.2.2.1) (z1.2.2.2.2.2.2.1) (z1.2.2.2.2.2.2.2.1) (z1.2.2.2.2.2.2.2.2.1) (z1.2.2.2.2.2.2.2.2.2.1) ([]) (z1.2.2.2.2.2.2.2.2.2.2.2.1) (z1.2.2.2.2.2.2.2.2.2.2.2.2.1) (z1.2.2.2.2.2.2.2.2.2.2.2.2.2))) (Qae K p s z6 z8 z7 (z1.1) (z1.2.1) (z1.2.2.1) (z1.2.2.2.1) (z1.2.2.2.2.1) (z1.2.2.2.2.2.1) (z1.2.2.2.2.2.2.1) (z1.2.2.2.2.2.2.2.1) (z1.2.2.2.2.2.2.2.2.1) (z1.2.2.2.2.2.2.2.2.2.1) (z1.2.2.2.2.2.2.2.2.2.2.1) (z1.2.2.2.2.2.2.2.2.2.2.2.1) (z1.2.2.2.2.2.2.2.2.2.2.2.2.1) (z1.2.2.2.2.2.2.2.2.2.2.2.2.2))))))))))))):Hold (tawp QhT (0+0) QOF (TQ 0 0 QrV K) (Qf [(.a (Tup.cells Q9 p)),(.c TI s)])) :=
 Hold.of (by kernel_rfl) h
theorem QBn (p:Qr) (s:Int) (hp:Qnx p s):TCon Tryz.prog 33 [(.a (Tup.cells Q9 p)),(.c TI s)] (Qb5 (Yg p s)):=by
 refine Qq rfl fun hb=>tcg (n:=175) (sg:=QnS.sg) Qj (TOk.cons QCN (TOk.cons QGJ (TOk.cons Qwh (TOk.cons QFw (TOk.cons QA9 (TOk.cons QMK (TOk.cons QQH (TOk.cons QIA TOk.nil)))))))) (by kernel_rfl) (by kernel_rfl) (QJT _ p s ?_)
 have hl_p_0:(p.1).length≤9223372036854775807:=hb.1.1.1
 have hl_p_1:(p.2.1).length≤9223372036854775807:=hb.1.2.1.1
 have hl_p_2:(p.2.2.1).length≤9223372036854775807:=hb.1.2.2.1.1
 have hl_p_3:(p.2.2.2).length≤9223372036854775807:=hb.1.2.2.2.1.1
 conv=>zeta
 have hp':Sz.sz p≤1073741824:=hp
 have hs:Sz.sz p=Sz.sz p.1+Sz.sz p.2.1+Sz.sz p.2.2.1+Sz.sz p.2.2.2:=Qd4 p
 simp only [id,List.drop_zero,List.take_length,Nat.zero_add]
 refine ⟨by unfold QI;omega,fun h=>R_eq ?_,fun h=>?_⟩
 ·rw [QEX (by simpa using h)]
 have he:YF p s=true:=by simpa using h
 obtain ⟨k,rfl,hk,h4,ha,hb,hst,hm1,hm2,c1,c3,c4,c7,hkind⟩:=QBq he
 have hpc:=QrU hst
 have hxs:=Qfc QQ p.2.1 k
 have hx:=Yl (gtd QQ p.2.1 k)
 have hpl:=Qas (QG (gtd QQ p.2.1 k))
 have hq1:=fun j=>Qfc QW p.2.2.1 j
 have hq2:=fun j=>Qfc QW p.2.2.2 j
 have d0:Sz.sz QQ=0:=rfl
 have d1:Sz.sz QW=0:=rfl
 have ts:∀ (l:List Qm) (i:Nat) (v:Qm),List.take l.length (l.set i v)=l.set i v:=fun l i v=>List.take_of_length_le (by simp)
 simp only [Int.toNat_natCast]
 have key:∀ (y:Qc) (a b:List Qm),Z6 p k (gtd QQ p.2.1 k) (Qt p (k:Int))=(y,a,b)→y.1=(gtd QQ p.2.1 k).1→Qae (fun r'=>r'=Qb5 (Yg p (k:Int))) p (k:Int) p.2.1 a b y.1 y.2.1 y.2.2.1 y.2.2.2.1 y.2.2.2.2.1 y.2.2.2.2.2.1 y.2.2.2.2.2.2.1 y.2.2.2.2.2.2.2.1 y.2.2.2.2.2.2.2.2.1 y.2.2.2.2.2.2.2.2.2.1 y.2.2.2.2.2.2.2.2.2.2.1 y.2.2.2.2.2.2.2.2.2.2.2.1 y.2.2.2.2.2.2.2.2.2.2.2.2.1 y.2.2.2.2.2.2.2.2.2.2.2.2.2:=by
  intro y a b hy hpy
  have hw:w64 (y.1+1)=y.1+1:=by rw [hpy];exact Qo (by ((try simp only [sPc,QG,sOps,Qu,QF,Qi,QK,sX,sY,sG,sD,QD,QC,sSat,QN,QE,Qz,QA] at *);omega)) (by ((try simp only [sPc,QG,sOps,Qu,QF,Qi,QK,sX,sY,sG,sD,QD,QC,sSat,QN,QE,Qz,QA] at *);omega))
  refine (QMl (fun r'=>r'=Qb5 (Yg p (k:Int))) p (k:Int) _ _ _ y.1 y.2.1 y.2.2.1 y.2.2.2.1 y.2.2.2.2.1 y.2.2.2.2.2.1 y.2.2.2.2.2.2.1 y.2.2.2.2.2.2.2.1 y.2.2.2.2.2.2.2.2.1 y.2.2.2.2.2.2.2.2.2.1 y.2.2.2.2.2.2.2.2.2.2.1 y.2.2.2.2.2.2.2.2.2.2.2.1 y.2.2.2.2.2.2.2.2.2.2.2.2.1 y.2.2.2.2.2.2.2.2.2.2.2.2.2 ?_).h
  simp only [id,List.drop_zero,List.take_length,Nat.zero_add,Int.toNat_natCast]
  refine ⟨⟨⟨by omega,hk⟩,hk⟩,R_eq ?_⟩
  rw [QFj he rfl hy hpy,hw,List.take_of_length_le (by simp)]
 have k2:(Qt p (k:Int)).1=2→∀ inn,inn=(if k=0 then (gtd Zn p.1 (Qt p (k:Int)).2.toNat).1 else sX (gtd QQ p.2.1 k))→QiR (fun r'=>r'=Qb5 (Yg p (k:Int))) p (k:Int) inn:=by
  intro g inn hi
  refine (QCX (fun r'=>r'=Qb5 (Yg p (k:Int))) p (k:Int) inn ?_).h
  conv=>zeta
  simp only [id,List.drop_zero,List.take_length,Nat.zero_add,Int.toNat_natCast]
  refine ⟨⟨⟨hm1,by omega⟩,by unfold Qgt;omega⟩,?_⟩
  exact key (YW (gtd QQ p.2.1 k) (Qt p (k:Int)).2 inn (gtd Zn p.1 (Qt p (k:Int)).2.toNat).2) _ _ (by rw [pi2 g,hi]) (QBN _ _ _ _)
 refine ⟨⟨⟨by omega,hk⟩,hk⟩,?_⟩
 refine ⟨fun g=>?_,fun n1=>?_⟩
 ·have g:(Qt p (k:Int)).1=1:=by simpa using g
  have g1:=c1 g
  have e:w64 ((k:Int)-1)=((k-1:Nat):Int):=by rw [Qo (by omega) (by omega)];omega
  rw [e]
  simp only [Int.toNat_natCast]
  rw [ts]
  exact ⟨⟨⟨by omega,by omega⟩,by omega,by unfold QI;have:=hq1 (k-1);omega⟩,⟨⟨by omega,by omega⟩,by omega⟩,key (setX (gtd QQ p.2.1 k) (ZH (gtd QW p.2.2.1 (k-1))).2.1.2) _ _ (pi1 g) rfl⟩
 refine ⟨fun g=>?_,fun n2=>?_⟩
 ·have g:(Qt p (k:Int)).1=2:=by simpa using g
  refine ⟨fun hz=>⟨⟨hm1,by omega⟩,k2 g _ ?_⟩,fun hz=>k2 g _ ?_⟩
  ·rw [if_pos (by simp at hz;omega)]
  ·rw [if_neg (by simp at hz;omega)]
 refine ⟨fun g=>?_,fun n3=>?_⟩
 ·have g:(Qt p (k:Int)).1=3:=by simpa using g
  have g1:=c3 g
  rw [ts]
  refine ⟨⟨⟨by omega,by omega⟩,by omega,?_,⟨by omega,by omega⟩,by omega⟩,key (setY (gtd QQ p.2.1 k) []) _ _ (pi3 g) rfl⟩
  unfold JR;simp only [QcR,Yb];have:=hq1 (k);((try simp only [sPc,QG,sOps,Qu,QF,Qi,QK,sX,sY,sG,sD,QD,QC,sSat,QN,QE,Qz,QA] at *);omega)
 refine ⟨fun g=>?_,fun n4=>?_⟩
 ·have g:(Qt p (k:Int)).1=4:=by simpa using g
  have g1:=c4 g
  rw [ts]
  exact ⟨⟨⟨by omega,by omega⟩,by omega,by unfold QI;have:=hq2 (k);omega⟩,⟨⟨by omega,by omega⟩,by omega⟩,key (setG (gtd QQ p.2.1 k) (ZH (gtd QW p.2.2.2 k)).2.1.2) _ _ (pi4 g) rfl⟩
 refine ⟨fun g=>?_,fun n5=>?_⟩
 ·have g:(Qt p (k:Int)).1=5:=by simpa using g
  exact ⟨by unfold QiN;omega,key (Jk (gtd QQ p.2.1 k) (Qt p (k:Int)).2) _ _ (pi5 g) (QJu _ _)⟩
 refine ⟨fun g=>?_,fun n6=>?_⟩
 ·have g:(Qt p (k:Int)).1=6:=by simpa using g
  refine ⟨⟨⟨hm1,by omega⟩,by unfold QiE;omega⟩,fun hz=>?_,fun hz=>?_⟩
  ·exact key (setD (Z3 (gtd QQ p.2.1 k) (Qt p (k:Int)).2 (gtd Zn p.1 (Qt p (k:Int)).2.toNat).2) []) _ _ (by rw [pi6 g,if_pos (by simp at hz;omega)]) (QyE _ _ _)
  ·exact key (Z3 (gtd QQ p.2.1 k) (Qt p (k:Int)).2 (gtd Zn p.1 (Qt p (k:Int)).2.toNat).2) _ _ (by rw [pi6 g,if_neg (by simp at hz;omega)]) (QyE _ _ _)
 refine ⟨fun g=>?_,fun n7=>?_⟩
 ·have g:(Qt p (k:Int)).1=7:=by simpa using g
  have g1:=c7 g
  have e:w64 ((k:Int)-1)=((k-1:Nat):Int):=by rw [Qo (by omega) (by omega)];omega
  rw [e]
  simp only [Int.toNat_natCast]
  rw [ts]
  refine ⟨⟨⟨by omega,by omega⟩,by omega,?_,⟨by omega,by omega⟩,by omega⟩,key (setD (gtd QQ p.2.1 k) []) _ _ (pi7 g) rfl⟩
  unfold JR;simp only [QcR,Yb];have:=hq2 (k-1);((try simp only [sPc,QG,sOps,Qu,QF,Qi,QK,sX,sY,sG,sD,QD,QC,sSat,QN,QE,Qz,QA] at *);omega)
 ·simp at n1 n2 n3 n4 n5 n6 n7
  exact key (gtd QQ p.2.1 k) _ _ (pi8 (by omega)) rfl
theorem QFP:Qh Tryz.prog QnS:=Qk fun x h=>QBn x.1 x.2.1 h
end
end Go.Proofs.YtjbdljkhbglnhaaGreat.Am

