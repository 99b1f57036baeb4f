/- -/
import Derived.Test.YtdplaepmjogjjaaGreatVEP7
import Derived.Test.YtdplaepmjogjjaaGreatVEPJ
import Derived.Test.YtdplaepmjogjjaaGreatVEP5
import Derived.Test.YtdplaepmjogjjaaGreatVEPL
import Derived.Test.YtdplaepmjogjjaaGreatVEPP
import Derived.Test.YtdplaepmjogjjaaGreatVEPF
import Derived.Test.YtdplaepmjogjjaaGreatVEP1
import Derived.Test.YtdplaepmjogjjaaGreatVEG9
import Derived.Test.YtdplaepmjogjjaaGreatVEP4
import Derived.Test.YtdplaepmjogjjaaGreatVEGD
namespace Go.Proofs.YtdplaepmjogjjaaGreat.Am
open Go Go.RowKit Go.Proofs.YtdplaepmjogjjaaGreat
set_option linter.all false
set_option maxHeartbeats 2000000
noncomputable section
variable (K:TRes→Prop)
def Ys (t:QO):TRes:=⟨(.a [(.r Qj 0 0 ((t.1).length)),(.r Qt 1 0 ((t.2.1).length)),(.r Qw 2 0 ((t.2.2.1).length)),(.r Qw 3 0 ((t.2.2.2).length))]),[(.sl 154 Qj (.dp 0 true []) t.1),(.sl 39 Qt (.dp 0 true []) t.2.1),(.sl 161 Qw (.dp 0 true []) t.2.2.1),(.sl 161 Qw (.dp 0 true []) t.2.2.2)],[],false,[]⟩
def QkD:TRow:=Qg 38 [(.a Qv),(.c (.sl Qj))] fun x=>(none,Ys (QG x.1 x.2.1))
def Qbs:TTab:=⟨[Qid,Qjs,Qbz,Qc9,Qjf,QhR],true⟩
def Qub:TCode :=
 (zsq [(zsq [(.reg [zmv 23 7,zmv 24 6,zbi 25 .lss 23 24]),(.cond 25 .skip (.exit 0))]),(.block 1 (zsq [(.reg [zfa 29 2 0,zLd 30 29 1,zfa 31 2 1,zld 32 31 1,zmv 33 7,zca 34 128 [30,32,33],zmv 28 34,zex 35 28 0,zex 36 28 1,zmv 8 35,zmv 9 36]),(.draw [zfa 37 2 2,zld 38 37 1,zmv 39 6,zmv 40 7,zmv 41 1,zle 42 41,zfa 43 2 3,zld 44 43 1,zmv 45 7,zia 46 44 45 [.bool],zld 47 46 1,zca 48 129 [38,39,40,42,47],zmv 10 48] []),(.draw [zfa 49 5 1,zld 50 49 1,zfa 51 2 0,zfa 52 51 0,zld 53 52 1,zmv 54 8,zmv 55 9,zop 56 (.slc 53 (some 54) (some 55) ctOp),zmv 57 10,zmv 58 7,zmv 59 6,zbi 60 .sub 59 (zki 1),zbi 61 .eql 58 60,zfa 62 2 3,zld 63 62 1,zmv 64 7,zia 65 63 64 [.bool],zld 66 65 1,zca 67 130 [56,57,61,66],zop 68 (.bsl 39 Qt [67]),zop 69 (.app 50 68 39 Qt),zfa 70 5 1,zst 70 69 1] [(0,18),(1,18),(0,19),(1,19)])])),(.reg [zmv 26 7,zbi 27 .add 26 (zki 1),zmv 7 27])])
def Qo6:List (Nat × Md):=[(1,.one .d),(2,.b (zds 6)),(4,.b [.f,.f,.f,.f]),(5,.b [.f,.p 39,.p 161,.p 161]),(6,.one .d),(7,.one .d)]
def QoD:TCode :=
 (zsq [(.reg [zbi 75 .lss 74 73]),(.cond 75 .skip (.exit 2)),(.block 3 (zsq [(.reg [zia 76 72 74 [TI],zld 77 76 1,zmv 12 77]),(.reg [zfa 78 5 2,zld 79 78 1,zmv 80 12,zop 81 (.build (z0s Qw) [(0,1,80)]),zop 82 (.bsl 161 Qw [81]),zop 83 (.app 79 82 161 Qw),zfa 84 5 2,zst 84 83 1]),(.reg [zfa 85 5 3,zld 86 85 1,zmv 87 12,zop 88 (.build (z0s Qw) [(0,1,87)]),zop 89 (.bsl 161 Qw [88]),zop 90 (.app 86 89 161 Qw),zfa 91 5 3,zst 91 90 1])])),(.reg [zbi 92 .add 74 (zki 1),zmv 74 92])])
def QpN:List (Nat × Md):=[(4,.b [.f,.f,.f,.f]),(5,.b [.f,.f,.f,.f]),(72,.one .d),(73,.one .d),(74,.one .d)]
def QtS:TCode :=
 (zsq [(.reg [zLd 93 5 4,zst 4 93 4]),.ret])
def Qry:TCode :=
 (zsq [(zsq [(.reg [zfa 71 2 4,zld 72 71 1,zle 73 72,zmv 74 (zki 0)]),(.block 2 (.loop QpN QoD))]),QtS])
def QEi:TCode :=
 (zsq [(.reg [zop 2 (.box 79 0 6),zop 4 (.new 56 (z0s Zd))]),(zsq [(.reg [zLd 13 2 6,zmv 14 1,zca 15 125 [13,14],zbi 16 .neq 15 (zki 0)]),(.cond 16 (zsq [(.reg [zop 17 (.build (z0s Zd) []),zst 4 17 4]),.ret]) .skip)]),(.reg [zmv 18 1,zca 19 126 [18],zop 20 (.build (z0s Zd) [(0,1,19)]),zop 5 (.new 56 (z0s Zd)),zst 5 20 4]),(.reg [zLd 21 2 6,zca 22 127 [21],zmv 6 22]),(zsq [(.reg [zmv 7 (zki 0)]),(.block 0 (.loop Qo6 Qub))]),Qry])
def Qqu:List (ARv × Md):=[(.l 4 4 true,.b [.p 154,.p 39,.p 161,.p 161])]
def QdZ:Qb:=TQ 0 0 Qqu K
def QD7:Qb:=Qseq (tawp Qbs 0 QtS (QdZ K)) (QdZ K)
def QxZ:Qb:=Qblk 2 (QD7 K)
def Qcg (c:Qf) (x:Int) (p01:List Qc) (p11:List Qr) (p2:List Qp) (p3:List Qp):Prop:=Loop Qbs 0 QpN QoD (QxZ K) ⟨[(4,(.p 0 0 0)),(5,(.p 5 0 0)),(72,(zcs [TI] c.2.2.2.2.1)),(73,(zci ((c.2.2.2.2.1).length:Int))),(74,(zci x))],[(0,(.box [(.n Qj),(.n Qt),(.n Qw),(.n Qw)])),(1,(.sl 154 Qj (.dp 0 true []) p01)),(2,(.sl 39 Qt (.dp 0 true []) p11)),(3,(.sl 161 Qw (.dp 0 true []) p2)),(4,(.sl 161 Qw (.dp 0 true []) p3)),(5,(.box [(.r Qj 1 0 p01.length),(.r Qt 2 0 p11.length),(.r Qw 3 0 p2.length),(.r Qw 4 0 p3.length)]))],6⟩
def QDa:Qb:=Qseq (tawp Qbs 0 Qry (QdZ K)) (QdZ K)
def QCt:Qb:=Qblk 0 (QDa K)
def QbY (c:Qf) (b:List Qc) (s:Int) (p0:List Qc) (p1:List Qr):Prop:=Loop Qbs 0 Qo6 Qub (QCt K) ⟨[(1,(zcs Qj b)),(2,(.p 0 0 0)),(4,(.p 1 0 0)),(5,(.p 6 0 0)),(6,(zci (Qs c))),(7,(zci s))],[(0,(.box (Tup.cells Qv c))),(1,(.box [(.n Qj),(.n Qt),(.n Qw),(.n Qw)])),(2,(.sl 154 Qj (.dp 0 true []) p0)),(3,(.sl 39 Qt (.dp 0 true []) p1)),(4,(.sl 161 Qw (.dp 0 true []) ([]:List Qp))),(5,(.sl 161 Qw (.dp 0 true []) ([]:List Qp))),(6,(.box [(.r Qj 2 0 p0.length),(.r Qt 3 0 p1.length),(.r Qw 4 0 0),(.r Qw 5 0 0)]))],7⟩
theorem QlC (c:Qf) (x:Int) (p01:List Qc) (p11:List Qr) (p2:List Qp) (p3:List Qp) (h :
 (zif (decide (x<((c.2.2.2.2.1).length:Int))) (((0:Int)≤x∧Int.toNat x<(c.2.2.2.2.1).length)∧(((p2.length=p2.length∨p2.length+1≤p2.length)∧p2.length+1≤big)∧(((p3.length=p3.length∨p3.length+1≤p3.length)∧p3.length+1≤big)∧(Qcg K c (w64 (x+(1:Int))) (List.take p01.length p01) (List.take p11.length p11) (List.take (p2.length+1) ((List.take p2.length p2)++([((gtd (0:Int) c.2.2.2.2.1 (Int.toNat x)),[])]))) (List.take (p3.length+1) ((List.take p3.length p3)++([((gtd (0:Int) c.2.2.2.2.1 (Int.toNat x)),[])]))))))) (K (Ys ((List.take p01.length p01),(List.take p11.length p11),(List.take p2.length p2),(List.take p3.length p3)))))):Qcg K c x p01 p11 p2 p3 :=
 Loop.of (by kernel_rfl) h
theorem Qp2 (c:Qf) (b:List Qc) (s:Int) (p0:List Qc) (p1:List Qr) (h :
 let z3:=Qo c.1 c.2.1 s
 let z4:=gtd (false:Bool) c.2.2.2.1 (Int.toNat s)
 let z2:=QT c.2.2.1 (Qs c) s (b.length:Int) z4
 let z5:=List.take (Int.toNat (z3.2)-Int.toNat (z3.1)) (List.drop (Int.toNat (z3.1)) c.1)
 let z1:=Yb z5 (List.take (z2.length) (List.drop 0 z2)) (s==(w64 ((Qs c)-(1:Int)))) z4
 (zif (decide (s<(Qs c))) (((0:Int)≤s∧Int.toNat s<(c.2.2.2.1).length)∧((((0:Int)≤z3.1∧z3.1≤z3.2∧z3.2≤((c.1).length:Int))∧(((0:Int)≤s∧Int.toNat s<(c.2.2.2.1).length)∧((QbI z5 (List.take (z2.length) (List.drop 0 z2)) (s==(w64 ((Qs c)-(1:Int)))) z4)∧((p1.length=p1.length∨p1.length+1≤p1.length)∧p1.length+1≤big))))∧(QbY K c b (w64 (s+(1:Int))) (List.take p0.length p0) (List.take (p1.length+1) ((List.take p1.length p1)++([(z1.1,(List.take ((z1.2.1).length) (List.drop 0 (z1.2.1))),(List.take ((z1.2.2.1).length) (List.drop 0 (z1.2.2.1))),z1.2.2.2.1,z1.2.2.2.2.1,(List.take ((z1.2.2.2.2.2.1).length) (List.drop 0 (z1.2.2.2.2.2.1))),(List.take ((z1.2.2.2.2.2.2.1).length) (List.drop 0 (z1.2.2.2.2.2.2.1))),(List.take ((z1.2.2.2.2.2.2.2.1).length) (List.drop 0 (z1.2.2.2.2.2.2.2.1))),(List.take ((z1.2.2.2.2.2.2.2.2.1).length) (List.drop 0 (z1.2.2.2.2.2.2.2.2.1))),(List.take ((z1.2.2.2.2.2.2.2.2.2.1).length) (List.drop 0 (z1.2.2.2.2.2.2.2.2.2.1))),(List.take ((z1.2.2.2.2.2.2.2.2.2.2.1).length) (List.drop 0 (z1.2.2.2.2.2.2.2.2.2.2.1))),(List.take ((z1.2.2.2.2.2.2.2.2.2.2.2.1).length) (List.drop 0 (z1.2.2.2.2.2.2.2.2.2.2.2.1))),z1.2.2.2.2.2.2.2.2.2.2.2.2.1,z1.2.2.2.2.2.2.2.2.2.2.2.2.2)])))))) (Qcg K c 0 (List.take p0.length p0) (List.take p1.length p1) ([]:List Qp) ([]:List Qp)))):QbY K c b s p0 p1 :=
 Loop.of (by kernel_rfl) h
theorem QHL (c:Qf) (b:List Qc) (h :
 (zif ((QK c b) != (0:Int)) (K (Ys (([]:List Qc),([]:List Qr),([]:List Qp),([]:List Qp)))) ((ZF (α:=List Qc) b)∧(QbY K c b 0 (List.take ((id (α:=List Qc) b).length) (id (α:=List Qc) b)) ([]:List Qr))))):Hold (tawp Qbs (0+0) QEi (TQ 0 0 Qqu K) (Qe [(.a (Tup.cells Qv c)),(.c (.sl Qj) b)])) :=
 Hold.of (by kernel_rfl) h
theorem QvE (c:Qf) (b:List Qc):TCon Tryz.prog 38 [(.a (Tup.cells Qv c)),(.c (.sl Qj) b)] (Ys (QG c b)):=by
 refine Ql rfl fun hb=>tcg (Γ:=Qbs) (n:=94) (sg:=QkD.sg) Qk (TOkL.cons Qy7 (TOkL.cons QFr (TOkL.cons Qd7 (TOkL.cons Qhc (TOkL.cons Qwx (TOkL.cons QBz TOkL.nil)))))) (by kernel_rfl) (by kernel_rfl) (QHL _ c b ?_)
 have hl_c_0:(c.1).length≤9223372036854775807:=hb.1.1.1
 have hl_c_1:(c.2.1).length≤9223372036854775807:=hb.1.2.1.1
 have hl_c_3:(c.2.2.2.1).length≤9223372036854775807:=hb.1.2.2.2.1.1
 have hl_c_4:(c.2.2.2.2.1).length≤9223372036854775807:=hb.1.2.2.2.2.1.1
 have hl_c_5:(c.2.2.2.2.2).length≤9223372036854775807:=hb.1.2.2.2.2.2.1.1
 have hl_b:b.length≤9223372036854775807:=hb.2.1.1
 refine ⟨fun h=>R_eq ?_,fun h=>?_⟩
 ·unfold QG;rw [if_neg (by simpa using h)]
 have h0:QK c b=0:=by simpa using h
 have A:=Qi7 h0
 have hn:=QgO A
 have hM:(QG c b)=(b,Yg c (Qs c) b.length (Qs c).toNat,(YM c).map fun n=>(n,[]),(YM c).map fun n=>(n,[])):=by unfold QG;rw [if_pos h0]
 have h5:=A.stages
 have h6:nSt c=(Ze c).length+1:=rfl
 have h7:c.2.2.2.1.length=(Ze c).length+1:=A.redo
 have h8:c.2.2.2.2.1.length=nSt c-1:=Qj6 A
 have hbs:=Qii A.batch
 have hms:=Qi0 A.model
 refine ⟨by unfold ZF;omega,?_⟩
 have k4:∀ (ss:List Qr),ss=Yg c (Qs c) b.length (Qs c).toNat→Qcg (fun r'=>r'=Ys (QG c b)) c ((0:Nat):Int) b ss ([]) ([]):=by
  intro ss hss
  refine Zy c.2.2.2.2.1 (fun r k=>∀ v:List Qp,v.length=k→v++r.map (fun n=>((n,[]):Qp))=c.2.2.2.2.1.map (fun n=>((n,[]):Qp))→Qcg (fun r'=>r'=Ys (QG c b)) c (k:Int) b ss v v) ?_ ?_ [] rfl rfl
  ·intro v hv he
   refine QlC (fun r'=>r'=Ys (QG c b)) c _ _ _ _ _ ⟨fun h=>by simp at h,fun _=>R_eq ?_⟩
   rw [List.map_nil,List.append_nil] at he
   rw [hM,← hss]
   simp only [id,List.drop_zero,List.take_length,he]
  ·intro k x r hk hlt hg ih v hv he
   refine QlC (fun r'=>r'=Ys (QG c b)) c _ _ _ _ _ ⟨fun _=>?_,fun h=>by simp at h;omega⟩
   rw [Int.toNat_natCast,hg,sc1 (by omega),ZU]
   simp only [List.take_length]
   exact ⟨⟨by omega,hlt⟩,(by first | exact room (by omega) | (simp [Q3];omega)),(by first | exact room (by omega) | (simp [Q3];omega)),ih _ (by simp;omega) (by rw [← he];simp)⟩
 have key:QbY (fun r'=>r'=Ys (QG c b)) c b ((0:Nat):Int) b (Yg c (Qs c) b.length 0):=by
  refine Qbv (nSt c) (fun k=>QbY (fun r'=>r'=Ys (QG c b)) c b (k:Int) b (Yg c (Qs c) b.length k)) ?_ ?_
  ·refine Qp2 (fun r'=>r'=Ys (QG c b)) c b _ _ _ ⟨fun h=>by rw [hn] at h;simp at h,fun _=>?_⟩
   simp only [List.take_length]
   exact k4 _ (by rw [hn,Int.toNat_natCast])
  ·intro k hk ih
   refine Qp2 (fun r'=>r'=Ys (QG c b)) c b _ _ _ ⟨fun _=>?_,fun h=>by rw [hn] at h;simp at h;omega⟩
   have hr:=QaW c.1 c.2.1 (k:Int)
   have hpl:=Qiw c.2.2.1 (Qs c) k b.length (gtd false c.2.2.2.1 k)
   have hss:=Qge c (Qs c) b.length k
   have hsl:=Qav (Yg c (Qs c) b.length k)
   have e:((k:Int)==w64 (Qs c-1))=decide ((k:Int)=Qs c-1):=by
    rw [Qx (by omega) (by omega)];rfl
   rw [e,Int.toNat_natCast,ZU,sc1 (by omega)]
   simp only [List.drop_zero,List.take_length]
   refine ⟨⟨by omega,by omega⟩,⟨⟨hr.1,hr.2.1,hr.2.2.1⟩,⟨by omega,by omega⟩,⟨?_,by omega⟩,(by first | exact room (by omega) | (simp [Q3];omega))⟩,ih⟩
   refine Nat.le_trans (Nat.le_trans (QoI _ _) (Qp8 _ _)) ?_
   exact Nat.le_trans hms (by omega)
 simp only [id,List.take_length]
 exact key
theorem QzQ:Qi Tryz.prog QkD:=Qm fun x _=>QvE x.1 x.2.1
def YA (t:QO):TRes:=⟨(.a [(zcs Qj t.1),(.r Qt 0 0 ((t.2.1).length)),(.r Qw 1 0 ((t.2.2.1).length)),(zcs Qw t.2.2.2)]),[(.sl 39 Qt .ow t.2.1),(.sl 161 Qw .ow t.2.2.1)],[],true,[]⟩
def QkA:TRow:=Qg 35 [(.a Qv),(.c (.sl Qj))] fun x=>(none,YA (QG x.1 x.2.1))
def Qbr:TTab:=⟨[Qjg,Qhm,QbG,Qie,QiX],false⟩
def Qou:TCode :=
 (zsq [(zsq [(.reg [zmv 19 7,zmv 20 1,zle 21 20,zbi 22 .lss 19 21]),(.cond 22 .skip (.exit 0))]),(.block 1 (.draw [zfa 25 5 0,zld 26 25 1,zop 27 (.bsl 3 [TI] []),zmv 28 1,zmv 29 7,zia 30 28 29 Qj,zfa 31 30 0,zld 32 31 1,zop 33 (.app 27 32 3 [TI]),zop 34 (.bsl 3 [TI] []),zmv 35 1,zmv 36 7,zia 37 35 36 Qj,zfa 38 37 1,zld 39 38 1,zop 40 (.app 34 39 3 [TI]),zop 41 (.build (z0s Qj) [(0,1,33),(1,1,40)]),zop 42 (.bsl 154 Qj [41]),zop 43 (.app 26 42 154 Qj),zfa 44 5 0,zst 44 43 1] [(0,2),(1,2),(2,5),(2,6),(2,7),(0,8),(1,8),(0,9),(1,9),(2,9),(5,9),(6,9),(7,9),(8,9),(2,12),(8,12),(9,12),(2,13),(8,13),(9,13),(2,14),(8,14),(9,14),(0,15),(1,15),(0,17),(1,17)])),(.reg [zmv 23 7,zbi 24 .add 23 (zki 1),zmv 7 24])])
def Qow:List (Nat × Md):=[(1,.one .d),(2,.b (zds 6)),(4,.b (zds 4)),(5,.b [.o 154,.o 39,.o 161,.o 161]),(6,.one .d),(7,.one .d)]
def Qnx:TCode :=
 (zsq [(zsq [(.reg [zmv 45 8,zmv 46 6,zbi 47 .lss 45 46]),(.cond 47 .skip (.exit 2))]),(.block 3 (zsq [(.reg [zfa 51 2 0,zLd 52 51 1,zfa 53 2 1,zld 54 53 1,zmv 55 8,zca 56 119 [52,54,55],zmv 50 56,zex 57 50 0,zex 58 50 1,zmv 9 57,zmv 10 58]),(.draw [zfa 59 5 1,zld 60 59 1,zfa 61 2 0,zfa 62 61 0,zld 63 62 1,zmv 64 9,zmv 65 10,zop 66 (.slc 63 (some 64) (some 65) ctOp),zfa 67 2 2,zld 68 67 1,zmv 69 6,zmv 70 8,zmv 71 1,zle 72 71,zfa 73 2 3,zld 74 73 1,zmv 75 8,zia 76 74 75 [.bool],zld 77 76 1,zca 78 121 [68,69,70,72,77],zmv 79 8,zmv 80 6,zbi 81 .sub 80 (zki 1),zbi 82 .eql 79 81,zfa 83 2 3,zld 84 83 1,zmv 85 8,zia 86 84 85 [.bool],zld 87 86 1,zca 88 120 [66,78,82,87],zop 89 (.bsl 39 Qt [88]),zop 90 (.app 60 89 39 Qt),zfa 91 5 1,zst 91 90 1] [(0,19),(1,19),(2,19),(3,19),(4,19),(7,19),(19,24),(19,25),(19,27),(19,28),(0,29),(1,29),(0,30),(1,30)]),(.reg [zmv 92 8,zbi 93 .gtr 92 (zki 0)]),(.cond 93 (zsq [(.draw [zfa 94 5 2,zld 95 94 1,zfa 96 2 4,zld 97 96 1,zmv 98 8,zbi 99 .sub 98 (zki 1),zia 100 97 99 [TI],zld 101 100 1,zop 102 (.build (z0s Qw) [(0,1,101)]),zop 103 (.bsl 161 Qw [102]),zop 104 (.app 95 103 161 Qw),zfa 105 5 2,zst 105 104 1] [(0,9),(1,9)]),(.draw [zfa 106 5 3,zld 107 106 1,zfa 108 2 4,zld 109 108 1,zmv 110 8,zbi 111 .sub 110 (zki 1),zia 112 109 111 [TI],zld 113 112 1,zop 114 (.build (z0s Qw) [(0,1,113)]),zop 115 (.bsl 161 Qw [114]),zop 116 (.app 107 115 161 Qw),zfa 117 5 3,zst 117 116 1] [(0,9),(1,9)])]) .skip)])),(.reg [zmv 48 8,zbi 49 .add 48 (zki 1),zmv 8 49])])
def Qk1:List (Nat × Md):=[(1,.one .d),(2,.b (zds 6)),(4,.b (zds 4)),(5,.b [.f,.f,.f,.f]),(6,.one .d),(8,.one .d)]
def QpW:TCode :=
 (zsq [(.reg [zLd 118 5 4,zst 4 118 4]),.ret])
def QrT:TCode :=
 (zsq [(zsq [(.reg [zmv 8 (zki 0)]),(.block 2 (.loop Qk1 Qnx))]),QpW])
def Qwp:TCode :=
 (zsq [(.reg [zop 2 (.box 79 0 6),zop 4 (.new 56 (z0s Zd))]),(.reg [zop 11 (.build (z0s Zd) []),zop 5 (.new 56 (z0s Zd)),zst 5 11 4]),(zsq [(.reg [zLd 12 2 6,zmv 13 1,zca 14 117 [12,13],zbi 15 .neq 14 (zki 0)]),(.cond 15 (zsq [(.reg [zLd 16 5 4,zst 4 16 4]),.ret]) .skip)]),(.reg [zLd 17 2 6,zca 18 118 [17],zmv 6 18]),(zsq [(.reg [zmv 7 (zki 0)]),(.block 0 (.loop Qow Qou))]),QrT])
def Qpm:List (ARv × Md):=[(.l 4 4 true,.b [.d,.o 39,.o 161,.d])]
def QeB:Qb:=TQ 0 0 Qpm K
def Qvn:Qb:=Qseq (tawp Qbr 0 QpW (QeB K)) (QeB K)
def QE3:Qb:=Qblk 2 (Qvn K)
def QbH (c:Qf) (b:List Qc) (s:Int) (p01:List Qc) (p1:List Qr) (p2:List Qp) (p3:List Qp):Prop:=Loop Qbr 0 Qk1 Qnx (QE3 K) ⟨[(1,(zcs Qj b)),(2,(.p 0 0 0)),(4,(.p 1 0 0)),(5,(.p 6 0 0)),(6,(zci (Qs c))),(8,(zci s))],[(0,(.box (Tup.cells Qv c))),(1,(.box (Tup.cells Zd ([],[],[],[])))),(2,(.sl 154 Qj .ow p01)),(3,(.sl 39 Qt .ow p1)),(4,(.sl 161 Qw .ow p2)),(5,(.sl 161 Qw .ow p3)),(6,(.box [(.r Qj 2 0 p01.length),(.r Qt 3 0 p1.length),(.r Qw 4 0 p2.length),(.r Qw 5 0 p3.length)]))],7⟩
def QwN:Qb:=Qseq (tawp Qbr 0 QrT (QeB K)) (QeB K)
def QEe:Qb:=Qblk 0 (QwN K)
def QdF (c:Qf) (b:List Qc) (i:Int) (p0:List Qc):Prop:=Loop Qbr 0 Qow Qou (QEe K) ⟨[(1,(zcs Qj b)),(2,(.p 0 0 0)),(4,(.p 1 0 0)),(5,(.p 6 0 0)),(6,(zci (Qs c))),(7,(zci i))],[(0,(.box (Tup.cells Qv c))),(1,(.box (Tup.cells Zd ([],[],[],[])))),(2,(.sl 154 Qj .ow p0)),(3,(.sl 39 Qt .ow ([]:List Qr))),(4,(.sl 161 Qw .ow ([]:List Qp))),(5,(.sl 161 Qw .ow ([]:List Qp))),(6,(.box [(.r Qj 2 0 p0.length),(.r Qt 3 0 0),(.r Qw 4 0 0),(.r Qw 5 0 0)]))],7⟩
theorem Qsd (c:Qf) (b:List Qc) (s:Int) (p01:List Qc) (p1:List Qr) (p2:List Qp) (p3:List Qp) (h :
 let z3:=Qo c.1 c.2.1 s
 let z4:=gtd (false:Bool) c.2.2.2.1 (Int.toNat s)
 let z2:=QT c.2.2.1 (Qs c) s (b.length:Int) z4
 let z5:=List.take (Int.toNat (z3.2)-Int.toNat (z3.1)) (List.drop (Int.toNat (z3.1)) c.1)
 let z1:=Yb z5 (List.take (z2.length) (List.drop 0 z2)) (s==(w64 ((Qs c)-(1:Int)))) z4
 let z6:=gtd (0:Int) c.2.2.2.2.1 (Int.toNat (w64 (s-(1:Int))))
 let z7:=List.take p1.length p1
 let z8:=List.take p2.length p2
 (zif (decide (s<(Qs c))) ((((0:Int)≤z3.1∧z3.1≤z3.2∧z3.2≤((c.1).length:Int))∧(((0:Int)≤s∧Int.toNat s<(c.2.2.2.1).length)∧(((0:Int)≤s∧Int.toNat s<(c.2.2.2.1).length)∧((QbI z5 (List.take (z2.length) (List.drop 0 z2)) (s==(w64 ((Qs c)-(1:Int)))) z4)∧((p1.length=p1.length∨p1.length+1≤p1.length)∧p1.length+1≤big)))))∧(zif (decide (s>(0:Int))) ((((0:Int)≤w64 (s-(1:Int))∧Int.toNat (w64 (s-(1:Int)))<(c.2.2.2.2.1).length)∧((p2.length=p2.length∨p2.length+1≤p2.length)∧p2.length+1≤big))∧((((0:Int)≤w64 (s-(1:Int))∧Int.toNat (w64 (s-(1:Int)))<(c.2.2.2.2.1).length)∧((p3.length=p3.length∨p3.length+1≤p3.length)∧p3.length+1≤big))∧(QbH K c b (w64 (s+(1:Int))) (List.take p01.length p01) (List.take (p1.length+1) (z7++([z1]))) (List.take (p2.length+1) (z8++([(z6,[])]))) (List.take (p3.length+1) ((List.take p3.length p3)++([(z6,[])])))))) (QbH K c b (w64 (s+(1:Int))) (List.take p01.length p01) (List.take (p1.length+1) (z7++([z1]))) z8 (List.take p3.length p3)))) (K (YA ((List.take p01.length (List.drop 0 p01)),z7,z8,(List.take p3.length (List.drop 0 p3))))))):QbH K c b s p01 p1 p2 p3 :=
 Loop.of (by kernel_rfl) h
theorem QuB (c:Qf) (b:List Qc) (i:Int) (p0:List Qc) (h :
 (zif (decide (i<(b.length:Int))) ((((0:Int)≤i∧Int.toNat i<b.length)∧(((0=0∨0+((gtd QC b (Int.toNat i)).1).length≤0)∧0+((gtd QC b (Int.toNat i)).1).length≤big)∧(((0:Int)≤i∧Int.toNat i<b.length)∧(((0=0∨0+((gtd QC b (Int.toNat i)).2).length≤0)∧0+((gtd QC b (Int.toNat i)).2).length≤big)∧((p0.length=p0.length∨p0.length+1≤p0.length)∧p0.length+1≤big)))))∧(QdF K c b (w64 (i+(1:Int))) (List.take (p0.length+1) ((List.take p0.length p0)++([((List.take (0+((gtd QC b (Int.toNat i)).1).length) (List.drop 0 ((gtd QC b (Int.toNat i)).1))),(List.take (0+((gtd QC b (Int.toNat i)).2).length) (List.drop 0 ((gtd QC b (Int.toNat i)).2))))]))))) (QbH K c b 0 (List.take p0.length p0) ([]:List Qr) ([]:List Qp) ([]:List Qp)))):QdF K c b i p0 :=
 Loop.of (by kernel_rfl) h
theorem QDV (c:Qf) (b:List Qc) (h :
 (zif ((QK c b) != (0:Int)) (K (YA ([],([]:List Qr),([]:List Qp),[]))) (QdF K c b 0 ([]:List Qc)))):Hold (tawp Qbr (0+0) Qwp (TQ 0 0 Qpm K) (Qe [(.a (Tup.cells Qv c)),(.c (.sl Qj) b)])) :=
 Hold.of (by kernel_rfl) h
theorem QBV (c:Qf) (b:List Qc):TCon Tryz.prog 35 [(.a (Tup.cells Qv c)),(.c (.sl Qj) b)] (YA (QG c b)):=by
 refine Ql rfl fun hb=>tcg (Γ:=Qbr) (n:=119) (sg:=QkA.sg) Qk (TOkL.cons QzY (TOkL.cons Qyq (TOkL.cons Qe9 (TOkL.cons QCv (TOkL.cons QIF TOkL.nil))))) (by kernel_rfl) (by kernel_rfl) (QDV _ c b ?_)
 have hl_c_0:(c.1).length≤9223372036854775807:=hb.1.1.1
 have hl_c_1:(c.2.1).length≤9223372036854775807:=hb.1.2.1.1
 have hl_c_3:(c.2.2.2.1).length≤9223372036854775807:=hb.1.2.2.2.1.1
 have hl_c_4:(c.2.2.2.2.1).length≤9223372036854775807:=hb.1.2.2.2.2.1.1
 have hl_c_5:(c.2.2.2.2.2).length≤9223372036854775807:=hb.1.2.2.2.2.2.1.1
 have hl_b:b.length≤9223372036854775807:=hb.2.1.1
 refine ⟨fun h=>R_eq ?_,fun h=>?_⟩
 ·unfold QG;rw [if_neg (by simpa using h)]
 have h0:QK c b=0:=by simpa using h
 have A:=Qi7 h0
 have hn:=QgO A
 have hM:(QG c b)=(b,Yg c (Qs c) b.length (Qs c).toNat,(YM c).map fun n=>(n,[]),(YM c).map fun n=>(n,[])):=by unfold QG;rw [if_pos h0]
 have h5:=A.stages
 have h6:nSt c=(Ze c).length+1:=rfl
 have h7:c.2.2.2.1.length=(Ze c).length+1:=A.redo
 have h8:c.2.2.2.2.1.length=nSt c-1:=Qj6 A
 have hbs:=Qii A.batch
 have hbl:=Qav b
 have hms:=Qi0 A.model
 have k4:QbH (fun r'=>r'=YA (QG c b)) c b ((0:Nat):Int) b (Yg c (Qs c) b.length 0) ((c.2.2.2.2.1.take (0-1)).map fun n=>((n,[]):Qp)) ((c.2.2.2.2.1.take (0-1)).map fun n=>((n,[]):Qp)):=by
  refine Qbv (nSt c) (fun k=>QbH (fun r'=>r'=YA (QG c b)) c b (k:Int) b (Yg c (Qs c) b.length k) ((c.2.2.2.2.1.take (k-1)).map fun n=>((n,[]):Qp)) ((c.2.2.2.2.1.take (k-1)).map fun n=>((n,[]):Qp))) ?_ ?_
  ·refine Qsd (fun r'=>r'=YA (QG c b)) c b _ _ _ _ _ ⟨fun h=>by rw [hn] at h;simp at h,fun _=>R_eq ?_⟩
   simp only [List.drop_zero,List.take_length]
   rw [hM,List.take_of_length_le (by omega),hn,Int.toNat_natCast]
  ·intro k hk ih
   refine Qsd (fun r'=>r'=YA (QG c b)) c b _ _ _ _ _ ⟨fun _=>?_,fun h=>by rw [hn] at h;simp at h;omega⟩
   have hr:=QaW c.1 c.2.1 (k:Int)
   have hpl:=Qiw c.2.2.1 (Qs c) k b.length (gtd false c.2.2.2.1 k)
   have hss:=Qge c (Qs c) b.length k
   have hsl:=Qav (Yg c (Qs c) b.length k)
   have hql:((c.2.2.2.2.1.take (k-1)).map fun n=>((n,[]):Qp)).length≤4:=by simp;omega
   have e:((k:Int)==w64 (Qs c-1))=decide ((k:Int)=Qs c-1):=by
    rw [Qx (by omega) (by omega)];rfl
   rw [e,Int.toNat_natCast,ZU,sc1 (by omega)]
   simp only [List.drop_zero,List.take_length]
   refine ⟨⟨⟨hr.1,hr.2.1,hr.2.2.1⟩,⟨by omega,by omega⟩,⟨by omega,by omega⟩,⟨?_,by omega⟩,(by first | exact room (by omega) | (simp [Q3];omega))⟩,fun hk0=>?_,fun hk0=>?_⟩
   ·refine Nat.le_trans (Nat.le_trans (QoI _ _) (Qp8 _ _)) ?_
    exact Nat.le_trans hms (by omega)
   ·simp at hk0
    have e2:w64 ((k:Int)-1)=((k-1:Nat):Int):=by rw [Qx (by omega) (by omega)];omega
    have e3:(c.2.2.2.2.1.take (k+1-1)).map (fun n=>((n,[]):Qp))=(c.2.2.2.2.1.take (k-1)).map (fun n=>((n,[]):Qp))++[(gtd 0 c.2.2.2.2.1 (k-1),[])]:=by
     rw [show k+1-1=(k-1)+1 by omega,List.take_add_one,QaX (show k-1<c.2.2.2.2.1.length by omega) 0]
     simp
    rw [e3] at ih
    rw [e2,Int.toNat_natCast]
    refine ⟨⟨⟨by omega,by omega⟩,by simp [Q3];omega⟩,⟨⟨by omega,by omega⟩,by simp [Q3];omega⟩,?_⟩
    have e4:∀ x:Qp,List.take (((c.2.2.2.2.1.take (k-1)).map fun n=>((n,[]):Qp)).length+1) (((c.2.2.2.2.1.take (k-1)).map fun n=>((n,[]):Qp))++[x])=((c.2.2.2.2.1.take (k-1)).map fun n=>((n,[]):Qp))++[x]:=fun x=>List.take_of_length_le (by simp)
    rw [e4]
    exact ih
   ·have:k=0:=by simpa using hk0
    subst this
    exact ih
 refine Zy b (fun r k=>∀ v:List Qc,v.length=k→v++r=b→QdF (fun r'=>r'=YA (QG c b)) c b (k:Int) v) ?_ ?_ [] rfl rfl
 ·intro v hv he
  rw [List.append_nil] at he
  refine QuB (fun r'=>r'=YA (QG c b)) c b _ _ ⟨fun h=>by simp at h,fun _=>?_⟩
  rw [List.take_length,he]
  exact k4
 ·intro k x r hk hlt hg ih v hv he
  have hx:=Qjv hk
  simp only [QM] at hx
  have h1:=J5 x.1
  have h2:=J5 x.2
  refine QuB (fun r'=>r'=YA (QG c b)) c b _ _ ⟨fun _=>?_,fun h=>by simp at h;omega⟩
  rw [Int.toNat_natCast,hg,sc1 (by omega),ZU,QjM,QjM]
  exact ⟨⟨⟨by omega,hlt⟩,⟨.inl rfl,by rw [Q3];omega⟩,⟨by omega,hlt⟩,⟨.inl rfl,by rw [Q3];omega⟩,(by first | exact room (by omega) | (simp [Q3];omega))⟩,ih _ (by simp;omega) (by rw [← he];simp)⟩
theorem QED:Qi Tryz.prog QkA:=Qm fun x _=>QBV x.1 x.2.1
end
end Go.Proofs.YtdplaepmjogjjaaGreat.Am

