/- -/
import Derived.Test.YtjbdljkhbglnhaaGreatZGP7
import Derived.Test.YtjbdljkhbglnhaaGreatZGPJ
import Derived.Test.YtjbdljkhbglnhaaGreatZGP5
import Derived.Test.YtjbdljkhbglnhaaGreatZGPL
import Derived.Test.YtjbdljkhbglnhaaGreatZGPP
import Derived.Test.YtjbdljkhbglnhaaGreatZGPO
import Derived.Test.YtjbdljkhbglnhaaGreatZGPA
import Derived.Test.YtjbdljkhbglnhaaGreatZGGD
namespace Go.Proofs.YtjbdljkhbglnhaaGreat.Am
open Go Go.RowKit Go.Proofs.YtjbdljkhbglnhaaGreat
set_option linter.all false
set_option maxHeartbeats 2000000
noncomputable section
variable (K:TRes→Prop)
def JV (t:Qo):TRes:=zra (.a (Tup.cells Q0 t))
def Qgo:TRow:=Qi 15 [(.a QU),(.c (.sl Qx))] fun x=>(none,JV (Zi x.1 x.2.1))
def Qd5:List TRow:=[Qd3,QgA,Qcv,QeH,Ql0,Qkg]
def Qs1:TCode :=
 (zsq [(zsq [(.reg [zmv 23 7,zmv 24 6,zbi 25 .lss 23 24]),(.cond 25 .skip (.exit 0))]),(.block 1 (zsq [(.reg [zfa 29 2 0,zLd 30 29 1,zfa 31 2 1,zld 32 31 1,zmv 33 7,zca 34 71 [30,32,33],zmv 28 34,zex 35 28 0,zex 36 28 1,zmv 8 35,zmv 9 36]),(.draw [zfa 37 2 2,zld 38 37 1,zmv 39 6,zmv 40 7,zmv 41 1,zle 42 41,zfa 43 2 3,zld 44 43 1,zmv 45 7,zia 46 44 45 [.bool],zld 47 46 1,zca 48 72 [38,39,40,42,47],zmv 10 48] []),(.draw [zfa 49 5 1,zld 50 49 1,zfa 51 2 0,zfa 52 51 0,zld 53 52 1,zmv 54 8,zmv 55 9,zop 56 (.slc 53 (some 54) (some 55) ctOp),zmv 57 10,zmv 58 7,zmv 59 6,zbi 60 .sub 59 (zki 1),zbi 61 .eql 58 60,zfa 62 2 3,zld 63 62 1,zmv 64 7,zia 65 63 64 [.bool],zld 66 65 1,zca 67 73 [56,57,61,66],zop 68 (.bsl 63 Qu [67]),zop 69 (.app 50 68 63 Qu),zfa 70 5 1,zst 70 69 1] [(0,18),(1,18),(0,19),(1,19)])])),(.reg [zmv 26 7,zbi 27 .add 26 (zki 1),zmv 7 27])])
def QpI:List (Nat × Md):=[(1,.one .d),(2,.b (zds 6)),(4,.b (zds 4)),(5,.b [.d,.o 63,.o 97,.o 97]),(6,.one .d),(7,.one .d)]
def QrH:TCode :=
 (zsq [(.reg [zbi 75 .lss 74 73]),(.cond 75 .skip (.exit 2)),(.block 3 (zsq [(.reg [zia 76 72 74 [TI],zld 77 76 1,zmv 12 77]),(.reg [zfa 78 5 2,zld 79 78 1,zmv 80 12,zop 81 (.build (z0s QI) [(0,1,80)]),zop 82 (.bsl 97 QI [81]),zop 83 (.app 79 82 97 QI),zfa 84 5 2,zst 84 83 1]),(.reg [zfa 85 5 3,zld 86 85 1,zmv 87 12,zop 88 (.build (z0s QI) [(0,1,87)]),zop 89 (.bsl 97 QI [88]),zop 90 (.app 86 89 97 QI),zfa 91 5 3,zst 91 90 1])])),(.reg [zbi 92 .add 74 (zki 1),zmv 74 92])])
def Qvm:List (Nat × Md):=[(4,.b (zds 4)),(5,.b [.d,.f,.f,.f]),(72,.one .d),(73,.one .d),(74,.one .d)]
def QvQ:TCode :=
 (zsq [(.reg [zLd 93 5 4,zst 4 93 4]),.ret])
def Qt0:TCode :=
 (zsq [(zsq [(.reg [zfa 71 2 4,zld 72 71 1,zle 73 72,zmv 74 (zki 0)]),(.block 2 (.loop Qvm QrH))]),QvQ])
def QPi:TCode :=
 (zsq [(.reg [zop 2 (.box 30 0 6),zop 4 (.new 37 (z0s Q0))]),(zsq [(.reg [zLd 13 2 6,zmv 14 1,zca 15 56 [13,14],zbi 16 .neq 15 (zki 0)]),(.cond 16 (zsq [(.reg [zop 17 (.build (z0s Q0) []),zst 4 17 4]),.ret]) .skip)]),(.reg [zmv 18 1,zca 19 70 [18],zop 20 (.build (z0s Q0) [(0,1,19)]),zop 5 (.new 37 (z0s Q0)),zst 5 20 4]),(.reg [zLd 21 2 6,zca 22 59 [21],zmv 6 22]),(zsq [(.reg [zmv 7 (zki 0)]),(.block 0 (.loop QpI Qs1))]),Qt0])
def QyA:List (ARv × Md):=[(.l 4 4 true,.b (zds 4))]
def QgH:Qb:=TQ 0 0 QyA K
def QOO:Qb:=Qseq (tawp Qd5 0 QvQ (QgH K)) (QgH K)
def QBc:Qb:=Qblk 2 (QOO K)
def Qfw (c:Qh) (b:List Qd) (x:Int) (p11:List Qc) (p2:List Qm) (p3:List Qm):Prop:=Loop Qd5 0 Qvm QrH (QBc K) ⟨[(4,(.p 0 0 0)),(5,(.p 4 0 0)),(72,(zcs [TI] c.2.2.2.2.1)),(73,(zci ((c.2.2.2.2.1).length:Int))),(74,(zci x))],[(0,(.box (Tup.cells Q0 ([],[],[],[])))),(1,(.sl 63 Qu true p11)),(2,(.sl 97 QI true p2)),(3,(.sl 97 QI true p3)),(4,(.box [(zcs Qx (id (α:=List Qd) b)),(.r Qu 1 0 p11.length),(.r QI 2 0 p2.length),(.r QI 3 0 p3.length)]))],5⟩
def QKg:Qb:=Qseq (tawp Qd5 0 Qt0 (QgH K)) (QgH K)
def QPC:Qb:=Qblk 0 (QKg K)
def Qeh (c:Qh) (b:List Qd) (s:Int) (p1:List Qc):Prop:=Loop Qd5 0 QpI Qs1 (QPC K) ⟨[(1,(zcs Qx b)),(2,(.p 0 0 0)),(4,(.p 1 0 0)),(5,(.p 5 0 0)),(6,(zci (QB c))),(7,(zci s))],[(0,(.box (Tup.cells QU c))),(1,(.box (Tup.cells Q0 ([],[],[],[])))),(2,(.sl 63 Qu true p1)),(3,(.sl 97 QI true ([]:List Qm))),(4,(.sl 97 QI true ([]:List Qm))),(5,(.box [(zcs Qx (id (α:=List Qd) b)),(.r Qu 2 0 p1.length),(.r QI 3 0 0),(.r QI 4 0 0)]))],6⟩
theorem QuJ (c:Qh) (b:List Qd) (x:Int) (p11:List Qc) (p2:List Qm) (p3:List Qm) (h :
 (zif (decide (x<((c.2.2.2.2.1).length:Int))) (((0:Int)≤x∧Int.toNat x<(c.2.2.2.2.1).length)∧(((p2.length=p2.length∨p2.length+1≤p2.length)∧p2.length+1≤big)∧(((p3.length=p3.length∨p3.length+1≤p3.length)∧p3.length+1≤big)∧(Qfw K c b (w64 (x+(1:Int))) (List.take p11.length p11) (List.take (p2.length+1) ((List.take p2.length p2)++([((gtd (0:Int) c.2.2.2.2.1 (Int.toNat x)),[])]))) (List.take (p3.length+1) ((List.take p3.length p3)++([((gtd (0:Int) c.2.2.2.2.1 (Int.toNat x)),[])]))))))) (K (JV ((id (α:=List Qd) b),(List.take p11.length (List.drop 0 p11)),(List.take p2.length (List.drop 0 p2)),(List.take p3.length (List.drop 0 p3))))))):Qfw K c b x p11 p2 p3 :=
 Loop.of (by kernel_rfl) h
theorem Qsp (c:Qh) (b:List Qd) (s:Int) (p1:List Qc) (h :
 let z2:=Qs c.1 c.2.1 s
 let z3:=gtd (false:Bool) c.2.2.2.1 (Int.toNat s)
 let z1:=Ye c.2.2.1 (QB c) s (b.length:Int) z3
 let z4:=List.take (Int.toNat (z2.2)-Int.toNat (z2.1)) (List.drop (Int.toNat (z2.1)) c.1)
 (zif (decide (s<(QB c))) (((0:Int)≤s∧Int.toNat s<(c.2.2.2.1).length)∧((((0:Int)≤z2.1∧z2.1≤z2.2∧z2.2≤((c.1).length:Int))∧(((0:Int)≤s∧Int.toNat s<(c.2.2.2.1).length)∧((QmG z4 (List.take (z1.length) (List.drop 0 z1)) (s==(w64 ((QB c)-(1:Int)))) z3)∧((p1.length=p1.length∨p1.length+1≤p1.length)∧p1.length+1≤big))))∧(Qeh K c b (w64 (s+(1:Int))) (List.take (p1.length+1) ((List.take p1.length p1)++([(QaG z4 (List.take (z1.length) (List.drop 0 z1)) (s==(w64 ((QB c)-(1:Int)))) z3)])))))) (Qfw K c b 0 (List.take p1.length p1) ([]:List Qm) ([]:List Qm)))):Qeh K c b s p1 :=
 Loop.of (by kernel_rfl) h
theorem QKf (c:Qh) (b:List Qd) (h :
 (zif ((Q7 c b) != (0:Int)) (K (JV ([],[],[],[]))) ((QJ (α:=List Qd) b)∧(Qeh K c b 0 ([]:List Qc))))):Hold (tawp Qd5 (0+0) QPi (TQ 0 0 QyA K) (Qf [(.a (Tup.cells QU c)),(.c (.sl Qx) b)])) :=
 Hold.of (by kernel_rfl) h
theorem QBd (c:Qh) (b:List Qd):TCon Tryz.prog 15 [(.a (Tup.cells QU c)),(.c (.sl Qx) b)] (JV (Zi c b)):=by
 refine Qr rfl fun hb=>tcg (n:=94) (sg:=Qgo.sg) Qk (TOk.cons Qmm (TOk.cons QvA (TOk.cons QeO (TOk.cons Qlq (TOk.cons QAn (TOk.cons QJ1 TOk.nil)))))) (by kernel_rfl) (by kernel_rfl) (QKf _ c b ?_)
 have hl_c_0:(c.1).length≤9223372036854775807:=hb.1.1.1
 have hl_c_1:(c.2.1).length≤9223372036854775807:=hb.1.2.1.1
 have hl_c_3:(c.2.2.2.1).length≤9223372036854775807:=hb.1.2.2.2.1.1
 have hl_c_4:(c.2.2.2.2.1).length≤9223372036854775807:=hb.1.2.2.2.2.1.1
 have hl_c_5:(c.2.2.2.2.2).length≤9223372036854775807:=hb.1.2.2.2.2.2.1.1
 have hl_b:b.length≤9223372036854775807:=hb.2.1.1
 refine ⟨fun h=>R_eq ?_,fun h=>?_⟩
 ·unfold Zi;rw [if_neg (by simpa using h)]
 have h0:Q7 c b=0:=by simpa using h
 have A:=Qim h0
 have hn:=Qe7 A
 have hM:(Zi c b)=(b,Qae c (QB c) b.length (QB c).toNat,(Jw c).map fun n=>(n,[]),(Jw c).map fun n=>(n,[])):=by unfold Zi;rw [if_pos h0]
 have h5:=A.stages
 have h6:nSt c=(Q6 c).length+1:=rfl
 have h7:c.2.2.2.1.length=(Q6 c).length+1:=A.redo
 have h8:c.2.2.2.2.1.length=nSt c-1:=QgP A
 have hbs:=QsZ A.batch
 have hms:=QoK A.model
 refine ⟨by unfold QJ;omega,?_⟩
 have k4:∀ (ss:List Qc),ss=Qae c (QB c) b.length (QB c).toNat→Qfw (fun r'=>r'=JV (Zi c b)) c b ((0:Nat):Int) ss ([]) ([]):=by
  intro ss hss
  refine Zz c.2.2.2.2.1 (fun r k=>∀ v:List Qm,v.length=k→v++r.map (fun n=>((n,[]):Qm))=c.2.2.2.2.1.map (fun n=>((n,[]):Qm))→Qfw (fun r'=>r'=JV (Zi c b)) c b (k:Int) ss v v) ?_ ?_ [] rfl rfl
  ·intro v hv he
   refine QuJ (fun r'=>r'=JV (Zi c b)) c b _ _ _ _ ⟨fun h=>by simp at h,fun _=>R_eq ?_⟩
   rw [List.map_nil,List.append_nil] at he
   rw [hM,← hss]
   simp only [id,List.drop_zero,List.take_length,he]
  ·intro k x r hk hlt hg ih v hv he
   refine QuJ (fun r'=>r'=JV (Zi c b)) c b _ _ _ _ ⟨fun _=>?_,fun h=>by simp at h;omega⟩
   rw [Int.toNat_natCast,hg,sc1 (by omega),Zx,List.take_length]
   exact ⟨⟨by omega,hlt⟩,(by first | exact room (by omega) | (simp [Zw];omega)),(by first | exact room (by omega) | (simp [Zw];omega)),ih _ (by simp;omega) (by rw [← he];simp)⟩
 have key:Qeh (fun r'=>r'=JV (Zi c b)) c b ((0:Nat):Int) (Qae c (QB c) b.length 0):=by
  refine QaQ (nSt c) (fun k=>Qeh (fun r'=>r'=JV (Zi c b)) c b (k:Int) (Qae c (QB c) b.length k)) ?_ ?_
  ·refine Qsp (fun r'=>r'=JV (Zi c b)) c b _ _ ⟨fun h=>by rw [hn] at h;simp at h,fun _=>?_⟩
   rw [List.take_length]
   exact k4 _ (by rw [hn,Int.toNat_natCast])
  ·intro k hk ih
   refine Qsp (fun r'=>r'=JV (Zi c b)) c b _ _ ⟨fun _=>?_,fun h=>by rw [hn] at h;simp at h;omega⟩
   have hr:=QcS c.1 c.2.1 (k:Int)
   have hpl:=QrA c.2.2.1 (QB c) k b.length (gtd false c.2.2.2.1 k)
   have hss:=Qmi c (QB c) b.length k
   have hsl:=Qad (Qae c (QB c) b.length k)
   have e:((k:Int)==w64 (QB c-1))=decide ((k:Int)=QB c-1):=by
    rw [Qp (by omega) (by omega)];rfl
   rw [e,Int.toNat_natCast,Zx,sc1 (by omega)]
   simp only [List.drop_zero,List.take_length]
   refine ⟨⟨by omega,by omega⟩,⟨⟨hr.1,hr.2.1,hr.2.2.1⟩,⟨by omega,by omega⟩,⟨?_,by omega⟩,(by first | exact room (by omega) | (simp [Zw];omega))⟩,ih⟩
   refine Nat.le_trans (Nat.le_trans (QnN _ _) (Qtn _ _)) ?_
   exact Nat.le_trans hms (by omega)
 exact key
theorem Quh:Qj Tryz.prog Qgo:=Ql fun x _=>QBd x.1 x.2.1
def Jg (t:Qo):TRes:=⟨(.a [(zcs Qx t.1),(.r Qu 0 0 ((t.2.1).length)),(.r QI 1 0 ((t.2.2.1).length)),(.r QI 2 0 ((t.2.2.2).length))]),[(.sl 63 Qu true t.2.1),(.sl 97 QI true t.2.2.1),(.sl 97 QI true t.2.2.2)],[],true,[]⟩
def Qjw:TRow:=Qi 79 [(.a Q0)] fun x=>(some (QJ (α:=Qo) x.1),Jg (id (α:=Qo) x.1))
def QcR:List TRow:=[QgA,Qdf,Qeq]
def QrX:TCode :=
 (zsq [(.reg [zbi 18 .lss 17 16]),(.cond 18 .skip (.exit 0)),(.block 1 (zsq [(.reg [zia 19 15 17 Qu,zLd 20 19 14,zop 5 (.new 63 (z0s Qu)),zst 5 20 14]),(.draw [zfa 21 3 1,zld 22 21 1,zLd 23 5 14,zca 24 111 [23],zop 25 (.bsl 63 Qu [24]),zop 26 (.app 22 25 63 Qu),zfa 27 3 1,zst 27 26 1] [(0,3),(1,3),(0,4),(1,4)])])),(.reg [zbi 28 .add 17 (zki 1),zmv 17 28])])
def QyH:List (Nat × Md):=[(1,.b (zds 4)),(2,.b (zds 4)),(3,.b [.d,.o 63,.o 97,.o 97]),(15,.one .d),(16,.one .d),(17,.one .d)]
def Qu0:TCode :=
 (zsq [(.reg [zbi 33 .lss 32 31]),(.cond 33 .skip (.exit 2)),(.block 3 (zsq [(.reg [zia 34 30 32 QI,zLd 35 34 2,zop 7 (.new 97 (z0s QI)),zst 7 35 2]),(.draw [zfa 36 3 2,zld 37 36 1,zLd 38 7 2,zca 39 157 [38],zop 40 (.bsl 97 QI [39]),zop 41 (.app 37 40 97 QI),zfa 42 3 2,zst 42 41 1] [(0,3),(1,3),(0,4),(1,4)])])),(.reg [zbi 43 .add 32 (zki 1),zmv 32 43])])
def QtJ:List (Nat × Md):=[(1,.b (zds 4)),(2,.b (zds 4)),(3,.b [.d,.f,.f,.f]),(30,.one .d),(31,.one .d),(32,.one .d)]
def Qv9:TCode :=
 (zsq [(.reg [zbi 48 .lss 47 46]),(.cond 48 .skip (.exit 4)),(.block 5 (zsq [(.reg [zia 49 45 47 QI,zLd 50 49 2,zop 9 (.new 97 (z0s QI)),zst 9 50 2]),(.draw [zfa 51 3 3,zld 52 51 1,zLd 53 9 2,zca 54 157 [53],zop 55 (.bsl 97 QI [54]),zop 56 (.app 52 55 97 QI),zfa 57 3 3,zst 57 56 1] [(0,3),(1,3),(0,4),(1,4)])])),(.reg [zbi 58 .add 47 (zki 1),zmv 47 58])])
def QpQ:List (Nat × Md):=[(2,.b (zds 4)),(3,.b [.d,.f,.f,.f]),(45,.one .d),(46,.one .d),(47,.one .d)]
def QtW:TCode :=
 (zsq [(.reg [zLd 59 3 4,zst 2 59 4]),.ret])
def QwC:TCode :=
 (zsq [(zsq [(.reg [zfa 44 1 3,zld 45 44 1,zle 46 45,zmv 47 (zki 0)]),(.block 4 (.loop QpQ Qv9))]),QtW])
def Qts:TCode :=
 (zsq [(zsq [(.reg [zfa 29 1 2,zld 30 29 1,zle 31 30,zmv 32 (zki 0)]),(.block 2 (.loop QtJ Qu0))]),QwC])
def QPw:TCode :=
 (zsq [(.reg [zop 1 (.box 37 0 4),zop 2 (.new 37 (z0s Q0))]),(.reg [zfa 10 1 0,zld 11 10 1,zca 12 70 [11],zop 13 (.build (z0s Q0) [(0,1,12)]),zop 3 (.new 37 (z0s Q0)),zst 3 13 4]),(zsq [(.reg [zfa 14 1 1,zld 15 14 1,zle 16 15,zmv 17 (zki 0)]),(.block 0 (.loop QyH QrX))]),Qts])
def QtK:List (ARv × Md):=[(.l 2 4 true,.b [.d,.o 63,.o 97,.o 97])]
def Qdc:Qb:=TQ 0 0 QtK K
def QPW:Qb:=Qseq (tawp QcR 0 QtW (Qdc K)) (Qdc K)
def QAt:Qb:=Qblk 4 (QPW K)
def QeZ (p:Qo) (x2:Int) (q12:List Qc) (q21:List Qm) (q3:List Qm):Prop:=Loop QcR 0 QpQ Qv9 (QAt K) ⟨[(2,(.p 0 0 0)),(3,(.p 4 0 0)),(45,(zcs QI p.2.2.2)),(46,(zci ((p.2.2.2).length:Int))),(47,(zci x2))],[(0,(.box (Tup.cells Q0 ([],[],[],[])))),(1,(.sl 63 Qu true q12)),(2,(.sl 97 QI true q21)),(3,(.sl 97 QI true q3)),(4,(.box [(zcs Qx (id (α:=List Qd) p.1)),(.r Qu 1 0 q12.length),(.r QI 2 0 q21.length),(.r QI 3 0 q3.length)]))],5⟩
def QKM:Qb:=Qseq (tawp QcR 0 QwC (Qdc K)) (Qdc K)
def QJ3:Qb:=Qblk 2 (QKM K)
def Qfm (p:Qo) (x1:Int) (q11:List Qc) (q2:List Qm):Prop:=Loop QcR 0 QtJ Qu0 (QJ3 K) ⟨[(1,(.p 0 0 0)),(2,(.p 1 0 0)),(3,(.p 5 0 0)),(30,(zcs QI p.2.2.1)),(31,(zci ((p.2.2.1).length:Int))),(32,(zci x1))],[(0,(.box (Tup.cells Q0 p))),(1,(.box (Tup.cells Q0 ([],[],[],[])))),(2,(.sl 63 Qu true q11)),(3,(.sl 97 QI true q2)),(4,(.sl 97 QI true ([]:List Qm))),(5,(.box [(zcs Qx (id (α:=List Qd) p.1)),(.r Qu 2 0 q11.length),(.r QI 3 0 q2.length),(.r QI 4 0 0)]))],6⟩
def QzA:Qb:=Qseq (tawp QcR 0 Qts (Qdc K)) (Qdc K)
def QNi:Qb:=Qblk 0 (QzA K)
def Qit (p:Qo) (x:Int) (q1:List Qc):Prop:=Loop QcR 0 QyH QrX (QNi K) ⟨[(1,(.p 0 0 0)),(2,(.p 1 0 0)),(3,(.p 5 0 0)),(15,(zcs Qu p.2.1)),(16,(zci ((p.2.1).length:Int))),(17,(zci x))],[(0,(.box (Tup.cells Q0 p))),(1,(.box (Tup.cells Q0 ([],[],[],[])))),(2,(.sl 63 Qu true q1)),(3,(.sl 97 QI true ([]:List Qm))),(4,(.sl 97 QI true ([]:List Qm))),(5,(.box [(zcs Qx (id (α:=List Qd) p.1)),(.r Qu 2 0 q1.length),(.r QI 3 0 0),(.r QI 4 0 0)]))],6⟩
theorem Qoy (p:Qo) (x2:Int) (q12:List Qc) (q21:List Qm) (q3:List Qm) (h :
 (zif (decide (x2<((p.2.2.2).length:Int))) (((0:Int)≤x2∧Int.toNat x2<(p.2.2.2).length)∧(((QJ (α:=Qm) (gtd QP p.2.2.2 (Int.toNat x2)))∧((q3.length=q3.length∨q3.length+1≤q3.length)∧q3.length+1≤big))∧(QeZ K p (w64 (x2+(1:Int))) (List.take q12.length q12) (List.take q21.length q21) (List.take (q3.length+1) ((List.take q3.length q3)++([((id (α:=Qm) (gtd QP p.2.2.2 (Int.toNat x2))).1,(List.take (((id (α:=Qm) (gtd QP p.2.2.2 (Int.toNat x2))).2).length) (List.drop 0 ((id (α:=Qm) (gtd QP p.2.2.2 (Int.toNat x2))).2))))])))))) (K (Jg ((id (α:=List Qd) p.1),(List.take q12.length q12),(List.take q21.length q21),(List.take q3.length q3)))))):QeZ K p x2 q12 q21 q3 :=
 Loop.of (by kernel_rfl) h
theorem Qws (p:Qo) (x1:Int) (q11:List Qc) (q2:List Qm) (h :
 (zif (decide (x1<((p.2.2.1).length:Int))) (((0:Int)≤x1∧Int.toNat x1<(p.2.2.1).length)∧(((QJ (α:=Qm) (gtd QP p.2.2.1 (Int.toNat x1)))∧((q2.length=q2.length∨q2.length+1≤q2.length)∧q2.length+1≤big))∧(Qfm K p (w64 (x1+(1:Int))) (List.take q11.length q11) (List.take (q2.length+1) ((List.take q2.length q2)++([((id (α:=Qm) (gtd QP p.2.2.1 (Int.toNat x1))).1,(List.take (((id (α:=Qm) (gtd QP p.2.2.1 (Int.toNat x1))).2).length) (List.drop 0 ((id (α:=Qm) (gtd QP p.2.2.1 (Int.toNat x1))).2))))])))))) (QeZ K p 0 (List.take q11.length q11) (List.take q2.length q2) ([]:List Qm)))):Qfm K p x1 q11 q2 :=
 Loop.of (by kernel_rfl) h
theorem Qrh (p:Qo) (x:Int) (q1:List Qc) (h :
 let z1:=id (α:=Qc) (gtd QM p.2.1 (Int.toNat x))
 (zif (decide (x<((p.2.1).length:Int))) (((0:Int)≤x∧Int.toNat x<(p.2.1).length)∧(((QJ (α:=Qc) (gtd QM p.2.1 (Int.toNat x)))∧((q1.length=q1.length∨q1.length+1≤q1.length)∧q1.length+1≤big))∧(Qit K p (w64 (x+(1:Int))) (List.take (q1.length+1) ((List.take q1.length q1)++([(z1.1,z1.2.1,z1.2.2.1,z1.2.2.2.1,z1.2.2.2.2.1,(List.take ((z1.2.2.2.2.2.1).length) (List.drop 0 (z1.2.2.2.2.2.1))),z1.2.2.2.2.2.2.1,z1.2.2.2.2.2.2.2.1,z1.2.2.2.2.2.2.2.2.1,z1.2.2.2.2.2.2.2.2.2.1,z1.2.2.2.2.2.2.2.2.2.2.1,z1.2.2.2.2.2.2.2.2.2.2.2.1,z1.2.2.2.2.2.2.2.2.2.2.2.2.1,z1.2.2.2.2.2.2.2.2.2.2.2.2.2)])))))) (Qfm K p 0 (List.take q1.length q1) ([]:List Qm)))):Qit K p x q1 :=
 Loop.of (by kernel_rfl) h
theorem QAf (p:Qo) (h :
 ((QJ (α:=List Qd) p.1)∧(Qit K p 0 ([]:List Qc)))):Hold (tawp QcR (0+0) QPw (TQ 0 0 QtK K) (Qf [(.a (Tup.cells Q0 p))])) :=
 Hold.of (by kernel_rfl) h
theorem QMw (p:Qo) (hp:QJ (α:=Qo) p):TCon Tryz.prog 79 [(.a (Tup.cells Q0 p))] (Jg (id (α:=Qo) p)):=by
 refine Qr rfl fun hb=>tcg (n:=60) (sg:=Qjw.sg) Qk (TOk.cons QvA (TOk.cons Qhh (TOk.cons Qjo TOk.nil))) (by kernel_rfl) (by kernel_rfl) (QAf _ p ?_)
 have hl_p_0:(p.1).length≤9223372036854775807:=hb.1.1.1
 have hl_p_1:(p.2.1).length≤9223372036854775807:=hb.1.2.1.1
 have hl_p_2:(p.2.2.1).length≤9223372036854775807:=hb.1.2.2.1.1
 have hl_p_3:(p.2.2.2).length≤9223372036854775807:=hb.1.2.2.2.1.1
 have hp':Sz.sz p≤2147483648:=hp
 have hs:Sz.sz p=Sz.sz p.1+Sz.sz p.2.1+Sz.sz p.2.2.1+Sz.sz p.2.2.2:=QdH p
 have k6:QeZ (fun r'=>r'=Jg (id (α:=Qo) p)) p 0 p.2.1 p.2.2.1 ([]):=by
  refine Qbs (l:=p.2.2.2) (A:=fun i v=>QeZ (fun r'=>r'=Jg (id (α:=Qo) p)) p i p.2.1 p.2.2.1 v) (Q:=fun z=>Jg (p.1,p.2.1,p.2.2.1,z)=Jg (id (α:=Qo) p)) (by omega) (fun k x v hk hl hg hv hx ih=>?_) (fun hq=>?_) (R_eq rfl)
  ·refine Qoy (fun r'=>r'=Jg (id (α:=Qo) p)) p _ _ _ _ ⟨fun _=>?_,fun h=>by simp at h;omega⟩
   rw [Int.toNat_natCast,hg,sc1 (by omega),Zx]
   simp only [id,List.drop_zero,List.take_length]
   exact ⟨⟨by omega,hk⟩,⟨by unfold QJ;omega,(by first | exact room (by omega) | (simp [Zw];omega))⟩,ih⟩
  ·refine Qoy (fun r'=>r'=Jg (id (α:=Qo) p)) p _ _ _ _ ⟨fun h=>by simp at h,fun _=>?_⟩
   simp only [id,List.drop_zero,List.take_length]
   first | done | exact hq | trivial
 have k4:Qfm (fun r'=>r'=Jg (id (α:=Qo) p)) p 0 p.2.1 ([]):=by
  refine Qbs (l:=p.2.2.1) (A:=fun i v=>Qfm (fun r'=>r'=Jg (id (α:=Qo) p)) p i p.2.1 v) (Q:=fun z=>z=p.2.2.1) (by omega) (fun k x v hk hl hg hv hx ih=>?_) (fun hq=>?_) rfl
  ·refine Qws (fun r'=>r'=Jg (id (α:=Qo) p)) p _ _ _ ⟨fun _=>?_,fun h=>by simp at h;omega⟩
   rw [Int.toNat_natCast,hg,sc1 (by omega),Zx]
   simp only [id,List.drop_zero,List.take_length]
   exact ⟨⟨by omega,hk⟩,⟨by unfold QJ;omega,(by first | exact room (by omega) | (simp [Zw];omega))⟩,ih⟩
  ·refine Qws (fun r'=>r'=Jg (id (α:=Qo) p)) p _ _ _ ⟨fun h=>by simp at h,fun _=>?_⟩
   simp only [id,List.drop_zero,List.take_length]
   exact k6
 refine ⟨by unfold QJ;omega,?_⟩
 refine Qbs (l:=p.2.1) (A:=fun i v=>Qit (fun r'=>r'=Jg (id (α:=Qo) p)) p i v) (Q:=fun z=>z=p.2.1) (by omega) (fun k x v hk hl hg hv hx ih=>?_) (fun hq=>?_) rfl
 ·refine Qrh (fun r'=>r'=Jg (id (α:=Qo) p)) p _ _ ⟨fun _=>?_,fun h=>by simp at h;omega⟩
  rw [Int.toNat_natCast,hg,sc1 (by omega),Zx]
  simp only [id,List.drop_zero,List.take_length]
  exact ⟨⟨by omega,hk⟩,⟨by unfold QJ;omega,(by first | exact room (by omega) | (simp [Zw];omega))⟩,ih⟩
 ·refine Qrh (fun r'=>r'=Jg (id (α:=Qo) p)) p _ _ ⟨fun h=>by simp at h,fun _=>?_⟩
  simp only [id,List.drop_zero,List.take_length]
  exact k4
theorem QLa:Qj Tryz.prog Qjw:=Ql fun x h=>QMw x.1 h
def QbB (t:Qo):TRes:=zra (.a (Tup.cells Q0 t))
def QmP:TRow:=Qi 33 [(.a Q0),(.c TI)] fun x=>(some (Qj0 x.1 x.2.1),QbB (Yk x.1 x.2.1))
def Qgx:List TRow:=[Qjw,QkD,Qga,QmM,Qnf,QiX,QjT,QjD]
def Qn2:TCode :=
 (.draw [zLd 67 6 14,zfa 68 7 1,zld 69 68 1,zmv 70 11,zfa 71 5 0,zld 72 71 1,zfa 73 7 1,zld 74 73 1,zia 75 72 74 Qx,zfa 76 75 1,zld 77 76 1,zca 78 44 [67,69,70,77],zst 6 78 14] [])
def QI0:List (Nat × Md):=[(1,.one .d),(4,.b (zds 4)),(5,.b [.d,.f,.f,.f]),(6,.b (zds 14)),(7,.b [.d,.d]),(11,.one .d)]
def QOU:TCode:=.wk QI0 Qn2
def Qv7:TCode :=
 (zsq [(.reg [zfa 165 6 0,zld 166 165 1,zbi 167 .add 166 (zki 1),zfa 168 6 0,zst 168 167 1]),(.reg [zfa 169 5 1,zld 170 169 1,zmv 171 1,zLd 172 6 14,zia 173 170 171 Qu,zst 173 172 14]),(.reg [zLd 174 5 4,zst 4 174 4]),.ret])
def QJl:List (Nat × Md):=[(1,.one .d),(4,.b (zds 4)),(5,.b [.d,.f,.f,.f]),(6,.b (zds 14))]
def QpS:TCode:=.wk QJl Qv7
def QOi:TCode :=
 (zsq [(.reg [zop 2 (.box 37 0 4),zop 4 (.new 37 (z0s Q0))]),(.reg [zLd 15 2 4,zca 16 79 [15],zop 5 (.new 37 (z0s Q0)),zst 5 16 4]),(zsq [(.reg [zLd 17 2 4,zmv 18 1,zca 19 34 [17,18],zno 20 19]),(.cond 20 (zsq [(.reg [zLd 21 5 4,zst 4 21 4]),.ret]) .skip)]),(.reg [zfa 22 5 1,zld 23 22 1,zmv 24 1,zia 25 23 24 Qu,zLd 26 25 14,zop 6 (.new 63 (z0s Qu)),zst 6 26 14]),(.reg [zLd 27 2 4,zmv 28 1,zca 29 96 [27,28],zop 7 (.new 111 (z0s QO)),zst 7 29 2]),(zsq [(.reg [zfa 30 7 0,zld 31 30 1]),(.block 0 (zsq [(.reg [zbi 33 .eql 31 (zki 1),zmv 32 33]),(.cond 32 (zsq [(.reg [zfa 35 5 2,zld 36 35 1,zmv 37 1,zbi 38 .sub 37 (zki 1),zia 39 36 38 QI,zLd 40 39 2,zca 41 97 [40],zmv 34 41,zex 42 34 0,zex 43 34 1,zex 44 34 2,zop 8 (.new 97 (z0s QI)),zop 9 (.new 114 (z0s Zf)),zst 8 42 2,zst 9 43 2,zmv 10 44]),(.reg [zfa 45 5 2,zld 46 45 1,zmv 47 1,zbi 48 .sub 47 (zki 1),zLd 49 8 2,zia 50 46 48 QI,zst 50 49 2]),(.reg [zfa 51 9 1,zld 52 51 1,zfa 53 6 7,zst 53 52 1])]) (zsq [(.reg [zbi 55 .eql 31 (zki 2),zmv 54 55]),(.cond 54 (zsq [(.reg [zfa 56 6 7,zld 57 56 1,zmv 11 57]),(zsq [(.reg [zmv 58 1,zbi 59 .eql 58 (zki 0)]),(.cond 59 (.reg [zfa 60 5 0,zld 61 60 1,zfa 62 7 1,zld 63 62 1,zia 64 61 63 Qx,zfa 65 64 0,zld 66 65 1,zmv 11 66]) .skip)]),QOU]) (zsq [(.reg [zbi 80 .eql 31 (zki 3),zmv 79 80]),(.cond 79 (zsq [(.draw [zfa 82 5 2,zld 83 82 1,zmv 84 1,zfa 85 5 2,zld 86 85 1,zmv 87 1,zia 88 86 87 QI,zLd 89 88 2,zfa 90 7 1,zld 91 90 1,zfa 92 6 8,zld 93 92 1,zop 94 (.build (z0s Zf) [(0,1,91),(1,1,93)]),zca 95 98 [89,94],zmv 81 95,zex 96 81 0,zex 97 81 1,zia 98 83 84 QI,zst 98 96 2] [(0,13),(1,13)]),(.reg [zfa 99 6 8,zst 99 (.k (.n [TI])) 1])]) (zsq [(.reg [zbi 101 .eql 31 (zki 4),zmv 100 101]),(.cond 100 (zsq [(.reg [zfa 103 5 3,zld 104 103 1,zmv 105 1,zia 106 104 105 QI,zLd 107 106 2,zca 108 97 [107],zmv 102 108,zex 109 102 0,zex 110 102 1,zex 111 102 2,zop 12 (.new 97 (z0s QI)),zop 13 (.new 114 (z0s Zf)),zst 12 109 2,zst 13 110 2,zmv 14 111]),(.reg [zfa 112 5 3,zld 113 112 1,zmv 114 1,zLd 115 12 2,zia 116 113 114 QI,zst 116 115 2]),(.reg [zfa 117 13 1,zld 118 117 1,zfa 119 6 9,zst 119 118 1])]) (zsq [(.reg [zbi 121 .eql 31 (zki 5),zmv 120 121]),(.cond 120 (.reg [zLd 122 6 14,zfa 123 7 1,zld 124 123 1,zca 125 46 [122,124],zst 6 125 14]) (zsq [(.reg [zbi 127 .eql 31 (zki 6),zmv 126 127]),(.cond 126 (zsq [(.draw [zLd 128 6 14,zfa 129 7 1,zld 130 129 1,zfa 131 5 0,zld 132 131 1,zfa 133 7 1,zld 134 133 1,zia 135 132 134 Qx,zfa 136 135 1,zld 137 136 1,zca 138 48 [128,130,137],zst 6 138 14] []),(.reg [zmv 139 1,zbi 140 .eql 139 (zki 0)]),(.cond 140 (.reg [zfa 141 6 10,zst 141 (.k (.n [TI])) 1]) .skip)]) (zsq [(.reg [zbi 143 .eql 31 (zki 7),zmv 142 143]),(.cond 142 (zsq [(.draw [zfa 145 5 3,zld 146 145 1,zmv 147 1,zbi 148 .sub 147 (zki 1),zfa 149 5 3,zld 150 149 1,zmv 151 1,zbi 152 .sub 151 (zki 1),zia 153 150 152 QI,zLd 154 153 2,zfa 155 7 1,zld 156 155 1,zfa 157 6 10,zld 158 157 1,zop 159 (.build (z0s Zf) [(0,1,156),(1,1,158)]),zca 160 98 [154,159],zmv 144 160,zex 161 144 0,zex 162 144 1,zia 163 146 148 QI,zst 163 161 2] [(0,15),(1,15)]),(.reg [zfa 164 6 10,zst 164 (.k (.n [TI])) 1])]) .skip)]))]))]))]))]))]))]))]),QpS])
def QwT:List (ARv × Md):=[(.l 4 4 true,.b (zds 4))]
def Qnt:Qb:=TQ 0 0 QwT K
@[irreducible] def Qac (p:Qo) (s:Int) (q1:List Qc) (q2:List Qm) (q3:List Qm) (x0:Int) (x1:List TIns) (x2:List TOp') (x3:Bool) (x4:Bool) (x5:List Yj) (x6:List (List Int)) (x7:List Int) (x8:List Int) (x9:List Int) (x10:List Int) (x11:List (List Int)) (x12:Int) (x13:Bool):Prop:=tawp Qgx 0 Qv7 (Qnt K) ⟨[(1,(zci s)),(4,(.p 0 0 0)),(5,(.p 4 0 0)),(6,(.p 5 0 0))],[(0,(.box (Tup.cells Q0 ([],[],[],[])))),(1,(.sl 63 Qu true q1)),(2,(.sl 97 QI true q2)),(3,(.sl 97 QI true q3)),(4,(.box [(zcs Qx ((id (α:=Qo) p).1)),(.r Qu 1 0 q1.length),(.r QI 2 0 q2.length),(.r QI 3 0 q3.length)])),(5,(.box (Tup.cells Qu (x0,x1,x2,x3,x4,x5,x6,x7,x8,x9,x10,x11,x12,x13))))],6⟩
def QPT:Qb:=Qseq (tawp Qgx 0 QpS (Qnt K)) (Qnt K)
def QO6:Qb:=Qblk 0 (QPT K)
@[irreducible] def QhB (p:Qo) (s:Int) (inn:List Int):Prop:=let z1:=id (α:=Qo) p
 tawp Qgx 0 Qn2 (QO6 K) ⟨[(1,(zci s)),(4,(.p 0 0 0)),(5,(.p 4 0 0)),(6,(.p 5 0 0)),(7,(.p 6 0 0)),(11,(zcs [TI] inn))],[(0,(.box (Tup.cells Q0 ([],[],[],[])))),(1,(.sl 63 Qu true (List.take ((z1.2.1).length) (z1.2.1)))),(2,(.sl 97 QI true (List.take ((z1.2.2.1).length) (z1.2.2.1)))),(3,(.sl 97 QI true (List.take ((z1.2.2.2).length) (z1.2.2.2)))),(4,(.box [(zcs Qx (z1.1)),(.r Qu 1 0 ((List.take ((z1.2.1).length) (z1.2.1)).length)),(.r QI 2 0 ((List.take ((z1.2.2.1).length) (z1.2.2.1)).length)),(.r QI 3 0 ((List.take ((z1.2.2.2).length) (z1.2.2.2)).length))])),(5,(.box (Tup.cells Qu (gtd QM (z1.2.1) (0+(Int.toNat s)))))),(6,(.box [(zci ((Qt p s).1)),(zci ((Qt p s).2))]))],7⟩
theorem QB7 (p:Qo) (s:Int) (q1:List Qc) (q2:List Qm) (q3:List Qm) (x0:Int) (x1:List TIns) (x2:List TOp') (x3:Bool) (x4:Bool) (x5:List Yj) (x6:List (List Int)) (x7:List Int) (x8:List Int) (x9:List Int) (x10:List Int) (x11:List (List Int)) (x12:Int) (x13:Bool) (h :
 ((((0:Int)≤s∧Int.toNat s<q1.length)∧((0+(Int.toNat s))<q1.length))∧K (QbB ((id (α:=Qo) p).1,(List.take q1.length (List.drop 0 ((q1).set (0+(Int.toNat s)) (w64 (x0+(1:Int)),x1,x2,x3,x4,x5,x6,x7,x8,x9,x10,x11,x12,x13)))),(List.take q2.length (List.drop 0 q2)),(List.take q3.length (List.drop 0 q3)))))):Hold (Qac K p s q1 q2 q3 x0 x1 x2 x3 x4 x5 x6 x7 x8 x9 x10 x11 x12 x13) :=
 Hold.of (by kernel_rfl) h
theorem QzW (p:Qo) (s:Int) (inn:List Int) (h :
 let z2:=id (α:=Qo) p
 let z3:=gtd Zj (z2.1) (Int.toNat ((Qt p s).2))
 let z1:=YU (gtd QM (z2.2.1) (0+(Int.toNat s))) ((Qt p s).2) inn (z3.2)
 ((((0:Int)≤(Qt p s).2∧Int.toNat ((Qt p s).2)<(z2.1).length)∧(Qh7 (gtd QM (z2.2.1) (0+(Int.toNat s))) ((Qt p s).2) inn (z3.2)))∧(Qac K p s (List.take ((List.take ((z2.2.1).length) (z2.2.1)).length) (List.take ((z2.2.1).length) (z2.2.1))) (List.take ((List.take ((z2.2.2.1).length) (z2.2.2.1)).length) (List.take ((z2.2.2.1).length) (z2.2.2.1))) (List.take ((List.take ((z2.2.2.2).length) (z2.2.2.2)).length) (List.take ((z2.2.2.2).length) (z2.2.2.2))) (z1.1) (z1.2.1) (z1.2.2.1) (z1.2.2.2.1) (z1.2.2.2.2.1) (z1.2.2.2.2.2.1) (z1.2.2.2.2.2.2.1) (z1.2.2.2.2.2.2.2.1) (z1.2.2.2.2.2.2.2.2.1) (z1.2.2.2.2.2.2.2.2.2.1) (z1.2.2.2.2.2.2.2.2.2.2.1) (z1.2.2.2.2.2.2.2.2.2.2.2.1) (z1.2.2.2.2.2.2.2.2.2.2.2.2.1) (z1.2.2.2.2.2.2.2.2.2.2.2.2.2)))):Hold (QhB K p s inn) :=
 Hold.of (by kernel_rfl) h
theorem QB4 (p:Qo) (s:Int) (h :
 let z3:=id (α:=Qo) p
 let z1:=gtd QM (z3.2.1) (0+(Int.toNat s))
 let z4:=Jh z1 ((Qt p s).2)
 let z6:=List.take ((z3.2.1).length) (z3.2.1)
 let z7:=List.take ((z3.2.2.2).length) (z3.2.2.2)
 let z8:=List.take ((z3.2.2.1).length) (z3.2.2.1)
 let z11:=gtd Zj (z3.1) (Int.toNat ((Qt p s).2))
 let z2:=Z4 z1 ((Qt p s).2) (z11.2)
 let z12:=gtd QP (z3.2.2.2) (0+(Int.toNat s))
 let z13:=w64 (s-(1:Int))
 let z5:=Int.toNat z13
 let z10:=Y2 (gtd QP (z3.2.2.2) (0+z5)) ((Qt p s).2,z1.2.2.2.2.2.2.2.2.2.2.1)
 let z14:=gtd QP (z3.2.2.1) (0+z5)
 let z15:=gtd QP (z3.2.2.1) (0+(Int.toNat s))
 let z9:=Y2 z15 ((Qt p s).2,z1.2.2.2.2.2.2.2.2.1)
 ((QJ (α:=Qo) p)∧(zif (!(YJ p s)) (K (QbB (z3.1,(List.take ((z3.2.1).length) (List.drop 0 (z3.2.1))),(List.take ((z3.2.2.1).length) (List.drop 0 (z3.2.2.1))),(List.take ((z3.2.2.2).length) (List.drop 0 (z3.2.2.2)))))) ((((0:Int)≤s∧Int.toNat s<(z3.2.1).length)∧((0+(Int.toNat s))<(z3.2.1).length))∧(zif (((Qt p s).1)==(1:Int)) ((((0:Int)≤w64 (s-(1:Int))∧Int.toNat z13<(z3.2.2.1).length)∧(((0+z5)<(z3.2.2.1).length)∧(QJ (α:=Qm) z14)))∧((((0:Int)≤w64 (s-(1:Int))∧Int.toNat z13<(z3.2.2.1).length)∧((0+z5)<(z3.2.2.1).length))∧(Qac K p s z6 (List.take ((z3.2.2.1).length) ((z3.2.2.1).set (0+z5) ((ZH z14).1))) z7 (z1.1) (z1.2.1) (z1.2.2.1) (z1.2.2.2.1) (z1.2.2.2.2.1) (z1.2.2.2.2.2.1) (z1.2.2.2.2.2.2.1) (((ZH z14).2.1).2) (z1.2.2.2.2.2.2.2.2.1) (z1.2.2.2.2.2.2.2.2.2.1) (z1.2.2.2.2.2.2.2.2.2.2.1) (z1.2.2.2.2.2.2.2.2.2.2.2.1) (z1.2.2.2.2.2.2.2.2.2.2.2.2.1) (z1.2.2.2.2.2.2.2.2.2.2.2.2.2)))) (zif (((Qt p s).1)==(2:Int)) (zif (s==(0:Int)) (((0:Int)≤(Qt p s).2∧Int.toNat ((Qt p s).2)<(z3.1).length)∧(QhB K p s (z11.1))) (QhB K p s (z1.2.2.2.2.2.2.2.1))) (zif (((Qt p s).1)==(3:Int)) ((((0:Int)≤s∧Int.toNat s<(z3.2.2.1).length)∧(((0+(Int.toNat s))<(z3.2.2.1).length)∧((JS (α:=Qm) (β:=Z1) z15 ((Qt p s).2,z1.2.2.2.2.2.2.2.2.1))∧(((0:Int)≤s∧Int.toNat s<(z3.2.2.1).length)∧((0+(Int.toNat s))<(z3.2.2.1).length)))))∧(Qac K p s z6 (List.take ((z3.2.2.1).length) ((z3.2.2.1).set (0+(Int.toNat s)) ((z9.1).1,(List.take (((z9.1).2).length) (List.drop 0 ((z9.1).2)))))) z7 (z1.1) (z1.2.1) (z1.2.2.1) (z1.2.2.2.1) (z1.2.2.2.2.1) (z1.2.2.2.2.2.1) (z1.2.2.2.2.2.2.1) (z1.2.2.2.2.2.2.2.1) ([]) (z1.2.2.2.2.2.2.2.2.2.1) (z1.2.2.2.2.2.2.2.2.2.2.1) (z1.2.2.2.2.2.2.2.2.2.2.2.1) (z1.2.2.2.2.2.2.2.2.2.2.2.2.1) (z1.2.2.2.2.2.2.2.2.2.2.2.2.2))) (zif (((Qt p s).1)==(4:Int)) ((((0:Int)≤s∧Int.toNat s<(z3.2.2.2).length)∧(((0+(Int.toNat s))<(z3.2.2.2).length)∧(QJ (α:=Qm) z12)))∧((((0:Int)≤s∧Int.toNat s<(z3.2.2.2).length)∧((0+(Int.toNat s))<(z3.2.2.2).length))∧(Qac K p s z6 z8 (List.take ((z3.2.2.2).length) ((z3.2.2.2).set (0+(Int.toNat s)) ((ZH z12).1))) (z1.1) (z1.2.1) (z1.2.2.1) (z1.2.2.2.1) (z1.2.2.2.2.1) (z1.2.2.2.2.2.1) (z1.2.2.2.2.2.2.1) (z1.2.2.2.2.2.2.2.1) (z1.2.2.2.2.2.2.2.2.1) (((ZH z12).2.1).2) (z1.2.2.2.2.2.2.2.2.2.2.1) (z1.2.2.2.2.2.2.2.2.2.2.2.1) (z1.2.2.2.2.2.2.2.2.2.2.2.2.1) (z1.2.2.2.2.2.2.2.2.2.2.2.2.2)))) (zif (((Qt p s).1)==(5:Int)) ((Qgq z1 ((Qt p s).2))∧(Qac K p s z6 z8 z7 (z4.1) (z4.2.1) (z4.2.2.1) (z4.2.2.2.1) (z4.2.2.2.2.1) (z4.2.2.2.2.2.1) (z4.2.2.2.2.2.2.1) (z4.2.2.2.2.2.2.2.1) (z4.2.2.2.2.2.2.2.2.1) (z4.2.2.2.2.2.2.2.2.2.1) (z4.2.2.2.2.2.2.2.2.2.2.1) (z4.2.2.2.2.2.2.2.2.2.2.2.1) (z4.2.2.2.2.2.2.2.2.2.2.2.2.1) (z4.2.2.2.2.2.2.2.2.2.2.2.2.2))) (zif (((Qt p s).1)==(6:Int)) ((((0:Int)≤(Qt p s).2∧Int.toNat ((Qt p s).2)<(z3.1).length)∧(Qf9 z1 ((Qt p s).2) (z11.2)))∧(zif (s==(0:Int)) (Qac K p s z6 z8 z7 (z2.1) (z2.2.1) (z2.2.2.1) (z2.2.2.2.1) (z2.2.2.2.2.1) (z2.2.2.2.2.2.1) (z2.2.2.2.2.2.2.1) (z2.2.2.2.2.2.2.2.1) (z2.2.2.2.2.2.2.2.2.1) (z2.2.2.2.2.2.2.2.2.2.1) ([]) (z2.2.2.2.2.2.2.2.2.2.2.2.1) (z2.2.2.2.2.2.2.2.2.2.2.2.2.1) (z2.2.2.2.2.2.2.2.2.2.2.2.2.2)) (Qac K p s z6 z8 z7 (z2.1) (z2.2.1) (z2.2.2.1) (z2.2.2.2.1) (z2.2.2.2.2.1) (z2.2.2.2.2.2.1) (z2.2.2.2.2.2.2.1) (z2.2.2.2.2.2.2.2.1) (z2.2.2.2.2.2.2.2.2.1) (z2.2.2.2.2.2.2.2.2.2.1) (z2.2.2.2.2.2.2.2.2.2.2.1) (z2.2.2.2.2.2.2.2.2.2.2.2.1) (z2.2.2.2.2.2.2.2.2.2.2.2.2.1) (z2.2.2.2.2.2.2.2.2.2.2.2.2.2)))) (zif (((Qt p s).1)==(7:Int)) ((((0:Int)≤w64 (s-(1:Int))∧Int.toNat z13<(z3.2.2.2).length)∧(((0+z5)<(z3.2.2.2).length)∧((JS (α:=Qm) (β:=Z1) (gtd QP (z3.2.2.2) (0+z5)) ((Qt p s).2,z1.2.2.2.2.2.2.2.2.2.2.1))∧(((0:Int)≤w64 (s-(1:Int))∧Int.toNat z13<(z3.2.2.2).length)∧((0+z5)<(z3.2.2.2).length)))))∧(Qac K p s z6 z8 (List.take ((z3.2.2.2).length) ((z3.2.2.2).set (0+z5) ((z10.1).1,(List.take (((z10.1).2).length) (List.drop 0 ((z10.1).2)))))) (z1.1) (z1.2.1) (z1.2.2.1) (z1.2.2.2.1) (z1.2.2.2.2.1) (z1.2.2.2.2.2.1) (z1.2.2.2.2.2.2.1) (z1.2.2.2.2.2.2.2.1) (z1.2.2.2.2.2.2.2.2.1) (z1.2.2.2.2.2.2.2.2.2.1) ([]) (z1.2.2.2.2.2.2.2.2.2.2.2.1) (z1.2.2.2.2.2.2.2.2.2.2.2.2.1) (z1.2.2.2.2.2.2.2.2.2.2.2.2.2))) (Qac K p s z6 z8 z7 (z1.1) (z1.2.1) (z1.2.2.1) (z1.2.2.2.1) (z1.2.2.2.2.1) (z1.2.2.2.2.2.1) (z1.2.2.2.2.2.2.1) (z1.2.2.2.2.2.2.2.1) (z1.2.2.2.2.2.2.2.2.1) (z1.2.2.2.2.2.2.2.2.2.1) (z1.2.2.2.2.2.2.2.2.2.2.1) (z1.2.2.2.2.2.2.2.2.2.2.2.1) (z1.2.2.2.2.2.2.2.2.2.2.2.2.1) (z1.2.2.2.2.2.2.2.2.2.2.2.2.2))))))))))))):Hold (tawp Qgx (0+0) QOi (TQ 0 0 QwT K) (Qf [(.a (Tup.cells Q0 p)),(.c TI s)])) :=
 Hold.of (by kernel_rfl) h
theorem QC3 (p:Qo) (s:Int) (hp:Qj0 p s):TCon Tryz.prog 33 [(.a (Tup.cells Q0 p)),(.c TI s)] (QbB (Yk p s)):=by
 refine Qr rfl fun hb=>tcg (n:=175) (sg:=QmP.sg) Qk (TOk.cons QLa (TOk.cons QNq (TOk.cons Qrq (TOk.cons QNH (TOk.cons QOp (TOk.cons QPv (TOk.cons QQd (TOk.cons QFg TOk.nil)))))))) (by kernel_rfl) (by kernel_rfl) (QB4 _ p s ?_)
 have hl_p_0:(p.1).length≤9223372036854775807:=hb.1.1.1
 have hl_p_1:(p.2.1).length≤9223372036854775807:=hb.1.2.1.1
 have hl_p_2:(p.2.2.1).length≤9223372036854775807:=hb.1.2.2.1.1
 have hl_p_3:(p.2.2.2).length≤9223372036854775807:=hb.1.2.2.2.1.1
 conv=>zeta
 have hp':Sz.sz p≤1073741824:=hp
 have hs:Sz.sz p=Sz.sz p.1+Sz.sz p.2.1+Sz.sz p.2.2.1+Sz.sz p.2.2.2:=QdH p
 simp only [id,List.drop_zero,List.take_length,Nat.zero_add]
 refine ⟨by unfold QJ;omega,fun h=>R_eq ?_,fun h=>?_⟩
 ·rw [QBn (by simpa using h)]
 have he:YJ p s=true:=by simpa using h
 obtain ⟨k,rfl,hk,h4,ha,hb,hst,hm1,hm2,c1,c3,c4,c7,hkind⟩:=QOh he
 have hpc:=QyG hst
 have hxs:=QeI QM p.2.1 k
 have hx:=Yi (gtd QM p.2.1 k)
 have hpl:=Qad (QH (gtd QM p.2.1 k))
 have hq1:=fun j=>QeI QP p.2.2.1 j
 have hq2:=fun j=>QeI QP p.2.2.2 j
 have d0:Sz.sz QM=0:=rfl
 have d1:Sz.sz QP=0:=rfl
 have ts:∀ (l:List Qm) (i:Nat) (v:Qm),List.take l.length (l.set i v)=l.set i v:=fun l i v=>List.take_of_length_le (by simp)
 simp only [Int.toNat_natCast]
 have key:∀ (y:Qc) (a b:List Qm),Yc p k (gtd QM p.2.1 k) (Qt p (k:Int))=(y,a,b)→y.1=(gtd QM p.2.1 k).1→Qac (fun r'=>r'=QbB (Yk p (k:Int))) p (k:Int) p.2.1 a b y.1 y.2.1 y.2.2.1 y.2.2.2.1 y.2.2.2.2.1 y.2.2.2.2.2.1 y.2.2.2.2.2.2.1 y.2.2.2.2.2.2.2.1 y.2.2.2.2.2.2.2.2.1 y.2.2.2.2.2.2.2.2.2.1 y.2.2.2.2.2.2.2.2.2.2.1 y.2.2.2.2.2.2.2.2.2.2.2.1 y.2.2.2.2.2.2.2.2.2.2.2.2.1 y.2.2.2.2.2.2.2.2.2.2.2.2.2:=by
  intro y a b hy hpy
  have hw:w64 (y.1+1)=y.1+1:=by rw [hpy];exact Qp (by ((try simp only [sPc,QH,sOps,Qv,QF,Qg,QK,sX,sY,sG,sD,QD,QC,sSat,QQ,QG,Qy,QA] at *);omega)) (by ((try simp only [sPc,QH,sOps,Qv,QF,Qg,QK,sX,sY,sG,sD,QD,QC,sSat,QQ,QG,Qy,QA] at *);omega))
  refine (QB7 (fun r'=>r'=QbB (Yk p (k:Int))) p (k:Int) _ _ _ y.1 y.2.1 y.2.2.1 y.2.2.2.1 y.2.2.2.2.1 y.2.2.2.2.2.1 y.2.2.2.2.2.2.1 y.2.2.2.2.2.2.2.1 y.2.2.2.2.2.2.2.2.1 y.2.2.2.2.2.2.2.2.2.1 y.2.2.2.2.2.2.2.2.2.2.1 y.2.2.2.2.2.2.2.2.2.2.2.1 y.2.2.2.2.2.2.2.2.2.2.2.2.1 y.2.2.2.2.2.2.2.2.2.2.2.2.2 ?_).h
  simp only [id,List.drop_zero,List.take_length,Nat.zero_add,Int.toNat_natCast]
  refine ⟨⟨⟨by omega,hk⟩,hk⟩,R_eq ?_⟩
  rw [QFW he rfl hy hpy,hw,List.take_of_length_le (by simp)]
 have k2:(Qt p (k:Int)).1=2→∀ inn,inn=(if k=0 then (gtd Zj p.1 (Qt p (k:Int)).2.toNat).1 else sX (gtd QM p.2.1 k))→QhB (fun r'=>r'=QbB (Yk p (k:Int))) p (k:Int) inn:=by
  intro g inn hi
  refine (QzW (fun r'=>r'=QbB (Yk p (k:Int))) p (k:Int) inn ?_).h
  conv=>zeta
  simp only [id,List.drop_zero,List.take_length,Nat.zero_add,Int.toNat_natCast]
  refine ⟨⟨⟨hm1,by omega⟩,by unfold Qh7;omega⟩,?_⟩
  exact key (YU (gtd QM p.2.1 k) (Qt p (k:Int)).2 inn (gtd Zj p.1 (Qt p (k:Int)).2.toNat).2) _ _ (by rw [pi2 g,hi]) (QEx _ _ _ _)
 refine ⟨⟨⟨by omega,hk⟩,hk⟩,?_⟩
 refine ⟨fun g=>?_,fun n1=>?_⟩
 ·have g:(Qt p (k:Int)).1=1:=by simpa using g
  have g1:=c1 g
  have e:w64 ((k:Int)-1)=((k-1:Nat):Int):=by rw [Qp (by omega) (by omega)];omega
  rw [e]
  simp only [Int.toNat_natCast]
  rw [ts]
  exact ⟨⟨⟨by omega,by omega⟩,by omega,by unfold QJ;have:=hq1 (k-1);omega⟩,⟨⟨by omega,by omega⟩,by omega⟩,key (setX (gtd QM p.2.1 k) (ZH (gtd QP p.2.2.1 (k-1))).2.1.2) _ _ (pi1 g) rfl⟩
 refine ⟨fun g=>?_,fun n2=>?_⟩
 ·have g:(Qt p (k:Int)).1=2:=by simpa using g
  refine ⟨fun hz=>⟨⟨hm1,by omega⟩,k2 g _ ?_⟩,fun hz=>k2 g _ ?_⟩
  ·rw [if_pos (by simp at hz;omega)]
  ·rw [if_neg (by simp at hz;omega)]
 refine ⟨fun g=>?_,fun n3=>?_⟩
 ·have g:(Qt p (k:Int)).1=3:=by simpa using g
  have g1:=c3 g
  rw [ts]
  refine ⟨⟨⟨by omega,by omega⟩,by omega,?_,⟨by omega,by omega⟩,by omega⟩,key (setY (gtd QM p.2.1 k) []) _ _ (pi3 g) rfl⟩
  unfold JS;simp only [QcO,Yd];have:=hq1 (k);((try simp only [sPc,QH,sOps,Qv,QF,Qg,QK,sX,sY,sG,sD,QD,QC,sSat,QQ,QG,Qy,QA] at *);omega)
 refine ⟨fun g=>?_,fun n4=>?_⟩
 ·have g:(Qt p (k:Int)).1=4:=by simpa using g
  have g1:=c4 g
  rw [ts]
  exact ⟨⟨⟨by omega,by omega⟩,by omega,by unfold QJ;have:=hq2 (k);omega⟩,⟨⟨by omega,by omega⟩,by omega⟩,key (setG (gtd QM p.2.1 k) (ZH (gtd QP p.2.2.2 k)).2.1.2) _ _ (pi4 g) rfl⟩
 refine ⟨fun g=>?_,fun n5=>?_⟩
 ·have g:(Qt p (k:Int)).1=5:=by simpa using g
  exact ⟨by unfold Qgq;omega,key (Jh (gtd QM p.2.1 k) (Qt p (k:Int)).2) _ _ (pi5 g) (QMz _ _)⟩
 refine ⟨fun g=>?_,fun n6=>?_⟩
 ·have g:(Qt p (k:Int)).1=6:=by simpa using g
  refine ⟨⟨⟨hm1,by omega⟩,by unfold Qf9;omega⟩,fun hz=>?_,fun hz=>?_⟩
  ·exact key (setD (Z4 (gtd QM p.2.1 k) (Qt p (k:Int)).2 (gtd Zj p.1 (Qt p (k:Int)).2.toNat).2) []) _ _ (by rw [pi6 g,if_pos (by simp at hz;omega)]) (Qre _ _ _)
  ·exact key (Z4 (gtd QM p.2.1 k) (Qt p (k:Int)).2 (gtd Zj p.1 (Qt p (k:Int)).2.toNat).2) _ _ (by rw [pi6 g,if_neg (by simp at hz;omega)]) (Qre _ _ _)
 refine ⟨fun g=>?_,fun n7=>?_⟩
 ·have g:(Qt p (k:Int)).1=7:=by simpa using g
  have g1:=c7 g
  have e:w64 ((k:Int)-1)=((k-1:Nat):Int):=by rw [Qp (by omega) (by omega)];omega
  rw [e]
  simp only [Int.toNat_natCast]
  rw [ts]
  refine ⟨⟨⟨by omega,by omega⟩,by omega,?_,⟨by omega,by omega⟩,by omega⟩,key (setD (gtd QM p.2.1 k) []) _ _ (pi7 g) rfl⟩
  unfold JS;simp only [QcO,Yd];have:=hq2 (k-1);((try simp only [sPc,QH,sOps,Qv,QF,Qg,QK,sX,sY,sG,sD,QD,QC,sSat,QQ,QG,Qy,QA] at *);omega)
 ·simp at n1 n2 n3 n4 n5 n6 n7
  exact key (gtd QM p.2.1 k) _ _ (pi8 (by omega)) rfl
theorem QBi:Qj Tryz.prog QmP:=Ql fun x h=>QC3 x.1 x.2.1 h
end
end Go.Proofs.YtjbdljkhbglnhaaGreat.Am

