/- -/
import Derived.Test.YtjbdljkhbglnhaaGreatZID1
import Derived.Test.YtjbdljkhbglnhaaGreatZIP4
import Derived.Test.YtjbdljkhbglnhaaGreatZID2
import Derived.Test.YtjbdljkhbglnhaaGreatZID4
import Derived.Test.YtjbdljkhbglnhaaGreatZIP6
import Derived.Test.YtjbdljkhbglnhaaGreatZIKM
namespace Go.Proofs.YtjbdljkhbglnhaaGreat.Am
open Go Go.RowKit Go.Proofs.YtjbdljkhbglnhaaGreat
set_option linter.all false
set_option maxHeartbeats 2000000
noncomputable section
variable (K:TRes→Prop)
def Qbi (t:(List Qy) × (((List Int) × Int × Int))):TRes:=⟨(.r QK 0 0 ((t.1).length)),[(.sl 108 QK true t.1)],[[(zcs [(.int .u8)] t.2.1),(zci t.2.2.1),(zci t.2.2.2)]],true,[]⟩
def Qau (x0:((List Int) × Int × Int)) (x1:List TOp'):(List Qy) × (((List Int) × Int × Int)):=Classical.epsilon fun t:(List Qy) × (((List Int) × Int × Int))=>(QcQ x0 x1 t)∧TCon Tryz.prog 200 [(.bx [(.c (.sl [(.int .u8)]) x0.1),(.c TI x0.2.1),(.c TI x0.2.2)]),(.a [(.c (.sl ctOp) x1)])] (Qbi t)
def QmK:TRow:=Qk 200 [(.b [(.sl [(.int .u8)]),TI,TI]),(.a [(.sl ctOp)])] fun x=>(some (Zr x.1 x.2.1),Qbi (Qau x.1 x.2.1))
def QlX:List TRow:=[JX,QgU,Qe9,Qi5]
def QC0:TCode :=
 (zsq [(zsq [(.reg [zmv 11 6,zbi 12 .gtr 11 (zki 0)]),(.cond 12 .skip (.exit 0))]),(.block 1 (.draw [zmv 15 5,zmv 16 0,zLd 17 3 1,zca 18 153 [17],zca 19 105 [16,18],zmv 20 0,zLd 21 3 1,zca 22 154 [21],zca 23 105 [20,22],zop 24 (.build (z0s QK) [(0,1,19),(1,1,23)]),zop 25 (.bsl 108 QK [24]),zop 26 (.app 15 25 108 QK),zmv 5 26] [(3,6),(4,6)])),(.reg [zmv 13 6,zbi 14 .sub 13 (zki 1),zmv 6 14])])
def QCA:List (Nat × Md):=[(0,.b [.d,.d,.d]),(3,.b [.d]),(5,.one .f),(6,.one .d)]
def QCF:TCode :=
 (zsq [(.reg [zmv 27 5,zmv 4 27]),.ret])
def QWT:TCode :=
 (zsq [(.reg [zop 3 (.box 26 1 1),zmv 4 (.k (.n QK))]),(.reg [zop 7 (.bsl 108 QK []),zmv 5 7]),(zsq [(.reg [zmv 8 0,zca 9 108 [8,(zki 4)],zbi 10 .add (zki 1) 9,zmv 6 10]),(.block 0 (.loop QCA QC0))]),QCF])
def QyH:List (ARv × Md):=[(.t 4,.one (.o 108))]
def Qz6:Qb:=TQ 1 0 QyH K
def QI5:Qb:=Qseq (tawp QlX 1 QCF (Qz6 K)) (Qz6 K)
def QGR:Qb:=Qblk 0 (QI5 K)
def Qg0 (m:List TOp') (n:Int) (c0:List Int) (c1:Int) (c2:Int) (b:List Qy):Prop:=Loop QlX 1 QCA QC0 (QGR K) ⟨[(0,(.p 0 0 0)),(3,(.p 1 0 0)),(5,(.r QK 2 0 b.length)),(6,(zci n))],[(0,(.box [(zcs [(.int .u8)] c0),(zci c1),(zci c2)])),(1,(.box [(zcs ctOp m)])),(2,(.sl 108 QK true b))],3⟩
theorem Qsz (m:List TOp') (n:Int) (c0:List Int) (c1:Int) (c2:Int) (b:List Qy) (h :
 (zif (decide (n>(0:Int))) (((JM (c0,c1,c2) (Q6 m))∧((JM ((Yr (c0,c1,c2) (Q6 m)).2) (Q5 m))∧((b.length=b.length∨b.length+1≤b.length)∧b.length+1≤big)))∧(Qg0 K m (w64 (n-(1:Int))) (((Yr ((Yr (c0,c1,c2) (Q6 m)).2) (Q5 m)).2).1) (((Yr ((Yr (c0,c1,c2) (Q6 m)).2) (Q5 m)).2).2.1) (((Yr ((Yr (c0,c1,c2) (Q6 m)).2) (Q5 m)).2).2.2) (List.take (b.length+1) ((List.take b.length b)++([((List.take (((Yr (c0,c1,c2) (Q6 m)).1).length) (List.drop 0 ((Yr (c0,c1,c2) (Q6 m)).1))),(List.take (((Yr ((Yr (c0,c1,c2) (Q6 m)).2) (Q5 m)).1).length) (List.drop 0 ((Yr ((Yr (c0,c1,c2) (Q6 m)).2) (Q5 m)).1))))]))))) (K (Qbi ((List.take b.length b),(c0,c1,c2)))))):Qg0 K m n c0 c1 c2 b :=
 Loop.of (by kernel_rfl) h
theorem QKW (c:((List Int) × Int × Int)) (m:List TOp') (h :
 ((Zr c (4:Int))∧(Qg0 K m (w64 ((1:Int)+((Qs c (4:Int)).1))) (((Qs c (4:Int)).2).1) (((Qs c (4:Int)).2).2.1) (((Qs c (4:Int)).2).2.2) ([]:List Qy)))):Hold (tawp QlX (1+0) QWT (TQ 1 0 QyH K) (Qi [(.bx [(.c (.sl [(.int .u8)]) c.1),(.c TI c.2.1),(.c TI c.2.2)]),(.a [(.c (.sl ctOp) m)])])) :=
 Hold.of (by kernel_rfl) h
theorem QsU (c:((List Int) × Int × Int)) (m:List TOp') (hp:Zr c m):∃ t:(List Qy) × (((List Int) × Int × Int)),(QcQ c m t)∧TCon Tryz.prog 200 [(.bx [(.c (.sl [(.int .u8)]) c.1),(.c TI c.2.1),(.c TI c.2.2)]),(.a [(.c (.sl ctOp) m)])] (Qbi t):=by
 refine Y8 (tcx (n:=28) (sg:=QmK.sg) Qm (TOk.cons Qaz (TOk.cons QCO (TOk.cons QmT (TOk.cons QuE TOk.nil)))) (by kernel_rfl) (by kernel_rfl) (QKW (fun r'=>∃ t,(QcQ c m t)∧r'=Qbi t) c m ?_))
 have hc:QQ c:=hp
 have b1:=YM c 4 hc
 have h1:=b1.1
 have h2:=b1.2.1 (by omega)
 rw [Qp (x:=1+_) (by omega) (by omega)]
 have hi:Q6 m≤6:=by
  by_cases hm:QT m=true
  ·exact (Qp7 hm).1.2
  ·unfold Q6;rw [if_neg hm];omega
 have ho:Q5 m≤6:=by
  by_cases hm:QT m=true
  ·exact (Qp7 hm).2.2
  ·unfold Q5;rw [if_neg hm];omega
 refine ⟨hc,?_⟩
 have key:∀ (k:Nat) (t:TCur) (b:List Qy),QQ t→b.length+k≤4→1≤b.length+k→(QT m=true→∀ p,p∈b→JS m p=true)→Qg0 (fun r'=>∃ t,(QcQ c m t)∧r'=Qbi t) m (k:Int) t.1 t.2.1 t.2.2 b:=by
  intro k
  induction k with
  | zero =>
   intro t b hc k1 k2 k3
   refine Qsz (fun r'=>∃ t,(QcQ c m t)∧r'=Qbi t) m _ _ _ _ _ ⟨fun h=>by simp at h,fun _=>ZM ?_⟩
   rw [List.take_length]
   refine ⟨⟨by show 1≤b.length;omega,by show b.length≤4;omega,hc⟩,fun hm=>?_⟩
   unfold YL
   rw [hm,Bool.true_and,Bool.and_eq_true,List.all_eq_true]
   exact ⟨QP.2 ⟨by show (1:Int)≤(b.length:Nat);omega,by show ((b.length:Nat):Int)≤5;omega⟩,k3 hm⟩
  | succ k ih =>
   intro t b hc k1 k2 k3
   have hv:JM t (Q6 m):=⟨hc,by omega⟩
   have b2:=QeZ _ _ hv
   have hv2:JM (Yr t (Q6 m)).2 (Q5 m):=⟨b2.2.2,by omega⟩
   have b3:=QeZ _ _ hv2
   refine Qsz (fun r'=>∃ t,(QcQ c m t)∧r'=Qbi t) m _ _ _ _ _ ⟨fun _=>⟨⟨hv,hv2,⟨.inl rfl,by rw [Q9];omega⟩⟩,?_⟩,fun h=>by simp at h <;> omega⟩
   rw [Zc,Qp (x:=((k+1:Nat):Int)-1) (by omega) (by omega),show ((k+1:Nat):Int)-1=k by omega]
   refine ih _ _ b3.2.2 (by simp;omega) (by simp;omega) (fun hm p hpm=>?_)
   rcases List.mem_append.1 hpm with hpm | hpm
   ·exact k3 hm p hpm
   ·have r:=Qp7 hm
    rw [List.mem_singleton.1 hpm,QaA,QaA]
    unfold JS
    rw [hm,Bool.true_and,Bool.and_eq_true]
    exact ⟨QzZ b2.1 b2.2.1 r.1.1 r.1.2,QzZ b3.1 b3.2.1 r.2.1 r.2.2⟩
 have h:=key (1+(Qs c 4).1).toNat (Qs c 4).2 [] b1.2.2.2 (by simp;omega) (by simp;omega) (fun _ p hpm=>by cases hpm)
 rw [Int.toNat_of_nonneg (by omega)] at h
 exact h
theorem QOa (c:((List Int) × Int × Int)) (m:List TOp') (hp:Zr c m):QcQ c m (Qau c m):=(Classical.epsilon_spec (QsU c m hp)).1
theorem QWd (c:((List Int) × Int × Int)) (m:List TOp') (hp:Zr c m):TCon Tryz.prog 200 [(.bx [(.c (.sl [(.int .u8)]) c.1),(.c TI c.2.1),(.c TI c.2.2)]),(.a [(.c (.sl ctOp) m)])] (Qbi (Qau c m)):=(Classical.epsilon_spec (QsU c m hp)).2
theorem QPR:Ql Tryz.prog QmK:=Qn fun x h=>QWd x.1 x.2.1 h
def Qab (t:QM × (List Qy) × (((List Int) × Int × Int))):TRes:=⟨(.tp [(.a [(zcs ctOp t.1.1),(.r [TI] 0 0 ((t.1.2.1).length)),(zci t.1.2.2.1),(.r [.bool] 1 0 ((t.1.2.2.2.1).length)),(.r [TI] 2 0 ((t.1.2.2.2.2.1).length)),(.r [TI] 3 0 ((t.1.2.2.2.2.2).length))]),(zcs QK t.2.1)]),[(.sl 3 [TI] true t.1.2.1),(.sl 4 [.bool] true t.1.2.2.2.1),(.sl 3 [TI] true t.1.2.2.2.2.1),(.sl 3 [TI] true t.1.2.2.2.2.2)],[[(zcs [(.int .u8)] t.2.2.1),(zci t.2.2.2.1),(zci t.2.2.2.2)]],true,[]⟩
def Z6 (x0:((List Int) × Int × Int)):QM × (List Qy) × (((List Int) × Int × Int)):=Classical.epsilon fun t:QM × (List Qy) × (((List Int) × Int × Int))=>(QaK x0 t)∧TCon Tryz.prog 143 [(.bx [(.c (.sl [(.int .u8)]) x0.1),(.c TI x0.2.1),(.c TI x0.2.2)])] (Qab t)
def Qow:TRow:=Qk 143 [(.b [(.sl [(.int .u8)]),TI,TI])] fun x=>(some (QQ x.1),Qab (Z6 x.1))
def QfI:List TRow:=[Qmn,QlK,JX,QmK,QdY,QjS,Qcf]
def Qym:TCode :=
 (zsq [(zsq [(.reg [zmv 22 7,zfa 23 5 1,zld 24 23 1,zle 25 24,zbi 26 .leq 22 25]),(.cond 26 .skip (.exit 0))]),(.block 1 (zsq [(.draw [zfa 29 5 3,zld 30 29 1,zmv 31 0,zca 32 106 [31,(zki 3)],zop 33 (.bsl 4 [.bool] [32]),zop 34 (.app 30 33 4 [.bool]),zfa 35 5 3,zst 35 34 1] [(0,3),(1,3),(0,4),(1,4)]),(.reg [zmv 36 7,zbi 37 .gtr 36 (zki 0)]),(.cond 37 (.draw [zfa 38 5 4,zld 39 38 1,zmv 40 0,zca 41 108 [40,(zki 3)],zbi 42 .add (zki 1) 41,zop 43 (.bsl 3 [TI] [42]),zop 44 (.app 39 43 3 [TI]),zfa 45 5 4,zst 45 44 1] [(0,3),(1,3),(0,5),(1,5)]) .skip)])),(.reg [zmv 27 7,zbi 28 .add 27 (zki 1),zmv 7 28])])
def Qq2:List (Nat × Md):=[(0,.b [.d,.d,.d]),(2,.b (zds 6)),(5,.b [.d,.f,.d,.o 4,.o 3,.o 3]),(6,.one .d),(7,.one .d)]
def Qr9:TCode :=
 (zsq [(zsq [(.reg [zmv 46 8,zfa 47 5 1,zld 48 47 1,zle 49 48,zbi 50 .leq 46 49]),(.cond 50 .skip (.exit 2))]),(.block 3 (.draw [zfa 53 5 5,zld 54 53 1,zLd 55 5 6,zmv 56 8,zmv 57 6,zle 58 57,zca 59 78 [55,56,58],zmv 60 0,zop 61 (.bsl 3 [TI] [(zki 0),(zki 0),(zki 7)]),zca 62 145 [60,61],zbi 63 .add 59 62,zop 64 (.bsl 3 [TI] [63]),zop 65 (.app 54 64 3 [TI]),zfa 66 5 5,zst 66 65 1] [(0,6),(1,6),(0,8),(1,8),(2,8),(5,8),(6,8),(0,9),(1,9),(0,11),(1,11)])),(.reg [zmv 51 8,zbi 52 .add 51 (zki 1),zmv 8 52])])
def Qt3:List (Nat × Md):=[(0,.b [.d,.d,.d]),(2,.b (zds 6)),(5,.b [.d,.f,.d,.f,.f,.f]),(6,.one .d),(8,.one .d)]
def QvT:TCode :=
 (zsq [(.reg [zLd 67 5 6,zmv 68 6,zst 2 67 6,zmv 3 68]),.ret])
def QrS:TCode :=
 (zsq [(zsq [(.reg [zmv 8 (zki 0)]),(.block 2 (.loop Qt3 Qr9))]),QvT])
def QRP:TCode :=
 (zsq [(.reg [zop 2 (.new 30 (z0s ZW)),zmv 3 (.k (.n QK))]),(.reg [zmv 9 0,zca 10 198 [9],zop 4 (.new 26 [(.n ctOp)]),zst 4 10 1]),(.draw [zLd 11 4 1,zmv 12 0,zLd 13 4 1,zca 14 199 [12,13],zmv 15 0,zca 16 108 [15,(zki 2)],zbi 17 .add (zki 1) 16,zop 18 (.build (z0s ZW) [(0,1,11),(1,1,14),(2,1,17)]),zop 5 (.new 30 (z0s ZW)),zst 5 18 6] [(0,3),(0,5),(0,8),(2,8),(3,8),(5,8)]),(.reg [zmv 19 0,zLd 20 4 1,zca 21 200 [19,20],zmv 6 21]),(zsq [(.reg [zmv 7 (zki 0)]),(.block 0 (.loop Qq2 Qym))]),QrS])
def QCV:List (ARv × Md):=[(.l 2 6 true,.b [.d,.o 3,.d,.o 4,.o 3,.o 3]),(.t 3,.one .d)]
def QgI:Qb:=TQ 1 0 QCV K
def QP6:Qb:=Qseq (tawp QfI 1 QvT (QgI K)) (QgI K)
def QWZ:Qb:=Qblk 2 (QP6 K)
def Qhc (c:((List Int) × Int × Int)) (s1:Int) (c01:List Int) (c11:Int) (c21:Int) (x11:List Int) (x31:List Bool) (x41:List Int) (x5:List Int):Prop:=let z1:=List.take (((ZL c).1).length) (List.drop 0 ((ZL c).1))
 let z2:=Qs ((Qat ((ZL c).2) z1).2) (2:Int)
 Loop QfI 1 Qt3 Qr9 (QWZ K) ⟨[(0,(.p 0 0 0)),(2,(.p 1 0 0)),(5,(.p 6 0 0)),(6,(zcs QK (List.take (((Qau (z2.2) z1).1).length) (List.drop 0 ((Qau (z2.2) z1).1))))),(8,(zci s1))],[(0,(.box [(zcs [(.int .u8)] c01),(zci c11),(zci c21)])),(1,(.box (Tup.cells ZW ([],[],(0:Int),[],[],[])))),(2,(.sl 3 [TI] true x11)),(3,(.sl 4 [.bool] true x31)),(4,(.sl 3 [TI] true x41)),(5,(.sl 3 [TI] true x5)),(6,(.box [(zcs ctOp z1),(.r [TI] 2 0 x11.length),(zci (w64 ((1:Int)+(z2.1)))),(.r [.bool] 3 0 x31.length),(.r [TI] 4 0 x41.length),(.r [TI] 5 0 x5.length)]))],7⟩
def QNL:Qb:=Qseq (tawp QfI 1 QrS (QgI K)) (QgI K)
def QMN:Qb:=Qblk 0 (QNL K)
def Qff (c:((List Int) × Int × Int)) (s:Int) (c0:List Int) (c1:Int) (c2:Int) (x1:List Int) (x3:List Bool) (x4:List Int):Prop:=let z1:=List.take (((ZL c).1).length) (List.drop 0 ((ZL c).1))
 let z2:=Qs ((Qat ((ZL c).2) z1).2) (2:Int)
 Loop QfI 1 Qq2 Qym (QMN K) ⟨[(0,(.p 0 0 0)),(2,(.p 1 0 0)),(5,(.p 6 0 0)),(6,(zcs QK (List.take (((Qau (z2.2) z1).1).length) (List.drop 0 ((Qau (z2.2) z1).1))))),(7,(zci s))],[(0,(.box [(zcs [(.int .u8)] c0),(zci c1),(zci c2)])),(1,(.box (Tup.cells ZW ([],[],(0:Int),[],[],[])))),(2,(.sl 3 [TI] true x1)),(3,(.sl 4 [.bool] true x3)),(4,(.sl 3 [TI] true x4)),(5,(.sl 3 [TI] true ([]:List Int))),(6,(.box [(zcs ctOp z1),(.r [TI] 2 0 x1.length),(zci (w64 ((1:Int)+(z2.1)))),(.r [.bool] 3 0 x3.length),(.r [TI] 4 0 x4.length),(.r [TI] 5 0 0)]))],7⟩
theorem Qxr (c:((List Int) × Int × Int)) (s1:Int) (c01:List Int) (c11:Int) (c21:Int) (x11:List Int) (x31:List Bool) (x41:List Int) (x5:List Int) (h :
 let z1:=List.take (((ZL c).1).length) (List.drop 0 ((ZL c).1))
 let z2:=Qs ((Qat ((ZL c).2) z1).2) (2:Int)
 let z3:=List.take (((Qau (z2.2) z1).1).length) (List.drop 0 ((Qau (z2.2) z1).1))
 (zif (decide (s1≤((x11.length:Nat):Int))) (((Y9 (c01,c11,c21) ([(0:Int),(0:Int),(7:Int)]))∧((x5.length=x5.length∨x5.length+1≤x5.length)∧x5.length+1≤big))∧(Qhc K c (w64 (s1+(1:Int))) (((ZK (c01,c11,c21) ([(0:Int),(0:Int),(7:Int)])).2).1) (((ZK (c01,c11,c21) ([(0:Int),(0:Int),(7:Int)])).2).2.1) (((ZK (c01,c11,c21) ([(0:Int),(0:Int),(7:Int)])).2).2.2) (List.take x11.length x11) (List.take x31.length x31) (List.take x41.length x41) (List.take (x5.length+1) ((List.take x5.length x5)++([w64 ((Yp (z1,(List.take x11.length (List.drop 0 x11)),w64 ((1:Int)+(z2.1)),(List.take x31.length (List.drop 0 x31)),(List.take x41.length (List.drop 0 x41)),(List.take x5.length (List.drop 0 x5))) s1 (z3.length:Int))+((ZK (c01,c11,c21) ([(0:Int),(0:Int),(7:Int)])).1))]))))) (K (Qab ((z1,(List.take x11.length x11),w64 ((1:Int)+(z2.1)),(List.take x31.length x31),(List.take x41.length x41),(List.take x5.length x5)),z3,(c01,c11,c21)))))):Qhc K c s1 c01 c11 c21 x11 x31 x41 x5 :=
 Loop.of (by kernel_rfl) h
theorem Qui (c:((List Int) × Int × Int)) (s:Int) (c0:List Int) (c1:Int) (c2:Int) (x1:List Int) (x3:List Bool) (x4:List Int) (h :
 (zif (decide (s≤((x1.length:Nat):Int))) (((Zr (c0,c1,c2) (3:Int))∧((x3.length=x3.length∨x3.length+1≤x3.length)∧x3.length+1≤big))∧(zif (decide (s>(0:Int))) (((Zr ((ZB (c0,c1,c2) (3:Int)).2) (3:Int))∧((x4.length=x4.length∨x4.length+1≤x4.length)∧x4.length+1≤big))∧(Qff K c (w64 (s+(1:Int))) (((Qs ((ZB (c0,c1,c2) (3:Int)).2) (3:Int)).2).1) (((Qs ((ZB (c0,c1,c2) (3:Int)).2) (3:Int)).2).2.1) (((Qs ((ZB (c0,c1,c2) (3:Int)).2) (3:Int)).2).2.2) (List.take x1.length x1) (List.take (x3.length+1) ((List.take x3.length x3)++([(ZB (c0,c1,c2) (3:Int)).1]))) (List.take (x4.length+1) ((List.take x4.length x4)++([w64 ((1:Int)+((Qs ((ZB (c0,c1,c2) (3:Int)).2) (3:Int)).1))]))))) (Qff K c (w64 (s+(1:Int))) (((ZB (c0,c1,c2) (3:Int)).2).1) (((ZB (c0,c1,c2) (3:Int)).2).2.1) (((ZB (c0,c1,c2) (3:Int)).2).2.2) (List.take x1.length x1) (List.take (x3.length+1) ((List.take x3.length x3)++([(ZB (c0,c1,c2) (3:Int)).1]))) (List.take x4.length x4)))) (Qhc K c 0 c0 c1 c2 (List.take x1.length x1) (List.take x3.length x3) (List.take x4.length x4) ([]:List Int)))):Qff K c s c0 c1 c2 x1 x3 x4 :=
 Loop.of (by kernel_rfl) h
theorem QXn (c:((List Int) × Int × Int)) (h :
 let z1:=List.take (((ZL c).1).length) (List.drop 0 ((ZL c).1))
 let z2:=Qat ((ZL c).2) z1
 let z3:=Qau ((Qs (z2.2) (2:Int)).2) z1
 ((QQ c)∧(((Qd6 ((ZL c).2) z1)∧(Zr (z2.2) (2:Int)))∧((Zr ((Qs (z2.2) (2:Int)).2) z1)∧(Qff K c 0 ((z3.2).1) ((z3.2).2.1) ((z3.2).2.2) (List.take ((z2.1).length) (z2.1)) ([]:List Bool) ([]:List Int)))))):Hold (tawp QfI (1+0) QRP (TQ 1 0 QCV K) (Qi [(.bx [(.c (.sl [(.int .u8)]) c.1),(.c TI c.2.1),(.c TI c.2.2)])])) :=
 Hold.of (by kernel_rfl) h
theorem QyC (c:((List Int) × Int × Int)) (hp:QQ c):∃ t:QM × (List Qy) × (((List Int) × Int × Int)),(QaK c t)∧TCon Tryz.prog 143 [(.bx [(.c (.sl [(.int .u8)]) c.1),(.c TI c.2.1),(.c TI c.2.2)])] (Qab t):=by
 refine Y8 (tcx (n:=69) (sg:=Qow.sg) Qm (TOk.cons QQu (TOk.cons QW0 (TOk.cons Qaz (TOk.cons QPR (TOk.cons QjG (TOk.cons QAS (TOk.cons Qd0 TOk.nil))))))) (by kernel_rfl) (by kernel_rfl) (QXn (fun r'=>∃ t,(QaK c t)∧r'=Qab t) c ?_))
 conv=>zeta
 have hc:QQ c:=hp
 have b1:=QGP c hc
 simp only [List.drop_zero,List.take_length]
 have hcu:Qd6 (ZL c).2 (ZL c).1:=⟨b1.2.2,by have:=b1.2.1;omega⟩
 have b2:=QSs _ _ hcu
 have b3':=YM (Qat (ZL c).2 (ZL c).1).2 2 b2.2.2
 have b3:=b3'.2.2.2
 have b4:=QOa _ (ZL c).1 b3
 have hl:=b2.2.1
 have hM:=b1.1
 have hB:=b4.2 hM
 have hC:=b2.1 hM
 have hd1:=b3'.1
 have hd2:=b3'.2.1 (by omega)
 refine ⟨hc,⟨hcu,b2.2.2⟩,b3,?_⟩
 obtain ⟨bat,hbat⟩:∃ z,(Qau (Qs (Qat (ZL c).2 (ZL c).1).2 2).2 (ZL c).1).1=z:=⟨_,rfl⟩
 obtain ⟨ds,hds⟩:∃ z,w64 (1+(Qs (Qat (ZL c).2 (ZL c).1).2 2).1)=z:=⟨_,rfl⟩
 have hds2:1≤ds∧ds≤2:=by rw [← hds,Qp (by omega) (by omega)];omega
 rw [hbat] at hB
 have k4:∀ (x11:List Int) (x31:List Bool) (x41:List Int),Zy (ZL c).1 x11=true→x11.length≤3→x31.length=x11.length+1→x41.length=x11.length→(∀ x,x∈x41→1≤x∧x≤5)→∀ (k:Nat) (t:TCur) (s1:Nat) (x5:List Int),QQ t→s1+k=x11.length+1→x5.length=s1 →
   (∀ j:Nat,j<s1→Yp ((ZL c).1,x11,ds,x31,x41,[]) (j:Int) bat.length≤gtd 0 x5 j∧gtd 0 x5 j≤100000)→Qhc (fun r'=>∃ t,(QaK c t)∧r'=Qab t) c (s1:Int) t.1 t.2.1 t.2.2 x11 x31 x41 x5:=by
  intro x11 x31 x41 mc m0 m1 m2 m3 k
  induction k with
  | zero =>
   intro t s1 x5 ht h1 h2 h3
   refine Qxr (fun r'=>∃ t,(QaK c t)∧r'=Qab t) c _ _ _ _ _ _ _ _ ?_
   conv=>zeta
   simp only [List.drop_zero,List.take_length]
   rw [hbat,hds]
   refine ⟨fun h=>by simp at h;omega,fun _=>ZM ⟨⟨?_,?_,?_,?_,?_,?_,ht⟩,QC8 (QOH hM hB mc m0 hds2 m1 m2 m3 (by show x5.length=x11.length+1;omega) fun j hj=>?_)⟩⟩
   ·show x11.length≤3;omega
   ·show 1≤x31.length;omega
   ·show x31.length≤4;omega
   ·show x41.length≤4;omega
   ·show 1≤x5.length;omega
   ·show x5.length≤4;omega
   ·have hj:j<x5.length:=hj
    exact h3 j (by omega)
  | succ k ih =>
   intro t s1 x5 ht h1 h2 h3
   have hpk:Y9 t [0,0,7]:=⟨ht,by simp,by simp⟩
   have hpost:=QdO _ _ hpk
   have hval:=hpost.1
   simp only [List.mem_cons,List.not_mem_nil,or_false] at hval
   refine Qxr (fun r'=>∃ t,(QaK c t)∧r'=Qab t) c _ _ _ _ _ _ _ _ ?_
   conv=>zeta
   simp only [List.drop_zero,List.take_length]
   rw [hbat,hds]
   refine ⟨fun _=>⟨⟨hpk,⟨.inl (by trivial),by rw [Q9];omega⟩⟩,?_⟩,fun h=>by simp at h;omega⟩
   rw [sc1 (by omega),List.take_of_length_le (by simp)]
   refine ih (ZK t [0,0,7]).2 (s1+1) _ hpost.2 (by omega) (by simp;omega) (fun j hj=>?_)
   have hpr:=QXx ((ZL c).1,x11,ds,x31,x41,[]) (j:Int) bat.length
   by_cases hjs:j=s1
   ·subst hjs
    have he:Yp ((ZL c).1,x11,ds,x31,x41,x5) (j:Int) bat.length=Yp ((ZL c).1,x11,ds,x31,x41,[]) (j:Int) bat.length:=rfl
    have hg:∀ y:Int,gtd 0 (x5++[y]) j=y:=fun y=>by rw [← h2];exact QHn 0 x5 y []
    have hv:0≤(ZK t [0,0,7]).1∧(ZK t [0,0,7]).1≤7:=by omega
    rw [hg,he]
    show _≤w64 (_+(ZK t [0,0,7]).1)∧w64 (_+(ZK t [0,0,7]).1)≤_
    rw [Qp (by omega) (by omega)]
    omega
   ·have hg:∀ y:Int,gtd 0 (x5++[y]) j=gtd 0 x5 j:=fun y=>by unfold gtd;rw [List.getD_eq_getElem?_getD,List.getD_eq_getElem?_getD,List.getElem?_append_left (by omega)]
    rw [hg]
    exact h3 j (by omega)
 have k2:∀ (x1:List Int),Zy (ZL c).1 x1=true→x1.length≤3→∀ (k:Nat) (t:TCur) (s:Nat) (x3:List Bool) (x4:List Int),QQ t→s+k=x1.length+1→x3.length=s→x4.length=s-1→(∀ x,x∈x4→1≤x∧x≤5)→Qff (fun r'=>∃ t,(QaK c t)∧r'=Qab t) c (s:Int) t.1 t.2.1 t.2.2 x1 x3 x4:=by
  intro x1 mc m0 k
  induction k with
  | zero =>
   intro t s x3 x4 ht h1 h2 h3 h4
   refine Qui (fun r'=>∃ t,(QaK c t)∧r'=Qab t) c _ _ _ _ _ _ _ ⟨fun h=>by simp at h;omega,fun _=>?_⟩
   rw [List.take_length,List.take_length,List.take_length]
   exact k4 x1 x3 x4 mc m0 (by omega) (by omega) h4 (x1.length+1) t 0 [] ht (by omega) rfl (fun j hj=>absurd hj (Nat.not_lt_zero j))
  | succ k ih =>
   intro t s x3 x4 ht h1 h2 h3 h4
   have b5:=QiF t 3 ht
   have b6':=YM (ZB t 3).2 3 b5
   have b6:=b6'.2.2.2
   have e1:=b6'.1
   have e2:=b6'.2.1 (by omega)
   refine Qui (fun r'=>∃ t,(QaK c t)∧r'=Qab t) c _ _ _ _ _ _ _ ⟨fun _=>⟨⟨ht,⟨.inl rfl,by rw [Q9];omega⟩⟩,fun hs=>⟨⟨b5,⟨.inl rfl,by rw [Q9];omega⟩⟩,?_⟩,fun hs=>?_⟩,fun h=>by simp at h;omega⟩
   ·have hs:0<s:=by have:=of_decide_eq_true hs;omega
    rw [sc1 (by omega),List.take_length (l:=x1)]
    refine ih (Qs (ZB t 3).2 3).2 (s+1) _ _ b6 (by omega) (by simp;omega) (by simp;omega) (fun x hx=>?_)
    rw [Zc] at hx
    rcases List.mem_append.1 hx with hx | hx
    ·exact h4 x hx
    ·have hx:=List.mem_singleton.1 hx
     have hx:x=w64 (1+(Qs (ZB t 3).2 3).1):=hx
     rw [hx,Qp (by omega) (by omega)];omega
   ·have hs:s=0:=by have:=of_decide_eq_false hs;omega
    rw [sc1 (by omega),List.take_length (l:=x1),List.take_length (l:=x4)]
    exact ih (ZB t 3).2 (s+1) _ _ b5 (by omega) (by simp;omega) (by omega) h4
 exact k2 _ hC hl ((Qat (ZL c).2 (ZL c).1).1.length+1) _ 0 [] [] b4.1.2.2 (by omega) rfl rfl (fun x hx=>by cases hx)
theorem QT1 (c:((List Int) × Int × Int)) (hp:QQ c):QaK c (Z6 c):=(Classical.epsilon_spec (QyC c hp)).1
theorem QGp (c:((List Int) × Int × Int)) (hp:QQ c):TCon Tryz.prog 143 [(.bx [(.c (.sl [(.int .u8)]) c.1),(.c TI c.2.1),(.c TI c.2.2)])] (Qab (Z6 c)):=(Classical.epsilon_spec (QyC c hp)).2
theorem QLI:Ql Tryz.prog Qow:=Qn fun x h=>QGp x.1 h
end
end Go.Proofs.YtjbdljkhbglnhaaGreat.Am

