/- -/
import Derived.Test.YtephkbajoofeoaaWAH1
import Derived.Test.YtephkbajoofeoaaWAGF
namespace Go.Proofs.Ytephkbajoofeoaa.Am
open Go Go.RowKit Go.Proofs.Ytephkbajoofeoaa
set_option linter.all false
noncomputable section
variable (K:TRes→Prop)
def QaO (t:Int):TRes:=zre (zci t)
def QaK:TRow:=Qm 35 [(.a Qc),(.c TI)] fun x=>(some (p_sz (α:=Qb) x.1 x.2.1),QaO (m_sz (α:=Qb) x.1 x.2.1))
def Qhw:TTab:=⟨[Qcw],false⟩
def QmH:TCode :=
 (zsq [(.reg [zop 2 (.box 53 0 2),zmv 4 (zki 0)]),(.reg [zfa 5 2 1,zld 6 5 1,zmv 7 1,zca 8 124 [6,7],zmv 1 8]),(zsq [(.reg [zmv 9 1,zbi 10 .lss 9 (zki 0)]),(.cond 10 (zsq [(.reg [zmv 4 (zki (-1))]),.ret]) .skip)]),(.reg [zmv 11 1,zmv 4 11]),.ret])
def Qne:List (ARv × Md):=[(.t 4,.one .d)]
theorem Qnf (a:Qb) (left:Int) (h :
 ((p_sz (α:=List Int) a.2 left)∧(zif (decide ((m_sz (α:=List Int) a.2 left)<(0:Int))) (K (QaO (-1:Int))) (K (QaO (m_sz (α:=List Int) a.2 left)))))):Hold (tawp Qhw (0+0) QmH (TQ 0 0 Qne K) (Qk [(.a [(.c TI a.1),(.c (.sl [TI]) a.2)]),(.c TI left)])) :=
 Hold.of (by kernel_rfl) h
theorem Qk0 (a:Qb) (left:Int) (hp:p_sz (α:=Qb) a left):TCon Try.prog 35 [(.a [(.c TI a.1),(.c (.sl [TI]) a.2)]),(.c TI left)] (QaO (m_sz (α:=Qb) a left)):=by
 refine Qp rfl fun hb=>tcg (Γ:=Qhw) (n:=12) (sg:=QaK.sg) Qr (TOkL.cons Qka TOkL.nil) (by kernel_rfl) (by kernel_rfl) (Qnf _ a left ?_)
 refine ⟨hp,fun h=>R_eq (Qhg (of_decide_eq_true h) (by first | omega | (simp only [QQ,QP,YA];omega)) hp.1),fun h=>?_⟩
 exact R_eq (congrArg (Q8 · _) (by first | rfl | omega | (simp only [QQ,QP,YA];omega)))
theorem Qdw:Qo Try.prog QaK:=Qu fun x h=>Qk0 x.1 x.2.1 h
def Yj (t:Int):TRes:=zre (zci t)
def Qbl:TRow:=Qm 123 [(.c (.sl Qc)),(.c TI)] fun x=>(some (p_sz (α:=List Qb) x.1 x.2.1),Yj (m_sz (α:=List Qb) x.1 x.2.1))
def Qax:TTab:=⟨[QaK],false⟩
def QeD:TCode :=
 (zsq [(zsq [(.reg [zmv 12 5,zmv 13 0,zle 14 13,zbi 15 .lss 12 14]),(.cond 15 .skip (.exit 0))]),(.block 1 (zsq [(.reg [zmv 18 0,zmv 19 5,zia 20 18 19 Qc,zLd 21 20 2,zmv 22 1,zca 23 35 [21,22],zmv 1 23]),(.reg [zmv 24 1,zbi 25 .lss 24 (zki 0)]),(.cond 25 (zsq [(.reg [zmv 4 (zki (-1))]),.ret]) .skip)])),(.reg [zmv 16 5,zbi 17 .add 16 (zki 1),zmv 5 17])])
def QgI:List (Nat × Md):=zdl [0,1,5]
def QdD:TCode :=
 (zsq [(.reg [zmv 26 1,zmv 4 26]),.ret])
def QmF:TCode :=
 (zsq [(.reg [zmv 4 (zki 0)]),(.reg [zmv 6 1,zmv 7 0,zle 8 7,zbi 9 .sub 6 8,zmv 1 9]),(zsq [(.reg [zmv 10 1,zbi 11 .lss 10 (zki 0)]),(.cond 11 (zsq [(.reg [zmv 4 (zki (-1))]),.ret]) .skip)]),(zsq [(.reg [zmv 5 (zki 0)]),(.block 0 (.loop QgI QeD))]),QdD])
def Qf4:List (ARv × Md):=[(.t 4,.one .d)]
def Qdx:Qi:=TQ 0 0 Qf4 K
def QiS:Qi:=Qseq (tawp Qax 0 QdD (Qdx K)) (Qdx K)
def QmT:Qi:=Qblk 0 (QiS K)
def Qcq (a:List Qb) (left1:Int) (i:Int):Prop:=Loop Qax 0 QgI QeD (QmT K) ⟨[(0,(zcs Qc a)),(1,(zci left1)),(5,(zci i))],[],0⟩
theorem Qjg (a:List Qb) (left1:Int) (i:Int) (h :
 (zif (decide (i<(a.length:Int))) ((((0:Int)≤i∧Int.toNat i<a.length)∧(p_sz (α:=Qb) (gtd ((0,[]):Qb) a (Int.toNat i)) left1))∧(zif (decide ((m_sz (α:=Qb) (gtd ((0,[]):Qb) a (Int.toNat i)) left1)<(0:Int))) (K (Yj (-1:Int))) (Qcq K a (m_sz (α:=Qb) (gtd ((0,[]):Qb) a (Int.toNat i)) left1) (w64 (i+(1:Int)))))) (K (Yj left1)))):Qcq K a left1 i :=
 Loop.of (by kernel_rfl) h
theorem QkC (a:List Qb) (left:Int) (h :
 (zif (decide ((w64 (left-(a.length:Int)))<(0:Int))) (K (Yj (-1:Int))) (Qcq K a (w64 (left-(a.length:Int))) 0))):Hold (tawp Qax (0+0) QmF (TQ 0 0 Qf4 K) (Qk [(.c (.sl Qc) a),(.c TI left)])) :=
 Hold.of (by kernel_rfl) h
theorem Qmk (a:List Qb) (left:Int) (hp:p_sz (α:=List Qb) a left):TCon Try.prog 123 [(.c (.sl Qc) a),(.c TI left)] (Yj (m_sz (α:=List Qb) a left)):=by
 refine Qp rfl fun hb=>tcg (Γ:=Qax) (n:=27) (sg:=Qbl.sg) Qr (TOkL.cons Qdw TOkL.nil) (by kernel_rfl) (by kernel_rfl) (QkC _ a left ?_)
 exact Qmx (Q:=fun x=>Yj x=Yj (m_sz (α:=List Qb) a left)) ((0,[]):Qb) hp hb.1.1 (fun l i h=>Qjg _ a l i h) rfl
theorem QiZ:Qo Try.prog Qbl:=Qu fun x h=>Qmk x.1 x.2.1 h
def QaY (t:Int):TRes:=zre (zci t)
def QcB:TRow:=Qm 34 [(.a Qx),(.c TI)] fun x=>(some (p_sz (α:=Qe) x.1 x.2.1),QaY (m_sz (α:=Qe) x.1 x.2.1))
def QgN:TTab:=⟨[Qbl],false⟩
def Qjq:TCode :=
 (zsq [(.reg [zop 2 (.box 52 0 2),zmv 4 (zki 0)]),(.reg [zfa 5 2 1,zld 6 5 1,zmv 7 1,zca 8 123 [6,7],zmv 1 8]),(zsq [(.reg [zmv 9 1,zbi 10 .lss 9 (zki 0)]),(.cond 10 (zsq [(.reg [zmv 4 (zki (-1))]),.ret]) .skip)]),(.reg [zmv 11 1,zmv 4 11]),.ret])
def Qj5:List (ARv × Md):=[(.t 4,.one .d)]
theorem QlS (a:Qe) (left:Int) (h :
 ((p_sz (α:=List Qb) a.2 left)∧(zif (decide ((m_sz (α:=List Qb) a.2 left)<(0:Int))) (K (QaY (-1:Int))) (K (QaY (m_sz (α:=List Qb) a.2 left)))))):Hold (tawp QgN (0+0) Qjq (TQ 0 0 Qj5 K) (Qk [(.a [(.c TI a.1),(.c (.sl Qc) a.2)]),(.c TI left)])) :=
 Hold.of (by kernel_rfl) h
theorem Qog (a:Qe) (left:Int) (hp:p_sz (α:=Qe) a left):TCon Try.prog 34 [(.a [(.c TI a.1),(.c (.sl Qc) a.2)]),(.c TI left)] (QaY (m_sz (α:=Qe) a left)):=by
 refine Qp rfl fun hb=>tcg (Γ:=QgN) (n:=12) (sg:=QcB.sg) Qr (TOkL.cons QiZ TOkL.nil) (by kernel_rfl) (by kernel_rfl) (QlS _ a left ?_)
 refine ⟨hp,fun h=>R_eq (Qhg (of_decide_eq_true h) (by first | omega | (simp only [QQ,QP,YA];omega)) hp.1),fun h=>?_⟩
 exact R_eq (congrArg (Q8 · _) (by first | rfl | omega | (simp only [QQ,QP,YA];omega)))
theorem Qnk:Qo Try.prog QcB:=Qu fun x h=>Qog x.1 x.2.1 h
def Qcf (t:Qb):TRes:=⟨(.a [(zci t.1),(.r [TI] 0 0 ((t.2).length))]),[(.sl 3 [TI] (.dp 0 true []) t.2)],[],false,[]⟩
def Qa3:TRow:=Qm 38 [(.a Qc)] fun x=>(some (p_to (α:=Qb) x.1),Qcf (id (α:=Qb) x.1))
def QhF:TTab:=⟨[Qb9],true⟩
def QjW:TCode :=
 (zsq [(.reg [zop 1 (.box 53 0 2),zop 2 (.new 39 (z0s Qc))]),(.reg [zop 3 (.new 39 (z0s Qc))]),(.reg [zfa 4 1 0,zld 5 4 1,zfa 6 3 0,zst 6 5 1]),(.reg [zfa 7 1 1,zld 8 7 1,zca 9 127 [8],zfa 10 3 1,zst 10 9 1]),(.reg [zLd 11 3 2,zst 2 11 2]),.ret])
def Qjc:List (ARv × Md):=[(.l 2 2 true,.b [.d,.p 3])]
theorem Qkr (a:Qb) (h :
 ((p_to (α:=List Int) a.2)∧K (Qcf (a.1,(List.take ((id (α:=List Int) a.2).length) (id (α:=List Int) a.2)))))):Hold (tawp QhF (0+0) QjW (TQ 0 0 Qjc K) (Qk [(.a [(.c TI a.1),(.c (.sl [TI]) a.2)])])) :=
 Hold.of (by kernel_rfl) h
theorem Qn5 (a:Qb) (hp:p_to (α:=Qb) a):TCon Try.prog 38 [(.a [(.c TI a.1),(.c (.sl [TI]) a.2)])] (Qcf (id (α:=Qb) a)):=by
 refine Qp rfl fun hb=>tcg (Γ:=QhF) (n:=12) (sg:=Qa3.sg) Qr (TOkL.cons QnH TOkL.nil) (by kernel_rfl) (by kernel_rfl) (Qkr _ a ?_)
 repeat' (first | refine And.intro ?_ ?_ | exact R_eq (by simp))
 all_goals (simp only [p_to,QQ,QP,YA,List.drop_zero,List.take_length,id_eq] at hp ⊢;omega)
theorem QdY:Qo Try.prog Qa3:=Qu fun x h=>Qn5 x.1 h
def Z0 (t:(List Qb)):TRes:=⟨(.r Qc 0 0 t.length),[(.sl 39 Qc (.dp 0 true []) t)],[],false,[]⟩
def QbN:TRow:=Qm 126 [(.c (.sl Qc))] fun x=>(some (p_to (α:=List Qb) x.1),Z0 (id (α:=List Qb) x.1))
def Qaq:TTab:=⟨[Qa3],true⟩
def Qhy:TCode :=
 (zsq [(zsq [(.reg [zmv 8 4,zmv 9 0,zle 10 9,zbi 11 .lss 8 10]),(.cond 11 .skip (.exit 0))]),(.block 1 (.reg [zmv 14 3,zmv 15 4,zmv 16 0,zmv 17 4,zia 18 16 17 Qc,zLd 19 18 2,zca 20 38 [19],zia 21 14 15 Qc,zst 21 20 2])),(.reg [zmv 12 4,zbi 13 .add 12 (zki 1),zmv 4 13])])
def QeW:List (Nat × Md):=[(0,.one .d),(3,.one .f),(4,.one .d)]
def Qhp:TCode :=
 (zsq [(.reg [zmv 22 3,zmv 2 22]),.ret])
def QlK:TCode :=
 (zsq [(.reg [zmv 2 (.k (.n Qc))]),(.reg [zmv 5 0,zle 6 5,zop 7 (.mk 39 Qc (z0s Qc) 6),zmv 3 7]),(zsq [(.reg [zmv 4 (zki 0)]),(.block 0 (.loop QeW Qhy))]),Qhp])
def Qfm:List (ARv × Md):=[(.t 2,.one (.p 39))]
def Qde:Qi:=TQ 0 0 Qfm K
def Qjf:Qi:=Qseq (tawp Qaq 0 Qhp (Qde K)) (Qde K)
def QiG:Qi:=Qblk 0 (Qjf K)
def Qa2 (a:List Qb) (i:Int) (out:List Qb):Prop:=Loop Qaq 0 QeW Qhy (QiG K) ⟨[(0,(zcs Qc a)),(3,(.r Qc 0 0 out.length)),(4,(zci i))],[(0,(.sl 39 Qc (.dp 0 true []) out))],1⟩
theorem QeL (a:List Qb) (i:Int) (out:List Qb) (h :
 (zif (decide (i<(a.length:Int))) ((((0:Int)≤i∧Int.toNat i<a.length)∧((p_to (α:=Qb) (gtd ((0,[]):Qb) a (Int.toNat i)))∧(((0:Int)≤i∧Int.toNat i<out.length)∧((0+(Int.toNat i))<out.length))))∧(Qa2 K a (w64 (i+(1:Int))) (List.take out.length ((out).set (0+(Int.toNat i)) ((id (α:=Qb) (gtd ((0,[]):Qb) a (Int.toNat i))).1,(List.take (((id (α:=Qb) (gtd ((0,[]):Qb) a (Int.toNat i))).2).length) (List.drop 0 ((id (α:=Qb) (gtd ((0,[]):Qb) a (Int.toNat i))).2)))))))) (K (Z0 (List.take out.length out))))):Qa2 K a i out :=
 Loop.of (by kernel_rfl) h
theorem Qiv (a:List Qb) (h :
 (((0:Int)≤(a.length:Int)∧(a.length:Int)≤big)∧(Qa2 K a 0 (List.take (Int.toNat (a.length:Int)) (List.replicate (Int.toNat (a.length:Int)) ((0:Int),[])))))):Hold (tawp Qaq (0+0) QlK (TQ 0 0 Qfm K) (Qk [(.c (.sl Qc) a)])) :=
 Hold.of (by kernel_rfl) h
theorem QmQ (a:List Qb) (hp:p_to (α:=List Qb) a):TCon Try.prog 126 [(.c (.sl Qc) a)] (Z0 (id (α:=List Qb) a)):=by
 refine Qp rfl fun hb=>tcg (Γ:=Qaq) (n:=23) (sg:=QbN.sg) Qr (TOkL.cons QdY TOkL.nil) (by kernel_rfl) (by kernel_rfl) (Qiv _ a ?_)
 refine ⟨⟨by omega,by rw [bigI];have:=Qa6 hp;omega⟩,?_⟩
 refine Qh3 a (A:=fun ii ll=>Qa2 (fun r'=>r'=Z0 (id (α:=List Qb) a)) a ii ll) (Q:=fun z=>Z0 z=Z0 (id (α:=List Qb) a)) hp ?_ ?_ rfl
 ·intro k x out hlt hg ho hx hA
  have hw:w64 (((k:Nat):Int)+1)=((k+1:Nat):Int):=by have:=Qa6 hp;rw [Q0 (by omega) (by omega)];omega
  have hlo:k<out.length:=by omega
  refine QeL (fun r'=>r'=Z0 (id (α:=List Qb) a)) a ((k:Nat):Int) out ?_
  refine ⟨fun _=>?_,fun h=>absurd h (by simp;omega)⟩
  simp only [Int.toNat_natCast,Nat.zero_add,hg,hw,hlt,hlo,Qfp,List.drop_zero,List.take_length,id_eq,and_true,true_and,Int.natCast_nonneg]
  first | exact hA | exact ⟨hx,hA⟩
 ·intro out ho hq
  refine QeL (fun r'=>r'=Z0 (id (α:=List Qb) a)) a ((a.length:Nat):Int) out ?_
  refine ⟨fun h=>absurd h (by simp),fun _=>?_⟩
  simp only [List.drop_zero,List.take_length]
  exact hq
theorem QlT:Qo Try.prog QbN:=Qu fun x h=>QmQ x.1 h
def QcK (t:Qe):TRes:=⟨(.a [(zci t.1),(.r Qc 0 0 ((t.2).length))]),[(.sl 39 Qc (.dp 0 true []) t.2)],[],false,[]⟩
def Qbw:TRow:=Qm 37 [(.a Qx)] fun x=>(some (p_to (α:=Qe) x.1),QcK (id (α:=Qe) x.1))
def QeE:TTab:=⟨[QbN],true⟩
def Qil:TCode :=
 (zsq [(.reg [zop 1 (.box 52 0 2),zop 2 (.new 36 (z0s Qx))]),(.reg [zop 3 (.new 36 (z0s Qx))]),(.reg [zfa 4 1 0,zld 5 4 1,zfa 6 3 0,zst 6 5 1]),(.reg [zfa 7 1 1,zld 8 7 1,zca 9 126 [8],zfa 10 3 1,zst 10 9 1]),(.reg [zLd 11 3 2,zst 2 11 2]),.ret])
def Qj0:List (ARv × Md):=[(.l 2 2 true,.b [.d,.p 39])]
theorem Qjp (a:Qe) (h :
 ((p_to (α:=List Qb) a.2)∧K (QcK (a.1,(List.take ((id (α:=List Qb) a.2).length) (id (α:=List Qb) a.2)))))):Hold (tawp QeE (0+0) Qil (TQ 0 0 Qj0 K) (Qk [(.a [(.c TI a.1),(.c (.sl Qc) a.2)])])) :=
 Hold.of (by kernel_rfl) h
theorem QkR (a:Qe) (hp:p_to (α:=Qe) a):TCon Try.prog 37 [(.a [(.c TI a.1),(.c (.sl Qc) a.2)])] (QcK (id (α:=Qe) a)):=by
 refine Qp rfl fun hb=>tcg (Γ:=QeE) (n:=12) (sg:=Qbw.sg) Qr (TOkL.cons QlT TOkL.nil) (by kernel_rfl) (by kernel_rfl) (Qjp _ a ?_)
 repeat' (first | refine And.intro ?_ ?_ | exact R_eq (by simp))
 all_goals (simp only [p_to,QQ,QP,YA,List.drop_zero,List.take_length,id_eq] at hp ⊢;omega)
theorem Qkp:Qo Try.prog Qbw:=Qu fun x h=>QkR x.1 h
def Jx (t:Bool):TRes:=zre (zcb t)
def JZ:TRow:=Qm 40 [(.a Qc),(.a Qc)] fun x=>(none,Jx (m_eq (α:=Qb) x.1 x.2.1))
def QeY:TTab:=⟨[Qbk],false⟩
def QiI:TCode :=
 (zsq [(.reg [zop 2 (.box 39 0 2),zop 3 (.box 39 1 2),zmv 4 (zkb false)]),(zsq [(.reg [zfa 5 2 0,zld 6 5 1,zfa 7 3 0,zld 8 7 1,zbi 9 .neq 6 8]),(.cond 9 (zsq [(.reg [zmv 4 (zkb false)]),.ret]) .skip)]),(zsq [(.reg [zfa 10 2 1,zld 11 10 1,zfa 12 3 1,zld 13 12 1,zca 14 66 [11,13],zno 15 14]),(.cond 15 (zsq [(.reg [zmv 4 (zkb false)]),.ret]) .skip)]),(.reg [zmv 4 (zkb true)]),.ret])
def Qlv:List (ARv × Md):=[(.t 4,.one .d)]
theorem Qma (a:Qb) (b:Qb) (h :
 (zif (a.1 != b.1) (K (Jx false)) (zif (!(m_eq (α:=List Int) a.2 b.2)) (K (Jx false)) (K (Jx true))))):Hold (tawp QeY (0+0) QiI (TQ 0 0 Qlv K) (Qk [(.a [(.c TI a.1),(.c (.sl [TI]) a.2)]),(.a [(.c TI b.1),(.c (.sl [TI]) b.2)])])) :=
 Hold.of (by kernel_rfl) h
theorem QkN (a:Qb) (b:Qb):TCon Try.prog 40 [(.a [(.c TI a.1),(.c (.sl [TI]) a.2)]),(.a [(.c TI b.1),(.c (.sl [TI]) b.2)])] (Jx (m_eq (α:=Qb) a b)):=by
 refine Qp rfl fun hb=>tcg (Γ:=QeY) (n:=16) (sg:=JZ.sg) Qr (TOkL.cons QkK TOkL.nil) (by kernel_rfl) (by kernel_rfl) (Qma _ a b ?_)
 refine ⟨fun h=>R_eq (Eq.symm (decide_eq_false (by rintro rfl;simp [m_eq] at h))),fun h0=>?_⟩
 refine ⟨fun h=>R_eq (Eq.symm (decide_eq_false (by rintro rfl;simp [m_eq] at h))),fun h1=>?_⟩
 refine R_eq (Eq.symm (decide_eq_true ?_))
 simp [m_eq] at h0 h1
 simp [Prod.ext_iff, *]
theorem QeT:Qo Try.prog JZ:=Qu fun x _=>QkN x.1 x.2.1
def Yd (t:Bool):TRes:=zre (zcb t)
def Qct:TRow:=Qm 128 [(.c (.sl Qc)),(.c (.sl Qc))] fun x=>(none,Yd (m_eq (α:=List Qb) x.1 x.2.1))
def Qaf:TTab:=⟨[JZ],false⟩
def QdR:TCode :=
 (zsq [(zsq [(.reg [zmv 11 5,zmv 12 0,zle 13 12,zbi 14 .lss 11 13]),(.cond 14 .skip (.exit 0))]),(.block 1 (zsq [(.draw [zmv 17 0,zmv 18 5,zia 19 17 18 Qc,zLd 20 19 2,zmv 21 1,zmv 22 5,zia 23 21 22 Qc,zLd 24 23 2,zca 25 40 [20,24],zno 26 25] []),(.cond 26 (zsq [(.reg [zmv 4 (zkb false)]),.ret]) .skip)])),(.reg [zmv 15 5,zbi 16 .add 15 (zki 1),zmv 5 16])])
def Qgu:List (Nat × Md):=zdl [0,1,5]
def Qfb:TCode :=
 (zsq [(.reg [zmv 4 (zkb true)]),.ret])
def Qmq:TCode :=
 (zsq [(.reg [zmv 4 (zkb false)]),(zsq [(.reg [zmv 6 0,zle 7 6,zmv 8 1,zle 9 8,zbi 10 .neq 7 9]),(.cond 10 (zsq [(.reg [zmv 4 (zkb false)]),.ret]) .skip)]),(zsq [(.reg [zmv 5 (zki 0)]),(.block 0 (.loop Qgu QdR))]),Qfb])
def Qet:List (ARv × Md):=[(.t 4,.one .d)]
def Qfy:Qi:=TQ 0 0 Qet K
def Qml:Qi:=Qseq (tawp Qaf 0 Qfb (Qfy K)) (Qfy K)
def Qjr:Qi:=Qblk 0 (Qml K)
def QcS (a:List Qb) (b:List Qb) (i:Int):Prop:=Loop Qaf 0 Qgu QdR (Qjr K) ⟨[(0,(zcs Qc a)),(1,(zcs Qc b)),(5,(zci i))],[],0⟩
theorem QiR (a:List Qb) (b:List Qb) (i:Int) (h :
 (zif (decide (i<(a.length:Int))) ((((0:Int)≤i∧Int.toNat i<a.length)∧((0:Int)≤i∧Int.toNat i<b.length))∧(zif (!(m_eq (α:=Qb) (gtd ((0,[]):Qb) a (Int.toNat i)) (gtd ((0,[]):Qb) b (Int.toNat i)))) (K (Yd false)) (QcS K a b (w64 (i+(1:Int)))))) (K (Yd true)))):QcS K a b i :=
 Loop.of (by kernel_rfl) h
theorem QnJ (a:List Qb) (b:List Qb) (h :
 (zif ((a.length:Int) != (b.length:Int)) (K (Yd false)) (QcS K a b 0))):Hold (tawp Qaf (0+0) Qmq (TQ 0 0 Qet K) (Qk [(.c (.sl Qc) a),(.c (.sl Qc) b)])) :=
 Hold.of (by kernel_rfl) h
theorem Qkz (a:List Qb) (b:List Qb):TCon Try.prog 128 [(.c (.sl Qc) a),(.c (.sl Qc) b)] (Yd (m_eq (α:=List Qb) a b)):=by
 refine Qp rfl fun hb=>tcg (Γ:=Qaf) (n:=27) (sg:=Qct.sg) Qr (TOkL.cons QeT TOkL.nil) (by kernel_rfl) (by kernel_rfl) (QnJ _ a b ?_)
 exact QhT ((0,[]):Qb) (E:=m_eq) (fun _ _=>rfl) hb.1.1 (fun i h=>QiR _ a b i h) (Q:=fun x=>Yd x=Yd (m_eq (α:=List Qb) a b)) rfl
theorem Qle:Qo Try.prog Qct:=Qu fun x _=>Qkz x.1 x.2.1
def Y0 (t:Bool):TRes:=zre (zcb t)
def QbT:TRow:=Qm 39 [(.a Qx),(.a Qx)] fun x=>(none,Y0 (m_eq (α:=Qe) x.1 x.2.1))
def QgJ:TTab:=⟨[Qct],false⟩
def QkE:TCode :=
 (zsq [(.reg [zop 2 (.box 36 0 2),zop 3 (.box 36 1 2),zmv 4 (zkb false)]),(zsq [(.reg [zfa 5 2 0,zld 6 5 1,zfa 7 3 0,zld 8 7 1,zbi 9 .neq 6 8]),(.cond 9 (zsq [(.reg [zmv 4 (zkb false)]),.ret]) .skip)]),(zsq [(.reg [zfa 10 2 1,zld 11 10 1,zfa 12 3 1,zld 13 12 1,zca 14 128 [11,13],zno 15 14]),(.cond 15 (zsq [(.reg [zmv 4 (zkb false)]),.ret]) .skip)]),(.reg [zmv 4 (zkb true)]),.ret])
def QiO:List (ARv × Md):=[(.t 4,.one .d)]
theorem QiT (a:Qe) (b:Qe) (h :
 (zif (a.1 != b.1) (K (Y0 false)) (zif (!(m_eq (α:=List Qb) a.2 b.2)) (K (Y0 false)) (K (Y0 true))))):Hold (tawp QgJ (0+0) QkE (TQ 0 0 QiO K) (Qk [(.a [(.c TI a.1),(.c (.sl Qc) a.2)]),(.a [(.c TI b.1),(.c (.sl Qc) b.2)])])) :=
 Hold.of (by kernel_rfl) h
theorem Qmz (a:Qe) (b:Qe):TCon Try.prog 39 [(.a [(.c TI a.1),(.c (.sl Qc) a.2)]),(.a [(.c TI b.1),(.c (.sl Qc) b.2)])] (Y0 (m_eq (α:=Qe) a b)):=by
 refine Qp rfl fun hb=>tcg (Γ:=QgJ) (n:=16) (sg:=QbT.sg) Qr (TOkL.cons Qle TOkL.nil) (by kernel_rfl) (by kernel_rfl) (QiT _ a b ?_)
 refine ⟨fun h=>R_eq (Eq.symm (decide_eq_false (by rintro rfl;simp [m_eq] at h))),fun h0=>?_⟩
 refine ⟨fun h=>R_eq (Eq.symm (decide_eq_false (by rintro rfl;simp [m_eq] at h))),fun h1=>?_⟩
 refine R_eq (Eq.symm (decide_eq_true ?_))
 simp [m_eq] at h0 h1
 simp [Prod.ext_iff, *]
theorem QlM:Qo Try.prog QbT:=Qu fun x _=>Qmz x.1 x.2.1
end
end Go.Proofs.Ytephkbajoofeoaa.Am

