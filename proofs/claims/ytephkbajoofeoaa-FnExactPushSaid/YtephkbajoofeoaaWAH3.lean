/- -/
import Derived.Test.YtephkbajoofeoaaWAH1
import Derived.Test.YtephkbajoofeoaaWAGF
namespace Go.Proofs.Ytephkbajoofeoaa.Am
open Go Go.RowKit Go.Proofs.Ytephkbajoofeoaa
set_option linter.all false
noncomputable section
variable (K:TRes→Prop)
def JW (t:Int):TRes:=zre (zci t)
def JV:TRow:=Qn 35 [(.a Qc),(.c TI)] fun x=>(some (p_sz (α:=Qb) x.1 x.2.1),JW (m_sz (α:=Qb) x.1 x.2.1))
def QgH:TTab:=⟨[Qbd],false⟩
def QmS:TCode :=
 (zsq [(.reg [zop 2 (.box 53 0 2),zmv 4 (zki 0)]),(.reg [zfa 5 2 1,zld 6 5 1,zmv 7 1,zca 8 124 [6,7],zmv 1 8]),(zsq [(.reg [zmv 9 1,zbi 10 .lss 9 (zki 0)]),(.cond 10 (zsq [(.reg [zmv 4 (zki (-1))]),.ret]) .skip)]),(.reg [zmv 11 1,zmv 4 11]),.ret])
def Qk2:List (ARv × Md):=[(.t 4,.one .d)]
theorem QkT (a:Qb) (left:Int) (h :
 ((p_sz (α:=List Int) a.2 left)∧(zif (decide ((m_sz (α:=List Int) a.2 left)<(0:Int))) (K (JW (-1:Int))) (K (JW (m_sz (α:=List Int) a.2 left)))))):Hold (tawp QgH (0+0) QmS (TQ 0 0 Qk2 K) (Ql [(.a [(.c TI a.1),(.c (.sl [TI]) a.2)]),(.c TI left)])) :=
 Hold.of (by kernel_rfl) h
theorem QiC (a:Qb) (left:Int) (hp:p_sz (α:=Qb) a left):TCon Try.prog 35 [(.a [(.c TI a.1),(.c (.sl [TI]) a.2)]),(.c TI left)] (JW (m_sz (α:=Qb) a left)):=by
 refine Qp rfl fun hb=>tcg (Γ:=QgH) (n:=12) (sg:=JV.sg) Qq (TOkL.cons QnA TOkL.nil) (by kernel_rfl) (by kernel_rfl) (QkT _ a left ?_)
 refine ⟨hp,fun h=>R_eq (Qhy (of_decide_eq_true h) (by first | omega | (simp only [QN,QM,YR];omega)) hp.1),fun h=>?_⟩
 exact R_eq (congrArg (Zc · _) (by first | rfl | omega | (simp only [QN,QM,YR];omega)))
theorem Qgx:Qm Try.prog JV:=Qt fun x h=>QiC x.1 x.2.1 h
def Ya (t:Int):TRes:=zre (zci t)
def Qcz:TRow:=Qn 123 [(.c (.sl Qc)),(.c TI)] fun x=>(some (p_sz (α:=List Qb) x.1 x.2.1),Ya (m_sz (α:=List Qb) x.1 x.2.1))
def QaD:TTab:=⟨[JV],false⟩
def QfN:TCode :=
 (zsq [(zsq [(.reg [zmv 12 5,zmv 13 0,zle 14 13,zbi 15 .lss 12 14]),(.cond 15 .skip (.exit 0))]),(.block 1 (zsq [(.reg [zmv 18 0,zmv 19 5,zia 20 18 19 Qc,zLd 21 20 2,zmv 22 1,zca 23 35 [21,22],zmv 1 23]),(.reg [zmv 24 1,zbi 25 .lss 24 (zki 0)]),(.cond 25 (zsq [(.reg [zmv 4 (zki (-1))]),.ret]) .skip)])),(.reg [zmv 16 5,zbi 17 .add 16 (zki 1),zmv 5 17])])
def QfL:List (Nat × Md):=zdl [0,1,5]
def Qdi:TCode :=
 (zsq [(.reg [zmv 26 1,zmv 4 26]),.ret])
def Qll:TCode :=
 (zsq [(.reg [zmv 4 (zki 0)]),(.reg [zmv 6 1,zmv 7 0,zle 8 7,zbi 9 .sub 6 8,zmv 1 9]),(zsq [(.reg [zmv 10 1,zbi 11 .lss 10 (zki 0)]),(.cond 11 (zsq [(.reg [zmv 4 (zki (-1))]),.ret]) .skip)]),(zsq [(.reg [zmv 5 (zki 0)]),(.block 0 (.loop QfL QfN))]),Qdi])
def Qe1:List (ARv × Md):=[(.t 4,.one .d)]
def Qfe:Qh:=TQ 0 0 Qe1 K
def Qoa:Qh:=Qseq (tawp QaD 0 Qdi (Qfe K)) (Qfe K)
def Qlg:Qh:=Qblk 0 (Qoa K)
def QcK (a:List Qb) (left1:Int) (i:Int):Prop:=Loop QaD 0 QfL QfN (Qlg K) ⟨[(0,(zcs Qc a)),(1,(zci left1)),(5,(zci i))],[],0⟩
theorem QmZ (a:List Qb) (left1:Int) (i:Int) (h :
 (zif (decide (i<(a.length:Int))) ((((0:Int)≤i∧Int.toNat i<a.length)∧(p_sz (α:=Qb) (gtd ((0,[]):Qb) a (Int.toNat i)) left1))∧(zif (decide ((m_sz (α:=Qb) (gtd ((0,[]):Qb) a (Int.toNat i)) left1)<(0:Int))) (K (Ya (-1:Int))) (QcK K a (m_sz (α:=Qb) (gtd ((0,[]):Qb) a (Int.toNat i)) left1) (w64 (i+(1:Int)))))) (K (Ya left1)))):QcK K a left1 i :=
 Loop.of (by kernel_rfl) h
theorem Qke (a:List Qb) (left:Int) (h :
 (zif (decide ((w64 (left-(a.length:Int)))<(0:Int))) (K (Ya (-1:Int))) (QcK K a (w64 (left-(a.length:Int))) 0))):Hold (tawp QaD (0+0) Qll (TQ 0 0 Qe1 K) (Ql [(.c (.sl Qc) a),(.c TI left)])) :=
 Hold.of (by kernel_rfl) h
theorem Qjr (a:List Qb) (left:Int) (hp:p_sz (α:=List Qb) a left):TCon Try.prog 123 [(.c (.sl Qc) a),(.c TI left)] (Ya (m_sz (α:=List Qb) a left)):=by
 refine Qp rfl fun hb=>tcg (Γ:=QaD) (n:=27) (sg:=Qcz.sg) Qq (TOkL.cons Qgx TOkL.nil) (by kernel_rfl) (by kernel_rfl) (Qke _ a left ?_)
 exact Qlc (Q:=fun x=>Ya x=Ya (m_sz (α:=List Qb) a left)) ((0,[]):Qb) hp hb.1.1 (fun l i h=>QmZ _ a l i h) rfl
theorem QlL:Qm Try.prog Qcz:=Qt fun x h=>Qjr x.1 x.2.1 h
def JY (t:Int):TRes:=zre (zci t)
def QcE:TRow:=Qn 34 [(.a Qx),(.c TI)] fun x=>(some (p_sz (α:=Qe) x.1 x.2.1),JY (m_sz (α:=Qe) x.1 x.2.1))
def Qgj:TTab:=⟨[Qcz],false⟩
def QmG:TCode :=
 (zsq [(.reg [zop 2 (.box 52 0 2),zmv 4 (zki 0)]),(.reg [zfa 5 2 1,zld 6 5 1,zmv 7 1,zca 8 123 [6,7],zmv 1 8]),(zsq [(.reg [zmv 9 1,zbi 10 .lss 9 (zki 0)]),(.cond 10 (zsq [(.reg [zmv 4 (zki (-1))]),.ret]) .skip)]),(.reg [zmv 11 1,zmv 4 11]),.ret])
def Qit:List (ARv × Md):=[(.t 4,.one .d)]
theorem Qik (a:Qe) (left:Int) (h :
 ((p_sz (α:=List Qb) a.2 left)∧(zif (decide ((m_sz (α:=List Qb) a.2 left)<(0:Int))) (K (JY (-1:Int))) (K (JY (m_sz (α:=List Qb) a.2 left)))))):Hold (tawp Qgj (0+0) QmG (TQ 0 0 Qit K) (Ql [(.a [(.c TI a.1),(.c (.sl Qc) a.2)]),(.c TI left)])) :=
 Hold.of (by kernel_rfl) h
theorem QlE (a:Qe) (left:Int) (hp:p_sz (α:=Qe) a left):TCon Try.prog 34 [(.a [(.c TI a.1),(.c (.sl Qc) a.2)]),(.c TI left)] (JY (m_sz (α:=Qe) a left)):=by
 refine Qp rfl fun hb=>tcg (Γ:=Qgj) (n:=12) (sg:=QcE.sg) Qq (TOkL.cons QlL TOkL.nil) (by kernel_rfl) (by kernel_rfl) (Qik _ a left ?_)
 refine ⟨hp,fun h=>R_eq (Qhy (of_decide_eq_true h) (by first | omega | (simp only [QN,QM,YR];omega)) hp.1),fun h=>?_⟩
 exact R_eq (congrArg (Zc · _) (by first | rfl | omega | (simp only [QN,QM,YR];omega)))
theorem Qil:Qm Try.prog QcE:=Qt fun x h=>QlE x.1 x.2.1 h
def QcZ (t:Qb):TRes:=⟨(.a [(zci t.1),(.r [TI] 0 0 ((t.2).length))]),[(.sl 3 [TI] (.dp 0 true []) t.2)],[],false,[]⟩
def Qaj:TRow:=Qn 38 [(.a Qc)] fun x=>(some (p_to (α:=Qb) x.1),QcZ (id (α:=Qb) x.1))
def Qd4:TTab:=⟨[Qcm],true⟩
def Qoc:TCode :=
 (zsq [(.reg [zop 1 (.box 53 0 2),zop 2 (.new 39 (z0s Qc))]),(.reg [zop 3 (.new 39 (z0s Qc))]),(.reg [zfa 4 1 0,zld 5 4 1,zfa 6 3 0,zst 6 5 1]),(.reg [zfa 7 1 1,zld 8 7 1,zca 9 127 [8],zfa 10 3 1,zst 10 9 1]),(.reg [zLd 11 3 2,zst 2 11 2]),.ret])
def QiL:List (ARv × Md):=[(.l 2 2 true,.b [.d,.p 3])]
theorem Qnp (a:Qb) (h :
 ((p_to (α:=List Int) a.2)∧K (QcZ (a.1,(List.take ((id (α:=List Int) a.2).length) (id (α:=List Int) a.2)))))):Hold (tawp Qd4 (0+0) Qoc (TQ 0 0 QiL K) (Ql [(.a [(.c TI a.1),(.c (.sl [TI]) a.2)])])) :=
 Hold.of (by kernel_rfl) h
theorem QkB (a:Qb) (hp:p_to (α:=Qb) a):TCon Try.prog 38 [(.a [(.c TI a.1),(.c (.sl [TI]) a.2)])] (QcZ (id (α:=Qb) a)):=by
 refine Qp rfl fun hb=>tcg (Γ:=Qd4) (n:=12) (sg:=Qaj.sg) Qq (TOkL.cons Qkk TOkL.nil) (by kernel_rfl) (by kernel_rfl) (Qnp _ a ?_)
 repeat' (first | refine And.intro ?_ ?_ | exact R_eq (by simp))
 all_goals (simp only [p_to,QN,QM,YR,List.drop_zero,List.take_length,id_eq] at hp ⊢;omega)
theorem Qh3:Qm Try.prog Qaj:=Qt fun x h=>QkB x.1 h
def Z2 (t:(List Qb)):TRes:=⟨(.r Qc 0 0 t.length),[(.sl 39 Qc (.dp 0 true []) t)],[],false,[]⟩
def Qcx:TRow:=Qn 126 [(.c (.sl Qc))] fun x=>(some (p_to (α:=List Qb) x.1),Z2 (id (α:=List Qb) x.1))
def JS:TTab:=⟨[Qaj],true⟩
def QhM:TCode :=
 (zsq [(zsq [(.reg [zmv 8 4,zmv 9 0,zle 10 9,zbi 11 .lss 8 10]),(.cond 11 .skip (.exit 0))]),(.block 1 (.reg [zmv 14 3,zmv 15 4,zmv 16 0,zmv 17 4,zia 18 16 17 Qc,zLd 19 18 2,zca 20 38 [19],zia 21 14 15 Qc,zst 21 20 2])),(.reg [zmv 12 4,zbi 13 .add 12 (zki 1),zmv 4 13])])
def QgQ:List (Nat × Md):=[(0,.one .d),(3,.one .f),(4,.one .d)]
def Qft:TCode :=
 (zsq [(.reg [zmv 22 3,zmv 2 22]),.ret])
def Qi3:TCode :=
 (zsq [(.reg [zmv 2 (.k (.n Qc))]),(.reg [zmv 5 0,zle 6 5,zop 7 (.mk 39 Qc (z0s Qc) 6),zmv 3 7]),(zsq [(.reg [zmv 4 (zki 0)]),(.block 0 (.loop QgQ QhM))]),Qft])
def Qe5:List (ARv × Md):=[(.t 2,.one (.p 39))]
def Qeh:Qh:=TQ 0 0 Qe5 K
def Qi2:Qh:=Qseq (tawp JS 0 Qft (Qeh K)) (Qeh K)
def QmX:Qh:=Qblk 0 (Qi2 K)
def QaL (a:List Qb) (i:Int) (out:List Qb):Prop:=Loop JS 0 QgQ QhM (QmX K) ⟨[(0,(zcs Qc a)),(3,(.r Qc 0 0 out.length)),(4,(zci i))],[(0,(.sl 39 Qc (.dp 0 true []) out))],1⟩
theorem QeO (a:List Qb) (i:Int) (out:List Qb) (h :
 (zif (decide (i<(a.length:Int))) ((((0:Int)≤i∧Int.toNat i<a.length)∧((p_to (α:=Qb) (gtd ((0,[]):Qb) a (Int.toNat i)))∧(((0:Int)≤i∧Int.toNat i<out.length)∧((0+(Int.toNat i))<out.length))))∧(QaL K a (w64 (i+(1:Int))) (List.take out.length ((out).set (0+(Int.toNat i)) ((id (α:=Qb) (gtd ((0,[]):Qb) a (Int.toNat i))).1,(List.take (((id (α:=Qb) (gtd ((0,[]):Qb) a (Int.toNat i))).2).length) (List.drop 0 ((id (α:=Qb) (gtd ((0,[]):Qb) a (Int.toNat i))).2)))))))) (K (Z2 (List.take out.length out))))):QaL K a i out :=
 Loop.of (by kernel_rfl) h
theorem QjV (a:List Qb) (h :
 (((0:Int)≤(a.length:Int)∧(a.length:Int)≤big)∧(QaL K a 0 (List.take (Int.toNat (a.length:Int)) (List.replicate (Int.toNat (a.length:Int)) ((0:Int),[])))))):Hold (tawp JS (0+0) Qi3 (TQ 0 0 Qe5 K) (Ql [(.c (.sl Qc) a)])) :=
 Hold.of (by kernel_rfl) h
theorem Qj3 (a:List Qb) (hp:p_to (α:=List Qb) a):TCon Try.prog 126 [(.c (.sl Qc) a)] (Z2 (id (α:=List Qb) a)):=by
 refine Qp rfl fun hb=>tcg (Γ:=JS) (n:=23) (sg:=Qcx.sg) Qq (TOkL.cons Qh3 TOkL.nil) (by kernel_rfl) (by kernel_rfl) (QjV _ a ?_)
 refine ⟨⟨by omega,by rw [bigI];have:=QaV hp;omega⟩,?_⟩
 refine Qgd a (A:=fun ii ll=>QaL (fun r'=>r'=Z2 (id (α:=List Qb) a)) a ii ll) (Q:=fun z=>Z2 z=Z2 (id (α:=List Qb) a)) hp ?_ ?_ rfl
 ·intro k x out hlt hg ho hx hA
  have hw:w64 (((k:Nat):Int)+1)=((k+1:Nat):Int):=by have:=QaV hp;rw [Q0 (by omega) (by omega)];omega
  have hlo:k<out.length:=by omega
  refine QeO (fun r'=>r'=Z2 (id (α:=List Qb) a)) a ((k:Nat):Int) out ?_
  refine ⟨fun _=>?_,fun h=>absurd h (by simp;omega)⟩
  simp only [Int.toNat_natCast,Nat.zero_add,hg,hw,hlt,hlo,QgB,List.drop_zero,List.take_length,id_eq,and_true,true_and,Int.natCast_nonneg]
  first | exact hA | exact ⟨hx,hA⟩
 ·intro out ho hq
  refine QeO (fun r'=>r'=Z2 (id (α:=List Qb) a)) a ((a.length:Nat):Int) out ?_
  refine ⟨fun h=>absurd h (by simp),fun _=>?_⟩
  simp only [List.drop_zero,List.take_length]
  exact hq
theorem QmM:Qm Try.prog Qcx:=Qt fun x h=>Qj3 x.1 h
def QbE (t:Qe):TRes:=⟨(.a [(zci t.1),(.r Qc 0 0 ((t.2).length))]),[(.sl 39 Qc (.dp 0 true []) t.2)],[],false,[]⟩
def QcW:TRow:=Qn 37 [(.a Qx)] fun x=>(some (p_to (α:=Qe) x.1),QbE (id (α:=Qe) x.1))
def Qgm:TTab:=⟨[Qcx],true⟩
def Qlx:TCode :=
 (zsq [(.reg [zop 1 (.box 52 0 2),zop 2 (.new 36 (z0s Qx))]),(.reg [zop 3 (.new 36 (z0s Qx))]),(.reg [zfa 4 1 0,zld 5 4 1,zfa 6 3 0,zst 6 5 1]),(.reg [zfa 7 1 1,zld 8 7 1,zca 9 126 [8],zfa 10 3 1,zst 10 9 1]),(.reg [zLd 11 3 2,zst 2 11 2]),.ret])
def Qlj:List (ARv × Md):=[(.l 2 2 true,.b [.d,.p 39])]
theorem Qkr (a:Qe) (h :
 ((p_to (α:=List Qb) a.2)∧K (QbE (a.1,(List.take ((id (α:=List Qb) a.2).length) (id (α:=List Qb) a.2)))))):Hold (tawp Qgm (0+0) Qlx (TQ 0 0 Qlj K) (Ql [(.a [(.c TI a.1),(.c (.sl Qc) a.2)])])) :=
 Hold.of (by kernel_rfl) h
theorem Qiq (a:Qe) (hp:p_to (α:=Qe) a):TCon Try.prog 37 [(.a [(.c TI a.1),(.c (.sl Qc) a.2)])] (QbE (id (α:=Qe) a)):=by
 refine Qp rfl fun hb=>tcg (Γ:=Qgm) (n:=12) (sg:=QcW.sg) Qq (TOkL.cons QmM TOkL.nil) (by kernel_rfl) (by kernel_rfl) (Qkr _ a ?_)
 repeat' (first | refine And.intro ?_ ?_ | exact R_eq (by simp))
 all_goals (simp only [p_to,QN,QM,YR,List.drop_zero,List.take_length,id_eq] at hp ⊢;omega)
theorem QlT:Qm Try.prog QcW:=Qt fun x h=>Qiq x.1 h
def Y7 (t:Bool):TRes:=zre (zcb t)
def QaG:TRow:=Qn 40 [(.a Qc),(.a Qc)] fun x=>(none,Y7 (m_eq (α:=Qb) x.1 x.2.1))
def Qen:TTab:=⟨[QcD],false⟩
def QiQ:TCode :=
 (zsq [(.reg [zop 2 (.box 39 0 2),zop 3 (.box 39 1 2),zmv 4 (zkb false)]),(zsq [(.reg [zfa 5 2 0,zld 6 5 1,zfa 7 3 0,zld 8 7 1,zbi 9 .neq 6 8]),(.cond 9 (zsq [(.reg [zmv 4 (zkb false)]),.ret]) .skip)]),(zsq [(.reg [zfa 10 2 1,zld 11 10 1,zfa 12 3 1,zld 13 12 1,zca 14 66 [11,13],zno 15 14]),(.cond 15 (zsq [(.reg [zmv 4 (zkb false)]),.ret]) .skip)]),(.reg [zmv 4 (zkb true)]),.ret])
def QlS:List (ARv × Md):=[(.t 4,.one .d)]
theorem Qnn (a:Qb) (b:Qb) (h :
 (zif (a.1 != b.1) (K (Y7 false)) (zif (!(m_eq (α:=List Int) a.2 b.2)) (K (Y7 false)) (K (Y7 true))))):Hold (tawp Qen (0+0) QiQ (TQ 0 0 QlS K) (Ql [(.a [(.c TI a.1),(.c (.sl [TI]) a.2)]),(.a [(.c TI b.1),(.c (.sl [TI]) b.2)])])) :=
 Hold.of (by kernel_rfl) h
theorem QlV (a:Qb) (b:Qb):TCon Try.prog 40 [(.a [(.c TI a.1),(.c (.sl [TI]) a.2)]),(.a [(.c TI b.1),(.c (.sl [TI]) b.2)])] (Y7 (m_eq (α:=Qb) a b)):=by
 refine Qp rfl fun hb=>tcg (Γ:=Qen) (n:=16) (sg:=QaG.sg) Qq (TOkL.cons Qm3 TOkL.nil) (by kernel_rfl) (by kernel_rfl) (Qnn _ a b ?_)
 refine ⟨fun h=>R_eq (Eq.symm (decide_eq_false (by rintro rfl;simp [m_eq] at h))),fun h0=>?_⟩
 refine ⟨fun h=>R_eq (Eq.symm (decide_eq_false (by rintro rfl;simp [m_eq] at h))),fun h1=>?_⟩
 refine R_eq (Eq.symm (decide_eq_true ?_))
 simp [m_eq] at h0 h1
 simp [Prod.ext_iff, *]
theorem QgT:Qm Try.prog QaG:=Qt fun x _=>QlV x.1 x.2.1
def Yc (t:Bool):TRes:=zre (zcb t)
def QbH:TRow:=Qn 128 [(.c (.sl Qc)),(.c (.sl Qc))] fun x=>(none,Yc (m_eq (α:=List Qb) x.1 x.2.1))
def Qax:TTab:=⟨[QaG],false⟩
def QhW:TCode :=
 (zsq [(zsq [(.reg [zmv 11 5,zmv 12 0,zle 13 12,zbi 14 .lss 11 13]),(.cond 14 .skip (.exit 0))]),(.block 1 (zsq [(.draw [zmv 17 0,zmv 18 5,zia 19 17 18 Qc,zLd 20 19 2,zmv 21 1,zmv 22 5,zia 23 21 22 Qc,zLd 24 23 2,zca 25 40 [20,24],zno 26 25] []),(.cond 26 (zsq [(.reg [zmv 4 (zkb false)]),.ret]) .skip)])),(.reg [zmv 15 5,zbi 16 .add 15 (zki 1),zmv 5 16])])
def QdB:List (Nat × Md):=zdl [0,1,5]
def Qdm:TCode :=
 (zsq [(.reg [zmv 4 (zkb true)]),.ret])
def Qkt:TCode :=
 (zsq [(.reg [zmv 4 (zkb false)]),(zsq [(.reg [zmv 6 0,zle 7 6,zmv 8 1,zle 9 8,zbi 10 .neq 7 9]),(.cond 10 (zsq [(.reg [zmv 4 (zkb false)]),.ret]) .skip)]),(zsq [(.reg [zmv 5 (zki 0)]),(.block 0 (.loop QdB QhW))]),Qdm])
def Qgr:List (ARv × Md):=[(.t 4,.one .d)]
def QfB:Qh:=TQ 0 0 Qgr K
def Qk5:Qh:=Qseq (tawp Qax 0 Qdm (QfB K)) (QfB K)
def Qlv:Qh:=Qblk 0 (Qk5 K)
def Qa8 (a:List Qb) (b:List Qb) (i:Int):Prop:=Loop Qax 0 QdB QhW (Qlv K) ⟨[(0,(zcs Qc a)),(1,(zcs Qc b)),(5,(zci i))],[],0⟩
theorem Qm8 (a:List Qb) (b:List Qb) (i:Int) (h :
 (zif (decide (i<(a.length:Int))) ((((0:Int)≤i∧Int.toNat i<a.length)∧((0:Int)≤i∧Int.toNat i<b.length))∧(zif (!(m_eq (α:=Qb) (gtd ((0,[]):Qb) a (Int.toNat i)) (gtd ((0,[]):Qb) b (Int.toNat i)))) (K (Yc false)) (Qa8 K a b (w64 (i+(1:Int)))))) (K (Yc true)))):Qa8 K a b i :=
 Loop.of (by kernel_rfl) h
theorem Ql0 (a:List Qb) (b:List Qb) (h :
 (zif ((a.length:Int) != (b.length:Int)) (K (Yc false)) (Qa8 K a b 0))):Hold (tawp Qax (0+0) Qkt (TQ 0 0 Qgr K) (Ql [(.c (.sl Qc) a),(.c (.sl Qc) b)])) :=
 Hold.of (by kernel_rfl) h
theorem Qoe (a:List Qb) (b:List Qb):TCon Try.prog 128 [(.c (.sl Qc) a),(.c (.sl Qc) b)] (Yc (m_eq (α:=List Qb) a b)):=by
 refine Qp rfl fun hb=>tcg (Γ:=Qax) (n:=27) (sg:=QbH.sg) Qq (TOkL.cons QgT TOkL.nil) (by kernel_rfl) (by kernel_rfl) (Ql0 _ a b ?_)
 exact Qfp ((0,[]):Qb) (E:=m_eq) (fun _ _=>rfl) hb.1.1 (fun i h=>Qm8 _ a b i h) (Q:=fun x=>Yc x=Yc (m_eq (α:=List Qb) a b)) rfl
theorem Qjp:Qm Try.prog QbH:=Qt fun x _=>Qoe x.1 x.2.1
def JG (t:Bool):TRes:=zre (zcb t)
def Qbs:TRow:=Qn 39 [(.a Qx),(.a Qx)] fun x=>(none,JG (m_eq (α:=Qe) x.1 x.2.1))
def QhJ:TTab:=⟨[QbH],false⟩
def QkW:TCode :=
 (zsq [(.reg [zop 2 (.box 36 0 2),zop 3 (.box 36 1 2),zmv 4 (zkb false)]),(zsq [(.reg [zfa 5 2 0,zld 6 5 1,zfa 7 3 0,zld 8 7 1,zbi 9 .neq 6 8]),(.cond 9 (zsq [(.reg [zmv 4 (zkb false)]),.ret]) .skip)]),(zsq [(.reg [zfa 10 2 1,zld 11 10 1,zfa 12 3 1,zld 13 12 1,zca 14 128 [11,13],zno 15 14]),(.cond 15 (zsq [(.reg [zmv 4 (zkb false)]),.ret]) .skip)]),(.reg [zmv 4 (zkb true)]),.ret])
def Qnl:List (ARv × Md):=[(.t 4,.one .d)]
theorem Qnr (a:Qe) (b:Qe) (h :
 (zif (a.1 != b.1) (K (JG false)) (zif (!(m_eq (α:=List Qb) a.2 b.2)) (K (JG false)) (K (JG true))))):Hold (tawp QhJ (0+0) QkW (TQ 0 0 Qnl K) (Ql [(.a [(.c TI a.1),(.c (.sl Qc) a.2)]),(.a [(.c TI b.1),(.c (.sl Qc) b.2)])])) :=
 Hold.of (by kernel_rfl) h
theorem Qkl (a:Qe) (b:Qe):TCon Try.prog 39 [(.a [(.c TI a.1),(.c (.sl Qc) a.2)]),(.a [(.c TI b.1),(.c (.sl Qc) b.2)])] (JG (m_eq (α:=Qe) a b)):=by
 refine Qp rfl fun hb=>tcg (Γ:=QhJ) (n:=16) (sg:=Qbs.sg) Qq (TOkL.cons Qjp TOkL.nil) (by kernel_rfl) (by kernel_rfl) (Qnr _ a b ?_)
 refine ⟨fun h=>R_eq (Eq.symm (decide_eq_false (by rintro rfl;simp [m_eq] at h))),fun h0=>?_⟩
 refine ⟨fun h=>R_eq (Eq.symm (decide_eq_false (by rintro rfl;simp [m_eq] at h))),fun h1=>?_⟩
 refine R_eq (Eq.symm (decide_eq_true ?_))
 simp [m_eq] at h0 h1
 simp [Prod.ext_iff, *]
theorem QlO:Qm Try.prog Qbs:=Qt fun x _=>Qkl x.1 x.2.1
end
end Go.Proofs.Ytephkbajoofeoaa.Am

