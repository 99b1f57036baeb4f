/- -/
import Derived.Test.YtdplaepmjogjjaaGreatVAH1
import Derived.Test.YtdplaepmjogjjaaGreatVAGF
namespace Go.Proofs.YtdplaepmjogjjaaGreat.Am
open Go Go.RowKit Go.Proofs.YtdplaepmjogjjaaGreat
set_option linter.all false
noncomputable section
variable (K:TRes→Prop)
def QeE (t:Int):TRes:=zre (zci t)
def Qgm:TRow:=Qh 152 [(.a ctOp),(.c TI)] fun x=>(some (p_sz (α:=TOp') x.1 x.2.1),QeE (m_sz (α:=TOp') x.1 x.2.1))
def Qox:TTab:=⟨[Qbu],false⟩
def QGd:TCode :=
 (zsq [(.reg [zop 2 (.box 184 0 4),zmv 4 (zki 0)]),(.reg [zfa 5 2 3,zld 6 5 1,zmv 7 1,zca 8 59 [6,7],zmv 1 8]),(zsq [(.reg [zmv 9 1,zbi 10 .lss 9 (zki 0)]),(.cond 10 (zsq [(.reg [zmv 4 (zki (-1))]),.ret]) .skip)]),(.reg [zmv 11 1,zmv 4 11]),.ret])
def QAh:List (ARv × Md):=[(.t 4,.one .d)]
theorem QyI (a:TOp') (left:Int) (h :
 ((p_sz (α:=List Int) a.2.2.2 left)∧(zif (decide ((m_sz (α:=List Int) a.2.2.2 left)<(0:Int))) (K (QeE (-1:Int))) (K (QeE (m_sz (α:=List Int) a.2.2.2 left)))))):Hold (tawp Qox (0+0) QGd (TQ 0 0 QAh K) (Qf [(.a (Tup.cells ctOp a)),(.c TI left)])) :=
 Hold.of (by kernel_rfl) h
theorem QAz (a:TOp') (left:Int) (hp:p_sz (α:=TOp') a left):TCon Tryz.prog 152 [(.a (Tup.cells ctOp a)),(.c TI left)] (QeE (m_sz (α:=TOp') a left)):=by
 refine Qj rfl fun hb=>tcg (Γ:=Qox) (n:=12) (sg:=Qgm.sg) Qi (TOkL.cons QfS TOkL.nil) (by kernel_rfl) (by kernel_rfl) (QyI _ a left ?_)
 refine ⟨hp,fun h=>R_eq (Z5 (of_decide_eq_true h) (by first | omega | (simp only [QL,QI,QS];omega)) hp.1),fun h=>?_⟩
 exact R_eq (congrArg (ZF · _) (by first | rfl | omega | (simp only [QL,QI,QS];omega)))
theorem Qv2:Qg Tryz.prog Qgm:=Qk fun x h=>QAz x.1 x.2.1 h
def QaD (t:Int):TRes:=zre (zci t)
def QhJ:TRow:=Qh 56 [(.c (.sl ctOp)),(.c TI)] fun x=>(some (p_sz (α:=List TOp') x.1 x.2.1),QaD (m_sz (α:=List TOp') x.1 x.2.1))
def Qfn:TTab:=⟨[Qgm],false⟩
def QlQ:TCode :=
 (zsq [(zsq [(.reg [zmv 12 5,zmv 13 0,zle 14 13,zbi 15 .lss 12 14]),(.cond 15 .skip (.exit 0))]),(.block 1 (zsq [(.reg [zmv 18 0,zmv 19 5,zia 20 18 19 ctOp,zLd 21 20 4,zmv 22 1,zca 23 152 [21,22],zmv 1 23]),(.reg [zmv 24 1,zbi 25 .lss 24 (zki 0)]),(.cond 25 (zsq [(.reg [zmv 4 (zki (-1))]),.ret]) .skip)])),(.reg [zmv 16 5,zbi 17 .add 16 (zki 1),zmv 5 17])])
def QsC:List (Nat × Md):=zdl [0,1,5]
def Qme:TCode :=
 (zsq [(.reg [zmv 26 1,zmv 4 26]),.ret])
def Qzo:TCode :=
 (zsq [(.reg [zmv 4 (zki 0)]),(.reg [zmv 6 1,zmv 7 0,zle 8 7,zbi 9 .sub 6 8,zmv 1 9]),(zsq [(.reg [zmv 10 1,zbi 11 .lss 10 (zki 0)]),(.cond 11 (zsq [(.reg [zmv 4 (zki (-1))]),.ret]) .skip)]),(zsq [(.reg [zmv 5 (zki 0)]),(.block 0 (.loop QsC QlQ))]),Qme])
def Qmo:List (ARv × Md):=[(.t 4,.one .d)]
def QjW:Qb:=TQ 0 0 Qmo K
def QB3:Qb:=Qseq (tawp Qfn 0 Qme (QjW K)) (QjW K)
def Qxw:Qb:=Qblk 0 (QB3 K)
def Qha (a:List TOp') (left1:Int) (i:Int):Prop:=Loop Qfn 0 QsC QlQ (Qxw K) ⟨[(0,(zcs ctOp a)),(1,(zci left1)),(5,(zci i))],[],0⟩
theorem QFB (a:List TOp') (left1:Int) (i:Int) (h :
 (zif (decide (i<(a.length:Int))) ((((0:Int)≤i∧Int.toNat i<a.length)∧(p_sz (α:=TOp') (gtd dOp a (Int.toNat i)) left1))∧(zif (decide ((m_sz (α:=TOp') (gtd dOp a (Int.toNat i)) left1)<(0:Int))) (K (QaD (-1:Int))) (Qha K a (m_sz (α:=TOp') (gtd dOp a (Int.toNat i)) left1) (w64 (i+(1:Int)))))) (K (QaD left1)))):Qha K a left1 i :=
 Loop.of (by kernel_rfl) h
theorem QEX (a:List TOp') (left:Int) (h :
 (zif (decide ((w64 (left-(a.length:Int)))<(0:Int))) (K (QaD (-1:Int))) (Qha K a (w64 (left-(a.length:Int))) 0))):Hold (tawp Qfn (0+0) Qzo (TQ 0 0 Qmo K) (Qf [(.c (.sl ctOp) a),(.c TI left)])) :=
 Hold.of (by kernel_rfl) h
theorem QvQ (a:List TOp') (left:Int) (hp:p_sz (α:=List TOp') a left):TCon Tryz.prog 56 [(.c (.sl ctOp) a),(.c TI left)] (QaD (m_sz (α:=List TOp') a left)):=by
 refine Qj rfl fun hb=>tcg (Γ:=Qfn) (n:=27) (sg:=QhJ.sg) Qi (TOkL.cons Qv2 TOkL.nil) (by kernel_rfl) (by kernel_rfl) (QEX _ a left ?_)
 exact QhF (Q:=fun x=>QaD x=QaD (m_sz (α:=List TOp') a left)) dOp hp hb.1.1 (fun l i h=>QFB _ a l i h) rfl
theorem QDj:Qg Tryz.prog QhJ:=Qk fun x h=>QvQ x.1 x.2.1 h
def Qix (t:TOp'):TRes:=⟨(.a [(zci t.1),(zci t.2.1),(zci t.2.2.1),(.r [TI] 0 0 ((t.2.2.2).length))]),[(.sl 3 [TI] (.dp 0 true []) t.2.2.2)],[],false,[]⟩
def QiU:TRow:=Qh 162 [(.a ctOp)] fun x=>(some (p_to (α:=TOp') x.1),Qix (id (α:=TOp') x.1))
def Qm8:TTab:=⟨[QbV],true⟩
def QE1:TCode :=
 (zsq [(.reg [zop 1 (.box 184 0 4),zop 2 (.new 134 (z0s ctOp))]),(.reg [zop 3 (.new 134 (z0s ctOp))]),(.reg [zfa 4 1 0,zld 5 4 1,zfa 6 3 0,zst 6 5 1]),(.reg [zfa 7 1 1,zld 8 7 1,zfa 9 3 1,zst 9 8 1]),(.reg [zfa 10 1 2,zld 11 10 1,zfa 12 3 2,zst 12 11 1]),(.reg [zfa 13 1 3,zld 14 13 1,zca 15 29 [14],zfa 16 3 3,zst 16 15 1]),(.reg [zLd 17 3 4,zst 2 17 4]),.ret])
def Qz7:List (ARv × Md):=[(.l 2 4 true,.b [.d,.d,.d,.p 3])]
theorem QAa (a:TOp') (h :
 ((p_to (α:=List Int) a.2.2.2)∧K (Qix (a.1,a.2.1,a.2.2.1,(List.take ((id (α:=List Int) a.2.2.2).length) (id (α:=List Int) a.2.2.2)))))):Hold (tawp Qm8 (0+0) QE1 (TQ 0 0 Qz7 K) (Qf [(.a (Tup.cells ctOp a))])) :=
 Hold.of (by kernel_rfl) h
theorem QyX (a:TOp') (hp:p_to (α:=TOp') a):TCon Tryz.prog 162 [(.a (Tup.cells ctOp a))] (Qix (id (α:=TOp') a)):=by
 refine Qj rfl fun hb=>tcg (Γ:=Qm8) (n:=18) (sg:=QiU.sg) Qi (TOkL.cons QgB TOkL.nil) (by kernel_rfl) (by kernel_rfl) (QAa _ a ?_)
 repeat' (first | refine And.intro ?_ ?_ | exact R_eq (by simp))
 all_goals (simp only [p_to,QL,QI,QS,List.drop_zero,List.take_length,id_eq] at hp ⊢;omega)
theorem QvP:Qg Tryz.prog QiU:=Qk fun x h=>QyX x.1 h
def JH (t:(List TOp')):TRes:=⟨(.r ctOp 0 0 t.length),[(.sl 134 ctOp (.dp 0 true []) t)],[],false,[]⟩
def QiH:TRow:=Qh 66 [(.c (.sl ctOp))] fun x=>(some (p_to (α:=List TOp') x.1),JH (id (α:=List TOp') x.1))
def QdF:TTab:=⟨[QiU],true⟩
def QrQ:TCode :=
 (zsq [(zsq [(.reg [zmv 8 4,zmv 9 0,zle 10 9,zbi 11 .lss 8 10]),(.cond 11 .skip (.exit 0))]),(.block 1 (.reg [zmv 14 3,zmv 15 4,zmv 16 0,zmv 17 4,zia 18 16 17 ctOp,zLd 19 18 4,zca 20 162 [19],zia 21 14 15 ctOp,zst 21 20 4])),(.reg [zmv 12 4,zbi 13 .add 12 (zki 1),zmv 4 13])])
def Qj4:List (Nat × Md):=[(0,.one .d),(3,.one .f),(4,.one .d)]
def QnI:TCode :=
 (zsq [(.reg [zmv 22 3,zmv 2 22]),.ret])
def Qzg:TCode :=
 (zsq [(.reg [zmv 2 (.k (.n ctOp))]),(.reg [zmv 5 0,zle 6 5,zop 7 (.mk 134 ctOp (z0s ctOp) 6),zmv 3 7]),(zsq [(.reg [zmv 4 (zki 0)]),(.block 0 (.loop Qj4 QrQ))]),QnI])
def QpI:List (ARv × Md):=[(.t 2,.one (.p 134))]
def Qrk:Qb:=TQ 0 0 QpI K
def QCj:Qb:=Qseq (tawp QdF 0 QnI (Qrk K)) (Qrk K)
def Qzq:Qb:=Qblk 0 (QCj K)
def QeH (a:List TOp') (i:Int) (out:List TOp'):Prop:=Loop QdF 0 Qj4 QrQ (Qzq K) ⟨[(0,(zcs ctOp a)),(3,(.r ctOp 0 0 out.length)),(4,(zci i))],[(0,(.sl 134 ctOp (.dp 0 true []) out))],1⟩
theorem Qph (a:List TOp') (i:Int) (out:List TOp') (h :
 (zif (decide (i<(a.length:Int))) ((((0:Int)≤i∧Int.toNat i<a.length)∧((p_to (α:=TOp') (gtd dOp a (Int.toNat i)))∧(((0:Int)≤i∧Int.toNat i<out.length)∧((0+(Int.toNat i))<out.length))))∧(QeH K a (w64 (i+(1:Int))) (List.take out.length ((out).set (0+(Int.toNat i)) ((id (α:=TOp') (gtd dOp a (Int.toNat i))).1,(id (α:=TOp') (gtd dOp a (Int.toNat i))).2.1,(id (α:=TOp') (gtd dOp a (Int.toNat i))).2.2.1,(List.take (((id (α:=TOp') (gtd dOp a (Int.toNat i))).2.2.2).length) (List.drop 0 ((id (α:=TOp') (gtd dOp a (Int.toNat i))).2.2.2)))))))) (K (JH (List.take out.length out))))):QeH K a i out :=
 Loop.of (by kernel_rfl) h
theorem QtP (a:List TOp') (h :
 (((0:Int)≤(a.length:Int)∧(a.length:Int)≤big)∧(QeH K a 0 (List.take (Int.toNat (a.length:Int)) (List.replicate (Int.toNat (a.length:Int)) ((0:Int),(0:Int),(0:Int),[])))))):Hold (tawp QdF (0+0) Qzg (TQ 0 0 QpI K) (Qf [(.c (.sl ctOp) a)])) :=
 Hold.of (by kernel_rfl) h
theorem QuK (a:List TOp') (hp:p_to (α:=List TOp') a):TCon Tryz.prog 66 [(.c (.sl ctOp) a)] (JH (id (α:=List TOp') a)):=by
 refine Qj rfl fun hb=>tcg (Γ:=QdF) (n:=23) (sg:=QiH.sg) Qi (TOkL.cons QvP TOkL.nil) (by kernel_rfl) (by kernel_rfl) (QtP _ a ?_)
 refine ⟨⟨by omega,by rw [bigI];have:=Yx hp;omega⟩,?_⟩
 refine Qb7 a (A:=fun ii ll=>QeH (fun r'=>r'=JH (id (α:=List TOp') a)) a ii ll) (Q:=fun z=>JH z=JH (id (α:=List TOp') a)) hp ?_ ?_ rfl
 ·intro k x out hlt hg ho hx hA
  have hw:w64 (((k:Nat):Int)+1)=((k+1:Nat):Int):=by have:=Yx hp;rw [Qv (by omega) (by omega)];omega
  have hlo:k<out.length:=by omega
  refine Qph (fun r'=>r'=JH (id (α:=List TOp') a)) a ((k:Nat):Int) out ?_
  refine ⟨fun _=>?_,fun h=>absurd h (by simp;omega)⟩
  simp only [Int.toNat_natCast,Nat.zero_add,hg,hw,hlt,hlo,QbG,List.drop_zero,List.take_length,id_eq,and_true,true_and,Int.natCast_nonneg]
  first | exact hA | exact ⟨hx,hA⟩
 ·intro out ho hq
  refine Qph (fun r'=>r'=JH (id (α:=List TOp') a)) a ((a.length:Nat):Int) out ?_
  refine ⟨fun h=>absurd h (by simp),fun _=>?_⟩
  simp only [List.drop_zero,List.take_length]
  exact hq
theorem QFc:Qg Tryz.prog QiH:=Qk fun x h=>QuK x.1 h
def JY (t:Bool):TRes:=zre (zcb t)
def Qjd:TRow:=Qh 172 [(.a ctOp),(.a ctOp)] fun x=>(none,JY (m_eq (α:=TOp') x.1 x.2.1))
def Qok:TTab:=⟨[QbY],false⟩
def QyC:TCode :=
 (zsq [(.reg [zop 2 (.box 134 0 4),zop 3 (.box 134 1 4),zmv 4 (zkb false)]),(zsq [(.reg [zfa 5 2 0,zld 6 5 1,zfa 7 3 0,zld 8 7 1,zbi 9 .neq 6 8]),(.cond 9 (zsq [(.reg [zmv 4 (zkb false)]),.ret]) .skip)]),(zsq [(.reg [zfa 10 2 1,zld 11 10 1,zfa 12 3 1,zld 13 12 1,zbi 14 .neq 11 13]),(.cond 14 (zsq [(.reg [zmv 4 (zkb false)]),.ret]) .skip)]),(zsq [(.reg [zfa 15 2 2,zld 16 15 1,zfa 17 3 2,zld 18 17 1,zbi 19 .neq 16 18]),(.cond 19 (zsq [(.reg [zmv 4 (zkb false)]),.ret]) .skip)]),(zsq [(.reg [zfa 20 2 3,zld 21 20 1,zfa 22 3 3,zld 23 22 1,zca 24 23 [21,23],zno 25 24]),(.cond 25 (zsq [(.reg [zmv 4 (zkb false)]),.ret]) .skip)]),(.reg [zmv 4 (zkb true)]),.ret])
def QvJ:List (ARv × Md):=[(.t 4,.one .d)]
theorem Qy1 (a:TOp') (b:TOp') (h :
 (zif (a.1 != b.1) (K (JY false)) (zif (a.2.1 != b.2.1) (K (JY false)) (zif (a.2.2.1 != b.2.2.1) (K (JY false)) (zif (!(m_eq (α:=List Int) a.2.2.2 b.2.2.2)) (K (JY false)) (K (JY true))))))):Hold (tawp Qok (0+0) QyC (TQ 0 0 QvJ K) (Qf [(.a (Tup.cells ctOp a)),(.a (Tup.cells ctOp b))])) :=
 Hold.of (by kernel_rfl) h
theorem QtR (a:TOp') (b:TOp'):TCon Tryz.prog 172 [(.a (Tup.cells ctOp a)),(.a (Tup.cells ctOp b))] (JY (m_eq (α:=TOp') a b)):=by
 refine Qj rfl fun hb=>tcg (Γ:=Qok) (n:=26) (sg:=Qjd.sg) Qi (TOkL.cons QjL TOkL.nil) (by kernel_rfl) (by kernel_rfl) (Qy1 _ a b ?_)
 refine ⟨fun h=>R_eq (Eq.symm (decide_eq_false (by rintro rfl;simp [m_eq] at h))),fun h0=>?_⟩
 refine ⟨fun h=>R_eq (Eq.symm (decide_eq_false (by rintro rfl;simp [m_eq] at h))),fun h1=>?_⟩
 refine ⟨fun h=>R_eq (Eq.symm (decide_eq_false (by rintro rfl;simp [m_eq] at h))),fun h2=>?_⟩
 refine ⟨fun h=>R_eq (Eq.symm (decide_eq_false (by rintro rfl;simp [m_eq] at h))),fun h3=>?_⟩
 refine R_eq (Eq.symm (decide_eq_true ?_))
 simp [m_eq] at h0 h1 h2 h3
 simp [Prod.ext_iff, *]
theorem QFk:Qg Tryz.prog Qjd:=Qk fun x _=>QtR x.1 x.2.1
def Qav (t:Bool):TRes:=zre (zcb t)
def Qh2:TRow:=Qh 76 [(.c (.sl ctOp)),(.c (.sl ctOp))] fun x=>(none,Qav (m_eq (α:=List TOp') x.1 x.2.1))
def Qfu:TTab:=⟨[Qjd],false⟩
def QmB:TCode :=
 (zsq [(zsq [(.reg [zmv 11 5,zmv 12 0,zle 13 12,zbi 14 .lss 11 13]),(.cond 14 .skip (.exit 0))]),(.block 1 (zsq [(.draw [zmv 17 0,zmv 18 5,zia 19 17 18 ctOp,zLd 20 19 4,zmv 21 1,zmv 22 5,zia 23 21 22 ctOp,zLd 24 23 4,zca 25 172 [20,24],zno 26 25] []),(.cond 26 (zsq [(.reg [zmv 4 (zkb false)]),.ret]) .skip)])),(.reg [zmv 15 5,zbi 16 .add 15 (zki 1),zmv 5 16])])
def Qs0:List (Nat × Md):=zdl [0,1,5]
def Qpm:TCode :=
 (zsq [(.reg [zmv 4 (zkb true)]),.ret])
def QGm:TCode :=
 (zsq [(.reg [zmv 4 (zkb false)]),(zsq [(.reg [zmv 6 0,zle 7 6,zmv 8 1,zle 9 8,zbi 10 .neq 7 9]),(.cond 10 (zsq [(.reg [zmv 4 (zkb false)]),.ret]) .skip)]),(zsq [(.reg [zmv 5 (zki 0)]),(.block 0 (.loop Qs0 QmB))]),Qpm])
def Qpi:List (ARv × Md):=[(.t 4,.one .d)]
def Qlx:Qb:=TQ 0 0 Qpi K
def Qt7:Qb:=Qseq (tawp Qfu 0 Qpm (Qlx K)) (Qlx K)
def Qv0:Qb:=Qblk 0 (Qt7 K)
def QgM (a:List TOp') (b:List TOp') (i:Int):Prop:=Loop Qfu 0 Qs0 QmB (Qv0 K) ⟨[(0,(zcs ctOp a)),(1,(zcs ctOp b)),(5,(zci i))],[],0⟩
theorem QwF (a:List TOp') (b:List TOp') (i:Int) (h :
 (zif (decide (i<(a.length:Int))) ((((0:Int)≤i∧Int.toNat i<a.length)∧((0:Int)≤i∧Int.toNat i<b.length))∧(zif (!(m_eq (α:=TOp') (gtd dOp a (Int.toNat i)) (gtd dOp b (Int.toNat i)))) (K (Qav false)) (QgM K a b (w64 (i+(1:Int)))))) (K (Qav true)))):QgM K a b i :=
 Loop.of (by kernel_rfl) h
theorem QuY (a:List TOp') (b:List TOp') (h :
 (zif ((a.length:Int) != (b.length:Int)) (K (Qav false)) (QgM K a b 0))):Hold (tawp Qfu (0+0) QGm (TQ 0 0 Qpi K) (Qf [(.c (.sl ctOp) a),(.c (.sl ctOp) b)])) :=
 Hold.of (by kernel_rfl) h
theorem QCk (a:List TOp') (b:List TOp'):TCon Tryz.prog 76 [(.c (.sl ctOp) a),(.c (.sl ctOp) b)] (Qav (m_eq (α:=List TOp') a b)):=by
 refine Qj rfl fun hb=>tcg (Γ:=Qfu) (n:=27) (sg:=Qh2.sg) Qi (TOkL.cons QFk TOkL.nil) (by kernel_rfl) (by kernel_rfl) (QuY _ a b ?_)
 exact Qcm dOp (E:=m_eq) (fun _ _=>rfl) hb.1.1 (fun i h=>QwF _ a b i h) (Q:=fun x=>Qav x=Qav (m_eq (α:=List TOp') a b)) rfl
theorem Qy3:Qg Tryz.prog Qh2:=Qk fun x _=>QCk x.1 x.2.1
end
end Go.Proofs.YtdplaepmjogjjaaGreat.Am

