/- -/
import Derived.Test.YtdplaepmjogjjaaGreatVBH1
import Derived.Test.YtdplaepmjogjjaaGreatVBGF
namespace Go.Proofs.YtdplaepmjogjjaaGreat.Am
open Go Go.RowKit Go.Proofs.YtdplaepmjogjjaaGreat
set_option linter.all false
noncomputable section
variable (K:TRes→Prop)
def Qdv (t:Int):TRes:=zre (zci t)
def QgY:TRow:=Qi 152 [(.a ctOp),(.c TI)] fun x=>(some (p_sz (α:=TOp') x.1 x.2.1),Qdv (m_sz (α:=TOp') x.1 x.2.1))
def QjG:TTab:=⟨[JN],false⟩
def Qta:TCode :=
 (zsq [(.reg [zop 2 (.box 184 0 4),zmv 4 (zki 0)]),(.reg [zfa 5 2 3,zld 6 5 1,zmv 7 1,zca 8 59 [6,7],zmv 1 8]),(zsq [(.reg [zmv 9 1,zbi 10 .lss 9 (zki 0)]),(.cond 10 (zsq [(.reg [zmv 4 (zki (-1))]),.ret]) .skip)]),(.reg [zmv 11 1,zmv 4 11]),.ret])
def Qx8:List (ARv × Md):=[(.t 4,.one .d)]
theorem QsH (a:TOp') (left:Int) (h :
 ((p_sz (α:=List Int) a.2.2.2 left)∧(zif (decide ((m_sz (α:=List Int) a.2.2.2 left)<(0:Int))) (K (Qdv (-1:Int))) (K (Qdv (m_sz (α:=List Int) a.2.2.2 left)))))):Hold (tawp QjG (0+0) Qta (TQ 0 0 Qx8 K) (Qg [(.a (Tup.cells ctOp a)),(.c TI left)])) :=
 Hold.of (by kernel_rfl) h
theorem QBo (a:TOp') (left:Int) (hp:p_sz (α:=TOp') a left):TCon Tryz.prog 152 [(.a (Tup.cells ctOp a)),(.c TI left)] (Qdv (m_sz (α:=TOp') a left)):=by
 refine Qk rfl fun hb=>tcg (Γ:=QjG) (n:=12) (sg:=QgY.sg) Ql (TOkL.cons QbJ TOkL.nil) (by kernel_rfl) (by kernel_rfl) (QsH _ a left ?_)
 refine ⟨hp,fun h=>R_eq (Q6 (of_decide_eq_true h) (by first | omega | (simp only [QD,QE,QK];omega)) hp.1),fun h=>?_⟩
 exact R_eq (congrArg (Za · _) (by first | rfl | omega | (simp only [QD,QE,QK];omega)))
theorem Qxz:Qj Tryz.prog QgY:=Qn fun x h=>QBo x.1 x.2.1 h
def Qal (t:Int):TRes:=zre (zci t)
def Qha:TRow:=Qi 56 [(.c (.sl ctOp)),(.c TI)] fun x=>(some (p_sz (α:=List TOp') x.1 x.2.1),Qal (m_sz (α:=List TOp') x.1 x.2.1))
def Qdh:TTab:=⟨[QgY],false⟩
def QrP:TCode :=
 (zsq [(zsq [(.reg [zmv 12 5,zmv 13 0,zle 14 13,zbi 15 .lss 12 14]),(.cond 15 .skip (.exit 0))]),(.block 1 (zsq [(.reg [zmv 18 0,zmv 19 5,zia 20 18 19 ctOp,zLd 21 20 4,zmv 22 1,zca 23 152 [21,22],zmv 1 23]),(.reg [zmv 24 1,zbi 25 .lss 24 (zki 0)]),(.cond 25 (zsq [(.reg [zmv 4 (zki (-1))]),.ret]) .skip)])),(.reg [zmv 16 5,zbi 17 .add 16 (zki 1),zmv 5 17])])
def Qqd:List (Nat × Md):=zdl [0,1,5]
def QlF:TCode :=
 (zsq [(.reg [zmv 26 1,zmv 4 26]),.ret])
def Qxk:TCode :=
 (zsq [(.reg [zmv 4 (zki 0)]),(.reg [zmv 6 1,zmv 7 0,zle 8 7,zbi 9 .sub 6 8,zmv 1 9]),(zsq [(.reg [zmv 10 1,zbi 11 .lss 10 (zki 0)]),(.cond 11 (zsq [(.reg [zmv 4 (zki (-1))]),.ret]) .skip)]),(zsq [(.reg [zmv 5 (zki 0)]),(.block 0 (.loop Qqd QrP))]),QlF])
def QkF:List (ARv × Md):=[(.t 4,.one .d)]
def QqT:Qb:=TQ 0 0 QkF K
def QwX:Qb:=Qseq (tawp Qdh 0 QlF (QqT K)) (QqT K)
def QBS:Qb:=Qblk 0 (QwX K)
def Qiv (a:List TOp') (left1:Int) (i:Int):Prop:=Loop Qdh 0 Qqd QrP (QBS K) ⟨[(0,(zcs ctOp a)),(1,(zci left1)),(5,(zci i))],[],0⟩
theorem QyM (a:List TOp') (left1:Int) (i:Int) (h :
 (zif (decide (i<(a.length:Int))) ((((0:Int)≤i∧Int.toNat i<a.length)∧(p_sz (α:=TOp') (gtd dOp a (Int.toNat i)) left1))∧(zif (decide ((m_sz (α:=TOp') (gtd dOp a (Int.toNat i)) left1)<(0:Int))) (K (Qal (-1:Int))) (Qiv K a (m_sz (α:=TOp') (gtd dOp a (Int.toNat i)) left1) (w64 (i+(1:Int)))))) (K (Qal left1)))):Qiv K a left1 i :=
 Loop.of (by kernel_rfl) h
theorem QvK (a:List TOp') (left:Int) (h :
 (zif (decide ((w64 (left-(a.length:Int)))<(0:Int))) (K (Qal (-1:Int))) (Qiv K a (w64 (left-(a.length:Int))) 0))):Hold (tawp Qdh (0+0) Qxk (TQ 0 0 QkF K) (Qg [(.c (.sl ctOp) a),(.c TI left)])) :=
 Hold.of (by kernel_rfl) h
theorem Qy3 (a:List TOp') (left:Int) (hp:p_sz (α:=List TOp') a left):TCon Tryz.prog 56 [(.c (.sl ctOp) a),(.c TI left)] (Qal (m_sz (α:=List TOp') a left)):=by
 refine Qk rfl fun hb=>tcg (Γ:=Qdh) (n:=27) (sg:=Qha.sg) Ql (TOkL.cons Qxz TOkL.nil) (by kernel_rfl) (by kernel_rfl) (QvK _ a left ?_)
 exact JM (Q:=fun x=>Qal x=Qal (m_sz (α:=List TOp') a left)) dOp hp hb.1.1 (fun l i h=>QyM _ a l i h) rfl
theorem QEH:Qj Tryz.prog Qha:=Qn fun x h=>Qy3 x.1 x.2.1 h
def QfI (t:TOp'):TRes:=⟨(.a [(zci t.1),(zci t.2.1),(zci t.2.2.1),(.r [TI] 0 0 ((t.2.2.2).length))]),[(.sl 3 [TI] (.dp 0 true []) t.2.2.2)],[],false,[]⟩
def QhZ:TRow:=Qi 162 [(.a ctOp)] fun x=>(some (p_to (α:=TOp') x.1),QfI (id (α:=TOp') x.1))
def Qpn:TTab:=⟨[JO],true⟩
def Qzc:TCode :=
 (zsq [(.reg [zop 1 (.box 184 0 4),zop 2 (.new 134 (z0s ctOp))]),(.reg [zop 3 (.new 134 (z0s ctOp))]),(.reg [zfa 4 1 0,zld 5 4 1,zfa 6 3 0,zst 6 5 1]),(.reg [zfa 7 1 1,zld 8 7 1,zfa 9 3 1,zst 9 8 1]),(.reg [zfa 10 1 2,zld 11 10 1,zfa 12 3 2,zst 12 11 1]),(.reg [zfa 13 1 3,zld 14 13 1,zca 15 29 [14],zfa 16 3 3,zst 16 15 1]),(.reg [zLd 17 3 4,zst 2 17 4]),.ret])
def QDu:List (ARv × Md):=[(.l 2 4 true,.b [.d,.d,.d,.p 3])]
theorem QwD (a:TOp') (h :
 ((p_to (α:=List Int) a.2.2.2)∧K (QfI (a.1,a.2.1,a.2.2.1,(List.take ((id (α:=List Int) a.2.2.2).length) (id (α:=List Int) a.2.2.2)))))):Hold (tawp Qpn (0+0) Qzc (TQ 0 0 QDu K) (Qg [(.a (Tup.cells ctOp a))])) :=
 Hold.of (by kernel_rfl) h
theorem QE0 (a:TOp') (hp:p_to (α:=TOp') a):TCon Tryz.prog 162 [(.a (Tup.cells ctOp a))] (QfI (id (α:=TOp') a)):=by
 refine Qk rfl fun hb=>tcg (Γ:=Qpn) (n:=18) (sg:=QhZ.sg) Ql (TOkL.cons QbF TOkL.nil) (by kernel_rfl) (by kernel_rfl) (QwD _ a ?_)
 repeat' (first | refine And.intro ?_ ?_ | exact R_eq (by simp))
 all_goals (simp only [p_to,QD,QE,QK,List.drop_zero,List.take_length,id_eq] at hp ⊢;omega)
theorem QvD:Qj Tryz.prog QhZ:=Qn fun x h=>QE0 x.1 h
def Jo (t:(List TOp')):TRes:=⟨(.r ctOp 0 0 t.length),[(.sl 134 ctOp (.dp 0 true []) t)],[],false,[]⟩
def QhA:TRow:=Qi 66 [(.c (.sl ctOp))] fun x=>(some (p_to (α:=List TOp') x.1),Jo (id (α:=List TOp') x.1))
def Qd8:TTab:=⟨[QhZ],true⟩
def QkR:TCode :=
 (zsq [(zsq [(.reg [zmv 8 4,zmv 9 0,zle 10 9,zbi 11 .lss 8 10]),(.cond 11 .skip (.exit 0))]),(.block 1 (.reg [zmv 14 3,zmv 15 4,zmv 16 0,zmv 17 4,zia 18 16 17 ctOp,zLd 19 18 4,zca 20 162 [19],zia 21 14 15 ctOp,zst 21 20 4])),(.reg [zmv 12 4,zbi 13 .add 12 (zki 1),zmv 4 13])])
def QrO:List (Nat × Md):=[(0,.one .d),(3,.one .f),(4,.one .d)]
def Qk0:TCode :=
 (zsq [(.reg [zmv 22 3,zmv 2 22]),.ret])
def QB2:TCode :=
 (zsq [(.reg [zmv 2 (.k (.n ctOp))]),(.reg [zmv 5 0,zle 6 5,zop 7 (.mk 134 ctOp (z0s ctOp) 6),zmv 3 7]),(zsq [(.reg [zmv 4 (zki 0)]),(.block 0 (.loop QrO QkR))]),Qk0])
def QlQ:List (ARv × Md):=[(.t 2,.one (.p 134))]
def QkO:Qb:=TQ 0 0 QlQ K
def Qup:Qb:=Qseq (tawp Qd8 0 Qk0 (QkO K)) (QkO K)
def QC6:Qb:=Qblk 0 (Qup K)
def QeD (a:List TOp') (i:Int) (out:List TOp'):Prop:=Loop Qd8 0 QrO QkR (QC6 K) ⟨[(0,(zcs ctOp a)),(3,(.r ctOp 0 0 out.length)),(4,(zci i))],[(0,(.sl 134 ctOp (.dp 0 true []) out))],1⟩
theorem Qkp (a:List TOp') (i:Int) (out:List TOp') (h :
 (zif (decide (i<(a.length:Int))) ((((0:Int)≤i∧Int.toNat i<a.length)∧((p_to (α:=TOp') (gtd dOp a (Int.toNat i)))∧(((0:Int)≤i∧Int.toNat i<out.length)∧((0+(Int.toNat i))<out.length))))∧(QeD K a (w64 (i+(1:Int))) (List.take out.length ((out).set (0+(Int.toNat i)) ((id (α:=TOp') (gtd dOp a (Int.toNat i))).1,(id (α:=TOp') (gtd dOp a (Int.toNat i))).2.1,(id (α:=TOp') (gtd dOp a (Int.toNat i))).2.2.1,(List.take (((id (α:=TOp') (gtd dOp a (Int.toNat i))).2.2.2).length) (List.drop 0 ((id (α:=TOp') (gtd dOp a (Int.toNat i))).2.2.2)))))))) (K (Jo (List.take out.length out))))):QeD K a i out :=
 Loop.of (by kernel_rfl) h
theorem Qum (a:List TOp') (h :
 (((0:Int)≤(a.length:Int)∧(a.length:Int)≤big)∧(QeD K a 0 (List.take (Int.toNat (a.length:Int)) (List.replicate (Int.toNat (a.length:Int)) ((0:Int),(0:Int),(0:Int),[])))))):Hold (tawp Qd8 (0+0) QB2 (TQ 0 0 QlQ K) (Qg [(.c (.sl ctOp) a)])) :=
 Hold.of (by kernel_rfl) h
theorem QsD (a:List TOp') (hp:p_to (α:=List TOp') a):TCon Tryz.prog 66 [(.c (.sl ctOp) a)] (Jo (id (α:=List TOp') a)):=by
 refine Qk rfl fun hb=>tcg (Γ:=Qd8) (n:=23) (sg:=QhA.sg) Ql (TOkL.cons QvD TOkL.nil) (by kernel_rfl) (by kernel_rfl) (Qum _ a ?_)
 refine ⟨⟨by omega,by rw [bigI];have:=Zh hp;omega⟩,?_⟩
 refine YW a (A:=fun ii ll=>QeD (fun r'=>r'=Jo (id (α:=List TOp') a)) a ii ll) (Q:=fun z=>Jo z=Jo (id (α:=List TOp') a)) hp ?_ ?_ rfl
 ·intro k x out hlt hg ho hx hA
  have hw:w64 (((k:Nat):Int)+1)=((k+1:Nat):Int):=by have:=Zh hp;rw [Qw (by omega) (by omega)];omega
  have hlo:k<out.length:=by omega
  refine Qkp (fun r'=>r'=Jo (id (α:=List TOp') a)) a ((k:Nat):Int) out ?_
  refine ⟨fun _=>?_,fun h=>absurd h (by simp;omega)⟩
  simp only [Int.toNat_natCast,Nat.zero_add,hg,hw,hlt,hlo,YB,List.drop_zero,List.take_length,id_eq,and_true,true_and,Int.natCast_nonneg]
  first | exact hA | exact ⟨hx,hA⟩
 ·intro out ho hq
  refine Qkp (fun r'=>r'=Jo (id (α:=List TOp') a)) a ((a.length:Nat):Int) out ?_
  refine ⟨fun h=>absurd h (by simp),fun _=>?_⟩
  simp only [List.drop_zero,List.take_length]
  exact hq
theorem QAy:Qj Tryz.prog QhA:=Qn fun x h=>QsD x.1 h
def J4 (t:Bool):TRes:=zre (zcb t)
def Qfx:TRow:=Qi 172 [(.a ctOp),(.a ctOp)] fun x=>(none,J4 (m_eq (α:=TOp') x.1 x.2.1))
def Qj1:TTab:=⟨[Jt],false⟩
def QAf:TCode :=
 (zsq [(.reg [zop 2 (.box 134 0 4),zop 3 (.box 134 1 4),zmv 4 (zkb false)]),(zsq [(.reg [zfa 5 2 0,zld 6 5 1,zfa 7 3 0,zld 8 7 1,zbi 9 .neq 6 8]),(.cond 9 (zsq [(.reg [zmv 4 (zkb false)]),.ret]) .skip)]),(zsq [(.reg [zfa 10 2 1,zld 11 10 1,zfa 12 3 1,zld 13 12 1,zbi 14 .neq 11 13]),(.cond 14 (zsq [(.reg [zmv 4 (zkb false)]),.ret]) .skip)]),(zsq [(.reg [zfa 15 2 2,zld 16 15 1,zfa 17 3 2,zld 18 17 1,zbi 19 .neq 16 18]),(.cond 19 (zsq [(.reg [zmv 4 (zkb false)]),.ret]) .skip)]),(zsq [(.reg [zfa 20 2 3,zld 21 20 1,zfa 22 3 3,zld 23 22 1,zca 24 23 [21,23],zno 25 24]),(.cond 25 (zsq [(.reg [zmv 4 (zkb false)]),.ret]) .skip)]),(.reg [zmv 4 (zkb true)]),.ret])
def Qxp:List (ARv × Md):=[(.t 4,.one .d)]
theorem Qtp (a:TOp') (b:TOp') (h :
 (zif (a.1 != b.1) (K (J4 false)) (zif (a.2.1 != b.2.1) (K (J4 false)) (zif (a.2.2.1 != b.2.2.1) (K (J4 false)) (zif (!(m_eq (α:=List Int) a.2.2.2 b.2.2.2)) (K (J4 false)) (K (J4 true))))))):Hold (tawp Qj1 (0+0) QAf (TQ 0 0 Qxp K) (Qg [(.a (Tup.cells ctOp a)),(.a (Tup.cells ctOp b))])) :=
 Hold.of (by kernel_rfl) h
theorem Qw7 (a:TOp') (b:TOp'):TCon Tryz.prog 172 [(.a (Tup.cells ctOp a)),(.a (Tup.cells ctOp b))] (J4 (m_eq (α:=TOp') a b)):=by
 refine Qk rfl fun hb=>tcg (Γ:=Qj1) (n:=26) (sg:=Qfx.sg) Ql (TOkL.cons Qa0 TOkL.nil) (by kernel_rfl) (by kernel_rfl) (Qtp _ a b ?_)
 refine ⟨fun h=>R_eq (Eq.symm (decide_eq_false (by rintro rfl;simp [m_eq] at h))),fun h0=>?_⟩
 refine ⟨fun h=>R_eq (Eq.symm (decide_eq_false (by rintro rfl;simp [m_eq] at h))),fun h1=>?_⟩
 refine ⟨fun h=>R_eq (Eq.symm (decide_eq_false (by rintro rfl;simp [m_eq] at h))),fun h2=>?_⟩
 refine ⟨fun h=>R_eq (Eq.symm (decide_eq_false (by rintro rfl;simp [m_eq] at h))),fun h3=>?_⟩
 refine R_eq (Eq.symm (decide_eq_true ?_))
 simp [m_eq] at h0 h1 h2 h3
 simp [Prod.ext_iff, *]
theorem Quj:Qj Tryz.prog Qfx:=Qn fun x _=>Qw7 x.1 x.2.1
def JL (t:Bool):TRes:=zre (zcb t)
def Qft:TRow:=Qi 76 [(.c (.sl ctOp)),(.c (.sl ctOp))] fun x=>(none,JL (m_eq (α:=List TOp') x.1 x.2.1))
def Qek:TTab:=⟨[Qfx],false⟩
def QnG:TCode :=
 (zsq [(zsq [(.reg [zmv 11 5,zmv 12 0,zle 13 12,zbi 14 .lss 11 13]),(.cond 14 .skip (.exit 0))]),(.block 1 (zsq [(.draw [zmv 17 0,zmv 18 5,zia 19 17 18 ctOp,zLd 20 19 4,zmv 21 1,zmv 22 5,zia 23 21 22 ctOp,zLd 24 23 4,zca 25 172 [20,24],zno 26 25] []),(.cond 26 (zsq [(.reg [zmv 4 (zkb false)]),.ret]) .skip)])),(.reg [zmv 15 5,zbi 16 .add 15 (zki 1),zmv 5 16])])
def QrV:List (Nat × Md):=zdl [0,1,5]
def Qrf:TCode :=
 (zsq [(.reg [zmv 4 (zkb true)]),.ret])
def QzK:TCode :=
 (zsq [(.reg [zmv 4 (zkb false)]),(zsq [(.reg [zmv 6 0,zle 7 6,zmv 8 1,zle 9 8,zbi 10 .neq 7 9]),(.cond 10 (zsq [(.reg [zmv 4 (zkb false)]),.ret]) .skip)]),(zsq [(.reg [zmv 5 (zki 0)]),(.block 0 (.loop QrV QnG))]),Qrf])
def QnI:List (ARv × Md):=[(.t 4,.one .d)]
def QrL:Qb:=TQ 0 0 QnI K
def QEs:Qb:=Qseq (tawp Qek 0 Qrf (QrL K)) (QrL K)
def Qvt:Qb:=Qblk 0 (QEs K)
def Qhv (a:List TOp') (b:List TOp') (i:Int):Prop:=Loop Qek 0 QrV QnG (Qvt K) ⟨[(0,(zcs ctOp a)),(1,(zcs ctOp b)),(5,(zci i))],[],0⟩
theorem QCb (a:List TOp') (b:List TOp') (i:Int) (h :
 (zif (decide (i<(a.length:Int))) ((((0:Int)≤i∧Int.toNat i<a.length)∧((0:Int)≤i∧Int.toNat i<b.length))∧(zif (!(m_eq (α:=TOp') (gtd dOp a (Int.toNat i)) (gtd dOp b (Int.toNat i)))) (K (JL false)) (Qhv K a b (w64 (i+(1:Int)))))) (K (JL true)))):Qhv K a b i :=
 Loop.of (by kernel_rfl) h
theorem QyU (a:List TOp') (b:List TOp') (h :
 (zif ((a.length:Int) != (b.length:Int)) (K (JL false)) (Qhv K a b 0))):Hold (tawp Qek (0+0) QzK (TQ 0 0 QnI K) (Qg [(.c (.sl ctOp) a),(.c (.sl ctOp) b)])) :=
 Hold.of (by kernel_rfl) h
theorem Qsi (a:List TOp') (b:List TOp'):TCon Tryz.prog 76 [(.c (.sl ctOp) a),(.c (.sl ctOp) b)] (JL (m_eq (α:=List TOp') a b)):=by
 refine Qk rfl fun hb=>tcg (Γ:=Qek) (n:=27) (sg:=Qft.sg) Ql (TOkL.cons Quj TOkL.nil) (by kernel_rfl) (by kernel_rfl) (QyU _ a b ?_)
 exact YH dOp (E:=m_eq) (fun _ _=>rfl) hb.1.1 (fun i h=>QCb _ a b i h) (Q:=fun x=>JL x=JL (m_eq (α:=List TOp') a b)) rfl
theorem QuS:Qj Tryz.prog Qft:=Qn fun x _=>Qsi x.1 x.2.1
end
end Go.Proofs.YtdplaepmjogjjaaGreat.Am

