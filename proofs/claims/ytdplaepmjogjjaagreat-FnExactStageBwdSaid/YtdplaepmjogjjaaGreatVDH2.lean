/- -/
import Derived.Test.YtdplaepmjogjjaaGreatVDH1
import Derived.Test.YtdplaepmjogjjaaGreatVDGF
namespace Go.Proofs.YtdplaepmjogjjaaGreat.Am
open Go Go.RowKit Go.Proofs.YtdplaepmjogjjaaGreat
set_option linter.all false
noncomputable section
variable (K:TRes→Prop)
def Qff (t:Int):TRes:=zre (zci t)
def Qj4:TRow:=Qg 152 [(.a ctOp),(.c TI)] fun x=>(some (p_sz (α:=TOp') x.1 x.2.1),Qff (m_sz (α:=TOp') x.1 x.2.1))
def QmH:TTab:=⟨[QdD],false⟩
def QIs:TCode :=
 (zsq [(.reg [zop 2 (.box 184 0 4),zmv 4 (zki 0)]),(.reg [zfa 5 2 3,zld 6 5 1,zmv 7 1,zca 8 59 [6,7],zmv 1 8]),(zsq [(.reg [zmv 9 1,zbi 10 .lss 9 (zki 0)]),(.cond 10 (zsq [(.reg [zmv 4 (zki (-1))]),.ret]) .skip)]),(.reg [zmv 11 1,zmv 4 11]),.ret])
def QFg:List (ARv × Md):=[(.t 4,.one .d)]
theorem Qyh (a:TOp') (left:Int) (h :
 ((p_sz (α:=List Int) a.2.2.2 left)∧(zif (decide ((m_sz (α:=List Int) a.2.2.2 left)<(0:Int))) (K (Qff (-1:Int))) (K (Qff (m_sz (α:=List Int) a.2.2.2 left)))))):Hold (tawp QmH (0+0) QIs (TQ 0 0 QFg K) (Qd [(.a (Tup.cells ctOp a)),(.c TI left)])) :=
 Hold.of (by kernel_rfl) h
theorem Qwf (a:TOp') (left:Int) (hp:p_sz (α:=TOp') a left):TCon Tryz.prog 152 [(.a (Tup.cells ctOp a)),(.c TI left)] (Qff (m_sz (α:=TOp') a left)):=by
 refine Qh rfl fun hb=>tcg (Γ:=QmH) (n:=12) (sg:=Qj4.sg) Qi (TOkL.cons Qhn TOkL.nil) (by kernel_rfl) (by kernel_rfl) (Qyh _ a left ?_)
 refine ⟨hp,fun h=>R_eq (Yl (of_decide_eq_true h) (by first | omega | (simp only [QZ,QK,Q0];omega)) hp.1),fun h=>?_⟩
 exact R_eq (congrArg (Z1 · _) (by first | rfl | omega | (simp only [QZ,QK,Q0];omega)))
theorem QD1:Qf Tryz.prog Qj4:=Qj fun x h=>Qwf x.1 x.2.1 h
def QaC (t:Int):TRes:=zre (zci t)
def Qke:TRow:=Qg 56 [(.c (.sl ctOp)),(.c TI)] fun x=>(some (p_sz (α:=List TOp') x.1 x.2.1),QaC (m_sz (α:=List TOp') x.1 x.2.1))
def Qf7:TTab:=⟨[Qj4],false⟩
def Qq6:TCode :=
 (zsq [(zsq [(.reg [zmv 12 5,zmv 13 0,zle 14 13,zbi 15 .lss 12 14]),(.cond 15 .skip (.exit 0))]),(.block 1 (zsq [(.reg [zmv 18 0,zmv 19 5,zia 20 18 19 ctOp,zLd 21 20 4,zmv 22 1,zca 23 152 [21,22],zmv 1 23]),(.reg [zmv 24 1,zbi 25 .lss 24 (zki 0)]),(.cond 25 (zsq [(.reg [zmv 4 (zki (-1))]),.ret]) .skip)])),(.reg [zmv 16 5,zbi 17 .add 16 (zki 1),zmv 5 17])])
def QnT:List (Nat × Md):=zdl [0,1,5]
def Qn5:TCode :=
 (zsq [(.reg [zmv 26 1,zmv 4 26]),.ret])
def QJv:TCode :=
 (zsq [(.reg [zmv 4 (zki 0)]),(.reg [zmv 6 1,zmv 7 0,zle 8 7,zbi 9 .sub 6 8,zmv 1 9]),(zsq [(.reg [zmv 10 1,zbi 11 .lss 10 (zki 0)]),(.cond 11 (zsq [(.reg [zmv 4 (zki (-1))]),.ret]) .skip)]),(zsq [(.reg [zmv 5 (zki 0)]),(.block 0 (.loop QnT Qq6))]),Qn5])
def Qtg:List (ARv × Md):=[(.t 4,.one .d)]
def Qlk:Qb:=TQ 0 0 Qtg K
def Qv6:Qb:=Qseq (tawp Qf7 0 Qn5 (Qlk K)) (Qlk K)
def QAF:Qb:=Qblk 0 (Qv6 K)
def Qhf (a:List TOp') (left1:Int) (i:Int):Prop:=Loop Qf7 0 QnT Qq6 (QAF K) ⟨[(0,(zcs ctOp a)),(1,(zci left1)),(5,(zci i))],[],0⟩
theorem QEj (a:List TOp') (left1:Int) (i:Int) (h :
 (zif (decide (i<(a.length:Int))) ((((0:Int)≤i∧Int.toNat i<a.length)∧(p_sz (α:=TOp') (gtd dOp a (Int.toNat i)) left1))∧(zif (decide ((m_sz (α:=TOp') (gtd dOp a (Int.toNat i)) left1)<(0:Int))) (K (QaC (-1:Int))) (Qhf K a (m_sz (α:=TOp') (gtd dOp a (Int.toNat i)) left1) (w64 (i+(1:Int)))))) (K (QaC left1)))):Qhf K a left1 i :=
 Loop.of (by kernel_rfl) h
theorem QIz (a:List TOp') (left:Int) (h :
 (zif (decide ((w64 (left-(a.length:Int)))<(0:Int))) (K (QaC (-1:Int))) (Qhf K a (w64 (left-(a.length:Int))) 0))):Hold (tawp Qf7 (0+0) QJv (TQ 0 0 Qtg K) (Qd [(.c (.sl ctOp) a),(.c TI left)])) :=
 Hold.of (by kernel_rfl) h
theorem QKo (a:List TOp') (left:Int) (hp:p_sz (α:=List TOp') a left):TCon Tryz.prog 56 [(.c (.sl ctOp) a),(.c TI left)] (QaC (m_sz (α:=List TOp') a left)):=by
 refine Qh rfl fun hb=>tcg (Γ:=Qf7) (n:=27) (sg:=Qke.sg) Qi (TOkL.cons QD1 TOkL.nil) (by kernel_rfl) (by kernel_rfl) (QIz _ a left ?_)
 exact QiD (Q:=fun x=>QaC x=QaC (m_sz (α:=List TOp') a left)) dOp hp hb.1.1 (fun l i h=>QEj _ a l i h) rfl
theorem QAu:Qf Tryz.prog Qke:=Qj fun x h=>QKo x.1 x.2.1 h
def Qhv (t:TOp'):TRes:=⟨(.a [(zci t.1),(zci t.2.1),(zci t.2.2.1),(.r [TI] 0 0 ((t.2.2.2).length))]),[(.sl 3 [TI] (.dp 0 true []) t.2.2.2)],[],false,[]⟩
def QhC:TRow:=Qg 162 [(.a ctOp)] fun x=>(some (p_to (α:=TOp') x.1),Qhv (id (α:=TOp') x.1))
def Qlo:TTab:=⟨[Qby],true⟩
def QFl:TCode :=
 (zsq [(.reg [zop 1 (.box 184 0 4),zop 2 (.new 134 (z0s ctOp))]),(.reg [zop 3 (.new 134 (z0s ctOp))]),(.reg [zfa 4 1 0,zld 5 4 1,zfa 6 3 0,zst 6 5 1]),(.reg [zfa 7 1 1,zld 8 7 1,zfa 9 3 1,zst 9 8 1]),(.reg [zfa 10 1 2,zld 11 10 1,zfa 12 3 2,zst 12 11 1]),(.reg [zfa 13 1 3,zld 14 13 1,zca 15 29 [14],zfa 16 3 3,zst 16 15 1]),(.reg [zLd 17 3 4,zst 2 17 4]),.ret])
def Qzd:List (ARv × Md):=[(.l 2 4 true,.b [.d,.d,.d,.p 3])]
theorem QGM (a:TOp') (h :
 ((p_to (α:=List Int) a.2.2.2)∧K (Qhv (a.1,a.2.1,a.2.2.1,(List.take ((id (α:=List Int) a.2.2.2).length) (id (α:=List Int) a.2.2.2)))))):Hold (tawp Qlo (0+0) QFl (TQ 0 0 Qzd K) (Qd [(.a (Tup.cells ctOp a))])) :=
 Hold.of (by kernel_rfl) h
theorem QCh (a:TOp') (hp:p_to (α:=TOp') a):TCon Tryz.prog 162 [(.a (Tup.cells ctOp a))] (Qhv (id (α:=TOp') a)):=by
 refine Qh rfl fun hb=>tcg (Γ:=Qlo) (n:=18) (sg:=QhC.sg) Qi (TOkL.cons Qf4 TOkL.nil) (by kernel_rfl) (by kernel_rfl) (QGM _ a ?_)
 repeat' (first | refine And.intro ?_ ?_ | exact R_eq (by simp))
 all_goals (simp only [p_to,QZ,QK,Q0,List.drop_zero,List.take_length,id_eq] at hp ⊢;omega)
theorem QHa:Qf Tryz.prog QhC:=Qj fun x h=>QCh x.1 h
def J0 (t:(List TOp')):TRes:=⟨(.r ctOp 0 0 t.length),[(.sl 134 ctOp (.dp 0 true []) t)],[],false,[]⟩
def Qi6:TRow:=Qg 66 [(.c (.sl ctOp))] fun x=>(some (p_to (α:=List TOp') x.1),J0 (id (α:=List TOp') x.1))
def Qf2:TTab:=⟨[QhC],true⟩
def Qrv:TCode :=
 (zsq [(zsq [(.reg [zmv 8 4,zmv 9 0,zle 10 9,zbi 11 .lss 8 10]),(.cond 11 .skip (.exit 0))]),(.block 1 (.reg [zmv 14 3,zmv 15 4,zmv 16 0,zmv 17 4,zia 18 16 17 ctOp,zLd 19 18 4,zca 20 162 [19],zia 21 14 15 ctOp,zst 21 20 4])),(.reg [zmv 12 4,zbi 13 .add 12 (zki 1),zmv 4 13])])
def QsC:List (Nat × Md):=[(0,.one .d),(3,.one .f),(4,.one .d)]
def Qsq:TCode :=
 (zsq [(.reg [zmv 22 3,zmv 2 22]),.ret])
def QB4:TCode :=
 (zsq [(.reg [zmv 2 (.k (.n ctOp))]),(.reg [zmv 5 0,zle 6 5,zop 7 (.mk 134 ctOp (z0s ctOp) 6),zmv 3 7]),(zsq [(.reg [zmv 4 (zki 0)]),(.block 0 (.loop QsC Qrv))]),Qsq])
def Qs4:List (ARv × Md):=[(.t 2,.one (.p 134))]
def QoP:Qb:=TQ 0 0 Qs4 K
def QD2:Qb:=Qseq (tawp Qf2 0 Qsq (QoP K)) (QoP K)
def Qy6:Qb:=Qblk 0 (QD2 K)
def Qel (a:List TOp') (i:Int) (out:List TOp'):Prop:=Loop Qf2 0 QsC Qrv (Qy6 K) ⟨[(0,(zcs ctOp a)),(3,(.r ctOp 0 0 out.length)),(4,(zci i))],[(0,(.sl 134 ctOp (.dp 0 true []) out))],1⟩
theorem QrT (a:List TOp') (i:Int) (out:List TOp') (h :
 (zif (decide (i<(a.length:Int))) ((((0:Int)≤i∧Int.toNat i<a.length)∧((p_to (α:=TOp') (gtd dOp a (Int.toNat i)))∧(((0:Int)≤i∧Int.toNat i<out.length)∧((0+(Int.toNat i))<out.length))))∧(Qel K a (w64 (i+(1:Int))) (List.take out.length ((out).set (0+(Int.toNat i)) ((id (α:=TOp') (gtd dOp a (Int.toNat i))).1,(id (α:=TOp') (gtd dOp a (Int.toNat i))).2.1,(id (α:=TOp') (gtd dOp a (Int.toNat i))).2.2.1,(List.take (((id (α:=TOp') (gtd dOp a (Int.toNat i))).2.2.2).length) (List.drop 0 ((id (α:=TOp') (gtd dOp a (Int.toNat i))).2.2.2)))))))) (K (J0 (List.take out.length out))))):Qel K a i out :=
 Loop.of (by kernel_rfl) h
theorem QzM (a:List TOp') (h :
 (((0:Int)≤(a.length:Int)∧(a.length:Int)≤big)∧(Qel K a 0 (List.take (Int.toNat (a.length:Int)) (List.replicate (Int.toNat (a.length:Int)) ((0:Int),(0:Int),(0:Int),[])))))):Hold (tawp Qf2 (0+0) QB4 (TQ 0 0 Qs4 K) (Qd [(.c (.sl ctOp) a)])) :=
 Hold.of (by kernel_rfl) h
theorem QHk (a:List TOp') (hp:p_to (α:=List TOp') a):TCon Tryz.prog 66 [(.c (.sl ctOp) a)] (J0 (id (α:=List TOp') a)):=by
 refine Qh rfl fun hb=>tcg (Γ:=Qf2) (n:=23) (sg:=Qi6.sg) Qi (TOkL.cons QHa TOkL.nil) (by kernel_rfl) (by kernel_rfl) (QzM _ a ?_)
 refine ⟨⟨by omega,by rw [bigI];have:=YT hp;omega⟩,?_⟩
 refine Qdq a (A:=fun ii ll=>Qel (fun r'=>r'=J0 (id (α:=List TOp') a)) a ii ll) (Q:=fun z=>J0 z=J0 (id (α:=List TOp') a)) hp ?_ ?_ rfl
 ·intro k x out hlt hg ho hx hA
  have hw:w64 (((k:Nat):Int)+1)=((k+1:Nat):Int):=by have:=YT hp;rw [Qx (by omega) (by omega)];omega
  have hlo:k<out.length:=by omega
  refine QrT (fun r'=>r'=J0 (id (α:=List TOp') a)) a ((k:Nat):Int) out ?_
  refine ⟨fun _=>?_,fun h=>absurd h (by simp;omega)⟩
  simp only [Int.toNat_natCast,Nat.zero_add,hg,hw,hlt,hlo,Qc9,List.drop_zero,List.take_length,id_eq,and_true,true_and,Int.natCast_nonneg]
  first | exact hA | exact ⟨hx,hA⟩
 ·intro out ho hq
  refine QrT (fun r'=>r'=J0 (id (α:=List TOp') a)) a ((a.length:Nat):Int) out ?_
  refine ⟨fun h=>absurd h (by simp),fun _=>?_⟩
  simp only [List.drop_zero,List.take_length]
  exact hq
theorem Qxl:Qf Tryz.prog Qi6:=Qj fun x h=>QHk x.1 h
def Qak (t:Bool):TRes:=zre (zcb t)
def QjZ:TRow:=Qg 172 [(.a ctOp),(.a ctOp)] fun x=>(none,Qak (m_eq (α:=TOp') x.1 x.2.1))
def Qq3:TTab:=⟨[Qb0],false⟩
def QyH:TCode :=
 (zsq [(.reg [zop 2 (.box 134 0 4),zop 3 (.box 134 1 4),zmv 4 (zkb false)]),(zsq [(.reg [zfa 5 2 0,zld 6 5 1,zfa 7 3 0,zld 8 7 1,zbi 9 .neq 6 8]),(.cond 9 (zsq [(.reg [zmv 4 (zkb false)]),.ret]) .skip)]),(zsq [(.reg [zfa 10 2 1,zld 11 10 1,zfa 12 3 1,zld 13 12 1,zbi 14 .neq 11 13]),(.cond 14 (zsq [(.reg [zmv 4 (zkb false)]),.ret]) .skip)]),(zsq [(.reg [zfa 15 2 2,zld 16 15 1,zfa 17 3 2,zld 18 17 1,zbi 19 .neq 16 18]),(.cond 19 (zsq [(.reg [zmv 4 (zkb false)]),.ret]) .skip)]),(zsq [(.reg [zfa 20 2 3,zld 21 20 1,zfa 22 3 3,zld 23 22 1,zca 24 23 [21,23],zno 25 24]),(.cond 25 (zsq [(.reg [zmv 4 (zkb false)]),.ret]) .skip)]),(.reg [zmv 4 (zkb true)]),.ret])
def Qxp:List (ARv × Md):=[(.t 4,.one .d)]
theorem QJd (a:TOp') (b:TOp') (h :
 (zif (a.1 != b.1) (K (Qak false)) (zif (a.2.1 != b.2.1) (K (Qak false)) (zif (a.2.2.1 != b.2.2.1) (K (Qak false)) (zif (!(m_eq (α:=List Int) a.2.2.2 b.2.2.2)) (K (Qak false)) (K (Qak true))))))):Hold (tawp Qq3 (0+0) QyH (TQ 0 0 Qxp K) (Qd [(.a (Tup.cells ctOp a)),(.a (Tup.cells ctOp b))])) :=
 Hold.of (by kernel_rfl) h
theorem QJt (a:TOp') (b:TOp'):TCon Tryz.prog 172 [(.a (Tup.cells ctOp a)),(.a (Tup.cells ctOp b))] (Qak (m_eq (α:=TOp') a b)):=by
 refine Qh rfl fun hb=>tcg (Γ:=Qq3) (n:=26) (sg:=QjZ.sg) Qi (TOkL.cons QfO TOkL.nil) (by kernel_rfl) (by kernel_rfl) (QJd _ a b ?_)
 refine ⟨fun h=>R_eq (Eq.symm (decide_eq_false (by rintro rfl;simp [m_eq] at h))),fun h0=>?_⟩
 refine ⟨fun h=>R_eq (Eq.symm (decide_eq_false (by rintro rfl;simp [m_eq] at h))),fun h1=>?_⟩
 refine ⟨fun h=>R_eq (Eq.symm (decide_eq_false (by rintro rfl;simp [m_eq] at h))),fun h2=>?_⟩
 refine ⟨fun h=>R_eq (Eq.symm (decide_eq_false (by rintro rfl;simp [m_eq] at h))),fun h3=>?_⟩
 refine R_eq (Eq.symm (decide_eq_true ?_))
 simp [m_eq] at h0 h1 h2 h3
 simp [Prod.ext_iff, *]
theorem QKs:Qf Tryz.prog QjZ:=Qj fun x _=>QJt x.1 x.2.1
def Qbb (t:Bool):TRes:=zre (zcb t)
def QkD:TRow:=Qg 76 [(.c (.sl ctOp)),(.c (.sl ctOp))] fun x=>(none,Qbb (m_eq (α:=List TOp') x.1 x.2.1))
def QeE:TTab:=⟨[QjZ],false⟩
def Qve:TCode :=
 (zsq [(zsq [(.reg [zmv 11 5,zmv 12 0,zle 13 12,zbi 14 .lss 11 13]),(.cond 14 .skip (.exit 0))]),(.block 1 (zsq [(.draw [zmv 17 0,zmv 18 5,zia 19 17 18 ctOp,zLd 20 19 4,zmv 21 1,zmv 22 5,zia 23 21 22 ctOp,zLd 24 23 4,zca 25 172 [20,24],zno 26 25] []),(.cond 26 (zsq [(.reg [zmv 4 (zkb false)]),.ret]) .skip)])),(.reg [zmv 15 5,zbi 16 .add 15 (zki 1),zmv 5 16])])
def Qrm:List (Nat × Md):=zdl [0,1,5]
def Qqv:TCode :=
 (zsq [(.reg [zmv 4 (zkb true)]),.ret])
def QDa:TCode :=
 (zsq [(.reg [zmv 4 (zkb false)]),(zsq [(.reg [zmv 6 0,zle 7 6,zmv 8 1,zle 9 8,zbi 10 .neq 7 9]),(.cond 10 (zsq [(.reg [zmv 4 (zkb false)]),.ret]) .skip)]),(zsq [(.reg [zmv 5 (zki 0)]),(.block 0 (.loop Qrm Qve))]),Qqv])
def Qtz:List (ARv × Md):=[(.t 4,.one .d)]
def Qnk:Qb:=TQ 0 0 Qtz K
def QJm:Qb:=Qseq (tawp QeE 0 Qqv (Qnk K)) (Qnk K)
def QJT:Qb:=Qblk 0 (QJm K)
def Qkj (a:List TOp') (b:List TOp') (i:Int):Prop:=Loop QeE 0 Qrm Qve (QJT K) ⟨[(0,(zcs ctOp a)),(1,(zcs ctOp b)),(5,(zci i))],[],0⟩
theorem QEM (a:List TOp') (b:List TOp') (i:Int) (h :
 (zif (decide (i<(a.length:Int))) ((((0:Int)≤i∧Int.toNat i<a.length)∧((0:Int)≤i∧Int.toNat i<b.length))∧(zif (!(m_eq (α:=TOp') (gtd dOp a (Int.toNat i)) (gtd dOp b (Int.toNat i)))) (K (Qbb false)) (Qkj K a b (w64 (i+(1:Int)))))) (K (Qbb true)))):Qkj K a b i :=
 Loop.of (by kernel_rfl) h
theorem QKk (a:List TOp') (b:List TOp') (h :
 (zif ((a.length:Int) != (b.length:Int)) (K (Qbb false)) (Qkj K a b 0))):Hold (tawp QeE (0+0) QDa (TQ 0 0 Qtz K) (Qd [(.c (.sl ctOp) a),(.c (.sl ctOp) b)])) :=
 Hold.of (by kernel_rfl) h
theorem QAt (a:List TOp') (b:List TOp'):TCon Tryz.prog 76 [(.c (.sl ctOp) a),(.c (.sl ctOp) b)] (Qbb (m_eq (α:=List TOp') a b)):=by
 refine Qh rfl fun hb=>tcg (Γ:=QeE) (n:=27) (sg:=QkD.sg) Qi (TOkL.cons QKs TOkL.nil) (by kernel_rfl) (by kernel_rfl) (QKk _ a b ?_)
 exact Qcg dOp (E:=m_eq) (fun _ _=>rfl) hb.1.1 (fun i h=>QEM _ a b i h) (Q:=fun x=>Qbb x=Qbb (m_eq (α:=List TOp') a b)) rfl
theorem QFP:Qf Tryz.prog QkD:=Qj fun x _=>QAt x.1 x.2.1
end
end Go.Proofs.YtdplaepmjogjjaaGreat.Am

