/- -/
import Derived.Test.YtdplaepmjogjjaaGreatVCH1
import Derived.Test.YtdplaepmjogjjaaGreatVCGF
namespace Go.Proofs.YtdplaepmjogjjaaGreat.Am
open Go Go.RowKit Go.Proofs.YtdplaepmjogjjaaGreat
set_option linter.all false
noncomputable section
variable (K:TRes→Prop)
def QeI (t:Int):TRes:=zre (zci t)
def Qjm:TRow:=Qg 152 [(.a ctOp),(.c TI)] fun x=>(some (p_sz (α:=TOp') x.1 x.2.1),QeI (m_sz (α:=TOp') x.1 x.2.1))
def QlH:TTab:=⟨[QbS],false⟩
def Qyb:TCode :=
 (zsq [(.reg [zop 2 (.box 184 0 4),zmv 4 (zki 0)]),(.reg [zfa 5 2 3,zld 6 5 1,zmv 7 1,zca 8 59 [6,7],zmv 1 8]),(zsq [(.reg [zmv 9 1,zbi 10 .lss 9 (zki 0)]),(.cond 10 (zsq [(.reg [zmv 4 (zki (-1))]),.ret]) .skip)]),(.reg [zmv 11 1,zmv 4 11]),.ret])
def Qyk:List (ARv × Md):=[(.t 4,.one .d)]
theorem Qup (a:TOp') (left:Int) (h :
 ((p_sz (α:=List Int) a.2.2.2 left)∧(zif (decide ((m_sz (α:=List Int) a.2.2.2 left)<(0:Int))) (K (QeI (-1:Int))) (K (QeI (m_sz (α:=List Int) a.2.2.2 left)))))):Hold (tawp QlH (0+0) Qyb (TQ 0 0 Qyk K) (Qd [(.a (Tup.cells ctOp a)),(.c TI left)])) :=
 Hold.of (by kernel_rfl) h
theorem QHd (a:TOp') (left:Int) (hp:p_sz (α:=TOp') a left):TCon Tryz.prog 152 [(.a (Tup.cells ctOp a)),(.c TI left)] (QeI (m_sz (α:=TOp') a left)):=by
 refine Qi rfl fun hb=>tcg (Γ:=QlH) (n:=12) (sg:=Qjm.sg) Qj (TOkL.cons QjX TOkL.nil) (by kernel_rfl) (by kernel_rfl) (Qup _ a left ?_)
 refine ⟨hp,fun h=>R_eq (Yd (of_decide_eq_true h) (by first | omega | (simp only [QX,QV,Q5];omega)) hp.1),fun h=>?_⟩
 exact R_eq (congrArg (ZO · _) (by first | rfl | omega | (simp only [QX,QV,Q5];omega)))
theorem QwP:Qe Tryz.prog Qjm:=Qk fun x h=>QHd x.1 x.2.1 h
def J4 (t:Int):TRes:=zre (zci t)
def QhN:TRow:=Qg 56 [(.c (.sl ctOp)),(.c TI)] fun x=>(some (p_sz (α:=List TOp') x.1 x.2.1),J4 (m_sz (α:=List TOp') x.1 x.2.1))
def QeX:TTab:=⟨[Qjm],false⟩
def QpJ:TCode :=
 (zsq [(zsq [(.reg [zmv 12 5,zmv 13 0,zle 14 13,zbi 15 .lss 12 14]),(.cond 15 .skip (.exit 0))]),(.block 1 (zsq [(.reg [zmv 18 0,zmv 19 5,zia 20 18 19 ctOp,zLd 21 20 4,zmv 22 1,zca 23 152 [21,22],zmv 1 23]),(.reg [zmv 24 1,zbi 25 .lss 24 (zki 0)]),(.cond 25 (zsq [(.reg [zmv 4 (zki (-1))]),.ret]) .skip)])),(.reg [zmv 16 5,zbi 17 .add 16 (zki 1),zmv 5 17])])
def Qt4:List (Nat × Md):=zdl [0,1,5]
def Qkm:TCode :=
 (zsq [(.reg [zmv 26 1,zmv 4 26]),.ret])
def QBg:TCode :=
 (zsq [(.reg [zmv 4 (zki 0)]),(.reg [zmv 6 1,zmv 7 0,zle 8 7,zbi 9 .sub 6 8,zmv 1 9]),(zsq [(.reg [zmv 10 1,zbi 11 .lss 10 (zki 0)]),(.cond 11 (zsq [(.reg [zmv 4 (zki (-1))]),.ret]) .skip)]),(zsq [(.reg [zmv 5 (zki 0)]),(.block 0 (.loop Qt4 QpJ))]),Qkm])
def QnU:List (ARv × Md):=[(.t 4,.one .d)]
def QsU:Qb:=TQ 0 0 QnU K
def QAZ:Qb:=Qseq (tawp QeX 0 Qkm (QsU K)) (QsU K)
def QzL:Qb:=Qblk 0 (QAZ K)
def QiL (a:List TOp') (left1:Int) (i:Int):Prop:=Loop QeX 0 Qt4 QpJ (QzL K) ⟨[(0,(zcs ctOp a)),(1,(zci left1)),(5,(zci i))],[],0⟩
theorem Qu5 (a:List TOp') (left1:Int) (i:Int) (h :
 (zif (decide (i<(a.length:Int))) ((((0:Int)≤i∧Int.toNat i<a.length)∧(p_sz (α:=TOp') (gtd dOp a (Int.toNat i)) left1))∧(zif (decide ((m_sz (α:=TOp') (gtd dOp a (Int.toNat i)) left1)<(0:Int))) (K (J4 (-1:Int))) (QiL K a (m_sz (α:=TOp') (gtd dOp a (Int.toNat i)) left1) (w64 (i+(1:Int)))))) (K (J4 left1)))):QiL K a left1 i :=
 Loop.of (by kernel_rfl) h
theorem QCV (a:List TOp') (left:Int) (h :
 (zif (decide ((w64 (left-(a.length:Int)))<(0:Int))) (K (J4 (-1:Int))) (QiL K a (w64 (left-(a.length:Int))) 0))):Hold (tawp QeX (0+0) QBg (TQ 0 0 QnU K) (Qd [(.c (.sl ctOp) a),(.c TI left)])) :=
 Hold.of (by kernel_rfl) h
theorem QG5 (a:List TOp') (left:Int) (hp:p_sz (α:=List TOp') a left):TCon Tryz.prog 56 [(.c (.sl ctOp) a),(.c TI left)] (J4 (m_sz (α:=List TOp') a left)):=by
 refine Qi rfl fun hb=>tcg (Γ:=QeX) (n:=27) (sg:=QhN.sg) Qj (TOkL.cons QwP TOkL.nil) (by kernel_rfl) (by kernel_rfl) (QCV _ a left ?_)
 exact QhK (Q:=fun x=>J4 x=J4 (m_sz (α:=List TOp') a left)) dOp hp hb.1.1 (fun l i h=>Qu5 _ a l i h) rfl
theorem QDH:Qe Tryz.prog QhN:=Qk fun x h=>QG5 x.1 x.2.1 h
def Qi3 (t:TOp'):TRes:=⟨(.a [(zci t.1),(zci t.2.1),(zci t.2.2.1),(.r [TI] 0 0 ((t.2.2.2).length))]),[(.sl 3 [TI] (.dp 0 true []) t.2.2.2)],[],false,[]⟩
def QhJ:TRow:=Qg 162 [(.a ctOp)] fun x=>(some (p_to (α:=TOp') x.1),Qi3 (id (α:=TOp') x.1))
def Qtk:TTab:=⟨[QbA],true⟩
def QDe:TCode :=
 (zsq [(.reg [zop 1 (.box 184 0 4),zop 2 (.new 134 (z0s ctOp))]),(.reg [zop 3 (.new 134 (z0s ctOp))]),(.reg [zfa 4 1 0,zld 5 4 1,zfa 6 3 0,zst 6 5 1]),(.reg [zfa 7 1 1,zld 8 7 1,zfa 9 3 1,zst 9 8 1]),(.reg [zfa 10 1 2,zld 11 10 1,zfa 12 3 2,zst 12 11 1]),(.reg [zfa 13 1 3,zld 14 13 1,zca 15 29 [14],zfa 16 3 3,zst 16 15 1]),(.reg [zLd 17 3 4,zst 2 17 4]),.ret])
def QAH:List (ARv × Md):=[(.l 2 4 true,.b [.d,.d,.d,.p 3])]
theorem Qxd (a:TOp') (h :
 ((p_to (α:=List Int) a.2.2.2)∧K (Qi3 (a.1,a.2.1,a.2.2.1,(List.take ((id (α:=List Int) a.2.2.2).length) (id (α:=List Int) a.2.2.2)))))):Hold (tawp Qtk (0+0) QDe (TQ 0 0 QAH K) (Qd [(.a (Tup.cells ctOp a))])) :=
 Hold.of (by kernel_rfl) h
theorem QuG (a:TOp') (hp:p_to (α:=TOp') a):TCon Tryz.prog 162 [(.a (Tup.cells ctOp a))] (Qi3 (id (α:=TOp') a)):=by
 refine Qi rfl fun hb=>tcg (Γ:=Qtk) (n:=18) (sg:=QhJ.sg) Qj (TOkL.cons Qe7 TOkL.nil) (by kernel_rfl) (by kernel_rfl) (Qxd _ a ?_)
 repeat' (first | refine And.intro ?_ ?_ | exact R_eq (by simp))
 all_goals (simp only [p_to,QX,QV,Q5,List.drop_zero,List.take_length,id_eq] at hp ⊢;omega)
theorem QDK:Qe Tryz.prog QhJ:=Qk fun x h=>QuG x.1 h
def JW (t:(List TOp')):TRes:=⟨(.r ctOp 0 0 t.length),[(.sl 134 ctOp (.dp 0 true []) t)],[],false,[]⟩
def Qf9:TRow:=Qg 66 [(.c (.sl ctOp))] fun x=>(some (p_to (α:=List TOp') x.1),JW (id (α:=List TOp') x.1))
def QeV:TTab:=⟨[QhJ],true⟩
def Qqd:TCode :=
 (zsq [(zsq [(.reg [zmv 8 4,zmv 9 0,zle 10 9,zbi 11 .lss 8 10]),(.cond 11 .skip (.exit 0))]),(.block 1 (.reg [zmv 14 3,zmv 15 4,zmv 16 0,zmv 17 4,zia 18 16 17 ctOp,zLd 19 18 4,zca 20 162 [19],zia 21 14 15 ctOp,zst 21 20 4])),(.reg [zmv 12 4,zbi 13 .add 12 (zki 1),zmv 4 13])])
def Qo5:List (Nat × Md):=[(0,.one .d),(3,.one .f),(4,.one .d)]
def QsW:TCode :=
 (zsq [(.reg [zmv 22 3,zmv 2 22]),.ret])
def QBt:TCode :=
 (zsq [(.reg [zmv 2 (.k (.n ctOp))]),(.reg [zmv 5 0,zle 6 5,zop 7 (.mk 134 ctOp (z0s ctOp) 6),zmv 3 7]),(zsq [(.reg [zmv 4 (zki 0)]),(.block 0 (.loop Qo5 Qqd))]),QsW])
def QpF:List (ARv × Md):=[(.t 2,.one (.p 134))]
def Qre:Qb:=TQ 0 0 QpF K
def QFd:Qb:=Qseq (tawp QeV 0 QsW (Qre K)) (Qre K)
def QAh:Qb:=Qblk 0 (QFd K)
def Qd7 (a:List TOp') (i:Int) (out:List TOp'):Prop:=Loop QeV 0 Qo5 Qqd (QAh K) ⟨[(0,(zcs ctOp a)),(3,(.r ctOp 0 0 out.length)),(4,(zci i))],[(0,(.sl 134 ctOp (.dp 0 true []) out))],1⟩
theorem QoG (a:List TOp') (i:Int) (out:List TOp') (h :
 (zif (decide (i<(a.length:Int))) ((((0:Int)≤i∧Int.toNat i<a.length)∧((p_to (α:=TOp') (gtd dOp a (Int.toNat i)))∧(((0:Int)≤i∧Int.toNat i<out.length)∧((0+(Int.toNat i))<out.length))))∧(Qd7 K a (w64 (i+(1:Int))) (List.take out.length ((out).set (0+(Int.toNat i)) ((id (α:=TOp') (gtd dOp a (Int.toNat i))).1,(id (α:=TOp') (gtd dOp a (Int.toNat i))).2.1,(id (α:=TOp') (gtd dOp a (Int.toNat i))).2.2.1,(List.take (((id (α:=TOp') (gtd dOp a (Int.toNat i))).2.2.2).length) (List.drop 0 ((id (α:=TOp') (gtd dOp a (Int.toNat i))).2.2.2)))))))) (K (JW (List.take out.length out))))):Qd7 K a i out :=
 Loop.of (by kernel_rfl) h
theorem QCq (a:List TOp') (h :
 (((0:Int)≤(a.length:Int)∧(a.length:Int)≤big)∧(Qd7 K a 0 (List.take (Int.toNat (a.length:Int)) (List.replicate (Int.toNat (a.length:Int)) ((0:Int),(0:Int),(0:Int),[])))))):Hold (tawp QeV (0+0) QBt (TQ 0 0 QpF K) (Qd [(.c (.sl ctOp) a)])) :=
 Hold.of (by kernel_rfl) h
theorem Qwd (a:List TOp') (hp:p_to (α:=List TOp') a):TCon Tryz.prog 66 [(.c (.sl ctOp) a)] (JW (id (α:=List TOp') a)):=by
 refine Qi rfl fun hb=>tcg (Γ:=QeV) (n:=23) (sg:=Qf9.sg) Qj (TOkL.cons QDK TOkL.nil) (by kernel_rfl) (by kernel_rfl) (QCq _ a ?_)
 refine ⟨⟨by omega,by rw [bigI];have:=YF hp;omega⟩,?_⟩
 refine QbW a (A:=fun ii ll=>Qd7 (fun r'=>r'=JW (id (α:=List TOp') a)) a ii ll) (Q:=fun z=>JW z=JW (id (α:=List TOp') a)) hp ?_ ?_ rfl
 ·intro k x out hlt hg ho hx hA
  have hw:w64 (((k:Nat):Int)+1)=((k+1:Nat):Int):=by have:=YF hp;rw [Qv (by omega) (by omega)];omega
  have hlo:k<out.length:=by omega
  refine QoG (fun r'=>r'=JW (id (α:=List TOp') a)) a ((k:Nat):Int) out ?_
  refine ⟨fun _=>?_,fun h=>absurd h (by simp;omega)⟩
  simp only [Int.toNat_natCast,Nat.zero_add,hg,hw,hlt,hlo,QcS,List.drop_zero,List.take_length,id_eq,and_true,true_and,Int.natCast_nonneg]
  first | exact hA | exact ⟨hx,hA⟩
 ·intro out ho hq
  refine QoG (fun r'=>r'=JW (id (α:=List TOp') a)) a ((a.length:Nat):Int) out ?_
  refine ⟨fun h=>absurd h (by simp),fun _=>?_⟩
  simp only [List.drop_zero,List.take_length]
  exact hq
theorem QCo:Qe Tryz.prog Qf9:=Qk fun x h=>Qwd x.1 h
def QaW (t:Bool):TRes:=zre (zcb t)
def Qh3:TRow:=Qg 172 [(.a ctOp),(.a ctOp)] fun x=>(none,QaW (m_eq (α:=TOp') x.1 x.2.1))
def Qsn:TTab:=⟨[QbF],false⟩
def Quq:TCode :=
 (zsq [(.reg [zop 2 (.box 134 0 4),zop 3 (.box 134 1 4),zmv 4 (zkb false)]),(zsq [(.reg [zfa 5 2 0,zld 6 5 1,zfa 7 3 0,zld 8 7 1,zbi 9 .neq 6 8]),(.cond 9 (zsq [(.reg [zmv 4 (zkb false)]),.ret]) .skip)]),(zsq [(.reg [zfa 10 2 1,zld 11 10 1,zfa 12 3 1,zld 13 12 1,zbi 14 .neq 11 13]),(.cond 14 (zsq [(.reg [zmv 4 (zkb false)]),.ret]) .skip)]),(zsq [(.reg [zfa 15 2 2,zld 16 15 1,zfa 17 3 2,zld 18 17 1,zbi 19 .neq 16 18]),(.cond 19 (zsq [(.reg [zmv 4 (zkb false)]),.ret]) .skip)]),(zsq [(.reg [zfa 20 2 3,zld 21 20 1,zfa 22 3 3,zld 23 22 1,zca 24 23 [21,23],zno 25 24]),(.cond 25 (zsq [(.reg [zmv 4 (zkb false)]),.ret]) .skip)]),(.reg [zmv 4 (zkb true)]),.ret])
def QF3:List (ARv × Md):=[(.t 4,.one .d)]
theorem QD7 (a:TOp') (b:TOp') (h :
 (zif (a.1 != b.1) (K (QaW false)) (zif (a.2.1 != b.2.1) (K (QaW false)) (zif (a.2.2.1 != b.2.2.1) (K (QaW false)) (zif (!(m_eq (α:=List Int) a.2.2.2 b.2.2.2)) (K (QaW false)) (K (QaW true))))))):Hold (tawp Qsn (0+0) Quq (TQ 0 0 QF3 K) (Qd [(.a (Tup.cells ctOp a)),(.a (Tup.cells ctOp b))])) :=
 Hold.of (by kernel_rfl) h
theorem Quw (a:TOp') (b:TOp'):TCon Tryz.prog 172 [(.a (Tup.cells ctOp a)),(.a (Tup.cells ctOp b))] (QaW (m_eq (α:=TOp') a b)):=by
 refine Qi rfl fun hb=>tcg (Γ:=Qsn) (n:=26) (sg:=Qh3.sg) Qj (TOkL.cons Qer TOkL.nil) (by kernel_rfl) (by kernel_rfl) (QD7 _ a b ?_)
 refine ⟨fun h=>R_eq (Eq.symm (decide_eq_false (by rintro rfl;simp [m_eq] at h))),fun h0=>?_⟩
 refine ⟨fun h=>R_eq (Eq.symm (decide_eq_false (by rintro rfl;simp [m_eq] at h))),fun h1=>?_⟩
 refine ⟨fun h=>R_eq (Eq.symm (decide_eq_false (by rintro rfl;simp [m_eq] at h))),fun h2=>?_⟩
 refine ⟨fun h=>R_eq (Eq.symm (decide_eq_false (by rintro rfl;simp [m_eq] at h))),fun h3=>?_⟩
 refine R_eq (Eq.symm (decide_eq_true ?_))
 simp [m_eq] at h0 h1 h2 h3
 simp [Prod.ext_iff, *]
theorem QB9:Qe Tryz.prog Qh3:=Qk fun x _=>Quw x.1 x.2.1
def Qaa (t:Bool):TRes:=zre (zcb t)
def Qj9:TRow:=Qg 76 [(.c (.sl ctOp)),(.c (.sl ctOp))] fun x=>(none,Qaa (m_eq (α:=List TOp') x.1 x.2.1))
def QdZ:TTab:=⟨[Qh3],false⟩
def Qqh:TCode :=
 (zsq [(zsq [(.reg [zmv 11 5,zmv 12 0,zle 13 12,zbi 14 .lss 11 13]),(.cond 14 .skip (.exit 0))]),(.block 1 (zsq [(.draw [zmv 17 0,zmv 18 5,zia 19 17 18 ctOp,zLd 20 19 4,zmv 21 1,zmv 22 5,zia 23 21 22 ctOp,zLd 24 23 4,zca 25 172 [20,24],zno 26 25] []),(.cond 26 (zsq [(.reg [zmv 4 (zkb false)]),.ret]) .skip)])),(.reg [zmv 15 5,zbi 16 .add 15 (zki 1),zmv 5 16])])
def QkM:List (Nat × Md):=zdl [0,1,5]
def Qsm:TCode :=
 (zsq [(.reg [zmv 4 (zkb true)]),.ret])
def Qyf:TCode :=
 (zsq [(.reg [zmv 4 (zkb false)]),(zsq [(.reg [zmv 6 0,zle 7 6,zmv 8 1,zle 9 8,zbi 10 .neq 7 9]),(.cond 10 (zsq [(.reg [zmv 4 (zkb false)]),.ret]) .skip)]),(zsq [(.reg [zmv 5 (zki 0)]),(.block 0 (.loop QkM Qqh))]),Qsm])
def QnS:List (ARv × Md):=[(.t 4,.one .d)]
def Qrj:Qb:=TQ 0 0 QnS K
def QHa:Qb:=Qseq (tawp QdZ 0 Qsm (Qrj K)) (Qrj K)
def Qyt:Qb:=Qblk 0 (QHa K)
def Qid (a:List TOp') (b:List TOp') (i:Int):Prop:=Loop QdZ 0 QkM Qqh (Qyt K) ⟨[(0,(zcs ctOp a)),(1,(zcs ctOp b)),(5,(zci i))],[],0⟩
theorem QAK (a:List TOp') (b:List TOp') (i:Int) (h :
 (zif (decide (i<(a.length:Int))) ((((0:Int)≤i∧Int.toNat i<a.length)∧((0:Int)≤i∧Int.toNat i<b.length))∧(zif (!(m_eq (α:=TOp') (gtd dOp a (Int.toNat i)) (gtd dOp b (Int.toNat i)))) (K (Qaa false)) (Qid K a b (w64 (i+(1:Int)))))) (K (Qaa true)))):Qid K a b i :=
 Loop.of (by kernel_rfl) h
theorem Qwh (a:List TOp') (b:List TOp') (h :
 (zif ((a.length:Int) != (b.length:Int)) (K (Qaa false)) (Qid K a b 0))):Hold (tawp QdZ (0+0) Qyf (TQ 0 0 QnS K) (Qd [(.c (.sl ctOp) a),(.c (.sl ctOp) b)])) :=
 Hold.of (by kernel_rfl) h
theorem QvY (a:List TOp') (b:List TOp'):TCon Tryz.prog 76 [(.c (.sl ctOp) a),(.c (.sl ctOp) b)] (Qaa (m_eq (α:=List TOp') a b)):=by
 refine Qi rfl fun hb=>tcg (Γ:=QdZ) (n:=27) (sg:=Qj9.sg) Qj (TOkL.cons QB9 TOkL.nil) (by kernel_rfl) (by kernel_rfl) (Qwh _ a b ?_)
 exact QcP dOp (E:=m_eq) (fun _ _=>rfl) hb.1.1 (fun i h=>QAK _ a b i h) (Q:=fun x=>Qaa x=Qaa (m_eq (α:=List TOp') a b)) rfl
theorem Qxg:Qe Tryz.prog Qj9:=Qk fun x _=>QvY x.1 x.2.1
end
end Go.Proofs.YtdplaepmjogjjaaGreat.Am

