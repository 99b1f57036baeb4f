/- -/
import Derived.Test.YtephkbajoofeoaaWEH1
import Derived.Test.YtephkbajoofeoaaWEGF
namespace Go.Proofs.Ytephkbajoofeoaa.Am
open Go Go.RowKit Go.Proofs.Ytephkbajoofeoaa
set_option linter.all false
noncomputable section
variable (K:TRes→Prop)
def Qbg (t:Int):TRes:=zre (zci t)
def Qda:TRow:=Ql 151 [(.a ctOp),(.c TI)] fun x=>(some (p_sz (α:=TOp') x.1 x.2.1),Qbg (m_sz (α:=TOp') x.1 x.2.1))
def QfG:TTab:=⟨[Qfn],false⟩
def Qs3:TCode :=
 (zsq [(.reg [zop 2 (.box 186 0 4),zmv 4 (zki 0)]),(.reg [zfa 5 2 3,zld 6 5 1,zmv 7 1,zca 8 124 [6,7],zmv 1 8]),(zsq [(.reg [zmv 9 1,zbi 10 .lss 9 (zki 0)]),(.cond 10 (zsq [(.reg [zmv 4 (zki (-1))]),.ret]) .skip)]),(.reg [zmv 11 1,zmv 4 11]),.ret])
def Qtt:List (ARv × Md):=[(.t 4,.one .d)]
theorem QpW (a:TOp') (left:Int) (h :
 ((p_sz (α:=List Int) a.2.2.2 left)∧(zif (decide ((m_sz (α:=List Int) a.2.2.2 left)<(0:Int))) (K (Qbg (-1:Int))) (K (Qbg (m_sz (α:=List Int) a.2.2.2 left)))))):Hold (tawp QfG (0+0) Qs3 (TQ 0 0 Qtt K) (Qh [(.a (Tup.cells ctOp a)),(.c TI left)])) :=
 Hold.of (by kernel_rfl) h
theorem Qs9 (a:TOp') (left:Int) (hp:p_sz (α:=TOp') a left):TCon Try.prog 151 [(.a (Tup.cells ctOp a)),(.c TI left)] (Qbg (m_sz (α:=TOp') a left)):=by
 refine Qn rfl fun hb=>tcg (Γ:=QfG) (n:=12) (sg:=Qda.sg) Qo (TOkL.cons Qr4 TOkL.nil) (by kernel_rfl) (by kernel_rfl) (QpW _ a left ?_)
 refine ⟨hp,fun h=>R_eq (Qro (of_decide_eq_true h) (by first | omega | (simp only [Zk,Zi,YB];omega)) hp.1),fun h=>?_⟩
 exact R_eq (congrArg (Zv · _) (by first | rfl | omega | (simp only [Zk,Zi,YB];omega)))
theorem QmH:Qm Try.prog Qda:=Qp fun x h=>Qs9 x.1 x.2.1 h
def YJ (t:Int):TRes:=zre (zci t)
def Qdl:TRow:=Ql 82 [(.c (.sl ctOp)),(.c TI)] fun x=>(some (p_sz (α:=List TOp') x.1 x.2.1),YJ (m_sz (α:=List TOp') x.1 x.2.1))
def QbR:TTab:=⟨[Qda],false⟩
def Qjx:TCode :=
 (zsq [(zsq [(.reg [zmv 12 5,zmv 13 0,zle 14 13,zbi 15 .lss 12 14]),(.cond 15 .skip (.exit 0))]),(.block 1 (zsq [(.reg [zmv 18 0,zmv 19 5,zia 20 18 19 ctOp,zLd 21 20 4,zmv 22 1,zca 23 151 [21,22],zmv 1 23]),(.reg [zmv 24 1,zbi 25 .lss 24 (zki 0)]),(.cond 25 (zsq [(.reg [zmv 4 (zki (-1))]),.ret]) .skip)])),(.reg [zmv 16 5,zbi 17 .add 16 (zki 1),zmv 5 17])])
def QiZ:List (Nat × Md):=zdl [0,1,5]
def Qig:TCode :=
 (zsq [(.reg [zmv 26 1,zmv 4 26]),.ret])
def QqS:TCode :=
 (zsq [(.reg [zmv 4 (zki 0)]),(.reg [zmv 6 1,zmv 7 0,zle 8 7,zbi 9 .sub 6 8,zmv 1 9]),(zsq [(.reg [zmv 10 1,zbi 11 .lss 10 (zki 0)]),(.cond 11 (zsq [(.reg [zmv 4 (zki (-1))]),.ret]) .skip)]),(zsq [(.reg [zmv 5 (zki 0)]),(.block 0 (.loop QiZ Qjx))]),Qig])
def Qky:List (ARv × Md):=[(.t 4,.one .d)]
def Qjd:Qc:=TQ 0 0 Qky K
def Qmd:Qc:=Qseq (tawp QbR 0 Qig (Qjd K)) (Qjd K)
def QnT:Qc:=Qblk 0 (Qmd K)
def Qel (a:List TOp') (left1:Int) (i:Int):Prop:=Loop QbR 0 QiZ Qjx (QnT K) ⟨[(0,(zcs ctOp a)),(1,(zci left1)),(5,(zci i))],[],0⟩
theorem Qsq (a:List TOp') (left1:Int) (i:Int) (h :
 (zif (decide (i<(a.length:Int))) ((((0:Int)≤i∧Int.toNat i<a.length)∧(p_sz (α:=TOp') (gtd dOp a (Int.toNat i)) left1))∧(zif (decide ((m_sz (α:=TOp') (gtd dOp a (Int.toNat i)) left1)<(0:Int))) (K (YJ (-1:Int))) (Qel K a (m_sz (α:=TOp') (gtd dOp a (Int.toNat i)) left1) (w64 (i+(1:Int)))))) (K (YJ left1)))):Qel K a left1 i :=
 Loop.of (by kernel_rfl) h
theorem Ql2 (a:List TOp') (left:Int) (h :
 (zif (decide ((w64 (left-(a.length:Int)))<(0:Int))) (K (YJ (-1:Int))) (Qel K a (w64 (left-(a.length:Int))) 0))):Hold (tawp QbR (0+0) QqS (TQ 0 0 Qky K) (Qh [(.c (.sl ctOp) a),(.c TI left)])) :=
 Hold.of (by kernel_rfl) h
theorem QsR (a:List TOp') (left:Int) (hp:p_sz (α:=List TOp') a left):TCon Try.prog 82 [(.c (.sl ctOp) a),(.c TI left)] (YJ (m_sz (α:=List TOp') a left)):=by
 refine Qn rfl fun hb=>tcg (Γ:=QbR) (n:=27) (sg:=Qdl.sg) Qo (TOkL.cons QmH TOkL.nil) (by kernel_rfl) (by kernel_rfl) (Ql2 _ a left ?_)
 exact Qoh (Q:=fun x=>YJ x=YJ (m_sz (α:=List TOp') a left)) dOp hp hb.1.1 (fun l i h=>Qsq _ a l i h) rfl
theorem Qnj:Qm Try.prog Qdl:=Qp fun x h=>QsR x.1 x.2.1 h
def Qfc (t:TOp'):TRes:=⟨(.a [(zci t.1),(zci t.2.1),(zci t.2.2.1),(.r [TI] 0 0 ((t.2.2.2).length))]),[(.sl 3 [TI] (.dp 0 true []) t.2.2.2)],[],false,[]⟩
def Qdc:TRow:=Ql 154 [(.a ctOp)] fun x=>(some (p_to (α:=TOp') x.1),Qfc (id (α:=TOp') x.1))
def Qjs:TTab:=⟨[QdI],true⟩
def QpM:TCode :=
 (zsq [(.reg [zop 1 (.box 186 0 4),zop 2 (.new 76 (z0s ctOp))]),(.reg [zop 3 (.new 76 (z0s ctOp))]),(.reg [zfa 4 1 0,zld 5 4 1,zfa 6 3 0,zst 6 5 1]),(.reg [zfa 7 1 1,zld 8 7 1,zfa 9 3 1,zst 9 8 1]),(.reg [zfa 10 1 2,zld 11 10 1,zfa 12 3 2,zst 12 11 1]),(.reg [zfa 13 1 3,zld 14 13 1,zca 15 127 [14],zfa 16 3 3,zst 16 15 1]),(.reg [zLd 17 3 4,zst 2 17 4]),.ret])
def QpE:List (ARv × Md):=[(.l 2 4 true,.b [.d,.d,.d,.p 3])]
theorem Qqj (a:TOp') (h :
 ((p_to (α:=List Int) a.2.2.2)∧K (Qfc (a.1,a.2.1,a.2.2.1,(List.take ((id (α:=List Int) a.2.2.2).length) (id (α:=List Int) a.2.2.2)))))):Hold (tawp Qjs (0+0) QpM (TQ 0 0 QpE K) (Qh [(.a (Tup.cells ctOp a))])) :=
 Hold.of (by kernel_rfl) h
theorem QrW (a:TOp') (hp:p_to (α:=TOp') a):TCon Try.prog 154 [(.a (Tup.cells ctOp a))] (Qfc (id (α:=TOp') a)):=by
 refine Qn rfl fun hb=>tcg (Γ:=Qjs) (n:=18) (sg:=Qdc.sg) Qo (TOkL.cons Qmj TOkL.nil) (by kernel_rfl) (by kernel_rfl) (Qqj _ a ?_)
 repeat' (first | refine And.intro ?_ ?_ | exact R_eq (by simp))
 all_goals (simp only [p_to,Zk,Zi,YB,List.drop_zero,List.take_length,id_eq] at hp ⊢;omega)
theorem Qq5:Qm Try.prog Qdc:=Qp fun x h=>QrW x.1 h
def Ym (t:(List TOp')):TRes:=⟨(.r ctOp 0 0 t.length),[(.sl 76 ctOp (.dp 0 true []) t)],[],false,[]⟩
def Qfm:TRow:=Ql 84 [(.c (.sl ctOp))] fun x=>(some (p_to (α:=List TOp') x.1),Ym (id (α:=List TOp') x.1))
def QcA:TTab:=⟨[Qdc],true⟩
def Qh2:TCode :=
 (zsq [(zsq [(.reg [zmv 8 4,zmv 9 0,zle 10 9,zbi 11 .lss 8 10]),(.cond 11 .skip (.exit 0))]),(.block 1 (.reg [zmv 14 3,zmv 15 4,zmv 16 0,zmv 17 4,zia 18 16 17 ctOp,zLd 19 18 4,zca 20 154 [19],zia 21 14 15 ctOp,zst 21 20 4])),(.reg [zmv 12 4,zbi 13 .add 12 (zki 1),zmv 4 13])])
def Qj3:List (Nat × Md):=[(0,.one .d),(3,.one .f),(4,.one .d)]
def QlW:TCode :=
 (zsq [(.reg [zmv 22 3,zmv 2 22]),.ret])
def QrX:TCode :=
 (zsq [(.reg [zmv 2 (.k (.n ctOp))]),(.reg [zmv 5 0,zle 6 5,zop 7 (.mk 76 ctOp (z0s ctOp) 6),zmv 3 7]),(zsq [(.reg [zmv 4 (zki 0)]),(.block 0 (.loop Qj3 Qh2))]),QlW])
def QlV:List (ARv × Md):=[(.t 2,.one (.p 76))]
def Qjz:Qc:=TQ 0 0 QlV K
def Qna:Qc:=Qseq (tawp QcA 0 QlW (Qjz K)) (Qjz K)
def QpS:Qc:=Qblk 0 (Qna K)
def QbQ (a:List TOp') (i:Int) (out:List TOp'):Prop:=Loop QcA 0 Qj3 Qh2 (QpS K) ⟨[(0,(zcs ctOp a)),(3,(.r ctOp 0 0 out.length)),(4,(zci i))],[(0,(.sl 76 ctOp (.dp 0 true []) out))],1⟩
theorem Qj6 (a:List TOp') (i:Int) (out:List TOp') (h :
 (zif (decide (i<(a.length:Int))) ((((0:Int)≤i∧Int.toNat i<a.length)∧((p_to (α:=TOp') (gtd dOp a (Int.toNat i)))∧(((0:Int)≤i∧Int.toNat i<out.length)∧((0+(Int.toNat i))<out.length))))∧(QbQ K a (w64 (i+(1:Int))) (List.take out.length ((out).set (0+(Int.toNat i)) ((id (α:=TOp') (gtd dOp a (Int.toNat i))).1,(id (α:=TOp') (gtd dOp a (Int.toNat i))).2.1,(id (α:=TOp') (gtd dOp a (Int.toNat i))).2.2.1,(List.take (((id (α:=TOp') (gtd dOp a (Int.toNat i))).2.2.2).length) (List.drop 0 ((id (α:=TOp') (gtd dOp a (Int.toNat i))).2.2.2)))))))) (K (Ym (List.take out.length out))))):QbQ K a i out :=
 Loop.of (by kernel_rfl) h
theorem QrG (a:List TOp') (h :
 (((0:Int)≤(a.length:Int)∧(a.length:Int)≤big)∧(QbQ K a 0 (List.take (Int.toNat (a.length:Int)) (List.replicate (Int.toNat (a.length:Int)) ((0:Int),(0:Int),(0:Int),[])))))):Hold (tawp QcA (0+0) QrX (TQ 0 0 QlV K) (Qh [(.c (.sl ctOp) a)])) :=
 Hold.of (by kernel_rfl) h
theorem Qrj (a:List TOp') (hp:p_to (α:=List TOp') a):TCon Try.prog 84 [(.c (.sl ctOp) a)] (Ym (id (α:=List TOp') a)):=by
 refine Qn rfl fun hb=>tcg (Γ:=QcA) (n:=23) (sg:=Qfm.sg) Qo (TOkL.cons Qq5 TOkL.nil) (by kernel_rfl) (by kernel_rfl) (QrG _ a ?_)
 refine ⟨⟨by omega,by rw [bigI];have:=JL hp;omega⟩,?_⟩
 refine Qd4 a (A:=fun ii ll=>QbQ (fun r'=>r'=Ym (id (α:=List TOp') a)) a ii ll) (Q:=fun z=>Ym z=Ym (id (α:=List TOp') a)) hp ?_ ?_ rfl
 ·intro k x out hlt hg ho hx hA
  have hw:w64 (((k:Nat):Int)+1)=((k+1:Nat):Int):=by have:=JL hp;rw [QJ (by omega) (by omega)];omega
  have hlo:k<out.length:=by omega
  refine Qj6 (fun r'=>r'=Ym (id (α:=List TOp') a)) a ((k:Nat):Int) out ?_
  refine ⟨fun _=>?_,fun h=>absurd h (by simp;omega)⟩
  simp only [Int.toNat_natCast,Nat.zero_add,hg,hw,hlt,hlo,Qc0,List.drop_zero,List.take_length,id_eq,and_true,true_and,Int.natCast_nonneg]
  first | exact hA | exact ⟨hx,hA⟩
 ·intro out ho hq
  refine Qj6 (fun r'=>r'=Ym (id (α:=List TOp') a)) a ((a.length:Nat):Int) out ?_
  refine ⟨fun h=>absurd h (by simp),fun _=>?_⟩
  simp only [List.drop_zero,List.take_length]
  exact hq
theorem Qm5:Qm Try.prog Qfm:=Qp fun x h=>Qrj x.1 h
def Jm (t:Bool):TRes:=zre (zcb t)
def Qdf:TRow:=Ql 159 [(.a ctOp),(.a ctOp)] fun x=>(none,Jm (m_eq (α:=TOp') x.1 x.2.1))
def QiJ:TTab:=⟨[J8],false⟩
def Qp0:TCode :=
 (zsq [(.reg [zop 2 (.box 76 0 4),zop 3 (.box 76 1 4),zmv 4 (zkb false)]),(zsq [(.reg [zfa 5 2 0,zld 6 5 1,zfa 7 3 0,zld 8 7 1,zbi 9 .neq 6 8]),(.cond 9 (zsq [(.reg [zmv 4 (zkb false)]),.ret]) .skip)]),(zsq [(.reg [zfa 10 2 1,zld 11 10 1,zfa 12 3 1,zld 13 12 1,zbi 14 .neq 11 13]),(.cond 14 (zsq [(.reg [zmv 4 (zkb false)]),.ret]) .skip)]),(zsq [(.reg [zfa 15 2 2,zld 16 15 1,zfa 17 3 2,zld 18 17 1,zbi 19 .neq 16 18]),(.cond 19 (zsq [(.reg [zmv 4 (zkb false)]),.ret]) .skip)]),(zsq [(.reg [zfa 20 2 3,zld 21 20 1,zfa 22 3 3,zld 23 22 1,zca 24 66 [21,23],zno 25 24]),(.cond 25 (zsq [(.reg [zmv 4 (zkb false)]),.ret]) .skip)]),(.reg [zmv 4 (zkb true)]),.ret])
def Qol:List (ARv × Md):=[(.t 4,.one .d)]
theorem Qp4 (a:TOp') (b:TOp') (h :
 (zif (a.1 != b.1) (K (Jm false)) (zif (a.2.1 != b.2.1) (K (Jm false)) (zif (a.2.2.1 != b.2.2.1) (K (Jm false)) (zif (!(m_eq (α:=List Int) a.2.2.2 b.2.2.2)) (K (Jm false)) (K (Jm true))))))):Hold (tawp QiJ (0+0) Qp0 (TQ 0 0 Qol K) (Qh [(.a (Tup.cells ctOp a)),(.a (Tup.cells ctOp b))])) :=
 Hold.of (by kernel_rfl) h
theorem Qor (a:TOp') (b:TOp'):TCon Try.prog 159 [(.a (Tup.cells ctOp a)),(.a (Tup.cells ctOp b))] (Jm (m_eq (α:=TOp') a b)):=by
 refine Qn rfl fun hb=>tcg (Γ:=QiJ) (n:=26) (sg:=Qdf.sg) Qo (TOkL.cons Qe7 TOkL.nil) (by kernel_rfl) (by kernel_rfl) (Qp4 _ a b ?_)
 refine ⟨fun h=>R_eq (Eq.symm (decide_eq_false (by rintro rfl;simp [m_eq] at h))),fun h0=>?_⟩
 refine ⟨fun h=>R_eq (Eq.symm (decide_eq_false (by rintro rfl;simp [m_eq] at h))),fun h1=>?_⟩
 refine ⟨fun h=>R_eq (Eq.symm (decide_eq_false (by rintro rfl;simp [m_eq] at h))),fun h2=>?_⟩
 refine ⟨fun h=>R_eq (Eq.symm (decide_eq_false (by rintro rfl;simp [m_eq] at h))),fun h3=>?_⟩
 refine R_eq (Eq.symm (decide_eq_true ?_))
 simp [m_eq] at h0 h1 h2 h3
 simp [Prod.ext_iff, *]
theorem QoX:Qm Try.prog Qdf:=Qp fun x _=>Qor x.1 x.2.1
def Y5 (t:Bool):TRes:=zre (zcb t)
def QcF:TRow:=Ql 87 [(.c (.sl ctOp)),(.c (.sl ctOp))] fun x=>(none,Y5 (m_eq (α:=List TOp') x.1 x.2.1))
def Qbb:TTab:=⟨[Qdf],false⟩
def QfX:TCode :=
 (zsq [(zsq [(.reg [zmv 11 5,zmv 12 0,zle 13 12,zbi 14 .lss 11 13]),(.cond 14 .skip (.exit 0))]),(.block 1 (zsq [(.draw [zmv 17 0,zmv 18 5,zia 19 17 18 ctOp,zLd 20 19 4,zmv 21 1,zmv 22 5,zia 23 21 22 ctOp,zLd 24 23 4,zca 25 159 [20,24],zno 26 25] []),(.cond 26 (zsq [(.reg [zmv 4 (zkb false)]),.ret]) .skip)])),(.reg [zmv 15 5,zbi 16 .add 15 (zki 1),zmv 5 16])])
def QkA:List (Nat × Md):=zdl [0,1,5]
def QjM:TCode :=
 (zsq [(.reg [zmv 4 (zkb true)]),.ret])
def QmE:TCode :=
 (zsq [(.reg [zmv 4 (zkb false)]),(zsq [(.reg [zmv 6 0,zle 7 6,zmv 8 1,zle 9 8,zbi 10 .neq 7 9]),(.cond 10 (zsq [(.reg [zmv 4 (zkb false)]),.ret]) .skip)]),(zsq [(.reg [zmv 5 (zki 0)]),(.block 0 (.loop QkA QfX))]),QjM])
def Qhn:List (ARv × Md):=[(.t 4,.one .d)]
def Qg3:Qc:=TQ 0 0 Qhn K
def QtA:Qc:=Qseq (tawp Qbb 0 QjM (Qg3 K)) (Qg3 K)
def QnL:Qc:=Qblk 0 (QtA K)
def Qff (a:List TOp') (b:List TOp') (i:Int):Prop:=Loop Qbb 0 QkA QfX (QnL K) ⟨[(0,(zcs ctOp a)),(1,(zcs ctOp b)),(5,(zci i))],[],0⟩
theorem QsQ (a:List TOp') (b:List TOp') (i:Int) (h :
 (zif (decide (i<(a.length:Int))) ((((0:Int)≤i∧Int.toNat i<a.length)∧((0:Int)≤i∧Int.toNat i<b.length))∧(zif (!(m_eq (α:=TOp') (gtd dOp a (Int.toNat i)) (gtd dOp b (Int.toNat i)))) (K (Y5 false)) (Qff K a b (w64 (i+(1:Int)))))) (K (Y5 true)))):Qff K a b i :=
 Loop.of (by kernel_rfl) h
theorem QsF (a:List TOp') (b:List TOp') (h :
 (zif ((a.length:Int) != (b.length:Int)) (K (Y5 false)) (Qff K a b 0))):Hold (tawp Qbb (0+0) QmE (TQ 0 0 Qhn K) (Qh [(.c (.sl ctOp) a),(.c (.sl ctOp) b)])) :=
 Hold.of (by kernel_rfl) h
theorem QpK (a:List TOp') (b:List TOp'):TCon Try.prog 87 [(.c (.sl ctOp) a),(.c (.sl ctOp) b)] (Y5 (m_eq (α:=List TOp') a b)):=by
 refine Qn rfl fun hb=>tcg (Γ:=Qbb) (n:=27) (sg:=QcF.sg) Qo (TOkL.cons QoX TOkL.nil) (by kernel_rfl) (by kernel_rfl) (QsF _ a b ?_)
 exact Qa1 dOp (E:=m_eq) (fun _ _=>rfl) hb.1.1 (fun i h=>QsQ _ a b i h) (Q:=fun x=>Y5 x=Y5 (m_eq (α:=List TOp') a b)) rfl
theorem Qiv:Qm Try.prog QcF:=Qp fun x _=>QpK x.1 x.2.1
end
end Go.Proofs.Ytephkbajoofeoaa.Am

