/- -/
import Derived.Test.YtephkbajoofeoaaWCH1
import Derived.Test.YtephkbajoofeoaaWCGF
namespace Go.Proofs.Ytephkbajoofeoaa.Am
open Go Go.RowKit Go.Proofs.Ytephkbajoofeoaa
set_option linter.all false
noncomputable section
variable (K:TRes→Prop)
def Qct (t:Int):TRes:=zre (zci t)
def Qe8:TRow:=Qm 151 [(.a ctOp),(.c TI)] fun x=>(some (p_sz (α:=TOp') x.1 x.2.1),Qct (m_sz (α:=TOp') x.1 x.2.1))
def Qk2:TTab:=⟨[YS],false⟩
def Qo0:TCode :=
 (zsq [(.reg [zop 2 (.box 186 0 4),zmv 4 (zki 0)]),(.reg [zfa 5 2 3,zld 6 5 1,zmv 7 1,zca 8 124 [6,7],zmv 1 8]),(zsq [(.reg [zmv 9 1,zbi 10 .lss 9 (zki 0)]),(.cond 10 (zsq [(.reg [zmv 4 (zki (-1))]),.ret]) .skip)]),(.reg [zmv 11 1,zmv 4 11]),.ret])
def QvF:List (ARv × Md):=[(.t 4,.one .d)]
theorem QvE (a:TOp') (left:Int) (h :
 ((p_sz (α:=List Int) a.2.2.2 left)∧(zif (decide ((m_sz (α:=List Int) a.2.2.2 left)<(0:Int))) (K (Qct (-1:Int))) (K (Qct (m_sz (α:=List Int) a.2.2.2 left)))))):Hold (tawp Qk2 (0+0) Qo0 (TQ 0 0 QvF K) (Ql [(.a (Tup.cells ctOp a)),(.c TI left)])) :=
 Hold.of (by kernel_rfl) h
theorem Quk (a:TOp') (left:Int) (hp:p_sz (α:=TOp') a left):TCon Try.prog 151 [(.a (Tup.cells ctOp a)),(.c TI left)] (Qct (m_sz (α:=TOp') a left)):=by
 refine Qq rfl fun hb=>tcg (Γ:=Qk2) (n:=12) (sg:=Qe8.sg) Qp (TOkL.cons QaH TOkL.nil) (by kernel_rfl) (by kernel_rfl) (QvE _ a left ?_)
 refine ⟨hp,fun h=>R_eq (QT (of_decide_eq_true h) (by first | omega | (simp only [Qx,Qy,QC];omega)) hp.1),fun h=>?_⟩
 exact R_eq (congrArg (QX · _) (by first | rfl | omega | (simp only [Qx,Qy,QC];omega)))
theorem QuA:Qo Try.prog Qe8:=Qr fun x h=>Quk x.1 x.2.1 h
def Jp (t:Int):TRes:=zre (zci t)
def Qfc:TRow:=Qm 82 [(.c (.sl ctOp)),(.c TI)] fun x=>(some (p_sz (α:=List TOp') x.1 x.2.1),Jp (m_sz (α:=List TOp') x.1 x.2.1))
def Qbp:TTab:=⟨[Qe8],false⟩
def QmP:TCode :=
 (zsq [(zsq [(.reg [zmv 12 5,zmv 13 0,zle 14 13,zbi 15 .lss 12 14]),(.cond 15 .skip (.exit 0))]),(.block 1 (zsq [(.reg [zmv 18 0,zmv 19 5,zia 20 18 19 ctOp,zLd 21 20 4,zmv 22 1,zca 23 151 [21,22],zmv 1 23]),(.reg [zmv 24 1,zbi 25 .lss 24 (zki 0)]),(.cond 25 (zsq [(.reg [zmv 4 (zki (-1))]),.ret]) .skip)])),(.reg [zmv 16 5,zbi 17 .add 16 (zki 1),zmv 5 17])])
def Qj9:List (Nat × Md):=zdl [0,1,5]
def Qhw:TCode :=
 (zsq [(.reg [zmv 26 1,zmv 4 26]),.ret])
def Qum:TCode :=
 (zsq [(.reg [zmv 4 (zki 0)]),(.reg [zmv 6 1,zmv 7 0,zle 8 7,zbi 9 .sub 6 8,zmv 1 9]),(zsq [(.reg [zmv 10 1,zbi 11 .lss 10 (zki 0)]),(.cond 11 (zsq [(.reg [zmv 4 (zki (-1))]),.ret]) .skip)]),(zsq [(.reg [zmv 5 (zki 0)]),(.block 0 (.loop Qj9 QmP))]),Qhw])
def Qg1:List (ARv × Md):=[(.t 4,.one .d)]
def QlA:Qb:=TQ 0 0 Qg1 K
def Qna:Qb:=Qseq (tawp Qbp 0 Qhw (QlA K)) (QlA K)
def Qwo:Qb:=Qblk 0 (Qna K)
def QeF (a:List TOp') (left1:Int) (i:Int):Prop:=Loop Qbp 0 Qj9 QmP (Qwo K) ⟨[(0,(zcs ctOp a)),(1,(zci left1)),(5,(zci i))],[],0⟩
theorem Qw0 (a:List TOp') (left1:Int) (i:Int) (h :
 (zif (decide (i<(a.length:Int))) ((((0:Int)≤i∧Int.toNat i<a.length)∧(p_sz (α:=TOp') (gtd dOp a (Int.toNat i)) left1))∧(zif (decide ((m_sz (α:=TOp') (gtd dOp a (Int.toNat i)) left1)<(0:Int))) (K (Jp (-1:Int))) (QeF K a (m_sz (α:=TOp') (gtd dOp a (Int.toNat i)) left1) (w64 (i+(1:Int)))))) (K (Jp left1)))):QeF K a left1 i :=
 Loop.of (by kernel_rfl) h
theorem QqD (a:List TOp') (left:Int) (h :
 (zif (decide ((w64 (left-(a.length:Int)))<(0:Int))) (K (Jp (-1:Int))) (QeF K a (w64 (left-(a.length:Int))) 0))):Hold (tawp Qbp (0+0) Qum (TQ 0 0 Qg1 K) (Ql [(.c (.sl ctOp) a),(.c TI left)])) :=
 Hold.of (by kernel_rfl) h
theorem Qnn (a:List TOp') (left:Int) (hp:p_sz (α:=List TOp') a left):TCon Try.prog 82 [(.c (.sl ctOp) a),(.c TI left)] (Jp (m_sz (α:=List TOp') a left)):=by
 refine Qq rfl fun hb=>tcg (Γ:=Qbp) (n:=27) (sg:=Qfc.sg) Qp (TOkL.cons QuA TOkL.nil) (by kernel_rfl) (by kernel_rfl) (QqD _ a left ?_)
 exact Y3 (Q:=fun x=>Jp x=Jp (m_sz (α:=List TOp') a left)) dOp hp hb.1.1 (fun l i h=>Qw0 _ a l i h) rfl
theorem QnL:Qo Try.prog Qfc:=Qr fun x h=>Qnn x.1 x.2.1 h
def Qf1 (t:TOp'):TRes:=⟨(.a [(zci t.1),(zci t.2.1),(zci t.2.2.1),(.r [TI] 0 0 ((t.2.2.2).length))]),[(.sl 3 [TI] (.dp 0 true []) t.2.2.2)],[],false,[]⟩
def Qd6:TRow:=Qm 154 [(.a ctOp)] fun x=>(some (p_to (α:=TOp') x.1),Qf1 (id (α:=TOp') x.1))
def QgF:TTab:=⟨[Jv],true⟩
def QqR:TCode :=
 (zsq [(.reg [zop 1 (.box 186 0 4),zop 2 (.new 76 (z0s ctOp))]),(.reg [zop 3 (.new 76 (z0s ctOp))]),(.reg [zfa 4 1 0,zld 5 4 1,zfa 6 3 0,zst 6 5 1]),(.reg [zfa 7 1 1,zld 8 7 1,zfa 9 3 1,zst 9 8 1]),(.reg [zfa 10 1 2,zld 11 10 1,zfa 12 3 2,zst 12 11 1]),(.reg [zfa 13 1 3,zld 14 13 1,zca 15 127 [14],zfa 16 3 3,zst 16 15 1]),(.reg [zLd 17 3 4,zst 2 17 4]),.ret])
def Qwa:List (ARv × Md):=[(.l 2 4 true,.b [.d,.d,.d,.p 3])]
theorem Qr4 (a:TOp') (h :
 ((p_to (α:=List Int) a.2.2.2)∧K (Qf1 (a.1,a.2.1,a.2.2.1,(List.take ((id (α:=List Int) a.2.2.2).length) (id (α:=List Int) a.2.2.2)))))):Hold (tawp QgF (0+0) QqR (TQ 0 0 Qwa K) (Ql [(.a (Tup.cells ctOp a))])) :=
 Hold.of (by kernel_rfl) h
theorem QsQ (a:TOp') (hp:p_to (α:=TOp') a):TCon Try.prog 154 [(.a (Tup.cells ctOp a))] (Qf1 (id (α:=TOp') a)):=by
 refine Qq rfl fun hb=>tcg (Γ:=QgF) (n:=18) (sg:=Qd6.sg) Qp (TOkL.cons Qay TOkL.nil) (by kernel_rfl) (by kernel_rfl) (Qr4 _ a ?_)
 repeat' (first | refine And.intro ?_ ?_ | exact R_eq (by simp))
 all_goals (simp only [p_to,Qx,Qy,QC,List.drop_zero,List.take_length,id_eq] at hp ⊢;omega)
theorem Qw8:Qo Try.prog Qd6:=Qr fun x h=>QsQ x.1 h
def Yx (t:(List TOp')):TRes:=⟨(.r ctOp 0 0 t.length),[(.sl 76 ctOp (.dp 0 true []) t)],[],false,[]⟩
def Qew:TRow:=Qm 84 [(.c (.sl ctOp))] fun x=>(some (p_to (α:=List TOp') x.1),Yx (id (α:=List TOp') x.1))
def QcA:TTab:=⟨[Qd6],true⟩
def Qir:TCode :=
 (zsq [(zsq [(.reg [zmv 8 4,zmv 9 0,zle 10 9,zbi 11 .lss 8 10]),(.cond 11 .skip (.exit 0))]),(.block 1 (.reg [zmv 14 3,zmv 15 4,zmv 16 0,zmv 17 4,zia 18 16 17 ctOp,zLd 19 18 4,zca 20 154 [19],zia 21 14 15 ctOp,zst 21 20 4])),(.reg [zmv 12 4,zbi 13 .add 12 (zki 1),zmv 4 13])])
def Ql4:List (Nat × Md):=[(0,.one .d),(3,.one .f),(4,.one .d)]
def QmJ:TCode :=
 (zsq [(.reg [zmv 22 3,zmv 2 22]),.ret])
def Qpc:TCode :=
 (zsq [(.reg [zmv 2 (.k (.n ctOp))]),(.reg [zmv 5 0,zle 6 5,zop 7 (.mk 76 ctOp (z0s ctOp) 6),zmv 3 7]),(zsq [(.reg [zmv 4 (zki 0)]),(.block 0 (.loop Ql4 Qir))]),QmJ])
def Qln:List (ARv × Md):=[(.t 2,.one (.p 76))]
def Qh4:Qb:=TQ 0 0 Qln K
def QwR:Qb:=Qseq (tawp QcA 0 QmJ (Qh4 K)) (Qh4 K)
def Qqa:Qb:=Qblk 0 (QwR K)
def QbM (a:List TOp') (i:Int) (out:List TOp'):Prop:=Loop QcA 0 Ql4 Qir (Qqa K) ⟨[(0,(zcs ctOp a)),(3,(.r ctOp 0 0 out.length)),(4,(zci i))],[(0,(.sl 76 ctOp (.dp 0 true []) out))],1⟩
theorem Qlx (a:List TOp') (i:Int) (out:List TOp') (h :
 (zif (decide (i<(a.length:Int))) ((((0:Int)≤i∧Int.toNat i<a.length)∧((p_to (α:=TOp') (gtd dOp a (Int.toNat i)))∧(((0:Int)≤i∧Int.toNat i<out.length)∧((0+(Int.toNat i))<out.length))))∧(QbM K a (w64 (i+(1:Int))) (List.take out.length ((out).set (0+(Int.toNat i)) ((id (α:=TOp') (gtd dOp a (Int.toNat i))).1,(id (α:=TOp') (gtd dOp a (Int.toNat i))).2.1,(id (α:=TOp') (gtd dOp a (Int.toNat i))).2.2.1,(List.take (((id (α:=TOp') (gtd dOp a (Int.toNat i))).2.2.2).length) (List.drop 0 ((id (α:=TOp') (gtd dOp a (Int.toNat i))).2.2.2)))))))) (K (Yx (List.take out.length out))))):QbM K a i out :=
 Loop.of (by kernel_rfl) h
theorem Qta (a:List TOp') (h :
 (((0:Int)≤(a.length:Int)∧(a.length:Int)≤big)∧(QbM K a 0 (List.take (Int.toNat (a.length:Int)) (List.replicate (Int.toNat (a.length:Int)) ((0:Int),(0:Int),(0:Int),[])))))):Hold (tawp QcA (0+0) Qpc (TQ 0 0 Qln K) (Ql [(.c (.sl ctOp) a)])) :=
 Hold.of (by kernel_rfl) h
theorem QrC (a:List TOp') (hp:p_to (α:=List TOp') a):TCon Try.prog 84 [(.c (.sl ctOp) a)] (Yx (id (α:=List TOp') a)):=by
 refine Qq rfl fun hb=>tcg (Γ:=QcA) (n:=23) (sg:=Qew.sg) Qp (TOkL.cons Qw8 TOkL.nil) (by kernel_rfl) (by kernel_rfl) (Qta _ a ?_)
 refine ⟨⟨by omega,by rw [bigI];have:=Q3 hp;omega⟩,?_⟩
 refine Yh a (A:=fun ii ll=>QbM (fun r'=>r'=Yx (id (α:=List TOp') a)) a ii ll) (Q:=fun z=>Yx z=Yx (id (α:=List TOp') a)) hp ?_ ?_ rfl
 ·intro k x out hlt hg ho hx hA
  have hw:w64 (((k:Nat):Int)+1)=((k+1:Nat):Int):=by have:=Q3 hp;rw [QO (by omega) (by omega)];omega
  have hlo:k<out.length:=by omega
  refine Qlx (fun r'=>r'=Yx (id (α:=List TOp') a)) a ((k:Nat):Int) out ?_
  refine ⟨fun _=>?_,fun h=>absurd h (by simp;omega)⟩
  simp only [Int.toNat_natCast,Nat.zero_add,hg,hw,hlt,hlo,Z2,List.drop_zero,List.take_length,id_eq,and_true,true_and,Int.natCast_nonneg]
  first | exact hA | exact ⟨hx,hA⟩
 ·intro out ho hq
  refine Qlx (fun r'=>r'=Yx (id (α:=List TOp') a)) a ((a.length:Nat):Int) out ?_
  refine ⟨fun h=>absurd h (by simp),fun _=>?_⟩
  simp only [List.drop_zero,List.take_length]
  exact hq
theorem Qsx:Qo Try.prog Qew:=Qr fun x h=>QrC x.1 h
def Y5 (t:Bool):TRes:=zre (zcb t)
def QfN:TRow:=Qm 159 [(.a ctOp),(.a ctOp)] fun x=>(none,Y5 (m_eq (α:=TOp') x.1 x.2.1))
def QlW:TTab:=⟨[YM],false⟩
def Qsa:TCode :=
 (zsq [(.reg [zop 2 (.box 76 0 4),zop 3 (.box 76 1 4),zmv 4 (zkb false)]),(zsq [(.reg [zfa 5 2 0,zld 6 5 1,zfa 7 3 0,zld 8 7 1,zbi 9 .neq 6 8]),(.cond 9 (zsq [(.reg [zmv 4 (zkb false)]),.ret]) .skip)]),(zsq [(.reg [zfa 10 2 1,zld 11 10 1,zfa 12 3 1,zld 13 12 1,zbi 14 .neq 11 13]),(.cond 14 (zsq [(.reg [zmv 4 (zkb false)]),.ret]) .skip)]),(zsq [(.reg [zfa 15 2 2,zld 16 15 1,zfa 17 3 2,zld 18 17 1,zbi 19 .neq 16 18]),(.cond 19 (zsq [(.reg [zmv 4 (zkb false)]),.ret]) .skip)]),(zsq [(.reg [zfa 20 2 3,zld 21 20 1,zfa 22 3 3,zld 23 22 1,zca 24 66 [21,23],zno 25 24]),(.cond 25 (zsq [(.reg [zmv 4 (zkb false)]),.ret]) .skip)]),(.reg [zmv 4 (zkb true)]),.ret])
def Qrx:List (ARv × Md):=[(.t 4,.one .d)]
theorem Qxc (a:TOp') (b:TOp') (h :
 (zif (a.1 != b.1) (K (Y5 false)) (zif (a.2.1 != b.2.1) (K (Y5 false)) (zif (a.2.2.1 != b.2.2.1) (K (Y5 false)) (zif (!(m_eq (α:=List Int) a.2.2.2 b.2.2.2)) (K (Y5 false)) (K (Y5 true))))))):Hold (tawp QlW (0+0) Qsa (TQ 0 0 Qrx K) (Ql [(.a (Tup.cells ctOp a)),(.a (Tup.cells ctOp b))])) :=
 Hold.of (by kernel_rfl) h
theorem Qtc (a:TOp') (b:TOp'):TCon Try.prog 159 [(.a (Tup.cells ctOp a)),(.a (Tup.cells ctOp b))] (Y5 (m_eq (α:=TOp') a b)):=by
 refine Qq rfl fun hb=>tcg (Γ:=QlW) (n:=26) (sg:=QfN.sg) Qp (TOkL.cons JQ TOkL.nil) (by kernel_rfl) (by kernel_rfl) (Qxc _ a b ?_)
 refine ⟨fun h=>R_eq (Eq.symm (decide_eq_false (by rintro rfl;simp [m_eq] at h))),fun h0=>?_⟩
 refine ⟨fun h=>R_eq (Eq.symm (decide_eq_false (by rintro rfl;simp [m_eq] at h))),fun h1=>?_⟩
 refine ⟨fun h=>R_eq (Eq.symm (decide_eq_false (by rintro rfl;simp [m_eq] at h))),fun h2=>?_⟩
 refine ⟨fun h=>R_eq (Eq.symm (decide_eq_false (by rintro rfl;simp [m_eq] at h))),fun h3=>?_⟩
 refine R_eq (Eq.symm (decide_eq_true ?_))
 simp [m_eq] at h0 h1 h2 h3
 simp [Prod.ext_iff, *]
theorem QuG:Qo Try.prog QfN:=Qr fun x _=>Qtc x.1 x.2.1
def Jn (t:Bool):TRes:=zre (zcb t)
def Qde:TRow:=Qm 87 [(.c (.sl ctOp)),(.c (.sl ctOp))] fun x=>(none,Jn (m_eq (α:=List TOp') x.1 x.2.1))
def Qbq:TTab:=⟨[QfN],false⟩
def Qh8:TCode :=
 (zsq [(zsq [(.reg [zmv 11 5,zmv 12 0,zle 13 12,zbi 14 .lss 11 13]),(.cond 14 .skip (.exit 0))]),(.block 1 (zsq [(.draw [zmv 17 0,zmv 18 5,zia 19 17 18 ctOp,zLd 20 19 4,zmv 21 1,zmv 22 5,zia 23 21 22 ctOp,zLd 24 23 4,zca 25 159 [20,24],zno 26 25] []),(.cond 26 (zsq [(.reg [zmv 4 (zkb false)]),.ret]) .skip)])),(.reg [zmv 15 5,zbi 16 .add 15 (zki 1),zmv 5 16])])
def Qkz:List (Nat × Md):=zdl [0,1,5]
def Qhr:TCode :=
 (zsq [(.reg [zmv 4 (zkb true)]),.ret])
def Qqv:TCode :=
 (zsq [(.reg [zmv 4 (zkb false)]),(zsq [(.reg [zmv 6 0,zle 7 6,zmv 8 1,zle 9 8,zbi 10 .neq 7 9]),(.cond 10 (zsq [(.reg [zmv 4 (zkb false)]),.ret]) .skip)]),(zsq [(.reg [zmv 5 (zki 0)]),(.block 0 (.loop Qkz Qh8))]),Qhr])
def QkO:List (ARv × Md):=[(.t 4,.one .d)]
def Ql7:Qb:=TQ 0 0 QkO K
def QvK:Qb:=Qseq (tawp Qbq 0 Qhr (Ql7 K)) (Ql7 K)
def Qqp:Qb:=Qblk 0 (QvK K)
def Qex (a:List TOp') (b:List TOp') (i:Int):Prop:=Loop Qbq 0 Qkz Qh8 (Qqp K) ⟨[(0,(zcs ctOp a)),(1,(zcs ctOp b)),(5,(zci i))],[],0⟩
theorem Qsu (a:List TOp') (b:List TOp') (i:Int) (h :
 (zif (decide (i<(a.length:Int))) ((((0:Int)≤i∧Int.toNat i<a.length)∧((0:Int)≤i∧Int.toNat i<b.length))∧(zif (!(m_eq (α:=TOp') (gtd dOp a (Int.toNat i)) (gtd dOp b (Int.toNat i)))) (K (Jn false)) (Qex K a b (w64 (i+(1:Int)))))) (K (Jn true)))):Qex K a b i :=
 Loop.of (by kernel_rfl) h
theorem Qwi (a:List TOp') (b:List TOp') (h :
 (zif ((a.length:Int) != (b.length:Int)) (K (Jn false)) (Qex K a b 0))):Hold (tawp Qbq (0+0) Qqv (TQ 0 0 QkO K) (Ql [(.c (.sl ctOp) a),(.c (.sl ctOp) b)])) :=
 Hold.of (by kernel_rfl) h
theorem Qp7 (a:List TOp') (b:List TOp'):TCon Try.prog 87 [(.c (.sl ctOp) a),(.c (.sl ctOp) b)] (Jn (m_eq (α:=List TOp') a b)):=by
 refine Qq rfl fun hb=>tcg (Γ:=Qbq) (n:=27) (sg:=Qde.sg) Qp (TOkL.cons QuG TOkL.nil) (by kernel_rfl) (by kernel_rfl) (Qwi _ a b ?_)
 exact Yf dOp (E:=m_eq) (fun _ _=>rfl) hb.1.1 (fun i h=>Qsu _ a b i h) (Q:=fun x=>Jn x=Jn (m_eq (α:=List TOp') a b)) rfl
theorem Qne:Qo Try.prog Qde:=Qr fun x _=>Qp7 x.1 x.2.1
end
end Go.Proofs.Ytephkbajoofeoaa.Am

