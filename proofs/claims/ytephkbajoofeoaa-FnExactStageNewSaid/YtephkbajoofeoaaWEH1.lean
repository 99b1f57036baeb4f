/- -/
import Derived.Test.YtephkbajoofeoaaWEGF
namespace Go.Proofs.Ytephkbajoofeoaa.Am
open Go Go.RowKit Go.Proofs.Ytephkbajoofeoaa
set_option linter.all false
noncomputable section
variable (K:TRes→Prop)
def JR (t:Int):TRes:=zre (zci t)
def Qfn:TRow:=Ql 124 [(.c (.sl [TI])),(.c TI)] fun x=>(some (p_sz (α:=List Int) x.1 x.2.1),JR (m_sz (α:=List Int) x.1 x.2.1))
def QkZ:TTab:=⟨[],false⟩
def Qmc:TCode :=
 (zsq [(.reg [zmv 4 (zki 0)]),(.reg [zmv 5 1,zmv 6 0,zle 7 6,zbi 8 .sub 5 7,zmv 1 8]),(zsq [(.reg [zmv 9 1,zbi 10 .lss 9 (zki 0)]),(.cond 10 (zsq [(.reg [zmv 4 (zki (-1))]),.ret]) .skip)]),(.reg [zmv 11 1,zmv 4 11]),.ret])
def Qsn:List (ARv × Md):=[(.t 4,.one .d)]
theorem Ql4 (a:List Int) (left:Int) (h :
 (zif (decide ((w64 (left-(a.length:Int)))<(0:Int))) (K (JR (-1:Int))) (K (JR (w64 (left-(a.length:Int))))))):Hold (tawp QkZ (0+0) Qmc (TQ 0 0 Qsn K) (Qh [(.c (.sl [TI]) a),(.c TI left)])) :=
 Hold.of (by kernel_rfl) h
theorem Qma (a:List Int) (left:Int) (hp:p_sz (α:=List Int) a left):TCon Try.prog 124 [(.c (.sl [TI]) a),(.c TI left)] (JR (m_sz (α:=List Int) a left)):=by
 refine Qn rfl fun hb=>tcg (Γ:=QkZ) (n:=12) (sg:=Qfn.sg) Qo TOkL.nil (by kernel_rfl) (by kernel_rfl) (Ql4 _ a left ?_)
 exact Qk7 (Q:=fun x=>JR x=JR (m_sz (α:=List Int) a left)) (fun _=>rfl) hp hb.1.1 rfl
theorem Qr4:Qm Try.prog Qfn:=Qp fun x h=>Qma x.1 x.2.1 h
def Yv (t:(List Int)):TRes:=⟨(.r [TI] 0 0 t.length),[(.sl 3 [TI] (.dp 0 true []) t)],[],false,[]⟩
def QdI:TRow:=Ql 127 [(.c (.sl [TI]))] fun x=>(some (p_to (α:=List Int) x.1),Yv (id (α:=List Int) x.1))
def QcV:TTab:=⟨[],true⟩
def QlO:TCode :=
 (zsq [(zsq [(.reg [zmv 8 4,zmv 9 0,zle 10 9,zbi 11 .lss 8 10]),(.cond 11 .skip (.exit 0))]),(.block 1 (.reg [zmv 14 3,zmv 15 4,zmv 16 0,zmv 17 4,zia 18 16 17 [TI],zld 19 18 1,zia 20 14 15 [TI],zst 20 19 1])),(.reg [zmv 12 4,zbi 13 .add 12 (zki 1),zmv 4 13])])
def Qhl:List (Nat × Md):=[(0,.one .d),(3,.one .f),(4,.one .d)]
def QlZ:TCode :=
 (zsq [(.reg [zmv 21 3,zmv 2 21]),.ret])
def QqW:TCode :=
 (zsq [(.reg [zmv 2 (.k (.n [TI]))]),(.reg [zmv 5 0,zle 6 5,zop 7 (.mk 3 [TI] [(zci 0)] 6),zmv 3 7]),(zsq [(.reg [zmv 4 (zki 0)]),(.block 0 (.loop Qhl QlO))]),QlZ])
def Qgv:List (ARv × Md):=[(.t 2,.one (.p 3))]
def QfI:Qc:=TQ 0 0 Qgv K
def Qmk:Qc:=Qseq (tawp QcV 0 QlZ (QfI K)) (QfI K)
def QsD:Qc:=Qblk 0 (Qmk K)
def Qbz (a:List Int) (i:Int) (out:List Int):Prop:=Loop QcV 0 Qhl QlO (QsD K) ⟨[(0,(zcs [TI] a)),(3,(.r [TI] 0 0 out.length)),(4,(zci i))],[(0,(.sl 3 [TI] (.dp 0 true []) out))],1⟩
theorem Qh6 (a:List Int) (i:Int) (out:List Int) (h :
 (zif (decide (i<(a.length:Int))) ((((0:Int)≤i∧Int.toNat i<a.length)∧(((0:Int)≤i∧Int.toNat i<out.length)∧((0+(Int.toNat i))<out.length)))∧(Qbz K a (w64 (i+(1:Int))) (List.take out.length ((out).set (0+(Int.toNat i)) (gtd (0:Int) a (Int.toNat i)))))) (K (Yv (List.take out.length out))))):Qbz K a i out :=
 Loop.of (by kernel_rfl) h
theorem Qr5 (a:List Int) (h :
 (((0:Int)≤(a.length:Int)∧(a.length:Int)≤big)∧(Qbz K a 0 (List.take (Int.toNat (a.length:Int)) (List.replicate (Int.toNat (a.length:Int)) (0:Int)))))):Hold (tawp QcV (0+0) QqW (TQ 0 0 Qgv K) (Qh [(.c (.sl [TI]) a)])) :=
 Hold.of (by kernel_rfl) h
theorem Qry (a:List Int) (hp:p_to (α:=List Int) a):TCon Try.prog 127 [(.c (.sl [TI]) a)] (Yv (id (α:=List Int) a)):=by
 refine Qn rfl fun hb=>tcg (Γ:=QcV) (n:=22) (sg:=QdI.sg) Qo TOkL.nil (by kernel_rfl) (by kernel_rfl) (Qr5 _ a ?_)
 refine ⟨⟨by omega,by rw [bigI];have:=JL hp;omega⟩,?_⟩
 refine Qd4 a (A:=fun ii ll=>Qbz (fun r'=>r'=Yv (id (α:=List Int) a)) a ii ll) (Q:=fun z=>Yv z=Yv (id (α:=List Int) a)) hp ?_ ?_ rfl
 ·intro k x out hlt hg ho hx hA
  have hw:w64 (((k:Nat):Int)+1)=((k+1:Nat):Int):=by have:=JL hp;rw [QJ (by omega) (by omega)];omega
  have hlo:k<out.length:=by omega
  refine Qh6 (fun r'=>r'=Yv (id (α:=List Int) a)) a ((k:Nat):Int) out ?_
  refine ⟨fun _=>?_,fun h=>absurd h (by simp;omega)⟩
  simp only [Int.toNat_natCast,Nat.zero_add,hg,hw,hlt,hlo,Qc0,List.drop_zero,List.take_length,id_eq,and_true,true_and,Int.natCast_nonneg]
  first | exact hA | exact ⟨hx,hA⟩
 ·intro out ho hq
  refine Qh6 (fun r'=>r'=Yv (id (α:=List Int) a)) a ((a.length:Nat):Int) out ?_
  refine ⟨fun h=>absurd h (by simp),fun _=>?_⟩
  simp only [List.drop_zero,List.take_length]
  exact hq
theorem Qmj:Qm Try.prog QdI:=Qp fun x h=>Qry x.1 h
def Jf (t:Bool):TRes:=zre (zcb t)
def J8:TRow:=Ql 66 [(.c (.sl [TI])),(.c (.sl [TI]))] fun x=>(none,Jf (m_eq (α:=List Int) x.1 x.2.1))
def Qbc:TTab:=⟨[],false⟩
def QkP:TCode :=
 (zsq [(zsq [(.reg [zmv 11 5,zmv 12 0,zle 13 12,zbi 14 .lss 11 13]),(.cond 14 .skip (.exit 0))]),(.block 1 (zsq [(.draw [zmv 17 0,zmv 18 5,zia 19 17 18 [TI],zld 20 19 1,zmv 21 1,zmv 22 5,zia 23 21 22 [TI],zld 24 23 1,zbi 25 .neq 20 24] []),(.cond 25 (zsq [(.reg [zmv 4 (zkb false)]),.ret]) .skip)])),(.reg [zmv 15 5,zbi 16 .add 15 (zki 1),zmv 5 16])])
def Qle:List (Nat × Md):=zdl [0,1,5]
def Qln:TCode :=
 (zsq [(.reg [zmv 4 (zkb true)]),.ret])
def QtS:TCode :=
 (zsq [(.reg [zmv 4 (zkb false)]),(zsq [(.reg [zmv 6 0,zle 7 6,zmv 8 1,zle 9 8,zbi 10 .neq 7 9]),(.cond 10 (zsq [(.reg [zmv 4 (zkb false)]),.ret]) .skip)]),(zsq [(.reg [zmv 5 (zki 0)]),(.block 0 (.loop Qle QkP))]),Qln])
def Qlf:List (ARv × Md):=[(.t 4,.one .d)]
def QfJ:Qc:=TQ 0 0 Qlf K
def Qmq:Qc:=Qseq (tawp Qbc 0 Qln (QfJ K)) (QfJ K)
def Qua:Qc:=Qblk 0 (Qmq K)
def QeP (a:List Int) (b:List Int) (i:Int):Prop:=Loop Qbc 0 Qle QkP (Qua K) ⟨[(0,(zcs [TI] a)),(1,(zcs [TI] b)),(5,(zci i))],[],0⟩
theorem Qqd (a:List Int) (b:List Int) (i:Int) (h :
 (zif (decide (i<(a.length:Int))) ((((0:Int)≤i∧Int.toNat i<a.length)∧((0:Int)≤i∧Int.toNat i<b.length))∧(zif ((gtd (0:Int) a (Int.toNat i)) != (gtd (0:Int) b (Int.toNat i))) (K (Jf false)) (QeP K a b (w64 (i+(1:Int)))))) (K (Jf true)))):QeP K a b i :=
 Loop.of (by kernel_rfl) h
theorem QmI (a:List Int) (b:List Int) (h :
 (zif ((a.length:Int) != (b.length:Int)) (K (Jf false)) (QeP K a b 0))):Hold (tawp Qbc (0+0) QtS (TQ 0 0 Qlf K) (Qh [(.c (.sl [TI]) a),(.c (.sl [TI]) b)])) :=
 Hold.of (by kernel_rfl) h
theorem Qpk (a:List Int) (b:List Int):TCon Try.prog 66 [(.c (.sl [TI]) a),(.c (.sl [TI]) b)] (Jf (m_eq (α:=List Int) a b)):=by
 refine Qn rfl fun hb=>tcg (Γ:=Qbc) (n:=26) (sg:=J8.sg) Qo TOkL.nil (by kernel_rfl) (by kernel_rfl) (QmI _ a b ?_)
 exact Qnt hb.1.1 (fun i h=>Qqd _ a b i h) (Q:=fun x=>Jf x=Jf (m_eq (α:=List Int) a b)) rfl
theorem Qe7:Qm Try.prog J8:=Qp fun x _=>Qpk x.1 x.2.1
def QbB (t:Bool):TRes:=zre (zcb t)
def Qfx:TRow:=Ql 196 [(.a [(.sl [TI])]),(.a [(.sl [TI])])] fun x=>(none,QbB (m_eq (α:=List Int) x.1 x.2.1))
def Qkf:TTab:=⟨[J8],false⟩
def QqG:TCode :=
 (zsq [(.reg [zop 2 (.box 91 0 1),zop 3 (.box 91 1 1),zmv 4 (zkb false)]),(zsq [(.reg [zfa 5 2 0,zld 6 5 1,zfa 7 3 0,zld 8 7 1,zca 9 66 [6,8],zno 10 9]),(.cond 10 (zsq [(.reg [zmv 4 (zkb false)]),.ret]) .skip)]),(.reg [zmv 4 (zkb true)]),.ret])
def QoU:List (ARv × Md):=[(.t 4,.one .d)]
theorem QoF (a:List Int) (b:List Int) (h :
 (zif (!(m_eq (α:=List Int) a b)) (K (QbB false)) (K (QbB true)))):Hold (tawp Qkf (0+0) QqG (TQ 0 0 QoU K) (Qh [(.a [(.c (.sl [TI]) a)]),(.a [(.c (.sl [TI]) b)])])) :=
 Hold.of (by kernel_rfl) h
theorem QmZ (a:List Int) (b:List Int):TCon Try.prog 196 [(.a [(.c (.sl [TI]) a)]),(.a [(.c (.sl [TI]) b)])] (QbB (m_eq (α:=List Int) a b)):=by
 refine Qn rfl fun hb=>tcg (Γ:=Qkf) (n:=11) (sg:=Qfx.sg) Qo (TOkL.cons Qe7 TOkL.nil) (by kernel_rfl) (by kernel_rfl) (QoF _ a b ?_)
 refine ⟨fun h=>R_eq (Eq.symm (decide_eq_false (by rintro rfl;simp [m_eq] at h))),fun h0=>?_⟩
 refine R_eq (Eq.symm (decide_eq_true ?_))
 simp [m_eq] at h0
 simp [Prod.ext_iff, *]
theorem QtC:Qm Try.prog Qfx:=Qp fun x _=>QmZ x.1 x.2.1
def Y7 (t:Bool):TRes:=zre (zcb t)
def Qa8:TRow:=Ql 158 [(.c (.sl [(.sl [TI])])),(.c (.sl [(.sl [TI])]))] fun x=>(none,Y7 (m_eq (α:=List (List Int)) x.1 x.2.1))
def Qb3:TTab:=⟨[Qfx],false⟩
def QlI:TCode :=
 (zsq [(zsq [(.reg [zmv 11 5,zmv 12 0,zle 13 12,zbi 14 .lss 11 13]),(.cond 14 .skip (.exit 0))]),(.block 1 (zsq [(.draw [zmv 17 0,zmv 18 5,zia 19 17 18 [(.sl [TI])],zLd 20 19 1,zmv 21 1,zmv 22 5,zia 23 21 22 [(.sl [TI])],zLd 24 23 1,zca 25 196 [20,24],zno 26 25] []),(.cond 26 (zsq [(.reg [zmv 4 (zkb false)]),.ret]) .skip)])),(.reg [zmv 15 5,zbi 16 .add 15 (zki 1),zmv 5 16])])
def QhQ:List (Nat × Md):=zdl [0,1,5]
def QgE:TCode :=
 (zsq [(.reg [zmv 4 (zkb true)]),.ret])
def Qnz:TCode :=
 (zsq [(.reg [zmv 4 (zkb false)]),(zsq [(.reg [zmv 6 0,zle 7 6,zmv 8 1,zle 9 8,zbi 10 .neq 7 9]),(.cond 10 (zsq [(.reg [zmv 4 (zkb false)]),.ret]) .skip)]),(zsq [(.reg [zmv 5 (zki 0)]),(.block 0 (.loop QhQ QlI))]),QgE])
def QlF:List (ARv × Md):=[(.t 4,.one .d)]
def Qgn:Qc:=TQ 0 0 QlF K
def Qqb:Qc:=Qseq (tawp Qb3 0 QgE (Qgn K)) (Qgn K)
def Quk:Qc:=Qblk 0 (Qqb K)
def Qfq (a:List (List Int)) (b:List (List Int)) (i:Int):Prop:=Loop Qb3 0 QhQ QlI (Quk K) ⟨[(0,(zcs [(.sl [TI])] a)),(1,(zcs [(.sl [TI])] b)),(5,(zci i))],[],0⟩
theorem Qmh (a:List (List Int)) (b:List (List Int)) (i:Int) (h :
 (zif (decide (i<(a.length:Int))) ((((0:Int)≤i∧Int.toNat i<a.length)∧((0:Int)≤i∧Int.toNat i<b.length))∧(zif (!(m_eq (α:=List Int) (gtd ([]:List Int) a (Int.toNat i)) (gtd ([]:List Int) b (Int.toNat i)))) (K (Y7 false)) (Qfq K a b (w64 (i+(1:Int)))))) (K (Y7 true)))):Qfq K a b i :=
 Loop.of (by kernel_rfl) h
theorem Qok (a:List (List Int)) (b:List (List Int)) (h :
 (zif ((a.length:Int) != (b.length:Int)) (K (Y7 false)) (Qfq K a b 0))):Hold (tawp Qb3 (0+0) Qnz (TQ 0 0 QlF K) (Qh [(.c (.sl [(.sl [TI])]) a),(.c (.sl [(.sl [TI])]) b)])) :=
 Hold.of (by kernel_rfl) h
theorem QtR (a:List (List Int)) (b:List (List Int)):TCon Try.prog 158 [(.c (.sl [(.sl [TI])]) a),(.c (.sl [(.sl [TI])]) b)] (Y7 (m_eq (α:=List (List Int)) a b)):=by
 refine Qn rfl fun hb=>tcg (Γ:=Qb3) (n:=27) (sg:=Qa8.sg) Qo (TOkL.cons QtC TOkL.nil) (by kernel_rfl) (by kernel_rfl) (Qok _ a b ?_)
 exact Qa1 ([]:List Int) (E:=m_eq) (fun _ _=>rfl) hb.1.1 (fun i h=>Qmh _ a b i h) (Q:=fun x=>Y7 x=Y7 (m_eq (α:=List (List Int)) a b)) rfl
theorem Qfs:Qm Try.prog Qa8:=Qp fun x _=>QtR x.1 x.2.1
def Jy (t:Bool):TRes:=zre (zcb t)
def Qd6:TRow:=Ql 99 [(.a QT),(.a QT)] fun x=>(none,Jy (m_eq (α:=QE) x.1 x.2.1))
def QjF:TTab:=⟨[Qa8],false⟩
def QsH:TCode :=
 (zsq [(.reg [zop 2 (.box 119 0 3),zop 3 (.box 119 1 3),zmv 4 (zkb false)]),(zsq [(.reg [zfa 5 2 0,zld 6 5 1,zfa 7 3 0,zld 8 7 1,zca 9 158 [6,8],zno 10 9]),(.cond 10 (zsq [(.reg [zmv 4 (zkb false)]),.ret]) .skip)]),(zsq [(.reg [zfa 11 2 1,zld 12 11 1,zfa 13 3 1,zld 14 13 1,zbi 15 .neq 12 14]),(.cond 15 (zsq [(.reg [zmv 4 (zkb false)]),.ret]) .skip)]),(zsq [(.reg [zfa 16 2 2,zld 17 16 1,zfa 18 3 2,zld 19 18 1,zop 20 (.eqb true 17 19)]),(.cond 20 (zsq [(.reg [zmv 4 (zkb false)]),.ret]) .skip)]),(.reg [zmv 4 (zkb true)]),.ret])
def Qni:List (ARv × Md):=[(.t 4,.one .d)]
theorem Qsu (a:QE) (b:QE) (h :
 (zif (!(m_eq (α:=List (List Int)) a.1 b.1)) (K (Jy false)) (zif (a.2.1 != b.2.1) (K (Jy false)) (zif (!(a.2.2==b.2.2)) (K (Jy false)) (K (Jy true)))))):Hold (tawp QjF (0+0) QsH (TQ 0 0 Qni K) (Qh [(.a (Tup.cells QT a)),(.a (Tup.cells QT b))])) :=
 Hold.of (by kernel_rfl) h
theorem QoH (a:QE) (b:QE):TCon Try.prog 99 [(.a (Tup.cells QT a)),(.a (Tup.cells QT b))] (Jy (m_eq (α:=QE) a b)):=by
 refine Qn rfl fun hb=>tcg (Γ:=QjF) (n:=21) (sg:=Qd6.sg) Qo (TOkL.cons Qfs TOkL.nil) (by kernel_rfl) (by kernel_rfl) (Qsu _ a b ?_)
 refine ⟨fun h=>R_eq (Eq.symm (decide_eq_false (by rintro rfl;simp [m_eq] at h))),fun h0=>?_⟩
 refine ⟨fun h=>R_eq (Eq.symm (decide_eq_false (by rintro rfl;simp [m_eq] at h))),fun h1=>?_⟩
 refine ⟨fun h=>R_eq (Eq.symm (decide_eq_false (by rintro rfl;simp [m_eq] at h))),fun h2=>?_⟩
 refine R_eq (Eq.symm (decide_eq_true ?_))
 simp [m_eq] at h0 h1 h2
 simp [Prod.ext_iff, *]
theorem Qno:Qm Try.prog Qd6:=Qp fun x _=>QoH x.1 x.2.1
end
end Go.Proofs.Ytephkbajoofeoaa.Am

