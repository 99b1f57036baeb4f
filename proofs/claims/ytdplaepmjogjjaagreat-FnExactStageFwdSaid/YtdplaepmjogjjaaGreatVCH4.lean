/- -/
import Derived.Test.YtdplaepmjogjjaaGreatVCH1
import Derived.Test.YtdplaepmjogjjaaGreatVCGF
namespace Go.Proofs.YtdplaepmjogjjaaGreat.Am
open Go Go.RowKit Go.Proofs.YtdplaepmjogjjaaGreat
set_option linter.all false
noncomputable section
variable (K:TRes→Prop)
def Qa9 (t:Int):TRes:=zre (zci t)
def Qh0:TRow:=Qg 55 [(.c (.sl Qr)),(.c TI)] fun x=>(some (p_sz (α:=List TIns) x.1 x.2.1),Qa9 (m_sz (α:=List TIns) x.1 x.2.1))
def Qr8:TTab:=⟨[],false⟩
def QuO:TCode :=
 (zsq [(.reg [zmv 4 (zki 0)]),(.reg [zmv 5 1,zmv 6 0,zle 7 6,zbi 8 .sub 5 7,zmv 1 8]),(zsq [(.reg [zmv 9 1,zbi 10 .lss 9 (zki 0)]),(.cond 10 (zsq [(.reg [zmv 4 (zki (-1))]),.ret]) .skip)]),(.reg [zmv 11 1,zmv 4 11]),.ret])
def QBZ:List (ARv × Md):=[(.t 4,.one .d)]
theorem QEh (a:List TIns) (left:Int) (h :
 (zif (decide ((w64 (left-(a.length:Int)))<(0:Int))) (K (Qa9 (-1:Int))) (K (Qa9 (w64 (left-(a.length:Int))))))):Hold (tawp Qr8 (0+0) QuO (TQ 0 0 QBZ K) (Qd [(.c (.sl Qr) a),(.c TI left)])) :=
 Hold.of (by kernel_rfl) h
theorem QDA (a:List TIns) (left:Int) (hp:p_sz (α:=List TIns) a left):TCon Tryz.prog 55 [(.c (.sl Qr) a),(.c TI left)] (Qa9 (m_sz (α:=List TIns) a left)):=by
 refine Qi rfl fun hb=>tcg (Γ:=Qr8) (n:=12) (sg:=Qh0.sg) Qj TOkL.nil (by kernel_rfl) (by kernel_rfl) (QEh _ a left ?_)
 exact Qkr (Q:=fun x=>Qa9 x=Qa9 (m_sz (α:=List TIns) a left)) (fun _=>rfl) hp hb.1.1 rfl
theorem Qx4:Qe Tryz.prog Qh0:=Qk fun x h=>QDA x.1 x.2.1 h
def QeL (t:Int):TRes:=zre (zci t)
def Qh5:TRow:=Qg 153 [(.a Ql),(.c TI)] fun x=>(some (p_sz (α:=Qf) x.1 x.2.1),QeL (m_sz (α:=Qf) x.1 x.2.1))
def Qpp:TTab:=⟨[QcK],false⟩
def QFJ:TCode :=
 (zsq [(.reg [zop 2 (.box 187 0 2),zmv 4 (zki 0)]),(.reg [zfa 5 2 1,zld 6 5 1,zmv 7 1,zca 8 58 [6,7],zmv 1 8]),(zsq [(.reg [zmv 9 1,zbi 10 .lss 9 (zki 0)]),(.cond 10 (zsq [(.reg [zmv 4 (zki (-1))]),.ret]) .skip)]),(.reg [zmv 11 1,zmv 4 11]),.ret])
def QB2:List (ARv × Md):=[(.t 4,.one .d)]
theorem Qyz (a:Qf) (left:Int) (h :
 ((p_sz (α:=List (List Int)) a.2 left)∧(zif (decide ((m_sz (α:=List (List Int)) a.2 left)<(0:Int))) (K (QeL (-1:Int))) (K (QeL (m_sz (α:=List (List Int)) a.2 left)))))):Hold (tawp Qpp (0+0) QFJ (TQ 0 0 QB2 K) (Qd [(.a [(.c TI a.1),(.c (.sl [(.sl [TI])]) a.2)]),(.c TI left)])) :=
 Hold.of (by kernel_rfl) h
theorem QBH (a:Qf) (left:Int) (hp:p_sz (α:=Qf) a left):TCon Tryz.prog 153 [(.a [(.c TI a.1),(.c (.sl [(.sl [TI])]) a.2)]),(.c TI left)] (QeL (m_sz (α:=Qf) a left)):=by
 refine Qi rfl fun hb=>tcg (Γ:=Qpp) (n:=12) (sg:=Qh5.sg) Qj (TOkL.cons Qki TOkL.nil) (by kernel_rfl) (by kernel_rfl) (Qyz _ a left ?_)
 refine ⟨hp,fun h=>R_eq (Yd (of_decide_eq_true h) (by first | omega | (simp only [QX,QV,Q5];omega)) hp.1),fun h=>?_⟩
 exact R_eq (congrArg (ZO · _) (by first | rfl | omega | (simp only [QX,QV,Q5];omega)))
theorem Qvs:Qe Tryz.prog Qh5:=Qk fun x h=>QBH x.1 x.2.1 h
def J3 (t:Int):TRes:=zre (zci t)
def Qge:TRow:=Qg 57 [(.c (.sl Ql)),(.c TI)] fun x=>(some (p_sz (α:=List Qf) x.1 x.2.1),J3 (m_sz (α:=List Qf) x.1 x.2.1))
def QfN:TTab:=⟨[Qh5],false⟩
def QtQ:TCode :=
 (zsq [(zsq [(.reg [zmv 12 5,zmv 13 0,zle 14 13,zbi 15 .lss 12 14]),(.cond 15 .skip (.exit 0))]),(.block 1 (zsq [(.reg [zmv 18 0,zmv 19 5,zia 20 18 19 Ql,zLd 21 20 2,zmv 22 1,zca 23 153 [21,22],zmv 1 23]),(.reg [zmv 24 1,zbi 25 .lss 24 (zki 0)]),(.cond 25 (zsq [(.reg [zmv 4 (zki (-1))]),.ret]) .skip)])),(.reg [zmv 16 5,zbi 17 .add 16 (zki 1),zmv 5 17])])
def Qsq:List (Nat × Md):=zdl [0,1,5]
def Qsp:TCode :=
 (zsq [(.reg [zmv 26 1,zmv 4 26]),.ret])
def QBP:TCode :=
 (zsq [(.reg [zmv 4 (zki 0)]),(.reg [zmv 6 1,zmv 7 0,zle 8 7,zbi 9 .sub 6 8,zmv 1 9]),(zsq [(.reg [zmv 10 1,zbi 11 .lss 10 (zki 0)]),(.cond 11 (zsq [(.reg [zmv 4 (zki (-1))]),.ret]) .skip)]),(zsq [(.reg [zmv 5 (zki 0)]),(.block 0 (.loop Qsq QtQ))]),Qsp])
def Qk1:List (ARv × Md):=[(.t 4,.one .d)]
def QlG:Qb:=TQ 0 0 Qk1 K
def QDd:Qb:=Qseq (tawp QfN 0 Qsp (QlG K)) (QlG K)
def QBK:Qb:=Qblk 0 (QDd K)
def Qhq (a:List Qf) (left1:Int) (i:Int):Prop:=Loop QfN 0 Qsq QtQ (QBK K) ⟨[(0,(zcs Ql a)),(1,(zci left1)),(5,(zci i))],[],0⟩
theorem Qyd (a:List Qf) (left1:Int) (i:Int) (h :
 (zif (decide (i<(a.length:Int))) ((((0:Int)≤i∧Int.toNat i<a.length)∧(p_sz (α:=Qf) (gtd QS a (Int.toNat i)) left1))∧(zif (decide ((m_sz (α:=Qf) (gtd QS a (Int.toNat i)) left1)<(0:Int))) (K (J3 (-1:Int))) (Qhq K a (m_sz (α:=Qf) (gtd QS a (Int.toNat i)) left1) (w64 (i+(1:Int)))))) (K (J3 left1)))):Qhq K a left1 i :=
 Loop.of (by kernel_rfl) h
theorem QDl (a:List Qf) (left:Int) (h :
 (zif (decide ((w64 (left-(a.length:Int)))<(0:Int))) (K (J3 (-1:Int))) (Qhq K a (w64 (left-(a.length:Int))) 0))):Hold (tawp QfN (0+0) QBP (TQ 0 0 Qk1 K) (Qd [(.c (.sl Ql) a),(.c TI left)])) :=
 Hold.of (by kernel_rfl) h
theorem QvK (a:List Qf) (left:Int) (hp:p_sz (α:=List Qf) a left):TCon Tryz.prog 57 [(.c (.sl Ql) a),(.c TI left)] (J3 (m_sz (α:=List Qf) a left)):=by
 refine Qi rfl fun hb=>tcg (Γ:=QfN) (n:=27) (sg:=Qge.sg) Qj (TOkL.cons Qvs TOkL.nil) (by kernel_rfl) (by kernel_rfl) (QDl _ a left ?_)
 exact QhK (Q:=fun x=>J3 x=J3 (m_sz (α:=List Qf) a left)) QS hp hb.1.1 (fun l i h=>Qyd _ a l i h) rfl
theorem QGu:Qe Tryz.prog Qge:=Qk fun x h=>QvK x.1 x.2.1 h
def Qhl (t:TIns):TRes:=zre (.a [(zci t.1),(zci t.2)])
def QjV:TRow:=Qg 161 [(.a Qr)] fun x=>(some (p_to (α:=TIns) x.1),Qhl (id (α:=TIns) x.1))
def QrY:TTab:=⟨[],true⟩
def QGp:TCode :=
 (zsq [(.reg [zop 1 (.box 195 0 2),zop 2 (.new 175 (z0s Qr))]),(.reg [zop 3 (.new 175 (z0s Qr))]),(.reg [zfa 4 1 0,zld 5 4 1,zfa 6 3 0,zst 6 5 1]),(.reg [zfa 7 1 1,zld 8 7 1,zfa 9 3 1,zst 9 8 1]),(.reg [zLd 10 3 2,zst 2 10 2]),.ret])
def QE5:List (ARv × Md):=[(.l 2 2 true,.b [.d,.d])]
theorem QvG (a:TIns) (h :
 K (Qhl a)):Hold (tawp QrY (0+0) QGp (TQ 0 0 QE5 K) (Qd [(.a [(.c TI a.1),(.c TI a.2)])])) :=
 Hold.of (by kernel_rfl) h
theorem Qwm (a:TIns) (hp:p_to (α:=TIns) a):TCon Tryz.prog 161 [(.a [(.c TI a.1),(.c TI a.2)])] (Qhl (id (α:=TIns) a)):=by
 refine Qi rfl fun hb=>tcg (Γ:=QrY) (n:=11) (sg:=QjV.sg) Qj TOkL.nil (by kernel_rfl) (by kernel_rfl) (QvG _ a ?_)
 exact R_eq rfl
theorem QDi:Qe Tryz.prog QjV:=Qk fun x h=>Qwm x.1 h
def JO (t:(List TIns)):TRes:=⟨(.r Qr 0 0 t.length),[(.sl 175 Qr (.dp 0 true []) t)],[],false,[]⟩
def Qi7:TRow:=Qg 65 [(.c (.sl Qr))] fun x=>(some (p_to (α:=List TIns) x.1),JO (id (α:=List TIns) x.1))
def Qdz:TTab:=⟨[QjV],true⟩
def QsB:TCode :=
 (zsq [(zsq [(.reg [zmv 8 4,zmv 9 0,zle 10 9,zbi 11 .lss 8 10]),(.cond 11 .skip (.exit 0))]),(.block 1 (.reg [zmv 14 3,zmv 15 4,zmv 16 0,zmv 17 4,zia 18 16 17 Qr,zLd 19 18 2,zca 20 161 [19],zia 21 14 15 Qr,zst 21 20 2])),(.reg [zmv 12 4,zbi 13 .add 12 (zki 1),zmv 4 13])])
def Qpu:List (Nat × Md):=[(0,.one .d),(3,.one .f),(4,.one .d)]
def Qpe:TCode :=
 (zsq [(.reg [zmv 22 3,zmv 2 22]),.ret])
def QC3:TCode :=
 (zsq [(.reg [zmv 2 (.k (.n Qr))]),(.reg [zmv 5 0,zle 6 5,zop 7 (.mk 175 Qr (z0s Qr) 6),zmv 3 7]),(zsq [(.reg [zmv 4 (zki 0)]),(.block 0 (.loop Qpu QsB))]),Qpe])
def QtG:List (ARv × Md):=[(.t 2,.one (.p 175))]
def Qqo:Qb:=TQ 0 0 QtG K
def QAT:Qb:=Qseq (tawp Qdz 0 Qpe (Qqo K)) (Qqo K)
def Qw0:Qb:=Qblk 0 (QAT K)
def Qe0 (a:List TIns) (i:Int) (out:List TIns):Prop:=Loop Qdz 0 Qpu QsB (Qw0 K) ⟨[(0,(zcs Qr a)),(3,(.r Qr 0 0 out.length)),(4,(zci i))],[(0,(.sl 175 Qr (.dp 0 true []) out))],1⟩
theorem Qtn (a:List TIns) (i:Int) (out:List TIns) (h :
 (zif (decide (i<(a.length:Int))) ((((0:Int)≤i∧Int.toNat i<a.length)∧((p_to (α:=TIns) (gtd dIns a (Int.toNat i)))∧(((0:Int)≤i∧Int.toNat i<out.length)∧((0+(Int.toNat i))<out.length))))∧(Qe0 K a (w64 (i+(1:Int))) (List.take out.length ((out).set (0+(Int.toNat i)) (id (α:=TIns) (gtd dIns a (Int.toNat i))))))) (K (JO (List.take out.length out))))):Qe0 K a i out :=
 Loop.of (by kernel_rfl) h
theorem QHo (a:List TIns) (h :
 (((0:Int)≤(a.length:Int)∧(a.length:Int)≤big)∧(Qe0 K a 0 (List.take (Int.toNat (a.length:Int)) (List.replicate (Int.toNat (a.length:Int)) ((0:Int),(0:Int))))))):Hold (tawp Qdz (0+0) QC3 (TQ 0 0 QtG K) (Qd [(.c (.sl Qr) a)])) :=
 Hold.of (by kernel_rfl) h
theorem QuW (a:List TIns) (hp:p_to (α:=List TIns) a):TCon Tryz.prog 65 [(.c (.sl Qr) a)] (JO (id (α:=List TIns) a)):=by
 refine Qi rfl fun hb=>tcg (Γ:=Qdz) (n:=23) (sg:=Qi7.sg) Qj (TOkL.cons QDi TOkL.nil) (by kernel_rfl) (by kernel_rfl) (QHo _ a ?_)
 refine ⟨⟨by omega,by rw [bigI];have:=YF hp;omega⟩,?_⟩
 refine QbW a (A:=fun ii ll=>Qe0 (fun r'=>r'=JO (id (α:=List TIns) a)) a ii ll) (Q:=fun z=>JO z=JO (id (α:=List TIns) a)) hp ?_ ?_ rfl
 ·intro k x out hlt hg ho hx hA
  have hw:w64 (((k:Nat):Int)+1)=((k+1:Nat):Int):=by have:=YF hp;rw [Qv (by omega) (by omega)];omega
  have hlo:k<out.length:=by omega
  refine Qtn (fun r'=>r'=JO (id (α:=List TIns) a)) a ((k:Nat):Int) out ?_
  refine ⟨fun _=>?_,fun h=>absurd h (by simp;omega)⟩
  simp only [Int.toNat_natCast,Nat.zero_add,hg,hw,hlt,hlo,QcS,List.drop_zero,List.take_length,id_eq,and_true,true_and,Int.natCast_nonneg]
  first | exact hA | exact ⟨hx,hA⟩
 ·intro out ho hq
  refine Qtn (fun r'=>r'=JO (id (α:=List TIns) a)) a ((a.length:Nat):Int) out ?_
  refine ⟨fun h=>absurd h (by simp),fun _=>?_⟩
  simp only [List.drop_zero,List.take_length]
  exact hq
theorem Qv6:Qe Tryz.prog Qi7:=Qk fun x h=>QuW x.1 h
def QjL (t:Qf):TRes:=⟨(.a [(zci t.1),(.r [(.sl [TI])] 0 0 ((t.2).length))]),[(.sl 106 [(.sl [TI])] (.dp 0 true []) t.2)],[],false,[]⟩
def Qgj:TRow:=Qg 163 [(.a Ql)] fun x=>(some (p_to (α:=Qf) x.1),QjL (id (α:=Qf) x.1))
def Qp4:TTab:=⟨[QbP],true⟩
def QA2:TCode :=
 (zsq [(.reg [zop 1 (.box 187 0 2),zop 2 (.new 108 (z0s Ql))]),(.reg [zop 3 (.new 108 (z0s Ql))]),(.reg [zfa 4 1 0,zld 5 4 1,zfa 6 3 0,zst 6 5 1]),(.reg [zfa 7 1 1,zld 8 7 1,zca 9 68 [8],zfa 10 3 1,zst 10 9 1]),(.reg [zLd 11 3 2,zst 2 11 2]),.ret])
def QCm:List (ARv × Md):=[(.l 2 2 true,.b [.d,.p 106])]
theorem QyY (a:Qf) (h :
 ((p_to (α:=List (List Int)) a.2)∧K (QjL (a.1,(List.take ((id (α:=List (List Int)) a.2).length) (id (α:=List (List Int)) a.2)))))):Hold (tawp Qp4 (0+0) QA2 (TQ 0 0 QCm K) (Qd [(.a [(.c TI a.1),(.c (.sl [(.sl [TI])]) a.2)])])) :=
 Hold.of (by kernel_rfl) h
theorem QxI (a:Qf) (hp:p_to (α:=Qf) a):TCon Tryz.prog 163 [(.a [(.c TI a.1),(.c (.sl [(.sl [TI])]) a.2)])] (QjL (id (α:=Qf) a)):=by
 refine Qi rfl fun hb=>tcg (Γ:=Qp4) (n:=12) (sg:=Qgj.sg) Qj (TOkL.cons Qgt TOkL.nil) (by kernel_rfl) (by kernel_rfl) (QyY _ a ?_)
 repeat' (first | refine And.intro ?_ ?_ | exact R_eq (by simp))
 all_goals (simp only [p_to,QX,QV,Q5,List.drop_zero,List.take_length,id_eq] at hp ⊢;omega)
theorem QFI:Qe Tryz.prog Qgj:=Qk fun x h=>QxI x.1 h
def JP (t:(List Qf)):TRes:=⟨(.r Ql 0 0 t.length),[(.sl 108 Ql (.dp 0 true []) t)],[],false,[]⟩
def QjS:TRow:=Qg 67 [(.c (.sl Ql))] fun x=>(some (p_to (α:=List Qf) x.1),JP (id (α:=List Qf) x.1))
def Qft:TTab:=⟨[Qgj],true⟩
def Qtx:TCode :=
 (zsq [(zsq [(.reg [zmv 8 4,zmv 9 0,zle 10 9,zbi 11 .lss 8 10]),(.cond 11 .skip (.exit 0))]),(.block 1 (.reg [zmv 14 3,zmv 15 4,zmv 16 0,zmv 17 4,zia 18 16 17 Ql,zLd 19 18 2,zca 20 163 [19],zia 21 14 15 Ql,zst 21 20 2])),(.reg [zmv 12 4,zbi 13 .add 12 (zki 1),zmv 4 13])])
def Qtt:List (Nat × Md):=[(0,.one .d),(3,.one .f),(4,.one .d)]
def Qsr:TCode :=
 (zsq [(.reg [zmv 22 3,zmv 2 22]),.ret])
def QB5:TCode :=
 (zsq [(.reg [zmv 2 (.k (.n Ql))]),(.reg [zmv 5 0,zle 6 5,zop 7 (.mk 108 Ql (z0s Ql) 6),zmv 3 7]),(zsq [(.reg [zmv 4 (zki 0)]),(.block 0 (.loop Qtt Qtx))]),Qsr])
def Qmi:List (ARv × Md):=[(.t 2,.one (.p 108))]
def Qs5:Qb:=TQ 0 0 Qmi K
def QwS:Qb:=Qseq (tawp Qft 0 Qsr (Qs5 K)) (Qs5 K)
def QFs:Qb:=Qblk 0 (QwS K)
def QdC (a:List Qf) (i:Int) (out:List Qf):Prop:=Loop Qft 0 Qtt Qtx (QFs K) ⟨[(0,(zcs Ql a)),(3,(.r Ql 0 0 out.length)),(4,(zci i))],[(0,(.sl 108 Ql (.dp 0 true []) out))],1⟩
theorem Qt8 (a:List Qf) (i:Int) (out:List Qf) (h :
 (zif (decide (i<(a.length:Int))) ((((0:Int)≤i∧Int.toNat i<a.length)∧((p_to (α:=Qf) (gtd QS a (Int.toNat i)))∧(((0:Int)≤i∧Int.toNat i<out.length)∧((0+(Int.toNat i))<out.length))))∧(QdC K a (w64 (i+(1:Int))) (List.take out.length ((out).set (0+(Int.toNat i)) ((id (α:=Qf) (gtd QS a (Int.toNat i))).1,(List.take (((id (α:=Qf) (gtd QS a (Int.toNat i))).2).length) (List.drop 0 ((id (α:=Qf) (gtd QS a (Int.toNat i))).2)))))))) (K (JP (List.take out.length out))))):QdC K a i out :=
 Loop.of (by kernel_rfl) h
theorem QEb (a:List Qf) (h :
 (((0:Int)≤(a.length:Int)∧(a.length:Int)≤big)∧(QdC K a 0 (List.take (Int.toNat (a.length:Int)) (List.replicate (Int.toNat (a.length:Int)) ((0:Int),[])))))):Hold (tawp Qft (0+0) QB5 (TQ 0 0 Qmi K) (Qd [(.c (.sl Ql) a)])) :=
 Hold.of (by kernel_rfl) h
theorem Qzy (a:List Qf) (hp:p_to (α:=List Qf) a):TCon Tryz.prog 67 [(.c (.sl Ql) a)] (JP (id (α:=List Qf) a)):=by
 refine Qi rfl fun hb=>tcg (Γ:=Qft) (n:=23) (sg:=QjS.sg) Qj (TOkL.cons QFI TOkL.nil) (by kernel_rfl) (by kernel_rfl) (QEb _ a ?_)
 refine ⟨⟨by omega,by rw [bigI];have:=YF hp;omega⟩,?_⟩
 refine QbW a (A:=fun ii ll=>QdC (fun r'=>r'=JP (id (α:=List Qf) a)) a ii ll) (Q:=fun z=>JP z=JP (id (α:=List Qf) a)) hp ?_ ?_ rfl
 ·intro k x out hlt hg ho hx hA
  have hw:w64 (((k:Nat):Int)+1)=((k+1:Nat):Int):=by have:=YF hp;rw [Qv (by omega) (by omega)];omega
  have hlo:k<out.length:=by omega
  refine Qt8 (fun r'=>r'=JP (id (α:=List Qf) a)) a ((k:Nat):Int) out ?_
  refine ⟨fun _=>?_,fun h=>absurd h (by simp;omega)⟩
  simp only [Int.toNat_natCast,Nat.zero_add,hg,hw,hlt,hlo,QcS,List.drop_zero,List.take_length,id_eq,and_true,true_and,Int.natCast_nonneg]
  first | exact hA | exact ⟨hx,hA⟩
 ·intro out ho hq
  refine Qt8 (fun r'=>r'=JP (id (α:=List Qf) a)) a ((a.length:Nat):Int) out ?_
  refine ⟨fun h=>absurd h (by simp),fun _=>?_⟩
  simp only [List.drop_zero,List.take_length]
  exact hq
theorem QE2:Qe Tryz.prog QjS:=Qk fun x h=>Qzy x.1 h
def QcM (t:Bool):TRes:=zre (zcb t)
def Qg5:TRow:=Qg 171 [(.a Qr),(.a Qr)] fun x=>(none,QcM (m_eq (α:=TIns) x.1 x.2.1))
def QmI:TTab:=⟨[],false⟩
def QGs:TCode :=
 (zsq [(.reg [zop 2 (.box 175 0 2),zop 3 (.box 175 1 2),zmv 4 (zkb false)]),(zsq [(.reg [zfa 5 2 0,zld 6 5 1,zfa 7 3 0,zld 8 7 1,zbi 9 .neq 6 8]),(.cond 9 (zsq [(.reg [zmv 4 (zkb false)]),.ret]) .skip)]),(zsq [(.reg [zfa 10 2 1,zld 11 10 1,zfa 12 3 1,zld 13 12 1,zbi 14 .neq 11 13]),(.cond 14 (zsq [(.reg [zmv 4 (zkb false)]),.ret]) .skip)]),(.reg [zmv 4 (zkb true)]),.ret])
def Qza:List (ARv × Md):=[(.t 4,.one .d)]
theorem QE4 (a:TIns) (b:TIns) (h :
 (zif (a.1 != b.1) (K (QcM false)) (zif (a.2 != b.2) (K (QcM false)) (K (QcM true))))):Hold (tawp QmI (0+0) QGs (TQ 0 0 Qza K) (Qd [(.a [(.c TI a.1),(.c TI a.2)]),(.a [(.c TI b.1),(.c TI b.2)])])) :=
 Hold.of (by kernel_rfl) h
theorem QG7 (a:TIns) (b:TIns):TCon Tryz.prog 171 [(.a [(.c TI a.1),(.c TI a.2)]),(.a [(.c TI b.1),(.c TI b.2)])] (QcM (m_eq (α:=TIns) a b)):=by
 refine Qi rfl fun hb=>tcg (Γ:=QmI) (n:=15) (sg:=Qg5.sg) Qj TOkL.nil (by kernel_rfl) (by kernel_rfl) (QE4 _ a b ?_)
 refine ⟨fun h=>R_eq (Eq.symm (decide_eq_false (by rintro rfl;simp [m_eq] at h))),fun h0=>?_⟩
 refine ⟨fun h=>R_eq (Eq.symm (decide_eq_false (by rintro rfl;simp [m_eq] at h))),fun h1=>?_⟩
 refine R_eq (Eq.symm (decide_eq_true ?_))
 simp [m_eq] at h0 h1
 simp [Prod.ext_iff, *]
theorem QD9:Qe Tryz.prog Qg5:=Qk fun x _=>QG7 x.1 x.2.1
def QaT (t:Bool):TRes:=zre (zcb t)
def QjH:TRow:=Qg 75 [(.c (.sl Qr)),(.c (.sl Qr))] fun x=>(none,QaT (m_eq (α:=List TIns) x.1 x.2.1))
def Qdi:TTab:=⟨[Qg5],false⟩
def Qt2:TCode :=
 (zsq [(zsq [(.reg [zmv 11 5,zmv 12 0,zle 13 12,zbi 14 .lss 11 13]),(.cond 14 .skip (.exit 0))]),(.block 1 (zsq [(.draw [zmv 17 0,zmv 18 5,zia 19 17 18 Qr,zLd 20 19 2,zmv 21 1,zmv 22 5,zia 23 21 22 Qr,zLd 24 23 2,zca 25 171 [20,24],zno 26 25] []),(.cond 26 (zsq [(.reg [zmv 4 (zkb false)]),.ret]) .skip)])),(.reg [zmv 15 5,zbi 16 .add 15 (zki 1),zmv 5 16])])
def QqW:List (Nat × Md):=zdl [0,1,5]
def Qko:TCode :=
 (zsq [(.reg [zmv 4 (zkb true)]),.ret])
def QIa:TCode :=
 (zsq [(.reg [zmv 4 (zkb false)]),(zsq [(.reg [zmv 6 0,zle 7 6,zmv 8 1,zle 9 8,zbi 10 .neq 7 9]),(.cond 10 (zsq [(.reg [zmv 4 (zkb false)]),.ret]) .skip)]),(zsq [(.reg [zmv 5 (zki 0)]),(.block 0 (.loop QqW Qt2))]),Qko])
def QtO:List (ARv × Md):=[(.t 4,.one .d)]
def Qty:Qb:=TQ 0 0 QtO K
def Qzg:Qb:=Qseq (tawp Qdi 0 Qko (Qty K)) (Qty K)
def QFx:Qb:=Qblk 0 (Qzg K)
def QjG (a:List TIns) (b:List TIns) (i:Int):Prop:=Loop Qdi 0 QqW Qt2 (QFx K) ⟨[(0,(zcs Qr a)),(1,(zcs Qr b)),(5,(zci i))],[],0⟩
theorem QxU (a:List TIns) (b:List TIns) (i:Int) (h :
 (zif (decide (i<(a.length:Int))) ((((0:Int)≤i∧Int.toNat i<a.length)∧((0:Int)≤i∧Int.toNat i<b.length))∧(zif (!(m_eq (α:=TIns) (gtd dIns a (Int.toNat i)) (gtd dIns b (Int.toNat i)))) (K (QaT false)) (QjG K a b (w64 (i+(1:Int)))))) (K (QaT true)))):QjG K a b i :=
 Loop.of (by kernel_rfl) h
theorem QuT (a:List TIns) (b:List TIns) (h :
 (zif ((a.length:Int) != (b.length:Int)) (K (QaT false)) (QjG K a b 0))):Hold (tawp Qdi (0+0) QIa (TQ 0 0 QtO K) (Qd [(.c (.sl Qr) a),(.c (.sl Qr) b)])) :=
 Hold.of (by kernel_rfl) h
theorem QCe (a:List TIns) (b:List TIns):TCon Tryz.prog 75 [(.c (.sl Qr) a),(.c (.sl Qr) b)] (QaT (m_eq (α:=List TIns) a b)):=by
 refine Qi rfl fun hb=>tcg (Γ:=Qdi) (n:=27) (sg:=QjH.sg) Qj (TOkL.cons QD9 TOkL.nil) (by kernel_rfl) (by kernel_rfl) (QuT _ a b ?_)
 exact QcP dIns (E:=m_eq) (fun _ _=>rfl) hb.1.1 (fun i h=>QxU _ a b i h) (Q:=fun x=>QaT x=QaT (m_eq (α:=List TIns) a b)) rfl
theorem QGO:Qe Tryz.prog QjH:=Qk fun x _=>QCe x.1 x.2.1
def QbR (t:Bool):TRes:=zre (zcb t)
def QgW:TRow:=Qg 173 [(.a Ql),(.a Ql)] fun x=>(none,QbR (m_eq (α:=Qf) x.1 x.2.1))
def Qq6:TTab:=⟨[Qcm],false⟩
def Qz7:TCode :=
 (zsq [(.reg [zop 2 (.box 108 0 2),zop 3 (.box 108 1 2),zmv 4 (zkb false)]),(zsq [(.reg [zfa 5 2 0,zld 6 5 1,zfa 7 3 0,zld 8 7 1,zbi 9 .neq 6 8]),(.cond 9 (zsq [(.reg [zmv 4 (zkb false)]),.ret]) .skip)]),(zsq [(.reg [zfa 10 2 1,zld 11 10 1,zfa 12 3 1,zld 13 12 1,zca 14 78 [11,13],zno 15 14]),(.cond 15 (zsq [(.reg [zmv 4 (zkb false)]),.ret]) .skip)]),(.reg [zmv 4 (zkb true)]),.ret])
def QDk:List (ARv × Md):=[(.t 4,.one .d)]
theorem QvJ (a:Qf) (b:Qf) (h :
 (zif (a.1 != b.1) (K (QbR false)) (zif (!(m_eq (α:=List (List Int)) a.2 b.2)) (K (QbR false)) (K (QbR true))))):Hold (tawp Qq6 (0+0) Qz7 (TQ 0 0 QDk K) (Qd [(.a [(.c TI a.1),(.c (.sl [(.sl [TI])]) a.2)]),(.a [(.c TI b.1),(.c (.sl [(.sl [TI])]) b.2)])])) :=
 Hold.of (by kernel_rfl) h
theorem Qwy (a:Qf) (b:Qf):TCon Tryz.prog 173 [(.a [(.c TI a.1),(.c (.sl [(.sl [TI])]) a.2)]),(.a [(.c TI b.1),(.c (.sl [(.sl [TI])]) b.2)])] (QbR (m_eq (α:=Qf) a b)):=by
 refine Qi rfl fun hb=>tcg (Γ:=Qq6) (n:=16) (sg:=QgW.sg) Qj (TOkL.cons Qga TOkL.nil) (by kernel_rfl) (by kernel_rfl) (QvJ _ a b ?_)
 refine ⟨fun h=>R_eq (Eq.symm (decide_eq_false (by rintro rfl;simp [m_eq] at h))),fun h0=>?_⟩
 refine ⟨fun h=>R_eq (Eq.symm (decide_eq_false (by rintro rfl;simp [m_eq] at h))),fun h1=>?_⟩
 refine R_eq (Eq.symm (decide_eq_true ?_))
 simp [m_eq] at h0 h1
 simp [Prod.ext_iff, *]
theorem QFA:Qe Tryz.prog QgW:=Qk fun x _=>Qwy x.1 x.2.1
def J8 (t:Bool):TRes:=zre (zcb t)
def Qf6:TRow:=Qg 77 [(.c (.sl Ql)),(.c (.sl Ql))] fun x=>(none,J8 (m_eq (α:=List Qf) x.1 x.2.1))
def QfE:TTab:=⟨[QgW],false⟩
def Qps:TCode :=
 (zsq [(zsq [(.reg [zmv 11 5,zmv 12 0,zle 13 12,zbi 14 .lss 11 13]),(.cond 14 .skip (.exit 0))]),(.block 1 (zsq [(.draw [zmv 17 0,zmv 18 5,zia 19 17 18 Ql,zLd 20 19 2,zmv 21 1,zmv 22 5,zia 23 21 22 Ql,zLd 24 23 2,zca 25 173 [20,24],zno 26 25] []),(.cond 26 (zsq [(.reg [zmv 4 (zkb false)]),.ret]) .skip)])),(.reg [zmv 15 5,zbi 16 .add 15 (zki 1),zmv 5 16])])
def Qsc:List (Nat × Md):=zdl [0,1,5]
def Qtv:TCode :=
 (zsq [(.reg [zmv 4 (zkb true)]),.ret])
def QDI:TCode :=
 (zsq [(.reg [zmv 4 (zkb false)]),(zsq [(.reg [zmv 6 0,zle 7 6,zmv 8 1,zle 9 8,zbi 10 .neq 7 9]),(.cond 10 (zsq [(.reg [zmv 4 (zkb false)]),.ret]) .skip)]),(zsq [(.reg [zmv 5 (zki 0)]),(.block 0 (.loop Qsc Qps))]),Qtv])
def Qnr:List (ARv × Md):=[(.t 4,.one .d)]
def QtR:Qb:=TQ 0 0 Qnr K
def QFK:Qb:=Qseq (tawp QfE 0 Qtv (QtR K)) (QtR K)
def QDM:Qb:=Qblk 0 (QFK K)
def QhU (a:List Qf) (b:List Qf) (i:Int):Prop:=Loop QfE 0 Qsc Qps (QDM K) ⟨[(0,(zcs Ql a)),(1,(zcs Ql b)),(5,(zci i))],[],0⟩
theorem QuJ (a:List Qf) (b:List Qf) (i:Int) (h :
 (zif (decide (i<(a.length:Int))) ((((0:Int)≤i∧Int.toNat i<a.length)∧((0:Int)≤i∧Int.toNat i<b.length))∧(zif (!(m_eq (α:=Qf) (gtd QS a (Int.toNat i)) (gtd QS b (Int.toNat i)))) (K (J8 false)) (QhU K a b (w64 (i+(1:Int)))))) (K (J8 true)))):QhU K a b i :=
 Loop.of (by kernel_rfl) h
theorem QGT (a:List Qf) (b:List Qf) (h :
 (zif ((a.length:Int) != (b.length:Int)) (K (J8 false)) (QhU K a b 0))):Hold (tawp QfE (0+0) QDI (TQ 0 0 Qnr K) (Qd [(.c (.sl Ql) a),(.c (.sl Ql) b)])) :=
 Hold.of (by kernel_rfl) h
theorem Qve (a:List Qf) (b:List Qf):TCon Tryz.prog 77 [(.c (.sl Ql) a),(.c (.sl Ql) b)] (J8 (m_eq (α:=List Qf) a b)):=by
 refine Qi rfl fun hb=>tcg (Γ:=QfE) (n:=27) (sg:=Qf6.sg) Qj (TOkL.cons QFA TOkL.nil) (by kernel_rfl) (by kernel_rfl) (QGT _ a b ?_)
 exact QcP QS (E:=m_eq) (fun _ _=>rfl) hb.1.1 (fun i h=>QuJ _ a b i h) (Q:=fun x=>J8 x=J8 (m_eq (α:=List Qf) a b)) rfl
theorem QHK:Qe Tryz.prog Qf6:=Qk fun x _=>Qve x.1 x.2.1
end
end Go.Proofs.YtdplaepmjogjjaaGreat.Am

