/- -/
import Derived.Test.YtdplaepmjogjjaaGreatVDH1
import Derived.Test.YtdplaepmjogjjaaGreatVDGF
namespace Go.Proofs.YtdplaepmjogjjaaGreat.Am
open Go Go.RowKit Go.Proofs.YtdplaepmjogjjaaGreat
set_option linter.all false
noncomputable section
variable (K:TRes→Prop)
def QbU (t:Int):TRes:=zre (zci t)
def Qin:TRow:=Qg 55 [(.c (.sl Qt)),(.c TI)] fun x=>(some (p_sz (α:=List TIns) x.1 x.2.1),QbU (m_sz (α:=List TIns) x.1 x.2.1))
def QlC:TTab:=⟨[],false⟩
def QwD:TCode :=
 (zsq [(.reg [zmv 4 (zki 0)]),(.reg [zmv 5 1,zmv 6 0,zle 7 6,zbi 8 .sub 5 7,zmv 1 8]),(zsq [(.reg [zmv 9 1,zbi 10 .lss 9 (zki 0)]),(.cond 10 (zsq [(.reg [zmv 4 (zki (-1))]),.ret]) .skip)]),(.reg [zmv 11 1,zmv 4 11]),.ret])
def QIV:List (ARv × Md):=[(.t 4,.one .d)]
theorem QB2 (a:List TIns) (left:Int) (h :
 (zif (decide ((w64 (left-(a.length:Int)))<(0:Int))) (K (QbU (-1:Int))) (K (QbU (w64 (left-(a.length:Int))))))):Hold (tawp QlC (0+0) QwD (TQ 0 0 QIV K) (Qd [(.c (.sl Qt) a),(.c TI left)])) :=
 Hold.of (by kernel_rfl) h
theorem QEp (a:List TIns) (left:Int) (hp:p_sz (α:=List TIns) a left):TCon Tryz.prog 55 [(.c (.sl Qt) a),(.c TI left)] (QbU (m_sz (α:=List TIns) a left)):=by
 refine Qh rfl fun hb=>tcg (Γ:=QlC) (n:=12) (sg:=Qin.sg) Qi TOkL.nil (by kernel_rfl) (by kernel_rfl) (QB2 _ a left ?_)
 exact QmK (Q:=fun x=>QbU x=QbU (m_sz (α:=List TIns) a left)) (fun _=>rfl) hp hb.1.1 rfl
theorem QBx:Qf Tryz.prog Qin:=Qj fun x h=>QEp x.1 x.2.1 h
def Qd6 (t:Int):TRes:=zre (zci t)
def Qha:TRow:=Qg 153 [(.a Ql),(.c TI)] fun x=>(some (p_sz (α:=Qe) x.1 x.2.1),Qd6 (m_sz (α:=Qe) x.1 x.2.1))
def Qqe:TTab:=⟨[Qdm],false⟩
def Qv9:TCode :=
 (zsq [(.reg [zop 2 (.box 187 0 2),zmv 4 (zki 0)]),(.reg [zfa 5 2 1,zld 6 5 1,zmv 7 1,zca 8 58 [6,7],zmv 1 8]),(zsq [(.reg [zmv 9 1,zbi 10 .lss 9 (zki 0)]),(.cond 10 (zsq [(.reg [zmv 4 (zki (-1))]),.ret]) .skip)]),(.reg [zmv 11 1,zmv 4 11]),.ret])
def QIK:List (ARv × Md):=[(.t 4,.one .d)]
theorem QJI (a:Qe) (left:Int) (h :
 ((p_sz (α:=List (List Int)) a.2 left)∧(zif (decide ((m_sz (α:=List (List Int)) a.2 left)<(0:Int))) (K (Qd6 (-1:Int))) (K (Qd6 (m_sz (α:=List (List Int)) a.2 left)))))):Hold (tawp Qqe (0+0) Qv9 (TQ 0 0 QIK K) (Qd [(.a [(.c TI a.1),(.c (.sl [(.sl [TI])]) a.2)]),(.c TI left)])) :=
 Hold.of (by kernel_rfl) h
theorem QCl (a:Qe) (left:Int) (hp:p_sz (α:=Qe) a left):TCon Tryz.prog 153 [(.a [(.c TI a.1),(.c (.sl [(.sl [TI])]) a.2)]),(.c TI left)] (Qd6 (m_sz (α:=Qe) a left)):=by
 refine Qh rfl fun hb=>tcg (Γ:=Qqe) (n:=12) (sg:=Qha.sg) Qi (TOkL.cons QiC TOkL.nil) (by kernel_rfl) (by kernel_rfl) (QJI _ a left ?_)
 refine ⟨hp,fun h=>R_eq (Yl (of_decide_eq_true h) (by first | omega | (simp only [QZ,QK,Q0];omega)) hp.1),fun h=>?_⟩
 exact R_eq (congrArg (Z1 · _) (by first | rfl | omega | (simp only [QZ,QK,Q0];omega)))
theorem QD0:Qf Tryz.prog Qha:=Qj fun x h=>QCl x.1 x.2.1 h
def Qah (t:Int):TRes:=zre (zci t)
def QhG:TRow:=Qg 57 [(.c (.sl Ql)),(.c TI)] fun x=>(some (p_sz (α:=List Qe) x.1 x.2.1),Qah (m_sz (α:=List Qe) x.1 x.2.1))
def Qgi:TTab:=⟨[Qha],false⟩
def Qui:TCode :=
 (zsq [(zsq [(.reg [zmv 12 5,zmv 13 0,zle 14 13,zbi 15 .lss 12 14]),(.cond 15 .skip (.exit 0))]),(.block 1 (zsq [(.reg [zmv 18 0,zmv 19 5,zia 20 18 19 Ql,zLd 21 20 2,zmv 22 1,zca 23 153 [21,22],zmv 1 23]),(.reg [zmv 24 1,zbi 25 .lss 24 (zki 0)]),(.cond 25 (zsq [(.reg [zmv 4 (zki (-1))]),.ret]) .skip)])),(.reg [zmv 16 5,zbi 17 .add 16 (zki 1),zmv 5 17])])
def QtB:List (Nat × Md):=zdl [0,1,5]
def Qrg:TCode :=
 (zsq [(.reg [zmv 26 1,zmv 4 26]),.ret])
def Qws:TCode :=
 (zsq [(.reg [zmv 4 (zki 0)]),(.reg [zmv 6 1,zmv 7 0,zle 8 7,zbi 9 .sub 6 8,zmv 1 9]),(zsq [(.reg [zmv 10 1,zbi 11 .lss 10 (zki 0)]),(.cond 11 (zsq [(.reg [zmv 4 (zki (-1))]),.ret]) .skip)]),(zsq [(.reg [zmv 5 (zki 0)]),(.block 0 (.loop QtB Qui))]),Qrg])
def QlM:List (ARv × Md):=[(.t 4,.one .d)]
def QlG:Qb:=TQ 0 0 QlM K
def QHH:Qb:=Qseq (tawp Qgi 0 Qrg (QlG K)) (QlG K)
def QBH:Qb:=Qblk 0 (QHH K)
def Qjv (a:List Qe) (left1:Int) (i:Int):Prop:=Loop Qgi 0 QtB Qui (QBH K) ⟨[(0,(zcs Ql a)),(1,(zci left1)),(5,(zci i))],[],0⟩
theorem QA6 (a:List Qe) (left1:Int) (i:Int) (h :
 (zif (decide (i<(a.length:Int))) ((((0:Int)≤i∧Int.toNat i<a.length)∧(p_sz (α:=Qe) (gtd Qw a (Int.toNat i)) left1))∧(zif (decide ((m_sz (α:=Qe) (gtd Qw a (Int.toNat i)) left1)<(0:Int))) (K (Qah (-1:Int))) (Qjv K a (m_sz (α:=Qe) (gtd Qw a (Int.toNat i)) left1) (w64 (i+(1:Int)))))) (K (Qah left1)))):Qjv K a left1 i :=
 Loop.of (by kernel_rfl) h
theorem QFf (a:List Qe) (left:Int) (h :
 (zif (decide ((w64 (left-(a.length:Int)))<(0:Int))) (K (Qah (-1:Int))) (Qjv K a (w64 (left-(a.length:Int))) 0))):Hold (tawp Qgi (0+0) Qws (TQ 0 0 QlM K) (Qd [(.c (.sl Ql) a),(.c TI left)])) :=
 Hold.of (by kernel_rfl) h
theorem Qwz (a:List Qe) (left:Int) (hp:p_sz (α:=List Qe) a left):TCon Tryz.prog 57 [(.c (.sl Ql) a),(.c TI left)] (Qah (m_sz (α:=List Qe) a left)):=by
 refine Qh rfl fun hb=>tcg (Γ:=Qgi) (n:=27) (sg:=QhG.sg) Qi (TOkL.cons QD0 TOkL.nil) (by kernel_rfl) (by kernel_rfl) (QFf _ a left ?_)
 exact QiD (Q:=fun x=>Qah x=Qah (m_sz (α:=List Qe) a left)) Qw hp hb.1.1 (fun l i h=>QA6 _ a l i h) rfl
theorem QDt:Qf Tryz.prog QhG:=Qj fun x h=>Qwz x.1 x.2.1 h
def QhA (t:TIns):TRes:=zre (.a [(zci t.1),(zci t.2)])
def Qir:TRow:=Qg 161 [(.a Qt)] fun x=>(some (p_to (α:=TIns) x.1),QhA (id (α:=TIns) x.1))
def Qpk:TTab:=⟨[],true⟩
def Qwp:TCode :=
 (zsq [(.reg [zop 1 (.box 195 0 2),zop 2 (.new 175 (z0s Qt))]),(.reg [zop 3 (.new 175 (z0s Qt))]),(.reg [zfa 4 1 0,zld 5 4 1,zfa 6 3 0,zst 6 5 1]),(.reg [zfa 7 1 1,zld 8 7 1,zfa 9 3 1,zst 9 8 1]),(.reg [zLd 10 3 2,zst 2 10 2]),.ret])
def Qxd:List (ARv × Md):=[(.l 2 2 true,.b [.d,.d])]
theorem QFL (a:TIns) (h :
 K (QhA a)):Hold (tawp Qpk (0+0) Qwp (TQ 0 0 Qxd K) (Qd [(.a [(.c TI a.1),(.c TI a.2)])])) :=
 Hold.of (by kernel_rfl) h
theorem QJ7 (a:TIns) (hp:p_to (α:=TIns) a):TCon Tryz.prog 161 [(.a [(.c TI a.1),(.c TI a.2)])] (QhA (id (α:=TIns) a)):=by
 refine Qh rfl fun hb=>tcg (Γ:=Qpk) (n:=11) (sg:=Qir.sg) Qi TOkL.nil (by kernel_rfl) (by kernel_rfl) (QFL _ a ?_)
 exact R_eq rfl
theorem QGN:Qf Tryz.prog Qir:=Qj fun x h=>QJ7 x.1 h
def JX (t:(List TIns)):TRes:=⟨(.r Qt 0 0 t.length),[(.sl 175 Qt (.dp 0 true []) t)],[],false,[]⟩
def QhT:TRow:=Qg 65 [(.c (.sl Qt))] fun x=>(some (p_to (α:=List TIns) x.1),JX (id (α:=List TIns) x.1))
def QdN:TTab:=⟨[Qir],true⟩
def Qny:TCode :=
 (zsq [(zsq [(.reg [zmv 8 4,zmv 9 0,zle 10 9,zbi 11 .lss 8 10]),(.cond 11 .skip (.exit 0))]),(.block 1 (.reg [zmv 14 3,zmv 15 4,zmv 16 0,zmv 17 4,zia 18 16 17 Qt,zLd 19 18 2,zca 20 161 [19],zia 21 14 15 Qt,zst 21 20 2])),(.reg [zmv 12 4,zbi 13 .add 12 (zki 1),zmv 4 13])])
def QuD:List (Nat × Md):=[(0,.one .d),(3,.one .f),(4,.one .d)]
def Qpm:TCode :=
 (zsq [(.reg [zmv 22 3,zmv 2 22]),.ret])
def QyE:TCode :=
 (zsq [(.reg [zmv 2 (.k (.n Qt))]),(.reg [zmv 5 0,zle 6 5,zop 7 (.mk 175 Qt (z0s Qt) 6),zmv 3 7]),(zsq [(.reg [zmv 4 (zki 0)]),(.block 0 (.loop QuD Qny))]),Qpm])
def QlL:List (ARv × Md):=[(.t 2,.one (.p 175))]
def Ql0:Qb:=TQ 0 0 QlL K
def QxA:Qb:=Qseq (tawp QdN 0 Qpm (Ql0 K)) (Ql0 K)
def QBM:Qb:=Qblk 0 (QxA K)
def Qfh (a:List TIns) (i:Int) (out:List TIns):Prop:=Loop QdN 0 QuD Qny (QBM K) ⟨[(0,(zcs Qt a)),(3,(.r Qt 0 0 out.length)),(4,(zci i))],[(0,(.sl 175 Qt (.dp 0 true []) out))],1⟩
theorem QuV (a:List TIns) (i:Int) (out:List TIns) (h :
 (zif (decide (i<(a.length:Int))) ((((0:Int)≤i∧Int.toNat i<a.length)∧((p_to (α:=TIns) (gtd dIns a (Int.toNat i)))∧(((0:Int)≤i∧Int.toNat i<out.length)∧((0+(Int.toNat i))<out.length))))∧(Qfh K a (w64 (i+(1:Int))) (List.take out.length ((out).set (0+(Int.toNat i)) (id (α:=TIns) (gtd dIns a (Int.toNat i))))))) (K (JX (List.take out.length out))))):Qfh K a i out :=
 Loop.of (by kernel_rfl) h
theorem QGw (a:List TIns) (h :
 (((0:Int)≤(a.length:Int)∧(a.length:Int)≤big)∧(Qfh K a 0 (List.take (Int.toNat (a.length:Int)) (List.replicate (Int.toNat (a.length:Int)) ((0:Int),(0:Int))))))):Hold (tawp QdN (0+0) QyE (TQ 0 0 QlL K) (Qd [(.c (.sl Qt) a)])) :=
 Hold.of (by kernel_rfl) h
theorem QE6 (a:List TIns) (hp:p_to (α:=List TIns) a):TCon Tryz.prog 65 [(.c (.sl Qt) a)] (JX (id (α:=List TIns) a)):=by
 refine Qh rfl fun hb=>tcg (Γ:=QdN) (n:=23) (sg:=QhT.sg) Qi (TOkL.cons QGN TOkL.nil) (by kernel_rfl) (by kernel_rfl) (QGw _ a ?_)
 refine ⟨⟨by omega,by rw [bigI];have:=YT hp;omega⟩,?_⟩
 refine Qdq a (A:=fun ii ll=>Qfh (fun r'=>r'=JX (id (α:=List TIns) a)) a ii ll) (Q:=fun z=>JX z=JX (id (α:=List TIns) a)) hp ?_ ?_ rfl
 ·intro k x out hlt hg ho hx hA
  have hw:w64 (((k:Nat):Int)+1)=((k+1:Nat):Int):=by have:=YT hp;rw [Qx (by omega) (by omega)];omega
  have hlo:k<out.length:=by omega
  refine QuV (fun r'=>r'=JX (id (α:=List TIns) a)) a ((k:Nat):Int) out ?_
  refine ⟨fun _=>?_,fun h=>absurd h (by simp;omega)⟩
  simp only [Int.toNat_natCast,Nat.zero_add,hg,hw,hlt,hlo,Qc9,List.drop_zero,List.take_length,id_eq,and_true,true_and,Int.natCast_nonneg]
  first | exact hA | exact ⟨hx,hA⟩
 ·intro out ho hq
  refine QuV (fun r'=>r'=JX (id (α:=List TIns) a)) a ((a.length:Nat):Int) out ?_
  refine ⟨fun h=>absurd h (by simp),fun _=>?_⟩
  simp only [List.drop_zero,List.take_length]
  exact hq
theorem QEz:Qf Tryz.prog QhT:=Qj fun x h=>QE6 x.1 h
def QkF (t:Qe):TRes:=⟨(.a [(zci t.1),(.r [(.sl [TI])] 0 0 ((t.2).length))]),[(.sl 106 [(.sl [TI])] (.dp 0 true []) t.2)],[],false,[]⟩
def Qh7:TRow:=Qg 163 [(.a Ql)] fun x=>(some (p_to (α:=Qe) x.1),QkF (id (α:=Qe) x.1))
def Qtp:TTab:=⟨[QcY],true⟩
def QAW:TCode :=
 (zsq [(.reg [zop 1 (.box 187 0 2),zop 2 (.new 108 (z0s Ql))]),(.reg [zop 3 (.new 108 (z0s Ql))]),(.reg [zfa 4 1 0,zld 5 4 1,zfa 6 3 0,zst 6 5 1]),(.reg [zfa 7 1 1,zld 8 7 1,zca 9 68 [8],zfa 10 3 1,zst 10 9 1]),(.reg [zLd 11 3 2,zst 2 11 2]),.ret])
def QFW:List (ARv × Md):=[(.l 2 2 true,.b [.d,.p 106])]
theorem QGP (a:Qe) (h :
 ((p_to (α:=List (List Int)) a.2)∧K (QkF (a.1,(List.take ((id (α:=List (List Int)) a.2).length) (id (α:=List (List Int)) a.2)))))):Hold (tawp Qtp (0+0) QAW (TQ 0 0 QFW K) (Qd [(.a [(.c TI a.1),(.c (.sl [(.sl [TI])]) a.2)])])) :=
 Hold.of (by kernel_rfl) h
theorem QIj (a:Qe) (hp:p_to (α:=Qe) a):TCon Tryz.prog 163 [(.a [(.c TI a.1),(.c (.sl [(.sl [TI])]) a.2)])] (QkF (id (α:=Qe) a)):=by
 refine Qh rfl fun hb=>tcg (Γ:=Qtp) (n:=12) (sg:=Qh7.sg) Qi (TOkL.cons Qis TOkL.nil) (by kernel_rfl) (by kernel_rfl) (QGP _ a ?_)
 repeat' (first | refine And.intro ?_ ?_ | exact R_eq (by simp))
 all_goals (simp only [p_to,QZ,QK,Q0,List.drop_zero,List.take_length,id_eq] at hp ⊢;omega)
theorem QJ8:Qf Tryz.prog Qh7:=Qj fun x h=>QIj x.1 h
def JJ (t:(List Qe)):TRes:=⟨(.r Ql 0 0 t.length),[(.sl 108 Ql (.dp 0 true []) t)],[],false,[]⟩
def Qhh:TRow:=Qg 67 [(.c (.sl Ql))] fun x=>(some (p_to (α:=List Qe) x.1),JJ (id (α:=List Qe) x.1))
def Qen:TTab:=⟨[Qh7],true⟩
def QsT:TCode :=
 (zsq [(zsq [(.reg [zmv 8 4,zmv 9 0,zle 10 9,zbi 11 .lss 8 10]),(.cond 11 .skip (.exit 0))]),(.block 1 (.reg [zmv 14 3,zmv 15 4,zmv 16 0,zmv 17 4,zia 18 16 17 Ql,zLd 19 18 2,zca 20 163 [19],zia 21 14 15 Ql,zst 21 20 2])),(.reg [zmv 12 4,zbi 13 .add 12 (zki 1),zmv 4 13])])
def QqL:List (Nat × Md):=[(0,.one .d),(3,.one .f),(4,.one .d)]
def Qm7:TCode :=
 (zsq [(.reg [zmv 22 3,zmv 2 22]),.ret])
def QFp:TCode :=
 (zsq [(.reg [zmv 2 (.k (.n Ql))]),(.reg [zmv 5 0,zle 6 5,zop 7 (.mk 108 Ql (z0s Ql) 6),zmv 3 7]),(zsq [(.reg [zmv 4 (zki 0)]),(.block 0 (.loop QqL QsT))]),Qm7])
def QnD:List (ARv × Md):=[(.t 2,.one (.p 108))]
def QmE:Qb:=TQ 0 0 QnD K
def QAf:Qb:=Qseq (tawp Qen 0 Qm7 (QmE K)) (QmE K)
def QJB:Qb:=Qblk 0 (QAf K)
def Qfe (a:List Qe) (i:Int) (out:List Qe):Prop:=Loop Qen 0 QqL QsT (QJB K) ⟨[(0,(zcs Ql a)),(3,(.r Ql 0 0 out.length)),(4,(zci i))],[(0,(.sl 108 Ql (.dp 0 true []) out))],1⟩
theorem Qty (a:List Qe) (i:Int) (out:List Qe) (h :
 (zif (decide (i<(a.length:Int))) ((((0:Int)≤i∧Int.toNat i<a.length)∧((p_to (α:=Qe) (gtd Qw a (Int.toNat i)))∧(((0:Int)≤i∧Int.toNat i<out.length)∧((0+(Int.toNat i))<out.length))))∧(Qfe K a (w64 (i+(1:Int))) (List.take out.length ((out).set (0+(Int.toNat i)) ((id (α:=Qe) (gtd Qw a (Int.toNat i))).1,(List.take (((id (α:=Qe) (gtd Qw a (Int.toNat i))).2).length) (List.drop 0 ((id (α:=Qe) (gtd Qw a (Int.toNat i))).2)))))))) (K (JJ (List.take out.length out))))):Qfe K a i out :=
 Loop.of (by kernel_rfl) h
theorem Qzb (a:List Qe) (h :
 (((0:Int)≤(a.length:Int)∧(a.length:Int)≤big)∧(Qfe K a 0 (List.take (Int.toNat (a.length:Int)) (List.replicate (Int.toNat (a.length:Int)) ((0:Int),[])))))):Hold (tawp Qen (0+0) QFp (TQ 0 0 QnD K) (Qd [(.c (.sl Ql) a)])) :=
 Hold.of (by kernel_rfl) h
theorem QBp (a:List Qe) (hp:p_to (α:=List Qe) a):TCon Tryz.prog 67 [(.c (.sl Ql) a)] (JJ (id (α:=List Qe) a)):=by
 refine Qh rfl fun hb=>tcg (Γ:=Qen) (n:=23) (sg:=Qhh.sg) Qi (TOkL.cons QJ8 TOkL.nil) (by kernel_rfl) (by kernel_rfl) (Qzb _ a ?_)
 refine ⟨⟨by omega,by rw [bigI];have:=YT hp;omega⟩,?_⟩
 refine Qdq a (A:=fun ii ll=>Qfe (fun r'=>r'=JJ (id (α:=List Qe) a)) a ii ll) (Q:=fun z=>JJ z=JJ (id (α:=List Qe) a)) hp ?_ ?_ rfl
 ·intro k x out hlt hg ho hx hA
  have hw:w64 (((k:Nat):Int)+1)=((k+1:Nat):Int):=by have:=YT hp;rw [Qx (by omega) (by omega)];omega
  have hlo:k<out.length:=by omega
  refine Qty (fun r'=>r'=JJ (id (α:=List Qe) a)) a ((k:Nat):Int) out ?_
  refine ⟨fun _=>?_,fun h=>absurd h (by simp;omega)⟩
  simp only [Int.toNat_natCast,Nat.zero_add,hg,hw,hlt,hlo,Qc9,List.drop_zero,List.take_length,id_eq,and_true,true_and,Int.natCast_nonneg]
  first | exact hA | exact ⟨hx,hA⟩
 ·intro out ho hq
  refine Qty (fun r'=>r'=JJ (id (α:=List Qe) a)) a ((a.length:Nat):Int) out ?_
  refine ⟨fun h=>absurd h (by simp),fun _=>?_⟩
  simp only [List.drop_zero,List.take_length]
  exact hq
theorem QH6:Qf Tryz.prog Qhh:=Qj fun x h=>QBp x.1 h
def Qcj (t:Bool):TRes:=zre (zcb t)
def Qkd:TRow:=Qg 171 [(.a Qt),(.a Qt)] fun x=>(none,Qcj (m_eq (α:=TIns) x.1 x.2.1))
def Qvu:TTab:=⟨[],false⟩
def QxG:TCode :=
 (zsq [(.reg [zop 2 (.box 175 0 2),zop 3 (.box 175 1 2),zmv 4 (zkb false)]),(zsq [(.reg [zfa 5 2 0,zld 6 5 1,zfa 7 3 0,zld 8 7 1,zbi 9 .neq 6 8]),(.cond 9 (zsq [(.reg [zmv 4 (zkb false)]),.ret]) .skip)]),(zsq [(.reg [zfa 10 2 1,zld 11 10 1,zfa 12 3 1,zld 13 12 1,zbi 14 .neq 11 13]),(.cond 14 (zsq [(.reg [zmv 4 (zkb false)]),.ret]) .skip)]),(.reg [zmv 4 (zkb true)]),.ret])
def QJR:List (ARv × Md):=[(.t 4,.one .d)]
theorem QzQ (a:TIns) (b:TIns) (h :
 (zif (a.1 != b.1) (K (Qcj false)) (zif (a.2 != b.2) (K (Qcj false)) (K (Qcj true))))):Hold (tawp Qvu (0+0) QxG (TQ 0 0 QJR K) (Qd [(.a [(.c TI a.1),(.c TI a.2)]),(.a [(.c TI b.1),(.c TI b.2)])])) :=
 Hold.of (by kernel_rfl) h
theorem QI4 (a:TIns) (b:TIns):TCon Tryz.prog 171 [(.a [(.c TI a.1),(.c TI a.2)]),(.a [(.c TI b.1),(.c TI b.2)])] (Qcj (m_eq (α:=TIns) a b)):=by
 refine Qh rfl fun hb=>tcg (Γ:=Qvu) (n:=15) (sg:=Qkd.sg) Qi TOkL.nil (by kernel_rfl) (by kernel_rfl) (QzQ _ a b ?_)
 refine ⟨fun h=>R_eq (Eq.symm (decide_eq_false (by rintro rfl;simp [m_eq] at h))),fun h0=>?_⟩
 refine ⟨fun h=>R_eq (Eq.symm (decide_eq_false (by rintro rfl;simp [m_eq] at h))),fun h1=>?_⟩
 refine R_eq (Eq.symm (decide_eq_true ?_))
 simp [m_eq] at h0 h1
 simp [Prod.ext_iff, *]
theorem Qxb:Qf Tryz.prog Qkd:=Qj fun x _=>QI4 x.1 x.2.1
def QaZ (t:Bool):TRes:=zre (zcb t)
def Qjs:TRow:=Qg 75 [(.c (.sl Qt)),(.c (.sl Qt))] fun x=>(none,QaZ (m_eq (α:=List TIns) x.1 x.2.1))
def QdT:TTab:=⟨[Qkd],false⟩
def QoG:TCode :=
 (zsq [(zsq [(.reg [zmv 11 5,zmv 12 0,zle 13 12,zbi 14 .lss 11 13]),(.cond 14 .skip (.exit 0))]),(.block 1 (zsq [(.draw [zmv 17 0,zmv 18 5,zia 19 17 18 Qt,zLd 20 19 2,zmv 21 1,zmv 22 5,zia 23 21 22 Qt,zLd 24 23 2,zca 25 171 [20,24],zno 26 25] []),(.cond 26 (zsq [(.reg [zmv 4 (zkb false)]),.ret]) .skip)])),(.reg [zmv 15 5,zbi 16 .add 15 (zki 1),zmv 5 16])])
def Qrw:List (Nat × Md):=zdl [0,1,5]
def Qsn:TCode :=
 (zsq [(.reg [zmv 4 (zkb true)]),.ret])
def QHo:TCode :=
 (zsq [(.reg [zmv 4 (zkb false)]),(zsq [(.reg [zmv 6 0,zle 7 6,zmv 8 1,zle 9 8,zbi 10 .neq 7 9]),(.cond 10 (zsq [(.reg [zmv 4 (zkb false)]),.ret]) .skip)]),(zsq [(.reg [zmv 5 (zki 0)]),(.block 0 (.loop Qrw QoG))]),Qsn])
def Qqs:List (ARv × Md):=[(.t 4,.one .d)]
def QmN:Qb:=TQ 0 0 Qqs K
def Qxn:Qb:=Qseq (tawp QdT 0 Qsn (QmN K)) (QmN K)
def QDu:Qb:=Qblk 0 (Qxn K)
def QkM (a:List TIns) (b:List TIns) (i:Int):Prop:=Loop QdT 0 Qrw QoG (QDu K) ⟨[(0,(zcs Qt a)),(1,(zcs Qt b)),(5,(zci i))],[],0⟩
theorem QEb (a:List TIns) (b:List TIns) (i:Int) (h :
 (zif (decide (i<(a.length:Int))) ((((0:Int)≤i∧Int.toNat i<a.length)∧((0:Int)≤i∧Int.toNat i<b.length))∧(zif (!(m_eq (α:=TIns) (gtd dIns a (Int.toNat i)) (gtd dIns b (Int.toNat i)))) (K (QaZ false)) (QkM K a b (w64 (i+(1:Int)))))) (K (QaZ true)))):QkM K a b i :=
 Loop.of (by kernel_rfl) h
theorem Qyx (a:List TIns) (b:List TIns) (h :
 (zif ((a.length:Int) != (b.length:Int)) (K (QaZ false)) (QkM K a b 0))):Hold (tawp QdT (0+0) QHo (TQ 0 0 Qqs K) (Qd [(.c (.sl Qt) a),(.c (.sl Qt) b)])) :=
 Hold.of (by kernel_rfl) h
theorem QH8 (a:List TIns) (b:List TIns):TCon Tryz.prog 75 [(.c (.sl Qt) a),(.c (.sl Qt) b)] (QaZ (m_eq (α:=List TIns) a b)):=by
 refine Qh rfl fun hb=>tcg (Γ:=QdT) (n:=27) (sg:=Qjs.sg) Qi (TOkL.cons Qxb TOkL.nil) (by kernel_rfl) (by kernel_rfl) (Qyx _ a b ?_)
 exact Qcg dIns (E:=m_eq) (fun _ _=>rfl) hb.1.1 (fun i h=>QEb _ a b i h) (Q:=fun x=>QaZ x=QaZ (m_eq (α:=List TIns) a b)) rfl
theorem QBq:Qf Tryz.prog Qjs:=Qj fun x _=>QH8 x.1 x.2.1
def QcG (t:Bool):TRes:=zre (zcb t)
def QiX:TRow:=Qg 173 [(.a Ql),(.a Ql)] fun x=>(none,QcG (m_eq (α:=Qe) x.1 x.2.1))
def QrE:TTab:=⟨[Qb7],false⟩
def QAI:TCode :=
 (zsq [(.reg [zop 2 (.box 108 0 2),zop 3 (.box 108 1 2),zmv 4 (zkb false)]),(zsq [(.reg [zfa 5 2 0,zld 6 5 1,zfa 7 3 0,zld 8 7 1,zbi 9 .neq 6 8]),(.cond 9 (zsq [(.reg [zmv 4 (zkb false)]),.ret]) .skip)]),(zsq [(.reg [zfa 10 2 1,zld 11 10 1,zfa 12 3 1,zld 13 12 1,zca 14 78 [11,13],zno 15 14]),(.cond 15 (zsq [(.reg [zmv 4 (zkb false)]),.ret]) .skip)]),(.reg [zmv 4 (zkb true)]),.ret])
def QAe:List (ARv × Md):=[(.t 4,.one .d)]
theorem QES (a:Qe) (b:Qe) (h :
 (zif (a.1 != b.1) (K (QcG false)) (zif (!(m_eq (α:=List (List Int)) a.2 b.2)) (K (QcG false)) (K (QcG true))))):Hold (tawp QrE (0+0) QAI (TQ 0 0 QAe K) (Qd [(.a [(.c TI a.1),(.c (.sl [(.sl [TI])]) a.2)]),(.a [(.c TI b.1),(.c (.sl [(.sl [TI])]) b.2)])])) :=
 Hold.of (by kernel_rfl) h
theorem QyD (a:Qe) (b:Qe):TCon Tryz.prog 173 [(.a [(.c TI a.1),(.c (.sl [(.sl [TI])]) a.2)]),(.a [(.c TI b.1),(.c (.sl [(.sl [TI])]) b.2)])] (QcG (m_eq (α:=Qe) a b)):=by
 refine Qh rfl fun hb=>tcg (Γ:=QrE) (n:=16) (sg:=QiX.sg) Qi (TOkL.cons Qky TOkL.nil) (by kernel_rfl) (by kernel_rfl) (QES _ a b ?_)
 refine ⟨fun h=>R_eq (Eq.symm (decide_eq_false (by rintro rfl;simp [m_eq] at h))),fun h0=>?_⟩
 refine ⟨fun h=>R_eq (Eq.symm (decide_eq_false (by rintro rfl;simp [m_eq] at h))),fun h1=>?_⟩
 refine R_eq (Eq.symm (decide_eq_true ?_))
 simp [m_eq] at h0 h1
 simp [Prod.ext_iff, *]
theorem QET:Qf Tryz.prog QiX:=Qj fun x _=>QyD x.1 x.2.1
def QaW (t:Bool):TRes:=zre (zcb t)
def Qjh:TRow:=Qg 77 [(.c (.sl Ql)),(.c (.sl Ql))] fun x=>(none,QaW (m_eq (α:=List Qe) x.1 x.2.1))
def QfL:TTab:=⟨[QiX],false⟩
def Qnm:TCode :=
 (zsq [(zsq [(.reg [zmv 11 5,zmv 12 0,zle 13 12,zbi 14 .lss 11 13]),(.cond 14 .skip (.exit 0))]),(.block 1 (zsq [(.draw [zmv 17 0,zmv 18 5,zia 19 17 18 Ql,zLd 20 19 2,zmv 21 1,zmv 22 5,zia 23 21 22 Ql,zLd 24 23 2,zca 25 173 [20,24],zno 26 25] []),(.cond 26 (zsq [(.reg [zmv 4 (zkb false)]),.ret]) .skip)])),(.reg [zmv 15 5,zbi 16 .add 15 (zki 1),zmv 5 16])])
def Qou:List (Nat × Md):=zdl [0,1,5]
def Qr3:TCode :=
 (zsq [(.reg [zmv 4 (zkb true)]),.ret])
def QHi:TCode :=
 (zsq [(.reg [zmv 4 (zkb false)]),(zsq [(.reg [zmv 6 0,zle 7 6,zmv 8 1,zle 9 8,zbi 10 .neq 7 9]),(.cond 10 (zsq [(.reg [zmv 4 (zkb false)]),.ret]) .skip)]),(zsq [(.reg [zmv 5 (zki 0)]),(.block 0 (.loop Qou Qnm))]),Qr3])
def Qtq:List (ARv × Md):=[(.t 4,.one .d)]
def Qrp:Qb:=TQ 0 0 Qtq K
def QEW:Qb:=Qseq (tawp QfL 0 Qr3 (Qrp K)) (Qrp K)
def QAP:Qb:=Qblk 0 (QEW K)
def Qja (a:List Qe) (b:List Qe) (i:Int):Prop:=Loop QfL 0 Qou Qnm (QAP K) ⟨[(0,(zcs Ql a)),(1,(zcs Ql b)),(5,(zci i))],[],0⟩
theorem QCn (a:List Qe) (b:List Qe) (i:Int) (h :
 (zif (decide (i<(a.length:Int))) ((((0:Int)≤i∧Int.toNat i<a.length)∧((0:Int)≤i∧Int.toNat i<b.length))∧(zif (!(m_eq (α:=Qe) (gtd Qw a (Int.toNat i)) (gtd Qw b (Int.toNat i)))) (K (QaW false)) (Qja K a b (w64 (i+(1:Int)))))) (K (QaW true)))):Qja K a b i :=
 Loop.of (by kernel_rfl) h
theorem Qyb (a:List Qe) (b:List Qe) (h :
 (zif ((a.length:Int) != (b.length:Int)) (K (QaW false)) (Qja K a b 0))):Hold (tawp QfL (0+0) QHi (TQ 0 0 Qtq K) (Qd [(.c (.sl Ql) a),(.c (.sl Ql) b)])) :=
 Hold.of (by kernel_rfl) h
theorem QCa (a:List Qe) (b:List Qe):TCon Tryz.prog 77 [(.c (.sl Ql) a),(.c (.sl Ql) b)] (QaW (m_eq (α:=List Qe) a b)):=by
 refine Qh rfl fun hb=>tcg (Γ:=QfL) (n:=27) (sg:=Qjh.sg) Qi (TOkL.cons QET TOkL.nil) (by kernel_rfl) (by kernel_rfl) (Qyb _ a b ?_)
 exact Qcg Qw (E:=m_eq) (fun _ _=>rfl) hb.1.1 (fun i h=>QCn _ a b i h) (Q:=fun x=>QaW x=QaW (m_eq (α:=List Qe) a b)) rfl
theorem QxX:Qf Tryz.prog Qjh:=Qj fun x _=>QCa x.1 x.2.1
end
end Go.Proofs.YtdplaepmjogjjaaGreat.Am

