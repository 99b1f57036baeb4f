/- -/
import Derived.Test.YtdplaepmjogjjaaGreatVBH1
import Derived.Test.YtdplaepmjogjjaaGreatVBGF
namespace Go.Proofs.YtdplaepmjogjjaaGreat.Am
open Go Go.RowKit Go.Proofs.YtdplaepmjogjjaaGreat
set_option linter.all false
noncomputable section
variable (K:TRes→Prop)
def QeI (t:Int):TRes:=zre (zci t)
def QiF:TRow:=Qi 260 [(.a Qu),(.c TI)] fun x=>(some (p_sz (α:=Qe) x.1 x.2.1),QeI (m_sz (α:=Qe) x.1 x.2.1))
def QpO:TTab:=⟨[JN],false⟩
def QCM:TCode :=
 (zsq [(.reg [zop 2 (.box 249 0 2),zmv 4 (zki 0)]),(.reg [zfa 5 2 1,zld 6 5 1,zmv 7 1,zca 8 59 [6,7],zmv 1 8]),(zsq [(.reg [zmv 9 1,zbi 10 .lss 9 (zki 0)]),(.cond 10 (zsq [(.reg [zmv 4 (zki (-1))]),.ret]) .skip)]),(.reg [zmv 11 1,zmv 4 11]),.ret])
def Qx0:List (ARv × Md):=[(.t 4,.one .d)]
theorem QzX (a:Qe) (left:Int) (h :
 ((p_sz (α:=List Int) a.2 left)∧(zif (decide ((m_sz (α:=List Int) a.2 left)<(0:Int))) (K (QeI (-1:Int))) (K (QeI (m_sz (α:=List Int) a.2 left)))))):Hold (tawp QpO (0+0) QCM (TQ 0 0 Qx0 K) (Qg [(.a [(.c TI a.1),(.c (.sl [TI]) a.2)]),(.c TI left)])) :=
 Hold.of (by kernel_rfl) h
theorem Qz3 (a:Qe) (left:Int) (hp:p_sz (α:=Qe) a left):TCon Tryz.prog 260 [(.a [(.c TI a.1),(.c (.sl [TI]) a.2)]),(.c TI left)] (QeI (m_sz (α:=Qe) a left)):=by
 refine Qk rfl fun hb=>tcg (Γ:=QpO) (n:=12) (sg:=QiF.sg) Ql (TOkL.cons QbJ TOkL.nil) (by kernel_rfl) (by kernel_rfl) (QzX _ a left ?_)
 refine ⟨hp,fun h=>R_eq (Q6 (of_decide_eq_true h) (by first | omega | (simp only [QD,QE,QK];omega)) hp.1),fun h=>?_⟩
 exact R_eq (congrArg (Za · _) (by first | rfl | omega | (simp only [QD,QE,QK];omega)))
theorem Qwr:Qj Tryz.prog QiF:=Qn fun x h=>Qz3 x.1 x.2.1 h
def Qaa (t:Int):TRes:=zre (zci t)
def Qhq:TRow:=Qi 234 [(.c (.sl Qu)),(.c TI)] fun x=>(some (p_sz (α:=List Qe) x.1 x.2.1),Qaa (m_sz (α:=List Qe) x.1 x.2.1))
def QdE:TTab:=⟨[QiF],false⟩
def Qi7:TCode :=
 (zsq [(zsq [(.reg [zmv 12 5,zmv 13 0,zle 14 13,zbi 15 .lss 12 14]),(.cond 15 .skip (.exit 0))]),(.block 1 (zsq [(.reg [zmv 18 0,zmv 19 5,zia 20 18 19 Qu,zLd 21 20 2,zmv 22 1,zca 23 260 [21,22],zmv 1 23]),(.reg [zmv 24 1,zbi 25 .lss 24 (zki 0)]),(.cond 25 (zsq [(.reg [zmv 4 (zki (-1))]),.ret]) .skip)])),(.reg [zmv 16 5,zbi 17 .add 16 (zki 1),zmv 5 17])])
def QqH:List (Nat × Md):=zdl [0,1,5]
def QoB:TCode :=
 (zsq [(.reg [zmv 26 1,zmv 4 26]),.ret])
def Qu5:TCode :=
 (zsq [(.reg [zmv 4 (zki 0)]),(.reg [zmv 6 1,zmv 7 0,zle 8 7,zbi 9 .sub 6 8,zmv 1 9]),(zsq [(.reg [zmv 10 1,zbi 11 .lss 10 (zki 0)]),(.cond 11 (zsq [(.reg [zmv 4 (zki (-1))]),.ret]) .skip)]),(zsq [(.reg [zmv 5 (zki 0)]),(.block 0 (.loop QqH Qi7))]),QoB])
def QqX:List (ARv × Md):=[(.t 4,.one .d)]
def Qlq:Qb:=TQ 0 0 QqX K
def QFB:Qb:=Qseq (tawp QdE 0 QoB (Qlq K)) (Qlq K)
def QAP:Qb:=Qblk 0 (QFB K)
def Qif (a:List Qe) (left1:Int) (i:Int):Prop:=Loop QdE 0 QqH Qi7 (QAP K) ⟨[(0,(zcs Qu a)),(1,(zci left1)),(5,(zci i))],[],0⟩
theorem QBg (a:List Qe) (left1:Int) (i:Int) (h :
 (zif (decide (i<(a.length:Int))) ((((0:Int)≤i∧Int.toNat i<a.length)∧(p_sz (α:=Qe) (gtd ((0,[]):Qe) a (Int.toNat i)) left1))∧(zif (decide ((m_sz (α:=Qe) (gtd ((0,[]):Qe) a (Int.toNat i)) left1)<(0:Int))) (K (Qaa (-1:Int))) (Qif K a (m_sz (α:=Qe) (gtd ((0,[]):Qe) a (Int.toNat i)) left1) (w64 (i+(1:Int)))))) (K (Qaa left1)))):Qif K a left1 i :=
 Loop.of (by kernel_rfl) h
theorem Qzx (a:List Qe) (left:Int) (h :
 (zif (decide ((w64 (left-(a.length:Int)))<(0:Int))) (K (Qaa (-1:Int))) (Qif K a (w64 (left-(a.length:Int))) 0))):Hold (tawp QdE (0+0) Qu5 (TQ 0 0 QqX K) (Qg [(.c (.sl Qu) a),(.c TI left)])) :=
 Hold.of (by kernel_rfl) h
theorem QAc (a:List Qe) (left:Int) (hp:p_sz (α:=List Qe) a left):TCon Tryz.prog 234 [(.c (.sl Qu) a),(.c TI left)] (Qaa (m_sz (α:=List Qe) a left)):=by
 refine Qk rfl fun hb=>tcg (Γ:=QdE) (n:=27) (sg:=Qhq.sg) Ql (TOkL.cons Qwr TOkL.nil) (by kernel_rfl) (by kernel_rfl) (Qzx _ a left ?_)
 exact JM (Q:=fun x=>Qaa x=Qaa (m_sz (α:=List Qe) a left)) ((0,[]):Qe) hp hb.1.1 (fun l i h=>QBg _ a l i h) rfl
theorem QtY:Qj Tryz.prog Qhq:=Qn fun x h=>QAc x.1 x.2.1 h
def QcB (t:Int):TRes:=zre (zci t)
def QhP:TRow:=Qi 175 [(.a Qt),(.c TI)] fun x=>(some (p_sz (α:=Qf) x.1 x.2.1),QcB (m_sz (α:=Qf) x.1 x.2.1))
def Qi0:TTab:=⟨[Qhq],false⟩
def QCG:TCode :=
 (zsq [(.reg [zop 2 (.box 208 0 2),zmv 4 (zki 0)]),(.reg [zfa 5 2 1,zld 6 5 1,zmv 7 1,zca 8 234 [6,7],zmv 1 8]),(zsq [(.reg [zmv 9 1,zbi 10 .lss 9 (zki 0)]),(.cond 10 (zsq [(.reg [zmv 4 (zki (-1))]),.ret]) .skip)]),(.reg [zmv 11 1,zmv 4 11]),.ret])
def Qwu:List (ARv × Md):=[(.t 4,.one .d)]
theorem Qtn (a:Qf) (left:Int) (h :
 ((p_sz (α:=List Qe) a.2 left)∧(zif (decide ((m_sz (α:=List Qe) a.2 left)<(0:Int))) (K (QcB (-1:Int))) (K (QcB (m_sz (α:=List Qe) a.2 left)))))):Hold (tawp Qi0 (0+0) QCG (TQ 0 0 Qwu K) (Qg [(.a [(.c TI a.1),(.c (.sl Qu) a.2)]),(.c TI left)])) :=
 Hold.of (by kernel_rfl) h
theorem Qzi (a:Qf) (left:Int) (hp:p_sz (α:=Qf) a left):TCon Tryz.prog 175 [(.a [(.c TI a.1),(.c (.sl Qu) a.2)]),(.c TI left)] (QcB (m_sz (α:=Qf) a left)):=by
 refine Qk rfl fun hb=>tcg (Γ:=Qi0) (n:=12) (sg:=QhP.sg) Ql (TOkL.cons QtY TOkL.nil) (by kernel_rfl) (by kernel_rfl) (Qtn _ a left ?_)
 refine ⟨hp,fun h=>R_eq (Q6 (of_decide_eq_true h) (by first | omega | (simp only [QD,QE,QK];omega)) hp.1),fun h=>?_⟩
 exact R_eq (congrArg (Za · _) (by first | rfl | omega | (simp only [QD,QE,QK];omega)))
theorem Qw6:Qj Tryz.prog QhP:=Qn fun x h=>Qzi x.1 x.2.1 h
def JS (t:Int):TRes:=zre (zci t)
def Qfw:TRow:=Qi 88 [(.c (.sl Qt)),(.c TI)] fun x=>(some (p_sz (α:=List Qf) x.1 x.2.1),JS (m_sz (α:=List Qf) x.1 x.2.1))
def Qc6:TTab:=⟨[QhP],false⟩
def Qkm:TCode :=
 (zsq [(zsq [(.reg [zmv 12 5,zmv 13 0,zle 14 13,zbi 15 .lss 12 14]),(.cond 15 .skip (.exit 0))]),(.block 1 (zsq [(.reg [zmv 18 0,zmv 19 5,zia 20 18 19 Qt,zLd 21 20 2,zmv 22 1,zca 23 175 [21,22],zmv 1 23]),(.reg [zmv 24 1,zbi 25 .lss 24 (zki 0)]),(.cond 25 (zsq [(.reg [zmv 4 (zki (-1))]),.ret]) .skip)])),(.reg [zmv 16 5,zbi 17 .add 16 (zki 1),zmv 5 17])])
def QiZ:List (Nat × Md):=zdl [0,1,5]
def QoW:TCode :=
 (zsq [(.reg [zmv 26 1,zmv 4 26]),.ret])
def QBb:TCode :=
 (zsq [(.reg [zmv 4 (zki 0)]),(.reg [zmv 6 1,zmv 7 0,zle 8 7,zbi 9 .sub 6 8,zmv 1 9]),(zsq [(.reg [zmv 10 1,zbi 11 .lss 10 (zki 0)]),(.cond 11 (zsq [(.reg [zmv 4 (zki (-1))]),.ret]) .skip)]),(zsq [(.reg [zmv 5 (zki 0)]),(.block 0 (.loop QiZ Qkm))]),QoW])
def QmS:List (ARv × Md):=[(.t 4,.one .d)]
def QiY:Qb:=TQ 0 0 QmS K
def QFn:Qb:=Qseq (tawp Qc6 0 QoW (QiY K)) (QiY K)
def QCu:Qb:=Qblk 0 (QFn K)
def QiP (a:List Qf) (left1:Int) (i:Int):Prop:=Loop Qc6 0 QiZ Qkm (QCu K) ⟨[(0,(zcs Qt a)),(1,(zci left1)),(5,(zci i))],[],0⟩
theorem QC2 (a:List Qf) (left1:Int) (i:Int) (h :
 (zif (decide (i<(a.length:Int))) ((((0:Int)≤i∧Int.toNat i<a.length)∧(p_sz (α:=Qf) (gtd QC a (Int.toNat i)) left1))∧(zif (decide ((m_sz (α:=Qf) (gtd QC a (Int.toNat i)) left1)<(0:Int))) (K (JS (-1:Int))) (QiP K a (m_sz (α:=Qf) (gtd QC a (Int.toNat i)) left1) (w64 (i+(1:Int)))))) (K (JS left1)))):QiP K a left1 i :=
 Loop.of (by kernel_rfl) h
theorem Qu9 (a:List Qf) (left:Int) (h :
 (zif (decide ((w64 (left-(a.length:Int)))<(0:Int))) (K (JS (-1:Int))) (QiP K a (w64 (left-(a.length:Int))) 0))):Hold (tawp Qc6 (0+0) QBb (TQ 0 0 QmS K) (Qg [(.c (.sl Qt) a),(.c TI left)])) :=
 Hold.of (by kernel_rfl) h
theorem QvW (a:List Qf) (left:Int) (hp:p_sz (α:=List Qf) a left):TCon Tryz.prog 88 [(.c (.sl Qt) a),(.c TI left)] (JS (m_sz (α:=List Qf) a left)):=by
 refine Qk rfl fun hb=>tcg (Γ:=Qc6) (n:=27) (sg:=Qfw.sg) Ql (TOkL.cons Qw6 TOkL.nil) (by kernel_rfl) (by kernel_rfl) (Qu9 _ a left ?_)
 exact JM (Q:=fun x=>JS x=JS (m_sz (α:=List Qf) a left)) QC hp hb.1.1 (fun l i h=>QC2 _ a l i h) rfl
theorem QyQ:Qj Tryz.prog Qfw:=Qn fun x h=>QvW x.1 x.2.1 h
def Qfb (t:Qe):TRes:=⟨(.a [(zci t.1),(.r [TI] 0 0 ((t.2).length))]),[(.sl 3 [TI] (.dp 0 true []) t.2)],[],false,[]⟩
def QhK:TRow:=Qi 261 [(.a Qu)] fun x=>(some (p_to (α:=Qe) x.1),Qfb (id (α:=Qe) x.1))
def QrF:TTab:=⟨[JO],true⟩
def QCm:TCode :=
 (zsq [(.reg [zop 1 (.box 249 0 2),zop 2 (.new 178 (z0s Qu))]),(.reg [zop 3 (.new 178 (z0s Qu))]),(.reg [zfa 4 1 0,zld 5 4 1,zfa 6 3 0,zst 6 5 1]),(.reg [zfa 7 1 1,zld 8 7 1,zca 9 29 [8],zfa 10 3 1,zst 10 9 1]),(.reg [zLd 11 3 2,zst 2 11 2]),.ret])
def QDM:List (ARv × Md):=[(.l 2 2 true,.b [.d,.p 3])]
theorem QCi (a:Qe) (h :
 ((p_to (α:=List Int) a.2)∧K (Qfb (a.1,(List.take ((id (α:=List Int) a.2).length) (id (α:=List Int) a.2)))))):Hold (tawp QrF (0+0) QCm (TQ 0 0 QDM K) (Qg [(.a [(.c TI a.1),(.c (.sl [TI]) a.2)])])) :=
 Hold.of (by kernel_rfl) h
theorem Qy4 (a:Qe) (hp:p_to (α:=Qe) a):TCon Tryz.prog 261 [(.a [(.c TI a.1),(.c (.sl [TI]) a.2)])] (Qfb (id (α:=Qe) a)):=by
 refine Qk rfl fun hb=>tcg (Γ:=QrF) (n:=12) (sg:=QhK.sg) Ql (TOkL.cons QbF TOkL.nil) (by kernel_rfl) (by kernel_rfl) (QCi _ a ?_)
 repeat' (first | refine And.intro ?_ ?_ | exact R_eq (by simp))
 all_goals (simp only [p_to,QD,QE,QK,List.drop_zero,List.take_length,id_eq] at hp ⊢;omega)
theorem Qwg:Qj Tryz.prog QhK:=Qn fun x h=>Qy4 x.1 h
def Jq (t:(List Qe)):TRes:=⟨(.r Qu 0 0 t.length),[(.sl 178 Qu (.dp 0 true []) t)],[],false,[]⟩
def Qgc:TRow:=Qi 235 [(.c (.sl Qu))] fun x=>(some (p_to (α:=List Qe) x.1),Jq (id (α:=List Qe) x.1))
def QeS:TTab:=⟨[QhK],true⟩
def Qpd:TCode :=
 (zsq [(zsq [(.reg [zmv 8 4,zmv 9 0,zle 10 9,zbi 11 .lss 8 10]),(.cond 11 .skip (.exit 0))]),(.block 1 (.reg [zmv 14 3,zmv 15 4,zmv 16 0,zmv 17 4,zia 18 16 17 Qu,zLd 19 18 2,zca 20 261 [19],zia 21 14 15 Qu,zst 21 20 2])),(.reg [zmv 12 4,zbi 13 .add 12 (zki 1),zmv 4 13])])
def Qpc:List (Nat × Md):=[(0,.one .d),(3,.one .f),(4,.one .d)]
def Qjj:TCode :=
 (zsq [(.reg [zmv 22 3,zmv 2 22]),.ret])
def Qz1:TCode :=
 (zsq [(.reg [zmv 2 (.k (.n Qu))]),(.reg [zmv 5 0,zle 6 5,zop 7 (.mk 178 Qu (z0s Qu) 6),zmv 3 7]),(zsq [(.reg [zmv 4 (zki 0)]),(.block 0 (.loop Qpc Qpd))]),Qjj])
def QjO:List (ARv × Md):=[(.t 2,.one (.p 178))]
def QlO:Qb:=TQ 0 0 QjO K
def QD6:Qb:=Qseq (tawp QeS 0 Qjj (QlO K)) (QlO K)
def Qxj:Qb:=Qblk 0 (QD6 K)
def QdN (a:List Qe) (i:Int) (out:List Qe):Prop:=Loop QeS 0 Qpc Qpd (Qxj K) ⟨[(0,(zcs Qu a)),(3,(.r Qu 0 0 out.length)),(4,(zci i))],[(0,(.sl 178 Qu (.dp 0 true []) out))],1⟩
theorem Qpw (a:List Qe) (i:Int) (out:List Qe) (h :
 (zif (decide (i<(a.length:Int))) ((((0:Int)≤i∧Int.toNat i<a.length)∧((p_to (α:=Qe) (gtd ((0,[]):Qe) a (Int.toNat i)))∧(((0:Int)≤i∧Int.toNat i<out.length)∧((0+(Int.toNat i))<out.length))))∧(QdN K a (w64 (i+(1:Int))) (List.take out.length ((out).set (0+(Int.toNat i)) ((id (α:=Qe) (gtd ((0,[]):Qe) a (Int.toNat i))).1,(List.take (((id (α:=Qe) (gtd ((0,[]):Qe) a (Int.toNat i))).2).length) (List.drop 0 ((id (α:=Qe) (gtd ((0,[]):Qe) a (Int.toNat i))).2)))))))) (K (Jq (List.take out.length out))))):QdN K a i out :=
 Loop.of (by kernel_rfl) h
theorem Qw0 (a:List Qe) (h :
 (((0:Int)≤(a.length:Int)∧(a.length:Int)≤big)∧(QdN K a 0 (List.take (Int.toNat (a.length:Int)) (List.replicate (Int.toNat (a.length:Int)) ((0:Int),[])))))):Hold (tawp QeS (0+0) Qz1 (TQ 0 0 QjO K) (Qg [(.c (.sl Qu) a)])) :=
 Hold.of (by kernel_rfl) h
theorem Qu2 (a:List Qe) (hp:p_to (α:=List Qe) a):TCon Tryz.prog 235 [(.c (.sl Qu) a)] (Jq (id (α:=List Qe) a)):=by
 refine Qk rfl fun hb=>tcg (Γ:=QeS) (n:=23) (sg:=Qgc.sg) Ql (TOkL.cons Qwg TOkL.nil) (by kernel_rfl) (by kernel_rfl) (Qw0 _ a ?_)
 refine ⟨⟨by omega,by rw [bigI];have:=Zh hp;omega⟩,?_⟩
 refine YW a (A:=fun ii ll=>QdN (fun r'=>r'=Jq (id (α:=List Qe) a)) a ii ll) (Q:=fun z=>Jq z=Jq (id (α:=List Qe) a)) hp ?_ ?_ rfl
 ·intro k x out hlt hg ho hx hA
  have hw:w64 (((k:Nat):Int)+1)=((k+1:Nat):Int):=by have:=Zh hp;rw [Qw (by omega) (by omega)];omega
  have hlo:k<out.length:=by omega
  refine Qpw (fun r'=>r'=Jq (id (α:=List Qe) a)) a ((k:Nat):Int) out ?_
  refine ⟨fun _=>?_,fun h=>absurd h (by simp;omega)⟩
  simp only [Int.toNat_natCast,Nat.zero_add,hg,hw,hlt,hlo,YB,List.drop_zero,List.take_length,id_eq,and_true,true_and,Int.natCast_nonneg]
  first | exact hA | exact ⟨hx,hA⟩
 ·intro out ho hq
  refine Qpw (fun r'=>r'=Jq (id (α:=List Qe) a)) a ((a.length:Nat):Int) out ?_
  refine ⟨fun h=>absurd h (by simp),fun _=>?_⟩
  simp only [List.drop_zero,List.take_length]
  exact hq
theorem QtX:Qj Tryz.prog Qgc:=Qn fun x h=>Qu2 x.1 h
def QfF (t:Qf):TRes:=⟨(.a [(zci t.1),(.r Qu 0 0 ((t.2).length))]),[(.sl 178 Qu (.dp 0 true []) t.2)],[],false,[]⟩
def Qh4:TRow:=Qi 178 [(.a Qt)] fun x=>(some (p_to (α:=Qf) x.1),QfF (id (α:=Qf) x.1))
def QoQ:TTab:=⟨[Qgc],true⟩
def Qye:TCode :=
 (zsq [(.reg [zop 1 (.box 208 0 2),zop 2 (.new 161 (z0s Qt))]),(.reg [zop 3 (.new 161 (z0s Qt))]),(.reg [zfa 4 1 0,zld 5 4 1,zfa 6 3 0,zst 6 5 1]),(.reg [zfa 7 1 1,zld 8 7 1,zca 9 235 [8],zfa 10 3 1,zst 10 9 1]),(.reg [zLd 11 3 2,zst 2 11 2]),.ret])
def QEf:List (ARv × Md):=[(.l 2 2 true,.b [.d,.p 178])]
theorem QsW (a:Qf) (h :
 ((p_to (α:=List Qe) a.2)∧K (QfF (a.1,(List.take ((id (α:=List Qe) a.2).length) (id (α:=List Qe) a.2)))))):Hold (tawp QoQ (0+0) Qye (TQ 0 0 QEf K) (Qg [(.a [(.c TI a.1),(.c (.sl Qu) a.2)])])) :=
 Hold.of (by kernel_rfl) h
theorem QvA (a:Qf) (hp:p_to (α:=Qf) a):TCon Tryz.prog 178 [(.a [(.c TI a.1),(.c (.sl Qu) a.2)])] (QfF (id (α:=Qf) a)):=by
 refine Qk rfl fun hb=>tcg (Γ:=QoQ) (n:=12) (sg:=Qh4.sg) Ql (TOkL.cons QtX TOkL.nil) (by kernel_rfl) (by kernel_rfl) (QsW _ a ?_)
 repeat' (first | refine And.intro ?_ ?_ | exact R_eq (by simp))
 all_goals (simp only [p_to,QD,QE,QK,List.drop_zero,List.take_length,id_eq] at hp ⊢;omega)
theorem QzM:Qj Tryz.prog Qh4:=Qn fun x h=>QvA x.1 h
def Je (t:(List Qf)):TRes:=⟨(.r Qt 0 0 t.length),[(.sl 161 Qt (.dp 0 true []) t)],[],false,[]⟩
def Qhl:TRow:=Qi 91 [(.c (.sl Qt))] fun x=>(some (p_to (α:=List Qf) x.1),Je (id (α:=List Qf) x.1))
def QeP:TTab:=⟨[Qh4],true⟩
def Qqb:TCode :=
 (zsq [(zsq [(.reg [zmv 8 4,zmv 9 0,zle 10 9,zbi 11 .lss 8 10]),(.cond 11 .skip (.exit 0))]),(.block 1 (.reg [zmv 14 3,zmv 15 4,zmv 16 0,zmv 17 4,zia 18 16 17 Qt,zLd 19 18 2,zca 20 178 [19],zia 21 14 15 Qt,zst 21 20 2])),(.reg [zmv 12 4,zbi 13 .add 12 (zki 1),zmv 4 13])])
def QlK:List (Nat × Md):=[(0,.one .d),(3,.one .f),(4,.one .d)]
def Qqo:TCode :=
 (zsq [(.reg [zmv 22 3,zmv 2 22]),.ret])
def QsI:TCode :=
 (zsq [(.reg [zmv 2 (.k (.n Qt))]),(.reg [zmv 5 0,zle 6 5,zop 7 (.mk 161 Qt (z0s Qt) 6),zmv 3 7]),(zsq [(.reg [zmv 4 (zki 0)]),(.block 0 (.loop QlK Qqb))]),Qqo])
def QnP:List (ARv × Md):=[(.t 2,.one (.p 161))]
def QrS:Qb:=TQ 0 0 QnP K
def QEN:Qb:=Qseq (tawp QeP 0 Qqo (QrS K)) (QrS K)
def QuV:Qb:=Qblk 0 (QEN K)
def QcK (a:List Qf) (i:Int) (out:List Qf):Prop:=Loop QeP 0 QlK Qqb (QuV K) ⟨[(0,(zcs Qt a)),(3,(.r Qt 0 0 out.length)),(4,(zci i))],[(0,(.sl 161 Qt (.dp 0 true []) out))],1⟩
theorem QqW (a:List Qf) (i:Int) (out:List Qf) (h :
 (zif (decide (i<(a.length:Int))) ((((0:Int)≤i∧Int.toNat i<a.length)∧((p_to (α:=Qf) (gtd QC a (Int.toNat i)))∧(((0:Int)≤i∧Int.toNat i<out.length)∧((0+(Int.toNat i))<out.length))))∧(QcK K a (w64 (i+(1:Int))) (List.take out.length ((out).set (0+(Int.toNat i)) ((id (α:=Qf) (gtd QC a (Int.toNat i))).1,(List.take (((id (α:=Qf) (gtd QC a (Int.toNat i))).2).length) (List.drop 0 ((id (α:=Qf) (gtd QC a (Int.toNat i))).2)))))))) (K (Je (List.take out.length out))))):QcK K a i out :=
 Loop.of (by kernel_rfl) h
theorem Qt2 (a:List Qf) (h :
 (((0:Int)≤(a.length:Int)∧(a.length:Int)≤big)∧(QcK K a 0 (List.take (Int.toNat (a.length:Int)) (List.replicate (Int.toNat (a.length:Int)) ((0:Int),[])))))):Hold (tawp QeP (0+0) QsI (TQ 0 0 QnP K) (Qg [(.c (.sl Qt) a)])) :=
 Hold.of (by kernel_rfl) h
theorem Qws (a:List Qf) (hp:p_to (α:=List Qf) a):TCon Tryz.prog 91 [(.c (.sl Qt) a)] (Je (id (α:=List Qf) a)):=by
 refine Qk rfl fun hb=>tcg (Γ:=QeP) (n:=23) (sg:=Qhl.sg) Ql (TOkL.cons QzM TOkL.nil) (by kernel_rfl) (by kernel_rfl) (Qt2 _ a ?_)
 refine ⟨⟨by omega,by rw [bigI];have:=Zh hp;omega⟩,?_⟩
 refine YW a (A:=fun ii ll=>QcK (fun r'=>r'=Je (id (α:=List Qf) a)) a ii ll) (Q:=fun z=>Je z=Je (id (α:=List Qf) a)) hp ?_ ?_ rfl
 ·intro k x out hlt hg ho hx hA
  have hw:w64 (((k:Nat):Int)+1)=((k+1:Nat):Int):=by have:=Zh hp;rw [Qw (by omega) (by omega)];omega
  have hlo:k<out.length:=by omega
  refine QqW (fun r'=>r'=Je (id (α:=List Qf) a)) a ((k:Nat):Int) out ?_
  refine ⟨fun _=>?_,fun h=>absurd h (by simp;omega)⟩
  simp only [Int.toNat_natCast,Nat.zero_add,hg,hw,hlt,hlo,YB,List.drop_zero,List.take_length,id_eq,and_true,true_and,Int.natCast_nonneg]
  first | exact hA | exact ⟨hx,hA⟩
 ·intro out ho hq
  refine QqW (fun r'=>r'=Je (id (α:=List Qf) a)) a ((a.length:Nat):Int) out ?_
  refine ⟨fun h=>absurd h (by simp),fun _=>?_⟩
  simp only [List.drop_zero,List.take_length]
  exact hq
theorem QFa:Qj Tryz.prog Qhl:=Qn fun x h=>Qws x.1 h
def Qbg (t:Bool):TRes:=zre (zcb t)
def QfV:TRow:=Qi 262 [(.a Qu),(.a Qu)] fun x=>(none,Qbg (m_eq (α:=Qe) x.1 x.2.1))
def Qn5:TTab:=⟨[Jt],false⟩
def QFJ:TCode :=
 (zsq [(.reg [zop 2 (.box 178 0 2),zop 3 (.box 178 1 2),zmv 4 (zkb false)]),(zsq [(.reg [zfa 5 2 0,zld 6 5 1,zfa 7 3 0,zld 8 7 1,zbi 9 .neq 6 8]),(.cond 9 (zsq [(.reg [zmv 4 (zkb false)]),.ret]) .skip)]),(zsq [(.reg [zfa 10 2 1,zld 11 10 1,zfa 12 3 1,zld 13 12 1,zca 14 23 [11,13],zno 15 14]),(.cond 15 (zsq [(.reg [zmv 4 (zkb false)]),.ret]) .skip)]),(.reg [zmv 4 (zkb true)]),.ret])
def Qve:List (ARv × Md):=[(.t 4,.one .d)]
theorem Qxi (a:Qe) (b:Qe) (h :
 (zif (a.1 != b.1) (K (Qbg false)) (zif (!(m_eq (α:=List Int) a.2 b.2)) (K (Qbg false)) (K (Qbg true))))):Hold (tawp Qn5 (0+0) QFJ (TQ 0 0 Qve K) (Qg [(.a [(.c TI a.1),(.c (.sl [TI]) a.2)]),(.a [(.c TI b.1),(.c (.sl [TI]) b.2)])])) :=
 Hold.of (by kernel_rfl) h
theorem Qs2 (a:Qe) (b:Qe):TCon Tryz.prog 262 [(.a [(.c TI a.1),(.c (.sl [TI]) a.2)]),(.a [(.c TI b.1),(.c (.sl [TI]) b.2)])] (Qbg (m_eq (α:=Qe) a b)):=by
 refine Qk rfl fun hb=>tcg (Γ:=Qn5) (n:=16) (sg:=QfV.sg) Ql (TOkL.cons Qa0 TOkL.nil) (by kernel_rfl) (by kernel_rfl) (Qxi _ a b ?_)
 refine ⟨fun h=>R_eq (Eq.symm (decide_eq_false (by rintro rfl;simp [m_eq] at h))),fun h0=>?_⟩
 refine ⟨fun h=>R_eq (Eq.symm (decide_eq_false (by rintro rfl;simp [m_eq] at h))),fun h1=>?_⟩
 refine R_eq (Eq.symm (decide_eq_true ?_))
 simp [m_eq] at h0 h1
 simp [Prod.ext_iff, *]
theorem QAd:Qj Tryz.prog QfV:=Qn fun x _=>Qs2 x.1 x.2.1
def Qau (t:Bool):TRes:=zre (zcb t)
def QgG:TRow:=Qi 236 [(.c (.sl Qu)),(.c (.sl Qu))] fun x=>(none,Qau (m_eq (α:=List Qe) x.1 x.2.1))
def QcA:TTab:=⟨[QfV],false⟩
def Qj3:TCode :=
 (zsq [(zsq [(.reg [zmv 11 5,zmv 12 0,zle 13 12,zbi 14 .lss 11 13]),(.cond 14 .skip (.exit 0))]),(.block 1 (zsq [(.draw [zmv 17 0,zmv 18 5,zia 19 17 18 Qu,zLd 20 19 2,zmv 21 1,zmv 22 5,zia 23 21 22 Qu,zLd 24 23 2,zca 25 262 [20,24],zno 26 25] []),(.cond 26 (zsq [(.reg [zmv 4 (zkb false)]),.ret]) .skip)])),(.reg [zmv 15 5,zbi 16 .add 15 (zki 1),zmv 5 16])])
def Qqp:List (Nat × Md):=zdl [0,1,5]
def Qnq:TCode :=
 (zsq [(.reg [zmv 4 (zkb true)]),.ret])
def QEx:TCode :=
 (zsq [(.reg [zmv 4 (zkb false)]),(zsq [(.reg [zmv 6 0,zle 7 6,zmv 8 1,zle 9 8,zbi 10 .neq 7 9]),(.cond 10 (zsq [(.reg [zmv 4 (zkb false)]),.ret]) .skip)]),(zsq [(.reg [zmv 5 (zki 0)]),(.block 0 (.loop Qqp Qj3))]),Qnq])
def Qr7:List (ARv × Md):=[(.t 4,.one .d)]
def Qln:Qb:=TQ 0 0 Qr7 K
def Qzy:Qb:=Qseq (tawp QcA 0 Qnq (Qln K)) (Qln K)
def QtB:Qb:=Qblk 0 (Qzy K)
def QhO (a:List Qe) (b:List Qe) (i:Int):Prop:=Loop QcA 0 Qqp Qj3 (QtB K) ⟨[(0,(zcs Qu a)),(1,(zcs Qu b)),(5,(zci i))],[],0⟩
theorem QxA (a:List Qe) (b:List Qe) (i:Int) (h :
 (zif (decide (i<(a.length:Int))) ((((0:Int)≤i∧Int.toNat i<a.length)∧((0:Int)≤i∧Int.toNat i<b.length))∧(zif (!(m_eq (α:=Qe) (gtd ((0,[]):Qe) a (Int.toNat i)) (gtd ((0,[]):Qe) b (Int.toNat i)))) (K (Qau false)) (QhO K a b (w64 (i+(1:Int)))))) (K (Qau true)))):QhO K a b i :=
 Loop.of (by kernel_rfl) h
theorem QEb (a:List Qe) (b:List Qe) (h :
 (zif ((a.length:Int) != (b.length:Int)) (K (Qau false)) (QhO K a b 0))):Hold (tawp QcA (0+0) QEx (TQ 0 0 Qr7 K) (Qg [(.c (.sl Qu) a),(.c (.sl Qu) b)])) :=
 Hold.of (by kernel_rfl) h
theorem QDr (a:List Qe) (b:List Qe):TCon Tryz.prog 236 [(.c (.sl Qu) a),(.c (.sl Qu) b)] (Qau (m_eq (α:=List Qe) a b)):=by
 refine Qk rfl fun hb=>tcg (Γ:=QcA) (n:=27) (sg:=QgG.sg) Ql (TOkL.cons QAd TOkL.nil) (by kernel_rfl) (by kernel_rfl) (QEb _ a b ?_)
 exact YH ((0,[]):Qe) (E:=m_eq) (fun _ _=>rfl) hb.1.1 (fun i h=>QxA _ a b i h) (Q:=fun x=>Qau x=Qau (m_eq (α:=List Qe) a b)) rfl
theorem Qxr:Qj Tryz.prog QgG:=Qn fun x _=>QDr x.1 x.2.1
def Qb1 (t:Bool):TRes:=zre (zcb t)
def QgE:TRow:=Qi 181 [(.a Qt),(.a Qt)] fun x=>(none,Qb1 (m_eq (α:=Qf) x.1 x.2.1))
def Qog:TTab:=⟨[QgG],false⟩
def Qwn:TCode :=
 (zsq [(.reg [zop 2 (.box 161 0 2),zop 3 (.box 161 1 2),zmv 4 (zkb false)]),(zsq [(.reg [zfa 5 2 0,zld 6 5 1,zfa 7 3 0,zld 8 7 1,zbi 9 .neq 6 8]),(.cond 9 (zsq [(.reg [zmv 4 (zkb false)]),.ret]) .skip)]),(zsq [(.reg [zfa 10 2 1,zld 11 10 1,zfa 12 3 1,zld 13 12 1,zca 14 236 [11,13],zno 15 14]),(.cond 15 (zsq [(.reg [zmv 4 (zkb false)]),.ret]) .skip)]),(.reg [zmv 4 (zkb true)]),.ret])
def QA8:List (ARv × Md):=[(.t 4,.one .d)]
theorem QxW (a:Qf) (b:Qf) (h :
 (zif (a.1 != b.1) (K (Qb1 false)) (zif (!(m_eq (α:=List Qe) a.2 b.2)) (K (Qb1 false)) (K (Qb1 true))))):Hold (tawp Qog (0+0) Qwn (TQ 0 0 QA8 K) (Qg [(.a [(.c TI a.1),(.c (.sl Qu) a.2)]),(.a [(.c TI b.1),(.c (.sl Qu) b.2)])])) :=
 Hold.of (by kernel_rfl) h
theorem QuG (a:Qf) (b:Qf):TCon Tryz.prog 181 [(.a [(.c TI a.1),(.c (.sl Qu) a.2)]),(.a [(.c TI b.1),(.c (.sl Qu) b.2)])] (Qb1 (m_eq (α:=Qf) a b)):=by
 refine Qk rfl fun hb=>tcg (Γ:=Qog) (n:=16) (sg:=QgE.sg) Ql (TOkL.cons Qxr TOkL.nil) (by kernel_rfl) (by kernel_rfl) (QxW _ a b ?_)
 refine ⟨fun h=>R_eq (Eq.symm (decide_eq_false (by rintro rfl;simp [m_eq] at h))),fun h0=>?_⟩
 refine ⟨fun h=>R_eq (Eq.symm (decide_eq_false (by rintro rfl;simp [m_eq] at h))),fun h1=>?_⟩
 refine R_eq (Eq.symm (decide_eq_true ?_))
 simp [m_eq] at h0 h1
 simp [Prod.ext_iff, *]
theorem QA1:Qj Tryz.prog QgE:=Qn fun x _=>QuG x.1 x.2.1
def Qao (t:Bool):TRes:=zre (zcb t)
def Qff:TRow:=Qi 94 [(.c (.sl Qt)),(.c (.sl Qt))] fun x=>(none,Qao (m_eq (α:=List Qf) x.1 x.2.1))
def QcR:TTab:=⟨[QgE],false⟩
def Qq8:TCode :=
 (zsq [(zsq [(.reg [zmv 11 5,zmv 12 0,zle 13 12,zbi 14 .lss 11 13]),(.cond 14 .skip (.exit 0))]),(.block 1 (zsq [(.draw [zmv 17 0,zmv 18 5,zia 19 17 18 Qt,zLd 20 19 2,zmv 21 1,zmv 22 5,zia 23 21 22 Qt,zLd 24 23 2,zca 25 181 [20,24],zno 26 25] []),(.cond 26 (zsq [(.reg [zmv 4 (zkb false)]),.ret]) .skip)])),(.reg [zmv 15 5,zbi 16 .add 15 (zki 1),zmv 5 16])])
def QjI:List (Nat × Md):=zdl [0,1,5]
def Ql2:TCode :=
 (zsq [(.reg [zmv 4 (zkb true)]),.ret])
def QAg:TCode :=
 (zsq [(.reg [zmv 4 (zkb false)]),(zsq [(.reg [zmv 6 0,zle 7 6,zmv 8 1,zle 9 8,zbi 10 .neq 7 9]),(.cond 10 (zsq [(.reg [zmv 4 (zkb false)]),.ret]) .skip)]),(zsq [(.reg [zmv 5 (zki 0)]),(.block 0 (.loop QjI Qq8))]),Ql2])
def QpK:List (ARv × Md):=[(.t 4,.one .d)]
def QlE:Qb:=TQ 0 0 QpK K
def QsT:Qb:=Qseq (tawp QcR 0 Ql2 (QlE K)) (QlE K)
def QyH:Qb:=Qblk 0 (QsT K)
def Qib (a:List Qf) (b:List Qf) (i:Int):Prop:=Loop QcR 0 QjI Qq8 (QyH K) ⟨[(0,(zcs Qt a)),(1,(zcs Qt b)),(5,(zci i))],[],0⟩
theorem QwL (a:List Qf) (b:List Qf) (i:Int) (h :
 (zif (decide (i<(a.length:Int))) ((((0:Int)≤i∧Int.toNat i<a.length)∧((0:Int)≤i∧Int.toNat i<b.length))∧(zif (!(m_eq (α:=Qf) (gtd QC a (Int.toNat i)) (gtd QC b (Int.toNat i)))) (K (Qao false)) (Qib K a b (w64 (i+(1:Int)))))) (K (Qao true)))):Qib K a b i :=
 Loop.of (by kernel_rfl) h
theorem QBN (a:List Qf) (b:List Qf) (h :
 (zif ((a.length:Int) != (b.length:Int)) (K (Qao false)) (Qib K a b 0))):Hold (tawp QcR (0+0) QAg (TQ 0 0 QpK K) (Qg [(.c (.sl Qt) a),(.c (.sl Qt) b)])) :=
 Hold.of (by kernel_rfl) h
theorem Qu0 (a:List Qf) (b:List Qf):TCon Tryz.prog 94 [(.c (.sl Qt) a),(.c (.sl Qt) b)] (Qao (m_eq (α:=List Qf) a b)):=by
 refine Qk rfl fun hb=>tcg (Γ:=QcR) (n:=27) (sg:=Qff.sg) Ql (TOkL.cons QA1 TOkL.nil) (by kernel_rfl) (by kernel_rfl) (QBN _ a b ?_)
 exact YH QC (E:=m_eq) (fun _ _=>rfl) hb.1.1 (fun i h=>QwL _ a b i h) (Q:=fun x=>Qao x=Qao (m_eq (α:=List Qf) a b)) rfl
theorem QzU:Qj Tryz.prog Qff:=Qn fun x _=>Qu0 x.1 x.2.1
end
end Go.Proofs.YtdplaepmjogjjaaGreat.Am

