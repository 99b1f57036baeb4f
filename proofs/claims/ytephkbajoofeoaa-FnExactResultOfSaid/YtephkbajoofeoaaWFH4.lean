/- -/
import Derived.Test.YtephkbajoofeoaaWFH1
import Derived.Test.YtephkbajoofeoaaWFGF
namespace Go.Proofs.Ytephkbajoofeoaa.Am
open Go Go.RowKit Go.Proofs.Ytephkbajoofeoaa
set_option linter.all false
noncomputable section
variable (K:TRes→Prop)
def Qas (t:Int):TRes:=zre (zci t)
def Qf4:TRow:=Ql 22 [(.c (.sl QE)),(.c TI)] fun x=>(some (p_sz (α:=List TIns) x.1 x.2.1),Qas (m_sz (α:=List TIns) x.1 x.2.1))
def QjU:TTab:=⟨[],false⟩
def QqX:TCode :=
 (zsq [(.reg [zmv 4 (zki 0)]),(.reg [zmv 5 1,zmv 6 0,zle 7 6,zbi 8 .sub 5 7,zmv 1 8]),(zsq [(.reg [zmv 9 1,zbi 10 .lss 9 (zki 0)]),(.cond 10 (zsq [(.reg [zmv 4 (zki (-1))]),.ret]) .skip)]),(.reg [zmv 11 1,zmv 4 11]),.ret])
def Qu9:List (ARv × Md):=[(.t 4,.one .d)]
theorem QtN (a:List TIns) (left:Int) (h :
 (zif (decide ((w64 (left-(a.length:Int)))<(0:Int))) (K (Qas (-1:Int))) (K (Qas (w64 (left-(a.length:Int))))))):Hold (tawp QjU (0+0) QqX (TQ 0 0 Qu9 K) (Qk [(.c (.sl QE) a),(.c TI left)])) :=
 Hold.of (by kernel_rfl) h
theorem Qrk (a:List TIns) (left:Int) (hp:p_sz (α:=List TIns) a left):TCon Try.prog 22 [(.c (.sl QE) a),(.c TI left)] (Qas (m_sz (α:=List TIns) a left)):=by
 refine Qp rfl fun hb=>tcg (Γ:=QjU) (n:=12) (sg:=Qf4.sg) Qo TOkL.nil (by kernel_rfl) (by kernel_rfl) (QtN _ a left ?_)
 exact QmZ (Q:=fun x=>Qas x=Qas (m_sz (α:=List TIns) a left)) (fun _=>rfl) hp hb.1.1 rfl
theorem QpF:Qm Try.prog Qf4:=Qr fun x h=>Qrk x.1 x.2.1 h
def Qcv (t:Int):TRes:=zre (zci t)
def QgZ:TRow:=Ql 216 [(.a QA),(.c TI)] fun x=>(some (p_sz (α:=Qj) x.1 x.2.1),Qcv (m_sz (α:=Qj) x.1 x.2.1))
def QjS:TTab:=⟨[Qbu],false⟩
def QrH:TCode :=
 (zsq [(.reg [zop 2 (.box 246 0 2),zmv 4 (zki 0)]),(.reg [zfa 5 2 1,zld 6 5 1,zmv 7 1,zca 8 209 [6,7],zmv 1 8]),(zsq [(.reg [zmv 9 1,zbi 10 .lss 9 (zki 0)]),(.cond 10 (zsq [(.reg [zmv 4 (zki (-1))]),.ret]) .skip)]),(.reg [zmv 11 1,zmv 4 11]),.ret])
def QqW:List (ARv × Md):=[(.t 4,.one .d)]
theorem Qyq (a:Qj) (left:Int) (h :
 ((p_sz (α:=List (List Int)) a.2 left)∧(zif (decide ((m_sz (α:=List (List Int)) a.2 left)<(0:Int))) (K (Qcv (-1:Int))) (K (Qcv (m_sz (α:=List (List Int)) a.2 left)))))):Hold (tawp QjS (0+0) QrH (TQ 0 0 QqW K) (Qk [(.a [(.c TI a.1),(.c (.sl [(.sl [TI])]) a.2)]),(.c TI left)])) :=
 Hold.of (by kernel_rfl) h
theorem QpL (a:Qj) (left:Int) (hp:p_sz (α:=Qj) a left):TCon Try.prog 216 [(.a [(.c TI a.1),(.c (.sl [(.sl [TI])]) a.2)]),(.c TI left)] (Qcv (m_sz (α:=Qj) a left)):=by
 refine Qp rfl fun hb=>tcg (Γ:=QjS) (n:=12) (sg:=QgZ.sg) Qo (TOkL.cons QgF TOkL.nil) (by kernel_rfl) (by kernel_rfl) (Qyq _ a left ?_)
 refine ⟨hp,fun h=>R_eq (QU (of_decide_eq_true h) (by first | omega | (simp only [Qw,Qy,QD];omega)) hp.1),fun h=>?_⟩
 exact R_eq (congrArg (QZ · _) (by first | rfl | omega | (simp only [Qw,Qy,QD];omega)))
theorem Qsw:Qm Try.prog QgZ:=Qr fun x h=>QpL x.1 x.2.1 h
def Jo (t:Int):TRes:=zre (zci t)
def QdZ:TRow:=Ql 208 [(.c (.sl QA)),(.c TI)] fun x=>(some (p_sz (α:=List Qj) x.1 x.2.1),Jo (m_sz (α:=List Qj) x.1 x.2.1))
def Qcs:TTab:=⟨[QgZ],false⟩
def Qm0:TCode :=
 (zsq [(zsq [(.reg [zmv 12 5,zmv 13 0,zle 14 13,zbi 15 .lss 12 14]),(.cond 15 .skip (.exit 0))]),(.block 1 (zsq [(.reg [zmv 18 0,zmv 19 5,zia 20 18 19 QA,zLd 21 20 2,zmv 22 1,zca 23 216 [21,22],zmv 1 23]),(.reg [zmv 24 1,zbi 25 .lss 24 (zki 0)]),(.cond 25 (zsq [(.reg [zmv 4 (zki (-1))]),.ret]) .skip)])),(.reg [zmv 16 5,zbi 17 .add 16 (zki 1),zmv 5 17])])
def Qiu:List (Nat × Md):=zdl [0,1,5]
def Qov:TCode :=
 (zsq [(.reg [zmv 26 1,zmv 4 26]),.ret])
def Qo6:TCode :=
 (zsq [(.reg [zmv 4 (zki 0)]),(.reg [zmv 6 1,zmv 7 0,zle 8 7,zbi 9 .sub 6 8,zmv 1 9]),(zsq [(.reg [zmv 10 1,zbi 11 .lss 10 (zki 0)]),(.cond 11 (zsq [(.reg [zmv 4 (zki (-1))]),.ret]) .skip)]),(zsq [(.reg [zmv 5 (zki 0)]),(.block 0 (.loop Qiu Qm0))]),Qov])
def Qkd:List (ARv × Md):=[(.t 4,.one .d)]
def QmA:Qb:=TQ 0 0 Qkd K
def Qrp:Qb:=Qseq (tawp Qcs 0 Qov (QmA K)) (QmA K)
def Qp1:Qb:=Qblk 0 (Qrp K)
def QfQ (a:List Qj) (left1:Int) (i:Int):Prop:=Loop Qcs 0 Qiu Qm0 (Qp1 K) ⟨[(0,(zcs QA a)),(1,(zci left1)),(5,(zci i))],[],0⟩
theorem Qqb (a:List Qj) (left1:Int) (i:Int) (h :
 (zif (decide (i<(a.length:Int))) ((((0:Int)≤i∧Int.toNat i<a.length)∧(p_sz (α:=Qj) (gtd Q9 a (Int.toNat i)) left1))∧(zif (decide ((m_sz (α:=Qj) (gtd Q9 a (Int.toNat i)) left1)<(0:Int))) (K (Jo (-1:Int))) (QfQ K a (m_sz (α:=Qj) (gtd Q9 a (Int.toNat i)) left1) (w64 (i+(1:Int)))))) (K (Jo left1)))):QfQ K a left1 i :=
 Loop.of (by kernel_rfl) h
theorem Qqy (a:List Qj) (left:Int) (h :
 (zif (decide ((w64 (left-(a.length:Int)))<(0:Int))) (K (Jo (-1:Int))) (QfQ K a (w64 (left-(a.length:Int))) 0))):Hold (tawp Qcs (0+0) Qo6 (TQ 0 0 Qkd K) (Qk [(.c (.sl QA) a),(.c TI left)])) :=
 Hold.of (by kernel_rfl) h
theorem Qrf (a:List Qj) (left:Int) (hp:p_sz (α:=List Qj) a left):TCon Try.prog 208 [(.c (.sl QA) a),(.c TI left)] (Jo (m_sz (α:=List Qj) a left)):=by
 refine Qp rfl fun hb=>tcg (Γ:=Qcs) (n:=27) (sg:=QdZ.sg) Qo (TOkL.cons Qsw TOkL.nil) (by kernel_rfl) (by kernel_rfl) (Qqy _ a left ?_)
 exact J3 (Q:=fun x=>Jo x=Jo (m_sz (α:=List Qj) a left)) Q9 hp hb.1.1 (fun l i h=>Qqb _ a l i h) rfl
theorem Qpi:Qm Try.prog QdZ:=Qr fun x h=>Qrf x.1 x.2.1 h
def Qe6 (t:TIns):TRes:=zre (.a [(zci t.1),(zci t.2)])
def Qeg:TRow:=Ql 112 [(.a QE)] fun x=>(some (p_to (α:=TIns) x.1),Qe6 (id (α:=TIns) x.1))
def Qoo:TTab:=⟨[],true⟩
def Qyt:TCode :=
 (zsq [(.reg [zop 1 (.box 158 0 2),zop 2 (.new 151 (z0s QE))]),(.reg [zop 3 (.new 151 (z0s QE))]),(.reg [zfa 4 1 0,zld 5 4 1,zfa 6 3 0,zst 6 5 1]),(.reg [zfa 7 1 1,zld 8 7 1,zfa 9 3 1,zst 9 8 1]),(.reg [zLd 10 3 2,zst 2 10 2]),.ret])
def QsX:List (ARv × Md):=[(.l 2 2 true,.b [.d,.d])]
theorem QwN (a:TIns) (h :
 K (Qe6 a)):Hold (tawp Qoo (0+0) Qyt (TQ 0 0 QsX K) (Qk [(.a [(.c TI a.1),(.c TI a.2)])])) :=
 Hold.of (by kernel_rfl) h
theorem QrB (a:TIns) (hp:p_to (α:=TIns) a):TCon Try.prog 112 [(.a [(.c TI a.1),(.c TI a.2)])] (Qe6 (id (α:=TIns) a)):=by
 refine Qp rfl fun hb=>tcg (Γ:=Qoo) (n:=11) (sg:=Qeg.sg) Qo TOkL.nil (by kernel_rfl) (by kernel_rfl) (QwN _ a ?_)
 exact R_eq rfl
theorem Qqg:Qm Try.prog Qeg:=Qr fun x h=>QrB x.1 h
def YQ (t:(List TIns)):TRes:=⟨(.r QE 0 0 t.length),[(.sl 151 QE (.dp 0 true []) t)],[],false,[]⟩
def Qfk:TRow:=Ql 24 [(.c (.sl QE))] fun x=>(some (p_to (α:=List TIns) x.1),YQ (id (α:=List TIns) x.1))
def Qb7:TTab:=⟨[Qeg],true⟩
def QjW:TCode :=
 (zsq [(zsq [(.reg [zmv 8 4,zmv 9 0,zle 10 9,zbi 11 .lss 8 10]),(.cond 11 .skip (.exit 0))]),(.block 1 (.reg [zmv 14 3,zmv 15 4,zmv 16 0,zmv 17 4,zia 18 16 17 QE,zLd 19 18 2,zca 20 112 [19],zia 21 14 15 QE,zst 21 20 2])),(.reg [zmv 12 4,zbi 13 .add 12 (zki 1),zmv 4 13])])
def QiW:List (Nat × Md):=[(0,.one .d),(3,.one .f),(4,.one .d)]
def Qhk:TCode :=
 (zsq [(.reg [zmv 22 3,zmv 2 22]),.ret])
def Quv:TCode :=
 (zsq [(.reg [zmv 2 (.k (.n QE))]),(.reg [zmv 5 0,zle 6 5,zop 7 (.mk 151 QE (z0s QE) 6),zmv 3 7]),(zsq [(.reg [zmv 4 (zki 0)]),(.block 0 (.loop QiW QjW))]),Qhk])
def QhR:List (ARv × Md):=[(.t 2,.one (.p 151))]
def Qh1:Qb:=TQ 0 0 QhR K
def Qye:Qb:=Qseq (tawp Qb7 0 Qhk (Qh1 K)) (Qh1 K)
def QtP:Qb:=Qblk 0 (Qye K)
def Qcq (a:List TIns) (i:Int) (out:List TIns):Prop:=Loop Qb7 0 QiW QjW (QtP K) ⟨[(0,(zcs QE a)),(3,(.r QE 0 0 out.length)),(4,(zci i))],[(0,(.sl 151 QE (.dp 0 true []) out))],1⟩
theorem Qjj (a:List TIns) (i:Int) (out:List TIns) (h :
 (zif (decide (i<(a.length:Int))) ((((0:Int)≤i∧Int.toNat i<a.length)∧((p_to (α:=TIns) (gtd dIns a (Int.toNat i)))∧(((0:Int)≤i∧Int.toNat i<out.length)∧((0+(Int.toNat i))<out.length))))∧(Qcq K a (w64 (i+(1:Int))) (List.take out.length ((out).set (0+(Int.toNat i)) (id (α:=TIns) (gtd dIns a (Int.toNat i))))))) (K (YQ (List.take out.length out))))):Qcq K a i out :=
 Loop.of (by kernel_rfl) h
theorem Qtp (a:List TIns) (h :
 (((0:Int)≤(a.length:Int)∧(a.length:Int)≤big)∧(Qcq K a 0 (List.take (Int.toNat (a.length:Int)) (List.replicate (Int.toNat (a.length:Int)) ((0:Int),(0:Int))))))):Hold (tawp Qb7 (0+0) Quv (TQ 0 0 QhR K) (Qk [(.c (.sl QE) a)])) :=
 Hold.of (by kernel_rfl) h
theorem Qr2 (a:List TIns) (hp:p_to (α:=List TIns) a):TCon Try.prog 24 [(.c (.sl QE) a)] (YQ (id (α:=List TIns) a)):=by
 refine Qp rfl fun hb=>tcg (Γ:=Qb7) (n:=23) (sg:=Qfk.sg) Qo (TOkL.cons Qqg TOkL.nil) (by kernel_rfl) (by kernel_rfl) (Qtp _ a ?_)
 refine ⟨⟨by omega,by rw [bigI];have:=Q7 hp;omega⟩,?_⟩
 refine YA a (A:=fun ii ll=>Qcq (fun r'=>r'=YQ (id (α:=List TIns) a)) a ii ll) (Q:=fun z=>YQ z=YQ (id (α:=List TIns) a)) hp ?_ ?_ rfl
 ·intro k x out hlt hg ho hx hA
  have hw:w64 (((k:Nat):Int)+1)=((k+1:Nat):Int):=by have:=Q7 hp;rw [QN (by omega) (by omega)];omega
  have hlo:k<out.length:=by omega
  refine Qjj (fun r'=>r'=YQ (id (α:=List TIns) a)) a ((k:Nat):Int) out ?_
  refine ⟨fun _=>?_,fun h=>absurd h (by simp;omega)⟩
  simp only [Int.toNat_natCast,Nat.zero_add,hg,hw,hlt,hlo,Yi,List.drop_zero,List.take_length,id_eq,and_true,true_and,Int.natCast_nonneg]
  first | exact hA | exact ⟨hx,hA⟩
 ·intro out ho hq
  refine Qjj (fun r'=>r'=YQ (id (α:=List TIns) a)) a ((a.length:Nat):Int) out ?_
  refine ⟨fun h=>absurd h (by simp),fun _=>?_⟩
  simp only [List.drop_zero,List.take_length]
  exact hq
theorem Qy4:Qm Try.prog Qfk:=Qr fun x h=>Qr2 x.1 h
def QgN (t:Qj):TRes:=⟨(.a [(zci t.1),(.r [(.sl [TI])] 0 0 ((t.2).length))]),[(.sl 91 [(.sl [TI])] (.dp 0 true []) t.2)],[],false,[]⟩
def QeH:TRow:=Ql 218 [(.a QA)] fun x=>(some (p_to (α:=Qj) x.1),QgN (id (α:=Qj) x.1))
def Qms:TTab:=⟨[QaV],true⟩
def Qvw:TCode :=
 (zsq [(.reg [zop 1 (.box 246 0 2),zop 2 (.new 218 (z0s QA))]),(.reg [zop 3 (.new 218 (z0s QA))]),(.reg [zfa 4 1 0,zld 5 4 1,zfa 6 3 0,zst 6 5 1]),(.reg [zfa 7 1 1,zld 8 7 1,zca 9 212 [8],zfa 10 3 1,zst 10 9 1]),(.reg [zLd 11 3 2,zst 2 11 2]),.ret])
def Qup:List (ARv × Md):=[(.l 2 2 true,.b [.d,.p 91])]
theorem Qvu (a:Qj) (h :
 ((p_to (α:=List (List Int)) a.2)∧K (QgN (a.1,(List.take ((id (α:=List (List Int)) a.2).length) (id (α:=List (List Int)) a.2)))))):Hold (tawp Qms (0+0) Qvw (TQ 0 0 Qup K) (Qk [(.a [(.c TI a.1),(.c (.sl [(.sl [TI])]) a.2)])])) :=
 Hold.of (by kernel_rfl) h
theorem QpV (a:Qj) (hp:p_to (α:=Qj) a):TCon Try.prog 218 [(.a [(.c TI a.1),(.c (.sl [(.sl [TI])]) a.2)])] (QgN (id (α:=Qj) a)):=by
 refine Qp rfl fun hb=>tcg (Γ:=Qms) (n:=12) (sg:=QeH.sg) Qo (TOkL.cons QeN TOkL.nil) (by kernel_rfl) (by kernel_rfl) (Qvu _ a ?_)
 repeat' (first | refine And.intro ?_ ?_ | exact R_eq (by simp))
 all_goals (simp only [p_to,Qw,Qy,QD,List.drop_zero,List.take_length,id_eq] at hp ⊢;omega)
theorem Qt7:Qm Try.prog QeH:=Qr fun x h=>QpV x.1 h
def YY (t:(List Qj)):TRes:=⟨(.r QA 0 0 t.length),[(.sl 218 QA (.dp 0 true []) t)],[],false,[]⟩
def Qfs:TRow:=Ql 211 [(.c (.sl QA))] fun x=>(some (p_to (α:=List Qj) x.1),YY (id (α:=List Qj) x.1))
def Qcg:TTab:=⟨[QeH],true⟩
def Qlz:TCode :=
 (zsq [(zsq [(.reg [zmv 8 4,zmv 9 0,zle 10 9,zbi 11 .lss 8 10]),(.cond 11 .skip (.exit 0))]),(.block 1 (.reg [zmv 14 3,zmv 15 4,zmv 16 0,zmv 17 4,zia 18 16 17 QA,zLd 19 18 2,zca 20 218 [19],zia 21 14 15 QA,zst 21 20 2])),(.reg [zmv 12 4,zbi 13 .add 12 (zki 1),zmv 4 13])])
def Qok:List (Nat × Md):=[(0,.one .d),(3,.one .f),(4,.one .d)]
def Qof:TCode :=
 (zsq [(.reg [zmv 22 3,zmv 2 22]),.ret])
def QpD:TCode :=
 (zsq [(.reg [zmv 2 (.k (.n QA))]),(.reg [zmv 5 0,zle 6 5,zop 7 (.mk 218 QA (z0s QA) 6),zmv 3 7]),(zsq [(.reg [zmv 4 (zki 0)]),(.block 0 (.loop Qok Qlz))]),Qof])
def QlK:List (ARv × Md):=[(.t 2,.one (.p 218))]
def Qmr:Qb:=TQ 0 0 QlK K
def QwR:Qb:=Qseq (tawp Qcg 0 Qof (Qmr K)) (Qmr K)
def Qw3:Qb:=Qblk 0 (QwR K)
def Qcr (a:List Qj) (i:Int) (out:List Qj):Prop:=Loop Qcg 0 Qok Qlz (Qw3 K) ⟨[(0,(zcs QA a)),(3,(.r QA 0 0 out.length)),(4,(zci i))],[(0,(.sl 218 QA (.dp 0 true []) out))],1⟩
theorem Qnq (a:List Qj) (i:Int) (out:List Qj) (h :
 (zif (decide (i<(a.length:Int))) ((((0:Int)≤i∧Int.toNat i<a.length)∧((p_to (α:=Qj) (gtd Q9 a (Int.toNat i)))∧(((0:Int)≤i∧Int.toNat i<out.length)∧((0+(Int.toNat i))<out.length))))∧(Qcr K a (w64 (i+(1:Int))) (List.take out.length ((out).set (0+(Int.toNat i)) ((id (α:=Qj) (gtd Q9 a (Int.toNat i))).1,(List.take (((id (α:=Qj) (gtd Q9 a (Int.toNat i))).2).length) (List.drop 0 ((id (α:=Qj) (gtd Q9 a (Int.toNat i))).2)))))))) (K (YY (List.take out.length out))))):Qcr K a i out :=
 Loop.of (by kernel_rfl) h
theorem QxY (a:List Qj) (h :
 (((0:Int)≤(a.length:Int)∧(a.length:Int)≤big)∧(Qcr K a 0 (List.take (Int.toNat (a.length:Int)) (List.replicate (Int.toNat (a.length:Int)) ((0:Int),[])))))):Hold (tawp Qcg (0+0) QpD (TQ 0 0 QlK K) (Qk [(.c (.sl QA) a)])) :=
 Hold.of (by kernel_rfl) h
theorem Qo8 (a:List Qj) (hp:p_to (α:=List Qj) a):TCon Try.prog 211 [(.c (.sl QA) a)] (YY (id (α:=List Qj) a)):=by
 refine Qp rfl fun hb=>tcg (Γ:=Qcg) (n:=23) (sg:=Qfs.sg) Qo (TOkL.cons Qt7 TOkL.nil) (by kernel_rfl) (by kernel_rfl) (QxY _ a ?_)
 refine ⟨⟨by omega,by rw [bigI];have:=Q7 hp;omega⟩,?_⟩
 refine YA a (A:=fun ii ll=>Qcr (fun r'=>r'=YY (id (α:=List Qj) a)) a ii ll) (Q:=fun z=>YY z=YY (id (α:=List Qj) a)) hp ?_ ?_ rfl
 ·intro k x out hlt hg ho hx hA
  have hw:w64 (((k:Nat):Int)+1)=((k+1:Nat):Int):=by have:=Q7 hp;rw [QN (by omega) (by omega)];omega
  have hlo:k<out.length:=by omega
  refine Qnq (fun r'=>r'=YY (id (α:=List Qj) a)) a ((k:Nat):Int) out ?_
  refine ⟨fun _=>?_,fun h=>absurd h (by simp;omega)⟩
  simp only [Int.toNat_natCast,Nat.zero_add,hg,hw,hlt,hlo,Yi,List.drop_zero,List.take_length,id_eq,and_true,true_and,Int.natCast_nonneg]
  first | exact hA | exact ⟨hx,hA⟩
 ·intro out ho hq
  refine Qnq (fun r'=>r'=YY (id (α:=List Qj) a)) a ((a.length:Nat):Int) out ?_
  refine ⟨fun h=>absurd h (by simp),fun _=>?_⟩
  simp only [List.drop_zero,List.take_length]
  exact hq
theorem Que:Qm Try.prog Qfs:=Qr fun x h=>Qo8 x.1 h
def Qbj (t:Bool):TRes:=zre (zcb t)
def QgS:TRow:=Ql 109 [(.a QE),(.a QE)] fun x=>(none,Qbj (m_eq (α:=TIns) x.1 x.2.1))
def Qjx:TTab:=⟨[],false⟩
def Qtg:TCode :=
 (zsq [(.reg [zop 2 (.box 151 0 2),zop 3 (.box 151 1 2),zmv 4 (zkb false)]),(zsq [(.reg [zfa 5 2 0,zld 6 5 1,zfa 7 3 0,zld 8 7 1,zbi 9 .neq 6 8]),(.cond 9 (zsq [(.reg [zmv 4 (zkb false)]),.ret]) .skip)]),(zsq [(.reg [zfa 10 2 1,zld 11 10 1,zfa 12 3 1,zld 13 12 1,zbi 14 .neq 11 13]),(.cond 14 (zsq [(.reg [zmv 4 (zkb false)]),.ret]) .skip)]),(.reg [zmv 4 (zkb true)]),.ret])
def Qu5:List (ARv × Md):=[(.t 4,.one .d)]
theorem Qxg (a:TIns) (b:TIns) (h :
 (zif (a.1 != b.1) (K (Qbj false)) (zif (a.2 != b.2) (K (Qbj false)) (K (Qbj true))))):Hold (tawp Qjx (0+0) Qtg (TQ 0 0 Qu5 K) (Qk [(.a [(.c TI a.1),(.c TI a.2)]),(.a [(.c TI b.1),(.c TI b.2)])])) :=
 Hold.of (by kernel_rfl) h
theorem QpM (a:TIns) (b:TIns):TCon Try.prog 109 [(.a [(.c TI a.1),(.c TI a.2)]),(.a [(.c TI b.1),(.c TI b.2)])] (Qbj (m_eq (α:=TIns) a b)):=by
 refine Qp rfl fun hb=>tcg (Γ:=Qjx) (n:=15) (sg:=QgS.sg) Qo TOkL.nil (by kernel_rfl) (by kernel_rfl) (Qxg _ a b ?_)
 refine ⟨fun h=>R_eq (Eq.symm (decide_eq_false (by rintro rfl;simp [m_eq] at h))),fun h0=>?_⟩
 refine ⟨fun h=>R_eq (Eq.symm (decide_eq_false (by rintro rfl;simp [m_eq] at h))),fun h1=>?_⟩
 refine R_eq (Eq.symm (decide_eq_true ?_))
 simp [m_eq] at h0 h1
 simp [Prod.ext_iff, *]
theorem Qpx:Qm Try.prog QgS:=Qr fun x _=>QpM x.1 x.2.1
def J0 (t:Bool):TRes:=zre (zcb t)
def QfZ:TRow:=Ql 19 [(.c (.sl QE)),(.c (.sl QE))] fun x=>(none,J0 (m_eq (α:=List TIns) x.1 x.2.1))
def Qdi:TTab:=⟨[QgS],false⟩
def QhP:TCode :=
 (zsq [(zsq [(.reg [zmv 11 5,zmv 12 0,zle 13 12,zbi 14 .lss 11 13]),(.cond 14 .skip (.exit 0))]),(.block 1 (zsq [(.draw [zmv 17 0,zmv 18 5,zia 19 17 18 QE,zLd 20 19 2,zmv 21 1,zmv 22 5,zia 23 21 22 QE,zLd 24 23 2,zca 25 109 [20,24],zno 26 25] []),(.cond 26 (zsq [(.reg [zmv 4 (zkb false)]),.ret]) .skip)])),(.reg [zmv 15 5,zbi 16 .add 15 (zki 1),zmv 5 16])])
def Qod:List (Nat × Md):=zdl [0,1,5]
def Qn3:TCode :=
 (zsq [(.reg [zmv 4 (zkb true)]),.ret])
def QzB:TCode :=
 (zsq [(.reg [zmv 4 (zkb false)]),(zsq [(.reg [zmv 6 0,zle 7 6,zmv 8 1,zle 9 8,zbi 10 .neq 7 9]),(.cond 10 (zsq [(.reg [zmv 4 (zkb false)]),.ret]) .skip)]),(zsq [(.reg [zmv 5 (zki 0)]),(.block 0 (.loop Qod QhP))]),Qn3])
def Qoh:List (ARv × Md):=[(.t 4,.one .d)]
def Qlt:Qb:=TQ 0 0 Qoh K
def Qq4:Qb:=Qseq (tawp Qdi 0 Qn3 (Qlt K)) (Qlt K)
def Qt8:Qb:=Qblk 0 (Qq4 K)
def Qgb (a:List TIns) (b:List TIns) (i:Int):Prop:=Loop Qdi 0 Qod QhP (Qt8 K) ⟨[(0,(zcs QE a)),(1,(zcs QE b)),(5,(zci i))],[],0⟩
theorem QwV (a:List TIns) (b:List TIns) (i:Int) (h :
 (zif (decide (i<(a.length:Int))) ((((0:Int)≤i∧Int.toNat i<a.length)∧((0:Int)≤i∧Int.toNat i<b.length))∧(zif (!(m_eq (α:=TIns) (gtd dIns a (Int.toNat i)) (gtd dIns b (Int.toNat i)))) (K (J0 false)) (Qgb K a b (w64 (i+(1:Int)))))) (K (J0 true)))):Qgb K a b i :=
 Loop.of (by kernel_rfl) h
theorem QuT (a:List TIns) (b:List TIns) (h :
 (zif ((a.length:Int) != (b.length:Int)) (K (J0 false)) (Qgb K a b 0))):Hold (tawp Qdi (0+0) QzB (TQ 0 0 Qoh K) (Qk [(.c (.sl QE) a),(.c (.sl QE) b)])) :=
 Hold.of (by kernel_rfl) h
theorem Qvb (a:List TIns) (b:List TIns):TCon Try.prog 19 [(.c (.sl QE) a),(.c (.sl QE) b)] (J0 (m_eq (α:=List TIns) a b)):=by
 refine Qp rfl fun hb=>tcg (Γ:=Qdi) (n:=27) (sg:=QfZ.sg) Qo (TOkL.cons Qpx TOkL.nil) (by kernel_rfl) (by kernel_rfl) (QuT _ a b ?_)
 exact Yf dIns (E:=m_eq) (fun _ _=>rfl) hb.1.1 (fun i h=>QwV _ a b i h) (Q:=fun x=>J0 x=J0 (m_eq (α:=List TIns) a b)) rfl
theorem Qv0:Qm Try.prog QfZ:=Qr fun x _=>Qvb x.1 x.2.1
def Qbg (t:Bool):TRes:=zre (zcb t)
def Qez:TRow:=Ql 195 [(.a QA),(.a QA)] fun x=>(none,Qbg (m_eq (α:=Qj) x.1 x.2.1))
def QiN:TTab:=⟨[Qbo],false⟩
def QrA:TCode :=
 (zsq [(.reg [zop 2 (.box 218 0 2),zop 3 (.box 218 1 2),zmv 4 (zkb false)]),(zsq [(.reg [zfa 5 2 0,zld 6 5 1,zfa 7 3 0,zld 8 7 1,zbi 9 .neq 6 8]),(.cond 9 (zsq [(.reg [zmv 4 (zkb false)]),.ret]) .skip)]),(zsq [(.reg [zfa 10 2 1,zld 11 10 1,zfa 12 3 1,zld 13 12 1,zca 14 158 [11,13],zno 15 14]),(.cond 15 (zsq [(.reg [zmv 4 (zkb false)]),.ret]) .skip)]),(.reg [zmv 4 (zkb true)]),.ret])
def Qqa:List (ARv × Md):=[(.t 4,.one .d)]
theorem Qx4 (a:Qj) (b:Qj) (h :
 (zif (a.1 != b.1) (K (Qbg false)) (zif (!(m_eq (α:=List (List Int)) a.2 b.2)) (K (Qbg false)) (K (Qbg true))))):Hold (tawp QiN (0+0) QrA (TQ 0 0 Qqa K) (Qk [(.a [(.c TI a.1),(.c (.sl [(.sl [TI])]) a.2)]),(.a [(.c TI b.1),(.c (.sl [(.sl [TI])]) b.2)])])) :=
 Hold.of (by kernel_rfl) h
theorem Qu3 (a:Qj) (b:Qj):TCon Try.prog 195 [(.a [(.c TI a.1),(.c (.sl [(.sl [TI])]) a.2)]),(.a [(.c TI b.1),(.c (.sl [(.sl [TI])]) b.2)])] (Qbg (m_eq (α:=Qj) a b)):=by
 refine Qp rfl fun hb=>tcg (Γ:=QiN) (n:=16) (sg:=Qez.sg) Qo (TOkL.cons QeY TOkL.nil) (by kernel_rfl) (by kernel_rfl) (Qx4 _ a b ?_)
 refine ⟨fun h=>R_eq (Eq.symm (decide_eq_false (by rintro rfl;simp [m_eq] at h))),fun h0=>?_⟩
 refine ⟨fun h=>R_eq (Eq.symm (decide_eq_false (by rintro rfl;simp [m_eq] at h))),fun h1=>?_⟩
 refine R_eq (Eq.symm (decide_eq_true ?_))
 simp [m_eq] at h0 h1
 simp [Prod.ext_iff, *]
theorem QwD:Qm Try.prog Qez:=Qr fun x _=>Qu3 x.1 x.2.1
def JC (t:Bool):TRes:=zre (zcb t)
def Qfu:TRow:=Ql 157 [(.c (.sl QA)),(.c (.sl QA))] fun x=>(none,JC (m_eq (α:=List Qj) x.1 x.2.1))
def QcB:TTab:=⟨[Qez],false⟩
def Qhe:TCode :=
 (zsq [(zsq [(.reg [zmv 11 5,zmv 12 0,zle 13 12,zbi 14 .lss 11 13]),(.cond 14 .skip (.exit 0))]),(.block 1 (zsq [(.draw [zmv 17 0,zmv 18 5,zia 19 17 18 QA,zLd 20 19 2,zmv 21 1,zmv 22 5,zia 23 21 22 QA,zLd 24 23 2,zca 25 195 [20,24],zno 26 25] []),(.cond 26 (zsq [(.reg [zmv 4 (zkb false)]),.ret]) .skip)])),(.reg [zmv 15 5,zbi 16 .add 15 (zki 1),zmv 5 16])])
def QlN:List (Nat × Md):=zdl [0,1,5]
def Qjq:TCode :=
 (zsq [(.reg [zmv 4 (zkb true)]),.ret])
def Qs5:TCode :=
 (zsq [(.reg [zmv 4 (zkb false)]),(zsq [(.reg [zmv 6 0,zle 7 6,zmv 8 1,zle 9 8,zbi 10 .neq 7 9]),(.cond 10 (zsq [(.reg [zmv 4 (zkb false)]),.ret]) .skip)]),(zsq [(.reg [zmv 5 (zki 0)]),(.block 0 (.loop QlN Qhe))]),Qjq])
def Qi9:List (ARv × Md):=[(.t 4,.one .d)]
def Qis:Qb:=TQ 0 0 Qi9 K
def QpH:Qb:=Qseq (tawp QcB 0 Qjq (Qis K)) (Qis K)
def Qri:Qb:=Qblk 0 (QpH K)
def Qe4 (a:List Qj) (b:List Qj) (i:Int):Prop:=Loop QcB 0 QlN Qhe (Qri K) ⟨[(0,(zcs QA a)),(1,(zcs QA b)),(5,(zci i))],[],0⟩
theorem Qso (a:List Qj) (b:List Qj) (i:Int) (h :
 (zif (decide (i<(a.length:Int))) ((((0:Int)≤i∧Int.toNat i<a.length)∧((0:Int)≤i∧Int.toNat i<b.length))∧(zif (!(m_eq (α:=Qj) (gtd Q9 a (Int.toNat i)) (gtd Q9 b (Int.toNat i)))) (K (JC false)) (Qe4 K a b (w64 (i+(1:Int)))))) (K (JC true)))):Qe4 K a b i :=
 Loop.of (by kernel_rfl) h
theorem Qwl (a:List Qj) (b:List Qj) (h :
 (zif ((a.length:Int) != (b.length:Int)) (K (JC false)) (Qe4 K a b 0))):Hold (tawp QcB (0+0) Qs5 (TQ 0 0 Qi9 K) (Qk [(.c (.sl QA) a),(.c (.sl QA) b)])) :=
 Hold.of (by kernel_rfl) h
theorem QpJ (a:List Qj) (b:List Qj):TCon Try.prog 157 [(.c (.sl QA) a),(.c (.sl QA) b)] (JC (m_eq (α:=List Qj) a b)):=by
 refine Qp rfl fun hb=>tcg (Γ:=QcB) (n:=27) (sg:=Qfu.sg) Qo (TOkL.cons QwD TOkL.nil) (by kernel_rfl) (by kernel_rfl) (Qwl _ a b ?_)
 exact Yf Q9 (E:=m_eq) (fun _ _=>rfl) hb.1.1 (fun i h=>Qso _ a b i h) (Q:=fun x=>JC x=JC (m_eq (α:=List Qj) a b)) rfl
theorem Qv3:Qm Try.prog Qfu:=Qr fun x _=>QpJ x.1 x.2.1
end
end Go.Proofs.Ytephkbajoofeoaa.Am

