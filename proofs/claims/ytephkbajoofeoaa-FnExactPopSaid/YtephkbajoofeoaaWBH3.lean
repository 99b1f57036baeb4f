/- -/
import Derived.Test.YtephkbajoofeoaaWBH1
import Derived.Test.YtephkbajoofeoaaWBGF
namespace Go.Proofs.Ytephkbajoofeoaa.Am
open Go Go.RowKit Go.Proofs.Ytephkbajoofeoaa
set_option linter.all false
noncomputable section
variable (K:TRes→Prop)
def J9 (t:Int):TRes:=zre (zci t)
def Qcl:TRow:=Qm 35 [(.a Qc),(.c TI)] fun x=>(some (p_sz (α:=Qb) x.1 x.2.1),J9 (m_sz (α:=Qb) x.1 x.2.1))
def QdF:TTab:=⟨[QbH],false⟩
def Qip:TCode :=
 (zsq [(.reg [zop 2 (.box 53 0 2),zmv 4 (zki 0)]),(.reg [zfa 5 2 1,zld 6 5 1,zmv 7 1,zca 8 124 [6,7],zmv 1 8]),(zsq [(.reg [zmv 9 1,zbi 10 .lss 9 (zki 0)]),(.cond 10 (zsq [(.reg [zmv 4 (zki (-1))]),.ret]) .skip)]),(.reg [zmv 11 1,zmv 4 11]),.ret])
def Qku:List (ARv × Md):=[(.t 4,.one .d)]
theorem Qol (a:Qb) (left:Int) (h :
 ((p_sz (α:=List Int) a.2 left)∧(zif (decide ((m_sz (α:=List Int) a.2 left)<(0:Int))) (K (J9 (-1:Int))) (K (J9 (m_sz (α:=List Int) a.2 left)))))):Hold (tawp QdF (0+0) Qip (TQ 0 0 Qku K) (Qk [(.a [(.c TI a.1),(.c (.sl [TI]) a.2)]),(.c TI left)])) :=
 Hold.of (by kernel_rfl) h
theorem Qkt (a:Qb) (left:Int) (hp:p_sz (α:=Qb) a left):TCon Try.prog 35 [(.a [(.c TI a.1),(.c (.sl [TI]) a.2)]),(.c TI left)] (J9 (m_sz (α:=Qb) a left)):=by
 refine Qr rfl fun hb=>tcg (Γ:=QdF) (n:=12) (sg:=Qcl.sg) Qq (TOkL.cons Qkx TOkL.nil) (by kernel_rfl) (by kernel_rfl) (Qol _ a left ?_)
 refine ⟨hp,fun h=>R_eq (QfR (of_decide_eq_true h) (by first | omega | (simp only [QB,QD,YV];omega)) hp.1),fun h=>?_⟩
 exact R_eq (congrArg (Zv · _) (by first | rfl | omega | (simp only [QB,QD,YV];omega)))
theorem QmN:Qn Try.prog Qcl:=Qs fun x h=>Qkt x.1 x.2.1 h
def Yj (t:Int):TRes:=zre (zci t)
def Qbv:TRow:=Qm 123 [(.c (.sl Qc)),(.c TI)] fun x=>(some (p_sz (α:=List Qb) x.1 x.2.1),Yj (m_sz (α:=List Qb) x.1 x.2.1))
def QaD:TTab:=⟨[Qcl],false⟩
def Qhk:TCode :=
 (zsq [(zsq [(.reg [zmv 12 5,zmv 13 0,zle 14 13,zbi 15 .lss 12 14]),(.cond 15 .skip (.exit 0))]),(.block 1 (zsq [(.reg [zmv 18 0,zmv 19 5,zia 20 18 19 Qc,zLd 21 20 2,zmv 22 1,zca 23 35 [21,22],zmv 1 23]),(.reg [zmv 24 1,zbi 25 .lss 24 (zki 0)]),(.cond 25 (zsq [(.reg [zmv 4 (zki (-1))]),.ret]) .skip)])),(.reg [zmv 16 5,zbi 17 .add 16 (zki 1),zmv 5 17])])
def Qf0:List (Nat × Md):=zdl [0,1,5]
def QhS:TCode :=
 (zsq [(.reg [zmv 26 1,zmv 4 26]),.ret])
def QnV:TCode :=
 (zsq [(.reg [zmv 4 (zki 0)]),(.reg [zmv 6 1,zmv 7 0,zle 8 7,zbi 9 .sub 6 8,zmv 1 9]),(zsq [(.reg [zmv 10 1,zbi 11 .lss 10 (zki 0)]),(.cond 11 (zsq [(.reg [zmv 4 (zki (-1))]),.ret]) .skip)]),(zsq [(.reg [zmv 5 (zki 0)]),(.block 0 (.loop Qf0 Qhk))]),QhS])
def QhT:List (ARv × Md):=[(.t 4,.one .d)]
def Qid:Qh:=TQ 0 0 QhT K
def QlE:Qh:=Qseq (tawp QaD 0 QhS (Qid K)) (Qid K)
def Qnn:Qh:=Qblk 0 (QlE K)
def Qbc (a:List Qb) (left1:Int) (i:Int):Prop:=Loop QaD 0 Qf0 Qhk (Qnn K) ⟨[(0,(zcs Qc a)),(1,(zci left1)),(5,(zci i))],[],0⟩
theorem QnK (a:List Qb) (left1:Int) (i:Int) (h :
 (zif (decide (i<(a.length:Int))) ((((0:Int)≤i∧Int.toNat i<a.length)∧(p_sz (α:=Qb) (gtd ((0,[]):Qb) a (Int.toNat i)) left1))∧(zif (decide ((m_sz (α:=Qb) (gtd ((0,[]):Qb) a (Int.toNat i)) left1)<(0:Int))) (K (Yj (-1:Int))) (Qbc K a (m_sz (α:=Qb) (gtd ((0,[]):Qb) a (Int.toNat i)) left1) (w64 (i+(1:Int)))))) (K (Yj left1)))):Qbc K a left1 i :=
 Loop.of (by kernel_rfl) h
theorem Qmj (a:List Qb) (left:Int) (h :
 (zif (decide ((w64 (left-(a.length:Int)))<(0:Int))) (K (Yj (-1:Int))) (Qbc K a (w64 (left-(a.length:Int))) 0))):Hold (tawp QaD (0+0) QnV (TQ 0 0 QhT K) (Qk [(.c (.sl Qc) a),(.c TI left)])) :=
 Hold.of (by kernel_rfl) h
theorem Qoh (a:List Qb) (left:Int) (hp:p_sz (α:=List Qb) a left):TCon Try.prog 123 [(.c (.sl Qc) a),(.c TI left)] (Yj (m_sz (α:=List Qb) a left)):=by
 refine Qr rfl fun hb=>tcg (Γ:=QaD) (n:=27) (sg:=Qbv.sg) Qq (TOkL.cons QmN TOkL.nil) (by kernel_rfl) (by kernel_rfl) (Qmj _ a left ?_)
 exact QjO (Q:=fun x=>Yj x=Yj (m_sz (α:=List Qb) a left)) ((0,[]):Qb) hp hb.1.1 (fun l i h=>QnK _ a l i h) rfl
theorem Qjq:Qn Try.prog Qbv:=Qs fun x h=>Qoh x.1 x.2.1 h
def J5 (t:Int):TRes:=zre (zci t)
def Qcd:TRow:=Qm 34 [(.a Qz),(.c TI)] fun x=>(some (p_sz (α:=Qe) x.1 x.2.1),J5 (m_sz (α:=Qe) x.1 x.2.1))
def QfF:TTab:=⟨[Qbv],false⟩
def QnT:TCode :=
 (zsq [(.reg [zop 2 (.box 52 0 2),zmv 4 (zki 0)]),(.reg [zfa 5 2 1,zld 6 5 1,zmv 7 1,zca 8 123 [6,7],zmv 1 8]),(zsq [(.reg [zmv 9 1,zbi 10 .lss 9 (zki 0)]),(.cond 10 (zsq [(.reg [zmv 4 (zki (-1))]),.ret]) .skip)]),(.reg [zmv 11 1,zmv 4 11]),.ret])
def QjU:List (ARv × Md):=[(.t 4,.one .d)]
theorem QmY (a:Qe) (left:Int) (h :
 ((p_sz (α:=List Qb) a.2 left)∧(zif (decide ((m_sz (α:=List Qb) a.2 left)<(0:Int))) (K (J5 (-1:Int))) (K (J5 (m_sz (α:=List Qb) a.2 left)))))):Hold (tawp QfF (0+0) QnT (TQ 0 0 QjU K) (Qk [(.a [(.c TI a.1),(.c (.sl Qc) a.2)]),(.c TI left)])) :=
 Hold.of (by kernel_rfl) h
theorem Qlo (a:Qe) (left:Int) (hp:p_sz (α:=Qe) a left):TCon Try.prog 34 [(.a [(.c TI a.1),(.c (.sl Qc) a.2)]),(.c TI left)] (J5 (m_sz (α:=Qe) a left)):=by
 refine Qr rfl fun hb=>tcg (Γ:=QfF) (n:=12) (sg:=Qcd.sg) Qq (TOkL.cons Qjq TOkL.nil) (by kernel_rfl) (by kernel_rfl) (QmY _ a left ?_)
 refine ⟨hp,fun h=>R_eq (QfR (of_decide_eq_true h) (by first | omega | (simp only [QB,QD,YV];omega)) hp.1),fun h=>?_⟩
 exact R_eq (congrArg (Zv · _) (by first | rfl | omega | (simp only [QB,QD,YV];omega)))
theorem QlO:Qn Try.prog Qcd:=Qs fun x h=>Qlo x.1 x.2.1 h
def Qc4 (t:Qb):TRes:=⟨(.a [(zci t.1),(.r [TI] 0 0 ((t.2).length))]),[(.sl 3 [TI] (.dp 0 true []) t.2)],[],false,[]⟩
def Qbp:TRow:=Qm 38 [(.a Qc)] fun x=>(some (p_to (α:=Qb) x.1),Qc4 (id (α:=Qb) x.1))
def QhH:TTab:=⟨[Qby],true⟩
def QjY:TCode :=
 (zsq [(.reg [zop 1 (.box 53 0 2),zop 2 (.new 39 (z0s Qc))]),(.reg [zop 3 (.new 39 (z0s Qc))]),(.reg [zfa 4 1 0,zld 5 4 1,zfa 6 3 0,zst 6 5 1]),(.reg [zfa 7 1 1,zld 8 7 1,zca 9 127 [8],zfa 10 3 1,zst 10 9 1]),(.reg [zLd 11 3 2,zst 2 11 2]),.ret])
def Qit:List (ARv × Md):=[(.l 2 2 true,.b [.d,.p 3])]
theorem Qls (a:Qb) (h :
 ((p_to (α:=List Int) a.2)∧K (Qc4 (a.1,(List.take ((id (α:=List Int) a.2).length) (id (α:=List Int) a.2)))))):Hold (tawp QhH (0+0) QjY (TQ 0 0 Qit K) (Qk [(.a [(.c TI a.1),(.c (.sl [TI]) a.2)])])) :=
 Hold.of (by kernel_rfl) h
theorem QjC (a:Qb) (hp:p_to (α:=Qb) a):TCon Try.prog 38 [(.a [(.c TI a.1),(.c (.sl [TI]) a.2)])] (Qc4 (id (α:=Qb) a)):=by
 refine Qr rfl fun hb=>tcg (Γ:=QhH) (n:=12) (sg:=Qbp.sg) Qq (TOkL.cons QiX TOkL.nil) (by kernel_rfl) (by kernel_rfl) (Qls _ a ?_)
 repeat' (first | refine And.intro ?_ ?_ | exact R_eq (by simp))
 all_goals (simp only [p_to,QB,QD,YV,List.drop_zero,List.take_length,id_eq] at hp ⊢;omega)
theorem Qki:Qn Try.prog Qbp:=Qs fun x h=>QjC x.1 h
def ZV (t:(List Qb)):TRes:=⟨(.r Qc 0 0 t.length),[(.sl 39 Qc (.dp 0 true []) t)],[],false,[]⟩
def QcW:TRow:=Qm 126 [(.c (.sl Qc))] fun x=>(some (p_to (α:=List Qb) x.1),ZV (id (α:=List Qb) x.1))
def QaE:TTab:=⟨[Qbp],true⟩
def QeX:TCode :=
 (zsq [(zsq [(.reg [zmv 8 4,zmv 9 0,zle 10 9,zbi 11 .lss 8 10]),(.cond 11 .skip (.exit 0))]),(.block 1 (.reg [zmv 14 3,zmv 15 4,zmv 16 0,zmv 17 4,zia 18 16 17 Qc,zLd 19 18 2,zca 20 38 [19],zia 21 14 15 Qc,zst 21 20 2])),(.reg [zmv 12 4,zbi 13 .add 12 (zki 1),zmv 4 13])])
def QeF:List (Nat × Md):=[(0,.one .d),(3,.one .f),(4,.one .d)]
def Qff:TCode :=
 (zsq [(.reg [zmv 22 3,zmv 2 22]),.ret])
def QiI:TCode :=
 (zsq [(.reg [zmv 2 (.k (.n Qc))]),(.reg [zmv 5 0,zle 6 5,zop 7 (.mk 39 Qc (z0s Qc) 6),zmv 3 7]),(zsq [(.reg [zmv 4 (zki 0)]),(.block 0 (.loop QeF QeX))]),Qff])
def Qgi:List (ARv × Md):=[(.t 2,.one (.p 39))]
def Qd5:Qh:=TQ 0 0 Qgi K
def Qi8:Qh:=Qseq (tawp QaE 0 Qff (Qd5 K)) (Qd5 K)
def Qjk:Qh:=Qblk 0 (Qi8 K)
def Qa0 (a:List Qb) (i:Int) (out:List Qb):Prop:=Loop QaE 0 QeF QeX (Qjk K) ⟨[(0,(zcs Qc a)),(3,(.r Qc 0 0 out.length)),(4,(zci i))],[(0,(.sl 39 Qc (.dp 0 true []) out))],1⟩
theorem Qdy (a:List Qb) (i:Int) (out:List Qb) (h :
 (zif (decide (i<(a.length:Int))) ((((0:Int)≤i∧Int.toNat i<a.length)∧((p_to (α:=Qb) (gtd ((0,[]):Qb) a (Int.toNat i)))∧(((0:Int)≤i∧Int.toNat i<out.length)∧((0+(Int.toNat i))<out.length))))∧(Qa0 K a (w64 (i+(1:Int))) (List.take out.length ((out).set (0+(Int.toNat i)) ((id (α:=Qb) (gtd ((0,[]):Qb) a (Int.toNat i))).1,(List.take (((id (α:=Qb) (gtd ((0,[]):Qb) a (Int.toNat i))).2).length) (List.drop 0 ((id (α:=Qb) (gtd ((0,[]):Qb) a (Int.toNat i))).2)))))))) (K (ZV (List.take out.length out))))):Qa0 K a i out :=
 Loop.of (by kernel_rfl) h
theorem QmL (a:List Qb) (h :
 (((0:Int)≤(a.length:Int)∧(a.length:Int)≤big)∧(Qa0 K a 0 (List.take (Int.toNat (a.length:Int)) (List.replicate (Int.toNat (a.length:Int)) ((0:Int),[])))))):Hold (tawp QaE (0+0) QiI (TQ 0 0 Qgi K) (Qk [(.c (.sl Qc) a)])) :=
 Hold.of (by kernel_rfl) h
theorem Qks (a:List Qb) (hp:p_to (α:=List Qb) a):TCon Try.prog 126 [(.c (.sl Qc) a)] (ZV (id (α:=List Qb) a)):=by
 refine Qr rfl fun hb=>tcg (Γ:=QaE) (n:=23) (sg:=QcW.sg) Qq (TOkL.cons Qki TOkL.nil) (by kernel_rfl) (by kernel_rfl) (QmL _ a ?_)
 refine ⟨⟨by omega,by rw [bigI];have:=QaG hp;omega⟩,?_⟩
 refine QdA a (A:=fun ii ll=>Qa0 (fun r'=>r'=ZV (id (α:=List Qb) a)) a ii ll) (Q:=fun z=>ZV z=ZV (id (α:=List Qb) a)) hp ?_ ?_ rfl
 ·intro k x out hlt hg ho hx hA
  have hw:w64 (((k:Nat):Int)+1)=((k+1:Nat):Int):=by have:=QaG hp;rw [QZ (by omega) (by omega)];omega
  have hlo:k<out.length:=by omega
  refine Qdy (fun r'=>r'=ZV (id (α:=List Qb) a)) a ((k:Nat):Int) out ?_
  refine ⟨fun _=>?_,fun h=>absurd h (by simp;omega)⟩
  simp only [Int.toNat_natCast,Nat.zero_add,hg,hw,hlt,hlo,QhW,List.drop_zero,List.take_length,id_eq,and_true,true_and,Int.natCast_nonneg]
  first | exact hA | exact ⟨hx,hA⟩
 ·intro out ho hq
  refine Qdy (fun r'=>r'=ZV (id (α:=List Qb) a)) a ((a.length:Nat):Int) out ?_
  refine ⟨fun h=>absurd h (by simp),fun _=>?_⟩
  simp only [List.drop_zero,List.take_length]
  exact hq
theorem Qmz:Qn Try.prog QcW:=Qs fun x h=>Qks x.1 h
def Qcr (t:Qe):TRes:=⟨(.a [(zci t.1),(.r Qc 0 0 ((t.2).length))]),[(.sl 39 Qc (.dp 0 true []) t.2)],[],false,[]⟩
def Qc9:TRow:=Qm 37 [(.a Qz)] fun x=>(some (p_to (α:=Qe) x.1),Qcr (id (α:=Qe) x.1))
def Qic:TTab:=⟨[QcW],true⟩
def QkU:TCode :=
 (zsq [(.reg [zop 1 (.box 52 0 2),zop 2 (.new 36 (z0s Qz))]),(.reg [zop 3 (.new 36 (z0s Qz))]),(.reg [zfa 4 1 0,zld 5 4 1,zfa 6 3 0,zst 6 5 1]),(.reg [zfa 7 1 1,zld 8 7 1,zca 9 126 [8],zfa 10 3 1,zst 10 9 1]),(.reg [zLd 11 3 2,zst 2 11 2]),.ret])
def Qoa:List (ARv × Md):=[(.l 2 2 true,.b [.d,.p 39])]
theorem Qmi (a:Qe) (h :
 ((p_to (α:=List Qb) a.2)∧K (Qcr (a.1,(List.take ((id (α:=List Qb) a.2).length) (id (α:=List Qb) a.2)))))):Hold (tawp Qic (0+0) QkU (TQ 0 0 Qoa K) (Qk [(.a [(.c TI a.1),(.c (.sl Qc) a.2)])])) :=
 Hold.of (by kernel_rfl) h
theorem Qmo (a:Qe) (hp:p_to (α:=Qe) a):TCon Try.prog 37 [(.a [(.c TI a.1),(.c (.sl Qc) a.2)])] (Qcr (id (α:=Qe) a)):=by
 refine Qr rfl fun hb=>tcg (Γ:=Qic) (n:=12) (sg:=Qc9.sg) Qq (TOkL.cons Qmz TOkL.nil) (by kernel_rfl) (by kernel_rfl) (Qmi _ a ?_)
 repeat' (first | refine And.intro ?_ ?_ | exact R_eq (by simp))
 all_goals (simp only [p_to,QB,QD,YV,List.drop_zero,List.take_length,id_eq] at hp ⊢;omega)
theorem QjR:Qn Try.prog Qc9:=Qs fun x h=>Qmo x.1 h
def JP (t:Bool):TRes:=zre (zcb t)
def QaZ:TRow:=Qm 40 [(.a Qc),(.a Qc)] fun x=>(none,JP (m_eq (α:=Qb) x.1 x.2.1))
def Qha:TTab:=⟨[Qcc],false⟩
def QjN:TCode :=
 (zsq [(.reg [zop 2 (.box 39 0 2),zop 3 (.box 39 1 2),zmv 4 (zkb false)]),(zsq [(.reg [zfa 5 2 0,zld 6 5 1,zfa 7 3 0,zld 8 7 1,zbi 9 .neq 6 8]),(.cond 9 (zsq [(.reg [zmv 4 (zkb false)]),.ret]) .skip)]),(zsq [(.reg [zfa 10 2 1,zld 11 10 1,zfa 12 3 1,zld 13 12 1,zca 14 66 [11,13],zno 15 14]),(.cond 15 (zsq [(.reg [zmv 4 (zkb false)]),.ret]) .skip)]),(.reg [zmv 4 (zkb true)]),.ret])
def QnC:List (ARv × Md):=[(.t 4,.one .d)]
theorem Qlh (a:Qb) (b:Qb) (h :
 (zif (a.1 != b.1) (K (JP false)) (zif (!(m_eq (α:=List Int) a.2 b.2)) (K (JP false)) (K (JP true))))):Hold (tawp Qha (0+0) QjN (TQ 0 0 QnC K) (Qk [(.a [(.c TI a.1),(.c (.sl [TI]) a.2)]),(.a [(.c TI b.1),(.c (.sl [TI]) b.2)])])) :=
 Hold.of (by kernel_rfl) h
theorem Qlq (a:Qb) (b:Qb):TCon Try.prog 40 [(.a [(.c TI a.1),(.c (.sl [TI]) a.2)]),(.a [(.c TI b.1),(.c (.sl [TI]) b.2)])] (JP (m_eq (α:=Qb) a b)):=by
 refine Qr rfl fun hb=>tcg (Γ:=Qha) (n:=16) (sg:=QaZ.sg) Qq (TOkL.cons Qi1 TOkL.nil) (by kernel_rfl) (by kernel_rfl) (Qlh _ a b ?_)
 refine ⟨fun h=>R_eq (Eq.symm (decide_eq_false (by rintro rfl;simp [m_eq] at h))),fun h0=>?_⟩
 refine ⟨fun h=>R_eq (Eq.symm (decide_eq_false (by rintro rfl;simp [m_eq] at h))),fun h1=>?_⟩
 refine R_eq (Eq.symm (decide_eq_true ?_))
 simp [m_eq] at h0 h1
 simp [Prod.ext_iff, *]
theorem Qhc:Qn Try.prog QaZ:=Qs fun x _=>Qlq x.1 x.2.1
def Yq (t:Bool):TRes:=zre (zcb t)
def QcS:TRow:=Qm 128 [(.c (.sl Qc)),(.c (.sl Qc))] fun x=>(none,Yq (m_eq (α:=List Qb) x.1 x.2.1))
def Qas:TTab:=⟨[QaZ],false⟩
def Qh5:TCode :=
 (zsq [(zsq [(.reg [zmv 11 5,zmv 12 0,zle 13 12,zbi 14 .lss 11 13]),(.cond 14 .skip (.exit 0))]),(.block 1 (zsq [(.draw [zmv 17 0,zmv 18 5,zia 19 17 18 Qc,zLd 20 19 2,zmv 21 1,zmv 22 5,zia 23 21 22 Qc,zLd 24 23 2,zca 25 40 [20,24],zno 26 25] []),(.cond 26 (zsq [(.reg [zmv 4 (zkb false)]),.ret]) .skip)])),(.reg [zmv 15 5,zbi 16 .add 15 (zki 1),zmv 5 16])])
def QfN:List (Nat × Md):=zdl [0,1,5]
def QgG:TCode :=
 (zsq [(.reg [zmv 4 (zkb true)]),.ret])
def Qmw:TCode :=
 (zsq [(.reg [zmv 4 (zkb false)]),(zsq [(.reg [zmv 6 0,zle 7 6,zmv 8 1,zle 9 8,zbi 10 .neq 7 9]),(.cond 10 (zsq [(.reg [zmv 4 (zkb false)]),.ret]) .skip)]),(zsq [(.reg [zmv 5 (zki 0)]),(.block 0 (.loop QfN Qh5))]),QgG])
def QeS:List (ARv × Md):=[(.t 4,.one .d)]
def QdV:Qh:=TQ 0 0 QeS K
def Qln:Qh:=Qseq (tawp Qas 0 QgG (QdV K)) (QdV K)
def QjX:Qh:=Qblk 0 (Qln K)
def Qdk (a:List Qb) (b:List Qb) (i:Int):Prop:=Loop Qas 0 QfN Qh5 (QjX K) ⟨[(0,(zcs Qc a)),(1,(zcs Qc b)),(5,(zci i))],[],0⟩
theorem Qkk (a:List Qb) (b:List Qb) (i:Int) (h :
 (zif (decide (i<(a.length:Int))) ((((0:Int)≤i∧Int.toNat i<a.length)∧((0:Int)≤i∧Int.toNat i<b.length))∧(zif (!(m_eq (α:=Qb) (gtd ((0,[]):Qb) a (Int.toNat i)) (gtd ((0,[]):Qb) b (Int.toNat i)))) (K (Yq false)) (Qdk K a b (w64 (i+(1:Int)))))) (K (Yq true)))):Qdk K a b i :=
 Loop.of (by kernel_rfl) h
theorem Qjx (a:List Qb) (b:List Qb) (h :
 (zif ((a.length:Int) != (b.length:Int)) (K (Yq false)) (Qdk K a b 0))):Hold (tawp Qas (0+0) Qmw (TQ 0 0 QeS K) (Qk [(.c (.sl Qc) a),(.c (.sl Qc) b)])) :=
 Hold.of (by kernel_rfl) h
theorem QlU (a:List Qb) (b:List Qb):TCon Try.prog 128 [(.c (.sl Qc) a),(.c (.sl Qc) b)] (Yq (m_eq (α:=List Qb) a b)):=by
 refine Qr rfl fun hb=>tcg (Γ:=Qas) (n:=27) (sg:=QcS.sg) Qq (TOkL.cons Qhc TOkL.nil) (by kernel_rfl) (by kernel_rfl) (Qjx _ a b ?_)
 exact Qhh ((0,[]):Qb) (E:=m_eq) (fun _ _=>rfl) hb.1.1 (fun i h=>Qkk _ a b i h) (Q:=fun x=>Yq x=Yq (m_eq (α:=List Qb) a b)) rfl
theorem Qn5:Qn Try.prog QcS:=Qs fun x _=>QlU x.1 x.2.1
def Jh (t:Bool):TRes:=zre (zcb t)
def QbV:TRow:=Qm 39 [(.a Qz),(.a Qz)] fun x=>(none,Jh (m_eq (α:=Qe) x.1 x.2.1))
def QeM:TTab:=⟨[QcS],false⟩
def Qky:TCode :=
 (zsq [(.reg [zop 2 (.box 36 0 2),zop 3 (.box 36 1 2),zmv 4 (zkb false)]),(zsq [(.reg [zfa 5 2 0,zld 6 5 1,zfa 7 3 0,zld 8 7 1,zbi 9 .neq 6 8]),(.cond 9 (zsq [(.reg [zmv 4 (zkb false)]),.ret]) .skip)]),(zsq [(.reg [zfa 10 2 1,zld 11 10 1,zfa 12 3 1,zld 13 12 1,zca 14 128 [11,13],zno 15 14]),(.cond 15 (zsq [(.reg [zmv 4 (zkb false)]),.ret]) .skip)]),(.reg [zmv 4 (zkb true)]),.ret])
def Qir:List (ARv × Md):=[(.t 4,.one .d)]
theorem QmF (a:Qe) (b:Qe) (h :
 (zif (a.1 != b.1) (K (Jh false)) (zif (!(m_eq (α:=List Qb) a.2 b.2)) (K (Jh false)) (K (Jh true))))):Hold (tawp QeM (0+0) Qky (TQ 0 0 Qir K) (Qk [(.a [(.c TI a.1),(.c (.sl Qc) a.2)]),(.a [(.c TI b.1),(.c (.sl Qc) b.2)])])) :=
 Hold.of (by kernel_rfl) h
theorem QiQ (a:Qe) (b:Qe):TCon Try.prog 39 [(.a [(.c TI a.1),(.c (.sl Qc) a.2)]),(.a [(.c TI b.1),(.c (.sl Qc) b.2)])] (Jh (m_eq (α:=Qe) a b)):=by
 refine Qr rfl fun hb=>tcg (Γ:=QeM) (n:=16) (sg:=QbV.sg) Qq (TOkL.cons Qn5 TOkL.nil) (by kernel_rfl) (by kernel_rfl) (QmF _ a b ?_)
 refine ⟨fun h=>R_eq (Eq.symm (decide_eq_false (by rintro rfl;simp [m_eq] at h))),fun h0=>?_⟩
 refine ⟨fun h=>R_eq (Eq.symm (decide_eq_false (by rintro rfl;simp [m_eq] at h))),fun h1=>?_⟩
 refine R_eq (Eq.symm (decide_eq_true ?_))
 simp [m_eq] at h0 h1
 simp [Prod.ext_iff, *]
theorem Qn3:Qn Try.prog QbV:=Qs fun x _=>QiQ x.1 x.2.1
end
end Go.Proofs.Ytephkbajoofeoaa.Am

