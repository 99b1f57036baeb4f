/- -/
import Derived.Test.YtephkbajoofeoaaWCH1
import Derived.Test.YtephkbajoofeoaaWCGF
namespace Go.Proofs.Ytephkbajoofeoaa.Am
open Go Go.RowKit Go.Proofs.Ytephkbajoofeoaa
set_option linter.all false
noncomputable section
variable (K:TRes→Prop)
def Qc4 (t:Int):TRes:=zre (zci t)
def Qc8:TRow:=Qm 35 [(.a Qv),(.c TI)] fun x=>(some (p_sz (α:=Qe) x.1 x.2.1),Qc4 (m_sz (α:=Qe) x.1 x.2.1))
def QgG:TTab:=⟨[YS],false⟩
def Qou:TCode :=
 (zsq [(.reg [zop 2 (.box 53 0 2),zmv 4 (zki 0)]),(.reg [zfa 5 2 1,zld 6 5 1,zmv 7 1,zca 8 124 [6,7],zmv 1 8]),(zsq [(.reg [zmv 9 1,zbi 10 .lss 9 (zki 0)]),(.cond 10 (zsq [(.reg [zmv 4 (zki (-1))]),.ret]) .skip)]),(.reg [zmv 11 1,zmv 4 11]),.ret])
def QoY:List (ARv × Md):=[(.t 4,.one .d)]
theorem Qrp (a:Qe) (left:Int) (h :
 ((p_sz (α:=List Int) a.2 left)∧(zif (decide ((m_sz (α:=List Int) a.2 left)<(0:Int))) (K (Qc4 (-1:Int))) (K (Qc4 (m_sz (α:=List Int) a.2 left)))))):Hold (tawp QgG (0+0) Qou (TQ 0 0 QoY K) (Ql [(.a [(.c TI a.1),(.c (.sl [TI]) a.2)]),(.c TI left)])) :=
 Hold.of (by kernel_rfl) h
theorem QsF (a:Qe) (left:Int) (hp:p_sz (α:=Qe) a left):TCon Try.prog 35 [(.a [(.c TI a.1),(.c (.sl [TI]) a.2)]),(.c TI left)] (Qc4 (m_sz (α:=Qe) a left)):=by
 refine Qq rfl fun hb=>tcg (Γ:=QgG) (n:=12) (sg:=Qc8.sg) Qp (TOkL.cons QaH TOkL.nil) (by kernel_rfl) (by kernel_rfl) (Qrp _ a left ?_)
 refine ⟨hp,fun h=>R_eq (QT (of_decide_eq_true h) (by first | omega | (simp only [Qx,Qy,QC];omega)) hp.1),fun h=>?_⟩
 exact R_eq (congrArg (QX · _) (by first | rfl | omega | (simp only [Qx,Qy,QC];omega)))
theorem QpE:Qo Try.prog Qc8:=Qr fun x h=>QsF x.1 x.2.1 h
def Jk (t:Int):TRes:=zre (zci t)
def Qfu:TRow:=Qm 123 [(.c (.sl Qv)),(.c TI)] fun x=>(some (p_sz (α:=List Qe) x.1 x.2.1),Jk (m_sz (α:=List Qe) x.1 x.2.1))
def Qco:TTab:=⟨[Qc8],false⟩
def Qil:TCode :=
 (zsq [(zsq [(.reg [zmv 12 5,zmv 13 0,zle 14 13,zbi 15 .lss 12 14]),(.cond 15 .skip (.exit 0))]),(.block 1 (zsq [(.reg [zmv 18 0,zmv 19 5,zia 20 18 19 Qv,zLd 21 20 2,zmv 22 1,zca 23 35 [21,22],zmv 1 23]),(.reg [zmv 24 1,zbi 25 .lss 24 (zki 0)]),(.cond 25 (zsq [(.reg [zmv 4 (zki (-1))]),.ret]) .skip)])),(.reg [zmv 16 5,zbi 17 .add 16 (zki 1),zmv 5 17])])
def Qkc:List (Nat × Md):=zdl [0,1,5]
def Qg8:TCode :=
 (zsq [(.reg [zmv 26 1,zmv 4 26]),.ret])
def Qni:TCode :=
 (zsq [(.reg [zmv 4 (zki 0)]),(.reg [zmv 6 1,zmv 7 0,zle 8 7,zbi 9 .sub 6 8,zmv 1 9]),(zsq [(.reg [zmv 10 1,zbi 11 .lss 10 (zki 0)]),(.cond 11 (zsq [(.reg [zmv 4 (zki (-1))]),.ret]) .skip)]),(zsq [(.reg [zmv 5 (zki 0)]),(.block 0 (.loop Qkc Qil))]),Qg8])
def Ql5:List (ARv × Md):=[(.t 4,.one .d)]
def Qhx:Qb:=TQ 0 0 Ql5 K
def QqT:Qb:=Qseq (tawp Qco 0 Qg8 (Qhx K)) (Qhx K)
def QsG:Qb:=Qblk 0 (QqT K)
def QeV (a:List Qe) (left1:Int) (i:Int):Prop:=Loop Qco 0 Qkc Qil (QsG K) ⟨[(0,(zcs Qv a)),(1,(zci left1)),(5,(zci i))],[],0⟩
theorem QrO (a:List Qe) (left1:Int) (i:Int) (h :
 (zif (decide (i<(a.length:Int))) ((((0:Int)≤i∧Int.toNat i<a.length)∧(p_sz (α:=Qe) (gtd ((0,[]):Qe) a (Int.toNat i)) left1))∧(zif (decide ((m_sz (α:=Qe) (gtd ((0,[]):Qe) a (Int.toNat i)) left1)<(0:Int))) (K (Jk (-1:Int))) (QeV K a (m_sz (α:=Qe) (gtd ((0,[]):Qe) a (Int.toNat i)) left1) (w64 (i+(1:Int)))))) (K (Jk left1)))):QeV K a left1 i :=
 Loop.of (by kernel_rfl) h
theorem Qwp (a:List Qe) (left:Int) (h :
 (zif (decide ((w64 (left-(a.length:Int)))<(0:Int))) (K (Jk (-1:Int))) (QeV K a (w64 (left-(a.length:Int))) 0))):Hold (tawp Qco (0+0) Qni (TQ 0 0 Ql5 K) (Ql [(.c (.sl Qv) a),(.c TI left)])) :=
 Hold.of (by kernel_rfl) h
theorem QpK (a:List Qe) (left:Int) (hp:p_sz (α:=List Qe) a left):TCon Try.prog 123 [(.c (.sl Qv) a),(.c TI left)] (Jk (m_sz (α:=List Qe) a left)):=by
 refine Qq rfl fun hb=>tcg (Γ:=Qco) (n:=27) (sg:=Qfu.sg) Qp (TOkL.cons QpE TOkL.nil) (by kernel_rfl) (by kernel_rfl) (Qwp _ a left ?_)
 exact Y3 (Q:=fun x=>Jk x=Jk (m_sz (α:=List Qe) a left)) ((0,[]):Qe) hp hb.1.1 (fun l i h=>QrO _ a l i h) rfl
theorem QnC:Qo Try.prog Qfu:=Qr fun x h=>QpK x.1 x.2.1 h
def Qb5 (t:Int):TRes:=zre (zci t)
def QdV:TRow:=Qm 34 [(.a Qu),(.c TI)] fun x=>(some (p_sz (α:=Qh) x.1 x.2.1),Qb5 (m_sz (α:=Qh) x.1 x.2.1))
def QiL:TTab:=⟨[Qfu],false⟩
def Qns:TCode :=
 (zsq [(.reg [zop 2 (.box 52 0 2),zmv 4 (zki 0)]),(.reg [zfa 5 2 1,zld 6 5 1,zmv 7 1,zca 8 123 [6,7],zmv 1 8]),(zsq [(.reg [zmv 9 1,zbi 10 .lss 9 (zki 0)]),(.cond 10 (zsq [(.reg [zmv 4 (zki (-1))]),.ret]) .skip)]),(.reg [zmv 11 1,zmv 4 11]),.ret])
def QvZ:List (ARv × Md):=[(.t 4,.one .d)]
theorem QvY (a:Qh) (left:Int) (h :
 ((p_sz (α:=List Qe) a.2 left)∧(zif (decide ((m_sz (α:=List Qe) a.2 left)<(0:Int))) (K (Qb5 (-1:Int))) (K (Qb5 (m_sz (α:=List Qe) a.2 left)))))):Hold (tawp QiL (0+0) Qns (TQ 0 0 QvZ K) (Ql [(.a [(.c TI a.1),(.c (.sl Qv) a.2)]),(.c TI left)])) :=
 Hold.of (by kernel_rfl) h
theorem Qtd (a:Qh) (left:Int) (hp:p_sz (α:=Qh) a left):TCon Try.prog 34 [(.a [(.c TI a.1),(.c (.sl Qv) a.2)]),(.c TI left)] (Qb5 (m_sz (α:=Qh) a left)):=by
 refine Qq rfl fun hb=>tcg (Γ:=QiL) (n:=12) (sg:=QdV.sg) Qp (TOkL.cons QnC TOkL.nil) (by kernel_rfl) (by kernel_rfl) (QvY _ a left ?_)
 refine ⟨hp,fun h=>R_eq (QT (of_decide_eq_true h) (by first | omega | (simp only [Qx,Qy,QC];omega)) hp.1),fun h=>?_⟩
 exact R_eq (congrArg (QX · _) (by first | rfl | omega | (simp only [Qx,Qy,QC];omega)))
theorem Qnm:Qo Try.prog QdV:=Qr fun x h=>Qtd x.1 x.2.1 h
def YW (t:Int):TRes:=zre (zci t)
def Qft:TRow:=Qm 167 [(.c (.sl Qu)),(.c TI)] fun x=>(some (p_sz (α:=List Qh) x.1 x.2.1),YW (m_sz (α:=List Qh) x.1 x.2.1))
def QcR:TTab:=⟨[QdV],false⟩
def QhE:TCode :=
 (zsq [(zsq [(.reg [zmv 12 5,zmv 13 0,zle 14 13,zbi 15 .lss 12 14]),(.cond 15 .skip (.exit 0))]),(.block 1 (zsq [(.reg [zmv 18 0,zmv 19 5,zia 20 18 19 Qu,zLd 21 20 2,zmv 22 1,zca 23 34 [21,22],zmv 1 23]),(.reg [zmv 24 1,zbi 25 .lss 24 (zki 0)]),(.cond 25 (zsq [(.reg [zmv 4 (zki (-1))]),.ret]) .skip)])),(.reg [zmv 16 5,zbi 17 .add 16 (zki 1),zmv 5 17])])
def Qj8:List (Nat × Md):=zdl [0,1,5]
def QgT:TCode :=
 (zsq [(.reg [zmv 26 1,zmv 4 26]),.ret])
def Qvj:TCode :=
 (zsq [(.reg [zmv 4 (zki 0)]),(.reg [zmv 6 1,zmv 7 0,zle 8 7,zbi 9 .sub 6 8,zmv 1 9]),(zsq [(.reg [zmv 10 1,zbi 11 .lss 10 (zki 0)]),(.cond 11 (zsq [(.reg [zmv 4 (zki (-1))]),.ret]) .skip)]),(zsq [(.reg [zmv 5 (zki 0)]),(.block 0 (.loop Qj8 QhE))]),QgT])
def QjC:List (ARv × Md):=[(.t 4,.one .d)]
def QhI:Qb:=TQ 0 0 QjC K
def Qr1:Qb:=Qseq (tawp QcR 0 QgT (QhI K)) (QhI K)
def Qub:Qb:=Qblk 0 (Qr1 K)
def QeM (a:List Qh) (left1:Int) (i:Int):Prop:=Loop QcR 0 Qj8 QhE (Qub K) ⟨[(0,(zcs Qu a)),(1,(zci left1)),(5,(zci i))],[],0⟩
theorem Qn6 (a:List Qh) (left1:Int) (i:Int) (h :
 (zif (decide (i<(a.length:Int))) ((((0:Int)≤i∧Int.toNat i<a.length)∧(p_sz (α:=Qh) (gtd Q5 a (Int.toNat i)) left1))∧(zif (decide ((m_sz (α:=Qh) (gtd Q5 a (Int.toNat i)) left1)<(0:Int))) (K (YW (-1:Int))) (QeM K a (m_sz (α:=Qh) (gtd Q5 a (Int.toNat i)) left1) (w64 (i+(1:Int)))))) (K (YW left1)))):QeM K a left1 i :=
 Loop.of (by kernel_rfl) h
theorem QtG (a:List Qh) (left:Int) (h :
 (zif (decide ((w64 (left-(a.length:Int)))<(0:Int))) (K (YW (-1:Int))) (QeM K a (w64 (left-(a.length:Int))) 0))):Hold (tawp QcR (0+0) Qvj (TQ 0 0 QjC K) (Ql [(.c (.sl Qu) a),(.c TI left)])) :=
 Hold.of (by kernel_rfl) h
theorem QpI (a:List Qh) (left:Int) (hp:p_sz (α:=List Qh) a left):TCon Try.prog 167 [(.c (.sl Qu) a),(.c TI left)] (YW (m_sz (α:=List Qh) a left)):=by
 refine Qq rfl fun hb=>tcg (Γ:=QcR) (n:=27) (sg:=Qft.sg) Qp (TOkL.cons Qnm TOkL.nil) (by kernel_rfl) (by kernel_rfl) (QtG _ a left ?_)
 exact Y3 (Q:=fun x=>YW x=YW (m_sz (α:=List Qh) a left)) Q5 hp hb.1.1 (fun l i h=>Qn6 _ a l i h) rfl
theorem QoI:Qo Try.prog Qft:=Qr fun x h=>QpI x.1 x.2.1 h
def Qe9 (t:Qe):TRes:=⟨(.a [(zci t.1),(.r [TI] 0 0 ((t.2).length))]),[(.sl 3 [TI] (.dp 0 true []) t.2)],[],false,[]⟩
def Qfs:TRow:=Qm 38 [(.a Qv)] fun x=>(some (p_to (α:=Qe) x.1),Qe9 (id (α:=Qe) x.1))
def QmR:TTab:=⟨[Jv],true⟩
def Quq:TCode :=
 (zsq [(.reg [zop 1 (.box 53 0 2),zop 2 (.new 39 (z0s Qv))]),(.reg [zop 3 (.new 39 (z0s Qv))]),(.reg [zfa 4 1 0,zld 5 4 1,zfa 6 3 0,zst 6 5 1]),(.reg [zfa 7 1 1,zld 8 7 1,zca 9 127 [8],zfa 10 3 1,zst 10 9 1]),(.reg [zLd 11 3 2,zst 2 11 2]),.ret])
def Qod:List (ARv × Md):=[(.l 2 2 true,.b [.d,.p 3])]
theorem QsN (a:Qe) (h :
 ((p_to (α:=List Int) a.2)∧K (Qe9 (a.1,(List.take ((id (α:=List Int) a.2).length) (id (α:=List Int) a.2)))))):Hold (tawp QmR (0+0) Quq (TQ 0 0 Qod K) (Ql [(.a [(.c TI a.1),(.c (.sl [TI]) a.2)])])) :=
 Hold.of (by kernel_rfl) h
theorem Qo5 (a:Qe) (hp:p_to (α:=Qe) a):TCon Try.prog 38 [(.a [(.c TI a.1),(.c (.sl [TI]) a.2)])] (Qe9 (id (α:=Qe) a)):=by
 refine Qq rfl fun hb=>tcg (Γ:=QmR) (n:=12) (sg:=Qfs.sg) Qp (TOkL.cons Qay TOkL.nil) (by kernel_rfl) (by kernel_rfl) (QsN _ a ?_)
 repeat' (first | refine And.intro ?_ ?_ | exact R_eq (by simp))
 all_goals (simp only [p_to,Qx,Qy,QC,List.drop_zero,List.take_length,id_eq] at hp ⊢;omega)
theorem Qw7:Qo Try.prog Qfs:=Qr fun x h=>Qo5 x.1 h
def Yz (t:(List Qe)):TRes:=⟨(.r Qv 0 0 t.length),[(.sl 39 Qv (.dp 0 true []) t)],[],false,[]⟩
def QeI:TRow:=Qm 126 [(.c (.sl Qv))] fun x=>(some (p_to (α:=List Qe) x.1),Yz (id (α:=List Qe) x.1))
def QbX:TTab:=⟨[Qfs],true⟩
def QhX:TCode :=
 (zsq [(zsq [(.reg [zmv 8 4,zmv 9 0,zle 10 9,zbi 11 .lss 8 10]),(.cond 11 .skip (.exit 0))]),(.block 1 (.reg [zmv 14 3,zmv 15 4,zmv 16 0,zmv 17 4,zia 18 16 17 Qv,zLd 19 18 2,zca 20 38 [19],zia 21 14 15 Qv,zst 21 20 2])),(.reg [zmv 12 4,zbi 13 .add 12 (zki 1),zmv 4 13])])
def Qjf:List (Nat × Md):=[(0,.one .d),(3,.one .f),(4,.one .d)]
def QlL:TCode :=
 (zsq [(.reg [zmv 22 3,zmv 2 22]),.ret])
def Qpr:TCode :=
 (zsq [(.reg [zmv 2 (.k (.n Qv))]),(.reg [zmv 5 0,zle 6 5,zop 7 (.mk 39 Qv (z0s Qv) 6),zmv 3 7]),(zsq [(.reg [zmv 4 (zki 0)]),(.block 0 (.loop Qjf QhX))]),QlL])
def Qml:List (ARv × Md):=[(.t 2,.one (.p 39))]
def Qjb:Qb:=TQ 0 0 Qml K
def Qng:Qb:=Qseq (tawp QbX 0 QlL (Qjb K)) (Qjb K)
def Qpl:Qb:=Qblk 0 (Qng K)
def QbY (a:List Qe) (i:Int) (out:List Qe):Prop:=Loop QbX 0 Qjf QhX (Qpl K) ⟨[(0,(zcs Qv a)),(3,(.r Qv 0 0 out.length)),(4,(zci i))],[(0,(.sl 39 Qv (.dp 0 true []) out))],1⟩
theorem Qjw (a:List Qe) (i:Int) (out:List Qe) (h :
 (zif (decide (i<(a.length:Int))) ((((0:Int)≤i∧Int.toNat i<a.length)∧((p_to (α:=Qe) (gtd ((0,[]):Qe) a (Int.toNat i)))∧(((0:Int)≤i∧Int.toNat i<out.length)∧((0+(Int.toNat i))<out.length))))∧(QbY K a (w64 (i+(1:Int))) (List.take out.length ((out).set (0+(Int.toNat i)) ((id (α:=Qe) (gtd ((0,[]):Qe) a (Int.toNat i))).1,(List.take (((id (α:=Qe) (gtd ((0,[]):Qe) a (Int.toNat i))).2).length) (List.drop 0 ((id (α:=Qe) (gtd ((0,[]):Qe) a (Int.toNat i))).2)))))))) (K (Yz (List.take out.length out))))):QbY K a i out :=
 Loop.of (by kernel_rfl) h
theorem Qso (a:List Qe) (h :
 (((0:Int)≤(a.length:Int)∧(a.length:Int)≤big)∧(QbY K a 0 (List.take (Int.toNat (a.length:Int)) (List.replicate (Int.toNat (a.length:Int)) ((0:Int),[])))))):Hold (tawp QbX (0+0) Qpr (TQ 0 0 Qml K) (Ql [(.c (.sl Qv) a)])) :=
 Hold.of (by kernel_rfl) h
theorem Qoy (a:List Qe) (hp:p_to (α:=List Qe) a):TCon Try.prog 126 [(.c (.sl Qv) a)] (Yz (id (α:=List Qe) a)):=by
 refine Qq rfl fun hb=>tcg (Γ:=QbX) (n:=23) (sg:=QeI.sg) Qp (TOkL.cons Qw7 TOkL.nil) (by kernel_rfl) (by kernel_rfl) (Qso _ a ?_)
 refine ⟨⟨by omega,by rw [bigI];have:=Q3 hp;omega⟩,?_⟩
 refine Yh a (A:=fun ii ll=>QbY (fun r'=>r'=Yz (id (α:=List Qe) a)) a ii ll) (Q:=fun z=>Yz z=Yz (id (α:=List Qe) a)) hp ?_ ?_ rfl
 ·intro k x out hlt hg ho hx hA
  have hw:w64 (((k:Nat):Int)+1)=((k+1:Nat):Int):=by have:=Q3 hp;rw [QO (by omega) (by omega)];omega
  have hlo:k<out.length:=by omega
  refine Qjw (fun r'=>r'=Yz (id (α:=List Qe) a)) a ((k:Nat):Int) out ?_
  refine ⟨fun _=>?_,fun h=>absurd h (by simp;omega)⟩
  simp only [Int.toNat_natCast,Nat.zero_add,hg,hw,hlt,hlo,Z2,List.drop_zero,List.take_length,id_eq,and_true,true_and,Int.natCast_nonneg]
  first | exact hA | exact ⟨hx,hA⟩
 ·intro out ho hq
  refine Qjw (fun r'=>r'=Yz (id (α:=List Qe) a)) a ((a.length:Nat):Int) out ?_
  refine ⟨fun h=>absurd h (by simp),fun _=>?_⟩
  simp only [List.drop_zero,List.take_length]
  exact hq
theorem QoR:Qo Try.prog QeI:=Qr fun x h=>Qoy x.1 h
def Qd3 (t:Qh):TRes:=⟨(.a [(zci t.1),(.r Qv 0 0 ((t.2).length))]),[(.sl 39 Qv (.dp 0 true []) t.2)],[],false,[]⟩
def QdT:TRow:=Qm 37 [(.a Qu)] fun x=>(some (p_to (α:=Qh) x.1),Qd3 (id (α:=Qh) x.1))
def QlB:TTab:=⟨[QeI],true⟩
def Qrm:TCode :=
 (zsq [(.reg [zop 1 (.box 52 0 2),zop 2 (.new 36 (z0s Qu))]),(.reg [zop 3 (.new 36 (z0s Qu))]),(.reg [zfa 4 1 0,zld 5 4 1,zfa 6 3 0,zst 6 5 1]),(.reg [zfa 7 1 1,zld 8 7 1,zca 9 126 [8],zfa 10 3 1,zst 10 9 1]),(.reg [zLd 11 3 2,zst 2 11 2]),.ret])
def Qvi:List (ARv × Md):=[(.l 2 2 true,.b [.d,.p 39])]
theorem QnJ (a:Qh) (h :
 ((p_to (α:=List Qe) a.2)∧K (Qd3 (a.1,(List.take ((id (α:=List Qe) a.2).length) (id (α:=List Qe) a.2)))))):Hold (tawp QlB (0+0) Qrm (TQ 0 0 Qvi K) (Ql [(.a [(.c TI a.1),(.c (.sl Qv) a.2)])])) :=
 Hold.of (by kernel_rfl) h
theorem QoJ (a:Qh) (hp:p_to (α:=Qh) a):TCon Try.prog 37 [(.a [(.c TI a.1),(.c (.sl Qv) a.2)])] (Qd3 (id (α:=Qh) a)):=by
 refine Qq rfl fun hb=>tcg (Γ:=QlB) (n:=12) (sg:=QdT.sg) Qp (TOkL.cons QoR TOkL.nil) (by kernel_rfl) (by kernel_rfl) (QnJ _ a ?_)
 repeat' (first | refine And.intro ?_ ?_ | exact R_eq (by simp))
 all_goals (simp only [p_to,Qx,Qy,QC,List.drop_zero,List.take_length,id_eq] at hp ⊢;omega)
theorem Qnd:Qo Try.prog QdT:=Qr fun x h=>QoJ x.1 h
def Yw (t:(List Qh)):TRes:=⟨(.r Qu 0 0 t.length),[(.sl 36 Qu (.dp 0 true []) t)],[],false,[]⟩
def Qe7:TRow:=Qm 170 [(.c (.sl Qu))] fun x=>(some (p_to (α:=List Qh) x.1),Yw (id (α:=List Qh) x.1))
def QcL:TTab:=⟨[QdT],true⟩
def Qm0:TCode :=
 (zsq [(zsq [(.reg [zmv 8 4,zmv 9 0,zle 10 9,zbi 11 .lss 8 10]),(.cond 11 .skip (.exit 0))]),(.block 1 (.reg [zmv 14 3,zmv 15 4,zmv 16 0,zmv 17 4,zia 18 16 17 Qu,zLd 19 18 2,zca 20 37 [19],zia 21 14 15 Qu,zst 21 20 2])),(.reg [zmv 12 4,zbi 13 .add 12 (zki 1),zmv 4 13])])
def QlT:List (Nat × Md):=[(0,.one .d),(3,.one .f),(4,.one .d)]
def QhL:TCode :=
 (zsq [(.reg [zmv 22 3,zmv 2 22]),.ret])
def QtE:TCode :=
 (zsq [(.reg [zmv 2 (.k (.n Qu))]),(.reg [zmv 5 0,zle 6 5,zop 7 (.mk 36 Qu (z0s Qu) 6),zmv 3 7]),(zsq [(.reg [zmv 4 (zki 0)]),(.block 0 (.loop QlT Qm0))]),QhL])
def Ql2:List (ARv × Md):=[(.t 2,.one (.p 36))]
def QiA:Qb:=TQ 0 0 Ql2 K
def QvX:Qb:=Qseq (tawp QcL 0 QhL (QiA K)) (QiA K)
def Qqt:Qb:=Qblk 0 (QvX K)
def QcI (a:List Qh) (i:Int) (out:List Qh):Prop:=Loop QcL 0 QlT Qm0 (Qqt K) ⟨[(0,(zcs Qu a)),(3,(.r Qu 0 0 out.length)),(4,(zci i))],[(0,(.sl 36 Qu (.dp 0 true []) out))],1⟩
theorem QmE (a:List Qh) (i:Int) (out:List Qh) (h :
 (zif (decide (i<(a.length:Int))) ((((0:Int)≤i∧Int.toNat i<a.length)∧((p_to (α:=Qh) (gtd Q5 a (Int.toNat i)))∧(((0:Int)≤i∧Int.toNat i<out.length)∧((0+(Int.toNat i))<out.length))))∧(QcI K a (w64 (i+(1:Int))) (List.take out.length ((out).set (0+(Int.toNat i)) ((id (α:=Qh) (gtd Q5 a (Int.toNat i))).1,(List.take (((id (α:=Qh) (gtd Q5 a (Int.toNat i))).2).length) (List.drop 0 ((id (α:=Qh) (gtd Q5 a (Int.toNat i))).2)))))))) (K (Yw (List.take out.length out))))):QcI K a i out :=
 Loop.of (by kernel_rfl) h
theorem QsP (a:List Qh) (h :
 (((0:Int)≤(a.length:Int)∧(a.length:Int)≤big)∧(QcI K a 0 (List.take (Int.toNat (a.length:Int)) (List.replicate (Int.toNat (a.length:Int)) ((0:Int),[])))))):Hold (tawp QcL (0+0) QtE (TQ 0 0 Ql2 K) (Ql [(.c (.sl Qu) a)])) :=
 Hold.of (by kernel_rfl) h
theorem Qws (a:List Qh) (hp:p_to (α:=List Qh) a):TCon Try.prog 170 [(.c (.sl Qu) a)] (Yw (id (α:=List Qh) a)):=by
 refine Qq rfl fun hb=>tcg (Γ:=QcL) (n:=23) (sg:=Qe7.sg) Qp (TOkL.cons Qnd TOkL.nil) (by kernel_rfl) (by kernel_rfl) (QsP _ a ?_)
 refine ⟨⟨by omega,by rw [bigI];have:=Q3 hp;omega⟩,?_⟩
 refine Yh a (A:=fun ii ll=>QcI (fun r'=>r'=Yw (id (α:=List Qh) a)) a ii ll) (Q:=fun z=>Yw z=Yw (id (α:=List Qh) a)) hp ?_ ?_ rfl
 ·intro k x out hlt hg ho hx hA
  have hw:w64 (((k:Nat):Int)+1)=((k+1:Nat):Int):=by have:=Q3 hp;rw [QO (by omega) (by omega)];omega
  have hlo:k<out.length:=by omega
  refine QmE (fun r'=>r'=Yw (id (α:=List Qh) a)) a ((k:Nat):Int) out ?_
  refine ⟨fun _=>?_,fun h=>absurd h (by simp;omega)⟩
  simp only [Int.toNat_natCast,Nat.zero_add,hg,hw,hlt,hlo,Z2,List.drop_zero,List.take_length,id_eq,and_true,true_and,Int.natCast_nonneg]
  first | exact hA | exact ⟨hx,hA⟩
 ·intro out ho hq
  refine QmE (fun r'=>r'=Yw (id (α:=List Qh) a)) a ((a.length:Nat):Int) out ?_
  refine ⟨fun h=>absurd h (by simp),fun _=>?_⟩
  simp only [List.drop_zero,List.take_length]
  exact hq
theorem Qqy:Qo Try.prog Qe7:=Qr fun x h=>Qws x.1 h
def Qah (t:Bool):TRes:=zre (zcb t)
def Qf4:TRow:=Qm 40 [(.a Qv),(.a Qv)] fun x=>(none,Qah (m_eq (α:=Qe) x.1 x.2.1))
def QgU:TTab:=⟨[YM],false⟩
def Qqc:TCode :=
 (zsq [(.reg [zop 2 (.box 39 0 2),zop 3 (.box 39 1 2),zmv 4 (zkb false)]),(zsq [(.reg [zfa 5 2 0,zld 6 5 1,zfa 7 3 0,zld 8 7 1,zbi 9 .neq 6 8]),(.cond 9 (zsq [(.reg [zmv 4 (zkb false)]),.ret]) .skip)]),(zsq [(.reg [zfa 10 2 1,zld 11 10 1,zfa 12 3 1,zld 13 12 1,zca 14 66 [11,13],zno 15 14]),(.cond 15 (zsq [(.reg [zmv 4 (zkb false)]),.ret]) .skip)]),(.reg [zmv 4 (zkb true)]),.ret])
def Qr5:List (ARv × Md):=[(.t 4,.one .d)]
theorem QtD (a:Qe) (b:Qe) (h :
 (zif (a.1 != b.1) (K (Qah false)) (zif (!(m_eq (α:=List Int) a.2 b.2)) (K (Qah false)) (K (Qah true))))):Hold (tawp QgU (0+0) Qqc (TQ 0 0 Qr5 K) (Ql [(.a [(.c TI a.1),(.c (.sl [TI]) a.2)]),(.a [(.c TI b.1),(.c (.sl [TI]) b.2)])])) :=
 Hold.of (by kernel_rfl) h
theorem Qte (a:Qe) (b:Qe):TCon Try.prog 40 [(.a [(.c TI a.1),(.c (.sl [TI]) a.2)]),(.a [(.c TI b.1),(.c (.sl [TI]) b.2)])] (Qah (m_eq (α:=Qe) a b)):=by
 refine Qq rfl fun hb=>tcg (Γ:=QgU) (n:=16) (sg:=Qf4.sg) Qp (TOkL.cons JQ TOkL.nil) (by kernel_rfl) (by kernel_rfl) (QtD _ a b ?_)
 refine ⟨fun h=>R_eq (Eq.symm (decide_eq_false (by rintro rfl;simp [m_eq] at h))),fun h0=>?_⟩
 refine ⟨fun h=>R_eq (Eq.symm (decide_eq_false (by rintro rfl;simp [m_eq] at h))),fun h1=>?_⟩
 refine R_eq (Eq.symm (decide_eq_true ?_))
 simp [m_eq] at h0 h1
 simp [Prod.ext_iff, *]
theorem QnH:Qo Try.prog Qf4:=Qr fun x _=>Qte x.1 x.2.1
def Y4 (t:Bool):TRes:=zre (zcb t)
def Qdz:TRow:=Qm 128 [(.c (.sl Qv)),(.c (.sl Qv))] fun x=>(none,Y4 (m_eq (α:=List Qe) x.1 x.2.1))
def QcO:TTab:=⟨[Qf4],false⟩
def QkS:TCode :=
 (zsq [(zsq [(.reg [zmv 11 5,zmv 12 0,zle 13 12,zbi 14 .lss 11 13]),(.cond 14 .skip (.exit 0))]),(.block 1 (zsq [(.draw [zmv 17 0,zmv 18 5,zia 19 17 18 Qv,zLd 20 19 2,zmv 21 1,zmv 22 5,zia 23 21 22 Qv,zLd 24 23 2,zca 25 40 [20,24],zno 26 25] []),(.cond 26 (zsq [(.reg [zmv 4 (zkb false)]),.ret]) .skip)])),(.reg [zmv 15 5,zbi 16 .add 15 (zki 1),zmv 5 16])])
def QlS:List (Nat × Md):=zdl [0,1,5]
def QmI:TCode :=
 (zsq [(.reg [zmv 4 (zkb true)]),.ret])
def QrH:TCode :=
 (zsq [(.reg [zmv 4 (zkb false)]),(zsq [(.reg [zmv 6 0,zle 7 6,zmv 8 1,zle 9 8,zbi 10 .neq 7 9]),(.cond 10 (zsq [(.reg [zmv 4 (zkb false)]),.ret]) .skip)]),(zsq [(.reg [zmv 5 (zki 0)]),(.block 0 (.loop QlS QkS))]),QmI])
def Qkk:List (ARv × Md):=[(.t 4,.one .d)]
def QgL:Qb:=TQ 0 0 Qkk K
def QrW:Qb:=Qseq (tawp QcO 0 QmI (QgL K)) (QgL K)
def Qsw:Qb:=Qblk 0 (QrW K)
def QdH (a:List Qe) (b:List Qe) (i:Int):Prop:=Loop QcO 0 QlS QkS (Qsw K) ⟨[(0,(zcs Qv a)),(1,(zcs Qv b)),(5,(zci i))],[],0⟩
theorem QvV (a:List Qe) (b:List Qe) (i:Int) (h :
 (zif (decide (i<(a.length:Int))) ((((0:Int)≤i∧Int.toNat i<a.length)∧((0:Int)≤i∧Int.toNat i<b.length))∧(zif (!(m_eq (α:=Qe) (gtd ((0,[]):Qe) a (Int.toNat i)) (gtd ((0,[]):Qe) b (Int.toNat i)))) (K (Y4 false)) (QdH K a b (w64 (i+(1:Int)))))) (K (Y4 true)))):QdH K a b i :=
 Loop.of (by kernel_rfl) h
theorem QpU (a:List Qe) (b:List Qe) (h :
 (zif ((a.length:Int) != (b.length:Int)) (K (Y4 false)) (QdH K a b 0))):Hold (tawp QcO (0+0) QrH (TQ 0 0 Qkk K) (Ql [(.c (.sl Qv) a),(.c (.sl Qv) b)])) :=
 Hold.of (by kernel_rfl) h
theorem Qm8 (a:List Qe) (b:List Qe):TCon Try.prog 128 [(.c (.sl Qv) a),(.c (.sl Qv) b)] (Y4 (m_eq (α:=List Qe) a b)):=by
 refine Qq rfl fun hb=>tcg (Γ:=QcO) (n:=27) (sg:=Qdz.sg) Qp (TOkL.cons QnH TOkL.nil) (by kernel_rfl) (by kernel_rfl) (QpU _ a b ?_)
 exact Yf ((0,[]):Qe) (E:=m_eq) (fun _ _=>rfl) hb.1.1 (fun i h=>QvV _ a b i h) (Q:=fun x=>Y4 x=Y4 (m_eq (α:=List Qe) a b)) rfl
theorem QwS:Qo Try.prog Qdz:=Qr fun x _=>Qm8 x.1 x.2.1
def QaU (t:Bool):TRes:=zre (zcb t)
def Qeu:TRow:=Qm 39 [(.a Qu),(.a Qu)] fun x=>(none,QaU (m_eq (α:=Qh) x.1 x.2.1))
def Qhh:TTab:=⟨[Qdz],false⟩
def Qoj:TCode :=
 (zsq [(.reg [zop 2 (.box 36 0 2),zop 3 (.box 36 1 2),zmv 4 (zkb false)]),(zsq [(.reg [zfa 5 2 0,zld 6 5 1,zfa 7 3 0,zld 8 7 1,zbi 9 .neq 6 8]),(.cond 9 (zsq [(.reg [zmv 4 (zkb false)]),.ret]) .skip)]),(zsq [(.reg [zfa 10 2 1,zld 11 10 1,zfa 12 3 1,zld 13 12 1,zca 14 128 [11,13],zno 15 14]),(.cond 15 (zsq [(.reg [zmv 4 (zkb false)]),.ret]) .skip)]),(.reg [zmv 4 (zkb true)]),.ret])
def QsE:List (ARv × Md):=[(.t 4,.one .d)]
theorem Qu6 (a:Qh) (b:Qh) (h :
 (zif (a.1 != b.1) (K (QaU false)) (zif (!(m_eq (α:=List Qe) a.2 b.2)) (K (QaU false)) (K (QaU true))))):Hold (tawp Qhh (0+0) Qoj (TQ 0 0 QsE K) (Ql [(.a [(.c TI a.1),(.c (.sl Qv) a.2)]),(.a [(.c TI b.1),(.c (.sl Qv) b.2)])])) :=
 Hold.of (by kernel_rfl) h
theorem QwH (a:Qh) (b:Qh):TCon Try.prog 39 [(.a [(.c TI a.1),(.c (.sl Qv) a.2)]),(.a [(.c TI b.1),(.c (.sl Qv) b.2)])] (QaU (m_eq (α:=Qh) a b)):=by
 refine Qq rfl fun hb=>tcg (Γ:=Qhh) (n:=16) (sg:=Qeu.sg) Qp (TOkL.cons QwS TOkL.nil) (by kernel_rfl) (by kernel_rfl) (Qu6 _ a b ?_)
 refine ⟨fun h=>R_eq (Eq.symm (decide_eq_false (by rintro rfl;simp [m_eq] at h))),fun h0=>?_⟩
 refine ⟨fun h=>R_eq (Eq.symm (decide_eq_false (by rintro rfl;simp [m_eq] at h))),fun h1=>?_⟩
 refine R_eq (Eq.symm (decide_eq_true ?_))
 simp [m_eq] at h0 h1
 simp [Prod.ext_iff, *]
theorem Qtj:Qo Try.prog Qeu:=Qr fun x _=>QwH x.1 x.2.1
def JF (t:Bool):TRes:=zre (zcb t)
def Qd5:TRow:=Qm 173 [(.c (.sl Qu)),(.c (.sl Qu))] fun x=>(none,JF (m_eq (α:=List Qh) x.1 x.2.1))
def QcW:TTab:=⟨[Qeu],false⟩
def Qlh:TCode :=
 (zsq [(zsq [(.reg [zmv 11 5,zmv 12 0,zle 13 12,zbi 14 .lss 11 13]),(.cond 14 .skip (.exit 0))]),(.block 1 (zsq [(.draw [zmv 17 0,zmv 18 5,zia 19 17 18 Qu,zLd 20 19 2,zmv 21 1,zmv 22 5,zia 23 21 22 Qu,zLd 24 23 2,zca 25 39 [20,24],zno 26 25] []),(.cond 26 (zsq [(.reg [zmv 4 (zkb false)]),.ret]) .skip)])),(.reg [zmv 15 5,zbi 16 .add 15 (zki 1),zmv 5 16])])
def QjU:List (Nat × Md):=zdl [0,1,5]
def Qhk:TCode :=
 (zsq [(.reg [zmv 4 (zkb true)]),.ret])
def QtJ:TCode :=
 (zsq [(.reg [zmv 4 (zkb false)]),(zsq [(.reg [zmv 6 0,zle 7 6,zmv 8 1,zle 9 8,zbi 10 .neq 7 9]),(.cond 10 (zsq [(.reg [zmv 4 (zkb false)]),.ret]) .skip)]),(zsq [(.reg [zmv 5 (zki 0)]),(.block 0 (.loop QjU Qlh))]),Qhk])
def QkU:List (ARv × Md):=[(.t 4,.one .d)]
def Qge:Qb:=TQ 0 0 QkU K
def Qnb:Qb:=Qseq (tawp QcW 0 Qhk (Qge K)) (Qge K)
def QpM:Qb:=Qblk 0 (Qnb K)
def QdL (a:List Qh) (b:List Qh) (i:Int):Prop:=Loop QcW 0 QjU Qlh (QpM K) ⟨[(0,(zcs Qu a)),(1,(zcs Qu b)),(5,(zci i))],[],0⟩
theorem QsW (a:List Qh) (b:List Qh) (i:Int) (h :
 (zif (decide (i<(a.length:Int))) ((((0:Int)≤i∧Int.toNat i<a.length)∧((0:Int)≤i∧Int.toNat i<b.length))∧(zif (!(m_eq (α:=Qh) (gtd Q5 a (Int.toNat i)) (gtd Q5 b (Int.toNat i)))) (K (JF false)) (QdL K a b (w64 (i+(1:Int)))))) (K (JF true)))):QdL K a b i :=
 Loop.of (by kernel_rfl) h
theorem QpF (a:List Qh) (b:List Qh) (h :
 (zif ((a.length:Int) != (b.length:Int)) (K (JF false)) (QdL K a b 0))):Hold (tawp QcW (0+0) QtJ (TQ 0 0 QkU K) (Ql [(.c (.sl Qu) a),(.c (.sl Qu) b)])) :=
 Hold.of (by kernel_rfl) h
theorem Qnr (a:List Qh) (b:List Qh):TCon Try.prog 173 [(.c (.sl Qu) a),(.c (.sl Qu) b)] (JF (m_eq (α:=List Qh) a b)):=by
 refine Qq rfl fun hb=>tcg (Γ:=QcW) (n:=27) (sg:=Qd5.sg) Qp (TOkL.cons Qtj TOkL.nil) (by kernel_rfl) (by kernel_rfl) (QpF _ a b ?_)
 exact Yf Q5 (E:=m_eq) (fun _ _=>rfl) hb.1.1 (fun i h=>QsW _ a b i h) (Q:=fun x=>JF x=JF (m_eq (α:=List Qh) a b)) rfl
theorem QqE:Qo Try.prog Qd5:=Qr fun x _=>Qnr x.1 x.2.1
end
end Go.Proofs.Ytephkbajoofeoaa.Am

