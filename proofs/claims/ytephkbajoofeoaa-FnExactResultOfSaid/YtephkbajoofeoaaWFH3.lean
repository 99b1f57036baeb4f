/- -/
import Derived.Test.YtephkbajoofeoaaWFH1
import Derived.Test.YtephkbajoofeoaaWFGF
namespace Go.Proofs.Ytephkbajoofeoaa.Am
open Go Go.RowKit Go.Proofs.Ytephkbajoofeoaa
set_option linter.all false
noncomputable section
variable (K:TRes→Prop)
def Qc3 (t:Int):TRes:=zre (zci t)
def QgE:TRow:=Ql 35 [(.a Qv),(.c TI)] fun x=>(some (p_sz (α:=Qf) x.1 x.2.1),Qc3 (m_sz (α:=Qf) x.1 x.2.1))
def Qom:TTab:=⟨[Je],false⟩
def QxJ:TCode :=
 (zsq [(.reg [zop 2 (.box 53 0 2),zmv 4 (zki 0)]),(.reg [zfa 5 2 1,zld 6 5 1,zmv 7 1,zca 8 124 [6,7],zmv 1 8]),(zsq [(.reg [zmv 9 1,zbi 10 .lss 9 (zki 0)]),(.cond 10 (zsq [(.reg [zmv 4 (zki (-1))]),.ret]) .skip)]),(.reg [zmv 11 1,zmv 4 11]),.ret])
def QyO:List (ARv × Md):=[(.t 4,.one .d)]
theorem Qrv (a:Qf) (left:Int) (h :
 ((p_sz (α:=List Int) a.2 left)∧(zif (decide ((m_sz (α:=List Int) a.2 left)<(0:Int))) (K (Qc3 (-1:Int))) (K (Qc3 (m_sz (α:=List Int) a.2 left)))))):Hold (tawp Qom (0+0) QxJ (TQ 0 0 QyO K) (Qk [(.a [(.c TI a.1),(.c (.sl [TI]) a.2)]),(.c TI left)])) :=
 Hold.of (by kernel_rfl) h
theorem QwE (a:Qf) (left:Int) (hp:p_sz (α:=Qf) a left):TCon Try.prog 35 [(.a [(.c TI a.1),(.c (.sl [TI]) a.2)]),(.c TI left)] (Qc3 (m_sz (α:=Qf) a left)):=by
 refine Qp rfl fun hb=>tcg (Γ:=Qom) (n:=12) (sg:=QgE.sg) Qo (TOkL.cons QaE TOkL.nil) (by kernel_rfl) (by kernel_rfl) (Qrv _ a left ?_)
 refine ⟨hp,fun h=>R_eq (QU (of_decide_eq_true h) (by first | omega | (simp only [Qw,Qy,QD];omega)) hp.1),fun h=>?_⟩
 exact R_eq (congrArg (QZ · _) (by first | rfl | omega | (simp only [Qw,Qy,QD];omega)))
theorem Qwt:Qm Try.prog QgE:=Qr fun x h=>QwE x.1 x.2.1 h
def Jk (t:Int):TRes:=zre (zci t)
def Qd9:TRow:=Ql 123 [(.c (.sl Qv)),(.c TI)] fun x=>(some (p_sz (α:=List Qf) x.1 x.2.1),Jk (m_sz (α:=List Qf) x.1 x.2.1))
def QbK:TTab:=⟨[QgE],false⟩
def QmH:TCode :=
 (zsq [(zsq [(.reg [zmv 12 5,zmv 13 0,zle 14 13,zbi 15 .lss 12 14]),(.cond 15 .skip (.exit 0))]),(.block 1 (zsq [(.reg [zmv 18 0,zmv 19 5,zia 20 18 19 Qv,zLd 21 20 2,zmv 22 1,zca 23 35 [21,22],zmv 1 23]),(.reg [zmv 24 1,zbi 25 .lss 24 (zki 0)]),(.cond 25 (zsq [(.reg [zmv 4 (zki (-1))]),.ret]) .skip)])),(.reg [zmv 16 5,zbi 17 .add 16 (zki 1),zmv 5 17])])
def Qk7:List (Nat × Md):=zdl [0,1,5]
def Qhg:TCode :=
 (zsq [(.reg [zmv 26 1,zmv 4 26]),.ret])
def QpQ:TCode :=
 (zsq [(.reg [zmv 4 (zki 0)]),(.reg [zmv 6 1,zmv 7 0,zle 8 7,zbi 9 .sub 6 8,zmv 1 9]),(zsq [(.reg [zmv 10 1,zbi 11 .lss 10 (zki 0)]),(.cond 11 (zsq [(.reg [zmv 4 (zki (-1))]),.ret]) .skip)]),(zsq [(.reg [zmv 5 (zki 0)]),(.block 0 (.loop Qk7 QmH))]),Qhg])
def Qhd:List (ARv × Md):=[(.t 4,.one .d)]
def QkV:Qb:=TQ 0 0 Qhd K
def Qxl:Qb:=Qseq (tawp QbK 0 Qhg (QkV K)) (QkV K)
def Qt3:Qb:=Qblk 0 (Qxl K)
def Qem (a:List Qf) (left1:Int) (i:Int):Prop:=Loop QbK 0 Qk7 QmH (Qt3 K) ⟨[(0,(zcs Qv a)),(1,(zci left1)),(5,(zci i))],[],0⟩
theorem QvT (a:List Qf) (left1:Int) (i:Int) (h :
 (zif (decide (i<(a.length:Int))) ((((0:Int)≤i∧Int.toNat i<a.length)∧(p_sz (α:=Qf) (gtd ((0,[]):Qf) a (Int.toNat i)) left1))∧(zif (decide ((m_sz (α:=Qf) (gtd ((0,[]):Qf) a (Int.toNat i)) left1)<(0:Int))) (K (Jk (-1:Int))) (Qem K a (m_sz (α:=Qf) (gtd ((0,[]):Qf) a (Int.toNat i)) left1) (w64 (i+(1:Int)))))) (K (Jk left1)))):Qem K a left1 i :=
 Loop.of (by kernel_rfl) h
theorem QtC (a:List Qf) (left:Int) (h :
 (zif (decide ((w64 (left-(a.length:Int)))<(0:Int))) (K (Jk (-1:Int))) (Qem K a (w64 (left-(a.length:Int))) 0))):Hold (tawp QbK (0+0) QpQ (TQ 0 0 Qhd K) (Qk [(.c (.sl Qv) a),(.c TI left)])) :=
 Hold.of (by kernel_rfl) h
theorem Qzp (a:List Qf) (left:Int) (hp:p_sz (α:=List Qf) a left):TCon Try.prog 123 [(.c (.sl Qv) a),(.c TI left)] (Jk (m_sz (α:=List Qf) a left)):=by
 refine Qp rfl fun hb=>tcg (Γ:=QbK) (n:=27) (sg:=Qd9.sg) Qo (TOkL.cons Qwt TOkL.nil) (by kernel_rfl) (by kernel_rfl) (QtC _ a left ?_)
 exact J3 (Q:=fun x=>Jk x=Jk (m_sz (α:=List Qf) a left)) ((0,[]):Qf) hp hb.1.1 (fun l i h=>QvT _ a l i h) rfl
theorem Qpb:Qm Try.prog Qd9:=Qr fun x h=>Qzp x.1 x.2.1 h
def Qdc (t:Int):TRes:=zre (zci t)
def Qe5:TRow:=Ql 34 [(.a Qu),(.c TI)] fun x=>(some (p_sz (α:=Qg) x.1 x.2.1),Qdc (m_sz (α:=Qg) x.1 x.2.1))
def QiM:TTab:=⟨[Qd9],false⟩
def Qtx:TCode :=
 (zsq [(.reg [zop 2 (.box 52 0 2),zmv 4 (zki 0)]),(.reg [zfa 5 2 1,zld 6 5 1,zmv 7 1,zca 8 123 [6,7],zmv 1 8]),(zsq [(.reg [zmv 9 1,zbi 10 .lss 9 (zki 0)]),(.cond 10 (zsq [(.reg [zmv 4 (zki (-1))]),.ret]) .skip)]),(.reg [zmv 11 1,zmv 4 11]),.ret])
def QwS:List (ARv × Md):=[(.t 4,.one .d)]
theorem Qs4 (a:Qg) (left:Int) (h :
 ((p_sz (α:=List Qf) a.2 left)∧(zif (decide ((m_sz (α:=List Qf) a.2 left)<(0:Int))) (K (Qdc (-1:Int))) (K (Qdc (m_sz (α:=List Qf) a.2 left)))))):Hold (tawp QiM (0+0) Qtx (TQ 0 0 QwS K) (Qk [(.a [(.c TI a.1),(.c (.sl Qv) a.2)]),(.c TI left)])) :=
 Hold.of (by kernel_rfl) h
theorem Qpy (a:Qg) (left:Int) (hp:p_sz (α:=Qg) a left):TCon Try.prog 34 [(.a [(.c TI a.1),(.c (.sl Qv) a.2)]),(.c TI left)] (Qdc (m_sz (α:=Qg) a left)):=by
 refine Qp rfl fun hb=>tcg (Γ:=QiM) (n:=12) (sg:=Qe5.sg) Qo (TOkL.cons Qpb TOkL.nil) (by kernel_rfl) (by kernel_rfl) (Qs4 _ a left ?_)
 refine ⟨hp,fun h=>R_eq (QU (of_decide_eq_true h) (by first | omega | (simp only [Qw,Qy,QD];omega)) hp.1),fun h=>?_⟩
 exact R_eq (congrArg (QZ · _) (by first | rfl | omega | (simp only [Qw,Qy,QD];omega)))
theorem QvI:Qm Try.prog Qe5:=Qr fun x h=>Qpy x.1 x.2.1 h
def Jm (t:Int):TRes:=zre (zci t)
def Qe2:TRow:=Ql 167 [(.c (.sl Qu)),(.c TI)] fun x=>(some (p_sz (α:=List Qg) x.1 x.2.1),Jm (m_sz (α:=List Qg) x.1 x.2.1))
def Qc5:TTab:=⟨[Qe5],false⟩
def Qoa:TCode :=
 (zsq [(zsq [(.reg [zmv 12 5,zmv 13 0,zle 14 13,zbi 15 .lss 12 14]),(.cond 15 .skip (.exit 0))]),(.block 1 (zsq [(.reg [zmv 18 0,zmv 19 5,zia 20 18 19 Qu,zLd 21 20 2,zmv 22 1,zca 23 34 [21,22],zmv 1 23]),(.reg [zmv 24 1,zbi 25 .lss 24 (zki 0)]),(.cond 25 (zsq [(.reg [zmv 4 (zki (-1))]),.ret]) .skip)])),(.reg [zmv 16 5,zbi 17 .add 16 (zki 1),zmv 5 17])])
def Qoj:List (Nat × Md):=zdl [0,1,5]
def Qkw:TCode :=
 (zsq [(.reg [zmv 26 1,zmv 4 26]),.ret])
def QvO:TCode :=
 (zsq [(.reg [zmv 4 (zki 0)]),(.reg [zmv 6 1,zmv 7 0,zle 8 7,zbi 9 .sub 6 8,zmv 1 9]),(zsq [(.reg [zmv 10 1,zbi 11 .lss 10 (zki 0)]),(.cond 11 (zsq [(.reg [zmv 4 (zki (-1))]),.ret]) .skip)]),(zsq [(.reg [zmv 5 (zki 0)]),(.block 0 (.loop Qoj Qoa))]),Qkw])
def Qj7:List (ARv × Md):=[(.t 4,.one .d)]
def Qg4:Qb:=TQ 0 0 Qj7 K
def QvW:Qb:=Qseq (tawp Qc5 0 Qkw (Qg4 K)) (Qg4 K)
def QpA:Qb:=Qblk 0 (QvW K)
def Qfb (a:List Qg) (left1:Int) (i:Int):Prop:=Loop Qc5 0 Qoj Qoa (QpA K) ⟨[(0,(zcs Qu a)),(1,(zci left1)),(5,(zci i))],[],0⟩
theorem Qwp (a:List Qg) (left1:Int) (i:Int) (h :
 (zif (decide (i<(a.length:Int))) ((((0:Int)≤i∧Int.toNat i<a.length)∧(p_sz (α:=Qg) (gtd Za a (Int.toNat i)) left1))∧(zif (decide ((m_sz (α:=Qg) (gtd Za a (Int.toNat i)) left1)<(0:Int))) (K (Jm (-1:Int))) (Qfb K a (m_sz (α:=Qg) (gtd Za a (Int.toNat i)) left1) (w64 (i+(1:Int)))))) (K (Jm left1)))):Qfb K a left1 i :=
 Loop.of (by kernel_rfl) h
theorem QyU (a:List Qg) (left:Int) (h :
 (zif (decide ((w64 (left-(a.length:Int)))<(0:Int))) (K (Jm (-1:Int))) (Qfb K a (w64 (left-(a.length:Int))) 0))):Hold (tawp Qc5 (0+0) QvO (TQ 0 0 Qj7 K) (Qk [(.c (.sl Qu) a),(.c TI left)])) :=
 Hold.of (by kernel_rfl) h
theorem Qx7 (a:List Qg) (left:Int) (hp:p_sz (α:=List Qg) a left):TCon Try.prog 167 [(.c (.sl Qu) a),(.c TI left)] (Jm (m_sz (α:=List Qg) a left)):=by
 refine Qp rfl fun hb=>tcg (Γ:=Qc5) (n:=27) (sg:=Qe2.sg) Qo (TOkL.cons QvI TOkL.nil) (by kernel_rfl) (by kernel_rfl) (QyU _ a left ?_)
 exact J3 (Q:=fun x=>Jm x=Jm (m_sz (α:=List Qg) a left)) Za hp hb.1.1 (fun l i h=>Qwp _ a l i h) rfl
theorem QqS:Qm Try.prog Qe2:=Qr fun x h=>Qx7 x.1 x.2.1 h
def QgG (t:Qf):TRes:=⟨(.a [(zci t.1),(.r [TI] 0 0 ((t.2).length))]),[(.sl 3 [TI] (.dp 0 true []) t.2)],[],false,[]⟩
def QfH:TRow:=Ql 38 [(.a Qv)] fun x=>(some (p_to (α:=Qf) x.1),QgG (id (α:=Qf) x.1))
def Qj1:TTab:=⟨[Jf],true⟩
def Qxk:TCode :=
 (zsq [(.reg [zop 1 (.box 53 0 2),zop 2 (.new 39 (z0s Qv))]),(.reg [zop 3 (.new 39 (z0s Qv))]),(.reg [zfa 4 1 0,zld 5 4 1,zfa 6 3 0,zst 6 5 1]),(.reg [zfa 7 1 1,zld 8 7 1,zca 9 127 [8],zfa 10 3 1,zst 10 9 1]),(.reg [zLd 11 3 2,zst 2 11 2]),.ret])
def QxN:List (ARv × Md):=[(.l 2 2 true,.b [.d,.p 3])]
theorem QyX (a:Qf) (h :
 ((p_to (α:=List Int) a.2)∧K (QgG (a.1,(List.take ((id (α:=List Int) a.2).length) (id (α:=List Int) a.2)))))):Hold (tawp Qj1 (0+0) Qxk (TQ 0 0 QxN K) (Qk [(.a [(.c TI a.1),(.c (.sl [TI]) a.2)])])) :=
 Hold.of (by kernel_rfl) h
theorem Qqo (a:Qf) (hp:p_to (α:=Qf) a):TCon Try.prog 38 [(.a [(.c TI a.1),(.c (.sl [TI]) a.2)])] (QgG (id (α:=Qf) a)):=by
 refine Qp rfl fun hb=>tcg (Γ:=Qj1) (n:=12) (sg:=QfH.sg) Qo (TOkL.cons QaS TOkL.nil) (by kernel_rfl) (by kernel_rfl) (QyX _ a ?_)
 repeat' (first | refine And.intro ?_ ?_ | exact R_eq (by simp))
 all_goals (simp only [p_to,Qw,Qy,QD,List.drop_zero,List.take_length,id_eq] at hp ⊢;omega)
theorem Qr1:Qm Try.prog QfH:=Qr fun x h=>Qqo x.1 h
def YE (t:(List Qf)):TRes:=⟨(.r Qv 0 0 t.length),[(.sl 39 Qv (.dp 0 true []) t)],[],false,[]⟩
def QeS:TRow:=Ql 126 [(.c (.sl Qv))] fun x=>(some (p_to (α:=List Qf) x.1),YE (id (α:=List Qf) x.1))
def QcM:TTab:=⟨[QfH],true⟩
def Qno:TCode :=
 (zsq [(zsq [(.reg [zmv 8 4,zmv 9 0,zle 10 9,zbi 11 .lss 8 10]),(.cond 11 .skip (.exit 0))]),(.block 1 (.reg [zmv 14 3,zmv 15 4,zmv 16 0,zmv 17 4,zia 18 16 17 Qv,zLd 19 18 2,zca 20 38 [19],zia 21 14 15 Qv,zst 21 20 2])),(.reg [zmv 12 4,zbi 13 .add 12 (zki 1),zmv 4 13])])
def Qht:List (Nat × Md):=[(0,.one .d),(3,.one .f),(4,.one .d)]
def Qig:TCode :=
 (zsq [(.reg [zmv 22 3,zmv 2 22]),.ret])
def Qx0:TCode :=
 (zsq [(.reg [zmv 2 (.k (.n Qv))]),(.reg [zmv 5 0,zle 6 5,zop 7 (.mk 39 Qv (z0s Qv) 6),zmv 3 7]),(zsq [(.reg [zmv 4 (zki 0)]),(.block 0 (.loop Qht Qno))]),Qig])
def QlV:List (ARv × Md):=[(.t 2,.one (.p 39))]
def Qki:Qb:=TQ 0 0 QlV K
def Quf:Qb:=Qseq (tawp QcM 0 Qig (Qki K)) (Qki K)
def Qy9:Qb:=Qblk 0 (Quf K)
def Qch (a:List Qf) (i:Int) (out:List Qf):Prop:=Loop QcM 0 Qht Qno (Qy9 K) ⟨[(0,(zcs Qv a)),(3,(.r Qv 0 0 out.length)),(4,(zci i))],[(0,(.sl 39 Qv (.dp 0 true []) out))],1⟩
theorem Qnb (a:List Qf) (i:Int) (out:List Qf) (h :
 (zif (decide (i<(a.length:Int))) ((((0:Int)≤i∧Int.toNat i<a.length)∧((p_to (α:=Qf) (gtd ((0,[]):Qf) a (Int.toNat i)))∧(((0:Int)≤i∧Int.toNat i<out.length)∧((0+(Int.toNat i))<out.length))))∧(Qch K a (w64 (i+(1:Int))) (List.take out.length ((out).set (0+(Int.toNat i)) ((id (α:=Qf) (gtd ((0,[]):Qf) a (Int.toNat i))).1,(List.take (((id (α:=Qf) (gtd ((0,[]):Qf) a (Int.toNat i))).2).length) (List.drop 0 ((id (α:=Qf) (gtd ((0,[]):Qf) a (Int.toNat i))).2)))))))) (K (YE (List.take out.length out))))):Qch K a i out :=
 Loop.of (by kernel_rfl) h
theorem Quz (a:List Qf) (h :
 (((0:Int)≤(a.length:Int)∧(a.length:Int)≤big)∧(Qch K a 0 (List.take (Int.toNat (a.length:Int)) (List.replicate (Int.toNat (a.length:Int)) ((0:Int),[])))))):Hold (tawp QcM (0+0) Qx0 (TQ 0 0 QlV K) (Qk [(.c (.sl Qv) a)])) :=
 Hold.of (by kernel_rfl) h
theorem Qtr (a:List Qf) (hp:p_to (α:=List Qf) a):TCon Try.prog 126 [(.c (.sl Qv) a)] (YE (id (α:=List Qf) a)):=by
 refine Qp rfl fun hb=>tcg (Γ:=QcM) (n:=23) (sg:=QeS.sg) Qo (TOkL.cons Qr1 TOkL.nil) (by kernel_rfl) (by kernel_rfl) (Quz _ a ?_)
 refine ⟨⟨by omega,by rw [bigI];have:=Q7 hp;omega⟩,?_⟩
 refine YA a (A:=fun ii ll=>Qch (fun r'=>r'=YE (id (α:=List Qf) a)) a ii ll) (Q:=fun z=>YE z=YE (id (α:=List Qf) a)) hp ?_ ?_ rfl
 ·intro k x out hlt hg ho hx hA
  have hw:w64 (((k:Nat):Int)+1)=((k+1:Nat):Int):=by have:=Q7 hp;rw [QN (by omega) (by omega)];omega
  have hlo:k<out.length:=by omega
  refine Qnb (fun r'=>r'=YE (id (α:=List Qf) a)) a ((k:Nat):Int) out ?_
  refine ⟨fun _=>?_,fun h=>absurd h (by simp;omega)⟩
  simp only [Int.toNat_natCast,Nat.zero_add,hg,hw,hlt,hlo,Yi,List.drop_zero,List.take_length,id_eq,and_true,true_and,Int.natCast_nonneg]
  first | exact hA | exact ⟨hx,hA⟩
 ·intro out ho hq
  refine Qnb (fun r'=>r'=YE (id (α:=List Qf) a)) a ((a.length:Nat):Int) out ?_
  refine ⟨fun h=>absurd h (by simp),fun _=>?_⟩
  simp only [List.drop_zero,List.take_length]
  exact hq
theorem Qwz:Qm Try.prog QeS:=Qr fun x h=>Qtr x.1 h
def Qg0 (t:Qg):TRes:=⟨(.a [(zci t.1),(.r Qv 0 0 ((t.2).length))]),[(.sl 39 Qv (.dp 0 true []) t.2)],[],false,[]⟩
def QfM:TRow:=Ql 37 [(.a Qu)] fun x=>(some (p_to (α:=Qg) x.1),Qg0 (id (α:=Qg) x.1))
def QjB:TTab:=⟨[QeS],true⟩
def QwK:TCode :=
 (zsq [(.reg [zop 1 (.box 52 0 2),zop 2 (.new 36 (z0s Qu))]),(.reg [zop 3 (.new 36 (z0s Qu))]),(.reg [zfa 4 1 0,zld 5 4 1,zfa 6 3 0,zst 6 5 1]),(.reg [zfa 7 1 1,zld 8 7 1,zca 9 126 [8],zfa 10 3 1,zst 10 9 1]),(.reg [zLd 11 3 2,zst 2 11 2]),.ret])
def QxL:List (ARv × Md):=[(.l 2 2 true,.b [.d,.p 39])]
theorem QsL (a:Qg) (h :
 ((p_to (α:=List Qf) a.2)∧K (Qg0 (a.1,(List.take ((id (α:=List Qf) a.2).length) (id (α:=List Qf) a.2)))))):Hold (tawp QjB (0+0) QwK (TQ 0 0 QxL K) (Qk [(.a [(.c TI a.1),(.c (.sl Qv) a.2)])])) :=
 Hold.of (by kernel_rfl) h
theorem Qqh (a:Qg) (hp:p_to (α:=Qg) a):TCon Try.prog 37 [(.a [(.c TI a.1),(.c (.sl Qv) a.2)])] (Qg0 (id (α:=Qg) a)):=by
 refine Qp rfl fun hb=>tcg (Γ:=QjB) (n:=12) (sg:=QfM.sg) Qo (TOkL.cons Qwz TOkL.nil) (by kernel_rfl) (by kernel_rfl) (QsL _ a ?_)
 repeat' (first | refine And.intro ?_ ?_ | exact R_eq (by simp))
 all_goals (simp only [p_to,Qw,Qy,QD,List.drop_zero,List.take_length,id_eq] at hp ⊢;omega)
theorem Qyh:Qm Try.prog QfM:=Qr fun x h=>Qqh x.1 h
def YG (t:(List Qg)):TRes:=⟨(.r Qu 0 0 t.length),[(.sl 36 Qu (.dp 0 true []) t)],[],false,[]⟩
def Qfc:TRow:=Ql 170 [(.c (.sl Qu))] fun x=>(some (p_to (α:=List Qg) x.1),YG (id (α:=List Qg) x.1))
def Qb9:TTab:=⟨[QfM],true⟩
def QhS:TCode :=
 (zsq [(zsq [(.reg [zmv 8 4,zmv 9 0,zle 10 9,zbi 11 .lss 8 10]),(.cond 11 .skip (.exit 0))]),(.block 1 (.reg [zmv 14 3,zmv 15 4,zmv 16 0,zmv 17 4,zia 18 16 17 Qu,zLd 19 18 2,zca 20 37 [19],zia 21 14 15 Qu,zst 21 20 2])),(.reg [zmv 12 4,zbi 13 .add 12 (zki 1),zmv 4 13])])
def QmI:List (Nat × Md):=[(0,.one .d),(3,.one .f),(4,.one .d)]
def QnX:TCode :=
 (zsq [(.reg [zmv 22 3,zmv 2 22]),.ret])
def QpW:TCode :=
 (zsq [(.reg [zmv 2 (.k (.n Qu))]),(.reg [zmv 5 0,zle 6 5,zop 7 (.mk 36 Qu (z0s Qu) 6),zmv 3 7]),(zsq [(.reg [zmv 4 (zki 0)]),(.block 0 (.loop QmI QhS))]),QnX])
def Qkk:List (ARv × Md):=[(.t 2,.one (.p 36))]
def QlX:Qb:=TQ 0 0 Qkk K
def QtR:Qb:=Qseq (tawp Qb9 0 QnX (QlX K)) (QlX K)
def Qre:Qb:=Qblk 0 (QtR K)
def QcT (a:List Qg) (i:Int) (out:List Qg):Prop:=Loop Qb9 0 QmI QhS (Qre K) ⟨[(0,(zcs Qu a)),(3,(.r Qu 0 0 out.length)),(4,(zci i))],[(0,(.sl 36 Qu (.dp 0 true []) out))],1⟩
theorem QjL (a:List Qg) (i:Int) (out:List Qg) (h :
 (zif (decide (i<(a.length:Int))) ((((0:Int)≤i∧Int.toNat i<a.length)∧((p_to (α:=Qg) (gtd Za a (Int.toNat i)))∧(((0:Int)≤i∧Int.toNat i<out.length)∧((0+(Int.toNat i))<out.length))))∧(QcT K a (w64 (i+(1:Int))) (List.take out.length ((out).set (0+(Int.toNat i)) ((id (α:=Qg) (gtd Za a (Int.toNat i))).1,(List.take (((id (α:=Qg) (gtd Za a (Int.toNat i))).2).length) (List.drop 0 ((id (α:=Qg) (gtd Za a (Int.toNat i))).2)))))))) (K (YG (List.take out.length out))))):QcT K a i out :=
 Loop.of (by kernel_rfl) h
theorem Qt1 (a:List Qg) (h :
 (((0:Int)≤(a.length:Int)∧(a.length:Int)≤big)∧(QcT K a 0 (List.take (Int.toNat (a.length:Int)) (List.replicate (Int.toNat (a.length:Int)) ((0:Int),[])))))):Hold (tawp Qb9 (0+0) QpW (TQ 0 0 Qkk K) (Qk [(.c (.sl Qu) a)])) :=
 Hold.of (by kernel_rfl) h
theorem QoW (a:List Qg) (hp:p_to (α:=List Qg) a):TCon Try.prog 170 [(.c (.sl Qu) a)] (YG (id (α:=List Qg) a)):=by
 refine Qp rfl fun hb=>tcg (Γ:=Qb9) (n:=23) (sg:=Qfc.sg) Qo (TOkL.cons Qyh TOkL.nil) (by kernel_rfl) (by kernel_rfl) (Qt1 _ a ?_)
 refine ⟨⟨by omega,by rw [bigI];have:=Q7 hp;omega⟩,?_⟩
 refine YA a (A:=fun ii ll=>QcT (fun r'=>r'=YG (id (α:=List Qg) a)) a ii ll) (Q:=fun z=>YG z=YG (id (α:=List Qg) a)) hp ?_ ?_ rfl
 ·intro k x out hlt hg ho hx hA
  have hw:w64 (((k:Nat):Int)+1)=((k+1:Nat):Int):=by have:=Q7 hp;rw [QN (by omega) (by omega)];omega
  have hlo:k<out.length:=by omega
  refine QjL (fun r'=>r'=YG (id (α:=List Qg) a)) a ((k:Nat):Int) out ?_
  refine ⟨fun _=>?_,fun h=>absurd h (by simp;omega)⟩
  simp only [Int.toNat_natCast,Nat.zero_add,hg,hw,hlt,hlo,Yi,List.drop_zero,List.take_length,id_eq,and_true,true_and,Int.natCast_nonneg]
  first | exact hA | exact ⟨hx,hA⟩
 ·intro out ho hq
  refine QjL (fun r'=>r'=YG (id (α:=List Qg) a)) a ((a.length:Nat):Int) out ?_
  refine ⟨fun h=>absurd h (by simp),fun _=>?_⟩
  simp only [List.drop_zero,List.take_length]
  exact hq
theorem Qzz:Qm Try.prog Qfc:=Qr fun x h=>QoW x.1 h
def QaN (t:Bool):TRes:=zre (zcb t)
def QgJ:TRow:=Ql 40 [(.a Qv),(.a Qv)] fun x=>(none,QaN (m_eq (α:=Qf) x.1 x.2.1))
def QjQ:TTab:=⟨[JN],false⟩
def Qw2:TCode :=
 (zsq [(.reg [zop 2 (.box 39 0 2),zop 3 (.box 39 1 2),zmv 4 (zkb false)]),(zsq [(.reg [zfa 5 2 0,zld 6 5 1,zfa 7 3 0,zld 8 7 1,zbi 9 .neq 6 8]),(.cond 9 (zsq [(.reg [zmv 4 (zkb false)]),.ret]) .skip)]),(zsq [(.reg [zfa 10 2 1,zld 11 10 1,zfa 12 3 1,zld 13 12 1,zca 14 66 [11,13],zno 15 14]),(.cond 15 (zsq [(.reg [zmv 4 (zkb false)]),.ret]) .skip)]),(.reg [zmv 4 (zkb true)]),.ret])
def Qpa:List (ARv × Md):=[(.t 4,.one .d)]
theorem Qr9 (a:Qf) (b:Qf) (h :
 (zif (a.1 != b.1) (K (QaN false)) (zif (!(m_eq (α:=List Int) a.2 b.2)) (K (QaN false)) (K (QaN true))))):Hold (tawp QjQ (0+0) Qw2 (TQ 0 0 Qpa K) (Qk [(.a [(.c TI a.1),(.c (.sl [TI]) a.2)]),(.a [(.c TI b.1),(.c (.sl [TI]) b.2)])])) :=
 Hold.of (by kernel_rfl) h
theorem Qvd (a:Qf) (b:Qf):TCon Try.prog 40 [(.a [(.c TI a.1),(.c (.sl [TI]) a.2)]),(.a [(.c TI b.1),(.c (.sl [TI]) b.2)])] (QaN (m_eq (α:=Qf) a b)):=by
 refine Qp rfl fun hb=>tcg (Γ:=QjQ) (n:=16) (sg:=QgJ.sg) Qo (TOkL.cons Qbq TOkL.nil) (by kernel_rfl) (by kernel_rfl) (Qr9 _ a b ?_)
 refine ⟨fun h=>R_eq (Eq.symm (decide_eq_false (by rintro rfl;simp [m_eq] at h))),fun h0=>?_⟩
 refine ⟨fun h=>R_eq (Eq.symm (decide_eq_false (by rintro rfl;simp [m_eq] at h))),fun h1=>?_⟩
 refine R_eq (Eq.symm (decide_eq_true ?_))
 simp [m_eq] at h0 h1
 simp [Prod.ext_iff, *]
theorem QsI:Qm Try.prog QgJ:=Qr fun x _=>Qvd x.1 x.2.1
def JD (t:Bool):TRes:=zre (zcb t)
def Qf0:TRow:=Ql 128 [(.c (.sl Qv)),(.c (.sl Qv))] fun x=>(none,JD (m_eq (α:=List Qf) x.1 x.2.1))
def QcN:TTab:=⟨[QgJ],false⟩
def QhD:TCode :=
 (zsq [(zsq [(.reg [zmv 11 5,zmv 12 0,zle 13 12,zbi 14 .lss 11 13]),(.cond 14 .skip (.exit 0))]),(.block 1 (zsq [(.draw [zmv 17 0,zmv 18 5,zia 19 17 18 Qv,zLd 20 19 2,zmv 21 1,zmv 22 5,zia 23 21 22 Qv,zLd 24 23 2,zca 25 40 [20,24],zno 26 25] []),(.cond 26 (zsq [(.reg [zmv 4 (zkb false)]),.ret]) .skip)])),(.reg [zmv 15 5,zbi 16 .add 15 (zki 1),zmv 5 16])])
def Qmu:List (Nat × Md):=zdl [0,1,5]
def Qh0:TCode :=
 (zsq [(.reg [zmv 4 (zkb true)]),.ret])
def Qve:TCode :=
 (zsq [(.reg [zmv 4 (zkb false)]),(zsq [(.reg [zmv 6 0,zle 7 6,zmv 8 1,zle 9 8,zbi 10 .neq 7 9]),(.cond 10 (zsq [(.reg [zmv 4 (zkb false)]),.ret]) .skip)]),(zsq [(.reg [zmv 5 (zki 0)]),(.block 0 (.loop Qmu QhD))]),Qh0])
def QmG:List (ARv × Md):=[(.t 4,.one .d)]
def QmF:Qb:=TQ 0 0 QmG K
def QtO:Qb:=Qseq (tawp QcN 0 Qh0 (QmF K)) (QmF K)
def QwH:Qb:=Qblk 0 (QtO K)
def QeR (a:List Qf) (b:List Qf) (i:Int):Prop:=Loop QcN 0 Qmu QhD (QwH K) ⟨[(0,(zcs Qv a)),(1,(zcs Qv b)),(5,(zci i))],[],0⟩
theorem QxS (a:List Qf) (b:List Qf) (i:Int) (h :
 (zif (decide (i<(a.length:Int))) ((((0:Int)≤i∧Int.toNat i<a.length)∧((0:Int)≤i∧Int.toNat i<b.length))∧(zif (!(m_eq (α:=Qf) (gtd ((0,[]):Qf) a (Int.toNat i)) (gtd ((0,[]):Qf) b (Int.toNat i)))) (K (JD false)) (QeR K a b (w64 (i+(1:Int)))))) (K (JD true)))):QeR K a b i :=
 Loop.of (by kernel_rfl) h
theorem Qt2 (a:List Qf) (b:List Qf) (h :
 (zif ((a.length:Int) != (b.length:Int)) (K (JD false)) (QeR K a b 0))):Hold (tawp QcN (0+0) Qve (TQ 0 0 QmG K) (Qk [(.c (.sl Qv) a),(.c (.sl Qv) b)])) :=
 Hold.of (by kernel_rfl) h
theorem Qyk (a:List Qf) (b:List Qf):TCon Try.prog 128 [(.c (.sl Qv) a),(.c (.sl Qv) b)] (JD (m_eq (α:=List Qf) a b)):=by
 refine Qp rfl fun hb=>tcg (Γ:=QcN) (n:=27) (sg:=Qf0.sg) Qo (TOkL.cons QsI TOkL.nil) (by kernel_rfl) (by kernel_rfl) (Qt2 _ a b ?_)
 exact Yf ((0,[]):Qf) (E:=m_eq) (fun _ _=>rfl) hb.1.1 (fun i h=>QxS _ a b i h) (Q:=fun x=>JD x=JD (m_eq (α:=List Qf) a b)) rfl
theorem QxG:Qm Try.prog Qf0:=Qr fun x _=>Qyk x.1 x.2.1
def Qbk (t:Bool):TRes:=zre (zcb t)
def Qgv:TRow:=Ql 39 [(.a Qu),(.a Qu)] fun x=>(none,Qbk (m_eq (α:=Qg) x.1 x.2.1))
def Qhh:TTab:=⟨[Qf0],false⟩
def QuD:TCode :=
 (zsq [(.reg [zop 2 (.box 36 0 2),zop 3 (.box 36 1 2),zmv 4 (zkb false)]),(zsq [(.reg [zfa 5 2 0,zld 6 5 1,zfa 7 3 0,zld 8 7 1,zbi 9 .neq 6 8]),(.cond 9 (zsq [(.reg [zmv 4 (zkb false)]),.ret]) .skip)]),(zsq [(.reg [zfa 10 2 1,zld 11 10 1,zfa 12 3 1,zld 13 12 1,zca 14 128 [11,13],zno 15 14]),(.cond 15 (zsq [(.reg [zmv 4 (zkb false)]),.ret]) .skip)]),(.reg [zmv 4 (zkb true)]),.ret])
def Qxn:List (ARv × Md):=[(.t 4,.one .d)]
theorem Qs8 (a:Qg) (b:Qg) (h :
 (zif (a.1 != b.1) (K (Qbk false)) (zif (!(m_eq (α:=List Qf) a.2 b.2)) (K (Qbk false)) (K (Qbk true))))):Hold (tawp Qhh (0+0) QuD (TQ 0 0 Qxn K) (Qk [(.a [(.c TI a.1),(.c (.sl Qv) a.2)]),(.a [(.c TI b.1),(.c (.sl Qv) b.2)])])) :=
 Hold.of (by kernel_rfl) h
theorem QyG (a:Qg) (b:Qg):TCon Try.prog 39 [(.a [(.c TI a.1),(.c (.sl Qv) a.2)]),(.a [(.c TI b.1),(.c (.sl Qv) b.2)])] (Qbk (m_eq (α:=Qg) a b)):=by
 refine Qp rfl fun hb=>tcg (Γ:=Qhh) (n:=16) (sg:=Qgv.sg) Qo (TOkL.cons QxG TOkL.nil) (by kernel_rfl) (by kernel_rfl) (Qs8 _ a b ?_)
 refine ⟨fun h=>R_eq (Eq.symm (decide_eq_false (by rintro rfl;simp [m_eq] at h))),fun h0=>?_⟩
 refine ⟨fun h=>R_eq (Eq.symm (decide_eq_false (by rintro rfl;simp [m_eq] at h))),fun h1=>?_⟩
 refine R_eq (Eq.symm (decide_eq_true ?_))
 simp [m_eq] at h0 h1
 simp [Prod.ext_iff, *]
theorem QyQ:Qm Try.prog Qgv:=Qr fun x _=>QyG x.1 x.2.1
def J2 (t:Bool):TRes:=zre (zcb t)
def Qgn:TRow:=Ql 173 [(.c (.sl Qu)),(.c (.sl Qu))] fun x=>(none,J2 (m_eq (α:=List Qg) x.1 x.2.1))
def QbQ:TTab:=⟨[Qgv],false⟩
def Qkp:TCode :=
 (zsq [(zsq [(.reg [zmv 11 5,zmv 12 0,zle 13 12,zbi 14 .lss 11 13]),(.cond 14 .skip (.exit 0))]),(.block 1 (zsq [(.draw [zmv 17 0,zmv 18 5,zia 19 17 18 Qu,zLd 20 19 2,zmv 21 1,zmv 22 5,zia 23 21 22 Qu,zLd 24 23 2,zca 25 39 [20,24],zno 26 25] []),(.cond 26 (zsq [(.reg [zmv 4 (zkb false)]),.ret]) .skip)])),(.reg [zmv 15 5,zbi 16 .add 15 (zki 1),zmv 5 16])])
def QiU:List (Nat × Md):=zdl [0,1,5]
def Qg3:TCode :=
 (zsq [(.reg [zmv 4 (zkb true)]),.ret])
def QvJ:TCode :=
 (zsq [(.reg [zmv 4 (zkb false)]),(zsq [(.reg [zmv 6 0,zle 7 6,zmv 8 1,zle 9 8,zbi 10 .neq 7 9]),(.cond 10 (zsq [(.reg [zmv 4 (zkb false)]),.ret]) .skip)]),(zsq [(.reg [zmv 5 (zki 0)]),(.block 0 (.loop QiU Qkp))]),Qg3])
def Qg7:List (ARv × Md):=[(.t 4,.one .d)]
def QhW:Qb:=TQ 0 0 Qg7 K
def Qvm:Qb:=Qseq (tawp QbQ 0 Qg3 (QhW K)) (QhW K)
def Qqq:Qb:=Qblk 0 (Qvm K)
def Qd8 (a:List Qg) (b:List Qg) (i:Int):Prop:=Loop QbQ 0 QiU Qkp (Qqq K) ⟨[(0,(zcs Qu a)),(1,(zcs Qu b)),(5,(zci i))],[],0⟩
theorem QqP (a:List Qg) (b:List Qg) (i:Int) (h :
 (zif (decide (i<(a.length:Int))) ((((0:Int)≤i∧Int.toNat i<a.length)∧((0:Int)≤i∧Int.toNat i<b.length))∧(zif (!(m_eq (α:=Qg) (gtd Za a (Int.toNat i)) (gtd Za b (Int.toNat i)))) (K (J2 false)) (Qd8 K a b (w64 (i+(1:Int)))))) (K (J2 true)))):Qd8 K a b i :=
 Loop.of (by kernel_rfl) h
theorem Qtc (a:List Qg) (b:List Qg) (h :
 (zif ((a.length:Int) != (b.length:Int)) (K (J2 false)) (Qd8 K a b 0))):Hold (tawp QbQ (0+0) QvJ (TQ 0 0 Qg7 K) (Qk [(.c (.sl Qu) a),(.c (.sl Qu) b)])) :=
 Hold.of (by kernel_rfl) h
theorem Qyj (a:List Qg) (b:List Qg):TCon Try.prog 173 [(.c (.sl Qu) a),(.c (.sl Qu) b)] (J2 (m_eq (α:=List Qg) a b)):=by
 refine Qp rfl fun hb=>tcg (Γ:=QbQ) (n:=27) (sg:=Qgn.sg) Qo (TOkL.cons QyQ TOkL.nil) (by kernel_rfl) (by kernel_rfl) (Qtc _ a b ?_)
 exact Yf Za (E:=m_eq) (fun _ _=>rfl) hb.1.1 (fun i h=>QqP _ a b i h) (Q:=fun x=>J2 x=J2 (m_eq (α:=List Qg) a b)) rfl
theorem Qw4:Qm Try.prog Qgn:=Qr fun x _=>Qyj x.1 x.2.1
end
end Go.Proofs.Ytephkbajoofeoaa.Am

