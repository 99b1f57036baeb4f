/- -/
import Derived.Test.YtephkbajoofeoaaWFH1
import Derived.Test.YtephkbajoofeoaaWFGF
namespace Go.Proofs.Ytephkbajoofeoaa.Am
open Go Go.RowKit Go.Proofs.Ytephkbajoofeoaa
set_option linter.all false
noncomputable section
variable (K:TRes→Prop)
def QcA (t:Int):TRes:=zre (zci t)
def Qeu:TRow:=Ql 151 [(.a ctOp),(.c TI)] fun x=>(some (p_sz (α:=TOp') x.1 x.2.1),QcA (m_sz (α:=TOp') x.1 x.2.1))
def Qkj:TTab:=⟨[Je],false⟩
def QyZ:TCode :=
 (zsq [(.reg [zop 2 (.box 186 0 4),zmv 4 (zki 0)]),(.reg [zfa 5 2 3,zld 6 5 1,zmv 7 1,zca 8 124 [6,7],zmv 1 8]),(zsq [(.reg [zmv 9 1,zbi 10 .lss 9 (zki 0)]),(.cond 10 (zsq [(.reg [zmv 4 (zki (-1))]),.ret]) .skip)]),(.reg [zmv 11 1,zmv 4 11]),.ret])
def QoR:List (ARv × Md):=[(.t 4,.one .d)]
theorem QxE (a:TOp') (left:Int) (h :
 ((p_sz (α:=List Int) a.2.2.2 left)∧(zif (decide ((m_sz (α:=List Int) a.2.2.2 left)<(0:Int))) (K (QcA (-1:Int))) (K (QcA (m_sz (α:=List Int) a.2.2.2 left)))))):Hold (tawp Qkj (0+0) QyZ (TQ 0 0 QoR K) (Qk [(.a (Tup.cells ctOp a)),(.c TI left)])) :=
 Hold.of (by kernel_rfl) h
theorem Qrm (a:TOp') (left:Int) (hp:p_sz (α:=TOp') a left):TCon Try.prog 151 [(.a (Tup.cells ctOp a)),(.c TI left)] (QcA (m_sz (α:=TOp') a left)):=by
 refine Qp rfl fun hb=>tcg (Γ:=Qkj) (n:=12) (sg:=Qeu.sg) Qo (TOkL.cons QaE TOkL.nil) (by kernel_rfl) (by kernel_rfl) (QxE _ a left ?_)
 refine ⟨hp,fun h=>R_eq (QU (of_decide_eq_true h) (by first | omega | (simp only [Qw,Qy,QD];omega)) hp.1),fun h=>?_⟩
 exact R_eq (congrArg (QZ · _) (by first | rfl | omega | (simp only [Qw,Qy,QD];omega)))
theorem QuE:Qm Try.prog Qeu:=Qr fun x h=>Qrm x.1 x.2.1 h
def Jq (t:Int):TRes:=zre (zci t)
def QdQ:TRow:=Ql 82 [(.c (.sl ctOp)),(.c TI)] fun x=>(some (p_sz (α:=List TOp') x.1 x.2.1),Jq (m_sz (α:=List TOp') x.1 x.2.1))
def QcJ:TTab:=⟨[Qeu],false⟩
def Qhy:TCode :=
 (zsq [(zsq [(.reg [zmv 12 5,zmv 13 0,zle 14 13,zbi 15 .lss 12 14]),(.cond 15 .skip (.exit 0))]),(.block 1 (zsq [(.reg [zmv 18 0,zmv 19 5,zia 20 18 19 ctOp,zLd 21 20 4,zmv 22 1,zca 23 151 [21,22],zmv 1 23]),(.reg [zmv 24 1,zbi 25 .lss 24 (zki 0)]),(.cond 25 (zsq [(.reg [zmv 4 (zki (-1))]),.ret]) .skip)])),(.reg [zmv 16 5,zbi 17 .add 16 (zki 1),zmv 5 17])])
def QhY:List (Nat × Md):=zdl [0,1,5]
def Qj9:TCode :=
 (zsq [(.reg [zmv 26 1,zmv 4 26]),.ret])
def Qvj:TCode :=
 (zsq [(.reg [zmv 4 (zki 0)]),(.reg [zmv 6 1,zmv 7 0,zle 8 7,zbi 9 .sub 6 8,zmv 1 9]),(zsq [(.reg [zmv 10 1,zbi 11 .lss 10 (zki 0)]),(.cond 11 (zsq [(.reg [zmv 4 (zki (-1))]),.ret]) .skip)]),(zsq [(.reg [zmv 5 (zki 0)]),(.block 0 (.loop QhY Qhy))]),Qj9])
def QiK:List (ARv × Md):=[(.t 4,.one .d)]
def Qj5:Qb:=TQ 0 0 QiK K
def QxZ:Qb:=Qseq (tawp QcJ 0 Qj9 (Qj5 K)) (Qj5 K)
def Qws:Qb:=Qblk 0 (QxZ K)
def Qgq (a:List TOp') (left1:Int) (i:Int):Prop:=Loop QcJ 0 QhY Qhy (Qws K) ⟨[(0,(zcs ctOp a)),(1,(zci left1)),(5,(zci i))],[],0⟩
theorem QoY (a:List TOp') (left1:Int) (i:Int) (h :
 (zif (decide (i<(a.length:Int))) ((((0:Int)≤i∧Int.toNat i<a.length)∧(p_sz (α:=TOp') (gtd dOp a (Int.toNat i)) left1))∧(zif (decide ((m_sz (α:=TOp') (gtd dOp a (Int.toNat i)) left1)<(0:Int))) (K (Jq (-1:Int))) (Qgq K a (m_sz (α:=TOp') (gtd dOp a (Int.toNat i)) left1) (w64 (i+(1:Int)))))) (K (Jq left1)))):Qgq K a left1 i :=
 Loop.of (by kernel_rfl) h
theorem Qry (a:List TOp') (left:Int) (h :
 (zif (decide ((w64 (left-(a.length:Int)))<(0:Int))) (K (Jq (-1:Int))) (Qgq K a (w64 (left-(a.length:Int))) 0))):Hold (tawp QcJ (0+0) Qvj (TQ 0 0 QiK K) (Qk [(.c (.sl ctOp) a),(.c TI left)])) :=
 Hold.of (by kernel_rfl) h
theorem Quc (a:List TOp') (left:Int) (hp:p_sz (α:=List TOp') a left):TCon Try.prog 82 [(.c (.sl ctOp) a),(.c TI left)] (Jq (m_sz (α:=List TOp') a left)):=by
 refine Qp rfl fun hb=>tcg (Γ:=QcJ) (n:=27) (sg:=QdQ.sg) Qo (TOkL.cons QuE TOkL.nil) (by kernel_rfl) (by kernel_rfl) (Qry _ a left ?_)
 exact J3 (Q:=fun x=>Jq x=Jq (m_sz (α:=List TOp') a left)) dOp hp hb.1.1 (fun l i h=>QoY _ a l i h) rfl
theorem Qud:Qm Try.prog QdQ:=Qr fun x h=>Quc x.1 x.2.1 h
def Qd0 (t:TOp'):TRes:=⟨(.a [(zci t.1),(zci t.2.1),(zci t.2.2.1),(.r [TI] 0 0 ((t.2.2.2).length))]),[(.sl 3 [TI] (.dp 0 true []) t.2.2.2)],[],false,[]⟩
def QdH:TRow:=Ql 154 [(.a ctOp)] fun x=>(some (p_to (α:=TOp') x.1),Qd0 (id (α:=TOp') x.1))
def Qio:TTab:=⟨[Jf],true⟩
def Qzw:TCode :=
 (zsq [(.reg [zop 1 (.box 186 0 4),zop 2 (.new 76 (z0s ctOp))]),(.reg [zop 3 (.new 76 (z0s ctOp))]),(.reg [zfa 4 1 0,zld 5 4 1,zfa 6 3 0,zst 6 5 1]),(.reg [zfa 7 1 1,zld 8 7 1,zfa 9 3 1,zst 9 8 1]),(.reg [zfa 10 1 2,zld 11 10 1,zfa 12 3 2,zst 12 11 1]),(.reg [zfa 13 1 3,zld 14 13 1,zca 15 127 [14],zfa 16 3 3,zst 16 15 1]),(.reg [zLd 17 3 4,zst 2 17 4]),.ret])
def QtZ:List (ARv × Md):=[(.l 2 4 true,.b [.d,.d,.d,.p 3])]
theorem QvG (a:TOp') (h :
 ((p_to (α:=List Int) a.2.2.2)∧K (Qd0 (a.1,a.2.1,a.2.2.1,(List.take ((id (α:=List Int) a.2.2.2).length) (id (α:=List Int) a.2.2.2)))))):Hold (tawp Qio (0+0) Qzw (TQ 0 0 QtZ K) (Qk [(.a (Tup.cells ctOp a))])) :=
 Hold.of (by kernel_rfl) h
theorem QwP (a:TOp') (hp:p_to (α:=TOp') a):TCon Try.prog 154 [(.a (Tup.cells ctOp a))] (Qd0 (id (α:=TOp') a)):=by
 refine Qp rfl fun hb=>tcg (Γ:=Qio) (n:=18) (sg:=QdH.sg) Qo (TOkL.cons QaS TOkL.nil) (by kernel_rfl) (by kernel_rfl) (QvG _ a ?_)
 repeat' (first | refine And.intro ?_ ?_ | exact R_eq (by simp))
 all_goals (simp only [p_to,Qw,Qy,QD,List.drop_zero,List.take_length,id_eq] at hp ⊢;omega)
theorem Qwj:Qm Try.prog QdH:=Qr fun x h=>QwP x.1 h
def Y4 (t:(List TOp')):TRes:=⟨(.r ctOp 0 0 t.length),[(.sl 76 ctOp (.dp 0 true []) t)],[],false,[]⟩
def Qgm:TRow:=Ql 84 [(.c (.sl ctOp))] fun x=>(some (p_to (α:=List TOp') x.1),Y4 (id (α:=List TOp') x.1))
def QbZ:TTab:=⟨[QdH],true⟩
def QmE:TCode :=
 (zsq [(zsq [(.reg [zmv 8 4,zmv 9 0,zle 10 9,zbi 11 .lss 8 10]),(.cond 11 .skip (.exit 0))]),(.block 1 (.reg [zmv 14 3,zmv 15 4,zmv 16 0,zmv 17 4,zia 18 16 17 ctOp,zLd 19 18 4,zca 20 154 [19],zia 21 14 15 ctOp,zst 21 20 4])),(.reg [zmv 12 4,zbi 13 .add 12 (zki 1),zmv 4 13])])
def Qhx:List (Nat × Md):=[(0,.one .d),(3,.one .f),(4,.one .d)]
def Qou:TCode :=
 (zsq [(.reg [zmv 22 3,zmv 2 22]),.ret])
def QyS:TCode :=
 (zsq [(.reg [zmv 2 (.k (.n ctOp))]),(.reg [zmv 5 0,zle 6 5,zop 7 (.mk 76 ctOp (z0s ctOp) 6),zmv 3 7]),(zsq [(.reg [zmv 4 (zki 0)]),(.block 0 (.loop Qhx QmE))]),Qou])
def Qjw:List (ARv × Md):=[(.t 2,.one (.p 76))]
def Qnv:Qb:=TQ 0 0 Qjw K
def QsP:Qb:=Qseq (tawp QbZ 0 Qou (Qnv K)) (Qnv K)
def Qqw:Qb:=Qblk 0 (QsP K)
def Qcm (a:List TOp') (i:Int) (out:List TOp'):Prop:=Loop QbZ 0 Qhx QmE (Qqw K) ⟨[(0,(zcs ctOp a)),(3,(.r ctOp 0 0 out.length)),(4,(zci i))],[(0,(.sl 76 ctOp (.dp 0 true []) out))],1⟩
theorem Qho (a:List TOp') (i:Int) (out:List TOp') (h :
 (zif (decide (i<(a.length:Int))) ((((0:Int)≤i∧Int.toNat i<a.length)∧((p_to (α:=TOp') (gtd dOp a (Int.toNat i)))∧(((0:Int)≤i∧Int.toNat i<out.length)∧((0+(Int.toNat i))<out.length))))∧(Qcm K a (w64 (i+(1:Int))) (List.take out.length ((out).set (0+(Int.toNat i)) ((id (α:=TOp') (gtd dOp a (Int.toNat i))).1,(id (α:=TOp') (gtd dOp a (Int.toNat i))).2.1,(id (α:=TOp') (gtd dOp a (Int.toNat i))).2.2.1,(List.take (((id (α:=TOp') (gtd dOp a (Int.toNat i))).2.2.2).length) (List.drop 0 ((id (α:=TOp') (gtd dOp a (Int.toNat i))).2.2.2)))))))) (K (Y4 (List.take out.length out))))):Qcm K a i out :=
 Loop.of (by kernel_rfl) h
theorem Qwm (a:List TOp') (h :
 (((0:Int)≤(a.length:Int)∧(a.length:Int)≤big)∧(Qcm K a 0 (List.take (Int.toNat (a.length:Int)) (List.replicate (Int.toNat (a.length:Int)) ((0:Int),(0:Int),(0:Int),[])))))):Hold (tawp QbZ (0+0) QyS (TQ 0 0 Qjw K) (Qk [(.c (.sl ctOp) a)])) :=
 Hold.of (by kernel_rfl) h
theorem Qvv (a:List TOp') (hp:p_to (α:=List TOp') a):TCon Try.prog 84 [(.c (.sl ctOp) a)] (Y4 (id (α:=List TOp') a)):=by
 refine Qp rfl fun hb=>tcg (Γ:=QbZ) (n:=23) (sg:=Qgm.sg) Qo (TOkL.cons Qwj TOkL.nil) (by kernel_rfl) (by kernel_rfl) (Qwm _ a ?_)
 refine ⟨⟨by omega,by rw [bigI];have:=Q7 hp;omega⟩,?_⟩
 refine YA a (A:=fun ii ll=>Qcm (fun r'=>r'=Y4 (id (α:=List TOp') a)) a ii ll) (Q:=fun z=>Y4 z=Y4 (id (α:=List TOp') a)) hp ?_ ?_ rfl
 ·intro k x out hlt hg ho hx hA
  have hw:w64 (((k:Nat):Int)+1)=((k+1:Nat):Int):=by have:=Q7 hp;rw [QN (by omega) (by omega)];omega
  have hlo:k<out.length:=by omega
  refine Qho (fun r'=>r'=Y4 (id (α:=List TOp') a)) a ((k:Nat):Int) out ?_
  refine ⟨fun _=>?_,fun h=>absurd h (by simp;omega)⟩
  simp only [Int.toNat_natCast,Nat.zero_add,hg,hw,hlt,hlo,Yi,List.drop_zero,List.take_length,id_eq,and_true,true_and,Int.natCast_nonneg]
  first | exact hA | exact ⟨hx,hA⟩
 ·intro out ho hq
  refine Qho (fun r'=>r'=Y4 (id (α:=List TOp') a)) a ((a.length:Nat):Int) out ?_
  refine ⟨fun h=>absurd h (by simp),fun _=>?_⟩
  simp only [List.drop_zero,List.take_length]
  exact hq
theorem Qux:Qm Try.prog Qgm:=Qr fun x h=>Qvv x.1 h
def JF (t:Bool):TRes:=zre (zcb t)
def QdU:TRow:=Ql 159 [(.a ctOp),(.a ctOp)] fun x=>(none,JF (m_eq (α:=TOp') x.1 x.2.1))
def Qop:TTab:=⟨[JN],false⟩
def Qrw:TCode :=
 (zsq [(.reg [zop 2 (.box 76 0 4),zop 3 (.box 76 1 4),zmv 4 (zkb false)]),(zsq [(.reg [zfa 5 2 0,zld 6 5 1,zfa 7 3 0,zld 8 7 1,zbi 9 .neq 6 8]),(.cond 9 (zsq [(.reg [zmv 4 (zkb false)]),.ret]) .skip)]),(zsq [(.reg [zfa 10 2 1,zld 11 10 1,zfa 12 3 1,zld 13 12 1,zbi 14 .neq 11 13]),(.cond 14 (zsq [(.reg [zmv 4 (zkb false)]),.ret]) .skip)]),(zsq [(.reg [zfa 15 2 2,zld 16 15 1,zfa 17 3 2,zld 18 17 1,zbi 19 .neq 16 18]),(.cond 19 (zsq [(.reg [zmv 4 (zkb false)]),.ret]) .skip)]),(zsq [(.reg [zfa 20 2 3,zld 21 20 1,zfa 22 3 3,zld 23 22 1,zca 24 66 [21,23],zno 25 24]),(.cond 25 (zsq [(.reg [zmv 4 (zkb false)]),.ret]) .skip)]),(.reg [zmv 4 (zkb true)]),.ret])
def QwQ:List (ARv × Md):=[(.t 4,.one .d)]
theorem QsC (a:TOp') (b:TOp') (h :
 (zif (a.1 != b.1) (K (JF false)) (zif (a.2.1 != b.2.1) (K (JF false)) (zif (a.2.2.1 != b.2.2.1) (K (JF false)) (zif (!(m_eq (α:=List Int) a.2.2.2 b.2.2.2)) (K (JF false)) (K (JF true))))))):Hold (tawp Qop (0+0) Qrw (TQ 0 0 QwQ K) (Qk [(.a (Tup.cells ctOp a)),(.a (Tup.cells ctOp b))])) :=
 Hold.of (by kernel_rfl) h
theorem QwJ (a:TOp') (b:TOp'):TCon Try.prog 159 [(.a (Tup.cells ctOp a)),(.a (Tup.cells ctOp b))] (JF (m_eq (α:=TOp') a b)):=by
 refine Qp rfl fun hb=>tcg (Γ:=Qop) (n:=26) (sg:=QdU.sg) Qo (TOkL.cons Qbq TOkL.nil) (by kernel_rfl) (by kernel_rfl) (QsC _ a b ?_)
 refine ⟨fun h=>R_eq (Eq.symm (decide_eq_false (by rintro rfl;simp [m_eq] at h))),fun h0=>?_⟩
 refine ⟨fun h=>R_eq (Eq.symm (decide_eq_false (by rintro rfl;simp [m_eq] at h))),fun h1=>?_⟩
 refine ⟨fun h=>R_eq (Eq.symm (decide_eq_false (by rintro rfl;simp [m_eq] at h))),fun h2=>?_⟩
 refine ⟨fun h=>R_eq (Eq.symm (decide_eq_false (by rintro rfl;simp [m_eq] at h))),fun h3=>?_⟩
 refine R_eq (Eq.symm (decide_eq_true ?_))
 simp [m_eq] at h0 h1 h2 h3
 simp [Prod.ext_iff, *]
theorem QsK:Qm Try.prog QdU:=Qr fun x _=>QwJ x.1 x.2.1
def Jx (t:Bool):TRes:=zre (zcb t)
def QgD:TRow:=Ql 87 [(.c (.sl ctOp)),(.c (.sl ctOp))] fun x=>(none,Jx (m_eq (α:=List TOp') x.1 x.2.1))
def Qct:TTab:=⟨[QdU],false⟩
def Qkb:TCode :=
 (zsq [(zsq [(.reg [zmv 11 5,zmv 12 0,zle 13 12,zbi 14 .lss 11 13]),(.cond 14 .skip (.exit 0))]),(.block 1 (zsq [(.draw [zmv 17 0,zmv 18 5,zia 19 17 18 ctOp,zLd 20 19 4,zmv 21 1,zmv 22 5,zia 23 21 22 ctOp,zLd 24 23 4,zca 25 159 [20,24],zno 26 25] []),(.cond 26 (zsq [(.reg [zmv 4 (zkb false)]),.ret]) .skip)])),(.reg [zmv 15 5,zbi 16 .add 15 (zki 1),zmv 5 16])])
def QiL:List (Nat × Md):=zdl [0,1,5]
def Ql8:TCode :=
 (zsq [(.reg [zmv 4 (zkb true)]),.ret])
def Qzt:TCode :=
 (zsq [(.reg [zmv 4 (zkb false)]),(zsq [(.reg [zmv 6 0,zle 7 6,zmv 8 1,zle 9 8,zbi 10 .neq 7 9]),(.cond 10 (zsq [(.reg [zmv 4 (zkb false)]),.ret]) .skip)]),(zsq [(.reg [zmv 5 (zki 0)]),(.block 0 (.loop QiL Qkb))]),Ql8])
def Qla:List (ARv × Md):=[(.t 4,.one .d)]
def Qhs:Qb:=TQ 0 0 Qla K
def QoP:Qb:=Qseq (tawp Qct 0 Ql8 (Qhs K)) (Qhs K)
def Qpe:Qb:=Qblk 0 (QoP K)
def QeA (a:List TOp') (b:List TOp') (i:Int):Prop:=Loop Qct 0 QiL Qkb (Qpe K) ⟨[(0,(zcs ctOp a)),(1,(zcs ctOp b)),(5,(zci i))],[],0⟩
theorem QtE (a:List TOp') (b:List TOp') (i:Int) (h :
 (zif (decide (i<(a.length:Int))) ((((0:Int)≤i∧Int.toNat i<a.length)∧((0:Int)≤i∧Int.toNat i<b.length))∧(zif (!(m_eq (α:=TOp') (gtd dOp a (Int.toNat i)) (gtd dOp b (Int.toNat i)))) (K (Jx false)) (QeA K a b (w64 (i+(1:Int)))))) (K (Jx true)))):QeA K a b i :=
 Loop.of (by kernel_rfl) h
theorem QrI (a:List TOp') (b:List TOp') (h :
 (zif ((a.length:Int) != (b.length:Int)) (K (Jx false)) (QeA K a b 0))):Hold (tawp Qct (0+0) Qzt (TQ 0 0 Qla K) (Qk [(.c (.sl ctOp) a),(.c (.sl ctOp) b)])) :=
 Hold.of (by kernel_rfl) h
theorem QuG (a:List TOp') (b:List TOp'):TCon Try.prog 87 [(.c (.sl ctOp) a),(.c (.sl ctOp) b)] (Jx (m_eq (α:=List TOp') a b)):=by
 refine Qp rfl fun hb=>tcg (Γ:=Qct) (n:=27) (sg:=QgD.sg) Qo (TOkL.cons QsK TOkL.nil) (by kernel_rfl) (by kernel_rfl) (QrI _ a b ?_)
 exact Yf dOp (E:=m_eq) (fun _ _=>rfl) hb.1.1 (fun i h=>QtE _ a b i h) (Q:=fun x=>Jx x=Jx (m_eq (α:=List TOp') a b)) rfl
theorem Qzk:Qm Try.prog QgD:=Qr fun x _=>QuG x.1 x.2.1
end
end Go.Proofs.Ytephkbajoofeoaa.Am

