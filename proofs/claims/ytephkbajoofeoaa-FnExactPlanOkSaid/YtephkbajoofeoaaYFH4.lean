/- -/
import Derived.Test.YtephkbajoofeoaaYFG8
namespace Go.Proofs.Ytephkbajoofeoaa.Am
open Go Go.RowKit Go.Proofs.Ytephkbajoofeoaa
set_option linter.all false
noncomputable section
variable (K:TRes→Prop)
def ZT (t:Int):TRes:=zre (zci t)
def Qbe:TRow:=Qz 22 [(.c (.sl Qb)),(.c TI)] fun x=>(some (p_sz (α:=List TIns) x.1 x.2.1),ZT (m_sz (α:=List TIns) x.1 x.2.1))
def QeG:List TRow:=[]
def Qft:TCode :=
 (zsq [(.reg [zmv 4 (zki 0)]),(.reg [zmv 5 1,zmv 6 0,zle 7 6,zbi 8 .sub 5 7,zmv 1 8]),(zsq [(.reg [zmv 9 1,zbi 10 .lss 9 (zki 0)]),(.cond 10 (zsq [(.reg [zmv 4 (zki (-1))]),.ret]) .skip)]),(.reg [zmv 11 1,zmv 4 11]),.ret])
def Qfg:List (ARv × Md):=[(.t 4,.one .d)]
theorem Qie (a:List TIns) (left:Int) (h :
 (zif (decide ((w64 (left-(a.length:Int)))<(0:Int))) (K (ZT (-1:Int))) (K (ZT (w64 (left-(a.length:Int))))))):Hold (tawp QeG (0+0) Qft (TQ 0 0 Qfg K) (Qt [(.c (.sl Qb) a),(.c TI left)])) :=
 Hold.of (by kernel_rfl) h
theorem QfH (a:List TIns) (left:Int) (hp:p_sz (α:=List TIns) a left):TCon Try.prog 22 [(.c (.sl Qb) a),(.c TI left)] (ZT (m_sz (α:=List TIns) a left)):=by
 refine QE rfl fun hb=>tcg (n:=12) (sg:=Qbe.sg) QF TOk.nil (by kernel_rfl) (by kernel_rfl) (Qie _ a left ?_)
 exact QeO (Q:=fun x=>ZT x=ZT (m_sz (α:=List TIns) a left)) (fun _=>rfl) hp hb.1.1 rfl
theorem QhD:QB Try.prog Qbe:=QH fun x h=>QfH x.1 x.2.1 h
def QaJ (t:TIns):TRes:=zre (.a [(zci t.1),(zci t.2)])
def QaI:TRow:=Qz 112 [(.a Qb)] fun x=>(some (p_to (α:=TIns) x.1),QaJ (id (α:=TIns) x.1))
def QhL:List TRow:=[]
def Qfo:TCode :=
 (zsq [(.reg [zop 1 (.box 158 0 2),zop 2 (.new 151 (z0s Qb))]),(.reg [zop 3 (.new 151 (z0s Qb))]),(.reg [zfa 4 1 0,zld 5 4 1,zfa 6 3 0,zst 6 5 1]),(.reg [zfa 7 1 1,zld 8 7 1,zfa 9 3 1,zst 9 8 1]),(.reg [zLd 10 3 2,zst 2 10 2]),.ret])
def Qgz:List (ARv × Md):=[(.l 2 2 true,.b [.d,.d])]
theorem QeZ (a:TIns) (h :
 K (QaJ a)):Hold (tawp QhL (0+0) Qfo (TQ 0 0 Qgz K) (Qt [(.a [(.c TI a.1),(.c TI a.2)])])) :=
 Hold.of (by kernel_rfl) h
theorem Qe0 (a:TIns) (hp:p_to (α:=TIns) a):TCon Try.prog 112 [(.a [(.c TI a.1),(.c TI a.2)])] (QaJ (id (α:=TIns) a)):=by
 refine QE rfl fun hb=>tcg (n:=11) (sg:=QaI.sg) QF TOk.nil (by kernel_rfl) (by kernel_rfl) (QeZ _ a ?_)
 exact R_eq rfl
theorem Qis:QB Try.prog QaI:=QH fun x h=>Qe0 x.1 h
def YF (t:(List TIns)):TRes:=zra (zcs Qb t)
def QaO:TRow:=Qz 24 [(.c (.sl Qb))] fun x=>(some (p_to (α:=List TIns) x.1),YF (id (α:=List TIns) x.1))
def J9:List TRow:=[QaI]
def Qew:TCode :=
 (zsq [(zsq [(.reg [zmv 8 4,zmv 9 0,zle 10 9,zbi 11 .lss 8 10]),(.cond 11 .skip (.exit 0))]),(.block 1 (.reg [zmv 14 3,zmv 15 4,zmv 16 0,zmv 17 4,zia 18 16 17 Qb,zLd 19 18 2,zca 20 112 [19],zia 21 14 15 Qb,zst 21 20 2])),(.reg [zmv 12 4,zbi 13 .add 12 (zki 1),zmv 4 13])])
def Qc1:List (Nat × Md):=[(0,.one .d),(3,.one .f),(4,.one .d)]
def Qd1:TCode :=
 (zsq [(.reg [zmv 22 3,zmv 2 22]),.ret])
def QhA:TCode :=
 (zsq [(.reg [zmv 2 (.k (.n Qb))]),(.reg [zmv 5 0,zle 6 5,zop 7 (.mk 151 Qb (z0s Qb) 6),zmv 3 7]),(zsq [(.reg [zmv 4 (zki 0)]),(.block 0 (.loop Qc1 Qew))]),Qd1])
def Qem:List (ARv × Md):=[(.t 2,.one .d)]
def Qeh:Qf:=TQ 0 0 Qem K
def QfF:Qf:=Qseq (tawp J9 0 Qd1 (Qeh K)) (Qeh K)
def Qii:Qf:=Qblk 0 (QfF K)
def J0 (a:List TIns) (i:Int) (out:List TIns):Prop:=Loop J9 0 Qc1 Qew (Qii K) ⟨[(0,(zcs Qb a)),(3,(.r Qb 0 0 out.length)),(4,(zci i))],[(0,(.sl 151 Qb true out))],1⟩
theorem Qfa (a:List TIns) (i:Int) (out:List TIns) (h :
 (zif (decide (i<(a.length:Int))) ((((0:Int)≤i∧Int.toNat i<a.length)∧((p_to (α:=TIns) (gtd dIns a (Int.toNat i)))∧(((0:Int)≤i∧Int.toNat i<out.length)∧((0+(Int.toNat i))<out.length))))∧(J0 K a (w64 (i+(1:Int))) (List.take out.length ((out).set (0+(Int.toNat i)) (id (α:=TIns) (gtd dIns a (Int.toNat i))))))) (K (YF (List.take out.length (List.drop 0 out)))))):J0 K a i out :=
 Loop.of (by kernel_rfl) h
theorem Qf7 (a:List TIns) (h :
 (((0:Int)≤(a.length:Int)∧(a.length:Int)≤big)∧(J0 K a 0 (List.take (Int.toNat (a.length:Int)) (List.replicate (Int.toNat (a.length:Int)) ((0:Int),(0:Int))))))):Hold (tawp J9 (0+0) QhA (TQ 0 0 Qem K) (Qt [(.c (.sl Qb) a)])) :=
 Hold.of (by kernel_rfl) h
theorem QgY (a:List TIns) (hp:p_to (α:=List TIns) a):TCon Try.prog 24 [(.c (.sl Qb) a)] (YF (id (α:=List TIns) a)):=by
 refine QE rfl fun hb=>tcg (n:=23) (sg:=QaO.sg) QF (TOk.cons Qis TOk.nil) (by kernel_rfl) (by kernel_rfl) (Qf7 _ a ?_)
 exact QhQ (Q:=fun x=>YF x=YF (id (α:=List TIns) a)) dIns hp (fun i out h=>Qfa _ a i out h) rfl
theorem QeB:QB Try.prog QaO:=QH fun x h=>QgY x.1 h
def Yv (t:Bool):TRes:=zre (zcb t)
def Qal:TRow:=Qz 109 [(.a Qb),(.a Qb)] fun x=>(none,Yv (m_eq (α:=TIns) x.1 x.2.1))
def QfQ:List TRow:=[]
def QhH:TCode :=
 (zsq [(.reg [zop 2 (.box 151 0 2),zop 3 (.box 151 1 2),zmv 4 (zkb false)]),(zsq [(.reg [zfa 5 2 0,zld 6 5 1,zfa 7 3 0,zld 8 7 1,zbi 9 .neq 6 8]),(.cond 9 (zsq [(.reg [zmv 4 (zkb false)]),.ret]) .skip)]),(zsq [(.reg [zfa 10 2 1,zld 11 10 1,zfa 12 3 1,zld 13 12 1,zbi 14 .neq 11 13]),(.cond 14 (zsq [(.reg [zmv 4 (zkb false)]),.ret]) .skip)]),(.reg [zmv 4 (zkb true)]),.ret])
def QgU:List (ARv × Md):=[(.t 4,.one .d)]
theorem QeE (a:TIns) (b:TIns) (h :
 (zif (a.1 != b.1) (K (Yv false)) (zif (a.2 != b.2) (K (Yv false)) (K (Yv true))))):Hold (tawp QfQ (0+0) QhH (TQ 0 0 QgU K) (Qt [(.a [(.c TI a.1),(.c TI a.2)]),(.a [(.c TI b.1),(.c TI b.2)])])) :=
 Hold.of (by kernel_rfl) h
theorem QgF (a:TIns) (b:TIns):TCon Try.prog 109 [(.a [(.c TI a.1),(.c TI a.2)]),(.a [(.c TI b.1),(.c TI b.2)])] (Yv (m_eq (α:=TIns) a b)):=by
 refine QE rfl fun hb=>tcg (n:=15) (sg:=Qal.sg) QF TOk.nil (by kernel_rfl) (by kernel_rfl) (QeE _ a b ?_)
 refine ⟨fun h=>R_eq (Eq.symm (decide_eq_false (by rintro rfl;simp [m_eq] at h))),fun h0=>?_⟩
 refine ⟨fun h=>R_eq (Eq.symm (decide_eq_false (by rintro rfl;simp [m_eq] at h))),fun h1=>?_⟩
 refine R_eq (Eq.symm (decide_eq_true ?_))
 simp [m_eq] at h0 h1
 simp [Prod.ext_iff, *]
theorem Qgj:QB Try.prog Qal:=QH fun x _=>QgF x.1 x.2.1
def ZD (t:Bool):TRes:=zre (zcb t)
def QaX:TRow:=Qz 19 [(.c (.sl Qb)),(.c (.sl Qb))] fun x=>(none,ZD (m_eq (α:=List TIns) x.1 x.2.1))
def QaS:List TRow:=[Qal]
def Qej:TCode :=
 (zsq [(zsq [(.reg [zmv 11 5,zmv 12 0,zle 13 12,zbi 14 .lss 11 13]),(.cond 14 .skip (.exit 0))]),(.block 1 (zsq [(.draw [zmv 17 0,zmv 18 5,zia 19 17 18 Qb,zLd 20 19 2,zmv 21 1,zmv 22 5,zia 23 21 22 Qb,zLd 24 23 2,zca 25 109 [20,24],zno 26 25] []),(.cond 26 (zsq [(.reg [zmv 4 (zkb false)]),.ret]) .skip)])),(.reg [zmv 15 5,zbi 16 .add 15 (zki 1),zmv 5 16])])
def Qcz:List (Nat × Md):=zdl [0,1,5]
def QbN:TCode :=
 (zsq [(.reg [zmv 4 (zkb true)]),.ret])
def Qht:TCode :=
 (zsq [(.reg [zmv 4 (zkb false)]),(zsq [(.reg [zmv 6 0,zle 7 6,zmv 8 1,zle 9 8,zbi 10 .neq 7 9]),(.cond 10 (zsq [(.reg [zmv 4 (zkb false)]),.ret]) .skip)]),(zsq [(.reg [zmv 5 (zki 0)]),(.block 0 (.loop Qcz Qej))]),QbN])
def Qez:List (ARv × Md):=[(.t 4,.one .d)]
def Qdz:Qf:=TQ 0 0 Qez K
def QiO:Qf:=Qseq (tawp QaS 0 QbN (Qdz K)) (Qdz K)
def QeH:Qf:=Qblk 0 (QiO K)
def JL (a:List TIns) (b:List TIns) (i:Int):Prop:=Loop QaS 0 Qcz Qej (QeH K) ⟨[(0,(zcs Qb a)),(1,(zcs Qb b)),(5,(zci i))],[],0⟩
theorem Qgq (a:List TIns) (b:List TIns) (i:Int) (h :
 (zif (decide (i<(a.length:Int))) ((((0:Int)≤i∧Int.toNat i<a.length)∧((0:Int)≤i∧Int.toNat i<b.length))∧(zif (!(m_eq (α:=TIns) (gtd dIns a (Int.toNat i)) (gtd dIns b (Int.toNat i)))) (K (ZD false)) (JL K a b (w64 (i+(1:Int)))))) (K (ZD true)))):JL K a b i :=
 Loop.of (by kernel_rfl) h
theorem Qiy (a:List TIns) (b:List TIns) (h :
 (zif ((a.length:Int) != (b.length:Int)) (K (ZD false)) (JL K a b 0))):Hold (tawp QaS (0+0) Qht (TQ 0 0 Qez K) (Qt [(.c (.sl Qb) a),(.c (.sl Qb) b)])) :=
 Hold.of (by kernel_rfl) h
theorem QgA (a:List TIns) (b:List TIns):TCon Try.prog 19 [(.c (.sl Qb) a),(.c (.sl Qb) b)] (ZD (m_eq (α:=List TIns) a b)):=by
 refine QE rfl fun hb=>tcg (n:=27) (sg:=QaX.sg) QF (TOk.cons Qgj TOk.nil) (by kernel_rfl) (by kernel_rfl) (Qiy _ a b ?_)
 exact QhC dIns (E:=m_eq) (fun _ _=>rfl) hb.1.1 (fun i h=>Qgq _ a b i h) (Q:=fun x=>ZD x=ZD (m_eq (α:=List TIns) a b)) rfl
theorem Qhi:QB Try.prog QaX:=QH fun x _=>QgA x.1 x.2.1
end
end Go.Proofs.Ytephkbajoofeoaa.Am

