/- -/
import Derived.Test.YtdplaepmjogjjaaGreatVBH1
import Derived.Test.YtdplaepmjogjjaaGreatVBGF
namespace Go.Proofs.YtdplaepmjogjjaaGreat.Am
open Go Go.RowKit Go.Proofs.YtdplaepmjogjjaaGreat
set_option linter.all false
noncomputable section
variable (K:TRes→Prop)
def QaE (t:Int):TRes:=zre (zci t)
def Qfu:TRow:=Qi 55 [(.c (.sl Qz)),(.c TI)] fun x=>(some (p_sz (α:=List TIns) x.1 x.2.1),QaE (m_sz (α:=List TIns) x.1 x.2.1))
def Qpk:TTab:=⟨[],false⟩
def QES:TCode :=
 (zsq [(.reg [zmv 4 (zki 0)]),(.reg [zmv 5 1,zmv 6 0,zle 7 6,zbi 8 .sub 5 7,zmv 1 8]),(zsq [(.reg [zmv 9 1,zbi 10 .lss 9 (zki 0)]),(.cond 10 (zsq [(.reg [zmv 4 (zki (-1))]),.ret]) .skip)]),(.reg [zmv 11 1,zmv 4 11]),.ret])
def QEZ:List (ARv × Md):=[(.t 4,.one .d)]
theorem QCC (a:List TIns) (left:Int) (h :
 (zif (decide ((w64 (left-(a.length:Int)))<(0:Int))) (K (QaE (-1:Int))) (K (QaE (w64 (left-(a.length:Int))))))):Hold (tawp Qpk (0+0) QES (TQ 0 0 QEZ K) (Qg [(.c (.sl Qz) a),(.c TI left)])) :=
 Hold.of (by kernel_rfl) h
theorem Quv (a:List TIns) (left:Int) (hp:p_sz (α:=List TIns) a left):TCon Tryz.prog 55 [(.c (.sl Qz) a),(.c TI left)] (QaE (m_sz (α:=List TIns) a left)):=by
 refine Qk rfl fun hb=>tcg (Γ:=Qpk) (n:=12) (sg:=Qfu.sg) Ql TOkL.nil (by kernel_rfl) (by kernel_rfl) (QCC _ a left ?_)
 exact QjX (Q:=fun x=>QaE x=QaE (m_sz (α:=List TIns) a left)) (fun _=>rfl) hp hb.1.1 rfl
theorem Qt4:Qj Tryz.prog Qfu:=Qn fun x h=>Quv x.1 x.2.1 h
def Qc2 (t:Int):TRes:=zre (zci t)
def QgA:TRow:=Qi 153 [(.a QB),(.c TI)] fun x=>(some (p_sz (α:=Qr) x.1 x.2.1),Qc2 (m_sz (α:=Qr) x.1 x.2.1))
def Qrh:TTab:=⟨[Qb6],false⟩
def Qzt:TCode :=
 (zsq [(.reg [zop 2 (.box 187 0 2),zmv 4 (zki 0)]),(.reg [zfa 5 2 1,zld 6 5 1,zmv 7 1,zca 8 58 [6,7],zmv 1 8]),(zsq [(.reg [zmv 9 1,zbi 10 .lss 9 (zki 0)]),(.cond 10 (zsq [(.reg [zmv 4 (zki (-1))]),.ret]) .skip)]),(.reg [zmv 11 1,zmv 4 11]),.ret])
def QAt:List (ARv × Md):=[(.t 4,.one .d)]
theorem QtV (a:Qr) (left:Int) (h :
 ((p_sz (α:=List (List Int)) a.2 left)∧(zif (decide ((m_sz (α:=List (List Int)) a.2 left)<(0:Int))) (K (Qc2 (-1:Int))) (K (Qc2 (m_sz (α:=List (List Int)) a.2 left)))))):Hold (tawp Qrh (0+0) Qzt (TQ 0 0 QAt K) (Qg [(.a [(.c TI a.1),(.c (.sl [(.sl [TI])]) a.2)]),(.c TI left)])) :=
 Hold.of (by kernel_rfl) h
theorem Qxx (a:Qr) (left:Int) (hp:p_sz (α:=Qr) a left):TCon Tryz.prog 153 [(.a [(.c TI a.1),(.c (.sl [(.sl [TI])]) a.2)]),(.c TI left)] (Qc2 (m_sz (α:=Qr) a left)):=by
 refine Qk rfl fun hb=>tcg (Γ:=Qrh) (n:=12) (sg:=QgA.sg) Ql (TOkL.cons QiG TOkL.nil) (by kernel_rfl) (by kernel_rfl) (QtV _ a left ?_)
 refine ⟨hp,fun h=>R_eq (Q6 (of_decide_eq_true h) (by first | omega | (simp only [QD,QE,QK];omega)) hp.1),fun h=>?_⟩
 exact R_eq (congrArg (Za · _) (by first | rfl | omega | (simp only [QD,QE,QK];omega)))
theorem QzO:Qj Tryz.prog QgA:=Qn fun x h=>Qxx x.1 x.2.1 h
def Qai (t:Int):TRes:=zre (zci t)
def QfG:TRow:=Qi 57 [(.c (.sl QB)),(.c TI)] fun x=>(some (p_sz (α:=List Qr) x.1 x.2.1),Qai (m_sz (α:=List Qr) x.1 x.2.1))
def Qdm:TTab:=⟨[QgA],false⟩
def Ql7:TCode :=
 (zsq [(zsq [(.reg [zmv 12 5,zmv 13 0,zle 14 13,zbi 15 .lss 12 14]),(.cond 15 .skip (.exit 0))]),(.block 1 (zsq [(.reg [zmv 18 0,zmv 19 5,zia 20 18 19 QB,zLd 21 20 2,zmv 22 1,zca 23 153 [21,22],zmv 1 23]),(.reg [zmv 24 1,zbi 25 .lss 24 (zki 0)]),(.cond 25 (zsq [(.reg [zmv 4 (zki (-1))]),.ret]) .skip)])),(.reg [zmv 16 5,zbi 17 .add 16 (zki 1),zmv 5 17])])
def Qju:List (Nat × Md):=zdl [0,1,5]
def QqY:TCode :=
 (zsq [(.reg [zmv 26 1,zmv 4 26]),.ret])
def QEO:TCode :=
 (zsq [(.reg [zmv 4 (zki 0)]),(.reg [zmv 6 1,zmv 7 0,zle 8 7,zbi 9 .sub 6 8,zmv 1 9]),(zsq [(.reg [zmv 10 1,zbi 11 .lss 10 (zki 0)]),(.cond 11 (zsq [(.reg [zmv 4 (zki (-1))]),.ret]) .skip)]),(zsq [(.reg [zmv 5 (zki 0)]),(.block 0 (.loop Qju Ql7))]),QqY])
def QkM:List (ARv × Md):=[(.t 4,.one .d)]
def QlL:Qb:=TQ 0 0 QkM K
def QxB:Qb:=Qseq (tawp Qdm 0 QqY (QlL K)) (QlL K)
def QEw:Qb:=Qblk 0 (QxB K)
def QiR (a:List Qr) (left1:Int) (i:Int):Prop:=Loop Qdm 0 Qju Ql7 (QEw K) ⟨[(0,(zcs QB a)),(1,(zci left1)),(5,(zci i))],[],0⟩
theorem QBp (a:List Qr) (left1:Int) (i:Int) (h :
 (zif (decide (i<(a.length:Int))) ((((0:Int)≤i∧Int.toNat i<a.length)∧(p_sz (α:=Qr) (gtd QV a (Int.toNat i)) left1))∧(zif (decide ((m_sz (α:=Qr) (gtd QV a (Int.toNat i)) left1)<(0:Int))) (K (Qai (-1:Int))) (QiR K a (m_sz (α:=Qr) (gtd QV a (Int.toNat i)) left1) (w64 (i+(1:Int)))))) (K (Qai left1)))):QiR K a left1 i :=
 Loop.of (by kernel_rfl) h
theorem QvY (a:List Qr) (left:Int) (h :
 (zif (decide ((w64 (left-(a.length:Int)))<(0:Int))) (K (Qai (-1:Int))) (QiR K a (w64 (left-(a.length:Int))) 0))):Hold (tawp Qdm (0+0) QEO (TQ 0 0 QkM K) (Qg [(.c (.sl QB) a),(.c TI left)])) :=
 Hold.of (by kernel_rfl) h
theorem QAZ (a:List Qr) (left:Int) (hp:p_sz (α:=List Qr) a left):TCon Tryz.prog 57 [(.c (.sl QB) a),(.c TI left)] (Qai (m_sz (α:=List Qr) a left)):=by
 refine Qk rfl fun hb=>tcg (Γ:=Qdm) (n:=27) (sg:=QfG.sg) Ql (TOkL.cons QzO TOkL.nil) (by kernel_rfl) (by kernel_rfl) (QvY _ a left ?_)
 exact JM (Q:=fun x=>Qai x=Qai (m_sz (α:=List Qr) a left)) QV hp hb.1.1 (fun l i h=>QBp _ a l i h) rfl
theorem QEo:Qj Tryz.prog QfG:=Qn fun x h=>QAZ x.1 x.2.1 h
def QfN (t:TIns):TRes:=zre (.a [(zci t.1),(zci t.2)])
def Qhx:TRow:=Qi 161 [(.a Qz)] fun x=>(some (p_to (α:=TIns) x.1),QfN (id (α:=TIns) x.1))
def QjD:TTab:=⟨[],true⟩
def QCP:TCode :=
 (zsq [(.reg [zop 1 (.box 195 0 2),zop 2 (.new 175 (z0s Qz))]),(.reg [zop 3 (.new 175 (z0s Qz))]),(.reg [zfa 4 1 0,zld 5 4 1,zfa 6 3 0,zst 6 5 1]),(.reg [zfa 7 1 1,zld 8 7 1,zfa 9 3 1,zst 9 8 1]),(.reg [zLd 10 3 2,zst 2 10 2]),.ret])
def QxQ:List (ARv × Md):=[(.l 2 2 true,.b [.d,.d])]
theorem Qxw (a:TIns) (h :
 K (QfN a)):Hold (tawp QjD (0+0) QCP (TQ 0 0 QxQ K) (Qg [(.a [(.c TI a.1),(.c TI a.2)])])) :=
 Hold.of (by kernel_rfl) h
theorem Quh (a:TIns) (hp:p_to (α:=TIns) a):TCon Tryz.prog 161 [(.a [(.c TI a.1),(.c TI a.2)])] (QfN (id (α:=TIns) a)):=by
 refine Qk rfl fun hb=>tcg (Γ:=QjD) (n:=11) (sg:=Qhx.sg) Ql TOkL.nil (by kernel_rfl) (by kernel_rfl) (Qxw _ a ?_)
 exact R_eq rfl
theorem QsZ:Qj Tryz.prog Qhx:=Qn fun x h=>Quh x.1 h
def JH (t:(List TIns)):TRes:=⟨(.r Qz 0 0 t.length),[(.sl 175 Qz (.dp 0 true []) t)],[],false,[]⟩
def Qgv:TRow:=Qi 65 [(.c (.sl Qz))] fun x=>(some (p_to (α:=List TIns) x.1),JH (id (α:=List TIns) x.1))
def Qdk:TTab:=⟨[Qhx],true⟩
def QpP:TCode :=
 (zsq [(zsq [(.reg [zmv 8 4,zmv 9 0,zle 10 9,zbi 11 .lss 8 10]),(.cond 11 .skip (.exit 0))]),(.block 1 (.reg [zmv 14 3,zmv 15 4,zmv 16 0,zmv 17 4,zia 18 16 17 Qz,zLd 19 18 2,zca 20 161 [19],zia 21 14 15 Qz,zst 21 20 2])),(.reg [zmv 12 4,zbi 13 .add 12 (zki 1),zmv 4 13])])
def Qjt:List (Nat × Md):=[(0,.one .d),(3,.one .f),(4,.one .d)]
def Qoo:TCode :=
 (zsq [(.reg [zmv 22 3,zmv 2 22]),.ret])
def QyB:TCode :=
 (zsq [(.reg [zmv 2 (.k (.n Qz))]),(.reg [zmv 5 0,zle 6 5,zop 7 (.mk 175 Qz (z0s Qz) 6),zmv 3 7]),(zsq [(.reg [zmv 4 (zki 0)]),(.block 0 (.loop Qjt QpP))]),Qoo])
def Qsa:List (ARv × Md):=[(.t 2,.one (.p 175))]
def Qma:Qb:=TQ 0 0 Qsa K
def QFE:Qb:=Qseq (tawp Qdk 0 Qoo (Qma K)) (Qma K)
def QDC:Qb:=Qblk 0 (QFE K)
def QcV (a:List TIns) (i:Int) (out:List TIns):Prop:=Loop Qdk 0 Qjt QpP (QDC K) ⟨[(0,(zcs Qz a)),(3,(.r Qz 0 0 out.length)),(4,(zci i))],[(0,(.sl 175 Qz (.dp 0 true []) out))],1⟩
theorem Qq7 (a:List TIns) (i:Int) (out:List TIns) (h :
 (zif (decide (i<(a.length:Int))) ((((0:Int)≤i∧Int.toNat i<a.length)∧((p_to (α:=TIns) (gtd dIns a (Int.toNat i)))∧(((0:Int)≤i∧Int.toNat i<out.length)∧((0+(Int.toNat i))<out.length))))∧(QcV K a (w64 (i+(1:Int))) (List.take out.length ((out).set (0+(Int.toNat i)) (id (α:=TIns) (gtd dIns a (Int.toNat i))))))) (K (JH (List.take out.length out))))):QcV K a i out :=
 Loop.of (by kernel_rfl) h
theorem Qz7 (a:List TIns) (h :
 (((0:Int)≤(a.length:Int)∧(a.length:Int)≤big)∧(QcV K a 0 (List.take (Int.toNat (a.length:Int)) (List.replicate (Int.toNat (a.length:Int)) ((0:Int),(0:Int))))))):Hold (tawp Qdk (0+0) QyB (TQ 0 0 Qsa K) (Qg [(.c (.sl Qz) a)])) :=
 Hold.of (by kernel_rfl) h
theorem Qvs (a:List TIns) (hp:p_to (α:=List TIns) a):TCon Tryz.prog 65 [(.c (.sl Qz) a)] (JH (id (α:=List TIns) a)):=by
 refine Qk rfl fun hb=>tcg (Γ:=Qdk) (n:=23) (sg:=Qgv.sg) Ql (TOkL.cons QsZ TOkL.nil) (by kernel_rfl) (by kernel_rfl) (Qz7 _ a ?_)
 refine ⟨⟨by omega,by rw [bigI];have:=Zh hp;omega⟩,?_⟩
 refine YW a (A:=fun ii ll=>QcV (fun r'=>r'=JH (id (α:=List TIns) a)) a ii ll) (Q:=fun z=>JH z=JH (id (α:=List TIns) a)) hp ?_ ?_ rfl
 ·intro k x out hlt hg ho hx hA
  have hw:w64 (((k:Nat):Int)+1)=((k+1:Nat):Int):=by have:=Zh hp;rw [Qw (by omega) (by omega)];omega
  have hlo:k<out.length:=by omega
  refine Qq7 (fun r'=>r'=JH (id (α:=List TIns) a)) a ((k:Nat):Int) out ?_
  refine ⟨fun _=>?_,fun h=>absurd h (by simp;omega)⟩
  simp only [Int.toNat_natCast,Nat.zero_add,hg,hw,hlt,hlo,YB,List.drop_zero,List.take_length,id_eq,and_true,true_and,Int.natCast_nonneg]
  first | exact hA | exact ⟨hx,hA⟩
 ·intro out ho hq
  refine Qq7 (fun r'=>r'=JH (id (α:=List TIns) a)) a ((a.length:Nat):Int) out ?_
  refine ⟨fun h=>absurd h (by simp),fun _=>?_⟩
  simp only [List.drop_zero,List.take_length]
  exact hq
theorem Qth:Qj Tryz.prog Qgv:=Qn fun x h=>Qvs x.1 h
def Qgx (t:Qr):TRes:=⟨(.a [(zci t.1),(.r [(.sl [TI])] 0 0 ((t.2).length))]),[(.sl 106 [(.sl [TI])] (.dp 0 true []) t.2)],[],false,[]⟩
def QgU:TRow:=Qi 163 [(.a QB)] fun x=>(some (p_to (α:=Qr) x.1),Qgx (id (α:=Qr) x.1))
def QkY:TTab:=⟨[QbO],true⟩
def QAo:TCode :=
 (zsq [(.reg [zop 1 (.box 187 0 2),zop 2 (.new 108 (z0s QB))]),(.reg [zop 3 (.new 108 (z0s QB))]),(.reg [zfa 4 1 0,zld 5 4 1,zfa 6 3 0,zst 6 5 1]),(.reg [zfa 7 1 1,zld 8 7 1,zca 9 68 [8],zfa 10 3 1,zst 10 9 1]),(.reg [zLd 11 3 2,zst 2 11 2]),.ret])
def QzR:List (ARv × Md):=[(.l 2 2 true,.b [.d,.p 106])]
theorem QBa (a:Qr) (h :
 ((p_to (α:=List (List Int)) a.2)∧K (Qgx (a.1,(List.take ((id (α:=List (List Int)) a.2).length) (id (α:=List (List Int)) a.2)))))):Hold (tawp QkY (0+0) QAo (TQ 0 0 QzR K) (Qg [(.a [(.c TI a.1),(.c (.sl [(.sl [TI])]) a.2)])])) :=
 Hold.of (by kernel_rfl) h
theorem Qwq (a:Qr) (hp:p_to (α:=Qr) a):TCon Tryz.prog 163 [(.a [(.c TI a.1),(.c (.sl [(.sl [TI])]) a.2)])] (Qgx (id (α:=Qr) a)):=by
 refine Qk rfl fun hb=>tcg (Γ:=QkY) (n:=12) (sg:=QgU.sg) Ql (TOkL.cons Qh7 TOkL.nil) (by kernel_rfl) (by kernel_rfl) (QBa _ a ?_)
 repeat' (first | refine And.intro ?_ ?_ | exact R_eq (by simp))
 all_goals (simp only [p_to,QD,QE,QK,List.drop_zero,List.take_length,id_eq] at hp ⊢;omega)
theorem QAs:Qj Tryz.prog QgU:=Qn fun x h=>Qwq x.1 h
def JA (t:(List Qr)):TRes:=⟨(.r QB 0 0 t.length),[(.sl 108 QB (.dp 0 true []) t)],[],false,[]⟩
def Qfz:TRow:=Qi 67 [(.c (.sl QB))] fun x=>(some (p_to (α:=List Qr) x.1),JA (id (α:=List Qr) x.1))
def QcO:TTab:=⟨[QgU],true⟩
def QjF:TCode :=
 (zsq [(zsq [(.reg [zmv 8 4,zmv 9 0,zle 10 9,zbi 11 .lss 8 10]),(.cond 11 .skip (.exit 0))]),(.block 1 (.reg [zmv 14 3,zmv 15 4,zmv 16 0,zmv 17 4,zia 18 16 17 QB,zLd 19 18 2,zca 20 163 [19],zia 21 14 15 QB,zst 21 20 2])),(.reg [zmv 12 4,zbi 13 .add 12 (zki 1),zmv 4 13])])
def Qo5:List (Nat × Md):=[(0,.one .d),(3,.one .f),(4,.one .d)]
def QqZ:TCode :=
 (zsq [(.reg [zmv 22 3,zmv 2 22]),.ret])
def QAp:TCode :=
 (zsq [(.reg [zmv 2 (.k (.n QB))]),(.reg [zmv 5 0,zle 6 5,zop 7 (.mk 108 QB (z0s QB) 6),zmv 3 7]),(zsq [(.reg [zmv 4 (zki 0)]),(.block 0 (.loop Qo5 QjF))]),QqZ])
def Qrc:List (ARv × Md):=[(.t 2,.one (.p 108))]
def Qlu:Qb:=TQ 0 0 Qrc K
def QxO:Qb:=Qseq (tawp QcO 0 QqZ (Qlu K)) (Qlu K)
def Qxc:Qb:=Qblk 0 (QxO K)
def QcW (a:List Qr) (i:Int) (out:List Qr):Prop:=Loop QcO 0 Qo5 QjF (Qxc K) ⟨[(0,(zcs QB a)),(3,(.r QB 0 0 out.length)),(4,(zci i))],[(0,(.sl 108 QB (.dp 0 true []) out))],1⟩
theorem Qn6 (a:List Qr) (i:Int) (out:List Qr) (h :
 (zif (decide (i<(a.length:Int))) ((((0:Int)≤i∧Int.toNat i<a.length)∧((p_to (α:=Qr) (gtd QV a (Int.toNat i)))∧(((0:Int)≤i∧Int.toNat i<out.length)∧((0+(Int.toNat i))<out.length))))∧(QcW K a (w64 (i+(1:Int))) (List.take out.length ((out).set (0+(Int.toNat i)) ((id (α:=Qr) (gtd QV a (Int.toNat i))).1,(List.take (((id (α:=Qr) (gtd QV a (Int.toNat i))).2).length) (List.drop 0 ((id (α:=Qr) (gtd QV a (Int.toNat i))).2)))))))) (K (JA (List.take out.length out))))):QcW K a i out :=
 Loop.of (by kernel_rfl) h
theorem QCa (a:List Qr) (h :
 (((0:Int)≤(a.length:Int)∧(a.length:Int)≤big)∧(QcW K a 0 (List.take (Int.toNat (a.length:Int)) (List.replicate (Int.toNat (a.length:Int)) ((0:Int),[])))))):Hold (tawp QcO (0+0) QAp (TQ 0 0 Qrc K) (Qg [(.c (.sl QB) a)])) :=
 Hold.of (by kernel_rfl) h
theorem QFf (a:List Qr) (hp:p_to (α:=List Qr) a):TCon Tryz.prog 67 [(.c (.sl QB) a)] (JA (id (α:=List Qr) a)):=by
 refine Qk rfl fun hb=>tcg (Γ:=QcO) (n:=23) (sg:=Qfz.sg) Ql (TOkL.cons QAs TOkL.nil) (by kernel_rfl) (by kernel_rfl) (QCa _ a ?_)
 refine ⟨⟨by omega,by rw [bigI];have:=Zh hp;omega⟩,?_⟩
 refine YW a (A:=fun ii ll=>QcW (fun r'=>r'=JA (id (α:=List Qr) a)) a ii ll) (Q:=fun z=>JA z=JA (id (α:=List Qr) a)) hp ?_ ?_ rfl
 ·intro k x out hlt hg ho hx hA
  have hw:w64 (((k:Nat):Int)+1)=((k+1:Nat):Int):=by have:=Zh hp;rw [Qw (by omega) (by omega)];omega
  have hlo:k<out.length:=by omega
  refine Qn6 (fun r'=>r'=JA (id (α:=List Qr) a)) a ((k:Nat):Int) out ?_
  refine ⟨fun _=>?_,fun h=>absurd h (by simp;omega)⟩
  simp only [Int.toNat_natCast,Nat.zero_add,hg,hw,hlt,hlo,YB,List.drop_zero,List.take_length,id_eq,and_true,true_and,Int.natCast_nonneg]
  first | exact hA | exact ⟨hx,hA⟩
 ·intro out ho hq
  refine Qn6 (fun r'=>r'=JA (id (α:=List Qr) a)) a ((a.length:Nat):Int) out ?_
  refine ⟨fun h=>absurd h (by simp),fun _=>?_⟩
  simp only [List.drop_zero,List.take_length]
  exact hq
theorem Qtx:Qj Tryz.prog Qfz:=Qn fun x h=>QFf x.1 h
def Qcs (t:Bool):TRes:=zre (zcb t)
def Qiu:TRow:=Qi 171 [(.a Qz),(.a Qz)] fun x=>(none,Qcs (m_eq (α:=TIns) x.1 x.2.1))
def QrE:TTab:=⟨[],false⟩
def Qwl:TCode :=
 (zsq [(.reg [zop 2 (.box 175 0 2),zop 3 (.box 175 1 2),zmv 4 (zkb false)]),(zsq [(.reg [zfa 5 2 0,zld 6 5 1,zfa 7 3 0,zld 8 7 1,zbi 9 .neq 6 8]),(.cond 9 (zsq [(.reg [zmv 4 (zkb false)]),.ret]) .skip)]),(zsq [(.reg [zfa 10 2 1,zld 11 10 1,zfa 12 3 1,zld 13 12 1,zbi 14 .neq 11 13]),(.cond 14 (zsq [(.reg [zmv 4 (zkb false)]),.ret]) .skip)]),(.reg [zmv 4 (zkb true)]),.ret])
def QEk:List (ARv × Md):=[(.t 4,.one .d)]
theorem Qxb (a:TIns) (b:TIns) (h :
 (zif (a.1 != b.1) (K (Qcs false)) (zif (a.2 != b.2) (K (Qcs false)) (K (Qcs true))))):Hold (tawp QrE (0+0) Qwl (TQ 0 0 QEk K) (Qg [(.a [(.c TI a.1),(.c TI a.2)]),(.a [(.c TI b.1),(.c TI b.2)])])) :=
 Hold.of (by kernel_rfl) h
theorem Qvl (a:TIns) (b:TIns):TCon Tryz.prog 171 [(.a [(.c TI a.1),(.c TI a.2)]),(.a [(.c TI b.1),(.c TI b.2)])] (Qcs (m_eq (α:=TIns) a b)):=by
 refine Qk rfl fun hb=>tcg (Γ:=QrE) (n:=15) (sg:=Qiu.sg) Ql TOkL.nil (by kernel_rfl) (by kernel_rfl) (Qxb _ a b ?_)
 refine ⟨fun h=>R_eq (Eq.symm (decide_eq_false (by rintro rfl;simp [m_eq] at h))),fun h0=>?_⟩
 refine ⟨fun h=>R_eq (Eq.symm (decide_eq_false (by rintro rfl;simp [m_eq] at h))),fun h1=>?_⟩
 refine R_eq (Eq.symm (decide_eq_true ?_))
 simp [m_eq] at h0 h1
 simp [Prod.ext_iff, *]
theorem QzP:Qj Tryz.prog Qiu:=Qn fun x _=>Qvl x.1 x.2.1
def JK (t:Bool):TRes:=zre (zcb t)
def Qhp:TRow:=Qi 75 [(.c (.sl Qz)),(.c (.sl Qz))] fun x=>(none,JK (m_eq (α:=List TIns) x.1 x.2.1))
def Qdo:TTab:=⟨[Qiu],false⟩
def Qqw:TCode :=
 (zsq [(zsq [(.reg [zmv 11 5,zmv 12 0,zle 13 12,zbi 14 .lss 11 13]),(.cond 14 .skip (.exit 0))]),(.block 1 (zsq [(.draw [zmv 17 0,zmv 18 5,zia 19 17 18 Qz,zLd 20 19 2,zmv 21 1,zmv 22 5,zia 23 21 22 Qz,zLd 24 23 2,zca 25 171 [20,24],zno 26 25] []),(.cond 26 (zsq [(.reg [zmv 4 (zkb false)]),.ret]) .skip)])),(.reg [zmv 15 5,zbi 16 .add 15 (zki 1),zmv 5 16])])
def Qok:List (Nat × Md):=zdl [0,1,5]
def Qo9:TCode :=
 (zsq [(.reg [zmv 4 (zkb true)]),.ret])
def QBm:TCode :=
 (zsq [(.reg [zmv 4 (zkb false)]),(zsq [(.reg [zmv 6 0,zle 7 6,zmv 8 1,zle 9 8,zbi 10 .neq 7 9]),(.cond 10 (zsq [(.reg [zmv 4 (zkb false)]),.ret]) .skip)]),(zsq [(.reg [zmv 5 (zki 0)]),(.block 0 (.loop Qok Qqw))]),Qo9])
def QrW:List (ARv × Md):=[(.t 4,.one .d)]
def Qqy:Qb:=TQ 0 0 QrW K
def QFd:Qb:=Qseq (tawp Qdo 0 Qo9 (Qqy K)) (Qqy K)
def Qvc:Qb:=Qblk 0 (QFd K)
def QfR (a:List TIns) (b:List TIns) (i:Int):Prop:=Loop Qdo 0 Qok Qqw (Qvc K) ⟨[(0,(zcs Qz a)),(1,(zcs Qz b)),(5,(zci i))],[],0⟩
theorem QzL (a:List TIns) (b:List TIns) (i:Int) (h :
 (zif (decide (i<(a.length:Int))) ((((0:Int)≤i∧Int.toNat i<a.length)∧((0:Int)≤i∧Int.toNat i<b.length))∧(zif (!(m_eq (α:=TIns) (gtd dIns a (Int.toNat i)) (gtd dIns b (Int.toNat i)))) (K (JK false)) (QfR K a b (w64 (i+(1:Int)))))) (K (JK true)))):QfR K a b i :=
 Loop.of (by kernel_rfl) h
theorem Qz5 (a:List TIns) (b:List TIns) (h :
 (zif ((a.length:Int) != (b.length:Int)) (K (JK false)) (QfR K a b 0))):Hold (tawp Qdo (0+0) QBm (TQ 0 0 QrW K) (Qg [(.c (.sl Qz) a),(.c (.sl Qz) b)])) :=
 Hold.of (by kernel_rfl) h
theorem QEn (a:List TIns) (b:List TIns):TCon Tryz.prog 75 [(.c (.sl Qz) a),(.c (.sl Qz) b)] (JK (m_eq (α:=List TIns) a b)):=by
 refine Qk rfl fun hb=>tcg (Γ:=Qdo) (n:=27) (sg:=Qhp.sg) Ql (TOkL.cons QzP TOkL.nil) (by kernel_rfl) (by kernel_rfl) (Qz5 _ a b ?_)
 exact YH dIns (E:=m_eq) (fun _ _=>rfl) hb.1.1 (fun i h=>QzL _ a b i h) (Q:=fun x=>JK x=JK (m_eq (α:=List TIns) a b)) rfl
theorem Qxq:Qj Tryz.prog Qhp:=Qn fun x _=>QEn x.1 x.2.1
def Qbs (t:Bool):TRes:=zre (zcb t)
def QfX:TRow:=Qi 173 [(.a QB),(.a QB)] fun x=>(none,Qbs (m_eq (α:=Qr) x.1 x.2.1))
def QjZ:TTab:=⟨[Qcc],false⟩
def QvO:TCode :=
 (zsq [(.reg [zop 2 (.box 108 0 2),zop 3 (.box 108 1 2),zmv 4 (zkb false)]),(zsq [(.reg [zfa 5 2 0,zld 6 5 1,zfa 7 3 0,zld 8 7 1,zbi 9 .neq 6 8]),(.cond 9 (zsq [(.reg [zmv 4 (zkb false)]),.ret]) .skip)]),(zsq [(.reg [zfa 10 2 1,zld 11 10 1,zfa 12 3 1,zld 13 12 1,zca 14 78 [11,13],zno 15 14]),(.cond 15 (zsq [(.reg [zmv 4 (zkb false)]),.ret]) .skip)]),(.reg [zmv 4 (zkb true)]),.ret])
def QDm:List (ARv × Md):=[(.t 4,.one .d)]
theorem Qyt (a:Qr) (b:Qr) (h :
 (zif (a.1 != b.1) (K (Qbs false)) (zif (!(m_eq (α:=List (List Int)) a.2 b.2)) (K (Qbs false)) (K (Qbs true))))):Hold (tawp QjZ (0+0) QvO (TQ 0 0 QDm K) (Qg [(.a [(.c TI a.1),(.c (.sl [(.sl [TI])]) a.2)]),(.a [(.c TI b.1),(.c (.sl [(.sl [TI])]) b.2)])])) :=
 Hold.of (by kernel_rfl) h
theorem QDX (a:Qr) (b:Qr):TCon Tryz.prog 173 [(.a [(.c TI a.1),(.c (.sl [(.sl [TI])]) a.2)]),(.a [(.c TI b.1),(.c (.sl [(.sl [TI])]) b.2)])] (Qbs (m_eq (α:=Qr) a b)):=by
 refine Qk rfl fun hb=>tcg (Γ:=QjZ) (n:=16) (sg:=QfX.sg) Ql (TOkL.cons QfH TOkL.nil) (by kernel_rfl) (by kernel_rfl) (Qyt _ a b ?_)
 refine ⟨fun h=>R_eq (Eq.symm (decide_eq_false (by rintro rfl;simp [m_eq] at h))),fun h0=>?_⟩
 refine ⟨fun h=>R_eq (Eq.symm (decide_eq_false (by rintro rfl;simp [m_eq] at h))),fun h1=>?_⟩
 refine R_eq (Eq.symm (decide_eq_true ?_))
 simp [m_eq] at h0 h1
 simp [Prod.ext_iff, *]
theorem Qsd:Qj Tryz.prog QfX:=Qn fun x _=>QDX x.1 x.2.1
def J5 (t:Bool):TRes:=zre (zcb t)
def Qfk:TRow:=Qi 77 [(.c (.sl QB)),(.c (.sl QB))] fun x=>(none,J5 (m_eq (α:=List Qr) x.1 x.2.1))
def QdA:TTab:=⟨[QfX],false⟩
def QlX:TCode :=
 (zsq [(zsq [(.reg [zmv 11 5,zmv 12 0,zle 13 12,zbi 14 .lss 11 13]),(.cond 14 .skip (.exit 0))]),(.block 1 (zsq [(.draw [zmv 17 0,zmv 18 5,zia 19 17 18 QB,zLd 20 19 2,zmv 21 1,zmv 22 5,zia 23 21 22 QB,zLd 24 23 2,zca 25 173 [20,24],zno 26 25] []),(.cond 26 (zsq [(.reg [zmv 4 (zkb false)]),.ret]) .skip)])),(.reg [zmv 15 5,zbi 16 .add 15 (zki 1),zmv 5 16])])
def QlN:List (Nat × Md):=zdl [0,1,5]
def Qpa:TCode :=
 (zsq [(.reg [zmv 4 (zkb true)]),.ret])
def QtT:TCode :=
 (zsq [(.reg [zmv 4 (zkb false)]),(zsq [(.reg [zmv 6 0,zle 7 6,zmv 8 1,zle 9 8,zbi 10 .neq 7 9]),(.cond 10 (zsq [(.reg [zmv 4 (zkb false)]),.ret]) .skip)]),(zsq [(.reg [zmv 5 (zki 0)]),(.block 0 (.loop QlN QlX))]),Qpa])
def QpV:List (ARv × Md):=[(.t 4,.one .d)]
def QmL:Qb:=TQ 0 0 QpV K
def QE4:Qb:=Qseq (tawp QdA 0 Qpa (QmL K)) (QmL K)
def QAb:Qb:=Qblk 0 (QE4 K)
def QgJ (a:List Qr) (b:List Qr) (i:Int):Prop:=Loop QdA 0 QlN QlX (QAb K) ⟨[(0,(zcs QB a)),(1,(zcs QB b)),(5,(zci i))],[],0⟩
theorem QAu (a:List Qr) (b:List Qr) (i:Int) (h :
 (zif (decide (i<(a.length:Int))) ((((0:Int)≤i∧Int.toNat i<a.length)∧((0:Int)≤i∧Int.toNat i<b.length))∧(zif (!(m_eq (α:=Qr) (gtd QV a (Int.toNat i)) (gtd QV b (Int.toNat i)))) (K (J5 false)) (QgJ K a b (w64 (i+(1:Int)))))) (K (J5 true)))):QgJ K a b i :=
 Loop.of (by kernel_rfl) h
theorem QAz (a:List Qr) (b:List Qr) (h :
 (zif ((a.length:Int) != (b.length:Int)) (K (J5 false)) (QgJ K a b 0))):Hold (tawp QdA (0+0) QtT (TQ 0 0 QpV K) (Qg [(.c (.sl QB) a),(.c (.sl QB) b)])) :=
 Hold.of (by kernel_rfl) h
theorem Qwa (a:List Qr) (b:List Qr):TCon Tryz.prog 77 [(.c (.sl QB) a),(.c (.sl QB) b)] (J5 (m_eq (α:=List Qr) a b)):=by
 refine Qk rfl fun hb=>tcg (Γ:=QdA) (n:=27) (sg:=Qfk.sg) Ql (TOkL.cons Qsd TOkL.nil) (by kernel_rfl) (by kernel_rfl) (QAz _ a b ?_)
 exact YH QV (E:=m_eq) (fun _ _=>rfl) hb.1.1 (fun i h=>QAu _ a b i h) (Q:=fun x=>J5 x=J5 (m_eq (α:=List Qr) a b)) rfl
theorem Qto:Qj Tryz.prog Qfk:=Qn fun x _=>Qwa x.1 x.2.1
end
end Go.Proofs.YtdplaepmjogjjaaGreat.Am

