/- -/
import Derived.Test.YtephkbajoofeoaaWCH1
import Derived.Test.YtephkbajoofeoaaWCGF
namespace Go.Proofs.Ytephkbajoofeoaa.Am
open Go Go.RowKit Go.Proofs.Ytephkbajoofeoaa
set_option linter.all false
noncomputable section
variable (K:TRes→Prop)
def JN (t:Int):TRes:=zre (zci t)
def Qf8:TRow:=Qm 22 [(.c (.sl QB)),(.c TI)] fun x=>(some (p_sz (α:=List TIns) x.1 x.2.1),JN (m_sz (α:=List TIns) x.1 x.2.1))
def QhW:TTab:=⟨[],false⟩
def QnN:TCode :=
 (zsq [(.reg [zmv 4 (zki 0)]),(.reg [zmv 5 1,zmv 6 0,zle 7 6,zbi 8 .sub 5 7,zmv 1 8]),(zsq [(.reg [zmv 9 1,zbi 10 .lss 9 (zki 0)]),(.cond 10 (zsq [(.reg [zmv 4 (zki (-1))]),.ret]) .skip)]),(.reg [zmv 11 1,zmv 4 11]),.ret])
def Qo9:List (ARv × Md):=[(.t 4,.one .d)]
theorem QqQ (a:List TIns) (left:Int) (h :
 (zif (decide ((w64 (left-(a.length:Int)))<(0:Int))) (K (JN (-1:Int))) (K (JN (w64 (left-(a.length:Int))))))):Hold (tawp QhW (0+0) QnN (TQ 0 0 Qo9 K) (Ql [(.c (.sl QB) a),(.c TI left)])) :=
 Hold.of (by kernel_rfl) h
theorem Qwx (a:List TIns) (left:Int) (hp:p_sz (α:=List TIns) a left):TCon Try.prog 22 [(.c (.sl QB) a),(.c TI left)] (JN (m_sz (α:=List TIns) a left)):=by
 refine Qq rfl fun hb=>tcg (Γ:=QhW) (n:=12) (sg:=Qf8.sg) Qp TOkL.nil (by kernel_rfl) (by kernel_rfl) (QqQ _ a left ?_)
 exact QmH (Q:=fun x=>JN x=JN (m_sz (α:=List TIns) a left)) (fun _=>rfl) hp hb.1.1 rfl
theorem QsX:Qo Try.prog Qf8:=Qr fun x h=>Qwx x.1 x.2.1 h
def QcK (t:Int):TRes:=zre (zci t)
def Qez:TRow:=Qm 216 [(.a Qz),(.c TI)] fun x=>(some (p_sz (α:=Qj) x.1 x.2.1),QcK (m_sz (α:=Qj) x.1 x.2.1))
def QkB:TTab:=⟨[QaM],false⟩
def Qrn:TCode :=
 (zsq [(.reg [zop 2 (.box 246 0 2),zmv 4 (zki 0)]),(.reg [zfa 5 2 1,zld 6 5 1,zmv 7 1,zca 8 209 [6,7],zmv 1 8]),(zsq [(.reg [zmv 9 1,zbi 10 .lss 9 (zki 0)]),(.cond 10 (zsq [(.reg [zmv 4 (zki (-1))]),.ret]) .skip)]),(.reg [zmv 11 1,zmv 4 11]),.ret])
def QnS:List (ARv × Md):=[(.t 4,.one .d)]
theorem Qrt (a:Qj) (left:Int) (h :
 ((p_sz (α:=List (List Int)) a.2 left)∧(zif (decide ((m_sz (α:=List (List Int)) a.2 left)<(0:Int))) (K (QcK (-1:Int))) (K (QcK (m_sz (α:=List (List Int)) a.2 left)))))):Hold (tawp QkB (0+0) Qrn (TQ 0 0 QnS K) (Ql [(.a [(.c TI a.1),(.c (.sl [(.sl [TI])]) a.2)]),(.c TI left)])) :=
 Hold.of (by kernel_rfl) h
theorem Quu (a:Qj) (left:Int) (hp:p_sz (α:=Qj) a left):TCon Try.prog 216 [(.a [(.c TI a.1),(.c (.sl [(.sl [TI])]) a.2)]),(.c TI left)] (QcK (m_sz (α:=Qj) a left)):=by
 refine Qq rfl fun hb=>tcg (Γ:=QkB) (n:=12) (sg:=Qez.sg) Qp (TOkL.cons Qey TOkL.nil) (by kernel_rfl) (by kernel_rfl) (Qrt _ a left ?_)
 refine ⟨hp,fun h=>R_eq (QT (of_decide_eq_true h) (by first | omega | (simp only [Qx,Qy,QC];omega)) hp.1),fun h=>?_⟩
 exact R_eq (congrArg (QX · _) (by first | rfl | omega | (simp only [Qx,Qy,QC];omega)))
theorem Qo1:Qo Try.prog Qez:=Qr fun x h=>Quu x.1 x.2.1 h
def Y6 (t:Int):TRes:=zre (zci t)
def Qe5:TRow:=Qm 208 [(.c (.sl Qz)),(.c TI)] fun x=>(some (p_sz (α:=List Qj) x.1 x.2.1),Y6 (m_sz (α:=List Qj) x.1 x.2.1))
def Qce:TTab:=⟨[Qez],false⟩
def QmC:TCode :=
 (zsq [(zsq [(.reg [zmv 12 5,zmv 13 0,zle 14 13,zbi 15 .lss 12 14]),(.cond 15 .skip (.exit 0))]),(.block 1 (zsq [(.reg [zmv 18 0,zmv 19 5,zia 20 18 19 Qz,zLd 21 20 2,zmv 22 1,zca 23 216 [21,22],zmv 1 23]),(.reg [zmv 24 1,zbi 25 .lss 24 (zki 0)]),(.cond 25 (zsq [(.reg [zmv 4 (zki (-1))]),.ret]) .skip)])),(.reg [zmv 16 5,zbi 17 .add 16 (zki 1),zmv 5 17])])
def Qjv:List (Nat × Md):=zdl [0,1,5]
def QkX:TCode :=
 (zsq [(.reg [zmv 26 1,zmv 4 26]),.ret])
def QvQ:TCode :=
 (zsq [(.reg [zmv 4 (zki 0)]),(.reg [zmv 6 1,zmv 7 0,zle 8 7,zbi 9 .sub 6 8,zmv 1 9]),(zsq [(.reg [zmv 10 1,zbi 11 .lss 10 (zki 0)]),(.cond 11 (zsq [(.reg [zmv 4 (zki (-1))]),.ret]) .skip)]),(zsq [(.reg [zmv 5 (zki 0)]),(.block 0 (.loop Qjv QmC))]),QkX])
def Qgi:List (ARv × Md):=[(.t 4,.one .d)]
def Qj4:Qb:=TQ 0 0 Qgi K
def Qs7:Qb:=Qseq (tawp Qce 0 QkX (Qj4 K)) (Qj4 K)
def Qqj:Qb:=Qblk 0 (Qs7 K)
def Qfa (a:List Qj) (left1:Int) (i:Int):Prop:=Loop Qce 0 Qjv QmC (Qqj K) ⟨[(0,(zcs Qz a)),(1,(zci left1)),(5,(zci i))],[],0⟩
theorem Qwg (a:List Qj) (left1:Int) (i:Int) (h :
 (zif (decide (i<(a.length:Int))) ((((0:Int)≤i∧Int.toNat i<a.length)∧(p_sz (α:=Qj) (gtd Q4 a (Int.toNat i)) left1))∧(zif (decide ((m_sz (α:=Qj) (gtd Q4 a (Int.toNat i)) left1)<(0:Int))) (K (Y6 (-1:Int))) (Qfa K a (m_sz (α:=Qj) (gtd Q4 a (Int.toNat i)) left1) (w64 (i+(1:Int)))))) (K (Y6 left1)))):Qfa K a left1 i :=
 Loop.of (by kernel_rfl) h
theorem QoA (a:List Qj) (left:Int) (h :
 (zif (decide ((w64 (left-(a.length:Int)))<(0:Int))) (K (Y6 (-1:Int))) (Qfa K a (w64 (left-(a.length:Int))) 0))):Hold (tawp Qce (0+0) QvQ (TQ 0 0 Qgi K) (Ql [(.c (.sl Qz) a),(.c TI left)])) :=
 Hold.of (by kernel_rfl) h
theorem Qwz (a:List Qj) (left:Int) (hp:p_sz (α:=List Qj) a left):TCon Try.prog 208 [(.c (.sl Qz) a),(.c TI left)] (Y6 (m_sz (α:=List Qj) a left)):=by
 refine Qq rfl fun hb=>tcg (Γ:=Qce) (n:=27) (sg:=Qe5.sg) Qp (TOkL.cons Qo1 TOkL.nil) (by kernel_rfl) (by kernel_rfl) (QoA _ a left ?_)
 exact Y3 (Q:=fun x=>Y6 x=Y6 (m_sz (α:=List Qj) a left)) Q4 hp hb.1.1 (fun l i h=>Qwg _ a l i h) rfl
theorem Qpv:Qo Try.prog Qe5:=Qr fun x h=>Qwz x.1 x.2.1 h
def Qet (t:TIns):TRes:=zre (.a [(zci t.1),(zci t.2)])
def Qda:TRow:=Qm 112 [(.a QB)] fun x=>(some (p_to (α:=TIns) x.1),Qet (id (α:=TIns) x.1))
def Qjr:TTab:=⟨[],true⟩
def Qvb:TCode :=
 (zsq [(.reg [zop 1 (.box 158 0 2),zop 2 (.new 151 (z0s QB))]),(.reg [zop 3 (.new 151 (z0s QB))]),(.reg [zfa 4 1 0,zld 5 4 1,zfa 6 3 0,zst 6 5 1]),(.reg [zfa 7 1 1,zld 8 7 1,zfa 9 3 1,zst 9 8 1]),(.reg [zLd 10 3 2,zst 2 10 2]),.ret])
def QuF:List (ARv × Md):=[(.l 2 2 true,.b [.d,.d])]
theorem Qv0 (a:TIns) (h :
 K (Qet a)):Hold (tawp Qjr (0+0) Qvb (TQ 0 0 QuF K) (Ql [(.a [(.c TI a.1),(.c TI a.2)])])) :=
 Hold.of (by kernel_rfl) h
theorem Qux (a:TIns) (hp:p_to (α:=TIns) a):TCon Try.prog 112 [(.a [(.c TI a.1),(.c TI a.2)])] (Qet (id (α:=TIns) a)):=by
 refine Qq rfl fun hb=>tcg (Γ:=Qjr) (n:=11) (sg:=Qda.sg) Qp TOkL.nil (by kernel_rfl) (by kernel_rfl) (Qv0 _ a ?_)
 exact R_eq rfl
theorem Qwr:Qo Try.prog Qda:=Qr fun x h=>Qux x.1 h
def YC (t:(List TIns)):TRes:=⟨(.r QB 0 0 t.length),[(.sl 151 QB (.dp 0 true []) t)],[],false,[]⟩
def QfZ:TRow:=Qm 24 [(.c (.sl QB))] fun x=>(some (p_to (α:=List TIns) x.1),YC (id (α:=List TIns) x.1))
def QbN:TTab:=⟨[Qda],true⟩
def Qiz:TCode :=
 (zsq [(zsq [(.reg [zmv 8 4,zmv 9 0,zle 10 9,zbi 11 .lss 8 10]),(.cond 11 .skip (.exit 0))]),(.block 1 (.reg [zmv 14 3,zmv 15 4,zmv 16 0,zmv 17 4,zia 18 16 17 QB,zLd 19 18 2,zca 20 112 [19],zia 21 14 15 QB,zst 21 20 2])),(.reg [zmv 12 4,zbi 13 .add 12 (zki 1),zmv 4 13])])
def Qjq:List (Nat × Md):=[(0,.one .d),(3,.one .f),(4,.one .d)]
def Qia:TCode :=
 (zsq [(.reg [zmv 22 3,zmv 2 22]),.ret])
def Qvr:TCode :=
 (zsq [(.reg [zmv 2 (.k (.n QB))]),(.reg [zmv 5 0,zle 6 5,zop 7 (.mk 151 QB (z0s QB) 6),zmv 3 7]),(zsq [(.reg [zmv 4 (zki 0)]),(.block 0 (.loop Qjq Qiz))]),Qia])
def Qgo:List (ARv × Md):=[(.t 2,.one (.p 151))]
def Qlk:Qb:=TQ 0 0 Qgo K
def Qo6:Qb:=Qseq (tawp QbN 0 Qia (Qlk K)) (Qlk K)
def Qtb:Qb:=Qblk 0 (Qo6 K)
def Qb1 (a:List TIns) (i:Int) (out:List TIns):Prop:=Loop QbN 0 Qjq Qiz (Qtb K) ⟨[(0,(zcs QB a)),(3,(.r QB 0 0 out.length)),(4,(zci i))],[(0,(.sl 151 QB (.dp 0 true []) out))],1⟩
theorem Qgn (a:List TIns) (i:Int) (out:List TIns) (h :
 (zif (decide (i<(a.length:Int))) ((((0:Int)≤i∧Int.toNat i<a.length)∧((p_to (α:=TIns) (gtd dIns a (Int.toNat i)))∧(((0:Int)≤i∧Int.toNat i<out.length)∧((0+(Int.toNat i))<out.length))))∧(Qb1 K a (w64 (i+(1:Int))) (List.take out.length ((out).set (0+(Int.toNat i)) (id (α:=TIns) (gtd dIns a (Int.toNat i))))))) (K (YC (List.take out.length out))))):Qb1 K a i out :=
 Loop.of (by kernel_rfl) h
theorem QoN (a:List TIns) (h :
 (((0:Int)≤(a.length:Int)∧(a.length:Int)≤big)∧(Qb1 K a 0 (List.take (Int.toNat (a.length:Int)) (List.replicate (Int.toNat (a.length:Int)) ((0:Int),(0:Int))))))):Hold (tawp QbN (0+0) Qvr (TQ 0 0 Qgo K) (Ql [(.c (.sl QB) a)])) :=
 Hold.of (by kernel_rfl) h
theorem QtZ (a:List TIns) (hp:p_to (α:=List TIns) a):TCon Try.prog 24 [(.c (.sl QB) a)] (YC (id (α:=List TIns) a)):=by
 refine Qq rfl fun hb=>tcg (Γ:=QbN) (n:=23) (sg:=QfZ.sg) Qp (TOkL.cons Qwr TOkL.nil) (by kernel_rfl) (by kernel_rfl) (QoN _ a ?_)
 refine ⟨⟨by omega,by rw [bigI];have:=Q3 hp;omega⟩,?_⟩
 refine Yh a (A:=fun ii ll=>Qb1 (fun r'=>r'=YC (id (α:=List TIns) a)) a ii ll) (Q:=fun z=>YC z=YC (id (α:=List TIns) a)) hp ?_ ?_ rfl
 ·intro k x out hlt hg ho hx hA
  have hw:w64 (((k:Nat):Int)+1)=((k+1:Nat):Int):=by have:=Q3 hp;rw [QO (by omega) (by omega)];omega
  have hlo:k<out.length:=by omega
  refine Qgn (fun r'=>r'=YC (id (α:=List TIns) a)) a ((k:Nat):Int) out ?_
  refine ⟨fun _=>?_,fun h=>absurd h (by simp;omega)⟩
  simp only [Int.toNat_natCast,Nat.zero_add,hg,hw,hlt,hlo,Z2,List.drop_zero,List.take_length,id_eq,and_true,true_and,Int.natCast_nonneg]
  first | exact hA | exact ⟨hx,hA⟩
 ·intro out ho hq
  refine Qgn (fun r'=>r'=YC (id (α:=List TIns) a)) a ((a.length:Nat):Int) out ?_
  refine ⟨fun h=>absurd h (by simp),fun _=>?_⟩
  simp only [List.drop_zero,List.take_length]
  exact hq
theorem Qwf:Qo Try.prog QfZ:=Qr fun x h=>QtZ x.1 h
def Qel (t:Qj):TRes:=⟨(.a [(zci t.1),(.r [(.sl [TI])] 0 0 ((t.2).length))]),[(.sl 91 [(.sl [TI])] (.dp 0 true []) t.2)],[],false,[]⟩
def Qdj:TRow:=Qm 218 [(.a Qz)] fun x=>(some (p_to (α:=Qj) x.1),Qel (id (α:=Qj) x.1))
def QjI:TTab:=⟨[Qas],true⟩
def QuO:TCode :=
 (zsq [(.reg [zop 1 (.box 246 0 2),zop 2 (.new 218 (z0s Qz))]),(.reg [zop 3 (.new 218 (z0s Qz))]),(.reg [zfa 4 1 0,zld 5 4 1,zfa 6 3 0,zst 6 5 1]),(.reg [zfa 7 1 1,zld 8 7 1,zca 9 212 [8],zfa 10 3 1,zst 10 9 1]),(.reg [zLd 11 3 2,zst 2 11 2]),.ret])
def QoM:List (ARv × Md):=[(.l 2 2 true,.b [.d,.p 91])]
theorem Qtn (a:Qj) (h :
 ((p_to (α:=List (List Int)) a.2)∧K (Qel (a.1,(List.take ((id (α:=List (List Int)) a.2).length) (id (α:=List (List Int)) a.2)))))):Hold (tawp QjI (0+0) QuO (TQ 0 0 QoM K) (Ql [(.a [(.c TI a.1),(.c (.sl [(.sl [TI])]) a.2)])])) :=
 Hold.of (by kernel_rfl) h
theorem Qv4 (a:Qj) (hp:p_to (α:=Qj) a):TCon Try.prog 218 [(.a [(.c TI a.1),(.c (.sl [(.sl [TI])]) a.2)])] (Qel (id (α:=Qj) a)):=by
 refine Qq rfl fun hb=>tcg (Γ:=QjI) (n:=12) (sg:=Qdj.sg) Qp (TOkL.cons QeK TOkL.nil) (by kernel_rfl) (by kernel_rfl) (Qtn _ a ?_)
 repeat' (first | refine And.intro ?_ ?_ | exact R_eq (by simp))
 all_goals (simp only [p_to,Qx,Qy,QC,List.drop_zero,List.take_length,id_eq] at hp ⊢;omega)
theorem QuC:Qo Try.prog Qdj:=Qr fun x h=>Qv4 x.1 h
def YI (t:(List Qj)):TRes:=⟨(.r Qz 0 0 t.length),[(.sl 218 Qz (.dp 0 true []) t)],[],false,[]⟩
def QeW:TRow:=Qm 211 [(.c (.sl Qz))] fun x=>(some (p_to (α:=List Qj) x.1),YI (id (α:=List Qj) x.1))
def Qb7:TTab:=⟨[Qdj],true⟩
def QjL:TCode :=
 (zsq [(zsq [(.reg [zmv 8 4,zmv 9 0,zle 10 9,zbi 11 .lss 8 10]),(.cond 11 .skip (.exit 0))]),(.block 1 (.reg [zmv 14 3,zmv 15 4,zmv 16 0,zmv 17 4,zia 18 16 17 Qz,zLd 19 18 2,zca 20 218 [19],zia 21 14 15 Qz,zst 21 20 2])),(.reg [zmv 12 4,zbi 13 .add 12 (zki 1),zmv 4 13])])
def QkA:List (Nat × Md):=[(0,.one .d),(3,.one .f),(4,.one .d)]
def Qmh:TCode :=
 (zsq [(.reg [zmv 22 3,zmv 2 22]),.ret])
def Qqm:TCode :=
 (zsq [(.reg [zmv 2 (.k (.n Qz))]),(.reg [zmv 5 0,zle 6 5,zop 7 (.mk 218 Qz (z0s Qz) 6),zmv 3 7]),(zsq [(.reg [zmv 4 (zki 0)]),(.block 0 (.loop QkA QjL))]),Qmh])
def Qis:List (ARv × Md):=[(.t 2,.one (.p 218))]
def Qla:Qb:=TQ 0 0 Qis K
def Qrc:Qb:=Qseq (tawp Qb7 0 Qmh (Qla K)) (Qla K)
def QuU:Qb:=Qblk 0 (Qrc K)
def QbQ (a:List Qj) (i:Int) (out:List Qj):Prop:=Loop Qb7 0 QkA QjL (QuU K) ⟨[(0,(zcs Qz a)),(3,(.r Qz 0 0 out.length)),(4,(zci i))],[(0,(.sl 218 Qz (.dp 0 true []) out))],1⟩
theorem QiW (a:List Qj) (i:Int) (out:List Qj) (h :
 (zif (decide (i<(a.length:Int))) ((((0:Int)≤i∧Int.toNat i<a.length)∧((p_to (α:=Qj) (gtd Q4 a (Int.toNat i)))∧(((0:Int)≤i∧Int.toNat i<out.length)∧((0+(Int.toNat i))<out.length))))∧(QbQ K a (w64 (i+(1:Int))) (List.take out.length ((out).set (0+(Int.toNat i)) ((id (α:=Qj) (gtd Q4 a (Int.toNat i))).1,(List.take (((id (α:=Qj) (gtd Q4 a (Int.toNat i))).2).length) (List.drop 0 ((id (α:=Qj) (gtd Q4 a (Int.toNat i))).2)))))))) (K (YI (List.take out.length out))))):QbQ K a i out :=
 Loop.of (by kernel_rfl) h
theorem Qo7 (a:List Qj) (h :
 (((0:Int)≤(a.length:Int)∧(a.length:Int)≤big)∧(QbQ K a 0 (List.take (Int.toNat (a.length:Int)) (List.replicate (Int.toNat (a.length:Int)) ((0:Int),[])))))):Hold (tawp Qb7 (0+0) Qqm (TQ 0 0 Qis K) (Ql [(.c (.sl Qz) a)])) :=
 Hold.of (by kernel_rfl) h
theorem Qph (a:List Qj) (hp:p_to (α:=List Qj) a):TCon Try.prog 211 [(.c (.sl Qz) a)] (YI (id (α:=List Qj) a)):=by
 refine Qq rfl fun hb=>tcg (Γ:=Qb7) (n:=23) (sg:=QeW.sg) Qp (TOkL.cons QuC TOkL.nil) (by kernel_rfl) (by kernel_rfl) (Qo7 _ a ?_)
 refine ⟨⟨by omega,by rw [bigI];have:=Q3 hp;omega⟩,?_⟩
 refine Yh a (A:=fun ii ll=>QbQ (fun r'=>r'=YI (id (α:=List Qj) a)) a ii ll) (Q:=fun z=>YI z=YI (id (α:=List Qj) a)) hp ?_ ?_ rfl
 ·intro k x out hlt hg ho hx hA
  have hw:w64 (((k:Nat):Int)+1)=((k+1:Nat):Int):=by have:=Q3 hp;rw [QO (by omega) (by omega)];omega
  have hlo:k<out.length:=by omega
  refine QiW (fun r'=>r'=YI (id (α:=List Qj) a)) a ((k:Nat):Int) out ?_
  refine ⟨fun _=>?_,fun h=>absurd h (by simp;omega)⟩
  simp only [Int.toNat_natCast,Nat.zero_add,hg,hw,hlt,hlo,Z2,List.drop_zero,List.take_length,id_eq,and_true,true_and,Int.natCast_nonneg]
  first | exact hA | exact ⟨hx,hA⟩
 ·intro out ho hq
  refine QiW (fun r'=>r'=YI (id (α:=List Qj) a)) a ((a.length:Nat):Int) out ?_
  refine ⟨fun h=>absurd h (by simp),fun _=>?_⟩
  simp only [List.drop_zero,List.take_length]
  exact hq
theorem Qv5:Qo Try.prog QeW:=Qr fun x h=>Qph x.1 h
def Qa4 (t:Bool):TRes:=zre (zcb t)
def Qfp:TRow:=Qm 109 [(.a QB),(.a QB)] fun x=>(none,Qa4 (m_eq (α:=TIns) x.1 x.2.1))
def QiS:TTab:=⟨[],false⟩
def Qq7:TCode :=
 (zsq [(.reg [zop 2 (.box 151 0 2),zop 3 (.box 151 1 2),zmv 4 (zkb false)]),(zsq [(.reg [zfa 5 2 0,zld 6 5 1,zfa 7 3 0,zld 8 7 1,zbi 9 .neq 6 8]),(.cond 9 (zsq [(.reg [zmv 4 (zkb false)]),.ret]) .skip)]),(zsq [(.reg [zfa 10 2 1,zld 11 10 1,zfa 12 3 1,zld 13 12 1,zbi 14 .neq 11 13]),(.cond 14 (zsq [(.reg [zmv 4 (zkb false)]),.ret]) .skip)]),(.reg [zmv 4 (zkb true)]),.ret])
def Qp8:List (ARv × Md):=[(.t 4,.one .d)]
theorem QsZ (a:TIns) (b:TIns) (h :
 (zif (a.1 != b.1) (K (Qa4 false)) (zif (a.2 != b.2) (K (Qa4 false)) (K (Qa4 true))))):Hold (tawp QiS (0+0) Qq7 (TQ 0 0 Qp8 K) (Ql [(.a [(.c TI a.1),(.c TI a.2)]),(.a [(.c TI b.1),(.c TI b.2)])])) :=
 Hold.of (by kernel_rfl) h
theorem Qur (a:TIns) (b:TIns):TCon Try.prog 109 [(.a [(.c TI a.1),(.c TI a.2)]),(.a [(.c TI b.1),(.c TI b.2)])] (Qa4 (m_eq (α:=TIns) a b)):=by
 refine Qq rfl fun hb=>tcg (Γ:=QiS) (n:=15) (sg:=Qfp.sg) Qp TOkL.nil (by kernel_rfl) (by kernel_rfl) (QsZ _ a b ?_)
 refine ⟨fun h=>R_eq (Eq.symm (decide_eq_false (by rintro rfl;simp [m_eq] at h))),fun h0=>?_⟩
 refine ⟨fun h=>R_eq (Eq.symm (decide_eq_false (by rintro rfl;simp [m_eq] at h))),fun h1=>?_⟩
 refine R_eq (Eq.symm (decide_eq_true ?_))
 simp [m_eq] at h0 h1
 simp [Prod.ext_iff, *]
theorem Qqz:Qo Try.prog Qfp:=Qr fun x _=>Qur x.1 x.2.1
def Jz (t:Bool):TRes:=zre (zcb t)
def Qeg:TRow:=Qm 19 [(.c (.sl QB)),(.c (.sl QB))] fun x=>(none,Jz (m_eq (α:=List TIns) x.1 x.2.1))
def QbG:TTab:=⟨[Qfp],false⟩
def QhV:TCode :=
 (zsq [(zsq [(.reg [zmv 11 5,zmv 12 0,zle 13 12,zbi 14 .lss 11 13]),(.cond 14 .skip (.exit 0))]),(.block 1 (zsq [(.draw [zmv 17 0,zmv 18 5,zia 19 17 18 QB,zLd 20 19 2,zmv 21 1,zmv 22 5,zia 23 21 22 QB,zLd 24 23 2,zca 25 109 [20,24],zno 26 25] []),(.cond 26 (zsq [(.reg [zmv 4 (zkb false)]),.ret]) .skip)])),(.reg [zmv 15 5,zbi 16 .add 15 (zki 1),zmv 5 16])])
def QiX:List (Nat × Md):=zdl [0,1,5]
def Qmv:TCode :=
 (zsq [(.reg [zmv 4 (zkb true)]),.ret])
def Qrj:TCode :=
 (zsq [(.reg [zmv 4 (zkb false)]),(zsq [(.reg [zmv 6 0,zle 7 6,zmv 8 1,zle 9 8,zbi 10 .neq 7 9]),(.cond 10 (zsq [(.reg [zmv 4 (zkb false)]),.ret]) .skip)]),(zsq [(.reg [zmv 5 (zki 0)]),(.block 0 (.loop QiX QhV))]),Qmv])
def QkZ:List (ARv × Md):=[(.t 4,.one .d)]
def QkF:Qb:=TQ 0 0 QkZ K
def Qs3:Qb:=Qseq (tawp QbG 0 Qmv (QkF K)) (QkF K)
def Qqb:Qb:=Qblk 0 (Qs3 K)
def QfT (a:List TIns) (b:List TIns) (i:Int):Prop:=Loop QbG 0 QiX QhV (Qqb K) ⟨[(0,(zcs QB a)),(1,(zcs QB b)),(5,(zci i))],[],0⟩
theorem Qrg (a:List TIns) (b:List TIns) (i:Int) (h :
 (zif (decide (i<(a.length:Int))) ((((0:Int)≤i∧Int.toNat i<a.length)∧((0:Int)≤i∧Int.toNat i<b.length))∧(zif (!(m_eq (α:=TIns) (gtd dIns a (Int.toNat i)) (gtd dIns b (Int.toNat i)))) (K (Jz false)) (QfT K a b (w64 (i+(1:Int)))))) (K (Jz true)))):QfT K a b i :=
 Loop.of (by kernel_rfl) h
theorem Qn9 (a:List TIns) (b:List TIns) (h :
 (zif ((a.length:Int) != (b.length:Int)) (K (Jz false)) (QfT K a b 0))):Hold (tawp QbG (0+0) Qrj (TQ 0 0 QkZ K) (Ql [(.c (.sl QB) a),(.c (.sl QB) b)])) :=
 Hold.of (by kernel_rfl) h
theorem Qw1 (a:List TIns) (b:List TIns):TCon Try.prog 19 [(.c (.sl QB) a),(.c (.sl QB) b)] (Jz (m_eq (α:=List TIns) a b)):=by
 refine Qq rfl fun hb=>tcg (Γ:=QbG) (n:=27) (sg:=Qeg.sg) Qp (TOkL.cons Qqz TOkL.nil) (by kernel_rfl) (by kernel_rfl) (Qn9 _ a b ?_)
 exact Yf dIns (E:=m_eq) (fun _ _=>rfl) hb.1.1 (fun i h=>Qrg _ a b i h) (Q:=fun x=>Jz x=Jz (m_eq (α:=List TIns) a b)) rfl
theorem Qn7:Qo Try.prog Qeg:=Qr fun x _=>Qw1 x.1 x.2.1
def Qa1 (t:Bool):TRes:=zre (zcb t)
def Qdc:TRow:=Qm 195 [(.a Qz),(.a Qz)] fun x=>(none,Qa1 (m_eq (α:=Qj) x.1 x.2.1))
def Qie:TTab:=⟨[QaB],false⟩
def QtK:TCode :=
 (zsq [(.reg [zop 2 (.box 218 0 2),zop 3 (.box 218 1 2),zmv 4 (zkb false)]),(zsq [(.reg [zfa 5 2 0,zld 6 5 1,zfa 7 3 0,zld 8 7 1,zbi 9 .neq 6 8]),(.cond 9 (zsq [(.reg [zmv 4 (zkb false)]),.ret]) .skip)]),(zsq [(.reg [zfa 10 2 1,zld 11 10 1,zfa 12 3 1,zld 13 12 1,zca 14 158 [11,13],zno 15 14]),(.cond 15 (zsq [(.reg [zmv 4 (zkb false)]),.ret]) .skip)]),(.reg [zmv 4 (zkb true)]),.ret])
def QtS:List (ARv × Md):=[(.t 4,.one .d)]
theorem QrL (a:Qj) (b:Qj) (h :
 (zif (a.1 != b.1) (K (Qa1 false)) (zif (!(m_eq (α:=List (List Int)) a.2 b.2)) (K (Qa1 false)) (K (Qa1 true))))):Hold (tawp Qie (0+0) QtK (TQ 0 0 QtS K) (Ql [(.a [(.c TI a.1),(.c (.sl [(.sl [TI])]) a.2)]),(.a [(.c TI b.1),(.c (.sl [(.sl [TI])]) b.2)])])) :=
 Hold.of (by kernel_rfl) h
theorem Qqf (a:Qj) (b:Qj):TCon Try.prog 195 [(.a [(.c TI a.1),(.c (.sl [(.sl [TI])]) a.2)]),(.a [(.c TI b.1),(.c (.sl [(.sl [TI])]) b.2)])] (Qa1 (m_eq (α:=Qj) a b)):=by
 refine Qq rfl fun hb=>tcg (Γ:=Qie) (n:=16) (sg:=Qdc.sg) Qp (TOkL.cons QeL TOkL.nil) (by kernel_rfl) (by kernel_rfl) (QrL _ a b ?_)
 refine ⟨fun h=>R_eq (Eq.symm (decide_eq_false (by rintro rfl;simp [m_eq] at h))),fun h0=>?_⟩
 refine ⟨fun h=>R_eq (Eq.symm (decide_eq_false (by rintro rfl;simp [m_eq] at h))),fun h1=>?_⟩
 refine R_eq (Eq.symm (decide_eq_true ?_))
 simp [m_eq] at h0 h1
 simp [Prod.ext_iff, *]
theorem Qwl:Qo Try.prog Qdc:=Qr fun x _=>Qqf x.1 x.2.1
def JE (t:Bool):TRes:=zre (zcb t)
def Qdt:TRow:=Qm 157 [(.c (.sl Qz)),(.c (.sl Qz))] fun x=>(none,JE (m_eq (α:=List Qj) x.1 x.2.1))
def QcU:TTab:=⟨[Qdc],false⟩
def Qi4:TCode :=
 (zsq [(zsq [(.reg [zmv 11 5,zmv 12 0,zle 13 12,zbi 14 .lss 11 13]),(.cond 14 .skip (.exit 0))]),(.block 1 (zsq [(.draw [zmv 17 0,zmv 18 5,zia 19 17 18 Qz,zLd 20 19 2,zmv 21 1,zmv 22 5,zia 23 21 22 Qz,zLd 24 23 2,zca 25 195 [20,24],zno 26 25] []),(.cond 26 (zsq [(.reg [zmv 4 (zkb false)]),.ret]) .skip)])),(.reg [zmv 15 5,zbi 16 .add 15 (zki 1),zmv 5 16])])
def Qmi:List (Nat × Md):=zdl [0,1,5]
def QhZ:TCode :=
 (zsq [(.reg [zmv 4 (zkb true)]),.ret])
def QsH:TCode :=
 (zsq [(.reg [zmv 4 (zkb false)]),(zsq [(.reg [zmv 6 0,zle 7 6,zmv 8 1,zle 9 8,zbi 10 .neq 7 9]),(.cond 10 (zsq [(.reg [zmv 4 (zkb false)]),.ret]) .skip)]),(zsq [(.reg [zmv 5 (zki 0)]),(.block 0 (.loop Qmi Qi4))]),QhZ])
def QhM:List (ARv × Md):=[(.t 4,.one .d)]
def QjY:Qb:=TQ 0 0 QhM K
def Qxd:Qb:=Qseq (tawp QcU 0 QhZ (QjY K)) (QjY K)
def QqG:Qb:=Qblk 0 (Qxd K)
def Qe2 (a:List Qj) (b:List Qj) (i:Int):Prop:=Loop QcU 0 Qmi Qi4 (QqG K) ⟨[(0,(zcs Qz a)),(1,(zcs Qz b)),(5,(zci i))],[],0⟩
theorem QuL (a:List Qj) (b:List Qj) (i:Int) (h :
 (zif (decide (i<(a.length:Int))) ((((0:Int)≤i∧Int.toNat i<a.length)∧((0:Int)≤i∧Int.toNat i<b.length))∧(zif (!(m_eq (α:=Qj) (gtd Q4 a (Int.toNat i)) (gtd Q4 b (Int.toNat i)))) (K (JE false)) (Qe2 K a b (w64 (i+(1:Int)))))) (K (JE true)))):Qe2 K a b i :=
 Loop.of (by kernel_rfl) h
theorem Qq6 (a:List Qj) (b:List Qj) (h :
 (zif ((a.length:Int) != (b.length:Int)) (K (JE false)) (Qe2 K a b 0))):Hold (tawp QcU (0+0) QsH (TQ 0 0 QhM K) (Ql [(.c (.sl Qz) a),(.c (.sl Qz) b)])) :=
 Hold.of (by kernel_rfl) h
theorem Qt5 (a:List Qj) (b:List Qj):TCon Try.prog 157 [(.c (.sl Qz) a),(.c (.sl Qz) b)] (JE (m_eq (α:=List Qj) a b)):=by
 refine Qq rfl fun hb=>tcg (Γ:=QcU) (n:=27) (sg:=Qdt.sg) Qp (TOkL.cons Qwl TOkL.nil) (by kernel_rfl) (by kernel_rfl) (Qq6 _ a b ?_)
 exact Yf Q4 (E:=m_eq) (fun _ _=>rfl) hb.1.1 (fun i h=>QuL _ a b i h) (Q:=fun x=>JE x=JE (m_eq (α:=List Qj) a b)) rfl
theorem Qvv:Qo Try.prog Qdt:=Qr fun x _=>Qt5 x.1 x.2.1
end
end Go.Proofs.Ytephkbajoofeoaa.Am

