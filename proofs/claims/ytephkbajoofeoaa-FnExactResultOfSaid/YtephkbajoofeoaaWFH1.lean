/- -/
import Derived.Test.YtephkbajoofeoaaWFGF
namespace Go.Proofs.Ytephkbajoofeoaa.Am
open Go Go.RowKit Go.Proofs.Ytephkbajoofeoaa
set_option linter.all false
noncomputable section
variable (K:TRes→Prop)
def J4 (t:Int):TRes:=zre (zci t)
def Je:TRow:=Ql 124 [(.c (.sl [TI])),(.c TI)] fun x=>(some (p_sz (α:=List Int) x.1 x.2.1),J4 (m_sz (α:=List Int) x.1 x.2.1))
def QkG:TTab:=⟨[],false⟩
def QxC:TCode :=
 (zsq [(.reg [zmv 4 (zki 0)]),(.reg [zmv 5 1,zmv 6 0,zle 7 6,zbi 8 .sub 5 7,zmv 1 8]),(zsq [(.reg [zmv 9 1,zbi 10 .lss 9 (zki 0)]),(.cond 10 (zsq [(.reg [zmv 4 (zki (-1))]),.ret]) .skip)]),(.reg [zmv 11 1,zmv 4 11]),.ret])
def Qp3:List (ARv × Md):=[(.t 4,.one .d)]
theorem QtG (a:List Int) (left:Int) (h :
 (zif (decide ((w64 (left-(a.length:Int)))<(0:Int))) (K (J4 (-1:Int))) (K (J4 (w64 (left-(a.length:Int))))))):Hold (tawp QkG (0+0) QxC (TQ 0 0 Qp3 K) (Qk [(.c (.sl [TI]) a),(.c TI left)])) :=
 Hold.of (by kernel_rfl) h
theorem Qw9 (a:List Int) (left:Int) (hp:p_sz (α:=List Int) a left):TCon Try.prog 124 [(.c (.sl [TI]) a),(.c TI left)] (J4 (m_sz (α:=List Int) a left)):=by
 refine Qp rfl fun hb=>tcg (Γ:=QkG) (n:=12) (sg:=Je.sg) Qo TOkL.nil (by kernel_rfl) (by kernel_rfl) (QtG _ a left ?_)
 exact QmZ (Q:=fun x=>J4 x=J4 (m_sz (α:=List Int) a left)) (fun _=>rfl) hp hb.1.1 rfl
theorem QaE:Qm Try.prog Je:=Qr fun x h=>Qw9 x.1 x.2.1 h
def Qdb (t:Int):TRes:=zre (zci t)
def Qek:TRow:=Ql 217 [(.a [(.sl [TI])]),(.c TI)] fun x=>(some (p_sz (α:=List Int) x.1 x.2.1),Qdb (m_sz (α:=List Int) x.1 x.2.1))
def Qll:TTab:=⟨[Je],false⟩
def QyL:TCode :=
 (zsq [(.reg [zop 2 (.box 248 0 1),zmv 4 (zki 0)]),(.reg [zfa 5 2 0,zld 6 5 1,zmv 7 1,zca 8 124 [6,7],zmv 1 8]),(zsq [(.reg [zmv 9 1,zbi 10 .lss 9 (zki 0)]),(.cond 10 (zsq [(.reg [zmv 4 (zki (-1))]),.ret]) .skip)]),(.reg [zmv 11 1,zmv 4 11]),.ret])
def Qsv:List (ARv × Md):=[(.t 4,.one .d)]
theorem Qwy (a:List Int) (left:Int) (h :
 ((p_sz (α:=List Int) a left)∧(zif (decide ((m_sz (α:=List Int) a left)<(0:Int))) (K (Qdb (-1:Int))) (K (Qdb (m_sz (α:=List Int) a left)))))):Hold (tawp Qll (0+0) QyL (TQ 0 0 Qsv K) (Qk [(.a [(.c (.sl [TI]) a)]),(.c TI left)])) :=
 Hold.of (by kernel_rfl) h
theorem QqU (a:List Int) (left:Int) (hp:p_sz (α:=List Int) a left):TCon Try.prog 217 [(.a [(.c (.sl [TI]) a)]),(.c TI left)] (Qdb (m_sz (α:=List Int) a left)):=by
 refine Qp rfl fun hb=>tcg (Γ:=Qll) (n:=12) (sg:=Qek.sg) Qo (TOkL.cons QaE TOkL.nil) (by kernel_rfl) (by kernel_rfl) (Qwy _ a left ?_)
 refine ⟨hp,fun h=>R_eq (QU (of_decide_eq_true h) (by first | omega | (simp only [Qw,Qy,QD];omega)) hp.1),fun h=>?_⟩
 exact R_eq (congrArg (QZ · _) (by first | rfl | omega | (simp only [Qw,Qy,QD];omega)))
theorem QoU:Qm Try.prog Qek:=Qr fun x h=>QqU x.1 x.2.1 h
def Jd (t:Int):TRes:=zre (zci t)
def Qbu:TRow:=Ql 209 [(.c (.sl [(.sl [TI])])),(.c TI)] fun x=>(some (p_sz (α:=List (List Int)) x.1 x.2.1),Jd (m_sz (α:=List (List Int)) x.1 x.2.1))
def QdD:TTab:=⟨[Qek],false⟩
def Qkf:TCode :=
 (zsq [(zsq [(.reg [zmv 12 5,zmv 13 0,zle 14 13,zbi 15 .lss 12 14]),(.cond 15 .skip (.exit 0))]),(.block 1 (zsq [(.reg [zmv 18 0,zmv 19 5,zia 20 18 19 [(.sl [TI])],zLd 21 20 1,zmv 22 1,zca 23 217 [21,22],zmv 1 23]),(.reg [zmv 24 1,zbi 25 .lss 24 (zki 0)]),(.cond 25 (zsq [(.reg [zmv 4 (zki (-1))]),.ret]) .skip)])),(.reg [zmv 16 5,zbi 17 .add 16 (zki 1),zmv 5 17])])
def Qku:List (Nat × Md):=zdl [0,1,5]
def QkB:TCode :=
 (zsq [(.reg [zmv 26 1,zmv 4 26]),.ret])
def QqA:TCode :=
 (zsq [(.reg [zmv 4 (zki 0)]),(.reg [zmv 6 1,zmv 7 0,zle 8 7,zbi 9 .sub 6 8,zmv 1 9]),(zsq [(.reg [zmv 10 1,zbi 11 .lss 10 (zki 0)]),(.cond 11 (zsq [(.reg [zmv 4 (zki (-1))]),.ret]) .skip)]),(zsq [(.reg [zmv 5 (zki 0)]),(.block 0 (.loop Qku Qkf))]),QkB])
def Qmv:List (ARv × Md):=[(.t 4,.one .d)]
def QkH:Qb:=TQ 0 0 Qmv K
def Qvq:Qb:=Qseq (tawp QdD 0 QkB (QkH K)) (QkH K)
def Qqx:Qb:=Qblk 0 (Qvq K)
def Qd5 (a:List (List Int)) (left1:Int) (i:Int):Prop:=Loop QdD 0 Qku Qkf (Qqx K) ⟨[(0,(zcs [(.sl [TI])] a)),(1,(zci left1)),(5,(zci i))],[],0⟩
theorem Qw8 (a:List (List Int)) (left1:Int) (i:Int) (h :
 (zif (decide (i<(a.length:Int))) ((((0:Int)≤i∧Int.toNat i<a.length)∧(p_sz (α:=List Int) (gtd ([]:List Int) a (Int.toNat i)) left1))∧(zif (decide ((m_sz (α:=List Int) (gtd ([]:List Int) a (Int.toNat i)) left1)<(0:Int))) (K (Jd (-1:Int))) (Qd5 K a (m_sz (α:=List Int) (gtd ([]:List Int) a (Int.toNat i)) left1) (w64 (i+(1:Int)))))) (K (Jd left1)))):Qd5 K a left1 i :=
 Loop.of (by kernel_rfl) h
theorem Qt0 (a:List (List Int)) (left:Int) (h :
 (zif (decide ((w64 (left-(a.length:Int)))<(0:Int))) (K (Jd (-1:Int))) (Qd5 K a (w64 (left-(a.length:Int))) 0))):Hold (tawp QdD (0+0) QqA (TQ 0 0 Qmv K) (Qk [(.c (.sl [(.sl [TI])]) a),(.c TI left)])) :=
 Hold.of (by kernel_rfl) h
theorem QtL (a:List (List Int)) (left:Int) (hp:p_sz (α:=List (List Int)) a left):TCon Try.prog 209 [(.c (.sl [(.sl [TI])]) a),(.c TI left)] (Jd (m_sz (α:=List (List Int)) a left)):=by
 refine Qp rfl fun hb=>tcg (Γ:=QdD) (n:=27) (sg:=Qbu.sg) Qo (TOkL.cons QoU TOkL.nil) (by kernel_rfl) (by kernel_rfl) (Qt0 _ a left ?_)
 exact J3 (Q:=fun x=>Jd x=Jd (m_sz (α:=List (List Int)) a left)) ([]:List Int) hp hb.1.1 (fun l i h=>Qw8 _ a l i h) rfl
theorem QgF:Qm Try.prog Qbu:=Qr fun x h=>QtL x.1 x.2.1 h
def Qdh (t:Int):TRes:=zre (zci t)
def Qej:TRow:=Ql 210 [(.a QM),(.c TI)] fun x=>(some (p_sz (α:=Qx) x.1 x.2.1),Qdh (m_sz (α:=Qx) x.1 x.2.1))
def Qmh:TTab:=⟨[Qbu],false⟩
def QyV:TCode :=
 (zsq [(.reg [zop 2 (.box 227 0 3),zmv 4 (zki 0)]),(.reg [zfa 5 2 0,zld 6 5 1,zmv 7 1,zca 8 209 [6,7],zmv 1 8]),(zsq [(.reg [zmv 9 1,zbi 10 .lss 9 (zki 0)]),(.cond 10 (zsq [(.reg [zmv 4 (zki (-1))]),.ret]) .skip)]),(.reg [zmv 11 1,zmv 4 11]),.ret])
def Qub:List (ARv × Md):=[(.t 4,.one .d)]
theorem Qrj (a:Qx) (left:Int) (h :
 ((p_sz (α:=List (List Int)) a.1 left)∧(zif (decide ((m_sz (α:=List (List Int)) a.1 left)<(0:Int))) (K (Qdh (-1:Int))) (K (Qdh (m_sz (α:=List (List Int)) a.1 left)))))):Hold (tawp Qmh (0+0) QyV (TQ 0 0 Qub K) (Qk [(.a (Tup.cells QM a)),(.c TI left)])) :=
 Hold.of (by kernel_rfl) h
theorem Qpu (a:Qx) (left:Int) (hp:p_sz (α:=Qx) a left):TCon Try.prog 210 [(.a (Tup.cells QM a)),(.c TI left)] (Qdh (m_sz (α:=Qx) a left)):=by
 refine Qp rfl fun hb=>tcg (Γ:=Qmh) (n:=12) (sg:=Qej.sg) Qo (TOkL.cons QgF TOkL.nil) (by kernel_rfl) (by kernel_rfl) (Qrj _ a left ?_)
 refine ⟨hp,fun h=>R_eq (QU (of_decide_eq_true h) (by first | omega | (simp only [Qw,Qy,QD];omega)) hp.1),fun h=>?_⟩
 exact R_eq (congrArg (QZ · _) (by first | rfl | omega | (simp only [Qw,Qy,QD];omega)))
theorem Qsm:Qm Try.prog Qej:=Qr fun x h=>Qpu x.1 x.2.1 h
def QaO (t:Int):TRes:=zre (zci t)
def Qeo:TRow:=Ql 197 [(.a Qz),(.c TI)] fun x=>(some (p_sz (α:=Qe) x.1 x.2.1),QaO (m_sz (α:=Qe) x.1 x.2.1))
def Qir:TTab:=⟨[Je],false⟩
def Qzr:TCode :=
 (zsq [(.reg [zop 2 (.box 222 0 2),zmv 4 (zki 0)]),(.reg [zfa 5 2 0,zld 6 5 1,zmv 7 1,zca 8 124 [6,7],zmv 1 8]),(zsq [(.reg [zmv 9 1,zbi 10 .lss 9 (zki 0)]),(.cond 10 (zsq [(.reg [zmv 4 (zki (-1))]),.ret]) .skip)]),(.reg [zfa 11 2 1,zld 12 11 1,zmv 13 1,zca 14 124 [12,13],zmv 1 14]),(zsq [(.reg [zmv 15 1,zbi 16 .lss 15 (zki 0)]),(.cond 16 (zsq [(.reg [zmv 4 (zki (-1))]),.ret]) .skip)]),(.reg [zmv 17 1,zmv 4 17]),.ret])
def Qtj:List (ARv × Md):=[(.t 4,.one .d)]
theorem Qs0 (a:Qe) (left:Int) (h :
 ((p_sz (α:=List Int) a.1 left)∧(zif (decide ((m_sz (α:=List Int) a.1 left)<(0:Int))) (K (QaO (-1:Int))) ((p_sz (α:=List Int) a.2 (m_sz (α:=List Int) a.1 left))∧(zif (decide ((m_sz (α:=List Int) a.2 (m_sz (α:=List Int) a.1 left))<(0:Int))) (K (QaO (-1:Int))) (K (QaO (m_sz (α:=List Int) a.2 (m_sz (α:=List Int) a.1 left))))))))):Hold (tawp Qir (0+0) Qzr (TQ 0 0 Qtj K) (Qk [(.a [(.c (.sl [TI]) a.1),(.c (.sl [TI]) a.2)]),(.c TI left)])) :=
 Hold.of (by kernel_rfl) h
theorem QtA (a:Qe) (left:Int) (hp:p_sz (α:=Qe) a left):TCon Try.prog 197 [(.a [(.c (.sl [TI]) a.1),(.c (.sl [TI]) a.2)]),(.c TI left)] (QaO (m_sz (α:=Qe) a left)):=by
 refine Qp rfl fun hb=>tcg (Γ:=Qir) (n:=18) (sg:=Qeo.sg) Qo (TOkL.cons QaE TOkL.nil) (by kernel_rfl) (by kernel_rfl) (Qs0 _ a left ?_)
 refine ⟨hp,fun h=>R_eq (QU (of_decide_eq_true h) (by first | omega | (simp only [Qw,Qy,QD];omega)) hp.1),fun h=>?_⟩
 rw [ZE (Int.not_lt.1 (of_decide_eq_false h))]
 refine ⟨ZF hp,fun h=>R_eq (QU (of_decide_eq_true h) (by first | omega | (simp only [Qw,Qy,QD];omega)) hp.1),fun h=>?_⟩
 exact R_eq (congrArg (QZ · _) (by first | rfl | omega | (simp only [Qw,Qy,QD];omega)))
theorem QwU:Qm Try.prog Qeo:=Qr fun x h=>QtA x.1 x.2.1 h
def JI (t:Int):TRes:=zre (zci t)
def QdR:TRow:=Ql 165 [(.c (.sl Qz)),(.c TI)] fun x=>(some (p_sz (α:=List Qe) x.1 x.2.1),JI (m_sz (α:=List Qe) x.1 x.2.1))
def Qdm:TTab:=⟨[Qeo],false⟩
def QlU:TCode :=
 (zsq [(zsq [(.reg [zmv 12 5,zmv 13 0,zle 14 13,zbi 15 .lss 12 14]),(.cond 15 .skip (.exit 0))]),(.block 1 (zsq [(.reg [zmv 18 0,zmv 19 5,zia 20 18 19 Qz,zLd 21 20 2,zmv 22 1,zca 23 197 [21,22],zmv 1 23]),(.reg [zmv 24 1,zbi 25 .lss 24 (zki 0)]),(.cond 25 (zsq [(.reg [zmv 4 (zki (-1))]),.ret]) .skip)])),(.reg [zmv 16 5,zbi 17 .add 16 (zki 1),zmv 5 17])])
def QkX:List (Nat × Md):=zdl [0,1,5]
def Qix:TCode :=
 (zsq [(.reg [zmv 26 1,zmv 4 26]),.ret])
def QwF:TCode :=
 (zsq [(.reg [zmv 4 (zki 0)]),(.reg [zmv 6 1,zmv 7 0,zle 8 7,zbi 9 .sub 6 8,zmv 1 9]),(zsq [(.reg [zmv 10 1,zbi 11 .lss 10 (zki 0)]),(.cond 11 (zsq [(.reg [zmv 4 (zki (-1))]),.ret]) .skip)]),(zsq [(.reg [zmv 5 (zki 0)]),(.block 0 (.loop QkX QlU))]),Qix])
def Qow:List (ARv × Md):=[(.t 4,.one .d)]
def QjG:Qb:=TQ 0 0 Qow K
def Qo2:Qb:=Qseq (tawp Qdm 0 Qix (QjG K)) (QjG K)
def Qvn:Qb:=Qblk 0 (Qo2 K)
def Qf5 (a:List Qe) (left1:Int) (i:Int):Prop:=Loop Qdm 0 QkX QlU (Qvn K) ⟨[(0,(zcs Qz a)),(1,(zci left1)),(5,(zci i))],[],0⟩
theorem QuW (a:List Qe) (left1:Int) (i:Int) (h :
 (zif (decide (i<(a.length:Int))) ((((0:Int)≤i∧Int.toNat i<a.length)∧(p_sz (α:=Qe) (gtd Q5 a (Int.toNat i)) left1))∧(zif (decide ((m_sz (α:=Qe) (gtd Q5 a (Int.toNat i)) left1)<(0:Int))) (K (JI (-1:Int))) (Qf5 K a (m_sz (α:=Qe) (gtd Q5 a (Int.toNat i)) left1) (w64 (i+(1:Int)))))) (K (JI left1)))):Qf5 K a left1 i :=
 Loop.of (by kernel_rfl) h
theorem Qqr (a:List Qe) (left:Int) (h :
 (zif (decide ((w64 (left-(a.length:Int)))<(0:Int))) (K (JI (-1:Int))) (Qf5 K a (w64 (left-(a.length:Int))) 0))):Hold (tawp Qdm (0+0) QwF (TQ 0 0 Qow K) (Qk [(.c (.sl Qz) a),(.c TI left)])) :=
 Hold.of (by kernel_rfl) h
theorem Qvr (a:List Qe) (left:Int) (hp:p_sz (α:=List Qe) a left):TCon Try.prog 165 [(.c (.sl Qz) a),(.c TI left)] (JI (m_sz (α:=List Qe) a left)):=by
 refine Qp rfl fun hb=>tcg (Γ:=Qdm) (n:=27) (sg:=QdR.sg) Qo (TOkL.cons QwU TOkL.nil) (by kernel_rfl) (by kernel_rfl) (Qqr _ a left ?_)
 exact J3 (Q:=fun x=>JI x=JI (m_sz (α:=List Qe) a left)) Q5 hp hb.1.1 (fun l i h=>QuW _ a l i h) rfl
theorem Qxo:Qm Try.prog QdR:=Qr fun x h=>Qvr x.1 x.2.1 h
def Ja (t:(List Int)):TRes:=⟨(.r [TI] 0 0 t.length),[(.sl 3 [TI] (.dp 0 true []) t)],[],false,[]⟩
def Jf:TRow:=Ql 127 [(.c (.sl [TI]))] fun x=>(some (p_to (α:=List Int) x.1),Ja (id (α:=List Int) x.1))
def Qda:TTab:=⟨[],true⟩
def Qma:TCode :=
 (zsq [(zsq [(.reg [zmv 8 4,zmv 9 0,zle 10 9,zbi 11 .lss 8 10]),(.cond 11 .skip (.exit 0))]),(.block 1 (.reg [zmv 14 3,zmv 15 4,zmv 16 0,zmv 17 4,zia 18 16 17 [TI],zld 19 18 1,zia 20 14 15 [TI],zst 20 19 1])),(.reg [zmv 12 4,zbi 13 .add 12 (zki 1),zmv 4 13])])
def QmC:List (Nat × Md):=[(0,.one .d),(3,.one .f),(4,.one .d)]
def Qlg:TCode :=
 (zsq [(.reg [zmv 21 3,zmv 2 21]),.ret])
def Qx8:TCode :=
 (zsq [(.reg [zmv 2 (.k (.n [TI]))]),(.reg [zmv 5 0,zle 6 5,zop 7 (.mk 3 [TI] [(zci 0)] 6),zmv 3 7]),(zsq [(.reg [zmv 4 (zki 0)]),(.block 0 (.loop QmC Qma))]),Qlg])
def Qhr:List (ARv × Md):=[(.t 2,.one (.p 3))]
def Qke:Qb:=TQ 0 0 Qhr K
def QpT:Qb:=Qseq (tawp Qda 0 Qlg (Qke K)) (Qke K)
def QuK:Qb:=Qblk 0 (QpT K)
def QbN (a:List Int) (i:Int) (out:List Int):Prop:=Loop Qda 0 QmC Qma (QuK K) ⟨[(0,(zcs [TI] a)),(3,(.r [TI] 0 0 out.length)),(4,(zci i))],[(0,(.sl 3 [TI] (.dp 0 true []) out))],1⟩
theorem Qoe (a:List Int) (i:Int) (out:List Int) (h :
 (zif (decide (i<(a.length:Int))) ((((0:Int)≤i∧Int.toNat i<a.length)∧(((0:Int)≤i∧Int.toNat i<out.length)∧((0+(Int.toNat i))<out.length)))∧(QbN K a (w64 (i+(1:Int))) (List.take out.length ((out).set (0+(Int.toNat i)) (gtd (0:Int) a (Int.toNat i)))))) (K (Ja (List.take out.length out))))):QbN K a i out :=
 Loop.of (by kernel_rfl) h
theorem QpI (a:List Int) (h :
 (((0:Int)≤(a.length:Int)∧(a.length:Int)≤big)∧(QbN K a 0 (List.take (Int.toNat (a.length:Int)) (List.replicate (Int.toNat (a.length:Int)) (0:Int)))))):Hold (tawp Qda (0+0) Qx8 (TQ 0 0 Qhr K) (Qk [(.c (.sl [TI]) a)])) :=
 Hold.of (by kernel_rfl) h
theorem Qto (a:List Int) (hp:p_to (α:=List Int) a):TCon Try.prog 127 [(.c (.sl [TI]) a)] (Ja (id (α:=List Int) a)):=by
 refine Qp rfl fun hb=>tcg (Γ:=Qda) (n:=22) (sg:=Jf.sg) Qo TOkL.nil (by kernel_rfl) (by kernel_rfl) (QpI _ a ?_)
 refine ⟨⟨by omega,by rw [bigI];have:=Q7 hp;omega⟩,?_⟩
 refine YA a (A:=fun ii ll=>QbN (fun r'=>r'=Ja (id (α:=List Int) a)) a ii ll) (Q:=fun z=>Ja z=Ja (id (α:=List Int) a)) hp ?_ ?_ rfl
 ·intro k x out hlt hg ho hx hA
  have hw:w64 (((k:Nat):Int)+1)=((k+1:Nat):Int):=by have:=Q7 hp;rw [QN (by omega) (by omega)];omega
  have hlo:k<out.length:=by omega
  refine Qoe (fun r'=>r'=Ja (id (α:=List Int) a)) a ((k:Nat):Int) out ?_
  refine ⟨fun _=>?_,fun h=>absurd h (by simp;omega)⟩
  simp only [Int.toNat_natCast,Nat.zero_add,hg,hw,hlt,hlo,Yi,List.drop_zero,List.take_length,id_eq,and_true,true_and,Int.natCast_nonneg]
  first | exact hA | exact ⟨hx,hA⟩
 ·intro out ho hq
  refine Qoe (fun r'=>r'=Ja (id (α:=List Int) a)) a ((a.length:Nat):Int) out ?_
  refine ⟨fun h=>absurd h (by simp),fun _=>?_⟩
  simp only [List.drop_zero,List.take_length]
  exact hq
theorem QaS:Qm Try.prog Jf:=Qr fun x h=>Qto x.1 h
def Qgo (t:(List Int)):TRes:=⟨(.a [(.r [TI] 0 0 t.length)]),[(.sl 3 [TI] (.dp 0 true []) t)],[],false,[]⟩
def Qe3:TRow:=Ql 219 [(.a [(.sl [TI])])] fun x=>(some (p_to (α:=List Int) x.1),Qgo (id (α:=List Int) x.1))
def Qnk:TTab:=⟨[Jf],true⟩
def Qxr:TCode :=
 (zsq [(.reg [zop 1 (.box 248 0 1),zop 2 (.new 91 [(.n [TI])])]),(.reg [zop 3 (.new 91 [(.n [TI])])]),(.reg [zfa 4 1 0,zld 5 4 1,zca 6 127 [5],zfa 7 3 0,zst 7 6 1]),(.reg [zLd 8 3 1,zst 2 8 1]),.ret])
def Qxs:List (ARv × Md):=[(.l 2 1 true,.b [.p 3])]
theorem Qsu (a:List Int) (h :
 ((p_to (α:=List Int) a)∧K (Qgo (List.take ((id (α:=List Int) a).length) (id (α:=List Int) a))))):Hold (tawp Qnk (0+0) Qxr (TQ 0 0 Qxs K) (Qk [(.a [(.c (.sl [TI]) a)])])) :=
 Hold.of (by kernel_rfl) h
theorem Qx2 (a:List Int) (hp:p_to (α:=List Int) a):TCon Try.prog 219 [(.a [(.c (.sl [TI]) a)])] (Qgo (id (α:=List Int) a)):=by
 refine Qp rfl fun hb=>tcg (Γ:=Qnk) (n:=9) (sg:=Qe3.sg) Qo (TOkL.cons QaS TOkL.nil) (by kernel_rfl) (by kernel_rfl) (Qsu _ a ?_)
 repeat' (first | refine And.intro ?_ ?_ | exact R_eq (by simp))
 all_goals (simp only [p_to,Qw,Qy,QD,List.drop_zero,List.take_length,id_eq] at hp ⊢;omega)
theorem QyP:Qm Try.prog Qe3:=Qr fun x h=>Qx2 x.1 h
def YB (t:(List (List Int))):TRes:=⟨(.r [(.sl [TI])] 0 0 t.length),[(.sl 91 [(.sl [TI])] (.dp 0 true []) t)],[],false,[]⟩
def QaV:TRow:=Ql 212 [(.c (.sl [(.sl [TI])]))] fun x=>(some (p_to (α:=List (List Int)) x.1),YB (id (α:=List (List Int)) x.1))
def Qcl:TTab:=⟨[Qe3],true⟩
def Ql7:TCode :=
 (zsq [(zsq [(.reg [zmv 8 4,zmv 9 0,zle 10 9,zbi 11 .lss 8 10]),(.cond 11 .skip (.exit 0))]),(.block 1 (.reg [zmv 14 3,zmv 15 4,zmv 16 0,zmv 17 4,zia 18 16 17 [(.sl [TI])],zLd 19 18 1,zca 20 219 [19],zia 21 14 15 [(.sl [TI])],zst 21 20 1])),(.reg [zmv 12 4,zbi 13 .add 12 (zki 1),zmv 4 13])])
def Qj3:List (Nat × Md):=[(0,.one .d),(3,.one .f),(4,.one .d)]
def QlL:TCode :=
 (zsq [(.reg [zmv 22 3,zmv 2 22]),.ret])
def QvK:TCode :=
 (zsq [(.reg [zmv 2 (.k (.n [(.sl [TI])]))]),(.reg [zmv 5 0,zle 6 5,zop 7 (.mk 91 [(.sl [TI])] [(.n [TI])] 6),zmv 3 7]),(zsq [(.reg [zmv 4 (zki 0)]),(.block 0 (.loop Qj3 Ql7))]),QlL])
def Qiq:List (ARv × Md):=[(.t 2,.one (.p 91))]
def QjH:Qb:=TQ 0 0 Qiq K
def Qv6:Qb:=Qseq (tawp Qcl 0 QlL (QjH K)) (QjH K)
def QqF:Qb:=Qblk 0 (Qv6 K)
def QcR (a:List (List Int)) (i:Int) (out:List (List Int)):Prop:=Loop Qcl 0 Qj3 Ql7 (QqF K) ⟨[(0,(zcs [(.sl [TI])] a)),(3,(.r [(.sl [TI])] 0 0 out.length)),(4,(zci i))],[(0,(.sl 91 [(.sl [TI])] (.dp 0 true []) out))],1⟩
theorem Qjv (a:List (List Int)) (i:Int) (out:List (List Int)) (h :
 (zif (decide (i<(a.length:Int))) ((((0:Int)≤i∧Int.toNat i<a.length)∧((p_to (α:=List Int) (gtd ([]:List Int) a (Int.toNat i)))∧(((0:Int)≤i∧Int.toNat i<out.length)∧((0+(Int.toNat i))<out.length))))∧(QcR K a (w64 (i+(1:Int))) (List.take out.length ((out).set (0+(Int.toNat i)) (List.take ((id (α:=List Int) (gtd ([]:List Int) a (Int.toNat i))).length) (List.drop 0 (id (α:=List Int) (gtd ([]:List Int) a (Int.toNat i))))))))) (K (YB (List.take out.length out))))):QcR K a i out :=
 Loop.of (by kernel_rfl) h
theorem QuP (a:List (List Int)) (h :
 (((0:Int)≤(a.length:Int)∧(a.length:Int)≤big)∧(QcR K a 0 (List.take (Int.toNat (a.length:Int)) (List.replicate (Int.toNat (a.length:Int)) ([]:List Int)))))):Hold (tawp Qcl (0+0) QvK (TQ 0 0 Qiq K) (Qk [(.c (.sl [(.sl [TI])]) a)])) :=
 Hold.of (by kernel_rfl) h
theorem QxO (a:List (List Int)) (hp:p_to (α:=List (List Int)) a):TCon Try.prog 212 [(.c (.sl [(.sl [TI])]) a)] (YB (id (α:=List (List Int)) a)):=by
 refine Qp rfl fun hb=>tcg (Γ:=Qcl) (n:=23) (sg:=QaV.sg) Qo (TOkL.cons QyP TOkL.nil) (by kernel_rfl) (by kernel_rfl) (QuP _ a ?_)
 refine ⟨⟨by omega,by rw [bigI];have:=Q7 hp;omega⟩,?_⟩
 refine YA a (A:=fun ii ll=>QcR (fun r'=>r'=YB (id (α:=List (List Int)) a)) a ii ll) (Q:=fun z=>YB z=YB (id (α:=List (List Int)) a)) hp ?_ ?_ rfl
 ·intro k x out hlt hg ho hx hA
  have hw:w64 (((k:Nat):Int)+1)=((k+1:Nat):Int):=by have:=Q7 hp;rw [QN (by omega) (by omega)];omega
  have hlo:k<out.length:=by omega
  refine Qjv (fun r'=>r'=YB (id (α:=List (List Int)) a)) a ((k:Nat):Int) out ?_
  refine ⟨fun _=>?_,fun h=>absurd h (by simp;omega)⟩
  simp only [Int.toNat_natCast,Nat.zero_add,hg,hw,hlt,hlo,Yi,List.drop_zero,List.take_length,id_eq,and_true,true_and,Int.natCast_nonneg]
  first | exact hA | exact ⟨hx,hA⟩
 ·intro out ho hq
  refine Qjv (fun r'=>r'=YB (id (α:=List (List Int)) a)) a ((a.length:Nat):Int) out ?_
  refine ⟨fun h=>absurd h (by simp),fun _=>?_⟩
  simp only [List.drop_zero,List.take_length]
  exact hq
theorem QeN:Qm Try.prog QaV:=Qr fun x h=>QxO x.1 h
def QfA (t:Qx):TRes:=⟨(.a [(.r [(.sl [TI])] 0 0 ((t.1).length)),(zci t.2.1),(zcb t.2.2)]),[(.sl 91 [(.sl [TI])] (.dp 0 true []) t.1)],[],false,[]⟩
def Qf8:TRow:=Ql 213 [(.a QM)] fun x=>(some (p_to (α:=Qx) x.1),QfA (id (α:=Qx) x.1))
def Qkt:TTab:=⟨[QaV],true⟩
def QsE:TCode :=
 (zsq [(.reg [zop 1 (.box 227 0 3),zop 2 (.new 119 (z0s QM))]),(.reg [zop 3 (.new 119 (z0s QM))]),(.reg [zfa 4 1 0,zld 5 4 1,zca 6 212 [5],zfa 7 3 0,zst 7 6 1]),(.reg [zfa 8 1 1,zld 9 8 1,zfa 10 3 1,zst 10 9 1]),(.reg [zfa 11 1 2,zld 12 11 1,zfa 13 3 2,zst 13 12 1]),(.reg [zLd 14 3 3,zst 2 14 3]),.ret])
def Qpg:List (ARv × Md):=[(.l 2 3 true,.b [.p 91,.d,.d])]
theorem Qwv (a:Qx) (h :
 ((p_to (α:=List (List Int)) a.1)∧K (QfA ((List.take ((id (α:=List (List Int)) a.1).length) (id (α:=List (List Int)) a.1)),a.2.1,a.2.2)))):Hold (tawp Qkt (0+0) QsE (TQ 0 0 Qpg K) (Qk [(.a (Tup.cells QM a))])) :=
 Hold.of (by kernel_rfl) h
theorem Qp2 (a:Qx) (hp:p_to (α:=Qx) a):TCon Try.prog 213 [(.a (Tup.cells QM a))] (QfA (id (α:=Qx) a)):=by
 refine Qp rfl fun hb=>tcg (Γ:=Qkt) (n:=15) (sg:=Qf8.sg) Qo (TOkL.cons QeN TOkL.nil) (by kernel_rfl) (by kernel_rfl) (Qwv _ a ?_)
 repeat' (first | refine And.intro ?_ ?_ | exact R_eq (by simp))
 all_goals (simp only [p_to,Qw,Qy,QD,List.drop_zero,List.take_length,id_eq] at hp ⊢;omega)
theorem Qsb:Qm Try.prog Qf8:=Qr fun x h=>Qp2 x.1 h
def Qge (t:Qe):TRes:=⟨(.a [(.r [TI] 0 0 ((t.1).length)),(.r [TI] 1 0 ((t.2).length))]),[(.sl 3 [TI] (.dp 0 true []) t.1),(.sl 3 [TI] (.dp 0 true []) t.2)],[],false,[]⟩
def QeD:TRow:=Ql 199 [(.a Qz)] fun x=>(some (p_to (α:=Qe) x.1),Qge (id (α:=Qe) x.1))
def QlB:TTab:=⟨[Jf],true⟩
def QxX:TCode :=
 (zsq [(.reg [zop 1 (.box 222 0 2),zop 2 (.new 230 (z0s Qz))]),(.reg [zop 3 (.new 230 (z0s Qz))]),(.reg [zfa 4 1 0,zld 5 4 1,zca 6 127 [5],zfa 7 3 0,zst 7 6 1]),(.reg [zfa 8 1 1,zld 9 8 1,zca 10 127 [9],zfa 11 3 1,zst 11 10 1]),(.reg [zLd 12 3 2,zst 2 12 2]),.ret])
def QyM:List (ARv × Md):=[(.l 2 2 true,.b [.p 3,.p 3])]
theorem Qrz (a:Qe) (h :
 ((p_to (α:=List Int) a.1)∧((p_to (α:=List Int) a.2)∧K (Qge ((List.take ((id (α:=List Int) a.1).length) (id (α:=List Int) a.1)),(List.take ((id (α:=List Int) a.2).length) (id (α:=List Int) a.2))))))):Hold (tawp QlB (0+0) QxX (TQ 0 0 QyM K) (Qk [(.a [(.c (.sl [TI]) a.1),(.c (.sl [TI]) a.2)])])) :=
 Hold.of (by kernel_rfl) h
theorem QsT (a:Qe) (hp:p_to (α:=Qe) a):TCon Try.prog 199 [(.a [(.c (.sl [TI]) a.1),(.c (.sl [TI]) a.2)])] (Qge (id (α:=Qe) a)):=by
 refine Qp rfl fun hb=>tcg (Γ:=QlB) (n:=13) (sg:=QeD.sg) Qo (TOkL.cons QaS TOkL.nil) (by kernel_rfl) (by kernel_rfl) (Qrz _ a ?_)
 repeat' (first | refine And.intro ?_ ?_ | exact R_eq (by simp))
 all_goals (simp only [p_to,Qw,Qy,QD,List.drop_zero,List.take_length,id_eq] at hp ⊢;omega)
theorem Qp8:Qm Try.prog QeD:=Qr fun x h=>QsT x.1 h
def Y1 (t:(List Qe)):TRes:=⟨(.r Qz 0 0 t.length),[(.sl 230 Qz (.dp 0 true []) t)],[],false,[]⟩
def Qey:TRow:=Ql 168 [(.c (.sl Qz))] fun x=>(some (p_to (α:=List Qe) x.1),Y1 (id (α:=List Qe) x.1))
def QcQ:TTab:=⟨[QeD],true⟩
def QkP:TCode :=
 (zsq [(zsq [(.reg [zmv 8 4,zmv 9 0,zle 10 9,zbi 11 .lss 8 10]),(.cond 11 .skip (.exit 0))]),(.block 1 (.reg [zmv 14 3,zmv 15 4,zmv 16 0,zmv 17 4,zia 18 16 17 Qz,zLd 19 18 2,zca 20 199 [19],zia 21 14 15 Qz,zst 21 20 2])),(.reg [zmv 12 4,zbi 13 .add 12 (zki 1),zmv 4 13])])
def Qnc:List (Nat × Md):=[(0,.one .d),(3,.one .f),(4,.one .d)]
def Qiw:TCode :=
 (zsq [(.reg [zmv 22 3,zmv 2 22]),.ret])
def Qxi:TCode :=
 (zsq [(.reg [zmv 2 (.k (.n Qz))]),(.reg [zmv 5 0,zle 6 5,zop 7 (.mk 230 Qz (z0s Qz) 6),zmv 3 7]),(zsq [(.reg [zmv 4 (zki 0)]),(.block 0 (.loop Qnc QkP))]),Qiw])
def Qkm:List (ARv × Md):=[(.t 2,.one (.p 230))]
def Qib:Qb:=TQ 0 0 Qkm K
def QsN:Qb:=Qseq (tawp QcQ 0 Qiw (Qib K)) (Qib K)
def Qv9:Qb:=Qblk 0 (QsN K)
def Qdn (a:List Qe) (i:Int) (out:List Qe):Prop:=Loop QcQ 0 Qnc QkP (Qv9 K) ⟨[(0,(zcs Qz a)),(3,(.r Qz 0 0 out.length)),(4,(zci i))],[(0,(.sl 230 Qz (.dp 0 true []) out))],1⟩
theorem Qkz (a:List Qe) (i:Int) (out:List Qe) (h :
 (zif (decide (i<(a.length:Int))) ((((0:Int)≤i∧Int.toNat i<a.length)∧((p_to (α:=Qe) (gtd Q5 a (Int.toNat i)))∧(((0:Int)≤i∧Int.toNat i<out.length)∧((0+(Int.toNat i))<out.length))))∧(Qdn K a (w64 (i+(1:Int))) (List.take out.length ((out).set (0+(Int.toNat i)) ((List.take (((id (α:=Qe) (gtd Q5 a (Int.toNat i))).1).length) (List.drop 0 ((id (α:=Qe) (gtd Q5 a (Int.toNat i))).1))),(List.take (((id (α:=Qe) (gtd Q5 a (Int.toNat i))).2).length) (List.drop 0 ((id (α:=Qe) (gtd Q5 a (Int.toNat i))).2)))))))) (K (Y1 (List.take out.length out))))):Qdn K a i out :=
 Loop.of (by kernel_rfl) h
theorem QtK (a:List Qe) (h :
 (((0:Int)≤(a.length:Int)∧(a.length:Int)≤big)∧(Qdn K a 0 (List.take (Int.toNat (a.length:Int)) (List.replicate (Int.toNat (a.length:Int)) ([],[])))))):Hold (tawp QcQ (0+0) Qxi (TQ 0 0 Qkm K) (Qk [(.c (.sl Qz) a)])) :=
 Hold.of (by kernel_rfl) h
theorem Qo5 (a:List Qe) (hp:p_to (α:=List Qe) a):TCon Try.prog 168 [(.c (.sl Qz) a)] (Y1 (id (α:=List Qe) a)):=by
 refine Qp rfl fun hb=>tcg (Γ:=QcQ) (n:=23) (sg:=Qey.sg) Qo (TOkL.cons Qp8 TOkL.nil) (by kernel_rfl) (by kernel_rfl) (QtK _ a ?_)
 refine ⟨⟨by omega,by rw [bigI];have:=Q7 hp;omega⟩,?_⟩
 refine YA a (A:=fun ii ll=>Qdn (fun r'=>r'=Y1 (id (α:=List Qe) a)) a ii ll) (Q:=fun z=>Y1 z=Y1 (id (α:=List Qe) a)) hp ?_ ?_ rfl
 ·intro k x out hlt hg ho hx hA
  have hw:w64 (((k:Nat):Int)+1)=((k+1:Nat):Int):=by have:=Q7 hp;rw [QN (by omega) (by omega)];omega
  have hlo:k<out.length:=by omega
  refine Qkz (fun r'=>r'=Y1 (id (α:=List Qe) a)) a ((k:Nat):Int) out ?_
  refine ⟨fun _=>?_,fun h=>absurd h (by simp;omega)⟩
  simp only [Int.toNat_natCast,Nat.zero_add,hg,hw,hlt,hlo,Yi,List.drop_zero,List.take_length,id_eq,and_true,true_and,Int.natCast_nonneg]
  first | exact hA | exact ⟨hx,hA⟩
 ·intro out ho hq
  refine Qkz (fun r'=>r'=Y1 (id (α:=List Qe) a)) a ((a.length:Nat):Int) out ?_
  refine ⟨fun h=>absurd h (by simp),fun _=>?_⟩
  simp only [List.drop_zero,List.take_length]
  exact hq
theorem QuC:Qm Try.prog Qey:=Qr fun x h=>Qo5 x.1 h
def Jh (t:Bool):TRes:=zre (zcb t)
def JN:TRow:=Ql 66 [(.c (.sl [TI])),(.c (.sl [TI]))] fun x=>(none,Jh (m_eq (α:=List Int) x.1 x.2.1))
def Qdu:TTab:=⟨[],false⟩
def QmQ:TCode :=
 (zsq [(zsq [(.reg [zmv 11 5,zmv 12 0,zle 13 12,zbi 14 .lss 11 13]),(.cond 14 .skip (.exit 0))]),(.block 1 (zsq [(.draw [zmv 17 0,zmv 18 5,zia 19 17 18 [TI],zld 20 19 1,zmv 21 1,zmv 22 5,zia 23 21 22 [TI],zld 24 23 1,zbi 25 .neq 20 24] []),(.cond 25 (zsq [(.reg [zmv 4 (zkb false)]),.ret]) .skip)])),(.reg [zmv 15 5,zbi 16 .add 15 (zki 1),zmv 5 16])])
def Qlh:List (Nat × Md):=zdl [0,1,5]
def Qil:TCode :=
 (zsq [(.reg [zmv 4 (zkb true)]),.ret])
def QyI:TCode :=
 (zsq [(.reg [zmv 4 (zkb false)]),(zsq [(.reg [zmv 6 0,zle 7 6,zmv 8 1,zle 9 8,zbi 10 .neq 7 9]),(.cond 10 (zsq [(.reg [zmv 4 (zkb false)]),.ret]) .skip)]),(zsq [(.reg [zmv 5 (zki 0)]),(.block 0 (.loop Qlh QmQ))]),Qil])
def Qoz:List (ARv × Md):=[(.t 4,.one .d)]
def Qkh:Qb:=TQ 0 0 Qoz K
def QvF:Qb:=Qseq (tawp Qdu 0 Qil (Qkh K)) (Qkh K)
def QrF:Qb:=Qblk 0 (QvF K)
def QfD (a:List Int) (b:List Int) (i:Int):Prop:=Loop Qdu 0 Qlh QmQ (QrF K) ⟨[(0,(zcs [TI] a)),(1,(zcs [TI] b)),(5,(zci i))],[],0⟩
theorem Qq9 (a:List Int) (b:List Int) (i:Int) (h :
 (zif (decide (i<(a.length:Int))) ((((0:Int)≤i∧Int.toNat i<a.length)∧((0:Int)≤i∧Int.toNat i<b.length))∧(zif ((gtd (0:Int) a (Int.toNat i)) != (gtd (0:Int) b (Int.toNat i))) (K (Jh false)) (QfD K a b (w64 (i+(1:Int)))))) (K (Jh true)))):QfD K a b i :=
 Loop.of (by kernel_rfl) h
theorem QvL (a:List Int) (b:List Int) (h :
 (zif ((a.length:Int) != (b.length:Int)) (K (Jh false)) (QfD K a b 0))):Hold (tawp Qdu (0+0) QyI (TQ 0 0 Qoz K) (Qk [(.c (.sl [TI]) a),(.c (.sl [TI]) b)])) :=
 Hold.of (by kernel_rfl) h
theorem QvE (a:List Int) (b:List Int):TCon Try.prog 66 [(.c (.sl [TI]) a),(.c (.sl [TI]) b)] (Jh (m_eq (α:=List Int) a b)):=by
 refine Qp rfl fun hb=>tcg (Γ:=Qdu) (n:=26) (sg:=JN.sg) Qo TOkL.nil (by kernel_rfl) (by kernel_rfl) (QvL _ a b ?_)
 exact QxU hb.1.1 (fun i h=>Qq9 _ a b i h) (Q:=fun x=>Jh x=Jh (m_eq (α:=List Int) a b)) rfl
theorem Qbq:Qm Try.prog JN:=Qr fun x _=>QvE x.1 x.2.1
def QcW (t:Bool):TRes:=zre (zcb t)
def QeZ:TRow:=Ql 196 [(.a [(.sl [TI])]),(.a [(.sl [TI])])] fun x=>(none,QcW (m_eq (α:=List Int) x.1 x.2.1))
def QkT:TTab:=⟨[JN],false⟩
def Qpk:TCode :=
 (zsq [(.reg [zop 2 (.box 91 0 1),zop 3 (.box 91 1 1),zmv 4 (zkb false)]),(zsq [(.reg [zfa 5 2 0,zld 6 5 1,zfa 7 3 0,zld 8 7 1,zca 9 66 [6,8],zno 10 9]),(.cond 10 (zsq [(.reg [zmv 4 (zkb false)]),.ret]) .skip)]),(.reg [zmv 4 (zkb true)]),.ret])
def QoV:List (ARv × Md):=[(.t 4,.one .d)]
theorem Qzs (a:List Int) (b:List Int) (h :
 (zif (!(m_eq (α:=List Int) a b)) (K (QcW false)) (K (QcW true)))):Hold (tawp QkT (0+0) Qpk (TQ 0 0 QoV K) (Qk [(.a [(.c (.sl [TI]) a)]),(.a [(.c (.sl [TI]) b)])])) :=
 Hold.of (by kernel_rfl) h
theorem Qvs (a:List Int) (b:List Int):TCon Try.prog 196 [(.a [(.c (.sl [TI]) a)]),(.a [(.c (.sl [TI]) b)])] (QcW (m_eq (α:=List Int) a b)):=by
 refine Qp rfl fun hb=>tcg (Γ:=QkT) (n:=11) (sg:=QeZ.sg) Qo (TOkL.cons Qbq TOkL.nil) (by kernel_rfl) (by kernel_rfl) (Qzs _ a b ?_)
 refine ⟨fun h=>R_eq (Eq.symm (decide_eq_false (by rintro rfl;simp [m_eq] at h))),fun h0=>?_⟩
 refine R_eq (Eq.symm (decide_eq_true ?_))
 simp [m_eq] at h0
 simp [Prod.ext_iff, *]
theorem Qug:Qm Try.prog QeZ:=Qr fun x _=>Qvs x.1 x.2.1
def Jn (t:Bool):TRes:=zre (zcb t)
def Qbo:TRow:=Ql 158 [(.c (.sl [(.sl [TI])])),(.c (.sl [(.sl [TI])]))] fun x=>(none,Jn (m_eq (α:=List (List Int)) x.1 x.2.1))
def Qdy:TTab:=⟨[QeZ],false⟩
def Qm8:TCode :=
 (zsq [(zsq [(.reg [zmv 11 5,zmv 12 0,zle 13 12,zbi 14 .lss 11 13]),(.cond 14 .skip (.exit 0))]),(.block 1 (zsq [(.draw [zmv 17 0,zmv 18 5,zia 19 17 18 [(.sl [TI])],zLd 20 19 1,zmv 21 1,zmv 22 5,zia 23 21 22 [(.sl [TI])],zLd 24 23 1,zca 25 196 [20,24],zno 26 25] []),(.cond 26 (zsq [(.reg [zmv 4 (zkb false)]),.ret]) .skip)])),(.reg [zmv 15 5,zbi 16 .add 15 (zki 1),zmv 5 16])])
def Qi8:List (Nat × Md):=zdl [0,1,5]
def QnJ:TCode :=
 (zsq [(.reg [zmv 4 (zkb true)]),.ret])
def QrS:TCode :=
 (zsq [(.reg [zmv 4 (zkb false)]),(zsq [(.reg [zmv 6 0,zle 7 6,zmv 8 1,zle 9 8,zbi 10 .neq 7 9]),(.cond 10 (zsq [(.reg [zmv 4 (zkb false)]),.ret]) .skip)]),(zsq [(.reg [zmv 5 (zki 0)]),(.block 0 (.loop Qi8 Qm8))]),QnJ])
def Qlm:List (ARv × Md):=[(.t 4,.one .d)]
def QnZ:Qb:=TQ 0 0 Qlm K
def Qxp:Qb:=Qseq (tawp Qdy 0 QnJ (QnZ K)) (QnZ K)
def QyA:Qb:=Qblk 0 (Qxp K)
def QgL (a:List (List Int)) (b:List (List Int)) (i:Int):Prop:=Loop Qdy 0 Qi8 Qm8 (QyA K) ⟨[(0,(zcs [(.sl [TI])] a)),(1,(zcs [(.sl [TI])] b)),(5,(zci i))],[],0⟩
theorem QwC (a:List (List Int)) (b:List (List Int)) (i:Int) (h :
 (zif (decide (i<(a.length:Int))) ((((0:Int)≤i∧Int.toNat i<a.length)∧((0:Int)≤i∧Int.toNat i<b.length))∧(zif (!(m_eq (α:=List Int) (gtd ([]:List Int) a (Int.toNat i)) (gtd ([]:List Int) b (Int.toNat i)))) (K (Jn false)) (QgL K a b (w64 (i+(1:Int)))))) (K (Jn true)))):QgL K a b i :=
 Loop.of (by kernel_rfl) h
theorem QrQ (a:List (List Int)) (b:List (List Int)) (h :
 (zif ((a.length:Int) != (b.length:Int)) (K (Jn false)) (QgL K a b 0))):Hold (tawp Qdy (0+0) QrS (TQ 0 0 Qlm K) (Qk [(.c (.sl [(.sl [TI])]) a),(.c (.sl [(.sl [TI])]) b)])) :=
 Hold.of (by kernel_rfl) h
theorem Qrx (a:List (List Int)) (b:List (List Int)):TCon Try.prog 158 [(.c (.sl [(.sl [TI])]) a),(.c (.sl [(.sl [TI])]) b)] (Jn (m_eq (α:=List (List Int)) a b)):=by
 refine Qp rfl fun hb=>tcg (Γ:=Qdy) (n:=27) (sg:=Qbo.sg) Qo (TOkL.cons Qug TOkL.nil) (by kernel_rfl) (by kernel_rfl) (QrQ _ a b ?_)
 exact Yf ([]:List Int) (E:=m_eq) (fun _ _=>rfl) hb.1.1 (fun i h=>QwC _ a b i h) (Q:=fun x=>Jn x=Jn (m_eq (α:=List (List Int)) a b)) rfl
theorem QeY:Qm Try.prog Qbo:=Qr fun x _=>Qrx x.1 x.2.1
def Qab (t:Bool):TRes:=zre (zcb t)
def Qcf:TRow:=Ql 99 [(.a QM),(.a QM)] fun x=>(none,Qab (m_eq (α:=Qx) x.1 x.2.1))
def Qk5:TTab:=⟨[Qbo],false⟩
def Qxq:TCode :=
 (zsq [(.reg [zop 2 (.box 119 0 3),zop 3 (.box 119 1 3),zmv 4 (zkb false)]),(zsq [(.reg [zfa 5 2 0,zld 6 5 1,zfa 7 3 0,zld 8 7 1,zca 9 158 [6,8],zno 10 9]),(.cond 10 (zsq [(.reg [zmv 4 (zkb false)]),.ret]) .skip)]),(zsq [(.reg [zfa 11 2 1,zld 12 11 1,zfa 13 3 1,zld 14 13 1,zbi 15 .neq 12 14]),(.cond 15 (zsq [(.reg [zmv 4 (zkb false)]),.ret]) .skip)]),(zsq [(.reg [zfa 16 2 2,zld 17 16 1,zfa 18 3 2,zld 19 18 1,zop 20 (.eqb true 17 19)]),(.cond 20 (zsq [(.reg [zmv 4 (zkb false)]),.ret]) .skip)]),(.reg [zmv 4 (zkb true)]),.ret])
def QwI:List (ARv × Md):=[(.t 4,.one .d)]
theorem QrO (a:Qx) (b:Qx) (h :
 (zif (!(m_eq (α:=List (List Int)) a.1 b.1)) (K (Qab false)) (zif (a.2.1 != b.2.1) (K (Qab false)) (zif (!(a.2.2==b.2.2)) (K (Qab false)) (K (Qab true)))))):Hold (tawp Qk5 (0+0) Qxq (TQ 0 0 QwI K) (Qk [(.a (Tup.cells QM a)),(.a (Tup.cells QM b))])) :=
 Hold.of (by kernel_rfl) h
theorem QyN (a:Qx) (b:Qx):TCon Try.prog 99 [(.a (Tup.cells QM a)),(.a (Tup.cells QM b))] (Qab (m_eq (α:=Qx) a b)):=by
 refine Qp rfl fun hb=>tcg (Γ:=Qk5) (n:=21) (sg:=Qcf.sg) Qo (TOkL.cons QeY TOkL.nil) (by kernel_rfl) (by kernel_rfl) (QrO _ a b ?_)
 refine ⟨fun h=>R_eq (Eq.symm (decide_eq_false (by rintro rfl;simp [m_eq] at h))),fun h0=>?_⟩
 refine ⟨fun h=>R_eq (Eq.symm (decide_eq_false (by rintro rfl;simp [m_eq] at h))),fun h1=>?_⟩
 refine ⟨fun h=>R_eq (Eq.symm (decide_eq_false (by rintro rfl;simp [m_eq] at h))),fun h2=>?_⟩
 refine R_eq (Eq.symm (decide_eq_true ?_))
 simp [m_eq] at h0 h1 h2
 simp [Prod.ext_iff, *]
theorem QlO:Qm Try.prog Qcf:=Qr fun x _=>QyN x.1 x.2.1
def Qbe (t:Bool):TRes:=zre (zcb t)
def QeE:TRow:=Ql 201 [(.a Qz),(.a Qz)] fun x=>(none,Qbe (m_eq (α:=Qe) x.1 x.2.1))
def Qlq:TTab:=⟨[JN],false⟩
def QyH:TCode :=
 (zsq [(.reg [zop 2 (.box 230 0 2),zop 3 (.box 230 1 2),zmv 4 (zkb false)]),(zsq [(.reg [zfa 5 2 0,zld 6 5 1,zfa 7 3 0,zld 8 7 1,zca 9 66 [6,8],zno 10 9]),(.cond 10 (zsq [(.reg [zmv 4 (zkb false)]),.ret]) .skip)]),(zsq [(.reg [zfa 11 2 1,zld 12 11 1,zfa 13 3 1,zld 14 13 1,zca 15 66 [12,14],zno 16 15]),(.cond 16 (zsq [(.reg [zmv 4 (zkb false)]),.ret]) .skip)]),(.reg [zmv 4 (zkb true)]),.ret])
def QrC:List (ARv × Md):=[(.t 4,.one .d)]
theorem Qzi (a:Qe) (b:Qe) (h :
 (zif (!(m_eq (α:=List Int) a.1 b.1)) (K (Qbe false)) (zif (!(m_eq (α:=List Int) a.2 b.2)) (K (Qbe false)) (K (Qbe true))))):Hold (tawp Qlq (0+0) QyH (TQ 0 0 QrC K) (Qk [(.a [(.c (.sl [TI]) a.1),(.c (.sl [TI]) a.2)]),(.a [(.c (.sl [TI]) b.1),(.c (.sl [TI]) b.2)])])) :=
 Hold.of (by kernel_rfl) h
theorem Qul (a:Qe) (b:Qe):TCon Try.prog 201 [(.a [(.c (.sl [TI]) a.1),(.c (.sl [TI]) a.2)]),(.a [(.c (.sl [TI]) b.1),(.c (.sl [TI]) b.2)])] (Qbe (m_eq (α:=Qe) a b)):=by
 refine Qp rfl fun hb=>tcg (Γ:=Qlq) (n:=17) (sg:=QeE.sg) Qo (TOkL.cons Qbq TOkL.nil) (by kernel_rfl) (by kernel_rfl) (Qzi _ a b ?_)
 refine ⟨fun h=>R_eq (Eq.symm (decide_eq_false (by rintro rfl;simp [m_eq] at h))),fun h0=>?_⟩
 refine ⟨fun h=>R_eq (Eq.symm (decide_eq_false (by rintro rfl;simp [m_eq] at h))),fun h1=>?_⟩
 refine R_eq (Eq.symm (decide_eq_true ?_))
 simp [m_eq] at h0 h1
 simp [Prod.ext_iff, *]
theorem Qtk:Qm Try.prog QeE:=Qr fun x _=>Qul x.1 x.2.1
def JK (t:Bool):TRes:=zre (zcb t)
def Qel:TRow:=Ql 171 [(.c (.sl Qz)),(.c (.sl Qz))] fun x=>(none,JK (m_eq (α:=List Qe) x.1 x.2.1))
def Qc0:TTab:=⟨[QeE],false⟩
def QiV:TCode :=
 (zsq [(zsq [(.reg [zmv 11 5,zmv 12 0,zle 13 12,zbi 14 .lss 11 13]),(.cond 14 .skip (.exit 0))]),(.block 1 (zsq [(.draw [zmv 17 0,zmv 18 5,zia 19 17 18 Qz,zLd 20 19 2,zmv 21 1,zmv 22 5,zia 23 21 22 Qz,zLd 24 23 2,zca 25 201 [20,24],zno 26 25] []),(.cond 26 (zsq [(.reg [zmv 4 (zkb false)]),.ret]) .skip)])),(.reg [zmv 15 5,zbi 16 .add 15 (zki 1),zmv 5 16])])
def QhE:List (Nat × Md):=zdl [0,1,5]
def Qm4:TCode :=
 (zsq [(.reg [zmv 4 (zkb true)]),.ret])
def Qzh:TCode :=
 (zsq [(.reg [zmv 4 (zkb false)]),(zsq [(.reg [zmv 6 0,zle 7 6,zmv 8 1,zle 9 8,zbi 10 .neq 7 9]),(.cond 10 (zsq [(.reg [zmv 4 (zkb false)]),.ret]) .skip)]),(zsq [(.reg [zmv 5 (zki 0)]),(.block 0 (.loop QhE QiV))]),Qm4])
def Qlr:List (ARv × Md):=[(.t 4,.one .d)]
def Qmd:Qb:=TQ 0 0 Qlr K
def QpX:Qb:=Qseq (tawp Qc0 0 Qm4 (Qmd K)) (Qmd K)
def Qu4:Qb:=Qblk 0 (QpX K)
def Qeq (a:List Qe) (b:List Qe) (i:Int):Prop:=Loop Qc0 0 QhE QiV (Qu4 K) ⟨[(0,(zcs Qz a)),(1,(zcs Qz b)),(5,(zci i))],[],0⟩
theorem Qy2 (a:List Qe) (b:List Qe) (i:Int) (h :
 (zif (decide (i<(a.length:Int))) ((((0:Int)≤i∧Int.toNat i<a.length)∧((0:Int)≤i∧Int.toNat i<b.length))∧(zif (!(m_eq (α:=Qe) (gtd Q5 a (Int.toNat i)) (gtd Q5 b (Int.toNat i)))) (K (JK false)) (Qeq K a b (w64 (i+(1:Int)))))) (K (JK true)))):Qeq K a b i :=
 Loop.of (by kernel_rfl) h
theorem Qts (a:List Qe) (b:List Qe) (h :
 (zif ((a.length:Int) != (b.length:Int)) (K (JK false)) (Qeq K a b 0))):Hold (tawp Qc0 (0+0) Qzh (TQ 0 0 Qlr K) (Qk [(.c (.sl Qz) a),(.c (.sl Qz) b)])) :=
 Hold.of (by kernel_rfl) h
theorem QyT (a:List Qe) (b:List Qe):TCon Try.prog 171 [(.c (.sl Qz) a),(.c (.sl Qz) b)] (JK (m_eq (α:=List Qe) a b)):=by
 refine Qp rfl fun hb=>tcg (Γ:=Qc0) (n:=27) (sg:=Qel.sg) Qo (TOkL.cons Qtk TOkL.nil) (by kernel_rfl) (by kernel_rfl) (Qts _ a b ?_)
 exact Yf Q5 (E:=m_eq) (fun _ _=>rfl) hb.1.1 (fun i h=>Qy2 _ a b i h) (Q:=fun x=>JK x=JK (m_eq (α:=List Qe) a b)) rfl
theorem Qql:Qm Try.prog Qel:=Qr fun x _=>QyT x.1 x.2.1
end
end Go.Proofs.Ytephkbajoofeoaa.Am

