/- -/
import Derived.Test.YtephkbajoofeoaaWAGF
namespace Go.Proofs.Ytephkbajoofeoaa.Am
open Go Go.RowKit Go.Proofs.Ytephkbajoofeoaa
set_option linter.all false
noncomputable section
variable (K:TRes→Prop)
def Yx (t:Int):TRes:=zre (zci t)
def Qcw:TRow:=Qm 124 [(.c (.sl [TI])),(.c TI)] fun x=>(some (p_sz (α:=List Int) x.1 x.2.1),Yx (m_sz (α:=List Int) x.1 x.2.1))
def QfZ:TTab:=⟨[],false⟩
def Qis:TCode :=
 (zsq [(.reg [zmv 4 (zki 0)]),(.reg [zmv 5 1,zmv 6 0,zle 7 6,zbi 8 .sub 5 7,zmv 1 8]),(zsq [(.reg [zmv 9 1,zbi 10 .lss 9 (zki 0)]),(.cond 10 (zsq [(.reg [zmv 4 (zki (-1))]),.ret]) .skip)]),(.reg [zmv 11 1,zmv 4 11]),.ret])
def QlF:List (ARv × Md):=[(.t 4,.one .d)]
theorem Qnp (a:List Int) (left:Int) (h :
 (zif (decide ((w64 (left-(a.length:Int)))<(0:Int))) (K (Yx (-1:Int))) (K (Yx (w64 (left-(a.length:Int))))))):Hold (tawp QfZ (0+0) Qis (TQ 0 0 QlF K) (Qk [(.c (.sl [TI]) a),(.c TI left)])) :=
 Hold.of (by kernel_rfl) h
theorem QiJ (a:List Int) (left:Int) (hp:p_sz (α:=List Int) a left):TCon Try.prog 124 [(.c (.sl [TI]) a),(.c TI left)] (Yx (m_sz (α:=List Int) a left)):=by
 refine Qp rfl fun hb=>tcg (Γ:=QfZ) (n:=12) (sg:=Qcw.sg) Qr TOkL.nil (by kernel_rfl) (by kernel_rfl) (Qnp _ a left ?_)
 exact QkA (Q:=fun x=>Yx x=Yx (m_sz (α:=List Int) a left)) (fun _=>rfl) hp hb.1.1 rfl
theorem Qka:Qo Try.prog Qcw:=Qu fun x h=>QiJ x.1 x.2.1 h
def ZY (t:(List Int)):TRes:=⟨(.r [TI] 0 0 t.length),[(.sl 3 [TI] (.dp 0 true []) t)],[],false,[]⟩
def Qb9:TRow:=Qm 127 [(.c (.sl [TI]))] fun x=>(some (p_to (α:=List Int) x.1),ZY (id (α:=List Int) x.1))
def Qaj:TTab:=⟨[],true⟩
def QdU:TCode :=
 (zsq [(zsq [(.reg [zmv 8 4,zmv 9 0,zle 10 9,zbi 11 .lss 8 10]),(.cond 11 .skip (.exit 0))]),(.block 1 (.reg [zmv 14 3,zmv 15 4,zmv 16 0,zmv 17 4,zia 18 16 17 [TI],zld 19 18 1,zia 20 14 15 [TI],zst 20 19 1])),(.reg [zmv 12 4,zbi 13 .add 12 (zki 1),zmv 4 13])])
def Qhb:List (Nat × Md):=[(0,.one .d),(3,.one .f),(4,.one .d)]
def Qhs:TCode :=
 (zsq [(.reg [zmv 21 3,zmv 2 21]),.ret])
def QlD:TCode :=
 (zsq [(.reg [zmv 2 (.k (.n [TI]))]),(.reg [zmv 5 0,zle 6 5,zop 7 (.mk 3 [TI] [(zci 0)] 6),zmv 3 7]),(zsq [(.reg [zmv 4 (zki 0)]),(.block 0 (.loop Qhb QdU))]),Qhs])
def QeA:List (ARv × Md):=[(.t 2,.one (.p 3))]
def Qf3:Qi:=TQ 0 0 QeA K
def QnN:Qi:=Qseq (tawp Qaj 0 Qhs (Qf3 K)) (Qf3 K)
def Qof:Qi:=Qblk 0 (QnN K)
def J4 (a:List Int) (i:Int) (out:List Int):Prop:=Loop Qaj 0 Qhb QdU (Qof K) ⟨[(0,(zcs [TI] a)),(3,(.r [TI] 0 0 out.length)),(4,(zci i))],[(0,(.sl 3 [TI] (.dp 0 true []) out))],1⟩
theorem QgT (a:List Int) (i:Int) (out:List Int) (h :
 (zif (decide (i<(a.length:Int))) ((((0:Int)≤i∧Int.toNat i<a.length)∧(((0:Int)≤i∧Int.toNat i<out.length)∧((0+(Int.toNat i))<out.length)))∧(J4 K a (w64 (i+(1:Int))) (List.take out.length ((out).set (0+(Int.toNat i)) (gtd (0:Int) a (Int.toNat i)))))) (K (ZY (List.take out.length out))))):J4 K a i out :=
 Loop.of (by kernel_rfl) h
theorem Qod (a:List Int) (h :
 (((0:Int)≤(a.length:Int)∧(a.length:Int)≤big)∧(J4 K a 0 (List.take (Int.toNat (a.length:Int)) (List.replicate (Int.toNat (a.length:Int)) (0:Int)))))):Hold (tawp Qaj (0+0) QlD (TQ 0 0 QeA K) (Qk [(.c (.sl [TI]) a)])) :=
 Hold.of (by kernel_rfl) h
theorem QlE (a:List Int) (hp:p_to (α:=List Int) a):TCon Try.prog 127 [(.c (.sl [TI]) a)] (ZY (id (α:=List Int) a)):=by
 refine Qp rfl fun hb=>tcg (Γ:=Qaj) (n:=22) (sg:=Qb9.sg) Qr TOkL.nil (by kernel_rfl) (by kernel_rfl) (Qod _ a ?_)
 refine ⟨⟨by omega,by rw [bigI];have:=Qa6 hp;omega⟩,?_⟩
 refine Qh3 a (A:=fun ii ll=>J4 (fun r'=>r'=ZY (id (α:=List Int) a)) a ii ll) (Q:=fun z=>ZY z=ZY (id (α:=List Int) a)) hp ?_ ?_ rfl
 ·intro k x out hlt hg ho hx hA
  have hw:w64 (((k:Nat):Int)+1)=((k+1:Nat):Int):=by have:=Qa6 hp;rw [Q0 (by omega) (by omega)];omega
  have hlo:k<out.length:=by omega
  refine QgT (fun r'=>r'=ZY (id (α:=List Int) a)) a ((k:Nat):Int) out ?_
  refine ⟨fun _=>?_,fun h=>absurd h (by simp;omega)⟩
  simp only [Int.toNat_natCast,Nat.zero_add,hg,hw,hlt,hlo,Qfp,List.drop_zero,List.take_length,id_eq,and_true,true_and,Int.natCast_nonneg]
  first | exact hA | exact ⟨hx,hA⟩
 ·intro out ho hq
  refine QgT (fun r'=>r'=ZY (id (α:=List Int) a)) a ((a.length:Nat):Int) out ?_
  refine ⟨fun h=>absurd h (by simp),fun _=>?_⟩
  simp only [List.drop_zero,List.take_length]
  exact hq
theorem QnH:Qo Try.prog Qb9:=Qu fun x h=>QlE x.1 h
def Yo (t:Bool):TRes:=zre (zcb t)
def Qbk:TRow:=Qm 66 [(.c (.sl [TI])),(.c (.sl [TI]))] fun x=>(none,Yo (m_eq (α:=List Int) x.1 x.2.1))
def QaC:TTab:=⟨[],false⟩
def Qe9:TCode :=
 (zsq [(zsq [(.reg [zmv 11 5,zmv 12 0,zle 13 12,zbi 14 .lss 11 13]),(.cond 14 .skip (.exit 0))]),(.block 1 (zsq [(.draw [zmv 17 0,zmv 18 5,zia 19 17 18 [TI],zld 20 19 1,zmv 21 1,zmv 22 5,zia 23 21 22 [TI],zld 24 23 1,zbi 25 .neq 20 24] []),(.cond 25 (zsq [(.reg [zmv 4 (zkb false)]),.ret]) .skip)])),(.reg [zmv 15 5,zbi 16 .add 15 (zki 1),zmv 5 16])])
def Qfe:List (Nat × Md):=zdl [0,1,5]
def Qe3:TCode :=
 (zsq [(.reg [zmv 4 (zkb true)]),.ret])
def QnA:TCode :=
 (zsq [(.reg [zmv 4 (zkb false)]),(zsq [(.reg [zmv 6 0,zle 7 6,zmv 8 1,zle 9 8,zbi 10 .neq 7 9]),(.cond 10 (zsq [(.reg [zmv 4 (zkb false)]),.ret]) .skip)]),(zsq [(.reg [zmv 5 (zki 0)]),(.block 0 (.loop Qfe Qe9))]),Qe3])
def Qdr:List (ARv × Md):=[(.t 4,.one .d)]
def QgU:Qi:=TQ 0 0 Qdr K
def QiQ:Qi:=Qseq (tawp QaC 0 Qe3 (QgU K)) (QgU K)
def Qmy:Qi:=Qblk 0 (QiQ K)
def Qbs (a:List Int) (b:List Int) (i:Int):Prop:=Loop QaC 0 Qfe Qe9 (Qmy K) ⟨[(0,(zcs [TI] a)),(1,(zcs [TI] b)),(5,(zci i))],[],0⟩
theorem QjC (a:List Int) (b:List Int) (i:Int) (h :
 (zif (decide (i<(a.length:Int))) ((((0:Int)≤i∧Int.toNat i<a.length)∧((0:Int)≤i∧Int.toNat i<b.length))∧(zif ((gtd (0:Int) a (Int.toNat i)) != (gtd (0:Int) b (Int.toNat i))) (K (Yo false)) (Qbs K a b (w64 (i+(1:Int)))))) (K (Yo true)))):Qbs K a b i :=
 Loop.of (by kernel_rfl) h
theorem QmS (a:List Int) (b:List Int) (h :
 (zif ((a.length:Int) != (b.length:Int)) (K (Yo false)) (Qbs K a b 0))):Hold (tawp QaC (0+0) QnA (TQ 0 0 Qdr K) (Qk [(.c (.sl [TI]) a),(.c (.sl [TI]) b)])) :=
 Hold.of (by kernel_rfl) h
theorem Qi9 (a:List Int) (b:List Int):TCon Try.prog 66 [(.c (.sl [TI]) a),(.c (.sl [TI]) b)] (Yo (m_eq (α:=List Int) a b)):=by
 refine Qp rfl fun hb=>tcg (Γ:=QaC) (n:=26) (sg:=Qbk.sg) Qr TOkL.nil (by kernel_rfl) (by kernel_rfl) (QmS _ a b ?_)
 exact Qkd hb.1.1 (fun i h=>QjC _ a b i h) (Q:=fun x=>Yo x=Yo (m_eq (α:=List Int) a b)) rfl
theorem QkK:Qo Try.prog Qbk:=Qu fun x _=>Qi9 x.1 x.2.1
end
end Go.Proofs.Ytephkbajoofeoaa.Am

