/- -/
import Derived.Test.YtephkbajoofeoaaWAGF
namespace Go.Proofs.Ytephkbajoofeoaa.Am
open Go Go.RowKit Go.Proofs.Ytephkbajoofeoaa
set_option linter.all false
noncomputable section
variable (K:TRes→Prop)
def YF (t:Int):TRes:=zre (zci t)
def Qbd:TRow:=Qn 124 [(.c (.sl [TI])),(.c TI)] fun x=>(some (p_sz (α:=List Int) x.1 x.2.1),YF (m_sz (α:=List Int) x.1 x.2.1))
def QgR:TTab:=⟨[],false⟩
def Qn5:TCode :=
 (zsq [(.reg [zmv 4 (zki 0)]),(.reg [zmv 5 1,zmv 6 0,zle 7 6,zbi 8 .sub 5 7,zmv 1 8]),(zsq [(.reg [zmv 9 1,zbi 10 .lss 9 (zki 0)]),(.cond 10 (zsq [(.reg [zmv 4 (zki (-1))]),.ret]) .skip)]),(.reg [zmv 11 1,zmv 4 11]),.ret])
def Qlo:List (ARv × Md):=[(.t 4,.one .d)]
theorem Qix (a:List Int) (left:Int) (h :
 (zif (decide ((w64 (left-(a.length:Int)))<(0:Int))) (K (YF (-1:Int))) (K (YF (w64 (left-(a.length:Int))))))):Hold (tawp QgR (0+0) Qn5 (TQ 0 0 Qlo K) (Ql [(.c (.sl [TI]) a),(.c TI left)])) :=
 Hold.of (by kernel_rfl) h
theorem QkO (a:List Int) (left:Int) (hp:p_sz (α:=List Int) a left):TCon Try.prog 124 [(.c (.sl [TI]) a),(.c TI left)] (YF (m_sz (α:=List Int) a left)):=by
 refine Qp rfl fun hb=>tcg (Γ:=QgR) (n:=12) (sg:=Qbd.sg) Qq TOkL.nil (by kernel_rfl) (by kernel_rfl) (Qix _ a left ?_)
 exact QjZ (Q:=fun x=>YF x=YF (m_sz (α:=List Int) a left)) (fun _=>rfl) hp hb.1.1 rfl
theorem QnA:Qm Try.prog Qbd:=Qt fun x h=>QkO x.1 x.2.1 h
def ZU (t:(List Int)):TRes:=⟨(.r [TI] 0 0 t.length),[(.sl 3 [TI] (.dp 0 true []) t)],[],false,[]⟩
def Qcm:TRow:=Qn 127 [(.c (.sl [TI]))] fun x=>(some (p_to (α:=List Int) x.1),ZU (id (α:=List Int) x.1))
def QaK:TTab:=⟨[],true⟩
def Qg1:TCode :=
 (zsq [(zsq [(.reg [zmv 8 4,zmv 9 0,zle 10 9,zbi 11 .lss 8 10]),(.cond 11 .skip (.exit 0))]),(.block 1 (.reg [zmv 14 3,zmv 15 4,zmv 16 0,zmv 17 4,zia 18 16 17 [TI],zld 19 18 1,zia 20 14 15 [TI],zst 20 19 1])),(.reg [zmv 12 4,zbi 13 .add 12 (zki 1),zmv 4 13])])
def Qgy:List (Nat × Md):=[(0,.one .d),(3,.one .f),(4,.one .d)]
def Qg5:TCode :=
 (zsq [(.reg [zmv 21 3,zmv 2 21]),.ret])
def QiA:TCode :=
 (zsq [(.reg [zmv 2 (.k (.n [TI]))]),(.reg [zmv 5 0,zle 6 5,zop 7 (.mk 3 [TI] [(zci 0)] 6),zmv 3 7]),(zsq [(.reg [zmv 4 (zki 0)]),(.block 0 (.loop Qgy Qg1))]),Qg5])
def Qg3:List (ARv × Md):=[(.t 2,.one (.p 3))]
def Qho:Qh:=TQ 0 0 Qg3 K
def QjM:Qh:=Qseq (tawp QaK 0 Qg5 (Qho K)) (Qho K)
def Qkd:Qh:=Qblk 0 (QjM K)
def QaA (a:List Int) (i:Int) (out:List Int):Prop:=Loop QaK 0 Qgy Qg1 (Qkd K) ⟨[(0,(zcs [TI] a)),(3,(.r [TI] 0 0 out.length)),(4,(zci i))],[(0,(.sl 3 [TI] (.dp 0 true []) out))],1⟩
theorem Qhm (a:List Int) (i:Int) (out:List Int) (h :
 (zif (decide (i<(a.length:Int))) ((((0:Int)≤i∧Int.toNat i<a.length)∧(((0:Int)≤i∧Int.toNat i<out.length)∧((0+(Int.toNat i))<out.length)))∧(QaA K a (w64 (i+(1:Int))) (List.take out.length ((out).set (0+(Int.toNat i)) (gtd (0:Int) a (Int.toNat i)))))) (K (ZU (List.take out.length out))))):QaA K a i out :=
 Loop.of (by kernel_rfl) h
theorem Qoh (a:List Int) (h :
 (((0:Int)≤(a.length:Int)∧(a.length:Int)≤big)∧(QaA K a 0 (List.take (Int.toNat (a.length:Int)) (List.replicate (Int.toNat (a.length:Int)) (0:Int)))))):Hold (tawp QaK (0+0) QiA (TQ 0 0 Qg3 K) (Ql [(.c (.sl [TI]) a)])) :=
 Hold.of (by kernel_rfl) h
theorem QkY (a:List Int) (hp:p_to (α:=List Int) a):TCon Try.prog 127 [(.c (.sl [TI]) a)] (ZU (id (α:=List Int) a)):=by
 refine Qp rfl fun hb=>tcg (Γ:=QaK) (n:=22) (sg:=Qcm.sg) Qq TOkL.nil (by kernel_rfl) (by kernel_rfl) (Qoh _ a ?_)
 refine ⟨⟨by omega,by rw [bigI];have:=QaV hp;omega⟩,?_⟩
 refine Qgd a (A:=fun ii ll=>QaA (fun r'=>r'=ZU (id (α:=List Int) a)) a ii ll) (Q:=fun z=>ZU z=ZU (id (α:=List Int) a)) hp ?_ ?_ rfl
 ·intro k x out hlt hg ho hx hA
  have hw:w64 (((k:Nat):Int)+1)=((k+1:Nat):Int):=by have:=QaV hp;rw [Q0 (by omega) (by omega)];omega
  have hlo:k<out.length:=by omega
  refine Qhm (fun r'=>r'=ZU (id (α:=List Int) a)) a ((k:Nat):Int) out ?_
  refine ⟨fun _=>?_,fun h=>absurd h (by simp;omega)⟩
  simp only [Int.toNat_natCast,Nat.zero_add,hg,hw,hlt,hlo,QgB,List.drop_zero,List.take_length,id_eq,and_true,true_and,Int.natCast_nonneg]
  first | exact hA | exact ⟨hx,hA⟩
 ·intro out ho hq
  refine Qhm (fun r'=>r'=ZU (id (α:=List Int) a)) a ((a.length:Nat):Int) out ?_
  refine ⟨fun h=>absurd h (by simp),fun _=>?_⟩
  simp only [List.drop_zero,List.take_length]
  exact hq
theorem Qkk:Qm Try.prog Qcm:=Qt fun x h=>QkY x.1 h
def Yv (t:Bool):TRes:=zre (zcb t)
def QcD:TRow:=Qn 66 [(.c (.sl [TI])),(.c (.sl [TI]))] fun x=>(none,Yv (m_eq (α:=List Int) x.1 x.2.1))
def Qat:TTab:=⟨[],false⟩
def QdK:TCode :=
 (zsq [(zsq [(.reg [zmv 11 5,zmv 12 0,zle 13 12,zbi 14 .lss 11 13]),(.cond 14 .skip (.exit 0))]),(.block 1 (zsq [(.draw [zmv 17 0,zmv 18 5,zia 19 17 18 [TI],zld 20 19 1,zmv 21 1,zmv 22 5,zia 23 21 22 [TI],zld 24 23 1,zbi 25 .neq 20 24] []),(.cond 25 (zsq [(.reg [zmv 4 (zkb false)]),.ret]) .skip)])),(.reg [zmv 15 5,zbi 16 .add 15 (zki 1),zmv 5 16])])
def Qf0:List (Nat × Md):=zdl [0,1,5]
def QgY:TCode :=
 (zsq [(.reg [zmv 4 (zkb true)]),.ret])
def Qkm:TCode :=
 (zsq [(.reg [zmv 4 (zkb false)]),(zsq [(.reg [zmv 6 0,zle 7 6,zmv 8 1,zle 9 8,zbi 10 .neq 7 9]),(.cond 10 (zsq [(.reg [zmv 4 (zkb false)]),.ret]) .skip)]),(zsq [(.reg [zmv 5 (zki 0)]),(.block 0 (.loop Qf0 QdK))]),QgY])
def QdI:List (ARv × Md):=[(.t 4,.one .d)]
def Qd1:Qh:=TQ 0 0 QdI K
def Qlm:Qh:=Qseq (tawp Qat 0 QgY (Qd1 K)) (Qd1 K)
def Qj9:Qh:=Qblk 0 (Qlm K)
def Qbf (a:List Int) (b:List Int) (i:Int):Prop:=Loop Qat 0 Qf0 QdK (Qj9 K) ⟨[(0,(zcs [TI] a)),(1,(zcs [TI] b)),(5,(zci i))],[],0⟩
theorem QkF (a:List Int) (b:List Int) (i:Int) (h :
 (zif (decide (i<(a.length:Int))) ((((0:Int)≤i∧Int.toNat i<a.length)∧((0:Int)≤i∧Int.toNat i<b.length))∧(zif ((gtd (0:Int) a (Int.toNat i)) != (gtd (0:Int) b (Int.toNat i))) (K (Yv false)) (Qbf K a b (w64 (i+(1:Int)))))) (K (Yv true)))):Qbf K a b i :=
 Loop.of (by kernel_rfl) h
theorem Qj4 (a:List Int) (b:List Int) (h :
 (zif ((a.length:Int) != (b.length:Int)) (K (Yv false)) (Qbf K a b 0))):Hold (tawp Qat (0+0) Qkm (TQ 0 0 QdI K) (Ql [(.c (.sl [TI]) a),(.c (.sl [TI]) b)])) :=
 Hold.of (by kernel_rfl) h
theorem Qio (a:List Int) (b:List Int):TCon Try.prog 66 [(.c (.sl [TI]) a),(.c (.sl [TI]) b)] (Yv (m_eq (α:=List Int) a b)):=by
 refine Qp rfl fun hb=>tcg (Γ:=Qat) (n:=26) (sg:=QcD.sg) Qq TOkL.nil (by kernel_rfl) (by kernel_rfl) (Qj4 _ a b ?_)
 exact QiO hb.1.1 (fun i h=>QkF _ a b i h) (Q:=fun x=>Yv x=Yv (m_eq (α:=List Int) a b)) rfl
theorem Qm3:Qm Try.prog QcD:=Qt fun x _=>Qio x.1 x.2.1
end
end Go.Proofs.Ytephkbajoofeoaa.Am

