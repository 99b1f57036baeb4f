/- -/
import Derived.Test.YtephkbajoofeoaaWDGF
namespace Go.Proofs.Ytephkbajoofeoaa.Am
open Go Go.RowKit Go.Proofs.Ytephkbajoofeoaa
set_option linter.all false
noncomputable section
variable (K:TRes→Prop)
def Jk (t:Int):TRes:=zre (zci t)
def Qez:TRow:=Qj 124 [(.c (.sl [TI])),(.c TI)] fun x=>(some (p_sz (α:=List Int) x.1 x.2.1),Jk (m_sz (α:=List Int) x.1 x.2.1))
def Qfh:TTab:=⟨[],false⟩
def QlJ:TCode :=
 (zsq [(.reg [zmv 4 (zki 0)]),(.reg [zmv 5 1,zmv 6 0,zle 7 6,zbi 8 .sub 5 7,zmv 1 8]),(zsq [(.reg [zmv 9 1,zbi 10 .lss 9 (zki 0)]),(.cond 10 (zsq [(.reg [zmv 4 (zki (-1))]),.ret]) .skip)]),(.reg [zmv 11 1,zmv 4 11]),.ret])
def Qqq:List (ARv × Md):=[(.t 4,.one .d)]
theorem QmB (a:List Int) (left:Int) (h :
 (zif (decide ((w64 (left-(a.length:Int)))<(0:Int))) (K (Jk (-1:Int))) (K (Jk (w64 (left-(a.length:Int))))))):Hold (tawp Qfh (0+0) QlJ (TQ 0 0 Qqq K) (Qh [(.c (.sl [TI]) a),(.c TI left)])) :=
 Hold.of (by kernel_rfl) h
theorem QpC (a:List Int) (left:Int) (hp:p_sz (α:=List Int) a left):TCon Try.prog 124 [(.c (.sl [TI]) a),(.c TI left)] (Jk (m_sz (α:=List Int) a left)):=by
 refine Ql rfl fun hb=>tcg (Γ:=Qfh) (n:=12) (sg:=Qez.sg) Qm TOkL.nil (by kernel_rfl) (by kernel_rfl) (QmB _ a left ?_)
 exact Qrt (Q:=fun x=>Jk x=Jk (m_sz (α:=List Int) a left)) (fun _=>rfl) hp hb.1.1 rfl
theorem Qsu:Qi Try.prog Qez:=Qn fun x h=>QpC x.1 x.2.1 h
def Yj (t:(List Int)):TRes:=⟨(.r [TI] 0 0 t.length),[(.sl 3 [TI] (.dp 0 true []) t)],[],false,[]⟩
def Qdx:TRow:=Qj 127 [(.c (.sl [TI]))] fun x=>(some (p_to (α:=List Int) x.1),Yj (id (α:=List Int) x.1))
def Qcx:TTab:=⟨[],true⟩
def Qhu:TCode :=
 (zsq [(zsq [(.reg [zmv 8 4,zmv 9 0,zle 10 9,zbi 11 .lss 8 10]),(.cond 11 .skip (.exit 0))]),(.block 1 (.reg [zmv 14 3,zmv 15 4,zmv 16 0,zmv 17 4,zia 18 16 17 [TI],zld 19 18 1,zia 20 14 15 [TI],zst 20 19 1])),(.reg [zmv 12 4,zbi 13 .add 12 (zki 1),zmv 4 13])])
def Qha:List (Nat × Md):=[(0,.one .d),(3,.one .f),(4,.one .d)]
def Qhd:TCode :=
 (zsq [(.reg [zmv 21 3,zmv 2 21]),.ret])
def Qph:TCode :=
 (zsq [(.reg [zmv 2 (.k (.n [TI]))]),(.reg [zmv 5 0,zle 6 5,zop 7 (.mk 3 [TI] [(zci 0)] 6),zmv 3 7]),(zsq [(.reg [zmv 4 (zki 0)]),(.block 0 (.loop Qha Qhu))]),Qhd])
def Qks:List (ARv × Md):=[(.t 2,.one (.p 3))]
def Qj3:Qc:=TQ 0 0 Qks K
def Qrz:Qc:=Qseq (tawp Qcx 0 Qhd (Qj3 K)) (Qj3 K)
def QnT:Qc:=Qblk 0 (Qrz K)
def Qbd (a:List Int) (i:Int) (out:List Int):Prop:=Loop Qcx 0 Qha Qhu (QnT K) ⟨[(0,(zcs [TI] a)),(3,(.r [TI] 0 0 out.length)),(4,(zci i))],[(0,(.sl 3 [TI] (.dp 0 true []) out))],1⟩
theorem QhG (a:List Int) (i:Int) (out:List Int) (h :
 (zif (decide (i<(a.length:Int))) ((((0:Int)≤i∧Int.toNat i<a.length)∧(((0:Int)≤i∧Int.toNat i<out.length)∧((0+(Int.toNat i))<out.length)))∧(Qbd K a (w64 (i+(1:Int))) (List.take out.length ((out).set (0+(Int.toNat i)) (gtd (0:Int) a (Int.toNat i)))))) (K (Yj (List.take out.length out))))):Qbd K a i out :=
 Loop.of (by kernel_rfl) h
theorem QlU (a:List Int) (h :
 (((0:Int)≤(a.length:Int)∧(a.length:Int)≤big)∧(Qbd K a 0 (List.take (Int.toNat (a.length:Int)) (List.replicate (Int.toNat (a.length:Int)) (0:Int)))))):Hold (tawp Qcx (0+0) Qph (TQ 0 0 Qks K) (Qh [(.c (.sl [TI]) a)])) :=
 Hold.of (by kernel_rfl) h
theorem Qr3 (a:List Int) (hp:p_to (α:=List Int) a):TCon Try.prog 127 [(.c (.sl [TI]) a)] (Yj (id (α:=List Int) a)):=by
 refine Ql rfl fun hb=>tcg (Γ:=Qcx) (n:=22) (sg:=Qdx.sg) Qm TOkL.nil (by kernel_rfl) (by kernel_rfl) (QlU _ a ?_)
 refine ⟨⟨by omega,by rw [bigI];have:=QbQ hp;omega⟩,?_⟩
 refine Qkv a (A:=fun ii ll=>Qbd (fun r'=>r'=Yj (id (α:=List Int) a)) a ii ll) (Q:=fun z=>Yj z=Yj (id (α:=List Int) a)) hp ?_ ?_ rfl
 ·intro k x out hlt hg ho hx hA
  have hw:w64 (((k:Nat):Int)+1)=((k+1:Nat):Int):=by have:=QbQ hp;rw [Qr (by omega) (by omega)];omega
  have hlo:k<out.length:=by omega
  refine QhG (fun r'=>r'=Yj (id (α:=List Int) a)) a ((k:Nat):Int) out ?_
  refine ⟨fun _=>?_,fun h=>absurd h (by simp;omega)⟩
  simp only [Int.toNat_natCast,Nat.zero_add,hg,hw,hlt,hlo,QfV,List.drop_zero,List.take_length,id_eq,and_true,true_and,Int.natCast_nonneg]
  first | exact hA | exact ⟨hx,hA⟩
 ·intro out ho hq
  refine QhG (fun r'=>r'=Yj (id (α:=List Int) a)) a ((a.length:Nat):Int) out ?_
  refine ⟨fun h=>absurd h (by simp),fun _=>?_⟩
  simp only [List.drop_zero,List.take_length]
  exact hq
theorem QnV:Qi Try.prog Qdx:=Qn fun x h=>Qr3 x.1 h
def YI (t:Bool):TRes:=zre (zcb t)
def QaZ:TRow:=Qj 66 [(.c (.sl [TI])),(.c (.sl [TI]))] fun x=>(none,YI (m_eq (α:=List Int) x.1 x.2.1))
def Qb3:TTab:=⟨[],false⟩
def QhE:TCode :=
 (zsq [(zsq [(.reg [zmv 11 5,zmv 12 0,zle 13 12,zbi 14 .lss 11 13]),(.cond 14 .skip (.exit 0))]),(.block 1 (zsq [(.draw [zmv 17 0,zmv 18 5,zia 19 17 18 [TI],zld 20 19 1,zmv 21 1,zmv 22 5,zia 23 21 22 [TI],zld 24 23 1,zbi 25 .neq 20 24] []),(.cond 25 (zsq [(.reg [zmv 4 (zkb false)]),.ret]) .skip)])),(.reg [zmv 15 5,zbi 16 .add 15 (zki 1),zmv 5 16])])
def QhS:List (Nat × Md):=zdl [0,1,5]
def QhK:TCode :=
 (zsq [(.reg [zmv 4 (zkb true)]),.ret])
def QmM:TCode :=
 (zsq [(.reg [zmv 4 (zkb false)]),(zsq [(.reg [zmv 6 0,zle 7 6,zmv 8 1,zle 9 8,zbi 10 .neq 7 9]),(.cond 10 (zsq [(.reg [zmv 4 (zkb false)]),.ret]) .skip)]),(zsq [(.reg [zmv 5 (zki 0)]),(.block 0 (.loop QhS QhE))]),QhK])
def Qi2:List (ARv × Md):=[(.t 4,.one .d)]
def Qgv:Qc:=TQ 0 0 Qi2 K
def Qqz:Qc:=Qseq (tawp Qb3 0 QhK (Qgv K)) (Qgv K)
def Ql1:Qc:=Qblk 0 (Qqz K)
def Qee (a:List Int) (b:List Int) (i:Int):Prop:=Loop Qb3 0 QhS QhE (Ql1 K) ⟨[(0,(zcs [TI] a)),(1,(zcs [TI] b)),(5,(zci i))],[],0⟩
theorem QnW (a:List Int) (b:List Int) (i:Int) (h :
 (zif (decide (i<(a.length:Int))) ((((0:Int)≤i∧Int.toNat i<a.length)∧((0:Int)≤i∧Int.toNat i<b.length))∧(zif ((gtd (0:Int) a (Int.toNat i)) != (gtd (0:Int) b (Int.toNat i))) (K (YI false)) (Qee K a b (w64 (i+(1:Int)))))) (K (YI true)))):Qee K a b i :=
 Loop.of (by kernel_rfl) h
theorem Qpy (a:List Int) (b:List Int) (h :
 (zif ((a.length:Int) != (b.length:Int)) (K (YI false)) (Qee K a b 0))):Hold (tawp Qb3 (0+0) QmM (TQ 0 0 Qi2 K) (Qh [(.c (.sl [TI]) a),(.c (.sl [TI]) b)])) :=
 Hold.of (by kernel_rfl) h
theorem Ql5 (a:List Int) (b:List Int):TCon Try.prog 66 [(.c (.sl [TI]) a),(.c (.sl [TI]) b)] (YI (m_eq (α:=List Int) a b)):=by
 refine Ql rfl fun hb=>tcg (Γ:=Qb3) (n:=26) (sg:=QaZ.sg) Qm TOkL.nil (by kernel_rfl) (by kernel_rfl) (Qpy _ a b ?_)
 exact Qoz hb.1.1 (fun i h=>QnW _ a b i h) (Q:=fun x=>YI x=YI (m_eq (α:=List Int) a b)) rfl
theorem Qiu:Qi Try.prog QaZ:=Qn fun x _=>Ql5 x.1 x.2.1
end
end Go.Proofs.Ytephkbajoofeoaa.Am

