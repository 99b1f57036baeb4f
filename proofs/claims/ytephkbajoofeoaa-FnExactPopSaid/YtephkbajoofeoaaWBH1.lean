/- -/
import Derived.Test.YtephkbajoofeoaaWBGF
namespace Go.Proofs.Ytephkbajoofeoaa.Am
open Go Go.RowKit Go.Proofs.Ytephkbajoofeoaa
set_option linter.all false
noncomputable section
variable (K:TRes→Prop)
def YM (t:Int):TRes:=zre (zci t)
def QbH:TRow:=Qm 124 [(.c (.sl [TI])),(.c TI)] fun x=>(some (p_sz (α:=List Int) x.1 x.2.1),YM (m_sz (α:=List Int) x.1 x.2.1))
def QfV:TTab:=⟨[],false⟩
def Qi5:TCode :=
 (zsq [(.reg [zmv 4 (zki 0)]),(.reg [zmv 5 1,zmv 6 0,zle 7 6,zbi 8 .sub 5 7,zmv 1 8]),(zsq [(.reg [zmv 9 1,zbi 10 .lss 9 (zki 0)]),(.cond 10 (zsq [(.reg [zmv 4 (zki (-1))]),.ret]) .skip)]),(.reg [zmv 11 1,zmv 4 11]),.ret])
def Qkv:List (ARv × Md):=[(.t 4,.one .d)]
theorem QnB (a:List Int) (left:Int) (h :
 (zif (decide ((w64 (left-(a.length:Int)))<(0:Int))) (K (YM (-1:Int))) (K (YM (w64 (left-(a.length:Int))))))):Hold (tawp QfV (0+0) Qi5 (TQ 0 0 Qkv K) (Qk [(.c (.sl [TI]) a),(.c TI left)])) :=
 Hold.of (by kernel_rfl) h
theorem Qmu (a:List Int) (left:Int) (hp:p_sz (α:=List Int) a left):TCon Try.prog 124 [(.c (.sl [TI]) a),(.c TI left)] (YM (m_sz (α:=List Int) a left)):=by
 refine Qr rfl fun hb=>tcg (Γ:=QfV) (n:=12) (sg:=QbH.sg) Qq TOkL.nil (by kernel_rfl) (by kernel_rfl) (QnB _ a left ?_)
 exact QlT (Q:=fun x=>YM x=YM (m_sz (α:=List Int) a left)) (fun _=>rfl) hp hb.1.1 rfl
theorem Qkx:Qn Try.prog QbH:=Qs fun x h=>Qmu x.1 x.2.1 h
def ZT (t:(List Int)):TRes:=⟨(.r [TI] 0 0 t.length),[(.sl 3 [TI] (.dp 0 true []) t)],[],false,[]⟩
def Qby:TRow:=Qm 127 [(.c (.sl [TI]))] fun x=>(some (p_to (α:=List Int) x.1),ZT (id (α:=List Int) x.1))
def Qa1:TTab:=⟨[],true⟩
def Qdz:TCode :=
 (zsq [(zsq [(.reg [zmv 8 4,zmv 9 0,zle 10 9,zbi 11 .lss 8 10]),(.cond 11 .skip (.exit 0))]),(.block 1 (.reg [zmv 14 3,zmv 15 4,zmv 16 0,zmv 17 4,zia 18 16 17 [TI],zld 19 18 1,zia 20 14 15 [TI],zst 20 19 1])),(.reg [zmv 12 4,zbi 13 .add 12 (zki 1),zmv 4 13])])
def Qf1:List (Nat × Md):=[(0,.one .d),(3,.one .f),(4,.one .d)]
def Qg6:TCode :=
 (zsq [(.reg [zmv 21 3,zmv 2 21]),.ret])
def Qjv:TCode :=
 (zsq [(.reg [zmv 2 (.k (.n [TI]))]),(.reg [zmv 5 0,zle 6 5,zop 7 (.mk 3 [TI] [(zci 0)] 6),zmv 3 7]),(zsq [(.reg [zmv 4 (zki 0)]),(.block 0 (.loop Qf1 Qdz))]),Qg6])
def Qhn:List (ARv × Md):=[(.t 2,.one (.p 3))]
def QfW:Qh:=TQ 0 0 Qhn K
def QkQ:Qh:=Qseq (tawp Qa1 0 Qg6 (QfW K)) (QfW K)
def Qiz:Qh:=Qblk 0 (QkQ K)
def QaB (a:List Int) (i:Int) (out:List Int):Prop:=Loop Qa1 0 Qf1 Qdz (Qiz K) ⟨[(0,(zcs [TI] a)),(3,(.r [TI] 0 0 out.length)),(4,(zci i))],[(0,(.sl 3 [TI] (.dp 0 true []) out))],1⟩
theorem QfP (a:List Int) (i:Int) (out:List Int) (h :
 (zif (decide (i<(a.length:Int))) ((((0:Int)≤i∧Int.toNat i<a.length)∧(((0:Int)≤i∧Int.toNat i<out.length)∧((0+(Int.toNat i))<out.length)))∧(QaB K a (w64 (i+(1:Int))) (List.take out.length ((out).set (0+(Int.toNat i)) (gtd (0:Int) a (Int.toNat i)))))) (K (ZT (List.take out.length out))))):QaB K a i out :=
 Loop.of (by kernel_rfl) h
theorem QnY (a:List Int) (h :
 (((0:Int)≤(a.length:Int)∧(a.length:Int)≤big)∧(QaB K a 0 (List.take (Int.toNat (a.length:Int)) (List.replicate (Int.toNat (a.length:Int)) (0:Int)))))):Hold (tawp Qa1 (0+0) Qjv (TQ 0 0 Qhn K) (Qk [(.c (.sl [TI]) a)])) :=
 Hold.of (by kernel_rfl) h
theorem Qi0 (a:List Int) (hp:p_to (α:=List Int) a):TCon Try.prog 127 [(.c (.sl [TI]) a)] (ZT (id (α:=List Int) a)):=by
 refine Qr rfl fun hb=>tcg (Γ:=Qa1) (n:=22) (sg:=Qby.sg) Qq TOkL.nil (by kernel_rfl) (by kernel_rfl) (QnY _ a ?_)
 refine ⟨⟨by omega,by rw [bigI];have:=QaG hp;omega⟩,?_⟩
 refine QdA a (A:=fun ii ll=>QaB (fun r'=>r'=ZT (id (α:=List Int) a)) a ii ll) (Q:=fun z=>ZT z=ZT (id (α:=List Int) a)) hp ?_ ?_ rfl
 ·intro k x out hlt hg ho hx hA
  have hw:w64 (((k:Nat):Int)+1)=((k+1:Nat):Int):=by have:=QaG hp;rw [QZ (by omega) (by omega)];omega
  have hlo:k<out.length:=by omega
  refine QfP (fun r'=>r'=ZT (id (α:=List Int) a)) a ((k:Nat):Int) out ?_
  refine ⟨fun _=>?_,fun h=>absurd h (by simp;omega)⟩
  simp only [Int.toNat_natCast,Nat.zero_add,hg,hw,hlt,hlo,QhW,List.drop_zero,List.take_length,id_eq,and_true,true_and,Int.natCast_nonneg]
  first | exact hA | exact ⟨hx,hA⟩
 ·intro out ho hq
  refine QfP (fun r'=>r'=ZT (id (α:=List Int) a)) a ((a.length:Nat):Int) out ?_
  refine ⟨fun h=>absurd h (by simp),fun _=>?_⟩
  simp only [List.drop_zero,List.take_length]
  exact hq
theorem QiX:Qn Try.prog Qby:=Qs fun x h=>Qi0 x.1 h
def Yr (t:Bool):TRes:=zre (zcb t)
def Qcc:TRow:=Qm 66 [(.c (.sl [TI])),(.c (.sl [TI]))] fun x=>(none,Yr (m_eq (α:=List Int) x.1 x.2.1))
def Qam:TTab:=⟨[],false⟩
def QgX:TCode :=
 (zsq [(zsq [(.reg [zmv 11 5,zmv 12 0,zle 13 12,zbi 14 .lss 11 13]),(.cond 14 .skip (.exit 0))]),(.block 1 (zsq [(.draw [zmv 17 0,zmv 18 5,zia 19 17 18 [TI],zld 20 19 1,zmv 21 1,zmv 22 5,zia 23 21 22 [TI],zld 24 23 1,zbi 25 .neq 20 24] []),(.cond 25 (zsq [(.reg [zmv 4 (zkb false)]),.ret]) .skip)])),(.reg [zmv 15 5,zbi 16 .add 15 (zki 1),zmv 5 16])])
def QfD:List (Nat × Md):=zdl [0,1,5]
def Qdt:TCode :=
 (zsq [(.reg [zmv 4 (zkb true)]),.ret])
def QnW:TCode :=
 (zsq [(.reg [zmv 4 (zkb false)]),(zsq [(.reg [zmv 6 0,zle 7 6,zmv 8 1,zle 9 8,zbi 10 .neq 7 9]),(.cond 10 (zsq [(.reg [zmv 4 (zkb false)]),.ret]) .skip)]),(zsq [(.reg [zmv 5 (zki 0)]),(.block 0 (.loop QfD QgX))]),Qdt])
def QfI:List (ARv × Md):=[(.t 4,.one .d)]
def QeG:Qh:=TQ 0 0 QfI K
def QkM:Qh:=Qseq (tawp Qam 0 Qdt (QeG K)) (QeG K)
def QkA:Qh:=Qblk 0 (QkM K)
def Qch (a:List Int) (b:List Int) (i:Int):Prop:=Loop Qam 0 QfD QgX (QkA K) ⟨[(0,(zcs [TI] a)),(1,(zcs [TI] b)),(5,(zci i))],[],0⟩
theorem Qmq (a:List Int) (b:List Int) (i:Int) (h :
 (zif (decide (i<(a.length:Int))) ((((0:Int)≤i∧Int.toNat i<a.length)∧((0:Int)≤i∧Int.toNat i<b.length))∧(zif ((gtd (0:Int) a (Int.toNat i)) != (gtd (0:Int) b (Int.toNat i))) (K (Yr false)) (Qch K a b (w64 (i+(1:Int)))))) (K (Yr true)))):Qch K a b i :=
 Loop.of (by kernel_rfl) h
theorem QjA (a:List Int) (b:List Int) (h :
 (zif ((a.length:Int) != (b.length:Int)) (K (Yr false)) (Qch K a b 0))):Hold (tawp Qam (0+0) QnW (TQ 0 0 QfI K) (Qk [(.c (.sl [TI]) a),(.c (.sl [TI]) b)])) :=
 Hold.of (by kernel_rfl) h
theorem Qmb (a:List Int) (b:List Int):TCon Try.prog 66 [(.c (.sl [TI]) a),(.c (.sl [TI]) b)] (Yr (m_eq (α:=List Int) a b)):=by
 refine Qr rfl fun hb=>tcg (Γ:=Qam) (n:=26) (sg:=Qcc.sg) Qq TOkL.nil (by kernel_rfl) (by kernel_rfl) (QjA _ a b ?_)
 exact Ql4 hb.1.1 (fun i h=>Qmq _ a b i h) (Q:=fun x=>Yr x=Yr (m_eq (α:=List Int) a b)) rfl
theorem Qi1:Qn Try.prog Qcc:=Qs fun x _=>Qmb x.1 x.2.1
end
end Go.Proofs.Ytephkbajoofeoaa.Am

