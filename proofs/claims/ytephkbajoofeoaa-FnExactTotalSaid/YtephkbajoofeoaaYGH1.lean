/- -/
import Derived.Test.YtephkbajoofeoaaYGG8
namespace Go.Proofs.Ytephkbajoofeoaa.Am
open Go Go.RowKit Go.Proofs.Ytephkbajoofeoaa
set_option linter.all false
noncomputable section
variable (K:TRes→Prop)
def YK (t:Int):TRes:=zre (zci t)
def JC:TRow:=Qj 124 [(.c (.sl [TI])),(.c TI)] fun x=>(some (p_sz (α:=List Int) x.1 x.2.1),YK (m_sz (α:=List Int) x.1 x.2.1))
def Qj3:List TRow:=[]
def Qic:TCode :=
 (zsq [(.reg [zmv 4 (zki 0)]),(.reg [zmv 5 1,zmv 6 0,zle 7 6,zbi 8 .sub 5 7,zmv 1 8]),(zsq [(.reg [zmv 9 1,zbi 10 .lss 9 (zki 0)]),(.cond 10 (zsq [(.reg [zmv 4 (zki (-1))]),.ret]) .skip)]),(.reg [zmv 11 1,zmv 4 11]),.ret])
def QlR:List (ARv × Md):=[(.t 4,.one .d)]
theorem Qiq (a:List Int) (left:Int) (h :
 (zif (decide ((w64 (left-(a.length:Int)))<(0:Int))) (K (YK (-1:Int))) (K (YK (w64 (left-(a.length:Int))))))):Hold (tawp Qj3 (0+0) Qic (TQ 0 0 QlR K) (Qh [(.c (.sl [TI]) a),(.c TI left)])) :=
 Hold.of (by kernel_rfl) h
theorem Qln (a:List Int) (left:Int) (hp:p_sz (α:=List Int) a left):TCon Try.prog 124 [(.c (.sl [TI]) a),(.c TI left)] (YK (m_sz (α:=List Int) a left)):=by
 refine Ql rfl fun hb=>tcg (n:=12) (sg:=JC.sg) Qm TOk.nil (by kernel_rfl) (by kernel_rfl) (Qiq _ a left ?_)
 exact QgO (Q:=fun x=>YK x=YK (m_sz (α:=List Int) a left)) (fun _=>rfl) hp hb.1.1 rfl
theorem QfM:Qi Try.prog JC:=Qn fun x h=>Qln x.1 x.2.1 h
def Yv (t:Int):TRes:=zre (zci t)
def Qch:TRow:=Qj 147 [(.c (.sl [.bool])),(.c TI)] fun x=>(some (p_sz (α:=List Bool) x.1 x.2.1),Yv (m_sz (α:=List Bool) x.1 x.2.1))
def QmN:List TRow:=[]
def Qme:TCode :=
 (zsq [(.reg [zmv 4 (zki 0)]),(.reg [zmv 5 1,zmv 6 0,zle 7 6,zbi 8 .sub 5 7,zmv 1 8]),(zsq [(.reg [zmv 9 1,zbi 10 .lss 9 (zki 0)]),(.cond 10 (zsq [(.reg [zmv 4 (zki (-1))]),.ret]) .skip)]),(.reg [zmv 11 1,zmv 4 11]),.ret])
def Qmh:List (ARv × Md):=[(.t 4,.one .d)]
theorem Ql6 (a:List Bool) (left:Int) (h :
 (zif (decide ((w64 (left-(a.length:Int)))<(0:Int))) (K (Yv (-1:Int))) (K (Yv (w64 (left-(a.length:Int))))))):Hold (tawp QmN (0+0) Qme (TQ 0 0 Qmh K) (Qh [(.c (.sl [.bool]) a),(.c TI left)])) :=
 Hold.of (by kernel_rfl) h
theorem QhL (a:List Bool) (left:Int) (hp:p_sz (α:=List Bool) a left):TCon Try.prog 147 [(.c (.sl [.bool]) a),(.c TI left)] (Yv (m_sz (α:=List Bool) a left)):=by
 refine Ql rfl fun hb=>tcg (n:=12) (sg:=Qch.sg) Qm TOk.nil (by kernel_rfl) (by kernel_rfl) (Ql6 _ a left ?_)
 exact QgO (Q:=fun x=>Yv x=Yv (m_sz (α:=List Bool) a left)) (fun _=>rfl) hp hb.1.1 rfl
theorem QlA:Qi Try.prog Qch:=Qn fun x h=>QhL x.1 x.2.1 h
def Y1 (t:(List Int)):TRes:=zra (zcs [TI] t)
def JK:TRow:=Qj 127 [(.c (.sl [TI]))] fun x=>(some (p_to (α:=List Int) x.1),Y1 (id (α:=List Int) x.1))
def QbZ:List TRow:=[]
def Qdg:TCode :=
 (zsq [(zsq [(.reg [zmv 8 4,zmv 9 0,zle 10 9,zbi 11 .lss 8 10]),(.cond 11 .skip (.exit 0))]),(.block 1 (.reg [zmv 14 3,zmv 15 4,zmv 16 0,zmv 17 4,zia 18 16 17 [TI],zld 19 18 1,zia 20 14 15 [TI],zst 20 19 1])),(.reg [zmv 12 4,zbi 13 .add 12 (zki 1),zmv 4 13])])
def QfZ:List (Nat × Md):=[(0,.one .d),(3,.one .f),(4,.one .d)]
def QdT:TCode :=
 (zsq [(.reg [zmv 21 3,zmv 2 21]),.ret])
def Qls:TCode :=
 (zsq [(.reg [zmv 2 (.k (.n [TI]))]),(.reg [zmv 5 0,zle 6 5,zop 7 (.mk 3 [TI] [(zci 0)] 6),zmv 3 7]),(zsq [(.reg [zmv 4 (zki 0)]),(.block 0 (.loop QfZ Qdg))]),QdT])
def QgG:List (ARv × Md):=[(.t 2,.one .d)]
def QdU:Qd:=TQ 0 0 QgG K
def QkT:Qd:=Qseq (tawp QbZ 0 QdT (QdU K)) (QdU K)
def QmV:Qd:=Qblk 0 (QkT K)
def Qa2 (a:List Int) (i:Int) (out:List Int):Prop:=Loop QbZ 0 QfZ Qdg (QmV K) ⟨[(0,(zcs [TI] a)),(3,(.r [TI] 0 0 out.length)),(4,(zci i))],[(0,(.sl 3 [TI] true out))],1⟩
theorem Qku (a:List Int) (i:Int) (out:List Int) (h :
 (zif (decide (i<(a.length:Int))) ((((0:Int)≤i∧Int.toNat i<a.length)∧(((0:Int)≤i∧Int.toNat i<out.length)∧((0+(Int.toNat i))<out.length)))∧(Qa2 K a (w64 (i+(1:Int))) (List.take out.length ((out).set (0+(Int.toNat i)) (gtd (0:Int) a (Int.toNat i)))))) (K (Y1 (List.take out.length (List.drop 0 out)))))):Qa2 K a i out :=
 Loop.of (by kernel_rfl) h
theorem QhH (a:List Int) (h :
 (((0:Int)≤(a.length:Int)∧(a.length:Int)≤big)∧(Qa2 K a 0 (List.take (Int.toNat (a.length:Int)) (List.replicate (Int.toNat (a.length:Int)) (0:Int)))))):Hold (tawp QbZ (0+0) Qls (TQ 0 0 QgG K) (Qh [(.c (.sl [TI]) a)])) :=
 Hold.of (by kernel_rfl) h
theorem QnJ (a:List Int) (hp:p_to (α:=List Int) a):TCon Try.prog 127 [(.c (.sl [TI]) a)] (Y1 (id (α:=List Int) a)):=by
 refine Ql rfl fun hb=>tcg (n:=22) (sg:=JK.sg) Qm TOk.nil (by kernel_rfl) (by kernel_rfl) (QhH _ a ?_)
 exact Qfh (Q:=fun x=>Y1 x=Y1 (id (α:=List Int) a)) (0:Int) hp (fun i out h=>Qku _ a i out h) rfl
theorem Qe8:Qi Try.prog JK:=Qn fun x h=>QnJ x.1 h
def YV (t:(List Bool)):TRes:=zra (zcs [.bool] t)
def Qa3:TRow:=Qj 149 [(.c (.sl [.bool]))] fun x=>(some (p_to (α:=List Bool) x.1),YV (id (α:=List Bool) x.1))
def Qcu:List TRow:=[]
def QeH:TCode :=
 (zsq [(zsq [(.reg [zmv 8 4,zmv 9 0,zle 10 9,zbi 11 .lss 8 10]),(.cond 11 .skip (.exit 0))]),(.block 1 (.reg [zmv 14 3,zmv 15 4,zmv 16 0,zmv 17 4,zia 18 16 17 [.bool],zld 19 18 1,zia 20 14 15 [.bool],zst 20 19 1])),(.reg [zmv 12 4,zbi 13 .add 12 (zki 1),zmv 4 13])])
def QgM:List (Nat × Md):=[(0,.one .d),(3,.one .f),(4,.one .d)]
def QgK:TCode :=
 (zsq [(.reg [zmv 21 3,zmv 2 21]),.ret])
def Qmv:TCode :=
 (zsq [(.reg [zmv 2 (.k (.n [.bool]))]),(.reg [zmv 5 0,zle 6 5,zop 7 (.mk 4 [.bool] [(zcb false)] 6),zmv 3 7]),(zsq [(.reg [zmv 4 (zki 0)]),(.block 0 (.loop QgM QeH))]),QgK])
def Qer:List (ARv × Md):=[(.t 2,.one .d)]
def QeG:Qd:=TQ 0 0 Qer K
def Qko:Qd:=Qseq (tawp Qcu 0 QgK (QeG K)) (QeG K)
def Qkq:Qd:=Qblk 0 (Qko K)
def Qa4 (a:List Bool) (i:Int) (out:List Bool):Prop:=Loop Qcu 0 QgM QeH (Qkq K) ⟨[(0,(zcs [.bool] a)),(3,(.r [.bool] 0 0 out.length)),(4,(zci i))],[(0,(.sl 4 [.bool] true out))],1⟩
theorem Qki (a:List Bool) (i:Int) (out:List Bool) (h :
 (zif (decide (i<(a.length:Int))) ((((0:Int)≤i∧Int.toNat i<a.length)∧(((0:Int)≤i∧Int.toNat i<out.length)∧((0+(Int.toNat i))<out.length)))∧(Qa4 K a (w64 (i+(1:Int))) (List.take out.length ((out).set (0+(Int.toNat i)) (gtd (false:Bool) a (Int.toNat i)))))) (K (YV (List.take out.length (List.drop 0 out)))))):Qa4 K a i out :=
 Loop.of (by kernel_rfl) h
theorem Qkw (a:List Bool) (h :
 (((0:Int)≤(a.length:Int)∧(a.length:Int)≤big)∧(Qa4 K a 0 (List.take (Int.toNat (a.length:Int)) (List.replicate (Int.toNat (a.length:Int)) false))))):Hold (tawp Qcu (0+0) Qmv (TQ 0 0 Qer K) (Qh [(.c (.sl [.bool]) a)])) :=
 Hold.of (by kernel_rfl) h
theorem Qjk (a:List Bool) (hp:p_to (α:=List Bool) a):TCon Try.prog 149 [(.c (.sl [.bool]) a)] (YV (id (α:=List Bool) a)):=by
 refine Ql rfl fun hb=>tcg (n:=22) (sg:=Qa3.sg) Qm TOk.nil (by kernel_rfl) (by kernel_rfl) (Qkw _ a ?_)
 exact Qfh (Q:=fun x=>YV x=YV (id (α:=List Bool) a)) (false:Bool) hp (fun i out h=>Qki _ a i out h) rfl
theorem QlG:Qi Try.prog Qa3:=Qn fun x h=>Qjk x.1 h
def Yn (t:Bool):TRes:=zre (zcb t)
def Jw:TRow:=Qj 66 [(.c (.sl [TI])),(.c (.sl [TI]))] fun x=>(none,Yn (m_eq (α:=List Int) x.1 x.2.1))
def Qbh:List TRow:=[]
def QdZ:TCode :=
 (zsq [(zsq [(.reg [zmv 11 5,zmv 12 0,zle 13 12,zbi 14 .lss 11 13]),(.cond 14 .skip (.exit 0))]),(.block 1 (zsq [(.draw [zmv 17 0,zmv 18 5,zia 19 17 18 [TI],zld 20 19 1,zmv 21 1,zmv 22 5,zia 23 21 22 [TI],zld 24 23 1,zbi 25 .neq 20 24] []),(.cond 25 (zsq [(.reg [zmv 4 (zkb false)]),.ret]) .skip)])),(.reg [zmv 15 5,zbi 16 .add 15 (zki 1),zmv 5 16])])
def Qez:List (Nat × Md):=zdl [0,1,5]
def Qdt:TCode :=
 (zsq [(.reg [zmv 4 (zkb true)]),.ret])
def Qn6:TCode :=
 (zsq [(.reg [zmv 4 (zkb false)]),(zsq [(.reg [zmv 6 0,zle 7 6,zmv 8 1,zle 9 8,zbi 10 .neq 7 9]),(.cond 10 (zsq [(.reg [zmv 4 (zkb false)]),.ret]) .skip)]),(zsq [(.reg [zmv 5 (zki 0)]),(.block 0 (.loop Qez QdZ))]),Qdt])
def Qf0:List (ARv × Md):=[(.t 4,.one .d)]
def Qf9:Qd:=TQ 0 0 Qf0 K
def QlX:Qd:=Qseq (tawp Qbh 0 Qdt (Qf9 K)) (Qf9 K)
def Qld:Qd:=Qblk 0 (QlX K)
def QcX (a:List Int) (b:List Int) (i:Int):Prop:=Loop Qbh 0 Qez QdZ (Qld K) ⟨[(0,(zcs [TI] a)),(1,(zcs [TI] b)),(5,(zci i))],[],0⟩
theorem Qnn (a:List Int) (b:List Int) (i:Int) (h :
 (zif (decide (i<(a.length:Int))) ((((0:Int)≤i∧Int.toNat i<a.length)∧((0:Int)≤i∧Int.toNat i<b.length))∧(zif ((gtd (0:Int) a (Int.toNat i)) != (gtd (0:Int) b (Int.toNat i))) (K (Yn false)) (QcX K a b (w64 (i+(1:Int)))))) (K (Yn true)))):QcX K a b i :=
 Loop.of (by kernel_rfl) h
theorem QmX (a:List Int) (b:List Int) (h :
 (zif ((a.length:Int) != (b.length:Int)) (K (Yn false)) (QcX K a b 0))):Hold (tawp Qbh (0+0) Qn6 (TQ 0 0 Qf0 K) (Qh [(.c (.sl [TI]) a),(.c (.sl [TI]) b)])) :=
 Hold.of (by kernel_rfl) h
theorem QnF (a:List Int) (b:List Int):TCon Try.prog 66 [(.c (.sl [TI]) a),(.c (.sl [TI]) b)] (Yn (m_eq (α:=List Int) a b)):=by
 refine Ql rfl fun hb=>tcg (n:=26) (sg:=Jw.sg) Qm TOk.nil (by kernel_rfl) (by kernel_rfl) (QmX _ a b ?_)
 exact Qjv hb.1.1 (fun i h=>Qnn _ a b i h) (Q:=fun x=>Yn x=Yn (m_eq (α:=List Int) a b)) rfl
theorem Qf4:Qi Try.prog Jw:=Qn fun x _=>QnF x.1 x.2.1
def Yl (t:Bool):TRes:=zre (zcb t)
def Qca:TRow:=Qj 150 [(.c (.sl [.bool])),(.c (.sl [.bool]))] fun x=>(none,Yl (m_eq (α:=List Bool) x.1 x.2.1))
def QaH:List TRow:=[]
def Qev:TCode :=
 (zsq [(zsq [(.reg [zmv 11 5,zmv 12 0,zle 13 12,zbi 14 .lss 11 13]),(.cond 14 .skip (.exit 0))]),(.block 1 (zsq [(.draw [zmv 17 0,zmv 18 5,zia 19 17 18 [.bool],zld 20 19 1,zmv 21 1,zmv 22 5,zia 23 21 22 [.bool],zld 24 23 1,zop 25 (.eqb true 20 24)] []),(.cond 25 (zsq [(.reg [zmv 4 (zkb false)]),.ret]) .skip)])),(.reg [zmv 15 5,zbi 16 .add 15 (zki 1),zmv 5 16])])
def Qf1:List (Nat × Md):=zdl [0,1,5]
def QfV:TCode :=
 (zsq [(.reg [zmv 4 (zkb true)]),.ret])
def QhK:TCode :=
 (zsq [(.reg [zmv 4 (zkb false)]),(zsq [(.reg [zmv 6 0,zle 7 6,zmv 8 1,zle 9 8,zbi 10 .neq 7 9]),(.cond 10 (zsq [(.reg [zmv 4 (zkb false)]),.ret]) .skip)]),(zsq [(.reg [zmv 5 (zki 0)]),(.block 0 (.loop Qf1 Qev))]),QfV])
def Qd5:List (ARv × Md):=[(.t 4,.one .d)]
def Qeo:Qd:=TQ 0 0 Qd5 K
def Qka:Qd:=Qseq (tawp QaH 0 QfV (Qeo K)) (Qeo K)
def QmB:Qd:=Qblk 0 (Qka K)
def Qct (a:List Bool) (b:List Bool) (i:Int):Prop:=Loop QaH 0 Qf1 Qev (QmB K) ⟨[(0,(zcs [.bool] a)),(1,(zcs [.bool] b)),(5,(zci i))],[],0⟩
theorem Qjx (a:List Bool) (b:List Bool) (i:Int) (h :
 (zif (decide (i<(a.length:Int))) ((((0:Int)≤i∧Int.toNat i<a.length)∧((0:Int)≤i∧Int.toNat i<b.length))∧(zif (!((gtd (false:Bool) a (Int.toNat i))==(gtd (false:Bool) b (Int.toNat i)))) (K (Yl false)) (Qct K a b (w64 (i+(1:Int)))))) (K (Yl true)))):Qct K a b i :=
 Loop.of (by kernel_rfl) h
theorem QlL (a:List Bool) (b:List Bool) (h :
 (zif ((a.length:Int) != (b.length:Int)) (K (Yl false)) (Qct K a b 0))):Hold (tawp QaH (0+0) QhK (TQ 0 0 Qd5 K) (Qh [(.c (.sl [.bool]) a),(.c (.sl [.bool]) b)])) :=
 Hold.of (by kernel_rfl) h
theorem Qhs (a:List Bool) (b:List Bool):TCon Try.prog 150 [(.c (.sl [.bool]) a),(.c (.sl [.bool]) b)] (Yl (m_eq (α:=List Bool) a b)):=by
 refine Ql rfl fun hb=>tcg (n:=26) (sg:=Qca.sg) Qm TOk.nil (by kernel_rfl) (by kernel_rfl) (QlL _ a b ?_)
 exact QmW hb.1.1 (fun i h=>Qjx _ a b i h) (Q:=fun x=>Yl x=Yl (m_eq (α:=List Bool) a b)) rfl
theorem QiM:Qi Try.prog Qca:=Qn fun x _=>Qhs x.1 x.2.1
end
end Go.Proofs.Ytephkbajoofeoaa.Am

