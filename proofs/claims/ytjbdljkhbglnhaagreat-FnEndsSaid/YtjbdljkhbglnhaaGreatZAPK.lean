/- -/
import Derived.Test.YtjbdljkhbglnhaaGreatZAP4
import Derived.Test.YtjbdljkhbglnhaaGreatZAP1
import Derived.Test.YtjbdljkhbglnhaaGreatZAPF
import Derived.Test.YtjbdljkhbglnhaaGreatZAPI
import Derived.Test.YtjbdljkhbglnhaaGreatZAP5
import Derived.Test.YtjbdljkhbglnhaaGreatZAPG
import Derived.Test.YtjbdljkhbglnhaaGreatZAPJ
namespace Go.Proofs.YtjbdljkhbglnhaaGreat.Am
open Go Go.RowKit Go.Proofs.YtjbdljkhbglnhaaGreat
set_option linter.all false
noncomputable section
variable (K:TRes→Prop)
def QcY (t:(List (List Int)) × Bool):TRes:=zra (.tp [(zcs [(.sl [TI])] t.1),(zcb t.2)])
def QgA:TRow:=Qj 118 [(.a [(.sl ctOp)]),(.c (.sl [TI]))] fun x=>(none,QcY (Jm x.1 x.2.1))
def QkH:List TRow:=[JS,Qdg,JJ,Qah,Qkq]
def Qxa:TCode :=
 (zsq [(.reg [zbi 30 .lss 29 28]),(.cond 30 .skip (.exit 0)),(.block 1 (zsq [(.reg [zmv 31 29,zia 32 27 29 ctOp,zLd 33 32 4,zop 9 (.new 69 (z0s ctOp)),zmv 8 31,zst 9 33 4]),(.draw [zLd 35 9 4,zmv 36 6,zmv 37 8,zia 38 36 37 [(.sl [TI])],zfa 39 38 0,zld 40 39 1,zca 41 187 [35,40],zmv 34 41,zex 42 34 0,zex 43 34 1,zmv 10 42,zmv 11 43] []),(.reg [zmv 44 6,zmv 45 10,zop 46 (.build [(.n [TI])] [(0,1,45)]),zop 47 (.bsl 129 [(.sl [TI])] [46]),zop 48 (.app 44 47 129 [(.sl [TI])]),zmv 6 48]),(.reg [zmv 49 7,zmv 50 49,.grp 50 false [zmv 51 11] 52 51,zmv 7 52])])),(.reg [zbi 53 .add 29 (zki 1),zmv 29 53])])
def Qtv:List (Nat × Md):=[(6,.one .f),(7,.one .d),(27,.one .d),(28,.one .d),(29,.one .d)]
def QzA:TCode :=
 (zsq [(.reg [zmv 54 6,zmv 55 7,zmv 4 54,zmv 5 55]),.ret])
def QEK:TCode :=
 (zsq [(.reg [zop 2 (.box 26 0 1),zmv 4 (.k (.n [(.sl [TI])])),zmv 5 (zkb false)]),(zsq [(.reg [zLd 12 2 1,zca 13 131 [12],zno 14 13,zmv 15 14,.grp 15 false [zmv 16 1,zLd 17 2 1,zca 18 115 [17],zca 19 114 [16,18],zno 20 19] 21 20]),(.cond 21 (zsq [(.reg [zmv 4 (.k (.n [(.sl [TI])])),zmv 5 (zkb false)]),.ret]) .skip)]),(.reg [zmv 22 1,zca 23 119 [22],zop 24 (.build [(.n [TI])] [(0,1,23)]),zop 25 (.bsl 129 [(.sl [TI])] [24]),zmv 6 25]),(.reg [zmv 7 (zkb false)]),(zsq [(.reg [zfa 26 2 0,zld 27 26 1,zle 28 27,zmv 29 (zki 0)]),(.block 0 (.loop Qtv Qxa))]),QzA])
def QAp:List (ARv × Md):=[(.t 4,.one .d),(.t 5,.one .d)]
def Qw2:Qb:=TQ 0 0 QAp K
def QCP:Qb:=Qseq (tawp QkH 0 QzA (Qw2 K)) (Qw2 K)
def QNP:Qb:=Qblk 0 (QCP K)
def Qgh (m:List TOp') (out:Bool) (x1:Int) (rows:List (List Int)):Prop:=Loop QkH 0 Qtv Qxa (QNP K) ⟨[(6,(.r [(.sl [TI])] 0 0 rows.length)),(7,(zcb out)),(27,(zcs ctOp m)),(28,(zci (m.length:Int))),(29,(zci x1))],[(0,(.sl 129 [(.sl [TI])] true rows))],1⟩
theorem Qsb (m:List TOp') (out:Bool) (x1:Int) (rows:List (List Int)) (h :
 (zif (decide (x1<(m.length:Int))) (((0:Int)≤x1∧Int.toNat x1<m.length)∧((((0:Int)≤x1∧Int.toNat x1<rows.length)∧((0+(Int.toNat x1))<rows.length))∧(((rows.length=rows.length∨rows.length+1≤rows.length)∧rows.length+1≤big)∧(Qgh K m (out||((Y4 (gtd dOp m (Int.toNat x1)) (gtd ([]:List Int) rows (0+(Int.toNat x1)))).2)) (w64 (x1+(1:Int))) (List.take (rows.length+1) ((List.take rows.length rows)++([(Y4 (gtd dOp m (Int.toNat x1)) (gtd ([]:List Int) rows (0+(Int.toNat x1)))).1]))))))) (K (QcY ((List.take rows.length (List.drop 0 rows)),out))))):Qgh K m out x1 rows :=
 Loop.of (by kernel_rfl) h
theorem QOS (m:List TOp') (x:List Int) (h :
 (zif ((!(QM m))||(!(Qt x (QZ m)))) (K (QcY ([],false))) ((QE (α:=List Int) x)∧(Qgh K m false 0 ([(List.take ((id (α:=List Int) x).length) (List.drop 0 (id (α:=List Int) x)))]))))):Hold (tawp QkH (0+0) QEK (TQ 0 0 QAp K) (Qf [(.a [(.c (.sl ctOp) m)]),(.c (.sl [TI]) x)])) :=
 Hold.of (by kernel_rfl) h
theorem QIp (m:List TOp') (x:List Int):TCon Tryz.prog 118 [(.a [(.c (.sl ctOp) m)]),(.c (.sl [TI]) x)] (QcY (Jm m x)):=by
 refine Qq rfl fun hb=>tcg (n:=56) (sg:=QgA.sg) Ql (TOk.cons QaQ (TOk.cons QhX (TOk.cons Qak (TOk.cons Qbf (TOk.cons QK9 TOk.nil))))) (by kernel_rfl) (by kernel_rfl) (QOS _ m x ?_)
 have hl_m_0:(m).length≤9223372036854775807:=hb.1.1.1
 have hl_x:x.length≤9223372036854775807:=hb.2.1.1
 refine ⟨fun h=>R_eq (by unfold Jm;rw [if_neg (by intro h2;simp at h2;simp [h2.1,h2.2] at h)]),fun h=>?_⟩
 have hp:QM m=true∧Qt x (QZ m)=true:=by simpa using h
 have hl:=YZ hp.1
 have hx:=(YD.1 (YN.1 hp.2).1).1
 have hm:=Qlm hp.1 hp.2
 rw [QdF]
 refine ⟨by unfold QE;rw [Ja];omega,?_⟩
 refine Zj m (fun r k=>∀ (v:List (List Int)) (z:Bool),v.length=k+1→(v.take k++(Qy r (gtd [] v k)).1,z||(Qy r (gtd [] v k)).2)=Qy m x→Qgh (fun r'=>r'=QcY (Jm m x)) m z k v) ?_ ?_ [x] false rfl (by simp [gtd])
 ·intro v z hv he
  refine Qsb (fun r'=>r'=QcY (Jm m x)) m _ _ _ ⟨fun h=>by simp at h,fun _=>R_eq ?_⟩
  rw [hm,← he,QlS]
  simp only [Qy,Bool.or_false]
  rw [QrF [] hv]
 ·intro k o r hk hlt hg ih v z hv he
  refine Qsb (fun r'=>r'=QcY (Jm m x)) m _ _ _ ⟨fun _=>?_,fun h=>by simp at h;omega⟩
  rw [Int.toNat_natCast,hg,Nat.zero_add,sc1 (by omega),Zv]
  refine ⟨⟨by omega,hlt⟩,⟨⟨by omega,by omega⟩,by omega⟩,room (by omega),ih _ _ (JQ hv) ?_⟩
  rw [QL6 [] _ hv,QF6 _ hv,← he,Qy]
  have:=QrF [] hv
  simp only [Bool.or_assoc]
  rw [List.append_cons,this]
theorem QpA:Qi Tryz.prog QgA:=Qm fun x _=>QIp x.1 x.2.1
def QdQ (t:(List (List Int)) × (List Int) × Bool):TRes:=zra (.tp [(zcs [(.sl [TI])] t.1),(zcs [TI] t.2.1),(zcb t.2.2)])
def QmA:TRow:=Qj 125 [(.c (.sl ctOp)),(.c (.sl [(.sl [TI])])),(.c (.sl [TI]))] fun x=>(some (Qjd x.1 x.2.1 x.2.2.1),QdQ (QI x.1 x.2.1 x.2.2.1))
def Qlh:List TRow:=[QkK]
def Qyt:TCode :=
 (zsq [(zsq [(.reg [zmv 21 11,zbi 22 .geq 21 (zki 0)]),(.cond 22 .skip (.exit 0))]),(.block 1 (zsq [(.draw [zmv 26 0,zmv 27 11,zia 28 26 27 ctOp,zLd 29 28 4,zmv 30 1,zmv 31 11,zia 32 30 31 [(.sl [TI])],zfa 33 32 0,zld 34 33 1,zmv 35 2,zca 36 193 [29,34,35],zmv 25 36,zex 37 25 0,zex 38 25 1,zex 39 25 2,zmv 12 37,zmv 13 38,zmv 14 39] []),(.reg [zmv 40 9,zmv 41 11,zmv 42 13,zop 43 (.build [(.n [TI])] [(0,1,42)]),zia 44 40 41 [(.sl [TI])],zst 44 43 1]),(.reg [zmv 45 12,zmv 2 45]),(.reg [zmv 46 10,zmv 47 46,.grp 47 false [zmv 48 14] 49 48,zmv 10 49])])),(.reg [zmv 23 11,zbi 24 .sub 23 (zki 1),zmv 11 24])])
def Qq3:List (Nat × Md):=[(0,.one .d),(1,.one .d),(2,.one .d),(9,.one .f),(10,.one .d),(11,.one .d)]
def QvN:TCode :=
 (zsq [(.reg [zmv 50 9,zmv 51 2,zmv 52 10,zmv 6 50,zmv 7 51,zmv 8 52]),.ret])
def QEF:TCode :=
 (zsq [(.reg [zmv 6 (.k (.n [(.sl [TI])])),zmv 7 (.k (.n [TI])),zmv 8 (zkb false)]),(.reg [zmv 15 0,zle 16 15,zop 17 (.mk 129 [(.sl [TI])] [(.n [TI])] 16),zmv 9 17]),(.reg [zmv 10 (zkb false)]),(zsq [(.reg [zmv 18 0,zle 19 18,zbi 20 .sub 19 (zki 1),zmv 11 20]),(.block 0 (.loop Qq3 Qyt))]),QvN])
def QzO:List (ARv × Md):=[(.t 6,.one .d),(.t 7,.one .d),(.t 8,.one .d)]
def Quv:Qb:=TQ 0 0 QzO K
def QGX:Qb:=Qseq (tawp Qlh 0 QvN (Quv K)) (Quv K)
def QOm:Qb:=Qblk 0 (QGX K)
def Qg9 (ops:List TOp') (rows:List (List Int)) (d1:List Int) (out:Bool) (i:Int) (grads:List (List Int)):Prop:=Loop Qlh 0 Qq3 Qyt (QOm K) ⟨[(0,(zcs ctOp ops)),(1,(zcs [(.sl [TI])] rows)),(2,(zcs [TI] d1)),(9,(.r [(.sl [TI])] 0 0 grads.length)),(10,(zcb out)),(11,(zci i))],[(0,(.sl 129 [(.sl [TI])] true grads))],1⟩
theorem Qtt (ops:List TOp') (rows:List (List Int)) (d1:List Int) (out:Bool) (i:Int) (grads:List (List Int)) (h :
 (zif (decide (i≥(0:Int))) ((((0:Int)≤i∧Int.toNat i<ops.length)∧((0:Int)≤i∧Int.toNat i<rows.length))∧((((0:Int)≤i∧Int.toNat i<grads.length)∧((0+(Int.toNat i))<grads.length))∧(Qg9 K ops rows ((YL (gtd dOp ops (Int.toNat i)) (gtd ([]:List Int) rows (Int.toNat i)) d1).1) (out||((YL (gtd dOp ops (Int.toNat i)) (gtd ([]:List Int) rows (Int.toNat i)) d1).2.2)) (w64 (i-(1:Int))) (List.take grads.length ((grads).set (0+(Int.toNat i)) ((YL (gtd dOp ops (Int.toNat i)) (gtd ([]:List Int) rows (Int.toNat i)) d1).2.1)))))) (K (QdQ ((List.take grads.length (List.drop 0 grads)),d1,out))))):Qg9 K ops rows d1 out i grads :=
 Loop.of (by kernel_rfl) h
theorem QLB (ops:List TOp') (rows:List (List Int)) (d:List Int) (h :
 (((0:Int)≤(ops.length:Int)∧(ops.length:Int)≤big)∧(Qg9 K ops rows d false (w64 ((ops.length:Int)-(1:Int))) (List.take (Int.toNat (ops.length:Int)) (List.replicate (Int.toNat (ops.length:Int)) ([]:List Int)))))):Hold (tawp Qlh (0+0) QEF (TQ 0 0 QzO K) (Qf [(.c (.sl ctOp) ops),(.c (.sl [(.sl [TI])]) rows),(.c (.sl [TI]) d)])) :=
 Hold.of (by kernel_rfl) h
theorem QBR (ops:List TOp') (rows:List (List Int)) (d:List Int) (hp:Qjd ops rows d):TCon Tryz.prog 125 [(.c (.sl ctOp) ops),(.c (.sl [(.sl [TI])]) rows),(.c (.sl [TI]) d)] (QdQ (QI ops rows d)):=by
 refine Qq rfl fun hb=>tcg (n:=53) (sg:=QmA.sg) Ql (TOk.cons QDx TOk.nil) (by kernel_rfl) (by kernel_rfl) (QLB _ ops rows d ?_)
 have hl_ops:ops.length≤9223372036854775807:=hb.1.1
 have hl_rows:rows.length≤9223372036854775807:=hb.2.1.1
 have hl_d:d.length≤9223372036854775807:=hb.2.2.1.1
 obtain ⟨hp1,hp2⟩:=hp
 have hop:ops.length≤4294967296:=hp2
 refine ⟨⟨by omega,by rw [bigI];omega⟩,?_⟩
 rw [Qp (x:=(ops.length:Int)-1) (by omega) (by omega),Int.toNat_natCast,List.take_of_length_le (by simp)]
 have key:∀ j,j≤ops.length→Qg9 (fun r'=>r'=QdQ (QI ops rows d)) ops rows ((QI (ops.drop j) (rows.drop j) d).2.1) ((QI (ops.drop j) (rows.drop j) d).2.2) ((j:Int)-1) (List.replicate j ([]:List Int)++(QI (ops.drop j) (rows.drop j) d).1):=by
  intro j
  induction j with
  | zero =>
   intro _
   refine Qtt (fun r'=>r'=QdQ (QI ops rows d)) ops rows _ _ _ _ ⟨fun h=>by simp at h,fun _=>R_eq ?_⟩
   simp
  | succ j ih =>
   intro hj
   obtain ⟨a,s,ha⟩:=QbJ (l:=ops) (k:=j) (by omega)
   obtain ⟨e,t,he⟩:=QbJ (l:=rows) (k:=j) (by omega)
   have hgl:(QI (ops.drop (j+1)) (rows.drop (j+1)) d).1.length=ops.length-(j+1):=by rw [Ql0 _ _ _ (by simp;omega)];simp
   refine Qtt (fun r'=>r'=QdQ (QI ops rows d)) ops rows _ _ _ _ ⟨fun _=>?_,fun h=>by simp at h⟩
   rw [show Int.toNat (((j+1:Nat):Int)-1)=j by omega,Nat.zero_add,Y3 ha,Y3 he,Qp (x:=((j+1:Nat):Int)-1-1) (by omega) (by omega),QLj]
   have ih:=ih (by omega)
   rw [ha,he,← YS ha,← YS he,QI] at ih
   refine ⟨⟨⟨by omega,by omega⟩,by omega,by omega⟩,⟨⟨by omega,by simp [hgl];omega⟩,by simp [hgl];omega⟩,?_⟩
   rw [List.take_of_length_le (by simp [hgl];omega),Bool.or_comm,show ((j+1:Nat):Int)-1-1=(j:Int)-1 by omega]
   exact ih
 have h0:=key ops.length (Nat.le_refl _)
 rw [List.drop_length] at h0
 simpa [QI] using h0
theorem QAG:Qi Tryz.prog QmA:=Qm fun x h=>QBR x.1 x.2.1 x.2.2.1 h
end
end Go.Proofs.YtjbdljkhbglnhaaGreat.Am

