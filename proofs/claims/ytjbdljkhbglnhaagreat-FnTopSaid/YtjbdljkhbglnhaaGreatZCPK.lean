/- -/
import Derived.Test.YtjbdljkhbglnhaaGreatZCP4
import Derived.Test.YtjbdljkhbglnhaaGreatZCP1
import Derived.Test.YtjbdljkhbglnhaaGreatZCPF
import Derived.Test.YtjbdljkhbglnhaaGreatZCPI
import Derived.Test.YtjbdljkhbglnhaaGreatZCP5
import Derived.Test.YtjbdljkhbglnhaaGreatZCPG
import Derived.Test.YtjbdljkhbglnhaaGreatZCPJ
namespace Go.Proofs.YtjbdljkhbglnhaaGreat.Am
open Go Go.RowKit Go.Proofs.YtjbdljkhbglnhaaGreat
set_option linter.all false
noncomputable section
variable (K:TRes→Prop)
def Qcn (t:(List (List Int)) × Bool):TRes:=zra (.tp [(zcs [(.sl [TI])] t.1),(zcb t.2)])
def QeW:TRow:=Qf 118 [(.a [(.sl ctOp)]),(.c (.sl [TI]))] fun x=>(none,Qcn (Ji x.1 x.2.1))
def QnQ:List TRow:=[JU,QdP,JO,Qay,Qqt]
def QEc:TCode :=
 (zsq [(.reg [zbi 30 .lss 29 28]),(.cond 30 .skip (.exit 0)),(.block 1 (zsq [(.reg [zmv 31 29,zia 32 27 29 ctOp,zLd 33 32 4,zop 9 (.new 69 (z0s ctOp)),zmv 8 31,zst 9 33 4]),(.draw [zLd 35 9 4,zmv 36 6,zmv 37 8,zia 38 36 37 [(.sl [TI])],zfa 39 38 0,zld 40 39 1,zca 41 187 [35,40],zmv 34 41,zex 42 34 0,zex 43 34 1,zmv 10 42,zmv 11 43] []),(.reg [zmv 44 6,zmv 45 10,zop 46 (.build [(.n [TI])] [(0,1,45)]),zop 47 (.bsl 129 [(.sl [TI])] [46]),zop 48 (.app 44 47 129 [(.sl [TI])]),zmv 6 48]),(.reg [zmv 49 7,zmv 50 49,.grp 50 false [zmv 51 11] 52 51,zmv 7 52])])),(.reg [zbi 53 .add 29 (zki 1),zmv 29 53])])
def QAn:List (Nat × Md):=[(6,.one .f),(7,.one .d),(27,.one .d),(28,.one .d),(29,.one .d)]
def Qto:TCode :=
 (zsq [(.reg [zmv 54 6,zmv 55 7,zmv 4 54,zmv 5 55]),.ret])
def QQI:TCode :=
 (zsq [(.reg [zop 2 (.box 26 0 1),zmv 4 (.k (.n [(.sl [TI])])),zmv 5 (zkb false)]),(zsq [(.reg [zLd 12 2 1,zca 13 131 [12],zno 14 13,zmv 15 14,.grp 15 false [zmv 16 1,zLd 17 2 1,zca 18 115 [17],zca 19 114 [16,18],zno 20 19] 21 20]),(.cond 21 (zsq [(.reg [zmv 4 (.k (.n [(.sl [TI])])),zmv 5 (zkb false)]),.ret]) .skip)]),(.reg [zmv 22 1,zca 23 119 [22],zop 24 (.build [(.n [TI])] [(0,1,23)]),zop 25 (.bsl 129 [(.sl [TI])] [24]),zmv 6 25]),(.reg [zmv 7 (zkb false)]),(zsq [(.reg [zfa 26 2 0,zld 27 26 1,zle 28 27,zmv 29 (zki 0)]),(.block 0 (.loop QAn QEc))]),Qto])
def Qyq:List (ARv × Md):=[(.t 4,.one .d),(.t 5,.one .d)]
def QuC:Qb:=TQ 0 0 Qyq K
def QTr:Qb:=Qseq (tawp QnQ 0 Qto (QuC K)) (QuC K)
def QPR:Qb:=Qblk 0 (QTr K)
def Qgt (m:List TOp') (out:Bool) (x1:Int) (rows:List (List Int)):Prop:=Loop QnQ 0 QAn QEc (QPR K) ⟨[(6,(.r [(.sl [TI])] 0 0 rows.length)),(7,(zcb out)),(27,(zcs ctOp m)),(28,(zci (m.length:Int))),(29,(zci x1))],[(0,(.sl 129 [(.sl [TI])] true rows))],1⟩
theorem QzP (m:List TOp') (out:Bool) (x1:Int) (rows:List (List Int)) (h :
 (zif (decide (x1<(m.length:Int))) (((0:Int)≤x1∧Int.toNat x1<m.length)∧((((0:Int)≤x1∧Int.toNat x1<rows.length)∧((0+(Int.toNat x1))<rows.length))∧(((rows.length=rows.length∨rows.length+1≤rows.length)∧rows.length+1≤big)∧(Qgt K m (out||((Yy (gtd dOp m (Int.toNat x1)) (gtd ([]:List Int) rows (0+(Int.toNat x1)))).2)) (w64 (x1+(1:Int))) (List.take (rows.length+1) ((List.take rows.length rows)++([(Yy (gtd dOp m (Int.toNat x1)) (gtd ([]:List Int) rows (0+(Int.toNat x1)))).1]))))))) (K (Qcn ((List.take rows.length (List.drop 0 rows)),out))))):Qgt K m out x1 rows :=
 Loop.of (by kernel_rfl) h
theorem QK6 (m:List TOp') (x:List Int) (h :
 (zif ((!(QN m))||(!(Qr x (Q7 m)))) (K (Qcn ([],false))) ((QJ (α:=List Int) x)∧(Qgt K m false 0 ([(List.take ((id (α:=List Int) x).length) (List.drop 0 (id (α:=List Int) x)))]))))):Hold (tawp QnQ (0+0) QQI (TQ 0 0 Qyq K) (Qd [(.a [(.c (.sl ctOp) m)]),(.c (.sl [TI]) x)])) :=
 Hold.of (by kernel_rfl) h
theorem QHg (m:List TOp') (x:List Int):TCon Tryz.prog 118 [(.a [(.c (.sl ctOp) m)]),(.c (.sl [TI]) x)] (Qcn (Ji m x)):=by
 refine Qj rfl fun hb=>tcg (n:=56) (sg:=QeW.sg) Qg (TOk.cons QaU (TOk.cons QjR (TOk.cons Qav (TOk.cons Qbo (TOk.cons QRS TOk.nil))))) (by kernel_rfl) (by kernel_rfl) (QK6 _ m x ?_)
 have hl_m_0:(m).length≤9223372036854775807:=hb.1.1.1
 have hl_x:x.length≤9223372036854775807:=hb.2.1.1
 refine ⟨fun h=>R_eq (by unfold Ji;rw [if_neg (by intro h2;simp at h2;simp [h2.1,h2.2] at h)]),fun h=>?_⟩
 have hp:QN m=true∧Qr x (Q7 m)=true:=by simpa using h
 have hl:=YM hp.1
 have hx:=(Z0.1 (YD.1 hp.2).1).1
 have hm:=QjE hp.1 hp.2
 rw [Qer]
 refine ⟨by unfold QJ;rw [Y6];omega,?_⟩
 refine Zp m (fun r k=>∀ (v:List (List Int)) (z:Bool),v.length=k+1→(v.take k++(Qu r (gtd [] v k)).1,z||(Qu r (gtd [] v k)).2)=Qu m x→Qgt (fun r'=>r'=Qcn (Ji m x)) m z k v) ?_ ?_ [x] false rfl (by simp [gtd])
 ·intro v z hv he
  refine QzP (fun r'=>r'=Qcn (Ji m x)) m _ _ _ ⟨fun h=>by simp at h,fun _=>R_eq ?_⟩
  rw [hm,← he,QcY]
  simp only [Qu,Bool.or_false]
  rw [QjF [] hv]
 ·intro k o r hk hlt hg ih v z hv he
  refine QzP (fun r'=>r'=Qcn (Ji m x)) m _ _ _ ⟨fun _=>?_,fun h=>by simp at h;omega⟩
  rw [Int.toNat_natCast,hg,Nat.zero_add,sc1 (by omega),Zf]
  refine ⟨⟨by omega,hlt⟩,⟨⟨by omega,by omega⟩,by omega⟩,room (by omega),ih _ _ (YF hv) ?_⟩
  rw [QvH [] _ hv,QyX _ hv,← he,Qu]
  have:=QjF [] hv
  simp only [Bool.or_assoc]
  rw [List.append_cons,this]
theorem QnV:Qe Tryz.prog QeW:=Qh fun x _=>QHg x.1 x.2.1
def Qd6 (t:(List (List Int)) × Bool):TRes:=zra (.tp [(zcs [(.sl [TI])] t.1),(zcb t.2)])
def QoS:TRow:=Qf 163 [(.c (.sl ctOp)),(.c (.sl [TI]))] fun x=>(some (QpZ x.1 x.2.1),Qd6 (Qu x.1 x.2.1))
def QmK:List TRow:=[Qmq]
def QwH:TCode :=
 (zsq [(zsq [(.reg [zmv 16 8,zmv 17 0,zle 18 17,zbi 19 .lss 16 18]),(.cond 19 .skip (.exit 0))]),(.block 1 (zsq [(.draw [zmv 23 0,zmv 24 8,zia 25 23 24 ctOp,zLd 26 25 4,zmv 27 6,zmv 28 8,zia 29 27 28 [(.sl [TI])],zfa 30 29 0,zld 31 30 1,zca 32 205 [26,31],zmv 22 32,zex 33 22 0,zex 34 22 1,zmv 9 33,zmv 10 34] []),(.reg [zmv 35 6,zmv 36 9,zop 37 (.build [(.n [TI])] [(0,1,36)]),zop 38 (.bsl 129 [(.sl [TI])] [37]),zop 39 (.app 35 38 129 [(.sl [TI])]),zmv 6 39]),(.reg [zmv 40 7,zmv 41 40,.grp 41 false [zmv 42 10] 43 42,zmv 7 43])])),(.reg [zmv 20 8,zbi 21 .add 20 (zki 1),zmv 8 21])])
def QC7:List (Nat × Md):=[(0,.one .d),(6,.one .f),(7,.one .d),(8,.one .d)]
def Qvi:TCode :=
 (zsq [(.reg [zmv 44 6,zmv 45 7,zmv 4 44,zmv 5 45]),.ret])
def QS6:TCode :=
 (zsq [(.reg [zmv 4 (.k (.n [(.sl [TI])])),zmv 5 (zkb false)]),(.reg [zop 11 (.bsl 3 [TI] []),zmv 12 1,zop 13 (.app 11 12 3 [TI]),zop 14 (.build [(.n [TI])] [(0,1,13)]),zop 15 (.bsl 129 [(.sl [TI])] [14]),zmv 6 15]),(.reg [zmv 7 (zkb false)]),(zsq [(.reg [zmv 8 (zki 0)]),(.block 0 (.loop QC7 QwH))]),Qvi])
def Qut:List (ARv × Md):=[(.t 4,.one .d),(.t 5,.one .d)]
def QC4:Qb:=TQ 0 0 Qut K
def QTs:Qb:=Qseq (tawp QmK 0 Qvi (QC4 K)) (QC4 K)
def QKP:Qb:=Qblk 0 (QTs K)
def Qj8 (ops:List TOp') (sat:Bool) (i:Int) (out:List (List Int)):Prop:=Loop QmK 0 QC7 QwH (QKP K) ⟨[(0,(zcs ctOp ops)),(6,(.r [(.sl [TI])] 0 0 out.length)),(7,(zcb sat)),(8,(zci i))],[(0,(.sl 129 [(.sl [TI])] true out))],1⟩
theorem Qu5 (ops:List TOp') (sat:Bool) (i:Int) (out:List (List Int)) (h :
 (zif (decide (i<(ops.length:Int))) ((((0:Int)≤i∧Int.toNat i<ops.length)∧(((0:Int)≤i∧Int.toNat i<out.length)∧((0+(Int.toNat i))<out.length)))∧(((out.length=out.length∨out.length+1≤out.length)∧out.length+1≤big)∧(Qj8 K ops (sat||((Yy (gtd dOp ops (Int.toNat i)) (gtd ([]:List Int) out (0+(Int.toNat i)))).2)) (w64 (i+(1:Int))) (List.take (out.length+1) ((List.take out.length out)++([(Yy (gtd dOp ops (Int.toNat i)) (gtd ([]:List Int) out (0+(Int.toNat i)))).1])))))) (K (Qd6 ((List.take out.length (List.drop 0 out)),sat))))):Qj8 K ops sat i out :=
 Loop.of (by kernel_rfl) h
theorem QWv (ops:List TOp') (x:List Int) (h :
 (((0=0∨0+x.length≤0)∧0+x.length≤big)∧(Qj8 K ops false 0 ([(List.take (0+x.length) (List.drop 0 (x:List Int)))])))):Hold (tawp QmK (0+0) QS6 (TQ 0 0 Qut K) (Qd [(.c (.sl ctOp) ops),(.c (.sl [TI]) x)])) :=
 Hold.of (by kernel_rfl) h
theorem QLw (ops:List TOp') (x:List Int) (hp:QpZ ops x):TCon Tryz.prog 163 [(.c (.sl ctOp) ops),(.c (.sl [TI]) x)] (Qd6 (Qu ops x)):=by
 refine Qj rfl fun hb=>tcg (n:=46) (sg:=QoS.sg) Qg (TOk.cons QOs TOk.nil) (by kernel_rfl) (by kernel_rfl) (QWv _ ops x ?_)
 have hl_ops:ops.length≤9223372036854775807:=hb.1.1
 have hl_x:x.length≤9223372036854775807:=hb.2.1.1
 obtain ⟨hp1,hp2⟩:=hp
 rw [QGh]
 refine ⟨⟨.inl rfl,by rw [Zu];omega⟩,?_⟩
 refine Zp ops (fun r k=>∀ (v:List (List Int)) (z:Bool),v.length=k+1→(v.take k++(Qu r (gtd [] v k)).1,z||(Qu r (gtd [] v k)).2)=Qu ops x→Qj8 (fun r'=>r'=Qd6 (Qu ops x)) ops z k v) ?_ ?_ [x] false rfl (by simp [gtd])
 ·intro v z hv he
  refine Qu5 (fun r'=>r'=Qd6 (Qu ops x)) ops _ _ _ ⟨fun h=>by simp at h,fun _=>R_eq ?_⟩
  rw [← he,QcY]
  simp only [Qu,Bool.or_false]
  rw [QjF [] hv]
 ·intro k o r hk hlt hg ih v z hv he
  refine Qu5 (fun r'=>r'=Qd6 (Qu ops x)) ops _ _ _ ⟨fun _=>?_,fun h=>by simp at h;omega⟩
  rw [Int.toNat_natCast,hg,Nat.zero_add,sc1 (by omega),Zf]
  refine ⟨⟨⟨by omega,hlt⟩,⟨by omega,by omega⟩,by omega⟩,room (by omega),ih _ _ (YF hv) ?_⟩
  rw [QvH [] _ hv,QyX _ hv,← he,Qu]
  have:=QjF [] hv
  simp only [Bool.or_assoc]
  rw [List.append_cons,this]
theorem QHm:Qe Tryz.prog QoS:=Qh fun x h=>QLw x.1 x.2.1 h
def QdJ (t:(List (List Int)) × (List Int) × Bool):TRes:=zra (.tp [(zcs [(.sl [TI])] t.1),(zcs [TI] t.2.1),(zcb t.2.2)])
def Qjq:TRow:=Qf 125 [(.c (.sl ctOp)),(.c (.sl [(.sl [TI])])),(.c (.sl [TI]))] fun x=>(some (Qc0 x.1 x.2.1 x.2.2.1),QdJ (Qy x.1 x.2.1 x.2.2.1))
def Qmb:List TRow:=[QlQ]
def Qsx:TCode :=
 (zsq [(zsq [(.reg [zmv 21 11,zbi 22 .geq 21 (zki 0)]),(.cond 22 .skip (.exit 0))]),(.block 1 (zsq [(.draw [zmv 26 0,zmv 27 11,zia 28 26 27 ctOp,zLd 29 28 4,zmv 30 1,zmv 31 11,zia 32 30 31 [(.sl [TI])],zfa 33 32 0,zld 34 33 1,zmv 35 2,zca 36 193 [29,34,35],zmv 25 36,zex 37 25 0,zex 38 25 1,zex 39 25 2,zmv 12 37,zmv 13 38,zmv 14 39] []),(.reg [zmv 40 9,zmv 41 11,zmv 42 13,zop 43 (.build [(.n [TI])] [(0,1,42)]),zia 44 40 41 [(.sl [TI])],zst 44 43 1]),(.reg [zmv 45 12,zmv 2 45]),(.reg [zmv 46 10,zmv 47 46,.grp 47 false [zmv 48 14] 49 48,zmv 10 49])])),(.reg [zmv 23 11,zbi 24 .sub 23 (zki 1),zmv 11 24])])
def Qzi:List (Nat × Md):=[(0,.one .d),(1,.one .d),(2,.one .d),(9,.one .f),(10,.one .d),(11,.one .d)]
def Qvq:TCode :=
 (zsq [(.reg [zmv 50 9,zmv 51 2,zmv 52 10,zmv 6 50,zmv 7 51,zmv 8 52]),.ret])
def QOH:TCode :=
 (zsq [(.reg [zmv 6 (.k (.n [(.sl [TI])])),zmv 7 (.k (.n [TI])),zmv 8 (zkb false)]),(.reg [zmv 15 0,zle 16 15,zop 17 (.mk 129 [(.sl [TI])] [(.n [TI])] 16),zmv 9 17]),(.reg [zmv 10 (zkb false)]),(zsq [(.reg [zmv 18 0,zle 19 18,zbi 20 .sub 19 (zki 1),zmv 11 20]),(.block 0 (.loop Qzi Qsx))]),Qvq])
def QvY:List (ARv × Md):=[(.t 6,.one .d),(.t 7,.one .d),(.t 8,.one .d)]
def Qtm:Qb:=TQ 0 0 QvY K
def QVt:Qb:=Qseq (tawp Qmb 0 Qvq (Qtm K)) (Qtm K)
def QQq:Qb:=Qblk 0 (QVt K)
def QiY (ops:List TOp') (rows:List (List Int)) (d1:List Int) (out:Bool) (i:Int) (grads:List (List Int)):Prop:=Loop Qmb 0 Qzi Qsx (QQq K) ⟨[(0,(zcs ctOp ops)),(1,(zcs [(.sl [TI])] rows)),(2,(zcs [TI] d1)),(9,(.r [(.sl [TI])] 0 0 grads.length)),(10,(zcb out)),(11,(zci i))],[(0,(.sl 129 [(.sl [TI])] true grads))],1⟩
theorem QBy (ops:List TOp') (rows:List (List Int)) (d1:List Int) (out:Bool) (i:Int) (grads:List (List Int)) (h :
 (zif (decide (i≥(0:Int))) ((((0:Int)≤i∧Int.toNat i<ops.length)∧((0:Int)≤i∧Int.toNat i<rows.length))∧((((0:Int)≤i∧Int.toNat i<grads.length)∧((0+(Int.toNat i))<grads.length))∧(QiY K ops rows ((Ye (gtd dOp ops (Int.toNat i)) (gtd ([]:List Int) rows (Int.toNat i)) d1).1) (out||((Ye (gtd dOp ops (Int.toNat i)) (gtd ([]:List Int) rows (Int.toNat i)) d1).2.2)) (w64 (i-(1:Int))) (List.take grads.length ((grads).set (0+(Int.toNat i)) ((Ye (gtd dOp ops (Int.toNat i)) (gtd ([]:List Int) rows (Int.toNat i)) d1).2.1)))))) (K (QdJ ((List.take grads.length (List.drop 0 grads)),d1,out))))):QiY K ops rows d1 out i grads :=
 Loop.of (by kernel_rfl) h
theorem QTH (ops:List TOp') (rows:List (List Int)) (d:List Int) (h :
 (((0:Int)≤(ops.length:Int)∧(ops.length:Int)≤big)∧(QiY K ops rows d false (w64 ((ops.length:Int)-(1:Int))) (List.take (Int.toNat (ops.length:Int)) (List.replicate (Int.toNat (ops.length:Int)) ([]:List Int)))))):Hold (tawp Qmb (0+0) QOH (TQ 0 0 QvY K) (Qd [(.c (.sl ctOp) ops),(.c (.sl [(.sl [TI])]) rows),(.c (.sl [TI]) d)])) :=
 Hold.of (by kernel_rfl) h
theorem QOi (ops:List TOp') (rows:List (List Int)) (d:List Int) (hp:Qc0 ops rows d):TCon Tryz.prog 125 [(.c (.sl ctOp) ops),(.c (.sl [(.sl [TI])]) rows),(.c (.sl [TI]) d)] (QdJ (Qy ops rows d)):=by
 refine Qj rfl fun hb=>tcg (n:=53) (sg:=Qjq.sg) Qg (TOk.cons QUq TOk.nil) (by kernel_rfl) (by kernel_rfl) (QTH _ ops rows d ?_)
 have hl_ops:ops.length≤9223372036854775807:=hb.1.1
 have hl_rows:rows.length≤9223372036854775807:=hb.2.1.1
 have hl_d:d.length≤9223372036854775807:=hb.2.2.1.1
 obtain ⟨hp1,hp2⟩:=hp
 have hop:ops.length≤4294967296:=hp2
 refine ⟨⟨by omega,by rw [bigI];omega⟩,?_⟩
 rw [Qq (x:=(ops.length:Int)-1) (by omega) (by omega),Int.toNat_natCast,List.take_of_length_le (by simp)]
 have key:∀ j,j≤ops.length→QiY (fun r'=>r'=QdJ (Qy ops rows d)) ops rows ((Qy (ops.drop j) (rows.drop j) d).2.1) ((Qy (ops.drop j) (rows.drop j) d).2.2) ((j:Int)-1) (List.replicate j ([]:List Int)++(Qy (ops.drop j) (rows.drop j) d).1):=by
  intro j
  induction j with
  | zero =>
   intro _
   refine QBy (fun r'=>r'=QdJ (Qy ops rows d)) ops rows _ _ _ _ ⟨fun h=>by simp at h,fun _=>R_eq ?_⟩
   simp
  | succ j ih =>
   intro hj
   obtain ⟨a,s,ha⟩:=Jg (l:=ops) (k:=j) (by omega)
   obtain ⟨e,t,he⟩:=Jg (l:=rows) (k:=j) (by omega)
   have hgl:(Qy (ops.drop (j+1)) (rows.drop (j+1)) d).1.length=ops.length-(j+1):=by rw [QeZ _ _ _ (by simp;omega)];simp
   refine QBy (fun r'=>r'=QdJ (Qy ops rows d)) ops rows _ _ _ _ ⟨fun _=>?_,fun h=>by simp at h⟩
   rw [show Int.toNat (((j+1:Nat):Int)-1)=j by omega,Nat.zero_add,Yp ha,Yp he,Qq (x:=((j+1:Nat):Int)-1-1) (by omega) (by omega),QvL]
   have ih:=ih (by omega)
   rw [ha,he,← Z6 ha,← Z6 he,Qy] at ih
   refine ⟨⟨⟨by omega,by omega⟩,by omega,by omega⟩,⟨⟨by omega,by simp [hgl];omega⟩,by simp [hgl];omega⟩,?_⟩
   rw [List.take_of_length_le (by simp [hgl];omega),Bool.or_comm,show ((j+1:Nat):Int)-1-1=(j:Int)-1 by omega]
   exact ih
 have h0:=key ops.length (Nat.le_refl _)
 rw [List.drop_length] at h0
 simpa [Qy] using h0
theorem Qwq:Qe Tryz.prog Qjq:=Qh fun x h=>QOi x.1 x.2.1 x.2.2.1 h
def Qd0 (t:(List (List Int)) × (List Int) × Bool):TRes:=zra (.tp [(zcs [(.sl [TI])] t.1),(zcs [TI] t.2.1),(zcb t.2.2)])
def QmY:TRow:=Qf 166 [(.c (.sl ctOp)),(.c (.sl [(.sl [TI])])),(.c (.sl [TI]))] fun x=>(some (Qc0 x.1 x.2.1 x.2.2.1),Qd0 (Qy x.1 x.2.1 x.2.2.1))
def QkH:List TRow:=[Qno]
def Qts:TCode :=
 (zsq [(zsq [(.reg [zmv 21 11,zbi 22 .geq 21 (zki 0)]),(.cond 22 .skip (.exit 0))]),(.block 1 (zsq [(.draw [zmv 26 0,zmv 27 11,zia 28 26 27 ctOp,zLd 29 28 4,zmv 30 1,zmv 31 11,zia 32 30 31 [(.sl [TI])],zfa 33 32 0,zld 34 33 1,zmv 35 2,zca 36 209 [29,34,35],zmv 25 36,zex 37 25 0,zex 38 25 1,zex 39 25 2,zmv 12 37,zmv 13 38,zmv 14 39] []),(.reg [zmv 40 9,zmv 41 11,zmv 42 13,zop 43 (.build [(.n [TI])] [(0,1,42)]),zia 44 40 41 [(.sl [TI])],zst 44 43 1]),(.reg [zmv 45 12,zmv 2 45]),(.reg [zmv 46 10,zmv 47 46,.grp 47 false [zmv 48 14] 49 48,zmv 10 49])])),(.reg [zmv 23 11,zbi 24 .sub 23 (zki 1),zmv 11 24])])
def Qur:List (Nat × Md):=[(0,.one .d),(1,.one .d),(2,.one .d),(9,.one .f),(10,.one .d),(11,.one .d)]
def Qtz:TCode :=
 (zsq [(.reg [zmv 50 9,zmv 51 2,zmv 52 10,zmv 6 50,zmv 7 51,zmv 8 52]),.ret])
def QQ9:TCode :=
 (zsq [(.reg [zmv 6 (.k (.n [(.sl [TI])])),zmv 7 (.k (.n [TI])),zmv 8 (zkb false)]),(.reg [zmv 15 0,zle 16 15,zop 17 (.mk 129 [(.sl [TI])] [(.n [TI])] 16),zmv 9 17]),(.reg [zmv 10 (zkb false)]),(zsq [(.reg [zmv 18 0,zle 19 18,zbi 20 .sub 19 (zki 1),zmv 11 20]),(.block 0 (.loop Qur Qts))]),Qtz])
def QBb:List (ARv × Md):=[(.t 6,.one .d),(.t 7,.one .d),(.t 8,.one .d)]
def QvR:Qb:=TQ 0 0 QBb K
def QMa:Qb:=Qseq (tawp QkH 0 Qtz (QvR K)) (QvR K)
def QJc:Qb:=Qblk 0 (QMa K)
def QgH (ops:List TOp') (inn:List (List Int)) (d1:List Int) (sat:Bool) (i:Int) (g:List (List Int)):Prop:=Loop QkH 0 Qur Qts (QJc K) ⟨[(0,(zcs ctOp ops)),(1,(zcs [(.sl [TI])] inn)),(2,(zcs [TI] d1)),(9,(.r [(.sl [TI])] 0 0 g.length)),(10,(zcb sat)),(11,(zci i))],[(0,(.sl 129 [(.sl [TI])] true g))],1⟩
theorem QBW (ops:List TOp') (inn:List (List Int)) (d1:List Int) (sat:Bool) (i:Int) (g:List (List Int)) (h :
 (zif (decide (i≥(0:Int))) ((((0:Int)≤i∧Int.toNat i<ops.length)∧((0:Int)≤i∧Int.toNat i<inn.length))∧((((0:Int)≤i∧Int.toNat i<g.length)∧((0+(Int.toNat i))<g.length))∧(QgH K ops inn ((Ye (gtd dOp ops (Int.toNat i)) (gtd ([]:List Int) inn (Int.toNat i)) d1).1) (sat||((Ye (gtd dOp ops (Int.toNat i)) (gtd ([]:List Int) inn (Int.toNat i)) d1).2.2)) (w64 (i-(1:Int))) (List.take g.length ((g).set (0+(Int.toNat i)) ((Ye (gtd dOp ops (Int.toNat i)) (gtd ([]:List Int) inn (Int.toNat i)) d1).2.1)))))) (K (Qd0 ((List.take g.length (List.drop 0 g)),d1,sat))))):QgH K ops inn d1 sat i g :=
 Loop.of (by kernel_rfl) h
theorem QVb (ops:List TOp') (inn:List (List Int)) (d:List Int) (h :
 (((0:Int)≤(ops.length:Int)∧(ops.length:Int)≤big)∧(QgH K ops inn d false (w64 ((ops.length:Int)-(1:Int))) (List.take (Int.toNat (ops.length:Int)) (List.replicate (Int.toNat (ops.length:Int)) ([]:List Int)))))):Hold (tawp QkH (0+0) QQ9 (TQ 0 0 QBb K) (Qd [(.c (.sl ctOp) ops),(.c (.sl [(.sl [TI])]) inn),(.c (.sl [TI]) d)])) :=
 Hold.of (by kernel_rfl) h
theorem QGA (ops:List TOp') (inn:List (List Int)) (d:List Int) (hp:Qc0 ops inn d):TCon Tryz.prog 166 [(.c (.sl ctOp) ops),(.c (.sl [(.sl [TI])]) inn),(.c (.sl [TI]) d)] (Qd0 (Qy ops inn d)):=by
 refine Qj rfl fun hb=>tcg (n:=53) (sg:=QmY.sg) Qg (TOk.cons QFS TOk.nil) (by kernel_rfl) (by kernel_rfl) (QVb _ ops inn d ?_)
 have hl_ops:ops.length≤9223372036854775807:=hb.1.1
 have hl_inn:inn.length≤9223372036854775807:=hb.2.1.1
 have hl_d:d.length≤9223372036854775807:=hb.2.2.1.1
 obtain ⟨hp1,hp2⟩:=hp
 have hop:ops.length≤4294967296:=hp2
 refine ⟨⟨by omega,by rw [bigI];omega⟩,?_⟩
 rw [Qq (x:=(ops.length:Int)-1) (by omega) (by omega),Int.toNat_natCast,List.take_of_length_le (by simp)]
 have key:∀ j,j≤ops.length→QgH (fun r'=>r'=Qd0 (Qy ops inn d)) ops inn ((Qy (ops.drop j) (inn.drop j) d).2.1) ((Qy (ops.drop j) (inn.drop j) d).2.2) ((j:Int)-1) (List.replicate j ([]:List Int)++(Qy (ops.drop j) (inn.drop j) d).1):=by
  intro j
  induction j with
  | zero =>
   intro _
   refine QBW (fun r'=>r'=Qd0 (Qy ops inn d)) ops inn _ _ _ _ ⟨fun h=>by simp at h,fun _=>R_eq ?_⟩
   simp
  | succ j ih =>
   intro hj
   obtain ⟨a,s,ha⟩:=Jg (l:=ops) (k:=j) (by omega)
   obtain ⟨e,t,he⟩:=Jg (l:=inn) (k:=j) (by omega)
   have hgl:(Qy (ops.drop (j+1)) (inn.drop (j+1)) d).1.length=ops.length-(j+1):=by rw [QeZ _ _ _ (by simp;omega)];simp
   refine QBW (fun r'=>r'=Qd0 (Qy ops inn d)) ops inn _ _ _ _ ⟨fun _=>?_,fun h=>by simp at h⟩
   rw [show Int.toNat (((j+1:Nat):Int)-1)=j by omega,Nat.zero_add,Yp ha,Yp he,Qq (x:=((j+1:Nat):Int)-1-1) (by omega) (by omega),QvL]
   have ih:=ih (by omega)
   rw [ha,he,← Z6 ha,← Z6 he,Qy] at ih
   refine ⟨⟨⟨by omega,by omega⟩,by omega,by omega⟩,⟨⟨by omega,by simp [hgl];omega⟩,by simp [hgl];omega⟩,?_⟩
   rw [List.take_of_length_le (by simp [hgl];omega),Bool.or_comm,show ((j+1:Nat):Int)-1-1=(j:Int)-1 by omega]
   exact ih
 have h0:=key ops.length (Nat.le_refl _)
 rw [List.drop_length] at h0
 simpa [Qy] using h0
theorem QKM:Qe Tryz.prog QmY:=Qh fun x h=>QGA x.1 x.2.1 x.2.2.1 h
def Qgx (t:QG):TRes:=zra (.a (Tup.cells QK t))
def Qqr:TRow:=Qf 90 [(.a [(.sl ctOp)]),(.a Qw)] fun x=>(none,Qgx (Yk x.1 x.2.1))
def QX6:List TRow:=[QiA,QeW,QiP,QfE,Qjq]
def QFi:TCode :=
 (zsq [(.reg [zop 2 (.box 26 0 1),zop 3 (.box 108 1 2),zop 4 (.new 46 (z0s QK))]),(zsq [(.reg [zLd 15 2 1,zLd 16 3 2,zca 17 167 [15,16],zno 18 17]),(.cond 18 (zsq [(.reg [zop 19 (.build (z0s QK) []),zst 4 19 3]),.ret]) .skip)]),(.reg [zLd 21 2 1,zfa 22 3 0,zld 23 22 1,zca 24 118 [21,23],zmv 20 24,zex 25 20 0,zex 26 20 1,zmv 5 25,zmv 6 26]),(.reg [zmv 27 5,zfa 28 2 0,zld 29 28 1,zle 30 29,zia 31 27 30 [(.sl [TI])],zfa 32 31 0,zld 33 32 1,zmv 7 33]),(.reg [zmv 35 7,zfa 36 3 1,zld 37 36 1,zca 38 120 [35,37],zmv 34 38,zex 39 34 0,zex 40 34 1,zmv 8 39,zmv 9 40]),(.reg [zmv 42 7,zfa 43 3 1,zld 44 43 1,zca 45 124 [42,44],zmv 41 45,zex 46 41 0,zex 47 41 1,zmv 10 46,zmv 11 47]),(.reg [zfa 49 2 0,zld 50 49 1,zmv 51 5,zmv 52 10,zca 53 125 [50,51,52],zmv 48 53,zex 54 48 0,zex 55 48 1,zex 56 48 2,zmv 12 54,zmv 13 55,zmv 14 56]),(.reg [zmv 57 12,zmv 58 8,zmv 59 6,zmv 60 59,.grp 60 false [zmv 61 9] 62 61,zmv 63 62,.grp 63 false [zmv 64 11] 65 64,zmv 66 65,.grp 66 false [zmv 67 14] 68 67,zop 69 (.build (z0s QK) [(0,1,57),(1,1,58),(2,1,68)]),zst 4 69 3]),.ret])
def QVE:List (ARv × Md):=[(.l 4 3 true,.b [.d,.d,.d])]
theorem QMU (m:List TOp') (p:Qi) (h :
 let z2:=Ji m p.1
 let z1:=gtd ([]:List Int) (z2.1) (Int.toNat (m.length:Int))
 let z3:=Q3 z1 p.2
 (zif (!(Z5 m p)) (K (Qgx ([],(0:Int),false))) (((0:Int)≤(m.length:Int)∧Int.toNat (m.length:Int)<(z2.1).length)∧((Qc0 m (z2.1) (z3.1))∧K (Qgx ((Qy m (z2.1) (z3.1)).1,(ZX z1 p.2).1,((((z2.2)||((ZX z1 p.2).2))||(z3.2))||((Qy m (z2.1) (z3.1)).2.2)))))))):Hold (tawp QX6 (0+0) QFi (TQ 0 0 QVE K) (Qd [(.a [(.c (.sl ctOp) m)]),(.a [(.c (.sl [TI]) p.1),(.c (.sl [TI]) p.2)])])) :=
 Hold.of (by kernel_rfl) h
theorem QH0 (m:List TOp') (p:Qi):TCon Tryz.prog 90 [(.a [(.c (.sl ctOp) m)]),(.a [(.c (.sl [TI]) p.1),(.c (.sl [TI]) p.2)])] (Qgx (Yk m p)):=by
 refine Qj rfl fun hb=>tcg (n:=70) (sg:=Qqr.sg) Qg (TOk.cons QrD (TOk.cons QnV (TOk.cons QuL (TOk.cons QqH (TOk.cons Qwq TOk.nil))))) (by kernel_rfl) (by kernel_rfl) (QMU _ m p ?_)
 have hl_m_0:(m).length≤9223372036854775807:=hb.1.1.1
 have hl_p_0:(p.1).length≤9223372036854775807:=hb.2.1.1.1
 have hl_p_1:(p.2).length≤9223372036854775807:=hb.2.1.2.1.1
 conv=>zeta
 refine ⟨fun h=>R_eq (by unfold Yk;rw [if_neg (by simpa using h)]),fun h=>?_⟩
 have hp:Z5 m p=true:=by simpa using h
 obtain ⟨h1,h2,h3⟩:=Qqm hp
 have hl:=YM h1
 have hil:=Qbw m p.1
 rw [QjE h1 h2,Int.toNat_natCast]
 refine ⟨⟨by omega,by omega⟩,⟨by omega,by rw [Zu];omega⟩,R_eq ?_⟩
 unfold Yk;rw [if_pos hp]
theorem QTF:Qe Tryz.prog Qqr:=Qh fun x _=>QH0 x.1 x.2.1
def QhU (t:QG):TRes:=zra (.a (Tup.cells QK t))
def QqG:TRow:=Qf 85 [(.a [(.sl ctOp)]),(.a Qw)] fun x=>(none,QhU (Yk x.1 x.2.1))
def QQr:List TRow:=[Qf0,QoS,QkI,Qju,QmY]
def QLD:TCode :=
 (zsq [(.reg [zop 2 (.box 26 0 1),zop 3 (.box 108 1 2),zop 4 (.new 46 (z0s QK))]),(zsq [(.reg [zLd 15 2 1,zLd 16 3 2,zop 17 (.bsl 108 Qw [16]),zca 18 75 [15,17],zno 19 18]),(.cond 19 (zsq [(.reg [zop 20 (.build (z0s QK) []),zst 4 20 3]),.ret]) .skip)]),(.reg [zfa 22 2 0,zld 23 22 1,zfa 24 3 0,zld 25 24 1,zca 26 163 [23,25],zmv 21 26,zex 27 21 0,zex 28 21 1,zmv 5 27,zmv 6 28]),(.reg [zmv 29 5,zmv 30 5,zle 31 30,zbi 32 .sub 31 (zki 1),zia 33 29 32 [(.sl [TI])],zfa 34 33 0,zld 35 34 1,zmv 7 35]),(.reg [zmv 37 7,zfa 38 3 1,zld 39 38 1,zca 40 164 [37,39],zmv 36 40,zex 41 36 0,zex 42 36 1,zmv 8 41,zmv 9 42]),(.reg [zmv 44 7,zfa 45 3 1,zld 46 45 1,zca 47 165 [44,46],zmv 43 47,zex 48 43 0,zex 49 43 1,zmv 10 48,zmv 11 49]),(.reg [zfa 51 2 0,zld 52 51 1,zmv 53 5,zmv 54 10,zca 55 166 [52,53,54],zmv 50 55,zex 56 50 0,zex 57 50 1,zex 58 50 2,zmv 12 56,zmv 13 57,zmv 14 58]),(.reg [zmv 59 12,zmv 60 8,zmv 61 6,zmv 62 61,.grp 62 false [zmv 63 9] 64 63,zmv 65 64,.grp 65 false [zmv 66 11] 67 66,zmv 68 67,.grp 68 false [zmv 69 14] 70 69,zop 71 (.build (z0s QK) [(0,1,59),(1,1,60),(2,1,70)]),zst 4 71 3]),.ret])
def QGj:List (ARv × Md):=[(.l 4 3 true,.b [.d,.d,.d])]
theorem QEZ (m:List TOp') (p:Qi) (h :
 let z2:=Qu m p.1
 let z1:=gtd ([]:List Int) (z2.1) (Int.toNat (w64 (((z2.1).length:Int)-(1:Int))))
 let z3:=Q3 z1 p.2
 (zif (!(ZG m ([p]))) (K (QhU ([],(0:Int),false))) ((QpZ m p.1)∧(((0:Int)≤w64 (((z2.1).length:Int)-(1:Int))∧Int.toNat (w64 (((z2.1).length:Int)-(1:Int)))<(z2.1).length)∧((Qc0 m (z2.1) (z3.1))∧K (QhU ((Qy m (z2.1) (z3.1)).1,(ZX z1 p.2).1,((((z2.2)||((ZX z1 p.2).2))||(z3.2))||((Qy m (z2.1) (z3.1)).2.2))))))))):Hold (tawp QQr (0+0) QLD (TQ 0 0 QGj K) (Qd [(.a [(.c (.sl ctOp) m)]),(.a [(.c (.sl [TI]) p.1),(.c (.sl [TI]) p.2)])])) :=
 Hold.of (by kernel_rfl) h
theorem QEp (m:List TOp') (p:Qi):TCon Tryz.prog 85 [(.a [(.c (.sl ctOp) m)]),(.a [(.c (.sl [TI]) p.1),(.c (.sl [TI]) p.2)])] (QhU (Yk m p)):=by
 refine Qj rfl fun hb=>tcg (n:=72) (sg:=QqG.sg) Qg (TOk.cons QpC (TOk.cons QHm (TOk.cons QMx (TOk.cons QBK (TOk.cons QKM TOk.nil))))) (by kernel_rfl) (by kernel_rfl) (QEZ _ m p ?_)
 have hl_m_0:(m).length≤9223372036854775807:=hb.1.1.1
 have hl_p_0:(p.1).length≤9223372036854775807:=hb.2.1.1.1
 have hl_p_1:(p.2).length≤9223372036854775807:=hb.2.1.2.1.1
 conv=>zeta
 rw [QEV]
 refine ⟨fun h=>R_eq (by unfold Yk;rw [if_neg (by simpa using h)]),fun h=>?_⟩
 have hp:Z5 m p=true:=by simpa using h
 obtain ⟨h1,h2,h3⟩:=Qqm hp
 have hl:=YM h1
 have hx:=(Z0.1 (YD.1 h2).1).1
 have hil:=Qbw m p.1
 rw [Qq (x:=((Qu m p.1).1.length:Int)-1) (by omega) (by omega),show Int.toNat (((Qu m p.1).1.length:Int)-1)=m.length by omega]
 refine ⟨⟨by omega,by omega⟩,⟨by omega,by omega⟩,⟨by omega,by rw [Zu];omega⟩,R_eq ?_⟩
 unfold Yk;rw [if_pos hp]
theorem QLY:Qe Tryz.prog QqG:=Qh fun x _=>QEp x.1 x.2.1
def Qc8 (t:QG):TRes:=zra (.a (Tup.cells QK t))
def QlM:TRow:=Qf 26 [(.a [(.sl ctOp)]),(.c (.sl Qw))] fun x=>(none,Qc8 (Yu x.1 x.2.1))
def QpB:List TRow:=[Qkj,QjK,Qqr,Qj0]
def Qv3:TCode :=
 (zsq [(.reg [zbi 18 .lss 17 16]),(.cond 18 .skip (.exit 0)),(.block 1 (zsq [(.reg [zia 19 15 17 Qw,zLd 20 19 2,zop 7 (.new 108 (z0s Qw)),zst 7 20 2]),(.draw [zLd 21 5 3,zLd 22 2 1,zLd 23 7 2,zca 24 90 [22,23],zca 25 89 [21,24],zst 5 25 3] [(0,3)])])),(.reg [zbi 26 .add 17 (zki 1),zmv 17 26])])
def Qum:List (Nat × Md):=[(2,.b [.d]),(4,.b [.d,.d,.d]),(5,.b [.d,.d,.d]),(15,.one .d),(16,.one .d),(17,.one .d)]
def Qu1:TCode :=
 (zsq [(.reg [zLd 27 5 3,zst 4 27 3]),.ret])
def QIU:TCode :=
 (zsq [(.reg [zop 2 (.box 26 0 1),zop 4 (.new 46 (z0s QK))]),(zsq [(.reg [zLd 8 2 1,zmv 9 1,zca 10 87 [8,9],zno 11 10]),(.cond 11 (zsq [(.reg [zop 12 (.build (z0s QK) []),zst 4 12 3]),.ret]) .skip)]),(.reg [zLd 13 2 1,zca 14 88 [13],zop 5 (.new 46 (z0s QK)),zst 5 14 3]),(zsq [(.reg [zmv 15 1,zle 16 15,zmv 17 (zki 0)]),(.block 0 (.loop Qum Qv3))]),Qu1])
def Qyt:List (ARv × Md):=[(.l 4 3 true,.b [.d,.d,.d])]
def Qwv:Qb:=TQ 0 0 Qyt K
def QLx:Qb:=Qseq (tawp QpB 0 Qu1 (Qwv K)) (Qwv K)
def QKZ:Qb:=Qblk 0 (QLx K)
def Qko (m:List TOp') (b:List Qi) (x:Int) (g0:List (List Int)) (g1:Int) (g2:Bool):Prop:=Loop QpB 0 Qum Qv3 (QKZ K) ⟨[(2,(.p 0 0 0)),(4,(.p 1 0 0)),(5,(.p 2 0 0)),(15,(zcs Qw b)),(16,(zci (b.length:Int))),(17,(zci x))],[(0,(.box [(zcs ctOp m)])),(1,(.box (Tup.cells QK ([],(0:Int),false)))),(2,(.box (Tup.cells QK (g0,g1,g2))))],3⟩
theorem QyQ (m:List TOp') (b:List Qi) (x:Int) (g0:List (List Int)) (g1:Int) (g2:Bool) (h :
 (zif (decide (x<(b.length:Int))) (((0:Int)≤x∧Int.toNat x<b.length)∧((Yf (α:=QG) (β:=QG) (g0,g1,g2) (Yk m (gtd Zh b (Int.toNat x))))∧(Qko K m b (w64 (x+(1:Int))) ((ZA (g0,g1,g2) (Yk m (gtd Zh b (Int.toNat x)))).1) ((ZA (g0,g1,g2) (Yk m (gtd Zh b (Int.toNat x)))).2.1) ((ZA (g0,g1,g2) (Yk m (gtd Zh b (Int.toNat x)))).2.2)))) (K (Qc8 (g0,g1,g2))))):Qko K m b x g0 g1 g2 :=
 Loop.of (by kernel_rfl) h
theorem QMY (m:List TOp') (b:List Qi) (h :
 (zif (!(ZG m b)) (K (Qc8 ([],(0:Int),false))) (Qko K m b 0 ((Zq m).1) ((Zq m).2.1) ((Zq m).2.2)))):Hold (tawp QpB (0+0) QIU (TQ 0 0 Qyt K) (Qd [(.a [(.c (.sl ctOp) m)]),(.c (.sl Qw) b)])) :=
 Hold.of (by kernel_rfl) h
theorem QNp (m:List TOp') (b:List Qi):TCon Tryz.prog 26 [(.a [(.c (.sl ctOp) m)]),(.c (.sl Qw) b)] (Qc8 (Yu m b)):=by
 refine Qj rfl fun hb=>tcg (n:=28) (sg:=QlM.sg) Qg (TOk.cons Qwk (TOk.cons Qvv (TOk.cons QTF (TOk.cons QsJ TOk.nil)))) (by kernel_rfl) (by kernel_rfl) (QMY _ m b ?_)
 have hl_m_0:(m).length≤9223372036854775807:=hb.1.1.1
 have hl_b:b.length≤9223372036854775807:=hb.2.1.1
 refine ⟨fun h=>R_eq (by unfold Yu;rw [if_neg (by simpa using h)]),fun h=>?_⟩
 have hp:ZG m b=true:=by simpa using h
 have hp':=hp
 simp only [ZG,Bool.and_eq_true,QR,List.all_eq_true] at hp'
 obtain ⟨⟨hm,hbl⟩,hall⟩:=hp'
 refine Zp b (fun r k=>∀ z:QG,(z.1.length=m.length∧ZT m z.1=true)→QbX m r z=(Yu m b)→Qko (fun r'=>r'=Qc8 (Yu m b)) m b k z.1 z.2.1 z.2.2) ?_ ?_ (Zq m) (Qo0 hm) (by unfold Yu;rw [if_pos hp])
 ·intro z hz he
  refine QyQ (fun r'=>r'=Qc8 (Yu m b)) m b _ _ _ _ ⟨fun h=>by simp at h,fun _=>R_eq ?_⟩
  exact he
 ·intro k x r hk hlt hg ih z hz he
  have hx:Z5 m x=true:=hall x (List.mem_of_mem_drop (i:=k) (by rw [hk];exact List.mem_cons_self))
  have hfit:=Qs1 hx
  have hlim:Yf (α:=QG) (β:=QG) z (Yk m x):=by have:=Qeg hm hz;have:=Qeg hm hfit;unfold Yf;omega
  refine QyQ (fun r'=>r'=Qc8 (Yu m b)) m b _ _ _ _ ⟨fun _=>?_,fun h=>by simp at h;omega⟩
  rw [Int.toNat_natCast,hg,sc1 (by omega)]
  refine ⟨⟨by omega,hlt⟩,hlim,ih _ (QxA hz hfit) ?_⟩
  rw [← he,QxW]
theorem QHb:Qe Tryz.prog QlM:=Qh fun x _=>QNp x.1 x.2.1
def Qdi (t:QG):TRes:=zra (.a (Tup.cells QK t))
def Qql:TRow:=Qf 22 [(.a [(.sl ctOp)]),(.c (.sl Qw))] fun x=>(none,Qdi (Yu x.1 x.2.1))
def Qnk:List TRow:=[Qf0,QmS,QqG,Qqs]
def Qxj:TCode :=
 (zsq [(zsq [(.reg [zmv 14 6,zmv 15 1,zle 16 15,zbi 17 .lss 14 16]),(.cond 17 .skip (.exit 0))]),(.block 1 (.draw [zLd 20 5 3,zLd 21 2 1,zmv 22 1,zmv 23 6,zia 24 22 23 Qw,zLd 25 24 2,zca 26 85 [21,25],zca 27 84 [20,26],zst 5 27 3] [(0,6)])),(.reg [zmv 18 6,zbi 19 .add 18 (zki 1),zmv 6 19])])
def QtH:List (Nat × Md):=[(1,.one .d),(2,.b [.d]),(4,.b [.d,.d,.d]),(5,.b [.d,.d,.d]),(6,.one .d)]
def Qsg:TCode :=
 (zsq [(.reg [zLd 28 5 3,zst 4 28 3]),.ret])
def QIR:TCode :=
 (zsq [(.reg [zop 2 (.box 26 0 1),zop 4 (.new 46 (z0s QK))]),(zsq [(.reg [zLd 7 2 1,zmv 8 1,zca 9 75 [7,8],zno 10 9]),(.cond 10 (zsq [(.reg [zop 11 (.build (z0s QK) []),zst 4 11 3]),.ret]) .skip)]),(.reg [zLd 12 2 1,zca 13 83 [12],zop 5 (.new 46 (z0s QK)),zst 5 13 3]),(zsq [(.reg [zmv 6 (zki 0)]),(.block 0 (.loop QtH Qxj))]),Qsg])
def QA5:List (ARv × Md):=[(.l 4 3 true,.b [.d,.d,.d])]
def QtK:Qb:=TQ 0 0 QA5 K
def QTv:Qb:=Qseq (tawp Qnk 0 Qsg (QtK K)) (QtK K)
def QQm:Qb:=Qblk 0 (QTv K)
def QhY (m:List TOp') (b:List Qi) (i:Int) (g0:List (List Int)) (g1:Int) (g2:Bool):Prop:=Loop Qnk 0 QtH Qxj (QQm K) ⟨[(1,(zcs Qw b)),(2,(.p 0 0 0)),(4,(.p 1 0 0)),(5,(.p 2 0 0)),(6,(zci i))],[(0,(.box [(zcs ctOp m)])),(1,(.box (Tup.cells QK ([],(0:Int),false)))),(2,(.box (Tup.cells QK (g0,g1,g2))))],3⟩
theorem QDT (m:List TOp') (b:List Qi) (i:Int) (g0:List (List Int)) (g1:Int) (g2:Bool) (h :
 (zif (decide (i<(b.length:Int))) ((((0:Int)≤i∧Int.toNat i<b.length)∧(Yf (α:=QG) (β:=QG) (g0,g1,g2) (Yk m (gtd Zh b (Int.toNat i)))))∧(QhY K m b (w64 (i+(1:Int))) ((ZA (g0,g1,g2) (Yk m (gtd Zh b (Int.toNat i)))).1) ((ZA (g0,g1,g2) (Yk m (gtd Zh b (Int.toNat i)))).2.1) ((ZA (g0,g1,g2) (Yk m (gtd Zh b (Int.toNat i)))).2.2))) (K (Qdi (g0,g1,g2))))):QhY K m b i g0 g1 g2 :=
 Loop.of (by kernel_rfl) h
theorem QV1 (m:List TOp') (b:List Qi) (h :
 (zif (!(ZG m b)) (K (Qdi ([],(0:Int),false))) (QhY K m b 0 ((Zq m).1) ((Zq m).2.1) ((Zq m).2.2)))):Hold (tawp Qnk (0+0) QIR (TQ 0 0 QA5 K) (Qd [(.a [(.c (.sl ctOp) m)]),(.c (.sl Qw) b)])) :=
 Hold.of (by kernel_rfl) h
theorem QTt (m:List TOp') (b:List Qi):TCon Tryz.prog 22 [(.a [(.c (.sl ctOp) m)]),(.c (.sl Qw) b)] (Qdi (Yu m b)):=by
 refine Qj rfl fun hb=>tcg (n:=29) (sg:=Qql.sg) Qg (TOk.cons QpC (TOk.cons QGV (TOk.cons QLY (TOk.cons QO1 TOk.nil)))) (by kernel_rfl) (by kernel_rfl) (QV1 _ m b ?_)
 have hl_m_0:(m).length≤9223372036854775807:=hb.1.1.1
 have hl_b:b.length≤9223372036854775807:=hb.2.1.1
 refine ⟨fun h=>R_eq (by unfold Yu;rw [if_neg (by simpa using h)]),fun h=>?_⟩
 have hp:ZG m b=true:=by simpa using h
 have hp':=hp
 simp only [ZG,Bool.and_eq_true,QR,List.all_eq_true] at hp'
 obtain ⟨⟨hm,hbl⟩,hall⟩:=hp'
 refine Zp b (fun r k=>∀ z:QG,(z.1.length=m.length∧ZT m z.1=true)→QbX m r z=(Yu m b)→QhY (fun r'=>r'=Qdi (Yu m b)) m b k z.1 z.2.1 z.2.2) ?_ ?_ (Zq m) (Qo0 hm) (by unfold Yu;rw [if_pos hp])
 ·intro z hz he
  refine QDT (fun r'=>r'=Qdi (Yu m b)) m b _ _ _ _ ⟨fun h=>by simp at h,fun _=>R_eq ?_⟩
  exact he
 ·intro k x r hk hlt hg ih z hz he
  have hx:Z5 m x=true:=hall x (List.mem_of_mem_drop (i:=k) (by rw [hk];exact List.mem_cons_self))
  have hfit:=Qs1 hx
  have hlim:Yf (α:=QG) (β:=QG) z (Yk m x):=by have:=Qeg hm hz;have:=Qeg hm hfit;unfold Yf;omega
  refine QDT (fun r'=>r'=Qdi (Yu m b)) m b _ _ _ _ ⟨fun _=>?_,fun h=>by simp at h;omega⟩
  rw [Int.toNat_natCast,hg,sc1 (by omega)]
  refine ⟨⟨⟨by omega,hlt⟩,hlim⟩,ih _ (QxA hz hfit) ?_⟩
  rw [← he,QxW]
theorem QHx:Qe Tryz.prog Qql:=Qh fun x _=>QTt x.1 x.2.1
end
end Go.Proofs.YtjbdljkhbglnhaaGreat.Am

