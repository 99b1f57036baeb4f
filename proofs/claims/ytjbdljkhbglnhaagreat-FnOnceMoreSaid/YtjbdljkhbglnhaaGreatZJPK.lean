/- -/
import Derived.Test.YtjbdljkhbglnhaaGreatZJP4
import Derived.Test.YtjbdljkhbglnhaaGreatZJP1
import Derived.Test.YtjbdljkhbglnhaaGreatZJPF
import Derived.Test.YtjbdljkhbglnhaaGreatZJPI
import Derived.Test.YtjbdljkhbglnhaaGreatZJPG
import Derived.Test.YtjbdljkhbglnhaaGreatZJPJ
namespace Go.Proofs.YtjbdljkhbglnhaaGreat.Am
open Go Go.RowKit Go.Proofs.YtjbdljkhbglnhaaGreat
set_option linter.all false
noncomputable section
variable (K:TRes→Prop)
def QaC (t:(List (List Int)) × Bool):TRes:=zra (.tp [(zcs [(.sl [TI])] t.1),(zcb t.2)])
def QfL:TRow:=Qg 118 [(.a [(.sl ctOp)]),(.c (.sl [TI]))] fun x=>(none,QaC (Yt x.1 x.2.1))
def Qli:List TRow:=[Qcd,QcH,Y0,J2,QkO]
def QsK:TCode :=
 (zsq [(.reg [zbi 30 .lss 29 28]),(.cond 30 .skip (.exit 0)),(.block 1 (zsq [(.reg [zmv 31 29,zia 32 27 29 ctOp,zLd 33 32 4,zop 9 (.new 69 (z0s ctOp)),zmv 8 31,zst 9 33 4]),(.draw [zLd 35 9 4,zmv 36 6,zmv 37 8,zia 38 36 37 [(.sl [TI])],zfa 39 38 0,zld 40 39 1,zca 41 187 [35,40],zmv 34 41,zex 42 34 0,zex 43 34 1,zmv 10 42,zmv 11 43] []),(.reg [zmv 44 6,zmv 45 10,zop 46 (.build [(.n [TI])] [(0,1,45)]),zop 47 (.bsl 129 [(.sl [TI])] [46]),zop 48 (.app 44 47 129 [(.sl [TI])]),zmv 6 48]),(.reg [zmv 49 7,zmv 50 49,.grp 50 false [zmv 51 11] 52 51,zmv 7 52])])),(.reg [zbi 53 .add 29 (zki 1),zmv 29 53])])
def Qqx:List (Nat × Md):=[(6,.one .f),(7,.one .d),(27,.one .d),(28,.one .d),(29,.one .d)]
def Qma:TCode :=
 (zsq [(.reg [zmv 54 6,zmv 55 7,zmv 4 54,zmv 5 55]),.ret])
def QId:TCode :=
 (zsq [(.reg [zop 2 (.box 26 0 1),zmv 4 (.k (.n [(.sl [TI])])),zmv 5 (zkb false)]),(zsq [(.reg [zLd 12 2 1,zca 13 131 [12],zno 14 13,zmv 15 14,.grp 15 false [zmv 16 1,zLd 17 2 1,zca 18 115 [17],zca 19 114 [16,18],zno 20 19] 21 20]),(.cond 21 (zsq [(.reg [zmv 4 (.k (.n [(.sl [TI])])),zmv 5 (zkb false)]),.ret]) .skip)]),(.reg [zmv 22 1,zca 23 119 [22],zop 24 (.build [(.n [TI])] [(0,1,23)]),zop 25 (.bsl 129 [(.sl [TI])] [24]),zmv 6 25]),(.reg [zmv 7 (zkb false)]),(zsq [(.reg [zfa 26 2 0,zld 27 26 1,zle 28 27,zmv 29 (zki 0)]),(.block 0 (.loop Qqx QsK))]),Qma])
def Qt6:List (ARv × Md):=[(.t 4,.one .d),(.t 5,.one .d)]
def Qm2:Qc:=TQ 0 0 Qt6 K
def Qvy:Qc:=Qseq (tawp Qli 0 Qma (Qm2 K)) (Qm2 K)
def QAA:Qc:=Qblk 0 (Qvy K)
def Qd6 (m:List TOp') (out:Bool) (x1:Int) (rows:List (List Int)):Prop:=Loop Qli 0 Qqx QsK (QAA K) ⟨[(6,(.r [(.sl [TI])] 0 0 rows.length)),(7,(zcb out)),(27,(zcs ctOp m)),(28,(zci (m.length:Int))),(29,(zci x1))],[(0,(.sl 129 [(.sl [TI])] true rows))],1⟩
theorem QtP (m:List TOp') (out:Bool) (x1:Int) (rows:List (List Int)) (h :
 (zif (decide (x1<(m.length:Int))) (((0:Int)≤x1∧Int.toNat x1<m.length)∧((((0:Int)≤x1∧Int.toNat x1<rows.length)∧((0+(Int.toNat x1))<rows.length))∧(((rows.length=rows.length∨rows.length+1≤rows.length)∧rows.length+1≤big)∧(Qd6 K m (out||((ZP (gtd dOp m (Int.toNat x1)) (gtd ([]:List Int) rows (0+(Int.toNat x1)))).2)) (w64 (x1+(1:Int))) (List.take (rows.length+1) ((List.take rows.length rows)++([(ZP (gtd dOp m (Int.toNat x1)) (gtd ([]:List Int) rows (0+(Int.toNat x1)))).1]))))))) (K (QaC ((List.take rows.length (List.drop 0 rows)),out))))):Qd6 K m out x1 rows :=
 Loop.of (by kernel_rfl) h
theorem QA9 (m:List TOp') (x:List Int) (h :
 (zif ((!(QC m))||(!(Qf x (QV m)))) (K (QaC ([],false))) ((QO (α:=List Int) x)∧(Qd6 K m false 0 ([(List.take ((id (α:=List Int) x).length) (List.drop 0 (id (α:=List Int) x)))]))))):Hold (tawp Qli (0+0) QId (TQ 0 0 Qt6 K) (Qe [(.a [(.c (.sl ctOp) m)]),(.c (.sl [TI]) x)])) :=
 Hold.of (by kernel_rfl) h
theorem QG8 (m:List TOp') (x:List Int):TCon Tryz.prog 118 [(.a [(.c (.sl ctOp) m)]),(.c (.sl [TI]) x)] (QaC (Yt m x)):=by
 refine Ql rfl fun hb=>tcg (n:=56) (sg:=QfL.sg) Qi (TOk.cons Qfv (TOk.cons Qkn (TOk.cons Js (TOk.cons QbC (TOk.cons QFy TOk.nil))))) (by kernel_rfl) (by kernel_rfl) (QA9 _ m x ?_)
 have hl_m_0:(m).length≤9223372036854775807:=hb.1.1.1
 have hl_x:x.length≤9223372036854775807:=hb.2.1.1
 refine ⟨fun h=>R_eq (by unfold Yt;rw [if_neg (by intro h2;simp at h2;simp [h2.1,h2.2] at h)]),fun h=>?_⟩
 have hp:QC m=true∧Qf x (QV m)=true:=by simpa using h
 have hl:=Zw hp.1
 have hx:=(Zu.1 (Yd.1 hp.2).1).1
 have hm:=Qhl hp.1 hp.2
 rw [Qgx]
 refine ⟨by unfold QO;rw [ZF];omega,?_⟩
 refine Zc m (fun r k=>∀ (v:List (List Int)) (z:Bool),v.length=k+1→(v.take k++(Qp r (gtd [] v k)).1,z||(Qp r (gtd [] v k)).2)=Qp m x→Qd6 (fun r'=>r'=QaC (Yt m x)) m z k v) ?_ ?_ [x] false rfl (by simp [gtd])
 ·intro v z hv he
  refine QtP (fun r'=>r'=QaC (Yt m x)) m _ _ _ ⟨fun h=>by simp at h,fun _=>R_eq ?_⟩
  rw [hm,← he,QaU]
  simp only [Qp,Bool.or_false]
  rw [Qek [] hv]
 ·intro k o r hk hlt hg ih v z hv he
  refine QtP (fun r'=>r'=QaC (Yt m x)) m _ _ _ ⟨fun _=>?_,fun h=>by simp at h;omega⟩
  rw [Int.toNat_natCast,hg,Nat.zero_add,sc1 (by omega),Q9]
  refine ⟨⟨by omega,hlt⟩,⟨⟨by omega,by omega⟩,by omega⟩,room (by omega),ih _ _ (ZZ hv) ?_⟩
  rw [QmO [] _ hv,Qti _ hv,← he,Qp]
  have:=Qek [] hv
  simp only [Bool.or_assoc]
  rw [List.append_cons,this]
theorem QrR:Qh Tryz.prog QfL:=Qk fun x _=>QG8 x.1 x.2.1
def QbS (t:(List (List Int)) × Bool):TRes:=zra (.tp [(zcs [(.sl [TI])] t.1),(zcb t.2)])
def Qd2:TRow:=Qg 163 [(.c (.sl ctOp)),(.c (.sl [TI]))] fun x=>(some (Qez x.1 x.2.1),QbS (Qp x.1 x.2.1))
def Qjr:List TRow:=[QiE]
def Qt1:TCode :=
 (zsq [(zsq [(.reg [zmv 16 8,zmv 17 0,zle 18 17,zbi 19 .lss 16 18]),(.cond 19 .skip (.exit 0))]),(.block 1 (zsq [(.draw [zmv 23 0,zmv 24 8,zia 25 23 24 ctOp,zLd 26 25 4,zmv 27 6,zmv 28 8,zia 29 27 28 [(.sl [TI])],zfa 30 29 0,zld 31 30 1,zca 32 205 [26,31],zmv 22 32,zex 33 22 0,zex 34 22 1,zmv 9 33,zmv 10 34] []),(.reg [zmv 35 6,zmv 36 9,zop 37 (.build [(.n [TI])] [(0,1,36)]),zop 38 (.bsl 129 [(.sl [TI])] [37]),zop 39 (.app 35 38 129 [(.sl [TI])]),zmv 6 39]),(.reg [zmv 40 7,zmv 41 40,.grp 41 false [zmv 42 10] 43 42,zmv 7 43])])),(.reg [zmv 20 8,zbi 21 .add 20 (zki 1),zmv 8 21])])
def Qr9:List (Nat × Md):=[(0,.one .d),(6,.one .f),(7,.one .d),(8,.one .d)]
def QsM:TCode :=
 (zsq [(.reg [zmv 44 6,zmv 45 7,zmv 4 44,zmv 5 45]),.ret])
def QJS:TCode :=
 (zsq [(.reg [zmv 4 (.k (.n [(.sl [TI])])),zmv 5 (zkb false)]),(.reg [zop 11 (.bsl 3 [TI] []),zmv 12 1,zop 13 (.app 11 12 3 [TI]),zop 14 (.build [(.n [TI])] [(0,1,13)]),zop 15 (.bsl 129 [(.sl [TI])] [14]),zmv 6 15]),(.reg [zmv 7 (zkb false)]),(zsq [(.reg [zmv 8 (zki 0)]),(.block 0 (.loop Qr9 Qt1))]),QsM])
def Qqk:List (ARv × Md):=[(.t 4,.one .d),(.t 5,.one .d)]
def QlP:Qc:=TQ 0 0 Qqk K
def QJI:Qc:=Qseq (tawp Qjr 0 QsM (QlP K)) (QlP K)
def QwN:Qc:=Qblk 0 (QJI K)
def QfE (ops:List TOp') (sat:Bool) (i:Int) (out:List (List Int)):Prop:=Loop Qjr 0 Qr9 Qt1 (QwN K) ⟨[(0,(zcs ctOp ops)),(6,(.r [(.sl [TI])] 0 0 out.length)),(7,(zcb sat)),(8,(zci i))],[(0,(.sl 129 [(.sl [TI])] true out))],1⟩
theorem QqD (ops:List TOp') (sat:Bool) (i:Int) (out:List (List Int)) (h :
 (zif (decide (i<(ops.length:Int))) ((((0:Int)≤i∧Int.toNat i<ops.length)∧(((0:Int)≤i∧Int.toNat i<out.length)∧((0+(Int.toNat i))<out.length)))∧(((out.length=out.length∨out.length+1≤out.length)∧out.length+1≤big)∧(QfE K ops (sat||((ZP (gtd dOp ops (Int.toNat i)) (gtd ([]:List Int) out (0+(Int.toNat i)))).2)) (w64 (i+(1:Int))) (List.take (out.length+1) ((List.take out.length out)++([(ZP (gtd dOp ops (Int.toNat i)) (gtd ([]:List Int) out (0+(Int.toNat i)))).1])))))) (K (QbS ((List.take out.length (List.drop 0 out)),sat))))):QfE K ops sat i out :=
 Loop.of (by kernel_rfl) h
theorem QBF (ops:List TOp') (x:List Int) (h :
 (((0=0∨0+x.length≤0)∧0+x.length≤big)∧(QfE K ops false 0 ([(List.take (0+x.length) (List.drop 0 (x:List Int)))])))):Hold (tawp Qjr (0+0) QJS (TQ 0 0 Qqk K) (Qe [(.c (.sl ctOp) ops),(.c (.sl [TI]) x)])) :=
 Hold.of (by kernel_rfl) h
theorem QyK (ops:List TOp') (x:List Int) (hp:Qez ops x):TCon Tryz.prog 163 [(.c (.sl ctOp) ops),(.c (.sl [TI]) x)] (QbS (Qp ops x)):=by
 refine Ql rfl fun hb=>tcg (n:=46) (sg:=Qd2.sg) Qi (TOk.cons Qv5 TOk.nil) (by kernel_rfl) (by kernel_rfl) (QBF _ ops x ?_)
 have hl_ops:ops.length≤9223372036854775807:=hb.1.1
 have hl_x:x.length≤9223372036854775807:=hb.2.1.1
 obtain ⟨hp1,hp2⟩:=hp
 rw [Qg9]
 refine ⟨⟨.inl rfl,by rw [ZC];omega⟩,?_⟩
 refine Zc ops (fun r k=>∀ (v:List (List Int)) (z:Bool),v.length=k+1→(v.take k++(Qp r (gtd [] v k)).1,z||(Qp r (gtd [] v k)).2)=Qp ops x→QfE (fun r'=>r'=QbS (Qp ops x)) ops z k v) ?_ ?_ [x] false rfl (by simp [gtd])
 ·intro v z hv he
  refine QqD (fun r'=>r'=QbS (Qp ops x)) ops _ _ _ ⟨fun h=>by simp at h,fun _=>R_eq ?_⟩
  rw [← he,QaU]
  simp only [Qp,Bool.or_false]
  rw [Qek [] hv]
 ·intro k o r hk hlt hg ih v z hv he
  refine QqD (fun r'=>r'=QbS (Qp ops x)) ops _ _ _ ⟨fun _=>?_,fun h=>by simp at h;omega⟩
  rw [Int.toNat_natCast,hg,Nat.zero_add,sc1 (by omega),Q9]
  refine ⟨⟨⟨by omega,hlt⟩,⟨by omega,by omega⟩,by omega⟩,room (by omega),ih _ _ (ZZ hv) ?_⟩
  rw [QmO [] _ hv,Qti _ hv,← he,Qp]
  have:=Qek [] hv
  simp only [Bool.or_assoc]
  rw [List.append_cons,this]
theorem Qpu:Qh Tryz.prog Qd2:=Qk fun x h=>QyK x.1 x.2.1 h
def QbK (t:(List (List Int)) × (List Int) × Bool):TRes:=zra (.tp [(zcs [(.sl [TI])] t.1),(zcs [TI] t.2.1),(zcb t.2.2)])
def Qhp:TRow:=Qg 125 [(.c (.sl ctOp)),(.c (.sl [(.sl [TI])])),(.c (.sl [TI]))] fun x=>(some (QbM x.1 x.2.1 x.2.2.1),QbK (QD x.1 x.2.1 x.2.2.1))
def QiZ:List TRow:=[QjS]
def Qp9:TCode :=
 (zsq [(zsq [(.reg [zmv 21 11,zbi 22 .geq 21 (zki 0)]),(.cond 22 .skip (.exit 0))]),(.block 1 (zsq [(.draw [zmv 26 0,zmv 27 11,zia 28 26 27 ctOp,zLd 29 28 4,zmv 30 1,zmv 31 11,zia 32 30 31 [(.sl [TI])],zfa 33 32 0,zld 34 33 1,zmv 35 2,zca 36 193 [29,34,35],zmv 25 36,zex 37 25 0,zex 38 25 1,zex 39 25 2,zmv 12 37,zmv 13 38,zmv 14 39] []),(.reg [zmv 40 9,zmv 41 11,zmv 42 13,zop 43 (.build [(.n [TI])] [(0,1,42)]),zia 44 40 41 [(.sl [TI])],zst 44 43 1]),(.reg [zmv 45 12,zmv 2 45]),(.reg [zmv 46 10,zmv 47 46,.grp 47 false [zmv 48 14] 49 48,zmv 10 49])])),(.reg [zmv 23 11,zbi 24 .sub 23 (zki 1),zmv 11 24])])
def QuS:List (Nat × Md):=[(0,.one .d),(1,.one .d),(2,.one .d),(9,.one .f),(10,.one .d),(11,.one .d)]
def Quw:TCode :=
 (zsq [(.reg [zmv 50 9,zmv 51 2,zmv 52 10,zmv 6 50,zmv 7 51,zmv 8 52]),.ret])
def QCk:TCode :=
 (zsq [(.reg [zmv 6 (.k (.n [(.sl [TI])])),zmv 7 (.k (.n [TI])),zmv 8 (zkb false)]),(.reg [zmv 15 0,zle 16 15,zop 17 (.mk 129 [(.sl [TI])] [(.n [TI])] 16),zmv 9 17]),(.reg [zmv 10 (zkb false)]),(zsq [(.reg [zmv 18 0,zle 19 18,zbi 20 .sub 19 (zki 1),zmv 11 20]),(.block 0 (.loop QuS Qp9))]),Quw])
def QoS:List (ARv × Md):=[(.t 6,.one .d),(.t 7,.one .d),(.t 8,.one .d)]
def QuG:Qc:=TQ 0 0 QoS K
def QGh:Qc:=Qseq (tawp QiZ 0 Quw (QuG K)) (QuG K)
def QFs:Qc:=Qblk 0 (QGh K)
def QdT (ops:List TOp') (rows:List (List Int)) (d1:List Int) (out:Bool) (i:Int) (grads:List (List Int)):Prop:=Loop QiZ 0 QuS Qp9 (QFs K) ⟨[(0,(zcs ctOp ops)),(1,(zcs [(.sl [TI])] rows)),(2,(zcs [TI] d1)),(9,(.r [(.sl [TI])] 0 0 grads.length)),(10,(zcb out)),(11,(zci i))],[(0,(.sl 129 [(.sl [TI])] true grads))],1⟩
theorem QuR (ops:List TOp') (rows:List (List Int)) (d1:List Int) (out:Bool) (i:Int) (grads:List (List Int)) (h :
 (zif (decide (i≥(0:Int))) ((((0:Int)≤i∧Int.toNat i<ops.length)∧((0:Int)≤i∧Int.toNat i<rows.length))∧((((0:Int)≤i∧Int.toNat i<grads.length)∧((0+(Int.toNat i))<grads.length))∧(QdT K ops rows ((ZG (gtd dOp ops (Int.toNat i)) (gtd ([]:List Int) rows (Int.toNat i)) d1).1) (out||((ZG (gtd dOp ops (Int.toNat i)) (gtd ([]:List Int) rows (Int.toNat i)) d1).2.2)) (w64 (i-(1:Int))) (List.take grads.length ((grads).set (0+(Int.toNat i)) ((ZG (gtd dOp ops (Int.toNat i)) (gtd ([]:List Int) rows (Int.toNat i)) d1).2.1)))))) (K (QbK ((List.take grads.length (List.drop 0 grads)),d1,out))))):QdT K ops rows d1 out i grads :=
 Loop.of (by kernel_rfl) h
theorem QAk (ops:List TOp') (rows:List (List Int)) (d:List Int) (h :
 (((0:Int)≤(ops.length:Int)∧(ops.length:Int)≤big)∧(QdT K ops rows d false (w64 ((ops.length:Int)-(1:Int))) (List.take (Int.toNat (ops.length:Int)) (List.replicate (Int.toNat (ops.length:Int)) ([]:List Int)))))):Hold (tawp QiZ (0+0) QCk (TQ 0 0 QoS K) (Qe [(.c (.sl ctOp) ops),(.c (.sl [(.sl [TI])]) rows),(.c (.sl [TI]) d)])) :=
 Hold.of (by kernel_rfl) h
theorem QBl (ops:List TOp') (rows:List (List Int)) (d:List Int) (hp:QbM ops rows d):TCon Tryz.prog 125 [(.c (.sl ctOp) ops),(.c (.sl [(.sl [TI])]) rows),(.c (.sl [TI]) d)] (QbK (QD ops rows d)):=by
 refine Ql rfl fun hb=>tcg (n:=53) (sg:=Qhp.sg) Qi (TOk.cons QxZ TOk.nil) (by kernel_rfl) (by kernel_rfl) (QAk _ ops rows d ?_)
 have hl_ops:ops.length≤9223372036854775807:=hb.1.1
 have hl_rows:rows.length≤9223372036854775807:=hb.2.1.1
 have hl_d:d.length≤9223372036854775807:=hb.2.2.1.1
 obtain ⟨hp1,hp2⟩:=hp
 have hop:ops.length≤4294967296:=hp2
 refine ⟨⟨by omega,by rw [bigI];omega⟩,?_⟩
 rw [Qs (x:=(ops.length:Int)-1) (by omega) (by omega),Int.toNat_natCast,List.take_of_length_le (by simp)]
 have key:∀ j,j≤ops.length→QdT (fun r'=>r'=QbK (QD ops rows d)) ops rows ((QD (ops.drop j) (rows.drop j) d).2.1) ((QD (ops.drop j) (rows.drop j) d).2.2) ((j:Int)-1) (List.replicate j ([]:List Int)++(QD (ops.drop j) (rows.drop j) d).1):=by
  intro j
  induction j with
  | zero =>
   intro _
   refine QuR (fun r'=>r'=QbK (QD ops rows d)) ops rows _ _ _ _ ⟨fun h=>by simp at h,fun _=>R_eq ?_⟩
   simp
  | succ j ih =>
   intro hj
   obtain ⟨a,s,ha⟩:=Yj (l:=ops) (k:=j) (by omega)
   obtain ⟨e,t,he⟩:=Yj (l:=rows) (k:=j) (by omega)
   have hgl:(QD (ops.drop (j+1)) (rows.drop (j+1)) d).1.length=ops.length-(j+1):=by rw [Qgn _ _ _ (by simp;omega)];simp
   refine QuR (fun r'=>r'=QbK (QD ops rows d)) ops rows _ _ _ _ ⟨fun _=>?_,fun h=>by simp at h⟩
   rw [show Int.toNat (((j+1:Nat):Int)-1)=j by omega,Nat.zero_add,ZN ha,ZN he,Qs (x:=((j+1:Nat):Int)-1-1) (by omega) (by omega),Qp7]
   have ih:=ih (by omega)
   rw [ha,he,← Zx ha,← Zx he,QD] at ih
   refine ⟨⟨⟨by omega,by omega⟩,by omega,by omega⟩,⟨⟨by omega,by simp [hgl];omega⟩,by simp [hgl];omega⟩,?_⟩
   rw [List.take_of_length_le (by simp [hgl];omega),Bool.or_comm,show ((j+1:Nat):Int)-1-1=(j:Int)-1 by omega]
   exact ih
 have h0:=key ops.length (Nat.le_refl _)
 rw [List.drop_length] at h0
 simpa [QD] using h0
theorem QBz:Qh Tryz.prog Qhp:=Qk fun x h=>QBl x.1 x.2.1 x.2.2.1 h
def Qb6 (t:(List (List Int)) × (List Int) × Bool):TRes:=zra (.tp [(zcs [(.sl [TI])] t.1),(zcs [TI] t.2.1),(zcb t.2.2)])
def Qhw:TRow:=Qg 166 [(.c (.sl ctOp)),(.c (.sl [(.sl [TI])])),(.c (.sl [TI]))] fun x=>(some (QbM x.1 x.2.1 x.2.2.1),Qb6 (QD x.1 x.2.1 x.2.2.1))
def QkR:List TRow:=[Qix]
def QnH:TCode :=
 (zsq [(zsq [(.reg [zmv 21 11,zbi 22 .geq 21 (zki 0)]),(.cond 22 .skip (.exit 0))]),(.block 1 (zsq [(.draw [zmv 26 0,zmv 27 11,zia 28 26 27 ctOp,zLd 29 28 4,zmv 30 1,zmv 31 11,zia 32 30 31 [(.sl [TI])],zfa 33 32 0,zld 34 33 1,zmv 35 2,zca 36 209 [29,34,35],zmv 25 36,zex 37 25 0,zex 38 25 1,zex 39 25 2,zmv 12 37,zmv 13 38,zmv 14 39] []),(.reg [zmv 40 9,zmv 41 11,zmv 42 13,zop 43 (.build [(.n [TI])] [(0,1,42)]),zia 44 40 41 [(.sl [TI])],zst 44 43 1]),(.reg [zmv 45 12,zmv 2 45]),(.reg [zmv 46 10,zmv 47 46,.grp 47 false [zmv 48 14] 49 48,zmv 10 49])])),(.reg [zmv 23 11,zbi 24 .sub 23 (zki 1),zmv 11 24])])
def Qrr:List (Nat × Md):=[(0,.one .d),(1,.one .d),(2,.one .d),(9,.one .f),(10,.one .d),(11,.one .d)]
def Qpa:TCode :=
 (zsq [(.reg [zmv 50 9,zmv 51 2,zmv 52 10,zmv 6 50,zmv 7 51,zmv 8 52]),.ret])
def QzO:TCode :=
 (zsq [(.reg [zmv 6 (.k (.n [(.sl [TI])])),zmv 7 (.k (.n [TI])),zmv 8 (zkb false)]),(.reg [zmv 15 0,zle 16 15,zop 17 (.mk 129 [(.sl [TI])] [(.n [TI])] 16),zmv 9 17]),(.reg [zmv 10 (zkb false)]),(zsq [(.reg [zmv 18 0,zle 19 18,zbi 20 .sub 19 (zki 1),zmv 11 20]),(.block 0 (.loop Qrr QnH))]),Qpa])
def QnI:List (ARv × Md):=[(.t 6,.one .d),(.t 7,.one .d),(.t 8,.one .d)]
def QrE:Qc:=TQ 0 0 QnI K
def Qzk:Qc:=Qseq (tawp QkR 0 Qpa (QrE K)) (QrE K)
def QyG:Qc:=Qblk 0 (Qzk K)
def Qgb (ops:List TOp') (inn:List (List Int)) (d1:List Int) (sat:Bool) (i:Int) (g:List (List Int)):Prop:=Loop QkR 0 Qrr QnH (QyG K) ⟨[(0,(zcs ctOp ops)),(1,(zcs [(.sl [TI])] inn)),(2,(zcs [TI] d1)),(9,(.r [(.sl [TI])] 0 0 g.length)),(10,(zcb sat)),(11,(zci i))],[(0,(.sl 129 [(.sl [TI])] true g))],1⟩
theorem Qtv (ops:List TOp') (inn:List (List Int)) (d1:List Int) (sat:Bool) (i:Int) (g:List (List Int)) (h :
 (zif (decide (i≥(0:Int))) ((((0:Int)≤i∧Int.toNat i<ops.length)∧((0:Int)≤i∧Int.toNat i<inn.length))∧((((0:Int)≤i∧Int.toNat i<g.length)∧((0+(Int.toNat i))<g.length))∧(Qgb K ops inn ((ZG (gtd dOp ops (Int.toNat i)) (gtd ([]:List Int) inn (Int.toNat i)) d1).1) (sat||((ZG (gtd dOp ops (Int.toNat i)) (gtd ([]:List Int) inn (Int.toNat i)) d1).2.2)) (w64 (i-(1:Int))) (List.take g.length ((g).set (0+(Int.toNat i)) ((ZG (gtd dOp ops (Int.toNat i)) (gtd ([]:List Int) inn (Int.toNat i)) d1).2.1)))))) (K (Qb6 ((List.take g.length (List.drop 0 g)),d1,sat))))):Qgb K ops inn d1 sat i g :=
 Loop.of (by kernel_rfl) h
theorem QzL (ops:List TOp') (inn:List (List Int)) (d:List Int) (h :
 (((0:Int)≤(ops.length:Int)∧(ops.length:Int)≤big)∧(Qgb K ops inn d false (w64 ((ops.length:Int)-(1:Int))) (List.take (Int.toNat (ops.length:Int)) (List.replicate (Int.toNat (ops.length:Int)) ([]:List Int)))))):Hold (tawp QkR (0+0) QzO (TQ 0 0 QnI K) (Qe [(.c (.sl ctOp) ops),(.c (.sl [(.sl [TI])]) inn),(.c (.sl [TI]) d)])) :=
 Hold.of (by kernel_rfl) h
theorem QIW (ops:List TOp') (inn:List (List Int)) (d:List Int) (hp:QbM ops inn d):TCon Tryz.prog 166 [(.c (.sl ctOp) ops),(.c (.sl [(.sl [TI])]) inn),(.c (.sl [TI]) d)] (Qb6 (QD ops inn d)):=by
 refine Ql rfl fun hb=>tcg (n:=53) (sg:=Qhw.sg) Qi (TOk.cons QvF TOk.nil) (by kernel_rfl) (by kernel_rfl) (QzL _ ops inn d ?_)
 have hl_ops:ops.length≤9223372036854775807:=hb.1.1
 have hl_inn:inn.length≤9223372036854775807:=hb.2.1.1
 have hl_d:d.length≤9223372036854775807:=hb.2.2.1.1
 obtain ⟨hp1,hp2⟩:=hp
 have hop:ops.length≤4294967296:=hp2
 refine ⟨⟨by omega,by rw [bigI];omega⟩,?_⟩
 rw [Qs (x:=(ops.length:Int)-1) (by omega) (by omega),Int.toNat_natCast,List.take_of_length_le (by simp)]
 have key:∀ j,j≤ops.length→Qgb (fun r'=>r'=Qb6 (QD ops inn d)) ops inn ((QD (ops.drop j) (inn.drop j) d).2.1) ((QD (ops.drop j) (inn.drop j) d).2.2) ((j:Int)-1) (List.replicate j ([]:List Int)++(QD (ops.drop j) (inn.drop j) d).1):=by
  intro j
  induction j with
  | zero =>
   intro _
   refine Qtv (fun r'=>r'=Qb6 (QD ops inn d)) ops inn _ _ _ _ ⟨fun h=>by simp at h,fun _=>R_eq ?_⟩
   simp
  | succ j ih =>
   intro hj
   obtain ⟨a,s,ha⟩:=Yj (l:=ops) (k:=j) (by omega)
   obtain ⟨e,t,he⟩:=Yj (l:=inn) (k:=j) (by omega)
   have hgl:(QD (ops.drop (j+1)) (inn.drop (j+1)) d).1.length=ops.length-(j+1):=by rw [Qgn _ _ _ (by simp;omega)];simp
   refine Qtv (fun r'=>r'=Qb6 (QD ops inn d)) ops inn _ _ _ _ ⟨fun _=>?_,fun h=>by simp at h⟩
   rw [show Int.toNat (((j+1:Nat):Int)-1)=j by omega,Nat.zero_add,ZN ha,ZN he,Qs (x:=((j+1:Nat):Int)-1-1) (by omega) (by omega),Qp7]
   have ih:=ih (by omega)
   rw [ha,he,← Zx ha,← Zx he,QD] at ih
   refine ⟨⟨⟨by omega,by omega⟩,by omega,by omega⟩,⟨⟨by omega,by simp [hgl];omega⟩,by simp [hgl];omega⟩,?_⟩
   rw [List.take_of_length_le (by simp [hgl];omega),Bool.or_comm,show ((j+1:Nat):Int)-1-1=(j:Int)-1 by omega]
   exact ih
 have h0:=key ops.length (Nat.le_refl _)
 rw [List.drop_length] at h0
 simpa [QD] using h0
theorem QIw:Qh Tryz.prog Qhw:=Qk fun x h=>QIW x.1 x.2.1 x.2.2.1 h
end
end Go.Proofs.YtjbdljkhbglnhaaGreat.Am

