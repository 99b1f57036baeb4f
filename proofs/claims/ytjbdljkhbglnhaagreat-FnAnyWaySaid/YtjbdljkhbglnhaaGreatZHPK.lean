/- -/
import Derived.Test.YtjbdljkhbglnhaaGreatZHP4
import Derived.Test.YtjbdljkhbglnhaaGreatZHP1
import Derived.Test.YtjbdljkhbglnhaaGreatZHPF
import Derived.Test.YtjbdljkhbglnhaaGreatZHPI
import Derived.Test.YtjbdljkhbglnhaaGreatZHP5
import Derived.Test.YtjbdljkhbglnhaaGreatZHPG
import Derived.Test.YtjbdljkhbglnhaaGreatZHPJ
namespace Go.Proofs.YtjbdljkhbglnhaaGreat.Am
open Go Go.RowKit Go.Proofs.YtjbdljkhbglnhaaGreat
set_option linter.all false
noncomputable section
variable (K:TRes→Prop)
def Qc8 (t:(List (List Int)) × Bool):TRes:=zra (.tp [(zcs [(.sl [TI])] t.1),(zcb t.2)])
def Qhh:TRow:=Qg 118 [(.a [(.sl ctOp)]),(.c (.sl [TI]))] fun x=>(none,Qc8 (Jq x.1 x.2.1))
def QnL:List TRow:=[J6,Qdr,JA,Qab,QlG]
def QyK:TCode :=
 (zsq [(.reg [zbi 30 .lss 29 28]),(.cond 30 .skip (.exit 0)),(.block 1 (zsq [(.reg [zmv 31 29,zia 32 27 29 ctOp,zLd 33 32 4,zop 9 (.new 69 (z0s ctOp)),zmv 8 31,zst 9 33 4]),(.draw [zLd 35 9 4,zmv 36 6,zmv 37 8,zia 38 36 37 [(.sl [TI])],zfa 39 38 0,zld 40 39 1,zca 41 187 [35,40],zmv 34 41,zex 42 34 0,zex 43 34 1,zmv 10 42,zmv 11 43] []),(.reg [zmv 44 6,zmv 45 10,zop 46 (.build [(.n [TI])] [(0,1,45)]),zop 47 (.bsl 129 [(.sl [TI])] [46]),zop 48 (.app 44 47 129 [(.sl [TI])]),zmv 6 48]),(.reg [zmv 49 7,zmv 50 49,.grp 50 false [zmv 51 11] 52 51,zmv 7 52])])),(.reg [zbi 53 .add 29 (zki 1),zmv 29 53])])
def Qtb:List (Nat × Md):=[(6,.one .f),(7,.one .d),(27,.one .d),(28,.one .d),(29,.one .d)]
def Qz4:TCode :=
 (zsq [(.reg [zmv 54 6,zmv 55 7,zmv 4 54,zmv 5 55]),.ret])
def QOv:TCode :=
 (zsq [(.reg [zop 2 (.box 26 0 1),zmv 4 (.k (.n [(.sl [TI])])),zmv 5 (zkb false)]),(zsq [(.reg [zLd 12 2 1,zca 13 131 [12],zno 14 13,zmv 15 14,.grp 15 false [zmv 16 1,zLd 17 2 1,zca 18 115 [17],zca 19 114 [16,18],zno 20 19] 21 20]),(.cond 21 (zsq [(.reg [zmv 4 (.k (.n [(.sl [TI])])),zmv 5 (zkb false)]),.ret]) .skip)]),(.reg [zmv 22 1,zca 23 119 [22],zop 24 (.build [(.n [TI])] [(0,1,23)]),zop 25 (.bsl 129 [(.sl [TI])] [24]),zmv 6 25]),(.reg [zmv 7 (zkb false)]),(zsq [(.reg [zfa 26 2 0,zld 27 26 1,zle 28 27,zmv 29 (zki 0)]),(.block 0 (.loop Qtb QyK))]),Qz4])
def Qze:List (ARv × Md):=[(.t 4,.one .d),(.t 5,.one .d)]
def Qrg:Qb:=TQ 0 0 Qze K
def QJj:Qb:=Qseq (tawp QnL 0 Qz4 (Qrg K)) (Qrg K)
def QDh:Qb:=Qblk 0 (QJj K)
def Qi4 (m:List TOp') (out:Bool) (x1:Int) (rows:List (List Int)):Prop:=Loop QnL 0 Qtb QyK (QDh K) ⟨[(6,(.r [(.sl [TI])] 0 0 rows.length)),(7,(zcb out)),(27,(zcs ctOp m)),(28,(zci (m.length:Int))),(29,(zci x1))],[(0,(.sl 129 [(.sl [TI])] true rows))],1⟩
theorem QzR (m:List TOp') (out:Bool) (x1:Int) (rows:List (List Int)) (h :
 (zif (decide (x1<(m.length:Int))) (((0:Int)≤x1∧Int.toNat x1<m.length)∧((((0:Int)≤x1∧Int.toNat x1<rows.length)∧((0+(Int.toNat x1))<rows.length))∧(((rows.length=rows.length∨rows.length+1≤rows.length)∧rows.length+1≤big)∧(Qi4 K m (out||((Y4 (gtd dOp m (Int.toNat x1)) (gtd ([]:List Int) rows (0+(Int.toNat x1)))).2)) (w64 (x1+(1:Int))) (List.take (rows.length+1) ((List.take rows.length rows)++([(Y4 (gtd dOp m (Int.toNat x1)) (gtd ([]:List Int) rows (0+(Int.toNat x1)))).1]))))))) (K (Qc8 ((List.take rows.length (List.drop 0 rows)),out))))):Qi4 K m out x1 rows :=
 Loop.of (by kernel_rfl) h
theorem QB2 (m:List TOp') (x:List Int) (h :
 (zif ((!(Qw m))||(!(Qs x (QX m)))) (K (Qc8 ([],false))) ((QI (α:=List Int) x)∧(Qi4 K m false 0 ([(List.take ((id (α:=List Int) x).length) (List.drop 0 (id (α:=List Int) x)))]))))):Hold (tawp QnL (0+0) QOv (TQ 0 0 Qze K) (Qf [(.a [(.c (.sl ctOp) m)]),(.c (.sl [TI]) x)])) :=
 Hold.of (by kernel_rfl) h
theorem QIg (m:List TOp') (x:List Int):TCon Tryz.prog 118 [(.a [(.c (.sl ctOp) m)]),(.c (.sl [TI]) x)] (Qc8 (Jq m x)):=by
 refine Qq rfl fun hb=>tcg (n:=56) (sg:=Qhh.sg) Qj (TOk.cons QaP (TOk.cons QhR (TOk.cons Qao (TOk.cons Qbk (TOk.cons QL1 TOk.nil))))) (by kernel_rfl) (by kernel_rfl) (QB2 _ m x ?_)
 have hl_m_0:(m).length≤9223372036854775807:=hb.1.1.1
 have hl_x:x.length≤9223372036854775807:=hb.2.1.1
 refine ⟨fun h=>R_eq (by unfold Jq;rw [if_neg (by intro h2;simp at h2;simp [h2.1,h2.2] at h)]),fun h=>?_⟩
 have hp:Qw m=true∧Qs x (QX m)=true:=by simpa using h
 have hl:=Yx hp.1
 have hx:=(YE.1 (YA.1 hp.2).1).1
 have hm:=QjH hp.1 hp.2
 rw [QdO]
 refine ⟨by unfold QI;rw [Je];omega,?_⟩
 refine ZL m (fun r k=>∀ (v:List (List Int)) (z:Bool),v.length=k+1→(v.take k++(Qy r (gtd [] v k)).1,z||(Qy r (gtd [] v k)).2)=Qy m x→Qi4 (fun r'=>r'=Qc8 (Jq m x)) m z k v) ?_ ?_ [x] false rfl (by simp [gtd])
 ·intro v z hv he
  refine QzR (fun r'=>r'=Qc8 (Jq m x)) m _ _ _ ⟨fun h=>by simp at h,fun _=>R_eq ?_⟩
  rw [hm,← he,JP]
  simp only [Qy,Bool.or_false]
  rw [QqS [] hv]
 ·intro k o r hk hlt hg ih v z hv he
  refine QzR (fun r'=>r'=Qc8 (Jq m x)) m _ _ _ ⟨fun _=>?_,fun h=>by simp at h;omega⟩
  rw [Int.toNat_natCast,hg,Nat.zero_add,sc1 (by omega),Zq]
  refine ⟨⟨by omega,hlt⟩,⟨⟨by omega,by omega⟩,by omega⟩,room (by omega),ih _ _ (JX hv) ?_⟩
  rw [QCK [] _ hv,QQh _ hv,← he,Qy]
  have:=QqS [] hv
  simp only [Bool.or_assoc]
  rw [List.append_cons,this]
theorem QwR:Qh Tryz.prog Qhh:=Qk fun x _=>QIg x.1 x.2.1
def QdP (t:(List (List Int)) × (List Int) × Bool):TRes:=zra (.tp [(zcs [(.sl [TI])] t.1),(zcs [TI] t.2.1),(zcb t.2.2)])
def Ql6:TRow:=Qg 125 [(.c (.sl ctOp)),(.c (.sl [(.sl [TI])])),(.c (.sl [TI]))] fun x=>(some (QmW x.1 x.2.1 x.2.2.1),QdP (QM x.1 x.2.1 x.2.2.1))
def QjU:List TRow:=[Qon]
def Qy7:TCode :=
 (zsq [(zsq [(.reg [zmv 21 11,zbi 22 .geq 21 (zki 0)]),(.cond 22 .skip (.exit 0))]),(.block 1 (zsq [(.draw [zmv 26 0,zmv 27 11,zia 28 26 27 ctOp,zLd 29 28 4,zmv 30 1,zmv 31 11,zia 32 30 31 [(.sl [TI])],zfa 33 32 0,zld 34 33 1,zmv 35 2,zca 36 193 [29,34,35],zmv 25 36,zex 37 25 0,zex 38 25 1,zex 39 25 2,zmv 12 37,zmv 13 38,zmv 14 39] []),(.reg [zmv 40 9,zmv 41 11,zmv 42 13,zop 43 (.build [(.n [TI])] [(0,1,42)]),zia 44 40 41 [(.sl [TI])],zst 44 43 1]),(.reg [zmv 45 12,zmv 2 45]),(.reg [zmv 46 10,zmv 47 46,.grp 47 false [zmv 48 14] 49 48,zmv 10 49])])),(.reg [zmv 23 11,zbi 24 .sub 23 (zki 1),zmv 11 24])])
def QyZ:List (Nat × Md):=[(0,.one .d),(1,.one .d),(2,.one .d),(9,.one .f),(10,.one .d),(11,.one .d)]
def Qpv:TCode :=
 (zsq [(.reg [zmv 50 9,zmv 51 2,zmv 52 10,zmv 6 50,zmv 7 51,zmv 8 52]),.ret])
def QFC:TCode :=
 (zsq [(.reg [zmv 6 (.k (.n [(.sl [TI])])),zmv 7 (.k (.n [TI])),zmv 8 (zkb false)]),(.reg [zmv 15 0,zle 16 15,zop 17 (.mk 129 [(.sl [TI])] [(.n [TI])] 16),zmv 9 17]),(.reg [zmv 10 (zkb false)]),(zsq [(.reg [zmv 18 0,zle 19 18,zbi 20 .sub 19 (zki 1),zmv 11 20]),(.block 0 (.loop QyZ Qy7))]),Qpv])
def Qpp:List (ARv × Md):=[(.t 6,.one .d),(.t 7,.one .d),(.t 8,.one .d)]
def QrD:Qb:=TQ 0 0 Qpp K
def QKf:Qb:=Qseq (tawp QjU 0 Qpv (QrD K)) (QrD K)
def QKZ:Qb:=Qblk 0 (QKf K)
def QhU (ops:List TOp') (rows:List (List Int)) (d1:List Int) (out:Bool) (i:Int) (grads:List (List Int)):Prop:=Loop QjU 0 QyZ Qy7 (QKZ K) ⟨[(0,(zcs ctOp ops)),(1,(zcs [(.sl [TI])] rows)),(2,(zcs [TI] d1)),(9,(.r [(.sl [TI])] 0 0 grads.length)),(10,(zcb out)),(11,(zci i))],[(0,(.sl 129 [(.sl [TI])] true grads))],1⟩
theorem QrK (ops:List TOp') (rows:List (List Int)) (d1:List Int) (out:Bool) (i:Int) (grads:List (List Int)) (h :
 (zif (decide (i≥(0:Int))) ((((0:Int)≤i∧Int.toNat i<ops.length)∧((0:Int)≤i∧Int.toNat i<rows.length))∧((((0:Int)≤i∧Int.toNat i<grads.length)∧((0+(Int.toNat i))<grads.length))∧(QhU K ops rows ((YS (gtd dOp ops (Int.toNat i)) (gtd ([]:List Int) rows (Int.toNat i)) d1).1) (out||((YS (gtd dOp ops (Int.toNat i)) (gtd ([]:List Int) rows (Int.toNat i)) d1).2.2)) (w64 (i-(1:Int))) (List.take grads.length ((grads).set (0+(Int.toNat i)) ((YS (gtd dOp ops (Int.toNat i)) (gtd ([]:List Int) rows (Int.toNat i)) d1).2.1)))))) (K (QdP ((List.take grads.length (List.drop 0 grads)),d1,out))))):QhU K ops rows d1 out i grads :=
 Loop.of (by kernel_rfl) h
theorem QID (ops:List TOp') (rows:List (List Int)) (d:List Int) (h :
 (((0:Int)≤(ops.length:Int)∧(ops.length:Int)≤big)∧(QhU K ops rows d false (w64 ((ops.length:Int)-(1:Int))) (List.take (Int.toNat (ops.length:Int)) (List.replicate (Int.toNat (ops.length:Int)) ([]:List Int)))))):Hold (tawp QjU (0+0) QFC (TQ 0 0 Qpp K) (Qf [(.c (.sl ctOp) ops),(.c (.sl [(.sl [TI])]) rows),(.c (.sl [TI]) d)])) :=
 Hold.of (by kernel_rfl) h
theorem QIs (ops:List TOp') (rows:List (List Int)) (d:List Int) (hp:QmW ops rows d):TCon Tryz.prog 125 [(.c (.sl ctOp) ops),(.c (.sl [(.sl [TI])]) rows),(.c (.sl [TI]) d)] (QdP (QM ops rows d)):=by
 refine Qq rfl fun hb=>tcg (n:=53) (sg:=Ql6.sg) Qj (TOk.cons QFD TOk.nil) (by kernel_rfl) (by kernel_rfl) (QID _ ops rows d ?_)
 have hl_ops:ops.length≤9223372036854775807:=hb.1.1
 have hl_rows:rows.length≤9223372036854775807:=hb.2.1.1
 have hl_d:d.length≤9223372036854775807:=hb.2.2.1.1
 obtain ⟨hp1,hp2⟩:=hp
 have hop:ops.length≤4294967296:=hp2
 refine ⟨⟨by omega,by rw [bigI];omega⟩,?_⟩
 rw [Qo (x:=(ops.length:Int)-1) (by omega) (by omega),Int.toNat_natCast,List.take_of_length_le (by simp)]
 have key:∀ j,j≤ops.length→QhU (fun r'=>r'=QdP (QM ops rows d)) ops rows ((QM (ops.drop j) (rows.drop j) d).2.1) ((QM (ops.drop j) (rows.drop j) d).2.2) ((j:Int)-1) (List.replicate j ([]:List Int)++(QM (ops.drop j) (rows.drop j) d).1):=by
  intro j
  induction j with
  | zero =>
   intro _
   refine QrK (fun r'=>r'=QdP (QM ops rows d)) ops rows _ _ _ _ ⟨fun h=>by simp at h,fun _=>R_eq ?_⟩
   simp
  | succ j ih =>
   intro hj
   obtain ⟨a,s,ha⟩:=Qbu (l:=ops) (k:=j) (by omega)
   obtain ⟨e,t,he⟩:=Qbu (l:=rows) (k:=j) (by omega)
   have hgl:(QM (ops.drop (j+1)) (rows.drop (j+1)) d).1.length=ops.length-(j+1):=by rw [Qho _ _ _ (by simp;omega)];simp
   refine QrK (fun r'=>r'=QdP (QM ops rows d)) ops rows _ _ _ _ ⟨fun _=>?_,fun h=>by simp at h⟩
   rw [show Int.toNat (((j+1:Nat):Int)-1)=j by omega,Nat.zero_add,Y1 ha,Y1 he,Qo (x:=((j+1:Nat):Int)-1-1) (by omega) (by omega),QQd]
   have ih:=ih (by omega)
   rw [ha,he,← YO ha,← YO he,QM] at ih
   refine ⟨⟨⟨by omega,by omega⟩,by omega,by omega⟩,⟨⟨by omega,by simp [hgl];omega⟩,by simp [hgl];omega⟩,?_⟩
   rw [List.take_of_length_le (by simp [hgl];omega),Bool.or_comm,show ((j+1:Nat):Int)-1-1=(j:Int)-1 by omega]
   exact ih
 have h0:=key ops.length (Nat.le_refl _)
 rw [List.drop_length] at h0
 simpa [QM] using h0
theorem QBH:Qh Tryz.prog Ql6:=Qk fun x h=>QIs x.1 x.2.1 x.2.2.1 h
end
end Go.Proofs.YtjbdljkhbglnhaaGreat.Am

