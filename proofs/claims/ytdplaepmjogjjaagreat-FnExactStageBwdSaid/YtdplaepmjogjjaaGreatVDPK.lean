/- -/
import Derived.Test.YtdplaepmjogjjaaGreatVDP4
import Derived.Test.YtdplaepmjogjjaaGreatVDP1
import Derived.Test.YtdplaepmjogjjaaGreatVDPF
import Derived.Test.YtdplaepmjogjjaaGreatVDPI
namespace Go.Proofs.YtdplaepmjogjjaaGreat.Am
open Go Go.RowKit Go.Proofs.YtdplaepmjogjjaaGreat
set_option linter.all false
noncomputable section
variable (K:TRes→Prop)
def QaT (t:(List (List Int)) × (List Int) × Bool):TRes:=⟨(.tp [(.r [(.sl [TI])] 0 0 ((t.1).length)),(.r [TI] 1 0 ((t.2.1).length)),(zcb t.2.2)]),[(.sl 106 [(.sl [TI])] (.dp 0 true []) t.1),(.sl 3 [TI] (.dp 0 true []) t.2.1)],[],false,[]⟩
def Qhm:TRow:=Qg 112 [(.c (.sl ctOp)),(.c (.sl [(.sl [TI])])),(.c (.sl [TI]))] fun x=>(some (QbT x.1 x.2.1 x.2.2.1),QaT (Qy x.1 x.2.1 x.2.2.1))
def QcS:TTab:=⟨[Qix],true⟩
def QiO:TCode :=
 (zsq [(zsq [(.reg [zmv 21 11,zbi 22 .geq 21 (zki 0)]),(.cond 22 .skip (.exit 0))]),(.block 1 (zsq [(.draw [zmv 26 0,zmv 27 11,zia 28 26 27 ctOp,zLd 29 28 4,zmv 30 1,zmv 31 11,zia 32 30 31 [(.sl [TI])],zfa 33 32 0,zld 34 33 1,zmv 35 2,zca 36 197 [29,34,35],zmv 25 36,zex 37 25 0,zex 38 25 1,zex 39 25 2,zmv 12 37,zmv 13 38,zmv 14 39] []),(.reg [zmv 40 9,zmv 41 11,zmv 42 13,zop 43 (.build [(.n [TI])] [(0,1,42)]),zia 44 40 41 [(.sl [TI])],zst 44 43 1]),(.reg [zmv 45 12,zmv 2 45]),(.reg [zmv 46 10,zmv 47 46,.grp 47 false [zmv 48 14] 49 48,zmv 10 49])])),(.reg [zmv 23 11,zbi 24 .sub 23 (zki 1),zmv 11 24])])
def QjV:List (Nat × Md):=[(0,.one .f),(1,.one .f),(2,.one .f),(9,.one .f),(10,.one .d),(11,.one .d)]
def Qt4:TCode :=
 (zsq [(.reg [zmv 50 9,zmv 51 2,zmv 52 10,zmv 6 50,zmv 7 51,zmv 8 52]),.ret])
def QEI:TCode :=
 (zsq [(.reg [zmv 6 (.k (.n [(.sl [TI])])),zmv 7 (.k (.n [TI])),zmv 8 (zkb false)]),(.reg [zmv 15 0,zle 16 15,zop 17 (.mk 106 [(.sl [TI])] [(.n [TI])] 16),zmv 9 17]),(.reg [zmv 10 (zkb false)]),(zsq [(.reg [zmv 18 0,zle 19 18,zbi 20 .sub 19 (zki 1),zmv 11 20]),(.block 0 (.loop QjV QiO))]),Qt4])
def Qt7:List (ARv × Md):=[(.t 6,.one (.p 106)),(.t 7,.one (.p 3)),(.t 8,.one .d)]
def Qvl:Qb:=TQ 0 0 Qt7 K
def QxF:Qb:=Qseq (tawp QcS 0 Qt4 (Qvl K)) (Qvl K)
def Qtu:Qb:=Qblk 0 (QxF K)
def QfI (ops:List TOp') (rows:List (List Int)) (out:Bool) (i:Int) (d1:List Int) (grads:List (List Int)):Prop:=Loop QcS 0 QjV QiO (Qtu K) ⟨[(0,(zcs ctOp ops)),(1,(zcs [(.sl [TI])] rows)),(2,(.r [TI] 0 0 d1.length)),(9,(.r [(.sl [TI])] 1 0 grads.length)),(10,(zcb out)),(11,(zci i))],[(0,(.sl 3 [TI] (.dp 0 true []) d1)),(1,(.sl 106 [(.sl [TI])] (.dp 0 true []) grads))],2⟩
def QlU (ops:List TOp') (rows:List (List Int)) (d:List Int):Prop:=Loop QcS 0 QjV QiO (Qtu K) ⟨[(0,(zcs ctOp ops)),(1,(zcs [(.sl [TI])] rows)),(2,(zcs [TI] d)),(9,(.r [(.sl [TI])] 0 0 ((List.take (Int.toNat (ops.length:Int)) (List.replicate (Int.toNat (ops.length:Int)) ([]:List Int))).length))),(10,(zcb false)),(11,(zci (w64 ((ops.length:Int)-(1:Int)))))],[(0,(.sl 106 [(.sl [TI])] (.dp 0 true []) (List.take (Int.toNat (ops.length:Int)) (List.replicate (Int.toNat (ops.length:Int)) ([]:List Int)))))],1⟩
theorem QnI (ops:List TOp') (rows:List (List Int)) (out:Bool) (i:Int) (d1:List Int) (grads:List (List Int)) (h :
 let z1:=ZA (gtd dOp ops (Int.toNat i)) (gtd ([]:List Int) rows (Int.toNat i)) (List.take d1.length (List.drop 0 d1))
 (zif (decide (i≥(0:Int))) ((((0:Int)≤i∧Int.toNat i<ops.length)∧((0:Int)≤i∧Int.toNat i<rows.length))∧((((0:Int)≤i∧Int.toNat i<grads.length)∧((0+(Int.toNat i))<grads.length))∧(QfI K ops rows (out||(z1.2.2)) (w64 (i-(1:Int))) (List.take ((z1.1).length) (z1.1)) (List.take grads.length ((grads).set (0+(Int.toNat i)) (List.take ((z1.2.1).length) (List.drop 0 (z1.2.1)))))))) (K (QaT ((List.take grads.length grads),(List.take d1.length d1),out))))):QfI K ops rows out i d1 grads :=
 Loop.of (by kernel_rfl) h
theorem QAz (ops:List TOp') (rows:List (List Int)) (d:List Int) (h :
 let z1:=List.take (Int.toNat (ops.length:Int)) (List.replicate (Int.toNat (ops.length:Int)) ([]:List Int))
 let z3:=w64 ((ops.length:Int)-(1:Int))
 let z2:=ZA (gtd dOp ops (Int.toNat z3)) (gtd ([]:List Int) rows (Int.toNat z3)) d
 (zif (decide (z3≥(0:Int))) ((((0:Int)≤w64 ((ops.length:Int)-(1:Int))∧Int.toNat z3<ops.length)∧((0:Int)≤w64 ((ops.length:Int)-(1:Int))∧Int.toNat z3<rows.length))∧((((0:Int)≤w64 ((ops.length:Int)-(1:Int))∧Int.toNat z3<z1.length)∧((0+(Int.toNat z3))<z1.length))∧(QfI K ops rows (false||(z2.2.2)) (w64 (z3-(1:Int))) (List.take ((z2.1).length) (z2.1)) (List.take (z1.length) ((z1).set (0+(Int.toNat z3)) (List.take ((z2.2.1).length) (List.drop 0 (z2.2.1)))))))) (K (⟨(.tp [(.r [(.sl [TI])] 0 0 ((List.take (z1.length) z1).length)),(zcs [TI] d),(zcb false)]),[(.sl 106 [(.sl [TI])] (.dp 0 true []) (List.take (z1.length) z1))],[],true,[]⟩)))):QlU K ops rows d :=
 Loop.of (by kernel_rfl) h
theorem QGS (ops:List TOp') (rows:List (List Int)) (d:List Int) (h :
 (((0:Int)≤(ops.length:Int)∧(ops.length:Int)≤big)∧(QlU K ops rows d))):Hold (tawp QcS (0+0) QEI (TQ 0 0 Qt7 K) (Qd [(.c (.sl ctOp) ops),(.c (.sl [(.sl [TI])]) rows),(.c (.sl [TI]) d)])) :=
 Hold.of (by kernel_rfl) h
theorem QxB (ops:List TOp') (rows:List (List Int)) (d:List Int) (hp:QbT ops rows d):TCon Tryz.prog 112 [(.c (.sl ctOp) ops),(.c (.sl [(.sl [TI])]) rows),(.c (.sl [TI]) d)] (QaT (Qy ops rows d)):=by
 refine Qh rfl fun hb=>tcg (Γ:=QcS) (n:=53) (sg:=Qhm.sg) Qi (TOkL.cons QGf TOkL.nil) (by kernel_rfl) (by kernel_rfl) (QGS _ ops rows d ?_)
 have hl_ops:ops.length≤9223372036854775807:=hb.1.1
 have hl_rows:rows.length≤9223372036854775807:=hb.2.1.1
 have hl_d:d.length≤9223372036854775807:=hb.2.2.1.1
 obtain ⟨⟨hp1,hp2⟩,hp3⟩:=hp
 have hop:ops.length≤4294967296:=hp2
 refine ⟨⟨by omega,by rw [bigI];omega⟩,?_⟩
 have key:∀ j,j<ops.length→QfI (fun r'=>r'=QaT (Qy ops rows d)) ops rows ((Qy (ops.drop j) (rows.drop j) d).2.2) ((j:Int)-1) ((Qy (ops.drop j) (rows.drop j) d).2.1) (List.replicate j ([]:List Int)++(Qy (ops.drop j) (rows.drop j) d).1):=by
  intro j
  induction j with
  | zero =>
   intro _
   refine QnI (fun r'=>r'=QaT (Qy ops rows d)) ops rows _ _ _ _ ⟨fun h=>by simp at h,fun _=>R_eq ?_⟩
   simp
  | succ j ih =>
   intro hj
   obtain ⟨a,s,ha⟩:=ZQ (l:=ops) (k:=j) (by omega)
   obtain ⟨e,t,he⟩:=ZQ (l:=rows) (k:=j) (by omega)
   have hgl:(Qy (ops.drop (j+1)) (rows.drop (j+1)) d).1.length=ops.length-(j+1):=by rw [Qjr _ _ _ (by simp;omega)];simp
   refine QnI (fun r'=>r'=QaT (Qy ops rows d)) ops rows _ _ _ _ ⟨fun _=>?_,fun h=>by simp at h⟩
   simp only [List.drop_zero,List.take_length]
   rw [show Int.toNat (((j+1:Nat):Int)-1)=j by omega,Nat.zero_add,Zr ha,Zr he,Qx (x:=((j+1:Nat):Int)-1-1) (by omega) (by omega),QiN]
   have ih:=ih (by omega)
   rw [ha,he,← Zj ha,← Zj he,Qy] at ih
   refine ⟨⟨⟨by omega,by omega⟩,by omega,by omega⟩,⟨⟨by omega,by simp [hgl];omega⟩,by simp [hgl];omega⟩,?_⟩
   rw [List.take_of_length_le (by simp [hgl];omega),Bool.or_comm,show ((j+1:Nat):Int)-1-1=(j:Int)-1 by omega]
   exact ih
 obtain ⟨j,hj⟩:∃ j,ops.length=j+1:=⟨ops.length-1,by omega⟩
 have h0:=key j (by omega)
 obtain ⟨a,s,ha⟩:=ZQ (l:=ops) (k:=j) (by omega)
 obtain ⟨e,t,he⟩:=ZQ (l:=rows) (k:=j) (by omega)
 have hs:s=[]:=by rw [← Zj ha];exact List.drop_eq_nil_of_le (by omega)
 rw [ha,hs,he] at h0
 simp only [Qy,Bool.or_false] at h0
 have hw:w64 ((ops.length:Int)-1)=(j:Int):=by rw [Qx (by omega) (by omega)];omega
 have hr:List.take ops.length (List.replicate ops.length ([]:List Int))=List.replicate (j+1) []++[]:=by rw [List.take_of_length_le (by simp),hj];simp
 refine QAz (fun r'=>r'=QaT (Qy ops rows d)) ops rows d ?_
 conv=>zeta
 simp only [hw,Int.toNat_natCast,hr,Nat.zero_add,Zr ha,Zr he,QiN,List.take_length,List.drop_zero,Bool.false_or]
 rw [Qx (x:=(j:Int)-1) (by omega) (by omega)]
 refine ⟨fun _=>?_,fun h=>absurd h (by simp)⟩
 refine ⟨⟨⟨by omega,by omega⟩,by omega,by omega⟩,⟨⟨by omega,by simp⟩,by simp⟩,?_⟩
 rw [List.take_of_length_le (by simp)]
 exact h0
theorem QJi:Qf Tryz.prog Qhm:=Qj fun x h=>QxB x.1 x.2.1 x.2.2.1 h
def Qbu (t:(List (List Int)) × (List Int) × Bool):TRes:=zra (.tp [(zcs [(.sl [TI])] t.1),(zcs [TI] t.2.1),(zcb t.2.2)])
def Qjk:TRow:=Qg 108 [(.c (.sl ctOp)),(.c (.sl [(.sl [TI])])),(.c (.sl [TI]))] fun x=>(some (Qhu x.1 x.2.1 x.2.2.1),Qbu (Qy x.1 x.2.1 x.2.2.1))
def QeF:TTab:=⟨[Qkk],false⟩
def Qry:TCode :=
 (zsq [(zsq [(.reg [zmv 21 11,zbi 22 .geq 21 (zki 0)]),(.cond 22 .skip (.exit 0))]),(.block 1 (zsq [(.draw [zmv 26 0,zmv 27 11,zia 28 26 27 ctOp,zLd 29 28 4,zmv 30 1,zmv 31 11,zia 32 30 31 [(.sl [TI])],zfa 33 32 0,zld 34 33 1,zmv 35 2,zca 36 193 [29,34,35],zmv 25 36,zex 37 25 0,zex 38 25 1,zex 39 25 2,zmv 12 37,zmv 13 38,zmv 14 39] []),(.reg [zmv 40 9,zmv 41 11,zmv 42 13,zop 43 (.build [(.n [TI])] [(0,1,42)]),zia 44 40 41 [(.sl [TI])],zst 44 43 1]),(.reg [zmv 45 12,zmv 2 45]),(.reg [zmv 46 10,zmv 47 46,.grp 47 false [zmv 48 14] 49 48,zmv 10 49])])),(.reg [zmv 23 11,zbi 24 .sub 23 (zki 1),zmv 11 24])])
def Qri:List (Nat × Md):=[(0,.one .d),(1,.one .d),(2,.one .d),(9,.one .f),(10,.one .d),(11,.one .d)]
def Qt1:TCode :=
 (zsq [(.reg [zmv 50 9,zmv 51 2,zmv 52 10,zmv 6 50,zmv 7 51,zmv 8 52]),.ret])
def Qwj:TCode :=
 (zsq [(.reg [zmv 6 (.k (.n [(.sl [TI])])),zmv 7 (.k (.n [TI])),zmv 8 (zkb false)]),(.reg [zmv 15 0,zle 16 15,zop 17 (.mk 106 [(.sl [TI])] [(.n [TI])] 16),zmv 9 17]),(.reg [zmv 10 (zkb false)]),(zsq [(.reg [zmv 18 0,zle 19 18,zbi 20 .sub 19 (zki 1),zmv 11 20]),(.block 0 (.loop Qri Qry))]),Qt1])
def Qs7:List (ARv × Md):=[(.t 6,.one .d),(.t 7,.one .d),(.t 8,.one .d)]
def QmZ:Qb:=TQ 0 0 Qs7 K
def QJQ:Qb:=Qseq (tawp QeF 0 Qt1 (QmZ K)) (QmZ K)
def QBD:Qb:=Qblk 0 (QJQ K)
def QeT (ops:List TOp') (inn:List (List Int)) (d1:List Int) (sat:Bool) (i:Int) (g:List (List Int)):Prop:=Loop QeF 0 Qri Qry (QBD K) ⟨[(0,(zcs ctOp ops)),(1,(zcs [(.sl [TI])] inn)),(2,(zcs [TI] d1)),(9,(.r [(.sl [TI])] 0 0 g.length)),(10,(zcb sat)),(11,(zci i))],[(0,(.sl 106 [(.sl [TI])] .ow g))],1⟩
theorem QoR (ops:List TOp') (inn:List (List Int)) (d1:List Int) (sat:Bool) (i:Int) (g:List (List Int)) (h :
 (zif (decide (i≥(0:Int))) ((((0:Int)≤i∧Int.toNat i<ops.length)∧((0:Int)≤i∧Int.toNat i<inn.length))∧((((0:Int)≤i∧Int.toNat i<g.length)∧((0+(Int.toNat i))<g.length))∧(QeT K ops inn ((ZA (gtd dOp ops (Int.toNat i)) (gtd ([]:List Int) inn (Int.toNat i)) d1).1) (sat||((ZA (gtd dOp ops (Int.toNat i)) (gtd ([]:List Int) inn (Int.toNat i)) d1).2.2)) (w64 (i-(1:Int))) (List.take g.length ((g).set (0+(Int.toNat i)) ((ZA (gtd dOp ops (Int.toNat i)) (gtd ([]:List Int) inn (Int.toNat i)) d1).2.1)))))) (K (Qbu ((List.take g.length (List.drop 0 g)),d1,sat))))):QeT K ops inn d1 sat i g :=
 Loop.of (by kernel_rfl) h
theorem QF3 (ops:List TOp') (inn:List (List Int)) (d:List Int) (h :
 (((0:Int)≤(ops.length:Int)∧(ops.length:Int)≤big)∧(QeT K ops inn d false (w64 ((ops.length:Int)-(1:Int))) (List.take (Int.toNat (ops.length:Int)) (List.replicate (Int.toNat (ops.length:Int)) ([]:List Int)))))):Hold (tawp QeF (0+0) Qwj (TQ 0 0 Qs7 K) (Qd [(.c (.sl ctOp) ops),(.c (.sl [(.sl [TI])]) inn),(.c (.sl [TI]) d)])) :=
 Hold.of (by kernel_rfl) h
theorem QIQ (ops:List TOp') (inn:List (List Int)) (d:List Int) (hp:Qhu ops inn d):TCon Tryz.prog 108 [(.c (.sl ctOp) ops),(.c (.sl [(.sl [TI])]) inn),(.c (.sl [TI]) d)] (Qbu (Qy ops inn d)):=by
 refine Qh rfl fun hb=>tcg (Γ:=QeF) (n:=53) (sg:=Qjk.sg) Qi (TOkL.cons QF7 TOkL.nil) (by kernel_rfl) (by kernel_rfl) (QF3 _ ops inn d ?_)
 have hl_ops:ops.length≤9223372036854775807:=hb.1.1
 have hl_inn:inn.length≤9223372036854775807:=hb.2.1.1
 have hl_d:d.length≤9223372036854775807:=hb.2.2.1.1
 obtain ⟨hp1,hp2⟩:=hp
 have hop:ops.length≤4294967296:=hp2
 refine ⟨⟨by omega,by rw [bigI];omega⟩,?_⟩
 rw [Qx (x:=(ops.length:Int)-1) (by omega) (by omega),Int.toNat_natCast,List.take_of_length_le (by simp)]
 have key:∀ j,j≤ops.length→QeT (fun r'=>r'=Qbu (Qy ops inn d)) ops inn ((Qy (ops.drop j) (inn.drop j) d).2.1) ((Qy (ops.drop j) (inn.drop j) d).2.2) ((j:Int)-1) (List.replicate j ([]:List Int)++(Qy (ops.drop j) (inn.drop j) d).1):=by
  intro j
  induction j with
  | zero =>
   intro _
   refine QoR (fun r'=>r'=Qbu (Qy ops inn d)) ops inn _ _ _ _ ⟨fun h=>by simp at h,fun _=>R_eq ?_⟩
   simp
  | succ j ih =>
   intro hj
   obtain ⟨a,s,ha⟩:=ZQ (l:=ops) (k:=j) (by omega)
   obtain ⟨e,t,he⟩:=ZQ (l:=inn) (k:=j) (by omega)
   have hgl:(Qy (ops.drop (j+1)) (inn.drop (j+1)) d).1.length=ops.length-(j+1):=by rw [Qjr _ _ _ (by simp;omega)];simp
   refine QoR (fun r'=>r'=Qbu (Qy ops inn d)) ops inn _ _ _ _ ⟨fun _=>?_,fun h=>by simp at h⟩
   rw [show Int.toNat (((j+1:Nat):Int)-1)=j by omega,Nat.zero_add,Zr ha,Zr he,Qx (x:=((j+1:Nat):Int)-1-1) (by omega) (by omega),QiN]
   have ih:=ih (by omega)
   rw [ha,he,← Zj ha,← Zj he,Qy] at ih
   refine ⟨⟨⟨by omega,by omega⟩,by omega,by omega⟩,⟨⟨by omega,by simp [hgl];omega⟩,by simp [hgl];omega⟩,?_⟩
   rw [List.take_of_length_le (by simp [hgl];omega),Bool.or_comm,show ((j+1:Nat):Int)-1-1=(j:Int)-1 by omega]
   exact ih
 have h0:=key ops.length (Nat.le_refl _)
 rw [List.drop_length] at h0
 simpa [Qy] using h0
theorem QI9:Qf Tryz.prog Qjk:=Qj fun x h=>QIQ x.1 x.2.1 x.2.2.1 h
end
end Go.Proofs.YtdplaepmjogjjaaGreat.Am

