/- -/
import Derived.Test.YtdplaepmjogjjaaGreatVCP4
import Derived.Test.YtdplaepmjogjjaaGreatVCP1
import Derived.Test.YtdplaepmjogjjaaGreatVCPF
import Derived.Test.YtdplaepmjogjjaaGreatVCPI
namespace Go.Proofs.YtdplaepmjogjjaaGreat.Am
open Go Go.RowKit Go.Proofs.YtdplaepmjogjjaaGreat
set_option linter.all false
noncomputable section
variable (K:TRes→Prop)
def Qam (t:(List (List Int)) × Bool):TRes:=⟨(.tp [(.r [(.sl [TI])] 0 0 ((t.1).length)),(zcb t.2)]),[(.sl 106 [(.sl [TI])] (.dp 0 true []) t.1)],[],false,[]⟩
def QgB:TRow:=Qg 73 [(.a [(.sl ctOp)]),(.c (.sl [TI]))] fun x=>(none,Qam (YO x.1 x.2.1))
def QdM:TTab:=⟨[Qa8,Qcc,Y0,QaP,Qi9],true⟩
def Qpt:TCode :=
 (zsq [(.reg [zbi 30 .lss 29 28]),(.cond 30 .skip (.exit 0)),(.block 1 (zsq [(.reg [zmv 31 29,zia 32 27 29 ctOp,zLd 33 32 4,zop 9 (.new 134 (z0s ctOp)),zmv 8 31,zst 9 33 4]),(.draw [zLd 35 9 4,zmv 36 6,zmv 37 8,zia 38 36 37 [(.sl [TI])],zfa 39 38 0,zld 40 39 1,zca 41 170 [35,40],zmv 34 41,zex 42 34 0,zex 43 34 1,zmv 10 42,zmv 11 43] []),(.reg [zmv 44 6,zmv 45 10,zop 46 (.build [(.n [TI])] [(0,1,45)]),zop 47 (.bsl 106 [(.sl [TI])] [46]),zop 48 (.app 44 47 106 [(.sl [TI])]),zmv 6 48]),(.reg [zmv 49 7,zmv 50 49,.grp 50 false [zmv 51 11] 52 51,zmv 7 52])])),(.reg [zbi 53 .add 29 (zki 1),zmv 29 53])])
def Qti:List (Nat × Md):=[(6,.one .f),(7,.one .d),(27,.one .d),(28,.one .d),(29,.one .d)]
def QpB:TCode :=
 (zsq [(.reg [zmv 54 6,zmv 55 7,zmv 4 54,zmv 5 55]),.ret])
def QGD:TCode :=
 (zsq [(.reg [zop 2 (.box 77 0 1),zmv 4 (.k (.n [(.sl [TI])])),zmv 5 (zkb false)]),(zsq [(.reg [zLd 12 2 1,zca 13 167 [12],zno 14 13,zmv 15 14,.grp 15 false [zmv 16 1,zLd 17 2 1,zca 18 101 [17],zca 19 100 [16,18],zno 20 19] 21 20]),(.cond 21 (zsq [(.reg [zmv 4 (.k (.n [(.sl [TI])])),zmv 5 (zkb false)]),.ret]) .skip)]),(.reg [zmv 22 1,zca 23 104 [22],zop 24 (.build [(.n [TI])] [(0,1,23)]),zop 25 (.bsl 106 [(.sl [TI])] [24]),zmv 6 25]),(.reg [zmv 7 (zkb false)]),(zsq [(.reg [zfa 26 2 0,zld 27 26 1,zle 28 27,zmv 29 (zki 0)]),(.block 0 (.loop Qti Qpt))]),QpB])
def Qqv:List (ARv × Md):=[(.t 4,.one (.p 106)),(.t 5,.one .d)]
def QoJ:Qb:=TQ 0 0 Qqv K
def QFO:Qb:=Qseq (tawp QdM 0 QpB (QoJ K)) (QoJ K)
def QxM:Qb:=Qblk 0 (QFO K)
def Qem (m:List TOp') (out:Bool) (x1:Int) (rows:List (List Int)):Prop:=Loop QdM 0 Qti Qpt (QxM K) ⟨[(6,(.r [(.sl [TI])] 0 0 rows.length)),(7,(zcb out)),(27,(zcs ctOp m)),(28,(zci (m.length:Int))),(29,(zci x1))],[(0,(.sl 106 [(.sl [TI])] (.dp 0 true []) rows))],1⟩
theorem QmM (m:List TOp') (out:Bool) (x1:Int) (rows:List (List Int)) (h :
 (zif (decide (x1<(m.length:Int))) (((0:Int)≤x1∧Int.toNat x1<m.length)∧((((0:Int)≤x1∧Int.toNat x1<rows.length)∧((0+(Int.toNat x1))<rows.length))∧(((rows.length=rows.length∨rows.length+1≤rows.length)∧rows.length+1≤big)∧(Qem K m (out||((Zm (gtd dOp m (Int.toNat x1)) (gtd ([]:List Int) rows (0+(Int.toNat x1)))).2)) (w64 (x1+(1:Int))) (List.take (rows.length+1) ((List.take rows.length rows)++([(List.take (((Zm (gtd dOp m (Int.toNat x1)) (gtd ([]:List Int) rows (0+(Int.toNat x1)))).1).length) (List.drop 0 ((Zm (gtd dOp m (Int.toNat x1)) (gtd ([]:List Int) rows (0+(Int.toNat x1)))).1)))]))))))) (K (Qam ((List.take rows.length rows),out))))):Qem K m out x1 rows :=
 Loop.of (by kernel_rfl) h
theorem Qzo (m:List TOp') (x:List Int) (h :
 (zif ((!(QR m))||(!(Qw x (Zn m)))) (K (Qam (([]:List (List Int)),false))) ((Qx (α:=List Int) x)∧(Qem K m false 0 ([(List.take ((id (α:=List Int) x).length) (List.drop 0 (id (α:=List Int) x)))]))))):Hold (tawp QdM (0+0) QGD (TQ 0 0 Qqv K) (Qd [(.a [(.c (.sl ctOp) m)]),(.c (.sl [TI]) x)])) :=
 Hold.of (by kernel_rfl) h
theorem QuU (m:List TOp') (x:List Int):TCon Tryz.prog 73 [(.a [(.c (.sl ctOp) m)]),(.c (.sl [TI]) x)] (Qam (YO m x)):=by
 refine Qi rfl fun hb=>tcg (Γ:=QdM) (n:=56) (sg:=QgB.sg) Qj (TOkL.cons Qd8 (TOkL.cons QgZ (TOkL.cons QaD (TOkL.cons QbV (TOkL.cons QG6 TOkL.nil))))) (by kernel_rfl) (by kernel_rfl) (Qzo _ m x ?_)
 have hl_m_0:(m).length≤9223372036854775807:=hb.1.1.1
 have hl_x:x.length≤9223372036854775807:=hb.2.1.1
 refine ⟨fun h=>R_eq (by unfold YO;rw [if_neg (by intro h2;simp at h2;simp [h2.1,h2.2] at h)]),fun h=>?_⟩
 have hp:QR m=true∧Qw x (Zn m)=true:=by simpa using h
 have hl:=YG hp.1
 have hx:=(Yw.1 (Qmj.1 hp.2).1).1
 have hm:=Qkn hp.1 hp.2
 rw [Qee]
 refine ⟨by unfold Qx;rw [Z8];omega,?_⟩
 refine Zh m (fun r k=>∀ (v:List (List Int)) (z:Bool),v.length=k+1→(v.take k++(Qq r (gtd [] v k)).1,z||(Qq r (gtd [] v k)).2)=Qq m x→Qem (fun r'=>r'=Qam (YO m x)) m z k v) ?_ ?_ [x] false rfl (by simp [gtd])
 ·intro v z hv he
  refine QmM (fun r'=>r'=Qam (YO m x)) m _ _ _ ⟨fun h=>by simp at h,fun _=>R_eq ?_⟩
  rw [hm,← he,List.take_length]
  simp only [Qq,Bool.or_false]
  rw [QfH [] hv]
 ·intro k o r hk hlt hg ih v z hv he
  refine QmM (fun r'=>r'=Qam (YO m x)) m _ _ _ ⟨fun _=>?_,fun h=>by simp at h;omega⟩
  rw [Int.toNat_natCast,hg,Nat.zero_add,sc1 (by omega),Zu,Qld]
  refine ⟨⟨by omega,hlt⟩,⟨⟨by omega,by omega⟩,by omega⟩,room (by omega),ih _ _ (Yv hv) ?_⟩
  rw [Qs6 [] _ hv,Qmc _ hv,← he,Qq]
  have:=QfH [] hv
  simp only [Bool.or_assoc]
  rw [List.append_cons,this]
theorem Qvf:Qe Tryz.prog QgB:=Qk fun x _=>QuU x.1 x.2.1
def Qbx (t:(List (List Int)) × Bool):TRes:=zra (.tp [(zcs [(.sl [TI])] t.1),(zcb t.2)])
def QjR:TRow:=Qg 64 [(.c (.sl ctOp)),(.c (.sl [TI]))] fun x=>(some (QgE x.1 x.2.1),Qbx (Qq x.1 x.2.1))
def Qdq:TTab:=⟨[Qhh],false⟩
def QsY:TCode :=
 (zsq [(zsq [(.reg [zmv 16 8,zmv 17 0,zle 18 17,zbi 19 .lss 16 18]),(.cond 19 .skip (.exit 0))]),(.block 1 (zsq [(.draw [zmv 23 0,zmv 24 8,zia 25 23 24 ctOp,zLd 26 25 4,zmv 27 6,zmv 28 8,zia 29 27 28 [(.sl [TI])],zfa 30 29 0,zld 31 30 1,zca 32 160 [26,31],zmv 22 32,zex 33 22 0,zex 34 22 1,zmv 9 33,zmv 10 34] []),(.reg [zmv 35 6,zmv 36 9,zop 37 (.build [(.n [TI])] [(0,1,36)]),zop 38 (.bsl 106 [(.sl [TI])] [37]),zop 39 (.app 35 38 106 [(.sl [TI])]),zmv 6 39]),(.reg [zmv 40 7,zmv 41 40,.grp 41 false [zmv 42 10] 43 42,zmv 7 43])])),(.reg [zmv 20 8,zbi 21 .add 20 (zki 1),zmv 8 21])])
def QpH:List (Nat × Md):=[(0,.one .d),(6,.one .f),(7,.one .d),(8,.one .d)]
def Qkl:TCode :=
 (zsq [(.reg [zmv 44 6,zmv 45 7,zmv 4 44,zmv 5 45]),.ret])
def Qv9:TCode :=
 (zsq [(.reg [zmv 4 (.k (.n [(.sl [TI])])),zmv 5 (zkb false)]),(.reg [zop 11 (.bsl 3 [TI] []),zmv 12 1,zop 13 (.app 11 12 3 [TI]),zop 14 (.build [(.n [TI])] [(0,1,13)]),zop 15 (.bsl 106 [(.sl [TI])] [14]),zmv 6 15]),(.reg [zmv 7 (zkb false)]),(zsq [(.reg [zmv 8 (zki 0)]),(.block 0 (.loop QpH QsY))]),Qkl])
def QtJ:List (ARv × Md):=[(.t 4,.one .d),(.t 5,.one .d)]
def Qse:Qb:=TQ 0 0 QtJ K
def QAg:Qb:=Qseq (tawp Qdq 0 Qkl (Qse K)) (Qse K)
def QDc:Qb:=Qblk 0 (QAg K)
def QdU (ops:List TOp') (sat:Bool) (i:Int) (out:List (List Int)):Prop:=Loop Qdq 0 QpH QsY (QDc K) ⟨[(0,(zcs ctOp ops)),(6,(.r [(.sl [TI])] 0 0 out.length)),(7,(zcb sat)),(8,(zci i))],[(0,(.sl 106 [(.sl [TI])] .ow out))],1⟩
theorem Qpf (ops:List TOp') (sat:Bool) (i:Int) (out:List (List Int)) (h :
 (zif (decide (i<(ops.length:Int))) ((((0:Int)≤i∧Int.toNat i<ops.length)∧(((0:Int)≤i∧Int.toNat i<out.length)∧((0+(Int.toNat i))<out.length)))∧(((out.length=out.length∨out.length+1≤out.length)∧out.length+1≤big)∧(QdU K ops (sat||((Zm (gtd dOp ops (Int.toNat i)) (gtd ([]:List Int) out (0+(Int.toNat i)))).2)) (w64 (i+(1:Int))) (List.take (out.length+1) ((List.take out.length out)++([(Zm (gtd dOp ops (Int.toNat i)) (gtd ([]:List Int) out (0+(Int.toNat i)))).1])))))) (K (Qbx ((List.take out.length (List.drop 0 out)),sat))))):QdU K ops sat i out :=
 Loop.of (by kernel_rfl) h
theorem QEt (ops:List TOp') (x:List Int) (h :
 (((0=0∨0+x.length≤0)∧0+x.length≤big)∧(QdU K ops false 0 ([(List.take (0+x.length) (List.drop 0 (x:List Int)))])))):Hold (tawp Qdq (0+0) Qv9 (TQ 0 0 QtJ K) (Qd [(.c (.sl ctOp) ops),(.c (.sl [TI]) x)])) :=
 Hold.of (by kernel_rfl) h
theorem Qzv (ops:List TOp') (x:List Int) (hp:QgE ops x):TCon Tryz.prog 64 [(.c (.sl ctOp) ops),(.c (.sl [TI]) x)] (Qbx (Qq ops x)):=by
 refine Qi rfl fun hb=>tcg (Γ:=Qdq) (n:=46) (sg:=QjR.sg) Qj (TOkL.cons QD3 TOkL.nil) (by kernel_rfl) (by kernel_rfl) (QEt _ ops x ?_)
 have hl_ops:ops.length≤9223372036854775807:=hb.1.1
 have hl_x:x.length≤9223372036854775807:=hb.2.1.1
 obtain ⟨hp1,hp2⟩:=hp
 rw [QjP]
 refine ⟨⟨.inl rfl,by rw [ZT];omega⟩,?_⟩
 refine Zh ops (fun r k=>∀ (v:List (List Int)) (z:Bool),v.length=k+1→(v.take k++(Qq r (gtd [] v k)).1,z||(Qq r (gtd [] v k)).2)=Qq ops x→QdU (fun r'=>r'=Qbx (Qq ops x)) ops z k v) ?_ ?_ [x] false rfl (by simp [gtd])
 ·intro v z hv he
  refine Qpf (fun r'=>r'=Qbx (Qq ops x)) ops _ _ _ ⟨fun h=>by simp at h,fun _=>R_eq ?_⟩
  rw [← he,Qld]
  simp only [Qq,Bool.or_false]
  rw [QfH [] hv]
 ·intro k o r hk hlt hg ih v z hv he
  refine Qpf (fun r'=>r'=Qbx (Qq ops x)) ops _ _ _ ⟨fun _=>?_,fun h=>by simp at h;omega⟩
  rw [Int.toNat_natCast,hg,Nat.zero_add,sc1 (by omega),Zu]
  refine ⟨⟨⟨by omega,hlt⟩,⟨by omega,by omega⟩,by omega⟩,room (by omega),ih _ _ (Yv hv) ?_⟩
  rw [Qs6 [] _ hv,Qmc _ hv,← he,Qq]
  have:=QfH [] hv
  simp only [Bool.or_assoc]
  rw [List.append_cons,this]
theorem QAq:Qe Tryz.prog QjR:=Qk fun x h=>Qzv x.1 x.2.1 h
end
end Go.Proofs.YtdplaepmjogjjaaGreat.Am

