/- -/
import Derived.Test.YtdplaepmjogjjaaGreatVAP4
import Derived.Test.YtdplaepmjogjjaaGreatVAP1
import Derived.Test.YtdplaepmjogjjaaGreatVAPF
import Derived.Test.YtdplaepmjogjjaaGreatVAPI
namespace Go.Proofs.YtdplaepmjogjjaaGreat.Am
open Go Go.RowKit Go.Proofs.YtdplaepmjogjjaaGreat
set_option linter.all false
noncomputable section
variable (K:TRes→Prop)
def J8 (t:(List (List Int)) × Bool):TRes:=⟨(.tp [(.r [(.sl [TI])] 0 0 ((t.1).length)),(zcb t.2)]),[(.sl 106 [(.sl [TI])] (.dp 0 true []) t.1)],[],false,[]⟩
def QfL:TRow:=Qh 73 [(.a [(.sl ctOp)]),(.c (.sl [TI]))] fun x=>(none,J8 (YD x.1 x.2.1))
def Qc7:TTab:=⟨[Qbh,Qdp,JN,Qa8,QiB],true⟩
def QmS:TCode :=
 (zsq [(.reg [zbi 30 .lss 29 28]),(.cond 30 .skip (.exit 0)),(.block 1 (zsq [(.reg [zmv 31 29,zia 32 27 29 ctOp,zLd 33 32 4,zop 9 (.new 134 (z0s ctOp)),zmv 8 31,zst 9 33 4]),(.draw [zLd 35 9 4,zmv 36 6,zmv 37 8,zia 38 36 37 [(.sl [TI])],zfa 39 38 0,zld 40 39 1,zca 41 170 [35,40],zmv 34 41,zex 42 34 0,zex 43 34 1,zmv 10 42,zmv 11 43] []),(.reg [zmv 44 6,zmv 45 10,zop 46 (.build [(.n [TI])] [(0,1,45)]),zop 47 (.bsl 106 [(.sl [TI])] [46]),zop 48 (.app 44 47 106 [(.sl [TI])]),zmv 6 48]),(.reg [zmv 49 7,zmv 50 49,.grp 50 false [zmv 51 11] 52 51,zmv 7 52])])),(.reg [zbi 53 .add 29 (zki 1),zmv 29 53])])
def QoY:List (Nat × Md):=[(6,.one .f),(7,.one .d),(27,.one .d),(28,.one .d),(29,.one .d)]
def QmD:TCode :=
 (zsq [(.reg [zmv 54 6,zmv 55 7,zmv 4 54,zmv 5 55]),.ret])
def QBv:TCode :=
 (zsq [(.reg [zop 2 (.box 77 0 1),zmv 4 (.k (.n [(.sl [TI])])),zmv 5 (zkb false)]),(zsq [(.reg [zLd 12 2 1,zca 13 167 [12],zno 14 13,zmv 15 14,.grp 15 false [zmv 16 1,zLd 17 2 1,zca 18 101 [17],zca 19 100 [16,18],zno 20 19] 21 20]),(.cond 21 (zsq [(.reg [zmv 4 (.k (.n [(.sl [TI])])),zmv 5 (zkb false)]),.ret]) .skip)]),(.reg [zmv 22 1,zca 23 104 [22],zop 24 (.build [(.n [TI])] [(0,1,23)]),zop 25 (.bsl 106 [(.sl [TI])] [24]),zmv 6 25]),(.reg [zmv 7 (zkb false)]),(zsq [(.reg [zfa 26 2 0,zld 27 26 1,zle 28 27,zmv 29 (zki 0)]),(.block 0 (.loop QoY QmS))]),QmD])
def Qmh:List (ARv × Md):=[(.t 4,.one (.p 106)),(.t 5,.one .d)]
def QrW:Qb:=TQ 0 0 Qmh K
def QCh:Qb:=Qseq (tawp Qc7 0 QmD (QrW K)) (QrW K)
def QBR:Qb:=Qblk 0 (QCh K)
def QdJ (m:List TOp') (out:Bool) (x1:Int) (rows:List (List Int)):Prop:=Loop Qc7 0 QoY QmS (QBR K) ⟨[(6,(.r [(.sl [TI])] 0 0 rows.length)),(7,(zcb out)),(27,(zcs ctOp m)),(28,(zci (m.length:Int))),(29,(zci x1))],[(0,(.sl 106 [(.sl [TI])] (.dp 0 true []) rows))],1⟩
theorem QpA (m:List TOp') (out:Bool) (x1:Int) (rows:List (List Int)) (h :
 (zif (decide (x1<(m.length:Int))) (((0:Int)≤x1∧Int.toNat x1<m.length)∧((((0:Int)≤x1∧Int.toNat x1<rows.length)∧((0+(Int.toNat x1))<rows.length))∧(((rows.length=rows.length∨rows.length+1≤rows.length)∧rows.length+1≤big)∧(QdJ K m (out||((Zo (gtd dOp m (Int.toNat x1)) (gtd ([]:List Int) rows (0+(Int.toNat x1)))).2)) (w64 (x1+(1:Int))) (List.take (rows.length+1) ((List.take rows.length rows)++([(List.take (((Zo (gtd dOp m (Int.toNat x1)) (gtd ([]:List Int) rows (0+(Int.toNat x1)))).1).length) (List.drop 0 ((Zo (gtd dOp m (Int.toNat x1)) (gtd ([]:List Int) rows (0+(Int.toNat x1)))).1)))]))))))) (K (J8 ((List.take rows.length rows),out))))):QdJ K m out x1 rows :=
 Loop.of (by kernel_rfl) h
theorem QGb (m:List TOp') (x:List Int) (h :
 (zif ((!(QF m))||(!(Qx x (Zw m)))) (K (J8 (([]:List (List Int)),false))) ((Qw (α:=List Int) x)∧(QdJ K m false 0 ([(List.take ((id (α:=List Int) x).length) (List.drop 0 (id (α:=List Int) x)))]))))):Hold (tawp Qc7 (0+0) QBv (TQ 0 0 Qmh K) (Qf [(.a [(.c (.sl ctOp) m)]),(.c (.sl [TI]) x)])) :=
 Hold.of (by kernel_rfl) h
theorem QxF (m:List TOp') (x:List Int):TCon Tryz.prog 73 [(.a [(.c (.sl ctOp) m)]),(.c (.sl [TI]) x)] (J8 (YD m x)):=by
 refine Qj rfl fun hb=>tcg (Γ:=Qc7) (n:=56) (sg:=QfL.sg) Qi (TOkL.cons QdI (TOkL.cons Qoj (TOkL.cons QaX (TOkL.cons Qdc (TOkL.cons Qt0 TOkL.nil))))) (by kernel_rfl) (by kernel_rfl) (QGb _ m x ?_)
 have hl_m_0:(m).length≤9223372036854775807:=hb.1.1.1
 have hl_x:x.length≤9223372036854775807:=hb.2.1.1
 refine ⟨fun h=>R_eq (by unfold YD;rw [if_neg (by intro h2;simp at h2;simp [h2.1,h2.2] at h)]),fun h=>?_⟩
 have hp:QF m=true∧Qx x (Zw m)=true:=by simpa using h
 have hl:=Ja hp.1
 have hx:=(Jd.1 (QnO.1 hp.2).1).1
 have hm:=QkF hp.1 hp.2
 rw [Qfq]
 refine ⟨by unfold Qw;rw [YA];omega,?_⟩
 refine Zj m (fun r k=>∀ (v:List (List Int)) (z:Bool),v.length=k+1→(v.take k++(QW r (gtd [] v k)).1,z||(QW r (gtd [] v k)).2)=QW m x→QdJ (fun r'=>r'=J8 (YD m x)) m z k v) ?_ ?_ [x] false rfl (by simp [gtd])
 ·intro v z hv he
  refine QpA (fun r'=>r'=J8 (YD m x)) m _ _ _ ⟨fun h=>by simp at h,fun _=>R_eq ?_⟩
  rw [hm,← he,List.take_length]
  simp only [QW,Bool.or_false]
  rw [QcV [] hv]
 ·intro k o r hk hlt hg ih v z hv he
  refine QpA (fun r'=>r'=J8 (YD m x)) m _ _ _ ⟨fun _=>?_,fun h=>by simp at h;omega⟩
  rw [Int.toNat_natCast,hg,Nat.zero_add,sc1 (by omega),ZI,Qmm]
  refine ⟨⟨by omega,hlt⟩,⟨⟨by omega,by omega⟩,by omega⟩,room (by omega),ih _ _ (Y8 hv) ?_⟩
  rw [Qlc [] _ hv,QlV _ hv,← he,QW]
  have:=QcV [] hv
  simp only [Bool.or_assoc]
  rw [List.append_cons,this]
theorem QER:Qg Tryz.prog QfL:=Qk fun x _=>QxF x.1 x.2.1
def Qbb (t:(List (List Int)) × Bool):TRes:=zra (.tp [(zcs [(.sl [TI])] t.1),(zcb t.2)])
def QhN:TRow:=Qh 64 [(.c (.sl ctOp)),(.c (.sl [TI]))] fun x=>(some (QgK x.1 x.2.1),Qbb (QW x.1 x.2.1))
def QdT:TTab:=⟨[Qhs],false⟩
def QsU:TCode :=
 (zsq [(zsq [(.reg [zmv 16 8,zmv 17 0,zle 18 17,zbi 19 .lss 16 18]),(.cond 19 .skip (.exit 0))]),(.block 1 (zsq [(.draw [zmv 23 0,zmv 24 8,zia 25 23 24 ctOp,zLd 26 25 4,zmv 27 6,zmv 28 8,zia 29 27 28 [(.sl [TI])],zfa 30 29 0,zld 31 30 1,zca 32 160 [26,31],zmv 22 32,zex 33 22 0,zex 34 22 1,zmv 9 33,zmv 10 34] []),(.reg [zmv 35 6,zmv 36 9,zop 37 (.build [(.n [TI])] [(0,1,36)]),zop 38 (.bsl 106 [(.sl [TI])] [37]),zop 39 (.app 35 38 106 [(.sl [TI])]),zmv 6 39]),(.reg [zmv 40 7,zmv 41 40,.grp 41 false [zmv 42 10] 43 42,zmv 7 43])])),(.reg [zmv 20 8,zbi 21 .add 20 (zki 1),zmv 8 21])])
def Qsa:List (Nat × Md):=[(0,.one .d),(6,.one .f),(7,.one .d),(8,.one .d)]
def QkE:TCode :=
 (zsq [(.reg [zmv 44 6,zmv 45 7,zmv 4 44,zmv 5 45]),.ret])
def QyP:TCode :=
 (zsq [(.reg [zmv 4 (.k (.n [(.sl [TI])])),zmv 5 (zkb false)]),(.reg [zop 11 (.bsl 3 [TI] []),zmv 12 1,zop 13 (.app 11 12 3 [TI]),zop 14 (.build [(.n [TI])] [(0,1,13)]),zop 15 (.bsl 106 [(.sl [TI])] [14]),zmv 6 15]),(.reg [zmv 7 (zkb false)]),(zsq [(.reg [zmv 8 (zki 0)]),(.block 0 (.loop Qsa QsU))]),QkE])
def Qn8:List (ARv × Md):=[(.t 4,.one .d),(.t 5,.one .d)]
def Qka:Qb:=TQ 0 0 Qn8 K
def QDI:Qb:=Qseq (tawp QdT 0 QkE (Qka K)) (Qka K)
def QF0:Qb:=Qblk 0 (QDI K)
def Qc1 (ops:List TOp') (sat:Bool) (i:Int) (out:List (List Int)):Prop:=Loop QdT 0 Qsa QsU (QF0 K) ⟨[(0,(zcs ctOp ops)),(6,(.r [(.sl [TI])] 0 0 out.length)),(7,(zcb sat)),(8,(zci i))],[(0,(.sl 106 [(.sl [TI])] .ow out))],1⟩
theorem Qsz (ops:List TOp') (sat:Bool) (i:Int) (out:List (List Int)) (h :
 (zif (decide (i<(ops.length:Int))) ((((0:Int)≤i∧Int.toNat i<ops.length)∧(((0:Int)≤i∧Int.toNat i<out.length)∧((0+(Int.toNat i))<out.length)))∧(((out.length=out.length∨out.length+1≤out.length)∧out.length+1≤big)∧(Qc1 K ops (sat||((Zo (gtd dOp ops (Int.toNat i)) (gtd ([]:List Int) out (0+(Int.toNat i)))).2)) (w64 (i+(1:Int))) (List.take (out.length+1) ((List.take out.length out)++([(Zo (gtd dOp ops (Int.toNat i)) (gtd ([]:List Int) out (0+(Int.toNat i)))).1])))))) (K (Qbb ((List.take out.length (List.drop 0 out)),sat))))):Qc1 K ops sat i out :=
 Loop.of (by kernel_rfl) h
theorem QAS (ops:List TOp') (x:List Int) (h :
 (((0=0∨0+x.length≤0)∧0+x.length≤big)∧(Qc1 K ops false 0 ([(List.take (0+x.length) (List.drop 0 (x:List Int)))])))):Hold (tawp QdT (0+0) QyP (TQ 0 0 Qn8 K) (Qf [(.c (.sl ctOp) ops),(.c (.sl [TI]) x)])) :=
 Hold.of (by kernel_rfl) h
theorem QDy (ops:List TOp') (x:List Int) (hp:QgK ops x):TCon Tryz.prog 64 [(.c (.sl ctOp) ops),(.c (.sl [TI]) x)] (Qbb (QW ops x)):=by
 refine Qj rfl fun hb=>tcg (Γ:=QdT) (n:=46) (sg:=QhN.sg) Qi (TOkL.cons QDw TOkL.nil) (by kernel_rfl) (by kernel_rfl) (QAS _ ops x ?_)
 have hl_ops:ops.length≤9223372036854775807:=hb.1.1
 have hl_x:x.length≤9223372036854775807:=hb.2.1.1
 obtain ⟨hp1,hp2⟩:=hp
 rw [Qjs]
 refine ⟨⟨.inl rfl,by rw [Yt];omega⟩,?_⟩
 refine Zj ops (fun r k=>∀ (v:List (List Int)) (z:Bool),v.length=k+1→(v.take k++(QW r (gtd [] v k)).1,z||(QW r (gtd [] v k)).2)=QW ops x→Qc1 (fun r'=>r'=Qbb (QW ops x)) ops z k v) ?_ ?_ [x] false rfl (by simp [gtd])
 ·intro v z hv he
  refine Qsz (fun r'=>r'=Qbb (QW ops x)) ops _ _ _ ⟨fun h=>by simp at h,fun _=>R_eq ?_⟩
  rw [← he,Qmm]
  simp only [QW,Bool.or_false]
  rw [QcV [] hv]
 ·intro k o r hk hlt hg ih v z hv he
  refine Qsz (fun r'=>r'=Qbb (QW ops x)) ops _ _ _ ⟨fun _=>?_,fun h=>by simp at h;omega⟩
  rw [Int.toNat_natCast,hg,Nat.zero_add,sc1 (by omega),ZI]
  refine ⟨⟨⟨by omega,hlt⟩,⟨by omega,by omega⟩,by omega⟩,room (by omega),ih _ _ (Y8 hv) ?_⟩
  rw [Qlc [] _ hv,QlV _ hv,← he,QW]
  have:=QcV [] hv
  simp only [Bool.or_assoc]
  rw [List.append_cons,this]
theorem QDY:Qg Tryz.prog QhN:=Qk fun x h=>QDy x.1 x.2.1 h
end
end Go.Proofs.YtdplaepmjogjjaaGreat.Am

