/- -/
import Derived.Test.YtephkbajoofeoaaYEPF
import Derived.Test.YtephkbajoofeoaaYEP1
import Derived.Test.YtephkbajoofeoaaYEP4
import Derived.Test.YtephkbajoofeoaaYEP5
import Derived.Test.YtephkbajoofeoaaYEGC
namespace Go.Proofs.Ytephkbajoofeoaa.Am
open Go Go.RowKit Go.Proofs.Ytephkbajoofeoaa
set_option linter.all false
set_option maxHeartbeats 2000000
noncomputable section
variable (K:TRes→Prop)
def QY (t:(List (List Int))):TRes:=zra (zcs [(.sl [TI])] t)
def QaD:TRow:=Qp 61 [(.c TI),(.c TI)] fun x=>(none,QY (Qe x.1 x.2.1))
def Zv:List TRow:=[Qay]
def Qh6:TCode :=
 (zsq [(zsq [(.reg [zmv 55 11,zmv 56 0,zmv 57 1,zbi 58 .sub 56 57,zmv 59 6,zbi 60 .add 58 59,zbi 61 .leq 55 60]),(.cond 61 .skip (.exit 4))]),(.block 5 (.reg [zmv 64 7,zfa 65 9 0,zld 66 65 1,zca 67 121 [66],zmv 68 11,zop 69 (.bsl 3 [TI] [68]),zop 70 (.app 67 69 3 [TI]),zop 71 (.build [(.n [TI])] [(0,1,70)]),zop 72 (.bsl 91 [(.sl [TI])] [71]),zop 73 (.app 64 72 91 [(.sl [TI])]),zmv 7 73])),(.reg [zmv 62 11,zbi 63 .add 62 (zki 1),zmv 11 63])])
def Qgp:List (Nat × Md):=[(0,.one .d),(1,.one .d),(6,.one .d),(7,.one .f),(9,.b [.d]),(11,.one .d),(35,.one .d),(36,.one .d),(37,.one .d)]
def Qhf:TCode :=
 (zsq [(.reg [zmv 54 10,zmv 11 54]),(.block 4 (.loop Qgp Qh6))])
def Qpt:List (Nat × Md):=[(0,.one .d),(1,.one .d),(6,.one .d),(7,.one .f),(9,.b [.d]),(10,.one .d),(35,.one .d),(36,.one .d),(37,.one .d)]
def QpI:TCode:=.wk Qpt Qhf
def QgN:TCode :=
 (.reg [zbi 74 .add 37 (zki 1),zmv 37 74])
def Qcf:TCode :=
 (zsq [(.reg [zbi 38 .lss 37 36]),(.cond 38 .skip (.exit 2)),(.block 3 (zsq [(.reg [zia 39 35 37 [(.sl [TI])],zLd 40 39 1,zop 9 (.new 91 [(.n [TI])]),zst 9 40 1]),(.reg [zmv 10 (zki 1)]),(zsq [(.reg [zfa 41 9 0,zld 42 41 1,zle 43 42,zbi 44 .gtr 43 (zki 0)]),(.cond 44 (.reg [zfa 45 9 0,zld 46 45 1,zfa 47 9 0,zld 48 47 1,zle 49 48,zbi 50 .sub 49 (zki 1),zia 51 46 50 [TI],zld 52 51 1,zbi 53 .add 52 (zki 1),zmv 10 53]) .skip)]),QpI])),QgN])
def Qa3:List (Nat × Md):=[(0,.one .d),(1,.one .d),(6,.one .d),(7,.one .f),(35,.one .d),(36,.one .d),(37,.one .d)]
def QgC:TCode :=
 (.reg [zmv 75 7,zmv 5 75])
def QiH:TCode :=
 (.reg [zmv 32 6,zbi 33 .add 32 (zki 1),zmv 6 33])
def QdM:TCode :=
 (zsq [(zsq [(.reg [zmv 29 6,zmv 30 1,zbi 31 .lss 29 30]),(.cond 31 .skip (.exit 0))]),(.block 1 (zsq [(.reg [zop 34 (.bsl 91 [(.sl [TI])] []),zmv 7 34]),(zsq [(.reg [zmv 35 5,zle 36 35,zmv 37 (zki 0)]),(.block 2 (.loop Qa3 Qcf))]),QgC])),QiH])
def QaV:List (Nat × Md):=zdl [0,1,5,6]
def QiF:TCode :=
 (zsq [(.reg [zmv 76 5,zmv 4 76]),.ret])
def Qjk:TCode :=
 (zsq [(.reg [zmv 4 (.k (.n [(.sl [TI])]))]),(zsq [(.reg [zmv 12 0,zbi 13 .lss 12 (zki 1),zmv 14 13,.grp 14 false [zmv 15 0,zbi 16 .gtr 15 (zki 8)] 17 16,zmv 18 17,.grp 18 false [zmv 19 1,zbi 20 .lss 19 (zki 1)] 21 20,zmv 22 21,.grp 22 false [zmv 23 1,zmv 24 0,zbi 25 .gtr 23 24] 26 25]),(.cond 26 (zsq [(.reg [zmv 4 (.k (.n [(.sl [TI])]))]),.ret]) .skip)]),(.reg [zop 27 (.build [(.n [TI])] []),zop 28 (.bsl 91 [(.sl [TI])] [27]),zmv 5 28]),(zsq [(.reg [zmv 6 (zki 1)]),(.block 0 (.loop QaV QdM))]),QiF])
def Qgd:List (ARv × Md):=[(.t 4,.one .d)]
def QeJ:Qd:=TQ 0 0 Qgd K
def Qju:Qd:=Qseq (tawp Zv 0 QiF (QeJ K)) (QeJ K)
def QbW:Qd:=Qblk 0 (Qju K)
def QfK:Qd:=Qseq (fun s'=>Loop Zv 0 QaV QdM (QbW K) (gc 0 QaV s')) (QbW K)
def QlH:Qd:=Qseq (tawp Zv 0 QiH (QfK K)) (QfK K)
def QiQ:Qd:=Qblk 1 (QlH K)
def Qln:Qd:=Qseq (tawp Zv 0 QgC (QiQ K)) (QiQ K)
def Qcu:Qd:=Qblk 2 (Qln K)
def QeG:Qd:=Qseq (fun s'=>Loop Zv 0 Qa3 Qcf (Qcu K) (gc 0 Qa3 s')) (Qcu K)
def QnF:Qd:=Qseq (tawp Zv 0 QgN (QeG K)) (QeG K)
def Qig:Qd:=Qblk 3 (QnF K)
def Qkl:Qd:=Qblk 4 (Qig K)
def J6 (ops:Int) (stages:Int) (c:Int) (longer:List (List Int)) (x:Int) (rows:List (List Int)) (i:Int):Prop:=Loop Zv 0 Qgp Qh6 (Qkl K) ⟨[(0,(zci ops)),(1,(zci stages)),(6,(zci i)),(7,(.r [(.sl [TI])] 0 0 longer.length)),(9,(.p 1 0 0)),(11,(zci c)),(35,(zcs [(.sl [TI])] rows)),(36,(zci (rows.length:Int))),(37,(zci x))],[(0,(.sl 91 [(.sl [TI])] true longer)),(1,(.box [(zcs [TI] (gtd ([]:List Int) rows (Int.toNat x)))]))],2⟩
@[irreducible] def Qbb (ops:Int) (stages:Int) (fro:Int) (x:Int) (longer1:List (List Int)) (rows:List (List Int)) (i:Int):Prop:=tawp Zv 0 Qhf (Qig K) ⟨[(0,(zci ops)),(1,(zci stages)),(6,(zci i)),(7,(.r [(.sl [TI])] 0 0 ((List.take longer1.length longer1).length))),(9,(.p 1 0 0)),(10,(zci fro)),(35,(zcs [(.sl [TI])] rows)),(36,(zci (rows.length:Int))),(37,(zci x))],[(0,(.sl 91 [(.sl [TI])] true (List.take longer1.length longer1))),(1,(.box [(zcs [TI] (gtd ([]:List Int) rows (Int.toNat x)))]))],2⟩
def Qal (ops:Int) (stages:Int) (x:Int) (longer1:List (List Int)) (rows:List (List Int)) (i:Int):Prop:=Loop Zv 0 Qa3 Qcf (Qcu K) ⟨[(0,(zci ops)),(1,(zci stages)),(6,(zci i)),(7,(.r [(.sl [TI])] 0 0 longer1.length)),(35,(zcs [(.sl [TI])] rows)),(36,(zci (rows.length:Int))),(37,(zci x))],[(0,(.sl 91 [(.sl [TI])] true longer1))],1⟩
def JB (ops:Int) (stages:Int) (rows:List (List Int)) (i:Int):Prop:=Loop Zv 0 QaV QdM (QbW K) ⟨[(0,(zci ops)),(1,(zci stages)),(5,(zcs [(.sl [TI])] rows)),(6,(zci i))],[],0⟩
theorem Qje (ops:Int) (stages:Int) (c:Int) (longer:List (List Int)) (x:Int) (rows:List (List Int)) (i:Int) (h :
 (zif (decide (c≤(w64 ((w64 (ops-stages))+i)))) (((Yq (α:=List Int) (gtd ([]:List Int) rows (Int.toNat x)))∧((((id (α:=List Int) (gtd ([]:List Int) rows (Int.toNat x))).length=(id (α:=List Int) (gtd ([]:List Int) rows (Int.toNat x))).length∨(id (α:=List Int) (gtd ([]:List Int) rows (Int.toNat x))).length+1≤(id (α:=List Int) (gtd ([]:List Int) rows (Int.toNat x))).length)∧(id (α:=List Int) (gtd ([]:List Int) rows (Int.toNat x))).length+1≤big)∧((longer.length=longer.length∨longer.length+1≤longer.length)∧longer.length+1≤big)))∧(J6 K ops stages (w64 (c+(1:Int))) (List.take (longer.length+1) ((List.take longer.length longer)++([(List.take ((id (α:=List Int) (gtd ([]:List Int) rows (Int.toNat x))).length+1) (List.drop 0 ((List.take ((id (α:=List Int) (gtd ([]:List Int) rows (Int.toNat x))).length) (id (α:=List Int) (gtd ([]:List Int) rows (Int.toNat x))))++([c]))))]))) x rows i)) (Qal K ops stages (w64 (x+(1:Int))) (List.take longer.length longer) rows i))):J6 K ops stages c longer x rows i :=
 Loop.of (by kernel_rfl) h
theorem QlO (ops:Int) (stages:Int) (fro:Int) (x:Int) (longer1:List (List Int)) (rows:List (List Int)) (i:Int) (h :
 (J6 K ops stages fro (List.take ((List.take longer1.length longer1).length) (List.take longer1.length longer1)) x rows i)):Hold (Qbb K ops stages fro x longer1 rows i) :=
 Hold.of (by kernel_rfl) h
theorem Qib (ops:Int) (stages:Int) (x:Int) (longer1:List (List Int)) (rows:List (List Int)) (i:Int) (h :
 (zif (decide (x<(rows.length:Int))) (((0:Int)≤x∧Int.toNat x<rows.length)∧(zif (decide (((gtd ([]:List Int) rows (Int.toNat x)).length:Int)>(0:Int))) (((0:Int)≤w64 (((gtd ([]:List Int) rows (Int.toNat x)).length:Int)-(1:Int))∧Int.toNat (w64 (((gtd ([]:List Int) rows (Int.toNat x)).length:Int)-(1:Int)))<(gtd ([]:List Int) rows (Int.toNat x)).length)∧(Qbb K ops stages (w64 ((gtd (0:Int) (gtd ([]:List Int) rows (Int.toNat x)) (Int.toNat (w64 (((gtd ([]:List Int) rows (Int.toNat x)).length:Int)-(1:Int)))))+(1:Int))) x longer1 rows i)) (Qbb K ops stages 1 x longer1 rows i))) (JB K ops stages (List.take longer1.length (List.drop 0 longer1)) (w64 (i+(1:Int)))))):Qal K ops stages x longer1 rows i :=
 Loop.of (by kernel_rfl) h
theorem QiR (ops:Int) (stages:Int) (rows:List (List Int)) (i:Int) (h :
 (zif (decide (i<stages)) (Qal K ops stages 0 ([]:List (List Int)) rows i) (K (QY rows)))):JB K ops stages rows i :=
 Loop.of (by kernel_rfl) h
theorem Qn0 (ops:Int) (stages:Int) (h :
 (zif ((((decide (ops<(1:Int)))||(decide (ops>(8:Int))))||(decide (stages<(1:Int))))||(decide (stages>ops))) (K (QY ([]))) (JB K ops stages ([[]]) 1))):Hold (tawp Zv (0+0) Qjk (TQ 0 0 Qgd K) (Qj [(.c TI ops),(.c TI stages)])) :=
 Hold.of (by kernel_rfl) h
theorem Qly (ops:Int) (stages:Int):TCon Try.prog 61 [(.c TI ops),(.c TI stages)] (QY (Qe ops stages)):=by
 refine QG rfl fun hb=>tcg (n:=77) (sg:=QaD.sg) Qq (TOk.cons Qfc TOk.nil) (by kernel_rfl) (by kernel_rfl) (Qn0 _ ops stages ?_)
 refine ⟨fun h=>R_eq ?_,fun h=>?_⟩
 ·unfold Qe
  rw [if_neg]
  simp only [Bool.and_eq_true,QP]
  simp at h;omega
 simp at h
 have hM:(Qe ops stages)=grow ops stages (stages-1).toNat:=by
  unfold Qe
  rw [if_pos]
  simp only [Bool.and_eq_true,QP];omega
 have hw:w64 (ops-stages)=ops-stages:=Qi (by omega) (by omega)
 have key:JB (fun r'=>r'=QY (Qe ops stages)) ops stages (grow ops stages 0) (((0:Nat):Int)+1):=by
  refine YU (stages-1).toNat (fun j=>JB (fun r'=>r'=QY (Qe ops stages)) ops stages (grow ops stages j) ((j:Int)+1)) ?_ ?_
  ·exact QiR (fun r'=>r'=QY (Qe ops stages)) ops stages _ _ ⟨fun h=>by simp at h;omega,fun _=>R_eq hM.symm⟩
  ·intro j hj ih
   have g:=QiA (n:=ops) (k:=stages) (by omega) (by omega) (by omega) (i:=j) (by omega)
   have hlim:w64 (w64 (ops-stages)+((j:Int)+1))=ops-stages+((j+1:Nat):Int):=by rw [hw,Qi (by omega) (by omega)];omega
   refine QiR (fun r'=>r'=QY (Qe ops stages)) ops stages _ _ ⟨fun _=>?_,fun h=>by simp at h;omega⟩
   refine Yb (grow ops stages j) (fun r x=>∀ longer:List (List Int),longer.length≤8*x→longer++r.flatMap (ext (ops-stages+((j+1:Nat):Int)))=grow ops stages (j+1)→Qal (fun r'=>r'=QY (Qe ops stages)) ops stages (x:Int) longer (grow ops stages j) ((j:Int)+1)) ?_ ?_ [] (by simp) rfl
   ·intro longer hl he
    refine Qib (fun r'=>r'=QY (Qe ops stages)) ops stages _ _ _ _ ⟨fun h=>by simp at h,fun _=>?_⟩
    rw [List.flatMap_nil,List.append_nil] at he
    rw [QnE,he,Qi (by omega) (by omega),show (j:Int)+1+1=((j+1:Nat):Int)+1 by omega]
    exact ih
   ·intro x r0 rest hx hlt hg ih2 longer hl he
    have hr:=g.2 r0 (List.mem_of_mem_drop (by rw [hx];exact List.mem_cons_self))
    have g1:=g.1
    have k7:∀ fro,fro=ZJ r0→Qbb (fun r'=>r'=QY (Qe ops stages)) ops stages fro (x:Int) longer (grow ops stages j) ((j:Int)+1):=by
     intro fro hf
     refine (QlO (fun r'=>r'=QY (Qe ops stages)) ops stages _ _ _ _ _ ?_).h
     simp only [List.take_length]
     have k8:J6 (fun r'=>r'=QY (Qe ops stages)) ops stages (fro+((0:Nat):Int)) (longer++(List.range 0).map fun t:Nat=>r0++[fro+(t:Int)]) (x:Int) (grow ops stages j) ((j:Int)+1):=by
      refine YU (ops-stages+((j+1:Nat):Int)+1-fro).toNat (fun t=>J6 (fun r'=>r'=QY (Qe ops stages)) ops stages (fro+(t:Int)) (longer++(List.range t).map fun t:Nat=>r0++[fro+(t:Int)]) (x:Int) (grow ops stages j) ((j:Int)+1)) ?_ ?_
      ·refine Qje (fun r'=>r'=QY (Qe ops stages)) ops stages _ _ _ _ _ ⟨fun h=>?_,fun _=>?_⟩
       ·rw [hlim] at h;simp at h;omega
       ·rw [List.take_length,sc1 (by omega)]
        refine ih2 _ ?_ ?_
        ·simp;omega
        ·rw [← he,List.flatMap_cons,ext,hf];simp
      ·intro t ht ih3
       refine Qje (fun r'=>r'=QY (Qe ops stages)) ops stages _ _ _ _ _ ⟨fun _=>?_,fun h=>by rw [hlim] at h;simp at h;omega⟩
       rw [Int.toNat_natCast,hg]
       simp only [id]
       have hp1:Yq r0:=by unfold Yq;rw [Qdc];omega
       refine ⟨⟨hp1,⟨by simp,by rw [Yw];omega⟩,⟨by simp,by rw [Yw];simp;omega⟩⟩,?_⟩
       rw [JL,List.drop_zero,JL,Qi (x:=fro+(t:Int)+1) (by omega) (by omega),show fro+(t:Int)+1=fro+((t+1:Nat):Int) by omega]
       rw [List.range_succ,List.map_append,← List.append_assoc] at ih3
       exact ih3
     simpa using k8
    refine Qib (fun r'=>r'=QY (Qe ops stages)) ops stages _ _ _ _ ⟨fun _=>?_,fun h=>by simp at h;omega⟩
    rw [Int.toNat_natCast,hg]
    refine ⟨⟨by omega,hlt⟩,fun h=>?_,fun h=>k7 _ ?_⟩
    ·simp at h
     have e:w64 ((r0.length:Int)-1)=((r0.length-1:Nat):Int):=by rw [Qi (by omega) (by omega)];omega
     rw [e,Int.toNat_natCast]
     refine ⟨⟨by omega,by omega⟩,k7 _ ?_⟩
     unfold ZJ
     rw [if_pos (by omega)]
    ·unfold ZJ
     rw [if_neg (by simp at h;simp [h])]
 exact key
theorem Qeh:Qo Try.prog QaD:=Qs fun x _=>Qly x.1 x.2.1
def YR (t:(List Int) × Bool):TRes:=zra (.tp [(zcs [TI] t.1),(zcb t.2)])
def Qcp:TRow:=Qp 59 [(.a [(.sl ctOp)]),(.c TI)] fun x=>(none,YR (QD x.1 x.2.1))
def Qc8:List TRow:=[Qax,QaD,Qan,Qay]
def QhW:TCode :=
 (zsq [(.reg [zbi 36 .lss 35 34]),(.cond 36 .skip (.exit 0)),(.block 1 (zsq [(.reg [zia 37 33 35 [(.sl [TI])],zLd 38 37 1,zop 9 (.new 91 [(.n [TI])]),zst 9 38 1]),(.draw [zLd 39 2 1,zfa 40 9 0,zld 41 40 1,zca 42 50 [39,41],zLd 43 2 1,zmv 44 7,zca 45 50 [43,44],zbi 46 .lss 42 45] [(3,4)]),(.cond 46 (.reg [zfa 47 9 0,zld 48 47 1,zmv 7 48]) .skip)])),(.reg [zbi 49 .add 35 (zki 1),zmv 35 49])])
def QhB:List (Nat × Md):=[(2,.b [.d]),(7,.one .d),(33,.one .d),(34,.one .d),(35,.one .d)]
def Qeb:TCode :=
 (zsq [(.reg [zmv 50 7,zca 51 121 [50],zmv 4 51,zmv 5 (zkb true)]),.ret])
def QnO:TCode :=
 (zsq [(.reg [zop 2 (.box 66 0 1),zmv 4 (.k (.n [TI])),zmv 5 (zkb false)]),(zsq [(.reg [zLd 10 2 1,zca 11 133 [10],zno 12 11,zmv 13 12,.grp 13 false [zmv 14 1,zbi 15 .lss 14 (zki 1)] 16 15,zmv 17 16,.grp 17 false [zmv 18 1,zfa 19 2 0,zld 20 19 1,zle 21 20,zbi 22 .gtr 18 21] 23 22]),(.cond 23 (zsq [(.reg [zmv 4 (.k (.n [TI])),zmv 5 (zkb false)]),.ret]) .skip)]),(.reg [zfa 24 2 0,zld 25 24 1,zle 26 25,zmv 27 1,zca 28 61 [26,27],zmv 6 28]),(.reg [zmv 29 6,zia 30 29 (zki 0) [(.sl [TI])],zfa 31 30 0,zld 32 31 1,zmv 7 32]),(zsq [(.reg [zmv 33 6,zle 34 33,zmv 35 (zki 0)]),(.block 0 (.loop QhB QhW))]),Qeb])
def Qh9:List (ARv × Md):=[(.t 4,.one .d),(.t 5,.one .d)]
def Qex:Qd:=TQ 0 0 Qh9 K
def QoB:Qd:=Qseq (tawp Qc8 0 Qeb (Qex K)) (Qex K)
def Qo7:Qd:=Qblk 0 (QoB K)
def JI (m:List TOp') (stages:Int) (x:Int) (best:List Int):Prop:=Loop Qc8 0 QhB QhW (Qo7 K) ⟨[(2,(.p 0 0 0)),(7,(zcs [TI] best)),(33,(zcs [(.sl [TI])] (Qe (m.length:Int) stages))),(34,(zci ((Qe (m.length:Int) stages).length:Int))),(35,(zci x))],[(0,(.box [(zcs ctOp m)]))],1⟩
theorem QfP (m:List TOp') (stages:Int) (x:Int) (best:List Int) (h :
 (zif (decide (x<((Qe (m.length:Int) stages).length:Int))) (((0:Int)≤x∧Int.toNat x<(Qe (m.length:Int) stages).length)∧(zif (decide ((Qu m (gtd ([]:List Int) (Qe (m.length:Int) stages) (Int.toNat x)))<(Qu m best))) (JI K m stages (w64 (x+(1:Int))) (gtd ([]:List Int) (Qe (m.length:Int) stages) (Int.toNat x))) (JI K m stages (w64 (x+(1:Int))) best))) ((Yq (α:=List Int) best)∧K (YR ((List.take ((id (α:=List Int) best).length) (List.drop 0 (id (α:=List Int) best))),true))))):JI K m stages x best :=
 Loop.of (by kernel_rfl) h
theorem QmS (m:List TOp') (stages:Int) (h :
 (zif (((!(Qn m))||(decide (stages<(1:Int))))||(decide (stages>(m.length:Int)))) (K (YR ([],false))) (((0:Int)≤(0:Int)∧Int.toNat (0:Int)<(Qe (m.length:Int) stages).length)∧(JI K m stages 0 (gtd ([]:List Int) (Qe (m.length:Int) stages) (Int.toNat (0:Int))))))):Hold (tawp Qc8 (0+0) QnO (TQ 0 0 Qh9 K) (Qj [(.a [(.c (.sl ctOp) m)]),(.c TI stages)])) :=
 Hold.of (by kernel_rfl) h
theorem Qm9 (m:List TOp') (stages:Int):TCon Try.prog 59 [(.a [(.c (.sl ctOp) m)]),(.c TI stages)] (YR (QD m stages)):=by
 refine QG rfl fun hb=>tcg (n:=52) (sg:=Qcp.sg) Qq (TOk.cons Qf7 (TOk.cons Qeh (TOk.cons QgZ (TOk.cons Qfc TOk.nil)))) (by kernel_rfl) (by kernel_rfl) (QmS _ m stages ?_)
 have hl_m_0:(m).length≤9223372036854775807:=hb.1.1.1
 have hg0:(((!(Qn m))||(decide (stages<1)))||(decide (stages>m.length))) = !(Qn m&&m_in stages 1 m.length):=by
  cases Qn m
  ·rfl
  ·rw [Bool.eq_iff_iff];simp [m_in] <;> omega
 rw [hg0]
 refine ⟨fun h=>R_eq ?_,fun h=>?_⟩
 ·unfold QD
  simp only [Bool.not_eq_true'] at h
  rw [h];rfl
 simp only [Bool.not_eq_false'] at h
 have hM:(QD m stages)=(Zm (Qu m) (Qe m.length stages) (gtd [] (Qe m.length stages) 0),true):=by unfold QD;rw [if_pos h]
 simp only [Bool.and_eq_true,QP] at h
 have hm:=Qa0 h.1
 have hl:=QdW (n:=m.length) (k:=stages) (by omega) (by omega) (by omega)
 have hs:=(Qdx (n:=m.length) (k:=stages) (by omega) (by omega) (by omega)).2.2
 refine ⟨⟨by omega,by simp;omega⟩,?_⟩
 refine Yb (Qe m.length stages) (fun r x=>∀ b:List Int,b∈Qe m.length stages→Zm (Qu m) r b=Zm (Qu m) (Qe m.length stages) (gtd [] (Qe m.length stages) 0)→JI (fun r'=>r'=YR (QD m stages)) m stages (x:Int) b) ?_ ?_ (gtd [] (Qe m.length stages) 0) (QaB (by omega) _) rfl
 ·intro b hb he
  have hb2:=(hs b hb).2
  refine QfP (fun r'=>r'=YR (QD m stages)) m stages _ _ ⟨fun h=>by simp at h,fun _=>⟨by unfold Yq;rw [Qdc];omega,R_eq ?_⟩⟩
  rw [hM,← he];simp [Zm]
 ·intro k x r hk hlt hg ih b hb he
  have hx:x∈Qe m.length stages:=List.mem_of_mem_drop (by rw [hk];exact List.mem_cons_self)
  rw [Zm] at he
  refine QfP (fun r'=>r'=YR (QD m stages)) m stages _ _ ⟨fun _=>?_,fun h=>by simp at h;omega⟩
  rw [Int.toNat_natCast,hg,sc1 (by omega)]
  refine ⟨⟨by omega,hlt⟩,fun h=>ih _ hx ?_,fun h=>ih _ hb ?_⟩
  ·rw [if_pos (by simpa using h)] at he;exact he
  ·rw [if_neg (by simpa using h)] at he;exact he
theorem Qjw:Qo Try.prog Qcp:=Qs fun x _=>Qm9 x.1 x.2.1
end
end Go.Proofs.Ytephkbajoofeoaa.Am

