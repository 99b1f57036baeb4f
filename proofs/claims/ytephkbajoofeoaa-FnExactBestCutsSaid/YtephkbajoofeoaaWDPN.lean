/- -/
import Derived.Test.YtephkbajoofeoaaWDPF
import Derived.Test.YtephkbajoofeoaaWDP1
import Derived.Test.YtephkbajoofeoaaWDP4
import Derived.Test.YtephkbajoofeoaaWDP5
import Derived.Test.YtephkbajoofeoaaWDGC
namespace Go.Proofs.Ytephkbajoofeoaa.Am
open Go Go.RowKit Go.Proofs.Ytephkbajoofeoaa
set_option linter.all false
set_option maxHeartbeats 2000000
noncomputable section
variable (K:TRes→Prop)
def QU (t:(List (List Int))):TRes:=zra (zcs [(.sl [TI])] t)
def Qdd:TRow:=Qj 61 [(.c TI),(.c TI)] fun x=>(none,QU (Qe x.1 x.2.1))
def Zo:TTab:=⟨[Qcn],false⟩
def Qh4:TCode :=
 (zsq [(zsq [(.reg [zmv 55 11,zmv 56 0,zmv 57 1,zbi 58 .sub 56 57,zmv 59 6,zbi 60 .add 58 59,zbi 61 .leq 55 60]),(.cond 61 .skip (.exit 4))]),(.block 5 (.reg [zmv 64 7,zfa 65 9 0,zld 66 65 1,zca 67 121 [66],zmv 68 11,zop 69 (.bsl 3 [TI] [68]),zop 70 (.app 67 69 3 [TI]),zop 71 (.build [(.n [TI])] [(0,1,70)]),zop 72 (.bsl 91 [(.sl [TI])] [71]),zop 73 (.app 64 72 91 [(.sl [TI])]),zmv 7 73])),(.reg [zmv 62 11,zbi 63 .add 62 (zki 1),zmv 11 63])])
def Qhw:List (Nat × Md):=[(0,.one .d),(1,.one .d),(6,.one .d),(7,.one .f),(9,.b [.d]),(11,.one .d),(35,.one .d),(36,.one .d),(37,.one .d)]
def Qlh:TCode :=
 (zsq [(.reg [zmv 54 10,zmv 11 54]),(.block 4 (.loop Qhw Qh4))])
def QlD:List (Nat × Md):=[(0,.one .d),(1,.one .d),(6,.one .d),(7,.one .f),(9,.b [.d]),(10,.one .d),(35,.one .d),(36,.one .d),(37,.one .d)]
def QlL:TCode:=.wk QlD Qlh
def Qfq:TCode :=
 (.reg [zbi 74 .add 37 (zki 1),zmv 37 74])
def Qd2:TCode :=
 (zsq [(.reg [zbi 38 .lss 37 36]),(.cond 38 .skip (.exit 2)),(.block 3 (zsq [(.reg [zia 39 35 37 [(.sl [TI])],zLd 40 39 1,zop 9 (.new 91 [(.n [TI])]),zst 9 40 1]),(.reg [zmv 10 (zki 1)]),(zsq [(.reg [zfa 41 9 0,zld 42 41 1,zle 43 42,zbi 44 .gtr 43 (zki 0)]),(.cond 44 (.reg [zfa 45 9 0,zld 46 45 1,zfa 47 9 0,zld 48 47 1,zle 49 48,zbi 50 .sub 49 (zki 1),zia 51 46 50 [TI],zld 52 51 1,zbi 53 .add 52 (zki 1),zmv 10 53]) .skip)]),QlL])),Qfq])
def Qbe:List (Nat × Md):=[(0,.one .d),(1,.one .d),(6,.one .d),(7,.one .f),(35,.one .d),(36,.one .d),(37,.one .d)]
def Qgt:TCode :=
 (.reg [zmv 75 7,zmv 5 75])
def Qia:TCode :=
 (.reg [zmv 32 6,zbi 33 .add 32 (zki 1),zmv 6 33])
def Qdl:TCode :=
 (zsq [(zsq [(.reg [zmv 29 6,zmv 30 1,zbi 31 .lss 29 30]),(.cond 31 .skip (.exit 0))]),(.block 1 (zsq [(.reg [zop 34 (.bsl 91 [(.sl [TI])] []),zmv 7 34]),(zsq [(.reg [zmv 35 5,zle 36 35,zmv 37 (zki 0)]),(.block 2 (.loop Qbe Qd2))]),Qgt])),Qia])
def Qa2:List (Nat × Md):=zdl [0,1,5,6]
def Qga:TCode :=
 (zsq [(.reg [zmv 76 5,zmv 4 76]),.ret])
def Ql7:TCode :=
 (zsq [(.reg [zmv 4 (.k (.n [(.sl [TI])]))]),(zsq [(.reg [zmv 12 0,zbi 13 .lss 12 (zki 1),zmv 14 13,.grp 14 false [zmv 15 0,zbi 16 .gtr 15 (zki 8)] 17 16,zmv 18 17,.grp 18 false [zmv 19 1,zbi 20 .lss 19 (zki 1)] 21 20,zmv 22 21,.grp 22 false [zmv 23 1,zmv 24 0,zbi 25 .gtr 23 24] 26 25]),(.cond 26 (zsq [(.reg [zmv 4 (.k (.n [(.sl [TI])]))]),.ret]) .skip)]),(.reg [zop 27 (.build [(.n [TI])] []),zop 28 (.bsl 91 [(.sl [TI])] [27]),zmv 5 28]),(zsq [(.reg [zmv 6 (zki 1)]),(.block 0 (.loop Qa2 Qdl))]),Qga])
def QjW:List (ARv × Md):=[(.t 4,.one .d)]
def Qh8:Qc:=TQ 0 0 QjW K
def QrU:Qc:=Qseq (tawp Zo 0 Qga (Qh8 K)) (Qh8 K)
def Qc8:Qc:=Qblk 0 (QrU K)
def QfF:Qc:=Qseq (fun s'=>Loop Zo 0 Qa2 Qdl (Qc8 K) (gc 0 Qa2 s')) (Qc8 K)
def Qne:Qc:=Qseq (tawp Zo 0 Qia (QfF K)) (QfF K)
def Qh2:Qc:=Qblk 1 (Qne K)
def QpT:Qc:=Qseq (tawp Zo 0 Qgt (Qh2 K)) (Qh2 K)
def Qc9:Qc:=Qblk 2 (QpT K)
def Qju:Qc:=Qseq (fun s'=>Loop Zo 0 Qbe Qd2 (Qc9 K) (gc 0 Qbe s')) (Qc9 K)
def Qsb:Qc:=Qseq (tawp Zo 0 Qfq (Qju K)) (Qju K)
def Qkx:Qc:=Qblk 3 (Qsb K)
def QlY:Qc:=Qblk 4 (Qkx K)
def Qay (ops:Int) (stages:Int) (c:Int) (longer:List (List Int)) (x:Int) (rows:List (List Int)) (i:Int):Prop:=Loop Zo 0 Qhw Qh4 (QlY K) ⟨[(0,(zci ops)),(1,(zci stages)),(6,(zci i)),(7,(.r [(.sl [TI])] 0 0 longer.length)),(9,(.p 1 0 0)),(11,(zci c)),(35,(zcs [(.sl [TI])] rows)),(36,(zci (rows.length:Int))),(37,(zci x))],[(0,(.sl 91 [(.sl [TI])] .ow longer)),(1,(.box [(zcs [TI] (gtd ([]:List Int) rows (Int.toNat x)))]))],2⟩
@[irreducible] def QbX (ops:Int) (stages:Int) (fro:Int) (x:Int) (longer1:List (List Int)) (rows:List (List Int)) (i:Int):Prop:=tawp Zo 0 Qlh (Qkx K) ⟨[(0,(zci ops)),(1,(zci stages)),(6,(zci i)),(7,(.r [(.sl [TI])] 0 0 ((List.take longer1.length longer1).length))),(9,(.p 1 0 0)),(10,(zci fro)),(35,(zcs [(.sl [TI])] rows)),(36,(zci (rows.length:Int))),(37,(zci x))],[(0,(.sl 91 [(.sl [TI])] .ow (List.take longer1.length longer1))),(1,(.box [(zcs [TI] (gtd ([]:List Int) rows (Int.toNat x)))]))],2⟩
def QbZ (ops:Int) (stages:Int) (x:Int) (longer1:List (List Int)) (rows:List (List Int)) (i:Int):Prop:=Loop Zo 0 Qbe Qd2 (Qc9 K) ⟨[(0,(zci ops)),(1,(zci stages)),(6,(zci i)),(7,(.r [(.sl [TI])] 0 0 longer1.length)),(35,(zcs [(.sl [TI])] rows)),(36,(zci (rows.length:Int))),(37,(zci x))],[(0,(.sl 91 [(.sl [TI])] .ow longer1))],1⟩
def QaK (ops:Int) (stages:Int) (rows:List (List Int)) (i:Int):Prop:=Loop Zo 0 Qa2 Qdl (Qc8 K) ⟨[(0,(zci ops)),(1,(zci stages)),(5,(zcs [(.sl [TI])] rows)),(6,(zci i))],[],0⟩
theorem Qii (ops:Int) (stages:Int) (c:Int) (longer:List (List Int)) (x:Int) (rows:List (List Int)) (i:Int) (h :
 (zif (decide (c≤(w64 ((w64 (ops-stages))+i)))) (((Yb (α:=List Int) (gtd ([]:List Int) rows (Int.toNat x)))∧((((id (α:=List Int) (gtd ([]:List Int) rows (Int.toNat x))).length=(id (α:=List Int) (gtd ([]:List Int) rows (Int.toNat x))).length∨(id (α:=List Int) (gtd ([]:List Int) rows (Int.toNat x))).length+1≤(id (α:=List Int) (gtd ([]:List Int) rows (Int.toNat x))).length)∧(id (α:=List Int) (gtd ([]:List Int) rows (Int.toNat x))).length+1≤big)∧((longer.length=longer.length∨longer.length+1≤longer.length)∧longer.length+1≤big)))∧(Qay K ops stages (w64 (c+(1:Int))) (List.take (longer.length+1) ((List.take longer.length longer)++([(List.take ((id (α:=List Int) (gtd ([]:List Int) rows (Int.toNat x))).length+1) (List.drop 0 ((List.take ((id (α:=List Int) (gtd ([]:List Int) rows (Int.toNat x))).length) (id (α:=List Int) (gtd ([]:List Int) rows (Int.toNat x))))++([c]))))]))) x rows i)) (QbZ K ops stages (w64 (x+(1:Int))) (List.take longer.length longer) rows i))):Qay K ops stages c longer x rows i :=
 Loop.of (by kernel_rfl) h
theorem QrM (ops:Int) (stages:Int) (fro:Int) (x:Int) (longer1:List (List Int)) (rows:List (List Int)) (i:Int) (h :
 (Qay K ops stages fro (List.take ((List.take longer1.length longer1).length) (List.take longer1.length longer1)) x rows i)):Hold (QbX K ops stages fro x longer1 rows i) :=
 Hold.of (by kernel_rfl) h
theorem Qfd (ops:Int) (stages:Int) (x:Int) (longer1:List (List Int)) (rows:List (List Int)) (i:Int) (h :
 (zif (decide (x<(rows.length:Int))) (((0:Int)≤x∧Int.toNat x<rows.length)∧(zif (decide (((gtd ([]:List Int) rows (Int.toNat x)).length:Int)>(0:Int))) (((0:Int)≤w64 (((gtd ([]:List Int) rows (Int.toNat x)).length:Int)-(1:Int))∧Int.toNat (w64 (((gtd ([]:List Int) rows (Int.toNat x)).length:Int)-(1:Int)))<(gtd ([]:List Int) rows (Int.toNat x)).length)∧(QbX K ops stages (w64 ((gtd (0:Int) (gtd ([]:List Int) rows (Int.toNat x)) (Int.toNat (w64 (((gtd ([]:List Int) rows (Int.toNat x)).length:Int)-(1:Int)))))+(1:Int))) x longer1 rows i)) (QbX K ops stages 1 x longer1 rows i))) (QaK K ops stages (List.take longer1.length (List.drop 0 longer1)) (w64 (i+(1:Int)))))):QbZ K ops stages x longer1 rows i :=
 Loop.of (by kernel_rfl) h
theorem QhQ (ops:Int) (stages:Int) (rows:List (List Int)) (i:Int) (h :
 (zif (decide (i<stages)) (QbZ K ops stages 0 ([]:List (List Int)) rows i) (K (QU rows)))):QaK K ops stages rows i :=
 Loop.of (by kernel_rfl) h
theorem Qmw (ops:Int) (stages:Int) (h :
 (zif ((((decide (ops<(1:Int)))||(decide (ops>(8:Int))))||(decide (stages<(1:Int))))||(decide (stages>ops))) (K (QU ([]))) (QaK K ops stages ([[]]) 1))):Hold (tawp Zo (0+0) Ql7 (TQ 0 0 QjW K) (Qh [(.c TI ops),(.c TI stages)])) :=
 Hold.of (by kernel_rfl) h
theorem QmX (ops:Int) (stages:Int):TCon Try.prog 61 [(.c TI ops),(.c TI stages)] (QU (Qe ops stages)):=by
 refine Ql rfl fun hb=>tcg (Γ:=Zo) (n:=77) (sg:=Qdd.sg) Qm (TOkL.cons Qli TOkL.nil) (by kernel_rfl) (by kernel_rfl) (Qmw _ ops stages ?_)
 refine ⟨fun h=>R_eq ?_,fun h=>?_⟩
 ·unfold Qe
  rw [if_neg]
  simp only [Bool.and_eq_true,QN]
  simp at h;omega
 simp at h
 have hM:(Qe ops stages)=grow ops stages (stages-1).toNat:=by
  unfold Qe
  rw [if_pos]
  simp only [Bool.and_eq_true,QN];omega
 have hw:w64 (ops-stages)=ops-stages:=Qr (by omega) (by omega)
 have key:QaK (fun r'=>r'=QU (Qe ops stages)) ops stages (grow ops stages 0) (((0:Nat):Int)+1):=by
  refine Qau (stages-1).toNat (fun j=>QaK (fun r'=>r'=QU (Qe ops stages)) ops stages (grow ops stages j) ((j:Int)+1)) ?_ ?_
  ·exact QhQ (fun r'=>r'=QU (Qe ops stages)) ops stages _ _ ⟨fun h=>by simp at h;omega,fun _=>R_eq hM.symm⟩
  ·intro j hj ih
   have g:=Qj1 (n:=ops) (k:=stages) (by omega) (by omega) (by omega) (i:=j) (by omega)
   have hlim:w64 (w64 (ops-stages)+((j:Int)+1))=ops-stages+((j+1:Nat):Int):=by rw [hw,Qr (by omega) (by omega)];omega
   refine QhQ (fun r'=>r'=QU (Qe ops stages)) ops stages _ _ ⟨fun _=>?_,fun h=>by simp at h;omega⟩
   refine ZF (grow ops stages j) (fun r x=>∀ longer:List (List Int),longer.length≤8*x→longer++r.flatMap (ext (ops-stages+((j+1:Nat):Int)))=grow ops stages (j+1)→QbZ (fun r'=>r'=QU (Qe ops stages)) ops stages (x:Int) longer (grow ops stages j) ((j:Int)+1)) ?_ ?_ [] (by simp) rfl
   ·intro longer hl he
    refine Qfd (fun r'=>r'=QU (Qe ops stages)) ops stages _ _ _ _ ⟨fun h=>by simp at h,fun _=>?_⟩
    rw [List.flatMap_nil,List.append_nil] at he
    rw [QbV,he,Qr (by omega) (by omega),show (j:Int)+1+1=((j+1:Nat):Int)+1 by omega]
    exact ih
   ·intro x r0 rest hx hlt hg ih2 longer hl he
    have hr:=g.2 r0 (List.mem_of_mem_drop (by rw [hx];exact List.mem_cons_self))
    have g1:=g.1
    have k7:∀ fro,fro=ZW r0→QbX (fun r'=>r'=QU (Qe ops stages)) ops stages fro (x:Int) longer (grow ops stages j) ((j:Int)+1):=by
     intro fro hf
     refine (QrM (fun r'=>r'=QU (Qe ops stages)) ops stages _ _ _ _ _ ?_).h
     simp only [List.take_length]
     have k8:Qay (fun r'=>r'=QU (Qe ops stages)) ops stages (fro+((0:Nat):Int)) (longer++(List.range 0).map fun t:Nat=>r0++[fro+(t:Int)]) (x:Int) (grow ops stages j) ((j:Int)+1):=by
      refine Qau (ops-stages+((j+1:Nat):Int)+1-fro).toNat (fun t=>Qay (fun r'=>r'=QU (Qe ops stages)) ops stages (fro+(t:Int)) (longer++(List.range t).map fun t:Nat=>r0++[fro+(t:Int)]) (x:Int) (grow ops stages j) ((j:Int)+1)) ?_ ?_
      ·refine Qii (fun r'=>r'=QU (Qe ops stages)) ops stages _ _ _ _ _ ⟨fun h=>?_,fun _=>?_⟩
       ·rw [hlim] at h;simp at h;omega
       ·rw [List.take_length,sc1 (by omega)]
        refine ih2 _ ?_ ?_
        ·simp;omega
        ·rw [← he,List.flatMap_cons,ext,hf];simp
      ·intro t ht ih3
       refine Qii (fun r'=>r'=QU (Qe ops stages)) ops stages _ _ _ _ _ ⟨fun _=>?_,fun h=>by rw [hlim] at h;simp at h;omega⟩
       rw [Int.toNat_natCast,hg]
       simp only [id]
       have hp1:Yb r0:=by unfold Yb;rw [Qbz];omega
       refine ⟨⟨hp1,⟨by simp,by rw [ZP];omega⟩,⟨by simp,by rw [ZP];simp;omega⟩⟩,?_⟩
       rw [Qal,List.drop_zero,Qal,Qr (x:=fro+(t:Int)+1) (by omega) (by omega),show fro+(t:Int)+1=fro+((t+1:Nat):Int) by omega]
       rw [List.range_succ,List.map_append,← List.append_assoc] at ih3
       exact ih3
     simpa using k8
    refine Qfd (fun r'=>r'=QU (Qe ops stages)) ops stages _ _ _ _ ⟨fun _=>?_,fun h=>by simp at h;omega⟩
    rw [Int.toNat_natCast,hg]
    refine ⟨⟨by omega,hlt⟩,fun h=>?_,fun h=>k7 _ ?_⟩
    ·simp at h
     have e:w64 ((r0.length:Int)-1)=((r0.length-1:Nat):Int):=by rw [Qr (by omega) (by omega)];omega
     rw [e,Int.toNat_natCast]
     refine ⟨⟨by omega,by omega⟩,k7 _ ?_⟩
     unfold ZW
     rw [if_pos (by omega)]
    ·unfold ZW
     rw [if_neg (by simp at h;simp [h])]
 exact key
theorem QmV:Qi Try.prog Qdd:=Qn fun x _=>QmX x.1 x.2.1
def QL (t:(List (List Int))):TRes:=zra (zcs [(.sl [TI])] t)
def Qfc:TRow:=Qj 139 [(.c TI),(.c TI)] fun x=>(none,QL (Qe x.1 x.2.1))
def ZI:TTab:=⟨[Zx],false⟩
def Qhr:TCode :=
 (zsq [(zsq [(.reg [zmv 22 7,zmv 23 1,zbi 24 .lss 22 23]),(.cond 24 .skip (.exit 0))]),(.block 1 (.reg [zmv 27 6,zmv 28 7,zop 29 (.bsl 3 [TI] [28]),zop 30 (.app 27 29 3 [TI]),zmv 6 30])),(.reg [zmv 25 7,zbi 26 .add 25 (zki 1),zmv 7 26])])
def QjR:List (Nat × Md):=[(0,.one .d),(1,.one .d),(5,.one .f),(6,.one .f),(7,.one .d)]
def Qjs:TCode :=
 (zsq [(zsq [(.reg [zmv 41 8,zbi 42 .geq 41 (zki 0),zmv 43 42,.grp 43 true [zmv 44 6,zmv 45 8,zia 46 44 45 [TI],zld 47 46 1,zmv 48 0,zmv 49 6,zle 50 49,zbi 51 .sub 48 50,zmv 52 8,zbi 53 .add 51 52,zbi 54 .eql 47 53] 55 54]),(.cond 55 .skip (.exit 4))]),(.block 5 (.reg [zmv 56 8,zbi 57 .sub 56 (zki 1),zmv 8 57]))])
def Qgq:List (Nat × Md):=[(0,.one .d),(5,.one .f),(6,.one .f),(8,.one .d)]
def QhT:TCode :=
 (zsq [(zsq [(.reg [zmv 71 9,zmv 72 6,zle 73 72,zbi 74 .lss 71 73]),(.cond 74 .skip (.exit 6))]),(.block 7 (.reg [zmv 77 6,zmv 78 9,zmv 79 6,zmv 80 9,zbi 81 .sub 80 (zki 1),zia 82 79 81 [TI],zld 83 82 1,zbi 84 .add 83 (zki 1),zia 85 77 78 [TI],zst 85 84 1])),(.reg [zmv 75 9,zbi 76 .add 75 (zki 1),zmv 9 76])])
def QjF:List (Nat × Md):=[(0,.one .d),(5,.one .f),(6,.one .f),(9,.one .d)]
def QkY:TCode :=
 (zsq [(zsq [(.reg [zmv 58 8,zbi 59 .lss 58 (zki 0)]),(.cond 59 (zsq [(.reg [zmv 60 5,zmv 4 60]),.ret]) .skip)]),(.reg [zmv 61 6,zmv 62 8,zmv 63 6,zmv 64 8,zia 65 63 64 [TI],zld 66 65 1,zbi 67 .add 66 (zki 1),zia 68 61 62 [TI],zst 68 67 1]),(.reg [zmv 69 8,zbi 70 .add 69 (zki 1),zmv 9 70]),(.block 6 (.loop QjF QhT))])
def Qdc:TCode :=
 (.block 3 (zsq [(.reg [zmv 31 5,zop 32 (.bsl 3 [TI] []),zmv 33 6,zop 34 (.app 32 33 3 [TI]),zop 35 (.build [(.n [TI])] [(0,1,34)]),zop 36 (.bsl 91 [(.sl [TI])] [35]),zop 37 (.app 31 36 91 [(.sl [TI])]),zmv 5 37]),(.reg [zmv 38 6,zle 39 38,zbi 40 .sub 39 (zki 1),zmv 8 40]),(.block 4 (.loop Qgq Qjs)),QkY]))
def Qcg:List (Nat × Md):=[(0,.one .d),(5,.one .f),(6,.one .f)]
def Qkp:TCode :=
 (.block 2 (.loop Qcg Qdc))
def QpA:TCode :=
 (zsq [(.reg [zmv 4 (.k (.n [(.sl [TI])]))]),(.reg [zop 10 (.bsl 91 [(.sl [TI])] []),zmv 5 10]),(zsq [(.reg [zmv 11 0,zca 12 102 [11,(zki 1),(zki 8)],zno 13 12,zmv 14 13,.grp 14 false [zmv 15 1,zmv 16 0,zca 17 102 [15,(zki 1),16],zno 18 17] 19 18]),(.cond 19 (zsq [(.reg [zmv 20 5,zmv 4 20]),.ret]) .skip)]),(.reg [zop 21 (.bsl 3 [TI] []),zmv 6 21]),(zsq [(.reg [zmv 7 (zki 1)]),(.block 0 (.loop QjR Qhr))]),Qkp])
def Qiw:List (ARv × Md):=[(.t 4,.one .d)]
def QcK:Qc:=TQ 0 0 Qiw K
def Qdt:Qc:=Qblk 2 (QcK K)
def QlO:Qc:=Qseq (fun s'=>Loop ZI 0 Qcg Qdc (Qdt K) (gc 0 Qcg s')) (Qdt K)
def QcS:Qc:=Qblk 3 (QlO K)
def Qsh:Qc:=Qblk 6 (QcS K)
def Qbr (ops:Int) (i1:Int) (out1:List (List Int)) (now2:List Int):Prop:=Loop ZI 0 QjF QhT (Qsh K) ⟨[(0,(zci ops)),(5,(.r [(.sl [TI])] 0 0 out1.length)),(6,(.r [TI] 1 0 now2.length)),(9,(zci i1))],[(0,(.sl 91 [(.sl [TI])] .ow out1)),(1,(.sl 3 [TI] .ow now2))],2⟩
def Qqk:Qc:=Qseq (tawp ZI 0 QkY (QcS K)) (QcS K)
def Qo0:Qc:=Qblk 4 (Qqk K)
def Qb8 (ops:Int) (k:Int) (out:List (List Int)) (now1:List Int):Prop:=Loop ZI 0 Qgq Qjs (Qo0 K) ⟨[(0,(zci ops)),(5,(.r [(.sl [TI])] 0 0 out.length)),(6,(.r [TI] 1 0 now1.length)),(8,(zci k))],[(0,(.sl 91 [(.sl [TI])] .ow out)),(1,(.sl 3 [TI] .ow now1))],2⟩
def Jb (ops:Int) (out2:List (List Int)) (now3:List Int):Prop:=Loop ZI 0 Qcg Qdc (Qdt K) ⟨[(0,(zci ops)),(5,(.r [(.sl [TI])] 0 0 out2.length)),(6,(.r [TI] 1 0 now3.length))],[(0,(.sl 91 [(.sl [TI])] .ow out2)),(1,(.sl 3 [TI] .ow now3))],2⟩
def QpM:Qc:=Qseq (tawp ZI 0 Qkp (QcK K)) (QcK K)
def Qpe:Qc:=Qblk 0 (QpM K)
def J9 (ops:Int) (stages:Int) (i:Int) (now:List Int):Prop:=Loop ZI 0 QjR Qhr (Qpe K) ⟨[(0,(zci ops)),(1,(zci stages)),(5,(.r [(.sl [TI])] 0 0 0)),(6,(.r [TI] 1 0 now.length)),(7,(zci i))],[(0,(.sl 91 [(.sl [TI])] .ow ([]:List (List Int)))),(1,(.sl 3 [TI] .ow now))],2⟩
theorem Qj0 (ops:Int) (i1:Int) (out1:List (List Int)) (now2:List Int) (h :
 (zif (decide (i1<((now2.length:Nat):Int))) ((((0:Int)≤w64 (i1-(1:Int))∧Int.toNat (w64 (i1-(1:Int)))<now2.length)∧(((0+(Int.toNat (w64 (i1-(1:Int)))))<now2.length)∧(((0:Int)≤i1∧Int.toNat i1<now2.length)∧((0+(Int.toNat i1))<now2.length))))∧(Qbr K ops (w64 (i1+(1:Int))) (List.take out1.length out1) (List.take now2.length ((now2).set (0+(Int.toNat i1)) (w64 ((gtd (0:Int) now2 (0+(Int.toNat (w64 (i1-(1:Int))))))+(1:Int))))))) (Jb K ops (List.take out1.length out1) (List.take now2.length now2)))):Qbr K ops i1 out1 now2 :=
 Loop.of (by kernel_rfl) h
theorem Qj8 (ops:Int) (k:Int) (out:List (List Int)) (now1:List Int) (h :
 (((decide (k≥(0:Int)))=true→(((0:Int)≤k∧Int.toNat k<now1.length)∧((0+(Int.toNat k))<now1.length)))∧(zif ((decide (k≥(0:Int)))&&((gtd (0:Int) now1 (0+(Int.toNat k)))==(w64 ((w64 (ops-((now1.length:Nat):Int)))+k)))) (Qb8 K ops (w64 (k-(1:Int))) (List.take out.length out) (List.take now1.length now1)) (zif (decide (k<(0:Int))) (K (QL (List.take out.length (List.drop 0 out)))) ((((0:Int)≤k∧Int.toNat k<now1.length)∧(((0+(Int.toNat k))<now1.length)∧(((0:Int)≤k∧Int.toNat k<now1.length)∧((0+(Int.toNat k))<now1.length))))∧(Qbr K ops (w64 (k+(1:Int))) (List.take out.length out) (List.take now1.length ((now1).set (0+(Int.toNat k)) (w64 ((gtd (0:Int) now1 (0+(Int.toNat k)))+(1:Int))))))))))):Qb8 K ops k out now1 :=
 Loop.of (by kernel_rfl) h
theorem Qk5 (ops:Int) (out2:List (List Int)) (now3:List Int) (h :
 ((((0=0∨0+(List.take now3.length (List.drop 0 now3)).length≤0)∧0+(List.take now3.length (List.drop 0 now3)).length≤big)∧((out2.length=out2.length∨out2.length+1≤out2.length)∧out2.length+1≤big))∧(Qb8 K ops (w64 (((now3.length:Nat):Int)-(1:Int))) (List.take (out2.length+1) ((List.take out2.length out2)++([(List.take (0+(List.take now3.length (List.drop 0 now3)).length) (List.drop 0 (List.take now3.length (List.drop 0 now3))))]))) (List.take now3.length now3)))):Jb K ops out2 now3 :=
 Loop.of (by kernel_rfl) h
theorem Qig (ops:Int) (stages:Int) (i:Int) (now:List Int) (h :
 (zif (decide (i<stages)) (((now.length=now.length∨now.length+1≤now.length)∧now.length+1≤big)∧(J9 K ops stages (w64 (i+(1:Int))) (List.take (now.length+1) ((List.take now.length now)++([i]))))) (Jb K ops ([]:List (List Int)) (List.take now.length now)))):J9 K ops stages i now :=
 Loop.of (by kernel_rfl) h
theorem Qok (ops:Int) (stages:Int) (h :
 (zif ((!(m_in ops (1:Int) (8:Int)))||(!(m_in stages (1:Int) ops))) (K (QL ([]:List (List Int)))) (J9 K ops stages 1 ([]:List Int)))):Hold (tawp ZI (0+0) QpA (TQ 0 0 Qiw K) (Qh [(.c TI ops),(.c TI stages)])) :=
 Hold.of (by kernel_rfl) h
theorem QlP (ops:Int) (stages:Int):TCon Try.prog 139 [(.c TI ops),(.c TI stages)] (QL (Qe ops stages)):=by
 refine Ql rfl fun hb=>tcg (Γ:=ZI) (n:=86) (sg:=Qfc.sg) Qm (TOkL.cons Yp TOkL.nil) (by kernel_rfl) (by kernel_rfl) (Qok _ ops stages ?_)
 have hg0:((!(m_in ops 1 8))||(!(m_in stages 1 ops))) = !(m_in ops 1 8&&m_in stages 1 ops):=by cases m_in ops 1 8 <;> cases m_in stages 1 ops <;> rfl
 rw [hg0]
 refine ⟨fun h=>R_eq ?_,fun h=>?_⟩
 ·unfold Qe
  simp only [Bool.not_eq_true'] at h
  rw [h];rfl
 have hb:1≤ops∧ops≤8∧1≤stages∧stages≤ops:=by
  simp only [Bool.not_eq_false',Bool.and_eq_true,QN] at h;omega
 obtain ⟨a1,a2,a3⟩:=JW (n:=ops) (k:=stages) (by omega) (by omega) (by omega)
 have a4:=Qcp (n:=ops) (k:=stages) (by omega) (by omega) (by omega)
 have k6:∀ (out:List (List Int)) (f i:Nat) (now:List Int),now.length≤8→i+f=now.length→1≤i→Jb (fun r'=>r'=QL (Qe ops stages)) ops out (fill now i f)→Qbr (fun r'=>r'=QL (Qe ops stages)) ops (i:Int) out now:=by
  intro out f
  induction f with
  | zero =>
   intro i now h1 h2 h3 hA
   refine Qj0 (fun r'=>r'=QL (Qe ops stages)) ops _ _ _ ⟨fun h=>by simp at h;omega,fun _=>?_⟩
   rw [List.take_length,List.take_length]
   exact hA
  | succ f ih =>
   intro i now h1 h2 h3 hA
   refine Qj0 (fun r'=>r'=QL (Qe ops stages)) ops _ _ _ ⟨fun _=>?_,fun h=>by simp at h;omega⟩
   have e:w64 ((i:Int)-1)=((i-1:Nat):Int):=by rw [Qr (by omega) (by omega)];omega
   rw [e,sc1 (by omega)]
   simp only [Int.toNat_natCast,Nat.zero_add]
   refine ⟨⟨⟨by omega,by omega⟩,by omega,⟨by omega,by omega⟩,by omega⟩,?_⟩
   rw [List.take_length,show List.take now.length (now.set i (w64 (gtd 0 now (i-1)+1)))=now.set i (w64 (gtd 0 now (i-1)+1)) from List.take_of_length_le (by simp)]
   exact ih (i+1) _ (by simpa using h1) (by simp;omega) (by omega) hA
 have k5:∀ (out:List (List Int)) (x:List Int),x.length≤8→(fk ops x x.length<0→out=(Qe ops stages)) →
   (0≤fk ops x x.length→Jb (fun r'=>r'=QL (Qe ops stages)) ops out (fill (x.set (fk ops x x.length).toNat (w64 (gtd 0 x (fk ops x x.length).toNat+1))) ((fk ops x x.length).toNat+1) (x.length-((fk ops x x.length).toNat+1)))) →
   ∀ j:Nat,j≤x.length→fk ops x j=fk ops x x.length→Qb8 (fun r'=>r'=QL (Qe ops stages)) ops ((j:Int)-1) out x:=by
  intro out x h1 hK hA j
  induction j with
  | zero =>
   intro _ hf
   refine Qj8 (fun r'=>r'=QL (Qe ops stages)) ops _ _ _ ⟨fun h=>by simp at h,fun h=>by simp at h,fun _=>⟨fun _=>R_eq ?_,fun h=>by simp at h⟩⟩
   rw [QbV]
   exact hK (by rw [← hf];simp [fk])
  | succ j ih =>
   intro hj hf
   have e0:((j+1:Nat):Int)-1=j:=by omega
   rw [e0]
   refine Qj8 (fun r'=>r'=QL (Qe ops stages)) ops _ _ _ ?_
   simp only [Int.toNat_natCast,Nat.zero_add]
   refine ⟨fun _=>⟨⟨by omega,by omega⟩,by omega⟩,fun h=>?_,fun h=>⟨fun h=>by simp at h;omega,fun _=>⟨⟨⟨by omega,by omega⟩,by omega,⟨by omega,by omega⟩,by omega⟩,?_⟩⟩⟩
   ·rw [List.take_length,List.take_length,Qr (x:=(j:Int)-1) (by omega) (by omega)]
    simp only [Bool.and_eq_true,beq_iff_eq] at h
    refine ih (by omega) ?_
    rw [← hf,fk,if_pos h.2]
   ·have hne:¬ gtd 0 x j=w64 (w64 (ops-(x.length:Int))+j):=by
     intro h2
     rw [h2] at h
     simp at h <;> omega
    have hfk:fk ops x x.length=j:=by rw [← hf,fk,if_neg hne]
    rw [hfk] at hA
    simp only [Int.toNat_natCast] at hA
    rw [List.take_length,sc1 (by omega),show List.take x.length (x.set j (w64 (gtd 0 x j+1)))=x.set j (w64 (gtd 0 x j+1)) from List.take_of_length_le (by simp)]
    exact k6 out (x.length-(j+1)) (j+1) _ (by simpa using h1) (by simp;omega) (by omega) (hA (by omega))
 have k3:∀ (r:List (List Int)) (out:List (List Int)) (x:List Int),Jj ops (x::r)=true→out++x::r=(Qe ops stages)→Jb (fun r'=>r'=QL (Qe ops stages)) ops out x:=by
  intro r
  induction r with
  | nil =>
   intro out x hs he
   have hx:=(a3 x (by rw [← he];simp)).2
   have hl:out.length+1≤100:=by have:=congrArg List.length he;simp at this;omega
   refine Qk5 (fun r'=>r'=QL (Qe ops stages)) ops _ _ ?_
   simp only [QbV,Qkc]
   refine ⟨⟨⟨by simp,by rw [ZP];omega⟩,⟨by simp,by rw [ZP];omega⟩⟩,?_⟩
   rw [Qal,List.take_length,Qr (by omega) (by omega)]
   refine k5 _ x (by omega) (fun _=>he) (fun h=>?_) x.length (Nat.le_refl _) rfl
   simp only [Jj,J2] at hs
   rw [if_neg (by omega)] at hs
   simp at hs
  | cons y r ih =>
   intro out x hs he
   have hx:=(a3 x (by rw [← he];simp)).2
   have hl:out.length+1≤100:=by have:=congrArg List.length he;simp at this;omega
   simp only [Jj,Bool.and_eq_true,decide_eq_true_eq] at hs
   refine Qk5 (fun r'=>r'=QL (Qe ops stages)) ops _ _ ?_
   simp only [QbV,Qkc]
   refine ⟨⟨⟨by simp,by rw [ZP];omega⟩,⟨by simp,by rw [ZP];omega⟩⟩,?_⟩
   rw [Qal,List.take_length,Qr (by omega) (by omega)]
   refine k5 _ x (by omega) (fun h=>?_) (fun h=>?_) x.length (Nat.le_refl _) rfl
   ·have h2:=hs.1
    unfold J2 at h2
    rw [if_pos h] at h2
    simp at h2
   ·have h2:=hs.1
    unfold J2 at h2
    rw [if_neg (by omega)] at h2
    rw [Option.some.inj h2]
    exact ih _ y hs.2 (by rw [← he];simp)
 have key:J9 (fun r'=>r'=QL (Qe ops stages)) ops stages (((0:Nat):Int)+1) ((List.range 0).map fun i:Nat=>(i:Int)+1):=by
  refine Qau (stages-1).toNat (fun j=>J9 (fun r'=>r'=QL (Qe ops stages)) ops stages ((j:Int)+1) ((List.range j).map fun i:Nat=>(i:Int)+1)) ?_ ?_
  ·refine Qig (fun r'=>r'=QL (Qe ops stages)) ops stages _ _ ⟨fun h=>by simp at h;omega,fun _=>?_⟩
   rw [List.take_length]
   obtain ⟨x,r,hA⟩:=List.exists_cons_of_length_pos (show 0<(Qe ops stages).length by omega)
   rw [hA] at a1 a2
   simp only [List.head?_cons,Option.some.injEq] at a2
   rw [← a2]
   exact k3 r [] x a1 hA.symm
  ·intro j hj ih
   refine Qig (fun r'=>r'=QL (Qe ops stages)) ops stages _ _ ⟨fun _=>⟨⟨.inl rfl,by rw [ZP];simp;omega⟩,?_⟩,fun h=>by simp at h;omega⟩
   rw [Qal,Qr (by omega) (by omega),show (j:Int)+1+1=((j+1:Nat):Int)+1 by omega]
   rw [List.range_succ,List.map_append] at ih
   exact ih
 exact key
theorem QrJ:Qi Try.prog Qfc:=Qn fun x _=>QlP x.1 x.2.1
def YA (t:(List Int) × Bool):TRes:=⟨(.tp [(.r [TI] 0 0 ((t.1).length)),(zcb t.2)]),[(.sl 3 [TI] (.dp 0 true []) t.1)],[],false,[]⟩
def QcQ:TRow:=Qj 59 [(.a [(.sl ctOp)]),(.c TI)] fun x=>(none,YA (QB x.1 x.2.1))
def Qa5:TTab:=⟨[Qcy,Qdd,QdN,Qcn],true⟩
def QjN:TCode :=
 (zsq [(.reg [zbi 36 .lss 35 34]),(.cond 36 .skip (.exit 0)),(.block 1 (zsq [(.reg [zia 37 33 35 [(.sl [TI])],zLd 38 37 1,zop 9 (.new 91 [(.n [TI])]),zst 9 38 1]),(.draw [zLd 39 2 1,zfa 40 9 0,zld 41 40 1,zca 42 50 [39,41],zLd 43 2 1,zmv 44 7,zca 45 50 [43,44],zbi 46 .lss 42 45] [(3,4)]),(.cond 46 (.reg [zfa 47 9 0,zld 48 47 1,zmv 7 48]) .skip)])),(.reg [zbi 49 .add 35 (zki 1),zmv 35 49])])
def Qlz:List (Nat × Md):=[(2,.b [.d]),(7,.one .d),(33,.one .d),(34,.one .d),(35,.one .d)]
def Qh9:TCode :=
 (zsq [(.reg [zmv 50 7,zca 51 121 [50],zmv 4 51,zmv 5 (zkb true)]),.ret])
def QpV:TCode :=
 (zsq [(.reg [zop 2 (.box 66 0 1),zmv 4 (.k (.n [TI])),zmv 5 (zkb false)]),(zsq [(.reg [zLd 10 2 1,zca 11 133 [10],zno 12 11,zmv 13 12,.grp 13 false [zmv 14 1,zbi 15 .lss 14 (zki 1)] 16 15,zmv 17 16,.grp 17 false [zmv 18 1,zfa 19 2 0,zld 20 19 1,zle 21 20,zbi 22 .gtr 18 21] 23 22]),(.cond 23 (zsq [(.reg [zmv 4 (.k (.n [TI])),zmv 5 (zkb false)]),.ret]) .skip)]),(.reg [zfa 24 2 0,zld 25 24 1,zle 26 25,zmv 27 1,zca 28 61 [26,27],zmv 6 28]),(.reg [zmv 29 6,zia 30 29 (zki 0) [(.sl [TI])],zfa 31 30 0,zld 32 31 1,zmv 7 32]),(zsq [(.reg [zmv 33 6,zle 34 33,zmv 35 (zki 0)]),(.block 0 (.loop Qlz QjN))]),Qh9])
def QkI:List (ARv × Md):=[(.t 4,.one (.p 3)),(.t 5,.one .d)]
def QiR:Qc:=TQ 0 0 QkI K
def QsW:Qc:=Qseq (tawp Qa5 0 Qh9 (QiR K)) (QiR K)
def Qro:Qc:=Qblk 0 (QsW K)
def JI (m:List TOp') (stages:Int) (x:Int) (best:List Int):Prop:=Loop Qa5 0 Qlz QjN (Qro K) ⟨[(2,(.p 0 0 0)),(7,(zcs [TI] best)),(33,(zcs [(.sl [TI])] (Qe (m.length:Int) stages))),(34,(zci ((Qe (m.length:Int) stages).length:Int))),(35,(zci x))],[(0,(.box [(zcs ctOp m)]))],1⟩
theorem Qg3 (m:List TOp') (stages:Int) (x:Int) (best:List Int) (h :
 (zif (decide (x<((Qe (m.length:Int) stages).length:Int))) (((0:Int)≤x∧Int.toNat x<(Qe (m.length:Int) stages).length)∧(zif (decide ((Qx m (gtd ([]:List Int) (Qe (m.length:Int) stages) (Int.toNat x)))<(Qx m best))) (JI K m stages (w64 (x+(1:Int))) (gtd ([]:List Int) (Qe (m.length:Int) stages) (Int.toNat x))) (JI K m stages (w64 (x+(1:Int))) best))) ((Yb (α:=List Int) best)∧K (YA ((List.take ((id (α:=List Int) best).length) (id (α:=List Int) best)),true))))):JI K m stages x best :=
 Loop.of (by kernel_rfl) h
theorem Qnd (m:List TOp') (stages:Int) (h :
 (zif (((!(Qq m))||(decide (stages<(1:Int))))||(decide (stages>(m.length:Int)))) (K (YA (([]:List Int),false))) (((0:Int)≤(0:Int)∧Int.toNat (0:Int)<(Qe (m.length:Int) stages).length)∧(JI K m stages 0 (gtd ([]:List Int) (Qe (m.length:Int) stages) (Int.toNat (0:Int))))))):Hold (tawp Qa5 (0+0) QpV (TQ 0 0 QkI K) (Qh [(.a [(.c (.sl ctOp) m)]),(.c TI stages)])) :=
 Hold.of (by kernel_rfl) h
theorem QsE (m:List TOp') (stages:Int):TCon Try.prog 59 [(.a [(.c (.sl ctOp) m)]),(.c TI stages)] (YA (QB m stages)):=by
 refine Ql rfl fun hb=>tcg (Γ:=Qa5) (n:=52) (sg:=QcQ.sg) Qm (TOkL.cons QiO (TOkL.cons QmV (TOkL.cons Qqp (TOkL.cons Qli TOkL.nil)))) (by kernel_rfl) (by kernel_rfl) (Qnd _ m stages ?_)
 have hl_m_0:(m).length≤9223372036854775807:=hb.1.1.1
 have hg0:(((!(Qq m))||(decide (stages<1)))||(decide (stages>m.length))) = !(Qq m&&m_in stages 1 m.length):=by
  cases Qq m
  ·rfl
  ·rw [Bool.eq_iff_iff];simp [m_in] <;> omega
 rw [hg0]
 refine ⟨fun h=>R_eq ?_,fun h=>?_⟩
 ·unfold QB
  simp only [Bool.not_eq_true'] at h
  rw [h];rfl
 simp only [Bool.not_eq_false'] at h
 have hM:(QB m stages)=(QS (Qx m) (Qe m.length stages) (gtd [] (Qe m.length stages) 0),true):=by unfold QB;rw [if_pos h]
 simp only [Bool.and_eq_true,QN] at h
 have hm:=JY h.1
 have hl:=Qcp (n:=m.length) (k:=stages) (by omega) (by omega) (by omega)
 have hs:=(JW (n:=m.length) (k:=stages) (by omega) (by omega) (by omega)).2.2
 refine ⟨⟨by omega,by simp;omega⟩,?_⟩
 refine ZF (Qe m.length stages) (fun r x=>∀ b:List Int,b∈Qe m.length stages→QS (Qx m) r b=QS (Qx m) (Qe m.length stages) (gtd [] (Qe m.length stages) 0)→JI (fun r'=>r'=YA (QB m stages)) m stages (x:Int) b) ?_ ?_ (gtd [] (Qe m.length stages) 0) (Qf2 (by omega) _) rfl
 ·intro b hb he
  have hb2:=(hs b hb).2
  refine Qg3 (fun r'=>r'=YA (QB m stages)) m stages _ _ ⟨fun h=>by simp at h,fun _=>⟨by unfold Yb;rw [Qbz];omega,R_eq ?_⟩⟩
  rw [hM,← he];simp [QS]
 ·intro k x r hk hlt hg ih b hb he
  have hx:x∈Qe m.length stages:=List.mem_of_mem_drop (by rw [hk];exact List.mem_cons_self)
  rw [QS] at he
  refine Qg3 (fun r'=>r'=YA (QB m stages)) m stages _ _ ⟨fun _=>?_,fun h=>by simp at h;omega⟩
  rw [Int.toNat_natCast,hg,sc1 (by omega)]
  refine ⟨⟨by omega,hlt⟩,fun h=>ih _ hx ?_,fun h=>ih _ hb ?_⟩
  ·rw [if_pos (by simpa using h)] at he;exact he
  ·rw [if_neg (by simpa using h)] at he;exact he
theorem QmJ:Qi Try.prog QcQ:=Qn fun x _=>QsE x.1 x.2.1
def Y0 (t:(List Int) × Bool):TRes:=zra (.tp [(zcs [TI] t.1),(zcb t.2)])
def QdL:TRow:=Qj 64 [(.a [(.sl ctOp)]),(.c TI)] fun x=>(none,Y0 (QB x.1 x.2.1))
def Qch:TTab:=⟨[QbD,Zx,Qfc,Qdz],false⟩
def QjH:TCode :=
 (zsq [(zsq [(.reg [zmv 30 8,zmv 31 6,zle 32 31,zbi 33 .lss 30 32]),(.cond 33 .skip (.exit 0))]),(.block 1 (zsq [(.draw [zLd 36 2 1,zmv 37 6,zmv 38 8,zia 39 37 38 [(.sl [TI])],zfa 40 39 0,zld 41 40 1,zca 42 62 [36,41],zLd 43 2 1,zmv 44 7,zca 45 62 [43,44],zbi 46 .lss 42 45] [(6,7)]),(.cond 46 (.reg [zmv 47 6,zmv 48 8,zia 49 47 48 [(.sl [TI])],zfa 50 49 0,zld 51 50 1,zmv 7 51]) .skip)])),(.reg [zmv 34 8,zbi 35 .add 34 (zki 1),zmv 8 35])])
def Qfw:List (Nat × Md):=[(2,.b [.d]),(6,.one .d),(7,.one .d),(8,.one .d)]
def Qjw:TCode :=
 (zsq [(.reg [zop 52 (.bsl 3 [TI] []),zmv 53 7,zop 54 (.app 52 53 3 [TI]),zmv 4 54,zmv 5 (zkb true)]),.ret])
def QnG:TCode :=
 (zsq [(.reg [zop 2 (.box 66 0 1),zmv 4 (.k (.n [TI])),zmv 5 (zkb false)]),(zsq [(.reg [zLd 9 2 1,zca 10 60 [9],zno 11 10,zmv 12 11,.grp 12 false [zmv 13 1,zfa 14 2 0,zld 15 14 1,zle 16 15,zca 17 102 [13,(zki 1),16],zno 18 17] 19 18]),(.cond 19 (zsq [(.reg [zop 20 (.bsl 3 [TI] []),zmv 4 20,zmv 5 (zkb false)]),.ret]) .skip)]),(.reg [zfa 21 2 0,zld 22 21 1,zle 23 22,zmv 24 1,zca 25 139 [23,24],zmv 6 25]),(.reg [zmv 26 6,zia 27 26 (zki 0) [(.sl [TI])],zfa 28 27 0,zld 29 28 1,zmv 7 29]),(zsq [(.reg [zmv 8 (zki 1)]),(.block 0 (.loop Qfw QjH))]),Qjw])
def Qg7:List (ARv × Md):=[(.t 4,.one .d),(.t 5,.one .d)]
def Qfi:Qc:=TQ 0 0 Qg7 K
def Qnq:Qc:=Qseq (tawp Qch 0 Qjw (Qfi K)) (Qfi K)
def QqM:Qc:=Qblk 0 (Qnq K)
def JR (m:List TOp') (stages:Int) (best:List Int) (i:Int):Prop:=Loop Qch 0 Qfw QjH (QqM K) ⟨[(2,(.p 0 0 0)),(6,(zcs [(.sl [TI])] (Qe (m.length:Int) stages))),(7,(zcs [TI] best)),(8,(zci i))],[(0,(.box [(zcs ctOp m)]))],1⟩
theorem QjT (m:List TOp') (stages:Int) (best:List Int) (i:Int) (h :
 (zif (decide (i<((Qe (m.length:Int) stages).length:Int))) (((0:Int)≤i∧Int.toNat i<(Qe (m.length:Int) stages).length)∧(zif (decide ((Qx m (gtd ([]:List Int) (Qe (m.length:Int) stages) (Int.toNat i)))<(Qx m best))) (((0:Int)≤i∧Int.toNat i<(Qe (m.length:Int) stages).length)∧(JR K m stages (gtd ([]:List Int) (Qe (m.length:Int) stages) (Int.toNat i)) (w64 (i+(1:Int))))) (JR K m stages best (w64 (i+(1:Int)))))) (((0=0∨0+best.length≤0)∧0+best.length≤big)∧K (Y0 ((List.take (0+best.length) (List.drop 0 (best:List Int))),true))))):JR K m stages best i :=
 Loop.of (by kernel_rfl) h
theorem QrW (m:List TOp') (stages:Int) (h :
 (zif ((!(Qq m))||(!(m_in stages (1:Int) (m.length:Int)))) (K (Y0 (([]:List Int),false))) (((0:Int)≤(0:Int)∧Int.toNat (0:Int)<(Qe (m.length:Int) stages).length)∧(JR K m stages (gtd ([]:List Int) (Qe (m.length:Int) stages) (Int.toNat (0:Int))) 1)))):Hold (tawp Qch (0+0) QnG (TQ 0 0 Qg7 K) (Qh [(.a [(.c (.sl ctOp) m)]),(.c TI stages)])) :=
 Hold.of (by kernel_rfl) h
theorem QpP (m:List TOp') (stages:Int):TCon Try.prog 64 [(.a [(.c (.sl ctOp) m)]),(.c TI stages)] (Y0 (QB m stages)):=by
 refine Ql rfl fun hb=>tcg (Γ:=Qch) (n:=55) (sg:=QdL.sg) Qm (TOkL.cons QfQ (TOkL.cons Yp (TOkL.cons QrJ (TOkL.cons Qqb TOkL.nil)))) (by kernel_rfl) (by kernel_rfl) (QrW _ m stages ?_)
 have hl_m_0:(m).length≤9223372036854775807:=hb.1.1.1
 have hg0:((!(Qq m))||(!(m_in stages 1 m.length))) = !(Qq m&&m_in stages 1 m.length):=by cases Qq m <;> rfl
 rw [hg0]
 refine ⟨fun h=>R_eq ?_,fun h=>?_⟩
 ·unfold QB
  simp only [Bool.not_eq_true'] at h
  rw [h];rfl
 simp only [Bool.not_eq_false'] at h
 have hM:(QB m stages)=(QS (Qx m) (Qe m.length stages) (gtd [] (Qe m.length stages) 0),true):=by unfold QB;rw [if_pos h]
 simp only [Bool.and_eq_true,QN] at h
 have hm:=JY h.1
 have hl:=Qcp (n:=m.length) (k:=stages) (by omega) (by omega) (by omega)
 have hs:=(JW (n:=m.length) (k:=stages) (by omega) (by omega) (by omega)).2.2
 refine ⟨⟨by omega,by simp;omega⟩,?_⟩
 have key:∀ (k:Nat) (r:List (List Int)) (b:List Int),(Qe m.length stages).drop k=r→k≤(Qe m.length stages).length→b∈Qe m.length stages→QS (Qx m) r b=QS (Qx m) (Qe m.length stages) (gtd [] (Qe m.length stages) 0)→JR (fun r'=>r'=Y0 (QB m stages)) m stages b (k:Int):=by
  intro k r
  induction r generalizing k with
  | nil =>
   intro b hk hkl hb he
   have hb2:=(hs b hb).2
   have hk2:(Qe m.length stages).length≤k:=by simpa using hk
   refine QjT (fun r'=>r'=Y0 (QB m stages)) m stages _ _ ⟨fun h=>by simp at h;omega,fun _=>⟨⟨by simp,by rw [ZP];omega⟩,R_eq ?_⟩⟩
   rw [hM,← he];simp [QS]
  | cons x r ih =>
   intro b hk hkl hb he
   have hx:x∈Qe m.length stages:=List.mem_of_mem_drop (by rw [hk];exact List.mem_cons_self)
   have hlt:k<(Qe m.length stages).length:=by
    have:=congrArg List.length hk;simp at this;omega
   have hd:(Qe m.length stages).drop (k+1)=r:=by rw [← List.drop_drop,hk];rfl
   have hg:=Qcf hk []
   rw [QS] at he
   refine QjT (fun r'=>r'=Y0 (QB m stages)) m stages _ _ ⟨fun _=>?_,fun h=>by simp at h;omega⟩
   rw [Int.toNat_natCast,hg,sc1 (by omega)]
   refine ⟨⟨by omega,hlt⟩,fun h=>⟨⟨by omega,hlt⟩,ih (k+1) x hd (by omega) hx ?_⟩,fun h=>ih (k+1) b hd (by omega) hb ?_⟩
   ·rw [if_pos (by simpa using h)] at he;exact he
   ·rw [if_neg (by simpa using h)] at he;exact he
 refine key 1 _ _ rfl (by omega) (Qf2 (by omega) _) ?_
 cases hA:Qe m.length stages with
 | nil=>rw [hA] at hl;simp at hl
 | cons x r=>rw [QfX,QS,if_neg (by omega)];rfl
theorem Qms:Qi Try.prog QdL:=Qn fun x _=>QpP x.1 x.2.1
end
end Go.Proofs.Ytephkbajoofeoaa.Am

