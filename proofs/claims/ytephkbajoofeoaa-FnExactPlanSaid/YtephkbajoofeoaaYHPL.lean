/- -/
import Derived.Test.YtephkbajoofeoaaYHPE
import Derived.Test.YtephkbajoofeoaaYHP1
import Derived.Test.YtephkbajoofeoaaYHG9
namespace Go.Proofs.Ytephkbajoofeoaa.Am
open Go Go.RowKit Go.Proofs.Ytephkbajoofeoaa
set_option linter.all false
noncomputable section
variable (K:TRes→Prop)
def ZY (t:(List TIns)):TRes:=⟨(.r Qb 0 0 t.length),[(.sl 151 Qb true t)],[],true,[]⟩
def Qba:TRow:=QD 107 [(.c TI),(.c TI),(.c TI)] fun x=>(some (p_st x.1 x.2.1 x.2.2.1),ZY (Qr x.1 x.2.1 x.2.2.1))
def Qcb:List TRow:=[]
def Qci:TCode :=
 (zsq [(.reg [zmv 16 7,zmv 17 2,zop 18 (.build (z0s Qb) [(0,1,(zki 2)),(1,1,17)]),zop 19 (.bsl 151 Qb [18]),zop 20 (.app 16 19 151 Qb),zmv 7 20]),(zsq [(.reg [zmv 21 1,zmv 22 0,zbi 23 .sub 22 (zki 1),zbi 24 .lss 21 23]),(.cond 24 (.reg [zmv 25 7,zmv 26 2,zop 27 (.build (z0s Qb) [(0,1,(zki 3)),(1,1,26)]),zop 28 (.bsl 151 Qb [27]),zop 29 (.app 25 28 151 Qb),zmv 7 29]) .skip)]),(.reg [zmv 30 7,zmv 6 30]),.ret])
def QfP:List (Nat × Md):=[(0,.one .d),(1,.one .d),(2,.one .d),(7,.one .f)]
def QgH:TCode:=.wk QfP Qci
def Qfk:TCode :=
 (zsq [(.reg [zmv 6 (.k (.n Qb))]),(.reg [zop 8 (.bsl 151 Qb []),zmv 7 8]),(zsq [(.reg [zmv 9 1,zbi 10 .gtr 9 (zki 0)]),(.cond 10 (.reg [zmv 11 7,zmv 12 2,zop 13 (.build (z0s Qb) [(0,1,(zki 1)),(1,1,12)]),zop 14 (.bsl 151 Qb [13]),zop 15 (.app 11 14 151 Qb),zmv 7 15]) .skip)]),QgH])
def Qdd:List (ARv × Md):=[(.t 6,.one (.o 151))]
def Qf0:Qg:=TQ 0 0 Qdd K
@[irreducible] def Y2 (stages:Int) (s:Int) (m:Int) (l:List TIns):Prop:=tawp Qcb 0 Qci (Qf0 K) ⟨[(0,(zci stages)),(1,(zci s)),(2,(zci m)),(7,(.r Qb 0 0 l.length))],[(0,(.sl 151 Qb true l))],1⟩
theorem QeU (stages:Int) (s:Int) (m:Int) (l:List TIns) (h :
 (((l.length=l.length∨l.length+1≤l.length)∧l.length+1≤big)∧(zif (decide (s<(w64 (stages-(1:Int))))) ((((l.length+1)=((List.take l.length l)++([((2:Int),m)])).length∨(l.length+1)+1≤((List.take l.length l)++([((2:Int),m)])).length)∧(l.length+1)+1≤big)∧K (ZY (List.take ((l.length+1)+1) ((List.take (l.length+1) ((List.take l.length l)++([((2:Int),m)])))++([((3:Int),m)]))))) (K (ZY (List.take (l.length+1) ((List.take l.length l)++([((2:Int),m)])))))))):Hold (Y2 K stages s m l) :=
 Hold.of (by kernel_rfl) h
theorem Qef (stages:Int) (s:Int) (m:Int) (h :
 (zif (decide (s>(0:Int))) (((0=0∨0+1≤0)∧0+1≤big)∧(Y2 K stages s m (List.take (0+1) ([((1:Int),m)]:List TIns)))) (Y2 K stages s m ([]:List TIns)))):Hold (tawp Qcb (0+0) Qfk (TQ 0 0 Qdd K) (Qw [(.c TI stages),(.c TI s),(.c TI m)])) :=
 Hold.of (by kernel_rfl) h
theorem QeX (stages:Int) (s:Int) (m:Int) (hp:p_st stages s m):TCon Try.prog 107 [(.c TI stages),(.c TI s),(.c TI m)] (ZY (Qr stages s m)):=by
 refine QI rfl fun hb=>tcg (n:=31) (sg:=Qba.sg) QH TOk.nil (by kernel_rfl) (by kernel_rfl) (Qef _ stages s m ?_)
 obtain ⟨h1,h2⟩:=hp
 have hw:w64 (stages-1)=stages-1:=QA (by omega) (by omega)
 have key:∀ l:List TIns,l.length≤1→l++[(2,m)]++(if s<stages-1 then [(3,m)] else [])=(Qr stages s m)→Y2 (fun r'=>r'=ZY (Qr stages s m)) stages s m l:=by
  intro l hl he
  refine (QeU (fun r'=>r'=ZY (Qr stages s m)) stages s m l ?_).h
  rw [hw,← he]
  simp only [YJ]
  refine ⟨⟨by simp,by rw [QT];omega⟩,fun h=>⟨⟨.inl (by simp),by rw [QT];omega⟩,R_eq ?_⟩,fun h=>R_eq ?_⟩
  ·simp at h;simp [h,List.take_of_length_le]
  ·simp at h;simp [Int.not_lt.2 h]
 refine ⟨fun h=>⟨⟨.inl rfl,by rw [QT];omega⟩,key _ (by simp) ?_⟩,fun h=>key _ (by simp) ?_⟩
 ·simp at h;simp [Qr,h]
 ·simp at h;simp [Qr,Int.not_lt.2 h]
theorem QgC:QC Try.prog Qba:=QM fun x h=>QeX x.1 x.2.1 x.2.2.1 h
def Zx (t:(List TIns)):TRes:=⟨(.r Qb 0 0 t.length),[(.sl 151 Qb true t)],[],true,[]⟩
def Qac:TRow:=QD 108 [(.c TI),(.c TI),(.c TI),(.c .bool)] fun x=>(some (Qas x.1 x.2.1 x.2.2.1 x.2.2.2.1),Zx (Qt x.1 x.2.1 x.2.2.1 x.2.2.2.1))
def Qa3:List TRow:=[]
def QdQ:TCode :=
 (zsq [(.reg [zmv 26 9,zmv 27 2,zop 28 (.build (z0s Qb) [(0,1,(zki 6)),(1,1,27)]),zop 29 (.bsl 151 Qb [28]),zop 30 (.app 26 29 151 Qb),zmv 9 30]),(zsq [(.reg [zmv 31 1,zbi 32 .gtr 31 (zki 0)]),(.cond 32 (.reg [zmv 33 9,zmv 34 2,zop 35 (.build (z0s Qb) [(0,1,(zki 7)),(1,1,34)]),zop 36 (.bsl 151 Qb [35]),zop 37 (.app 33 36 151 Qb),zmv 9 37]) .skip)]),(.reg [zmv 38 9,zmv 8 38]),.ret])
def QfI:List (Nat × Md):=[(1,.one .d),(2,.one .d),(9,.one .f)]
def Qfj:TCode:=.wk QfI QdQ
def QcD:TCode :=
 (zsq [(zsq [(.reg [zmv 20 3]),(.cond 20 (.reg [zmv 21 9,zmv 22 2,zop 23 (.build (z0s Qb) [(0,1,(zki 5)),(1,1,22)]),zop 24 (.bsl 151 Qb [23]),zop 25 (.app 21 24 151 Qb),zmv 9 25]) .skip)]),Qfj])
def QeS:List (Nat × Md):=[(1,.one .d),(2,.one .d),(3,.one .d),(9,.one .f)]
def QgN:TCode:=.wk QeS QcD
def Qe0:TCode :=
 (zsq [(.reg [zmv 8 (.k (.n Qb))]),(.reg [zop 10 (.bsl 151 Qb []),zmv 9 10]),(zsq [(.reg [zmv 11 1,zmv 12 0,zbi 13 .sub 12 (zki 1),zbi 14 .lss 11 13]),(.cond 14 (.reg [zmv 15 9,zmv 16 2,zop 17 (.build (z0s Qb) [(0,1,(zki 4)),(1,1,16)]),zop 18 (.bsl 151 Qb [17]),zop 19 (.app 15 18 151 Qb),zmv 9 19]) .skip)]),QgN])
def Qc4:List (ARv × Md):=[(.t 8,.one (.o 151))]
def QcE:Qg:=TQ 0 0 Qc4 K
@[irreducible] def Jt (s:Int) (m:Int) (l1:List TIns):Prop:=tawp Qa3 0 QdQ (QcE K) ⟨[(1,(zci s)),(2,(zci m)),(9,(.r Qb 0 0 l1.length))],[(0,(.sl 151 Qb true l1))],1⟩
@[irreducible] def JH (s:Int) (m:Int) (redo:Bool) (l:List TIns):Prop:=tawp Qa3 0 QcD (QcE K) ⟨[(1,(zci s)),(2,(zci m)),(3,(zcb redo)),(9,(.r Qb 0 0 l.length))],[(0,(.sl 151 Qb true l))],1⟩
theorem Qge (s:Int) (m:Int) (l1:List TIns) (h :
 (((l1.length=l1.length∨l1.length+1≤l1.length)∧l1.length+1≤big)∧(zif (decide (s>(0:Int))) ((((l1.length+1)=((List.take l1.length l1)++([((6:Int),m)])).length∨(l1.length+1)+1≤((List.take l1.length l1)++([((6:Int),m)])).length)∧(l1.length+1)+1≤big)∧K (Zx (List.take ((l1.length+1)+1) ((List.take (l1.length+1) ((List.take l1.length l1)++([((6:Int),m)])))++([((7:Int),m)]))))) (K (Zx (List.take (l1.length+1) ((List.take l1.length l1)++([((6:Int),m)])))))))):Hold (Jt K s m l1) :=
 Hold.of (by kernel_rfl) h
theorem Qho (s:Int) (m:Int) (redo:Bool) (l:List TIns) (h :
 (zif redo (((l.length=l.length∨l.length+1≤l.length)∧l.length+1≤big)∧(Jt K s m (List.take (l.length+1) ((List.take l.length l)++([((5:Int),m)]))))) (Jt K s m (List.take l.length l)))):Hold (JH K s m redo l) :=
 Hold.of (by kernel_rfl) h
theorem Qe9 (stages:Int) (s:Int) (m:Int) (redo:Bool) (h :
 (zif (decide (s<(w64 (stages-(1:Int))))) (((0=0∨0+1≤0)∧0+1≤big)∧(JH K s m redo (List.take (0+1) ([((4:Int),m)]:List TIns)))) (JH K s m redo ([]:List TIns)))):Hold (tawp Qa3 (0+0) Qe0 (TQ 0 0 Qc4 K) (Qw [(.c TI stages),(.c TI s),(.c TI m),(.c .bool redo)])) :=
 Hold.of (by kernel_rfl) h
theorem Qg1 (stages:Int) (s:Int) (m:Int) (redo:Bool) (hp:Qas stages s m redo):TCon Try.prog 108 [(.c TI stages),(.c TI s),(.c TI m),(.c .bool redo)] (Zx (Qt stages s m redo)):=by
 refine QI rfl fun hb=>tcg (n:=39) (sg:=Qac.sg) QH TOk.nil (by kernel_rfl) (by kernel_rfl) (Qe9 _ stages s m redo ?_)
 obtain ⟨h1,h2⟩:=hp
 have hw:w64 (stages-1)=stages-1:=QA (by omega) (by omega)
 have key2:∀ l:List TIns,l.length≤2→l++[(6,m)]++(if 0<s then [(7,m)] else [])=(Qt stages s m redo)→Jt (fun r'=>r'=Zx (Qt stages s m redo)) s m l:=by
  intro l hl he
  refine (Qge (fun r'=>r'=Zx (Qt stages s m redo)) s m l ?_).h
  rw [← he]
  simp only [YJ]
  refine ⟨⟨by simp,by rw [QT];omega⟩,fun h=>⟨⟨.inl (by simp),by rw [QT];omega⟩,R_eq ?_⟩,fun h=>R_eq ?_⟩
  ·simp at h;simp [h,List.take_of_length_le]
  ·simp at h;simp [Int.not_lt.2 h]
 have key:∀ l:List TIns,l.length≤1→l++(if redo then [(5,m)] else [])++[(6,m)]++(if 0<s then [(7,m)] else [])=(Qt stages s m redo)→JH (fun r'=>r'=Zx (Qt stages s m redo)) s m redo l:=by
  intro l hl he
  refine (Qho (fun r'=>r'=Zx (Qt stages s m redo)) s m redo l ⟨fun h=>⟨⟨.inl rfl,by rw [QT];omega⟩,key2 _ (by simp;omega) ?_⟩,fun h=>key2 _ (by simp;omega) ?_⟩).h
  ·rw [← he,YJ,h];simp
  ·rw [← he,List.take_length,h];simp
 rw [hw]
 refine ⟨fun h=>⟨⟨.inl rfl,by rw [QT];omega⟩,key _ (by simp) ?_⟩,fun h=>key _ (by simp) ?_⟩
 ·simp at h;simp [Qt,h]
 ·simp at h;simp [Qt,Int.not_lt.2 h]
theorem QhG:QC Try.prog Qac:=QM fun x h=>Qg1 x.1 x.2.1 x.2.2.1 x.2.2.2.1 h
def Z2 (t:(List TIns)):TRes:=⟨(.r Qb 0 0 t.length),[(.sl 151 Qb true t)],[],true,[.dead]⟩
def JP:TRow:=QD 104 [(.o 151 Qb),(.c TI),(.c TI),(.c TI)] fun x=>(some (p_l9 x.1 x.2.1 x.2.2.1 x.2.2.2.1),Z2 (ZE x.1 x.2.1 x.2.2.1 x.2.2.2.1))
def QgU:List TRow:=[]
def QgV:TCode :=
 (zsq [(.reg [zmv 8 (.k (.n Qb))]),(zsq [(.reg [zmv 9 2,zbi 10 .gtr 9 (zki 0)]),(.cond 10 (.reg [zmv 11 0,zmv 12 3,zop 13 (.build (z0s Qb) [(0,1,(zki 1)),(1,1,12)]),zop 14 (.bsl 151 Qb [13]),zop 15 (.app 11 14 151 Qb),zmv 0 15]) .skip)]),(.reg [zmv 16 0,zmv 17 3,zop 18 (.build (z0s Qb) [(0,1,(zki 2)),(1,1,17)]),zop 19 (.bsl 151 Qb [18]),zop 20 (.app 16 19 151 Qb),zmv 0 20]),(zsq [(.reg [zmv 21 2,zmv 22 1,zbi 23 .sub 22 (zki 1),zbi 24 .lss 21 23]),(.cond 24 (.reg [zmv 25 0,zmv 26 3,zop 27 (.build (z0s Qb) [(0,1,(zki 3)),(1,1,26)]),zop 28 (.bsl 151 Qb [27]),zop 29 (.app 25 28 151 Qb),zmv 0 29]) .skip)]),(.reg [zmv 30 0,zmv 8 30]),.ret])
def Qeg:List (ARv × Md):=[(.t 8,.one (.o 151))]
theorem QfC (l:List TIns) (stages:Int) (s:Int) (m:Int) (h :
 (zif (decide (s>(0:Int))) (((l.length=l.length∨l.length+1≤l.length)∧l.length+1≤big)∧((((l.length+1)=((List.take l.length l)++([((1:Int),m)])).length∨(l.length+1)+1≤((List.take l.length l)++([((1:Int),m)])).length)∧(l.length+1)+1≤big)∧(zif (decide (s<(w64 (stages-(1:Int))))) (((((l.length+1)+1)=((List.take (l.length+1) ((List.take l.length l)++([((1:Int),m)])))++([((2:Int),m)])).length∨((l.length+1)+1)+1≤((List.take (l.length+1) ((List.take l.length l)++([((1:Int),m)])))++([((2:Int),m)])).length)∧((l.length+1)+1)+1≤big)∧K (Z2 (List.take (((l.length+1)+1)+1) ((List.take ((l.length+1)+1) ((List.take (l.length+1) ((List.take l.length l)++([((1:Int),m)])))++([((2:Int),m)])))++([((3:Int),m)]))))) (K (Z2 (List.take ((l.length+1)+1) ((List.take (l.length+1) ((List.take l.length l)++([((1:Int),m)])))++([((2:Int),m)])))))))) (((l.length=l.length∨l.length+1≤l.length)∧l.length+1≤big)∧(zif (decide (s<(w64 (stages-(1:Int))))) ((((l.length+1)=((List.take l.length l)++([((2:Int),m)])).length∨(l.length+1)+1≤((List.take l.length l)++([((2:Int),m)])).length)∧(l.length+1)+1≤big)∧K (Z2 (List.take ((l.length+1)+1) ((List.take (l.length+1) ((List.take l.length l)++([((2:Int),m)])))++([((3:Int),m)]))))) (K (Z2 (List.take (l.length+1) ((List.take l.length l)++([((2:Int),m)]))))))))):Hold (tawp QgU (0+1) QgV (TQ 0 1 Qeg K) (Qw [(.ow 151 Qb l),(.c TI stages),(.c TI s),(.c TI m)])) :=
 Hold.of (by kernel_rfl) h
theorem Qff (l:List TIns) (stages:Int) (s:Int) (m:Int) (hp:p_l9 l stages s m):TCon Try.prog 104 [(.ow 151 Qb l),(.c TI stages),(.c TI s),(.c TI m)] (Z2 (ZE l stages s m)):=by
 refine QI rfl fun hb=>tcg (n:=31) (sg:=JP.sg) QH TOk.nil (by kernel_rfl) (by kernel_rfl) (QfC _ l stages s m ?_)
 obtain ⟨⟨h1,h2⟩,hl⟩:=hp
 have hw:w64 (stages-1)=stages-1:=QA (by omega) (by omega)
 have hb:l.length+100≤big:=by rw [QT];omega
 rw [hw]
 unfold ZE Qr
 refine ⟨fun h=>?_,fun h=>?_⟩
 all_goals
  simp at h
  first | have h0:0<s:=h | have h0:¬ 0<s:=by omega
  refine ⟨⟨.inl rfl,by omega⟩,?_⟩
  first
  | refine ⟨⟨.inl (by simp),by omega⟩,fun h3=>⟨⟨.inl (by simp),by omega⟩,R_eq ?_⟩,fun h3=>R_eq ?_⟩
  | refine ⟨fun h3=>⟨⟨.inl (by simp),by omega⟩,R_eq ?_⟩,fun h3=>R_eq ?_⟩
  all_goals
   simp at h3
   first | have h4:s<stages-1:=h3 | have h4:¬ s<stages-1:=by omega
   simp [h0,h4,List.take_of_length_le]
theorem QfV:QC Try.prog JP:=QM fun x h=>Qff x.1 x.2.1 x.2.2.1 x.2.2.2.1 h
def Q9 (t:(List TIns)):TRes:=⟨(.r Qb 0 0 t.length),[(.sl 151 Qb true t)],[],true,[.dead]⟩
def QaG:TRow:=QD 105 [(.o 151 Qb),(.c TI),(.c TI),(.c TI),(.c .bool)] fun x=>(some (QaT x.1 x.2.1 x.2.2.1 x.2.2.2.1 x.2.2.2.2.1),Q9 (Z0 x.1 x.2.1 x.2.2.1 x.2.2.2.1 x.2.2.2.2.1))
def QgX:List TRow:=[]
def QgA:TCode :=
 (zsq [(.reg [zmv 10 (.k (.n Qb))]),(zsq [(.reg [zmv 11 2,zmv 12 1,zbi 13 .sub 12 (zki 1),zbi 14 .lss 11 13]),(.cond 14 (.reg [zmv 15 0,zmv 16 3,zop 17 (.build (z0s Qb) [(0,1,(zki 4)),(1,1,16)]),zop 18 (.bsl 151 Qb [17]),zop 19 (.app 15 18 151 Qb),zmv 0 19]) .skip)]),(zsq [(.reg [zmv 20 4]),(.cond 20 (.reg [zmv 21 0,zmv 22 3,zop 23 (.build (z0s Qb) [(0,1,(zki 5)),(1,1,22)]),zop 24 (.bsl 151 Qb [23]),zop 25 (.app 21 24 151 Qb),zmv 0 25]) .skip)]),(.reg [zmv 26 0,zmv 27 3,zop 28 (.build (z0s Qb) [(0,1,(zki 6)),(1,1,27)]),zop 29 (.bsl 151 Qb [28]),zop 30 (.app 26 29 151 Qb),zmv 0 30]),(zsq [(.reg [zmv 31 2,zbi 32 .gtr 31 (zki 0)]),(.cond 32 (.reg [zmv 33 0,zmv 34 3,zop 35 (.build (z0s Qb) [(0,1,(zki 7)),(1,1,34)]),zop 36 (.bsl 151 Qb [35]),zop 37 (.app 33 36 151 Qb),zmv 0 37]) .skip)]),(.reg [zmv 38 0,zmv 10 38]),.ret])
def Qgq:List (ARv × Md):=[(.t 10,.one (.o 151))]
theorem Qg5 (l:List TIns) (stages:Int) (s:Int) (m:Int) (redo:Bool) (h :
 let z1:=List.take l.length l
 (zif (decide (s<(w64 (stages-(1:Int))))) (((l.length=l.length∨l.length+1≤l.length)∧l.length+1≤big)∧(zif redo ((((l.length+1)=(z1++([((4:Int),m)])).length∨(l.length+1)+1≤(z1++([((4:Int),m)])).length)∧(l.length+1)+1≤big)∧(((((l.length+1)+1)=((List.take (l.length+1) (z1++([((4:Int),m)])))++([((5:Int),m)])).length∨((l.length+1)+1)+1≤((List.take (l.length+1) (z1++([((4:Int),m)])))++([((5:Int),m)])).length)∧((l.length+1)+1)+1≤big)∧(zif (decide (s>(0:Int))) ((((((l.length+1)+1)+1)=((List.take ((l.length+1)+1) ((List.take (l.length+1) (z1++([((4:Int),m)])))++([((5:Int),m)])))++([((6:Int),m)])).length∨(((l.length+1)+1)+1)+1≤((List.take ((l.length+1)+1) ((List.take (l.length+1) (z1++([((4:Int),m)])))++([((5:Int),m)])))++([((6:Int),m)])).length)∧(((l.length+1)+1)+1)+1≤big)∧K (Q9 (List.take ((((l.length+1)+1)+1)+1) ((List.take (((l.length+1)+1)+1) ((List.take ((l.length+1)+1) ((List.take (l.length+1) (z1++([((4:Int),m)])))++([((5:Int),m)])))++([((6:Int),m)])))++([((7:Int),m)]))))) (K (Q9 (List.take (((l.length+1)+1)+1) ((List.take ((l.length+1)+1) ((List.take (l.length+1) (z1++([((4:Int),m)])))++([((5:Int),m)])))++([((6:Int),m)])))))))) ((((l.length+1)=(z1++([((4:Int),m)])).length∨(l.length+1)+1≤(z1++([((4:Int),m)])).length)∧(l.length+1)+1≤big)∧(zif (decide (s>(0:Int))) (((((l.length+1)+1)=((List.take (l.length+1) (z1++([((4:Int),m)])))++([((6:Int),m)])).length∨((l.length+1)+1)+1≤((List.take (l.length+1) (z1++([((4:Int),m)])))++([((6:Int),m)])).length)∧((l.length+1)+1)+1≤big)∧K (Q9 (List.take (((l.length+1)+1)+1) ((List.take ((l.length+1)+1) ((List.take (l.length+1) (z1++([((4:Int),m)])))++([((6:Int),m)])))++([((7:Int),m)]))))) (K (Q9 (List.take ((l.length+1)+1) ((List.take (l.length+1) (z1++([((4:Int),m)])))++([((6:Int),m)]))))))))) (zif redo (((l.length=l.length∨l.length+1≤l.length)∧l.length+1≤big)∧((((l.length+1)=(z1++([((5:Int),m)])).length∨(l.length+1)+1≤(z1++([((5:Int),m)])).length)∧(l.length+1)+1≤big)∧(zif (decide (s>(0:Int))) (((((l.length+1)+1)=((List.take (l.length+1) (z1++([((5:Int),m)])))++([((6:Int),m)])).length∨((l.length+1)+1)+1≤((List.take (l.length+1) (z1++([((5:Int),m)])))++([((6:Int),m)])).length)∧((l.length+1)+1)+1≤big)∧K (Q9 (List.take (((l.length+1)+1)+1) ((List.take ((l.length+1)+1) ((List.take (l.length+1) (z1++([((5:Int),m)])))++([((6:Int),m)])))++([((7:Int),m)]))))) (K (Q9 (List.take ((l.length+1)+1) ((List.take (l.length+1) (z1++([((5:Int),m)])))++([((6:Int),m)])))))))) (((l.length=l.length∨l.length+1≤l.length)∧l.length+1≤big)∧(zif (decide (s>(0:Int))) ((((l.length+1)=(z1++([((6:Int),m)])).length∨(l.length+1)+1≤(z1++([((6:Int),m)])).length)∧(l.length+1)+1≤big)∧K (Q9 (List.take ((l.length+1)+1) ((List.take (l.length+1) (z1++([((6:Int),m)])))++([((7:Int),m)]))))) (K (Q9 (List.take (l.length+1) (z1++([((6:Int),m)])))))))))):Hold (tawp QgX (0+1) QgA (TQ 0 1 Qgq K) (Qw [(.ow 151 Qb l),(.c TI stages),(.c TI s),(.c TI m),(.c .bool redo)])) :=
 Hold.of (by kernel_rfl) h
theorem QfE (l:List TIns) (stages:Int) (s:Int) (m:Int) (redo:Bool) (hp:QaT l stages s m redo):TCon Try.prog 105 [(.ow 151 Qb l),(.c TI stages),(.c TI s),(.c TI m),(.c .bool redo)] (Q9 (Z0 l stages s m redo)):=by
 refine QI rfl fun hb=>tcg (n:=39) (sg:=QaG.sg) QH TOk.nil (by kernel_rfl) (by kernel_rfl) (Qg5 _ l stages s m redo ?_)
 conv=>zeta
 obtain ⟨⟨h1,h2⟩,hl⟩:=hp
 have hw:w64 (stages-1)=stages-1:=QA (by omega) (by omega)
 have hb:l.length+100≤big:=by rw [QT];omega
 rw [hw]
 unfold Z0 Qt
 have hd:∀ k,List.take k (l++[])=List.take k l:=by intro k;rw [List.append_nil]
 by_cases c1:s<stages-1
 all_goals
  cases redo
  all_goals
   by_cases c3:0<s
   all_goals
    simp only [zif,gt_iff_lt,c1,c3,decide_true,decide_false,Bool.false_eq_true,true_implies,false_implies,true_and,and_true,reduceCtorEq,if_true,if_false,List.nil_append,List.append_nil]
    simp [zif,List.take_of_length_le,QT]
    try omega
    try exact R_eq (by simp [List.take_of_length_le])
theorem QfK:QC Try.prog QaG:=QM fun x h=>QfE x.1 x.2.1 x.2.2.1 x.2.2.2.1 x.2.2.2.2.1 h
def QU (t:(List TIns)):TRes:=⟨(.r Qb 0 0 t.length),[(.sl 151 Qb true t)],[],true,[]⟩
def Qau:TRow:=QD 18 [(.c TI),(.c TI),(.c TI),(.c TI),(.c .bool)] fun x=>(none,QU (Qp x.1 x.2.1 x.2.2.1 x.2.2.2.1 x.2.2.2.2.1))
def Zr:List TRow:=[JN,QaC,Qba,Qac]
def Qcq:TCode :=
 (zsq [(zsq [(.reg [zmv 34 13,zmv 35 11,zbi 36 .lss 34 35]),(.cond 36 .skip (.exit 0))]),(.block 1 (.reg [zmv 39 12,zmv 40 1,zmv 41 2,zmv 42 13,zca 43 107 [40,41,42],zop 44 (.app 39 43 151 Qb),zmv 12 44])),(.reg [zmv 37 13,zbi 38 .add 37 (zki 1),zmv 13 38])])
def Qbz:List (Nat × Md):=[(1,.one .d),(2,.one .d),(3,.one .d),(4,.one .d),(11,.one .d),(12,.one .f),(13,.one .d)]
def Qdk:TCode :=
 (.reg [zmv 63 12,zmv 64 1,zmv 65 2,zmv 66 14,zmv 67 4,zca 68 108 [64,65,66,67],zop 69 (.app 63 68 151 Qb),zmv 12 69])
def Qg7:List (Nat × Md):=[(1,.one .d),(2,.one .d),(3,.one .d),(4,.one .d),(11,.one .d),(12,.one .f),(14,.one .d)]
def Qhs:TCode:=.wk Qg7 Qdk
def Qcx:TCode :=
 (.reg [zmv 48 14,zbi 49 .add 48 (zki 1),zmv 14 49])
def Qay:TCode :=
 (zsq [(zsq [(.reg [zmv 45 14,zmv 46 3,zbi 47 .lss 45 46]),(.cond 47 .skip (.exit 2))]),(.block 3 (zsq [(zsq [(.reg [zmv 50 14,zmv 51 11,zbi 52 .add 50 51,zmv 53 3,zbi 54 .lss 52 53]),(.cond 54 (.reg [zmv 55 12,zmv 56 1,zmv 57 2,zmv 58 14,zmv 59 11,zbi 60 .add 58 59,zca 61 107 [56,57,60],zop 62 (.app 55 61 151 Qb),zmv 12 62]) .skip)]),Qhs])),Qcx])
def Y4:List (Nat × Md):=[(1,.one .d),(2,.one .d),(3,.one .d),(4,.one .d),(11,.one .d),(12,.one .f),(14,.one .d)]
def Qda:TCode :=
 (zsq [(.reg [zmv 70 12,zop 71 (.build (z0s Qb) [(0,1,(zki 8)),(1,1,(zki 0))]),zop 72 (.bsl 151 Qb [71]),zop 73 (.app 70 72 151 Qb),zmv 10 73]),.ret])
def Qbr:TCode :=
 (zsq [(zsq [(.reg [zmv 14 (zki 0)]),(.block 2 (.loop Y4 Qay))]),Qda])
def Qee:TCode :=
 (zsq [(.reg [zmv 10 (.k (.n Qb))]),(zsq [(.reg [zmv 15 0,zbi 16 .neq 15 (zki 1),zmv 17 16,.grp 17 true [zmv 18 0,zbi 19 .neq 18 (zki 2)] 20 19,zmv 21 20,.grp 21 false [zmv 22 1,zmv 23 2,zmv 24 3,zca 25 106 [22,23,24],zno 26 25] 27 26]),(.cond 27 (zsq [(.reg [zmv 10 (.k (.n Qb))]),.ret]) .skip)]),(.reg [zmv 28 0,zmv 29 1,zmv 30 2,zmv 31 3,zca 32 54 [28,29,30,31],zmv 11 32]),(.reg [zop 33 (.bsl 151 Qb []),zmv 12 33]),(zsq [(.reg [zmv 13 (zki 0)]),(.block 0 (.loop Qbz Qcq))]),Qbr])
def QdH:List (ARv × Md):=[(.t 10,.one (.o 151))]
def JG:Qg:=TQ 0 0 QdH K
def Qf5:Qg:=Qseq (tawp Zr 0 Qda (JG K)) (JG K)
def Qai:Qg:=Qblk 2 (Qf5 K)
def QcL:Qg:=Qseq (fun s'=>Loop Zr 0 Y4 Qay (Qai K) (gc 0 Y4 s')) (Qai K)
def Qgd:Qg:=Qseq (tawp Zr 0 Qcx (QcL K)) (QcL K)
def Qg8:Qg:=Qblk 3 (Qgd K)
@[irreducible] def Jk (ds:Int) (stages:Int) (s:Int) (micro:Int) (redo:Bool) (l1:List TIns) (m1:Int):Prop:=tawp Zr 0 Qdk (Qg8 K) ⟨[(1,(zci stages)),(2,(zci s)),(3,(zci micro)),(4,(zcb redo)),(11,(zci (Qk ds stages s micro))),(12,(.r Qb 0 0 l1.length)),(14,(zci m1))],[(0,(.sl 151 Qb true l1))],1⟩
def YI (ds:Int) (stages:Int) (s:Int) (micro:Int) (redo:Bool) (m1:Int) (l2:List TIns):Prop:=Loop Zr 0 Y4 Qay (Qai K) ⟨[(1,(zci stages)),(2,(zci s)),(3,(zci micro)),(4,(zcb redo)),(11,(zci (Qk ds stages s micro))),(12,(.r Qb 0 0 l2.length)),(14,(zci m1))],[(0,(.sl 151 Qb true l2))],1⟩
def Qep:Qg:=Qseq (tawp Zr 0 Qbr (JG K)) (JG K)
def QgQ:Qg:=Qblk 0 (Qep K)
def YS (ds:Int) (stages:Int) (s:Int) (micro:Int) (redo:Bool) (m:Int) (l:List TIns):Prop:=Loop Zr 0 Qbz Qcq (QgQ K) ⟨[(1,(zci stages)),(2,(zci s)),(3,(zci micro)),(4,(zcb redo)),(11,(zci (Qk ds stages s micro))),(12,(.r Qb 0 0 l.length)),(13,(zci m))],[(0,(.sl 151 Qb true l))],1⟩
theorem QhW (ds:Int) (stages:Int) (s:Int) (micro:Int) (redo:Bool) (l1:List TIns) (m1:Int) (h :
 (((Qas stages s m1 redo)∧((l1.length=l1.length∨l1.length+(List.take ((Qt stages s m1 redo).length) (List.drop 0 (Qt stages s m1 redo))).length≤l1.length)∧l1.length+(List.take ((Qt stages s m1 redo).length) (List.drop 0 (Qt stages s m1 redo))).length≤big))∧(YI K ds stages s micro redo (w64 (m1+(1:Int))) (List.take (l1.length+(List.take ((Qt stages s m1 redo).length) (List.drop 0 (Qt stages s m1 redo))).length) ((List.take l1.length l1)++(List.take ((Qt stages s m1 redo).length) (List.drop 0 (Qt stages s m1 redo)))))))):Hold (Jk K ds stages s micro redo l1 m1) :=
 Hold.of (by kernel_rfl) h
theorem Qd9 (ds:Int) (stages:Int) (s:Int) (micro:Int) (redo:Bool) (m1:Int) (l2:List TIns) (h :
 let z2:=w64 (m1+(Qk ds stages s micro))
 let z1:=List.take ((Qr stages s z2).length) (List.drop 0 (Qr stages s z2))
 let z3:=List.take l2.length l2
 (zif (decide (m1<micro)) (zif (decide (z2<micro)) (((p_st stages s z2)∧((l2.length=l2.length∨l2.length+z1.length≤l2.length)∧l2.length+z1.length≤big))∧(Jk K ds stages s micro redo (List.take (l2.length+z1.length) (z3++z1)) m1)) (Jk K ds stages s micro redo z3 m1)) (((l2.length=l2.length∨l2.length+1≤l2.length)∧l2.length+1≤big)∧K (QU (List.take (l2.length+1) (z3++([((8:Int),(0:Int))]))))))):YI K ds stages s micro redo m1 l2 :=
 Loop.of (by kernel_rfl) h
theorem Qcc (ds:Int) (stages:Int) (s:Int) (micro:Int) (redo:Bool) (m:Int) (l:List TIns) (h :
 (zif (decide (m<(Qk ds stages s micro))) (((p_st stages s m)∧((l.length=l.length∨l.length+(List.take ((Qr stages s m).length) (List.drop 0 (Qr stages s m))).length≤l.length)∧l.length+(List.take ((Qr stages s m).length) (List.drop 0 (Qr stages s m))).length≤big))∧(YS K ds stages s micro redo (w64 (m+(1:Int))) (List.take (l.length+(List.take ((Qr stages s m).length) (List.drop 0 (Qr stages s m))).length) ((List.take l.length l)++(List.take ((Qr stages s m).length) (List.drop 0 (Qr stages s m))))))) (YI K ds stages s micro redo 0 (List.take l.length l)))):YS K ds stages s micro redo m l :=
 Loop.of (by kernel_rfl) h
theorem Qfl (ds:Int) (stages:Int) (s:Int) (micro:Int) (redo:Bool) (h :
 (zif (((ds != (1:Int))&&(ds != (2:Int)))||(!(Qm stages s micro))) (K (QU ([]:List TIns))) (YS K ds stages s micro redo 0 ([]:List TIns)))):Hold (tawp Zr (0+0) Qee (TQ 0 0 QdH K) (Qw [(.c TI ds),(.c TI stages),(.c TI s),(.c TI micro),(.c .bool redo)])) :=
 Hold.of (by kernel_rfl) h
theorem Qer (ds:Int) (stages:Int) (s:Int) (micro:Int) (redo:Bool):TCon Try.prog 18 [(.c TI ds),(.c TI stages),(.c TI s),(.c TI micro),(.c .bool redo)] (QU (Qp ds stages s micro redo)):=by
 refine QI rfl fun hb=>tcg (n:=74) (sg:=Qau.sg) QH (TOk.cons Qcf (TOk.cons QgD (TOk.cons QgC (TOk.cons QhG TOk.nil)))) (by kernel_rfl) (by kernel_rfl) (Qfl _ ds stages s micro redo ?_)
 rw [Qet]
 by_cases hp:(m_in ds 1 2&&Qm stages s micro)=true
 case neg =>
  rw [show (m_in ds 1 2&&Qm stages s micro)=false by simpa using hp]
  exact ⟨fun _=>R_eq (Qbl hp).symm,fun h=>by simp at h⟩
 rw [hp]
 refine ⟨fun h=>by simp at h,fun _=>?_⟩
 have hq:Qm stages s micro=true:=by simp only [Bool.and_eq_true] at hp;exact hp.2
 have hr:=Jd.1 hq
 have hM:=JT (redo:=redo) hp
 obtain ⟨w,hw⟩:∃ w:Nat,Qk ds stages s micro=w:=⟨_,(Int.toNat_of_nonneg (Yq hq).1).symm⟩
 have hw5:=(Yq (ds:=ds) hq).2
 rw [hw] at hM hw5
 rw [Int.toNat_natCast] at hM
 refine Jo w (fun k=>YS (fun r'=>r'=QU (Qp ds stages s micro redo)) ds stages s micro redo (k:Int) (Q4 stages s k)) ?_ ?_
 ·refine Qcc (fun r'=>r'=QU (Qp ds stages s micro redo)) ds stages s micro redo _ _ ⟨fun h=>by simp [hw] at h,fun _=>?_⟩
  rw [List.take_length]
  suffices h:YI (fun r'=>r'=QU (Qp ds stages s micro redo)) ds stages s micro redo ((0:Nat):Int) (Q4 stages s w++Q1 stages s micro redo w 0) by
   rw [show Q1 stages s micro redo w 0=[] from rfl,List.append_nil] at h;exact h
  refine Jo micro.toNat (fun k=>YI (fun r'=>r'=QU (Qp ds stages s micro redo)) ds stages s micro redo (k:Int) (Q4 stages s w++Q1 stages s micro redo w k)) ?_ ?_
  ·have h1:=ZW stages s w
   have h2:=Yh stages s micro redo w micro.toNat
   refine Qd9 (fun r'=>r'=QU (Qp ds stages s micro redo)) ds stages s micro redo _ _ ⟨fun h=>by simp at h;omega,fun _=>⟨⟨.inl rfl,by rw [List.length_append,QT];omega⟩,R_eq ?_⟩⟩
   rw [YJ,hM]
  ·intro k hk ih
   have h1:=ZW stages s w
   have h2:=Yh stages s micro redo w k
   have key:∀ l:List TIns,l=Q4 stages s w++Q1 stages s micro redo w k++(if (k:Int)+w<micro then Qr stages s ((k:Int)+w) else [])→Jk (fun r'=>r'=QU (Qp ds stages s micro redo)) ds stages s micro redo l (k:Int):=by
    intro l hl
    have h3:=Qbj stages s k redo
    have h4:=ZD stages s ((k:Int)+w)
    have h5:l.length≤1000:=by rw [hl];split <;> simp only [List.length_append,List.length_nil] <;> omega
    refine (QhW (fun r'=>r'=QU (Qp ds stages s micro redo)) ds stages s micro redo l _ ⟨⟨⟨by omega,by omega⟩,QaO (by omega)⟩,?_⟩).h
    rw [Qa0,sc1 (by omega)]
    rw [QdK] at ih
    rw [hl,List.append_assoc,List.append_assoc]
    unfold Yl at ih
    exact ih
   refine Qd9 (fun r'=>r'=QU (Qp ds stages s micro redo)) ds stages s micro redo _ _ ⟨fun _=>?_,fun h=>by simp at h;omega⟩
   rw [hw,QA (x:=(k:Int)+w) (by omega) (by omega)]
   have h4:=ZD stages s ((k:Int)+w)
   refine ⟨fun h=>⟨⟨⟨by omega,by omega⟩,QaO (by rw [List.length_append];omega)⟩,key _ ?_⟩,fun h=>key _ ?_⟩
   ·rw [Qa0,if_pos (of_decide_eq_true h)]
   ·rw [if_neg (of_decide_eq_false h),List.take_length,List.append_nil]
 ·intro k hk ih
  have h1:=ZW stages s k
  have h4:=ZD stages s k
  refine Qcc (fun r'=>r'=QU (Qp ds stages s micro redo)) ds stages s micro redo _ _ ⟨fun _=>⟨⟨⟨by omega,by omega⟩,QaO (by omega)⟩,?_⟩,fun h=>by simp [hw] at h;omega⟩
  rw [Qa0,sc1 (by omega),← QdG]
  exact ih
theorem Qhb:QC Try.prog Qau:=QM fun x _=>Qer x.1 x.2.1 x.2.2.1 x.2.2.2.1 x.2.2.2.2.1
def QS (t:(List TIns)):TRes:=⟨(.r Qb 0 0 t.length),[(.sl 151 Qb true t)],[],true,[]⟩
def Qad:TRow:=QD 17 [(.c TI),(.c TI),(.c TI),(.c TI),(.c .bool)] fun x=>(none,QS (Qp x.1 x.2.1 x.2.2.1 x.2.2.2.1 x.2.2.2.2.1))
def ZC:List TRow:=[JE,Qbi,JP,QaG]
def Qdo:TCode :=
 (zsq [(zsq [(.reg [zmv 42 13,zmv 43 12,zbi 44 .lss 42 43]),(.cond 44 .skip (.exit 0))]),(.block 1 (.reg [zmv 47 11,zmv 48 1,zmv 49 2,zmv 50 13,zca 51 104 [47,48,49,50],zmv 11 51])),(.reg [zmv 45 13,zbi 46 .add 45 (zki 1),zmv 13 46])])
def Qdq:List (Nat × Md):=[(1,.one .d),(2,.one .d),(3,.one .d),(4,.one .d),(11,.one .f),(12,.one .d),(13,.one .d)]
def Qdn:TCode :=
 (.reg [zmv 69 11,zmv 70 1,zmv 71 2,zmv 72 14,zmv 73 4,zca 74 105 [69,70,71,72,73],zmv 11 74])
def QgM:List (Nat × Md):=[(1,.one .d),(2,.one .d),(3,.one .d),(4,.one .d),(11,.one .f),(12,.one .d),(14,.one .d)]
def Qeb:TCode:=.wk QgM Qdn
def QcB:TCode :=
 (.reg [zmv 55 14,zbi 56 .add 55 (zki 1),zmv 14 56])
def QaD:TCode :=
 (zsq [(zsq [(.reg [zmv 52 14,zmv 53 3,zbi 54 .lss 52 53]),(.cond 54 .skip (.exit 2))]),(.block 3 (zsq [(zsq [(.reg [zmv 57 12,zmv 58 14,zbi 59 .add 57 58,zmv 60 3,zbi 61 .lss 59 60]),(.cond 61 (.reg [zmv 62 11,zmv 63 1,zmv 64 2,zmv 65 12,zmv 66 14,zbi 67 .add 65 66,zca 68 104 [62,63,64,67],zmv 11 68]) .skip)]),Qeb])),QcB])
def YR:List (Nat × Md):=[(1,.one .d),(2,.one .d),(3,.one .d),(4,.one .d),(11,.one .f),(12,.one .d),(14,.one .d)]
def Qc3:TCode :=
 (zsq [(.reg [zmv 75 11,zop 76 (.build (z0s Qb) [(0,1,(zki 8))]),zop 77 (.bsl 151 Qb [76]),zop 78 (.app 75 77 151 Qb),zmv 10 78]),.ret])
def Qbx:TCode :=
 (zsq [(zsq [(.reg [zmv 14 (zki 0)]),(.block 2 (.loop YR QaD))]),Qc3])
def Qgr:TCode :=
 (zsq [(.reg [zmv 10 (.k (.n Qb))]),(.reg [zop 15 (.bsl 151 Qb []),zmv 11 15]),(zsq [(.reg [zmv 16 0,zca 17 102 [16,(zki 1),(zki 2)],zno 18 17,zmv 19 18,.grp 19 false [zmv 20 1,zca 21 102 [20,(zki 1),(zki 4)],zno 22 21] 23 22,zmv 24 23,.grp 24 false [zmv 25 2,zmv 26 1,zbi 27 .sub 26 (zki 1),zca 28 102 [25,(zki 0),27],zno 29 28] 30 29,zmv 31 30,.grp 31 false [zmv 32 3,zca 33 102 [32,(zki 1),(zki 5)],zno 34 33] 35 34]),(.cond 35 (zsq [(.reg [zmv 36 11,zmv 10 36]),.ret]) .skip)]),(.reg [zmv 37 0,zmv 38 1,zmv 39 2,zmv 40 3,zca 41 103 [37,38,39,40],zmv 12 41]),(zsq [(.reg [zmv 13 (zki 0)]),(.block 0 (.loop Qdq Qdo))]),Qbx])
def QdT:List (ARv × Md):=[(.t 10,.one (.o 151))]
def JM:Qg:=TQ 0 0 QdT K
def QhY:Qg:=Qseq (tawp ZC 0 Qc3 (JM K)) (JM K)
def Qah:Qg:=Qblk 2 (QhY K)
def Qb3:Qg:=Qseq (fun s'=>Loop ZC 0 YR QaD (Qah K) (gc 0 YR s')) (Qah K)
def Qhh:Qg:=Qseq (tawp ZC 0 QcB (Qb3 K)) (Qb3 K)
def QgW:Qg:=Qblk 3 (Qhh K)
@[irreducible] def Y6 (ds:Int) (stages:Int) (s:Int) (micro:Int) (redo:Bool) (l1:List TIns) (m1:Int):Prop:=tawp ZC 0 Qdn (QgW K) ⟨[(1,(zci stages)),(2,(zci s)),(3,(zci micro)),(4,(zcb redo)),(11,(.r Qb 0 0 l1.length)),(12,(zci (Qk ds stages s micro))),(14,(zci m1))],[(0,(.sl 151 Qb true l1))],1⟩
def Yr (ds:Int) (stages:Int) (s:Int) (micro:Int) (redo:Bool) (m1:Int) (l2:List TIns):Prop:=Loop ZC 0 YR QaD (Qah K) ⟨[(1,(zci stages)),(2,(zci s)),(3,(zci micro)),(4,(zcb redo)),(11,(.r Qb 0 0 l2.length)),(12,(zci (Qk ds stages s micro))),(14,(zci m1))],[(0,(.sl 151 Qb true l2))],1⟩
def Qfo:Qg:=Qseq (tawp ZC 0 Qbx (JM K)) (JM K)
def QeN:Qg:=Qblk 0 (Qfo K)
def Jl (ds:Int) (stages:Int) (s:Int) (micro:Int) (redo:Bool) (m:Int) (l:List TIns):Prop:=Loop ZC 0 Qdq Qdo (QeN K) ⟨[(1,(zci stages)),(2,(zci s)),(3,(zci micro)),(4,(zcb redo)),(11,(.r Qb 0 0 l.length)),(12,(zci (Qk ds stages s micro))),(13,(zci m))],[(0,(.sl 151 Qb true l))],1⟩
theorem Qeh (ds:Int) (stages:Int) (s:Int) (micro:Int) (redo:Bool) (l1:List TIns) (m1:Int) (h :
 (((l1.length=l1.length)∧(QaT l1 stages s m1 redo))∧(Yr K ds stages s micro redo (w64 (m1+(1:Int))) (List.take ((Z0 l1 stages s m1 redo).length) (Z0 l1 stages s m1 redo))))):Hold (Y6 K ds stages s micro redo l1 m1) :=
 Hold.of (by kernel_rfl) h
theorem Qds (ds:Int) (stages:Int) (s:Int) (micro:Int) (redo:Bool) (m1:Int) (l2:List TIns) (h :
 (zif (decide (m1<micro)) (zif (decide ((w64 ((Qk ds stages s micro)+m1))<micro)) (((l2.length=l2.length)∧(p_l9 l2 stages s (w64 ((Qk ds stages s micro)+m1))))∧(Y6 K ds stages s micro redo (List.take ((ZE l2 stages s (w64 ((Qk ds stages s micro)+m1))).length) (ZE l2 stages s (w64 ((Qk ds stages s micro)+m1)))) m1)) (Y6 K ds stages s micro redo (List.take l2.length l2) m1)) (((l2.length=l2.length∨l2.length+1≤l2.length)∧l2.length+1≤big)∧K (QS (List.take (l2.length+1) ((List.take l2.length l2)++([((8:Int),(0:Int))]))))))):Yr K ds stages s micro redo m1 l2 :=
 Loop.of (by kernel_rfl) h
theorem Qcm (ds:Int) (stages:Int) (s:Int) (micro:Int) (redo:Bool) (m:Int) (l:List TIns) (h :
 (zif (decide (m<(Qk ds stages s micro))) (((l.length=l.length)∧(p_l9 l stages s m))∧(Jl K ds stages s micro redo (w64 (m+(1:Int))) (List.take ((ZE l stages s m).length) (ZE l stages s m)))) (Yr K ds stages s micro redo 0 (List.take l.length l)))):Jl K ds stages s micro redo m l :=
 Loop.of (by kernel_rfl) h
theorem Qem (ds:Int) (stages:Int) (s:Int) (micro:Int) (redo:Bool) (h :
 (zif ((((!(m_in ds (1:Int) (2:Int)))||(!(m_in stages (1:Int) (4:Int))))||(!(m_in s (0:Int) (w64 (stages-(1:Int))))))||(!(m_in micro (1:Int) (5:Int)))) (K (QS ([]:List TIns))) (Jl K ds stages s micro redo 0 ([]:List TIns)))):Hold (tawp ZC (0+0) Qgr (TQ 0 0 QdT K) (Qw [(.c TI ds),(.c TI stages),(.c TI s),(.c TI micro),(.c .bool redo)])) :=
 Hold.of (by kernel_rfl) h
theorem QfN (ds:Int) (stages:Int) (s:Int) (micro:Int) (redo:Bool):TCon Try.prog 17 [(.c TI ds),(.c TI stages),(.c TI s),(.c TI micro),(.c .bool redo)] (QS (Qp ds stages s micro redo)):=by
 refine QI rfl fun hb=>tcg (n:=79) (sg:=Qad.sg) QH (TOk.cons Qbp (TOk.cons QhX (TOk.cons QfV (TOk.cons QfK TOk.nil)))) (by kernel_rfl) (by kernel_rfl) (Qem _ ds stages s micro redo ?_)
 rw [QgE]
 by_cases hp:(m_in ds 1 2&&Qm stages s micro)=true
 case neg =>
  rw [show (m_in ds 1 2&&Qm stages s micro)=false by simpa using hp]
  exact ⟨fun _=>R_eq (Qbl hp).symm,fun h=>by simp at h⟩
 rw [hp]
 refine ⟨fun h=>by simp at h,fun _=>?_⟩
 have hq:Qm stages s micro=true:=by simp only [Bool.and_eq_true] at hp;exact hp.2
 have hr:=Jd.1 hq
 have hM:=JT (redo:=redo) hp
 obtain ⟨w,hw⟩:∃ w:Nat,Qk ds stages s micro=w:=⟨_,(Int.toNat_of_nonneg (Yq hq).1).symm⟩
 have hw5:=(Yq (ds:=ds) hq).2
 rw [hw] at hM hw5
 rw [Int.toNat_natCast] at hM
 refine Jo w (fun k=>Jl (fun r'=>r'=QS (Qp ds stages s micro redo)) ds stages s micro redo (k:Int) (Q4 stages s k)) ?_ ?_
 ·refine Qcm (fun r'=>r'=QS (Qp ds stages s micro redo)) ds stages s micro redo _ _ ⟨fun h=>by simp [hw] at h,fun _=>?_⟩
  rw [List.take_length]
  suffices h:Yr (fun r'=>r'=QS (Qp ds stages s micro redo)) ds stages s micro redo ((0:Nat):Int) (Q4 stages s w++Q1 stages s micro redo w 0) by
   rw [show Q1 stages s micro redo w 0=[] from rfl,List.append_nil] at h;exact h
  refine Jo micro.toNat (fun k=>Yr (fun r'=>r'=QS (Qp ds stages s micro redo)) ds stages s micro redo (k:Int) (Q4 stages s w++Q1 stages s micro redo w k)) ?_ ?_
  ·have h1:=ZW stages s w
   have h2:=Yh stages s micro redo w micro.toNat
   refine Qds (fun r'=>r'=QS (Qp ds stages s micro redo)) ds stages s micro redo _ _ ⟨fun h=>by simp at h;omega,fun _=>⟨⟨.inl rfl,by rw [List.length_append,QT];omega⟩,R_eq ?_⟩⟩
   rw [YJ,hM]
  ·intro k hk ih
   have h1:=ZW stages s w
   have h2:=Yh stages s micro redo w k
   have key:∀ l:List TIns,l=Q4 stages s w++Q1 stages s micro redo w k++(if (k:Int)+w<micro then Qr stages s ((k:Int)+w) else [])→Y6 (fun r'=>r'=QS (Qp ds stages s micro redo)) ds stages s micro redo l (k:Int):=by
    intro l hl
    have h3:=Qbj stages s k redo
    have h4:=ZD stages s ((k:Int)+w)
    have h5:l.length≤1000:=by rw [hl];split <;> simp only [List.length_append,List.length_nil] <;> omega
    refine (Qeh (fun r'=>r'=QS (Qp ds stages s micro redo)) ds stages s micro redo l _ ⟨⟨rfl,⟨by omega,by omega⟩,by omega⟩,?_⟩).h
    rw [List.take_length,sc1 (by omega)]
    rw [QdK] at ih
    unfold Z0
    rw [hl,List.append_assoc,List.append_assoc]
    unfold Yl at ih
    exact ih
   refine Qds (fun r'=>r'=QS (Qp ds stages s micro redo)) ds stages s micro redo _ _ ⟨fun _=>?_,fun h=>by simp at h;omega⟩
   rw [hw,Int.add_comm (w:Int) k,QA (x:=(k:Int)+w) (by omega) (by omega)]
   have h4:=ZD stages s ((k:Int)+w)
   refine ⟨fun h=>⟨⟨rfl,⟨by omega,by omega⟩,by rw [List.length_append];omega⟩,key _ ?_⟩,fun h=>key _ ?_⟩
   ·rw [List.take_length,if_pos (of_decide_eq_true h)];rfl
   ·rw [if_neg (of_decide_eq_false h),List.take_length,List.append_nil]
 ·intro k hk ih
  have h1:=ZW stages s k
  have h4:=ZD stages s k
  refine Qcm (fun r'=>r'=QS (Qp ds stages s micro redo)) ds stages s micro redo _ _ ⟨fun _=>⟨⟨rfl,⟨by omega,by omega⟩,by omega⟩,?_⟩,fun h=>by simp [hw] at h;omega⟩
  rw [List.take_length,sc1 (by omega)]
  rw [QdG] at ih
  exact ih
theorem QeH:QC Try.prog Qad:=QM fun x _=>QfN x.1 x.2.1 x.2.2.1 x.2.2.2.1 x.2.2.2.2.1
end
end Go.Proofs.Ytephkbajoofeoaa.Am

