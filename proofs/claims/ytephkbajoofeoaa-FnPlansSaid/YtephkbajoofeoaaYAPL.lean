/- -/
import Derived.Test.YtephkbajoofeoaaYAPE
import Derived.Test.YtephkbajoofeoaaYAP1
import Derived.Test.YtephkbajoofeoaaYAG9
namespace Go.Proofs.Ytephkbajoofeoaa.Am
open Go Go.RowKit Go.Proofs.Ytephkbajoofeoaa
set_option linter.all false
noncomputable section
variable (K:TRes→Prop)
def YH (t:(List TIns)):TRes:=⟨(.r Qb 0 0 t.length),[(.sl 151 Qb true t)],[],true,[]⟩
def Qag:TRow:=Qy 107 [(.c TI),(.c TI),(.c TI)] fun x=>(some (p_st x.1 x.2.1 x.2.2.1),YH (Qg x.1 x.2.1 x.2.2.1))
def Qfg:List TRow:=[]
def QgO:TCode :=
 (zsq [(.reg [zmv 16 7,zmv 17 2,zop 18 (.build (z0s Qb) [(0,1,(zki 2)),(1,1,17)]),zop 19 (.bsl 151 Qb [18]),zop 20 (.app 16 19 151 Qb),zmv 7 20]),(zsq [(.reg [zmv 21 1,zmv 22 0,zbi 23 .sub 22 (zki 1),zbi 24 .lss 21 23]),(.cond 24 (.reg [zmv 25 7,zmv 26 2,zop 27 (.build (z0s Qb) [(0,1,(zki 3)),(1,1,26)]),zop 28 (.bsl 151 Qb [27]),zop 29 (.app 25 28 151 Qb),zmv 7 29]) .skip)]),(.reg [zmv 30 7,zmv 6 30]),.ret])
def QhT:List (Nat × Md):=[(0,.one .d),(1,.one .d),(2,.one .d),(7,.one .f)]
def QhP:TCode:=.wk QhT QgO
def Qj8:TCode :=
 (zsq [(.reg [zmv 6 (.k (.n Qb))]),(.reg [zop 8 (.bsl 151 Qb []),zmv 7 8]),(zsq [(.reg [zmv 9 1,zbi 10 .gtr 9 (zki 0)]),(.cond 10 (.reg [zmv 11 7,zmv 12 2,zop 13 (.build (z0s Qb) [(0,1,(zki 1)),(1,1,12)]),zop 14 (.bsl 151 Qb [13]),zop 15 (.app 11 14 151 Qb),zmv 7 15]) .skip)]),QhP])
def Qc4:List (ARv × Md):=[(.t 6,.one (.o 151))]
def Qjb:Qd:=TQ 0 0 Qc4 K
@[irreducible] def Qa1 (stages:Int) (s:Int) (m:Int) (l:List TIns):Prop:=tawp Qfg 0 QgO (Qjb K) ⟨[(0,(zci stages)),(1,(zci s)),(2,(zci m)),(7,(.r Qb 0 0 l.length))],[(0,(.sl 151 Qb true l))],1⟩
theorem Qhh (stages:Int) (s:Int) (m:Int) (l:List TIns) (h :
 (((l.length=l.length∨l.length+1≤l.length)∧l.length+1≤big)∧(zif (decide (s<(w64 (stages-(1:Int))))) ((((l.length+1)=((List.take l.length l)++([((2:Int),m)])).length∨(l.length+1)+1≤((List.take l.length l)++([((2:Int),m)])).length)∧(l.length+1)+1≤big)∧K (YH (List.take ((l.length+1)+1) ((List.take (l.length+1) ((List.take l.length l)++([((2:Int),m)])))++([((3:Int),m)]))))) (K (YH (List.take (l.length+1) ((List.take l.length l)++([((2:Int),m)])))))))):Hold (Qa1 K stages s m l) :=
 Hold.of (by kernel_rfl) h
theorem Ql0 (stages:Int) (s:Int) (m:Int) (h :
 (zif (decide (s>(0:Int))) (((0=0∨0+1≤0)∧0+1≤big)∧(Qa1 K stages s m (List.take (0+1) ([((1:Int),m)]:List TIns)))) (Qa1 K stages s m ([]:List TIns)))):Hold (tawp Qfg (0+0) Qj8 (TQ 0 0 Qc4 K) (Qn [(.c TI stages),(.c TI s),(.c TI m)])) :=
 Hold.of (by kernel_rfl) h
theorem Qie (stages:Int) (s:Int) (m:Int) (hp:p_st stages s m):TCon Try.prog 107 [(.c TI stages),(.c TI s),(.c TI m)] (YH (Qg stages s m)):=by
 refine QN rfl fun hb=>tcg (n:=31) (sg:=Qag.sg) QC TOk.nil (by kernel_rfl) (by kernel_rfl) (Ql0 _ stages s m ?_)
 obtain ⟨h1,h2⟩:=hp
 have hw:w64 (stages-1)=stages-1:=Qk (by omega) (by omega)
 have key:∀ l:List TIns,l.length≤1→l++[(2,m)]++(if s<stages-1 then [(3,m)] else [])=(Qg stages s m)→Qa1 (fun r'=>r'=YH (Qg stages s m)) stages s m l:=by
  intro l hl he
  refine (Qhh (fun r'=>r'=YH (Qg stages s m)) stages s m l ?_).h
  rw [hw,← he]
  simp only [YQ]
  refine ⟨⟨by simp,by rw [Q0];omega⟩,fun h=>⟨⟨.inl (by simp),by rw [Q0];omega⟩,R_eq ?_⟩,fun h=>R_eq ?_⟩
  ·simp at h;simp [h,List.take_of_length_le]
  ·simp at h;simp [Int.not_lt.2 h]
 refine ⟨fun h=>⟨⟨.inl rfl,by rw [Q0];omega⟩,key _ (by simp) ?_⟩,fun h=>key _ (by simp) ?_⟩
 ·simp at h;simp [Qg,h]
 ·simp at h;simp [Qg,Int.not_lt.2 h]
theorem Qdf:Qx Try.prog Qag:=QD fun x h=>Qie x.1 x.2.1 x.2.2.1 h
def ZR (t:(List TIns)):TRes:=⟨(.r Qb 0 0 t.length),[(.sl 151 Qb true t)],[],true,[]⟩
def Qaj:TRow:=Qy 108 [(.c TI),(.c TI),(.c TI),(.c .bool)] fun x=>(some (Qab x.1 x.2.1 x.2.2.1 x.2.2.2.1),ZR (Ql x.1 x.2.1 x.2.2.1 x.2.2.2.1))
def Qbt:List TRow:=[]
def QdW:TCode :=
 (zsq [(.reg [zmv 26 9,zmv 27 2,zop 28 (.build (z0s Qb) [(0,1,(zki 6)),(1,1,27)]),zop 29 (.bsl 151 Qb [28]),zop 30 (.app 26 29 151 Qb),zmv 9 30]),(zsq [(.reg [zmv 31 1,zbi 32 .gtr 31 (zki 0)]),(.cond 32 (.reg [zmv 33 9,zmv 34 2,zop 35 (.build (z0s Qb) [(0,1,(zki 7)),(1,1,34)]),zop 36 (.bsl 151 Qb [35]),zop 37 (.app 33 36 151 Qb),zmv 9 37]) .skip)]),(.reg [zmv 38 9,zmv 8 38]),.ret])
def Qiu:List (Nat × Md):=[(1,.one .d),(2,.one .d),(9,.one .f)]
def QjF:TCode:=.wk Qiu QdW
def QgV:TCode :=
 (zsq [(zsq [(.reg [zmv 20 3]),(.cond 20 (.reg [zmv 21 9,zmv 22 2,zop 23 (.build (z0s Qb) [(0,1,(zki 5)),(1,1,22)]),zop 24 (.bsl 151 Qb [23]),zop 25 (.app 21 24 151 Qb),zmv 9 25]) .skip)]),QjF])
def Qjf:List (Nat × Md):=[(1,.one .d),(2,.one .d),(3,.one .d),(9,.one .f)]
def Qkx:TCode:=.wk Qjf QgV
def Qif:TCode :=
 (zsq [(.reg [zmv 8 (.k (.n Qb))]),(.reg [zop 10 (.bsl 151 Qb []),zmv 9 10]),(zsq [(.reg [zmv 11 1,zmv 12 0,zbi 13 .sub 12 (zki 1),zbi 14 .lss 11 13]),(.cond 14 (.reg [zmv 15 9,zmv 16 2,zop 17 (.build (z0s Qb) [(0,1,(zki 4)),(1,1,16)]),zop 18 (.bsl 151 Qb [17]),zop 19 (.app 15 18 151 Qb),zmv 9 19]) .skip)]),Qkx])
def Qfj:List (ARv × Md):=[(.t 8,.one (.o 151))]
def QeS:Qd:=TQ 0 0 Qfj K
@[irreducible] def JX (s:Int) (m:Int) (l1:List TIns):Prop:=tawp Qbt 0 QdW (QeS K) ⟨[(1,(zci s)),(2,(zci m)),(9,(.r Qb 0 0 l1.length))],[(0,(.sl 151 Qb true l1))],1⟩
@[irreducible] def JK (s:Int) (m:Int) (redo:Bool) (l:List TIns):Prop:=tawp Qbt 0 QgV (QeS K) ⟨[(1,(zci s)),(2,(zci m)),(3,(zcb redo)),(9,(.r Qb 0 0 l.length))],[(0,(.sl 151 Qb true l))],1⟩
theorem QkQ (s:Int) (m:Int) (l1:List TIns) (h :
 (((l1.length=l1.length∨l1.length+1≤l1.length)∧l1.length+1≤big)∧(zif (decide (s>(0:Int))) ((((l1.length+1)=((List.take l1.length l1)++([((6:Int),m)])).length∨(l1.length+1)+1≤((List.take l1.length l1)++([((6:Int),m)])).length)∧(l1.length+1)+1≤big)∧K (ZR (List.take ((l1.length+1)+1) ((List.take (l1.length+1) ((List.take l1.length l1)++([((6:Int),m)])))++([((7:Int),m)]))))) (K (ZR (List.take (l1.length+1) ((List.take l1.length l1)++([((6:Int),m)])))))))):Hold (JX K s m l1) :=
 Hold.of (by kernel_rfl) h
theorem QjV (s:Int) (m:Int) (redo:Bool) (l:List TIns) (h :
 (zif redo (((l.length=l.length∨l.length+1≤l.length)∧l.length+1≤big)∧(JX K s m (List.take (l.length+1) ((List.take l.length l)++([((5:Int),m)]))))) (JX K s m (List.take l.length l)))):Hold (JK K s m redo l) :=
 Hold.of (by kernel_rfl) h
theorem QiX (stages:Int) (s:Int) (m:Int) (redo:Bool) (h :
 (zif (decide (s<(w64 (stages-(1:Int))))) (((0=0∨0+1≤0)∧0+1≤big)∧(JK K s m redo (List.take (0+1) ([((4:Int),m)]:List TIns)))) (JK K s m redo ([]:List TIns)))):Hold (tawp Qbt (0+0) Qif (TQ 0 0 Qfj K) (Qn [(.c TI stages),(.c TI s),(.c TI m),(.c .bool redo)])) :=
 Hold.of (by kernel_rfl) h
theorem Qi8 (stages:Int) (s:Int) (m:Int) (redo:Bool) (hp:Qab stages s m redo):TCon Try.prog 108 [(.c TI stages),(.c TI s),(.c TI m),(.c .bool redo)] (ZR (Ql stages s m redo)):=by
 refine QN rfl fun hb=>tcg (n:=39) (sg:=Qaj.sg) QC TOk.nil (by kernel_rfl) (by kernel_rfl) (QiX _ stages s m redo ?_)
 obtain ⟨h1,h2⟩:=hp
 have hw:w64 (stages-1)=stages-1:=Qk (by omega) (by omega)
 have key2:∀ l:List TIns,l.length≤2→l++[(6,m)]++(if 0<s then [(7,m)] else [])=(Ql stages s m redo)→JX (fun r'=>r'=ZR (Ql stages s m redo)) s m l:=by
  intro l hl he
  refine (QkQ (fun r'=>r'=ZR (Ql stages s m redo)) s m l ?_).h
  rw [← he]
  simp only [YQ]
  refine ⟨⟨by simp,by rw [Q0];omega⟩,fun h=>⟨⟨.inl (by simp),by rw [Q0];omega⟩,R_eq ?_⟩,fun h=>R_eq ?_⟩
  ·simp at h;simp [h,List.take_of_length_le]
  ·simp at h;simp [Int.not_lt.2 h]
 have key:∀ l:List TIns,l.length≤1→l++(if redo then [(5,m)] else [])++[(6,m)]++(if 0<s then [(7,m)] else [])=(Ql stages s m redo)→JK (fun r'=>r'=ZR (Ql stages s m redo)) s m redo l:=by
  intro l hl he
  refine (QjV (fun r'=>r'=ZR (Ql stages s m redo)) s m redo l ⟨fun h=>⟨⟨.inl rfl,by rw [Q0];omega⟩,key2 _ (by simp;omega) ?_⟩,fun h=>key2 _ (by simp;omega) ?_⟩).h
  ·rw [← he,YQ,h];simp
  ·rw [← he,List.take_length,h];simp
 rw [hw]
 refine ⟨fun h=>⟨⟨.inl rfl,by rw [Q0];omega⟩,key _ (by simp) ?_⟩,fun h=>key _ (by simp) ?_⟩
 ·simp at h;simp [Ql,h]
 ·simp at h;simp [Ql,Int.not_lt.2 h]
theorem Qf5:Qx Try.prog Qaj:=QD fun x h=>Qi8 x.1 x.2.1 x.2.2.1 x.2.2.2.1 h
def YZ (t:(List TIns)):TRes:=⟨(.r Qb 0 0 t.length),[(.sl 151 Qb true t)],[],true,[.dead]⟩
def JV:TRow:=Qy 104 [(.o 151 Qb),(.c TI),(.c TI),(.c TI)] fun x=>(some (p_l9 x.1 x.2.1 x.2.2.1 x.2.2.2.1),YZ (Q8 x.1 x.2.1 x.2.2.1 x.2.2.2.1))
def Qlq:List TRow:=[]
def Qjc:TCode :=
 (zsq [(.reg [zmv 8 (.k (.n Qb))]),(zsq [(.reg [zmv 9 2,zbi 10 .gtr 9 (zki 0)]),(.cond 10 (.reg [zmv 11 0,zmv 12 3,zop 13 (.build (z0s Qb) [(0,1,(zki 1)),(1,1,12)]),zop 14 (.bsl 151 Qb [13]),zop 15 (.app 11 14 151 Qb),zmv 0 15]) .skip)]),(.reg [zmv 16 0,zmv 17 3,zop 18 (.build (z0s Qb) [(0,1,(zki 2)),(1,1,17)]),zop 19 (.bsl 151 Qb [18]),zop 20 (.app 16 19 151 Qb),zmv 0 20]),(zsq [(.reg [zmv 21 2,zmv 22 1,zbi 23 .sub 22 (zki 1),zbi 24 .lss 21 23]),(.cond 24 (.reg [zmv 25 0,zmv 26 3,zop 27 (.build (z0s Qb) [(0,1,(zki 3)),(1,1,26)]),zop 28 (.bsl 151 Qb [27]),zop 29 (.app 25 28 151 Qb),zmv 0 29]) .skip)]),(.reg [zmv 30 0,zmv 8 30]),.ret])
def Qlt:List (ARv × Md):=[(.t 8,.one (.o 151))]
theorem QiF (l:List TIns) (stages:Int) (s:Int) (m:Int) (h :
 (zif (decide (s>(0:Int))) (((l.length=l.length∨l.length+1≤l.length)∧l.length+1≤big)∧((((l.length+1)=((List.take l.length l)++([((1:Int),m)])).length∨(l.length+1)+1≤((List.take l.length l)++([((1:Int),m)])).length)∧(l.length+1)+1≤big)∧(zif (decide (s<(w64 (stages-(1:Int))))) (((((l.length+1)+1)=((List.take (l.length+1) ((List.take l.length l)++([((1:Int),m)])))++([((2:Int),m)])).length∨((l.length+1)+1)+1≤((List.take (l.length+1) ((List.take l.length l)++([((1:Int),m)])))++([((2:Int),m)])).length)∧((l.length+1)+1)+1≤big)∧K (YZ (List.take (((l.length+1)+1)+1) ((List.take ((l.length+1)+1) ((List.take (l.length+1) ((List.take l.length l)++([((1:Int),m)])))++([((2:Int),m)])))++([((3:Int),m)]))))) (K (YZ (List.take ((l.length+1)+1) ((List.take (l.length+1) ((List.take l.length l)++([((1:Int),m)])))++([((2:Int),m)])))))))) (((l.length=l.length∨l.length+1≤l.length)∧l.length+1≤big)∧(zif (decide (s<(w64 (stages-(1:Int))))) ((((l.length+1)=((List.take l.length l)++([((2:Int),m)])).length∨(l.length+1)+1≤((List.take l.length l)++([((2:Int),m)])).length)∧(l.length+1)+1≤big)∧K (YZ (List.take ((l.length+1)+1) ((List.take (l.length+1) ((List.take l.length l)++([((2:Int),m)])))++([((3:Int),m)]))))) (K (YZ (List.take (l.length+1) ((List.take l.length l)++([((2:Int),m)]))))))))):Hold (tawp Qlq (0+1) Qjc (TQ 0 1 Qlt K) (Qn [(.ow 151 Qb l),(.c TI stages),(.c TI s),(.c TI m)])) :=
 Hold.of (by kernel_rfl) h
theorem QlH (l:List TIns) (stages:Int) (s:Int) (m:Int) (hp:p_l9 l stages s m):TCon Try.prog 104 [(.ow 151 Qb l),(.c TI stages),(.c TI s),(.c TI m)] (YZ (Q8 l stages s m)):=by
 refine QN rfl fun hb=>tcg (n:=31) (sg:=JV.sg) QC TOk.nil (by kernel_rfl) (by kernel_rfl) (QiF _ l stages s m ?_)
 obtain ⟨⟨h1,h2⟩,hl⟩:=hp
 have hw:w64 (stages-1)=stages-1:=Qk (by omega) (by omega)
 have hb:l.length+100≤big:=by rw [Q0];omega
 rw [hw]
 unfold Q8 Qg
 refine ⟨fun h=>?_,fun h=>?_⟩
 all_goals
  simp at h
  first | have h0:0<s:=h | have h0:¬ 0<s:=by omega
  refine ⟨⟨.inl rfl,by omega⟩,?_⟩
  first
  | refine ⟨⟨.inl (by simp),by omega⟩,fun h3=>⟨⟨.inl (by simp),by omega⟩,R_eq ?_⟩,fun h3=>R_eq ?_⟩
  | refine ⟨fun h3=>⟨⟨.inl (by simp),by omega⟩,R_eq ?_⟩,fun h3=>R_eq ?_⟩
  all_goals
   simp at h3
   first | have h4:s<stages-1:=h3 | have h4:¬ s<stages-1:=by omega
   simp [h0,h4,List.take_of_length_le]
theorem QeG:Qx Try.prog JV:=QD fun x h=>QlH x.1 x.2.1 x.2.2.1 x.2.2.2.1 h
def Zt (t:(List TIns)):TRes:=⟨(.r Qb 0 0 t.length),[(.sl 151 Qb true t)],[],true,[.dead]⟩
def QaP:TRow:=Qy 105 [(.o 151 Qb),(.c TI),(.c TI),(.c TI),(.c .bool)] fun x=>(some (JT x.1 x.2.1 x.2.2.1 x.2.2.2.1 x.2.2.2.2.1),Zt (ZM x.1 x.2.1 x.2.2.1 x.2.2.2.1 x.2.2.2.2.1))
def QgZ:List TRow:=[]
def Qkb:TCode :=
 (zsq [(.reg [zmv 10 (.k (.n Qb))]),(zsq [(.reg [zmv 11 2,zmv 12 1,zbi 13 .sub 12 (zki 1),zbi 14 .lss 11 13]),(.cond 14 (.reg [zmv 15 0,zmv 16 3,zop 17 (.build (z0s Qb) [(0,1,(zki 4)),(1,1,16)]),zop 18 (.bsl 151 Qb [17]),zop 19 (.app 15 18 151 Qb),zmv 0 19]) .skip)]),(zsq [(.reg [zmv 20 4]),(.cond 20 (.reg [zmv 21 0,zmv 22 3,zop 23 (.build (z0s Qb) [(0,1,(zki 5)),(1,1,22)]),zop 24 (.bsl 151 Qb [23]),zop 25 (.app 21 24 151 Qb),zmv 0 25]) .skip)]),(.reg [zmv 26 0,zmv 27 3,zop 28 (.build (z0s Qb) [(0,1,(zki 6)),(1,1,27)]),zop 29 (.bsl 151 Qb [28]),zop 30 (.app 26 29 151 Qb),zmv 0 30]),(zsq [(.reg [zmv 31 2,zbi 32 .gtr 31 (zki 0)]),(.cond 32 (.reg [zmv 33 0,zmv 34 3,zop 35 (.build (z0s Qb) [(0,1,(zki 7)),(1,1,34)]),zop 36 (.bsl 151 Qb [35]),zop 37 (.app 33 36 151 Qb),zmv 0 37]) .skip)]),(.reg [zmv 38 0,zmv 10 38]),.ret])
def QkH:List (ARv × Md):=[(.t 10,.one (.o 151))]
theorem QkT (l:List TIns) (stages:Int) (s:Int) (m:Int) (redo:Bool) (h :
 let z1:=List.take l.length l
 (zif (decide (s<(w64 (stages-(1:Int))))) (((l.length=l.length∨l.length+1≤l.length)∧l.length+1≤big)∧(zif redo ((((l.length+1)=(z1++([((4:Int),m)])).length∨(l.length+1)+1≤(z1++([((4:Int),m)])).length)∧(l.length+1)+1≤big)∧(((((l.length+1)+1)=((List.take (l.length+1) (z1++([((4:Int),m)])))++([((5:Int),m)])).length∨((l.length+1)+1)+1≤((List.take (l.length+1) (z1++([((4:Int),m)])))++([((5:Int),m)])).length)∧((l.length+1)+1)+1≤big)∧(zif (decide (s>(0:Int))) ((((((l.length+1)+1)+1)=((List.take ((l.length+1)+1) ((List.take (l.length+1) (z1++([((4:Int),m)])))++([((5:Int),m)])))++([((6:Int),m)])).length∨(((l.length+1)+1)+1)+1≤((List.take ((l.length+1)+1) ((List.take (l.length+1) (z1++([((4:Int),m)])))++([((5:Int),m)])))++([((6:Int),m)])).length)∧(((l.length+1)+1)+1)+1≤big)∧K (Zt (List.take ((((l.length+1)+1)+1)+1) ((List.take (((l.length+1)+1)+1) ((List.take ((l.length+1)+1) ((List.take (l.length+1) (z1++([((4:Int),m)])))++([((5:Int),m)])))++([((6:Int),m)])))++([((7:Int),m)]))))) (K (Zt (List.take (((l.length+1)+1)+1) ((List.take ((l.length+1)+1) ((List.take (l.length+1) (z1++([((4:Int),m)])))++([((5:Int),m)])))++([((6:Int),m)])))))))) ((((l.length+1)=(z1++([((4:Int),m)])).length∨(l.length+1)+1≤(z1++([((4:Int),m)])).length)∧(l.length+1)+1≤big)∧(zif (decide (s>(0:Int))) (((((l.length+1)+1)=((List.take (l.length+1) (z1++([((4:Int),m)])))++([((6:Int),m)])).length∨((l.length+1)+1)+1≤((List.take (l.length+1) (z1++([((4:Int),m)])))++([((6:Int),m)])).length)∧((l.length+1)+1)+1≤big)∧K (Zt (List.take (((l.length+1)+1)+1) ((List.take ((l.length+1)+1) ((List.take (l.length+1) (z1++([((4:Int),m)])))++([((6:Int),m)])))++([((7:Int),m)]))))) (K (Zt (List.take ((l.length+1)+1) ((List.take (l.length+1) (z1++([((4:Int),m)])))++([((6:Int),m)]))))))))) (zif redo (((l.length=l.length∨l.length+1≤l.length)∧l.length+1≤big)∧((((l.length+1)=(z1++([((5:Int),m)])).length∨(l.length+1)+1≤(z1++([((5:Int),m)])).length)∧(l.length+1)+1≤big)∧(zif (decide (s>(0:Int))) (((((l.length+1)+1)=((List.take (l.length+1) (z1++([((5:Int),m)])))++([((6:Int),m)])).length∨((l.length+1)+1)+1≤((List.take (l.length+1) (z1++([((5:Int),m)])))++([((6:Int),m)])).length)∧((l.length+1)+1)+1≤big)∧K (Zt (List.take (((l.length+1)+1)+1) ((List.take ((l.length+1)+1) ((List.take (l.length+1) (z1++([((5:Int),m)])))++([((6:Int),m)])))++([((7:Int),m)]))))) (K (Zt (List.take ((l.length+1)+1) ((List.take (l.length+1) (z1++([((5:Int),m)])))++([((6:Int),m)])))))))) (((l.length=l.length∨l.length+1≤l.length)∧l.length+1≤big)∧(zif (decide (s>(0:Int))) ((((l.length+1)=(z1++([((6:Int),m)])).length∨(l.length+1)+1≤(z1++([((6:Int),m)])).length)∧(l.length+1)+1≤big)∧K (Zt (List.take ((l.length+1)+1) ((List.take (l.length+1) (z1++([((6:Int),m)])))++([((7:Int),m)]))))) (K (Zt (List.take (l.length+1) (z1++([((6:Int),m)])))))))))):Hold (tawp QgZ (0+1) Qkb (TQ 0 1 QkH K) (Qn [(.ow 151 Qb l),(.c TI stages),(.c TI s),(.c TI m),(.c .bool redo)])) :=
 Hold.of (by kernel_rfl) h
theorem QlB (l:List TIns) (stages:Int) (s:Int) (m:Int) (redo:Bool) (hp:JT l stages s m redo):TCon Try.prog 105 [(.ow 151 Qb l),(.c TI stages),(.c TI s),(.c TI m),(.c .bool redo)] (Zt (ZM l stages s m redo)):=by
 refine QN rfl fun hb=>tcg (n:=39) (sg:=QaP.sg) QC TOk.nil (by kernel_rfl) (by kernel_rfl) (QkT _ l stages s m redo ?_)
 conv=>zeta
 obtain ⟨⟨h1,h2⟩,hl⟩:=hp
 have hw:w64 (stages-1)=stages-1:=Qk (by omega) (by omega)
 have hb:l.length+100≤big:=by rw [Q0];omega
 rw [hw]
 unfold ZM Ql
 have hd:∀ k,List.take k (l++[])=List.take k l:=by intro k;rw [List.append_nil]
 by_cases c1:s<stages-1
 all_goals
  cases redo
  all_goals
   by_cases c3:0<s
   all_goals
    simp only [zif,gt_iff_lt,c1,c3,decide_true,decide_false,Bool.false_eq_true,true_implies,false_implies,true_and,and_true,reduceCtorEq,if_true,if_false,List.nil_append,List.append_nil]
    simp [zif,List.take_of_length_le,Q0]
    try omega
    try exact R_eq (by simp [List.take_of_length_le])
theorem QdI:Qx Try.prog QaP:=QD fun x h=>QlB x.1 x.2.1 x.2.2.1 x.2.2.2.1 x.2.2.2.2.1 h
def Zc (t:(List TIns)):TRes:=⟨(.r Qb 0 0 t.length),[(.sl 151 Qb true t)],[],true,[]⟩
def Qcq:TRow:=Qy 18 [(.c TI),(.c TI),(.c TI),(.c TI),(.c .bool)] fun x=>(none,Zc (Qs x.1 x.2.1 x.2.2.1 x.2.2.2.1 x.2.2.2.2.1))
def ZO:List TRow:=[JE,QaX,Qag,Qaj]
def QgT:TCode :=
 (zsq [(zsq [(.reg [zmv 34 13,zmv 35 11,zbi 36 .lss 34 35]),(.cond 36 .skip (.exit 0))]),(.block 1 (.reg [zmv 39 12,zmv 40 1,zmv 41 2,zmv 42 13,zca 43 107 [40,41,42],zop 44 (.app 39 43 151 Qb),zmv 12 44])),(.reg [zmv 37 13,zbi 38 .add 37 (zki 1),zmv 13 38])])
def Qfi:List (Nat × Md):=[(1,.one .d),(2,.one .d),(3,.one .d),(4,.one .d),(11,.one .d),(12,.one .f),(13,.one .d)]
def Qeq:TCode :=
 (.reg [zmv 63 12,zmv 64 1,zmv 65 2,zmv 66 14,zmv 67 4,zca 68 108 [64,65,66,67],zop 69 (.app 63 68 151 Qb),zmv 12 69])
def QhG:List (Nat × Md):=[(1,.one .d),(2,.one .d),(3,.one .d),(4,.one .d),(11,.one .d),(12,.one .f),(14,.one .d)]
def QhR:TCode:=.wk QhG Qeq
def QeJ:TCode :=
 (.reg [zmv 48 14,zbi 49 .add 48 (zki 1),zmv 14 49])
def QcH:TCode :=
 (zsq [(zsq [(.reg [zmv 45 14,zmv 46 3,zbi 47 .lss 45 46]),(.cond 47 .skip (.exit 2))]),(.block 3 (zsq [(zsq [(.reg [zmv 50 14,zmv 51 11,zbi 52 .add 50 51,zmv 53 3,zbi 54 .lss 52 53]),(.cond 54 (.reg [zmv 55 12,zmv 56 1,zmv 57 2,zmv 58 14,zmv 59 11,zbi 60 .add 58 59,zca 61 107 [56,57,60],zop 62 (.app 55 61 151 Qb),zmv 12 62]) .skip)]),QhR])),QeJ])
def JM:List (Nat × Md):=[(1,.one .d),(2,.one .d),(3,.one .d),(4,.one .d),(11,.one .d),(12,.one .f),(14,.one .d)]
def Qc0:TCode :=
 (zsq [(.reg [zmv 70 12,zop 71 (.build (z0s Qb) [(0,1,(zki 8)),(1,1,(zki 0))]),zop 72 (.bsl 151 Qb [71]),zop 73 (.app 70 72 151 Qb),zmv 10 73]),.ret])
def Qey:TCode :=
 (zsq [(zsq [(.reg [zmv 14 (zki 0)]),(.block 2 (.loop JM QcH))]),Qc0])
def QjP:TCode :=
 (zsq [(.reg [zmv 10 (.k (.n Qb))]),(zsq [(.reg [zmv 15 0,zbi 16 .neq 15 (zki 1),zmv 17 16,.grp 17 true [zmv 18 0,zbi 19 .neq 18 (zki 2)] 20 19,zmv 21 20,.grp 21 false [zmv 22 1,zmv 23 2,zmv 24 3,zca 25 106 [22,23,24],zno 26 25] 27 26]),(.cond 27 (zsq [(.reg [zmv 10 (.k (.n Qb))]),.ret]) .skip)]),(.reg [zmv 28 0,zmv 29 1,zmv 30 2,zmv 31 3,zca 32 54 [28,29,30,31],zmv 11 32]),(.reg [zop 33 (.bsl 151 Qb []),zmv 12 33]),(zsq [(.reg [zmv 13 (zki 0)]),(.block 0 (.loop Qfi QgT))]),Qey])
def QcY:List (ARv × Md):=[(.t 10,.one (.o 151))]
def JP:Qd:=TQ 0 0 QcY K
def QjB:Qd:=Qseq (tawp ZO 0 Qc0 (JP K)) (JP K)
def QcS:Qd:=Qblk 2 (QjB K)
def Qgr:Qd:=Qseq (fun s'=>Loop ZO 0 JM QcH (QcS K) (gc 0 JM s')) (QcS K)
def Qld:Qd:=Qseq (tawp ZO 0 QeJ (Qgr K)) (Qgr K)
def Qjz:Qd:=Qblk 3 (Qld K)
@[irreducible] def Qay (ds:Int) (stages:Int) (s:Int) (micro:Int) (redo:Bool) (l1:List TIns) (m1:Int):Prop:=tawp ZO 0 Qeq (Qjz K) ⟨[(1,(zci stages)),(2,(zci s)),(3,(zci micro)),(4,(zcb redo)),(11,(zci (Qo ds stages s micro))),(12,(.r Qb 0 0 l1.length)),(14,(zci m1))],[(0,(.sl 151 Qb true l1))],1⟩
def Jl (ds:Int) (stages:Int) (s:Int) (micro:Int) (redo:Bool) (m1:Int) (l2:List TIns):Prop:=Loop ZO 0 JM QcH (QcS K) ⟨[(1,(zci stages)),(2,(zci s)),(3,(zci micro)),(4,(zcb redo)),(11,(zci (Qo ds stages s micro))),(12,(.r Qb 0 0 l2.length)),(14,(zci m1))],[(0,(.sl 151 Qb true l2))],1⟩
def Qhv:Qd:=Qseq (tawp ZO 0 Qey (JP K)) (JP K)
def Qix:Qd:=Qblk 0 (Qhv K)
def Qa2 (ds:Int) (stages:Int) (s:Int) (micro:Int) (redo:Bool) (m:Int) (l:List TIns):Prop:=Loop ZO 0 Qfi QgT (Qix K) ⟨[(1,(zci stages)),(2,(zci s)),(3,(zci micro)),(4,(zcb redo)),(11,(zci (Qo ds stages s micro))),(12,(.r Qb 0 0 l.length)),(13,(zci m))],[(0,(.sl 151 Qb true l))],1⟩
theorem Qhb (ds:Int) (stages:Int) (s:Int) (micro:Int) (redo:Bool) (l1:List TIns) (m1:Int) (h :
 (((Qab stages s m1 redo)∧((l1.length=l1.length∨l1.length+(List.take ((Ql stages s m1 redo).length) (List.drop 0 (Ql stages s m1 redo))).length≤l1.length)∧l1.length+(List.take ((Ql stages s m1 redo).length) (List.drop 0 (Ql stages s m1 redo))).length≤big))∧(Jl K ds stages s micro redo (w64 (m1+(1:Int))) (List.take (l1.length+(List.take ((Ql stages s m1 redo).length) (List.drop 0 (Ql stages s m1 redo))).length) ((List.take l1.length l1)++(List.take ((Ql stages s m1 redo).length) (List.drop 0 (Ql stages s m1 redo)))))))):Hold (Qay K ds stages s micro redo l1 m1) :=
 Hold.of (by kernel_rfl) h
theorem Qf6 (ds:Int) (stages:Int) (s:Int) (micro:Int) (redo:Bool) (m1:Int) (l2:List TIns) (h :
 let z2:=w64 (m1+(Qo ds stages s micro))
 let z1:=List.take ((Qg stages s z2).length) (List.drop 0 (Qg stages s z2))
 let z3:=List.take l2.length l2
 (zif (decide (m1<micro)) (zif (decide (z2<micro)) (((p_st stages s z2)∧((l2.length=l2.length∨l2.length+z1.length≤l2.length)∧l2.length+z1.length≤big))∧(Qay K ds stages s micro redo (List.take (l2.length+z1.length) (z3++z1)) m1)) (Qay K ds stages s micro redo z3 m1)) (((l2.length=l2.length∨l2.length+1≤l2.length)∧l2.length+1≤big)∧K (Zc (List.take (l2.length+1) (z3++([((8:Int),(0:Int))]))))))):Jl K ds stages s micro redo m1 l2 :=
 Loop.of (by kernel_rfl) h
theorem QeC (ds:Int) (stages:Int) (s:Int) (micro:Int) (redo:Bool) (m:Int) (l:List TIns) (h :
 (zif (decide (m<(Qo ds stages s micro))) (((p_st stages s m)∧((l.length=l.length∨l.length+(List.take ((Qg stages s m).length) (List.drop 0 (Qg stages s m))).length≤l.length)∧l.length+(List.take ((Qg stages s m).length) (List.drop 0 (Qg stages s m))).length≤big))∧(Qa2 K ds stages s micro redo (w64 (m+(1:Int))) (List.take (l.length+(List.take ((Qg stages s m).length) (List.drop 0 (Qg stages s m))).length) ((List.take l.length l)++(List.take ((Qg stages s m).length) (List.drop 0 (Qg stages s m))))))) (Jl K ds stages s micro redo 0 (List.take l.length l)))):Qa2 K ds stages s micro redo m l :=
 Loop.of (by kernel_rfl) h
theorem QhK (ds:Int) (stages:Int) (s:Int) (micro:Int) (redo:Bool) (h :
 (zif (((ds != (1:Int))&&(ds != (2:Int)))||(!(Qh stages s micro))) (K (Zc ([]:List TIns))) (Qa2 K ds stages s micro redo 0 ([]:List TIns)))):Hold (tawp ZO (0+0) QjP (TQ 0 0 QcY K) (Qn [(.c TI ds),(.c TI stages),(.c TI s),(.c TI micro),(.c .bool redo)])) :=
 Hold.of (by kernel_rfl) h
theorem Qjo (ds:Int) (stages:Int) (s:Int) (micro:Int) (redo:Bool):TCon Try.prog 18 [(.c TI ds),(.c TI stages),(.c TI s),(.c TI micro),(.c .bool redo)] (Zc (Qs ds stages s micro redo)):=by
 refine QN rfl fun hb=>tcg (n:=74) (sg:=Qcq.sg) QC (TOk.cons Qcs (TOk.cons QeY (TOk.cons Qdf (TOk.cons Qf5 TOk.nil)))) (by kernel_rfl) (by kernel_rfl) (QhK _ ds stages s micro redo ?_)
 rw [QhU]
 by_cases hp:(m_in ds 1 2&&Qh stages s micro)=true
 case neg =>
  rw [show (m_in ds 1 2&&Qh stages s micro)=false by simpa using hp]
  exact ⟨fun _=>R_eq (QaC hp).symm,fun h=>by simp at h⟩
 rw [hp]
 refine ⟨fun h=>by simp at h,fun _=>?_⟩
 have hq:Qh stages s micro=true:=by simp only [Bool.and_eq_true] at hp;exact hp.2
 have hr:=Yh.1 hq
 have hM:=Qa8 (redo:=redo) hp
 obtain ⟨w,hw⟩:∃ w:Nat,Qo ds stages s micro=w:=⟨_,(Int.toNat_of_nonneg (JH hq).1).symm⟩
 have hw5:=(JH (ds:=ds) hq).2
 rw [hw] at hM hw5
 rw [Int.toNat_natCast] at hM
 refine Zq w (fun k=>Qa2 (fun r'=>r'=Zc (Qs ds stages s micro redo)) ds stages s micro redo (k:Int) (Zg stages s k)) ?_ ?_
 ·refine QeC (fun r'=>r'=Zc (Qs ds stages s micro redo)) ds stages s micro redo _ _ ⟨fun h=>by simp [hw] at h,fun _=>?_⟩
  rw [List.take_length]
  suffices h:Jl (fun r'=>r'=Zc (Qs ds stages s micro redo)) ds stages s micro redo ((0:Nat):Int) (Zg stages s w++Ze stages s micro redo w 0) by
   rw [show Ze stages s micro redo w 0=[] from rfl,List.append_nil] at h;exact h
  refine Zq micro.toNat (fun k=>Jl (fun r'=>r'=Zc (Qs ds stages s micro redo)) ds stages s micro redo (k:Int) (Zg stages s w++Ze stages s micro redo w k)) ?_ ?_
  ·have h1:=Yi stages s w
   have h2:=Jh stages s micro redo w micro.toNat
   refine Qf6 (fun r'=>r'=Zc (Qs ds stages s micro redo)) ds stages s micro redo _ _ ⟨fun h=>by simp at h;omega,fun _=>⟨⟨.inl rfl,by rw [List.length_append,Q0];omega⟩,R_eq ?_⟩⟩
   rw [YQ,hM]
  ·intro k hk ih
   have h1:=Yi stages s w
   have h2:=Jh stages s micro redo w k
   have key:∀ l:List TIns,l=Zg stages s w++Ze stages s micro redo w k++(if (k:Int)+w<micro then Qg stages s ((k:Int)+w) else [])→Qay (fun r'=>r'=Zc (Qs ds stages s micro redo)) ds stages s micro redo l (k:Int):=by
    intro l hl
    have h3:=Y5 stages s k redo
    have h4:=Zp stages s ((k:Int)+w)
    have h5:l.length≤1000:=by rw [hl];split <;> simp only [List.length_append,List.length_nil] <;> omega
    refine (Qhb (fun r'=>r'=Zc (Qs ds stages s micro redo)) ds stages s micro redo l _ ⟨⟨⟨by omega,by omega⟩,QaE (by omega)⟩,?_⟩).h
    rw [Qbx,sc1 (by omega)]
    rw [Qdl] at ih
    rw [hl,List.append_assoc,List.append_assoc]
    unfold Ju at ih
    exact ih
   refine Qf6 (fun r'=>r'=Zc (Qs ds stages s micro redo)) ds stages s micro redo _ _ ⟨fun _=>?_,fun h=>by simp at h;omega⟩
   rw [hw,Qk (x:=(k:Int)+w) (by omega) (by omega)]
   have h4:=Zp stages s ((k:Int)+w)
   refine ⟨fun h=>⟨⟨⟨by omega,by omega⟩,QaE (by rw [List.length_append];omega)⟩,key _ ?_⟩,fun h=>key _ ?_⟩
   ·rw [Qbx,if_pos (of_decide_eq_true h)]
   ·rw [if_neg (of_decide_eq_false h),List.take_length,List.append_nil]
 ·intro k hk ih
  have h1:=Yi stages s k
  have h4:=Zp stages s k
  refine QeC (fun r'=>r'=Zc (Qs ds stages s micro redo)) ds stages s micro redo _ _ ⟨fun _=>⟨⟨⟨by omega,by omega⟩,QaE (by omega)⟩,?_⟩,fun h=>by simp [hw] at h;omega⟩
  rw [Qbx,sc1 (by omega),← Qdj]
  exact ih
theorem Qhu:Qx Try.prog Qcq:=QD fun x _=>Qjo x.1 x.2.1 x.2.2.1 x.2.2.2.1 x.2.2.2.2.1
def Q4 (t:(List TIns)):TRes:=⟨(.r Qb 0 0 t.length),[(.sl 151 Qb true t)],[],true,[]⟩
def QbG:TRow:=Qy 17 [(.c TI),(.c TI),(.c TI),(.c TI),(.c .bool)] fun x=>(none,Q4 (Qs x.1 x.2.1 x.2.2.1 x.2.2.2.1 x.2.2.2.2.1))
def Z5:List TRow:=[Jy,Qa5,JV,QaP]
def Qee:TCode :=
 (zsq [(zsq [(.reg [zmv 42 13,zmv 43 12,zbi 44 .lss 42 43]),(.cond 44 .skip (.exit 0))]),(.block 1 (.reg [zmv 47 11,zmv 48 1,zmv 49 2,zmv 50 13,zca 51 104 [47,48,49,50],zmv 11 51])),(.reg [zmv 45 13,zbi 46 .add 45 (zki 1),zmv 13 46])])
def Qfv:List (Nat × Md):=[(1,.one .d),(2,.one .d),(3,.one .d),(4,.one .d),(11,.one .f),(12,.one .d),(13,.one .d)]
def Qe5:TCode :=
 (.reg [zmv 69 11,zmv 70 1,zmv 71 2,zmv 72 14,zmv 73 4,zca 74 105 [69,70,71,72,73],zmv 11 74])
def Qk4:List (Nat × Md):=[(1,.one .d),(2,.one .d),(3,.one .d),(4,.one .d),(11,.one .f),(12,.one .d),(14,.one .d)]
def Qjv:TCode:=.wk Qk4 Qe5
def Qgi:TCode :=
 (.reg [zmv 55 14,zbi 56 .add 55 (zki 1),zmv 14 56])
def QcX:TCode :=
 (zsq [(zsq [(.reg [zmv 52 14,zmv 53 3,zbi 54 .lss 52 53]),(.cond 54 .skip (.exit 2))]),(.block 3 (zsq [(zsq [(.reg [zmv 57 12,zmv 58 14,zbi 59 .add 57 58,zmv 60 3,zbi 61 .lss 59 60]),(.cond 61 (.reg [zmv 62 11,zmv 63 1,zmv 64 2,zmv 65 12,zmv 66 14,zbi 67 .add 65 66,zca 68 104 [62,63,64,67],zmv 11 68]) .skip)]),Qjv])),Qgi])
def Qaq:List (Nat × Md):=[(1,.one .d),(2,.one .d),(3,.one .d),(4,.one .d),(11,.one .f),(12,.one .d),(14,.one .d)]
def Qf3:TCode :=
 (zsq [(.reg [zmv 75 11,zop 76 (.build (z0s Qb) [(0,1,(zki 8))]),zop 77 (.bsl 151 Qb [76]),zop 78 (.app 75 77 151 Qb),zmv 10 78]),.ret])
def QeB:TCode :=
 (zsq [(zsq [(.reg [zmv 14 (zki 0)]),(.block 2 (.loop Qaq QcX))]),Qf3])
def Qhx:TCode :=
 (zsq [(.reg [zmv 10 (.k (.n Qb))]),(.reg [zop 15 (.bsl 151 Qb []),zmv 11 15]),(zsq [(.reg [zmv 16 0,zca 17 102 [16,(zki 1),(zki 2)],zno 18 17,zmv 19 18,.grp 19 false [zmv 20 1,zca 21 102 [20,(zki 1),(zki 4)],zno 22 21] 23 22,zmv 24 23,.grp 24 false [zmv 25 2,zmv 26 1,zbi 27 .sub 26 (zki 1),zca 28 102 [25,(zki 0),27],zno 29 28] 30 29,zmv 31 30,.grp 31 false [zmv 32 3,zca 33 102 [32,(zki 1),(zki 5)],zno 34 33] 35 34]),(.cond 35 (zsq [(.reg [zmv 36 11,zmv 10 36]),.ret]) .skip)]),(.reg [zmv 37 0,zmv 38 1,zmv 39 2,zmv 40 3,zca 41 103 [37,38,39,40],zmv 12 41]),(zsq [(.reg [zmv 13 (zki 0)]),(.block 0 (.loop Qfv Qee))]),QeB])
def QeZ:List (ARv × Md):=[(.t 10,.one (.o 151))]
def QaJ:Qd:=TQ 0 0 QeZ K
def QjN:Qd:=Qseq (tawp Z5 0 Qf3 (QaJ K)) (QaJ K)
def Qbp:Qd:=Qblk 2 (QjN K)
def Qfd:Qd:=Qseq (fun s'=>Loop Z5 0 Qaq QcX (Qbp K) (gc 0 Qaq s')) (Qbp K)
def Qk3:Qd:=Qseq (tawp Z5 0 Qgi (Qfd K)) (Qfd K)
def Qjl:Qd:=Qblk 3 (Qk3 K)
@[irreducible] def QaD (ds:Int) (stages:Int) (s:Int) (micro:Int) (redo:Bool) (l1:List TIns) (m1:Int):Prop:=tawp Z5 0 Qe5 (Qjl K) ⟨[(1,(zci stages)),(2,(zci s)),(3,(zci micro)),(4,(zcb redo)),(11,(.r Qb 0 0 l1.length)),(12,(zci (Qo ds stages s micro))),(14,(zci m1))],[(0,(.sl 151 Qb true l1))],1⟩
def Jm (ds:Int) (stages:Int) (s:Int) (micro:Int) (redo:Bool) (m1:Int) (l2:List TIns):Prop:=Loop Z5 0 Qaq QcX (Qbp K) ⟨[(1,(zci stages)),(2,(zci s)),(3,(zci micro)),(4,(zcb redo)),(11,(.r Qb 0 0 l2.length)),(12,(zci (Qo ds stages s micro))),(14,(zci m1))],[(0,(.sl 151 Qb true l2))],1⟩
def QjL:Qd:=Qseq (tawp Z5 0 QeB (QaJ K)) (QaJ K)
def Qhl:Qd:=Qblk 0 (QjL K)
def J0 (ds:Int) (stages:Int) (s:Int) (micro:Int) (redo:Bool) (m:Int) (l:List TIns):Prop:=Loop Z5 0 Qfv Qee (Qhl K) ⟨[(1,(zci stages)),(2,(zci s)),(3,(zci micro)),(4,(zcb redo)),(11,(.r Qb 0 0 l.length)),(12,(zci (Qo ds stages s micro))),(13,(zci m))],[(0,(.sl 151 Qb true l))],1⟩
theorem QhS (ds:Int) (stages:Int) (s:Int) (micro:Int) (redo:Bool) (l1:List TIns) (m1:Int) (h :
 (((l1.length=l1.length)∧(JT l1 stages s m1 redo))∧(Jm K ds stages s micro redo (w64 (m1+(1:Int))) (List.take ((ZM l1 stages s m1 redo).length) (ZM l1 stages s m1 redo))))):Hold (QaD K ds stages s micro redo l1 m1) :=
 Hold.of (by kernel_rfl) h
theorem QgK (ds:Int) (stages:Int) (s:Int) (micro:Int) (redo:Bool) (m1:Int) (l2:List TIns) (h :
 (zif (decide (m1<micro)) (zif (decide ((w64 ((Qo ds stages s micro)+m1))<micro)) (((l2.length=l2.length)∧(p_l9 l2 stages s (w64 ((Qo ds stages s micro)+m1))))∧(QaD K ds stages s micro redo (List.take ((Q8 l2 stages s (w64 ((Qo ds stages s micro)+m1))).length) (Q8 l2 stages s (w64 ((Qo ds stages s micro)+m1)))) m1)) (QaD K ds stages s micro redo (List.take l2.length l2) m1)) (((l2.length=l2.length∨l2.length+1≤l2.length)∧l2.length+1≤big)∧K (Q4 (List.take (l2.length+1) ((List.take l2.length l2)++([((8:Int),(0:Int))]))))))):Jm K ds stages s micro redo m1 l2 :=
 Loop.of (by kernel_rfl) h
theorem QeE (ds:Int) (stages:Int) (s:Int) (micro:Int) (redo:Bool) (m:Int) (l:List TIns) (h :
 (zif (decide (m<(Qo ds stages s micro))) (((l.length=l.length)∧(p_l9 l stages s m))∧(J0 K ds stages s micro redo (w64 (m+(1:Int))) (List.take ((Q8 l stages s m).length) (Q8 l stages s m)))) (Jm K ds stages s micro redo 0 (List.take l.length l)))):J0 K ds stages s micro redo m l :=
 Loop.of (by kernel_rfl) h
theorem Ql9 (ds:Int) (stages:Int) (s:Int) (micro:Int) (redo:Bool) (h :
 (zif ((((!(m_in ds (1:Int) (2:Int)))||(!(m_in stages (1:Int) (4:Int))))||(!(m_in s (0:Int) (w64 (stages-(1:Int))))))||(!(m_in micro (1:Int) (5:Int)))) (K (Q4 ([]:List TIns))) (J0 K ds stages s micro redo 0 ([]:List TIns)))):Hold (tawp Z5 (0+0) Qhx (TQ 0 0 QeZ K) (Qn [(.c TI ds),(.c TI stages),(.c TI s),(.c TI micro),(.c .bool redo)])) :=
 Hold.of (by kernel_rfl) h
theorem QkB (ds:Int) (stages:Int) (s:Int) (micro:Int) (redo:Bool):TCon Try.prog 17 [(.c TI ds),(.c TI stages),(.c TI s),(.c TI micro),(.c .bool redo)] (Q4 (Qs ds stages s micro redo)):=by
 refine QN rfl fun hb=>tcg (n:=79) (sg:=QbG.sg) QC (TOk.cons Qcl (TOk.cons Qmc (TOk.cons QeG (TOk.cons QdI TOk.nil)))) (by kernel_rfl) (by kernel_rfl) (Ql9 _ ds stages s micro redo ?_)
 rw [Qg4]
 by_cases hp:(m_in ds 1 2&&Qh stages s micro)=true
 case neg =>
  rw [show (m_in ds 1 2&&Qh stages s micro)=false by simpa using hp]
  exact ⟨fun _=>R_eq (QaC hp).symm,fun h=>by simp at h⟩
 rw [hp]
 refine ⟨fun h=>by simp at h,fun _=>?_⟩
 have hq:Qh stages s micro=true:=by simp only [Bool.and_eq_true] at hp;exact hp.2
 have hr:=Yh.1 hq
 have hM:=Qa8 (redo:=redo) hp
 obtain ⟨w,hw⟩:∃ w:Nat,Qo ds stages s micro=w:=⟨_,(Int.toNat_of_nonneg (JH hq).1).symm⟩
 have hw5:=(JH (ds:=ds) hq).2
 rw [hw] at hM hw5
 rw [Int.toNat_natCast] at hM
 refine Zq w (fun k=>J0 (fun r'=>r'=Q4 (Qs ds stages s micro redo)) ds stages s micro redo (k:Int) (Zg stages s k)) ?_ ?_
 ·refine QeE (fun r'=>r'=Q4 (Qs ds stages s micro redo)) ds stages s micro redo _ _ ⟨fun h=>by simp [hw] at h,fun _=>?_⟩
  rw [List.take_length]
  suffices h:Jm (fun r'=>r'=Q4 (Qs ds stages s micro redo)) ds stages s micro redo ((0:Nat):Int) (Zg stages s w++Ze stages s micro redo w 0) by
   rw [show Ze stages s micro redo w 0=[] from rfl,List.append_nil] at h;exact h
  refine Zq micro.toNat (fun k=>Jm (fun r'=>r'=Q4 (Qs ds stages s micro redo)) ds stages s micro redo (k:Int) (Zg stages s w++Ze stages s micro redo w k)) ?_ ?_
  ·have h1:=Yi stages s w
   have h2:=Jh stages s micro redo w micro.toNat
   refine QgK (fun r'=>r'=Q4 (Qs ds stages s micro redo)) ds stages s micro redo _ _ ⟨fun h=>by simp at h;omega,fun _=>⟨⟨.inl rfl,by rw [List.length_append,Q0];omega⟩,R_eq ?_⟩⟩
   rw [YQ,hM]
  ·intro k hk ih
   have h1:=Yi stages s w
   have h2:=Jh stages s micro redo w k
   have key:∀ l:List TIns,l=Zg stages s w++Ze stages s micro redo w k++(if (k:Int)+w<micro then Qg stages s ((k:Int)+w) else [])→QaD (fun r'=>r'=Q4 (Qs ds stages s micro redo)) ds stages s micro redo l (k:Int):=by
    intro l hl
    have h3:=Y5 stages s k redo
    have h4:=Zp stages s ((k:Int)+w)
    have h5:l.length≤1000:=by rw [hl];split <;> simp only [List.length_append,List.length_nil] <;> omega
    refine (QhS (fun r'=>r'=Q4 (Qs ds stages s micro redo)) ds stages s micro redo l _ ⟨⟨rfl,⟨by omega,by omega⟩,by omega⟩,?_⟩).h
    rw [List.take_length,sc1 (by omega)]
    rw [Qdl] at ih
    unfold ZM
    rw [hl,List.append_assoc,List.append_assoc]
    unfold Ju at ih
    exact ih
   refine QgK (fun r'=>r'=Q4 (Qs ds stages s micro redo)) ds stages s micro redo _ _ ⟨fun _=>?_,fun h=>by simp at h;omega⟩
   rw [hw,Int.add_comm (w:Int) k,Qk (x:=(k:Int)+w) (by omega) (by omega)]
   have h4:=Zp stages s ((k:Int)+w)
   refine ⟨fun h=>⟨⟨rfl,⟨by omega,by omega⟩,by rw [List.length_append];omega⟩,key _ ?_⟩,fun h=>key _ ?_⟩
   ·rw [List.take_length,if_pos (of_decide_eq_true h)];rfl
   ·rw [if_neg (of_decide_eq_false h),List.take_length,List.append_nil]
 ·intro k hk ih
  have h1:=Yi stages s k
  have h4:=Zp stages s k
  refine QeE (fun r'=>r'=Q4 (Qs ds stages s micro redo)) ds stages s micro redo _ _ ⟨fun _=>⟨⟨rfl,⟨by omega,by omega⟩,by omega⟩,?_⟩,fun h=>by simp [hw] at h;omega⟩
  rw [List.take_length,sc1 (by omega)]
  rw [Qdj] at ih
  exact ih
theorem QiY:Qx Try.prog QbG:=QD fun x _=>QkB x.1 x.2.1 x.2.2.1 x.2.2.2.1 x.2.2.2.2.1
end
end Go.Proofs.Ytephkbajoofeoaa.Am

