/- -/
import Derived.Test.YtephkbajoofeoaaYFPE
import Derived.Test.YtephkbajoofeoaaYFP1
import Derived.Test.YtephkbajoofeoaaYFG9
namespace Go.Proofs.Ytephkbajoofeoaa.Am
open Go Go.RowKit Go.Proofs.Ytephkbajoofeoaa
set_option linter.all false
noncomputable section
variable (K:TRes→Prop)
def Yd (t:(List TIns)):TRes:=⟨(.r Qb 0 0 t.length),[(.sl 151 Qb true t)],[],true,[]⟩
def JP:TRow:=Qz 107 [(.c TI),(.c TI),(.c TI)] fun x=>(some (p_st x.1 x.2.1 x.2.2.1),Yd (Qq x.1 x.2.1 x.2.2.1))
def Qda:List TRow:=[]
def QbP:TCode :=
 (zsq [(.reg [zmv 16 7,zmv 17 2,zop 18 (.build (z0s Qb) [(0,1,(zki 2)),(1,1,17)]),zop 19 (.bsl 151 Qb [18]),zop 20 (.app 16 19 151 Qb),zmv 7 20]),(zsq [(.reg [zmv 21 1,zmv 22 0,zbi 23 .sub 22 (zki 1),zbi 24 .lss 21 23]),(.cond 24 (.reg [zmv 25 7,zmv 26 2,zop 27 (.build (z0s Qb) [(0,1,(zki 3)),(1,1,26)]),zop 28 (.bsl 151 Qb [27]),zop 29 (.app 25 28 151 Qb),zmv 7 29]) .skip)]),(.reg [zmv 30 7,zmv 6 30]),.ret])
def QgW:List (Nat × Md):=[(0,.one .d),(1,.one .d),(2,.one .d),(7,.one .f)]
def QgZ:TCode:=.wk QgW QbP
def Qe5:TCode :=
 (zsq [(.reg [zmv 6 (.k (.n Qb))]),(.reg [zop 8 (.bsl 151 Qb []),zmv 7 8]),(zsq [(.reg [zmv 9 1,zbi 10 .gtr 9 (zki 0)]),(.cond 10 (.reg [zmv 11 7,zmv 12 2,zop 13 (.build (z0s Qb) [(0,1,(zki 1)),(1,1,12)]),zop 14 (.bsl 151 Qb [13]),zop 15 (.app 11 14 151 Qb),zmv 7 15]) .skip)]),QgZ])
def Qbt:List (ARv × Md):=[(.t 6,.one (.o 151))]
def Qh5:Qf:=TQ 0 0 Qbt K
@[irreducible] def YY (stages:Int) (s:Int) (m:Int) (l:List TIns):Prop:=tawp Qda 0 QbP (Qh5 K) ⟨[(0,(zci stages)),(1,(zci s)),(2,(zci m)),(7,(.r Qb 0 0 l.length))],[(0,(.sl 151 Qb true l))],1⟩
theorem Qhx (stages:Int) (s:Int) (m:Int) (l:List TIns) (h :
 (((l.length=l.length∨l.length+1≤l.length)∧l.length+1≤big)∧(zif (decide (s<(w64 (stages-(1:Int))))) ((((l.length+1)=((List.take l.length l)++([((2:Int),m)])).length∨(l.length+1)+1≤((List.take l.length l)++([((2:Int),m)])).length)∧(l.length+1)+1≤big)∧K (Yd (List.take ((l.length+1)+1) ((List.take (l.length+1) ((List.take l.length l)++([((2:Int),m)])))++([((3:Int),m)]))))) (K (Yd (List.take (l.length+1) ((List.take l.length l)++([((2:Int),m)])))))))):Hold (YY K stages s m l) :=
 Hold.of (by kernel_rfl) h
theorem Qfb (stages:Int) (s:Int) (m:Int) (h :
 (zif (decide (s>(0:Int))) (((0=0∨0+1≤0)∧0+1≤big)∧(YY K stages s m (List.take (0+1) ([((1:Int),m)]:List TIns)))) (YY K stages s m ([]:List TIns)))):Hold (tawp Qda (0+0) Qe5 (TQ 0 0 Qbt K) (Qt [(.c TI stages),(.c TI s),(.c TI m)])) :=
 Hold.of (by kernel_rfl) h
theorem QeP (stages:Int) (s:Int) (m:Int) (hp:p_st stages s m):TCon Try.prog 107 [(.c TI stages),(.c TI s),(.c TI m)] (Yd (Qq stages s m)):=by
 refine QE rfl fun hb=>tcg (n:=31) (sg:=JP.sg) QF TOk.nil (by kernel_rfl) (by kernel_rfl) (Qfb _ stages s m ?_)
 obtain ⟨h1,h2⟩:=hp
 have hw:w64 (stages-1)=stages-1:=QC (by omega) (by omega)
 have key:∀ l:List TIns,l.length≤1→l++[(2,m)]++(if s<stages-1 then [(3,m)] else [])=(Qq stages s m)→YY (fun r'=>r'=Yd (Qq stages s m)) stages s m l:=by
  intro l hl he
  refine (Qhx (fun r'=>r'=Yd (Qq stages s m)) stages s m l ?_).h
  rw [hw,← he]
  simp only [Jx]
  refine ⟨⟨by simp,by rw [Q0];omega⟩,fun h=>⟨⟨.inl (by simp),by rw [Q0];omega⟩,R_eq ?_⟩,fun h=>R_eq ?_⟩
  ·simp at h;simp [h,List.take_of_length_le]
  ·simp at h;simp [Int.not_lt.2 h]
 refine ⟨fun h=>⟨⟨.inl rfl,by rw [Q0];omega⟩,key _ (by simp) ?_⟩,fun h=>key _ (by simp) ?_⟩
 ·simp at h;simp [Qq,h]
 ·simp at h;simp [Qq,Int.not_lt.2 h]
theorem Qhh:QB Try.prog JP:=QH fun x h=>QeP x.1 x.2.1 x.2.2.1 h
def Zv (t:(List TIns)):TRes:=⟨(.r Qb 0 0 t.length),[(.sl 151 Qb true t)],[],true,[]⟩
def Qa4:TRow:=Qz 108 [(.c TI),(.c TI),(.c TI),(.c .bool)] fun x=>(some (Qa5 x.1 x.2.1 x.2.2.1 x.2.2.2.1),Zv (Qs x.1 x.2.1 x.2.2.1 x.2.2.2.1))
def Qao:List TRow:=[]
def Qeu:TCode :=
 (zsq [(.reg [zmv 26 9,zmv 27 2,zop 28 (.build (z0s Qb) [(0,1,(zki 6)),(1,1,27)]),zop 29 (.bsl 151 Qb [28]),zop 30 (.app 26 29 151 Qb),zmv 9 30]),(zsq [(.reg [zmv 31 1,zbi 32 .gtr 31 (zki 0)]),(.cond 32 (.reg [zmv 33 9,zmv 34 2,zop 35 (.build (z0s Qb) [(0,1,(zki 7)),(1,1,34)]),zop 36 (.bsl 151 Qb [35]),zop 37 (.app 33 36 151 Qb),zmv 9 37]) .skip)]),(.reg [zmv 38 9,zmv 8 38]),.ret])
def QeR:List (Nat × Md):=[(1,.one .d),(2,.one .d),(9,.one .f)]
def Qfl:TCode:=.wk QeR Qeu
def QcQ:TCode :=
 (zsq [(zsq [(.reg [zmv 20 3]),(.cond 20 (.reg [zmv 21 9,zmv 22 2,zop 23 (.build (z0s Qb) [(0,1,(zki 5)),(1,1,22)]),zop 24 (.bsl 151 Qb [23]),zop 25 (.app 21 24 151 Qb),zmv 9 25]) .skip)]),Qfl])
def Qin:List (Nat × Md):=[(1,.one .d),(2,.one .d),(3,.one .d),(9,.one .f)]
def QfX:TCode:=.wk Qin QcQ
def QiB:TCode :=
 (zsq [(.reg [zmv 8 (.k (.n Qb))]),(.reg [zop 10 (.bsl 151 Qb []),zmv 9 10]),(zsq [(.reg [zmv 11 1,zmv 12 0,zbi 13 .sub 12 (zki 1),zbi 14 .lss 11 13]),(.cond 14 (.reg [zmv 15 9,zmv 16 2,zop 17 (.build (z0s Qb) [(0,1,(zki 4)),(1,1,16)]),zop 18 (.bsl 151 Qb [17]),zop 19 (.app 15 18 151 Qb),zmv 9 19]) .skip)]),QfX])
def Qd3:List (ARv × Md):=[(.t 8,.one (.o 151))]
def Qen:Qf:=TQ 0 0 Qd3 K
@[irreducible] def YV (s:Int) (m:Int) (l1:List TIns):Prop:=tawp Qao 0 Qeu (Qen K) ⟨[(1,(zci s)),(2,(zci m)),(9,(.r Qb 0 0 l1.length))],[(0,(.sl 151 Qb true l1))],1⟩
@[irreducible] def Jh (s:Int) (m:Int) (redo:Bool) (l:List TIns):Prop:=tawp Qao 0 QcQ (Qen K) ⟨[(1,(zci s)),(2,(zci m)),(3,(zcb redo)),(9,(.r Qb 0 0 l.length))],[(0,(.sl 151 Qb true l))],1⟩
theorem Qfs (s:Int) (m:Int) (l1:List TIns) (h :
 (((l1.length=l1.length∨l1.length+1≤l1.length)∧l1.length+1≤big)∧(zif (decide (s>(0:Int))) ((((l1.length+1)=((List.take l1.length l1)++([((6:Int),m)])).length∨(l1.length+1)+1≤((List.take l1.length l1)++([((6:Int),m)])).length)∧(l1.length+1)+1≤big)∧K (Zv (List.take ((l1.length+1)+1) ((List.take (l1.length+1) ((List.take l1.length l1)++([((6:Int),m)])))++([((7:Int),m)]))))) (K (Zv (List.take (l1.length+1) ((List.take l1.length l1)++([((6:Int),m)])))))))):Hold (YV K s m l1) :=
 Hold.of (by kernel_rfl) h
theorem Qhz (s:Int) (m:Int) (redo:Bool) (l:List TIns) (h :
 (zif redo (((l.length=l.length∨l.length+1≤l.length)∧l.length+1≤big)∧(YV K s m (List.take (l.length+1) ((List.take l.length l)++([((5:Int),m)]))))) (YV K s m (List.take l.length l)))):Hold (Jh K s m redo l) :=
 Hold.of (by kernel_rfl) h
theorem QhX (stages:Int) (s:Int) (m:Int) (redo:Bool) (h :
 (zif (decide (s<(w64 (stages-(1:Int))))) (((0=0∨0+1≤0)∧0+1≤big)∧(Jh K s m redo (List.take (0+1) ([((4:Int),m)]:List TIns)))) (Jh K s m redo ([]:List TIns)))):Hold (tawp Qao (0+0) QiB (TQ 0 0 Qd3 K) (Qt [(.c TI stages),(.c TI s),(.c TI m),(.c .bool redo)])) :=
 Hold.of (by kernel_rfl) h
theorem QgP (stages:Int) (s:Int) (m:Int) (redo:Bool) (hp:Qa5 stages s m redo):TCon Try.prog 108 [(.c TI stages),(.c TI s),(.c TI m),(.c .bool redo)] (Zv (Qs stages s m redo)):=by
 refine QE rfl fun hb=>tcg (n:=39) (sg:=Qa4.sg) QF TOk.nil (by kernel_rfl) (by kernel_rfl) (QhX _ stages s m redo ?_)
 obtain ⟨h1,h2⟩:=hp
 have hw:w64 (stages-1)=stages-1:=QC (by omega) (by omega)
 have key2:∀ l:List TIns,l.length≤2→l++[(6,m)]++(if 0<s then [(7,m)] else [])=(Qs stages s m redo)→YV (fun r'=>r'=Zv (Qs stages s m redo)) s m l:=by
  intro l hl he
  refine (Qfs (fun r'=>r'=Zv (Qs stages s m redo)) s m l ?_).h
  rw [← he]
  simp only [Jx]
  refine ⟨⟨by simp,by rw [Q0];omega⟩,fun h=>⟨⟨.inl (by simp),by rw [Q0];omega⟩,R_eq ?_⟩,fun h=>R_eq ?_⟩
  ·simp at h;simp [h,List.take_of_length_le]
  ·simp at h;simp [Int.not_lt.2 h]
 have key:∀ l:List TIns,l.length≤1→l++(if redo then [(5,m)] else [])++[(6,m)]++(if 0<s then [(7,m)] else [])=(Qs stages s m redo)→Jh (fun r'=>r'=Zv (Qs stages s m redo)) s m redo l:=by
  intro l hl he
  refine (Qhz (fun r'=>r'=Zv (Qs stages s m redo)) s m redo l ⟨fun h=>⟨⟨.inl rfl,by rw [Q0];omega⟩,key2 _ (by simp;omega) ?_⟩,fun h=>key2 _ (by simp;omega) ?_⟩).h
  ·rw [← he,Jx,h];simp
  ·rw [← he,List.take_length,h];simp
 rw [hw]
 refine ⟨fun h=>⟨⟨.inl rfl,by rw [Q0];omega⟩,key _ (by simp) ?_⟩,fun h=>key _ (by simp) ?_⟩
 ·simp at h;simp [Qs,h]
 ·simp at h;simp [Qs,Int.not_lt.2 h]
theorem QiD:QB Try.prog Qa4:=QH fun x h=>QgP x.1 x.2.1 x.2.2.1 x.2.2.2.1 h
def Yb (t:(List TIns)):TRes:=⟨(.r Qb 0 0 t.length),[(.sl 151 Qb true t)],[],true,[.dead]⟩
def Qbr:TRow:=Qz 104 [(.o 151 Qb),(.c TI),(.c TI),(.c TI)] fun x=>(some (p_l9 x.1 x.2.1 x.2.2.1 x.2.2.2.1),Yb (Zf x.1 x.2.1 x.2.2.1 x.2.2.2.1))
def Qik:List TRow:=[]
def Qiw:TCode :=
 (zsq [(.reg [zmv 8 (.k (.n Qb))]),(zsq [(.reg [zmv 9 2,zbi 10 .gtr 9 (zki 0)]),(.cond 10 (.reg [zmv 11 0,zmv 12 3,zop 13 (.build (z0s Qb) [(0,1,(zki 1)),(1,1,12)]),zop 14 (.bsl 151 Qb [13]),zop 15 (.app 11 14 151 Qb),zmv 0 15]) .skip)]),(.reg [zmv 16 0,zmv 17 3,zop 18 (.build (z0s Qb) [(0,1,(zki 2)),(1,1,17)]),zop 19 (.bsl 151 Qb [18]),zop 20 (.app 16 19 151 Qb),zmv 0 20]),(zsq [(.reg [zmv 21 2,zmv 22 1,zbi 23 .sub 22 (zki 1),zbi 24 .lss 21 23]),(.cond 24 (.reg [zmv 25 0,zmv 26 3,zop 27 (.build (z0s Qb) [(0,1,(zki 3)),(1,1,26)]),zop 28 (.bsl 151 Qb [27]),zop 29 (.app 25 28 151 Qb),zmv 0 29]) .skip)]),(.reg [zmv 30 0,zmv 8 30]),.ret])
def QfJ:List (ARv × Md):=[(.t 8,.one (.o 151))]
theorem Qho (l:List TIns) (stages:Int) (s:Int) (m:Int) (h :
 (zif (decide (s>(0:Int))) (((l.length=l.length∨l.length+1≤l.length)∧l.length+1≤big)∧((((l.length+1)=((List.take l.length l)++([((1:Int),m)])).length∨(l.length+1)+1≤((List.take l.length l)++([((1:Int),m)])).length)∧(l.length+1)+1≤big)∧(zif (decide (s<(w64 (stages-(1:Int))))) (((((l.length+1)+1)=((List.take (l.length+1) ((List.take l.length l)++([((1:Int),m)])))++([((2:Int),m)])).length∨((l.length+1)+1)+1≤((List.take (l.length+1) ((List.take l.length l)++([((1:Int),m)])))++([((2:Int),m)])).length)∧((l.length+1)+1)+1≤big)∧K (Yb (List.take (((l.length+1)+1)+1) ((List.take ((l.length+1)+1) ((List.take (l.length+1) ((List.take l.length l)++([((1:Int),m)])))++([((2:Int),m)])))++([((3:Int),m)]))))) (K (Yb (List.take ((l.length+1)+1) ((List.take (l.length+1) ((List.take l.length l)++([((1:Int),m)])))++([((2:Int),m)])))))))) (((l.length=l.length∨l.length+1≤l.length)∧l.length+1≤big)∧(zif (decide (s<(w64 (stages-(1:Int))))) ((((l.length+1)=((List.take l.length l)++([((2:Int),m)])).length∨(l.length+1)+1≤((List.take l.length l)++([((2:Int),m)])).length)∧(l.length+1)+1≤big)∧K (Yb (List.take ((l.length+1)+1) ((List.take (l.length+1) ((List.take l.length l)++([((2:Int),m)])))++([((3:Int),m)]))))) (K (Yb (List.take (l.length+1) ((List.take l.length l)++([((2:Int),m)]))))))))):Hold (tawp Qik (0+1) Qiw (TQ 0 1 QfJ K) (Qt [(.ow 151 Qb l),(.c TI stages),(.c TI s),(.c TI m)])) :=
 Hold.of (by kernel_rfl) h
theorem QhO (l:List TIns) (stages:Int) (s:Int) (m:Int) (hp:p_l9 l stages s m):TCon Try.prog 104 [(.ow 151 Qb l),(.c TI stages),(.c TI s),(.c TI m)] (Yb (Zf l stages s m)):=by
 refine QE rfl fun hb=>tcg (n:=31) (sg:=Qbr.sg) QF TOk.nil (by kernel_rfl) (by kernel_rfl) (Qho _ l stages s m ?_)
 obtain ⟨⟨h1,h2⟩,hl⟩:=hp
 have hw:w64 (stages-1)=stages-1:=QC (by omega) (by omega)
 have hb:l.length+100≤big:=by rw [Q0];omega
 rw [hw]
 unfold Zf Qq
 refine ⟨fun h=>?_,fun h=>?_⟩
 all_goals
  simp at h
  first | have h0:0<s:=h | have h0:¬ 0<s:=by omega
  refine ⟨⟨.inl rfl,by omega⟩,?_⟩
  first
  | refine ⟨⟨.inl (by simp),by omega⟩,fun h3=>⟨⟨.inl (by simp),by omega⟩,R_eq ?_⟩,fun h3=>R_eq ?_⟩
  | refine ⟨fun h3=>⟨⟨.inl (by simp),by omega⟩,R_eq ?_⟩,fun h3=>R_eq ?_⟩
  all_goals
   simp at h3
   first | have h4:s<stages-1:=h3 | have h4:¬ s<stages-1:=by omega
   simp [h0,h4,List.take_of_length_le]
theorem Qe8:QB Try.prog Qbr:=QH fun x h=>QhO x.1 x.2.1 x.2.2.1 x.2.2.2.1 h
def Zb (t:(List TIns)):TRes:=⟨(.r Qb 0 0 t.length),[(.sl 151 Qb true t)],[],true,[.dead]⟩
def Qbi:TRow:=Qz 105 [(.o 151 Qb),(.c TI),(.c TI),(.c TI),(.c .bool)] fun x=>(some (JN x.1 x.2.1 x.2.2.1 x.2.2.2.1 x.2.2.2.2.1),Zb (Yg x.1 x.2.1 x.2.2.1 x.2.2.2.1 x.2.2.2.2.1))
def Qgi:List TRow:=[]
def QeY:TCode :=
 (zsq [(.reg [zmv 10 (.k (.n Qb))]),(zsq [(.reg [zmv 11 2,zmv 12 1,zbi 13 .sub 12 (zki 1),zbi 14 .lss 11 13]),(.cond 14 (.reg [zmv 15 0,zmv 16 3,zop 17 (.build (z0s Qb) [(0,1,(zki 4)),(1,1,16)]),zop 18 (.bsl 151 Qb [17]),zop 19 (.app 15 18 151 Qb),zmv 0 19]) .skip)]),(zsq [(.reg [zmv 20 4]),(.cond 20 (.reg [zmv 21 0,zmv 22 3,zop 23 (.build (z0s Qb) [(0,1,(zki 5)),(1,1,22)]),zop 24 (.bsl 151 Qb [23]),zop 25 (.app 21 24 151 Qb),zmv 0 25]) .skip)]),(.reg [zmv 26 0,zmv 27 3,zop 28 (.build (z0s Qb) [(0,1,(zki 6)),(1,1,27)]),zop 29 (.bsl 151 Qb [28]),zop 30 (.app 26 29 151 Qb),zmv 0 30]),(zsq [(.reg [zmv 31 2,zbi 32 .gtr 31 (zki 0)]),(.cond 32 (.reg [zmv 33 0,zmv 34 3,zop 35 (.build (z0s Qb) [(0,1,(zki 7)),(1,1,34)]),zop 36 (.bsl 151 Qb [35]),zop 37 (.app 33 36 151 Qb),zmv 0 37]) .skip)]),(.reg [zmv 38 0,zmv 10 38]),.ret])
def QfN:List (ARv × Md):=[(.t 10,.one (.o 151))]
theorem QfC (l:List TIns) (stages:Int) (s:Int) (m:Int) (redo:Bool) (h :
 let z1:=List.take l.length l
 (zif (decide (s<(w64 (stages-(1:Int))))) (((l.length=l.length∨l.length+1≤l.length)∧l.length+1≤big)∧(zif redo ((((l.length+1)=(z1++([((4:Int),m)])).length∨(l.length+1)+1≤(z1++([((4:Int),m)])).length)∧(l.length+1)+1≤big)∧(((((l.length+1)+1)=((List.take (l.length+1) (z1++([((4:Int),m)])))++([((5:Int),m)])).length∨((l.length+1)+1)+1≤((List.take (l.length+1) (z1++([((4:Int),m)])))++([((5:Int),m)])).length)∧((l.length+1)+1)+1≤big)∧(zif (decide (s>(0:Int))) ((((((l.length+1)+1)+1)=((List.take ((l.length+1)+1) ((List.take (l.length+1) (z1++([((4:Int),m)])))++([((5:Int),m)])))++([((6:Int),m)])).length∨(((l.length+1)+1)+1)+1≤((List.take ((l.length+1)+1) ((List.take (l.length+1) (z1++([((4:Int),m)])))++([((5:Int),m)])))++([((6:Int),m)])).length)∧(((l.length+1)+1)+1)+1≤big)∧K (Zb (List.take ((((l.length+1)+1)+1)+1) ((List.take (((l.length+1)+1)+1) ((List.take ((l.length+1)+1) ((List.take (l.length+1) (z1++([((4:Int),m)])))++([((5:Int),m)])))++([((6:Int),m)])))++([((7:Int),m)]))))) (K (Zb (List.take (((l.length+1)+1)+1) ((List.take ((l.length+1)+1) ((List.take (l.length+1) (z1++([((4:Int),m)])))++([((5:Int),m)])))++([((6:Int),m)])))))))) ((((l.length+1)=(z1++([((4:Int),m)])).length∨(l.length+1)+1≤(z1++([((4:Int),m)])).length)∧(l.length+1)+1≤big)∧(zif (decide (s>(0:Int))) (((((l.length+1)+1)=((List.take (l.length+1) (z1++([((4:Int),m)])))++([((6:Int),m)])).length∨((l.length+1)+1)+1≤((List.take (l.length+1) (z1++([((4:Int),m)])))++([((6:Int),m)])).length)∧((l.length+1)+1)+1≤big)∧K (Zb (List.take (((l.length+1)+1)+1) ((List.take ((l.length+1)+1) ((List.take (l.length+1) (z1++([((4:Int),m)])))++([((6:Int),m)])))++([((7:Int),m)]))))) (K (Zb (List.take ((l.length+1)+1) ((List.take (l.length+1) (z1++([((4:Int),m)])))++([((6:Int),m)]))))))))) (zif redo (((l.length=l.length∨l.length+1≤l.length)∧l.length+1≤big)∧((((l.length+1)=(z1++([((5:Int),m)])).length∨(l.length+1)+1≤(z1++([((5:Int),m)])).length)∧(l.length+1)+1≤big)∧(zif (decide (s>(0:Int))) (((((l.length+1)+1)=((List.take (l.length+1) (z1++([((5:Int),m)])))++([((6:Int),m)])).length∨((l.length+1)+1)+1≤((List.take (l.length+1) (z1++([((5:Int),m)])))++([((6:Int),m)])).length)∧((l.length+1)+1)+1≤big)∧K (Zb (List.take (((l.length+1)+1)+1) ((List.take ((l.length+1)+1) ((List.take (l.length+1) (z1++([((5:Int),m)])))++([((6:Int),m)])))++([((7:Int),m)]))))) (K (Zb (List.take ((l.length+1)+1) ((List.take (l.length+1) (z1++([((5:Int),m)])))++([((6:Int),m)])))))))) (((l.length=l.length∨l.length+1≤l.length)∧l.length+1≤big)∧(zif (decide (s>(0:Int))) ((((l.length+1)=(z1++([((6:Int),m)])).length∨(l.length+1)+1≤(z1++([((6:Int),m)])).length)∧(l.length+1)+1≤big)∧K (Zb (List.take ((l.length+1)+1) ((List.take (l.length+1) (z1++([((6:Int),m)])))++([((7:Int),m)]))))) (K (Zb (List.take (l.length+1) (z1++([((6:Int),m)])))))))))):Hold (tawp Qgi (0+1) QeY (TQ 0 1 QfN K) (Qt [(.ow 151 Qb l),(.c TI stages),(.c TI s),(.c TI m),(.c .bool redo)])) :=
 Hold.of (by kernel_rfl) h
theorem Qig (l:List TIns) (stages:Int) (s:Int) (m:Int) (redo:Bool) (hp:JN l stages s m redo):TCon Try.prog 105 [(.ow 151 Qb l),(.c TI stages),(.c TI s),(.c TI m),(.c .bool redo)] (Zb (Yg l stages s m redo)):=by
 refine QE rfl fun hb=>tcg (n:=39) (sg:=Qbi.sg) QF TOk.nil (by kernel_rfl) (by kernel_rfl) (QfC _ l stages s m redo ?_)
 conv=>zeta
 obtain ⟨⟨h1,h2⟩,hl⟩:=hp
 have hw:w64 (stages-1)=stages-1:=QC (by omega) (by omega)
 have hb:l.length+100≤big:=by rw [Q0];omega
 rw [hw]
 unfold Yg Qs
 have hd:∀ k,List.take k (l++[])=List.take k l:=by intro k;rw [List.append_nil]
 by_cases c1:s<stages-1
 all_goals
  cases redo
  all_goals
   by_cases c3:0<s
   all_goals
    simp only [zif,gt_iff_lt,c1,c3,decide_true,decide_false,Bool.false_eq_true,true_implies,false_implies,true_and,and_true,reduceCtorEq,if_true,if_false,List.nil_append,List.append_nil]
    simp [zif,List.take_of_length_le,Q0]
    try omega
    try exact R_eq (by simp [List.take_of_length_le])
theorem Qgn:QB Try.prog Qbi:=QH fun x h=>Qig x.1 x.2.1 x.2.2.1 x.2.2.2.1 x.2.2.2.2.1 h
end
end Go.Proofs.Ytephkbajoofeoaa.Am

