/- -/
import Derived.Test.YtdplaepmjogjjaaGreatVEPE
import Derived.Test.YtdplaepmjogjjaaGreatVEP1
import Derived.Test.YtdplaepmjogjjaaGreatVEG9
namespace Go.Proofs.YtdplaepmjogjjaaGreat.Am
open Go Go.RowKit Go.Proofs.YtdplaepmjogjjaaGreat
set_option linter.all false
noncomputable section
variable (K:TRes→Prop)
def QbK (t:(List TIns)):TRes:=⟨(.r Qd 0 0 t.length),[(.sl 175 Qd .ow t)],[],false,[]⟩
def QgD:TRow:=Qg 211 [(.c TI),(.c TI),(.c TI)] fun x=>(some (p_st x.1 x.2.1 x.2.2.1),QbK (Q0 x.1 x.2.1 x.2.2.1))
def Qhx:TTab:=⟨[],false⟩
def Qsh:TCode :=
 (zsq [(.reg [zmv 16 7,zmv 17 2,zop 18 (.build (z0s Qd) [(0,1,(zki 2)),(1,1,17)]),zop 19 (.bsl 175 Qd [18]),zop 20 (.app 16 19 175 Qd),zmv 7 20]),(zsq [(.reg [zmv 21 1,zmv 22 0,zbi 23 .sub 22 (zki 1),zbi 24 .lss 21 23]),(.cond 24 (.reg [zmv 25 7,zmv 26 2,zop 27 (.build (z0s Qd) [(0,1,(zki 3)),(1,1,26)]),zop 28 (.bsl 175 Qd [27]),zop 29 (.app 25 28 175 Qd),zmv 7 29]) .skip)]),(.reg [zmv 30 7,zmv 6 30]),.ret])
def QwS:List (Nat × Md):=[(0,.one .d),(1,.one .d),(2,.one .d),(7,.one .f)]
def Qw4:TCode:=.wk QwS Qsh
def Qvr:TCode :=
 (zsq [(.reg [zmv 6 (.k (.n Qd))]),(.reg [zop 8 (.bsl 175 Qd []),zmv 7 8]),(zsq [(.reg [zmv 9 1,zbi 10 .gtr 9 (zki 0)]),(.cond 10 (.reg [zmv 11 7,zmv 12 2,zop 13 (.build (z0s Qd) [(0,1,(zki 1)),(1,1,12)]),zop 14 (.bsl 175 Qd [13]),zop 15 (.app 11 14 175 Qd),zmv 7 15]) .skip)]),Qw4])
def Qt9:List (ARv × Md):=[(.t 6,.one (.o 175))]
def Qyp:Qb:=TQ 0 0 Qt9 K
@[irreducible] def Qew (stages:Int) (s:Int) (m:Int) (l:List TIns):Prop:=tawp Qhx 0 Qsh (Qyp K) ⟨[(0,(zci stages)),(1,(zci s)),(2,(zci m)),(7,(.r Qd 0 0 l.length))],[(0,(.sl 175 Qd .ow l))],1⟩
theorem QDH (stages:Int) (s:Int) (m:Int) (l:List TIns) (h :
 (((l.length=l.length∨l.length+1≤l.length)∧l.length+1≤big)∧(zif (decide (s<(w64 (stages-(1:Int))))) ((((l.length+1)=((List.take l.length l)++([((2:Int),m)])).length∨(l.length+1)+1≤((List.take l.length l)++([((2:Int),m)])).length)∧(l.length+1)+1≤big)∧K (QbK (List.take ((l.length+1)+1) ((List.take (l.length+1) ((List.take l.length l)++([((2:Int),m)])))++([((3:Int),m)]))))) (K (QbK (List.take (l.length+1) ((List.take l.length l)++([((2:Int),m)])))))))):Hold (Qew K stages s m l) :=
 Hold.of (by kernel_rfl) h
theorem QxG (stages:Int) (s:Int) (m:Int) (h :
 (zif (decide (s>(0:Int))) (((0=0∨0+1≤0)∧0+1≤big)∧(Qew K stages s m (List.take (0+1) ([((1:Int),m)]:List TIns)))) (Qew K stages s m ([]:List TIns)))):Hold (tawp Qhx (0+0) Qvr (TQ 0 0 Qt9 K) (Qe [(.c TI stages),(.c TI s),(.c TI m)])) :=
 Hold.of (by kernel_rfl) h
theorem QIa (stages:Int) (s:Int) (m:Int) (hp:p_st stages s m):TCon Tryz.prog 211 [(.c TI stages),(.c TI s),(.c TI m)] (QbK (Q0 stages s m)):=by
 refine Ql rfl fun hb=>tcg (Γ:=Qhx) (n:=31) (sg:=QgD.sg) Qk TOkL.nil (by kernel_rfl) (by kernel_rfl) (QxG _ stages s m ?_)
 obtain ⟨h1,h2⟩:=hp
 have hw:w64 (stages-1)=stages-1:=Qx (by omega) (by omega)
 have key:∀ l:List TIns,l.length≤1→l++[(2,m)]++(if s<stages-1 then [(3,m)] else [])=(Q0 stages s m)→Qew (fun r'=>r'=QbK (Q0 stages s m)) stages s m l:=by
  intro l hl he
  refine (QDH (fun r'=>r'=QbK (Q0 stages s m)) stages s m l ?_).h
  rw [hw,← he]
  simp only [ZU]
  refine ⟨⟨by simp,by rw [Q3];omega⟩,fun h=>⟨⟨.inl (by simp),by rw [Q3];omega⟩,R_eq ?_⟩,fun h=>R_eq ?_⟩
  ·simp at h;simp [h,List.take_of_length_le]
  ·simp at h;simp [Int.not_lt.2 h]
 refine ⟨fun h=>⟨⟨.inl rfl,by rw [Q3];omega⟩,key _ (by simp) ?_⟩,fun h=>key _ (by simp) ?_⟩
 ·simp at h;simp [Q0,h]
 ·simp at h;simp [Q0,Int.not_lt.2 h]
theorem QwF:Qi Tryz.prog QgD:=Qm fun x h=>QIa x.1 x.2.1 x.2.2.1 h
def Jw (t:(List TIns)):TRes:=⟨(.r Qd 0 0 t.length),[(.sl 175 Qd .ow t)],[],false,[]⟩
def Qj4:TRow:=Qg 212 [(.c TI),(.c TI),(.c TI),(.c .bool)] fun x=>(some (QjQ x.1 x.2.1 x.2.2.1 x.2.2.2.1),Jw (Q7 x.1 x.2.1 x.2.2.1 x.2.2.2.1))
def Qgv:TTab:=⟨[],false⟩
def QoF:TCode :=
 (zsq [(.reg [zmv 26 9,zmv 27 2,zop 28 (.build (z0s Qd) [(0,1,(zki 6)),(1,1,27)]),zop 29 (.bsl 175 Qd [28]),zop 30 (.app 26 29 175 Qd),zmv 9 30]),(zsq [(.reg [zmv 31 1,zbi 32 .gtr 31 (zki 0)]),(.cond 32 (.reg [zmv 33 9,zmv 34 2,zop 35 (.build (z0s Qd) [(0,1,(zki 7)),(1,1,34)]),zop 36 (.bsl 175 Qd [35]),zop 37 (.app 33 36 175 Qd),zmv 9 37]) .skip)]),(.reg [zmv 38 9,zmv 8 38]),.ret])
def QGe:List (Nat × Md):=[(1,.one .d),(2,.one .d),(9,.one .f)]
def QDL:TCode:=.wk QGe QoF
def QtA:TCode :=
 (zsq [(zsq [(.reg [zmv 20 3]),(.cond 20 (.reg [zmv 21 9,zmv 22 2,zop 23 (.build (z0s Qd) [(0,1,(zki 5)),(1,1,22)]),zop 24 (.bsl 175 Qd [23]),zop 25 (.app 21 24 175 Qd),zmv 9 25]) .skip)]),QDL])
def Qwf:List (Nat × Md):=[(1,.one .d),(2,.one .d),(3,.one .d),(9,.one .f)]
def QwL:TCode:=.wk Qwf QtA
def QJl:TCode :=
 (zsq [(.reg [zmv 8 (.k (.n Qd))]),(.reg [zop 10 (.bsl 175 Qd []),zmv 9 10]),(zsq [(.reg [zmv 11 1,zmv 12 0,zbi 13 .sub 12 (zki 1),zbi 14 .lss 11 13]),(.cond 14 (.reg [zmv 15 9,zmv 16 2,zop 17 (.build (z0s Qd) [(0,1,(zki 4)),(1,1,16)]),zop 18 (.bsl 175 Qd [17]),zop 19 (.app 15 18 175 Qd),zmv 9 19]) .skip)]),QwL])
def Qrx:List (ARv × Md):=[(.t 8,.one (.o 175))]
def Qtl:Qb:=TQ 0 0 Qrx K
@[irreducible] def Qgk (s:Int) (m:Int) (l1:List TIns):Prop:=tawp Qgv 0 QoF (Qtl K) ⟨[(1,(zci s)),(2,(zci m)),(9,(.r Qd 0 0 l1.length))],[(0,(.sl 175 Qd .ow l1))],1⟩
@[irreducible] def QfX (s:Int) (m:Int) (redo:Bool) (l:List TIns):Prop:=tawp Qgv 0 QtA (Qtl K) ⟨[(1,(zci s)),(2,(zci m)),(3,(zcb redo)),(9,(.r Qd 0 0 l.length))],[(0,(.sl 175 Qd .ow l))],1⟩
theorem QBR (s:Int) (m:Int) (l1:List TIns) (h :
 (((l1.length=l1.length∨l1.length+1≤l1.length)∧l1.length+1≤big)∧(zif (decide (s>(0:Int))) ((((l1.length+1)=((List.take l1.length l1)++([((6:Int),m)])).length∨(l1.length+1)+1≤((List.take l1.length l1)++([((6:Int),m)])).length)∧(l1.length+1)+1≤big)∧K (Jw (List.take ((l1.length+1)+1) ((List.take (l1.length+1) ((List.take l1.length l1)++([((6:Int),m)])))++([((7:Int),m)]))))) (K (Jw (List.take (l1.length+1) ((List.take l1.length l1)++([((6:Int),m)])))))))):Hold (Qgk K s m l1) :=
 Hold.of (by kernel_rfl) h
theorem QvR (s:Int) (m:Int) (redo:Bool) (l:List TIns) (h :
 (zif redo (((l.length=l.length∨l.length+1≤l.length)∧l.length+1≤big)∧(Qgk K s m (List.take (l.length+1) ((List.take l.length l)++([((5:Int),m)]))))) (Qgk K s m (List.take l.length l)))):Hold (QfX K s m redo l) :=
 Hold.of (by kernel_rfl) h
theorem QHW (stages:Int) (s:Int) (m:Int) (redo:Bool) (h :
 (zif (decide (s<(w64 (stages-(1:Int))))) (((0=0∨0+1≤0)∧0+1≤big)∧(QfX K s m redo (List.take (0+1) ([((4:Int),m)]:List TIns)))) (QfX K s m redo ([]:List TIns)))):Hold (tawp Qgv (0+0) QJl (TQ 0 0 Qrx K) (Qe [(.c TI stages),(.c TI s),(.c TI m),(.c .bool redo)])) :=
 Hold.of (by kernel_rfl) h
theorem QFI (stages:Int) (s:Int) (m:Int) (redo:Bool) (hp:QjQ stages s m redo):TCon Tryz.prog 212 [(.c TI stages),(.c TI s),(.c TI m),(.c .bool redo)] (Jw (Q7 stages s m redo)):=by
 refine Ql rfl fun hb=>tcg (Γ:=Qgv) (n:=39) (sg:=Qj4.sg) Qk TOkL.nil (by kernel_rfl) (by kernel_rfl) (QHW _ stages s m redo ?_)
 obtain ⟨h1,h2⟩:=hp
 have hw:w64 (stages-1)=stages-1:=Qx (by omega) (by omega)
 have key2:∀ l:List TIns,l.length≤2→l++[(6,m)]++(if 0<s then [(7,m)] else [])=(Q7 stages s m redo)→Qgk (fun r'=>r'=Jw (Q7 stages s m redo)) s m l:=by
  intro l hl he
  refine (QBR (fun r'=>r'=Jw (Q7 stages s m redo)) s m l ?_).h
  rw [← he]
  simp only [ZU]
  refine ⟨⟨by simp,by rw [Q3];omega⟩,fun h=>⟨⟨.inl (by simp),by rw [Q3];omega⟩,R_eq ?_⟩,fun h=>R_eq ?_⟩
  ·simp at h;simp [h,List.take_of_length_le]
  ·simp at h;simp [Int.not_lt.2 h]
 have key:∀ l:List TIns,l.length≤1→l++(if redo then [(5,m)] else [])++[(6,m)]++(if 0<s then [(7,m)] else [])=(Q7 stages s m redo)→QfX (fun r'=>r'=Jw (Q7 stages s m redo)) s m redo l:=by
  intro l hl he
  refine (QvR (fun r'=>r'=Jw (Q7 stages s m redo)) s m redo l ⟨fun h=>⟨⟨.inl rfl,by rw [Q3];omega⟩,key2 _ (by simp;omega) ?_⟩,fun h=>key2 _ (by simp;omega) ?_⟩).h
  ·rw [← he,ZU,h];simp
  ·rw [← he,List.take_length,h];simp
 rw [hw]
 refine ⟨fun h=>⟨⟨.inl rfl,by rw [Q3];omega⟩,key _ (by simp) ?_⟩,fun h=>key _ (by simp) ?_⟩
 ·simp at h;simp [Q7,h]
 ·simp at h;simp [Q7,Int.not_lt.2 h]
theorem QCR:Qi Tryz.prog Qj4:=Qm fun x h=>QFI x.1 x.2.1 x.2.2.1 x.2.2.2.1 h
def Qbd (t:(List TIns)):TRes:=⟨(.r Qd 0 0 t.length),[(.sl 175 Qd .ow t)],[],true,[.dead]⟩
def Qhi:TRow:=Qg 203 [(.o 175 Qd),(.c TI),(.c TI),(.c TI)] fun x=>(some (p_l9 x.1 x.2.1 x.2.2.1 x.2.2.2.1),Qbd (QaP x.1 x.2.1 x.2.2.1 x.2.2.2.1))
def QmQ:TTab:=⟨[],false⟩
def Qzj:TCode :=
 (zsq [(.reg [zmv 8 (.k (.n Qd))]),(zsq [(.reg [zmv 9 2,zbi 10 .gtr 9 (zki 0)]),(.cond 10 (.reg [zmv 11 0,zmv 12 3,zop 13 (.build (z0s Qd) [(0,1,(zki 1)),(1,1,12)]),zop 14 (.bsl 175 Qd [13]),zop 15 (.app 11 14 175 Qd),zmv 0 15]) .skip)]),(.reg [zmv 16 0,zmv 17 3,zop 18 (.build (z0s Qd) [(0,1,(zki 2)),(1,1,17)]),zop 19 (.bsl 175 Qd [18]),zop 20 (.app 16 19 175 Qd),zmv 0 20]),(zsq [(.reg [zmv 21 2,zmv 22 1,zbi 23 .sub 22 (zki 1),zbi 24 .lss 21 23]),(.cond 24 (.reg [zmv 25 0,zmv 26 3,zop 27 (.build (z0s Qd) [(0,1,(zki 3)),(1,1,26)]),zop 28 (.bsl 175 Qd [27]),zop 29 (.app 25 28 175 Qd),zmv 0 29]) .skip)]),(.reg [zmv 30 0,zmv 8 30]),.ret])
def Qx3:List (ARv × Md):=[(.t 8,.one (.o 175))]
theorem QDg (l:List TIns) (stages:Int) (s:Int) (m:Int) (h :
 (zif (decide (s>(0:Int))) (((l.length=l.length∨l.length+1≤l.length)∧l.length+1≤big)∧((((l.length+1)=((List.take l.length l)++([((1:Int),m)])).length∨(l.length+1)+1≤((List.take l.length l)++([((1:Int),m)])).length)∧(l.length+1)+1≤big)∧(zif (decide (s<(w64 (stages-(1:Int))))) (((((l.length+1)+1)=((List.take (l.length+1) ((List.take l.length l)++([((1:Int),m)])))++([((2:Int),m)])).length∨((l.length+1)+1)+1≤((List.take (l.length+1) ((List.take l.length l)++([((1:Int),m)])))++([((2:Int),m)])).length)∧((l.length+1)+1)+1≤big)∧K (Qbd (List.take (((l.length+1)+1)+1) ((List.take ((l.length+1)+1) ((List.take (l.length+1) ((List.take l.length l)++([((1:Int),m)])))++([((2:Int),m)])))++([((3:Int),m)]))))) (K (Qbd (List.take ((l.length+1)+1) ((List.take (l.length+1) ((List.take l.length l)++([((1:Int),m)])))++([((2:Int),m)])))))))) (((l.length=l.length∨l.length+1≤l.length)∧l.length+1≤big)∧(zif (decide (s<(w64 (stages-(1:Int))))) ((((l.length+1)=((List.take l.length l)++([((2:Int),m)])).length∨(l.length+1)+1≤((List.take l.length l)++([((2:Int),m)])).length)∧(l.length+1)+1≤big)∧K (Qbd (List.take ((l.length+1)+1) ((List.take (l.length+1) ((List.take l.length l)++([((2:Int),m)])))++([((3:Int),m)]))))) (K (Qbd (List.take (l.length+1) ((List.take l.length l)++([((2:Int),m)]))))))))):Hold (tawp QmQ (0+1) Qzj (TQ 0 1 Qx3 K) (Qe [(.ow 175 Qd .ow l),(.c TI stages),(.c TI s),(.c TI m)])) :=
 Hold.of (by kernel_rfl) h
theorem QHz (l:List TIns) (stages:Int) (s:Int) (m:Int) (hp:p_l9 l stages s m):TCon Tryz.prog 203 [(.ow 175 Qd .ow l),(.c TI stages),(.c TI s),(.c TI m)] (Qbd (QaP l stages s m)):=by
 refine Ql rfl fun hb=>tcg (Γ:=QmQ) (n:=31) (sg:=Qhi.sg) Qk TOkL.nil (by kernel_rfl) (by kernel_rfl) (QDg _ l stages s m ?_)
 obtain ⟨⟨h1,h2⟩,hl⟩:=hp
 have hw:w64 (stages-1)=stages-1:=Qx (by omega) (by omega)
 have hb:l.length+100≤big:=by rw [Q3];omega
 rw [hw]
 unfold QaP Q0
 refine ⟨fun h=>?_,fun h=>?_⟩
 all_goals
  simp at h
  first | have h0:0<s:=h | have h0:¬ 0<s:=by omega
  refine ⟨⟨.inl rfl,by omega⟩,?_⟩
  first
  | refine ⟨⟨.inl (by simp),by omega⟩,fun h3=>⟨⟨.inl (by simp),by omega⟩,R_eq ?_⟩,fun h3=>R_eq ?_⟩
  | refine ⟨fun h3=>⟨⟨.inl (by simp),by omega⟩,R_eq ?_⟩,fun h3=>R_eq ?_⟩
  all_goals
   simp at h3
   first | have h4:s<stages-1:=h3 | have h4:¬ s<stages-1:=by omega
   simp [h0,h4,List.take_of_length_le]
theorem QEj:Qi Tryz.prog Qhi:=Qm fun x h=>QHz x.1 x.2.1 x.2.2.1 x.2.2.2.1 h
def YZ (t:(List TIns)):TRes:=⟨(.r Qd 0 0 t.length),[(.sl 175 Qd .ow t)],[],true,[.dead]⟩
def Qhy:TRow:=Qg 204 [(.o 175 Qd),(.c TI),(.c TI),(.c TI),(.c .bool)] fun x=>(some (QgA x.1 x.2.1 x.2.2.1 x.2.2.2.1 x.2.2.2.2.1),YZ (QbA x.1 x.2.1 x.2.2.1 x.2.2.2.1 x.2.2.2.2.1))
def Qmf:TTab:=⟨[],false⟩
def QJA:TCode :=
 (zsq [(.reg [zmv 10 (.k (.n Qd))]),(zsq [(.reg [zmv 11 2,zmv 12 1,zbi 13 .sub 12 (zki 1),zbi 14 .lss 11 13]),(.cond 14 (.reg [zmv 15 0,zmv 16 3,zop 17 (.build (z0s Qd) [(0,1,(zki 4)),(1,1,16)]),zop 18 (.bsl 175 Qd [17]),zop 19 (.app 15 18 175 Qd),zmv 0 19]) .skip)]),(zsq [(.reg [zmv 20 4]),(.cond 20 (.reg [zmv 21 0,zmv 22 3,zop 23 (.build (z0s Qd) [(0,1,(zki 5)),(1,1,22)]),zop 24 (.bsl 175 Qd [23]),zop 25 (.app 21 24 175 Qd),zmv 0 25]) .skip)]),(.reg [zmv 26 0,zmv 27 3,zop 28 (.build (z0s Qd) [(0,1,(zki 6)),(1,1,27)]),zop 29 (.bsl 175 Qd [28]),zop 30 (.app 26 29 175 Qd),zmv 0 30]),(zsq [(.reg [zmv 31 2,zbi 32 .gtr 31 (zki 0)]),(.cond 32 (.reg [zmv 33 0,zmv 34 3,zop 35 (.build (z0s Qd) [(0,1,(zki 7)),(1,1,34)]),zop 36 (.bsl 175 Qd [35]),zop 37 (.app 33 36 175 Qd),zmv 0 37]) .skip)]),(.reg [zmv 38 0,zmv 10 38]),.ret])
def Qwh:List (ARv × Md):=[(.t 10,.one (.o 175))]
theorem QGU (l:List TIns) (stages:Int) (s:Int) (m:Int) (redo:Bool) (h :
 let z1:=List.take l.length l
 (zif (decide (s<(w64 (stages-(1:Int))))) (((l.length=l.length∨l.length+1≤l.length)∧l.length+1≤big)∧(zif redo ((((l.length+1)=(z1++([((4:Int),m)])).length∨(l.length+1)+1≤(z1++([((4:Int),m)])).length)∧(l.length+1)+1≤big)∧(((((l.length+1)+1)=((List.take (l.length+1) (z1++([((4:Int),m)])))++([((5:Int),m)])).length∨((l.length+1)+1)+1≤((List.take (l.length+1) (z1++([((4:Int),m)])))++([((5:Int),m)])).length)∧((l.length+1)+1)+1≤big)∧(zif (decide (s>(0:Int))) ((((((l.length+1)+1)+1)=((List.take ((l.length+1)+1) ((List.take (l.length+1) (z1++([((4:Int),m)])))++([((5:Int),m)])))++([((6:Int),m)])).length∨(((l.length+1)+1)+1)+1≤((List.take ((l.length+1)+1) ((List.take (l.length+1) (z1++([((4:Int),m)])))++([((5:Int),m)])))++([((6:Int),m)])).length)∧(((l.length+1)+1)+1)+1≤big)∧K (YZ (List.take ((((l.length+1)+1)+1)+1) ((List.take (((l.length+1)+1)+1) ((List.take ((l.length+1)+1) ((List.take (l.length+1) (z1++([((4:Int),m)])))++([((5:Int),m)])))++([((6:Int),m)])))++([((7:Int),m)]))))) (K (YZ (List.take (((l.length+1)+1)+1) ((List.take ((l.length+1)+1) ((List.take (l.length+1) (z1++([((4:Int),m)])))++([((5:Int),m)])))++([((6:Int),m)])))))))) ((((l.length+1)=(z1++([((4:Int),m)])).length∨(l.length+1)+1≤(z1++([((4:Int),m)])).length)∧(l.length+1)+1≤big)∧(zif (decide (s>(0:Int))) (((((l.length+1)+1)=((List.take (l.length+1) (z1++([((4:Int),m)])))++([((6:Int),m)])).length∨((l.length+1)+1)+1≤((List.take (l.length+1) (z1++([((4:Int),m)])))++([((6:Int),m)])).length)∧((l.length+1)+1)+1≤big)∧K (YZ (List.take (((l.length+1)+1)+1) ((List.take ((l.length+1)+1) ((List.take (l.length+1) (z1++([((4:Int),m)])))++([((6:Int),m)])))++([((7:Int),m)]))))) (K (YZ (List.take ((l.length+1)+1) ((List.take (l.length+1) (z1++([((4:Int),m)])))++([((6:Int),m)]))))))))) (zif redo (((l.length=l.length∨l.length+1≤l.length)∧l.length+1≤big)∧((((l.length+1)=(z1++([((5:Int),m)])).length∨(l.length+1)+1≤(z1++([((5:Int),m)])).length)∧(l.length+1)+1≤big)∧(zif (decide (s>(0:Int))) (((((l.length+1)+1)=((List.take (l.length+1) (z1++([((5:Int),m)])))++([((6:Int),m)])).length∨((l.length+1)+1)+1≤((List.take (l.length+1) (z1++([((5:Int),m)])))++([((6:Int),m)])).length)∧((l.length+1)+1)+1≤big)∧K (YZ (List.take (((l.length+1)+1)+1) ((List.take ((l.length+1)+1) ((List.take (l.length+1) (z1++([((5:Int),m)])))++([((6:Int),m)])))++([((7:Int),m)]))))) (K (YZ (List.take ((l.length+1)+1) ((List.take (l.length+1) (z1++([((5:Int),m)])))++([((6:Int),m)])))))))) (((l.length=l.length∨l.length+1≤l.length)∧l.length+1≤big)∧(zif (decide (s>(0:Int))) ((((l.length+1)=(z1++([((6:Int),m)])).length∨(l.length+1)+1≤(z1++([((6:Int),m)])).length)∧(l.length+1)+1≤big)∧K (YZ (List.take ((l.length+1)+1) ((List.take (l.length+1) (z1++([((6:Int),m)])))++([((7:Int),m)]))))) (K (YZ (List.take (l.length+1) (z1++([((6:Int),m)])))))))))):Hold (tawp Qmf (0+1) QJA (TQ 0 1 Qwh K) (Qe [(.ow 175 Qd .ow l),(.c TI stages),(.c TI s),(.c TI m),(.c .bool redo)])) :=
 Hold.of (by kernel_rfl) h
theorem QzF (l:List TIns) (stages:Int) (s:Int) (m:Int) (redo:Bool) (hp:QgA l stages s m redo):TCon Tryz.prog 204 [(.ow 175 Qd .ow l),(.c TI stages),(.c TI s),(.c TI m),(.c .bool redo)] (YZ (QbA l stages s m redo)):=by
 refine Ql rfl fun hb=>tcg (Γ:=Qmf) (n:=39) (sg:=Qhy.sg) Qk TOkL.nil (by kernel_rfl) (by kernel_rfl) (QGU _ l stages s m redo ?_)
 conv=>zeta
 obtain ⟨⟨h1,h2⟩,hl⟩:=hp
 have hw:w64 (stages-1)=stages-1:=Qx (by omega) (by omega)
 have hb:l.length+100≤big:=by rw [Q3];omega
 rw [hw]
 unfold QbA Q7
 have hd:∀ k,List.take k (l++[])=List.take k l:=by intro k;rw [List.append_nil]
 by_cases c1:s<stages-1
 all_goals
  cases redo
  all_goals
   by_cases c3:0<s
   all_goals
    simp only [zif,gt_iff_lt,c1,c3,decide_true,decide_false,Bool.false_eq_true,true_implies,false_implies,true_and,and_true,reduceCtorEq,if_true,if_false,List.nil_append,List.append_nil]
    simp [zif,List.take_of_length_le,Q3]
    try omega
    try exact R_eq (by simp [List.take_of_length_le])
theorem QAW:Qi Tryz.prog Qhy:=Qm fun x h=>QzF x.1 x.2.1 x.2.2.1 x.2.2.2.1 x.2.2.2.2.1 h
def Yf (t:(List TIns)):TRes:=⟨(.r Qd 0 0 t.length),[(.sl 175 Qd .ow t)],[],false,[]⟩
def Qjf:TRow:=Qg 129 [(.c TI),(.c TI),(.c TI),(.c TI),(.c .bool)] fun x=>(none,Yf (QT x.1 x.2.1 x.2.2.1 x.2.2.2.1 x.2.2.2.2.1))
def Y3:TTab:=⟨[Qgg,Qkv,QgD,Qj4],false⟩
def Qsa:TCode :=
 (zsq [(zsq [(.reg [zmv 34 13,zmv 35 11,zbi 36 .lss 34 35]),(.cond 36 .skip (.exit 0))]),(.block 1 (.reg [zmv 39 12,zmv 40 1,zmv 41 2,zmv 42 13,zca 43 211 [40,41,42],zop 44 (.app 39 43 175 Qd),zmv 12 44])),(.reg [zmv 37 13,zbi 38 .add 37 (zki 1),zmv 13 38])])
def QrP:List (Nat × Md):=[(1,.one .d),(2,.one .d),(3,.one .d),(4,.one .d),(11,.one .d),(12,.one .f),(13,.one .d)]
def Qle:TCode :=
 (.reg [zmv 63 12,zmv 64 1,zmv 65 2,zmv 66 14,zmv 67 4,zca 68 212 [64,65,66,67],zop 69 (.app 63 68 175 Qd),zmv 12 69])
def QIX:List (Nat × Md):=[(1,.one .d),(2,.one .d),(3,.one .d),(4,.one .d),(11,.one .d),(12,.one .f),(14,.one .d)]
def QBb:TCode:=.wk QIX Qle
def QuU:TCode :=
 (.reg [zmv 48 14,zbi 49 .add 48 (zki 1),zmv 14 49])
def Qi4:TCode :=
 (zsq [(zsq [(.reg [zmv 45 14,zmv 46 3,zbi 47 .lss 45 46]),(.cond 47 .skip (.exit 2))]),(.block 3 (zsq [(zsq [(.reg [zmv 50 14,zmv 51 11,zbi 52 .add 50 51,zmv 53 3,zbi 54 .lss 52 53]),(.cond 54 (.reg [zmv 55 12,zmv 56 1,zmv 57 2,zmv 58 14,zmv 59 11,zbi 60 .add 58 59,zca 61 211 [56,57,60],zop 62 (.app 55 61 175 Qd),zmv 12 62]) .skip)]),QBb])),QuU])
def Qd1:List (Nat × Md):=[(1,.one .d),(2,.one .d),(3,.one .d),(4,.one .d),(11,.one .d),(12,.one .f),(14,.one .d)]
def QkO:TCode :=
 (zsq [(.reg [zmv 70 12,zop 71 (.build (z0s Qd) [(0,1,(zki 8)),(1,1,(zki 0))]),zop 72 (.bsl 175 Qd [71]),zop 73 (.app 70 72 175 Qd),zmv 10 73]),.ret])
def QlS:TCode :=
 (zsq [(zsq [(.reg [zmv 14 (zki 0)]),(.block 2 (.loop Qd1 Qi4))]),QkO])
def QCT:TCode :=
 (zsq [(.reg [zmv 10 (.k (.n Qd))]),(zsq [(.reg [zmv 15 0,zbi 16 .neq 15 (zki 1),zmv 17 16,.grp 17 true [zmv 18 0,zbi 19 .neq 18 (zki 2)] 20 19,zmv 21 20,.grp 21 false [zmv 22 1,zmv 23 2,zmv 24 3,zca 25 209 [22,23,24],zno 26 25] 27 26]),(.cond 27 (zsq [(.reg [zmv 10 (.k (.n Qd))]),.ret]) .skip)]),(.reg [zmv 28 0,zmv 29 1,zmv 30 2,zmv 31 3,zca 32 210 [28,29,30,31],zmv 11 32]),(.reg [zop 33 (.bsl 175 Qd []),zmv 12 33]),(zsq [(.reg [zmv 13 (zki 0)]),(.block 0 (.loop QrP Qsa))]),QlS])
def QtL:List (ARv × Md):=[(.t 10,.one (.o 175))]
def Qgt:Qb:=TQ 0 0 QtL K
def Qvo:Qb:=Qseq (tawp Y3 0 QkO (Qgt K)) (Qgt K)
def QgK:Qb:=Qblk 2 (Qvo K)
def Qnb:Qb:=Qseq (fun s'=>Loop Y3 0 Qd1 Qi4 (QgK K) (gc 0 Qd1 s')) (QgK K)
def Qu8:Qb:=Qseq (tawp Y3 0 QuU (Qnb K)) (Qnb K)
def QAG:Qb:=Qblk 3 (Qu8 K)
@[irreducible] def Qgi (ds:Int) (stages:Int) (s:Int) (micro:Int) (redo:Bool) (l1:List TIns) (m1:Int):Prop:=tawp Y3 0 Qle (QAG K) ⟨[(1,(zci stages)),(2,(zci s)),(3,(zci micro)),(4,(zcb redo)),(11,(zci (QU ds stages s micro))),(12,(.r Qd 0 0 l1.length)),(14,(zci m1))],[(0,(.sl 175 Qd .ow l1))],1⟩
def Qb1 (ds:Int) (stages:Int) (s:Int) (micro:Int) (redo:Bool) (m1:Int) (l2:List TIns):Prop:=Loop Y3 0 Qd1 Qi4 (QgK K) ⟨[(1,(zci stages)),(2,(zci s)),(3,(zci micro)),(4,(zcb redo)),(11,(zci (QU ds stages s micro))),(12,(.r Qd 0 0 l2.length)),(14,(zci m1))],[(0,(.sl 175 Qd .ow l2))],1⟩
def QCs:Qb:=Qseq (tawp Y3 0 QlS (Qgt K)) (Qgt K)
def QA2:Qb:=Qblk 0 (QCs K)
def QfL (ds:Int) (stages:Int) (s:Int) (micro:Int) (redo:Bool) (m:Int) (l:List TIns):Prop:=Loop Y3 0 QrP Qsa (QA2 K) ⟨[(1,(zci stages)),(2,(zci s)),(3,(zci micro)),(4,(zcb redo)),(11,(zci (QU ds stages s micro))),(12,(.r Qd 0 0 l.length)),(13,(zci m))],[(0,(.sl 175 Qd .ow l))],1⟩
theorem Qyl (ds:Int) (stages:Int) (s:Int) (micro:Int) (redo:Bool) (l1:List TIns) (m1:Int) (h :
 (((QjQ stages s m1 redo)∧((l1.length=l1.length∨l1.length+(List.take ((Q7 stages s m1 redo).length) (List.drop 0 (Q7 stages s m1 redo))).length≤l1.length)∧l1.length+(List.take ((Q7 stages s m1 redo).length) (List.drop 0 (Q7 stages s m1 redo))).length≤big))∧(Qb1 K ds stages s micro redo (w64 (m1+(1:Int))) (List.take (l1.length+(List.take ((Q7 stages s m1 redo).length) (List.drop 0 (Q7 stages s m1 redo))).length) ((List.take l1.length l1)++(List.take ((Q7 stages s m1 redo).length) (List.drop 0 (Q7 stages s m1 redo)))))))):Hold (Qgi K ds stages s micro redo l1 m1) :=
 Hold.of (by kernel_rfl) h
theorem Ql2 (ds:Int) (stages:Int) (s:Int) (micro:Int) (redo:Bool) (m1:Int) (l2:List TIns) (h :
 let z2:=w64 (m1+(QU ds stages s micro))
 let z1:=List.take ((Q0 stages s z2).length) (List.drop 0 (Q0 stages s z2))
 let z3:=List.take l2.length l2
 (zif (decide (m1<micro)) (zif (decide (z2<micro)) (((p_st stages s z2)∧((l2.length=l2.length∨l2.length+z1.length≤l2.length)∧l2.length+z1.length≤big))∧(Qgi K ds stages s micro redo (List.take (l2.length+z1.length) (z3++z1)) m1)) (Qgi K ds stages s micro redo z3 m1)) (((l2.length=l2.length∨l2.length+1≤l2.length)∧l2.length+1≤big)∧K (Yf (List.take (l2.length+1) (z3++([((8:Int),(0:Int))]))))))):Qb1 K ds stages s micro redo m1 l2 :=
 Loop.of (by kernel_rfl) h
theorem Qsk (ds:Int) (stages:Int) (s:Int) (micro:Int) (redo:Bool) (m:Int) (l:List TIns) (h :
 (zif (decide (m<(QU ds stages s micro))) (((p_st stages s m)∧((l.length=l.length∨l.length+(List.take ((Q0 stages s m).length) (List.drop 0 (Q0 stages s m))).length≤l.length)∧l.length+(List.take ((Q0 stages s m).length) (List.drop 0 (Q0 stages s m))).length≤big))∧(QfL K ds stages s micro redo (w64 (m+(1:Int))) (List.take (l.length+(List.take ((Q0 stages s m).length) (List.drop 0 (Q0 stages s m))).length) ((List.take l.length l)++(List.take ((Q0 stages s m).length) (List.drop 0 (Q0 stages s m))))))) (Qb1 K ds stages s micro redo 0 (List.take l.length l)))):QfL K ds stages s micro redo m l :=
 Loop.of (by kernel_rfl) h
theorem QA5 (ds:Int) (stages:Int) (s:Int) (micro:Int) (redo:Bool) (h :
 (zif (((ds != (1:Int))&&(ds != (2:Int)))||(!(QV stages s micro))) (K (Yf ([]:List TIns))) (QfL K ds stages s micro redo 0 ([]:List TIns)))):Hold (tawp Y3 (0+0) QCT (TQ 0 0 QtL K) (Qe [(.c TI ds),(.c TI stages),(.c TI s),(.c TI micro),(.c .bool redo)])) :=
 Hold.of (by kernel_rfl) h
theorem Qv4 (ds:Int) (stages:Int) (s:Int) (micro:Int) (redo:Bool):TCon Tryz.prog 129 [(.c TI ds),(.c TI stages),(.c TI s),(.c TI micro),(.c .bool redo)] (Yf (QT ds stages s micro redo)):=by
 refine Ql rfl fun hb=>tcg (Γ:=Y3) (n:=74) (sg:=Qjf.sg) Qk (TOkL.cons QmI (TOkL.cons QB4 (TOkL.cons QwF (TOkL.cons QCR TOkL.nil)))) (by kernel_rfl) (by kernel_rfl) (QA5 _ ds stages s micro redo ?_)
 rw [QAS]
 by_cases hp:(m_in ds 1 2&&QV stages s micro)=true
 case neg =>
  rw [show (m_in ds 1 2&&QV stages s micro)=false by simpa using hp]
  exact ⟨fun _=>R_eq (Qkm hp).symm,fun h=>by simp at h⟩
 rw [hp]
 refine ⟨fun h=>by simp at h,fun _=>?_⟩
 have hq:QV stages s micro=true:=by simp only [Bool.and_eq_true] at hp;exact hp.2
 have hr:=Qf5.1 hq
 have hM:=Qif (redo:=redo) hp
 obtain ⟨w,hw⟩:∃ w:Nat,QU ds stages s micro=w:=⟨_,(Int.toNat_of_nonneg (Qcb hq).1).symm⟩
 have hw5:=(Qcb (ds:=ds) hq).2
 rw [hw] at hM hw5
 rw [Int.toNat_natCast] at hM
 refine Qbv w (fun k=>QfL (fun r'=>r'=Yf (QT ds stages s micro redo)) ds stages s micro redo (k:Int) (Yi stages s k)) ?_ ?_
 ·refine Qsk (fun r'=>r'=Yf (QT ds stages s micro redo)) ds stages s micro redo _ _ ⟨fun h=>by simp [hw] at h,fun _=>?_⟩
  rw [List.take_length]
  suffices h:Qb1 (fun r'=>r'=Yf (QT ds stages s micro redo)) ds stages s micro redo ((0:Nat):Int) (Yi stages s w++Yr stages s micro redo w 0) by
   rw [show Yr stages s micro redo w 0=[] from rfl,List.append_nil] at h;exact h
  refine Qbv micro.toNat (fun k=>Qb1 (fun r'=>r'=Yf (QT ds stages s micro redo)) ds stages s micro redo (k:Int) (Yi stages s w++Yr stages s micro redo w k)) ?_ ?_
  ·have h1:=Qap stages s w
   have h2:=Qcx stages s micro redo w micro.toNat
   refine Ql2 (fun r'=>r'=Yf (QT ds stages s micro redo)) ds stages s micro redo _ _ ⟨fun h=>by simp at h;omega,fun _=>⟨⟨.inl rfl,by rw [List.length_append,Q3];omega⟩,R_eq ?_⟩⟩
   rw [ZU,hM]
  ·intro k hk ih
   have h1:=Qap stages s w
   have h2:=Qcx stages s micro redo w k
   have key:∀ l:List TIns,l=Yi stages s w++Yr stages s micro redo w k++(if (k:Int)+w<micro then Q0 stages s ((k:Int)+w) else [])→Qgi (fun r'=>r'=Yf (QT ds stages s micro redo)) ds stages s micro redo l (k:Int):=by
    intro l hl
    have h3:=QgU stages s k redo
    have h4:=Jx stages s ((k:Int)+w)
    have h5:l.length≤1000:=by rw [hl];split <;> simp only [List.length_append,List.length_nil] <;> omega
    refine (Qyl (fun r'=>r'=Yf (QT ds stages s micro redo)) ds stages s micro redo l _ ⟨⟨⟨by omega,by omega⟩,QiO (by omega)⟩,?_⟩).h
    rw [Qks,sc1 (by omega)]
    rw [Qrf] at ih
    rw [hl,List.append_assoc,List.append_assoc]
    unfold Qb4 at ih
    exact ih
   refine Ql2 (fun r'=>r'=Yf (QT ds stages s micro redo)) ds stages s micro redo _ _ ⟨fun _=>?_,fun h=>by simp at h;omega⟩
   rw [hw,Qx (x:=(k:Int)+w) (by omega) (by omega)]
   have h4:=Jx stages s ((k:Int)+w)
   refine ⟨fun h=>⟨⟨⟨by omega,by omega⟩,QiO (by rw [List.length_append];omega)⟩,key _ ?_⟩,fun h=>key _ ?_⟩
   ·rw [Qks,if_pos (of_decide_eq_true h)]
   ·rw [if_neg (of_decide_eq_false h),List.take_length,List.append_nil]
 ·intro k hk ih
  have h1:=Qap stages s k
  have h4:=Jx stages s k
  refine Qsk (fun r'=>r'=Yf (QT ds stages s micro redo)) ds stages s micro redo _ _ ⟨fun _=>⟨⟨⟨by omega,by omega⟩,QiO (by omega)⟩,?_⟩,fun h=>by simp [hw] at h;omega⟩
  rw [Qks,sc1 (by omega),← QnG]
  exact ih
theorem Qwx:Qi Tryz.prog Qjf:=Qm fun x _=>Qv4 x.1 x.2.1 x.2.2.1 x.2.2.2.1 x.2.2.2.2.1
def Ye (t:(List TIns)):TRes:=⟨(.r Qd 0 0 t.length),[(.sl 175 Qd .ow t)],[],false,[]⟩
def Qie:TRow:=Qg 121 [(.c TI),(.c TI),(.c TI),(.c TI),(.c .bool)] fun x=>(none,Ye (QT x.1 x.2.1 x.2.2.1 x.2.2.2.1 x.2.2.2.2.1))
def Jm:TTab:=⟨[ZQ,QiE,Qhi,Qhy],false⟩
def QkU:TCode :=
 (zsq [(zsq [(.reg [zmv 42 13,zmv 43 12,zbi 44 .lss 42 43]),(.cond 44 .skip (.exit 0))]),(.block 1 (.reg [zmv 47 11,zmv 48 1,zmv 49 2,zmv 50 13,zca 51 203 [47,48,49,50],zmv 11 51])),(.reg [zmv 45 13,zbi 46 .add 45 (zki 1),zmv 13 46])])
def Ql8:List (Nat × Md):=[(1,.one .d),(2,.one .d),(3,.one .d),(4,.one .d),(11,.one .f),(12,.one .d),(13,.one .d)]
def QpH:TCode :=
 (.reg [zmv 69 11,zmv 70 1,zmv 71 2,zmv 72 14,zmv 73 4,zca 74 204 [69,70,71,72,73],zmv 11 74])
def Qxj:List (Nat × Md):=[(1,.one .d),(2,.one .d),(3,.one .d),(4,.one .d),(11,.one .f),(12,.one .d),(14,.one .d)]
def QGs:TCode:=.wk Qxj QpH
def Qpu:TCode :=
 (.reg [zmv 55 14,zbi 56 .add 55 (zki 1),zmv 14 56])
def QkG:TCode :=
 (zsq [(zsq [(.reg [zmv 52 14,zmv 53 3,zbi 54 .lss 52 53]),(.cond 54 .skip (.exit 2))]),(.block 3 (zsq [(zsq [(.reg [zmv 57 12,zmv 58 14,zbi 59 .add 57 58,zmv 60 3,zbi 61 .lss 59 60]),(.cond 61 (.reg [zmv 62 11,zmv 63 1,zmv 64 2,zmv 65 12,zmv 66 14,zbi 67 .add 65 66,zca 68 203 [62,63,64,67],zmv 11 68]) .skip)]),QGs])),Qpu])
def QeE:List (Nat × Md):=[(1,.one .d),(2,.one .d),(3,.one .d),(4,.one .d),(11,.one .f),(12,.one .d),(14,.one .d)]
def QuC:TCode :=
 (zsq [(.reg [zmv 75 11,zop 76 (.build (z0s Qd) [(0,1,(zki 8))]),zop 77 (.bsl 175 Qd [76]),zop 78 (.app 75 77 175 Qd),zmv 10 78]),.ret])
def Qt8:TCode :=
 (zsq [(zsq [(.reg [zmv 14 (zki 0)]),(.block 2 (.loop QeE QkG))]),QuC])
def QD0:TCode :=
 (zsq [(.reg [zmv 10 (.k (.n Qd))]),(.reg [zop 15 (.bsl 175 Qd []),zmv 11 15]),(zsq [(.reg [zmv 16 0,zca 17 158 [16,(zki 1),(zki 2)],zno 18 17,zmv 19 18,.grp 19 false [zmv 20 1,zca 21 158 [20,(zki 1),(zki 4)],zno 22 21] 23 22,zmv 24 23,.grp 24 false [zmv 25 2,zmv 26 1,zbi 27 .sub 26 (zki 1),zca 28 158 [25,(zki 0),27],zno 29 28] 30 29,zmv 31 30,.grp 31 false [zmv 32 3,zca 33 158 [32,(zki 1),(zki 5)],zno 34 33] 35 34]),(.cond 35 (zsq [(.reg [zmv 36 11,zmv 10 36]),.ret]) .skip)]),(.reg [zmv 37 0,zmv 38 1,zmv 39 2,zmv 40 3,zca 41 202 [37,38,39,40],zmv 12 41]),(zsq [(.reg [zmv 13 (zki 0)]),(.block 0 (.loop Ql8 QkU))]),Qt8])
def QlO:List (ARv × Md):=[(.t 10,.one (.o 175))]
def QdD:Qb:=TQ 0 0 QlO K
def QFZ:Qb:=Qseq (tawp Jm 0 QuC (QdD K)) (QdD K)
def QkB:Qb:=Qblk 2 (QFZ K)
def Qpt:Qb:=Qseq (fun s'=>Loop Jm 0 QeE QkG (QkB K) (gc 0 QeE s')) (QkB K)
def QFm:Qb:=Qseq (tawp Jm 0 Qpu (Qpt K)) (Qpt K)
def QxQ:Qb:=Qblk 3 (QFm K)
@[irreducible] def Qeh (ds:Int) (stages:Int) (s:Int) (micro:Int) (redo:Bool) (l1:List TIns) (m1:Int):Prop:=tawp Jm 0 QpH (QxQ K) ⟨[(1,(zci stages)),(2,(zci s)),(3,(zci micro)),(4,(zcb redo)),(11,(.r Qd 0 0 l1.length)),(12,(zci (QU ds stages s micro))),(14,(zci m1))],[(0,(.sl 175 Qd .ow l1))],1⟩
def Qb3 (ds:Int) (stages:Int) (s:Int) (micro:Int) (redo:Bool) (m1:Int) (l2:List TIns):Prop:=Loop Jm 0 QeE QkG (QkB K) ⟨[(1,(zci stages)),(2,(zci s)),(3,(zci micro)),(4,(zcb redo)),(11,(.r Qd 0 0 l2.length)),(12,(zci (QU ds stages s micro))),(14,(zci m1))],[(0,(.sl 175 Qd .ow l2))],1⟩
def Qyk:Qb:=Qseq (tawp Jm 0 Qt8 (QdD K)) (QdD K)
def QFa:Qb:=Qblk 0 (Qyk K)
def Qd4 (ds:Int) (stages:Int) (s:Int) (micro:Int) (redo:Bool) (m:Int) (l:List TIns):Prop:=Loop Jm 0 Ql8 QkU (QFa K) ⟨[(1,(zci stages)),(2,(zci s)),(3,(zci micro)),(4,(zcb redo)),(11,(.r Qd 0 0 l.length)),(12,(zci (QU ds stages s micro))),(13,(zci m))],[(0,(.sl 175 Qd .ow l))],1⟩
theorem QCn (ds:Int) (stages:Int) (s:Int) (micro:Int) (redo:Bool) (l1:List TIns) (m1:Int) (h :
 (((l1.length=l1.length)∧(QgA l1 stages s m1 redo))∧(Qb3 K ds stages s micro redo (w64 (m1+(1:Int))) (List.take ((QbA l1 stages s m1 redo).length) (QbA l1 stages s m1 redo))))):Hold (Qeh K ds stages s micro redo l1 m1) :=
 Hold.of (by kernel_rfl) h
theorem Quh (ds:Int) (stages:Int) (s:Int) (micro:Int) (redo:Bool) (m1:Int) (l2:List TIns) (h :
 (zif (decide (m1<micro)) (zif (decide ((w64 ((QU ds stages s micro)+m1))<micro)) (((l2.length=l2.length)∧(p_l9 l2 stages s (w64 ((QU ds stages s micro)+m1))))∧(Qeh K ds stages s micro redo (List.take ((QaP l2 stages s (w64 ((QU ds stages s micro)+m1))).length) (QaP l2 stages s (w64 ((QU ds stages s micro)+m1)))) m1)) (Qeh K ds stages s micro redo (List.take l2.length l2) m1)) (((l2.length=l2.length∨l2.length+1≤l2.length)∧l2.length+1≤big)∧K (Ye (List.take (l2.length+1) ((List.take l2.length l2)++([((8:Int),(0:Int))]))))))):Qb3 K ds stages s micro redo m1 l2 :=
 Loop.of (by kernel_rfl) h
theorem QtJ (ds:Int) (stages:Int) (s:Int) (micro:Int) (redo:Bool) (m:Int) (l:List TIns) (h :
 (zif (decide (m<(QU ds stages s micro))) (((l.length=l.length)∧(p_l9 l stages s m))∧(Qd4 K ds stages s micro redo (w64 (m+(1:Int))) (List.take ((QaP l stages s m).length) (QaP l stages s m)))) (Qb3 K ds stages s micro redo 0 (List.take l.length l)))):Qd4 K ds stages s micro redo m l :=
 Loop.of (by kernel_rfl) h
theorem QGk (ds:Int) (stages:Int) (s:Int) (micro:Int) (redo:Bool) (h :
 (zif ((((!(m_in ds (1:Int) (2:Int)))||(!(m_in stages (1:Int) (4:Int))))||(!(m_in s (0:Int) (w64 (stages-(1:Int))))))||(!(m_in micro (1:Int) (5:Int)))) (K (Ye ([]:List TIns))) (Qd4 K ds stages s micro redo 0 ([]:List TIns)))):Hold (tawp Jm (0+0) QD0 (TQ 0 0 QlO K) (Qe [(.c TI ds),(.c TI stages),(.c TI s),(.c TI micro),(.c .bool redo)])) :=
 Hold.of (by kernel_rfl) h
theorem QHO (ds:Int) (stages:Int) (s:Int) (micro:Int) (redo:Bool):TCon Tryz.prog 121 [(.c TI ds),(.c TI stages),(.c TI s),(.c TI micro),(.c .bool redo)] (Ye (QT ds stages s micro redo)):=by
 refine Ql rfl fun hb=>tcg (Γ:=Jm) (n:=79) (sg:=Qie.sg) Qk (TOkL.cons Yq (TOkL.cons QGN (TOkL.cons QEj (TOkL.cons QAW TOkL.nil)))) (by kernel_rfl) (by kernel_rfl) (QGk _ ds stages s micro redo ?_)
 rw [QwE]
 by_cases hp:(m_in ds 1 2&&QV stages s micro)=true
 case neg =>
  rw [show (m_in ds 1 2&&QV stages s micro)=false by simpa using hp]
  exact ⟨fun _=>R_eq (Qkm hp).symm,fun h=>by simp at h⟩
 rw [hp]
 refine ⟨fun h=>by simp at h,fun _=>?_⟩
 have hq:QV stages s micro=true:=by simp only [Bool.and_eq_true] at hp;exact hp.2
 have hr:=Qf5.1 hq
 have hM:=Qif (redo:=redo) hp
 obtain ⟨w,hw⟩:∃ w:Nat,QU ds stages s micro=w:=⟨_,(Int.toNat_of_nonneg (Qcb hq).1).symm⟩
 have hw5:=(Qcb (ds:=ds) hq).2
 rw [hw] at hM hw5
 rw [Int.toNat_natCast] at hM
 refine Qbv w (fun k=>Qd4 (fun r'=>r'=Ye (QT ds stages s micro redo)) ds stages s micro redo (k:Int) (Yi stages s k)) ?_ ?_
 ·refine QtJ (fun r'=>r'=Ye (QT ds stages s micro redo)) ds stages s micro redo _ _ ⟨fun h=>by simp [hw] at h,fun _=>?_⟩
  rw [List.take_length]
  suffices h:Qb3 (fun r'=>r'=Ye (QT ds stages s micro redo)) ds stages s micro redo ((0:Nat):Int) (Yi stages s w++Yr stages s micro redo w 0) by
   rw [show Yr stages s micro redo w 0=[] from rfl,List.append_nil] at h;exact h
  refine Qbv micro.toNat (fun k=>Qb3 (fun r'=>r'=Ye (QT ds stages s micro redo)) ds stages s micro redo (k:Int) (Yi stages s w++Yr stages s micro redo w k)) ?_ ?_
  ·have h1:=Qap stages s w
   have h2:=Qcx stages s micro redo w micro.toNat
   refine Quh (fun r'=>r'=Ye (QT ds stages s micro redo)) ds stages s micro redo _ _ ⟨fun h=>by simp at h;omega,fun _=>⟨⟨.inl rfl,by rw [List.length_append,Q3];omega⟩,R_eq ?_⟩⟩
   rw [ZU,hM]
  ·intro k hk ih
   have h1:=Qap stages s w
   have h2:=Qcx stages s micro redo w k
   have key:∀ l:List TIns,l=Yi stages s w++Yr stages s micro redo w k++(if (k:Int)+w<micro then Q0 stages s ((k:Int)+w) else [])→Qeh (fun r'=>r'=Ye (QT ds stages s micro redo)) ds stages s micro redo l (k:Int):=by
    intro l hl
    have h3:=QgU stages s k redo
    have h4:=Jx stages s ((k:Int)+w)
    have h5:l.length≤1000:=by rw [hl];split <;> simp only [List.length_append,List.length_nil] <;> omega
    refine (QCn (fun r'=>r'=Ye (QT ds stages s micro redo)) ds stages s micro redo l _ ⟨⟨rfl,⟨by omega,by omega⟩,by omega⟩,?_⟩).h
    rw [List.take_length,sc1 (by omega)]
    rw [Qrf] at ih
    unfold QbA
    rw [hl,List.append_assoc,List.append_assoc]
    unfold Qb4 at ih
    exact ih
   refine Quh (fun r'=>r'=Ye (QT ds stages s micro redo)) ds stages s micro redo _ _ ⟨fun _=>?_,fun h=>by simp at h;omega⟩
   rw [hw,Int.add_comm (w:Int) k,Qx (x:=(k:Int)+w) (by omega) (by omega)]
   have h4:=Jx stages s ((k:Int)+w)
   refine ⟨fun h=>⟨⟨rfl,⟨by omega,by omega⟩,by rw [List.length_append];omega⟩,key _ ?_⟩,fun h=>key _ ?_⟩
   ·rw [List.take_length,if_pos (of_decide_eq_true h)];rfl
   ·rw [if_neg (of_decide_eq_false h),List.take_length,List.append_nil]
 ·intro k hk ih
  have h1:=Qap stages s k
  have h4:=Jx stages s k
  refine QtJ (fun r'=>r'=Ye (QT ds stages s micro redo)) ds stages s micro redo _ _ ⟨fun _=>⟨⟨rfl,⟨by omega,by omega⟩,by omega⟩,?_⟩,fun h=>by simp [hw] at h;omega⟩
  rw [List.take_length,sc1 (by omega)]
  rw [QnG] at ih
  exact ih
theorem QCv:Qi Tryz.prog Qie:=Qm fun x _=>QHO x.1 x.2.1 x.2.2.1 x.2.2.2.1 x.2.2.2.2.1
end
end Go.Proofs.YtdplaepmjogjjaaGreat.Am

