/- -/
import Derived.Test.YtephkbajoofeoaaYGPE
import Derived.Test.YtephkbajoofeoaaYGP1
import Derived.Test.YtephkbajoofeoaaYGG9
namespace Go.Proofs.Ytephkbajoofeoaa.Am
open Go Go.RowKit Go.Proofs.Ytephkbajoofeoaa
set_option linter.all false
noncomputable section
variable (K:TRes→Prop)
def Yt (t:(List TIns)):TRes:=⟨(.r Qc 0 0 t.length),[(.sl 151 Qc true t)],[],true,[]⟩
def Qcq:TRow:=Qj 107 [(.c TI),(.c TI),(.c TI)] fun x=>(some (p_st x.1 x.2.1 x.2.2.1),Yt (QA x.1 x.2.1 x.2.2.1))
def Qg0:List TRow:=[]
def QfA:TCode :=
 (zsq [(.reg [zmv 16 7,zmv 17 2,zop 18 (.build (z0s Qc) [(0,1,(zki 2)),(1,1,17)]),zop 19 (.bsl 151 Qc [18]),zop 20 (.app 16 19 151 Qc),zmv 7 20]),(zsq [(.reg [zmv 21 1,zmv 22 0,zbi 23 .sub 22 (zki 1),zbi 24 .lss 21 23]),(.cond 24 (.reg [zmv 25 7,zmv 26 2,zop 27 (.build (z0s Qc) [(0,1,(zki 3)),(1,1,26)]),zop 28 (.bsl 151 Qc [27]),zop 29 (.app 25 28 151 Qc),zmv 7 29]) .skip)]),(.reg [zmv 30 7,zmv 6 30]),.ret])
def Qhx:List (Nat × Md):=[(0,.one .d),(1,.one .d),(2,.one .d),(7,.one .f)]
def Ql2:TCode:=.wk Qhx QfA
def QjF:TCode :=
 (zsq [(.reg [zmv 6 (.k (.n Qc))]),(.reg [zop 8 (.bsl 151 Qc []),zmv 7 8]),(zsq [(.reg [zmv 9 1,zbi 10 .gtr 9 (zki 0)]),(.cond 10 (.reg [zmv 11 7,zmv 12 2,zop 13 (.build (z0s Qc) [(0,1,(zki 1)),(1,1,12)]),zop 14 (.bsl 151 Qc [13]),zop 15 (.app 11 14 151 Qc),zmv 7 15]) .skip)]),Ql2])
def Qdy:List (ARv × Md):=[(.t 6,.one (.o 151))]
def QiF:Qd:=TQ 0 0 Qdy K
@[irreducible] def JJ (stages:Int) (s:Int) (m:Int) (l:List TIns):Prop:=tawp Qg0 0 QfA (QiF K) ⟨[(0,(zci stages)),(1,(zci s)),(2,(zci m)),(7,(.r Qc 0 0 l.length))],[(0,(.sl 151 Qc true l))],1⟩
theorem QkE (stages:Int) (s:Int) (m:Int) (l:List TIns) (h :
 (((l.length=l.length∨l.length+1≤l.length)∧l.length+1≤big)∧(zif (decide (s<(w64 (stages-(1:Int))))) ((((l.length+1)=((List.take l.length l)++([((2:Int),m)])).length∨(l.length+1)+1≤((List.take l.length l)++([((2:Int),m)])).length)∧(l.length+1)+1≤big)∧K (Yt (List.take ((l.length+1)+1) ((List.take (l.length+1) ((List.take l.length l)++([((2:Int),m)])))++([((3:Int),m)]))))) (K (Yt (List.take (l.length+1) ((List.take l.length l)++([((2:Int),m)])))))))):Hold (JJ K stages s m l) :=
 Hold.of (by kernel_rfl) h
theorem Ql4 (stages:Int) (s:Int) (m:Int) (h :
 (zif (decide (s>(0:Int))) (((0=0∨0+1≤0)∧0+1≤big)∧(JJ K stages s m (List.take (0+1) ([((1:Int),m)]:List TIns)))) (JJ K stages s m ([]:List TIns)))):Hold (tawp Qg0 (0+0) QjF (TQ 0 0 Qdy K) (Qh [(.c TI stages),(.c TI s),(.c TI m)])) :=
 Hold.of (by kernel_rfl) h
theorem Qjb (stages:Int) (s:Int) (m:Int) (hp:p_st stages s m):TCon Try.prog 107 [(.c TI stages),(.c TI s),(.c TI m)] (Yt (QA stages s m)):=by
 refine Ql rfl fun hb=>tcg (n:=31) (sg:=Qcq.sg) Qm TOk.nil (by kernel_rfl) (by kernel_rfl) (Ql4 _ stages s m ?_)
 obtain ⟨h1,h2⟩:=hp
 have hw:w64 (stages-1)=stages-1:=Qz (by omega) (by omega)
 have key:∀ l:List TIns,l.length≤1→l++[(2,m)]++(if s<stages-1 then [(3,m)] else [])=(QA stages s m)→JJ (fun r'=>r'=Yt (QA stages s m)) stages s m l:=by
  intro l hl he
  refine (QkE (fun r'=>r'=Yt (QA stages s m)) stages s m l ?_).h
  rw [hw,← he]
  simp only [Jj]
  refine ⟨⟨by simp,by rw [Q0];omega⟩,fun h=>⟨⟨.inl (by simp),by rw [Q0];omega⟩,R_eq ?_⟩,fun h=>R_eq ?_⟩
  ·simp at h;simp [h,List.take_of_length_le]
  ·simp at h;simp [Int.not_lt.2 h]
 refine ⟨fun h=>⟨⟨.inl rfl,by rw [Q0];omega⟩,key _ (by simp) ?_⟩,fun h=>key _ (by simp) ?_⟩
 ·simp at h;simp [QA,h]
 ·simp at h;simp [QA,Int.not_lt.2 h]
theorem Qlm:Qi Try.prog Qcq:=Qn fun x h=>Qjb x.1 x.2.1 x.2.2.1 h
def ZK (t:(List TIns)):TRes:=⟨(.r Qc 0 0 t.length),[(.sl 151 Qc true t)],[],true,[]⟩
def Qb1:TRow:=Qj 108 [(.c TI),(.c TI),(.c TI),(.c .bool)] fun x=>(some (QcI x.1 x.2.1 x.2.2.1 x.2.2.2.1),ZK (QD x.1 x.2.1 x.2.2.1 x.2.2.2.1))
def Qcw:List TRow:=[]
def QdL:TCode :=
 (zsq [(.reg [zmv 26 9,zmv 27 2,zop 28 (.build (z0s Qc) [(0,1,(zki 6)),(1,1,27)]),zop 29 (.bsl 151 Qc [28]),zop 30 (.app 26 29 151 Qc),zmv 9 30]),(zsq [(.reg [zmv 31 1,zbi 32 .gtr 31 (zki 0)]),(.cond 32 (.reg [zmv 33 9,zmv 34 2,zop 35 (.build (z0s Qc) [(0,1,(zki 7)),(1,1,34)]),zop 36 (.bsl 151 Qc [35]),zop 37 (.app 33 36 151 Qc),zmv 9 37]) .skip)]),(.reg [zmv 38 9,zmv 8 38]),.ret])
def QnS:List (Nat × Md):=[(1,.one .d),(2,.one .d),(9,.one .f)]
def Qnf:TCode:=.wk QnS QdL
def Qfm:TCode :=
 (zsq [(zsq [(.reg [zmv 20 3]),(.cond 20 (.reg [zmv 21 9,zmv 22 2,zop 23 (.build (z0s Qc) [(0,1,(zki 5)),(1,1,22)]),zop 24 (.bsl 151 Qc [23]),zop 25 (.app 21 24 151 Qc),zmv 9 25]) .skip)]),Qnf])
def Qif:List (Nat × Md):=[(1,.one .d),(2,.one .d),(3,.one .d),(9,.one .f)]
def Qkv:TCode:=.wk Qif Qfm
def Qir:TCode :=
 (zsq [(.reg [zmv 8 (.k (.n Qc))]),(.reg [zop 10 (.bsl 151 Qc []),zmv 9 10]),(zsq [(.reg [zmv 11 1,zmv 12 0,zbi 13 .sub 12 (zki 1),zbi 14 .lss 11 13]),(.cond 14 (.reg [zmv 15 9,zmv 16 2,zop 17 (.build (z0s Qc) [(0,1,(zki 4)),(1,1,16)]),zop 18 (.bsl 151 Qc [17]),zop 19 (.app 15 18 151 Qc),zmv 9 19]) .skip)]),Qkv])
def Qgr:List (ARv × Md):=[(.t 8,.one (.o 151))]
def Qfe:Qd:=TQ 0 0 Qgr K
@[irreducible] def J5 (s:Int) (m:Int) (l1:List TIns):Prop:=tawp Qcw 0 QdL (Qfe K) ⟨[(1,(zci s)),(2,(zci m)),(9,(.r Qc 0 0 l1.length))],[(0,(.sl 151 Qc true l1))],1⟩
@[irreducible] def Qae (s:Int) (m:Int) (redo:Bool) (l:List TIns):Prop:=tawp Qcw 0 Qfm (Qfe K) ⟨[(1,(zci s)),(2,(zci m)),(3,(zcb redo)),(9,(.r Qc 0 0 l.length))],[(0,(.sl 151 Qc true l))],1⟩
theorem Qm1 (s:Int) (m:Int) (l1:List TIns) (h :
 (((l1.length=l1.length∨l1.length+1≤l1.length)∧l1.length+1≤big)∧(zif (decide (s>(0:Int))) ((((l1.length+1)=((List.take l1.length l1)++([((6:Int),m)])).length∨(l1.length+1)+1≤((List.take l1.length l1)++([((6:Int),m)])).length)∧(l1.length+1)+1≤big)∧K (ZK (List.take ((l1.length+1)+1) ((List.take (l1.length+1) ((List.take l1.length l1)++([((6:Int),m)])))++([((7:Int),m)]))))) (K (ZK (List.take (l1.length+1) ((List.take l1.length l1)++([((6:Int),m)])))))))):Hold (J5 K s m l1) :=
 Hold.of (by kernel_rfl) h
theorem Qnq (s:Int) (m:Int) (redo:Bool) (l:List TIns) (h :
 (zif redo (((l.length=l.length∨l.length+1≤l.length)∧l.length+1≤big)∧(J5 K s m (List.take (l.length+1) ((List.take l.length l)++([((5:Int),m)]))))) (J5 K s m (List.take l.length l)))):Hold (Qae K s m redo l) :=
 Hold.of (by kernel_rfl) h
theorem Qlo (stages:Int) (s:Int) (m:Int) (redo:Bool) (h :
 (zif (decide (s<(w64 (stages-(1:Int))))) (((0=0∨0+1≤0)∧0+1≤big)∧(Qae K s m redo (List.take (0+1) ([((4:Int),m)]:List TIns)))) (Qae K s m redo ([]:List TIns)))):Hold (tawp Qcw (0+0) Qir (TQ 0 0 Qgr K) (Qh [(.c TI stages),(.c TI s),(.c TI m),(.c .bool redo)])) :=
 Hold.of (by kernel_rfl) h
theorem Qlk (stages:Int) (s:Int) (m:Int) (redo:Bool) (hp:QcI stages s m redo):TCon Try.prog 108 [(.c TI stages),(.c TI s),(.c TI m),(.c .bool redo)] (ZK (QD stages s m redo)):=by
 refine Ql rfl fun hb=>tcg (n:=39) (sg:=Qb1.sg) Qm TOk.nil (by kernel_rfl) (by kernel_rfl) (Qlo _ stages s m redo ?_)
 obtain ⟨h1,h2⟩:=hp
 have hw:w64 (stages-1)=stages-1:=Qz (by omega) (by omega)
 have key2:∀ l:List TIns,l.length≤2→l++[(6,m)]++(if 0<s then [(7,m)] else [])=(QD stages s m redo)→J5 (fun r'=>r'=ZK (QD stages s m redo)) s m l:=by
  intro l hl he
  refine (Qm1 (fun r'=>r'=ZK (QD stages s m redo)) s m l ?_).h
  rw [← he]
  simp only [Jj]
  refine ⟨⟨by simp,by rw [Q0];omega⟩,fun h=>⟨⟨.inl (by simp),by rw [Q0];omega⟩,R_eq ?_⟩,fun h=>R_eq ?_⟩
  ·simp at h;simp [h,List.take_of_length_le]
  ·simp at h;simp [Int.not_lt.2 h]
 have key:∀ l:List TIns,l.length≤1→l++(if redo then [(5,m)] else [])++[(6,m)]++(if 0<s then [(7,m)] else [])=(QD stages s m redo)→Qae (fun r'=>r'=ZK (QD stages s m redo)) s m redo l:=by
  intro l hl he
  refine (Qnq (fun r'=>r'=ZK (QD stages s m redo)) s m redo l ⟨fun h=>⟨⟨.inl rfl,by rw [Q0];omega⟩,key2 _ (by simp;omega) ?_⟩,fun h=>key2 _ (by simp;omega) ?_⟩).h
  ·rw [← he,Jj,h];simp
  ·rw [← he,List.take_length,h];simp
 rw [hw]
 refine ⟨fun h=>⟨⟨.inl rfl,by rw [Q0];omega⟩,key _ (by simp) ?_⟩,fun h=>key _ (by simp) ?_⟩
 ·simp at h;simp [QD,h]
 ·simp at h;simp [QD,Int.not_lt.2 h]
theorem Qnt:Qi Try.prog Qb1:=Qn fun x h=>Qlk x.1 x.2.1 x.2.2.1 x.2.2.2.1 h
def Ys (t:(List TIns)):TRes:=⟨(.r Qc 0 0 t.length),[(.sl 151 Qc true t)],[],true,[.dead]⟩
def QaX:TRow:=Qj 104 [(.o 151 Qc),(.c TI),(.c TI),(.c TI)] fun x=>(some (p_l9 x.1 x.2.1 x.2.2.1 x.2.2.2.1),Ys (Yg x.1 x.2.1 x.2.2.1 x.2.2.2.1))
def QmS:List TRow:=[]
def Qkk:TCode :=
 (zsq [(.reg [zmv 8 (.k (.n Qc))]),(zsq [(.reg [zmv 9 2,zbi 10 .gtr 9 (zki 0)]),(.cond 10 (.reg [zmv 11 0,zmv 12 3,zop 13 (.build (z0s Qc) [(0,1,(zki 1)),(1,1,12)]),zop 14 (.bsl 151 Qc [13]),zop 15 (.app 11 14 151 Qc),zmv 0 15]) .skip)]),(.reg [zmv 16 0,zmv 17 3,zop 18 (.build (z0s Qc) [(0,1,(zki 2)),(1,1,17)]),zop 19 (.bsl 151 Qc [18]),zop 20 (.app 16 19 151 Qc),zmv 0 20]),(zsq [(.reg [zmv 21 2,zmv 22 1,zbi 23 .sub 22 (zki 1),zbi 24 .lss 21 23]),(.cond 24 (.reg [zmv 25 0,zmv 26 3,zop 27 (.build (z0s Qc) [(0,1,(zki 3)),(1,1,26)]),zop 28 (.bsl 151 Qc [27]),zop 29 (.app 25 28 151 Qc),zmv 0 29]) .skip)]),(.reg [zmv 30 0,zmv 8 30]),.ret])
def Qjz:List (ARv × Md):=[(.t 8,.one (.o 151))]
theorem Qh8 (l:List TIns) (stages:Int) (s:Int) (m:Int) (h :
 (zif (decide (s>(0:Int))) (((l.length=l.length∨l.length+1≤l.length)∧l.length+1≤big)∧((((l.length+1)=((List.take l.length l)++([((1:Int),m)])).length∨(l.length+1)+1≤((List.take l.length l)++([((1:Int),m)])).length)∧(l.length+1)+1≤big)∧(zif (decide (s<(w64 (stages-(1:Int))))) (((((l.length+1)+1)=((List.take (l.length+1) ((List.take l.length l)++([((1:Int),m)])))++([((2:Int),m)])).length∨((l.length+1)+1)+1≤((List.take (l.length+1) ((List.take l.length l)++([((1:Int),m)])))++([((2:Int),m)])).length)∧((l.length+1)+1)+1≤big)∧K (Ys (List.take (((l.length+1)+1)+1) ((List.take ((l.length+1)+1) ((List.take (l.length+1) ((List.take l.length l)++([((1:Int),m)])))++([((2:Int),m)])))++([((3:Int),m)]))))) (K (Ys (List.take ((l.length+1)+1) ((List.take (l.length+1) ((List.take l.length l)++([((1:Int),m)])))++([((2:Int),m)])))))))) (((l.length=l.length∨l.length+1≤l.length)∧l.length+1≤big)∧(zif (decide (s<(w64 (stages-(1:Int))))) ((((l.length+1)=((List.take l.length l)++([((2:Int),m)])).length∨(l.length+1)+1≤((List.take l.length l)++([((2:Int),m)])).length)∧(l.length+1)+1≤big)∧K (Ys (List.take ((l.length+1)+1) ((List.take (l.length+1) ((List.take l.length l)++([((2:Int),m)])))++([((3:Int),m)]))))) (K (Ys (List.take (l.length+1) ((List.take l.length l)++([((2:Int),m)]))))))))):Hold (tawp QmS (0+1) Qkk (TQ 0 1 Qjz K) (Qh [(.ow 151 Qc l),(.c TI stages),(.c TI s),(.c TI m)])) :=
 Hold.of (by kernel_rfl) h
theorem Qmi (l:List TIns) (stages:Int) (s:Int) (m:Int) (hp:p_l9 l stages s m):TCon Try.prog 104 [(.ow 151 Qc l),(.c TI stages),(.c TI s),(.c TI m)] (Ys (Yg l stages s m)):=by
 refine Ql rfl fun hb=>tcg (n:=31) (sg:=QaX.sg) Qm TOk.nil (by kernel_rfl) (by kernel_rfl) (Qh8 _ l stages s m ?_)
 obtain ⟨⟨h1,h2⟩,hl⟩:=hp
 have hw:w64 (stages-1)=stages-1:=Qz (by omega) (by omega)
 have hb:l.length+100≤big:=by rw [Q0];omega
 rw [hw]
 unfold Yg QA
 refine ⟨fun h=>?_,fun h=>?_⟩
 all_goals
  simp at h
  first | have h0:0<s:=h | have h0:¬ 0<s:=by omega
  refine ⟨⟨.inl rfl,by omega⟩,?_⟩
  first
  | refine ⟨⟨.inl (by simp),by omega⟩,fun h3=>⟨⟨.inl (by simp),by omega⟩,R_eq ?_⟩,fun h3=>R_eq ?_⟩
  | refine ⟨fun h3=>⟨⟨.inl (by simp),by omega⟩,R_eq ?_⟩,fun h3=>R_eq ?_⟩
  all_goals
   simp at h3
   first | have h4:s<stages-1:=h3 | have h4:¬ s<stages-1:=by omega
   simp [h0,h4,List.take_of_length_le]
theorem Qhn:Qi Try.prog QaX:=Qn fun x h=>Qmi x.1 x.2.1 x.2.2.1 x.2.2.2.1 h
def Zr (t:(List TIns)):TRes:=⟨(.r Qc 0 0 t.length),[(.sl 151 Qc true t)],[],true,[.dead]⟩
def QcJ:TRow:=Qj 105 [(.o 151 Qc),(.c TI),(.c TI),(.c TI),(.c .bool)] fun x=>(some (Qcc x.1 x.2.1 x.2.2.1 x.2.2.2.1 x.2.2.2.2.1),Zr (YM x.1 x.2.1 x.2.2.1 x.2.2.2.1 x.2.2.2.2.1))
def Qm8:List TRow:=[]
def QjI:TCode :=
 (zsq [(.reg [zmv 10 (.k (.n Qc))]),(zsq [(.reg [zmv 11 2,zmv 12 1,zbi 13 .sub 12 (zki 1),zbi 14 .lss 11 13]),(.cond 14 (.reg [zmv 15 0,zmv 16 3,zop 17 (.build (z0s Qc) [(0,1,(zki 4)),(1,1,16)]),zop 18 (.bsl 151 Qc [17]),zop 19 (.app 15 18 151 Qc),zmv 0 19]) .skip)]),(zsq [(.reg [zmv 20 4]),(.cond 20 (.reg [zmv 21 0,zmv 22 3,zop 23 (.build (z0s Qc) [(0,1,(zki 5)),(1,1,22)]),zop 24 (.bsl 151 Qc [23]),zop 25 (.app 21 24 151 Qc),zmv 0 25]) .skip)]),(.reg [zmv 26 0,zmv 27 3,zop 28 (.build (z0s Qc) [(0,1,(zki 6)),(1,1,27)]),zop 29 (.bsl 151 Qc [28]),zop 30 (.app 26 29 151 Qc),zmv 0 30]),(zsq [(.reg [zmv 31 2,zbi 32 .gtr 31 (zki 0)]),(.cond 32 (.reg [zmv 33 0,zmv 34 3,zop 35 (.build (z0s Qc) [(0,1,(zki 7)),(1,1,34)]),zop 36 (.bsl 151 Qc [35]),zop 37 (.app 33 36 151 Qc),zmv 0 37]) .skip)]),(.reg [zmv 38 0,zmv 10 38]),.ret])
def Qk9:List (ARv × Md):=[(.t 10,.one (.o 151))]
theorem QnC (l:List TIns) (stages:Int) (s:Int) (m:Int) (redo:Bool) (h :
 let z1:=List.take l.length l
 (zif (decide (s<(w64 (stages-(1:Int))))) (((l.length=l.length∨l.length+1≤l.length)∧l.length+1≤big)∧(zif redo ((((l.length+1)=(z1++([((4:Int),m)])).length∨(l.length+1)+1≤(z1++([((4:Int),m)])).length)∧(l.length+1)+1≤big)∧(((((l.length+1)+1)=((List.take (l.length+1) (z1++([((4:Int),m)])))++([((5:Int),m)])).length∨((l.length+1)+1)+1≤((List.take (l.length+1) (z1++([((4:Int),m)])))++([((5:Int),m)])).length)∧((l.length+1)+1)+1≤big)∧(zif (decide (s>(0:Int))) ((((((l.length+1)+1)+1)=((List.take ((l.length+1)+1) ((List.take (l.length+1) (z1++([((4:Int),m)])))++([((5:Int),m)])))++([((6:Int),m)])).length∨(((l.length+1)+1)+1)+1≤((List.take ((l.length+1)+1) ((List.take (l.length+1) (z1++([((4:Int),m)])))++([((5:Int),m)])))++([((6:Int),m)])).length)∧(((l.length+1)+1)+1)+1≤big)∧K (Zr (List.take ((((l.length+1)+1)+1)+1) ((List.take (((l.length+1)+1)+1) ((List.take ((l.length+1)+1) ((List.take (l.length+1) (z1++([((4:Int),m)])))++([((5:Int),m)])))++([((6:Int),m)])))++([((7:Int),m)]))))) (K (Zr (List.take (((l.length+1)+1)+1) ((List.take ((l.length+1)+1) ((List.take (l.length+1) (z1++([((4:Int),m)])))++([((5:Int),m)])))++([((6:Int),m)])))))))) ((((l.length+1)=(z1++([((4:Int),m)])).length∨(l.length+1)+1≤(z1++([((4:Int),m)])).length)∧(l.length+1)+1≤big)∧(zif (decide (s>(0:Int))) (((((l.length+1)+1)=((List.take (l.length+1) (z1++([((4:Int),m)])))++([((6:Int),m)])).length∨((l.length+1)+1)+1≤((List.take (l.length+1) (z1++([((4:Int),m)])))++([((6:Int),m)])).length)∧((l.length+1)+1)+1≤big)∧K (Zr (List.take (((l.length+1)+1)+1) ((List.take ((l.length+1)+1) ((List.take (l.length+1) (z1++([((4:Int),m)])))++([((6:Int),m)])))++([((7:Int),m)]))))) (K (Zr (List.take ((l.length+1)+1) ((List.take (l.length+1) (z1++([((4:Int),m)])))++([((6:Int),m)]))))))))) (zif redo (((l.length=l.length∨l.length+1≤l.length)∧l.length+1≤big)∧((((l.length+1)=(z1++([((5:Int),m)])).length∨(l.length+1)+1≤(z1++([((5:Int),m)])).length)∧(l.length+1)+1≤big)∧(zif (decide (s>(0:Int))) (((((l.length+1)+1)=((List.take (l.length+1) (z1++([((5:Int),m)])))++([((6:Int),m)])).length∨((l.length+1)+1)+1≤((List.take (l.length+1) (z1++([((5:Int),m)])))++([((6:Int),m)])).length)∧((l.length+1)+1)+1≤big)∧K (Zr (List.take (((l.length+1)+1)+1) ((List.take ((l.length+1)+1) ((List.take (l.length+1) (z1++([((5:Int),m)])))++([((6:Int),m)])))++([((7:Int),m)]))))) (K (Zr (List.take ((l.length+1)+1) ((List.take (l.length+1) (z1++([((5:Int),m)])))++([((6:Int),m)])))))))) (((l.length=l.length∨l.length+1≤l.length)∧l.length+1≤big)∧(zif (decide (s>(0:Int))) ((((l.length+1)=(z1++([((6:Int),m)])).length∨(l.length+1)+1≤(z1++([((6:Int),m)])).length)∧(l.length+1)+1≤big)∧K (Zr (List.take ((l.length+1)+1) ((List.take (l.length+1) (z1++([((6:Int),m)])))++([((7:Int),m)]))))) (K (Zr (List.take (l.length+1) (z1++([((6:Int),m)])))))))))):Hold (tawp Qm8 (0+1) QjI (TQ 0 1 Qk9 K) (Qh [(.ow 151 Qc l),(.c TI stages),(.c TI s),(.c TI m),(.c .bool redo)])) :=
 Hold.of (by kernel_rfl) h
theorem QnA (l:List TIns) (stages:Int) (s:Int) (m:Int) (redo:Bool) (hp:Qcc l stages s m redo):TCon Try.prog 105 [(.ow 151 Qc l),(.c TI stages),(.c TI s),(.c TI m),(.c .bool redo)] (Zr (YM l stages s m redo)):=by
 refine Ql rfl fun hb=>tcg (n:=39) (sg:=QcJ.sg) Qm TOk.nil (by kernel_rfl) (by kernel_rfl) (QnC _ l stages s m redo ?_)
 conv=>zeta
 obtain ⟨⟨h1,h2⟩,hl⟩:=hp
 have hw:w64 (stages-1)=stages-1:=Qz (by omega) (by omega)
 have hb:l.length+100≤big:=by rw [Q0];omega
 rw [hw]
 unfold YM QD
 have hd:∀ k,List.take k (l++[])=List.take k l:=by intro k;rw [List.append_nil]
 by_cases c1:s<stages-1
 all_goals
  cases redo
  all_goals
   by_cases c3:0<s
   all_goals
    simp only [zif,gt_iff_lt,c1,c3,decide_true,decide_false,Bool.false_eq_true,true_implies,false_implies,true_and,and_true,reduceCtorEq,if_true,if_false,List.nil_append,List.append_nil]
    simp [zif,List.take_of_length_le,Q0]
    try omega
    try exact R_eq (by simp [List.take_of_length_le])
theorem Qk1:Qi Try.prog QcJ:=Qn fun x h=>QnA x.1 x.2.1 x.2.2.1 x.2.2.2.1 x.2.2.2.2.1 h
def Q2 (t:(List TIns)):TRes:=⟨(.r Qc 0 0 t.length),[(.sl 151 Qc true t)],[],true,[]⟩
def QcL:TRow:=Qj 18 [(.c TI),(.c TI),(.c TI),(.c TI),(.c .bool)] fun x=>(none,Q2 (Qw x.1 x.2.1 x.2.2.1 x.2.2.2.1 x.2.2.2.2.1))
def ZN:List TRow:=[JO,QbN,Qcq,Qb1]
def Qfx:TCode :=
 (zsq [(zsq [(.reg [zmv 34 13,zmv 35 11,zbi 36 .lss 34 35]),(.cond 36 .skip (.exit 0))]),(.block 1 (.reg [zmv 39 12,zmv 40 1,zmv 41 2,zmv 42 13,zca 43 107 [40,41,42],zop 44 (.app 39 43 151 Qc),zmv 12 44])),(.reg [zmv 37 13,zbi 38 .add 37 (zki 1),zmv 13 38])])
def QdC:List (Nat × Md):=[(1,.one .d),(2,.one .d),(3,.one .d),(4,.one .d),(11,.one .d),(12,.one .f),(13,.one .d)]
def QgF:TCode :=
 (.reg [zmv 63 12,zmv 64 1,zmv 65 2,zmv 66 14,zmv 67 4,zca 68 108 [64,65,66,67],zop 69 (.app 63 68 151 Qc),zmv 12 69])
def QkP:List (Nat × Md):=[(1,.one .d),(2,.one .d),(3,.one .d),(4,.one .d),(11,.one .d),(12,.one .f),(14,.one .d)]
def Qk3:TCode:=.wk QkP QgF
def Qeg:TCode :=
 (.reg [zmv 48 14,zbi 49 .add 48 (zki 1),zmv 14 49])
def Qcl:TCode :=
 (zsq [(zsq [(.reg [zmv 45 14,zmv 46 3,zbi 47 .lss 45 46]),(.cond 47 .skip (.exit 2))]),(.block 3 (zsq [(zsq [(.reg [zmv 50 14,zmv 51 11,zbi 52 .add 50 51,zmv 53 3,zbi 54 .lss 52 53]),(.cond 54 (.reg [zmv 55 12,zmv 56 1,zmv 57 2,zmv 58 14,zmv 59 11,zbi 60 .add 58 59,zca 61 107 [56,57,60],zop 62 (.app 55 61 151 Qc),zmv 12 62]) .skip)]),Qk3])),Qeg])
def Qac:List (Nat × Md):=[(1,.one .d),(2,.one .d),(3,.one .d),(4,.one .d),(11,.one .d),(12,.one .f),(14,.one .d)]
def Qey:TCode :=
 (zsq [(.reg [zmv 70 12,zop 71 (.build (z0s Qc) [(0,1,(zki 8)),(1,1,(zki 0))]),zop 72 (.bsl 151 Qc [71]),zop 73 (.app 70 72 151 Qc),zmv 10 73]),.ret])
def Qf6:TCode :=
 (zsq [(zsq [(.reg [zmv 14 (zki 0)]),(.block 2 (.loop Qac Qcl))]),Qey])
def QmC:TCode :=
 (zsq [(.reg [zmv 10 (.k (.n Qc))]),(zsq [(.reg [zmv 15 0,zbi 16 .neq 15 (zki 1),zmv 17 16,.grp 17 true [zmv 18 0,zbi 19 .neq 18 (zki 2)] 20 19,zmv 21 20,.grp 21 false [zmv 22 1,zmv 23 2,zmv 24 3,zca 25 106 [22,23,24],zno 26 25] 27 26]),(.cond 27 (zsq [(.reg [zmv 10 (.k (.n Qc))]),.ret]) .skip)]),(.reg [zmv 28 0,zmv 29 1,zmv 30 2,zmv 31 3,zca 32 54 [28,29,30,31],zmv 11 32]),(.reg [zop 33 (.bsl 151 Qc []),zmv 12 33]),(zsq [(.reg [zmv 13 (zki 0)]),(.block 0 (.loop QdC Qfx))]),Qf6])
def Qgm:List (ARv × Md):=[(.t 10,.one (.o 151))]
def JG:Qd:=TQ 0 0 Qgm K
def Qnj:Qd:=Qseq (tawp ZN 0 Qey (JG K)) (JG K)
def Qc7:Qd:=Qblk 2 (Qnj K)
def QdR:Qd:=Qseq (fun s'=>Loop ZN 0 Qac Qcl (Qc7 K) (gc 0 Qac s')) (Qc7 K)
def Qkc:Qd:=Qseq (tawp ZN 0 Qeg (QdR K)) (QdR K)
def QnM:Qd:=Qblk 3 (Qkc K)
@[irreducible] def JB (ds:Int) (stages:Int) (s:Int) (micro:Int) (redo:Bool) (l1:List TIns) (m1:Int):Prop:=tawp ZN 0 QgF (QnM K) ⟨[(1,(zci stages)),(2,(zci s)),(3,(zci micro)),(4,(zcb redo)),(11,(zci (Qt ds stages s micro))),(12,(.r Qc 0 0 l1.length)),(14,(zci m1))],[(0,(.sl 151 Qc true l1))],1⟩
def Jo (ds:Int) (stages:Int) (s:Int) (micro:Int) (redo:Bool) (m1:Int) (l2:List TIns):Prop:=Loop ZN 0 Qac Qcl (Qc7 K) ⟨[(1,(zci stages)),(2,(zci s)),(3,(zci micro)),(4,(zcb redo)),(11,(zci (Qt ds stages s micro))),(12,(.r Qc 0 0 l2.length)),(14,(zci m1))],[(0,(.sl 151 Qc true l2))],1⟩
def Qj6:Qd:=Qseq (tawp ZN 0 Qf6 (JG K)) (JG K)
def Qle:Qd:=Qblk 0 (Qj6 K)
def Qah (ds:Int) (stages:Int) (s:Int) (micro:Int) (redo:Bool) (m:Int) (l:List TIns):Prop:=Loop ZN 0 QdC Qfx (Qle K) ⟨[(1,(zci stages)),(2,(zci s)),(3,(zci micro)),(4,(zcb redo)),(11,(zci (Qt ds stages s micro))),(12,(.r Qc 0 0 l.length)),(13,(zci m))],[(0,(.sl 151 Qc true l))],1⟩
theorem Qkt (ds:Int) (stages:Int) (s:Int) (micro:Int) (redo:Bool) (l1:List TIns) (m1:Int) (h :
 (((QcI stages s m1 redo)∧((l1.length=l1.length∨l1.length+(List.take ((QD stages s m1 redo).length) (List.drop 0 (QD stages s m1 redo))).length≤l1.length)∧l1.length+(List.take ((QD stages s m1 redo).length) (List.drop 0 (QD stages s m1 redo))).length≤big))∧(Jo K ds stages s micro redo (w64 (m1+(1:Int))) (List.take (l1.length+(List.take ((QD stages s m1 redo).length) (List.drop 0 (QD stages s m1 redo))).length) ((List.take l1.length l1)++(List.take ((QD stages s m1 redo).length) (List.drop 0 (QD stages s m1 redo)))))))):Hold (JB K ds stages s micro redo l1 m1) :=
 Hold.of (by kernel_rfl) h
theorem Qf8 (ds:Int) (stages:Int) (s:Int) (micro:Int) (redo:Bool) (m1:Int) (l2:List TIns) (h :
 let z2:=w64 (m1+(Qt ds stages s micro))
 let z1:=List.take ((QA stages s z2).length) (List.drop 0 (QA stages s z2))
 let z3:=List.take l2.length l2
 (zif (decide (m1<micro)) (zif (decide (z2<micro)) (((p_st stages s z2)∧((l2.length=l2.length∨l2.length+z1.length≤l2.length)∧l2.length+z1.length≤big))∧(JB K ds stages s micro redo (List.take (l2.length+z1.length) (z3++z1)) m1)) (JB K ds stages s micro redo z3 m1)) (((l2.length=l2.length∨l2.length+1≤l2.length)∧l2.length+1≤big)∧K (Q2 (List.take (l2.length+1) (z3++([((8:Int),(0:Int))]))))))):Jo K ds stages s micro redo m1 l2 :=
 Loop.of (by kernel_rfl) h
theorem QeV (ds:Int) (stages:Int) (s:Int) (micro:Int) (redo:Bool) (m:Int) (l:List TIns) (h :
 (zif (decide (m<(Qt ds stages s micro))) (((p_st stages s m)∧((l.length=l.length∨l.length+(List.take ((QA stages s m).length) (List.drop 0 (QA stages s m))).length≤l.length)∧l.length+(List.take ((QA stages s m).length) (List.drop 0 (QA stages s m))).length≤big))∧(Qah K ds stages s micro redo (w64 (m+(1:Int))) (List.take (l.length+(List.take ((QA stages s m).length) (List.drop 0 (QA stages s m))).length) ((List.take l.length l)++(List.take ((QA stages s m).length) (List.drop 0 (QA stages s m))))))) (Jo K ds stages s micro redo 0 (List.take l.length l)))):Qah K ds stages s micro redo m l :=
 Loop.of (by kernel_rfl) h
theorem Qnv (ds:Int) (stages:Int) (s:Int) (micro:Int) (redo:Bool) (h :
 (zif (((ds != (1:Int))&&(ds != (2:Int)))||(!(Qv stages s micro))) (K (Q2 ([]:List TIns))) (Qah K ds stages s micro redo 0 ([]:List TIns)))):Hold (tawp ZN (0+0) QmC (TQ 0 0 Qgm K) (Qh [(.c TI ds),(.c TI stages),(.c TI s),(.c TI micro),(.c .bool redo)])) :=
 Hold.of (by kernel_rfl) h
theorem Qlq (ds:Int) (stages:Int) (s:Int) (micro:Int) (redo:Bool):TCon Try.prog 18 [(.c TI ds),(.c TI stages),(.c TI s),(.c TI micro),(.c .bool redo)] (Q2 (Qw ds stages s micro redo)):=by
 refine Ql rfl fun hb=>tcg (n:=74) (sg:=QcL.sg) Qm (TOk.cons QfQ (TOk.cons Qnk (TOk.cons Qlm (TOk.cons Qnt TOk.nil)))) (by kernel_rfl) (by kernel_rfl) (Qnv _ ds stages s micro redo ?_)
 rw [Qim]
 by_cases hp:(m_in ds 1 2&&Qv stages s micro)=true
 case neg =>
  rw [show (m_in ds 1 2&&Qv stages s micro)=false by simpa using hp]
  exact ⟨fun _=>R_eq (Qb8 hp).symm,fun h=>by simp at h⟩
 rw [hp]
 refine ⟨fun h=>by simp at h,fun _=>?_⟩
 have hq:Qv stages s micro=true:=by simp only [Bool.and_eq_true] at hp;exact hp.2
 have hr:=Qan.1 hq
 have hM:=QcZ (redo:=redo) hp
 obtain ⟨w,hw⟩:∃ w:Nat,Qt ds stages s micro=w:=⟨_,(Int.toNat_of_nonneg (Y4 hq).1).symm⟩
 have hw5:=(Y4 (ds:=ds) hq).2
 rw [hw] at hM hw5
 rw [Int.toNat_natCast] at hM
 refine YB w (fun k=>Qah (fun r'=>r'=Q2 (Qw ds stages s micro redo)) ds stages s micro redo (k:Int) (Zc stages s k)) ?_ ?_
 ·refine QeV (fun r'=>r'=Q2 (Qw ds stages s micro redo)) ds stages s micro redo _ _ ⟨fun h=>by simp [hw] at h,fun _=>?_⟩
  rw [List.take_length]
  suffices h:Jo (fun r'=>r'=Q2 (Qw ds stages s micro redo)) ds stages s micro redo ((0:Nat):Int) (Zc stages s w++Zd stages s micro redo w 0) by
   rw [show Zd stages s micro redo w 0=[] from rfl,List.append_nil] at h;exact h
  refine YB micro.toNat (fun k=>Jo (fun r'=>r'=Q2 (Qw ds stages s micro redo)) ds stages s micro redo (k:Int) (Zc stages s w++Zd stages s micro redo w k)) ?_ ?_
  ·have h1:=Yc stages s w
   have h2:=YR stages s micro redo w micro.toNat
   refine Qf8 (fun r'=>r'=Q2 (Qw ds stages s micro redo)) ds stages s micro redo _ _ ⟨fun h=>by simp at h;omega,fun _=>⟨⟨.inl rfl,by rw [List.length_append,Q0];omega⟩,R_eq ?_⟩⟩
   rw [Jj,hM]
  ·intro k hk ih
   have h1:=Yc stages s w
   have h2:=YR stages s micro redo w k
   have key:∀ l:List TIns,l=Zc stages s w++Zd stages s micro redo w k++(if (k:Int)+w<micro then QA stages s ((k:Int)+w) else [])→JB (fun r'=>r'=Q2 (Qw ds stages s micro redo)) ds stages s micro redo l (k:Int):=by
    intro l hl
    have h3:=Qbc stages s k redo
    have h4:=ZL stages s ((k:Int)+w)
    have h5:l.length≤1000:=by rw [hl];split <;> simp only [List.length_append,List.length_nil] <;> omega
    refine (Qkt (fun r'=>r'=Q2 (Qw ds stages s micro redo)) ds stages s micro redo l _ ⟨⟨⟨by omega,by omega⟩,QcY (by omega)⟩,?_⟩).h
    rw [QcQ,sc1 (by omega)]
    rw [Qff] at ih
    rw [hl,List.append_assoc,List.append_assoc]
    unfold Je at ih
    exact ih
   refine Qf8 (fun r'=>r'=Q2 (Qw ds stages s micro redo)) ds stages s micro redo _ _ ⟨fun _=>?_,fun h=>by simp at h;omega⟩
   rw [hw,Qz (x:=(k:Int)+w) (by omega) (by omega)]
   have h4:=ZL stages s ((k:Int)+w)
   refine ⟨fun h=>⟨⟨⟨by omega,by omega⟩,QcY (by rw [List.length_append];omega)⟩,key _ ?_⟩,fun h=>key _ ?_⟩
   ·rw [QcQ,if_pos (of_decide_eq_true h)]
   ·rw [if_neg (of_decide_eq_false h),List.take_length,List.append_nil]
 ·intro k hk ih
  have h1:=Yc stages s k
  have h4:=ZL stages s k
  refine QeV (fun r'=>r'=Q2 (Qw ds stages s micro redo)) ds stages s micro redo _ _ ⟨fun _=>⟨⟨⟨by omega,by omega⟩,QcY (by omega)⟩,?_⟩,fun h=>by simp [hw] at h;omega⟩
  rw [QcQ,sc1 (by omega),← Qdo]
  exact ih
theorem QjZ:Qi Try.prog QcL:=Qn fun x _=>Qlq x.1 x.2.1 x.2.2.1 x.2.2.2.1 x.2.2.2.2.1
def QZ (t:(List TIns)):TRes:=⟨(.r Qc 0 0 t.length),[(.sl 151 Qc true t)],[],true,[]⟩
def QaV:TRow:=Qj 17 [(.c TI),(.c TI),(.c TI),(.c TI),(.c .bool)] fun x=>(none,QZ (Qw x.1 x.2.1 x.2.2.1 x.2.2.2.1 x.2.2.2.2.1))
def ZU:List TRow:=[ZH,Qcd,QaX,QcJ]
def QgY:TCode :=
 (zsq [(zsq [(.reg [zmv 42 13,zmv 43 12,zbi 44 .lss 42 43]),(.cond 44 .skip (.exit 0))]),(.block 1 (.reg [zmv 47 11,zmv 48 1,zmv 49 2,zmv 50 13,zca 51 104 [47,48,49,50],zmv 11 51])),(.reg [zmv 45 13,zbi 46 .add 45 (zki 1),zmv 13 46])])
def Qgl:List (Nat × Md):=[(1,.one .d),(2,.one .d),(3,.one .d),(4,.one .d),(11,.one .f),(12,.one .d),(13,.one .d)]
def QeB:TCode :=
 (.reg [zmv 69 11,zmv 70 1,zmv 71 2,zmv 72 14,zmv 73 4,zca 74 105 [69,70,71,72,73],zmv 11 74])
def QjV:List (Nat × Md):=[(1,.one .d),(2,.one .d),(3,.one .d),(4,.one .d),(11,.one .f),(12,.one .d),(14,.one .d)]
def Ql9:TCode:=.wk QjV QeB
def Qgs:TCode :=
 (.reg [zmv 55 14,zbi 56 .add 55 (zki 1),zmv 14 56])
def QbU:TCode :=
 (zsq [(zsq [(.reg [zmv 52 14,zmv 53 3,zbi 54 .lss 52 53]),(.cond 54 .skip (.exit 2))]),(.block 3 (zsq [(zsq [(.reg [zmv 57 12,zmv 58 14,zbi 59 .add 57 58,zmv 60 3,zbi 61 .lss 59 60]),(.cond 61 (.reg [zmv 62 11,zmv 63 1,zmv 64 2,zmv 65 12,zmv 66 14,zbi 67 .add 65 66,zca 68 104 [62,63,64,67],zmv 11 68]) .skip)]),Ql9])),Qgs])
def Qab:List (Nat × Md):=[(1,.one .d),(2,.one .d),(3,.one .d),(4,.one .d),(11,.one .f),(12,.one .d),(14,.one .d)]
def Qfz:TCode :=
 (zsq [(.reg [zmv 75 11,zop 76 (.build (z0s Qc) [(0,1,(zki 8))]),zop 77 (.bsl 151 Qc [76]),zop 78 (.app 75 77 151 Qc),zmv 10 78]),.ret])
def Qen:TCode :=
 (zsq [(zsq [(.reg [zmv 14 (zki 0)]),(.block 2 (.loop Qab QbU))]),Qfz])
def Qjt:TCode :=
 (zsq [(.reg [zmv 10 (.k (.n Qc))]),(.reg [zop 15 (.bsl 151 Qc []),zmv 11 15]),(zsq [(.reg [zmv 16 0,zca 17 102 [16,(zki 1),(zki 2)],zno 18 17,zmv 19 18,.grp 19 false [zmv 20 1,zca 21 102 [20,(zki 1),(zki 4)],zno 22 21] 23 22,zmv 24 23,.grp 24 false [zmv 25 2,zmv 26 1,zbi 27 .sub 26 (zki 1),zca 28 102 [25,(zki 0),27],zno 29 28] 30 29,zmv 31 30,.grp 31 false [zmv 32 3,zca 33 102 [32,(zki 1),(zki 5)],zno 34 33] 35 34]),(.cond 35 (zsq [(.reg [zmv 36 11,zmv 10 36]),.ret]) .skip)]),(.reg [zmv 37 0,zmv 38 1,zmv 39 2,zmv 40 3,zca 41 103 [37,38,39,40],zmv 12 41]),(zsq [(.reg [zmv 13 (zki 0)]),(.block 0 (.loop Qgl QgY))]),Qen])
def QgB:List (ARv × Md):=[(.t 10,.one (.o 151))]
def QaB:Qd:=TQ 0 0 QgB K
def Qn3:Qd:=Qseq (tawp ZU 0 Qfz (QaB K)) (QaB K)
def QcT:Qd:=Qblk 2 (Qn3 K)
def Qd0:Qd:=Qseq (fun s'=>Loop ZU 0 Qab QbU (QcT K) (gc 0 Qab s')) (QcT K)
def Qjr:Qd:=Qseq (tawp ZU 0 Qgs (Qd0 K)) (Qd0 K)
def Qht:Qd:=Qblk 3 (Qjr K)
@[irreducible] def J0 (ds:Int) (stages:Int) (s:Int) (micro:Int) (redo:Bool) (l1:List TIns) (m1:Int):Prop:=tawp ZU 0 QeB (Qht K) ⟨[(1,(zci stages)),(2,(zci s)),(3,(zci micro)),(4,(zcb redo)),(11,(.r Qc 0 0 l1.length)),(12,(zci (Qt ds stages s micro))),(14,(zci m1))],[(0,(.sl 151 Qc true l1))],1⟩
def Y7 (ds:Int) (stages:Int) (s:Int) (micro:Int) (redo:Bool) (m1:Int) (l2:List TIns):Prop:=Loop ZU 0 Qab QbU (QcT K) ⟨[(1,(zci stages)),(2,(zci s)),(3,(zci micro)),(4,(zcb redo)),(11,(.r Qc 0 0 l2.length)),(12,(zci (Qt ds stages s micro))),(14,(zci m1))],[(0,(.sl 151 Qc true l2))],1⟩
def Ql0:Qd:=Qseq (tawp ZU 0 Qen (QaB K)) (QaB K)
def QnQ:Qd:=Qblk 0 (Ql0 K)
def Jv (ds:Int) (stages:Int) (s:Int) (micro:Int) (redo:Bool) (m:Int) (l:List TIns):Prop:=Loop ZU 0 Qgl QgY (QnQ K) ⟨[(1,(zci stages)),(2,(zci s)),(3,(zci micro)),(4,(zcb redo)),(11,(.r Qc 0 0 l.length)),(12,(zci (Qt ds stages s micro))),(13,(zci m))],[(0,(.sl 151 Qc true l))],1⟩
theorem Qny (ds:Int) (stages:Int) (s:Int) (micro:Int) (redo:Bool) (l1:List TIns) (m1:Int) (h :
 (((l1.length=l1.length)∧(Qcc l1 stages s m1 redo))∧(Y7 K ds stages s micro redo (w64 (m1+(1:Int))) (List.take ((YM l1 stages s m1 redo).length) (YM l1 stages s m1 redo))))):Hold (J0 K ds stages s micro redo l1 m1) :=
 Hold.of (by kernel_rfl) h
theorem Qft (ds:Int) (stages:Int) (s:Int) (micro:Int) (redo:Bool) (m1:Int) (l2:List TIns) (h :
 (zif (decide (m1<micro)) (zif (decide ((w64 ((Qt ds stages s micro)+m1))<micro)) (((l2.length=l2.length)∧(p_l9 l2 stages s (w64 ((Qt ds stages s micro)+m1))))∧(J0 K ds stages s micro redo (List.take ((Yg l2 stages s (w64 ((Qt ds stages s micro)+m1))).length) (Yg l2 stages s (w64 ((Qt ds stages s micro)+m1)))) m1)) (J0 K ds stages s micro redo (List.take l2.length l2) m1)) (((l2.length=l2.length∨l2.length+1≤l2.length)∧l2.length+1≤big)∧K (QZ (List.take (l2.length+1) ((List.take l2.length l2)++([((8:Int),(0:Int))]))))))):Y7 K ds stages s micro redo m1 l2 :=
 Loop.of (by kernel_rfl) h
theorem QdV (ds:Int) (stages:Int) (s:Int) (micro:Int) (redo:Bool) (m:Int) (l:List TIns) (h :
 (zif (decide (m<(Qt ds stages s micro))) (((l.length=l.length)∧(p_l9 l stages s m))∧(Jv K ds stages s micro redo (w64 (m+(1:Int))) (List.take ((Yg l stages s m).length) (Yg l stages s m)))) (Y7 K ds stages s micro redo 0 (List.take l.length l)))):Jv K ds stages s micro redo m l :=
 Loop.of (by kernel_rfl) h
theorem QkM (ds:Int) (stages:Int) (s:Int) (micro:Int) (redo:Bool) (h :
 (zif ((((!(m_in ds (1:Int) (2:Int)))||(!(m_in stages (1:Int) (4:Int))))||(!(m_in s (0:Int) (w64 (stages-(1:Int))))))||(!(m_in micro (1:Int) (5:Int)))) (K (QZ ([]:List TIns))) (Jv K ds stages s micro redo 0 ([]:List TIns)))):Hold (tawp ZU (0+0) Qjt (TQ 0 0 QgB K) (Qh [(.c TI ds),(.c TI stages),(.c TI s),(.c TI micro),(.c .bool redo)])) :=
 Hold.of (by kernel_rfl) h
theorem QhP (ds:Int) (stages:Int) (s:Int) (micro:Int) (redo:Bool):TCon Try.prog 17 [(.c TI ds),(.c TI stages),(.c TI s),(.c TI micro),(.c .bool redo)] (QZ (Qw ds stages s micro redo)):=by
 refine Ql rfl fun hb=>tcg (n:=79) (sg:=QaV.sg) Qm (TOk.cons Z7 (TOk.cons Qii (TOk.cons Qhn (TOk.cons Qk1 TOk.nil)))) (by kernel_rfl) (by kernel_rfl) (QkM _ ds stages s micro redo ?_)
 rw [Qhi]
 by_cases hp:(m_in ds 1 2&&Qv stages s micro)=true
 case neg =>
  rw [show (m_in ds 1 2&&Qv stages s micro)=false by simpa using hp]
  exact ⟨fun _=>R_eq (Qb8 hp).symm,fun h=>by simp at h⟩
 rw [hp]
 refine ⟨fun h=>by simp at h,fun _=>?_⟩
 have hq:Qv stages s micro=true:=by simp only [Bool.and_eq_true] at hp;exact hp.2
 have hr:=Qan.1 hq
 have hM:=QcZ (redo:=redo) hp
 obtain ⟨w,hw⟩:∃ w:Nat,Qt ds stages s micro=w:=⟨_,(Int.toNat_of_nonneg (Y4 hq).1).symm⟩
 have hw5:=(Y4 (ds:=ds) hq).2
 rw [hw] at hM hw5
 rw [Int.toNat_natCast] at hM
 refine YB w (fun k=>Jv (fun r'=>r'=QZ (Qw ds stages s micro redo)) ds stages s micro redo (k:Int) (Zc stages s k)) ?_ ?_
 ·refine QdV (fun r'=>r'=QZ (Qw ds stages s micro redo)) ds stages s micro redo _ _ ⟨fun h=>by simp [hw] at h,fun _=>?_⟩
  rw [List.take_length]
  suffices h:Y7 (fun r'=>r'=QZ (Qw ds stages s micro redo)) ds stages s micro redo ((0:Nat):Int) (Zc stages s w++Zd stages s micro redo w 0) by
   rw [show Zd stages s micro redo w 0=[] from rfl,List.append_nil] at h;exact h
  refine YB micro.toNat (fun k=>Y7 (fun r'=>r'=QZ (Qw ds stages s micro redo)) ds stages s micro redo (k:Int) (Zc stages s w++Zd stages s micro redo w k)) ?_ ?_
  ·have h1:=Yc stages s w
   have h2:=YR stages s micro redo w micro.toNat
   refine Qft (fun r'=>r'=QZ (Qw ds stages s micro redo)) ds stages s micro redo _ _ ⟨fun h=>by simp at h;omega,fun _=>⟨⟨.inl rfl,by rw [List.length_append,Q0];omega⟩,R_eq ?_⟩⟩
   rw [Jj,hM]
  ·intro k hk ih
   have h1:=Yc stages s w
   have h2:=YR stages s micro redo w k
   have key:∀ l:List TIns,l=Zc stages s w++Zd stages s micro redo w k++(if (k:Int)+w<micro then QA stages s ((k:Int)+w) else [])→J0 (fun r'=>r'=QZ (Qw ds stages s micro redo)) ds stages s micro redo l (k:Int):=by
    intro l hl
    have h3:=Qbc stages s k redo
    have h4:=ZL stages s ((k:Int)+w)
    have h5:l.length≤1000:=by rw [hl];split <;> simp only [List.length_append,List.length_nil] <;> omega
    refine (Qny (fun r'=>r'=QZ (Qw ds stages s micro redo)) ds stages s micro redo l _ ⟨⟨rfl,⟨by omega,by omega⟩,by omega⟩,?_⟩).h
    rw [List.take_length,sc1 (by omega)]
    rw [Qff] at ih
    unfold YM
    rw [hl,List.append_assoc,List.append_assoc]
    unfold Je at ih
    exact ih
   refine Qft (fun r'=>r'=QZ (Qw ds stages s micro redo)) ds stages s micro redo _ _ ⟨fun _=>?_,fun h=>by simp at h;omega⟩
   rw [hw,Int.add_comm (w:Int) k,Qz (x:=(k:Int)+w) (by omega) (by omega)]
   have h4:=ZL stages s ((k:Int)+w)
   refine ⟨fun h=>⟨⟨rfl,⟨by omega,by omega⟩,by rw [List.length_append];omega⟩,key _ ?_⟩,fun h=>key _ ?_⟩
   ·rw [List.take_length,if_pos (of_decide_eq_true h)];rfl
   ·rw [if_neg (of_decide_eq_false h),List.take_length,List.append_nil]
 ·intro k hk ih
  have h1:=Yc stages s k
  have h4:=ZL stages s k
  refine QdV (fun r'=>r'=QZ (Qw ds stages s micro redo)) ds stages s micro redo _ _ ⟨fun _=>⟨⟨rfl,⟨by omega,by omega⟩,by omega⟩,?_⟩,fun h=>by simp [hw] at h;omega⟩
  rw [List.take_length,sc1 (by omega)]
  rw [Qdo] at ih
  exact ih
theorem QmF:Qi Try.prog QaV:=Qn fun x _=>QhP x.1 x.2.1 x.2.2.1 x.2.2.2.1 x.2.2.2.2.1
end
end Go.Proofs.Ytephkbajoofeoaa.Am

