/- -/
import Derived.Test.YtjbdljkhbglnhaaGreatZFPE
import Derived.Test.YtjbdljkhbglnhaaGreatZFP1
import Derived.Test.YtjbdljkhbglnhaaGreatZFG9
namespace Go.Proofs.YtjbdljkhbglnhaaGreat.Am
open Go Go.RowKit Go.Proofs.YtjbdljkhbglnhaaGreat
set_option linter.all false
noncomputable section
variable (K:TRes→Prop)
def Qez (t:(List TIns)):TRes:=⟨(.r Qr 0 0 t.length),[(.sl 111 Qr true t)],[],true,[]⟩
def QqW:TRow:=Qh 149 [(.c TI),(.c TI),(.c TI)] fun x=>(some (p_st x.1 x.2.1 x.2.2.1),Qez (Ye x.1 x.2.1 x.2.2.1))
def QvX:List TRow:=[]
def QGL:TCode :=
 (zsq [(.reg [zmv 16 7,zmv 17 2,zop 18 (.build (z0s Qr) [(0,1,(zki 2)),(1,1,17)]),zop 19 (.bsl 111 Qr [18]),zop 20 (.app 16 19 111 Qr),zmv 7 20]),(zsq [(.reg [zmv 21 1,zmv 22 0,zbi 23 .sub 22 (zki 1),zbi 24 .lss 21 23]),(.cond 24 (.reg [zmv 25 7,zmv 26 2,zop 27 (.build (z0s Qr) [(0,1,(zki 3)),(1,1,26)]),zop 28 (.bsl 111 Qr [27]),zop 29 (.app 25 28 111 Qr),zmv 7 29]) .skip)]),(.reg [zmv 30 7,zmv 6 30]),.ret])
def QHo:List (Nat × Md):=[(0,.one .d),(1,.one .d),(2,.one .d),(7,.one .f)]
def Q1S:TCode:=.wk QHo QGL
def QIv:TCode :=
 (zsq [(.reg [zmv 6 (.k (.n Qr))]),(.reg [zop 8 (.bsl 111 Qr []),zmv 7 8]),(zsq [(.reg [zmv 9 1,zbi 10 .gtr 9 (zki 0)]),(.cond 10 (.reg [zmv 11 7,zmv 12 2,zop 13 (.build (z0s Qr) [(0,1,(zki 1)),(1,1,12)]),zop 14 (.bsl 111 Qr [13]),zop 15 (.app 11 14 111 Qr),zmv 7 15]) .skip)]),Q1S])
def QAG:List (ARv × Md):=[(.t 6,.one (.o 111))]
def QHP:Qb:=TQ 0 0 QAG K
def Qle (stages:Int) (s:Int) (m:Int) (l:List TIns):Prop:=tawp QvX 0 QGL (QHP K) ⟨[(0,(zci stages)),(1,(zci s)),(2,(zci m)),(7,(.r Qr 0 0 l.length))],[(0,(.sl 111 Qr true l))],1⟩
theorem Q3q (stages:Int) (s:Int) (m:Int) (l:List TIns) (h :
 (((l.length=l.length∨l.length+1≤l.length)∧l.length+1≤big)∧(zif (decide (s<(w64 (stages-(1:Int))))) ((((l.length+1)=((List.take l.length l)++([((2:Int),m)])).length∨(l.length+1)+1≤((List.take l.length l)++([((2:Int),m)])).length)∧(l.length+1)+1≤big)∧K (Qez (List.take ((l.length+1)+1) ((List.take (l.length+1) ((List.take l.length l)++([((2:Int),m)])))++([((3:Int),m)]))))) (K (Qez (List.take (l.length+1) ((List.take l.length l)++([((2:Int),m)])))))))):Hold (Qle K stages s m l) :=
 Hold.of (by kernel_rfl) h
theorem QRF (stages:Int) (s:Int) (m:Int) (h :
 (zif (decide (s>(0:Int))) (((0=0∨0+1≤0)∧0+1≤big)∧(Qle K stages s m (List.take (0+1) ([((1:Int),m)]:List TIns)))) (Qle K stages s m ([]:List TIns)))):Hold (tawp QvX (0+0) QIv (TQ 0 0 QAG K) (Qf [(.c TI stages),(.c TI s),(.c TI m)])) :=
 Hold.of (by kernel_rfl) h
theorem QXx (stages:Int) (s:Int) (m:Int) (hp:p_st stages s m):TCon Tryz.prog 149 [(.c TI stages),(.c TI s),(.c TI m)] (Qez (Ye stages s m)):=by
 refine Qo rfl fun hb=>tcg (n:=31) (sg:=QqW.sg) Qj TOk.nil (by kernel_rfl) (by kernel_rfl) (QRF _ stages s m ?_)
 obtain ⟨h1,h2⟩:=hp
 have hw:w64 (stages-1)=stages-1:=Qq (by omega) (by omega)
 have key:∀ l:List TIns,l.length≤1→l++[(2,m)]++(if s<stages-1 then [(3,m)] else [])=(Ye stages s m)→Qle (fun r'=>r'=Qez (Ye stages s m)) stages s m l:=by
  intro l hl he
  refine (Q3q (fun r'=>r'=Qez (Ye stages s m)) stages s m l ?_).h
  rw [hw,← he]
  simp only [Q7]
  refine ⟨⟨by simp,by rw [Q1];omega⟩,fun h=>⟨⟨.inl (by simp),by rw [Q1];omega⟩,R_eq ?_⟩,fun h=>R_eq ?_⟩
  ·simp at h;simp [h,List.take_of_length_le]
  ·simp at h;simp [Int.not_lt.2 h]
 refine ⟨fun h=>⟨⟨.inl rfl,by rw [Q1];omega⟩,key _ (by simp) ?_⟩,fun h=>key _ (by simp) ?_⟩
 ·simp at h;simp [Ye,h]
 ·simp at h;simp [Ye,Int.not_lt.2 h]
theorem Q24:Qg Tryz.prog QqW:=Qk fun x h=>QXx x.1 x.2.1 x.2.2.1 h
def Qcq (t:(List TIns)):TRes:=⟨(.r Qr 0 0 t.length),[(.sl 111 Qr true t)],[],true,[]⟩
def Qnh:TRow:=Qh 150 [(.c TI),(.c TI),(.c TI),(.c .bool)] fun x=>(some (Qrk x.1 x.2.1 x.2.2.1 x.2.2.2.1),Qcq (YD x.1 x.2.1 x.2.2.1 x.2.2.2.1))
def Qpq:List TRow:=[]
def QGQ:TCode :=
 (zsq [(.reg [zmv 26 9,zmv 27 2,zop 28 (.build (z0s Qr) [(0,1,(zki 6)),(1,1,27)]),zop 29 (.bsl 111 Qr [28]),zop 30 (.app 26 29 111 Qr),zmv 9 30]),(zsq [(.reg [zmv 31 1,zbi 32 .gtr 31 (zki 0)]),(.cond 32 (.reg [zmv 33 9,zmv 34 2,zop 35 (.build (z0s Qr) [(0,1,(zki 7)),(1,1,34)]),zop 36 (.bsl 111 Qr [35]),zop 37 (.app 33 36 111 Qr),zmv 9 37]) .skip)]),(.reg [zmv 38 9,zmv 8 38]),.ret])
def QXV:List (Nat × Md):=[(1,.one .d),(2,.one .d),(9,.one .f)]
def QKw:TCode:=.wk QXV QGQ
def QzE:TCode :=
 (zsq [(zsq [(.reg [zmv 20 3]),(.cond 20 (.reg [zmv 21 9,zmv 22 2,zop 23 (.build (z0s Qr) [(0,1,(zki 5)),(1,1,22)]),zop 24 (.bsl 111 Qr [23]),zop 25 (.app 21 24 111 Qr),zmv 9 25]) .skip)]),QKw])
def QY1:List (Nat × Md):=[(1,.one .d),(2,.one .d),(3,.one .d),(9,.one .f)]
def Q26:TCode:=.wk QY1 QzE
def Q1L:TCode :=
 (zsq [(.reg [zmv 8 (.k (.n Qr))]),(.reg [zop 10 (.bsl 111 Qr []),zmv 9 10]),(zsq [(.reg [zmv 11 1,zmv 12 0,zbi 13 .sub 12 (zki 1),zbi 14 .lss 11 13]),(.cond 14 (.reg [zmv 15 9,zmv 16 2,zop 17 (.build (z0s Qr) [(0,1,(zki 4)),(1,1,16)]),zop 18 (.bsl 111 Qr [17]),zop 19 (.app 15 18 111 Qr),zmv 9 19]) .skip)]),Q26])
def QEE:List (ARv × Md):=[(.t 8,.one (.o 111))]
def QwB:Qb:=TQ 0 0 QEE K
def QiL (s:Int) (m:Int) (l1:List TIns):Prop:=tawp Qpq 0 QGQ (QwB K) ⟨[(1,(zci s)),(2,(zci m)),(9,(.r Qr 0 0 l1.length))],[(0,(.sl 111 Qr true l1))],1⟩
def Qg9 (s:Int) (m:Int) (redo:Bool) (l:List TIns):Prop:=tawp Qpq 0 QzE (QwB K) ⟨[(1,(zci s)),(2,(zci m)),(3,(zcb redo)),(9,(.r Qr 0 0 l.length))],[(0,(.sl 111 Qr true l))],1⟩
theorem QOZ (s:Int) (m:Int) (l1:List TIns) (h :
 (((l1.length=l1.length∨l1.length+1≤l1.length)∧l1.length+1≤big)∧(zif (decide (s>(0:Int))) ((((l1.length+1)=((List.take l1.length l1)++([((6:Int),m)])).length∨(l1.length+1)+1≤((List.take l1.length l1)++([((6:Int),m)])).length)∧(l1.length+1)+1≤big)∧K (Qcq (List.take ((l1.length+1)+1) ((List.take (l1.length+1) ((List.take l1.length l1)++([((6:Int),m)])))++([((7:Int),m)]))))) (K (Qcq (List.take (l1.length+1) ((List.take l1.length l1)++([((6:Int),m)])))))))):Hold (QiL K s m l1) :=
 Hold.of (by kernel_rfl) h
theorem Q2t (s:Int) (m:Int) (redo:Bool) (l:List TIns) (h :
 (zif redo (((l.length=l.length∨l.length+1≤l.length)∧l.length+1≤big)∧(QiL K s m (List.take (l.length+1) ((List.take l.length l)++([((5:Int),m)]))))) (QiL K s m (List.take l.length l)))):Hold (Qg9 K s m redo l) :=
 Hold.of (by kernel_rfl) h
theorem QSs (stages:Int) (s:Int) (m:Int) (redo:Bool) (h :
 (zif (decide (s<(w64 (stages-(1:Int))))) (((0=0∨0+1≤0)∧0+1≤big)∧(Qg9 K s m redo (List.take (0+1) ([((4:Int),m)]:List TIns)))) (Qg9 K s m redo ([]:List TIns)))):Hold (tawp Qpq (0+0) Q1L (TQ 0 0 QEE K) (Qf [(.c TI stages),(.c TI s),(.c TI m),(.c .bool redo)])) :=
 Hold.of (by kernel_rfl) h
theorem QVD (stages:Int) (s:Int) (m:Int) (redo:Bool) (hp:Qrk stages s m redo):TCon Tryz.prog 150 [(.c TI stages),(.c TI s),(.c TI m),(.c .bool redo)] (Qcq (YD stages s m redo)):=by
 refine Qo rfl fun hb=>tcg (n:=39) (sg:=Qnh.sg) Qj TOk.nil (by kernel_rfl) (by kernel_rfl) (QSs _ stages s m redo ?_)
 obtain ⟨h1,h2⟩:=hp
 have hw:w64 (stages-1)=stages-1:=Qq (by omega) (by omega)
 have key2:∀ l:List TIns,l.length≤2→l++[(6,m)]++(if 0<s then [(7,m)] else [])=(YD stages s m redo)→QiL (fun r'=>r'=Qcq (YD stages s m redo)) s m l:=by
  intro l hl he
  refine (QOZ (fun r'=>r'=Qcq (YD stages s m redo)) s m l ?_).h
  rw [← he]
  simp only [Q7]
  refine ⟨⟨by simp,by rw [Q1];omega⟩,fun h=>⟨⟨.inl (by simp),by rw [Q1];omega⟩,R_eq ?_⟩,fun h=>R_eq ?_⟩
  ·simp at h;simp [h,List.take_of_length_le]
  ·simp at h;simp [Int.not_lt.2 h]
 have key:∀ l:List TIns,l.length≤1→l++(if redo then [(5,m)] else [])++[(6,m)]++(if 0<s then [(7,m)] else [])=(YD stages s m redo)→Qg9 (fun r'=>r'=Qcq (YD stages s m redo)) s m redo l:=by
  intro l hl he
  refine (Q2t (fun r'=>r'=Qcq (YD stages s m redo)) s m redo l ⟨fun h=>⟨⟨.inl rfl,by rw [Q1];omega⟩,key2 _ (by simp;omega) ?_⟩,fun h=>key2 _ (by simp;omega) ?_⟩).h
  ·rw [← he,Q7,h];simp
  ·rw [← he,List.take_length,h];simp
 rw [hw]
 refine ⟨fun h=>⟨⟨.inl rfl,by rw [Q1];omega⟩,key _ (by simp) ?_⟩,fun h=>key _ (by simp) ?_⟩
 ·simp at h;simp [YD,h]
 ·simp at h;simp [YD,Int.not_lt.2 h]
theorem QTL:Qg Tryz.prog Qnh:=Qk fun x h=>QVD x.1 x.2.1 x.2.2.1 x.2.2.2.1 h
def Qef (t:(List TIns)):TRes:=⟨(.r Qr 0 0 t.length),[(.sl 111 Qr true t)],[],true,[.dead]⟩
def Qrg:TRow:=Qh 159 [(.o 111 Qr),(.c TI),(.c TI),(.c TI)] fun x=>(some (p_l9 x.1 x.2.1 x.2.2.1 x.2.2.2.1),Qef (Qde x.1 x.2.1 x.2.2.1 x.2.2.2.1))
def QT2:List TRow:=[]
def QZO:TCode :=
 (zsq [(.reg [zmv 8 (.k (.n Qr))]),(zsq [(.reg [zmv 9 2,zbi 10 .gtr 9 (zki 0)]),(.cond 10 (.reg [zmv 11 0,zmv 12 3,zop 13 (.build (z0s Qr) [(0,1,(zki 1)),(1,1,12)]),zop 14 (.bsl 111 Qr [13]),zop 15 (.app 11 14 111 Qr),zmv 0 15]) .skip)]),(.reg [zmv 16 0,zmv 17 3,zop 18 (.build (z0s Qr) [(0,1,(zki 2)),(1,1,17)]),zop 19 (.bsl 111 Qr [18]),zop 20 (.app 16 19 111 Qr),zmv 0 20]),(zsq [(.reg [zmv 21 2,zmv 22 1,zbi 23 .sub 22 (zki 1),zbi 24 .lss 21 23]),(.cond 24 (.reg [zmv 25 0,zmv 26 3,zop 27 (.build (z0s Qr) [(0,1,(zki 3)),(1,1,26)]),zop 28 (.bsl 111 Qr [27]),zop 29 (.app 25 28 111 Qr),zmv 0 29]) .skip)]),(.reg [zmv 30 0,zmv 8 30]),.ret])
def Q11:List (ARv × Md):=[(.t 8,.one (.o 111))]
theorem QXz (l:List TIns) (stages:Int) (s:Int) (m:Int) (h :
 (zif (decide (s>(0:Int))) (((l.length=l.length∨l.length+1≤l.length)∧l.length+1≤big)∧((((l.length+1)=((List.take l.length l)++([((1:Int),m)])).length∨(l.length+1)+1≤((List.take l.length l)++([((1:Int),m)])).length)∧(l.length+1)+1≤big)∧(zif (decide (s<(w64 (stages-(1:Int))))) (((((l.length+1)+1)=((List.take (l.length+1) ((List.take l.length l)++([((1:Int),m)])))++([((2:Int),m)])).length∨((l.length+1)+1)+1≤((List.take (l.length+1) ((List.take l.length l)++([((1:Int),m)])))++([((2:Int),m)])).length)∧((l.length+1)+1)+1≤big)∧K (Qef (List.take (((l.length+1)+1)+1) ((List.take ((l.length+1)+1) ((List.take (l.length+1) ((List.take l.length l)++([((1:Int),m)])))++([((2:Int),m)])))++([((3:Int),m)]))))) (K (Qef (List.take ((l.length+1)+1) ((List.take (l.length+1) ((List.take l.length l)++([((1:Int),m)])))++([((2:Int),m)])))))))) (((l.length=l.length∨l.length+1≤l.length)∧l.length+1≤big)∧(zif (decide (s<(w64 (stages-(1:Int))))) ((((l.length+1)=((List.take l.length l)++([((2:Int),m)])).length∨(l.length+1)+1≤((List.take l.length l)++([((2:Int),m)])).length)∧(l.length+1)+1≤big)∧K (Qef (List.take ((l.length+1)+1) ((List.take (l.length+1) ((List.take l.length l)++([((2:Int),m)])))++([((3:Int),m)]))))) (K (Qef (List.take (l.length+1) ((List.take l.length l)++([((2:Int),m)]))))))))):Hold (tawp QT2 (0+1) QZO (TQ 0 1 Q11 K) (Qf [(.ow 111 Qr l),(.c TI stages),(.c TI s),(.c TI m)])) :=
 Hold.of (by kernel_rfl) h
theorem Q1b (l:List TIns) (stages:Int) (s:Int) (m:Int) (hp:p_l9 l stages s m):TCon Tryz.prog 159 [(.ow 111 Qr l),(.c TI stages),(.c TI s),(.c TI m)] (Qef (Qde l stages s m)):=by
 refine Qo rfl fun hb=>tcg (n:=31) (sg:=Qrg.sg) Qj TOk.nil (by kernel_rfl) (by kernel_rfl) (QXz _ l stages s m ?_)
 obtain ⟨⟨h1,h2⟩,hl⟩:=hp
 have hw:w64 (stages-1)=stages-1:=Qq (by omega) (by omega)
 have hb:l.length+100≤big:=by rw [Q1];omega
 rw [hw]
 unfold Qde Ye
 refine ⟨fun h=>?_,fun h=>?_⟩
 all_goals
  simp at h
  first | have h0:0<s:=h | have h0:¬ 0<s:=by omega
  refine ⟨⟨.inl rfl,by omega⟩,?_⟩
  first
  | refine ⟨⟨.inl (by simp),by omega⟩,fun h3=>⟨⟨.inl (by simp),by omega⟩,R_eq ?_⟩,fun h3=>R_eq ?_⟩
  | refine ⟨fun h3=>⟨⟨.inl (by simp),by omega⟩,R_eq ?_⟩,fun h3=>R_eq ?_⟩
  all_goals
   simp at h3
   first | have h4:s<stages-1:=h3 | have h4:¬ s<stages-1:=by omega
   simp [h0,h4,List.take_of_length_le]
theorem QUR:Qg Tryz.prog Qrg:=Qk fun x h=>Q1b x.1 x.2.1 x.2.2.1 x.2.2.2.1 h
def Qa7 (t:(List TIns)):TRes:=⟨(.r Qr 0 0 t.length),[(.sl 111 Qr true t)],[],true,[.dead]⟩
def QmX:TRow:=Qh 160 [(.o 111 Qr),(.c TI),(.c TI),(.c TI),(.c .bool)] fun x=>(some (QmL x.1 x.2.1 x.2.2.1 x.2.2.2.1 x.2.2.2.2.1),Qa7 (QeZ x.1 x.2.1 x.2.2.1 x.2.2.2.1 x.2.2.2.2.1))
def QN4:List TRow:=[]
def QV1:TCode :=
 (zsq [(.reg [zmv 10 (.k (.n Qr))]),(zsq [(.reg [zmv 11 2,zmv 12 1,zbi 13 .sub 12 (zki 1),zbi 14 .lss 11 13]),(.cond 14 (.reg [zmv 15 0,zmv 16 3,zop 17 (.build (z0s Qr) [(0,1,(zki 4)),(1,1,16)]),zop 18 (.bsl 111 Qr [17]),zop 19 (.app 15 18 111 Qr),zmv 0 19]) .skip)]),(zsq [(.reg [zmv 20 4]),(.cond 20 (.reg [zmv 21 0,zmv 22 3,zop 23 (.build (z0s Qr) [(0,1,(zki 5)),(1,1,22)]),zop 24 (.bsl 111 Qr [23]),zop 25 (.app 21 24 111 Qr),zmv 0 25]) .skip)]),(.reg [zmv 26 0,zmv 27 3,zop 28 (.build (z0s Qr) [(0,1,(zki 6)),(1,1,27)]),zop 29 (.bsl 111 Qr [28]),zop 30 (.app 26 29 111 Qr),zmv 0 30]),(zsq [(.reg [zmv 31 2,zbi 32 .gtr 31 (zki 0)]),(.cond 32 (.reg [zmv 33 0,zmv 34 3,zop 35 (.build (z0s Qr) [(0,1,(zki 7)),(1,1,34)]),zop 36 (.bsl 111 Qr [35]),zop 37 (.app 33 36 111 Qr),zmv 0 37]) .skip)]),(.reg [zmv 38 0,zmv 10 38]),.ret])
def Q1A:List (ARv × Md):=[(.t 10,.one (.o 111))]
theorem QPy (l:List TIns) (stages:Int) (s:Int) (m:Int) (redo:Bool) (h :
 let z1:=List.take l.length l
 (zif (decide (s<(w64 (stages-(1:Int))))) (((l.length=l.length∨l.length+1≤l.length)∧l.length+1≤big)∧(zif redo ((((l.length+1)=(z1++([((4:Int),m)])).length∨(l.length+1)+1≤(z1++([((4:Int),m)])).length)∧(l.length+1)+1≤big)∧(((((l.length+1)+1)=((List.take (l.length+1) (z1++([((4:Int),m)])))++([((5:Int),m)])).length∨((l.length+1)+1)+1≤((List.take (l.length+1) (z1++([((4:Int),m)])))++([((5:Int),m)])).length)∧((l.length+1)+1)+1≤big)∧(zif (decide (s>(0:Int))) ((((((l.length+1)+1)+1)=((List.take ((l.length+1)+1) ((List.take (l.length+1) (z1++([((4:Int),m)])))++([((5:Int),m)])))++([((6:Int),m)])).length∨(((l.length+1)+1)+1)+1≤((List.take ((l.length+1)+1) ((List.take (l.length+1) (z1++([((4:Int),m)])))++([((5:Int),m)])))++([((6:Int),m)])).length)∧(((l.length+1)+1)+1)+1≤big)∧K (Qa7 (List.take ((((l.length+1)+1)+1)+1) ((List.take (((l.length+1)+1)+1) ((List.take ((l.length+1)+1) ((List.take (l.length+1) (z1++([((4:Int),m)])))++([((5:Int),m)])))++([((6:Int),m)])))++([((7:Int),m)]))))) (K (Qa7 (List.take (((l.length+1)+1)+1) ((List.take ((l.length+1)+1) ((List.take (l.length+1) (z1++([((4:Int),m)])))++([((5:Int),m)])))++([((6:Int),m)])))))))) ((((l.length+1)=(z1++([((4:Int),m)])).length∨(l.length+1)+1≤(z1++([((4:Int),m)])).length)∧(l.length+1)+1≤big)∧(zif (decide (s>(0:Int))) (((((l.length+1)+1)=((List.take (l.length+1) (z1++([((4:Int),m)])))++([((6:Int),m)])).length∨((l.length+1)+1)+1≤((List.take (l.length+1) (z1++([((4:Int),m)])))++([((6:Int),m)])).length)∧((l.length+1)+1)+1≤big)∧K (Qa7 (List.take (((l.length+1)+1)+1) ((List.take ((l.length+1)+1) ((List.take (l.length+1) (z1++([((4:Int),m)])))++([((6:Int),m)])))++([((7:Int),m)]))))) (K (Qa7 (List.take ((l.length+1)+1) ((List.take (l.length+1) (z1++([((4:Int),m)])))++([((6:Int),m)]))))))))) (zif redo (((l.length=l.length∨l.length+1≤l.length)∧l.length+1≤big)∧((((l.length+1)=(z1++([((5:Int),m)])).length∨(l.length+1)+1≤(z1++([((5:Int),m)])).length)∧(l.length+1)+1≤big)∧(zif (decide (s>(0:Int))) (((((l.length+1)+1)=((List.take (l.length+1) (z1++([((5:Int),m)])))++([((6:Int),m)])).length∨((l.length+1)+1)+1≤((List.take (l.length+1) (z1++([((5:Int),m)])))++([((6:Int),m)])).length)∧((l.length+1)+1)+1≤big)∧K (Qa7 (List.take (((l.length+1)+1)+1) ((List.take ((l.length+1)+1) ((List.take (l.length+1) (z1++([((5:Int),m)])))++([((6:Int),m)])))++([((7:Int),m)]))))) (K (Qa7 (List.take ((l.length+1)+1) ((List.take (l.length+1) (z1++([((5:Int),m)])))++([((6:Int),m)])))))))) (((l.length=l.length∨l.length+1≤l.length)∧l.length+1≤big)∧(zif (decide (s>(0:Int))) ((((l.length+1)=(z1++([((6:Int),m)])).length∨(l.length+1)+1≤(z1++([((6:Int),m)])).length)∧(l.length+1)+1≤big)∧K (Qa7 (List.take ((l.length+1)+1) ((List.take (l.length+1) (z1++([((6:Int),m)])))++([((7:Int),m)]))))) (K (Qa7 (List.take (l.length+1) (z1++([((6:Int),m)])))))))))):Hold (tawp QN4 (0+1) QV1 (TQ 0 1 Q1A K) (Qf [(.ow 111 Qr l),(.c TI stages),(.c TI s),(.c TI m),(.c .bool redo)])) :=
 Hold.of (by kernel_rfl) h
theorem QOW (l:List TIns) (stages:Int) (s:Int) (m:Int) (redo:Bool) (hp:QmL l stages s m redo):TCon Tryz.prog 160 [(.ow 111 Qr l),(.c TI stages),(.c TI s),(.c TI m),(.c .bool redo)] (Qa7 (QeZ l stages s m redo)):=by
 refine Qo rfl fun hb=>tcg (n:=39) (sg:=QmX.sg) Qj TOk.nil (by kernel_rfl) (by kernel_rfl) (QPy _ l stages s m redo ?_)
 conv=>zeta
 obtain ⟨⟨h1,h2⟩,hl⟩:=hp
 have hw:w64 (stages-1)=stages-1:=Qq (by omega) (by omega)
 have hb:l.length+100≤big:=by rw [Q1];omega
 rw [hw]
 unfold QeZ YD
 have hd:∀ k,List.take k (l++[])=List.take k l:=by intro k;rw [List.append_nil]
 by_cases c1:s<stages-1
 all_goals
  cases redo
  all_goals
   by_cases c3:0<s
   all_goals
    simp only [zif,gt_iff_lt,c1,c3,decide_true,decide_false,Bool.false_eq_true,true_implies,false_implies,true_and,and_true,reduceCtorEq,if_true,if_false,List.nil_append,List.append_nil]
    simp [zif,List.take_of_length_le,Q1]
    try omega
    try exact R_eq (by simp [List.take_of_length_le])
theorem QOR:Qg Tryz.prog QmX:=Qk fun x h=>QOW x.1 x.2.1 x.2.2.1 x.2.2.2.1 x.2.2.2.2.1 h
def J4 (t:(List TIns)):TRes:=⟨(.r Qr 0 0 t.length),[(.sl 111 Qr true t)],[],true,[]⟩
def Qn6:TRow:=Qh 72 [(.c TI),(.c TI),(.c TI),(.c TI),(.c .bool)] fun x=>(none,J4 (ZL x.1 x.2.1 x.2.2.1 x.2.2.2.1 x.2.2.2.2.1))
def QbN:List TRow:=[QiE,Qp0,QqW,Qnh]
def Qvt:TCode :=
 (zsq [(zsq [(.reg [zmv 34 13,zmv 35 11,zbi 36 .lss 34 35]),(.cond 36 .skip (.exit 0))]),(.block 1 (.reg [zmv 39 12,zmv 40 1,zmv 41 2,zmv 42 13,zca 43 149 [40,41,42],zop 44 (.app 39 43 111 Qr),zmv 12 44])),(.reg [zmv 37 13,zbi 38 .add 37 (zki 1),zmv 13 38])])
def QC3:List (Nat × Md):=[(1,.one .d),(2,.one .d),(3,.one .d),(4,.one .d),(11,.one .d),(12,.one .f),(13,.one .d)]
def QGW:TCode :=
 (.reg [zmv 63 12,zmv 64 1,zmv 65 2,zmv 66 14,zmv 67 4,zca 68 150 [64,65,66,67],zop 69 (.app 63 68 111 Qr),zmv 12 69])
def QP1:List (Nat × Md):=[(1,.one .d),(2,.one .d),(3,.one .d),(4,.one .d),(11,.one .d),(12,.one .f),(14,.one .d)]
def QKx:TCode:=.wk QP1 QGW
def QzH:TCode :=
 (.reg [zmv 48 14,zbi 49 .add 48 (zki 1),zmv 14 49])
def Ql1:TCode :=
 (zsq [(zsq [(.reg [zmv 45 14,zmv 46 3,zbi 47 .lss 45 46]),(.cond 47 .skip (.exit 2))]),(.block 3 (zsq [(zsq [(.reg [zmv 50 14,zmv 51 11,zbi 52 .add 50 51,zmv 53 3,zbi 54 .lss 52 53]),(.cond 54 (.reg [zmv 55 12,zmv 56 1,zmv 57 2,zmv 58 14,zmv 59 11,zbi 60 .add 58 59,zca 61 149 [56,57,60],zop 62 (.app 55 61 111 Qr),zmv 12 62]) .skip)]),QKx])),QzH])
def Qh8:List (Nat × Md):=[(1,.one .d),(2,.one .d),(3,.one .d),(4,.one .d),(11,.one .d),(12,.one .f),(14,.one .d)]
def QtQ:TCode :=
 (zsq [(.reg [zmv 70 12,zop 71 (.build (z0s Qr) [(0,1,(zki 8)),(1,1,(zki 0))]),zop 72 (.bsl 111 Qr [71]),zop 73 (.app 70 72 111 Qr),zmv 10 73]),.ret])
def QyS:TCode :=
 (zsq [(zsq [(.reg [zmv 14 (zki 0)]),(.block 2 (.loop Qh8 Ql1))]),QtQ])
def Q2s:TCode :=
 (zsq [(.reg [zmv 10 (.k (.n Qr))]),(zsq [(.reg [zmv 15 0,zbi 16 .neq 15 (zki 1),zmv 17 16,.grp 17 true [zmv 18 0,zbi 19 .neq 18 (zki 2)] 20 19,zmv 21 20,.grp 21 false [zmv 22 1,zmv 23 2,zmv 24 3,zca 25 147 [22,23,24],zno 26 25] 27 26]),(.cond 27 (zsq [(.reg [zmv 10 (.k (.n Qr))]),.ret]) .skip)]),(.reg [zmv 28 0,zmv 29 1,zmv 30 2,zmv 31 3,zca 32 148 [28,29,30,31],zmv 11 32]),(.reg [zop 33 (.bsl 111 Qr []),zmv 12 33]),(zsq [(.reg [zmv 13 (zki 0)]),(.block 0 (.loop QC3 Qvt))]),QyS])
def QFn:List (ARv × Md):=[(.t 10,.one (.o 111))]
def QhW:Qb:=TQ 0 0 QFn K
def QUP:Qb:=Qseq (tawp QbN 0 QtQ (QhW K)) (QhW K)
def QmW:Qb:=Qblk 2 (QUP K)
def QwO:Qb:=Qseq (fun s'=>Loop QbN 0 Qh8 Ql1 (QmW K) (gc 0 Qh8 s')) (QmW K)
def QN5:Qb:=Qseq (tawp QbN 0 QzH (QwO K)) (QwO K)
def QZQ:Qb:=Qblk 3 (QN5 K)
def QiB (ds:Int) (stages:Int) (s:Int) (micro:Int) (redo:Bool) (l1:List TIns) (m1:Int):Prop:=tawp QbN 0 QGW (QZQ K) ⟨[(1,(zci stages)),(2,(zci s)),(3,(zci micro)),(4,(zcb redo)),(11,(zci (ZY ds stages s micro))),(12,(.r Qr 0 0 l1.length)),(14,(zci m1))],[(0,(.sl 111 Qr true l1))],1⟩
def Qf5 (ds:Int) (stages:Int) (s:Int) (micro:Int) (redo:Bool) (m1:Int) (l2:List TIns):Prop:=Loop QbN 0 Qh8 Ql1 (QmW K) ⟨[(1,(zci stages)),(2,(zci s)),(3,(zci micro)),(4,(zcb redo)),(11,(zci (ZY ds stages s micro))),(12,(.r Qr 0 0 l2.length)),(14,(zci m1))],[(0,(.sl 111 Qr true l2))],1⟩
def QME:Qb:=Qseq (tawp QbN 0 QyS (QhW K)) (QhW K)
def QIk:Qb:=Qblk 0 (QME K)
def QjG (ds:Int) (stages:Int) (s:Int) (micro:Int) (redo:Bool) (m:Int) (l:List TIns):Prop:=Loop QbN 0 QC3 Qvt (QIk K) ⟨[(1,(zci stages)),(2,(zci s)),(3,(zci micro)),(4,(zcb redo)),(11,(zci (ZY ds stages s micro))),(12,(.r Qr 0 0 l.length)),(13,(zci m))],[(0,(.sl 111 Qr true l))],1⟩
theorem QVt (ds:Int) (stages:Int) (s:Int) (micro:Int) (redo:Bool) (l1:List TIns) (m1:Int) (h :
 (((Qrk stages s m1 redo)∧((l1.length=l1.length∨l1.length+(List.take ((YD stages s m1 redo).length) (List.drop 0 (YD stages s m1 redo))).length≤l1.length)∧l1.length+(List.take ((YD stages s m1 redo).length) (List.drop 0 (YD stages s m1 redo))).length≤big))∧(Qf5 K ds stages s micro redo (w64 (m1+(1:Int))) (List.take (l1.length+(List.take ((YD stages s m1 redo).length) (List.drop 0 (YD stages s m1 redo))).length) ((List.take l1.length l1)++(List.take ((YD stages s m1 redo).length) (List.drop 0 (YD stages s m1 redo)))))))):Hold (QiB K ds stages s micro redo l1 m1) :=
 Hold.of (by kernel_rfl) h
theorem Qw4 (ds:Int) (stages:Int) (s:Int) (micro:Int) (redo:Bool) (m1:Int) (l2:List TIns) (h :
 let z2:=w64 (m1+(ZY ds stages s micro))
 let z1:=List.take ((Ye stages s z2).length) (List.drop 0 (Ye stages s z2))
 let z3:=List.take l2.length l2
 (zif (decide (m1<micro)) (zif (decide (z2<micro)) (((p_st stages s z2)∧((l2.length=l2.length∨l2.length+z1.length≤l2.length)∧l2.length+z1.length≤big))∧(QiB K ds stages s micro redo (List.take (l2.length+z1.length) (z3++z1)) m1)) (QiB K ds stages s micro redo z3 m1)) (((l2.length=l2.length∨l2.length+1≤l2.length)∧l2.length+1≤big)∧K (J4 (List.take (l2.length+1) (z3++([((8:Int),(0:Int))]))))))):Qf5 K ds stages s micro redo m1 l2 :=
 Loop.of (by kernel_rfl) h
theorem QCM (ds:Int) (stages:Int) (s:Int) (micro:Int) (redo:Bool) (m:Int) (l:List TIns) (h :
 (zif (decide (m<(ZY ds stages s micro))) (((p_st stages s m)∧((l.length=l.length∨l.length+(List.take ((Ye stages s m).length) (List.drop 0 (Ye stages s m))).length≤l.length)∧l.length+(List.take ((Ye stages s m).length) (List.drop 0 (Ye stages s m))).length≤big))∧(QjG K ds stages s micro redo (w64 (m+(1:Int))) (List.take (l.length+(List.take ((Ye stages s m).length) (List.drop 0 (Ye stages s m))).length) ((List.take l.length l)++(List.take ((Ye stages s m).length) (List.drop 0 (Ye stages s m))))))) (Qf5 K ds stages s micro redo 0 (List.take l.length l)))):QjG K ds stages s micro redo m l :=
 Loop.of (by kernel_rfl) h
theorem QIu (ds:Int) (stages:Int) (s:Int) (micro:Int) (redo:Bool) (h :
 (zif (((ds != (1:Int))&&(ds != (2:Int)))||(!(Z1 stages s micro))) (K (J4 ([]:List TIns))) (QjG K ds stages s micro redo 0 ([]:List TIns)))):Hold (tawp QbN (0+0) Q2s (TQ 0 0 QFn K) (Qf [(.c TI ds),(.c TI stages),(.c TI s),(.c TI micro),(.c .bool redo)])) :=
 Hold.of (by kernel_rfl) h
theorem Q0N (ds:Int) (stages:Int) (s:Int) (micro:Int) (redo:Bool):TCon Tryz.prog 72 [(.c TI ds),(.c TI stages),(.c TI s),(.c TI micro),(.c .bool redo)] (J4 (ZL ds stages s micro redo)):=by
 refine Qo rfl fun hb=>tcg (n:=74) (sg:=Qn6.sg) Qj (TOk.cons QEC (TOk.cons QTK (TOk.cons Q24 (TOk.cons QTL TOk.nil)))) (by kernel_rfl) (by kernel_rfl) (QIu _ ds stages s micro redo ?_)
 rw [QUw]
 by_cases hp:(m_in ds 1 2&&Z1 stages s micro)=true
 case neg =>
  rw [show (m_in ds 1 2&&Z1 stages s micro)=false by simpa using hp]
  exact ⟨fun _=>R_eq (QnL hp).symm,fun h=>by simp at h⟩
 rw [hp]
 refine ⟨fun h=>by simp at h,fun _=>?_⟩
 have hq:Z1 stages s micro=true:=by simp only [Bool.and_eq_true] at hp;exact hp.2
 have hr:=QhR.1 hq
 have hM:=QpV (redo:=redo) hp
 obtain ⟨w,hw⟩:∃ w:Nat,ZY ds stages s micro=w:=⟨_,(Int.toNat_of_nonneg (Qgz hq).1).symm⟩
 have hw5:=(Qgz (ds:=ds) hq).2
 rw [hw] at hM hw5
 rw [Int.toNat_natCast] at hM
 refine Y7 w (fun k=>QjG (fun r'=>r'=J4 (ZL ds stages s micro redo)) ds stages s micro redo (k:Int) (Qag stages s k)) ?_ ?_
 ·refine QCM (fun r'=>r'=J4 (ZL ds stages s micro redo)) ds stages s micro redo _ _ ⟨fun h=>by simp [hw] at h,fun _=>?_⟩
  rw [List.take_length]
  suffices h:Qf5 (fun r'=>r'=J4 (ZL ds stages s micro redo)) ds stages s micro redo ((0:Nat):Int) (Qag stages s w++Qan stages s micro redo w 0) by
   rw [show Qan stages s micro redo w 0=[] from rfl,List.append_nil] at h;exact h
  refine Y7 micro.toNat (fun k=>Qf5 (fun r'=>r'=J4 (ZL ds stages s micro redo)) ds stages s micro redo (k:Int) (Qag stages s w++Qan stages s micro redo w k)) ?_ ?_
  ·have h1:=Qc7 stages s w
   have h2:=Qgp stages s micro redo w micro.toNat
   refine Qw4 (fun r'=>r'=J4 (ZL ds stages s micro redo)) ds stages s micro redo _ _ ⟨fun h=>by simp at h;omega,fun _=>⟨⟨.inl rfl,by rw [List.length_append,Q1];omega⟩,R_eq ?_⟩⟩
   rw [Q7,hM]
  ·intro k hk ih
   have h1:=Qc7 stages s w
   have h2:=Qgp stages s micro redo w k
   have key:∀ l:List TIns,l=Qag stages s w++Qan stages s micro redo w k++(if (k:Int)+w<micro then Ye stages s ((k:Int)+w) else [])→QiB (fun r'=>r'=J4 (ZL ds stages s micro redo)) ds stages s micro redo l (k:Int):=by
    intro l hl
    have h3:=Qn9 stages s k redo
    have h4:=QbW stages s ((k:Int)+w)
    have h5:l.length≤1000:=by rw [hl];split <;> simp only [List.length_append,List.length_nil] <;> omega
    refine (QVt (fun r'=>r'=J4 (ZL ds stages s micro redo)) ds stages s micro redo l _ ⟨⟨⟨by omega,by omega⟩,Qor (by omega)⟩,?_⟩).h
    rw [Qo7,sc1 (by omega)]
    rw [Qu2] at ih
    rw [hl,List.append_assoc,List.append_assoc]
    unfold Qfl at ih
    exact ih
   refine Qw4 (fun r'=>r'=J4 (ZL ds stages s micro redo)) ds stages s micro redo _ _ ⟨fun _=>?_,fun h=>by simp at h;omega⟩
   rw [hw,Qq (x:=(k:Int)+w) (by omega) (by omega)]
   have h4:=QbW stages s ((k:Int)+w)
   refine ⟨fun h=>⟨⟨⟨by omega,by omega⟩,Qor (by rw [List.length_append];omega)⟩,key _ ?_⟩,fun h=>key _ ?_⟩
   ·rw [Qo7,if_pos (of_decide_eq_true h)]
   ·rw [if_neg (of_decide_eq_false h),List.take_length,List.append_nil]
 ·intro k hk ih
  have h1:=Qc7 stages s k
  have h4:=QbW stages s k
  refine QCM (fun r'=>r'=J4 (ZL ds stages s micro redo)) ds stages s micro redo _ _ ⟨fun _=>⟨⟨⟨by omega,by omega⟩,Qor (by omega)⟩,?_⟩,fun h=>by simp [hw] at h;omega⟩
  rw [Qo7,sc1 (by omega),← QD5]
  exact ih
theorem QP3:Qg Tryz.prog Qn6:=Qk fun x _=>Q0N x.1 x.2.1 x.2.2.1 x.2.2.2.1 x.2.2.2.2.1
def J6 (t:(List TIns)):TRes:=⟨(.r Qr 0 0 t.length),[(.sl 111 Qr true t)],[],true,[]⟩
def QqE:TRow:=Qh 82 [(.c TI),(.c TI),(.c TI),(.c TI),(.c .bool)] fun x=>(none,J6 (ZL x.1 x.2.1 x.2.2.1 x.2.2.2.1 x.2.2.2.2.1))
def Qct:List TRow:=[YR,Qmp,Qrg,QmX]
def QBV:TCode :=
 (zsq [(zsq [(.reg [zmv 42 13,zmv 43 12,zbi 44 .lss 42 43]),(.cond 44 .skip (.exit 0))]),(.block 1 (.reg [zmv 47 11,zmv 48 1,zmv 49 2,zmv 50 13,zca 51 159 [47,48,49,50],zmv 11 51])),(.reg [zmv 45 13,zbi 46 .add 45 (zki 1),zmv 13 46])])
def QEL:List (Nat × Md):=[(1,.one .d),(2,.one .d),(3,.one .d),(4,.one .d),(11,.one .f),(12,.one .d),(13,.one .d)]
def QA9:TCode :=
 (.reg [zmv 69 11,zmv 70 1,zmv 71 2,zmv 72 14,zmv 73 4,zca 74 160 [69,70,71,72,73],zmv 11 74])
def QNd:List (Nat × Md):=[(1,.one .d),(2,.one .d),(3,.one .d),(4,.one .d),(11,.one .f),(12,.one .d),(14,.one .d)]
def QKk:TCode:=.wk QNd QA9
def QBu:TCode :=
 (.reg [zmv 55 14,zbi 56 .add 55 (zki 1),zmv 14 56])
def Qnu:TCode :=
 (zsq [(zsq [(.reg [zmv 52 14,zmv 53 3,zbi 54 .lss 52 53]),(.cond 54 .skip (.exit 2))]),(.block 3 (zsq [(zsq [(.reg [zmv 57 12,zmv 58 14,zbi 59 .add 57 58,zmv 60 3,zbi 61 .lss 59 60]),(.cond 61 (.reg [zmv 62 11,zmv 63 1,zmv 64 2,zmv 65 12,zmv 66 14,zbi 67 .add 65 66,zca 68 159 [62,63,64,67],zmv 11 68]) .skip)]),QKk])),QBu])
def QkB:List (Nat × Md):=[(1,.one .d),(2,.one .d),(3,.one .d),(4,.one .d),(11,.one .f),(12,.one .d),(14,.one .d)]
def Qu9:TCode :=
 (zsq [(.reg [zmv 75 11,zop 76 (.build (z0s Qr) [(0,1,(zki 8))]),zop 77 (.bsl 111 Qr [76]),zop 78 (.app 75 77 111 Qr),zmv 10 78]),.ret])
def Qul:TCode :=
 (zsq [(zsq [(.reg [zmv 14 (zki 0)]),(.block 2 (.loop QkB Qnu))]),Qu9])
def QRW:TCode :=
 (zsq [(.reg [zmv 10 (.k (.n Qr))]),(.reg [zop 15 (.bsl 111 Qr []),zmv 11 15]),(zsq [(.reg [zmv 16 0,zca 17 77 [16,(zki 1),(zki 2)],zno 18 17,zmv 19 18,.grp 19 false [zmv 20 1,zca 21 77 [20,(zki 1),(zki 4)],zno 22 21] 23 22,zmv 24 23,.grp 24 false [zmv 25 2,zmv 26 1,zbi 27 .sub 26 (zki 1),zca 28 77 [25,(zki 0),27],zno 29 28] 30 29,zmv 31 30,.grp 31 false [zmv 32 3,zca 33 77 [32,(zki 1),(zki 5)],zno 34 33] 35 34]),(.cond 35 (zsq [(.reg [zmv 36 11,zmv 10 36]),.ret]) .skip)]),(.reg [zmv 37 0,zmv 38 1,zmv 39 2,zmv 40 3,zca 41 158 [37,38,39,40],zmv 12 41]),(zsq [(.reg [zmv 13 (zki 0)]),(.block 0 (.loop QEL QBV))]),Qul])
def QFX:List (ARv × Md):=[(.t 10,.one (.o 111))]
def QlA:Qb:=TQ 0 0 QFX K
def QHC:Qb:=Qseq (tawp Qct 0 Qu9 (QlA K)) (QlA K)
def QlQ:Qb:=Qblk 2 (QHC K)
def QE3:Qb:=Qseq (fun s'=>Loop Qct 0 QkB Qnu (QlQ K) (gc 0 QkB s')) (QlQ K)
def QPf:Qb:=Qseq (tawp Qct 0 QBu (QE3 K)) (QE3 K)
def Q2W:Qb:=Qblk 3 (QPf K)
def QjI (ds:Int) (stages:Int) (s:Int) (micro:Int) (redo:Bool) (l1:List TIns) (m1:Int):Prop:=tawp Qct 0 QA9 (Q2W K) ⟨[(1,(zci stages)),(2,(zci s)),(3,(zci micro)),(4,(zcb redo)),(11,(.r Qr 0 0 l1.length)),(12,(zci (ZY ds stages s micro))),(14,(zci m1))],[(0,(.sl 111 Qr true l1))],1⟩
def QgP (ds:Int) (stages:Int) (s:Int) (micro:Int) (redo:Bool) (m1:Int) (l2:List TIns):Prop:=Loop Qct 0 QkB Qnu (QlQ K) ⟨[(1,(zci stages)),(2,(zci s)),(3,(zci micro)),(4,(zcb redo)),(11,(.r Qr 0 0 l2.length)),(12,(zci (ZY ds stages s micro))),(14,(zci m1))],[(0,(.sl 111 Qr true l2))],1⟩
def QSw:Qb:=Qseq (tawp Qct 0 Qul (QlA K)) (QlA K)
def QZH:Qb:=Qblk 0 (QSw K)
def QkM (ds:Int) (stages:Int) (s:Int) (micro:Int) (redo:Bool) (m:Int) (l:List TIns):Prop:=Loop Qct 0 QEL QBV (QZH K) ⟨[(1,(zci stages)),(2,(zci s)),(3,(zci micro)),(4,(zcb redo)),(11,(.r Qr 0 0 l.length)),(12,(zci (ZY ds stages s micro))),(13,(zci m))],[(0,(.sl 111 Qr true l))],1⟩
theorem QNW (ds:Int) (stages:Int) (s:Int) (micro:Int) (redo:Bool) (l1:List TIns) (m1:Int) (h :
 (((l1.length=l1.length)∧(QmL l1 stages s m1 redo))∧(QgP K ds stages s micro redo (w64 (m1+(1:Int))) (List.take ((QeZ l1 stages s m1 redo).length) (QeZ l1 stages s m1 redo))))):Hold (QjI K ds stages s micro redo l1 m1) :=
 Hold.of (by kernel_rfl) h
theorem QtJ (ds:Int) (stages:Int) (s:Int) (micro:Int) (redo:Bool) (m1:Int) (l2:List TIns) (h :
 (zif (decide (m1<micro)) (zif (decide ((w64 ((ZY ds stages s micro)+m1))<micro)) (((l2.length=l2.length)∧(p_l9 l2 stages s (w64 ((ZY ds stages s micro)+m1))))∧(QjI K ds stages s micro redo (List.take ((Qde l2 stages s (w64 ((ZY ds stages s micro)+m1))).length) (Qde l2 stages s (w64 ((ZY ds stages s micro)+m1)))) m1)) (QjI K ds stages s micro redo (List.take l2.length l2) m1)) (((l2.length=l2.length∨l2.length+1≤l2.length)∧l2.length+1≤big)∧K (J6 (List.take (l2.length+1) ((List.take l2.length l2)++([((8:Int),(0:Int))]))))))):QgP K ds stages s micro redo m1 l2 :=
 Loop.of (by kernel_rfl) h
theorem QvF (ds:Int) (stages:Int) (s:Int) (micro:Int) (redo:Bool) (m:Int) (l:List TIns) (h :
 (zif (decide (m<(ZY ds stages s micro))) (((l.length=l.length)∧(p_l9 l stages s m))∧(QkM K ds stages s micro redo (w64 (m+(1:Int))) (List.take ((Qde l stages s m).length) (Qde l stages s m)))) (QgP K ds stages s micro redo 0 (List.take l.length l)))):QkM K ds stages s micro redo m l :=
 Loop.of (by kernel_rfl) h
theorem Q1e (ds:Int) (stages:Int) (s:Int) (micro:Int) (redo:Bool) (h :
 (zif ((((!(m_in ds (1:Int) (2:Int)))||(!(m_in stages (1:Int) (4:Int))))||(!(m_in s (0:Int) (w64 (stages-(1:Int))))))||(!(m_in micro (1:Int) (5:Int)))) (K (J6 ([]:List TIns))) (QkM K ds stages s micro redo 0 ([]:List TIns)))):Hold (tawp Qct (0+0) QRW (TQ 0 0 QFX K) (Qf [(.c TI ds),(.c TI stages),(.c TI s),(.c TI micro),(.c .bool redo)])) :=
 Hold.of (by kernel_rfl) h
theorem QZj (ds:Int) (stages:Int) (s:Int) (micro:Int) (redo:Bool):TCon Tryz.prog 82 [(.c TI ds),(.c TI stages),(.c TI s),(.c TI micro),(.c .bool redo)] (J6 (ZL ds stages s micro redo)):=by
 refine Qo rfl fun hb=>tcg (n:=79) (sg:=QqE.sg) Qj (TOk.cons Y9 (TOk.cons QQP (TOk.cons QUR (TOk.cons QOR TOk.nil)))) (by kernel_rfl) (by kernel_rfl) (Q1e _ ds stages s micro redo ?_)
 rw [QPu]
 by_cases hp:(m_in ds 1 2&&Z1 stages s micro)=true
 case neg =>
  rw [show (m_in ds 1 2&&Z1 stages s micro)=false by simpa using hp]
  exact ⟨fun _=>R_eq (QnL hp).symm,fun h=>by simp at h⟩
 rw [hp]
 refine ⟨fun h=>by simp at h,fun _=>?_⟩
 have hq:Z1 stages s micro=true:=by simp only [Bool.and_eq_true] at hp;exact hp.2
 have hr:=QhR.1 hq
 have hM:=QpV (redo:=redo) hp
 obtain ⟨w,hw⟩:∃ w:Nat,ZY ds stages s micro=w:=⟨_,(Int.toNat_of_nonneg (Qgz hq).1).symm⟩
 have hw5:=(Qgz (ds:=ds) hq).2
 rw [hw] at hM hw5
 rw [Int.toNat_natCast] at hM
 refine Y7 w (fun k=>QkM (fun r'=>r'=J6 (ZL ds stages s micro redo)) ds stages s micro redo (k:Int) (Qag stages s k)) ?_ ?_
 ·refine QvF (fun r'=>r'=J6 (ZL ds stages s micro redo)) ds stages s micro redo _ _ ⟨fun h=>by simp [hw] at h,fun _=>?_⟩
  rw [List.take_length]
  suffices h:QgP (fun r'=>r'=J6 (ZL ds stages s micro redo)) ds stages s micro redo ((0:Nat):Int) (Qag stages s w++Qan stages s micro redo w 0) by
   rw [show Qan stages s micro redo w 0=[] from rfl,List.append_nil] at h;exact h
  refine Y7 micro.toNat (fun k=>QgP (fun r'=>r'=J6 (ZL ds stages s micro redo)) ds stages s micro redo (k:Int) (Qag stages s w++Qan stages s micro redo w k)) ?_ ?_
  ·have h1:=Qc7 stages s w
   have h2:=Qgp stages s micro redo w micro.toNat
   refine QtJ (fun r'=>r'=J6 (ZL ds stages s micro redo)) ds stages s micro redo _ _ ⟨fun h=>by simp at h;omega,fun _=>⟨⟨.inl rfl,by rw [List.length_append,Q1];omega⟩,R_eq ?_⟩⟩
   rw [Q7,hM]
  ·intro k hk ih
   have h1:=Qc7 stages s w
   have h2:=Qgp stages s micro redo w k
   have key:∀ l:List TIns,l=Qag stages s w++Qan stages s micro redo w k++(if (k:Int)+w<micro then Ye stages s ((k:Int)+w) else [])→QjI (fun r'=>r'=J6 (ZL ds stages s micro redo)) ds stages s micro redo l (k:Int):=by
    intro l hl
    have h3:=Qn9 stages s k redo
    have h4:=QbW stages s ((k:Int)+w)
    have h5:l.length≤1000:=by rw [hl];split <;> simp only [List.length_append,List.length_nil] <;> omega
    refine (QNW (fun r'=>r'=J6 (ZL ds stages s micro redo)) ds stages s micro redo l _ ⟨⟨rfl,⟨by omega,by omega⟩,by omega⟩,?_⟩).h
    rw [List.take_length,sc1 (by omega)]
    rw [Qu2] at ih
    unfold QeZ
    rw [hl,List.append_assoc,List.append_assoc]
    unfold Qfl at ih
    exact ih
   refine QtJ (fun r'=>r'=J6 (ZL ds stages s micro redo)) ds stages s micro redo _ _ ⟨fun _=>?_,fun h=>by simp at h;omega⟩
   rw [hw,Int.add_comm (w:Int) k,Qq (x:=(k:Int)+w) (by omega) (by omega)]
   have h4:=QbW stages s ((k:Int)+w)
   refine ⟨fun h=>⟨⟨rfl,⟨by omega,by omega⟩,by rw [List.length_append];omega⟩,key _ ?_⟩,fun h=>key _ ?_⟩
   ·rw [List.take_length,if_pos (of_decide_eq_true h)];rfl
   ·rw [if_neg (of_decide_eq_false h),List.take_length,List.append_nil]
 ·intro k hk ih
  have h1:=Qc7 stages s k
  have h4:=QbW stages s k
  refine QvF (fun r'=>r'=J6 (ZL ds stages s micro redo)) ds stages s micro redo _ _ ⟨fun _=>⟨⟨rfl,⟨by omega,by omega⟩,by omega⟩,?_⟩,fun h=>by simp [hw] at h;omega⟩
  rw [List.take_length,sc1 (by omega)]
  rw [QD5] at ih
  exact ih
theorem QUJ:Qg Tryz.prog QqE:=Qk fun x _=>QZj x.1 x.2.1 x.2.2.1 x.2.2.2.1 x.2.2.2.2.1
end
end Go.Proofs.YtjbdljkhbglnhaaGreat.Am

