/- -/
import Derived.Test.YtjbdljkhbglnhaaGreatZCPE
import Derived.Test.YtjbdljkhbglnhaaGreatZCP1
import Derived.Test.YtjbdljkhbglnhaaGreatZCG9
namespace Go.Proofs.YtjbdljkhbglnhaaGreat.Am
open Go Go.RowKit Go.Proofs.YtjbdljkhbglnhaaGreat
set_option linter.all false
noncomputable section
variable (K:TRes→Prop)
def Qeb (t:(List TIns)):TRes:=⟨(.r Qs 0 0 t.length),[(.sl 111 Qs true t)],[],true,[]⟩
def Qow:TRow:=Qf 149 [(.c TI),(.c TI),(.c TI)] fun x=>(some (p_st x.1 x.2.1 x.2.2.1),Qeb (Z4 x.1 x.2.1 x.2.2.1))
def Qy8:List TRow:=[]
def Qs3:TCode :=
 (zsq [(.reg [zmv 16 7,zmv 17 2,zop 18 (.build (z0s Qs) [(0,1,(zki 2)),(1,1,17)]),zop 19 (.bsl 111 Qs [18]),zop 20 (.app 16 19 111 Qs),zmv 7 20]),(zsq [(.reg [zmv 21 1,zmv 22 0,zbi 23 .sub 22 (zki 1),zbi 24 .lss 21 23]),(.cond 24 (.reg [zmv 25 7,zmv 26 2,zop 27 (.build (z0s Qs) [(0,1,(zki 3)),(1,1,26)]),zop 28 (.bsl 111 Qs [27]),zop 29 (.app 25 28 111 Qs),zmv 7 29]) .skip)]),(.reg [zmv 30 7,zmv 6 30]),.ret])
def QU6:List (Nat × Md):=[(0,.one .d),(1,.one .d),(2,.one .d),(7,.one .f)]
def QHe:TCode:=.wk QU6 Qs3
def QVG:TCode :=
 (zsq [(.reg [zmv 6 (.k (.n Qs))]),(.reg [zop 8 (.bsl 111 Qs []),zmv 7 8]),(zsq [(.reg [zmv 9 1,zbi 10 .gtr 9 (zki 0)]),(.cond 10 (.reg [zmv 11 7,zmv 12 2,zop 13 (.build (z0s Qs) [(0,1,(zki 1)),(1,1,12)]),zop 14 (.bsl 111 Qs [13]),zop 15 (.app 11 14 111 Qs),zmv 7 15]) .skip)]),QHe])
def QBp:List (ARv × Md):=[(.t 6,.one (.o 111))]
def QX8:Qb:=TQ 0 0 QBp K
def Qhg (stages:Int) (s:Int) (m:Int) (l:List TIns):Prop:=tawp Qy8 0 Qs3 (QX8 K) ⟨[(0,(zci stages)),(1,(zci s)),(2,(zci m)),(7,(.r Qs 0 0 l.length))],[(0,(.sl 111 Qs true l))],1⟩
theorem QJh (stages:Int) (s:Int) (m:Int) (l:List TIns) (h :
 (((l.length=l.length∨l.length+1≤l.length)∧l.length+1≤big)∧(zif (decide (s<(w64 (stages-(1:Int))))) ((((l.length+1)=((List.take l.length l)++([((2:Int),m)])).length∨(l.length+1)+1≤((List.take l.length l)++([((2:Int),m)])).length)∧(l.length+1)+1≤big)∧K (Qeb (List.take ((l.length+1)+1) ((List.take (l.length+1) ((List.take l.length l)++([((2:Int),m)])))++([((3:Int),m)]))))) (K (Qeb (List.take (l.length+1) ((List.take l.length l)++([((2:Int),m)])))))))):Hold (Qhg K stages s m l) :=
 Hold.of (by kernel_rfl) h
theorem QXi (stages:Int) (s:Int) (m:Int) (h :
 (zif (decide (s>(0:Int))) (((0=0∨0+1≤0)∧0+1≤big)∧(Qhg K stages s m (List.take (0+1) ([((1:Int),m)]:List TIns)))) (Qhg K stages s m ([]:List TIns)))):Hold (tawp Qy8 (0+0) QVG (TQ 0 0 QBp K) (Qd [(.c TI stages),(.c TI s),(.c TI m)])) :=
 Hold.of (by kernel_rfl) h
theorem QGC (stages:Int) (s:Int) (m:Int) (hp:p_st stages s m):TCon Tryz.prog 149 [(.c TI stages),(.c TI s),(.c TI m)] (Qeb (Z4 stages s m)):=by
 refine Qj rfl fun hb=>tcg (n:=31) (sg:=Qow.sg) Qg TOk.nil (by kernel_rfl) (by kernel_rfl) (QXi _ stages s m ?_)
 obtain ⟨h1,h2⟩:=hp
 have hw:w64 (stages-1)=stages-1:=Qq (by omega) (by omega)
 have key:∀ l:List TIns,l.length≤1→l++[(2,m)]++(if s<stages-1 then [(3,m)] else [])=(Z4 stages s m)→Qhg (fun r'=>r'=Qeb (Z4 stages s m)) stages s m l:=by
  intro l hl he
  refine (QJh (fun r'=>r'=Qeb (Z4 stages s m)) stages s m l ?_).h
  rw [hw,← he]
  simp only [Zf]
  refine ⟨⟨by simp,by rw [Zu];omega⟩,fun h=>⟨⟨.inl (by simp),by rw [Zu];omega⟩,R_eq ?_⟩,fun h=>R_eq ?_⟩
  ·simp at h;simp [h,List.take_of_length_le]
  ·simp at h;simp [Int.not_lt.2 h]
 refine ⟨fun h=>⟨⟨.inl rfl,by rw [Zu];omega⟩,key _ (by simp) ?_⟩,fun h=>key _ (by simp) ?_⟩
 ·simp at h;simp [Z4,h]
 ·simp at h;simp [Z4,Int.not_lt.2 h]
theorem QSL:Qe Tryz.prog Qow:=Qh fun x h=>QGC x.1 x.2.1 x.2.2.1 h
def Qb6 (t:(List TIns)):TRes:=⟨(.r Qs 0 0 t.length),[(.sl 111 Qs true t)],[],true,[]⟩
def QqB:TRow:=Qf 150 [(.c TI),(.c TI),(.c TI),(.c .bool)] fun x=>(some (Ql9 x.1 x.2.1 x.2.2.1 x.2.2.2.1),Qb6 (Yt x.1 x.2.1 x.2.2.1 x.2.2.2.1))
def QnU:List TRow:=[]
def QwN:TCode :=
 (zsq [(.reg [zmv 26 9,zmv 27 2,zop 28 (.build (z0s Qs) [(0,1,(zki 6)),(1,1,27)]),zop 29 (.bsl 111 Qs [28]),zop 30 (.app 26 29 111 Qs),zmv 9 30]),(zsq [(.reg [zmv 31 1,zbi 32 .gtr 31 (zki 0)]),(.cond 32 (.reg [zmv 33 9,zmv 34 2,zop 35 (.build (z0s Qs) [(0,1,(zki 7)),(1,1,34)]),zop 36 (.bsl 111 Qs [35]),zop 37 (.app 33 36 111 Qs),zmv 9 37]) .skip)]),(.reg [zmv 38 9,zmv 8 38]),.ret])
def QTW:List (Nat × Md):=[(1,.one .d),(2,.one .d),(9,.one .f)]
def QRB:TCode:=.wk QTW QwN
def QrL:TCode :=
 (zsq [(zsq [(.reg [zmv 20 3]),(.cond 20 (.reg [zmv 21 9,zmv 22 2,zop 23 (.build (z0s Qs) [(0,1,(zki 5)),(1,1,22)]),zop 24 (.bsl 111 Qs [23]),zop 25 (.app 21 24 111 Qs),zmv 9 25]) .skip)]),QRB])
def QJu:List (Nat × Md):=[(1,.one .d),(2,.one .d),(3,.one .d),(9,.one .f)]
def QG2:TCode:=.wk QJu QrL
def QUm:TCode :=
 (zsq [(.reg [zmv 8 (.k (.n Qs))]),(.reg [zop 10 (.bsl 111 Qs []),zmv 9 10]),(zsq [(.reg [zmv 11 1,zmv 12 0,zbi 13 .sub 12 (zki 1),zbi 14 .lss 11 13]),(.cond 14 (.reg [zmv 15 9,zmv 16 2,zop 17 (.build (z0s Qs) [(0,1,(zki 4)),(1,1,16)]),zop 18 (.bsl 111 Qs [17]),zop 19 (.app 15 18 111 Qs),zmv 9 19]) .skip)]),QG2])
def QzG:List (ARv × Md):=[(.t 8,.one (.o 111))]
def Qtg:Qb:=TQ 0 0 QzG K
def Qjf (s:Int) (m:Int) (l1:List TIns):Prop:=tawp QnU 0 QwN (Qtg K) ⟨[(1,(zci s)),(2,(zci m)),(9,(.r Qs 0 0 l1.length))],[(0,(.sl 111 Qs true l1))],1⟩
def Qii (s:Int) (m:Int) (redo:Bool) (l:List TIns):Prop:=tawp QnU 0 QrL (Qtg K) ⟨[(1,(zci s)),(2,(zci m)),(3,(zcb redo)),(9,(.r Qs 0 0 l.length))],[(0,(.sl 111 Qs true l))],1⟩
theorem QKO (s:Int) (m:Int) (l1:List TIns) (h :
 (((l1.length=l1.length∨l1.length+1≤l1.length)∧l1.length+1≤big)∧(zif (decide (s>(0:Int))) ((((l1.length+1)=((List.take l1.length l1)++([((6:Int),m)])).length∨(l1.length+1)+1≤((List.take l1.length l1)++([((6:Int),m)])).length)∧(l1.length+1)+1≤big)∧K (Qb6 (List.take ((l1.length+1)+1) ((List.take (l1.length+1) ((List.take l1.length l1)++([((6:Int),m)])))++([((7:Int),m)]))))) (K (Qb6 (List.take (l1.length+1) ((List.take l1.length l1)++([((6:Int),m)])))))))):Hold (Qjf K s m l1) :=
 Hold.of (by kernel_rfl) h
theorem QOX (s:Int) (m:Int) (redo:Bool) (l:List TIns) (h :
 (zif redo (((l.length=l.length∨l.length+1≤l.length)∧l.length+1≤big)∧(Qjf K s m (List.take (l.length+1) ((List.take l.length l)++([((5:Int),m)]))))) (Qjf K s m (List.take l.length l)))):Hold (Qii K s m redo l) :=
 Hold.of (by kernel_rfl) h
theorem QXz (stages:Int) (s:Int) (m:Int) (redo:Bool) (h :
 (zif (decide (s<(w64 (stages-(1:Int))))) (((0=0∨0+1≤0)∧0+1≤big)∧(Qii K s m redo (List.take (0+1) ([((4:Int),m)]:List TIns)))) (Qii K s m redo ([]:List TIns)))):Hold (tawp QnU (0+0) QUm (TQ 0 0 QzG K) (Qd [(.c TI stages),(.c TI s),(.c TI m),(.c .bool redo)])) :=
 Hold.of (by kernel_rfl) h
theorem QVu (stages:Int) (s:Int) (m:Int) (redo:Bool) (hp:Ql9 stages s m redo):TCon Tryz.prog 150 [(.c TI stages),(.c TI s),(.c TI m),(.c .bool redo)] (Qb6 (Yt stages s m redo)):=by
 refine Qj rfl fun hb=>tcg (n:=39) (sg:=QqB.sg) Qg TOk.nil (by kernel_rfl) (by kernel_rfl) (QXz _ stages s m redo ?_)
 obtain ⟨h1,h2⟩:=hp
 have hw:w64 (stages-1)=stages-1:=Qq (by omega) (by omega)
 have key2:∀ l:List TIns,l.length≤2→l++[(6,m)]++(if 0<s then [(7,m)] else [])=(Yt stages s m redo)→Qjf (fun r'=>r'=Qb6 (Yt stages s m redo)) s m l:=by
  intro l hl he
  refine (QKO (fun r'=>r'=Qb6 (Yt stages s m redo)) s m l ?_).h
  rw [← he]
  simp only [Zf]
  refine ⟨⟨by simp,by rw [Zu];omega⟩,fun h=>⟨⟨.inl (by simp),by rw [Zu];omega⟩,R_eq ?_⟩,fun h=>R_eq ?_⟩
  ·simp at h;simp [h,List.take_of_length_le]
  ·simp at h;simp [Int.not_lt.2 h]
 have key:∀ l:List TIns,l.length≤1→l++(if redo then [(5,m)] else [])++[(6,m)]++(if 0<s then [(7,m)] else [])=(Yt stages s m redo)→Qii (fun r'=>r'=Qb6 (Yt stages s m redo)) s m redo l:=by
  intro l hl he
  refine (QOX (fun r'=>r'=Qb6 (Yt stages s m redo)) s m redo l ⟨fun h=>⟨⟨.inl rfl,by rw [Zu];omega⟩,key2 _ (by simp;omega) ?_⟩,fun h=>key2 _ (by simp;omega) ?_⟩).h
  ·rw [← he,Zf,h];simp
  ·rw [← he,List.take_length,h];simp
 rw [hw]
 refine ⟨fun h=>⟨⟨.inl rfl,by rw [Zu];omega⟩,key _ (by simp) ?_⟩,fun h=>key _ (by simp) ?_⟩
 ·simp at h;simp [Yt,h]
 ·simp at h;simp [Yt,Int.not_lt.2 h]
theorem QNH:Qe Tryz.prog QqB:=Qh fun x h=>QVu x.1 x.2.1 x.2.2.1 x.2.2.2.1 h
def Qeh (t:(List TIns)):TRes:=⟨(.r Qs 0 0 t.length),[(.sl 111 Qs true t)],[],true,[.dead]⟩
def Qoc:TRow:=Qf 159 [(.o 111 Qs),(.c TI),(.c TI),(.c TI)] fun x=>(some (p_l9 x.1 x.2.1 x.2.2.1 x.2.2.2.1),Qeh (Qc5 x.1 x.2.1 x.2.2.1 x.2.2.2.1))
def QKs:List TRow:=[]
def QOc:TCode :=
 (zsq [(.reg [zmv 8 (.k (.n Qs))]),(zsq [(.reg [zmv 9 2,zbi 10 .gtr 9 (zki 0)]),(.cond 10 (.reg [zmv 11 0,zmv 12 3,zop 13 (.build (z0s Qs) [(0,1,(zki 1)),(1,1,12)]),zop 14 (.bsl 111 Qs [13]),zop 15 (.app 11 14 111 Qs),zmv 0 15]) .skip)]),(.reg [zmv 16 0,zmv 17 3,zop 18 (.build (z0s Qs) [(0,1,(zki 2)),(1,1,17)]),zop 19 (.bsl 111 Qs [18]),zop 20 (.app 16 19 111 Qs),zmv 0 20]),(zsq [(.reg [zmv 21 2,zmv 22 1,zbi 23 .sub 22 (zki 1),zbi 24 .lss 21 23]),(.cond 24 (.reg [zmv 25 0,zmv 26 3,zop 27 (.build (z0s Qs) [(0,1,(zki 3)),(1,1,26)]),zop 28 (.bsl 111 Qs [27]),zop 29 (.app 25 28 111 Qs),zmv 0 29]) .skip)]),(.reg [zmv 30 0,zmv 8 30]),.ret])
def QWL:List (ARv × Md):=[(.t 8,.one (.o 111))]
theorem QPJ (l:List TIns) (stages:Int) (s:Int) (m:Int) (h :
 (zif (decide (s>(0:Int))) (((l.length=l.length∨l.length+1≤l.length)∧l.length+1≤big)∧((((l.length+1)=((List.take l.length l)++([((1:Int),m)])).length∨(l.length+1)+1≤((List.take l.length l)++([((1:Int),m)])).length)∧(l.length+1)+1≤big)∧(zif (decide (s<(w64 (stages-(1:Int))))) (((((l.length+1)+1)=((List.take (l.length+1) ((List.take l.length l)++([((1:Int),m)])))++([((2:Int),m)])).length∨((l.length+1)+1)+1≤((List.take (l.length+1) ((List.take l.length l)++([((1:Int),m)])))++([((2:Int),m)])).length)∧((l.length+1)+1)+1≤big)∧K (Qeh (List.take (((l.length+1)+1)+1) ((List.take ((l.length+1)+1) ((List.take (l.length+1) ((List.take l.length l)++([((1:Int),m)])))++([((2:Int),m)])))++([((3:Int),m)]))))) (K (Qeh (List.take ((l.length+1)+1) ((List.take (l.length+1) ((List.take l.length l)++([((1:Int),m)])))++([((2:Int),m)])))))))) (((l.length=l.length∨l.length+1≤l.length)∧l.length+1≤big)∧(zif (decide (s<(w64 (stages-(1:Int))))) ((((l.length+1)=((List.take l.length l)++([((2:Int),m)])).length∨(l.length+1)+1≤((List.take l.length l)++([((2:Int),m)])).length)∧(l.length+1)+1≤big)∧K (Qeh (List.take ((l.length+1)+1) ((List.take (l.length+1) ((List.take l.length l)++([((2:Int),m)])))++([((3:Int),m)]))))) (K (Qeh (List.take (l.length+1) ((List.take l.length l)++([((2:Int),m)]))))))))):Hold (tawp QKs (0+1) QOc (TQ 0 1 QWL K) (Qd [(.ow 111 Qs l),(.c TI stages),(.c TI s),(.c TI m)])) :=
 Hold.of (by kernel_rfl) h
theorem QRe (l:List TIns) (stages:Int) (s:Int) (m:Int) (hp:p_l9 l stages s m):TCon Tryz.prog 159 [(.ow 111 Qs l),(.c TI stages),(.c TI s),(.c TI m)] (Qeh (Qc5 l stages s m)):=by
 refine Qj rfl fun hb=>tcg (n:=31) (sg:=Qoc.sg) Qg TOk.nil (by kernel_rfl) (by kernel_rfl) (QPJ _ l stages s m ?_)
 obtain ⟨⟨h1,h2⟩,hl⟩:=hp
 have hw:w64 (stages-1)=stages-1:=Qq (by omega) (by omega)
 have hb:l.length+100≤big:=by rw [Zu];omega
 rw [hw]
 unfold Qc5 Z4
 refine ⟨fun h=>?_,fun h=>?_⟩
 all_goals
  simp at h
  first | have h0:0<s:=h | have h0:¬ 0<s:=by omega
  refine ⟨⟨.inl rfl,by omega⟩,?_⟩
  first
  | refine ⟨⟨.inl (by simp),by omega⟩,fun h3=>⟨⟨.inl (by simp),by omega⟩,R_eq ?_⟩,fun h3=>R_eq ?_⟩
  | refine ⟨fun h3=>⟨⟨.inl (by simp),by omega⟩,R_eq ?_⟩,fun h3=>R_eq ?_⟩
  all_goals
   simp at h3
   first | have h4:s<stages-1:=h3 | have h4:¬ s<stages-1:=by omega
   simp [h0,h4,List.take_of_length_le]
theorem QX7:Qe Tryz.prog Qoc:=Qh fun x h=>QRe x.1 x.2.1 x.2.2.1 x.2.2.2.1 h
def QaH (t:(List TIns)):TRes:=⟨(.r Qs 0 0 t.length),[(.sl 111 Qs true t)],[],true,[.dead]⟩
def Qmv:TRow:=Qf 160 [(.o 111 Qs),(.c TI),(.c TI),(.c TI),(.c .bool)] fun x=>(some (QnT x.1 x.2.1 x.2.2.1 x.2.2.2.1 x.2.2.2.2.1),QaH (QdW x.1 x.2.1 x.2.2.1 x.2.2.2.1 x.2.2.2.2.1))
def QOA:List TRow:=[]
def QHN:TCode :=
 (zsq [(.reg [zmv 10 (.k (.n Qs))]),(zsq [(.reg [zmv 11 2,zmv 12 1,zbi 13 .sub 12 (zki 1),zbi 14 .lss 11 13]),(.cond 14 (.reg [zmv 15 0,zmv 16 3,zop 17 (.build (z0s Qs) [(0,1,(zki 4)),(1,1,16)]),zop 18 (.bsl 111 Qs [17]),zop 19 (.app 15 18 111 Qs),zmv 0 19]) .skip)]),(zsq [(.reg [zmv 20 4]),(.cond 20 (.reg [zmv 21 0,zmv 22 3,zop 23 (.build (z0s Qs) [(0,1,(zki 5)),(1,1,22)]),zop 24 (.bsl 111 Qs [23]),zop 25 (.app 21 24 111 Qs),zmv 0 25]) .skip)]),(.reg [zmv 26 0,zmv 27 3,zop 28 (.build (z0s Qs) [(0,1,(zki 6)),(1,1,27)]),zop 29 (.bsl 111 Qs [28]),zop 30 (.app 26 29 111 Qs),zmv 0 30]),(zsq [(.reg [zmv 31 2,zbi 32 .gtr 31 (zki 0)]),(.cond 32 (.reg [zmv 33 0,zmv 34 3,zop 35 (.build (z0s Qs) [(0,1,(zki 7)),(1,1,34)]),zop 36 (.bsl 111 Qs [35]),zop 37 (.app 33 36 111 Qs),zmv 0 37]) .skip)]),(.reg [zmv 38 0,zmv 10 38]),.ret])
def QR6:List (ARv × Md):=[(.t 10,.one (.o 111))]
theorem QRI (l:List TIns) (stages:Int) (s:Int) (m:Int) (redo:Bool) (h :
 let z1:=List.take l.length l
 (zif (decide (s<(w64 (stages-(1:Int))))) (((l.length=l.length∨l.length+1≤l.length)∧l.length+1≤big)∧(zif redo ((((l.length+1)=(z1++([((4:Int),m)])).length∨(l.length+1)+1≤(z1++([((4:Int),m)])).length)∧(l.length+1)+1≤big)∧(((((l.length+1)+1)=((List.take (l.length+1) (z1++([((4:Int),m)])))++([((5:Int),m)])).length∨((l.length+1)+1)+1≤((List.take (l.length+1) (z1++([((4:Int),m)])))++([((5:Int),m)])).length)∧((l.length+1)+1)+1≤big)∧(zif (decide (s>(0:Int))) ((((((l.length+1)+1)+1)=((List.take ((l.length+1)+1) ((List.take (l.length+1) (z1++([((4:Int),m)])))++([((5:Int),m)])))++([((6:Int),m)])).length∨(((l.length+1)+1)+1)+1≤((List.take ((l.length+1)+1) ((List.take (l.length+1) (z1++([((4:Int),m)])))++([((5:Int),m)])))++([((6:Int),m)])).length)∧(((l.length+1)+1)+1)+1≤big)∧K (QaH (List.take ((((l.length+1)+1)+1)+1) ((List.take (((l.length+1)+1)+1) ((List.take ((l.length+1)+1) ((List.take (l.length+1) (z1++([((4:Int),m)])))++([((5:Int),m)])))++([((6:Int),m)])))++([((7:Int),m)]))))) (K (QaH (List.take (((l.length+1)+1)+1) ((List.take ((l.length+1)+1) ((List.take (l.length+1) (z1++([((4:Int),m)])))++([((5:Int),m)])))++([((6:Int),m)])))))))) ((((l.length+1)=(z1++([((4:Int),m)])).length∨(l.length+1)+1≤(z1++([((4:Int),m)])).length)∧(l.length+1)+1≤big)∧(zif (decide (s>(0:Int))) (((((l.length+1)+1)=((List.take (l.length+1) (z1++([((4:Int),m)])))++([((6:Int),m)])).length∨((l.length+1)+1)+1≤((List.take (l.length+1) (z1++([((4:Int),m)])))++([((6:Int),m)])).length)∧((l.length+1)+1)+1≤big)∧K (QaH (List.take (((l.length+1)+1)+1) ((List.take ((l.length+1)+1) ((List.take (l.length+1) (z1++([((4:Int),m)])))++([((6:Int),m)])))++([((7:Int),m)]))))) (K (QaH (List.take ((l.length+1)+1) ((List.take (l.length+1) (z1++([((4:Int),m)])))++([((6:Int),m)]))))))))) (zif redo (((l.length=l.length∨l.length+1≤l.length)∧l.length+1≤big)∧((((l.length+1)=(z1++([((5:Int),m)])).length∨(l.length+1)+1≤(z1++([((5:Int),m)])).length)∧(l.length+1)+1≤big)∧(zif (decide (s>(0:Int))) (((((l.length+1)+1)=((List.take (l.length+1) (z1++([((5:Int),m)])))++([((6:Int),m)])).length∨((l.length+1)+1)+1≤((List.take (l.length+1) (z1++([((5:Int),m)])))++([((6:Int),m)])).length)∧((l.length+1)+1)+1≤big)∧K (QaH (List.take (((l.length+1)+1)+1) ((List.take ((l.length+1)+1) ((List.take (l.length+1) (z1++([((5:Int),m)])))++([((6:Int),m)])))++([((7:Int),m)]))))) (K (QaH (List.take ((l.length+1)+1) ((List.take (l.length+1) (z1++([((5:Int),m)])))++([((6:Int),m)])))))))) (((l.length=l.length∨l.length+1≤l.length)∧l.length+1≤big)∧(zif (decide (s>(0:Int))) ((((l.length+1)=(z1++([((6:Int),m)])).length∨(l.length+1)+1≤(z1++([((6:Int),m)])).length)∧(l.length+1)+1≤big)∧K (QaH (List.take ((l.length+1)+1) ((List.take (l.length+1) (z1++([((6:Int),m)])))++([((7:Int),m)]))))) (K (QaH (List.take (l.length+1) (z1++([((6:Int),m)])))))))))):Hold (tawp QOA (0+1) QHN (TQ 0 1 QR6 K) (Qd [(.ow 111 Qs l),(.c TI stages),(.c TI s),(.c TI m),(.c .bool redo)])) :=
 Hold.of (by kernel_rfl) h
theorem QPV (l:List TIns) (stages:Int) (s:Int) (m:Int) (redo:Bool) (hp:QnT l stages s m redo):TCon Tryz.prog 160 [(.ow 111 Qs l),(.c TI stages),(.c TI s),(.c TI m),(.c .bool redo)] (QaH (QdW l stages s m redo)):=by
 refine Qj rfl fun hb=>tcg (n:=39) (sg:=Qmv.sg) Qg TOk.nil (by kernel_rfl) (by kernel_rfl) (QRI _ l stages s m redo ?_)
 conv=>zeta
 obtain ⟨⟨h1,h2⟩,hl⟩:=hp
 have hw:w64 (stages-1)=stages-1:=Qq (by omega) (by omega)
 have hb:l.length+100≤big:=by rw [Zu];omega
 rw [hw]
 unfold QdW Yt
 have hd:∀ k,List.take k (l++[])=List.take k l:=by intro k;rw [List.append_nil]
 by_cases c1:s<stages-1
 all_goals
  cases redo
  all_goals
   by_cases c3:0<s
   all_goals
    simp only [zif,gt_iff_lt,c1,c3,decide_true,decide_false,Bool.false_eq_true,true_implies,false_implies,true_and,and_true,reduceCtorEq,if_true,if_false,List.nil_append,List.append_nil]
    simp [zif,List.take_of_length_le,Zu]
    try omega
    try exact R_eq (by simp [List.take_of_length_le])
theorem QYw:Qe Tryz.prog Qmv:=Qh fun x h=>QPV x.1 x.2.1 x.2.2.1 x.2.2.2.1 x.2.2.2.2.1 h
def JL (t:(List TIns)):TRes:=⟨(.r Qs 0 0 t.length),[(.sl 111 Qs true t)],[],true,[]⟩
def QlR:TRow:=Qf 72 [(.c TI),(.c TI),(.c TI),(.c TI),(.c .bool)] fun x=>(none,JL (ZE x.1 x.2.1 x.2.2.1 x.2.2.2.1 x.2.2.2.2.1))
def Qb4:List TRow:=[Qg4,Qnh,Qow,QqB]
def QrC:TCode :=
 (zsq [(zsq [(.reg [zmv 34 13,zmv 35 11,zbi 36 .lss 34 35]),(.cond 36 .skip (.exit 0))]),(.block 1 (.reg [zmv 39 12,zmv 40 1,zmv 41 2,zmv 42 13,zca 43 149 [40,41,42],zop 44 (.app 39 43 111 Qs),zmv 12 44])),(.reg [zmv 37 13,zbi 38 .add 37 (zki 1),zmv 13 38])])
def QDP:List (Nat × Md):=[(1,.one .d),(2,.one .d),(3,.one .d),(4,.one .d),(11,.one .d),(12,.one .f),(13,.one .d)]
def QzZ:TCode :=
 (.reg [zmv 63 12,zmv 64 1,zmv 65 2,zmv 66 14,zmv 67 4,zca 68 150 [64,65,66,67],zop 69 (.app 63 68 111 Qs),zmv 12 69])
def QON:List (Nat × Md):=[(1,.one .d),(2,.one .d),(3,.one .d),(4,.one .d),(11,.one .d),(12,.one .f),(14,.one .d)]
def QLG:TCode:=.wk QON QzZ
def Qzk:TCode :=
 (.reg [zmv 48 14,zbi 49 .add 48 (zki 1),zmv 14 49])
def Qpw:TCode :=
 (zsq [(zsq [(.reg [zmv 45 14,zmv 46 3,zbi 47 .lss 45 46]),(.cond 47 .skip (.exit 2))]),(.block 3 (zsq [(zsq [(.reg [zmv 50 14,zmv 51 11,zbi 52 .add 50 51,zmv 53 3,zbi 54 .lss 52 53]),(.cond 54 (.reg [zmv 55 12,zmv 56 1,zmv 57 2,zmv 58 14,zmv 59 11,zbi 60 .add 58 59,zca 61 149 [56,57,60],zop 62 (.app 55 61 111 Qs),zmv 12 62]) .skip)]),QLG])),Qzk])
def Qkm:List (Nat × Md):=[(1,.one .d),(2,.one .d),(3,.one .d),(4,.one .d),(11,.one .d),(12,.one .f),(14,.one .d)]
def QqV:TCode :=
 (zsq [(.reg [zmv 70 12,zop 71 (.build (z0s Qs) [(0,1,(zki 8)),(1,1,(zki 0))]),zop 72 (.bsl 111 Qs [71]),zop 73 (.app 70 72 111 Qs),zmv 10 73]),.ret])
def QAz:TCode :=
 (zsq [(zsq [(.reg [zmv 14 (zki 0)]),(.block 2 (.loop Qkm Qpw))]),QqV])
def QRO:TCode :=
 (zsq [(.reg [zmv 10 (.k (.n Qs))]),(zsq [(.reg [zmv 15 0,zbi 16 .neq 15 (zki 1),zmv 17 16,.grp 17 true [zmv 18 0,zbi 19 .neq 18 (zki 2)] 20 19,zmv 21 20,.grp 21 false [zmv 22 1,zmv 23 2,zmv 24 3,zca 25 147 [22,23,24],zno 26 25] 27 26]),(.cond 27 (zsq [(.reg [zmv 10 (.k (.n Qs))]),.ret]) .skip)]),(.reg [zmv 28 0,zmv 29 1,zmv 30 2,zmv 31 3,zca 32 148 [28,29,30,31],zmv 11 32]),(.reg [zop 33 (.bsl 111 Qs []),zmv 12 33]),(zsq [(.reg [zmv 13 (zki 0)]),(.block 0 (.loop QDP QrC))]),QAz])
def Qth:List (ARv × Md):=[(.t 10,.one (.o 111))]
def Qjx:Qb:=TQ 0 0 Qth K
def QJo:Qb:=Qseq (tawp Qb4 0 QqV (Qjx K)) (Qjx K)
def Qmk:Qb:=Qblk 2 (QJo K)
def QAB:Qb:=Qseq (fun s'=>Loop Qb4 0 Qkm Qpw (Qmk K) (gc 0 Qkm s')) (Qmk K)
def QTZ:Qb:=Qseq (tawp Qb4 0 Qzk (QAB K)) (QAB K)
def QSO:Qb:=Qblk 3 (QTZ K)
def Qgu (ds:Int) (stages:Int) (s:Int) (micro:Int) (redo:Bool) (l1:List TIns) (m1:Int):Prop:=tawp Qb4 0 QzZ (QSO K) ⟨[(1,(zci stages)),(2,(zci s)),(3,(zci micro)),(4,(zcb redo)),(11,(zci (ZP ds stages s micro))),(12,(.r Qs 0 0 l1.length)),(14,(zci m1))],[(0,(.sl 111 Qs true l1))],1⟩
def Qe4 (ds:Int) (stages:Int) (s:Int) (micro:Int) (redo:Bool) (m1:Int) (l2:List TIns):Prop:=Loop Qb4 0 Qkm Qpw (Qmk K) ⟨[(1,(zci stages)),(2,(zci s)),(3,(zci micro)),(4,(zcb redo)),(11,(zci (ZP ds stages s micro))),(12,(.r Qs 0 0 l2.length)),(14,(zci m1))],[(0,(.sl 111 Qs true l2))],1⟩
def QUP:Qb:=Qseq (tawp Qb4 0 QAz (Qjx K)) (Qjx K)
def QTX:Qb:=Qblk 0 (QUP K)
def Qjk (ds:Int) (stages:Int) (s:Int) (micro:Int) (redo:Bool) (m:Int) (l:List TIns):Prop:=Loop Qb4 0 QDP QrC (QTX K) ⟨[(1,(zci stages)),(2,(zci s)),(3,(zci micro)),(4,(zcb redo)),(11,(zci (ZP ds stages s micro))),(12,(.r Qs 0 0 l.length)),(13,(zci m))],[(0,(.sl 111 Qs true l))],1⟩
theorem QIW (ds:Int) (stages:Int) (s:Int) (micro:Int) (redo:Bool) (l1:List TIns) (m1:Int) (h :
 (((Ql9 stages s m1 redo)∧((l1.length=l1.length∨l1.length+(List.take ((Yt stages s m1 redo).length) (List.drop 0 (Yt stages s m1 redo))).length≤l1.length)∧l1.length+(List.take ((Yt stages s m1 redo).length) (List.drop 0 (Yt stages s m1 redo))).length≤big))∧(Qe4 K ds stages s micro redo (w64 (m1+(1:Int))) (List.take (l1.length+(List.take ((Yt stages s m1 redo).length) (List.drop 0 (Yt stages s m1 redo))).length) ((List.take l1.length l1)++(List.take ((Yt stages s m1 redo).length) (List.drop 0 (Yt stages s m1 redo)))))))):Hold (Qgu K ds stages s micro redo l1 m1) :=
 Hold.of (by kernel_rfl) h
theorem QDw (ds:Int) (stages:Int) (s:Int) (micro:Int) (redo:Bool) (m1:Int) (l2:List TIns) (h :
 let z2:=w64 (m1+(ZP ds stages s micro))
 let z1:=List.take ((Z4 stages s z2).length) (List.drop 0 (Z4 stages s z2))
 let z3:=List.take l2.length l2
 (zif (decide (m1<micro)) (zif (decide (z2<micro)) (((p_st stages s z2)∧((l2.length=l2.length∨l2.length+z1.length≤l2.length)∧l2.length+z1.length≤big))∧(Qgu K ds stages s micro redo (List.take (l2.length+z1.length) (z3++z1)) m1)) (Qgu K ds stages s micro redo z3 m1)) (((l2.length=l2.length∨l2.length+1≤l2.length)∧l2.length+1≤big)∧K (JL (List.take (l2.length+1) (z3++([((8:Int),(0:Int))]))))))):Qe4 K ds stages s micro redo m1 l2 :=
 Loop.of (by kernel_rfl) h
theorem Qvf (ds:Int) (stages:Int) (s:Int) (micro:Int) (redo:Bool) (m:Int) (l:List TIns) (h :
 (zif (decide (m<(ZP ds stages s micro))) (((p_st stages s m)∧((l.length=l.length∨l.length+(List.take ((Z4 stages s m).length) (List.drop 0 (Z4 stages s m))).length≤l.length)∧l.length+(List.take ((Z4 stages s m).length) (List.drop 0 (Z4 stages s m))).length≤big))∧(Qjk K ds stages s micro redo (w64 (m+(1:Int))) (List.take (l.length+(List.take ((Z4 stages s m).length) (List.drop 0 (Z4 stages s m))).length) ((List.take l.length l)++(List.take ((Z4 stages s m).length) (List.drop 0 (Z4 stages s m))))))) (Qe4 K ds stages s micro redo 0 (List.take l.length l)))):Qjk K ds stages s micro redo m l :=
 Loop.of (by kernel_rfl) h
theorem QKB (ds:Int) (stages:Int) (s:Int) (micro:Int) (redo:Bool) (h :
 (zif (((ds != (1:Int))&&(ds != (2:Int)))||(!(ZU stages s micro))) (K (JL ([]:List TIns))) (Qjk K ds stages s micro redo 0 ([]:List TIns)))):Hold (tawp Qb4 (0+0) QRO (TQ 0 0 Qth K) (Qd [(.c TI ds),(.c TI stages),(.c TI s),(.c TI micro),(.c .bool redo)])) :=
 Hold.of (by kernel_rfl) h
theorem QFo (ds:Int) (stages:Int) (s:Int) (micro:Int) (redo:Bool):TCon Tryz.prog 72 [(.c TI ds),(.c TI stages),(.c TI s),(.c TI micro),(.c .bool redo)] (JL (ZE ds stages s micro redo)):=by
 refine Qj rfl fun hb=>tcg (n:=74) (sg:=QlR.sg) Qg (TOk.cons QxJ (TOk.cons QHi (TOk.cons QSL (TOk.cons QNH TOk.nil)))) (by kernel_rfl) (by kernel_rfl) (QKB _ ds stages s micro redo ?_)
 rw [QO6]
 by_cases hp:(m_in ds 1 2&&ZU stages s micro)=true
 case neg =>
  rw [show (m_in ds 1 2&&ZU stages s micro)=false by simpa using hp]
  exact ⟨fun _=>R_eq (Qot hp).symm,fun h=>by simp at h⟩
 rw [hp]
 refine ⟨fun h=>by simp at h,fun _=>?_⟩
 have hq:ZU stages s micro=true:=by simp only [Bool.and_eq_true] at hp;exact hp.2
 have hr:=Qjd.1 hq
 have hM:=Qm6 (redo:=redo) hp
 obtain ⟨w,hw⟩:∃ w:Nat,ZP ds stages s micro=w:=⟨_,(Int.toNat_of_nonneg (Qf5 hq).1).symm⟩
 have hw5:=(Qf5 (ds:=ds) hq).2
 rw [hw] at hM hw5
 rw [Int.toNat_natCast] at hM
 refine Jb w (fun k=>Qjk (fun r'=>r'=JL (ZE ds stages s micro redo)) ds stages s micro redo (k:Int) (J7 stages s k)) ?_ ?_
 ·refine Qvf (fun r'=>r'=JL (ZE ds stages s micro redo)) ds stages s micro redo _ _ ⟨fun h=>by simp [hw] at h,fun _=>?_⟩
  rw [List.take_length]
  suffices h:Qe4 (fun r'=>r'=JL (ZE ds stages s micro redo)) ds stages s micro redo ((0:Nat):Int) (J7 stages s w++Qak stages s micro redo w 0) by
   rw [show Qak stages s micro redo w 0=[] from rfl,List.append_nil] at h;exact h
  refine Jb micro.toNat (fun k=>Qe4 (fun r'=>r'=JL (ZE ds stages s micro redo)) ds stages s micro redo (k:Int) (J7 stages s w++Qak stages s micro redo w k)) ?_ ?_
  ·have h1:=Qdb stages s w
   have h2:=Qgp stages s micro redo w micro.toNat
   refine QDw (fun r'=>r'=JL (ZE ds stages s micro redo)) ds stages s micro redo _ _ ⟨fun h=>by simp at h;omega,fun _=>⟨⟨.inl rfl,by rw [List.length_append,Zu];omega⟩,R_eq ?_⟩⟩
   rw [Zf,hM]
  ·intro k hk ih
   have h1:=Qdb stages s w
   have h2:=Qgp stages s micro redo w k
   have key:∀ l:List TIns,l=J7 stages s w++Qak stages s micro redo w k++(if (k:Int)+w<micro then Z4 stages s ((k:Int)+w) else [])→Qgu (fun r'=>r'=JL (ZE ds stages s micro redo)) ds stages s micro redo l (k:Int):=by
    intro l hl
    have h3:=QnX stages s k redo
    have h4:=Qb1 stages s ((k:Int)+w)
    have h5:l.length≤1000:=by rw [hl];split <;> simp only [List.length_append,List.length_nil] <;> omega
    refine (QIW (fun r'=>r'=JL (ZE ds stages s micro redo)) ds stages s micro redo l _ ⟨⟨⟨by omega,by omega⟩,QpI (by omega)⟩,?_⟩).h
    rw [Qoo,sc1 (by omega)]
    rw [QCt] at ih
    rw [hl,List.append_assoc,List.append_assoc]
    unfold Qgl at ih
    exact ih
   refine QDw (fun r'=>r'=JL (ZE ds stages s micro redo)) ds stages s micro redo _ _ ⟨fun _=>?_,fun h=>by simp at h;omega⟩
   rw [hw,Qq (x:=(k:Int)+w) (by omega) (by omega)]
   have h4:=Qb1 stages s ((k:Int)+w)
   refine ⟨fun h=>⟨⟨⟨by omega,by omega⟩,QpI (by rw [List.length_append];omega)⟩,key _ ?_⟩,fun h=>key _ ?_⟩
   ·rw [Qoo,if_pos (of_decide_eq_true h)]
   ·rw [if_neg (of_decide_eq_false h),List.take_length,List.append_nil]
 ·intro k hk ih
  have h1:=Qdb stages s k
  have h4:=Qb1 stages s k
  refine Qvf (fun r'=>r'=JL (ZE ds stages s micro redo)) ds stages s micro redo _ _ ⟨fun _=>⟨⟨⟨by omega,by omega⟩,QpI (by omega)⟩,?_⟩,fun h=>by simp [hw] at h;omega⟩
  rw [Qoo,sc1 (by omega),← QBV]
  exact ih
theorem QHX:Qe Tryz.prog QlR:=Qh fun x _=>QFo x.1 x.2.1 x.2.2.1 x.2.2.2.1 x.2.2.2.2.1
def JG (t:(List TIns)):TRes:=⟨(.r Qs 0 0 t.length),[(.sl 111 Qs true t)],[],true,[]⟩
def Qpo:TRow:=Qf 82 [(.c TI),(.c TI),(.c TI),(.c TI),(.c .bool)] fun x=>(none,JG (ZE x.1 x.2.1 x.2.2.1 x.2.2.2.1 x.2.2.2.2.1))
def QbV:List TRow:=[Jm,Qpy,Qoc,Qmv]
def QvA:TCode :=
 (zsq [(zsq [(.reg [zmv 42 13,zmv 43 12,zbi 44 .lss 42 43]),(.cond 44 .skip (.exit 0))]),(.block 1 (.reg [zmv 47 11,zmv 48 1,zmv 49 2,zmv 50 13,zca 51 159 [47,48,49,50],zmv 11 51])),(.reg [zmv 45 13,zbi 46 .add 45 (zki 1),zmv 13 46])])
def QsF:List (Nat × Md):=[(1,.one .d),(2,.one .d),(3,.one .d),(4,.one .d),(11,.one .f),(12,.one .d),(13,.one .d)]
def Qwc:TCode :=
 (.reg [zmv 69 11,zmv 70 1,zmv 71 2,zmv 72 14,zmv 73 4,zca 74 160 [69,70,71,72,73],zmv 11 74])
def QMM:List (Nat × Md):=[(1,.one .d),(2,.one .d),(3,.one .d),(4,.one .d),(11,.one .f),(12,.one .d),(14,.one .d)]
def QGl:TCode:=.wk QMM Qwc
def Qv6:TCode :=
 (.reg [zmv 55 14,zbi 56 .add 55 (zki 1),zmv 14 56])
def Qo7:TCode :=
 (zsq [(zsq [(.reg [zmv 52 14,zmv 53 3,zbi 54 .lss 52 53]),(.cond 54 .skip (.exit 2))]),(.block 3 (zsq [(zsq [(.reg [zmv 57 12,zmv 58 14,zbi 59 .add 57 58,zmv 60 3,zbi 61 .lss 59 60]),(.cond 61 (.reg [zmv 62 11,zmv 63 1,zmv 64 2,zmv 65 12,zmv 66 14,zbi 67 .add 65 66,zca 68 159 [62,63,64,67],zmv 11 68]) .skip)]),QGl])),Qv6])
def Qgv:List (Nat × Md):=[(1,.one .d),(2,.one .d),(3,.one .d),(4,.one .d),(11,.one .f),(12,.one .d),(14,.one .d)]
def Qzf:TCode :=
 (zsq [(.reg [zmv 75 11,zop 76 (.build (z0s Qs) [(0,1,(zki 8))]),zop 77 (.bsl 111 Qs [76]),zop 78 (.app 75 77 111 Qs),zmv 10 78]),.ret])
def Qt6:TCode :=
 (zsq [(zsq [(.reg [zmv 14 (zki 0)]),(.block 2 (.loop Qgv Qo7))]),Qzf])
def QLR:TCode :=
 (zsq [(.reg [zmv 10 (.k (.n Qs))]),(.reg [zop 15 (.bsl 111 Qs []),zmv 11 15]),(zsq [(.reg [zmv 16 0,zca 17 77 [16,(zki 1),(zki 2)],zno 18 17,zmv 19 18,.grp 19 false [zmv 20 1,zca 21 77 [20,(zki 1),(zki 4)],zno 22 21] 23 22,zmv 24 23,.grp 24 false [zmv 25 2,zmv 26 1,zbi 27 .sub 26 (zki 1),zca 28 77 [25,(zki 0),27],zno 29 28] 30 29,zmv 31 30,.grp 31 false [zmv 32 3,zca 33 77 [32,(zki 1),(zki 5)],zno 34 33] 35 34]),(.cond 35 (zsq [(.reg [zmv 36 11,zmv 10 36]),.ret]) .skip)]),(.reg [zmv 37 0,zmv 38 1,zmv 39 2,zmv 40 3,zca 41 158 [37,38,39,40],zmv 12 41]),(zsq [(.reg [zmv 13 (zki 0)]),(.block 0 (.loop QsF QvA))]),Qt6])
def Qsb:List (ARv × Md):=[(.t 10,.one (.o 111))]
def Qiv:Qb:=TQ 0 0 Qsb K
def QPe:Qb:=Qseq (tawp QbV 0 Qzf (Qiv K)) (Qiv K)
def QlE:Qb:=Qblk 2 (QPe K)
def Qxh:Qb:=Qseq (fun s'=>Loop QbV 0 Qgv Qo7 (QlE K) (gc 0 Qgv s')) (QlE K)
def QWE:Qb:=Qseq (tawp QbV 0 Qv6 (Qxh K)) (Qxh K)
def QJE:Qb:=Qblk 3 (QWE K)
def Qi9 (ds:Int) (stages:Int) (s:Int) (micro:Int) (redo:Bool) (l1:List TIns) (m1:Int):Prop:=tawp QbV 0 Qwc (QJE K) ⟨[(1,(zci stages)),(2,(zci s)),(3,(zci micro)),(4,(zcb redo)),(11,(.r Qs 0 0 l1.length)),(12,(zci (ZP ds stages s micro))),(14,(zci m1))],[(0,(.sl 111 Qs true l1))],1⟩
def QeS (ds:Int) (stages:Int) (s:Int) (micro:Int) (redo:Bool) (m1:Int) (l2:List TIns):Prop:=Loop QbV 0 Qgv Qo7 (QlE K) ⟨[(1,(zci stages)),(2,(zci s)),(3,(zci micro)),(4,(zcb redo)),(11,(.r Qs 0 0 l2.length)),(12,(zci (ZP ds stages s micro))),(14,(zci m1))],[(0,(.sl 111 Qs true l2))],1⟩
def QJU:Qb:=Qseq (tawp QbV 0 Qt6 (Qiv K)) (Qiv K)
def QKG:Qb:=Qblk 0 (QJU K)
def QjB (ds:Int) (stages:Int) (s:Int) (micro:Int) (redo:Bool) (m:Int) (l:List TIns):Prop:=Loop QbV 0 QsF QvA (QKG K) ⟨[(1,(zci stages)),(2,(zci s)),(3,(zci micro)),(4,(zcb redo)),(11,(.r Qs 0 0 l.length)),(12,(zci (ZP ds stages s micro))),(13,(zci m))],[(0,(.sl 111 Qs true l))],1⟩
theorem QEy (ds:Int) (stages:Int) (s:Int) (micro:Int) (redo:Bool) (l1:List TIns) (m1:Int) (h :
 (((l1.length=l1.length)∧(QnT l1 stages s m1 redo))∧(QeS K ds stages s micro redo (w64 (m1+(1:Int))) (List.take ((QdW l1 stages s m1 redo).length) (QdW l1 stages s m1 redo))))):Hold (Qi9 K ds stages s micro redo l1 m1) :=
 Hold.of (by kernel_rfl) h
theorem Que (ds:Int) (stages:Int) (s:Int) (micro:Int) (redo:Bool) (m1:Int) (l2:List TIns) (h :
 (zif (decide (m1<micro)) (zif (decide ((w64 ((ZP ds stages s micro)+m1))<micro)) (((l2.length=l2.length)∧(p_l9 l2 stages s (w64 ((ZP ds stages s micro)+m1))))∧(Qi9 K ds stages s micro redo (List.take ((Qc5 l2 stages s (w64 ((ZP ds stages s micro)+m1))).length) (Qc5 l2 stages s (w64 ((ZP ds stages s micro)+m1)))) m1)) (Qi9 K ds stages s micro redo (List.take l2.length l2) m1)) (((l2.length=l2.length∨l2.length+1≤l2.length)∧l2.length+1≤big)∧K (JG (List.take (l2.length+1) ((List.take l2.length l2)++([((8:Int),(0:Int))]))))))):QeS K ds stages s micro redo m1 l2 :=
 Loop.of (by kernel_rfl) h
theorem Qu9 (ds:Int) (stages:Int) (s:Int) (micro:Int) (redo:Bool) (m:Int) (l:List TIns) (h :
 (zif (decide (m<(ZP ds stages s micro))) (((l.length=l.length)∧(p_l9 l stages s m))∧(QjB K ds stages s micro redo (w64 (m+(1:Int))) (List.take ((Qc5 l stages s m).length) (Qc5 l stages s m)))) (QeS K ds stages s micro redo 0 (List.take l.length l)))):QjB K ds stages s micro redo m l :=
 Loop.of (by kernel_rfl) h
theorem QNk (ds:Int) (stages:Int) (s:Int) (micro:Int) (redo:Bool) (h :
 (zif ((((!(m_in ds (1:Int) (2:Int)))||(!(m_in stages (1:Int) (4:Int))))||(!(m_in s (0:Int) (w64 (stages-(1:Int))))))||(!(m_in micro (1:Int) (5:Int)))) (K (JG ([]:List TIns))) (QjB K ds stages s micro redo 0 ([]:List TIns)))):Hold (tawp QbV (0+0) QLR (TQ 0 0 Qsb K) (Qd [(.c TI ds),(.c TI stages),(.c TI s),(.c TI micro),(.c .bool redo)])) :=
 Hold.of (by kernel_rfl) h
theorem QSo (ds:Int) (stages:Int) (s:Int) (micro:Int) (redo:Bool):TCon Tryz.prog 82 [(.c TI ds),(.c TI stages),(.c TI s),(.c TI micro),(.c .bool redo)] (JG (ZE ds stages s micro redo)):=by
 refine Qj rfl fun hb=>tcg (n:=79) (sg:=Qpo.sg) Qg (TOk.cons JJ (TOk.cons QPr (TOk.cons QX7 (TOk.cons QYw TOk.nil)))) (by kernel_rfl) (by kernel_rfl) (QNk _ ds stages s micro redo ?_)
 rw [QW0]
 by_cases hp:(m_in ds 1 2&&ZU stages s micro)=true
 case neg =>
  rw [show (m_in ds 1 2&&ZU stages s micro)=false by simpa using hp]
  exact ⟨fun _=>R_eq (Qot hp).symm,fun h=>by simp at h⟩
 rw [hp]
 refine ⟨fun h=>by simp at h,fun _=>?_⟩
 have hq:ZU stages s micro=true:=by simp only [Bool.and_eq_true] at hp;exact hp.2
 have hr:=Qjd.1 hq
 have hM:=Qm6 (redo:=redo) hp
 obtain ⟨w,hw⟩:∃ w:Nat,ZP ds stages s micro=w:=⟨_,(Int.toNat_of_nonneg (Qf5 hq).1).symm⟩
 have hw5:=(Qf5 (ds:=ds) hq).2
 rw [hw] at hM hw5
 rw [Int.toNat_natCast] at hM
 refine Jb w (fun k=>QjB (fun r'=>r'=JG (ZE ds stages s micro redo)) ds stages s micro redo (k:Int) (J7 stages s k)) ?_ ?_
 ·refine Qu9 (fun r'=>r'=JG (ZE ds stages s micro redo)) ds stages s micro redo _ _ ⟨fun h=>by simp [hw] at h,fun _=>?_⟩
  rw [List.take_length]
  suffices h:QeS (fun r'=>r'=JG (ZE ds stages s micro redo)) ds stages s micro redo ((0:Nat):Int) (J7 stages s w++Qak stages s micro redo w 0) by
   rw [show Qak stages s micro redo w 0=[] from rfl,List.append_nil] at h;exact h
  refine Jb micro.toNat (fun k=>QeS (fun r'=>r'=JG (ZE ds stages s micro redo)) ds stages s micro redo (k:Int) (J7 stages s w++Qak stages s micro redo w k)) ?_ ?_
  ·have h1:=Qdb stages s w
   have h2:=Qgp stages s micro redo w micro.toNat
   refine Que (fun r'=>r'=JG (ZE ds stages s micro redo)) ds stages s micro redo _ _ ⟨fun h=>by simp at h;omega,fun _=>⟨⟨.inl rfl,by rw [List.length_append,Zu];omega⟩,R_eq ?_⟩⟩
   rw [Zf,hM]
  ·intro k hk ih
   have h1:=Qdb stages s w
   have h2:=Qgp stages s micro redo w k
   have key:∀ l:List TIns,l=J7 stages s w++Qak stages s micro redo w k++(if (k:Int)+w<micro then Z4 stages s ((k:Int)+w) else [])→Qi9 (fun r'=>r'=JG (ZE ds stages s micro redo)) ds stages s micro redo l (k:Int):=by
    intro l hl
    have h3:=QnX stages s k redo
    have h4:=Qb1 stages s ((k:Int)+w)
    have h5:l.length≤1000:=by rw [hl];split <;> simp only [List.length_append,List.length_nil] <;> omega
    refine (QEy (fun r'=>r'=JG (ZE ds stages s micro redo)) ds stages s micro redo l _ ⟨⟨rfl,⟨by omega,by omega⟩,by omega⟩,?_⟩).h
    rw [List.take_length,sc1 (by omega)]
    rw [QCt] at ih
    unfold QdW
    rw [hl,List.append_assoc,List.append_assoc]
    unfold Qgl at ih
    exact ih
   refine Que (fun r'=>r'=JG (ZE ds stages s micro redo)) ds stages s micro redo _ _ ⟨fun _=>?_,fun h=>by simp at h;omega⟩
   rw [hw,Int.add_comm (w:Int) k,Qq (x:=(k:Int)+w) (by omega) (by omega)]
   have h4:=Qb1 stages s ((k:Int)+w)
   refine ⟨fun h=>⟨⟨rfl,⟨by omega,by omega⟩,by rw [List.length_append];omega⟩,key _ ?_⟩,fun h=>key _ ?_⟩
   ·rw [List.take_length,if_pos (of_decide_eq_true h)];rfl
   ·rw [if_neg (of_decide_eq_false h),List.take_length,List.append_nil]
 ·intro k hk ih
  have h1:=Qdb stages s k
  have h4:=Qb1 stages s k
  refine Qu9 (fun r'=>r'=JG (ZE ds stages s micro redo)) ds stages s micro redo _ _ ⟨fun _=>⟨⟨rfl,⟨by omega,by omega⟩,by omega⟩,?_⟩,fun h=>by simp [hw] at h;omega⟩
  rw [List.take_length,sc1 (by omega)]
  rw [QBV] at ih
  exact ih
theorem QYj:Qe Tryz.prog Qpo:=Qh fun x _=>QSo x.1 x.2.1 x.2.2.1 x.2.2.2.1 x.2.2.2.2.1
end
end Go.Proofs.YtjbdljkhbglnhaaGreat.Am

