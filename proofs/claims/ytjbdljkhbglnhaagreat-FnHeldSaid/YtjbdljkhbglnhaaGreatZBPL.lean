/- -/
import Derived.Test.YtjbdljkhbglnhaaGreatZBPE
import Derived.Test.YtjbdljkhbglnhaaGreatZBP1
import Derived.Test.YtjbdljkhbglnhaaGreatZBG9
namespace Go.Proofs.YtjbdljkhbglnhaaGreat.Am
open Go Go.RowKit Go.Proofs.YtjbdljkhbglnhaaGreat
set_option linter.all false
noncomputable section
variable (K:TRes→Prop)
def QdS (t:(List TIns)):TRes:=⟨(.r QO 0 0 t.length),[(.sl 111 QO true t)],[],true,[]⟩
def QjU:TRow:=Qi 149 [(.c TI),(.c TI),(.c TI)] fun x=>(some (p_st x.1 x.2.1 x.2.2.1),QdS (Yh x.1 x.2.1 x.2.2.1))
def Qoz:List TRow:=[]
def QuR:TCode :=
 (zsq [(.reg [zmv 16 7,zmv 17 2,zop 18 (.build (z0s QO) [(0,1,(zki 2)),(1,1,17)]),zop 19 (.bsl 111 QO [18]),zop 20 (.app 16 19 111 QO),zmv 7 20]),(zsq [(.reg [zmv 21 1,zmv 22 0,zbi 23 .sub 22 (zki 1),zbi 24 .lss 21 23]),(.cond 24 (.reg [zmv 25 7,zmv 26 2,zop 27 (.build (z0s QO) [(0,1,(zki 3)),(1,1,26)]),zop 28 (.bsl 111 QO [27]),zop 29 (.app 25 28 111 QO),zmv 7 29]) .skip)]),(.reg [zmv 30 7,zmv 6 30]),.ret])
def QAW:List (Nat × Md):=[(0,.one .d),(1,.one .d),(2,.one .d),(7,.one .f)]
def QB3:TCode:=.wk QAW QuR
def QPe:TCode :=
 (zsq [(.reg [zmv 6 (.k (.n QO))]),(.reg [zop 8 (.bsl 111 QO []),zmv 7 8]),(zsq [(.reg [zmv 9 1,zbi 10 .gtr 9 (zki 0)]),(.cond 10 (.reg [zmv 11 7,zmv 12 2,zop 13 (.build (z0s QO) [(0,1,(zki 1)),(1,1,12)]),zop 14 (.bsl 111 QO [13]),zop 15 (.app 11 14 111 QO),zmv 7 15]) .skip)]),QB3])
def Qrm:List (ARv × Md):=[(.t 6,.one (.o 111))]
def QNM:Qb:=TQ 0 0 Qrm K
def QhS (stages:Int) (s:Int) (m:Int) (l:List TIns):Prop:=tawp Qoz 0 QuR (QNM K) ⟨[(0,(zci stages)),(1,(zci s)),(2,(zci m)),(7,(.r QO 0 0 l.length))],[(0,(.sl 111 QO true l))],1⟩
theorem QQb (stages:Int) (s:Int) (m:Int) (l:List TIns) (h :
 (((l.length=l.length∨l.length+1≤l.length)∧l.length+1≤big)∧(zif (decide (s<(w64 (stages-(1:Int))))) ((((l.length+1)=((List.take l.length l)++([((2:Int),m)])).length∨(l.length+1)+1≤((List.take l.length l)++([((2:Int),m)])).length)∧(l.length+1)+1≤big)∧K (QdS (List.take ((l.length+1)+1) ((List.take (l.length+1) ((List.take l.length l)++([((2:Int),m)])))++([((3:Int),m)]))))) (K (QdS (List.take (l.length+1) ((List.take l.length l)++([((2:Int),m)])))))))):Hold (QhS K stages s m l) :=
 Hold.of (by kernel_rfl) h
theorem QAF (stages:Int) (s:Int) (m:Int) (h :
 (zif (decide (s>(0:Int))) (((0=0∨0+1≤0)∧0+1≤big)∧(QhS K stages s m (List.take (0+1) ([((1:Int),m)]:List TIns)))) (QhS K stages s m ([]:List TIns)))):Hold (tawp Qoz (0+0) QPe (TQ 0 0 Qrm K) (Qf [(.c TI stages),(.c TI s),(.c TI m)])) :=
 Hold.of (by kernel_rfl) h
theorem QHT (stages:Int) (s:Int) (m:Int) (hp:p_st stages s m):TCon Tryz.prog 149 [(.c TI stages),(.c TI s),(.c TI m)] (QdS (Yh stages s m)):=by
 refine Qr rfl fun hb=>tcg (n:=31) (sg:=QjU.sg) Qk TOk.nil (by kernel_rfl) (by kernel_rfl) (QAF _ stages s m ?_)
 obtain ⟨h1,h2⟩:=hp
 have hw:w64 (stages-1)=stages-1:=Qp (by omega) (by omega)
 have key:∀ l:List TIns,l.length≤1→l++[(2,m)]++(if s<stages-1 then [(3,m)] else [])=(Yh stages s m)→QhS (fun r'=>r'=QdS (Yh stages s m)) stages s m l:=by
  intro l hl he
  refine (QQb (fun r'=>r'=QdS (Yh stages s m)) stages s m l ?_).h
  rw [hw,← he]
  simp only [Zn]
  refine ⟨⟨by simp,by rw [Zv];omega⟩,fun h=>⟨⟨.inl (by simp),by rw [Zv];omega⟩,R_eq ?_⟩,fun h=>R_eq ?_⟩
  ·simp at h;simp [h,List.take_of_length_le]
  ·simp at h;simp [Int.not_lt.2 h]
 refine ⟨fun h=>⟨⟨.inl rfl,by rw [Zv];omega⟩,key _ (by simp) ?_⟩,fun h=>key _ (by simp) ?_⟩
 ·simp at h;simp [Yh,h]
 ·simp at h;simp [Yh,Int.not_lt.2 h]
theorem QL8:Qj Tryz.prog QjU:=Qm fun x h=>QHT x.1 x.2.1 x.2.2.1 h
def QbP (t:(List TIns)):TRes:=⟨(.r QO 0 0 t.length),[(.sl 111 QO true t)],[],true,[]⟩
def Qnw:TRow:=Qi 150 [(.c TI),(.c TI),(.c TI),(.c .bool)] fun x=>(some (QkZ x.1 x.2.1 x.2.2.1 x.2.2.2.1),QbP (Yq x.1 x.2.1 x.2.2.1 x.2.2.2.1))
def Qmr:List TRow:=[]
def Qo0:TCode :=
 (zsq [(.reg [zmv 26 9,zmv 27 2,zop 28 (.build (z0s QO) [(0,1,(zki 6)),(1,1,27)]),zop 29 (.bsl 111 QO [28]),zop 30 (.app 26 29 111 QO),zmv 9 30]),(zsq [(.reg [zmv 31 1,zbi 32 .gtr 31 (zki 0)]),(.cond 32 (.reg [zmv 33 9,zmv 34 2,zop 35 (.build (z0s QO) [(0,1,(zki 7)),(1,1,34)]),zop 36 (.bsl 111 QO [35]),zop 37 (.app 33 36 111 QO),zmv 9 37]) .skip)]),(.reg [zmv 38 9,zmv 8 38]),.ret])
def QJP:List (Nat × Md):=[(1,.one .d),(2,.one .d),(9,.one .f)]
def QLa:TCode:=.wk QJP Qo0
def Qqa:TCode :=
 (zsq [(zsq [(.reg [zmv 20 3]),(.cond 20 (.reg [zmv 21 9,zmv 22 2,zop 23 (.build (z0s QO) [(0,1,(zki 5)),(1,1,22)]),zop 24 (.bsl 111 QO [23]),zop 25 (.app 21 24 111 QO),zmv 9 25]) .skip)]),QLa])
def QFK:List (Nat × Md):=[(1,.one .d),(2,.one .d),(3,.one .d),(9,.one .f)]
def QHc:TCode:=.wk QFK Qqa
def QHe:TCode :=
 (zsq [(.reg [zmv 8 (.k (.n QO))]),(.reg [zop 10 (.bsl 111 QO []),zmv 9 10]),(zsq [(.reg [zmv 11 1,zmv 12 0,zbi 13 .sub 12 (zki 1),zbi 14 .lss 11 13]),(.cond 14 (.reg [zmv 15 9,zmv 16 2,zop 17 (.build (z0s QO) [(0,1,(zki 4)),(1,1,16)]),zop 18 (.bsl 111 QO [17]),zop 19 (.app 15 18 111 QO),zmv 9 19]) .skip)]),QHc])
def Qv4:List (ARv × Md):=[(.t 8,.one (.o 111))]
def Qsr:Qb:=TQ 0 0 Qv4 K
def QhY (s:Int) (m:Int) (l1:List TIns):Prop:=tawp Qmr 0 Qo0 (Qsr K) ⟨[(1,(zci s)),(2,(zci m)),(9,(.r QO 0 0 l1.length))],[(0,(.sl 111 QO true l1))],1⟩
def QiZ (s:Int) (m:Int) (redo:Bool) (l:List TIns):Prop:=tawp Qmr 0 Qqa (Qsr K) ⟨[(1,(zci s)),(2,(zci m)),(3,(zcb redo)),(9,(.r QO 0 0 l.length))],[(0,(.sl 111 QO true l))],1⟩
theorem QOS (s:Int) (m:Int) (l1:List TIns) (h :
 (((l1.length=l1.length∨l1.length+1≤l1.length)∧l1.length+1≤big)∧(zif (decide (s>(0:Int))) ((((l1.length+1)=((List.take l1.length l1)++([((6:Int),m)])).length∨(l1.length+1)+1≤((List.take l1.length l1)++([((6:Int),m)])).length)∧(l1.length+1)+1≤big)∧K (QbP (List.take ((l1.length+1)+1) ((List.take (l1.length+1) ((List.take l1.length l1)++([((6:Int),m)])))++([((7:Int),m)]))))) (K (QbP (List.take (l1.length+1) ((List.take l1.length l1)++([((6:Int),m)])))))))):Hold (QhY K s m l1) :=
 Hold.of (by kernel_rfl) h
theorem QK3 (s:Int) (m:Int) (redo:Bool) (l:List TIns) (h :
 (zif redo (((l.length=l.length∨l.length+1≤l.length)∧l.length+1≤big)∧(QhY K s m (List.take (l.length+1) ((List.take l.length l)++([((5:Int),m)]))))) (QhY K s m (List.take l.length l)))):Hold (QiZ K s m redo l) :=
 Hold.of (by kernel_rfl) h
theorem QEg (stages:Int) (s:Int) (m:Int) (redo:Bool) (h :
 (zif (decide (s<(w64 (stages-(1:Int))))) (((0=0∨0+1≤0)∧0+1≤big)∧(QiZ K s m redo (List.take (0+1) ([((4:Int),m)]:List TIns)))) (QiZ K s m redo ([]:List TIns)))):Hold (tawp Qmr (0+0) QHe (TQ 0 0 Qv4 K) (Qf [(.c TI stages),(.c TI s),(.c TI m),(.c .bool redo)])) :=
 Hold.of (by kernel_rfl) h
theorem QHB (stages:Int) (s:Int) (m:Int) (redo:Bool) (hp:QkZ stages s m redo):TCon Tryz.prog 150 [(.c TI stages),(.c TI s),(.c TI m),(.c .bool redo)] (QbP (Yq stages s m redo)):=by
 refine Qr rfl fun hb=>tcg (n:=39) (sg:=Qnw.sg) Qk TOk.nil (by kernel_rfl) (by kernel_rfl) (QEg _ stages s m redo ?_)
 obtain ⟨h1,h2⟩:=hp
 have hw:w64 (stages-1)=stages-1:=Qp (by omega) (by omega)
 have key2:∀ l:List TIns,l.length≤2→l++[(6,m)]++(if 0<s then [(7,m)] else [])=(Yq stages s m redo)→QhY (fun r'=>r'=QbP (Yq stages s m redo)) s m l:=by
  intro l hl he
  refine (QOS (fun r'=>r'=QbP (Yq stages s m redo)) s m l ?_).h
  rw [← he]
  simp only [Zn]
  refine ⟨⟨by simp,by rw [Zv];omega⟩,fun h=>⟨⟨.inl (by simp),by rw [Zv];omega⟩,R_eq ?_⟩,fun h=>R_eq ?_⟩
  ·simp at h;simp [h,List.take_of_length_le]
  ·simp at h;simp [Int.not_lt.2 h]
 have key:∀ l:List TIns,l.length≤1→l++(if redo then [(5,m)] else [])++[(6,m)]++(if 0<s then [(7,m)] else [])=(Yq stages s m redo)→QiZ (fun r'=>r'=QbP (Yq stages s m redo)) s m redo l:=by
  intro l hl he
  refine (QK3 (fun r'=>r'=QbP (Yq stages s m redo)) s m redo l ⟨fun h=>⟨⟨.inl rfl,by rw [Zv];omega⟩,key2 _ (by simp;omega) ?_⟩,fun h=>key2 _ (by simp;omega) ?_⟩).h
  ·rw [← he,Zn,h];simp
  ·rw [← he,List.take_length,h];simp
 rw [hw]
 refine ⟨fun h=>⟨⟨.inl rfl,by rw [Zv];omega⟩,key _ (by simp) ?_⟩,fun h=>key _ (by simp) ?_⟩
 ·simp at h;simp [Yq,h]
 ·simp at h;simp [Yq,Int.not_lt.2 h]
theorem QFA:Qj Tryz.prog Qnw:=Qm fun x h=>QHB x.1 x.2.1 x.2.2.1 x.2.2.2.1 h
def JJ (t:(List TIns)):TRes:=⟨(.r QO 0 0 t.length),[(.sl 111 QO true t)],[],true,[]⟩
def Qi9:TRow:=Qi 72 [(.c TI),(.c TI),(.c TI),(.c TI),(.c .bool)] fun x=>(none,JJ (Yn x.1 x.2.1 x.2.2.1 x.2.2.2.1 x.2.2.2.2.1))
def QbV:List TRow:=[Qf1,QlX,QjU,Qnw]
def QtN:TCode :=
 (zsq [(zsq [(.reg [zmv 34 13,zmv 35 11,zbi 36 .lss 34 35]),(.cond 36 .skip (.exit 0))]),(.block 1 (.reg [zmv 39 12,zmv 40 1,zmv 41 2,zmv 42 13,zca 43 149 [40,41,42],zop 44 (.app 39 43 111 QO),zmv 12 44])),(.reg [zmv 37 13,zbi 38 .add 37 (zki 1),zmv 13 38])])
def Qxv:List (Nat × Md):=[(1,.one .d),(2,.one .d),(3,.one .d),(4,.one .d),(11,.one .d),(12,.one .f),(13,.one .d)]
def Qsh:TCode :=
 (.reg [zmv 63 12,zmv 64 1,zmv 65 2,zmv 66 14,zmv 67 4,zca 68 150 [64,65,66,67],zop 69 (.app 63 68 111 QO),zmv 12 69])
def QBh:List (Nat × Md):=[(1,.one .d),(2,.one .d),(3,.one .d),(4,.one .d),(11,.one .d),(12,.one .f),(14,.one .d)]
def QH6:TCode:=.wk QBh Qsh
def Qy4:TCode :=
 (.reg [zmv 48 14,zbi 49 .add 48 (zki 1),zmv 14 49])
def QjC:TCode :=
 (zsq [(zsq [(.reg [zmv 45 14,zmv 46 3,zbi 47 .lss 45 46]),(.cond 47 .skip (.exit 2))]),(.block 3 (zsq [(zsq [(.reg [zmv 50 14,zmv 51 11,zbi 52 .add 50 51,zmv 53 3,zbi 54 .lss 52 53]),(.cond 54 (.reg [zmv 55 12,zmv 56 1,zmv 57 2,zmv 58 14,zmv 59 11,zbi 60 .add 58 59,zca 61 149 [56,57,60],zop 62 (.app 55 61 111 QO),zmv 12 62]) .skip)]),QH6])),Qy4])
def QfL:List (Nat × Md):=[(1,.one .d),(2,.one .d),(3,.one .d),(4,.one .d),(11,.one .d),(12,.one .f),(14,.one .d)]
def QrA:TCode :=
 (zsq [(.reg [zmv 70 12,zop 71 (.build (z0s QO) [(0,1,(zki 8)),(1,1,(zki 0))]),zop 72 (.bsl 111 QO [71]),zop 73 (.app 70 72 111 QO),zmv 10 73]),.ret])
def Quv:TCode :=
 (zsq [(zsq [(.reg [zmv 14 (zki 0)]),(.block 2 (.loop QfL QjC))]),QrA])
def QA7:TCode :=
 (zsq [(.reg [zmv 10 (.k (.n QO))]),(zsq [(.reg [zmv 15 0,zbi 16 .neq 15 (zki 1),zmv 17 16,.grp 17 true [zmv 18 0,zbi 19 .neq 18 (zki 2)] 20 19,zmv 21 20,.grp 21 false [zmv 22 1,zmv 23 2,zmv 24 3,zca 25 147 [22,23,24],zno 26 25] 27 26]),(.cond 27 (zsq [(.reg [zmv 10 (.k (.n QO))]),.ret]) .skip)]),(.reg [zmv 28 0,zmv 29 1,zmv 30 2,zmv 31 3,zca 32 148 [28,29,30,31],zmv 11 32]),(.reg [zop 33 (.bsl 111 QO []),zmv 12 33]),(zsq [(.reg [zmv 13 (zki 0)]),(.block 0 (.loop Qxv QtN))]),Quv])
def Qtv:List (ARv × Md):=[(.t 10,.one (.o 111))]
def Qhm:Qb:=TQ 0 0 Qtv K
def QDG:Qb:=Qseq (tawp QbV 0 QrA (Qhm K)) (Qhm K)
def QmW:Qb:=Qblk 2 (QDG K)
def Qxk:Qb:=Qseq (fun s'=>Loop QbV 0 QfL QjC (QmW K) (gc 0 QfL s')) (QmW K)
def QK1:Qb:=Qseq (tawp QbV 0 Qy4 (Qxk K)) (Qxk K)
def QQh:Qb:=Qblk 3 (QK1 K)
def QiO (ds:Int) (stages:Int) (s:Int) (micro:Int) (redo:Bool) (l1:List TIns) (m1:Int):Prop:=tawp QbV 0 Qsh (QQh K) ⟨[(1,(zci stages)),(2,(zci s)),(3,(zci micro)),(4,(zcb redo)),(11,(zci (YV ds stages s micro))),(12,(.r QO 0 0 l1.length)),(14,(zci m1))],[(0,(.sl 111 QO true l1))],1⟩
def Qfs (ds:Int) (stages:Int) (s:Int) (micro:Int) (redo:Bool) (m1:Int) (l2:List TIns):Prop:=Loop QbV 0 QfL QjC (QmW K) ⟨[(1,(zci stages)),(2,(zci s)),(3,(zci micro)),(4,(zcb redo)),(11,(zci (YV ds stages s micro))),(12,(.r QO 0 0 l2.length)),(14,(zci m1))],[(0,(.sl 111 QO true l2))],1⟩
def QCk:Qb:=Qseq (tawp QbV 0 Quv (Qhm K)) (Qhm K)
def QOG:Qb:=Qblk 0 (QCk K)
def QfV (ds:Int) (stages:Int) (s:Int) (micro:Int) (redo:Bool) (m:Int) (l:List TIns):Prop:=Loop QbV 0 Qxv QtN (QOG K) ⟨[(1,(zci stages)),(2,(zci s)),(3,(zci micro)),(4,(zcb redo)),(11,(zci (YV ds stages s micro))),(12,(.r QO 0 0 l.length)),(13,(zci m))],[(0,(.sl 111 QO true l))],1⟩
theorem QGc (ds:Int) (stages:Int) (s:Int) (micro:Int) (redo:Bool) (l1:List TIns) (m1:Int) (h :
 (((QkZ stages s m1 redo)∧((l1.length=l1.length∨l1.length+(List.take ((Yq stages s m1 redo).length) (List.drop 0 (Yq stages s m1 redo))).length≤l1.length)∧l1.length+(List.take ((Yq stages s m1 redo).length) (List.drop 0 (Yq stages s m1 redo))).length≤big))∧(Qfs K ds stages s micro redo (w64 (m1+(1:Int))) (List.take (l1.length+(List.take ((Yq stages s m1 redo).length) (List.drop 0 (Yq stages s m1 redo))).length) ((List.take l1.length l1)++(List.take ((Yq stages s m1 redo).length) (List.drop 0 (Yq stages s m1 redo)))))))):Hold (QiO K ds stages s micro redo l1 m1) :=
 Hold.of (by kernel_rfl) h
theorem QqR (ds:Int) (stages:Int) (s:Int) (micro:Int) (redo:Bool) (m1:Int) (l2:List TIns) (h :
 let z2:=w64 (m1+(YV ds stages s micro))
 let z1:=List.take ((Yh stages s z2).length) (List.drop 0 (Yh stages s z2))
 let z3:=List.take l2.length l2
 (zif (decide (m1<micro)) (zif (decide (z2<micro)) (((p_st stages s z2)∧((l2.length=l2.length∨l2.length+z1.length≤l2.length)∧l2.length+z1.length≤big))∧(QiO K ds stages s micro redo (List.take (l2.length+z1.length) (z3++z1)) m1)) (QiO K ds stages s micro redo z3 m1)) (((l2.length=l2.length∨l2.length+1≤l2.length)∧l2.length+1≤big)∧K (JJ (List.take (l2.length+1) (z3++([((8:Int),(0:Int))]))))))):Qfs K ds stages s micro redo m1 l2 :=
 Loop.of (by kernel_rfl) h
theorem QpS (ds:Int) (stages:Int) (s:Int) (micro:Int) (redo:Bool) (m:Int) (l:List TIns) (h :
 (zif (decide (m<(YV ds stages s micro))) (((p_st stages s m)∧((l.length=l.length∨l.length+(List.take ((Yh stages s m).length) (List.drop 0 (Yh stages s m))).length≤l.length)∧l.length+(List.take ((Yh stages s m).length) (List.drop 0 (Yh stages s m))).length≤big))∧(QfV K ds stages s micro redo (w64 (m+(1:Int))) (List.take (l.length+(List.take ((Yh stages s m).length) (List.drop 0 (Yh stages s m))).length) ((List.take l.length l)++(List.take ((Yh stages s m).length) (List.drop 0 (Yh stages s m))))))) (Qfs K ds stages s micro redo 0 (List.take l.length l)))):QfV K ds stages s micro redo m l :=
 Loop.of (by kernel_rfl) h
theorem QMA (ds:Int) (stages:Int) (s:Int) (micro:Int) (redo:Bool) (h :
 (zif (((ds != (1:Int))&&(ds != (2:Int)))||(!(Yp stages s micro))) (K (JJ ([]:List TIns))) (QfV K ds stages s micro redo 0 ([]:List TIns)))):Hold (tawp QbV (0+0) QA7 (TQ 0 0 Qtv K) (Qf [(.c TI ds),(.c TI stages),(.c TI s),(.c TI micro),(.c .bool redo)])) :=
 Hold.of (by kernel_rfl) h
theorem QHx (ds:Int) (stages:Int) (s:Int) (micro:Int) (redo:Bool):TCon Tryz.prog 72 [(.c TI ds),(.c TI stages),(.c TI s),(.c TI micro),(.c .bool redo)] (JJ (Yn ds stages s micro redo)):=by
 refine Qr rfl fun hb=>tcg (n:=74) (sg:=Qi9.sg) Qk (TOk.cons Qve (TOk.cons QIj (TOk.cons QL8 (TOk.cons QFA TOk.nil)))) (by kernel_rfl) (by kernel_rfl) (QMA _ ds stages s micro redo ?_)
 rw [QLN]
 by_cases hp:(m_in ds 1 2&&Yp stages s micro)=true
 case neg =>
  rw [show (m_in ds 1 2&&Yp stages s micro)=false by simpa using hp]
  exact ⟨fun _=>R_eq (Qo4 hp).symm,fun h=>by simp at h⟩
 rw [hp]
 refine ⟨fun h=>by simp at h,fun _=>?_⟩
 have hq:Yp stages s micro=true:=by simp only [Bool.and_eq_true] at hp;exact hp.2
 have hr:=Qkw.1 hq
 have hM:=Qr0 (redo:=redo) hp
 obtain ⟨w,hw⟩:∃ w:Nat,YV ds stages s micro=w:=⟨_,(Int.toNat_of_nonneg (Qli hq).1).symm⟩
 have hw5:=(Qli (ds:=ds) hq).2
 rw [hw] at hM hw5
 rw [Int.toNat_natCast] at hM
 refine Qap w (fun k=>QfV (fun r'=>r'=JJ (Yn ds stages s micro redo)) ds stages s micro redo (k:Int) (QbJ stages s k)) ?_ ?_
 ·refine QpS (fun r'=>r'=JJ (Yn ds stages s micro redo)) ds stages s micro redo _ _ ⟨fun h=>by simp [hw] at h,fun _=>?_⟩
  rw [List.take_length]
  suffices h:Qfs (fun r'=>r'=JJ (Yn ds stages s micro redo)) ds stages s micro redo ((0:Nat):Int) (QbJ stages s w++QbE stages s micro redo w 0) by
   rw [show QbE stages s micro redo w 0=[] from rfl,List.append_nil] at h;exact h
  refine Qap micro.toNat (fun k=>Qfs (fun r'=>r'=JJ (Yn ds stages s micro redo)) ds stages s micro redo (k:Int) (QbJ stages s w++QbE stages s micro redo w k)) ?_ ?_
  ·have h1:=Qhx stages s w
   have h2:=QnV stages s micro redo w micro.toNat
   refine QqR (fun r'=>r'=JJ (Yn ds stages s micro redo)) ds stages s micro redo _ _ ⟨fun h=>by simp at h;omega,fun _=>⟨⟨.inl rfl,by rw [List.length_append,Zv];omega⟩,R_eq ?_⟩⟩
   rw [Zn,hM]
  ·intro k hk ih
   have h1:=Qhx stages s w
   have h2:=QnV stages s micro redo w k
   have key:∀ l:List TIns,l=QbJ stages s w++QbE stages s micro redo w k++(if (k:Int)+w<micro then Yh stages s ((k:Int)+w) else [])→QiO (fun r'=>r'=JJ (Yn ds stages s micro redo)) ds stages s micro redo l (k:Int):=by
    intro l hl
    have h3:=QwT stages s k redo
    have h4:=QeE stages s ((k:Int)+w)
    have h5:l.length≤1000:=by rw [hl];split <;> simp only [List.length_append,List.length_nil] <;> omega
    refine (QGc (fun r'=>r'=JJ (Yn ds stages s micro redo)) ds stages s micro redo l _ ⟨⟨⟨by omega,by omega⟩,Qk4 (by omega)⟩,?_⟩).h
    rw [Qlz,sc1 (by omega)]
    rw [QGU] at ih
    rw [hl,List.append_assoc,List.append_assoc]
    unfold Qih at ih
    exact ih
   refine QqR (fun r'=>r'=JJ (Yn ds stages s micro redo)) ds stages s micro redo _ _ ⟨fun _=>?_,fun h=>by simp at h;omega⟩
   rw [hw,Qp (x:=(k:Int)+w) (by omega) (by omega)]
   have h4:=QeE stages s ((k:Int)+w)
   refine ⟨fun h=>⟨⟨⟨by omega,by omega⟩,Qk4 (by rw [List.length_append];omega)⟩,key _ ?_⟩,fun h=>key _ ?_⟩
   ·rw [Qlz,if_pos (of_decide_eq_true h)]
   ·rw [if_neg (of_decide_eq_false h),List.take_length,List.append_nil]
 ·intro k hk ih
  have h1:=Qhx stages s k
  have h4:=QeE stages s k
  refine QpS (fun r'=>r'=JJ (Yn ds stages s micro redo)) ds stages s micro redo _ _ ⟨fun _=>⟨⟨⟨by omega,by omega⟩,Qk4 (by omega)⟩,?_⟩,fun h=>by simp [hw] at h;omega⟩
  rw [Qlz,sc1 (by omega),← QMa]
  exact ih
theorem QJv:Qj Tryz.prog Qi9:=Qm fun x _=>QHx x.1 x.2.1 x.2.2.1 x.2.2.2.1 x.2.2.2.2.1
end
end Go.Proofs.YtjbdljkhbglnhaaGreat.Am

