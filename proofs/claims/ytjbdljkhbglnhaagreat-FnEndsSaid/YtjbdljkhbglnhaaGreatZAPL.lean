/- -/
import Derived.Test.YtjbdljkhbglnhaaGreatZAPE
import Derived.Test.YtjbdljkhbglnhaaGreatZAP1
import Derived.Test.YtjbdljkhbglnhaaGreatZAG9
namespace Go.Proofs.YtjbdljkhbglnhaaGreat.Am
open Go Go.RowKit Go.Proofs.YtjbdljkhbglnhaaGreat
set_option linter.all false
noncomputable section
variable (K:TRes→Prop)
def Qdp (t:(List TIns)):TRes:=⟨(.r QP 0 0 t.length),[(.sl 111 QP true t)],[],true,[]⟩
def QlR:TRow:=Qj 149 [(.c TI),(.c TI),(.c TI)] fun x=>(some (p_st x.1 x.2.1 x.2.2.1),Qdp (Z9 x.1 x.2.1 x.2.2.1))
def QyV:List TRow:=[]
def Qy4:TCode :=
 (zsq [(.reg [zmv 16 7,zmv 17 2,zop 18 (.build (z0s QP) [(0,1,(zki 2)),(1,1,17)]),zop 19 (.bsl 111 QP [18]),zop 20 (.app 16 19 111 QP),zmv 7 20]),(zsq [(.reg [zmv 21 1,zmv 22 0,zbi 23 .sub 22 (zki 1),zbi 24 .lss 21 23]),(.cond 24 (.reg [zmv 25 7,zmv 26 2,zop 27 (.build (z0s QP) [(0,1,(zki 3)),(1,1,26)]),zop 28 (.bsl 111 QP [27]),zop 29 (.app 25 28 111 QP),zmv 7 29]) .skip)]),(.reg [zmv 30 7,zmv 6 30]),.ret])
def QA9:List (Nat × Md):=[(0,.one .d),(1,.one .d),(2,.one .d),(7,.one .f)]
def QJr:TCode:=.wk QA9 Qy4
def QM2:TCode :=
 (zsq [(.reg [zmv 6 (.k (.n QP))]),(.reg [zop 8 (.bsl 111 QP []),zmv 7 8]),(zsq [(.reg [zmv 9 1,zbi 10 .gtr 9 (zki 0)]),(.cond 10 (.reg [zmv 11 7,zmv 12 2,zop 13 (.build (z0s QP) [(0,1,(zki 1)),(1,1,12)]),zop 14 (.bsl 111 QP [13]),zop 15 (.app 11 14 111 QP),zmv 7 15]) .skip)]),QJr])
def QuT:List (ARv × Md):=[(.t 6,.one (.o 111))]
def QN4:Qb:=TQ 0 0 QuT K
def QgX (stages:Int) (s:Int) (m:Int) (l:List TIns):Prop:=tawp QyV 0 Qy4 (QN4 K) ⟨[(0,(zci stages)),(1,(zci s)),(2,(zci m)),(7,(.r QP 0 0 l.length))],[(0,(.sl 111 QP true l))],1⟩
theorem QH1 (stages:Int) (s:Int) (m:Int) (l:List TIns) (h :
 (((l.length=l.length∨l.length+1≤l.length)∧l.length+1≤big)∧(zif (decide (s<(w64 (stages-(1:Int))))) ((((l.length+1)=((List.take l.length l)++([((2:Int),m)])).length∨(l.length+1)+1≤((List.take l.length l)++([((2:Int),m)])).length)∧(l.length+1)+1≤big)∧K (Qdp (List.take ((l.length+1)+1) ((List.take (l.length+1) ((List.take l.length l)++([((2:Int),m)])))++([((3:Int),m)]))))) (K (Qdp (List.take (l.length+1) ((List.take l.length l)++([((2:Int),m)])))))))):Hold (QgX K stages s m l) :=
 Hold.of (by kernel_rfl) h
theorem QNe (stages:Int) (s:Int) (m:Int) (h :
 (zif (decide (s>(0:Int))) (((0=0∨0+1≤0)∧0+1≤big)∧(QgX K stages s m (List.take (0+1) ([((1:Int),m)]:List TIns)))) (QgX K stages s m ([]:List TIns)))):Hold (tawp QyV (0+0) QM2 (TQ 0 0 QuT K) (Qf [(.c TI stages),(.c TI s),(.c TI m)])) :=
 Hold.of (by kernel_rfl) h
theorem QI1 (stages:Int) (s:Int) (m:Int) (hp:p_st stages s m):TCon Tryz.prog 149 [(.c TI stages),(.c TI s),(.c TI m)] (Qdp (Z9 stages s m)):=by
 refine Qq rfl fun hb=>tcg (n:=31) (sg:=QlR.sg) Ql TOk.nil (by kernel_rfl) (by kernel_rfl) (QNe _ stages s m ?_)
 obtain ⟨h1,h2⟩:=hp
 have hw:w64 (stages-1)=stages-1:=Qp (by omega) (by omega)
 have key:∀ l:List TIns,l.length≤1→l++[(2,m)]++(if s<stages-1 then [(3,m)] else [])=(Z9 stages s m)→QgX (fun r'=>r'=Qdp (Z9 stages s m)) stages s m l:=by
  intro l hl he
  refine (QH1 (fun r'=>r'=Qdp (Z9 stages s m)) stages s m l ?_).h
  rw [hw,← he]
  simp only [Zv]
  refine ⟨⟨by simp,by rw [Zy];omega⟩,fun h=>⟨⟨.inl (by simp),by rw [Zy];omega⟩,R_eq ?_⟩,fun h=>R_eq ?_⟩
  ·simp at h;simp [h,List.take_of_length_le]
  ·simp at h;simp [Int.not_lt.2 h]
 refine ⟨fun h=>⟨⟨.inl rfl,by rw [Zy];omega⟩,key _ (by simp) ?_⟩,fun h=>key _ (by simp) ?_⟩
 ·simp at h;simp [Z9,h]
 ·simp at h;simp [Z9,Int.not_lt.2 h]
theorem QBJ:Qi Tryz.prog QlR:=Qm fun x h=>QI1 x.1 x.2.1 x.2.2.1 h
def QbH (t:(List TIns)):TRes:=⟨(.r QP 0 0 t.length),[(.sl 111 QP true t)],[],true,[]⟩
def QnC:TRow:=Qj 150 [(.c TI),(.c TI),(.c TI),(.c .bool)] fun x=>(some (QnI x.1 x.2.1 x.2.2.1 x.2.2.2.1),QbH (Yr x.1 x.2.1 x.2.2.1 x.2.2.2.1))
def QnY:List TRow:=[]
def QzM:TCode :=
 (zsq [(.reg [zmv 26 9,zmv 27 2,zop 28 (.build (z0s QP) [(0,1,(zki 6)),(1,1,27)]),zop 29 (.bsl 111 QP [28]),zop 30 (.app 26 29 111 QP),zmv 9 30]),(zsq [(.reg [zmv 31 1,zbi 32 .gtr 31 (zki 0)]),(.cond 32 (.reg [zmv 33 9,zmv 34 2,zop 35 (.build (z0s QP) [(0,1,(zki 7)),(1,1,34)]),zop 36 (.bsl 111 QP [35]),zop 37 (.app 33 36 111 QP),zmv 9 37]) .skip)]),(.reg [zmv 38 9,zmv 8 38]),.ret])
def QRa:List (Nat × Md):=[(1,.one .d),(2,.one .d),(9,.one .f)]
def QDR:TCode:=.wk QRa QzM
def Qu5:TCode :=
 (zsq [(zsq [(.reg [zmv 20 3]),(.cond 20 (.reg [zmv 21 9,zmv 22 2,zop 23 (.build (z0s QP) [(0,1,(zki 5)),(1,1,22)]),zop 24 (.bsl 111 QP [23]),zop 25 (.app 21 24 111 QP),zmv 9 25]) .skip)]),QDR])
def QAR:List (Nat × Md):=[(1,.one .d),(2,.one .d),(3,.one .d),(9,.one .f)]
def QKj:TCode:=.wk QAR Qu5
def QDP:TCode :=
 (zsq [(.reg [zmv 8 (.k (.n QP))]),(.reg [zop 10 (.bsl 111 QP []),zmv 9 10]),(zsq [(.reg [zmv 11 1,zmv 12 0,zbi 13 .sub 12 (zki 1),zbi 14 .lss 11 13]),(.cond 14 (.reg [zmv 15 9,zmv 16 2,zop 17 (.build (z0s QP) [(0,1,(zki 4)),(1,1,16)]),zop 18 (.bsl 111 QP [17]),zop 19 (.app 15 18 111 QP),zmv 9 19]) .skip)]),QKj])
def Qrp:List (ARv × Md):=[(.t 8,.one (.o 111))]
def Qva:Qb:=TQ 0 0 Qrp K
def QhT (s:Int) (m:Int) (l1:List TIns):Prop:=tawp QnY 0 QzM (Qva K) ⟨[(1,(zci s)),(2,(zci m)),(9,(.r QP 0 0 l1.length))],[(0,(.sl 111 QP true l1))],1⟩
def QfL (s:Int) (m:Int) (redo:Bool) (l:List TIns):Prop:=tawp QnY 0 Qu5 (Qva K) ⟨[(1,(zci s)),(2,(zci m)),(3,(zcb redo)),(9,(.r QP 0 0 l.length))],[(0,(.sl 111 QP true l))],1⟩
theorem QEo (s:Int) (m:Int) (l1:List TIns) (h :
 (((l1.length=l1.length∨l1.length+1≤l1.length)∧l1.length+1≤big)∧(zif (decide (s>(0:Int))) ((((l1.length+1)=((List.take l1.length l1)++([((6:Int),m)])).length∨(l1.length+1)+1≤((List.take l1.length l1)++([((6:Int),m)])).length)∧(l1.length+1)+1≤big)∧K (QbH (List.take ((l1.length+1)+1) ((List.take (l1.length+1) ((List.take l1.length l1)++([((6:Int),m)])))++([((7:Int),m)]))))) (K (QbH (List.take (l1.length+1) ((List.take l1.length l1)++([((6:Int),m)])))))))):Hold (QhT K s m l1) :=
 Hold.of (by kernel_rfl) h
theorem QDv (s:Int) (m:Int) (redo:Bool) (l:List TIns) (h :
 (zif redo (((l.length=l.length∨l.length+1≤l.length)∧l.length+1≤big)∧(QhT K s m (List.take (l.length+1) ((List.take l.length l)++([((5:Int),m)]))))) (QhT K s m (List.take l.length l)))):Hold (QfL K s m redo l) :=
 Hold.of (by kernel_rfl) h
theorem QEf (stages:Int) (s:Int) (m:Int) (redo:Bool) (h :
 (zif (decide (s<(w64 (stages-(1:Int))))) (((0=0∨0+1≤0)∧0+1≤big)∧(QfL K s m redo (List.take (0+1) ([((4:Int),m)]:List TIns)))) (QfL K s m redo ([]:List TIns)))):Hold (tawp QnY (0+0) QDP (TQ 0 0 Qrp K) (Qf [(.c TI stages),(.c TI s),(.c TI m),(.c .bool redo)])) :=
 Hold.of (by kernel_rfl) h
theorem QMM (stages:Int) (s:Int) (m:Int) (redo:Bool) (hp:QnI stages s m redo):TCon Tryz.prog 150 [(.c TI stages),(.c TI s),(.c TI m),(.c .bool redo)] (QbH (Yr stages s m redo)):=by
 refine Qq rfl fun hb=>tcg (n:=39) (sg:=QnC.sg) Ql TOk.nil (by kernel_rfl) (by kernel_rfl) (QEf _ stages s m redo ?_)
 obtain ⟨h1,h2⟩:=hp
 have hw:w64 (stages-1)=stages-1:=Qp (by omega) (by omega)
 have key2:∀ l:List TIns,l.length≤2→l++[(6,m)]++(if 0<s then [(7,m)] else [])=(Yr stages s m redo)→QhT (fun r'=>r'=QbH (Yr stages s m redo)) s m l:=by
  intro l hl he
  refine (QEo (fun r'=>r'=QbH (Yr stages s m redo)) s m l ?_).h
  rw [← he]
  simp only [Zv]
  refine ⟨⟨by simp,by rw [Zy];omega⟩,fun h=>⟨⟨.inl (by simp),by rw [Zy];omega⟩,R_eq ?_⟩,fun h=>R_eq ?_⟩
  ·simp at h;simp [h,List.take_of_length_le]
  ·simp at h;simp [Int.not_lt.2 h]
 have key:∀ l:List TIns,l.length≤1→l++(if redo then [(5,m)] else [])++[(6,m)]++(if 0<s then [(7,m)] else [])=(Yr stages s m redo)→QfL (fun r'=>r'=QbH (Yr stages s m redo)) s m redo l:=by
  intro l hl he
  refine (QDv (fun r'=>r'=QbH (Yr stages s m redo)) s m redo l ⟨fun h=>⟨⟨.inl rfl,by rw [Zy];omega⟩,key2 _ (by simp;omega) ?_⟩,fun h=>key2 _ (by simp;omega) ?_⟩).h
  ·rw [← he,Zv,h];simp
  ·rw [← he,List.take_length,h];simp
 rw [hw]
 refine ⟨fun h=>⟨⟨.inl rfl,by rw [Zy];omega⟩,key _ (by simp) ?_⟩,fun h=>key _ (by simp) ?_⟩
 ·simp at h;simp [Yr,h]
 ·simp at h;simp [Yr,Int.not_lt.2 h]
theorem QLa:Qi Tryz.prog QnC:=Qm fun x h=>QMM x.1 x.2.1 x.2.2.1 x.2.2.2.1 h
def JG (t:(List TIns)):TRes:=⟨(.r QP 0 0 t.length),[(.sl 111 QP true t)],[],true,[]⟩
def Qis:TRow:=Qj 72 [(.c TI),(.c TI),(.c TI),(.c TI),(.c .bool)] fun x=>(none,JG (ZW x.1 x.2.1 x.2.2.1 x.2.2.2.1 x.2.2.2.2.1))
def QbY:List TRow:=[QfU,Qk1,QlR,QnC]
def QvS:TCode :=
 (zsq [(zsq [(.reg [zmv 34 13,zmv 35 11,zbi 36 .lss 34 35]),(.cond 36 .skip (.exit 0))]),(.block 1 (.reg [zmv 39 12,zmv 40 1,zmv 41 2,zmv 42 13,zca 43 149 [40,41,42],zop 44 (.app 39 43 111 QP),zmv 12 44])),(.reg [zmv 37 13,zbi 38 .add 37 (zki 1),zmv 13 38])])
def Qqn:List (Nat × Md):=[(1,.one .d),(2,.one .d),(3,.one .d),(4,.one .d),(11,.one .d),(12,.one .f),(13,.one .d)]
def QqI:TCode :=
 (.reg [zmv 63 12,zmv 64 1,zmv 65 2,zmv 66 14,zmv 67 4,zca 68 150 [64,65,66,67],zop 69 (.app 63 68 111 QP),zmv 12 69])
def QFP:List (Nat × Md):=[(1,.one .d),(2,.one .d),(3,.one .d),(4,.one .d),(11,.one .d),(12,.one .f),(14,.one .d)]
def QCo:TCode:=.wk QFP QqI
def Qv8:TCode :=
 (.reg [zmv 48 14,zbi 49 .add 48 (zki 1),zmv 14 49])
def Qje:TCode :=
 (zsq [(zsq [(.reg [zmv 45 14,zmv 46 3,zbi 47 .lss 45 46]),(.cond 47 .skip (.exit 2))]),(.block 3 (zsq [(zsq [(.reg [zmv 50 14,zmv 51 11,zbi 52 .add 50 51,zmv 53 3,zbi 54 .lss 52 53]),(.cond 54 (.reg [zmv 55 12,zmv 56 1,zmv 57 2,zmv 58 14,zmv 59 11,zbi 60 .add 58 59,zca 61 149 [56,57,60],zop 62 (.app 55 61 111 QP),zmv 12 62]) .skip)]),QCo])),Qv8])
def QiW:List (Nat × Md):=[(1,.one .d),(2,.one .d),(3,.one .d),(4,.one .d),(11,.one .d),(12,.one .f),(14,.one .d)]
def Qqb:TCode :=
 (zsq [(.reg [zmv 70 12,zop 71 (.build (z0s QP) [(0,1,(zki 8)),(1,1,(zki 0))]),zop 72 (.bsl 111 QP [71]),zop 73 (.app 70 72 111 QP),zmv 10 73]),.ret])
def QrK:TCode :=
 (zsq [(zsq [(.reg [zmv 14 (zki 0)]),(.block 2 (.loop QiW Qje))]),Qqb])
def QIh:TCode :=
 (zsq [(.reg [zmv 10 (.k (.n QP))]),(zsq [(.reg [zmv 15 0,zbi 16 .neq 15 (zki 1),zmv 17 16,.grp 17 true [zmv 18 0,zbi 19 .neq 18 (zki 2)] 20 19,zmv 21 20,.grp 21 false [zmv 22 1,zmv 23 2,zmv 24 3,zca 25 147 [22,23,24],zno 26 25] 27 26]),(.cond 27 (zsq [(.reg [zmv 10 (.k (.n QP))]),.ret]) .skip)]),(.reg [zmv 28 0,zmv 29 1,zmv 30 2,zmv 31 3,zca 32 148 [28,29,30,31],zmv 11 32]),(.reg [zop 33 (.bsl 111 QP []),zmv 12 33]),(zsq [(.reg [zmv 13 (zki 0)]),(.block 0 (.loop Qqn QvS))]),QrK])
def Qvc:List (ARv × Md):=[(.t 10,.one (.o 111))]
def Qiu:Qb:=TQ 0 0 Qvc K
def QL1:Qb:=Qseq (tawp QbY 0 Qqb (Qiu K)) (Qiu K)
def QlU:Qb:=Qblk 2 (QL1 K)
def QxJ:Qb:=Qseq (fun s'=>Loop QbY 0 QiW Qje (QlU K) (gc 0 QiW s')) (QlU K)
def QCj:Qb:=Qseq (tawp QbY 0 Qv8 (QxJ K)) (QxJ K)
def QLs:Qb:=Qblk 3 (QCj K)
def QfF (ds:Int) (stages:Int) (s:Int) (micro:Int) (redo:Bool) (l1:List TIns) (m1:Int):Prop:=tawp QbY 0 QqI (QLs K) ⟨[(1,(zci stages)),(2,(zci s)),(3,(zci micro)),(4,(zcb redo)),(11,(zci (YW ds stages s micro))),(12,(.r QP 0 0 l1.length)),(14,(zci m1))],[(0,(.sl 111 QP true l1))],1⟩
def QeJ (ds:Int) (stages:Int) (s:Int) (micro:Int) (redo:Bool) (m1:Int) (l2:List TIns):Prop:=Loop QbY 0 QiW Qje (QlU K) ⟨[(1,(zci stages)),(2,(zci s)),(3,(zci micro)),(4,(zcb redo)),(11,(zci (YW ds stages s micro))),(12,(.r QP 0 0 l2.length)),(14,(zci m1))],[(0,(.sl 111 QP true l2))],1⟩
def QDy:Qb:=Qseq (tawp QbY 0 QrK (Qiu K)) (Qiu K)
def QM8:Qb:=Qblk 0 (QDy K)
def Qhv (ds:Int) (stages:Int) (s:Int) (micro:Int) (redo:Bool) (m:Int) (l:List TIns):Prop:=Loop QbY 0 Qqn QvS (QM8 K) ⟨[(1,(zci stages)),(2,(zci s)),(3,(zci micro)),(4,(zcb redo)),(11,(zci (YW ds stages s micro))),(12,(.r QP 0 0 l.length)),(13,(zci m))],[(0,(.sl 111 QP true l))],1⟩
theorem QDA (ds:Int) (stages:Int) (s:Int) (micro:Int) (redo:Bool) (l1:List TIns) (m1:Int) (h :
 (((QnI stages s m1 redo)∧((l1.length=l1.length∨l1.length+(List.take ((Yr stages s m1 redo).length) (List.drop 0 (Yr stages s m1 redo))).length≤l1.length)∧l1.length+(List.take ((Yr stages s m1 redo).length) (List.drop 0 (Yr stages s m1 redo))).length≤big))∧(QeJ K ds stages s micro redo (w64 (m1+(1:Int))) (List.take (l1.length+(List.take ((Yr stages s m1 redo).length) (List.drop 0 (Yr stages s m1 redo))).length) ((List.take l1.length l1)++(List.take ((Yr stages s m1 redo).length) (List.drop 0 (Yr stages s m1 redo)))))))):Hold (QfF K ds stages s micro redo l1 m1) :=
 Hold.of (by kernel_rfl) h
theorem Qsy (ds:Int) (stages:Int) (s:Int) (micro:Int) (redo:Bool) (m1:Int) (l2:List TIns) (h :
 let z2:=w64 (m1+(YW ds stages s micro))
 let z1:=List.take ((Z9 stages s z2).length) (List.drop 0 (Z9 stages s z2))
 let z3:=List.take l2.length l2
 (zif (decide (m1<micro)) (zif (decide (z2<micro)) (((p_st stages s z2)∧((l2.length=l2.length∨l2.length+z1.length≤l2.length)∧l2.length+z1.length≤big))∧(QfF K ds stages s micro redo (List.take (l2.length+z1.length) (z3++z1)) m1)) (QfF K ds stages s micro redo z3 m1)) (((l2.length=l2.length∨l2.length+1≤l2.length)∧l2.length+1≤big)∧K (JG (List.take (l2.length+1) (z3++([((8:Int),(0:Int))]))))))):QeJ K ds stages s micro redo m1 l2 :=
 Loop.of (by kernel_rfl) h
theorem Quu (ds:Int) (stages:Int) (s:Int) (micro:Int) (redo:Bool) (m:Int) (l:List TIns) (h :
 (zif (decide (m<(YW ds stages s micro))) (((p_st stages s m)∧((l.length=l.length∨l.length+(List.take ((Z9 stages s m).length) (List.drop 0 (Z9 stages s m))).length≤l.length)∧l.length+(List.take ((Z9 stages s m).length) (List.drop 0 (Z9 stages s m))).length≤big))∧(Qhv K ds stages s micro redo (w64 (m+(1:Int))) (List.take (l.length+(List.take ((Z9 stages s m).length) (List.drop 0 (Z9 stages s m))).length) ((List.take l.length l)++(List.take ((Z9 stages s m).length) (List.drop 0 (Z9 stages s m))))))) (QeJ K ds stages s micro redo 0 (List.take l.length l)))):Qhv K ds stages s micro redo m l :=
 Loop.of (by kernel_rfl) h
theorem QNW (ds:Int) (stages:Int) (s:Int) (micro:Int) (redo:Bool) (h :
 (zif (((ds != (1:Int))&&(ds != (2:Int)))||(!(Yt stages s micro))) (K (JG ([]:List TIns))) (Qhv K ds stages s micro redo 0 ([]:List TIns)))):Hold (tawp QbY (0+0) QIh (TQ 0 0 Qvc K) (Qf [(.c TI ds),(.c TI stages),(.c TI s),(.c TI micro),(.c .bool redo)])) :=
 Hold.of (by kernel_rfl) h
theorem QKW (ds:Int) (stages:Int) (s:Int) (micro:Int) (redo:Bool):TCon Tryz.prog 72 [(.c TI ds),(.c TI stages),(.c TI s),(.c TI micro),(.c .bool redo)] (JG (ZW ds stages s micro redo)):=by
 refine Qq rfl fun hb=>tcg (n:=74) (sg:=Qis.sg) Ql (TOk.cons Qro (TOk.cons QNr (TOk.cons QBJ (TOk.cons QLa TOk.nil)))) (by kernel_rfl) (by kernel_rfl) (QNW _ ds stages s micro redo ?_)
 rw [QFw]
 by_cases hp:(m_in ds 1 2&&Yt stages s micro)=true
 case neg =>
  rw [show (m_in ds 1 2&&Yt stages s micro)=false by simpa using hp]
  exact ⟨fun _=>R_eq (Qp0 hp).symm,fun h=>by simp at h⟩
 rw [hp]
 refine ⟨fun h=>by simp at h,fun _=>?_⟩
 have hq:Yt stages s micro=true:=by simp only [Bool.and_eq_true] at hp;exact hp.2
 have hr:=QmO.1 hq
 have hM:=Qqt (redo:=redo) hp
 obtain ⟨w,hw⟩:∃ w:Nat,YW ds stages s micro=w:=⟨_,(Int.toNat_of_nonneg (QnZ hq).1).symm⟩
 have hw5:=(QnZ (ds:=ds) hq).2
 rw [hw] at hM hw5
 rw [Int.toNat_natCast] at hM
 refine QaG w (fun k=>Qhv (fun r'=>r'=JG (ZW ds stages s micro redo)) ds stages s micro redo (k:Int) (QbT stages s k)) ?_ ?_
 ·refine Quu (fun r'=>r'=JG (ZW ds stages s micro redo)) ds stages s micro redo _ _ ⟨fun h=>by simp [hw] at h,fun _=>?_⟩
  rw [List.take_length]
  suffices h:QeJ (fun r'=>r'=JG (ZW ds stages s micro redo)) ds stages s micro redo ((0:Nat):Int) (QbT stages s w++QbR stages s micro redo w 0) by
   rw [show QbR stages s micro redo w 0=[] from rfl,List.append_nil] at h;exact h
  refine QaG micro.toNat (fun k=>QeJ (fun r'=>r'=JG (ZW ds stages s micro redo)) ds stages s micro redo (k:Int) (QbT stages s w++QbR stages s micro redo w k)) ?_ ?_
  ·have h1:=QgB stages s w
   have h2:=Qkv stages s micro redo w micro.toNat
   refine Qsy (fun r'=>r'=JG (ZW ds stages s micro redo)) ds stages s micro redo _ _ ⟨fun h=>by simp at h;omega,fun _=>⟨⟨.inl rfl,by rw [List.length_append,Zy];omega⟩,R_eq ?_⟩⟩
   rw [Zv,hM]
  ·intro k hk ih
   have h1:=QgB stages s w
   have h2:=Qkv stages s micro redo w k
   have key:∀ l:List TIns,l=QbT stages s w++QbR stages s micro redo w k++(if (k:Int)+w<micro then Z9 stages s ((k:Int)+w) else [])→QfF (fun r'=>r'=JG (ZW ds stages s micro redo)) ds stages s micro redo l (k:Int):=by
    intro l hl
    have h3:=QAk stages s k redo
    have h4:=Qeq stages s ((k:Int)+w)
    have h5:l.length≤1000:=by rw [hl];split <;> simp only [List.length_append,List.length_nil] <;> omega
    refine (QDA (fun r'=>r'=JG (ZW ds stages s micro redo)) ds stages s micro redo l _ ⟨⟨⟨by omega,by omega⟩,Qlo (by omega)⟩,?_⟩).h
    rw [Qnm,sc1 (by omega)]
    rw [QQ1] at ih
    rw [hl,List.append_assoc,List.append_assoc]
    unfold Qg4 at ih
    exact ih
   refine Qsy (fun r'=>r'=JG (ZW ds stages s micro redo)) ds stages s micro redo _ _ ⟨fun _=>?_,fun h=>by simp at h;omega⟩
   rw [hw,Qp (x:=(k:Int)+w) (by omega) (by omega)]
   have h4:=Qeq stages s ((k:Int)+w)
   refine ⟨fun h=>⟨⟨⟨by omega,by omega⟩,Qlo (by rw [List.length_append];omega)⟩,key _ ?_⟩,fun h=>key _ ?_⟩
   ·rw [Qnm,if_pos (of_decide_eq_true h)]
   ·rw [if_neg (of_decide_eq_false h),List.take_length,List.append_nil]
 ·intro k hk ih
  have h1:=QgB stages s k
  have h4:=Qeq stages s k
  refine Quu (fun r'=>r'=JG (ZW ds stages s micro redo)) ds stages s micro redo _ _ ⟨fun _=>⟨⟨⟨by omega,by omega⟩,Qlo (by omega)⟩,?_⟩,fun h=>by simp [hw] at h;omega⟩
  rw [Qnm,sc1 (by omega),← QG3]
  exact ih
theorem Qor:Qi Tryz.prog Qis:=Qm fun x _=>QKW x.1 x.2.1 x.2.2.1 x.2.2.2.1 x.2.2.2.2.1
end
end Go.Proofs.YtjbdljkhbglnhaaGreat.Am

