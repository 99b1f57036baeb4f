/- -/
import Derived.Test.YtjbdljkhbglnhaaGreatZGPE
import Derived.Test.YtjbdljkhbglnhaaGreatZGP1
import Derived.Test.YtjbdljkhbglnhaaGreatZGG9
namespace Go.Proofs.YtjbdljkhbglnhaaGreat.Am
open Go Go.RowKit Go.Proofs.YtjbdljkhbglnhaaGreat
set_option linter.all false
noncomputable section
variable (K:TRes→Prop)
def Qc8 (t:(List TIns)):TRes:=⟨(.r QO 0 0 t.length),[(.sl 111 QO true t)],[],true,[]⟩
def Qkk:TRow:=Qi 149 [(.c TI),(.c TI),(.c TI)] fun x=>(some (p_st x.1 x.2.1 x.2.2.1),Qc8 (Z9 x.1 x.2.1 x.2.2.1))
def Qqn:List TRow:=[]
def QsQ:TCode :=
 (zsq [(.reg [zmv 16 7,zmv 17 2,zop 18 (.build (z0s QO) [(0,1,(zki 2)),(1,1,17)]),zop 19 (.bsl 111 QO [18]),zop 20 (.app 16 19 111 QO),zmv 7 20]),(zsq [(.reg [zmv 21 1,zmv 22 0,zbi 23 .sub 22 (zki 1),zbi 24 .lss 21 23]),(.cond 24 (.reg [zmv 25 7,zmv 26 2,zop 27 (.build (z0s QO) [(0,1,(zki 3)),(1,1,26)]),zop 28 (.bsl 111 QO [27]),zop 29 (.app 25 28 111 QO),zmv 7 29]) .skip)]),(.reg [zmv 30 7,zmv 6 30]),.ret])
def QJp:List (Nat × Md):=[(0,.one .d),(1,.one .d),(2,.one .d),(7,.one .f)]
def QHe:TCode:=.wk QJp QsQ
def QKl:TCode :=
 (zsq [(.reg [zmv 6 (.k (.n QO))]),(.reg [zop 8 (.bsl 111 QO []),zmv 7 8]),(zsq [(.reg [zmv 9 1,zbi 10 .gtr 9 (zki 0)]),(.cond 10 (.reg [zmv 11 7,zmv 12 2,zop 13 (.build (z0s QO) [(0,1,(zki 1)),(1,1,12)]),zop 14 (.bsl 111 QO [13]),zop 15 (.app 11 14 111 QO),zmv 7 15]) .skip)]),QHe])
def QsN:List (ARv × Md):=[(.t 6,.one (.o 111))]
def QPt:Qb:=TQ 0 0 QsN K
@[irreducible] def QhI (stages:Int) (s:Int) (m:Int) (l:List TIns):Prop:=tawp Qqn 0 QsQ (QPt K) ⟨[(0,(zci stages)),(1,(zci s)),(2,(zci m)),(7,(.r QO 0 0 l.length))],[(0,(.sl 111 QO true l))],1⟩
theorem QHc (stages:Int) (s:Int) (m:Int) (l:List TIns) (h :
 (((l.length=l.length∨l.length+1≤l.length)∧l.length+1≤big)∧(zif (decide (s<(w64 (stages-(1:Int))))) ((((l.length+1)=((List.take l.length l)++([((2:Int),m)])).length∨(l.length+1)+1≤((List.take l.length l)++([((2:Int),m)])).length)∧(l.length+1)+1≤big)∧K (Qc8 (List.take ((l.length+1)+1) ((List.take (l.length+1) ((List.take l.length l)++([((2:Int),m)])))++([((3:Int),m)]))))) (K (Qc8 (List.take (l.length+1) ((List.take l.length l)++([((2:Int),m)])))))))):Hold (QhI K stages s m l) :=
 Hold.of (by kernel_rfl) h
theorem QG9 (stages:Int) (s:Int) (m:Int) (h :
 (zif (decide (s>(0:Int))) (((0=0∨0+1≤0)∧0+1≤big)∧(QhI K stages s m (List.take (0+1) ([((1:Int),m)]:List TIns)))) (QhI K stages s m ([]:List TIns)))):Hold (tawp Qqn (0+0) QKl (TQ 0 0 QsN K) (Qf [(.c TI stages),(.c TI s),(.c TI m)])) :=
 Hold.of (by kernel_rfl) h
theorem QPk (stages:Int) (s:Int) (m:Int) (hp:p_st stages s m):TCon Tryz.prog 149 [(.c TI stages),(.c TI s),(.c TI m)] (Qc8 (Z9 stages s m)):=by
 refine Qr rfl fun hb=>tcg (n:=31) (sg:=Qkk.sg) Qk TOk.nil (by kernel_rfl) (by kernel_rfl) (QG9 _ stages s m ?_)
 obtain ⟨h1,h2⟩:=hp
 have hw:w64 (stages-1)=stages-1:=Qp (by omega) (by omega)
 have key:∀ l:List TIns,l.length≤1→l++[(2,m)]++(if s<stages-1 then [(3,m)] else [])=(Z9 stages s m)→QhI (fun r'=>r'=Qc8 (Z9 stages s m)) stages s m l:=by
  intro l hl he
  refine (QHc (fun r'=>r'=Qc8 (Z9 stages s m)) stages s m l ?_).h
  rw [hw,← he]
  simp only [Zx]
  refine ⟨⟨by simp,by rw [Zw];omega⟩,fun h=>⟨⟨.inl (by simp),by rw [Zw];omega⟩,R_eq ?_⟩,fun h=>R_eq ?_⟩
  ·simp at h;simp [h,List.take_of_length_le]
  ·simp at h;simp [Int.not_lt.2 h]
 refine ⟨fun h=>⟨⟨.inl rfl,by rw [Zw];omega⟩,key _ (by simp) ?_⟩,fun h=>key _ (by simp) ?_⟩
 ·simp at h;simp [Z9,h]
 ·simp at h;simp [Z9,Int.not_lt.2 h]
theorem QG8:Qj Tryz.prog Qkk:=Ql fun x h=>QPk x.1 x.2.1 x.2.2.1 h
def Qb2 (t:(List TIns)):TRes:=⟨(.r QO 0 0 t.length),[(.sl 111 QO true t)],[],true,[]⟩
def QkY:TRow:=Qi 150 [(.c TI),(.c TI),(.c TI),(.c .bool)] fun x=>(some (Qky x.1 x.2.1 x.2.2.1 x.2.2.2.1),Qb2 (Ys x.1 x.2.1 x.2.2.1 x.2.2.2.1))
def Qjb:List TRow:=[]
def Quq:TCode :=
 (zsq [(.reg [zmv 26 9,zmv 27 2,zop 28 (.build (z0s QO) [(0,1,(zki 6)),(1,1,27)]),zop 29 (.bsl 111 QO [28]),zop 30 (.app 26 29 111 QO),zmv 9 30]),(zsq [(.reg [zmv 31 1,zbi 32 .gtr 31 (zki 0)]),(.cond 32 (.reg [zmv 33 9,zmv 34 2,zop 35 (.build (z0s QO) [(0,1,(zki 7)),(1,1,34)]),zop 36 (.bsl 111 QO [35]),zop 37 (.app 33 36 111 QO),zmv 9 37]) .skip)]),(.reg [zmv 38 9,zmv 8 38]),.ret])
def QPd:List (Nat × Md):=[(1,.one .d),(2,.one .d),(9,.one .f)]
def QIz:TCode:=.wk QPd Quq
def QwE:TCode :=
 (zsq [(zsq [(.reg [zmv 20 3]),(.cond 20 (.reg [zmv 21 9,zmv 22 2,zop 23 (.build (z0s QO) [(0,1,(zki 5)),(1,1,22)]),zop 24 (.bsl 111 QO [23]),zop 25 (.app 21 24 111 QO),zmv 9 25]) .skip)]),QIz])
def QAM:List (Nat × Md):=[(1,.one .d),(2,.one .d),(3,.one .d),(9,.one .f)]
def QDX:TCode:=.wk QAM QwE
def QBl:TCode :=
 (zsq [(.reg [zmv 8 (.k (.n QO))]),(.reg [zop 10 (.bsl 111 QO []),zmv 9 10]),(zsq [(.reg [zmv 11 1,zmv 12 0,zbi 13 .sub 12 (zki 1),zbi 14 .lss 11 13]),(.cond 14 (.reg [zmv 15 9,zmv 16 2,zop 17 (.build (z0s QO) [(0,1,(zki 4)),(1,1,16)]),zop 18 (.bsl 111 QO [17]),zop 19 (.app 15 18 111 QO),zmv 9 19]) .skip)]),QDX])
def Qrw:List (ARv × Md):=[(.t 8,.one (.o 111))]
def Qyf:Qb:=TQ 0 0 Qrw K
@[irreducible] def Qhc (s:Int) (m:Int) (l1:List TIns):Prop:=tawp Qjb 0 Quq (Qyf K) ⟨[(1,(zci s)),(2,(zci m)),(9,(.r QO 0 0 l1.length))],[(0,(.sl 111 QO true l1))],1⟩
@[irreducible] def Qgk (s:Int) (m:Int) (redo:Bool) (l:List TIns):Prop:=tawp Qjb 0 QwE (Qyf K) ⟨[(1,(zci s)),(2,(zci m)),(3,(zcb redo)),(9,(.r QO 0 0 l.length))],[(0,(.sl 111 QO true l))],1⟩
theorem QFb (s:Int) (m:Int) (l1:List TIns) (h :
 (((l1.length=l1.length∨l1.length+1≤l1.length)∧l1.length+1≤big)∧(zif (decide (s>(0:Int))) ((((l1.length+1)=((List.take l1.length l1)++([((6:Int),m)])).length∨(l1.length+1)+1≤((List.take l1.length l1)++([((6:Int),m)])).length)∧(l1.length+1)+1≤big)∧K (Qb2 (List.take ((l1.length+1)+1) ((List.take (l1.length+1) ((List.take l1.length l1)++([((6:Int),m)])))++([((7:Int),m)]))))) (K (Qb2 (List.take (l1.length+1) ((List.take l1.length l1)++([((6:Int),m)])))))))):Hold (Qhc K s m l1) :=
 Hold.of (by kernel_rfl) h
theorem QLQ (s:Int) (m:Int) (redo:Bool) (l:List TIns) (h :
 (zif redo (((l.length=l.length∨l.length+1≤l.length)∧l.length+1≤big)∧(Qhc K s m (List.take (l.length+1) ((List.take l.length l)++([((5:Int),m)]))))) (Qhc K s m (List.take l.length l)))):Hold (Qgk K s m redo l) :=
 Hold.of (by kernel_rfl) h
theorem QBg (stages:Int) (s:Int) (m:Int) (redo:Bool) (h :
 (zif (decide (s<(w64 (stages-(1:Int))))) (((0=0∨0+1≤0)∧0+1≤big)∧(Qgk K s m redo (List.take (0+1) ([((4:Int),m)]:List TIns)))) (Qgk K s m redo ([]:List TIns)))):Hold (tawp Qjb (0+0) QBl (TQ 0 0 Qrw K) (Qf [(.c TI stages),(.c TI s),(.c TI m),(.c .bool redo)])) :=
 Hold.of (by kernel_rfl) h
theorem QA5 (stages:Int) (s:Int) (m:Int) (redo:Bool) (hp:Qky stages s m redo):TCon Tryz.prog 150 [(.c TI stages),(.c TI s),(.c TI m),(.c .bool redo)] (Qb2 (Ys stages s m redo)):=by
 refine Qr rfl fun hb=>tcg (n:=39) (sg:=QkY.sg) Qk TOk.nil (by kernel_rfl) (by kernel_rfl) (QBg _ stages s m redo ?_)
 obtain ⟨h1,h2⟩:=hp
 have hw:w64 (stages-1)=stages-1:=Qp (by omega) (by omega)
 have key2:∀ l:List TIns,l.length≤2→l++[(6,m)]++(if 0<s then [(7,m)] else [])=(Ys stages s m redo)→Qhc (fun r'=>r'=Qb2 (Ys stages s m redo)) s m l:=by
  intro l hl he
  refine (QFb (fun r'=>r'=Qb2 (Ys stages s m redo)) s m l ?_).h
  rw [← he]
  simp only [Zx]
  refine ⟨⟨by simp,by rw [Zw];omega⟩,fun h=>⟨⟨.inl (by simp),by rw [Zw];omega⟩,R_eq ?_⟩,fun h=>R_eq ?_⟩
  ·simp at h;simp [h,List.take_of_length_le]
  ·simp at h;simp [Int.not_lt.2 h]
 have key:∀ l:List TIns,l.length≤1→l++(if redo then [(5,m)] else [])++[(6,m)]++(if 0<s then [(7,m)] else [])=(Ys stages s m redo)→Qgk (fun r'=>r'=Qb2 (Ys stages s m redo)) s m redo l:=by
  intro l hl he
  refine (QLQ (fun r'=>r'=Qb2 (Ys stages s m redo)) s m redo l ⟨fun h=>⟨⟨.inl rfl,by rw [Zw];omega⟩,key2 _ (by simp;omega) ?_⟩,fun h=>key2 _ (by simp;omega) ?_⟩).h
  ·rw [← he,Zx,h];simp
  ·rw [← he,List.take_length,h];simp
 rw [hw]
 refine ⟨fun h=>⟨⟨.inl rfl,by rw [Zw];omega⟩,key _ (by simp) ?_⟩,fun h=>key _ (by simp) ?_⟩
 ·simp at h;simp [Ys,h]
 ·simp at h;simp [Ys,Int.not_lt.2 h]
theorem QOb:Qj Tryz.prog QkY:=Ql fun x h=>QA5 x.1 x.2.1 x.2.2.1 x.2.2.2.1 h
def JI (t:(List TIns)):TRes:=⟨(.r QO 0 0 t.length),[(.sl 111 QO true t)],[],true,[]⟩
def Ql0:TRow:=Qi 72 [(.c TI),(.c TI),(.c TI),(.c TI),(.c .bool)] fun x=>(none,JI (Ye x.1 x.2.1 x.2.2.1 x.2.2.2.1 x.2.2.2.2.1))
def Qbu:List TRow:=[QgD,Qk0,Qkk,QkY]
def Qsq:TCode :=
 (zsq [(zsq [(.reg [zmv 34 13,zmv 35 11,zbi 36 .lss 34 35]),(.cond 36 .skip (.exit 0))]),(.block 1 (.reg [zmv 39 12,zmv 40 1,zmv 41 2,zmv 42 13,zca 43 149 [40,41,42],zop 44 (.app 39 43 111 QO),zmv 12 44])),(.reg [zmv 37 13,zbi 38 .add 37 (zki 1),zmv 13 38])])
def QqK:List (Nat × Md):=[(1,.one .d),(2,.one .d),(3,.one .d),(4,.one .d),(11,.one .d),(12,.one .f),(13,.one .d)]
def Qva:TCode :=
 (.reg [zmv 63 12,zmv 64 1,zmv 65 2,zmv 66 14,zmv 67 4,zca 68 150 [64,65,66,67],zop 69 (.app 63 68 111 QO),zmv 12 69])
def QFh:List (Nat × Md):=[(1,.one .d),(2,.one .d),(3,.one .d),(4,.one .d),(11,.one .d),(12,.one .f),(14,.one .d)]
def QNu:TCode:=.wk QFh Qva
def QsK:TCode :=
 (.reg [zmv 48 14,zbi 49 .add 48 (zki 1),zmv 14 49])
def QnE:TCode :=
 (zsq [(zsq [(.reg [zmv 45 14,zmv 46 3,zbi 47 .lss 45 46]),(.cond 47 .skip (.exit 2))]),(.block 3 (zsq [(zsq [(.reg [zmv 50 14,zmv 51 11,zbi 52 .add 50 51,zmv 53 3,zbi 54 .lss 52 53]),(.cond 54 (.reg [zmv 55 12,zmv 56 1,zmv 57 2,zmv 58 14,zmv 59 11,zbi 60 .add 58 59,zca 61 149 [56,57,60],zop 62 (.app 55 61 111 QO),zmv 12 62]) .skip)]),QNu])),QsK])
def Qgl:List (Nat × Md):=[(1,.one .d),(2,.one .d),(3,.one .d),(4,.one .d),(11,.one .d),(12,.one .f),(14,.one .d)]
def QyO:TCode :=
 (zsq [(.reg [zmv 70 12,zop 71 (.build (z0s QO) [(0,1,(zki 8)),(1,1,(zki 0))]),zop 72 (.bsl 111 QO [71]),zop 73 (.app 70 72 111 QO),zmv 10 73]),.ret])
def Qvx:TCode :=
 (zsq [(zsq [(.reg [zmv 14 (zki 0)]),(.block 2 (.loop Qgl QnE))]),QyO])
def QBE:TCode :=
 (zsq [(.reg [zmv 10 (.k (.n QO))]),(zsq [(.reg [zmv 15 0,zbi 16 .neq 15 (zki 1),zmv 17 16,.grp 17 true [zmv 18 0,zbi 19 .neq 18 (zki 2)] 20 19,zmv 21 20,.grp 21 false [zmv 22 1,zmv 23 2,zmv 24 3,zca 25 147 [22,23,24],zno 26 25] 27 26]),(.cond 27 (zsq [(.reg [zmv 10 (.k (.n QO))]),.ret]) .skip)]),(.reg [zmv 28 0,zmv 29 1,zmv 30 2,zmv 31 3,zca 32 148 [28,29,30,31],zmv 11 32]),(.reg [zop 33 (.bsl 111 QO []),zmv 12 33]),(zsq [(.reg [zmv 13 (zki 0)]),(.block 0 (.loop QqK Qsq))]),Qvx])
def QxC:List (ARv × Md):=[(.t 10,.one (.o 111))]
def QfJ:Qb:=TQ 0 0 QxC K
def QE8:Qb:=Qseq (tawp Qbu 0 QyO (QfJ K)) (QfJ K)
def Qnr:Qb:=Qblk 2 (QE8 K)
def Qq9:Qb:=Qseq (fun s'=>Loop Qbu 0 Qgl QnE (Qnr K) (gc 0 Qgl s')) (Qnr K)
def QN5:Qb:=Qseq (tawp Qbu 0 QsK (Qq9 K)) (Qq9 K)
def QDw:Qb:=Qblk 3 (QN5 K)
@[irreducible] def Qgw (ds:Int) (stages:Int) (s:Int) (micro:Int) (redo:Bool) (l1:List TIns) (m1:Int):Prop:=tawp Qbu 0 Qva (QDw K) ⟨[(1,(zci stages)),(2,(zci s)),(3,(zci micro)),(4,(zcb redo)),(11,(zci (Y0 ds stages s micro))),(12,(.r QO 0 0 l1.length)),(14,(zci m1))],[(0,(.sl 111 QO true l1))],1⟩
def Qfo (ds:Int) (stages:Int) (s:Int) (micro:Int) (redo:Bool) (m1:Int) (l2:List TIns):Prop:=Loop Qbu 0 Qgl QnE (Qnr K) ⟨[(1,(zci stages)),(2,(zci s)),(3,(zci micro)),(4,(zcb redo)),(11,(zci (Y0 ds stages s micro))),(12,(.r QO 0 0 l2.length)),(14,(zci m1))],[(0,(.sl 111 QO true l2))],1⟩
def QCk:Qb:=Qseq (tawp Qbu 0 Qvx (QfJ K)) (QfJ K)
def QEC:Qb:=Qblk 0 (QCk K)
def Qh1 (ds:Int) (stages:Int) (s:Int) (micro:Int) (redo:Bool) (m:Int) (l:List TIns):Prop:=Loop Qbu 0 QqK Qsq (QEC K) ⟨[(1,(zci stages)),(2,(zci s)),(3,(zci micro)),(4,(zcb redo)),(11,(zci (Y0 ds stages s micro))),(12,(.r QO 0 0 l.length)),(13,(zci m))],[(0,(.sl 111 QO true l))],1⟩
theorem QOH (ds:Int) (stages:Int) (s:Int) (micro:Int) (redo:Bool) (l1:List TIns) (m1:Int) (h :
 (((Qky stages s m1 redo)∧((l1.length=l1.length∨l1.length+(List.take ((Ys stages s m1 redo).length) (List.drop 0 (Ys stages s m1 redo))).length≤l1.length)∧l1.length+(List.take ((Ys stages s m1 redo).length) (List.drop 0 (Ys stages s m1 redo))).length≤big))∧(Qfo K ds stages s micro redo (w64 (m1+(1:Int))) (List.take (l1.length+(List.take ((Ys stages s m1 redo).length) (List.drop 0 (Ys stages s m1 redo))).length) ((List.take l1.length l1)++(List.take ((Ys stages s m1 redo).length) (List.drop 0 (Ys stages s m1 redo)))))))):Hold (Qgw K ds stages s micro redo l1 m1) :=
 Hold.of (by kernel_rfl) h
theorem Qsf (ds:Int) (stages:Int) (s:Int) (micro:Int) (redo:Bool) (m1:Int) (l2:List TIns) (h :
 let z2:=w64 (m1+(Y0 ds stages s micro))
 let z1:=List.take ((Z9 stages s z2).length) (List.drop 0 (Z9 stages s z2))
 let z3:=List.take l2.length l2
 (zif (decide (m1<micro)) (zif (decide (z2<micro)) (((p_st stages s z2)∧((l2.length=l2.length∨l2.length+z1.length≤l2.length)∧l2.length+z1.length≤big))∧(Qgw K ds stages s micro redo (List.take (l2.length+z1.length) (z3++z1)) m1)) (Qgw K ds stages s micro redo z3 m1)) (((l2.length=l2.length∨l2.length+1≤l2.length)∧l2.length+1≤big)∧K (JI (List.take (l2.length+1) (z3++([((8:Int),(0:Int))]))))))):Qfo K ds stages s micro redo m1 l2 :=
 Loop.of (by kernel_rfl) h
theorem QrM (ds:Int) (stages:Int) (s:Int) (micro:Int) (redo:Bool) (m:Int) (l:List TIns) (h :
 (zif (decide (m<(Y0 ds stages s micro))) (((p_st stages s m)∧((l.length=l.length∨l.length+(List.take ((Z9 stages s m).length) (List.drop 0 (Z9 stages s m))).length≤l.length)∧l.length+(List.take ((Z9 stages s m).length) (List.drop 0 (Z9 stages s m))).length≤big))∧(Qh1 K ds stages s micro redo (w64 (m+(1:Int))) (List.take (l.length+(List.take ((Z9 stages s m).length) (List.drop 0 (Z9 stages s m))).length) ((List.take l.length l)++(List.take ((Z9 stages s m).length) (List.drop 0 (Z9 stages s m))))))) (Qfo K ds stages s micro redo 0 (List.take l.length l)))):Qh1 K ds stages s micro redo m l :=
 Loop.of (by kernel_rfl) h
theorem QKo (ds:Int) (stages:Int) (s:Int) (micro:Int) (redo:Bool) (h :
 (zif (((ds != (1:Int))&&(ds != (2:Int)))||(!(Yw stages s micro))) (K (JI ([]:List TIns))) (Qh1 K ds stages s micro redo 0 ([]:List TIns)))):Hold (tawp Qbu (0+0) QBE (TQ 0 0 QxC K) (Qf [(.c TI ds),(.c TI stages),(.c TI s),(.c TI micro),(.c .bool redo)])) :=
 Hold.of (by kernel_rfl) h
theorem QEL (ds:Int) (stages:Int) (s:Int) (micro:Int) (redo:Bool):TCon Tryz.prog 72 [(.c TI ds),(.c TI stages),(.c TI s),(.c TI micro),(.c .bool redo)] (JI (Ye ds stages s micro redo)):=by
 refine Qr rfl fun hb=>tcg (n:=74) (sg:=Ql0.sg) Qk (TOk.cons Qrg (TOk.cons QIb (TOk.cons QG8 (TOk.cons QOb TOk.nil)))) (by kernel_rfl) (by kernel_rfl) (QKo _ ds stages s micro redo ?_)
 rw [QEK]
 by_cases hp:(m_in ds 1 2&&Yw stages s micro)=true
 case neg =>
  rw [show (m_in ds 1 2&&Yw stages s micro)=false by simpa using hp]
  exact ⟨fun _=>R_eq (Qvu hp).symm,fun h=>by simp at h⟩
 rw [hp]
 refine ⟨fun h=>by simp at h,fun _=>?_⟩
 have hq:Yw stages s micro=true:=by simp only [Bool.and_eq_true] at hp;exact hp.2
 have hr:=Qlo.1 hq
 have hM:=QoF (redo:=redo) hp
 obtain ⟨w,hw⟩:∃ w:Nat,Y0 ds stages s micro=w:=⟨_,(Int.toNat_of_nonneg (Qmn hq).1).symm⟩
 have hw5:=(Qmn (ds:=ds) hq).2
 rw [hw] at hM hw5
 rw [Int.toNat_natCast] at hM
 refine QaQ w (fun k=>Qh1 (fun r'=>r'=JI (Ye ds stages s micro redo)) ds stages s micro redo (k:Int) (Qb1 stages s k)) ?_ ?_
 ·refine QrM (fun r'=>r'=JI (Ye ds stages s micro redo)) ds stages s micro redo _ _ ⟨fun h=>by simp [hw] at h,fun _=>?_⟩
  rw [List.take_length]
  suffices h:Qfo (fun r'=>r'=JI (Ye ds stages s micro redo)) ds stages s micro redo ((0:Nat):Int) (Qb1 stages s w++Qb3 stages s micro redo w 0) by
   rw [show Qb3 stages s micro redo w 0=[] from rfl,List.append_nil] at h;exact h
  refine QaQ micro.toNat (fun k=>Qfo (fun r'=>r'=JI (Ye ds stages s micro redo)) ds stages s micro redo (k:Int) (Qb1 stages s w++Qb3 stages s micro redo w k)) ?_ ?_
  ·have h1:=QfG stages s w
   have h2:=QjB stages s micro redo w micro.toNat
   refine Qsf (fun r'=>r'=JI (Ye ds stages s micro redo)) ds stages s micro redo _ _ ⟨fun h=>by simp at h;omega,fun _=>⟨⟨.inl rfl,by rw [List.length_append,Zw];omega⟩,R_eq ?_⟩⟩
   rw [Zx,hM]
  ·intro k hk ih
   have h1:=QfG stages s w
   have h2:=QjB stages s micro redo w k
   have key:∀ l:List TIns,l=Qb1 stages s w++Qb3 stages s micro redo w k++(if (k:Int)+w<micro then Z9 stages s ((k:Int)+w) else [])→Qgw (fun r'=>r'=JI (Ye ds stages s micro redo)) ds stages s micro redo l (k:Int):=by
    intro l hl
    have h3:=Qy6 stages s k redo
    have h4:=Qe4 stages s ((k:Int)+w)
    have h5:l.length≤1000:=by rw [hl];split <;> simp only [List.length_append,List.length_nil] <;> omega
    refine (QOH (fun r'=>r'=JI (Ye ds stages s micro redo)) ds stages s micro redo l _ ⟨⟨⟨by omega,by omega⟩,Qi1 (by omega)⟩,?_⟩).h
    rw [Qlb,sc1 (by omega)]
    rw [QPf] at ih
    rw [hl,List.append_assoc,List.append_assoc]
    unfold QhJ at ih
    exact ih
   refine Qsf (fun r'=>r'=JI (Ye ds stages s micro redo)) ds stages s micro redo _ _ ⟨fun _=>?_,fun h=>by simp at h;omega⟩
   rw [hw,Qp (x:=(k:Int)+w) (by omega) (by omega)]
   have h4:=Qe4 stages s ((k:Int)+w)
   refine ⟨fun h=>⟨⟨⟨by omega,by omega⟩,Qi1 (by rw [List.length_append];omega)⟩,key _ ?_⟩,fun h=>key _ ?_⟩
   ·rw [Qlb,if_pos (of_decide_eq_true h)]
   ·rw [if_neg (of_decide_eq_false h),List.take_length,List.append_nil]
 ·intro k hk ih
  have h1:=QfG stages s k
  have h4:=Qe4 stages s k
  refine QrM (fun r'=>r'=JI (Ye ds stages s micro redo)) ds stages s micro redo _ _ ⟨fun _=>⟨⟨⟨by omega,by omega⟩,Qi1 (by omega)⟩,?_⟩,fun h=>by simp [hw] at h;omega⟩
  rw [Qlb,sc1 (by omega),← QMb]
  exact ih
theorem QAn:Qj Tryz.prog Ql0:=Ql fun x _=>QEL x.1 x.2.1 x.2.2.1 x.2.2.2.1 x.2.2.2.2.1
end
end Go.Proofs.YtjbdljkhbglnhaaGreat.Am

