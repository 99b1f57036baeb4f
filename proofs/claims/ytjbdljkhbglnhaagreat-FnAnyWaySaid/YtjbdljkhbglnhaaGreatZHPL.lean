/- -/
import Derived.Test.YtjbdljkhbglnhaaGreatZHPE
import Derived.Test.YtjbdljkhbglnhaaGreatZHP1
import Derived.Test.YtjbdljkhbglnhaaGreatZHG9
namespace Go.Proofs.YtjbdljkhbglnhaaGreat.Am
open Go Go.RowKit Go.Proofs.YtjbdljkhbglnhaaGreat
set_option linter.all false
noncomputable section
variable (K:TRes→Prop)
def QdH (t:(List TIns)):TRes:=⟨(.r QP 0 0 t.length),[(.sl 111 QP true t)],[],true,[]⟩
def Qmq:TRow:=Qg 149 [(.c TI),(.c TI),(.c TI)] fun x=>(some (p_st x.1 x.2.1 x.2.2.1),QdH (Yd x.1 x.2.1 x.2.2.1))
def QqW:List TRow:=[]
def QqC:TCode :=
 (zsq [(.reg [zmv 16 7,zmv 17 2,zop 18 (.build (z0s QP) [(0,1,(zki 2)),(1,1,17)]),zop 19 (.bsl 111 QP [18]),zop 20 (.app 16 19 111 QP),zmv 7 20]),(zsq [(.reg [zmv 21 1,zmv 22 0,zbi 23 .sub 22 (zki 1),zbi 24 .lss 21 23]),(.cond 24 (.reg [zmv 25 7,zmv 26 2,zop 27 (.build (z0s QP) [(0,1,(zki 3)),(1,1,26)]),zop 28 (.bsl 111 QP [27]),zop 29 (.app 25 28 111 QP),zmv 7 29]) .skip)]),(.reg [zmv 30 7,zmv 6 30]),.ret])
def QNW:List (Nat × Md):=[(0,.one .d),(1,.one .d),(2,.one .d),(7,.one .f)]
def QN6:TCode:=.wk QNW QqC
def QPP:TCode :=
 (zsq [(.reg [zmv 6 (.k (.n QP))]),(.reg [zop 8 (.bsl 111 QP []),zmv 7 8]),(zsq [(.reg [zmv 9 1,zbi 10 .gtr 9 (zki 0)]),(.cond 10 (.reg [zmv 11 7,zmv 12 2,zop 13 (.build (z0s QP) [(0,1,(zki 1)),(1,1,12)]),zop 14 (.bsl 111 QP [13]),zop 15 (.app 11 14 111 QP),zmv 7 15]) .skip)]),QN6])
def QoW:List (ARv × Md):=[(.t 6,.one (.o 111))]
def QI6:Qb:=TQ 0 0 QoW K
@[irreducible] def Qgm (stages:Int) (s:Int) (m:Int) (l:List TIns):Prop:=tawp QqW 0 QqC (QI6 K) ⟨[(0,(zci stages)),(1,(zci s)),(2,(zci m)),(7,(.r QP 0 0 l.length))],[(0,(.sl 111 QP true l))],1⟩
theorem QMf (stages:Int) (s:Int) (m:Int) (l:List TIns) (h :
 (((l.length=l.length∨l.length+1≤l.length)∧l.length+1≤big)∧(zif (decide (s<(w64 (stages-(1:Int))))) ((((l.length+1)=((List.take l.length l)++([((2:Int),m)])).length∨(l.length+1)+1≤((List.take l.length l)++([((2:Int),m)])).length)∧(l.length+1)+1≤big)∧K (QdH (List.take ((l.length+1)+1) ((List.take (l.length+1) ((List.take l.length l)++([((2:Int),m)])))++([((3:Int),m)]))))) (K (QdH (List.take (l.length+1) ((List.take l.length l)++([((2:Int),m)])))))))):Hold (Qgm K stages s m l) :=
 Hold.of (by kernel_rfl) h
theorem QKR (stages:Int) (s:Int) (m:Int) (h :
 (zif (decide (s>(0:Int))) (((0=0∨0+1≤0)∧0+1≤big)∧(Qgm K stages s m (List.take (0+1) ([((1:Int),m)]:List TIns)))) (Qgm K stages s m ([]:List TIns)))):Hold (tawp QqW (0+0) QPP (TQ 0 0 QoW K) (Qf [(.c TI stages),(.c TI s),(.c TI m)])) :=
 Hold.of (by kernel_rfl) h
theorem QHc (stages:Int) (s:Int) (m:Int) (hp:p_st stages s m):TCon Tryz.prog 149 [(.c TI stages),(.c TI s),(.c TI m)] (QdH (Yd stages s m)):=by
 refine Qq rfl fun hb=>tcg (n:=31) (sg:=Qmq.sg) Qj TOk.nil (by kernel_rfl) (by kernel_rfl) (QKR _ stages s m ?_)
 obtain ⟨h1,h2⟩:=hp
 have hw:w64 (stages-1)=stages-1:=Qo (by omega) (by omega)
 have key:∀ l:List TIns,l.length≤1→l++[(2,m)]++(if s<stages-1 then [(3,m)] else [])=(Yd stages s m)→Qgm (fun r'=>r'=QdH (Yd stages s m)) stages s m l:=by
  intro l hl he
  refine (QMf (fun r'=>r'=QdH (Yd stages s m)) stages s m l ?_).h
  rw [hw,← he]
  simp only [Zq]
  refine ⟨⟨by simp,by rw [Zi];omega⟩,fun h=>⟨⟨.inl (by simp),by rw [Zi];omega⟩,R_eq ?_⟩,fun h=>R_eq ?_⟩
  ·simp at h;simp [h,List.take_of_length_le]
  ·simp at h;simp [Int.not_lt.2 h]
 refine ⟨fun h=>⟨⟨.inl rfl,by rw [Zi];omega⟩,key _ (by simp) ?_⟩,fun h=>key _ (by simp) ?_⟩
 ·simp at h;simp [Yd,h]
 ·simp at h;simp [Yd,Int.not_lt.2 h]
theorem QQR:Qh Tryz.prog Qmq:=Qk fun x h=>QHc x.1 x.2.1 x.2.2.1 h
def QbE (t:(List TIns)):TRes:=⟨(.r QP 0 0 t.length),[(.sl 111 QP true t)],[],true,[]⟩
def Qj0:TRow:=Qg 150 [(.c TI),(.c TI),(.c TI),(.c .bool)] fun x=>(some (Qka x.1 x.2.1 x.2.2.1 x.2.2.2.1),QbE (Yt x.1 x.2.1 x.2.2.1 x.2.2.2.1))
def Qn6:List TRow:=[]
def QyH:TCode :=
 (zsq [(.reg [zmv 26 9,zmv 27 2,zop 28 (.build (z0s QP) [(0,1,(zki 6)),(1,1,27)]),zop 29 (.bsl 111 QP [28]),zop 30 (.app 26 29 111 QP),zmv 9 30]),(zsq [(.reg [zmv 31 1,zbi 32 .gtr 31 (zki 0)]),(.cond 32 (.reg [zmv 33 9,zmv 34 2,zop 35 (.build (z0s QP) [(0,1,(zki 7)),(1,1,34)]),zop 36 (.bsl 111 QP [35]),zop 37 (.app 33 36 111 QP),zmv 9 37]) .skip)]),(.reg [zmv 38 9,zmv 8 38]),.ret])
def QKb:List (Nat × Md):=[(1,.one .d),(2,.one .d),(9,.one .f)]
def QCG:TCode:=.wk QKb QyH
def Qxw:TCode :=
 (zsq [(zsq [(.reg [zmv 20 3]),(.cond 20 (.reg [zmv 21 9,zmv 22 2,zop 23 (.build (z0s QP) [(0,1,(zki 5)),(1,1,22)]),zop 24 (.bsl 111 QP [23]),zop 25 (.app 21 24 111 QP),zmv 9 25]) .skip)]),QCG])
def QP8:List (Nat × Md):=[(1,.one .d),(2,.one .d),(3,.one .d),(9,.one .f)]
def QCa:TCode:=.wk QP8 Qxw
def QBR:TCode :=
 (zsq [(.reg [zmv 8 (.k (.n QP))]),(.reg [zop 10 (.bsl 111 QP []),zmv 9 10]),(zsq [(.reg [zmv 11 1,zmv 12 0,zbi 13 .sub 12 (zki 1),zbi 14 .lss 11 13]),(.cond 14 (.reg [zmv 15 9,zmv 16 2,zop 17 (.build (z0s QP) [(0,1,(zki 4)),(1,1,16)]),zop 18 (.bsl 111 QP [17]),zop 19 (.app 15 18 111 QP),zmv 9 19]) .skip)]),QCa])
def Qw4:List (ARv × Md):=[(.t 8,.one (.o 111))]
def Qvb:Qb:=TQ 0 0 Qw4 K
@[irreducible] def QhV (s:Int) (m:Int) (l1:List TIns):Prop:=tawp Qn6 0 QyH (Qvb K) ⟨[(1,(zci s)),(2,(zci m)),(9,(.r QP 0 0 l1.length))],[(0,(.sl 111 QP true l1))],1⟩
@[irreducible] def Qf1 (s:Int) (m:Int) (redo:Bool) (l:List TIns):Prop:=tawp Qn6 0 Qxw (Qvb K) ⟨[(1,(zci s)),(2,(zci m)),(3,(zcb redo)),(9,(.r QP 0 0 l.length))],[(0,(.sl 111 QP true l))],1⟩
theorem QHf (s:Int) (m:Int) (l1:List TIns) (h :
 (((l1.length=l1.length∨l1.length+1≤l1.length)∧l1.length+1≤big)∧(zif (decide (s>(0:Int))) ((((l1.length+1)=((List.take l1.length l1)++([((6:Int),m)])).length∨(l1.length+1)+1≤((List.take l1.length l1)++([((6:Int),m)])).length)∧(l1.length+1)+1≤big)∧K (QbE (List.take ((l1.length+1)+1) ((List.take (l1.length+1) ((List.take l1.length l1)++([((6:Int),m)])))++([((7:Int),m)]))))) (K (QbE (List.take (l1.length+1) ((List.take l1.length l1)++([((6:Int),m)])))))))):Hold (QhV K s m l1) :=
 Hold.of (by kernel_rfl) h
theorem QQl (s:Int) (m:Int) (redo:Bool) (l:List TIns) (h :
 (zif redo (((l.length=l.length∨l.length+1≤l.length)∧l.length+1≤big)∧(QhV K s m (List.take (l.length+1) ((List.take l.length l)++([((5:Int),m)]))))) (QhV K s m (List.take l.length l)))):Hold (Qf1 K s m redo l) :=
 Hold.of (by kernel_rfl) h
theorem QJN (stages:Int) (s:Int) (m:Int) (redo:Bool) (h :
 (zif (decide (s<(w64 (stages-(1:Int))))) (((0=0∨0+1≤0)∧0+1≤big)∧(Qf1 K s m redo (List.take (0+1) ([((4:Int),m)]:List TIns)))) (Qf1 K s m redo ([]:List TIns)))):Hold (tawp Qn6 (0+0) QBR (TQ 0 0 Qw4 K) (Qf [(.c TI stages),(.c TI s),(.c TI m),(.c .bool redo)])) :=
 Hold.of (by kernel_rfl) h
theorem QFb (stages:Int) (s:Int) (m:Int) (redo:Bool) (hp:Qka stages s m redo):TCon Tryz.prog 150 [(.c TI stages),(.c TI s),(.c TI m),(.c .bool redo)] (QbE (Yt stages s m redo)):=by
 refine Qq rfl fun hb=>tcg (n:=39) (sg:=Qj0.sg) Qj TOk.nil (by kernel_rfl) (by kernel_rfl) (QJN _ stages s m redo ?_)
 obtain ⟨h1,h2⟩:=hp
 have hw:w64 (stages-1)=stages-1:=Qo (by omega) (by omega)
 have key2:∀ l:List TIns,l.length≤2→l++[(6,m)]++(if 0<s then [(7,m)] else [])=(Yt stages s m redo)→QhV (fun r'=>r'=QbE (Yt stages s m redo)) s m l:=by
  intro l hl he
  refine (QHf (fun r'=>r'=QbE (Yt stages s m redo)) s m l ?_).h
  rw [← he]
  simp only [Zq]
  refine ⟨⟨by simp,by rw [Zi];omega⟩,fun h=>⟨⟨.inl (by simp),by rw [Zi];omega⟩,R_eq ?_⟩,fun h=>R_eq ?_⟩
  ·simp at h;simp [h,List.take_of_length_le]
  ·simp at h;simp [Int.not_lt.2 h]
 have key:∀ l:List TIns,l.length≤1→l++(if redo then [(5,m)] else [])++[(6,m)]++(if 0<s then [(7,m)] else [])=(Yt stages s m redo)→Qf1 (fun r'=>r'=QbE (Yt stages s m redo)) s m redo l:=by
  intro l hl he
  refine (QQl (fun r'=>r'=QbE (Yt stages s m redo)) s m redo l ⟨fun h=>⟨⟨.inl rfl,by rw [Zi];omega⟩,key2 _ (by simp;omega) ?_⟩,fun h=>key2 _ (by simp;omega) ?_⟩).h
  ·rw [← he,Zq,h];simp
  ·rw [← he,List.take_length,h];simp
 rw [hw]
 refine ⟨fun h=>⟨⟨.inl rfl,by rw [Zi];omega⟩,key _ (by simp) ?_⟩,fun h=>key _ (by simp) ?_⟩
 ·simp at h;simp [Yt,h]
 ·simp at h;simp [Yt,Int.not_lt.2 h]
theorem QJt:Qh Tryz.prog Qj0:=Qk fun x h=>QFb x.1 x.2.1 x.2.2.1 x.2.2.2.1 h
def JC (t:(List TIns)):TRes:=⟨(.r QP 0 0 t.length),[(.sl 111 QP true t)],[],true,[]⟩
def Qj9:TRow:=Qg 72 [(.c TI),(.c TI),(.c TI),(.c TI),(.c .bool)] fun x=>(none,JC (Z7 x.1 x.2.1 x.2.2.1 x.2.2.2.1 x.2.2.2.2.1))
def QbU:List TRow:=[Qg4,Qmv,Qmq,Qj0]
def Qs0:TCode :=
 (zsq [(zsq [(.reg [zmv 34 13,zmv 35 11,zbi 36 .lss 34 35]),(.cond 36 .skip (.exit 0))]),(.block 1 (.reg [zmv 39 12,zmv 40 1,zmv 41 2,zmv 42 13,zca 43 149 [40,41,42],zop 44 (.app 39 43 111 QP),zmv 12 44])),(.reg [zmv 37 13,zbi 38 .add 37 (zki 1),zmv 13 38])])
def Qt5:List (Nat × Md):=[(1,.one .d),(2,.one .d),(3,.one .d),(4,.one .d),(11,.one .d),(12,.one .f),(13,.one .d)]
def Qv5:TCode :=
 (.reg [zmv 63 12,zmv 64 1,zmv 65 2,zmv 66 14,zmv 67 4,zca 68 150 [64,65,66,67],zop 69 (.app 63 68 111 QP),zmv 12 69])
def QBB:List (Nat × Md):=[(1,.one .d),(2,.one .d),(3,.one .d),(4,.one .d),(11,.one .d),(12,.one .f),(14,.one .d)]
def QJv:TCode:=.wk QBB Qv5
def QvY:TCode :=
 (.reg [zmv 48 14,zbi 49 .add 48 (zki 1),zmv 14 49])
def QkO:TCode :=
 (zsq [(zsq [(.reg [zmv 45 14,zmv 46 3,zbi 47 .lss 45 46]),(.cond 47 .skip (.exit 2))]),(.block 3 (zsq [(zsq [(.reg [zmv 50 14,zmv 51 11,zbi 52 .add 50 51,zmv 53 3,zbi 54 .lss 52 53]),(.cond 54 (.reg [zmv 55 12,zmv 56 1,zmv 57 2,zmv 58 14,zmv 59 11,zbi 60 .add 58 59,zca 61 149 [56,57,60],zop 62 (.app 55 61 111 QP),zmv 12 62]) .skip)]),QJv])),QvY])
def QhG:List (Nat × Md):=[(1,.one .d),(2,.one .d),(3,.one .d),(4,.one .d),(11,.one .d),(12,.one .f),(14,.one .d)]
def Qvg:TCode :=
 (zsq [(.reg [zmv 70 12,zop 71 (.build (z0s QP) [(0,1,(zki 8)),(1,1,(zki 0))]),zop 72 (.bsl 111 QP [71]),zop 73 (.app 70 72 111 QP),zmv 10 73]),.ret])
def Qv9:TCode :=
 (zsq [(zsq [(.reg [zmv 14 (zki 0)]),(.block 2 (.loop QhG QkO))]),Qvg])
def QM9:TCode :=
 (zsq [(.reg [zmv 10 (.k (.n QP))]),(zsq [(.reg [zmv 15 0,zbi 16 .neq 15 (zki 1),zmv 17 16,.grp 17 true [zmv 18 0,zbi 19 .neq 18 (zki 2)] 20 19,zmv 21 20,.grp 21 false [zmv 22 1,zmv 23 2,zmv 24 3,zca 25 147 [22,23,24],zno 26 25] 27 26]),(.cond 27 (zsq [(.reg [zmv 10 (.k (.n QP))]),.ret]) .skip)]),(.reg [zmv 28 0,zmv 29 1,zmv 30 2,zmv 31 3,zca 32 148 [28,29,30,31],zmv 11 32]),(.reg [zop 33 (.bsl 111 QP []),zmv 12 33]),(zsq [(.reg [zmv 13 (zki 0)]),(.block 0 (.loop Qt5 Qs0))]),Qv9])
def QxZ:List (ARv × Md):=[(.t 10,.one (.o 111))]
def QgE:Qb:=TQ 0 0 QxZ K
def QLH:Qb:=Qseq (tawp QbU 0 Qvg (QgE K)) (QgE K)
def Qko:Qb:=Qblk 2 (QLH K)
def Qqt:Qb:=Qseq (fun s'=>Loop QbU 0 QhG QkO (Qko K) (gc 0 QhG s')) (Qko K)
def QKO:Qb:=Qseq (tawp QbU 0 QvY (Qqt K)) (Qqt K)
def QOj:Qb:=Qblk 3 (QKO K)
@[irreducible] def QgX (ds:Int) (stages:Int) (s:Int) (micro:Int) (redo:Bool) (l1:List TIns) (m1:Int):Prop:=tawp QbU 0 Qv5 (QOj K) ⟨[(1,(zci stages)),(2,(zci s)),(3,(zci micro)),(4,(zcb redo)),(11,(zci (YZ ds stages s micro))),(12,(.r QP 0 0 l1.length)),(14,(zci m1))],[(0,(.sl 111 QP true l1))],1⟩
def QeK (ds:Int) (stages:Int) (s:Int) (micro:Int) (redo:Bool) (m1:Int) (l2:List TIns):Prop:=Loop QbU 0 QhG QkO (Qko K) ⟨[(1,(zci stages)),(2,(zci s)),(3,(zci micro)),(4,(zcb redo)),(11,(zci (YZ ds stages s micro))),(12,(.r QP 0 0 l2.length)),(14,(zci m1))],[(0,(.sl 111 QP true l2))],1⟩
def QDt:Qb:=Qseq (tawp QbU 0 Qv9 (QgE K)) (QgE K)
def QEQ:Qb:=Qblk 0 (QDt K)
def QhO (ds:Int) (stages:Int) (s:Int) (micro:Int) (redo:Bool) (m:Int) (l:List TIns):Prop:=Loop QbU 0 Qt5 Qs0 (QEQ K) ⟨[(1,(zci stages)),(2,(zci s)),(3,(zci micro)),(4,(zcb redo)),(11,(zci (YZ ds stages s micro))),(12,(.r QP 0 0 l.length)),(13,(zci m))],[(0,(.sl 111 QP true l))],1⟩
theorem QQS (ds:Int) (stages:Int) (s:Int) (micro:Int) (redo:Bool) (l1:List TIns) (m1:Int) (h :
 (((Qka stages s m1 redo)∧((l1.length=l1.length∨l1.length+(List.take ((Yt stages s m1 redo).length) (List.drop 0 (Yt stages s m1 redo))).length≤l1.length)∧l1.length+(List.take ((Yt stages s m1 redo).length) (List.drop 0 (Yt stages s m1 redo))).length≤big))∧(QeK K ds stages s micro redo (w64 (m1+(1:Int))) (List.take (l1.length+(List.take ((Yt stages s m1 redo).length) (List.drop 0 (Yt stages s m1 redo))).length) ((List.take l1.length l1)++(List.take ((Yt stages s m1 redo).length) (List.drop 0 (Yt stages s m1 redo)))))))):Hold (QgX K ds stages s micro redo l1 m1) :=
 Hold.of (by kernel_rfl) h
theorem Qtk (ds:Int) (stages:Int) (s:Int) (micro:Int) (redo:Bool) (m1:Int) (l2:List TIns) (h :
 let z2:=w64 (m1+(YZ ds stages s micro))
 let z1:=List.take ((Yd stages s z2).length) (List.drop 0 (Yd stages s z2))
 let z3:=List.take l2.length l2
 (zif (decide (m1<micro)) (zif (decide (z2<micro)) (((p_st stages s z2)∧((l2.length=l2.length∨l2.length+z1.length≤l2.length)∧l2.length+z1.length≤big))∧(QgX K ds stages s micro redo (List.take (l2.length+z1.length) (z3++z1)) m1)) (QgX K ds stages s micro redo z3 m1)) (((l2.length=l2.length∨l2.length+1≤l2.length)∧l2.length+1≤big)∧K (JC (List.take (l2.length+1) (z3++([((8:Int),(0:Int))]))))))):QeK K ds stages s micro redo m1 l2 :=
 Loop.of (by kernel_rfl) h
theorem Qr4 (ds:Int) (stages:Int) (s:Int) (micro:Int) (redo:Bool) (m:Int) (l:List TIns) (h :
 (zif (decide (m<(YZ ds stages s micro))) (((p_st stages s m)∧((l.length=l.length∨l.length+(List.take ((Yd stages s m).length) (List.drop 0 (Yd stages s m))).length≤l.length)∧l.length+(List.take ((Yd stages s m).length) (List.drop 0 (Yd stages s m))).length≤big))∧(QhO K ds stages s micro redo (w64 (m+(1:Int))) (List.take (l.length+(List.take ((Yd stages s m).length) (List.drop 0 (Yd stages s m))).length) ((List.take l.length l)++(List.take ((Yd stages s m).length) (List.drop 0 (Yd stages s m))))))) (QeK K ds stages s micro redo 0 (List.take l.length l)))):QhO K ds stages s micro redo m l :=
 Loop.of (by kernel_rfl) h
theorem QDf (ds:Int) (stages:Int) (s:Int) (micro:Int) (redo:Bool) (h :
 (zif (((ds != (1:Int))&&(ds != (2:Int)))||(!(Yv stages s micro))) (K (JC ([]:List TIns))) (QhO K ds stages s micro redo 0 ([]:List TIns)))):Hold (tawp QbU (0+0) QM9 (TQ 0 0 QxZ K) (Qf [(.c TI ds),(.c TI stages),(.c TI s),(.c TI micro),(.c .bool redo)])) :=
 Hold.of (by kernel_rfl) h
theorem QEa (ds:Int) (stages:Int) (s:Int) (micro:Int) (redo:Bool):TCon Tryz.prog 72 [(.c TI ds),(.c TI stages),(.c TI s),(.c TI micro),(.c .bool redo)] (JC (Z7 ds stages s micro redo)):=by
 refine Qq rfl fun hb=>tcg (n:=74) (sg:=Qj9.sg) Qj (TOk.cons Qwc (TOk.cons QKX (TOk.cons QQR (TOk.cons QJt TOk.nil)))) (by kernel_rfl) (by kernel_rfl) (QDf _ ds stages s micro redo ?_)
 rw [QPd]
 by_cases hp:(m_in ds 1 2&&Yv stages s micro)=true
 case neg =>
  rw [show (m_in ds 1 2&&Yv stages s micro)=false by simpa using hp]
  exact ⟨fun _=>R_eq (Qye hp).symm,fun h=>by simp at h⟩
 rw [hp]
 refine ⟨fun h=>by simp at h,fun _=>?_⟩
 have hq:Yv stages s micro=true:=by simp only [Bool.and_eq_true] at hp;exact hp.2
 have hr:=QkN.1 hq
 have hM:=Qvn (redo:=redo) hp
 obtain ⟨w,hw⟩:∃ w:Nat,YZ ds stages s micro=w:=⟨_,(Int.toNat_of_nonneg (Qob hq).1).symm⟩
 have hw5:=(Qob (ds:=ds) hq).2
 rw [hw] at hM hw5
 rw [Int.toNat_natCast] at hM
 refine JL w (fun k=>QhO (fun r'=>r'=JC (Z7 ds stages s micro redo)) ds stages s micro redo (k:Int) (Qcd stages s k)) ?_ ?_
 ·refine Qr4 (fun r'=>r'=JC (Z7 ds stages s micro redo)) ds stages s micro redo _ _ ⟨fun h=>by simp [hw] at h,fun _=>?_⟩
  rw [List.take_length]
  suffices h:QeK (fun r'=>r'=JC (Z7 ds stages s micro redo)) ds stages s micro redo ((0:Nat):Int) (Qcd stages s w++QbP stages s micro redo w 0) by
   rw [show QbP stages s micro redo w 0=[] from rfl,List.append_nil] at h;exact h
  refine JL micro.toNat (fun k=>QeK (fun r'=>r'=JC (Z7 ds stages s micro redo)) ds stages s micro redo (k:Int) (Qcd stages s w++QbP stages s micro redo w k)) ?_ ?_
  ·have h1:=QiP stages s w
   have h2:=QjS stages s micro redo w micro.toNat
   refine Qtk (fun r'=>r'=JC (Z7 ds stages s micro redo)) ds stages s micro redo _ _ ⟨fun h=>by simp at h;omega,fun _=>⟨⟨.inl rfl,by rw [List.length_append,Zi];omega⟩,R_eq ?_⟩⟩
   rw [Zq,hM]
  ·intro k hk ih
   have h1:=QiP stages s w
   have h2:=QjS stages s micro redo w k
   have key:∀ l:List TIns,l=Qcd stages s w++QbP stages s micro redo w k++(if (k:Int)+w<micro then Yd stages s ((k:Int)+w) else [])→QgX (fun r'=>r'=JC (Z7 ds stages s micro redo)) ds stages s micro redo l (k:Int):=by
    intro l hl
    have h3:=Qrc stages s k redo
    have h4:=Qfx stages s ((k:Int)+w)
    have h5:l.length≤1000:=by rw [hl];split <;> simp only [List.length_append,List.length_nil] <;> omega
    refine (QQS (fun r'=>r'=JC (Z7 ds stages s micro redo)) ds stages s micro redo l _ ⟨⟨⟨by omega,by omega⟩,Qli (by omega)⟩,?_⟩).h
    rw [Qjy,sc1 (by omega)]
    rw [QEZ] at ih
    rw [hl,List.append_assoc,List.append_assoc]
    unfold QgV at ih
    exact ih
   refine Qtk (fun r'=>r'=JC (Z7 ds stages s micro redo)) ds stages s micro redo _ _ ⟨fun _=>?_,fun h=>by simp at h;omega⟩
   rw [hw,Qo (x:=(k:Int)+w) (by omega) (by omega)]
   have h4:=Qfx stages s ((k:Int)+w)
   refine ⟨fun h=>⟨⟨⟨by omega,by omega⟩,Qli (by rw [List.length_append];omega)⟩,key _ ?_⟩,fun h=>key _ ?_⟩
   ·rw [Qjy,if_pos (of_decide_eq_true h)]
   ·rw [if_neg (of_decide_eq_false h),List.take_length,List.append_nil]
 ·intro k hk ih
  have h1:=QiP stages s k
  have h4:=Qfx stages s k
  refine Qr4 (fun r'=>r'=JC (Z7 ds stages s micro redo)) ds stages s micro redo _ _ ⟨fun _=>⟨⟨⟨by omega,by omega⟩,Qli (by omega)⟩,?_⟩,fun h=>by simp [hw] at h;omega⟩
  rw [Qjy,sc1 (by omega),← QAE]
  exact ih
theorem QFr:Qh Tryz.prog Qj9:=Qk fun x _=>QEa x.1 x.2.1 x.2.2.1 x.2.2.2.1 x.2.2.2.2.1
end
end Go.Proofs.YtjbdljkhbglnhaaGreat.Am

