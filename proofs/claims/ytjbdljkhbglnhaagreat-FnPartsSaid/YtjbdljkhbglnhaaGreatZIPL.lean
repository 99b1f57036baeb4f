/- -/
import Derived.Test.YtjbdljkhbglnhaaGreatZIPE
import Derived.Test.YtjbdljkhbglnhaaGreatZIP1
import Derived.Test.YtjbdljkhbglnhaaGreatZIG9
namespace Go.Proofs.YtjbdljkhbglnhaaGreat.Am
open Go Go.RowKit Go.Proofs.YtjbdljkhbglnhaaGreat
set_option linter.all false
noncomputable section
variable (K:TRes→Prop)
def Qei (t:(List TIns)):TRes:=⟨(.r QR 0 0 t.length),[(.sl 111 QR true t)],[],true,[.dead]⟩
def QlC:TRow:=Qk 159 [(.o 111 QR),(.c TI),(.c TI),(.c TI)] fun x=>(some (p_l9 x.1 x.2.1 x.2.2.1 x.2.2.2.1),Qei (Qdc x.1 x.2.1 x.2.2.1 x.2.2.2.1))
def QT3:List TRow:=[]
def QNZ:TCode :=
 (zsq [(.reg [zmv 8 (.k (.n QR))]),(zsq [(.reg [zmv 9 2,zbi 10 .gtr 9 (zki 0)]),(.cond 10 (.reg [zmv 11 0,zmv 12 3,zop 13 (.build (z0s QR) [(0,1,(zki 1)),(1,1,12)]),zop 14 (.bsl 111 QR [13]),zop 15 (.app 11 14 111 QR),zmv 0 15]) .skip)]),(.reg [zmv 16 0,zmv 17 3,zop 18 (.build (z0s QR) [(0,1,(zki 2)),(1,1,17)]),zop 19 (.bsl 111 QR [18]),zop 20 (.app 16 19 111 QR),zmv 0 20]),(zsq [(.reg [zmv 21 2,zmv 22 1,zbi 23 .sub 22 (zki 1),zbi 24 .lss 21 23]),(.cond 24 (.reg [zmv 25 0,zmv 26 3,zop 27 (.build (z0s QR) [(0,1,(zki 3)),(1,1,26)]),zop 28 (.bsl 111 QR [27]),zop 29 (.app 25 28 111 QR),zmv 0 29]) .skip)]),(.reg [zmv 30 0,zmv 8 30]),.ret])
def QHQ:List (ARv × Md):=[(.t 8,.one (.o 111))]
theorem QSF (l:List TIns) (stages:Int) (s:Int) (m:Int) (h :
 (zif (decide (s>(0:Int))) (((l.length=l.length∨l.length+1≤l.length)∧l.length+1≤big)∧((((l.length+1)=((List.take l.length l)++([((1:Int),m)])).length∨(l.length+1)+1≤((List.take l.length l)++([((1:Int),m)])).length)∧(l.length+1)+1≤big)∧(zif (decide (s<(w64 (stages-(1:Int))))) (((((l.length+1)+1)=((List.take (l.length+1) ((List.take l.length l)++([((1:Int),m)])))++([((2:Int),m)])).length∨((l.length+1)+1)+1≤((List.take (l.length+1) ((List.take l.length l)++([((1:Int),m)])))++([((2:Int),m)])).length)∧((l.length+1)+1)+1≤big)∧K (Qei (List.take (((l.length+1)+1)+1) ((List.take ((l.length+1)+1) ((List.take (l.length+1) ((List.take l.length l)++([((1:Int),m)])))++([((2:Int),m)])))++([((3:Int),m)]))))) (K (Qei (List.take ((l.length+1)+1) ((List.take (l.length+1) ((List.take l.length l)++([((1:Int),m)])))++([((2:Int),m)])))))))) (((l.length=l.length∨l.length+1≤l.length)∧l.length+1≤big)∧(zif (decide (s<(w64 (stages-(1:Int))))) ((((l.length+1)=((List.take l.length l)++([((2:Int),m)])).length∨(l.length+1)+1≤((List.take l.length l)++([((2:Int),m)])).length)∧(l.length+1)+1≤big)∧K (Qei (List.take ((l.length+1)+1) ((List.take (l.length+1) ((List.take l.length l)++([((2:Int),m)])))++([((3:Int),m)]))))) (K (Qei (List.take (l.length+1) ((List.take l.length l)++([((2:Int),m)]))))))))):Hold (tawp QT3 (0+1) QNZ (TQ 0 1 QHQ K) (Qi [(.ow 111 QR l),(.c TI stages),(.c TI s),(.c TI m)])) :=
 Hold.of (by kernel_rfl) h
theorem QM7 (l:List TIns) (stages:Int) (s:Int) (m:Int) (hp:p_l9 l stages s m):TCon Tryz.prog 159 [(.ow 111 QR l),(.c TI stages),(.c TI s),(.c TI m)] (Qei (Qdc l stages s m)):=by
 refine Qo rfl fun hb=>tcg (n:=31) (sg:=QlC.sg) Qm TOk.nil (by kernel_rfl) (by kernel_rfl) (QSF _ l stages s m ?_)
 obtain ⟨⟨h1,h2⟩,hl⟩:=hp
 have hw:w64 (stages-1)=stages-1:=Qp (by omega) (by omega)
 have hb:l.length+100≤big:=by rw [Q9];omega
 rw [hw]
 unfold Qdc QaM
 refine ⟨fun h=>?_,fun h=>?_⟩
 all_goals
  simp at h
  first | have h0:0<s:=h | have h0:¬ 0<s:=by omega
  refine ⟨⟨.inl rfl,by omega⟩,?_⟩
  first
  | refine ⟨⟨.inl (by simp),by omega⟩,fun h3=>⟨⟨.inl (by simp),by omega⟩,R_eq ?_⟩,fun h3=>R_eq ?_⟩
  | refine ⟨fun h3=>⟨⟨.inl (by simp),by omega⟩,R_eq ?_⟩,fun h3=>R_eq ?_⟩
  all_goals
   simp at h3
   first | have h4:s<stages-1:=h3 | have h4:¬ s<stages-1:=by omega
   simp [h0,h4,List.take_of_length_le]
theorem QMb:Ql Tryz.prog QlC:=Qn fun x h=>QM7 x.1 x.2.1 x.2.2.1 x.2.2.2.1 h
def QaD (t:(List TIns)):TRes:=⟨(.r QR 0 0 t.length),[(.sl 111 QR true t)],[],true,[.dead]⟩
def Qn4:TRow:=Qk 160 [(.o 111 QR),(.c TI),(.c TI),(.c TI),(.c .bool)] fun x=>(some (Qns x.1 x.2.1 x.2.2.1 x.2.2.2.1 x.2.2.2.2.1),QaD (Qec x.1 x.2.1 x.2.2.1 x.2.2.2.1 x.2.2.2.2.1))
def QKq:List TRow:=[]
def QJD:TCode :=
 (zsq [(.reg [zmv 10 (.k (.n QR))]),(zsq [(.reg [zmv 11 2,zmv 12 1,zbi 13 .sub 12 (zki 1),zbi 14 .lss 11 13]),(.cond 14 (.reg [zmv 15 0,zmv 16 3,zop 17 (.build (z0s QR) [(0,1,(zki 4)),(1,1,16)]),zop 18 (.bsl 111 QR [17]),zop 19 (.app 15 18 111 QR),zmv 0 19]) .skip)]),(zsq [(.reg [zmv 20 4]),(.cond 20 (.reg [zmv 21 0,zmv 22 3,zop 23 (.build (z0s QR) [(0,1,(zki 5)),(1,1,22)]),zop 24 (.bsl 111 QR [23]),zop 25 (.app 21 24 111 QR),zmv 0 25]) .skip)]),(.reg [zmv 26 0,zmv 27 3,zop 28 (.build (z0s QR) [(0,1,(zki 6)),(1,1,27)]),zop 29 (.bsl 111 QR [28]),zop 30 (.app 26 29 111 QR),zmv 0 30]),(zsq [(.reg [zmv 31 2,zbi 32 .gtr 31 (zki 0)]),(.cond 32 (.reg [zmv 33 0,zmv 34 3,zop 35 (.build (z0s QR) [(0,1,(zki 7)),(1,1,34)]),zop 36 (.bsl 111 QR [35]),zop 37 (.app 33 36 111 QR),zmv 0 37]) .skip)]),(.reg [zmv 38 0,zmv 10 38]),.ret])
def QTM:List (ARv × Md):=[(.t 10,.one (.o 111))]
theorem QPd (l:List TIns) (stages:Int) (s:Int) (m:Int) (redo:Bool) (h :
 let z1:=List.take l.length l
 (zif (decide (s<(w64 (stages-(1:Int))))) (((l.length=l.length∨l.length+1≤l.length)∧l.length+1≤big)∧(zif redo ((((l.length+1)=(z1++([((4:Int),m)])).length∨(l.length+1)+1≤(z1++([((4:Int),m)])).length)∧(l.length+1)+1≤big)∧(((((l.length+1)+1)=((List.take (l.length+1) (z1++([((4:Int),m)])))++([((5:Int),m)])).length∨((l.length+1)+1)+1≤((List.take (l.length+1) (z1++([((4:Int),m)])))++([((5:Int),m)])).length)∧((l.length+1)+1)+1≤big)∧(zif (decide (s>(0:Int))) ((((((l.length+1)+1)+1)=((List.take ((l.length+1)+1) ((List.take (l.length+1) (z1++([((4:Int),m)])))++([((5:Int),m)])))++([((6:Int),m)])).length∨(((l.length+1)+1)+1)+1≤((List.take ((l.length+1)+1) ((List.take (l.length+1) (z1++([((4:Int),m)])))++([((5:Int),m)])))++([((6:Int),m)])).length)∧(((l.length+1)+1)+1)+1≤big)∧K (QaD (List.take ((((l.length+1)+1)+1)+1) ((List.take (((l.length+1)+1)+1) ((List.take ((l.length+1)+1) ((List.take (l.length+1) (z1++([((4:Int),m)])))++([((5:Int),m)])))++([((6:Int),m)])))++([((7:Int),m)]))))) (K (QaD (List.take (((l.length+1)+1)+1) ((List.take ((l.length+1)+1) ((List.take (l.length+1) (z1++([((4:Int),m)])))++([((5:Int),m)])))++([((6:Int),m)])))))))) ((((l.length+1)=(z1++([((4:Int),m)])).length∨(l.length+1)+1≤(z1++([((4:Int),m)])).length)∧(l.length+1)+1≤big)∧(zif (decide (s>(0:Int))) (((((l.length+1)+1)=((List.take (l.length+1) (z1++([((4:Int),m)])))++([((6:Int),m)])).length∨((l.length+1)+1)+1≤((List.take (l.length+1) (z1++([((4:Int),m)])))++([((6:Int),m)])).length)∧((l.length+1)+1)+1≤big)∧K (QaD (List.take (((l.length+1)+1)+1) ((List.take ((l.length+1)+1) ((List.take (l.length+1) (z1++([((4:Int),m)])))++([((6:Int),m)])))++([((7:Int),m)]))))) (K (QaD (List.take ((l.length+1)+1) ((List.take (l.length+1) (z1++([((4:Int),m)])))++([((6:Int),m)]))))))))) (zif redo (((l.length=l.length∨l.length+1≤l.length)∧l.length+1≤big)∧((((l.length+1)=(z1++([((5:Int),m)])).length∨(l.length+1)+1≤(z1++([((5:Int),m)])).length)∧(l.length+1)+1≤big)∧(zif (decide (s>(0:Int))) (((((l.length+1)+1)=((List.take (l.length+1) (z1++([((5:Int),m)])))++([((6:Int),m)])).length∨((l.length+1)+1)+1≤((List.take (l.length+1) (z1++([((5:Int),m)])))++([((6:Int),m)])).length)∧((l.length+1)+1)+1≤big)∧K (QaD (List.take (((l.length+1)+1)+1) ((List.take ((l.length+1)+1) ((List.take (l.length+1) (z1++([((5:Int),m)])))++([((6:Int),m)])))++([((7:Int),m)]))))) (K (QaD (List.take ((l.length+1)+1) ((List.take (l.length+1) (z1++([((5:Int),m)])))++([((6:Int),m)])))))))) (((l.length=l.length∨l.length+1≤l.length)∧l.length+1≤big)∧(zif (decide (s>(0:Int))) ((((l.length+1)=(z1++([((6:Int),m)])).length∨(l.length+1)+1≤(z1++([((6:Int),m)])).length)∧(l.length+1)+1≤big)∧K (QaD (List.take ((l.length+1)+1) ((List.take (l.length+1) (z1++([((6:Int),m)])))++([((7:Int),m)]))))) (K (QaD (List.take (l.length+1) (z1++([((6:Int),m)])))))))))):Hold (tawp QKq (0+1) QJD (TQ 0 1 QTM K) (Qi [(.ow 111 QR l),(.c TI stages),(.c TI s),(.c TI m),(.c .bool redo)])) :=
 Hold.of (by kernel_rfl) h
theorem QGr (l:List TIns) (stages:Int) (s:Int) (m:Int) (redo:Bool) (hp:Qns l stages s m redo):TCon Tryz.prog 160 [(.ow 111 QR l),(.c TI stages),(.c TI s),(.c TI m),(.c .bool redo)] (QaD (Qec l stages s m redo)):=by
 refine Qo rfl fun hb=>tcg (n:=39) (sg:=Qn4.sg) Qm TOk.nil (by kernel_rfl) (by kernel_rfl) (QPd _ l stages s m redo ?_)
 conv=>zeta
 obtain ⟨⟨h1,h2⟩,hl⟩:=hp
 have hw:w64 (stages-1)=stages-1:=Qp (by omega) (by omega)
 have hb:l.length+100≤big:=by rw [Q9];omega
 rw [hw]
 unfold Qec QdA
 have hd:∀ k,List.take k (l++[])=List.take k l:=by intro k;rw [List.append_nil]
 by_cases c1:s<stages-1
 all_goals
  cases redo
  all_goals
   by_cases c3:0<s
   all_goals
    simp only [zif,gt_iff_lt,c1,c3,decide_true,decide_false,Bool.false_eq_true,true_implies,false_implies,true_and,and_true,reduceCtorEq,if_true,if_false,List.nil_append,List.append_nil]
    simp [zif,List.take_of_length_le,Q9]
    try omega
    try exact R_eq (by simp [List.take_of_length_le])
theorem QO7:Ql Tryz.prog Qn4:=Qn fun x h=>QGr x.1 x.2.1 x.2.2.1 x.2.2.2.1 x.2.2.2.2.1 h
def JW (t:(List TIns)):TRes:=⟨(.r QR 0 0 t.length),[(.sl 111 QR true t)],[],true,[]⟩
def Qpd:TRow:=Qk 82 [(.c TI),(.c TI),(.c TI),(.c TI),(.c .bool)] fun x=>(none,JW (YA x.1 x.2.1 x.2.2.1 x.2.2.2.1 x.2.2.2.2.1))
def Qce:List TRow:=[YN,Qno,QlC,Qn4]
def Qyb:TCode :=
 (zsq [(zsq [(.reg [zmv 42 13,zmv 43 12,zbi 44 .lss 42 43]),(.cond 44 .skip (.exit 0))]),(.block 1 (.reg [zmv 47 11,zmv 48 1,zmv 49 2,zmv 50 13,zca 51 159 [47,48,49,50],zmv 11 51])),(.reg [zmv 45 13,zbi 46 .add 45 (zki 1),zmv 13 46])])
def QAP:List (Nat × Md):=[(1,.one .d),(2,.one .d),(3,.one .d),(4,.one .d),(11,.one .f),(12,.one .d),(13,.one .d)]
def QrN:TCode :=
 (.reg [zmv 69 11,zmv 70 1,zmv 71 2,zmv 72 14,zmv 73 4,zca 74 160 [69,70,71,72,73],zmv 11 74])
def QPI:List (Nat × Md):=[(1,.one .d),(2,.one .d),(3,.one .d),(4,.one .d),(11,.one .f),(12,.one .d),(14,.one .d)]
def QHu:TCode:=.wk QPI QrN
def QuM:TCode :=
 (.reg [zmv 55 14,zbi 56 .add 55 (zki 1),zmv 14 56])
def Qla:TCode :=
 (zsq [(zsq [(.reg [zmv 52 14,zmv 53 3,zbi 54 .lss 52 53]),(.cond 54 .skip (.exit 2))]),(.block 3 (zsq [(zsq [(.reg [zmv 57 12,zmv 58 14,zbi 59 .add 57 58,zmv 60 3,zbi 61 .lss 59 60]),(.cond 61 (.reg [zmv 62 11,zmv 63 1,zmv 64 2,zmv 65 12,zmv 66 14,zbi 67 .add 65 66,zca 68 159 [62,63,64,67],zmv 11 68]) .skip)]),QHu])),QuM])
def QgB:List (Nat × Md):=[(1,.one .d),(2,.one .d),(3,.one .d),(4,.one .d),(11,.one .f),(12,.one .d),(14,.one .d)]
def QBZ:TCode :=
 (zsq [(.reg [zmv 75 11,zop 76 (.build (z0s QR) [(0,1,(zki 8))]),zop 77 (.bsl 111 QR [76]),zop 78 (.app 75 77 111 QR),zmv 10 78]),.ret])
def QxQ:TCode :=
 (zsq [(zsq [(.reg [zmv 14 (zki 0)]),(.block 2 (.loop QgB Qla))]),QBZ])
def QLy:TCode :=
 (zsq [(.reg [zmv 10 (.k (.n QR))]),(.reg [zop 15 (.bsl 111 QR []),zmv 11 15]),(zsq [(.reg [zmv 16 0,zca 17 77 [16,(zki 1),(zki 2)],zno 18 17,zmv 19 18,.grp 19 false [zmv 20 1,zca 21 77 [20,(zki 1),(zki 4)],zno 22 21] 23 22,zmv 24 23,.grp 24 false [zmv 25 2,zmv 26 1,zbi 27 .sub 26 (zki 1),zca 28 77 [25,(zki 0),27],zno 29 28] 30 29,zmv 31 30,.grp 31 false [zmv 32 3,zca 33 77 [32,(zki 1),(zki 5)],zno 34 33] 35 34]),(.cond 35 (zsq [(.reg [zmv 36 11,zmv 10 36]),.ret]) .skip)]),(.reg [zmv 37 0,zmv 38 1,zmv 39 2,zmv 40 3,zca 41 158 [37,38,39,40],zmv 12 41]),(zsq [(.reg [zmv 13 (zki 0)]),(.block 0 (.loop QAP Qyb))]),QxQ])
def QBm:List (ARv × Md):=[(.t 10,.one (.o 111))]
def Qgs:Qb:=TQ 0 0 QBm K
def QJn:Qb:=Qseq (tawp Qce 0 QBZ (Qgs K)) (Qgs K)
def Qku:Qb:=Qblk 2 (QJn K)
def QBf:Qb:=Qseq (fun s'=>Loop Qce 0 QgB Qla (Qku K) (gc 0 QgB s')) (Qku K)
def QVn:Qb:=Qseq (tawp Qce 0 QuM (QBf K)) (QBf K)
def QT2:Qb:=Qblk 3 (QVn K)
@[irreducible] def Qh2 (ds:Int) (stages:Int) (s:Int) (micro:Int) (redo:Bool) (l1:List TIns) (m1:Int):Prop:=tawp Qce 0 QrN (QT2 K) ⟨[(1,(zci stages)),(2,(zci s)),(3,(zci micro)),(4,(zcb redo)),(11,(.r QR 0 0 l1.length)),(12,(zci (YJ ds stages s micro))),(14,(zci m1))],[(0,(.sl 111 QR true l1))],1⟩
def QeG (ds:Int) (stages:Int) (s:Int) (micro:Int) (redo:Bool) (m1:Int) (l2:List TIns):Prop:=Loop Qce 0 QgB Qla (Qku K) ⟨[(1,(zci stages)),(2,(zci s)),(3,(zci micro)),(4,(zcb redo)),(11,(.r QR 0 0 l2.length)),(12,(zci (YJ ds stages s micro))),(14,(zci m1))],[(0,(.sl 111 QR true l2))],1⟩
def QQw:Qb:=Qseq (tawp Qce 0 QxQ (Qgs K)) (Qgs K)
def QHd:Qb:=Qblk 0 (QQw K)
def Qju (ds:Int) (stages:Int) (s:Int) (micro:Int) (redo:Bool) (m:Int) (l:List TIns):Prop:=Loop Qce 0 QAP Qyb (QHd K) ⟨[(1,(zci stages)),(2,(zci s)),(3,(zci micro)),(4,(zcb redo)),(11,(.r QR 0 0 l.length)),(12,(zci (YJ ds stages s micro))),(13,(zci m))],[(0,(.sl 111 QR true l))],1⟩
theorem QFO (ds:Int) (stages:Int) (s:Int) (micro:Int) (redo:Bool) (l1:List TIns) (m1:Int) (h :
 (((l1.length=l1.length)∧(Qns l1 stages s m1 redo))∧(QeG K ds stages s micro redo (w64 (m1+(1:Int))) (List.take ((Qec l1 stages s m1 redo).length) (Qec l1 stages s m1 redo))))):Hold (Qh2 K ds stages s micro redo l1 m1) :=
 Hold.of (by kernel_rfl) h
theorem QtA (ds:Int) (stages:Int) (s:Int) (micro:Int) (redo:Bool) (m1:Int) (l2:List TIns) (h :
 (zif (decide (m1<micro)) (zif (decide ((w64 ((YJ ds stages s micro)+m1))<micro)) (((l2.length=l2.length)∧(p_l9 l2 stages s (w64 ((YJ ds stages s micro)+m1))))∧(Qh2 K ds stages s micro redo (List.take ((Qdc l2 stages s (w64 ((YJ ds stages s micro)+m1))).length) (Qdc l2 stages s (w64 ((YJ ds stages s micro)+m1)))) m1)) (Qh2 K ds stages s micro redo (List.take l2.length l2) m1)) (((l2.length=l2.length∨l2.length+1≤l2.length)∧l2.length+1≤big)∧K (JW (List.take (l2.length+1) ((List.take l2.length l2)++([((8:Int),(0:Int))]))))))):QeG K ds stages s micro redo m1 l2 :=
 Loop.of (by kernel_rfl) h
theorem Qwe (ds:Int) (stages:Int) (s:Int) (micro:Int) (redo:Bool) (m:Int) (l:List TIns) (h :
 (zif (decide (m<(YJ ds stages s micro))) (((l.length=l.length)∧(p_l9 l stages s m))∧(Qju K ds stages s micro redo (w64 (m+(1:Int))) (List.take ((Qdc l stages s m).length) (Qdc l stages s m)))) (QeG K ds stages s micro redo 0 (List.take l.length l)))):Qju K ds stages s micro redo m l :=
 Loop.of (by kernel_rfl) h
theorem QPf (ds:Int) (stages:Int) (s:Int) (micro:Int) (redo:Bool) (h :
 (zif ((((!(m_in ds (1:Int) (2:Int)))||(!(m_in stages (1:Int) (4:Int))))||(!(m_in s (0:Int) (w64 (stages-(1:Int))))))||(!(m_in micro (1:Int) (5:Int)))) (K (JW ([]:List TIns))) (Qju K ds stages s micro redo 0 ([]:List TIns)))):Hold (tawp Qce (0+0) QLy (TQ 0 0 QBm K) (Qi [(.c TI ds),(.c TI stages),(.c TI s),(.c TI micro),(.c .bool redo)])) :=
 Hold.of (by kernel_rfl) h
theorem QLx (ds:Int) (stages:Int) (s:Int) (micro:Int) (redo:Bool):TCon Tryz.prog 82 [(.c TI ds),(.c TI stages),(.c TI s),(.c TI micro),(.c .bool redo)] (JW (YA ds stages s micro redo)):=by
 refine Qo rfl fun hb=>tcg (n:=79) (sg:=Qpd.sg) Qm (TOk.cons Y5 (TOk.cons QLS (TOk.cons QMb (TOk.cons QO7 TOk.nil)))) (by kernel_rfl) (by kernel_rfl) (QPf _ ds stages s micro redo ?_)
 rw [QSU]
 by_cases hp:(m_in ds 1 2&&Y7 stages s micro)=true
 case neg =>
  rw [show (m_in ds 1 2&&Y7 stages s micro)=false by simpa using hp]
  exact ⟨fun _=>R_eq (Qwm hp).symm,fun h=>by simp at h⟩
 rw [hp]
 refine ⟨fun h=>by simp at h,fun _=>?_⟩
 have hq:Y7 stages s micro=true:=by simp only [Bool.and_eq_true] at hp;exact hp.2
 have hr:=Qpu.1 hq
 have hM:=QwQ (redo:=redo) hp
 obtain ⟨w,hw⟩:∃ w:Nat,YJ ds stages s micro=w:=⟨_,(Int.toNat_of_nonneg (QkR hq).1).symm⟩
 have hw5:=(QkR (ds:=ds) hq).2
 rw [hw] at hM hw5
 rw [Int.toNat_natCast] at hM
 refine JH w (fun k=>Qju (fun r'=>r'=JW (YA ds stages s micro redo)) ds stages s micro redo (k:Int) (Qbz stages s k)) ?_ ?_
 ·refine Qwe (fun r'=>r'=JW (YA ds stages s micro redo)) ds stages s micro redo _ _ ⟨fun h=>by simp [hw] at h,fun _=>?_⟩
  rw [List.take_length]
  suffices h:QeG (fun r'=>r'=JW (YA ds stages s micro redo)) ds stages s micro redo ((0:Nat):Int) (Qbz stages s w++Qcl stages s micro redo w 0) by
   rw [show Qcl stages s micro redo w 0=[] from rfl,List.append_nil] at h;exact h
  refine JH micro.toNat (fun k=>QeG (fun r'=>r'=JW (YA ds stages s micro redo)) ds stages s micro redo (k:Int) (Qbz stages s w++Qcl stages s micro redo w k)) ?_ ?_
  ·have h1:=Qj7 stages s w
   have h2:=Qov stages s micro redo w micro.toNat
   refine QtA (fun r'=>r'=JW (YA ds stages s micro redo)) ds stages s micro redo _ _ ⟨fun h=>by simp at h;omega,fun _=>⟨⟨.inl rfl,by rw [List.length_append,Q9];omega⟩,R_eq ?_⟩⟩
   rw [Zc,hM]
  ·intro k hk ih
   have h1:=Qj7 stages s w
   have h2:=Qov stages s micro redo w k
   have key:∀ l:List TIns,l=Qbz stages s w++Qcl stages s micro redo w k++(if (k:Int)+w<micro then QaM stages s ((k:Int)+w) else [])→Qh2 (fun r'=>r'=JW (YA ds stages s micro redo)) ds stages s micro redo l (k:Int):=by
    intro l hl
    have h3:=QAo stages s k redo
    have h4:=Qfr stages s ((k:Int)+w)
    have h5:l.length≤1000:=by rw [hl];split <;> simp only [List.length_append,List.length_nil] <;> omega
    refine (QFO (fun r'=>r'=JW (YA ds stages s micro redo)) ds stages s micro redo l _ ⟨⟨rfl,⟨by omega,by omega⟩,by omega⟩,?_⟩).h
    rw [List.take_length,sc1 (by omega)]
    rw [QOn] at ih
    unfold Qec
    rw [hl,List.append_assoc,List.append_assoc]
    unfold QiE at ih
    exact ih
   refine QtA (fun r'=>r'=JW (YA ds stages s micro redo)) ds stages s micro redo _ _ ⟨fun _=>?_,fun h=>by simp at h;omega⟩
   rw [hw,Int.add_comm (w:Int) k,Qp (x:=(k:Int)+w) (by omega) (by omega)]
   have h4:=Qfr stages s ((k:Int)+w)
   refine ⟨fun h=>⟨⟨rfl,⟨by omega,by omega⟩,by rw [List.length_append];omega⟩,key _ ?_⟩,fun h=>key _ ?_⟩
   ·rw [List.take_length,if_pos (of_decide_eq_true h)];rfl
   ·rw [if_neg (of_decide_eq_false h),List.take_length,List.append_nil]
 ·intro k hk ih
  have h1:=Qj7 stages s k
  have h4:=Qfr stages s k
  refine Qwe (fun r'=>r'=JW (YA ds stages s micro redo)) ds stages s micro redo _ _ ⟨fun _=>⟨⟨rfl,⟨by omega,by omega⟩,by omega⟩,?_⟩,fun h=>by simp [hw] at h;omega⟩
  rw [List.take_length,sc1 (by omega)]
  rw [QTI] at ih
  exact ih
theorem QQH:Ql Tryz.prog Qpd:=Qn fun x _=>QLx x.1 x.2.1 x.2.2.1 x.2.2.2.1 x.2.2.2.2.1
end
end Go.Proofs.YtjbdljkhbglnhaaGreat.Am

