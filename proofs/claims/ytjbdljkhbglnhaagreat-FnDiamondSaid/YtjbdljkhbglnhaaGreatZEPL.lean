/- -/
import Derived.Test.YtjbdljkhbglnhaaGreatZEPE
import Derived.Test.YtjbdljkhbglnhaaGreatZEP1
import Derived.Test.YtjbdljkhbglnhaaGreatZEG9
namespace Go.Proofs.YtjbdljkhbglnhaaGreat.Am
open Go Go.RowKit Go.Proofs.YtjbdljkhbglnhaaGreat
set_option linter.all false
noncomputable section
variable (K:TRes→Prop)
def Qes (t:(List TIns)):TRes:=⟨(.r QQ 0 0 t.length),[(.sl 111 QQ true t)],[],true,[.dead]⟩
def Qpx:TRow:=Qk 159 [(.o 111 QQ),(.c TI),(.c TI),(.c TI)] fun x=>(some (p_l9 x.1 x.2.1 x.2.2.1 x.2.2.2.1),Qes (Qcx x.1 x.2.1 x.2.2.1 x.2.2.2.1))
def QYk:List TRow:=[]
def QKx:TCode :=
 (zsq [(.reg [zmv 8 (.k (.n QQ))]),(zsq [(.reg [zmv 9 2,zbi 10 .gtr 9 (zki 0)]),(.cond 10 (.reg [zmv 11 0,zmv 12 3,zop 13 (.build (z0s QQ) [(0,1,(zki 1)),(1,1,12)]),zop 14 (.bsl 111 QQ [13]),zop 15 (.app 11 14 111 QQ),zmv 0 15]) .skip)]),(.reg [zmv 16 0,zmv 17 3,zop 18 (.build (z0s QQ) [(0,1,(zki 2)),(1,1,17)]),zop 19 (.bsl 111 QQ [18]),zop 20 (.app 16 19 111 QQ),zmv 0 20]),(zsq [(.reg [zmv 21 2,zmv 22 1,zbi 23 .sub 22 (zki 1),zbi 24 .lss 21 23]),(.cond 24 (.reg [zmv 25 0,zmv 26 3,zop 27 (.build (z0s QQ) [(0,1,(zki 3)),(1,1,26)]),zop 28 (.bsl 111 QQ [27]),zop 29 (.app 25 28 111 QQ),zmv 0 29]) .skip)]),(.reg [zmv 30 0,zmv 8 30]),.ret])
def QKg:List (ARv × Md):=[(.t 8,.one (.o 111))]
theorem QX8 (l:List TIns) (stages:Int) (s:Int) (m:Int) (h :
 (zif (decide (s>(0:Int))) (((l.length=l.length∨l.length+1≤l.length)∧l.length+1≤big)∧((((l.length+1)=((List.take l.length l)++([((1:Int),m)])).length∨(l.length+1)+1≤((List.take l.length l)++([((1:Int),m)])).length)∧(l.length+1)+1≤big)∧(zif (decide (s<(w64 (stages-(1:Int))))) (((((l.length+1)+1)=((List.take (l.length+1) ((List.take l.length l)++([((1:Int),m)])))++([((2:Int),m)])).length∨((l.length+1)+1)+1≤((List.take (l.length+1) ((List.take l.length l)++([((1:Int),m)])))++([((2:Int),m)])).length)∧((l.length+1)+1)+1≤big)∧K (Qes (List.take (((l.length+1)+1)+1) ((List.take ((l.length+1)+1) ((List.take (l.length+1) ((List.take l.length l)++([((1:Int),m)])))++([((2:Int),m)])))++([((3:Int),m)]))))) (K (Qes (List.take ((l.length+1)+1) ((List.take (l.length+1) ((List.take l.length l)++([((1:Int),m)])))++([((2:Int),m)])))))))) (((l.length=l.length∨l.length+1≤l.length)∧l.length+1≤big)∧(zif (decide (s<(w64 (stages-(1:Int))))) ((((l.length+1)=((List.take l.length l)++([((2:Int),m)])).length∨(l.length+1)+1≤((List.take l.length l)++([((2:Int),m)])).length)∧(l.length+1)+1≤big)∧K (Qes (List.take ((l.length+1)+1) ((List.take (l.length+1) ((List.take l.length l)++([((2:Int),m)])))++([((3:Int),m)]))))) (K (Qes (List.take (l.length+1) ((List.take l.length l)++([((2:Int),m)]))))))))):Hold (tawp QYk (0+1) QKx (TQ 0 1 QKg K) (Qg [(.ow 111 QQ l),(.c TI stages),(.c TI s),(.c TI m)])) :=
 Hold.of (by kernel_rfl) h
theorem QU8 (l:List TIns) (stages:Int) (s:Int) (m:Int) (hp:p_l9 l stages s m):TCon Tryz.prog 159 [(.ow 111 QQ l),(.c TI stages),(.c TI s),(.c TI m)] (Qes (Qcx l stages s m)):=by
 refine Qo rfl fun hb=>tcg (n:=31) (sg:=Qpx.sg) Qm TOk.nil (by kernel_rfl) (by kernel_rfl) (QX8 _ l stages s m ?_)
 obtain ⟨⟨h1,h2⟩,hl⟩:=hp
 have hw:w64 (stages-1)=stages-1:=Qr (by omega) (by omega)
 have hb:l.length+100≤big:=by rw [Q9];omega
 rw [hw]
 unfold Qcx QaE
 refine ⟨fun h=>?_,fun h=>?_⟩
 all_goals
  simp at h
  first | have h0:0<s:=h | have h0:¬ 0<s:=by omega
  refine ⟨⟨.inl rfl,by omega⟩,?_⟩
  first
  | refine ⟨⟨.inl (by simp),by omega⟩,fun h3=>⟨⟨.inl (by simp),by omega⟩,R_eq ?_⟩,fun h3=>R_eq ?_⟩
  | refine ⟨fun h3=>⟨⟨.inl (by simp),by omega⟩,R_eq ?_⟩,fun h3=>R_eq ?_⟩
  all_goals
   simp at h3
   first | have h4:s<stages-1:=h3 | have h4:¬ s<stages-1:=by omega
   simp [h0,h4,List.take_of_length_le]
theorem QQI:Qj Tryz.prog Qpx:=Qn fun x h=>QU8 x.1 x.2.1 x.2.2.1 x.2.2.2.1 h
def QaV (t:(List TIns)):TRes:=⟨(.r QQ 0 0 t.length),[(.sl 111 QQ true t)],[],true,[.dead]⟩
def Qn0:TRow:=Qk 160 [(.o 111 QQ),(.c TI),(.c TI),(.c TI),(.c .bool)] fun x=>(some (Qnp x.1 x.2.1 x.2.2.1 x.2.2.2.1 x.2.2.2.2.1),QaV (QdZ x.1 x.2.1 x.2.2.1 x.2.2.2.1 x.2.2.2.2.1))
def QVz:List TRow:=[]
def QLL:TCode :=
 (zsq [(.reg [zmv 10 (.k (.n QQ))]),(zsq [(.reg [zmv 11 2,zmv 12 1,zbi 13 .sub 12 (zki 1),zbi 14 .lss 11 13]),(.cond 14 (.reg [zmv 15 0,zmv 16 3,zop 17 (.build (z0s QQ) [(0,1,(zki 4)),(1,1,16)]),zop 18 (.bsl 111 QQ [17]),zop 19 (.app 15 18 111 QQ),zmv 0 19]) .skip)]),(zsq [(.reg [zmv 20 4]),(.cond 20 (.reg [zmv 21 0,zmv 22 3,zop 23 (.build (z0s QQ) [(0,1,(zki 5)),(1,1,22)]),zop 24 (.bsl 111 QQ [23]),zop 25 (.app 21 24 111 QQ),zmv 0 25]) .skip)]),(.reg [zmv 26 0,zmv 27 3,zop 28 (.build (z0s QQ) [(0,1,(zki 6)),(1,1,27)]),zop 29 (.bsl 111 QQ [28]),zop 30 (.app 26 29 111 QQ),zmv 0 30]),(zsq [(.reg [zmv 31 2,zbi 32 .gtr 31 (zki 0)]),(.cond 32 (.reg [zmv 33 0,zmv 34 3,zop 35 (.build (z0s QQ) [(0,1,(zki 7)),(1,1,34)]),zop 36 (.bsl 111 QQ [35]),zop 37 (.app 33 36 111 QQ),zmv 0 37]) .skip)]),(.reg [zmv 38 0,zmv 10 38]),.ret])
def QFL:List (ARv × Md):=[(.t 10,.one (.o 111))]
theorem QSy (l:List TIns) (stages:Int) (s:Int) (m:Int) (redo:Bool) (h :
 let z1:=List.take l.length l
 (zif (decide (s<(w64 (stages-(1:Int))))) (((l.length=l.length∨l.length+1≤l.length)∧l.length+1≤big)∧(zif redo ((((l.length+1)=(z1++([((4:Int),m)])).length∨(l.length+1)+1≤(z1++([((4:Int),m)])).length)∧(l.length+1)+1≤big)∧(((((l.length+1)+1)=((List.take (l.length+1) (z1++([((4:Int),m)])))++([((5:Int),m)])).length∨((l.length+1)+1)+1≤((List.take (l.length+1) (z1++([((4:Int),m)])))++([((5:Int),m)])).length)∧((l.length+1)+1)+1≤big)∧(zif (decide (s>(0:Int))) ((((((l.length+1)+1)+1)=((List.take ((l.length+1)+1) ((List.take (l.length+1) (z1++([((4:Int),m)])))++([((5:Int),m)])))++([((6:Int),m)])).length∨(((l.length+1)+1)+1)+1≤((List.take ((l.length+1)+1) ((List.take (l.length+1) (z1++([((4:Int),m)])))++([((5:Int),m)])))++([((6:Int),m)])).length)∧(((l.length+1)+1)+1)+1≤big)∧K (QaV (List.take ((((l.length+1)+1)+1)+1) ((List.take (((l.length+1)+1)+1) ((List.take ((l.length+1)+1) ((List.take (l.length+1) (z1++([((4:Int),m)])))++([((5:Int),m)])))++([((6:Int),m)])))++([((7:Int),m)]))))) (K (QaV (List.take (((l.length+1)+1)+1) ((List.take ((l.length+1)+1) ((List.take (l.length+1) (z1++([((4:Int),m)])))++([((5:Int),m)])))++([((6:Int),m)])))))))) ((((l.length+1)=(z1++([((4:Int),m)])).length∨(l.length+1)+1≤(z1++([((4:Int),m)])).length)∧(l.length+1)+1≤big)∧(zif (decide (s>(0:Int))) (((((l.length+1)+1)=((List.take (l.length+1) (z1++([((4:Int),m)])))++([((6:Int),m)])).length∨((l.length+1)+1)+1≤((List.take (l.length+1) (z1++([((4:Int),m)])))++([((6:Int),m)])).length)∧((l.length+1)+1)+1≤big)∧K (QaV (List.take (((l.length+1)+1)+1) ((List.take ((l.length+1)+1) ((List.take (l.length+1) (z1++([((4:Int),m)])))++([((6:Int),m)])))++([((7:Int),m)]))))) (K (QaV (List.take ((l.length+1)+1) ((List.take (l.length+1) (z1++([((4:Int),m)])))++([((6:Int),m)]))))))))) (zif redo (((l.length=l.length∨l.length+1≤l.length)∧l.length+1≤big)∧((((l.length+1)=(z1++([((5:Int),m)])).length∨(l.length+1)+1≤(z1++([((5:Int),m)])).length)∧(l.length+1)+1≤big)∧(zif (decide (s>(0:Int))) (((((l.length+1)+1)=((List.take (l.length+1) (z1++([((5:Int),m)])))++([((6:Int),m)])).length∨((l.length+1)+1)+1≤((List.take (l.length+1) (z1++([((5:Int),m)])))++([((6:Int),m)])).length)∧((l.length+1)+1)+1≤big)∧K (QaV (List.take (((l.length+1)+1)+1) ((List.take ((l.length+1)+1) ((List.take (l.length+1) (z1++([((5:Int),m)])))++([((6:Int),m)])))++([((7:Int),m)]))))) (K (QaV (List.take ((l.length+1)+1) ((List.take (l.length+1) (z1++([((5:Int),m)])))++([((6:Int),m)])))))))) (((l.length=l.length∨l.length+1≤l.length)∧l.length+1≤big)∧(zif (decide (s>(0:Int))) ((((l.length+1)=(z1++([((6:Int),m)])).length∨(l.length+1)+1≤(z1++([((6:Int),m)])).length)∧(l.length+1)+1≤big)∧K (QaV (List.take ((l.length+1)+1) ((List.take (l.length+1) (z1++([((6:Int),m)])))++([((7:Int),m)]))))) (K (QaV (List.take (l.length+1) (z1++([((6:Int),m)])))))))))):Hold (tawp QVz (0+1) QLL (TQ 0 1 QFL K) (Qg [(.ow 111 QQ l),(.c TI stages),(.c TI s),(.c TI m),(.c .bool redo)])) :=
 Hold.of (by kernel_rfl) h
theorem QKY (l:List TIns) (stages:Int) (s:Int) (m:Int) (redo:Bool) (hp:Qnp l stages s m redo):TCon Tryz.prog 160 [(.ow 111 QQ l),(.c TI stages),(.c TI s),(.c TI m),(.c .bool redo)] (QaV (QdZ l stages s m redo)):=by
 refine Qo rfl fun hb=>tcg (n:=39) (sg:=Qn0.sg) Qm TOk.nil (by kernel_rfl) (by kernel_rfl) (QSy _ l stages s m redo ?_)
 conv=>zeta
 obtain ⟨⟨h1,h2⟩,hl⟩:=hp
 have hw:w64 (stages-1)=stages-1:=Qr (by omega) (by omega)
 have hb:l.length+100≤big:=by rw [Q9];omega
 rw [hw]
 unfold QdZ QdY
 have hd:∀ k,List.take k (l++[])=List.take k l:=by intro k;rw [List.append_nil]
 by_cases c1:s<stages-1
 all_goals
  cases redo
  all_goals
   by_cases c3:0<s
   all_goals
    simp only [zif,gt_iff_lt,c1,c3,decide_true,decide_false,Bool.false_eq_true,true_implies,false_implies,true_and,and_true,reduceCtorEq,if_true,if_false,List.nil_append,List.append_nil]
    simp [zif,List.take_of_length_le,Q9]
    try omega
    try exact R_eq (by simp [List.take_of_length_le])
theorem QUz:Qj Tryz.prog Qn0:=Qn fun x h=>QKY x.1 x.2.1 x.2.2.1 x.2.2.2.1 x.2.2.2.2.1 h
def JS (t:(List TIns)):TRes:=⟨(.r QQ 0 0 t.length),[(.sl 111 QQ true t)],[],true,[]⟩
def Qni:TRow:=Qk 82 [(.c TI),(.c TI),(.c TI),(.c TI),(.c .bool)] fun x=>(none,JS (YC x.1 x.2.1 x.2.2.1 x.2.2.2.1 x.2.2.2.2.1))
def Qb5:List TRow:=[YO,Qo1,Qpx,Qn0]
def QuZ:TCode :=
 (zsq [(zsq [(.reg [zmv 42 13,zmv 43 12,zbi 44 .lss 42 43]),(.cond 44 .skip (.exit 0))]),(.block 1 (.reg [zmv 47 11,zmv 48 1,zmv 49 2,zmv 50 13,zca 51 159 [47,48,49,50],zmv 11 51])),(.reg [zmv 45 13,zbi 46 .add 45 (zki 1),zmv 13 46])])
def QCv:List (Nat × Md):=[(1,.one .d),(2,.one .d),(3,.one .d),(4,.one .d),(11,.one .f),(12,.one .d),(13,.one .d)]
def QDx:TCode :=
 (.reg [zmv 69 11,zmv 70 1,zmv 71 2,zmv 72 14,zmv 73 4,zca 74 160 [69,70,71,72,73],zmv 11 74])
def QYq:List (Nat × Md):=[(1,.one .d),(2,.one .d),(3,.one .d),(4,.one .d),(11,.one .f),(12,.one .d),(14,.one .d)]
def QLm:TCode:=.wk QYq QDx
def QDR:TCode :=
 (.reg [zmv 55 14,zbi 56 .add 55 (zki 1),zmv 14 56])
def Qm3:TCode :=
 (zsq [(zsq [(.reg [zmv 52 14,zmv 53 3,zbi 54 .lss 52 53]),(.cond 54 .skip (.exit 2))]),(.block 3 (zsq [(zsq [(.reg [zmv 57 12,zmv 58 14,zbi 59 .add 57 58,zmv 60 3,zbi 61 .lss 59 60]),(.cond 61 (.reg [zmv 62 11,zmv 63 1,zmv 64 2,zmv 65 12,zmv 66 14,zbi 67 .add 65 66,zca 68 159 [62,63,64,67],zmv 11 68]) .skip)]),QLm])),QDR])
def Qh2:List (Nat × Md):=[(1,.one .d),(2,.one .d),(3,.one .d),(4,.one .d),(11,.one .f),(12,.one .d),(14,.one .d)]
def QEs:TCode :=
 (zsq [(.reg [zmv 75 11,zop 76 (.build (z0s QQ) [(0,1,(zki 8))]),zop 77 (.bsl 111 QQ [76]),zop 78 (.app 75 77 111 QQ),zmv 10 78]),.ret])
def QDc:TCode :=
 (zsq [(zsq [(.reg [zmv 14 (zki 0)]),(.block 2 (.loop Qh2 Qm3))]),QEs])
def QTw:TCode :=
 (zsq [(.reg [zmv 10 (.k (.n QQ))]),(.reg [zop 15 (.bsl 111 QQ []),zmv 11 15]),(zsq [(.reg [zmv 16 0,zca 17 77 [16,(zki 1),(zki 2)],zno 18 17,zmv 19 18,.grp 19 false [zmv 20 1,zca 21 77 [20,(zki 1),(zki 4)],zno 22 21] 23 22,zmv 24 23,.grp 24 false [zmv 25 2,zmv 26 1,zbi 27 .sub 26 (zki 1),zca 28 77 [25,(zki 0),27],zno 29 28] 30 29,zmv 31 30,.grp 31 false [zmv 32 3,zca 33 77 [32,(zki 1),(zki 5)],zno 34 33] 35 34]),(.cond 35 (zsq [(.reg [zmv 36 11,zmv 10 36]),.ret]) .skip)]),(.reg [zmv 37 0,zmv 38 1,zmv 39 2,zmv 40 3,zca 41 158 [37,38,39,40],zmv 12 41]),(zsq [(.reg [zmv 13 (zki 0)]),(.block 0 (.loop QCv QuZ))]),QDc])
def QvL:List (ARv × Md):=[(.t 10,.one (.o 111))]
def QiD:Qb:=TQ 0 0 QvL K
def QKF:Qb:=Qseq (tawp Qb5 0 QEs (QiD K)) (QiD K)
def Qmu:Qb:=Qblk 2 (QKF K)
def QA0:Qb:=Qseq (fun s'=>Loop Qb5 0 Qh2 Qm3 (Qmu K) (gc 0 Qh2 s')) (Qmu K)
def QLY:Qb:=Qseq (tawp Qb5 0 QDR (QA0 K)) (QA0 K)
def QK4:Qb:=Qblk 3 (QLY K)
def QhQ (ds:Int) (stages:Int) (s:Int) (micro:Int) (redo:Bool) (l1:List TIns) (m1:Int):Prop:=tawp Qb5 0 QDx (QK4 K) ⟨[(1,(zci stages)),(2,(zci s)),(3,(zci micro)),(4,(zcb redo)),(11,(.r QQ 0 0 l1.length)),(12,(zci (YH ds stages s micro))),(14,(zci m1))],[(0,(.sl 111 QQ true l1))],1⟩
def QeO (ds:Int) (stages:Int) (s:Int) (micro:Int) (redo:Bool) (m1:Int) (l2:List TIns):Prop:=Loop Qb5 0 Qh2 Qm3 (Qmu K) ⟨[(1,(zci stages)),(2,(zci s)),(3,(zci micro)),(4,(zcb redo)),(11,(.r QQ 0 0 l2.length)),(12,(zci (YH ds stages s micro))),(14,(zci m1))],[(0,(.sl 111 QQ true l2))],1⟩
def QY3:Qb:=Qseq (tawp Qb5 0 QDc (QiD K)) (QiD K)
def QF3:Qb:=Qblk 0 (QY3 K)
def Qix (ds:Int) (stages:Int) (s:Int) (micro:Int) (redo:Bool) (m:Int) (l:List TIns):Prop:=Loop Qb5 0 QCv QuZ (QF3 K) ⟨[(1,(zci stages)),(2,(zci s)),(3,(zci micro)),(4,(zcb redo)),(11,(.r QQ 0 0 l.length)),(12,(zci (YH ds stages s micro))),(13,(zci m))],[(0,(.sl 111 QQ true l))],1⟩
theorem QJO (ds:Int) (stages:Int) (s:Int) (micro:Int) (redo:Bool) (l1:List TIns) (m1:Int) (h :
 (((l1.length=l1.length)∧(Qnp l1 stages s m1 redo))∧(QeO K ds stages s micro redo (w64 (m1+(1:Int))) (List.take ((QdZ l1 stages s m1 redo).length) (QdZ l1 stages s m1 redo))))):Hold (QhQ K ds stages s micro redo l1 m1) :=
 Hold.of (by kernel_rfl) h
theorem QDI (ds:Int) (stages:Int) (s:Int) (micro:Int) (redo:Bool) (m1:Int) (l2:List TIns) (h :
 (zif (decide (m1<micro)) (zif (decide ((w64 ((YH ds stages s micro)+m1))<micro)) (((l2.length=l2.length)∧(p_l9 l2 stages s (w64 ((YH ds stages s micro)+m1))))∧(QhQ K ds stages s micro redo (List.take ((Qcx l2 stages s (w64 ((YH ds stages s micro)+m1))).length) (Qcx l2 stages s (w64 ((YH ds stages s micro)+m1)))) m1)) (QhQ K ds stages s micro redo (List.take l2.length l2) m1)) (((l2.length=l2.length∨l2.length+1≤l2.length)∧l2.length+1≤big)∧K (JS (List.take (l2.length+1) ((List.take l2.length l2)++([((8:Int),(0:Int))]))))))):QeO K ds stages s micro redo m1 l2 :=
 Loop.of (by kernel_rfl) h
theorem QtF (ds:Int) (stages:Int) (s:Int) (micro:Int) (redo:Bool) (m:Int) (l:List TIns) (h :
 (zif (decide (m<(YH ds stages s micro))) (((l.length=l.length)∧(p_l9 l stages s m))∧(Qix K ds stages s micro redo (w64 (m+(1:Int))) (List.take ((Qcx l stages s m).length) (Qcx l stages s m)))) (QeO K ds stages s micro redo 0 (List.take l.length l)))):Qix K ds stages s micro redo m l :=
 Loop.of (by kernel_rfl) h
theorem QKz (ds:Int) (stages:Int) (s:Int) (micro:Int) (redo:Bool) (h :
 (zif ((((!(m_in ds (1:Int) (2:Int)))||(!(m_in stages (1:Int) (4:Int))))||(!(m_in s (0:Int) (w64 (stages-(1:Int))))))||(!(m_in micro (1:Int) (5:Int)))) (K (JS ([]:List TIns))) (Qix K ds stages s micro redo 0 ([]:List TIns)))):Hold (tawp Qb5 (0+0) QTw (TQ 0 0 QvL K) (Qg [(.c TI ds),(.c TI stages),(.c TI s),(.c TI micro),(.c .bool redo)])) :=
 Hold.of (by kernel_rfl) h
theorem QQi (ds:Int) (stages:Int) (s:Int) (micro:Int) (redo:Bool):TCon Tryz.prog 82 [(.c TI ds),(.c TI stages),(.c TI s),(.c TI micro),(.c .bool redo)] (JS (YC ds stages s micro redo)):=by
 refine Qo rfl fun hb=>tcg (n:=79) (sg:=Qni.sg) Qm (TOk.cons YX (TOk.cons QTL (TOk.cons QQI (TOk.cons QUz TOk.nil)))) (by kernel_rfl) (by kernel_rfl) (QKz _ ds stages s micro redo ?_)
 rw [QQX]
 by_cases hp:(m_in ds 1 2&&Y6 stages s micro)=true
 case neg =>
  rw [show (m_in ds 1 2&&Y6 stages s micro)=false by simpa using hp]
  exact ⟨fun _=>R_eq (Qtn hp).symm,fun h=>by simp at h⟩
 rw [hp]
 refine ⟨fun h=>by simp at h,fun _=>?_⟩
 have hq:Y6 stages s micro=true:=by simp only [Bool.and_eq_true] at hp;exact hp.2
 have hr:=Qpy.1 hq
 have hM:=QAg (redo:=redo) hp
 obtain ⟨w,hw⟩:∃ w:Nat,YH ds stages s micro=w:=⟨_,(Int.toNat_of_nonneg (Qo3 hq).1).symm⟩
 have hw5:=(Qo3 (ds:=ds) hq).2
 rw [hw] at hM hw5
 rw [Int.toNat_natCast] at hM
 refine Y4 w (fun k=>Qix (fun r'=>r'=JS (YC ds stages s micro redo)) ds stages s micro redo (k:Int) (Qb6 stages s k)) ?_ ?_
 ·refine QtF (fun r'=>r'=JS (YC ds stages s micro redo)) ds stages s micro redo _ _ ⟨fun h=>by simp [hw] at h,fun _=>?_⟩
  rw [List.take_length]
  suffices h:QeO (fun r'=>r'=JS (YC ds stages s micro redo)) ds stages s micro redo ((0:Nat):Int) (Qb6 stages s w++QbM stages s micro redo w 0) by
   rw [show QbM stages s micro redo w 0=[] from rfl,List.append_nil] at h;exact h
  refine Y4 micro.toNat (fun k=>QeO (fun r'=>r'=JS (YC ds stages s micro redo)) ds stages s micro redo (k:Int) (Qb6 stages s w++QbM stages s micro redo w k)) ?_ ?_
  ·have h1:=Qjd stages s w
   have h2:=QoZ stages s micro redo w micro.toNat
   refine QDI (fun r'=>r'=JS (YC ds stages s micro redo)) ds stages s micro redo _ _ ⟨fun h=>by simp at h;omega,fun _=>⟨⟨.inl rfl,by rw [List.length_append,Q9];omega⟩,R_eq ?_⟩⟩
   rw [Q8,hM]
  ·intro k hk ih
   have h1:=Qjd stages s w
   have h2:=QoZ stages s micro redo w k
   have key:∀ l:List TIns,l=Qb6 stages s w++QbM stages s micro redo w k++(if (k:Int)+w<micro then QaE stages s ((k:Int)+w) else [])→QhQ (fun r'=>r'=JS (YC ds stages s micro redo)) ds stages s micro redo l (k:Int):=by
    intro l hl
    have h3:=QBQ stages s k redo
    have h4:=QfK stages s ((k:Int)+w)
    have h5:l.length≤1000:=by rw [hl];split <;> simp only [List.length_append,List.length_nil] <;> omega
    refine (QJO (fun r'=>r'=JS (YC ds stages s micro redo)) ds stages s micro redo l _ ⟨⟨rfl,⟨by omega,by omega⟩,by omega⟩,?_⟩).h
    rw [List.take_length,sc1 (by omega)]
    rw [QXm] at ih
    unfold QdZ
    rw [hl,List.append_assoc,List.append_assoc]
    unfold QhA at ih
    exact ih
   refine QDI (fun r'=>r'=JS (YC ds stages s micro redo)) ds stages s micro redo _ _ ⟨fun _=>?_,fun h=>by simp at h;omega⟩
   rw [hw,Int.add_comm (w:Int) k,Qr (x:=(k:Int)+w) (by omega) (by omega)]
   have h4:=QfK stages s ((k:Int)+w)
   refine ⟨fun h=>⟨⟨rfl,⟨by omega,by omega⟩,by rw [List.length_append];omega⟩,key _ ?_⟩,fun h=>key _ ?_⟩
   ·rw [List.take_length,if_pos (of_decide_eq_true h)];rfl
   ·rw [if_neg (of_decide_eq_false h),List.take_length,List.append_nil]
 ·intro k hk ih
  have h1:=Qjd stages s k
  have h4:=QfK stages s k
  refine QtF (fun r'=>r'=JS (YC ds stages s micro redo)) ds stages s micro redo _ _ ⟨fun _=>⟨⟨rfl,⟨by omega,by omega⟩,by omega⟩,?_⟩,fun h=>by simp [hw] at h;omega⟩
  rw [List.take_length,sc1 (by omega)]
  rw [QJU] at ih
  exact ih
theorem QVa:Qj Tryz.prog Qni:=Qn fun x _=>QQi x.1 x.2.1 x.2.2.1 x.2.2.2.1 x.2.2.2.2.1
end
end Go.Proofs.YtjbdljkhbglnhaaGreat.Am

