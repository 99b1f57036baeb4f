/- -/
import Derived.Test.YtjbdljkhbglnhaaGreatZJPE
import Derived.Test.YtjbdljkhbglnhaaGreatZJP1
import Derived.Test.YtjbdljkhbglnhaaGreatZJG9
namespace Go.Proofs.YtjbdljkhbglnhaaGreat.Am
open Go Go.RowKit Go.Proofs.YtjbdljkhbglnhaaGreat
set_option linter.all false
noncomputable section
variable (K:TRes→Prop)
def Qbs (t:(List TIns)):TRes:=⟨(.r QE 0 0 t.length),[(.sl 111 QE true t)],[],true,[.dead]⟩
def Qkr:TRow:=Qg 159 [(.o 111 QE),(.c TI),(.c TI),(.c TI)] fun x=>(some (p_l9 x.1 x.2.1 x.2.2.1 x.2.2.2.1),Qbs (QaG x.1 x.2.1 x.2.2.1 x.2.2.2.1))
def Qw9:List TRow:=[]
def QIS:TCode :=
 (zsq [(.reg [zmv 8 (.k (.n QE))]),(zsq [(.reg [zmv 9 2,zbi 10 .gtr 9 (zki 0)]),(.cond 10 (.reg [zmv 11 0,zmv 12 3,zop 13 (.build (z0s QE) [(0,1,(zki 1)),(1,1,12)]),zop 14 (.bsl 111 QE [13]),zop 15 (.app 11 14 111 QE),zmv 0 15]) .skip)]),(.reg [zmv 16 0,zmv 17 3,zop 18 (.build (z0s QE) [(0,1,(zki 2)),(1,1,17)]),zop 19 (.bsl 111 QE [18]),zop 20 (.app 16 19 111 QE),zmv 0 20]),(zsq [(.reg [zmv 21 2,zmv 22 1,zbi 23 .sub 22 (zki 1),zbi 24 .lss 21 23]),(.cond 24 (.reg [zmv 25 0,zmv 26 3,zop 27 (.build (z0s QE) [(0,1,(zki 3)),(1,1,26)]),zop 28 (.bsl 111 QE [27]),zop 29 (.app 25 28 111 QE),zmv 0 29]) .skip)]),(.reg [zmv 30 0,zmv 8 30]),.ret])
def QDM:List (ARv × Md):=[(.t 8,.one (.o 111))]
theorem QBg (l:List TIns) (stages:Int) (s:Int) (m:Int) (h :
 (zif (decide (s>(0:Int))) (((l.length=l.length∨l.length+1≤l.length)∧l.length+1≤big)∧((((l.length+1)=((List.take l.length l)++([((1:Int),m)])).length∨(l.length+1)+1≤((List.take l.length l)++([((1:Int),m)])).length)∧(l.length+1)+1≤big)∧(zif (decide (s<(w64 (stages-(1:Int))))) (((((l.length+1)+1)=((List.take (l.length+1) ((List.take l.length l)++([((1:Int),m)])))++([((2:Int),m)])).length∨((l.length+1)+1)+1≤((List.take (l.length+1) ((List.take l.length l)++([((1:Int),m)])))++([((2:Int),m)])).length)∧((l.length+1)+1)+1≤big)∧K (Qbs (List.take (((l.length+1)+1)+1) ((List.take ((l.length+1)+1) ((List.take (l.length+1) ((List.take l.length l)++([((1:Int),m)])))++([((2:Int),m)])))++([((3:Int),m)]))))) (K (Qbs (List.take ((l.length+1)+1) ((List.take (l.length+1) ((List.take l.length l)++([((1:Int),m)])))++([((2:Int),m)])))))))) (((l.length=l.length∨l.length+1≤l.length)∧l.length+1≤big)∧(zif (decide (s<(w64 (stages-(1:Int))))) ((((l.length+1)=((List.take l.length l)++([((2:Int),m)])).length∨(l.length+1)+1≤((List.take l.length l)++([((2:Int),m)])).length)∧(l.length+1)+1≤big)∧K (Qbs (List.take ((l.length+1)+1) ((List.take (l.length+1) ((List.take l.length l)++([((2:Int),m)])))++([((3:Int),m)]))))) (K (Qbs (List.take (l.length+1) ((List.take l.length l)++([((2:Int),m)]))))))))):Hold (tawp Qw9 (0+1) QIS (TQ 0 1 QDM K) (Qe [(.ow 111 QE l),(.c TI stages),(.c TI s),(.c TI m)])) :=
 Hold.of (by kernel_rfl) h
theorem QI1 (l:List TIns) (stages:Int) (s:Int) (m:Int) (hp:p_l9 l stages s m):TCon Tryz.prog 159 [(.ow 111 QE l),(.c TI stages),(.c TI s),(.c TI m)] (Qbs (QaG l stages s m)):=by
 refine Ql rfl fun hb=>tcg (n:=31) (sg:=Qkr.sg) Qi TOk.nil (by kernel_rfl) (by kernel_rfl) (QBg _ l stages s m ?_)
 obtain ⟨⟨h1,h2⟩,hl⟩:=hp
 have hw:w64 (stages-1)=stages-1:=Qs (by omega) (by omega)
 have hb:l.length+100≤big:=by rw [ZC];omega
 rw [hw]
 unfold QaG Je
 refine ⟨fun h=>?_,fun h=>?_⟩
 all_goals
  simp at h
  first | have h0:0<s:=h | have h0:¬ 0<s:=by omega
  refine ⟨⟨.inl rfl,by omega⟩,?_⟩
  first
  | refine ⟨⟨.inl (by simp),by omega⟩,fun h3=>⟨⟨.inl (by simp),by omega⟩,R_eq ?_⟩,fun h3=>R_eq ?_⟩
  | refine ⟨fun h3=>⟨⟨.inl (by simp),by omega⟩,R_eq ?_⟩,fun h3=>R_eq ?_⟩
  all_goals
   simp at h3
   first | have h4:s<stages-1:=h3 | have h4:¬ s<stages-1:=by omega
   simp [h0,h4,List.take_of_length_le]
theorem QHS:Qh Tryz.prog Qkr:=Qk fun x h=>QI1 x.1 x.2.1 x.2.2.1 x.2.2.2.1 h
def Jb (t:(List TIns)):TRes:=⟨(.r QE 0 0 t.length),[(.sl 111 QE true t)],[],true,[.dead]⟩
def QiP:TRow:=Qg 160 [(.o 111 QE),(.c TI),(.c TI),(.c TI),(.c .bool)] fun x=>(some (Qie x.1 x.2.1 x.2.2.1 x.2.2.2.1 x.2.2.2.2.1),Jb (Qce x.1 x.2.1 x.2.2.1 x.2.2.2.1 x.2.2.2.2.1))
def QFb:List TRow:=[]
def Qx9:TCode :=
 (zsq [(.reg [zmv 10 (.k (.n QE))]),(zsq [(.reg [zmv 11 2,zmv 12 1,zbi 13 .sub 12 (zki 1),zbi 14 .lss 11 13]),(.cond 14 (.reg [zmv 15 0,zmv 16 3,zop 17 (.build (z0s QE) [(0,1,(zki 4)),(1,1,16)]),zop 18 (.bsl 111 QE [17]),zop 19 (.app 15 18 111 QE),zmv 0 19]) .skip)]),(zsq [(.reg [zmv 20 4]),(.cond 20 (.reg [zmv 21 0,zmv 22 3,zop 23 (.build (z0s QE) [(0,1,(zki 5)),(1,1,22)]),zop 24 (.bsl 111 QE [23]),zop 25 (.app 21 24 111 QE),zmv 0 25]) .skip)]),(.reg [zmv 26 0,zmv 27 3,zop 28 (.build (z0s QE) [(0,1,(zki 6)),(1,1,27)]),zop 29 (.bsl 111 QE [28]),zop 30 (.app 26 29 111 QE),zmv 0 30]),(zsq [(.reg [zmv 31 2,zbi 32 .gtr 31 (zki 0)]),(.cond 32 (.reg [zmv 33 0,zmv 34 3,zop 35 (.build (z0s QE) [(0,1,(zki 7)),(1,1,34)]),zop 36 (.bsl 111 QE [35]),zop 37 (.app 33 36 111 QE),zmv 0 37]) .skip)]),(.reg [zmv 38 0,zmv 10 38]),.ret])
def QvE:List (ARv × Md):=[(.t 10,.one (.o 111))]
theorem QD7 (l:List TIns) (stages:Int) (s:Int) (m:Int) (redo:Bool) (h :
 let z1:=List.take l.length l
 (zif (decide (s<(w64 (stages-(1:Int))))) (((l.length=l.length∨l.length+1≤l.length)∧l.length+1≤big)∧(zif redo ((((l.length+1)=(z1++([((4:Int),m)])).length∨(l.length+1)+1≤(z1++([((4:Int),m)])).length)∧(l.length+1)+1≤big)∧(((((l.length+1)+1)=((List.take (l.length+1) (z1++([((4:Int),m)])))++([((5:Int),m)])).length∨((l.length+1)+1)+1≤((List.take (l.length+1) (z1++([((4:Int),m)])))++([((5:Int),m)])).length)∧((l.length+1)+1)+1≤big)∧(zif (decide (s>(0:Int))) ((((((l.length+1)+1)+1)=((List.take ((l.length+1)+1) ((List.take (l.length+1) (z1++([((4:Int),m)])))++([((5:Int),m)])))++([((6:Int),m)])).length∨(((l.length+1)+1)+1)+1≤((List.take ((l.length+1)+1) ((List.take (l.length+1) (z1++([((4:Int),m)])))++([((5:Int),m)])))++([((6:Int),m)])).length)∧(((l.length+1)+1)+1)+1≤big)∧K (Jb (List.take ((((l.length+1)+1)+1)+1) ((List.take (((l.length+1)+1)+1) ((List.take ((l.length+1)+1) ((List.take (l.length+1) (z1++([((4:Int),m)])))++([((5:Int),m)])))++([((6:Int),m)])))++([((7:Int),m)]))))) (K (Jb (List.take (((l.length+1)+1)+1) ((List.take ((l.length+1)+1) ((List.take (l.length+1) (z1++([((4:Int),m)])))++([((5:Int),m)])))++([((6:Int),m)])))))))) ((((l.length+1)=(z1++([((4:Int),m)])).length∨(l.length+1)+1≤(z1++([((4:Int),m)])).length)∧(l.length+1)+1≤big)∧(zif (decide (s>(0:Int))) (((((l.length+1)+1)=((List.take (l.length+1) (z1++([((4:Int),m)])))++([((6:Int),m)])).length∨((l.length+1)+1)+1≤((List.take (l.length+1) (z1++([((4:Int),m)])))++([((6:Int),m)])).length)∧((l.length+1)+1)+1≤big)∧K (Jb (List.take (((l.length+1)+1)+1) ((List.take ((l.length+1)+1) ((List.take (l.length+1) (z1++([((4:Int),m)])))++([((6:Int),m)])))++([((7:Int),m)]))))) (K (Jb (List.take ((l.length+1)+1) ((List.take (l.length+1) (z1++([((4:Int),m)])))++([((6:Int),m)]))))))))) (zif redo (((l.length=l.length∨l.length+1≤l.length)∧l.length+1≤big)∧((((l.length+1)=(z1++([((5:Int),m)])).length∨(l.length+1)+1≤(z1++([((5:Int),m)])).length)∧(l.length+1)+1≤big)∧(zif (decide (s>(0:Int))) (((((l.length+1)+1)=((List.take (l.length+1) (z1++([((5:Int),m)])))++([((6:Int),m)])).length∨((l.length+1)+1)+1≤((List.take (l.length+1) (z1++([((5:Int),m)])))++([((6:Int),m)])).length)∧((l.length+1)+1)+1≤big)∧K (Jb (List.take (((l.length+1)+1)+1) ((List.take ((l.length+1)+1) ((List.take (l.length+1) (z1++([((5:Int),m)])))++([((6:Int),m)])))++([((7:Int),m)]))))) (K (Jb (List.take ((l.length+1)+1) ((List.take (l.length+1) (z1++([((5:Int),m)])))++([((6:Int),m)])))))))) (((l.length=l.length∨l.length+1≤l.length)∧l.length+1≤big)∧(zif (decide (s>(0:Int))) ((((l.length+1)=(z1++([((6:Int),m)])).length∨(l.length+1)+1≤(z1++([((6:Int),m)])).length)∧(l.length+1)+1≤big)∧K (Jb (List.take ((l.length+1)+1) ((List.take (l.length+1) (z1++([((6:Int),m)])))++([((7:Int),m)]))))) (K (Jb (List.take (l.length+1) (z1++([((6:Int),m)])))))))))):Hold (tawp QFb (0+1) Qx9 (TQ 0 1 QvE K) (Qe [(.ow 111 QE l),(.c TI stages),(.c TI s),(.c TI m),(.c .bool redo)])) :=
 Hold.of (by kernel_rfl) h
theorem QBR (l:List TIns) (stages:Int) (s:Int) (m:Int) (redo:Bool) (hp:Qie l stages s m redo):TCon Tryz.prog 160 [(.ow 111 QE l),(.c TI stages),(.c TI s),(.c TI m),(.c .bool redo)] (Jb (Qce l stages s m redo)):=by
 refine Ql rfl fun hb=>tcg (n:=39) (sg:=QiP.sg) Qi TOk.nil (by kernel_rfl) (by kernel_rfl) (QD7 _ l stages s m redo ?_)
 conv=>zeta
 obtain ⟨⟨h1,h2⟩,hl⟩:=hp
 have hw:w64 (stages-1)=stages-1:=Qs (by omega) (by omega)
 have hb:l.length+100≤big:=by rw [ZC];omega
 rw [hw]
 unfold Qce Qcg
 have hd:∀ k,List.take k (l++[])=List.take k l:=by intro k;rw [List.append_nil]
 by_cases c1:s<stages-1
 all_goals
  cases redo
  all_goals
   by_cases c3:0<s
   all_goals
    simp only [zif,gt_iff_lt,c1,c3,decide_true,decide_false,Bool.false_eq_true,true_implies,false_implies,true_and,and_true,reduceCtorEq,if_true,if_false,List.nil_append,List.append_nil]
    simp [zif,List.take_of_length_le,ZC]
    try omega
    try exact R_eq (by simp [List.take_of_length_le])
theorem QEc:Qh Tryz.prog QiP:=Qk fun x h=>QBR x.1 x.2.1 x.2.2.1 x.2.2.2.1 x.2.2.2.2.1 h
def YK (t:(List TIns)):TRes:=⟨(.r QE 0 0 t.length),[(.sl 111 QE true t)],[],true,[]⟩
def Qkw:TRow:=Qg 82 [(.c TI),(.c TI),(.c TI),(.c TI),(.c .bool)] fun x=>(none,YK (ZR x.1 x.2.1 x.2.2.1 x.2.2.2.1 x.2.2.2.2.1))
def Qad:List TRow:=[Y4,QiN,Qkr,QiP]
def Qup:TCode :=
 (zsq [(zsq [(.reg [zmv 42 13,zmv 43 12,zbi 44 .lss 42 43]),(.cond 44 .skip (.exit 0))]),(.block 1 (.reg [zmv 47 11,zmv 48 1,zmv 49 2,zmv 50 13,zca 51 159 [47,48,49,50],zmv 11 51])),(.reg [zmv 45 13,zbi 46 .add 45 (zki 1),zmv 13 46])])
def Qt0:List (Nat × Md):=[(1,.one .d),(2,.one .d),(3,.one .d),(4,.one .d),(11,.one .f),(12,.one .d),(13,.one .d)]
def QmL:TCode :=
 (.reg [zmv 69 11,zmv 70 1,zmv 71 2,zmv 72 14,zmv 73 4,zca 74 160 [69,70,71,72,73],zmv 11 74])
def Qzg:List (Nat × Md):=[(1,.one .d),(2,.one .d),(3,.one .d),(4,.one .d),(11,.one .f),(12,.one .d),(14,.one .d)]
def QCO:TCode:=.wk Qzg QmL
def Qpz:TCode :=
 (.reg [zmv 55 14,zbi 56 .add 55 (zki 1),zmv 14 56])
def Qjt:TCode :=
 (zsq [(zsq [(.reg [zmv 52 14,zmv 53 3,zbi 54 .lss 52 53]),(.cond 54 .skip (.exit 2))]),(.block 3 (zsq [(zsq [(.reg [zmv 57 12,zmv 58 14,zbi 59 .add 57 58,zmv 60 3,zbi 61 .lss 59 60]),(.cond 61 (.reg [zmv 62 11,zmv 63 1,zmv 64 2,zmv 65 12,zmv 66 14,zbi 67 .add 65 66,zca 68 159 [62,63,64,67],zmv 11 68]) .skip)]),QCO])),Qpz])
def QdV:List (Nat × Md):=[(1,.one .d),(2,.one .d),(3,.one .d),(4,.one .d),(11,.one .f),(12,.one .d),(14,.one .d)]
def Qou:TCode :=
 (zsq [(.reg [zmv 75 11,zop 76 (.build (z0s QE) [(0,1,(zki 8))]),zop 77 (.bsl 111 QE [76]),zop 78 (.app 75 77 111 QE),zmv 10 78]),.ret])
def QmQ:TCode :=
 (zsq [(zsq [(.reg [zmv 14 (zki 0)]),(.block 2 (.loop QdV Qjt))]),Qou])
def QIj:TCode :=
 (zsq [(.reg [zmv 10 (.k (.n QE))]),(.reg [zop 15 (.bsl 111 QE []),zmv 11 15]),(zsq [(.reg [zmv 16 0,zca 17 77 [16,(zki 1),(zki 2)],zno 18 17,zmv 19 18,.grp 19 false [zmv 20 1,zca 21 77 [20,(zki 1),(zki 4)],zno 22 21] 23 22,zmv 24 23,.grp 24 false [zmv 25 2,zmv 26 1,zbi 27 .sub 26 (zki 1),zca 28 77 [25,(zki 0),27],zno 29 28] 30 29,zmv 31 30,.grp 31 false [zmv 32 3,zca 33 77 [32,(zki 1),(zki 5)],zno 34 33] 35 34]),(.cond 35 (zsq [(.reg [zmv 36 11,zmv 10 36]),.ret]) .skip)]),(.reg [zmv 37 0,zmv 38 1,zmv 39 2,zmv 40 3,zca 41 158 [37,38,39,40],zmv 12 41]),(zsq [(.reg [zmv 13 (zki 0)]),(.block 0 (.loop Qt0 Qup))]),QmQ])
def Qrt:List (ARv × Md):=[(.t 10,.one (.o 111))]
def Qej:Qc:=TQ 0 0 Qrt K
def QEf:Qc:=Qseq (tawp Qad 0 Qou (Qej K)) (Qej K)
def QhA:Qc:=Qblk 2 (QEf K)
def QqF:Qc:=Qseq (fun s'=>Loop Qad 0 QdV Qjt (QhA K) (gc 0 QdV s')) (QhA K)
def QDp:Qc:=Qseq (tawp Qad 0 Qpz (QqF K)) (QqF K)
def QCK:Qc:=Qblk 3 (QDp K)
@[irreducible] def Qe8 (ds:Int) (stages:Int) (s:Int) (micro:Int) (redo:Bool) (l1:List TIns) (m1:Int):Prop:=tawp Qad 0 QmL (QCK K) ⟨[(1,(zci stages)),(2,(zci s)),(3,(zci micro)),(4,(zcb redo)),(11,(.r QE 0 0 l1.length)),(12,(zci (Z5 ds stages s micro))),(14,(zci m1))],[(0,(.sl 111 QE true l1))],1⟩
def Qc9 (ds:Int) (stages:Int) (s:Int) (micro:Int) (redo:Bool) (m1:Int) (l2:List TIns):Prop:=Loop Qad 0 QdV Qjt (QhA K) ⟨[(1,(zci stages)),(2,(zci s)),(3,(zci micro)),(4,(zcb redo)),(11,(.r QE 0 0 l2.length)),(12,(zci (Z5 ds stages s micro))),(14,(zci m1))],[(0,(.sl 111 QE true l2))],1⟩
def Qwt:Qc:=Qseq (tawp Qad 0 QmQ (Qej K)) (Qej K)
def QDx:Qc:=Qblk 0 (Qwt K)
def Qfd (ds:Int) (stages:Int) (s:Int) (micro:Int) (redo:Bool) (m:Int) (l:List TIns):Prop:=Loop Qad 0 Qt0 Qup (QDx K) ⟨[(1,(zci stages)),(2,(zci s)),(3,(zci micro)),(4,(zcb redo)),(11,(.r QE 0 0 l.length)),(12,(zci (Z5 ds stages s micro))),(13,(zci m))],[(0,(.sl 111 QE true l))],1⟩
theorem QFX (ds:Int) (stages:Int) (s:Int) (micro:Int) (redo:Bool) (l1:List TIns) (m1:Int) (h :
 (((l1.length=l1.length)∧(Qie l1 stages s m1 redo))∧(Qc9 K ds stages s micro redo (w64 (m1+(1:Int))) (List.take ((Qce l1 stages s m1 redo).length) (Qce l1 stages s m1 redo))))):Hold (Qe8 K ds stages s micro redo l1 m1) :=
 Hold.of (by kernel_rfl) h
theorem Qq2 (ds:Int) (stages:Int) (s:Int) (micro:Int) (redo:Bool) (m1:Int) (l2:List TIns) (h :
 (zif (decide (m1<micro)) (zif (decide ((w64 ((Z5 ds stages s micro)+m1))<micro)) (((l2.length=l2.length)∧(p_l9 l2 stages s (w64 ((Z5 ds stages s micro)+m1))))∧(Qe8 K ds stages s micro redo (List.take ((QaG l2 stages s (w64 ((Z5 ds stages s micro)+m1))).length) (QaG l2 stages s (w64 ((Z5 ds stages s micro)+m1)))) m1)) (Qe8 K ds stages s micro redo (List.take l2.length l2) m1)) (((l2.length=l2.length∨l2.length+1≤l2.length)∧l2.length+1≤big)∧K (YK (List.take (l2.length+1) ((List.take l2.length l2)++([((8:Int),(0:Int))]))))))):Qc9 K ds stages s micro redo m1 l2 :=
 Loop.of (by kernel_rfl) h
theorem QtT (ds:Int) (stages:Int) (s:Int) (micro:Int) (redo:Bool) (m:Int) (l:List TIns) (h :
 (zif (decide (m<(Z5 ds stages s micro))) (((l.length=l.length)∧(p_l9 l stages s m))∧(Qfd K ds stages s micro redo (w64 (m+(1:Int))) (List.take ((QaG l stages s m).length) (QaG l stages s m)))) (Qc9 K ds stages s micro redo 0 (List.take l.length l)))):Qfd K ds stages s micro redo m l :=
 Loop.of (by kernel_rfl) h
theorem QFD (ds:Int) (stages:Int) (s:Int) (micro:Int) (redo:Bool) (h :
 (zif ((((!(m_in ds (1:Int) (2:Int)))||(!(m_in stages (1:Int) (4:Int))))||(!(m_in s (0:Int) (w64 (stages-(1:Int))))))||(!(m_in micro (1:Int) (5:Int)))) (K (YK ([]:List TIns))) (Qfd K ds stages s micro redo 0 ([]:List TIns)))):Hold (tawp Qad (0+0) QIj (TQ 0 0 Qrt K) (Qe [(.c TI ds),(.c TI stages),(.c TI s),(.c TI micro),(.c .bool redo)])) :=
 Hold.of (by kernel_rfl) h
theorem QGF (ds:Int) (stages:Int) (s:Int) (micro:Int) (redo:Bool):TCon Tryz.prog 82 [(.c TI ds),(.c TI stages),(.c TI s),(.c TI micro),(.c .bool redo)] (YK (ZR ds stages s micro redo)):=by
 refine Ql rfl fun hb=>tcg (n:=79) (sg:=Qkw.sg) Qi (TOk.cons JB (TOk.cons QIa (TOk.cons QHS (TOk.cons QEc TOk.nil)))) (by kernel_rfl) (by kernel_rfl) (QFD _ ds stages s micro redo ?_)
 rw [QxJ]
 by_cases hp:(m_in ds 1 2&&Yn stages s micro)=true
 case neg =>
  rw [show (m_in ds 1 2&&Yn stages s micro)=false by simpa using hp]
  exact ⟨fun _=>R_eq (QwP hp).symm,fun h=>by simp at h⟩
 rw [hp]
 refine ⟨fun h=>by simp at h,fun _=>?_⟩
 have hq:Yn stages s micro=true:=by simp only [Bool.and_eq_true] at hp;exact hp.2
 have hr:=Qul.1 hq
 have hM:=Qz9 (redo:=redo) hp
 obtain ⟨w,hw⟩:∃ w:Nat,Z5 ds stages s micro=w:=⟨_,(Int.toNat_of_nonneg (QnA hq).1).symm⟩
 have hw5:=(QnA (ds:=ds) hq).2
 rw [hw] at hM hw5
 rw [Int.toNat_natCast] at hM
 refine Y7 w (fun k=>Qfd (fun r'=>r'=YK (ZR ds stages s micro redo)) ds stages s micro redo (k:Int) (J6 stages s k)) ?_ ?_
 ·refine QtT (fun r'=>r'=YK (ZR ds stages s micro redo)) ds stages s micro redo _ _ ⟨fun h=>by simp [hw] at h,fun _=>?_⟩
  rw [List.take_length]
  suffices h:Qc9 (fun r'=>r'=YK (ZR ds stages s micro redo)) ds stages s micro redo ((0:Nat):Int) (J6 stages s w++Qai stages s micro redo w 0) by
   rw [show Qai stages s micro redo w 0=[] from rfl,List.append_nil] at h;exact h
  refine Y7 micro.toNat (fun k=>Qc9 (fun r'=>r'=YK (ZR ds stages s micro redo)) ds stages s micro redo (k:Int) (J6 stages s w++Qai stages s micro redo w k)) ?_ ?_
  ·have h1:=Qg0 stages s w
   have h2:=QmX stages s micro redo w micro.toNat
   refine Qq2 (fun r'=>r'=YK (ZR ds stages s micro redo)) ds stages s micro redo _ _ ⟨fun h=>by simp at h;omega,fun _=>⟨⟨.inl rfl,by rw [List.length_append,ZC];omega⟩,R_eq ?_⟩⟩
   rw [Q9,hM]
  ·intro k hk ih
   have h1:=Qg0 stages s w
   have h2:=QmX stages s micro redo w k
   have key:∀ l:List TIns,l=J6 stages s w++Qai stages s micro redo w k++(if (k:Int)+w<micro then Je stages s ((k:Int)+w) else [])→Qe8 (fun r'=>r'=YK (ZR ds stages s micro redo)) ds stages s micro redo l (k:Int):=by
    intro l hl
    have h3:=Qq0 stages s k redo
    have h4:=QcN stages s ((k:Int)+w)
    have h5:l.length≤1000:=by rw [hl];split <;> simp only [List.length_append,List.length_nil] <;> omega
    refine (QFX (fun r'=>r'=YK (ZR ds stages s micro redo)) ds stages s micro redo l _ ⟨⟨rfl,⟨by omega,by omega⟩,by omega⟩,?_⟩).h
    rw [List.take_length,sc1 (by omega)]
    rw [QHj] at ih
    unfold Qce
    rw [hl,List.append_assoc,List.append_assoc]
    unfold QeN at ih
    exact ih
   refine Qq2 (fun r'=>r'=YK (ZR ds stages s micro redo)) ds stages s micro redo _ _ ⟨fun _=>?_,fun h=>by simp at h;omega⟩
   rw [hw,Int.add_comm (w:Int) k,Qs (x:=(k:Int)+w) (by omega) (by omega)]
   have h4:=QcN stages s ((k:Int)+w)
   refine ⟨fun h=>⟨⟨rfl,⟨by omega,by omega⟩,by rw [List.length_append];omega⟩,key _ ?_⟩,fun h=>key _ ?_⟩
   ·rw [List.take_length,if_pos (of_decide_eq_true h)];rfl
   ·rw [if_neg (of_decide_eq_false h),List.take_length,List.append_nil]
 ·intro k hk ih
  have h1:=Qg0 stages s k
  have h4:=QcN stages s k
  refine QtT (fun r'=>r'=YK (ZR ds stages s micro redo)) ds stages s micro redo _ _ ⟨fun _=>⟨⟨rfl,⟨by omega,by omega⟩,by omega⟩,?_⟩,fun h=>by simp [hw] at h;omega⟩
  rw [List.take_length,sc1 (by omega)]
  rw [Qz8] at ih
  exact ih
theorem QBn:Qh Tryz.prog Qkw:=Qk fun x _=>QGF x.1 x.2.1 x.2.2.1 x.2.2.2.1 x.2.2.2.2.1
end
end Go.Proofs.YtjbdljkhbglnhaaGreat.Am

