/- -/
import Derived.Test.YtjbdljkhbglnhaaGreatZBD1
import Derived.Test.YtjbdljkhbglnhaaGreatZBP4
import Derived.Test.YtjbdljkhbglnhaaGreatZBD2
import Derived.Test.YtjbdljkhbglnhaaGreatZBD4
import Derived.Test.YtjbdljkhbglnhaaGreatZBP6
import Derived.Test.YtjbdljkhbglnhaaGreatZBG9
namespace Go.Proofs.YtjbdljkhbglnhaaGreat.Am
open Go Go.RowKit Go.Proofs.YtjbdljkhbglnhaaGreat
set_option linter.all false
set_option maxHeartbeats 2000000
noncomputable section
variable (K:TRes→Prop)
def Qa9 (t:(List Qg) × (((List Int) × Int × Int))):TRes:=⟨(.r QB 0 0 ((t.1).length)),[(.sl 108 QB true t.1)],[[(zcs [(.int .u8)] t.2.1),(zci t.2.2.1),(zci t.2.2.2)]],true,[]⟩
def Zz (x0:((List Int) × Int × Int)) (x1:List TOp'):(List Qg) × (((List Int) × Int × Int)):=Classical.epsilon fun t:(List Qg) × (((List Int) × Int × Int))=>(QcO x0 x1 t)∧TCon Tryz.prog 200 [(.bx [(.c (.sl [(.int .u8)]) x0.1),(.c TI x0.2.1),(.c TI x0.2.2)]),(.a [(.c (.sl ctOp) x1)])] (Qa9 t)
def Qhq:TRow:=Qi 200 [(.b [(.sl [(.int .u8)]),TI,TI]),(.a [(.sl ctOp)])] fun x=>(some (Q9 x.1 x.2.1),Qa9 (Zz x.1 x.2.1))
def Qi4:List TRow:=[Jq,Qg9,Qe5,Qga]
def QrP:TCode :=
 (zsq [(zsq [(.reg [zmv 11 6,zbi 12 .gtr 11 (zki 0)]),(.cond 12 .skip (.exit 0))]),(.block 1 (.draw [zmv 15 5,zmv 16 0,zLd 17 3 1,zca 18 153 [17],zca 19 105 [16,18],zmv 20 0,zLd 21 3 1,zca 22 154 [21],zca 23 105 [20,22],zop 24 (.build (z0s QB) [(0,1,19),(1,1,23)]),zop 25 (.bsl 108 QB [24]),zop 26 (.app 15 25 108 QB),zmv 5 26] [(3,6),(4,6)])),(.reg [zmv 13 6,zbi 14 .sub 13 (zki 1),zmv 6 14])])
def QpF:List (Nat × Md):=[(0,.b [.d,.d,.d]),(3,.b [.d]),(5,.one .f),(6,.one .d)]
def QoF:TCode :=
 (zsq [(.reg [zmv 27 5,zmv 4 27]),.ret])
def QDj:TCode :=
 (zsq [(.reg [zop 3 (.box 26 1 1),zmv 4 (.k (.n QB))]),(.reg [zop 7 (.bsl 108 QB []),zmv 5 7]),(zsq [(.reg [zmv 8 0,zca 9 108 [8,(zki 4)],zbi 10 .add (zki 1) 9,zmv 6 10]),(.block 0 (.loop QpF QrP))]),QoF])
def QtE:List (ARv × Md):=[(.t 4,.one (.o 108))]
def QxX:Qb:=TQ 1 0 QtE K
def QPO:Qb:=Qseq (tawp Qi4 1 QoF (QxX K)) (QxX K)
def QJr:Qb:=Qblk 0 (QPO K)
def Qha (m:List TOp') (n:Int) (c0:List Int) (c1:Int) (c2:Int) (b:List Qg):Prop:=Loop Qi4 1 QpF QrP (QJr K) ⟨[(0,(.p 0 0 0)),(3,(.p 1 0 0)),(5,(.r QB 2 0 b.length)),(6,(zci n))],[(0,(.box [(zcs [(.int .u8)] c0),(zci c1),(zci c2)])),(1,(.box [(zcs ctOp m)])),(2,(.sl 108 QB true b))],3⟩
theorem QqZ (m:List TOp') (n:Int) (c0:List Int) (c1:Int) (c2:Int) (b:List Qg) (h :
 (zif (decide (n>(0:Int))) (((Jx (c0,c1,c2) (QZ m))∧((Jx ((Yd (c0,c1,c2) (QZ m)).2) (Q1 m))∧((b.length=b.length∨b.length+1≤b.length)∧b.length+1≤big)))∧(Qha K m (w64 (n-(1:Int))) (((Yd ((Yd (c0,c1,c2) (QZ m)).2) (Q1 m)).2).1) (((Yd ((Yd (c0,c1,c2) (QZ m)).2) (Q1 m)).2).2.1) (((Yd ((Yd (c0,c1,c2) (QZ m)).2) (Q1 m)).2).2.2) (List.take (b.length+1) ((List.take b.length b)++([((List.take (((Yd (c0,c1,c2) (QZ m)).1).length) (List.drop 0 ((Yd (c0,c1,c2) (QZ m)).1))),(List.take (((Yd ((Yd (c0,c1,c2) (QZ m)).2) (Q1 m)).1).length) (List.drop 0 ((Yd ((Yd (c0,c1,c2) (QZ m)).2) (Q1 m)).1))))]))))) (K (Qa9 ((List.take b.length b),(c0,c1,c2)))))):Qha K m n c0 c1 c2 b :=
 Loop.of (by kernel_rfl) h
theorem QJe (c:((List Int) × Int × Int)) (m:List TOp') (h :
 ((Q9 c (4:Int))∧(Qha K m (w64 ((1:Int)+((Qe c (4:Int)).1))) (((Qe c (4:Int)).2).1) (((Qe c (4:Int)).2).2.1) (((Qe c (4:Int)).2).2.2) ([]:List Qg)))):Hold (tawp Qi4 (1+0) QDj (TQ 1 0 QtE K) (Qf [(.bx [(.c (.sl [(.int .u8)]) c.1),(.c TI c.2.1),(.c TI c.2.2)]),(.a [(.c (.sl ctOp) m)])])) :=
 Hold.of (by kernel_rfl) h
theorem Qqz (c:((List Int) × Int × Int)) (m:List TOp') (hp:Q9 c m):∃ t:(List Qg) × (((List Int) × Int × Int)),(QcO c m t)∧TCon Tryz.prog 200 [(.bx [(.c (.sl [(.int .u8)]) c.1),(.c TI c.2.1),(.c TI c.2.2)]),(.a [(.c (.sl ctOp) m)])] (Qa9 t):=by
 refine YE (tcx (n:=28) (sg:=Qhq.sg) Qk (TOk.cons JW (TOk.cons Qx1 (TOk.cons QkX (TOk.cons Qud TOk.nil)))) (by kernel_rfl) (by kernel_rfl) (QJe (fun r'=>∃ t,(QcO c m t)∧r'=Qa9 t) c m ?_))
 have hc:Qy c:=hp
 have b1:=Z5 c 4 hc
 have h1:=b1.1
 have h2:=b1.2.1 (by omega)
 rw [Qp (x:=1+_) (by omega) (by omega)]
 have hi:QZ m≤6:=by
  unfold QZ
  split
  ·rename_i hm
   exact (QbR (Qmy hm (by have:=YY hm;omega))).2.1
  ·omega
 have ho:Q1 m≤6:=by
  unfold Q1
  split
  ·rename_i hm
   exact (QbR (Qmy hm (by have:=YY hm;omega))).2.2.2
  ·omega
 refine ⟨hc,?_⟩
 have key:∀ (k:Nat) (t:TCur) (b:List Qg),Qy t→b.length+k≤4→1≤b.length+k→Qha (fun r'=>∃ t,(QcO c m t)∧r'=Qa9 t) m (k:Int) t.1 t.2.1 t.2.2 b:=by
  intro k
  induction k with
  | zero =>
   intro t b hc k1 k2
   refine QqZ (fun r'=>∃ t,(QcO c m t)∧r'=Qa9 t) m _ _ _ _ _ ⟨fun h=>by simp at h,fun _=>Q0 ⟨?_,?_,hc⟩⟩
   ·simp only [List.take_length];omega
   ·simp only [List.take_length];omega
  | succ k ih =>
   intro t b hc k1 k2
   have hv:Jx t (QZ m):=⟨hc,by omega⟩
   have b2:=Qff _ _ hv
   have hv2:Jx (Yd t (QZ m)).2 (Q1 m):=⟨b2.2.2,by omega⟩
   have b3:=Qff _ _ hv2
   refine QqZ (fun r'=>∃ t,(QcO c m t)∧r'=Qa9 t) m _ _ _ _ _ ⟨fun _=>⟨⟨hv,hv2,⟨.inl rfl,by rw [Zv];omega⟩⟩,?_⟩,fun h=>by simp at h <;> omega⟩
   rw [Zn,Qp (x:=((k+1:Nat):Int)-1) (by omega) (by omega),show ((k+1:Nat):Int)-1=k by omega]
   exact ih _ _ b3.2.2 (by simp;omega) (by simp;omega)
 have h:=key (1+(Qe c 4).1).toNat (Qe c 4).2 [] b1.2.2.2 (by simp;omega) (by simp;omega)
 rw [Int.toNat_of_nonneg (by omega)] at h
 exact h
theorem QuO (c:((List Int) × Int × Int)) (m:List TOp') (hp:Q9 c m):QcO c m (Zz c m):=(Classical.epsilon_spec (Qqz c m hp)).1
theorem QzB (c:((List Int) × Int × Int)) (m:List TOp') (hp:Q9 c m):TCon Tryz.prog 200 [(.bx [(.c (.sl [(.int .u8)]) c.1),(.c TI c.2.1),(.c TI c.2.2)]),(.a [(.c (.sl ctOp) m)])] (Qa9 (Zz c m)):=(Classical.epsilon_spec (Qqz c m hp)).2
theorem Qzu:Qj Tryz.prog Qhq:=Qm fun x h=>QzB x.1 x.2.1 h
def J0 (t:(List Qg) × (((List Int) × Int × Int))):TRes:=⟨(zcs QB t.1),[],[[(zcs [(.int .u8)] t.2.1),(zci t.2.2.1),(zci t.2.2.2)]],true,[]⟩
def Qgy (x0:((List Int) × Int × Int)) (x1:List TOp'):(List Qg) × (((List Int) × Int × Int)):=Classical.epsilon fun t:(List Qg) × (((List Int) × Int × Int))=>(QdA x0 x1 t)∧TCon Tryz.prog 146 [(.bx [(.c (.sl [(.int .u8)]) x0.1),(.c TI x0.2.1),(.c TI x0.2.2)]),(.a [(.c (.sl ctOp) x1)])] (J0 t)
def Qi7:TRow:=Qi 146 [(.b [(.sl [(.int .u8)]),TI,TI]),(.a [(.sl ctOp)])] fun x=>(some (Q9 x.1 x.2.1),J0 (Qgy x.1 x.2.1))
def Qnd:List TRow:=[Qhq,Jq,QnN]
def Qrk:TCode :=
 (zsq [(zsq [(.reg [zmv 23 5,zle 24 23,zmv 25 0,zca 26 108 [25,(zki 2)],zbi 27 .add (zki 5) 26,zbi 28 .lss 24 27]),(.cond 28 .skip (.exit 1))]),(.block 2 (.reg [zmv 29 5,zmv 30 5,zia 31 30 (zki 0) QB,zLd 32 31 2,zop 33 (.bsl 108 QB [32]),zop 34 (.app 29 33 108 QB),zmv 5 34]))])
def Qn2:List (Nat × Md):=[(0,.b [.d,.d,.d]),(5,.one .f)]
def Qx6:TCode :=
 (zsq [(.reg [zmv 35 5,zmv 4 35]),.ret])
def QOb:TCode :=
 (zsq [(.reg [zop 3 (.box 26 1 1),zmv 4 (.k (.n QB))]),(.reg [zmv 6 0,zLd 7 3 1,zca 8 200 [6,7],zmv 5 8]),(zsq [(.reg [zmv 9 0,zca 10 108 [9,(zki 16)]]),(.block 0 (zsq [(.reg [zbi 12 .eql 10 (zki 0),zmv 11 12]),(.cond 11 (zsq [(.reg [zop 13 (.bsl 108 QB []),zmv 4 13]),.ret]) (zsq [(.reg [zbi 15 .eql 10 (zki 1),zmv 14 15]),(.cond 14 (.reg [zmv 16 5,zmv 17 0,zca 18 107 [17],zia 19 16 (zki 0) QB,zfa 20 19 0,zst 20 18 1]) (zsq [(.reg [zbi 22 .eql 10 (zki 2),zmv 21 22]),(.cond 21 (.block 1 (.loop Qn2 Qrk)) .skip)]))]))]))]),Qx6])
def Qt5:List (ARv × Md):=[(.t 4,.one .d)]
def Qsq:Qb:=TQ 1 0 Qt5 K
def QIy:Qb:=Qseq (tawp Qnd 1 Qx6 (Qsq K)) (Qsq K)
def QFk:Qb:=Qblk 0 (QIy K)
def QLZ:Qb:=Qblk 1 (QFk K)
def Qh2 (c0:List Int) (c1:Int) (c2:Int) (b:List Qg):Prop:=Loop Qnd 1 Qn2 Qrk (QLZ K) ⟨[(0,(.p 0 0 0)),(5,(.r QB 1 0 b.length))],[(0,(.box [(zcs [(.int .u8)] c0),(zci c1),(zci c2)])),(1,(.sl 108 QB true b))],2⟩
theorem Qxy (c0:List Int) (c1:Int) (c2:Int) (b:List Qg) (h :
 ((Q9 (c0,c1,c2) (2:Int))∧(zif (decide (((b.length:Nat):Int)<(w64 ((5:Int)+((Qe (c0,c1,c2) (2:Int)).1))))) ((((0:Int)≤(0:Int)∧Int.toNat (0:Int)<b.length)∧(((0+(Int.toNat (0:Int)))<b.length)∧((b.length=b.length∨b.length+1≤b.length)∧b.length+1≤big)))∧(Qh2 K (((Qe (c0,c1,c2) (2:Int)).2).1) (((Qe (c0,c1,c2) (2:Int)).2).2.1) (((Qe (c0,c1,c2) (2:Int)).2).2.2) (List.take (b.length+1) ((List.take b.length b)++([(gtd Zh b (0+(Int.toNat (0:Int))))]))))) (K (J0 ((List.take b.length (List.drop 0 b)),((Qe (c0,c1,c2) (2:Int)).2))))))):Qh2 K c0 c1 c2 b :=
 Loop.of (by kernel_rfl) h
theorem QDz (c:((List Int) × Int × Int)) (m:List TOp') (h :
 ((Q9 c m)∧((Q9 ((Zz c m).2) (16:Int))∧(zif (((Qe ((Zz c m).2) (16:Int)).1)==(0:Int)) (K (J0 (([]:List Qg),((Qe ((Zz c m).2) (16:Int)).2)))) (zif (((Qe ((Zz c m).2) (16:Int)).1)==(1:Int)) (((Qy ((Qe ((Zz c m).2) (16:Int)).2))∧(((0:Int)≤(0:Int)∧Int.toNat (0:Int)<((Zz c m).1).length)∧((0+(Int.toNat (0:Int)))<((Zz c m).1).length)))∧K (J0 ((List.take (((Zz c m).1).length) (List.drop 0 (((Zz c m).1).set (0+(Int.toNat (0:Int))) ((QeG ((Qe ((Zz c m).2) (16:Int)).2)).1,(gtd Zh ((Zz c m).1) (0+(Int.toNat (0:Int)))).2)))),((QeG ((Qe ((Zz c m).2) (16:Int)).2)).2)))) (zif (((Qe ((Zz c m).2) (16:Int)).1)==(2:Int)) (Qh2 K (((Qe ((Zz c m).2) (16:Int)).2).1) (((Qe ((Zz c m).2) (16:Int)).2).2.1) (((Qe ((Zz c m).2) (16:Int)).2).2.2) (List.take (((Zz c m).1).length) ((Zz c m).1))) (K (J0 ((List.take (((Zz c m).1).length) (List.drop 0 ((Zz c m).1))),((Qe ((Zz c m).2) (16:Int)).2)))))))))):Hold (tawp Qnd (1+0) QOb (TQ 1 0 Qt5 K) (Qf [(.bx [(.c (.sl [(.int .u8)]) c.1),(.c TI c.2.1),(.c TI c.2.2)]),(.a [(.c (.sl ctOp) m)])])) :=
 Hold.of (by kernel_rfl) h
theorem QBK (c:((List Int) × Int × Int)) (m:List TOp') (hp:Q9 c m):∃ t:(List Qg) × (((List Int) × Int × Int)),(QdA c m t)∧TCon Tryz.prog 146 [(.bx [(.c (.sl [(.int .u8)]) c.1),(.c TI c.2.1),(.c TI c.2.2)]),(.a [(.c (.sl ctOp) m)])] (J0 t):=by
 refine YE (tcx (n:=36) (sg:=Qi7.sg) Qk (TOk.cons Qzu (TOk.cons JW (TOk.cons QJC TOk.nil))) (by kernel_rfl) (by kernel_rfl) (QDz (fun r'=>∃ t,(QdA c m t)∧r'=J0 t) c m ?_))
 have hc:Qy c:=hp
 have b1:=QuO c m hc
 generalize Zz c m=r1 at b1 ⊢
 obtain ⟨k1,k2,k3⟩:=b1
 have b3:=(Z5 r1.2 16 k3).2.2.2
 generalize Qe r1.2 16=r3 at b3 ⊢
 refine ⟨hc,k3,fun _=>Q0 ⟨by simp,b3⟩,fun _=>⟨fun _=>⟨⟨b3,⟨by omega,by simp;omega⟩,by simp;omega⟩,Q0 ⟨by simp;omega,(QMd _ b3).2⟩⟩,fun _=>⟨fun _=>?_,fun _=>Q0 ⟨by simp;omega,b3⟩⟩⟩⟩
 rw [List.take_length]
 have key:∀ (k:Nat) (t:TCur) (b:List Qg),Qy t→1≤b.length→b.length+k=6→Qh2 (fun r'=>∃ t,(QdA c m t)∧r'=J0 t) t.1 t.2.1 t.2.2 b:=by
  intro k
  induction k with
  | zero =>
   intro t b hc q1 q2
   have b2:=Z5 t 2 hc
   have q3:=b2.1
   have q4:=b2.2.1 (by omega)
   have hw:w64 (5+(Qe t 2).1)=5+(Qe t 2).1:=Qp (by omega) (by omega)
   refine Qxy (fun r'=>∃ t,(QdA c m t)∧r'=J0 t) _ _ _ _ ⟨hc,fun h=>?_,fun _=>Q0 ⟨by simp;omega,b2.2.2.2⟩⟩
   have h:=of_decide_eq_true h
   have h':(b.length:Int)<w64 (5+(Qe t 2).1):=h
   rw [hw] at h'
   omega
  | succ k ih =>
   intro t b hc q1 q2
   have b2:=Z5 t 2 hc
   refine Qxy (fun r'=>∃ t,(QdA c m t)∧r'=J0 t) _ _ _ _ ⟨hc,fun _=>?_,fun _=>Q0 ⟨by simp;omega,b2.2.2.2⟩⟩
   refine ⟨⟨⟨by omega,by simp;omega⟩,by simp;omega,.inl rfl,by rw [Zv];omega⟩,?_⟩
   rw [Zn]
   exact ih _ _ b2.2.2.2 (by simp) (by simp;omega)
 exact key (6-r1.1.length) _ _ b3 k1 (by omega)
theorem QMM (c:((List Int) × Int × Int)) (m:List TOp') (hp:Q9 c m):TCon Tryz.prog 146 [(.bx [(.c (.sl [(.int .u8)]) c.1),(.c TI c.2.1),(.c TI c.2.2)]),(.a [(.c (.sl ctOp) m)])] (J0 (Qgy c m)):=(Classical.epsilon_spec (QBK c m hp)).2
theorem QLy:Qj Tryz.prog Qi7:=Qm fun x h=>QMM x.1 x.2.1 h
def JT (t:Ql × (List Qg) × (((List Int) × Int × Int))):TRes:=⟨(.tp [(.a [(zcs ctOp t.1.1),(.r [TI] 0 0 ((t.1.2.1).length)),(zci t.1.2.2.1),(.r [.bool] 1 0 ((t.1.2.2.2.1).length)),(.r [TI] 2 0 ((t.1.2.2.2.2.1).length)),(.r [TI] 3 0 ((t.1.2.2.2.2.2).length))]),(zcs QB t.2.1)]),[(.sl 3 [TI] true t.1.2.1),(.sl 4 [.bool] true t.1.2.2.2.1),(.sl 3 [TI] true t.1.2.2.2.2.1),(.sl 3 [TI] true t.1.2.2.2.2.2)],[[(zcs [(.int .u8)] t.2.2.1),(zci t.2.2.2.1),(zci t.2.2.2.2)]],true,[]⟩
def QM (x0:((List Int) × Int × Int)):Ql × (List Qg) × (((List Int) × Int × Int)):=Classical.epsilon fun t:Ql × (List Qg) × (((List Int) × Int × Int))=>(QaI x0 t)∧TCon Tryz.prog 143 [(.bx [(.c (.sl [(.int .u8)]) x0.1),(.c TI x0.2.1),(.c TI x0.2.2)])] (JT t)
def QmG:TRow:=Qi 143 [(.b [(.sl [(.int .u8)]),TI,TI])] fun x=>(some (Qy x.1),JT (QM x.1))
def Qe2:List TRow:=[QgW,QjR,Jq,Qhq,Qfo,Qe6,QbO]
def Qpu:TCode :=
 (zsq [(zsq [(.reg [zmv 22 7,zfa 23 5 1,zld 24 23 1,zle 25 24,zbi 26 .leq 22 25]),(.cond 26 .skip (.exit 0))]),(.block 1 (zsq [(.draw [zfa 29 5 3,zld 30 29 1,zmv 31 0,zca 32 106 [31,(zki 3)],zop 33 (.bsl 4 [.bool] [32]),zop 34 (.app 30 33 4 [.bool]),zfa 35 5 3,zst 35 34 1] [(0,3),(1,3),(0,4),(1,4)]),(.reg [zmv 36 7,zbi 37 .gtr 36 (zki 0)]),(.cond 37 (.draw [zfa 38 5 4,zld 39 38 1,zmv 40 0,zca 41 108 [40,(zki 3)],zbi 42 .add (zki 1) 41,zop 43 (.bsl 3 [TI] [42]),zop 44 (.app 39 43 3 [TI]),zfa 45 5 4,zst 45 44 1] [(0,3),(1,3),(0,5),(1,5)]) .skip)])),(.reg [zmv 27 7,zbi 28 .add 27 (zki 1),zmv 7 28])])
def Quq:List (Nat × Md):=[(0,.b [.d,.d,.d]),(2,.b (zds 6)),(5,.b [.d,.f,.d,.o 4,.o 3,.o 3]),(6,.one .d),(7,.one .d)]
def QqV:TCode :=
 (zsq [(zsq [(.reg [zmv 46 8,zfa 47 5 1,zld 48 47 1,zle 49 48,zbi 50 .leq 46 49]),(.cond 50 .skip (.exit 2))]),(.block 3 (.draw [zfa 53 5 5,zld 54 53 1,zLd 55 5 6,zmv 56 8,zmv 57 6,zle 58 57,zca 59 78 [55,56,58],zmv 60 0,zop 61 (.bsl 3 [TI] [(zki 0),(zki 0),(zki 7)]),zca 62 145 [60,61],zbi 63 .add 59 62,zop 64 (.bsl 3 [TI] [63]),zop 65 (.app 54 64 3 [TI]),zfa 66 5 5,zst 66 65 1] [(0,6),(1,6),(0,8),(1,8),(2,8),(5,8),(6,8),(0,9),(1,9),(0,11),(1,11)])),(.reg [zmv 51 8,zbi 52 .add 51 (zki 1),zmv 8 52])])
def Qxa:List (Nat × Md):=[(0,.b [.d,.d,.d]),(2,.b (zds 6)),(5,.b [.d,.f,.d,.f,.f,.f]),(6,.one .d),(8,.one .d)]
def QqX:TCode :=
 (zsq [(.reg [zLd 67 5 6,zmv 68 6,zst 2 67 6,zmv 3 68]),.ret])
def QpE:TCode :=
 (zsq [(zsq [(.reg [zmv 8 (zki 0)]),(.block 2 (.loop Qxa QqV))]),QqX])
def QPk:TCode :=
 (zsq [(.reg [zop 2 (.new 30 (z0s QK)),zmv 3 (.k (.n QB))]),(.reg [zmv 9 0,zca 10 198 [9],zop 4 (.new 26 [(.n ctOp)]),zst 4 10 1]),(.draw [zLd 11 4 1,zmv 12 0,zLd 13 4 1,zca 14 199 [12,13],zmv 15 0,zca 16 108 [15,(zki 2)],zbi 17 .add (zki 1) 16,zop 18 (.build (z0s QK) [(0,1,11),(1,1,14),(2,1,17)]),zop 5 (.new 30 (z0s QK)),zst 5 18 6] [(0,3),(0,5),(0,8),(2,8),(3,8),(5,8)]),(.reg [zmv 19 0,zLd 20 4 1,zca 21 200 [19,20],zmv 6 21]),(zsq [(.reg [zmv 7 (zki 0)]),(.block 0 (.loop Quq Qpu))]),QpE])
def Qp5:List (ARv × Md):=[(.l 2 6 true,.b [.d,.o 3,.d,.o 4,.o 3,.o 3]),(.t 3,.one .d)]
def Qf6:Qb:=TQ 1 0 Qp5 K
def QMK:Qb:=Qseq (tawp Qe2 1 QqX (Qf6 K)) (Qf6 K)
def QEd:Qb:=Qblk 2 (QMK K)
def QgS (c:((List Int) × Int × Int)) (s1:Int) (c01:List Int) (c11:Int) (c21:Int) (x11:List Int) (x31:List Bool) (x41:List Int) (x5:List Int):Prop:=let z1:=List.take (((Zm c).1).length) (List.drop 0 ((Zm c).1))
 let z2:=Qe ((Qbm ((Zm c).2) z1).2) (2:Int)
 Loop Qe2 1 Qxa QqV (QEd K) ⟨[(0,(.p 0 0 0)),(2,(.p 1 0 0)),(5,(.p 6 0 0)),(6,(zcs QB (List.take (((Zz (z2.2) z1).1).length) (List.drop 0 ((Zz (z2.2) z1).1))))),(8,(zci s1))],[(0,(.box [(zcs [(.int .u8)] c01),(zci c11),(zci c21)])),(1,(.box (Tup.cells QK ([],[],(0:Int),[],[],[])))),(2,(.sl 3 [TI] true x11)),(3,(.sl 4 [.bool] true x31)),(4,(.sl 3 [TI] true x41)),(5,(.sl 3 [TI] true x5)),(6,(.box [(zcs ctOp z1),(.r [TI] 2 0 x11.length),(zci (w64 ((1:Int)+(z2.1)))),(.r [.bool] 3 0 x31.length),(.r [TI] 4 0 x41.length),(.r [TI] 5 0 x5.length)]))],7⟩
def QAo:Qb:=Qseq (tawp Qe2 1 QpE (Qf6 K)) (Qf6 K)
def QFL:Qb:=Qblk 0 (QAo K)
def QeP (c:((List Int) × Int × Int)) (s:Int) (c0:List Int) (c1:Int) (c2:Int) (x1:List Int) (x3:List Bool) (x4:List Int):Prop:=let z1:=List.take (((Zm c).1).length) (List.drop 0 ((Zm c).1))
 let z2:=Qe ((Qbm ((Zm c).2) z1).2) (2:Int)
 Loop Qe2 1 Quq Qpu (QFL K) ⟨[(0,(.p 0 0 0)),(2,(.p 1 0 0)),(5,(.p 6 0 0)),(6,(zcs QB (List.take (((Zz (z2.2) z1).1).length) (List.drop 0 ((Zz (z2.2) z1).1))))),(7,(zci s))],[(0,(.box [(zcs [(.int .u8)] c0),(zci c1),(zci c2)])),(1,(.box (Tup.cells QK ([],[],(0:Int),[],[],[])))),(2,(.sl 3 [TI] true x1)),(3,(.sl 4 [.bool] true x3)),(4,(.sl 3 [TI] true x4)),(5,(.sl 3 [TI] true ([]:List Int))),(6,(.box [(zcs ctOp z1),(.r [TI] 2 0 x1.length),(zci (w64 ((1:Int)+(z2.1)))),(.r [.bool] 3 0 x3.length),(.r [TI] 4 0 x4.length),(.r [TI] 5 0 0)]))],7⟩
theorem Qy9 (c:((List Int) × Int × Int)) (s1:Int) (c01:List Int) (c11:Int) (c21:Int) (x11:List Int) (x31:List Bool) (x41:List Int) (x5:List Int) (h :
 let z1:=List.take (((Zm c).1).length) (List.drop 0 ((Zm c).1))
 let z2:=Qe ((Qbm ((Zm c).2) z1).2) (2:Int)
 let z3:=List.take (((Zz (z2.2) z1).1).length) (List.drop 0 ((Zz (z2.2) z1).1))
 (zif (decide (s1≤((x11.length:Nat):Int))) (((YU (c01,c11,c21) ([(0:Int),(0:Int),(7:Int)]))∧((x5.length=x5.length∨x5.length+1≤x5.length)∧x5.length+1≤big))∧(QgS K c (w64 (s1+(1:Int))) (((Zu (c01,c11,c21) ([(0:Int),(0:Int),(7:Int)])).2).1) (((Zu (c01,c11,c21) ([(0:Int),(0:Int),(7:Int)])).2).2.1) (((Zu (c01,c11,c21) ([(0:Int),(0:Int),(7:Int)])).2).2.2) (List.take x11.length x11) (List.take x31.length x31) (List.take x41.length x41) (List.take (x5.length+1) ((List.take x5.length x5)++([w64 ((Zs (z1,(List.take x11.length (List.drop 0 x11)),w64 ((1:Int)+(z2.1)),(List.take x31.length (List.drop 0 x31)),(List.take x41.length (List.drop 0 x41)),(List.take x5.length (List.drop 0 x5))) s1 (z3.length:Int))+((Zu (c01,c11,c21) ([(0:Int),(0:Int),(7:Int)])).1))]))))) (K (JT ((z1,(List.take x11.length x11),w64 ((1:Int)+(z2.1)),(List.take x31.length x31),(List.take x41.length x41),(List.take x5.length x5)),z3,(c01,c11,c21)))))):QgS K c s1 c01 c11 c21 x11 x31 x41 x5 :=
 Loop.of (by kernel_rfl) h
theorem QvW (c:((List Int) × Int × Int)) (s:Int) (c0:List Int) (c1:Int) (c2:Int) (x1:List Int) (x3:List Bool) (x4:List Int) (h :
 (zif (decide (s≤((x1.length:Nat):Int))) (((Q9 (c0,c1,c2) (3:Int))∧((x3.length=x3.length∨x3.length+1≤x3.length)∧x3.length+1≤big))∧(zif (decide (s>(0:Int))) (((Q9 ((ZD (c0,c1,c2) (3:Int)).2) (3:Int))∧((x4.length=x4.length∨x4.length+1≤x4.length)∧x4.length+1≤big))∧(QeP K c (w64 (s+(1:Int))) (((Qe ((ZD (c0,c1,c2) (3:Int)).2) (3:Int)).2).1) (((Qe ((ZD (c0,c1,c2) (3:Int)).2) (3:Int)).2).2.1) (((Qe ((ZD (c0,c1,c2) (3:Int)).2) (3:Int)).2).2.2) (List.take x1.length x1) (List.take (x3.length+1) ((List.take x3.length x3)++([(ZD (c0,c1,c2) (3:Int)).1]))) (List.take (x4.length+1) ((List.take x4.length x4)++([w64 ((1:Int)+((Qe ((ZD (c0,c1,c2) (3:Int)).2) (3:Int)).1))]))))) (QeP K c (w64 (s+(1:Int))) (((ZD (c0,c1,c2) (3:Int)).2).1) (((ZD (c0,c1,c2) (3:Int)).2).2.1) (((ZD (c0,c1,c2) (3:Int)).2).2.2) (List.take x1.length x1) (List.take (x3.length+1) ((List.take x3.length x3)++([(ZD (c0,c1,c2) (3:Int)).1]))) (List.take x4.length x4)))) (QgS K c 0 c0 c1 c2 (List.take x1.length x1) (List.take x3.length x3) (List.take x4.length x4) ([]:List Int)))):QeP K c s c0 c1 c2 x1 x3 x4 :=
 Loop.of (by kernel_rfl) h
theorem QIK (c:((List Int) × Int × Int)) (h :
 let z1:=List.take (((Zm c).1).length) (List.drop 0 ((Zm c).1))
 let z2:=Qbm ((Zm c).2) z1
 let z3:=Zz ((Qe (z2.2) (2:Int)).2) z1
 ((Qy c)∧(((Qdl ((Zm c).2) z1)∧(Q9 (z2.2) (2:Int)))∧((Q9 ((Qe (z2.2) (2:Int)).2) z1)∧(QeP K c 0 ((z3.2).1) ((z3.2).2.1) ((z3.2).2.2) (List.take ((z2.1).length) (z2.1)) ([]:List Bool) ([]:List Int)))))):Hold (tawp Qe2 (1+0) QPk (TQ 1 0 Qp5 K) (Qf [(.bx [(.c (.sl [(.int .u8)]) c.1),(.c TI c.2.1),(.c TI c.2.2)])])) :=
 Hold.of (by kernel_rfl) h
theorem Qy2 (c:((List Int) × Int × Int)) (hp:Qy c):∃ t:Ql × (List Qg) × (((List Int) × Int × Int)),(QaI c t)∧TCon Tryz.prog 143 [(.bx [(.c (.sl [(.int .u8)]) c.1),(.c TI c.2.1),(.c TI c.2.2)])] (JT t):=by
 refine YE (tcx (n:=69) (sg:=QmG.sg) Qk (TOk.cons Qyz (TOk.cons QzW (TOk.cons JW (TOk.cons Qzu (TOk.cons Ql7 (TOk.cons Qk5 (TOk.cons Qdj TOk.nil))))))) (by kernel_rfl) (by kernel_rfl) (QIK (fun r'=>∃ t,(QaI c t)∧r'=JT t) c ?_))
 conv=>zeta
 have hc:Qy c:=hp
 have b1:=Qus c hc
 simp only [List.drop_zero,List.take_length]
 have hcu:Qdl (Zm c).2 (Zm c).1:=⟨b1.2.2,by have:=b1.2.1;omega⟩
 have b2:=Qzz _ _ hcu
 have b3:=(Z5 (Qbm (Zm c).2 (Zm c).1).2 2 b2.2.2).2.2.2
 have b4:=QuO _ (Zm c).1 b3
 have hl:=b2.2.1
 refine ⟨hc,⟨hcu,b2.2.2⟩,b3,?_⟩
 have k4:∀ (x11:List Int) (x31:List Bool) (x41:List Int),x11.length≤3→1≤x31.length→x31.length≤4→x41.length≤4→∀ (k:Nat) (t:TCur) (s1:Nat) (x5:List Int),Qy t→s1+k=x11.length+1→x5.length=s1→QgS (fun r'=>∃ t,(QaI c t)∧r'=JT t) c (s1:Int) t.1 t.2.1 t.2.2 x11 x31 x41 x5:=by
  intro x11 x31 x41 m0 m1 m2 m3 k
  induction k with
  | zero =>
   intro t s1 x5 ht h1 h2
   refine Qy9 (fun r'=>∃ t,(QaI c t)∧r'=JT t) c _ _ _ _ _ _ _ _ ⟨fun h=>by simp at h;omega,fun _=>Q0 ⟨?_,?_,?_,?_,?_,?_,ht⟩⟩
   all_goals (simp;omega)
  | succ k ih =>
   intro t s1 x5 ht h1 h2
   have hpk:YU t [0,0,7]:=⟨ht,by simp,by simp⟩
   refine Qy9 (fun r'=>∃ t,(QaI c t)∧r'=JT t) c _ _ _ _ _ _ _ _ ⟨fun _=>⟨⟨hpk,⟨.inl rfl,by rw [Zv];omega⟩⟩,?_⟩,fun h=>by simp at h;omega⟩
   rw [sc1 (by omega),List.take_length,List.take_length,List.take_length]
   exact ih (Zu t [0,0,7]).2 (s1+1) _ (QdD _ _ hpk).2 (by omega) (by simp;omega)
 have k2:∀ (x1:List Int),x1.length≤3→∀ (k:Nat) (t:TCur) (s:Nat) (x3:List Bool) (x4:List Int),Qy t→s+k=x1.length+1→x3.length=s→x4.length≤s→QeP (fun r'=>∃ t,(QaI c t)∧r'=JT t) c (s:Int) t.1 t.2.1 t.2.2 x1 x3 x4:=by
  intro x1 m0 k
  induction k with
  | zero =>
   intro t s x3 x4 ht h1 h2 h3
   refine QvW (fun r'=>∃ t,(QaI c t)∧r'=JT t) c _ _ _ _ _ _ _ ⟨fun h=>by simp at h;omega,fun _=>?_⟩
   rw [List.take_length,List.take_length,List.take_length]
   exact k4 x1 x3 x4 m0 (by omega) (by omega) (by omega) (x1.length+1) t 0 [] ht (by omega) rfl
  | succ k ih =>
   intro t s x3 x4 ht h1 h2 h3
   have b5:=QlW t 3 ht
   have b6:=(Z5 (ZD t 3).2 3 b5).2.2.2
   refine QvW (fun r'=>∃ t,(QaI c t)∧r'=JT t) c _ _ _ _ _ _ _ ⟨fun _=>⟨⟨ht,⟨.inl rfl,by rw [Zv];omega⟩⟩,fun _=>⟨⟨b5,⟨.inl rfl,by rw [Zv];omega⟩⟩,?_⟩,fun _=>?_⟩,fun h=>by simp at h;omega⟩
   ·rw [sc1 (by omega),List.take_length (l:=x1)]
    exact ih (Qe (ZD t 3).2 3).2 (s+1) _ _ b6 (by omega) (by simp;omega) (by simp;omega)
   ·rw [sc1 (by omega),List.take_length (l:=x1)]
    exact ih (ZD t 3).2 (s+1) _ _ b5 (by omega) (by simp;omega) (by simp;omega)
 exact k2 _ hl ((Qbm (Zm c).2 (Zm c).1).1.length+1) _ 0 [] [] b4.2.2 (by omega) rfl (by simp)
theorem QMO (c:((List Int) × Int × Int)) (hp:Qy c):QaI c (QM c):=(Classical.epsilon_spec (Qy2 c hp)).1
theorem QBb (c:((List Int) × Int × Int)) (hp:Qy c):TCon Tryz.prog 143 [(.bx [(.c (.sl [(.int .u8)]) c.1),(.c TI c.2.1),(.c TI c.2.2)])] (JT (QM c)):=(Classical.epsilon_spec (Qy2 c hp)).2
theorem QKg:Qj Tryz.prog QmG:=Qm fun x h=>QBb x.1 h
def Jm (t:Ql × (List Qg) × (((List Int) × Int × Int))):TRes:=⟨(.tp [(.a (Tup.cells QK t.1)),(zcs QB t.2.1)]),[],[[(zcs [(.int .u8)] t.2.2.1),(zci t.2.2.2.1),(zci t.2.2.2.2)]],true,[]⟩
def Qfn (x0:((List Int) × Int × Int)):Ql × (List Qg) × (((List Int) × Int × Int)):=Classical.epsilon fun t:Ql × (List Qg) × (((List Int) × Int × Int))=>(Qip x0 t)∧TCon Tryz.prog 68 [(.bx [(.c (.sl [(.int .u8)]) x0.1),(.c TI x0.2.1),(.c TI x0.2.2)])] (Jm t)
def Qnb:TRow:=Qi 68 [(.b [(.sl [(.int .u8)]),TI,TI])] fun x=>(some (Qy x.1),Jm (Qfn x.1))
def QC2:List TRow:=[QmG,Jq,Qnt,QbO,Qi7]
def QNg:TCode :=
 (zsq [(.reg [zop 2 (.new 30 (z0s QK)),zmv 3 (.k (.n QB))]),(.reg [zmv 7 0,zca 8 143 [7],zmv 6 8,zex 9 6 0,zex 10 6 1,zop 4 (.new 30 (z0s QK)),zst 4 9 6,zmv 5 10]),(zsq [(.reg [zmv 11 0,zca 12 108 [11,(zki 16)]]),(.block 0 (zsq [(.reg [zbi 14 .eql 12 (zki 0),zmv 13 14]),(.cond 13 (.reg [zmv 15 0,zca 16 144 [15],zfa 17 4 0,zst 17 16 1]) (zsq [(.reg [zbi 19 .eql 12 (zki 1),zmv 18 19]),(.cond 18 (.draw [zfa 20 4 1,zld 21 20 1,zmv 22 0,zca 23 108 [22,(zki 8)],zop 24 (.bsl 3 [TI] [23]),zop 25 (.app 21 24 3 [TI]),zfa 26 4 1,zst 26 25 1] [(0,3),(1,3),(0,4),(1,4)]) (zsq [(.reg [zbi 28 .eql 12 (zki 2),zmv 27 28]),(.cond 27 (.reg [zmv 29 0,zop 30 (.bsl 3 [TI] [(zki 0),(zki 3)]),zca 31 145 [29,30],zfa 32 4 2,zst 32 31 1]) (zsq [(.reg [zbi 34 .eql 12 (zki 3),zmv 33 34]),(.cond 33 (.reg [zfa 35 4 3,zld 36 35 1,zfa 37 4 3,zld 38 37 1,zle 39 38,zbi 40 .sub 39 (zki 1),zop 41 (.slc 36 none (some 40) [.bool]),zfa 42 4 3,zst 42 41 1]) (zsq [(.reg [zbi 44 .eql 12 (zki 4),zmv 43 44]),(.cond 43 (zsq [(.reg [zfa 45 4 4,zld 46 45 1,zle 47 46,zbi 48 .gtr 47 (zki 0)]),(.cond 48 (.draw [zfa 49 4 4,zld 50 49 1,zmv 51 0,zop 52 (.bsl 3 [TI] [(zki 0),(zki 5),(zki 6)]),zca 53 145 [51,52],zia 54 50 (zki 0) [TI],zst 54 53 1] [(0,3),(1,3),(0,4),(1,4)]) .skip)]) (zsq [(.reg [zbi 56 .eql 12 (zki 5),zmv 55 56]),(.cond 55 (.draw [zfa 57 4 5,zld 58 57 1,zmv 59 0,zfa 60 4 5,zld 61 60 1,zia 62 61 (zki 0) [TI],zld 63 62 1,zbi 64 .sub 63 (zki 1),zop 65 (.bsl 3 [TI] [64,(zki 100000),(zki 100001),(zki 0)]),zca 66 145 [59,65],zia 67 58 (zki 0) [TI],zst 67 66 1] [(0,8),(1,8),(0,9),(1,9)]) (zsq [(.reg [zbi 69 .eql 12 (zki 6),zmv 68 69]),(.cond 68 (.reg [zmv 70 0,zfa 71 4 0,zLd 72 71 1,zca 73 146 [70,72],zmv 5 73]) (zsq [(.reg [zbi 75 .eql 12 (zki 7),zmv 74 75]),(.cond 74 (.reg [zfa 76 4 5,zld 77 76 1,zop 78 (.slc 77 (some (zki 1)) none [TI]),zfa 79 4 5,zst 79 78 1]) .skip)]))]))]))]))]))]))]))]))]),(.reg [zLd 80 4 6,zmv 81 5,zst 2 80 6,zmv 3 81]),.ret])
def QPL:List (ARv × Md):=[(.l 2 6 true,.b (zds 6)),(.t 3,.one .d)]
theorem QAe (c:((List Int) × Int × Int)) (h :
 let z1:=Qe ((QM c).2.2) (16:Int)
 let z2:=List.take ((((QM c).1).2.2.2.2.1).length) (List.drop 0 (((QM c).1).2.2.2.2.1))
 let z3:=List.take ((((QM c).1).2.2.2.1).length) (List.drop 0 (((QM c).1).2.2.2.1))
 let z4:=List.take ((((QM c).1).2.2.2.2.2).length) (List.drop 0 (((QM c).1).2.2.2.2.2))
 let z5:=List.take ((((QM c).1).2.1).length) (List.drop 0 (((QM c).1).2.1))
 let z7:=Int.toNat (0:Int)
 let z6:=gtd (0:Int) (((QM c).1).2.2.2.2.2) (0+z7)
 ((Qy c)∧((Q9 ((QM c).2.2) (16:Int))∧(zif ((z1.1)==(0:Int)) ((Qy (z1.2))∧K (Jm (((QhV (z1.2)).1,z5,((QM c).1).2.2.1,z3,z2,z4),(QM c).2.1,((QhV (z1.2)).2)))) (zif ((z1.1)==(1:Int)) (((Q9 (z1.2) (8:Int))∧(((((QM c).1).2.1).length=(((QM c).1).2.1).length∨(((QM c).1).2.1).length+1≤(((QM c).1).2.1).length)∧(((QM c).1).2.1).length+1≤big))∧K (Jm ((((QM c).1).1,(List.take ((((QM c).1).2.1).length+1) (List.drop 0 ((List.take ((((QM c).1).2.1).length) (((QM c).1).2.1))++([(Qe (z1.2) (8:Int)).1])))),((QM c).1).2.2.1,z3,z2,z4),(QM c).2.1,((Qe (z1.2) (8:Int)).2)))) (zif ((z1.1)==(2:Int)) ((YU (z1.2) ([(0:Int),(3:Int)]))∧K (Jm ((((QM c).1).1,z5,(Zu (z1.2) ([(0:Int),(3:Int)])).1,z3,z2,z4),(QM c).2.1,((Zu (z1.2) ([(0:Int),(3:Int)])).2)))) (zif ((z1.1)==(3:Int)) (((0:Int)≤(0:Int)∧(0:Int)≤w64 ((((((QM c).1).2.2.2.1).length:Nat):Int)-(1:Int))∧w64 ((((((QM c).1).2.2.2.1).length:Nat):Int)-(1:Int))≤(((((QM c).1).2.2.2.1).length:Nat):Int))∧K (Jm ((((QM c).1).1,z5,((QM c).1).2.2.1,(List.take (Int.toNat (w64 ((((((QM c).1).2.2.2.1).length:Nat):Int)-(1:Int)))-Int.toNat (0:Int)) (List.drop 0 (((QM c).1).2.2.2.1))),z2,z4),(QM c).2.1,(z1.2)))) (zif ((z1.1)==(4:Int)) (zif (decide ((((((QM c).1).2.2.2.2.1).length:Nat):Int)>(0:Int))) (((YU (z1.2) ([(0:Int),(5:Int),(6:Int)]))∧(((0:Int)≤(0:Int)∧Int.toNat (0:Int)<(((QM c).1).2.2.2.2.1).length)∧((0+z7)<(((QM c).1).2.2.2.2.1).length)))∧K (Jm ((((QM c).1).1,z5,((QM c).1).2.2.1,z3,(List.take ((((QM c).1).2.2.2.2.1).length) (List.drop 0 ((((QM c).1).2.2.2.2.1).set (0+z7) ((Zu (z1.2) ([(0:Int),(5:Int),(6:Int)])).1)))),z4),(QM c).2.1,((Zu (z1.2) ([(0:Int),(5:Int),(6:Int)])).2)))) (K (Jm ((((QM c).1).1,z5,((QM c).1).2.2.1,z3,z2,z4),(QM c).2.1,(z1.2))))) (zif ((z1.1)==(5:Int)) ((((0:Int)≤(0:Int)∧Int.toNat (0:Int)<(((QM c).1).2.2.2.2.2).length)∧(((0+z7)<(((QM c).1).2.2.2.2.2).length)∧((YU (z1.2) ([w64 (z6-(1:Int)),(100000:Int),(100001:Int),(0:Int)]))∧(((0:Int)≤(0:Int)∧Int.toNat (0:Int)<(((QM c).1).2.2.2.2.2).length)∧((0+z7)<(((QM c).1).2.2.2.2.2).length)))))∧K (Jm ((((QM c).1).1,z5,((QM c).1).2.2.1,z3,z2,(List.take ((((QM c).1).2.2.2.2.2).length) (List.drop 0 ((((QM c).1).2.2.2.2.2).set (0+z7) ((Zu (z1.2) ([w64 (z6-(1:Int)),(100000:Int),(100001:Int),(0:Int)])).1))))),(QM c).2.1,((Zu (z1.2) ([w64 (z6-(1:Int)),(100000:Int),(100001:Int),(0:Int)])).2)))) (zif ((z1.1)==(6:Int)) ((Q9 (z1.2) (((QM c).1).1))∧K (Jm ((((QM c).1).1,z5,((QM c).1).2.2.1,z3,z2,z4),(Qgy (z1.2) (((QM c).1).1)).1,((Qgy (z1.2) (((QM c).1).1)).2)))) (zif ((z1.1)==(7:Int)) (((0:Int)≤(1:Int)∧(1:Int)≤(((((QM c).1).2.2.2.2.2).length:Nat):Int)∧(((((QM c).1).2.2.2.2.2).length:Nat):Int)≤(((((QM c).1).2.2.2.2.2).length:Nat):Int))∧K (Jm ((((QM c).1).1,z5,((QM c).1).2.2.1,z3,z2,(List.take (Int.toNat (((((QM c).1).2.2.2.2.2).length:Nat):Int)-Int.toNat (1:Int)) (List.drop (0+Int.toNat (1:Int)) (((QM c).1).2.2.2.2.2)))),(QM c).2.1,(z1.2)))) (K (Jm ((((QM c).1).1,z5,((QM c).1).2.2.1,z3,z2,z4),(QM c).2.1,(z1.2))))))))))))))):Hold (tawp QC2 (1+0) QNg (TQ 1 0 QPL K) (Qf [(.bx [(.c (.sl [(.int .u8)]) c.1),(.c TI c.2.1),(.c TI c.2.2)])])) :=
 Hold.of (by kernel_rfl) h
theorem Qyh (c:((List Int) × Int × Int)) (hp:Qy c):∃ t:Ql × (List Qg) × (((List Int) × Int × Int)),(Qip c t)∧TCon Tryz.prog 68 [(.bx [(.c (.sl [(.int .u8)]) c.1),(.c TI c.2.1),(.c TI c.2.2)])] (Jm t):=by
 refine YE (tcx (n:=82) (sg:=Qnb.sg) Qk (TOk.cons QKg (TOk.cons JW (TOk.cons QFn (TOk.cons Qdj (TOk.cons QLy TOk.nil))))) (by kernel_rfl) (by kernel_rfl) (QAe (fun r'=>∃ t,(Qip c t)∧r'=Jm t) c ?_))
 conv=>zeta
 have hc:Qy c:=hp
 have b1:=QMO c hc
 obtain ⟨h1,h2,h3,h4,h5,h6,h7⟩:=b1
 have b2:=(Z5 (QM c).2.2 16 h7).2.2.2
 refine ⟨hc,h7,?_⟩
 refine ⟨fun _=>⟨b2,Q0 (by simp;omega)⟩,fun _=>?_⟩
 refine ⟨fun _=>⟨⟨b2,.inl rfl,by rw [Zv];omega⟩,Q0 (by simp;omega)⟩,fun _=>?_⟩
 refine ⟨fun _=>⟨⟨b2,by simp,by simp⟩,Q0 (by simp;omega)⟩,fun _=>?_⟩
 refine ⟨fun _=>⟨?_,Q0 (by simp;omega)⟩,fun _=>?_⟩
 ·rw [Qp (by omega) (by omega)];omega
 refine ⟨fun _=>⟨fun hh=>⟨⟨⟨b2,by simp,by simp⟩,⟨by omega,by simpa using hh⟩,by simpa using hh⟩,Q0 (by simp;omega)⟩,fun _=>Q0 (by simp;omega)⟩,fun _=>?_⟩
 refine ⟨fun _=>⟨⟨⟨by omega,by simp;omega⟩,by simp;omega,⟨b2,by simp,by simp⟩,⟨by omega,by simp;omega⟩,by simp;omega⟩,Q0 (by simp;omega)⟩,fun _=>?_⟩
 refine ⟨fun _=>⟨b2,Q0 (by simp;omega)⟩,fun _=>?_⟩
 exact ⟨fun _=>⟨by omega,Q0 (by simp;omega)⟩,fun _=>Q0 (by simp;omega)⟩
theorem QN6 (c:((List Int) × Int × Int)) (hp:Qy c):Qip c (Qfn c):=(Classical.epsilon_spec (Qyh c hp)).1
theorem QMu (c:((List Int) × Int × Int)) (hp:Qy c):TCon Tryz.prog 68 [(.bx [(.c (.sl [(.int .u8)]) c.1),(.c TI c.2.1),(.c TI c.2.2)])] (Jm (Qfn c)):=(Classical.epsilon_spec (Qyh c hp)).2
theorem QMc:Qj Tryz.prog Qnb:=Qm fun x h=>QMu x.1 h
def Qdu (t:Ql × (List Qg)):TRes:=zra (.tp [(.a (Tup.cells QK t.1)),(zcs QB t.2)])
def ZE (x0:List Int):Ql × (List Qg):=Classical.epsilon fun t:Ql × (List Qg)=>(QmP x0 t)∧TCon Tryz.prog 14 [(.c (.sl [(.int .u8)]) x0)] (Qdu t)
def QjH:TRow:=Qi 14 [(.c (.sl [(.int .u8)]))] fun x=>(some (Qai x.1),Qdu (ZE x.1))
def QLC:List TRow:=[QkR,Qnb]
def QLd:TCode :=
 (zsq [(.reg [zop 2 (.new 30 (z0s QK)),zmv 3 (.k (.n QB))]),(.reg [zmv 4 0,zca 5 69 [4],zca 6 68 [5],zex 7 6 0,zex 8 6 1,zst 2 7 6,zmv 3 8]),.ret])
def QBm:List (ARv × Md):=[(.l 2 6 true,.b (zds 6)),(.t 3,.one .d)]
theorem QGP (code:List Int) (h :
 (((Qai code)∧(Qy (QdJ code)))∧K (Qdu (((Qfn (QdJ code)).1),(Qfn (QdJ code)).2.1)))):Hold (tawp QLC (0+0) QLd (TQ 0 0 QBm K) (Qf [(.c (.sl [(.int .u8)]) code)])) :=
 Hold.of (by kernel_rfl) h
theorem QQd (code:List Int) (hp:Qai code):∃ t:Ql × (List Qg),(QmP code t)∧TCon Tryz.prog 14 [(.c (.sl [(.int .u8)]) code)] (Qdu t):=by
 refine YE (tcx (n:=9) (sg:=QjH.sg) Qk (TOk.cons QOV (TOk.cons QMc TOk.nil)) (by kernel_rfl) (by kernel_rfl) (QGP (fun r'=>∃ t,(QmP code t)∧r'=Qdu t) code ?_))
 exact ⟨⟨hp,Qs5 code hp⟩,Q0 (QN6 _ (Qs5 code hp))⟩
theorem QBk (code:List Int) (hp:Qai code):TCon Tryz.prog 14 [(.c (.sl [(.int .u8)]) code)] (Qdu (ZE code)):=(Classical.epsilon_spec (QQd code hp)).2
theorem QIL:Qj Tryz.prog QjH:=Qm fun x h=>QBk x.1 h
end
end Go.Proofs.YtjbdljkhbglnhaaGreat.Am

