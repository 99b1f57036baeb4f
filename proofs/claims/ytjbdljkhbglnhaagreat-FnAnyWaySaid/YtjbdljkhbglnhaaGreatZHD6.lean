/- -/
import Derived.Test.YtjbdljkhbglnhaaGreatZHD1
import Derived.Test.YtjbdljkhbglnhaaGreatZHP4
import Derived.Test.YtjbdljkhbglnhaaGreatZHD2
import Derived.Test.YtjbdljkhbglnhaaGreatZHD4
import Derived.Test.YtjbdljkhbglnhaaGreatZHP6
import Derived.Test.YtjbdljkhbglnhaaGreatZHKM
namespace Go.Proofs.YtjbdljkhbglnhaaGreat.Am
open Go Go.RowKit Go.Proofs.YtjbdljkhbglnhaaGreat
set_option linter.all false
set_option maxHeartbeats 2000000
noncomputable section
variable (K:TRes→Prop)
def Qbj (t:(List Qd) × (((List Int) × Int × Int))):TRes:=⟨(.r QB 0 0 ((t.1).length)),[(.sl 108 QB true t.1)],[[(zcs [(.int .u8)] t.2.1),(zci t.2.2.1),(zci t.2.2.2)]],true,[]⟩
def ZG (x0:((List Int) × Int × Int)) (x1:List TOp'):(List Qd) × (((List Int) × Int × Int)):=Classical.epsilon fun t:(List Qd) × (((List Int) × Int × Int))=>(QcY x0 x1 t)∧TCon Tryz.prog 200 [(.bx [(.c (.sl [(.int .u8)]) x0.1),(.c TI x0.2.1),(.c TI x0.2.2)]),(.a [(.c (.sl ctOp) x1)])] (Qbj t)
def QhY:TRow:=Qg 200 [(.b [(.sl [(.int .u8)]),TI,TI]),(.a [(.sl ctOp)])] fun x=>(some (Ze x.1 x.2.1),Qbj (ZG x.1 x.2.1))
def Qmc:List TRow:=[Js,Qif,Qfu,Qig]
def Qsx:TCode :=
 (zsq [(zsq [(.reg [zmv 11 6,zbi 12 .gtr 11 (zki 0)]),(.cond 12 .skip (.exit 0))]),(.block 1 (.draw [zmv 15 5,zmv 16 0,zLd 17 3 1,zca 18 153 [17],zca 19 105 [16,18],zmv 20 0,zLd 21 3 1,zca 22 154 [21],zca 23 105 [20,22],zop 24 (.build (z0s QB) [(0,1,19),(1,1,23)]),zop 25 (.bsl 108 QB [24]),zop 26 (.app 15 25 108 QB),zmv 5 26] [(3,6),(4,6)])),(.reg [zmv 13 6,zbi 14 .sub 13 (zki 1),zmv 6 14])])
def Qqd:List (Nat × Md):=[(0,.b [.d,.d,.d]),(3,.b [.d]),(5,.one .f),(6,.one .d)]
def Qz5:TCode :=
 (zsq [(.reg [zmv 27 5,zmv 4 27]),.ret])
def QHn:TCode :=
 (zsq [(.reg [zop 3 (.box 26 1 1),zmv 4 (.k (.n QB))]),(.reg [zop 7 (.bsl 108 QB []),zmv 5 7]),(zsq [(.reg [zmv 8 0,zca 9 108 [8,(zki 4)],zbi 10 .add (zki 1) 9,zmv 6 10]),(.block 0 (.loop Qqd Qsx))]),Qz5])
def Quk:List (ARv × Md):=[(.t 4,.one (.o 108))]
def QzH:Qb:=TQ 1 0 Quk K
def QCi:Qb:=Qseq (tawp Qmc 1 Qz5 (QzH K)) (QzH K)
def QKT:Qb:=Qblk 0 (QCi K)
def Qic (m:List TOp') (n:Int) (c0:List Int) (c1:Int) (c2:Int) (b:List Qd):Prop:=Loop Qmc 1 Qqd Qsx (QKT K) ⟨[(0,(.p 0 0 0)),(3,(.p 1 0 0)),(5,(.r QB 2 0 b.length)),(6,(zci n))],[(0,(.box [(zcs [(.int .u8)] c0),(zci c1),(zci c2)])),(1,(.box [(zcs ctOp m)])),(2,(.sl 108 QB true b))],3⟩
theorem QvI (m:List TOp') (n:Int) (c0:List Int) (c1:Int) (c2:Int) (b:List Qd) (h :
 (zif (decide (n>(0:Int))) (((Jy (c0,c1,c2) (QX m))∧((Jy ((Z9 (c0,c1,c2) (QX m)).2) (Q1 m))∧((b.length=b.length∨b.length+1≤b.length)∧b.length+1≤big)))∧(Qic K m (w64 (n-(1:Int))) (((Z9 ((Z9 (c0,c1,c2) (QX m)).2) (Q1 m)).2).1) (((Z9 ((Z9 (c0,c1,c2) (QX m)).2) (Q1 m)).2).2.1) (((Z9 ((Z9 (c0,c1,c2) (QX m)).2) (Q1 m)).2).2.2) (List.take (b.length+1) ((List.take b.length b)++([((List.take (((Z9 (c0,c1,c2) (QX m)).1).length) (List.drop 0 ((Z9 (c0,c1,c2) (QX m)).1))),(List.take (((Z9 ((Z9 (c0,c1,c2) (QX m)).2) (Q1 m)).1).length) (List.drop 0 ((Z9 ((Z9 (c0,c1,c2) (QX m)).2) (Q1 m)).1))))]))))) (K (Qbj ((List.take b.length b),(c0,c1,c2)))))):Qic K m n c0 c1 c2 b :=
 Loop.of (by kernel_rfl) h
theorem QFQ (c:((List Int) × Int × Int)) (m:List TOp') (h :
 ((Ze c (4:Int))∧(Qic K m (w64 ((1:Int)+((Qe c (4:Int)).1))) (((Qe c (4:Int)).2).1) (((Qe c (4:Int)).2).2.1) (((Qe c (4:Int)).2).2.2) ([]:List Qd)))):Hold (tawp Qmc (1+0) QHn (TQ 1 0 Quk K) (Qf [(.bx [(.c (.sl [(.int .u8)]) c.1),(.c TI c.2.1),(.c TI c.2.2)]),(.a [(.c (.sl ctOp) m)])])) :=
 Hold.of (by kernel_rfl) h
theorem QvP (c:((List Int) × Int × Int)) (m:List TOp') (hp:Ze c m):∃ t:(List Qd) × (((List Int) × Int × Int)),(QcY c m t)∧TCon Tryz.prog 200 [(.bx [(.c (.sl [(.int .u8)]) c.1),(.c TI c.2.1),(.c TI c.2.2)]),(.a [(.c (.sl ctOp) m)])] (Qbj t):=by
 refine YM (tcx (n:=28) (sg:=QhY.sg) Qj (TOk.cons JT (TOk.cons Qvd (TOk.cons Qk1 (TOk.cons Qun TOk.nil)))) (by kernel_rfl) (by kernel_rfl) (QFQ (fun r'=>∃ t,(QcY c m t)∧r'=Qbj t) c m ?_))
 have hc:Qv c:=hp
 have b1:=Z4 c 4 hc
 have h1:=b1.1
 have h2:=b1.2.1 (by omega)
 rw [Qo (x:=1+_) (by omega) (by omega)]
 have hi:QX m≤6:=by
  by_cases hm:Qw m=true
  ·exact (Qn0 hm).1.2
  ·unfold QX;rw [if_neg hm];omega
 have ho:Q1 m≤6:=by
  by_cases hm:Qw m=true
  ·exact (Qn0 hm).2.2
  ·unfold Q1;rw [if_neg hm];omega
 refine ⟨hc,?_⟩
 have key:∀ (k:Nat) (t:TCur) (b:List Qd),Qv t→b.length+k≤4→1≤b.length+k→(Qw m=true→∀ p,p∈b→Yn m p=true)→Qic (fun r'=>∃ t,(QcY c m t)∧r'=Qbj t) m (k:Int) t.1 t.2.1 t.2.2 b:=by
  intro k
  induction k with
  | zero =>
   intro t b hc k1 k2 k3
   refine QvI (fun r'=>∃ t,(QcY c m t)∧r'=Qbj t) m _ _ _ _ _ ⟨fun h=>by simp at h,fun _=>Q5 ?_⟩
   rw [List.take_length]
   refine ⟨⟨by show 1≤b.length;omega,by show b.length≤4;omega,hc⟩,fun hm=>?_⟩
   unfold ZC
   rw [hm,Bool.true_and,Bool.and_eq_true,List.all_eq_true]
   exact ⟨QJ.2 ⟨by show (1:Int)≤(b.length:Nat);omega,by show ((b.length:Nat):Int)≤5;omega⟩,k3 hm⟩
  | succ k ih =>
   intro t b hc k1 k2 k3
   have hv:Jy t (QX m):=⟨hc,by omega⟩
   have b2:=Qfz _ _ hv
   have hv2:Jy (Z9 t (QX m)).2 (Q1 m):=⟨b2.2.2,by omega⟩
   have b3:=Qfz _ _ hv2
   refine QvI (fun r'=>∃ t,(QcY c m t)∧r'=Qbj t) m _ _ _ _ _ ⟨fun _=>⟨⟨hv,hv2,⟨.inl rfl,by rw [Zi];omega⟩⟩,?_⟩,fun h=>by simp at h <;> omega⟩
   rw [Zq,Qo (x:=((k+1:Nat):Int)-1) (by omega) (by omega),show ((k+1:Nat):Int)-1=k by omega]
   refine ih _ _ b3.2.2 (by simp;omega) (by simp;omega) (fun hm p hpm=>?_)
   rcases List.mem_append.1 hpm with hpm | hpm
   ·exact k3 hm p hpm
   ·have r:=Qn0 hm
    rw [List.mem_singleton.1 hpm,JP,JP]
    unfold Yn
    rw [hm,Bool.true_and,Bool.and_eq_true]
    exact ⟨Qxo b2.1 b2.2.1 r.1.1 r.1.2,Qxo b3.1 b3.2.1 r.2.1 r.2.2⟩
 have h:=key (1+(Qe c 4).1).toNat (Qe c 4).2 [] b1.2.2.2 (by simp;omega) (by simp;omega) (fun _ p hpm=>by cases hpm)
 rw [Int.toNat_of_nonneg (by omega)] at h
 exact h
theorem Qy9 (c:((List Int) × Int × Int)) (m:List TOp') (hp:Ze c m):QcY c m (ZG c m):=(Classical.epsilon_spec (QvP c m hp)).1
theorem QDK (c:((List Int) × Int × Int)) (m:List TOp') (hp:Ze c m):TCon Tryz.prog 200 [(.bx [(.c (.sl [(.int .u8)]) c.1),(.c TI c.2.1),(.c TI c.2.2)]),(.a [(.c (.sl ctOp) m)])] (Qbj (ZG c m)):=(Classical.epsilon_spec (QvP c m hp)).2
theorem Qws:Qh Tryz.prog QhY:=Qk fun x h=>QDK x.1 x.2.1 h
def J3 (t:(List Qd) × (((List Int) × Int × Int))):TRes:=⟨(zcs QB t.1),[],[[(zcs [(.int .u8)] t.2.1),(zci t.2.2.1),(zci t.2.2.2)]],true,[]⟩
def Qii (x0:((List Int) × Int × Int)) (x1:List TOp'):(List Qd) × (((List Int) × Int × Int)):=Classical.epsilon fun t:(List Qd) × (((List Int) × Int × Int))=>(QdA x0 x1 t)∧TCon Tryz.prog 146 [(.bx [(.c (.sl [(.int .u8)]) x0.1),(.c TI x0.2.1),(.c TI x0.2.2)]),(.a [(.c (.sl ctOp) x1)])] (J3 t)
def Ql9:TRow:=Qg 146 [(.b [(.sl [(.int .u8)]),TI,TI]),(.a [(.sl ctOp)])] fun x=>(some (Ze x.1 x.2.1),J3 (Qii x.1 x.2.1))
def Qkl:List TRow:=[QhY,Js,QnN]
def Qpy:TCode :=
 (zsq [(zsq [(.reg [zmv 23 5,zle 24 23,zmv 25 0,zca 26 108 [25,(zki 2)],zbi 27 .add (zki 5) 26,zbi 28 .lss 24 27]),(.cond 28 .skip (.exit 1))]),(.block 2 (.reg [zmv 29 5,zmv 30 5,zia 31 30 (zki 0) QB,zLd 32 31 2,zop 33 (.bsl 108 QB [32]),zop 34 (.app 29 33 108 QB),zmv 5 34]))])
def Qsy:List (Nat × Md):=[(0,.b [.d,.d,.d]),(5,.one .f)]
def QpW:TCode :=
 (zsq [(.reg [zmv 35 5,zmv 4 35]),.ret])
def QBe:TCode :=
 (zsq [(.reg [zop 3 (.box 26 1 1),zmv 4 (.k (.n QB))]),(.reg [zmv 6 0,zLd 7 3 1,zca 8 200 [6,7],zmv 5 8]),(zsq [(.reg [zmv 9 0,zca 10 108 [9,(zki 16)]]),(.block 0 (zsq [(.reg [zbi 12 .eql 10 (zki 0),zmv 11 12]),(.cond 11 (zsq [(.reg [zop 13 (.bsl 108 QB []),zmv 4 13]),.ret]) (zsq [(.reg [zbi 15 .eql 10 (zki 1),zmv 14 15]),(.cond 14 (.reg [zmv 16 5,zmv 17 0,zca 18 107 [17],zia 19 16 (zki 0) QB,zfa 20 19 0,zst 20 18 1]) (zsq [(.reg [zbi 22 .eql 10 (zki 2),zmv 21 22]),(.cond 21 (.block 1 (.loop Qsy Qpy)) .skip)]))]))]))]),QpW])
def QwG:List (ARv × Md):=[(.t 4,.one .d)]
def QtL:Qb:=TQ 1 0 QwG K
def QKq:Qb:=Qseq (tawp Qkl 1 QpW (QtL K)) (QtL K)
def QAQ:Qb:=Qblk 0 (QKq K)
def QAP:Qb:=Qblk 1 (QAQ K)
def QiJ (c0:List Int) (c1:Int) (c2:Int) (b:List Qd):Prop:=Loop Qkl 1 Qsy Qpy (QAP K) ⟨[(0,(.p 0 0 0)),(5,(.r QB 1 0 b.length))],[(0,(.box [(zcs [(.int .u8)] c0),(zci c1),(zci c2)])),(1,(.sl 108 QB true b))],2⟩
theorem QrZ (c0:List Int) (c1:Int) (c2:Int) (b:List Qd) (h :
 ((Ze (c0,c1,c2) (2:Int))∧(zif (decide (((b.length:Nat):Int)<(w64 ((5:Int)+((Qe (c0,c1,c2) (2:Int)).1))))) ((((0:Int)≤(0:Int)∧Int.toNat (0:Int)<b.length)∧(((0+(Int.toNat (0:Int)))<b.length)∧((b.length=b.length∨b.length+1≤b.length)∧b.length+1≤big)))∧(QiJ K (((Qe (c0,c1,c2) (2:Int)).2).1) (((Qe (c0,c1,c2) (2:Int)).2).2.1) (((Qe (c0,c1,c2) (2:Int)).2).2.2) (List.take (b.length+1) ((List.take b.length b)++([(gtd Zn b (0+(Int.toNat (0:Int))))]))))) (K (J3 ((List.take b.length (List.drop 0 b)),((Qe (c0,c1,c2) (2:Int)).2))))))):QiJ K c0 c1 c2 b :=
 Loop.of (by kernel_rfl) h
theorem QNr (c:((List Int) × Int × Int)) (m:List TOp') (h :
 ((Ze c m)∧((Ze ((ZG c m).2) (16:Int))∧(zif (((Qe ((ZG c m).2) (16:Int)).1)==(0:Int)) (K (J3 (([]:List Qd),((Qe ((ZG c m).2) (16:Int)).2)))) (zif (((Qe ((ZG c m).2) (16:Int)).1)==(1:Int)) (((Qv ((Qe ((ZG c m).2) (16:Int)).2))∧(((0:Int)≤(0:Int)∧Int.toNat (0:Int)<((ZG c m).1).length)∧((0+(Int.toNat (0:Int)))<((ZG c m).1).length)))∧K (J3 ((List.take (((ZG c m).1).length) (List.drop 0 (((ZG c m).1).set (0+(Int.toNat (0:Int))) ((QfE ((Qe ((ZG c m).2) (16:Int)).2)).1,(gtd Zn ((ZG c m).1) (0+(Int.toNat (0:Int)))).2)))),((QfE ((Qe ((ZG c m).2) (16:Int)).2)).2)))) (zif (((Qe ((ZG c m).2) (16:Int)).1)==(2:Int)) (QiJ K (((Qe ((ZG c m).2) (16:Int)).2).1) (((Qe ((ZG c m).2) (16:Int)).2).2.1) (((Qe ((ZG c m).2) (16:Int)).2).2.2) (List.take (((ZG c m).1).length) ((ZG c m).1))) (K (J3 ((List.take (((ZG c m).1).length) (List.drop 0 ((ZG c m).1))),((Qe ((ZG c m).2) (16:Int)).2)))))))))):Hold (tawp Qkl (1+0) QBe (TQ 1 0 QwG K) (Qf [(.bx [(.c (.sl [(.int .u8)]) c.1),(.c TI c.2.1),(.c TI c.2.2)]),(.a [(.c (.sl ctOp) m)])])) :=
 Hold.of (by kernel_rfl) h
theorem QHy (c:((List Int) × Int × Int)) (m:List TOp') (hp:Ze c m):∃ t:(List Qd) × (((List Int) × Int × Int)),(QdA c m t)∧TCon Tryz.prog 146 [(.bx [(.c (.sl [(.int .u8)]) c.1),(.c TI c.2.1),(.c TI c.2.2)]),(.a [(.c (.sl ctOp) m)])] (J3 t):=by
 refine YM (tcx (n:=36) (sg:=Ql9.sg) Qj (TOk.cons Qws (TOk.cons JT (TOk.cons QHz TOk.nil))) (by kernel_rfl) (by kernel_rfl) (QNr (fun r'=>∃ t,(QdA c m t)∧r'=J3 t) c m ?_))
 have hc:Qv c:=hp
 have b1:=(Qy9 c m hc).1
 generalize ZG c m=r1 at b1 ⊢
 obtain ⟨k1,k2,k3⟩:=b1
 have b3:=(Z4 r1.2 16 k3).2.2.2
 generalize Qe r1.2 16=r3 at b3 ⊢
 refine ⟨hc,k3,fun _=>Q5 ⟨by simp,b3⟩,fun _=>⟨fun _=>⟨⟨b3,⟨by omega,by simp;omega⟩,by simp;omega⟩,Q5 ⟨by simp;omega,(QFi _ b3).2⟩⟩,fun _=>⟨fun _=>?_,fun _=>Q5 ⟨by simp;omega,b3⟩⟩⟩⟩
 rw [List.take_length]
 have key:∀ (k:Nat) (t:TCur) (b:List Qd),Qv t→1≤b.length→b.length+k=6→QiJ (fun r'=>∃ t,(QdA c m t)∧r'=J3 t) t.1 t.2.1 t.2.2 b:=by
  intro k
  induction k with
  | zero =>
   intro t b hc q1 q2
   have b2:=Z4 t 2 hc
   have q3:=b2.1
   have q4:=b2.2.1 (by omega)
   have hw:w64 (5+(Qe t 2).1)=5+(Qe t 2).1:=Qo (by omega) (by omega)
   refine QrZ (fun r'=>∃ t,(QdA c m t)∧r'=J3 t) _ _ _ _ ⟨hc,fun h=>?_,fun _=>Q5 ⟨by simp;omega,b2.2.2.2⟩⟩
   have h:=of_decide_eq_true h
   have h':(b.length:Int)<w64 (5+(Qe t 2).1):=h
   rw [hw] at h'
   omega
  | succ k ih =>
   intro t b hc q1 q2
   have b2:=Z4 t 2 hc
   refine QrZ (fun r'=>∃ t,(QdA c m t)∧r'=J3 t) _ _ _ _ ⟨hc,fun _=>?_,fun _=>Q5 ⟨by simp;omega,b2.2.2.2⟩⟩
   refine ⟨⟨⟨by omega,by simp;omega⟩,by simp;omega,.inl rfl,by rw [Zi];omega⟩,?_⟩
   rw [Zq]
   exact ih _ _ b2.2.2.2 (by simp) (by simp;omega)
 exact key (6-r1.1.length) _ _ b3 k1 (by omega)
theorem QMN (c:((List Int) × Int × Int)) (m:List TOp') (hp:Ze c m):TCon Tryz.prog 146 [(.bx [(.c (.sl [(.int .u8)]) c.1),(.c TI c.2.1),(.c TI c.2.2)]),(.a [(.c (.sl ctOp) m)])] (J3 (Qii c m)):=(Classical.epsilon_spec (QHy c m hp)).2
theorem QE4:Qh Tryz.prog Ql9:=Qk fun x h=>QMN x.1 x.2.1 h
def J7 (t:Ql × (List Qd) × (((List Int) × Int × Int))):TRes:=⟨(.tp [(.a [(zcs ctOp t.1.1),(.r [TI] 0 0 ((t.1.2.1).length)),(zci t.1.2.2.1),(.r [.bool] 1 0 ((t.1.2.2.2.1).length)),(.r [TI] 2 0 ((t.1.2.2.2.2.1).length)),(.r [TI] 3 0 ((t.1.2.2.2.2.2).length))]),(zcs QB t.2.1)]),[(.sl 3 [TI] true t.1.2.1),(.sl 4 [.bool] true t.1.2.2.2.1),(.sl 3 [TI] true t.1.2.2.2.2.1),(.sl 3 [TI] true t.1.2.2.2.2.2)],[[(zcs [(.int .u8)] t.2.2.1),(zci t.2.2.2.1),(zci t.2.2.2.2)]],true,[]⟩
def QO (x0:((List Int) × Int × Int)):Ql × (List Qd) × (((List Int) × Int × Int)):=Classical.epsilon fun t:Ql × (List Qd) × (((List Int) × Int × Int))=>(QaE x0 t)∧TCon Tryz.prog 143 [(.bx [(.c (.sl [(.int .u8)]) x0.1),(.c TI x0.2.1),(.c TI x0.2.2)])] (J7 t)
def Qj1:TRow:=Qg 143 [(.b [(.sl [(.int .u8)]),TI,TI])] fun x=>(some (Qv x.1),J7 (QO x.1))
def QeD:List TRow:=[Qip,QmQ,Js,QhY,Qfi,Qgo,Qb7]
def Qqn:TCode :=
 (zsq [(zsq [(.reg [zmv 22 7,zfa 23 5 1,zld 24 23 1,zle 25 24,zbi 26 .leq 22 25]),(.cond 26 .skip (.exit 0))]),(.block 1 (zsq [(.draw [zfa 29 5 3,zld 30 29 1,zmv 31 0,zca 32 106 [31,(zki 3)],zop 33 (.bsl 4 [.bool] [32]),zop 34 (.app 30 33 4 [.bool]),zfa 35 5 3,zst 35 34 1] [(0,3),(1,3),(0,4),(1,4)]),(.reg [zmv 36 7,zbi 37 .gtr 36 (zki 0)]),(.cond 37 (.draw [zfa 38 5 4,zld 39 38 1,zmv 40 0,zca 41 108 [40,(zki 3)],zbi 42 .add (zki 1) 41,zop 43 (.bsl 3 [TI] [42]),zop 44 (.app 39 43 3 [TI]),zfa 45 5 4,zst 45 44 1] [(0,3),(1,3),(0,5),(1,5)]) .skip)])),(.reg [zmv 27 7,zbi 28 .add 27 (zki 1),zmv 7 28])])
def QpF:List (Nat × Md):=[(0,.b [.d,.d,.d]),(2,.b (zds 6)),(5,.b [.d,.f,.d,.o 4,.o 3,.o 3]),(6,.one .d),(7,.one .d)]
def Qzk:TCode :=
 (zsq [(zsq [(.reg [zmv 46 8,zfa 47 5 1,zld 48 47 1,zle 49 48,zbi 50 .leq 46 49]),(.cond 50 .skip (.exit 2))]),(.block 3 (.draw [zfa 53 5 5,zld 54 53 1,zLd 55 5 6,zmv 56 8,zmv 57 6,zle 58 57,zca 59 78 [55,56,58],zmv 60 0,zop 61 (.bsl 3 [TI] [(zki 0),(zki 0),(zki 7)]),zca 62 145 [60,61],zbi 63 .add 59 62,zop 64 (.bsl 3 [TI] [63]),zop 65 (.app 54 64 3 [TI]),zfa 66 5 5,zst 66 65 1] [(0,6),(1,6),(0,8),(1,8),(2,8),(5,8),(6,8),(0,9),(1,9),(0,11),(1,11)])),(.reg [zmv 51 8,zbi 52 .add 51 (zki 1),zmv 8 52])])
def Qzj:List (Nat × Md):=[(0,.b [.d,.d,.d]),(2,.b (zds 6)),(5,.b [.d,.f,.d,.f,.f,.f]),(6,.one .d),(8,.one .d)]
def Qur:TCode :=
 (zsq [(.reg [zLd 67 5 6,zmv 68 6,zst 2 67 6,zmv 3 68]),.ret])
def QxM:TCode :=
 (zsq [(zsq [(.reg [zmv 8 (zki 0)]),(.block 2 (.loop Qzj Qzk))]),Qur])
def QKr:TCode :=
 (zsq [(.reg [zop 2 (.new 30 (z0s QS)),zmv 3 (.k (.n QB))]),(.reg [zmv 9 0,zca 10 198 [9],zop 4 (.new 26 [(.n ctOp)]),zst 4 10 1]),(.draw [zLd 11 4 1,zmv 12 0,zLd 13 4 1,zca 14 199 [12,13],zmv 15 0,zca 16 108 [15,(zki 2)],zbi 17 .add (zki 1) 16,zop 18 (.build (z0s QS) [(0,1,11),(1,1,14),(2,1,17)]),zop 5 (.new 30 (z0s QS)),zst 5 18 6] [(0,3),(0,5),(0,8),(2,8),(3,8),(5,8)]),(.reg [zmv 19 0,zLd 20 4 1,zca 21 200 [19,20],zmv 6 21]),(zsq [(.reg [zmv 7 (zki 0)]),(.block 0 (.loop QpF Qqn))]),QxM])
def Qpk:List (ARv × Md):=[(.l 2 6 true,.b [.d,.o 3,.d,.o 4,.o 3,.o 3]),(.t 3,.one .d)]
def QhQ:Qb:=TQ 1 0 Qpk K
def QCw:Qb:=Qseq (tawp QeD 1 Qur (QhQ K)) (QhQ K)
def QLA:Qb:=Qblk 2 (QCw K)
def QhH (c:((List Int) × Int × Int)) (s1:Int) (c01:List Int) (c11:Int) (c21:Int) (x11:List Int) (x31:List Bool) (x41:List Int) (x5:List Int):Prop:=let z1:=List.take (((Zb c).1).length) (List.drop 0 ((Zb c).1))
 let z2:=Qe ((Qam ((Zb c).2) z1).2) (2:Int)
 Loop QeD 1 Qzj Qzk (QLA K) ⟨[(0,(.p 0 0 0)),(2,(.p 1 0 0)),(5,(.p 6 0 0)),(6,(zcs QB (List.take (((ZG (z2.2) z1).1).length) (List.drop 0 ((ZG (z2.2) z1).1))))),(8,(zci s1))],[(0,(.box [(zcs [(.int .u8)] c01),(zci c11),(zci c21)])),(1,(.box (Tup.cells QS ([],[],(0:Int),[],[],[])))),(2,(.sl 3 [TI] true x11)),(3,(.sl 4 [.bool] true x31)),(4,(.sl 3 [TI] true x41)),(5,(.sl 3 [TI] true x5)),(6,(.box [(zcs ctOp z1),(.r [TI] 2 0 x11.length),(zci (w64 ((1:Int)+(z2.1)))),(.r [.bool] 3 0 x31.length),(.r [TI] 4 0 x41.length),(.r [TI] 5 0 x5.length)]))],7⟩
def QIT:Qb:=Qseq (tawp QeD 1 QxM (QhQ K)) (QhQ K)
def QIB:Qb:=Qblk 0 (QIT K)
def Qex (c:((List Int) × Int × Int)) (s:Int) (c0:List Int) (c1:Int) (c2:Int) (x1:List Int) (x3:List Bool) (x4:List Int):Prop:=let z1:=List.take (((Zb c).1).length) (List.drop 0 ((Zb c).1))
 let z2:=Qe ((Qam ((Zb c).2) z1).2) (2:Int)
 Loop QeD 1 QpF Qqn (QIB K) ⟨[(0,(.p 0 0 0)),(2,(.p 1 0 0)),(5,(.p 6 0 0)),(6,(zcs QB (List.take (((ZG (z2.2) z1).1).length) (List.drop 0 ((ZG (z2.2) z1).1))))),(7,(zci s))],[(0,(.box [(zcs [(.int .u8)] c0),(zci c1),(zci c2)])),(1,(.box (Tup.cells QS ([],[],(0:Int),[],[],[])))),(2,(.sl 3 [TI] true x1)),(3,(.sl 4 [.bool] true x3)),(4,(.sl 3 [TI] true x4)),(5,(.sl 3 [TI] true ([]:List Int))),(6,(.box [(zcs ctOp z1),(.r [TI] 2 0 x1.length),(zci (w64 ((1:Int)+(z2.1)))),(.r [.bool] 3 0 x3.length),(.r [TI] 4 0 x4.length),(.r [TI] 5 0 0)]))],7⟩
theorem Qzm (c:((List Int) × Int × Int)) (s1:Int) (c01:List Int) (c11:Int) (c21:Int) (x11:List Int) (x31:List Bool) (x41:List Int) (x5:List Int) (h :
 let z1:=List.take (((Zb c).1).length) (List.drop 0 ((Zb c).1))
 let z2:=Qe ((Qam ((Zb c).2) z1).2) (2:Int)
 let z3:=List.take (((ZG (z2.2) z1).1).length) (List.drop 0 ((ZG (z2.2) z1).1))
 (zif (decide (s1≤((x11.length:Nat):Int))) (((Y0 (c01,c11,c21) ([(0:Int),(0:Int),(7:Int)]))∧((x5.length=x5.length∨x5.length+1≤x5.length)∧x5.length+1≤big))∧(QhH K c (w64 (s1+(1:Int))) (((Zt (c01,c11,c21) ([(0:Int),(0:Int),(7:Int)])).2).1) (((Zt (c01,c11,c21) ([(0:Int),(0:Int),(7:Int)])).2).2.1) (((Zt (c01,c11,c21) ([(0:Int),(0:Int),(7:Int)])).2).2.2) (List.take x11.length x11) (List.take x31.length x31) (List.take x41.length x41) (List.take (x5.length+1) ((List.take x5.length x5)++([w64 ((Zy (z1,(List.take x11.length (List.drop 0 x11)),w64 ((1:Int)+(z2.1)),(List.take x31.length (List.drop 0 x31)),(List.take x41.length (List.drop 0 x41)),(List.take x5.length (List.drop 0 x5))) s1 (z3.length:Int))+((Zt (c01,c11,c21) ([(0:Int),(0:Int),(7:Int)])).1))]))))) (K (J7 ((z1,(List.take x11.length x11),w64 ((1:Int)+(z2.1)),(List.take x31.length x31),(List.take x41.length x41),(List.take x5.length x5)),z3,(c01,c11,c21)))))):QhH K c s1 c01 c11 c21 x11 x31 x41 x5 :=
 Loop.of (by kernel_rfl) h
theorem QtN (c:((List Int) × Int × Int)) (s:Int) (c0:List Int) (c1:Int) (c2:Int) (x1:List Int) (x3:List Bool) (x4:List Int) (h :
 (zif (decide (s≤((x1.length:Nat):Int))) (((Ze (c0,c1,c2) (3:Int))∧((x3.length=x3.length∨x3.length+1≤x3.length)∧x3.length+1≤big))∧(zif (decide (s>(0:Int))) (((Ze ((ZI (c0,c1,c2) (3:Int)).2) (3:Int))∧((x4.length=x4.length∨x4.length+1≤x4.length)∧x4.length+1≤big))∧(Qex K c (w64 (s+(1:Int))) (((Qe ((ZI (c0,c1,c2) (3:Int)).2) (3:Int)).2).1) (((Qe ((ZI (c0,c1,c2) (3:Int)).2) (3:Int)).2).2.1) (((Qe ((ZI (c0,c1,c2) (3:Int)).2) (3:Int)).2).2.2) (List.take x1.length x1) (List.take (x3.length+1) ((List.take x3.length x3)++([(ZI (c0,c1,c2) (3:Int)).1]))) (List.take (x4.length+1) ((List.take x4.length x4)++([w64 ((1:Int)+((Qe ((ZI (c0,c1,c2) (3:Int)).2) (3:Int)).1))]))))) (Qex K c (w64 (s+(1:Int))) (((ZI (c0,c1,c2) (3:Int)).2).1) (((ZI (c0,c1,c2) (3:Int)).2).2.1) (((ZI (c0,c1,c2) (3:Int)).2).2.2) (List.take x1.length x1) (List.take (x3.length+1) ((List.take x3.length x3)++([(ZI (c0,c1,c2) (3:Int)).1]))) (List.take x4.length x4)))) (QhH K c 0 c0 c1 c2 (List.take x1.length x1) (List.take x3.length x3) (List.take x4.length x4) ([]:List Int)))):Qex K c s c0 c1 c2 x1 x3 x4 :=
 Loop.of (by kernel_rfl) h
theorem QMu (c:((List Int) × Int × Int)) (h :
 let z1:=List.take (((Zb c).1).length) (List.drop 0 ((Zb c).1))
 let z2:=Qam ((Zb c).2) z1
 let z3:=ZG ((Qe (z2.2) (2:Int)).2) z1
 ((Qv c)∧(((Qeg ((Zb c).2) z1)∧(Ze (z2.2) (2:Int)))∧((Ze ((Qe (z2.2) (2:Int)).2) z1)∧(Qex K c 0 ((z3.2).1) ((z3.2).2.1) ((z3.2).2.2) (List.take ((z2.1).length) (z2.1)) ([]:List Bool) ([]:List Int)))))):Hold (tawp QeD (1+0) QKr (TQ 1 0 Qpk K) (Qf [(.bx [(.c (.sl [(.int .u8)]) c.1),(.c TI c.2.1),(.c TI c.2.2)])])) :=
 Hold.of (by kernel_rfl) h
theorem Qu4 (c:((List Int) × Int × Int)) (hp:Qv c):∃ t:Ql × (List Qd) × (((List Int) × Int × Int)),(QaE c t)∧TCon Tryz.prog 143 [(.bx [(.c (.sl [(.int .u8)]) c.1),(.c TI c.2.1),(.c TI c.2.2)])] (J7 t):=by
 refine YM (tcx (n:=69) (sg:=Qj1.sg) Qj (TOk.cons QsB (TOk.cons QPJ (TOk.cons JT (TOk.cons Qws (TOk.cons QkB (TOk.cons Qsu (TOk.cons QdY TOk.nil))))))) (by kernel_rfl) (by kernel_rfl) (QMu (fun r'=>∃ t,(QaE c t)∧r'=J7 t) c ?_))
 conv=>zeta
 have hc:Qv c:=hp
 have b1:=QpR c hc
 simp only [List.drop_zero,List.take_length]
 have hcu:Qeg (Zb c).2 (Zb c).1:=⟨b1.2.2,by have:=b1.2.1;omega⟩
 have b2:=QCl _ _ hcu
 have b3':=Z4 (Qam (Zb c).2 (Zb c).1).2 2 b2.2.2
 have b3:=b3'.2.2.2
 have b4:=Qy9 _ (Zb c).1 b3
 have hl:=b2.2.1
 have hM:=b1.1
 have hB:=b4.2 hM
 have hC:=b2.1 hM
 have hd1:=b3'.1
 have hd2:=b3'.2.1 (by omega)
 refine ⟨hc,⟨hcu,b2.2.2⟩,b3,?_⟩
 obtain ⟨bat,hbat⟩:∃ z,(ZG (Qe (Qam (Zb c).2 (Zb c).1).2 2).2 (Zb c).1).1=z:=⟨_,rfl⟩
 obtain ⟨ds,hds⟩:∃ z,w64 (1+(Qe (Qam (Zb c).2 (Zb c).1).2 2).1)=z:=⟨_,rfl⟩
 have hds2:1≤ds∧ds≤2:=by rw [← hds,Qo (by omega) (by omega)];omega
 rw [hbat] at hB
 have k4:∀ (x11:List Int) (x31:List Bool) (x41:List Int),Q0 (Zb c).1 x11=true→x11.length≤3→x31.length=x11.length+1→x41.length=x11.length→(∀ x,x∈x41→1≤x∧x≤5)→∀ (k:Nat) (t:TCur) (s1:Nat) (x5:List Int),Qv t→s1+k=x11.length+1→x5.length=s1 →
   (∀ j:Nat,j<s1→Zy ((Zb c).1,x11,ds,x31,x41,[]) (j:Int) bat.length≤gtd 0 x5 j∧gtd 0 x5 j≤100000)→QhH (fun r'=>∃ t,(QaE c t)∧r'=J7 t) c (s1:Int) t.1 t.2.1 t.2.2 x11 x31 x41 x5:=by
  intro x11 x31 x41 mc m0 m1 m2 m3 k
  induction k with
  | zero =>
   intro t s1 x5 ht h1 h2 h3
   refine Qzm (fun r'=>∃ t,(QaE c t)∧r'=J7 t) c _ _ _ _ _ _ _ _ ?_
   conv=>zeta
   simp only [List.drop_zero,List.take_length]
   rw [hbat,hds]
   refine ⟨fun h=>by simp at h;omega,fun _=>Q5 ⟨⟨?_,?_,?_,?_,?_,?_,ht⟩,QkW (QqB hM hB mc m0 hds2 m1 m2 m3 (by show x5.length=x11.length+1;omega) fun j hj=>?_)⟩⟩
   ·show x11.length≤3;omega
   ·show 1≤x31.length;omega
   ·show x31.length≤4;omega
   ·show x41.length≤4;omega
   ·show 1≤x5.length;omega
   ·show x5.length≤4;omega
   ·have hj:j<x5.length:=hj
    exact h3 j (by omega)
  | succ k ih =>
   intro t s1 x5 ht h1 h2 h3
   have hpk:Y0 t [0,0,7]:=⟨ht,by simp,by simp⟩
   have hpost:=QdC _ _ hpk
   have hval:=hpost.1
   simp only [List.mem_cons,List.not_mem_nil,or_false] at hval
   refine Qzm (fun r'=>∃ t,(QaE c t)∧r'=J7 t) c _ _ _ _ _ _ _ _ ?_
   conv=>zeta
   simp only [List.drop_zero,List.take_length]
   rw [hbat,hds]
   refine ⟨fun _=>⟨⟨hpk,⟨.inl (by trivial),by rw [Zi];omega⟩⟩,?_⟩,fun h=>by simp at h;omega⟩
   rw [sc1 (by omega),List.take_of_length_le (by simp)]
   refine ih (Zt t [0,0,7]).2 (s1+1) _ hpost.2 (by omega) (by simp;omega) (fun j hj=>?_)
   have hpr:=QoP ((Zb c).1,x11,ds,x31,x41,[]) (j:Int) bat.length
   by_cases hjs:j=s1
   ·subst hjs
    have he:Zy ((Zb c).1,x11,ds,x31,x41,x5) (j:Int) bat.length=Zy ((Zb c).1,x11,ds,x31,x41,[]) (j:Int) bat.length:=rfl
    have hg:∀ y:Int,gtd 0 (x5++[y]) j=y:=fun y=>by rw [← h2];exact QM8 0 x5 y []
    have hv:0≤(Zt t [0,0,7]).1∧(Zt t [0,0,7]).1≤7:=by omega
    rw [hg,he]
    show _≤w64 (_+(Zt t [0,0,7]).1)∧w64 (_+(Zt t [0,0,7]).1)≤_
    rw [Qo (by omega) (by omega)]
    omega
   ·have hg:∀ y:Int,gtd 0 (x5++[y]) j=gtd 0 x5 j:=fun y=>by unfold gtd;rw [List.getD_eq_getElem?_getD,List.getD_eq_getElem?_getD,List.getElem?_append_left (by omega)]
    rw [hg]
    exact h3 j (by omega)
 have k2:∀ (x1:List Int),Q0 (Zb c).1 x1=true→x1.length≤3→∀ (k:Nat) (t:TCur) (s:Nat) (x3:List Bool) (x4:List Int),Qv t→s+k=x1.length+1→x3.length=s→x4.length=s-1→(∀ x,x∈x4→1≤x∧x≤5)→Qex (fun r'=>∃ t,(QaE c t)∧r'=J7 t) c (s:Int) t.1 t.2.1 t.2.2 x1 x3 x4:=by
  intro x1 mc m0 k
  induction k with
  | zero =>
   intro t s x3 x4 ht h1 h2 h3 h4
   refine QtN (fun r'=>∃ t,(QaE c t)∧r'=J7 t) c _ _ _ _ _ _ _ ⟨fun h=>by simp at h;omega,fun _=>?_⟩
   rw [List.take_length,List.take_length,List.take_length]
   exact k4 x1 x3 x4 mc m0 (by omega) (by omega) h4 (x1.length+1) t 0 [] ht (by omega) rfl (fun j hj=>absurd hj (Nat.not_lt_zero j))
  | succ k ih =>
   intro t s x3 x4 ht h1 h2 h3 h4
   have b5:=QnV t 3 ht
   have b6':=Z4 (ZI t 3).2 3 b5
   have b6:=b6'.2.2.2
   have e1:=b6'.1
   have e2:=b6'.2.1 (by omega)
   refine QtN (fun r'=>∃ t,(QaE c t)∧r'=J7 t) c _ _ _ _ _ _ _ ⟨fun _=>⟨⟨ht,⟨.inl rfl,by rw [Zi];omega⟩⟩,fun hs=>⟨⟨b5,⟨.inl rfl,by rw [Zi];omega⟩⟩,?_⟩,fun hs=>?_⟩,fun h=>by simp at h;omega⟩
   ·have hs:0<s:=by have:=of_decide_eq_true hs;omega
    rw [sc1 (by omega),List.take_length (l:=x1)]
    refine ih (Qe (ZI t 3).2 3).2 (s+1) _ _ b6 (by omega) (by simp;omega) (by simp;omega) (fun x hx=>?_)
    rw [Zq] at hx
    rcases List.mem_append.1 hx with hx | hx
    ·exact h4 x hx
    ·have hx:=List.mem_singleton.1 hx
     have hx:x=w64 (1+(Qe (ZI t 3).2 3).1):=hx
     rw [hx,Qo (by omega) (by omega)];omega
   ·have hs:s=0:=by have:=of_decide_eq_false hs;omega
    rw [sc1 (by omega),List.take_length (l:=x1),List.take_length (l:=x4)]
    exact ih (ZI t 3).2 (s+1) _ _ b5 (by omega) (by simp;omega) (by omega) h4
 exact k2 _ hC hl ((Qam (Zb c).2 (Zb c).1).1.length+1) _ 0 [] [] b4.1.2.2 (by omega) rfl rfl (fun x hx=>by cases hx)
theorem QPa (c:((List Int) × Int × Int)) (hp:Qv c):QaE c (QO c):=(Classical.epsilon_spec (Qu4 c hp)).1
theorem QQ3 (c:((List Int) × Int × Int)) (hp:Qv c):TCon Tryz.prog 143 [(.bx [(.c (.sl [(.int .u8)]) c.1),(.c TI c.2.1),(.c TI c.2.2)])] (J7 (QO c)):=(Classical.epsilon_spec (Qu4 c hp)).2
theorem QLQ:Qh Tryz.prog Qj1:=Qk fun x h=>QQ3 x.1 h
def Jl (t:Ql × (List Qd) × (((List Int) × Int × Int))):TRes:=⟨(.tp [(.a (Tup.cells QS t.1)),(zcs QB t.2.1)]),[],[[(zcs [(.int .u8)] t.2.2.1),(zci t.2.2.2.1),(zci t.2.2.2.2)]],true,[]⟩
def Qfr (x0:((List Int) × Int × Int)):Ql × (List Qd) × (((List Int) × Int × Int)):=Classical.epsilon fun t:Ql × (List Qd) × (((List Int) × Int × Int))=>(Qh7 x0 t)∧TCon Tryz.prog 68 [(.bx [(.c (.sl [(.int .u8)]) x0.1),(.c TI x0.2.1),(.c TI x0.2.2)])] (Jl t)
def QmD:TRow:=Qg 68 [(.b [(.sl [(.int .u8)]),TI,TI])] fun x=>(some (Qv x.1),Jl (Qfr x.1))
def QLR:List TRow:=[Qj1,Js,QkD,Qb7,Ql9]
def QAG:TCode :=
 (zsq [(.reg [zop 2 (.new 30 (z0s QS)),zmv 3 (.k (.n QB))]),(.reg [zmv 7 0,zca 8 143 [7],zmv 6 8,zex 9 6 0,zex 10 6 1,zop 4 (.new 30 (z0s QS)),zst 4 9 6,zmv 5 10]),(zsq [(.reg [zmv 11 0,zca 12 108 [11,(zki 16)]]),(.block 0 (zsq [(.reg [zbi 14 .eql 12 (zki 0),zmv 13 14]),(.cond 13 (.reg [zmv 15 0,zca 16 144 [15],zfa 17 4 0,zst 17 16 1]) (zsq [(.reg [zbi 19 .eql 12 (zki 1),zmv 18 19]),(.cond 18 (.draw [zfa 20 4 1,zld 21 20 1,zmv 22 0,zca 23 108 [22,(zki 8)],zop 24 (.bsl 3 [TI] [23]),zop 25 (.app 21 24 3 [TI]),zfa 26 4 1,zst 26 25 1] [(0,3),(1,3),(0,4),(1,4)]) (zsq [(.reg [zbi 28 .eql 12 (zki 2),zmv 27 28]),(.cond 27 (.reg [zmv 29 0,zop 30 (.bsl 3 [TI] [(zki 0),(zki 3)]),zca 31 145 [29,30],zfa 32 4 2,zst 32 31 1]) (zsq [(.reg [zbi 34 .eql 12 (zki 3),zmv 33 34]),(.cond 33 (.reg [zfa 35 4 3,zld 36 35 1,zfa 37 4 3,zld 38 37 1,zle 39 38,zbi 40 .sub 39 (zki 1),zop 41 (.slc 36 none (some 40) [.bool]),zfa 42 4 3,zst 42 41 1]) (zsq [(.reg [zbi 44 .eql 12 (zki 4),zmv 43 44]),(.cond 43 (zsq [(.reg [zfa 45 4 4,zld 46 45 1,zle 47 46,zbi 48 .gtr 47 (zki 0)]),(.cond 48 (.draw [zfa 49 4 4,zld 50 49 1,zmv 51 0,zop 52 (.bsl 3 [TI] [(zki 0),(zki 5),(zki 6)]),zca 53 145 [51,52],zia 54 50 (zki 0) [TI],zst 54 53 1] [(0,3),(1,3),(0,4),(1,4)]) .skip)]) (zsq [(.reg [zbi 56 .eql 12 (zki 5),zmv 55 56]),(.cond 55 (.draw [zfa 57 4 5,zld 58 57 1,zmv 59 0,zfa 60 4 5,zld 61 60 1,zia 62 61 (zki 0) [TI],zld 63 62 1,zbi 64 .sub 63 (zki 1),zop 65 (.bsl 3 [TI] [64,(zki 100000),(zki 100001),(zki 0)]),zca 66 145 [59,65],zia 67 58 (zki 0) [TI],zst 67 66 1] [(0,8),(1,8),(0,9),(1,9)]) (zsq [(.reg [zbi 69 .eql 12 (zki 6),zmv 68 69]),(.cond 68 (.reg [zmv 70 0,zfa 71 4 0,zLd 72 71 1,zca 73 146 [70,72],zmv 5 73]) (zsq [(.reg [zbi 75 .eql 12 (zki 7),zmv 74 75]),(.cond 74 (.reg [zfa 76 4 5,zld 77 76 1,zop 78 (.slc 77 (some (zki 1)) none [TI]),zfa 79 4 5,zst 79 78 1]) .skip)]))]))]))]))]))]))]))]))]),(.reg [zLd 80 4 6,zmv 81 5,zst 2 80 6,zmv 3 81]),.ret])
def QQr:List (ARv × Md):=[(.l 2 6 true,.b (zds 6)),(.t 3,.one .d)]
theorem QOz (c:((List Int) × Int × Int)) (h :
 let z1:=Qe ((QO c).2.2) (16:Int)
 let z2:=List.take ((((QO c).1).2.2.2.2.1).length) (List.drop 0 (((QO c).1).2.2.2.2.1))
 let z3:=List.take ((((QO c).1).2.2.2.1).length) (List.drop 0 (((QO c).1).2.2.2.1))
 let z4:=List.take ((((QO c).1).2.2.2.2.2).length) (List.drop 0 (((QO c).1).2.2.2.2.2))
 let z5:=List.take ((((QO c).1).2.1).length) (List.drop 0 (((QO c).1).2.1))
 let z7:=Int.toNat (0:Int)
 let z6:=gtd (0:Int) (((QO c).1).2.2.2.2.2) (0+z7)
 ((Qv c)∧((Ze ((QO c).2.2) (16:Int))∧(zif ((z1.1)==(0:Int)) ((Qv (z1.2))∧K (Jl (((QgL (z1.2)).1,z5,((QO c).1).2.2.1,z3,z2,z4),(QO c).2.1,((QgL (z1.2)).2)))) (zif ((z1.1)==(1:Int)) (((Ze (z1.2) (8:Int))∧(((((QO c).1).2.1).length=(((QO c).1).2.1).length∨(((QO c).1).2.1).length+1≤(((QO c).1).2.1).length)∧(((QO c).1).2.1).length+1≤big))∧K (Jl ((((QO c).1).1,(List.take ((((QO c).1).2.1).length+1) (List.drop 0 ((List.take ((((QO c).1).2.1).length) (((QO c).1).2.1))++([(Qe (z1.2) (8:Int)).1])))),((QO c).1).2.2.1,z3,z2,z4),(QO c).2.1,((Qe (z1.2) (8:Int)).2)))) (zif ((z1.1)==(2:Int)) ((Y0 (z1.2) ([(0:Int),(3:Int)]))∧K (Jl ((((QO c).1).1,z5,(Zt (z1.2) ([(0:Int),(3:Int)])).1,z3,z2,z4),(QO c).2.1,((Zt (z1.2) ([(0:Int),(3:Int)])).2)))) (zif ((z1.1)==(3:Int)) (((0:Int)≤(0:Int)∧(0:Int)≤w64 ((((((QO c).1).2.2.2.1).length:Nat):Int)-(1:Int))∧w64 ((((((QO c).1).2.2.2.1).length:Nat):Int)-(1:Int))≤(((((QO c).1).2.2.2.1).length:Nat):Int))∧K (Jl ((((QO c).1).1,z5,((QO c).1).2.2.1,(List.take (Int.toNat (w64 ((((((QO c).1).2.2.2.1).length:Nat):Int)-(1:Int)))-Int.toNat (0:Int)) (List.drop 0 (((QO c).1).2.2.2.1))),z2,z4),(QO c).2.1,(z1.2)))) (zif ((z1.1)==(4:Int)) (zif (decide ((((((QO c).1).2.2.2.2.1).length:Nat):Int)>(0:Int))) (((Y0 (z1.2) ([(0:Int),(5:Int),(6:Int)]))∧(((0:Int)≤(0:Int)∧Int.toNat (0:Int)<(((QO c).1).2.2.2.2.1).length)∧((0+z7)<(((QO c).1).2.2.2.2.1).length)))∧K (Jl ((((QO c).1).1,z5,((QO c).1).2.2.1,z3,(List.take ((((QO c).1).2.2.2.2.1).length) (List.drop 0 ((((QO c).1).2.2.2.2.1).set (0+z7) ((Zt (z1.2) ([(0:Int),(5:Int),(6:Int)])).1)))),z4),(QO c).2.1,((Zt (z1.2) ([(0:Int),(5:Int),(6:Int)])).2)))) (K (Jl ((((QO c).1).1,z5,((QO c).1).2.2.1,z3,z2,z4),(QO c).2.1,(z1.2))))) (zif ((z1.1)==(5:Int)) ((((0:Int)≤(0:Int)∧Int.toNat (0:Int)<(((QO c).1).2.2.2.2.2).length)∧(((0+z7)<(((QO c).1).2.2.2.2.2).length)∧((Y0 (z1.2) ([w64 (z6-(1:Int)),(100000:Int),(100001:Int),(0:Int)]))∧(((0:Int)≤(0:Int)∧Int.toNat (0:Int)<(((QO c).1).2.2.2.2.2).length)∧((0+z7)<(((QO c).1).2.2.2.2.2).length)))))∧K (Jl ((((QO c).1).1,z5,((QO c).1).2.2.1,z3,z2,(List.take ((((QO c).1).2.2.2.2.2).length) (List.drop 0 ((((QO c).1).2.2.2.2.2).set (0+z7) ((Zt (z1.2) ([w64 (z6-(1:Int)),(100000:Int),(100001:Int),(0:Int)])).1))))),(QO c).2.1,((Zt (z1.2) ([w64 (z6-(1:Int)),(100000:Int),(100001:Int),(0:Int)])).2)))) (zif ((z1.1)==(6:Int)) ((Ze (z1.2) (((QO c).1).1))∧K (Jl ((((QO c).1).1,z5,((QO c).1).2.2.1,z3,z2,z4),(Qii (z1.2) (((QO c).1).1)).1,((Qii (z1.2) (((QO c).1).1)).2)))) (zif ((z1.1)==(7:Int)) (((0:Int)≤(1:Int)∧(1:Int)≤(((((QO c).1).2.2.2.2.2).length:Nat):Int)∧(((((QO c).1).2.2.2.2.2).length:Nat):Int)≤(((((QO c).1).2.2.2.2.2).length:Nat):Int))∧K (Jl ((((QO c).1).1,z5,((QO c).1).2.2.1,z3,z2,(List.take (Int.toNat (((((QO c).1).2.2.2.2.2).length:Nat):Int)-Int.toNat (1:Int)) (List.drop (0+Int.toNat (1:Int)) (((QO c).1).2.2.2.2.2)))),(QO c).2.1,(z1.2)))) (K (Jl ((((QO c).1).1,z5,((QO c).1).2.2.1,z3,z2,z4),(QO c).2.1,(z1.2))))))))))))))):Hold (tawp QLR (1+0) QAG (TQ 1 0 QQr K) (Qf [(.bx [(.c (.sl [(.int .u8)]) c.1),(.c TI c.2.1),(.c TI c.2.2)])])) :=
 Hold.of (by kernel_rfl) h
theorem Qsq (c:((List Int) × Int × Int)) (hp:Qv c):∃ t:Ql × (List Qd) × (((List Int) × Int × Int)),(Qh7 c t)∧TCon Tryz.prog 68 [(.bx [(.c (.sl [(.int .u8)]) c.1),(.c TI c.2.1),(.c TI c.2.2)])] (Jl t):=by
 refine YM (tcx (n:=82) (sg:=QmD.sg) Qj (TOk.cons QLQ (TOk.cons JT (TOk.cons QRz (TOk.cons QdY (TOk.cons QE4 TOk.nil))))) (by kernel_rfl) (by kernel_rfl) (QOz (fun r'=>∃ t,(Qh7 c t)∧r'=Jl t) c ?_))
 conv=>zeta
 have hc:Qv c:=hp
 have b1:=(QPa c hc).1
 obtain ⟨h1,h2,h3,h4,h5,h6,h7⟩:=b1
 have b2:=(Z4 (QO c).2.2 16 h7).2.2.2
 refine ⟨hc,h7,?_⟩
 refine ⟨fun _=>⟨b2,Q5 (by simp;omega)⟩,fun _=>?_⟩
 refine ⟨fun _=>⟨⟨b2,.inl rfl,by rw [Zi];omega⟩,Q5 (by simp;omega)⟩,fun _=>?_⟩
 refine ⟨fun _=>⟨⟨b2,by simp,by simp⟩,Q5 (by simp;omega)⟩,fun _=>?_⟩
 refine ⟨fun _=>⟨?_,Q5 (by simp;omega)⟩,fun _=>?_⟩
 ·rw [Qo (by omega) (by omega)];omega
 refine ⟨fun _=>⟨fun hh=>⟨⟨⟨b2,by simp,by simp⟩,⟨by omega,by simpa using hh⟩,by simpa using hh⟩,Q5 (by simp;omega)⟩,fun _=>Q5 (by simp;omega)⟩,fun _=>?_⟩
 refine ⟨fun _=>⟨⟨⟨by omega,by simp;omega⟩,by simp;omega,⟨b2,by simp,by simp⟩,⟨by omega,by simp;omega⟩,by simp;omega⟩,Q5 (by simp;omega)⟩,fun _=>?_⟩
 refine ⟨fun _=>⟨b2,Q5 (by simp;omega)⟩,fun _=>?_⟩
 exact ⟨fun _=>⟨by omega,Q5 (by simp;omega)⟩,fun _=>Q5 (by simp;omega)⟩
theorem QHd (c:((List Int) × Int × Int)) (hp:Qv c):Qh7 c (Qfr c):=(Classical.epsilon_spec (Qsq c hp)).1
theorem QIV (c:((List Int) × Int × Int)) (hp:Qv c):TCon Tryz.prog 68 [(.bx [(.c (.sl [(.int .u8)]) c.1),(.c TI c.2.1),(.c TI c.2.2)])] (Jl (Qfr c)):=(Classical.epsilon_spec (Qsq c hp)).2
theorem QGY:Qh Tryz.prog QmD:=Qk fun x h=>QIV x.1 h
def Qd5 (t:Ql × (List Qd)):TRes:=zra (.tp [(.a (Tup.cells QS t.1)),(zcs QB t.2)])
def Jf (x0:List Int):Ql × (List Qd):=Classical.epsilon fun t:Ql × (List Qd)=>(Qje x0 t)∧TCon Tryz.prog 14 [(.c (.sl [(.int .u8)]) x0)] (Qd5 t)
def Qog:TRow:=Qg 14 [(.c (.sl [(.int .u8)]))] fun x=>(some (Y8 x.1),Qd5 (Jf x.1))
def QRe:List TRow:=[QjQ,QmD]
def QEl:TCode :=
 (zsq [(.reg [zop 2 (.new 30 (z0s QS)),zmv 3 (.k (.n QB))]),(.reg [zmv 4 0,zca 5 69 [4],zca 6 68 [5],zex 7 6 0,zex 8 6 1,zst 2 7 6,zmv 3 8]),.ret])
def QEP:List (ARv × Md):=[(.l 2 6 true,.b (zds 6)),(.t 3,.one .d)]
theorem QO5 (code:List Int) (h :
 (((Y8 code)∧(Qv (Qd6 code)))∧K (Qd5 (((Qfr (Qd6 code)).1),(Qfr (Qd6 code)).2.1)))):Hold (tawp QRe (0+0) QEl (TQ 0 0 QEP K) (Qf [(.c (.sl [(.int .u8)]) code)])) :=
 Hold.of (by kernel_rfl) h
theorem QO6 (code:List Int) (hp:Y8 code):∃ t:Ql × (List Qd),(Qje code t)∧TCon Tryz.prog 14 [(.c (.sl [(.int .u8)]) code)] (Qd5 t):=by
 refine YM (tcx (n:=9) (sg:=Qog.sg) Qj (TOk.cons QBV (TOk.cons QGY TOk.nil)) (by kernel_rfl) (by kernel_rfl) (QO5 (fun r'=>∃ t,(Qje code t)∧r'=Qd5 t) code ?_))
 exact ⟨⟨hp,QsL code hp⟩,Q5 (QHd _ (QsL code hp))⟩
theorem QF2 (code:List Int) (hp:Y8 code):TCon Tryz.prog 14 [(.c (.sl [(.int .u8)]) code)] (Qd5 (Jf code)):=(Classical.epsilon_spec (QO6 code hp)).2
theorem QHm:Qh Tryz.prog Qog:=Qk fun x h=>QF2 x.1 h
end
end Go.Proofs.YtjbdljkhbglnhaaGreat.Am

