/- -/
import Derived.Test.YtjbdljkhbglnhaaGreatZCD1
import Derived.Test.YtjbdljkhbglnhaaGreatZCP4
import Derived.Test.YtjbdljkhbglnhaaGreatZCD2
import Derived.Test.YtjbdljkhbglnhaaGreatZCD4
import Derived.Test.YtjbdljkhbglnhaaGreatZCP6
import Derived.Test.YtjbdljkhbglnhaaGreatZCG9
namespace Go.Proofs.YtjbdljkhbglnhaaGreat.Am
open Go Go.RowKit Go.Proofs.YtjbdljkhbglnhaaGreat
set_option linter.all false
set_option maxHeartbeats 2000000
noncomputable section
variable (K:TRes→Prop)
def Qa8 (t:(List Qi) × (((List Int) × Int × Int))):TRes:=⟨(.r Qw 0 0 ((t.1).length)),[(.sl 108 Qw true t.1)],[[(zcs [(.int .u8)] t.2.1),(zci t.2.2.1),(zci t.2.2.2)]],true,[]⟩
def ZQ (x0:((List Int) × Int × Int)) (x1:List TOp'):(List Qi) × (((List Int) × Int × Int)):=Classical.epsilon fun t:(List Qi) × (((List Int) × Int × Int))=>(Qc2 x0 x1 t)∧TCon Tryz.prog 200 [(.bx [(.c (.sl [(.int .u8)]) x0.1),(.c TI x0.2.1),(.c TI x0.2.2)]),(.a [(.c (.sl ctOp) x1)])] (Qa8 t)
def Qiz:TRow:=Qf 200 [(.b [(.sl [(.int .u8)]),TI,TI]),(.a [(.sl ctOp)])] fun x=>(some (Zr x.1 x.2.1),Qa8 (ZQ x.1 x.2.1))
def Qm8:List TRow:=[JB,QiD,QeU,QiS]
def QzS:TCode :=
 (zsq [(zsq [(.reg [zmv 11 6,zbi 12 .gtr 11 (zki 0)]),(.cond 12 .skip (.exit 0))]),(.block 1 (.draw [zmv 15 5,zmv 16 0,zLd 17 3 1,zca 18 153 [17],zca 19 105 [16,18],zmv 20 0,zLd 21 3 1,zca 22 154 [21],zca 23 105 [20,22],zop 24 (.build (z0s Qw) [(0,1,19),(1,1,23)]),zop 25 (.bsl 108 Qw [24]),zop 26 (.app 15 25 108 Qw),zmv 5 26] [(3,6),(4,6)])),(.reg [zmv 13 6,zbi 14 .sub 13 (zki 1),zmv 6 14])])
def QBv:List (Nat × Md):=[(0,.b [.d,.d,.d]),(3,.b [.d]),(5,.one .f),(6,.one .d)]
def QBG:TCode :=
 (zsq [(.reg [zmv 27 5,zmv 4 27]),.ret])
def QIc:TCode :=
 (zsq [(.reg [zop 3 (.box 26 1 1),zmv 4 (.k (.n Qw))]),(.reg [zop 7 (.bsl 108 Qw []),zmv 5 7]),(zsq [(.reg [zmv 8 0,zca 9 108 [8,(zki 4)],zbi 10 .add (zki 1) 9,zmv 6 10]),(.block 0 (.loop QBv QzS))]),QBG])
def QrV:List (ARv × Md):=[(.t 4,.one (.o 108))]
def Qy7:Qb:=TQ 1 0 QrV K
def QVk:Qb:=Qseq (tawp Qm8 1 QBG (Qy7 K)) (Qy7 K)
def QJH:Qb:=Qblk 0 (QVk K)
def Qi5 (m:List TOp') (n:Int) (c0:List Int) (c1:Int) (c2:Int) (b:List Qi):Prop:=Loop Qm8 1 QBv QzS (QJH K) ⟨[(0,(.p 0 0 0)),(3,(.p 1 0 0)),(5,(.r Qw 2 0 b.length)),(6,(zci n))],[(0,(.box [(zcs [(.int .u8)] c0),(zci c1),(zci c2)])),(1,(.box [(zcs ctOp m)])),(2,(.sl 108 Qw true b))],3⟩
theorem Qzd (m:List TOp') (n:Int) (c0:List Int) (c1:Int) (c2:Int) (b:List Qi) (h :
 (zif (decide (n>(0:Int))) (((JD (c0,c1,c2) (Q7 m))∧((JD ((Yq (c0,c1,c2) (Q7 m)).2) (Za m))∧((b.length=b.length∨b.length+1≤b.length)∧b.length+1≤big)))∧(Qi5 K m (w64 (n-(1:Int))) (((Yq ((Yq (c0,c1,c2) (Q7 m)).2) (Za m)).2).1) (((Yq ((Yq (c0,c1,c2) (Q7 m)).2) (Za m)).2).2.1) (((Yq ((Yq (c0,c1,c2) (Q7 m)).2) (Za m)).2).2.2) (List.take (b.length+1) ((List.take b.length b)++([((List.take (((Yq (c0,c1,c2) (Q7 m)).1).length) (List.drop 0 ((Yq (c0,c1,c2) (Q7 m)).1))),(List.take (((Yq ((Yq (c0,c1,c2) (Q7 m)).2) (Za m)).1).length) (List.drop 0 ((Yq ((Yq (c0,c1,c2) (Q7 m)).2) (Za m)).1))))]))))) (K (Qa8 ((List.take b.length b),(c0,c1,c2)))))):Qi5 K m n c0 c1 c2 b :=
 Loop.of (by kernel_rfl) h
theorem QNh (c:((List Int) × Int × Int)) (m:List TOp') (h :
 ((Zr c (4:Int))∧(Qi5 K m (w64 ((1:Int)+((Ql c (4:Int)).1))) (((Ql c (4:Int)).2).1) (((Ql c (4:Int)).2).2.1) (((Ql c (4:Int)).2).2.2) ([]:List Qi)))):Hold (tawp Qm8 (1+0) QIc (TQ 1 0 QrV K) (Qd [(.bx [(.c (.sl [(.int .u8)]) c.1),(.c TI c.2.1),(.c TI c.2.2)]),(.a [(.c (.sl ctOp) m)])])) :=
 Hold.of (by kernel_rfl) h
theorem Qv9 (c:((List Int) × Int × Int)) (m:List TOp') (hp:Zr c m):∃ t:(List Qi) × (((List Int) × Int × Int)),(Qc2 c m t)∧TCon Tryz.prog 200 [(.bx [(.c (.sl [(.int .u8)]) c.1),(.c TI c.2.1),(.c TI c.2.2)]),(.a [(.c (.sl ctOp) m)])] (Qa8 t):=by
 refine YV (tcx (n:=28) (sg:=Qiz.sg) Qg (TOk.cons J2 (TOk.cons Qwm (TOk.cons Qmu (TOk.cons QAj TOk.nil)))) (by kernel_rfl) (by kernel_rfl) (QNh (fun r'=>∃ t,(Qc2 c m t)∧r'=Qa8 t) c m ?_))
 have hc:QF c:=hp
 have b1:=Yh c 4 hc
 have h1:=b1.1
 have h2:=b1.2.1 (by omega)
 rw [Qq (x:=1+_) (by omega) (by omega)]
 have hi:Q7 m≤6:=by
  unfold Q7
  split
  ·rename_i hm
   exact (Qdf (Qip hm (by have:=YM hm;omega))).2.1
  ·omega
 have ho:Za m≤6:=by
  unfold Za
  split
  ·rename_i hm
   exact (Qdf (Qip hm (by have:=YM hm;omega))).2.2.2
  ·omega
 refine ⟨hc,?_⟩
 have key:∀ (k:Nat) (t:TCur) (b:List Qi),QF t→b.length+k≤4→1≤b.length+k→Qi5 (fun r'=>∃ t,(Qc2 c m t)∧r'=Qa8 t) m (k:Int) t.1 t.2.1 t.2.2 b:=by
  intro k
  induction k with
  | zero =>
   intro t b hc k1 k2
   refine Qzd (fun r'=>∃ t,(Qc2 c m t)∧r'=Qa8 t) m _ _ _ _ _ ⟨fun h=>by simp at h,fun _=>Ze ⟨?_,?_,hc⟩⟩
   ·simp only [List.take_length];omega
   ·simp only [List.take_length];omega
  | succ k ih =>
   intro t b hc k1 k2
   have hv:JD t (Q7 m):=⟨hc,by omega⟩
   have b2:=Qe3 _ _ hv
   have hv2:JD (Yq t (Q7 m)).2 (Za m):=⟨b2.2.2,by omega⟩
   have b3:=Qe3 _ _ hv2
   refine Qzd (fun r'=>∃ t,(Qc2 c m t)∧r'=Qa8 t) m _ _ _ _ _ ⟨fun _=>⟨⟨hv,hv2,⟨.inl rfl,by rw [Zu];omega⟩⟩,?_⟩,fun h=>by simp at h <;> omega⟩
   rw [Zf,Qq (x:=((k+1:Nat):Int)-1) (by omega) (by omega),show ((k+1:Nat):Int)-1=k by omega]
   exact ih _ _ b3.2.2 (by simp;omega) (by simp;omega)
 have h:=key (1+(Ql c 4).1).toNat (Ql c 4).2 [] b1.2.2.2 (by simp;omega) (by simp;omega)
 rw [Int.toNat_of_nonneg (by omega)] at h
 exact h
theorem Qz3 (c:((List Int) × Int × Int)) (m:List TOp') (hp:Zr c m):Qc2 c m (ZQ c m):=(Classical.epsilon_spec (Qv9 c m hp)).1
theorem QLj (c:((List Int) × Int × Int)) (m:List TOp') (hp:Zr c m):TCon Tryz.prog 200 [(.bx [(.c (.sl [(.int .u8)]) c.1),(.c TI c.2.1),(.c TI c.2.2)]),(.a [(.c (.sl ctOp) m)])] (Qa8 (ZQ c m)):=(Classical.epsilon_spec (Qv9 c m hp)).2
theorem Qsm:Qe Tryz.prog Qiz:=Qh fun x h=>QLj x.1 x.2.1 h
def Qae (t:(List Qi) × (((List Int) × Int × Int))):TRes:=⟨(zcs Qw t.1),[],[[(zcs [(.int .u8)] t.2.1),(zci t.2.2.1),(zci t.2.2.2)]],true,[]⟩
def Qh9 (x0:((List Int) × Int × Int)) (x1:List TOp'):(List Qi) × (((List Int) × Int × Int)):=Classical.epsilon fun t:(List Qi) × (((List Int) × Int × Int))=>(QeJ x0 x1 t)∧TCon Tryz.prog 146 [(.bx [(.c (.sl [(.int .u8)]) x0.1),(.c TI x0.2.1),(.c TI x0.2.2)]),(.a [(.c (.sl ctOp) x1)])] (Qae t)
def QlB:TRow:=Qf 146 [(.b [(.sl [(.int .u8)]),TI,TI]),(.a [(.sl ctOp)])] fun x=>(some (Zr x.1 x.2.1),Qae (Qh9 x.1 x.2.1))
def QkW:List TRow:=[Qiz,JB,Qmo]
def Qy9:TCode :=
 (zsq [(zsq [(.reg [zmv 23 5,zle 24 23,zmv 25 0,zca 26 108 [25,(zki 2)],zbi 27 .add (zki 5) 26,zbi 28 .lss 24 27]),(.cond 28 .skip (.exit 1))]),(.block 2 (.reg [zmv 29 5,zmv 30 5,zia 31 30 (zki 0) Qw,zLd 32 31 2,zop 33 (.bsl 108 Qw [32]),zop 34 (.app 29 33 108 Qw),zmv 5 34]))])
def QrO:List (Nat × Md):=[(0,.b [.d,.d,.d]),(5,.one .f)]
def QDK:TCode :=
 (zsq [(.reg [zmv 35 5,zmv 4 35]),.ret])
def QVN:TCode :=
 (zsq [(.reg [zop 3 (.box 26 1 1),zmv 4 (.k (.n Qw))]),(.reg [zmv 6 0,zLd 7 3 1,zca 8 200 [6,7],zmv 5 8]),(zsq [(.reg [zmv 9 0,zca 10 108 [9,(zki 16)]]),(.block 0 (zsq [(.reg [zbi 12 .eql 10 (zki 0),zmv 11 12]),(.cond 11 (zsq [(.reg [zop 13 (.bsl 108 Qw []),zmv 4 13]),.ret]) (zsq [(.reg [zbi 15 .eql 10 (zki 1),zmv 14 15]),(.cond 14 (.reg [zmv 16 5,zmv 17 0,zca 18 107 [17],zia 19 16 (zki 0) Qw,zfa 20 19 0,zst 20 18 1]) (zsq [(.reg [zbi 22 .eql 10 (zki 2),zmv 21 22]),(.cond 21 (.block 1 (.loop QrO Qy9)) .skip)]))]))]))]),QDK])
def QrE:List (ARv × Md):=[(.t 4,.one .d)]
def QsB:Qb:=TQ 1 0 QrE K
def QWB:Qb:=Qseq (tawp QkW 1 QDK (QsB K)) (QsB K)
def QR7:Qb:=Qblk 0 (QWB K)
def QMd:Qb:=Qblk 1 (QR7 K)
def QhS (c0:List Int) (c1:Int) (c2:Int) (b:List Qi):Prop:=Loop QkW 1 QrO Qy9 (QMd K) ⟨[(0,(.p 0 0 0)),(5,(.r Qw 1 0 b.length))],[(0,(.box [(zcs [(.int .u8)] c0),(zci c1),(zci c2)])),(1,(.sl 108 Qw true b))],2⟩
theorem Qsi (c0:List Int) (c1:Int) (c2:Int) (b:List Qi) (h :
 ((Zr (c0,c1,c2) (2:Int))∧(zif (decide (((b.length:Nat):Int)<(w64 ((5:Int)+((Ql (c0,c1,c2) (2:Int)).1))))) ((((0:Int)≤(0:Int)∧Int.toNat (0:Int)<b.length)∧(((0+(Int.toNat (0:Int)))<b.length)∧((b.length=b.length∨b.length+1≤b.length)∧b.length+1≤big)))∧(QhS K (((Ql (c0,c1,c2) (2:Int)).2).1) (((Ql (c0,c1,c2) (2:Int)).2).2.1) (((Ql (c0,c1,c2) (2:Int)).2).2.2) (List.take (b.length+1) ((List.take b.length b)++([(gtd Zh b (0+(Int.toNat (0:Int))))]))))) (K (Qae ((List.take b.length (List.drop 0 b)),((Ql (c0,c1,c2) (2:Int)).2))))))):QhS K c0 c1 c2 b :=
 Loop.of (by kernel_rfl) h
theorem QIe (c:((List Int) × Int × Int)) (m:List TOp') (h :
 ((Zr c m)∧((Zr ((ZQ c m).2) (16:Int))∧(zif (((Ql ((ZQ c m).2) (16:Int)).1)==(0:Int)) (K (Qae (([]:List Qi),((Ql ((ZQ c m).2) (16:Int)).2)))) (zif (((Ql ((ZQ c m).2) (16:Int)).1)==(1:Int)) (((QF ((Ql ((ZQ c m).2) (16:Int)).2))∧(((0:Int)≤(0:Int)∧Int.toNat (0:Int)<((ZQ c m).1).length)∧((0+(Int.toNat (0:Int)))<((ZQ c m).1).length)))∧K (Qae ((List.take (((ZQ c m).1).length) (List.drop 0 (((ZQ c m).1).set (0+(Int.toNat (0:Int))) ((Qgq ((Ql ((ZQ c m).2) (16:Int)).2)).1,(gtd Zh ((ZQ c m).1) (0+(Int.toNat (0:Int)))).2)))),((Qgq ((Ql ((ZQ c m).2) (16:Int)).2)).2)))) (zif (((Ql ((ZQ c m).2) (16:Int)).1)==(2:Int)) (QhS K (((Ql ((ZQ c m).2) (16:Int)).2).1) (((Ql ((ZQ c m).2) (16:Int)).2).2.1) (((Ql ((ZQ c m).2) (16:Int)).2).2.2) (List.take (((ZQ c m).1).length) ((ZQ c m).1))) (K (Qae ((List.take (((ZQ c m).1).length) (List.drop 0 ((ZQ c m).1))),((Ql ((ZQ c m).2) (16:Int)).2)))))))))):Hold (tawp QkW (1+0) QVN (TQ 1 0 QrE K) (Qd [(.bx [(.c (.sl [(.int .u8)]) c.1),(.c TI c.2.1),(.c TI c.2.2)]),(.a [(.c (.sl ctOp) m)])])) :=
 Hold.of (by kernel_rfl) h
theorem QP6 (c:((List Int) × Int × Int)) (m:List TOp') (hp:Zr c m):∃ t:(List Qi) × (((List Int) × Int × Int)),(QeJ c m t)∧TCon Tryz.prog 146 [(.bx [(.c (.sl [(.int .u8)]) c.1),(.c TI c.2.1),(.c TI c.2.2)]),(.a [(.c (.sl ctOp) m)])] (Qae t):=by
 refine YV (tcx (n:=36) (sg:=QlB.sg) Qg (TOk.cons Qsm (TOk.cons J2 (TOk.cons QH8 TOk.nil))) (by kernel_rfl) (by kernel_rfl) (QIe (fun r'=>∃ t,(QeJ c m t)∧r'=Qae t) c m ?_))
 have hc:QF c:=hp
 have b1:=Qz3 c m hc
 generalize ZQ c m=r1 at b1 ⊢
 obtain ⟨k1,k2,k3⟩:=b1
 have b3:=(Yh r1.2 16 k3).2.2.2
 generalize Ql r1.2 16=r3 at b3 ⊢
 refine ⟨hc,k3,fun _=>Ze ⟨by simp,b3⟩,fun _=>⟨fun _=>⟨⟨b3,⟨by omega,by simp;omega⟩,by simp;omega⟩,Ze ⟨by simp;omega,(QFq _ b3).2⟩⟩,fun _=>⟨fun _=>?_,fun _=>Ze ⟨by simp;omega,b3⟩⟩⟩⟩
 rw [List.take_length]
 have key:∀ (k:Nat) (t:TCur) (b:List Qi),QF t→1≤b.length→b.length+k=6→QhS (fun r'=>∃ t,(QeJ c m t)∧r'=Qae t) t.1 t.2.1 t.2.2 b:=by
  intro k
  induction k with
  | zero =>
   intro t b hc q1 q2
   have b2:=Yh t 2 hc
   have q3:=b2.1
   have q4:=b2.2.1 (by omega)
   have hw:w64 (5+(Ql t 2).1)=5+(Ql t 2).1:=Qq (by omega) (by omega)
   refine Qsi (fun r'=>∃ t,(QeJ c m t)∧r'=Qae t) _ _ _ _ ⟨hc,fun h=>?_,fun _=>Ze ⟨by simp;omega,b2.2.2.2⟩⟩
   have h:=of_decide_eq_true h
   have h':(b.length:Int)<w64 (5+(Ql t 2).1):=h
   rw [hw] at h'
   omega
  | succ k ih =>
   intro t b hc q1 q2
   have b2:=Yh t 2 hc
   refine Qsi (fun r'=>∃ t,(QeJ c m t)∧r'=Qae t) _ _ _ _ ⟨hc,fun _=>?_,fun _=>Ze ⟨by simp;omega,b2.2.2.2⟩⟩
   refine ⟨⟨⟨by omega,by simp;omega⟩,by simp;omega,.inl rfl,by rw [Zu];omega⟩,?_⟩
   rw [Zf]
   exact ih _ _ b2.2.2.2 (by simp) (by simp;omega)
 exact key (6-r1.1.length) _ _ b3 k1 (by omega)
theorem QIT (c:((List Int) × Int × Int)) (m:List TOp') (hp:Zr c m):TCon Tryz.prog 146 [(.bx [(.c (.sl [(.int .u8)]) c.1),(.c TI c.2.1),(.c TI c.2.2)]),(.a [(.c (.sl ctOp) m)])] (Qae (Qh9 c m)):=(Classical.epsilon_spec (QP6 c m hp)).2
theorem QJY:Qe Tryz.prog QlB:=Qh fun x h=>QIT x.1 x.2.1 h
def J5 (t:Qo × (List Qi) × (((List Int) × Int × Int))):TRes:=⟨(.tp [(.a [(zcs ctOp t.1.1),(.r [TI] 0 0 ((t.1.2.1).length)),(zci t.1.2.2.1),(.r [.bool] 1 0 ((t.1.2.2.2.1).length)),(.r [TI] 2 0 ((t.1.2.2.2.2.1).length)),(.r [TI] 3 0 ((t.1.2.2.2.2.2).length))]),(zcs Qw t.2.1)]),[(.sl 3 [TI] true t.1.2.1),(.sl 4 [.bool] true t.1.2.2.2.1),(.sl 3 [TI] true t.1.2.2.2.2.1),(.sl 3 [TI] true t.1.2.2.2.2.2)],[[(zcs [(.int .u8)] t.2.2.1),(zci t.2.2.2.1),(zci t.2.2.2.2)]],true,[]⟩
def QS (x0:((List Int) × Int × Int)):Qo × (List Qi) × (((List Int) × Int × Int)):=Classical.epsilon fun t:Qo × (List Qi) × (((List Int) × Int × Int))=>(QaQ x0 t)∧TCon Tryz.prog 143 [(.bx [(.c (.sl [(.int .u8)]) x0.1),(.c TI x0.2.1),(.c TI x0.2.2)])] (J5 t)
def Qos:TRow:=Qf 143 [(.b [(.sl [(.int .u8)]),TI,TI])] fun x=>(some (QF x.1),J5 (QS x.1))
def QfC:List TRow:=[QgT,Qm4,JB,Qiz,QfX,Qhq,Qb2]
def QDZ:TCode :=
 (zsq [(zsq [(.reg [zmv 22 7,zfa 23 5 1,zld 24 23 1,zle 25 24,zbi 26 .leq 22 25]),(.cond 26 .skip (.exit 0))]),(.block 1 (zsq [(.draw [zfa 29 5 3,zld 30 29 1,zmv 31 0,zca 32 106 [31,(zki 3)],zop 33 (.bsl 4 [.bool] [32]),zop 34 (.app 30 33 4 [.bool]),zfa 35 5 3,zst 35 34 1] [(0,3),(1,3),(0,4),(1,4)]),(.reg [zmv 36 7,zbi 37 .gtr 36 (zki 0)]),(.cond 37 (.draw [zfa 38 5 4,zld 39 38 1,zmv 40 0,zca 41 108 [40,(zki 3)],zbi 42 .add (zki 1) 41,zop 43 (.bsl 3 [TI] [42]),zop 44 (.app 39 43 3 [TI]),zfa 45 5 4,zst 45 44 1] [(0,3),(1,3),(0,5),(1,5)]) .skip)])),(.reg [zmv 27 7,zbi 28 .add 27 (zki 1),zmv 7 28])])
def QsZ:List (Nat × Md):=[(0,.b [.d,.d,.d]),(2,.b (zds 6)),(5,.b [.d,.f,.d,.o 4,.o 3,.o 3]),(6,.one .d),(7,.one .d)]
def QuY:TCode :=
 (zsq [(zsq [(.reg [zmv 46 8,zfa 47 5 1,zld 48 47 1,zle 49 48,zbi 50 .leq 46 49]),(.cond 50 .skip (.exit 2))]),(.block 3 (.draw [zfa 53 5 5,zld 54 53 1,zLd 55 5 6,zmv 56 8,zmv 57 6,zle 58 57,zca 59 78 [55,56,58],zmv 60 0,zop 61 (.bsl 3 [TI] [(zki 0),(zki 0),(zki 7)]),zca 62 145 [60,61],zbi 63 .add 59 62,zop 64 (.bsl 3 [TI] [63]),zop 65 (.app 54 64 3 [TI]),zfa 66 5 5,zst 66 65 1] [(0,6),(1,6),(0,8),(1,8),(2,8),(5,8),(6,8),(0,9),(1,9),(0,11),(1,11)])),(.reg [zmv 51 8,zbi 52 .add 51 (zki 1),zmv 8 52])])
def Qtr:List (Nat × Md):=[(0,.b [.d,.d,.d]),(2,.b (zds 6)),(5,.b [.d,.f,.d,.f,.f,.f]),(6,.one .d),(8,.one .d)]
def Qv2:TCode :=
 (zsq [(.reg [zLd 67 5 6,zmv 68 6,zst 2 67 6,zmv 3 68]),.ret])
def QrS:TCode :=
 (zsq [(zsq [(.reg [zmv 8 (zki 0)]),(.block 2 (.loop Qtr QuY))]),Qv2])
def QIJ:TCode :=
 (zsq [(.reg [zop 2 (.new 30 (z0s QV)),zmv 3 (.k (.n Qw))]),(.reg [zmv 9 0,zca 10 198 [9],zop 4 (.new 26 [(.n ctOp)]),zst 4 10 1]),(.draw [zLd 11 4 1,zmv 12 0,zLd 13 4 1,zca 14 199 [12,13],zmv 15 0,zca 16 108 [15,(zki 2)],zbi 17 .add (zki 1) 16,zop 18 (.build (z0s QV) [(0,1,11),(1,1,14),(2,1,17)]),zop 5 (.new 30 (z0s QV)),zst 5 18 6] [(0,3),(0,5),(0,8),(2,8),(3,8),(5,8)]),(.reg [zmv 19 0,zLd 20 4 1,zca 21 200 [19,20],zmv 6 21]),(zsq [(.reg [zmv 7 (zki 0)]),(.block 0 (.loop QsZ QDZ))]),QrS])
def QtB:List (ARv × Md):=[(.l 2 6 true,.b [.d,.o 3,.d,.o 4,.o 3,.o 3]),(.t 3,.one .d)]
def Qj4:Qb:=TQ 1 0 QtB K
def QG3:Qb:=Qseq (tawp QfC 1 Qv2 (Qj4 K)) (Qj4 K)
def QRt:Qb:=Qblk 2 (QG3 K)
def Qh1 (c:((List Int) × Int × Int)) (s1:Int) (c01:List Int) (c11:Int) (c21:Int) (x11:List Int) (x31:List Bool) (x41:List Int) (x5:List Int):Prop:=let z1:=List.take (((ZB c).1).length) (List.drop 0 ((ZB c).1))
 let z2:=Ql ((Qbp ((ZB c).2) z1).2) (2:Int)
 Loop QfC 1 Qtr QuY (QRt K) ⟨[(0,(.p 0 0 0)),(2,(.p 1 0 0)),(5,(.p 6 0 0)),(6,(zcs Qw (List.take (((ZQ (z2.2) z1).1).length) (List.drop 0 ((ZQ (z2.2) z1).1))))),(8,(zci s1))],[(0,(.box [(zcs [(.int .u8)] c01),(zci c11),(zci c21)])),(1,(.box (Tup.cells QV ([],[],(0:Int),[],[],[])))),(2,(.sl 3 [TI] true x11)),(3,(.sl 4 [.bool] true x31)),(4,(.sl 3 [TI] true x41)),(5,(.sl 3 [TI] true x5)),(6,(.box [(zcs ctOp z1),(.r [TI] 2 0 x11.length),(zci (w64 ((1:Int)+(z2.1)))),(.r [.bool] 3 0 x31.length),(.r [TI] 4 0 x41.length),(.r [TI] 5 0 x5.length)]))],7⟩
def QSX:Qb:=Qseq (tawp QfC 1 QrS (Qj4 K)) (Qj4 K)
def QEM:Qb:=Qblk 0 (QSX K)
def Qfu (c:((List Int) × Int × Int)) (s:Int) (c0:List Int) (c1:Int) (c2:Int) (x1:List Int) (x3:List Bool) (x4:List Int):Prop:=let z1:=List.take (((ZB c).1).length) (List.drop 0 ((ZB c).1))
 let z2:=Ql ((Qbp ((ZB c).2) z1).2) (2:Int)
 Loop QfC 1 QsZ QDZ (QEM K) ⟨[(0,(.p 0 0 0)),(2,(.p 1 0 0)),(5,(.p 6 0 0)),(6,(zcs Qw (List.take (((ZQ (z2.2) z1).1).length) (List.drop 0 ((ZQ (z2.2) z1).1))))),(7,(zci s))],[(0,(.box [(zcs [(.int .u8)] c0),(zci c1),(zci c2)])),(1,(.box (Tup.cells QV ([],[],(0:Int),[],[],[])))),(2,(.sl 3 [TI] true x1)),(3,(.sl 4 [.bool] true x3)),(4,(.sl 3 [TI] true x4)),(5,(.sl 3 [TI] true ([]:List Int))),(6,(.box [(zcs ctOp z1),(.r [TI] 2 0 x1.length),(zci (w64 ((1:Int)+(z2.1)))),(.r [.bool] 3 0 x3.length),(.r [TI] 4 0 x4.length),(.r [TI] 5 0 0)]))],7⟩
theorem Qu7 (c:((List Int) × Int × Int)) (s1:Int) (c01:List Int) (c11:Int) (c21:Int) (x11:List Int) (x31:List Bool) (x41:List Int) (x5:List Int) (h :
 let z1:=List.take (((ZB c).1).length) (List.drop 0 ((ZB c).1))
 let z2:=Ql ((Qbp ((ZB c).2) z1).2) (2:Int)
 let z3:=List.take (((ZQ (z2.2) z1).1).length) (List.drop 0 ((ZQ (z2.2) z1).1))
 (zif (decide (s1≤((x11.length:Nat):Int))) (((Y9 (c01,c11,c21) ([(0:Int),(0:Int),(7:Int)]))∧((x5.length=x5.length∨x5.length+1≤x5.length)∧x5.length+1≤big))∧(Qh1 K c (w64 (s1+(1:Int))) (((ZN (c01,c11,c21) ([(0:Int),(0:Int),(7:Int)])).2).1) (((ZN (c01,c11,c21) ([(0:Int),(0:Int),(7:Int)])).2).2.1) (((ZN (c01,c11,c21) ([(0:Int),(0:Int),(7:Int)])).2).2.2) (List.take x11.length x11) (List.take x31.length x31) (List.take x41.length x41) (List.take (x5.length+1) ((List.take x5.length x5)++([w64 ((YQ (z1,(List.take x11.length (List.drop 0 x11)),w64 ((1:Int)+(z2.1)),(List.take x31.length (List.drop 0 x31)),(List.take x41.length (List.drop 0 x41)),(List.take x5.length (List.drop 0 x5))) s1 (z3.length:Int))+((ZN (c01,c11,c21) ([(0:Int),(0:Int),(7:Int)])).1))]))))) (K (J5 ((z1,(List.take x11.length x11),w64 ((1:Int)+(z2.1)),(List.take x31.length x31),(List.take x41.length x41),(List.take x5.length x5)),z3,(c01,c11,c21)))))):Qh1 K c s1 c01 c11 c21 x11 x31 x41 x5 :=
 Loop.of (by kernel_rfl) h
theorem QuW (c:((List Int) × Int × Int)) (s:Int) (c0:List Int) (c1:Int) (c2:Int) (x1:List Int) (x3:List Bool) (x4:List Int) (h :
 (zif (decide (s≤((x1.length:Nat):Int))) (((Zr (c0,c1,c2) (3:Int))∧((x3.length=x3.length∨x3.length+1≤x3.length)∧x3.length+1≤big))∧(zif (decide (s>(0:Int))) (((Zr ((ZW (c0,c1,c2) (3:Int)).2) (3:Int))∧((x4.length=x4.length∨x4.length+1≤x4.length)∧x4.length+1≤big))∧(Qfu K c (w64 (s+(1:Int))) (((Ql ((ZW (c0,c1,c2) (3:Int)).2) (3:Int)).2).1) (((Ql ((ZW (c0,c1,c2) (3:Int)).2) (3:Int)).2).2.1) (((Ql ((ZW (c0,c1,c2) (3:Int)).2) (3:Int)).2).2.2) (List.take x1.length x1) (List.take (x3.length+1) ((List.take x3.length x3)++([(ZW (c0,c1,c2) (3:Int)).1]))) (List.take (x4.length+1) ((List.take x4.length x4)++([w64 ((1:Int)+((Ql ((ZW (c0,c1,c2) (3:Int)).2) (3:Int)).1))]))))) (Qfu K c (w64 (s+(1:Int))) (((ZW (c0,c1,c2) (3:Int)).2).1) (((ZW (c0,c1,c2) (3:Int)).2).2.1) (((ZW (c0,c1,c2) (3:Int)).2).2.2) (List.take x1.length x1) (List.take (x3.length+1) ((List.take x3.length x3)++([(ZW (c0,c1,c2) (3:Int)).1]))) (List.take x4.length x4)))) (Qh1 K c 0 c0 c1 c2 (List.take x1.length x1) (List.take x3.length x3) (List.take x4.length x4) ([]:List Int)))):Qfu K c s c0 c1 c2 x1 x3 x4 :=
 Loop.of (by kernel_rfl) h
theorem QLo (c:((List Int) × Int × Int)) (h :
 let z1:=List.take (((ZB c).1).length) (List.drop 0 ((ZB c).1))
 let z2:=Qbp ((ZB c).2) z1
 let z3:=ZQ ((Ql (z2.2) (2:Int)).2) z1
 ((QF c)∧(((QdO ((ZB c).2) z1)∧(Zr (z2.2) (2:Int)))∧((Zr ((Ql (z2.2) (2:Int)).2) z1)∧(Qfu K c 0 ((z3.2).1) ((z3.2).2.1) ((z3.2).2.2) (List.take ((z2.1).length) (z2.1)) ([]:List Bool) ([]:List Int)))))):Hold (tawp QfC (1+0) QIJ (TQ 1 0 QtB K) (Qd [(.bx [(.c (.sl [(.int .u8)]) c.1),(.c TI c.2.1),(.c TI c.2.2)])])) :=
 Hold.of (by kernel_rfl) h
theorem QrT (c:((List Int) × Int × Int)) (hp:QF c):∃ t:Qo × (List Qi) × (((List Int) × Int × Int)),(QaQ c t)∧TCon Tryz.prog 143 [(.bx [(.c (.sl [(.int .u8)]) c.1),(.c TI c.2.1),(.c TI c.2.2)])] (J5 t):=by
 refine YV (tcx (n:=69) (sg:=Qos.sg) Qg (TOk.cons QBS (TOk.cons QRU (TOk.cons J2 (TOk.cons Qsm (TOk.cons QpF (TOk.cons QCX (TOk.cons Qej TOk.nil))))))) (by kernel_rfl) (by kernel_rfl) (QLo (fun r'=>∃ t,(QaQ c t)∧r'=J5 t) c ?_))
 conv=>zeta
 have hc:QF c:=hp
 have b1:=Qwb c hc
 simp only [List.drop_zero,List.take_length]
 have hcu:QdO (ZB c).2 (ZB c).1:=⟨b1.2.2,by have:=b1.2.1;omega⟩
 have b2:=QI8 _ _ hcu
 have b3:=(Yh (Qbp (ZB c).2 (ZB c).1).2 2 b2.2.2).2.2.2
 have b4:=Qz3 _ (ZB c).1 b3
 have hl:=b2.2.1
 refine ⟨hc,⟨hcu,b2.2.2⟩,b3,?_⟩
 have k4:∀ (x11:List Int) (x31:List Bool) (x41:List Int),x11.length≤3→1≤x31.length→x31.length≤4→x41.length≤4→∀ (k:Nat) (t:TCur) (s1:Nat) (x5:List Int),QF t→s1+k=x11.length+1→x5.length=s1→Qh1 (fun r'=>∃ t,(QaQ c t)∧r'=J5 t) c (s1:Int) t.1 t.2.1 t.2.2 x11 x31 x41 x5:=by
  intro x11 x31 x41 m0 m1 m2 m3 k
  induction k with
  | zero =>
   intro t s1 x5 ht h1 h2
   refine Qu7 (fun r'=>∃ t,(QaQ c t)∧r'=J5 t) c _ _ _ _ _ _ _ _ ⟨fun h=>by simp at h;omega,fun _=>Ze ⟨?_,?_,?_,?_,?_,?_,ht⟩⟩
   all_goals (simp;omega)
  | succ k ih =>
   intro t s1 x5 ht h1 h2
   have hpk:Y9 t [0,0,7]:=⟨ht,by simp,by simp⟩
   refine Qu7 (fun r'=>∃ t,(QaQ c t)∧r'=J5 t) c _ _ _ _ _ _ _ _ ⟨fun _=>⟨⟨hpk,⟨.inl rfl,by rw [Zu];omega⟩⟩,?_⟩,fun h=>by simp at h;omega⟩
   rw [sc1 (by omega),List.take_length,List.take_length,List.take_length]
   exact ih (ZN t [0,0,7]).2 (s1+1) _ (Qd9 _ _ hpk).2 (by omega) (by simp;omega)
 have k2:∀ (x1:List Int),x1.length≤3→∀ (k:Nat) (t:TCur) (s:Nat) (x3:List Bool) (x4:List Int),QF t→s+k=x1.length+1→x3.length=s→x4.length≤s→Qfu (fun r'=>∃ t,(QaQ c t)∧r'=J5 t) c (s:Int) t.1 t.2.1 t.2.2 x1 x3 x4:=by
  intro x1 m0 k
  induction k with
  | zero =>
   intro t s x3 x4 ht h1 h2 h3
   refine QuW (fun r'=>∃ t,(QaQ c t)∧r'=J5 t) c _ _ _ _ _ _ _ ⟨fun h=>by simp at h;omega,fun _=>?_⟩
   rw [List.take_length,List.take_length,List.take_length]
   exact k4 x1 x3 x4 m0 (by omega) (by omega) (by omega) (x1.length+1) t 0 [] ht (by omega) rfl
  | succ k ih =>
   intro t s x3 x4 ht h1 h2 h3
   have b5:=QpU t 3 ht
   have b6:=(Yh (ZW t 3).2 3 b5).2.2.2
   refine QuW (fun r'=>∃ t,(QaQ c t)∧r'=J5 t) c _ _ _ _ _ _ _ ⟨fun _=>⟨⟨ht,⟨.inl rfl,by rw [Zu];omega⟩⟩,fun _=>⟨⟨b5,⟨.inl rfl,by rw [Zu];omega⟩⟩,?_⟩,fun _=>?_⟩,fun h=>by simp at h;omega⟩
   ·rw [sc1 (by omega),List.take_length (l:=x1)]
    exact ih (Ql (ZW t 3).2 3).2 (s+1) _ _ b6 (by omega) (by simp;omega) (by simp;omega)
   ·rw [sc1 (by omega),List.take_length (l:=x1)]
    exact ih (ZW t 3).2 (s+1) _ _ b5 (by omega) (by simp;omega) (by simp;omega)
 exact k2 _ hl ((Qbp (ZB c).2 (ZB c).1).1.length+1) _ 0 [] [] b4.2.2 (by omega) rfl (by simp)
theorem QJQ (c:((List Int) × Int × Int)) (hp:QF c):QaQ c (QS c):=(Classical.epsilon_spec (QrT c hp)).1
theorem QRF (c:((List Int) × Int × Int)) (hp:QF c):TCon Tryz.prog 143 [(.bx [(.c (.sl [(.int .u8)]) c.1),(.c TI c.2.1),(.c TI c.2.2)])] (J5 (QS c)):=(Classical.epsilon_spec (QrT c hp)).2
theorem QGb:Qe Tryz.prog Qos:=Qh fun x h=>QRF x.1 h
def Jp (t:Qo × (List Qi) × (((List Int) × Int × Int))):TRes:=⟨(.tp [(.a (Tup.cells QV t.1)),(zcs Qw t.2.1)]),[],[[(zcs [(.int .u8)] t.2.2.1),(zci t.2.2.2.1),(zci t.2.2.2.2)]],true,[]⟩
def QfT (x0:((List Int) × Int × Int)):Qo × (List Qi) × (((List Int) × Int × Int)):=Classical.epsilon fun t:Qo × (List Qi) × (((List Int) × Int × Int))=>(Qg8 x0 t)∧TCon Tryz.prog 68 [(.bx [(.c (.sl [(.int .u8)]) x0.1),(.c TI x0.2.1),(.c TI x0.2.2)])] (Jp t)
def QnL:TRow:=Qf 68 [(.b [(.sl [(.int .u8)]),TI,TI])] fun x=>(some (QF x.1),Jp (QfT x.1))
def QU7:List TRow:=[Qos,JB,Qnq,Qb2,QlB]
def QNt:TCode :=
 (zsq [(.reg [zop 2 (.new 30 (z0s QV)),zmv 3 (.k (.n Qw))]),(.reg [zmv 7 0,zca 8 143 [7],zmv 6 8,zex 9 6 0,zex 10 6 1,zop 4 (.new 30 (z0s QV)),zst 4 9 6,zmv 5 10]),(zsq [(.reg [zmv 11 0,zca 12 108 [11,(zki 16)]]),(.block 0 (zsq [(.reg [zbi 14 .eql 12 (zki 0),zmv 13 14]),(.cond 13 (.reg [zmv 15 0,zca 16 144 [15],zfa 17 4 0,zst 17 16 1]) (zsq [(.reg [zbi 19 .eql 12 (zki 1),zmv 18 19]),(.cond 18 (.draw [zfa 20 4 1,zld 21 20 1,zmv 22 0,zca 23 108 [22,(zki 8)],zop 24 (.bsl 3 [TI] [23]),zop 25 (.app 21 24 3 [TI]),zfa 26 4 1,zst 26 25 1] [(0,3),(1,3),(0,4),(1,4)]) (zsq [(.reg [zbi 28 .eql 12 (zki 2),zmv 27 28]),(.cond 27 (.reg [zmv 29 0,zop 30 (.bsl 3 [TI] [(zki 0),(zki 3)]),zca 31 145 [29,30],zfa 32 4 2,zst 32 31 1]) (zsq [(.reg [zbi 34 .eql 12 (zki 3),zmv 33 34]),(.cond 33 (.reg [zfa 35 4 3,zld 36 35 1,zfa 37 4 3,zld 38 37 1,zle 39 38,zbi 40 .sub 39 (zki 1),zop 41 (.slc 36 none (some 40) [.bool]),zfa 42 4 3,zst 42 41 1]) (zsq [(.reg [zbi 44 .eql 12 (zki 4),zmv 43 44]),(.cond 43 (zsq [(.reg [zfa 45 4 4,zld 46 45 1,zle 47 46,zbi 48 .gtr 47 (zki 0)]),(.cond 48 (.draw [zfa 49 4 4,zld 50 49 1,zmv 51 0,zop 52 (.bsl 3 [TI] [(zki 0),(zki 5),(zki 6)]),zca 53 145 [51,52],zia 54 50 (zki 0) [TI],zst 54 53 1] [(0,3),(1,3),(0,4),(1,4)]) .skip)]) (zsq [(.reg [zbi 56 .eql 12 (zki 5),zmv 55 56]),(.cond 55 (.draw [zfa 57 4 5,zld 58 57 1,zmv 59 0,zfa 60 4 5,zld 61 60 1,zia 62 61 (zki 0) [TI],zld 63 62 1,zbi 64 .sub 63 (zki 1),zop 65 (.bsl 3 [TI] [64,(zki 100000),(zki 100001),(zki 0)]),zca 66 145 [59,65],zia 67 58 (zki 0) [TI],zst 67 66 1] [(0,8),(1,8),(0,9),(1,9)]) (zsq [(.reg [zbi 69 .eql 12 (zki 6),zmv 68 69]),(.cond 68 (.reg [zmv 70 0,zfa 71 4 0,zLd 72 71 1,zca 73 146 [70,72],zmv 5 73]) (zsq [(.reg [zbi 75 .eql 12 (zki 7),zmv 74 75]),(.cond 74 (.reg [zfa 76 4 5,zld 77 76 1,zop 78 (.slc 77 (some (zki 1)) none [TI]),zfa 79 4 5,zst 79 78 1]) .skip)]))]))]))]))]))]))]))]))]),(.reg [zLd 80 4 6,zmv 81 5,zst 2 80 6,zmv 3 81]),.ret])
def QGZ:List (ARv × Md):=[(.l 2 6 true,.b (zds 6)),(.t 3,.one .d)]
theorem QJp (c:((List Int) × Int × Int)) (h :
 let z1:=Ql ((QS c).2.2) (16:Int)
 let z2:=List.take ((((QS c).1).2.2.2.2.1).length) (List.drop 0 (((QS c).1).2.2.2.2.1))
 let z3:=List.take ((((QS c).1).2.2.2.1).length) (List.drop 0 (((QS c).1).2.2.2.1))
 let z4:=List.take ((((QS c).1).2.2.2.2.2).length) (List.drop 0 (((QS c).1).2.2.2.2.2))
 let z5:=List.take ((((QS c).1).2.1).length) (List.drop 0 (((QS c).1).2.1))
 let z7:=Int.toNat (0:Int)
 let z6:=gtd (0:Int) (((QS c).1).2.2.2.2.2) (0+z7)
 ((QF c)∧((Zr ((QS c).2.2) (16:Int))∧(zif ((z1.1)==(0:Int)) ((QF (z1.2))∧K (Jp (((Qgw (z1.2)).1,z5,((QS c).1).2.2.1,z3,z2,z4),(QS c).2.1,((Qgw (z1.2)).2)))) (zif ((z1.1)==(1:Int)) (((Zr (z1.2) (8:Int))∧(((((QS c).1).2.1).length=(((QS c).1).2.1).length∨(((QS c).1).2.1).length+1≤(((QS c).1).2.1).length)∧(((QS c).1).2.1).length+1≤big))∧K (Jp ((((QS c).1).1,(List.take ((((QS c).1).2.1).length+1) (List.drop 0 ((List.take ((((QS c).1).2.1).length) (((QS c).1).2.1))++([(Ql (z1.2) (8:Int)).1])))),((QS c).1).2.2.1,z3,z2,z4),(QS c).2.1,((Ql (z1.2) (8:Int)).2)))) (zif ((z1.1)==(2:Int)) ((Y9 (z1.2) ([(0:Int),(3:Int)]))∧K (Jp ((((QS c).1).1,z5,(ZN (z1.2) ([(0:Int),(3:Int)])).1,z3,z2,z4),(QS c).2.1,((ZN (z1.2) ([(0:Int),(3:Int)])).2)))) (zif ((z1.1)==(3:Int)) (((0:Int)≤(0:Int)∧(0:Int)≤w64 ((((((QS c).1).2.2.2.1).length:Nat):Int)-(1:Int))∧w64 ((((((QS c).1).2.2.2.1).length:Nat):Int)-(1:Int))≤(((((QS c).1).2.2.2.1).length:Nat):Int))∧K (Jp ((((QS c).1).1,z5,((QS c).1).2.2.1,(List.take (Int.toNat (w64 ((((((QS c).1).2.2.2.1).length:Nat):Int)-(1:Int)))-Int.toNat (0:Int)) (List.drop 0 (((QS c).1).2.2.2.1))),z2,z4),(QS c).2.1,(z1.2)))) (zif ((z1.1)==(4:Int)) (zif (decide ((((((QS c).1).2.2.2.2.1).length:Nat):Int)>(0:Int))) (((Y9 (z1.2) ([(0:Int),(5:Int),(6:Int)]))∧(((0:Int)≤(0:Int)∧Int.toNat (0:Int)<(((QS c).1).2.2.2.2.1).length)∧((0+z7)<(((QS c).1).2.2.2.2.1).length)))∧K (Jp ((((QS c).1).1,z5,((QS c).1).2.2.1,z3,(List.take ((((QS c).1).2.2.2.2.1).length) (List.drop 0 ((((QS c).1).2.2.2.2.1).set (0+z7) ((ZN (z1.2) ([(0:Int),(5:Int),(6:Int)])).1)))),z4),(QS c).2.1,((ZN (z1.2) ([(0:Int),(5:Int),(6:Int)])).2)))) (K (Jp ((((QS c).1).1,z5,((QS c).1).2.2.1,z3,z2,z4),(QS c).2.1,(z1.2))))) (zif ((z1.1)==(5:Int)) ((((0:Int)≤(0:Int)∧Int.toNat (0:Int)<(((QS c).1).2.2.2.2.2).length)∧(((0+z7)<(((QS c).1).2.2.2.2.2).length)∧((Y9 (z1.2) ([w64 (z6-(1:Int)),(100000:Int),(100001:Int),(0:Int)]))∧(((0:Int)≤(0:Int)∧Int.toNat (0:Int)<(((QS c).1).2.2.2.2.2).length)∧((0+z7)<(((QS c).1).2.2.2.2.2).length)))))∧K (Jp ((((QS c).1).1,z5,((QS c).1).2.2.1,z3,z2,(List.take ((((QS c).1).2.2.2.2.2).length) (List.drop 0 ((((QS c).1).2.2.2.2.2).set (0+z7) ((ZN (z1.2) ([w64 (z6-(1:Int)),(100000:Int),(100001:Int),(0:Int)])).1))))),(QS c).2.1,((ZN (z1.2) ([w64 (z6-(1:Int)),(100000:Int),(100001:Int),(0:Int)])).2)))) (zif ((z1.1)==(6:Int)) ((Zr (z1.2) (((QS c).1).1))∧K (Jp ((((QS c).1).1,z5,((QS c).1).2.2.1,z3,z2,z4),(Qh9 (z1.2) (((QS c).1).1)).1,((Qh9 (z1.2) (((QS c).1).1)).2)))) (zif ((z1.1)==(7:Int)) (((0:Int)≤(1:Int)∧(1:Int)≤(((((QS c).1).2.2.2.2.2).length:Nat):Int)∧(((((QS c).1).2.2.2.2.2).length:Nat):Int)≤(((((QS c).1).2.2.2.2.2).length:Nat):Int))∧K (Jp ((((QS c).1).1,z5,((QS c).1).2.2.1,z3,z2,(List.take (Int.toNat (((((QS c).1).2.2.2.2.2).length:Nat):Int)-Int.toNat (1:Int)) (List.drop (0+Int.toNat (1:Int)) (((QS c).1).2.2.2.2.2)))),(QS c).2.1,(z1.2)))) (K (Jp ((((QS c).1).1,z5,((QS c).1).2.2.1,z3,z2,z4),(QS c).2.1,(z1.2))))))))))))))):Hold (tawp QU7 (1+0) QNt (TQ 1 0 QGZ K) (Qd [(.bx [(.c (.sl [(.int .u8)]) c.1),(.c TI c.2.1),(.c TI c.2.2)])])) :=
 Hold.of (by kernel_rfl) h
theorem QBg (c:((List Int) × Int × Int)) (hp:QF c):∃ t:Qo × (List Qi) × (((List Int) × Int × Int)),(Qg8 c t)∧TCon Tryz.prog 68 [(.bx [(.c (.sl [(.int .u8)]) c.1),(.c TI c.2.1),(.c TI c.2.2)])] (Jp t):=by
 refine YV (tcx (n:=82) (sg:=QnL.sg) Qg (TOk.cons QGb (TOk.cons J2 (TOk.cons QMR (TOk.cons Qej (TOk.cons QJY TOk.nil))))) (by kernel_rfl) (by kernel_rfl) (QJp (fun r'=>∃ t,(Qg8 c t)∧r'=Jp t) c ?_))
 conv=>zeta
 have hc:QF c:=hp
 have b1:=QJQ c hc
 obtain ⟨h1,h2,h3,h4,h5,h6,h7⟩:=b1
 have b2:=(Yh (QS c).2.2 16 h7).2.2.2
 refine ⟨hc,h7,?_⟩
 refine ⟨fun _=>⟨b2,Ze (by simp;omega)⟩,fun _=>?_⟩
 refine ⟨fun _=>⟨⟨b2,.inl rfl,by rw [Zu];omega⟩,Ze (by simp;omega)⟩,fun _=>?_⟩
 refine ⟨fun _=>⟨⟨b2,by simp,by simp⟩,Ze (by simp;omega)⟩,fun _=>?_⟩
 refine ⟨fun _=>⟨?_,Ze (by simp;omega)⟩,fun _=>?_⟩
 ·rw [Qq (by omega) (by omega)];omega
 refine ⟨fun _=>⟨fun hh=>⟨⟨⟨b2,by simp,by simp⟩,⟨by omega,by simpa using hh⟩,by simpa using hh⟩,Ze (by simp;omega)⟩,fun _=>Ze (by simp;omega)⟩,fun _=>?_⟩
 refine ⟨fun _=>⟨⟨⟨by omega,by simp;omega⟩,by simp;omega,⟨b2,by simp,by simp⟩,⟨by omega,by simp;omega⟩,by simp;omega⟩,Ze (by simp;omega)⟩,fun _=>?_⟩
 refine ⟨fun _=>⟨b2,Ze (by simp;omega)⟩,fun _=>?_⟩
 exact ⟨fun _=>⟨by omega,Ze (by simp;omega)⟩,fun _=>Ze (by simp;omega)⟩
theorem QHT (c:((List Int) × Int × Int)) (hp:QF c):Qg8 c (QfT c):=(Classical.epsilon_spec (QBg c hp)).1
theorem QRp (c:((List Int) × Int × Int)) (hp:QF c):TCon Tryz.prog 68 [(.bx [(.c (.sl [(.int .u8)]) c.1),(.c TI c.2.1),(.c TI c.2.2)])] (Jp (QfT c)):=(Classical.epsilon_spec (QBg c hp)).2
theorem QXG:Qe Tryz.prog QnL:=Qh fun x h=>QRp x.1 h
def QdN (t:Qo × (List Qi)):TRes:=zra (.tp [(.a (Tup.cells QV t.1)),(zcs Qw t.2)])
def Qig (x0:List Int):Qo × (List Qi):=Classical.epsilon fun t:Qo × (List Qi)=>(Qnl x0 t)∧TCon Tryz.prog 14 [(.c (.sl [(.int .u8)]) x0)] (QdN t)
def QkM:TRow:=Qf 14 [(.c (.sl [(.int .u8)]))] fun x=>(some (Qas x.1),QdN (Qig x.1))
def QLa:List TRow:=[Qms,QnL]
def QYe:TCode :=
 (zsq [(.reg [zop 2 (.new 30 (z0s QV)),zmv 3 (.k (.n Qw))]),(.reg [zmv 4 0,zca 5 69 [4],zca 6 68 [5],zex 7 6 0,zex 8 6 1,zst 2 7 6,zmv 3 8]),.ret])
def QOY:List (ARv × Md):=[(.l 2 6 true,.b (zds 6)),(.t 3,.one .d)]
theorem QQj (code:List Int) (h :
 (((Qas code)∧(QF (QdB code)))∧K (QdN (((QfT (QdB code)).1),(QfT (QdB code)).2.1)))):Hold (tawp QLa (0+0) QYe (TQ 0 0 QOY K) (Qd [(.c (.sl [(.int .u8)]) code)])) :=
 Hold.of (by kernel_rfl) h
theorem QQ6 (code:List Int) (hp:Qas code):∃ t:Qo × (List Qi),(Qnl code t)∧TCon Tryz.prog 14 [(.c (.sl [(.int .u8)]) code)] (QdN t):=by
 refine YV (tcx (n:=9) (sg:=QkM.sg) Qg (TOk.cons QNG (TOk.cons QXG TOk.nil)) (by kernel_rfl) (by kernel_rfl) (QQj (fun r'=>∃ t,(Qnl code t)∧r'=QdN t) code ?_))
 exact ⟨⟨hp,QCS code hp⟩,Ze (QHT _ (QCS code hp))⟩
theorem QXm (code:List Int) (hp:Qas code):TCon Tryz.prog 14 [(.c (.sl [(.int .u8)]) code)] (QdN (Qig code)):=(Classical.epsilon_spec (QQ6 code hp)).2
theorem QQa:Qe Tryz.prog QkM:=Qh fun x h=>QXm x.1 h
end
end Go.Proofs.YtjbdljkhbglnhaaGreat.Am

