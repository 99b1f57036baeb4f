/- -/
import Derived.Test.YtjbdljkhbglnhaaGreatZDD1
import Derived.Test.YtjbdljkhbglnhaaGreatZDP4
import Derived.Test.YtjbdljkhbglnhaaGreatZDD2
import Derived.Test.YtjbdljkhbglnhaaGreatZDD4
import Derived.Test.YtjbdljkhbglnhaaGreatZDP6
import Derived.Test.YtjbdljkhbglnhaaGreatZDG9
namespace Go.Proofs.YtjbdljkhbglnhaaGreat.Am
open Go Go.RowKit Go.Proofs.YtjbdljkhbglnhaaGreat
set_option linter.all false
set_option maxHeartbeats 2000000
noncomputable section
variable (K:TRes→Prop)
def Qbp (t:(List Qr) × (((List Int) × Int × Int))):TRes:=⟨(.r QJ 0 0 ((t.1).length)),[(.sl 108 QJ true t.1)],[[(zcs [(.int .u8)] t.2.1),(zci t.2.2.1),(zci t.2.2.2)]],true,[]⟩
def ZT (x0:((List Int) × Int × Int)) (x1:List TOp'):(List Qr) × (((List Int) × Int × Int)):=Classical.epsilon fun t:(List Qr) × (((List Int) × Int × Int))=>(Qdp x0 x1 t)∧TCon Tryz.prog 200 [(.bx [(.c (.sl [(.int .u8)]) x0.1),(.c TI x0.2.1),(.c TI x0.2.2)]),(.a [(.c (.sl ctOp) x1)])] (Qbp t)
def QjD:TRow:=Qj 200 [(.b [(.sl [(.int .u8)]),TI,TI]),(.a [(.sl ctOp)])] fun x=>(some (Zo x.1 x.2.1),Qbp (ZT x.1 x.2.1))
def Qlk:List TRow:=[JH,Qhc,QfR,Qi2]
def QyF:TCode :=
 (zsq [(zsq [(.reg [zmv 11 6,zbi 12 .gtr 11 (zki 0)]),(.cond 12 .skip (.exit 0))]),(.block 1 (.draw [zmv 15 5,zmv 16 0,zLd 17 3 1,zca 18 153 [17],zca 19 105 [16,18],zmv 20 0,zLd 21 3 1,zca 22 154 [21],zca 23 105 [20,22],zop 24 (.build (z0s QJ) [(0,1,19),(1,1,23)]),zop 25 (.bsl 108 QJ [24]),zop 26 (.app 15 25 108 QJ),zmv 5 26] [(3,6),(4,6)])),(.reg [zmv 13 6,zbi 14 .sub 13 (zki 1),zmv 6 14])])
def Qvo:List (Nat × Md):=[(0,.b [.d,.d,.d]),(3,.b [.d]),(5,.one .f),(6,.one .d)]
def QAT:TCode :=
 (zsq [(.reg [zmv 27 5,zmv 4 27]),.ret])
def QUG:TCode :=
 (zsq [(.reg [zop 3 (.box 26 1 1),zmv 4 (.k (.n QJ))]),(.reg [zop 7 (.bsl 108 QJ []),zmv 5 7]),(zsq [(.reg [zmv 8 0,zca 9 108 [8,(zki 4)],zbi 10 .add (zki 1) 9,zmv 6 10]),(.block 0 (.loop Qvo QyF))]),QAT])
def QDz:List (ARv × Md):=[(.t 4,.one (.o 108))]
def QtX:Qb:=TQ 1 0 QDz K
def QTK:Qb:=Qseq (tawp Qlk 1 QAT (QtX K)) (QtX K)
def QYH:Qb:=Qblk 0 (QTK K)
def QjJ (m:List TOp') (n:Int) (c0:List Int) (c1:Int) (c2:Int) (b:List Qr):Prop:=Loop Qlk 1 Qvo QyF (QYH K) ⟨[(0,(.p 0 0 0)),(3,(.p 1 0 0)),(5,(.r QJ 2 0 b.length)),(6,(zci n))],[(0,(.box [(zcs [(.int .u8)] c0),(zci c1),(zci c2)])),(1,(.box [(zcs ctOp m)])),(2,(.sl 108 QJ true b))],3⟩
theorem Qzj (m:List TOp') (n:Int) (c0:List Int) (c1:Int) (c2:Int) (b:List Qr) (h :
 (zif (decide (n>(0:Int))) (((JB (c0,c1,c2) (Q6 m))∧((JB ((Ys (c0,c1,c2) (Q6 m)).2) (Q5 m))∧((b.length=b.length∨b.length+1≤b.length)∧b.length+1≤big)))∧(QjJ K m (w64 (n-(1:Int))) (((Ys ((Ys (c0,c1,c2) (Q6 m)).2) (Q5 m)).2).1) (((Ys ((Ys (c0,c1,c2) (Q6 m)).2) (Q5 m)).2).2.1) (((Ys ((Ys (c0,c1,c2) (Q6 m)).2) (Q5 m)).2).2.2) (List.take (b.length+1) ((List.take b.length b)++([((List.take (((Ys (c0,c1,c2) (Q6 m)).1).length) (List.drop 0 ((Ys (c0,c1,c2) (Q6 m)).1))),(List.take (((Ys ((Ys (c0,c1,c2) (Q6 m)).2) (Q5 m)).1).length) (List.drop 0 ((Ys ((Ys (c0,c1,c2) (Q6 m)).2) (Q5 m)).1))))]))))) (K (Qbp ((List.take b.length b),(c0,c1,c2)))))):QjJ K m n c0 c1 c2 b :=
 Loop.of (by kernel_rfl) h
theorem QT4 (c:((List Int) × Int × Int)) (m:List TOp') (h :
 ((Zo c (4:Int))∧(QjJ K m (w64 ((1:Int)+((Qp c (4:Int)).1))) (((Qp c (4:Int)).2).1) (((Qp c (4:Int)).2).2.1) (((Qp c (4:Int)).2).2.2) ([]:List Qr)))):Hold (tawp Qlk (1+0) QUG (TQ 1 0 QDz K) (Qh [(.bx [(.c (.sl [(.int .u8)]) c.1),(.c TI c.2.1),(.c TI c.2.2)]),(.a [(.c (.sl ctOp) m)])])) :=
 Hold.of (by kernel_rfl) h
theorem Quf (c:((List Int) × Int × Int)) (m:List TOp') (hp:Zo c m):∃ t:(List Qr) × (((List Int) × Int × Int)),(Qdp c m t)∧TCon Tryz.prog 200 [(.bx [(.c (.sl [(.int .u8)]) c.1),(.c TI c.2.1),(.c TI c.2.2)]),(.a [(.c (.sl ctOp) m)])] (Qbp t):=by
 refine YT (tcx (n:=28) (sg:=QjD.sg) Ql (TOk.cons Qaa (TOk.cons QBf (TOk.cons Qny (TOk.cons QAW TOk.nil)))) (by kernel_rfl) (by kernel_rfl) (QT4 (fun r'=>∃ t,(Qdp c m t)∧r'=Qbp t) c m ?_))
 have hc:QN c:=hp
 have b1:=Yj c 4 hc
 have h1:=b1.1
 have h2:=b1.2.1 (by omega)
 rw [Qt (x:=1+_) (by omega) (by omega)]
 have hi:Q6 m≤6:=by
  unfold Q6
  split
  ·rename_i hm
   exact (QeK (Qm0 hm (by have:=Yn hm;omega))).2.1
  ·omega
 have ho:Q5 m≤6:=by
  unfold Q5
  split
  ·rename_i hm
   exact (QeK (Qm0 hm (by have:=Yn hm;omega))).2.2.2
  ·omega
 refine ⟨hc,?_⟩
 have key:∀ (k:Nat) (t:TCur) (b:List Qr),QN t→b.length+k≤4→1≤b.length+k→QjJ (fun r'=>∃ t,(Qdp c m t)∧r'=Qbp t) m (k:Int) t.1 t.2.1 t.2.2 b:=by
  intro k
  induction k with
  | zero =>
   intro t b hc k1 k2
   refine Qzj (fun r'=>∃ t,(Qdp c m t)∧r'=Qbp t) m _ _ _ _ _ ⟨fun h=>by simp at h,fun _=>Ze ⟨?_,?_,hc⟩⟩
   ·simp only [List.take_length];omega
   ·simp only [List.take_length];omega
  | succ k ih =>
   intro t b hc k1 k2
   have hv:JB t (Q6 m):=⟨hc,by omega⟩
   have b2:=Qga _ _ hv
   have hv2:JB (Ys t (Q6 m)).2 (Q5 m):=⟨b2.2.2,by omega⟩
   have b3:=Qga _ _ hv2
   refine Qzj (fun r'=>∃ t,(Qdp c m t)∧r'=Qbp t) m _ _ _ _ _ ⟨fun _=>⟨⟨hv,hv2,⟨.inl rfl,by rw [Q9];omega⟩⟩,?_⟩,fun h=>by simp at h <;> omega⟩
   rw [Za,Qt (x:=((k+1:Nat):Int)-1) (by omega) (by omega),show ((k+1:Nat):Int)-1=k by omega]
   exact ih _ _ b3.2.2 (by simp;omega) (by simp;omega)
 have h:=key (1+(Qp c 4).1).toNat (Qp c 4).2 [] b1.2.2.2 (by simp;omega) (by simp;omega)
 rw [Int.toNat_of_nonneg (by omega)] at h
 exact h
theorem QzG (c:((List Int) × Int × Int)) (m:List TOp') (hp:Zo c m):Qdp c m (ZT c m):=(Classical.epsilon_spec (Quf c m hp)).1
theorem QVv (c:((List Int) × Int × Int)) (m:List TOp') (hp:Zo c m):TCon Tryz.prog 200 [(.bx [(.c (.sl [(.int .u8)]) c.1),(.c TI c.2.1),(.c TI c.2.2)]),(.a [(.c (.sl ctOp) m)])] (Qbp (ZT c m)):=(Classical.epsilon_spec (Quf c m hp)).2
theorem Qzo:Qi Tryz.prog QjD:=Qm fun x h=>QVv x.1 x.2.1 h
def JY (t:(List Qr) × (((List Int) × Int × Int))):TRes:=⟨(zcs QJ t.1),[],[[(zcs [(.int .u8)] t.2.1),(zci t.2.2.1),(zci t.2.2.2)]],true,[]⟩
def Qhj (x0:((List Int) × Int × Int)) (x1:List TOp'):(List Qr) × (((List Int) × Int × Int)):=Classical.epsilon fun t:(List Qr) × (((List Int) × Int × Int))=>(QdJ x0 x1 t)∧TCon Tryz.prog 146 [(.bx [(.c (.sl [(.int .u8)]) x0.1),(.c TI x0.2.1),(.c TI x0.2.2)]),(.a [(.c (.sl ctOp) x1)])] (JY t)
def Qk4:TRow:=Qj 146 [(.b [(.sl [(.int .u8)]),TI,TI]),(.a [(.sl ctOp)])] fun x=>(some (Zo x.1 x.2.1),JY (Qhj x.1 x.2.1))
def QoN:List TRow:=[QjD,JH,Qoc]
def QCb:TCode :=
 (zsq [(zsq [(.reg [zmv 23 5,zle 24 23,zmv 25 0,zca 26 108 [25,(zki 2)],zbi 27 .add (zki 5) 26,zbi 28 .lss 24 27]),(.cond 28 .skip (.exit 1))]),(.block 2 (.reg [zmv 29 5,zmv 30 5,zia 31 30 (zki 0) QJ,zLd 32 31 2,zop 33 (.bsl 108 QJ [32]),zop 34 (.app 29 33 108 QJ),zmv 5 34]))])
def QBu:List (Nat × Md):=[(0,.b [.d,.d,.d]),(5,.one .f)]
def Qtf:TCode :=
 (zsq [(.reg [zmv 35 5,zmv 4 35]),.ret])
def QRs:TCode :=
 (zsq [(.reg [zop 3 (.box 26 1 1),zmv 4 (.k (.n QJ))]),(.reg [zmv 6 0,zLd 7 3 1,zca 8 200 [6,7],zmv 5 8]),(zsq [(.reg [zmv 9 0,zca 10 108 [9,(zki 16)]]),(.block 0 (zsq [(.reg [zbi 12 .eql 10 (zki 0),zmv 11 12]),(.cond 11 (zsq [(.reg [zop 13 (.bsl 108 QJ []),zmv 4 13]),.ret]) (zsq [(.reg [zbi 15 .eql 10 (zki 1),zmv 14 15]),(.cond 14 (.reg [zmv 16 5,zmv 17 0,zca 18 107 [17],zia 19 16 (zki 0) QJ,zfa 20 19 0,zst 20 18 1]) (zsq [(.reg [zbi 22 .eql 10 (zki 2),zmv 21 22]),(.cond 21 (.block 1 (.loop QBu QCb)) .skip)]))]))]))]),Qtf])
def QEh:List (ARv × Md):=[(.t 4,.one .d)]
def QBl:Qb:=TQ 1 0 QEh K
def QWy:Qb:=Qseq (tawp QoN 1 Qtf (QBl K)) (QBl K)
def QRD:Qb:=Qblk 0 (QWy K)
def QKQ:Qb:=Qblk 1 (QRD K)
def Qg9 (c0:List Int) (c1:Int) (c2:Int) (b:List Qr):Prop:=Loop QoN 1 QBu QCb (QKQ K) ⟨[(0,(.p 0 0 0)),(5,(.r QJ 1 0 b.length))],[(0,(.box [(zcs [(.int .u8)] c0),(zci c1),(zci c2)])),(1,(.sl 108 QJ true b))],2⟩
theorem Qq4 (c0:List Int) (c1:Int) (c2:Int) (b:List Qr) (h :
 ((Zo (c0,c1,c2) (2:Int))∧(zif (decide (((b.length:Nat):Int)<(w64 ((5:Int)+((Qp (c0,c1,c2) (2:Int)).1))))) ((((0:Int)≤(0:Int)∧Int.toNat (0:Int)<b.length)∧(((0+(Int.toNat (0:Int)))<b.length)∧((b.length=b.length∨b.length+1≤b.length)∧b.length+1≤big)))∧(Qg9 K (((Qp (c0,c1,c2) (2:Int)).2).1) (((Qp (c0,c1,c2) (2:Int)).2).2.1) (((Qp (c0,c1,c2) (2:Int)).2).2.2) (List.take (b.length+1) ((List.take b.length b)++([(gtd QY b (0+(Int.toNat (0:Int))))]))))) (K (JY ((List.take b.length (List.drop 0 b)),((Qp (c0,c1,c2) (2:Int)).2))))))):Qg9 K c0 c1 c2 b :=
 Loop.of (by kernel_rfl) h
theorem QVb (c:((List Int) × Int × Int)) (m:List TOp') (h :
 ((Zo c m)∧((Zo ((ZT c m).2) (16:Int))∧(zif (((Qp ((ZT c m).2) (16:Int)).1)==(0:Int)) (K (JY (([]:List Qr),((Qp ((ZT c m).2) (16:Int)).2)))) (zif (((Qp ((ZT c m).2) (16:Int)).1)==(1:Int)) (((QN ((Qp ((ZT c m).2) (16:Int)).2))∧(((0:Int)≤(0:Int)∧Int.toNat (0:Int)<((ZT c m).1).length)∧((0+(Int.toNat (0:Int)))<((ZT c m).1).length)))∧K (JY ((List.take (((ZT c m).1).length) (List.drop 0 (((ZT c m).1).set (0+(Int.toNat (0:Int))) ((Qfg ((Qp ((ZT c m).2) (16:Int)).2)).1,(gtd QY ((ZT c m).1) (0+(Int.toNat (0:Int)))).2)))),((Qfg ((Qp ((ZT c m).2) (16:Int)).2)).2)))) (zif (((Qp ((ZT c m).2) (16:Int)).1)==(2:Int)) (Qg9 K (((Qp ((ZT c m).2) (16:Int)).2).1) (((Qp ((ZT c m).2) (16:Int)).2).2.1) (((Qp ((ZT c m).2) (16:Int)).2).2.2) (List.take (((ZT c m).1).length) ((ZT c m).1))) (K (JY ((List.take (((ZT c m).1).length) (List.drop 0 ((ZT c m).1))),((Qp ((ZT c m).2) (16:Int)).2)))))))))):Hold (tawp QoN (1+0) QRs (TQ 1 0 QEh K) (Qh [(.bx [(.c (.sl [(.int .u8)]) c.1),(.c TI c.2.1),(.c TI c.2.2)]),(.a [(.c (.sl ctOp) m)])])) :=
 Hold.of (by kernel_rfl) h
theorem QLs (c:((List Int) × Int × Int)) (m:List TOp') (hp:Zo c m):∃ t:(List Qr) × (((List Int) × Int × Int)),(QdJ c m t)∧TCon Tryz.prog 146 [(.bx [(.c (.sl [(.int .u8)]) c.1),(.c TI c.2.1),(.c TI c.2.2)]),(.a [(.c (.sl ctOp) m)])] (JY t):=by
 refine YT (tcx (n:=36) (sg:=Qk4.sg) Ql (TOk.cons Qzo (TOk.cons Qaa (TOk.cons QWl TOk.nil))) (by kernel_rfl) (by kernel_rfl) (QVb (fun r'=>∃ t,(QdJ c m t)∧r'=JY t) c m ?_))
 have hc:QN c:=hp
 have b1:=QzG c m hc
 generalize ZT c m=r1 at b1 ⊢
 obtain ⟨k1,k2,k3⟩:=b1
 have b3:=(Yj r1.2 16 k3).2.2.2
 generalize Qp r1.2 16=r3 at b3 ⊢
 refine ⟨hc,k3,fun _=>Ze ⟨by simp,b3⟩,fun _=>⟨fun _=>⟨⟨b3,⟨by omega,by simp;omega⟩,by simp;omega⟩,Ze ⟨by simp;omega,(QMD _ b3).2⟩⟩,fun _=>⟨fun _=>?_,fun _=>Ze ⟨by simp;omega,b3⟩⟩⟩⟩
 rw [List.take_length]
 have key:∀ (k:Nat) (t:TCur) (b:List Qr),QN t→1≤b.length→b.length+k=6→Qg9 (fun r'=>∃ t,(QdJ c m t)∧r'=JY t) t.1 t.2.1 t.2.2 b:=by
  intro k
  induction k with
  | zero =>
   intro t b hc q1 q2
   have b2:=Yj t 2 hc
   have q3:=b2.1
   have q4:=b2.2.1 (by omega)
   have hw:w64 (5+(Qp t 2).1)=5+(Qp t 2).1:=Qt (by omega) (by omega)
   refine Qq4 (fun r'=>∃ t,(QdJ c m t)∧r'=JY t) _ _ _ _ ⟨hc,fun h=>?_,fun _=>Ze ⟨by simp;omega,b2.2.2.2⟩⟩
   have h:=of_decide_eq_true h
   have h':(b.length:Int)<w64 (5+(Qp t 2).1):=h
   rw [hw] at h'
   omega
  | succ k ih =>
   intro t b hc q1 q2
   have b2:=Yj t 2 hc
   refine Qq4 (fun r'=>∃ t,(QdJ c m t)∧r'=JY t) _ _ _ _ ⟨hc,fun _=>?_,fun _=>Ze ⟨by simp;omega,b2.2.2.2⟩⟩
   refine ⟨⟨⟨by omega,by simp;omega⟩,by simp;omega,.inl rfl,by rw [Q9];omega⟩,?_⟩
   rw [Za]
   exact ih _ _ b2.2.2.2 (by simp) (by simp;omega)
 exact key (6-r1.1.length) _ _ b3 k1 (by omega)
theorem QZx (c:((List Int) × Int × Int)) (m:List TOp') (hp:Zo c m):TCon Tryz.prog 146 [(.bx [(.c (.sl [(.int .u8)]) c.1),(.c TI c.2.1),(.c TI c.2.2)]),(.a [(.c (.sl ctOp) m)])] (JY (Qhj c m)):=(Classical.epsilon_spec (QLs c m hp)).2
theorem QPO:Qi Tryz.prog Qk4:=Qm fun x h=>QZx x.1 x.2.1 h
def Qaf (t:QM × (List Qr) × (((List Int) × Int × Int))):TRes:=⟨(.tp [(.a [(zcs ctOp t.1.1),(.r [TI] 0 0 ((t.1.2.1).length)),(zci t.1.2.2.1),(.r [.bool] 1 0 ((t.1.2.2.2.1).length)),(.r [TI] 2 0 ((t.1.2.2.2.2.1).length)),(.r [TI] 3 0 ((t.1.2.2.2.2.2).length))]),(zcs QJ t.2.1)]),[(.sl 3 [TI] true t.1.2.1),(.sl 4 [.bool] true t.1.2.2.2.1),(.sl 3 [TI] true t.1.2.2.2.2.1),(.sl 3 [TI] true t.1.2.2.2.2.2)],[[(zcs [(.int .u8)] t.2.2.1),(zci t.2.2.2.1),(zci t.2.2.2.2)]],true,[]⟩
def QV (x0:((List Int) × Int × Int)):QM × (List Qr) × (((List Int) × Int × Int)):=Classical.epsilon fun t:QM × (List Qr) × (((List Int) × Int × Int))=>(QaF x0 t)∧TCon Tryz.prog 143 [(.bx [(.c (.sl [(.int .u8)]) x0.1),(.c TI x0.2.1),(.c TI x0.2.2)])] (Qaf t)
def Qmb:TRow:=Qj 143 [(.b [(.sl [(.int .u8)]),TI,TI])] fun x=>(some (QN x.1),Qaf (QV x.1))
def Qgt:List TRow:=[Qjl,QmN,JH,QjD,Qf3,Qib,Qb8]
def QCO:TCode :=
 (zsq [(zsq [(.reg [zmv 22 7,zfa 23 5 1,zld 24 23 1,zle 25 24,zbi 26 .leq 22 25]),(.cond 26 .skip (.exit 0))]),(.block 1 (zsq [(.draw [zfa 29 5 3,zld 30 29 1,zmv 31 0,zca 32 106 [31,(zki 3)],zop 33 (.bsl 4 [.bool] [32]),zop 34 (.app 30 33 4 [.bool]),zfa 35 5 3,zst 35 34 1] [(0,3),(1,3),(0,4),(1,4)]),(.reg [zmv 36 7,zbi 37 .gtr 36 (zki 0)]),(.cond 37 (.draw [zfa 38 5 4,zld 39 38 1,zmv 40 0,zca 41 108 [40,(zki 3)],zbi 42 .add (zki 1) 41,zop 43 (.bsl 3 [TI] [42]),zop 44 (.app 39 43 3 [TI]),zfa 45 5 4,zst 45 44 1] [(0,3),(1,3),(0,5),(1,5)]) .skip)])),(.reg [zmv 27 7,zbi 28 .add 27 (zki 1),zmv 7 28])])
def QAp:List (Nat × Md):=[(0,.b [.d,.d,.d]),(2,.b (zds 6)),(5,.b [.d,.f,.d,.o 4,.o 3,.o 3]),(6,.one .d),(7,.one .d)]
def QsN:TCode :=
 (zsq [(zsq [(.reg [zmv 46 8,zfa 47 5 1,zld 48 47 1,zle 49 48,zbi 50 .leq 46 49]),(.cond 50 .skip (.exit 2))]),(.block 3 (.draw [zfa 53 5 5,zld 54 53 1,zLd 55 5 6,zmv 56 8,zmv 57 6,zle 58 57,zca 59 78 [55,56,58],zmv 60 0,zop 61 (.bsl 3 [TI] [(zki 0),(zki 0),(zki 7)]),zca 62 145 [60,61],zbi 63 .add 59 62,zop 64 (.bsl 3 [TI] [63]),zop 65 (.app 54 64 3 [TI]),zfa 66 5 5,zst 66 65 1] [(0,6),(1,6),(0,8),(1,8),(2,8),(5,8),(6,8),(0,9),(1,9),(0,11),(1,11)])),(.reg [zmv 51 8,zbi 52 .add 51 (zki 1),zmv 8 52])])
def QrW:List (Nat × Md):=[(0,.b [.d,.d,.d]),(2,.b (zds 6)),(5,.b [.d,.f,.d,.f,.f,.f]),(6,.one .d),(8,.one .d)]
def Qv3:TCode :=
 (zsq [(.reg [zLd 67 5 6,zmv 68 6,zst 2 67 6,zmv 3 68]),.ret])
def QtT:TCode :=
 (zsq [(zsq [(.reg [zmv 8 (zki 0)]),(.block 2 (.loop QrW QsN))]),Qv3])
def QJE:TCode :=
 (zsq [(.reg [zop 2 (.new 30 (z0s ZL)),zmv 3 (.k (.n QJ))]),(.reg [zmv 9 0,zca 10 198 [9],zop 4 (.new 26 [(.n ctOp)]),zst 4 10 1]),(.draw [zLd 11 4 1,zmv 12 0,zLd 13 4 1,zca 14 199 [12,13],zmv 15 0,zca 16 108 [15,(zki 2)],zbi 17 .add (zki 1) 16,zop 18 (.build (z0s ZL) [(0,1,11),(1,1,14),(2,1,17)]),zop 5 (.new 30 (z0s ZL)),zst 5 18 6] [(0,3),(0,5),(0,8),(2,8),(3,8),(5,8)]),(.reg [zmv 19 0,zLd 20 4 1,zca 21 200 [19,20],zmv 6 21]),(zsq [(.reg [zmv 7 (zki 0)]),(.block 0 (.loop QAp QCO))]),QtT])
def QEQ:List (ARv × Md):=[(.l 2 6 true,.b [.d,.o 3,.d,.o 4,.o 3,.o 3]),(.t 3,.one .d)]
def QgE:Qb:=TQ 1 0 QEQ K
def QV6:Qb:=Qseq (tawp Qgt 1 Qv3 (QgE K)) (QgE K)
def QHc:Qb:=Qblk 2 (QV6 K)
def Qh7 (c:((List Int) × Int × Int)) (s1:Int) (c01:List Int) (c11:Int) (c21:Int) (x11:List Int) (x31:List Bool) (x41:List Int) (x5:List Int):Prop:=let z1:=List.take (((ZA c).1).length) (List.drop 0 ((ZA c).1))
 let z2:=Qp ((Qbm ((ZA c).2) z1).2) (2:Int)
 Loop Qgt 1 QrW QsN (QHc K) ⟨[(0,(.p 0 0 0)),(2,(.p 1 0 0)),(5,(.p 6 0 0)),(6,(zcs QJ (List.take (((ZT (z2.2) z1).1).length) (List.drop 0 ((ZT (z2.2) z1).1))))),(8,(zci s1))],[(0,(.box [(zcs [(.int .u8)] c01),(zci c11),(zci c21)])),(1,(.box (Tup.cells ZL ([],[],(0:Int),[],[],[])))),(2,(.sl 3 [TI] true x11)),(3,(.sl 4 [.bool] true x31)),(4,(.sl 3 [TI] true x41)),(5,(.sl 3 [TI] true x5)),(6,(.box [(zcs ctOp z1),(.r [TI] 2 0 x11.length),(zci (w64 ((1:Int)+(z2.1)))),(.r [.bool] 3 0 x31.length),(.r [TI] 4 0 x41.length),(.r [TI] 5 0 x5.length)]))],7⟩
def QPf:Qb:=Qseq (tawp Qgt 1 QtT (QgE K)) (QgE K)
def QRf:Qb:=Qblk 0 (QPf K)
def Qgc (c:((List Int) × Int × Int)) (s:Int) (c0:List Int) (c1:Int) (c2:Int) (x1:List Int) (x3:List Bool) (x4:List Int):Prop:=let z1:=List.take (((ZA c).1).length) (List.drop 0 ((ZA c).1))
 let z2:=Qp ((Qbm ((ZA c).2) z1).2) (2:Int)
 Loop Qgt 1 QAp QCO (QRf K) ⟨[(0,(.p 0 0 0)),(2,(.p 1 0 0)),(5,(.p 6 0 0)),(6,(zcs QJ (List.take (((ZT (z2.2) z1).1).length) (List.drop 0 ((ZT (z2.2) z1).1))))),(7,(zci s))],[(0,(.box [(zcs [(.int .u8)] c0),(zci c1),(zci c2)])),(1,(.box (Tup.cells ZL ([],[],(0:Int),[],[],[])))),(2,(.sl 3 [TI] true x1)),(3,(.sl 4 [.bool] true x3)),(4,(.sl 3 [TI] true x4)),(5,(.sl 3 [TI] true ([]:List Int))),(6,(.box [(zcs ctOp z1),(.r [TI] 2 0 x1.length),(zci (w64 ((1:Int)+(z2.1)))),(.r [.bool] 3 0 x3.length),(.r [TI] 4 0 x4.length),(.r [TI] 5 0 0)]))],7⟩
theorem QtU (c:((List Int) × Int × Int)) (s1:Int) (c01:List Int) (c11:Int) (c21:Int) (x11:List Int) (x31:List Bool) (x41:List Int) (x5:List Int) (h :
 let z1:=List.take (((ZA c).1).length) (List.drop 0 ((ZA c).1))
 let z2:=Qp ((Qbm ((ZA c).2) z1).2) (2:Int)
 let z3:=List.take (((ZT (z2.2) z1).1).length) (List.drop 0 ((ZT (z2.2) z1).1))
 (zif (decide (s1≤((x11.length:Nat):Int))) (((Y8 (c01,c11,c21) ([(0:Int),(0:Int),(7:Int)]))∧((x5.length=x5.length∨x5.length+1≤x5.length)∧x5.length+1≤big))∧(Qh7 K c (w64 (s1+(1:Int))) (((ZM (c01,c11,c21) ([(0:Int),(0:Int),(7:Int)])).2).1) (((ZM (c01,c11,c21) ([(0:Int),(0:Int),(7:Int)])).2).2.1) (((ZM (c01,c11,c21) ([(0:Int),(0:Int),(7:Int)])).2).2.2) (List.take x11.length x11) (List.take x31.length x31) (List.take x41.length x41) (List.take (x5.length+1) ((List.take x5.length x5)++([w64 ((Qao (z1,(List.take x11.length (List.drop 0 x11)),w64 ((1:Int)+(z2.1)),(List.take x31.length (List.drop 0 x31)),(List.take x41.length (List.drop 0 x41)),(List.take x5.length (List.drop 0 x5))) s1 (z3.length:Int))+((ZM (c01,c11,c21) ([(0:Int),(0:Int),(7:Int)])).1))]))))) (K (Qaf ((z1,(List.take x11.length x11),w64 ((1:Int)+(z2.1)),(List.take x31.length x31),(List.take x41.length x41),(List.take x5.length x5)),z3,(c01,c11,c21)))))):Qh7 K c s1 c01 c11 c21 x11 x31 x41 x5 :=
 Loop.of (by kernel_rfl) h
theorem Qrk (c:((List Int) × Int × Int)) (s:Int) (c0:List Int) (c1:Int) (c2:Int) (x1:List Int) (x3:List Bool) (x4:List Int) (h :
 (zif (decide (s≤((x1.length:Nat):Int))) (((Zo (c0,c1,c2) (3:Int))∧((x3.length=x3.length∨x3.length+1≤x3.length)∧x3.length+1≤big))∧(zif (decide (s>(0:Int))) (((Zo ((ZU (c0,c1,c2) (3:Int)).2) (3:Int))∧((x4.length=x4.length∨x4.length+1≤x4.length)∧x4.length+1≤big))∧(Qgc K c (w64 (s+(1:Int))) (((Qp ((ZU (c0,c1,c2) (3:Int)).2) (3:Int)).2).1) (((Qp ((ZU (c0,c1,c2) (3:Int)).2) (3:Int)).2).2.1) (((Qp ((ZU (c0,c1,c2) (3:Int)).2) (3:Int)).2).2.2) (List.take x1.length x1) (List.take (x3.length+1) ((List.take x3.length x3)++([(ZU (c0,c1,c2) (3:Int)).1]))) (List.take (x4.length+1) ((List.take x4.length x4)++([w64 ((1:Int)+((Qp ((ZU (c0,c1,c2) (3:Int)).2) (3:Int)).1))]))))) (Qgc K c (w64 (s+(1:Int))) (((ZU (c0,c1,c2) (3:Int)).2).1) (((ZU (c0,c1,c2) (3:Int)).2).2.1) (((ZU (c0,c1,c2) (3:Int)).2).2.2) (List.take x1.length x1) (List.take (x3.length+1) ((List.take x3.length x3)++([(ZU (c0,c1,c2) (3:Int)).1]))) (List.take x4.length x4)))) (Qh7 K c 0 c0 c1 c2 (List.take x1.length x1) (List.take x3.length x3) (List.take x4.length x4) ([]:List Int)))):Qgc K c s c0 c1 c2 x1 x3 x4 :=
 Loop.of (by kernel_rfl) h
theorem QGW (c:((List Int) × Int × Int)) (h :
 let z1:=List.take (((ZA c).1).length) (List.drop 0 ((ZA c).1))
 let z2:=Qbm ((ZA c).2) z1
 let z3:=ZT ((Qp (z2.2) (2:Int)).2) z1
 ((QN c)∧(((Qeu ((ZA c).2) z1)∧(Zo (z2.2) (2:Int)))∧((Zo ((Qp (z2.2) (2:Int)).2) z1)∧(Qgc K c 0 ((z3.2).1) ((z3.2).2.1) ((z3.2).2.2) (List.take ((z2.1).length) (z2.1)) ([]:List Bool) ([]:List Int)))))):Hold (tawp Qgt (1+0) QJE (TQ 1 0 QEQ K) (Qh [(.bx [(.c (.sl [(.int .u8)]) c.1),(.c TI c.2.1),(.c TI c.2.2)])])) :=
 Hold.of (by kernel_rfl) h
theorem Qyi (c:((List Int) × Int × Int)) (hp:QN c):∃ t:QM × (List Qr) × (((List Int) × Int × Int)),(QaF c t)∧TCon Tryz.prog 143 [(.bx [(.c (.sl [(.int .u8)]) c.1),(.c TI c.2.1),(.c TI c.2.2)])] (Qaf t):=by
 refine YT (tcx (n:=69) (sg:=Qmb.sg) Ql (TOk.cons QEy (TOk.cons QNP (TOk.cons Qaa (TOk.cons Qzo (TOk.cons Qli (TOk.cons Qts (TOk.cons QeO TOk.nil))))))) (by kernel_rfl) (by kernel_rfl) (QGW (fun r'=>∃ t,(QaF c t)∧r'=Qaf t) c ?_))
 conv=>zeta
 have hc:QN c:=hp
 have b1:=Qtk c hc
 simp only [List.drop_zero,List.take_length]
 have hcu:Qeu (ZA c).2 (ZA c).1:=⟨b1.2.2,by have:=b1.2.1;omega⟩
 have b2:=QS9 _ _ hcu
 have b3:=(Yj (Qbm (ZA c).2 (ZA c).1).2 2 b2.2.2).2.2.2
 have b4:=QzG _ (ZA c).1 b3
 have hl:=b2.2.1
 refine ⟨hc,⟨hcu,b2.2.2⟩,b3,?_⟩
 have k4:∀ (x11:List Int) (x31:List Bool) (x41:List Int),x11.length≤3→1≤x31.length→x31.length≤4→x41.length≤4→∀ (k:Nat) (t:TCur) (s1:Nat) (x5:List Int),QN t→s1+k=x11.length+1→x5.length=s1→Qh7 (fun r'=>∃ t,(QaF c t)∧r'=Qaf t) c (s1:Int) t.1 t.2.1 t.2.2 x11 x31 x41 x5:=by
  intro x11 x31 x41 m0 m1 m2 m3 k
  induction k with
  | zero =>
   intro t s1 x5 ht h1 h2
   refine QtU (fun r'=>∃ t,(QaF c t)∧r'=Qaf t) c _ _ _ _ _ _ _ _ ⟨fun h=>by simp at h;omega,fun _=>Ze ⟨?_,?_,?_,?_,?_,?_,ht⟩⟩
   all_goals (simp;omega)
  | succ k ih =>
   intro t s1 x5 ht h1 h2
   have hpk:Y8 t [0,0,7]:=⟨ht,by simp,by simp⟩
   refine QtU (fun r'=>∃ t,(QaF c t)∧r'=Qaf t) c _ _ _ _ _ _ _ _ ⟨fun _=>⟨⟨hpk,⟨.inl rfl,by rw [Q9];omega⟩⟩,?_⟩,fun h=>by simp at h;omega⟩
   rw [sc1 (by omega),List.take_length,List.take_length,List.take_length]
   exact ih (ZM t [0,0,7]).2 (s1+1) _ (Qek _ _ hpk).2 (by omega) (by simp;omega)
 have k2:∀ (x1:List Int),x1.length≤3→∀ (k:Nat) (t:TCur) (s:Nat) (x3:List Bool) (x4:List Int),QN t→s+k=x1.length+1→x3.length=s→x4.length≤s→Qgc (fun r'=>∃ t,(QaF c t)∧r'=Qaf t) c (s:Int) t.1 t.2.1 t.2.2 x1 x3 x4:=by
  intro x1 m0 k
  induction k with
  | zero =>
   intro t s x3 x4 ht h1 h2 h3
   refine Qrk (fun r'=>∃ t,(QaF c t)∧r'=Qaf t) c _ _ _ _ _ _ _ ⟨fun h=>by simp at h;omega,fun _=>?_⟩
   rw [List.take_length,List.take_length,List.take_length]
   exact k4 x1 x3 x4 m0 (by omega) (by omega) (by omega) (x1.length+1) t 0 [] ht (by omega) rfl
  | succ k ih =>
   intro t s x3 x4 ht h1 h2 h3
   have b5:=QqF t 3 ht
   have b6:=(Yj (ZU t 3).2 3 b5).2.2.2
   refine Qrk (fun r'=>∃ t,(QaF c t)∧r'=Qaf t) c _ _ _ _ _ _ _ ⟨fun _=>⟨⟨ht,⟨.inl rfl,by rw [Q9];omega⟩⟩,fun _=>⟨⟨b5,⟨.inl rfl,by rw [Q9];omega⟩⟩,?_⟩,fun _=>?_⟩,fun h=>by simp at h;omega⟩
   ·rw [sc1 (by omega),List.take_length (l:=x1)]
    exact ih (Qp (ZU t 3).2 3).2 (s+1) _ _ b6 (by omega) (by simp;omega) (by simp;omega)
   ·rw [sc1 (by omega),List.take_length (l:=x1)]
    exact ih (ZU t 3).2 (s+1) _ _ b5 (by omega) (by simp;omega) (by simp;omega)
 exact k2 _ hl ((Qbm (ZA c).2 (ZA c).1).1.length+1) _ 0 [] [] b4.2.2 (by omega) rfl (by simp)
theorem QRu (c:((List Int) × Int × Int)) (hp:QN c):QaF c (QV c):=(Classical.epsilon_spec (Qyi c hp)).1
theorem QKY (c:((List Int) × Int × Int)) (hp:QN c):TCon Tryz.prog 143 [(.bx [(.c (.sl [(.int .u8)]) c.1),(.c TI c.2.1),(.c TI c.2.2)])] (Qaf (QV c)):=(Classical.epsilon_spec (Qyi c hp)).2
theorem QM4:Qi Tryz.prog Qmb:=Qm fun x h=>QKY x.1 h
def Jy (t:QM × (List Qr) × (((List Int) × Int × Int))):TRes:=⟨(.tp [(.a (Tup.cells ZL t.1)),(zcs QJ t.2.1)]),[],[[(zcs [(.int .u8)] t.2.2.1),(zci t.2.2.2.1),(zci t.2.2.2.2)]],true,[]⟩
def Qe7 (x0:((List Int) × Int × Int)):QM × (List Qr) × (((List Int) × Int × Int)):=Classical.epsilon fun t:QM × (List Qr) × (((List Int) × Int × Int))=>(Qg2 x0 t)∧TCon Tryz.prog 68 [(.bx [(.c (.sl [(.int .u8)]) x0.1),(.c TI x0.2.1),(.c TI x0.2.2)])] (Jy t)
def QlB:TRow:=Qj 68 [(.b [(.sl [(.int .u8)]),TI,TI])] fun x=>(some (QN x.1),Jy (Qe7 x.1))
def QZo:List TRow:=[Qmb,JH,Qn2,Qb8,Qk4]
def QL8:TCode :=
 (zsq [(.reg [zop 2 (.new 30 (z0s ZL)),zmv 3 (.k (.n QJ))]),(.reg [zmv 7 0,zca 8 143 [7],zmv 6 8,zex 9 6 0,zex 10 6 1,zop 4 (.new 30 (z0s ZL)),zst 4 9 6,zmv 5 10]),(zsq [(.reg [zmv 11 0,zca 12 108 [11,(zki 16)]]),(.block 0 (zsq [(.reg [zbi 14 .eql 12 (zki 0),zmv 13 14]),(.cond 13 (.reg [zmv 15 0,zca 16 144 [15],zfa 17 4 0,zst 17 16 1]) (zsq [(.reg [zbi 19 .eql 12 (zki 1),zmv 18 19]),(.cond 18 (.draw [zfa 20 4 1,zld 21 20 1,zmv 22 0,zca 23 108 [22,(zki 8)],zop 24 (.bsl 3 [TI] [23]),zop 25 (.app 21 24 3 [TI]),zfa 26 4 1,zst 26 25 1] [(0,3),(1,3),(0,4),(1,4)]) (zsq [(.reg [zbi 28 .eql 12 (zki 2),zmv 27 28]),(.cond 27 (.reg [zmv 29 0,zop 30 (.bsl 3 [TI] [(zki 0),(zki 3)]),zca 31 145 [29,30],zfa 32 4 2,zst 32 31 1]) (zsq [(.reg [zbi 34 .eql 12 (zki 3),zmv 33 34]),(.cond 33 (.reg [zfa 35 4 3,zld 36 35 1,zfa 37 4 3,zld 38 37 1,zle 39 38,zbi 40 .sub 39 (zki 1),zop 41 (.slc 36 none (some 40) [.bool]),zfa 42 4 3,zst 42 41 1]) (zsq [(.reg [zbi 44 .eql 12 (zki 4),zmv 43 44]),(.cond 43 (zsq [(.reg [zfa 45 4 4,zld 46 45 1,zle 47 46,zbi 48 .gtr 47 (zki 0)]),(.cond 48 (.draw [zfa 49 4 4,zld 50 49 1,zmv 51 0,zop 52 (.bsl 3 [TI] [(zki 0),(zki 5),(zki 6)]),zca 53 145 [51,52],zia 54 50 (zki 0) [TI],zst 54 53 1] [(0,3),(1,3),(0,4),(1,4)]) .skip)]) (zsq [(.reg [zbi 56 .eql 12 (zki 5),zmv 55 56]),(.cond 55 (.draw [zfa 57 4 5,zld 58 57 1,zmv 59 0,zfa 60 4 5,zld 61 60 1,zia 62 61 (zki 0) [TI],zld 63 62 1,zbi 64 .sub 63 (zki 1),zop 65 (.bsl 3 [TI] [64,(zki 100000),(zki 100001),(zki 0)]),zca 66 145 [59,65],zia 67 58 (zki 0) [TI],zst 67 66 1] [(0,8),(1,8),(0,9),(1,9)]) (zsq [(.reg [zbi 69 .eql 12 (zki 6),zmv 68 69]),(.cond 68 (.reg [zmv 70 0,zfa 71 4 0,zLd 72 71 1,zca 73 146 [70,72],zmv 5 73]) (zsq [(.reg [zbi 75 .eql 12 (zki 7),zmv 74 75]),(.cond 74 (.reg [zfa 76 4 5,zld 77 76 1,zop 78 (.slc 77 (some (zki 1)) none [TI]),zfa 79 4 5,zst 79 78 1]) .skip)]))]))]))]))]))]))]))]))]),(.reg [zLd 80 4 6,zmv 81 5,zst 2 80 6,zmv 3 81]),.ret])
def QIV:List (ARv × Md):=[(.l 2 6 true,.b (zds 6)),(.t 3,.one .d)]
theorem QKE (c:((List Int) × Int × Int)) (h :
 let z1:=Qp ((QV c).2.2) (16:Int)
 let z2:=List.take ((((QV c).1).2.2.2.2.1).length) (List.drop 0 (((QV c).1).2.2.2.2.1))
 let z3:=List.take ((((QV c).1).2.2.2.1).length) (List.drop 0 (((QV c).1).2.2.2.1))
 let z4:=List.take ((((QV c).1).2.2.2.2.2).length) (List.drop 0 (((QV c).1).2.2.2.2.2))
 let z5:=List.take ((((QV c).1).2.1).length) (List.drop 0 (((QV c).1).2.1))
 let z7:=Int.toNat (0:Int)
 let z6:=gtd (0:Int) (((QV c).1).2.2.2.2.2) (0+z7)
 ((QN c)∧((Zo ((QV c).2.2) (16:Int))∧(zif ((z1.1)==(0:Int)) ((QN (z1.2))∧K (Jy (((QjQ (z1.2)).1,z5,((QV c).1).2.2.1,z3,z2,z4),(QV c).2.1,((QjQ (z1.2)).2)))) (zif ((z1.1)==(1:Int)) (((Zo (z1.2) (8:Int))∧(((((QV c).1).2.1).length=(((QV c).1).2.1).length∨(((QV c).1).2.1).length+1≤(((QV c).1).2.1).length)∧(((QV c).1).2.1).length+1≤big))∧K (Jy ((((QV c).1).1,(List.take ((((QV c).1).2.1).length+1) (List.drop 0 ((List.take ((((QV c).1).2.1).length) (((QV c).1).2.1))++([(Qp (z1.2) (8:Int)).1])))),((QV c).1).2.2.1,z3,z2,z4),(QV c).2.1,((Qp (z1.2) (8:Int)).2)))) (zif ((z1.1)==(2:Int)) ((Y8 (z1.2) ([(0:Int),(3:Int)]))∧K (Jy ((((QV c).1).1,z5,(ZM (z1.2) ([(0:Int),(3:Int)])).1,z3,z2,z4),(QV c).2.1,((ZM (z1.2) ([(0:Int),(3:Int)])).2)))) (zif ((z1.1)==(3:Int)) (((0:Int)≤(0:Int)∧(0:Int)≤w64 ((((((QV c).1).2.2.2.1).length:Nat):Int)-(1:Int))∧w64 ((((((QV c).1).2.2.2.1).length:Nat):Int)-(1:Int))≤(((((QV c).1).2.2.2.1).length:Nat):Int))∧K (Jy ((((QV c).1).1,z5,((QV c).1).2.2.1,(List.take (Int.toNat (w64 ((((((QV c).1).2.2.2.1).length:Nat):Int)-(1:Int)))-Int.toNat (0:Int)) (List.drop 0 (((QV c).1).2.2.2.1))),z2,z4),(QV c).2.1,(z1.2)))) (zif ((z1.1)==(4:Int)) (zif (decide ((((((QV c).1).2.2.2.2.1).length:Nat):Int)>(0:Int))) (((Y8 (z1.2) ([(0:Int),(5:Int),(6:Int)]))∧(((0:Int)≤(0:Int)∧Int.toNat (0:Int)<(((QV c).1).2.2.2.2.1).length)∧((0+z7)<(((QV c).1).2.2.2.2.1).length)))∧K (Jy ((((QV c).1).1,z5,((QV c).1).2.2.1,z3,(List.take ((((QV c).1).2.2.2.2.1).length) (List.drop 0 ((((QV c).1).2.2.2.2.1).set (0+z7) ((ZM (z1.2) ([(0:Int),(5:Int),(6:Int)])).1)))),z4),(QV c).2.1,((ZM (z1.2) ([(0:Int),(5:Int),(6:Int)])).2)))) (K (Jy ((((QV c).1).1,z5,((QV c).1).2.2.1,z3,z2,z4),(QV c).2.1,(z1.2))))) (zif ((z1.1)==(5:Int)) ((((0:Int)≤(0:Int)∧Int.toNat (0:Int)<(((QV c).1).2.2.2.2.2).length)∧(((0+z7)<(((QV c).1).2.2.2.2.2).length)∧((Y8 (z1.2) ([w64 (z6-(1:Int)),(100000:Int),(100001:Int),(0:Int)]))∧(((0:Int)≤(0:Int)∧Int.toNat (0:Int)<(((QV c).1).2.2.2.2.2).length)∧((0+z7)<(((QV c).1).2.2.2.2.2).length)))))∧K (Jy ((((QV c).1).1,z5,((QV c).1).2.2.1,z3,z2,(List.take ((((QV c).1).2.2.2.2.2).length) (List.drop 0 ((((QV c).1).2.2.2.2.2).set (0+z7) ((ZM (z1.2) ([w64 (z6-(1:Int)),(100000:Int),(100001:Int),(0:Int)])).1))))),(QV c).2.1,((ZM (z1.2) ([w64 (z6-(1:Int)),(100000:Int),(100001:Int),(0:Int)])).2)))) (zif ((z1.1)==(6:Int)) ((Zo (z1.2) (((QV c).1).1))∧K (Jy ((((QV c).1).1,z5,((QV c).1).2.2.1,z3,z2,z4),(Qhj (z1.2) (((QV c).1).1)).1,((Qhj (z1.2) (((QV c).1).1)).2)))) (zif ((z1.1)==(7:Int)) (((0:Int)≤(1:Int)∧(1:Int)≤(((((QV c).1).2.2.2.2.2).length:Nat):Int)∧(((((QV c).1).2.2.2.2.2).length:Nat):Int)≤(((((QV c).1).2.2.2.2.2).length:Nat):Int))∧K (Jy ((((QV c).1).1,z5,((QV c).1).2.2.1,z3,z2,(List.take (Int.toNat (((((QV c).1).2.2.2.2.2).length:Nat):Int)-Int.toNat (1:Int)) (List.drop (0+Int.toNat (1:Int)) (((QV c).1).2.2.2.2.2)))),(QV c).2.1,(z1.2)))) (K (Jy ((((QV c).1).1,z5,((QV c).1).2.2.1,z3,z2,z4),(QV c).2.1,(z1.2))))))))))))))):Hold (tawp QZo (1+0) QL8 (TQ 1 0 QIV K) (Qh [(.bx [(.c (.sl [(.int .u8)]) c.1),(.c TI c.2.1),(.c TI c.2.2)])])) :=
 Hold.of (by kernel_rfl) h
theorem Qus (c:((List Int) × Int × Int)) (hp:QN c):∃ t:QM × (List Qr) × (((List Int) × Int × Int)),(Qg2 c t)∧TCon Tryz.prog 68 [(.bx [(.c (.sl [(.int .u8)]) c.1),(.c TI c.2.1),(.c TI c.2.2)])] (Jy t):=by
 refine YT (tcx (n:=82) (sg:=QlB.sg) Ql (TOk.cons QM4 (TOk.cons Qaa (TOk.cons QVr (TOk.cons QeO (TOk.cons QPO TOk.nil))))) (by kernel_rfl) (by kernel_rfl) (QKE (fun r'=>∃ t,(Qg2 c t)∧r'=Jy t) c ?_))
 conv=>zeta
 have hc:QN c:=hp
 have b1:=QRu c hc
 obtain ⟨h1,h2,h3,h4,h5,h6,h7⟩:=b1
 have b2:=(Yj (QV c).2.2 16 h7).2.2.2
 refine ⟨hc,h7,?_⟩
 refine ⟨fun _=>⟨b2,Ze (by simp;omega)⟩,fun _=>?_⟩
 refine ⟨fun _=>⟨⟨b2,.inl rfl,by rw [Q9];omega⟩,Ze (by simp;omega)⟩,fun _=>?_⟩
 refine ⟨fun _=>⟨⟨b2,by simp,by simp⟩,Ze (by simp;omega)⟩,fun _=>?_⟩
 refine ⟨fun _=>⟨?_,Ze (by simp;omega)⟩,fun _=>?_⟩
 ·rw [Qt (by omega) (by omega)];omega
 refine ⟨fun _=>⟨fun hh=>⟨⟨⟨b2,by simp,by simp⟩,⟨by omega,by simpa using hh⟩,by simpa using hh⟩,Ze (by simp;omega)⟩,fun _=>Ze (by simp;omega)⟩,fun _=>?_⟩
 refine ⟨fun _=>⟨⟨⟨by omega,by simp;omega⟩,by simp;omega,⟨b2,by simp,by simp⟩,⟨by omega,by simp;omega⟩,by simp;omega⟩,Ze (by simp;omega)⟩,fun _=>?_⟩
 refine ⟨fun _=>⟨b2,Ze (by simp;omega)⟩,fun _=>?_⟩
 exact ⟨fun _=>⟨by omega,Ze (by simp;omega)⟩,fun _=>Ze (by simp;omega)⟩
theorem QNc (c:((List Int) × Int × Int)) (hp:QN c):Qg2 c (Qe7 c):=(Classical.epsilon_spec (Qus c hp)).1
theorem QQ0 (c:((List Int) × Int × Int)) (hp:QN c):TCon Tryz.prog 68 [(.bx [(.c (.sl [(.int .u8)]) c.1),(.c TI c.2.1),(.c TI c.2.2)])] (Jy (Qe7 c)):=(Classical.epsilon_spec (Qus c hp)).2
theorem QHq:Qi Tryz.prog QlB:=Qm fun x h=>QQ0 x.1 h
def QeQ (t:QM × (List Qr)):TRes:=zra (.tp [(.a (Tup.cells ZL t.1)),(zcs QJ t.2)])
def QaT (x0:List Int):QM × (List Qr):=Classical.epsilon fun t:QM × (List Qr)=>(QlV x0 t)∧TCon Tryz.prog 14 [(.c (.sl [(.int .u8)]) x0)] (QeQ t)
def QpN:TRow:=Qj 14 [(.c (.sl [(.int .u8)]))] fun x=>(some (Qaq x.1),QeQ (QaT x.1))
def QOM:List TRow:=[Qox,QlB]
def QKC:TCode :=
 (zsq [(.reg [zop 2 (.new 30 (z0s ZL)),zmv 3 (.k (.n QJ))]),(.reg [zmv 4 0,zca 5 69 [4],zca 6 68 [5],zex 7 6 0,zex 8 6 1,zst 2 7 6,zmv 3 8]),.ret])
def QRo:List (ARv × Md):=[(.l 2 6 true,.b (zds 6)),(.t 3,.one .d)]
theorem QVP (code:List Int) (h :
 (((Qaq code)∧(QN (Qep code)))∧K (QeQ (((Qe7 (Qep code)).1),(Qe7 (Qep code)).2.1)))):Hold (tawp QOM (0+0) QKC (TQ 0 0 QRo K) (Qh [(.c (.sl [(.int .u8)]) code)])) :=
 Hold.of (by kernel_rfl) h
theorem QFy (code:List Int) (hp:Qaq code):∃ t:QM × (List Qr),(QlV code t)∧TCon Tryz.prog 14 [(.c (.sl [(.int .u8)]) code)] (QeQ t):=by
 refine YT (tcx (n:=9) (sg:=QpN.sg) Ql (TOk.cons QUw (TOk.cons QHq TOk.nil)) (by kernel_rfl) (by kernel_rfl) (QVP (fun r'=>∃ t,(QlV code t)∧r'=QeQ t) code ?_))
 exact ⟨⟨hp,QEm code hp⟩,Ze (QNc _ (QEm code hp))⟩
theorem QRB (code:List Int) (hp:Qaq code):TCon Tryz.prog 14 [(.c (.sl [(.int .u8)]) code)] (QeQ (QaT code)):=(Classical.epsilon_spec (QFy code hp)).2
theorem QTW:Qi Tryz.prog QpN:=Qm fun x h=>QRB x.1 h
end
end Go.Proofs.YtjbdljkhbglnhaaGreat.Am

