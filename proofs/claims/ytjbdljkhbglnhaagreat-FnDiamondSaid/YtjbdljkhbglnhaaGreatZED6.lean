/- -/
import Derived.Test.YtjbdljkhbglnhaaGreatZED1
import Derived.Test.YtjbdljkhbglnhaaGreatZEP4
import Derived.Test.YtjbdljkhbglnhaaGreatZED2
import Derived.Test.YtjbdljkhbglnhaaGreatZED4
import Derived.Test.YtjbdljkhbglnhaaGreatZEP6
import Derived.Test.YtjbdljkhbglnhaaGreatZEG9
namespace Go.Proofs.YtjbdljkhbglnhaaGreat.Am
open Go Go.RowKit Go.Proofs.YtjbdljkhbglnhaaGreat
set_option linter.all false
set_option maxHeartbeats 2000000
noncomputable section
variable (K:TRes→Prop)
def Qbu (t:(List Qt) × (((List Int) × Int × Int))):TRes:=⟨(.r QG 0 0 ((t.1).length)),[(.sl 108 QG true t.1)],[[(zcs [(.int .u8)] t.2.1),(zci t.2.2.1),(zci t.2.2.2)]],true,[]⟩
def ZT (x0:((List Int) × Int × Int)) (x1:List TOp'):(List Qt) × (((List Int) × Int × Int)):=Classical.epsilon fun t:(List Qt) × (((List Int) × Int × Int))=>(Qcr x0 x1 t)∧TCon Tryz.prog 200 [(.bx [(.c (.sl [(.int .u8)]) x0.1),(.c TI x0.2.1),(.c TI x0.2.2)]),(.a [(.c (.sl ctOp) x1)])] (Qbu t)
def QhY:TRow:=Qk 200 [(.b [(.sl [(.int .u8)]),TI,TI]),(.a [(.sl ctOp)])] fun x=>(some (Zq x.1 x.2.1),Qbu (ZT x.1 x.2.1))
def QqK:List TRow:=[JK,Qg6,Qfs,QgG]
def QDp:TCode :=
 (zsq [(zsq [(.reg [zmv 11 6,zbi 12 .gtr 11 (zki 0)]),(.cond 12 .skip (.exit 0))]),(.block 1 (.draw [zmv 15 5,zmv 16 0,zLd 17 3 1,zca 18 153 [17],zca 19 105 [16,18],zmv 20 0,zLd 21 3 1,zca 22 154 [21],zca 23 105 [20,22],zop 24 (.build (z0s QG) [(0,1,19),(1,1,23)]),zop 25 (.bsl 108 QG [24]),zop 26 (.app 15 25 108 QG),zmv 5 26] [(3,6),(4,6)])),(.reg [zmv 13 6,zbi 14 .sub 13 (zki 1),zmv 6 14])])
def QzT:List (Nat × Md):=[(0,.b [.d,.d,.d]),(3,.b [.d]),(5,.one .f),(6,.one .d)]
def QrL:TCode :=
 (zsq [(.reg [zmv 27 5,zmv 4 27]),.ret])
def QNS:TCode :=
 (zsq [(.reg [zop 3 (.box 26 1 1),zmv 4 (.k (.n QG))]),(.reg [zop 7 (.bsl 108 QG []),zmv 5 7]),(zsq [(.reg [zmv 8 0,zca 9 108 [8,(zki 4)],zbi 10 .add (zki 1) 9,zmv 6 10]),(.block 0 (.loop QzT QDp))]),QrL])
def QxG:List (ARv × Md):=[(.t 4,.one (.o 108))]
def QB0:Qb:=TQ 1 0 QxG K
def QOV:Qb:=Qseq (tawp QqK 1 QrL (QB0 K)) (QB0 K)
def QGf:Qb:=Qblk 0 (QOV K)
def Qij (m:List TOp') (n:Int) (c0:List Int) (c1:Int) (c2:Int) (b:List Qt):Prop:=Loop QqK 1 QzT QDp (QGf K) ⟨[(0,(.p 0 0 0)),(3,(.p 1 0 0)),(5,(.r QG 2 0 b.length)),(6,(zci n))],[(0,(.box [(zcs [(.int .u8)] c0),(zci c1),(zci c2)])),(1,(.box [(zcs ctOp m)])),(2,(.sl 108 QG true b))],3⟩
theorem QD7 (m:List TOp') (n:Int) (c0:List Int) (c1:Int) (c2:Int) (b:List Qt) (h :
 (zif (decide (n>(0:Int))) (((JF (c0,c1,c2) (Q6 m))∧((JF ((Yt (c0,c1,c2) (Q6 m)).2) (Q5 m))∧((b.length=b.length∨b.length+1≤b.length)∧b.length+1≤big)))∧(Qij K m (w64 (n-(1:Int))) (((Yt ((Yt (c0,c1,c2) (Q6 m)).2) (Q5 m)).2).1) (((Yt ((Yt (c0,c1,c2) (Q6 m)).2) (Q5 m)).2).2.1) (((Yt ((Yt (c0,c1,c2) (Q6 m)).2) (Q5 m)).2).2.2) (List.take (b.length+1) ((List.take b.length b)++([((List.take (((Yt (c0,c1,c2) (Q6 m)).1).length) (List.drop 0 ((Yt (c0,c1,c2) (Q6 m)).1))),(List.take (((Yt ((Yt (c0,c1,c2) (Q6 m)).2) (Q5 m)).1).length) (List.drop 0 ((Yt ((Yt (c0,c1,c2) (Q6 m)).2) (Q5 m)).1))))]))))) (K (Qbu ((List.take b.length b),(c0,c1,c2)))))):Qij K m n c0 c1 c2 b :=
 Loop.of (by kernel_rfl) h
theorem QKc (c:((List Int) × Int × Int)) (m:List TOp') (h :
 ((Zq c (4:Int))∧(Qij K m (w64 ((1:Int)+((Qp c (4:Int)).1))) (((Qp c (4:Int)).2).1) (((Qp c (4:Int)).2).2.1) (((Qp c (4:Int)).2).2.2) ([]:List Qt)))):Hold (tawp QqK (1+0) QNS (TQ 1 0 QxG K) (Qg [(.bx [(.c (.sl [(.int .u8)]) c.1),(.c TI c.2.1),(.c TI c.2.2)]),(.a [(.c (.sl ctOp) m)])])) :=
 Hold.of (by kernel_rfl) h
theorem Qtc (c:((List Int) × Int × Int)) (m:List TOp') (hp:Zq c m):∃ t:(List Qt) × (((List Int) × Int × Int)),(Qcr c m t)∧TCon Tryz.prog 200 [(.bx [(.c (.sl [(.int .u8)]) c.1),(.c TI c.2.1),(.c TI c.2.2)]),(.a [(.c (.sl ctOp) m)])] (Qbu t):=by
 refine YT (tcx (n:=28) (sg:=QhY.sg) Qm (TOk.cons Qak (TOk.cons Qsw (TOk.cons QkI (TOk.cons QsH TOk.nil)))) (by kernel_rfl) (by kernel_rfl) (QKc (fun r'=>∃ t,(Qcr c m t)∧r'=Qbu t) c m ?_))
 have hc:QM c:=hp
 have b1:=Yq c 4 hc
 have h1:=b1.1
 have h2:=b1.2.1 (by omega)
 rw [Qr (x:=1+_) (by omega) (by omega)]
 have hi:Q6 m≤6:=by
  unfold Q6
  split
  ·rename_i hm
   exact (QdC (Qp1 hm (by have:=Ym hm;omega))).2.1
  ·omega
 have ho:Q5 m≤6:=by
  unfold Q5
  split
  ·rename_i hm
   exact (QdC (Qp1 hm (by have:=Ym hm;omega))).2.2.2
  ·omega
 refine ⟨hc,?_⟩
 have key:∀ (k:Nat) (t:TCur) (b:List Qt),QM t→b.length+k≤4→1≤b.length+k→Qij (fun r'=>∃ t,(Qcr c m t)∧r'=Qbu t) m (k:Int) t.1 t.2.1 t.2.2 b:=by
  intro k
  induction k with
  | zero =>
   intro t b hc k1 k2
   refine QD7 (fun r'=>∃ t,(Qcr c m t)∧r'=Qbu t) m _ _ _ _ _ ⟨fun h=>by simp at h,fun _=>Zg ⟨?_,?_,hc⟩⟩
   ·simp only [List.take_length];omega
   ·simp only [List.take_length];omega
  | succ k ih =>
   intro t b hc k1 k2
   have hv:JF t (Q6 m):=⟨hc,by omega⟩
   have b2:=QeM _ _ hv
   have hv2:JF (Yt t (Q6 m)).2 (Q5 m):=⟨b2.2.2,by omega⟩
   have b3:=QeM _ _ hv2
   refine QD7 (fun r'=>∃ t,(Qcr c m t)∧r'=Qbu t) m _ _ _ _ _ ⟨fun _=>⟨⟨hv,hv2,⟨.inl rfl,by rw [Q9];omega⟩⟩,?_⟩,fun h=>by simp at h <;> omega⟩
   rw [Q8,Qr (x:=((k+1:Nat):Int)-1) (by omega) (by omega),show ((k+1:Nat):Int)-1=k by omega]
   exact ih _ _ b3.2.2 (by simp;omega) (by simp;omega)
 have h:=key (1+(Qp c 4).1).toNat (Qp c 4).2 [] b1.2.2.2 (by simp;omega) (by simp;omega)
 rw [Int.toNat_of_nonneg (by omega)] at h
 exact h
theorem QDo (c:((List Int) × Int × Int)) (m:List TOp') (hp:Zq c m):Qcr c m (ZT c m):=(Classical.epsilon_spec (Qtc c m hp)).1
theorem QJf (c:((List Int) × Int × Int)) (m:List TOp') (hp:Zq c m):TCon Tryz.prog 200 [(.bx [(.c (.sl [(.int .u8)]) c.1),(.c TI c.2.1),(.c TI c.2.2)]),(.a [(.c (.sl ctOp) m)])] (Qbu (ZT c m)):=(Classical.epsilon_spec (Qtc c m hp)).2
theorem QsO:Qj Tryz.prog QhY:=Qn fun x h=>QJf x.1 x.2.1 h
def J4 (t:(List Qt) × (((List Int) × Int × Int))):TRes:=⟨(zcs QG t.1),[],[[(zcs [(.int .u8)] t.2.1),(zci t.2.2.1),(zci t.2.2.2)]],true,[]⟩
def Qj1 (x0:((List Int) × Int × Int)) (x1:List TOp'):(List Qt) × (((List Int) × Int × Int)):=Classical.epsilon fun t:(List Qt) × (((List Int) × Int × Int))=>(QdG x0 x1 t)∧TCon Tryz.prog 146 [(.bx [(.c (.sl [(.int .u8)]) x0.1),(.c TI x0.2.1),(.c TI x0.2.2)]),(.a [(.c (.sl ctOp) x1)])] (J4 t)
def QlG:TRow:=Qk 146 [(.b [(.sl [(.int .u8)]),TI,TI]),(.a [(.sl ctOp)])] fun x=>(some (Zq x.1 x.2.1),J4 (Qj1 x.1 x.2.1))
def Qma:List TRow:=[QhY,JK,QoF]
def QtE:TCode :=
 (zsq [(zsq [(.reg [zmv 23 5,zle 24 23,zmv 25 0,zca 26 108 [25,(zki 2)],zbi 27 .add (zki 5) 26,zbi 28 .lss 24 27]),(.cond 28 .skip (.exit 1))]),(.block 2 (.reg [zmv 29 5,zmv 30 5,zia 31 30 (zki 0) QG,zLd 32 31 2,zop 33 (.bsl 108 QG [32]),zop 34 (.app 29 33 108 QG),zmv 5 34]))])
def Quj:List (Nat × Md):=[(0,.b [.d,.d,.d]),(5,.one .f)]
def QuL:TCode :=
 (zsq [(.reg [zmv 35 5,zmv 4 35]),.ret])
def QIE:TCode :=
 (zsq [(.reg [zop 3 (.box 26 1 1),zmv 4 (.k (.n QG))]),(.reg [zmv 6 0,zLd 7 3 1,zca 8 200 [6,7],zmv 5 8]),(zsq [(.reg [zmv 9 0,zca 10 108 [9,(zki 16)]]),(.block 0 (zsq [(.reg [zbi 12 .eql 10 (zki 0),zmv 11 12]),(.cond 11 (zsq [(.reg [zop 13 (.bsl 108 QG []),zmv 4 13]),.ret]) (zsq [(.reg [zbi 15 .eql 10 (zki 1),zmv 14 15]),(.cond 14 (.reg [zmv 16 5,zmv 17 0,zca 18 107 [17],zia 19 16 (zki 0) QG,zfa 20 19 0,zst 20 18 1]) (zsq [(.reg [zbi 22 .eql 10 (zki 2),zmv 21 22]),(.cond 21 (.block 1 (.loop Quj QtE)) .skip)]))]))]))]),QuL])
def QrO:List (ARv × Md):=[(.t 4,.one .d)]
def Qvx:Qb:=TQ 1 0 QrO K
def QLd:Qb:=Qseq (tawp Qma 1 QuL (Qvx K)) (Qvx K)
def QXH:Qb:=Qblk 0 (QLd K)
def QLE:Qb:=Qblk 1 (QXH K)
def Qi0 (c0:List Int) (c1:Int) (c2:Int) (b:List Qt):Prop:=Loop Qma 1 Quj QtE (QLE K) ⟨[(0,(.p 0 0 0)),(5,(.r QG 1 0 b.length))],[(0,(.box [(zcs [(.int .u8)] c0),(zci c1),(zci c2)])),(1,(.sl 108 QG true b))],2⟩
theorem QAw (c0:List Int) (c1:Int) (c2:Int) (b:List Qt) (h :
 ((Zq (c0,c1,c2) (2:Int))∧(zif (decide (((b.length:Nat):Int)<(w64 ((5:Int)+((Qp (c0,c1,c2) (2:Int)).1))))) ((((0:Int)≤(0:Int)∧Int.toNat (0:Int)<b.length)∧(((0+(Int.toNat (0:Int)))<b.length)∧((b.length=b.length∨b.length+1≤b.length)∧b.length+1≤big)))∧(Qi0 K (((Qp (c0,c1,c2) (2:Int)).2).1) (((Qp (c0,c1,c2) (2:Int)).2).2.1) (((Qp (c0,c1,c2) (2:Int)).2).2.2) (List.take (b.length+1) ((List.take b.length b)++([(gtd QY b (0+(Int.toNat (0:Int))))]))))) (K (J4 ((List.take b.length (List.drop 0 b)),((Qp (c0,c1,c2) (2:Int)).2))))))):Qi0 K c0 c1 c2 b :=
 Loop.of (by kernel_rfl) h
theorem QQR (c:((List Int) × Int × Int)) (m:List TOp') (h :
 ((Zq c m)∧((Zq ((ZT c m).2) (16:Int))∧(zif (((Qp ((ZT c m).2) (16:Int)).1)==(0:Int)) (K (J4 (([]:List Qt),((Qp ((ZT c m).2) (16:Int)).2)))) (zif (((Qp ((ZT c m).2) (16:Int)).1)==(1:Int)) (((QM ((Qp ((ZT c m).2) (16:Int)).2))∧(((0:Int)≤(0:Int)∧Int.toNat (0:Int)<((ZT c m).1).length)∧((0+(Int.toNat (0:Int)))<((ZT c m).1).length)))∧K (J4 ((List.take (((ZT c m).1).length) (List.drop 0 (((ZT c m).1).set (0+(Int.toNat (0:Int))) ((Qgg ((Qp ((ZT c m).2) (16:Int)).2)).1,(gtd QY ((ZT c m).1) (0+(Int.toNat (0:Int)))).2)))),((Qgg ((Qp ((ZT c m).2) (16:Int)).2)).2)))) (zif (((Qp ((ZT c m).2) (16:Int)).1)==(2:Int)) (Qi0 K (((Qp ((ZT c m).2) (16:Int)).2).1) (((Qp ((ZT c m).2) (16:Int)).2).2.1) (((Qp ((ZT c m).2) (16:Int)).2).2.2) (List.take (((ZT c m).1).length) ((ZT c m).1))) (K (J4 ((List.take (((ZT c m).1).length) (List.drop 0 ((ZT c m).1))),((Qp ((ZT c m).2) (16:Int)).2)))))))))):Hold (tawp Qma (1+0) QIE (TQ 1 0 QrO K) (Qg [(.bx [(.c (.sl [(.int .u8)]) c.1),(.c TI c.2.1),(.c TI c.2.2)]),(.a [(.c (.sl ctOp) m)])])) :=
 Hold.of (by kernel_rfl) h
theorem QWX (c:((List Int) × Int × Int)) (m:List TOp') (hp:Zq c m):∃ t:(List Qt) × (((List Int) × Int × Int)),(QdG c m t)∧TCon Tryz.prog 146 [(.bx [(.c (.sl [(.int .u8)]) c.1),(.c TI c.2.1),(.c TI c.2.2)]),(.a [(.c (.sl ctOp) m)])] (J4 t):=by
 refine YT (tcx (n:=36) (sg:=QlG.sg) Qm (TOk.cons QsO (TOk.cons Qak (TOk.cons QPE TOk.nil))) (by kernel_rfl) (by kernel_rfl) (QQR (fun r'=>∃ t,(QdG c m t)∧r'=J4 t) c m ?_))
 have hc:QM c:=hp
 have b1:=QDo c m hc
 generalize ZT c m=r1 at b1 ⊢
 obtain ⟨k1,k2,k3⟩:=b1
 have b3:=(Yq r1.2 16 k3).2.2.2
 generalize Qp r1.2 16=r3 at b3 ⊢
 refine ⟨hc,k3,fun _=>Zg ⟨by simp,b3⟩,fun _=>⟨fun _=>⟨⟨b3,⟨by omega,by simp;omega⟩,by simp;omega⟩,Zg ⟨by simp;omega,(QJX _ b3).2⟩⟩,fun _=>⟨fun _=>?_,fun _=>Zg ⟨by simp;omega,b3⟩⟩⟩⟩
 rw [List.take_length]
 have key:∀ (k:Nat) (t:TCur) (b:List Qt),QM t→1≤b.length→b.length+k=6→Qi0 (fun r'=>∃ t,(QdG c m t)∧r'=J4 t) t.1 t.2.1 t.2.2 b:=by
  intro k
  induction k with
  | zero =>
   intro t b hc q1 q2
   have b2:=Yq t 2 hc
   have q3:=b2.1
   have q4:=b2.2.1 (by omega)
   have hw:w64 (5+(Qp t 2).1)=5+(Qp t 2).1:=Qr (by omega) (by omega)
   refine QAw (fun r'=>∃ t,(QdG c m t)∧r'=J4 t) _ _ _ _ ⟨hc,fun h=>?_,fun _=>Zg ⟨by simp;omega,b2.2.2.2⟩⟩
   have h:=of_decide_eq_true h
   have h':(b.length:Int)<w64 (5+(Qp t 2).1):=h
   rw [hw] at h'
   omega
  | succ k ih =>
   intro t b hc q1 q2
   have b2:=Yq t 2 hc
   refine QAw (fun r'=>∃ t,(QdG c m t)∧r'=J4 t) _ _ _ _ ⟨hc,fun _=>?_,fun _=>Zg ⟨by simp;omega,b2.2.2.2⟩⟩
   refine ⟨⟨⟨by omega,by simp;omega⟩,by simp;omega,.inl rfl,by rw [Q9];omega⟩,?_⟩
   rw [Q8]
   exact ih _ _ b2.2.2.2 (by simp) (by simp;omega)
 exact key (6-r1.1.length) _ _ b3 k1 (by omega)
theorem QUm (c:((List Int) × Int × Int)) (m:List TOp') (hp:Zq c m):TCon Tryz.prog 146 [(.bx [(.c (.sl [(.int .u8)]) c.1),(.c TI c.2.1),(.c TI c.2.2)]),(.a [(.c (.sl ctOp) m)])] (J4 (Qj1 c m)):=(Classical.epsilon_spec (QWX c m hp)).2
theorem QPv:Qj Tryz.prog QlG:=Qn fun x h=>QUm x.1 x.2.1 h
def Qae (t:QN × (List Qt) × (((List Int) × Int × Int))):TRes:=⟨(.tp [(.a [(zcs ctOp t.1.1),(.r [TI] 0 0 ((t.1.2.1).length)),(zci t.1.2.2.1),(.r [.bool] 1 0 ((t.1.2.2.2.1).length)),(.r [TI] 2 0 ((t.1.2.2.2.2.1).length)),(.r [TI] 3 0 ((t.1.2.2.2.2.2).length))]),(zcs QG t.2.1)]),[(.sl 3 [TI] true t.1.2.1),(.sl 4 [.bool] true t.1.2.2.2.1),(.sl 3 [TI] true t.1.2.2.2.2.1),(.sl 3 [TI] true t.1.2.2.2.2.2)],[[(zcs [(.int .u8)] t.2.2.1),(zci t.2.2.2.1),(zci t.2.2.2.2)]],true,[]⟩
def QV (x0:((List Int) × Int × Int)):QN × (List Qt) × (((List Int) × Int × Int)):=Classical.epsilon fun t:QN × (List Qt) × (((List Int) × Int × Int))=>(Qa0 x0 t)∧TCon Tryz.prog 143 [(.bx [(.c (.sl [(.int .u8)]) x0.1),(.c TI x0.2.1),(.c TI x0.2.2)])] (Qae t)
def QnA:TRow:=Qk 143 [(.b [(.sl [(.int .u8)]),TI,TI])] fun x=>(some (QM x.1),Qae (QV x.1))
def QfV:List TRow:=[Qgx,QpN,JK,QhY,QfG,Qkd,Qcg]
def Qx8:TCode :=
 (zsq [(zsq [(.reg [zmv 22 7,zfa 23 5 1,zld 24 23 1,zle 25 24,zbi 26 .leq 22 25]),(.cond 26 .skip (.exit 0))]),(.block 1 (zsq [(.draw [zfa 29 5 3,zld 30 29 1,zmv 31 0,zca 32 106 [31,(zki 3)],zop 33 (.bsl 4 [.bool] [32]),zop 34 (.app 30 33 4 [.bool]),zfa 35 5 3,zst 35 34 1] [(0,3),(1,3),(0,4),(1,4)]),(.reg [zmv 36 7,zbi 37 .gtr 36 (zki 0)]),(.cond 37 (.draw [zfa 38 5 4,zld 39 38 1,zmv 40 0,zca 41 108 [40,(zki 3)],zbi 42 .add (zki 1) 41,zop 43 (.bsl 3 [TI] [42]),zop 44 (.app 39 43 3 [TI]),zfa 45 5 4,zst 45 44 1] [(0,3),(1,3),(0,5),(1,5)]) .skip)])),(.reg [zmv 27 7,zbi 28 .add 27 (zki 1),zmv 7 28])])
def Qyq:List (Nat × Md):=[(0,.b [.d,.d,.d]),(2,.b (zds 6)),(5,.b [.d,.f,.d,.o 4,.o 3,.o 3]),(6,.one .d),(7,.one .d)]
def Qvz:TCode :=
 (zsq [(zsq [(.reg [zmv 46 8,zfa 47 5 1,zld 48 47 1,zle 49 48,zbi 50 .leq 46 49]),(.cond 50 .skip (.exit 2))]),(.block 3 (.draw [zfa 53 5 5,zld 54 53 1,zLd 55 5 6,zmv 56 8,zmv 57 6,zle 58 57,zca 59 78 [55,56,58],zmv 60 0,zop 61 (.bsl 3 [TI] [(zki 0),(zki 0),(zki 7)]),zca 62 145 [60,61],zbi 63 .add 59 62,zop 64 (.bsl 3 [TI] [63]),zop 65 (.app 54 64 3 [TI]),zfa 66 5 5,zst 66 65 1] [(0,6),(1,6),(0,8),(1,8),(2,8),(5,8),(6,8),(0,9),(1,9),(0,11),(1,11)])),(.reg [zmv 51 8,zbi 52 .add 51 (zki 1),zmv 8 52])])
def Qyo:List (Nat × Md):=[(0,.b [.d,.d,.d]),(2,.b (zds 6)),(5,.b [.d,.f,.d,.f,.f,.f]),(6,.one .d),(8,.one .d)]
def Qz8:TCode :=
 (zsq [(.reg [zLd 67 5 6,zmv 68 6,zst 2 67 6,zmv 3 68]),.ret])
def QxR:TCode :=
 (zsq [(zsq [(.reg [zmv 8 (zki 0)]),(.block 2 (.loop Qyo Qvz))]),Qz8])
def QLX:TCode :=
 (zsq [(.reg [zop 2 (.new 30 (z0s ZL)),zmv 3 (.k (.n QG))]),(.reg [zmv 9 0,zca 10 198 [9],zop 4 (.new 26 [(.n ctOp)]),zst 4 10 1]),(.draw [zLd 11 4 1,zmv 12 0,zLd 13 4 1,zca 14 199 [12,13],zmv 15 0,zca 16 108 [15,(zki 2)],zbi 17 .add (zki 1) 16,zop 18 (.build (z0s ZL) [(0,1,11),(1,1,14),(2,1,17)]),zop 5 (.new 30 (z0s ZL)),zst 5 18 6] [(0,3),(0,5),(0,8),(2,8),(3,8),(5,8)]),(.reg [zmv 19 0,zLd 20 4 1,zca 21 200 [19,20],zmv 6 21]),(zsq [(.reg [zmv 7 (zki 0)]),(.block 0 (.loop Qyq Qx8))]),QxR])
def Qso:List (ARv × Md):=[(.l 2 6 true,.b [.d,.o 3,.d,.o 4,.o 3,.o 3]),(.t 3,.one .d)]
def QhR:Qb:=TQ 1 0 Qso K
def QKw:Qb:=Qseq (tawp QfV 1 Qz8 (QhR K)) (QhR K)
def QJ2:Qb:=Qblk 2 (QKw K)
def QhP (c:((List Int) × Int × Int)) (s1:Int) (c01:List Int) (c11:Int) (c21:Int) (x11:List Int) (x31:List Bool) (x41:List Int) (x5:List Int):Prop:=let z1:=List.take (((ZC c).1).length) (List.drop 0 ((ZC c).1))
 let z2:=Qp ((Qa7 ((ZC c).2) z1).2) (2:Int)
 Loop QfV 1 Qyo Qvz (QJ2 K) ⟨[(0,(.p 0 0 0)),(2,(.p 1 0 0)),(5,(.p 6 0 0)),(6,(zcs QG (List.take (((ZT (z2.2) z1).1).length) (List.drop 0 ((ZT (z2.2) z1).1))))),(8,(zci s1))],[(0,(.box [(zcs [(.int .u8)] c01),(zci c11),(zci c21)])),(1,(.box (Tup.cells ZL ([],[],(0:Int),[],[],[])))),(2,(.sl 3 [TI] true x11)),(3,(.sl 4 [.bool] true x31)),(4,(.sl 3 [TI] true x41)),(5,(.sl 3 [TI] true x5)),(6,(.box [(zcs ctOp z1),(.r [TI] 2 0 x11.length),(zci (w64 ((1:Int)+(z2.1)))),(.r [.bool] 3 0 x31.length),(.r [TI] 4 0 x41.length),(.r [TI] 5 0 x5.length)]))],7⟩
def QRl:Qb:=Qseq (tawp QfV 1 QxR (QhR K)) (QhR K)
def QVj:Qb:=Qblk 0 (QRl K)
def QfH (c:((List Int) × Int × Int)) (s:Int) (c0:List Int) (c1:Int) (c2:Int) (x1:List Int) (x3:List Bool) (x4:List Int):Prop:=let z1:=List.take (((ZC c).1).length) (List.drop 0 ((ZC c).1))
 let z2:=Qp ((Qa7 ((ZC c).2) z1).2) (2:Int)
 Loop QfV 1 Qyq Qx8 (QVj K) ⟨[(0,(.p 0 0 0)),(2,(.p 1 0 0)),(5,(.p 6 0 0)),(6,(zcs QG (List.take (((ZT (z2.2) z1).1).length) (List.drop 0 ((ZT (z2.2) z1).1))))),(7,(zci s))],[(0,(.box [(zcs [(.int .u8)] c0),(zci c1),(zci c2)])),(1,(.box (Tup.cells ZL ([],[],(0:Int),[],[],[])))),(2,(.sl 3 [TI] true x1)),(3,(.sl 4 [.bool] true x3)),(4,(.sl 3 [TI] true x4)),(5,(.sl 3 [TI] true ([]:List Int))),(6,(.box [(zcs ctOp z1),(.r [TI] 2 0 x1.length),(zci (w64 ((1:Int)+(z2.1)))),(.r [.bool] 3 0 x3.length),(.r [TI] 4 0 x4.length),(.r [TI] 5 0 0)]))],7⟩
theorem Qt5 (c:((List Int) × Int × Int)) (s1:Int) (c01:List Int) (c11:Int) (c21:Int) (x11:List Int) (x31:List Bool) (x41:List Int) (x5:List Int) (h :
 let z1:=List.take (((ZC c).1).length) (List.drop 0 ((ZC c).1))
 let z2:=Qp ((Qa7 ((ZC c).2) z1).2) (2:Int)
 let z3:=List.take (((ZT (z2.2) z1).1).length) (List.drop 0 ((ZT (z2.2) z1).1))
 (zif (decide (s1≤((x11.length:Nat):Int))) (((Ja (c01,c11,c21) ([(0:Int),(0:Int),(7:Int)]))∧((x5.length=x5.length∨x5.length+1≤x5.length)∧x5.length+1≤big))∧(QhP K c (w64 (s1+(1:Int))) (((ZN (c01,c11,c21) ([(0:Int),(0:Int),(7:Int)])).2).1) (((ZN (c01,c11,c21) ([(0:Int),(0:Int),(7:Int)])).2).2.1) (((ZN (c01,c11,c21) ([(0:Int),(0:Int),(7:Int)])).2).2.2) (List.take x11.length x11) (List.take x31.length x31) (List.take x41.length x41) (List.take (x5.length+1) ((List.take x5.length x5)++([w64 ((Qaz (z1,(List.take x11.length (List.drop 0 x11)),w64 ((1:Int)+(z2.1)),(List.take x31.length (List.drop 0 x31)),(List.take x41.length (List.drop 0 x41)),(List.take x5.length (List.drop 0 x5))) s1 (z3.length:Int))+((ZN (c01,c11,c21) ([(0:Int),(0:Int),(7:Int)])).1))]))))) (K (Qae ((z1,(List.take x11.length x11),w64 ((1:Int)+(z2.1)),(List.take x31.length x31),(List.take x41.length x41),(List.take x5.length x5)),z3,(c01,c11,c21)))))):QhP K c s1 c01 c11 c21 x11 x31 x41 x5 :=
 Loop.of (by kernel_rfl) h
theorem QAh (c:((List Int) × Int × Int)) (s:Int) (c0:List Int) (c1:Int) (c2:Int) (x1:List Int) (x3:List Bool) (x4:List Int) (h :
 (zif (decide (s≤((x1.length:Nat):Int))) (((Zq (c0,c1,c2) (3:Int))∧((x3.length=x3.length∨x3.length+1≤x3.length)∧x3.length+1≤big))∧(zif (decide (s>(0:Int))) (((Zq ((ZW (c0,c1,c2) (3:Int)).2) (3:Int))∧((x4.length=x4.length∨x4.length+1≤x4.length)∧x4.length+1≤big))∧(QfH K c (w64 (s+(1:Int))) (((Qp ((ZW (c0,c1,c2) (3:Int)).2) (3:Int)).2).1) (((Qp ((ZW (c0,c1,c2) (3:Int)).2) (3:Int)).2).2.1) (((Qp ((ZW (c0,c1,c2) (3:Int)).2) (3:Int)).2).2.2) (List.take x1.length x1) (List.take (x3.length+1) ((List.take x3.length x3)++([(ZW (c0,c1,c2) (3:Int)).1]))) (List.take (x4.length+1) ((List.take x4.length x4)++([w64 ((1:Int)+((Qp ((ZW (c0,c1,c2) (3:Int)).2) (3:Int)).1))]))))) (QfH K c (w64 (s+(1:Int))) (((ZW (c0,c1,c2) (3:Int)).2).1) (((ZW (c0,c1,c2) (3:Int)).2).2.1) (((ZW (c0,c1,c2) (3:Int)).2).2.2) (List.take x1.length x1) (List.take (x3.length+1) ((List.take x3.length x3)++([(ZW (c0,c1,c2) (3:Int)).1]))) (List.take x4.length x4)))) (QhP K c 0 c0 c1 c2 (List.take x1.length x1) (List.take x3.length x3) (List.take x4.length x4) ([]:List Int)))):QfH K c s c0 c1 c2 x1 x3 x4 :=
 Loop.of (by kernel_rfl) h
theorem QLb (c:((List Int) × Int × Int)) (h :
 let z1:=List.take (((ZC c).1).length) (List.drop 0 ((ZC c).1))
 let z2:=Qa7 ((ZC c).2) z1
 let z3:=ZT ((Qp (z2.2) (2:Int)).2) z1
 ((QM c)∧(((QdL ((ZC c).2) z1)∧(Zq (z2.2) (2:Int)))∧((Zq ((Qp (z2.2) (2:Int)).2) z1)∧(QfH K c 0 ((z3.2).1) ((z3.2).2.1) ((z3.2).2.2) (List.take ((z2.1).length) (z2.1)) ([]:List Bool) ([]:List Int)))))):Hold (tawp QfV (1+0) QLX (TQ 1 0 Qso K) (Qg [(.bx [(.c (.sl [(.int .u8)]) c.1),(.c TI c.2.1),(.c TI c.2.2)])])) :=
 Hold.of (by kernel_rfl) h
theorem QxP (c:((List Int) × Int × Int)) (hp:QM c):∃ t:QN × (List Qt) × (((List Int) × Int × Int)),(Qa0 c t)∧TCon Tryz.prog 143 [(.bx [(.c (.sl [(.int .u8)]) c.1),(.c TI c.2.1),(.c TI c.2.2)])] (Qae t):=by
 refine YT (tcx (n:=69) (sg:=QnA.sg) Qm (TOk.cons QwR (TOk.cons QS0 (TOk.cons Qak (TOk.cons QsO (TOk.cons QlJ (TOk.cons Qrp (TOk.cons QeG TOk.nil))))))) (by kernel_rfl) (by kernel_rfl) (QLb (fun r'=>∃ t,(Qa0 c t)∧r'=Qae t) c ?_))
 conv=>zeta
 have hc:QM c:=hp
 have b1:=QC8 c hc
 simp only [List.drop_zero,List.take_length]
 have hcu:QdL (ZC c).2 (ZC c).1:=⟨b1.2.2,by have:=b1.2.1;omega⟩
 have b2:=QVh _ _ hcu
 have b3:=(Yq (Qa7 (ZC c).2 (ZC c).1).2 2 b2.2.2).2.2.2
 have b4:=QDo _ (ZC c).1 b3
 have hl:=b2.2.1
 refine ⟨hc,⟨hcu,b2.2.2⟩,b3,?_⟩
 have k4:∀ (x11:List Int) (x31:List Bool) (x41:List Int),x11.length≤3→1≤x31.length→x31.length≤4→x41.length≤4→∀ (k:Nat) (t:TCur) (s1:Nat) (x5:List Int),QM t→s1+k=x11.length+1→x5.length=s1→QhP (fun r'=>∃ t,(Qa0 c t)∧r'=Qae t) c (s1:Int) t.1 t.2.1 t.2.2 x11 x31 x41 x5:=by
  intro x11 x31 x41 m0 m1 m2 m3 k
  induction k with
  | zero =>
   intro t s1 x5 ht h1 h2
   refine Qt5 (fun r'=>∃ t,(Qa0 c t)∧r'=Qae t) c _ _ _ _ _ _ _ _ ⟨fun h=>by simp at h;omega,fun _=>Zg ⟨?_,?_,?_,?_,?_,?_,ht⟩⟩
   all_goals (simp;omega)
  | succ k ih =>
   intro t s1 x5 ht h1 h2
   have hpk:Ja t [0,0,7]:=⟨ht,by simp,by simp⟩
   refine Qt5 (fun r'=>∃ t,(Qa0 c t)∧r'=Qae t) c _ _ _ _ _ _ _ _ ⟨fun _=>⟨⟨hpk,⟨.inl rfl,by rw [Q9];omega⟩⟩,?_⟩,fun h=>by simp at h;omega⟩
   rw [sc1 (by omega),List.take_length,List.take_length,List.take_length]
   exact ih (ZN t [0,0,7]).2 (s1+1) _ (Qei _ _ hpk).2 (by omega) (by simp;omega)
 have k2:∀ (x1:List Int),x1.length≤3→∀ (k:Nat) (t:TCur) (s:Nat) (x3:List Bool) (x4:List Int),QM t→s+k=x1.length+1→x3.length=s→x4.length≤s→QfH (fun r'=>∃ t,(Qa0 c t)∧r'=Qae t) c (s:Int) t.1 t.2.1 t.2.2 x1 x3 x4:=by
  intro x1 m0 k
  induction k with
  | zero =>
   intro t s x3 x4 ht h1 h2 h3
   refine QAh (fun r'=>∃ t,(Qa0 c t)∧r'=Qae t) c _ _ _ _ _ _ _ ⟨fun h=>by simp at h;omega,fun _=>?_⟩
   rw [List.take_length,List.take_length,List.take_length]
   exact k4 x1 x3 x4 m0 (by omega) (by omega) (by omega) (x1.length+1) t 0 [] ht (by omega) rfl
  | succ k ih =>
   intro t s x3 x4 ht h1 h2 h3
   have b5:=Qqi t 3 ht
   have b6:=(Yq (ZW t 3).2 3 b5).2.2.2
   refine QAh (fun r'=>∃ t,(Qa0 c t)∧r'=Qae t) c _ _ _ _ _ _ _ ⟨fun _=>⟨⟨ht,⟨.inl rfl,by rw [Q9];omega⟩⟩,fun _=>⟨⟨b5,⟨.inl rfl,by rw [Q9];omega⟩⟩,?_⟩,fun _=>?_⟩,fun h=>by simp at h;omega⟩
   ·rw [sc1 (by omega),List.take_length (l:=x1)]
    exact ih (Qp (ZW t 3).2 3).2 (s+1) _ _ b6 (by omega) (by simp;omega) (by simp;omega)
   ·rw [sc1 (by omega),List.take_length (l:=x1)]
    exact ih (ZW t 3).2 (s+1) _ _ b5 (by omega) (by simp;omega) (by simp;omega)
 exact k2 _ hl ((Qa7 (ZC c).2 (ZC c).1).1.length+1) _ 0 [] [] b4.2.2 (by omega) rfl (by simp)
theorem QGB (c:((List Int) × Int × Int)) (hp:QM c):Qa0 c (QV c):=(Classical.epsilon_spec (QxP c hp)).1
theorem QMN (c:((List Int) × Int × Int)) (hp:QM c):TCon Tryz.prog 143 [(.bx [(.c (.sl [(.int .u8)]) c.1),(.c TI c.2.1),(.c TI c.2.2)])] (Qae (QV c)):=(Classical.epsilon_spec (QxP c hp)).2
theorem QRC:Qj Tryz.prog QnA:=Qn fun x h=>QMN x.1 h
def Jx (t:QN × (List Qt) × (((List Int) × Int × Int))):TRes:=⟨(.tp [(.a (Tup.cells ZL t.1)),(zcs QG t.2.1)]),[],[[(zcs [(.int .u8)] t.2.2.1),(zci t.2.2.2.1),(zci t.2.2.2.2)]],true,[]⟩
def QfR (x0:((List Int) × Int × Int)):QN × (List Qt) × (((List Int) × Int × Int)):=Classical.epsilon fun t:QN × (List Qt) × (((List Int) × Int × Int))=>(Qkr x0 t)∧TCon Tryz.prog 68 [(.bx [(.c (.sl [(.int .u8)]) x0.1),(.c TI x0.2.1),(.c TI x0.2.2)])] (Jx t)
def Qm1:TRow:=Qk 68 [(.b [(.sl [(.int .u8)]),TI,TI])] fun x=>(some (QM x.1),Jx (QfR x.1))
def QYB:List TRow:=[QnA,JK,Qqk,Qcg,QlG]
def QJy:TCode :=
 (zsq [(.reg [zop 2 (.new 30 (z0s ZL)),zmv 3 (.k (.n QG))]),(.reg [zmv 7 0,zca 8 143 [7],zmv 6 8,zex 9 6 0,zex 10 6 1,zop 4 (.new 30 (z0s ZL)),zst 4 9 6,zmv 5 10]),(zsq [(.reg [zmv 11 0,zca 12 108 [11,(zki 16)]]),(.block 0 (zsq [(.reg [zbi 14 .eql 12 (zki 0),zmv 13 14]),(.cond 13 (.reg [zmv 15 0,zca 16 144 [15],zfa 17 4 0,zst 17 16 1]) (zsq [(.reg [zbi 19 .eql 12 (zki 1),zmv 18 19]),(.cond 18 (.draw [zfa 20 4 1,zld 21 20 1,zmv 22 0,zca 23 108 [22,(zki 8)],zop 24 (.bsl 3 [TI] [23]),zop 25 (.app 21 24 3 [TI]),zfa 26 4 1,zst 26 25 1] [(0,3),(1,3),(0,4),(1,4)]) (zsq [(.reg [zbi 28 .eql 12 (zki 2),zmv 27 28]),(.cond 27 (.reg [zmv 29 0,zop 30 (.bsl 3 [TI] [(zki 0),(zki 3)]),zca 31 145 [29,30],zfa 32 4 2,zst 32 31 1]) (zsq [(.reg [zbi 34 .eql 12 (zki 3),zmv 33 34]),(.cond 33 (.reg [zfa 35 4 3,zld 36 35 1,zfa 37 4 3,zld 38 37 1,zle 39 38,zbi 40 .sub 39 (zki 1),zop 41 (.slc 36 none (some 40) [.bool]),zfa 42 4 3,zst 42 41 1]) (zsq [(.reg [zbi 44 .eql 12 (zki 4),zmv 43 44]),(.cond 43 (zsq [(.reg [zfa 45 4 4,zld 46 45 1,zle 47 46,zbi 48 .gtr 47 (zki 0)]),(.cond 48 (.draw [zfa 49 4 4,zld 50 49 1,zmv 51 0,zop 52 (.bsl 3 [TI] [(zki 0),(zki 5),(zki 6)]),zca 53 145 [51,52],zia 54 50 (zki 0) [TI],zst 54 53 1] [(0,3),(1,3),(0,4),(1,4)]) .skip)]) (zsq [(.reg [zbi 56 .eql 12 (zki 5),zmv 55 56]),(.cond 55 (.draw [zfa 57 4 5,zld 58 57 1,zmv 59 0,zfa 60 4 5,zld 61 60 1,zia 62 61 (zki 0) [TI],zld 63 62 1,zbi 64 .sub 63 (zki 1),zop 65 (.bsl 3 [TI] [64,(zki 100000),(zki 100001),(zki 0)]),zca 66 145 [59,65],zia 67 58 (zki 0) [TI],zst 67 66 1] [(0,8),(1,8),(0,9),(1,9)]) (zsq [(.reg [zbi 69 .eql 12 (zki 6),zmv 68 69]),(.cond 68 (.reg [zmv 70 0,zfa 71 4 0,zLd 72 71 1,zca 73 146 [70,72],zmv 5 73]) (zsq [(.reg [zbi 75 .eql 12 (zki 7),zmv 74 75]),(.cond 74 (.reg [zfa 76 4 5,zld 77 76 1,zop 78 (.slc 77 (some (zki 1)) none [TI]),zfa 79 4 5,zst 79 78 1]) .skip)]))]))]))]))]))]))]))]))]),(.reg [zLd 80 4 6,zmv 81 5,zst 2 80 6,zmv 3 81]),.ret])
def QSk:List (ARv × Md):=[(.l 2 6 true,.b (zds 6)),(.t 3,.one .d)]
theorem QF6 (c:((List Int) × Int × Int)) (h :
 let z1:=Qp ((QV c).2.2) (16:Int)
 let z2:=List.take ((((QV c).1).2.2.2.2.1).length) (List.drop 0 (((QV c).1).2.2.2.2.1))
 let z3:=List.take ((((QV c).1).2.2.2.1).length) (List.drop 0 (((QV c).1).2.2.2.1))
 let z4:=List.take ((((QV c).1).2.2.2.2.2).length) (List.drop 0 (((QV c).1).2.2.2.2.2))
 let z5:=List.take ((((QV c).1).2.1).length) (List.drop 0 (((QV c).1).2.1))
 let z7:=Int.toNat (0:Int)
 let z6:=gtd (0:Int) (((QV c).1).2.2.2.2.2) (0+z7)
 ((QM c)∧((Zq ((QV c).2.2) (16:Int))∧(zif ((z1.1)==(0:Int)) ((QM (z1.2))∧K (Jx (((QhI (z1.2)).1,z5,((QV c).1).2.2.1,z3,z2,z4),(QV c).2.1,((QhI (z1.2)).2)))) (zif ((z1.1)==(1:Int)) (((Zq (z1.2) (8:Int))∧(((((QV c).1).2.1).length=(((QV c).1).2.1).length∨(((QV c).1).2.1).length+1≤(((QV c).1).2.1).length)∧(((QV c).1).2.1).length+1≤big))∧K (Jx ((((QV c).1).1,(List.take ((((QV c).1).2.1).length+1) (List.drop 0 ((List.take ((((QV c).1).2.1).length) (((QV c).1).2.1))++([(Qp (z1.2) (8:Int)).1])))),((QV c).1).2.2.1,z3,z2,z4),(QV c).2.1,((Qp (z1.2) (8:Int)).2)))) (zif ((z1.1)==(2:Int)) ((Ja (z1.2) ([(0:Int),(3:Int)]))∧K (Jx ((((QV c).1).1,z5,(ZN (z1.2) ([(0:Int),(3:Int)])).1,z3,z2,z4),(QV c).2.1,((ZN (z1.2) ([(0:Int),(3:Int)])).2)))) (zif ((z1.1)==(3:Int)) (((0:Int)≤(0:Int)∧(0:Int)≤w64 ((((((QV c).1).2.2.2.1).length:Nat):Int)-(1:Int))∧w64 ((((((QV c).1).2.2.2.1).length:Nat):Int)-(1:Int))≤(((((QV c).1).2.2.2.1).length:Nat):Int))∧K (Jx ((((QV c).1).1,z5,((QV c).1).2.2.1,(List.take (Int.toNat (w64 ((((((QV c).1).2.2.2.1).length:Nat):Int)-(1:Int)))-Int.toNat (0:Int)) (List.drop 0 (((QV c).1).2.2.2.1))),z2,z4),(QV c).2.1,(z1.2)))) (zif ((z1.1)==(4:Int)) (zif (decide ((((((QV c).1).2.2.2.2.1).length:Nat):Int)>(0:Int))) (((Ja (z1.2) ([(0:Int),(5:Int),(6:Int)]))∧(((0:Int)≤(0:Int)∧Int.toNat (0:Int)<(((QV c).1).2.2.2.2.1).length)∧((0+z7)<(((QV c).1).2.2.2.2.1).length)))∧K (Jx ((((QV c).1).1,z5,((QV c).1).2.2.1,z3,(List.take ((((QV c).1).2.2.2.2.1).length) (List.drop 0 ((((QV c).1).2.2.2.2.1).set (0+z7) ((ZN (z1.2) ([(0:Int),(5:Int),(6:Int)])).1)))),z4),(QV c).2.1,((ZN (z1.2) ([(0:Int),(5:Int),(6:Int)])).2)))) (K (Jx ((((QV c).1).1,z5,((QV c).1).2.2.1,z3,z2,z4),(QV c).2.1,(z1.2))))) (zif ((z1.1)==(5:Int)) ((((0:Int)≤(0:Int)∧Int.toNat (0:Int)<(((QV c).1).2.2.2.2.2).length)∧(((0+z7)<(((QV c).1).2.2.2.2.2).length)∧((Ja (z1.2) ([w64 (z6-(1:Int)),(100000:Int),(100001:Int),(0:Int)]))∧(((0:Int)≤(0:Int)∧Int.toNat (0:Int)<(((QV c).1).2.2.2.2.2).length)∧((0+z7)<(((QV c).1).2.2.2.2.2).length)))))∧K (Jx ((((QV c).1).1,z5,((QV c).1).2.2.1,z3,z2,(List.take ((((QV c).1).2.2.2.2.2).length) (List.drop 0 ((((QV c).1).2.2.2.2.2).set (0+z7) ((ZN (z1.2) ([w64 (z6-(1:Int)),(100000:Int),(100001:Int),(0:Int)])).1))))),(QV c).2.1,((ZN (z1.2) ([w64 (z6-(1:Int)),(100000:Int),(100001:Int),(0:Int)])).2)))) (zif ((z1.1)==(6:Int)) ((Zq (z1.2) (((QV c).1).1))∧K (Jx ((((QV c).1).1,z5,((QV c).1).2.2.1,z3,z2,z4),(Qj1 (z1.2) (((QV c).1).1)).1,((Qj1 (z1.2) (((QV c).1).1)).2)))) (zif ((z1.1)==(7:Int)) (((0:Int)≤(1:Int)∧(1:Int)≤(((((QV c).1).2.2.2.2.2).length:Nat):Int)∧(((((QV c).1).2.2.2.2.2).length:Nat):Int)≤(((((QV c).1).2.2.2.2.2).length:Nat):Int))∧K (Jx ((((QV c).1).1,z5,((QV c).1).2.2.1,z3,z2,(List.take (Int.toNat (((((QV c).1).2.2.2.2.2).length:Nat):Int)-Int.toNat (1:Int)) (List.drop (0+Int.toNat (1:Int)) (((QV c).1).2.2.2.2.2)))),(QV c).2.1,(z1.2)))) (K (Jx ((((QV c).1).1,z5,((QV c).1).2.2.1,z3,z2,z4),(QV c).2.1,(z1.2))))))))))))))):Hold (tawp QYB (1+0) QJy (TQ 1 0 QSk K) (Qg [(.bx [(.c (.sl [(.int .u8)]) c.1),(.c TI c.2.1),(.c TI c.2.2)])])) :=
 Hold.of (by kernel_rfl) h
theorem QCT (c:((List Int) × Int × Int)) (hp:QM c):∃ t:QN × (List Qt) × (((List Int) × Int × Int)),(Qkr c t)∧TCon Tryz.prog 68 [(.bx [(.c (.sl [(.int .u8)]) c.1),(.c TI c.2.1),(.c TI c.2.2)])] (Jx t):=by
 refine YT (tcx (n:=82) (sg:=Qm1.sg) Qm (TOk.cons QRC (TOk.cons Qak (TOk.cons QTM (TOk.cons QeG (TOk.cons QPv TOk.nil))))) (by kernel_rfl) (by kernel_rfl) (QF6 (fun r'=>∃ t,(Qkr c t)∧r'=Jx t) c ?_))
 conv=>zeta
 have hc:QM c:=hp
 have b1:=QGB c hc
 obtain ⟨h1,h2,h3,h4,h5,h6,h7⟩:=b1
 have b2:=(Yq (QV c).2.2 16 h7).2.2.2
 refine ⟨hc,h7,?_⟩
 refine ⟨fun _=>⟨b2,Zg (by simp;omega)⟩,fun _=>?_⟩
 refine ⟨fun _=>⟨⟨b2,.inl rfl,by rw [Q9];omega⟩,Zg (by simp;omega)⟩,fun _=>?_⟩
 refine ⟨fun _=>⟨⟨b2,by simp,by simp⟩,Zg (by simp;omega)⟩,fun _=>?_⟩
 refine ⟨fun _=>⟨?_,Zg (by simp;omega)⟩,fun _=>?_⟩
 ·rw [Qr (by omega) (by omega)];omega
 refine ⟨fun _=>⟨fun hh=>⟨⟨⟨b2,by simp,by simp⟩,⟨by omega,by simpa using hh⟩,by simpa using hh⟩,Zg (by simp;omega)⟩,fun _=>Zg (by simp;omega)⟩,fun _=>?_⟩
 refine ⟨fun _=>⟨⟨⟨by omega,by simp;omega⟩,by simp;omega,⟨b2,by simp,by simp⟩,⟨by omega,by simp;omega⟩,by simp;omega⟩,Zg (by simp;omega)⟩,fun _=>?_⟩
 refine ⟨fun _=>⟨b2,Zg (by simp;omega)⟩,fun _=>?_⟩
 exact ⟨fun _=>⟨by omega,Zg (by simp;omega)⟩,fun _=>Zg (by simp;omega)⟩
theorem QNB (c:((List Int) × Int × Int)) (hp:QM c):Qkr c (QfR c):=(Classical.epsilon_spec (QCT c hp)).1
theorem QRz (c:((List Int) × Int × Int)) (hp:QM c):TCon Tryz.prog 68 [(.bx [(.c (.sl [(.int .u8)]) c.1),(.c TI c.2.1),(.c TI c.2.2)])] (Jx (QfR c)):=(Classical.epsilon_spec (QCT c hp)).2
theorem QP5:Qj Tryz.prog Qm1:=Qn fun x h=>QRz x.1 h
def QeE (t:QN × (List Qt)):TRes:=zra (.tp [(.a (Tup.cells ZL t.1)),(zcs QG t.2)])
def Yh (x0:List Int):QN × (List Qt):=Classical.epsilon fun t:QN × (List Qt)=>(QkR x0 t)∧TCon Tryz.prog 14 [(.c (.sl [(.int .u8)]) x0)] (QeE t)
def QkM:TRow:=Qk 14 [(.c (.sl [(.int .u8)]))] fun x=>(some (J9 x.1),QeE (Yh x.1))
def QTt:List TRow:=[Qnc,Qm1]
def QMr:TCode :=
 (zsq [(.reg [zop 2 (.new 30 (z0s ZL)),zmv 3 (.k (.n QG))]),(.reg [zmv 4 0,zca 5 69 [4],zca 6 68 [5],zex 7 6 0,zex 8 6 1,zst 2 7 6,zmv 3 8]),.ret])
def QPn:List (ARv × Md):=[(.l 2 6 true,.b (zds 6)),(.t 3,.one .d)]
theorem QPh (code:List Int) (h :
 (((J9 code)∧(QM (Qeq code)))∧K (QeE (((QfR (Qeq code)).1),(QfR (Qeq code)).2.1)))):Hold (tawp QTt (0+0) QMr (TQ 0 0 QPn K) (Qg [(.c (.sl [(.int .u8)]) code)])) :=
 Hold.of (by kernel_rfl) h
theorem QSs (code:List Int) (hp:J9 code):∃ t:QN × (List Qt),(QkR code t)∧TCon Tryz.prog 14 [(.c (.sl [(.int .u8)]) code)] (QeE t):=by
 refine YT (tcx (n:=9) (sg:=QkM.sg) Qm (TOk.cons QXW (TOk.cons QP5 TOk.nil)) (by kernel_rfl) (by kernel_rfl) (QPh (fun r'=>∃ t,(QkR code t)∧r'=QeE t) code ?_))
 exact ⟨⟨hp,Qus code hp⟩,Zg (QNB _ (Qus code hp))⟩
theorem QTK (code:List Int) (hp:J9 code):TCon Tryz.prog 14 [(.c (.sl [(.int .u8)]) code)] (QeE (Yh code)):=(Classical.epsilon_spec (QSs code hp)).2
theorem QVq:Qj Tryz.prog QkM:=Qn fun x h=>QTK x.1 h
end
end Go.Proofs.YtjbdljkhbglnhaaGreat.Am

