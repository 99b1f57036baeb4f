/- -/
import Derived.Test.YtjbdljkhbglnhaaGreatZFD1
import Derived.Test.YtjbdljkhbglnhaaGreatZFP4
import Derived.Test.YtjbdljkhbglnhaaGreatZFD2
import Derived.Test.YtjbdljkhbglnhaaGreatZFD4
import Derived.Test.YtjbdljkhbglnhaaGreatZFP6
import Derived.Test.YtjbdljkhbglnhaaGreatZFG9
namespace Go.Proofs.YtjbdljkhbglnhaaGreat.Am
open Go Go.RowKit Go.Proofs.YtjbdljkhbglnhaaGreat
set_option linter.all false
set_option maxHeartbeats 2000000
noncomputable section
variable (K:TRes→Prop)
def Qbw (t:(List Qp) × (((List Int) × Int × Int))):TRes:=⟨(.r Qx 0 0 ((t.1).length)),[(.sl 108 Qx true t.1)],[[(zcs [(.int .u8)] t.2.1),(zci t.2.2.1),(zci t.2.2.2)]],true,[]⟩
def ZV (x0:((List Int) × Int × Int)) (x1:List TOp'):(List Qp) × (((List Int) × Int × Int)):=Classical.epsilon fun t:(List Qp) × (((List Int) × Int × Int))=>(Qc5 x0 x1 t)∧TCon Tryz.prog 200 [(.bx [(.c (.sl [(.int .u8)]) x0.1),(.c TI x0.2.1),(.c TI x0.2.2)]),(.a [(.c (.sl ctOp) x1)])] (Qbw t)
def QkE:TRow:=Qh 200 [(.b [(.sl [(.int .u8)]),TI,TI]),(.a [(.sl ctOp)])] fun x=>(some (Zr x.1 x.2.1),Qbw (ZV x.1 x.2.1))
def QpO:List TRow:=[JT,Qis,QfE,Qig]
def QtY:TCode :=
 (zsq [(zsq [(.reg [zmv 11 6,zbi 12 .gtr 11 (zki 0)]),(.cond 12 .skip (.exit 0))]),(.block 1 (.draw [zmv 15 5,zmv 16 0,zLd 17 3 1,zca 18 153 [17],zca 19 105 [16,18],zmv 20 0,zLd 21 3 1,zca 22 154 [21],zca 23 105 [20,22],zop 24 (.build (z0s Qx) [(0,1,19),(1,1,23)]),zop 25 (.bsl 108 Qx [24]),zop 26 (.app 15 25 108 Qx),zmv 5 26] [(3,6),(4,6)])),(.reg [zmv 13 6,zbi 14 .sub 13 (zki 1),zmv 6 14])])
def Qzm:List (Nat × Md):=[(0,.b [.d,.d,.d]),(3,.b [.d]),(5,.one .f),(6,.one .d)]
def QG0:TCode :=
 (zsq [(.reg [zmv 27 5,zmv 4 27]),.ret])
def QMU:TCode :=
 (zsq [(.reg [zop 3 (.box 26 1 1),zmv 4 (.k (.n Qx))]),(.reg [zop 7 (.bsl 108 Qx []),zmv 5 7]),(zsq [(.reg [zmv 8 0,zca 9 108 [8,(zki 4)],zbi 10 .add (zki 1) 9,zmv 6 10]),(.block 0 (.loop Qzm QtY))]),QG0])
def QCd:List (ARv × Md):=[(.t 4,.one (.o 108))]
def QDk:Qb:=TQ 1 0 QCd K
def QLw:Qb:=Qseq (tawp QpO 1 QG0 (QDk K)) (QDk K)
def Q0E:Qb:=Qblk 0 (QLw K)
def Qjw (m:List TOp') (n:Int) (c0:List Int) (c1:Int) (c2:Int) (b:List Qp):Prop:=Loop QpO 1 Qzm QtY (Q0E K) ⟨[(0,(.p 0 0 0)),(3,(.p 1 0 0)),(5,(.r Qx 2 0 b.length)),(6,(zci n))],[(0,(.box [(zcs [(.int .u8)] c0),(zci c1),(zci c2)])),(1,(.box [(zcs ctOp m)])),(2,(.sl 108 Qx true b))],3⟩
theorem QEO (m:List TOp') (n:Int) (c0:List Int) (c1:Int) (c2:Int) (b:List Qp) (h :
 (zif (decide (n>(0:Int))) (((JL (c0,c1,c2) (Za m))∧((JL ((YB (c0,c1,c2) (Za m)).2) (Q8 m))∧((b.length=b.length∨b.length+1≤b.length)∧b.length+1≤big)))∧(Qjw K m (w64 (n-(1:Int))) (((YB ((YB (c0,c1,c2) (Za m)).2) (Q8 m)).2).1) (((YB ((YB (c0,c1,c2) (Za m)).2) (Q8 m)).2).2.1) (((YB ((YB (c0,c1,c2) (Za m)).2) (Q8 m)).2).2.2) (List.take (b.length+1) ((List.take b.length b)++([((List.take (((YB (c0,c1,c2) (Za m)).1).length) (List.drop 0 ((YB (c0,c1,c2) (Za m)).1))),(List.take (((YB ((YB (c0,c1,c2) (Za m)).2) (Q8 m)).1).length) (List.drop 0 ((YB ((YB (c0,c1,c2) (Za m)).2) (Q8 m)).1))))]))))) (K (Qbw ((List.take b.length b),(c0,c1,c2)))))):Qjw K m n c0 c1 c2 b :=
 Loop.of (by kernel_rfl) h
theorem QOm (c:((List Int) × Int × Int)) (m:List TOp') (h :
 ((Zr c (4:Int))∧(Qjw K m (w64 ((1:Int)+((Qs c (4:Int)).1))) (((Qs c (4:Int)).2).1) (((Qs c (4:Int)).2).2.1) (((Qs c (4:Int)).2).2.2) ([]:List Qp)))):Hold (tawp QpO (1+0) QMU (TQ 1 0 QCd K) (Qf [(.bx [(.c (.sl [(.int .u8)]) c.1),(.c TI c.2.1),(.c TI c.2.2)]),(.a [(.c (.sl ctOp) m)])])) :=
 Hold.of (by kernel_rfl) h
theorem Qtx (c:((List Int) × Int × Int)) (m:List TOp') (hp:Zr c m):∃ t:(List Qp) × (((List Int) × Int × Int)),(Qc5 c m t)∧TCon Tryz.prog 200 [(.bx [(.c (.sl [(.int .u8)]) c.1),(.c TI c.2.1),(.c TI c.2.2)]),(.a [(.c (.sl ctOp) m)])] (Qbw t):=by
 refine Y2 (tcx (n:=28) (sg:=QkE.sg) Qj (TOk.cons Qax (TOk.cons Qwn (TOk.cons Qn0 (TOk.cons QGX TOk.nil)))) (by kernel_rfl) (by kernel_rfl) (QOm (fun r'=>∃ t,(Qc5 c m t)∧r'=Qbw t) c m ?_))
 have hc:QP c:=hp
 have b1:=Yq c 4 hc
 have h1:=b1.1
 have h2:=b1.2.1 (by omega)
 rw [Qq (x:=1+_) (by omega) (by omega)]
 have hi:Za m≤6:=by
  unfold Za
  split
  ·rename_i hm
   exact (QcC (Qlc hm (by have:=Yh hm;omega))).2.1
  ·omega
 have ho:Q8 m≤6:=by
  unfold Q8
  split
  ·rename_i hm
   exact (QcC (Qlc hm (by have:=Yh hm;omega))).2.2.2
  ·omega
 refine ⟨hc,?_⟩
 have key:∀ (k:Nat) (t:TCur) (b:List Qp),QP t→b.length+k≤4→1≤b.length+k→Qjw (fun r'=>∃ t,(Qc5 c m t)∧r'=Qbw t) m (k:Int) t.1 t.2.1 t.2.2 b:=by
  intro k
  induction k with
  | zero =>
   intro t b hc k1 k2
   refine QEO (fun r'=>∃ t,(Qc5 c m t)∧r'=Qbw t) m _ _ _ _ _ ⟨fun h=>by simp at h,fun _=>Zg ⟨?_,?_,hc⟩⟩
   ·simp only [List.take_length];omega
   ·simp only [List.take_length];omega
  | succ k ih =>
   intro t b hc k1 k2
   have hv:JL t (Za m):=⟨hc,by omega⟩
   have b2:=QfT _ _ hv
   have hv2:JL (YB t (Za m)).2 (Q8 m):=⟨b2.2.2,by omega⟩
   have b3:=QfT _ _ hv2
   refine QEO (fun r'=>∃ t,(Qc5 c m t)∧r'=Qbw t) m _ _ _ _ _ ⟨fun _=>⟨⟨hv,hv2,⟨.inl rfl,by rw [Q1];omega⟩⟩,?_⟩,fun h=>by simp at h <;> omega⟩
   rw [Q7,Qq (x:=((k+1:Nat):Int)-1) (by omega) (by omega),show ((k+1:Nat):Int)-1=k by omega]
   exact ih _ _ b3.2.2 (by simp;omega) (by simp;omega)
 have h:=key (1+(Qs c 4).1).toNat (Qs c 4).2 [] b1.2.2.2 (by simp;omega) (by simp;omega)
 rw [Int.toNat_of_nonneg (by omega)] at h
 exact h
theorem QCU (c:((List Int) × Int × Int)) (m:List TOp') (hp:Zr c m):Qc5 c m (ZV c m):=(Classical.epsilon_spec (Qtx c m hp)).1
theorem Q0s (c:((List Int) × Int × Int)) (m:List TOp') (hp:Zr c m):TCon Tryz.prog 200 [(.bx [(.c (.sl [(.int .u8)]) c.1),(.c TI c.2.1),(.c TI c.2.2)]),(.a [(.c (.sl ctOp) m)])] (Qbw (ZV c m)):=(Classical.epsilon_spec (Qtx c m hp)).2
theorem QBf:Qg Tryz.prog QkE:=Qk fun x h=>Q0s x.1 x.2.1 h
def Qau (t:(List Qp) × (((List Int) × Int × Int))):TRes:=⟨(zcs Qx t.1),[],[[(zcs [(.int .u8)] t.2.1),(zci t.2.2.1),(zci t.2.2.2)]],true,[]⟩
def Qhp (x0:((List Int) × Int × Int)) (x1:List TOp'):(List Qp) × (((List Int) × Int × Int)):=Classical.epsilon fun t:(List Qp) × (((List Int) × Int × Int))=>(Qed x0 x1 t)∧TCon Tryz.prog 146 [(.bx [(.c (.sl [(.int .u8)]) x0.1),(.c TI x0.2.1),(.c TI x0.2.2)]),(.a [(.c (.sl ctOp) x1)])] (Qau t)
def QnG:TRow:=Qh 146 [(.b [(.sl [(.int .u8)]),TI,TI]),(.a [(.sl ctOp)])] fun x=>(some (Zr x.1 x.2.1),Qau (Qhp x.1 x.2.1))
def Qmd:List TRow:=[QkE,JT,Qnc]
def Qvw:TCode :=
 (zsq [(zsq [(.reg [zmv 23 5,zle 24 23,zmv 25 0,zca 26 108 [25,(zki 2)],zbi 27 .add (zki 5) 26,zbi 28 .lss 24 27]),(.cond 28 .skip (.exit 1))]),(.block 2 (.reg [zmv 29 5,zmv 30 5,zia 31 30 (zki 0) Qx,zLd 32 31 2,zop 33 (.bsl 108 Qx [32]),zop 34 (.app 29 33 108 Qx),zmv 5 34]))])
def QBK:List (Nat × Md):=[(0,.b [.d,.d,.d]),(5,.one .f)]
def QyL:TCode :=
 (zsq [(.reg [zmv 35 5,zmv 4 35]),.ret])
def QR1:TCode :=
 (zsq [(.reg [zop 3 (.box 26 1 1),zmv 4 (.k (.n Qx))]),(.reg [zmv 6 0,zLd 7 3 1,zca 8 200 [6,7],zmv 5 8]),(zsq [(.reg [zmv 9 0,zca 10 108 [9,(zki 16)]]),(.block 0 (zsq [(.reg [zbi 12 .eql 10 (zki 0),zmv 11 12]),(.cond 11 (zsq [(.reg [zop 13 (.bsl 108 Qx []),zmv 4 13]),.ret]) (zsq [(.reg [zbi 15 .eql 10 (zki 1),zmv 14 15]),(.cond 14 (.reg [zmv 16 5,zmv 17 0,zca 18 107 [17],zia 19 16 (zki 0) Qx,zfa 20 19 0,zst 20 18 1]) (zsq [(.reg [zbi 22 .eql 10 (zki 2),zmv 21 22]),(.cond 21 (.block 1 (.loop QBK Qvw)) .skip)]))]))]))]),QyL])
def Qtp:List (ARv × Md):=[(.t 4,.one .d)]
def QBB:Qb:=TQ 1 0 Qtp K
def QR2:Qb:=Qseq (tawp Qmd 1 QyL (QBB K)) (QBB K)
def Q1V:Qb:=Qblk 0 (QR2 K)
def QMB:Qb:=Qblk 1 (Q1V K)
def QiZ (c0:List Int) (c1:Int) (c2:Int) (b:List Qp):Prop:=Loop Qmd 1 QBK Qvw (QMB K) ⟨[(0,(.p 0 0 0)),(5,(.r Qx 1 0 b.length))],[(0,(.box [(zcs [(.int .u8)] c0),(zci c1),(zci c2)])),(1,(.sl 108 Qx true b))],2⟩
theorem Qzp (c0:List Int) (c1:Int) (c2:Int) (b:List Qp) (h :
 ((Zr (c0,c1,c2) (2:Int))∧(zif (decide (((b.length:Nat):Int)<(w64 ((5:Int)+((Qs (c0,c1,c2) (2:Int)).1))))) ((((0:Int)≤(0:Int)∧Int.toNat (0:Int)<b.length)∧(((0+(Int.toNat (0:Int)))<b.length)∧((b.length=b.length∨b.length+1≤b.length)∧b.length+1≤big)))∧(QiZ K (((Qs (c0,c1,c2) (2:Int)).2).1) (((Qs (c0,c1,c2) (2:Int)).2).2.1) (((Qs (c0,c1,c2) (2:Int)).2).2.2) (List.take (b.length+1) ((List.take b.length b)++([(gtd QY b (0+(Int.toNat (0:Int))))]))))) (K (Qau ((List.take b.length (List.drop 0 b)),((Qs (c0,c1,c2) (2:Int)).2))))))):QiZ K c0 c1 c2 b :=
 Loop.of (by kernel_rfl) h
theorem QVW (c:((List Int) × Int × Int)) (m:List TOp') (h :
 ((Zr c m)∧((Zr ((ZV c m).2) (16:Int))∧(zif (((Qs ((ZV c m).2) (16:Int)).1)==(0:Int)) (K (Qau (([]:List Qp),((Qs ((ZV c m).2) (16:Int)).2)))) (zif (((Qs ((ZV c m).2) (16:Int)).1)==(1:Int)) (((QP ((Qs ((ZV c m).2) (16:Int)).2))∧(((0:Int)≤(0:Int)∧Int.toNat (0:Int)<((ZV c m).1).length)∧((0+(Int.toNat (0:Int)))<((ZV c m).1).length)))∧K (Qau ((List.take (((ZV c m).1).length) (List.drop 0 (((ZV c m).1).set (0+(Int.toNat (0:Int))) ((Qf0 ((Qs ((ZV c m).2) (16:Int)).2)).1,(gtd QY ((ZV c m).1) (0+(Int.toNat (0:Int)))).2)))),((Qf0 ((Qs ((ZV c m).2) (16:Int)).2)).2)))) (zif (((Qs ((ZV c m).2) (16:Int)).1)==(2:Int)) (QiZ K (((Qs ((ZV c m).2) (16:Int)).2).1) (((Qs ((ZV c m).2) (16:Int)).2).2.1) (((Qs ((ZV c m).2) (16:Int)).2).2.2) (List.take (((ZV c m).1).length) ((ZV c m).1))) (K (Qau ((List.take (((ZV c m).1).length) (List.drop 0 ((ZV c m).1))),((Qs ((ZV c m).2) (16:Int)).2)))))))))):Hold (tawp Qmd (1+0) QR1 (TQ 1 0 Qtp K) (Qf [(.bx [(.c (.sl [(.int .u8)]) c.1),(.c TI c.2.1),(.c TI c.2.2)]),(.a [(.c (.sl ctOp) m)])])) :=
 Hold.of (by kernel_rfl) h
theorem QRQ (c:((List Int) × Int × Int)) (m:List TOp') (hp:Zr c m):∃ t:(List Qp) × (((List Int) × Int × Int)),(Qed c m t)∧TCon Tryz.prog 146 [(.bx [(.c (.sl [(.int .u8)]) c.1),(.c TI c.2.1),(.c TI c.2.2)]),(.a [(.c (.sl ctOp) m)])] (Qau t):=by
 refine Y2 (tcx (n:=36) (sg:=QnG.sg) Qj (TOk.cons QBf (TOk.cons Qax (TOk.cons QY5 TOk.nil))) (by kernel_rfl) (by kernel_rfl) (QVW (fun r'=>∃ t,(Qed c m t)∧r'=Qau t) c m ?_))
 have hc:QP c:=hp
 have b1:=QCU c m hc
 generalize ZV c m=r1 at b1 ⊢
 obtain ⟨k1,k2,k3⟩:=b1
 have b3:=(Yq r1.2 16 k3).2.2.2
 generalize Qs r1.2 16=r3 at b3 ⊢
 refine ⟨hc,k3,fun _=>Zg ⟨by simp,b3⟩,fun _=>⟨fun _=>⟨⟨b3,⟨by omega,by simp;omega⟩,by simp;omega⟩,Zg ⟨by simp;omega,(QKU _ b3).2⟩⟩,fun _=>⟨fun _=>?_,fun _=>Zg ⟨by simp;omega,b3⟩⟩⟩⟩
 rw [List.take_length]
 have key:∀ (k:Nat) (t:TCur) (b:List Qp),QP t→1≤b.length→b.length+k=6→QiZ (fun r'=>∃ t,(Qed c m t)∧r'=Qau t) t.1 t.2.1 t.2.2 b:=by
  intro k
  induction k with
  | zero =>
   intro t b hc q1 q2
   have b2:=Yq t 2 hc
   have q3:=b2.1
   have q4:=b2.2.1 (by omega)
   have hw:w64 (5+(Qs t 2).1)=5+(Qs t 2).1:=Qq (by omega) (by omega)
   refine Qzp (fun r'=>∃ t,(Qed c m t)∧r'=Qau t) _ _ _ _ ⟨hc,fun h=>?_,fun _=>Zg ⟨by simp;omega,b2.2.2.2⟩⟩
   have h:=of_decide_eq_true h
   have h':(b.length:Int)<w64 (5+(Qs t 2).1):=h
   rw [hw] at h'
   omega
  | succ k ih =>
   intro t b hc q1 q2
   have b2:=Yq t 2 hc
   refine Qzp (fun r'=>∃ t,(Qed c m t)∧r'=Qau t) _ _ _ _ ⟨hc,fun _=>?_,fun _=>Zg ⟨by simp;omega,b2.2.2.2⟩⟩
   refine ⟨⟨⟨by omega,by simp;omega⟩,by simp;omega,.inl rfl,by rw [Q1];omega⟩,?_⟩
   rw [Q7]
   exact ih _ _ b2.2.2.2 (by simp) (by simp;omega)
 exact key (6-r1.1.length) _ _ b3 k1 (by omega)
theorem QID (c:((List Int) × Int × Int)) (m:List TOp') (hp:Zr c m):TCon Tryz.prog 146 [(.bx [(.c (.sl [(.int .u8)]) c.1),(.c TI c.2.1),(.c TI c.2.2)]),(.a [(.c (.sl ctOp) m)])] (Qau (Qhp c m)):=(Classical.epsilon_spec (QRQ c m hp)).2
theorem QSM:Qg Tryz.prog QnG:=Qk fun x h=>QID x.1 x.2.1 h
def Qar (t:QC × (List Qp) × (((List Int) × Int × Int))):TRes:=⟨(.tp [(.a [(zcs ctOp t.1.1),(.r [TI] 0 0 ((t.1.2.1).length)),(zci t.1.2.2.1),(.r [.bool] 1 0 ((t.1.2.2.2.1).length)),(.r [TI] 2 0 ((t.1.2.2.2.2.1).length)),(.r [TI] 3 0 ((t.1.2.2.2.2.2).length))]),(zcs Qx t.2.1)]),[(.sl 3 [TI] true t.1.2.1),(.sl 4 [.bool] true t.1.2.2.2.1),(.sl 3 [TI] true t.1.2.2.2.2.1),(.sl 3 [TI] true t.1.2.2.2.2.2)],[[(zcs [(.int .u8)] t.2.2.1),(zci t.2.2.2.1),(zci t.2.2.2.2)]],true,[]⟩
def QX (x0:((List Int) × Int × Int)):QC × (List Qp) × (((List Int) × Int × Int)):=Classical.epsilon fun t:QC × (List Qp) × (((List Int) × Int × Int))=>(QaS x0 t)∧TCon Tryz.prog 143 [(.bx [(.c (.sl [(.int .u8)]) x0.1),(.c TI x0.2.1),(.c TI x0.2.2)])] (Qar t)
def Qq6:TRow:=Qh 143 [(.b [(.sl [(.int .u8)]),TI,TI])] fun x=>(some (QP x.1),Qar (QX x.1))
def QgX:List TRow:=[Qkl,QmC,JT,QkE,Qgx,Qjb,Qcm]
def QD8:TCode :=
 (zsq [(zsq [(.reg [zmv 22 7,zfa 23 5 1,zld 24 23 1,zle 25 24,zbi 26 .leq 22 25]),(.cond 26 .skip (.exit 0))]),(.block 1 (zsq [(.draw [zfa 29 5 3,zld 30 29 1,zmv 31 0,zca 32 106 [31,(zki 3)],zop 33 (.bsl 4 [.bool] [32]),zop 34 (.app 30 33 4 [.bool]),zfa 35 5 3,zst 35 34 1] [(0,3),(1,3),(0,4),(1,4)]),(.reg [zmv 36 7,zbi 37 .gtr 36 (zki 0)]),(.cond 37 (.draw [zfa 38 5 4,zld 39 38 1,zmv 40 0,zca 41 108 [40,(zki 3)],zbi 42 .add (zki 1) 41,zop 43 (.bsl 3 [TI] [42]),zop 44 (.app 39 43 3 [TI]),zfa 45 5 4,zst 45 44 1] [(0,3),(1,3),(0,5),(1,5)]) .skip)])),(.reg [zmv 27 7,zbi 28 .add 27 (zki 1),zmv 7 28])])
def Qzs:List (Nat × Md):=[(0,.b [.d,.d,.d]),(2,.b (zds 6)),(5,.b [.d,.f,.d,.o 4,.o 3,.o 3]),(6,.one .d),(7,.one .d)]
def Qw7:TCode :=
 (zsq [(zsq [(.reg [zmv 46 8,zfa 47 5 1,zld 48 47 1,zle 49 48,zbi 50 .leq 46 49]),(.cond 50 .skip (.exit 2))]),(.block 3 (.draw [zfa 53 5 5,zld 54 53 1,zLd 55 5 6,zmv 56 8,zmv 57 6,zle 58 57,zca 59 78 [55,56,58],zmv 60 0,zop 61 (.bsl 3 [TI] [(zki 0),(zki 0),(zki 7)]),zca 62 145 [60,61],zbi 63 .add 59 62,zop 64 (.bsl 3 [TI] [63]),zop 65 (.app 54 64 3 [TI]),zfa 66 5 5,zst 66 65 1] [(0,6),(1,6),(0,8),(1,8),(2,8),(5,8),(6,8),(0,9),(1,9),(0,11),(1,11)])),(.reg [zmv 51 8,zbi 52 .add 51 (zki 1),zmv 8 52])])
def Qv3:List (Nat × Md):=[(0,.b [.d,.d,.d]),(2,.b (zds 6)),(5,.b [.d,.f,.d,.f,.f,.f]),(6,.one .d),(8,.one .d)]
def QGR:TCode :=
 (zsq [(.reg [zLd 67 5 6,zmv 68 6,zst 2 67 6,zmv 3 68]),.ret])
def QDq:TCode :=
 (zsq [(zsq [(.reg [zmv 8 (zki 0)]),(.block 2 (.loop Qv3 Qw7))]),QGR])
def QQC:TCode :=
 (zsq [(.reg [zop 2 (.new 30 (z0s Q0)),zmv 3 (.k (.n Qx))]),(.reg [zmv 9 0,zca 10 198 [9],zop 4 (.new 26 [(.n ctOp)]),zst 4 10 1]),(.draw [zLd 11 4 1,zmv 12 0,zLd 13 4 1,zca 14 199 [12,13],zmv 15 0,zca 16 108 [15,(zki 2)],zbi 17 .add (zki 1) 16,zop 18 (.build (z0s Q0) [(0,1,11),(1,1,14),(2,1,17)]),zop 5 (.new 30 (z0s Q0)),zst 5 18 6] [(0,3),(0,5),(0,8),(2,8),(3,8),(5,8)]),(.reg [zmv 19 0,zLd 20 4 1,zca 21 200 [19,20],zmv 6 21]),(zsq [(.reg [zmv 7 (zki 0)]),(.block 0 (.loop Qzs QD8))]),QDq])
def QvU:List (ARv × Md):=[(.l 2 6 true,.b [.d,.o 3,.d,.o 4,.o 3,.o 3]),(.t 3,.one .d)]
def QhD:Qb:=TQ 1 0 QvU K
def QJM:Qb:=Qseq (tawp QgX 1 QGR (QhD K)) (QhD K)
def QNt:Qb:=Qblk 2 (QJM K)
def QhH (c:((List Int) × Int × Int)) (s1:Int) (c01:List Int) (c11:Int) (c21:Int) (x11:List Int) (x31:List Bool) (x41:List Int) (x5:List Int):Prop:=let z1:=List.take (((ZH c).1).length) (List.drop 0 ((ZH c).1))
 let z2:=Qs ((QbF ((ZH c).2) z1).2) (2:Int)
 Loop QgX 1 Qv3 Qw7 (QNt K) ⟨[(0,(.p 0 0 0)),(2,(.p 1 0 0)),(5,(.p 6 0 0)),(6,(zcs Qx (List.take (((ZV (z2.2) z1).1).length) (List.drop 0 ((ZV (z2.2) z1).1))))),(8,(zci s1))],[(0,(.box [(zcs [(.int .u8)] c01),(zci c11),(zci c21)])),(1,(.box (Tup.cells Q0 ([],[],(0:Int),[],[],[])))),(2,(.sl 3 [TI] true x11)),(3,(.sl 4 [.bool] true x31)),(4,(.sl 3 [TI] true x41)),(5,(.sl 3 [TI] true x5)),(6,(.box [(zcs ctOp z1),(.r [TI] 2 0 x11.length),(zci (w64 ((1:Int)+(z2.1)))),(.r [.bool] 3 0 x31.length),(.r [TI] 4 0 x41.length),(.r [TI] 5 0 x5.length)]))],7⟩
def QXh:Qb:=Qseq (tawp QgX 1 QDq (QhD K)) (QhD K)
def QQR:Qb:=Qblk 0 (QXh K)
def Qfr (c:((List Int) × Int × Int)) (s:Int) (c0:List Int) (c1:Int) (c2:Int) (x1:List Int) (x3:List Bool) (x4:List Int):Prop:=let z1:=List.take (((ZH c).1).length) (List.drop 0 ((ZH c).1))
 let z2:=Qs ((QbF ((ZH c).2) z1).2) (2:Int)
 Loop QgX 1 Qzs QD8 (QQR K) ⟨[(0,(.p 0 0 0)),(2,(.p 1 0 0)),(5,(.p 6 0 0)),(6,(zcs Qx (List.take (((ZV (z2.2) z1).1).length) (List.drop 0 ((ZV (z2.2) z1).1))))),(7,(zci s))],[(0,(.box [(zcs [(.int .u8)] c0),(zci c1),(zci c2)])),(1,(.box (Tup.cells Q0 ([],[],(0:Int),[],[],[])))),(2,(.sl 3 [TI] true x1)),(3,(.sl 4 [.bool] true x3)),(4,(.sl 3 [TI] true x4)),(5,(.sl 3 [TI] true ([]:List Int))),(6,(.box [(zcs ctOp z1),(.r [TI] 2 0 x1.length),(zci (w64 ((1:Int)+(z2.1)))),(.r [.bool] 3 0 x3.length),(.r [TI] 4 0 x4.length),(.r [TI] 5 0 0)]))],7⟩
theorem Qtm (c:((List Int) × Int × Int)) (s1:Int) (c01:List Int) (c11:Int) (c21:Int) (x11:List Int) (x31:List Bool) (x41:List Int) (x5:List Int) (h :
 let z1:=List.take (((ZH c).1).length) (List.drop 0 ((ZH c).1))
 let z2:=Qs ((QbF ((ZH c).2) z1).2) (2:Int)
 let z3:=List.take (((ZV (z2.2) z1).1).length) (List.drop 0 ((ZV (z2.2) z1).1))
 (zif (decide (s1≤((x11.length:Nat):Int))) (((Jg (c01,c11,c21) ([(0:Int),(0:Int),(7:Int)]))∧((x5.length=x5.length∨x5.length+1≤x5.length)∧x5.length+1≤big))∧(QhH K c (w64 (s1+(1:Int))) (((ZR (c01,c11,c21) ([(0:Int),(0:Int),(7:Int)])).2).1) (((ZR (c01,c11,c21) ([(0:Int),(0:Int),(7:Int)])).2).2.1) (((ZR (c01,c11,c21) ([(0:Int),(0:Int),(7:Int)])).2).2.2) (List.take x11.length x11) (List.take x31.length x31) (List.take x41.length x41) (List.take (x5.length+1) ((List.take x5.length x5)++([w64 ((Y1 (z1,(List.take x11.length (List.drop 0 x11)),w64 ((1:Int)+(z2.1)),(List.take x31.length (List.drop 0 x31)),(List.take x41.length (List.drop 0 x41)),(List.take x5.length (List.drop 0 x5))) s1 (z3.length:Int))+((ZR (c01,c11,c21) ([(0:Int),(0:Int),(7:Int)])).1))]))))) (K (Qar ((z1,(List.take x11.length x11),w64 ((1:Int)+(z2.1)),(List.take x31.length x31),(List.take x41.length x41),(List.take x5.length x5)),z3,(c01,c11,c21)))))):QhH K c s1 c01 c11 c21 x11 x31 x41 x5 :=
 Loop.of (by kernel_rfl) h
theorem QBd (c:((List Int) × Int × Int)) (s:Int) (c0:List Int) (c1:Int) (c2:Int) (x1:List Int) (x3:List Bool) (x4:List Int) (h :
 (zif (decide (s≤((x1.length:Nat):Int))) (((Zr (c0,c1,c2) (3:Int))∧((x3.length=x3.length∨x3.length+1≤x3.length)∧x3.length+1≤big))∧(zif (decide (s>(0:Int))) (((Zr ((Z0 (c0,c1,c2) (3:Int)).2) (3:Int))∧((x4.length=x4.length∨x4.length+1≤x4.length)∧x4.length+1≤big))∧(Qfr K c (w64 (s+(1:Int))) (((Qs ((Z0 (c0,c1,c2) (3:Int)).2) (3:Int)).2).1) (((Qs ((Z0 (c0,c1,c2) (3:Int)).2) (3:Int)).2).2.1) (((Qs ((Z0 (c0,c1,c2) (3:Int)).2) (3:Int)).2).2.2) (List.take x1.length x1) (List.take (x3.length+1) ((List.take x3.length x3)++([(Z0 (c0,c1,c2) (3:Int)).1]))) (List.take (x4.length+1) ((List.take x4.length x4)++([w64 ((1:Int)+((Qs ((Z0 (c0,c1,c2) (3:Int)).2) (3:Int)).1))]))))) (Qfr K c (w64 (s+(1:Int))) (((Z0 (c0,c1,c2) (3:Int)).2).1) (((Z0 (c0,c1,c2) (3:Int)).2).2.1) (((Z0 (c0,c1,c2) (3:Int)).2).2.2) (List.take x1.length x1) (List.take (x3.length+1) ((List.take x3.length x3)++([(Z0 (c0,c1,c2) (3:Int)).1]))) (List.take x4.length x4)))) (QhH K c 0 c0 c1 c2 (List.take x1.length x1) (List.take x3.length x3) (List.take x4.length x4) ([]:List Int)))):Qfr K c s c0 c1 c2 x1 x3 x4 :=
 Loop.of (by kernel_rfl) h
theorem QTF (c:((List Int) × Int × Int)) (h :
 let z1:=List.take (((ZH c).1).length) (List.drop 0 ((ZH c).1))
 let z2:=QbF ((ZH c).2) z1
 let z3:=ZV ((Qs (z2.2) (2:Int)).2) z1
 ((QP c)∧(((QeY ((ZH c).2) z1)∧(Zr (z2.2) (2:Int)))∧((Zr ((Qs (z2.2) (2:Int)).2) z1)∧(Qfr K c 0 ((z3.2).1) ((z3.2).2.1) ((z3.2).2.2) (List.take ((z2.1).length) (z2.1)) ([]:List Bool) ([]:List Int)))))):Hold (tawp QgX (1+0) QQC (TQ 1 0 QvU K) (Qf [(.bx [(.c (.sl [(.int .u8)]) c.1),(.c TI c.2.1),(.c TI c.2.2)])])) :=
 Hold.of (by kernel_rfl) h
theorem QBg (c:((List Int) × Int × Int)) (hp:QP c):∃ t:QC × (List Qp) × (((List Int) × Int × Int)),(QaS c t)∧TCon Tryz.prog 143 [(.bx [(.c (.sl [(.int .u8)]) c.1),(.c TI c.2.1),(.c TI c.2.2)])] (Qar t):=by
 refine Y2 (tcx (n:=69) (sg:=Qq6.sg) Qj (TOk.cons QvN (TOk.cons Q3v (TOk.cons Qax (TOk.cons QBf (TOk.cons QrP (TOk.cons QwD (TOk.cons Qew TOk.nil))))))) (by kernel_rfl) (by kernel_rfl) (QTF (fun r'=>∃ t,(QaS c t)∧r'=Qar t) c ?_))
 conv=>zeta
 have hc:QP c:=hp
 have b1:=QBZ c hc
 simp only [List.drop_zero,List.take_length]
 have hcu:QeY (ZH c).2 (ZH c).1:=⟨b1.2.2,by have:=b1.2.1;omega⟩
 have b2:=QR7 _ _ hcu
 have b3:=(Yq (QbF (ZH c).2 (ZH c).1).2 2 b2.2.2).2.2.2
 have b4:=QCU _ (ZH c).1 b3
 have hl:=b2.2.1
 refine ⟨hc,⟨hcu,b2.2.2⟩,b3,?_⟩
 have k4:∀ (x11:List Int) (x31:List Bool) (x41:List Int),x11.length≤3→1≤x31.length→x31.length≤4→x41.length≤4→∀ (k:Nat) (t:TCur) (s1:Nat) (x5:List Int),QP t→s1+k=x11.length+1→x5.length=s1→QhH (fun r'=>∃ t,(QaS c t)∧r'=Qar t) c (s1:Int) t.1 t.2.1 t.2.2 x11 x31 x41 x5:=by
  intro x11 x31 x41 m0 m1 m2 m3 k
  induction k with
  | zero =>
   intro t s1 x5 ht h1 h2
   refine Qtm (fun r'=>∃ t,(QaS c t)∧r'=Qar t) c _ _ _ _ _ _ _ _ ⟨fun h=>by simp at h;omega,fun _=>Zg ⟨?_,?_,?_,?_,?_,?_,ht⟩⟩
   all_goals (simp;omega)
  | succ k ih =>
   intro t s1 x5 ht h1 h2
   have hpk:Jg t [0,0,7]:=⟨ht,by simp,by simp⟩
   refine Qtm (fun r'=>∃ t,(QaS c t)∧r'=Qar t) c _ _ _ _ _ _ _ _ ⟨fun _=>⟨⟨hpk,⟨.inl rfl,by rw [Q1];omega⟩⟩,?_⟩,fun h=>by simp at h;omega⟩
   rw [sc1 (by omega),List.take_length,List.take_length,List.take_length]
   exact ih (ZR t [0,0,7]).2 (s1+1) _ (Qe1 _ _ hpk).2 (by omega) (by simp;omega)
 have k2:∀ (x1:List Int),x1.length≤3→∀ (k:Nat) (t:TCur) (s:Nat) (x3:List Bool) (x4:List Int),QP t→s+k=x1.length+1→x3.length=s→x4.length≤s→Qfr (fun r'=>∃ t,(QaS c t)∧r'=Qar t) c (s:Int) t.1 t.2.1 t.2.2 x1 x3 x4:=by
  intro x1 m0 k
  induction k with
  | zero =>
   intro t s x3 x4 ht h1 h2 h3
   refine QBd (fun r'=>∃ t,(QaS c t)∧r'=Qar t) c _ _ _ _ _ _ _ ⟨fun h=>by simp at h;omega,fun _=>?_⟩
   rw [List.take_length,List.take_length,List.take_length]
   exact k4 x1 x3 x4 m0 (by omega) (by omega) (by omega) (x1.length+1) t 0 [] ht (by omega) rfl
  | succ k ih =>
   intro t s x3 x4 ht h1 h2 h3
   have b5:=QlZ t 3 ht
   have b6:=(Yq (Z0 t 3).2 3 b5).2.2.2
   refine QBd (fun r'=>∃ t,(QaS c t)∧r'=Qar t) c _ _ _ _ _ _ _ ⟨fun _=>⟨⟨ht,⟨.inl rfl,by rw [Q1];omega⟩⟩,fun _=>⟨⟨b5,⟨.inl rfl,by rw [Q1];omega⟩⟩,?_⟩,fun _=>?_⟩,fun h=>by simp at h;omega⟩
   ·rw [sc1 (by omega),List.take_length (l:=x1)]
    exact ih (Qs (Z0 t 3).2 3).2 (s+1) _ _ b6 (by omega) (by simp;omega) (by simp;omega)
   ·rw [sc1 (by omega),List.take_length (l:=x1)]
    exact ih (Z0 t 3).2 (s+1) _ _ b5 (by omega) (by simp;omega) (by simp;omega)
 exact k2 _ hl ((QbF (ZH c).2 (ZH c).1).1.length+1) _ 0 [] [] b4.2.2 (by omega) rfl (by simp)
theorem QLc (c:((List Int) × Int × Int)) (hp:QP c):QaS c (QX c):=(Classical.epsilon_spec (QBg c hp)).1
theorem Q0L (c:((List Int) × Int × Int)) (hp:QP c):TCon Tryz.prog 143 [(.bx [(.c (.sl [(.int .u8)]) c.1),(.c TI c.2.1),(.c TI c.2.2)])] (Qar (QX c)):=(Classical.epsilon_spec (QBg c hp)).2
theorem QUB:Qg Tryz.prog Qq6:=Qk fun x h=>Q0L x.1 h
def JB (t:QC × (List Qp) × (((List Int) × Int × Int))):TRes:=⟨(.tp [(.a (Tup.cells Q0 t.1)),(zcs Qx t.2.1)]),[],[[(zcs [(.int .u8)] t.2.2.1),(zci t.2.2.2.1),(zci t.2.2.2.2)]],true,[]⟩
def QfF (x0:((List Int) × Int × Int)):QC × (List Qp) × (((List Int) × Int × Int)):=Classical.epsilon fun t:QC × (List Qp) × (((List Int) × Int × Int))=>(QjV x0 t)∧TCon Tryz.prog 68 [(.bx [(.c (.sl [(.int .u8)]) x0.1),(.c TI x0.2.1),(.c TI x0.2.2)])] (JB t)
def QpB:TRow:=Qh 68 [(.b [(.sl [(.int .u8)]),TI,TI])] fun x=>(some (QP x.1),JB (QfF x.1))
def Q3p:List TRow:=[Qq6,JT,QnU,Qcm,QnG]
def QSQ:TCode :=
 (zsq [(.reg [zop 2 (.new 30 (z0s Q0)),zmv 3 (.k (.n Qx))]),(.reg [zmv 7 0,zca 8 143 [7],zmv 6 8,zex 9 6 0,zex 10 6 1,zop 4 (.new 30 (z0s Q0)),zst 4 9 6,zmv 5 10]),(zsq [(.reg [zmv 11 0,zca 12 108 [11,(zki 16)]]),(.block 0 (zsq [(.reg [zbi 14 .eql 12 (zki 0),zmv 13 14]),(.cond 13 (.reg [zmv 15 0,zca 16 144 [15],zfa 17 4 0,zst 17 16 1]) (zsq [(.reg [zbi 19 .eql 12 (zki 1),zmv 18 19]),(.cond 18 (.draw [zfa 20 4 1,zld 21 20 1,zmv 22 0,zca 23 108 [22,(zki 8)],zop 24 (.bsl 3 [TI] [23]),zop 25 (.app 21 24 3 [TI]),zfa 26 4 1,zst 26 25 1] [(0,3),(1,3),(0,4),(1,4)]) (zsq [(.reg [zbi 28 .eql 12 (zki 2),zmv 27 28]),(.cond 27 (.reg [zmv 29 0,zop 30 (.bsl 3 [TI] [(zki 0),(zki 3)]),zca 31 145 [29,30],zfa 32 4 2,zst 32 31 1]) (zsq [(.reg [zbi 34 .eql 12 (zki 3),zmv 33 34]),(.cond 33 (.reg [zfa 35 4 3,zld 36 35 1,zfa 37 4 3,zld 38 37 1,zle 39 38,zbi 40 .sub 39 (zki 1),zop 41 (.slc 36 none (some 40) [.bool]),zfa 42 4 3,zst 42 41 1]) (zsq [(.reg [zbi 44 .eql 12 (zki 4),zmv 43 44]),(.cond 43 (zsq [(.reg [zfa 45 4 4,zld 46 45 1,zle 47 46,zbi 48 .gtr 47 (zki 0)]),(.cond 48 (.draw [zfa 49 4 4,zld 50 49 1,zmv 51 0,zop 52 (.bsl 3 [TI] [(zki 0),(zki 5),(zki 6)]),zca 53 145 [51,52],zia 54 50 (zki 0) [TI],zst 54 53 1] [(0,3),(1,3),(0,4),(1,4)]) .skip)]) (zsq [(.reg [zbi 56 .eql 12 (zki 5),zmv 55 56]),(.cond 55 (.draw [zfa 57 4 5,zld 58 57 1,zmv 59 0,zfa 60 4 5,zld 61 60 1,zia 62 61 (zki 0) [TI],zld 63 62 1,zbi 64 .sub 63 (zki 1),zop 65 (.bsl 3 [TI] [64,(zki 100000),(zki 100001),(zki 0)]),zca 66 145 [59,65],zia 67 58 (zki 0) [TI],zst 67 66 1] [(0,8),(1,8),(0,9),(1,9)]) (zsq [(.reg [zbi 69 .eql 12 (zki 6),zmv 68 69]),(.cond 68 (.reg [zmv 70 0,zfa 71 4 0,zLd 72 71 1,zca 73 146 [70,72],zmv 5 73]) (zsq [(.reg [zbi 75 .eql 12 (zki 7),zmv 74 75]),(.cond 74 (.reg [zfa 76 4 5,zld 77 76 1,zop 78 (.slc 77 (some (zki 1)) none [TI]),zfa 79 4 5,zst 79 78 1]) .skip)]))]))]))]))]))]))]))]))]),(.reg [zLd 80 4 6,zmv 81 5,zst 2 80 6,zmv 3 81]),.ret])
def QI2:List (ARv × Md):=[(.l 2 6 true,.b (zds 6)),(.t 3,.one .d)]
theorem QLK (c:((List Int) × Int × Int)) (h :
 let z1:=Qs ((QX c).2.2) (16:Int)
 let z2:=List.take ((((QX c).1).2.2.2.2.1).length) (List.drop 0 (((QX c).1).2.2.2.2.1))
 let z3:=List.take ((((QX c).1).2.2.2.1).length) (List.drop 0 (((QX c).1).2.2.2.1))
 let z4:=List.take ((((QX c).1).2.2.2.2.2).length) (List.drop 0 (((QX c).1).2.2.2.2.2))
 let z5:=List.take ((((QX c).1).2.1).length) (List.drop 0 (((QX c).1).2.1))
 let z7:=Int.toNat (0:Int)
 let z6:=gtd (0:Int) (((QX c).1).2.2.2.2.2) (0+z7)
 ((QP c)∧((Zr ((QX c).2.2) (16:Int))∧(zif ((z1.1)==(0:Int)) ((QP (z1.2))∧K (JB (((QhQ (z1.2)).1,z5,((QX c).1).2.2.1,z3,z2,z4),(QX c).2.1,((QhQ (z1.2)).2)))) (zif ((z1.1)==(1:Int)) (((Zr (z1.2) (8:Int))∧(((((QX c).1).2.1).length=(((QX c).1).2.1).length∨(((QX c).1).2.1).length+1≤(((QX c).1).2.1).length)∧(((QX c).1).2.1).length+1≤big))∧K (JB ((((QX c).1).1,(List.take ((((QX c).1).2.1).length+1) (List.drop 0 ((List.take ((((QX c).1).2.1).length) (((QX c).1).2.1))++([(Qs (z1.2) (8:Int)).1])))),((QX c).1).2.2.1,z3,z2,z4),(QX c).2.1,((Qs (z1.2) (8:Int)).2)))) (zif ((z1.1)==(2:Int)) ((Jg (z1.2) ([(0:Int),(3:Int)]))∧K (JB ((((QX c).1).1,z5,(ZR (z1.2) ([(0:Int),(3:Int)])).1,z3,z2,z4),(QX c).2.1,((ZR (z1.2) ([(0:Int),(3:Int)])).2)))) (zif ((z1.1)==(3:Int)) (((0:Int)≤(0:Int)∧(0:Int)≤w64 ((((((QX c).1).2.2.2.1).length:Nat):Int)-(1:Int))∧w64 ((((((QX c).1).2.2.2.1).length:Nat):Int)-(1:Int))≤(((((QX c).1).2.2.2.1).length:Nat):Int))∧K (JB ((((QX c).1).1,z5,((QX c).1).2.2.1,(List.take (Int.toNat (w64 ((((((QX c).1).2.2.2.1).length:Nat):Int)-(1:Int)))-Int.toNat (0:Int)) (List.drop 0 (((QX c).1).2.2.2.1))),z2,z4),(QX c).2.1,(z1.2)))) (zif ((z1.1)==(4:Int)) (zif (decide ((((((QX c).1).2.2.2.2.1).length:Nat):Int)>(0:Int))) (((Jg (z1.2) ([(0:Int),(5:Int),(6:Int)]))∧(((0:Int)≤(0:Int)∧Int.toNat (0:Int)<(((QX c).1).2.2.2.2.1).length)∧((0+z7)<(((QX c).1).2.2.2.2.1).length)))∧K (JB ((((QX c).1).1,z5,((QX c).1).2.2.1,z3,(List.take ((((QX c).1).2.2.2.2.1).length) (List.drop 0 ((((QX c).1).2.2.2.2.1).set (0+z7) ((ZR (z1.2) ([(0:Int),(5:Int),(6:Int)])).1)))),z4),(QX c).2.1,((ZR (z1.2) ([(0:Int),(5:Int),(6:Int)])).2)))) (K (JB ((((QX c).1).1,z5,((QX c).1).2.2.1,z3,z2,z4),(QX c).2.1,(z1.2))))) (zif ((z1.1)==(5:Int)) ((((0:Int)≤(0:Int)∧Int.toNat (0:Int)<(((QX c).1).2.2.2.2.2).length)∧(((0+z7)<(((QX c).1).2.2.2.2.2).length)∧((Jg (z1.2) ([w64 (z6-(1:Int)),(100000:Int),(100001:Int),(0:Int)]))∧(((0:Int)≤(0:Int)∧Int.toNat (0:Int)<(((QX c).1).2.2.2.2.2).length)∧((0+z7)<(((QX c).1).2.2.2.2.2).length)))))∧K (JB ((((QX c).1).1,z5,((QX c).1).2.2.1,z3,z2,(List.take ((((QX c).1).2.2.2.2.2).length) (List.drop 0 ((((QX c).1).2.2.2.2.2).set (0+z7) ((ZR (z1.2) ([w64 (z6-(1:Int)),(100000:Int),(100001:Int),(0:Int)])).1))))),(QX c).2.1,((ZR (z1.2) ([w64 (z6-(1:Int)),(100000:Int),(100001:Int),(0:Int)])).2)))) (zif ((z1.1)==(6:Int)) ((Zr (z1.2) (((QX c).1).1))∧K (JB ((((QX c).1).1,z5,((QX c).1).2.2.1,z3,z2,z4),(Qhp (z1.2) (((QX c).1).1)).1,((Qhp (z1.2) (((QX c).1).1)).2)))) (zif ((z1.1)==(7:Int)) (((0:Int)≤(1:Int)∧(1:Int)≤(((((QX c).1).2.2.2.2.2).length:Nat):Int)∧(((((QX c).1).2.2.2.2.2).length:Nat):Int)≤(((((QX c).1).2.2.2.2.2).length:Nat):Int))∧K (JB ((((QX c).1).1,z5,((QX c).1).2.2.1,z3,z2,(List.take (Int.toNat (((((QX c).1).2.2.2.2.2).length:Nat):Int)-Int.toNat (1:Int)) (List.drop (0+Int.toNat (1:Int)) (((QX c).1).2.2.2.2.2)))),(QX c).2.1,(z1.2)))) (K (JB ((((QX c).1).1,z5,((QX c).1).2.2.1,z3,z2,z4),(QX c).2.1,(z1.2))))))))))))))):Hold (tawp Q3p (1+0) QSQ (TQ 1 0 QI2 K) (Qf [(.bx [(.c (.sl [(.int .u8)]) c.1),(.c TI c.2.1),(.c TI c.2.2)])])) :=
 Hold.of (by kernel_rfl) h
theorem QBE (c:((List Int) × Int × Int)) (hp:QP c):∃ t:QC × (List Qp) × (((List Int) × Int × Int)),(QjV c t)∧TCon Tryz.prog 68 [(.bx [(.c (.sl [(.int .u8)]) c.1),(.c TI c.2.1),(.c TI c.2.2)])] (JB t):=by
 refine Y2 (tcx (n:=82) (sg:=QpB.sg) Qj (TOk.cons QUB (TOk.cons Qax (TOk.cons QY7 (TOk.cons Qew (TOk.cons QSM TOk.nil))))) (by kernel_rfl) (by kernel_rfl) (QLK (fun r'=>∃ t,(QjV c t)∧r'=JB t) c ?_))
 conv=>zeta
 have hc:QP c:=hp
 have b1:=QLc c hc
 obtain ⟨h1,h2,h3,h4,h5,h6,h7⟩:=b1
 have b2:=(Yq (QX c).2.2 16 h7).2.2.2
 refine ⟨hc,h7,?_⟩
 refine ⟨fun _=>⟨b2,Zg (by simp;omega)⟩,fun _=>?_⟩
 refine ⟨fun _=>⟨⟨b2,.inl rfl,by rw [Q1];omega⟩,Zg (by simp;omega)⟩,fun _=>?_⟩
 refine ⟨fun _=>⟨⟨b2,by simp,by simp⟩,Zg (by simp;omega)⟩,fun _=>?_⟩
 refine ⟨fun _=>⟨?_,Zg (by simp;omega)⟩,fun _=>?_⟩
 ·rw [Qq (by omega) (by omega)];omega
 refine ⟨fun _=>⟨fun hh=>⟨⟨⟨b2,by simp,by simp⟩,⟨by omega,by simpa using hh⟩,by simpa using hh⟩,Zg (by simp;omega)⟩,fun _=>Zg (by simp;omega)⟩,fun _=>?_⟩
 refine ⟨fun _=>⟨⟨⟨by omega,by simp;omega⟩,by simp;omega,⟨b2,by simp,by simp⟩,⟨by omega,by simp;omega⟩,by simp;omega⟩,Zg (by simp;omega)⟩,fun _=>?_⟩
 refine ⟨fun _=>⟨b2,Zg (by simp;omega)⟩,fun _=>?_⟩
 exact ⟨fun _=>⟨by omega,Zg (by simp;omega)⟩,fun _=>Zg (by simp;omega)⟩
theorem QRA (c:((List Int) × Int × Int)) (hp:QP c):QjV c (QfF c):=(Classical.epsilon_spec (QBE c hp)).1
theorem Q3j (c:((List Int) × Int × Int)) (hp:QP c):TCon Tryz.prog 68 [(.bx [(.c (.sl [(.int .u8)]) c.1),(.c TI c.2.1),(.c TI c.2.2)])] (JB (QfF c)):=(Classical.epsilon_spec (QBE c hp)).2
theorem QMx:Qg Tryz.prog QpB:=Qk fun x h=>Q3j x.1 h
def Qev (t:QC × (List Qp)):TRes:=zra (.tp [(.a (Tup.cells Q0 t.1)),(zcs Qx t.2)])
def JR (x0:List Int):QC × (List Qp):=Classical.epsilon fun t:QC × (List Qp)=>(Qoi x0 t)∧TCon Tryz.prog 14 [(.c (.sl [(.int .u8)]) x0)] (Qev t)
def Qm3:TRow:=Qh 14 [(.c (.sl [(.int .u8)]))] fun x=>(some (QaK x.1),Qev (JR x.1))
def QOV:List TRow:=[Qmy,QpB]
def QWO:TCode :=
 (zsq [(.reg [zop 2 (.new 30 (z0s Q0)),zmv 3 (.k (.n Qx))]),(.reg [zmv 4 0,zca 5 69 [4],zca 6 68 [5],zex 7 6 0,zex 8 6 1,zst 2 7 6,zmv 3 8]),.ret])
def QMo:List (ARv × Md):=[(.l 2 6 true,.b (zds 6)),(.t 3,.one .d)]
theorem QHy (code:List Int) (h :
 (((QaK code)∧(QP (QeI code)))∧K (Qev (((QfF (QeI code)).1),(QfF (QeI code)).2.1)))):Hold (tawp QOV (0+0) QWO (TQ 0 0 QMo K) (Qf [(.c (.sl [(.int .u8)]) code)])) :=
 Hold.of (by kernel_rfl) h
theorem Q09 (code:List Int) (hp:QaK code):∃ t:QC × (List Qp),(Qoi code t)∧TCon Tryz.prog 14 [(.c (.sl [(.int .u8)]) code)] (Qev t):=by
 refine Y2 (tcx (n:=9) (sg:=Qm3.sg) Qj (TOk.cons QJY (TOk.cons QMx TOk.nil)) (by kernel_rfl) (by kernel_rfl) (QHy (fun r'=>∃ t,(Qoi code t)∧r'=Qev t) code ?_))
 exact ⟨⟨hp,QDz code hp⟩,Zg (QRA _ (QDz code hp))⟩
theorem QTb (code:List Int) (hp:QaK code):TCon Tryz.prog 14 [(.c (.sl [(.int .u8)]) code)] (Qev (JR code)):=(Classical.epsilon_spec (Q09 code hp)).2
theorem QNJ:Qg Tryz.prog Qm3:=Qk fun x h=>QTb x.1 h
end
end Go.Proofs.YtjbdljkhbglnhaaGreat.Am

