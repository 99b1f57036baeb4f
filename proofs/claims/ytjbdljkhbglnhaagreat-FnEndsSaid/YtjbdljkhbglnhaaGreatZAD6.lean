/- -/
import Derived.Test.YtjbdljkhbglnhaaGreatZAD1
import Derived.Test.YtjbdljkhbglnhaaGreatZAP4
import Derived.Test.YtjbdljkhbglnhaaGreatZAD2
import Derived.Test.YtjbdljkhbglnhaaGreatZAD4
import Derived.Test.YtjbdljkhbglnhaaGreatZAP6
import Derived.Test.YtjbdljkhbglnhaaGreatZAG9
namespace Go.Proofs.YtjbdljkhbglnhaaGreat.Am
open Go Go.RowKit Go.Proofs.YtjbdljkhbglnhaaGreat
set_option linter.all false
set_option maxHeartbeats 2000000
noncomputable section
variable (K:TRes→Prop)
def Qbp (t:(List Qj) × (((List Int) × Int × Int))):TRes:=⟨(.r QC 0 0 ((t.1).length)),[(.sl 108 QC true t.1)],[[(zcs [(.int .u8)] t.2.1),(zci t.2.2.1),(zci t.2.2.2)]],true,[]⟩
def ZC (x0:((List Int) × Int × Int)) (x1:List TOp'):(List Qj) × (((List Int) × Int × Int)):=Classical.epsilon fun t:(List Qj) × (((List Int) × Int × Int))=>(Qc3 x0 x1 t)∧TCon Tryz.prog 200 [(.bx [(.c (.sl [(.int .u8)]) x0.1),(.c TI x0.2.1),(.c TI x0.2.2)]),(.a [(.c (.sl ctOp) x1)])] (Qbp t)
def Qf5:TRow:=Qh 200 [(.b [(.sl [(.int .u8)]),TI,TI]),(.a [(.sl ctOp)])] fun x=>(some (Zb x.1 x.2.1),Qbp (ZC x.1 x.2.1))
def Qmi:List TRow:=[Jy,Qht,Qey,QgG]
def Qvr:TCode :=
 (zsq [(zsq [(.reg [zmv 11 6,zbi 12 .gtr 11 (zki 0)]),(.cond 12 .skip (.exit 0))]),(.block 1 (.draw [zmv 15 5,zmv 16 0,zLd 17 3 1,zca 18 153 [17],zca 19 105 [16,18],zmv 20 0,zLd 21 3 1,zca 22 154 [21],zca 23 105 [20,22],zop 24 (.build (z0s QC) [(0,1,19),(1,1,23)]),zop 25 (.bsl 108 QC [24]),zop 26 (.app 15 25 108 QC),zmv 5 26] [(3,6),(4,6)])),(.reg [zmv 13 6,zbi 14 .sub 13 (zki 1),zmv 6 14])])
def Qxo:List (Nat × Md):=[(0,.b [.d,.d,.d]),(3,.b [.d]),(5,.one .f),(6,.one .d)]
def Qu9:TCode :=
 (zsq [(.reg [zmv 27 5,zmv 4 27]),.ret])
def QF8:TCode :=
 (zsq [(.reg [zop 3 (.box 26 1 1),zmv 4 (.k (.n QC))]),(.reg [zop 7 (.bsl 108 QC []),zmv 5 7]),(zsq [(.reg [zmv 8 0,zca 9 108 [8,(zki 4)],zbi 10 .add (zki 1) 9,zmv 6 10]),(.block 0 (.loop Qxo Qvr))]),Qu9])
def Qql:List (ARv × Md):=[(.t 4,.one (.o 108))]
def Qzw:Qb:=TQ 1 0 Qql K
def QPr:Qb:=Qseq (tawp Qmi 1 Qu9 (Qzw K)) (Qzw K)
def QNe:Qb:=Qblk 0 (QPr K)
def Qgd (m:List TOp') (n:Int) (c0:List Int) (c1:Int) (c2:Int) (b:List Qj):Prop:=Loop Qmi 1 Qxo Qvr (QNe K) ⟨[(0,(.p 0 0 0)),(3,(.p 1 0 0)),(5,(.r QC 2 0 b.length)),(6,(zci n))],[(0,(.box [(zcs [(.int .u8)] c0),(zci c1),(zci c2)])),(1,(.box [(zcs ctOp m)])),(2,(.sl 108 QC true b))],3⟩
theorem QvB (m:List TOp') (n:Int) (c0:List Int) (c1:Int) (c2:Int) (b:List Qj) (h :
(zif (decide (n>(0:Int))) (((JA (c0,c1,c2) (QZ m))∧((JA ((Ya (c0,c1,c2) (QZ m)).2) (Q3 m))∧((b.length=b.length∨b.length+1≤b.length)∧b.length+1≤big)))∧(Qgd K m (w64 (n-(1:Int))) (((Ya ((Ya (c0,c1,c2) (QZ m)).2) (Q3 m)).2).1) (((Ya ((Ya (c0,c1,c2) (QZ m)).2) (Q3 m)).2).2.1) (((Ya ((Ya (c0,c1,c2) (QZ m)).2) (Q3 m)).2).2.2) (List.take (b.length+1) ((List.take b.length b)++([((List.take (((Ya (c0,c1,c2) (QZ m)).1).length) (List.drop 0 ((Ya (c0,c1,c2) (QZ m)).1))),(List.take (((Ya ((Ya (c0,c1,c2) (QZ m)).2) (Q3 m)).1).length) (List.drop 0 ((Ya ((Ya (c0,c1,c2) (QZ m)).2) (Q3 m)).1))))]))))) (K (Qbp ((List.take b.length b),(c0,c1,c2)))))):Qgd K m n c0 c1 c2 b :=
 Loop.of (by kernel_rfl) h
theorem QGK (c:((List Int) × Int × Int)) (m:List TOp') (h :
((Zb c (4:Int))∧(Qgd K m (w64 ((1:Int)+((Qg c (4:Int)).1))) (((Qg c (4:Int)).2).1) (((Qg c (4:Int)).2).2.1) (((Qg c (4:Int)).2).2.2) ([]:List Qj)))):Hold (tawp Qmi (1+0) QF8 (TQ 1 0 Qql K) (Qf [(.bx [(.c (.sl [(.int .u8)]) c.1),(.c TI c.2.1),(.c TI c.2.2)]),(.a [(.c (.sl ctOp) m)])])) :=
 Hold.of (by kernel_rfl) h
theorem QuC (c:((List Int) × Int × Int)) (m:List TOp') (hp:Zb c m):∃ t:(List Qj) × (((List Int) × Int × Int)),(Qc3 c m t)∧TCon Tryz.prog 200 [(.bx [(.c (.sl [(.int .u8)]) c.1),(.c TI c.2.1),(.c TI c.2.2)]),(.a [(.c (.sl ctOp) m)])] (Qbp t):=by
 refine YQ (tcx (n:=28) (sg:=Qf5.sg) Ql (TOk.cons JT (TOk.cons Qox (TOk.cons QlQ (TOk.cons QuR TOk.nil)))) (by kernel_rfl) (by kernel_rfl) (QGK (fun r'=>∃ t,(Qc3 c m t)∧r'=Qbp t) c m ?_))
 have hc:Qy c:=hp
 have b1:=Z2 c 4 hc
 have h1:=b1.1
 have h2:=b1.2.1 (by omega)
 rw [Qp (x:=1+_) (by omega) (by omega)]
 have hi:QZ m≤6:=by
  unfold QZ
  split
  ·rename_i hm
   exact (QcB (QlM hm (by have:=YV hm;omega))).2.1
  ·omega
 have ho:Q3 m≤6:=by
  unfold Q3
  split
  ·rename_i hm
   exact (QcB (QlM hm (by have:=YV hm;omega))).2.2.2
  ·omega
 refine ⟨hc,?_⟩
 have key:∀ (k:Nat) (t:TCur) (b:List Qj),Qy t→b.length+k≤4→1≤b.length+k→Qgd (fun r'=>∃ t,(Qc3 c m t)∧r'=Qbp t) m (k:Int) t.1 t.2.1 t.2.2 b:=by
  intro k
  induction k with
  | zero =>
   intro t b hc k1 k2
   refine QvB (fun r'=>∃ t,(Qc3 c m t)∧r'=Qbp t) m _ _ _ _ _ ⟨fun h=>by simp at h,fun _=>Q4 ⟨?_,?_,hc⟩⟩
   ·simp only [List.take_length];omega
   ·simp only [List.take_length];omega
  | succ k ih =>
   intro t b hc k1 k2
   have hv:JA t (QZ m):=⟨hc,by omega⟩
   have b2:=Qeh _ _ hv
   have hv2:JA (Ya t (QZ m)).2 (Q3 m):=⟨b2.2.2,by omega⟩
   have b3:=Qeh _ _ hv2
   refine QvB (fun r'=>∃ t,(Qc3 c m t)∧r'=Qbp t) m _ _ _ _ _ ⟨fun _=>⟨⟨hv,hv2,⟨.inl rfl,by rw [Zx];omega⟩⟩,?_⟩,fun h=>by simp at h <;> omega⟩
   rw [Zv,Qp (x:=((k+1:Nat):Int)-1) (by omega) (by omega),show ((k+1:Nat):Int)-1=k by omega]
   exact ih _ _ b3.2.2 (by simp;omega) (by simp;omega)
 have h:=key (1+(Qg c 4).1).toNat (Qg c 4).2 [] b1.2.2.2 (by simp;omega) (by simp;omega)
 rw [Int.toNat_of_nonneg (by omega)] at h
 exact h
theorem Qt2 (c:((List Int) × Int × Int)) (m:List TOp') (hp:Zb c m):Qc3 c m (ZC c m):=(Classical.epsilon_spec (QuC c m hp)).1
theorem QOM (c:((List Int) × Int × Int)) (m:List TOp') (hp:Zb c m):TCon Tryz.prog 200 [(.bx [(.c (.sl [(.int .u8)]) c.1),(.c TI c.2.1),(.c TI c.2.2)]),(.a [(.c (.sl ctOp) m)])] (Qbp (ZC c m)):=(Classical.epsilon_spec (QuC c m hp)).2
theorem QuT:Qi Tryz.prog Qf5:=Qm fun x h=>QOM x.1 x.2.1 h
def J1 (t:(List Qj) × (((List Int) × Int × Int))):TRes:=⟨(zcs QC t.1),[],[[(zcs [(.int .u8)] t.2.1),(zci t.2.2.1),(zci t.2.2.2)]],true,[]⟩
def Qh0 (x0:((List Int) × Int × Int)) (x1:List TOp'):(List Qj) × (((List Int) × Int × Int)):=Classical.epsilon fun t:(List Qj) × (((List Int) × Int × Int))=>(Qdm x0 x1 t)∧TCon Tryz.prog 146 [(.bx [(.c (.sl [(.int .u8)]) x0.1),(.c TI x0.2.1),(.c TI x0.2.2)]),(.a [(.c (.sl ctOp) x1)])] (J1 t)
def Qn7:TRow:=Qh 146 [(.b [(.sl [(.int .u8)]),TI,TI]),(.a [(.sl ctOp)])] fun x=>(some (Zb x.1 x.2.1),J1 (Qh0 x.1 x.2.1))
def Qkd:List TRow:=[Qf5,Jy,Qky]
def Qxc:TCode :=
 (zsq [(zsq [(.reg [zmv 23 5,zle 24 23,zmv 25 0,zca 26 108 [25,(zki 2)],zbi 27 .add (zki 5) 26,zbi 28 .lss 24 27]),(.cond 28 .skip (.exit 1))]),(.block 2 (.reg [zmv 29 5,zmv 30 5,zia 31 30 (zki 0) QC,zLd 32 31 2,zop 33 (.bsl 108 QC [32]),zop 34 (.app 29 33 108 QC),zmv 5 34]))])
def Qxs:List (Nat × Md):=[(0,.b [.d,.d,.d]),(5,.one .f)]
def QqZ:TCode :=
 (zsq [(.reg [zmv 35 5,zmv 4 35]),.ret])
def QMy:TCode :=
 (zsq [(.reg [zop 3 (.box 26 1 1),zmv 4 (.k (.n QC))]),(.reg [zmv 6 0,zLd 7 3 1,zca 8 200 [6,7],zmv 5 8]),(zsq [(.reg [zmv 9 0,zca 10 108 [9,(zki 16)]]),(.block 0 (zsq [(.reg [zbi 12 .eql 10 (zki 0),zmv 11 12]),(.cond 11 (zsq [(.reg [zop 13 (.bsl 108 QC []),zmv 4 13]),.ret]) (zsq [(.reg [zbi 15 .eql 10 (zki 1),zmv 14 15]),(.cond 14 (.reg [zmv 16 5,zmv 17 0,zca 18 107 [17],zia 19 16 (zki 0) QC,zfa 20 19 0,zst 20 18 1]) (zsq [(.reg [zbi 22 .eql 10 (zki 2),zmv 21 22]),(.cond 21 (.block 1 (.loop Qxs Qxc)) .skip)]))]))]))]),QqZ])
def QyL:List (ARv × Md):=[(.t 4,.one .d)]
def Qvu:Qb:=TQ 1 0 QyL K
def QBj:Qb:=Qseq (tawp Qkd 1 QqZ (Qvu K)) (Qvu K)
def QE0:Qb:=Qblk 0 (QBj K)
def QOI:Qb:=Qblk 1 (QE0 K)
def QhO (c0:List Int) (c1:Int) (c2:Int) (b:List Qj):Prop:=Loop Qkd 1 Qxs Qxc (QOI K) ⟨[(0,(.p 0 0 0)),(5,(.r QC 1 0 b.length))],[(0,(.box [(zcs [(.int .u8)] c0),(zci c1),(zci c2)])),(1,(.sl 108 QC true b))],2⟩
theorem QoG (c0:List Int) (c1:Int) (c2:Int) (b:List Qj) (h :
((Zb (c0,c1,c2) (2:Int))∧(zif (decide (((b.length:Nat):Int)<(w64 ((5:Int)+((Qg (c0,c1,c2) (2:Int)).1))))) ((((0:Int)≤(0:Int)∧Int.toNat (0:Int)<b.length)∧(((0+(Int.toNat (0:Int)))<b.length)∧((b.length=b.length∨b.length+1≤b.length)∧b.length+1≤big)))∧(QhO K (((Qg (c0,c1,c2) (2:Int)).2).1) (((Qg (c0,c1,c2) (2:Int)).2).2.1) (((Qg (c0,c1,c2) (2:Int)).2).2.2) (List.take (b.length+1) ((List.take b.length b)++([(gtd Zm b (0+(Int.toNat (0:Int))))]))))) (K (J1 ((List.take b.length (List.drop 0 b)),((Qg (c0,c1,c2) (2:Int)).2))))))):QhO K c0 c1 c2 b :=
 Loop.of (by kernel_rfl) h
theorem QEn (c:((List Int) × Int × Int)) (m:List TOp') (h :
((Zb c m)∧((Zb ((ZC c m).2) (16:Int))∧(zif (((Qg ((ZC c m).2) (16:Int)).1)==(0:Int)) (K (J1 (([]:List Qj),((Qg ((ZC c m).2) (16:Int)).2)))) (zif (((Qg ((ZC c m).2) (16:Int)).1)==(1:Int)) (((Qy ((Qg ((ZC c m).2) (16:Int)).2))∧(((0:Int)≤(0:Int)∧Int.toNat (0:Int)<((ZC c m).1).length)∧((0+(Int.toNat (0:Int)))<((ZC c m).1).length)))∧K (J1 ((List.take (((ZC c m).1).length) (List.drop 0 (((ZC c m).1).set (0+(Int.toNat (0:Int))) ((Qej ((Qg ((ZC c m).2) (16:Int)).2)).1,(gtd Zm ((ZC c m).1) (0+(Int.toNat (0:Int)))).2)))),((Qej ((Qg ((ZC c m).2) (16:Int)).2)).2)))) (zif (((Qg ((ZC c m).2) (16:Int)).1)==(2:Int)) (QhO K (((Qg ((ZC c m).2) (16:Int)).2).1) (((Qg ((ZC c m).2) (16:Int)).2).2.1) (((Qg ((ZC c m).2) (16:Int)).2).2.2) (List.take (((ZC c m).1).length) ((ZC c m).1))) (K (J1 ((List.take (((ZC c m).1).length) (List.drop 0 ((ZC c m).1))),((Qg ((ZC c m).2) (16:Int)).2)))))))))):Hold (tawp Qkd (1+0) QMy (TQ 1 0 QyL K) (Qf [(.bx [(.c (.sl [(.int .u8)]) c.1),(.c TI c.2.1),(.c TI c.2.2)]),(.a [(.c (.sl ctOp) m)])])) :=
 Hold.of (by kernel_rfl) h
theorem QOm (c:((List Int) × Int × Int)) (m:List TOp') (hp:Zb c m):∃ t:(List Qj) × (((List Int) × Int × Int)),(Qdm c m t)∧TCon Tryz.prog 146 [(.bx [(.c (.sl [(.int .u8)]) c.1),(.c TI c.2.1),(.c TI c.2.2)]),(.a [(.c (.sl ctOp) m)])] (J1 t):=by
 refine YQ (tcx (n:=36) (sg:=Qn7.sg) Ql (TOk.cons QuT (TOk.cons JT (TOk.cons QKz TOk.nil))) (by kernel_rfl) (by kernel_rfl) (QEn (fun r'=>∃ t,(Qdm c m t)∧r'=J1 t) c m ?_))
 have hc:Qy c:=hp
 have b1:=Qt2 c m hc
 generalize ZC c m=r1 at b1 ⊢
 obtain ⟨k1,k2,k3⟩:=b1
 have b3:=(Z2 r1.2 16 k3).2.2.2
 generalize Qg r1.2 16=r3 at b3 ⊢
 refine ⟨hc,k3,fun _=>Q4 ⟨by simp,b3⟩,fun _=>⟨fun _=>⟨⟨b3,⟨by omega,by simp;omega⟩,by simp;omega⟩,Q4 ⟨by simp;omega,(QLv _ b3).2⟩⟩,fun _=>⟨fun _=>?_,fun _=>Q4 ⟨by simp;omega,b3⟩⟩⟩⟩
 rw [List.take_length]
 have key:∀ (k:Nat) (t:TCur) (b:List Qj),Qy t→1≤b.length→b.length+k=6→QhO (fun r'=>∃ t,(Qdm c m t)∧r'=J1 t) t.1 t.2.1 t.2.2 b:=by
  intro k
  induction k with
  | zero =>
   intro t b hc q1 q2
   have b2:=Z2 t 2 hc
   have q3:=b2.1
   have q4:=b2.2.1 (by omega)
   have hw:w64 (5+(Qg t 2).1)=5+(Qg t 2).1:=Qp (by omega) (by omega)
   refine QoG (fun r'=>∃ t,(Qdm c m t)∧r'=J1 t) _ _ _ _ ⟨hc,fun h=>?_,fun _=>Q4 ⟨by simp;omega,b2.2.2.2⟩⟩
   have h:=of_decide_eq_true h
   have h':(b.length:Int)<w64 (5+(Qg t 2).1):=h
   rw [hw] at h'
   omega
  | succ k ih =>
   intro t b hc q1 q2
   have b2:=Z2 t 2 hc
   refine QoG (fun r'=>∃ t,(Qdm c m t)∧r'=J1 t) _ _ _ _ ⟨hc,fun _=>?_,fun _=>Q4 ⟨by simp;omega,b2.2.2.2⟩⟩
   refine ⟨⟨⟨by omega,by simp;omega⟩,by simp;omega,.inl rfl,by rw [Zx];omega⟩,?_⟩
   rw [Zv]
   exact ih _ _ b2.2.2.2 (by simp) (by simp;omega)
 exact key (6-r1.1.length) _ _ b3 k1 (by omega)
theorem QNP (c:((List Int) × Int × Int)) (m:List TOp') (hp:Zb c m):TCon Tryz.prog 146 [(.bx [(.c (.sl [(.int .u8)]) c.1),(.c TI c.2.1),(.c TI c.2.2)]),(.a [(.c (.sl ctOp) m)])] (J1 (Qh0 c m)):=(Classical.epsilon_spec (QOm c m hp)).2
theorem QRB:Qi Tryz.prog Qn7:=Qm fun x h=>QNP x.1 x.2.1 h
def JQ (t:Qo × (List Qj) × (((List Int) × Int × Int))):TRes:=⟨(.tp [(.a [(zcs ctOp t.1.1),(.r [TI] 0 0 ((t.1.2.1).length)),(zci t.1.2.2.1),(.r [.bool] 1 0 ((t.1.2.2.2.1).length)),(.r [TI] 2 0 ((t.1.2.2.2.2.1).length)),(.r [TI] 3 0 ((t.1.2.2.2.2.2).length))]),(zcs QC t.2.1)]),[(.sl 3 [TI] true t.1.2.1),(.sl 4 [.bool] true t.1.2.2.2.1),(.sl 3 [TI] true t.1.2.2.2.2.1),(.sl 3 [TI] true t.1.2.2.2.2.2)],[[(zcs [(.int .u8)] t.2.2.1),(zci t.2.2.2.1),(zci t.2.2.2.2)]],true,[]⟩
def QM (x0:((List Int) × Int × Int)):Qo × (List Qj) × (((List Int) × Int × Int)):=Classical.epsilon fun t:Qo × (List Qj) × (((List Int) × Int × Int))=>(Qay x0 t)∧TCon Tryz.prog 143 [(.bx [(.c (.sl [(.int .u8)]) x0.1),(.c TI x0.2.1),(.c TI x0.2.2)])] (JQ t)
def Qmn:TRow:=Qh 143 [(.b [(.sl [(.int .u8)]),TI,TI])] fun x=>(some (Qy x.1),JQ (QM x.1))
def Qeo:List TRow:=[Qig,QlF,Jy,Qf5,Qe8,Qf8,QbB]
def Qtk:TCode :=
 (zsq [(zsq [(.reg [zmv 22 7,zfa 23 5 1,zld 24 23 1,zle 25 24,zbi 26 .leq 22 25]),(.cond 26 .skip (.exit 0))]),(.block 1 (zsq [(.draw [zfa 29 5 3,zld 30 29 1,zmv 31 0,zca 32 106 [31,(zki 3)],zop 33 (.bsl 4 [.bool] [32]),zop 34 (.app 30 33 4 [.bool]),zfa 35 5 3,zst 35 34 1] [(0,3),(1,3),(0,4),(1,4)]),(.reg [zmv 36 7,zbi 37 .gtr 36 (zki 0)]),(.cond 37 (.draw [zfa 38 5 4,zld 39 38 1,zmv 40 0,zca 41 108 [40,(zki 3)],zbi 42 .add (zki 1) 41,zop 43 (.bsl 3 [TI] [42]),zop 44 (.app 39 43 3 [TI]),zfa 45 5 4,zst 45 44 1] [(0,3),(1,3),(0,5),(1,5)]) .skip)])),(.reg [zmv 27 7,zbi 28 .add 27 (zki 1),zmv 7 28])])
def QvU:List (Nat × Md):=[(0,.b [.d,.d,.d]),(2,.b (zds 6)),(5,.b [.d,.f,.d,.o 4,.o 3,.o 3]),(6,.one .d),(7,.one .d)]
def Qr4:TCode :=
 (zsq [(zsq [(.reg [zmv 46 8,zfa 47 5 1,zld 48 47 1,zle 49 48,zbi 50 .leq 46 49]),(.cond 50 .skip (.exit 2))]),(.block 3 (.draw [zfa 53 5 5,zld 54 53 1,zLd 55 5 6,zmv 56 8,zmv 57 6,zle 58 57,zca 59 78 [55,56,58],zmv 60 0,zop 61 (.bsl 3 [TI] [(zki 0),(zki 0),(zki 7)]),zca 62 145 [60,61],zbi 63 .add 59 62,zop 64 (.bsl 3 [TI] [63]),zop 65 (.app 54 64 3 [TI]),zfa 66 5 5,zst 66 65 1] [(0,6),(1,6),(0,8),(1,8),(2,8),(5,8),(6,8),(0,9),(1,9),(0,11),(1,11)])),(.reg [zmv 51 8,zbi 52 .add 51 (zki 1),zmv 8 52])])
def QxI:List (Nat × Md):=[(0,.b [.d,.d,.d]),(2,.b (zds 6)),(5,.b [.d,.f,.d,.f,.f,.f]),(6,.one .d),(8,.one .d)]
def QrN:TCode :=
 (zsq [(.reg [zLd 67 5 6,zmv 68 6,zst 2 67 6,zmv 3 68]),.ret])
def QoF:TCode :=
 (zsq [(zsq [(.reg [zmv 8 (zki 0)]),(.block 2 (.loop QxI Qr4))]),QrN])
def QP7:TCode :=
 (zsq [(.reg [zop 2 (.new 30 (z0s QU)),zmv 3 (.k (.n QC))]),(.reg [zmv 9 0,zca 10 198 [9],zop 4 (.new 26 [(.n ctOp)]),zst 4 10 1]),(.draw [zLd 11 4 1,zmv 12 0,zLd 13 4 1,zca 14 199 [12,13],zmv 15 0,zca 16 108 [15,(zki 2)],zbi 17 .add (zki 1) 16,zop 18 (.build (z0s QU) [(0,1,11),(1,1,14),(2,1,17)]),zop 5 (.new 30 (z0s QU)),zst 5 18 6] [(0,3),(0,5),(0,8),(2,8),(3,8),(5,8)]),(.reg [zmv 19 0,zLd 20 4 1,zca 21 200 [19,20],zmv 6 21]),(zsq [(.reg [zmv 7 (zki 0)]),(.block 0 (.loop QvU Qtk))]),QoF])
def Qvd:List (ARv × Md):=[(.l 2 6 true,.b [.d,.o 3,.d,.o 4,.o 3,.o 3]),(.t 3,.one .d)]
def Qiv:Qb:=TQ 1 0 Qvd K
def QFi:Qb:=Qseq (tawp Qeo 1 QrN (Qiv K)) (Qiv K)
def QLH:Qb:=Qblk 2 (QFi K)
def Qi5 (c:((List Int) × Int × Int)) (s1:Int) (c01:List Int) (c11:Int) (c21:Int) (x11:List Int) (x31:List Bool) (x41:List Int) (x5:List Int):Prop:=let z1:=List.take (((Zp c).1).length) (List.drop 0 ((Zp c).1))
let z2:=Qg ((Qbr ((Zp c).2) z1).2) (2:Int)
Loop Qeo 1 QxI Qr4 (QLH K) ⟨[(0,(.p 0 0 0)),(2,(.p 1 0 0)),(5,(.p 6 0 0)),(6,(zcs QC (List.take (((ZC (z2.2) z1).1).length) (List.drop 0 ((ZC (z2.2) z1).1))))),(8,(zci s1))],[(0,(.box [(zcs [(.int .u8)] c01),(zci c11),(zci c21)])),(1,(.box (Tup.cells QU ([],[],(0:Int),[],[],[])))),(2,(.sl 3 [TI] true x11)),(3,(.sl 4 [.bool] true x31)),(4,(.sl 3 [TI] true x41)),(5,(.sl 3 [TI] true x5)),(6,(.box [(zcs ctOp z1),(.r [TI] 2 0 x11.length),(zci (w64 ((1:Int)+(z2.1)))),(.r [.bool] 3 0 x31.length),(.r [TI] 4 0 x41.length),(.r [TI] 5 0 x5.length)]))],7⟩
def QI9:Qb:=Qseq (tawp Qeo 1 QoF (Qiv K)) (Qiv K)
def QBD:Qb:=Qblk 0 (QI9 K)
def QeN (c:((List Int) × Int × Int)) (s:Int) (c0:List Int) (c1:Int) (c2:Int) (x1:List Int) (x3:List Bool) (x4:List Int):Prop:=let z1:=List.take (((Zp c).1).length) (List.drop 0 ((Zp c).1))
let z2:=Qg ((Qbr ((Zp c).2) z1).2) (2:Int)
Loop Qeo 1 QvU Qtk (QBD K) ⟨[(0,(.p 0 0 0)),(2,(.p 1 0 0)),(5,(.p 6 0 0)),(6,(zcs QC (List.take (((ZC (z2.2) z1).1).length) (List.drop 0 ((ZC (z2.2) z1).1))))),(7,(zci s))],[(0,(.box [(zcs [(.int .u8)] c0),(zci c1),(zci c2)])),(1,(.box (Tup.cells QU ([],[],(0:Int),[],[],[])))),(2,(.sl 3 [TI] true x1)),(3,(.sl 4 [.bool] true x3)),(4,(.sl 3 [TI] true x4)),(5,(.sl 3 [TI] true ([]:List Int))),(6,(.box [(zcs ctOp z1),(.r [TI] 2 0 x1.length),(zci (w64 ((1:Int)+(z2.1)))),(.r [.bool] 3 0 x3.length),(.r [TI] 4 0 x4.length),(.r [TI] 5 0 0)]))],7⟩
theorem QtC (c:((List Int) × Int × Int)) (s1:Int) (c01:List Int) (c11:Int) (c21:Int) (x11:List Int) (x31:List Bool) (x41:List Int) (x5:List Int) (h :
let z1:=List.take (((Zp c).1).length) (List.drop 0 ((Zp c).1))
let z2:=Qg ((Qbr ((Zp c).2) z1).2) (2:Int)
let z3:=List.take (((ZC (z2.2) z1).1).length) (List.drop 0 ((ZC (z2.2) z1).1))
(zif (decide (s1≤((x11.length:Nat):Int))) (((YZ (c01,c11,c21) ([(0:Int),(0:Int),(7:Int)]))∧((x5.length=x5.length∨x5.length+1≤x5.length)∧x5.length+1≤big))∧(Qi5 K c (w64 (s1+(1:Int))) (((Zw (c01,c11,c21) ([(0:Int),(0:Int),(7:Int)])).2).1) (((Zw (c01,c11,c21) ([(0:Int),(0:Int),(7:Int)])).2).2.1) (((Zw (c01,c11,c21) ([(0:Int),(0:Int),(7:Int)])).2).2.2) (List.take x11.length x11) (List.take x31.length x31) (List.take x41.length x41) (List.take (x5.length+1) ((List.take x5.length x5)++([w64 ((YF (z1,(List.take x11.length (List.drop 0 x11)),w64 ((1:Int)+(z2.1)),(List.take x31.length (List.drop 0 x31)),(List.take x41.length (List.drop 0 x41)),(List.take x5.length (List.drop 0 x5))) s1 (z3.length:Int))+((Zw (c01,c11,c21) ([(0:Int),(0:Int),(7:Int)])).1))]))))) (K (JQ ((z1,(List.take x11.length x11),w64 ((1:Int)+(z2.1)),(List.take x31.length x31),(List.take x41.length x41),(List.take x5.length x5)),z3,(c01,c11,c21)))))):Qi5 K c s1 c01 c11 c21 x11 x31 x41 x5 :=
 Loop.of (by kernel_rfl) h
theorem Qxv (c:((List Int) × Int × Int)) (s:Int) (c0:List Int) (c1:Int) (c2:Int) (x1:List Int) (x3:List Bool) (x4:List Int) (h :
(zif (decide (s≤((x1.length:Nat):Int))) (((Zb (c0,c1,c2) (3:Int))∧((x3.length=x3.length∨x3.length+1≤x3.length)∧x3.length+1≤big))∧(zif (decide (s>(0:Int))) (((Zb ((ZF (c0,c1,c2) (3:Int)).2) (3:Int))∧((x4.length=x4.length∨x4.length+1≤x4.length)∧x4.length+1≤big))∧(QeN K c (w64 (s+(1:Int))) (((Qg ((ZF (c0,c1,c2) (3:Int)).2) (3:Int)).2).1) (((Qg ((ZF (c0,c1,c2) (3:Int)).2) (3:Int)).2).2.1) (((Qg ((ZF (c0,c1,c2) (3:Int)).2) (3:Int)).2).2.2) (List.take x1.length x1) (List.take (x3.length+1) ((List.take x3.length x3)++([(ZF (c0,c1,c2) (3:Int)).1]))) (List.take (x4.length+1) ((List.take x4.length x4)++([w64 ((1:Int)+((Qg ((ZF (c0,c1,c2) (3:Int)).2) (3:Int)).1))]))))) (QeN K c (w64 (s+(1:Int))) (((ZF (c0,c1,c2) (3:Int)).2).1) (((ZF (c0,c1,c2) (3:Int)).2).2.1) (((ZF (c0,c1,c2) (3:Int)).2).2.2) (List.take x1.length x1) (List.take (x3.length+1) ((List.take x3.length x3)++([(ZF (c0,c1,c2) (3:Int)).1]))) (List.take x4.length x4)))) (Qi5 K c 0 c0 c1 c2 (List.take x1.length x1) (List.take x3.length x3) (List.take x4.length x4) ([]:List Int)))):QeN K c s c0 c1 c2 x1 x3 x4 :=
 Loop.of (by kernel_rfl) h
theorem QK2 (c:((List Int) × Int × Int)) (h :
let z1:=List.take (((Zp c).1).length) (List.drop 0 ((Zp c).1))
let z2:=Qbr ((Zp c).2) z1
let z3:=ZC ((Qg (z2.2) (2:Int)).2) z1
((Qy c)∧(((Qdt ((Zp c).2) z1)∧(Zb (z2.2) (2:Int)))∧((Zb ((Qg (z2.2) (2:Int)).2) z1)∧(QeN K c 0 ((z3.2).1) ((z3.2).2.1) ((z3.2).2.2) (List.take ((z2.1).length) (z2.1)) ([]:List Bool) ([]:List Int)))))):Hold (tawp Qeo (1+0) QP7 (TQ 1 0 Qvd K) (Qf [(.bx [(.c (.sl [(.int .u8)]) c.1),(.c TI c.2.1),(.c TI c.2.2)])])) :=
 Hold.of (by kernel_rfl) h
theorem Qte (c:((List Int) × Int × Int)) (hp:Qy c):∃ t:Qo × (List Qj) × (((List Int) × Int × Int)),(Qay c t)∧TCon Tryz.prog 143 [(.bx [(.c (.sl [(.int .u8)]) c.1),(.c TI c.2.1),(.c TI c.2.2)])] (JQ t):=by
 refine YQ (tcx (n:=69) (sg:=Qmn.sg) Ql (TOk.cons QqA (TOk.cons QPC (TOk.cons JT (TOk.cons QuT (TOk.cons QlY (TOk.cons QzM (TOk.cons QdL TOk.nil))))))) (by kernel_rfl) (by kernel_rfl) (QK2 (fun r'=>∃ t,(Qay c t)∧r'=JQ t) c ?_))
 conv=>zeta
 have hc:Qy c:=hp
 have b1:=QsQ c hc
 simp only [List.drop_zero,List.take_length]
 have hcu:Qdt (Zp c).2 (Zp c).1:=⟨b1.2.2,by have:=b1.2.1;omega⟩
 have b2:=QDx _ _ hcu
 have b3:=(Z2 (Qbr (Zp c).2 (Zp c).1).2 2 b2.2.2).2.2.2
 have b4:=Qt2 _ (Zp c).1 b3
 have hl:=b2.2.1
 refine ⟨hc,⟨hcu,b2.2.2⟩,b3,?_⟩
 have k4:∀ (x11:List Int) (x31:List Bool) (x41:List Int),x11.length≤3→1≤x31.length→x31.length≤4→x41.length≤4→∀ (k:Nat) (t:TCur) (s1:Nat) (x5:List Int),Qy t→s1+k=x11.length+1→x5.length=s1→Qi5 (fun r'=>∃ t,(Qay c t)∧r'=JQ t) c (s1:Int) t.1 t.2.1 t.2.2 x11 x31 x41 x5:=by
  intro x11 x31 x41 m0 m1 m2 m3 k
  induction k with
  | zero =>
   intro t s1 x5 ht h1 h2
   refine QtC (fun r'=>∃ t,(Qay c t)∧r'=JQ t) c _ _ _ _ _ _ _ _ ⟨fun h=>by simp at h;omega,fun _=>Q4 ⟨?_,?_,?_,?_,?_,?_,ht⟩⟩
   all_goals (simp;omega)
  | succ k ih =>
   intro t s1 x5 ht h1 h2
   have hpk:YZ t [0,0,7]:=⟨ht,by simp,by simp⟩
   refine QtC (fun r'=>∃ t,(Qay c t)∧r'=JQ t) c _ _ _ _ _ _ _ _ ⟨fun _=>⟨⟨hpk,⟨.inl rfl,by rw [Zx];omega⟩⟩,?_⟩,fun h=>by simp at h;omega⟩
   rw [sc1 (by omega),List.take_length,List.take_length,List.take_length]
   exact ih (Zw t [0,0,7]).2 (s1+1) _ (Qdc _ _ hpk).2 (by omega) (by simp;omega)
 have k2:∀ (x1:List Int),x1.length≤3→∀ (k:Nat) (t:TCur) (s:Nat) (x3:List Bool) (x4:List Int),Qy t→s+k=x1.length+1→x3.length=s→x4.length≤s→QeN (fun r'=>∃ t,(Qay c t)∧r'=JQ t) c (s:Int) t.1 t.2.1 t.2.2 x1 x3 x4:=by
  intro x1 m0 k
  induction k with
  | zero =>
   intro t s x3 x4 ht h1 h2 h3
   refine Qxv (fun r'=>∃ t,(Qay c t)∧r'=JQ t) c _ _ _ _ _ _ _ ⟨fun h=>by simp at h;omega,fun _=>?_⟩
   rw [List.take_length,List.take_length,List.take_length]
   exact k4 x1 x3 x4 m0 (by omega) (by omega) (by omega) (x1.length+1) t 0 [] ht (by omega) rfl
  | succ k ih =>
   intro t s x3 x4 ht h1 h2 h3
   have b5:=QnL t 3 ht
   have b6:=(Z2 (ZF t 3).2 3 b5).2.2.2
   refine Qxv (fun r'=>∃ t,(Qay c t)∧r'=JQ t) c _ _ _ _ _ _ _ ⟨fun _=>⟨⟨ht,⟨.inl rfl,by rw [Zx];omega⟩⟩,fun _=>⟨⟨b5,⟨.inl rfl,by rw [Zx];omega⟩⟩,?_⟩,fun _=>?_⟩,fun h=>by simp at h;omega⟩
   ·rw [sc1 (by omega),List.take_length (l:=x1)]
    exact ih (Qg (ZF t 3).2 3).2 (s+1) _ _ b6 (by omega) (by simp;omega) (by simp;omega)
   ·rw [sc1 (by omega),List.take_length (l:=x1)]
    exact ih (ZF t 3).2 (s+1) _ _ b5 (by omega) (by simp;omega) (by simp;omega)
 exact k2 _ hl ((Qbr (Zp c).2 (Zp c).1).1.length+1) _ 0 [] [] b4.2.2 (by omega) rfl (by simp)
theorem QH7 (c:((List Int) × Int × Int)) (hp:Qy c):Qay c (QM c):=(Classical.epsilon_spec (Qte c hp)).1
theorem QDK (c:((List Int) × Int × Int)) (hp:Qy c):TCon Tryz.prog 143 [(.bx [(.c (.sl [(.int .u8)]) c.1),(.c TI c.2.1),(.c TI c.2.2)])] (JQ (QM c)):=(Classical.epsilon_spec (Qte c hp)).2
theorem QII:Qi Tryz.prog Qmn:=Qm fun x h=>QDK x.1 h
def Jg (t:Qo × (List Qj) × (((List Int) × Int × Int))):TRes:=⟨(.tp [(.a (Tup.cells QU t.1)),(zcs QC t.2.1)]),[],[[(zcs [(.int .u8)] t.2.2.1),(zci t.2.2.2.1),(zci t.2.2.2.2)]],true,[]⟩
def Qe2 (x0:((List Int) × Int × Int)):Qo × (List Qj) × (((List Int) × Int × Int)):=Classical.epsilon fun t:Qo × (List Qj) × (((List Int) × Int × Int))=>(Qho x0 t)∧TCon Tryz.prog 68 [(.bx [(.c (.sl [(.int .u8)]) x0.1),(.c TI x0.2.1),(.c TI x0.2.2)])] (Jg t)
def Qm1:TRow:=Qh 68 [(.b [(.sl [(.int .u8)]),TI,TI])] fun x=>(some (Qy x.1),Jg (Qe2 x.1))
def QOL:List TRow:=[Qmn,Jy,Qnz,QbB,Qn7]
def QLs:TCode :=
 (zsq [(.reg [zop 2 (.new 30 (z0s QU)),zmv 3 (.k (.n QC))]),(.reg [zmv 7 0,zca 8 143 [7],zmv 6 8,zex 9 6 0,zex 10 6 1,zop 4 (.new 30 (z0s QU)),zst 4 9 6,zmv 5 10]),(zsq [(.reg [zmv 11 0,zca 12 108 [11,(zki 16)]]),(.block 0 (zsq [(.reg [zbi 14 .eql 12 (zki 0),zmv 13 14]),(.cond 13 (.reg [zmv 15 0,zca 16 144 [15],zfa 17 4 0,zst 17 16 1]) (zsq [(.reg [zbi 19 .eql 12 (zki 1),zmv 18 19]),(.cond 18 (.draw [zfa 20 4 1,zld 21 20 1,zmv 22 0,zca 23 108 [22,(zki 8)],zop 24 (.bsl 3 [TI] [23]),zop 25 (.app 21 24 3 [TI]),zfa 26 4 1,zst 26 25 1] [(0,3),(1,3),(0,4),(1,4)]) (zsq [(.reg [zbi 28 .eql 12 (zki 2),zmv 27 28]),(.cond 27 (.reg [zmv 29 0,zop 30 (.bsl 3 [TI] [(zki 0),(zki 3)]),zca 31 145 [29,30],zfa 32 4 2,zst 32 31 1]) (zsq [(.reg [zbi 34 .eql 12 (zki 3),zmv 33 34]),(.cond 33 (.reg [zfa 35 4 3,zld 36 35 1,zfa 37 4 3,zld 38 37 1,zle 39 38,zbi 40 .sub 39 (zki 1),zop 41 (.slc 36 none (some 40) [.bool]),zfa 42 4 3,zst 42 41 1]) (zsq [(.reg [zbi 44 .eql 12 (zki 4),zmv 43 44]),(.cond 43 (zsq [(.reg [zfa 45 4 4,zld 46 45 1,zle 47 46,zbi 48 .gtr 47 (zki 0)]),(.cond 48 (.draw [zfa 49 4 4,zld 50 49 1,zmv 51 0,zop 52 (.bsl 3 [TI] [(zki 0),(zki 5),(zki 6)]),zca 53 145 [51,52],zia 54 50 (zki 0) [TI],zst 54 53 1] [(0,3),(1,3),(0,4),(1,4)]) .skip)]) (zsq [(.reg [zbi 56 .eql 12 (zki 5),zmv 55 56]),(.cond 55 (.draw [zfa 57 4 5,zld 58 57 1,zmv 59 0,zfa 60 4 5,zld 61 60 1,zia 62 61 (zki 0) [TI],zld 63 62 1,zbi 64 .sub 63 (zki 1),zop 65 (.bsl 3 [TI] [64,(zki 100000),(zki 100001),(zki 0)]),zca 66 145 [59,65],zia 67 58 (zki 0) [TI],zst 67 66 1] [(0,8),(1,8),(0,9),(1,9)]) (zsq [(.reg [zbi 69 .eql 12 (zki 6),zmv 68 69]),(.cond 68 (.reg [zmv 70 0,zfa 71 4 0,zLd 72 71 1,zca 73 146 [70,72],zmv 5 73]) (zsq [(.reg [zbi 75 .eql 12 (zki 7),zmv 74 75]),(.cond 74 (.reg [zfa 76 4 5,zld 77 76 1,zop 78 (.slc 77 (some (zki 1)) none [TI]),zfa 79 4 5,zst 79 78 1]) .skip)]))]))]))]))]))]))]))]))]),(.reg [zLd 80 4 6,zmv 81 5,zst 2 80 6,zmv 3 81]),.ret])
def QLa:List (ARv × Md):=[(.l 2 6 true,.b (zds 6)),(.t 3,.one .d)]
theorem QLt (c:((List Int) × Int × Int)) (h :
let z1:=Qg ((QM c).2.2) (16:Int)
let z2:=List.take ((((QM c).1).2.2.2.2.1).length) (List.drop 0 (((QM c).1).2.2.2.2.1))
let z3:=List.take ((((QM c).1).2.2.2.1).length) (List.drop 0 (((QM c).1).2.2.2.1))
let z4:=List.take ((((QM c).1).2.2.2.2.2).length) (List.drop 0 (((QM c).1).2.2.2.2.2))
let z5:=List.take ((((QM c).1).2.1).length) (List.drop 0 (((QM c).1).2.1))
let z7:=Int.toNat (0:Int)
let z6:=gtd (0:Int) (((QM c).1).2.2.2.2.2) (0+z7)
((Qy c)∧((Zb ((QM c).2.2) (16:Int))∧(zif ((z1.1)==(0:Int)) ((Qy (z1.2))∧K (Jg (((Qf4 (z1.2)).1,z5,((QM c).1).2.2.1,z3,z2,z4),(QM c).2.1,((Qf4 (z1.2)).2)))) (zif ((z1.1)==(1:Int)) (((Zb (z1.2) (8:Int))∧(((((QM c).1).2.1).length=(((QM c).1).2.1).length∨(((QM c).1).2.1).length+1≤(((QM c).1).2.1).length)∧(((QM c).1).2.1).length+1≤big))∧K (Jg ((((QM c).1).1,(List.take ((((QM c).1).2.1).length+1) (List.drop 0 ((List.take ((((QM c).1).2.1).length) (((QM c).1).2.1))++([(Qg (z1.2) (8:Int)).1])))),((QM c).1).2.2.1,z3,z2,z4),(QM c).2.1,((Qg (z1.2) (8:Int)).2)))) (zif ((z1.1)==(2:Int)) ((YZ (z1.2) ([(0:Int),(3:Int)]))∧K (Jg ((((QM c).1).1,z5,(Zw (z1.2) ([(0:Int),(3:Int)])).1,z3,z2,z4),(QM c).2.1,((Zw (z1.2) ([(0:Int),(3:Int)])).2)))) (zif ((z1.1)==(3:Int)) (((0:Int)≤(0:Int)∧(0:Int)≤w64 ((((((QM c).1).2.2.2.1).length:Nat):Int)-(1:Int))∧w64 ((((((QM c).1).2.2.2.1).length:Nat):Int)-(1:Int))≤(((((QM c).1).2.2.2.1).length:Nat):Int))∧K (Jg ((((QM c).1).1,z5,((QM c).1).2.2.1,(List.take (Int.toNat (w64 ((((((QM c).1).2.2.2.1).length:Nat):Int)-(1:Int)))-Int.toNat (0:Int)) (List.drop 0 (((QM c).1).2.2.2.1))),z2,z4),(QM c).2.1,(z1.2)))) (zif ((z1.1)==(4:Int)) (zif (decide ((((((QM c).1).2.2.2.2.1).length:Nat):Int)>(0:Int))) (((YZ (z1.2) ([(0:Int),(5:Int),(6:Int)]))∧(((0:Int)≤(0:Int)∧Int.toNat (0:Int)<(((QM c).1).2.2.2.2.1).length)∧((0+z7)<(((QM c).1).2.2.2.2.1).length)))∧K (Jg ((((QM c).1).1,z5,((QM c).1).2.2.1,z3,(List.take ((((QM c).1).2.2.2.2.1).length) (List.drop 0 ((((QM c).1).2.2.2.2.1).set (0+z7) ((Zw (z1.2) ([(0:Int),(5:Int),(6:Int)])).1)))),z4),(QM c).2.1,((Zw (z1.2) ([(0:Int),(5:Int),(6:Int)])).2)))) (K (Jg ((((QM c).1).1,z5,((QM c).1).2.2.1,z3,z2,z4),(QM c).2.1,(z1.2))))) (zif ((z1.1)==(5:Int)) ((((0:Int)≤(0:Int)∧Int.toNat (0:Int)<(((QM c).1).2.2.2.2.2).length)∧(((0+z7)<(((QM c).1).2.2.2.2.2).length)∧((YZ (z1.2) ([w64 (z6-(1:Int)),(100000:Int),(100001:Int),(0:Int)]))∧(((0:Int)≤(0:Int)∧Int.toNat (0:Int)<(((QM c).1).2.2.2.2.2).length)∧((0+z7)<(((QM c).1).2.2.2.2.2).length)))))∧K (Jg ((((QM c).1).1,z5,((QM c).1).2.2.1,z3,z2,(List.take ((((QM c).1).2.2.2.2.2).length) (List.drop 0 ((((QM c).1).2.2.2.2.2).set (0+z7) ((Zw (z1.2) ([w64 (z6-(1:Int)),(100000:Int),(100001:Int),(0:Int)])).1))))),(QM c).2.1,((Zw (z1.2) ([w64 (z6-(1:Int)),(100000:Int),(100001:Int),(0:Int)])).2)))) (zif ((z1.1)==(6:Int)) ((Zb (z1.2) (((QM c).1).1))∧K (Jg ((((QM c).1).1,z5,((QM c).1).2.2.1,z3,z2,z4),(Qh0 (z1.2) (((QM c).1).1)).1,((Qh0 (z1.2) (((QM c).1).1)).2)))) (zif ((z1.1)==(7:Int)) (((0:Int)≤(1:Int)∧(1:Int)≤(((((QM c).1).2.2.2.2.2).length:Nat):Int)∧(((((QM c).1).2.2.2.2.2).length:Nat):Int)≤(((((QM c).1).2.2.2.2.2).length:Nat):Int))∧K (Jg ((((QM c).1).1,z5,((QM c).1).2.2.1,z3,z2,(List.take (Int.toNat (((((QM c).1).2.2.2.2.2).length:Nat):Int)-Int.toNat (1:Int)) (List.drop (0+Int.toNat (1:Int)) (((QM c).1).2.2.2.2.2)))),(QM c).2.1,(z1.2)))) (K (Jg ((((QM c).1).1,z5,((QM c).1).2.2.1,z3,z2,z4),(QM c).2.1,(z1.2))))))))))))))):Hold (tawp QOL (1+0) QLs (TQ 1 0 QLa K) (Qf [(.bx [(.c (.sl [(.int .u8)]) c.1),(.c TI c.2.1),(.c TI c.2.2)])])) :=
 Hold.of (by kernel_rfl) h
theorem Qzf (c:((List Int) × Int × Int)) (hp:Qy c):∃ t:Qo × (List Qj) × (((List Int) × Int × Int)),(Qho c t)∧TCon Tryz.prog 68 [(.bx [(.c (.sl [(.int .u8)]) c.1),(.c TI c.2.1),(.c TI c.2.2)])] (Jg t):=by
 refine YQ (tcx (n:=82) (sg:=Qm1.sg) Ql (TOk.cons QII (TOk.cons JT (TOk.cons QDv (TOk.cons QdL (TOk.cons QRB TOk.nil))))) (by kernel_rfl) (by kernel_rfl) (QLt (fun r'=>∃ t,(Qho c t)∧r'=Jg t) c ?_))
 conv=>zeta
 have hc:Qy c:=hp
 have b1:=QH7 c hc
 obtain ⟨h1,h2,h3,h4,h5,h6,h7⟩:=b1
 have b2:=(Z2 (QM c).2.2 16 h7).2.2.2
 refine ⟨hc,h7,?_⟩
 refine ⟨fun _=>⟨b2,Q4 (by simp;omega)⟩,fun _=>?_⟩
 refine ⟨fun _=>⟨⟨b2,.inl rfl,by rw [Zx];omega⟩,Q4 (by simp;omega)⟩,fun _=>?_⟩
 refine ⟨fun _=>⟨⟨b2,by simp,by simp⟩,Q4 (by simp;omega)⟩,fun _=>?_⟩
 refine ⟨fun _=>⟨?_,Q4 (by simp;omega)⟩,fun _=>?_⟩
 ·rw [Qp (by omega) (by omega)];omega
 refine ⟨fun _=>⟨fun hh=>⟨⟨⟨b2,by simp,by simp⟩,⟨by omega,by simpa using hh⟩,by simpa using hh⟩,Q4 (by simp;omega)⟩,fun _=>Q4 (by simp;omega)⟩,fun _=>?_⟩
 refine ⟨fun _=>⟨⟨⟨by omega,by simp;omega⟩,by simp;omega,⟨b2,by simp,by simp⟩,⟨by omega,by simp;omega⟩,by simp;omega⟩,Q4 (by simp;omega)⟩,fun _=>?_⟩
 refine ⟨fun _=>⟨b2,Q4 (by simp;omega)⟩,fun _=>?_⟩
 exact ⟨fun _=>⟨by omega,Q4 (by simp;omega)⟩,fun _=>Q4 (by simp;omega)⟩
theorem QKT (c:((List Int) × Int × Int)) (hp:Qy c):Qho c (Qe2 c):=(Classical.epsilon_spec (Qzf c hp)).1
theorem QDT (c:((List Int) × Int × Int)) (hp:Qy c):TCon Tryz.prog 68 [(.bx [(.c (.sl [(.int .u8)]) c.1),(.c TI c.2.1),(.c TI c.2.2)])] (Jg (Qe2 c)):=(Classical.epsilon_spec (Qzf c hp)).2
theorem QN4:Qi Tryz.prog Qm1:=Qm fun x h=>QDT x.1 h
def Qdy (t:Qo × (List Qj)):TRes:=zra (.tp [(.a (Tup.cells QU t.1)),(zcs QC t.2)])
def Qg1 (x0:List Int):Qo × (List Qj):=Classical.epsilon fun t:Qo × (List Qj)=>(Qjd x0 t)∧TCon Tryz.prog 14 [(.c (.sl [(.int .u8)]) x0)] (Qdy t)
def Qlg:TRow:=Qh 14 [(.c (.sl [(.int .u8)]))] fun x=>(some (Qah x.1),Qdy (Qg1 x.1))
def QRt:List TRow:=[QlB,Qm1]
def QNN:TCode :=
 (zsq [(.reg [zop 2 (.new 30 (z0s QU)),zmv 3 (.k (.n QC))]),(.reg [zmv 4 0,zca 5 69 [4],zca 6 68 [5],zex 7 6 0,zex 8 6 1,zst 2 7 6,zmv 3 8]),.ret])
def QOp:List (ARv × Md):=[(.l 2 6 true,.b (zds 6)),(.t 3,.one .d)]
theorem QKS (code:List Int) (h :
(((Qah code)∧(Qy (Qd3 code)))∧K (Qdy (((Qe2 (Qd3 code)).1),(Qe2 (Qd3 code)).2.1)))):Hold (tawp QRt (0+0) QNN (TQ 0 0 QOp K) (Qf [(.c (.sl [(.int .u8)]) code)])) :=
 Hold.of (by kernel_rfl) h
theorem QJZ (code:List Int) (hp:Qah code):∃ t:Qo × (List Qj),(Qjd code t)∧TCon Tryz.prog 14 [(.c (.sl [(.int .u8)]) code)] (Qdy t):=by
 refine YQ (tcx (n:=9) (sg:=Qlg.sg) Ql (TOk.cons QBK (TOk.cons QN4 TOk.nil)) (by kernel_rfl) (by kernel_rfl) (QKS (fun r'=>∃ t,(Qjd code t)∧r'=Qdy t) code ?_))
 exact ⟨⟨hp,Qxz code hp⟩,Q4 (QKT _ (Qxz code hp))⟩
theorem QCg (code:List Int) (hp:Qah code):TCon Tryz.prog 14 [(.c (.sl [(.int .u8)]) code)] (Qdy (Qg1 code)):=(Classical.epsilon_spec (QJZ code hp)).2
theorem QBh:Qi Tryz.prog Qlg:=Qm fun x h=>QCg x.1 h
end
end Go.Proofs.YtjbdljkhbglnhaaGreat.Am

