/- -/
import Derived.Test.YtephkbajoofeoaaYDD1
import Derived.Test.YtephkbajoofeoaaYDP4
import Derived.Test.YtephkbajoofeoaaYDD2
import Derived.Test.YtephkbajoofeoaaYDD4
import Derived.Test.YtephkbajoofeoaaYDP6
import Derived.Test.YtephkbajoofeoaaYDKM
namespace Go.Proofs.Ytephkbajoofeoaa.Am
open Go Go.RowKit Go.Proofs.Ytephkbajoofeoaa
set_option linter.all false
set_option maxHeartbeats 2000000
noncomputable section
variable (K:TRes→Prop)
def Yb (t:(List Qk) × (((List Int) × Int × Int))):TRes:=⟨(.r QU 0 0 ((t.1).length)),[(.sl 230 QU true t.1)],[[(zcs [(.int .u8)] t.2.1),(zci t.2.2.1),(zci t.2.2.2)]],true,[]⟩
def QI (x0:((List Int) × Int × Int)) (x1:List TOp'):(List Qk) × (((List Int) × Int × Int)):=Classical.epsilon fun t:(List Qk) × (((List Int) × Int × Int))=>(YP x0 x1 t)∧TCon Try.prog 207 [(.bx [(.c (.sl [(.int .u8)]) x0.1),(.c TI x0.2.1),(.c TI x0.2.2)]),(.a [(.c (.sl ctOp) x1)])] (Yb t)
def QaD:TRow:=Qp 207 [(.b [(.sl [(.int .u8)]),TI,TI]),(.a [(.sl ctOp)])] fun x=>(some (Qx x.1 x.2.1),Yb (QI x.1 x.2.1))
def Qcz:List TRow:=[Zj,Qdw,J3,Qec]
def QhR:TCode :=
 (zsq [(zsq [(.reg [zmv 11 6,zbi 12 .gtr 11 (zki 0)]),(.cond 12 .skip (.exit 0))]),(.block 1 (.draw [zmv 15 5,zmv 16 0,zLd 17 3 1,zca 18 214 [17],zca 19 181 [16,18],zmv 20 0,zLd 21 3 1,zca 22 215 [21],zca 23 181 [20,22],zop 24 (.build (z0s QU) [(0,1,19),(1,1,23)]),zop 25 (.bsl 230 QU [24]),zop 26 (.app 15 25 230 QU),zmv 5 26] [(3,6),(4,6)])),(.reg [zmv 13 6,zbi 14 .sub 13 (zki 1),zmv 6 14])])
def QgA:List (Nat × Md):=[(0,.b [.d,.d,.d]),(3,.b [.d]),(5,.one .f),(6,.one .d)]
def Qiv:TCode :=
 (zsq [(.reg [zmv 27 5,zmv 4 27]),.ret])
def QlU:TCode :=
 (zsq [(.reg [zop 3 (.box 66 1 1),zmv 4 (.k (.n QU))]),(.reg [zop 7 (.bsl 230 QU []),zmv 5 7]),(zsq [(.reg [zmv 8 0,zca 9 116 [8,(zki 4)],zbi 10 .add (zki 1) 9,zmv 6 10]),(.block 0 (.loop QgA QhR))]),Qiv])
def QhO:List (ARv × Md):=[(.t 4,.one (.o 230))]
def QfB:Qg:=TQ 1 0 QhO K
def QnA:Qg:=Qseq (tawp Qcz 1 Qiv (QfB K)) (QfB K)
def Qnn:Qg:=Qblk 0 (QnA K)
def QbI (m:List TOp') (n:Int) (c0:List Int) (c1:Int) (c2:Int) (b:List Qk):Prop:=Loop Qcz 1 QgA QhR (Qnn K) ⟨[(0,(.p 0 0 0)),(3,(.p 1 0 0)),(5,(.r QU 2 0 b.length)),(6,(zci n))],[(0,(.box [(zcs [(.int .u8)] c0),(zci c1),(zci c2)])),(1,(.box [(zcs ctOp m)])),(2,(.sl 230 QU true b))],3⟩
theorem Qi9 (m:List TOp') (n:Int) (c0:List Int) (c1:Int) (c2:Int) (b:List Qk) (h :
 (zif (decide (n>(0:Int))) (((Zi (c0,c1,c2) (Q2 m))∧((Zi ((QV (c0,c1,c2) (Q2 m)).2) (Zc m))∧((b.length=b.length∨b.length+1≤b.length)∧b.length+1≤big)))∧(QbI K m (w64 (n-(1:Int))) (((QV ((QV (c0,c1,c2) (Q2 m)).2) (Zc m)).2).1) (((QV ((QV (c0,c1,c2) (Q2 m)).2) (Zc m)).2).2.1) (((QV ((QV (c0,c1,c2) (Q2 m)).2) (Zc m)).2).2.2) (List.take (b.length+1) ((List.take b.length b)++([((List.take (((QV (c0,c1,c2) (Q2 m)).1).length) (List.drop 0 ((QV (c0,c1,c2) (Q2 m)).1))),(List.take (((QV ((QV (c0,c1,c2) (Q2 m)).2) (Zc m)).1).length) (List.drop 0 ((QV ((QV (c0,c1,c2) (Q2 m)).2) (Zc m)).1))))]))))) (K (Yb ((List.take b.length b),(c0,c1,c2)))))):QbI K m n c0 c1 c2 b :=
 Loop.of (by kernel_rfl) h
theorem QjM (c:((List Int) × Int × Int)) (m:List TOp') (h :
 ((Qx c (4:Int))∧(QbI K m (w64 ((1:Int)+((Qb c (4:Int)).1))) (((Qb c (4:Int)).2).1) (((Qb c (4:Int)).2).2.1) (((Qb c (4:Int)).2).2.2) ([]:List Qk)))):Hold (tawp Qcz (1+0) QlU (TQ 1 0 QhO K) (Qm [(.bx [(.c (.sl [(.int .u8)]) c.1),(.c TI c.2.1),(.c TI c.2.2)]),(.a [(.c (.sl ctOp) m)])])) :=
 Hold.of (by kernel_rfl) h
theorem QiG (c:((List Int) × Int × Int)) (m:List TOp') (hp:Qx c m):∃ t:(List Qk) × (((List Int) × Int × Int)),(YP c m t)∧TCon Try.prog 207 [(.bx [(.c (.sl [(.int .u8)]) c.1),(.c TI c.2.1),(.c TI c.2.2)]),(.a [(.c (.sl ctOp) m)])] (Yb t):=by
 refine Q7 (tcx (n:=28) (sg:=QaD.sg) Qt (TOk.cons Zv (TOk.cons Qj8 (TOk.cons QcM (TOk.cons QlD TOk.nil)))) (by kernel_rfl) (by kernel_rfl) (QjM (fun r'=>∃ t,(YP c m t)∧r'=Yb t) c m ?_))
 have hc:Qe c:=hp
 have b1:=QS c 4 hc
 have h1:=b1.1
 have h2:=b1.2.1 (by omega)
 rw [Qi (x:=1+_) (by omega) (by omega)]
 have hi:Q2 m≤6:=by
  by_cases hm:Qu m=true
  ·exact (Qdp hm).1.2
  ·unfold Q2;rw [if_neg hm];omega
 have ho:Zc m≤6:=by
  by_cases hm:Qu m=true
  ·exact (Qdp hm).2.2
  ·unfold Zc;rw [if_neg hm];omega
 refine ⟨hc,?_⟩
 have key:∀ (k:Nat) (t:TCur) (b:List Qk),Qe t→b.length+k≤4→1≤b.length+k→(Qu m=true→∀ p,p∈b→Qcf m p=true)→QbI (fun r'=>∃ t,(YP c m t)∧r'=Yb t) m (k:Int) t.1 t.2.1 t.2.2 b:=by
  intro k
  induction k with
  | zero =>
   intro t b hc k1 k2 k3
   refine Qi9 (fun r'=>∃ t,(YP c m t)∧r'=Yb t) m _ _ _ _ _ ⟨fun h=>by simp at h,fun _=>Qo ?_⟩
   rw [List.take_length]
   refine ⟨⟨by show 1≤b.length;omega,by show b.length≤4;omega,hc⟩,fun hm=>?_⟩
   unfold Qak
   rw [hm,Bool.true_and,Bool.and_eq_true,List.all_eq_true]
   exact ⟨QE.2 ⟨by show (1:Int)≤(b.length:Nat);omega,by show ((b.length:Nat):Int)≤5;omega⟩,k3 hm⟩
  | succ k ih =>
   intro t b hc k1 k2 k3
   have hv:Zi t (Q2 m):=⟨hc,by omega⟩
   have b2:=Qaf _ _ hv
   have hv2:Zi (QV t (Q2 m)).2 (Zc m):=⟨b2.2.2,by omega⟩
   have b3:=Qaf _ _ hv2
   refine Qi9 (fun r'=>∃ t,(YP c m t)∧r'=Yb t) m _ _ _ _ _ ⟨fun _=>⟨⟨hv,hv2,⟨.inl rfl,by rw [ZJ];omega⟩⟩,?_⟩,fun h=>by simp at h <;> omega⟩
   rw [YU,Qi (x:=((k+1:Nat):Int)-1) (by omega) (by omega),show ((k+1:Nat):Int)-1=k by omega]
   refine ih _ _ b3.2.2 (by simp;omega) (by simp;omega) (fun hm p hpm=>?_)
   rcases List.mem_append.1 hpm with hpm | hpm
   ·exact k3 hm p hpm
   ·have r:=Qdp hm
    rw [List.mem_singleton.1 hpm,QgS,QgS]
    unfold Qcf
    rw [hm,Bool.true_and,Bool.and_eq_true]
    exact ⟨Qe8 b2.1 b2.2.1 r.1.1 r.1.2,Qe8 b3.1 b3.2.1 r.2.1 r.2.2⟩
 have h:=key (1+(Qb c 4).1).toNat (Qb c 4).2 [] b1.2.2.2 (by simp;omega) (by simp;omega) (fun _ p hpm=>by cases hpm)
 rw [Int.toNat_of_nonneg (by omega)] at h
 exact h
theorem Qgr (c:((List Int) × Int × Int)) (m:List TOp') (hp:Qx c m):YP c m (QI c m):=(Classical.epsilon_spec (QiG c m hp)).1
theorem QpV (c:((List Int) × Int × Int)) (m:List TOp') (hp:Qx c m):TCon Try.prog 207 [(.bx [(.c (.sl [(.int .u8)]) c.1),(.c TI c.2.1),(.c TI c.2.2)]),(.a [(.c (.sl ctOp) m)])] (Yb (QI c m)):=(Classical.epsilon_spec (QiG c m hp)).2
theorem QfY:Qq Try.prog QaD:=Qv fun x h=>QpV x.1 x.2.1 h
def Zz (t:(List Qk) × (((List Int) × Int × Int))):TRes:=⟨(zcs QU t.1),[],[[(zcs [(.int .u8)] t.2.1),(zci t.2.2.1),(zci t.2.2.2)]],true,[]⟩
def Qbk (x0:((List Int) × Int × Int)) (x1:List TOp'):(List Qk) × (((List Int) × Int × Int)):=Classical.epsilon fun t:(List Qk) × (((List Int) × Int × Int))=>(Jz x0 x1 t)∧TCon Try.prog 194 [(.bx [(.c (.sl [(.int .u8)]) x0.1),(.c TI x0.2.1),(.c TI x0.2.2)]),(.a [(.c (.sl ctOp) x1)])] (Zz t)
def Qc7:TRow:=Qp 194 [(.b [(.sl [(.int .u8)]),TI,TI]),(.a [(.sl ctOp)])] fun x=>(some (Qx x.1 x.2.1),Zz (Qbk x.1 x.2.1))
def Qdr:List TRow:=[QaD,Zj,Qdv]
def Qf2:TCode :=
 (zsq [(zsq [(.reg [zmv 23 5,zle 24 23,zmv 25 0,zca 26 116 [25,(zki 2)],zbi 27 .add (zki 5) 26,zbi 28 .lss 24 27]),(.cond 28 .skip (.exit 1))]),(.block 2 (.reg [zmv 29 5,zmv 30 5,zia 31 30 (zki 0) QU,zLd 32 31 2,zop 33 (.bsl 230 QU [32]),zop 34 (.app 29 33 230 QU),zmv 5 34]))])
def QiW:List (Nat × Md):=[(0,.b [.d,.d,.d]),(5,.one .f)]
def Qik:TCode :=
 (zsq [(.reg [zmv 35 5,zmv 4 35]),.ret])
def Ql8:TCode :=
 (zsq [(.reg [zop 3 (.box 66 1 1),zmv 4 (.k (.n QU))]),(.reg [zmv 6 0,zLd 7 3 1,zca 8 207 [6,7],zmv 5 8]),(zsq [(.reg [zmv 9 0,zca 10 116 [9,(zki 16)]]),(.block 0 (zsq [(.reg [zbi 12 .eql 10 (zki 0),zmv 11 12]),(.cond 11 (zsq [(.reg [zop 13 (.bsl 230 QU []),zmv 4 13]),.ret]) (zsq [(.reg [zbi 15 .eql 10 (zki 1),zmv 14 15]),(.cond 14 (.reg [zmv 16 5,zmv 17 0,zca 18 117 [17],zia 19 16 (zki 0) QU,zfa 20 19 0,zst 20 18 1]) (zsq [(.reg [zbi 22 .eql 10 (zki 2),zmv 21 22]),(.cond 21 (.block 1 (.loop QiW Qf2)) .skip)]))]))]))]),Qik])
def Qjp:List (ARv × Md):=[(.t 4,.one .d)]
def QgY:Qg:=TQ 1 0 Qjp K
def QnW:Qg:=Qseq (tawp Qdr 1 Qik (QgY K)) (QgY K)
def Qjx:Qg:=Qblk 0 (QnW K)
def Qoi:Qg:=Qblk 1 (Qjx K)
def QbZ (c0:List Int) (c1:Int) (c2:Int) (b:List Qk):Prop:=Loop Qdr 1 QiW Qf2 (Qoi K) ⟨[(0,(.p 0 0 0)),(5,(.r QU 1 0 b.length))],[(0,(.box [(zcs [(.int .u8)] c0),(zci c1),(zci c2)])),(1,(.sl 230 QU true b))],2⟩
theorem Qfg (c0:List Int) (c1:Int) (c2:Int) (b:List Qk) (h :
 ((Qx (c0,c1,c2) (2:Int))∧(zif (decide (((b.length:Nat):Int)<(w64 ((5:Int)+((Qb (c0,c1,c2) (2:Int)).1))))) ((((0:Int)≤(0:Int)∧Int.toNat (0:Int)<b.length)∧(((0+(Int.toNat (0:Int)))<b.length)∧((b.length=b.length∨b.length+1≤b.length)∧b.length+1≤big)))∧(QbZ K (((Qb (c0,c1,c2) (2:Int)).2).1) (((Qb (c0,c1,c2) (2:Int)).2).2.1) (((Qb (c0,c1,c2) (2:Int)).2).2.2) (List.take (b.length+1) ((List.take b.length b)++([(gtd Qcs b (0+(Int.toNat (0:Int))))]))))) (K (Zz ((List.take b.length (List.drop 0 b)),((Qb (c0,c1,c2) (2:Int)).2))))))):QbZ K c0 c1 c2 b :=
 Loop.of (by kernel_rfl) h
theorem Qpl (c:((List Int) × Int × Int)) (m:List TOp') (h :
 ((Qx c m)∧((Qx ((QI c m).2) (16:Int))∧(zif (((Qb ((QI c m).2) (16:Int)).1)==(0:Int)) (K (Zz (([]:List Qk),((Qb ((QI c m).2) (16:Int)).2)))) (zif (((Qb ((QI c m).2) (16:Int)).1)==(1:Int)) (((Qe ((Qb ((QI c m).2) (16:Int)).2))∧(((0:Int)≤(0:Int)∧Int.toNat (0:Int)<((QI c m).1).length)∧((0+(Int.toNat (0:Int)))<((QI c m).1).length)))∧K (Zz ((List.take (((QI c m).1).length) (List.drop 0 (((QI c m).1).set (0+(Int.toNat (0:Int))) ((Qas ((Qb ((QI c m).2) (16:Int)).2)).1,(gtd Qcs ((QI c m).1) (0+(Int.toNat (0:Int)))).2)))),((Qas ((Qb ((QI c m).2) (16:Int)).2)).2)))) (zif (((Qb ((QI c m).2) (16:Int)).1)==(2:Int)) (QbZ K (((Qb ((QI c m).2) (16:Int)).2).1) (((Qb ((QI c m).2) (16:Int)).2).2.1) (((Qb ((QI c m).2) (16:Int)).2).2.2) (List.take (((QI c m).1).length) ((QI c m).1))) (K (Zz ((List.take (((QI c m).1).length) (List.drop 0 ((QI c m).1))),((Qb ((QI c m).2) (16:Int)).2)))))))))):Hold (tawp Qdr (1+0) Ql8 (TQ 1 0 Qjp K) (Qm [(.bx [(.c (.sl [(.int .u8)]) c.1),(.c TI c.2.1),(.c TI c.2.2)]),(.a [(.c (.sl ctOp) m)])])) :=
 Hold.of (by kernel_rfl) h
theorem Qo3 (c:((List Int) × Int × Int)) (m:List TOp') (hp:Qx c m):∃ t:(List Qk) × (((List Int) × Int × Int)),(Jz c m t)∧TCon Try.prog 194 [(.bx [(.c (.sl [(.int .u8)]) c.1),(.c TI c.2.1),(.c TI c.2.2)]),(.a [(.c (.sl ctOp) m)])] (Zz t):=by
 refine Q7 (tcx (n:=36) (sg:=Qc7.sg) Qt (TOk.cons QfY (TOk.cons Zv (TOk.cons Qke TOk.nil))) (by kernel_rfl) (by kernel_rfl) (Qpl (fun r'=>∃ t,(Jz c m t)∧r'=Zz t) c m ?_))
 have hc:Qe c:=hp
 have b1:=(Qgr c m hc).1
 generalize QI c m=r1 at b1 ⊢
 obtain ⟨k1,k2,k3⟩:=b1
 have b3:=(QS r1.2 16 k3).2.2.2
 generalize Qb r1.2 16=r3 at b3 ⊢
 refine ⟨hc,k3,fun _=>Qo ⟨by simp,b3⟩,fun _=>⟨fun _=>⟨⟨b3,⟨by omega,by simp;omega⟩,by simp;omega⟩,Qo ⟨by simp;omega,(Qpe _ b3).2⟩⟩,fun _=>⟨fun _=>?_,fun _=>Qo ⟨by simp;omega,b3⟩⟩⟩⟩
 rw [List.take_length]
 have key:∀ (k:Nat) (t:TCur) (b:List Qk),Qe t→1≤b.length→b.length+k=6→QbZ (fun r'=>∃ t,(Jz c m t)∧r'=Zz t) t.1 t.2.1 t.2.2 b:=by
  intro k
  induction k with
  | zero =>
   intro t b hc q1 q2
   have b2:=QS t 2 hc
   have q3:=b2.1
   have q4:=b2.2.1 (by omega)
   have hw:w64 (5+(Qb t 2).1)=5+(Qb t 2).1:=Qi (by omega) (by omega)
   refine Qfg (fun r'=>∃ t,(Jz c m t)∧r'=Zz t) _ _ _ _ ⟨hc,fun h=>?_,fun _=>Qo ⟨by simp;omega,b2.2.2.2⟩⟩
   have h:=of_decide_eq_true h
   have h':(b.length:Int)<w64 (5+(Qb t 2).1):=h
   rw [hw] at h'
   omega
  | succ k ih =>
   intro t b hc q1 q2
   have b2:=QS t 2 hc
   refine Qfg (fun r'=>∃ t,(Jz c m t)∧r'=Zz t) _ _ _ _ ⟨hc,fun _=>?_,fun _=>Qo ⟨by simp;omega,b2.2.2.2⟩⟩
   refine ⟨⟨⟨by omega,by simp;omega⟩,by simp;omega,.inl rfl,by rw [ZJ];omega⟩,?_⟩
   rw [YU]
   exact ih _ _ b2.2.2.2 (by simp) (by simp;omega)
 exact key (6-r1.1.length) _ _ b3 k1 (by omega)
theorem Qkp (c:((List Int) × Int × Int)) (m:List TOp') (hp:Qx c m):TCon Try.prog 194 [(.bx [(.c (.sl [(.int .u8)]) c.1),(.c TI c.2.1),(.c TI c.2.2)]),(.a [(.c (.sl ctOp) m)])] (Zz (Qbk c m)):=(Classical.epsilon_spec (Qo3 c m hp)).2
theorem Qm3:Qq Try.prog Qc7:=Qv fun x h=>Qkp x.1 x.2.1 h
def Zw (t:Qf × (List Qk) × (((List Int) × Int × Int))):TRes:=⟨(.tp [(.a [(zcs ctOp t.1.1),(.r [TI] 0 0 ((t.1.2.1).length)),(zci t.1.2.2.1),(.r [.bool] 1 0 ((t.1.2.2.2.1).length)),(.r [TI] 2 0 ((t.1.2.2.2.2.1).length)),(.r [TI] 3 0 ((t.1.2.2.2.2.2).length))]),(zcs QU t.2.1)]),[(.sl 3 [TI] true t.1.2.1),(.sl 4 [.bool] true t.1.2.2.2.1),(.sl 3 [TI] true t.1.2.2.2.2.1),(.sl 3 [TI] true t.1.2.2.2.2.2)],[[(zcs [(.int .u8)] t.2.2.1),(zci t.2.2.2.1),(zci t.2.2.2.2)]],true,[]⟩
def Qh (x0:((List Int) × Int × Int)):Qf × (List Qk) × (((List Int) × Int × Int)):=Classical.epsilon fun t:Qf × (List Qk) × (((List Int) × Int × Int))=>(ZS x0 t)∧TCon Try.prog 193 [(.bx [(.c (.sl [(.int .u8)]) x0.1),(.c TI x0.2.1),(.c TI x0.2.2)])] (Zw t)
def Qcu:TRow:=Qp 193 [(.b [(.sl [(.int .u8)]),TI,TI])] fun x=>(some (Qe x.1),Zw (Qh x.1))
def JV:List TRow:=[Qa2,Qck,Zj,QaD,Qap,Qax,Yn]
def Qji:TCode :=
 (zsq [(zsq [(.reg [zmv 22 7,zfa 23 5 1,zld 24 23 1,zle 25 24,zbi 26 .leq 22 25]),(.cond 26 .skip (.exit 0))]),(.block 1 (zsq [(.draw [zfa 29 5 3,zld 30 29 1,zmv 31 0,zca 32 136 [31,(zki 3)],zop 33 (.bsl 4 [.bool] [32]),zop 34 (.app 30 33 4 [.bool]),zfa 35 5 3,zst 35 34 1] [(0,3),(1,3),(0,4),(1,4)]),(.reg [zmv 36 7,zbi 37 .gtr 36 (zki 0)]),(.cond 37 (.draw [zfa 38 5 4,zld 39 38 1,zmv 40 0,zca 41 116 [40,(zki 3)],zbi 42 .add (zki 1) 41,zop 43 (.bsl 3 [TI] [42]),zop 44 (.app 39 43 3 [TI]),zfa 45 5 4,zst 45 44 1] [(0,3),(1,3),(0,5),(1,5)]) .skip)])),(.reg [zmv 27 7,zbi 28 .add 27 (zki 1),zmv 7 28])])
def QhW:List (Nat × Md):=[(0,.b [.d,.d,.d]),(2,.b (zds 6)),(5,.b [.d,.f,.d,.o 4,.o 3,.o 3]),(6,.one .d),(7,.one .d)]
def QfN:TCode :=
 (zsq [(zsq [(.reg [zmv 46 8,zfa 47 5 1,zld 48 47 1,zle 49 48,zbi 50 .leq 46 49]),(.cond 50 .skip (.exit 2))]),(.block 3 (.draw [zfa 53 5 5,zld 54 53 1,zLd 55 5 6,zmv 56 8,zmv 57 6,zle 58 57,zca 59 76 [55,56,58],zmv 60 0,zop 61 (.bsl 3 [TI] [(zki 0),(zki 0),(zki 7)]),zca 62 182 [60,61],zbi 63 .add 59 62,zop 64 (.bsl 3 [TI] [63]),zop 65 (.app 54 64 3 [TI]),zfa 66 5 5,zst 66 65 1] [(0,6),(1,6),(0,8),(1,8),(2,8),(5,8),(6,8),(0,9),(1,9),(0,11),(1,11)])),(.reg [zmv 51 8,zbi 52 .add 51 (zki 1),zmv 8 52])])
def QfG:List (Nat × Md):=[(0,.b [.d,.d,.d]),(2,.b (zds 6)),(5,.b [.d,.f,.d,.f,.f,.f]),(6,.one .d),(8,.one .d)]
def QgM:TCode :=
 (zsq [(.reg [zLd 67 5 6,zmv 68 6,zst 2 67 6,zmv 3 68]),.ret])
def QiV:TCode :=
 (zsq [(zsq [(.reg [zmv 8 (zki 0)]),(.block 2 (.loop QfG QfN))]),QgM])
def Ql7:TCode :=
 (zsq [(.reg [zop 2 (.new 103 (z0s QB)),zmv 3 (.k (.n QU))]),(.reg [zmv 9 0,zca 10 186 [9],zop 4 (.new 66 [(.n ctOp)]),zst 4 10 1]),(.draw [zLd 11 4 1,zmv 12 0,zLd 13 4 1,zca 14 188 [12,13],zmv 15 0,zca 16 116 [15,(zki 2)],zbi 17 .add (zki 1) 16,zop 18 (.build (z0s QB) [(0,1,11),(1,1,14),(2,1,17)]),zop 5 (.new 103 (z0s QB)),zst 5 18 6] [(0,3),(0,5),(0,8),(2,8),(3,8),(5,8)]),(.reg [zmv 19 0,zLd 20 4 1,zca 21 207 [19,20],zmv 6 21]),(zsq [(.reg [zmv 7 (zki 0)]),(.block 0 (.loop QhW Qji))]),QiV])
def QhD:List (ARv × Md):=[(.l 2 6 true,.b [.d,.o 3,.d,.o 4,.o 3,.o 3]),(.t 3,.one .d)]
def QbO:Qg:=TQ 1 0 QhD K
def Qkb:Qg:=Qseq (tawp JV 1 QgM (QbO K)) (QbO K)
def Qqo:Qg:=Qblk 2 (Qkb K)
def Qb6 (c:((List Int) × Int × Int)) (s1:Int) (c01:List Int) (c11:Int) (c21:Int) (x11:List Int) (x31:List Bool) (x41:List Int) (x5:List Int):Prop:=let z1:=List.take (((Qr c).1).length) (List.drop 0 ((Qr c).1))
 let z2:=Qb ((ZH ((Qr c).2) z1).2) (2:Int)
 Loop JV 1 QfG QfN (Qqo K) ⟨[(0,(.p 0 0 0)),(2,(.p 1 0 0)),(5,(.p 6 0 0)),(6,(zcs QU (List.take (((QI (z2.2) z1).1).length) (List.drop 0 ((QI (z2.2) z1).1))))),(8,(zci s1))],[(0,(.box [(zcs [(.int .u8)] c01),(zci c11),(zci c21)])),(1,(.box (Tup.cells QB ([],[],(0:Int),[],[],[])))),(2,(.sl 3 [TI] true x11)),(3,(.sl 4 [.bool] true x31)),(4,(.sl 3 [TI] true x41)),(5,(.sl 3 [TI] true x5)),(6,(.box [(zcs ctOp z1),(.r [TI] 2 0 x11.length),(zci (w64 ((1:Int)+(z2.1)))),(.r [.bool] 3 0 x31.length),(.r [TI] 4 0 x41.length),(.r [TI] 5 0 x5.length)]))],7⟩
def Qki:Qg:=Qseq (tawp JV 1 QiV (QbO K)) (QbO K)
def QkT:Qg:=Qblk 0 (Qki K)
def JI (c:((List Int) × Int × Int)) (s:Int) (c0:List Int) (c1:Int) (c2:Int) (x1:List Int) (x3:List Bool) (x4:List Int):Prop:=let z1:=List.take (((Qr c).1).length) (List.drop 0 ((Qr c).1))
 let z2:=Qb ((ZH ((Qr c).2) z1).2) (2:Int)
 Loop JV 1 QhW Qji (QkT K) ⟨[(0,(.p 0 0 0)),(2,(.p 1 0 0)),(5,(.p 6 0 0)),(6,(zcs QU (List.take (((QI (z2.2) z1).1).length) (List.drop 0 ((QI (z2.2) z1).1))))),(7,(zci s))],[(0,(.box [(zcs [(.int .u8)] c0),(zci c1),(zci c2)])),(1,(.box (Tup.cells QB ([],[],(0:Int),[],[],[])))),(2,(.sl 3 [TI] true x1)),(3,(.sl 4 [.bool] true x3)),(4,(.sl 3 [TI] true x4)),(5,(.sl 3 [TI] true ([]:List Int))),(6,(.box [(zcs ctOp z1),(.r [TI] 2 0 x1.length),(zci (w64 ((1:Int)+(z2.1)))),(.r [.bool] 3 0 x3.length),(.r [TI] 4 0 x4.length),(.r [TI] 5 0 0)]))],7⟩
theorem Qhv (c:((List Int) × Int × Int)) (s1:Int) (c01:List Int) (c11:Int) (c21:Int) (x11:List Int) (x31:List Bool) (x41:List Int) (x5:List Int) (h :
 let z1:=List.take (((Qr c).1).length) (List.drop 0 ((Qr c).1))
 let z2:=Qb ((ZH ((Qr c).2) z1).2) (2:Int)
 let z3:=List.take (((QI (z2.2) z1).1).length) (List.drop 0 ((QI (z2.2) z1).1))
 (zif (decide (s1≤((x11.length:Nat):Int))) (((Q9 (c01,c11,c21) ([(0:Int),(0:Int),(7:Int)]))∧((x5.length=x5.length∨x5.length+1≤x5.length)∧x5.length+1≤big))∧(Qb6 K c (w64 (s1+(1:Int))) (((QD (c01,c11,c21) ([(0:Int),(0:Int),(7:Int)])).2).1) (((QD (c01,c11,c21) ([(0:Int),(0:Int),(7:Int)])).2).2.1) (((QD (c01,c11,c21) ([(0:Int),(0:Int),(7:Int)])).2).2.2) (List.take x11.length x11) (List.take x31.length x31) (List.take x41.length x41) (List.take (x5.length+1) ((List.take x5.length x5)++([w64 ((QA (z1,(List.take x11.length (List.drop 0 x11)),w64 ((1:Int)+(z2.1)),(List.take x31.length (List.drop 0 x31)),(List.take x41.length (List.drop 0 x41)),(List.take x5.length (List.drop 0 x5))) s1 (z3.length:Int))+((QD (c01,c11,c21) ([(0:Int),(0:Int),(7:Int)])).1))]))))) (K (Zw ((z1,(List.take x11.length x11),w64 ((1:Int)+(z2.1)),(List.take x31.length x31),(List.take x41.length x41),(List.take x5.length x5)),z3,(c01,c11,c21)))))):Qb6 K c s1 c01 c11 c21 x11 x31 x41 x5 :=
 Loop.of (by kernel_rfl) h
theorem Qfu (c:((List Int) × Int × Int)) (s:Int) (c0:List Int) (c1:Int) (c2:Int) (x1:List Int) (x3:List Bool) (x4:List Int) (h :
 (zif (decide (s≤((x1.length:Nat):Int))) (((Qx (c0,c1,c2) (3:Int))∧((x3.length=x3.length∨x3.length+1≤x3.length)∧x3.length+1≤big))∧(zif (decide (s>(0:Int))) (((Qx ((QL (c0,c1,c2) (3:Int)).2) (3:Int))∧((x4.length=x4.length∨x4.length+1≤x4.length)∧x4.length+1≤big))∧(JI K c (w64 (s+(1:Int))) (((Qb ((QL (c0,c1,c2) (3:Int)).2) (3:Int)).2).1) (((Qb ((QL (c0,c1,c2) (3:Int)).2) (3:Int)).2).2.1) (((Qb ((QL (c0,c1,c2) (3:Int)).2) (3:Int)).2).2.2) (List.take x1.length x1) (List.take (x3.length+1) ((List.take x3.length x3)++([(QL (c0,c1,c2) (3:Int)).1]))) (List.take (x4.length+1) ((List.take x4.length x4)++([w64 ((1:Int)+((Qb ((QL (c0,c1,c2) (3:Int)).2) (3:Int)).1))]))))) (JI K c (w64 (s+(1:Int))) (((QL (c0,c1,c2) (3:Int)).2).1) (((QL (c0,c1,c2) (3:Int)).2).2.1) (((QL (c0,c1,c2) (3:Int)).2).2.2) (List.take x1.length x1) (List.take (x3.length+1) ((List.take x3.length x3)++([(QL (c0,c1,c2) (3:Int)).1]))) (List.take x4.length x4)))) (Qb6 K c 0 c0 c1 c2 (List.take x1.length x1) (List.take x3.length x3) (List.take x4.length x4) ([]:List Int)))):JI K c s c0 c1 c2 x1 x3 x4 :=
 Loop.of (by kernel_rfl) h
theorem Qnv (c:((List Int) × Int × Int)) (h :
 let z1:=List.take (((Qr c).1).length) (List.drop 0 ((Qr c).1))
 let z2:=ZH ((Qr c).2) z1
 let z3:=QI ((Qb (z2.2) (2:Int)).2) z1
 ((Qe c)∧(((Jo ((Qr c).2) z1)∧(Qx (z2.2) (2:Int)))∧((Qx ((Qb (z2.2) (2:Int)).2) z1)∧(JI K c 0 ((z3.2).1) ((z3.2).2.1) ((z3.2).2.2) (List.take ((z2.1).length) (z2.1)) ([]:List Bool) ([]:List Int)))))):Hold (tawp JV (1+0) Ql7 (TQ 1 0 QhD K) (Qm [(.bx [(.c (.sl [(.int .u8)]) c.1),(.c TI c.2.1),(.c TI c.2.2)])])) :=
 Hold.of (by kernel_rfl) h
theorem QeZ (c:((List Int) × Int × Int)) (hp:Qe c):∃ t:Qf × (List Qk) × (((List Int) × Int × Int)),(ZS c t)∧TCon Try.prog 193 [(.bx [(.c (.sl [(.int .u8)]) c.1),(.c TI c.2.1),(.c TI c.2.2)])] (Zw t):=by
 refine Q7 (tcx (n:=69) (sg:=Qcu.sg) Qt (TOk.cons Qf8 (TOk.cons Qph (TOk.cons Zv (TOk.cons QfY (TOk.cons Qd1 (TOk.cons Qfa (TOk.cons JC TOk.nil))))))) (by kernel_rfl) (by kernel_rfl) (Qnv (fun r'=>∃ t,(ZS c t)∧r'=Zw t) c ?_))
 conv=>zeta
 have hc:Qe c:=hp
 have b1:=QiJ c hc
 simp only [List.drop_zero,List.take_length]
 have hcu:Jo (Qr c).2 (Qr c).1:=⟨b1.2.2,by have:=b1.2.1;omega⟩
 have b2:=QkK _ _ hcu
 have b3':=QS (ZH (Qr c).2 (Qr c).1).2 2 b2.2.2
 have b3:=b3'.2.2.2
 have b4:=Qgr _ (Qr c).1 b3
 have hl:=b2.2.1
 have hM:=b1.1
 have hB:=b4.2 hM
 have hC:=b2.1 hM
 have hd1:=b3'.1
 have hd2:=b3'.2.1 (by omega)
 refine ⟨hc,⟨hcu,b2.2.2⟩,b3,?_⟩
 obtain ⟨bat,hbat⟩:∃ z,(QI (Qb (ZH (Qr c).2 (Qr c).1).2 2).2 (Qr c).1).1=z:=⟨_,rfl⟩
 obtain ⟨ds,hds⟩:∃ z,w64 (1+(Qb (ZH (Qr c).2 (Qr c).1).2 2).1)=z:=⟨_,rfl⟩
 have hds2:1≤ds∧ds≤2:=by rw [← hds,Qi (by omega) (by omega)];omega
 rw [hbat] at hB
 have k4:∀ (x11:List Int) (x31:List Bool) (x41:List Int),Qw (Qr c).1 x11=true→x11.length≤3→x31.length=x11.length+1→x41.length=x11.length→(∀ x,x∈x41→1≤x∧x≤5)→∀ (k:Nat) (t:TCur) (s1:Nat) (x5:List Int),Qe t→s1+k=x11.length+1→x5.length=s1 →
   (∀ j:Nat,j<s1→QA ((Qr c).1,x11,ds,x31,x41,[]) (j:Int) bat.length≤gtd 0 x5 j∧gtd 0 x5 j≤100000)→Qb6 (fun r'=>∃ t,(ZS c t)∧r'=Zw t) c (s1:Int) t.1 t.2.1 t.2.2 x11 x31 x41 x5:=by
  intro x11 x31 x41 mc m0 m1 m2 m3 k
  induction k with
  | zero =>
   intro t s1 x5 ht h1 h2 h3
   refine Qhv (fun r'=>∃ t,(ZS c t)∧r'=Zw t) c _ _ _ _ _ _ _ _ ?_
   conv=>zeta
   simp only [List.drop_zero,List.take_length]
   rw [hbat,hds]
   refine ⟨fun h=>by simp at h;omega,fun _=>Qo ⟨⟨?_,?_,?_,?_,?_,?_,ht⟩,QoL (Qne hM hB mc m0 hds2 m1 m2 m3 (by show x5.length=x11.length+1;omega) fun j hj=>?_)⟩⟩
   ·show x11.length≤3;omega
   ·show 1≤x31.length;omega
   ·show x31.length≤4;omega
   ·show x41.length≤4;omega
   ·show 1≤x5.length;omega
   ·show x5.length≤4;omega
   ·have hj:j<x5.length:=hj
    exact h3 j (by omega)
  | succ k ih =>
   intro t s1 x5 ht h1 h2 h3
   have hpk:Q9 t [0,0,7]:=⟨ht,by simp,by simp⟩
   have hpost:=Y8 _ _ hpk
   have hval:=hpost.1
   simp only [List.mem_cons,List.not_mem_nil,or_false] at hval
   refine Qhv (fun r'=>∃ t,(ZS c t)∧r'=Zw t) c _ _ _ _ _ _ _ _ ?_
   conv=>zeta
   simp only [List.drop_zero,List.take_length]
   rw [hbat,hds]
   refine ⟨fun _=>⟨⟨hpk,⟨.inl (by trivial),by rw [ZJ];omega⟩⟩,?_⟩,fun h=>by simp at h;omega⟩
   rw [sc1 (by omega),List.take_of_length_le (by simp)]
   refine ih (QD t [0,0,7]).2 (s1+1) _ hpost.2 (by omega) (by simp;omega) (fun j hj=>?_)
   have hpr:=QpO ((Qr c).1,x11,ds,x31,x41,[]) (j:Int) bat.length
   by_cases hjs:j=s1
   ·subst hjs
    have he:QA ((Qr c).1,x11,ds,x31,x41,x5) (j:Int) bat.length=QA ((Qr c).1,x11,ds,x31,x41,[]) (j:Int) bat.length:=rfl
    have hg:∀ y:Int,gtd 0 (x5++[y]) j=y:=fun y=>by rw [← h2];exact Qqr 0 x5 y []
    have hv:0≤(QD t [0,0,7]).1∧(QD t [0,0,7]).1≤7:=by omega
    rw [hg,he]
    show _≤w64 (_+(QD t [0,0,7]).1)∧w64 (_+(QD t [0,0,7]).1)≤_
    rw [Qi (by omega) (by omega)]
    omega
   ·have hg:∀ y:Int,gtd 0 (x5++[y]) j=gtd 0 x5 j:=fun y=>by unfold gtd;rw [List.getD_eq_getElem?_getD,List.getD_eq_getElem?_getD,List.getElem?_append_left (by omega)]
    rw [hg]
    exact h3 j (by omega)
 have k2:∀ (x1:List Int),Qw (Qr c).1 x1=true→x1.length≤3→∀ (k:Nat) (t:TCur) (s:Nat) (x3:List Bool) (x4:List Int),Qe t→s+k=x1.length+1→x3.length=s→x4.length=s-1→(∀ x,x∈x4→1≤x∧x≤5)→JI (fun r'=>∃ t,(ZS c t)∧r'=Zw t) c (s:Int) t.1 t.2.1 t.2.2 x1 x3 x4:=by
  intro x1 mc m0 k
  induction k with
  | zero =>
   intro t s x3 x4 ht h1 h2 h3 h4
   refine Qfu (fun r'=>∃ t,(ZS c t)∧r'=Zw t) c _ _ _ _ _ _ _ ⟨fun h=>by simp at h;omega,fun _=>?_⟩
   rw [List.take_length,List.take_length,List.take_length]
   exact k4 x1 x3 x4 mc m0 (by omega) (by omega) h4 (x1.length+1) t 0 [] ht (by omega) rfl (fun j hj=>absurd hj (Nat.not_lt_zero j))
  | succ k ih =>
   intro t s x3 x4 ht h1 h2 h3 h4
   have b5:=Qdj t 3 ht
   have b6':=QS (QL t 3).2 3 b5
   have b6:=b6'.2.2.2
   have e1:=b6'.1
   have e2:=b6'.2.1 (by omega)
   refine Qfu (fun r'=>∃ t,(ZS c t)∧r'=Zw t) c _ _ _ _ _ _ _ ⟨fun _=>⟨⟨ht,⟨.inl rfl,by rw [ZJ];omega⟩⟩,fun hs=>⟨⟨b5,⟨.inl rfl,by rw [ZJ];omega⟩⟩,?_⟩,fun hs=>?_⟩,fun h=>by simp at h;omega⟩
   ·have hs:0<s:=by have:=of_decide_eq_true hs;omega
    rw [sc1 (by omega),List.take_length (l:=x1)]
    refine ih (Qb (QL t 3).2 3).2 (s+1) _ _ b6 (by omega) (by simp;omega) (by simp;omega) (fun x hx=>?_)
    rw [YU] at hx
    rcases List.mem_append.1 hx with hx | hx
    ·exact h4 x hx
    ·have hx:=List.mem_singleton.1 hx
     have hx:x=w64 (1+(Qb (QL t 3).2 3).1):=hx
     rw [hx,Qi (by omega) (by omega)];omega
   ·have hs:s=0:=by have:=of_decide_eq_false hs;omega
    rw [sc1 (by omega),List.take_length (l:=x1),List.take_length (l:=x4)]
    exact ih (QL t 3).2 (s+1) _ _ b5 (by omega) (by simp;omega) (by omega) h4
 exact k2 _ hC hl ((ZH (Qr c).2 (Qr c).1).1.length+1) _ 0 [] [] b4.1.2.2 (by omega) rfl rfl (fun x hx=>by cases hx)
theorem Qn7 (c:((List Int) × Int × Int)) (hp:Qe c):ZS c (Qh c):=(Classical.epsilon_spec (QeZ c hp)).1
theorem Qoh (c:((List Int) × Int × Int)) (hp:Qe c):TCon Try.prog 193 [(.bx [(.c (.sl [(.int .u8)]) c.1),(.c TI c.2.1),(.c TI c.2.2)])] (Zw (Qh c)):=(Classical.epsilon_spec (QeZ c hp)).2
theorem QoP:Qq Try.prog Qcu:=Qv fun x h=>Qoh x.1 h
def Zg (t:Qf × (List Qk) × (((List Int) × Int × Int))):TRes:=⟨(.tp [(.a (Tup.cells QB t.1)),(zcs QU t.2.1)]),[],[[(zcs [(.int .u8)] t.2.2.1),(zci t.2.2.2.1),(zci t.2.2.2.2)]],true,[]⟩
def JP (x0:((List Int) × Int × Int)):Qf × (List Qk) × (((List Int) × Int × Int)):=Classical.epsilon fun t:Qf × (List Qk) × (((List Int) × Int × Int))=>(QaH x0 t)∧TCon Try.prog 140 [(.bx [(.c (.sl [(.int .u8)]) x0.1),(.c TI x0.2.1),(.c TI x0.2.2)])] (Zg t)
def QdQ:TRow:=Qp 140 [(.b [(.sl [(.int .u8)]),TI,TI])] fun x=>(some (Qe x.1),Zg (JP x.1))
def QnM:List TRow:=[Qcu,Zj,Qem,Yn,Qc7]
def QoU:TCode :=
 (zsq [(.reg [zop 2 (.new 103 (z0s QB)),zmv 3 (.k (.n QU))]),(.reg [zmv 7 0,zca 8 193 [7],zmv 6 8,zex 9 6 0,zex 10 6 1,zop 4 (.new 103 (z0s QB)),zst 4 9 6,zmv 5 10]),(zsq [(.reg [zmv 11 0,zca 12 116 [11,(zki 16)]]),(.block 0 (zsq [(.reg [zbi 14 .eql 12 (zki 0),zmv 13 14]),(.cond 13 (.reg [zmv 15 0,zca 16 131 [15],zfa 17 4 0,zst 17 16 1]) (zsq [(.reg [zbi 19 .eql 12 (zki 1),zmv 18 19]),(.cond 18 (.draw [zfa 20 4 1,zld 21 20 1,zmv 22 0,zca 23 116 [22,(zki 8)],zop 24 (.bsl 3 [TI] [23]),zop 25 (.app 21 24 3 [TI]),zfa 26 4 1,zst 26 25 1] [(0,3),(1,3),(0,4),(1,4)]) (zsq [(.reg [zbi 28 .eql 12 (zki 2),zmv 27 28]),(.cond 27 (.reg [zmv 29 0,zop 30 (.bsl 3 [TI] [(zki 0),(zki 3)]),zca 31 182 [29,30],zfa 32 4 2,zst 32 31 1]) (zsq [(.reg [zbi 34 .eql 12 (zki 3),zmv 33 34]),(.cond 33 (.reg [zfa 35 4 3,zld 36 35 1,zfa 37 4 3,zld 38 37 1,zle 39 38,zbi 40 .sub 39 (zki 1),zop 41 (.slc 36 none (some 40) [.bool]),zfa 42 4 3,zst 42 41 1]) (zsq [(.reg [zbi 44 .eql 12 (zki 4),zmv 43 44]),(.cond 43 (zsq [(.reg [zfa 45 4 4,zld 46 45 1,zle 47 46,zbi 48 .gtr 47 (zki 0)]),(.cond 48 (.draw [zfa 49 4 4,zld 50 49 1,zmv 51 0,zop 52 (.bsl 3 [TI] [(zki 0),(zki 5),(zki 6)]),zca 53 182 [51,52],zia 54 50 (zki 0) [TI],zst 54 53 1] [(0,3),(1,3),(0,4),(1,4)]) .skip)]) (zsq [(.reg [zbi 56 .eql 12 (zki 5),zmv 55 56]),(.cond 55 (.draw [zfa 57 4 5,zld 58 57 1,zmv 59 0,zfa 60 4 5,zld 61 60 1,zia 62 61 (zki 0) [TI],zld 63 62 1,zbi 64 .sub 63 (zki 1),zop 65 (.bsl 3 [TI] [64,(zki 100000),(zki 100001),(zki 0)]),zca 66 182 [59,65],zia 67 58 (zki 0) [TI],zst 67 66 1] [(0,8),(1,8),(0,9),(1,9)]) (zsq [(.reg [zbi 69 .eql 12 (zki 6),zmv 68 69]),(.cond 68 (.reg [zmv 70 0,zfa 71 4 0,zLd 72 71 1,zca 73 194 [70,72],zmv 5 73]) (zsq [(.reg [zbi 75 .eql 12 (zki 7),zmv 74 75]),(.cond 74 (.reg [zfa 76 4 5,zld 77 76 1,zop 78 (.slc 77 (some (zki 1)) none [TI]),zfa 79 4 5,zst 79 78 1]) .skip)]))]))]))]))]))]))]))]))]),(.reg [zLd 80 4 6,zmv 81 5,zst 2 80 6,zmv 3 81]),.ret])
def Qkm:List (ARv × Md):=[(.l 2 6 true,.b (zds 6)),(.t 3,.one .d)]
theorem QnJ (c:((List Int) × Int × Int)) (h :
 let z1:=Qb ((Qh c).2.2) (16:Int)
 let z2:=List.take ((((Qh c).1).2.2.2.2.1).length) (List.drop 0 (((Qh c).1).2.2.2.2.1))
 let z3:=List.take ((((Qh c).1).2.2.2.1).length) (List.drop 0 (((Qh c).1).2.2.2.1))
 let z4:=List.take ((((Qh c).1).2.2.2.2.2).length) (List.drop 0 (((Qh c).1).2.2.2.2.2))
 let z5:=List.take ((((Qh c).1).2.1).length) (List.drop 0 (((Qh c).1).2.1))
 let z7:=Int.toNat (0:Int)
 let z6:=gtd (0:Int) (((Qh c).1).2.2.2.2.2) (0+z7)
 ((Qe c)∧((Qx ((Qh c).2.2) (16:Int))∧(zif ((z1.1)==(0:Int)) ((Qe (z1.2))∧K (Zg (((Qbn (z1.2)).1,z5,((Qh c).1).2.2.1,z3,z2,z4),(Qh c).2.1,((Qbn (z1.2)).2)))) (zif ((z1.1)==(1:Int)) (((Qx (z1.2) (8:Int))∧(((((Qh c).1).2.1).length=(((Qh c).1).2.1).length∨(((Qh c).1).2.1).length+1≤(((Qh c).1).2.1).length)∧(((Qh c).1).2.1).length+1≤big))∧K (Zg ((((Qh c).1).1,(List.take ((((Qh c).1).2.1).length+1) (List.drop 0 ((List.take ((((Qh c).1).2.1).length) (((Qh c).1).2.1))++([(Qb (z1.2) (8:Int)).1])))),((Qh c).1).2.2.1,z3,z2,z4),(Qh c).2.1,((Qb (z1.2) (8:Int)).2)))) (zif ((z1.1)==(2:Int)) ((Q9 (z1.2) ([(0:Int),(3:Int)]))∧K (Zg ((((Qh c).1).1,z5,(QD (z1.2) ([(0:Int),(3:Int)])).1,z3,z2,z4),(Qh c).2.1,((QD (z1.2) ([(0:Int),(3:Int)])).2)))) (zif ((z1.1)==(3:Int)) (((0:Int)≤(0:Int)∧(0:Int)≤w64 ((((((Qh c).1).2.2.2.1).length:Nat):Int)-(1:Int))∧w64 ((((((Qh c).1).2.2.2.1).length:Nat):Int)-(1:Int))≤(((((Qh c).1).2.2.2.1).length:Nat):Int))∧K (Zg ((((Qh c).1).1,z5,((Qh c).1).2.2.1,(List.take (Int.toNat (w64 ((((((Qh c).1).2.2.2.1).length:Nat):Int)-(1:Int)))-Int.toNat (0:Int)) (List.drop 0 (((Qh c).1).2.2.2.1))),z2,z4),(Qh c).2.1,(z1.2)))) (zif ((z1.1)==(4:Int)) (zif (decide ((((((Qh c).1).2.2.2.2.1).length:Nat):Int)>(0:Int))) (((Q9 (z1.2) ([(0:Int),(5:Int),(6:Int)]))∧(((0:Int)≤(0:Int)∧Int.toNat (0:Int)<(((Qh c).1).2.2.2.2.1).length)∧((0+z7)<(((Qh c).1).2.2.2.2.1).length)))∧K (Zg ((((Qh c).1).1,z5,((Qh c).1).2.2.1,z3,(List.take ((((Qh c).1).2.2.2.2.1).length) (List.drop 0 ((((Qh c).1).2.2.2.2.1).set (0+z7) ((QD (z1.2) ([(0:Int),(5:Int),(6:Int)])).1)))),z4),(Qh c).2.1,((QD (z1.2) ([(0:Int),(5:Int),(6:Int)])).2)))) (K (Zg ((((Qh c).1).1,z5,((Qh c).1).2.2.1,z3,z2,z4),(Qh c).2.1,(z1.2))))) (zif ((z1.1)==(5:Int)) ((((0:Int)≤(0:Int)∧Int.toNat (0:Int)<(((Qh c).1).2.2.2.2.2).length)∧(((0+z7)<(((Qh c).1).2.2.2.2.2).length)∧((Q9 (z1.2) ([w64 (z6-(1:Int)),(100000:Int),(100001:Int),(0:Int)]))∧(((0:Int)≤(0:Int)∧Int.toNat (0:Int)<(((Qh c).1).2.2.2.2.2).length)∧((0+z7)<(((Qh c).1).2.2.2.2.2).length)))))∧K (Zg ((((Qh c).1).1,z5,((Qh c).1).2.2.1,z3,z2,(List.take ((((Qh c).1).2.2.2.2.2).length) (List.drop 0 ((((Qh c).1).2.2.2.2.2).set (0+z7) ((QD (z1.2) ([w64 (z6-(1:Int)),(100000:Int),(100001:Int),(0:Int)])).1))))),(Qh c).2.1,((QD (z1.2) ([w64 (z6-(1:Int)),(100000:Int),(100001:Int),(0:Int)])).2)))) (zif ((z1.1)==(6:Int)) ((Qx (z1.2) (((Qh c).1).1))∧K (Zg ((((Qh c).1).1,z5,((Qh c).1).2.2.1,z3,z2,z4),(Qbk (z1.2) (((Qh c).1).1)).1,((Qbk (z1.2) (((Qh c).1).1)).2)))) (zif ((z1.1)==(7:Int)) (((0:Int)≤(1:Int)∧(1:Int)≤(((((Qh c).1).2.2.2.2.2).length:Nat):Int)∧(((((Qh c).1).2.2.2.2.2).length:Nat):Int)≤(((((Qh c).1).2.2.2.2.2).length:Nat):Int))∧K (Zg ((((Qh c).1).1,z5,((Qh c).1).2.2.1,z3,z2,(List.take (Int.toNat (((((Qh c).1).2.2.2.2.2).length:Nat):Int)-Int.toNat (1:Int)) (List.drop (0+Int.toNat (1:Int)) (((Qh c).1).2.2.2.2.2)))),(Qh c).2.1,(z1.2)))) (K (Zg ((((Qh c).1).1,z5,((Qh c).1).2.2.1,z3,z2,z4),(Qh c).2.1,(z1.2))))))))))))))):Hold (tawp QnM (1+0) QoU (TQ 1 0 Qkm K) (Qm [(.bx [(.c (.sl [(.int .u8)]) c.1),(.c TI c.2.1),(.c TI c.2.2)])])) :=
 Hold.of (by kernel_rfl) h
theorem Qgb (c:((List Int) × Int × Int)) (hp:Qe c):∃ t:Qf × (List Qk) × (((List Int) × Int × Int)),(QaH c t)∧TCon Try.prog 140 [(.bx [(.c (.sl [(.int .u8)]) c.1),(.c TI c.2.1),(.c TI c.2.2)])] (Zg t):=by
 refine Q7 (tcx (n:=82) (sg:=QdQ.sg) Qt (TOk.cons QoP (TOk.cons Zv (TOk.cons Qm6 (TOk.cons JC (TOk.cons Qm3 TOk.nil))))) (by kernel_rfl) (by kernel_rfl) (QnJ (fun r'=>∃ t,(QaH c t)∧r'=Zg t) c ?_))
 conv=>zeta
 have hc:Qe c:=hp
 have b1:=(Qn7 c hc).1
 obtain ⟨h1,h2,h3,h4,h5,h6,h7⟩:=b1
 have b2:=(QS (Qh c).2.2 16 h7).2.2.2
 refine ⟨hc,h7,?_⟩
 refine ⟨fun _=>⟨b2,Qo (by simp;omega)⟩,fun _=>?_⟩
 refine ⟨fun _=>⟨⟨b2,.inl rfl,by rw [ZJ];omega⟩,Qo (by simp;omega)⟩,fun _=>?_⟩
 refine ⟨fun _=>⟨⟨b2,by simp,by simp⟩,Qo (by simp;omega)⟩,fun _=>?_⟩
 refine ⟨fun _=>⟨?_,Qo (by simp;omega)⟩,fun _=>?_⟩
 ·rw [Qi (by omega) (by omega)];omega
 refine ⟨fun _=>⟨fun hh=>⟨⟨⟨b2,by simp,by simp⟩,⟨by omega,by simpa using hh⟩,by simpa using hh⟩,Qo (by simp;omega)⟩,fun _=>Qo (by simp;omega)⟩,fun _=>?_⟩
 refine ⟨fun _=>⟨⟨⟨by omega,by simp;omega⟩,by simp;omega,⟨b2,by simp,by simp⟩,⟨by omega,by simp;omega⟩,by simp;omega⟩,Qo (by simp;omega)⟩,fun _=>?_⟩
 refine ⟨fun _=>⟨b2,Qo (by simp;omega)⟩,fun _=>?_⟩
 exact ⟨fun _=>⟨by omega,Qo (by simp;omega)⟩,fun _=>Qo (by simp;omega)⟩
theorem Qjy (c:((List Int) × Int × Int)) (hp:Qe c):QaH c (JP c):=(Classical.epsilon_spec (Qgb c hp)).1
theorem Qm4 (c:((List Int) × Int × Int)) (hp:Qe c):TCon Try.prog 140 [(.bx [(.c (.sl [(.int .u8)]) c.1),(.c TI c.2.1),(.c TI c.2.2)])] (Zg (JP c)):=(Classical.epsilon_spec (Qgb c hp)).2
theorem QoD:Qq Try.prog QdQ:=Qv fun x h=>Qm4 x.1 h
def JA (t:Qf × (List Qk)):TRes:=zra (.tp [(.a (Tup.cells QB t.1)),(zcs QU t.2)])
def JK (x0:List Int):Qf × (List Qk):=Classical.epsilon fun t:Qf × (List Qk)=>(QaN x0 t)∧TCon Try.prog 71 [(.c (.sl [(.int .u8)]) x0)] (JA t)
def QcE:TRow:=Qp 71 [(.c (.sl [(.int .u8)]))] fun x=>(some (Zy x.1),JA (JK x.1))
def QnK:List TRow:=[QdT,QdQ]
def QpE:TCode :=
 (zsq [(.reg [zop 2 (.new 103 (z0s QB)),zmv 3 (.k (.n QU))]),(.reg [zmv 4 0,zca 5 114 [4],zca 6 140 [5],zex 7 6 0,zex 8 6 1,zst 2 7 6,zmv 3 8]),.ret])
def QkU:List (ARv × Md):=[(.l 2 6 true,.b (zds 6)),(.t 3,.one .d)]
theorem QjC (code:List Int) (h :
 (((Zy code)∧(Qe (Jp code)))∧K (JA (((JP (Jp code)).1),(JP (Jp code)).2.1)))):Hold (tawp QnK (0+0) QpE (TQ 0 0 QkU K) (Qm [(.c (.sl [(.int .u8)]) code)])) :=
 Hold.of (by kernel_rfl) h
theorem QgG (code:List Int) (hp:Zy code):∃ t:Qf × (List Qk),(QaN code t)∧TCon Try.prog 71 [(.c (.sl [(.int .u8)]) code)] (JA t):=by
 refine Q7 (tcx (n:=9) (sg:=QcE.sg) Qt (TOk.cons QlN (TOk.cons QoD TOk.nil)) (by kernel_rfl) (by kernel_rfl) (QjC (fun r'=>∃ t,(QaN code t)∧r'=JA t) code ?_))
 exact ⟨⟨hp,QhF code hp⟩,Qo (Qjy _ (QhF code hp))⟩
theorem QjX (code:List Int) (hp:Zy code):QaN code (JK code):=(Classical.epsilon_spec (QgG code hp)).1
theorem Qno (code:List Int) (hp:Zy code):TCon Try.prog 71 [(.c (.sl [(.int .u8)]) code)] (JA (JK code)):=(Classical.epsilon_spec (QgG code hp)).2
theorem Qlm:Qq Try.prog QcE:=Qv fun x h=>Qno x.1 h
end
end Go.Proofs.Ytephkbajoofeoaa.Am

