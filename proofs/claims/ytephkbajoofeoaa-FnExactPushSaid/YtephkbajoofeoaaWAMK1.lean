/- -/
import Derived.Test.YtephkbajoofeoaaWAGF
namespace Go.Proofs.Ytephkbajoofeoaa.Am
open Go Go.RowKit Go.Proofs.Ytephkbajoofeoaa
set_option linter.all false
noncomputable section
variable (K:TRes→Prop)
def Z3 (t:Int × (List Int)):TRes:=⟨(zci t.1),[],[],true,[(.sl 0 [TI] (.dp 0 false []) t.2)]⟩
def Qal:TRow:=Qn 69 [(.d [TI]),(.c TI)] fun x=>(none,Z3 (QF (α:=List Int) x.1 x.2.1))
def Qak:TTab:=⟨[],true⟩
def Qes:TCode :=
 (zsq [(zsq [(.reg [zmv 6 5,zmv 7 0,zle 8 7,zbi 9 .lss 6 8]),(.cond 9 .skip (.exit 0))]),(.block 1 (zsq [(.reg [zmv 12 0,zmv 13 5,zmv 14 1,zia 15 12 13 [TI],zst 15 14 1]),(.reg [zmv 16 1,zbi 17 .add 16 (zki 1),zmv 1 17])])),(.reg [zmv 10 5,zbi 11 .add 10 (zki 1),zmv 5 11])])
def QgK:List (Nat × Md):=[(0,.one .f),(1,.one .d),(5,.one .d)]
def QfH:TCode :=
 (zsq [(.reg [zmv 18 1,zmv 4 18]),.ret])
def QjC:TCode :=
 (zsq [(.reg [zmv 4 (zki 0)]),(zsq [(.reg [zmv 5 (zki 0)]),(.block 0 (.loop QgK Qes))]),QfH])
def Qdy:List (ARv × Md):=[(.t 4,.one .d)]
def Qd3:Qh:=TQ 0 1 Qdy K
def Qnf:Qh:=Qseq (tawp Qak 1 QfH (Qd3 K)) (Qd3 K)
def QmU:Qh:=Qblk 0 (Qnf K)
def JX (a:List Int) (k1:Int) (i:Int) (a1:List Int):Prop:=Loop Qak 1 QgK Qes (QmU K) ⟨[(0,(.r [TI] 0 0 a.length)),(1,(zci k1)),(5,(zci i))],[(0,(.sl 0 [TI] (.dp 0 false []) a1))],1⟩
theorem Qhn (a:List Int) (k1:Int) (i:Int) (a1:List Int) (h :
 (zif (decide (i<((a.length:Nat):Int))) ((((0:Int)≤i∧Int.toNat i<a.length)∧((0+(Int.toNat i))<a1.length))∧(JX K a (w64 (k1+(1:Int))) (w64 (i+(1:Int))) ((a1).set (0+(Int.toNat i)) k1))) (K (Z3 (k1,a1))))):JX K a k1 i a1 :=
 Loop.of (by kernel_rfl) h
theorem QnP (a:List Int) (k:Int) (h :
 (JX K a k 0 a)):Hold (tawp Qak (0+1) QjC (TQ 0 1 Qdy K) (Ql [(.ow 0 [TI] dw a),(.c TI k)])) :=
 Hold.of (by kernel_rfl) h
theorem Qkp (a:List Int) (k:Int):TCon Try.prog 69 [(.ow 0 [TI] dw a),(.c TI k)] (Z3 (QF (α:=List Int) a k)):=by
 refine Qp rfl fun hb=>tcg (Γ:=Qak) (n:=19) (sg:=Qal.sg) Qq TOkL.nil (by kernel_rfl) (by kernel_rfl) (QnP _ a k ?_)
 have hl_a:a.length≤9223372036854775807:=hb.1.1
 refine QfK (A:=fun kk ii ll=>JX (fun r'=>r'=Z3 (QF (α:=List Int) a k)) a kk ii ll) (Q:=fun z=>Z3 z=Z3 (QF (α:=List Int) a k)) a k ?_ ?_ rfl
 ·intro kk pre post x hl hA
  have hlt:pre.length<a.length:=by omega
  have hw:w64 (((pre.length:Nat):Int)+1)=((pre.length+1:Nat):Int):=by rw [Q0 (by omega) (by omega)];omega
  refine Qhn (fun r'=>r'=Z3 (QF (α:=List Int) a k)) a kk ((pre.length:Nat):Int) (pre++x::post) ?_
  refine ⟨fun _=>?_,fun h=>absurd h (by simp;omega)⟩
  simp only [Int.toNat_natCast,Nat.zero_add,Qf5,Qdl,YS,Qhr,hw,lt_f,hlt,QaS,and_true,true_and,Int.natCast_nonneg]
  exact hA
 ·intro kk l hl hq
  refine Qhn (fun r'=>r'=Z3 (QF (α:=List Int) a k)) a kk ((a.length:Nat):Int) l ?_
  exact ⟨fun h=>absurd h (by simp),fun _=>hq⟩
theorem QgX:Qm Try.prog Qal:=Qt fun x _=>Qkp x.1 x.2.1
def ZL (t:Int):TRes:=zre (zci t)
def Qc3:TRow:=Qn 70 [(.c (.sl [TI])),(.c TI)] fun x=>(some (QP (α:=List Int) x.1 x.2.1),ZL (m_held (α:=List Int) x.1 x.2.1))
def Qay:TTab:=⟨[],false⟩
def Qga:TCode :=
 (zsq [(zsq [(.reg [zmv 6 5,zmv 7 0,zle 8 7,zbi 9 .lss 6 8]),(.cond 9 .skip (.exit 0))]),(.block 1 (zsq [(zsq [(.reg [zmv 12 0,zmv 13 5,zia 14 12 13 [TI],zld 15 14 1,zmv 16 1,zbi 17 .neq 15 16]),(.cond 17 (zsq [(.reg [zmv 4 (zki (-1))]),.ret]) .skip)]),(.reg [zmv 18 1,zbi 19 .add 18 (zki 1),zmv 1 19])])),(.reg [zmv 10 5,zbi 11 .add 10 (zki 1),zmv 5 11])])
def QhT:List (Nat × Md):=zdl [0,1,5]
def Qhs:TCode :=
 (zsq [(.reg [zmv 20 1,zmv 4 20]),.ret])
def QkZ:TCode :=
 (zsq [(.reg [zmv 4 (zki 0)]),(zsq [(.reg [zmv 5 (zki 0)]),(.block 0 (.loop QhT Qga))]),Qhs])
def QhY:List (ARv × Md):=[(.t 4,.one .d)]
def Qf7:Qh:=TQ 0 0 QhY K
def Qk4:Qh:=Qseq (tawp Qay 0 Qhs (Qf7 K)) (Qf7 K)
def QmV:Qh:=Qblk 0 (Qk4 K)
def JU (a:List Int) (k1:Int) (i:Int):Prop:=Loop Qay 0 QhT Qga (QmV K) ⟨[(0,(zcs [TI] a)),(1,(zci k1)),(5,(zci i))],[],0⟩
theorem QgD (a:List Int) (k1:Int) (i:Int) (h :
 (zif (decide (i<(a.length:Int))) (((0:Int)≤i∧Int.toNat i<a.length)∧(zif ((gtd (0:Int) a (Int.toNat i)) != k1) (K (ZL (-1:Int))) (JU K a (w64 (k1+(1:Int))) (w64 (i+(1:Int)))))) (K (ZL k1)))):JU K a k1 i :=
 Loop.of (by kernel_rfl) h
theorem Qi8 (a:List Int) (k:Int) (h :
 (JU K a k 0)):Hold (tawp Qay (0+0) QkZ (TQ 0 0 QhY K) (Ql [(.c (.sl [TI]) a),(.c TI k)])) :=
 Hold.of (by kernel_rfl) h
theorem Ql6 (a:List Int) (k:Int) (hp:QP (α:=List Int) a k):TCon Try.prog 70 [(.c (.sl [TI]) a),(.c TI k)] (ZL (m_held (α:=List Int) a k)):=by
 refine Qp rfl fun hb=>tcg (Γ:=Qay) (n:=21) (sg:=Qc3.sg) Qq TOkL.nil (by kernel_rfl) (by kernel_rfl) (Qi8 _ a k ?_)
 have hl_a:a.length≤9223372036854775807:=hb.1.1
 refine Qd2 (A:=fun kk ii=>JU (fun r'=>r'=ZL (m_held (α:=List Int) a k)) a kk ii) (Q:=fun z=>ZL z=ZL (m_held (α:=List Int) a k)) a k hp ?_ ?_ rfl
 ·intro kk pre post x ha hpx hneg hpos
  have hlt:pre.length<a.length:=by rw [ha];simp
  have hg:∀ d,gtd d a pre.length=x:=fun d=>by rw [ha];exact YS d pre post x
  have hw:w64 (((pre.length:Nat):Int)+1)=((pre.length+1:Nat):Int):=by rw [Q0 (by omega) (by omega)];omega
  refine QgD (fun r'=>r'=ZL (m_held (α:=List Int) a k)) a kk ((pre.length:Nat):Int) ?_
  refine ⟨fun _=>?_,fun h=>absurd h (by simp;omega)⟩
  simp only [Int.toNat_natCast,hg,hw,hlt,QaS,and_true,true_and,Int.natCast_nonneg]
  simp only [QgJ,Qgl,Qf2,Prod.ext_iff] at hneg hpos
  refine ⟨fun h=>hneg (fun e=>Qfv h (e).symm),fun h0=>?_⟩
  have e0:=(Qdk h0).symm
  exact hpos e0
 ·intro kk hq
  refine QgD (fun r'=>r'=ZL (m_held (α:=List Int) a k)) a kk ((a.length:Nat):Int) ?_
  exact ⟨fun h=>absurd h (by simp),fun _=>hq⟩
theorem Qjb:Qm Try.prog Qc3:=Qt fun x h=>Ql6 x.1 x.2.1 h
def ZS (t:Int × (List Qb)):TRes:=⟨(zci t.1),[],[],true,[(.sl 0 Qc (.dp 0 false []) t.2)]⟩
def Qb0:TRow:=Qn 129 [(.d Qc),(.c TI)] fun x=>(none,ZS (QF (α:=List Qb) x.1 x.2.1))
def QaT:TTab:=⟨[Qal],true⟩
def Qew:TCode :=
 (zsq [(zsq [(.reg [zmv 6 5,zmv 7 0,zle 8 7,zbi 9 .lss 6 8]),(.cond 9 .skip (.exit 0))]),(.block 1 (zsq [(.reg [zmv 12 0,zmv 13 5,zmv 14 1,zia 15 12 13 Qc,zfa 16 15 0,zst 16 14 1]),(.reg [zmv 17 1,zbi 18 .add 17 (zki 1),zmv 1 18]),(.reg [zmv 19 0,zmv 20 5,zia 21 19 20 Qc,zfa 22 21 1,zld 23 22 1,zmv 24 1,zca 25 69 [23,24],zmv 1 25])])),(.reg [zmv 10 5,zbi 11 .add 10 (zki 1),zmv 5 11])])
def QgE:List (Nat × Md):=[(0,.one .f),(1,.one .d),(5,.one .d)]
def QeK:TCode :=
 (zsq [(.reg [zmv 26 1,zmv 4 26]),.ret])
def Qmi:TCode :=
 (zsq [(.reg [zmv 4 (zki 0)]),(zsq [(.reg [zmv 5 (zki 0)]),(.block 0 (.loop QgE Qew))]),QeK])
def Qgp:List (ARv × Md):=[(.t 4,.one .d)]
def Qib:Qh:=TQ 0 1 Qgp K
def Qm4:Qh:=Qseq (tawp QaT 1 QeK (Qib K)) (Qib K)
def Qlw:Qh:=Qblk 0 (Qm4 K)
def J8 (a:List Qb) (k1:Int) (i:Int) (a1:List Qb):Prop:=Loop QaT 1 QgE Qew (Qlw K) ⟨[(0,(.r Qc 0 0 a.length)),(1,(zci k1)),(5,(zci i))],[(0,(.sl 0 Qc (.dp 0 false []) a1))],1⟩
theorem QgS (a:List Qb) (k1:Int) (i:Int) (a1:List Qb) (h :
 (zif (decide (i<((a.length:Nat):Int))) ((((0:Int)≤i∧Int.toNat i<a.length)∧((0+(Int.toNat i))<a1.length))∧((((0:Int)≤i∧Int.toNat i<a.length)∧(((0+(Int.toNat i))<((sst ((0,[]):Qb) (0+(Int.toNat i)) (fun e_ k_=>(k_,e_.2)) (k1,a1)).2).length)∧((0+(Int.toNat i))<((sst ((0,[]):Qb) (0+(Int.toNat i)) (fun e_ k_=>(k_,e_.2)) (k1,a1)).2).length)))∧(J8 K a ((nst ((0,[]):Qb) (0+(Int.toNat i)) (fun e_=>e_.2) (fun e_ y_=>(e_.1,y_)) (QF (α:=List Int)) (sst ((0,[]):Qb) (0+(Int.toNat i)) (fun e_ k_=>(k_,e_.2)) (k1,a1))).1) (w64 (i+(1:Int))) ((nst ((0,[]):Qb) (0+(Int.toNat i)) (fun e_=>e_.2) (fun e_ y_=>(e_.1,y_)) (QF (α:=List Int)) (sst ((0,[]):Qb) (0+(Int.toNat i)) (fun e_ k_=>(k_,e_.2)) (k1,a1))).2)))) (K (ZS (k1,a1))))):J8 K a k1 i a1 :=
 Loop.of (by kernel_rfl) h
theorem Qmg (a:List Qb) (k:Int) (h :
 (J8 K a k 0 a)):Hold (tawp QaT (0+1) Qmi (TQ 0 1 Qgp K) (Ql [(.ow 0 Qc dw a),(.c TI k)])) :=
 Hold.of (by kernel_rfl) h
theorem QjB (a:List Qb) (k:Int):TCon Try.prog 129 [(.ow 0 Qc dw a),(.c TI k)] (ZS (QF (α:=List Qb) a k)):=by
 refine Qp rfl fun hb=>tcg (Γ:=QaT) (n:=27) (sg:=Qb0.sg) Qq (TOkL.cons QgX TOkL.nil) (by kernel_rfl) (by kernel_rfl) (Qmg _ a k ?_)
 have hl_a:a.length≤9223372036854775807:=hb.1.1
 refine QfK (A:=fun kk ii ll=>J8 (fun r'=>r'=ZS (QF (α:=List Qb) a k)) a kk ii ll) (Q:=fun z=>ZS z=ZS (QF (α:=List Qb) a k)) a k ?_ ?_ rfl
 ·intro kk pre post x hl hA
  have hlt:pre.length<a.length:=by omega
  have hw:w64 (((pre.length:Nat):Int)+1)=((pre.length+1:Nat):Int):=by rw [Q0 (by omega) (by omega)];omega
  refine QgS (fun r'=>r'=ZS (QF (α:=List Qb) a k)) a kk ((pre.length:Nat):Int) (pre++x::post) ?_
  refine ⟨fun _=>?_,fun h=>absurd h (by simp;omega)⟩
  simp only [Int.toNat_natCast,Nat.zero_add,Qf5,Qdl,YS,Qhr,hw,lt_f,hlt,QaS,and_true,true_and,Int.natCast_nonneg]
  exact hA
 ·intro kk l hl hq
  refine QgS (fun r'=>r'=ZS (QF (α:=List Qb) a k)) a kk ((a.length:Nat):Int) l ?_
  exact ⟨fun h=>absurd h (by simp),fun _=>hq⟩
theorem Qlp:Qm Try.prog Qb0:=Qt fun x _=>QjB x.1 x.2.1
def Zu (t:Int):TRes:=zre (zci t)
def Qbg:TRow:=Qn 130 [(.c (.sl Qc)),(.c TI)] fun x=>(some (QP (α:=List Qb) x.1 x.2.1),Zu (m_held (α:=List Qb) x.1 x.2.1))
def QaJ:TTab:=⟨[Qc3],false⟩
def Qfq:TCode :=
 (zsq [(zsq [(.reg [zmv 6 5,zmv 7 0,zle 8 7,zbi 9 .lss 6 8]),(.cond 9 .skip (.exit 0))]),(.block 1 (zsq [(zsq [(.reg [zmv 12 0,zmv 13 5,zia 14 12 13 Qc,zfa 15 14 0,zld 16 15 1,zmv 17 1,zbi 18 .neq 16 17]),(.cond 18 (zsq [(.reg [zmv 4 (zki (-1))]),.ret]) .skip)]),(.reg [zmv 19 1,zbi 20 .add 19 (zki 1),zmv 1 20]),(.reg [zmv 21 0,zmv 22 5,zia 23 21 22 Qc,zfa 24 23 1,zld 25 24 1,zmv 26 1,zca 27 70 [25,26],zmv 1 27]),(.reg [zmv 28 1,zbi 29 .lss 28 (zki 0)]),(.cond 29 (zsq [(.reg [zmv 4 (zki (-1))]),.ret]) .skip)])),(.reg [zmv 10 5,zbi 11 .add 10 (zki 1),zmv 5 11])])
def QgG:List (Nat × Md):=zdl [0,1,5]
def Qdr:TCode :=
 (zsq [(.reg [zmv 30 1,zmv 4 30]),.ret])
def Ql1:TCode :=
 (zsq [(.reg [zmv 4 (zki 0)]),(zsq [(.reg [zmv 5 (zki 0)]),(.block 0 (.loop QgG Qfq))]),Qdr])
def QhR:List (ARv × Md):=[(.t 4,.one .d)]
def QdH:Qh:=TQ 0 0 QhR K
def Qn7:Qh:=Qseq (tawp QaJ 0 Qdr (QdH K)) (QdH K)
def Ql4:Qh:=Qblk 0 (Qn7 K)
def QaP (a:List Qb) (k1:Int) (i:Int):Prop:=Loop QaJ 0 QgG Qfq (Ql4 K) ⟨[(0,(zcs Qc a)),(1,(zci k1)),(5,(zci i))],[],0⟩
theorem QhK (a:List Qb) (k1:Int) (i:Int) (h :
 (zif (decide (i<(a.length:Int))) (((0:Int)≤i∧Int.toNat i<a.length)∧(zif (((gtd ((0,[]):Qb) a (Int.toNat i)).1) != k1) (K (Zu (-1:Int))) ((((0:Int)≤i∧Int.toNat i<a.length)∧(QP (α:=List Int) ((gtd ((0,[]):Qb) a (Int.toNat i)).2) (w64 (k1+(1:Int)))))∧(zif (decide ((m_held (α:=List Int) ((gtd ((0,[]):Qb) a (Int.toNat i)).2) (w64 (k1+(1:Int))))<(0:Int))) (K (Zu (-1:Int))) (QaP K a (m_held (α:=List Int) ((gtd ((0,[]):Qb) a (Int.toNat i)).2) (w64 (k1+(1:Int)))) (w64 (i+(1:Int)))))))) (K (Zu k1)))):QaP K a k1 i :=
 Loop.of (by kernel_rfl) h
theorem Qnw (a:List Qb) (k:Int) (h :
 (QaP K a k 0)):Hold (tawp QaJ (0+0) Ql1 (TQ 0 0 QhR K) (Ql [(.c (.sl Qc) a),(.c TI k)])) :=
 Hold.of (by kernel_rfl) h
theorem Qk6 (a:List Qb) (k:Int) (hp:QP (α:=List Qb) a k):TCon Try.prog 130 [(.c (.sl Qc) a),(.c TI k)] (Zu (m_held (α:=List Qb) a k)):=by
 refine Qp rfl fun hb=>tcg (Γ:=QaJ) (n:=31) (sg:=Qbg.sg) Qq (TOkL.cons Qjb TOkL.nil) (by kernel_rfl) (by kernel_rfl) (Qnw _ a k ?_)
 have hl_a:a.length≤9223372036854775807:=hb.1.1
 refine Qd2 (A:=fun kk ii=>QaP (fun r'=>r'=Zu (m_held (α:=List Qb) a k)) a kk ii) (Q:=fun z=>Zu z=Zu (m_held (α:=List Qb) a k)) a k hp ?_ ?_ rfl
 ·intro kk pre post x ha hpx hneg hpos
  have hlt:pre.length<a.length:=by rw [ha];simp
  have hg:∀ d,gtd d a pre.length=x:=fun d=>by rw [ha];exact YS d pre post x
  have hw:w64 (((pre.length:Nat):Int)+1)=((pre.length+1:Nat):Int):=by rw [Q0 (by omega) (by omega)];omega
  refine QhK (fun r'=>r'=Zu (m_held (α:=List Qb) a k)) a kk ((pre.length:Nat):Int) ?_
  refine ⟨fun _=>?_,fun h=>absurd h (by simp;omega)⟩
  simp only [Int.toNat_natCast,hg,hw,hlt,QaS,and_true,true_and,Int.natCast_nonneg]
  have hp0:=(Qfi hpx).1
  have hq0:=(Qfi hpx).2
  simp only [QgJ,Qgl,Qf2,Prod.ext_iff] at hneg hpos hp0 hq0
  refine ⟨fun h=>hneg (fun e=>Qfv h (e.1).symm),fun h0=>?_⟩
  have e0:=(Qdk h0).symm
  refine ⟨hq0,fun h=>hneg (fun e=>Qea hq0 (of_decide_eq_true h) (e.2)),fun h1=>?_⟩
  obtain ⟨e1,h1⟩:=QdL (of_decide_eq_false h1)
  rw [h1]
  exact hpos ⟨e0,e1⟩
 ·intro kk hq
  refine QhK (fun r'=>r'=Zu (m_held (α:=List Qb) a k)) a kk ((a.length:Nat):Int) ?_
  exact ⟨fun h=>absurd h (by simp),fun _=>hq⟩
theorem QjQ:Qm Try.prog Qbg:=Qt fun x h=>Qk6 x.1 x.2.1 h
end
end Go.Proofs.Ytephkbajoofeoaa.Am

