/- -/
import Derived.Test.YtephkbajoofeoaaWBGF
namespace Go.Proofs.Ytephkbajoofeoaa.Am
open Go Go.RowKit Go.Proofs.Ytephkbajoofeoaa
set_option linter.all false
noncomputable section
variable (K:TRes→Prop)
def ZX (t:Int × (List Int)):TRes:=⟨(zci t.1),[],[],true,[(.sl 0 [TI] (.dp 0 false []) t.2)]⟩
def Qah:TRow:=Qm 69 [(.d [TI]),(.c TI)] fun x=>(none,ZX (QL (α:=List Int) x.1 x.2.1))
def Qa4:TTab:=⟨[],true⟩
def QfX:TCode :=
 (zsq [(zsq [(.reg [zmv 6 5,zmv 7 0,zle 8 7,zbi 9 .lss 6 8]),(.cond 9 .skip (.exit 0))]),(.block 1 (zsq [(.reg [zmv 12 0,zmv 13 5,zmv 14 1,zia 15 12 13 [TI],zst 15 14 1]),(.reg [zmv 16 1,zbi 17 .add 16 (zki 1),zmv 1 17])])),(.reg [zmv 10 5,zbi 11 .add 10 (zki 1),zmv 5 11])])
def QgV:List (Nat × Md):=[(0,.one .f),(1,.one .d),(5,.one .d)]
def QhE:TCode :=
 (zsq [(.reg [zmv 18 1,zmv 4 18]),.ret])
def QiG:TCode :=
 (zsq [(.reg [zmv 4 (zki 0)]),(zsq [(.reg [zmv 5 (zki 0)]),(.block 0 (.loop QgV QfX))]),QhE])
def QeU:List (ARv × Md):=[(.t 4,.one .d)]
def Qew:Qh:=TQ 0 1 QeU K
def QmK:Qh:=Qseq (tawp Qa4 1 QhE (Qew K)) (Qew K)
def Qk3:Qh:=Qblk 0 (QmK K)
def Qau (a:List Int) (k1:Int) (i:Int) (a1:List Int):Prop:=Loop Qa4 1 QgV QfX (Qk3 K) ⟨[(0,(.r [TI] 0 0 a.length)),(1,(zci k1)),(5,(zci i))],[(0,(.sl 0 [TI] (.dp 0 false []) a1))],1⟩
theorem Qf9 (a:List Int) (k1:Int) (i:Int) (a1:List Int) (h :
 (zif (decide (i<((a.length:Nat):Int))) ((((0:Int)≤i∧Int.toNat i<a.length)∧((0+(Int.toNat i))<a1.length))∧(Qau K a (w64 (k1+(1:Int))) (w64 (i+(1:Int))) ((a1).set (0+(Int.toNat i)) k1))) (K (ZX (k1,a1))))):Qau K a k1 i a1 :=
 Loop.of (by kernel_rfl) h
theorem Qjw (a:List Int) (k:Int) (h :
 (Qau K a k 0 a)):Hold (tawp Qa4 (0+1) QiG (TQ 0 1 QeU K) (Qk [(.ow 0 [TI] dw a),(.c TI k)])) :=
 Hold.of (by kernel_rfl) h
theorem Qjp (a:List Int) (k:Int):TCon Try.prog 69 [(.ow 0 [TI] dw a),(.c TI k)] (ZX (QL (α:=List Int) a k)):=by
 refine Qr rfl fun hb=>tcg (Γ:=Qa4) (n:=19) (sg:=Qah.sg) Qq TOkL.nil (by kernel_rfl) (by kernel_rfl) (Qjw _ a k ?_)
 have hl_a:a.length≤9223372036854775807:=hb.1.1
 refine Qfk (A:=fun kk ii ll=>Qau (fun r'=>r'=ZX (QL (α:=List Int) a k)) a kk ii ll) (Q:=fun z=>ZX z=ZX (QL (α:=List Int) a k)) a k ?_ ?_ rfl
 ·intro kk pre post x hl hA
  have hlt:pre.length<a.length:=by omega
  have hw:w64 (((pre.length:Nat):Int)+1)=((pre.length+1:Nat):Int):=by rw [QZ (by omega) (by omega)];omega
  refine Qf9 (fun r'=>r'=ZX (QL (α:=List Int) a k)) a kk ((pre.length:Nat):Int) (pre++x::post) ?_
  refine ⟨fun _=>?_,fun h=>absurd h (by simp;omega)⟩
  simp only [Int.toNat_natCast,Nat.zero_add,Qe9,Qgp,YO,QeQ,hw,lt_f,hlt,JQ,and_true,true_and,Int.natCast_nonneg]
  exact hA
 ·intro kk l hl hq
  refine Qf9 (fun r'=>r'=ZX (QL (α:=List Int) a k)) a kk ((a.length:Nat):Int) l ?_
  exact ⟨fun h=>absurd h (by simp),fun _=>hq⟩
theorem Qga:Qn Try.prog Qah:=Qs fun x _=>Qjp x.1 x.2.1
def Zx (t:Int):TRes:=zre (zci t)
def Qad:TRow:=Qm 70 [(.c (.sl [TI])),(.c TI)] fun x=>(some (QN (α:=List Int) x.1 x.2.1),Zx (m_held (α:=List Int) x.1 x.2.1))
def Qal:TTab:=⟨[],false⟩
def Qfm:TCode :=
 (zsq [(zsq [(.reg [zmv 6 5,zmv 7 0,zle 8 7,zbi 9 .lss 6 8]),(.cond 9 .skip (.exit 0))]),(.block 1 (zsq [(zsq [(.reg [zmv 12 0,zmv 13 5,zia 14 12 13 [TI],zld 15 14 1,zmv 16 1,zbi 17 .neq 15 16]),(.cond 17 (zsq [(.reg [zmv 4 (zki (-1))]),.ret]) .skip)]),(.reg [zmv 18 1,zbi 19 .add 18 (zki 1),zmv 1 19])])),(.reg [zmv 10 5,zbi 11 .add 10 (zki 1),zmv 5 11])])
def QhO:List (Nat × Md):=zdl [0,1,5]
def Qe7:TCode :=
 (zsq [(.reg [zmv 20 1,zmv 4 20]),.ret])
def QnZ:TCode :=
 (zsq [(.reg [zmv 4 (zki 0)]),(zsq [(.reg [zmv 5 (zki 0)]),(.block 0 (.loop QhO Qfm))]),Qe7])
def Qe1:List (ARv × Md):=[(.t 4,.one .d)]
def QdH:Qh:=TQ 0 0 Qe1 K
def QiZ:Qh:=Qseq (tawp Qal 0 Qe7 (QdH K)) (QdH K)
def QkW:Qh:=Qblk 0 (QiZ K)
def Qax (a:List Int) (k1:Int) (i:Int):Prop:=Loop Qal 0 QhO Qfm (QkW K) ⟨[(0,(zcs [TI] a)),(1,(zci k1)),(5,(zci i))],[],0⟩
theorem QdD (a:List Int) (k1:Int) (i:Int) (h :
 (zif (decide (i<(a.length:Int))) (((0:Int)≤i∧Int.toNat i<a.length)∧(zif ((gtd (0:Int) a (Int.toNat i)) != k1) (K (Zx (-1:Int))) (Qax K a (w64 (k1+(1:Int))) (w64 (i+(1:Int)))))) (K (Zx k1)))):Qax K a k1 i :=
 Loop.of (by kernel_rfl) h
theorem Qkf (a:List Int) (k:Int) (h :
 (Qax K a k 0)):Hold (tawp Qal (0+0) QnZ (TQ 0 0 Qe1 K) (Qk [(.c (.sl [TI]) a),(.c TI k)])) :=
 Hold.of (by kernel_rfl) h
theorem Qmm (a:List Int) (k:Int) (hp:QN (α:=List Int) a k):TCon Try.prog 70 [(.c (.sl [TI]) a),(.c TI k)] (Zx (m_held (α:=List Int) a k)):=by
 refine Qr rfl fun hb=>tcg (Γ:=Qal) (n:=21) (sg:=Qad.sg) Qq TOkL.nil (by kernel_rfl) (by kernel_rfl) (Qkf _ a k ?_)
 have hl_a:a.length≤9223372036854775807:=hb.1.1
 refine Qfs (A:=fun kk ii=>Qax (fun r'=>r'=Zx (m_held (α:=List Int) a k)) a kk ii) (Q:=fun z=>Zx z=Zx (m_held (α:=List Int) a k)) a k hp ?_ ?_ rfl
 ·intro kk pre post x ha hpx hneg hpos
  have hlt:pre.length<a.length:=by rw [ha];simp
  have hg:∀ d,gtd d a pre.length=x:=fun d=>by rw [ha];exact YO d pre post x
  have hw:w64 (((pre.length:Nat):Int)+1)=((pre.length+1:Nat):Int):=by rw [QZ (by omega) (by omega)];omega
  refine QdD (fun r'=>r'=Zx (m_held (α:=List Int) a k)) a kk ((pre.length:Nat):Int) ?_
  refine ⟨fun _=>?_,fun h=>absurd h (by simp;omega)⟩
  simp only [Int.toNat_natCast,hg,hw,hlt,JQ,and_true,true_and,Int.natCast_nonneg]
  simp only [Qgr,QfM,Qgo,Prod.ext_iff] at hneg hpos
  refine ⟨fun h=>hneg (fun e=>Qez h (e).symm),fun h0=>?_⟩
  have e0:=(QgW h0).symm
  exact hpos e0
 ·intro kk hq
  refine QdD (fun r'=>r'=Zx (m_held (α:=List Int) a k)) a kk ((a.length:Nat):Int) ?_
  exact ⟨fun h=>absurd h (by simp),fun _=>hq⟩
theorem Qey:Qn Try.prog Qad:=Qs fun x h=>Qmm x.1 x.2.1 h
def Z0 (t:Int × (List Qb)):TRes:=⟨(zci t.1),[],[],true,[(.sl 0 Qc (.dp 0 false []) t.2)]⟩
def QbE:TRow:=Qm 129 [(.d Qc),(.c TI)] fun x=>(none,Z0 (QL (α:=List Qb) x.1 x.2.1))
def J3:TTab:=⟨[Qah],true⟩
def Qg2:TCode :=
 (zsq [(zsq [(.reg [zmv 6 5,zmv 7 0,zle 8 7,zbi 9 .lss 6 8]),(.cond 9 .skip (.exit 0))]),(.block 1 (zsq [(.reg [zmv 12 0,zmv 13 5,zmv 14 1,zia 15 12 13 Qc,zfa 16 15 0,zst 16 14 1]),(.reg [zmv 17 1,zbi 18 .add 17 (zki 1),zmv 1 18]),(.reg [zmv 19 0,zmv 20 5,zia 21 19 20 Qc,zfa 22 21 1,zld 23 22 1,zmv 24 1,zca 25 69 [23,24],zmv 1 25])])),(.reg [zmv 10 5,zbi 11 .add 10 (zki 1),zmv 5 11])])
def Qgd:List (Nat × Md):=[(0,.one .f),(1,.one .d),(5,.one .d)]
def Qej:TCode :=
 (zsq [(.reg [zmv 26 1,zmv 4 26]),.ret])
def Qkr:TCode :=
 (zsq [(.reg [zmv 4 (zki 0)]),(zsq [(.reg [zmv 5 (zki 0)]),(.block 0 (.loop Qgd Qg2))]),Qej])
def Qer:List (ARv × Md):=[(.t 4,.one .d)]
def Qf6:Qh:=TQ 0 1 Qer K
def Qmr:Qh:=Qseq (tawp J3 1 Qej (Qf6 K)) (Qf6 K)
def Qjj:Qh:=Qblk 0 (Qmr K)
def Qaa (a:List Qb) (k1:Int) (i:Int) (a1:List Qb):Prop:=Loop J3 1 Qgd Qg2 (Qjj K) ⟨[(0,(.r Qc 0 0 a.length)),(1,(zci k1)),(5,(zci i))],[(0,(.sl 0 Qc (.dp 0 false []) a1))],1⟩
theorem Qgw (a:List Qb) (k1:Int) (i:Int) (a1:List Qb) (h :
 (zif (decide (i<((a.length:Nat):Int))) ((((0:Int)≤i∧Int.toNat i<a.length)∧((0+(Int.toNat i))<a1.length))∧((((0:Int)≤i∧Int.toNat i<a.length)∧(((0+(Int.toNat i))<((sst ((0,[]):Qb) (0+(Int.toNat i)) (fun e_ k_=>(k_,e_.2)) (k1,a1)).2).length)∧((0+(Int.toNat i))<((sst ((0,[]):Qb) (0+(Int.toNat i)) (fun e_ k_=>(k_,e_.2)) (k1,a1)).2).length)))∧(Qaa K a ((nst ((0,[]):Qb) (0+(Int.toNat i)) (fun e_=>e_.2) (fun e_ y_=>(e_.1,y_)) (QL (α:=List Int)) (sst ((0,[]):Qb) (0+(Int.toNat i)) (fun e_ k_=>(k_,e_.2)) (k1,a1))).1) (w64 (i+(1:Int))) ((nst ((0,[]):Qb) (0+(Int.toNat i)) (fun e_=>e_.2) (fun e_ y_=>(e_.1,y_)) (QL (α:=List Int)) (sst ((0,[]):Qb) (0+(Int.toNat i)) (fun e_ k_=>(k_,e_.2)) (k1,a1))).2)))) (K (Z0 (k1,a1))))):Qaa K a k1 i a1 :=
 Loop.of (by kernel_rfl) h
theorem Qil (a:List Qb) (k:Int) (h :
 (Qaa K a k 0 a)):Hold (tawp J3 (0+1) Qkr (TQ 0 1 Qer K) (Qk [(.ow 0 Qc dw a),(.c TI k)])) :=
 Hold.of (by kernel_rfl) h
theorem Qmf (a:List Qb) (k:Int):TCon Try.prog 129 [(.ow 0 Qc dw a),(.c TI k)] (Z0 (QL (α:=List Qb) a k)):=by
 refine Qr rfl fun hb=>tcg (Γ:=J3) (n:=27) (sg:=QbE.sg) Qq (TOkL.cons Qga TOkL.nil) (by kernel_rfl) (by kernel_rfl) (Qil _ a k ?_)
 have hl_a:a.length≤9223372036854775807:=hb.1.1
 refine Qfk (A:=fun kk ii ll=>Qaa (fun r'=>r'=Z0 (QL (α:=List Qb) a k)) a kk ii ll) (Q:=fun z=>Z0 z=Z0 (QL (α:=List Qb) a k)) a k ?_ ?_ rfl
 ·intro kk pre post x hl hA
  have hlt:pre.length<a.length:=by omega
  have hw:w64 (((pre.length:Nat):Int)+1)=((pre.length+1:Nat):Int):=by rw [QZ (by omega) (by omega)];omega
  refine Qgw (fun r'=>r'=Z0 (QL (α:=List Qb) a k)) a kk ((pre.length:Nat):Int) (pre++x::post) ?_
  refine ⟨fun _=>?_,fun h=>absurd h (by simp;omega)⟩
  simp only [Int.toNat_natCast,Nat.zero_add,Qe9,Qgp,YO,QeQ,hw,lt_f,hlt,JQ,and_true,true_and,Int.natCast_nonneg]
  exact hA
 ·intro kk l hl hq
  refine Qgw (fun r'=>r'=Z0 (QL (α:=List Qb) a k)) a kk ((a.length:Nat):Int) l ?_
  exact ⟨fun h=>absurd h (by simp),fun _=>hq⟩
theorem Qj7:Qn Try.prog QbE:=Qs fun x _=>Qmf x.1 x.2.1
def Zu (t:Int):TRes:=zre (zci t)
def Qde:TRow:=Qm 130 [(.c (.sl Qc)),(.c TI)] fun x=>(some (QN (α:=List Qb) x.1 x.2.1),Zu (m_held (α:=List Qb) x.1 x.2.1))
def Qan:TTab:=⟨[Qad],false⟩
def Qdv:TCode :=
 (zsq [(zsq [(.reg [zmv 6 5,zmv 7 0,zle 8 7,zbi 9 .lss 6 8]),(.cond 9 .skip (.exit 0))]),(.block 1 (zsq [(zsq [(.reg [zmv 12 0,zmv 13 5,zia 14 12 13 Qc,zfa 15 14 0,zld 16 15 1,zmv 17 1,zbi 18 .neq 16 17]),(.cond 18 (zsq [(.reg [zmv 4 (zki (-1))]),.ret]) .skip)]),(.reg [zmv 19 1,zbi 20 .add 19 (zki 1),zmv 1 20]),(.reg [zmv 21 0,zmv 22 5,zia 23 21 22 Qc,zfa 24 23 1,zld 25 24 1,zmv 26 1,zca 27 70 [25,26],zmv 1 27]),(.reg [zmv 28 1,zbi 29 .lss 28 (zki 0)]),(.cond 29 (zsq [(.reg [zmv 4 (zki (-1))]),.ret]) .skip)])),(.reg [zmv 10 5,zbi 11 .add 10 (zki 1),zmv 5 11])])
def QdI:List (Nat × Md):=zdl [0,1,5]
def Qd7:TCode :=
 (zsq [(.reg [zmv 30 1,zmv 4 30]),.ret])
def Ql6:TCode :=
 (zsq [(.reg [zmv 4 (zki 0)]),(zsq [(.reg [zmv 5 (zki 0)]),(.block 0 (.loop QdI Qdv))]),Qd7])
def QfL:List (ARv × Md):=[(.t 4,.one .d)]
def Qfp:Qh:=TQ 0 0 QfL K
def QkL:Qh:=Qseq (tawp Qan 0 Qd7 (Qfp K)) (Qfp K)
def QjM:Qh:=Qblk 0 (QkL K)
def Qar (a:List Qb) (k1:Int) (i:Int):Prop:=Loop Qan 0 QdI Qdv (QjM K) ⟨[(0,(zcs Qc a)),(1,(zci k1)),(5,(zci i))],[],0⟩
theorem Qgs (a:List Qb) (k1:Int) (i:Int) (h :
 (zif (decide (i<(a.length:Int))) (((0:Int)≤i∧Int.toNat i<a.length)∧(zif (((gtd ((0,[]):Qb) a (Int.toNat i)).1) != k1) (K (Zu (-1:Int))) ((((0:Int)≤i∧Int.toNat i<a.length)∧(QN (α:=List Int) ((gtd ((0,[]):Qb) a (Int.toNat i)).2) (w64 (k1+(1:Int)))))∧(zif (decide ((m_held (α:=List Int) ((gtd ((0,[]):Qb) a (Int.toNat i)).2) (w64 (k1+(1:Int))))<(0:Int))) (K (Zu (-1:Int))) (Qar K a (m_held (α:=List Int) ((gtd ((0,[]):Qb) a (Int.toNat i)).2) (w64 (k1+(1:Int)))) (w64 (i+(1:Int)))))))) (K (Zu k1)))):Qar K a k1 i :=
 Loop.of (by kernel_rfl) h
theorem Qiv (a:List Qb) (k:Int) (h :
 (Qar K a k 0)):Hold (tawp Qan (0+0) Ql6 (TQ 0 0 QfL K) (Qk [(.c (.sl Qc) a),(.c TI k)])) :=
 Hold.of (by kernel_rfl) h
theorem Qn8 (a:List Qb) (k:Int) (hp:QN (α:=List Qb) a k):TCon Try.prog 130 [(.c (.sl Qc) a),(.c TI k)] (Zu (m_held (α:=List Qb) a k)):=by
 refine Qr rfl fun hb=>tcg (Γ:=Qan) (n:=31) (sg:=Qde.sg) Qq (TOkL.cons Qey TOkL.nil) (by kernel_rfl) (by kernel_rfl) (Qiv _ a k ?_)
 have hl_a:a.length≤9223372036854775807:=hb.1.1
 refine Qfs (A:=fun kk ii=>Qar (fun r'=>r'=Zu (m_held (α:=List Qb) a k)) a kk ii) (Q:=fun z=>Zu z=Zu (m_held (α:=List Qb) a k)) a k hp ?_ ?_ rfl
 ·intro kk pre post x ha hpx hneg hpos
  have hlt:pre.length<a.length:=by rw [ha];simp
  have hg:∀ d,gtd d a pre.length=x:=fun d=>by rw [ha];exact YO d pre post x
  have hw:w64 (((pre.length:Nat):Int)+1)=((pre.length+1:Nat):Int):=by rw [QZ (by omega) (by omega)];omega
  refine Qgs (fun r'=>r'=Zu (m_held (α:=List Qb) a k)) a kk ((pre.length:Nat):Int) ?_
  refine ⟨fun _=>?_,fun h=>absurd h (by simp;omega)⟩
  simp only [Int.toNat_natCast,hg,hw,hlt,JQ,and_true,true_and,Int.natCast_nonneg]
  have hp0:=(Qgc hpx).1
  have hq0:=(Qgc hpx).2
  simp only [Qgr,QfM,Qgo,Prod.ext_iff] at hneg hpos hp0 hq0
  refine ⟨fun h=>hneg (fun e=>Qez h (e.1).symm),fun h0=>?_⟩
  have e0:=(QgW h0).symm
  refine ⟨hq0,fun h=>hneg (fun e=>Qca hq0 (of_decide_eq_true h) (e.2)),fun h1=>?_⟩
  obtain ⟨e1,h1⟩:=Qbr (of_decide_eq_false h1)
  rw [h1]
  exact hpos ⟨e0,e1⟩
 ·intro kk hq
  refine Qgs (fun r'=>r'=Zu (m_held (α:=List Qb) a k)) a kk ((a.length:Nat):Int) ?_
  exact ⟨fun h=>absurd h (by simp),fun _=>hq⟩
theorem Qnc:Qn Try.prog Qde:=Qs fun x h=>Qn8 x.1 x.2.1 h
end
end Go.Proofs.Ytephkbajoofeoaa.Am

