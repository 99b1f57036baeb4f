/- -/
import Derived.Test.YtdplaepmjogjjaaGreatVDGF
namespace Go.Proofs.YtdplaepmjogjjaaGreat.Am
open Go Go.RowKit Go.Proofs.YtdplaepmjogjjaaGreat
set_option linter.all false
noncomputable section
variable (K:TRes→Prop)
def J8 (t:Int × (List Int)):TRes:=⟨(zci t.1),[],[],true,[(.sl 0 [TI] (.dp 0 false []) t.2)]⟩
def Qbl:TRow:=Qg 26 [(.d [TI]),(.c TI)] fun x=>(none,J8 (QD (α:=List Int) x.1 x.2.1))
def QdK:TTab:=⟨[],true⟩
def Qmt:TCode :=
 (zsq [(zsq [(.reg [zmv 6 5,zmv 7 0,zle 8 7,zbi 9 .lss 6 8]),(.cond 9 .skip (.exit 0))]),(.block 1 (zsq [(.reg [zmv 12 0,zmv 13 5,zmv 14 1,zia 15 12 13 [TI],zst 15 14 1]),(.reg [zmv 16 1,zbi 17 .add 16 (zki 1),zmv 1 17])])),(.reg [zmv 10 5,zbi 11 .add 10 (zki 1),zmv 5 11])])
def Qst:List (Nat × Md):=[(0,.one .f),(1,.one .d),(5,.one .d)]
def Qpv:TCode :=
 (zsq [(.reg [zmv 18 1,zmv 4 18]),.ret])
def Qyc:TCode :=
 (zsq [(.reg [zmv 4 (zki 0)]),(zsq [(.reg [zmv 5 (zki 0)]),(.block 0 (.loop Qst Qmt))]),Qpv])
def QmS:List (ARv × Md):=[(.t 4,.one .d)]
def Qu5:Qb:=TQ 0 1 QmS K
def QJE:Qb:=Qseq (tawp QdK 1 Qpv (Qu5 K)) (Qu5 K)
def QF8:Qb:=Qblk 0 (QJE K)
def Qd2 (a:List Int) (k1:Int) (i:Int) (a1:List Int):Prop:=Loop QdK 1 Qst Qmt (QF8 K) ⟨[(0,(.r [TI] 0 0 a.length)),(1,(zci k1)),(5,(zci i))],[(0,(.sl 0 [TI] (.dp 0 false []) a1))],1⟩
theorem QvA (a:List Int) (k1:Int) (i:Int) (a1:List Int) (h :
 (zif (decide (i<((a.length:Nat):Int))) ((((0:Int)≤i∧Int.toNat i<a.length)∧((0+(Int.toNat i))<a1.length))∧(Qd2 K a (w64 (k1+(1:Int))) (w64 (i+(1:Int))) ((a1).set (0+(Int.toNat i)) k1))) (K (J8 (k1,a1))))):Qd2 K a k1 i a1 :=
 Loop.of (by kernel_rfl) h
theorem QyC (a:List Int) (k:Int) (h :
 (Qd2 K a k 0 a)):Hold (tawp QdK (0+1) Qyc (TQ 0 1 QmS K) (Qd [(.ow 0 [TI] dw a),(.c TI k)])) :=
 Hold.of (by kernel_rfl) h
theorem QDD (a:List Int) (k:Int):TCon Tryz.prog 26 [(.ow 0 [TI] dw a),(.c TI k)] (J8 (QD (α:=List Int) a k)):=by
 refine Qh rfl fun hb=>tcg (Γ:=QdK) (n:=19) (sg:=Qbl.sg) Qi TOkL.nil (by kernel_rfl) (by kernel_rfl) (QyC _ a k ?_)
 have hl_a:a.length≤9223372036854775807:=hb.1.1
 refine Qcx (A:=fun kk ii ll=>Qd2 (fun r'=>r'=J8 (QD (α:=List Int) a k)) a kk ii ll) (Q:=fun z=>J8 z=J8 (QD (α:=List Int) a k)) a k ?_ ?_ rfl
 ·intro kk pre post x hl hA
  have hlt:pre.length<a.length:=by omega
  have hw:w64 (((pre.length:Nat):Int)+1)=((pre.length+1:Nat):Int):=by rw [Qx (by omega) (by omega)];omega
  refine QvA (fun r'=>r'=J8 (QD (α:=List Int) a k)) a kk ((pre.length:Nat):Int) (pre++x::post) ?_
  refine ⟨fun _=>?_,fun h=>absurd h (by simp;omega)⟩
  simp only [Int.toNat_natCast,Nat.zero_add,Qc2,Qdu,YB,Qci,hw,lt_f,hlt,YW,and_true,true_and,Int.natCast_nonneg]
  exact hA
 ·intro kk l hl hq
  refine QvA (fun r'=>r'=J8 (QD (α:=List Int) a k)) a kk ((a.length:Nat):Int) l ?_
  exact ⟨fun h=>absurd h (by simp),fun _=>hq⟩
theorem Qgd:Qf Tryz.prog Qbl:=Qj fun x _=>QDD x.1 x.2.1
def Jg (t:Int):TRes:=zre (zci t)
def QdC:TRow:=Qg 27 [(.c (.sl [TI])),(.c TI)] fun x=>(some (Q5 (α:=List Int) x.1 x.2.1),Jg (m_held (α:=List Int) x.1 x.2.1))
def Qer:TTab:=⟨[],false⟩
def Qnj:TCode :=
 (zsq [(zsq [(.reg [zmv 6 5,zmv 7 0,zle 8 7,zbi 9 .lss 6 8]),(.cond 9 .skip (.exit 0))]),(.block 1 (zsq [(zsq [(.reg [zmv 12 0,zmv 13 5,zia 14 12 13 [TI],zld 15 14 1,zmv 16 1,zbi 17 .neq 15 16]),(.cond 17 (zsq [(.reg [zmv 4 (zki (-1))]),.ret]) .skip)]),(.reg [zmv 18 1,zbi 19 .add 18 (zki 1),zmv 1 19])])),(.reg [zmv 10 5,zbi 11 .add 10 (zki 1),zmv 5 11])])
def Qsi:List (Nat × Md):=zdl [0,1,5]
def Qm9:TCode :=
 (zsq [(.reg [zmv 20 1,zmv 4 20]),.ret])
def QJs:TCode :=
 (zsq [(.reg [zmv 4 (zki 0)]),(zsq [(.reg [zmv 5 (zki 0)]),(.block 0 (.loop Qsi Qnj))]),Qm9])
def Qvx:List (ARv × Md):=[(.t 4,.one .d)]
def Qle:Qb:=TQ 0 0 Qvx K
def Qzj:Qb:=Qseq (tawp Qer 0 Qm9 (Qle K)) (Qle K)
def QC4:Qb:=Qblk 0 (Qzj K)
def Qge (a:List Int) (k1:Int) (i:Int):Prop:=Loop Qer 0 Qsi Qnj (QC4 K) ⟨[(0,(zcs [TI] a)),(1,(zci k1)),(5,(zci i))],[],0⟩
theorem Qtn (a:List Int) (k1:Int) (i:Int) (h :
 (zif (decide (i<(a.length:Int))) (((0:Int)≤i∧Int.toNat i<a.length)∧(zif ((gtd (0:Int) a (Int.toNat i)) != k1) (K (Jg (-1:Int))) (Qge K a (w64 (k1+(1:Int))) (w64 (i+(1:Int)))))) (K (Jg k1)))):Qge K a k1 i :=
 Loop.of (by kernel_rfl) h
theorem Qy8 (a:List Int) (k:Int) (h :
 (Qge K a k 0)):Hold (tawp Qer (0+0) QJs (TQ 0 0 Qvx K) (Qd [(.c (.sl [TI]) a),(.c TI k)])) :=
 Hold.of (by kernel_rfl) h
theorem Qwa (a:List Int) (k:Int) (hp:Q5 (α:=List Int) a k):TCon Tryz.prog 27 [(.c (.sl [TI]) a),(.c TI k)] (Jg (m_held (α:=List Int) a k)):=by
 refine Qh rfl fun hb=>tcg (Γ:=Qer) (n:=21) (sg:=QdC.sg) Qi TOkL.nil (by kernel_rfl) (by kernel_rfl) (Qy8 _ a k ?_)
 have hl_a:a.length≤9223372036854775807:=hb.1.1
 refine QcP (A:=fun kk ii=>Qge (fun r'=>r'=Jg (m_held (α:=List Int) a k)) a kk ii) (Q:=fun z=>Jg z=Jg (m_held (α:=List Int) a k)) a k hp ?_ ?_ rfl
 ·intro kk pre post x ha hpx hneg hpos
  have hlt:pre.length<a.length:=by rw [ha];simp
  have hg:∀ d,gtd d a pre.length=x:=fun d=>by rw [ha];exact YB d pre post x
  have hw:w64 (((pre.length:Nat):Int)+1)=((pre.length+1:Nat):Int):=by rw [Qx (by omega) (by omega)];omega
  refine Qtn (fun r'=>r'=Jg (m_held (α:=List Int) a k)) a kk ((pre.length:Nat):Int) ?_
  refine ⟨fun _=>?_,fun h=>absurd h (by simp;omega)⟩
  simp only [Int.toNat_natCast,hg,hw,hlt,YW,and_true,true_and,Int.natCast_nonneg]
  simp only [QdP,QeM,Qgy,Prod.ext_iff] at hneg hpos
  refine ⟨fun h=>hneg (fun e=>Qa5 h (e).symm),fun h0=>?_⟩
  have e0:=(Qad h0).symm
  exact hpos e0
 ·intro kk hq
  refine Qtn (fun r'=>r'=Jg (m_held (α:=List Int) a k)) a kk ((a.length:Nat):Int) ?_
  exact ⟨fun h=>absurd h (by simp),fun _=>hq⟩
theorem QiL:Qf Tryz.prog QdC:=Qj fun x h=>Qwa x.1 x.2.1 h
def JT (t:Int × (List (List Int))):TRes:=⟨(zci t.1),[],[],true,[(.sl 0 [(.sl [TI])] (.dp 0 false []) t.2)]⟩
def Qck:TRow:=Qg 82 [(.d [(.sl [TI])]),(.c TI)] fun x=>(none,JT (QD (α:=List (List Int)) x.1 x.2.1))
def QdO:TTab:=⟨[Qbl],true⟩
def QvQ:TCode :=
 (zsq [(zsq [(.reg [zmv 6 5,zmv 7 0,zle 8 7,zbi 9 .lss 6 8]),(.cond 9 .skip (.exit 0))]),(.block 1 (.reg [zmv 12 0,zmv 13 5,zia 14 12 13 [(.sl [TI])],zfa 15 14 0,zld 16 15 1,zmv 17 1,zca 18 26 [16,17],zmv 1 18])),(.reg [zmv 10 5,zbi 11 .add 10 (zki 1),zmv 5 11])])
def QqB:List (Nat × Md):=[(0,.one .f),(1,.one .d),(5,.one .d)]
def QmY:TCode :=
 (zsq [(.reg [zmv 19 1,zmv 4 19]),.ret])
def QB1:TCode :=
 (zsq [(.reg [zmv 4 (zki 0)]),(zsq [(.reg [zmv 5 (zki 0)]),(.block 0 (.loop QqB QvQ))]),QmY])
def QtO:List (ARv × Md):=[(.t 4,.one .d)]
def QtV:Qb:=TQ 0 1 QtO K
def Qv3:Qb:=Qseq (tawp QdO 1 QmY (QtV K)) (QtV K)
def Qw6:Qb:=Qblk 0 (Qv3 K)
def QfB (a:List (List Int)) (k1:Int) (i:Int) (a1:List (List Int)):Prop:=Loop QdO 1 QqB QvQ (Qw6 K) ⟨[(0,(.r [(.sl [TI])] 0 0 a.length)),(1,(zci k1)),(5,(zci i))],[(0,(.sl 0 [(.sl [TI])] (.dp 0 false []) a1))],1⟩
theorem Qng (a:List (List Int)) (k1:Int) (i:Int) (a1:List (List Int)) (h :
 (zif (decide (i<((a.length:Nat):Int))) ((((0:Int)≤i∧Int.toNat i<a.length)∧(((0+(Int.toNat i))<a1.length)∧((0+(Int.toNat i))<a1.length)))∧(QfB K a ((nst ([]:List Int) (0+(Int.toNat i)) (fun e_=>e_) (fun e_ y_=>y_) (QD (α:=List Int)) (k1,a1)).1) (w64 (i+(1:Int))) ((nst ([]:List Int) (0+(Int.toNat i)) (fun e_=>e_) (fun e_ y_=>y_) (QD (α:=List Int)) (k1,a1)).2))) (K (JT (k1,a1))))):QfB K a k1 i a1 :=
 Loop.of (by kernel_rfl) h
theorem QJA (a:List (List Int)) (k:Int) (h :
 (QfB K a k 0 a)):Hold (tawp QdO (0+1) QB1 (TQ 0 1 QtO K) (Qd [(.ow 0 [(.sl [TI])] dw a),(.c TI k)])) :=
 Hold.of (by kernel_rfl) h
theorem QHx (a:List (List Int)) (k:Int):TCon Tryz.prog 82 [(.ow 0 [(.sl [TI])] dw a),(.c TI k)] (JT (QD (α:=List (List Int)) a k)):=by
 refine Qh rfl fun hb=>tcg (Γ:=QdO) (n:=20) (sg:=Qck.sg) Qi (TOkL.cons Qgd TOkL.nil) (by kernel_rfl) (by kernel_rfl) (QJA _ a k ?_)
 have hl_a:a.length≤9223372036854775807:=hb.1.1
 refine Qcx (A:=fun kk ii ll=>QfB (fun r'=>r'=JT (QD (α:=List (List Int)) a k)) a kk ii ll) (Q:=fun z=>JT z=JT (QD (α:=List (List Int)) a k)) a k ?_ ?_ rfl
 ·intro kk pre post x hl hA
  have hlt:pre.length<a.length:=by omega
  have hw:w64 (((pre.length:Nat):Int)+1)=((pre.length+1:Nat):Int):=by rw [Qx (by omega) (by omega)];omega
  refine Qng (fun r'=>r'=JT (QD (α:=List (List Int)) a k)) a kk ((pre.length:Nat):Int) (pre++x::post) ?_
  refine ⟨fun _=>?_,fun h=>absurd h (by simp;omega)⟩
  simp only [Int.toNat_natCast,Nat.zero_add,Qc2,Qdu,YB,Qci,hw,lt_f,hlt,YW,and_true,true_and,Int.natCast_nonneg]
  exact hA
 ·intro kk l hl hq
  refine Qng (fun r'=>r'=JT (QD (α:=List (List Int)) a k)) a kk ((a.length:Nat):Int) l ?_
  exact ⟨fun h=>absurd h (by simp),fun _=>hq⟩
theorem Qj1:Qf Tryz.prog Qck:=Qj fun x _=>QHx x.1 x.2.1
def Jr (t:Int):TRes:=zre (zci t)
def QcT:TRow:=Qg 86 [(.c (.sl [(.sl [TI])])),(.c TI)] fun x=>(some (Q5 (α:=List (List Int)) x.1 x.2.1),Jr (m_held (α:=List (List Int)) x.1 x.2.1))
def QdS:TTab:=⟨[QdC],false⟩
def QpY:TCode :=
 (zsq [(zsq [(.reg [zmv 6 5,zmv 7 0,zle 8 7,zbi 9 .lss 6 8]),(.cond 9 .skip (.exit 0))]),(.block 1 (zsq [(.reg [zmv 12 0,zmv 13 5,zia 14 12 13 [(.sl [TI])],zfa 15 14 0,zld 16 15 1,zmv 17 1,zca 18 27 [16,17],zmv 1 18]),(.reg [zmv 19 1,zbi 20 .lss 19 (zki 0)]),(.cond 20 (zsq [(.reg [zmv 4 (zki (-1))]),.ret]) .skip)])),(.reg [zmv 10 5,zbi 11 .add 10 (zki 1),zmv 5 11])])
def QrM:List (Nat × Md):=zdl [0,1,5]
def QlX:TCode :=
 (zsq [(.reg [zmv 21 1,zmv 4 21]),.ret])
def QIW:TCode :=
 (zsq [(.reg [zmv 4 (zki 0)]),(zsq [(.reg [zmv 5 (zki 0)]),(.block 0 (.loop QrM QpY))]),QlX])
def QvP:List (ARv × Md):=[(.t 4,.one .d)]
def Qto:Qb:=TQ 0 0 QvP K
def QF4:Qb:=Qseq (tawp QdS 0 QlX (Qto K)) (Qto K)
def Qxa:Qb:=Qblk 0 (QF4 K)
def QdZ (a:List (List Int)) (k1:Int) (i:Int):Prop:=Loop QdS 0 QrM QpY (Qxa K) ⟨[(0,(zcs [(.sl [TI])] a)),(1,(zci k1)),(5,(zci i))],[],0⟩
theorem Qsl (a:List (List Int)) (k1:Int) (i:Int) (h :
 (zif (decide (i<(a.length:Int))) ((((0:Int)≤i∧Int.toNat i<a.length)∧(Q5 (α:=List Int) (gtd ([]:List Int) a (Int.toNat i)) k1))∧(zif (decide ((m_held (α:=List Int) (gtd ([]:List Int) a (Int.toNat i)) k1)<(0:Int))) (K (Jr (-1:Int))) (QdZ K a (m_held (α:=List Int) (gtd ([]:List Int) a (Int.toNat i)) k1) (w64 (i+(1:Int)))))) (K (Jr k1)))):QdZ K a k1 i :=
 Loop.of (by kernel_rfl) h
theorem QwW (a:List (List Int)) (k:Int) (h :
 (QdZ K a k 0)):Hold (tawp QdS (0+0) QIW (TQ 0 0 QvP K) (Qd [(.c (.sl [(.sl [TI])]) a),(.c TI k)])) :=
 Hold.of (by kernel_rfl) h
theorem QFw (a:List (List Int)) (k:Int) (hp:Q5 (α:=List (List Int)) a k):TCon Tryz.prog 86 [(.c (.sl [(.sl [TI])]) a),(.c TI k)] (Jr (m_held (α:=List (List Int)) a k)):=by
 refine Qh rfl fun hb=>tcg (Γ:=QdS) (n:=22) (sg:=QcT.sg) Qi (TOkL.cons QiL TOkL.nil) (by kernel_rfl) (by kernel_rfl) (QwW _ a k ?_)
 have hl_a:a.length≤9223372036854775807:=hb.1.1
 refine QcP (A:=fun kk ii=>QdZ (fun r'=>r'=Jr (m_held (α:=List (List Int)) a k)) a kk ii) (Q:=fun z=>Jr z=Jr (m_held (α:=List (List Int)) a k)) a k hp ?_ ?_ rfl
 ·intro kk pre post x ha hpx hneg hpos
  have hlt:pre.length<a.length:=by rw [ha];simp
  have hg:∀ d,gtd d a pre.length=x:=fun d=>by rw [ha];exact YB d pre post x
  have hw:w64 (((pre.length:Nat):Int)+1)=((pre.length+1:Nat):Int):=by rw [Qx (by omega) (by omega)];omega
  refine Qsl (fun r'=>r'=Jr (m_held (α:=List (List Int)) a k)) a kk ((pre.length:Nat):Int) ?_
  refine ⟨fun _=>?_,fun h=>absurd h (by simp;omega)⟩
  simp only [Int.toNat_natCast,hg,hw,hlt,YW,and_true,true_and,Int.natCast_nonneg]
  refine ⟨hpx,fun h=>hneg (fun e=>YG hpx (of_decide_eq_true h) (e)),fun h0=>?_⟩
  obtain ⟨e0,h0⟩:=Yz (of_decide_eq_false h0)
  rw [h0]
  exact hpos e0
 ·intro kk hq
  refine Qsl (fun r'=>r'=Jr (m_held (α:=List (List Int)) a k)) a kk ((a.length:Nat):Int) ?_
  exact ⟨fun h=>absurd h (by simp),fun _=>hq⟩
theorem QhI:Qf Tryz.prog QcT:=Qj fun x h=>QFw x.1 x.2.1 h
def J4 (t:Int × (List TIns)):TRes:=⟨(zci t.1),[],[],true,[(.sl 0 Qt (.dp 0 false []) t.2)]⟩
def Qh4:TRow:=Qg 79 [(.d Qt),(.c TI)] fun x=>(none,J4 (QD (α:=List TIns) x.1 x.2.1))
def Qe4:TTab:=⟨[],true⟩
def QoL:TCode :=
 (zsq [(zsq [(.reg [zmv 6 5,zmv 7 0,zle 8 7,zbi 9 .lss 6 8]),(.cond 9 .skip (.exit 0))]),(.block 1 (zsq [(.reg [zmv 12 0,zmv 13 5,zmv 14 1,zia 15 12 13 Qt,zfa 16 15 0,zst 16 14 1]),(.reg [zmv 17 1,zbi 18 .add 17 (zki 1),zmv 1 18]),(.reg [zmv 19 0,zmv 20 5,zmv 21 1,zia 22 19 20 Qt,zfa 23 22 1,zst 23 21 1]),(.reg [zmv 24 1,zbi 25 .add 24 (zki 1),zmv 1 25])])),(.reg [zmv 10 5,zbi 11 .add 10 (zki 1),zmv 5 11])])
def QlB:List (Nat × Md):=[(0,.one .f),(1,.one .d),(5,.one .d)]
def QoX:TCode :=
 (zsq [(.reg [zmv 26 1,zmv 4 26]),.ret])
def QHl:TCode :=
 (zsq [(.reg [zmv 4 (zki 0)]),(zsq [(.reg [zmv 5 (zki 0)]),(.block 0 (.loop QlB QoL))]),QoX])
def Qr5:List (ARv × Md):=[(.t 4,.one .d)]
def Qtt:Qb:=TQ 0 1 Qr5 K
def QyZ:Qb:=Qseq (tawp Qe4 1 QoX (Qtt K)) (Qtt K)
def Qxj:Qb:=Qblk 0 (QyZ K)
def QfQ (a:List TIns) (k1:Int) (i:Int) (a1:List TIns):Prop:=Loop Qe4 1 QlB QoL (Qxj K) ⟨[(0,(.r Qt 0 0 a.length)),(1,(zci k1)),(5,(zci i))],[(0,(.sl 0 Qt (.dp 0 false []) a1))],1⟩
theorem Qrf (a:List TIns) (k1:Int) (i:Int) (a1:List TIns) (h :
 (zif (decide (i<((a.length:Nat):Int))) ((((0:Int)≤i∧Int.toNat i<a.length)∧((0+(Int.toNat i))<a1.length))∧((((0:Int)≤i∧Int.toNat i<a.length)∧((0+(Int.toNat i))<((sst dIns (0+(Int.toNat i)) (fun e_ k_=>(k_,e_.2)) (k1,a1)).2).length))∧(QfQ K a (w64 ((w64 (k1+(1:Int)))+(1:Int))) (w64 (i+(1:Int))) ((sst dIns (0+(Int.toNat i)) (fun e_ k_=>(e_.1,k_)) (sst dIns (0+(Int.toNat i)) (fun e_ k_=>(k_,e_.2)) (k1,a1))).2)))) (K (J4 (k1,a1))))):QfQ K a k1 i a1 :=
 Loop.of (by kernel_rfl) h
theorem QFd (a:List TIns) (k:Int) (h :
 (QfQ K a k 0 a)):Hold (tawp Qe4 (0+1) QHl (TQ 0 1 Qr5 K) (Qd [(.ow 0 Qt dw a),(.c TI k)])) :=
 Hold.of (by kernel_rfl) h
theorem Qwk (a:List TIns) (k:Int):TCon Tryz.prog 79 [(.ow 0 Qt dw a),(.c TI k)] (J4 (QD (α:=List TIns) a k)):=by
 refine Qh rfl fun hb=>tcg (Γ:=Qe4) (n:=27) (sg:=Qh4.sg) Qi TOkL.nil (by kernel_rfl) (by kernel_rfl) (QFd _ a k ?_)
 have hl_a:a.length≤9223372036854775807:=hb.1.1
 refine Qcx (A:=fun kk ii ll=>QfQ (fun r'=>r'=J4 (QD (α:=List TIns) a k)) a kk ii ll) (Q:=fun z=>J4 z=J4 (QD (α:=List TIns) a k)) a k ?_ ?_ rfl
 ·intro kk pre post x hl hA
  have hlt:pre.length<a.length:=by omega
  have hw:w64 (((pre.length:Nat):Int)+1)=((pre.length+1:Nat):Int):=by rw [Qx (by omega) (by omega)];omega
  refine Qrf (fun r'=>r'=J4 (QD (α:=List TIns) a k)) a kk ((pre.length:Nat):Int) (pre++x::post) ?_
  refine ⟨fun _=>?_,fun h=>absurd h (by simp;omega)⟩
  simp only [Int.toNat_natCast,Nat.zero_add,Qc2,Qdu,YB,Qci,hw,lt_f,hlt,YW,and_true,true_and,Int.natCast_nonneg]
  exact hA
 ·intro kk l hl hq
  refine Qrf (fun r'=>r'=J4 (QD (α:=List TIns) a k)) a kk ((a.length:Nat):Int) l ?_
  exact ⟨fun h=>absurd h (by simp),fun _=>hq⟩
theorem QA9:Qf Tryz.prog Qh4:=Qj fun x _=>Qwk x.1 x.2.1
def Y1 (t:Int):TRes:=zre (zci t)
def Qhs:TRow:=Qg 83 [(.c (.sl Qt)),(.c TI)] fun x=>(some (Q5 (α:=List TIns) x.1 x.2.1),Y1 (m_held (α:=List TIns) x.1 x.2.1))
def Qez:TTab:=⟨[],false⟩
def Qqf:TCode :=
 (zsq [(zsq [(.reg [zmv 6 5,zmv 7 0,zle 8 7,zbi 9 .lss 6 8]),(.cond 9 .skip (.exit 0))]),(.block 1 (zsq [(zsq [(.reg [zmv 12 0,zmv 13 5,zia 14 12 13 Qt,zfa 15 14 0,zld 16 15 1,zmv 17 1,zbi 18 .neq 16 17]),(.cond 18 (zsq [(.reg [zmv 4 (zki (-1))]),.ret]) .skip)]),(.reg [zmv 19 1,zbi 20 .add 19 (zki 1),zmv 1 20]),(zsq [(.reg [zmv 21 0,zmv 22 5,zia 23 21 22 Qt,zfa 24 23 1,zld 25 24 1,zmv 26 1,zbi 27 .neq 25 26]),(.cond 27 (zsq [(.reg [zmv 4 (zki (-1))]),.ret]) .skip)]),(.reg [zmv 28 1,zbi 29 .add 28 (zki 1),zmv 1 29])])),(.reg [zmv 10 5,zbi 11 .add 10 (zki 1),zmv 5 11])])
def QqZ:List (Nat × Md):=zdl [0,1,5]
def QvF:TCode :=
 (zsq [(.reg [zmv 30 1,zmv 4 30]),.ret])
def QBw:TCode :=
 (zsq [(.reg [zmv 4 (zki 0)]),(zsq [(.reg [zmv 5 (zki 0)]),(.block 0 (.loop QqZ Qqf))]),QvF])
def QtW:List (ARv × Md):=[(.t 4,.one .d)]
def QoQ:Qb:=TQ 0 0 QtW K
def QDF:Qb:=Qseq (tawp Qez 0 QvF (QoQ K)) (QoQ K)
def QEA:Qb:=Qblk 0 (QDF K)
def QfX (a:List TIns) (k1:Int) (i:Int):Prop:=Loop Qez 0 QqZ Qqf (QEA K) ⟨[(0,(zcs Qt a)),(1,(zci k1)),(5,(zci i))],[],0⟩
theorem Qn1 (a:List TIns) (k1:Int) (i:Int) (h :
 (zif (decide (i<(a.length:Int))) (((0:Int)≤i∧Int.toNat i<a.length)∧(zif (((gtd dIns a (Int.toNat i)).1) != k1) (K (Y1 (-1:Int))) (((0:Int)≤i∧Int.toNat i<a.length)∧(zif (((gtd dIns a (Int.toNat i)).2) != (w64 (k1+(1:Int)))) (K (Y1 (-1:Int))) (QfX K a (w64 ((w64 (k1+(1:Int)))+(1:Int))) (w64 (i+(1:Int)))))))) (K (Y1 k1)))):QfX K a k1 i :=
 Loop.of (by kernel_rfl) h
theorem QF0 (a:List TIns) (k:Int) (h :
 (QfX K a k 0)):Hold (tawp Qez (0+0) QBw (TQ 0 0 QtW K) (Qd [(.c (.sl Qt) a),(.c TI k)])) :=
 Hold.of (by kernel_rfl) h
theorem QH3 (a:List TIns) (k:Int) (hp:Q5 (α:=List TIns) a k):TCon Tryz.prog 83 [(.c (.sl Qt) a),(.c TI k)] (Y1 (m_held (α:=List TIns) a k)):=by
 refine Qh rfl fun hb=>tcg (Γ:=Qez) (n:=31) (sg:=Qhs.sg) Qi TOkL.nil (by kernel_rfl) (by kernel_rfl) (QF0 _ a k ?_)
 have hl_a:a.length≤9223372036854775807:=hb.1.1
 refine QcP (A:=fun kk ii=>QfX (fun r'=>r'=Y1 (m_held (α:=List TIns) a k)) a kk ii) (Q:=fun z=>Y1 z=Y1 (m_held (α:=List TIns) a k)) a k hp ?_ ?_ rfl
 ·intro kk pre post x ha hpx hneg hpos
  have hlt:pre.length<a.length:=by rw [ha];simp
  have hg:∀ d,gtd d a pre.length=x:=fun d=>by rw [ha];exact YB d pre post x
  have hw:w64 (((pre.length:Nat):Int)+1)=((pre.length+1:Nat):Int):=by rw [Qx (by omega) (by omega)];omega
  refine Qn1 (fun r'=>r'=Y1 (m_held (α:=List TIns) a k)) a kk ((pre.length:Nat):Int) ?_
  refine ⟨fun _=>?_,fun h=>absurd h (by simp;omega)⟩
  simp only [Int.toNat_natCast,hg,hw,hlt,YW,and_true,true_and,Int.natCast_nonneg]
  have hp0:=(Y7 hpx).1
  have hq0:=(Y7 hpx).2
  simp only [QdP,QeM,Qgy,Prod.ext_iff] at hneg hpos hp0 hq0
  refine ⟨fun h=>hneg (fun e=>Qa5 h (e.1).symm),fun h0=>?_⟩
  have e0:=(Qad h0).symm
  refine ⟨fun h=>hneg (fun e=>Qa5 h (e.2).symm),fun h1=>?_⟩
  have e1:=(Qad h1).symm
  exact hpos ⟨e0,e1⟩
 ·intro kk hq
  refine Qn1 (fun r'=>r'=Y1 (m_held (α:=List TIns) a k)) a kk ((a.length:Nat):Int) ?_
  exact ⟨fun h=>absurd h (by simp),fun _=>hq⟩
theorem Qx3:Qf Tryz.prog Qhs:=Qj fun x h=>QH3 x.1 x.2.1 h
def JN (t:Int × (List TOp')):TRes:=⟨(zci t.1),[],[],true,[(.sl 0 ctOp (.dp 0 false []) t.2)]⟩
def QjL:TRow:=Qg 80 [(.d ctOp),(.c TI)] fun x=>(none,JN (QD (α:=List TOp') x.1 x.2.1))
def Qf1:TTab:=⟨[Qbl],true⟩
def Qtv:TCode :=
 (zsq [(zsq [(.reg [zmv 6 5,zmv 7 0,zle 8 7,zbi 9 .lss 6 8]),(.cond 9 .skip (.exit 0))]),(.block 1 (zsq [(.reg [zmv 12 0,zmv 13 5,zmv 14 1,zia 15 12 13 ctOp,zfa 16 15 0,zst 16 14 1]),(.reg [zmv 17 1,zbi 18 .add 17 (zki 1),zmv 1 18]),(.reg [zmv 19 0,zmv 20 5,zmv 21 1,zia 22 19 20 ctOp,zfa 23 22 1,zst 23 21 1]),(.reg [zmv 24 1,zbi 25 .add 24 (zki 1),zmv 1 25]),(.reg [zmv 26 0,zmv 27 5,zmv 28 1,zia 29 26 27 ctOp,zfa 30 29 2,zst 30 28 1]),(.reg [zmv 31 1,zbi 32 .add 31 (zki 1),zmv 1 32]),(.reg [zmv 33 0,zmv 34 5,zia 35 33 34 ctOp,zfa 36 35 3,zld 37 36 1,zmv 38 1,zca 39 26 [37,38],zmv 1 39])])),(.reg [zmv 10 5,zbi 11 .add 10 (zki 1),zmv 5 11])])
def QqN:List (Nat × Md):=[(0,.one .f),(1,.one .d),(5,.one .d)]
def QrI:TCode :=
 (zsq [(.reg [zmv 40 1,zmv 4 40]),.ret])
def QIZ:TCode :=
 (zsq [(.reg [zmv 4 (zki 0)]),(zsq [(.reg [zmv 5 (zki 0)]),(.block 0 (.loop QqN Qtv))]),QrI])
def QvD:List (ARv × Md):=[(.t 4,.one .d)]
def QlV:Qb:=TQ 0 1 QvD K
def Qz1:Qb:=Qseq (tawp Qf1 1 QrI (QlV K)) (QlV K)
def QHj:Qb:=Qblk 0 (Qz1 K)
def Qem (a:List TOp') (k1:Int) (i:Int) (a1:List TOp'):Prop:=Loop Qf1 1 QqN Qtv (QHj K) ⟨[(0,(.r ctOp 0 0 a.length)),(1,(zci k1)),(5,(zci i))],[(0,(.sl 0 ctOp (.dp 0 false []) a1))],1⟩
theorem Qph (a:List TOp') (k1:Int) (i:Int) (a1:List TOp') (h :
 let z2:=sst dOp (0+(Int.toNat i)) (fun e_ k_=>(k_,e_.2.1,e_.2.2.1,e_.2.2.2)) (k1,a1)
 let z4:=sst dOp (0+(Int.toNat i)) (fun e_ k_=>(e_.1,k_,e_.2.2.1,e_.2.2.2)) z2
 let z1:=sst dOp (0+(Int.toNat i)) (fun e_ k_=>(e_.1,e_.2.1,k_,e_.2.2.2)) z4
 let z3:=nst dOp (0+(Int.toNat i)) (fun e_=>e_.2.2.2) (fun e_ y_=>(e_.1,e_.2.1,e_.2.2.1,y_)) (QD (α:=List Int)) z1
 (zif (decide (i<((a.length:Nat):Int))) ((((0:Int)≤i∧Int.toNat i<a.length)∧((0+(Int.toNat i))<a1.length))∧((((0:Int)≤i∧Int.toNat i<a.length)∧((0+(Int.toNat i))<(z2.2).length))∧((((0:Int)≤i∧Int.toNat i<a.length)∧((0+(Int.toNat i))<(z4.2).length))∧((((0:Int)≤i∧Int.toNat i<a.length)∧(((0+(Int.toNat i))<(z1.2).length)∧((0+(Int.toNat i))<(z1.2).length)))∧(Qem K a (z3.1) (w64 (i+(1:Int))) (z3.2)))))) (K (JN (k1,a1))))):Qem K a k1 i a1 :=
 Loop.of (by kernel_rfl) h
theorem Qxv (a:List TOp') (k:Int) (h :
 (Qem K a k 0 a)):Hold (tawp Qf1 (0+1) QIZ (TQ 0 1 QvD K) (Qd [(.ow 0 ctOp dw a),(.c TI k)])) :=
 Hold.of (by kernel_rfl) h
theorem Qyy (a:List TOp') (k:Int):TCon Tryz.prog 80 [(.ow 0 ctOp dw a),(.c TI k)] (JN (QD (α:=List TOp') a k)):=by
 refine Qh rfl fun hb=>tcg (Γ:=Qf1) (n:=41) (sg:=QjL.sg) Qi (TOkL.cons Qgd TOkL.nil) (by kernel_rfl) (by kernel_rfl) (Qxv _ a k ?_)
 have hl_a:a.length≤9223372036854775807:=hb.1.1
 refine Qcx (A:=fun kk ii ll=>Qem (fun r'=>r'=JN (QD (α:=List TOp') a k)) a kk ii ll) (Q:=fun z=>JN z=JN (QD (α:=List TOp') a k)) a k ?_ ?_ rfl
 ·intro kk pre post x hl hA
  have hlt:pre.length<a.length:=by omega
  have hw:w64 (((pre.length:Nat):Int)+1)=((pre.length+1:Nat):Int):=by rw [Qx (by omega) (by omega)];omega
  refine Qph (fun r'=>r'=JN (QD (α:=List TOp') a k)) a kk ((pre.length:Nat):Int) (pre++x::post) ?_
  conv=>zeta
  refine ⟨fun _=>?_,fun h=>absurd h (by simp;omega)⟩
  simp only [Int.toNat_natCast,Nat.zero_add,Qc2,Qdu,YB,Qci,hw,lt_f,hlt,YW,and_true,true_and,Int.natCast_nonneg]
  exact hA
 ·intro kk l hl hq
  refine Qph (fun r'=>r'=JN (QD (α:=List TOp') a k)) a kk ((a.length:Nat):Int) l ?_
  conv=>zeta
  exact ⟨fun h=>absurd h (by simp),fun _=>hq⟩
theorem Qwn:Qf Tryz.prog QjL:=Qj fun x _=>Qyy x.1 x.2.1
def YA (t:Int):TRes:=zre (zci t)
def QgR:TRow:=Qg 84 [(.c (.sl ctOp)),(.c TI)] fun x=>(some (Q5 (α:=List TOp') x.1 x.2.1),YA (m_held (α:=List TOp') x.1 x.2.1))
def Qfz:TTab:=⟨[QdC],false⟩
def QnJ:TCode :=
 (zsq [(zsq [(.reg [zmv 6 5,zmv 7 0,zle 8 7,zbi 9 .lss 6 8]),(.cond 9 .skip (.exit 0))]),(.block 1 (zsq [(zsq [(.reg [zmv 12 0,zmv 13 5,zia 14 12 13 ctOp,zfa 15 14 0,zld 16 15 1,zmv 17 1,zbi 18 .neq 16 17]),(.cond 18 (zsq [(.reg [zmv 4 (zki (-1))]),.ret]) .skip)]),(.reg [zmv 19 1,zbi 20 .add 19 (zki 1),zmv 1 20]),(zsq [(.reg [zmv 21 0,zmv 22 5,zia 23 21 22 ctOp,zfa 24 23 1,zld 25 24 1,zmv 26 1,zbi 27 .neq 25 26]),(.cond 27 (zsq [(.reg [zmv 4 (zki (-1))]),.ret]) .skip)]),(.reg [zmv 28 1,zbi 29 .add 28 (zki 1),zmv 1 29]),(zsq [(.reg [zmv 30 0,zmv 31 5,zia 32 30 31 ctOp,zfa 33 32 2,zld 34 33 1,zmv 35 1,zbi 36 .neq 34 35]),(.cond 36 (zsq [(.reg [zmv 4 (zki (-1))]),.ret]) .skip)]),(.reg [zmv 37 1,zbi 38 .add 37 (zki 1),zmv 1 38]),(.reg [zmv 39 0,zmv 40 5,zia 41 39 40 ctOp,zfa 42 41 3,zld 43 42 1,zmv 44 1,zca 45 27 [43,44],zmv 1 45]),(.reg [zmv 46 1,zbi 47 .lss 46 (zki 0)]),(.cond 47 (zsq [(.reg [zmv 4 (zki (-1))]),.ret]) .skip)])),(.reg [zmv 10 5,zbi 11 .add 10 (zki 1),zmv 5 11])])
def Qs5:List (Nat × Md):=zdl [0,1,5]
def Qr8:TCode :=
 (zsq [(.reg [zmv 48 1,zmv 4 48]),.ret])
def QFX:TCode :=
 (zsq [(.reg [zmv 4 (zki 0)]),(zsq [(.reg [zmv 5 (zki 0)]),(.block 0 (.loop Qs5 QnJ))]),Qr8])
def Qo1:List (ARv × Md):=[(.t 4,.one .d)]
def Qqp:Qb:=TQ 0 0 Qo1 K
def QxR:Qb:=Qseq (tawp Qfz 0 Qr8 (Qqp K)) (Qqp K)
def QBk:Qb:=Qblk 0 (QxR K)
def QfT (a:List TOp') (k1:Int) (i:Int):Prop:=Loop Qfz 0 Qs5 QnJ (QBk K) ⟨[(0,(zcs ctOp a)),(1,(zci k1)),(5,(zci i))],[],0⟩
theorem Qoy (a:List TOp') (k1:Int) (i:Int) (h :
 (zif (decide (i<(a.length:Int))) (((0:Int)≤i∧Int.toNat i<a.length)∧(zif (((gtd dOp a (Int.toNat i)).1) != k1) (K (YA (-1:Int))) (((0:Int)≤i∧Int.toNat i<a.length)∧(zif (((gtd dOp a (Int.toNat i)).2.1) != (w64 (k1+(1:Int)))) (K (YA (-1:Int))) (((0:Int)≤i∧Int.toNat i<a.length)∧(zif (((gtd dOp a (Int.toNat i)).2.2.1) != (w64 ((w64 (k1+(1:Int)))+(1:Int)))) (K (YA (-1:Int))) ((((0:Int)≤i∧Int.toNat i<a.length)∧(Q5 (α:=List Int) ((gtd dOp a (Int.toNat i)).2.2.2) (w64 ((w64 ((w64 (k1+(1:Int)))+(1:Int)))+(1:Int)))))∧(zif (decide ((m_held (α:=List Int) ((gtd dOp a (Int.toNat i)).2.2.2) (w64 ((w64 ((w64 (k1+(1:Int)))+(1:Int)))+(1:Int))))<(0:Int))) (K (YA (-1:Int))) (QfT K a (m_held (α:=List Int) ((gtd dOp a (Int.toNat i)).2.2.2) (w64 ((w64 ((w64 (k1+(1:Int)))+(1:Int)))+(1:Int)))) (w64 (i+(1:Int)))))))))))) (K (YA k1)))):QfT K a k1 i :=
 Loop.of (by kernel_rfl) h
theorem QDc (a:List TOp') (k:Int) (h :
 (QfT K a k 0)):Hold (tawp Qfz (0+0) QFX (TQ 0 0 Qo1 K) (Qd [(.c (.sl ctOp) a),(.c TI k)])) :=
 Hold.of (by kernel_rfl) h
theorem QyW (a:List TOp') (k:Int) (hp:Q5 (α:=List TOp') a k):TCon Tryz.prog 84 [(.c (.sl ctOp) a),(.c TI k)] (YA (m_held (α:=List TOp') a k)):=by
 refine Qh rfl fun hb=>tcg (Γ:=Qfz) (n:=49) (sg:=QgR.sg) Qi (TOkL.cons QiL TOkL.nil) (by kernel_rfl) (by kernel_rfl) (QDc _ a k ?_)
 have hl_a:a.length≤9223372036854775807:=hb.1.1
 refine QcP (A:=fun kk ii=>QfT (fun r'=>r'=YA (m_held (α:=List TOp') a k)) a kk ii) (Q:=fun z=>YA z=YA (m_held (α:=List TOp') a k)) a k hp ?_ ?_ rfl
 ·intro kk pre post x ha hpx hneg hpos
  have hlt:pre.length<a.length:=by rw [ha];simp
  have hg:∀ d,gtd d a pre.length=x:=fun d=>by rw [ha];exact YB d pre post x
  have hw:w64 (((pre.length:Nat):Int)+1)=((pre.length+1:Nat):Int):=by rw [Qx (by omega) (by omega)];omega
  refine Qoy (fun r'=>r'=YA (m_held (α:=List TOp') a k)) a kk ((pre.length:Nat):Int) ?_
  refine ⟨fun _=>?_,fun h=>absurd h (by simp;omega)⟩
  simp only [Int.toNat_natCast,hg,hw,hlt,YW,and_true,true_and,Int.natCast_nonneg]
  have hp0:=(Y7 hpx).1
  have hq0:=(Y7 hpx).2
  have hp1:=(Y7 hq0).1
  have hq1:=(Y7 hq0).2
  have hp2:=(Y7 hq1).1
  have hq2:=(Y7 hq1).2
  simp only [QdP,QeM,Qgy,Prod.ext_iff] at hneg hpos hp0 hq0 hp1 hq1 hp2 hq2
  refine ⟨fun h=>hneg (fun e=>Qa5 h (e.1).symm),fun h0=>?_⟩
  have e0:=(Qad h0).symm
  refine ⟨fun h=>hneg (fun e=>Qa5 h (e.2.1).symm),fun h1=>?_⟩
  have e1:=(Qad h1).symm
  refine ⟨fun h=>hneg (fun e=>Qa5 h (e.2.2.1).symm),fun h2=>?_⟩
  have e2:=(Qad h2).symm
  refine ⟨hq2,fun h=>hneg (fun e=>YG hq2 (of_decide_eq_true h) (e.2.2.2)),fun h3=>?_⟩
  obtain ⟨e3,h3⟩:=Yz (of_decide_eq_false h3)
  rw [h3]
  exact hpos ⟨e0,e1,e2,e3⟩
 ·intro kk hq
  refine Qoy (fun r'=>r'=YA (m_held (α:=List TOp') a k)) a kk ((a.length:Nat):Int) ?_
  exact ⟨fun h=>absurd h (by simp),fun _=>hq⟩
theorem Qxt:Qf Tryz.prog QgR:=Qj fun x h=>QyW x.1 x.2.1 h
def J1 (t:Int × (List Qe)):TRes:=⟨(zci t.1),[],[],true,[(.sl 0 Ql (.dp 0 false []) t.2)]⟩
def Qht:TRow:=Qg 81 [(.d Ql),(.c TI)] fun x=>(none,J1 (QD (α:=List Qe) x.1 x.2.1))
def Qep:TTab:=⟨[Qck],true⟩
def Qmk:TCode :=
 (zsq [(zsq [(.reg [zmv 6 5,zmv 7 0,zle 8 7,zbi 9 .lss 6 8]),(.cond 9 .skip (.exit 0))]),(.block 1 (zsq [(.reg [zmv 12 0,zmv 13 5,zmv 14 1,zia 15 12 13 Ql,zfa 16 15 0,zst 16 14 1]),(.reg [zmv 17 1,zbi 18 .add 17 (zki 1),zmv 1 18]),(.reg [zmv 19 0,zmv 20 5,zia 21 19 20 Ql,zfa 22 21 1,zld 23 22 1,zmv 24 1,zca 25 82 [23,24],zmv 1 25])])),(.reg [zmv 10 5,zbi 11 .add 10 (zki 1),zmv 5 11])])
def QvN:List (Nat × Md):=[(0,.one .f),(1,.one .d),(5,.one .d)]
def Quc:TCode :=
 (zsq [(.reg [zmv 26 1,zmv 4 26]),.ret])
def Qww:TCode :=
 (zsq [(.reg [zmv 4 (zki 0)]),(zsq [(.reg [zmv 5 (zki 0)]),(.block 0 (.loop QvN Qmk))]),Quc])
def Qpz:List (ARv × Md):=[(.t 4,.one .d)]
def Qss:Qb:=TQ 0 1 Qpz K
def Qxm:Qb:=Qseq (tawp Qep 1 Quc (Qss K)) (Qss K)
def QBz:Qb:=Qblk 0 (Qxm K)
def QfE (a:List Qe) (k1:Int) (i:Int) (a1:List Qe):Prop:=Loop Qep 1 QvN Qmk (QBz K) ⟨[(0,(.r Ql 0 0 a.length)),(1,(zci k1)),(5,(zci i))],[(0,(.sl 0 Ql (.dp 0 false []) a1))],1⟩
theorem QpX (a:List Qe) (k1:Int) (i:Int) (a1:List Qe) (h :
 (zif (decide (i<((a.length:Nat):Int))) ((((0:Int)≤i∧Int.toNat i<a.length)∧((0+(Int.toNat i))<a1.length))∧((((0:Int)≤i∧Int.toNat i<a.length)∧(((0+(Int.toNat i))<((sst Qw (0+(Int.toNat i)) (fun e_ k_=>(k_,e_.2)) (k1,a1)).2).length)∧((0+(Int.toNat i))<((sst Qw (0+(Int.toNat i)) (fun e_ k_=>(k_,e_.2)) (k1,a1)).2).length)))∧(QfE K a ((nst Qw (0+(Int.toNat i)) (fun e_=>e_.2) (fun e_ y_=>(e_.1,y_)) (QD (α:=List (List Int))) (sst Qw (0+(Int.toNat i)) (fun e_ k_=>(k_,e_.2)) (k1,a1))).1) (w64 (i+(1:Int))) ((nst Qw (0+(Int.toNat i)) (fun e_=>e_.2) (fun e_ y_=>(e_.1,y_)) (QD (α:=List (List Int))) (sst Qw (0+(Int.toNat i)) (fun e_ k_=>(k_,e_.2)) (k1,a1))).2)))) (K (J1 (k1,a1))))):QfE K a k1 i a1 :=
 Loop.of (by kernel_rfl) h
theorem QB5 (a:List Qe) (k:Int) (h :
 (QfE K a k 0 a)):Hold (tawp Qep (0+1) Qww (TQ 0 1 Qpz K) (Qd [(.ow 0 Ql dw a),(.c TI k)])) :=
 Hold.of (by kernel_rfl) h
theorem QGX (a:List Qe) (k:Int):TCon Tryz.prog 81 [(.ow 0 Ql dw a),(.c TI k)] (J1 (QD (α:=List Qe) a k)):=by
 refine Qh rfl fun hb=>tcg (Γ:=Qep) (n:=27) (sg:=Qht.sg) Qi (TOkL.cons Qj1 TOkL.nil) (by kernel_rfl) (by kernel_rfl) (QB5 _ a k ?_)
 have hl_a:a.length≤9223372036854775807:=hb.1.1
 refine Qcx (A:=fun kk ii ll=>QfE (fun r'=>r'=J1 (QD (α:=List Qe) a k)) a kk ii ll) (Q:=fun z=>J1 z=J1 (QD (α:=List Qe) a k)) a k ?_ ?_ rfl
 ·intro kk pre post x hl hA
  have hlt:pre.length<a.length:=by omega
  have hw:w64 (((pre.length:Nat):Int)+1)=((pre.length+1:Nat):Int):=by rw [Qx (by omega) (by omega)];omega
  refine QpX (fun r'=>r'=J1 (QD (α:=List Qe) a k)) a kk ((pre.length:Nat):Int) (pre++x::post) ?_
  refine ⟨fun _=>?_,fun h=>absurd h (by simp;omega)⟩
  simp only [Int.toNat_natCast,Nat.zero_add,Qc2,Qdu,YB,Qci,hw,lt_f,hlt,YW,and_true,true_and,Int.natCast_nonneg]
  exact hA
 ·intro kk l hl hq
  refine QpX (fun r'=>r'=J1 (QD (α:=List Qe) a k)) a kk ((a.length:Nat):Int) l ?_
  exact ⟨fun h=>absurd h (by simp),fun _=>hq⟩
theorem QGY:Qf Tryz.prog Qht:=Qj fun x _=>QGX x.1 x.2.1
def Y6 (t:Int):TRes:=zre (zci t)
def QhU:TRow:=Qg 85 [(.c (.sl Ql)),(.c TI)] fun x=>(some (Q5 (α:=List Qe) x.1 x.2.1),Y6 (m_held (α:=List Qe) x.1 x.2.1))
def Qeu:TTab:=⟨[QcT],false⟩
def QpD:TCode :=
 (zsq [(zsq [(.reg [zmv 6 5,zmv 7 0,zle 8 7,zbi 9 .lss 6 8]),(.cond 9 .skip (.exit 0))]),(.block 1 (zsq [(zsq [(.reg [zmv 12 0,zmv 13 5,zia 14 12 13 Ql,zfa 15 14 0,zld 16 15 1,zmv 17 1,zbi 18 .neq 16 17]),(.cond 18 (zsq [(.reg [zmv 4 (zki (-1))]),.ret]) .skip)]),(.reg [zmv 19 1,zbi 20 .add 19 (zki 1),zmv 1 20]),(.reg [zmv 21 0,zmv 22 5,zia 23 21 22 Ql,zfa 24 23 1,zld 25 24 1,zmv 26 1,zca 27 86 [25,26],zmv 1 27]),(.reg [zmv 28 1,zbi 29 .lss 28 (zki 0)]),(.cond 29 (zsq [(.reg [zmv 4 (zki (-1))]),.ret]) .skip)])),(.reg [zmv 10 5,zbi 11 .add 10 (zki 1),zmv 5 11])])
def QlJ:List (Nat × Md):=zdl [0,1,5]
def QrS:TCode :=
 (zsq [(.reg [zmv 30 1,zmv 4 30]),.ret])
def QIG:TCode :=
 (zsq [(.reg [zmv 4 (zki 0)]),(zsq [(.reg [zmv 5 (zki 0)]),(.block 0 (.loop QlJ QpD))]),QrS])
def Qvj:List (ARv × Md):=[(.t 4,.one .d)]
def QnV:Qb:=TQ 0 0 Qvj K
def QFZ:Qb:=Qseq (tawp Qeu 0 QrS (QnV K)) (QnV K)
def Qx9:Qb:=Qblk 0 (QFZ K)
def Qft (a:List Qe) (k1:Int) (i:Int):Prop:=Loop Qeu 0 QlJ QpD (Qx9 K) ⟨[(0,(zcs Ql a)),(1,(zci k1)),(5,(zci i))],[],0⟩
theorem QnC (a:List Qe) (k1:Int) (i:Int) (h :
 (zif (decide (i<(a.length:Int))) (((0:Int)≤i∧Int.toNat i<a.length)∧(zif (((gtd Qw a (Int.toNat i)).1) != k1) (K (Y6 (-1:Int))) ((((0:Int)≤i∧Int.toNat i<a.length)∧(Q5 (α:=List (List Int)) ((gtd Qw a (Int.toNat i)).2) (w64 (k1+(1:Int)))))∧(zif (decide ((m_held (α:=List (List Int)) ((gtd Qw a (Int.toNat i)).2) (w64 (k1+(1:Int))))<(0:Int))) (K (Y6 (-1:Int))) (Qft K a (m_held (α:=List (List Int)) ((gtd Qw a (Int.toNat i)).2) (w64 (k1+(1:Int)))) (w64 (i+(1:Int)))))))) (K (Y6 k1)))):Qft K a k1 i :=
 Loop.of (by kernel_rfl) h
theorem QBt (a:List Qe) (k:Int) (h :
 (Qft K a k 0)):Hold (tawp Qeu (0+0) QIG (TQ 0 0 Qvj K) (Qd [(.c (.sl Ql) a),(.c TI k)])) :=
 Hold.of (by kernel_rfl) h
theorem Qxw (a:List Qe) (k:Int) (hp:Q5 (α:=List Qe) a k):TCon Tryz.prog 85 [(.c (.sl Ql) a),(.c TI k)] (Y6 (m_held (α:=List Qe) a k)):=by
 refine Qh rfl fun hb=>tcg (Γ:=Qeu) (n:=31) (sg:=QhU.sg) Qi (TOkL.cons QhI TOkL.nil) (by kernel_rfl) (by kernel_rfl) (QBt _ a k ?_)
 have hl_a:a.length≤9223372036854775807:=hb.1.1
 refine QcP (A:=fun kk ii=>Qft (fun r'=>r'=Y6 (m_held (α:=List Qe) a k)) a kk ii) (Q:=fun z=>Y6 z=Y6 (m_held (α:=List Qe) a k)) a k hp ?_ ?_ rfl
 ·intro kk pre post x ha hpx hneg hpos
  have hlt:pre.length<a.length:=by rw [ha];simp
  have hg:∀ d,gtd d a pre.length=x:=fun d=>by rw [ha];exact YB d pre post x
  have hw:w64 (((pre.length:Nat):Int)+1)=((pre.length+1:Nat):Int):=by rw [Qx (by omega) (by omega)];omega
  refine QnC (fun r'=>r'=Y6 (m_held (α:=List Qe) a k)) a kk ((pre.length:Nat):Int) ?_
  refine ⟨fun _=>?_,fun h=>absurd h (by simp;omega)⟩
  simp only [Int.toNat_natCast,hg,hw,hlt,YW,and_true,true_and,Int.natCast_nonneg]
  have hp0:=(Y7 hpx).1
  have hq0:=(Y7 hpx).2
  simp only [QdP,QeM,Qgy,Prod.ext_iff] at hneg hpos hp0 hq0
  refine ⟨fun h=>hneg (fun e=>Qa5 h (e.1).symm),fun h0=>?_⟩
  have e0:=(Qad h0).symm
  refine ⟨hq0,fun h=>hneg (fun e=>YG hq0 (of_decide_eq_true h) (e.2)),fun h1=>?_⟩
  obtain ⟨e1,h1⟩:=Yz (of_decide_eq_false h1)
  rw [h1]
  exact hpos ⟨e0,e1⟩
 ·intro kk hq
  refine QnC (fun r'=>r'=Y6 (m_held (α:=List Qe) a k)) a kk ((a.length:Nat):Int) ?_
  exact ⟨fun h=>absurd h (by simp),fun _=>hq⟩
theorem QyX:Qf Tryz.prog QhU:=Qj fun x h=>Qxw x.1 x.2.1 h
end
end Go.Proofs.YtdplaepmjogjjaaGreat.Am

