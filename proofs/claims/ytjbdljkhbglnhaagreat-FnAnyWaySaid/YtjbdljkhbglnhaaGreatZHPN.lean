/- -/
import Derived.Test.YtjbdljkhbglnhaaGreatZHP1
import Derived.Test.YtjbdljkhbglnhaaGreatZHP4
import Derived.Test.YtjbdljkhbglnhaaGreatZHP5
import Derived.Test.YtjbdljkhbglnhaaGreatZHGC
namespace Go.Proofs.YtjbdljkhbglnhaaGreat.Am
open Go Go.RowKit Go.Proofs.YtjbdljkhbglnhaaGreat
set_option linter.all false
set_option maxHeartbeats 2000000
noncomputable section
variable (K:TRes→Prop)
def YV (t:(List (List Int))):TRes:=zra (zcs [(.sl [TI])] t)
def Qle:TRow:=Qg 139 [(.c TI),(.c TI)] fun x=>(none,YV (Q2 x.1 x.2.1))
def QbV:List TRow:=[Jz]
def QyP:TCode :=
 (zsq [(zsq [(.reg [zmv 22 7,zmv 23 1,zbi 24 .lss 22 23]),(.cond 24 .skip (.exit 0))]),(.block 1 (.reg [zmv 27 6,zmv 28 7,zop 29 (.bsl 3 [TI] [28]),zop 30 (.app 27 29 3 [TI]),zmv 6 30])),(.reg [zmv 25 7,zbi 26 .add 25 (zki 1),zmv 7 26])])
def QpM:List (Nat × Md):=[(0,.one .d),(1,.one .d),(5,.one .f),(6,.one .f),(7,.one .d)]
def Qxq:TCode :=
 (zsq [(zsq [(.reg [zmv 41 8,zbi 42 .geq 41 (zki 0),zmv 43 42,.grp 43 true [zmv 44 6,zmv 45 8,zia 46 44 45 [TI],zld 47 46 1,zmv 48 0,zmv 49 6,zle 50 49,zbi 51 .sub 48 50,zmv 52 8,zbi 53 .add 51 52,zbi 54 .eql 47 53] 55 54]),(.cond 55 .skip (.exit 4))]),(.block 5 (.reg [zmv 56 8,zbi 57 .sub 56 (zki 1),zmv 8 57]))])
def QxC:List (Nat × Md):=[(0,.one .d),(5,.one .f),(6,.one .f),(8,.one .d)]
def Qpd:TCode :=
 (zsq [(zsq [(.reg [zmv 71 9,zmv 72 6,zle 73 72,zbi 74 .lss 71 73]),(.cond 74 .skip (.exit 6))]),(.block 7 (.reg [zmv 77 6,zmv 78 9,zmv 79 6,zmv 80 9,zbi 81 .sub 80 (zki 1),zia 82 79 81 [TI],zld 83 82 1,zbi 84 .add 83 (zki 1),zia 85 77 78 [TI],zst 85 84 1])),(.reg [zmv 75 9,zbi 76 .add 75 (zki 1),zmv 9 76])])
def QsT:List (Nat × Md):=[(0,.one .d),(5,.one .f),(6,.one .f),(9,.one .d)]
def Qud:TCode :=
 (zsq [(zsq [(.reg [zmv 58 8,zbi 59 .lss 58 (zki 0)]),(.cond 59 (zsq [(.reg [zmv 60 5,zmv 4 60]),.ret]) .skip)]),(.reg [zmv 61 6,zmv 62 8,zmv 63 6,zmv 64 8,zia 65 63 64 [TI],zld 66 65 1,zbi 67 .add 66 (zki 1),zia 68 61 62 [TI],zst 68 67 1]),(.reg [zmv 69 8,zbi 70 .add 69 (zki 1),zmv 9 70]),(.block 6 (.loop QsT Qpd))])
def Qi9:TCode :=
 (.block 3 (zsq [(.reg [zmv 31 5,zop 32 (.bsl 3 [TI] []),zmv 33 6,zop 34 (.app 32 33 3 [TI]),zop 35 (.build [(.n [TI])] [(0,1,34)]),zop 36 (.bsl 129 [(.sl [TI])] [35]),zop 37 (.app 31 36 129 [(.sl [TI])]),zmv 5 37]),(.reg [zmv 38 6,zle 39 38,zbi 40 .sub 39 (zki 1),zmv 8 40]),(.block 4 (.loop QxC Qxq)),Qud]))
def Qf9:List (Nat × Md):=[(0,.one .d),(5,.one .f),(6,.one .f)]
def Qxz:TCode :=
 (.block 2 (.loop Qf9 Qi9))
def QG0:TCode :=
 (zsq [(.reg [zmv 4 (.k (.n [(.sl [TI])]))]),(.reg [zop 10 (.bsl 129 [(.sl [TI])] []),zmv 5 10]),(zsq [(.reg [zmv 11 0,zca 12 77 [11,(zki 1),(zki 8)],zno 13 12,zmv 14 13,.grp 14 false [zmv 15 1,zmv 16 0,zca 17 77 [15,(zki 1),16],zno 18 17] 19 18]),(.cond 19 (zsq [(.reg [zmv 20 5,zmv 4 20]),.ret]) .skip)]),(.reg [zop 21 (.bsl 3 [TI] []),zmv 6 21]),(zsq [(.reg [zmv 7 (zki 1)]),(.block 0 (.loop QpM QyP))]),Qxz])
def Qoz:List (ARv × Md):=[(.t 4,.one .d)]
def QmA:Qb:=TQ 0 0 Qoz K
def Qny:Qb:=Qblk 2 (QmA K)
def QFA:Qb:=Qseq (fun s'=>Loop QbV 0 Qf9 Qi9 (Qny K) (gc 0 Qf9 s')) (Qny K)
def QmV:Qb:=Qblk 3 (QFA K)
def QAo:Qb:=Qblk 6 (QmV K)
def Qgp (ops:Int) (i1:Int) (out1:List (List Int)) (now2:List Int):Prop:=Loop QbV 0 QsT Qpd (QAo K) ⟨[(0,(zci ops)),(5,(.r [(.sl [TI])] 0 0 out1.length)),(6,(.r [TI] 1 0 now2.length)),(9,(zci i1))],[(0,(.sl 129 [(.sl [TI])] true out1)),(1,(.sl 3 [TI] true now2))],2⟩
def QKk:Qb:=Qseq (tawp QbV 0 Qud (QmV K)) (QmV K)
def QGV:Qb:=Qblk 4 (QKk K)
def QhJ (ops:Int) (k:Int) (out:List (List Int)) (now1:List Int):Prop:=Loop QbV 0 QxC Qxq (QGV K) ⟨[(0,(zci ops)),(5,(.r [(.sl [TI])] 0 0 out.length)),(6,(.r [TI] 1 0 now1.length)),(8,(zci k))],[(0,(.sl 129 [(.sl [TI])] true out)),(1,(.sl 3 [TI] true now1))],2⟩
def Qeb (ops:Int) (out2:List (List Int)) (now3:List Int):Prop:=Loop QbV 0 Qf9 Qi9 (Qny K) ⟨[(0,(zci ops)),(5,(.r [(.sl [TI])] 0 0 out2.length)),(6,(.r [TI] 1 0 now3.length))],[(0,(.sl 129 [(.sl [TI])] true out2)),(1,(.sl 3 [TI] true now3))],2⟩
def QOh:Qb:=Qseq (tawp QbV 0 Qxz (QmA K)) (QmA K)
def QHD:Qb:=Qblk 0 (QOh K)
def QfC (ops:Int) (stages:Int) (i:Int) (now:List Int):Prop:=Loop QbV 0 QpM QyP (QHD K) ⟨[(0,(zci ops)),(1,(zci stages)),(5,(.r [(.sl [TI])] 0 0 0)),(6,(.r [TI] 1 0 now.length)),(7,(zci i))],[(0,(.sl 129 [(.sl [TI])] true ([]:List (List Int)))),(1,(.sl 3 [TI] true now))],2⟩
theorem QyX (ops:Int) (i1:Int) (out1:List (List Int)) (now2:List Int) (h :
 (zif (decide (i1<((now2.length:Nat):Int))) ((((0:Int)≤w64 (i1-(1:Int))∧Int.toNat (w64 (i1-(1:Int)))<now2.length)∧(((0+(Int.toNat (w64 (i1-(1:Int)))))<now2.length)∧(((0:Int)≤i1∧Int.toNat i1<now2.length)∧((0+(Int.toNat i1))<now2.length))))∧(Qgp K ops (w64 (i1+(1:Int))) (List.take out1.length out1) (List.take now2.length ((now2).set (0+(Int.toNat i1)) (w64 ((gtd (0:Int) now2 (0+(Int.toNat (w64 (i1-(1:Int))))))+(1:Int))))))) (Qeb K ops (List.take out1.length out1) (List.take now2.length now2)))):Qgp K ops i1 out1 now2 :=
 Loop.of (by kernel_rfl) h
theorem QpT (ops:Int) (k:Int) (out:List (List Int)) (now1:List Int) (h :
 (((decide (k≥(0:Int)))=true→(((0:Int)≤k∧Int.toNat k<now1.length)∧((0+(Int.toNat k))<now1.length)))∧(zif ((decide (k≥(0:Int)))&&((gtd (0:Int) now1 (0+(Int.toNat k)))==(w64 ((w64 (ops-((now1.length:Nat):Int)))+k)))) (QhJ K ops (w64 (k-(1:Int))) (List.take out.length out) (List.take now1.length now1)) (zif (decide (k<(0:Int))) (K (YV (List.take out.length (List.drop 0 out)))) ((((0:Int)≤k∧Int.toNat k<now1.length)∧(((0+(Int.toNat k))<now1.length)∧(((0:Int)≤k∧Int.toNat k<now1.length)∧((0+(Int.toNat k))<now1.length))))∧(Qgp K ops (w64 (k+(1:Int))) (List.take out.length out) (List.take now1.length ((now1).set (0+(Int.toNat k)) (w64 ((gtd (0:Int) now1 (0+(Int.toNat k)))+(1:Int))))))))))):QhJ K ops k out now1 :=
 Loop.of (by kernel_rfl) h
theorem Qyu (ops:Int) (out2:List (List Int)) (now3:List Int) (h :
 ((((0=0∨0+(List.take now3.length (List.drop 0 now3)).length≤0)∧0+(List.take now3.length (List.drop 0 now3)).length≤big)∧((out2.length=out2.length∨out2.length+1≤out2.length)∧out2.length+1≤big))∧(QhJ K ops (w64 (((now3.length:Nat):Int)-(1:Int))) (List.take (out2.length+1) ((List.take out2.length out2)++([(List.take (0+(List.take now3.length (List.drop 0 now3)).length) (List.drop 0 (List.take now3.length (List.drop 0 now3))))]))) (List.take now3.length now3)))):Qeb K ops out2 now3 :=
 Loop.of (by kernel_rfl) h
theorem QxN (ops:Int) (stages:Int) (i:Int) (now:List Int) (h :
 (zif (decide (i<stages)) (((now.length=now.length∨now.length+1≤now.length)∧now.length+1≤big)∧(QfC K ops stages (w64 (i+(1:Int))) (List.take (now.length+1) ((List.take now.length now)++([i]))))) (Qeb K ops ([]:List (List Int)) (List.take now.length now)))):QfC K ops stages i now :=
 Loop.of (by kernel_rfl) h
theorem QQo (ops:Int) (stages:Int) (h :
 (zif ((!(m_in ops (1:Int) (8:Int)))||(!(m_in stages (1:Int) ops))) (K (YV ([]:List (List Int)))) (QfC K ops stages 1 ([]:List Int)))):Hold (tawp QbV (0+0) QG0 (TQ 0 0 Qoz K) (Qf [(.c TI ops),(.c TI stages)])) :=
 Hold.of (by kernel_rfl) h
theorem QAm (ops:Int) (stages:Int):TCon Tryz.prog 139 [(.c TI ops),(.c TI stages)] (YV (Q2 ops stages)):=by
 refine Qq rfl fun hb=>tcg (n:=86) (sg:=Qle.sg) Qj (TOk.cons JU TOk.nil) (by kernel_rfl) (by kernel_rfl) (QQo _ ops stages ?_)
 have hg0:((!(m_in ops 1 8))||(!(m_in stages 1 ops))) = !(m_in ops 1 8&&m_in stages 1 ops):=by cases m_in ops 1 8 <;> cases m_in stages 1 ops <;> rfl
 rw [hg0]
 refine ⟨fun h=>R_eq ?_,fun h=>?_⟩
 ·unfold Q2
  simp only [Bool.not_eq_true'] at h
  rw [h];rfl
 have hb:1≤ops∧ops≤8∧1≤stages∧stages≤ops:=by
  simp only [Bool.not_eq_false',Bool.and_eq_true,QJ] at h;omega
 obtain ⟨a1,a2,a3⟩:=QhE (n:=ops) (k:=stages) (by omega) (by omega) (by omega)
 have a4:=QkZ (n:=ops) (k:=stages) (by omega) (by omega) (by omega)
 have k6:∀ (out:List (List Int)) (f i:Nat) (now:List Int),now.length≤8→i+f=now.length→1≤i→Qeb (fun r'=>r'=YV (Q2 ops stages)) ops out (fill now i f)→Qgp (fun r'=>r'=YV (Q2 ops stages)) ops (i:Int) out now:=by
  intro out f
  induction f with
  | zero =>
   intro i now h1 h2 h3 hA
   refine QyX (fun r'=>r'=YV (Q2 ops stages)) ops _ _ _ ⟨fun h=>by simp at h;omega,fun _=>?_⟩
   rw [List.take_length,List.take_length]
   exact hA
  | succ f ih =>
   intro i now h1 h2 h3 hA
   refine QyX (fun r'=>r'=YV (Q2 ops stages)) ops _ _ _ ⟨fun _=>?_,fun h=>by simp at h;omega⟩
   have e:w64 ((i:Int)-1)=((i-1:Nat):Int):=by rw [Qo (by omega) (by omega)];omega
   rw [e,sc1 (by omega)]
   simp only [Int.toNat_natCast,Nat.zero_add]
   refine ⟨⟨⟨by omega,by omega⟩,by omega,⟨by omega,by omega⟩,by omega⟩,?_⟩
   rw [List.take_length,show List.take now.length (now.set i (w64 (gtd 0 now (i-1)+1)))=now.set i (w64 (gtd 0 now (i-1)+1)) from List.take_of_length_le (by simp)]
   exact ih (i+1) _ (by simpa using h1) (by simp;omega) (by omega) hA
 have k5:∀ (out:List (List Int)) (x:List Int),x.length≤8→(fk ops x x.length<0→out=(Q2 ops stages)) →
   (0≤fk ops x x.length→Qeb (fun r'=>r'=YV (Q2 ops stages)) ops out (fill (x.set (fk ops x x.length).toNat (w64 (gtd 0 x (fk ops x x.length).toNat+1))) ((fk ops x x.length).toNat+1) (x.length-((fk ops x x.length).toNat+1)))) →
   ∀ j:Nat,j≤x.length→fk ops x j=fk ops x x.length→QhJ (fun r'=>r'=YV (Q2 ops stages)) ops ((j:Int)-1) out x:=by
  intro out x h1 hK hA j
  induction j with
  | zero =>
   intro _ hf
   refine QpT (fun r'=>r'=YV (Q2 ops stages)) ops _ _ _ ⟨fun h=>by simp at h,fun h=>by simp at h,fun _=>⟨fun _=>R_eq ?_,fun h=>by simp at h⟩⟩
   rw [JP]
   exact hK (by rw [← hf];simp [fk])
  | succ j ih =>
   intro hj hf
   have e0:((j+1:Nat):Int)-1=j:=by omega
   rw [e0]
   refine QpT (fun r'=>r'=YV (Q2 ops stages)) ops _ _ _ ?_
   simp only [Int.toNat_natCast,Nat.zero_add]
   refine ⟨fun _=>⟨⟨by omega,by omega⟩,by omega⟩,fun h=>?_,fun h=>⟨fun h=>by simp at h;omega,fun _=>⟨⟨⟨by omega,by omega⟩,by omega,⟨by omega,by omega⟩,by omega⟩,?_⟩⟩⟩
   ·rw [List.take_length,List.take_length,Qo (x:=(j:Int)-1) (by omega) (by omega)]
    simp only [Bool.and_eq_true,beq_iff_eq] at h
    refine ih (by omega) ?_
    rw [← hf,fk,if_pos h.2]
   ·have hne:¬ gtd 0 x j=w64 (w64 (ops-(x.length:Int))+j):=by
     intro h2
     rw [h2] at h
     simp at h <;> omega
    have hfk:fk ops x x.length=j:=by rw [← hf,fk,if_neg hne]
    rw [hfk] at hA
    simp only [Int.toNat_natCast] at hA
    rw [List.take_length,sc1 (by omega),show List.take x.length (x.set j (w64 (gtd 0 x j+1)))=x.set j (w64 (gtd 0 x j+1)) from List.take_of_length_le (by simp)]
    exact k6 out (x.length-(j+1)) (j+1) _ (by simpa using h1) (by simp;omega) (by omega) (hA (by omega))
 have k3:∀ (r:List (List Int)) (out:List (List Int)) (x:List Int),Qd3 ops (x::r)=true→out++x::r=(Q2 ops stages)→Qeb (fun r'=>r'=YV (Q2 ops stages)) ops out x:=by
  intro r
  induction r with
  | nil =>
   intro out x hs he
   have hx:=(a3 x (by rw [← he];simp)).2
   have hl:out.length+1≤100:=by have:=congrArg List.length he;simp at this;omega
   refine Qyu (fun r'=>r'=YV (Q2 ops stages)) ops _ _ ?_
   simp only [JP,QsW]
   refine ⟨⟨⟨by simp,by rw [Zi];omega⟩,⟨by simp,by rw [Zi];omega⟩⟩,?_⟩
   rw [Zq,List.take_length,Qo (by omega) (by omega)]
   refine k5 _ x (by omega) (fun _=>he) (fun h=>?_) x.length (Nat.le_refl _) rfl
   simp only [Qd3,Qfp] at hs
   rw [if_neg (by omega)] at hs
   simp at hs
  | cons y r ih =>
   intro out x hs he
   have hx:=(a3 x (by rw [← he];simp)).2
   have hl:out.length+1≤100:=by have:=congrArg List.length he;simp at this;omega
   simp only [Qd3,Bool.and_eq_true,decide_eq_true_eq] at hs
   refine Qyu (fun r'=>r'=YV (Q2 ops stages)) ops _ _ ?_
   simp only [JP,QsW]
   refine ⟨⟨⟨by simp,by rw [Zi];omega⟩,⟨by simp,by rw [Zi];omega⟩⟩,?_⟩
   rw [Zq,List.take_length,Qo (by omega) (by omega)]
   refine k5 _ x (by omega) (fun h=>?_) (fun h=>?_) x.length (Nat.le_refl _) rfl
   ·have h2:=hs.1
    unfold Qfp at h2
    rw [if_pos h] at h2
    simp at h2
   ·have h2:=hs.1
    unfold Qfp at h2
    rw [if_neg (by omega)] at h2
    rw [Option.some.inj h2]
    exact ih _ y hs.2 (by rw [← he];simp)
 have key:QfC (fun r'=>r'=YV (Q2 ops stages)) ops stages (((0:Nat):Int)+1) ((List.range 0).map fun i:Nat=>(i:Int)+1):=by
  refine JL (stages-1).toNat (fun j=>QfC (fun r'=>r'=YV (Q2 ops stages)) ops stages ((j:Int)+1) ((List.range j).map fun i:Nat=>(i:Int)+1)) ?_ ?_
  ·refine QxN (fun r'=>r'=YV (Q2 ops stages)) ops stages _ _ ⟨fun h=>by simp at h;omega,fun _=>?_⟩
   rw [List.take_length]
   obtain ⟨x,r,hA⟩:=List.exists_cons_of_length_pos (show 0<(Q2 ops stages).length by omega)
   rw [hA] at a1 a2
   simp only [List.head?_cons,Option.some.injEq] at a2
   rw [← a2]
   exact k3 r [] x a1 hA.symm
  ·intro j hj ih
   refine QxN (fun r'=>r'=YV (Q2 ops stages)) ops stages _ _ ⟨fun _=>⟨⟨.inl rfl,by rw [Zi];simp;omega⟩,?_⟩,fun h=>by simp at h;omega⟩
   rw [Zq,Qo (by omega) (by omega),show (j:Int)+1+1=((j+1:Nat):Int)+1 by omega]
   rw [List.range_succ,List.map_append] at ih
   exact ih
 exact key
theorem QBp:Qh Tryz.prog Qle:=Qk fun x _=>QAm x.1 x.2.1
def QcM (t:(List Int) × Bool):TRes:=zra (.tp [(zcs [TI] t.1),(zcb t.2)])
def QkJ:TRow:=Qg 65 [(.a [(.sl ctOp)]),(.c TI)] fun x=>(none,QcM (Yj x.1 x.2.1))
def Qkx:List TRow:=[QbH,Jz,Qle,QnP]
def Qvz:TCode :=
 (zsq [(zsq [(.reg [zmv 30 8,zmv 31 6,zle 32 31,zbi 33 .lss 30 32]),(.cond 33 .skip (.exit 0))]),(.block 1 (zsq [(.draw [zLd 36 2 1,zmv 37 6,zmv 38 8,zia 39 37 38 [(.sl [TI])],zfa 40 39 0,zld 41 40 1,zca 42 140 [36,41],zLd 43 2 1,zmv 44 7,zca 45 140 [43,44],zbi 46 .lss 42 45] [(6,7)]),(.cond 46 (.reg [zmv 47 6,zmv 48 8,zia 49 47 48 [(.sl [TI])],zfa 50 49 0,zld 51 50 1,zmv 7 51]) .skip)])),(.reg [zmv 34 8,zbi 35 .add 34 (zki 1),zmv 8 35])])
def Qxa:List (Nat × Md):=[(2,.b [.d]),(6,.one .d),(7,.one .d),(8,.one .d)]
def Qre:TCode :=
 (zsq [(.reg [zop 52 (.bsl 3 [TI] []),zmv 53 7,zop 54 (.app 52 53 3 [TI]),zmv 4 54,zmv 5 (zkb true)]),.ret])
def QNB:TCode :=
 (zsq [(.reg [zop 2 (.box 26 0 1),zmv 4 (.k (.n [TI])),zmv 5 (zkb false)]),(zsq [(.reg [zLd 9 2 1,zca 10 74 [9],zno 11 10,zmv 12 11,.grp 12 false [zmv 13 1,zfa 14 2 0,zld 15 14 1,zle 16 15,zca 17 77 [13,(zki 1),16],zno 18 17] 19 18]),(.cond 19 (zsq [(.reg [zop 20 (.bsl 3 [TI] []),zmv 4 20,zmv 5 (zkb false)]),.ret]) .skip)]),(.reg [zfa 21 2 0,zld 22 21 1,zle 23 22,zmv 24 1,zca 25 139 [23,24],zmv 6 25]),(.reg [zmv 26 6,zia 27 26 (zki 0) [(.sl [TI])],zfa 28 27 0,zld 29 28 1,zmv 7 29]),(zsq [(.reg [zmv 8 (zki 1)]),(.block 0 (.loop Qxa Qvz))]),Qre])
def Qx0:List (ARv × Md):=[(.t 4,.one .d),(.t 5,.one .d)]
def Qpz:Qb:=TQ 0 0 Qx0 K
def QGg:Qb:=Qseq (tawp Qkx 0 Qre (Qpz K)) (Qpz K)
def QEp:Qb:=Qblk 0 (QGg K)
def Qfd (m:List TOp') (stages:Int) (best:List Int) (i:Int):Prop:=Loop Qkx 0 Qxa Qvz (QEp K) ⟨[(2,(.p 0 0 0)),(6,(zcs [(.sl [TI])] (Q2 (m.length:Int) stages))),(7,(zcs [TI] best)),(8,(zci i))],[(0,(.box [(zcs ctOp m)]))],1⟩
theorem QzF (m:List TOp') (stages:Int) (best:List Int) (i:Int) (h :
 (zif (decide (i<((Q2 (m.length:Int) stages).length:Int))) (((0:Int)≤i∧Int.toNat i<(Q2 (m.length:Int) stages).length)∧(zif (decide ((YX m (gtd ([]:List Int) (Q2 (m.length:Int) stages) (Int.toNat i)))<(YX m best))) (((0:Int)≤i∧Int.toNat i<(Q2 (m.length:Int) stages).length)∧(Qfd K m stages (gtd ([]:List Int) (Q2 (m.length:Int) stages) (Int.toNat i)) (w64 (i+(1:Int))))) (Qfd K m stages best (w64 (i+(1:Int)))))) (((0=0∨0+best.length≤0)∧0+best.length≤big)∧K (QcM ((List.take (0+best.length) (List.drop 0 (best:List Int))),true))))):Qfd K m stages best i :=
 Loop.of (by kernel_rfl) h
theorem QEB (m:List TOp') (stages:Int) (h :
 (zif ((!(Qw m))||(!(m_in stages (1:Int) (m.length:Int)))) (K (QcM (([]:List Int),false))) (((0:Int)≤(0:Int)∧Int.toNat (0:Int)<(Q2 (m.length:Int) stages).length)∧(Qfd K m stages (gtd ([]:List Int) (Q2 (m.length:Int) stages) (Int.toNat (0:Int))) 1)))):Hold (tawp Qkx (0+0) QNB (TQ 0 0 Qx0 K) (Qf [(.a [(.c (.sl ctOp) m)]),(.c TI stages)])) :=
 Hold.of (by kernel_rfl) h
theorem QRn (m:List TOp') (stages:Int):TCon Tryz.prog 65 [(.a [(.c (.sl ctOp) m)]),(.c TI stages)] (QcM (Yj m stages)):=by
 refine Qq rfl fun hb=>tcg (n:=55) (sg:=QkJ.sg) Qj (TOk.cons Qd8 (TOk.cons JU (TOk.cons QBp (TOk.cons QFM TOk.nil)))) (by kernel_rfl) (by kernel_rfl) (QEB _ m stages ?_)
 have hl_m_0:(m).length≤9223372036854775807:=hb.1.1.1
 have hg0:((!(Qw m))||(!(m_in stages 1 m.length))) = !(Qw m&&m_in stages 1 m.length):=by cases Qw m <;> rfl
 rw [hg0]
 refine ⟨fun h=>R_eq ?_,fun h=>?_⟩
 ·unfold Yj
  simp only [Bool.not_eq_true'] at h
  rw [h];rfl
 simp only [Bool.not_eq_false'] at h
 have hM:(Yj m stages)=(JH (YX m) (Q2 m.length stages) (gtd [] (Q2 m.length stages) 0),true):=by unfold Yj;rw [if_pos h]
 simp only [Bool.and_eq_true,QJ] at h
 have hm:=Yx h.1
 have hl:=QkZ (n:=m.length) (k:=stages) (by omega) (by omega) (by omega)
 have hs:=(QhE (n:=m.length) (k:=stages) (by omega) (by omega) (by omega)).2.2
 refine ⟨⟨by omega,by simp;omega⟩,?_⟩
 have key:∀ (k:Nat) (r:List (List Int)) (b:List Int),(Q2 m.length stages).drop k=r→k≤(Q2 m.length stages).length→b∈Q2 m.length stages→JH (YX m) r b=JH (YX m) (Q2 m.length stages) (gtd [] (Q2 m.length stages) 0)→Qfd (fun r'=>r'=QcM (Yj m stages)) m stages b (k:Int):=by
  intro k r
  induction r generalizing k with
  | nil =>
   intro b hk hkl hb he
   have hb2:=(hs b hb).2
   have hk2:(Q2 m.length stages).length≤k:=by simpa using hk
   refine QzF (fun r'=>r'=QcM (Yj m stages)) m stages _ _ ⟨fun h=>by simp at h;omega,fun _=>⟨⟨by simp,by rw [Zi];omega⟩,R_eq ?_⟩⟩
   rw [hM,← he];simp [JH]
  | cons x r ih =>
   intro b hk hkl hb he
   have hx:x∈Q2 m.length stages:=List.mem_of_mem_drop (by rw [hk];exact List.mem_cons_self)
   have hlt:k<(Q2 m.length stages).length:=by
    have:=congrArg List.length hk;simp at this;omega
   have hd:(Q2 m.length stages).drop (k+1)=r:=by rw [← List.drop_drop,hk];rfl
   have hg:=Y1 hk []
   rw [JH] at he
   refine QzF (fun r'=>r'=QcM (Yj m stages)) m stages _ _ ⟨fun _=>?_,fun h=>by simp at h;omega⟩
   rw [Int.toNat_natCast,hg,sc1 (by omega)]
   refine ⟨⟨by omega,hlt⟩,fun h=>⟨⟨by omega,hlt⟩,ih (k+1) x hd (by omega) hx ?_⟩,fun h=>ih (k+1) b hd (by omega) hb ?_⟩
   ·rw [if_pos (by simpa using h)] at he;exact he
   ·rw [if_neg (by simpa using h)] at he;exact he
 refine key 1 _ _ rfl (by omega) (Y7 (by omega) _) ?_
 cases hA:Q2 m.length stages with
 | nil=>rw [hA] at hl;simp at hl
 | cons x r=>rw [Qbg,JH,if_neg (by omega)];rfl
theorem QFu:Qh Tryz.prog QkJ:=Qk fun x _=>QRn x.1 x.2.1
end
end Go.Proofs.YtjbdljkhbglnhaaGreat.Am

