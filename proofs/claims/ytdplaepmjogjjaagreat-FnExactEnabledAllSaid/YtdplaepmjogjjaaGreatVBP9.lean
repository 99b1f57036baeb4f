/- -/
import Derived.Test.YtdplaepmjogjjaaGreatVBP1
import Derived.Test.YtdplaepmjogjjaaGreatVBP8
import Derived.Test.YtdplaepmjogjjaaGreatVBP2
namespace Go.Proofs.YtdplaepmjogjjaaGreat.Am
open Go Go.RowKit Go.Proofs.YtdplaepmjogjjaaGreat
set_option linter.all false
noncomputable section
variable (K:TRes→Prop)
def Q8 (t:Bool):TRes:=zre (zcb t)
def QeV:TRow:=Qi 176 [(.a Qx)] fun x=>(none,Q8 (QF x.1))
def Yi:TTab:=⟨[ZP,QgI,QiJ,Qbd],false⟩
def QjN:TCode :=
 (zsq [(zsq [(.reg [zmv 59 6,zfa 60 5 1,zld 61 60 1,zle 62 61,zbi 63 .lss 59 62]),(.cond 63 .skip (.exit 2))]),(.block 3 (zsq [(.draw [zfa 66 5 1,zld 67 66 1,zmv 68 6,zia 69 67 68 Qz,zfa 70 69 1,zld 71 70 1,zfa 72 1 0,zld 73 72 1,zle 74 73,zbi 75 .sub 74 (zki 1),zca 76 158 [71,(zki 0),75],zno 77 76] []),(.cond 77 (zsq [(.reg [zmv 2 (zkb false)]),.ret]) .skip)])),(.reg [zmv 64 6,zbi 65 .add 64 (zki 1),zmv 6 65])])
def Qlz:List (Nat × Md):=[(1,.b (zds 4)),(3,.one .d),(4,.one .d),(5,.b (zds 14)),(6,.one .d)]
def QnV:TCode :=
 (zsq [(.reg [zmv 78 4,zbi 79 .gtr 78 (zki 0),zmv 80 79,.grp 80 true [zfa 81 1 2,zld 82 81 1,zmv 83 4,zbi 84 .sub 83 (zki 1),zia 85 82 84 Qt,zLd 86 85 2,zca 87 218 [86],zno 88 87,zmv 89 88,.grp 89 false [zfa 90 1 3,zld 91 90 1,zmv 92 4,zbi 93 .sub 92 (zki 1),zia 94 91 93 Qt,zLd 95 94 2,zca 96 218 [95],zno 97 96] 98 97] 99 98]),(.cond 99 (zsq [(.reg [zmv 2 (zkb false)]),.ret]) .skip)])
def Qo2:TCode :=
 (.reg [zmv 40 4,zbi 41 .add 40 (zki 1),zmv 4 41])
def Qgz:TCode :=
 (zsq [(zsq [(.reg [zmv 37 4,zmv 38 3,zbi 39 .lss 37 38]),(.cond 39 .skip (.exit 0))]),(.block 1 (zsq [(.reg [zfa 42 1 1,zld 43 42 1,zmv 44 4,zia 45 43 44 Qo,zLd 46 45 14,zop 5 (.new 39 (z0s Qo)),zst 5 46 14]),(zsq [(.reg [zLd 47 5 14,zca 48 63 [47],zno 49 48,zmv 50 49,.grp 50 false [zfa 51 5 3,zld 52 51 1,zmv 53 4,zmv 54 3,zbi 55 .sub 54 (zki 1),zbi 56 .eql 53 55,zop 57 (.eqb true 52 56)] 58 57]),(.cond 58 (zsq [(.reg [zmv 2 (zkb false)]),.ret]) .skip)]),(zsq [(.reg [zmv 6 (zki 0)]),(.block 2 (.loop Qlz QjN))]),QnV])),Qo2])
def Qer:List (Nat × Md):=[(1,.b (zds 4)),(3,.one .d),(4,.one .d)]
def QnQ:TCode :=
 (zsq [(zsq [(.reg [zmv 100 7,zfa 101 1 0,zld 102 101 1,zle 103 102,zbi 104 .lss 100 103]),(.cond 104 .skip (.exit 4))]),(.block 5 (zsq [(.reg [zfa 107 1 0,zld 108 107 1,zmv 109 7,zia 110 108 109 QA,zfa 111 110 0,zld 112 111 1,zca 113 97 [112],zno 114 113,zmv 115 114,.grp 115 false [zfa 116 1 0,zld 117 116 1,zmv 118 7,zia 119 117 118 QA,zfa 120 119 1,zld 121 120 1,zca 122 97 [121],zno 123 122] 124 123]),(.cond 124 (zsq [(.reg [zmv 2 (zkb false)]),.ret]) .skip)])),(.reg [zmv 105 7,zbi 106 .add 105 (zki 1),zmv 7 106])])
def QnH:List (Nat × Md):=[(1,.b (zds 4)),(7,.one .d)]
def QkP:TCode :=
 (zsq [(.reg [zmv 2 (zkb true)]),.ret])
def QlZ:TCode :=
 (zsq [(zsq [(.reg [zmv 7 (zki 0)]),(.block 4 (.loop QnH QnQ))]),QkP])
def QDJ:TCode :=
 (zsq [(.reg [zop 1 (.box 56 0 4),zmv 2 (zkb false)]),(.reg [zfa 8 1 1,zld 9 8 1,zle 10 9,zmv 3 10]),(zsq [(.reg [zmv 11 3,zca 12 158 [11,(zki 1),(zki 4)],zno 13 12,zmv 14 13,.grp 14 false [zfa 15 1 2,zld 16 15 1,zle 17 16,zmv 18 3,zbi 19 .sub 18 (zki 1),zbi 20 .neq 17 19] 21 20,zmv 22 21,.grp 22 false [zfa 23 1 3,zld 24 23 1,zle 25 24,zmv 26 3,zbi 27 .sub 26 (zki 1),zbi 28 .neq 25 27] 29 28,zmv 30 29,.grp 30 false [zfa 31 1 0,zld 32 31 1,zle 33 32,zca 34 158 [33,(zki 1),(zki 5)],zno 35 34] 36 35]),(.cond 36 (zsq [(.reg [zmv 2 (zkb false)]),.ret]) .skip)]),(zsq [(.reg [zmv 4 (zki 0)]),(.block 0 (.loop Qer Qgz))]),QlZ])
def Qmy:List (ARv × Md):=[(.t 2,.one .d)]
def Qev:Qb:=TQ 0 0 Qmy K
def Qz8:Qb:=Qseq (tawp Yi 0 QlZ (Qev K)) (Qev K)
def Qhi:Qb:=Qblk 0 (Qz8 K)
def QoO:Qb:=Qseq (fun s'=>Loop Yi 0 Qer Qgz (Qhi K) (gc 0 Qer s')) (Qhi K)
def QCA:Qb:=Qseq (tawp Yi 0 Qo2 (QoO K)) (QoO K)
def QpN:Qb:=Qblk 1 (QCA K)
def QDR:Qb:=Qseq (tawp Yi 0 QnV (QpN K)) (QpN K)
def QB0:Qb:=Qblk 2 (QDR K)
def Qho (p:Qp) (i:Int) (s:Int):Prop:=Loop Yi 0 Qlz QjN (QB0 K) ⟨[(1,(.p 0 0 0)),(3,(zci ((p.2.1).length:Int))),(4,(zci s)),(5,(.p 1 0 0)),(6,(zci i))],[(0,(.box (Tup.cells Qx p))),(1,(.box (Tup.cells Qo (gtd Qv p.2.1 (Int.toNat s)))))],2⟩
def Qt0:Qb:=Qseq (tawp Yi 0 QkP (Qev K)) (Qev K)
def Qzh:Qb:=Qblk 4 (Qt0 K)
def Qcv (p:Qp) (i1:Int):Prop:=Loop Yi 0 QnH QnQ (Qzh K) ⟨[(1,(.p 0 0 0)),(7,(zci i1))],[(0,(.box (Tup.cells Qx p)))],1⟩
def QbR (p:Qp) (s:Int):Prop:=Loop Yi 0 Qer Qgz (Qhi K) ⟨[(1,(.p 0 0 0)),(3,(zci ((p.2.1).length:Int))),(4,(zci s))],[(0,(.box (Tup.cells Qx p)))],1⟩
theorem QsS (p:Qp) (i:Int) (s:Int) (h :
 (zif (decide (i<(((gtd Qv p.2.1 (Int.toNat s)).2.1).length:Int))) (((0:Int)≤i∧Int.toNat i<((gtd Qv p.2.1 (Int.toNat s)).2.1).length)∧(zif (!(m_in ((gtd dIns ((gtd Qv p.2.1 (Int.toNat s)).2.1) (Int.toNat i)).2) (0:Int) (w64 (((p.1).length:Int)-(1:Int))))) (K (Q8 false)) (Qho K p (w64 (i+(1:Int))) s))) (((decide (s>(0:Int)))=true→(((0:Int)≤w64 (s-(1:Int))∧Int.toNat (w64 (s-(1:Int)))<(p.2.2.1).length)∧((!(!(QJ (gtd QC p.2.2.1 (Int.toNat (w64 (s-(1:Int))))))))=true→((0:Int)≤w64 (s-(1:Int))∧Int.toNat (w64 (s-(1:Int)))<(p.2.2.2).length))))∧(zif ((decide (s>(0:Int)))&&((!(QJ (gtd QC p.2.2.1 (Int.toNat (w64 (s-(1:Int)))))))||(!(QJ (gtd QC p.2.2.2 (Int.toNat (w64 (s-(1:Int))))))))) (K (Q8 false)) (QbR K p (w64 (s+(1:Int)))))))):Qho K p i s :=
 Loop.of (by kernel_rfl) h
theorem Qkz (p:Qp) (i1:Int) (h :
 (zif (decide (i1<((p.1).length:Int))) ((((0:Int)≤i1∧Int.toNat i1<(p.1).length)∧((!(!(QS ((gtd QZ p.1 (Int.toNat i1)).1))))=true→((0:Int)≤i1∧Int.toNat i1<(p.1).length)))∧(zif ((!(QS ((gtd QZ p.1 (Int.toNat i1)).1)))||(!(QS ((gtd QZ p.1 (Int.toNat i1)).2)))) (K (Q8 false)) (Qcv K p (w64 (i1+(1:Int)))))) (K (Q8 true)))):Qcv K p i1 :=
 Loop.of (by kernel_rfl) h
theorem Qpt (p:Qp) (s:Int) (h :
 (zif (decide (s<((p.2.1).length:Int))) (((0:Int)≤s∧Int.toNat s<(p.2.1).length)∧(zif ((!(QM (gtd Qv p.2.1 (Int.toNat s))))||(!(((gtd Qv p.2.1 (Int.toNat s)).2.2.2.1)==(s==(w64 (((p.2.1).length:Int)-(1:Int))))))) (K (Q8 false)) (Qho K p 0 s))) (Qcv K p 0))):QbR K p s :=
 Loop.of (by kernel_rfl) h
theorem Qyd (p:Qp) (h :
 (zif ((((!(m_in ((p.2.1).length:Int) (1:Int) (4:Int)))||(((p.2.2.1).length:Int) != (w64 (((p.2.1).length:Int)-(1:Int)))))||(((p.2.2.2).length:Int) != (w64 (((p.2.1).length:Int)-(1:Int)))))||(!(m_in ((p.1).length:Int) (1:Int) (5:Int)))) (K (Q8 false)) (QbR K p 0))):Hold (tawp Yi (0+0) QDJ (TQ 0 0 Qmy K) (Qg [(.a (Tup.cells Qx p))])) :=
 Hold.of (by kernel_rfl) h
theorem QuW (p:Qp):TCon Tryz.prog 176 [(.a (Tup.cells Qx p))] (Q8 (QF p)):=by
 refine Qk rfl fun hb=>tcg (Γ:=Yi) (n:=125) (sg:=QeV.sg) Ql (TOkL.cons Yr (TOkL.cons QEi (TOkL.cons QCz (TOkL.cons Qey TOkL.nil)))) (by kernel_rfl) (by kernel_rfl) (Qyd _ p ?_)
 have hl_p_0:(p.1).length≤9223372036854775807:=hb.1.1.1
 have hl_p_1:(p.2.1).length≤9223372036854775807:=hb.1.2.1.1
 have hl_p_2:(p.2.2.1).length≤9223372036854775807:=hb.1.2.2.1.1
 have hl_p_3:(p.2.2.2).length≤9223372036854775807:=hb.1.2.2.2.1.1
 by_cases h0:m_in p.2.1.length 1 4=true
 rotate_left
 ·exact ⟨fun h=>R_eq (by simp [QF,h0]),fun h=>by simp [h0] at h⟩
 have h1:=Q5.1 h0
 have e1:w64 ((p.2.1.length:Int)-1)=p.2.1.length-1:=Qw (by omega) (by omega)
 rw [e1]
 refine ⟨fun h=>R_eq ?_,fun h=>?_⟩
 ·have:((p.2.2.1.length+1==p.2.1.length)&&(p.2.2.2.length+1==p.2.1.length)&&m_in p.1.length 1 5)=false:=by
   cases hx:m_in p.1.length 1 5 with
   | false=>simp
   | true=>simp [h0,hx] at h;simp;omega
  have e2:(QF p)=false:=by
   unfold QF
   rw [h0,Bool.true_and,this,Bool.false_and]
  exact e2.symm
 have h2:m_in p.1.length 1 5=true:=by grind
 have h3:=Q5.1 h2
 have ha:p.2.2.1.length+1=p.2.1.length∧p.2.2.2.length+1=p.2.1.length:=by simp [h0,h2] at h;omega
 have val:(QF p)=(p.1.all ZY&&(p.2.2.1.all QJ&&p.2.2.2.all QJ)&&Ya p.1.length p.2.1):=by
  simp only [QF,h0,h2,ha];simp
 have e3:w64 ((p.1.length:Int)-1)=p.1.length-1:=Qw (by omega) (by omega)
 have batch:(p.2.2.1.all QJ&&p.2.2.2.all QJ)=true→Ya p.1.length p.2.1=true→Qcv (fun r'=>r'=Q8 (QF p)) p ((0:Nat):Int):=by
  intro hq hs
  refine Zp p.1 (fun r k=>r.all ZY=p.1.all ZY→Qcv (fun r'=>r'=Q8 (QF p)) p k) ?_ ?_ rfl
  ·intro he
   refine Qkz (fun r'=>r'=Q8 (QF p)) p _ ⟨fun h=>by simp at h,fun _=>R_eq ?_⟩
   rw [val,hq,hs,← he];rfl
  ·intro k x r hk hlt hg ih he
   refine Qkz (fun r'=>r'=Q8 (QF p)) p _ ⟨fun _=>?_,fun h=>by simp at h;omega⟩
   rw [Int.toNat_natCast,hg,Qw (x:=(k:Int)+1) (by omega) (by omega)]
   rw [List.all_cons] at he
   refine ⟨⟨⟨by omega,hlt⟩,fun _=>⟨by omega,hlt⟩⟩,fun h=>R_eq ?_,fun h=>ih ?_⟩
   ·have:ZY x=false:=by grind [ZY]
    rw [this,Bool.false_and] at he
    rw [val,← he];rfl
   ·have:ZY x=true:=by grind [ZY]
    rw [this,Bool.true_and] at he
    exact he
 refine Zp p.2.1 (fun r k=>Ya p.1.length r=Ya p.1.length p.2.1→(∀ j:Nat,j+1<k→QJ (gtd QC p.2.2.1 j)=true∧QJ (gtd QC p.2.2.2 j)=true)→QbR (fun r'=>r'=Q8 (QF p)) p k) ?_ ?_ rfl (fun j hj=>by omega)
 ·intro he hq
  refine Qpt (fun r'=>r'=Q8 (QF p)) p _ ⟨fun h=>by simp at h,fun _=>batch ?_ ?_⟩
  ·rw [(Qdw QC).2 (fun j hj=>(hq j (by omega)).1),(Qdw QC).2 (fun j hj=>(hq j (by omega)).2)];rfl
  ·rw [← he];rfl
 ·intro k x r hk hlt hg ih he hq
  have hmem:x∈p.2.1:=List.mem_of_mem_drop (i:=k) (by rw [hk];exact List.mem_cons_self)
  have hbx:x.2.1.length≤9223372036854775807:=(hb.1.2.1.2 x hmem).2.1.1
  have hlast:=Qnh hk hl_p_1
  rw [e1] at hlast
  rw [Ya] at he
  refine Qpt (fun r'=>r'=Q8 (QF p)) p _ ⟨fun _=>?_,fun h=>by simp at h;omega⟩
  rw [Int.toNat_natCast,hg,e1,hlast]
  refine ⟨⟨by omega,hlt⟩,fun h=>R_eq ?_,fun h=>?_⟩
  ·have:(QM x&&(x.2.2.2.1==decide (r.length=0)))=false:=by grind
   rw [this,Bool.false_and,Bool.false_and] at he
   rw [val,← he,Bool.and_false]
  ·have:(QM x&&(x.2.2.2.1==decide (r.length=0)))=true:=by grind
   rw [this,Bool.true_and] at he
   have rest:x.2.1.all (fun y=>m_in y.2 0 (p.1.length-1))=true→((((decide ((k:Int)>0))=true→((0≤w64 ((k:Int)-1)∧Int.toNat (w64 ((k:Int)-1))<p.2.2.1.length)∧((!(!(QJ (gtd QC p.2.2.1 (Int.toNat (w64 ((k:Int)-1)))))))=true→(0≤w64 ((k:Int)-1)∧Int.toNat (w64 ((k:Int)-1))<p.2.2.2.length))))∧((((decide ((k:Int)>0))&&((!(QJ (gtd QC p.2.2.1 (Int.toNat (w64 ((k:Int)-1))))))||(!(QJ (gtd QC p.2.2.2 (Int.toNat (w64 ((k:Int)-1))))))))=true→Q8 false=Q8 (QF p))∧(((decide ((k:Int)>0))&&((!(QJ (gtd QC p.2.2.1 (Int.toNat (w64 ((k:Int)-1))))))||(!(QJ (gtd QC p.2.2.2 (Int.toNat (w64 ((k:Int)-1))))))))=false→QbR (fun r'=>r'=Q8 (QF p)) p (w64 ((k:Int)+1)))))):=by
    intro hx
    rw [hx,Bool.true_and] at he
    rw [Qw (x:=(k:Int)+1) (by omega) (by omega)]
    rcases Nat.eq_zero_or_pos k with k0 | k0
    ·subst k0
     exact ⟨fun h=>by simp at h,fun h=>by simp at h,fun _=>ih he (fun j hj=>by omega)⟩
    ·have e2:=JJ k0 (by omega:k≤9223372036854775807)
     rw [e2.1]
     refine ⟨fun _=>⟨⟨e2.2,by omega⟩,fun _=>⟨e2.2,by omega⟩⟩,fun h=>R_eq ?_,fun h=>ih he (fun j hj=>?_)⟩
     ·have hqs:(p.2.2.1.all QJ&&p.2.2.2.all QJ)=false:=by
       cases hc:(p.2.2.1.all QJ&&p.2.2.2.all QJ) with
       | false=>rfl
       | true =>
        simp only [Bool.and_eq_true] at hc
        have a1:=(Qdw QC).1 hc.1 (k-1) (by omega)
        have a2:=(Qdw QC).1 hc.2 (k-1) (by omega)
        rw [a1,a2] at h
        simp at h
      rw [val,hqs];simp
     ·by_cases hjk:j+1<k
      ·exact hq j hjk
      ·rw [show j=k-1 by omega]
       have hpos:decide ((k:Int)>0)=true:=by simp;omega
       rw [hpos] at h
       grind
   refine Qac (l:=x.2.1) (Q:=fun b=>selP b _ (Q8 false=Q8 (QF p))) (p:=fun y=>m_in y.2 0 (p.1.length-1)) (c:=fun y=>!(m_in y.2 0 (p.1.length-1))) (e:=true) dIns hbx (fun y=>rfl) (fun i h=>QsS (fun r'=>r'=Q8 (QF p)) p i k (by rw [Int.toNat_natCast,hg,e3];exact h)) ?_
   cases hx:x.2.1.all (fun y=>m_in y.2 0 (p.1.length-1)) with
   | false =>
    rw [hx,Bool.false_and] at he
    exact R_eq (by rw [val,← he,Bool.and_false])
   | true=>exact rest hx
theorem QyO:Qj Tryz.prog QeV:=Qn fun x _=>QuW x.1
def Q3 (t:Bool):TRes:=zre (zcb t)
def QgM:TRow:=Qi 179 [(.a Qx)] fun x=>(none,Q3 (QF x.1))
def Z4:TTab:=⟨[Qco,Qga,Qia],false⟩
def Qqx:TCode :=
 (zsq [(.reg [zbi 50 .lss 49 48]),(.cond 50 .skip (.exit 0)),(.block 1 (zsq [(.reg [zia 51 47 49 QA,zLd 52 51 2,zop 5 (.new 154 (z0s QA)),zst 5 52 2]),(.reg [zfa 53 5 0,zld 54 53 1,zca 55 187 [54],zno 56 55,zmv 57 56,.grp 57 false [zfa 58 5 1,zld 59 58 1,zca 60 187 [59],zno 61 60] 62 61]),(.cond 62 (zsq [(.reg [zmv 2 (zkb false)]),.ret]) .skip)])),(.reg [zbi 63 .add 49 (zki 1),zmv 49 63])])
def Qi2:List (Nat × Md):=[(1,.b (zds 4)),(3,.one .d),(47,.one .d),(48,.one .d),(49,.one .d)]
def QmV:TCode :=
 (zsq [(.reg [zbi 68 .lss 67 66]),(.cond 68 .skip (.exit 2)),(.block 3 (zsq [(.reg [zmv 69 67,zmv 6 69]),(.reg [zfa 70 1 2,zld 71 70 1,zmv 72 6,zia 73 71 72 Qt,zLd 74 73 2,zca 75 220 [74],zno 76 75,zmv 77 76,.grp 77 false [zfa 78 1 3,zld 79 78 1,zmv 80 6,zia 81 79 80 Qt,zLd 82 81 2,zca 83 220 [82],zno 84 83] 85 84]),(.cond 85 (zsq [(.reg [zmv 2 (zkb false)]),.ret]) .skip)])),(.reg [zbi 86 .add 67 (zki 1),zmv 67 86])])
def Qow:List (Nat × Md):=[(1,.b (zds 4)),(3,.one .d),(66,.one .d),(67,.one .d)]
def Qlv:TCode :=
 (zsq [(.reg [zbi 111 .lss 110 109]),(.cond 111 .skip (.exit 6)),(.block 7 (zsq [(.reg [zia 112 108 110 Qz,zLd 113 112 2,zop 10 (.new 175 (z0s Qz)),zst 10 113 2]),(.reg [zfa 114 10 1,zld 115 114 1,zbi 116 .lss 115 (zki 0),zmv 117 116,.grp 117 false [zfa 118 10 1,zld 119 118 1,zfa 120 1 0,zld 121 120 1,zle 122 121,zbi 123 .geq 119 122] 124 123]),(.cond 124 (zsq [(.reg [zmv 2 (zkb false)]),.ret]) .skip)])),(.reg [zbi 125 .add 110 (zki 1),zmv 110 125])])
def Qoy:List (Nat × Md):=[(1,.b (zds 4)),(3,.one .d),(88,.one .d),(89,.one .d),(90,.one .d),(108,.one .d),(109,.one .d),(110,.one .d)]
def Qqn:TCode :=
 (.reg [zbi 126 .add 90 (zki 1),zmv 90 126])
def Qhe:TCode :=
 (zsq [(.reg [zbi 91 .lss 90 89]),(.cond 91 .skip (.exit 4)),(.block 5 (zsq [(.reg [zmv 92 90,zia 93 88 90 Qo,zLd 94 93 14,zop 8 (.new 39 (z0s Qo)),zmv 7 92,zst 8 94 14]),(zsq [(.reg [zLd 95 8 14,zca 96 72 [95],zno 97 96,zmv 98 97,.grp 98 false [zfa 99 8 3,zld 100 99 1,zmv 101 7,zmv 102 3,zbi 103 .sub 102 (zki 1),zbi 104 .eql 101 103,zop 105 (.eqb true 100 104)] 106 105]),(.cond 106 (zsq [(.reg [zmv 2 (zkb false)]),.ret]) .skip)]),(.reg [zfa 107 8 1,zld 108 107 1,zle 109 108,zmv 110 (zki 0)]),(.block 6 (.loop Qoy Qlv))])),Qqn])
def QcY:List (Nat × Md):=[(1,.b (zds 4)),(3,.one .d),(88,.one .d),(89,.one .d),(90,.one .d)]
def QjJ:TCode :=
 (zsq [(.reg [zmv 2 (zkb true)]),.ret])
def Qjw:TCode :=
 (zsq [(zsq [(.reg [zfa 87 1 1,zld 88 87 1,zle 89 88,zmv 90 (zki 0)]),(.block 4 (.loop QcY Qhe))]),QjJ])
def QmD:TCode :=
 (zsq [(zsq [(.reg [zfa 64 1 2,zld 65 64 1,zle 66 65,zmv 67 (zki 0)]),(.block 2 (.loop Qow QmV))]),Qjw])
def QAJ:TCode :=
 (zsq [(.reg [zop 1 (.box 56 0 4),zmv 2 (zkb false)]),(.reg [zfa 11 1 1,zld 12 11 1,zle 13 12,zmv 3 13]),(zsq [(.reg [zmv 14 3,zbi 15 .lss 14 (zki 1),zmv 16 15,.grp 16 false [zmv 17 3,zbi 18 .gtr 17 (zki 4)] 19 18,zmv 20 19,.grp 20 false [zfa 21 1 2,zld 22 21 1,zle 23 22,zmv 24 3,zbi 25 .sub 24 (zki 1),zbi 26 .neq 23 25] 27 26,zmv 28 27,.grp 28 false [zfa 29 1 3,zld 30 29 1,zle 31 30,zmv 32 3,zbi 33 .sub 32 (zki 1),zbi 34 .neq 31 33] 35 34]),(.cond 35 (zsq [(.reg [zmv 2 (zkb false)]),.ret]) .skip)]),(zsq [(.reg [zfa 36 1 0,zld 37 36 1,zle 38 37,zbi 39 .lss 38 (zki 1),zmv 40 39,.grp 40 false [zfa 41 1 0,zld 42 41 1,zle 43 42,zbi 44 .gtr 43 (zki 5)] 45 44]),(.cond 45 (zsq [(.reg [zmv 2 (zkb false)]),.ret]) .skip)]),(zsq [(.reg [zfa 46 1 0,zld 47 46 1,zle 48 47,zmv 49 (zki 0)]),(.block 0 (.loop Qi2 Qqx))]),QmD])
def Qji:List (ARv × Md):=[(.t 2,.one .d)]
def Qa1:Qb:=TQ 0 0 Qji K
def QEj:Qb:=Qseq (tawp Z4 0 QjJ (Qa1 K)) (Qa1 K)
def QhQ:Qb:=Qblk 4 (QEj K)
def Qjn:Qb:=Qseq (fun s'=>Loop Z4 0 QcY Qhe (QhQ K) (gc 0 QcY s')) (QhQ K)
def QAi:Qb:=Qseq (tawp Z4 0 Qqn (Qjn K)) (Qjn K)
def Qz4:Qb:=Qblk 5 (QAi K)
def QsE:Qb:=Qblk 6 (Qz4 K)
def Qgq (p:Qp) (x2:Int) (x3:Int):Prop:=Loop Z4 0 Qoy Qlv (QsE K) ⟨[(1,(.p 0 0 0)),(3,(zci ((p.2.1).length:Int))),(88,(zcs Qo p.2.1)),(89,(zci ((p.2.1).length:Int))),(90,(zci x3)),(108,(zcs Qz ((gtd Qv p.2.1 (Int.toNat x3)).2.1))),(109,(zci (((gtd Qv p.2.1 (Int.toNat x3)).2.1).length:Int))),(110,(zci x2))],[(0,(.box (Tup.cells Qx p)))],1⟩
def Qb7 (p:Qp) (x3:Int):Prop:=Loop Z4 0 QcY Qhe (QhQ K) ⟨[(1,(.p 0 0 0)),(3,(zci ((p.2.1).length:Int))),(88,(zcs Qo p.2.1)),(89,(zci ((p.2.1).length:Int))),(90,(zci x3))],[(0,(.box (Tup.cells Qx p)))],1⟩
def QAk:Qb:=Qseq (tawp Z4 0 Qjw (Qa1 K)) (Qa1 K)
def Qtw:Qb:=Qblk 2 (QAk K)
def QaU (p:Qp) (x1:Int):Prop:=Loop Z4 0 Qow QmV (Qtw K) ⟨[(1,(.p 0 0 0)),(3,(zci ((p.2.1).length:Int))),(66,(zci ((p.2.2.1).length:Int))),(67,(zci x1))],[(0,(.box (Tup.cells Qx p)))],1⟩
def QBE:Qb:=Qseq (tawp Z4 0 QmD (Qa1 K)) (Qa1 K)
def QFu:Qb:=Qblk 0 (QBE K)
def Qgs (p:Qp) (x:Int):Prop:=Loop Z4 0 Qi2 Qqx (QFu K) ⟨[(1,(.p 0 0 0)),(3,(zci ((p.2.1).length:Int))),(47,(zcs QA p.1)),(48,(zci ((p.1).length:Int))),(49,(zci x))],[(0,(.box (Tup.cells Qx p)))],1⟩
theorem QtE (p:Qp) (x2:Int) (x3:Int) (h :
 (zif (decide (x2<(((gtd Qv p.2.1 (Int.toNat x3)).2.1).length:Int))) (((0:Int)≤x2∧Int.toNat x2<((gtd Qv p.2.1 (Int.toNat x3)).2.1).length)∧(zif ((decide (((gtd dIns ((gtd Qv p.2.1 (Int.toNat x3)).2.1) (Int.toNat x2)).2)<(0:Int)))||(decide (((gtd dIns ((gtd Qv p.2.1 (Int.toNat x3)).2.1) (Int.toNat x2)).2)≥((p.1).length:Int)))) (K (Q3 false)) (Qgq K p (w64 (x2+(1:Int))) x3))) (Qb7 K p (w64 (x3+(1:Int)))))):Qgq K p x2 x3 :=
 Loop.of (by kernel_rfl) h
theorem Qrq (p:Qp) (x3:Int) (h :
 (zif (decide (x3<((p.2.1).length:Int))) (((0:Int)≤x3∧Int.toNat x3<(p.2.1).length)∧(zif ((!(QM (gtd Qv p.2.1 (Int.toNat x3))))||(!(((gtd Qv p.2.1 (Int.toNat x3)).2.2.2.1)==(x3==(w64 (((p.2.1).length:Int)-(1:Int))))))) (K (Q3 false)) (Qgq K p 0 x3))) (K (Q3 true)))):Qb7 K p x3 :=
 Loop.of (by kernel_rfl) h
theorem Qp7 (p:Qp) (x1:Int) (h :
 (zif (decide (x1<((p.2.2.1).length:Int))) ((((0:Int)≤x1∧Int.toNat x1<(p.2.2.1).length)∧((!(!(QJ (gtd QC p.2.2.1 (Int.toNat x1)))))=true→((0:Int)≤x1∧Int.toNat x1<(p.2.2.2).length)))∧(zif ((!(QJ (gtd QC p.2.2.1 (Int.toNat x1))))||(!(QJ (gtd QC p.2.2.2 (Int.toNat x1))))) (K (Q3 false)) (QaU K p (w64 (x1+(1:Int)))))) (Qb7 K p 0))):QaU K p x1 :=
 Loop.of (by kernel_rfl) h
theorem QA2 (p:Qp) (x:Int) (h :
 (zif (decide (x<((p.1).length:Int))) (((0:Int)≤x∧Int.toNat x<(p.1).length)∧(zif ((!(QS ((gtd QZ p.1 (Int.toNat x)).1)))||(!(QS ((gtd QZ p.1 (Int.toNat x)).2)))) (K (Q3 false)) (Qgs K p (w64 (x+(1:Int)))))) (QaU K p 0))):Qgs K p x :=
 Loop.of (by kernel_rfl) h
theorem QzG (p:Qp) (h :
 (zif ((((decide (((p.2.1).length:Int)<(1:Int)))||(decide (((p.2.1).length:Int)>(4:Int))))||(((p.2.2.1).length:Int) != (w64 (((p.2.1).length:Int)-(1:Int)))))||(((p.2.2.2).length:Int) != (w64 (((p.2.1).length:Int)-(1:Int))))) (K (Q3 false)) (zif ((decide (((p.1).length:Int)<(1:Int)))||(decide (((p.1).length:Int)>(5:Int)))) (K (Q3 false)) (Qgs K p 0)))):Hold (tawp Z4 (0+0) QAJ (TQ 0 0 Qji K) (Qg [(.a (Tup.cells Qx p))])) :=
 Hold.of (by kernel_rfl) h
theorem Qt8 (p:Qp):TCon Tryz.prog 179 [(.a (Tup.cells Qx p))] (Q3 (QF p)):=by
 refine Qk rfl fun hb=>tcg (Γ:=Z4) (n:=127) (sg:=QgM.sg) Ql (TOkL.cons Qhz (TOkL.cons QEl (TOkL.cons QC8 TOkL.nil))) (by kernel_rfl) (by kernel_rfl) (QzG _ p ?_)
 have hl_p_0:(p.1).length≤9223372036854775807:=hb.1.1.1
 have hl_p_1:(p.2.1).length≤9223372036854775807:=hb.1.2.1.1
 have hl_p_2:(p.2.2.1).length≤9223372036854775807:=hb.1.2.2.1.1
 have hl_p_3:(p.2.2.2).length≤9223372036854775807:=hb.1.2.2.2.1.1
 refine ⟨fun h=>R_eq ?_,fun h=>?_⟩
 ·have:(m_in p.2.1.length 1 4&&(p.2.2.1.length+1==p.2.1.length)&&(p.2.2.2.length+1==p.2.1.length))=false:=by
   by_cases h0:m_in p.2.1.length 1 4=true
   ·have h1:=Q5.1 h0
    rw [Qw (x:=(p.2.1.length:Int)-1) (by omega) (by omega)] at h
    simp at h
    simp [h0]
    omega
   ·simp at h0;simp [h0]
  simp [QF,this]
 have h0:m_in p.2.1.length 1 4=true:=by simp at h;simp [m_in];omega
 have h1:=Q5.1 h0
 have e1:w64 ((p.2.1.length:Int)-1)=p.2.1.length-1:=Qw (by omega) (by omega)
 rw [e1] at h
 have ha:p.2.2.1.length+1=p.2.1.length∧p.2.2.2.length+1=p.2.1.length:=by simp at h;omega
 refine ⟨fun h=>R_eq ?_,fun h=>?_⟩
 ·have:m_in p.1.length 1 5=false:=by simp at h;simp [m_in];omega
  simp [QF,this]
 have h2:m_in p.1.length 1 5=true:=by simp at h;simp [m_in];omega
 have h3:=Q5.1 h2
 have val:(QF p)=(p.1.all ZY&&(p.2.2.1.all QJ&&p.2.2.2.all QJ)&&Ya p.1.length p.2.1):=by
  simp only [QF,h0,h2,ha];simp
 refine Qac (Q:=fun b=>selP b (QaU (fun r'=>r'=Q3 (QF p)) p ((0:Nat):Int)) (Q3 false=Q3 (QF p))) (p:=ZY) (c:=fun x=>(!(QS x.1))||!(QS x.2)) (e:=true) QZ hl_p_0 (fun x=>by grind [ZY]) (fun i h=>QA2 (fun r'=>r'=Q3 (QF p)) p i h) ?_
 cases hx1:p.1.all ZY with
 | false=>exact R_eq (by rw [val,hx1];rfl)
 | true =>
  show QaU (fun r'=>r'=Q3 (QF p)) p ((0:Nat):Int)
  have queues:∀ k:Nat,((p.2.2.1.drop k).all QJ&&(p.2.2.2.drop k).all QJ)=(p.2.2.1.all QJ&&p.2.2.2.all QJ)→k≤p.2.2.1.length→QaU (fun r'=>r'=Q3 (QF p)) p k:=by
   intro k
   generalize hn:p.2.2.1.length-k=n
   induction n generalizing k with
   | zero =>
    intro he hle
    refine Qp7 (fun r'=>r'=Q3 (QF p)) p _ ⟨fun h=>by simp at h;omega,fun _=>?_⟩
    have hall:(p.2.2.1.all QJ&&p.2.2.2.all QJ)=true:=by
     rw [← he,List.drop_eq_nil_of_le (by omega),List.drop_eq_nil_of_le (by omega)];rfl
    refine Zp p.2.1 (fun r k=>Ya p.1.length r=Ya p.1.length p.2.1→Qb7 (fun r'=>r'=Q3 (QF p)) p k) ?_ ?_ rfl
    ·intro he2
     refine Qrq (fun r'=>r'=Q3 (QF p)) p _ ⟨fun h=>by simp at h,fun _=>R_eq ?_⟩
     rw [val,hx1,hall,← he2];rfl
    ·intro k x r hk hlt hg ih he2
     have hmem:x∈p.2.1:=List.mem_of_mem_drop (i:=k) (by rw [hk];exact List.mem_cons_self)
     have hbx:x.2.1.length≤9223372036854775807:=(hb.1.2.1.2 x hmem).2.1.1
     have hlast:=Qnh hk hl_p_1
     rw [Ya] at he2
     refine Qrq (fun r'=>r'=Q3 (QF p)) p _ ⟨fun _=>?_,fun h=>by simp at h;omega⟩
     rw [Int.toNat_natCast,hg,hlast]
     refine ⟨⟨by omega,hlt⟩,fun h=>R_eq ?_,fun h=>?_⟩
     ·have:(QM x&&(x.2.2.2.1==decide (r.length=0)))=false:=by grind
      rw [this,Bool.false_and,Bool.false_and] at he2
      rw [val,← he2,Bool.and_false]
     ·have:(QM x&&(x.2.2.2.1==decide (r.length=0)))=true:=by grind
      rw [this,Bool.true_and] at he2
      refine Qac (l:=x.2.1) (Q:=fun b=>selP b (Qb7 (fun r'=>r'=Q3 (QF p)) p ((k+1:Nat):Int)) (Q3 false=Q3 (QF p))) (p:=fun y=>m_in y.2 0 (p.1.length-1)) (c:=fun y=>decide (y.2<0)||decide (y.2≥(p.1.length:Int))) (e:=true) dIns hbx (fun y=>by grind [m_in]) (fun i h=>QtE (fun r'=>r'=Q3 (QF p)) p i k (by rw [Int.toNat_natCast,hg,Qw (x:=(k:Int)+1) (by omega) (by omega)];exact h)) ?_
      cases hx:x.2.1.all (fun y=>m_in y.2 0 (p.1.length-1)) with
      | false =>
       rw [hx,Bool.false_and] at he2
       exact R_eq (by rw [val,← he2,Bool.and_false])
      | true =>
       rw [hx,Bool.true_and] at he2
       exact ih he2
   | succ n ihn =>
    intro he hle
    obtain ⟨y,q,hq⟩:∃ y q,p.2.2.1.drop k=y::q:=by
     cases hq:p.2.2.1.drop k with
     | nil=>have:=congrArg List.length hq;simp at this;omega
     | cons y q=>exact ⟨y,q,rfl⟩
    obtain ⟨z,t,hz⟩:∃ z t,p.2.2.2.drop k=z::t:=by
     cases hz:p.2.2.2.drop k with
     | nil=>have:=congrArg List.length hz;simp at this;omega
     | cons z t=>exact ⟨z,t,rfl⟩
    have hlt:=QdG hq
    refine Qp7 (fun r'=>r'=Q3 (QF p)) p _ ⟨fun _=>?_,fun h=>by simp at h;omega⟩
    rw [Int.toNat_natCast,Jh hq,Jh hz,Qw (x:=(k:Int)+1) (by omega) (by omega)]
    have ih2:=ihn (k+1) (by omega)
    rw [Jm hq,Jm hz] at ih2
    rw [hq,hz,List.all_cons,List.all_cons] at he
    refine ⟨⟨⟨by omega,hlt⟩,fun _=>⟨by omega,by omega⟩⟩,fun h=>R_eq ?_,fun h=>ih2 ?_ (by omega)⟩
    ·rw [val,← he];grind
    ·rw [← he];grind
  exact queues 0 rfl (Nat.zero_le _)
theorem QCI:Qj Tryz.prog QgM:=Qn fun x _=>Qt8 x.1
end
end Go.Proofs.YtdplaepmjogjjaaGreat.Am

