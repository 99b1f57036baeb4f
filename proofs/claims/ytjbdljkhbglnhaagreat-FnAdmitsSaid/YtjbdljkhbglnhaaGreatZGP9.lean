/- -/
import Derived.Test.YtjbdljkhbglnhaaGreatZGP1
import Derived.Test.YtjbdljkhbglnhaaGreatZGP8
import Derived.Test.YtjbdljkhbglnhaaGreatZGP2
namespace Go.Proofs.YtjbdljkhbglnhaaGreat.Am
open Go Go.RowKit Go.Proofs.YtjbdljkhbglnhaaGreat
set_option linter.all false
noncomputable section
variable (K:TRes→Prop)
def YE (t:Bool):TRes:=zre (zcb t)
def Qnc:TRow:=Qi 38 [(.a Q0)] fun x=>(none,YE (Zd x.1))
def Qa3:List TRow:=[Jj,QmW,Qkz,Qb7]
def QpN:TCode :=
 (zsq [(zsq [(.reg [zmv 59 6,zfa 60 5 1,zld 61 60 1,zle 62 61,zbi 63 .lss 59 62]),(.cond 63 .skip (.exit 2))]),(.block 3 (zsq [(.draw [zfa 66 5 1,zld 67 66 1,zmv 68 6,zia 69 67 68 QO,zfa 70 69 1,zld 71 70 1,zfa 72 1 0,zld 73 72 1,zle 74 73,zbi 75 .sub 74 (zki 1),zca 76 77 [71,(zki 0),75],zno 77 76] []),(.cond 77 (zsq [(.reg [zmv 2 (zkb false)]),.ret]) .skip)])),(.reg [zmv 64 6,zbi 65 .add 64 (zki 1),zmv 6 65])])
def Qn1:List (Nat × Md):=[(1,.b (zds 4)),(3,.one .d),(4,.one .d),(5,.b (zds 14)),(6,.one .d)]
def QpH:TCode :=
 (zsq [(.reg [zmv 78 4,zbi 79 .gtr 78 (zki 0),zmv 80 79,.grp 80 true [zfa 81 1 2,zld 82 81 1,zmv 83 4,zbi 84 .sub 83 (zki 1),zia 85 82 84 QI,zLd 86 85 2,zca 87 103 [86],zno 88 87,zmv 89 88,.grp 89 false [zfa 90 1 3,zld 91 90 1,zmv 92 4,zbi 93 .sub 92 (zki 1),zia 94 91 93 QI,zLd 95 94 2,zca 96 103 [95],zno 97 96] 98 97] 99 98]),(.cond 99 (zsq [(.reg [zmv 2 (zkb false)]),.ret]) .skip)])
def QwA:TCode :=
 (.reg [zmv 40 4,zbi 41 .add 40 (zki 1),zmv 4 41])
def QjV:TCode :=
 (zsq [(zsq [(.reg [zmv 37 4,zmv 38 3,zbi 39 .lss 37 38]),(.cond 39 .skip (.exit 0))]),(.block 1 (zsq [(.reg [zfa 42 1 1,zld 43 42 1,zmv 44 4,zia 45 43 44 Qu,zLd 46 45 14,zop 5 (.new 63 (z0s Qu)),zst 5 46 14]),(zsq [(.reg [zLd 47 5 14,zca 48 41 [47],zno 49 48,zmv 50 49,.grp 50 false [zfa 51 5 3,zld 52 51 1,zmv 53 4,zmv 54 3,zbi 55 .sub 54 (zki 1),zbi 56 .eql 53 55,zop 57 (.eqb true 52 56)] 58 57]),(.cond 58 (zsq [(.reg [zmv 2 (zkb false)]),.ret]) .skip)]),(zsq [(.reg [zmv 6 (zki 0)]),(.block 2 (.loop Qn1 QpN))]),QpH])),QwA])
def QhV:List (Nat × Md):=[(1,.b (zds 4)),(3,.one .d),(4,.one .d)]
def QrN:TCode :=
 (zsq [(zsq [(.reg [zmv 100 7,zfa 101 1 0,zld 102 101 1,zle 103 102,zbi 104 .lss 100 103]),(.cond 104 .skip (.exit 4))]),(.block 5 (zsq [(.reg [zfa 107 1 0,zld 108 107 1,zmv 109 7,zia 110 108 109 Qx,zfa 111 110 0,zld 112 111 1,zca 113 42 [112],zno 114 113,zmv 115 114,.grp 115 false [zfa 116 1 0,zld 117 116 1,zmv 118 7,zia 119 117 118 Qx,zfa 120 119 1,zld 121 120 1,zca 122 42 [121],zno 123 122] 124 123]),(.cond 124 (zsq [(.reg [zmv 2 (zkb false)]),.ret]) .skip)])),(.reg [zmv 105 7,zbi 106 .add 105 (zki 1),zmv 7 106])])
def QtH:List (Nat × Md):=[(1,.b (zds 4)),(7,.one .d)]
def Qyo:TCode :=
 (zsq [(.reg [zmv 2 (zkb true)]),.ret])
def QnY:TCode :=
 (zsq [(zsq [(.reg [zmv 7 (zki 0)]),(.block 4 (.loop QtH QrN))]),Qyo])
def QNW:TCode :=
 (zsq [(.reg [zop 1 (.box 37 0 4),zmv 2 (zkb false)]),(.reg [zfa 8 1 1,zld 9 8 1,zle 10 9,zmv 3 10]),(zsq [(.reg [zmv 11 3,zca 12 77 [11,(zki 1),(zki 4)],zno 13 12,zmv 14 13,.grp 14 false [zfa 15 1 2,zld 16 15 1,zle 17 16,zmv 18 3,zbi 19 .sub 18 (zki 1),zbi 20 .neq 17 19] 21 20,zmv 22 21,.grp 22 false [zfa 23 1 3,zld 24 23 1,zle 25 24,zmv 26 3,zbi 27 .sub 26 (zki 1),zbi 28 .neq 25 27] 29 28,zmv 30 29,.grp 30 false [zfa 31 1 0,zld 32 31 1,zle 33 32,zca 34 77 [33,(zki 1),(zki 5)],zno 35 34] 36 35]),(.cond 36 (zsq [(.reg [zmv 2 (zkb false)]),.ret]) .skip)]),(zsq [(.reg [zmv 4 (zki 0)]),(.block 0 (.loop QhV QjV))]),QnY])
def Qpe:List (ARv × Md):=[(.t 2,.one .d)]
def QfO:Qb:=TQ 0 0 Qpe K
def QCv:Qb:=Qseq (tawp Qa3 0 QnY (QfO K)) (QfO K)
def Qjd:Qb:=Qblk 0 (QCv K)
def Qvf:Qb:=Qseq (fun s'=>Loop Qa3 0 QhV QjV (Qjd K) (gc 0 QhV s')) (Qjd K)
def QF6:Qb:=Qseq (tawp Qa3 0 QwA (Qvf K)) (Qvf K)
def Qq5:Qb:=Qblk 1 (QF6 K)
def QzZ:Qb:=Qseq (tawp Qa3 0 QpH (Qq5 K)) (Qq5 K)
def QHP:Qb:=Qblk 2 (QzZ K)
def Ql4 (p:Qo) (i:Int) (s:Int):Prop:=Loop Qa3 0 Qn1 QpN (QHP K) ⟨[(1,(.p 0 0 0)),(3,(zci ((p.2.1).length:Int))),(4,(zci s)),(5,(.p 1 0 0)),(6,(zci i))],[(0,(.box (Tup.cells Q0 p))),(1,(.box (Tup.cells Qu (gtd QM p.2.1 (Int.toNat s)))))],2⟩
def Qzu:Qb:=Qseq (tawp Qa3 0 Qyo (QfO K)) (QfO K)
def QCD:Qb:=Qblk 4 (Qzu K)
def Qe5 (p:Qo) (i1:Int):Prop:=Loop Qa3 0 QtH QrN (QCD K) ⟨[(1,(.p 0 0 0)),(7,(zci i1))],[(0,(.box (Tup.cells Q0 p)))],1⟩
def Qev (p:Qo) (s:Int):Prop:=Loop Qa3 0 QhV QjV (Qjd K) ⟨[(1,(.p 0 0 0)),(3,(zci ((p.2.1).length:Int))),(4,(zci s))],[(0,(.box (Tup.cells Q0 p)))],1⟩
theorem QMG (p:Qo) (i:Int) (s:Int) (h :
 (zif (decide (i<(((gtd QM p.2.1 (Int.toNat s)).2.1).length:Int))) (((0:Int)≤i∧Int.toNat i<((gtd QM p.2.1 (Int.toNat s)).2.1).length)∧(zif (!(m_in ((gtd dIns ((gtd QM p.2.1 (Int.toNat s)).2.1) (Int.toNat i)).2) (0:Int) (w64 (((p.1).length:Int)-(1:Int))))) (K (YE false)) (Ql4 K p (w64 (i+(1:Int))) s))) (((decide (s>(0:Int)))=true→(((0:Int)≤w64 (s-(1:Int))∧Int.toNat (w64 (s-(1:Int)))<(p.2.2.1).length)∧((!(!(Q2 (gtd QP p.2.2.1 (Int.toNat (w64 (s-(1:Int))))))))=true→((0:Int)≤w64 (s-(1:Int))∧Int.toNat (w64 (s-(1:Int)))<(p.2.2.2).length))))∧(zif ((decide (s>(0:Int)))&&((!(Q2 (gtd QP p.2.2.1 (Int.toNat (w64 (s-(1:Int)))))))||(!(Q2 (gtd QP p.2.2.2 (Int.toNat (w64 (s-(1:Int))))))))) (K (YE false)) (Qev K p (w64 (s+(1:Int)))))))):Ql4 K p i s :=
 Loop.of (by kernel_rfl) h
theorem Qzi (p:Qo) (i1:Int) (h :
 (zif (decide (i1<((p.1).length:Int))) ((((0:Int)≤i1∧Int.toNat i1<(p.1).length)∧((!(!(QW ((gtd Zj p.1 (Int.toNat i1)).1))))=true→((0:Int)≤i1∧Int.toNat i1<(p.1).length)))∧(zif ((!(QW ((gtd Zj p.1 (Int.toNat i1)).1)))||(!(QW ((gtd Zj p.1 (Int.toNat i1)).2)))) (K (YE false)) (Qe5 K p (w64 (i1+(1:Int)))))) (K (YE true)))):Qe5 K p i1 :=
 Loop.of (by kernel_rfl) h
theorem Qxu (p:Qo) (s:Int) (h :
 (zif (decide (s<((p.2.1).length:Int))) (((0:Int)≤s∧Int.toNat s<(p.2.1).length)∧(zif ((!(QS (gtd QM p.2.1 (Int.toNat s))))||(!(((gtd QM p.2.1 (Int.toNat s)).2.2.2.1)==(s==(w64 (((p.2.1).length:Int)-(1:Int))))))) (K (YE false)) (Ql4 K p 0 s))) (Qe5 K p 0))):Qev K p s :=
 Loop.of (by kernel_rfl) h
theorem QAN (p:Qo) (h :
 (zif ((((!(m_in ((p.2.1).length:Int) (1:Int) (4:Int)))||(((p.2.2.1).length:Int) != (w64 (((p.2.1).length:Int)-(1:Int)))))||(((p.2.2.2).length:Int) != (w64 (((p.2.1).length:Int)-(1:Int)))))||(!(m_in ((p.1).length:Int) (1:Int) (5:Int)))) (K (YE false)) (Qev K p 0))):Hold (tawp Qa3 (0+0) QNW (TQ 0 0 Qpe K) (Qf [(.a (Tup.cells Q0 p))])) :=
 Hold.of (by kernel_rfl) h
theorem QLy (p:Qo):TCon Tryz.prog 38 [(.a (Tup.cells Q0 p))] (YE (Zd p)):=by
 refine Qr rfl fun hb=>tcg (n:=125) (sg:=Qnc.sg) Qk (TOk.cons JM (TOk.cons QO0 (TOk.cons QKU (TOk.cons Qea TOk.nil)))) (by kernel_rfl) (by kernel_rfl) (QAN _ p ?_)
 have hl_p_0:(p.1).length≤9223372036854775807:=hb.1.1.1
 have hl_p_1:(p.2.1).length≤9223372036854775807:=hb.1.2.1.1
 have hl_p_2:(p.2.2.1).length≤9223372036854775807:=hb.1.2.2.1.1
 have hl_p_3:(p.2.2.2).length≤9223372036854775807:=hb.1.2.2.2.1.1
 by_cases h0:m_in p.2.1.length 1 4=true
 rotate_left
 ·exact ⟨fun h=>R_eq (by simp [Zd,h0]),fun h=>by simp [h0] at h⟩
 have h1:=QL.1 h0
 have e1:w64 ((p.2.1.length:Int)-1)=p.2.1.length-1:=Qp (by omega) (by omega)
 rw [e1]
 refine ⟨fun h=>R_eq ?_,fun h=>?_⟩
 ·have:((p.2.2.1.length+1==p.2.1.length)&&(p.2.2.2.length+1==p.2.1.length)&&m_in p.1.length 1 5)=false:=by
   cases hx:m_in p.1.length 1 5 with
   | false=>simp
   | true=>simp [h0,hx] at h;simp;omega
  have e2:(Zd p)=false:=by
   unfold Zd
   rw [h0,Bool.true_and,this,Bool.false_and]
  exact e2.symm
 have h2:m_in p.1.length 1 5=true:=by grind
 have h3:=QL.1 h2
 have ha:p.2.2.1.length+1=p.2.1.length∧p.2.2.2.length+1=p.2.1.length:=by simp [h0,h2] at h;omega
 have val:(Zd p)=(p.1.all Jr&&(p.2.2.1.all Q2&&p.2.2.2.all Q2)&&Jk p.1.length p.2.1):=by
  simp only [Zd,h0,h2,ha];simp
 have e3:w64 ((p.1.length:Int)-1)=p.1.length-1:=Qp (by omega) (by omega)
 have batch:(p.2.2.1.all Q2&&p.2.2.2.all Q2)=true→Jk p.1.length p.2.1=true→Qe5 (fun r'=>r'=YE (Zd p)) p ((0:Nat):Int):=by
  intro hq hs
  refine Zz p.1 (fun r k=>r.all Jr=p.1.all Jr→Qe5 (fun r'=>r'=YE (Zd p)) p k) ?_ ?_ rfl
  ·intro he
   refine Qzi (fun r'=>r'=YE (Zd p)) p _ ⟨fun h=>by simp at h,fun _=>R_eq ?_⟩
   rw [val,hq,hs,← he];rfl
  ·intro k x r hk hlt hg ih he
   refine Qzi (fun r'=>r'=YE (Zd p)) p _ ⟨fun _=>?_,fun h=>by simp at h;omega⟩
   rw [Int.toNat_natCast,hg,Qp (x:=(k:Int)+1) (by omega) (by omega)]
   rw [List.all_cons] at he
   refine ⟨⟨⟨by omega,hlt⟩,fun _=>⟨by omega,hlt⟩⟩,fun h=>R_eq ?_,fun h=>ih ?_⟩
   ·have:Jr x=false:=by grind [Jr]
    rw [this,Bool.false_and] at he
    rw [val,← he];rfl
   ·have:Jr x=true:=by grind [Jr]
    rw [this,Bool.true_and] at he
    exact he
 refine Zz p.2.1 (fun r k=>Jk p.1.length r=Jk p.1.length p.2.1→(∀ j:Nat,j+1<k→Q2 (gtd QP p.2.2.1 j)=true∧Q2 (gtd QP p.2.2.2 j)=true)→Qev (fun r'=>r'=YE (Zd p)) p k) ?_ ?_ rfl (fun j hj=>by omega)
 ·intro he hq
  refine Qxu (fun r'=>r'=YE (Zd p)) p _ ⟨fun h=>by simp at h,fun _=>batch ?_ ?_⟩
  ·rw [(Qeo QP).2 (fun j hj=>(hq j (by omega)).1),(Qeo QP).2 (fun j hj=>(hq j (by omega)).2)];rfl
  ·rw [← he];rfl
 ·intro k x r hk hlt hg ih he hq
  have hmem:x∈p.2.1:=List.mem_of_mem_drop (i:=k) (by rw [hk];exact List.mem_cons_self)
  have hbx:x.2.1.length≤9223372036854775807:=(hb.1.2.1.2 x hmem).2.1.1
  have hlast:=Qr9 hk hl_p_1
  rw [e1] at hlast
  rw [Jk] at he
  refine Qxu (fun r'=>r'=YE (Zd p)) p _ ⟨fun _=>?_,fun h=>by simp at h;omega⟩
  rw [Int.toNat_natCast,hg,e1,hlast]
  refine ⟨⟨by omega,hlt⟩,fun h=>R_eq ?_,fun h=>?_⟩
  ·have:(QS x&&(x.2.2.2.1==decide (r.length=0)))=false:=by grind
   rw [this,Bool.false_and,Bool.false_and] at he
   rw [val,← he,Bool.and_false]
  ·have:(QS x&&(x.2.2.2.1==decide (r.length=0)))=true:=by grind
   rw [this,Bool.true_and] at he
   have rest:x.2.1.all (fun y=>m_in y.2 0 (p.1.length-1))=true→((((decide ((k:Int)>0))=true→((0≤w64 ((k:Int)-1)∧Int.toNat (w64 ((k:Int)-1))<p.2.2.1.length)∧((!(!(Q2 (gtd QP p.2.2.1 (Int.toNat (w64 ((k:Int)-1)))))))=true→(0≤w64 ((k:Int)-1)∧Int.toNat (w64 ((k:Int)-1))<p.2.2.2.length))))∧((((decide ((k:Int)>0))&&((!(Q2 (gtd QP p.2.2.1 (Int.toNat (w64 ((k:Int)-1))))))||(!(Q2 (gtd QP p.2.2.2 (Int.toNat (w64 ((k:Int)-1))))))))=true→YE false=YE (Zd p))∧(((decide ((k:Int)>0))&&((!(Q2 (gtd QP p.2.2.1 (Int.toNat (w64 ((k:Int)-1))))))||(!(Q2 (gtd QP p.2.2.2 (Int.toNat (w64 ((k:Int)-1))))))))=false→Qev (fun r'=>r'=YE (Zd p)) p (w64 ((k:Int)+1)))))):=by
    intro hx
    rw [hx,Bool.true_and] at he
    rw [Qp (x:=(k:Int)+1) (by omega) (by omega)]
    rcases Nat.eq_zero_or_pos k with k0 | k0
    ·subst k0
     exact ⟨fun h=>by simp at h,fun h=>by simp at h,fun _=>ih he (fun j hj=>by omega)⟩
    ·have e2:=QaD k0 (by omega:k≤9223372036854775807)
     rw [e2.1]
     refine ⟨fun _=>⟨⟨e2.2,by omega⟩,fun _=>⟨e2.2,by omega⟩⟩,fun h=>R_eq ?_,fun h=>ih he (fun j hj=>?_)⟩
     ·have hqs:(p.2.2.1.all Q2&&p.2.2.2.all Q2)=false:=by
       cases hc:(p.2.2.1.all Q2&&p.2.2.2.all Q2) with
       | false=>rfl
       | true =>
        simp only [Bool.and_eq_true] at hc
        have a1:=(Qeo QP).1 hc.1 (k-1) (by omega)
        have a2:=(Qeo QP).1 hc.2 (k-1) (by omega)
        rw [a1,a2] at h
        simp at h
      rw [val,hqs];simp
     ·by_cases hjk:j+1<k
      ·exact hq j hjk
      ·rw [show j=k-1 by omega]
       have hpos:decide ((k:Int)>0)=true:=by simp;omega
       rw [hpos] at h
       grind
   refine Qa1 (l:=x.2.1) (Q:=fun b=>selP b _ (YE false=YE (Zd p))) (p:=fun y=>m_in y.2 0 (p.1.length-1)) (c:=fun y=>!(m_in y.2 0 (p.1.length-1))) (e:=true) dIns hbx (fun y=>rfl) (fun i h=>QMG (fun r'=>r'=YE (Zd p)) p i k (by rw [Int.toNat_natCast,hg,e3];exact h)) ?_
   cases hx:x.2.1.all (fun y=>m_in y.2 0 (p.1.length-1)) with
   | false =>
    rw [hx,Bool.false_and] at he
    exact R_eq (by rw [val,← he,Bool.and_false])
   | true=>exact rest hx
theorem QFF:Qj Tryz.prog Qnc:=Ql fun x _=>QLy x.1
def Yl (t:Bool):TRes:=zre (zcb t)
def Qf4:TRow:=Qi 58 [(.a Q0)] fun x=>(none,Yl (Zd x.1))
def Qat:List TRow:=[Qba,QeD,QdU]
def QpP:TCode :=
 (zsq [(.reg [zbi 50 .lss 49 48]),(.cond 50 .skip (.exit 0)),(.block 1 (zsq [(.reg [zia 51 47 49 Qx,zLd 52 51 2,zop 5 (.new 108 (z0s Qx)),zst 5 52 2]),(.reg [zfa 53 5 0,zld 54 53 1,zca 55 134 [54],zno 56 55,zmv 57 56,.grp 57 false [zfa 58 5 1,zld 59 58 1,zca 60 134 [59],zno 61 60] 62 61]),(.cond 62 (zsq [(.reg [zmv 2 (zkb false)]),.ret]) .skip)])),(.reg [zbi 63 .add 49 (zki 1),zmv 49 63])])
def Qu4:List (Nat × Md):=[(1,.b (zds 4)),(3,.one .d),(47,.one .d),(48,.one .d),(49,.one .d)]
def QvL:TCode :=
 (zsq [(.reg [zbi 68 .lss 67 66]),(.cond 68 .skip (.exit 2)),(.block 3 (zsq [(.reg [zmv 69 67,zmv 6 69]),(.reg [zfa 70 1 2,zld 71 70 1,zmv 72 6,zia 73 71 72 QI,zLd 74 73 2,zca 75 135 [74],zno 76 75,zmv 77 76,.grp 77 false [zfa 78 1 3,zld 79 78 1,zmv 80 6,zia 81 79 80 QI,zLd 82 81 2,zca 83 135 [82],zno 84 83] 85 84]),(.cond 85 (zsq [(.reg [zmv 2 (zkb false)]),.ret]) .skip)])),(.reg [zbi 86 .add 67 (zki 1),zmv 67 86])])
def Qsh:List (Nat × Md):=[(1,.b (zds 4)),(3,.one .d),(66,.one .d),(67,.one .d)]
def Qq8:TCode :=
 (zsq [(.reg [zbi 111 .lss 110 109]),(.cond 111 .skip (.exit 6)),(.block 7 (zsq [(.reg [zia 112 108 110 QO,zLd 113 112 2,zop 10 (.new 111 (z0s QO)),zst 10 113 2]),(.reg [zfa 114 10 1,zld 115 114 1,zbi 116 .lss 115 (zki 0),zmv 117 116,.grp 117 false [zfa 118 10 1,zld 119 118 1,zfa 120 1 0,zld 121 120 1,zle 122 121,zbi 123 .geq 119 122] 124 123]),(.cond 124 (zsq [(.reg [zmv 2 (zkb false)]),.ret]) .skip)])),(.reg [zbi 125 .add 110 (zki 1),zmv 110 125])])
def Qul:List (Nat × Md):=[(1,.b (zds 4)),(3,.one .d),(88,.one .d),(89,.one .d),(90,.one .d),(108,.one .d),(109,.one .d),(110,.one .d)]
def QoM:TCode :=
 (.reg [zbi 126 .add 90 (zki 1),zmv 90 126])
def Qk9:TCode :=
 (zsq [(.reg [zbi 91 .lss 90 89]),(.cond 91 .skip (.exit 4)),(.block 5 (zsq [(.reg [zmv 92 90,zia 93 88 90 Qu,zLd 94 93 14,zop 8 (.new 63 (z0s Qu)),zmv 7 92,zst 8 94 14]),(zsq [(.reg [zLd 95 8 14,zca 96 113 [95],zno 97 96,zmv 98 97,.grp 98 false [zfa 99 8 3,zld 100 99 1,zmv 101 7,zmv 102 3,zbi 103 .sub 102 (zki 1),zbi 104 .eql 101 103,zop 105 (.eqb true 100 104)] 106 105]),(.cond 106 (zsq [(.reg [zmv 2 (zkb false)]),.ret]) .skip)]),(.reg [zfa 107 8 1,zld 108 107 1,zle 109 108,zmv 110 (zki 0)]),(.block 6 (.loop Qul Qq8))])),QoM])
def Qhk:List (Nat × Md):=[(1,.b (zds 4)),(3,.one .d),(88,.one .d),(89,.one .d),(90,.one .d)]
def QqP:TCode :=
 (zsq [(.reg [zmv 2 (zkb true)]),.ret])
def Qyp:TCode :=
 (zsq [(zsq [(.reg [zfa 87 1 1,zld 88 87 1,zle 89 88,zmv 90 (zki 0)]),(.block 4 (.loop Qhk Qk9))]),QqP])
def QqJ:TCode :=
 (zsq [(zsq [(.reg [zfa 64 1 2,zld 65 64 1,zle 66 65,zmv 67 (zki 0)]),(.block 2 (.loop Qsh QvL))]),Qyp])
def QEM:TCode :=
 (zsq [(.reg [zop 1 (.box 37 0 4),zmv 2 (zkb false)]),(.reg [zfa 11 1 1,zld 12 11 1,zle 13 12,zmv 3 13]),(zsq [(.reg [zmv 14 3,zbi 15 .lss 14 (zki 1),zmv 16 15,.grp 16 false [zmv 17 3,zbi 18 .gtr 17 (zki 4)] 19 18,zmv 20 19,.grp 20 false [zfa 21 1 2,zld 22 21 1,zle 23 22,zmv 24 3,zbi 25 .sub 24 (zki 1),zbi 26 .neq 23 25] 27 26,zmv 28 27,.grp 28 false [zfa 29 1 3,zld 30 29 1,zle 31 30,zmv 32 3,zbi 33 .sub 32 (zki 1),zbi 34 .neq 31 33] 35 34]),(.cond 35 (zsq [(.reg [zmv 2 (zkb false)]),.ret]) .skip)]),(zsq [(.reg [zfa 36 1 0,zld 37 36 1,zle 38 37,zbi 39 .lss 38 (zki 1),zmv 40 39,.grp 40 false [zfa 41 1 0,zld 42 41 1,zle 43 42,zbi 44 .gtr 43 (zki 5)] 45 44]),(.cond 45 (zsq [(.reg [zmv 2 (zkb false)]),.ret]) .skip)]),(zsq [(.reg [zfa 46 1 0,zld 47 46 1,zle 48 47,zmv 49 (zki 0)]),(.block 0 (.loop Qu4 QpP))]),QqJ])
def Qx2:List (ARv × Md):=[(.t 2,.one .d)]
def QdX:Qb:=TQ 0 0 Qx2 K
def QBM:Qb:=Qseq (tawp Qat 0 QqP (QdX K)) (QdX K)
def Qjl:Qb:=Qblk 4 (QBM K)
def QtB:Qb:=Qseq (fun s'=>Loop Qat 0 Qhk Qk9 (Qjl K) (gc 0 Qhk s')) (Qjl K)
def QOB:Qb:=Qseq (tawp Qat 0 QoM (QtB K)) (QtB K)
def QCu:Qb:=Qblk 5 (QOB K)
def QDC:Qb:=Qblk 6 (QCu K)
def QlW (p:Qo) (x2:Int) (x3:Int):Prop:=Loop Qat 0 Qul Qq8 (QDC K) ⟨[(1,(.p 0 0 0)),(3,(zci ((p.2.1).length:Int))),(88,(zcs Qu p.2.1)),(89,(zci ((p.2.1).length:Int))),(90,(zci x3)),(108,(zcs QO ((gtd QM p.2.1 (Int.toNat x3)).2.1))),(109,(zci (((gtd QM p.2.1 (Int.toNat x3)).2.1).length:Int))),(110,(zci x2))],[(0,(.box (Tup.cells Q0 p)))],1⟩
def Qfh (p:Qo) (x3:Int):Prop:=Loop Qat 0 Qhk Qk9 (Qjl K) ⟨[(1,(.p 0 0 0)),(3,(zci ((p.2.1).length:Int))),(88,(zcs Qu p.2.1)),(89,(zci ((p.2.1).length:Int))),(90,(zci x3))],[(0,(.box (Tup.cells Q0 p)))],1⟩
def QF7:Qb:=Qseq (tawp Qat 0 Qyp (QdX K)) (QdX K)
def QCZ:Qb:=Qblk 2 (QF7 K)
def Qc9 (p:Qo) (x1:Int):Prop:=Loop Qat 0 Qsh QvL (QCZ K) ⟨[(1,(.p 0 0 0)),(3,(zci ((p.2.1).length:Int))),(66,(zci ((p.2.2.1).length:Int))),(67,(zci x1))],[(0,(.box (Tup.cells Q0 p)))],1⟩
def QKw:Qb:=Qseq (tawp Qat 0 QqJ (QdX K)) (QdX K)
def QN7:Qb:=Qblk 0 (QKw K)
def QnU (p:Qo) (x:Int):Prop:=Loop Qat 0 Qu4 QpP (QN7 K) ⟨[(1,(.p 0 0 0)),(3,(zci ((p.2.1).length:Int))),(47,(zcs Qx p.1)),(48,(zci ((p.1).length:Int))),(49,(zci x))],[(0,(.box (Tup.cells Q0 p)))],1⟩
theorem QNe (p:Qo) (x2:Int) (x3:Int) (h :
 (zif (decide (x2<(((gtd QM p.2.1 (Int.toNat x3)).2.1).length:Int))) (((0:Int)≤x2∧Int.toNat x2<((gtd QM p.2.1 (Int.toNat x3)).2.1).length)∧(zif ((decide (((gtd dIns ((gtd QM p.2.1 (Int.toNat x3)).2.1) (Int.toNat x2)).2)<(0:Int)))||(decide (((gtd dIns ((gtd QM p.2.1 (Int.toNat x3)).2.1) (Int.toNat x2)).2)≥((p.1).length:Int)))) (K (Yl false)) (QlW K p (w64 (x2+(1:Int))) x3))) (Qfh K p (w64 (x3+(1:Int)))))):QlW K p x2 x3 :=
 Loop.of (by kernel_rfl) h
theorem Qst (p:Qo) (x3:Int) (h :
 (zif (decide (x3<((p.2.1).length:Int))) (((0:Int)≤x3∧Int.toNat x3<(p.2.1).length)∧(zif ((!(QS (gtd QM p.2.1 (Int.toNat x3))))||(!(((gtd QM p.2.1 (Int.toNat x3)).2.2.2.1)==(x3==(w64 (((p.2.1).length:Int)-(1:Int))))))) (K (Yl false)) (QlW K p 0 x3))) (K (Yl true)))):Qfh K p x3 :=
 Loop.of (by kernel_rfl) h
theorem Qrj (p:Qo) (x1:Int) (h :
 (zif (decide (x1<((p.2.2.1).length:Int))) ((((0:Int)≤x1∧Int.toNat x1<(p.2.2.1).length)∧((!(!(Q2 (gtd QP p.2.2.1 (Int.toNat x1)))))=true→((0:Int)≤x1∧Int.toNat x1<(p.2.2.2).length)))∧(zif ((!(Q2 (gtd QP p.2.2.1 (Int.toNat x1))))||(!(Q2 (gtd QP p.2.2.2 (Int.toNat x1))))) (K (Yl false)) (Qc9 K p (w64 (x1+(1:Int)))))) (Qfh K p 0))):Qc9 K p x1 :=
 Loop.of (by kernel_rfl) h
theorem QNC (p:Qo) (x:Int) (h :
 (zif (decide (x<((p.1).length:Int))) (((0:Int)≤x∧Int.toNat x<(p.1).length)∧(zif ((!(QW ((gtd Zj p.1 (Int.toNat x)).1)))||(!(QW ((gtd Zj p.1 (Int.toNat x)).2)))) (K (Yl false)) (QnU K p (w64 (x+(1:Int)))))) (Qc9 K p 0))):QnU K p x :=
 Loop.of (by kernel_rfl) h
theorem QOI (p:Qo) (h :
 (zif ((((decide (((p.2.1).length:Int)<(1:Int)))||(decide (((p.2.1).length:Int)>(4:Int))))||(((p.2.2.1).length:Int) != (w64 (((p.2.1).length:Int)-(1:Int)))))||(((p.2.2.2).length:Int) != (w64 (((p.2.1).length:Int)-(1:Int))))) (K (Yl false)) (zif ((decide (((p.1).length:Int)<(1:Int)))||(decide (((p.1).length:Int)>(5:Int)))) (K (Yl false)) (QnU K p 0)))):Hold (tawp Qat (0+0) QEM (TQ 0 0 Qx2 K) (Qf [(.a (Tup.cells Q0 p))])) :=
 Hold.of (by kernel_rfl) h
theorem QPn (p:Qo):TCon Tryz.prog 58 [(.a (Tup.cells Q0 p))] (Yl (Zd p)):=by
 refine Qr rfl fun hb=>tcg (n:=127) (sg:=Qf4.sg) Qk (TOk.cons Qce (TOk.cons QmY (TOk.cons Qii TOk.nil))) (by kernel_rfl) (by kernel_rfl) (QOI _ p ?_)
 have hl_p_0:(p.1).length≤9223372036854775807:=hb.1.1.1
 have hl_p_1:(p.2.1).length≤9223372036854775807:=hb.1.2.1.1
 have hl_p_2:(p.2.2.1).length≤9223372036854775807:=hb.1.2.2.1.1
 have hl_p_3:(p.2.2.2).length≤9223372036854775807:=hb.1.2.2.2.1.1
 refine ⟨fun h=>R_eq ?_,fun h=>?_⟩
 ·have:(m_in p.2.1.length 1 4&&(p.2.2.1.length+1==p.2.1.length)&&(p.2.2.2.length+1==p.2.1.length))=false:=by
   by_cases h0:m_in p.2.1.length 1 4=true
   ·have h1:=QL.1 h0
    rw [Qp (x:=(p.2.1.length:Int)-1) (by omega) (by omega)] at h
    simp at h
    simp [h0]
    omega
   ·simp at h0;simp [h0]
  simp [Zd,this]
 have h0:m_in p.2.1.length 1 4=true:=by simp at h;simp [m_in];omega
 have h1:=QL.1 h0
 have e1:w64 ((p.2.1.length:Int)-1)=p.2.1.length-1:=Qp (by omega) (by omega)
 rw [e1] at h
 have ha:p.2.2.1.length+1=p.2.1.length∧p.2.2.2.length+1=p.2.1.length:=by simp at h;omega
 refine ⟨fun h=>R_eq ?_,fun h=>?_⟩
 ·have:m_in p.1.length 1 5=false:=by simp at h;simp [m_in];omega
  simp [Zd,this]
 have h2:m_in p.1.length 1 5=true:=by simp at h;simp [m_in];omega
 have h3:=QL.1 h2
 have val:(Zd p)=(p.1.all Jr&&(p.2.2.1.all Q2&&p.2.2.2.all Q2)&&Jk p.1.length p.2.1):=by
  simp only [Zd,h0,h2,ha];simp
 refine Qa1 (Q:=fun b=>selP b (Qc9 (fun r'=>r'=Yl (Zd p)) p ((0:Nat):Int)) (Yl false=Yl (Zd p))) (p:=Jr) (c:=fun x=>(!(QW x.1))||!(QW x.2)) (e:=true) Zj hl_p_0 (fun x=>by grind [Jr]) (fun i h=>QNC (fun r'=>r'=Yl (Zd p)) p i h) ?_
 cases hx1:p.1.all Jr with
 | false=>exact R_eq (by rw [val,hx1];rfl)
 | true =>
  show Qc9 (fun r'=>r'=Yl (Zd p)) p ((0:Nat):Int)
  have queues:∀ k:Nat,((p.2.2.1.drop k).all Q2&&(p.2.2.2.drop k).all Q2)=(p.2.2.1.all Q2&&p.2.2.2.all Q2)→k≤p.2.2.1.length→Qc9 (fun r'=>r'=Yl (Zd p)) p k:=by
   intro k
   generalize hn:p.2.2.1.length-k=n
   induction n generalizing k with
   | zero =>
    intro he hle
    refine Qrj (fun r'=>r'=Yl (Zd p)) p _ ⟨fun h=>by simp at h;omega,fun _=>?_⟩
    have hall:(p.2.2.1.all Q2&&p.2.2.2.all Q2)=true:=by
     rw [← he,List.drop_eq_nil_of_le (by omega),List.drop_eq_nil_of_le (by omega)];rfl
    refine Zz p.2.1 (fun r k=>Jk p.1.length r=Jk p.1.length p.2.1→Qfh (fun r'=>r'=Yl (Zd p)) p k) ?_ ?_ rfl
    ·intro he2
     refine Qst (fun r'=>r'=Yl (Zd p)) p _ ⟨fun h=>by simp at h,fun _=>R_eq ?_⟩
     rw [val,hx1,hall,← he2];rfl
    ·intro k x r hk hlt hg ih he2
     have hmem:x∈p.2.1:=List.mem_of_mem_drop (i:=k) (by rw [hk];exact List.mem_cons_self)
     have hbx:x.2.1.length≤9223372036854775807:=(hb.1.2.1.2 x hmem).2.1.1
     have hlast:=Qr9 hk hl_p_1
     rw [Jk] at he2
     refine Qst (fun r'=>r'=Yl (Zd p)) p _ ⟨fun _=>?_,fun h=>by simp at h;omega⟩
     rw [Int.toNat_natCast,hg,hlast]
     refine ⟨⟨by omega,hlt⟩,fun h=>R_eq ?_,fun h=>?_⟩
     ·have:(QS x&&(x.2.2.2.1==decide (r.length=0)))=false:=by grind
      rw [this,Bool.false_and,Bool.false_and] at he2
      rw [val,← he2,Bool.and_false]
     ·have:(QS x&&(x.2.2.2.1==decide (r.length=0)))=true:=by grind
      rw [this,Bool.true_and] at he2
      refine Qa1 (l:=x.2.1) (Q:=fun b=>selP b (Qfh (fun r'=>r'=Yl (Zd p)) p ((k+1:Nat):Int)) (Yl false=Yl (Zd p))) (p:=fun y=>m_in y.2 0 (p.1.length-1)) (c:=fun y=>decide (y.2<0)||decide (y.2≥(p.1.length:Int))) (e:=true) dIns hbx (fun y=>by grind [m_in]) (fun i h=>QNe (fun r'=>r'=Yl (Zd p)) p i k (by rw [Int.toNat_natCast,hg,Qp (x:=(k:Int)+1) (by omega) (by omega)];exact h)) ?_
      cases hx:x.2.1.all (fun y=>m_in y.2 0 (p.1.length-1)) with
      | false =>
       rw [hx,Bool.false_and] at he2
       exact R_eq (by rw [val,← he2,Bool.and_false])
      | true =>
       rw [hx,Bool.true_and] at he2
       exact ih he2
   | succ n ihn =>
    intro he hle
    obtain ⟨y,q,hq⟩:∃ y q,p.2.2.1.drop k=y::q:=by
     cases hq:p.2.2.1.drop k with
     | nil=>have:=congrArg List.length hq;simp at this;omega
     | cons y q=>exact ⟨y,q,rfl⟩
    obtain ⟨z,t,hz⟩:∃ z t,p.2.2.2.drop k=z::t:=by
     cases hz:p.2.2.2.drop k with
     | nil=>have:=congrArg List.length hz;simp at this;omega
     | cons z t=>exact ⟨z,t,rfl⟩
    have hlt:=Qe6 hq
    refine Qrj (fun r'=>r'=Yl (Zd p)) p _ ⟨fun _=>?_,fun h=>by simp at h;omega⟩
    rw [Int.toNat_natCast,Y1 hq,Y1 hz,Qp (x:=(k:Int)+1) (by omega) (by omega)]
    have ih2:=ihn (k+1) (by omega)
    rw [YL hq,YL hz] at ih2
    rw [hq,hz,List.all_cons,List.all_cons] at he
    refine ⟨⟨⟨by omega,hlt⟩,fun _=>⟨by omega,by omega⟩⟩,fun h=>R_eq ?_,fun h=>ih2 ?_ (by omega)⟩
    ·rw [val,← he];grind
    ·rw [← he];grind
  exact queues 0 rfl (Nat.zero_le _)
theorem QrJ:Qj Tryz.prog Qf4:=Ql fun x _=>QPn x.1
end
end Go.Proofs.YtjbdljkhbglnhaaGreat.Am

