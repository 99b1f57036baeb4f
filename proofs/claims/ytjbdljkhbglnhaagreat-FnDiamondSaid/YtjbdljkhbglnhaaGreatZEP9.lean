/- -/
import Derived.Test.YtjbdljkhbglnhaaGreatZEP1
import Derived.Test.YtjbdljkhbglnhaaGreatZEP8
import Derived.Test.YtjbdljkhbglnhaaGreatZEP2
namespace Go.Proofs.YtjbdljkhbglnhaaGreat.Am
open Go Go.RowKit Go.Proofs.YtjbdljkhbglnhaaGreat
set_option linter.all false
noncomputable section
variable (K:TRes→Prop)
def YN (t:Bool):TRes:=zre (zcb t)
def Qms:TRow:=Qk 38 [(.a QF)] fun x=>(none,YN (Zn x.1))
def Qbn:List TRow:=[YO,Qex,QfS,Y7]
def QCo:TCode :=
 (zsq [(zsq [(.reg [zmv 59 6,zfa 60 5 1,zld 61 60 1,zle 62 61,zbi 63 .lss 59 62]),(.cond 63 .skip (.exit 2))]),(.block 3 (zsq [(.draw [zfa 66 5 1,zld 67 66 1,zmv 68 6,zia 69 67 68 QQ,zfa 70 69 1,zld 71 70 1,zfa 72 1 0,zld 73 72 1,zle 74 73,zbi 75 .sub 74 (zki 1),zca 76 77 [71,(zki 0),75],zno 77 76] []),(.cond 77 (zsq [(.reg [zmv 2 (zkb false)]),.ret]) .skip)])),(.reg [zmv 64 6,zbi 65 .add 64 (zki 1),zmv 6 65])])
def QyP:List (Nat × Md):=[(1,.b (zds 4)),(3,.one .d),(4,.one .d),(5,.b (zds 14)),(6,.one .d)]
def Qur:TCode :=
 (zsq [(.reg [zmv 78 4,zbi 79 .gtr 78 (zki 0),zmv 80 79,.grp 80 true [zfa 81 1 2,zld 82 81 1,zmv 83 4,zbi 84 .sub 83 (zki 1),zia 85 82 84 Qi,zLd 86 85 2,zca 87 103 [86],zno 88 87,zmv 89 88,.grp 89 false [zfa 90 1 3,zld 91 90 1,zmv 92 4,zbi 93 .sub 92 (zki 1),zia 94 91 93 Qi,zLd 95 94 2,zca 96 103 [95],zno 97 96] 98 97] 99 98]),(.cond 99 (zsq [(.reg [zmv 2 (zkb false)]),.ret]) .skip)])
def QCR:TCode :=
 (.reg [zmv 40 4,zbi 41 .add 40 (zki 1),zmv 4 41])
def Qnd:TCode :=
 (zsq [(zsq [(.reg [zmv 37 4,zmv 38 3,zbi 39 .lss 37 38]),(.cond 39 .skip (.exit 0))]),(.block 1 (zsq [(.reg [zfa 42 1 1,zld 43 42 1,zmv 44 4,zia 45 43 44 Qh,zLd 46 45 14,zop 5 (.new 63 (z0s Qh)),zst 5 46 14]),(zsq [(.reg [zLd 47 5 14,zca 48 41 [47],zno 49 48,zmv 50 49,.grp 50 false [zfa 51 5 3,zld 52 51 1,zmv 53 4,zmv 54 3,zbi 55 .sub 54 (zki 1),zbi 56 .eql 53 55,zop 57 (.eqb true 52 56)] 58 57]),(.cond 58 (zsq [(.reg [zmv 2 (zkb false)]),.ret]) .skip)]),(zsq [(.reg [zmv 6 (zki 0)]),(.block 2 (.loop QyP QCo))]),Qur])),QCR])
def Qhh:List (Nat × Md):=[(1,.b (zds 4)),(3,.one .d),(4,.one .d)]
def QC2:TCode :=
 (zsq [(zsq [(.reg [zmv 100 7,zfa 101 1 0,zld 102 101 1,zle 103 102,zbi 104 .lss 100 103]),(.cond 104 .skip (.exit 4))]),(.block 5 (zsq [(.reg [zfa 107 1 0,zld 108 107 1,zmv 109 7,zia 110 108 109 QG,zfa 111 110 0,zld 112 111 1,zca 113 42 [112],zno 114 113,zmv 115 114,.grp 115 false [zfa 116 1 0,zld 117 116 1,zmv 118 7,zia 119 117 118 QG,zfa 120 119 1,zld 121 120 1,zca 122 42 [121],zno 123 122] 124 123]),(.cond 124 (zsq [(.reg [zmv 2 (zkb false)]),.ret]) .skip)])),(.reg [zmv 105 7,zbi 106 .add 105 (zki 1),zmv 7 106])])
def QyJ:List (Nat × Md):=[(1,.b (zds 4)),(7,.one .d)]
def QCD:TCode :=
 (zsq [(.reg [zmv 2 (zkb true)]),.ret])
def QBJ:TCode :=
 (zsq [(zsq [(.reg [zmv 7 (zki 0)]),(.block 4 (.loop QyJ QC2))]),QCD])
def QJH:TCode :=
 (zsq [(.reg [zop 1 (.box 37 0 4),zmv 2 (zkb false)]),(.reg [zfa 8 1 1,zld 9 8 1,zle 10 9,zmv 3 10]),(zsq [(.reg [zmv 11 3,zca 12 77 [11,(zki 1),(zki 4)],zno 13 12,zmv 14 13,.grp 14 false [zfa 15 1 2,zld 16 15 1,zle 17 16,zmv 18 3,zbi 19 .sub 18 (zki 1),zbi 20 .neq 17 19] 21 20,zmv 22 21,.grp 22 false [zfa 23 1 3,zld 24 23 1,zle 25 24,zmv 26 3,zbi 27 .sub 26 (zki 1),zbi 28 .neq 25 27] 29 28,zmv 30 29,.grp 30 false [zfa 31 1 0,zld 32 31 1,zle 33 32,zca 34 77 [33,(zki 1),(zki 5)],zno 35 34] 36 35]),(.cond 36 (zsq [(.reg [zmv 2 (zkb false)]),.ret]) .skip)]),(zsq [(.reg [zmv 4 (zki 0)]),(.block 0 (.loop Qhh Qnd))]),QBJ])
def Qsv:List (ARv × Md):=[(.t 2,.one .d)]
def QgP:Qb:=TQ 0 0 Qsv K
def QNM:Qb:=Qseq (tawp Qbn 0 QBJ (QgP K)) (QgP K)
def Qo8:Qb:=Qblk 0 (QNM K)
def Qt2:Qb:=Qseq (fun s'=>Loop Qbn 0 Qhh Qnd (Qo8 K) (gc 0 Qhh s')) (Qo8 K)
def QQH:Qb:=Qseq (tawp Qbn 0 QCR (Qt2 K)) (Qt2 K)
def QxF:Qb:=Qblk 1 (QQH K)
def QK1:Qb:=Qseq (tawp Qbn 0 Qur (QxF K)) (QxF K)
def QIg:Qb:=Qblk 2 (QK1 K)
def Ql3 (p:Qe) (i:Int) (s:Int):Prop:=Loop Qbn 0 QyP QCo (QIg K) ⟨[(1,(.p 0 0 0)),(3,(zci ((p.2.1).length:Int))),(4,(zci s)),(5,(.p 1 0 0)),(6,(zci i))],[(0,(.box (Tup.cells QF p))),(1,(.box (Tup.cells Qh (gtd QK p.2.1 (Int.toNat s)))))],2⟩
def QIt:Qb:=Qseq (tawp Qbn 0 QCD (QgP K)) (QgP K)
def QGN:Qb:=Qblk 4 (QIt K)
def Qfw (p:Qe) (i1:Int):Prop:=Loop Qbn 0 QyJ QC2 (QGN K) ⟨[(1,(.p 0 0 0)),(7,(zci i1))],[(0,(.box (Tup.cells QF p)))],1⟩
def Qf8 (p:Qe) (s:Int):Prop:=Loop Qbn 0 Qhh Qnd (Qo8 K) ⟨[(1,(.p 0 0 0)),(3,(zci ((p.2.1).length:Int))),(4,(zci s))],[(0,(.box (Tup.cells QF p)))],1⟩
theorem QMx (p:Qe) (i:Int) (s:Int) (h :
 (zif (decide (i<(((gtd QK p.2.1 (Int.toNat s)).2.1).length:Int))) (((0:Int)≤i∧Int.toNat i<((gtd QK p.2.1 (Int.toNat s)).2.1).length)∧(zif (!(m_in ((gtd dIns ((gtd QK p.2.1 (Int.toNat s)).2.1) (Int.toNat i)).2) (0:Int) (w64 (((p.1).length:Int)-(1:Int))))) (K (YN false)) (Ql3 K p (w64 (i+(1:Int))) s))) (((decide (s>(0:Int)))=true→(((0:Int)≤w64 (s-(1:Int))∧Int.toNat (w64 (s-(1:Int)))<(p.2.2.1).length)∧((!(!(Q1 (gtd Qv p.2.2.1 (Int.toNat (w64 (s-(1:Int))))))))=true→((0:Int)≤w64 (s-(1:Int))∧Int.toNat (w64 (s-(1:Int)))<(p.2.2.2).length))))∧(zif ((decide (s>(0:Int)))&&((!(Q1 (gtd Qv p.2.2.1 (Int.toNat (w64 (s-(1:Int)))))))||(!(Q1 (gtd Qv p.2.2.2 (Int.toNat (w64 (s-(1:Int))))))))) (K (YN false)) (Qf8 K p (w64 (s+(1:Int)))))))):Ql3 K p i s :=
 Loop.of (by kernel_rfl) h
theorem QEO (p:Qe) (i1:Int) (h :
 (zif (decide (i1<((p.1).length:Int))) ((((0:Int)≤i1∧Int.toNat i1<(p.1).length)∧((!(!(QJ ((gtd QY p.1 (Int.toNat i1)).1))))=true→((0:Int)≤i1∧Int.toNat i1<(p.1).length)))∧(zif ((!(QJ ((gtd QY p.1 (Int.toNat i1)).1)))||(!(QJ ((gtd QY p.1 (Int.toNat i1)).2)))) (K (YN false)) (Qfw K p (w64 (i1+(1:Int)))))) (K (YN true)))):Qfw K p i1 :=
 Loop.of (by kernel_rfl) h
theorem QBZ (p:Qe) (s:Int) (h :
 (zif (decide (s<((p.2.1).length:Int))) (((0:Int)≤s∧Int.toNat s<(p.2.1).length)∧(zif ((!(QR (gtd QK p.2.1 (Int.toNat s))))||(!(((gtd QK p.2.1 (Int.toNat s)).2.2.2.1)==(s==(w64 (((p.2.1).length:Int)-(1:Int))))))) (K (YN false)) (Ql3 K p 0 s))) (Qfw K p 0))):Qf8 K p s :=
 Loop.of (by kernel_rfl) h
theorem QWs (p:Qe) (h :
 (zif ((((!(m_in ((p.2.1).length:Int) (1:Int) (4:Int)))||(((p.2.2.1).length:Int) != (w64 (((p.2.1).length:Int)-(1:Int)))))||(((p.2.2.2).length:Int) != (w64 (((p.2.1).length:Int)-(1:Int)))))||(!(m_in ((p.1).length:Int) (1:Int) (5:Int)))) (K (YN false)) (Qf8 K p 0))):Hold (tawp Qbn (0+0) QJH (TQ 0 0 Qsv K) (Qg [(.a (Tup.cells QF p))])) :=
 Hold.of (by kernel_rfl) h
theorem QMm (p:Qe):TCon Tryz.prog 38 [(.a (Tup.cells QF p))] (YN (Zn p)):=by
 refine Qo rfl fun hb=>tcg (n:=125) (sg:=Qms.sg) Qm (TOk.cons YX (TOk.cons QjV (TOk.cons Qmn (TOk.cons Jp TOk.nil)))) (by kernel_rfl) (by kernel_rfl) (QWs _ p ?_)
 have hl_p_0:(p.1).length≤9223372036854775807:=hb.1.1.1
 have hl_p_1:(p.2.1).length≤9223372036854775807:=hb.1.2.1.1
 have hl_p_2:(p.2.2.1).length≤9223372036854775807:=hb.1.2.2.1.1
 have hl_p_3:(p.2.2.2).length≤9223372036854775807:=hb.1.2.2.2.1.1
 by_cases h0:m_in p.2.1.length 1 4=true
 rotate_left
 ·exact ⟨fun h=>R_eq (by simp [Zn,h0]),fun h=>by simp [h0] at h⟩
 have h1:=QT.1 h0
 have e1:w64 ((p.2.1.length:Int)-1)=p.2.1.length-1:=Qr (by omega) (by omega)
 rw [e1]
 refine ⟨fun h=>R_eq ?_,fun h=>?_⟩
 ·have:((p.2.2.1.length+1==p.2.1.length)&&(p.2.2.2.length+1==p.2.1.length)&&m_in p.1.length 1 5)=false:=by
   cases hx:m_in p.1.length 1 5 with
   | false=>simp
   | true=>simp [h0,hx] at h;simp;omega
  have e2:(Zn p)=false:=by
   unfold Zn
   rw [h0,Bool.true_and,this,Bool.false_and]
  exact e2.symm
 have h2:m_in p.1.length 1 5=true:=by grind
 have h3:=QT.1 h2
 have ha:p.2.2.1.length+1=p.2.1.length∧p.2.2.2.length+1=p.2.1.length:=by simp [h0,h2] at h;omega
 have val:(Zn p)=(p.1.all JJ&&(p.2.2.1.all Q1&&p.2.2.2.all Q1)&&Jz p.1.length p.2.1):=by
  simp only [Zn,h0,h2,ha];simp
 have e3:w64 ((p.1.length:Int)-1)=p.1.length-1:=Qr (by omega) (by omega)
 have batch:(p.2.2.1.all Q1&&p.2.2.2.all Q1)=true→Jz p.1.length p.2.1=true→Qfw (fun r'=>r'=YN (Zn p)) p ((0:Nat):Int):=by
  intro hq hs
  refine Zp p.1 (fun r k=>r.all JJ=p.1.all JJ→Qfw (fun r'=>r'=YN (Zn p)) p k) ?_ ?_ rfl
  ·intro he
   refine QEO (fun r'=>r'=YN (Zn p)) p _ ⟨fun h=>by simp at h,fun _=>R_eq ?_⟩
   rw [val,hq,hs,← he];rfl
  ·intro k x r hk hlt hg ih he
   refine QEO (fun r'=>r'=YN (Zn p)) p _ ⟨fun _=>?_,fun h=>by simp at h;omega⟩
   rw [Int.toNat_natCast,hg,Qr (x:=(k:Int)+1) (by omega) (by omega)]
   rw [List.all_cons] at he
   refine ⟨⟨⟨by omega,hlt⟩,fun _=>⟨by omega,hlt⟩⟩,fun h=>R_eq ?_,fun h=>ih ?_⟩
   ·have:JJ x=false:=by grind [JJ]
    rw [this,Bool.false_and] at he
    rw [val,← he];rfl
   ·have:JJ x=true:=by grind [JJ]
    rw [this,Bool.true_and] at he
    exact he
 refine Zp p.2.1 (fun r k=>Jz p.1.length r=Jz p.1.length p.2.1→(∀ j:Nat,j+1<k→Q1 (gtd Qv p.2.2.1 j)=true∧Q1 (gtd Qv p.2.2.2 j)=true)→Qf8 (fun r'=>r'=YN (Zn p)) p k) ?_ ?_ rfl (fun j hj=>by omega)
 ·intro he hq
  refine QBZ (fun r'=>r'=YN (Zn p)) p _ ⟨fun h=>by simp at h,fun _=>batch ?_ ?_⟩
  ·rw [(Qfp Qv).2 (fun j hj=>(hq j (by omega)).1),(Qfp Qv).2 (fun j hj=>(hq j (by omega)).2)];rfl
  ·rw [← he];rfl
 ·intro k x r hk hlt hg ih he hq
  have hmem:x∈p.2.1:=List.mem_of_mem_drop (i:=k) (by rw [hk];exact List.mem_cons_self)
  have hbx:x.2.1.length≤9223372036854775807:=(hb.1.2.1.2 x hmem).2.1.1
  have hlast:=QC9 hk hl_p_1
  rw [e1] at hlast
  rw [Jz] at he
  refine QBZ (fun r'=>r'=YN (Zn p)) p _ ⟨fun _=>?_,fun h=>by simp at h;omega⟩
  rw [Int.toNat_natCast,hg,e1,hlast]
  refine ⟨⟨by omega,hlt⟩,fun h=>R_eq ?_,fun h=>?_⟩
  ·have:(QR x&&(x.2.2.2.1==decide (r.length=0)))=false:=by grind
   rw [this,Bool.false_and,Bool.false_and] at he
   rw [val,← he,Bool.and_false]
  ·have:(QR x&&(x.2.2.2.1==decide (r.length=0)))=true:=by grind
   rw [this,Bool.true_and] at he
   have rest:x.2.1.all (fun y=>m_in y.2 0 (p.1.length-1))=true→((((decide ((k:Int)>0))=true→((0≤w64 ((k:Int)-1)∧Int.toNat (w64 ((k:Int)-1))<p.2.2.1.length)∧((!(!(Q1 (gtd Qv p.2.2.1 (Int.toNat (w64 ((k:Int)-1)))))))=true→(0≤w64 ((k:Int)-1)∧Int.toNat (w64 ((k:Int)-1))<p.2.2.2.length))))∧((((decide ((k:Int)>0))&&((!(Q1 (gtd Qv p.2.2.1 (Int.toNat (w64 ((k:Int)-1))))))||(!(Q1 (gtd Qv p.2.2.2 (Int.toNat (w64 ((k:Int)-1))))))))=true→YN false=YN (Zn p))∧(((decide ((k:Int)>0))&&((!(Q1 (gtd Qv p.2.2.1 (Int.toNat (w64 ((k:Int)-1))))))||(!(Q1 (gtd Qv p.2.2.2 (Int.toNat (w64 ((k:Int)-1))))))))=false→Qf8 (fun r'=>r'=YN (Zn p)) p (w64 ((k:Int)+1)))))):=by
    intro hx
    rw [hx,Bool.true_and] at he
    rw [Qr (x:=(k:Int)+1) (by omega) (by omega)]
    rcases Nat.eq_zero_or_pos k with k0 | k0
    ·subst k0
     exact ⟨fun h=>by simp at h,fun h=>by simp at h,fun _=>ih he (fun j hj=>by omega)⟩
    ·have e2:=Qbh k0 (by omega:k≤9223372036854775807)
     rw [e2.1]
     refine ⟨fun _=>⟨⟨e2.2,by omega⟩,fun _=>⟨e2.2,by omega⟩⟩,fun h=>R_eq ?_,fun h=>ih he (fun j hj=>?_)⟩
     ·have hqs:(p.2.2.1.all Q1&&p.2.2.2.all Q1)=false:=by
       cases hc:(p.2.2.1.all Q1&&p.2.2.2.all Q1) with
       | false=>rfl
       | true =>
        simp only [Bool.and_eq_true] at hc
        have a1:=(Qfp Qv).1 hc.1 (k-1) (by omega)
        have a2:=(Qfp Qv).1 hc.2 (k-1) (by omega)
        rw [a1,a2] at h
        simp at h
      rw [val,hqs];simp
     ·by_cases hjk:j+1<k
      ·exact hq j hjk
      ·rw [show j=k-1 by omega]
       have hpos:decide ((k:Int)>0)=true:=by simp;omega
       rw [hpos] at h
       grind
   refine QbA (l:=x.2.1) (Q:=fun b=>selP b _ (YN false=YN (Zn p))) (p:=fun y=>m_in y.2 0 (p.1.length-1)) (c:=fun y=>!(m_in y.2 0 (p.1.length-1))) (e:=true) dIns hbx (fun y=>rfl) (fun i h=>QMx (fun r'=>r'=YN (Zn p)) p i k (by rw [Int.toNat_natCast,hg,e3];exact h)) ?_
   cases hx:x.2.1.all (fun y=>m_in y.2 0 (p.1.length-1)) with
   | false =>
    rw [hx,Bool.false_and] at he
    exact R_eq (by rw [val,← he,Bool.and_false])
   | true=>exact rest hx
theorem QNx:Qj Tryz.prog Qms:=Qn fun x _=>QMm x.1
def Yy (t:Bool):TRes:=zre (zcb t)
def Qpz:TRow:=Qk 58 [(.a QF)] fun x=>(none,Yy (Zn x.1))
def QaF:List TRow:=[Qa6,Qf5,Qep]
def QxC:TCode :=
 (zsq [(.reg [zbi 50 .lss 49 48]),(.cond 50 .skip (.exit 0)),(.block 1 (zsq [(.reg [zia 51 47 49 QG,zLd 52 51 2,zop 5 (.new 108 (z0s QG)),zst 5 52 2]),(.reg [zfa 53 5 0,zld 54 53 1,zca 55 134 [54],zno 56 55,zmv 57 56,.grp 57 false [zfa 58 5 1,zld 59 58 1,zca 60 134 [59],zno 61 60] 62 61]),(.cond 62 (zsq [(.reg [zmv 2 (zkb false)]),.ret]) .skip)])),(.reg [zbi 63 .add 49 (zki 1),zmv 49 63])])
def QB8:List (Nat × Md):=[(1,.b (zds 4)),(3,.one .d),(47,.one .d),(48,.one .d),(49,.one .d)]
def Qyd:TCode :=
 (zsq [(.reg [zbi 68 .lss 67 66]),(.cond 68 .skip (.exit 2)),(.block 3 (zsq [(.reg [zmv 69 67,zmv 6 69]),(.reg [zfa 70 1 2,zld 71 70 1,zmv 72 6,zia 73 71 72 Qi,zLd 74 73 2,zca 75 135 [74],zno 76 75,zmv 77 76,.grp 77 false [zfa 78 1 3,zld 79 78 1,zmv 80 6,zia 81 79 80 Qi,zLd 82 81 2,zca 83 135 [82],zno 84 83] 85 84]),(.cond 85 (zsq [(.reg [zmv 2 (zkb false)]),.ret]) .skip)])),(.reg [zbi 86 .add 67 (zki 1),zmv 67 86])])
def Qtu:List (Nat × Md):=[(1,.b (zds 4)),(3,.one .d),(66,.one .d),(67,.one .d)]
def QBi:TCode :=
 (zsq [(.reg [zbi 111 .lss 110 109]),(.cond 111 .skip (.exit 6)),(.block 7 (zsq [(.reg [zia 112 108 110 QQ,zLd 113 112 2,zop 10 (.new 111 (z0s QQ)),zst 10 113 2]),(.reg [zfa 114 10 1,zld 115 114 1,zbi 116 .lss 115 (zki 0),zmv 117 116,.grp 117 false [zfa 118 10 1,zld 119 118 1,zfa 120 1 0,zld 121 120 1,zle 122 121,zbi 123 .geq 119 122] 124 123]),(.cond 124 (zsq [(.reg [zmv 2 (zkb false)]),.ret]) .skip)])),(.reg [zbi 125 .add 110 (zki 1),zmv 110 125])])
def QEx:List (Nat × Md):=[(1,.b (zds 4)),(3,.one .d),(88,.one .d),(89,.one .d),(90,.one .d),(108,.one .d),(109,.one .d),(110,.one .d)]
def Qsu:TCode :=
 (.reg [zbi 126 .add 90 (zki 1),zmv 90 126])
def Qqq:TCode :=
 (zsq [(.reg [zbi 91 .lss 90 89]),(.cond 91 .skip (.exit 4)),(.block 5 (zsq [(.reg [zmv 92 90,zia 93 88 90 Qh,zLd 94 93 14,zop 8 (.new 63 (z0s Qh)),zmv 7 92,zst 8 94 14]),(zsq [(.reg [zLd 95 8 14,zca 96 113 [95],zno 97 96,zmv 98 97,.grp 98 false [zfa 99 8 3,zld 100 99 1,zmv 101 7,zmv 102 3,zbi 103 .sub 102 (zki 1),zbi 104 .eql 101 103,zop 105 (.eqb true 100 104)] 106 105]),(.cond 106 (zsq [(.reg [zmv 2 (zkb false)]),.ret]) .skip)]),(.reg [zfa 107 8 1,zld 108 107 1,zle 109 108,zmv 110 (zki 0)]),(.block 6 (.loop QEx QBi))])),Qsu])
def Qj5:List (Nat × Md):=[(1,.b (zds 4)),(3,.one .d),(88,.one .d),(89,.one .d),(90,.one .d)]
def Qug:TCode :=
 (zsq [(.reg [zmv 2 (zkb true)]),.ret])
def QD4:TCode :=
 (zsq [(zsq [(.reg [zfa 87 1 1,zld 88 87 1,zle 89 88,zmv 90 (zki 0)]),(.block 4 (.loop Qj5 Qqq))]),Qug])
def QwW:TCode :=
 (zsq [(zsq [(.reg [zfa 64 1 2,zld 65 64 1,zle 66 65,zmv 67 (zki 0)]),(.block 2 (.loop Qtu Qyd))]),QD4])
def QI6:TCode :=
 (zsq [(.reg [zop 1 (.box 37 0 4),zmv 2 (zkb false)]),(.reg [zfa 11 1 1,zld 12 11 1,zle 13 12,zmv 3 13]),(zsq [(.reg [zmv 14 3,zbi 15 .lss 14 (zki 1),zmv 16 15,.grp 16 false [zmv 17 3,zbi 18 .gtr 17 (zki 4)] 19 18,zmv 20 19,.grp 20 false [zfa 21 1 2,zld 22 21 1,zle 23 22,zmv 24 3,zbi 25 .sub 24 (zki 1),zbi 26 .neq 23 25] 27 26,zmv 28 27,.grp 28 false [zfa 29 1 3,zld 30 29 1,zle 31 30,zmv 32 3,zbi 33 .sub 32 (zki 1),zbi 34 .neq 31 33] 35 34]),(.cond 35 (zsq [(.reg [zmv 2 (zkb false)]),.ret]) .skip)]),(zsq [(.reg [zfa 36 1 0,zld 37 36 1,zle 38 37,zbi 39 .lss 38 (zki 1),zmv 40 39,.grp 40 false [zfa 41 1 0,zld 42 41 1,zle 43 42,zbi 44 .gtr 43 (zki 5)] 45 44]),(.cond 45 (zsq [(.reg [zmv 2 (zkb false)]),.ret]) .skip)]),(zsq [(.reg [zfa 46 1 0,zld 47 46 1,zle 48 47,zmv 49 (zki 0)]),(.block 0 (.loop QB8 QxC))]),QwW])
def QtV:List (ARv × Md):=[(.t 2,.one .d)]
def QdB:Qb:=TQ 0 0 QtV K
def QUt:Qb:=Qseq (tawp QaF 0 Qug (QdB K)) (QdB K)
def QmW:Qb:=Qblk 4 (QUt K)
def Qun:Qb:=Qseq (fun s'=>Loop QaF 0 Qj5 Qqq (QmW K) (gc 0 Qj5 s')) (QmW K)
def QY7:Qb:=Qseq (tawp QaF 0 Qsu (Qun K)) (Qun K)
def QVb:Qb:=Qblk 5 (QY7 K)
def QMl:Qb:=Qblk 6 (QVb K)
def Qk2 (p:Qe) (x2:Int) (x3:Int):Prop:=Loop QaF 0 QEx QBi (QMl K) ⟨[(1,(.p 0 0 0)),(3,(zci ((p.2.1).length:Int))),(88,(zcs Qh p.2.1)),(89,(zci ((p.2.1).length:Int))),(90,(zci x3)),(108,(zcs QQ ((gtd QK p.2.1 (Int.toNat x3)).2.1))),(109,(zci (((gtd QK p.2.1 (Int.toNat x3)).2.1).length:Int))),(110,(zci x2))],[(0,(.box (Tup.cells QF p)))],1⟩
def QfE (p:Qe) (x3:Int):Prop:=Loop QaF 0 Qj5 Qqq (QmW K) ⟨[(1,(.p 0 0 0)),(3,(zci ((p.2.1).length:Int))),(88,(zcs Qh p.2.1)),(89,(zci ((p.2.1).length:Int))),(90,(zci x3))],[(0,(.box (Tup.cells QF p)))],1⟩
def QGi:Qb:=Qseq (tawp QaF 0 QD4 (QdB K)) (QdB K)
def QPQ:Qb:=Qblk 2 (QGi K)
def QdE (p:Qe) (x1:Int):Prop:=Loop QaF 0 Qtu Qyd (QPQ K) ⟨[(1,(.p 0 0 0)),(3,(zci ((p.2.1).length:Int))),(66,(zci ((p.2.2.1).length:Int))),(67,(zci x1))],[(0,(.box (Tup.cells QF p)))],1⟩
def QOE:Qb:=Qseq (tawp QaF 0 QwW (QdB K)) (QdB K)
def QGy:Qb:=Qblk 0 (QOE K)
def QqA (p:Qe) (x:Int):Prop:=Loop QaF 0 QB8 QxC (QGy K) ⟨[(1,(.p 0 0 0)),(3,(zci ((p.2.1).length:Int))),(47,(zcs QG p.1)),(48,(zci ((p.1).length:Int))),(49,(zci x))],[(0,(.box (Tup.cells QF p)))],1⟩
theorem QYj (p:Qe) (x2:Int) (x3:Int) (h :
 (zif (decide (x2<(((gtd QK p.2.1 (Int.toNat x3)).2.1).length:Int))) (((0:Int)≤x2∧Int.toNat x2<((gtd QK p.2.1 (Int.toNat x3)).2.1).length)∧(zif ((decide (((gtd dIns ((gtd QK p.2.1 (Int.toNat x3)).2.1) (Int.toNat x2)).2)<(0:Int)))||(decide (((gtd dIns ((gtd QK p.2.1 (Int.toNat x3)).2.1) (Int.toNat x2)).2)≥((p.1).length:Int)))) (K (Yy false)) (Qk2 K p (w64 (x2+(1:Int))) x3))) (QfE K p (w64 (x3+(1:Int)))))):Qk2 K p x2 x3 :=
 Loop.of (by kernel_rfl) h
theorem Qse (p:Qe) (x3:Int) (h :
 (zif (decide (x3<((p.2.1).length:Int))) (((0:Int)≤x3∧Int.toNat x3<(p.2.1).length)∧(zif ((!(QR (gtd QK p.2.1 (Int.toNat x3))))||(!(((gtd QK p.2.1 (Int.toNat x3)).2.2.2.1)==(x3==(w64 (((p.2.1).length:Int)-(1:Int))))))) (K (Yy false)) (Qk2 K p 0 x3))) (K (Yy true)))):QfE K p x3 :=
 Loop.of (by kernel_rfl) h
theorem QvB (p:Qe) (x1:Int) (h :
 (zif (decide (x1<((p.2.2.1).length:Int))) ((((0:Int)≤x1∧Int.toNat x1<(p.2.2.1).length)∧((!(!(Q1 (gtd Qv p.2.2.1 (Int.toNat x1)))))=true→((0:Int)≤x1∧Int.toNat x1<(p.2.2.2).length)))∧(zif ((!(Q1 (gtd Qv p.2.2.1 (Int.toNat x1))))||(!(Q1 (gtd Qv p.2.2.2 (Int.toNat x1))))) (K (Yy false)) (QdE K p (w64 (x1+(1:Int)))))) (QfE K p 0))):QdE K p x1 :=
 Loop.of (by kernel_rfl) h
theorem QKu (p:Qe) (x:Int) (h :
 (zif (decide (x<((p.1).length:Int))) (((0:Int)≤x∧Int.toNat x<(p.1).length)∧(zif ((!(QJ ((gtd QY p.1 (Int.toNat x)).1)))||(!(QJ ((gtd QY p.1 (Int.toNat x)).2)))) (K (Yy false)) (QqA K p (w64 (x+(1:Int)))))) (QdE K p 0))):QqA K p x :=
 Loop.of (by kernel_rfl) h
theorem QU7 (p:Qe) (h :
 (zif ((((decide (((p.2.1).length:Int)<(1:Int)))||(decide (((p.2.1).length:Int)>(4:Int))))||(((p.2.2.1).length:Int) != (w64 (((p.2.1).length:Int)-(1:Int)))))||(((p.2.2.2).length:Int) != (w64 (((p.2.1).length:Int)-(1:Int))))) (K (Yy false)) (zif ((decide (((p.1).length:Int)<(1:Int)))||(decide (((p.1).length:Int)>(5:Int)))) (K (Yy false)) (QqA K p 0)))):Hold (tawp QaF (0+0) QI6 (TQ 0 0 QtV K) (Qg [(.a (Tup.cells QF p))])) :=
 Hold.of (by kernel_rfl) h
theorem QMI (p:Qe):TCon Tryz.prog 58 [(.a (Tup.cells QF p))] (Yy (Zn p)):=by
 refine Qo rfl fun hb=>tcg (n:=127) (sg:=Qpz.sg) Qm (TOk.cons Qdc (TOk.cons QnG (TOk.cons Qhf TOk.nil))) (by kernel_rfl) (by kernel_rfl) (QU7 _ p ?_)
 have hl_p_0:(p.1).length≤9223372036854775807:=hb.1.1.1
 have hl_p_1:(p.2.1).length≤9223372036854775807:=hb.1.2.1.1
 have hl_p_2:(p.2.2.1).length≤9223372036854775807:=hb.1.2.2.1.1
 have hl_p_3:(p.2.2.2).length≤9223372036854775807:=hb.1.2.2.2.1.1
 refine ⟨fun h=>R_eq ?_,fun h=>?_⟩
 ·have:(m_in p.2.1.length 1 4&&(p.2.2.1.length+1==p.2.1.length)&&(p.2.2.2.length+1==p.2.1.length))=false:=by
   by_cases h0:m_in p.2.1.length 1 4=true
   ·have h1:=QT.1 h0
    rw [Qr (x:=(p.2.1.length:Int)-1) (by omega) (by omega)] at h
    simp at h
    simp [h0]
    omega
   ·simp at h0;simp [h0]
  simp [Zn,this]
 have h0:m_in p.2.1.length 1 4=true:=by simp at h;simp [m_in];omega
 have h1:=QT.1 h0
 have e1:w64 ((p.2.1.length:Int)-1)=p.2.1.length-1:=Qr (by omega) (by omega)
 rw [e1] at h
 have ha:p.2.2.1.length+1=p.2.1.length∧p.2.2.2.length+1=p.2.1.length:=by simp at h;omega
 refine ⟨fun h=>R_eq ?_,fun h=>?_⟩
 ·have:m_in p.1.length 1 5=false:=by simp at h;simp [m_in];omega
  simp [Zn,this]
 have h2:m_in p.1.length 1 5=true:=by simp at h;simp [m_in];omega
 have h3:=QT.1 h2
 have val:(Zn p)=(p.1.all JJ&&(p.2.2.1.all Q1&&p.2.2.2.all Q1)&&Jz p.1.length p.2.1):=by
  simp only [Zn,h0,h2,ha];simp
 refine QbA (Q:=fun b=>selP b (QdE (fun r'=>r'=Yy (Zn p)) p ((0:Nat):Int)) (Yy false=Yy (Zn p))) (p:=JJ) (c:=fun x=>(!(QJ x.1))||!(QJ x.2)) (e:=true) QY hl_p_0 (fun x=>by grind [JJ]) (fun i h=>QKu (fun r'=>r'=Yy (Zn p)) p i h) ?_
 cases hx1:p.1.all JJ with
 | false=>exact R_eq (by rw [val,hx1];rfl)
 | true =>
  show QdE (fun r'=>r'=Yy (Zn p)) p ((0:Nat):Int)
  have queues:∀ k:Nat,((p.2.2.1.drop k).all Q1&&(p.2.2.2.drop k).all Q1)=(p.2.2.1.all Q1&&p.2.2.2.all Q1)→k≤p.2.2.1.length→QdE (fun r'=>r'=Yy (Zn p)) p k:=by
   intro k
   generalize hn:p.2.2.1.length-k=n
   induction n generalizing k with
   | zero =>
    intro he hle
    refine QvB (fun r'=>r'=Yy (Zn p)) p _ ⟨fun h=>by simp at h;omega,fun _=>?_⟩
    have hall:(p.2.2.1.all Q1&&p.2.2.2.all Q1)=true:=by
     rw [← he,List.drop_eq_nil_of_le (by omega),List.drop_eq_nil_of_le (by omega)];rfl
    refine Zp p.2.1 (fun r k=>Jz p.1.length r=Jz p.1.length p.2.1→QfE (fun r'=>r'=Yy (Zn p)) p k) ?_ ?_ rfl
    ·intro he2
     refine Qse (fun r'=>r'=Yy (Zn p)) p _ ⟨fun h=>by simp at h,fun _=>R_eq ?_⟩
     rw [val,hx1,hall,← he2];rfl
    ·intro k x r hk hlt hg ih he2
     have hmem:x∈p.2.1:=List.mem_of_mem_drop (i:=k) (by rw [hk];exact List.mem_cons_self)
     have hbx:x.2.1.length≤9223372036854775807:=(hb.1.2.1.2 x hmem).2.1.1
     have hlast:=QC9 hk hl_p_1
     rw [Jz] at he2
     refine Qse (fun r'=>r'=Yy (Zn p)) p _ ⟨fun _=>?_,fun h=>by simp at h;omega⟩
     rw [Int.toNat_natCast,hg,hlast]
     refine ⟨⟨by omega,hlt⟩,fun h=>R_eq ?_,fun h=>?_⟩
     ·have:(QR x&&(x.2.2.2.1==decide (r.length=0)))=false:=by grind
      rw [this,Bool.false_and,Bool.false_and] at he2
      rw [val,← he2,Bool.and_false]
     ·have:(QR x&&(x.2.2.2.1==decide (r.length=0)))=true:=by grind
      rw [this,Bool.true_and] at he2
      refine QbA (l:=x.2.1) (Q:=fun b=>selP b (QfE (fun r'=>r'=Yy (Zn p)) p ((k+1:Nat):Int)) (Yy false=Yy (Zn p))) (p:=fun y=>m_in y.2 0 (p.1.length-1)) (c:=fun y=>decide (y.2<0)||decide (y.2≥(p.1.length:Int))) (e:=true) dIns hbx (fun y=>by grind [m_in]) (fun i h=>QYj (fun r'=>r'=Yy (Zn p)) p i k (by rw [Int.toNat_natCast,hg,Qr (x:=(k:Int)+1) (by omega) (by omega)];exact h)) ?_
      cases hx:x.2.1.all (fun y=>m_in y.2 0 (p.1.length-1)) with
      | false =>
       rw [hx,Bool.false_and] at he2
       exact R_eq (by rw [val,← he2,Bool.and_false])
      | true =>
       rw [hx,Bool.true_and] at he2
       exact ih he2
   | succ n ihn =>
    intro he hle
    obtain ⟨y,q,hq⟩:∃ y q,p.2.2.1.drop k=y::q:=by
     cases hq:p.2.2.1.drop k with
     | nil=>have:=congrArg List.length hq;simp at this;omega
     | cons y q=>exact ⟨y,q,rfl⟩
    obtain ⟨z,t,hz⟩:∃ z t,p.2.2.2.drop k=z::t:=by
     cases hz:p.2.2.2.drop k with
     | nil=>have:=congrArg List.length hz;simp at this;omega
     | cons z t=>exact ⟨z,t,rfl⟩
    have hlt:=Qgu hq
    refine QvB (fun r'=>r'=Yy (Zn p)) p _ ⟨fun _=>?_,fun h=>by simp at h;omega⟩
    rw [Int.toNat_natCast,Yb hq,Yb hz,Qr (x:=(k:Int)+1) (by omega) (by omega)]
    have ih2:=ihn (k+1) (by omega)
    rw [ZY hq,ZY hz] at ih2
    rw [hq,hz,List.all_cons,List.all_cons] at he
    refine ⟨⟨⟨by omega,hlt⟩,fun _=>⟨by omega,by omega⟩⟩,fun h=>R_eq ?_,fun h=>ih2 ?_ (by omega)⟩
    ·rw [val,← he];grind
    ·rw [← he];grind
  exact queues 0 rfl (Nat.zero_le _)
theorem QJh:Qj Tryz.prog Qpz:=Qn fun x _=>QMI x.1
end
end Go.Proofs.YtjbdljkhbglnhaaGreat.Am

