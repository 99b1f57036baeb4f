/- -/
import Derived.Test.YtjbdljkhbglnhaaGreatZIP1
import Derived.Test.YtjbdljkhbglnhaaGreatZIP8
import Derived.Test.YtjbdljkhbglnhaaGreatZIP2
namespace Go.Proofs.YtjbdljkhbglnhaaGreat.Am
open Go Go.RowKit Go.Proofs.YtjbdljkhbglnhaaGreat
set_option linter.all false
noncomputable section
variable (K:TRes→Prop)
def YP (t:Bool):TRes:=zre (zcb t)
def QlW:TRow:=Qk 38 [(.a QE)] fun x=>(none,YP (Zk x.1))
def Qa8:List TRow:=[YN,QdL,Qf1,Jc]
def Qta:TCode :=
 (zsq [(zsq [(.reg [zmv 59 6,zfa 60 5 1,zld 61 60 1,zle 62 61,zbi 63 .lss 59 62]),(.cond 63 .skip (.exit 2))]),(.block 3 (zsq [(.draw [zfa 66 5 1,zld 67 66 1,zmv 68 6,zia 69 67 68 QR,zfa 70 69 1,zld 71 70 1,zfa 72 1 0,zld 73 72 1,zle 74 73,zbi 75 .sub 74 (zki 1),zca 76 77 [71,(zki 0),75],zno 77 76] []),(.cond 77 (zsq [(.reg [zmv 2 (zkb false)]),.ret]) .skip)])),(.reg [zmv 64 6,zbi 65 .add 64 (zki 1),zmv 6 65])])
def QxS:List (Nat × Md):=[(1,.b (zds 4)),(3,.one .d),(4,.one .d),(5,.b (zds 14)),(6,.one .d)]
def QBL:TCode :=
 (zsq [(.reg [zmv 78 4,zbi 79 .gtr 78 (zki 0),zmv 80 79,.grp 80 true [zfa 81 1 2,zld 82 81 1,zmv 83 4,zbi 84 .sub 83 (zki 1),zia 85 82 84 Qh,zLd 86 85 2,zca 87 103 [86],zno 88 87,zmv 89 88,.grp 89 false [zfa 90 1 3,zld 91 90 1,zmv 92 4,zbi 93 .sub 92 (zki 1),zia 94 91 93 Qh,zLd 95 94 2,zca 96 103 [95],zno 97 96] 98 97] 99 98]),(.cond 99 (zsq [(.reg [zmv 2 (zkb false)]),.ret]) .skip)])
def QqN:TCode :=
 (.reg [zmv 40 4,zbi 41 .add 40 (zki 1),zmv 4 41])
def Qle:TCode :=
 (zsq [(zsq [(.reg [zmv 37 4,zmv 38 3,zbi 39 .lss 37 38]),(.cond 39 .skip (.exit 0))]),(.block 1 (zsq [(.reg [zfa 42 1 1,zld 43 42 1,zmv 44 4,zia 45 43 44 Qg,zLd 46 45 14,zop 5 (.new 63 (z0s Qg)),zst 5 46 14]),(zsq [(.reg [zLd 47 5 14,zca 48 41 [47],zno 49 48,zmv 50 49,.grp 50 false [zfa 51 5 3,zld 52 51 1,zmv 53 4,zmv 54 3,zbi 55 .sub 54 (zki 1),zbi 56 .eql 53 55,zop 57 (.eqb true 52 56)] 58 57]),(.cond 58 (zsq [(.reg [zmv 2 (zkb false)]),.ret]) .skip)]),(zsq [(.reg [zmv 6 (zki 0)]),(.block 2 (.loop QxS Qta))]),QBL])),QqN])
def QgT:List (Nat × Md):=[(1,.b (zds 4)),(3,.one .d),(4,.one .d)]
def Qur:TCode :=
 (zsq [(zsq [(.reg [zmv 100 7,zfa 101 1 0,zld 102 101 1,zle 103 102,zbi 104 .lss 100 103]),(.cond 104 .skip (.exit 4))]),(.block 5 (zsq [(.reg [zfa 107 1 0,zld 108 107 1,zmv 109 7,zia 110 108 109 QK,zfa 111 110 0,zld 112 111 1,zca 113 42 [112],zno 114 113,zmv 115 114,.grp 115 false [zfa 116 1 0,zld 117 116 1,zmv 118 7,zia 119 117 118 QK,zfa 120 119 1,zld 121 120 1,zca 122 42 [121],zno 123 122] 124 123]),(.cond 124 (zsq [(.reg [zmv 2 (zkb false)]),.ret]) .skip)])),(.reg [zmv 105 7,zbi 106 .add 105 (zki 1),zmv 7 106])])
def Qsv:List (Nat × Md):=[(1,.b (zds 4)),(7,.one .d)]
def QAw:TCode :=
 (zsq [(.reg [zmv 2 (zkb true)]),.ret])
def QAa:TCode :=
 (zsq [(zsq [(.reg [zmv 7 (zki 0)]),(.block 4 (.loop Qsv Qur))]),QAw])
def QX8:TCode :=
 (zsq [(.reg [zop 1 (.box 37 0 4),zmv 2 (zkb false)]),(.reg [zfa 8 1 1,zld 9 8 1,zle 10 9,zmv 3 10]),(zsq [(.reg [zmv 11 3,zca 12 77 [11,(zki 1),(zki 4)],zno 13 12,zmv 14 13,.grp 14 false [zfa 15 1 2,zld 16 15 1,zle 17 16,zmv 18 3,zbi 19 .sub 18 (zki 1),zbi 20 .neq 17 19] 21 20,zmv 22 21,.grp 22 false [zfa 23 1 3,zld 24 23 1,zle 25 24,zmv 26 3,zbi 27 .sub 26 (zki 1),zbi 28 .neq 25 27] 29 28,zmv 30 29,.grp 30 false [zfa 31 1 0,zld 32 31 1,zle 33 32,zca 34 77 [33,(zki 1),(zki 5)],zno 35 34] 36 35]),(.cond 36 (zsq [(.reg [zmv 2 (zkb false)]),.ret]) .skip)]),(zsq [(.reg [zmv 4 (zki 0)]),(.block 0 (.loop QgT Qle))]),QAa])
def QtF:List (ARv × Md):=[(.t 2,.one .d)]
def QgP:Qb:=TQ 0 0 QtF K
def QWt:Qb:=Qseq (tawp Qa8 0 QAa (QgP K)) (QgP K)
def QoL:Qb:=Qblk 0 (QWt K)
def Qtn:Qb:=Qseq (fun s'=>Loop Qa8 0 QgT Qle (QoL K) (gc 0 QgT s')) (QoL K)
def QWi:Qb:=Qseq (tawp Qa8 0 QqN (Qtn K)) (Qtn K)
def QzG:Qb:=Qblk 1 (QWi K)
def QPM:Qb:=Qseq (tawp Qa8 0 QBL (QzG K)) (QzG K)
def QPz:Qb:=Qblk 2 (QPM K)
def QkZ (p:Qe) (i:Int) (s:Int):Prop:=Loop Qa8 0 QxS Qta (QPz K) ⟨[(1,(.p 0 0 0)),(3,(zci ((p.2.1).length:Int))),(4,(zci s)),(5,(.p 1 0 0)),(6,(zci i))],[(0,(.box (Tup.cells QE p))),(1,(.box (Tup.cells Qg (gtd QH p.2.1 (Int.toNat s)))))],2⟩
def QQg:Qb:=Qseq (tawp Qa8 0 QAw (QgP K)) (QgP K)
def QIF:Qb:=Qblk 4 (QQg K)
def QfV (p:Qe) (i1:Int):Prop:=Loop Qa8 0 Qsv Qur (QIF K) ⟨[(1,(.p 0 0 0)),(7,(zci i1))],[(0,(.box (Tup.cells QE p)))],1⟩
def Qf9 (p:Qe) (s:Int):Prop:=Loop Qa8 0 QgT Qle (QoL K) ⟨[(1,(.p 0 0 0)),(3,(zci ((p.2.1).length:Int))),(4,(zci s))],[(0,(.box (Tup.cells QE p)))],1⟩
theorem QUW (p:Qe) (i:Int) (s:Int) (h :
 (zif (decide (i<(((gtd QH p.2.1 (Int.toNat s)).2.1).length:Int))) (((0:Int)≤i∧Int.toNat i<((gtd QH p.2.1 (Int.toNat s)).2.1).length)∧(zif (!(m_in ((gtd dIns ((gtd QH p.2.1 (Int.toNat s)).2.1) (Int.toNat i)).2) (0:Int) (w64 (((p.1).length:Int)-(1:Int))))) (K (YP false)) (QkZ K p (w64 (i+(1:Int))) s))) (((decide (s>(0:Int)))=true→(((0:Int)≤w64 (s-(1:Int))∧Int.toNat (w64 (s-(1:Int)))<(p.2.2.1).length)∧((!(!(Q3 (gtd Qw p.2.2.1 (Int.toNat (w64 (s-(1:Int))))))))=true→((0:Int)≤w64 (s-(1:Int))∧Int.toNat (w64 (s-(1:Int)))<(p.2.2.2).length))))∧(zif ((decide (s>(0:Int)))&&((!(Q3 (gtd Qw p.2.2.1 (Int.toNat (w64 (s-(1:Int)))))))||(!(Q3 (gtd Qw p.2.2.2 (Int.toNat (w64 (s-(1:Int))))))))) (K (YP false)) (Qf9 K p (w64 (s+(1:Int)))))))):QkZ K p i s :=
 Loop.of (by kernel_rfl) h
theorem QBW (p:Qe) (i1:Int) (h :
 (zif (decide (i1<((p.1).length:Int))) ((((0:Int)≤i1∧Int.toNat i1<(p.1).length)∧((!(!(QJ ((gtd QX p.1 (Int.toNat i1)).1))))=true→((0:Int)≤i1∧Int.toNat i1<(p.1).length)))∧(zif ((!(QJ ((gtd QX p.1 (Int.toNat i1)).1)))||(!(QJ ((gtd QX p.1 (Int.toNat i1)).2)))) (K (YP false)) (QfV K p (w64 (i1+(1:Int)))))) (K (YP true)))):QfV K p i1 :=
 Loop.of (by kernel_rfl) h
theorem Qv6 (p:Qe) (s:Int) (h :
 (zif (decide (s<((p.2.1).length:Int))) (((0:Int)≤s∧Int.toNat s<(p.2.1).length)∧(zif ((!(QS (gtd QH p.2.1 (Int.toNat s))))||(!(((gtd QH p.2.1 (Int.toNat s)).2.2.2.1)==(s==(w64 (((p.2.1).length:Int)-(1:Int))))))) (K (YP false)) (QkZ K p 0 s))) (QfV K p 0))):Qf9 K p s :=
 Loop.of (by kernel_rfl) h
theorem QM1 (p:Qe) (h :
 (zif ((((!(m_in ((p.2.1).length:Int) (1:Int) (4:Int)))||(((p.2.2.1).length:Int) != (w64 (((p.2.1).length:Int)-(1:Int)))))||(((p.2.2.2).length:Int) != (w64 (((p.2.1).length:Int)-(1:Int)))))||(!(m_in ((p.1).length:Int) (1:Int) (5:Int)))) (K (YP false)) (Qf9 K p 0))):Hold (tawp Qa8 (0+0) QX8 (TQ 0 0 QtF K) (Qi [(.a (Tup.cells QE p))])) :=
 Hold.of (by kernel_rfl) h
theorem QNX (p:Qe):TCon Tryz.prog 38 [(.a (Tup.cells QE p))] (YP (Zk p)):=by
 refine Qo rfl fun hb=>tcg (n:=125) (sg:=QlW.sg) Qm (TOk.cons Y5 (TOk.cons Qkp (TOk.cons Qna (TOk.cons Jr TOk.nil)))) (by kernel_rfl) (by kernel_rfl) (QM1 _ p ?_)
 have hl_p_0:(p.1).length≤9223372036854775807:=hb.1.1.1
 have hl_p_1:(p.2.1).length≤9223372036854775807:=hb.1.2.1.1
 have hl_p_2:(p.2.2.1).length≤9223372036854775807:=hb.1.2.2.1.1
 have hl_p_3:(p.2.2.2).length≤9223372036854775807:=hb.1.2.2.2.1.1
 by_cases h0:m_in p.2.1.length 1 4=true
 rotate_left
 ·exact ⟨fun h=>R_eq (by simp [Zk,h0]),fun h=>by simp [h0] at h⟩
 have h1:=QP.1 h0
 have e1:w64 ((p.2.1.length:Int)-1)=p.2.1.length-1:=Qp (by omega) (by omega)
 rw [e1]
 refine ⟨fun h=>R_eq ?_,fun h=>?_⟩
 ·have:((p.2.2.1.length+1==p.2.1.length)&&(p.2.2.2.length+1==p.2.1.length)&&m_in p.1.length 1 5)=false:=by
   cases hx:m_in p.1.length 1 5 with
   | false=>simp
   | true=>simp [h0,hx] at h;simp;omega
  have e2:(Zk p)=false:=by
   unfold Zk
   rw [h0,Bool.true_and,this,Bool.false_and]
  exact e2.symm
 have h2:m_in p.1.length 1 5=true:=by grind
 have h3:=QP.1 h2
 have ha:p.2.2.1.length+1=p.2.1.length∧p.2.2.2.length+1=p.2.1.length:=by simp [h0,h2] at h;omega
 have val:(Zk p)=(p.1.all JF&&(p.2.2.1.all Q3&&p.2.2.2.all Q3)&&Jx p.1.length p.2.1):=by
  simp only [Zk,h0,h2,ha];simp
 have e3:w64 ((p.1.length:Int)-1)=p.1.length-1:=Qp (by omega) (by omega)
 have batch:(p.2.2.1.all Q3&&p.2.2.2.all Q3)=true→Jx p.1.length p.2.1=true→QfV (fun r'=>r'=YP (Zk p)) p ((0:Nat):Int):=by
  intro hq hs
  refine Zj p.1 (fun r k=>r.all JF=p.1.all JF→QfV (fun r'=>r'=YP (Zk p)) p k) ?_ ?_ rfl
  ·intro he
   refine QBW (fun r'=>r'=YP (Zk p)) p _ ⟨fun h=>by simp at h,fun _=>R_eq ?_⟩
   rw [val,hq,hs,← he];rfl
  ·intro k x r hk hlt hg ih he
   refine QBW (fun r'=>r'=YP (Zk p)) p _ ⟨fun _=>?_,fun h=>by simp at h;omega⟩
   rw [Int.toNat_natCast,hg,Qp (x:=(k:Int)+1) (by omega) (by omega)]
   rw [List.all_cons] at he
   refine ⟨⟨⟨by omega,hlt⟩,fun _=>⟨by omega,hlt⟩⟩,fun h=>R_eq ?_,fun h=>ih ?_⟩
   ·have:JF x=false:=by grind [JF]
    rw [this,Bool.false_and] at he
    rw [val,← he];rfl
   ·have:JF x=true:=by grind [JF]
    rw [this,Bool.true_and] at he
    exact he
 refine Zj p.2.1 (fun r k=>Jx p.1.length r=Jx p.1.length p.2.1→(∀ j:Nat,j+1<k→Q3 (gtd Qw p.2.2.1 j)=true∧Q3 (gtd Qw p.2.2.2 j)=true)→Qf9 (fun r'=>r'=YP (Zk p)) p k) ?_ ?_ rfl (fun j hj=>by omega)
 ·intro he hq
  refine Qv6 (fun r'=>r'=YP (Zk p)) p _ ⟨fun h=>by simp at h,fun _=>batch ?_ ?_⟩
  ·rw [(QfP Qw).2 (fun j hj=>(hq j (by omega)).1),(QfP Qw).2 (fun j hj=>(hq j (by omega)).2)];rfl
  ·rw [← he];rfl
 ·intro k x r hk hlt hg ih he hq
  have hmem:x∈p.2.1:=List.mem_of_mem_drop (i:=k) (by rw [hk];exact List.mem_cons_self)
  have hbx:x.2.1.length≤9223372036854775807:=(hb.1.2.1.2 x hmem).2.1.1
  have hlast:=Qwz hk hl_p_1
  rw [e1] at hlast
  rw [Jx] at he
  refine Qv6 (fun r'=>r'=YP (Zk p)) p _ ⟨fun _=>?_,fun h=>by simp at h;omega⟩
  rw [Int.toNat_natCast,hg,e1,hlast]
  refine ⟨⟨by omega,hlt⟩,fun h=>R_eq ?_,fun h=>?_⟩
  ·have:(QS x&&(x.2.2.2.1==decide (r.length=0)))=false:=by grind
   rw [this,Bool.false_and,Bool.false_and] at he
   rw [val,← he,Bool.and_false]
  ·have:(QS x&&(x.2.2.2.1==decide (r.length=0)))=true:=by grind
   rw [this,Bool.true_and] at he
   have rest:x.2.1.all (fun y=>m_in y.2 0 (p.1.length-1))=true→((((decide ((k:Int)>0))=true→((0≤w64 ((k:Int)-1)∧Int.toNat (w64 ((k:Int)-1))<p.2.2.1.length)∧((!(!(Q3 (gtd Qw p.2.2.1 (Int.toNat (w64 ((k:Int)-1)))))))=true→(0≤w64 ((k:Int)-1)∧Int.toNat (w64 ((k:Int)-1))<p.2.2.2.length))))∧((((decide ((k:Int)>0))&&((!(Q3 (gtd Qw p.2.2.1 (Int.toNat (w64 ((k:Int)-1))))))||(!(Q3 (gtd Qw p.2.2.2 (Int.toNat (w64 ((k:Int)-1))))))))=true→YP false=YP (Zk p))∧(((decide ((k:Int)>0))&&((!(Q3 (gtd Qw p.2.2.1 (Int.toNat (w64 ((k:Int)-1))))))||(!(Q3 (gtd Qw p.2.2.2 (Int.toNat (w64 ((k:Int)-1))))))))=false→Qf9 (fun r'=>r'=YP (Zk p)) p (w64 ((k:Int)+1)))))):=by
    intro hx
    rw [hx,Bool.true_and] at he
    rw [Qp (x:=(k:Int)+1) (by omega) (by omega)]
    rcases Nat.eq_zero_or_pos k with k0 | k0
    ·subst k0
     exact ⟨fun h=>by simp at h,fun h=>by simp at h,fun _=>ih he (fun j hj=>by omega)⟩
    ·have e2:=Qby k0 (by omega:k≤9223372036854775807)
     rw [e2.1]
     refine ⟨fun _=>⟨⟨e2.2,by omega⟩,fun _=>⟨e2.2,by omega⟩⟩,fun h=>R_eq ?_,fun h=>ih he (fun j hj=>?_)⟩
     ·have hqs:(p.2.2.1.all Q3&&p.2.2.2.all Q3)=false:=by
       cases hc:(p.2.2.1.all Q3&&p.2.2.2.all Q3) with
       | false=>rfl
       | true =>
        simp only [Bool.and_eq_true] at hc
        have a1:=(QfP Qw).1 hc.1 (k-1) (by omega)
        have a2:=(QfP Qw).1 hc.2 (k-1) (by omega)
        rw [a1,a2] at h
        simp at h
      rw [val,hqs];simp
     ·by_cases hjk:j+1<k
      ·exact hq j hjk
      ·rw [show j=k-1 by omega]
       have hpos:decide ((k:Int)>0)=true:=by simp;omega
       rw [hpos] at h
       grind
   refine QbR (l:=x.2.1) (Q:=fun b=>selP b _ (YP false=YP (Zk p))) (p:=fun y=>m_in y.2 0 (p.1.length-1)) (c:=fun y=>!(m_in y.2 0 (p.1.length-1))) (e:=true) dIns hbx (fun y=>rfl) (fun i h=>QUW (fun r'=>r'=YP (Zk p)) p i k (by rw [Int.toNat_natCast,hg,e3];exact h)) ?_
   cases hx:x.2.1.all (fun y=>m_in y.2 0 (p.1.length-1)) with
   | false =>
    rw [hx,Bool.false_and] at he
    exact R_eq (by rw [val,← he,Bool.and_false])
   | true=>exact rest hx
theorem QMk:Ql Tryz.prog QlW:=Qn fun x _=>QNX x.1
def Yu (t:Bool):TRes:=zre (zcb t)
def QoV:TRow:=Qk 58 [(.a QE)] fun x=>(none,Yu (Zk x.1))
def QaV:List TRow:=[Qbh,QeU,QeF]
def Qxg:TCode :=
 (zsq [(.reg [zbi 50 .lss 49 48]),(.cond 50 .skip (.exit 0)),(.block 1 (zsq [(.reg [zia 51 47 49 QK,zLd 52 51 2,zop 5 (.new 108 (z0s QK)),zst 5 52 2]),(.reg [zfa 53 5 0,zld 54 53 1,zca 55 134 [54],zno 56 55,zmv 57 56,.grp 57 false [zfa 58 5 1,zld 59 58 1,zca 60 134 [59],zno 61 60] 62 61]),(.cond 62 (zsq [(.reg [zmv 2 (zkb false)]),.ret]) .skip)])),(.reg [zbi 63 .add 49 (zki 1),zmv 49 63])])
def Qx2:List (Nat × Md):=[(1,.b (zds 4)),(3,.one .d),(47,.one .d),(48,.one .d),(49,.one .d)]
def QCI:TCode :=
 (zsq [(.reg [zbi 68 .lss 67 66]),(.cond 68 .skip (.exit 2)),(.block 3 (zsq [(.reg [zmv 69 67,zmv 6 69]),(.reg [zfa 70 1 2,zld 71 70 1,zmv 72 6,zia 73 71 72 Qh,zLd 74 73 2,zca 75 135 [74],zno 76 75,zmv 77 76,.grp 77 false [zfa 78 1 3,zld 79 78 1,zmv 80 6,zia 81 79 80 Qh,zLd 82 81 2,zca 83 135 [82],zno 84 83] 85 84]),(.cond 85 (zsq [(.reg [zmv 2 (zkb false)]),.ret]) .skip)])),(.reg [zbi 86 .add 67 (zki 1),zmv 67 86])])
def QAe:List (Nat × Md):=[(1,.b (zds 4)),(3,.one .d),(66,.one .d),(67,.one .d)]
def QuZ:TCode :=
 (zsq [(.reg [zbi 111 .lss 110 109]),(.cond 111 .skip (.exit 6)),(.block 7 (zsq [(.reg [zia 112 108 110 QR,zLd 113 112 2,zop 10 (.new 111 (z0s QR)),zst 10 113 2]),(.reg [zfa 114 10 1,zld 115 114 1,zbi 116 .lss 115 (zki 0),zmv 117 116,.grp 117 false [zfa 118 10 1,zld 119 118 1,zfa 120 1 0,zld 121 120 1,zle 122 121,zbi 123 .geq 119 122] 124 123]),(.cond 124 (zsq [(.reg [zmv 2 (zkb false)]),.ret]) .skip)])),(.reg [zbi 125 .add 110 (zki 1),zmv 110 125])])
def QAX:List (Nat × Md):=[(1,.b (zds 4)),(3,.one .d),(88,.one .d),(89,.one .d),(90,.one .d),(108,.one .d),(109,.one .d),(110,.one .d)]
def Qy3:TCode :=
 (.reg [zbi 126 .add 90 (zki 1),zmv 90 126])
def Qmj:TCode :=
 (zsq [(.reg [zbi 91 .lss 90 89]),(.cond 91 .skip (.exit 4)),(.block 5 (zsq [(.reg [zmv 92 90,zia 93 88 90 Qg,zLd 94 93 14,zop 8 (.new 63 (z0s Qg)),zmv 7 92,zst 8 94 14]),(zsq [(.reg [zLd 95 8 14,zca 96 113 [95],zno 97 96,zmv 98 97,.grp 98 false [zfa 99 8 3,zld 100 99 1,zmv 101 7,zmv 102 3,zbi 103 .sub 102 (zki 1),zbi 104 .eql 101 103,zop 105 (.eqb true 100 104)] 106 105]),(.cond 106 (zsq [(.reg [zmv 2 (zkb false)]),.ret]) .skip)]),(.reg [zfa 107 8 1,zld 108 107 1,zle 109 108,zmv 110 (zki 0)]),(.block 6 (.loop QAX QuZ))])),Qy3])
def Qi0:List (Nat × Md):=[(1,.b (zds 4)),(3,.one .d),(88,.one .d),(89,.one .d),(90,.one .d)]
def Qzj:TCode :=
 (zsq [(.reg [zmv 2 (zkb true)]),.ret])
def QwB:TCode :=
 (zsq [(zsq [(.reg [zfa 87 1 1,zld 88 87 1,zle 89 88,zmv 90 (zki 0)]),(.block 4 (.loop Qi0 Qmj))]),Qzj])
def Qsq:TCode :=
 (zsq [(zsq [(.reg [zfa 64 1 2,zld 65 64 1,zle 66 65,zmv 67 (zki 0)]),(.block 2 (.loop QAe QCI))]),QwB])
def QVl:TCode :=
 (zsq [(.reg [zop 1 (.box 37 0 4),zmv 2 (zkb false)]),(.reg [zfa 11 1 1,zld 12 11 1,zle 13 12,zmv 3 13]),(zsq [(.reg [zmv 14 3,zbi 15 .lss 14 (zki 1),zmv 16 15,.grp 16 false [zmv 17 3,zbi 18 .gtr 17 (zki 4)] 19 18,zmv 20 19,.grp 20 false [zfa 21 1 2,zld 22 21 1,zle 23 22,zmv 24 3,zbi 25 .sub 24 (zki 1),zbi 26 .neq 23 25] 27 26,zmv 28 27,.grp 28 false [zfa 29 1 3,zld 30 29 1,zle 31 30,zmv 32 3,zbi 33 .sub 32 (zki 1),zbi 34 .neq 31 33] 35 34]),(.cond 35 (zsq [(.reg [zmv 2 (zkb false)]),.ret]) .skip)]),(zsq [(.reg [zfa 36 1 0,zld 37 36 1,zle 38 37,zbi 39 .lss 38 (zki 1),zmv 40 39,.grp 40 false [zfa 41 1 0,zld 42 41 1,zle 43 42,zbi 44 .gtr 43 (zki 5)] 45 44]),(.cond 45 (zsq [(.reg [zmv 2 (zkb false)]),.ret]) .skip)]),(zsq [(.reg [zfa 46 1 0,zld 47 46 1,zle 48 47,zmv 49 (zki 0)]),(.block 0 (.loop Qx2 Qxg))]),Qsq])
def Qyj:List (ARv × Md):=[(.t 2,.one .d)]
def Qel:Qb:=TQ 0 0 Qyj K
def QKI:Qb:=Qseq (tawp QaV 0 Qzj (Qel K)) (Qel K)
def Qmm:Qb:=Qblk 4 (QKI K)
def QtU:Qb:=Qseq (fun s'=>Loop QaV 0 Qi0 Qmj (Qmm K) (gc 0 Qi0 s')) (Qmm K)
def QXs:Qb:=Qseq (tawp QaV 0 Qy3 (QtU K)) (QtU K)
def QSA:Qb:=Qblk 5 (QXs K)
def QMU:Qb:=Qblk 6 (QSA K)
def QpO (p:Qe) (x2:Int) (x3:Int):Prop:=Loop QaV 0 QAX QuZ (QMU K) ⟨[(1,(.p 0 0 0)),(3,(zci ((p.2.1).length:Int))),(88,(zcs Qg p.2.1)),(89,(zci ((p.2.1).length:Int))),(90,(zci x3)),(108,(zcs QR ((gtd QH p.2.1 (Int.toNat x3)).2.1))),(109,(zci (((gtd QH p.2.1 (Int.toNat x3)).2.1).length:Int))),(110,(zci x2))],[(0,(.box (Tup.cells QE p)))],1⟩
def QeT (p:Qe) (x3:Int):Prop:=Loop QaV 0 Qi0 Qmj (Qmm K) ⟨[(1,(.p 0 0 0)),(3,(zci ((p.2.1).length:Int))),(88,(zcs Qg p.2.1)),(89,(zci ((p.2.1).length:Int))),(90,(zci x3))],[(0,(.box (Tup.cells QE p)))],1⟩
def QV2:Qb:=Qseq (tawp QaV 0 QwB (Qel K)) (Qel K)
def QWv:Qb:=Qblk 2 (QV2 K)
def Qdz (p:Qe) (x1:Int):Prop:=Loop QaV 0 QAe QCI (QWv K) ⟨[(1,(.p 0 0 0)),(3,(zci ((p.2.1).length:Int))),(66,(zci ((p.2.2.1).length:Int))),(67,(zci x1))],[(0,(.box (Tup.cells QE p)))],1⟩
def QFl:Qb:=Qseq (tawp QaV 0 Qsq (Qel K)) (Qel K)
def QMO:Qb:=Qblk 0 (QFl K)
def QpB (p:Qe) (x:Int):Prop:=Loop QaV 0 Qx2 Qxg (QMO K) ⟨[(1,(.p 0 0 0)),(3,(zci ((p.2.1).length:Int))),(47,(zcs QK p.1)),(48,(zci ((p.1).length:Int))),(49,(zci x))],[(0,(.box (Tup.cells QE p)))],1⟩
theorem QOA (p:Qe) (x2:Int) (x3:Int) (h :
 (zif (decide (x2<(((gtd QH p.2.1 (Int.toNat x3)).2.1).length:Int))) (((0:Int)≤x2∧Int.toNat x2<((gtd QH p.2.1 (Int.toNat x3)).2.1).length)∧(zif ((decide (((gtd dIns ((gtd QH p.2.1 (Int.toNat x3)).2.1) (Int.toNat x2)).2)<(0:Int)))||(decide (((gtd dIns ((gtd QH p.2.1 (Int.toNat x3)).2.1) (Int.toNat x2)).2)≥((p.1).length:Int)))) (K (Yu false)) (QpO K p (w64 (x2+(1:Int))) x3))) (QeT K p (w64 (x3+(1:Int)))))):QpO K p x2 x3 :=
 Loop.of (by kernel_rfl) h
theorem QrR (p:Qe) (x3:Int) (h :
 (zif (decide (x3<((p.2.1).length:Int))) (((0:Int)≤x3∧Int.toNat x3<(p.2.1).length)∧(zif ((!(QS (gtd QH p.2.1 (Int.toNat x3))))||(!(((gtd QH p.2.1 (Int.toNat x3)).2.2.2.1)==(x3==(w64 (((p.2.1).length:Int)-(1:Int))))))) (K (Yu false)) (QpO K p 0 x3))) (K (Yu true)))):QeT K p x3 :=
 Loop.of (by kernel_rfl) h
theorem QvM (p:Qe) (x1:Int) (h :
 (zif (decide (x1<((p.2.2.1).length:Int))) ((((0:Int)≤x1∧Int.toNat x1<(p.2.2.1).length)∧((!(!(Q3 (gtd Qw p.2.2.1 (Int.toNat x1)))))=true→((0:Int)≤x1∧Int.toNat x1<(p.2.2.2).length)))∧(zif ((!(Q3 (gtd Qw p.2.2.1 (Int.toNat x1))))||(!(Q3 (gtd Qw p.2.2.2 (Int.toNat x1))))) (K (Yu false)) (Qdz K p (w64 (x1+(1:Int)))))) (QeT K p 0))):Qdz K p x1 :=
 Loop.of (by kernel_rfl) h
theorem QRR (p:Qe) (x:Int) (h :
 (zif (decide (x<((p.1).length:Int))) (((0:Int)≤x∧Int.toNat x<(p.1).length)∧(zif ((!(QJ ((gtd QX p.1 (Int.toNat x)).1)))||(!(QJ ((gtd QX p.1 (Int.toNat x)).2)))) (K (Yu false)) (QpB K p (w64 (x+(1:Int)))))) (Qdz K p 0))):QpB K p x :=
 Loop.of (by kernel_rfl) h
theorem QVi (p:Qe) (h :
 (zif ((((decide (((p.2.1).length:Int)<(1:Int)))||(decide (((p.2.1).length:Int)>(4:Int))))||(((p.2.2.1).length:Int) != (w64 (((p.2.1).length:Int)-(1:Int)))))||(((p.2.2.2).length:Int) != (w64 (((p.2.1).length:Int)-(1:Int))))) (K (Yu false)) (zif ((decide (((p.1).length:Int)<(1:Int)))||(decide (((p.1).length:Int)>(5:Int)))) (K (Yu false)) (QpB K p 0)))):Hold (tawp QaV (0+0) QVl (TQ 0 0 Qyj K) (Qi [(.a (Tup.cells QE p))])) :=
 Hold.of (by kernel_rfl) h
theorem QJs (p:Qe):TCon Tryz.prog 58 [(.a (Tup.cells QE p))] (Yu (Zk p)):=by
 refine Qo rfl fun hb=>tcg (n:=127) (sg:=QoV.sg) Qm (TOk.cons Qds (TOk.cons Qml (TOk.cons QjR TOk.nil))) (by kernel_rfl) (by kernel_rfl) (QVi _ p ?_)
 have hl_p_0:(p.1).length≤9223372036854775807:=hb.1.1.1
 have hl_p_1:(p.2.1).length≤9223372036854775807:=hb.1.2.1.1
 have hl_p_2:(p.2.2.1).length≤9223372036854775807:=hb.1.2.2.1.1
 have hl_p_3:(p.2.2.2).length≤9223372036854775807:=hb.1.2.2.2.1.1
 refine ⟨fun h=>R_eq ?_,fun h=>?_⟩
 ·have:(m_in p.2.1.length 1 4&&(p.2.2.1.length+1==p.2.1.length)&&(p.2.2.2.length+1==p.2.1.length))=false:=by
   by_cases h0:m_in p.2.1.length 1 4=true
   ·have h1:=QP.1 h0
    rw [Qp (x:=(p.2.1.length:Int)-1) (by omega) (by omega)] at h
    simp at h
    simp [h0]
    omega
   ·simp at h0;simp [h0]
  simp [Zk,this]
 have h0:m_in p.2.1.length 1 4=true:=by simp at h;simp [m_in];omega
 have h1:=QP.1 h0
 have e1:w64 ((p.2.1.length:Int)-1)=p.2.1.length-1:=Qp (by omega) (by omega)
 rw [e1] at h
 have ha:p.2.2.1.length+1=p.2.1.length∧p.2.2.2.length+1=p.2.1.length:=by simp at h;omega
 refine ⟨fun h=>R_eq ?_,fun h=>?_⟩
 ·have:m_in p.1.length 1 5=false:=by simp at h;simp [m_in];omega
  simp [Zk,this]
 have h2:m_in p.1.length 1 5=true:=by simp at h;simp [m_in];omega
 have h3:=QP.1 h2
 have val:(Zk p)=(p.1.all JF&&(p.2.2.1.all Q3&&p.2.2.2.all Q3)&&Jx p.1.length p.2.1):=by
  simp only [Zk,h0,h2,ha];simp
 refine QbR (Q:=fun b=>selP b (Qdz (fun r'=>r'=Yu (Zk p)) p ((0:Nat):Int)) (Yu false=Yu (Zk p))) (p:=JF) (c:=fun x=>(!(QJ x.1))||!(QJ x.2)) (e:=true) QX hl_p_0 (fun x=>by grind [JF]) (fun i h=>QRR (fun r'=>r'=Yu (Zk p)) p i h) ?_
 cases hx1:p.1.all JF with
 | false=>exact R_eq (by rw [val,hx1];rfl)
 | true =>
  show Qdz (fun r'=>r'=Yu (Zk p)) p ((0:Nat):Int)
  have queues:∀ k:Nat,((p.2.2.1.drop k).all Q3&&(p.2.2.2.drop k).all Q3)=(p.2.2.1.all Q3&&p.2.2.2.all Q3)→k≤p.2.2.1.length→Qdz (fun r'=>r'=Yu (Zk p)) p k:=by
   intro k
   generalize hn:p.2.2.1.length-k=n
   induction n generalizing k with
   | zero =>
    intro he hle
    refine QvM (fun r'=>r'=Yu (Zk p)) p _ ⟨fun h=>by simp at h;omega,fun _=>?_⟩
    have hall:(p.2.2.1.all Q3&&p.2.2.2.all Q3)=true:=by
     rw [← he,List.drop_eq_nil_of_le (by omega),List.drop_eq_nil_of_le (by omega)];rfl
    refine Zj p.2.1 (fun r k=>Jx p.1.length r=Jx p.1.length p.2.1→QeT (fun r'=>r'=Yu (Zk p)) p k) ?_ ?_ rfl
    ·intro he2
     refine QrR (fun r'=>r'=Yu (Zk p)) p _ ⟨fun h=>by simp at h,fun _=>R_eq ?_⟩
     rw [val,hx1,hall,← he2];rfl
    ·intro k x r hk hlt hg ih he2
     have hmem:x∈p.2.1:=List.mem_of_mem_drop (i:=k) (by rw [hk];exact List.mem_cons_self)
     have hbx:x.2.1.length≤9223372036854775807:=(hb.1.2.1.2 x hmem).2.1.1
     have hlast:=Qwz hk hl_p_1
     rw [Jx] at he2
     refine QrR (fun r'=>r'=Yu (Zk p)) p _ ⟨fun _=>?_,fun h=>by simp at h;omega⟩
     rw [Int.toNat_natCast,hg,hlast]
     refine ⟨⟨by omega,hlt⟩,fun h=>R_eq ?_,fun h=>?_⟩
     ·have:(QS x&&(x.2.2.2.1==decide (r.length=0)))=false:=by grind
      rw [this,Bool.false_and,Bool.false_and] at he2
      rw [val,← he2,Bool.and_false]
     ·have:(QS x&&(x.2.2.2.1==decide (r.length=0)))=true:=by grind
      rw [this,Bool.true_and] at he2
      refine QbR (l:=x.2.1) (Q:=fun b=>selP b (QeT (fun r'=>r'=Yu (Zk p)) p ((k+1:Nat):Int)) (Yu false=Yu (Zk p))) (p:=fun y=>m_in y.2 0 (p.1.length-1)) (c:=fun y=>decide (y.2<0)||decide (y.2≥(p.1.length:Int))) (e:=true) dIns hbx (fun y=>by grind [m_in]) (fun i h=>QOA (fun r'=>r'=Yu (Zk p)) p i k (by rw [Int.toNat_natCast,hg,Qp (x:=(k:Int)+1) (by omega) (by omega)];exact h)) ?_
      cases hx:x.2.1.all (fun y=>m_in y.2 0 (p.1.length-1)) with
      | false =>
       rw [hx,Bool.false_and] at he2
       exact R_eq (by rw [val,← he2,Bool.and_false])
      | true =>
       rw [hx,Bool.true_and] at he2
       exact ih he2
   | succ n ihn =>
    intro he hle
    obtain ⟨y,q,hq⟩:∃ y q,p.2.2.1.drop k=y::q:=by
     cases hq:p.2.2.1.drop k with
     | nil=>have:=congrArg List.length hq;simp at this;omega
     | cons y q=>exact ⟨y,q,rfl⟩
    obtain ⟨z,t,hz⟩:∃ z t,p.2.2.2.drop k=z::t:=by
     cases hz:p.2.2.2.drop k with
     | nil=>have:=congrArg List.length hz;simp at this;omega
     | cons z t=>exact ⟨z,t,rfl⟩
    have hlt:=Qfh hq
    refine QvM (fun r'=>r'=Yu (Zk p)) p _ ⟨fun _=>?_,fun h=>by simp at h;omega⟩
    rw [Int.toNat_natCast,Yb hq,Yb hz,Qp (x:=(k:Int)+1) (by omega) (by omega)]
    have ih2:=ihn (k+1) (by omega)
    rw [ZX hq,ZX hz] at ih2
    rw [hq,hz,List.all_cons,List.all_cons] at he
    refine ⟨⟨⟨by omega,hlt⟩,fun _=>⟨by omega,by omega⟩⟩,fun h=>R_eq ?_,fun h=>ih2 ?_ (by omega)⟩
    ·rw [val,← he];grind
    ·rw [← he];grind
  exact queues 0 rfl (Nat.zero_le _)
theorem QRD:Ql Tryz.prog QoV:=Qn fun x _=>QJs x.1
end
end Go.Proofs.YtjbdljkhbglnhaaGreat.Am

