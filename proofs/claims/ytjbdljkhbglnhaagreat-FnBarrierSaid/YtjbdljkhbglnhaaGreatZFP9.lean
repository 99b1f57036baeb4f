/- -/
import Derived.Test.YtjbdljkhbglnhaaGreatZFP1
import Derived.Test.YtjbdljkhbglnhaaGreatZFP8
import Derived.Test.YtjbdljkhbglnhaaGreatZFP2
namespace Go.Proofs.YtjbdljkhbglnhaaGreat.Am
open Go Go.RowKit Go.Proofs.YtjbdljkhbglnhaaGreat
set_option linter.all false
noncomputable section
variable (K:TRes→Prop)
def YU (t:Bool):TRes:=zre (zcb t)
def QmR:TRow:=Qh 38 [(.a QE)] fun x=>(none,YU (Zp x.1))
def Qbx:List TRow:=[YR,QeK,Qfy,Jd]
def Qzi:TCode :=
 (zsq [(zsq [(.reg [zmv 59 6,zfa 60 5 1,zld 61 60 1,zle 62 61,zbi 63 .lss 59 62]),(.cond 63 .skip (.exit 2))]),(.block 3 (zsq [(.draw [zfa 66 5 1,zld 67 66 1,zmv 68 6,zia 69 67 68 Qr,zfa 70 69 1,zld 71 70 1,zfa 72 1 0,zld 73 72 1,zle 74 73,zbi 75 .sub 74 (zki 1),zca 76 77 [71,(zki 0),75],zno 77 76] []),(.cond 77 (zsq [(.reg [zmv 2 (zkb false)]),.ret]) .skip)])),(.reg [zmv 64 6,zbi 65 .add 64 (zki 1),zmv 6 65])])
def Qwc:List (Nat × Md):=[(1,.b (zds 4)),(3,.one .d),(4,.one .d),(5,.b (zds 14)),(6,.one .d)]
def QEm:TCode :=
 (zsq [(.reg [zmv 78 4,zbi 79 .gtr 78 (zki 0),zmv 80 79,.grp 80 true [zfa 81 1 2,zld 82 81 1,zmv 83 4,zbi 84 .sub 83 (zki 1),zia 85 82 84 Qm,zLd 86 85 2,zca 87 103 [86],zno 88 87,zmv 89 88,.grp 89 false [zfa 90 1 3,zld 91 90 1,zmv 92 4,zbi 93 .sub 92 (zki 1),zia 94 91 93 Qm,zLd 95 94 2,zca 96 103 [95],zno 97 96] 98 97] 99 98]),(.cond 99 (zsq [(.reg [zmv 2 (zkb false)]),.ret]) .skip)])
def Qx3:TCode :=
 (.reg [zmv 40 4,zbi 41 .add 40 (zki 1),zmv 4 41])
def Qnd:TCode :=
 (zsq [(zsq [(.reg [zmv 37 4,zmv 38 3,zbi 39 .lss 37 38]),(.cond 39 .skip (.exit 0))]),(.block 1 (zsq [(.reg [zfa 42 1 1,zld 43 42 1,zmv 44 4,zia 45 43 44 Qi,zLd 46 45 14,zop 5 (.new 63 (z0s Qi)),zst 5 46 14]),(zsq [(.reg [zLd 47 5 14,zca 48 41 [47],zno 49 48,zmv 50 49,.grp 50 false [zfa 51 5 3,zld 52 51 1,zmv 53 4,zmv 54 3,zbi 55 .sub 54 (zki 1),zbi 56 .eql 53 55,zop 57 (.eqb true 52 56)] 58 57]),(.cond 58 (zsq [(.reg [zmv 2 (zkb false)]),.ret]) .skip)]),(zsq [(.reg [zmv 6 (zki 0)]),(.block 2 (.loop Qwc Qzi))]),QEm])),Qx3])
def Qk4:List (Nat × Md):=[(1,.b (zds 4)),(3,.one .d),(4,.one .d)]
def QtR:TCode :=
 (zsq [(zsq [(.reg [zmv 100 7,zfa 101 1 0,zld 102 101 1,zle 103 102,zbi 104 .lss 100 103]),(.cond 104 .skip (.exit 4))]),(.block 5 (zsq [(.reg [zfa 107 1 0,zld 108 107 1,zmv 109 7,zia 110 108 109 Qx,zfa 111 110 0,zld 112 111 1,zca 113 42 [112],zno 114 113,zmv 115 114,.grp 115 false [zfa 116 1 0,zld 117 116 1,zmv 118 7,zia 119 117 118 Qx,zfa 120 119 1,zld 121 120 1,zca 122 42 [121],zno 123 122] 124 123]),(.cond 124 (zsq [(.reg [zmv 2 (zkb false)]),.ret]) .skip)])),(.reg [zmv 105 7,zbi 106 .add 105 (zki 1),zmv 7 106])])
def QDL:List (Nat × Md):=[(1,.b (zds 4)),(7,.one .d)]
def QwY:TCode :=
 (zsq [(.reg [zmv 2 (zkb true)]),.ret])
def QyR:TCode :=
 (zsq [(zsq [(.reg [zmv 7 (zki 0)]),(.block 4 (.loop QDL QtR))]),QwY])
def QOF:TCode :=
 (zsq [(.reg [zop 1 (.box 37 0 4),zmv 2 (zkb false)]),(.reg [zfa 8 1 1,zld 9 8 1,zle 10 9,zmv 3 10]),(zsq [(.reg [zmv 11 3,zca 12 77 [11,(zki 1),(zki 4)],zno 13 12,zmv 14 13,.grp 14 false [zfa 15 1 2,zld 16 15 1,zle 17 16,zmv 18 3,zbi 19 .sub 18 (zki 1),zbi 20 .neq 17 19] 21 20,zmv 22 21,.grp 22 false [zfa 23 1 3,zld 24 23 1,zle 25 24,zmv 26 3,zbi 27 .sub 26 (zki 1),zbi 28 .neq 25 27] 29 28,zmv 30 29,.grp 30 false [zfa 31 1 0,zld 32 31 1,zle 33 32,zca 34 77 [33,(zki 1),(zki 5)],zno 35 34] 36 35]),(.cond 36 (zsq [(.reg [zmv 2 (zkb false)]),.ret]) .skip)]),(zsq [(.reg [zmv 4 (zki 0)]),(.block 0 (.loop Qk4 Qnd))]),QyR])
def QAN:List (ARv × Md):=[(.t 2,.one .d)]
def Qjt:Qb:=TQ 0 0 QAN K
def QIq:Qb:=Qseq (tawp Qbx 0 QyR (Qjt K)) (Qjt K)
def QmO:Qb:=Qblk 0 (QIq K)
def QFQ:Qb:=Qseq (fun s'=>Loop Qbx 0 Qk4 Qnd (QmO K) (gc 0 Qk4 s')) (QmO K)
def QKl:Qb:=Qseq (tawp Qbx 0 Qx3 (QFQ K)) (QFQ K)
def Qyw:Qb:=Qblk 1 (QKl K)
def QOO:Qb:=Qseq (tawp Qbx 0 QEm (Qyw K)) (Qyw K)
def QZl:Qb:=Qblk 2 (QOO K)
def Qrn (p:Qe) (i:Int) (s:Int):Prop:=Loop Qbx 0 Qwc Qzi (QZl K) ⟨[(1,(.p 0 0 0)),(3,(zci ((p.2.1).length:Int))),(4,(zci s)),(5,(.p 1 0 0)),(6,(zci i))],[(0,(.box (Tup.cells QE p))),(1,(.box (Tup.cells Qi (gtd QM p.2.1 (Int.toNat s)))))],2⟩
def QUp:Qb:=Qseq (tawp Qbx 0 QwY (Qjt K)) (Qjt K)
def QQZ:Qb:=Qblk 4 (QUp K)
def Qfn (p:Qe) (i1:Int):Prop:=Loop Qbx 0 QDL QtR (QQZ K) ⟨[(1,(.p 0 0 0)),(7,(zci i1))],[(0,(.box (Tup.cells QE p)))],1⟩
def QfR (p:Qe) (s:Int):Prop:=Loop Qbx 0 Qk4 Qnd (QmO K) ⟨[(1,(.p 0 0 0)),(3,(zci ((p.2.1).length:Int))),(4,(zci s))],[(0,(.box (Tup.cells QE p)))],1⟩
theorem QYD (p:Qe) (i:Int) (s:Int) (h :
 (zif (decide (i<(((gtd QM p.2.1 (Int.toNat s)).2.1).length:Int))) (((0:Int)≤i∧Int.toNat i<((gtd QM p.2.1 (Int.toNat s)).2.1).length)∧(zif (!(m_in ((gtd dIns ((gtd QM p.2.1 (Int.toNat s)).2.1) (Int.toNat i)).2) (0:Int) (w64 (((p.1).length:Int)-(1:Int))))) (K (YU false)) (Qrn K p (w64 (i+(1:Int))) s))) (((decide (s>(0:Int)))=true→(((0:Int)≤w64 (s-(1:Int))∧Int.toNat (w64 (s-(1:Int)))<(p.2.2.1).length)∧((!(!(Q4 (gtd Qw p.2.2.1 (Int.toNat (w64 (s-(1:Int))))))))=true→((0:Int)≤w64 (s-(1:Int))∧Int.toNat (w64 (s-(1:Int)))<(p.2.2.2).length))))∧(zif ((decide (s>(0:Int)))&&((!(Q4 (gtd Qw p.2.2.1 (Int.toNat (w64 (s-(1:Int)))))))||(!(Q4 (gtd Qw p.2.2.2 (Int.toNat (w64 (s-(1:Int))))))))) (K (YU false)) (QfR K p (w64 (s+(1:Int)))))))):Qrn K p i s :=
 Loop.of (by kernel_rfl) h
theorem Qzb (p:Qe) (i1:Int) (h :
 (zif (decide (i1<((p.1).length:Int))) ((((0:Int)≤i1∧Int.toNat i1<(p.1).length)∧((!(!(QN ((gtd QY p.1 (Int.toNat i1)).1))))=true→((0:Int)≤i1∧Int.toNat i1<(p.1).length)))∧(zif ((!(QN ((gtd QY p.1 (Int.toNat i1)).1)))||(!(QN ((gtd QY p.1 (Int.toNat i1)).2)))) (K (YU false)) (Qfn K p (w64 (i1+(1:Int)))))) (K (YU true)))):Qfn K p i1 :=
 Loop.of (by kernel_rfl) h
theorem QFB (p:Qe) (s:Int) (h :
 (zif (decide (s<((p.2.1).length:Int))) (((0:Int)≤s∧Int.toNat s<(p.2.1).length)∧(zif ((!(QU (gtd QM p.2.1 (Int.toNat s))))||(!(((gtd QM p.2.1 (Int.toNat s)).2.2.2.1)==(s==(w64 (((p.2.1).length:Int)-(1:Int))))))) (K (YU false)) (Qrn K p 0 s))) (Qfn K p 0))):QfR K p s :=
 Loop.of (by kernel_rfl) h
theorem QZG (p:Qe) (h :
 (zif ((((!(m_in ((p.2.1).length:Int) (1:Int) (4:Int)))||(((p.2.2.1).length:Int) != (w64 (((p.2.1).length:Int)-(1:Int)))))||(((p.2.2.2).length:Int) != (w64 (((p.2.1).length:Int)-(1:Int)))))||(!(m_in ((p.1).length:Int) (1:Int) (5:Int)))) (K (YU false)) (QfR K p 0))):Hold (tawp Qbx (0+0) QOF (TQ 0 0 QAN K) (Qf [(.a (Tup.cells QE p))])) :=
 Hold.of (by kernel_rfl) h
theorem Q1m (p:Qe):TCon Tryz.prog 38 [(.a (Tup.cells QE p))] (YU (Zp p)):=by
 refine Qo rfl fun hb=>tcg (n:=125) (sg:=QmR.sg) Qj (TOk.cons Y9 (TOk.cons QjU (TOk.cons QoF (TOk.cons Jw TOk.nil)))) (by kernel_rfl) (by kernel_rfl) (QZG _ p ?_)
 have hl_p_0:(p.1).length≤9223372036854775807:=hb.1.1.1
 have hl_p_1:(p.2.1).length≤9223372036854775807:=hb.1.2.1.1
 have hl_p_2:(p.2.2.1).length≤9223372036854775807:=hb.1.2.2.1.1
 have hl_p_3:(p.2.2.2).length≤9223372036854775807:=hb.1.2.2.2.1.1
 by_cases h0:m_in p.2.1.length 1 4=true
 rotate_left
 ·exact ⟨fun h=>R_eq (by simp [Zp,h0]),fun h=>by simp [h0] at h⟩
 have h1:=QV.1 h0
 have e1:w64 ((p.2.1.length:Int)-1)=p.2.1.length-1:=Qq (by omega) (by omega)
 rw [e1]
 refine ⟨fun h=>R_eq ?_,fun h=>?_⟩
 ·have:((p.2.2.1.length+1==p.2.1.length)&&(p.2.2.2.length+1==p.2.1.length)&&m_in p.1.length 1 5)=false:=by
   cases hx:m_in p.1.length 1 5 with
   | false=>simp
   | true=>simp [h0,hx] at h;simp;omega
  have e2:(Zp p)=false:=by
   unfold Zp
   rw [h0,Bool.true_and,this,Bool.false_and]
  exact e2.symm
 have h2:m_in p.1.length 1 5=true:=by grind
 have h3:=QV.1 h2
 have ha:p.2.2.1.length+1=p.2.1.length∧p.2.2.2.length+1=p.2.1.length:=by simp [h0,h2] at h;omega
 have val:(Zp p)=(p.1.all JV&&(p.2.2.1.all Q4&&p.2.2.2.all Q4)&&JI p.1.length p.2.1):=by
  simp only [Zp,h0,h2,ha];simp
 have e3:w64 ((p.1.length:Int)-1)=p.1.length-1:=Qq (by omega) (by omega)
 have batch:(p.2.2.1.all Q4&&p.2.2.2.all Q4)=true→JI p.1.length p.2.1=true→Qfn (fun r'=>r'=YU (Zp p)) p ((0:Nat):Int):=by
  intro hq hs
  refine Zk p.1 (fun r k=>r.all JV=p.1.all JV→Qfn (fun r'=>r'=YU (Zp p)) p k) ?_ ?_ rfl
  ·intro he
   refine Qzb (fun r'=>r'=YU (Zp p)) p _ ⟨fun h=>by simp at h,fun _=>R_eq ?_⟩
   rw [val,hq,hs,← he];rfl
  ·intro k x r hk hlt hg ih he
   refine Qzb (fun r'=>r'=YU (Zp p)) p _ ⟨fun _=>?_,fun h=>by simp at h;omega⟩
   rw [Int.toNat_natCast,hg,Qq (x:=(k:Int)+1) (by omega) (by omega)]
   rw [List.all_cons] at he
   refine ⟨⟨⟨by omega,hlt⟩,fun _=>⟨by omega,hlt⟩⟩,fun h=>R_eq ?_,fun h=>ih ?_⟩
   ·have:JV x=false:=by grind [JV]
    rw [this,Bool.false_and] at he
    rw [val,← he];rfl
   ·have:JV x=true:=by grind [JV]
    rw [this,Bool.true_and] at he
    exact he
 refine Zk p.2.1 (fun r k=>JI p.1.length r=JI p.1.length p.2.1→(∀ j:Nat,j+1<k→Q4 (gtd Qw p.2.2.1 j)=true∧Q4 (gtd Qw p.2.2.2 j)=true)→QfR (fun r'=>r'=YU (Zp p)) p k) ?_ ?_ rfl (fun j hj=>by omega)
 ·intro he hq
  refine QFB (fun r'=>r'=YU (Zp p)) p _ ⟨fun h=>by simp at h,fun _=>batch ?_ ?_⟩
  ·rw [(Qf4 Qw).2 (fun j hj=>(hq j (by omega)).1),(Qf4 Qw).2 (fun j hj=>(hq j (by omega)).2)];rfl
  ·rw [← he];rfl
 ·intro k x r hk hlt hg ih he hq
  have hmem:x∈p.2.1:=List.mem_of_mem_drop (i:=k) (by rw [hk];exact List.mem_cons_self)
  have hbx:x.2.1.length≤9223372036854775807:=(hb.1.2.1.2 x hmem).2.1.1
  have hlast:=QwR hk hl_p_1
  rw [e1] at hlast
  rw [JI] at he
  refine QFB (fun r'=>r'=YU (Zp p)) p _ ⟨fun _=>?_,fun h=>by simp at h;omega⟩
  rw [Int.toNat_natCast,hg,e1,hlast]
  refine ⟨⟨by omega,hlt⟩,fun h=>R_eq ?_,fun h=>?_⟩
  ·have:(QU x&&(x.2.2.2.1==decide (r.length=0)))=false:=by grind
   rw [this,Bool.false_and,Bool.false_and] at he
   rw [val,← he,Bool.and_false]
  ·have:(QU x&&(x.2.2.2.1==decide (r.length=0)))=true:=by grind
   rw [this,Bool.true_and] at he
   have rest:x.2.1.all (fun y=>m_in y.2 0 (p.1.length-1))=true→((((decide ((k:Int)>0))=true→((0≤w64 ((k:Int)-1)∧Int.toNat (w64 ((k:Int)-1))<p.2.2.1.length)∧((!(!(Q4 (gtd Qw p.2.2.1 (Int.toNat (w64 ((k:Int)-1)))))))=true→(0≤w64 ((k:Int)-1)∧Int.toNat (w64 ((k:Int)-1))<p.2.2.2.length))))∧((((decide ((k:Int)>0))&&((!(Q4 (gtd Qw p.2.2.1 (Int.toNat (w64 ((k:Int)-1))))))||(!(Q4 (gtd Qw p.2.2.2 (Int.toNat (w64 ((k:Int)-1))))))))=true→YU false=YU (Zp p))∧(((decide ((k:Int)>0))&&((!(Q4 (gtd Qw p.2.2.1 (Int.toNat (w64 ((k:Int)-1))))))||(!(Q4 (gtd Qw p.2.2.2 (Int.toNat (w64 ((k:Int)-1))))))))=false→QfR (fun r'=>r'=YU (Zp p)) p (w64 ((k:Int)+1)))))):=by
    intro hx
    rw [hx,Bool.true_and] at he
    rw [Qq (x:=(k:Int)+1) (by omega) (by omega)]
    rcases Nat.eq_zero_or_pos k with k0 | k0
    ·subst k0
     exact ⟨fun h=>by simp at h,fun h=>by simp at h,fun _=>ih he (fun j hj=>by omega)⟩
    ·have e2:=QaY k0 (by omega:k≤9223372036854775807)
     rw [e2.1]
     refine ⟨fun _=>⟨⟨e2.2,by omega⟩,fun _=>⟨e2.2,by omega⟩⟩,fun h=>R_eq ?_,fun h=>ih he (fun j hj=>?_)⟩
     ·have hqs:(p.2.2.1.all Q4&&p.2.2.2.all Q4)=false:=by
       cases hc:(p.2.2.1.all Q4&&p.2.2.2.all Q4) with
       | false=>rfl
       | true =>
        simp only [Bool.and_eq_true] at hc
        have a1:=(Qf4 Qw).1 hc.1 (k-1) (by omega)
        have a2:=(Qf4 Qw).1 hc.2 (k-1) (by omega)
        rw [a1,a2] at h
        simp at h
      rw [val,hqs];simp
     ·by_cases hjk:j+1<k
      ·exact hq j hjk
      ·rw [show j=k-1 by omega]
       have hpos:decide ((k:Int)>0)=true:=by simp;omega
       rw [hpos] at h
       grind
   refine Qba (l:=x.2.1) (Q:=fun b=>selP b _ (YU false=YU (Zp p))) (p:=fun y=>m_in y.2 0 (p.1.length-1)) (c:=fun y=>!(m_in y.2 0 (p.1.length-1))) (e:=true) dIns hbx (fun y=>rfl) (fun i h=>QYD (fun r'=>r'=YU (Zp p)) p i k (by rw [Int.toNat_natCast,hg,e3];exact h)) ?_
   cases hx:x.2.1.all (fun y=>m_in y.2 0 (p.1.length-1)) with
   | false =>
    rw [hx,Bool.false_and] at he
    exact R_eq (by rw [val,← he,Bool.and_false])
   | true=>exact rest hx
theorem QH6:Qg Tryz.prog QmR:=Qk fun x _=>Q1m x.1
def YF (t:Bool):TRes:=zre (zcb t)
def Qpv:TRow:=Qh 58 [(.a QE)] fun x=>(none,YF (Zp x.1))
def QaZ:List TRow:=[Qbi,Qgd,QdY]
def QE9:TCode :=
 (zsq [(.reg [zbi 50 .lss 49 48]),(.cond 50 .skip (.exit 0)),(.block 1 (zsq [(.reg [zia 51 47 49 Qx,zLd 52 51 2,zop 5 (.new 108 (z0s Qx)),zst 5 52 2]),(.reg [zfa 53 5 0,zld 54 53 1,zca 55 134 [54],zno 56 55,zmv 57 56,.grp 57 false [zfa 58 5 1,zld 59 58 1,zca 60 134 [59],zno 61 60] 62 61]),(.cond 62 (zsq [(.reg [zmv 2 (zkb false)]),.ret]) .skip)])),(.reg [zbi 63 .add 49 (zki 1),zmv 49 63])])
def Qxl:List (Nat × Md):=[(1,.b (zds 4)),(3,.one .d),(47,.one .d),(48,.one .d),(49,.one .d)]
def Qu0:TCode :=
 (zsq [(.reg [zbi 68 .lss 67 66]),(.cond 68 .skip (.exit 2)),(.block 3 (zsq [(.reg [zmv 69 67,zmv 6 69]),(.reg [zfa 70 1 2,zld 71 70 1,zmv 72 6,zia 73 71 72 Qm,zLd 74 73 2,zca 75 135 [74],zno 76 75,zmv 77 76,.grp 77 false [zfa 78 1 3,zld 79 78 1,zmv 80 6,zia 81 79 80 Qm,zLd 82 81 2,zca 83 135 [82],zno 84 83] 85 84]),(.cond 85 (zsq [(.reg [zmv 2 (zkb false)]),.ret]) .skip)])),(.reg [zbi 86 .add 67 (zki 1),zmv 67 86])])
def QDw:List (Nat × Md):=[(1,.b (zds 4)),(3,.one .d),(66,.one .d),(67,.one .d)]
def QBQ:TCode :=
 (zsq [(.reg [zbi 111 .lss 110 109]),(.cond 111 .skip (.exit 6)),(.block 7 (zsq [(.reg [zia 112 108 110 Qr,zLd 113 112 2,zop 10 (.new 111 (z0s Qr)),zst 10 113 2]),(.reg [zfa 114 10 1,zld 115 114 1,zbi 116 .lss 115 (zki 0),zmv 117 116,.grp 117 false [zfa 118 10 1,zld 119 118 1,zfa 120 1 0,zld 121 120 1,zle 122 121,zbi 123 .geq 119 122] 124 123]),(.cond 124 (zsq [(.reg [zmv 2 (zkb false)]),.ret]) .skip)])),(.reg [zbi 125 .add 110 (zki 1),zmv 110 125])])
def QB5:List (Nat × Md):=[(1,.b (zds 4)),(3,.one .d),(88,.one .d),(89,.one .d),(90,.one .d),(108,.one .d),(109,.one .d),(110,.one .d)]
def Qs3:TCode :=
 (.reg [zbi 126 .add 90 (zki 1),zmv 90 126])
def QpT:TCode :=
 (zsq [(.reg [zbi 91 .lss 90 89]),(.cond 91 .skip (.exit 4)),(.block 5 (zsq [(.reg [zmv 92 90,zia 93 88 90 Qi,zLd 94 93 14,zop 8 (.new 63 (z0s Qi)),zmv 7 92,zst 8 94 14]),(zsq [(.reg [zLd 95 8 14,zca 96 113 [95],zno 97 96,zmv 98 97,.grp 98 false [zfa 99 8 3,zld 100 99 1,zmv 101 7,zmv 102 3,zbi 103 .sub 102 (zki 1),zbi 104 .eql 101 103,zop 105 (.eqb true 100 104)] 106 105]),(.cond 106 (zsq [(.reg [zmv 2 (zkb false)]),.ret]) .skip)]),(.reg [zfa 107 8 1,zld 108 107 1,zle 109 108,zmv 110 (zki 0)]),(.block 6 (.loop QB5 QBQ))])),Qs3])
def Qi3:List (Nat × Md):=[(1,.b (zds 4)),(3,.one .d),(88,.one .d),(89,.one .d),(90,.one .d)]
def Quy:TCode :=
 (zsq [(.reg [zmv 2 (zkb true)]),.ret])
def QGD:TCode :=
 (zsq [(zsq [(.reg [zfa 87 1 1,zld 88 87 1,zle 89 88,zmv 90 (zki 0)]),(.block 4 (.loop Qi3 QpT))]),Quy])
def Qzy:TCode :=
 (zsq [(zsq [(.reg [zfa 64 1 2,zld 65 64 1,zle 66 65,zmv 67 (zki 0)]),(.block 2 (.loop QDw Qu0))]),QGD])
def QR9:TCode :=
 (zsq [(.reg [zop 1 (.box 37 0 4),zmv 2 (zkb false)]),(.reg [zfa 11 1 1,zld 12 11 1,zle 13 12,zmv 3 13]),(zsq [(.reg [zmv 14 3,zbi 15 .lss 14 (zki 1),zmv 16 15,.grp 16 false [zmv 17 3,zbi 18 .gtr 17 (zki 4)] 19 18,zmv 20 19,.grp 20 false [zfa 21 1 2,zld 22 21 1,zle 23 22,zmv 24 3,zbi 25 .sub 24 (zki 1),zbi 26 .neq 23 25] 27 26,zmv 28 27,.grp 28 false [zfa 29 1 3,zld 30 29 1,zle 31 30,zmv 32 3,zbi 33 .sub 32 (zki 1),zbi 34 .neq 31 33] 35 34]),(.cond 35 (zsq [(.reg [zmv 2 (zkb false)]),.ret]) .skip)]),(zsq [(.reg [zfa 36 1 0,zld 37 36 1,zle 38 37,zbi 39 .lss 38 (zki 1),zmv 40 39,.grp 40 false [zfa 41 1 0,zld 42 41 1,zle 43 42,zbi 44 .gtr 43 (zki 5)] 45 44]),(.cond 45 (zsq [(.reg [zmv 2 (zkb false)]),.ret]) .skip)]),(zsq [(.reg [zfa 46 1 0,zld 47 46 1,zle 48 47,zmv 49 (zki 0)]),(.block 0 (.loop Qxl QE9))]),Qzy])
def QyC:List (ARv × Md):=[(.t 2,.one .d)]
def Qem:Qb:=TQ 0 0 QyC K
def QSz:Qb:=Qseq (tawp QaZ 0 Quy (Qem K)) (Qem K)
def Qqf:Qb:=Qblk 4 (QSz K)
def QFM:Qb:=Qseq (fun s'=>Loop QaZ 0 Qi3 QpT (Qqf K) (gc 0 Qi3 s')) (Qqf K)
def QY9:Qb:=Qseq (tawp QaZ 0 Qs3 (QFM K)) (QFM K)
def QKz:Qb:=Qblk 5 (QY9 K)
def Q0V:Qb:=Qblk 6 (QKz K)
def Qq8 (p:Qe) (x2:Int) (x3:Int):Prop:=Loop QaZ 0 QB5 QBQ (Q0V K) ⟨[(1,(.p 0 0 0)),(3,(zci ((p.2.1).length:Int))),(88,(zcs Qi p.2.1)),(89,(zci ((p.2.1).length:Int))),(90,(zci x3)),(108,(zcs Qr ((gtd QM p.2.1 (Int.toNat x3)).2.1))),(109,(zci (((gtd QM p.2.1 (Int.toNat x3)).2.1).length:Int))),(110,(zci x2))],[(0,(.box (Tup.cells QE p)))],1⟩
def Qgv (p:Qe) (x3:Int):Prop:=Loop QaZ 0 Qi3 QpT (Qqf K) ⟨[(1,(.p 0 0 0)),(3,(zci ((p.2.1).length:Int))),(88,(zcs Qi p.2.1)),(89,(zci ((p.2.1).length:Int))),(90,(zci x3))],[(0,(.box (Tup.cells QE p)))],1⟩
def Q17:Qb:=Qseq (tawp QaZ 0 QGD (Qem K)) (Qem K)
def QTX:Qb:=Qblk 2 (Q17 K)
def QeT (p:Qe) (x1:Int):Prop:=Loop QaZ 0 QDw Qu0 (QTX K) ⟨[(1,(.p 0 0 0)),(3,(zci ((p.2.1).length:Int))),(66,(zci ((p.2.2.1).length:Int))),(67,(zci x1))],[(0,(.box (Tup.cells QE p)))],1⟩
def QZN:Qb:=Qseq (tawp QaZ 0 Qzy (Qem K)) (Qem K)
def QRR:Qb:=Qblk 0 (QZN K)
def QrQ (p:Qe) (x:Int):Prop:=Loop QaZ 0 Qxl QE9 (QRR K) ⟨[(1,(.p 0 0 0)),(3,(zci ((p.2.1).length:Int))),(47,(zcs Qx p.1)),(48,(zci ((p.1).length:Int))),(49,(zci x))],[(0,(.box (Tup.cells QE p)))],1⟩
theorem Q2X (p:Qe) (x2:Int) (x3:Int) (h :
 (zif (decide (x2<(((gtd QM p.2.1 (Int.toNat x3)).2.1).length:Int))) (((0:Int)≤x2∧Int.toNat x2<((gtd QM p.2.1 (Int.toNat x3)).2.1).length)∧(zif ((decide (((gtd dIns ((gtd QM p.2.1 (Int.toNat x3)).2.1) (Int.toNat x2)).2)<(0:Int)))||(decide (((gtd dIns ((gtd QM p.2.1 (Int.toNat x3)).2.1) (Int.toNat x2)).2)≥((p.1).length:Int)))) (K (YF false)) (Qq8 K p (w64 (x2+(1:Int))) x3))) (Qgv K p (w64 (x3+(1:Int)))))):Qq8 K p x2 x3 :=
 Loop.of (by kernel_rfl) h
theorem Qvd (p:Qe) (x3:Int) (h :
 (zif (decide (x3<((p.2.1).length:Int))) (((0:Int)≤x3∧Int.toNat x3<(p.2.1).length)∧(zif ((!(QU (gtd QM p.2.1 (Int.toNat x3))))||(!(((gtd QM p.2.1 (Int.toNat x3)).2.2.2.1)==(x3==(w64 (((p.2.1).length:Int)-(1:Int))))))) (K (YF false)) (Qq8 K p 0 x3))) (K (YF true)))):Qgv K p x3 :=
 Loop.of (by kernel_rfl) h
theorem QFu (p:Qe) (x1:Int) (h :
 (zif (decide (x1<((p.2.2.1).length:Int))) ((((0:Int)≤x1∧Int.toNat x1<(p.2.2.1).length)∧((!(!(Q4 (gtd Qw p.2.2.1 (Int.toNat x1)))))=true→((0:Int)≤x1∧Int.toNat x1<(p.2.2.2).length)))∧(zif ((!(Q4 (gtd Qw p.2.2.1 (Int.toNat x1))))||(!(Q4 (gtd Qw p.2.2.2 (Int.toNat x1))))) (K (YF false)) (QeT K p (w64 (x1+(1:Int)))))) (Qgv K p 0))):QeT K p x1 :=
 Loop.of (by kernel_rfl) h
theorem QKp (p:Qe) (x:Int) (h :
 (zif (decide (x<((p.1).length:Int))) (((0:Int)≤x∧Int.toNat x<(p.1).length)∧(zif ((!(QN ((gtd QY p.1 (Int.toNat x)).1)))||(!(QN ((gtd QY p.1 (Int.toNat x)).2)))) (K (YF false)) (QrQ K p (w64 (x+(1:Int)))))) (QeT K p 0))):QrQ K p x :=
 Loop.of (by kernel_rfl) h
theorem QHi (p:Qe) (h :
 (zif ((((decide (((p.2.1).length:Int)<(1:Int)))||(decide (((p.2.1).length:Int)>(4:Int))))||(((p.2.2.1).length:Int) != (w64 (((p.2.1).length:Int)-(1:Int)))))||(((p.2.2.2).length:Int) != (w64 (((p.2.1).length:Int)-(1:Int))))) (K (YF false)) (zif ((decide (((p.1).length:Int)<(1:Int)))||(decide (((p.1).length:Int)>(5:Int)))) (K (YF false)) (QrQ K p 0)))):Hold (tawp QaZ (0+0) QR9 (TQ 0 0 QyC K) (Qf [(.a (Tup.cells QE p))])) :=
 Hold.of (by kernel_rfl) h
theorem QZS (p:Qe):TCon Tryz.prog 58 [(.a (Tup.cells QE p))] (YF (Zp p)):=by
 refine Qo rfl fun hb=>tcg (n:=127) (sg:=Qpv.sg) Qj (TOk.cons QdL (TOk.cons Ql4 (TOk.cons QkP TOk.nil))) (by kernel_rfl) (by kernel_rfl) (QHi _ p ?_)
 have hl_p_0:(p.1).length≤9223372036854775807:=hb.1.1.1
 have hl_p_1:(p.2.1).length≤9223372036854775807:=hb.1.2.1.1
 have hl_p_2:(p.2.2.1).length≤9223372036854775807:=hb.1.2.2.1.1
 have hl_p_3:(p.2.2.2).length≤9223372036854775807:=hb.1.2.2.2.1.1
 refine ⟨fun h=>R_eq ?_,fun h=>?_⟩
 ·have:(m_in p.2.1.length 1 4&&(p.2.2.1.length+1==p.2.1.length)&&(p.2.2.2.length+1==p.2.1.length))=false:=by
   by_cases h0:m_in p.2.1.length 1 4=true
   ·have h1:=QV.1 h0
    rw [Qq (x:=(p.2.1.length:Int)-1) (by omega) (by omega)] at h
    simp at h
    simp [h0]
    omega
   ·simp at h0;simp [h0]
  simp [Zp,this]
 have h0:m_in p.2.1.length 1 4=true:=by simp at h;simp [m_in];omega
 have h1:=QV.1 h0
 have e1:w64 ((p.2.1.length:Int)-1)=p.2.1.length-1:=Qq (by omega) (by omega)
 rw [e1] at h
 have ha:p.2.2.1.length+1=p.2.1.length∧p.2.2.2.length+1=p.2.1.length:=by simp at h;omega
 refine ⟨fun h=>R_eq ?_,fun h=>?_⟩
 ·have:m_in p.1.length 1 5=false:=by simp at h;simp [m_in];omega
  simp [Zp,this]
 have h2:m_in p.1.length 1 5=true:=by simp at h;simp [m_in];omega
 have h3:=QV.1 h2
 have val:(Zp p)=(p.1.all JV&&(p.2.2.1.all Q4&&p.2.2.2.all Q4)&&JI p.1.length p.2.1):=by
  simp only [Zp,h0,h2,ha];simp
 refine Qba (Q:=fun b=>selP b (QeT (fun r'=>r'=YF (Zp p)) p ((0:Nat):Int)) (YF false=YF (Zp p))) (p:=JV) (c:=fun x=>(!(QN x.1))||!(QN x.2)) (e:=true) QY hl_p_0 (fun x=>by grind [JV]) (fun i h=>QKp (fun r'=>r'=YF (Zp p)) p i h) ?_
 cases hx1:p.1.all JV with
 | false=>exact R_eq (by rw [val,hx1];rfl)
 | true =>
  show QeT (fun r'=>r'=YF (Zp p)) p ((0:Nat):Int)
  have queues:∀ k:Nat,((p.2.2.1.drop k).all Q4&&(p.2.2.2.drop k).all Q4)=(p.2.2.1.all Q4&&p.2.2.2.all Q4)→k≤p.2.2.1.length→QeT (fun r'=>r'=YF (Zp p)) p k:=by
   intro k
   generalize hn:p.2.2.1.length-k=n
   induction n generalizing k with
   | zero =>
    intro he hle
    refine QFu (fun r'=>r'=YF (Zp p)) p _ ⟨fun h=>by simp at h;omega,fun _=>?_⟩
    have hall:(p.2.2.1.all Q4&&p.2.2.2.all Q4)=true:=by
     rw [← he,List.drop_eq_nil_of_le (by omega),List.drop_eq_nil_of_le (by omega)];rfl
    refine Zk p.2.1 (fun r k=>JI p.1.length r=JI p.1.length p.2.1→Qgv (fun r'=>r'=YF (Zp p)) p k) ?_ ?_ rfl
    ·intro he2
     refine Qvd (fun r'=>r'=YF (Zp p)) p _ ⟨fun h=>by simp at h,fun _=>R_eq ?_⟩
     rw [val,hx1,hall,← he2];rfl
    ·intro k x r hk hlt hg ih he2
     have hmem:x∈p.2.1:=List.mem_of_mem_drop (i:=k) (by rw [hk];exact List.mem_cons_self)
     have hbx:x.2.1.length≤9223372036854775807:=(hb.1.2.1.2 x hmem).2.1.1
     have hlast:=QwR hk hl_p_1
     rw [JI] at he2
     refine Qvd (fun r'=>r'=YF (Zp p)) p _ ⟨fun _=>?_,fun h=>by simp at h;omega⟩
     rw [Int.toNat_natCast,hg,hlast]
     refine ⟨⟨by omega,hlt⟩,fun h=>R_eq ?_,fun h=>?_⟩
     ·have:(QU x&&(x.2.2.2.1==decide (r.length=0)))=false:=by grind
      rw [this,Bool.false_and,Bool.false_and] at he2
      rw [val,← he2,Bool.and_false]
     ·have:(QU x&&(x.2.2.2.1==decide (r.length=0)))=true:=by grind
      rw [this,Bool.true_and] at he2
      refine Qba (l:=x.2.1) (Q:=fun b=>selP b (Qgv (fun r'=>r'=YF (Zp p)) p ((k+1:Nat):Int)) (YF false=YF (Zp p))) (p:=fun y=>m_in y.2 0 (p.1.length-1)) (c:=fun y=>decide (y.2<0)||decide (y.2≥(p.1.length:Int))) (e:=true) dIns hbx (fun y=>by grind [m_in]) (fun i h=>Q2X (fun r'=>r'=YF (Zp p)) p i k (by rw [Int.toNat_natCast,hg,Qq (x:=(k:Int)+1) (by omega) (by omega)];exact h)) ?_
      cases hx:x.2.1.all (fun y=>m_in y.2 0 (p.1.length-1)) with
      | false =>
       rw [hx,Bool.false_and] at he2
       exact R_eq (by rw [val,← he2,Bool.and_false])
      | true =>
       rw [hx,Bool.true_and] at he2
       exact ih he2
   | succ n ihn =>
    intro he hle
    obtain ⟨y,q,hq⟩:∃ y q,p.2.2.1.drop k=y::q:=by
     cases hq:p.2.2.1.drop k with
     | nil=>have:=congrArg List.length hq;simp at this;omega
     | cons y q=>exact ⟨y,q,rfl⟩
    obtain ⟨z,t,hz⟩:∃ z t,p.2.2.2.drop k=z::t:=by
     cases hz:p.2.2.2.drop k with
     | nil=>have:=congrArg List.length hz;simp at this;omega
     | cons z t=>exact ⟨z,t,rfl⟩
    have hlt:=QgJ hq
    refine QFu (fun r'=>r'=YF (Zp p)) p _ ⟨fun _=>?_,fun h=>by simp at h;omega⟩
    rw [Int.toNat_natCast,Yo hq,Yo hz,Qq (x:=(k:Int)+1) (by omega) (by omega)]
    have ih2:=ihn (k+1) (by omega)
    rw [Z3 hq,Z3 hz] at ih2
    rw [hq,hz,List.all_cons,List.all_cons] at he
    refine ⟨⟨⟨by omega,hlt⟩,fun _=>⟨by omega,by omega⟩⟩,fun h=>R_eq ?_,fun h=>ih2 ?_ (by omega)⟩
    ·rw [val,← he];grind
    ·rw [← he];grind
  exact queues 0 rfl (Nat.zero_le _)
theorem QNs:Qg Tryz.prog Qpv:=Qk fun x _=>QZS x.1
end
end Go.Proofs.YtjbdljkhbglnhaaGreat.Am

