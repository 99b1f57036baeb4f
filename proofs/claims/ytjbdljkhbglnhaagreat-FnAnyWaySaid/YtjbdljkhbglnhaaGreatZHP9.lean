/- -/
import Derived.Test.YtjbdljkhbglnhaaGreatZHP1
import Derived.Test.YtjbdljkhbglnhaaGreatZHP8
import Derived.Test.YtjbdljkhbglnhaaGreatZHP2
namespace Go.Proofs.YtjbdljkhbglnhaaGreat.Am
open Go Go.RowKit Go.Proofs.YtjbdljkhbglnhaaGreat
set_option linter.all false
noncomputable section
variable (K:TRes→Prop)
def Yk (t:Bool):TRes:=zre (zcb t)
def Qkh:TRow:=Qg 58 [(.a Q9)] fun x=>(none,Yk (ZZ x.1))
def QaI:List TRow:=[Qa0,Qer,Qdi]
def QuV:TCode :=
 (zsq [(.reg [zbi 50 .lss 49 48]),(.cond 50 .skip (.exit 0)),(.block 1 (zsq [(.reg [zia 51 47 49 QB,zLd 52 51 2,zop 5 (.new 108 (z0s QB)),zst 5 52 2]),(.reg [zfa 53 5 0,zld 54 53 1,zca 55 134 [54],zno 56 55,zmv 57 56,.grp 57 false [zfa 58 5 1,zld 59 58 1,zca 60 134 [59],zno 61 60] 62 61]),(.cond 62 (zsq [(.reg [zmv 2 (zkb false)]),.ret]) .skip)])),(.reg [zbi 63 .add 49 (zki 1),zmv 49 63])])
def QtR:List (Nat × Md):=[(1,.b (zds 4)),(3,.one .d),(47,.one .d),(48,.one .d),(49,.one .d)]
def Qpu:TCode :=
 (zsq [(.reg [zbi 68 .lss 67 66]),(.cond 68 .skip (.exit 2)),(.block 3 (zsq [(.reg [zmv 69 67,zmv 6 69]),(.reg [zfa 70 1 2,zld 71 70 1,zmv 72 6,zia 73 71 72 QL,zLd 74 73 2,zca 75 135 [74],zno 76 75,zmv 77 76,.grp 77 false [zfa 78 1 3,zld 79 78 1,zmv 80 6,zia 81 79 80 QL,zLd 82 81 2,zca 83 135 [82],zno 84 83] 85 84]),(.cond 85 (zsq [(.reg [zmv 2 (zkb false)]),.ret]) .skip)])),(.reg [zbi 86 .add 67 (zki 1),zmv 67 86])])
def QoD:List (Nat × Md):=[(1,.b (zds 4)),(3,.one .d),(66,.one .d),(67,.one .d)]
def Qph:TCode :=
 (zsq [(.reg [zbi 111 .lss 110 109]),(.cond 111 .skip (.exit 6)),(.block 7 (zsq [(.reg [zia 112 108 110 QP,zLd 113 112 2,zop 10 (.new 111 (z0s QP)),zst 10 113 2]),(.reg [zfa 114 10 1,zld 115 114 1,zbi 116 .lss 115 (zki 0),zmv 117 116,.grp 117 false [zfa 118 10 1,zld 119 118 1,zfa 120 1 0,zld 121 120 1,zle 122 121,zbi 123 .geq 119 122] 124 123]),(.cond 124 (zsq [(.reg [zmv 2 (zkb false)]),.ret]) .skip)])),(.reg [zbi 125 .add 110 (zki 1),zmv 110 125])])
def QwK:List (Nat × Md):=[(1,.b (zds 4)),(3,.one .d),(88,.one .d),(89,.one .d),(90,.one .d),(108,.one .d),(109,.one .d),(110,.one .d)]
def QtA:TCode :=
 (.reg [zbi 126 .add 90 (zki 1),zmv 90 126])
def QmF:TCode :=
 (zsq [(.reg [zbi 91 .lss 90 89]),(.cond 91 .skip (.exit 4)),(.block 5 (zsq [(.reg [zmv 92 90,zia 93 88 90 Qx,zLd 94 93 14,zop 8 (.new 63 (z0s Qx)),zmv 7 92,zst 8 94 14]),(zsq [(.reg [zLd 95 8 14,zca 96 113 [95],zno 97 96,zmv 98 97,.grp 98 false [zfa 99 8 3,zld 100 99 1,zmv 101 7,zmv 102 3,zbi 103 .sub 102 (zki 1),zbi 104 .eql 101 103,zop 105 (.eqb true 100 104)] 106 105]),(.cond 106 (zsq [(.reg [zmv 2 (zkb false)]),.ret]) .skip)]),(.reg [zfa 107 8 1,zld 108 107 1,zle 109 108,zmv 110 (zki 0)]),(.block 6 (.loop QwK Qph))])),QtA])
def Qgq:List (Nat × Md):=[(1,.b (zds 4)),(3,.one .d),(88,.one .d),(89,.one .d),(90,.one .d)]
def QuC:TCode :=
 (zsq [(.reg [zmv 2 (zkb true)]),.ret])
def Qrk:TCode :=
 (zsq [(zsq [(.reg [zfa 87 1 1,zld 88 87 1,zle 89 88,zmv 90 (zki 0)]),(.block 4 (.loop Qgq QmF))]),QuC])
def QqF:TCode :=
 (zsq [(zsq [(.reg [zfa 64 1 2,zld 65 64 1,zle 66 65,zmv 67 (zki 0)]),(.block 2 (.loop QoD Qpu))]),Qrk])
def QFv:TCode :=
 (zsq [(.reg [zop 1 (.box 37 0 4),zmv 2 (zkb false)]),(.reg [zfa 11 1 1,zld 12 11 1,zle 13 12,zmv 3 13]),(zsq [(.reg [zmv 14 3,zbi 15 .lss 14 (zki 1),zmv 16 15,.grp 16 false [zmv 17 3,zbi 18 .gtr 17 (zki 4)] 19 18,zmv 20 19,.grp 20 false [zfa 21 1 2,zld 22 21 1,zle 23 22,zmv 24 3,zbi 25 .sub 24 (zki 1),zbi 26 .neq 23 25] 27 26,zmv 28 27,.grp 28 false [zfa 29 1 3,zld 30 29 1,zle 31 30,zmv 32 3,zbi 33 .sub 32 (zki 1),zbi 34 .neq 31 33] 35 34]),(.cond 35 (zsq [(.reg [zmv 2 (zkb false)]),.ret]) .skip)]),(zsq [(.reg [zfa 36 1 0,zld 37 36 1,zle 38 37,zbi 39 .lss 38 (zki 1),zmv 40 39,.grp 40 false [zfa 41 1 0,zld 42 41 1,zle 43 42,zbi 44 .gtr 43 (zki 5)] 45 44]),(.cond 45 (zsq [(.reg [zmv 2 (zkb false)]),.ret]) .skip)]),(zsq [(.reg [zfa 46 1 0,zld 47 46 1,zle 48 47,zmv 49 (zki 0)]),(.block 0 (.loop QtR QuV))]),QqF])
def QoH:List (ARv × Md):=[(.t 2,.one .d)]
def Qdl:Qb:=TQ 0 0 QoH K
def QPl:Qb:=Qseq (tawp QaI 0 QuC (Qdl K)) (Qdl K)
def QlZ:Qb:=Qblk 4 (QPl K)
def QyG:Qb:=Qseq (fun s'=>Loop QaI 0 Qgq QmF (QlZ K) (gc 0 Qgq s')) (QlZ K)
def QC1:Qb:=Qseq (tawp QaI 0 QtA (QyG K)) (QyG K)
def QDH:Qb:=Qblk 5 (QC1 K)
def QPm:Qb:=Qblk 6 (QDH K)
def QnC (p:Qr) (x2:Int) (x3:Int):Prop:=Loop QaI 0 QwK Qph (QPm K) ⟨[(1,(.p 0 0 0)),(3,(zci ((p.2.1).length:Int))),(88,(zcs Qx p.2.1)),(89,(zci ((p.2.1).length:Int))),(90,(zci x3)),(108,(zcs QP ((gtd QQ p.2.1 (Int.toNat x3)).2.1))),(109,(zci (((gtd QQ p.2.1 (Int.toNat x3)).2.1).length:Int))),(110,(zci x2))],[(0,(.box (Tup.cells Q9 p)))],1⟩
def QeP (p:Qr) (x3:Int):Prop:=Loop QaI 0 Qgq QmF (QlZ K) ⟨[(1,(.p 0 0 0)),(3,(zci ((p.2.1).length:Int))),(88,(zcs Qx p.2.1)),(89,(zci ((p.2.1).length:Int))),(90,(zci x3))],[(0,(.box (Tup.cells Q9 p)))],1⟩
def QLs:Qb:=Qseq (tawp QaI 0 Qrk (Qdl K)) (Qdl K)
def QJU:Qb:=Qblk 2 (QLs K)
def Qdw (p:Qr) (x1:Int):Prop:=Loop QaI 0 QoD Qpu (QJU K) ⟨[(1,(.p 0 0 0)),(3,(zci ((p.2.1).length:Int))),(66,(zci ((p.2.2.1).length:Int))),(67,(zci x1))],[(0,(.box (Tup.cells Q9 p)))],1⟩
def QMi:Qb:=Qseq (tawp QaI 0 QqF (Qdl K)) (Qdl K)
def QIN:Qb:=Qblk 0 (QMi K)
def QnJ (p:Qr) (x:Int):Prop:=Loop QaI 0 QtR QuV (QIN K) ⟨[(1,(.p 0 0 0)),(3,(zci ((p.2.1).length:Int))),(47,(zcs QB p.1)),(48,(zci ((p.1).length:Int))),(49,(zci x))],[(0,(.box (Tup.cells Q9 p)))],1⟩
theorem QJe (p:Qr) (x2:Int) (x3:Int) (h :
 (zif (decide (x2<(((gtd QQ p.2.1 (Int.toNat x3)).2.1).length:Int))) (((0:Int)≤x2∧Int.toNat x2<((gtd QQ p.2.1 (Int.toNat x3)).2.1).length)∧(zif ((decide (((gtd dIns ((gtd QQ p.2.1 (Int.toNat x3)).2.1) (Int.toNat x2)).2)<(0:Int)))||(decide (((gtd dIns ((gtd QQ p.2.1 (Int.toNat x3)).2.1) (Int.toNat x2)).2)≥((p.1).length:Int)))) (K (Yk false)) (QnC K p (w64 (x2+(1:Int))) x3))) (QeP K p (w64 (x3+(1:Int)))))):QnC K p x2 x3 :=
 Loop.of (by kernel_rfl) h
theorem Qou (p:Qr) (x3:Int) (h :
 (zif (decide (x3<((p.2.1).length:Int))) (((0:Int)≤x3∧Int.toNat x3<(p.2.1).length)∧(zif ((!(Zc (gtd QQ p.2.1 (Int.toNat x3))))||(!(((gtd QQ p.2.1 (Int.toNat x3)).2.2.2.1)==(x3==(w64 (((p.2.1).length:Int)-(1:Int))))))) (K (Yk false)) (QnC K p 0 x3))) (K (Yk true)))):QeP K p x3 :=
 Loop.of (by kernel_rfl) h
theorem QAg (p:Qr) (x1:Int) (h :
 (zif (decide (x1<((p.2.2.1).length:Int))) ((((0:Int)≤x1∧Int.toNat x1<(p.2.2.1).length)∧((!(!(Zx (gtd QW p.2.2.1 (Int.toNat x1)))))=true→((0:Int)≤x1∧Int.toNat x1<(p.2.2.2).length)))∧(zif ((!(Zx (gtd QW p.2.2.1 (Int.toNat x1))))||(!(Zx (gtd QW p.2.2.2 (Int.toNat x1))))) (K (Yk false)) (Qdw K p (w64 (x1+(1:Int)))))) (QeP K p 0))):Qdw K p x1 :=
 Loop.of (by kernel_rfl) h
theorem QHB (p:Qr) (x:Int) (h :
 (zif (decide (x<((p.1).length:Int))) (((0:Int)≤x∧Int.toNat x<(p.1).length)∧(zif ((!(Q8 ((gtd Zn p.1 (Int.toNat x)).1)))||(!(Q8 ((gtd Zn p.1 (Int.toNat x)).2)))) (K (Yk false)) (QnJ K p (w64 (x+(1:Int)))))) (Qdw K p 0))):QnJ K p x :=
 Loop.of (by kernel_rfl) h
theorem QB1 (p:Qr) (h :
 (zif ((((decide (((p.2.1).length:Int)<(1:Int)))||(decide (((p.2.1).length:Int)>(4:Int))))||(((p.2.2.1).length:Int) != (w64 (((p.2.1).length:Int)-(1:Int)))))||(((p.2.2.2).length:Int) != (w64 (((p.2.1).length:Int)-(1:Int))))) (K (Yk false)) (zif ((decide (((p.1).length:Int)<(1:Int)))||(decide (((p.1).length:Int)>(5:Int)))) (K (Yk false)) (QnJ K p 0)))):Hold (tawp QaI (0+0) QFv (TQ 0 0 QoH K) (Qf [(.a (Tup.cells Q9 p))])) :=
 Hold.of (by kernel_rfl) h
theorem QEf (p:Qr):TCon Tryz.prog 58 [(.a (Tup.cells Q9 p))] (Yk (ZZ p)):=by
 refine Qq rfl fun hb=>tcg (n:=127) (sg:=Qkh.sg) Qj (TOk.cons QcT (TOk.cons Qn2 (TOk.cons Qhv TOk.nil))) (by kernel_rfl) (by kernel_rfl) (QB1 _ p ?_)
 have hl_p_0:(p.1).length≤9223372036854775807:=hb.1.1.1
 have hl_p_1:(p.2.1).length≤9223372036854775807:=hb.1.2.1.1
 have hl_p_2:(p.2.2.1).length≤9223372036854775807:=hb.1.2.2.1.1
 have hl_p_3:(p.2.2.2).length≤9223372036854775807:=hb.1.2.2.2.1.1
 refine ⟨fun h=>R_eq ?_,fun h=>?_⟩
 ·have:(m_in p.2.1.length 1 4&&(p.2.2.1.length+1==p.2.1.length)&&(p.2.2.2.length+1==p.2.1.length))=false:=by
   by_cases h0:m_in p.2.1.length 1 4=true
   ·have h1:=QJ.1 h0
    rw [Qo (x:=(p.2.1.length:Int)-1) (by omega) (by omega)] at h
    simp at h
    simp [h0]
    omega
   ·simp at h0;simp [h0]
  simp [ZZ,this]
 have h0:m_in p.2.1.length 1 4=true:=by simp at h;simp [m_in];omega
 have h1:=QJ.1 h0
 have e1:w64 ((p.2.1.length:Int)-1)=p.2.1.length-1:=Qo (by omega) (by omega)
 rw [e1] at h
 have ha:p.2.2.1.length+1=p.2.1.length∧p.2.2.2.length+1=p.2.1.length:=by simp at h;omega
 refine ⟨fun h=>R_eq ?_,fun h=>?_⟩
 ·have:m_in p.1.length 1 5=false:=by simp at h;simp [m_in];omega
  simp [ZZ,this]
 have h2:m_in p.1.length 1 5=true:=by simp at h;simp [m_in];omega
 have h3:=QJ.1 h2
 have val:(ZZ p)=(p.1.all QcQ&&(p.2.2.1.all Zx&&p.2.2.2.all Zx)&&QaH p.1.length p.2.1):=by
  simp only [ZZ,h0,h2,ha];simp
 refine Qb3 (Q:=fun b=>selP b (Qdw (fun r'=>r'=Yk (ZZ p)) p ((0:Nat):Int)) (Yk false=Yk (ZZ p))) (p:=QcQ) (c:=fun x=>(!(Q8 x.1))||!(Q8 x.2)) (e:=true) Zn hl_p_0 (fun x=>by grind [QcQ]) (fun i h=>QHB (fun r'=>r'=Yk (ZZ p)) p i h) ?_
 cases hx1:p.1.all QcQ with
 | false=>exact R_eq (by rw [val,hx1];rfl)
 | true =>
  show Qdw (fun r'=>r'=Yk (ZZ p)) p ((0:Nat):Int)
  have queues:∀ k:Nat,((p.2.2.1.drop k).all Zx&&(p.2.2.2.drop k).all Zx)=(p.2.2.1.all Zx&&p.2.2.2.all Zx)→k≤p.2.2.1.length→Qdw (fun r'=>r'=Yk (ZZ p)) p k:=by
   intro k
   generalize hn:p.2.2.1.length-k=n
   induction n generalizing k with
   | zero =>
    intro he hle
    refine QAg (fun r'=>r'=Yk (ZZ p)) p _ ⟨fun h=>by simp at h;omega,fun _=>?_⟩
    have hall:(p.2.2.1.all Zx&&p.2.2.2.all Zx)=true:=by
     rw [← he,List.drop_eq_nil_of_le (by omega),List.drop_eq_nil_of_le (by omega)];rfl
    refine ZL p.2.1 (fun r k=>QaH p.1.length r=QaH p.1.length p.2.1→QeP (fun r'=>r'=Yk (ZZ p)) p k) ?_ ?_ rfl
    ·intro he2
     refine Qou (fun r'=>r'=Yk (ZZ p)) p _ ⟨fun h=>by simp at h,fun _=>R_eq ?_⟩
     rw [val,hx1,hall,← he2];rfl
    ·intro k x r hk hlt hg ih he2
     have hmem:x∈p.2.1:=List.mem_of_mem_drop (i:=k) (by rw [hk];exact List.mem_cons_self)
     have hbx:x.2.1.length≤9223372036854775807:=(hb.1.2.1.2 x hmem).2.1.1
     have hlast:=QL2 hk hl_p_1
     rw [QaH] at he2
     refine Qou (fun r'=>r'=Yk (ZZ p)) p _ ⟨fun _=>?_,fun h=>by simp at h;omega⟩
     rw [Int.toNat_natCast,hg,hlast]
     refine ⟨⟨by omega,hlt⟩,fun h=>R_eq ?_,fun h=>?_⟩
     ·have:(Zc x&&(x.2.2.2.1==decide (r.length=0)))=false:=by grind
      rw [this,Bool.false_and,Bool.false_and] at he2
      rw [val,← he2,Bool.and_false]
     ·have:(Zc x&&(x.2.2.2.1==decide (r.length=0)))=true:=by grind
      rw [this,Bool.true_and] at he2
      refine Qb3 (l:=x.2.1) (Q:=fun b=>selP b (QeP (fun r'=>r'=Yk (ZZ p)) p ((k+1:Nat):Int)) (Yk false=Yk (ZZ p))) (p:=fun y=>m_in y.2 0 (p.1.length-1)) (c:=fun y=>decide (y.2<0)||decide (y.2≥(p.1.length:Int))) (e:=true) dIns hbx (fun y=>by grind [m_in]) (fun i h=>QJe (fun r'=>r'=Yk (ZZ p)) p i k (by rw [Int.toNat_natCast,hg,Qo (x:=(k:Int)+1) (by omega) (by omega)];exact h)) ?_
      cases hx:x.2.1.all (fun y=>m_in y.2 0 (p.1.length-1)) with
      | false =>
       rw [hx,Bool.false_and] at he2
       exact R_eq (by rw [val,← he2,Bool.and_false])
      | true =>
       rw [hx,Bool.true_and] at he2
       exact ih he2
   | succ n ihn =>
    intro he hle
    obtain ⟨y,q,hq⟩:∃ y q,p.2.2.1.drop k=y::q:=by
     cases hq:p.2.2.1.drop k with
     | nil=>have:=congrArg List.length hq;simp at this;omega
     | cons y q=>exact ⟨y,q,rfl⟩
    obtain ⟨z,t,hz⟩:∃ z t,p.2.2.2.drop k=z::t:=by
     cases hz:p.2.2.2.drop k with
     | nil=>have:=congrArg List.length hz;simp at this;omega
     | cons z t=>exact ⟨z,t,rfl⟩
    have hlt:=QiM hq
    refine QAg (fun r'=>r'=Yk (ZZ p)) p _ ⟨fun _=>?_,fun h=>by simp at h;omega⟩
    rw [Int.toNat_natCast,Y1 hq,Y1 hz,Qo (x:=(k:Int)+1) (by omega) (by omega)]
    have ih2:=ihn (k+1) (by omega)
    rw [YO hq,YO hz] at ih2
    rw [hq,hz,List.all_cons,List.all_cons] at he
    refine ⟨⟨⟨by omega,hlt⟩,fun _=>⟨by omega,by omega⟩⟩,fun h=>R_eq ?_,fun h=>ih2 ?_ (by omega)⟩
    ·rw [val,← he];grind
    ·rw [← he];grind
  exact queues 0 rfl (Nat.zero_le _)
theorem QCr:Qh Tryz.prog Qkh:=Qk fun x _=>QEf x.1
end
end Go.Proofs.YtjbdljkhbglnhaaGreat.Am

