/-
  Written by program: the code of functions, what it asks, and that it comes to what the models say.
-/
import Derived.Test.YtephkbajoofeoaaYED1
import Derived.Test.YtephkbajoofeoaaYED4
import Derived.Test.YtephkbajoofeoaaYEPN
import Derived.Test.YtephkbajoofeoaaYEP4
import Derived.Test.YtephkbajoofeoaaYEP5
import Derived.Test.YtephkbajoofeoaaYEGC
namespace Go.Proofs.Ytephkbajoofeoaa.Am
open Go Go.RowKit Go.Proofs.Ytephkbajoofeoaa
set_option linter.all false
set_option maxHeartbeats 2000000
noncomputable section
variable (K:TRes→Prop)
def Q8 (t:Bool):TRes:=zre (zcb t)
def Qo4:TRow:=Qp 10 [(.c (.sl [(.int .u8)]))] fun x=>(none,Q8 (ZW x.1))
def Ja:List TRow:=[QcU,Qd1,Qcp,QaM,Jw,QaD,QbR,Qdy,Qan]
def Qjf:TCode :=
 (zsq [(.draw [zmv 84 11,zmv 85 8,zbi 86 .lss 84 85,zmv 87 86,.grp 87 false [zmv 88 11,zmv 89 8,zbi 90 .eql 88 89,zmv 91 90,.grp 91 true [zmv 92 9,zno 93 92] 94 93] 95 94,zmv 96 95,.grp 96 false [zLd 97 3 1,zmv 98 7,zmv 99 10,zia 100 98 99 [(.sl [TI])],zfa 101 100 0,zld 102 101 1,zca 103 48 [97,102],zno 104 103] 105 104] []),(.cond 105 (zsq [(.reg [zmv 2 (zkb false)]),.ret]) .skip)])
def Qlk:List (Nat × Md):=[(3,.b [.d]),(5,.one .d),(7,.one .d),(8,.one .d),(9,.one .d),(10,.one .d),(11,.one .d)]
def QmK:TCode:=.wk Qlk Qjf
def QfC:TCode :=
 (.reg [zmv 68 10,zbi 69 .add 68 (zki 1),zmv 10 69])
def QbS:TCode :=
 (zsq [(zsq [(.reg [zmv 64 10,zmv 65 7,zle 66 65,zbi 67 .lss 64 66]),(.cond 67 .skip (.exit 0))]),(.block 1 (zsq [(.draw [zLd 70 3 1,zmv 71 7,zmv 72 10,zia 73 71 72 [(.sl [TI])],zfa 74 73 0,zld 75 74 1,zca 76 62 [70,75],zmv 11 76] []),(zsq [(.reg [zmv 77 7,zmv 78 10,zia 79 77 78 [(.sl [TI])],zfa 80 79 0,zld 81 80 1,zmv 82 5,zca 83 33 [81,82]]),(.cond 83 (.reg [zmv 9 (zkb true)]) .skip)]),QmK])),QfC])
def QaG:List (Nat × Md):=[(3,.b [.d]),(5,.one .d),(7,.one .d),(8,.one .d),(9,.one .d),(10,.one .d)]
def Qfh:TCode :=
 (zsq [(.reg [zmv 106 9,zmv 107 106,.grp 107 true [zLd 108 3 1,zmv 109 5,zca 110 50 [108,109],zmv 111 8,zbi 112 .eql 110 111] 113 112,zmv 2 113]),.ret])
def Qj5:TCode :=
 (zsq [(.reg [zmv 2 (zkb false)]),(zsq [(.reg [zmv 12 0,zca 13 26 [12]]),(.cond 13 (zsq [(.reg [zmv 2 (zkb true)]),.ret]) .skip)]),(.reg [zmv 15 0,zca 16 58 [15],zmv 14 16,zex 17 14 0,zex 18 14 1,zop 3 (.new 66 [(.n ctOp)]),zst 3 17 1,zmv 4 18]),(.reg [zLd 20 3 1,zmv 21 4,zca 22 59 [20,21],zmv 19 22,zex 23 19 0,zex 24 19 1,zmv 5 23,zmv 6 24]),(zsq [(.reg [zmv 25 6,zLd 26 3 1,zca 27 60 [26],zmv 28 27,.grp 28 true [zmv 29 4,zbi 30 .geq 29 (zki 1)] 31 30,zmv 32 31,.grp 32 true [zmv 33 4,zfa 34 3 0,zld 35 34 1,zle 36 35,zbi 37 .leq 33 36] 38 37,zop 39 (.eqb true 25 38)]),(.cond 39 (zsq [(.reg [zmv 2 (zkb false)]),.ret]) .skip)]),(zsq [(.reg [zmv 40 6,zno 41 40]),(.cond 41 (zsq [(.reg [zmv 42 5,zle 43 42,zbi 44 .eql 43 (zki 0),zmv 2 44]),.ret]) .skip)]),(zsq [(.reg [zLd 45 3 1,zmv 46 5,zca 47 48 [45,46],zno 48 47,zmv 49 48,.grp 49 false [zmv 50 5,zle 51 50,zmv 52 4,zbi 53 .sub 52 (zki 1),zbi 54 .neq 51 53] 55 54]),(.cond 55 (zsq [(.reg [zmv 2 (zkb false)]),.ret]) .skip)]),(.reg [zfa 56 3 0,zld 57 56 1,zle 58 57,zmv 59 4,zca 60 61 [58,59],zmv 7 60]),(.reg [zLd 61 3 1,zmv 62 5,zca 63 62 [61,62],zmv 8 63]),(.reg [zmv 9 (zkb false)]),(zsq [(.reg [zmv 10 (zki 0)]),(.block 0 (.loop QaG QbS))]),Qfh])
def Qgy:List (ARv × Md):=[(.t 2,.one .d)]
def QhZ:Qd:=TQ 0 0 Qgy K
def QpT:Qd:=Qseq (tawp Ja 0 Qfh (QhZ K)) (QhZ K)
def Qde:Qd:=Qblk 0 (QpT K)
def Qh1:Qd:=Qseq (fun s'=>Loop Ja 0 QaG QbS (Qde K) (gc 0 QaG s')) (Qde K)
def Qlv:Qd:=Qseq (tawp Ja 0 QfC (Qh1 K)) (Qh1 K)
def Qkz:Qd:=Qblk 1 (Qlv K)
@[irreducible] def QaU (code:List Int) (behind:Bool) (i:Int):Prop:=let z1:=Qk code
 tawp Ja 0 Qjf (Qkz K) ⟨[(3,(.p 0 0 0)),(5,(zcs [TI] ((QD (z1.1) (z1.2)).1))),(7,(zcs [(.sl [TI])] (Qe ((z1.1).length:Int) (z1.2)))),(8,(zci (Qu (z1.1) ((QD (z1.1) (z1.2)).1)))),(9,(zcb behind)),(10,(zci i)),(11,(zci (Qu (z1.1) (gtd ([]:List Int) (Qe ((z1.1).length:Int) (z1.2)) (Int.toNat i)))))],[(0,(.box [(zcs ctOp (z1.1))]))],1⟩
def JF (code:List Int) (behind1:Bool) (i:Int):Prop:=Loop Ja 0 QaG QbS (Qde K) ⟨[(3,(.p 0 0 0)),(5,(zcs [TI] ((QD ((Qk code).1) ((Qk code).2)).1))),(7,(zcs [(.sl [TI])] (Qe (((Qk code).1).length:Int) ((Qk code).2)))),(8,(zci (Qu ((Qk code).1) ((QD ((Qk code).1) ((Qk code).2)).1)))),(9,(zcb behind1)),(10,(zci i))],[(0,(.box [(zcs ctOp ((Qk code).1))]))],1⟩
theorem Qmz (code:List Int) (behind:Bool) (i:Int) (h :
 let z1:=Qk code
 let z2:=gtd ([]:List Int) (Qe ((z1.1).length:Int) (z1.2)) (Int.toNat i)
 let z3:=Qu (z1.1) ((QD (z1.1) (z1.2)).1)
 let z4:=Qu (z1.1) z2
 (((!((decide (z4<z3))||((z4==z3)&&(!behind))))=true→((0:Int)≤i∧Int.toNat i<(Qe ((z1.1).length:Int) (z1.2)).length))∧(zif (((decide (z4<z3))||((z4==z3)&&(!behind)))||(!(Qm (z1.1) z2))) (K (Q8 false)) (JF K code behind (w64 (i+(1:Int))))))):Hold (QaU K code behind i) :=
 Hold.of (by kernel_rfl) h
theorem Qid (code:List Int) (behind1:Bool) (i:Int) (h :
 (zif (decide (i<((Qe (((Qk code).1).length:Int) ((Qk code).2)).length:Int))) (((0:Int)≤i∧Int.toNat i<(Qe (((Qk code).1).length:Int) ((Qk code).2)).length)∧(((0:Int)≤i∧Int.toNat i<(Qe (((Qk code).1).length:Int) ((Qk code).2)).length)∧(zif (m_eq (α:=List Int) (gtd ([]:List Int) (Qe (((Qk code).1).length:Int) ((Qk code).2)) (Int.toNat i)) ((QD ((Qk code).1) ((Qk code).2)).1)) (QaU K code true i) (QaU K code behind1 i)))) (K (Q8 (behind1&&((Qu ((Qk code).1) ((QD ((Qk code).1) ((Qk code).2)).1))==(Qu ((Qk code).1) ((QD ((Qk code).1) ((Qk code).2)).1)))))))):JF K code behind1 i :=
 Loop.of (by kernel_rfl) h
theorem Qpm (code:List Int) (h :
 (zif (JH code) (K (Q8 true)) ((Zn code)∧(zif (!(((QD ((Qk code).1) ((Qk code).2)).2)==(((Qn ((Qk code).1))&&(decide (((Qk code).2)≥(1:Int))))&&(decide (((Qk code).2)≤(((Qk code).1).length:Int)))))) (K (Q8 false)) (zif (!((QD ((Qk code).1) ((Qk code).2)).2)) (K (Q8 ((((QD ((Qk code).1) ((Qk code).2)).1).length:Int)==(0:Int)))) (zif ((!(Qm ((Qk code).1) ((QD ((Qk code).1) ((Qk code).2)).1)))||((((QD ((Qk code).1) ((Qk code).2)).1).length:Int) != (w64 (((Qk code).2)-(1:Int))))) (K (Q8 false)) (JF K code false 0))))))):Hold (tawp Ja (0+0) Qj5 (TQ 0 0 Qgy K) (Qj [(.c (.sl [(.int .u8)]) code)])) :=
 Hold.of (by kernel_rfl) h
theorem l_FnBest_h (code:List Int):TCon Try.prog 10 [(.c (.sl [(.int .u8)]) code)] (Q8 (ZW code)):=by
 refine QG rfl fun hb=>tcg (n:=114) (sg:=Qo4.sg) Qq (TOk.cons QnH (TOk.cons Qo9 (TOk.cons Qjw (TOk.cons Qhw (TOk.cons Qda (TOk.cons Qeh (TOk.cons QkP (TOk.cons Qms (TOk.cons QgZ TOk.nil))))))))) (by kernel_rfl) (by kernel_rfl) (Qpm _ code ?_)
 have hl_code:code.length≤9223372036854775807:=hb.1.1
 refine ⟨fun _=>R_eq rfl,fun hb=>?_⟩
 have hn:=Qjt hb
 have hpost:=QjJ code hn
 obtain ⟨⟨m,k⟩,hr⟩:∃ r,Qk code=r:=⟨_,rfl⟩
 rw [hr]
 simp only
 refine ⟨hn,?_⟩
 have hg0:(Qn m&&decide (k≥1)&&decide (k≤(m.length:Int)))=(Qn m&&m_in k 1 m.length):=by
  rw [Bool.and_assoc];rfl
 rw [hg0]
 by_cases h:(Qn m&&m_in k 1 m.length)=true
 case neg =>
  have e:QD m k=([],false):=by unfold QD;rw [if_neg h]
  rw [e,show (Qn m&&m_in k 1 m.length)=false by simpa using h]
  exact ⟨fun h=>by simp at h,fun _=>⟨fun _=>R_eq rfl,fun h=>by simp at h⟩⟩
 have e2:(QD m k).2=true:=by unfold QD;rw [if_pos h]
 have hF:=QkM h
 rw [e2,h]
 simp only [Bool.and_eq_true,QP] at h
 have hm:=Qa0 h.1
 have hl:=QdW (n:=m.length) (k:=k) (by omega) (by omega) (by omega)
 have hs:=(Qdx (n:=m.length) (k:=k) (by omega) (by omega) (by omega)).2.2
 have hcut:∀ v,v∈Qe m.length k→Qm m v=true:=fun v hv=>by simp only [Qm,h.1,Bool.true_and];exact (hs v hv).1
 obtain ⟨b,hb⟩:∃ b,(QD m k).1=b:=⟨_,rfl⟩
 rw [hb] at hF ⊢
 obtain ⟨pre,post,hL,hpre,hpst⟩:=hF
 have hbm:b∈Qe m.length k:=by rw [hL];simp
 refine ⟨fun h=>by simp at h,fun _=>⟨fun h=>by simp at h,fun _=>⟨fun h2=>?_,fun _=>?_⟩⟩⟩
 ·have h3:=(hs b hbm).2
  rw [hcut b hbm,h3,Qi (by omega) (by omega)] at h2
  simp at h2
 have hget:∀ i,i<(Qe m.length k).length→gtd [] (Qe m.length k) i∈Qe m.length k∧Qu m b≤Qu m (gtd [] (Qe m.length k) i)∧(i<pre.length→Qu m b<Qu m (gtd [] (Qe m.length k) i))∧(i=pre.length→gtd [] (Qe m.length k) i=b):=by
  intro i hi
  have hme:=QaB hi []
  refine ⟨hme,?_,?_,?_⟩
  ·rw [hL] at hme ⊢
   rcases List.mem_append.1 hme with hy | hy
   ·exact Int.le_of_lt (hpre _ hy)
   ·rcases List.mem_cons.1 hy with hy | hy
    ·rw [hy];exact Int.le_refl _
    ·exact hpst _ hy
  ·intro hp
   refine hpre _ ?_
   have:gtd [] (Qe m.length k) i=gtd [] pre i:=by
    rw [hL];simp [gtd,List.getD_eq_getElem?_getD,List.getElem?_append_left hp]
   rw [this]
   exact QaB hp []
  ·intro hp
   rw [hL,hp]
   exact QlT [] pre b post
 have key:JF (fun r'=>r'=Q8 (ZW code)) code (decide (pre.length<0)) ((0:Nat):Int):=by
  refine YU (Qe m.length k).length (fun i=>JF (fun r'=>r'=Q8 (ZW code)) code (decide (pre.length<i)) (i:Int)) ?_ ?_
  ·refine Qid (fun r'=>r'=Q8 (ZW code)) code _ _ ?_
   rw [hr]
   simp only
   rw [hb]
   refine ⟨fun h=>by simp at h,fun _=>R_eq ?_⟩
   have:pre.length<(Qe m.length k).length:=by rw [hL];simp
   simp [ZW,this]
  ·intro i hi ih
   obtain ⟨g1,g2,g3,g4⟩:=hget i hi
   have k4:∀ bh:Bool,bh=decide (pre.length<i+1)→QaU (fun r'=>r'=Q8 (ZW code)) code bh (i:Int):=by
    intro bh hbh
    refine (Qmz (fun r'=>r'=Q8 (ZW code)) code _ _ ?_).h
    conv=>zeta
    rw [hr]
    simp only
    rw [hb,Int.toNat_natCast,hcut _ g1,sc1 (by omega)]
    refine ⟨fun _=>⟨by omega,hi⟩,fun h2=>?_,fun _=>?_⟩
    ·simp only [Bool.not_true,Bool.or_false,Bool.or_eq_true,Bool.and_eq_true,decide_eq_true_eq,beq_iff_eq,Bool.not_eq_true'] at h2
     rcases h2 with h2 | ⟨h2,h3⟩
     ·omega
     ·rw [hbh] at h3
      simp at h3
      have:=g3 (by omega)
      omega
    ·rw [hbh];exact ih
   refine Qid (fun r'=>r'=Q8 (ZW code)) code _ _ ?_
   rw [hr]
   simp only
   rw [hb,Int.toNat_natCast]
   refine ⟨fun _=>⟨⟨by omega,hi⟩,⟨by omega,hi⟩,fun h2=>k4 _ ?_,fun h2=>k4 _ ?_⟩,fun h=>by simp at h;omega⟩
   ·simp only [m_eq,decide_eq_true_eq] at h2
    have:¬ i<pre.length:=by
     intro h3
     have:=g3 h3
     rw [h2] at this
     omega
    simp;omega
   ·have:i≠pre.length:=by
     intro h3
     rw [g4 h3] at h2
     simp [m_eq] at h2
    rw [decide_eq_decide];omega
 simpa using key
end
end Go.Proofs.Ytephkbajoofeoaa.Am

