/-
  Written by program: the code of functions, what it asks, and that it comes to what the models say.
-/
import Derived.Test.YtephkbajoofeoaaYBD1
import Derived.Test.YtephkbajoofeoaaYBD5
import Derived.Test.YtephkbajoofeoaaYBPO
import Derived.Test.YtephkbajoofeoaaYBP2
import Derived.Test.YtephkbajoofeoaaYBP1
namespace Go.Proofs.Ytephkbajoofeoaa.Am
open Go Go.RowKit Go.Proofs.Ytephkbajoofeoaa
set_option linter.all false
set_option maxHeartbeats 2000000
noncomputable section
variable (K:TRes→Prop)
def Za (t:Bool):TRes:=zre (zcb t)
def Qgs:TRow:=Qr 5 [(.c (.sl [(.int .u8)]))] fun x=>(none,Za (Zz x.1))
def Qb6:List TRow:=[QbV,QbX,Qb1,JI,Qbf,Y7,QbH,QaA]
def Qc2:TCode :=
 (zsq [(zsq [(.reg [zmv 89 10,zfa 90 3 1,zld 91 90 1,zle 92 91,zbi 93 .lss 89 92]),(.cond 93 .skip (.exit 0))]),(.block 1 (zsq [(.reg [zLd 97 5 2,zca 98 30 [97],zmv 96 98,zex 99 96 0,zex 100 96 1,zex 101 96 2,zop 11 (.new 36 (z0s Qu)),zop 12 (.new 39 (z0s Qd)),zst 11 99 2,zst 12 100 2,zmv 13 101]),(zsq [(.draw [zmv 102 13,zno 103 102,zmv 104 103,.grp 104 false [zfa 105 12 0,zld 106 105 1,zfa 107 3 1,zld 108 107 1,zmv 109 10,zia 110 108 109 Qd,zfa 111 110 0,zld 112 111 1,zbi 113 .neq 106 112] 114 113,zmv 115 114,.grp 115 false [zfa 116 12 1,zld 117 116 1,zfa 118 3 1,zld 119 118 1,zmv 120 10,zia 121 119 120 Qd,zfa 122 121 1,zld 123 122 1,zca 124 33 [117,123],zno 125 124] 126 125] []),(.cond 126 (zsq [(.reg [zmv 2 (zkb false)]),.ret]) .skip)]),(.reg [zLd 127 11 2,zst 5 127 2])])),(.reg [zmv 94 10,zbi 95 .add 94 (zki 1),zmv 10 95])])
def Qcu:List (Nat × Md):=[(3,.b [.d,.d]),(4,.b [.d,.d]),(5,.b [.d,.d]),(10,.one .d)]
def QcR:TCode :=
 (zsq [(.reg [zLd 129 5 2,zca 130 30 [129],zmv 128 130,zex 131 128 0,zex 132 128 1,zex 133 128 2,zop 14 (.new 36 (z0s Qu)),zop 15 (.new 39 (z0s Qd)),zst 14 131 2,zst 15 132 2,zmv 16 133]),(.reg [zLd 135 14 2,zca 136 30 [135],zmv 134 136,zex 137 134 0,zex 138 134 1,zex 139 134 2,zop 17 (.new 36 (z0s Qu)),zop 18 (.new 39 (z0s Qd)),zst 17 137 2,zst 18 138 2,zmv 19 139]),(.reg [zmv 140 16,zmv 141 140,.grp 141 true [zfa 142 15 0,zld 143 142 1,zfa 144 4 0,zld 145 144 1,zbi 146 .eql 143 145] 147 146,zmv 148 147,.grp 148 true [zfa 149 15 1,zld 150 149 1,zfa 151 4 1,zld 152 151 1,zca 153 33 [150,152]] 154 153,zmv 155 154,.grp 155 true [zmv 156 19,zno 157 156] 158 157,zmv 159 158,.grp 159 true [zfa 160 14 1,zld 161 160 1,zle 162 161,zbi 163 .eql 162 (zki 0)] 164 163,zmv 2 164]),.ret])
def Qki:TCode :=
 (zsq [(.reg [zmv 2 (zkb false)]),(zsq [(.reg [zmv 20 0,zca 21 26 [20]]),(.cond 21 (zsq [(.reg [zmv 2 (zkb true)]),.ret]) .skip)]),(.reg [zmv 23 0,zca 24 27 [23],zmv 22 24,zex 25 22 0,zex 26 22 1,zop 3 (.new 36 (z0s Qu)),zop 4 (.new 39 (z0s Qd)),zst 3 25 2,zst 4 26 2]),(.reg [zLd 28 3 2,zLd 29 4 2,zca 30 28 [28,29],zmv 27 30,zex 31 27 0,zex 32 27 1,zop 5 (.new 36 (z0s Qu)),zst 5 31 2,zmv 6 32]),(zsq [(.reg [zLd 33 3 2,zca 34 29 [33],zno 35 34]),(.cond 35 (zsq [(.reg [zLd 37 3 2,zca 38 30 [37],zmv 36 38,zex 39 36 0,zex 40 36 1,zex 41 36 2,zop 7 (.new 36 (z0s Qu)),zop 8 (.new 39 (z0s Qd)),zst 7 39 2,zst 8 40 2,zmv 9 41]),(.reg [zmv 42 6,zno 43 42,zmv 44 43,.grp 44 true [zmv 45 9,zno 46 45] 47 46,zmv 2 47]),.ret]) .skip)]),(zsq [(.reg [zmv 48 6,zfa 49 3 1,zld 50 49 1,zle 51 50,zfa 52 3 0,zld 53 52 1,zbi 54 .lss 51 53,zmv 55 54,.grp 55 true [zfa 56 4 1,zld 57 56 1,zca 58 31 [57]] 59 58,zmv 60 59,.grp 60 true [zfa 61 4 0,zld 62 61 1,zbi 63 .geq 62 (zki 0)] 64 63,zmv 65 64,.grp 65 true [zfa 66 4 0,zld 67 66 1,zbi 68 .lss 67 (zki 5)] 69 68,zop 70 (.eqb true 48 69)]),(.cond 70 (zsq [(.reg [zmv 2 (zkb false)]),.ret]) .skip)]),(zsq [(.reg [zmv 71 6,zno 72 71]),(.cond 72 (zsq [(.reg [zfa 73 5 1,zld 74 73 1,zle 75 74,zfa 76 3 1,zld 77 76 1,zle 78 77,zbi 79 .eql 75 78,zmv 2 79]),.ret]) .skip)]),(zsq [(.draw [zLd 80 5 2,zca 81 32 [80],zLd 82 3 2,zca 83 32 [82],zfa 84 4 1,zld 85 84 1,zle 86 85,zbi 87 .add 83 86,zbi 88 .neq 81 87] [(1,2),(1,4),(3,4),(1,5),(3,5),(1,6),(3,6)]),(.cond 88 (zsq [(.reg [zmv 2 (zkb false)]),.ret]) .skip)]),(zsq [(.reg [zmv 10 (zki 0)]),(.block 0 (.loop Qcu Qc2))]),QcR])
def QcA:List (ARv × Md):=[(.t 2,.one .d)]
def QeF:Qi:=TQ 0 0 QcA K
def QiH:Qi:=Qseq (tawp Qb6 0 QcR (QeF K)) (QeF K)
def Qf3:Qi:=Qblk 0 (QiH K)
def Jj (code:List Int) (i:Int) (y0:Int) (y1:List Qg):Prop:=Loop Qb6 0 Qcu Qc2 (Qf3 K) ⟨[(3,(.p 0 0 0)),(4,(.p 1 0 0)),(5,(.p 2 0 0)),(10,(zci i))],[(0,(.box [(zci (((QS code).1).1)),(zcs Qd (((QS code).1).2))])),(1,(.box [(zci (((QS code).2).1)),(zcs [TI] (((QS code).2).2))])),(2,(.box [(zci y0),(zcs Qd y1)]))],3⟩
theorem Qdf (code:List Int) (i:Int) (y0:Int) (y1:List Qg) (h :
 (zif (decide (i<((((QS code).1).2).length:Int))) ((Qz (α:=Qb) (y0,y1))∧((((!(!((QC (y0,y1)).2.2)))=true→((0:Int)≤i∧Int.toNat i<(((QS code).1).2).length))∧((!((!((QC (y0,y1)).2.2))||((((QC (y0,y1)).2.1).1) != ((gtd ((0,[]):Qg) (((QS code).1).2) (Int.toNat i)).1))))=true→((0:Int)≤i∧Int.toNat i<(((QS code).1).2).length)))∧(zif (((!((QC (y0,y1)).2.2))||((((QC (y0,y1)).2.1).1) != ((gtd ((0,[]):Qg) (((QS code).1).2) (Int.toNat i)).1)))||(!(m_eq (α:=List Int) (((QC (y0,y1)).2.1).2) ((gtd ((0,[]):Qg) (((QS code).1).2) (Int.toNat i)).2)))) (K (Za false)) (Jj K code (w64 (i+(1:Int))) (((QC (y0,y1)).1).1) (((QC (y0,y1)).1).2))))) ((Qz (α:=Qb) (y0,y1))∧((Qz (α:=Qb) ((QC (y0,y1)).1))∧K (Za ((((((QC (y0,y1)).2.2)&&((((QC (y0,y1)).2.1).1)==(((QS code).2).1)))&&(m_eq (α:=List Int) (((QC (y0,y1)).2.1).2) (((QS code).2).2)))&&(!((QC ((QC (y0,y1)).1)).2.2)))&&(((((QC (y0,y1)).1).2).length:Int)==(0:Int)))))))):Jj K code i y0 y1 :=
 Loop.of (by kernel_rfl) h
theorem QgF (code:List Int) (h :
 let z1:=QS code
 let z2:=QQ (z1.1) (z1.2)
 let z3:=List.take (((z2.1).2).length) (List.drop 0 ((z2.1).2))
 (zif (Jc code) (K (Za true)) ((Zf code)∧((Zx (α:=Qb) (β:=Qg) (z1.1) (z1.2))∧(zif (!(Qn (z1.1))) ((Qz (α:=Qb) (z1.1))∧K (Za ((!(z2.2))&&(!((QC (z1.1)).2.2))))) (zif (!((z2.2)==((((decide ((((z1.1).2).length:Int)<((z1.1).1)))&&(QP ((z1.2).2)))&&(decide (((z1.2).1)≥(0:Int))))&&(decide (((z1.2).1)<(5:Int)))))) (K (Za false)) (zif (!(z2.2)) (K (Za (((((z2.1).2).length:Nat):Int)==(((z1.1).2).length:Int)))) (zif ((Zm ((z2.1).1,z3)) != (w64 ((Zm (z1.1))+(((z1.2).2).length:Int)))) (K (Za false)) (Jj K code 0 ((z2.1).1) z3))))))))):Hold (tawp Qb6 (0+0) Qki (TQ 0 0 QcA K) (Ql [(.c (.sl [(.int .u8)]) code)])) :=
 Hold.of (by kernel_rfl) h
theorem l_FnQueues_h (code:List Int):TCon Try.prog 5 [(.c (.sl [(.int .u8)]) code)] (Za (Zz code)):=by
 refine QN rfl fun hb=>tcg (n:=165) (sg:=Qgs.sg) Qv (TOk.cons Qis (TOk.cons Qi0 (TOk.cons Qh6 (TOk.cons Qfh (TOk.cons QhT (TOk.cons Qa6 (TOk.cons Qig (TOk.cons QkU TOk.nil)))))))) (by kernel_rfl) (by kernel_rfl) (QgF _ code ?_)
 have hl_code:code.length≤9223372036854775807:=hb.1.1
 conv=>zeta
 refine ⟨fun _=>R_eq rfl,fun hb=>?_⟩
 have hn:=Qgh hb
 have hpost:=QiK code hn
 obtain ⟨⟨q,x⟩,hr⟩:∃ r,QS code=r:=⟨_,rfl⟩
 rw [hr] at hpost ⊢
 simp only
 refine ⟨hn,?_⟩
 obtain ⟨hq,hx7⟩:=hpost
 simp only at hq hx7
 have hsq:=Qi7 hq
 have hsx:Sz.sz x≤7:=by have:=ZU x.2;simp only [Zo,Q7];omega
 refine ⟨by unfold Zx;omega,fun h=>⟨by unfold Qz;omega,R_eq ?_⟩,fun h=>?_⟩
 ·simp only [Bool.not_eq_true'] at h
  simp [QQ,QC,h,Zz]
 simp only [Bool.not_eq_false'] at h
 by_cases hc:QA x=true∧(q.2.length:Int)<q.1
 case neg =>
  have e1:QQ q x=(q,false):=by
   have:¬ (Qn q&&QA x&&decide ((q.2.length:Int)<q.1))=true:=by simpa [h] using hc
   simp only [QQ,this];rfl
  have e2:(((decide ((q.2.length:Int)<q.1)&&QP x.2)&&decide (x.1≥0))&&decide (x.1<5))=false:=by
   rw [← Bool.not_eq_true]
   intro h3
   simp only [Bool.and_eq_true,decide_eq_true_eq] at h3
   exact hc ⟨by rw [Qd5];simp [h3.1.1.2];omega,h3.1.1.1⟩
  rw [e1,e2]
  exact ⟨fun h=>by simp at h,fun _=>⟨fun _=>R_eq (by simp [Zz]),fun h=>by simp at h⟩⟩
 case pos =>
  have e2:(((decide ((q.2.length:Int)<q.1)&&QP x.2)&&decide (x.1≥0))&&decide (x.1<5))=true:=by
   have h3:=hc.1
   rw [Qd5] at h3
   simp only [Bool.and_eq_true,decide_eq_true_eq] at h3 ⊢
   exact ⟨⟨⟨hc.2,h3.1.1⟩,h3.1.2⟩,h3.2⟩
  rw [Qie h hc.1 hc.2,e2]
  simp only [QcC]
  refine ⟨fun h=>by simp at h,fun _=>⟨fun h=>by simp at h,fun _=>⟨fun h3=>?_,fun _=>?_⟩⟩⟩
  ·rw [Qin h hc.1 hc.2] at h3;simp at h3
  have lim:∀ k,Qz (α:=Qb) (q.1,q.2.drop k++[x]):=by
   intro k
   have h3:∀ y,y∈q.2.drop k++[x]→y.2.length≤7:=by
    intro y hy
    rcases List.mem_append.1 hy with hy | hy
    ·exact hq.2.2 y (List.mem_of_mem_drop hy)
    ·rw [List.mem_singleton.1 hy];exact hx7
   have h4:=Qcf h3
   have h5:=hq.1
   unfold Qz
   simp only [Qfs,Q7,List.length_append,List.length_drop,List.length_singleton] at h4 ⊢
   omega
  have key:Jj (fun r'=>r'=Za (Zz code)) code ((0:Nat):Int) q.1 (q.2.drop 0++[x]):=by
   refine Qb7 q.2.length (fun k=>Jj (fun r'=>r'=Za (Zz code)) code (k:Int) q.1 (q.2.drop k++[x])) ?_ ?_
   ·refine Qdf (fun r'=>r'=Za (Zz code)) code _ _ _ ?_
    rw [hr,Qd1 h hc.1 hc.2]
    refine ⟨fun h=>by simp at h,fun _=>⟨lim _,?_,R_eq ?_⟩⟩
    ·simp [Qz]
    ·simp [QiA,m_eq,gtd,Zz]
   ·intro k hk ih
    have ht:(q.2.drop k++[x]).tail=q.2.drop (k+1)++[x]:=by rw [List.drop_eq_getElem_cons hk];rfl
    have hh:gtd (0,[]) (q.2.drop k++[x]) 0=gtd (0,[]) q.2 k:=by
     rw [List.drop_eq_getElem_cons hk,List.cons_append,QkD]
     exact (Qim (List.getElem?_eq_getElem hk) _).symm
    refine Qdf (fun r'=>r'=Za (Zz code)) code _ _ _ ?_
    rw [hr,Qd1 h hc.1 hc.2]
    refine ⟨fun _=>⟨lim _,⟨fun _=>⟨by omega,by simpa using hk⟩,fun _=>⟨by omega,by simpa using hk⟩⟩,fun h=>?_,fun _=>?_⟩,fun h=>by simp at h;omega⟩
    ·simp only [Int.toNat_natCast] at h
     rw [hh] at h
     simp [m_eq] at h
    ·rw [sc1 (by have:=hq.1;omega)]
     simp only [ht]
     exact ih
  rw [List.drop_zero] at key
  exact key
end
end Go.Proofs.Ytephkbajoofeoaa.Am

