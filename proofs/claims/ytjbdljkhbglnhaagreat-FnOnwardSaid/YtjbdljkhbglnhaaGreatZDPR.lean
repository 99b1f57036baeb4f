/- -/
import Derived.Test.YtjbdljkhbglnhaaGreatZDPQ
import Derived.Test.YtjbdljkhbglnhaaGreatZDP7
import Derived.Test.YtjbdljkhbglnhaaGreatZDPB
import Derived.Test.YtjbdljkhbglnhaaGreatZDPJ
import Derived.Test.YtjbdljkhbglnhaaGreatZDPA
import Derived.Test.YtjbdljkhbglnhaaGreatZDGE
namespace Go.Proofs.YtjbdljkhbglnhaaGreat.Am
open Go Go.RowKit Go.Proofs.YtjbdljkhbglnhaaGreat
set_option linter.all false
set_option maxHeartbeats 2000000
noncomputable section
variable (K:TRes→Prop)
def QdR (t:Qe):TRes:=zra (.a (Tup.cells QE t))
def QqC:TRow:=Qj 27 [(.a QE),(.c (.sl [TI]))] fun x=>(some (Qkg x.1 x.2.1),QdR (JO x.1 x.2.1))
def QqL:List TRow:=[Qhk,QoL]
def Qsq:TCode :=
 (zsq [(zsq [(.reg [zmv 9 6,zmv 10 1,zle 11 10,zbi 12 .lss 9 11,zmv 13 12,.grp 13 true [zmv 14 6,zbi 15 .lss 14 (zki 2000)] 16 15]),(.cond 16 .skip (.exit 0))]),(.block 1 (.draw [zLd 19 5 4,zmv 20 1,zmv 21 6,zia 22 20 21 [TI],zld 23 22 1,zca 24 92 [19,23],zst 5 24 4] [])),(.reg [zmv 17 6,zbi 18 .add 17 (zki 1),zmv 6 18])])
def QD5:List (Nat × Md):=[(1,.one .d),(4,.b (zds 4)),(5,.b (zds 4)),(6,.one .d)]
def QsY:TCode :=
 (zsq [(.reg [zLd 25 5 4,zst 4 25 4]),.ret])
def QQ3:TCode :=
 (zsq [(.reg [zop 2 (.box 37 0 4),zop 4 (.new 37 (z0s QE))]),(.reg [zLd 7 2 4,zca 8 91 [7],zop 5 (.new 37 (z0s QE)),zst 5 8 4]),(zsq [(.reg [zmv 6 (zki 0)]),(.block 0 (.loop QD5 Qsq))]),QsY])
def QBD:List (ARv × Md):=[(.l 4 4 true,.b (zds 4))]
def Qzy:Qb:=TQ 0 0 QBD K
def QHJ:Qb:=Qseq (tawp QqL 0 QsY (Qzy K)) (Qzy K)
def QFK:Qb:=Qblk 0 (QHJ K)
def QkH (picks:List Int) (i:Int) (x0:List Qr) (x1:List Qc) (x2:List Qd) (x3:List Qd):Prop:=Loop QqL 0 QD5 Qsq (QFK K) ⟨[(1,(zcs [TI] picks)),(4,(.p 0 0 0)),(5,(.p 1 0 0)),(6,(zci i))],[(0,(.box (Tup.cells QE ([],[],[],[])))),(1,(.box (Tup.cells QE (x0,x1,x2,x3))))],2⟩
theorem QDs (picks:List Int) (i:Int) (x0:List Qr) (x1:List Qc) (x2:List Qd) (x3:List Qd) (h :
 (zif ((decide (i<(picks.length:Int)))&&(decide (i<(2000:Int)))) ((((0:Int)≤i∧Int.toNat i<picks.length)∧(Qbe (x0,x1,x2,x3) (gtd (0:Int) picks (Int.toNat i))))∧(QkH K picks (w64 (i+(1:Int))) ((Zy (x0,x1,x2,x3) (gtd (0:Int) picks (Int.toNat i))).1) (List.take (((Zy (x0,x1,x2,x3) (gtd (0:Int) picks (Int.toNat i))).2.1).length) (List.drop 0 ((Zy (x0,x1,x2,x3) (gtd (0:Int) picks (Int.toNat i))).2.1))) (List.take (((Zy (x0,x1,x2,x3) (gtd (0:Int) picks (Int.toNat i))).2.2.1).length) (List.drop 0 ((Zy (x0,x1,x2,x3) (gtd (0:Int) picks (Int.toNat i))).2.2.1))) ((Zy (x0,x1,x2,x3) (gtd (0:Int) picks (Int.toNat i))).2.2.2))) (K (QdR (x0,x1,x2,x3))))):QkH K picks i x0 x1 x2 x3 :=
 Loop.of (by kernel_rfl) h
theorem QVZ (p:Qe) (picks:List Int) (h :
 ((Qu (α:=Qe) p)∧(QkH K picks 0 ((id (α:=Qe) p).1) (List.take (((id (α:=Qe) p).2.1).length) (List.drop 0 ((id (α:=Qe) p).2.1))) (List.take (((id (α:=Qe) p).2.2.1).length) (List.drop 0 ((id (α:=Qe) p).2.2.1))) (List.take (((id (α:=Qe) p).2.2.2).length) (List.drop 0 ((id (α:=Qe) p).2.2.2)))))):Hold (tawp QqL (0+0) QQ3 (TQ 0 0 QBD K) (Qh [(.a (Tup.cells QE p)),(.c (.sl [TI]) picks)])) :=
 Hold.of (by kernel_rfl) h
theorem QS2 (p:Qe) (picks:List Int) (hp:Qkg p picks):TCon Tryz.prog 27 [(.a (Tup.cells QE p)),(.c (.sl [TI]) picks)] (QdR (JO p picks)):=by
 refine Qo rfl fun hb=>tcg (n:=26) (sg:=QqC.sg) Ql (TOk.cons QxW (TOk.cons QPU TOk.nil)) (by kernel_rfl) (by kernel_rfl) (QVZ _ p picks ?_)
 have hl_p_0:(p.1).length≤9223372036854775807:=hb.1.1.1
 have hl_p_1:(p.2.1).length≤9223372036854775807:=hb.1.2.1.1
 have hl_p_2:(p.2.2.1).length≤9223372036854775807:=hb.1.2.2.1.1
 have hl_p_3:(p.2.2.2).length≤9223372036854775807:=hb.1.2.2.2.1.1
 have hl_picks:picks.length≤9223372036854775807:=hb.2.1.1
 have hp':Sz.sz p≤536870912:=hp
 simp only [id,List.drop_zero,List.take_length]
 refine ⟨by unfold Qu;omega,?_⟩
 have hfl:(picks.take 2000).length≤2000:=by simp;omega
 refine Zj (picks.take 2000) (fun r x=>∀ q:Qe,Sz.sz q≤536870912+100*x→Qcn r q=(JO p picks)→QkH (fun r'=>r'=QdR (JO p picks)) picks (x:Int) q.1 q.2.1 q.2.2.1 q.2.2.2) ?_ ?_ p (by omega) rfl
 ·intro q hq he
  refine QDs (fun r'=>r'=QdR (JO p picks)) picks _ _ _ _ _ ⟨fun h=>by simp at h;omega,fun _=>R_eq ?_⟩
  exact he
 ·intro k x r hk hlt hg ih q hq he
  have hps:=Qtc q x
  have hlt2:k<2000∧k<picks.length:=by simp at hlt;omega
  have hg2:gtd 0 picks k=x:=by rw [← QHk hlt2.1];exact hg 0
  refine QDs (fun r'=>r'=QdR (JO p picks)) picks _ _ _ _ _ ⟨fun _=>?_,fun h=>by simp at h;omega⟩
  rw [Int.toNat_natCast,hg2,sc1 (by omega)]
  try simp only [Qam]
  exact ⟨⟨⟨by omega,hlt2.2⟩,by unfold Qbe;show Sz.sz q≤_;omega⟩,ih (Zy q x) (by omega) he⟩
theorem QKj:Qi Tryz.prog QqC:=Qm fun x h=>QS2 x.1 x.2.1 h
def QcM (t:(List Int)):TRes:=zra (zcs [TI] t)
def QnG:TRow:=Qj 32 [(.a QE)] fun x=>(some (Qu (α:=Qe) x.1),QcM (Je x.1))
def QmU:List TRow:=[Qgb]
def Qv0:TCode :=
 (zsq [(.reg [zbi 10 .lss 9 8]),(.cond 10 .skip (.exit 0)),(.block 1 (zsq [(.reg [zmv 11 9,zmv 4 11]),(.reg [zLd 12 1 4,zmv 13 4,zca 14 34 [12,13]]),(.cond 14 (.reg [zmv 15 3,zmv 16 4,zop 17 (.bsl 3 [TI] [16]),zop 18 (.app 15 17 3 [TI]),zmv 3 18]) .skip)])),(.reg [zbi 19 .add 9 (zki 1),zmv 9 19])])
def QBt:List (Nat × Md):=[(1,.b (zds 4)),(3,.one .f),(8,.one .d),(9,.one .d)]
def Qq8:TCode :=
 (zsq [(.reg [zmv 20 3,zmv 2 20]),.ret])
def QXo:TCode :=
 (zsq [(.reg [zop 1 (.box 37 0 4),zmv 2 (.k (.n [TI]))]),(.reg [zop 5 (.bsl 3 [TI] []),zmv 3 5]),(zsq [(.reg [zfa 6 1 1,zld 7 6 1,zle 8 7,zmv 9 (zki 0)]),(.block 0 (.loop QBt Qv0))]),Qq8])
def Qy0:List (ARv × Md):=[(.t 2,.one .d)]
def QzW:Qb:=TQ 0 0 Qy0 K
def QQO:Qb:=Qseq (tawp QmU 0 Qq8 (QzW K)) (QzW K)
def QPa:Qb:=Qblk 0 (QQO K)
def QdD (p:Qe) (x:Int) (l:List Int):Prop:=Loop QmU 0 QBt Qv0 (QPa K) ⟨[(1,(.p 0 0 0)),(3,(.r [TI] 1 0 l.length)),(8,(zci ((p.2.1).length:Int))),(9,(zci x))],[(0,(.box (Tup.cells QE p))),(1,(.sl 3 [TI] true l))],2⟩
theorem Qul (p:Qe) (x:Int) (l:List Int) (h :
 (zif (decide (x<((p.2.1).length:Int))) (zif (Zu p x) (((l.length=l.length∨l.length+1≤l.length)∧l.length+1≤big)∧(QdD K p (w64 (x+(1:Int))) (List.take (l.length+1) ((List.take l.length l)++([x]))))) (QdD K p (w64 (x+(1:Int))) (List.take l.length l))) (K (QcM (List.take l.length (List.drop 0 l)))))):QdD K p x l :=
 Loop.of (by kernel_rfl) h
theorem QLJ (p:Qe) (h :
 (QdD K p 0 ([]:List Int))):Hold (tawp QmU (0+0) QXo (TQ 0 0 Qy0 K) (Qh [(.a (Tup.cells QE p))])) :=
 Hold.of (by kernel_rfl) h
theorem QYQ (p:Qe) (hp:Qu (α:=Qe) p):TCon Tryz.prog 32 [(.a (Tup.cells QE p))] (QcM (Je p)):=by
 refine Qo rfl fun hb=>tcg (n:=21) (sg:=QnG.sg) Ql (TOk.cons QlE TOk.nil) (by kernel_rfl) (by kernel_rfl) (QLJ _ p ?_)
 have hl_p_0:(p.1).length≤9223372036854775807:=hb.1.1.1
 have hl_p_1:(p.2.1).length≤9223372036854775807:=hb.1.2.1.1
 have hl_p_2:(p.2.2.1).length≤9223372036854775807:=hb.1.2.2.1.1
 have hl_p_3:(p.2.2.2).length≤9223372036854775807:=hb.1.2.2.2.1.1
 have hp':Sz.sz p≤2147483648:=hp
 have hs:Sz.sz p=Sz.sz p.1+Sz.sz p.2.1+Sz.sz p.2.2.1+Sz.sz p.2.2.2:=Qa2 p
 have hl:=YP p.2.1
 have hlen:∀ k:Nat,(((List.range k).map fun k:Nat=>(k:Int)).filter fun s=>Zu p s).length≤k:=fun k=>Nat.le_trans (List.length_filter_le _ _) (by simp)
 have hsn:∀ k:Nat,(((List.range (k+1)).map fun k:Nat=>(k:Int)).filter fun s=>Zu p s)=(((List.range k).map fun k:Nat=>(k:Int)).filter fun s=>Zu p s)++(if Zu p (k:Int) then [(k:Int)] else []):=by
  intro k
  rw [List.range_succ,List.map_append,List.filter_append]
  congr 1
  cases he:Zu p (k:Int) <;> simp [he]
 have key:QdD (fun r'=>r'=QcM (Je p)) p ((0:Nat):Int) (((List.range 0).map fun k:Nat=>(k:Int)).filter fun s=>Zu p s):=by
  refine Jb p.2.1.length (fun k=>QdD (fun r'=>r'=QcM (Je p)) p (k:Int) (((List.range k).map fun k:Nat=>(k:Int)).filter fun s=>Zu p s)) ?_ ?_
  ·refine Qul (fun r'=>r'=QcM (Je p)) p _ _ ⟨fun h=>by simp at h,fun _=>R_eq ?_⟩
   rw [Qam];rfl
  ·intro k hk ih
   have:=hlen k
   rw [hsn] at ih
   refine Qul (fun r'=>r'=QcM (Je p)) p _ _ ⟨fun _=>⟨fun he=>⟨room (by omega),?_⟩,fun he=>?_⟩,fun h=>by simp at h;omega⟩
   ·rw [Za,sc1 (by omega)]
    rw [if_pos he] at ih
    exact ih
   ·rw [List.take_length,sc1 (by omega)]
    rw [if_neg (by rw [he];simp),List.append_nil] at ih
    exact ih
 exact key
theorem QGA:Qi Tryz.prog QnG:=Qm fun x h=>QYQ x.1 h
end
end Go.Proofs.YtjbdljkhbglnhaaGreat.Am

