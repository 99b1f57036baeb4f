/- -/
import Derived.Test.YtjbdljkhbglnhaaGreatZEPQ
import Derived.Test.YtjbdljkhbglnhaaGreatZEP7
import Derived.Test.YtjbdljkhbglnhaaGreatZEG8
import Derived.Test.YtjbdljkhbglnhaaGreatZEPJ
import Derived.Test.YtjbdljkhbglnhaaGreatZEPA
import Derived.Test.YtjbdljkhbglnhaaGreatZEGE
namespace Go.Proofs.YtjbdljkhbglnhaaGreat.Am
open Go Go.RowKit Go.Proofs.YtjbdljkhbglnhaaGreat
set_option linter.all false
set_option maxHeartbeats 2000000
noncomputable section
variable (K:TRes→Prop)
def Qev (t:Qe):TRes:=zra (.a (Tup.cells QF t))
def QmE:TRow:=Qk 27 [(.a QF),(.c (.sl [TI]))] fun x=>(some (QjN x.1 x.2.1),Qev (Jq x.1 x.2.1))
def QnC:List TRow:=[QjG,Qmz]
def Qt3:TCode :=
 (zsq [(zsq [(.reg [zmv 9 6,zmv 10 1,zle 11 10,zbi 12 .lss 9 11,zmv 13 12,.grp 13 true [zmv 14 6,zbi 15 .lss 14 (zki 2000)] 16 15]),(.cond 16 .skip (.exit 0))]),(.block 1 (.draw [zLd 19 5 4,zmv 20 1,zmv 21 6,zia 22 20 21 [TI],zld 23 22 1,zca 24 92 [19,23],zst 5 24 4] [])),(.reg [zmv 17 6,zbi 18 .add 17 (zki 1),zmv 6 18])])
def QC1:List (Nat × Md):=[(1,.one .d),(4,.b (zds 4)),(5,.b (zds 4)),(6,.one .d)]
def QCl:TCode :=
 (zsq [(.reg [zLd 25 5 4,zst 4 25 4]),.ret])
def QN7:TCode :=
 (zsq [(.reg [zop 2 (.box 37 0 4),zop 4 (.new 37 (z0s QF))]),(.reg [zLd 7 2 4,zca 8 91 [7],zop 5 (.new 37 (z0s QF)),zst 5 8 4]),(zsq [(.reg [zmv 6 (zki 0)]),(.block 0 (.loop QC1 Qt3))]),QCl])
def QDN:List (ARv × Md):=[(.l 4 4 true,.b (zds 4))]
def QC0:Qb:=TQ 0 0 QDN K
def QGt:Qb:=Qseq (tawp QnC 0 QCl (QC0 K)) (QC0 K)
def QFq:Qb:=Qblk 0 (QGt K)
def Qhl (picks:List Int) (i:Int) (x0:List Qt) (x1:List Qc) (x2:List Qd) (x3:List Qd):Prop:=Loop QnC 0 QC1 Qt3 (QFq K) ⟨[(1,(zcs [TI] picks)),(4,(.p 0 0 0)),(5,(.p 1 0 0)),(6,(zci i))],[(0,(.box (Tup.cells QF ([],[],[],[])))),(1,(.box (Tup.cells QF (x0,x1,x2,x3))))],2⟩
theorem Qv9 (picks:List Int) (i:Int) (x0:List Qt) (x1:List Qc) (x2:List Qd) (x3:List Qd) (h :
 (zif ((decide (i<(picks.length:Int)))&&(decide (i<(2000:Int)))) ((((0:Int)≤i∧Int.toNat i<picks.length)∧(JC (x0,x1,x2,x3) (gtd (0:Int) picks (Int.toNat i))))∧(Qhl K picks (w64 (i+(1:Int))) ((Zd (x0,x1,x2,x3) (gtd (0:Int) picks (Int.toNat i))).1) (List.take (((Zd (x0,x1,x2,x3) (gtd (0:Int) picks (Int.toNat i))).2.1).length) (List.drop 0 ((Zd (x0,x1,x2,x3) (gtd (0:Int) picks (Int.toNat i))).2.1))) (List.take (((Zd (x0,x1,x2,x3) (gtd (0:Int) picks (Int.toNat i))).2.2.1).length) (List.drop 0 ((Zd (x0,x1,x2,x3) (gtd (0:Int) picks (Int.toNat i))).2.2.1))) ((Zd (x0,x1,x2,x3) (gtd (0:Int) picks (Int.toNat i))).2.2.2))) (K (Qev (x0,x1,x2,x3))))):Qhl K picks i x0 x1 x2 x3 :=
 Loop.of (by kernel_rfl) h
theorem QGn (p:Qe) (picks:List Int) (h :
 ((Qu (α:=Qe) p)∧(Qhl K picks 0 ((id (α:=Qe) p).1) (List.take (((id (α:=Qe) p).2.1).length) (List.drop 0 ((id (α:=Qe) p).2.1))) (List.take (((id (α:=Qe) p).2.2.1).length) (List.drop 0 ((id (α:=Qe) p).2.2.1))) (List.take (((id (α:=Qe) p).2.2.2).length) (List.drop 0 ((id (α:=Qe) p).2.2.2)))))):Hold (tawp QnC (0+0) QN7 (TQ 0 0 QDN K) (Qg [(.a (Tup.cells QF p)),(.c (.sl [TI]) picks)])) :=
 Hold.of (by kernel_rfl) h
theorem QU9 (p:Qe) (picks:List Int) (hp:QjN p picks):TCon Tryz.prog 27 [(.a (Tup.cells QF p)),(.c (.sl [TI]) picks)] (Qev (Jq p picks)):=by
 refine Qo rfl fun hb=>tcg (n:=26) (sg:=QmE.sg) Qm (TOk.cons QwP (TOk.cons QVT TOk.nil)) (by kernel_rfl) (by kernel_rfl) (QGn _ p picks ?_)
 have hl_p_0:(p.1).length≤9223372036854775807:=hb.1.1.1
 have hl_p_1:(p.2.1).length≤9223372036854775807:=hb.1.2.1.1
 have hl_p_2:(p.2.2.1).length≤9223372036854775807:=hb.1.2.2.1.1
 have hl_p_3:(p.2.2.2).length≤9223372036854775807:=hb.1.2.2.2.1.1
 have hl_picks:picks.length≤9223372036854775807:=hb.2.1.1
 have hp':Sz.sz p≤536870912:=hp
 simp only [id,List.drop_zero,List.take_length]
 refine ⟨by unfold Qu;omega,?_⟩
 have hfl:(picks.take 2000).length≤2000:=by simp;omega
 refine Zp (picks.take 2000) (fun r x=>∀ q:Qe,Sz.sz q≤536870912+100*x→QbX r q=(Jq p picks)→Qhl (fun r'=>r'=Qev (Jq p picks)) picks (x:Int) q.1 q.2.1 q.2.2.1 q.2.2.2) ?_ ?_ p (by omega) rfl
 ·intro q hq he
  refine Qv9 (fun r'=>r'=Qev (Jq p picks)) picks _ _ _ _ _ ⟨fun h=>by simp at h;omega,fun _=>R_eq ?_⟩
  exact he
 ·intro k x r hk hlt hg ih q hq he
  have hps:=Qgf q x
  have hlt2:k<2000∧k<picks.length:=by simp at hlt;omega
  have hg2:gtd 0 picks k=x:=by rw [← QTJ hlt2.1];exact hg 0
  refine Qv9 (fun r'=>r'=Qev (Jq p picks)) picks _ _ _ _ _ ⟨fun _=>?_,fun h=>by simp at h;omega⟩
  rw [Int.toNat_natCast,hg2,sc1 (by omega)]
  try simp only [JI]
  exact ⟨⟨⟨by omega,hlt2.2⟩,by unfold JC;show Sz.sz q≤_;omega⟩,ih (Zd q x) (by omega) he⟩
theorem QQC:Qj Tryz.prog QmE:=Qn fun x h=>QU9 x.1 x.2.1 h
def Qc9 (t:(List Int)):TRes:=zra (zcs [TI] t)
def QqG:TRow:=Qk 32 [(.a QF)] fun x=>(some (Qu (α:=Qe) x.1),Qc9 (ZM x.1))
def QkN:List TRow:=[Qe1]
def QyT:TCode :=
 (zsq [(.reg [zbi 10 .lss 9 8]),(.cond 10 .skip (.exit 0)),(.block 1 (zsq [(.reg [zmv 11 9,zmv 4 11]),(.reg [zLd 12 1 4,zmv 13 4,zca 14 34 [12,13]]),(.cond 14 (.reg [zmv 15 3,zmv 16 4,zop 17 (.bsl 3 [TI] [16]),zop 18 (.app 15 17 3 [TI]),zmv 3 18]) .skip)])),(.reg [zbi 19 .add 9 (zki 1),zmv 9 19])])
def Qs7:List (Nat × Md):=[(1,.b (zds 4)),(3,.one .f),(8,.one .d),(9,.one .d)]
def QxX:TCode :=
 (zsq [(.reg [zmv 20 3,zmv 2 20]),.ret])
def QLK:TCode :=
 (zsq [(.reg [zop 1 (.box 37 0 4),zmv 2 (.k (.n [TI]))]),(.reg [zop 5 (.bsl 3 [TI] []),zmv 3 5]),(zsq [(.reg [zfa 6 1 1,zld 7 6 1,zle 8 7,zmv 9 (zki 0)]),(.block 0 (.loop Qs7 QyT))]),QxX])
def QDq:List (ARv × Md):=[(.t 2,.one .d)]
def Qzt:Qb:=TQ 0 0 QDq K
def QRt:Qb:=Qseq (tawp QkN 0 QxX (Qzt K)) (Qzt K)
def QRM:Qb:=Qblk 0 (QRt K)
def QdH (p:Qe) (x:Int) (l:List Int):Prop:=Loop QkN 0 Qs7 QyT (QRM K) ⟨[(1,(.p 0 0 0)),(3,(.r [TI] 1 0 l.length)),(8,(zci ((p.2.1).length:Int))),(9,(zci x))],[(0,(.box (Tup.cells QF p))),(1,(.sl 3 [TI] true l))],2⟩
theorem Qvl (p:Qe) (x:Int) (l:List Int) (h :
 (zif (decide (x<((p.2.1).length:Int))) (zif (Za p x) (((l.length=l.length∨l.length+1≤l.length)∧l.length+1≤big)∧(QdH K p (w64 (x+(1:Int))) (List.take (l.length+1) ((List.take l.length l)++([x]))))) (QdH K p (w64 (x+(1:Int))) (List.take l.length l))) (K (Qc9 (List.take l.length (List.drop 0 l)))))):QdH K p x l :=
 Loop.of (by kernel_rfl) h
theorem QVH (p:Qe) (h :
 (QdH K p 0 ([]:List Int))):Hold (tawp QkN (0+0) QLK (TQ 0 0 QDq K) (Qg [(.a (Tup.cells QF p))])) :=
 Hold.of (by kernel_rfl) h
theorem QY5 (p:Qe) (hp:Qu (α:=Qe) p):TCon Tryz.prog 32 [(.a (Tup.cells QF p))] (Qc9 (ZM p)):=by
 refine Qo rfl fun hb=>tcg (n:=21) (sg:=QqG.sg) Qm (TOk.cons QmF TOk.nil) (by kernel_rfl) (by kernel_rfl) (QVH _ p ?_)
 have hl_p_0:(p.1).length≤9223372036854775807:=hb.1.1.1
 have hl_p_1:(p.2.1).length≤9223372036854775807:=hb.1.2.1.1
 have hl_p_2:(p.2.2.1).length≤9223372036854775807:=hb.1.2.2.1.1
 have hl_p_3:(p.2.2.2).length≤9223372036854775807:=hb.1.2.2.2.1.1
 have hp':Sz.sz p≤2147483648:=hp
 have hs:Sz.sz p=Sz.sz p.1+Sz.sz p.2.1+Sz.sz p.2.2.1+Sz.sz p.2.2.2:=QaH p
 have hl:=YF p.2.1
 have hlen:∀ k:Nat,(((List.range k).map fun k:Nat=>(k:Int)).filter fun s=>Za p s).length≤k:=fun k=>Nat.le_trans (List.length_filter_le _ _) (by simp)
 have hsn:∀ k:Nat,(((List.range (k+1)).map fun k:Nat=>(k:Int)).filter fun s=>Za p s)=(((List.range k).map fun k:Nat=>(k:Int)).filter fun s=>Za p s)++(if Za p (k:Int) then [(k:Int)] else []):=by
  intro k
  rw [List.range_succ,List.map_append,List.filter_append]
  congr 1
  cases he:Za p (k:Int) <;> simp [he]
 have key:QdH (fun r'=>r'=Qc9 (ZM p)) p ((0:Nat):Int) (((List.range 0).map fun k:Nat=>(k:Int)).filter fun s=>Za p s):=by
  refine Y4 p.2.1.length (fun k=>QdH (fun r'=>r'=Qc9 (ZM p)) p (k:Int) (((List.range k).map fun k:Nat=>(k:Int)).filter fun s=>Za p s)) ?_ ?_
  ·refine Qvl (fun r'=>r'=Qc9 (ZM p)) p _ _ ⟨fun h=>by simp at h,fun _=>R_eq ?_⟩
   rw [JI];rfl
  ·intro k hk ih
   have:=hlen k
   rw [hsn] at ih
   refine Qvl (fun r'=>r'=Qc9 (ZM p)) p _ _ ⟨fun _=>⟨fun he=>⟨room (by omega),?_⟩,fun he=>?_⟩,fun h=>by simp at h;omega⟩
   ·rw [Q8,sc1 (by omega)]
    rw [if_pos he] at ih
    exact ih
   ·rw [List.take_length,sc1 (by omega)]
    rw [if_neg (by rw [he];simp),List.append_nil] at ih
    exact ih
 exact key
theorem QSO:Qj Tryz.prog QqG:=Qn fun x h=>QY5 x.1 h
def Qcs (t:(List Int)):TRes:=zra (zcs [TI] t)
def QmV:TRow:=Qk 30 [(.a QF)] fun x=>(some (Qu (α:=Qe) x.1),Qcs (ZM x.1))
def Qoj:List TRow:=[Qkb]
def QAF:TCode :=
 (zsq [(zsq [(.reg [zmv 6 4,zfa 7 1 1,zld 8 7 1,zle 9 8,zbi 10 .lss 6 9]),(.cond 10 .skip (.exit 0))]),(.block 1 (zsq [(.reg [zLd 13 1 4,zmv 14 4,zca 15 95 [13,14]]),(.cond 15 (.reg [zmv 16 3,zmv 17 4,zop 18 (.bsl 3 [TI] [17]),zop 19 (.app 16 18 3 [TI]),zmv 3 19]) .skip)])),(.reg [zmv 11 4,zbi 12 .add 11 (zki 1),zmv 4 12])])
def QBK:List (Nat × Md):=[(1,.b (zds 4)),(3,.one .f),(4,.one .d)]
def QrU:TCode :=
 (zsq [(.reg [zmv 20 3,zmv 2 20]),.ret])
def QL2:TCode :=
 (zsq [(.reg [zop 1 (.box 37 0 4),zmv 2 (.k (.n [TI]))]),(.reg [zop 5 (.bsl 3 [TI] []),zmv 3 5]),(zsq [(.reg [zmv 4 (zki 0)]),(.block 0 (.loop QBK QAF))]),QrU])
def QCE:List (ARv × Md):=[(.t 2,.one .d)]
def Qrr:Qb:=TQ 0 0 QCE K
def QM5:Qb:=Qseq (tawp Qoj 0 QrU (Qrr K)) (Qrr K)
def QUl:Qb:=Qblk 0 (QM5 K)
def Qed (p:Qe) (s:Int) (out:List Int):Prop:=Loop Qoj 0 QBK QAF (QUl K) ⟨[(1,(.p 0 0 0)),(3,(.r [TI] 1 0 out.length)),(4,(zci s))],[(0,(.box (Tup.cells QF p))),(1,(.sl 3 [TI] true out))],2⟩
theorem QwB (p:Qe) (s:Int) (out:List Int) (h :
 (zif (decide (s<((p.2.1).length:Int))) (zif (Za p s) (((out.length=out.length∨out.length+1≤out.length)∧out.length+1≤big)∧(Qed K p (w64 (s+(1:Int))) (List.take (out.length+1) ((List.take out.length out)++([s]))))) (Qed K p (w64 (s+(1:Int))) (List.take out.length out))) (K (Qcs (List.take out.length (List.drop 0 out)))))):Qed K p s out :=
 Loop.of (by kernel_rfl) h
theorem QRw (p:Qe) (h :
 (Qed K p 0 ([]:List Int))):Hold (tawp Qoj (0+0) QL2 (TQ 0 0 QCE K) (Qg [(.a (Tup.cells QF p))])) :=
 Hold.of (by kernel_rfl) h
theorem QJG (p:Qe) (hp:Qu (α:=Qe) p):TCon Tryz.prog 30 [(.a (Tup.cells QF p))] (Qcs (ZM p)):=by
 refine Qo rfl fun hb=>tcg (n:=21) (sg:=QmV.sg) Qm (TOk.cons Qtm TOk.nil) (by kernel_rfl) (by kernel_rfl) (QRw _ p ?_)
 have hl_p_0:(p.1).length≤9223372036854775807:=hb.1.1.1
 have hl_p_1:(p.2.1).length≤9223372036854775807:=hb.1.2.1.1
 have hl_p_2:(p.2.2.1).length≤9223372036854775807:=hb.1.2.2.1.1
 have hl_p_3:(p.2.2.2).length≤9223372036854775807:=hb.1.2.2.2.1.1
 have hp':Sz.sz p≤2147483648:=hp
 have hs:Sz.sz p=Sz.sz p.1+Sz.sz p.2.1+Sz.sz p.2.2.1+Sz.sz p.2.2.2:=QaH p
 have hl:=YF p.2.1
 have hlen:∀ k:Nat,(((List.range k).map fun k:Nat=>(k:Int)).filter fun s=>Za p s).length≤k:=fun k=>Nat.le_trans (List.length_filter_le _ _) (by simp)
 have hsn:∀ k:Nat,(((List.range (k+1)).map fun k:Nat=>(k:Int)).filter fun s=>Za p s)=(((List.range k).map fun k:Nat=>(k:Int)).filter fun s=>Za p s)++(if Za p (k:Int) then [(k:Int)] else []):=by
  intro k
  rw [List.range_succ,List.map_append,List.filter_append]
  congr 1
  cases he:Za p (k:Int) <;> simp [he]
 have key:Qed (fun r'=>r'=Qcs (ZM p)) p ((0:Nat):Int) (((List.range 0).map fun k:Nat=>(k:Int)).filter fun s=>Za p s):=by
  refine Y4 p.2.1.length (fun k=>Qed (fun r'=>r'=Qcs (ZM p)) p (k:Int) (((List.range k).map fun k:Nat=>(k:Int)).filter fun s=>Za p s)) ?_ ?_
  ·refine QwB (fun r'=>r'=Qcs (ZM p)) p _ _ ⟨fun h=>by simp at h,fun _=>R_eq ?_⟩
   rw [JI];rfl
  ·intro k hk ih
   have:=hlen k
   rw [hsn] at ih
   refine QwB (fun r'=>r'=Qcs (ZM p)) p _ _ ⟨fun _=>⟨fun he=>⟨room (by omega),?_⟩,fun he=>?_⟩,fun h=>by simp at h;omega⟩
   ·rw [Q8,sc1 (by omega)]
    rw [if_pos he] at ih
    exact ih
   ·rw [List.take_length,sc1 (by omega)]
    rw [if_neg (by rw [he];simp),List.append_nil] at ih
    exact ih
 exact key
theorem QLB:Qj Tryz.prog QmV:=Qn fun x h=>QJG x.1 h
end
end Go.Proofs.YtjbdljkhbglnhaaGreat.Am

