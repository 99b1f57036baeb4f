/- -/
import Derived.Test.YtjbdljkhbglnhaaGreatZHPQ
import Derived.Test.YtjbdljkhbglnhaaGreatZHP7
import Derived.Test.YtjbdljkhbglnhaaGreatZHPB
import Derived.Test.YtjbdljkhbglnhaaGreatZHPJ
import Derived.Test.YtjbdljkhbglnhaaGreatZHPA
import Derived.Test.YtjbdljkhbglnhaaGreatZHGE
namespace Go.Proofs.YtjbdljkhbglnhaaGreat.Am
open Go Go.RowKit Go.Proofs.YtjbdljkhbglnhaaGreat
set_option linter.all false
set_option maxHeartbeats 2000000
noncomputable section
variable (K:TRes→Prop)
def QcB (t:QZ):TRes:=zra (.a (Tup.cells Zd t))
def QkP:TRow:=Qg 25 [(.a Q9)] fun x=>(some (Qnq x.1),QcB (JG x.1))
def Qm2:List TRow:=[Qi1,Qdu]
def QsJ:TCode :=
 (zsq [(.reg [zbi 15 .lss 14 13]),(.cond 15 .skip (.exit 0)),(.block 1 (zsq [(.reg [zia 16 12 14 Qx,zLd 17 16 14,zop 5 (.new 63 (z0s Qx)),zst 5 17 14]),(.draw [zfa 18 3 0,zld 19 18 1,zfa 20 5 11,zfa 21 20 0,zld 22 21 1,zca 23 86 [22],zop 24 (.app 19 23 129 [(.sl [TI])]),zfa 25 3 0,zst 25 24 1] [(0,5),(1,5)]),(.reg [zfa 26 3 2,zld 27 26 1,zmv 28 27,.grp 28 false [zfa 29 5 11,zfa 30 29 2,zld 31 30 1] 32 31,zfa 33 3 2,zst 33 32 1]),(.reg [zfa 34 5 11,zfa 35 34 1,zld 36 35 1,zfa 37 3 1,zst 37 36 1])])),(.reg [zbi 38 .add 14 (zki 1),zmv 14 38])])
def Qr8:List (Nat × Md):=[(2,.b [.d,.d,.d]),(3,.b [.o 129,.d,.d]),(12,.one .d),(13,.one .d),(14,.one .d)]
def Qtc:TCode :=
 (zsq [(.reg [zLd 39 3 3,zst 2 39 3]),.ret])
def QDB:TCode :=
 (zsq [(.reg [zop 1 (.box 37 0 4),zop 2 (.new 46 (z0s Zd))]),(zsq [(.reg [zLd 6 1 4,zca 7 23 [6],zno 8 7]),(.cond 8 (zsq [(.reg [zop 9 (.build (z0s Zd) []),zst 2 9 3]),.ret]) .skip)]),(.reg [zop 10 (.build (z0s Zd) []),zop 3 (.new 46 (z0s Zd)),zst 3 10 3]),(zsq [(.reg [zfa 11 1 1,zld 12 11 1,zle 13 12,zmv 14 (zki 0)]),(.block 0 (.loop Qr8 QsJ))]),Qtc])
def QyA:List (ARv × Md):=[(.l 2 3 true,.b [.d,.d,.d])]
def QpA:Qb:=TQ 0 0 QyA K
def QNR:Qb:=Qseq (tawp Qm2 0 Qtc (QpA K)) (QpA K)
def QJV:Qb:=Qblk 0 (QNR K)
def Qgi (p:Qr) (x:Int) (g0:List (List Int)) (g1:Int) (g2:Bool):Prop:=Loop Qm2 0 Qr8 QsJ (QJV K) ⟨[(2,(.p 0 0 0)),(3,(.p 2 0 0)),(12,(zcs Qx p.2.1)),(13,(zci ((p.2.1).length:Int))),(14,(zci x))],[(0,(.box (Tup.cells Zd ([],(0:Int),false)))),(1,(.sl 129 [(.sl [TI])] true g0)),(2,(.box [(.r [(.sl [TI])] 1 0 g0.length),(zci g1),(zcb g2)]))],3⟩
theorem QwZ (p:Qr) (x:Int) (g0:List (List Int)) (g1:Int) (g2:Bool) (h :
 (zif (decide (x<((p.2.1).length:Int))) (((0:Int)≤x∧Int.toNat x<(p.2.1).length)∧(((QI (α:=List (List Int)) ((gtd QQ p.2.1 (Int.toNat x)).2.2.2.2.2.2.2.2.2.2.2.1))∧((g0.length=g0.length∨g0.length+(id (α:=List (List Int)) ((gtd QQ p.2.1 (Int.toNat x)).2.2.2.2.2.2.2.2.2.2.2.1)).length≤g0.length)∧g0.length+(id (α:=List (List Int)) ((gtd QQ p.2.1 (Int.toNat x)).2.2.2.2.2.2.2.2.2.2.2.1)).length≤big))∧(Qgi K p (w64 (x+(1:Int))) (List.take (g0.length+(id (α:=List (List Int)) ((gtd QQ p.2.1 (Int.toNat x)).2.2.2.2.2.2.2.2.2.2.2.1)).length) ((List.take g0.length g0)++(id (α:=List (List Int)) ((gtd QQ p.2.1 (Int.toNat x)).2.2.2.2.2.2.2.2.2.2.2.1)))) ((gtd QQ p.2.1 (Int.toNat x)).2.2.2.2.2.2.2.2.2.2.2.2.1) (g2||((gtd QQ p.2.1 (Int.toNat x)).2.2.2.2.2.2.2.2.2.2.2.2.2))))) (K (QcB ((List.take g0.length (List.drop 0 g0)),g1,g2))))):Qgi K p x g0 g1 g2 :=
 Loop.of (by kernel_rfl) h
theorem QIn (p:Qr) (h :
 (zif (!(Ji p)) (K (QcB ([],(0:Int),false))) (Qgi K p 0 ([]:List (List Int)) 0 false))):Hold (tawp Qm2 (0+0) QDB (TQ 0 0 QyA K) (Qf [(.a (Tup.cells Q9 p))])) :=
 Hold.of (by kernel_rfl) h
theorem QAu (p:Qr) (hp:Qnq p):TCon Tryz.prog 25 [(.a (Tup.cells Q9 p))] (QcB (JG p)):=by
 refine Qq rfl fun hb=>tcg (n:=40) (sg:=QkP.sg) Qj (TOk.cons Qry (TOk.cons Qf8 TOk.nil)) (by kernel_rfl) (by kernel_rfl) (QIn _ p ?_)
 have hl_p_0:(p.1).length≤9223372036854775807:=hb.1.1.1
 have hl_p_1:(p.2.1).length≤9223372036854775807:=hb.1.2.1.1
 have hl_p_2:(p.2.2.1).length≤9223372036854775807:=hb.1.2.2.1.1
 have hl_p_3:(p.2.2.2).length≤9223372036854775807:=hb.1.2.2.2.1.1
 obtain ⟨hp',hpl⟩:=hp
 have hs:Sz.sz p=Sz.sz p.1+Sz.sz p.2.1+Sz.sz p.2.2.1+Sz.sz p.2.2.2:=Qd4 p
 have hl:=Qas p.2.1
 refine ⟨fun h=>R_eq ?_,fun h=>?_⟩
 ·unfold JG;rw [if_neg (by simpa using h)]
 have hM:(JG p)=((QE p).flatMap QD,(((QE p).map QC).getLast?).getD 0,(QE p).any sSat):=by unfold JG;rw [if_pos (by simpa using h)]
 refine ZL p.2.1 (fun r k=>∀ (g0:List (List Int)) (g1:Int) (g2:Bool),g0.length+Sz.sz r≤Sz.sz p.2.1→(g0++r.flatMap QD,((r.map QC).getLast?).getD g1,g2||r.any sSat)=(JG p)→Qgi (fun r'=>r'=QcB (JG p)) p (k:Int) g0 g1 g2) ?_ ?_ [] 0 false (by simp) (by rw [hM];simp)
 ·intro g0 g1 g2 hz he
  refine QwZ (fun r'=>r'=QcB (JG p)) p _ _ _ _ ⟨fun h=>by simp at h,fun _=>R_eq ?_⟩
  rw [← he,JP];simp
 ·intro k x r hk hlt hg ih g0 g1 g2 hz he
  have hx:=Yl x
  have hxr:=Qas (QD x)
  simp only [Jg] at hz
  refine QwZ (fun r'=>r'=QcB (JG p)) p _ _ _ _ ⟨fun _=>?_,fun h=>by simp at h;omega⟩
  rw [Int.toNat_natCast,hg,sc1 (by omega)]
  simp only [id]
  rw [Qwm]
  refine ⟨⟨by omega,hlt⟩,⟨by unfold QI;((try simp only [sPc,QG,sOps,Qu,QF,Qi,QK,sX,sY,sG,sD,QD,QC,sSat,QN,QE,Qz,QA] at *);omega),by simp [Zi];((try simp only [sPc,QG,sOps,Qu,QF,Qi,QK,sX,sY,sG,sD,QD,QC,sSat,QN,QE,Qz,QA] at *);omega)⟩,ih _ _ _ (by simp only [List.length_append];((try simp only [sPc,QG,sOps,Qu,QF,Qi,QK,sX,sY,sG,sD,QD,QC,sSat,QN,QE,Qz,QA] at *);omega)) ?_⟩
  rw [← he]
  refine Prod.ext (by simp) (Prod.ext ?_ (by simp [Bool.or_assoc]))
  show (((r.map QC).getLast?).getD (QC x))=((((x::r).map QC).getLast?).getD g1)
  cases r with
  | nil=>rfl
  | cons y r=>simp [List.getLast?_cons_cons,List.getLast?_cons]
theorem QF1:Qh Tryz.prog QkP:=Qk fun x h=>QAu x.1 h
def Qbi (t:QZ × Int):TRes:=zra (.tp [(.a (Tup.cells Zd t.1)),(zci t.2)])
def QjM:TRow:=Qg 21 [(.a QS),(.c (.sl QB))] fun x=>(none,Qbi (JB x.1 x.2.1))
def Qlm:List TRow:=[Qik,QlA,Qi1,QnS,QkP]
def QsQ:TCode :=
 (zsq [(zsq [(.reg [zmv 19 8,zbi 20 .lss 19 (zki 2000),zmv 21 20,.grp 21 true [zLd 22 7 4,zca 23 23 [22],zno 24 23] 25 24]),(.cond 25 .skip (.exit 0))]),(.block 1 (.draw [zLd 28 7 4,zmv 29 8,zfa 30 7 1,zld 31 30 1,zle 32 31,zbi 33 .rem 29 32,zca 34 33 [28,33],zst 7 34 4] [])),(.reg [zmv 26 8,zbi 27 .add 26 (zki 1),zmv 8 27])])
def Qu3:List (Nat × Md):=[(4,.b [.d,.d,.d]),(7,.b (zds 4)),(8,.one .d)]
def Qs8:TCode :=
 (zsq [(.reg [zLd 35 7 4,zca 36 25 [35],zst 4 36 3,zmv 5 (zki 0)]),.ret])
def QPG:TCode :=
 (zsq [(.reg [zop 2 (.box 30 0 6),zop 4 (.new 46 (z0s Zd)),zmv 5 (zki 0)]),(.reg [zLd 9 2 6,zmv 10 1,zca 11 56 [9,10],zmv 6 11]),(zsq [(.reg [zmv 12 6,zbi 13 .neq 12 (zki 0)]),(.cond 13 (zsq [(.reg [zop 14 (.build (z0s Zd) []),zmv 15 6,zst 4 14 3,zmv 5 15]),.ret]) .skip)]),(.reg [zLd 16 2 6,zmv 17 1,zca 18 15 [16,17],zop 7 (.new 37 (z0s Q9)),zst 7 18 4]),(zsq [(.reg [zmv 8 (zki 0)]),(.block 0 (.loop Qu3 QsQ))]),Qs8])
def QzM:List (ARv × Md):=[(.l 4 3 true,.b [.d,.d,.d]),(.t 5,.one .d)]
def QpO:Qb:=TQ 0 0 QzM K
def QPV:Qb:=Qseq (tawp Qlm 0 Qs8 (QpO K)) (QpO K)
def QPw:Qb:=Qblk 0 (QPV K)
def Qez (i:Int) (p0:List Qd) (p1:List Qc) (p2:List Qm) (p3:List Qm):Prop:=Loop Qlm 0 Qu3 QsQ (QPw K) ⟨[(4,(.p 0 0 0)),(7,(.p 1 0 0)),(8,(zci i))],[(0,(.box (Tup.cells Zd ([],(0:Int),false)))),(1,(.box (Tup.cells Q9 (p0,p1,p2,p3))))],2⟩
theorem QjC (i:Int) (p0:List Qd) (p1:List Qc) (p2:List Qm) (p3:List Qm) (h :
 (zif ((decide (i<(2000:Int)))&&(!(Ji (p0,p1,p2,p3)))) (((¬ ((p1.length:Int):Int)=0)∧(Qnx (p0,p1,p2,p3) (Int.tmod i (p1.length:Int))))∧(Qez K (w64 (i+(1:Int))) ((Yg (p0,p1,p2,p3) (Int.tmod i (p1.length:Int))).1) ((Yg (p0,p1,p2,p3) (Int.tmod i (p1.length:Int))).2.1) ((Yg (p0,p1,p2,p3) (Int.tmod i (p1.length:Int))).2.2.1) ((Yg (p0,p1,p2,p3) (Int.tmod i (p1.length:Int))).2.2.2))) ((Qnq (p0,p1,p2,p3))∧K (Qbi ((JG (p0,p1,p2,p3)),(0:Int)))))):Qez K i p0 p1 p2 p3 :=
 Loop.of (by kernel_rfl) h
theorem QD0 (c:Ql) (b:List Qd) (h :
 (zif ((Zj c b) != (0:Int)) (K (Qbi (([],(0:Int),false),(Zj c b)))) (Qez K 0 ((Zr c b).1) ((Zr c b).2.1) ((Zr c b).2.2.1) ((Zr c b).2.2.2)))):Hold (tawp Qlm (0+0) QPG (TQ 0 0 QzM K) (Qf [(.a (Tup.cells QS c)),(.c (.sl QB) b)])) :=
 Hold.of (by kernel_rfl) h
theorem QPg (c:Ql) (b:List Qd):TCon Tryz.prog 21 [(.a (Tup.cells QS c)),(.c (.sl QB) b)] (Qbi (JB c b)):=by
 refine Qq rfl fun hb=>tcg (n:=37) (sg:=QjM.sg) Qj (TOk.cons Qzb (TOk.cons QG6 (TOk.cons Qry (TOk.cons QFP (TOk.cons QF1 TOk.nil))))) (by kernel_rfl) (by kernel_rfl) (QD0 _ c b ?_)
 have hl_c_0:(c.1).length≤9223372036854775807:=hb.1.1.1
 have hl_c_1:(c.2.1).length≤9223372036854775807:=hb.1.2.1.1
 have hl_c_3:(c.2.2.2.1).length≤9223372036854775807:=hb.1.2.2.2.1.1
 have hl_c_4:(c.2.2.2.2.1).length≤9223372036854775807:=hb.1.2.2.2.2.1.1
 have hl_c_5:(c.2.2.2.2.2).length≤9223372036854775807:=hb.1.2.2.2.2.2.1.1
 have hl_b:b.length≤9223372036854775807:=hb.2.1.1
 refine ⟨fun h=>R_eq ?_,fun h=>?_⟩
 ·unfold JB;rw [if_neg (by simpa using h)]
 have h0:Zj c b=0:=by simpa using h
 have A:=Qi8 h0
 have hM:(JB c b)=(Qa1 (QV c) b,0):=by unfold JB;rw [if_pos h0,h0]
 have hnew:=QEr A
 have V0:=QB0 A
 have hsz:=QI8 c b
 have hns:=QaN A
 have hat:∀ k:Nat,∃ ks,Ok c b ks∧ZE 0 k (Zr c b)=Q6 c b ks:=by
  intro k
  obtain ⟨ks,h1,h2,_⟩:=Qdt A k 0 V0
  exact ⟨ks,h1,by rw [hnew,h2]⟩
 have hsn:∀ k:Nat,ZE 0 (k+1) (Zr c b)=Yg (ZE 0 k (Zr c b)) (Int.tmod (k:Int) (ZE 0 k (Zr c b)).2.1.length):=by
  intro k
  rw [Qla k 0 1,Nat.zero_add];rfl
 have hres:∀ q:Qr,(∃ ks,Ok c b ks∧q=Q6 c b ks)→Ji q=true→JG q=Qa1 (QV c) b:=by
  rintro q ⟨ks,hok,rfl⟩ hd
  rw [Qlw A hok,decide_eq_true_eq] at hd
  rw [QMZ A hok hd]
  exact QC3 A
 obtain ⟨N,hN⟩:∃ N:Nat,N=2000:=⟨_,rfl⟩
 have hdone:Ji (ZE 0 N (Zr c b))=true:=by
  have hL:=Qug A (ks:=fun _=>0)
  have hmul:nSt c*left c b (fun _=>0)≤4*144:=Nat.mul_le_mul hns.2 hL
  obtain ⟨ks,h1,h2,h3⟩:=Qw3 A (left c b (fun _=>0)) N 0 V0 (Nat.le_refl _) (by omega)
  rw [hnew,h2,Qlw A h1,h3];rfl
 have hlim:∀ k:Nat,k≤N→Sz.sz (ZE 0 k (Zr c b))≤1000000:=by
  intro k hk
  have:=QqH k 0 (Zr c b)
  omega
 have hpl:∀ k:Nat,Qnc (ZE 0 k (Zr c b)):=by
  intro k
  obtain ⟨ks,h1,h2⟩:=hat k
  rw [h2];exact QPo A h1
 have hlen:∀ k:Nat,(ZE 0 k (Zr c b)).2.1.length=nSt c:=by
  intro k
  obtain ⟨ks,_,h2⟩:=hat k
  rw [h2];exact QcG ks
 have key:Qez (fun r'=>r'=Qbi (JB c b)) ((0:Nat):Int) ((ZE 0 0 (Zr c b)).1) ((ZE 0 0 (Zr c b)).2.1) ((ZE 0 0 (Zr c b)).2.2.1) ((ZE 0 0 (Zr c b)).2.2.2):=by
  refine JL N (fun k=>Qez (fun r'=>r'=Qbi (JB c b)) (k:Int) ((ZE 0 k (Zr c b)).1) ((ZE 0 k (Zr c b)).2.1) ((ZE 0 k (Zr c b)).2.2.1) ((ZE 0 k (Zr c b)).2.2.2)) ?_ ?_
  ·have h1:=hlim N (Nat.le_refl _)
   have h2:=hres _ (hat N) hdone
   have h4:=hpl N
   generalize ZE 0 N (Zr c b)=q at h1 h2 h4
   refine QjC (fun r'=>r'=Qbi (JB c b)) _ _ _ _ _ ⟨fun h=>by simp at h;omega,fun _=>⟨⟨show Sz.sz q≤_ by omega,h4⟩,R_eq ?_⟩⟩
   rw [hM]
   exact Prod.ext h2 rfl
  ·intro k hk ih
   have h1:=hlim k (by omega)
   have h2:=hres _ (hat k)
   have h3:=hlen k
   have h4:=hpl k
   rw [hsn] at ih
   generalize ZE 0 k (Zr c b)=q at h1 h2 h3 h4 ih
   by_cases hd:Ji q=true
   ·refine QjC (fun r'=>r'=Qbi (JB c b)) _ _ _ _ _ ⟨fun h=>?_,fun _=>⟨⟨show Sz.sz q≤_ by omega,h4⟩,R_eq ?_⟩⟩
    ·have h:(decide ((k:Int)<2000)&&!Ji q)=true:=h
     rw [hd] at h;simp at h
    ·rw [hM]
     exact Prod.ext (h2 hd) rfl
   ·have hd:Ji q=false:=by simpa using hd
    refine QjC (fun r'=>r'=Qbi (JB c b)) _ _ _ _ _ ⟨fun _=>⟨⟨by omega,show Sz.sz q≤_ by omega⟩,?_⟩,fun h=>?_⟩
    ·rw [sc1 (by omega)]
     exact ih
    ·have h:(decide ((k:Int)<2000)&&!Ji q)=false:=h
     rw [hd] at h;simp at h;omega
 exact key
theorem QDI:Qh Tryz.prog QjM:=Qk fun x _=>QPg x.1 x.2.1
end
end Go.Proofs.YtjbdljkhbglnhaaGreat.Am

