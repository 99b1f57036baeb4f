/- -/
import Derived.Test.YtjbdljkhbglnhaaGreatZGPQ
import Derived.Test.YtjbdljkhbglnhaaGreatZGP7
import Derived.Test.YtjbdljkhbglnhaaGreatZGPB
import Derived.Test.YtjbdljkhbglnhaaGreatZGPJ
import Derived.Test.YtjbdljkhbglnhaaGreatZGPA
import Derived.Test.YtjbdljkhbglnhaaGreatZGGE
namespace Go.Proofs.YtjbdljkhbglnhaaGreat.Am
open Go Go.RowKit Go.Proofs.YtjbdljkhbglnhaaGreat
set_option linter.all false
set_option maxHeartbeats 2000000
noncomputable section
variable (K:TRes→Prop)
def QcT (t:Za):TRes:=zra (.a (Tup.cells Zq t))
def QjW:TRow:=Qi 25 [(.a Q0)] fun x=>(some (Qjh x.1),QcT (JH x.1))
def QjL:List TRow:=[Qes,Qc6]
def QtD:TCode :=
 (zsq [(.reg [zbi 15 .lss 14 13]),(.cond 15 .skip (.exit 0)),(.block 1 (zsq [(.reg [zia 16 12 14 Qu,zLd 17 16 14,zop 5 (.new 63 (z0s Qu)),zst 5 17 14]),(.draw [zfa 18 3 0,zld 19 18 1,zfa 20 5 11,zfa 21 20 0,zld 22 21 1,zca 23 86 [22],zop 24 (.app 19 23 129 [(.sl [TI])]),zfa 25 3 0,zst 25 24 1] [(0,5),(1,5)]),(.reg [zfa 26 3 2,zld 27 26 1,zmv 28 27,.grp 28 false [zfa 29 5 11,zfa 30 29 2,zld 31 30 1] 32 31,zfa 33 3 2,zst 33 32 1]),(.reg [zfa 34 5 11,zfa 35 34 1,zld 36 35 1,zfa 37 3 1,zst 37 36 1])])),(.reg [zbi 38 .add 14 (zki 1),zmv 14 38])])
def Qt8:List (Nat × Md):=[(2,.b [.d,.d,.d]),(3,.b [.o 129,.d,.d]),(12,.one .d),(13,.one .d),(14,.one .d)]
def QqN:TCode :=
 (zsq [(.reg [zLd 39 3 3,zst 2 39 3]),.ret])
def QN4:TCode :=
 (zsq [(.reg [zop 1 (.box 37 0 4),zop 2 (.new 46 (z0s Zq))]),(zsq [(.reg [zLd 6 1 4,zca 7 23 [6],zno 8 7]),(.cond 8 (zsq [(.reg [zop 9 (.build (z0s Zq) []),zst 2 9 3]),.ret]) .skip)]),(.reg [zop 10 (.build (z0s Zq) []),zop 3 (.new 46 (z0s Zq)),zst 3 10 3]),(zsq [(.reg [zfa 11 1 1,zld 12 11 1,zle 13 12,zmv 14 (zki 0)]),(.block 0 (.loop Qt8 QtD))]),QqN])
def Qrm:List (ARv × Md):=[(.l 2 3 true,.b [.d,.d,.d])]
def Qrd:Qb:=TQ 0 0 Qrm K
def QIn:Qb:=Qseq (tawp QjL 0 QqN (Qrd K)) (Qrd K)
def QHC:Qb:=Qblk 0 (QIn K)
def Qg4 (p:Qo) (x:Int) (g0:List (List Int)) (g1:Int) (g2:Bool):Prop:=Loop QjL 0 Qt8 QtD (QHC K) ⟨[(2,(.p 0 0 0)),(3,(.p 2 0 0)),(12,(zcs Qu p.2.1)),(13,(zci ((p.2.1).length:Int))),(14,(zci x))],[(0,(.box (Tup.cells Zq ([],(0:Int),false)))),(1,(.sl 129 [(.sl [TI])] true g0)),(2,(.box [(.r [(.sl [TI])] 1 0 g0.length),(zci g1),(zcb g2)]))],3⟩
theorem QqL (p:Qo) (x:Int) (g0:List (List Int)) (g1:Int) (g2:Bool) (h :
 (zif (decide (x<((p.2.1).length:Int))) (((0:Int)≤x∧Int.toNat x<(p.2.1).length)∧(((QJ (α:=List (List Int)) ((gtd QM p.2.1 (Int.toNat x)).2.2.2.2.2.2.2.2.2.2.2.1))∧((g0.length=g0.length∨g0.length+(id (α:=List (List Int)) ((gtd QM p.2.1 (Int.toNat x)).2.2.2.2.2.2.2.2.2.2.2.1)).length≤g0.length)∧g0.length+(id (α:=List (List Int)) ((gtd QM p.2.1 (Int.toNat x)).2.2.2.2.2.2.2.2.2.2.2.1)).length≤big))∧(Qg4 K p (w64 (x+(1:Int))) (List.take (g0.length+(id (α:=List (List Int)) ((gtd QM p.2.1 (Int.toNat x)).2.2.2.2.2.2.2.2.2.2.2.1)).length) ((List.take g0.length g0)++(id (α:=List (List Int)) ((gtd QM p.2.1 (Int.toNat x)).2.2.2.2.2.2.2.2.2.2.2.1)))) ((gtd QM p.2.1 (Int.toNat x)).2.2.2.2.2.2.2.2.2.2.2.2.1) (g2||((gtd QM p.2.1 (Int.toNat x)).2.2.2.2.2.2.2.2.2.2.2.2.2))))) (K (QcT ((List.take g0.length (List.drop 0 g0)),g1,g2))))):Qg4 K p x g0 g1 g2 :=
 Loop.of (by kernel_rfl) h
theorem QJD (p:Qo) (h :
 (zif (!(Y8 p)) (K (QcT ([],(0:Int),false))) (Qg4 K p 0 ([]:List (List Int)) 0 false))):Hold (tawp QjL (0+0) QN4 (TQ 0 0 Qrm K) (Qf [(.a (Tup.cells Q0 p))])) :=
 Hold.of (by kernel_rfl) h
theorem QFE (p:Qo) (hp:Qjh p):TCon Tryz.prog 25 [(.a (Tup.cells Q0 p))] (QcT (JH p)):=by
 refine Qr rfl fun hb=>tcg (n:=40) (sg:=QjW.sg) Qk (TOk.cons Qk1 (TOk.cons QfL TOk.nil)) (by kernel_rfl) (by kernel_rfl) (QJD _ p ?_)
 have hl_p_0:(p.1).length≤9223372036854775807:=hb.1.1.1
 have hl_p_1:(p.2.1).length≤9223372036854775807:=hb.1.2.1.1
 have hl_p_2:(p.2.2.1).length≤9223372036854775807:=hb.1.2.2.1.1
 have hl_p_3:(p.2.2.2).length≤9223372036854775807:=hb.1.2.2.2.1.1
 obtain ⟨hp',hpl⟩:=hp
 have hs:Sz.sz p=Sz.sz p.1+Sz.sz p.2.1+Sz.sz p.2.2.1+Sz.sz p.2.2.2:=QdH p
 have hl:=Qad p.2.1
 refine ⟨fun h=>R_eq ?_,fun h=>?_⟩
 ·unfold JH;rw [if_neg (by simpa using h)]
 have hM:(JH p)=((QG p).flatMap QD,(((QG p).map QC).getLast?).getD 0,(QG p).any sSat):=by unfold JH;rw [if_pos (by simpa using h)]
 refine Zz p.2.1 (fun r k=>∀ (g0:List (List Int)) (g1:Int) (g2:Bool),g0.length+Sz.sz r≤Sz.sz p.2.1→(g0++r.flatMap QD,((r.map QC).getLast?).getD g1,g2||r.any sSat)=(JH p)→Qg4 (fun r'=>r'=QcT (JH p)) p (k:Int) g0 g1 g2) ?_ ?_ [] 0 false (by simp) (by rw [hM];simp)
 ·intro g0 g1 g2 hz he
  refine QqL (fun r'=>r'=QcT (JH p)) p _ _ _ _ ⟨fun h=>by simp at h,fun _=>R_eq ?_⟩
  rw [← he,QdR];simp
 ·intro k x r hk hlt hg ih g0 g1 g2 hz he
  have hx:=Yi x
  have hxr:=Qad (QD x)
  simp only [Jm] at hz
  refine QqL (fun r'=>r'=QcT (JH p)) p _ _ _ _ ⟨fun _=>?_,fun h=>by simp at h;omega⟩
  rw [Int.toNat_natCast,hg,sc1 (by omega)]
  simp only [id]
  rw [QwH]
  refine ⟨⟨by omega,hlt⟩,⟨by unfold QJ;((try simp only [sPc,QH,sOps,Qv,QF,Qg,QK,sX,sY,sG,sD,QD,QC,sSat,QQ,QG,Qy,QA] at *);omega),by simp [Zw];((try simp only [sPc,QH,sOps,Qv,QF,Qg,QK,sX,sY,sG,sD,QD,QC,sSat,QQ,QG,Qy,QA] at *);omega)⟩,ih _ _ _ (by simp only [List.length_append];((try simp only [sPc,QH,sOps,Qv,QF,Qg,QK,sX,sY,sG,sD,QD,QC,sSat,QQ,QG,Qy,QA] at *);omega)) ?_⟩
  rw [← he]
  refine Prod.ext (by simp) (Prod.ext ?_ (by simp [Bool.or_assoc]))
  show (((r.map QC).getLast?).getD (QC x))=((((x::r).map QC).getLast?).getD g1)
  cases r with
  | nil=>rfl
  | cons y r=>simp [List.getLast?_cons_cons,List.getLast?_cons]
theorem QFe:Qj Tryz.prog QjW:=Ql fun x h=>QFE x.1 h
def QaS (t:Za × Int):TRes:=zra (.tp [(.a (Tup.cells Zq t.1)),(zci t.2)])
def QmN:TRow:=Qi 21 [(.a QU),(.c (.sl Qx))] fun x=>(none,QaS (J2 x.1 x.2.1))
def Ql5:List TRow:=[Qd3,Qgo,Qes,QmP,QjW]
def Qsl:TCode :=
 (zsq [(zsq [(.reg [zmv 19 8,zbi 20 .lss 19 (zki 2000),zmv 21 20,.grp 21 true [zLd 22 7 4,zca 23 23 [22],zno 24 23] 25 24]),(.cond 25 .skip (.exit 0))]),(.block 1 (.draw [zLd 28 7 4,zmv 29 8,zfa 30 7 1,zld 31 30 1,zle 32 31,zbi 33 .rem 29 32,zca 34 33 [28,33],zst 7 34 4] [])),(.reg [zmv 26 8,zbi 27 .add 26 (zki 1),zmv 8 27])])
def Qyr:List (Nat × Md):=[(4,.b [.d,.d,.d]),(7,.b (zds 4)),(8,.one .d)]
def Qsk:TCode :=
 (zsq [(.reg [zLd 35 7 4,zca 36 25 [35],zst 4 36 3,zmv 5 (zki 0)]),.ret])
def QAr:TCode :=
 (zsq [(.reg [zop 2 (.box 30 0 6),zop 4 (.new 46 (z0s Zq)),zmv 5 (zki 0)]),(.reg [zLd 9 2 6,zmv 10 1,zca 11 56 [9,10],zmv 6 11]),(zsq [(.reg [zmv 12 6,zbi 13 .neq 12 (zki 0)]),(.cond 13 (zsq [(.reg [zop 14 (.build (z0s Zq) []),zmv 15 6,zst 4 14 3,zmv 5 15]),.ret]) .skip)]),(.reg [zLd 16 2 6,zmv 17 1,zca 18 15 [16,17],zop 7 (.new 37 (z0s Q0)),zst 7 18 4]),(zsq [(.reg [zmv 8 (zki 0)]),(.block 0 (.loop Qyr Qsl))]),Qsk])
def Qxy:List (ARv × Md):=[(.l 4 3 true,.b [.d,.d,.d]),(.t 5,.one .d)]
def Qwx:Qb:=TQ 0 0 Qxy K
def QMg:Qb:=Qseq (tawp Ql5 0 Qsk (Qwx K)) (Qwx K)
def QKv:Qb:=Qblk 0 (QMg K)
def Qfd (i:Int) (p0:List Qd) (p1:List Qc) (p2:List Qm) (p3:List Qm):Prop:=Loop Ql5 0 Qyr Qsl (QKv K) ⟨[(4,(.p 0 0 0)),(7,(.p 1 0 0)),(8,(zci i))],[(0,(.box (Tup.cells Zq ([],(0:Int),false)))),(1,(.box (Tup.cells Q0 (p0,p1,p2,p3))))],2⟩
theorem Qkp (i:Int) (p0:List Qd) (p1:List Qc) (p2:List Qm) (p3:List Qm) (h :
 (zif ((decide (i<(2000:Int)))&&(!(Y8 (p0,p1,p2,p3)))) (((¬ ((p1.length:Int):Int)=0)∧(Qj0 (p0,p1,p2,p3) (Int.tmod i (p1.length:Int))))∧(Qfd K (w64 (i+(1:Int))) ((Yk (p0,p1,p2,p3) (Int.tmod i (p1.length:Int))).1) ((Yk (p0,p1,p2,p3) (Int.tmod i (p1.length:Int))).2.1) ((Yk (p0,p1,p2,p3) (Int.tmod i (p1.length:Int))).2.2.1) ((Yk (p0,p1,p2,p3) (Int.tmod i (p1.length:Int))).2.2.2))) ((Qjh (p0,p1,p2,p3))∧K (QaS ((JH (p0,p1,p2,p3)),(0:Int)))))):Qfd K i p0 p1 p2 p3 :=
 Loop.of (by kernel_rfl) h
theorem QFo (c:Qh) (b:List Qd) (h :
 (zif ((Q7 c b) != (0:Int)) (K (QaS (([],(0:Int),false),(Q7 c b)))) (Qfd K 0 ((Zi c b).1) ((Zi c b).2.1) ((Zi c b).2.2.1) ((Zi c b).2.2.2)))):Hold (tawp Ql5 (0+0) QAr (TQ 0 0 Qxy K) (Qf [(.a (Tup.cells QU c)),(.c (.sl Qx) b)])) :=
 Hold.of (by kernel_rfl) h
theorem QJB (c:Qh) (b:List Qd):TCon Tryz.prog 21 [(.a (Tup.cells QU c)),(.c (.sl Qx) b)] (QaS (J2 c b)):=by
 refine Qr rfl fun hb=>tcg (n:=37) (sg:=QmN.sg) Qk (TOk.cons Qmm (TOk.cons Quh (TOk.cons Qk1 (TOk.cons QBi (TOk.cons QFe TOk.nil))))) (by kernel_rfl) (by kernel_rfl) (QFo _ c b ?_)
 have hl_c_0:(c.1).length≤9223372036854775807:=hb.1.1.1
 have hl_c_1:(c.2.1).length≤9223372036854775807:=hb.1.2.1.1
 have hl_c_3:(c.2.2.2.1).length≤9223372036854775807:=hb.1.2.2.2.1.1
 have hl_c_4:(c.2.2.2.2.1).length≤9223372036854775807:=hb.1.2.2.2.2.1.1
 have hl_c_5:(c.2.2.2.2.2).length≤9223372036854775807:=hb.1.2.2.2.2.2.1.1
 have hl_b:b.length≤9223372036854775807:=hb.2.1.1
 refine ⟨fun h=>R_eq ?_,fun h=>?_⟩
 ·unfold J2;rw [if_neg (by simpa using h)]
 have h0:Q7 c b=0:=by simpa using h
 have A:=Qim h0
 have hM:(J2 c b)=(QdA (QY c) b,0):=by unfold J2;rw [if_pos h0,h0]
 have hnew:=Qos A
 have V0:=Qvo A
 have hsz:=QOV c b
 have hns:=JE A
 have hat:∀ k:Nat,∃ ks,Ok c b ks∧ZE 0 k (Zi c b)=Q8 c b ks:=by
  intro k
  obtain ⟨ks,h1,h2,_⟩:=Qdx A k 0 V0
  exact ⟨ks,h1,by rw [hnew,h2]⟩
 have hsn:∀ k:Nat,ZE 0 (k+1) (Zi c b)=Yk (ZE 0 k (Zi c b)) (Int.tmod (k:Int) (ZE 0 k (Zi c b)).2.1.length):=by
  intro k
  rw [QlK k 0 1,Nat.zero_add];rfl
 have hres:∀ q:Qo,(∃ ks,Ok c b ks∧q=Q8 c b ks)→Y8 q=true→JH q=QdA (QY c) b:=by
  rintro q ⟨ks,hok,rfl⟩ hd
  rw [Qhn A hok,decide_eq_true_eq] at hd
  rw [QJm A hok hd]
  exact QJ4 A
 obtain ⟨N,hN⟩:∃ N:Nat,N=2000:=⟨_,rfl⟩
 have hdone:Y8 (ZE 0 N (Zi c b))=true:=by
  have hL:=QqD A (ks:=fun _=>0)
  have hmul:nSt c*left c b (fun _=>0)≤4*144:=Nat.mul_le_mul hns.2 hL
  obtain ⟨ks,h1,h2,h3⟩:=QyB A (left c b (fun _=>0)) N 0 V0 (Nat.le_refl _) (by omega)
  rw [hnew,h2,Qhn A h1,h3];rfl
 have hlim:∀ k:Nat,k≤N→Sz.sz (ZE 0 k (Zi c b))≤1000000:=by
  intro k hk
  have:=QwZ k 0 (Zi c b)
  omega
 have hpl:∀ k:Nat,QjP (ZE 0 k (Zi c b)):=by
  intro k
  obtain ⟨ks,h1,h2⟩:=hat k
  rw [h2];exact QK7 A h1
 have hlen:∀ k:Nat,(ZE 0 k (Zi c b)).2.1.length=nSt c:=by
  intro k
  obtain ⟨ks,_,h2⟩:=hat k
  rw [h2];exact Qb0 ks
 have key:Qfd (fun r'=>r'=QaS (J2 c b)) ((0:Nat):Int) ((ZE 0 0 (Zi c b)).1) ((ZE 0 0 (Zi c b)).2.1) ((ZE 0 0 (Zi c b)).2.2.1) ((ZE 0 0 (Zi c b)).2.2.2):=by
  refine QaQ N (fun k=>Qfd (fun r'=>r'=QaS (J2 c b)) (k:Int) ((ZE 0 k (Zi c b)).1) ((ZE 0 k (Zi c b)).2.1) ((ZE 0 k (Zi c b)).2.2.1) ((ZE 0 k (Zi c b)).2.2.2)) ?_ ?_
  ·have h1:=hlim N (Nat.le_refl _)
   have h2:=hres _ (hat N) hdone
   have h4:=hpl N
   generalize ZE 0 N (Zi c b)=q at h1 h2 h4
   refine Qkp (fun r'=>r'=QaS (J2 c b)) _ _ _ _ _ ⟨fun h=>by simp at h;omega,fun _=>⟨⟨show Sz.sz q≤_ by omega,h4⟩,R_eq ?_⟩⟩
   rw [hM]
   exact Prod.ext h2 rfl
  ·intro k hk ih
   have h1:=hlim k (by omega)
   have h2:=hres _ (hat k)
   have h3:=hlen k
   have h4:=hpl k
   rw [hsn] at ih
   generalize ZE 0 k (Zi c b)=q at h1 h2 h3 h4 ih
   by_cases hd:Y8 q=true
   ·refine Qkp (fun r'=>r'=QaS (J2 c b)) _ _ _ _ _ ⟨fun h=>?_,fun _=>⟨⟨show Sz.sz q≤_ by omega,h4⟩,R_eq ?_⟩⟩
    ·have h:(decide ((k:Int)<2000)&&!Y8 q)=true:=h
     rw [hd] at h;simp at h
    ·rw [hM]
     exact Prod.ext (h2 hd) rfl
   ·have hd:Y8 q=false:=by simpa using hd
    refine Qkp (fun r'=>r'=QaS (J2 c b)) _ _ _ _ _ ⟨fun _=>⟨⟨by omega,show Sz.sz q≤_ by omega⟩,?_⟩,fun h=>?_⟩
    ·rw [sc1 (by omega)]
     exact ih
    ·have h:(decide ((k:Int)<2000)&&!Y8 q)=false:=h
     rw [hd] at h;simp at h;omega
 exact key
theorem QG0:Qj Tryz.prog QmN:=Ql fun x _=>QJB x.1 x.2.1
end
end Go.Proofs.YtjbdljkhbglnhaaGreat.Am

