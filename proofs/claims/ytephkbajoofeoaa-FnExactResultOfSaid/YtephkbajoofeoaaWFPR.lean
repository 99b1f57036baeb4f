/- -/
import Derived.Test.YtephkbajoofeoaaWFPB
import Derived.Test.YtephkbajoofeoaaWFPJ
import Derived.Test.YtephkbajoofeoaaWFGD
namespace Go.Proofs.Ytephkbajoofeoaa.Am
open Go Go.RowKit Go.Proofs.Ytephkbajoofeoaa
set_option linter.all false
set_option maxHeartbeats 2000000
noncomputable section
variable (K:TRes→Prop)
def Jl (t:Qx):TRes:=⟨(.a [(.r [(.sl [TI])] 0 0 ((t.1).length)),(zci t.2.1),(zcb t.2.2)]),[(.sl 91 [(.sl [TI])] (.dp 0 true []) t.1)],[],false,[]⟩
def Qgd:TRow:=Ql 98 [(.a QG)] fun x=>(some (Qal x.1),Jl (QL x.1))
def QdE:TTab:=⟨[Qfl,QgC],true⟩
def QkO:TCode :=
 (zsq [(.reg [zbi 15 .lss 14 13]),(.cond 15 .skip (.exit 0)),(.block 1 (zsq [(.reg [zia 16 12 14 Qq,zLd 17 16 14,zop 5 (.new 121 (z0s Qq)),zst 5 17 14]),(.draw [zfa 18 3 0,zld 19 18 1,zfa 20 5 11,zfa 21 20 0,zld 22 21 1,zca 23 180 [22],zop 24 (.app 19 23 91 [(.sl [TI])]),zfa 25 3 0,zst 25 24 1] [(0,5),(1,5)]),(.reg [zfa 26 3 2,zld 27 26 1,zmv 28 27,.grp 28 false [zfa 29 5 11,zfa 30 29 2,zld 31 30 1] 32 31,zfa 33 3 2,zst 33 32 1]),(.reg [zfa 34 5 11,zfa 35 34 1,zld 36 35 1,zfa 37 3 1,zst 37 36 1])])),(.reg [zbi 38 .add 14 (zki 1),zmv 14 38])])
def Qn7:List (Nat × Md):=[(2,.b [.f,.d,.d]),(3,.b [.p 91,.d,.d]),(12,.one .d),(13,.one .d),(14,.one .d)]
def QkK:TCode :=
 (zsq [(.reg [zLd 39 3 3,zst 2 39 3]),.ret])
def Qza:TCode :=
 (zsq [(.reg [zop 1 (.box 139 0 4),zop 2 (.new 119 (z0s QM))]),(zsq [(.reg [zLd 6 1 4,zca 7 179 [6],zno 8 7]),(.cond 8 (zsq [(.reg [zop 9 (.build (z0s QM) []),zst 2 9 3]),.ret]) .skip)]),(.reg [zop 10 (.build (z0s QM) []),zop 3 (.new 119 (z0s QM)),zst 3 10 3]),(zsq [(.reg [zfa 11 1 1,zld 12 11 1,zle 13 12,zmv 14 (zki 0)]),(.block 0 (.loop Qn7 QkO))]),QkK])
def QhJ:List (ARv × Md):=[(.l 2 3 true,.b [.p 91,.d,.d])]
def QkZ:Qb:=TQ 0 0 QhJ K
def QrK:Qb:=Qseq (tawp QdE 0 QkK (QkZ K)) (QkZ K)
def Qwa:Qb:=Qblk 0 (QrK K)
def QbR (p:Qs) (x:Int) (g0:List (List Int)) (g1:Int) (g2:Bool):Prop:=Loop QdE 0 Qn7 QkO (Qwa K) ⟨[(2,(.p 0 0 0)),(3,(.p 2 0 0)),(12,(zcs Qq p.2.1)),(13,(zci ((p.2.1).length:Int))),(14,(zci x))],[(0,(.box [(.n [(.sl [TI])]),(zci 0),(zcb false)])),(1,(.sl 91 [(.sl [TI])] (.dp 0 true []) g0)),(2,(.box [(.r [(.sl [TI])] 1 0 g0.length),(zci g1),(zcb g2)]))],3⟩
theorem QiO (p:Qs) (x:Int) (g0:List (List Int)) (g1:Int) (g2:Bool) (h :
 let z2:=gtd QB p.2.1 (Int.toNat x)
 let z3:=id (α:=List (List Int)) (z2.2.2.2.2.2.2.2.2.2.2.2.1)
 let z1:=List.take (z3.length) (List.drop 0 z3)
 (zif (decide (x<((p.2.1).length:Int))) (((0:Int)≤x∧Int.toNat x<(p.2.1).length)∧(((ZD (α:=List (List Int)) (z2.2.2.2.2.2.2.2.2.2.2.2.1))∧((g0.length=g0.length∨g0.length+z1.length≤g0.length)∧g0.length+z1.length≤big))∧(QbR K p (w64 (x+(1:Int))) (List.take (g0.length+z1.length) ((List.take g0.length g0)++z1)) (z2.2.2.2.2.2.2.2.2.2.2.2.2.1) (g2||(z2.2.2.2.2.2.2.2.2.2.2.2.2.2))))) (K (Jl ((List.take g0.length g0),g1,g2))))):QbR K p x g0 g1 g2 :=
 Loop.of (by kernel_rfl) h
theorem Qqf (p:Qs) (h :
 (zif (!(Z7 p)) (K (Jl (([]:List (List Int)),(0:Int),false))) (QbR K p 0 ([]:List (List Int)) 0 false))):Hold (tawp QdE (0+0) Qza (TQ 0 0 QhJ K) (Qk [(.a (Tup.cells QG p))])) :=
 Hold.of (by kernel_rfl) h
theorem QqK (p:Qs) (hp:Qal p):TCon Try.prog 98 [(.a (Tup.cells QG p))] (Jl (QL p)):=by
 refine Qp rfl fun hb=>tcg (Γ:=QdE) (n:=40) (sg:=Qgd.sg) Qo (TOkL.cons QtW (TOkL.cons QrR TOkL.nil)) (by kernel_rfl) (by kernel_rfl) (Qqf _ p ?_)
 have hl_p_0:(p.1).length≤9223372036854775807:=hb.1.1.1
 have hl_p_1:(p.2.1).length≤9223372036854775807:=hb.1.2.1.1
 have hl_p_2:(p.2.2.1).length≤9223372036854775807:=hb.1.2.2.1.1
 have hl_p_3:(p.2.2.2).length≤9223372036854775807:=hb.1.2.2.2.1.1
 obtain ⟨hp',hpl⟩:=hp
 have hs:Sz.sz p=Sz.sz p.1+Sz.sz p.2.1+Sz.sz p.2.2.1+Sz.sz p.2.2.2:=QeQ p
 have hl:=YW p.2.1
 refine ⟨fun h=>R_eq ?_,fun h=>?_⟩
 ·unfold QL;rw [if_neg (by simpa using h)]
 have hM:(QL p)=((Q2 p).flatMap Zc,(((Q2 p).map Q1).getLast?).getD 0,(Q2 p).any sSat):=by unfold QL;rw [if_pos (by simpa using h)]
 refine YC p.2.1 (fun r k=>∀ (g0:List (List Int)) (g1:Int) (g2:Bool),g0.length+Sz.sz r≤Sz.sz p.2.1→(g0++r.flatMap Zc,((r.map Q1).getLast?).getD g1,g2||r.any sSat)=(QL p)→QbR (fun r'=>r'=Jl (QL p)) p (k:Int) g0 g1 g2) ?_ ?_ [] 0 false (by simp) (by rw [hM];simp)
 ·intro g0 g1 g2 hz he
  refine QiO (fun r'=>r'=Jl (QL p)) p _ _ _ _ ⟨fun h=>by simp at h,fun _=>R_eq ?_⟩
  rw [← he,List.take_length];simp
 ·intro k x r hk hlt hg ih g0 g1 g2 hz he
  have hx:=Qfi x
  have hxr:=YW (Zc x)
  simp only [QaX] at hz
  refine QiO (fun r'=>r'=Jl (QL p)) p _ _ _ _ ⟨fun _=>?_,fun h=>by simp at h;omega⟩
  rw [Int.toNat_natCast,hg,sc1 (by omega)]
  simp only [id,Qjs]
  rw [Qk2]
  refine ⟨⟨by omega,hlt⟩,⟨by unfold ZD;((try simp only [sPc,Yh,sOps,YK,YX,Yq,Yc,sX,sY,sG,sD,Zc,Q1,sSat,Yw,Q2,Yv,Z5] at *);omega),by simp [QaY];((try simp only [sPc,Yh,sOps,YK,YX,Yq,Yc,sX,sY,sG,sD,Zc,Q1,sSat,Yw,Q2,Yv,Z5] at *);omega)⟩,ih _ _ _ (by simp only [List.length_append];((try simp only [sPc,Yh,sOps,YK,YX,Yq,Yc,sX,sY,sG,sD,Zc,Q1,sSat,Yw,Q2,Yv,Z5] at *);omega)) ?_⟩
  rw [← he]
  refine Prod.ext (by simp) (Prod.ext ?_ (by simp [Bool.or_assoc]))
  show (((r.map Q1).getLast?).getD (Q1 x))=((((x::r).map Q1).getLast?).getD g1)
  cases r with
  | nil=>rfl
  | cons y r=>simp [List.getLast?_cons_cons,List.getLast?_cons]
theorem Qxt:Qm Try.prog Qgd:=Qr fun x h=>QqK x.1 h
def Jv (t:Qx):TRes:=zra (.a (Tup.cells QM t))
def Qev:TRow:=Ql 97 [(.a QG)] fun x=>(some (Qal x.1),Jv (QL x.1))
def Qcu:TTab:=⟨[QdY,Qe1],false⟩
def Qk3:TCode :=
 (zsq [(zsq [(.reg [zmv 10 4,zfa 11 1 1,zld 12 11 1,zle 13 12,zbi 14 .lss 10 13]),(.cond 14 .skip (.exit 0))]),(.block 1 (zsq [(.draw [zfa 17 3 0,zld 18 17 1,zfa 19 1 1,zld 20 19 1,zmv 21 4,zia 22 20 21 Qq,zfa 23 22 11,zfa 24 23 0,zld 25 24 1,zca 26 178 [25],zop 27 (.app 18 26 91 [(.sl [TI])]),zfa 28 3 0,zst 28 27 1] [(0,9),(1,9)]),(.reg [zfa 29 3 2,zld 30 29 1,zmv 31 30,.grp 31 false [zfa 32 1 1,zld 33 32 1,zmv 34 4,zia 35 33 34 Qq,zfa 36 35 11,zfa 37 36 2,zld 38 37 1] 39 38,zfa 40 3 2,zst 40 39 1]),(.reg [zfa 41 1 1,zld 42 41 1,zmv 43 4,zia 44 42 43 Qq,zfa 45 44 11,zfa 46 45 1,zld 47 46 1,zfa 48 3 1,zst 48 47 1])])),(.reg [zmv 15 4,zbi 16 .add 15 (zki 1),zmv 4 16])])
def Qm1:List (Nat × Md):=[(1,.b (zds 4)),(2,.b [.d,.d,.d]),(3,.b [.o 91,.d,.d]),(4,.one .d)]
def QmO:TCode :=
 (zsq [(.reg [zLd 49 3 3,zst 2 49 3]),.ret])
def QwM:TCode :=
 (zsq [(.reg [zop 1 (.box 139 0 4),zop 2 (.new 119 (z0s QM))]),(.reg [zop 5 (.build (z0s QM) []),zop 3 (.new 119 (z0s QM)),zst 3 5 3]),(zsq [(.reg [zLd 6 1 4,zca 7 177 [6],zno 8 7]),(.cond 8 (zsq [(.reg [zLd 9 3 3,zst 2 9 3]),.ret]) .skip)]),(zsq [(.reg [zmv 4 (zki 0)]),(.block 0 (.loop Qm1 Qk3))]),QmO])
def Qnh:List (ARv × Md):=[(.l 2 3 true,.b [.d,.d,.d])]
def Qi1:Qb:=TQ 0 0 Qnh K
def Qsy:Qb:=Qseq (tawp Qcu 0 QmO (Qi1 K)) (Qi1 K)
def QqR:Qb:=Qblk 0 (Qsy K)
def Qco (p:Qs) (s:Int) (g0:List (List Int)) (g1:Int) (g2:Bool):Prop:=Loop Qcu 0 Qm1 Qk3 (QqR K) ⟨[(1,(.p 0 0 0)),(2,(.p 1 0 0)),(3,(.p 3 0 0)),(4,(zci s))],[(0,(.box (Tup.cells QG p))),(1,(.box (Tup.cells QM ([],(0:Int),false)))),(2,(.sl 91 [(.sl [TI])] .ow g0)),(3,(.box [(.r [(.sl [TI])] 2 0 g0.length),(zci g1),(zcb g2)]))],4⟩
theorem QlM (p:Qs) (s:Int) (g0:List (List Int)) (g1:Int) (g2:Bool) (h :
 (zif (decide (s<((p.2.1).length:Int))) ((((0:Int)≤s∧Int.toNat s<(p.2.1).length)∧((ZD (α:=List (List Int)) ((gtd QB p.2.1 (Int.toNat s)).2.2.2.2.2.2.2.2.2.2.2.1))∧((g0.length=g0.length∨g0.length+(id (α:=List (List Int)) ((gtd QB p.2.1 (Int.toNat s)).2.2.2.2.2.2.2.2.2.2.2.1)).length≤g0.length)∧g0.length+(id (α:=List (List Int)) ((gtd QB p.2.1 (Int.toNat s)).2.2.2.2.2.2.2.2.2.2.2.1)).length≤big)))∧(((!g2)=true→((0:Int)≤s∧Int.toNat s<(p.2.1).length))∧(((0:Int)≤s∧Int.toNat s<(p.2.1).length)∧(Qco K p (w64 (s+(1:Int))) (List.take (g0.length+(id (α:=List (List Int)) ((gtd QB p.2.1 (Int.toNat s)).2.2.2.2.2.2.2.2.2.2.2.1)).length) ((List.take g0.length g0)++(id (α:=List (List Int)) ((gtd QB p.2.1 (Int.toNat s)).2.2.2.2.2.2.2.2.2.2.2.1)))) ((gtd QB p.2.1 (Int.toNat s)).2.2.2.2.2.2.2.2.2.2.2.2.1) (g2||((gtd QB p.2.1 (Int.toNat s)).2.2.2.2.2.2.2.2.2.2.2.2.2)))))) (K (Jv ((List.take g0.length (List.drop 0 g0)),g1,g2))))):Qco K p s g0 g1 g2 :=
 Loop.of (by kernel_rfl) h
theorem QqY (p:Qs) (h :
 ((Ye p)∧(zif (!(Z7 p)) (K (Jv ([],(0:Int),false))) (Qco K p 0 ([]:List (List Int)) 0 false)))):Hold (tawp Qcu (0+0) QwM (TQ 0 0 Qnh K) (Qk [(.a (Tup.cells QG p))])) :=
 Hold.of (by kernel_rfl) h
theorem Qst (p:Qs) (hp:Qal p):TCon Try.prog 97 [(.a (Tup.cells QG p))] (Jv (QL p)):=by
 refine Qp rfl fun hb=>tcg (Γ:=Qcu) (n:=50) (sg:=Qev.sg) Qo (TOkL.cons Qvo (TOkL.cons QqC TOkL.nil)) (by kernel_rfl) (by kernel_rfl) (QqY _ p ?_)
 have hl_p_0:(p.1).length≤9223372036854775807:=hb.1.1.1
 have hl_p_1:(p.2.1).length≤9223372036854775807:=hb.1.2.1.1
 have hl_p_2:(p.2.2.1).length≤9223372036854775807:=hb.1.2.2.1.1
 have hl_p_3:(p.2.2.2).length≤9223372036854775807:=hb.1.2.2.2.1.1
 obtain ⟨hp',hpl⟩:=hp
 have hs:Sz.sz p=Sz.sz p.1+Sz.sz p.2.1+Sz.sz p.2.2.1+Sz.sz p.2.2.2:=QeQ p
 have hl:=YW p.2.1
 refine ⟨hpl,fun h=>R_eq ?_,fun h=>?_⟩
 ·unfold QL;rw [if_neg (by simpa using h)]
 have hM:(QL p)=((Q2 p).flatMap Zc,(((Q2 p).map Q1).getLast?).getD 0,(Q2 p).any sSat):=by unfold QL;rw [if_pos (by simpa using h)]
 refine YC p.2.1 (fun r k=>∀ (g0:List (List Int)) (g1:Int) (g2:Bool),g0.length+Sz.sz r≤Sz.sz p.2.1→(g0++r.flatMap Zc,((r.map Q1).getLast?).getD g1,g2||r.any sSat)=(QL p)→Qco (fun r'=>r'=Jv (QL p)) p (k:Int) g0 g1 g2) ?_ ?_ [] 0 false (by simp) (by rw [hM];simp)
 ·intro g0 g1 g2 hz he
  refine QlM (fun r'=>r'=Jv (QL p)) p _ _ _ _ ⟨fun h=>by simp at h,fun _=>R_eq ?_⟩
  rw [← he,Qjs];simp
 ·intro k x r hk hlt hg ih g0 g1 g2 hz he
  have hx:=Qfi x
  have hxr:=YW (Zc x)
  simp only [QaX] at hz
  refine QlM (fun r'=>r'=Jv (QL p)) p _ _ _ _ ⟨fun _=>?_,fun h=>by simp at h;omega⟩
  rw [Int.toNat_natCast,hg,sc1 (by omega)]
  simp only [id]
  rw [Qk2]
  refine ⟨⟨⟨by omega,hlt⟩,by unfold ZD;((try simp only [sPc,Yh,sOps,YK,YX,Yq,Yc,sX,sY,sG,sD,Zc,Q1,sSat,Yw,Q2,Yv,Z5] at *);omega),by simp [QaY];((try simp only [sPc,Yh,sOps,YK,YX,Yq,Yc,sX,sY,sG,sD,Zc,Q1,sSat,Yw,Q2,Yv,Z5] at *);omega)⟩,fun _=>⟨by omega,hlt⟩,⟨by omega,hlt⟩,ih _ _ _ (by simp only [List.length_append];((try simp only [sPc,Yh,sOps,YK,YX,Yq,Yc,sX,sY,sG,sD,Zc,Q1,sSat,Yw,Q2,Yv,Z5] at *);omega)) ?_⟩
  rw [← he]
  refine Prod.ext (by simp) (Prod.ext ?_ (by simp [Bool.or_assoc]))
  show (((r.map Q1).getLast?).getD (Q1 x))=((((x::r).map Q1).getLast?).getD g1)
  cases r with
  | nil=>rfl
  | cons y r=>simp [List.getLast?_cons_cons,List.getLast?_cons]
theorem QqO:Qm Try.prog Qev:=Qr fun x h=>Qst x.1 h
end
end Go.Proofs.Ytephkbajoofeoaa.Am

