/- -/
import Derived.Test.YtdplaepmjogjjaaGreatVAH1
import Derived.Test.YtdplaepmjogjjaaGreatVAGF
namespace Go.Proofs.YtdplaepmjogjjaaGreat.Am
open Go Go.RowKit Go.Proofs.YtdplaepmjogjjaaGreat
set_option linter.all false
noncomputable section
variable (K:TRes→Prop)
def Qa5 (t:Int):TRes:=zre (zci t)
def Qhn:TRow:=Qh 55 [(.c (.sl Qo)),(.c TI)] fun x=>(some (p_sz (α:=List TIns) x.1 x.2.1),Qa5 (m_sz (α:=List TIns) x.1 x.2.1))
def QmW:TTab:=⟨[],false⟩
def QDM:TCode :=
 (zsq [(.reg [zmv 4 (zki 0)]),(.reg [zmv 5 1,zmv 6 0,zle 7 6,zbi 8 .sub 5 7,zmv 1 8]),(zsq [(.reg [zmv 9 1,zbi 10 .lss 9 (zki 0)]),(.cond 10 (zsq [(.reg [zmv 4 (zki (-1))]),.ret]) .skip)]),(.reg [zmv 11 1,zmv 4 11]),.ret])
def QxV:List (ARv × Md):=[(.t 4,.one .d)]
theorem QD7 (a:List TIns) (left:Int) (h :
 (zif (decide ((w64 (left-(a.length:Int)))<(0:Int))) (K (Qa5 (-1:Int))) (K (Qa5 (w64 (left-(a.length:Int))))))):Hold (tawp QmW (0+0) QDM (TQ 0 0 QxV K) (Qf [(.c (.sl Qo) a),(.c TI left)])) :=
 Hold.of (by kernel_rfl) h
theorem Qyv (a:List TIns) (left:Int) (hp:p_sz (α:=List TIns) a left):TCon Tryz.prog 55 [(.c (.sl Qo) a),(.c TI left)] (Qa5 (m_sz (α:=List TIns) a left)):=by
 refine Qj rfl fun hb=>tcg (Γ:=QmW) (n:=12) (sg:=Qhn.sg) Qi TOkL.nil (by kernel_rfl) (by kernel_rfl) (QD7 _ a left ?_)
 exact Qrs (Q:=fun x=>Qa5 x=Qa5 (m_sz (α:=List TIns) a left)) (fun _=>rfl) hp hb.1.1 rfl
theorem QCJ:Qg Tryz.prog Qhn:=Qk fun x h=>Qyv x.1 x.2.1 h
def QeS (t:Int):TRes:=zre (zci t)
def QhU:TRow:=Qh 153 [(.a Ql),(.c TI)] fun x=>(some (p_sz (α:=Qd) x.1 x.2.1),QeS (m_sz (α:=Qd) x.1 x.2.1))
def QoF:TTab:=⟨[Qby],false⟩
def QCD:TCode :=
 (zsq [(.reg [zop 2 (.box 187 0 2),zmv 4 (zki 0)]),(.reg [zfa 5 2 1,zld 6 5 1,zmv 7 1,zca 8 58 [6,7],zmv 1 8]),(zsq [(.reg [zmv 9 1,zbi 10 .lss 9 (zki 0)]),(.cond 10 (zsq [(.reg [zmv 4 (zki (-1))]),.ret]) .skip)]),(.reg [zmv 11 1,zmv 4 11]),.ret])
def QGM:List (ARv × Md):=[(.t 4,.one .d)]
theorem Qzb (a:Qd) (left:Int) (h :
 ((p_sz (α:=List (List Int)) a.2 left)∧(zif (decide ((m_sz (α:=List (List Int)) a.2 left)<(0:Int))) (K (QeS (-1:Int))) (K (QeS (m_sz (α:=List (List Int)) a.2 left)))))):Hold (tawp QoF (0+0) QCD (TQ 0 0 QGM K) (Qf [(.a [(.c TI a.1),(.c (.sl [(.sl [TI])]) a.2)]),(.c TI left)])) :=
 Hold.of (by kernel_rfl) h
theorem QtM (a:Qd) (left:Int) (hp:p_sz (α:=Qd) a left):TCon Tryz.prog 153 [(.a [(.c TI a.1),(.c (.sl [(.sl [TI])]) a.2)]),(.c TI left)] (QeS (m_sz (α:=Qd) a left)):=by
 refine Qj rfl fun hb=>tcg (Γ:=QoF) (n:=12) (sg:=QhU.sg) Qi (TOkL.cons QfP TOkL.nil) (by kernel_rfl) (by kernel_rfl) (Qzb _ a left ?_)
 refine ⟨hp,fun h=>R_eq (Z5 (of_decide_eq_true h) (by first | omega | (simp only [QL,QI,QS];omega)) hp.1),fun h=>?_⟩
 exact R_eq (congrArg (ZF · _) (by first | rfl | omega | (simp only [QL,QI,QS];omega)))
theorem Quc:Qg Tryz.prog QhU:=Qk fun x h=>QtM x.1 x.2.1 h
def Qao (t:Int):TRes:=zre (zci t)
def QjE:TRow:=Qh 57 [(.c (.sl Ql)),(.c TI)] fun x=>(some (p_sz (α:=List Qd) x.1 x.2.1),Qao (m_sz (α:=List Qd) x.1 x.2.1))
def Qer:TTab:=⟨[QhU],false⟩
def Qk5:TCode :=
 (zsq [(zsq [(.reg [zmv 12 5,zmv 13 0,zle 14 13,zbi 15 .lss 12 14]),(.cond 15 .skip (.exit 0))]),(.block 1 (zsq [(.reg [zmv 18 0,zmv 19 5,zia 20 18 19 Ql,zLd 21 20 2,zmv 22 1,zca 23 153 [21,22],zmv 1 23]),(.reg [zmv 24 1,zbi 25 .lss 24 (zki 0)]),(.cond 25 (zsq [(.reg [zmv 4 (zki (-1))]),.ret]) .skip)])),(.reg [zmv 16 5,zbi 17 .add 16 (zki 1),zmv 5 17])])
def Qj7:List (Nat × Md):=zdl [0,1,5]
def Qj9:TCode :=
 (zsq [(.reg [zmv 26 1,zmv 4 26]),.ret])
def Qur:TCode :=
 (zsq [(.reg [zmv 4 (zki 0)]),(.reg [zmv 6 1,zmv 7 0,zle 8 7,zbi 9 .sub 6 8,zmv 1 9]),(zsq [(.reg [zmv 10 1,zbi 11 .lss 10 (zki 0)]),(.cond 11 (zsq [(.reg [zmv 4 (zki (-1))]),.ret]) .skip)]),(zsq [(.reg [zmv 5 (zki 0)]),(.block 0 (.loop Qj7 Qk5))]),Qj9])
def Qom:List (ARv × Md):=[(.t 4,.one .d)]
def Qml:Qb:=TQ 0 0 Qom K
def QwY:Qb:=Qseq (tawp Qer 0 Qj9 (Qml K)) (Qml K)
def QDD:Qb:=Qblk 0 (QwY K)
def Qhr (a:List Qd) (left1:Int) (i:Int):Prop:=Loop Qer 0 Qj7 Qk5 (QDD K) ⟨[(0,(zcs Ql a)),(1,(zci left1)),(5,(zci i))],[],0⟩
theorem QEo (a:List Qd) (left1:Int) (i:Int) (h :
 (zif (decide (i<(a.length:Int))) ((((0:Int)≤i∧Int.toNat i<a.length)∧(p_sz (α:=Qd) (gtd Qu a (Int.toNat i)) left1))∧(zif (decide ((m_sz (α:=Qd) (gtd Qu a (Int.toNat i)) left1)<(0:Int))) (K (Qao (-1:Int))) (Qhr K a (m_sz (α:=Qd) (gtd Qu a (Int.toNat i)) left1) (w64 (i+(1:Int)))))) (K (Qao left1)))):Qhr K a left1 i :=
 Loop.of (by kernel_rfl) h
theorem QA5 (a:List Qd) (left:Int) (h :
 (zif (decide ((w64 (left-(a.length:Int)))<(0:Int))) (K (Qao (-1:Int))) (Qhr K a (w64 (left-(a.length:Int))) 0))):Hold (tawp Qer (0+0) Qur (TQ 0 0 Qom K) (Qf [(.c (.sl Ql) a),(.c TI left)])) :=
 Hold.of (by kernel_rfl) h
theorem QyH (a:List Qd) (left:Int) (hp:p_sz (α:=List Qd) a left):TCon Tryz.prog 57 [(.c (.sl Ql) a),(.c TI left)] (Qao (m_sz (α:=List Qd) a left)):=by
 refine Qj rfl fun hb=>tcg (Γ:=Qer) (n:=27) (sg:=QjE.sg) Qi (TOkL.cons Quc TOkL.nil) (by kernel_rfl) (by kernel_rfl) (QA5 _ a left ?_)
 exact QhF (Q:=fun x=>Qao x=Qao (m_sz (α:=List Qd) a left)) Qu hp hb.1.1 (fun l i h=>QEo _ a l i h) rfl
theorem Qwb:Qg Tryz.prog QjE:=Qk fun x h=>QyH x.1 x.2.1 h
def Qgo (t:TIns):TRes:=zre (.a [(zci t.1),(zci t.2)])
def QgP:TRow:=Qh 161 [(.a Qo)] fun x=>(some (p_to (α:=TIns) x.1),Qgo (id (α:=TIns) x.1))
def Qmd:TTab:=⟨[],true⟩
def QyY:TCode :=
 (zsq [(.reg [zop 1 (.box 195 0 2),zop 2 (.new 175 (z0s Qo))]),(.reg [zop 3 (.new 175 (z0s Qo))]),(.reg [zfa 4 1 0,zld 5 4 1,zfa 6 3 0,zst 6 5 1]),(.reg [zfa 7 1 1,zld 8 7 1,zfa 9 3 1,zst 9 8 1]),(.reg [zLd 10 3 2,zst 2 10 2]),.ret])
def QF1:List (ARv × Md):=[(.l 2 2 true,.b [.d,.d])]
theorem QDr (a:TIns) (h :
 K (Qgo a)):Hold (tawp Qmd (0+0) QyY (TQ 0 0 QF1 K) (Qf [(.a [(.c TI a.1),(.c TI a.2)])])) :=
 Hold.of (by kernel_rfl) h
theorem Quw (a:TIns) (hp:p_to (α:=TIns) a):TCon Tryz.prog 161 [(.a [(.c TI a.1),(.c TI a.2)])] (Qgo (id (α:=TIns) a)):=by
 refine Qj rfl fun hb=>tcg (Γ:=Qmd) (n:=11) (sg:=QgP.sg) Qi TOkL.nil (by kernel_rfl) (by kernel_rfl) (QDr _ a ?_)
 exact R_eq rfl
theorem QFf:Qg Tryz.prog QgP:=Qk fun x h=>Quw x.1 h
def Jp (t:(List TIns)):TRes:=⟨(.r Qo 0 0 t.length),[(.sl 175 Qo (.dp 0 true []) t)],[],false,[]⟩
def Qiy:TRow:=Qh 65 [(.c (.sl Qo))] fun x=>(some (p_to (α:=List TIns) x.1),Jp (id (α:=List TIns) x.1))
def Qe3:TTab:=⟨[QgP],true⟩
def QpY:TCode :=
 (zsq [(zsq [(.reg [zmv 8 4,zmv 9 0,zle 10 9,zbi 11 .lss 8 10]),(.cond 11 .skip (.exit 0))]),(.block 1 (.reg [zmv 14 3,zmv 15 4,zmv 16 0,zmv 17 4,zia 18 16 17 Qo,zLd 19 18 2,zca 20 161 [19],zia 21 14 15 Qo,zst 21 20 2])),(.reg [zmv 12 4,zbi 13 .add 12 (zki 1),zmv 4 13])])
def Qou:List (Nat × Md):=[(0,.one .d),(3,.one .f),(4,.one .d)]
def Qth:TCode :=
 (zsq [(.reg [zmv 22 3,zmv 2 22]),.ret])
def Qy8:TCode :=
 (zsq [(.reg [zmv 2 (.k (.n Qo))]),(.reg [zmv 5 0,zle 6 5,zop 7 (.mk 175 Qo (z0s Qo) 6),zmv 3 7]),(zsq [(.reg [zmv 4 (zki 0)]),(.block 0 (.loop Qou QpY))]),Qth])
def QqA:List (ARv × Md):=[(.t 2,.one (.p 175))]
def Qlg:Qb:=TQ 0 0 QqA K
def QvF:Qb:=Qseq (tawp Qe3 0 Qth (Qlg K)) (Qlg K)
def QFF:Qb:=Qblk 0 (QvF K)
def QcT (a:List TIns) (i:Int) (out:List TIns):Prop:=Loop Qe3 0 Qou QpY (QFF K) ⟨[(0,(zcs Qo a)),(3,(.r Qo 0 0 out.length)),(4,(zci i))],[(0,(.sl 175 Qo (.dp 0 true []) out))],1⟩
theorem QmZ (a:List TIns) (i:Int) (out:List TIns) (h :
 (zif (decide (i<(a.length:Int))) ((((0:Int)≤i∧Int.toNat i<a.length)∧((p_to (α:=TIns) (gtd dIns a (Int.toNat i)))∧(((0:Int)≤i∧Int.toNat i<out.length)∧((0+(Int.toNat i))<out.length))))∧(QcT K a (w64 (i+(1:Int))) (List.take out.length ((out).set (0+(Int.toNat i)) (id (α:=TIns) (gtd dIns a (Int.toNat i))))))) (K (Jp (List.take out.length out))))):QcT K a i out :=
 Loop.of (by kernel_rfl) h
theorem QtN (a:List TIns) (h :
 (((0:Int)≤(a.length:Int)∧(a.length:Int)≤big)∧(QcT K a 0 (List.take (Int.toNat (a.length:Int)) (List.replicate (Int.toNat (a.length:Int)) ((0:Int),(0:Int))))))):Hold (tawp Qe3 (0+0) Qy8 (TQ 0 0 QqA K) (Qf [(.c (.sl Qo) a)])) :=
 Hold.of (by kernel_rfl) h
theorem QAN (a:List TIns) (hp:p_to (α:=List TIns) a):TCon Tryz.prog 65 [(.c (.sl Qo) a)] (Jp (id (α:=List TIns) a)):=by
 refine Qj rfl fun hb=>tcg (Γ:=Qe3) (n:=23) (sg:=Qiy.sg) Qi (TOkL.cons QFf TOkL.nil) (by kernel_rfl) (by kernel_rfl) (QtN _ a ?_)
 refine ⟨⟨by omega,by rw [bigI];have:=Yx hp;omega⟩,?_⟩
 refine Qb7 a (A:=fun ii ll=>QcT (fun r'=>r'=Jp (id (α:=List TIns) a)) a ii ll) (Q:=fun z=>Jp z=Jp (id (α:=List TIns) a)) hp ?_ ?_ rfl
 ·intro k x out hlt hg ho hx hA
  have hw:w64 (((k:Nat):Int)+1)=((k+1:Nat):Int):=by have:=Yx hp;rw [Qv (by omega) (by omega)];omega
  have hlo:k<out.length:=by omega
  refine QmZ (fun r'=>r'=Jp (id (α:=List TIns) a)) a ((k:Nat):Int) out ?_
  refine ⟨fun _=>?_,fun h=>absurd h (by simp;omega)⟩
  simp only [Int.toNat_natCast,Nat.zero_add,hg,hw,hlt,hlo,QbG,List.drop_zero,List.take_length,id_eq,and_true,true_and,Int.natCast_nonneg]
  first | exact hA | exact ⟨hx,hA⟩
 ·intro out ho hq
  refine QmZ (fun r'=>r'=Jp (id (α:=List TIns) a)) a ((a.length:Nat):Int) out ?_
  refine ⟨fun h=>absurd h (by simp),fun _=>?_⟩
  simp only [List.drop_zero,List.take_length]
  exact hq
theorem QC1:Qg Tryz.prog Qiy:=Qk fun x h=>QAN x.1 h
def QiN (t:Qd):TRes:=⟨(.a [(zci t.1),(.r [(.sl [TI])] 0 0 ((t.2).length))]),[(.sl 106 [(.sl [TI])] (.dp 0 true []) t.2)],[],false,[]⟩
def QgZ:TRow:=Qh 163 [(.a Ql)] fun x=>(some (p_to (α:=Qd) x.1),QiN (id (α:=Qd) x.1))
def Qry:TTab:=⟨[Qci],true⟩
def QzX:TCode :=
 (zsq [(.reg [zop 1 (.box 187 0 2),zop 2 (.new 108 (z0s Ql))]),(.reg [zop 3 (.new 108 (z0s Ql))]),(.reg [zfa 4 1 0,zld 5 4 1,zfa 6 3 0,zst 6 5 1]),(.reg [zfa 7 1 1,zld 8 7 1,zca 9 68 [8],zfa 10 3 1,zst 10 9 1]),(.reg [zLd 11 3 2,zst 2 11 2]),.ret])
def QCg:List (ARv × Md):=[(.l 2 2 true,.b [.d,.p 106])]
theorem QGl (a:Qd) (h :
 ((p_to (α:=List (List Int)) a.2)∧K (QiN (a.1,(List.take ((id (α:=List (List Int)) a.2).length) (id (α:=List (List Int)) a.2)))))):Hold (tawp Qry (0+0) QzX (TQ 0 0 QCg K) (Qf [(.a [(.c TI a.1),(.c (.sl [(.sl [TI])]) a.2)])])) :=
 Hold.of (by kernel_rfl) h
theorem QDT (a:Qd) (hp:p_to (α:=Qd) a):TCon Tryz.prog 163 [(.a [(.c TI a.1),(.c (.sl [(.sl [TI])]) a.2)])] (QiN (id (α:=Qd) a)):=by
 refine Qj rfl fun hb=>tcg (Γ:=Qry) (n:=12) (sg:=QgZ.sg) Qi (TOkL.cons Qh8 TOkL.nil) (by kernel_rfl) (by kernel_rfl) (QGl _ a ?_)
 repeat' (first | refine And.intro ?_ ?_ | exact R_eq (by simp))
 all_goals (simp only [p_to,QL,QI,QS,List.drop_zero,List.take_length,id_eq] at hp ⊢;omega)
theorem QBq:Qg Tryz.prog QgZ:=Qk fun x h=>QDT x.1 h
def Jl (t:(List Qd)):TRes:=⟨(.r Ql 0 0 t.length),[(.sl 108 Ql (.dp 0 true []) t)],[],false,[]⟩
def Qgs:TRow:=Qh 67 [(.c (.sl Ql))] fun x=>(some (p_to (α:=List Qd) x.1),Jl (id (α:=List Qd) x.1))
def QdB:TTab:=⟨[QgZ],true⟩
def Qkg:TCode :=
 (zsq [(zsq [(.reg [zmv 8 4,zmv 9 0,zle 10 9,zbi 11 .lss 8 10]),(.cond 11 .skip (.exit 0))]),(.block 1 (.reg [zmv 14 3,zmv 15 4,zmv 16 0,zmv 17 4,zia 18 16 17 Ql,zLd 19 18 2,zca 20 163 [19],zia 21 14 15 Ql,zst 21 20 2])),(.reg [zmv 12 4,zbi 13 .add 12 (zki 1),zmv 4 13])])
def Qlw:List (Nat × Md):=[(0,.one .d),(3,.one .f),(4,.one .d)]
def QmM:TCode :=
 (zsq [(.reg [zmv 22 3,zmv 2 22]),.ret])
def QBH:TCode :=
 (zsq [(.reg [zmv 2 (.k (.n Ql))]),(.reg [zmv 5 0,zle 6 5,zop 7 (.mk 108 Ql (z0s Ql) 6),zmv 3 7]),(zsq [(.reg [zmv 4 (zki 0)]),(.block 0 (.loop Qlw Qkg))]),QmM])
def Qr8:List (ARv × Md):=[(.t 2,.one (.p 108))]
def Qnh:Qb:=TQ 0 0 Qr8 K
def QtY:Qb:=Qseq (tawp QdB 0 QmM (Qnh K)) (Qnh K)
def Qut:Qb:=Qblk 0 (QtY K)
def QdD (a:List Qd) (i:Int) (out:List Qd):Prop:=Loop QdB 0 Qlw Qkg (Qut K) ⟨[(0,(zcs Ql a)),(3,(.r Ql 0 0 out.length)),(4,(zci i))],[(0,(.sl 108 Ql (.dp 0 true []) out))],1⟩
theorem QnH (a:List Qd) (i:Int) (out:List Qd) (h :
 (zif (decide (i<(a.length:Int))) ((((0:Int)≤i∧Int.toNat i<a.length)∧((p_to (α:=Qd) (gtd Qu a (Int.toNat i)))∧(((0:Int)≤i∧Int.toNat i<out.length)∧((0+(Int.toNat i))<out.length))))∧(QdD K a (w64 (i+(1:Int))) (List.take out.length ((out).set (0+(Int.toNat i)) ((id (α:=Qd) (gtd Qu a (Int.toNat i))).1,(List.take (((id (α:=Qd) (gtd Qu a (Int.toNat i))).2).length) (List.drop 0 ((id (α:=Qd) (gtd Qu a (Int.toNat i))).2)))))))) (K (Jl (List.take out.length out))))):QdD K a i out :=
 Loop.of (by kernel_rfl) h
theorem Qyq (a:List Qd) (h :
 (((0:Int)≤(a.length:Int)∧(a.length:Int)≤big)∧(QdD K a 0 (List.take (Int.toNat (a.length:Int)) (List.replicate (Int.toNat (a.length:Int)) ((0:Int),[])))))):Hold (tawp QdB (0+0) QBH (TQ 0 0 Qr8 K) (Qf [(.c (.sl Ql) a)])) :=
 Hold.of (by kernel_rfl) h
theorem QCe (a:List Qd) (hp:p_to (α:=List Qd) a):TCon Tryz.prog 67 [(.c (.sl Ql) a)] (Jl (id (α:=List Qd) a)):=by
 refine Qj rfl fun hb=>tcg (Γ:=QdB) (n:=23) (sg:=Qgs.sg) Qi (TOkL.cons QBq TOkL.nil) (by kernel_rfl) (by kernel_rfl) (Qyq _ a ?_)
 refine ⟨⟨by omega,by rw [bigI];have:=Yx hp;omega⟩,?_⟩
 refine Qb7 a (A:=fun ii ll=>QdD (fun r'=>r'=Jl (id (α:=List Qd) a)) a ii ll) (Q:=fun z=>Jl z=Jl (id (α:=List Qd) a)) hp ?_ ?_ rfl
 ·intro k x out hlt hg ho hx hA
  have hw:w64 (((k:Nat):Int)+1)=((k+1:Nat):Int):=by have:=Yx hp;rw [Qv (by omega) (by omega)];omega
  have hlo:k<out.length:=by omega
  refine QnH (fun r'=>r'=Jl (id (α:=List Qd) a)) a ((k:Nat):Int) out ?_
  refine ⟨fun _=>?_,fun h=>absurd h (by simp;omega)⟩
  simp only [Int.toNat_natCast,Nat.zero_add,hg,hw,hlt,hlo,QbG,List.drop_zero,List.take_length,id_eq,and_true,true_and,Int.natCast_nonneg]
  first | exact hA | exact ⟨hx,hA⟩
 ·intro out ho hq
  refine QnH (fun r'=>r'=Jl (id (α:=List Qd) a)) a ((a.length:Nat):Int) out ?_
  refine ⟨fun h=>absurd h (by simp),fun _=>?_⟩
  simp only [List.drop_zero,List.take_length]
  exact hq
theorem QvD:Qg Tryz.prog Qgs:=Qk fun x h=>QCe x.1 h
def Qbz (t:Bool):TRes:=zre (zcb t)
def Qit:TRow:=Qh 171 [(.a Qo),(.a Qo)] fun x=>(none,Qbz (m_eq (α:=TIns) x.1 x.2.1))
def QoX:TTab:=⟨[],false⟩
def QB1:TCode :=
 (zsq [(.reg [zop 2 (.box 175 0 2),zop 3 (.box 175 1 2),zmv 4 (zkb false)]),(zsq [(.reg [zfa 5 2 0,zld 6 5 1,zfa 7 3 0,zld 8 7 1,zbi 9 .neq 6 8]),(.cond 9 (zsq [(.reg [zmv 4 (zkb false)]),.ret]) .skip)]),(zsq [(.reg [zfa 10 2 1,zld 11 10 1,zfa 12 3 1,zld 13 12 1,zbi 14 .neq 11 13]),(.cond 14 (zsq [(.reg [zmv 4 (zkb false)]),.ret]) .skip)]),(.reg [zmv 4 (zkb true)]),.ret])
def QCt:List (ARv × Md):=[(.t 4,.one .d)]
theorem QFL (a:TIns) (b:TIns) (h :
 (zif (a.1 != b.1) (K (Qbz false)) (zif (a.2 != b.2) (K (Qbz false)) (K (Qbz true))))):Hold (tawp QoX (0+0) QB1 (TQ 0 0 QCt K) (Qf [(.a [(.c TI a.1),(.c TI a.2)]),(.a [(.c TI b.1),(.c TI b.2)])])) :=
 Hold.of (by kernel_rfl) h
theorem QvV (a:TIns) (b:TIns):TCon Tryz.prog 171 [(.a [(.c TI a.1),(.c TI a.2)]),(.a [(.c TI b.1),(.c TI b.2)])] (Qbz (m_eq (α:=TIns) a b)):=by
 refine Qj rfl fun hb=>tcg (Γ:=QoX) (n:=15) (sg:=Qit.sg) Qi TOkL.nil (by kernel_rfl) (by kernel_rfl) (QFL _ a b ?_)
 refine ⟨fun h=>R_eq (Eq.symm (decide_eq_false (by rintro rfl;simp [m_eq] at h))),fun h0=>?_⟩
 refine ⟨fun h=>R_eq (Eq.symm (decide_eq_false (by rintro rfl;simp [m_eq] at h))),fun h1=>?_⟩
 refine R_eq (Eq.symm (decide_eq_true ?_))
 simp [m_eq] at h0 h1
 simp [Prod.ext_iff, *]
theorem QFh:Qg Tryz.prog Qit:=Qk fun x _=>QvV x.1 x.2.1
def Qag (t:Bool):TRes:=zre (zcb t)
def Qhi:TRow:=Qh 75 [(.c (.sl Qo)),(.c (.sl Qo))] fun x=>(none,Qag (m_eq (α:=List TIns) x.1 x.2.1))
def QdQ:TTab:=⟨[Qit],false⟩
def Qj1:TCode :=
 (zsq [(zsq [(.reg [zmv 11 5,zmv 12 0,zle 13 12,zbi 14 .lss 11 13]),(.cond 14 .skip (.exit 0))]),(.block 1 (zsq [(.draw [zmv 17 0,zmv 18 5,zia 19 17 18 Qo,zLd 20 19 2,zmv 21 1,zmv 22 5,zia 23 21 22 Qo,zLd 24 23 2,zca 25 171 [20,24],zno 26 25] []),(.cond 26 (zsq [(.reg [zmv 4 (zkb false)]),.ret]) .skip)])),(.reg [zmv 15 5,zbi 16 .add 15 (zki 1),zmv 5 16])])
def QpW:List (Nat × Md):=zdl [0,1,5]
def QpV:TCode :=
 (zsq [(.reg [zmv 4 (zkb true)]),.ret])
def QEE:TCode :=
 (zsq [(.reg [zmv 4 (zkb false)]),(zsq [(.reg [zmv 6 0,zle 7 6,zmv 8 1,zle 9 8,zbi 10 .neq 7 9]),(.cond 10 (zsq [(.reg [zmv 4 (zkb false)]),.ret]) .skip)]),(zsq [(.reg [zmv 5 (zki 0)]),(.block 0 (.loop QpW Qj1))]),QpV])
def Qp7:List (ARv × Md):=[(.t 4,.one .d)]
def QnG:Qb:=TQ 0 0 Qp7 K
def QuJ:Qb:=Qseq (tawp QdQ 0 QpV (QnG K)) (QnG K)
def QC8:Qb:=Qblk 0 (QuJ K)
def QfY (a:List TIns) (b:List TIns) (i:Int):Prop:=Loop QdQ 0 QpW Qj1 (QC8 K) ⟨[(0,(zcs Qo a)),(1,(zcs Qo b)),(5,(zci i))],[],0⟩
theorem QyK (a:List TIns) (b:List TIns) (i:Int) (h :
 (zif (decide (i<(a.length:Int))) ((((0:Int)≤i∧Int.toNat i<a.length)∧((0:Int)≤i∧Int.toNat i<b.length))∧(zif (!(m_eq (α:=TIns) (gtd dIns a (Int.toNat i)) (gtd dIns b (Int.toNat i)))) (K (Qag false)) (QfY K a b (w64 (i+(1:Int)))))) (K (Qag true)))):QfY K a b i :=
 Loop.of (by kernel_rfl) h
theorem QuX (a:List TIns) (b:List TIns) (h :
 (zif ((a.length:Int) != (b.length:Int)) (K (Qag false)) (QfY K a b 0))):Hold (tawp QdQ (0+0) QEE (TQ 0 0 Qp7 K) (Qf [(.c (.sl Qo) a),(.c (.sl Qo) b)])) :=
 Hold.of (by kernel_rfl) h
theorem QEG (a:List TIns) (b:List TIns):TCon Tryz.prog 75 [(.c (.sl Qo) a),(.c (.sl Qo) b)] (Qag (m_eq (α:=List TIns) a b)):=by
 refine Qj rfl fun hb=>tcg (Γ:=QdQ) (n:=27) (sg:=Qhi.sg) Qi (TOkL.cons QFh TOkL.nil) (by kernel_rfl) (by kernel_rfl) (QuX _ a b ?_)
 exact Qcm dIns (E:=m_eq) (fun _ _=>rfl) hb.1.1 (fun i h=>QyK _ a b i h) (Q:=fun x=>Qag x=Qag (m_eq (α:=List TIns) a b)) rfl
theorem QCn:Qg Tryz.prog Qhi:=Qk fun x _=>QEG x.1 x.2.1
def QbF (t:Bool):TRes:=zre (zcb t)
def Qiu:TRow:=Qh 173 [(.a Ql),(.a Ql)] fun x=>(none,QbF (m_eq (α:=Qd) x.1 x.2.1))
def Qk6:TTab:=⟨[QbT],false⟩
def Qwq:TCode :=
 (zsq [(.reg [zop 2 (.box 108 0 2),zop 3 (.box 108 1 2),zmv 4 (zkb false)]),(zsq [(.reg [zfa 5 2 0,zld 6 5 1,zfa 7 3 0,zld 8 7 1,zbi 9 .neq 6 8]),(.cond 9 (zsq [(.reg [zmv 4 (zkb false)]),.ret]) .skip)]),(zsq [(.reg [zfa 10 2 1,zld 11 10 1,zfa 12 3 1,zld 13 12 1,zca 14 78 [11,13],zno 15 14]),(.cond 15 (zsq [(.reg [zmv 4 (zkb false)]),.ret]) .skip)]),(.reg [zmv 4 (zkb true)]),.ret])
def QBf:List (ARv × Md):=[(.t 4,.one .d)]
theorem Qva (a:Qd) (b:Qd) (h :
 (zif (a.1 != b.1) (K (QbF false)) (zif (!(m_eq (α:=List (List Int)) a.2 b.2)) (K (QbF false)) (K (QbF true))))):Hold (tawp Qk6 (0+0) Qwq (TQ 0 0 QBf K) (Qf [(.a [(.c TI a.1),(.c (.sl [(.sl [TI])]) a.2)]),(.a [(.c TI b.1),(.c (.sl [(.sl [TI])]) b.2)])])) :=
 Hold.of (by kernel_rfl) h
theorem QtD (a:Qd) (b:Qd):TCon Tryz.prog 173 [(.a [(.c TI a.1),(.c (.sl [(.sl [TI])]) a.2)]),(.a [(.c TI b.1),(.c (.sl [(.sl [TI])]) b.2)])] (QbF (m_eq (α:=Qd) a b)):=by
 refine Qj rfl fun hb=>tcg (Γ:=Qk6) (n:=16) (sg:=Qiu.sg) Qi (TOkL.cons QjD TOkL.nil) (by kernel_rfl) (by kernel_rfl) (Qva _ a b ?_)
 refine ⟨fun h=>R_eq (Eq.symm (decide_eq_false (by rintro rfl;simp [m_eq] at h))),fun h0=>?_⟩
 refine ⟨fun h=>R_eq (Eq.symm (decide_eq_false (by rintro rfl;simp [m_eq] at h))),fun h1=>?_⟩
 refine R_eq (Eq.symm (decide_eq_true ?_))
 simp [m_eq] at h0 h1
 simp [Prod.ext_iff, *]
theorem Qya:Qg Tryz.prog Qiu:=Qk fun x _=>QtD x.1 x.2.1
def JO (t:Bool):TRes:=zre (zcb t)
def Qis:TRow:=Qh 77 [(.c (.sl Ql)),(.c (.sl Ql))] fun x=>(none,JO (m_eq (α:=List Qd) x.1 x.2.1))
def QeV:TTab:=⟨[Qiu],false⟩
def Qk9:TCode :=
 (zsq [(zsq [(.reg [zmv 11 5,zmv 12 0,zle 13 12,zbi 14 .lss 11 13]),(.cond 14 .skip (.exit 0))]),(.block 1 (zsq [(.draw [zmv 17 0,zmv 18 5,zia 19 17 18 Ql,zLd 20 19 2,zmv 21 1,zmv 22 5,zia 23 21 22 Ql,zLd 24 23 2,zca 25 173 [20,24],zno 26 25] []),(.cond 26 (zsq [(.reg [zmv 4 (zkb false)]),.ret]) .skip)])),(.reg [zmv 15 5,zbi 16 .add 15 (zki 1),zmv 5 16])])
def QoR:List (Nat × Md):=zdl [0,1,5]
def Ql1:TCode :=
 (zsq [(.reg [zmv 4 (zkb true)]),.ret])
def QtA:TCode :=
 (zsq [(.reg [zmv 4 (zkb false)]),(zsq [(.reg [zmv 6 0,zle 7 6,zmv 8 1,zle 9 8,zbi 10 .neq 7 9]),(.cond 10 (zsq [(.reg [zmv 4 (zkb false)]),.ret]) .skip)]),(zsq [(.reg [zmv 5 (zki 0)]),(.block 0 (.loop QoR Qk9))]),Ql1])
def Qpo:List (ARv × Md):=[(.t 4,.one .d)]
def QmU:Qb:=TQ 0 0 Qpo K
def Qys:Qb:=Qseq (tawp QeV 0 Ql1 (QmU K)) (QmU K)
def QBF:Qb:=Qblk 0 (Qys K)
def Qgc (a:List Qd) (b:List Qd) (i:Int):Prop:=Loop QeV 0 QoR Qk9 (QBF K) ⟨[(0,(zcs Ql a)),(1,(zcs Ql b)),(5,(zci i))],[],0⟩
theorem Qv3 (a:List Qd) (b:List Qd) (i:Int) (h :
 (zif (decide (i<(a.length:Int))) ((((0:Int)≤i∧Int.toNat i<a.length)∧((0:Int)≤i∧Int.toNat i<b.length))∧(zif (!(m_eq (α:=Qd) (gtd Qu a (Int.toNat i)) (gtd Qu b (Int.toNat i)))) (K (JO false)) (Qgc K a b (w64 (i+(1:Int)))))) (K (JO true)))):Qgc K a b i :=
 Loop.of (by kernel_rfl) h
theorem QBX (a:List Qd) (b:List Qd) (h :
 (zif ((a.length:Int) != (b.length:Int)) (K (JO false)) (Qgc K a b 0))):Hold (tawp QeV (0+0) QtA (TQ 0 0 Qpo K) (Qf [(.c (.sl Ql) a),(.c (.sl Ql) b)])) :=
 Hold.of (by kernel_rfl) h
theorem Qwy (a:List Qd) (b:List Qd):TCon Tryz.prog 77 [(.c (.sl Ql) a),(.c (.sl Ql) b)] (JO (m_eq (α:=List Qd) a b)):=by
 refine Qj rfl fun hb=>tcg (Γ:=QeV) (n:=27) (sg:=Qis.sg) Qi (TOkL.cons Qya TOkL.nil) (by kernel_rfl) (by kernel_rfl) (QBX _ a b ?_)
 exact Qcm Qu (E:=m_eq) (fun _ _=>rfl) hb.1.1 (fun i h=>Qv3 _ a b i h) (Q:=fun x=>JO x=JO (m_eq (α:=List Qd) a b)) rfl
theorem QCI:Qg Tryz.prog Qis:=Qk fun x _=>Qwy x.1 x.2.1
end
end Go.Proofs.YtdplaepmjogjjaaGreat.Am

