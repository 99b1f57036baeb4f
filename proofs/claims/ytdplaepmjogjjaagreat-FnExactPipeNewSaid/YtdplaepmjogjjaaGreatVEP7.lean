/- -/
import Derived.Test.YtdplaepmjogjjaaGreatVEP5
import Derived.Test.YtdplaepmjogjjaaGreatVEP6
import Derived.Test.YtdplaepmjogjjaaGreatVEP4
import Derived.Test.YtdplaepmjogjjaaGreatVEP1
namespace Go.Proofs.YtdplaepmjogjjaaGreat.Am
open Go Go.RowKit Go.Proofs.YtdplaepmjogjjaaGreat
set_option linter.all false
noncomputable section
variable (K:TRes→Prop)
def JR (t:Bool):TRes:=zre (zcb t)
def QiS:TRow:=Qg 206 [(.a Qv)] fun x=>(none,JR (Zm x.1))
def QeL:TTab:=⟨[],false⟩
def QoP:TCode :=
 (zsq [(.reg [zbi 16 .lss 15 14]),(.cond 16 .skip (.exit 0)),(.block 1 (zsq [(.reg [zia 17 13 15 [TI],zld 18 17 1,zmv 4 18]),(.reg [zmv 19 4,zbi 20 .lss 19 (zki 1),zmv 21 20,.grp 21 false [zmv 22 4,zbi 23 .gtr 22 (zki 5)] 24 23]),(.cond 24 (zsq [(.reg [zmv 2 (zkb false)]),.ret]) .skip)])),(.reg [zbi 25 .add 15 (zki 1),zmv 15 25])])
def Quw:List (Nat × Md):=zdl [13,14,15]
def Qtx:TCode :=
 (zsq [(.reg [zmv 2 (zkb true)]),.ret])
def QD1:TCode :=
 (zsq [(.reg [zop 1 (.box 79 0 6),zmv 2 (zkb false)]),(zsq [(.reg [zfa 5 1 4,zld 6 5 1,zle 7 6,zfa 8 1 1,zld 9 8 1,zle 10 9,zbi 11 .neq 7 10]),(.cond 11 (zsq [(.reg [zmv 2 (zkb false)]),.ret]) .skip)]),(zsq [(.reg [zfa 12 1 4,zld 13 12 1,zle 14 13,zmv 15 (zki 0)]),(.block 0 (.loop Quw QoP))]),Qtx])
def Qut:List (ARv × Md):=[(.t 2,.one .d)]
def Qq1:Qb:=TQ 0 0 Qut K
def QyG:Qb:=Qseq (tawp QeL 0 Qtx (Qq1 K)) (Qq1 K)
def QD5:Qb:=Qblk 0 (QyG K)
def Qjr (c:Qf) (x:Int):Prop:=Loop QeL 0 Quw QoP (QD5 K) ⟨[(13,(zcs [TI] c.2.2.2.2.1)),(14,(zci ((c.2.2.2.2.1).length:Int))),(15,(zci x))],[],0⟩
theorem QGM (c:Qf) (x:Int) (h :
 (zif (decide (x<((c.2.2.2.2.1).length:Int))) (((0:Int)≤x∧Int.toNat x<(c.2.2.2.2.1).length)∧(zif ((decide ((gtd (0:Int) c.2.2.2.2.1 (Int.toNat x))<(1:Int)))||(decide ((gtd (0:Int) c.2.2.2.2.1 (Int.toNat x))>(5:Int)))) (K (JR false)) (Qjr K c (w64 (x+(1:Int)))))) (K (JR true)))):Qjr K c x :=
 Loop.of (by kernel_rfl) h
theorem QAn (c:Qf) (h :
 (zif (((c.2.2.2.2.1).length:Int) != ((c.2.1).length:Int)) (K (JR false)) (Qjr K c 0))):Hold (tawp QeL (0+0) QD1 (TQ 0 0 Qut K) (Qe [(.a (Tup.cells Qv c))])) :=
 Hold.of (by kernel_rfl) h
theorem QEY (c:Qf):TCon Tryz.prog 206 [(.a (Tup.cells Qv c))] (JR (Zm c)):=by
 refine Ql rfl fun hb=>tcg (Γ:=QeL) (n:=26) (sg:=QiS.sg) Qk TOkL.nil (by kernel_rfl) (by kernel_rfl) (QAn _ c ?_)
 have hl_c_0:(c.1).length≤9223372036854775807:=hb.1.1.1
 have hl_c_1:(c.2.1).length≤9223372036854775807:=hb.1.2.1.1
 have hl_c_3:(c.2.2.2.1).length≤9223372036854775807:=hb.1.2.2.2.1.1
 have hl_c_4:(c.2.2.2.2.1).length≤9223372036854775807:=hb.1.2.2.2.2.1.1
 have hl_c_5:(c.2.2.2.2.2).length≤9223372036854775807:=hb.1.2.2.2.2.2.1.1
 refine ⟨fun h=>R_eq (by grind [Zm]),fun h=>?_⟩
 have hl:(c.2.2.2.2.1.length==c.2.1.length)=true:=by
  have h:((c.2.2.2.2.1.length:Int)==(c.2.1.length:Int))=true:=by simpa [bne] using h
  have:=of_decide_eq_true (by simpa using h:decide ((c.2.2.2.2.1.length:Int)=c.2.1.length)=true)
  simp;omega
 exact QcY (Q:=fun x=>JR x=JR (Zm c)) (p:=fun n=>m_in n 1 5) (c:=fun n=>decide (n<1)||decide (n>5)) 0 hl_c_4 (by intro x;grind [m_in]) (fun i h=>QGM (fun r'=>r'=JR (Zm c)) c i h) (R_eq (by simp [Zm];intro _;simpa using hl))
theorem QwH:Qi Tryz.prog QiS:=Qm fun x _=>QEY x.1
def J7 (t:Bool):TRes:=zre (zcb t)
def Qji:TRow:=Qg 207 [(.a Qv),(.c TI)] fun x=>(none,J7 (Zs x.1 x.2.1))
def QfG:TTab:=⟨[Qbz,Qjj],false⟩
def QnS:TCode :=
 (zsq [(.reg [zbi 17 .lss 16 15]),(.cond 17 .skip (.exit 0)),(.block 1 (zsq [(.reg [zmv 18 16,zia 19 14 16 [TI],zld 20 19 1,zmv 5 18,zmv 6 20]),(.reg [zmv 21 6,zLd 22 2 6,zmv 23 5,zmv 24 1,zca 25 252 [22,23,24],zbi 26 .lss 21 25,zmv 27 26,.grp 27 false [zmv 28 6,zbi 29 .gtr 28 (zki 100000)] 30 29]),(.cond 30 (zsq [(.reg [zmv 4 (zkb false)]),.ret]) .skip)])),(.reg [zbi 31 .add 16 (zki 1),zmv 16 31])])
def Qr2:List (Nat × Md):=[(1,.one .d),(2,.b (zds 6)),(14,.one .d),(15,.one .d),(16,.one .d)]
def QlU:TCode :=
 (zsq [(.reg [zmv 4 (zkb true)]),.ret])
def Qxn:TCode :=
 (zsq [(.reg [zop 2 (.box 79 0 6),zmv 4 (zkb false)]),(zsq [(.draw [zfa 7 2 5,zld 8 7 1,zle 9 8,zLd 10 2 6,zca 11 127 [10],zbi 12 .neq 9 11] [(0,4),(1,4),(2,4)]),(.cond 12 (zsq [(.reg [zmv 4 (zkb false)]),.ret]) .skip)]),(zsq [(.reg [zfa 13 2 5,zld 14 13 1,zle 15 14,zmv 16 (zki 0)]),(.block 0 (.loop Qr2 QnS))]),QlU])
def Qoa:List (ARv × Md):=[(.t 4,.one .d)]
def Qn5:Qb:=TQ 0 0 Qoa K
def QII:Qb:=Qseq (tawp QfG 0 QlU (Qn5 K)) (Qn5 K)
def Qxl:Qb:=Qblk 0 (QII K)
def QeQ (c:Qf) (micro:Int) (x:Int):Prop:=Loop QfG 0 Qr2 QnS (Qxl K) ⟨[(1,(zci micro)),(2,(.p 0 0 0)),(14,(zcs [TI] c.2.2.2.2.2)),(15,(zci ((c.2.2.2.2.2).length:Int))),(16,(zci x))],[(0,(.box (Tup.cells Qv c)))],1⟩
theorem Qph (c:Qf) (micro:Int) (x:Int) (h :
 (zif (decide (x<((c.2.2.2.2.2).length:Int))) (((0:Int)≤x∧Int.toNat x<(c.2.2.2.2.2).length)∧(zif ((decide ((gtd (0:Int) c.2.2.2.2.2 (Int.toNat x))<(Zr c x micro)))||(decide ((gtd (0:Int) c.2.2.2.2.2 (Int.toNat x))>(100000:Int)))) (K (J7 false)) (QeQ K c micro (w64 (x+(1:Int)))))) (K (J7 true)))):QeQ K c micro x :=
 Loop.of (by kernel_rfl) h
theorem QA1 (c:Qf) (micro:Int) (h :
 (zif (((c.2.2.2.2.2).length:Int) != (Qs c)) (K (J7 false)) (QeQ K c micro 0))):Hold (tawp QfG (0+0) Qxn (TQ 0 0 Qoa K) (Qe [(.a (Tup.cells Qv c)),(.c TI micro)])) :=
 Hold.of (by kernel_rfl) h
theorem QDK (c:Qf) (micro:Int):TCon Tryz.prog 207 [(.a (Tup.cells Qv c)),(.c TI micro)] (J7 (Zs c micro)):=by
 refine Ql rfl fun hb=>tcg (Γ:=QfG) (n:=32) (sg:=Qji.sg) Qk (TOkL.cons Qd7 (TOkL.cons QEy TOkL.nil)) (by kernel_rfl) (by kernel_rfl) (QA1 _ c micro ?_)
 have hl_c_0:(c.1).length≤9223372036854775807:=hb.1.1.1
 have hl_c_1:(c.2.1).length≤9223372036854775807:=hb.1.2.1.1
 have hl_c_3:(c.2.2.2.1).length≤9223372036854775807:=hb.1.2.2.2.1.1
 have hl_c_4:(c.2.2.2.2.1).length≤9223372036854775807:=hb.1.2.2.2.2.1.1
 have hl_c_5:(c.2.2.2.2.2).length≤9223372036854775807:=hb.1.2.2.2.2.2.1.1
 refine ⟨fun h=>R_eq (by grind [Zs]),fun h=>?_⟩
 refine Zy c.2.2.2.2.2 (fun r k=>YF c micro r k=YF c micro c.2.2.2.2.2 0→QeQ (fun r'=>r'=J7 (Zs c micro)) c micro k) ?_ ?_ rfl
 ·intro he
  refine Qph (fun r'=>r'=J7 (Zs c micro)) c micro _ ⟨fun h=>by simp at h,fun _=>R_eq ?_⟩
  grind [Zs,YF]
 ·intro k x r hk hlt hg ih he
  refine Qph (fun r'=>r'=J7 (Zs c micro)) c micro _ ⟨fun _=>?_,fun h=>by simp at h;omega⟩
  rw [Int.toNat_natCast,hg,Qx (x:=(k:Int)+1) (by omega) (by omega)]
  rw [YF] at he
  refine ⟨⟨by omega,hlt⟩,fun h=>R_eq ?_,fun h=>ih ?_⟩
  ·grind [Zs,m_in]
  ·grind [m_in]
theorem QFl:Qi Tryz.prog Qji:=Qm fun x _=>QDK x.1 x.2.1
def YR (t:Int):TRes:=zre (zci t)
def Qid:TRow:=Qg 125 [(.a Qv),(.c (.sl Qj))] fun x=>(none,YR (QK x.1 x.2.1))
def QnN:TTab:=⟨[Qbz,YP,QjP,QiS,Qji],false⟩
def Qzz:TCode :=
 (zsq [(.reg [zop 2 (.box 79 0 6),zmv 4 (zki 0)]),(.reg [zLd 6 2 6,zca 7 127 [6],zmv 5 7]),(.block 0 (zsq [(.reg [zfa 9 2 0,zLd 10 9 1,zca 11 167 [10],zno 12 11,zmv 8 12]),(.cond 8 (zsq [(.reg [zmv 4 (zki 1)]),.ret]) (zsq [(.reg [zfa 14 2 0,zLd 15 14 1,zmv 16 1,zca 17 205 [15,16],zno 18 17,zmv 13 18]),(.cond 13 (zsq [(.reg [zmv 4 (zki 2)]),.ret]) (zsq [(.reg [zmv 20 5,zbi 21 .eql 20 (zki 0),zmv 22 21,.grp 22 false [zmv 23 5,zbi 24 .gtr 23 (zki 4)] 25 24,zmv 19 25]),(.cond 19 (zsq [(.reg [zmv 4 (zki 3)]),.ret]) (zsq [(.reg [zfa 27 2 2,zld 28 27 1,zbi 29 .neq 28 (zki 1),zmv 30 29,.grp 30 true [zfa 31 2 2,zld 32 31 1,zbi 33 .neq 32 (zki 2)] 34 33,zmv 26 34]),(.cond 26 (zsq [(.reg [zmv 4 (zki 4)]),.ret]) (zsq [(.reg [zfa 36 2 3,zld 37 36 1,zle 38 37,zmv 39 5,zbi 40 .neq 38 39,zmv 35 40]),(.cond 35 (zsq [(.reg [zmv 4 (zki 5)]),.ret]) (zsq [(.reg [zLd 42 2 6,zca 43 206 [42],zno 44 43,zmv 41 44]),(.cond 41 (zsq [(.reg [zmv 4 (zki 6)]),.ret]) (zsq [(.reg [zLd 46 2 6,zmv 47 1,zle 48 47,zca 49 207 [46,48],zno 50 49,zmv 45 50]),(.cond 45 (zsq [(.reg [zmv 4 (zki 7)]),.ret]) .skip)]))]))]))]))]))]))])),(.reg [zmv 4 (zki 0)]),.ret])
def QA4:List (ARv × Md):=[(.t 4,.one .d)]
theorem QAN (c:Qf) (b:List Qc) (h :
 (zif (!(QB c.1)) (K (YR (1:Int))) (zif (!(Q9 c.1 b)) (K (YR (2:Int))) (zif (((Qs c)==(0:Int))||(decide ((Qs c)>(4:Int)))) (K (YR (3:Int))) (zif ((c.2.2.1 != (1:Int))&&(c.2.2.1 != (2:Int))) (K (YR (4:Int))) (zif (((c.2.2.2.1).length:Int) != (Qs c)) (K (YR (5:Int))) (zif (!(Zm c)) (K (YR (6:Int))) (zif (!(Zs c (b.length:Int))) (K (YR (7:Int))) (K (YR (0:Int))))))))))):Hold (tawp QnN (0+0) Qzz (TQ 0 0 QA4 K) (Qe [(.a (Tup.cells Qv c)),(.c (.sl Qj) b)])) :=
 Hold.of (by kernel_rfl) h
theorem QB8 (c:Qf) (b:List Qc):TCon Tryz.prog 125 [(.a (Tup.cells Qv c)),(.c (.sl Qj) b)] (YR (QK c b)):=by
 refine Ql rfl fun hb=>tcg (Γ:=QnN) (n:=51) (sg:=Qid.sg) Qk (TOkL.cons Qd7 (TOkL.cons J0 (TOkL.cons QwP (TOkL.cons QwH (TOkL.cons QFl TOkL.nil))))) (by kernel_rfl) (by kernel_rfl) (QAN _ c b ?_)
 have hl_c_0:(c.1).length≤9223372036854775807:=hb.1.1.1
 have hl_c_1:(c.2.1).length≤9223372036854775807:=hb.1.2.1.1
 have hl_c_3:(c.2.2.2.1).length≤9223372036854775807:=hb.1.2.2.2.1.1
 have hl_c_4:(c.2.2.2.2.1).length≤9223372036854775807:=hb.1.2.2.2.2.1.1
 have hl_c_5:(c.2.2.2.2.2).length≤9223372036854775807:=hb.1.2.2.2.2.2.1.1
 have hl_b:b.length≤9223372036854775807:=hb.2.1.1
 have hs:=QbR (c:=c)
 refine ⟨fun h=>R_eq (by grind [QK]),fun h1=>⟨fun h=>R_eq (by grind [QK]),fun h2=>⟨fun h=>R_eq (by grind [QK]),fun h3=>⟨fun h=>R_eq ?_,fun h4=>⟨fun h=>R_eq ?_,fun h5=>⟨fun h=>R_eq ?_,fun h6=>⟨fun h=>R_eq ?_,fun h7=>R_eq ?_⟩⟩⟩⟩⟩⟩⟩
 all_goals
  have a1:QB c.1=true:=by simpa using h1
  have a2:Q9 c.1 b=true:=by simpa using h2
  have a3:¬ (Qs c=0∨4<Qs c):=by grind
 ·have:m_in c.2.2.1 1 2=false:=by simp at h;simp [m_in];omega
  simp [QK,a1,a2,a3,this]
 ·have:m_in c.2.2.1 1 2=true:=by simp at h4;simp [m_in];omega
  have h:¬ (c.2.2.2.1.length:Int)=Qs c:=by grind
  simp [QK,a1,a2,a3,this,h]
 all_goals
  have a4:m_in c.2.2.1 1 2=true:=by simp at h4;simp [m_in];omega
  have a5:(c.2.2.2.1.length:Int)=Qs c:=by grind
 ·have h:Zm c=false:=by simpa using h
  simp [QK,a1,a2,a3,a4,a5,h]
 ·have h:Zs c b.length=false:=by simpa using h
  have h6:Zm c=true:=by simpa using h6
  simp [QK,a1,a2,a3,a4,a5,h6,h]
 ·have h7:Zs c b.length=true:=by simpa using h7
  have h6:Zm c=true:=by simpa using h6
  simp [QK,a1,a2,a3,a4,a5,h6,h7]
theorem Qy7:Qi Tryz.prog Qid:=Qm fun x _=>QB8 x.1 x.2.1
def Zp (t:Int):TRes:=zre (zci t)
def Qjg:TRow:=Qg 117 [(.a Qv),(.c (.sl Qj))] fun x=>(none,Zp (QK x.1 x.2.1))
def Qbk:TTab:=⟨[Y0,QjY,QcA,ZQ,Qho],false⟩
def Qt4:TCode :=
 (zsq [(zsq [(.reg [zmv 48 5,zfa 49 2 4,zld 50 49 1,zle 51 50,zbi 52 .lss 48 51]),(.cond 52 .skip (.exit 0))]),(.block 1 (zsq [(.reg [zfa 55 2 4,zld 56 55 1,zmv 57 5,zia 58 56 57 [TI],zld 59 58 1,zca 60 158 [59,(zki 1),(zki 5)],zno 61 60]),(.cond 61 (zsq [(.reg [zmv 4 (zki 6)]),.ret]) .skip)])),(.reg [zmv 53 5,zbi 54 .add 53 (zki 1),zmv 5 54])])
def QnP:List (Nat × Md):=[(1,.one .d),(2,.b (zds 6)),(5,.one .d)]
def Qot:TCode :=
 (zsq [(zsq [(.reg [zmv 70 6,zfa 71 2 5,zld 72 71 1,zle 73 72,zbi 74 .lss 70 73]),(.cond 74 .skip (.exit 2))]),(.block 3 (zsq [(.draw [zfa 77 2 5,zld 78 77 1,zmv 79 6,zia 80 78 79 [TI],zld 81 80 1,zLd 82 2 6,zmv 83 6,zmv 84 1,zle 85 84,zca 86 200 [82,83,85],zca 87 158 [81,86,(zki 100000)],zno 88 87] [(0,9),(1,9),(3,9),(4,9)]),(.cond 88 (zsq [(.reg [zmv 4 (zki 7)]),.ret]) .skip)])),(.reg [zmv 75 6,zbi 76 .add 75 (zki 1),zmv 6 76])])
def Qo8:List (Nat × Md):=[(1,.one .d),(2,.b (zds 6)),(6,.one .d)]
def QnH:TCode :=
 (zsq [(.reg [zmv 4 (zki 0)]),.ret])
def QrF:TCode :=
 (zsq [(zsq [(.reg [zfa 62 2 5,zld 63 62 1,zle 64 63,zfa 65 2 1,zld 66 65 1,zle 67 66,zbi 68 .add 67 (zki 1),zbi 69 .neq 64 68]),(.cond 69 (zsq [(.reg [zmv 4 (zki 7)]),.ret]) .skip)]),(zsq [(.reg [zmv 6 (zki 0)]),(.block 2 (.loop Qo8 Qot))]),QnH])
def QIT:TCode :=
 (zsq [(.reg [zop 2 (.box 79 0 6),zmv 4 (zki 0)]),(zsq [(.reg [zfa 7 2 0,zLd 8 7 1,zca 9 157 [8],zno 10 9]),(.cond 10 (zsq [(.reg [zmv 4 (zki 1)]),.ret]) .skip)]),(zsq [(.reg [zfa 11 2 0,zLd 12 11 1,zmv 13 1,zca 14 198 [12,13],zno 15 14]),(.cond 15 (zsq [(.reg [zmv 4 (zki 2)]),.ret]) .skip)]),(zsq [(.reg [zfa 16 2 0,zLd 17 16 1,zfa 18 2 1,zld 19 18 1,zca 20 199 [17,19],zno 21 20,zmv 22 21,.grp 22 false [zfa 23 2 1,zld 24 23 1,zle 25 24,zbi 26 .add 25 (zki 1),zbi 27 .gtr 26 (zki 4)] 28 27]),(.cond 28 (zsq [(.reg [zmv 4 (zki 3)]),.ret]) .skip)]),(zsq [(.reg [zfa 29 2 2,zld 30 29 1,zca 31 158 [30,(zki 1),(zki 2)],zno 32 31]),(.cond 32 (zsq [(.reg [zmv 4 (zki 4)]),.ret]) .skip)]),(zsq [(.reg [zfa 33 2 3,zld 34 33 1,zle 35 34,zfa 36 2 1,zld 37 36 1,zle 38 37,zbi 39 .add 38 (zki 1),zbi 40 .neq 35 39]),(.cond 40 (zsq [(.reg [zmv 4 (zki 5)]),.ret]) .skip)]),(zsq [(.reg [zfa 41 2 4,zld 42 41 1,zle 43 42,zfa 44 2 1,zld 45 44 1,zle 46 45,zbi 47 .neq 43 46]),(.cond 47 (zsq [(.reg [zmv 4 (zki 6)]),.ret]) .skip)]),(zsq [(.reg [zmv 5 (zki 0)]),(.block 0 (.loop QnP Qt4))]),QrF])
def Qrt:List (ARv × Md):=[(.t 4,.one .d)]
def Qd5:Qb:=TQ 0 0 Qrt K
def QGh:Qb:=Qseq (tawp Qbk 0 QnH (Qd5 K)) (Qd5 K)
def Qv6:Qb:=Qblk 2 (QGh K)
def Qb0 (c:Qf) (b:List Qc) (s:Int):Prop:=Loop Qbk 0 Qo8 Qot (Qv6 K) ⟨[(1,(zcs Qj b)),(2,(.p 0 0 0)),(6,(zci s))],[(0,(.box (Tup.cells Qv c)))],1⟩
def QyD:Qb:=Qseq (tawp Qbk 0 QrF (Qd5 K)) (Qd5 K)
def QAv:Qb:=Qblk 0 (QyD K)
def Qfl (c:Qf) (b:List Qc) (i:Int):Prop:=Loop Qbk 0 QnP Qt4 (QAv K) ⟨[(1,(zcs Qj b)),(2,(.p 0 0 0)),(5,(zci i))],[(0,(.box (Tup.cells Qv c)))],1⟩
theorem QuR (c:Qf) (b:List Qc) (s:Int) (h :
 (zif (decide (s<((c.2.2.2.2.2).length:Int))) (((0:Int)≤s∧Int.toNat s<(c.2.2.2.2.2).length)∧(zif (!(m_in (gtd (0:Int) c.2.2.2.2.2 (Int.toNat s)) (Zr c s (b.length:Int)) (100000:Int))) (K (Zp (7:Int))) (Qb0 K c b (w64 (s+(1:Int)))))) (K (Zp (0:Int))))):Qb0 K c b s :=
 Loop.of (by kernel_rfl) h
theorem Qsy (c:Qf) (b:List Qc) (i:Int) (h :
 (zif (decide (i<((c.2.2.2.2.1).length:Int))) (((0:Int)≤i∧Int.toNat i<(c.2.2.2.2.1).length)∧(zif (!(m_in (gtd (0:Int) c.2.2.2.2.1 (Int.toNat i)) (1:Int) (5:Int))) (K (Zp (6:Int))) (Qfl K c b (w64 (i+(1:Int)))))) (zif (((c.2.2.2.2.2).length:Int) != (w64 (((c.2.1).length:Int)+(1:Int)))) (K (Zp (7:Int))) (Qb0 K c b 0)))):Qfl K c b i :=
 Loop.of (by kernel_rfl) h
theorem QCo (c:Qf) (b:List Qc) (h :
 (zif (!(QB c.1)) (K (Zp (1:Int))) (zif (!(Q9 c.1 b)) (K (Zp (2:Int))) (zif ((!(QE c.1 c.2.1))||(decide ((w64 (((c.2.1).length:Int)+(1:Int)))>(4:Int)))) (K (Zp (3:Int))) (zif (!(m_in c.2.2.1 (1:Int) (2:Int))) (K (Zp (4:Int))) (zif (((c.2.2.2.1).length:Int) != (w64 (((c.2.1).length:Int)+(1:Int)))) (K (Zp (5:Int))) (zif (((c.2.2.2.2.1).length:Int) != ((c.2.1).length:Int)) (K (Zp (6:Int))) (Qfl K c b 0)))))))):Hold (tawp Qbk (0+0) QIT (TQ 0 0 Qrt K) (Qe [(.a (Tup.cells Qv c)),(.c (.sl Qj) b)])) :=
 Hold.of (by kernel_rfl) h
theorem QBH (c:Qf) (b:List Qc):TCon Tryz.prog 117 [(.a (Tup.cells Qv c)),(.c (.sl Qj) b)] (Zp (QK c b)):=by
 refine Ql rfl fun hb=>tcg (Γ:=Qbk) (n:=89) (sg:=Qjg.sg) Qk (TOkL.cons Qan (TOkL.cons QwW (TOkL.cons QjT (TOkL.cons Yq (TOkL.cons QxC TOkL.nil))))) (by kernel_rfl) (by kernel_rfl) (QCo _ c b ?_)
 have hl_c_0:(c.1).length≤9223372036854775807:=hb.1.1.1
 have hl_c_1:(c.2.1).length≤9223372036854775807:=hb.1.2.1.1
 have hl_c_3:(c.2.2.2.1).length≤9223372036854775807:=hb.1.2.2.2.1.1
 have hl_c_4:(c.2.2.2.2.1).length≤9223372036854775807:=hb.1.2.2.2.2.1.1
 have hl_c_5:(c.2.2.2.2.2).length≤9223372036854775807:=hb.1.2.2.2.2.2.1.1
 have hl_b:b.length≤9223372036854775807:=hb.2.1.1
 have hs:=QbR (c:=c)
 refine ⟨fun h=>R_eq (by grind [QK]),fun h1=>⟨fun h=>R_eq (by grind [QK]),fun h2=>⟨fun h=>R_eq ?_,fun h3=>?_⟩⟩⟩
 ·have a1:QB c.1=true:=by simpa using h1
  have a2:Q9 c.1 b=true:=by simpa using h2
  have a3:Qs c=0∨4<Qs c:=by
   by_cases hc:QE c.1 c.2.1=true
   ·have:=hs.2.2.2 hc
    have hcl:=QbS hc
    rw [← this,Qx (x:=Qs c) (by omega) (by omega),hc] at h
    right;simpa using h
   ·left
    exact Classical.byContradiction fun hn=>hc (hs.2.2.1.1 hn)
  simp [QK,a1,a2,a3]
 have a1:QB c.1=true:=by simpa using h1
 have a2:Q9 c.1 b=true:=by simpa using h2
 have hc:QE c.1 c.2.1=true:=by grind
 have hst:=hs.2.2.2 hc
 have hcl:=QbS hc
 have e2:w64 ((c.2.1.length:Int)+1)=Qs c:=by rw [hst];exact Qx (by omega) (by omega)
 rw [e2] at h3 ⊢
 have a3:¬ (Qs c=0∨4<Qs c):=by grind
 refine ⟨fun h=>R_eq ?_,fun h4=>⟨fun h=>R_eq ?_,fun h5=>⟨fun h=>R_eq ?_,fun h6=>?_⟩⟩⟩
 ·have h:m_in c.2.2.1 1 2=false:=by simpa using h
  simp [QK,a1,a2,a3,h]
 all_goals
  have a4:m_in c.2.2.1 1 2=true:=by simpa using h4
 ·have h:¬ (c.2.2.2.1.length:Int)=Qs c:=by grind
  simp [QK,a1,a2,a3,a4,h]
 all_goals
  have a5:(c.2.2.2.1.length:Int)=Qs c:=by grind
 ·have h:Zm c=false:=by grind [Zm]
  simp [QK,a1,a2,a3,a4,a5,h]
 have hl6:(c.2.2.2.2.1.length==c.2.1.length)=true:=by
  have h:((c.2.2.2.2.1.length:Int)==(c.2.1.length:Int))=true:=by simpa [bne] using h6
  have:=of_decide_eq_true (by simpa using h:decide ((c.2.2.2.2.1.length:Int)=c.2.1.length)=true)
  simp;omega
 have lims:Zm c=true→(c.2.2.2.2.2.length:Int)=Qs c→Qb0 (fun r'=>r'=Zp (QK c b)) c b ((0:Nat):Int):=by
  intro a6 a7
  refine Zy c.2.2.2.2.2 (fun r k=>YF c b.length r k=YF c b.length c.2.2.2.2.2 0→Qb0 (fun r'=>r'=Zp (QK c b)) c b k) ?_ ?_ rfl
  ·intro he
   refine QuR (fun r'=>r'=Zp (QK c b)) c b _ ⟨fun h=>by simp at h,fun _=>R_eq ?_⟩
   have:Zs c b.length=true:=by grind [Zs,YF]
   simp [QK,a1,a2,a3,a4,a5,a6,this]
  ·intro k x r hk hlt hg ih he
   refine QuR (fun r'=>r'=Zp (QK c b)) c b _ ⟨fun _=>?_,fun h=>by simp at h;omega⟩
   rw [Int.toNat_natCast,hg,Qx (x:=(k:Int)+1) (by omega) (by omega)]
   rw [YF] at he
   refine ⟨⟨by omega,hlt⟩,fun h=>R_eq ?_,fun h=>ih ?_⟩
   ·have:Zs c b.length=false:=by grind [Zs]
    simp [QK,a1,a2,a3,a4,a5,a6,this]
   ·grind
 refine Zy c.2.2.2.2.1 (fun r k=>(r.all fun n=>m_in n 1 5)=(c.2.2.2.2.1.all fun n=>m_in n 1 5)→Qfl (fun r'=>r'=Zp (QK c b)) c b k) ?_ ?_ rfl
 ·intro he
  have a6:Zm c=true:=by grind [Zm]
  refine Qsy (fun r'=>r'=Zp (QK c b)) c b _ ⟨fun h=>by simp at h,fun _=>⟨fun h=>R_eq ?_,fun h=>lims a6 ?_⟩⟩
  ·have:Zs c b.length=false:=by grind [Zs]
   simp [QK,a1,a2,a3,a4,a5,a6,this]
  ·grind
 ·intro k x r hk hlt hg ih he
  refine Qsy (fun r'=>r'=Zp (QK c b)) c b _ ⟨fun _=>?_,fun h=>by simp at h;omega⟩
  rw [Int.toNat_natCast,hg,Qx (x:=(k:Int)+1) (by omega) (by omega)]
  rw [List.all_cons] at he
  refine ⟨⟨by omega,hlt⟩,fun h=>R_eq ?_,fun h=>ih ?_⟩
  ·have h:m_in x 1 5=false:=by simpa using h
   rw [h,Bool.false_and] at he
   have:Zm c=false:=by simp only [Zm,← he,Bool.and_false]
   simp [QK,a1,a2,a3,a4,a5,this]
  ·have h:m_in x 1 5=true:=by simpa using h
   rw [h,Bool.true_and] at he
   exact he
theorem QzY:Qi Tryz.prog Qjg:=Qm fun x _=>QBH x.1 x.2.1
end
end Go.Proofs.YtdplaepmjogjjaaGreat.Am

