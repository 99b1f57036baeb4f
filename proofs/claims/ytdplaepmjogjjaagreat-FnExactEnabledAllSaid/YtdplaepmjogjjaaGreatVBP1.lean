/- -/
import Derived.Test.YtdplaepmjogjjaaGreatVBG8
namespace Go.Proofs.YtdplaepmjogjjaaGreat.Am
open Go Go.RowKit Go.Proofs.YtdplaepmjogjjaaGreat
set_option linter.all false
noncomputable section
variable (K:TRes→Prop)
def Qhd (t:Bool):TRes:=zre (zcb t)
def ZP:TRow:=Qi 158 [(.c TI),(.c TI),(.c TI)] fun x=>(none,Qhd (m_in x.1 x.2.1 x.2.2.1))
def QnE:TTab:=⟨[],false⟩
def Qu3:TCode :=
 (zsq [(.reg [zmv 6 (zkb false)]),(.reg [zmv 7 0,zmv 8 1,zbi 9 .geq 7 8,zmv 10 9,.grp 10 true [zmv 11 0,zmv 12 2,zbi 13 .leq 11 12] 14 13,zmv 6 14]),.ret])
def Qsg:List (ARv × Md):=[(.t 6,.one .d)]
theorem QwQ (x:Int) (low:Int) (high:Int) (h :
 K (Qhd ((decide (x≥low))&&(decide (x≤high))))):Hold (tawp QnE (0+0) Qu3 (TQ 0 0 Qsg K) (Qg [(.c TI x),(.c TI low),(.c TI high)])) :=
 Hold.of (by kernel_rfl) h
theorem Qv7 (x:Int) (low:Int) (high:Int):TCon Tryz.prog 158 [(.c TI x),(.c TI low),(.c TI high)] (Qhd (m_in x low high)):=by
 refine Qk rfl fun hb=>tcg (Γ:=QnE) (n:=15) (sg:=ZP.sg) Ql TOkL.nil (by kernel_rfl) (by kernel_rfl) (QwQ _ x low high ?_)
 exact R_eq rfl
theorem Yr:Qj Tryz.prog ZP:=Qn fun x _=>Qv7 x.1 x.2.1 x.2.2.1
def QgR (t:Bool):TRes:=zre (zcb t)
def Qeo:TRow:=Qi 183 [(.c TI)] fun x=>(none,QgR (Zq x.1))
def Qj4:TTab:=⟨[ZP],false⟩
def QET:TCode :=
 (zsq [(.reg [zmv 2 (zkb false)]),(.reg [zmv 3 0,zca 4 158 [3,(zki (-2147483647)),(zki 2147483647)],zmv 2 4]),.ret])
def Qvb:List (ARv × Md):=[(.t 2,.one .d)]
theorem QAa (x:Int) (h :
 K (QgR (m_in x (-2147483647:Int) (2147483647:Int)))):Hold (tawp Qj4 (0+0) QET (TQ 0 0 Qvb K) (Qg [(.c TI x)])) :=
 Hold.of (by kernel_rfl) h
theorem QC5 (x:Int):TCon Tryz.prog 183 [(.c TI x)] (QgR (Zq x)):=by
 refine Qk rfl fun hb=>tcg (Γ:=Qj4) (n:=5) (sg:=Qeo.sg) Ql (TOkL.cons Yr TOkL.nil) (by kernel_rfl) (by kernel_rfl) (QAa _ x ?_)
 exact R_eq rfl
theorem QlY:Qj Tryz.prog Qeo:=Qn fun x _=>QC5 x.1
def Qf0 (t:Bool):TRes:=zre (zcb t)
def Qge:TRow:=Qi 240 [(.c TI)] fun x=>(none,Qf0 (Zq x.1))
def QoI:TTab:=⟨[],false⟩
def QAq:TCode :=
 (zsq [(.reg [zmv 2 (zkb false)]),(.reg [zmv 3 0,zbi 4 .geq 3 (zki (-2147483647)),zmv 5 4,.grp 5 true [zmv 6 0,zbi 7 .leq 6 (zki 2147483647)] 8 7,zmv 2 8]),.ret])
def QEc:List (ARv × Md):=[(.t 2,.one .d)]
theorem QFy (x:Int) (h :
 K (Qf0 ((decide (x≥(-2147483647:Int)))&&(decide (x≤(2147483647:Int)))))):Hold (tawp QoI (0+0) QAq (TQ 0 0 QEc K) (Qg [(.c TI x)])) :=
 Hold.of (by kernel_rfl) h
theorem QxI (x:Int):TCon Tryz.prog 240 [(.c TI x)] (Qf0 (Zq x)):=by
 refine Qk rfl fun hb=>tcg (Γ:=QoI) (n:=9) (sg:=Qge.sg) Ql TOkL.nil (by kernel_rfl) (by kernel_rfl) (QFy _ x ?_)
 exact R_eq rfl
theorem QBy:Qj Tryz.prog Qge:=Qn fun x _=>QxI x.1
def Qbe (t:Bool):TRes:=zre (zcb t)
def QdR:TRow:=Qi 238 [(.c (.sl [TI]))] fun x=>(none,Qbe (Z6 x.1))
def Qen:TTab:=⟨[Qge],false⟩
def Ql8:TCode :=
 (zsq [(.reg [zbi 8 .lss 7 6]),(.cond 8 .skip (.exit 0)),(.block 1 (zsq [(.reg [zia 9 5 7 [TI],zld 10 9 1,zmv 4 10]),(.reg [zmv 11 4,zca 12 240 [11],zno 13 12]),(.cond 13 (zsq [(.reg [zmv 2 (zkb false)]),.ret]) .skip)])),(.reg [zbi 14 .add 7 (zki 1),zmv 7 14])])
def QlA:List (Nat × Md):=zdl [5,6,7]
def QlG:TCode :=
 (zsq [(.reg [zmv 2 (zkb true)]),.ret])
def QEy:TCode :=
 (zsq [(.reg [zmv 2 (zkb false)]),(zsq [(.reg [zmv 5 0,zle 6 5,zmv 7 (zki 0)]),(.block 0 (.loop QlA Ql8))]),QlG])
def Qnz:List (ARv × Md):=[(.t 2,.one .d)]
def QrY:Qb:=TQ 0 0 Qnz K
def QB6:Qb:=Qseq (tawp Qen 0 QlG (QrY K)) (QrY K)
def QBv:Qb:=Qblk 0 (QB6 K)
def Qio (v:List Int) (x:Int):Prop:=Loop Qen 0 QlA Ql8 (QBv K) ⟨[(5,(zcs [TI] v)),(6,(zci (v.length:Int))),(7,(zci x))],[],0⟩
theorem Qw4 (v:List Int) (x:Int) (h :
 (zif (decide (x<(v.length:Int))) (((0:Int)≤x∧Int.toNat x<v.length)∧(zif (!(Zq (gtd (0:Int) v (Int.toNat x)))) (K (Qbe false)) (Qio K v (w64 (x+(1:Int)))))) (K (Qbe true)))):Qio K v x :=
 Loop.of (by kernel_rfl) h
theorem Qxn (v:List Int) (h :
 (Qio K v 0)):Hold (tawp Qen (0+0) QEy (TQ 0 0 Qnz K) (Qg [(.c (.sl [TI]) v)])) :=
 Hold.of (by kernel_rfl) h
theorem QxZ (v:List Int):TCon Tryz.prog 238 [(.c (.sl [TI]) v)] (Qbe (Z6 v)):=by
 refine Qk rfl fun hb=>tcg (Γ:=Qen) (n:=15) (sg:=QdR.sg) Ql (TOkL.cons QBy TOkL.nil) (by kernel_rfl) (by kernel_rfl) (Qxn _ v ?_)
 have hl_v:v.length≤9223372036854775807:=hb.1.1
 exact Qac (Q:=fun x=>Qbe x=Qbe (Z6 v)) (p:=Zq) (c:=fun x=>!(Zq x)) 0 hl_v (fun _=>rfl) (fun i h=>Qw4 _ v i h) (R_eq (by simp [Z6]))
theorem Qja:Qj Tryz.prog QdR:=Qn fun x _=>QxZ x.1
def Qbc (t:Bool):TRes:=zre (zcb t)
def Qbd:TRow:=Qi 97 [(.c (.sl [TI]))] fun x=>(none,Qbc (QS x.1))
def QcQ:TTab:=⟨[Qeo,ZP],false⟩
def Qmn:TCode :=
 (zsq [(zsq [(.reg [zmv 4 3,zmv 5 0,zle 6 5,zbi 7 .lss 4 6]),(.cond 7 .skip (.exit 0))]),(.block 1 (zsq [(.reg [zmv 10 0,zmv 11 3,zia 12 10 11 [TI],zld 13 12 1,zca 14 183 [13],zno 15 14]),(.cond 15 (zsq [(.reg [zmv 2 (zkb false)]),.ret]) .skip)])),(.reg [zmv 8 3,zbi 9 .add 8 (zki 1),zmv 3 9])])
def QoZ:List (Nat × Md):=zdl [0,3]
def Qp9:TCode :=
 (zsq [(.reg [zmv 16 0,zle 17 16,zca 18 158 [17,(zki 1),(zki 6)],zmv 2 18]),.ret])
def QyA:TCode :=
 (zsq [(.reg [zmv 2 (zkb false)]),(zsq [(.reg [zmv 3 (zki 0)]),(.block 0 (.loop QoZ Qmn))]),Qp9])
def Qkr:List (ARv × Md):=[(.t 2,.one .d)]
def QlT:Qb:=TQ 0 0 Qkr K
def Qvx:Qb:=Qseq (tawp QcQ 0 Qp9 (QlT K)) (QlT K)
def QFv:Qb:=Qblk 0 (Qvx K)
def Qfi (v:List Int) (i:Int):Prop:=Loop QcQ 0 QoZ Qmn (QFv K) ⟨[(0,(zcs [TI] v)),(3,(zci i))],[],0⟩
theorem Qtz (v:List Int) (i:Int) (h :
 (zif (decide (i<(v.length:Int))) (((0:Int)≤i∧Int.toNat i<v.length)∧(zif (!(Zq (gtd (0:Int) v (Int.toNat i)))) (K (Qbc false)) (Qfi K v (w64 (i+(1:Int)))))) (K (Qbc (m_in (v.length:Int) (1:Int) (6:Int)))))):Qfi K v i :=
 Loop.of (by kernel_rfl) h
theorem QDi (v:List Int) (h :
 (Qfi K v 0)):Hold (tawp QcQ (0+0) QyA (TQ 0 0 Qkr K) (Qg [(.c (.sl [TI]) v)])) :=
 Hold.of (by kernel_rfl) h
theorem QAT (v:List Int):TCon Tryz.prog 97 [(.c (.sl [TI]) v)] (Qbc (QS v)):=by
 refine Qk rfl fun hb=>tcg (Γ:=QcQ) (n:=19) (sg:=Qbd.sg) Ql (TOkL.cons QlY (TOkL.cons Yr TOkL.nil)) (by kernel_rfl) (by kernel_rfl) (QDi _ v ?_)
 have hl_v:v.length≤9223372036854775807:=hb.1.1
 exact Qac (Q:=fun x=>Qbc x=Qbc (QS v)) (p:=Zq) (c:=fun x=>!(Zq x)) 0 hl_v (fun _=>rfl) (fun i h=>Qtz _ v i h) (R_eq (by grind [QS,Z6]))
theorem Qey:Qj Tryz.prog Qbd:=Qn fun x _=>QAT x.1
def Qgr (t:Bool):TRes:=zre (zcb t)
def Qco:TRow:=Qi 187 [(.c (.sl [TI]))] fun x=>(none,Qgr (QS x.1))
def Qnc:TTab:=⟨[QdR],false⟩
def Qsb:TCode :=
 (zsq [(.reg [zmv 2 (zkb false)]),(.reg [zmv 3 0,zle 4 3,zbi 5 .geq 4 (zki 1),zmv 6 5,.grp 6 true [zmv 7 0,zle 8 7,zbi 9 .leq 8 (zki 6)] 10 9,zmv 11 10,.grp 11 true [zmv 12 0,zca 13 238 [12]] 14 13,zmv 2 14]),.ret])
def QAj:List (ARv × Md):=[(.t 2,.one .d)]
theorem QFr (v:List Int) (h :
 K (Qgr (((decide ((v.length:Int)≥(1:Int)))&&(decide ((v.length:Int)≤(6:Int))))&&(Z6 v)))):Hold (tawp Qnc (0+0) Qsb (TQ 0 0 QAj K) (Qg [(.c (.sl [TI]) v)])) :=
 Hold.of (by kernel_rfl) h
theorem QDT (v:List Int):TCon Tryz.prog 187 [(.c (.sl [TI]) v)] (Qgr (QS v)):=by
 refine Qk rfl fun hb=>tcg (Γ:=Qnc) (n:=15) (sg:=Qco.sg) Ql (TOkL.cons Qja TOkL.nil) (by kernel_rfl) (by kernel_rfl) (QFr _ v ?_)
 have hl_v:v.length≤9223372036854775807:=hb.1.1
 exact R_eq (by grind [QS,m_in])
theorem Qhz:Qj Tryz.prog Qco:=Qn fun x _=>QDT x.1
def Qg7 (t:Bool):TRes:=zre (zcb t)
def QeT:TRow:=Qi 100 [(.c (.sl [TI])),(.c TI)] fun x=>(none,Qg7 (Q2 x.1 x.2.1))
def QjL:TTab:=⟨[Qco],false⟩
def Qvz:TCode :=
 (zsq [(.reg [zmv 4 (zkb false)]),(.reg [zmv 5 0,zca 6 187 [5],zmv 7 6,.grp 7 true [zmv 8 0,zle 9 8,zmv 10 1,zbi 11 .eql 9 10] 12 11,zmv 4 12]),.ret])
def QvZ:List (ARv × Md):=[(.t 4,.one .d)]
theorem QCU (v:List Int) (n:Int) (h :
 K (Qg7 ((QS v)&&((v.length:Int)==n)))):Hold (tawp QjL (0+0) Qvz (TQ 0 0 QvZ K) (Qg [(.c (.sl [TI]) v),(.c TI n)])) :=
 Hold.of (by kernel_rfl) h
theorem QsR (v:List Int) (n:Int):TCon Tryz.prog 100 [(.c (.sl [TI]) v),(.c TI n)] (Qg7 (Q2 v n)):=by
 refine Qk rfl fun hb=>tcg (Γ:=QjL) (n:=13) (sg:=QeT.sg) Ql (TOkL.cons Qhz TOkL.nil) (by kernel_rfl) (by kernel_rfl) (QCU _ v n ?_)
 have hl_v:v.length≤9223372036854775807:=hb.1.1
 exact R_eq (by simp [Q2])
theorem Qkh:Qj Tryz.prog QeT:=Qn fun x _=>QsR x.1 x.2.1
def Qgt (t:Bool):TRes:=zre (zcb t)
def Qie:TRow:=Qi 169 [(.c (.sl [TI])),(.c TI)] fun x=>(none,Qgt (Zi x.1 x.2.1))
def Qrt:TTab:=⟨[QeT],false⟩
def Qy5:TCode :=
 (zsq [(.reg [zmv 4 (zkb false)]),(.reg [zmv 5 0,zle 6 5,zbi 7 .eql 6 (zki 0),zmv 8 7,.grp 8 false [zmv 9 0,zmv 10 1,zca 11 100 [9,10]] 12 11,zmv 4 12]),.ret])
def QxS:List (ARv × Md):=[(.t 4,.one .d)]
theorem QE8 (v:List Int) (n:Int) (h :
 K (Qgt (((v.length:Int)==(0:Int))||(Q2 v n)))):Hold (tawp Qrt (0+0) Qy5 (TQ 0 0 QxS K) (Qg [(.c (.sl [TI]) v),(.c TI n)])) :=
 Hold.of (by kernel_rfl) h
theorem QDd (v:List Int) (n:Int):TCon Tryz.prog 169 [(.c (.sl [TI]) v),(.c TI n)] (Qgt (Zi v n)):=by
 refine Qk rfl fun hb=>tcg (Γ:=Qrt) (n:=13) (sg:=Qie.sg) Ql (TOkL.cons Qkh TOkL.nil) (by kernel_rfl) (by kernel_rfl) (QE8 _ v n ?_)
 have hl_v:v.length≤9223372036854775807:=hb.1.1
 exact R_eq (by simp [Zi,Q2])
theorem Qyh:Qj Tryz.prog Qie:=Qn fun x _=>QDd x.1 x.2.1
def QhW (t:Bool):TRes:=zre (zcb t)
def Qfe:TRow:=Qi 159 [(.c (.sl [TI])),(.c TI)] fun x=>(none,QhW (Zi x.1 x.2.1))
def QmF:TTab:=⟨[Qbd],false⟩
def QxN:TCode :=
 (zsq [(.reg [zmv 4 (zkb false)]),(.reg [zmv 5 0,zle 6 5,zbi 7 .eql 6 (zki 0),zmv 8 7,.grp 8 false [zmv 9 0,zca 10 97 [9],zmv 11 10,.grp 11 true [zmv 12 0,zle 13 12,zmv 14 1,zbi 15 .eql 13 14] 16 15] 17 16,zmv 4 17]),.ret])
def Qz0:List (ARv × Md):=[(.t 4,.one .d)]
theorem Qw5 (v:List Int) (n:Int) (h :
 K (QhW (((v.length:Int)==(0:Int))||((QS v)&&((v.length:Int)==n))))):Hold (tawp QmF (0+0) QxN (TQ 0 0 Qz0 K) (Qg [(.c (.sl [TI]) v),(.c TI n)])) :=
 Hold.of (by kernel_rfl) h
theorem QBs (v:List Int) (n:Int):TCon Tryz.prog 159 [(.c (.sl [TI]) v),(.c TI n)] (QhW (Zi v n)):=by
 refine Qk rfl fun hb=>tcg (Γ:=QmF) (n:=18) (sg:=Qfe.sg) Ql (TOkL.cons Qey TOkL.nil) (by kernel_rfl) (by kernel_rfl) (Qw5 _ v n ?_)
 have hl_v:v.length≤9223372036854775807:=hb.1.1
 exact R_eq (by simp [Zi,Q2])
theorem QsU:Qj Tryz.prog Qfe:=Qn fun x _=>QBs x.1 x.2.1
end
end Go.Proofs.YtdplaepmjogjjaaGreat.Am

