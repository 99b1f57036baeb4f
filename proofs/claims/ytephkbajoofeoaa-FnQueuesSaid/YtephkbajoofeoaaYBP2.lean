/- -/
import Derived.Test.YtephkbajoofeoaaYBP1
namespace Go.Proofs.Ytephkbajoofeoaa.Am
open Go Go.RowKit Go.Proofs.Ytephkbajoofeoaa
set_option linter.all false
noncomputable section
variable (K:TRes→Prop)
def Qbv (t:Bool):TRes:=zre (zcb t)
def Qaj:TRow:=Qr 120 [(.a Qd)] fun x=>(none,Qbv (QA x.1))
def Qgv:List TRow:=[Qbg]
def Qj9:TCode :=
 (zsq [(.reg [zop 1 (.box 39 0 2),zmv 2 (zkb false)]),(.reg [zfa 3 1 1,zld 4 3 1,zca 5 185 [4],zmv 6 5,.grp 6 true [zfa 7 1 0,zld 8 7 1,zbi 9 .geq 8 (zki 0)] 10 9,zmv 11 10,.grp 11 true [zfa 12 1 0,zld 13 12 1,zbi 14 .lss 13 (zki 5)] 15 14,zmv 2 15]),.ret])
def QhQ:List (ARv × Md):=[(.t 2,.one .d)]
theorem QhY (x:Qg) (h :
 K (Qbv (((QP x.2)&&(decide (x.1≥(0:Int))))&&(decide (x.1<(5:Int)))))):Hold (tawp Qgv (0+0) Qj9 (TQ 0 0 QhQ K) (Ql [(.a [(.c TI x.1),(.c (.sl [TI]) x.2)])])) :=
 Hold.of (by kernel_rfl) h
theorem Qho (x:Qg):TCon Try.prog 120 [(.a [(.c TI x.1),(.c (.sl [TI]) x.2)])] (Qbv (QA x)):=by
 refine QN rfl fun hb=>tcg (n:=16) (sg:=Qaj.sg) Qv (TOk.cons QhX TOk.nil) (by kernel_rfl) (by kernel_rfl) (QhY _ x ?_)
 have hl_x_1:(x.2).length≤9223372036854775807:=hb.1.2.1.1
 exact R_eq (by grind [QA])
theorem QdT:Qq Try.prog Qaj:=Qy fun x _=>Qho x.1
def JK (t:Bool):TRes:=zre (zcb t)
def JI:TRow:=Qr 29 [(.a Qu)] fun x=>(none,JK (Qn x.1))
def QbE:List TRow:=[Y7,YK]
def QcH:TCode :=
 (zsq [(zsq [(.reg [zmv 4 3,zfa 5 1 1,zld 6 5 1,zle 7 6,zbi 8 .lss 4 7]),(.cond 8 .skip (.exit 0))]),(.block 1 (zsq [(.reg [zfa 11 1 1,zld 12 11 1,zmv 13 3,zia 14 12 13 Qd,zfa 15 14 1,zld 16 15 1,zca 17 31 [16],zno 18 17,zmv 19 18,.grp 19 false [zfa 20 1 1,zld 21 20 1,zmv 22 3,zia 23 21 22 Qd,zfa 24 23 0,zld 25 24 1,zca 26 102 [25,(zki 0),(zki 4)],zno 27 26] 28 27]),(.cond 28 (zsq [(.reg [zmv 2 (zkb false)]),.ret]) .skip)])),(.reg [zmv 9 3,zbi 10 .add 9 (zki 1),zmv 3 10])])
def Qey:List (Nat × Md):=[(1,.b [.d,.d]),(3,.one .d)]
def Qe9:TCode :=
 (zsq [(.reg [zfa 29 1 0,zld 30 29 1,zca 31 102 [30,(zki 1),(zki 5)],zmv 32 31,.grp 32 true [zfa 33 1 1,zld 34 33 1,zle 35 34,zfa 36 1 0,zld 37 36 1,zbi 38 .leq 35 37] 39 38,zmv 2 39]),.ret])
def Qkm:TCode :=
 (zsq [(.reg [zop 1 (.box 36 0 2),zmv 2 (zkb false)]),(zsq [(.reg [zmv 3 (zki 0)]),(.block 0 (.loop Qey QcH))]),Qe9])
def Qc5:List (ARv × Md):=[(.t 2,.one .d)]
def Qfw:Qi:=TQ 0 0 Qc5 K
def Qgu:Qi:=Qseq (tawp QbE 0 Qe9 (Qfw K)) (Qfw K)
def QjL:Qi:=Qblk 0 (Qgu K)
def JM (q:Qb) (i:Int):Prop:=Loop QbE 0 Qey QcH (QjL K) ⟨[(1,(.p 0 0 0)),(3,(zci i))],[(0,(.box [(zci q.1),(zcs Qd q.2)]))],1⟩
theorem Qdo (q:Qb) (i:Int) (h :
 (zif (decide (i<((q.2).length:Int))) ((((0:Int)≤i∧Int.toNat i<(q.2).length)∧((!(!(QP ((gtd ((0,[]):Qg) q.2 (Int.toNat i)).2))))=true→((0:Int)≤i∧Int.toNat i<(q.2).length)))∧(zif ((!(QP ((gtd ((0,[]):Qg) q.2 (Int.toNat i)).2)))||(!(m_in ((gtd ((0,[]):Qg) q.2 (Int.toNat i)).1) (0:Int) (4:Int)))) (K (JK false)) (JM K q (w64 (i+(1:Int)))))) (K (JK ((m_in q.1 (1:Int) (5:Int))&&(decide (((q.2).length:Int)≤q.1))))))):JM K q i :=
 Loop.of (by kernel_rfl) h
theorem QgU (q:Qb) (h :
 (JM K q 0)):Hold (tawp QbE (0+0) Qkm (TQ 0 0 Qc5 K) (Ql [(.a [(.c TI q.1),(.c (.sl Qd) q.2)])])) :=
 Hold.of (by kernel_rfl) h
theorem Qi8 (q:Qb):TCon Try.prog 29 [(.a [(.c TI q.1),(.c (.sl Qd) q.2)])] (JK (Qn q)):=by
 refine QN rfl fun hb=>tcg (n:=40) (sg:=JI.sg) Qv (TOk.cons Qa6 (TOk.cons Qau TOk.nil)) (by kernel_rfl) (by kernel_rfl) (QgU _ q ?_)
 have hl_q_1:(q.2).length≤9223372036854775807:=hb.1.2.1.1
 refine Y5 q.2 (fun r k=>r.all QA=q.2.all QA→JM _ q k) ?_ ?_ rfl
 ·intro he
  refine Qdo _ q _ ⟨fun h=>by simp at h,fun _=>?_⟩
  grind [Qn,m_in]
 ·intro k x r hk hlt hg ih he
  refine Qdo _ q _ ⟨fun _=>?_,fun h=>by simp at h;omega⟩
  rw [Int.toNat_natCast,hg,QE (by omega) (by omega)]
  grind [Qn,QA,m_in]
theorem Qfh:Qq Try.prog JI:=Qy fun x _=>Qi8 x.1
def Ym (t:Bool):TRes:=zre (zcb t)
def YQ:TRow:=Qr 119 [(.a Qu)] fun x=>(none,Ym (Qn x.1))
def Qb3:List TRow:=[Qaj]
def QfR:TCode :=
 (zsq [(.reg [zbi 25 .lss 24 23]),(.cond 25 .skip (.exit 0)),(.block 1 (zsq [(.reg [zia 26 22 24 Qd,zLd 27 26 2,zop 4 (.new 39 (z0s Qd)),zst 4 27 2]),(.reg [zLd 28 4 2,zca 29 120 [28],zno 30 29]),(.cond 30 (zsq [(.reg [zmv 2 (zkb false)]),.ret]) .skip)])),(.reg [zbi 31 .add 24 (zki 1),zmv 24 31])])
def Qc8:List (Nat × Md):=zdl [22,23,24]
def Qfv:TCode :=
 (zsq [(.reg [zmv 2 (zkb true)]),.ret])
def QkY:TCode :=
 (zsq [(.reg [zop 1 (.box 36 0 2),zmv 2 (zkb false)]),(zsq [(.reg [zfa 5 1 0,zld 6 5 1,zbi 7 .lss 6 (zki 1),zmv 8 7,.grp 8 false [zfa 9 1 0,zld 10 9 1,zbi 11 .gtr 10 (zki 5)] 12 11,zmv 13 12,.grp 13 false [zfa 14 1 1,zld 15 14 1,zle 16 15,zfa 17 1 0,zld 18 17 1,zbi 19 .gtr 16 18] 20 19]),(.cond 20 (zsq [(.reg [zmv 2 (zkb false)]),.ret]) .skip)]),(zsq [(.reg [zfa 21 1 1,zld 22 21 1,zle 23 22,zmv 24 (zki 0)]),(.block 0 (.loop Qc8 QfR))]),Qfv])
def QeP:List (ARv × Md):=[(.t 2,.one .d)]
def Qd9:Qi:=TQ 0 0 QeP K
def Qhl:Qi:=Qseq (tawp Qb3 0 Qfv (Qd9 K)) (Qd9 K)
def Qhi:Qi:=Qblk 0 (Qhl K)
def Qbj (q:Qb) (x:Int):Prop:=Loop Qb3 0 Qc8 QfR (Qhi K) ⟨[(22,(zcs Qd q.2)),(23,(zci ((q.2).length:Int))),(24,(zci x))],[],0⟩
theorem Qg3 (q:Qb) (x:Int) (h :
 (zif (decide (x<((q.2).length:Int))) (((0:Int)≤x∧Int.toNat x<(q.2).length)∧(zif (!(QA (gtd ((0,[]):Qg) q.2 (Int.toNat x)))) (K (Ym false)) (Qbj K q (w64 (x+(1:Int)))))) (K (Ym true)))):Qbj K q x :=
 Loop.of (by kernel_rfl) h
theorem QhM (q:Qb) (h :
 (zif (((decide (q.1<(1:Int)))||(decide (q.1>(5:Int))))||(decide (((q.2).length:Int)>q.1))) (K (Ym false)) (Qbj K q 0))):Hold (tawp Qb3 (0+0) QkY (TQ 0 0 QeP K) (Ql [(.a [(.c TI q.1),(.c (.sl Qd) q.2)])])) :=
 Hold.of (by kernel_rfl) h
theorem QjI (q:Qb):TCon Try.prog 119 [(.a [(.c TI q.1),(.c (.sl Qd) q.2)])] (Ym (Qn q)):=by
 refine QN rfl fun hb=>tcg (n:=32) (sg:=YQ.sg) Qv (TOk.cons QdT TOk.nil) (by kernel_rfl) (by kernel_rfl) (QhM _ q ?_)
 have hl_q_1:(q.2).length≤9223372036854775807:=hb.1.2.1.1
 refine ⟨fun h=>R_eq ?_,fun h=>Qbs (Q:=fun x=>Ym x=Ym (Qn q)) (p:=QA) (c:=fun x=>!(QA x)) (0,[]) hl_q_1 (fun _=>rfl) (fun i h=>Qg3 _ q i h) (R_eq ?_)⟩
 ·grind [Qn]
 ·grind [Qn]
theorem Qa2:Qq Try.prog YQ:=Qy fun x _=>QjI x.1
def Y6 (t:Int):TRes:=zre (zci t)
def QbH:TRow:=Qr 32 [(.a Qu)] fun x=>(none,Y6 (Zm x.1))
def QbK:List TRow:=[YQ]
def Qdz:TCode :=
 (zsq [(.reg [zbi 13 .lss 12 11]),(.cond 13 .skip (.exit 0)),(.block 1 (zsq [(.reg [zia 14 10 12 Qd,zLd 15 14 2,zop 5 (.new 39 (z0s Qd)),zst 5 15 2]),(.reg [zmv 16 3,zfa 17 5 1,zld 18 17 1,zle 19 18,zbi 20 .add 16 19,zmv 3 20])])),(.reg [zbi 21 .add 12 (zki 1),zmv 12 21])])
def Qeo:List (Nat × Md):=zdl [3,10,11,12]
def Qdc:TCode :=
 (zsq [(.reg [zmv 22 3,zmv 2 22]),.ret])
def QhU:TCode :=
 (zsq [(.reg [zop 1 (.box 36 0 2),zmv 2 (zki 0)]),(zsq [(.reg [zLd 6 1 2,zca 7 119 [6],zno 8 7]),(.cond 8 (zsq [(.reg [zmv 2 (zki 0)]),.ret]) .skip)]),(.reg [zmv 3 (zki 0)]),(zsq [(.reg [zfa 9 1 1,zld 10 9 1,zle 11 10,zmv 12 (zki 0)]),(.block 0 (.loop Qeo Qdz))]),Qdc])
def QdE:List (ARv × Md):=[(.t 2,.one .d)]
def Qe1:Qi:=TQ 0 0 QdE K
def Qjb:Qi:=Qseq (tawp QbK 0 Qdc (Qe1 K)) (Qe1 K)
def QiT:Qi:=Qblk 0 (Qjb K)
def Js (q:Qb) (n:Int) (x:Int):Prop:=Loop QbK 0 Qeo Qdz (QiT K) ⟨[(3,(zci n)),(10,(zcs Qd q.2)),(11,(zci ((q.2).length:Int))),(12,(zci x))],[],0⟩
theorem Qdj (q:Qb) (n:Int) (x:Int) (h :
 (zif (decide (x<((q.2).length:Int))) (((0:Int)≤x∧Int.toNat x<(q.2).length)∧(Js K q (w64 (n+(((gtd ((0,[]):Qg) q.2 (Int.toNat x)).2).length:Int))) (w64 (x+(1:Int))))) (K (Y6 n)))):Js K q n x :=
 Loop.of (by kernel_rfl) h
theorem QjG (q:Qb) (h :
 (zif (!(Qn q)) (K (Y6 (0:Int))) (Js K q 0 0))):Hold (tawp QbK (0+0) QhU (TQ 0 0 QdE K) (Ql [(.a [(.c TI q.1),(.c (.sl Qd) q.2)])])) :=
 Hold.of (by kernel_rfl) h
theorem QgP (q:Qb):TCon Try.prog 32 [(.a [(.c TI q.1),(.c (.sl Qd) q.2)])] (Y6 (Zm q)):=by
 refine QN rfl fun hb=>tcg (n:=23) (sg:=QbH.sg) Qv (TOk.cons Qa2 TOk.nil) (by kernel_rfl) (by kernel_rfl) (QjG _ q ?_)
 have hl_q_1:(q.2).length≤9223372036854775807:=hb.1.2.1.1
 refine ⟨fun h=>R_eq (by simp at h;simp [Zm,h]),fun h=>?_⟩
 have hq:Qn q=true:=by simpa using h
 refine Y5 q.2 (fun r k=>∀ y:Int,w64 (y+(r.map fun x=>(x.2.length:Int)).sum)=(Zm q)→Js (fun r'=>r'=Y6 (Zm q)) q (w64 y) k) ?_ ?_ 0 (by simp [Zm,hq])
 ·intro y he
  refine Qdj _ q _ _ ⟨fun h=>by simp at h,fun _=>?_⟩
  grind
 ·intro k x r hk hlt hg ih y he
  refine Qdj _ q _ _ ⟨fun _=>?_,fun h=>by simp at h;omega⟩
  rw [Int.toNat_natCast,hg,QE (x:=(k:Int)+1) (by omega) (by omega),Qjl]
  refine ⟨⟨by omega,hlt⟩,ih _ ?_⟩
  rw [← he,List.map_cons,List.sum_cons,Int.add_assoc]
theorem Qig:Qq Try.prog QbH:=Qy fun x _=>QgP x.1
end
end Go.Proofs.Ytephkbajoofeoaa.Am

