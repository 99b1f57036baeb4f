/- -/
import Derived.Test.YtjbdljkhbglnhaaGreatZAP1
namespace Go.Proofs.YtjbdljkhbglnhaaGreat.Am
open Go Go.RowKit Go.Proofs.YtjbdljkhbglnhaaGreat
set_option linter.all false
noncomputable section
variable (K:TRes→Prop)
def Qkc (t:Bool):TRes:=zre (zcb t)
def QfP:TRow:=Qh 178 [(.a QY)] fun x=>(none,Qkc (YC x.1))
def QLS:List TRow:=[Qbq]
def QKK:TCode :=
 (zsq [(.reg [zop 1 (.box 114 0 2),zmv 2 (zkb false)]),(.reg [zfa 3 1 1,zld 4 3 1,zca 5 134 [4],zmv 6 5,.grp 6 true [zfa 7 1 0,zld 8 7 1,zbi 9 .geq 8 (zki 0)] 10 9,zmv 11 10,.grp 11 true [zfa 12 1 0,zld 13 12 1,zbi 14 .lss 13 (zki 5)] 15 14,zmv 2 15]),.ret])
def QJV:List (ARv × Md):=[(.t 2,.one .d)]
theorem QF6 (x:ZJ) (h :
K (Qkc (((Q1 x.2)&&(decide (x.1≥(0:Int))))&&(decide (x.1<(5:Int)))))):Hold (tawp QLS (0+0) QKK (TQ 0 0 QJV K) (Qf [(.a [(.c TI x.1),(.c (.sl [TI]) x.2)])])) :=
 Hold.of (by kernel_rfl) h
theorem QGO (x:ZJ):TCon Tryz.prog 178 [(.a [(.c TI x.1),(.c (.sl [TI]) x.2)])] (Qkc (YC x)):=by
 refine Qq rfl fun hb=>tcg (n:=16) (sg:=QfP.sg) Ql (TOk.cons Qb7 TOk.nil) (by kernel_rfl) (by kernel_rfl) (QF6 _ x ?_)
 have hl_x_1:(x.2).length≤9223372036854775807:=hb.1.2.1.1
 exact R_eq (by grind [YC])
theorem QqX:Qi Tryz.prog QfP:=Qm fun x _=>QGO x.1
def QfR (t:Bool):TRes:=zre (zcb t)
def QmB:TRow:=Qh 103 [(.a Qv)] fun x=>(none,QfR (Zj x.1))
def Qmq:List TRow:=[QiW,JB]
def QuZ:TCode :=
 (zsq [(zsq [(.reg [zmv 4 3,zfa 5 1 1,zld 6 5 1,zle 7 6,zbi 8 .lss 4 7]),(.cond 8 .skip (.exit 0))]),(.block 1 (zsq [(.reg [zfa 11 1 1,zld 12 11 1,zmv 13 3,zia 14 12 13 QY,zfa 15 14 1,zld 16 15 1,zca 17 42 [16],zno 18 17,zmv 19 18,.grp 19 false [zfa 20 1 1,zld 21 20 1,zmv 22 3,zia 23 21 22 QY,zfa 24 23 0,zld 25 24 1,zca 26 77 [25,(zki 0),(zki 4)],zno 27 26] 28 27]),(.cond 28 (zsq [(.reg [zmv 2 (zkb false)]),.ret]) .skip)])),(.reg [zmv 9 3,zbi 10 .add 9 (zki 1),zmv 3 10])])
def Qpn:List (Nat × Md):=[(1,.b [.d,.d]),(3,.one .d)]
def QvK:TCode :=
 (zsq [(.reg [zfa 29 1 0,zld 30 29 1,zca 31 77 [30,(zki 1),(zki 5)],zmv 32 31,.grp 32 true [zfa 33 1 1,zld 34 33 1,zle 35 34,zfa 36 1 0,zld 37 36 1,zbi 38 .leq 35 37] 39 38,zmv 2 39]),.ret])
def QAG:TCode :=
 (zsq [(.reg [zop 1 (.box 97 0 2),zmv 2 (zkb false)]),(zsq [(.reg [zmv 3 (zki 0)]),(.block 0 (.loop Qpn QuZ))]),QvK])
def QAd:List (ARv × Md):=[(.t 2,.one .d)]
def QvN:Qb:=TQ 0 0 QAd K
def QQX:Qb:=Qseq (tawp Qmq 0 QvK (QvN K)) (QvN K)
def QQk:Qb:=Qblk 0 (QQX K)
def QgC (q:Qe) (i:Int):Prop:=Loop Qmq 0 Qpn QuZ (QQk K) ⟨[(1,(.p 0 0 0)),(3,(zci i))],[(0,(.box [(zci q.1),(zcs QY q.2)]))],1⟩
theorem QrX (q:Qe) (i:Int) (h :
(zif (decide (i<((q.2).length:Int))) ((((0:Int)≤i∧Int.toNat i<(q.2).length)∧((!(!(Q1 ((gtd ((0,[]):ZJ) q.2 (Int.toNat i)).2))))=true→((0:Int)≤i∧Int.toNat i<(q.2).length)))∧(zif ((!(Q1 ((gtd ((0,[]):ZJ) q.2 (Int.toNat i)).2)))||(!(m_in ((gtd ((0,[]):ZJ) q.2 (Int.toNat i)).1) (0:Int) (4:Int)))) (K (QfR false)) (QgC K q (w64 (i+(1:Int)))))) (K (QfR ((m_in q.1 (1:Int) (5:Int))&&(decide (((q.2).length:Int)≤q.1))))))):QgC K q i :=
 Loop.of (by kernel_rfl) h
theorem QDM (q:Qe) (h :
(QgC K q 0)):Hold (tawp Qmq (0+0) QAG (TQ 0 0 QAd K) (Qf [(.a [(.c TI q.1),(.c (.sl QY) q.2)])])) :=
 Hold.of (by kernel_rfl) h
theorem QJm (q:Qe):TCon Tryz.prog 103 [(.a [(.c TI q.1),(.c (.sl QY) q.2)])] (QfR (Zj q)):=by
 refine Qq rfl fun hb=>tcg (n:=40) (sg:=QmB.sg) Ql (TOk.cons Qtz (TOk.cons J8 TOk.nil)) (by kernel_rfl) (by kernel_rfl) (QDM _ q ?_)
 have hl_q_1:(q.2).length≤9223372036854775807:=hb.1.2.1.1
 refine Zi q.2 (fun r k=>r.all YC=q.2.all YC→QgC _ q k) ?_ ?_ rfl
 ·intro he
  refine QrX _ q _ ⟨fun h=>by simp at h,fun _=>?_⟩
  grind [Zj,m_in]
 ·intro k x r hk hlt hg ih he
  refine QrX _ q _ ⟨fun _=>?_,fun h=>by simp at h;omega⟩
  rw [Int.toNat_natCast,hg,Qp (by omega) (by omega)]
  grind [Zj,YC,m_in]
theorem QMt:Qi Tryz.prog QmB:=Qm fun x _=>QJm x.1
def Qcw (t:Bool):TRes:=zre (zcb t)
def Qda:TRow:=Qh 135 [(.a Qv)] fun x=>(none,Qcw (Zj x.1))
def QkQ:List TRow:=[QfP]
def Qy0:TCode :=
 (zsq [(.reg [zbi 25 .lss 24 23]),(.cond 25 .skip (.exit 0)),(.block 1 (zsq [(.reg [zia 26 22 24 QY,zLd 27 26 2,zop 4 (.new 114 (z0s QY)),zst 4 27 2]),(.reg [zLd 28 4 2,zca 29 178 [28],zno 30 29]),(.cond 30 (zsq [(.reg [zmv 2 (zkb false)]),.ret]) .skip)])),(.reg [zbi 31 .add 24 (zki 1),zmv 24 31])])
def Qx4:List (Nat × Md):=zdl [22,23,24]
def QsR:TCode :=
 (zsq [(.reg [zmv 2 (zkb true)]),.ret])
def QEW:TCode :=
 (zsq [(.reg [zop 1 (.box 97 0 2),zmv 2 (zkb false)]),(zsq [(.reg [zfa 5 1 0,zld 6 5 1,zbi 7 .lss 6 (zki 1),zmv 8 7,.grp 8 false [zfa 9 1 0,zld 10 9 1,zbi 11 .gtr 10 (zki 5)] 12 11,zmv 13 12,.grp 13 false [zfa 14 1 1,zld 15 14 1,zle 16 15,zfa 17 1 0,zld 18 17 1,zbi 19 .gtr 16 18] 20 19]),(.cond 20 (zsq [(.reg [zmv 2 (zkb false)]),.ret]) .skip)]),(zsq [(.reg [zfa 21 1 1,zld 22 21 1,zle 23 22,zmv 24 (zki 0)]),(.block 0 (.loop Qx4 Qy0))]),QsR])
def Qzs:List (ARv × Md):=[(.t 2,.one .d)]
def Qwn:Qb:=TQ 0 0 Qzs K
def QJp:Qb:=Qseq (tawp QkQ 0 QsR (Qwn K)) (Qwn K)
def QAy:Qb:=Qblk 0 (QJp K)
def Qmg (q:Qe) (x:Int):Prop:=Loop QkQ 0 Qx4 Qy0 (QAy K) ⟨[(22,(zcs QY q.2)),(23,(zci ((q.2).length:Int))),(24,(zci x))],[],0⟩
theorem QLn (q:Qe) (x:Int) (h :
(zif (decide (x<((q.2).length:Int))) (((0:Int)≤x∧Int.toNat x<(q.2).length)∧(zif (!(YC (gtd ((0,[]):ZJ) q.2 (Int.toNat x)))) (K (Qcw false)) (Qmg K q (w64 (x+(1:Int)))))) (K (Qcw true)))):Qmg K q x :=
 Loop.of (by kernel_rfl) h
theorem QO6 (q:Qe) (h :
(zif (((decide (q.1<(1:Int)))||(decide (q.1>(5:Int))))||(decide (((q.2).length:Int)>q.1))) (K (Qcw false)) (Qmg K q 0))):Hold (tawp QkQ (0+0) QEW (TQ 0 0 Qzs K) (Qf [(.a [(.c TI q.1),(.c (.sl QY) q.2)])])) :=
 Hold.of (by kernel_rfl) h
theorem QFf (q:Qe):TCon Tryz.prog 135 [(.a [(.c TI q.1),(.c (.sl QY) q.2)])] (Qcw (Zj q)):=by
 refine Qq rfl fun hb=>tcg (n:=32) (sg:=Qda.sg) Ql (TOk.cons QqX TOk.nil) (by kernel_rfl) (by kernel_rfl) (QO6 _ q ?_)
 have hl_q_1:(q.2).length≤9223372036854775807:=hb.1.2.1.1
 refine ⟨fun h=>R_eq ?_,fun h=>QbU (Q:=fun x=>Qcw x=Qcw (Zj q)) (p:=YC) (c:=fun x=>!(YC x)) (0,[]) hl_q_1 (fun _=>rfl) (fun i h=>QLn _ q i h) (R_eq ?_)⟩
 ·grind [Zj]
 ·grind [Zj]
theorem Qiu:Qi Tryz.prog Qda:=Qm fun x _=>QFf x.1
def QeI (t:Int):TRes:=zre (zci t)
def Qn1:TRow:=Qh 138 [(.a Qv)] fun x=>(none,QeI (Zo x.1))
def Qk0:List TRow:=[QmB]
def Qqe:TCode :=
 (zsq [(zsq [(.reg [zmv 5 4,zfa 6 1 1,zld 7 6 1,zle 8 7,zbi 9 .lss 5 8,zmv 10 9,.grp 10 true [zLd 11 1 2,zca 12 103 [11]] 13 12]),(.cond 13 .skip (.exit 0))]),(.block 1 (.reg [zmv 16 3,zfa 17 1 1,zld 18 17 1,zmv 19 4,zia 20 18 19 QY,zfa 21 20 1,zld 22 21 1,zle 23 22,zbi 24 .add 16 23,zmv 3 24])),(.reg [zmv 14 4,zbi 15 .add 14 (zki 1),zmv 4 15])])
def Qub:List (Nat × Md):=[(1,.b [.d,.d]),(3,.one .d),(4,.one .d)]
def Qts:TCode :=
 (zsq [(.reg [zmv 25 3,zmv 2 25]),.ret])
def QOA:TCode :=
 (zsq [(.reg [zop 1 (.box 97 0 2),zmv 2 (zki 0)]),(.reg [zmv 3 (zki 0)]),(zsq [(.reg [zmv 4 (zki 0)]),(.block 0 (.loop Qub Qqe))]),Qts])
def QxV:List (ARv × Md):=[(.t 2,.one .d)]
def Qsn:Qb:=TQ 0 0 QxV K
def QP4:Qb:=Qseq (tawp Qk0 0 Qts (Qsn K)) (Qsn K)
def QP5:Qb:=Qblk 0 (QP4 K)
def Qf6 (q:Qe) (n:Int) (i:Int):Prop:=Loop Qk0 0 Qub Qqe (QP5 K) ⟨[(1,(.p 0 0 0)),(3,(zci n)),(4,(zci i))],[(0,(.box [(zci q.1),(zcs QY q.2)]))],1⟩
theorem Qlm (q:Qe) (n:Int) (i:Int) (h :
(zif ((decide (i<((q.2).length:Int)))&&(Zj q)) (((0:Int)≤i∧Int.toNat i<(q.2).length)∧(Qf6 K q (w64 (n+(((gtd ((0,[]):ZJ) q.2 (Int.toNat i)).2).length:Int))) (w64 (i+(1:Int))))) (K (QeI n)))):Qf6 K q n i :=
 Loop.of (by kernel_rfl) h
theorem QHL (q:Qe) (h :
(Qf6 K q 0 0)):Hold (tawp Qk0 (0+0) QOA (TQ 0 0 QxV K) (Qf [(.a [(.c TI q.1),(.c (.sl QY) q.2)])])) :=
 Hold.of (by kernel_rfl) h
theorem QHG (q:Qe):TCon Tryz.prog 138 [(.a [(.c TI q.1),(.c (.sl QY) q.2)])] (QeI (Zo q)):=by
 refine Qq rfl fun hb=>tcg (n:=26) (sg:=Qn1.sg) Ql (TOk.cons QMt TOk.nil) (by kernel_rfl) (by kernel_rfl) (QHL _ q ?_)
 have hl_q_1:(q.2).length≤9223372036854775807:=hb.1.2.1.1
 cases hq:Zj q with
 | false =>
  refine Qlm (fun r'=>r'=QeI (Zo q)) q _ _ ⟨fun h=>by simp [hq] at h,fun _=>R_eq ?_⟩
  simp [Zo,hq]
 | true =>
  refine Zi q.2 (fun r k=>∀ y:Int,w64 (y+(r.map fun x=>(x.2.length:Int)).sum)=(Zo q)→Qf6 (fun r'=>r'=QeI (Zo q)) q (w64 y) k) ?_ ?_ 0 (by simp [Zo,hq])
  ·intro y he
   refine Qlm _ q _ _ ⟨fun h=>by simp at h,fun _=>?_⟩
   grind
  ·intro k x r hk hlt hg ih y he
   refine Qlm _ q _ _ ⟨fun _=>?_,fun h=>by simp [hq] at h;omega⟩
   rw [Int.toNat_natCast,hg,Qp (x:=(k:Int)+1) (by omega) (by omega),Yw]
   refine ⟨⟨by omega,hlt⟩,ih _ ?_⟩
   rw [← he,List.map_cons,List.sum_cons,Int.add_assoc]
theorem QCU:Qi Tryz.prog Qn1:=Qm fun x _=>QHG x.1
def Qes (t:Int):TRes:=zre (zci t)
def Qmy:TRow:=Qh 137 [(.a Qv)] fun x=>(none,Qes (Zo x.1))
def Qj6:List TRow:=[Qda]
def Qv4:TCode :=
 (zsq [(.reg [zbi 13 .lss 12 11]),(.cond 13 .skip (.exit 0)),(.block 1 (zsq [(.reg [zia 14 10 12 QY,zLd 15 14 2,zop 5 (.new 114 (z0s QY)),zst 5 15 2]),(.reg [zmv 16 3,zfa 17 5 1,zld 18 17 1,zle 19 18,zbi 20 .add 16 19,zmv 3 20])])),(.reg [zbi 21 .add 12 (zki 1),zmv 12 21])])
def QAo:List (Nat × Md):=zdl [3,10,11,12]
def QtJ:TCode :=
 (zsq [(.reg [zmv 22 3,zmv 2 22]),.ret])
def QIX:TCode :=
 (zsq [(.reg [zop 1 (.box 97 0 2),zmv 2 (zki 0)]),(zsq [(.reg [zLd 6 1 2,zca 7 135 [6],zno 8 7]),(.cond 8 (zsq [(.reg [zmv 2 (zki 0)]),.ret]) .skip)]),(.reg [zmv 3 (zki 0)]),(zsq [(.reg [zfa 9 1 1,zld 10 9 1,zle 11 10,zmv 12 (zki 0)]),(.block 0 (.loop QAo Qv4))]),QtJ])
def Qze:List (ARv × Md):=[(.t 2,.one .d)]
def QpO:Qb:=TQ 0 0 Qze K
def QOY:Qb:=Qseq (tawp Qj6 0 QtJ (QpO K)) (QpO K)
def QEi:Qb:=Qblk 0 (QOY K)
def Qhd (q:Qe) (n:Int) (x:Int):Prop:=Loop Qj6 0 QAo Qv4 (QEi K) ⟨[(3,(zci n)),(10,(zcs QY q.2)),(11,(zci ((q.2).length:Int))),(12,(zci x))],[],0⟩
theorem Qvx (q:Qe) (n:Int) (x:Int) (h :
(zif (decide (x<((q.2).length:Int))) (((0:Int)≤x∧Int.toNat x<(q.2).length)∧(Qhd K q (w64 (n+(((gtd ((0,[]):ZJ) q.2 (Int.toNat x)).2).length:Int))) (w64 (x+(1:Int))))) (K (Qes n)))):Qhd K q n x :=
 Loop.of (by kernel_rfl) h
theorem QJT (q:Qe) (h :
(zif (!(Zj q)) (K (Qes (0:Int))) (Qhd K q 0 0))):Hold (tawp Qj6 (0+0) QIX (TQ 0 0 Qze K) (Qf [(.a [(.c TI q.1),(.c (.sl QY) q.2)])])) :=
 Hold.of (by kernel_rfl) h
theorem QRb (q:Qe):TCon Tryz.prog 137 [(.a [(.c TI q.1),(.c (.sl QY) q.2)])] (Qes (Zo q)):=by
 refine Qq rfl fun hb=>tcg (n:=23) (sg:=Qmy.sg) Ql (TOk.cons Qiu TOk.nil) (by kernel_rfl) (by kernel_rfl) (QJT _ q ?_)
 have hl_q_1:(q.2).length≤9223372036854775807:=hb.1.2.1.1
 refine ⟨fun h=>R_eq (by simp at h;simp [Zo,h]),fun h=>?_⟩
 have hq:Zj q=true:=by simpa using h
 refine Zi q.2 (fun r k=>∀ y:Int,w64 (y+(r.map fun x=>(x.2.length:Int)).sum)=(Zo q)→Qhd (fun r'=>r'=Qes (Zo q)) q (w64 y) k) ?_ ?_ 0 (by simp [Zo,hq])
 ·intro y he
  refine Qvx _ q _ _ ⟨fun h=>by simp at h,fun _=>?_⟩
  grind
 ·intro k x r hk hlt hg ih y he
  refine Qvx _ q _ _ ⟨fun _=>?_,fun h=>by simp at h;omega⟩
  rw [Int.toNat_natCast,hg,Qp (x:=(k:Int)+1) (by omega) (by omega),Yw]
  refine ⟨⟨by omega,hlt⟩,ih _ ?_⟩
  rw [← he,List.map_cons,List.sum_cons,Int.add_assoc]
theorem QP8:Qi Tryz.prog Qmy:=Qm fun x _=>QRb x.1
def QmZ (t:Bool):TRes:=zre (zcb t)
def Qmr:TRow:=Qh 99 [(.a Qv)] fun x=>(none,QmZ (Qa6 x.1))
def QBo:List TRow:=[]
def QRo:TCode :=
 (zsq [(.reg [zop 1 (.box 97 0 2),zmv 2 (zkb false)]),(.reg [zfa 3 1 1,zld 4 3 1,zle 5 4,zfa 6 1 0,zld 7 6 1,zbi 8 .lss 5 7,zmv 2 8]),.ret])
def QIV:List (ARv × Md):=[(.t 2,.one .d)]
theorem QF7 (q:Qe) (h :
K (QmZ (decide (((q.2).length:Int)<q.1)))):Hold (tawp QBo (0+0) QRo (TQ 0 0 QIV K) (Qf [(.a [(.c TI q.1),(.c (.sl QY) q.2)])])) :=
 Hold.of (by kernel_rfl) h
theorem QFR (q:Qe):TCon Tryz.prog 99 [(.a [(.c TI q.1),(.c (.sl QY) q.2)])] (QmZ (Qa6 q)):=by
 refine Qq rfl fun hb=>tcg (n:=9) (sg:=Qmr.sg) Ql TOk.nil (by kernel_rfl) (by kernel_rfl) (QF7 _ q ?_)
 have hl_q_1:(q.2).length≤9223372036854775807:=hb.1.2.1.1
 exact R_eq rfl
theorem QAu:Qi Tryz.prog Qmr:=Qm fun x _=>QFR x.1
end
end Go.Proofs.YtjbdljkhbglnhaaGreat.Am

