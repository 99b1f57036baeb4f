/- -/
import Derived.Test.YtjbdljkhbglnhaaGreatZAP1
namespace Go.Proofs.YtjbdljkhbglnhaaGreat.Am
open Go Go.RowKit Go.Proofs.YtjbdljkhbglnhaaGreat
set_option linter.all false
noncomputable section
variable (K:TRes→Prop)
def QmG (t:Bool):TRes:=zre (zcb t)
def QfG:TRow:=Qj 178 [(.a QY)] fun x=>(none,QmG (Yw x.1))
def QI0:List TRow:=[Qba]
def QGK:TCode :=
 (zsq [(.reg [zop 1 (.box 114 0 2),zmv 2 (zkb false)]),(.reg [zfa 3 1 1,zld 4 3 1,zca 5 134 [4],zmv 6 5,.grp 6 true [zfa 7 1 0,zld 8 7 1,zbi 9 .geq 8 (zki 0)] 10 9,zmv 11 10,.grp 11 true [zfa 12 1 0,zld 13 12 1,zbi 14 .lss 13 (zki 5)] 15 14,zmv 2 15]),.ret])
def QPX:List (ARv × Md):=[(.t 2,.one .d)]
theorem QL0 (x:ZJ) (h :
 K (QmG (((Q2 x.2)&&(decide (x.1≥(0:Int))))&&(decide (x.1<(5:Int)))))):Hold (tawp QI0 (0+0) QGK (TQ 0 0 QPX K) (Qf [(.a [(.c TI x.1),(.c (.sl [TI]) x.2)])])) :=
 Hold.of (by kernel_rfl) h
theorem QGC (x:ZJ):TCon Tryz.prog 178 [(.a [(.c TI x.1),(.c (.sl [TI]) x.2)])] (QmG (Yw x)):=by
 refine Qq rfl fun hb=>tcg (n:=16) (sg:=QfG.sg) Ql (TOk.cons QcM TOk.nil) (by kernel_rfl) (by kernel_rfl) (QL0 _ x ?_)
 have hl_x_1:(x.2).length≤9223372036854775807:=hb.1.2.1.1
 exact R_eq (by grind [Yw])
theorem Qya:Qi Tryz.prog QfG:=Qm fun x _=>QGC x.1
def Qim (t:Bool):TRes:=zre (zcb t)
def QkS:TRow:=Qj 103 [(.a Qv)] fun x=>(none,Qim (Zk x.1))
def Qmu:List TRow:=[Qh6,JH]
def Qq8:TCode :=
 (zsq [(zsq [(.reg [zmv 4 3,zfa 5 1 1,zld 6 5 1,zle 7 6,zbi 8 .lss 4 7]),(.cond 8 .skip (.exit 0))]),(.block 1 (zsq [(.reg [zfa 11 1 1,zld 12 11 1,zmv 13 3,zia 14 12 13 QY,zfa 15 14 1,zld 16 15 1,zca 17 42 [16],zno 18 17,zmv 19 18,.grp 19 false [zfa 20 1 1,zld 21 20 1,zmv 22 3,zia 23 21 22 QY,zfa 24 23 0,zld 25 24 1,zca 26 77 [25,(zki 0),(zki 4)],zno 27 26] 28 27]),(.cond 28 (zsq [(.reg [zmv 2 (zkb false)]),.ret]) .skip)])),(.reg [zmv 9 3,zbi 10 .add 9 (zki 1),zmv 3 10])])
def Qzh:List (Nat × Md):=[(1,.b [.d,.d]),(3,.one .d)]
def Qwl:TCode :=
 (zsq [(.reg [zfa 29 1 0,zld 30 29 1,zca 31 77 [30,(zki 1),(zki 5)],zmv 32 31,.grp 32 true [zfa 33 1 1,zld 34 33 1,zle 35 34,zfa 36 1 0,zld 37 36 1,zbi 38 .leq 35 37] 39 38,zmv 2 39]),.ret])
def QBk:TCode :=
 (zsq [(.reg [zop 1 (.box 97 0 2),zmv 2 (zkb false)]),(zsq [(.reg [zmv 3 (zki 0)]),(.block 0 (.loop Qzh Qq8))]),Qwl])
def Qu8:List (ARv × Md):=[(.t 2,.one .d)]
def Qrg:Qb:=TQ 0 0 Qu8 K
def QC4:Qb:=Qseq (tawp Qmu 0 Qwl (Qrg K)) (Qrg K)
def QIW:Qb:=Qblk 0 (QC4 K)
def QhB (q:Qe) (i:Int):Prop:=Loop Qmu 0 Qzh Qq8 (QIW K) ⟨[(1,(.p 0 0 0)),(3,(zci i))],[(0,(.box [(zci q.1),(zcs QY q.2)]))],1⟩
theorem Qq0 (q:Qe) (i:Int) (h :
 (zif (decide (i<((q.2).length:Int))) ((((0:Int)≤i∧Int.toNat i<(q.2).length)∧((!(!(Q2 ((gtd ((0,[]):ZJ) q.2 (Int.toNat i)).2))))=true→((0:Int)≤i∧Int.toNat i<(q.2).length)))∧(zif ((!(Q2 ((gtd ((0,[]):ZJ) q.2 (Int.toNat i)).2)))||(!(m_in ((gtd ((0,[]):ZJ) q.2 (Int.toNat i)).1) (0:Int) (4:Int)))) (K (Qim false)) (QhB K q (w64 (i+(1:Int)))))) (K (Qim ((m_in q.1 (1:Int) (5:Int))&&(decide (((q.2).length:Int)≤q.1))))))):QhB K q i :=
 Loop.of (by kernel_rfl) h
theorem QM7 (q:Qe) (h :
 (QhB K q 0)):Hold (tawp Qmu (0+0) QBk (TQ 0 0 Qu8 K) (Qf [(.a [(.c TI q.1),(.c (.sl QY) q.2)])])) :=
 Hold.of (by kernel_rfl) h
theorem QFK (q:Qe):TCon Tryz.prog 103 [(.a [(.c TI q.1),(.c (.sl QY) q.2)])] (Qim (Zk q)):=by
 refine Qq rfl fun hb=>tcg (n:=40) (sg:=QkS.sg) Ql (TOk.cons QuI (TOk.cons Qac TOk.nil)) (by kernel_rfl) (by kernel_rfl) (QM7 _ q ?_)
 have hl_q_1:(q.2).length≤9223372036854775807:=hb.1.2.1.1
 refine Zj q.2 (fun r k=>r.all Yw=q.2.all Yw→QhB _ q k) ?_ ?_ rfl
 ·intro he
  refine Qq0 _ q _ ⟨fun h=>by simp at h,fun _=>?_⟩
  grind [Zk,m_in]
 ·intro k x r hk hlt hg ih he
  refine Qq0 _ q _ ⟨fun _=>?_,fun h=>by simp at h;omega⟩
  rw [Int.toNat_natCast,hg,Qp (by omega) (by omega)]
  grind [Zk,Yw,m_in]
theorem QP2:Qi Tryz.prog QkS:=Qm fun x _=>QFK x.1
def QcR (t:Bool):TRes:=zre (zcb t)
def QdK:TRow:=Qj 135 [(.a Qv)] fun x=>(none,QcR (Zk x.1))
def QjM:List TRow:=[QfG]
def QxF:TCode :=
 (zsq [(.reg [zbi 25 .lss 24 23]),(.cond 25 .skip (.exit 0)),(.block 1 (zsq [(.reg [zia 26 22 24 QY,zLd 27 26 2,zop 4 (.new 114 (z0s QY)),zst 4 27 2]),(.reg [zLd 28 4 2,zca 29 178 [28],zno 30 29]),(.cond 30 (zsq [(.reg [zmv 2 (zkb false)]),.ret]) .skip)])),(.reg [zbi 31 .add 24 (zki 1),zmv 24 31])])
def Qzv:List (Nat × Md):=zdl [22,23,24]
def Qyh:TCode :=
 (zsq [(.reg [zmv 2 (zkb true)]),.ret])
def QPN:TCode :=
 (zsq [(.reg [zop 1 (.box 97 0 2),zmv 2 (zkb false)]),(zsq [(.reg [zfa 5 1 0,zld 6 5 1,zbi 7 .lss 6 (zki 1),zmv 8 7,.grp 8 false [zfa 9 1 0,zld 10 9 1,zbi 11 .gtr 10 (zki 5)] 12 11,zmv 13 12,.grp 13 false [zfa 14 1 1,zld 15 14 1,zle 16 15,zfa 17 1 0,zld 18 17 1,zbi 19 .gtr 16 18] 20 19]),(.cond 20 (zsq [(.reg [zmv 2 (zkb false)]),.ret]) .skip)]),(zsq [(.reg [zfa 21 1 1,zld 22 21 1,zle 23 22,zmv 24 (zki 0)]),(.block 0 (.loop Qzv QxF))]),Qyh])
def QpZ:List (ARv × Md):=[(.t 2,.one .d)]
def Qxf:Qb:=TQ 0 0 QpZ K
def QL9:Qb:=Qseq (tawp QjM 0 Qyh (Qxf K)) (Qxf K)
def QOD:Qb:=Qblk 0 (QL9 K)
def Qk2 (q:Qe) (x:Int):Prop:=Loop QjM 0 Qzv QxF (QOD K) ⟨[(22,(zcs QY q.2)),(23,(zci ((q.2).length:Int))),(24,(zci x))],[],0⟩
theorem QMY (q:Qe) (x:Int) (h :
 (zif (decide (x<((q.2).length:Int))) (((0:Int)≤x∧Int.toNat x<(q.2).length)∧(zif (!(Yw (gtd ((0,[]):ZJ) q.2 (Int.toNat x)))) (K (QcR false)) (Qk2 K q (w64 (x+(1:Int)))))) (K (QcR true)))):Qk2 K q x :=
 Loop.of (by kernel_rfl) h
theorem QOI (q:Qe) (h :
 (zif (((decide (q.1<(1:Int)))||(decide (q.1>(5:Int))))||(decide (((q.2).length:Int)>q.1))) (K (QcR false)) (Qk2 K q 0))):Hold (tawp QjM (0+0) QPN (TQ 0 0 QpZ K) (Qf [(.a [(.c TI q.1),(.c (.sl QY) q.2)])])) :=
 Hold.of (by kernel_rfl) h
theorem QBS (q:Qe):TCon Tryz.prog 135 [(.a [(.c TI q.1),(.c (.sl QY) q.2)])] (QcR (Zk q)):=by
 refine Qq rfl fun hb=>tcg (n:=32) (sg:=QdK.sg) Ql (TOk.cons Qya TOk.nil) (by kernel_rfl) (by kernel_rfl) (QOI _ q ?_)
 have hl_q_1:(q.2).length≤9223372036854775807:=hb.1.2.1.1
 refine ⟨fun h=>R_eq ?_,fun h=>Qb6 (Q:=fun x=>QcR x=QcR (Zk q)) (p:=Yw) (c:=fun x=>!(Yw x)) (0,[]) hl_q_1 (fun _=>rfl) (fun i h=>QMY _ q i h) (R_eq ?_)⟩
 ·grind [Zk]
 ·grind [Zk]
theorem Qi1:Qi Tryz.prog QdK:=Qm fun x _=>QBS x.1
def QeC (t:Int):TRes:=zre (zci t)
def Qoc:TRow:=Qj 138 [(.a Qv)] fun x=>(none,QeC (Zn x.1))
def Qko:List TRow:=[QkS]
def Qph:TCode :=
 (zsq [(zsq [(.reg [zmv 5 4,zfa 6 1 1,zld 7 6 1,zle 8 7,zbi 9 .lss 5 8,zmv 10 9,.grp 10 true [zLd 11 1 2,zca 12 103 [11]] 13 12]),(.cond 13 .skip (.exit 0))]),(.block 1 (.reg [zmv 16 3,zfa 17 1 1,zld 18 17 1,zmv 19 4,zia 20 18 19 QY,zfa 21 20 1,zld 22 21 1,zle 23 22,zbi 24 .add 16 23,zmv 3 24])),(.reg [zmv 14 4,zbi 15 .add 14 (zki 1),zmv 4 15])])
def Qpn:List (Nat × Md):=[(1,.b [.d,.d]),(3,.one .d),(4,.one .d)]
def Qv3:TCode :=
 (zsq [(.reg [zmv 25 3,zmv 2 25]),.ret])
def QDm:TCode :=
 (zsq [(.reg [zop 1 (.box 97 0 2),zmv 2 (zki 0)]),(.reg [zmv 3 (zki 0)]),(zsq [(.reg [zmv 4 (zki 0)]),(.block 0 (.loop Qpn Qph))]),Qv3])
def QwG:List (ARv × Md):=[(.t 2,.one .d)]
def QAh:Qb:=TQ 0 0 QwG K
def QK5:Qb:=Qseq (tawp Qko 0 Qv3 (QAh K)) (QAh K)
def QDi:Qb:=Qblk 0 (QK5 K)
def Qjc (q:Qe) (n:Int) (i:Int):Prop:=Loop Qko 0 Qpn Qph (QDi K) ⟨[(1,(.p 0 0 0)),(3,(zci n)),(4,(zci i))],[(0,(.box [(zci q.1),(zcs QY q.2)]))],1⟩
theorem Qny (q:Qe) (n:Int) (i:Int) (h :
 (zif ((decide (i<((q.2).length:Int)))&&(Zk q)) (((0:Int)≤i∧Int.toNat i<(q.2).length)∧(Qjc K q (w64 (n+(((gtd ((0,[]):ZJ) q.2 (Int.toNat i)).2).length:Int))) (w64 (i+(1:Int))))) (K (QeC n)))):Qjc K q n i :=
 Loop.of (by kernel_rfl) h
theorem QRH (q:Qe) (h :
 (Qjc K q 0 0)):Hold (tawp Qko (0+0) QDm (TQ 0 0 QwG K) (Qf [(.a [(.c TI q.1),(.c (.sl QY) q.2)])])) :=
 Hold.of (by kernel_rfl) h
theorem QJ7 (q:Qe):TCon Tryz.prog 138 [(.a [(.c TI q.1),(.c (.sl QY) q.2)])] (QeC (Zn q)):=by
 refine Qq rfl fun hb=>tcg (n:=26) (sg:=Qoc.sg) Ql (TOk.cons QP2 TOk.nil) (by kernel_rfl) (by kernel_rfl) (QRH _ q ?_)
 have hl_q_1:(q.2).length≤9223372036854775807:=hb.1.2.1.1
 cases hq:Zk q with
 | false =>
  refine Qny (fun r'=>r'=QeC (Zn q)) q _ _ ⟨fun h=>by simp [hq] at h,fun _=>R_eq ?_⟩
  simp [Zn,hq]
 | true =>
  refine Zj q.2 (fun r k=>∀ y:Int,w64 (y+(r.map fun x=>(x.2.length:Int)).sum)=(Zn q)→Qjc (fun r'=>r'=QeC (Zn q)) q (w64 y) k) ?_ ?_ 0 (by simp [Zn,hq])
  ·intro y he
   refine Qny _ q _ _ ⟨fun h=>by simp at h,fun _=>?_⟩
   grind
  ·intro k x r hk hlt hg ih y he
   refine Qny _ q _ _ ⟨fun _=>?_,fun h=>by simp [hq] at h;omega⟩
   rw [Int.toNat_natCast,hg,Qp (x:=(k:Int)+1) (by omega) (by omega),Yy]
   refine ⟨⟨by omega,hlt⟩,ih _ ?_⟩
   rw [← he,List.map_cons,List.sum_cons,Int.add_assoc]
theorem QDW:Qi Tryz.prog Qoc:=Qm fun x _=>QJ7 x.1
def Qec (t:Int):TRes:=zre (zci t)
def Qli:TRow:=Qj 137 [(.a Qv)] fun x=>(none,Qec (Zn x.1))
def Ql9:List TRow:=[QdK]
def QtM:TCode :=
 (zsq [(.reg [zbi 13 .lss 12 11]),(.cond 13 .skip (.exit 0)),(.block 1 (zsq [(.reg [zia 14 10 12 QY,zLd 15 14 2,zop 5 (.new 114 (z0s QY)),zst 5 15 2]),(.reg [zmv 16 3,zfa 17 5 1,zld 18 17 1,zle 19 18,zbi 20 .add 16 19,zmv 3 20])])),(.reg [zbi 21 .add 12 (zki 1),zmv 12 21])])
def QqQ:List (Nat × Md):=zdl [3,10,11,12]
def Qwi:TCode :=
 (zsq [(.reg [zmv 22 3,zmv 2 22]),.ret])
def QLn:TCode :=
 (zsq [(.reg [zop 1 (.box 97 0 2),zmv 2 (zki 0)]),(zsq [(.reg [zLd 6 1 2,zca 7 135 [6],zno 8 7]),(.cond 8 (zsq [(.reg [zmv 2 (zki 0)]),.ret]) .skip)]),(.reg [zmv 3 (zki 0)]),(zsq [(.reg [zfa 9 1 1,zld 10 9 1,zle 11 10,zmv 12 (zki 0)]),(.block 0 (.loop QqQ QtM))]),Qwi])
def Qz2:List (ARv × Md):=[(.t 2,.one .d)]
def QrZ:Qb:=TQ 0 0 Qz2 K
def QPU:Qb:=Qseq (tawp Ql9 0 Qwi (QrZ K)) (QrZ K)
def QC2:Qb:=Qblk 0 (QPU K)
def Qiq (q:Qe) (n:Int) (x:Int):Prop:=Loop Ql9 0 QqQ QtM (QC2 K) ⟨[(3,(zci n)),(10,(zcs QY q.2)),(11,(zci ((q.2).length:Int))),(12,(zci x))],[],0⟩
theorem QpM (q:Qe) (n:Int) (x:Int) (h :
 (zif (decide (x<((q.2).length:Int))) (((0:Int)≤x∧Int.toNat x<(q.2).length)∧(Qiq K q (w64 (n+(((gtd ((0,[]):ZJ) q.2 (Int.toNat x)).2).length:Int))) (w64 (x+(1:Int))))) (K (Qec n)))):Qiq K q n x :=
 Loop.of (by kernel_rfl) h
theorem QAH (q:Qe) (h :
 (zif (!(Zk q)) (K (Qec (0:Int))) (Qiq K q 0 0))):Hold (tawp Ql9 (0+0) QLn (TQ 0 0 Qz2 K) (Qf [(.a [(.c TI q.1),(.c (.sl QY) q.2)])])) :=
 Hold.of (by kernel_rfl) h
theorem QEs (q:Qe):TCon Tryz.prog 137 [(.a [(.c TI q.1),(.c (.sl QY) q.2)])] (Qec (Zn q)):=by
 refine Qq rfl fun hb=>tcg (n:=23) (sg:=Qli.sg) Ql (TOk.cons Qi1 TOk.nil) (by kernel_rfl) (by kernel_rfl) (QAH _ q ?_)
 have hl_q_1:(q.2).length≤9223372036854775807:=hb.1.2.1.1
 refine ⟨fun h=>R_eq (by simp at h;simp [Zn,h]),fun h=>?_⟩
 have hq:Zk q=true:=by simpa using h
 refine Zj q.2 (fun r k=>∀ y:Int,w64 (y+(r.map fun x=>(x.2.length:Int)).sum)=(Zn q)→Qiq (fun r'=>r'=Qec (Zn q)) q (w64 y) k) ?_ ?_ 0 (by simp [Zn,hq])
 ·intro y he
  refine QpM _ q _ _ ⟨fun h=>by simp at h,fun _=>?_⟩
  grind
 ·intro k x r hk hlt hg ih y he
  refine QpM _ q _ _ ⟨fun _=>?_,fun h=>by simp at h;omega⟩
  rw [Int.toNat_natCast,hg,Qp (x:=(k:Int)+1) (by omega) (by omega),Yy]
  refine ⟨⟨by omega,hlt⟩,ih _ ?_⟩
  rw [← he,List.map_cons,List.sum_cons,Int.add_assoc]
theorem QE8:Qi Tryz.prog Qli:=Qm fun x _=>QEs x.1
def Qlk (t:Bool):TRes:=zre (zcb t)
def Qlq:TRow:=Qj 99 [(.a Qv)] fun x=>(none,Qlk (Qa5 x.1))
def QKC:List TRow:=[]
def QFq:TCode :=
 (zsq [(.reg [zop 1 (.box 97 0 2),zmv 2 (zkb false)]),(.reg [zfa 3 1 1,zld 4 3 1,zle 5 4,zfa 6 1 0,zld 7 6 1,zbi 8 .lss 5 7,zmv 2 8]),.ret])
def QOF:List (ARv × Md):=[(.t 2,.one .d)]
theorem QCm (q:Qe) (h :
 K (Qlk (decide (((q.2).length:Int)<q.1)))):Hold (tawp QKC (0+0) QFq (TQ 0 0 QOF K) (Qf [(.a [(.c TI q.1),(.c (.sl QY) q.2)])])) :=
 Hold.of (by kernel_rfl) h
theorem QDM (q:Qe):TCon Tryz.prog 99 [(.a [(.c TI q.1),(.c (.sl QY) q.2)])] (Qlk (Qa5 q)):=by
 refine Qq rfl fun hb=>tcg (n:=9) (sg:=Qlq.sg) Ql TOk.nil (by kernel_rfl) (by kernel_rfl) (QCm _ q ?_)
 have hl_q_1:(q.2).length≤9223372036854775807:=hb.1.2.1.1
 exact R_eq rfl
theorem QPV:Qi Tryz.prog Qlq:=Qm fun x _=>QDM x.1
end
end Go.Proofs.YtjbdljkhbglnhaaGreat.Am

