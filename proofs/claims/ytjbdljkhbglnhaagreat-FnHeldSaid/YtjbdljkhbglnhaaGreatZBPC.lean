/- -/
import Derived.Test.YtjbdljkhbglnhaaGreatZBP3
import Derived.Test.YtjbdljkhbglnhaaGreatZBP2
namespace Go.Proofs.YtjbdljkhbglnhaaGreat.Am
open Go Go.RowKit Go.Proofs.YtjbdljkhbglnhaaGreat
set_option linter.all false
noncomputable section
variable (K:TRes→Prop)
def J3 (t:Bool):TRes:=zre (zcb t)
def Qlt:TRow:=Qi 52 [(.a QX)] fun x=>(none,J3 (ZR x.1))
def Qfv:List TRow:=[]
def QrO:TCode :=
 (zsq [(zsq [(.reg [zmv 5 3,zfa 6 1 2,zld 7 6 1,zle 8 7,zbi 9 .lss 5 8]),(.cond 9 .skip (.exit 0))]),(.block 1 (zsq [(.draw [zfa 12 1 2,zld 13 12 1,zmv 14 3,zia 15 13 14 Qx,zfa 16 15 1,zld 17 16 1,zle 18 17,zfa 19 1 2,zld 20 19 1,zmv 21 3,zia 22 20 21 Qx,zfa 23 22 0,zld 24 23 1,zbi 25 .gtr 18 24] []),(.cond 25 (zsq [(.reg [zmv 2 (zkb false)]),.ret]) .skip)])),(.reg [zmv 10 3,zbi 11 .add 10 (zki 1),zmv 3 11])])
def Qt1:List (Nat × Md):=[(1,.b (zds 4)),(3,.one .d)]
def QoS:TCode :=
 (zsq [(zsq [(.reg [zmv 26 4,zfa 27 1 3,zld 28 27 1,zle 29 28,zbi 30 .lss 26 29]),(.cond 30 .skip (.exit 2))]),(.block 3 (zsq [(.draw [zfa 33 1 3,zld 34 33 1,zmv 35 4,zia 36 34 35 Qx,zfa 37 36 1,zld 38 37 1,zle 39 38,zfa 40 1 3,zld 41 40 1,zmv 42 4,zia 43 41 42 Qx,zfa 44 43 0,zld 45 44 1,zbi 46 .gtr 39 45] []),(.cond 46 (zsq [(.reg [zmv 2 (zkb false)]),.ret]) .skip)])),(.reg [zmv 31 4,zbi 32 .add 31 (zki 1),zmv 4 32])])
def Qvq:List (Nat × Md):=[(1,.b (zds 4)),(4,.one .d)]
def Qxz:TCode :=
 (zsq [(.reg [zmv 2 (zkb true)]),.ret])
def QpK:TCode :=
 (zsq [(zsq [(.reg [zmv 4 (zki 0)]),(.block 2 (.loop Qvq QoS))]),Qxz])
def QNW:TCode :=
 (zsq [(.reg [zop 1 (.box 37 0 4),zmv 2 (zkb false)]),(zsq [(.reg [zmv 3 (zki 0)]),(.block 0 (.loop Qt1 QrO))]),QpK])
def QsT:List (ARv × Md):=[(.t 2,.one .d)]
def Qie:Qb:=TQ 0 0 QsT K
def QOF:Qb:=Qseq (tawp Qfv 0 Qxz (Qie K)) (Qie K)
def QOM:Qb:=Qblk 2 (QOF K)
def Qhb (p:Qn) (i1:Int):Prop:=Loop Qfv 0 Qvq QoS (QOM K) ⟨[(1,(.p 0 0 0)),(4,(zci i1))],[(0,(.box (Tup.cells QX p)))],1⟩
def QFm:Qb:=Qseq (tawp Qfv 0 QpK (Qie K)) (Qie K)
def QHm:Qb:=Qblk 0 (QFm K)
def Qlq (p:Qn) (i:Int):Prop:=Loop Qfv 0 Qt1 QrO (QHm K) ⟨[(1,(.p 0 0 0)),(3,(zci i))],[(0,(.box (Tup.cells QX p)))],1⟩
theorem QHv (p:Qn) (i1:Int) (h :
 (zif (decide (i1<((p.2.2.2).length:Int))) ((((0:Int)≤i1∧Int.toNat i1<(p.2.2.2).length)∧((0:Int)≤i1∧Int.toNat i1<(p.2.2.2).length))∧(zif (decide ((((gtd QT p.2.2.2 (Int.toNat i1)).2).length:Int)>((gtd QT p.2.2.2 (Int.toNat i1)).1))) (K (J3 false)) (Qhb K p (w64 (i1+(1:Int)))))) (K (J3 true)))):Qhb K p i1 :=
 Loop.of (by kernel_rfl) h
theorem Qz7 (p:Qn) (i:Int) (h :
 (zif (decide (i<((p.2.2.1).length:Int))) ((((0:Int)≤i∧Int.toNat i<(p.2.2.1).length)∧((0:Int)≤i∧Int.toNat i<(p.2.2.1).length))∧(zif (decide ((((gtd QT p.2.2.1 (Int.toNat i)).2).length:Int)>((gtd QT p.2.2.1 (Int.toNat i)).1))) (K (J3 false)) (Qlq K p (w64 (i+(1:Int)))))) (Qhb K p 0))):Qlq K p i :=
 Loop.of (by kernel_rfl) h
theorem QGN (p:Qn) (h :
 (Qlq K p 0)):Hold (tawp Qfv (0+0) QNW (TQ 0 0 QsT K) (Qf [(.a (Tup.cells QX p))])) :=
 Hold.of (by kernel_rfl) h
theorem QD5 (p:Qn):TCon Tryz.prog 52 [(.a (Tup.cells QX p))] (J3 (ZR p)):=by
 refine Qr rfl fun hb=>tcg (n:=47) (sg:=Qlt.sg) Qk TOk.nil (by kernel_rfl) (by kernel_rfl) (QGN _ p ?_)
 have hl_p_0:(p.1).length≤9223372036854775807:=hb.1.1.1
 have hl_p_1:(p.2.1).length≤9223372036854775807:=hb.1.2.1.1
 have hl_p_2:(p.2.2.1).length≤9223372036854775807:=hb.1.2.2.1.1
 have hl_p_3:(p.2.2.2).length≤9223372036854775807:=hb.1.2.2.2.1.1
 refine Qae (Q:=fun b=>selP b (Qhb (fun r'=>r'=J3 (ZR p)) p ((0:Nat):Int)) (J3 false=J3 (ZR p))) (p:=Je) (c:=fun q=>decide ((q.2.length:Int)>q.1)) (e:=true) QT hl_p_2 (fun x=>by grind [Je]) (fun i h=>Qz7 (fun r'=>r'=J3 (ZR p)) p i ⟨fun hc=>⟨⟨(h.1 hc).1,(h.1 hc).1⟩,(h.1 hc).2⟩,h.2⟩) ?_
 cases h1:p.2.2.1.all Je with
 | false=>exact R_eq (by simp [ZR,h1])
 | true =>
  exact Qae (Q:=fun b=>J3 b=J3 (ZR p)) (p:=Je) (c:=fun q=>decide ((q.2.length:Int)>q.1)) (e:=true) QT hl_p_3 (fun x=>by grind [Je]) (fun i h=>QHv (fun r'=>r'=J3 (ZR p)) p i ⟨fun hc=>⟨⟨(h.1 hc).1,(h.1 hc).1⟩,(h.1 hc).2⟩,h.2⟩) (R_eq (by simp only [ZR,h1];simp))
theorem QAw:Qj Tryz.prog Qlt:=Qm fun x _=>QD5 x.1
def Jg (t:Bool):TRes:=zre (zcb t)
def QlU:TRow:=Qi 53 [(.a QX)] fun x=>(none,Jg (ZR x.1))
def QdF:List TRow:=[]
def Quk:TCode :=
 (zsq [(.reg [zbi 20 .lss 19 18]),(.cond 20 .skip (.exit 2)),(.block 3 (zsq [(.reg [zia 21 17 19 Qx,zLd 22 21 2,zop 6 (.new 97 (z0s Qx)),zst 6 22 2]),(.reg [zfa 23 6 1,zld 24 23 1,zle 25 24,zfa 26 6 0,zld 27 26 1,zbi 28 .gtr 25 27]),(.cond 28 (zsq [(.reg [zmv 2 (zkb false)]),.ret]) .skip)])),(.reg [zbi 29 .add 19 (zki 1),zmv 19 29])])
def QsK:List (Nat × Md):=zdl [11,12,13,17,18,19]
def Qty:TCode :=
 (.reg [zbi 30 .add 13 (zki 1),zmv 13 30])
def Qja:TCode :=
 (zsq [(.reg [zbi 14 .lss 13 12]),(.cond 14 .skip (.exit 0)),(.block 1 (zsq [(.reg [zia 15 11 13 [(.sl Qx)],zld 16 15 1,zmv 4 16]),(.reg [zmv 17 4,zle 18 17,zmv 19 (zki 0)]),(.block 2 (.loop QsK Quk))])),Qty])
def QfN:List (Nat × Md):=zdl [11,12,13]
def Qn3:TCode :=
 (zsq [(.reg [zmv 2 (zkb true)]),.ret])
def QEq:TCode :=
 (zsq [(.reg [zop 1 (.box 37 0 4),zmv 2 (zkb false)]),(zsq [(.reg [zfa 7 1 2,zld 8 7 1,zfa 9 1 3,zld 10 9 1,zop 11 (.bsl 35 [(.sl Qx)] [8,10]),zle 12 11,zmv 13 (zki 0)]),(.block 0 (.loop QfN Qja))]),Qn3])
def Qn5:List (ARv × Md):=[(.t 2,.one .d)]
def Qy0:Qb:=TQ 0 0 Qn5 K
def QD8:Qb:=Qseq (tawp QdF 0 Qn3 (Qy0 K)) (Qy0 K)
def Qm9:Qb:=Qblk 0 (QD8 K)
def QoL:Qb:=Qseq (fun s'=>Loop QdF 0 QfN Qja (Qm9 K) (gc 0 QfN s')) (Qm9 K)
def QJu:Qb:=Qseq (tawp QdF 0 Qty (QoL K)) (QoL K)
def QDQ:Qb:=Qblk 1 (QJu K)
def QFJ:Qb:=Qblk 2 (QDQ K)
def QfQ (p:Qn) (x:Int) (x1:Int):Prop:=Loop QdF 0 QsK Quk (QFJ K) ⟨[(11,(zcs [(.sl Qx)] ([p.2.2.1,p.2.2.2]))),(12,(zci ((2:Nat):Int))),(13,(zci x1)),(17,(zcs Qx (gtd ([]:List Qd) ([p.2.2.1,p.2.2.2]) (Int.toNat x1)))),(18,(zci ((gtd ([]:List Qd) ([p.2.2.1,p.2.2.2]) (Int.toNat x1)).length:Int))),(19,(zci x))],[],0⟩
def Qdm (p:Qn) (x1:Int):Prop:=Loop QdF 0 QfN Qja (Qm9 K) ⟨[(11,(zcs [(.sl Qx)] ([p.2.2.1,p.2.2.2]))),(12,(zci ((2:Nat):Int))),(13,(zci x1))],[],0⟩
theorem QKE (p:Qn) (x:Int) (x1:Int) (h :
 (zif (decide (x<((gtd ([]:List Qd) ([p.2.2.1,p.2.2.2]) (Int.toNat x1)).length:Int))) (((0:Int)≤x∧Int.toNat x<(gtd ([]:List Qd) ([p.2.2.1,p.2.2.2]) (Int.toNat x1)).length)∧(zif (decide ((((gtd QT (gtd ([]:List Qd) ([p.2.2.1,p.2.2.2]) (Int.toNat x1)) (Int.toNat x)).2).length:Int)>((gtd QT (gtd ([]:List Qd) ([p.2.2.1,p.2.2.2]) (Int.toNat x1)) (Int.toNat x)).1))) (K (Jg false)) (QfQ K p (w64 (x+(1:Int))) x1))) (Qdm K p (w64 (x1+(1:Int)))))):QfQ K p x x1 :=
 Loop.of (by kernel_rfl) h
theorem Qka (p:Qn) (x1:Int) (h :
 (zif (decide (x1<((2:Nat):Int))) (((0:Int)≤x1∧Int.toNat x1<2)∧(QfQ K p 0 x1)) (K (Jg true)))):Qdm K p x1 :=
 Loop.of (by kernel_rfl) h
theorem QBT (p:Qn) (h :
 (Qdm K p 0)):Hold (tawp QdF (0+0) QEq (TQ 0 0 Qn5 K) (Qf [(.a (Tup.cells QX p))])) :=
 Hold.of (by kernel_rfl) h
theorem QM1 (p:Qn):TCon Tryz.prog 53 [(.a (Tup.cells QX p))] (Jg (ZR p)):=by
 refine Qr rfl fun hb=>tcg (n:=31) (sg:=QlU.sg) Qk TOk.nil (by kernel_rfl) (by kernel_rfl) (QBT _ p ?_)
 have hl_p_0:(p.1).length≤9223372036854775807:=hb.1.1.1
 have hl_p_1:(p.2.1).length≤9223372036854775807:=hb.1.2.1.1
 have hl_p_2:(p.2.2.1).length≤9223372036854775807:=hb.1.2.2.1.1
 have hl_p_3:(p.2.2.2).length≤9223372036854775807:=hb.1.2.2.2.1.1
 have two:p.2.2.1.all Je=true→p.2.2.2.all Je=true→Qdm (fun r'=>r'=Jg (ZR p)) p 2:=fun h1 h2=>Qka (fun r'=>r'=Jg (ZR p)) p _ ⟨fun h=>by simp at h,fun _=>R_eq (by simp [ZR,h1,h2])⟩
 have loop:∀ (l:List Qd) (j:Int) (nxt:Int),gtd ([]:List Qd) ([p.2.2.1,p.2.2.2]:List (List Qd)) (Int.toNat j)=l→l.length≤9223372036854775807→w64 (j+1)=nxt→(l.all Je=true→Qdm (fun r'=>r'=Jg (ZR p)) p nxt)→(l.all Je=false→Jg false=Jg (ZR p))→QfQ (fun r'=>r'=Jg (ZR p)) p ((0:Nat):Int) j:=by
  intro l j nxt hl hb2 hn h1 h2
  refine Qae (l:=l) (Q:=fun b=>selP b (Qdm (fun r'=>r'=Jg (ZR p)) p nxt) (Jg false=Jg (ZR p))) (p:=Je) (c:=fun q=>decide ((q.2.length:Int)>q.1)) (e:=true) QT hb2 (fun x=>by grind [Je]) (fun i h=>QKE (fun r'=>r'=Jg (ZR p)) p i j (by rw [hl,hn];exact h)) ?_
  cases hx:l.all Je with
  | false=>exact h2 hx
  | true=>exact h1 hx
 refine Qka (fun r'=>r'=Jg (ZR p)) p _ ⟨fun _=>⟨⟨by omega,by simp⟩,?_⟩,fun h=>by simp at h⟩
 refine loop p.2.2.1 0 1 rfl hl_p_2 rfl (fun h1=>?_) (fun h1=>R_eq (by simp [ZR,h1]))
 refine Qka (fun r'=>r'=Jg (ZR p)) p _ ⟨fun _=>⟨⟨by omega,by simp⟩,?_⟩,fun h=>by simp at h⟩
 exact loop p.2.2.2 1 2 rfl hl_p_3 rfl (fun h2=>two h1 h2) (fun h2=>R_eq (by simp [ZR,h2]))
theorem QN9:Qj Tryz.prog QlU:=Qm fun x _=>QM1 x.1
end
end Go.Proofs.YtjbdljkhbglnhaaGreat.Am

