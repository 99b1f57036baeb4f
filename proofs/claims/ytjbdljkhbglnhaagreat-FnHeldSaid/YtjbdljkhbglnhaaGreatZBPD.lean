/- -/
import Derived.Test.YtjbdljkhbglnhaaGreatZBP5
import Derived.Test.YtjbdljkhbglnhaaGreatZBP3
import Derived.Test.YtjbdljkhbglnhaaGreatZBP6
namespace Go.Proofs.YtjbdljkhbglnhaaGreat.Am
open Go Go.RowKit Go.Proofs.YtjbdljkhbglnhaaGreat
set_option linter.all false
noncomputable section
variable (K:TRes→Prop)
def Qbr (t:Bool):TRes:=zre (zcb t)
def Qmh:TRow:=Qi 50 [(.a QK),(.a QX)] fun x=>(none,Qbr (YJ x.1 x.2.1))
def QlO:List TRow:=[Qj0,Qlw,Qe6]
def Qxg:TCode :=
 (zsq [(zsq [(.reg [zmv 21 5,zfa 22 3 1,zld 23 22 1,zle 24 23,zbi 25 .lss 21 24]),(.cond 25 .skip (.exit 0))]),(.block 1 (zsq [(.draw [zfa 28 3 1,zld 29 28 1,zmv 30 5,zia 31 29 30 Qv,zLd 32 31 14,zca 33 126 [32],zLd 34 2 6,zmv 35 5,zfa 36 3 0,zld 37 36 1,zle 38 37,zca 39 78 [34,35,38],zfa 40 2 5,zld 41 40 1,zmv 42 5,zia 43 41 42 [TI],zld 44 43 1,zop 45 (.mm false 39 44),zbi 46 .gtr 33 45] [(5,6),(5,8),(5,9),(5,10),(5,12),(11,12),(5,13),(11,13),(5,15),(11,15),(5,16),(11,16)]),(.cond 46 (zsq [(.reg [zmv 4 (zkb false)]),.ret]) .skip)])),(.reg [zmv 26 5,zbi 27 .add 26 (zki 1),zmv 5 27])])
def QqH:List (Nat × Md):=[(2,.b (zds 6)),(3,.b (zds 4)),(5,.one .d)]
def QxY:TCode :=
 (zsq [(.reg [zmv 4 (zkb true)]),.ret])
def QP4:TCode :=
 (zsq [(.reg [zop 2 (.box 30 0 6),zop 3 (.box 37 1 4),zmv 4 (zkb false)]),(zsq [(.draw [zfa 6 3 1,zld 7 6 1,zle 8 7,zLd 9 2 6,zca 10 81 [9],zbi 11 .neq 8 10,zmv 12 11,.grp 12 false [zfa 13 2 5,zld 14 13 1,zle 15 14,zfa 16 3 1,zld 17 16 1,zle 18 17,zbi 19 .neq 15 18] 20 19] [(0,4),(1,4),(2,4)]),(.cond 20 (zsq [(.reg [zmv 4 (zkb false)]),.ret]) .skip)]),(zsq [(.reg [zmv 5 (zki 0)]),(.block 0 (.loop QqH Qxg))]),QxY])
def QoW:List (ARv × Md):=[(.t 4,.one .d)]
def QoO:Qb:=TQ 0 0 QoW K
def QH2:Qb:=Qseq (tawp QlO 0 QxY (QoO K)) (QoO K)
def QME:Qb:=Qblk 0 (QH2 K)
def QgX (c:Ql) (p:Qn) (s:Int):Prop:=Loop QlO 0 QqH Qxg (QME K) ⟨[(2,(.p 0 0 0)),(3,(.p 1 0 0)),(5,(zci s))],[(0,(.box (Tup.cells QK c))),(1,(.box (Tup.cells QX p)))],2⟩
theorem QtY (c:Ql) (p:Qn) (s:Int) (h :
 (zif (decide (s<((p.2.1).length:Int))) ((((0:Int)≤s∧Int.toNat s<(p.2.1).length)∧((0:Int)≤s∧Int.toNat s<(c.2.2.2.2.2).length))∧(zif (decide ((ZJ (gtd QW p.2.1 (Int.toNat s)))>(if (gtd (0:Int) c.2.2.2.2.2 (Int.toNat s))<(Zs c s ((p.1).length:Int)) then (gtd (0:Int) c.2.2.2.2.2 (Int.toNat s)) else (Zs c s ((p.1).length:Int))))) (K (Qbr false)) (QgX K c p (w64 (s+(1:Int)))))) (K (Qbr true)))):QgX K c p s :=
 Loop.of (by kernel_rfl) h
theorem QPD (c:Ql) (p:Qn) (h :
 (zif ((((p.2.1).length:Int) != (QF c))||(((c.2.2.2.2.2).length:Int) != ((p.2.1).length:Int))) (K (Qbr false)) (QgX K c p 0))):Hold (tawp QlO (0+0) QP4 (TQ 0 0 QoW K) (Qf [(.a (Tup.cells QK c)),(.a (Tup.cells QX p))])) :=
 Hold.of (by kernel_rfl) h
theorem QzS (c:Ql) (p:Qn):TCon Tryz.prog 50 [(.a (Tup.cells QK c)),(.a (Tup.cells QX p))] (Qbr (YJ c p)):=by
 refine Qr rfl fun hb=>tcg (n:=47) (sg:=Qmh.sg) Qk (TOk.cons QIU (TOk.cons QLE (TOk.cons Qk5 TOk.nil))) (by kernel_rfl) (by kernel_rfl) (QPD _ c p ?_)
 have hl_c_0:(c.1).length≤9223372036854775807:=hb.1.1.1
 have hl_c_1:(c.2.1).length≤9223372036854775807:=hb.1.2.1.1
 have hl_c_3:(c.2.2.2.1).length≤9223372036854775807:=hb.1.2.2.2.1.1
 have hl_c_4:(c.2.2.2.2.1).length≤9223372036854775807:=hb.1.2.2.2.2.1.1
 have hl_c_5:(c.2.2.2.2.2).length≤9223372036854775807:=hb.1.2.2.2.2.2.1.1
 have hl_p_0:(p.1).length≤9223372036854775807:=hb.2.1.1.1
 have hl_p_1:(p.2.1).length≤9223372036854775807:=hb.2.1.2.1.1
 have hl_p_2:(p.2.2.1).length≤9223372036854775807:=hb.2.1.2.2.1.1
 have hl_p_3:(p.2.2.2).length≤9223372036854775807:=hb.2.1.2.2.2.1.1
 refine ⟨fun h=>R_eq (by grind [YJ]),fun h=>?_⟩
 have h1:((p.2.1.length:Int)=QF c)∧((c.2.2.2.2.2.length:Int)=QF c):=by grind
 refine Zt p.2.1 (fun r k=>J4 c p.1.length r k=J4 c p.1.length p.2.1 0→QgX (fun r'=>r'=Qbr (YJ c p)) c p k) ?_ ?_ rfl
 ·intro he
  refine QtY (fun r'=>r'=Qbr (YJ c p)) c p _ ⟨fun h=>by simp at h,fun _=>R_eq ?_⟩
  grind [YJ,J4]
 ·intro k x r hk hlt hg ih he
  refine QtY (fun r'=>r'=Qbr (YJ c p)) c p _ ⟨fun _=>?_,fun h=>by simp at h;omega⟩
  rw [Int.toNat_natCast,hg,Qp (x:=(k:Int)+1) (by omega) (by omega)]
  rw [J4,Int.toNat_natCast] at he
  refine ⟨⟨⟨by omega,hlt⟩,by omega,by omega⟩,fun h=>R_eq ?_,fun h=>ih ?_⟩
  ·grind [YJ,iMin]
  ·grind [iMin]
theorem QI2:Qj Tryz.prog Qmh:=Qm fun x _=>QzS x.1 x.2.1
def QbD (t:Bool):TRes:=zre (zcb t)
def Qlr:TRow:=Qi 51 [(.a QK),(.a QX)] fun x=>(none,QbD (YJ x.1 x.2.1))
def QnK:List TRow:=[Qck,QiV,Qe4]
def Qpd:TCode :=
 (zsq [(.reg [zbi 26 .lss 25 24]),(.cond 26 .skip (.exit 0)),(.block 1 (zsq [(.reg [zmv 27 25,zia 28 23 25 Qv,zLd 29 28 14,zop 7 (.new 63 (z0s Qv)),zmv 6 27,zst 7 29 14]),(.draw [zLd 30 7 14,zca 31 45 [30],zLd 32 2 6,zmv 33 6,zfa 34 3 0,zld 35 34 1,zle 36 35,zca 37 54 [32,33,36],zfa 38 2 5,zld 39 38 1,zmv 40 6,zia 41 39 40 [TI],zld 42 41 1,zop 43 (.mm false 37 42),zbi 44 .gtr 31 43] [(1,2),(1,4),(1,5),(1,6),(1,8),(7,8),(1,9),(7,9),(1,11),(7,11),(1,12),(7,12)]),(.cond 44 (zsq [(.reg [zmv 4 (zkb false)]),.ret]) .skip)])),(.reg [zbi 45 .add 25 (zki 1),zmv 25 45])])
def Qvu:List (Nat × Md):=[(2,.b (zds 6)),(3,.b (zds 4)),(23,.one .d),(24,.one .d),(25,.one .d)]
def Qri:TCode :=
 (zsq [(.reg [zmv 4 (zkb true)]),.ret])
def QEk:TCode :=
 (zsq [(.reg [zop 2 (.box 30 0 6),zop 3 (.box 37 1 4),zmv 4 (zkb false)]),(.reg [zLd 8 2 6,zca 9 59 [8],zmv 5 9]),(zsq [(.reg [zfa 10 3 1,zld 11 10 1,zle 12 11,zmv 13 5,zbi 14 .neq 12 13,zmv 15 14,.grp 15 false [zfa 16 2 5,zld 17 16 1,zle 18 17,zmv 19 5,zbi 20 .neq 18 19] 21 20]),(.cond 21 (zsq [(.reg [zmv 4 (zkb false)]),.ret]) .skip)]),(zsq [(.reg [zfa 22 3 1,zld 23 22 1,zle 24 23,zmv 25 (zki 0)]),(.block 0 (.loop Qvu Qpd))]),Qri])
def QrN:List (ARv × Md):=[(.t 4,.one .d)]
def Qu5:Qb:=TQ 0 0 QrN K
def QDN:Qb:=Qseq (tawp QnK 0 Qri (Qu5 K)) (Qu5 K)
def QJA:Qb:=Qblk 0 (QDN K)
def Qhg (c:Ql) (p:Qn) (x:Int):Prop:=Loop QnK 0 Qvu Qpd (QJA K) ⟨[(2,(.p 0 0 0)),(3,(.p 1 0 0)),(23,(zcs Qv p.2.1)),(24,(zci ((p.2.1).length:Int))),(25,(zci x))],[(0,(.box (Tup.cells QK c))),(1,(.box (Tup.cells QX p)))],2⟩
theorem Qyw (c:Ql) (p:Qn) (x:Int) (h :
 (zif (decide (x<((p.2.1).length:Int))) (((0:Int)≤x∧Int.toNat x<(p.2.1).length)∧(((0:Int)≤x∧Int.toNat x<(c.2.2.2.2.2).length)∧(zif (decide ((ZJ (gtd QW p.2.1 (Int.toNat x)))>(if (gtd (0:Int) c.2.2.2.2.2 (Int.toNat x))<(Zs c x ((p.1).length:Int)) then (gtd (0:Int) c.2.2.2.2.2 (Int.toNat x)) else (Zs c x ((p.1).length:Int))))) (K (QbD false)) (Qhg K c p (w64 (x+(1:Int))))))) (K (QbD true)))):Qhg K c p x :=
 Loop.of (by kernel_rfl) h
theorem QMn (c:Ql) (p:Qn) (h :
 (zif ((((p.2.1).length:Int) != (QF c))||(((c.2.2.2.2.2).length:Int) != (QF c))) (K (QbD false)) (Qhg K c p 0))):Hold (tawp QnK (0+0) QEk (TQ 0 0 QrN K) (Qf [(.a (Tup.cells QK c)),(.a (Tup.cells QX p))])) :=
 Hold.of (by kernel_rfl) h
theorem QDg (c:Ql) (p:Qn):TCon Tryz.prog 51 [(.a (Tup.cells QK c)),(.a (Tup.cells QX p))] (QbD (YJ c p)):=by
 refine Qr rfl fun hb=>tcg (n:=46) (sg:=Qlr.sg) Qk (TOk.cons Qfu (TOk.cons QvK (TOk.cons Qnq TOk.nil))) (by kernel_rfl) (by kernel_rfl) (QMn _ c p ?_)
 have hl_c_0:(c.1).length≤9223372036854775807:=hb.1.1.1
 have hl_c_1:(c.2.1).length≤9223372036854775807:=hb.1.2.1.1
 have hl_c_3:(c.2.2.2.1).length≤9223372036854775807:=hb.1.2.2.2.1.1
 have hl_c_4:(c.2.2.2.2.1).length≤9223372036854775807:=hb.1.2.2.2.2.1.1
 have hl_c_5:(c.2.2.2.2.2).length≤9223372036854775807:=hb.1.2.2.2.2.2.1.1
 have hl_p_0:(p.1).length≤9223372036854775807:=hb.2.1.1.1
 have hl_p_1:(p.2.1).length≤9223372036854775807:=hb.2.1.2.1.1
 have hl_p_2:(p.2.2.1).length≤9223372036854775807:=hb.2.1.2.2.1.1
 have hl_p_3:(p.2.2.2).length≤9223372036854775807:=hb.2.1.2.2.2.1.1
 refine ⟨fun h=>R_eq (by grind [YJ]),fun h=>?_⟩
 have h1:((p.2.1.length:Int)=QF c)∧((c.2.2.2.2.2.length:Int)=QF c):=by grind
 refine Zt p.2.1 (fun r k=>J4 c p.1.length r k=J4 c p.1.length p.2.1 0→Qhg (fun r'=>r'=QbD (YJ c p)) c p k) ?_ ?_ rfl
 ·intro he
  refine Qyw (fun r'=>r'=QbD (YJ c p)) c p _ ⟨fun h=>by simp at h,fun _=>R_eq ?_⟩
  grind [YJ,J4]
 ·intro k x r hk hlt hg ih he
  refine Qyw (fun r'=>r'=QbD (YJ c p)) c p _ ⟨fun _=>?_,fun h=>by simp at h;omega⟩
  rw [Int.toNat_natCast,hg,Qp (x:=(k:Int)+1) (by omega) (by omega)]
  rw [J4,Int.toNat_natCast] at he
  refine ⟨⟨by omega,hlt⟩,⟨by omega,by omega⟩,fun h=>R_eq ?_,fun h=>ih ?_⟩
  ·grind [YJ,iMin]
  ·grind [iMin]
theorem QGz:Qj Tryz.prog Qlr:=Qm fun x _=>QDg x.1 x.2.1
end
end Go.Proofs.YtjbdljkhbglnhaaGreat.Am

