/- -/
import Derived.Test.YtjbdljkhbglnhaaGreatZJPJ
import Derived.Test.YtjbdljkhbglnhaaGreatZJP4
import Derived.Test.YtjbdljkhbglnhaaGreatZJPF
import Derived.Test.YtjbdljkhbglnhaaGreatZJP8
import Derived.Test.YtjbdljkhbglnhaaGreatZJP1
import Derived.Test.YtjbdljkhbglnhaaGreatZJP3
import Derived.Test.YtjbdljkhbglnhaaGreatZJPK
import Derived.Test.YtjbdljkhbglnhaaGreatZJPI
import Derived.Test.YtjbdljkhbglnhaaGreatZJPG
import Derived.Test.YtjbdljkhbglnhaaGreatZJGD
namespace Go.Proofs.YtjbdljkhbglnhaaGreat.Am
open Go Go.RowKit Go.Proofs.YtjbdljkhbglnhaaGreat
set_option linter.all false
set_option maxHeartbeats 2000000
noncomputable section
variable (K:TRes→Prop)
def Qds (t:Qb):TRes:=zra (.a (Tup.cells Qn t))
def Qic:TRow:=Qg 94 [(.c (.sl ctOp)),(.c (.sl QE)),(.c .bool),(.c .bool)] fun x=>(some (Qfq x.1 x.2.1 x.2.2.1 x.2.2.2.1),Qds (Ja x.1 x.2.1 x.2.2.1 x.2.2.2.1))
def QFd:List TRow:=[Qau,Qd4,Qke]
def QH5:TCode :=
 (zsq [(.reg [zop 8 (.new 63 (z0s Qn))]),(.reg [zmv 10 0,zop 11 (.build [(.n ctOp)] [(0,1,10)]),zop 9 (.new 26 [(.n ctOp)]),zst 9 11 1]),(zsq [(.reg [zLd 12 9 1,zca 13 74 [12],zno 14 13]),(.cond 14 (zsq [(.reg [zop 15 (.build (z0s Qn) []),zst 8 15 14]),.ret]) .skip)]),(.draw [zop 16 (.bsl 111 QE []),zmv 17 1,zop 18 (.app 16 17 111 QE),zmv 19 0,zca 20 176 [19],zmv 21 2,zmv 22 3,zLd 23 9 1,zca 24 83 [23],zop 25 (.build (z0s Qn) [(1,1,18),(2,1,20),(3,1,21),(4,1,22),(11,3,24)]),zst 8 25 14] [(0,7),(2,7),(4,7)]),.ret])
def Qy2:List (ARv × Md):=[(.l 8 14 true,.b (zds 14))]
theorem Qwe (ops:List TOp') (plan:List TIns) (last:Bool) (redo:Bool) (h :
 (zif (!(QC ops)) (K (Qds ((0:Int),[],[],false,false,[],[],[],[],[],[],[],(0:Int),false))) ((((0=0∨0+plan.length≤0)∧0+plan.length≤big)∧(QO (α:=List TOp') ops))∧K (Qds ((0:Int),(List.take (0+plan.length) (List.drop 0 (plan:List TIns))),(id (α:=List TOp') ops),last,redo,[],[],[],[],[],[],(Z0 ops).1,(Z0 ops).2.1,(Z0 ops).2.2))))):Hold (tawp QFd (0+0) QH5 (TQ 0 0 Qy2 K) (Qe [(.c (.sl ctOp) ops),(.c (.sl QE) plan),(.c .bool last),(.c .bool redo)])) :=
 Hold.of (by kernel_rfl) h
theorem Qyv (ops:List TOp') (plan:List TIns) (last:Bool) (redo:Bool) (hp:Qfq ops plan last redo):TCon Tryz.prog 94 [(.c (.sl ctOp) ops),(.c (.sl QE) plan),(.c .bool last),(.c .bool redo)] (Qds (Ja ops plan last redo)):=by
 refine Ql rfl fun hb=>tcg (n:=26) (sg:=Qic.sg) Qi (TOk.cons Qcu (TOk.cons Qs1 (TOk.cons QJV TOk.nil))) (by kernel_rfl) (by kernel_rfl) (Qwe _ ops plan last redo ?_)
 have hl_ops:ops.length≤9223372036854775807:=hb.1.1
 have hl_plan:plan.length≤9223372036854775807:=hb.2.1.1
 obtain ⟨h1,h2⟩:=hp
 simp only [id,List.drop_zero,List.take_length,true_or,true_and,Nat.zero_add]
 refine ⟨fun h=>R_eq ?_,fun h=>⟨⟨by rw [ZC];omega,h1⟩,R_eq ?_⟩⟩
 ·unfold Ja;rw [if_neg (by simpa using h)]
 ·unfold Ja;rw [if_pos (by simpa using h),QyX]
theorem Qvo:Qh Tryz.prog Qic:=Qk fun x h=>Qyv x.1 x.2.1 x.2.2.1 x.2.2.2.1 h
def Qaa (t:Qb):TRes:=⟨(.a [(zci t.1),(zcs QE t.2.1),(zcs ctOp t.2.2.1),(zcb t.2.2.2.1),(zcb t.2.2.2.2.1),(.r Qz 0 0 ((t.2.2.2.2.2.1).length)),(zcs [(.sl [TI])] t.2.2.2.2.2.2.1),(zcs [TI] t.2.2.2.2.2.2.2.1),(zcs [TI] t.2.2.2.2.2.2.2.2.1),(zcs [TI] t.2.2.2.2.2.2.2.2.2.1),(zcs [TI] t.2.2.2.2.2.2.2.2.2.2.1),(zcs [(.sl [TI])] t.2.2.2.2.2.2.2.2.2.2.2.1),(zci t.2.2.2.2.2.2.2.2.2.2.2.2.1),(zcb t.2.2.2.2.2.2.2.2.2.2.2.2.2)]),[(.sl 76 Qz true t.2.2.2.2.2.1)],[],true,[]⟩
def Qcq:TRow:=Qg 111 [(.a Qn)] fun x=>(some (QO (α:=Qb) x.1),Qaa (id (α:=Qb) x.1))
def Qgs:List TRow:=[Qir,Qcx,J2,Qlk]
def Quk:TCode :=
 (zsq [(.reg [zbi 24 .lss 23 22]),(.cond 24 .skip (.exit 0)),(.block 1 (zsq [(.reg [zia 25 21 23 Qz,zLd 26 25 2,zop 5 (.new 76 (z0s Qz)),zst 5 26 2]),(.draw [zfa 27 3 5,zld 28 27 1,zfa 29 5 0,zld 30 29 1,zfa 31 5 1,zld 32 31 1,zca 33 86 [32],zop 34 (.build (z0s Qz) [(0,1,30),(1,1,33)]),zop 35 (.bsl 76 Qz [34]),zop 36 (.app 28 35 76 Qz),zfa 37 3 5,zst 37 36 1] [(0,6),(1,6),(2,6),(3,6),(0,8),(1,8)])])),(.reg [zbi 38 .add 23 (zki 1),zmv 23 38])])
def Qmp:List (Nat × Md):=[(1,.b (zds 14)),(2,.b (zds 14)),(3,.b [.d,.d,.d,.d,.d,.o 76,.d,.d,.d,.d,.d,.d,.d,.d]),(21,.one .d),(22,.one .d),(23,.one .d)]
def Quj:TCode :=
 (zsq [(.reg [zfa 39 1 6,zld 40 39 1,zca 41 86 [40],zfa 42 3 6,zst 42 41 1]),(.draw [zfa 43 1 7,zld 44 43 1,zca 45 119 [44],zfa 46 1 8,zld 47 46 1,zca 48 119 [47],zfa 49 1 9,zld 50 49 1,zca 51 119 [50],zfa 52 1 10,zld 53 52 1,zca 54 119 [53],zfa 55 3 7,zst 55 45 1,zfa 56 3 8,zst 56 48 1,zfa 57 3 9,zst 57 51 1,zfa 58 3 10,zst 58 54 1] [(2,3),(2,4),(2,6),(5,6),(2,7),(5,7),(2,9),(5,9),(8,9),(2,10),(5,10),(8,10),(5,12),(8,12),(11,12)]),(.reg [zfa 59 1 11,zLd 60 59 3,zca 61 184 [60],zfa 62 3 11,zst 62 61 3]),(.reg [zLd 63 3 14,zst 2 63 14]),.ret])
def QFh:TCode :=
 (zsq [(.reg [zop 1 (.box 63 0 14),zop 2 (.new 63 (z0s Qn))]),(.draw [zfa 6 1 0,zld 7 6 1,zop 8 (.bsl 111 QE []),zfa 9 1 1,zld 10 9 1,zop 11 (.app 8 10 111 QE),zfa 12 1 2,zld 13 12 1,zca 14 151 [13],zfa 15 1 3,zld 16 15 1,zfa 17 1 4,zld 18 17 1,zop 19 (.build (z0s Qn) [(0,1,7),(1,1,11),(2,1,14),(3,1,16),(4,1,18)]),zop 3 (.new 63 (z0s Qn)),zst 3 19 14] [(0,2),(1,2),(2,3),(2,4),(0,5),(1,5),(2,6),(5,6),(2,7),(5,7),(0,8),(1,8),(2,9),(5,9),(8,9),(2,10),(5,10),(8,10),(2,11),(5,11),(8,11),(2,12),(5,12),(8,12),(0,14),(1,14),(2,14),(3,14),(4,14),(5,14),(6,14),(7,14),(8,14),(9,14),(10,14),(11,14),(12,14)]),(zsq [(.reg [zfa 20 1 5,zld 21 20 1,zle 22 21,zmv 23 (zki 0)]),(.block 0 (.loop Qmp Quk))]),Quj])
def Qu1:List (ARv × Md):=[(.l 2 14 true,.b [.d,.d,.d,.d,.d,.o 76,.d,.d,.d,.d,.d,.d,.d,.d])]
def Qpc:Qc:=TQ 0 0 Qu1 K
def QIn:Qc:=Qseq (tawp Qgs 0 Quj (Qpc K)) (Qpc K)
def QvX:Qc:=Qblk 0 (QIn K)
def QfM (s:Qb) (x:Int) (t5:List Q5):Prop:=Loop Qgs 0 Qmp Quk (QvX K) ⟨[(1,(.p 0 0 0)),(2,(.p 1 0 0)),(3,(.p 3 0 0)),(21,(zcs Qz s.2.2.2.2.2.1)),(22,(zci ((s.2.2.2.2.2.1).length:Int))),(23,(zci x))],[(0,(.box (Tup.cells Qn s))),(1,(.box (Tup.cells Qn ((0:Int),[],[],false,false,[],[],[],[],[],[],[],(0:Int),false)))),(2,(.sl 76 Qz true t5)),(3,(.box [(zci s.1),(zcs QE (List.take (0+(s.2.1).length) (List.drop 0 (s.2.1:List TIns)))),(zcs ctOp (id (α:=List TOp') s.2.2.1)),(zcb s.2.2.2.1),(zcb s.2.2.2.2.1),(.r Qz 2 0 t5.length),(zcs [(.sl [TI])] ([])),(zcs [TI] ([])),(zcs [TI] ([])),(zcs [TI] ([])),(zcs [TI] ([])),(zcs [(.sl [TI])] ([])),(zci 0),(zcb false)]))],4⟩
theorem QoD (s:Qb) (x:Int) (t5:List Q5) (h :
 (zif (decide (x<((s.2.2.2.2.2.1).length:Int))) (((0:Int)≤x∧Int.toNat x<(s.2.2.2.2.2.1).length)∧(((QO (α:=List (List Int)) ((gtd Zb s.2.2.2.2.2.1 (Int.toNat x)).2))∧((t5.length=t5.length∨t5.length+1≤t5.length)∧t5.length+1≤big))∧(QfM K s (w64 (x+(1:Int))) (List.take (t5.length+1) ((List.take t5.length t5)++([((gtd Zb s.2.2.2.2.2.1 (Int.toNat x)).1,(id (α:=List (List Int)) ((gtd Zb s.2.2.2.2.2.1 (Int.toNat x)).2)))])))))) ((QO (α:=List (List Int)) s.2.2.2.2.2.2.1)∧(((QO (α:=List Int) s.2.2.2.2.2.2.2.1)∧((QO (α:=List Int) s.2.2.2.2.2.2.2.2.1)∧((QO (α:=List Int) s.2.2.2.2.2.2.2.2.2.1)∧(QO (α:=List Int) s.2.2.2.2.2.2.2.2.2.2.1))))∧((QO (α:=QK) s.2.2.2.2.2.2.2.2.2.2.2)∧K (Qaa (s.1,(List.take (0+(s.2.1).length) (List.drop 0 (s.2.1:List TIns))),(id (α:=List TOp') s.2.2.1),s.2.2.2.1,s.2.2.2.2.1,(List.take t5.length t5),(id (α:=List (List Int)) s.2.2.2.2.2.2.1),(List.take ((id (α:=List Int) s.2.2.2.2.2.2.2.1).length) (List.drop 0 (id (α:=List Int) s.2.2.2.2.2.2.2.1))),(List.take ((id (α:=List Int) s.2.2.2.2.2.2.2.2.1).length) (List.drop 0 (id (α:=List Int) s.2.2.2.2.2.2.2.2.1))),(List.take ((id (α:=List Int) s.2.2.2.2.2.2.2.2.2.1).length) (List.drop 0 (id (α:=List Int) s.2.2.2.2.2.2.2.2.2.1))),(List.take ((id (α:=List Int) s.2.2.2.2.2.2.2.2.2.2.1).length) (List.drop 0 (id (α:=List Int) s.2.2.2.2.2.2.2.2.2.2.1))),(id (α:=QK) s.2.2.2.2.2.2.2.2.2.2.2).1,(id (α:=QK) s.2.2.2.2.2.2.2.2.2.2.2).2.1,(id (α:=QK) s.2.2.2.2.2.2.2.2.2.2.2).2.2))))))):QfM K s x t5 :=
 Loop.of (by kernel_rfl) h
theorem QB6 (s:Qb) (h :
 ((((0=0∨0+(s.2.1).length≤0)∧0+(s.2.1).length≤big)∧(QO (α:=List TOp') s.2.2.1))∧(QfM K s 0 ([]:List Q5)))):Hold (tawp Qgs (0+0) QFh (TQ 0 0 Qu1 K) (Qe [(.a (Tup.cells Qn s))])) :=
 Hold.of (by kernel_rfl) h
theorem QDX (s:Qb) (hp:QO (α:=Qb) s):TCon Tryz.prog 111 [(.a (Tup.cells Qn s))] (Qaa (id (α:=Qb) s)):=by
 refine Ql rfl fun hb=>tcg (n:=64) (sg:=Qcq.sg) Qi (TOk.cons QI6 (TOk.cons Qi7 (TOk.cons QbC (TOk.cons QE0 TOk.nil)))) (by kernel_rfl) (by kernel_rfl) (QB6 _ s ?_)
 have hl_s_1:(s.2.1).length≤9223372036854775807:=hb.1.2.1.1
 have hl_s_2:(s.2.2.1).length≤9223372036854775807:=hb.1.2.2.1.1
 have hl_s_5:(s.2.2.2.2.2.1).length≤9223372036854775807:=hb.1.2.2.2.2.2.1.1
 have hl_s_6:(s.2.2.2.2.2.2.1).length≤9223372036854775807:=hb.1.2.2.2.2.2.2.1.1
 have hl_s_7:(s.2.2.2.2.2.2.2.1).length≤9223372036854775807:=hb.1.2.2.2.2.2.2.2.1.1
 have hl_s_8:(s.2.2.2.2.2.2.2.2.1).length≤9223372036854775807:=hb.1.2.2.2.2.2.2.2.2.1.1
 have hl_s_9:(s.2.2.2.2.2.2.2.2.2.1).length≤9223372036854775807:=hb.1.2.2.2.2.2.2.2.2.2.1.1
 have hl_s_10:(s.2.2.2.2.2.2.2.2.2.2.1).length≤9223372036854775807:=hb.1.2.2.2.2.2.2.2.2.2.2.1.1
 have hl_s_11:(s.2.2.2.2.2.2.2.2.2.2.2.1).length≤9223372036854775807:=hb.1.2.2.2.2.2.2.2.2.2.2.2.1.1
 have hp':Sz.sz s≤2147483648:=hp
 have hs:=ZB s
 have l1:=JJ (Qx s)
 simp only [id,List.drop_zero,List.take_length,true_or,true_and,Nat.zero_add]
 refine ⟨⟨by rw [ZC];((try simp only [sPc,Qx,sOps,Qq,Qt,Qd,QB,sX,sY,sG,sD,Qr,Qw,sSat,QG,QJ,QH,QI] at *);omega),by unfold QO;((try simp only [sPc,Qx,sOps,Qq,Qt,Qd,QB,sX,sY,sG,sD,Qr,Qw,sSat,QG,QJ,QH,QI] at *);omega)⟩,?_⟩
 refine Qbr (l:=s.2.2.2.2.2.1) (A:=fun i v=>QfM (fun r'=>r'=Qaa (id (α:=Qb) s)) s i v) (Q:=fun z=>Qaa (s.1,s.2.1,s.2.2.1,s.2.2.2.1,s.2.2.2.2.1,z,s.2.2.2.2.2.2)=Qaa (id (α:=Qb) s)) (by ((try simp only [sPc,Qx,sOps,Qq,Qt,Qd,QB,sX,sY,sG,sD,Qr,Qw,sSat,QG,QJ,QH,QI] at *);omega)) (fun k x v hk hl hg hv hx ih=>?_) (fun hq=>?_) (R_eq rfl)
 ·refine QoD (fun r'=>r'=Qaa (id (α:=Qb) s)) s _ _ ⟨fun _=>?_,fun h=>by simp at h;omega⟩
  simp only [Yz,Ym] at hx
  rw [Int.toNat_natCast,hg,sc1 (by omega),Q9]
  exact ⟨⟨by omega,hk⟩,⟨by unfold QO;omega,room (by omega)⟩,ih⟩
 ·refine QoD (fun r'=>r'=Qaa (id (α:=Qb) s)) s _ _ ⟨fun h=>by simp at h,fun _=>?_⟩
  simp only [id,List.drop_zero,List.take_length,true_or,true_and,Nat.zero_add]
  exact ⟨by unfold QO;((try simp only [sPc,Qx,sOps,Qq,Qt,Qd,QB,sX,sY,sG,sD,Qr,Qw,sSat,QG,QJ,QH,QI] at *);omega),⟨by unfold QO;((try simp only [sPc,Qx,sOps,Qq,Qt,Qd,QB,sX,sY,sG,sD,Qr,Qw,sSat,QG,QJ,QH,QI] at *);omega),by unfold QO;((try simp only [sPc,Qx,sOps,Qq,Qt,Qd,QB,sX,sY,sG,sD,Qr,Qw,sSat,QG,QJ,QH,QI] at *);omega),by unfold QO;((try simp only [sPc,Qx,sOps,Qq,Qt,Qd,QB,sX,sY,sG,sD,Qr,Qw,sSat,QG,QJ,QH,QI] at *);omega),by unfold QO;((try simp only [sPc,Qx,sOps,Qq,Qt,Qd,QB,sX,sY,sG,sD,Qr,Qw,sSat,QG,QJ,QH,QI] at *);omega)⟩,by unfold QO;simp only [Yz,Ym,YY];((try simp only [sPc,Qx,sOps,Qq,Qt,Qd,QB,sX,sY,sG,sD,Qr,Qw,sSat,QG,QJ,QH,QI] at *);omega),by first | exact hq | trivial⟩
theorem Qi0:Qh Tryz.prog Qcq:=Qk fun x h=>QDX x.1 h
def Qab (t:Qb):TRes:=⟨(.a [(zci t.1),(zcs QE t.2.1),(zcs ctOp t.2.2.1),(zcb t.2.2.2.1),(zcb t.2.2.2.2.1),(.r Qz 0 0 ((t.2.2.2.2.2.1).length)),(zcs [(.sl [TI])] t.2.2.2.2.2.2.1),(zcs [TI] t.2.2.2.2.2.2.2.1),(zcs [TI] t.2.2.2.2.2.2.2.2.1),(zcs [TI] t.2.2.2.2.2.2.2.2.2.1),(zcs [TI] t.2.2.2.2.2.2.2.2.2.2.1),(zcs [(.sl [TI])] t.2.2.2.2.2.2.2.2.2.2.2.1),(zci t.2.2.2.2.2.2.2.2.2.2.2.2.1),(zcb t.2.2.2.2.2.2.2.2.2.2.2.2.2)]),[(.sl 76 Qz true t.2.2.2.2.2.1)],[],true,[]⟩
def QcU:TRow:=Qg 168 [(.a Qn)] fun x=>(some (QO (α:=Qb) x.1),Qab (id (α:=Qb) x.1))
def QhI:List TRow:=[Qd4,Qhf]
def QsA:TCode :=
 (zsq [(zsq [(.reg [zmv 17 4,zfa 18 1 5,zld 19 18 1,zle 20 19,zbi 21 .lss 17 20]),(.cond 21 .skip (.exit 0))]),(.block 1 (.draw [zfa 24 3 5,zld 25 24 1,zfa 26 1 5,zld 27 26 1,zmv 28 4,zia 29 27 28 Qz,zfa 30 29 0,zld 31 30 1,zfa 32 1 5,zld 33 32 1,zmv 34 4,zia 35 33 34 Qz,zfa 36 35 1,zld 37 36 1,zca 38 210 [37],zop 39 (.build (z0s Qz) [(0,1,31),(1,1,38)]),zop 40 (.bsl 76 Qz [39]),zop 41 (.app 25 40 76 Qz),zfa 42 3 5,zst 42 41 1] [(0,14),(1,14),(2,14),(3,14),(5,14),(6,14),(7,14),(0,16),(1,16)])),(.reg [zmv 22 4,zbi 23 .add 22 (zki 1),zmv 4 23])])
def Qrq:List (Nat × Md):=[(1,.b (zds 14)),(2,.b (zds 14)),(3,.b [.d,.d,.d,.d,.d,.f,.d,.d,.d,.d,.d,.d,.d,.d]),(4,.one .d)]
def Qnd:TCode :=
 (zsq [(.reg [zfa 43 1 6,zld 44 43 1,zca 45 210 [44],zfa 46 3 6,zst 46 45 1]),(.reg [zop 47 (.bsl 3 [TI] []),zfa 48 1 7,zld 49 48 1,zop 50 (.app 47 49 3 [TI]),zfa 51 3 7,zst 51 50 1]),(.reg [zop 52 (.bsl 3 [TI] []),zfa 53 1 8,zld 54 53 1,zop 55 (.app 52 54 3 [TI]),zfa 56 3 8,zst 56 55 1]),(.reg [zop 57 (.bsl 3 [TI] []),zfa 58 1 9,zld 59 58 1,zop 60 (.app 57 59 3 [TI]),zfa 61 3 9,zst 61 60 1]),(.reg [zop 62 (.bsl 3 [TI] []),zfa 63 1 10,zld 64 63 1,zop 65 (.app 62 64 3 [TI]),zfa 66 3 10,zst 66 65 1]),(.reg [zfa 67 1 11,zfa 68 67 0,zld 69 68 1,zca 70 210 [69],zfa 71 3 11,zfa 72 71 0,zst 72 70 1]),(.reg [zLd 73 3 14,zst 2 73 14]),.ret])
def QJu:TCode :=
 (zsq [(.reg [zop 1 (.box 63 0 14),zop 2 (.new 63 (z0s Qn))]),(.reg [zLd 5 1 14,zop 3 (.new 63 (z0s Qn)),zst 3 5 14]),(.reg [zfa 6 1 2,zld 7 6 1,zca 8 176 [7],zfa 9 3 2,zst 9 8 1]),(.reg [zop 10 (.bsl 111 QE []),zfa 11 1 1,zld 12 11 1,zop 13 (.app 10 12 111 QE),zfa 14 3 1,zst 14 13 1]),(.reg [zop 15 (.bsl 76 Qz []),zfa 16 3 5,zst 16 15 1]),(zsq [(.reg [zmv 4 (zki 0)]),(.block 0 (.loop Qrq QsA))]),Qnd])
def Qse:List (ARv × Md):=[(.l 2 14 true,.b [.d,.d,.d,.d,.d,.o 76,.d,.d,.d,.d,.d,.d,.d,.d])]
def QoJ:Qc:=TQ 0 0 Qse K
def QHO:Qc:=Qseq (tawp QhI 0 Qnd (QoJ K)) (QoJ K)
def QAS:Qc:=Qblk 0 (QHO K)
def QfS (s:Qb) (i:Int) (x5:List Q5):Prop:=Loop QhI 0 Qrq QsA (QAS K) ⟨[(1,(.p 0 0 0)),(2,(.p 1 0 0)),(3,(.p 3 0 0)),(4,(zci i))],[(0,(.box (Tup.cells Qn s))),(1,(.box (Tup.cells Qn ((0:Int),[],[],false,false,[],[],[],[],[],[],[],(0:Int),false)))),(2,(.sl 76 Qz true x5)),(3,(.box [(zci s.1),(zcs QE (List.take (0+(s.2.1).length) (List.drop 0 (s.2.1:List TIns)))),(zcs ctOp (id (α:=List TOp') s.2.2.1)),(zcb s.2.2.2.1),(zcb s.2.2.2.2.1),(.r Qz 2 0 x5.length),(zcs [(.sl [TI])] s.2.2.2.2.2.2.1),(zcs [TI] s.2.2.2.2.2.2.2.1),(zcs [TI] s.2.2.2.2.2.2.2.2.1),(zcs [TI] s.2.2.2.2.2.2.2.2.2.1),(zcs [TI] s.2.2.2.2.2.2.2.2.2.2.1),(zcs [(.sl [TI])] s.2.2.2.2.2.2.2.2.2.2.2.1),(zci s.2.2.2.2.2.2.2.2.2.2.2.2.1),(zcb s.2.2.2.2.2.2.2.2.2.2.2.2.2)]))],4⟩
theorem Qnh (s:Qb) (i:Int) (x5:List Q5) (h :
 (zif (decide (i<((s.2.2.2.2.2.1).length:Int))) ((((0:Int)≤i∧Int.toNat i<(s.2.2.2.2.2.1).length)∧(((0:Int)≤i∧Int.toNat i<(s.2.2.2.2.2.1).length)∧((QO (α:=List (List Int)) ((gtd Zb s.2.2.2.2.2.1 (Int.toNat i)).2))∧((x5.length=x5.length∨x5.length+1≤x5.length)∧x5.length+1≤big))))∧(QfS K s (w64 (i+(1:Int))) (List.take (x5.length+1) ((List.take x5.length x5)++([((gtd Zb s.2.2.2.2.2.1 (Int.toNat i)).1,(id (α:=List (List Int)) ((gtd Zb s.2.2.2.2.2.1 (Int.toNat i)).2)))]))))) ((QO (α:=List (List Int)) s.2.2.2.2.2.2.1)∧(((0=0∨0+(s.2.2.2.2.2.2.2.1).length≤0)∧0+(s.2.2.2.2.2.2.2.1).length≤big)∧(((0=0∨0+(s.2.2.2.2.2.2.2.2.1).length≤0)∧0+(s.2.2.2.2.2.2.2.2.1).length≤big)∧(((0=0∨0+(s.2.2.2.2.2.2.2.2.2.1).length≤0)∧0+(s.2.2.2.2.2.2.2.2.2.1).length≤big)∧(((0=0∨0+(s.2.2.2.2.2.2.2.2.2.2.1).length≤0)∧0+(s.2.2.2.2.2.2.2.2.2.2.1).length≤big)∧((QO (α:=List (List Int)) s.2.2.2.2.2.2.2.2.2.2.2.1)∧K (Qab (s.1,(List.take (0+(s.2.1).length) (List.drop 0 (s.2.1:List TIns))),(id (α:=List TOp') s.2.2.1),s.2.2.2.1,s.2.2.2.2.1,(List.take x5.length x5),(id (α:=List (List Int)) s.2.2.2.2.2.2.1),(List.take (0+(s.2.2.2.2.2.2.2.1).length) (List.drop 0 (s.2.2.2.2.2.2.2.1:List Int))),(List.take (0+(s.2.2.2.2.2.2.2.2.1).length) (List.drop 0 (s.2.2.2.2.2.2.2.2.1:List Int))),(List.take (0+(s.2.2.2.2.2.2.2.2.2.1).length) (List.drop 0 (s.2.2.2.2.2.2.2.2.2.1:List Int))),(List.take (0+(s.2.2.2.2.2.2.2.2.2.2.1).length) (List.drop 0 (s.2.2.2.2.2.2.2.2.2.2.1:List Int))),(id (α:=List (List Int)) s.2.2.2.2.2.2.2.2.2.2.2.1),s.2.2.2.2.2.2.2.2.2.2.2.2.1,s.2.2.2.2.2.2.2.2.2.2.2.2.2)))))))))):QfS K s i x5 :=
 Loop.of (by kernel_rfl) h
theorem QIb (s:Qb) (h :
 ((QO (α:=List TOp') s.2.2.1)∧(((0=0∨0+(s.2.1).length≤0)∧0+(s.2.1).length≤big)∧(QfS K s 0 ([]:List Q5))))):Hold (tawp QhI (0+0) QJu (TQ 0 0 Qse K) (Qe [(.a (Tup.cells Qn s))])) :=
 Hold.of (by kernel_rfl) h
theorem QE4 (s:Qb) (hp:QO (α:=Qb) s):TCon Tryz.prog 168 [(.a (Tup.cells Qn s))] (Qab (id (α:=Qb) s)):=by
 refine Ql rfl fun hb=>tcg (n:=74) (sg:=QcU.sg) Qi (TOk.cons Qs1 (TOk.cons QGI TOk.nil)) (by kernel_rfl) (by kernel_rfl) (QIb _ s ?_)
 have hl_s_1:(s.2.1).length≤9223372036854775807:=hb.1.2.1.1
 have hl_s_2:(s.2.2.1).length≤9223372036854775807:=hb.1.2.2.1.1
 have hl_s_5:(s.2.2.2.2.2.1).length≤9223372036854775807:=hb.1.2.2.2.2.2.1.1
 have hl_s_6:(s.2.2.2.2.2.2.1).length≤9223372036854775807:=hb.1.2.2.2.2.2.2.1.1
 have hl_s_7:(s.2.2.2.2.2.2.2.1).length≤9223372036854775807:=hb.1.2.2.2.2.2.2.2.1.1
 have hl_s_8:(s.2.2.2.2.2.2.2.2.1).length≤9223372036854775807:=hb.1.2.2.2.2.2.2.2.2.1.1
 have hl_s_9:(s.2.2.2.2.2.2.2.2.2.1).length≤9223372036854775807:=hb.1.2.2.2.2.2.2.2.2.2.1.1
 have hl_s_10:(s.2.2.2.2.2.2.2.2.2.2.1).length≤9223372036854775807:=hb.1.2.2.2.2.2.2.2.2.2.2.1.1
 have hl_s_11:(s.2.2.2.2.2.2.2.2.2.2.2.1).length≤9223372036854775807:=hb.1.2.2.2.2.2.2.2.2.2.2.2.1.1
 have hp':Sz.sz s≤2147483648:=hp
 have hs:=ZB s
 have l1:=JJ (Qx s)
 have l2:=ZF (sX s)
 have l3:=ZF (sY s)
 have l4:=ZF (sG s)
 have l5:=ZF (sD s)
 simp only [id,List.drop_zero,List.take_length,true_or,true_and,Nat.zero_add]
 refine ⟨by unfold QO;((try simp only [sPc,Qx,sOps,Qq,Qt,Qd,QB,sX,sY,sG,sD,Qr,Qw,sSat,QG,QJ,QH,QI] at *);omega),by rw [ZC];((try simp only [sPc,Qx,sOps,Qq,Qt,Qd,QB,sX,sY,sG,sD,Qr,Qw,sSat,QG,QJ,QH,QI] at *);omega),?_⟩
 refine Qbr (l:=s.2.2.2.2.2.1) (A:=fun i v=>QfS (fun r'=>r'=Qab (id (α:=Qb) s)) s i v) (Q:=fun z=>Qab (s.1,s.2.1,s.2.2.1,s.2.2.2.1,s.2.2.2.2.1,z,s.2.2.2.2.2.2)=Qab (id (α:=Qb) s)) (by ((try simp only [sPc,Qx,sOps,Qq,Qt,Qd,QB,sX,sY,sG,sD,Qr,Qw,sSat,QG,QJ,QH,QI] at *);omega)) (fun k x v hk hl hg hv hx ih=>?_) (fun hq=>?_) (R_eq rfl)
 ·refine Qnh (fun r'=>r'=Qab (id (α:=Qb) s)) s _ _ ⟨fun _=>?_,fun h=>by simp at h;omega⟩
  simp only [Yz,Ym] at hx
  rw [Int.toNat_natCast,hg,sc1 (by omega),Q9]
  exact ⟨⟨⟨by omega,hk⟩,⟨by omega,hk⟩,by unfold QO;omega,room (by omega)⟩,ih⟩
 ·refine Qnh (fun r'=>r'=Qab (id (α:=Qb) s)) s _ _ ⟨fun h=>by simp at h,fun _=>?_⟩
  simp only [id,List.drop_zero,List.take_length,true_or,true_and,Nat.zero_add]
  exact ⟨by unfold QO;((try simp only [sPc,Qx,sOps,Qq,Qt,Qd,QB,sX,sY,sG,sD,Qr,Qw,sSat,QG,QJ,QH,QI] at *);omega),by rw [ZC];((try simp only [sPc,Qx,sOps,Qq,Qt,Qd,QB,sX,sY,sG,sD,Qr,Qw,sSat,QG,QJ,QH,QI] at *);omega),by rw [ZC];((try simp only [sPc,Qx,sOps,Qq,Qt,Qd,QB,sX,sY,sG,sD,Qr,Qw,sSat,QG,QJ,QH,QI] at *);omega),by rw [ZC];((try simp only [sPc,Qx,sOps,Qq,Qt,Qd,QB,sX,sY,sG,sD,Qr,Qw,sSat,QG,QJ,QH,QI] at *);omega),by rw [ZC];((try simp only [sPc,Qx,sOps,Qq,Qt,Qd,QB,sX,sY,sG,sD,Qr,Qw,sSat,QG,QJ,QH,QI] at *);omega),by unfold QO;((try simp only [sPc,Qx,sOps,Qq,Qt,Qd,QB,sX,sY,sG,sD,Qr,Qw,sSat,QG,QJ,QH,QI] at *);omega),by first | exact hq | trivial⟩
theorem Qia:Qh Tryz.prog QcU:=Qk fun x h=>QE4 x.1 h
def Qap (t:Qb):TRes:=zra (.a (Tup.cells Qn t))
def QjA:TRow:=Qg 44 [(.a Qn),(.c TI),(.c (.sl [TI])),(.c (.sl [TI]))] fun x=>(some (JH x.1 x.2.1 x.2.2.1 x.2.2.2.1),Qap (ZM x.1 x.2.1 x.2.2.1 x.2.2.2.1))
def QsJ:List TRow:=[Qcq,Qcf,QcA,QcH,Y0,Qcl,Qc8,QfL,Qcx,J2,QhU,Qb0]
def Qmw:TCode :=
 (zsq [(.draw [zfa 69 9 5,zld 70 69 1,zmv 71 1,zmv 72 14,zca 73 86 [72],zop 74 (.build (z0s Qz) [(0,1,71),(1,1,73)]),zop 75 (.bsl 76 Qz [74]),zop 76 (.app 70 75 76 Qz),zfa 77 9 5,zst 77 76 1] [(0,4),(1,4),(0,6),(1,6)]),(.reg [zfa 78 9 7,zst 78 (.k (.n [TI])) 1]),(.reg [zfa 79 9 11,zfa 80 79 2,zld 81 80 1,zmv 82 81,.grp 82 false [zmv 83 12] 84 83,zfa 85 9 11,zfa 86 85 2,zst 86 84 1]),(zsq [(.reg [zfa 87 4 3,zld 88 87 1,zno 89 88]),(.cond 89 (zsq [(.reg [zmv 90 13,zca 91 119 [90],zfa 92 9 8,zst 92 91 1]),(.reg [zLd 93 9 14,zst 8 93 14]),.ret]) .skip)]),(.reg [zmv 95 13,zmv 96 3,zca 97 120 [95,96],zmv 94 97,zex 98 94 0,zex 99 94 1,zmv 15 98,zmv 16 99]),(.reg [zfa 101 9 11,zfa 102 101 1,zld 103 102 1,zmv 104 15,zca 105 121 [103,104],zmv 100 105,zex 106 100 0,zex 107 100 1,zmv 17 106,zmv 18 107]),(.reg [zmv 108 17,zfa 109 9 11,zfa 110 109 1,zst 110 108 1]),(.reg [zfa 111 9 11,zfa 112 111 2,zld 113 112 1,zmv 114 113,.grp 114 false [zmv 115 16] 116 115,zmv 117 116,.grp 117 false [zmv 118 18] 119 118,zfa 120 9 11,zfa 121 120 2,zst 121 119 1]),(.reg [zLd 122 9 14,zst 8 122 14]),.ret])
def QxG:List (Nat × Md):=[(1,.one .d),(3,.one .d),(4,.b (zds 14)),(8,.b (zds 14)),(9,.b [.d,.d,.d,.d,.d,.f,.d,.d,.d,.d,.d,.d,.d,.d]),(12,.one .d),(13,.one .d),(14,.one .d)]
def QyQ:TCode:=.wk QxG Qmw
def QAO:TCode :=
 (zsq [(.reg [zop 4 (.box 63 0 14),zop 8 (.new 63 (z0s Qn))]),(.reg [zLd 19 4 14,zca 20 111 [19],zop 9 (.new 63 (z0s Qn)),zst 9 20 14]),(.reg [zLd 21 4 14,zca 22 112 [21],zop 10 (.new 26 [(.n ctOp)]),zst 10 22 1]),(zsq [(.reg [zLd 23 4 14,zca 24 113 [23],zno 25 24,zmv 26 25,.grp 26 false [zmv 27 2,zLd 28 10 1,zca 29 115 [28],zca 30 114 [27,29],zno 31 30] 32 31,zmv 33 32,.grp 33 false [zfa 34 4 5,zld 35 34 1,zmv 36 1,zca 37 116 [35,36],zbi 38 .geq 37 (zki 0)] 39 38]),(.cond 39 (zsq [(.reg [zLd 40 9 14,zst 8 40 14]),.ret]) .skip)]),(zsq [(.reg [zfa 41 4 3,zld 42 41 1,zmv 43 42,.grp 43 true [zmv 44 3,zLd 45 10 1,zca 46 117 [45],zca 47 114 [44,46],zno 48 47] 49 48]),(.cond 49 (zsq [(.reg [zLd 50 9 14,zst 8 50 14]),.ret]) .skip)]),(.reg [zLd 52 10 1,zmv 53 2,zca 54 118 [52,53],zmv 51 54,zex 55 51 0,zex 56 51 1,zmv 11 55,zmv 12 56]),(.reg [zmv 57 11,zfa 58 4 2,zld 59 58 1,zle 60 59,zia 61 57 60 [(.sl [TI])],zfa 62 61 0,zld 63 62 1,zmv 13 63]),(.reg [zmv 64 11,zmv 14 64]),(zsq [(.reg [zfa 65 4 4,zld 66 65 1]),(.cond 66 (.reg [zmv 67 11,zop 68 (.slc 67 none (some (zki 1)) [(.sl [TI])]),zmv 14 68]) .skip)]),QyQ])
def QpM:List (ARv × Md):=[(.l 8 14 true,.b (zds 14))]
def Qxo:Qc:=TQ 0 0 QpM K
@[irreducible] def QeY (s:Qb) (m:Int) (x:List Int) (t:List Int) (kept:List (List Int)):Prop:=let z1:=id (α:=Qb) s
 let z2:=List.take ((z1.2.2.2.2.2.1).length) (z1.2.2.2.2.2.1)
 tawp QsJ 0 Qmw (Qxo K) ⟨[(1,(zci m)),(3,(zcs [TI] t)),(4,(.p 0 0 0)),(8,(.p 1 0 0)),(9,(.p 3 0 0)),(12,(zcb ((Yt (Zk s) x).2))),(13,(zcs [TI] (gtd ([]:List Int) ((Yt (Zk s) x).1) (Int.toNat ((s.2.2.1).length:Int))))),(14,(zcs [(.sl [TI])] kept))],[(0,(.box (Tup.cells Qn s))),(1,(.box (Tup.cells Qn ((0:Int),[],[],false,false,[],[],[],[],[],[],[],(0:Int),false)))),(2,(.sl 76 Qz true z2)),(3,(.box [(zci (z1.1)),(zcs QE (z1.2.1)),(zcs ctOp (z1.2.2.1)),(zcb (z1.2.2.2.1)),(zcb (z1.2.2.2.2.1)),(.r Qz 2 0 (z2.length)),(zcs [(.sl [TI])] (z1.2.2.2.2.2.2.1)),(zcs [TI] (z1.2.2.2.2.2.2.2.1)),(zcs [TI] (z1.2.2.2.2.2.2.2.2.1)),(zcs [TI] (z1.2.2.2.2.2.2.2.2.2.1)),(zcs [TI] (z1.2.2.2.2.2.2.2.2.2.2.1)),(zcs [(.sl [TI])] (z1.2.2.2.2.2.2.2.2.2.2.2.1)),(zci (z1.2.2.2.2.2.2.2.2.2.2.2.2.1)),(zcb (z1.2.2.2.2.2.2.2.2.2.2.2.2.2))]))],4⟩
theorem QAf (s:Qb) (m:Int) (x:List Int) (t:List Int) (kept:List (List Int)) (h :
 let z2:=id (α:=Qb) s
 let z1:=List.take ((z2.2.2.2.2.2.1).length) (z2.2.2.2.2.2.1)
 let z5:=Yt (Zk s) x
 let z3:=gtd ([]:List Int) (z5.1) (Int.toNat ((s.2.2.1).length:Int))
 let z4:=QT (z2.2.2.2.2.2.2.2.2.2.2.2.2.1) ((ZS z3 t).1)
 (((QO (α:=List (List Int)) kept)∧((z1.length=z1.length∨z1.length+1≤z1.length)∧z1.length+1≤big))∧(zif (!s.2.2.2.1) ((QO (α:=List Int) z3)∧K (Qap (z2.1,z2.2.1,z2.2.2.1,z2.2.2.2.1,z2.2.2.2.2.1,(List.take (z1.length+1) (List.drop 0 ((List.take (z1.length) z1)++([(m,(id (α:=List (List Int)) kept))])))),z2.2.2.2.2.2.2.1,[],(List.take ((id (α:=List Int) z3).length) (List.drop 0 (id (α:=List Int) z3))),z2.2.2.2.2.2.2.2.2.2.1,z2.2.2.2.2.2.2.2.2.2.2.1,z2.2.2.2.2.2.2.2.2.2.2.2.1,z2.2.2.2.2.2.2.2.2.2.2.2.2.1,((z2.2.2.2.2.2.2.2.2.2.2.2.2.2)||(z5.2))))) (K (Qap (z2.1,z2.2.1,z2.2.2.1,z2.2.2.2.1,z2.2.2.2.2.1,(List.take (z1.length+1) (List.drop 0 ((List.take (z1.length) z1)++([(m,(id (α:=List (List Int)) kept))])))),z2.2.2.2.2.2.2.1,[],z2.2.2.2.2.2.2.2.2.1,z2.2.2.2.2.2.2.2.2.2.1,z2.2.2.2.2.2.2.2.2.2.2.1,z2.2.2.2.2.2.2.2.2.2.2.2.1,z4.1,((((z2.2.2.2.2.2.2.2.2.2.2.2.2.2)||(z5.2))||((ZS z3 t).2))||(z4.2)))))))):Hold (QeY K s m x t kept) :=
 Hold.of (by kernel_rfl) h
theorem QF0 (s:Qb) (m:Int) (x:List Int) (t:List Int) (h :
 let z1:=id (α:=Qb) s
 let z2:=Yt (Zk s) x
 let z3:=List.take ((z1.2.2.2.2.2.1).length) (List.drop 0 (z1.2.2.2.2.2.1))
 ((QO (α:=Qb) s)∧(zif (((!(Qv s))||(!(Qf x (QV (Zk s)))))||(decide ((Qo s.2.2.2.2.2.1 m)≥(0:Int)))) (K (Qap (z1.1,z1.2.1,z1.2.2.1,z1.2.2.2.1,z1.2.2.2.2.1,z3,z1.2.2.2.2.2.2.1,z1.2.2.2.2.2.2.2.1,z1.2.2.2.2.2.2.2.2.1,z1.2.2.2.2.2.2.2.2.2.1,z1.2.2.2.2.2.2.2.2.2.2.1,z1.2.2.2.2.2.2.2.2.2.2.2.1,z1.2.2.2.2.2.2.2.2.2.2.2.2.1,z1.2.2.2.2.2.2.2.2.2.2.2.2.2))) (zif (s.2.2.2.1&&(!(Qf t (QP (Zk s))))) (K (Qap (z1.1,z1.2.1,z1.2.2.1,z1.2.2.2.1,z1.2.2.2.2.1,z3,z1.2.2.2.2.2.2.1,z1.2.2.2.2.2.2.2.1,z1.2.2.2.2.2.2.2.2.1,z1.2.2.2.2.2.2.2.2.2.1,z1.2.2.2.2.2.2.2.2.2.2.1,z1.2.2.2.2.2.2.2.2.2.2.2.1,z1.2.2.2.2.2.2.2.2.2.2.2.2.1,z1.2.2.2.2.2.2.2.2.2.2.2.2.2))) (((0:Int)≤((s.2.2.1).length:Int)∧Int.toNat ((s.2.2.1).length:Int)<(z2.1).length)∧(zif s.2.2.2.2.1 (((0:Int)≤(0:Int)∧(0:Int)≤(1:Int)∧(1:Int)≤((z2.1).length:Int))∧(QeY K s m x t (List.take (Int.toNat (1:Int)-Int.toNat (0:Int)) (List.drop (Int.toNat (0:Int)) (z2.1))))) (QeY K s m x t (z2.1)))))))):Hold (tawp QsJ (0+0) QAO (TQ 0 0 QpM K) (Qe [(.a (Tup.cells Qn s)),(.c TI m),(.c (.sl [TI]) x),(.c (.sl [TI]) t)])) :=
 Hold.of (by kernel_rfl) h
theorem QEi (s:Qb) (m:Int) (x:List Int) (t:List Int) (hp:JH s m x t):TCon Tryz.prog 44 [(.a (Tup.cells Qn s)),(.c TI m),(.c (.sl [TI]) x),(.c (.sl [TI]) t)] (Qap (ZM s m x t)):=by
 refine Ql rfl fun hb=>tcg (n:=123) (sg:=QjA.sg) Qi (TOk.cons Qi0 (TOk.cons Qf4 (TOk.cons Qh7 (TOk.cons Qkn (TOk.cons Js (TOk.cons QiV (TOk.cons Qk7 (TOk.cons QrR (TOk.cons Qi7 (TOk.cons QbC (TOk.cons QEG (TOk.cons Qfk TOk.nil)))))))))))) (by kernel_rfl) (by kernel_rfl) (QF0 _ s m x t ?_)
 have hl_s_1:(s.2.1).length≤9223372036854775807:=hb.1.2.1.1
 have hl_s_2:(s.2.2.1).length≤9223372036854775807:=hb.1.2.2.1.1
 have hl_s_5:(s.2.2.2.2.2.1).length≤9223372036854775807:=hb.1.2.2.2.2.2.1.1
 have hl_s_6:(s.2.2.2.2.2.2.1).length≤9223372036854775807:=hb.1.2.2.2.2.2.2.1.1
 have hl_s_7:(s.2.2.2.2.2.2.2.1).length≤9223372036854775807:=hb.1.2.2.2.2.2.2.2.1.1
 have hl_s_8:(s.2.2.2.2.2.2.2.2.1).length≤9223372036854775807:=hb.1.2.2.2.2.2.2.2.2.1.1
 have hl_s_9:(s.2.2.2.2.2.2.2.2.2.1).length≤9223372036854775807:=hb.1.2.2.2.2.2.2.2.2.2.1.1
 have hl_s_10:(s.2.2.2.2.2.2.2.2.2.2.1).length≤9223372036854775807:=hb.1.2.2.2.2.2.2.2.2.2.2.1.1
 have hl_s_11:(s.2.2.2.2.2.2.2.2.2.2.2.1).length≤9223372036854775807:=hb.1.2.2.2.2.2.2.2.2.2.2.2.1.1
 have hl_x:x.length≤9223372036854775807:=hb.2.2.1.1
 have hl_t:t.length≤9223372036854775807:=hb.2.2.2.1.1
 conv=>zeta
 have hp':Sz.sz s≤2147483648:=hp
 have hs:=ZB s
 have l1:=JJ (Qd s)
 have e:=Qre s m x t
 simp only [id,List.drop_zero,List.take_length,true_or,true_and,Nat.zero_add,Int.toNat_natCast]
 refine ⟨hp,fun h=>R_eq ?_,fun h=>⟨fun h2=>R_eq ?_,fun h2=>?_⟩⟩
 ·rw [h] at e;rw [Qh8 (by rw [e];simp)]
 ·rw [h2] at e;rw [Qh8 (by rw [e];simp)]
 rw [h,h2] at e
 have e:Yr s m x t=true:=by simpa using e
 have e2:=e
 simp only [Yr,Bool.and_eq_true] at e2
 have hm:=Yg e2.1.1.1
 have hml:=Zw hm
 have ei:Yt (Zk s) x=Qp (sOps s) x:=Qhl hm e2.1.1.2
 have hil:=Qe5 (sOps s) x
 have hx6:=YO e2.1.1.2
 have hsz:=Qck (sOps s) x
 have hout:=Qef e
 have hgs:=Qil [] (Qp (sOps s) x).1 (sOps s).length
 have e0:Sz.sz ([]:List Int)=0:=rfl
 have key:∀ kept,kept=(if Qt s then (Qp (sOps s) x).1.take 1 else (Qp (sOps s) x).1)→QeY (fun r'=>r'=Qap (ZM s m x t)) s m x t kept:=by
  intro kept hk
  have hks:Sz.sz kept≤Sz.sz (Qp (sOps s) x).1:=by
   rw [hk];split
   ·exact Qi6 _ _
   ·exact Nat.le_refl _
  refine (QAf (fun r'=>r'=Qap (ZM s m x t)) s m x t kept ?_).h
  conv=>zeta
  rw [ei]
  simp only [id,List.drop_zero,List.take_length,true_or,true_and,Nat.zero_add,Int.toNat_natCast,Q9]
  refine ⟨⟨by unfold QO;((try simp only [sPc,Qx,sOps,Qq,Qt,Qd,QB,sX,sY,sG,sD,Qr,Qw,sSat,QG,QJ,QH,QI] at *);omega),by rw [ZC];((try simp only [sPc,Qx,sOps,Qq,Qt,Qd,QB,sX,sY,sG,sD,Qr,Qw,sSat,QG,QJ,QH,QI] at *);omega)⟩,fun hl=>⟨by unfold QO;((try simp only [sPc,Qx,sOps,Qq,Qt,Qd,QB,sX,sY,sG,sD,Qr,Qw,sSat,QG,QJ,QH,QI] at *);omega),R_eq ?_⟩,fun hl=>R_eq ?_⟩
  ·have hl:s.2.2.2.1=false:=by simpa using hl
   rw [hout,← hk]
   simp only [Qq,hl]
   simp [List.take_of_length_le]
  ·have hl:s.2.2.2.1=true:=by simpa using hl
   rw [hout,← hk]
   simp only [Qq,hl]
   simp [Bool.or_assoc,List.take_of_length_le]
 rw [ei]
 refine ⟨⟨by omega,by ((try simp only [sPc,Qx,sOps,Qq,Qt,Qd,QB,sX,sY,sG,sD,Qr,Qw,sSat,QG,QJ,QH,QI] at *);omega)⟩,fun hr=>⟨by ((try simp only [sPc,Qx,sOps,Qq,Qt,Qd,QB,sX,sY,sG,sD,Qr,Qw,sSat,QG,QJ,QH,QI] at *);omega),key _ ?_⟩,fun hr=>key _ ?_⟩
 ·rw [if_pos hr];rfl
 ·rw [if_neg (by rw [show Qt s=false from hr];simp)]
theorem QAl:Qh Tryz.prog QjA:=Qk fun x h=>QEi x.1 x.2.1 x.2.2.1 x.2.2.2.1 h
def Qaj (t:Qb):TRes:=zra (.a (Tup.cells Qn t))
def Qi8:TRow:=Qg 172 [(.a Qn),(.c TI),(.c (.sl [TI])),(.c (.sl [TI]))] fun x=>(some (JH x.1 x.2.1 x.2.2.1 x.2.2.2.1),Qaj (ZM x.1 x.2.1 x.2.2.1 x.2.2.2.1))
def QhR:List TRow:=[QcU,QbO,Ys,Qcc,Qd2,Qiy,QaB]
def QsC:TCode :=
 (zsq [(.reg [zfa 130 9 5,zld 131 130 1,zmv 132 1,zmv 133 10,zop 134 (.build (z0s Qz) [(0,1,132),(1,1,133)]),zop 135 (.bsl 76 Qz [134]),zop 136 (.app 131 135 76 Qz),zfa 137 9 5,zst 137 136 1]),(.reg [zLd 138 9 14,zst 8 138 14]),.ret])
def Qz4:List (Nat × Md):=[(1,.one .d),(8,.b (zds 14)),(9,.b [.d,.d,.d,.d,.d,.f,.d,.d,.d,.d,.d,.d,.d,.d]),(10,.one .d)]
def QAF:TCode:=.wk Qz4 QsC
def Qu0:TCode :=
 (zsq [(zsq [(.reg [zfa 126 4 4,zld 127 126 1]),(.cond 127 (.reg [zmv 128 10,zop 129 (.slc 128 none (some (zki 1)) [(.sl [TI])]),zmv 10 129]) .skip)]),QAF])
def QwC:List (Nat × Md):=[(1,.one .d),(4,.b (zds 14)),(8,.b (zds 14)),(9,.b [.d,.d,.d,.d,.d,.f,.d,.d,.d,.d,.d,.d,.d,.d]),(10,.one .d)]
def QCN:TCode:=.wk QwC Qu0
def QJl:TCode :=
 (zsq [(.reg [zop 4 (.box 63 0 14),zop 8 (.new 63 (z0s Qn))]),(.reg [zLd 17 4 14,zca 18 168 [17],zop 9 (.new 63 (z0s Qn)),zst 9 18 14]),(zsq [(.reg [zLd 19 4 14,zca 20 41 [19],zno 21 20,zmv 22 21,.grp 22 false [zmv 23 2,zca 24 42 [23],zno 25 24] 26 25,zmv 27 26,.grp 27 false [zmv 28 2,zle 29 28,zfa 30 4 2,zld 31 30 1,zia 32 31 (zki 0) ctOp,zfa 33 32 1,zld 34 33 1,zbi 35 .neq 29 34] 36 35,zmv 37 36,.grp 37 false [zfa 38 4 5,zld 39 38 1,zmv 40 1,zca 41 43 [39,40],zbi 42 .geq 41 (zki 0)] 43 42,zmv 44 43,.grp 44 false [zfa 45 4 3,zld 46 45 1,zmv 47 46,.grp 47 true [zmv 48 3,zca 49 42 [48],zno 50 49,zmv 51 50,.grp 51 false [zmv 52 3,zle 53 52,zfa 54 4 2,zld 55 54 1,zfa 56 4 2,zld 57 56 1,zle 58 57,zbi 59 .sub 58 (zki 1),zia 60 55 59 ctOp,zfa 61 60 2,zld 62 61 1,zbi 63 .neq 53 62] 64 63] 65 64] 66 65]),(.cond 66 (zsq [(.reg [zLd 67 9 14,zst 8 67 14]),.ret]) .skip)]),(.reg [zfa 69 4 2,zld 70 69 1,zmv 71 2,zca 72 163 [70,71],zmv 68 72,zex 73 68 0,zex 74 68 1,zmv 10 73,zmv 11 74]),(.reg [zmv 75 10,zmv 76 10,zle 77 76,zbi 78 .sub 77 (zki 1),zia 79 75 78 [(.sl [TI])],zfa 80 79 0,zld 81 80 1,zmv 12 81]),(.reg [zop 82 (.bsl 3 [TI] []),zfa 83 9 7,zst 83 82 1]),(.reg [zfa 84 4 11,zfa 85 84 2,zld 86 85 1,zmv 87 86,.grp 87 false [zmv 88 11] 89 88,zfa 90 9 11,zfa 91 90 2,zst 91 89 1]),(zsq [(.reg [zfa 92 4 3,zld 93 92 1]),(.cond 93 (zsq [(.reg [zmv 95 12,zmv 96 3,zca 97 164 [95,96],zmv 94 97,zex 98 94 0,zex 99 94 1,zmv 13 98,zmv 14 99]),(.reg [zfa 101 4 11,zfa 102 101 1,zld 103 102 1,zmv 104 13,zca 105 162 [103,104],zmv 100 105,zex 106 100 0,zex 107 100 1,zmv 15 106,zmv 16 107]),(.reg [zmv 108 15,zfa 109 9 11,zfa 110 109 1,zst 110 108 1]),(.reg [zfa 111 9 11,zfa 112 111 2,zld 113 112 1,zmv 114 113,.grp 114 false [zmv 115 14] 116 115,zmv 117 116,.grp 117 false [zmv 118 16] 119 118,zfa 120 9 11,zfa 121 120 2,zst 121 119 1])]) (.reg [zop 122 (.bsl 3 [TI] []),zmv 123 12,zop 124 (.app 122 123 3 [TI]),zfa 125 9 8,zst 125 124 1]))]),QCN])
def QrM:List (ARv × Md):=[(.l 8 14 true,.b (zds 14))]
def Qqz:Qc:=TQ 0 0 QrM K
@[irreducible] def Qfh (s:Qb) (m:Int) (y8:List Int) (y12:Int) (y13:Bool) (r:List (List Int)):Prop:=let z1:=id (α:=Qb) s
 let z2:=List.take ((z1.2.2.2.2.2.1).length) (z1.2.2.2.2.2.1)
 tawp QhR 0 QsC (Qqz K) ⟨[(1,(zci m)),(8,(.p 0 0 0)),(9,(.p 2 0 0)),(10,(zcs [(.sl [TI])] r))],[(0,(.box (Tup.cells Qn ((0:Int),[],[],false,false,[],[],[],[],[],[],[],(0:Int),false)))),(1,(.sl 76 Qz true (List.take (z2.length) z2))),(2,(.box [(zci (z1.1)),(zcs QE (z1.2.1)),(zcs ctOp (z1.2.2.1)),(zcb (z1.2.2.2.1)),(zcb (z1.2.2.2.2.1)),(.r Qz 1 0 ((List.take (z2.length) z2).length)),(zcs [(.sl [TI])] (z1.2.2.2.2.2.2.1)),(zcs [TI] ([]:List Int)),(zcs [TI] y8),(zcs [TI] (z1.2.2.2.2.2.2.2.2.2.1)),(zcs [TI] (z1.2.2.2.2.2.2.2.2.2.2.1)),(zcs [(.sl [TI])] (z1.2.2.2.2.2.2.2.2.2.2.2.1)),(zci y12),(zcb y13)]))],3⟩
@[irreducible] def Qe7 (s:Qb) (m:Int) (x:List Int) (y8:List Int) (y12:Int) (y13:Bool):Prop:=let z1:=id (α:=Qb) s
 let z2:=List.take ((z1.2.2.2.2.2.1).length) (z1.2.2.2.2.2.1)
 tawp QhR 0 Qu0 (Qqz K) ⟨[(1,(zci m)),(4,(.p 0 0 0)),(8,(.p 1 0 0)),(9,(.p 3 0 0)),(10,(zcs [(.sl [TI])] ((Qp s.2.2.1 x).1)))],[(0,(.box (Tup.cells Qn s))),(1,(.box (Tup.cells Qn ((0:Int),[],[],false,false,[],[],[],[],[],[],[],(0:Int),false)))),(2,(.sl 76 Qz true z2)),(3,(.box [(zci (z1.1)),(zcs QE (z1.2.1)),(zcs ctOp (z1.2.2.1)),(zcb (z1.2.2.2.1)),(zcb (z1.2.2.2.2.1)),(.r Qz 2 0 (z2.length)),(zcs [(.sl [TI])] (z1.2.2.2.2.2.2.1)),(zcs [TI] ([]:List Int)),(zcs [TI] y8),(zcs [TI] (z1.2.2.2.2.2.2.2.2.2.1)),(zcs [TI] (z1.2.2.2.2.2.2.2.2.2.2.1)),(zcs [(.sl [TI])] (z1.2.2.2.2.2.2.2.2.2.2.2.1)),(zci y12),(zcb y13)]))],4⟩
theorem QGa (s:Qb) (m:Int) (y8:List Int) (y12:Int) (y13:Bool) (r:List (List Int)) (h :
 let z2:=id (α:=Qb) s
 let z3:=List.take ((z2.2.2.2.2.2.1).length) (z2.2.2.2.2.2.1)
 let z1:=List.take (z3.length) z3
 (((z1.length=z1.length∨z1.length+1≤z1.length)∧z1.length+1≤big)∧K (Qaj (z2.1,z2.2.1,z2.2.2.1,z2.2.2.2.1,z2.2.2.2.2.1,(List.take (z1.length+1) (List.drop 0 ((List.take (z1.length) z1)++([(m,r)])))),z2.2.2.2.2.2.2.1,([]:List Int),y8,z2.2.2.2.2.2.2.2.2.2.1,z2.2.2.2.2.2.2.2.2.2.2.1,z2.2.2.2.2.2.2.2.2.2.2.2.1,y12,y13)))):Hold (Qfh K s m y8 y12 y13 r) :=
 Hold.of (by kernel_rfl) h
theorem Qwu (s:Qb) (m:Int) (x:List Int) (y8:List Int) (y12:Int) (y13:Bool) (h :
 (zif s.2.2.2.2.1 (((0:Int)≤(0:Int)∧(0:Int)≤(1:Int)∧(1:Int)≤(((Qp s.2.2.1 x).1).length:Int))∧(Qfh K s m y8 y12 y13 (List.take (Int.toNat (1:Int)-Int.toNat (0:Int)) (List.drop (Int.toNat (0:Int)) ((Qp s.2.2.1 x).1))))) (Qfh K s m y8 y12 y13 ((Qp s.2.2.1 x).1)))):Hold (Qe7 K s m x y8 y12 y13) :=
 Hold.of (by kernel_rfl) h
theorem Qza (s:Qb) (m:Int) (x:List Int) (t:List Int) (h :
 let z2:=id (α:=Qb) s
 let z3:=Qp s.2.2.1 x
 let z1:=gtd ([]:List Int) (z3.1) (Int.toNat (w64 (((z3.1).length:Int)-(1:Int))))
 let z4:=QT s.2.2.2.2.2.2.2.2.2.2.2.2.1 ((ZS z1 t).1)
 let z5:=w64 (((s.2.2.1).length:Int)-(1:Int))
 ((QO (α:=Qb) s)∧((((!((!(Qv s))||(!(Qu x))))=true→((0:Int)≤(0:Int)∧Int.toNat (0:Int)<(s.2.2.1).length))∧((!((((!(Qv s))||(!(Qu x)))||((x.length:Int) != ((gtd dOp s.2.2.1 (Int.toNat (0:Int))).2.1)))||(decide ((Qo s.2.2.2.2.2.1 m)≥(0:Int)))))=true→(s.2.2.2.1=true→((!(!(Qu t)))=true→((0:Int)≤w64 (((s.2.2.1).length:Int)-(1:Int))∧Int.toNat z5<(s.2.2.1).length)))))∧(zif (((((!(Qv s))||(!(Qu x)))||((x.length:Int) != ((gtd dOp s.2.2.1 (Int.toNat (0:Int))).2.1)))||(decide ((Qo s.2.2.2.2.2.1 m)≥(0:Int))))||(s.2.2.2.1&&((!(Qu t))||((t.length:Int) != ((gtd dOp s.2.2.1 (Int.toNat z5)).2.2.1))))) (K (Qaj (z2.1,z2.2.1,z2.2.2.1,z2.2.2.2.1,z2.2.2.2.2.1,(List.take ((z2.2.2.2.2.2.1).length) (List.drop 0 (z2.2.2.2.2.2.1))),z2.2.2.2.2.2.2.1,z2.2.2.2.2.2.2.2.1,z2.2.2.2.2.2.2.2.2.1,z2.2.2.2.2.2.2.2.2.2.1,z2.2.2.2.2.2.2.2.2.2.2.1,z2.2.2.2.2.2.2.2.2.2.2.2.1,z2.2.2.2.2.2.2.2.2.2.2.2.2.1,z2.2.2.2.2.2.2.2.2.2.2.2.2.2))) ((Qez s.2.2.1 x)∧(((0:Int)≤w64 (((z3.1).length:Int)-(1:Int))∧Int.toNat (w64 (((z3.1).length:Int)-(1:Int)))<(z3.1).length)∧(zif s.2.2.2.1 (Qe7 K s m x (z2.2.2.2.2.2.2.2.2.1) (z4.1) (((s.2.2.2.2.2.2.2.2.2.2.2.2.2||(z3.2))||((ZS z1 t).2))||(z4.2))) (((0=0∨0+z1.length≤0)∧0+z1.length≤big)∧(Qe7 K s m x (List.take (0+z1.length) (List.drop 0 z1)) (z2.2.2.2.2.2.2.2.2.2.2.2.2.1) (s.2.2.2.2.2.2.2.2.2.2.2.2.2||(z3.2))))))))))):Hold (tawp QhR (0+0) QJl (TQ 0 0 QrM K) (Qe [(.a (Tup.cells Qn s)),(.c TI m),(.c (.sl [TI]) x),(.c (.sl [TI]) t)])) :=
 Hold.of (by kernel_rfl) h
theorem Qwo (s:Qb) (m:Int) (x:List Int) (t:List Int) (hp:JH s m x t):TCon Tryz.prog 172 [(.a (Tup.cells Qn s)),(.c TI m),(.c (.sl [TI]) x),(.c (.sl [TI]) t)] (Qaj (ZM s m x t)):=by
 refine Ql rfl fun hb=>tcg (n:=139) (sg:=Qi8.sg) Qi (TOk.cons Qia (TOk.cons Qey (TOk.cons YF (TOk.cons Qgj (TOk.cons Qpu (TOk.cons QDu (TOk.cons Qdn TOk.nil))))))) (by kernel_rfl) (by kernel_rfl) (Qza _ s m x t ?_)
 have hl_s_1:(s.2.1).length≤9223372036854775807:=hb.1.2.1.1
 have hl_s_2:(s.2.2.1).length≤9223372036854775807:=hb.1.2.2.1.1
 have hl_s_5:(s.2.2.2.2.2.1).length≤9223372036854775807:=hb.1.2.2.2.2.2.1.1
 have hl_s_6:(s.2.2.2.2.2.2.1).length≤9223372036854775807:=hb.1.2.2.2.2.2.2.1.1
 have hl_s_7:(s.2.2.2.2.2.2.2.1).length≤9223372036854775807:=hb.1.2.2.2.2.2.2.2.1.1
 have hl_s_8:(s.2.2.2.2.2.2.2.2.1).length≤9223372036854775807:=hb.1.2.2.2.2.2.2.2.2.1.1
 have hl_s_9:(s.2.2.2.2.2.2.2.2.2.1).length≤9223372036854775807:=hb.1.2.2.2.2.2.2.2.2.2.1.1
 have hl_s_10:(s.2.2.2.2.2.2.2.2.2.2.1).length≤9223372036854775807:=hb.1.2.2.2.2.2.2.2.2.2.2.1.1
 have hl_s_11:(s.2.2.2.2.2.2.2.2.2.2.2.1).length≤9223372036854775807:=hb.1.2.2.2.2.2.2.2.2.2.2.2.1.1
 have hl_x:x.length≤9223372036854775807:=hb.2.2.1.1
 have hl_t:t.length≤9223372036854775807:=hb.2.2.2.1.1
 conv=>zeta
 have hp':Sz.sz s≤2147483648:=hp
 have hs:=ZB s
 have l1:=JJ (Qd s)
 simp only [id,List.drop_zero,List.take_length,true_or,true_and,Nat.zero_add]
 have hk0:Qv s=true→Int.toNat (w64 ((s.2.2.1.length:Int)-1))=s.2.2.1.length-1∧0≤w64 ((s.2.2.1.length:Int)-1)∧1≤s.2.2.1.length:=by
  intro h
  have:=Zw (Yg h)
  rw [Qs (by ((try simp only [sPc,Qx,sOps,Qq,Qt,Qd,QB,sX,sY,sG,sD,Qr,Qw,sSat,QG,QJ,QH,QI] at *);omega)) (by ((try simp only [sPc,Qx,sOps,Qq,Qt,Qd,QB,sX,sY,sG,sD,Qr,Qw,sSat,QG,QJ,QH,QI] at *);omega))];((try simp only [sPc,Qx,sOps,Qq,Qt,Qd,QB,sX,sY,sG,sD,Qr,Qw,sSat,QG,QJ,QH,QI] at *);omega)
 have e:=QBj s m x t (Int.toNat (w64 ((s.2.2.1.length:Int)-1))) (fun h=>(hk0 h).1)
 have hb:∀ {b x:Bool},(!((!b)||x))=true→b=true:=by intro b x h;cases b <;> simp_all
 refine ⟨hp,⟨fun h=>⟨by omega,?_⟩,fun h _ _=>?_⟩,fun h=>R_eq ?_,fun h=>?_⟩
 ·have:=hk0 (hb h)
  simp;((try simp only [sPc,Qx,sOps,Qq,Qt,Qd,QB,sX,sY,sG,sD,Qr,Qw,sSat,QG,QJ,QH,QI] at *);omega)
 ·have h:Qv s=true:=by
   cases hh:Qv s
   ·rw [hh] at h;simp at h
   ·rfl
  have:=hk0 h
  exact ⟨this.2.1,by ((try simp only [sPc,Qx,sOps,Qq,Qt,Qd,QB,sX,sY,sG,sD,Qr,Qw,sSat,QG,QJ,QH,QI] at *);omega)⟩
 ·have e:(!Yr s m x t)=true:=e ▸ h
  simp only [Bool.not_eq_true'] at e
  rw [Qh8 (by rw [e];simp)]
 have e:(!Yr s m x t)=false:=e ▸ h
 have e:Yr s m x t=true:=by simpa using e
 have e2:=e
 simp only [Yr,Bool.and_eq_true] at e2
 have hm:=Yg e2.1.1.1
 have hml:=Zw hm
 have hil:=Qe5 (sOps s) x
 have hx6:=YO e2.1.1.2
 have hsz:=Qck (sOps s) x
 have hout:=Qef e
 have hw:w64 (((Qp (sOps s) x).1.length:Int)-1)=((sOps s).length:Nat):=by rw [hil,Qs (by ((try simp only [sPc,Qx,sOps,Qq,Qt,Qd,QB,sX,sY,sG,sD,Qr,Qw,sSat,QG,QJ,QH,QI] at *);omega)) (by ((try simp only [sPc,Qx,sOps,Qq,Qt,Qd,QB,sX,sY,sG,sD,Qr,Qw,sSat,QG,QJ,QH,QI] at *);omega))];((try simp only [sPc,Qx,sOps,Qq,Qt,Qd,QB,sX,sY,sG,sD,Qr,Qw,sSat,QG,QJ,QH,QI] at *);omega)
 have hgs:=Qil [] (Qp (sOps s) x).1 (sOps s).length
 have hgi:=ZF (gtd [] (Qp (sOps s) x).1 (sOps s).length)
 have e0:Sz.sz ([]:List Int)=0:=rfl
 have k1:∀ y8 y12 y13,y8=(if Qq s then sY s else gtd [] (Qp (sOps s) x).1 (sOps s).length) →
   y12=(if Qq s then (QT (Qw s) (ZS (gtd [] (Qp (sOps s) x).1 (sOps s).length) t).1).1 else Qw s) →
   y13=(sSat s||(Qp (sOps s) x).2||(Qq s&&((ZS (gtd [] (Qp (sOps s) x).1 (sOps s).length) t).2||(QT (Qw s) (ZS (gtd [] (Qp (sOps s) x).1 (sOps s).length) t).1).2)))→Qe7 (fun r'=>r'=Qaj (ZM s m x t)) s m x y8 y12 y13:=by
  intro y8 y12 y13 h1 h2 h3
  have k2:∀ r,r=(if Qt s then (Qp (sOps s) x).1.take 1 else (Qp (sOps s) x).1)→Qfh (fun r'=>r'=Qaj (ZM s m x t)) s m y8 y12 y13 r:=by
   intro r hr
   refine (QGa (fun r'=>r'=Qaj (ZM s m x t)) s m y8 y12 y13 r ?_).h
   conv=>zeta
   simp only [id,List.drop_zero,List.take_length,true_or,true_and,Nat.zero_add,Q9]
   refine ⟨by rw [ZC];((try simp only [sPc,Qx,sOps,Qq,Qt,Qd,QB,sX,sY,sG,sD,Qr,Qw,sSat,QG,QJ,QH,QI] at *);omega),R_eq ?_⟩
   rw [hout,← hr,← h1,← h2,← h3]
   simp [List.take_of_length_le]
  refine (Qwu (fun r'=>r'=Qaj (ZM s m x t)) s m x y8 y12 y13 ⟨fun hr=>⟨by ((try simp only [sPc,Qx,sOps,Qq,Qt,Qd,QB,sX,sY,sG,sD,Qr,Qw,sSat,QG,QJ,QH,QI] at *);omega),k2 _ ?_⟩,fun hr=>k2 _ ?_⟩).h
  ·rw [if_pos hr];rfl
  ·rw [if_neg (by rw [show Qt s=false from hr];simp)]
 rw [hw]
 refine ⟨⟨by ((try simp only [sPc,Qx,sOps,Qq,Qt,Qd,QB,sX,sY,sG,sD,Qr,Qw,sSat,QG,QJ,QH,QI] at *);omega),by omega⟩,⟨by omega,by rw [Int.toNat_natCast];((try simp only [sPc,Qx,sOps,Qq,Qt,Qd,QB,sX,sY,sG,sD,Qr,Qw,sSat,QG,QJ,QH,QI] at *);omega)⟩,fun hl=>k1 _ _ _ ?_ ?_ ?_,fun hl=>⟨?_,k1 _ _ _ ?_ ?_ ?_⟩⟩
 ·rw [if_pos hl]
 ·rw [if_pos hl,Int.toNat_natCast]
 ·rw [show Qq s=true from hl,Int.toNat_natCast];simp [Bool.or_assoc]
 ·rw [Int.toNat_natCast,ZC];((try simp only [sPc,Qx,sOps,Qq,Qt,Qd,QB,sX,sY,sG,sD,Qr,Qw,sSat,QG,QJ,QH,QI] at *);omega)
 ·rw [if_neg (by rw [show Qq s=false from hl];simp),Int.toNat_natCast]
 ·rw [if_neg (by rw [show Qq s=false from hl];simp)]
 ·rw [show Qq s=false from hl];simp
theorem QAD:Qh Tryz.prog Qi8:=Qk fun x h=>Qwo x.1 x.2.1 x.2.2.1 x.2.2.2.1 h
def Qfa (t:Qb):TRes:=zra (.a (Tup.cells Qn t))
def QiT:TRow:=Qg 46 [(.a Qn),(.c TI)] fun x=>(some (Qa6 x.1 x.2.1),Qfa (Z1 x.1 x.2.1))
def Qyd:List TRow:=[Qcq,Qcl,QcA,Qcf,QfL]
def Qyx:TCode :=
 (zsq [(.reg [zop 2 (.box 63 0 14),zop 4 (.new 63 (z0s Qn))]),(.reg [zLd 7 2 14,zca 8 111 [7],zop 5 (.new 63 (z0s Qn)),zst 5 8 14]),(.reg [zfa 9 2 5,zld 10 9 1,zmv 11 1,zca 12 116 [10,11],zmv 6 12]),(zsq [(.reg [zLd 13 2 14,zca 14 113 [13],zno 15 14,zmv 16 15,.grp 16 false [zmv 17 6,zbi 18 .lss 17 (zki 0)] 19 18]),(.cond 19 (zsq [(.reg [zLd 20 5 14,zst 4 20 14]),.ret]) .skip)]),(.draw [zLd 22 2 14,zca 23 112 [22],zfa 24 2 5,zld 25 24 1,zmv 26 6,zia 27 25 26 Qz,zfa 28 27 1,zld 29 28 1,zia 30 29 (zki 0) [(.sl [TI])],zfa 31 30 0,zld 32 31 1,zca 33 118 [23,32],zmv 21 33,zex 34 21 0,zex 35 21 1,zfa 36 5 6,zst 36 34 1] [(1,2),(1,3),(1,5),(1,6),(1,7),(1,8),(1,9),(1,10)]),(.reg [zLd 37 5 14,zst 4 37 14]),.ret])
def Qz0:List (ARv × Md):=[(.l 4 14 true,.b (zds 14))]
theorem QEg (s:Qb) (m:Int) (h :
 let z1:=id (α:=Qb) s
 let z2:=Qo s.2.2.2.2.2.1 m
 let z3:=List.take ((z1.2.2.2.2.2.1).length) (List.drop 0 (z1.2.2.2.2.2.1))
 ((QO (α:=Qb) s)∧(zif ((!(Qv s))||(decide (z2<(0:Int)))) (K (Qfa (z1.1,z1.2.1,z1.2.2.1,z1.2.2.2.1,z1.2.2.2.2.1,z3,z1.2.2.2.2.2.2.1,z1.2.2.2.2.2.2.2.1,z1.2.2.2.2.2.2.2.2.1,z1.2.2.2.2.2.2.2.2.2.1,z1.2.2.2.2.2.2.2.2.2.2.1,z1.2.2.2.2.2.2.2.2.2.2.2.1,z1.2.2.2.2.2.2.2.2.2.2.2.2.1,z1.2.2.2.2.2.2.2.2.2.2.2.2.2))) ((((0:Int)≤z2∧Int.toNat z2<(s.2.2.2.2.2.1).length)∧((0:Int)≤(0:Int)∧Int.toNat (0:Int)<((gtd Zb s.2.2.2.2.2.1 (Int.toNat z2)).2).length))∧K (Qfa (z1.1,z1.2.1,z1.2.2.1,z1.2.2.2.1,z1.2.2.2.2.1,z3,(Yt (Zk s) (gtd ([]:List Int) ((gtd Zb s.2.2.2.2.2.1 (Int.toNat z2)).2) (Int.toNat (0:Int)))).1,z1.2.2.2.2.2.2.2.1,z1.2.2.2.2.2.2.2.2.1,z1.2.2.2.2.2.2.2.2.2.1,z1.2.2.2.2.2.2.2.2.2.2.1,z1.2.2.2.2.2.2.2.2.2.2.2.1,z1.2.2.2.2.2.2.2.2.2.2.2.2.1,z1.2.2.2.2.2.2.2.2.2.2.2.2.2)))))):Hold (tawp Qyd (0+0) Qyx (TQ 0 0 Qz0 K) (Qe [(.a (Tup.cells Qn s)),(.c TI m)])) :=
 Hold.of (by kernel_rfl) h
theorem QH3 (s:Qb) (m:Int) (hp:Qa6 s m):TCon Tryz.prog 46 [(.a (Tup.cells Qn s)),(.c TI m)] (Qfa (Z1 s m)):=by
 refine Ql rfl fun hb=>tcg (n:=38) (sg:=QiT.sg) Qi (TOk.cons Qi0 (TOk.cons QiV (TOk.cons Qh7 (TOk.cons Qf4 (TOk.cons QrR TOk.nil))))) (by kernel_rfl) (by kernel_rfl) (QEg _ s m ?_)
 have hl_s_1:(s.2.1).length≤9223372036854775807:=hb.1.2.1.1
 have hl_s_2:(s.2.2.1).length≤9223372036854775807:=hb.1.2.2.1.1
 have hl_s_5:(s.2.2.2.2.2.1).length≤9223372036854775807:=hb.1.2.2.2.2.2.1.1
 have hl_s_6:(s.2.2.2.2.2.2.1).length≤9223372036854775807:=hb.1.2.2.2.2.2.2.1.1
 have hl_s_7:(s.2.2.2.2.2.2.2.1).length≤9223372036854775807:=hb.1.2.2.2.2.2.2.2.1.1
 have hl_s_8:(s.2.2.2.2.2.2.2.2.1).length≤9223372036854775807:=hb.1.2.2.2.2.2.2.2.2.1.1
 have hl_s_9:(s.2.2.2.2.2.2.2.2.2.1).length≤9223372036854775807:=hb.1.2.2.2.2.2.2.2.2.2.1.1
 have hl_s_10:(s.2.2.2.2.2.2.2.2.2.2.1).length≤9223372036854775807:=hb.1.2.2.2.2.2.2.2.2.2.2.1.1
 have hl_s_11:(s.2.2.2.2.2.2.2.2.2.2.2.1).length≤9223372036854775807:=hb.1.2.2.2.2.2.2.2.2.2.2.2.1.1
 conv=>zeta
 have hp':Sz.sz s≤2147483648:=hp
 simp only [id,List.drop_zero,List.take_length]
 rw [Qec]
 refine ⟨hp,fun h=>R_eq ?_,fun h=>?_⟩
 ·simp only [Bool.not_eq_true'] at h
  rw [QsR (by rw [h];simp)]
 have h:(Qv s&&decide (0≤Qo (Qd s) m))=true:=by simpa using h
 have h':=h
 simp only [Bool.and_eq_true,decide_eq_true_eq] at h'
 have hf:=Qcy (Qd s) m
 have hk:(Qo (Qd s) m).toNat<(Qd s).length:=by omega
 have hr:=Qkz h'.1 (Qjv h'.1 _ (JZ hk Zb))
 have ei:Yt (Zk s) (gtd [] (gtd Zb s.2.2.2.2.2.1 (Qo s.2.2.2.2.2.1 m).toNat).2 0)=Qp (sOps s) (gtd [] (gtd Zb s.2.2.2.2.2.1 (Qo s.2.2.2.2.2.1 m).toNat).2 0):=Qhl (Yg h'.1) hr.2.2
 refine ⟨⟨⟨h'.2,hk⟩,⟨by omega,hr.1⟩⟩,R_eq ?_⟩
 rw [show Int.toNat (0:Int)=0 from rfl,ei]
 unfold Z1
 simp only
 rw [if_pos h]
theorem Qwk:Qh Tryz.prog QiT:=Qk fun x h=>QH3 x.1 x.2.1 h
def Qf5 (t:Qb):TRes:=zra (.a (Tup.cells Qn t))
def Qk0:TRow:=Qg 174 [(.a Qn),(.c TI)] fun x=>(some (Qa6 x.1 x.2.1),Qf5 (Z1 x.1 x.2.1))
def QCG:List TRow:=[QcU,Qcc,QbO,Qd2]
def QA2:TCode :=
 (zsq [(.reg [zop 2 (.box 63 0 14),zop 4 (.new 63 (z0s Qn))]),(.reg [zLd 9 2 14,zca 10 168 [9],zop 5 (.new 63 (z0s Qn)),zst 5 10 14]),(.reg [zfa 11 2 5,zld 12 11 1,zmv 13 1,zca 14 43 [12,13],zmv 6 14]),(zsq [(.reg [zLd 15 2 14,zca 16 41 [15],zno 17 16,zmv 18 17,.grp 18 false [zmv 19 6,zbi 20 .lss 19 (zki 0)] 21 20]),(.cond 21 (zsq [(.reg [zLd 22 5 14,zst 4 22 14]),.ret]) .skip)]),(.draw [zfa 24 2 2,zld 25 24 1,zfa 26 2 5,zld 27 26 1,zmv 28 6,zia 29 27 28 Qz,zfa 30 29 1,zld 31 30 1,zia 32 31 (zki 0) [(.sl [TI])],zfa 33 32 0,zld 34 33 1,zca 35 163 [25,34],zmv 23 35,zex 36 23 0,zex 37 23 1,zmv 7 36,zmv 8 37] []),(.reg [zmv 38 7,zfa 39 5 6,zst 39 38 1]),(.reg [zLd 40 5 14,zst 4 40 14]),.ret])
def QEy:List (ARv × Md):=[(.l 4 14 true,.b (zds 14))]
theorem QH1 (s:Qb) (m:Int) (h :
 let z1:=id (α:=Qb) s
 let z2:=Qo s.2.2.2.2.2.1 m
 let z3:=gtd ([]:List Int) ((gtd Zb s.2.2.2.2.2.1 (Int.toNat z2)).2) (Int.toNat (0:Int))
 let z4:=List.take ((z1.2.2.2.2.2.1).length) (List.drop 0 (z1.2.2.2.2.2.1))
 ((QO (α:=Qb) s)∧(zif ((!(Qv s))||(decide (z2<(0:Int)))) (K (Qf5 (z1.1,z1.2.1,z1.2.2.1,z1.2.2.2.1,z1.2.2.2.2.1,z4,z1.2.2.2.2.2.2.1,z1.2.2.2.2.2.2.2.1,z1.2.2.2.2.2.2.2.2.1,z1.2.2.2.2.2.2.2.2.2.1,z1.2.2.2.2.2.2.2.2.2.2.1,z1.2.2.2.2.2.2.2.2.2.2.2.1,z1.2.2.2.2.2.2.2.2.2.2.2.2.1,z1.2.2.2.2.2.2.2.2.2.2.2.2.2))) ((((0:Int)≤z2∧Int.toNat z2<(s.2.2.2.2.2.1).length)∧(((0:Int)≤(0:Int)∧Int.toNat (0:Int)<((gtd Zb s.2.2.2.2.2.1 (Int.toNat z2)).2).length)∧(Qez s.2.2.1 z3)))∧K (Qf5 (z1.1,z1.2.1,z1.2.2.1,z1.2.2.2.1,z1.2.2.2.2.1,z4,(Qp s.2.2.1 z3).1,z1.2.2.2.2.2.2.2.1,z1.2.2.2.2.2.2.2.2.1,z1.2.2.2.2.2.2.2.2.2.1,z1.2.2.2.2.2.2.2.2.2.2.1,z1.2.2.2.2.2.2.2.2.2.2.2.1,z1.2.2.2.2.2.2.2.2.2.2.2.2.1,z1.2.2.2.2.2.2.2.2.2.2.2.2.2)))))):Hold (tawp QCG (0+0) QA2 (TQ 0 0 QEy K) (Qe [(.a (Tup.cells Qn s)),(.c TI m)])) :=
 Hold.of (by kernel_rfl) h
theorem QBO (s:Qb) (m:Int) (hp:Qa6 s m):TCon Tryz.prog 174 [(.a (Tup.cells Qn s)),(.c TI m)] (Qf5 (Z1 s m)):=by
 refine Ql rfl fun hb=>tcg (n:=41) (sg:=Qk0.sg) Qi (TOk.cons Qia (TOk.cons Qgj (TOk.cons Qey (TOk.cons Qpu TOk.nil)))) (by kernel_rfl) (by kernel_rfl) (QH1 _ s m ?_)
 have hl_s_1:(s.2.1).length≤9223372036854775807:=hb.1.2.1.1
 have hl_s_2:(s.2.2.1).length≤9223372036854775807:=hb.1.2.2.1.1
 have hl_s_5:(s.2.2.2.2.2.1).length≤9223372036854775807:=hb.1.2.2.2.2.2.1.1
 have hl_s_6:(s.2.2.2.2.2.2.1).length≤9223372036854775807:=hb.1.2.2.2.2.2.2.1.1
 have hl_s_7:(s.2.2.2.2.2.2.2.1).length≤9223372036854775807:=hb.1.2.2.2.2.2.2.2.1.1
 have hl_s_8:(s.2.2.2.2.2.2.2.2.1).length≤9223372036854775807:=hb.1.2.2.2.2.2.2.2.2.1.1
 have hl_s_9:(s.2.2.2.2.2.2.2.2.2.1).length≤9223372036854775807:=hb.1.2.2.2.2.2.2.2.2.2.1.1
 have hl_s_10:(s.2.2.2.2.2.2.2.2.2.2.1).length≤9223372036854775807:=hb.1.2.2.2.2.2.2.2.2.2.2.1.1
 have hl_s_11:(s.2.2.2.2.2.2.2.2.2.2.2.1).length≤9223372036854775807:=hb.1.2.2.2.2.2.2.2.2.2.2.2.1.1
 conv=>zeta
 have hp':Sz.sz s≤2147483648:=hp
 simp only [id,List.drop_zero,List.take_length]
 rw [Qec]
 refine ⟨hp,fun h=>R_eq ?_,fun h=>?_⟩
 ·simp only [Bool.not_eq_true'] at h
  rw [QsR (by rw [h];simp)]
 have h:(Qv s&&decide (0≤Qo (Qd s) m))=true:=by simpa using h
 have h':=h
 simp only [Bool.and_eq_true,decide_eq_true_eq] at h'
 have hf:=Qcy (Qd s) m
 have hk:(Qo (Qd s) m).toNat<(Qd s).length:=by omega
 have hr:=Qkz h'.1 (Qjv h'.1 _ (JZ hk Zb))
 have hv:=YO hr.2.2
 have hml:=Zw (Yg h'.1)
 refine ⟨⟨⟨h'.2,hk⟩,⟨by omega,hr.1⟩,⟨by ((try simp only [sPc,Qx,sOps,Qq,Qt,Qd,QB,sX,sY,sG,sD,Qr,Qw,sSat,QG,QJ,QH,QI] at *);omega),Nat.le_trans hv (by omega)⟩⟩,R_eq ?_⟩
 rw [show Int.toNat (0:Int)=0 from rfl]
 unfold Z1
 simp only
 rw [if_pos h]
theorem QAj:Qh Tryz.prog Qk0:=Qk fun x h=>QBO x.1 x.2.1 h
def Jj (t:Qb):TRes:=zra (.a (Tup.cells Qn t))
def QiW:TRow:=Qg 48 [(.a Qn),(.c TI),(.c (.sl [TI]))] fun x=>(some (JR x.1 x.2.1 x.2.2.1),Jj (Zg x.1 x.2.1 x.2.2.1))
def Qh5:List TRow:=[Qcq,Qcl,QcA,QdE,QfA,Qcf,Qc8,Y0,Qhp,Qk8]
def QpN:TCode :=
 (zsq [(zsq [(.reg [zmv 70 11,zLd 71 3 14,zca 72 112 [71],zca 73 117 [72],zca 74 114 [70,73],zno 75 74]),(.cond 75 (zsq [(.reg [zLd 76 7 14,zst 6 76 14]),.ret]) .skip)]),(.reg [zfa 78 3 2,zld 79 78 1,zmv 80 9,zmv 81 11,zca 82 125 [79,80,81],zmv 77 82,zex 83 77 0,zex 84 77 1,zex 85 77 2,zmv 13 83,zmv 11 84,zmv 14 85]),(.reg [zfa 86 7 11,zLd 87 86 3,zmv 88 13,zmv 89 12,zmv 90 89,.grp 90 false [zmv 91 14] 92 91,zop 93 (.build (z0s QW) [(0,1,88),(2,1,92)]),zca 94 89 [87,93],zfa 95 7 11,zst 95 94 3]),(.reg [zmv 96 11,zfa 97 7 10,zst 97 96 1]),(.reg [zfa 98 7 9,zst 98 (.k (.n [TI])) 1]),(.reg [zfa 99 7 6,zst 99 (.k (.n [(.sl [TI])])) 1]),(.draw [zfa 100 7 5,zld 101 100 1,zmv 102 8,zop 103 (.slc 101 none (some 102) Qz),zfa 104 7 5,zld 105 104 1,zmv 106 8,zbi 107 .add 106 (zki 1),zop 108 (.slc 105 (some 107) none Qz),zop 109 (.app 103 108 76 Qz),zfa 110 7 5,zst 110 109 1] []),(.reg [zLd 111 7 14,zst 6 111 14]),.ret])
def Qys:List (Nat × Md):=[(3,.b (zds 14)),(6,.b (zds 14)),(7,.b [.d,.d,.d,.d,.d,.f,.d,.d,.d,.d,.d,.d,.d,.d]),(8,.one .d),(9,.one .d),(11,.one .d),(12,.one .d)]
def QCJ:TCode:=.wk Qys QpN
def Qty:TCode :=
 (zsq [(.reg [zfa 39 3 2,zld 40 39 1,zle 41 40,zmv 10 41]),(zsq [(.reg [zmv 42 9,zle 43 42,zmv 44 10,zbi 45 .add 44 (zki 1),zbi 46 .neq 43 45,zmv 47 46,.grp 47 false [zfa 48 3 2,zld 49 48 1,zmv 50 9,zmv 51 10,zca 52 123 [49,50,51],zno 53 52] 54 53]),(.cond 54 (zsq [(.reg [zLd 55 7 14,zst 6 55 14]),.ret]) .skip)]),(.reg [zfa 56 7 9,zld 57 56 1,zmv 11 57,zmv 12 (zkb false)]),(zsq [(.reg [zfa 58 3 3,zld 59 58 1]),(.cond 59 (.reg [zmv 61 9,zmv 62 10,zia 63 61 62 [(.sl [TI])],zfa 64 63 0,zld 65 64 1,zmv 66 2,zca 67 124 [65,66],zmv 60 67,zex 68 60 0,zex 69 60 1,zmv 11 68,zmv 12 69]) .skip)]),QCJ])
def QIh:List (Nat × Md):=[(2,.one .d),(3,.b (zds 14)),(6,.b (zds 14)),(7,.b [.d,.d,.d,.d,.d,.f,.d,.d,.d,.d,.d,.d,.d,.d]),(8,.one .d),(9,.one .d)]
def QxS:TCode:=.wk QIh Qty
def QIk:TCode :=
 (zsq [(.reg [zop 3 (.box 63 0 14),zop 6 (.new 63 (z0s Qn))]),(.reg [zLd 15 3 14,zca 16 111 [15],zop 7 (.new 63 (z0s Qn)),zst 7 16 14]),(.reg [zfa 17 3 5,zld 18 17 1,zmv 19 1,zca 20 116 [18,19],zmv 8 20]),(zsq [(.reg [zLd 21 3 14,zca 22 113 [21],zno 23 22,zmv 24 23,.grp 24 false [zmv 25 8,zbi 26 .lss 25 (zki 0)] 27 26]),(.cond 27 (zsq [(.reg [zLd 28 7 14,zst 6 28 14]),.ret]) .skip)]),(.reg [zfa 29 7 5,zld 30 29 1,zmv 31 8,zia 32 30 31 Qz,zfa 33 32 1,zld 34 33 1,zmv 9 34]),(zsq [(.reg [zfa 35 3 4,zld 36 35 1]),(.cond 36 (.reg [zfa 37 7 6,zld 38 37 1,zmv 9 38]) .skip)]),QxS])
def QpP:List (ARv × Md):=[(.l 6 14 true,.b (zds 14))]
def QnM:Qc:=TQ 0 0 QpP K
@[irreducible] def Qfz (s:Qb) (m:Int) (rows:List (List Int)) (d:List Int) (first:Bool):Prop:=let z1:=id (α:=Qb) s
 let z2:=List.take ((z1.2.2.2.2.2.1).length) (z1.2.2.2.2.2.1)
 tawp Qh5 0 QpN (QnM K) ⟨[(3,(.p 0 0 0)),(6,(.p 1 0 0)),(7,(.p 3 0 0)),(8,(zci (Qo s.2.2.2.2.2.1 m))),(9,(zcs [(.sl [TI])] rows)),(11,(zcs [TI] d)),(12,(zcb first))],[(0,(.box (Tup.cells Qn s))),(1,(.box (Tup.cells Qn ((0:Int),[],[],false,false,[],[],[],[],[],[],[],(0:Int),false)))),(2,(.sl 76 Qz true (List.take (z2.length) z2))),(3,(.box [(zci (z1.1)),(zcs QE (z1.2.1)),(zcs ctOp (z1.2.2.1)),(zcb (z1.2.2.2.1)),(zcb (z1.2.2.2.2.1)),(.r Qz 2 0 ((List.take (z2.length) z2).length)),(zcs [(.sl [TI])] (z1.2.2.2.2.2.2.1)),(zcs [TI] (z1.2.2.2.2.2.2.2.1)),(zcs [TI] (z1.2.2.2.2.2.2.2.2.1)),(zcs [TI] (z1.2.2.2.2.2.2.2.2.2.1)),(zcs [TI] (z1.2.2.2.2.2.2.2.2.2.2.1)),(zcs [(.sl [TI])] (z1.2.2.2.2.2.2.2.2.2.2.2.1)),(zci (z1.2.2.2.2.2.2.2.2.2.2.2.2.1)),(zcb (z1.2.2.2.2.2.2.2.2.2.2.2.2.2))]))],4⟩
@[irreducible] def QeH (s:Qb) (m:Int) (t:List Int) (rows:List (List Int)):Prop:=let z1:=id (α:=Qb) s
 let z2:=List.take ((z1.2.2.2.2.2.1).length) (z1.2.2.2.2.2.1)
 tawp Qh5 0 Qty (QnM K) ⟨[(2,(zcs [TI] t)),(3,(.p 0 0 0)),(6,(.p 1 0 0)),(7,(.p 3 0 0)),(8,(zci (Qo s.2.2.2.2.2.1 m))),(9,(zcs [(.sl [TI])] rows))],[(0,(.box (Tup.cells Qn s))),(1,(.box (Tup.cells Qn ((0:Int),[],[],false,false,[],[],[],[],[],[],[],(0:Int),false)))),(2,(.sl 76 Qz true z2)),(3,(.box [(zci (z1.1)),(zcs QE (z1.2.1)),(zcs ctOp (z1.2.2.1)),(zcb (z1.2.2.2.1)),(zcb (z1.2.2.2.2.1)),(.r Qz 2 0 (z2.length)),(zcs [(.sl [TI])] (z1.2.2.2.2.2.2.1)),(zcs [TI] (z1.2.2.2.2.2.2.2.1)),(zcs [TI] (z1.2.2.2.2.2.2.2.2.1)),(zcs [TI] (z1.2.2.2.2.2.2.2.2.2.1)),(zcs [TI] (z1.2.2.2.2.2.2.2.2.2.2.1)),(zcs [(.sl [TI])] (z1.2.2.2.2.2.2.2.2.2.2.2.1)),(zci (z1.2.2.2.2.2.2.2.2.2.2.2.2.1)),(zcb (z1.2.2.2.2.2.2.2.2.2.2.2.2.2))]))],4⟩
theorem QEn (s:Qb) (m:Int) (rows:List (List Int)) (d:List Int) (first:Bool) (h :
 let z3:=id (α:=Qb) s
 let z4:=Qo s.2.2.2.2.2.1 m
 let z6:=Int.toNat z4-Int.toNat (0:Int)
 let z7:=QD s.2.2.1 rows d
 let z5:=Zo (z3.2.2.2.2.2.2.2.2.2.2.2) (z7.1,(0:Int),(first||(z7.2.2)))
 let z8:=List.take ((z3.2.2.2.2.2.1).length) (z3.2.2.2.2.2.1)
 let z1:=List.take (z8.length) z8
 let z2:=List.take (Int.toNat ((z1.length:Nat):Int)-Int.toNat (w64 (z4+(1:Int)))) (List.drop (0+Int.toNat (w64 (z4+(1:Int)))) z1)
 (zif (!(Qf d (QP (Zk s)))) (K (Jj (z3.1,z3.2.1,z3.2.2.1,z3.2.2.2.1,z3.2.2.2.2.1,(List.take (z1.length) (List.drop 0 z1)),z3.2.2.2.2.2.2.1,z3.2.2.2.2.2.2.2.1,z3.2.2.2.2.2.2.2.2.1,z3.2.2.2.2.2.2.2.2.2.1,z3.2.2.2.2.2.2.2.2.2.2.1,z3.2.2.2.2.2.2.2.2.2.2.2.1,z3.2.2.2.2.2.2.2.2.2.2.2.2.1,z3.2.2.2.2.2.2.2.2.2.2.2.2.2))) ((QbM s.2.2.1 rows d)∧((Yq (α:=QK) (β:=QK) (z3.2.2.2.2.2.2.2.2.2.2.2) (z7.1,(0:Int),(first||(z7.2.2))))∧((((0:Int)≤(0:Int)∧(0:Int)≤z4∧z4≤((z1.length:Nat):Int))∧(((0:Int)≤w64 (z4+(1:Int))∧w64 (z4+(1:Int))≤((z1.length:Nat):Int)∧((z1.length:Nat):Int)≤((z1.length:Nat):Int))∧((z6=z1.length∨z6+z2.length≤z1.length)∧z6+z2.length≤big)))∧K (Jj (z3.1,z3.2.1,z3.2.2.1,z3.2.2.2.1,z3.2.2.2.2.1,(List.take (z6+z2.length) (List.drop 0 ((List.take z6 z1)++z2))),[],z3.2.2.2.2.2.2.2.1,z3.2.2.2.2.2.2.2.2.1,[],z7.2.1,z5.1,z5.2.1,z5.2.2))))))):Hold (Qfz K s m rows d first) :=
 Hold.of (by kernel_rfl) h
theorem QJt (s:Qb) (m:Int) (t:List Int) (rows:List (List Int)) (h :
 let z1:=id (α:=Qb) s
 let z2:=QY (gtd ([]:List Int) rows (Int.toNat ((s.2.2.1).length:Int))) t
 let z3:=List.take ((z1.2.2.2.2.2.1).length) (z1.2.2.2.2.2.1)
 let z4:=w64 (((s.2.2.1).length:Int)+(1:Int))
 (((!((rows.length:Int) != z4))=true→(Qee s.2.2.1 rows ((s.2.2.1).length:Int)))∧(zif (((rows.length:Int) != z4)||(!(ZK s.2.2.1 rows ((s.2.2.1).length:Int)))) (K (Jj (z1.1,z1.2.1,z1.2.2.1,z1.2.2.2.1,z1.2.2.2.2.1,(List.take (z3.length) (List.drop 0 z3)),z1.2.2.2.2.2.2.1,z1.2.2.2.2.2.2.2.1,z1.2.2.2.2.2.2.2.2.1,z1.2.2.2.2.2.2.2.2.2.1,z1.2.2.2.2.2.2.2.2.2.2.1,z1.2.2.2.2.2.2.2.2.2.2.2.1,z1.2.2.2.2.2.2.2.2.2.2.2.2.1,z1.2.2.2.2.2.2.2.2.2.2.2.2.2))) (zif s.2.2.2.1 (((0:Int)≤((s.2.2.1).length:Int)∧Int.toNat ((s.2.2.1).length:Int)<rows.length)∧(Qfz K s m rows (z2.1) (z2.2))) (Qfz K s m rows (z1.2.2.2.2.2.2.2.2.2.1) false))))):Hold (QeH K s m t rows) :=
 Hold.of (by kernel_rfl) h
theorem QvK (s:Qb) (m:Int) (t:List Int) (h :
 ((QO (α:=Qb) s)∧(zif ((!(Qv s))||(decide ((Qo s.2.2.2.2.2.1 m)<(0:Int)))) (K (Jj ((id (α:=Qb) s).1,(id (α:=Qb) s).2.1,(id (α:=Qb) s).2.2.1,(id (α:=Qb) s).2.2.2.1,(id (α:=Qb) s).2.2.2.2.1,(List.take (((id (α:=Qb) s).2.2.2.2.2.1).length) (List.drop 0 ((id (α:=Qb) s).2.2.2.2.2.1))),(id (α:=Qb) s).2.2.2.2.2.2.1,(id (α:=Qb) s).2.2.2.2.2.2.2.1,(id (α:=Qb) s).2.2.2.2.2.2.2.2.1,(id (α:=Qb) s).2.2.2.2.2.2.2.2.2.1,(id (α:=Qb) s).2.2.2.2.2.2.2.2.2.2.1,(id (α:=Qb) s).2.2.2.2.2.2.2.2.2.2.2.1,(id (α:=Qb) s).2.2.2.2.2.2.2.2.2.2.2.2.1,(id (α:=Qb) s).2.2.2.2.2.2.2.2.2.2.2.2.2))) ((((0:Int)≤(Qo s.2.2.2.2.2.1 m)∧Int.toNat (Qo s.2.2.2.2.2.1 m)<((id (α:=Qb) s).2.2.2.2.2.1).length)∧((0+(Int.toNat (Qo s.2.2.2.2.2.1 m)))<((id (α:=Qb) s).2.2.2.2.2.1).length))∧(zif s.2.2.2.2.1 (QeH K s m t ((id (α:=Qb) s).2.2.2.2.2.2.1)) (QeH K s m t ((gtd Zb ((id (α:=Qb) s).2.2.2.2.2.1) (0+(Int.toNat (Qo s.2.2.2.2.2.1 m)))).2))))))):Hold (tawp Qh5 (0+0) QIk (TQ 0 0 QpP K) (Qe [(.a (Tup.cells Qn s)),(.c TI m),(.c (.sl [TI]) t)])) :=
 Hold.of (by kernel_rfl) h
theorem QGf (s:Qb) (m:Int) (t:List Int) (hp:JR s m t):TCon Tryz.prog 48 [(.a (Tup.cells Qn s)),(.c TI m),(.c (.sl [TI]) t)] (Jj (Zg s m t)):=by
 refine Ql rfl fun hb=>tcg (n:=112) (sg:=QiW.sg) Qi (TOk.cons Qi0 (TOk.cons QiV (TOk.cons Qh7 (TOk.cons Qtp (TOk.cons Qsq (TOk.cons Qf4 (TOk.cons Qk7 (TOk.cons Js (TOk.cons QBz (TOk.cons QBf TOk.nil)))))))))) (by kernel_rfl) (by kernel_rfl) (QvK _ s m t ?_)
 have hl_s_1:(s.2.1).length≤9223372036854775807:=hb.1.2.1.1
 have hl_s_2:(s.2.2.1).length≤9223372036854775807:=hb.1.2.2.1.1
 have hl_s_5:(s.2.2.2.2.2.1).length≤9223372036854775807:=hb.1.2.2.2.2.2.1.1
 have hl_s_6:(s.2.2.2.2.2.2.1).length≤9223372036854775807:=hb.1.2.2.2.2.2.2.1.1
 have hl_s_7:(s.2.2.2.2.2.2.2.1).length≤9223372036854775807:=hb.1.2.2.2.2.2.2.2.1.1
 have hl_s_8:(s.2.2.2.2.2.2.2.2.1).length≤9223372036854775807:=hb.1.2.2.2.2.2.2.2.2.1.1
 have hl_s_9:(s.2.2.2.2.2.2.2.2.2.1).length≤9223372036854775807:=hb.1.2.2.2.2.2.2.2.2.2.1.1
 have hl_s_10:(s.2.2.2.2.2.2.2.2.2.2.1).length≤9223372036854775807:=hb.1.2.2.2.2.2.2.2.2.2.2.1.1
 have hl_s_11:(s.2.2.2.2.2.2.2.2.2.2.2.1).length≤9223372036854775807:=hb.1.2.2.2.2.2.2.2.2.2.2.2.1.1
 have hl_t:t.length≤9223372036854775807:=hb.2.2.1.1
 have hp':Sz.sz s≤2147483648:=hp
 have hs:=ZB s
 have l1:=JJ (Qd s)
 obtain ⟨kf,hkf⟩:∃ kf,Qo s.2.2.2.2.2.1 m=kf:=⟨_,rfl⟩
 have hf:=Qcy (Qd s) m
 rw [show Qo (Qd s) m=kf from hkf] at hf
 have hno:YR s kf t=false→(Zg s m t)=s:=fun h=>Qql (by rw [show Qo (Qd s) m=kf from hkf,h];simp)
 have k2:Qv s=true→0≤kf→∀ rows d first,rows=Zt s kf→(d,first)=bwdD s kf t→((Zt s kf).length==(sOps s).length+1)=true→ZK (sOps s) (Zt s kf) (sOps s).length=true→Qfz (fun r'=>r'=Jj (Zg s m t)) s m rows d first:=by
  intro h1 h2 rows d first hr hd h3 h4
  have hb:YR s kf t=Qf d (QP (Zk s)):=by
   rw [JP,← hd,h1,h3,h4,decide_eq_true h2];rfl
  obtain ⟨kn,hkn⟩:∃ kn:Nat,kf=kn:=⟨kf.toNat,by omega⟩
  refine (QEn (fun r'=>r'=Jj (Zg s m t)) s m rows d first ?_).h
  conv=>zeta
  simp only [id,List.drop_zero,List.take_length,true_or,true_and,Nat.zero_add]
  rw [hkf,hkn]
  have hml:=Zw (Yg h1)
  refine ⟨fun h=>R_eq ?_,fun h=>?_⟩
  ·rw [hno (by rw [hb];simpa using h)]
  ·have hv:Qf d (QP (Zk s))=true:=by simpa using h
   have hok:YR s kf t=true:=by rw [hb,hv]
   have hv6:=YO hv
   rw [beq_iff_eq] at h3
   have hfit:=QtQ h1
   have hsum:Sz.sz (α:=QK) s.2.2.2.2.2.2.2.2.2.2.2≤296:=Qh0 (Yg h1) ⟨hfit.1,hfit.2⟩
   have hout:=QgF (t:=t) (rows:=rows) (d:=d) (b:=first) (by rw [show Qo (Qd s) m=kf from hkf];exact hok) (by rw [show Qo (Qd s) m=kf from hkf] ;exact hr) (by rw [show Qo (Qd s) m=kf from hkf] ;exact hd)
   have hk:kn<s.2.2.2.2.2.1.length:=by ((try simp only [sPc,Qx,sOps,Qq,Qt,Qd,QB,sX,sY,sG,sD,Qr,Qw,sSat,QG,QJ,QH,QI] at *);omega)
   have hrl:rows.length=s.2.2.1.length+1:=by rw [hr];exact h3
   have hbg:=Qlf s.2.2.1 rows d
   have hl2:(List.take (s.2.2.2.2.2.1.length-(kn+1)) (List.drop (kn+1) s.2.2.2.2.2.1)).length=s.2.2.2.2.2.1.length-(kn+1):=by simp
   rw [sc1 (by ((try simp only [sPc,Qx,sOps,Qq,Qt,Qd,QB,sX,sY,sG,sD,Qr,Qw,sSat,QG,QJ,QH,QI] at *);omega))]
   simp only [Int.toNat_natCast,show Int.toNat (0:Int)=0 from rfl,Nat.sub_zero]
   refine ⟨⟨by omega,by rw [ZC];((try simp only [sPc,Qx,sOps,Qq,Qt,Qd,QB,sX,sY,sG,sD,Qr,Qw,sSat,QG,QJ,QH,QI] at *);omega)⟩,?_,⟨⟨by omega,by omega,by omega⟩,⟨by omega,by omega,by omega⟩,?_⟩,R_eq ?_⟩
   ·unfold Yq
    simp only [QkD,Ym,YY]
    ((try simp only [sPc,Qx,sOps,Qq,Qt,Qd,QB,sX,sY,sG,sD,Qr,Qw,sSat,QG,QJ,QH,QI] at *);omega)
   ·rw [hl2,ZC];((try simp only [sPc,Qx,sOps,Qq,Qt,Qd,QB,sX,sY,sG,sD,Qr,Qw,sSat,QG,QJ,QH,QI] at *);omega)
   ·rw [QnD hk,hout,show Qo (Qd s) m=kf from hkf,hkn,Int.toNat_natCast]
 have k1:Qv s=true→0≤kf→∀ rows,rows=Zt s kf→QeH (fun r'=>r'=Jj (Zg s m t)) s m t rows:=by
  intro h1 h2 rows hr
  have hml:1≤s.2.2.1.length∧s.2.2.1.length≤8:=Zw (Yg h1)
  refine (QJt (fun r'=>r'=Jj (Zg s m t)) s m t rows ?_).h
  conv=>zeta
  simp only [id,List.drop_zero,List.take_length,true_or,true_and,Nat.zero_add,Int.toNat_natCast]
  rw [sc1 (k:=s.2.2.1.length) (by omega)]
  refine ⟨fun h=>?_,fun h=>R_eq ?_,fun h=>?_⟩
  ·simp at h
   exact ⟨by omega,by omega,by omega⟩
  ·rw [hno]
   rw [JP,← hr]
   simp only [Bool.or_eq_true,bne_iff_ne,Bool.not_eq_true'] at h
   rcases h with h | h
   ·have:(rows.length==s.2.2.1.length+1)=false:=by rw [beq_eq_false_iff_ne];omega
    simp [this]
   ·have h':ZK (sOps s) rows (sOps s).length=false:=h
    simp [h']
  ·simp only [Bool.or_eq_false_iff,bne_eq_false_iff_eq,Bool.not_eq_false'] at h
   have h3:((Zt s kf).length==(sOps s).length+1)=true:=by rw [← hr,beq_iff_eq];have:=h.1;((try simp only [sPc,Qx,sOps,Qq,Qt,Qd,QB,sX,sY,sG,sD,Qr,Qw,sSat,QG,QJ,QH,QI] at *);omega)
   have h4:ZK (sOps s) (Zt s kf) (sOps s).length=true:=by rw [← hr];exact h.2
   refine ⟨fun hl=>⟨⟨by omega,by have:=h.1;omega⟩,k2 h1 h2 _ _ _ hr ?_ h3 h4⟩,fun hl=>k2 h1 h2 _ _ _ hr ?_ h3 h4⟩
   ·unfold bwdD;rw [if_pos hl,← hr]
   ·unfold bwdD;rw [if_neg (by rw [show Qq s=false from hl];simp)]
 simp only [id,List.drop_zero,List.take_length,true_or,true_and,Nat.zero_add,Int.toNat_natCast]
 rw [Qec,show Qo (Qd s) m=kf from hkf]
 refine ⟨hp,fun h=>R_eq ?_,fun h=>?_⟩
 ·rw [hno]
  simp only [Bool.not_eq_true'] at h
  rw [JP,h];rfl
 ·simp only [Bool.not_eq_false',Bool.and_eq_true,decide_eq_true_eq] at h
  refine ⟨⟨⟨h.2,by ((try simp only [sPc,Qx,sOps,Qq,Qt,Qd,QB,sX,sY,sG,sD,Qr,Qw,sSat,QG,QJ,QH,QI] at *);omega)⟩,by ((try simp only [sPc,Qx,sOps,Qq,Qt,Qd,QB,sX,sY,sG,sD,Qr,Qw,sSat,QG,QJ,QH,QI] at *);omega)⟩,fun hr=>k1 h.1 h.2 _ ?_,fun hr=>k1 h.1 h.2 _ ?_⟩
  ·unfold Zt;rw [if_pos hr]
  ·unfold Zt;rw [if_neg (by rw [show Qt s=false from hr];simp)]
theorem QGi:Qh Tryz.prog QiW:=Qk fun x h=>QGf x.1 x.2.1 x.2.2.1 h
def Yo (t:Qb):TRes:=zra (.a (Tup.cells Qn t))
def Qlj:TRow:=Qg 175 [(.a Qn),(.c TI),(.c (.sl [TI]))] fun x=>(some (JR x.1 x.2.1 x.2.2.1),Yo (Zg x.1 x.2.1 x.2.2.1))
def Qdg:List TRow:=[QcU,Qcc,QbO,Ys,QfR,Qhw,QgQ]
def QoP:TCode :=
 (zsq [(zsq [(.reg [zmv 53 12,zfa 54 3 2,zld 55 54 1,zle 56 55,zbi 57 .lss 53 56]),(.cond 57 .skip (.exit 0))]),(.block 1 (zsq [(.draw [zmv 60 9,zmv 61 12,zia 62 60 61 [(.sl [TI])],zfa 63 62 0,zld 64 63 1,zca 65 42 [64],zno 66 65,zmv 67 66,.grp 67 false [zmv 68 9,zmv 69 12,zia 70 68 69 [(.sl [TI])],zfa 71 70 0,zld 72 71 1,zle 73 72,zfa 74 3 2,zld 75 74 1,zmv 76 12,zia 77 75 76 ctOp,zfa 78 77 1,zld 79 78 1,zbi 80 .neq 73 79] 81 80] []),(.cond 81 (zsq [(.reg [zLd 82 7 14,zst 6 82 14]),.ret]) .skip)])),(.reg [zmv 58 12,zbi 59 .add 58 (zki 1),zmv 12 59])])
def Qqq:List (Nat × Md):=[(2,.one .d),(3,.b (zds 14)),(6,.b (zds 14)),(7,.b [.d,.d,.d,.d,.d,.f,.d,.d,.d,.d,.d,.d,.d,.d]),(8,.one .d),(9,.one .d),(10,.one .d),(11,.one .d),(12,.one .d)]
def QtE:TCode :=
 (zsq [(zsq [(.reg [zmv 99 10,zle 100 99,zfa 101 3 2,zld 102 101 1,zfa 103 3 2,zld 104 103 1,zle 105 104,zbi 106 .sub 105 (zki 1),zia 107 102 106 ctOp,zfa 108 107 2,zld 109 108 1,zbi 110 .neq 100 109,zmv 111 110,.grp 111 false [zmv 112 10,zca 113 42 [112],zno 114 113] 115 114]),(.cond 115 (zsq [(.reg [zLd 116 7 14,zst 6 116 14]),.ret]) .skip)]),(.reg [zfa 118 3 2,zld 119 118 1,zmv 120 9,zmv 121 10,zca 122 166 [119,120,121],zmv 117 122,zex 123 117 0,zex 124 117 1,zex 125 117 2,zmv 15 123,zmv 16 124,zmv 17 125]),(.reg [zfa 126 3 11,zLd 127 126 3,zmv 128 15,zmv 129 11,zmv 130 129,.grp 130 false [zmv 131 17] 132 131,zop 133 (.build (z0s QW) [(0,1,128),(2,1,132)]),zca 134 84 [127,133],zop 18 (.new 46 (z0s QW)),zst 18 134 3]),(.reg [zLd 135 18 3,zfa 136 7 11,zst 136 135 3]),(.reg [zmv 137 16,zfa 138 7 10,zst 138 137 1]),(.reg [zop 139 (.bsl 3 [TI] []),zfa 140 7 9,zst 140 139 1]),(.reg [zop 141 (.bsl 129 [(.sl [TI])] []),zfa 142 7 6,zst 142 141 1]),(.draw [zfa 143 7 5,zld 144 143 1,zmv 145 8,zop 146 (.slc 144 none (some 145) Qz),zfa 147 7 5,zld 148 147 1,zmv 149 8,zbi 150 .add 149 (zki 1),zop 151 (.slc 148 (some 150) none Qz),zop 152 (.app 146 151 76 Qz),zfa 153 7 5,zst 153 152 1] []),(.reg [zLd 154 7 14,zst 6 154 14]),.ret])
def QHn:List (Nat × Md):=[(3,.b (zds 14)),(6,.b (zds 14)),(7,.b [.d,.d,.d,.d,.d,.f,.d,.d,.d,.d,.d,.d,.d,.d]),(8,.one .d),(9,.one .d),(10,.one .d),(11,.one .d)]
def QC2:TCode:=.wk QHn QtE
def QtO:TCode :=
 (zsq [(zsq [(.reg [zfa 83 3 3,zld 84 83 1]),(.cond 84 (zsq [(.reg [zmv 86 9,zfa 87 3 2,zld 88 87 1,zle 89 88,zia 90 86 89 [(.sl [TI])],zfa 91 90 0,zld 92 91 1,zmv 93 2,zca 94 165 [92,93],zmv 85 94,zex 95 85 0,zex 96 85 1,zmv 13 95,zmv 14 96]),(.reg [zmv 97 13,zmv 10 97]),(.reg [zmv 98 14,zmv 11 98])]) .skip)]),QC2])
def Ql1:TCode :=
 (zsq [(.reg [zfa 43 3 9,zld 44 43 1,zmv 10 44]),(.reg [zmv 11 (zkb false)]),(zsq [(.reg [zmv 45 9,zle 46 45,zfa 47 3 2,zld 48 47 1,zle 49 48,zbi 50 .add 49 (zki 1),zbi 51 .neq 46 50]),(.cond 51 (zsq [(.reg [zLd 52 7 14,zst 6 52 14]),.ret]) .skip)]),(zsq [(.reg [zmv 12 (zki 0)]),(.block 0 (.loop Qqq QoP))]),QtO])
def QyI:List (Nat × Md):=[(2,.one .d),(3,.b (zds 14)),(6,.b (zds 14)),(7,.b [.d,.d,.d,.d,.d,.f,.d,.d,.d,.d,.d,.d,.d,.d]),(8,.one .d),(9,.one .d)]
def QHJ:TCode:=.wk QyI Ql1
def QDV:TCode :=
 (zsq [(.reg [zop 3 (.box 63 0 14),zop 6 (.new 63 (z0s Qn))]),(.reg [zLd 19 3 14,zca 20 168 [19],zop 7 (.new 63 (z0s Qn)),zst 7 20 14]),(.reg [zfa 21 3 5,zld 22 21 1,zmv 23 1,zca 24 43 [22,23],zmv 8 24]),(zsq [(.reg [zLd 25 3 14,zca 26 41 [25],zno 27 26,zmv 28 27,.grp 28 false [zmv 29 8,zbi 30 .lss 29 (zki 0)] 31 30]),(.cond 31 (zsq [(.reg [zLd 32 7 14,zst 6 32 14]),.ret]) .skip)]),(.reg [zfa 33 3 5,zld 34 33 1,zmv 35 8,zia 36 34 35 Qz,zfa 37 36 1,zld 38 37 1,zmv 9 38]),(zsq [(.reg [zfa 39 3 4,zld 40 39 1]),(.cond 40 (.reg [zfa 41 3 6,zld 42 41 1,zmv 9 42]) .skip)]),QHJ])
def Qls:List (ARv × Md):=[(.l 6 14 true,.b (zds 14))]
def Qei:Qc:=TQ 0 0 Qls K
@[irreducible] def QeA (s:Qb) (m:Int) (inn:List (List Int)) (y5:List Q5) (d:List Int) (sat:Bool):Prop:=let z1:=id (α:=Qb) s
 tawp Qdg 0 QtE (Qei K) ⟨[(3,(.p 0 0 0)),(6,(.p 1 0 0)),(7,(.p 3 0 0)),(8,(zci (Qo s.2.2.2.2.2.1 m))),(9,(zcs [(.sl [TI])] inn)),(10,(zcs [TI] d)),(11,(zcb sat))],[(0,(.box (Tup.cells Qn s))),(1,(.box (Tup.cells Qn ((0:Int),[],[],false,false,[],[],[],[],[],[],[],(0:Int),false)))),(2,(.sl 76 Qz true (List.take y5.length y5))),(3,(.box [(zci (z1.1)),(zcs QE (z1.2.1)),(zcs ctOp (z1.2.2.1)),(zcb (z1.2.2.2.1)),(zcb (z1.2.2.2.2.1)),(.r Qz 2 0 ((List.take y5.length y5).length)),(zcs [(.sl [TI])] (z1.2.2.2.2.2.2.1)),(zcs [TI] (z1.2.2.2.2.2.2.2.1)),(zcs [TI] (z1.2.2.2.2.2.2.2.2.1)),(zcs [TI] (z1.2.2.2.2.2.2.2.2.2.1)),(zcs [TI] (z1.2.2.2.2.2.2.2.2.2.2.1)),(zcs [(.sl [TI])] (z1.2.2.2.2.2.2.2.2.2.2.2.1)),(zci (z1.2.2.2.2.2.2.2.2.2.2.2.2.1)),(zcb (z1.2.2.2.2.2.2.2.2.2.2.2.2.2))]))],4⟩
def QI5:Qc:=Qseq (tawp Qdg 0 QtO (Qei K)) (Qei K)
def Qwp:Qc:=Qblk 0 (QI5 K)
def Qde (s:Qb) (m:Int) (t:List Int) (inn:List (List Int)) (i:Int) (y5:List Q5):Prop:=let z1:=id (α:=Qb) s
 Loop Qdg 0 Qqq QoP (Qwp K) ⟨[(2,(zcs [TI] t)),(3,(.p 0 0 0)),(6,(.p 1 0 0)),(7,(.p 3 0 0)),(8,(zci (Qo s.2.2.2.2.2.1 m))),(9,(zcs [(.sl [TI])] inn)),(10,(zcs [TI] s.2.2.2.2.2.2.2.2.2.1)),(11,(zcb false)),(12,(zci i))],[(0,(.box (Tup.cells Qn s))),(1,(.box (Tup.cells Qn ((0:Int),[],[],false,false,[],[],[],[],[],[],[],(0:Int),false)))),(2,(.sl 76 Qz true y5)),(3,(.box [(zci (z1.1)),(zcs QE (z1.2.1)),(zcs ctOp (z1.2.2.1)),(zcb (z1.2.2.2.1)),(zcb (z1.2.2.2.2.1)),(.r Qz 2 0 y5.length),(zcs [(.sl [TI])] (z1.2.2.2.2.2.2.1)),(zcs [TI] (z1.2.2.2.2.2.2.2.1)),(zcs [TI] (z1.2.2.2.2.2.2.2.2.1)),(zcs [TI] (z1.2.2.2.2.2.2.2.2.2.1)),(zcs [TI] (z1.2.2.2.2.2.2.2.2.2.2.1)),(zcs [(.sl [TI])] (z1.2.2.2.2.2.2.2.2.2.2.2.1)),(zci (z1.2.2.2.2.2.2.2.2.2.2.2.2.1)),(zcb (z1.2.2.2.2.2.2.2.2.2.2.2.2.2))]))],4⟩
@[irreducible] def Qfw (s:Qb) (m:Int) (t:List Int) (inn:List (List Int)):Prop:=let z1:=id (α:=Qb) s
 let z2:=List.take ((z1.2.2.2.2.2.1).length) (z1.2.2.2.2.2.1)
 tawp Qdg 0 Ql1 (Qei K) ⟨[(2,(zcs [TI] t)),(3,(.p 0 0 0)),(6,(.p 1 0 0)),(7,(.p 3 0 0)),(8,(zci (Qo s.2.2.2.2.2.1 m))),(9,(zcs [(.sl [TI])] inn))],[(0,(.box (Tup.cells Qn s))),(1,(.box (Tup.cells Qn ((0:Int),[],[],false,false,[],[],[],[],[],[],[],(0:Int),false)))),(2,(.sl 76 Qz true z2)),(3,(.box [(zci (z1.1)),(zcs QE (z1.2.1)),(zcs ctOp (z1.2.2.1)),(zcb (z1.2.2.2.1)),(zcb (z1.2.2.2.2.1)),(.r Qz 2 0 (z2.length)),(zcs [(.sl [TI])] (z1.2.2.2.2.2.2.1)),(zcs [TI] (z1.2.2.2.2.2.2.2.1)),(zcs [TI] (z1.2.2.2.2.2.2.2.2.1)),(zcs [TI] (z1.2.2.2.2.2.2.2.2.2.1)),(zcs [TI] (z1.2.2.2.2.2.2.2.2.2.2.1)),(zcs [(.sl [TI])] (z1.2.2.2.2.2.2.2.2.2.2.2.1)),(zci (z1.2.2.2.2.2.2.2.2.2.2.2.2.1)),(zcb (z1.2.2.2.2.2.2.2.2.2.2.2.2.2))]))],4⟩
theorem QvB (s:Qb) (m:Int) (inn:List (List Int)) (y5:List Q5) (d:List Int) (sat:Bool) (h :
 let z2:=id (α:=Qb) s
 let z3:=Qo s.2.2.2.2.2.1 m
 let z5:=List.take y5.length y5
 let z1:=List.take (Int.toNat ((z5.length:Nat):Int)-Int.toNat (w64 (z3+(1:Int)))) (List.drop (0+Int.toNat (w64 (z3+(1:Int)))) z5)
 let z6:=Int.toNat z3-Int.toNat (0:Int)
 let z7:=QD s.2.2.1 inn d
 let z4:=Zo s.2.2.2.2.2.2.2.2.2.2.2 (z7.1,(0:Int),(sat||(z7.2.2)))
 let z8:=w64 (((s.2.2.1).length:Int)-(1:Int))
 (((0:Int)≤w64 (((s.2.2.1).length:Int)-(1:Int))∧Int.toNat z8<(s.2.2.1).length)∧(zif (((d.length:Int) != ((gtd dOp s.2.2.1 (Int.toNat z8)).2.2.1))||(!(Qu d))) (K (Yo (z2.1,z2.2.1,z2.2.2.1,z2.2.2.2.1,z2.2.2.2.2.1,(List.take (z5.length) (List.drop 0 z5)),z2.2.2.2.2.2.2.1,z2.2.2.2.2.2.2.2.1,z2.2.2.2.2.2.2.2.2.1,z2.2.2.2.2.2.2.2.2.2.1,z2.2.2.2.2.2.2.2.2.2.2.1,z2.2.2.2.2.2.2.2.2.2.2.2.1,z2.2.2.2.2.2.2.2.2.2.2.2.2.1,z2.2.2.2.2.2.2.2.2.2.2.2.2.2))) ((QbM s.2.2.1 inn d)∧((Yq (α:=QK) (β:=QK) s.2.2.2.2.2.2.2.2.2.2.2 (z7.1,(0:Int),(sat||(z7.2.2))))∧((((0:Int)≤(0:Int)∧(0:Int)≤z3∧z3≤((z5.length:Nat):Int))∧(((0:Int)≤w64 (z3+(1:Int))∧w64 (z3+(1:Int))≤((z5.length:Nat):Int)∧((z5.length:Nat):Int)≤((z5.length:Nat):Int))∧((z6=z5.length∨z6+z1.length≤z5.length)∧z6+z1.length≤big)))∧K (Yo (z2.1,z2.2.1,z2.2.2.1,z2.2.2.2.1,z2.2.2.2.2.1,(List.take (z6+z1.length) (List.drop 0 ((List.take z6 z5)++z1))),([]:List (List Int)),z2.2.2.2.2.2.2.2.1,z2.2.2.2.2.2.2.2.2.1,([]:List Int),z7.2.1,z4.1,z4.2.1,z4.2.2)))))))):Hold (QeA K s m inn y5 d sat) :=
 Hold.of (by kernel_rfl) h
theorem Qsd (s:Qb) (m:Int) (t:List Int) (inn:List (List Int)) (i:Int) (y5:List Q5) (h :
 (zif (decide (i<((s.2.2.1).length:Int))) ((((0:Int)≤i∧Int.toNat i<inn.length)∧((!(!(Qu (gtd ([]:List Int) inn (Int.toNat i)))))=true→(((0:Int)≤i∧Int.toNat i<inn.length)∧((0:Int)≤i∧Int.toNat i<(s.2.2.1).length))))∧(zif ((!(Qu (gtd ([]:List Int) inn (Int.toNat i))))||(((gtd ([]:List Int) inn (Int.toNat i)).length:Int) != ((gtd dOp s.2.2.1 (Int.toNat i)).2.1))) (K (Yo ((id (α:=Qb) s).1,(id (α:=Qb) s).2.1,(id (α:=Qb) s).2.2.1,(id (α:=Qb) s).2.2.2.1,(id (α:=Qb) s).2.2.2.2.1,(List.take y5.length (List.drop 0 y5)),(id (α:=Qb) s).2.2.2.2.2.2.1,(id (α:=Qb) s).2.2.2.2.2.2.2.1,(id (α:=Qb) s).2.2.2.2.2.2.2.2.1,(id (α:=Qb) s).2.2.2.2.2.2.2.2.2.1,(id (α:=Qb) s).2.2.2.2.2.2.2.2.2.2.1,(id (α:=Qb) s).2.2.2.2.2.2.2.2.2.2.2.1,(id (α:=Qb) s).2.2.2.2.2.2.2.2.2.2.2.2.1,(id (α:=Qb) s).2.2.2.2.2.2.2.2.2.2.2.2.2))) (Qde K s m t inn (w64 (i+(1:Int))) (List.take y5.length y5)))) (zif s.2.2.2.1 (((0:Int)≤((s.2.2.1).length:Int)∧Int.toNat ((s.2.2.1).length:Int)<inn.length)∧(QeA K s m inn y5 ((QY (gtd ([]:List Int) inn (Int.toNat ((s.2.2.1).length:Int))) t).1) ((QY (gtd ([]:List Int) inn (Int.toNat ((s.2.2.1).length:Int))) t).2))) (QeA K s m inn y5 s.2.2.2.2.2.2.2.2.2.1 false)))):Qde K s m t inn i y5 :=
 Loop.of (by kernel_rfl) h
theorem Qwx (s:Qb) (m:Int) (t:List Int) (inn:List (List Int)) (h :
 let z1:=id (α:=Qb) s
 let z2:=List.take ((z1.2.2.2.2.2.1).length) (z1.2.2.2.2.2.1)
 (zif ((inn.length:Int) != (w64 (((s.2.2.1).length:Int)+(1:Int)))) (K (Yo (z1.1,z1.2.1,z1.2.2.1,z1.2.2.2.1,z1.2.2.2.2.1,(List.take (z2.length) (List.drop 0 z2)),z1.2.2.2.2.2.2.1,z1.2.2.2.2.2.2.2.1,z1.2.2.2.2.2.2.2.2.1,z1.2.2.2.2.2.2.2.2.2.1,z1.2.2.2.2.2.2.2.2.2.2.1,z1.2.2.2.2.2.2.2.2.2.2.2.1,z1.2.2.2.2.2.2.2.2.2.2.2.2.1,z1.2.2.2.2.2.2.2.2.2.2.2.2.2))) (Qde K s m t inn 0 (List.take (z2.length) z2)))):Hold (Qfw K s m t inn) :=
 Hold.of (by kernel_rfl) h
theorem QC3 (s:Qb) (m:Int) (t:List Int) (h :
 ((QO (α:=Qb) s)∧(zif ((!(Qv s))||(decide ((Qo s.2.2.2.2.2.1 m)<(0:Int)))) (K (Yo ((id (α:=Qb) s).1,(id (α:=Qb) s).2.1,(id (α:=Qb) s).2.2.1,(id (α:=Qb) s).2.2.2.1,(id (α:=Qb) s).2.2.2.2.1,(List.take (((id (α:=Qb) s).2.2.2.2.2.1).length) (List.drop 0 ((id (α:=Qb) s).2.2.2.2.2.1))),(id (α:=Qb) s).2.2.2.2.2.2.1,(id (α:=Qb) s).2.2.2.2.2.2.2.1,(id (α:=Qb) s).2.2.2.2.2.2.2.2.1,(id (α:=Qb) s).2.2.2.2.2.2.2.2.2.1,(id (α:=Qb) s).2.2.2.2.2.2.2.2.2.2.1,(id (α:=Qb) s).2.2.2.2.2.2.2.2.2.2.2.1,(id (α:=Qb) s).2.2.2.2.2.2.2.2.2.2.2.2.1,(id (α:=Qb) s).2.2.2.2.2.2.2.2.2.2.2.2.2))) (((0:Int)≤(Qo s.2.2.2.2.2.1 m)∧Int.toNat (Qo s.2.2.2.2.2.1 m)<(s.2.2.2.2.2.1).length)∧(zif s.2.2.2.2.1 (Qfw K s m t s.2.2.2.2.2.2.1) (Qfw K s m t ((gtd Zb s.2.2.2.2.2.1 (Int.toNat (Qo s.2.2.2.2.2.1 m))).2))))))):Hold (tawp Qdg (0+0) QDV (TQ 0 0 Qls K) (Qe [(.a (Tup.cells Qn s)),(.c TI m),(.c (.sl [TI]) t)])) :=
 Hold.of (by kernel_rfl) h
theorem QJj (s:Qb) (m:Int) (t:List Int) (hp:JR s m t):TCon Tryz.prog 175 [(.a (Tup.cells Qn s)),(.c TI m),(.c (.sl [TI]) t)] (Yo (Zg s m t)):=by
 refine Ql rfl fun hb=>tcg (n:=155) (sg:=Qlj.sg) Qi (TOk.cons Qia (TOk.cons Qgj (TOk.cons Qey (TOk.cons YF (TOk.cons Qus (TOk.cons QIw (TOk.cons Qyk TOk.nil))))))) (by kernel_rfl) (by kernel_rfl) (QC3 _ s m t ?_)
 have hl_s_1:(s.2.1).length≤9223372036854775807:=hb.1.2.1.1
 have hl_s_2:(s.2.2.1).length≤9223372036854775807:=hb.1.2.2.1.1
 have hl_s_5:(s.2.2.2.2.2.1).length≤9223372036854775807:=hb.1.2.2.2.2.2.1.1
 have hl_s_6:(s.2.2.2.2.2.2.1).length≤9223372036854775807:=hb.1.2.2.2.2.2.2.1.1
 have hl_s_7:(s.2.2.2.2.2.2.2.1).length≤9223372036854775807:=hb.1.2.2.2.2.2.2.2.1.1
 have hl_s_8:(s.2.2.2.2.2.2.2.2.1).length≤9223372036854775807:=hb.1.2.2.2.2.2.2.2.2.1.1
 have hl_s_9:(s.2.2.2.2.2.2.2.2.2.1).length≤9223372036854775807:=hb.1.2.2.2.2.2.2.2.2.2.1.1
 have hl_s_10:(s.2.2.2.2.2.2.2.2.2.2.1).length≤9223372036854775807:=hb.1.2.2.2.2.2.2.2.2.2.2.1.1
 have hl_s_11:(s.2.2.2.2.2.2.2.2.2.2.2.1).length≤9223372036854775807:=hb.1.2.2.2.2.2.2.2.2.2.2.2.1.1
 have hl_t:t.length≤9223372036854775807:=hb.2.2.1.1
 have hp':Sz.sz s≤2147483648:=hp
 have hs:=ZB s
 have l1:=JJ (Qd s)
 obtain ⟨kf,hkf⟩:∃ kf,Qo s.2.2.2.2.2.1 m=kf:=⟨_,rfl⟩
 have hf:=Qcy (Qd s) m
 rw [show Qo (Qd s) m=kf from hkf] at hf
 have hno:YR s kf t=false→(Zg s m t)=s:=fun h=>Qql (by rw [show Qo (Qd s) m=kf from hkf,h];simp)
 have k4:Qv s=true→0≤kf→∀ rows d sat,rows=Zt s kf→(d,sat)=bwdD s kf t→((Zt s kf).length==(sOps s).length+1)=true→ZK (sOps s) (Zt s kf) (sOps s).length=true→QeA (fun r'=>r'=Yo (Zg s m t)) s m rows s.2.2.2.2.2.1 d sat:=by
  intro h1 h2 rows d sat hr hd h3 h4
  have hm:=Yg h1
  have hml:1≤s.2.2.1.length∧s.2.2.1.length≤8:=Zw hm
  have hb:YR s kf t=Qf d (QP (Zk s)):=by
   rw [JP,← hd,h1,h3,h4,decide_eq_true h2];rfl
  obtain ⟨kn,hkn⟩:∃ kn:Nat,kf=kn:=⟨kf.toNat,by omega⟩
  have hw:w64 ((s.2.2.1.length:Int)-1)=((s.2.2.1.length-1:Nat):Int):=by rw [Qs (by omega) (by omega)];omega
  have hg:(((d.length:Int) != (gtd dOp s.2.2.1 (s.2.2.1.length-1)).2.2.1)||(!(Qu d))) = !Qf d (QP (Zk s)):=by
   rw [show QP (Zk s)=_ from Qk3 hm]
   show _ = !(Qu d&&((d.length:Int)==(gtd dOp s.2.2.1 (s.2.2.1.length-1)).2.2.1))
   simp only [bne]
   cases Qu d <;> cases ((d.length:Int)==(gtd dOp s.2.2.1 (s.2.2.1.length-1)).2.2.1) <;> rfl
  refine (QvB (fun r'=>r'=Yo (Zg s m t)) s m rows _ d sat ?_).h
  conv=>zeta
  simp only [id,List.drop_zero,List.take_length,true_or,true_and,Nat.zero_add]
  rw [hkf,hkn,hw,Int.toNat_natCast,hg]
  refine ⟨⟨by omega,by omega⟩,fun h=>R_eq ?_,fun h=>?_⟩
  ·rw [hno (by rw [hb];simpa using h)]
  ·have hv:Qf d (QP (Zk s))=true:=by simpa using h
   have hok:YR s kf t=true:=by rw [hb,hv]
   have hv6:=YO hv
   rw [beq_iff_eq] at h3
   have hfit:=QtQ h1
   have hsum:Sz.sz (α:=QK) s.2.2.2.2.2.2.2.2.2.2.2≤296:=Qh0 (Yg h1) ⟨hfit.1,hfit.2⟩
   have hout:=QgF (t:=t) (rows:=rows) (d:=d) (b:=sat) (by rw [show Qo (Qd s) m=kf from hkf];exact hok) (by rw [show Qo (Qd s) m=kf from hkf] ;exact hr) (by rw [show Qo (Qd s) m=kf from hkf] ;exact hd)
   have hk:kn<s.2.2.2.2.2.1.length:=by ((try simp only [sPc,Qx,sOps,Qq,Qt,Qd,QB,sX,sY,sG,sD,Qr,Qw,sSat,QG,QJ,QH,QI] at *);omega)
   have hrl:rows.length=s.2.2.1.length+1:=by rw [hr];exact h3
   have hbg:=Qlf s.2.2.1 rows d
   have hl2:(List.take (s.2.2.2.2.2.1.length-(kn+1)) (List.drop (kn+1) s.2.2.2.2.2.1)).length=s.2.2.2.2.2.1.length-(kn+1):=by simp
   rw [sc1 (by ((try simp only [sPc,Qx,sOps,Qq,Qt,Qd,QB,sX,sY,sG,sD,Qr,Qw,sSat,QG,QJ,QH,QI] at *);omega))]
   simp only [Int.toNat_natCast,show Int.toNat (0:Int)=0 from rfl,Nat.sub_zero]
   refine ⟨⟨by omega,by rw [ZC];((try simp only [sPc,Qx,sOps,Qq,Qt,Qd,QB,sX,sY,sG,sD,Qr,Qw,sSat,QG,QJ,QH,QI] at *);omega)⟩,?_,⟨⟨by omega,by omega,by omega⟩,⟨by omega,by omega,by omega⟩,?_⟩,R_eq ?_⟩
   ·unfold Yq
    simp only [QkD,Ym,YY]
    ((try simp only [sPc,Qx,sOps,Qq,Qt,Qd,QB,sX,sY,sG,sD,Qr,Qw,sSat,QG,QJ,QH,QI] at *);omega)
   ·rw [hl2,ZC];((try simp only [sPc,Qx,sOps,Qq,Qt,Qd,QB,sX,sY,sG,sD,Qr,Qw,sSat,QG,QJ,QH,QI] at *);omega)
   ·rw [QnD hk,hout,show Qo (Qd s) m=kf from hkf,hkn,Int.toNat_natCast]
 have k3:Qv s=true→0≤kf→∀ rows,rows=Zt s kf→((Zt s kf).length==(sOps s).length+1)=true→Qde (fun r'=>r'=Yo (Zg s m t)) s m t rows ((0:Nat):Int) s.2.2.2.2.2.1:=by
  intro h1 h2 rows hr h3
  have hm:=Yg h1
  have hml:1≤s.2.2.1.length∧s.2.2.1.length≤8:=Zw hm
  have hrl:rows.length=s.2.2.1.length+1:=by rw [hr];exact beq_iff_eq.1 h3
  refine Y7 s.2.2.1.length (fun k=>Zp s.2.2.1 k ((rows.drop k).take (s.2.2.1.length-k))=ZK s.2.2.1 rows s.2.2.1.length→Qde (fun r'=>r'=Yo (Zg s m t)) s m t rows (k:Int) s.2.2.2.2.2.1) ?_ ?_ ?_
  ·intro hg
   rw [Nat.sub_self,List.take_zero,Zp] at hg
   have h4:ZK (sOps s) (Zt s kf) (sOps s).length=true:=by rw [← hr];exact hg.symm
   refine Qsd (fun r'=>r'=Yo (Zg s m t)) s m t rows _ _ ⟨fun h=>by simp at h,fun _=>⟨fun hl=>⟨⟨by omega,by rw [Int.toNat_natCast];omega⟩,?_⟩,fun hl=>k4 h1 h2 _ _ _ hr ?_ h3 h4⟩⟩
   ·rw [Int.toNat_natCast]
    refine k4 h1 h2 _ _ _ hr ?_ h3 h4
    unfold bwdD;rw [if_pos hl,← hr]
   ·unfold bwdD;rw [if_neg (by rw [show Qq s=false from hl];simp)]
  ·intro k hk ih hg
   rw [Qyu hk (by omega)] at hg
   have hv:((!(Qu (gtd [] rows k)))||(((gtd [] rows k).length:Int) != (gtd dOp s.2.2.1 k).2.1)) = !Qf (gtd [] rows k) (gtd dOp s.2.2.1 k).2.1:=by
    unfold Qf
    simp only [bne]
    cases Qu (gtd [] rows k) <;> cases (((gtd [] rows k).length:Int)==(gtd dOp s.2.2.1 k).2.1) <;> rfl
   refine Qsd (fun r'=>r'=Yo (Zg s m t)) s m t rows _ _ ⟨fun _=>?_,fun h=>by simp at h;omega⟩
   simp only [id,List.drop_zero,List.take_length,Int.toNat_natCast]
   rw [hv,sc1 (by omega)]
   refine ⟨⟨⟨by omega,by omega⟩,fun _=>⟨⟨by omega,by omega⟩,by omega,by omega⟩⟩,fun h=>R_eq ?_,fun h=>ih ?_⟩
   ·rw [hno]
    have h5:Qf (gtd [] rows k) (gtd dOp s.2.2.1 k).2.1=false:=by simpa using h
    rw [h5,Bool.false_and] at hg
    rw [JP,← hr,show ZK (sOps s) rows (sOps s).length=false from hg.symm]
    simp
   ·have h5:Qf (gtd [] rows k) (gtd dOp s.2.2.1 k).2.1=true:=by simpa using h
    rw [h5,Bool.true_and] at hg
    exact hg
  ·rw [List.drop_zero,Nat.sub_zero]
   unfold ZK
   rw [Int.toNat_natCast]
 have k1:Qv s=true→0≤kf→∀ rows,rows=Zt s kf→Qfw (fun r'=>r'=Yo (Zg s m t)) s m t rows:=by
  intro h1 h2 rows hr
  have hml:1≤s.2.2.1.length∧s.2.2.1.length≤8:=Zw (Yg h1)
  refine (Qwx (fun r'=>r'=Yo (Zg s m t)) s m t rows ?_).h
  conv=>zeta
  simp only [id,List.drop_zero,List.take_length,true_or,true_and,Nat.zero_add,Int.toNat_natCast]
  rw [sc1 (k:=s.2.2.1.length) (by omega)]
  refine ⟨fun h=>R_eq ?_,fun h=>k3 h1 h2 _ hr ?_⟩
  ·rw [hno]
   have:(rows.length==s.2.2.1.length+1)=false:=by
    rw [beq_eq_false_iff_ne]
    simp only [bne_iff_ne] at h
    omega
   rw [JP,← hr]
   simp [this]
  ·rw [← hr,beq_iff_eq]
   simp only [bne_eq_false_iff_eq] at h
   ((try simp only [sPc,Qx,sOps,Qq,Qt,Qd,QB,sX,sY,sG,sD,Qr,Qw,sSat,QG,QJ,QH,QI] at *);omega)
 simp only [id,List.drop_zero,List.take_length,true_or,true_and,Nat.zero_add]
 rw [Qec,show Qo (Qd s) m=kf from hkf]
 refine ⟨hp,fun h=>R_eq ?_,fun h=>?_⟩
 ·rw [hno]
  simp only [Bool.not_eq_true'] at h
  rw [JP,h];rfl
 ·simp only [Bool.not_eq_false',Bool.and_eq_true,decide_eq_true_eq] at h
  refine ⟨⟨h.2,by ((try simp only [sPc,Qx,sOps,Qq,Qt,Qd,QB,sX,sY,sG,sD,Qr,Qw,sSat,QG,QJ,QH,QI] at *);omega)⟩,fun hr=>k1 h.1 h.2 _ ?_,fun hr=>k1 h.1 h.2 _ ?_⟩
  ·unfold Zt;rw [if_pos hr]
  ·unfold Zt;rw [if_neg (by rw [show Qt s=false from hr];simp)]
theorem QJL:Qh Tryz.prog Qlj:=Qk fun x h=>QJj x.1 x.2.1 x.2.2.1 h
end
end Go.Proofs.YtjbdljkhbglnhaaGreat.Am

