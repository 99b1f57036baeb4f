/- -/
import Derived.Test.YtjbdljkhbglnhaaGreatZFPJ
import Derived.Test.YtjbdljkhbglnhaaGreatZFP4
import Derived.Test.YtjbdljkhbglnhaaGreatZFPF
import Derived.Test.YtjbdljkhbglnhaaGreatZFP8
import Derived.Test.YtjbdljkhbglnhaaGreatZFP1
import Derived.Test.YtjbdljkhbglnhaaGreatZFP3
import Derived.Test.YtjbdljkhbglnhaaGreatZFPK
import Derived.Test.YtjbdljkhbglnhaaGreatZFPI
import Derived.Test.YtjbdljkhbglnhaaGreatZFPG
import Derived.Test.YtjbdljkhbglnhaaGreatZFGD
namespace Go.Proofs.YtjbdljkhbglnhaaGreat.Am
open Go Go.RowKit Go.Proofs.YtjbdljkhbglnhaaGreat
set_option linter.all false
set_option maxHeartbeats 2000000
noncomputable section
variable (K:TRes→Prop)
def Qja (t:Qc):TRes:=zra (.a (Tup.cells Qi t))
def Qpj:TRow:=Qh 73 [(.c (.sl ctOp)),(.c (.sl Qr)),(.c .bool),(.c .bool)] fun x=>(some (Qd3 x.1 x.2.1 x.2.2.1 x.2.2.2.1),Qja (JF x.1 x.2.1 x.2.2.1 x.2.2.2.1))
def QPl:List TRow:=[QhZ,Qaq,QpY]
def Q1R:TCode :=
 (zsq [(.reg [zop 8 (.new 63 (z0s Qi))]),(.reg [zmv 10 0,zca 11 151 [10],zop 12 (.build [(.n ctOp)] [(0,1,11)]),zop 9 (.new 26 [(.n ctOp)]),zst 9 12 1]),(zsq [(.reg [zLd 13 9 1,zca 14 131 [13],zno 15 14]),(.cond 15 (zsq [(.reg [zop 16 (.build (z0s Qi) []),zst 8 16 14]),.ret]) .skip)]),(.draw [zop 17 (.bsl 111 Qr []),zmv 18 1,zop 19 (.app 17 18 111 Qr),zfa 20 9 0,zld 21 20 1,zmv 22 2,zmv 23 3,zLd 24 9 1,zca 25 88 [24],zop 26 (.build (z0s Qi) [(1,1,19),(2,1,21),(3,1,22),(4,1,23),(11,3,25)]),zst 8 26 14] [(0,3),(2,3),(0,4),(2,4),(0,7),(2,7),(3,8),(4,8)]),.ret])
def QZf:List (ARv × Md):=[(.l 8 14 true,.b (zds 14))]
theorem QIn (ops:List TOp') (plan:List TIns) (last:Bool) (redo:Bool) (h :
 ((Qv (α:=List TOp') ops)∧(zif (!(QT (id (α:=List TOp') ops))) (K (Qja ((0:Int),[],[],false,false,[],[],[],[],[],[],[],(0:Int),false))) (((0=0∨0+plan.length≤0)∧0+plan.length≤big)∧K (Qja ((0:Int),(List.take (0+plan.length) (List.drop 0 (plan:List TIns))),(id (α:=List TOp') ops),last,redo,[],[],[],[],[],[],(ZO (id (α:=List TOp') ops)).1,(ZO (id (α:=List TOp') ops)).2.1,(ZO (id (α:=List TOp') ops)).2.2)))))):Hold (tawp QPl (0+0) Q1R (TQ 0 0 QZf K) (Qf [(.c (.sl ctOp) ops),(.c (.sl Qr) plan),(.c .bool last),(.c .bool redo)])) :=
 Hold.of (by kernel_rfl) h
theorem QV6 (ops:List TOp') (plan:List TIns) (last:Bool) (redo:Bool) (hp:Qd3 ops plan last redo):TCon Tryz.prog 73 [(.c (.sl ctOp) ops),(.c (.sl Qr) plan),(.c .bool last),(.c .bool redo)] (Qja (JF ops plan last redo)):=by
 refine Qo rfl fun hb=>tcg (n:=27) (sg:=Qpj.sg) Qj (TOk.cons QAm (TOk.cons Qbb (TOk.cons QRq TOk.nil))) (by kernel_rfl) (by kernel_rfl) (QIn _ ops plan last redo ?_)
 have hl_ops:ops.length≤9223372036854775807:=hb.1.1
 have hl_plan:plan.length≤9223372036854775807:=hb.2.1.1
 obtain ⟨h1,h2⟩:=hp
 simp only [id,List.drop_zero,List.take_length,true_or,true_and,Nat.zero_add]
 refine ⟨h1,fun h=>R_eq ?_,fun h=>⟨by rw [Q1];omega,R_eq ?_⟩⟩
 ·unfold JF;rw [if_neg (by simpa using h)]
 ·unfold JF;rw [if_pos (by simpa using h),QDl]
theorem QVv:Qg Tryz.prog Qpj:=Qk fun x h=>QV6 x.1 x.2.1 x.2.2.1 x.2.2.2.1 h
def Qhb (t:Qc):TRes:=zra (.a (Tup.cells Qi t))
def Qpk:TRow:=Qh 94 [(.c (.sl ctOp)),(.c (.sl Qr)),(.c .bool),(.c .bool)] fun x=>(some (Qd3 x.1 x.2.1 x.2.2.1 x.2.2.2.1),Qhb (JF x.1 x.2.1 x.2.2.1 x.2.2.2.1))
def QUl:List TRow:=[Qa9,QjM,Qpd]
def QNz:TCode :=
 (zsq [(.reg [zop 8 (.new 63 (z0s Qi))]),(.reg [zmv 10 0,zop 11 (.build [(.n ctOp)] [(0,1,10)]),zop 9 (.new 26 [(.n ctOp)]),zst 9 11 1]),(zsq [(.reg [zLd 12 9 1,zca 13 74 [12],zno 14 13]),(.cond 14 (zsq [(.reg [zop 15 (.build (z0s Qi) []),zst 8 15 14]),.ret]) .skip)]),(.draw [zop 16 (.bsl 111 Qr []),zmv 17 1,zop 18 (.app 16 17 111 Qr),zmv 19 0,zca 20 176 [19],zmv 21 2,zmv 22 3,zLd 23 9 1,zca 24 83 [23],zop 25 (.build (z0s Qi) [(1,1,18),(2,1,20),(3,1,21),(4,1,22),(11,3,24)]),zst 8 25 14] [(0,7),(2,7),(4,7)]),.ret])
def QJd:List (ARv × Md):=[(.l 8 14 true,.b (zds 14))]
theorem QOJ (ops:List TOp') (plan:List TIns) (last:Bool) (redo:Bool) (h :
 (zif (!(QT ops)) (K (Qhb ((0:Int),[],[],false,false,[],[],[],[],[],[],[],(0:Int),false))) ((((0=0∨0+plan.length≤0)∧0+plan.length≤big)∧(Qv (α:=List TOp') ops))∧K (Qhb ((0:Int),(List.take (0+plan.length) (List.drop 0 (plan:List TIns))),(id (α:=List TOp') ops),last,redo,[],[],[],[],[],[],(ZO ops).1,(ZO ops).2.1,(ZO ops).2.2))))):Hold (tawp QUl (0+0) QNz (TQ 0 0 QJd K) (Qf [(.c (.sl ctOp) ops),(.c (.sl Qr) plan),(.c .bool last),(.c .bool redo)])) :=
 Hold.of (by kernel_rfl) h
theorem QTd (ops:List TOp') (plan:List TIns) (last:Bool) (redo:Bool) (hp:Qd3 ops plan last redo):TCon Tryz.prog 94 [(.c (.sl ctOp) ops),(.c (.sl Qr) plan),(.c .bool last),(.c .bool redo)] (Qhb (JF ops plan last redo)):=by
 refine Qo rfl fun hb=>tcg (n:=26) (sg:=Qpk.sg) Qj (TOk.cons QbY (TOk.cons QsX (TOk.cons QUh TOk.nil))) (by kernel_rfl) (by kernel_rfl) (QOJ _ ops plan last redo ?_)
 have hl_ops:ops.length≤9223372036854775807:=hb.1.1
 have hl_plan:plan.length≤9223372036854775807:=hb.2.1.1
 obtain ⟨h1,h2⟩:=hp
 simp only [id,List.drop_zero,List.take_length,true_or,true_and,Nat.zero_add]
 refine ⟨fun h=>R_eq ?_,fun h=>⟨⟨by rw [Q1];omega,h1⟩,R_eq ?_⟩⟩
 ·unfold JF;rw [if_neg (by simpa using h)]
 ·unfold JF;rw [if_pos (by simpa using h),QDl]
theorem QIp:Qg Tryz.prog Qpk:=Qk fun x h=>QTd x.1 x.2.1 x.2.2.1 x.2.2.2.1 h
def QcA (t:Qc):TRes:=⟨(.a [(zci t.1),(zcs Qr t.2.1),(zcs ctOp t.2.2.1),(zcb t.2.2.2.1),(zcb t.2.2.2.2.1),(.r QZ 0 0 ((t.2.2.2.2.2.1).length)),(zcs [(.sl [TI])] t.2.2.2.2.2.2.1),(zcs [TI] t.2.2.2.2.2.2.2.1),(zcs [TI] t.2.2.2.2.2.2.2.2.1),(zcs [TI] t.2.2.2.2.2.2.2.2.2.1),(zcs [TI] t.2.2.2.2.2.2.2.2.2.2.1),(zcs [(.sl [TI])] t.2.2.2.2.2.2.2.2.2.2.2.1),(zci t.2.2.2.2.2.2.2.2.2.2.2.2.1),(zcb t.2.2.2.2.2.2.2.2.2.2.2.2.2)]),[(.sl 76 QZ true t.2.2.2.2.2.1)],[],true,[]⟩
def QeD:TRow:=Qh 111 [(.a Qi)] fun x=>(some (Qv (α:=Qc) x.1),QcA (id (α:=Qc) x.1))
def QnZ:List TRow:=[QhZ,Qgw,QaJ,Qoc]
def QFT:TCode :=
 (zsq [(.reg [zbi 24 .lss 23 22]),(.cond 24 .skip (.exit 0)),(.block 1 (zsq [(.reg [zia 25 21 23 QZ,zLd 26 25 2,zop 5 (.new 76 (z0s QZ)),zst 5 26 2]),(.draw [zfa 27 3 5,zld 28 27 1,zfa 29 5 0,zld 30 29 1,zfa 31 5 1,zld 32 31 1,zca 33 86 [32],zop 34 (.build (z0s QZ) [(0,1,30),(1,1,33)]),zop 35 (.bsl 76 QZ [34]),zop 36 (.app 28 35 76 QZ),zfa 37 3 5,zst 37 36 1] [(0,6),(1,6),(2,6),(3,6),(0,8),(1,8)])])),(.reg [zbi 38 .add 23 (zki 1),zmv 23 38])])
def QuQ:List (Nat × Md):=[(1,.b (zds 14)),(2,.b (zds 14)),(3,.b [.d,.d,.d,.d,.d,.o 76,.d,.d,.d,.d,.d,.d,.d,.d]),(21,.one .d),(22,.one .d),(23,.one .d)]
def QsP:TCode :=
 (zsq [(.reg [zfa 39 1 6,zld 40 39 1,zca 41 86 [40],zfa 42 3 6,zst 42 41 1]),(.draw [zfa 43 1 7,zld 44 43 1,zca 45 119 [44],zfa 46 1 8,zld 47 46 1,zca 48 119 [47],zfa 49 1 9,zld 50 49 1,zca 51 119 [50],zfa 52 1 10,zld 53 52 1,zca 54 119 [53],zfa 55 3 7,zst 55 45 1,zfa 56 3 8,zst 56 48 1,zfa 57 3 9,zst 57 51 1,zfa 58 3 10,zst 58 54 1] [(2,3),(2,4),(2,6),(5,6),(2,7),(5,7),(2,9),(5,9),(8,9),(2,10),(5,10),(8,10),(5,12),(8,12),(11,12)]),(.reg [zfa 59 1 11,zLd 60 59 3,zca 61 184 [60],zfa 62 3 11,zst 62 61 3]),(.reg [zLd 63 3 14,zst 2 63 14]),.ret])
def QYV:TCode :=
 (zsq [(.reg [zop 1 (.box 63 0 14),zop 2 (.new 63 (z0s Qi))]),(.draw [zfa 6 1 0,zld 7 6 1,zop 8 (.bsl 111 Qr []),zfa 9 1 1,zld 10 9 1,zop 11 (.app 8 10 111 Qr),zfa 12 1 2,zld 13 12 1,zca 14 151 [13],zfa 15 1 3,zld 16 15 1,zfa 17 1 4,zld 18 17 1,zop 19 (.build (z0s Qi) [(0,1,7),(1,1,11),(2,1,14),(3,1,16),(4,1,18)]),zop 3 (.new 63 (z0s Qi)),zst 3 19 14] [(0,2),(1,2),(2,3),(2,4),(0,5),(1,5),(2,6),(5,6),(2,7),(5,7),(0,8),(1,8),(2,9),(5,9),(8,9),(2,10),(5,10),(8,10),(2,11),(5,11),(8,11),(2,12),(5,12),(8,12),(0,14),(1,14),(2,14),(3,14),(4,14),(5,14),(6,14),(7,14),(8,14),(9,14),(10,14),(11,14),(12,14)]),(zsq [(.reg [zfa 20 1 5,zld 21 20 1,zle 22 21,zmv 23 (zki 0)]),(.block 0 (.loop QuQ QFT))]),QsP])
def Qux:List (ARv × Md):=[(.l 2 14 true,.b [.d,.d,.d,.d,.d,.o 76,.d,.d,.d,.d,.d,.d,.d,.d])]
def QEw:Qb:=TQ 0 0 Qux K
def QMK:Qb:=Qseq (tawp QnZ 0 QsP (QEw K)) (QEw K)
def QWA:Qb:=Qblk 0 (QMK K)
def Qhr (s:Qc) (x:Int) (t5:List ZI):Prop:=Loop QnZ 0 QuQ QFT (QWA K) ⟨[(1,(.p 0 0 0)),(2,(.p 1 0 0)),(3,(.p 3 0 0)),(21,(zcs QZ s.2.2.2.2.2.1)),(22,(zci ((s.2.2.2.2.2.1).length:Int))),(23,(zci x))],[(0,(.box (Tup.cells Qi s))),(1,(.box (Tup.cells Qi ((0:Int),[],[],false,false,[],[],[],[],[],[],[],(0:Int),false)))),(2,(.sl 76 QZ true t5)),(3,(.box [(zci s.1),(zcs Qr (List.take (0+(s.2.1).length) (List.drop 0 (s.2.1:List TIns)))),(zcs ctOp (id (α:=List TOp') s.2.2.1)),(zcb s.2.2.2.1),(zcb s.2.2.2.2.1),(.r QZ 2 0 t5.length),(zcs [(.sl [TI])] ([])),(zcs [TI] ([])),(zcs [TI] ([])),(zcs [TI] ([])),(zcs [TI] ([])),(zcs [(.sl [TI])] ([])),(zci 0),(zcb false)]))],4⟩
theorem QzO (s:Qc) (x:Int) (t5:List ZI) (h :
 (zif (decide (x<((s.2.2.2.2.2.1).length:Int))) (((0:Int)≤x∧Int.toNat x<(s.2.2.2.2.2.1).length)∧(((Qv (α:=List (List Int)) ((gtd Zu s.2.2.2.2.2.1 (Int.toNat x)).2))∧((t5.length=t5.length∨t5.length+1≤t5.length)∧t5.length+1≤big))∧(Qhr K s (w64 (x+(1:Int))) (List.take (t5.length+1) ((List.take t5.length t5)++([((gtd Zu s.2.2.2.2.2.1 (Int.toNat x)).1,(id (α:=List (List Int)) ((gtd Zu s.2.2.2.2.2.1 (Int.toNat x)).2)))])))))) ((Qv (α:=List (List Int)) s.2.2.2.2.2.2.1)∧(((Qv (α:=List Int) s.2.2.2.2.2.2.2.1)∧((Qv (α:=List Int) s.2.2.2.2.2.2.2.2.1)∧((Qv (α:=List Int) s.2.2.2.2.2.2.2.2.2.1)∧(Qv (α:=List Int) s.2.2.2.2.2.2.2.2.2.2.1))))∧((Qv (α:=Q2) s.2.2.2.2.2.2.2.2.2.2.2)∧K (QcA (s.1,(List.take (0+(s.2.1).length) (List.drop 0 (s.2.1:List TIns))),(id (α:=List TOp') s.2.2.1),s.2.2.2.1,s.2.2.2.2.1,(List.take t5.length t5),(id (α:=List (List Int)) s.2.2.2.2.2.2.1),(List.take ((id (α:=List Int) s.2.2.2.2.2.2.2.1).length) (List.drop 0 (id (α:=List Int) s.2.2.2.2.2.2.2.1))),(List.take ((id (α:=List Int) s.2.2.2.2.2.2.2.2.1).length) (List.drop 0 (id (α:=List Int) s.2.2.2.2.2.2.2.2.1))),(List.take ((id (α:=List Int) s.2.2.2.2.2.2.2.2.2.1).length) (List.drop 0 (id (α:=List Int) s.2.2.2.2.2.2.2.2.2.1))),(List.take ((id (α:=List Int) s.2.2.2.2.2.2.2.2.2.2.1).length) (List.drop 0 (id (α:=List Int) s.2.2.2.2.2.2.2.2.2.2.1))),(id (α:=Q2) s.2.2.2.2.2.2.2.2.2.2.2).1,(id (α:=Q2) s.2.2.2.2.2.2.2.2.2.2.2).2.1,(id (α:=Q2) s.2.2.2.2.2.2.2.2.2.2.2).2.2))))))):Qhr K s x t5 :=
 Loop.of (by kernel_rfl) h
theorem QLf (s:Qc) (h :
 ((((0=0∨0+(s.2.1).length≤0)∧0+(s.2.1).length≤big)∧(Qv (α:=List TOp') s.2.2.1))∧(Qhr K s 0 ([]:List ZI)))):Hold (tawp QnZ (0+0) QYV (TQ 0 0 Qux K) (Qf [(.a (Tup.cells Qi s))])) :=
 Hold.of (by kernel_rfl) h
theorem QPX (s:Qc) (hp:Qv (α:=Qc) s):TCon Tryz.prog 111 [(.a (Tup.cells Qi s))] (QcA (id (α:=Qc) s)):=by
 refine Qo rfl fun hb=>tcg (n:=64) (sg:=QeD.sg) Qj (TOk.cons QAm (TOk.cons QqQ (TOk.cons Qbq (TOk.cons QU0 TOk.nil)))) (by kernel_rfl) (by kernel_rfl) (QLf _ s ?_)
 have hl_s_1:(s.2.1).length≤9223372036854775807:=hb.1.2.1.1
 have hl_s_2:(s.2.2.1).length≤9223372036854775807:=hb.1.2.2.1.1
 have hl_s_5:(s.2.2.2.2.2.1).length≤9223372036854775807:=hb.1.2.2.2.2.2.1.1
 have hl_s_6:(s.2.2.2.2.2.2.1).length≤9223372036854775807:=hb.1.2.2.2.2.2.2.1.1
 have hl_s_7:(s.2.2.2.2.2.2.2.1).length≤9223372036854775807:=hb.1.2.2.2.2.2.2.2.1.1
 have hl_s_8:(s.2.2.2.2.2.2.2.2.1).length≤9223372036854775807:=hb.1.2.2.2.2.2.2.2.2.1.1
 have hl_s_9:(s.2.2.2.2.2.2.2.2.2.1).length≤9223372036854775807:=hb.1.2.2.2.2.2.2.2.2.2.1.1
 have hl_s_10:(s.2.2.2.2.2.2.2.2.2.2.1).length≤9223372036854775807:=hb.1.2.2.2.2.2.2.2.2.2.2.1.1
 have hl_s_11:(s.2.2.2.2.2.2.2.2.2.2.2.1).length≤9223372036854775807:=hb.1.2.2.2.2.2.2.2.2.2.2.2.1.1
 have hp':Sz.sz s≤2147483648:=hp
 have hs:=Ym s
 have l1:=YT (QD s)
 simp only [id,List.drop_zero,List.take_length,true_or,true_and,Nat.zero_add]
 refine ⟨⟨by rw [Q1];((try simp only [sPc,QD,sOps,Qu,Qz,Ql,QH,sX,sY,sG,sD,QG,QF,sSat,QL,QJ,QB,QA] at *);omega),by unfold Qv;((try simp only [sPc,QD,sOps,Qu,Qz,Ql,QH,sX,sY,sG,sD,QG,QF,sSat,QL,QJ,QB,QA] at *);omega)⟩,?_⟩
 refine Jx (l:=s.2.2.2.2.2.1) (A:=fun i v=>Qhr (fun r'=>r'=QcA (id (α:=Qc) s)) s i v) (Q:=fun z=>QcA (s.1,s.2.1,s.2.2.1,s.2.2.2.1,s.2.2.2.2.1,z,s.2.2.2.2.2.2)=QcA (id (α:=Qc) s)) (by ((try simp only [sPc,QD,sOps,Qu,Qz,Ql,QH,sX,sY,sG,sD,QG,QF,sSat,QL,QJ,QB,QA] at *);omega)) (fun k x v hk hl hg hv hx ih=>?_) (fun hq=>?_) (R_eq rfl)
 ·refine QzO (fun r'=>r'=QcA (id (α:=Qc) s)) s _ _ ⟨fun _=>?_,fun h=>by simp at h;omega⟩
  simp only [ZU,ZK] at hx
  rw [Int.toNat_natCast,hg,sc1 (by omega),Q7]
  exact ⟨⟨by omega,hk⟩,⟨by unfold Qv;omega,room (by omega)⟩,ih⟩
 ·refine QzO (fun r'=>r'=QcA (id (α:=Qc) s)) s _ _ ⟨fun h=>by simp at h,fun _=>?_⟩
  simp only [id,List.drop_zero,List.take_length,true_or,true_and,Nat.zero_add]
  exact ⟨by unfold Qv;((try simp only [sPc,QD,sOps,Qu,Qz,Ql,QH,sX,sY,sG,sD,QG,QF,sSat,QL,QJ,QB,QA] at *);omega),⟨by unfold Qv;((try simp only [sPc,QD,sOps,Qu,Qz,Ql,QH,sX,sY,sG,sD,QG,QF,sSat,QL,QJ,QB,QA] at *);omega),by unfold Qv;((try simp only [sPc,QD,sOps,Qu,Qz,Ql,QH,sX,sY,sG,sD,QG,QF,sSat,QL,QJ,QB,QA] at *);omega),by unfold Qv;((try simp only [sPc,QD,sOps,Qu,Qz,Ql,QH,sX,sY,sG,sD,QG,QF,sSat,QL,QJ,QB,QA] at *);omega),by unfold Qv;((try simp only [sPc,QD,sOps,Qu,Qz,Ql,QH,sX,sY,sG,sD,QG,QF,sSat,QL,QJ,QB,QA] at *);omega)⟩,by unfold Qv;simp only [ZU,ZK,J7];((try simp only [sPc,QD,sOps,Qu,Qz,Ql,QH,sX,sY,sG,sD,QG,QF,sSat,QL,QJ,QB,QA] at *);omega),by first | exact hq | trivial⟩
theorem Qhx:Qg Tryz.prog QeD:=Qk fun x h=>QPX x.1 h
def Qcz (t:Qc):TRes:=⟨(.a [(zci t.1),(zcs Qr t.2.1),(zcs ctOp t.2.2.1),(zcb t.2.2.2.1),(zcb t.2.2.2.2.1),(.r QZ 0 0 ((t.2.2.2.2.2.1).length)),(zcs [(.sl [TI])] t.2.2.2.2.2.2.1),(zcs [TI] t.2.2.2.2.2.2.2.1),(zcs [TI] t.2.2.2.2.2.2.2.2.1),(zcs [TI] t.2.2.2.2.2.2.2.2.2.1),(zcs [TI] t.2.2.2.2.2.2.2.2.2.2.1),(zcs [(.sl [TI])] t.2.2.2.2.2.2.2.2.2.2.2.1),(zci t.2.2.2.2.2.2.2.2.2.2.2.2.1),(zcb t.2.2.2.2.2.2.2.2.2.2.2.2.2)]),[(.sl 76 QZ true t.2.2.2.2.2.1)],[],true,[]⟩
def QeB:TRow:=Qh 168 [(.a Qi)] fun x=>(some (Qv (α:=Qc) x.1),Qcz (id (α:=Qc) x.1))
def QnF:List TRow:=[QjM,QrD]
def QzM:TCode :=
 (zsq [(zsq [(.reg [zmv 17 4,zfa 18 1 5,zld 19 18 1,zle 20 19,zbi 21 .lss 17 20]),(.cond 21 .skip (.exit 0))]),(.block 1 (.draw [zfa 24 3 5,zld 25 24 1,zfa 26 1 5,zld 27 26 1,zmv 28 4,zia 29 27 28 QZ,zfa 30 29 0,zld 31 30 1,zfa 32 1 5,zld 33 32 1,zmv 34 4,zia 35 33 34 QZ,zfa 36 35 1,zld 37 36 1,zca 38 210 [37],zop 39 (.build (z0s QZ) [(0,1,31),(1,1,38)]),zop 40 (.bsl 76 QZ [39]),zop 41 (.app 25 40 76 QZ),zfa 42 3 5,zst 42 41 1] [(0,14),(1,14),(2,14),(3,14),(5,14),(6,14),(7,14),(0,16),(1,16)])),(.reg [zmv 22 4,zbi 23 .add 22 (zki 1),zmv 4 23])])
def Qt7:List (Nat × Md):=[(1,.b (zds 14)),(2,.b (zds 14)),(3,.b [.d,.d,.d,.d,.d,.f,.d,.d,.d,.d,.d,.d,.d,.d]),(4,.one .d)]
def QuZ:TCode :=
 (zsq [(.reg [zfa 43 1 6,zld 44 43 1,zca 45 210 [44],zfa 46 3 6,zst 46 45 1]),(.reg [zop 47 (.bsl 3 [TI] []),zfa 48 1 7,zld 49 48 1,zop 50 (.app 47 49 3 [TI]),zfa 51 3 7,zst 51 50 1]),(.reg [zop 52 (.bsl 3 [TI] []),zfa 53 1 8,zld 54 53 1,zop 55 (.app 52 54 3 [TI]),zfa 56 3 8,zst 56 55 1]),(.reg [zop 57 (.bsl 3 [TI] []),zfa 58 1 9,zld 59 58 1,zop 60 (.app 57 59 3 [TI]),zfa 61 3 9,zst 61 60 1]),(.reg [zop 62 (.bsl 3 [TI] []),zfa 63 1 10,zld 64 63 1,zop 65 (.app 62 64 3 [TI]),zfa 66 3 10,zst 66 65 1]),(.reg [zfa 67 1 11,zfa 68 67 0,zld 69 68 1,zca 70 210 [69],zfa 71 3 11,zfa 72 71 0,zst 72 70 1]),(.reg [zLd 73 3 14,zst 2 73 14]),.ret])
def QZE:TCode :=
 (zsq [(.reg [zop 1 (.box 63 0 14),zop 2 (.new 63 (z0s Qi))]),(.reg [zLd 5 1 14,zop 3 (.new 63 (z0s Qi)),zst 3 5 14]),(.reg [zfa 6 1 2,zld 7 6 1,zca 8 176 [7],zfa 9 3 2,zst 9 8 1]),(.reg [zop 10 (.bsl 111 Qr []),zfa 11 1 1,zld 12 11 1,zop 13 (.app 10 12 111 Qr),zfa 14 3 1,zst 14 13 1]),(.reg [zop 15 (.bsl 76 QZ []),zfa 16 3 5,zst 16 15 1]),(zsq [(.reg [zmv 4 (zki 0)]),(.block 0 (.loop Qt7 QzM))]),QuZ])
def Qx5:List (ARv × Md):=[(.l 2 14 true,.b [.d,.d,.d,.d,.d,.o 76,.d,.d,.d,.d,.d,.d,.d,.d])]
def Qx4:Qb:=TQ 0 0 Qx5 K
def QNu:Qb:=Qseq (tawp QnF 0 QuZ (Qx4 K)) (Qx4 K)
def QZ4:Qb:=Qblk 0 (QNu K)
def Qje (s:Qc) (i:Int) (x5:List ZI):Prop:=Loop QnF 0 Qt7 QzM (QZ4 K) ⟨[(1,(.p 0 0 0)),(2,(.p 1 0 0)),(3,(.p 3 0 0)),(4,(zci i))],[(0,(.box (Tup.cells Qi s))),(1,(.box (Tup.cells Qi ((0:Int),[],[],false,false,[],[],[],[],[],[],[],(0:Int),false)))),(2,(.sl 76 QZ true x5)),(3,(.box [(zci s.1),(zcs Qr (List.take (0+(s.2.1).length) (List.drop 0 (s.2.1:List TIns)))),(zcs ctOp (id (α:=List TOp') s.2.2.1)),(zcb s.2.2.2.1),(zcb s.2.2.2.2.1),(.r QZ 2 0 x5.length),(zcs [(.sl [TI])] s.2.2.2.2.2.2.1),(zcs [TI] s.2.2.2.2.2.2.2.1),(zcs [TI] s.2.2.2.2.2.2.2.2.1),(zcs [TI] s.2.2.2.2.2.2.2.2.2.1),(zcs [TI] s.2.2.2.2.2.2.2.2.2.2.1),(zcs [(.sl [TI])] s.2.2.2.2.2.2.2.2.2.2.2.1),(zci s.2.2.2.2.2.2.2.2.2.2.2.2.1),(zcb s.2.2.2.2.2.2.2.2.2.2.2.2.2)]))],4⟩
theorem QzY (s:Qc) (i:Int) (x5:List ZI) (h :
 (zif (decide (i<((s.2.2.2.2.2.1).length:Int))) ((((0:Int)≤i∧Int.toNat i<(s.2.2.2.2.2.1).length)∧(((0:Int)≤i∧Int.toNat i<(s.2.2.2.2.2.1).length)∧((Qv (α:=List (List Int)) ((gtd Zu s.2.2.2.2.2.1 (Int.toNat i)).2))∧((x5.length=x5.length∨x5.length+1≤x5.length)∧x5.length+1≤big))))∧(Qje K s (w64 (i+(1:Int))) (List.take (x5.length+1) ((List.take x5.length x5)++([((gtd Zu s.2.2.2.2.2.1 (Int.toNat i)).1,(id (α:=List (List Int)) ((gtd Zu s.2.2.2.2.2.1 (Int.toNat i)).2)))]))))) ((Qv (α:=List (List Int)) s.2.2.2.2.2.2.1)∧(((0=0∨0+(s.2.2.2.2.2.2.2.1).length≤0)∧0+(s.2.2.2.2.2.2.2.1).length≤big)∧(((0=0∨0+(s.2.2.2.2.2.2.2.2.1).length≤0)∧0+(s.2.2.2.2.2.2.2.2.1).length≤big)∧(((0=0∨0+(s.2.2.2.2.2.2.2.2.2.1).length≤0)∧0+(s.2.2.2.2.2.2.2.2.2.1).length≤big)∧(((0=0∨0+(s.2.2.2.2.2.2.2.2.2.2.1).length≤0)∧0+(s.2.2.2.2.2.2.2.2.2.2.1).length≤big)∧((Qv (α:=List (List Int)) s.2.2.2.2.2.2.2.2.2.2.2.1)∧K (Qcz (s.1,(List.take (0+(s.2.1).length) (List.drop 0 (s.2.1:List TIns))),(id (α:=List TOp') s.2.2.1),s.2.2.2.1,s.2.2.2.2.1,(List.take x5.length x5),(id (α:=List (List Int)) s.2.2.2.2.2.2.1),(List.take (0+(s.2.2.2.2.2.2.2.1).length) (List.drop 0 (s.2.2.2.2.2.2.2.1:List Int))),(List.take (0+(s.2.2.2.2.2.2.2.2.1).length) (List.drop 0 (s.2.2.2.2.2.2.2.2.1:List Int))),(List.take (0+(s.2.2.2.2.2.2.2.2.2.1).length) (List.drop 0 (s.2.2.2.2.2.2.2.2.2.1:List Int))),(List.take (0+(s.2.2.2.2.2.2.2.2.2.2.1).length) (List.drop 0 (s.2.2.2.2.2.2.2.2.2.2.1:List Int))),(id (α:=List (List Int)) s.2.2.2.2.2.2.2.2.2.2.2.1),s.2.2.2.2.2.2.2.2.2.2.2.2.1,s.2.2.2.2.2.2.2.2.2.2.2.2.2)))))))))):Qje K s i x5 :=
 Loop.of (by kernel_rfl) h
theorem QTy (s:Qc) (h :
 ((Qv (α:=List TOp') s.2.2.1)∧(((0=0∨0+(s.2.1).length≤0)∧0+(s.2.1).length≤big)∧(Qje K s 0 ([]:List ZI))))):Hold (tawp QnF (0+0) QZE (TQ 0 0 Qx5 K) (Qf [(.a (Tup.cells Qi s))])) :=
 Hold.of (by kernel_rfl) h
theorem QLZ (s:Qc) (hp:Qv (α:=Qc) s):TCon Tryz.prog 168 [(.a (Tup.cells Qi s))] (Qcz (id (α:=Qc) s)):=by
 refine Qo rfl fun hb=>tcg (n:=74) (sg:=QeB.sg) Qj (TOk.cons QsX (TOk.cons QLM TOk.nil)) (by kernel_rfl) (by kernel_rfl) (QTy _ s ?_)
 have hl_s_1:(s.2.1).length≤9223372036854775807:=hb.1.2.1.1
 have hl_s_2:(s.2.2.1).length≤9223372036854775807:=hb.1.2.2.1.1
 have hl_s_5:(s.2.2.2.2.2.1).length≤9223372036854775807:=hb.1.2.2.2.2.2.1.1
 have hl_s_6:(s.2.2.2.2.2.2.1).length≤9223372036854775807:=hb.1.2.2.2.2.2.2.1.1
 have hl_s_7:(s.2.2.2.2.2.2.2.1).length≤9223372036854775807:=hb.1.2.2.2.2.2.2.2.1.1
 have hl_s_8:(s.2.2.2.2.2.2.2.2.1).length≤9223372036854775807:=hb.1.2.2.2.2.2.2.2.2.1.1
 have hl_s_9:(s.2.2.2.2.2.2.2.2.2.1).length≤9223372036854775807:=hb.1.2.2.2.2.2.2.2.2.2.1.1
 have hl_s_10:(s.2.2.2.2.2.2.2.2.2.2.1).length≤9223372036854775807:=hb.1.2.2.2.2.2.2.2.2.2.2.1.1
 have hl_s_11:(s.2.2.2.2.2.2.2.2.2.2.2.1).length≤9223372036854775807:=hb.1.2.2.2.2.2.2.2.2.2.2.2.1.1
 have hp':Sz.sz s≤2147483648:=hp
 have hs:=Ym s
 have l1:=YT (QD s)
 have l2:=ZW (sX s)
 have l3:=ZW (sY s)
 have l4:=ZW (sG s)
 have l5:=ZW (sD s)
 simp only [id,List.drop_zero,List.take_length,true_or,true_and,Nat.zero_add]
 refine ⟨by unfold Qv;((try simp only [sPc,QD,sOps,Qu,Qz,Ql,QH,sX,sY,sG,sD,QG,QF,sSat,QL,QJ,QB,QA] at *);omega),by rw [Q1];((try simp only [sPc,QD,sOps,Qu,Qz,Ql,QH,sX,sY,sG,sD,QG,QF,sSat,QL,QJ,QB,QA] at *);omega),?_⟩
 refine Jx (l:=s.2.2.2.2.2.1) (A:=fun i v=>Qje (fun r'=>r'=Qcz (id (α:=Qc) s)) s i v) (Q:=fun z=>Qcz (s.1,s.2.1,s.2.2.1,s.2.2.2.1,s.2.2.2.2.1,z,s.2.2.2.2.2.2)=Qcz (id (α:=Qc) s)) (by ((try simp only [sPc,QD,sOps,Qu,Qz,Ql,QH,sX,sY,sG,sD,QG,QF,sSat,QL,QJ,QB,QA] at *);omega)) (fun k x v hk hl hg hv hx ih=>?_) (fun hq=>?_) (R_eq rfl)
 ·refine QzY (fun r'=>r'=Qcz (id (α:=Qc) s)) s _ _ ⟨fun _=>?_,fun h=>by simp at h;omega⟩
  simp only [ZU,ZK] at hx
  rw [Int.toNat_natCast,hg,sc1 (by omega),Q7]
  exact ⟨⟨⟨by omega,hk⟩,⟨by omega,hk⟩,by unfold Qv;omega,room (by omega)⟩,ih⟩
 ·refine QzY (fun r'=>r'=Qcz (id (α:=Qc) s)) s _ _ ⟨fun h=>by simp at h,fun _=>?_⟩
  simp only [id,List.drop_zero,List.take_length,true_or,true_and,Nat.zero_add]
  exact ⟨by unfold Qv;((try simp only [sPc,QD,sOps,Qu,Qz,Ql,QH,sX,sY,sG,sD,QG,QF,sSat,QL,QJ,QB,QA] at *);omega),by rw [Q1];((try simp only [sPc,QD,sOps,Qu,Qz,Ql,QH,sX,sY,sG,sD,QG,QF,sSat,QL,QJ,QB,QA] at *);omega),by rw [Q1];((try simp only [sPc,QD,sOps,Qu,Qz,Ql,QH,sX,sY,sG,sD,QG,QF,sSat,QL,QJ,QB,QA] at *);omega),by rw [Q1];((try simp only [sPc,QD,sOps,Qu,Qz,Ql,QH,sX,sY,sG,sD,QG,QF,sSat,QL,QJ,QB,QA] at *);omega),by rw [Q1];((try simp only [sPc,QD,sOps,Qu,Qz,Ql,QH,sX,sY,sG,sD,QG,QF,sSat,QL,QJ,QB,QA] at *);omega),by unfold Qv;((try simp only [sPc,QD,sOps,Qu,Qz,Ql,QH,sX,sY,sG,sD,QG,QF,sSat,QL,QJ,QB,QA] at *);omega),by first | exact hq | trivial⟩
theorem Qh2:Qg Tryz.prog QeB:=Qk fun x h=>QLZ x.1 h
def QbV (t:Qc):TRes:=zra (.a (Tup.cells Qi t))
def Qrd:TRow:=Qh 44 [(.a Qi),(.c TI),(.c (.sl [TI])),(.c (.sl [TI]))] fun x=>(some (QcB x.1 x.2.1 x.2.2.1 x.2.2.2.1),QbV (Yn x.1 x.2.1 x.2.2.1 x.2.2.2.1))
def QxJ:List TRow:=[QeD,QeA,QdY,Qe2,Qaa,Qgl,Qd2,QjY,Qgw,QaJ,Qqq,Qes]
def QCZ:TCode :=
 (zsq [(.draw [zfa 69 9 5,zld 70 69 1,zmv 71 1,zmv 72 14,zca 73 86 [72],zop 74 (.build (z0s QZ) [(0,1,71),(1,1,73)]),zop 75 (.bsl 76 QZ [74]),zop 76 (.app 70 75 76 QZ),zfa 77 9 5,zst 77 76 1] [(0,4),(1,4),(0,6),(1,6)]),(.reg [zfa 78 9 7,zst 78 (.k (.n [TI])) 1]),(.reg [zfa 79 9 11,zfa 80 79 2,zld 81 80 1,zmv 82 81,.grp 82 false [zmv 83 12] 84 83,zfa 85 9 11,zfa 86 85 2,zst 86 84 1]),(zsq [(.reg [zfa 87 4 3,zld 88 87 1,zno 89 88]),(.cond 89 (zsq [(.reg [zmv 90 13,zca 91 119 [90],zfa 92 9 8,zst 92 91 1]),(.reg [zLd 93 9 14,zst 8 93 14]),.ret]) .skip)]),(.reg [zmv 95 13,zmv 96 3,zca 97 120 [95,96],zmv 94 97,zex 98 94 0,zex 99 94 1,zmv 15 98,zmv 16 99]),(.reg [zfa 101 9 11,zfa 102 101 1,zld 103 102 1,zmv 104 15,zca 105 121 [103,104],zmv 100 105,zex 106 100 0,zex 107 100 1,zmv 17 106,zmv 18 107]),(.reg [zmv 108 17,zfa 109 9 11,zfa 110 109 1,zst 110 108 1]),(.reg [zfa 111 9 11,zfa 112 111 2,zld 113 112 1,zmv 114 113,.grp 114 false [zmv 115 16] 116 115,zmv 117 116,.grp 117 false [zmv 118 18] 119 118,zfa 120 9 11,zfa 121 120 2,zst 121 119 1]),(.reg [zLd 122 9 14,zst 8 122 14]),.ret])
def QJq:List (Nat × Md):=[(1,.one .d),(3,.one .d),(4,.b (zds 14)),(8,.b (zds 14)),(9,.b [.d,.d,.d,.d,.d,.f,.d,.d,.d,.d,.d,.d,.d,.d]),(12,.one .d),(13,.one .d),(14,.one .d)]
def Q3s:TCode:=.wk QJq QCZ
def QUi:TCode :=
 (zsq [(.reg [zop 4 (.box 63 0 14),zop 8 (.new 63 (z0s Qi))]),(.reg [zLd 19 4 14,zca 20 111 [19],zop 9 (.new 63 (z0s Qi)),zst 9 20 14]),(.reg [zLd 21 4 14,zca 22 112 [21],zop 10 (.new 26 [(.n ctOp)]),zst 10 22 1]),(zsq [(.reg [zLd 23 4 14,zca 24 113 [23],zno 25 24,zmv 26 25,.grp 26 false [zmv 27 2,zLd 28 10 1,zca 29 115 [28],zca 30 114 [27,29],zno 31 30] 32 31,zmv 33 32,.grp 33 false [zfa 34 4 5,zld 35 34 1,zmv 36 1,zca 37 116 [35,36],zbi 38 .geq 37 (zki 0)] 39 38]),(.cond 39 (zsq [(.reg [zLd 40 9 14,zst 8 40 14]),.ret]) .skip)]),(zsq [(.reg [zfa 41 4 3,zld 42 41 1,zmv 43 42,.grp 43 true [zmv 44 3,zLd 45 10 1,zca 46 117 [45],zca 47 114 [44,46],zno 48 47] 49 48]),(.cond 49 (zsq [(.reg [zLd 50 9 14,zst 8 50 14]),.ret]) .skip)]),(.reg [zLd 52 10 1,zmv 53 2,zca 54 118 [52,53],zmv 51 54,zex 55 51 0,zex 56 51 1,zmv 11 55,zmv 12 56]),(.reg [zmv 57 11,zfa 58 4 2,zld 59 58 1,zle 60 59,zia 61 57 60 [(.sl [TI])],zfa 62 61 0,zld 63 62 1,zmv 13 63]),(.reg [zmv 64 11,zmv 14 64]),(zsq [(.reg [zfa 65 4 4,zld 66 65 1]),(.cond 66 (.reg [zmv 67 11,zop 68 (.slc 67 none (some (zki 1)) [(.sl [TI])]),zmv 14 68]) .skip)]),Q3s])
def QwF:List (ARv × Md):=[(.l 8 14 true,.b (zds 14))]
def QWT:Qb:=TQ 0 0 QwF K
def QkA (s:Qc) (m:Int) (x:List Int) (t:List Int) (kept:List (List Int)):Prop:=let z1:=id (α:=Qc) s
 let z2:=List.take ((z1.2.2.2.2.2.1).length) (z1.2.2.2.2.2.1)
 tawp QxJ 0 QCZ (QWT K) ⟨[(1,(zci m)),(3,(zcs [TI] t)),(4,(.p 0 0 0)),(8,(.p 1 0 0)),(9,(.p 3 0 0)),(12,(zcb ((JD (ZS s) x).2))),(13,(zcs [TI] (gtd ([]:List Int) ((JD (ZS s) x).1) (Int.toNat ((s.2.2.1).length:Int))))),(14,(zcs [(.sl [TI])] kept))],[(0,(.box (Tup.cells Qi s))),(1,(.box (Tup.cells Qi ((0:Int),[],[],false,false,[],[],[],[],[],[],[],(0:Int),false)))),(2,(.sl 76 QZ true z2)),(3,(.box [(zci (z1.1)),(zcs Qr (z1.2.1)),(zcs ctOp (z1.2.2.1)),(zcb (z1.2.2.2.1)),(zcb (z1.2.2.2.2.1)),(.r QZ 2 0 (z2.length)),(zcs [(.sl [TI])] (z1.2.2.2.2.2.2.1)),(zcs [TI] (z1.2.2.2.2.2.2.2.1)),(zcs [TI] (z1.2.2.2.2.2.2.2.2.1)),(zcs [TI] (z1.2.2.2.2.2.2.2.2.2.1)),(zcs [TI] (z1.2.2.2.2.2.2.2.2.2.2.1)),(zcs [(.sl [TI])] (z1.2.2.2.2.2.2.2.2.2.2.2.1)),(zci (z1.2.2.2.2.2.2.2.2.2.2.2.2.1)),(zcb (z1.2.2.2.2.2.2.2.2.2.2.2.2.2))]))],4⟩
theorem QLu (s:Qc) (m:Int) (x:List Int) (t:List Int) (kept:List (List Int)) (h :
 let z2:=id (α:=Qc) s
 let z1:=List.take ((z2.2.2.2.2.2.1).length) (z2.2.2.2.2.2.1)
 let z5:=JD (ZS s) x
 let z3:=gtd ([]:List Int) (z5.1) (Int.toNat ((s.2.2.1).length:Int))
 let z4:=Q9 (z2.2.2.2.2.2.2.2.2.2.2.2.2.1) ((Yb z3 t).1)
 (((Qv (α:=List (List Int)) kept)∧((z1.length=z1.length∨z1.length+1≤z1.length)∧z1.length+1≤big))∧(zif (!s.2.2.2.1) ((Qv (α:=List Int) z3)∧K (QbV (z2.1,z2.2.1,z2.2.2.1,z2.2.2.2.1,z2.2.2.2.2.1,(List.take (z1.length+1) (List.drop 0 ((List.take (z1.length) z1)++([(m,(id (α:=List (List Int)) kept))])))),z2.2.2.2.2.2.2.1,[],(List.take ((id (α:=List Int) z3).length) (List.drop 0 (id (α:=List Int) z3))),z2.2.2.2.2.2.2.2.2.2.1,z2.2.2.2.2.2.2.2.2.2.2.1,z2.2.2.2.2.2.2.2.2.2.2.2.1,z2.2.2.2.2.2.2.2.2.2.2.2.2.1,((z2.2.2.2.2.2.2.2.2.2.2.2.2.2)||(z5.2))))) (K (QbV (z2.1,z2.2.1,z2.2.2.1,z2.2.2.2.1,z2.2.2.2.2.1,(List.take (z1.length+1) (List.drop 0 ((List.take (z1.length) z1)++([(m,(id (α:=List (List Int)) kept))])))),z2.2.2.2.2.2.2.1,[],z2.2.2.2.2.2.2.2.2.1,z2.2.2.2.2.2.2.2.2.2.1,z2.2.2.2.2.2.2.2.2.2.2.1,z2.2.2.2.2.2.2.2.2.2.2.2.1,z4.1,((((z2.2.2.2.2.2.2.2.2.2.2.2.2.2)||(z5.2))||((Yb z3 t).2))||(z4.2)))))))):Hold (QkA K s m x t kept) :=
 Hold.of (by kernel_rfl) h
theorem QX0 (s:Qc) (m:Int) (x:List Int) (t:List Int) (h :
 let z1:=id (α:=Qc) s
 let z2:=JD (ZS s) x
 let z3:=List.take ((z1.2.2.2.2.2.1).length) (List.drop 0 (z1.2.2.2.2.2.1))
 ((Qv (α:=Qc) s)∧(zif (((!(QU s))||(!(Qt x (Za (ZS s)))))||(decide ((QO s.2.2.2.2.2.1 m)≥(0:Int)))) (K (QbV (z1.1,z1.2.1,z1.2.2.1,z1.2.2.2.1,z1.2.2.2.2.1,z3,z1.2.2.2.2.2.2.1,z1.2.2.2.2.2.2.2.1,z1.2.2.2.2.2.2.2.2.1,z1.2.2.2.2.2.2.2.2.2.1,z1.2.2.2.2.2.2.2.2.2.2.1,z1.2.2.2.2.2.2.2.2.2.2.2.1,z1.2.2.2.2.2.2.2.2.2.2.2.2.1,z1.2.2.2.2.2.2.2.2.2.2.2.2.2))) (zif (s.2.2.2.1&&(!(Qt t (Q8 (ZS s))))) (K (QbV (z1.1,z1.2.1,z1.2.2.1,z1.2.2.2.1,z1.2.2.2.2.1,z3,z1.2.2.2.2.2.2.1,z1.2.2.2.2.2.2.2.1,z1.2.2.2.2.2.2.2.2.1,z1.2.2.2.2.2.2.2.2.2.1,z1.2.2.2.2.2.2.2.2.2.2.1,z1.2.2.2.2.2.2.2.2.2.2.2.1,z1.2.2.2.2.2.2.2.2.2.2.2.2.1,z1.2.2.2.2.2.2.2.2.2.2.2.2.2))) (((0:Int)≤((s.2.2.1).length:Int)∧Int.toNat ((s.2.2.1).length:Int)<(z2.1).length)∧(zif s.2.2.2.2.1 (((0:Int)≤(0:Int)∧(0:Int)≤(1:Int)∧(1:Int)≤((z2.1).length:Int))∧(QkA K s m x t (List.take (Int.toNat (1:Int)-Int.toNat (0:Int)) (List.drop (Int.toNat (0:Int)) (z2.1))))) (QkA K s m x t (z2.1)))))))):Hold (tawp QxJ (0+0) QUi (TQ 0 0 QwF K) (Qf [(.a (Tup.cells Qi s)),(.c TI m),(.c (.sl [TI]) x),(.c (.sl [TI]) t)])) :=
 Hold.of (by kernel_rfl) h
theorem QTm (s:Qc) (m:Int) (x:List Int) (t:List Int) (hp:QcB s m x t):TCon Tryz.prog 44 [(.a (Tup.cells Qi s)),(.c TI m),(.c (.sl [TI]) x),(.c (.sl [TI]) t)] (QbV (Yn s m x t)):=by
 refine Qo rfl fun hb=>tcg (n:=123) (sg:=Qrd.sg) Qj (TOk.cons Qhx (TOk.cons Qjd (TOk.cons QkP (TOk.cons Qi6 (TOk.cons Qay (TOk.cons Qqo (TOk.cons Qlq (TOk.cons QsV (TOk.cons QqQ (TOk.cons Qbq (TOk.cons QJF (TOk.cons QkV TOk.nil)))))))))))) (by kernel_rfl) (by kernel_rfl) (QX0 _ s m x t ?_)
 have hl_s_1:(s.2.1).length≤9223372036854775807:=hb.1.2.1.1
 have hl_s_2:(s.2.2.1).length≤9223372036854775807:=hb.1.2.2.1.1
 have hl_s_5:(s.2.2.2.2.2.1).length≤9223372036854775807:=hb.1.2.2.2.2.2.1.1
 have hl_s_6:(s.2.2.2.2.2.2.1).length≤9223372036854775807:=hb.1.2.2.2.2.2.2.1.1
 have hl_s_7:(s.2.2.2.2.2.2.2.1).length≤9223372036854775807:=hb.1.2.2.2.2.2.2.2.1.1
 have hl_s_8:(s.2.2.2.2.2.2.2.2.1).length≤9223372036854775807:=hb.1.2.2.2.2.2.2.2.2.1.1
 have hl_s_9:(s.2.2.2.2.2.2.2.2.2.1).length≤9223372036854775807:=hb.1.2.2.2.2.2.2.2.2.2.1.1
 have hl_s_10:(s.2.2.2.2.2.2.2.2.2.2.1).length≤9223372036854775807:=hb.1.2.2.2.2.2.2.2.2.2.2.1.1
 have hl_s_11:(s.2.2.2.2.2.2.2.2.2.2.2.1).length≤9223372036854775807:=hb.1.2.2.2.2.2.2.2.2.2.2.2.1.1
 have hl_x:x.length≤9223372036854775807:=hb.2.2.1.1
 have hl_t:t.length≤9223372036854775807:=hb.2.2.2.1.1
 conv=>zeta
 have hp':Sz.sz s≤2147483648:=hp
 have hs:=Ym s
 have l1:=YT (Ql s)
 have e:=Qxx s m x t
 simp only [id,List.drop_zero,List.take_length,true_or,true_and,Nat.zero_add,Int.toNat_natCast]
 refine ⟨hp,fun h=>R_eq ?_,fun h=>⟨fun h2=>R_eq ?_,fun h2=>?_⟩⟩
 ·rw [h] at e;rw [Qns (by rw [e];simp)]
 ·rw [h2] at e;rw [Qns (by rw [e];simp)]
 rw [h,h2] at e
 have e:JG s m x t=true:=by simpa using e
 have e2:=e
 simp only [JG,Bool.and_eq_true] at e2
 have hm:=JE e2.1.1.1
 have hml:=Yh hm
 have ei:JD (ZS s) x=QI (sOps s) x:=QmV hm e2.1.1.2
 have hil:=Qdp (sOps s) x
 have hx6:=Qam e2.1.1.2
 have hsz:=Qe9 (sOps s) x
 have hout:=QDu e
 have hgs:=QbD [] (QI (sOps s) x).1 (sOps s).length
 have e0:Sz.sz ([]:List Int)=0:=rfl
 have key:∀ kept,kept=(if Qz s then (QI (sOps s) x).1.take 1 else (QI (sOps s) x).1)→QkA (fun r'=>r'=QbV (Yn s m x t)) s m x t kept:=by
  intro kept hk
  have hks:Sz.sz kept≤Sz.sz (QI (sOps s) x).1:=by
   rw [hk];split
   ·exact QiK _ _
   ·exact Nat.le_refl _
  refine (QLu (fun r'=>r'=QbV (Yn s m x t)) s m x t kept ?_).h
  conv=>zeta
  rw [ei]
  simp only [id,List.drop_zero,List.take_length,true_or,true_and,Nat.zero_add,Int.toNat_natCast,Q7]
  refine ⟨⟨by unfold Qv;((try simp only [sPc,QD,sOps,Qu,Qz,Ql,QH,sX,sY,sG,sD,QG,QF,sSat,QL,QJ,QB,QA] at *);omega),by rw [Q1];((try simp only [sPc,QD,sOps,Qu,Qz,Ql,QH,sX,sY,sG,sD,QG,QF,sSat,QL,QJ,QB,QA] at *);omega)⟩,fun hl=>⟨by unfold Qv;((try simp only [sPc,QD,sOps,Qu,Qz,Ql,QH,sX,sY,sG,sD,QG,QF,sSat,QL,QJ,QB,QA] at *);omega),R_eq ?_⟩,fun hl=>R_eq ?_⟩
  ·have hl:s.2.2.2.1=false:=by simpa using hl
   rw [hout,← hk]
   simp only [Qu,hl]
   simp [List.take_of_length_le]
  ·have hl:s.2.2.2.1=true:=by simpa using hl
   rw [hout,← hk]
   simp only [Qu,hl]
   simp [Bool.or_assoc,List.take_of_length_le]
 rw [ei]
 refine ⟨⟨by omega,by ((try simp only [sPc,QD,sOps,Qu,Qz,Ql,QH,sX,sY,sG,sD,QG,QF,sSat,QL,QJ,QB,QA] at *);omega)⟩,fun hr=>⟨by ((try simp only [sPc,QD,sOps,Qu,Qz,Ql,QH,sX,sY,sG,sD,QG,QF,sSat,QL,QJ,QB,QA] at *);omega),key _ ?_⟩,fun hr=>key _ ?_⟩
 ·rw [if_pos hr];rfl
 ·rw [if_neg (by rw [show Qz s=false from hr];simp)]
theorem QSW:Qg Tryz.prog Qrd:=Qk fun x h=>QTm x.1 x.2.1 x.2.2.1 x.2.2.2.1 h
def Qb6 (t:Qc):TRes:=zra (.a (Tup.cells Qi t))
def QrU:TRow:=Qh 172 [(.a Qi),(.c TI),(.c (.sl [TI])),(.c (.sl [TI]))] fun x=>(some (QcB x.1 x.2.1 x.2.2.1 x.2.2.2.1),Qb6 (Yn x.1 x.2.1 x.2.2.1 x.2.2.2.1))
def Qpo:List TRow:=[QeB,QeK,Jd,Qgc,Qli,Qpb,Qc1]
def QwC:TCode :=
 (zsq [(.reg [zfa 130 9 5,zld 131 130 1,zmv 132 1,zmv 133 10,zop 134 (.build (z0s QZ) [(0,1,132),(1,1,133)]),zop 135 (.bsl 76 QZ [134]),zop 136 (.app 131 135 76 QZ),zfa 137 9 5,zst 137 136 1]),(.reg [zLd 138 9 14,zst 8 138 14]),.ret])
def QOg:List (Nat × Md):=[(1,.one .d),(8,.b (zds 14)),(9,.b [.d,.d,.d,.d,.d,.f,.d,.d,.d,.d,.d,.d,.d,.d]),(10,.one .d)]
def QZy:TCode:=.wk QOg QwC
def Qwu:TCode :=
 (zsq [(zsq [(.reg [zfa 126 4 4,zld 127 126 1]),(.cond 127 (.reg [zmv 128 10,zop 129 (.slc 128 none (some (zki 1)) [(.sl [TI])]),zmv 10 129]) .skip)]),QZy])
def QNq:List (Nat × Md):=[(1,.one .d),(4,.b (zds 14)),(8,.b (zds 14)),(9,.b [.d,.d,.d,.d,.d,.f,.d,.d,.d,.d,.d,.d,.d,.d]),(10,.one .d)]
def QQy:TCode:=.wk QNq Qwu
def QJ3:TCode :=
 (zsq [(.reg [zop 4 (.box 63 0 14),zop 8 (.new 63 (z0s Qi))]),(.reg [zLd 17 4 14,zca 18 168 [17],zop 9 (.new 63 (z0s Qi)),zst 9 18 14]),(zsq [(.reg [zLd 19 4 14,zca 20 41 [19],zno 21 20,zmv 22 21,.grp 22 false [zmv 23 2,zca 24 42 [23],zno 25 24] 26 25,zmv 27 26,.grp 27 false [zmv 28 2,zle 29 28,zfa 30 4 2,zld 31 30 1,zia 32 31 (zki 0) ctOp,zfa 33 32 1,zld 34 33 1,zbi 35 .neq 29 34] 36 35,zmv 37 36,.grp 37 false [zfa 38 4 5,zld 39 38 1,zmv 40 1,zca 41 43 [39,40],zbi 42 .geq 41 (zki 0)] 43 42,zmv 44 43,.grp 44 false [zfa 45 4 3,zld 46 45 1,zmv 47 46,.grp 47 true [zmv 48 3,zca 49 42 [48],zno 50 49,zmv 51 50,.grp 51 false [zmv 52 3,zle 53 52,zfa 54 4 2,zld 55 54 1,zfa 56 4 2,zld 57 56 1,zle 58 57,zbi 59 .sub 58 (zki 1),zia 60 55 59 ctOp,zfa 61 60 2,zld 62 61 1,zbi 63 .neq 53 62] 64 63] 65 64] 66 65]),(.cond 66 (zsq [(.reg [zLd 67 9 14,zst 8 67 14]),.ret]) .skip)]),(.reg [zfa 69 4 2,zld 70 69 1,zmv 71 2,zca 72 163 [70,71],zmv 68 72,zex 73 68 0,zex 74 68 1,zmv 10 73,zmv 11 74]),(.reg [zmv 75 10,zmv 76 10,zle 77 76,zbi 78 .sub 77 (zki 1),zia 79 75 78 [(.sl [TI])],zfa 80 79 0,zld 81 80 1,zmv 12 81]),(.reg [zop 82 (.bsl 3 [TI] []),zfa 83 9 7,zst 83 82 1]),(.reg [zfa 84 4 11,zfa 85 84 2,zld 86 85 1,zmv 87 86,.grp 87 false [zmv 88 11] 89 88,zfa 90 9 11,zfa 91 90 2,zst 91 89 1]),(zsq [(.reg [zfa 92 4 3,zld 93 92 1]),(.cond 93 (zsq [(.reg [zmv 95 12,zmv 96 3,zca 97 164 [95,96],zmv 94 97,zex 98 94 0,zex 99 94 1,zmv 13 98,zmv 14 99]),(.reg [zfa 101 4 11,zfa 102 101 1,zld 103 102 1,zmv 104 13,zca 105 162 [103,104],zmv 100 105,zex 106 100 0,zex 107 100 1,zmv 15 106,zmv 16 107]),(.reg [zmv 108 15,zfa 109 9 11,zfa 110 109 1,zst 110 108 1]),(.reg [zfa 111 9 11,zfa 112 111 2,zld 113 112 1,zmv 114 113,.grp 114 false [zmv 115 14] 116 115,zmv 117 116,.grp 117 false [zmv 118 16] 119 118,zfa 120 9 11,zfa 121 120 2,zst 121 119 1])]) (.reg [zop 122 (.bsl 3 [TI] []),zmv 123 12,zop 124 (.app 122 123 3 [TI]),zfa 125 9 8,zst 125 124 1]))]),QQy])
def QyT:List (ARv × Md):=[(.l 8 14 true,.b (zds 14))]
def Qxy:Qb:=TQ 0 0 QyT K
def Qlu (s:Qc) (m:Int) (y8:List Int) (y12:Int) (y13:Bool) (r:List (List Int)):Prop:=let z1:=id (α:=Qc) s
 let z2:=List.take ((z1.2.2.2.2.2.1).length) (z1.2.2.2.2.2.1)
 tawp Qpo 0 QwC (Qxy K) ⟨[(1,(zci m)),(8,(.p 0 0 0)),(9,(.p 2 0 0)),(10,(zcs [(.sl [TI])] r))],[(0,(.box (Tup.cells Qi ((0:Int),[],[],false,false,[],[],[],[],[],[],[],(0:Int),false)))),(1,(.sl 76 QZ true (List.take (z2.length) z2))),(2,(.box [(zci (z1.1)),(zcs Qr (z1.2.1)),(zcs ctOp (z1.2.2.1)),(zcb (z1.2.2.2.1)),(zcb (z1.2.2.2.2.1)),(.r QZ 1 0 ((List.take (z2.length) z2).length)),(zcs [(.sl [TI])] (z1.2.2.2.2.2.2.1)),(zcs [TI] ([]:List Int)),(zcs [TI] y8),(zcs [TI] (z1.2.2.2.2.2.2.2.2.2.1)),(zcs [TI] (z1.2.2.2.2.2.2.2.2.2.2.1)),(zcs [(.sl [TI])] (z1.2.2.2.2.2.2.2.2.2.2.2.1)),(zci y12),(zcb y13)]))],3⟩
def Qj3 (s:Qc) (m:Int) (x:List Int) (y8:List Int) (y12:Int) (y13:Bool):Prop:=let z1:=id (α:=Qc) s
 let z2:=List.take ((z1.2.2.2.2.2.1).length) (z1.2.2.2.2.2.1)
 tawp Qpo 0 Qwu (Qxy K) ⟨[(1,(zci m)),(4,(.p 0 0 0)),(8,(.p 1 0 0)),(9,(.p 3 0 0)),(10,(zcs [(.sl [TI])] ((QI s.2.2.1 x).1)))],[(0,(.box (Tup.cells Qi s))),(1,(.box (Tup.cells Qi ((0:Int),[],[],false,false,[],[],[],[],[],[],[],(0:Int),false)))),(2,(.sl 76 QZ true z2)),(3,(.box [(zci (z1.1)),(zcs Qr (z1.2.1)),(zcs ctOp (z1.2.2.1)),(zcb (z1.2.2.2.1)),(zcb (z1.2.2.2.2.1)),(.r QZ 2 0 (z2.length)),(zcs [(.sl [TI])] (z1.2.2.2.2.2.2.1)),(zcs [TI] ([]:List Int)),(zcs [TI] y8),(zcs [TI] (z1.2.2.2.2.2.2.2.2.2.1)),(zcs [TI] (z1.2.2.2.2.2.2.2.2.2.2.1)),(zcs [(.sl [TI])] (z1.2.2.2.2.2.2.2.2.2.2.2.1)),(zci y12),(zcb y13)]))],4⟩
theorem QTT (s:Qc) (m:Int) (y8:List Int) (y12:Int) (y13:Bool) (r:List (List Int)) (h :
 let z2:=id (α:=Qc) s
 let z3:=List.take ((z2.2.2.2.2.2.1).length) (z2.2.2.2.2.2.1)
 let z1:=List.take (z3.length) z3
 (((z1.length=z1.length∨z1.length+1≤z1.length)∧z1.length+1≤big)∧K (Qb6 (z2.1,z2.2.1,z2.2.2.1,z2.2.2.2.1,z2.2.2.2.2.1,(List.take (z1.length+1) (List.drop 0 ((List.take (z1.length) z1)++([(m,r)])))),z2.2.2.2.2.2.2.1,([]:List Int),y8,z2.2.2.2.2.2.2.2.2.2.1,z2.2.2.2.2.2.2.2.2.2.2.1,z2.2.2.2.2.2.2.2.2.2.2.2.1,y12,y13)))):Hold (Qlu K s m y8 y12 y13 r) :=
 Hold.of (by kernel_rfl) h
theorem QS4 (s:Qc) (m:Int) (x:List Int) (y8:List Int) (y12:Int) (y13:Bool) (h :
 (zif s.2.2.2.2.1 (((0:Int)≤(0:Int)∧(0:Int)≤(1:Int)∧(1:Int)≤(((QI s.2.2.1 x).1).length:Int))∧(Qlu K s m y8 y12 y13 (List.take (Int.toNat (1:Int)-Int.toNat (0:Int)) (List.drop (Int.toNat (0:Int)) ((QI s.2.2.1 x).1))))) (Qlu K s m y8 y12 y13 ((QI s.2.2.1 x).1)))):Hold (Qj3 K s m x y8 y12 y13) :=
 Hold.of (by kernel_rfl) h
theorem QYf (s:Qc) (m:Int) (x:List Int) (t:List Int) (h :
 let z2:=id (α:=Qc) s
 let z3:=QI s.2.2.1 x
 let z1:=gtd ([]:List Int) (z3.1) (Int.toNat (w64 (((z3.1).length:Int)-(1:Int))))
 let z4:=Q9 s.2.2.2.2.2.2.2.2.2.2.2.2.1 ((Yb z1 t).1)
 let z5:=w64 (((s.2.2.1).length:Int)-(1:Int))
 ((Qv (α:=Qc) s)∧((((!((!(QU s))||(!(QN x))))=true→((0:Int)≤(0:Int)∧Int.toNat (0:Int)<(s.2.2.1).length))∧((!((((!(QU s))||(!(QN x)))||((x.length:Int) != ((gtd dOp s.2.2.1 (Int.toNat (0:Int))).2.1)))||(decide ((QO s.2.2.2.2.2.1 m)≥(0:Int)))))=true→(s.2.2.2.1=true→((!(!(QN t)))=true→((0:Int)≤w64 (((s.2.2.1).length:Int)-(1:Int))∧Int.toNat z5<(s.2.2.1).length)))))∧(zif (((((!(QU s))||(!(QN x)))||((x.length:Int) != ((gtd dOp s.2.2.1 (Int.toNat (0:Int))).2.1)))||(decide ((QO s.2.2.2.2.2.1 m)≥(0:Int))))||(s.2.2.2.1&&((!(QN t))||((t.length:Int) != ((gtd dOp s.2.2.1 (Int.toNat z5)).2.2.1))))) (K (Qb6 (z2.1,z2.2.1,z2.2.2.1,z2.2.2.2.1,z2.2.2.2.2.1,(List.take ((z2.2.2.2.2.2.1).length) (List.drop 0 (z2.2.2.2.2.2.1))),z2.2.2.2.2.2.2.1,z2.2.2.2.2.2.2.2.1,z2.2.2.2.2.2.2.2.2.1,z2.2.2.2.2.2.2.2.2.2.1,z2.2.2.2.2.2.2.2.2.2.2.1,z2.2.2.2.2.2.2.2.2.2.2.2.1,z2.2.2.2.2.2.2.2.2.2.2.2.2.1,z2.2.2.2.2.2.2.2.2.2.2.2.2.2))) ((Qij s.2.2.1 x)∧(((0:Int)≤w64 (((z3.1).length:Int)-(1:Int))∧Int.toNat (w64 (((z3.1).length:Int)-(1:Int)))<(z3.1).length)∧(zif s.2.2.2.1 (Qj3 K s m x (z2.2.2.2.2.2.2.2.2.1) (z4.1) (((s.2.2.2.2.2.2.2.2.2.2.2.2.2||(z3.2))||((Yb z1 t).2))||(z4.2))) (((0=0∨0+z1.length≤0)∧0+z1.length≤big)∧(Qj3 K s m x (List.take (0+z1.length) (List.drop 0 z1)) (z2.2.2.2.2.2.2.2.2.2.2.2.2.1) (s.2.2.2.2.2.2.2.2.2.2.2.2.2||(z3.2))))))))))):Hold (tawp Qpo (0+0) QJ3 (TQ 0 0 QyT K) (Qf [(.a (Tup.cells Qi s)),(.c TI m),(.c (.sl [TI]) x),(.c (.sl [TI]) t)])) :=
 Hold.of (by kernel_rfl) h
theorem QKe (s:Qc) (m:Int) (x:List Int) (t:List Int) (hp:QcB s m x t):TCon Tryz.prog 172 [(.a (Tup.cells Qi s)),(.c TI m),(.c (.sl [TI]) x),(.c (.sl [TI]) t)] (Qb6 (Yn s m x t)):=by
 refine Qo rfl fun hb=>tcg (n:=139) (sg:=QrU.sg) Qj (TOk.cons Qh2 (TOk.cons QjU (TOk.cons Jw (TOk.cons Qrs (TOk.cons Qxp (TOk.cons QMM (TOk.cons Qge TOk.nil))))))) (by kernel_rfl) (by kernel_rfl) (QYf _ s m x t ?_)
 have hl_s_1:(s.2.1).length≤9223372036854775807:=hb.1.2.1.1
 have hl_s_2:(s.2.2.1).length≤9223372036854775807:=hb.1.2.2.1.1
 have hl_s_5:(s.2.2.2.2.2.1).length≤9223372036854775807:=hb.1.2.2.2.2.2.1.1
 have hl_s_6:(s.2.2.2.2.2.2.1).length≤9223372036854775807:=hb.1.2.2.2.2.2.2.1.1
 have hl_s_7:(s.2.2.2.2.2.2.2.1).length≤9223372036854775807:=hb.1.2.2.2.2.2.2.2.1.1
 have hl_s_8:(s.2.2.2.2.2.2.2.2.1).length≤9223372036854775807:=hb.1.2.2.2.2.2.2.2.2.1.1
 have hl_s_9:(s.2.2.2.2.2.2.2.2.2.1).length≤9223372036854775807:=hb.1.2.2.2.2.2.2.2.2.2.1.1
 have hl_s_10:(s.2.2.2.2.2.2.2.2.2.2.1).length≤9223372036854775807:=hb.1.2.2.2.2.2.2.2.2.2.2.1.1
 have hl_s_11:(s.2.2.2.2.2.2.2.2.2.2.2.1).length≤9223372036854775807:=hb.1.2.2.2.2.2.2.2.2.2.2.2.1.1
 have hl_x:x.length≤9223372036854775807:=hb.2.2.1.1
 have hl_t:t.length≤9223372036854775807:=hb.2.2.2.1.1
 conv=>zeta
 have hp':Sz.sz s≤2147483648:=hp
 have hs:=Ym s
 have l1:=YT (Ql s)
 simp only [id,List.drop_zero,List.take_length,true_or,true_and,Nat.zero_add]
 have hk0:QU s=true→Int.toNat (w64 ((s.2.2.1.length:Int)-1))=s.2.2.1.length-1∧0≤w64 ((s.2.2.1.length:Int)-1)∧1≤s.2.2.1.length:=by
  intro h
  have:=Yh (JE h)
  rw [Qq (by ((try simp only [sPc,QD,sOps,Qu,Qz,Ql,QH,sX,sY,sG,sD,QG,QF,sSat,QL,QJ,QB,QA] at *);omega)) (by ((try simp only [sPc,QD,sOps,Qu,Qz,Ql,QH,sX,sY,sG,sD,QG,QF,sSat,QL,QJ,QB,QA] at *);omega))];((try simp only [sPc,QD,sOps,Qu,Qz,Ql,QH,sX,sY,sG,sD,QG,QF,sSat,QL,QJ,QB,QA] at *);omega)
 have e:=QJC s m x t (Int.toNat (w64 ((s.2.2.1.length:Int)-1))) (fun h=>(hk0 h).1)
 have hb:∀ {b x:Bool},(!((!b)||x))=true→b=true:=by intro b x h;cases b <;> simp_all
 refine ⟨hp,⟨fun h=>⟨by omega,?_⟩,fun h _ _=>?_⟩,fun h=>R_eq ?_,fun h=>?_⟩
 ·have:=hk0 (hb h)
  simp;((try simp only [sPc,QD,sOps,Qu,Qz,Ql,QH,sX,sY,sG,sD,QG,QF,sSat,QL,QJ,QB,QA] at *);omega)
 ·have h:QU s=true:=by
   cases hh:QU s
   ·rw [hh] at h;simp at h
   ·rfl
  have:=hk0 h
  exact ⟨this.2.1,by ((try simp only [sPc,QD,sOps,Qu,Qz,Ql,QH,sX,sY,sG,sD,QG,QF,sSat,QL,QJ,QB,QA] at *);omega)⟩
 ·have e:(!JG s m x t)=true:=e ▸ h
  simp only [Bool.not_eq_true'] at e
  rw [Qns (by rw [e];simp)]
 have e:(!JG s m x t)=false:=e ▸ h
 have e:JG s m x t=true:=by simpa using e
 have e2:=e
 simp only [JG,Bool.and_eq_true] at e2
 have hm:=JE e2.1.1.1
 have hml:=Yh hm
 have hil:=Qdp (sOps s) x
 have hx6:=Qam e2.1.1.2
 have hsz:=Qe9 (sOps s) x
 have hout:=QDu e
 have hw:w64 (((QI (sOps s) x).1.length:Int)-1)=((sOps s).length:Nat):=by rw [hil,Qq (by ((try simp only [sPc,QD,sOps,Qu,Qz,Ql,QH,sX,sY,sG,sD,QG,QF,sSat,QL,QJ,QB,QA] at *);omega)) (by ((try simp only [sPc,QD,sOps,Qu,Qz,Ql,QH,sX,sY,sG,sD,QG,QF,sSat,QL,QJ,QB,QA] at *);omega))];((try simp only [sPc,QD,sOps,Qu,Qz,Ql,QH,sX,sY,sG,sD,QG,QF,sSat,QL,QJ,QB,QA] at *);omega)
 have hgs:=QbD [] (QI (sOps s) x).1 (sOps s).length
 have hgi:=ZW (gtd [] (QI (sOps s) x).1 (sOps s).length)
 have e0:Sz.sz ([]:List Int)=0:=rfl
 have k1:∀ y8 y12 y13,y8=(if Qu s then sY s else gtd [] (QI (sOps s) x).1 (sOps s).length) →
   y12=(if Qu s then (Q9 (QF s) (Yb (gtd [] (QI (sOps s) x).1 (sOps s).length) t).1).1 else QF s) →
   y13=(sSat s||(QI (sOps s) x).2||(Qu s&&((Yb (gtd [] (QI (sOps s) x).1 (sOps s).length) t).2||(Q9 (QF s) (Yb (gtd [] (QI (sOps s) x).1 (sOps s).length) t).1).2)))→Qj3 (fun r'=>r'=Qb6 (Yn s m x t)) s m x y8 y12 y13:=by
  intro y8 y12 y13 h1 h2 h3
  have k2:∀ r,r=(if Qz s then (QI (sOps s) x).1.take 1 else (QI (sOps s) x).1)→Qlu (fun r'=>r'=Qb6 (Yn s m x t)) s m y8 y12 y13 r:=by
   intro r hr
   refine (QTT (fun r'=>r'=Qb6 (Yn s m x t)) s m y8 y12 y13 r ?_).h
   conv=>zeta
   simp only [id,List.drop_zero,List.take_length,true_or,true_and,Nat.zero_add,Q7]
   refine ⟨by rw [Q1];((try simp only [sPc,QD,sOps,Qu,Qz,Ql,QH,sX,sY,sG,sD,QG,QF,sSat,QL,QJ,QB,QA] at *);omega),R_eq ?_⟩
   rw [hout,← hr,← h1,← h2,← h3]
   simp [List.take_of_length_le]
  refine (QS4 (fun r'=>r'=Qb6 (Yn s m x t)) s m x y8 y12 y13 ⟨fun hr=>⟨by ((try simp only [sPc,QD,sOps,Qu,Qz,Ql,QH,sX,sY,sG,sD,QG,QF,sSat,QL,QJ,QB,QA] at *);omega),k2 _ ?_⟩,fun hr=>k2 _ ?_⟩).h
  ·rw [if_pos hr];rfl
  ·rw [if_neg (by rw [show Qz s=false from hr];simp)]
 rw [hw]
 refine ⟨⟨by ((try simp only [sPc,QD,sOps,Qu,Qz,Ql,QH,sX,sY,sG,sD,QG,QF,sSat,QL,QJ,QB,QA] at *);omega),by omega⟩,⟨by omega,by rw [Int.toNat_natCast];((try simp only [sPc,QD,sOps,Qu,Qz,Ql,QH,sX,sY,sG,sD,QG,QF,sSat,QL,QJ,QB,QA] at *);omega)⟩,fun hl=>k1 _ _ _ ?_ ?_ ?_,fun hl=>⟨?_,k1 _ _ _ ?_ ?_ ?_⟩⟩
 ·rw [if_pos hl]
 ·rw [if_pos hl,Int.toNat_natCast]
 ·rw [show Qu s=true from hl,Int.toNat_natCast];simp [Bool.or_assoc]
 ·rw [Int.toNat_natCast,Q1];((try simp only [sPc,QD,sOps,Qu,Qz,Ql,QH,sX,sY,sG,sD,QG,QF,sSat,QL,QJ,QB,QA] at *);omega)
 ·rw [if_neg (by rw [show Qu s=false from hl];simp),Int.toNat_natCast]
 ·rw [if_neg (by rw [show Qu s=false from hl];simp)]
 ·rw [show Qu s=false from hl];simp
theorem Q3i:Qg Tryz.prog QrU:=Qk fun x h=>QKe x.1 x.2.1 x.2.2.1 x.2.2.2.1 h
def QiC (t:Qc):TRes:=zra (.a (Tup.cells Qi t))
def QoD:TRow:=Qh 46 [(.a Qi),(.c TI)] fun x=>(some (Qb1 x.1 x.2.1),QiC (Y5 x.1 x.2.1))
def QJH:List TRow:=[QeD,Qgl,QdY,QeA,QjY]
def QYK:TCode :=
 (zsq [(.reg [zop 2 (.box 63 0 14),zop 4 (.new 63 (z0s Qi))]),(.reg [zLd 7 2 14,zca 8 111 [7],zop 5 (.new 63 (z0s Qi)),zst 5 8 14]),(.reg [zfa 9 2 5,zld 10 9 1,zmv 11 1,zca 12 116 [10,11],zmv 6 12]),(zsq [(.reg [zLd 13 2 14,zca 14 113 [13],zno 15 14,zmv 16 15,.grp 16 false [zmv 17 6,zbi 18 .lss 17 (zki 0)] 19 18]),(.cond 19 (zsq [(.reg [zLd 20 5 14,zst 4 20 14]),.ret]) .skip)]),(.draw [zLd 22 2 14,zca 23 112 [22],zfa 24 2 5,zld 25 24 1,zmv 26 6,zia 27 25 26 QZ,zfa 28 27 1,zld 29 28 1,zia 30 29 (zki 0) [(.sl [TI])],zfa 31 30 0,zld 32 31 1,zca 33 118 [23,32],zmv 21 33,zex 34 21 0,zex 35 21 1,zfa 36 5 6,zst 36 34 1] [(1,2),(1,3),(1,5),(1,6),(1,7),(1,8),(1,9),(1,10)]),(.reg [zLd 37 5 14,zst 4 37 14]),.ret])
def QTh:List (ARv × Md):=[(.l 4 14 true,.b (zds 14))]
theorem Q3m (s:Qc) (m:Int) (h :
 let z1:=id (α:=Qc) s
 let z2:=QO s.2.2.2.2.2.1 m
 let z3:=List.take ((z1.2.2.2.2.2.1).length) (List.drop 0 (z1.2.2.2.2.2.1))
 ((Qv (α:=Qc) s)∧(zif ((!(QU s))||(decide (z2<(0:Int)))) (K (QiC (z1.1,z1.2.1,z1.2.2.1,z1.2.2.2.1,z1.2.2.2.2.1,z3,z1.2.2.2.2.2.2.1,z1.2.2.2.2.2.2.2.1,z1.2.2.2.2.2.2.2.2.1,z1.2.2.2.2.2.2.2.2.2.1,z1.2.2.2.2.2.2.2.2.2.2.1,z1.2.2.2.2.2.2.2.2.2.2.2.1,z1.2.2.2.2.2.2.2.2.2.2.2.2.1,z1.2.2.2.2.2.2.2.2.2.2.2.2.2))) ((((0:Int)≤z2∧Int.toNat z2<(s.2.2.2.2.2.1).length)∧((0:Int)≤(0:Int)∧Int.toNat (0:Int)<((gtd Zu s.2.2.2.2.2.1 (Int.toNat z2)).2).length))∧K (QiC (z1.1,z1.2.1,z1.2.2.1,z1.2.2.2.1,z1.2.2.2.2.1,z3,(JD (ZS s) (gtd ([]:List Int) ((gtd Zu s.2.2.2.2.2.1 (Int.toNat z2)).2) (Int.toNat (0:Int)))).1,z1.2.2.2.2.2.2.2.1,z1.2.2.2.2.2.2.2.2.1,z1.2.2.2.2.2.2.2.2.2.1,z1.2.2.2.2.2.2.2.2.2.2.1,z1.2.2.2.2.2.2.2.2.2.2.2.1,z1.2.2.2.2.2.2.2.2.2.2.2.2.1,z1.2.2.2.2.2.2.2.2.2.2.2.2.2)))))):Hold (tawp QJH (0+0) QYK (TQ 0 0 QTh K) (Qf [(.a (Tup.cells Qi s)),(.c TI m)])) :=
 Hold.of (by kernel_rfl) h
theorem QTr (s:Qc) (m:Int) (hp:Qb1 s m):TCon Tryz.prog 46 [(.a (Tup.cells Qi s)),(.c TI m)] (QiC (Y5 s m)):=by
 refine Qo rfl fun hb=>tcg (n:=38) (sg:=QoD.sg) Qj (TOk.cons Qhx (TOk.cons Qqo (TOk.cons QkP (TOk.cons Qjd (TOk.cons QsV TOk.nil))))) (by kernel_rfl) (by kernel_rfl) (Q3m _ s m ?_)
 have hl_s_1:(s.2.1).length≤9223372036854775807:=hb.1.2.1.1
 have hl_s_2:(s.2.2.1).length≤9223372036854775807:=hb.1.2.2.1.1
 have hl_s_5:(s.2.2.2.2.2.1).length≤9223372036854775807:=hb.1.2.2.2.2.2.1.1
 have hl_s_6:(s.2.2.2.2.2.2.1).length≤9223372036854775807:=hb.1.2.2.2.2.2.2.1.1
 have hl_s_7:(s.2.2.2.2.2.2.2.1).length≤9223372036854775807:=hb.1.2.2.2.2.2.2.2.1.1
 have hl_s_8:(s.2.2.2.2.2.2.2.2.1).length≤9223372036854775807:=hb.1.2.2.2.2.2.2.2.2.1.1
 have hl_s_9:(s.2.2.2.2.2.2.2.2.2.1).length≤9223372036854775807:=hb.1.2.2.2.2.2.2.2.2.2.1.1
 have hl_s_10:(s.2.2.2.2.2.2.2.2.2.2.1).length≤9223372036854775807:=hb.1.2.2.2.2.2.2.2.2.2.2.1.1
 have hl_s_11:(s.2.2.2.2.2.2.2.2.2.2.2.1).length≤9223372036854775807:=hb.1.2.2.2.2.2.2.2.2.2.2.2.1.1
 conv=>zeta
 have hp':Sz.sz s≤2147483648:=hp
 simp only [id,List.drop_zero,List.take_length]
 rw [Qg0]
 refine ⟨hp,fun h=>R_eq ?_,fun h=>?_⟩
 ·simp only [Bool.not_eq_true'] at h
  rw [QAp (by rw [h];simp)]
 have h:(QU s&&decide (0≤QO (Ql s) m))=true:=by simpa using h
 have h':=h
 simp only [Bool.and_eq_true,decide_eq_true_eq] at h'
 have hf:=Qgu (Ql s) m
 have hk:(QO (Ql s) m).toNat<(Ql s).length:=by omega
 have hr:=QnK h'.1 (Qpi h'.1 _ (Jh hk Zu))
 have ei:JD (ZS s) (gtd [] (gtd Zu s.2.2.2.2.2.1 (QO s.2.2.2.2.2.1 m).toNat).2 0)=QI (sOps s) (gtd [] (gtd Zu s.2.2.2.2.2.1 (QO s.2.2.2.2.2.1 m).toNat).2 0):=QmV (JE h'.1) hr.2.2
 refine ⟨⟨⟨h'.2,hk⟩,⟨by omega,hr.1⟩⟩,R_eq ?_⟩
 rw [show Int.toNat (0:Int)=0 from rfl,ei]
 unfold Y5
 simp only
 rw [if_pos h]
theorem QQX:Qg Tryz.prog QoD:=Qk fun x h=>QTr x.1 x.2.1 h
def QjB (t:Qc):TRes:=zra (.a (Tup.cells Qi t))
def QnV:TRow:=Qh 174 [(.a Qi),(.c TI)] fun x=>(some (Qb1 x.1 x.2.1),QjB (Y5 x.1 x.2.1))
def Q0i:List TRow:=[QeB,Qgc,QeK,Qli]
def QSR:TCode :=
 (zsq [(.reg [zop 2 (.box 63 0 14),zop 4 (.new 63 (z0s Qi))]),(.reg [zLd 9 2 14,zca 10 168 [9],zop 5 (.new 63 (z0s Qi)),zst 5 10 14]),(.reg [zfa 11 2 5,zld 12 11 1,zmv 13 1,zca 14 43 [12,13],zmv 6 14]),(zsq [(.reg [zLd 15 2 14,zca 16 41 [15],zno 17 16,zmv 18 17,.grp 18 false [zmv 19 6,zbi 20 .lss 19 (zki 0)] 21 20]),(.cond 21 (zsq [(.reg [zLd 22 5 14,zst 4 22 14]),.ret]) .skip)]),(.draw [zfa 24 2 2,zld 25 24 1,zfa 26 2 5,zld 27 26 1,zmv 28 6,zia 29 27 28 QZ,zfa 30 29 1,zld 31 30 1,zia 32 31 (zki 0) [(.sl [TI])],zfa 33 32 0,zld 34 33 1,zca 35 163 [25,34],zmv 23 35,zex 36 23 0,zex 37 23 1,zmv 7 36,zmv 8 37] []),(.reg [zmv 38 7,zfa 39 5 6,zst 39 38 1]),(.reg [zLd 40 5 14,zst 4 40 14]),.ret])
def QIB:List (ARv × Md):=[(.l 4 14 true,.b (zds 14))]
theorem QVR (s:Qc) (m:Int) (h :
 let z1:=id (α:=Qc) s
 let z2:=QO s.2.2.2.2.2.1 m
 let z3:=gtd ([]:List Int) ((gtd Zu s.2.2.2.2.2.1 (Int.toNat z2)).2) (Int.toNat (0:Int))
 let z4:=List.take ((z1.2.2.2.2.2.1).length) (List.drop 0 (z1.2.2.2.2.2.1))
 ((Qv (α:=Qc) s)∧(zif ((!(QU s))||(decide (z2<(0:Int)))) (K (QjB (z1.1,z1.2.1,z1.2.2.1,z1.2.2.2.1,z1.2.2.2.2.1,z4,z1.2.2.2.2.2.2.1,z1.2.2.2.2.2.2.2.1,z1.2.2.2.2.2.2.2.2.1,z1.2.2.2.2.2.2.2.2.2.1,z1.2.2.2.2.2.2.2.2.2.2.1,z1.2.2.2.2.2.2.2.2.2.2.2.1,z1.2.2.2.2.2.2.2.2.2.2.2.2.1,z1.2.2.2.2.2.2.2.2.2.2.2.2.2))) ((((0:Int)≤z2∧Int.toNat z2<(s.2.2.2.2.2.1).length)∧(((0:Int)≤(0:Int)∧Int.toNat (0:Int)<((gtd Zu s.2.2.2.2.2.1 (Int.toNat z2)).2).length)∧(Qij s.2.2.1 z3)))∧K (QjB (z1.1,z1.2.1,z1.2.2.1,z1.2.2.2.1,z1.2.2.2.2.1,z4,(QI s.2.2.1 z3).1,z1.2.2.2.2.2.2.2.1,z1.2.2.2.2.2.2.2.2.1,z1.2.2.2.2.2.2.2.2.2.1,z1.2.2.2.2.2.2.2.2.2.2.1,z1.2.2.2.2.2.2.2.2.2.2.2.1,z1.2.2.2.2.2.2.2.2.2.2.2.2.1,z1.2.2.2.2.2.2.2.2.2.2.2.2.2)))))):Hold (tawp Q0i (0+0) QSR (TQ 0 0 QIB K) (Qf [(.a (Tup.cells Qi s)),(.c TI m)])) :=
 Hold.of (by kernel_rfl) h
theorem Q2R (s:Qc) (m:Int) (hp:Qb1 s m):TCon Tryz.prog 174 [(.a (Tup.cells Qi s)),(.c TI m)] (QjB (Y5 s m)):=by
 refine Qo rfl fun hb=>tcg (n:=41) (sg:=QnV.sg) Qj (TOk.cons Qh2 (TOk.cons Qrs (TOk.cons QjU (TOk.cons Qxp TOk.nil)))) (by kernel_rfl) (by kernel_rfl) (QVR _ s m ?_)
 have hl_s_1:(s.2.1).length≤9223372036854775807:=hb.1.2.1.1
 have hl_s_2:(s.2.2.1).length≤9223372036854775807:=hb.1.2.2.1.1
 have hl_s_5:(s.2.2.2.2.2.1).length≤9223372036854775807:=hb.1.2.2.2.2.2.1.1
 have hl_s_6:(s.2.2.2.2.2.2.1).length≤9223372036854775807:=hb.1.2.2.2.2.2.2.1.1
 have hl_s_7:(s.2.2.2.2.2.2.2.1).length≤9223372036854775807:=hb.1.2.2.2.2.2.2.2.1.1
 have hl_s_8:(s.2.2.2.2.2.2.2.2.1).length≤9223372036854775807:=hb.1.2.2.2.2.2.2.2.2.1.1
 have hl_s_9:(s.2.2.2.2.2.2.2.2.2.1).length≤9223372036854775807:=hb.1.2.2.2.2.2.2.2.2.2.1.1
 have hl_s_10:(s.2.2.2.2.2.2.2.2.2.2.1).length≤9223372036854775807:=hb.1.2.2.2.2.2.2.2.2.2.2.1.1
 have hl_s_11:(s.2.2.2.2.2.2.2.2.2.2.2.1).length≤9223372036854775807:=hb.1.2.2.2.2.2.2.2.2.2.2.2.1.1
 conv=>zeta
 have hp':Sz.sz s≤2147483648:=hp
 simp only [id,List.drop_zero,List.take_length]
 rw [Qg0]
 refine ⟨hp,fun h=>R_eq ?_,fun h=>?_⟩
 ·simp only [Bool.not_eq_true'] at h
  rw [QAp (by rw [h];simp)]
 have h:(QU s&&decide (0≤QO (Ql s) m))=true:=by simpa using h
 have h':=h
 simp only [Bool.and_eq_true,decide_eq_true_eq] at h'
 have hf:=Qgu (Ql s) m
 have hk:(QO (Ql s) m).toNat<(Ql s).length:=by omega
 have hr:=QnK h'.1 (Qpi h'.1 _ (Jh hk Zu))
 have hv:=Qam hr.2.2
 have hml:=Yh (JE h'.1)
 refine ⟨⟨⟨h'.2,hk⟩,⟨by omega,hr.1⟩,⟨by ((try simp only [sPc,QD,sOps,Qu,Qz,Ql,QH,sX,sY,sG,sD,QG,QF,sSat,QL,QJ,QB,QA] at *);omega),Nat.le_trans hv (by omega)⟩⟩,R_eq ?_⟩
 rw [show Int.toNat (0:Int)=0 from rfl]
 unfold Y5
 simp only
 rw [if_pos h]
theorem QXw:Qg Tryz.prog QnV:=Qk fun x h=>Q2R x.1 x.2.1 h
def QaX (t:Qc):TRes:=zra (.a (Tup.cells Qi t))
def QlL:TRow:=Qh 48 [(.a Qi),(.c TI),(.c (.sl [TI]))] fun x=>(some (Qb0 x.1 x.2.1 x.2.2.1),QaX (Zz x.1 x.2.1 x.2.2.1))
def Qo4:List TRow:=[QeD,Qgl,QdY,Qi5,Qhl,QeA,Qd2,Qaa,QlK,Qq5]
def QCq:TCode :=
 (zsq [(zsq [(.reg [zmv 70 11,zLd 71 3 14,zca 72 112 [71],zca 73 117 [72],zca 74 114 [70,73],zno 75 74]),(.cond 75 (zsq [(.reg [zLd 76 7 14,zst 6 76 14]),.ret]) .skip)]),(.reg [zfa 78 3 2,zld 79 78 1,zmv 80 9,zmv 81 11,zca 82 125 [79,80,81],zmv 77 82,zex 83 77 0,zex 84 77 1,zex 85 77 2,zmv 13 83,zmv 11 84,zmv 14 85]),(.reg [zfa 86 7 11,zLd 87 86 3,zmv 88 13,zmv 89 12,zmv 90 89,.grp 90 false [zmv 91 14] 92 91,zop 93 (.build (z0s Ze) [(0,1,88),(2,1,92)]),zca 94 89 [87,93],zfa 95 7 11,zst 95 94 3]),(.reg [zmv 96 11,zfa 97 7 10,zst 97 96 1]),(.reg [zfa 98 7 9,zst 98 (.k (.n [TI])) 1]),(.reg [zfa 99 7 6,zst 99 (.k (.n [(.sl [TI])])) 1]),(.draw [zfa 100 7 5,zld 101 100 1,zmv 102 8,zop 103 (.slc 101 none (some 102) QZ),zfa 104 7 5,zld 105 104 1,zmv 106 8,zbi 107 .add 106 (zki 1),zop 108 (.slc 105 (some 107) none QZ),zop 109 (.app 103 108 76 QZ),zfa 110 7 5,zst 110 109 1] []),(.reg [zLd 111 7 14,zst 6 111 14]),.ret])
def QHW:List (Nat × Md):=[(3,.b (zds 14)),(6,.b (zds 14)),(7,.b [.d,.d,.d,.d,.d,.f,.d,.d,.d,.d,.d,.d,.d,.d]),(8,.one .d),(9,.one .d),(11,.one .d),(12,.one .d)]
def Q0O:TCode:=.wk QHW QCq
def QyD:TCode :=
 (zsq [(.reg [zfa 39 3 2,zld 40 39 1,zle 41 40,zmv 10 41]),(zsq [(.reg [zmv 42 9,zle 43 42,zmv 44 10,zbi 45 .add 44 (zki 1),zbi 46 .neq 43 45,zmv 47 46,.grp 47 false [zfa 48 3 2,zld 49 48 1,zmv 50 9,zmv 51 10,zca 52 123 [49,50,51],zno 53 52] 54 53]),(.cond 54 (zsq [(.reg [zLd 55 7 14,zst 6 55 14]),.ret]) .skip)]),(.reg [zfa 56 7 9,zld 57 56 1,zmv 11 57,zmv 12 (zkb false)]),(zsq [(.reg [zfa 58 3 3,zld 59 58 1]),(.cond 59 (.reg [zmv 61 9,zmv 62 10,zia 63 61 62 [(.sl [TI])],zfa 64 63 0,zld 65 64 1,zmv 66 2,zca 67 124 [65,66],zmv 60 67,zex 68 60 0,zex 69 60 1,zmv 11 68,zmv 12 69]) .skip)]),Q0O])
def QL5:List (Nat × Md):=[(2,.one .d),(3,.b (zds 14)),(6,.b (zds 14)),(7,.b [.d,.d,.d,.d,.d,.f,.d,.d,.d,.d,.d,.d,.d,.d]),(8,.one .d),(9,.one .d)]
def QTM:TCode:=.wk QL5 QyD
def QQS:TCode :=
 (zsq [(.reg [zop 3 (.box 63 0 14),zop 6 (.new 63 (z0s Qi))]),(.reg [zLd 15 3 14,zca 16 111 [15],zop 7 (.new 63 (z0s Qi)),zst 7 16 14]),(.reg [zfa 17 3 5,zld 18 17 1,zmv 19 1,zca 20 116 [18,19],zmv 8 20]),(zsq [(.reg [zLd 21 3 14,zca 22 113 [21],zno 23 22,zmv 24 23,.grp 24 false [zmv 25 8,zbi 26 .lss 25 (zki 0)] 27 26]),(.cond 27 (zsq [(.reg [zLd 28 7 14,zst 6 28 14]),.ret]) .skip)]),(.reg [zfa 29 7 5,zld 30 29 1,zmv 31 8,zia 32 30 31 QZ,zfa 33 32 1,zld 34 33 1,zmv 9 34]),(zsq [(.reg [zfa 35 3 4,zld 36 35 1]),(.cond 36 (.reg [zfa 37 7 6,zld 38 37 1,zmv 9 38]) .skip)]),QTM])
def QFS:List (ARv × Md):=[(.l 6 14 true,.b (zds 14))]
def QCI:Qb:=TQ 0 0 QFS K
def Qld (s:Qc) (m:Int) (rows:List (List Int)) (d:List Int) (first:Bool):Prop:=let z1:=id (α:=Qc) s
 let z2:=List.take ((z1.2.2.2.2.2.1).length) (z1.2.2.2.2.2.1)
 tawp Qo4 0 QCq (QCI K) ⟨[(3,(.p 0 0 0)),(6,(.p 1 0 0)),(7,(.p 3 0 0)),(8,(zci (QO s.2.2.2.2.2.1 m))),(9,(zcs [(.sl [TI])] rows)),(11,(zcs [TI] d)),(12,(zcb first))],[(0,(.box (Tup.cells Qi s))),(1,(.box (Tup.cells Qi ((0:Int),[],[],false,false,[],[],[],[],[],[],[],(0:Int),false)))),(2,(.sl 76 QZ true (List.take (z2.length) z2))),(3,(.box [(zci (z1.1)),(zcs Qr (z1.2.1)),(zcs ctOp (z1.2.2.1)),(zcb (z1.2.2.2.1)),(zcb (z1.2.2.2.2.1)),(.r QZ 2 0 ((List.take (z2.length) z2).length)),(zcs [(.sl [TI])] (z1.2.2.2.2.2.2.1)),(zcs [TI] (z1.2.2.2.2.2.2.2.1)),(zcs [TI] (z1.2.2.2.2.2.2.2.2.1)),(zcs [TI] (z1.2.2.2.2.2.2.2.2.2.1)),(zcs [TI] (z1.2.2.2.2.2.2.2.2.2.2.1)),(zcs [(.sl [TI])] (z1.2.2.2.2.2.2.2.2.2.2.2.1)),(zci (z1.2.2.2.2.2.2.2.2.2.2.2.2.1)),(zcb (z1.2.2.2.2.2.2.2.2.2.2.2.2.2))]))],4⟩
def Qjr (s:Qc) (m:Int) (t:List Int) (rows:List (List Int)):Prop:=let z1:=id (α:=Qc) s
 let z2:=List.take ((z1.2.2.2.2.2.1).length) (z1.2.2.2.2.2.1)
 tawp Qo4 0 QyD (QCI K) ⟨[(2,(zcs [TI] t)),(3,(.p 0 0 0)),(6,(.p 1 0 0)),(7,(.p 3 0 0)),(8,(zci (QO s.2.2.2.2.2.1 m))),(9,(zcs [(.sl [TI])] rows))],[(0,(.box (Tup.cells Qi s))),(1,(.box (Tup.cells Qi ((0:Int),[],[],false,false,[],[],[],[],[],[],[],(0:Int),false)))),(2,(.sl 76 QZ true z2)),(3,(.box [(zci (z1.1)),(zcs Qr (z1.2.1)),(zcs ctOp (z1.2.2.1)),(zcb (z1.2.2.2.1)),(zcb (z1.2.2.2.2.1)),(.r QZ 2 0 (z2.length)),(zcs [(.sl [TI])] (z1.2.2.2.2.2.2.1)),(zcs [TI] (z1.2.2.2.2.2.2.2.1)),(zcs [TI] (z1.2.2.2.2.2.2.2.2.1)),(zcs [TI] (z1.2.2.2.2.2.2.2.2.2.1)),(zcs [TI] (z1.2.2.2.2.2.2.2.2.2.2.1)),(zcs [(.sl [TI])] (z1.2.2.2.2.2.2.2.2.2.2.2.1)),(zci (z1.2.2.2.2.2.2.2.2.2.2.2.2.1)),(zcb (z1.2.2.2.2.2.2.2.2.2.2.2.2.2))]))],4⟩
theorem QJO (s:Qc) (m:Int) (rows:List (List Int)) (d:List Int) (first:Bool) (h :
 let z3:=id (α:=Qc) s
 let z4:=QO s.2.2.2.2.2.1 m
 let z6:=Int.toNat z4-Int.toNat (0:Int)
 let z7:=QS s.2.2.1 rows d
 let z5:=Ya (z3.2.2.2.2.2.2.2.2.2.2.2) (z7.1,(0:Int),(first||(z7.2.2)))
 let z8:=List.take ((z3.2.2.2.2.2.1).length) (z3.2.2.2.2.2.1)
 let z1:=List.take (z8.length) z8
 let z2:=List.take (Int.toNat ((z1.length:Nat):Int)-Int.toNat (w64 (z4+(1:Int)))) (List.drop (0+Int.toNat (w64 (z4+(1:Int)))) z1)
 (zif (!(Qt d (Q8 (ZS s)))) (K (QaX (z3.1,z3.2.1,z3.2.2.1,z3.2.2.2.1,z3.2.2.2.2.1,(List.take (z1.length) (List.drop 0 z1)),z3.2.2.2.2.2.2.1,z3.2.2.2.2.2.2.2.1,z3.2.2.2.2.2.2.2.2.1,z3.2.2.2.2.2.2.2.2.2.1,z3.2.2.2.2.2.2.2.2.2.2.1,z3.2.2.2.2.2.2.2.2.2.2.2.1,z3.2.2.2.2.2.2.2.2.2.2.2.2.1,z3.2.2.2.2.2.2.2.2.2.2.2.2.2))) ((Qd1 s.2.2.1 rows d)∧((Z9 (α:=Q2) (β:=Q2) (z3.2.2.2.2.2.2.2.2.2.2.2) (z7.1,(0:Int),(first||(z7.2.2))))∧((((0:Int)≤(0:Int)∧(0:Int)≤z4∧z4≤((z1.length:Nat):Int))∧(((0:Int)≤w64 (z4+(1:Int))∧w64 (z4+(1:Int))≤((z1.length:Nat):Int)∧((z1.length:Nat):Int)≤((z1.length:Nat):Int))∧((z6=z1.length∨z6+z2.length≤z1.length)∧z6+z2.length≤big)))∧K (QaX (z3.1,z3.2.1,z3.2.2.1,z3.2.2.2.1,z3.2.2.2.2.1,(List.take (z6+z2.length) (List.drop 0 ((List.take z6 z1)++z2))),[],z3.2.2.2.2.2.2.2.1,z3.2.2.2.2.2.2.2.2.1,[],z7.2.1,z5.1,z5.2.1,z5.2.2))))))):Hold (Qld K s m rows d first) :=
 Hold.of (by kernel_rfl) h
theorem QRJ (s:Qc) (m:Int) (t:List Int) (rows:List (List Int)) (h :
 let z1:=id (α:=Qc) s
 let z2:=Zi (gtd ([]:List Int) rows (Int.toNat ((s.2.2.1).length:Int))) t
 let z3:=List.take ((z1.2.2.2.2.2.1).length) (z1.2.2.2.2.2.1)
 let z4:=w64 (((s.2.2.1).length:Int)+(1:Int))
 (((!((rows.length:Int) != z4))=true→(Qjh s.2.2.1 rows ((s.2.2.1).length:Int)))∧(zif (((rows.length:Int) != z4)||(!(Yw s.2.2.1 rows ((s.2.2.1).length:Int)))) (K (QaX (z1.1,z1.2.1,z1.2.2.1,z1.2.2.2.1,z1.2.2.2.2.1,(List.take (z3.length) (List.drop 0 z3)),z1.2.2.2.2.2.2.1,z1.2.2.2.2.2.2.2.1,z1.2.2.2.2.2.2.2.2.1,z1.2.2.2.2.2.2.2.2.2.1,z1.2.2.2.2.2.2.2.2.2.2.1,z1.2.2.2.2.2.2.2.2.2.2.2.1,z1.2.2.2.2.2.2.2.2.2.2.2.2.1,z1.2.2.2.2.2.2.2.2.2.2.2.2.2))) (zif s.2.2.2.1 (((0:Int)≤((s.2.2.1).length:Int)∧Int.toNat ((s.2.2.1).length:Int)<rows.length)∧(Qld K s m rows (z2.1) (z2.2))) (Qld K s m rows (z1.2.2.2.2.2.2.2.2.2.1) false))))):Hold (Qjr K s m t rows) :=
 Hold.of (by kernel_rfl) h
theorem QOq (s:Qc) (m:Int) (t:List Int) (h :
 ((Qv (α:=Qc) s)∧(zif ((!(QU s))||(decide ((QO s.2.2.2.2.2.1 m)<(0:Int)))) (K (QaX ((id (α:=Qc) s).1,(id (α:=Qc) s).2.1,(id (α:=Qc) s).2.2.1,(id (α:=Qc) s).2.2.2.1,(id (α:=Qc) s).2.2.2.2.1,(List.take (((id (α:=Qc) s).2.2.2.2.2.1).length) (List.drop 0 ((id (α:=Qc) s).2.2.2.2.2.1))),(id (α:=Qc) s).2.2.2.2.2.2.1,(id (α:=Qc) s).2.2.2.2.2.2.2.1,(id (α:=Qc) s).2.2.2.2.2.2.2.2.1,(id (α:=Qc) s).2.2.2.2.2.2.2.2.2.1,(id (α:=Qc) s).2.2.2.2.2.2.2.2.2.2.1,(id (α:=Qc) s).2.2.2.2.2.2.2.2.2.2.2.1,(id (α:=Qc) s).2.2.2.2.2.2.2.2.2.2.2.2.1,(id (α:=Qc) s).2.2.2.2.2.2.2.2.2.2.2.2.2))) ((((0:Int)≤(QO s.2.2.2.2.2.1 m)∧Int.toNat (QO s.2.2.2.2.2.1 m)<((id (α:=Qc) s).2.2.2.2.2.1).length)∧((0+(Int.toNat (QO s.2.2.2.2.2.1 m)))<((id (α:=Qc) s).2.2.2.2.2.1).length))∧(zif s.2.2.2.2.1 (Qjr K s m t ((id (α:=Qc) s).2.2.2.2.2.2.1)) (Qjr K s m t ((gtd Zu ((id (α:=Qc) s).2.2.2.2.2.1) (0+(Int.toNat (QO s.2.2.2.2.2.1 m)))).2))))))):Hold (tawp Qo4 (0+0) QQS (TQ 0 0 QFS K) (Qf [(.a (Tup.cells Qi s)),(.c TI m),(.c (.sl [TI]) t)])) :=
 Hold.of (by kernel_rfl) h
theorem QPr (s:Qc) (m:Int) (t:List Int) (hp:Qb0 s m t):TCon Tryz.prog 48 [(.a (Tup.cells Qi s)),(.c TI m),(.c (.sl [TI]) t)] (QaX (Zz s m t)):=by
 refine Qo rfl fun hb=>tcg (n:=112) (sg:=QlL.sg) Qj (TOk.cons Qhx (TOk.cons Qqo (TOk.cons QkP (TOk.cons QAq (TOk.cons QB3 (TOk.cons Qjd (TOk.cons Qlq (TOk.cons Qay (TOk.cons QXr (TOk.cons QUj TOk.nil)))))))))) (by kernel_rfl) (by kernel_rfl) (QOq _ s m t ?_)
 have hl_s_1:(s.2.1).length≤9223372036854775807:=hb.1.2.1.1
 have hl_s_2:(s.2.2.1).length≤9223372036854775807:=hb.1.2.2.1.1
 have hl_s_5:(s.2.2.2.2.2.1).length≤9223372036854775807:=hb.1.2.2.2.2.2.1.1
 have hl_s_6:(s.2.2.2.2.2.2.1).length≤9223372036854775807:=hb.1.2.2.2.2.2.2.1.1
 have hl_s_7:(s.2.2.2.2.2.2.2.1).length≤9223372036854775807:=hb.1.2.2.2.2.2.2.2.1.1
 have hl_s_8:(s.2.2.2.2.2.2.2.2.1).length≤9223372036854775807:=hb.1.2.2.2.2.2.2.2.2.1.1
 have hl_s_9:(s.2.2.2.2.2.2.2.2.2.1).length≤9223372036854775807:=hb.1.2.2.2.2.2.2.2.2.2.1.1
 have hl_s_10:(s.2.2.2.2.2.2.2.2.2.2.1).length≤9223372036854775807:=hb.1.2.2.2.2.2.2.2.2.2.2.1.1
 have hl_s_11:(s.2.2.2.2.2.2.2.2.2.2.2.1).length≤9223372036854775807:=hb.1.2.2.2.2.2.2.2.2.2.2.2.1.1
 have hl_t:t.length≤9223372036854775807:=hb.2.2.1.1
 have hp':Sz.sz s≤2147483648:=hp
 have hs:=Ym s
 have l1:=YT (Ql s)
 obtain ⟨kf,hkf⟩:∃ kf,QO s.2.2.2.2.2.1 m=kf:=⟨_,rfl⟩
 have hf:=Qgu (Ql s) m
 rw [show QO (Ql s) m=kf from hkf] at hf
 have hno:J0 s kf t=false→(Zz s m t)=s:=fun h=>QDQ (by rw [show QO (Ql s) m=kf from hkf,h];simp)
 have k2:QU s=true→0≤kf→∀ rows d first,rows=Z6 s kf→(d,first)=bwdD s kf t→((Z6 s kf).length==(sOps s).length+1)=true→Yw (sOps s) (Z6 s kf) (sOps s).length=true→Qld (fun r'=>r'=QaX (Zz s m t)) s m rows d first:=by
  intro h1 h2 rows d first hr hd h3 h4
  have hb:J0 s kf t=Qt d (Q8 (ZS s)):=by
   rw [QcX,← hd,h1,h3,h4,decide_eq_true h2];rfl
  obtain ⟨kn,hkn⟩:∃ kn:Nat,kf=kn:=⟨kf.toNat,by omega⟩
  refine (QJO (fun r'=>r'=QaX (Zz s m t)) s m rows d first ?_).h
  conv=>zeta
  simp only [id,List.drop_zero,List.take_length,true_or,true_and,Nat.zero_add]
  rw [hkf,hkn]
  have hml:=Yh (JE h1)
  refine ⟨fun h=>R_eq ?_,fun h=>?_⟩
  ·rw [hno (by rw [hb];simpa using h)]
  ·have hv:Qt d (Q8 (ZS s))=true:=by simpa using h
   have hok:J0 s kf t=true:=by rw [hb,hv]
   have hv6:=Qam hv
   rw [beq_iff_eq] at h3
   have hfit:=Qxz h1
   have hsum:Sz.sz (α:=Q2) s.2.2.2.2.2.2.2.2.2.2.2≤296:=QpR (JE h1) ⟨hfit.1,hfit.2⟩
   have hout:=QCi (t:=t) (rows:=rows) (d:=d) (b:=first) (by rw [show QO (Ql s) m=kf from hkf];exact hok) (by rw [show QO (Ql s) m=kf from hkf] ;exact hr) (by rw [show QO (Ql s) m=kf from hkf] ;exact hd)
   have hk:kn<s.2.2.2.2.2.1.length:=by ((try simp only [sPc,QD,sOps,Qu,Qz,Ql,QH,sX,sY,sG,sD,QG,QF,sSat,QL,QJ,QB,QA] at *);omega)
   have hrl:rows.length=s.2.2.1.length+1:=by rw [hr];exact h3
   have hbg:=QqV s.2.2.1 rows d
   have hl2:(List.take (s.2.2.2.2.2.1.length-(kn+1)) (List.drop (kn+1) s.2.2.2.2.2.1)).length=s.2.2.2.2.2.1.length-(kn+1):=by simp
   rw [sc1 (by ((try simp only [sPc,QD,sOps,Qu,Qz,Ql,QH,sX,sY,sG,sD,QG,QF,sSat,QL,QJ,QB,QA] at *);omega))]
   simp only [Int.toNat_natCast,show Int.toNat (0:Int)=0 from rfl,Nat.sub_zero]
   refine ⟨⟨by omega,by rw [Q1];((try simp only [sPc,QD,sOps,Qu,Qz,Ql,QH,sX,sY,sG,sD,QG,QF,sSat,QL,QJ,QB,QA] at *);omega)⟩,?_,⟨⟨by omega,by omega,by omega⟩,⟨by omega,by omega,by omega⟩,?_⟩,R_eq ?_⟩
   ·unfold Z9
    simp only [QaV,ZK,J7]
    ((try simp only [sPc,QD,sOps,Qu,Qz,Ql,QH,sX,sY,sG,sD,QG,QF,sSat,QL,QJ,QB,QA] at *);omega)
   ·rw [hl2,Q1];((try simp only [sPc,QD,sOps,Qu,Qz,Ql,QH,sX,sY,sG,sD,QG,QF,sSat,QL,QJ,QB,QA] at *);omega)
   ·rw [QzZ hk,hout,show QO (Ql s) m=kf from hkf,hkn,Int.toNat_natCast]
 have k1:QU s=true→0≤kf→∀ rows,rows=Z6 s kf→Qjr (fun r'=>r'=QaX (Zz s m t)) s m t rows:=by
  intro h1 h2 rows hr
  have hml:1≤s.2.2.1.length∧s.2.2.1.length≤8:=Yh (JE h1)
  refine (QRJ (fun r'=>r'=QaX (Zz s m t)) s m t rows ?_).h
  conv=>zeta
  simp only [id,List.drop_zero,List.take_length,true_or,true_and,Nat.zero_add,Int.toNat_natCast]
  rw [sc1 (k:=s.2.2.1.length) (by omega)]
  refine ⟨fun h=>?_,fun h=>R_eq ?_,fun h=>?_⟩
  ·simp at h
   exact ⟨by omega,by omega,by omega⟩
  ·rw [hno]
   rw [QcX,← hr]
   simp only [Bool.or_eq_true,bne_iff_ne,Bool.not_eq_true'] at h
   rcases h with h | h
   ·have:(rows.length==s.2.2.1.length+1)=false:=by rw [beq_eq_false_iff_ne];omega
    simp [this]
   ·have h':Yw (sOps s) rows (sOps s).length=false:=h
    simp [h']
  ·simp only [Bool.or_eq_false_iff,bne_eq_false_iff_eq,Bool.not_eq_false'] at h
   have h3:((Z6 s kf).length==(sOps s).length+1)=true:=by rw [← hr,beq_iff_eq];have:=h.1;((try simp only [sPc,QD,sOps,Qu,Qz,Ql,QH,sX,sY,sG,sD,QG,QF,sSat,QL,QJ,QB,QA] at *);omega)
   have h4:Yw (sOps s) (Z6 s kf) (sOps s).length=true:=by rw [← hr];exact h.2
   refine ⟨fun hl=>⟨⟨by omega,by have:=h.1;omega⟩,k2 h1 h2 _ _ _ hr ?_ h3 h4⟩,fun hl=>k2 h1 h2 _ _ _ hr ?_ h3 h4⟩
   ·unfold bwdD;rw [if_pos hl,← hr]
   ·unfold bwdD;rw [if_neg (by rw [show Qu s=false from hl];simp)]
 simp only [id,List.drop_zero,List.take_length,true_or,true_and,Nat.zero_add,Int.toNat_natCast]
 rw [Qg0,show QO (Ql s) m=kf from hkf]
 refine ⟨hp,fun h=>R_eq ?_,fun h=>?_⟩
 ·rw [hno]
  simp only [Bool.not_eq_true'] at h
  rw [QcX,h];rfl
 ·simp only [Bool.not_eq_false',Bool.and_eq_true,decide_eq_true_eq] at h
  refine ⟨⟨⟨h.2,by ((try simp only [sPc,QD,sOps,Qu,Qz,Ql,QH,sX,sY,sG,sD,QG,QF,sSat,QL,QJ,QB,QA] at *);omega)⟩,by ((try simp only [sPc,QD,sOps,Qu,Qz,Ql,QH,sX,sY,sG,sD,QG,QF,sSat,QL,QJ,QB,QA] at *);omega)⟩,fun hr=>k1 h.1 h.2 _ ?_,fun hr=>k1 h.1 h.2 _ ?_⟩
  ·unfold Z6;rw [if_pos hr]
  ·unfold Z6;rw [if_neg (by rw [show Qz s=false from hr];simp)]
theorem QJz:Qg Tryz.prog QlL:=Qk fun x h=>QPr x.1 x.2.1 x.2.2.1 h
def JJ (t:Qc):TRes:=zra (.a (Tup.cells Qi t))
def Qn5:TRow:=Qh 175 [(.a Qi),(.c TI),(.c (.sl [TI]))] fun x=>(some (Qb0 x.1 x.2.1 x.2.2.1),JJ (Zz x.1 x.2.1 x.2.2.1))
def Qgg:List TRow:=[QeB,Qgc,QeK,Jd,QjH,QqU,QmU]
def QzL:TCode :=
 (zsq [(zsq [(.reg [zmv 53 12,zfa 54 3 2,zld 55 54 1,zle 56 55,zbi 57 .lss 53 56]),(.cond 57 .skip (.exit 0))]),(.block 1 (zsq [(.draw [zmv 60 9,zmv 61 12,zia 62 60 61 [(.sl [TI])],zfa 63 62 0,zld 64 63 1,zca 65 42 [64],zno 66 65,zmv 67 66,.grp 67 false [zmv 68 9,zmv 69 12,zia 70 68 69 [(.sl [TI])],zfa 71 70 0,zld 72 71 1,zle 73 72,zfa 74 3 2,zld 75 74 1,zmv 76 12,zia 77 75 76 ctOp,zfa 78 77 1,zld 79 78 1,zbi 80 .neq 73 79] 81 80] []),(.cond 81 (zsq [(.reg [zLd 82 7 14,zst 6 82 14]),.ret]) .skip)])),(.reg [zmv 58 12,zbi 59 .add 58 (zki 1),zmv 12 59])])
def Qtz:List (Nat × Md):=[(2,.one .d),(3,.b (zds 14)),(6,.b (zds 14)),(7,.b [.d,.d,.d,.d,.d,.f,.d,.d,.d,.d,.d,.d,.d,.d]),(8,.one .d),(9,.one .d),(10,.one .d),(11,.one .d),(12,.one .d)]
def QFC:TCode :=
 (zsq [(zsq [(.reg [zmv 99 10,zle 100 99,zfa 101 3 2,zld 102 101 1,zfa 103 3 2,zld 104 103 1,zle 105 104,zbi 106 .sub 105 (zki 1),zia 107 102 106 ctOp,zfa 108 107 2,zld 109 108 1,zbi 110 .neq 100 109,zmv 111 110,.grp 111 false [zmv 112 10,zca 113 42 [112],zno 114 113] 115 114]),(.cond 115 (zsq [(.reg [zLd 116 7 14,zst 6 116 14]),.ret]) .skip)]),(.reg [zfa 118 3 2,zld 119 118 1,zmv 120 9,zmv 121 10,zca 122 166 [119,120,121],zmv 117 122,zex 123 117 0,zex 124 117 1,zex 125 117 2,zmv 15 123,zmv 16 124,zmv 17 125]),(.reg [zfa 126 3 11,zLd 127 126 3,zmv 128 15,zmv 129 11,zmv 130 129,.grp 130 false [zmv 131 17] 132 131,zop 133 (.build (z0s Ze) [(0,1,128),(2,1,132)]),zca 134 84 [127,133],zop 18 (.new 46 (z0s Ze)),zst 18 134 3]),(.reg [zLd 135 18 3,zfa 136 7 11,zst 136 135 3]),(.reg [zmv 137 16,zfa 138 7 10,zst 138 137 1]),(.reg [zop 139 (.bsl 3 [TI] []),zfa 140 7 9,zst 140 139 1]),(.reg [zop 141 (.bsl 129 [(.sl [TI])] []),zfa 142 7 6,zst 142 141 1]),(.draw [zfa 143 7 5,zld 144 143 1,zmv 145 8,zop 146 (.slc 144 none (some 145) QZ),zfa 147 7 5,zld 148 147 1,zmv 149 8,zbi 150 .add 149 (zki 1),zop 151 (.slc 148 (some 150) none QZ),zop 152 (.app 146 151 76 QZ),zfa 153 7 5,zst 153 152 1] []),(.reg [zLd 154 7 14,zst 6 154 14]),.ret])
def QMO:List (Nat × Md):=[(3,.b (zds 14)),(6,.b (zds 14)),(7,.b [.d,.d,.d,.d,.d,.f,.d,.d,.d,.d,.d,.d,.d,.d]),(8,.one .d),(9,.one .d),(10,.one .d),(11,.one .d)]
def QJ8:TCode:=.wk QMO QFC
def QAL:TCode :=
 (zsq [(zsq [(.reg [zfa 83 3 3,zld 84 83 1]),(.cond 84 (zsq [(.reg [zmv 86 9,zfa 87 3 2,zld 88 87 1,zle 89 88,zia 90 86 89 [(.sl [TI])],zfa 91 90 0,zld 92 91 1,zmv 93 2,zca 94 165 [92,93],zmv 85 94,zex 95 85 0,zex 96 85 1,zmv 13 95,zmv 14 96]),(.reg [zmv 97 13,zmv 10 97]),(.reg [zmv 98 14,zmv 11 98])]) .skip)]),QJ8])
def QtV:TCode :=
 (zsq [(.reg [zfa 43 3 9,zld 44 43 1,zmv 10 44]),(.reg [zmv 11 (zkb false)]),(zsq [(.reg [zmv 45 9,zle 46 45,zfa 47 3 2,zld 48 47 1,zle 49 48,zbi 50 .add 49 (zki 1),zbi 51 .neq 46 50]),(.cond 51 (zsq [(.reg [zLd 52 7 14,zst 6 52 14]),.ret]) .skip)]),(zsq [(.reg [zmv 12 (zki 0)]),(.block 0 (.loop Qtz QzL))]),QAL])
def QZW:List (Nat × Md):=[(2,.one .d),(3,.b (zds 14)),(6,.b (zds 14)),(7,.b [.d,.d,.d,.d,.d,.f,.d,.d,.d,.d,.d,.d,.d,.d]),(8,.one .d),(9,.one .d)]
def Q3u:TCode:=.wk QZW QtV
def Q1l:TCode :=
 (zsq [(.reg [zop 3 (.box 63 0 14),zop 6 (.new 63 (z0s Qi))]),(.reg [zLd 19 3 14,zca 20 168 [19],zop 7 (.new 63 (z0s Qi)),zst 7 20 14]),(.reg [zfa 21 3 5,zld 22 21 1,zmv 23 1,zca 24 43 [22,23],zmv 8 24]),(zsq [(.reg [zLd 25 3 14,zca 26 41 [25],zno 27 26,zmv 28 27,.grp 28 false [zmv 29 8,zbi 30 .lss 29 (zki 0)] 31 30]),(.cond 31 (zsq [(.reg [zLd 32 7 14,zst 6 32 14]),.ret]) .skip)]),(.reg [zfa 33 3 5,zld 34 33 1,zmv 35 8,zia 36 34 35 QZ,zfa 37 36 1,zld 38 37 1,zmv 9 38]),(zsq [(.reg [zfa 39 3 4,zld 40 39 1]),(.cond 40 (.reg [zfa 41 3 6,zld 42 41 1,zmv 9 42]) .skip)]),Q3u])
def QCH:List (ARv × Md):=[(.l 6 14 true,.b (zds 14))]
def Qim:Qb:=TQ 0 0 QCH K
def Qjp (s:Qc) (m:Int) (inn:List (List Int)) (y5:List ZI) (d:List Int) (sat:Bool):Prop:=let z1:=id (α:=Qc) s
 tawp Qgg 0 QFC (Qim K) ⟨[(3,(.p 0 0 0)),(6,(.p 1 0 0)),(7,(.p 3 0 0)),(8,(zci (QO s.2.2.2.2.2.1 m))),(9,(zcs [(.sl [TI])] inn)),(10,(zcs [TI] d)),(11,(zcb sat))],[(0,(.box (Tup.cells Qi s))),(1,(.box (Tup.cells Qi ((0:Int),[],[],false,false,[],[],[],[],[],[],[],(0:Int),false)))),(2,(.sl 76 QZ true (List.take y5.length y5))),(3,(.box [(zci (z1.1)),(zcs Qr (z1.2.1)),(zcs ctOp (z1.2.2.1)),(zcb (z1.2.2.2.1)),(zcb (z1.2.2.2.2.1)),(.r QZ 2 0 ((List.take y5.length y5).length)),(zcs [(.sl [TI])] (z1.2.2.2.2.2.2.1)),(zcs [TI] (z1.2.2.2.2.2.2.2.1)),(zcs [TI] (z1.2.2.2.2.2.2.2.2.1)),(zcs [TI] (z1.2.2.2.2.2.2.2.2.2.1)),(zcs [TI] (z1.2.2.2.2.2.2.2.2.2.2.1)),(zcs [(.sl [TI])] (z1.2.2.2.2.2.2.2.2.2.2.2.1)),(zci (z1.2.2.2.2.2.2.2.2.2.2.2.2.1)),(zcb (z1.2.2.2.2.2.2.2.2.2.2.2.2.2))]))],4⟩
def QKA:Qb:=Qseq (tawp Qgg 0 QAL (Qim K)) (Qim K)
def QUv:Qb:=Qblk 0 (QKA K)
def Qfg (s:Qc) (m:Int) (t:List Int) (inn:List (List Int)) (i:Int) (y5:List ZI):Prop:=let z1:=id (α:=Qc) s
 Loop Qgg 0 Qtz QzL (QUv K) ⟨[(2,(zcs [TI] t)),(3,(.p 0 0 0)),(6,(.p 1 0 0)),(7,(.p 3 0 0)),(8,(zci (QO s.2.2.2.2.2.1 m))),(9,(zcs [(.sl [TI])] inn)),(10,(zcs [TI] s.2.2.2.2.2.2.2.2.2.1)),(11,(zcb false)),(12,(zci i))],[(0,(.box (Tup.cells Qi s))),(1,(.box (Tup.cells Qi ((0:Int),[],[],false,false,[],[],[],[],[],[],[],(0:Int),false)))),(2,(.sl 76 QZ true y5)),(3,(.box [(zci (z1.1)),(zcs Qr (z1.2.1)),(zcs ctOp (z1.2.2.1)),(zcb (z1.2.2.2.1)),(zcb (z1.2.2.2.2.1)),(.r QZ 2 0 y5.length),(zcs [(.sl [TI])] (z1.2.2.2.2.2.2.1)),(zcs [TI] (z1.2.2.2.2.2.2.2.1)),(zcs [TI] (z1.2.2.2.2.2.2.2.2.1)),(zcs [TI] (z1.2.2.2.2.2.2.2.2.2.1)),(zcs [TI] (z1.2.2.2.2.2.2.2.2.2.2.1)),(zcs [(.sl [TI])] (z1.2.2.2.2.2.2.2.2.2.2.2.1)),(zci (z1.2.2.2.2.2.2.2.2.2.2.2.2.1)),(zcb (z1.2.2.2.2.2.2.2.2.2.2.2.2.2))]))],4⟩
def Qjk (s:Qc) (m:Int) (t:List Int) (inn:List (List Int)):Prop:=let z1:=id (α:=Qc) s
 let z2:=List.take ((z1.2.2.2.2.2.1).length) (z1.2.2.2.2.2.1)
 tawp Qgg 0 QtV (Qim K) ⟨[(2,(zcs [TI] t)),(3,(.p 0 0 0)),(6,(.p 1 0 0)),(7,(.p 3 0 0)),(8,(zci (QO s.2.2.2.2.2.1 m))),(9,(zcs [(.sl [TI])] inn))],[(0,(.box (Tup.cells Qi s))),(1,(.box (Tup.cells Qi ((0:Int),[],[],false,false,[],[],[],[],[],[],[],(0:Int),false)))),(2,(.sl 76 QZ true z2)),(3,(.box [(zci (z1.1)),(zcs Qr (z1.2.1)),(zcs ctOp (z1.2.2.1)),(zcb (z1.2.2.2.1)),(zcb (z1.2.2.2.2.1)),(.r QZ 2 0 (z2.length)),(zcs [(.sl [TI])] (z1.2.2.2.2.2.2.1)),(zcs [TI] (z1.2.2.2.2.2.2.2.1)),(zcs [TI] (z1.2.2.2.2.2.2.2.2.1)),(zcs [TI] (z1.2.2.2.2.2.2.2.2.2.1)),(zcs [TI] (z1.2.2.2.2.2.2.2.2.2.2.1)),(zcs [(.sl [TI])] (z1.2.2.2.2.2.2.2.2.2.2.2.1)),(zci (z1.2.2.2.2.2.2.2.2.2.2.2.2.1)),(zcb (z1.2.2.2.2.2.2.2.2.2.2.2.2.2))]))],4⟩
theorem QUx (s:Qc) (m:Int) (inn:List (List Int)) (y5:List ZI) (d:List Int) (sat:Bool) (h :
 let z2:=id (α:=Qc) s
 let z3:=QO s.2.2.2.2.2.1 m
 let z5:=List.take y5.length y5
 let z1:=List.take (Int.toNat ((z5.length:Nat):Int)-Int.toNat (w64 (z3+(1:Int)))) (List.drop (0+Int.toNat (w64 (z3+(1:Int)))) z5)
 let z6:=Int.toNat z3-Int.toNat (0:Int)
 let z7:=QS s.2.2.1 inn d
 let z4:=Ya s.2.2.2.2.2.2.2.2.2.2.2 (z7.1,(0:Int),(sat||(z7.2.2)))
 let z8:=w64 (((s.2.2.1).length:Int)-(1:Int))
 (((0:Int)≤w64 (((s.2.2.1).length:Int)-(1:Int))∧Int.toNat z8<(s.2.2.1).length)∧(zif (((d.length:Int) != ((gtd dOp s.2.2.1 (Int.toNat z8)).2.2.1))||(!(QN d))) (K (JJ (z2.1,z2.2.1,z2.2.2.1,z2.2.2.2.1,z2.2.2.2.2.1,(List.take (z5.length) (List.drop 0 z5)),z2.2.2.2.2.2.2.1,z2.2.2.2.2.2.2.2.1,z2.2.2.2.2.2.2.2.2.1,z2.2.2.2.2.2.2.2.2.2.1,z2.2.2.2.2.2.2.2.2.2.2.1,z2.2.2.2.2.2.2.2.2.2.2.2.1,z2.2.2.2.2.2.2.2.2.2.2.2.2.1,z2.2.2.2.2.2.2.2.2.2.2.2.2.2))) ((Qd1 s.2.2.1 inn d)∧((Z9 (α:=Q2) (β:=Q2) s.2.2.2.2.2.2.2.2.2.2.2 (z7.1,(0:Int),(sat||(z7.2.2))))∧((((0:Int)≤(0:Int)∧(0:Int)≤z3∧z3≤((z5.length:Nat):Int))∧(((0:Int)≤w64 (z3+(1:Int))∧w64 (z3+(1:Int))≤((z5.length:Nat):Int)∧((z5.length:Nat):Int)≤((z5.length:Nat):Int))∧((z6=z5.length∨z6+z1.length≤z5.length)∧z6+z1.length≤big)))∧K (JJ (z2.1,z2.2.1,z2.2.2.1,z2.2.2.2.1,z2.2.2.2.2.1,(List.take (z6+z1.length) (List.drop 0 ((List.take z6 z5)++z1))),([]:List (List Int)),z2.2.2.2.2.2.2.2.1,z2.2.2.2.2.2.2.2.2.1,([]:List Int),z7.2.1,z4.1,z4.2.1,z4.2.2)))))))):Hold (Qjp K s m inn y5 d sat) :=
 Hold.of (by kernel_rfl) h
theorem QFG (s:Qc) (m:Int) (t:List Int) (inn:List (List Int)) (i:Int) (y5:List ZI) (h :
 (zif (decide (i<((s.2.2.1).length:Int))) ((((0:Int)≤i∧Int.toNat i<inn.length)∧((!(!(QN (gtd ([]:List Int) inn (Int.toNat i)))))=true→(((0:Int)≤i∧Int.toNat i<inn.length)∧((0:Int)≤i∧Int.toNat i<(s.2.2.1).length))))∧(zif ((!(QN (gtd ([]:List Int) inn (Int.toNat i))))||(((gtd ([]:List Int) inn (Int.toNat i)).length:Int) != ((gtd dOp s.2.2.1 (Int.toNat i)).2.1))) (K (JJ ((id (α:=Qc) s).1,(id (α:=Qc) s).2.1,(id (α:=Qc) s).2.2.1,(id (α:=Qc) s).2.2.2.1,(id (α:=Qc) s).2.2.2.2.1,(List.take y5.length (List.drop 0 y5)),(id (α:=Qc) s).2.2.2.2.2.2.1,(id (α:=Qc) s).2.2.2.2.2.2.2.1,(id (α:=Qc) s).2.2.2.2.2.2.2.2.1,(id (α:=Qc) s).2.2.2.2.2.2.2.2.2.1,(id (α:=Qc) s).2.2.2.2.2.2.2.2.2.2.1,(id (α:=Qc) s).2.2.2.2.2.2.2.2.2.2.2.1,(id (α:=Qc) s).2.2.2.2.2.2.2.2.2.2.2.2.1,(id (α:=Qc) s).2.2.2.2.2.2.2.2.2.2.2.2.2))) (Qfg K s m t inn (w64 (i+(1:Int))) (List.take y5.length y5)))) (zif s.2.2.2.1 (((0:Int)≤((s.2.2.1).length:Int)∧Int.toNat ((s.2.2.1).length:Int)<inn.length)∧(Qjp K s m inn y5 ((Zi (gtd ([]:List Int) inn (Int.toNat ((s.2.2.1).length:Int))) t).1) ((Zi (gtd ([]:List Int) inn (Int.toNat ((s.2.2.1).length:Int))) t).2))) (Qjp K s m inn y5 s.2.2.2.2.2.2.2.2.2.1 false)))):Qfg K s m t inn i y5 :=
 Loop.of (by kernel_rfl) h
theorem Q1x (s:Qc) (m:Int) (t:List Int) (inn:List (List Int)) (h :
 let z1:=id (α:=Qc) s
 let z2:=List.take ((z1.2.2.2.2.2.1).length) (z1.2.2.2.2.2.1)
 (zif ((inn.length:Int) != (w64 (((s.2.2.1).length:Int)+(1:Int)))) (K (JJ (z1.1,z1.2.1,z1.2.2.1,z1.2.2.2.1,z1.2.2.2.2.1,(List.take (z2.length) (List.drop 0 z2)),z1.2.2.2.2.2.2.1,z1.2.2.2.2.2.2.2.1,z1.2.2.2.2.2.2.2.2.1,z1.2.2.2.2.2.2.2.2.2.1,z1.2.2.2.2.2.2.2.2.2.2.1,z1.2.2.2.2.2.2.2.2.2.2.2.1,z1.2.2.2.2.2.2.2.2.2.2.2.2.1,z1.2.2.2.2.2.2.2.2.2.2.2.2.2))) (Qfg K s m t inn 0 (List.take (z2.length) z2)))):Hold (Qjk K s m t inn) :=
 Hold.of (by kernel_rfl) h
theorem QVK (s:Qc) (m:Int) (t:List Int) (h :
 ((Qv (α:=Qc) s)∧(zif ((!(QU s))||(decide ((QO s.2.2.2.2.2.1 m)<(0:Int)))) (K (JJ ((id (α:=Qc) s).1,(id (α:=Qc) s).2.1,(id (α:=Qc) s).2.2.1,(id (α:=Qc) s).2.2.2.1,(id (α:=Qc) s).2.2.2.2.1,(List.take (((id (α:=Qc) s).2.2.2.2.2.1).length) (List.drop 0 ((id (α:=Qc) s).2.2.2.2.2.1))),(id (α:=Qc) s).2.2.2.2.2.2.1,(id (α:=Qc) s).2.2.2.2.2.2.2.1,(id (α:=Qc) s).2.2.2.2.2.2.2.2.1,(id (α:=Qc) s).2.2.2.2.2.2.2.2.2.1,(id (α:=Qc) s).2.2.2.2.2.2.2.2.2.2.1,(id (α:=Qc) s).2.2.2.2.2.2.2.2.2.2.2.1,(id (α:=Qc) s).2.2.2.2.2.2.2.2.2.2.2.2.1,(id (α:=Qc) s).2.2.2.2.2.2.2.2.2.2.2.2.2))) (((0:Int)≤(QO s.2.2.2.2.2.1 m)∧Int.toNat (QO s.2.2.2.2.2.1 m)<(s.2.2.2.2.2.1).length)∧(zif s.2.2.2.2.1 (Qjk K s m t s.2.2.2.2.2.2.1) (Qjk K s m t ((gtd Zu s.2.2.2.2.2.1 (Int.toNat (QO s.2.2.2.2.2.1 m))).2))))))):Hold (tawp Qgg (0+0) Q1l (TQ 0 0 QCH K) (Qf [(.a (Tup.cells Qi s)),(.c TI m),(.c (.sl [TI]) t)])) :=
 Hold.of (by kernel_rfl) h
theorem QHr (s:Qc) (m:Int) (t:List Int) (hp:Qb0 s m t):TCon Tryz.prog 175 [(.a (Tup.cells Qi s)),(.c TI m),(.c (.sl [TI]) t)] (JJ (Zz s m t)):=by
 refine Qo rfl fun hb=>tcg (n:=155) (sg:=Qn5.sg) Qj (TOk.cons Qh2 (TOk.cons Qrs (TOk.cons QjU (TOk.cons Jw (TOk.cons Qsl (TOk.cons QLo (TOk.cons QX3 TOk.nil))))))) (by kernel_rfl) (by kernel_rfl) (QVK _ s m t ?_)
 have hl_s_1:(s.2.1).length≤9223372036854775807:=hb.1.2.1.1
 have hl_s_2:(s.2.2.1).length≤9223372036854775807:=hb.1.2.2.1.1
 have hl_s_5:(s.2.2.2.2.2.1).length≤9223372036854775807:=hb.1.2.2.2.2.2.1.1
 have hl_s_6:(s.2.2.2.2.2.2.1).length≤9223372036854775807:=hb.1.2.2.2.2.2.2.1.1
 have hl_s_7:(s.2.2.2.2.2.2.2.1).length≤9223372036854775807:=hb.1.2.2.2.2.2.2.2.1.1
 have hl_s_8:(s.2.2.2.2.2.2.2.2.1).length≤9223372036854775807:=hb.1.2.2.2.2.2.2.2.2.1.1
 have hl_s_9:(s.2.2.2.2.2.2.2.2.2.1).length≤9223372036854775807:=hb.1.2.2.2.2.2.2.2.2.2.1.1
 have hl_s_10:(s.2.2.2.2.2.2.2.2.2.2.1).length≤9223372036854775807:=hb.1.2.2.2.2.2.2.2.2.2.2.1.1
 have hl_s_11:(s.2.2.2.2.2.2.2.2.2.2.2.1).length≤9223372036854775807:=hb.1.2.2.2.2.2.2.2.2.2.2.2.1.1
 have hl_t:t.length≤9223372036854775807:=hb.2.2.1.1
 have hp':Sz.sz s≤2147483648:=hp
 have hs:=Ym s
 have l1:=YT (Ql s)
 obtain ⟨kf,hkf⟩:∃ kf,QO s.2.2.2.2.2.1 m=kf:=⟨_,rfl⟩
 have hf:=Qgu (Ql s) m
 rw [show QO (Ql s) m=kf from hkf] at hf
 have hno:J0 s kf t=false→(Zz s m t)=s:=fun h=>QDQ (by rw [show QO (Ql s) m=kf from hkf,h];simp)
 have k4:QU s=true→0≤kf→∀ rows d sat,rows=Z6 s kf→(d,sat)=bwdD s kf t→((Z6 s kf).length==(sOps s).length+1)=true→Yw (sOps s) (Z6 s kf) (sOps s).length=true→Qjp (fun r'=>r'=JJ (Zz s m t)) s m rows s.2.2.2.2.2.1 d sat:=by
  intro h1 h2 rows d sat hr hd h3 h4
  have hm:=JE h1
  have hml:1≤s.2.2.1.length∧s.2.2.1.length≤8:=Yh hm
  have hb:J0 s kf t=Qt d (Q8 (ZS s)):=by
   rw [QcX,← hd,h1,h3,h4,decide_eq_true h2];rfl
  obtain ⟨kn,hkn⟩:∃ kn:Nat,kf=kn:=⟨kf.toNat,by omega⟩
  have hw:w64 ((s.2.2.1.length:Int)-1)=((s.2.2.1.length-1:Nat):Int):=by rw [Qq (by omega) (by omega)];omega
  have hg:(((d.length:Int) != (gtd dOp s.2.2.1 (s.2.2.1.length-1)).2.2.1)||(!(QN d))) = !Qt d (Q8 (ZS s)):=by
   rw [show Q8 (ZS s)=_ from QwP hm]
   show _ = !(QN d&&((d.length:Int)==(gtd dOp s.2.2.1 (s.2.2.1.length-1)).2.2.1))
   simp only [bne]
   cases QN d <;> cases ((d.length:Int)==(gtd dOp s.2.2.1 (s.2.2.1.length-1)).2.2.1) <;> rfl
  refine (QUx (fun r'=>r'=JJ (Zz s m t)) s m rows _ d sat ?_).h
  conv=>zeta
  simp only [id,List.drop_zero,List.take_length,true_or,true_and,Nat.zero_add]
  rw [hkf,hkn,hw,Int.toNat_natCast,hg]
  refine ⟨⟨by omega,by omega⟩,fun h=>R_eq ?_,fun h=>?_⟩
  ·rw [hno (by rw [hb];simpa using h)]
  ·have hv:Qt d (Q8 (ZS s))=true:=by simpa using h
   have hok:J0 s kf t=true:=by rw [hb,hv]
   have hv6:=Qam hv
   rw [beq_iff_eq] at h3
   have hfit:=Qxz h1
   have hsum:Sz.sz (α:=Q2) s.2.2.2.2.2.2.2.2.2.2.2≤296:=QpR (JE h1) ⟨hfit.1,hfit.2⟩
   have hout:=QCi (t:=t) (rows:=rows) (d:=d) (b:=sat) (by rw [show QO (Ql s) m=kf from hkf];exact hok) (by rw [show QO (Ql s) m=kf from hkf] ;exact hr) (by rw [show QO (Ql s) m=kf from hkf] ;exact hd)
   have hk:kn<s.2.2.2.2.2.1.length:=by ((try simp only [sPc,QD,sOps,Qu,Qz,Ql,QH,sX,sY,sG,sD,QG,QF,sSat,QL,QJ,QB,QA] at *);omega)
   have hrl:rows.length=s.2.2.1.length+1:=by rw [hr];exact h3
   have hbg:=QqV s.2.2.1 rows d
   have hl2:(List.take (s.2.2.2.2.2.1.length-(kn+1)) (List.drop (kn+1) s.2.2.2.2.2.1)).length=s.2.2.2.2.2.1.length-(kn+1):=by simp
   rw [sc1 (by ((try simp only [sPc,QD,sOps,Qu,Qz,Ql,QH,sX,sY,sG,sD,QG,QF,sSat,QL,QJ,QB,QA] at *);omega))]
   simp only [Int.toNat_natCast,show Int.toNat (0:Int)=0 from rfl,Nat.sub_zero]
   refine ⟨⟨by omega,by rw [Q1];((try simp only [sPc,QD,sOps,Qu,Qz,Ql,QH,sX,sY,sG,sD,QG,QF,sSat,QL,QJ,QB,QA] at *);omega)⟩,?_,⟨⟨by omega,by omega,by omega⟩,⟨by omega,by omega,by omega⟩,?_⟩,R_eq ?_⟩
   ·unfold Z9
    simp only [QaV,ZK,J7]
    ((try simp only [sPc,QD,sOps,Qu,Qz,Ql,QH,sX,sY,sG,sD,QG,QF,sSat,QL,QJ,QB,QA] at *);omega)
   ·rw [hl2,Q1];((try simp only [sPc,QD,sOps,Qu,Qz,Ql,QH,sX,sY,sG,sD,QG,QF,sSat,QL,QJ,QB,QA] at *);omega)
   ·rw [QzZ hk,hout,show QO (Ql s) m=kf from hkf,hkn,Int.toNat_natCast]
 have k3:QU s=true→0≤kf→∀ rows,rows=Z6 s kf→((Z6 s kf).length==(sOps s).length+1)=true→Qfg (fun r'=>r'=JJ (Zz s m t)) s m t rows ((0:Nat):Int) s.2.2.2.2.2.1:=by
  intro h1 h2 rows hr h3
  have hm:=JE h1
  have hml:1≤s.2.2.1.length∧s.2.2.1.length≤8:=Yh hm
  have hrl:rows.length=s.2.2.1.length+1:=by rw [hr];exact beq_iff_eq.1 h3
  refine Y7 s.2.2.1.length (fun k=>Yu s.2.2.1 k ((rows.drop k).take (s.2.2.1.length-k))=Yw s.2.2.1 rows s.2.2.1.length→Qfg (fun r'=>r'=JJ (Zz s m t)) s m t rows (k:Int) s.2.2.2.2.2.1) ?_ ?_ ?_
  ·intro hg
   rw [Nat.sub_self,List.take_zero,Yu] at hg
   have h4:Yw (sOps s) (Z6 s kf) (sOps s).length=true:=by rw [← hr];exact hg.symm
   refine QFG (fun r'=>r'=JJ (Zz s m t)) s m t rows _ _ ⟨fun h=>by simp at h,fun _=>⟨fun hl=>⟨⟨by omega,by rw [Int.toNat_natCast];omega⟩,?_⟩,fun hl=>k4 h1 h2 _ _ _ hr ?_ h3 h4⟩⟩
   ·rw [Int.toNat_natCast]
    refine k4 h1 h2 _ _ _ hr ?_ h3 h4
    unfold bwdD;rw [if_pos hl,← hr]
   ·unfold bwdD;rw [if_neg (by rw [show Qu s=false from hl];simp)]
  ·intro k hk ih hg
   rw [QSA hk (by omega)] at hg
   have hv:((!(QN (gtd [] rows k)))||(((gtd [] rows k).length:Int) != (gtd dOp s.2.2.1 k).2.1)) = !Qt (gtd [] rows k) (gtd dOp s.2.2.1 k).2.1:=by
    unfold Qt
    simp only [bne]
    cases QN (gtd [] rows k) <;> cases (((gtd [] rows k).length:Int)==(gtd dOp s.2.2.1 k).2.1) <;> rfl
   refine QFG (fun r'=>r'=JJ (Zz s m t)) s m t rows _ _ ⟨fun _=>?_,fun h=>by simp at h;omega⟩
   simp only [id,List.drop_zero,List.take_length,Int.toNat_natCast]
   rw [hv,sc1 (by omega)]
   refine ⟨⟨⟨by omega,by omega⟩,fun _=>⟨⟨by omega,by omega⟩,by omega,by omega⟩⟩,fun h=>R_eq ?_,fun h=>ih ?_⟩
   ·rw [hno]
    have h5:Qt (gtd [] rows k) (gtd dOp s.2.2.1 k).2.1=false:=by simpa using h
    rw [h5,Bool.false_and] at hg
    rw [QcX,← hr,show Yw (sOps s) rows (sOps s).length=false from hg.symm]
    simp
   ·have h5:Qt (gtd [] rows k) (gtd dOp s.2.2.1 k).2.1=true:=by simpa using h
    rw [h5,Bool.true_and] at hg
    exact hg
  ·rw [List.drop_zero,Nat.sub_zero]
   unfold Yw
   rw [Int.toNat_natCast]
 have k1:QU s=true→0≤kf→∀ rows,rows=Z6 s kf→Qjk (fun r'=>r'=JJ (Zz s m t)) s m t rows:=by
  intro h1 h2 rows hr
  have hml:1≤s.2.2.1.length∧s.2.2.1.length≤8:=Yh (JE h1)
  refine (Q1x (fun r'=>r'=JJ (Zz s m t)) s m t rows ?_).h
  conv=>zeta
  simp only [id,List.drop_zero,List.take_length,true_or,true_and,Nat.zero_add,Int.toNat_natCast]
  rw [sc1 (k:=s.2.2.1.length) (by omega)]
  refine ⟨fun h=>R_eq ?_,fun h=>k3 h1 h2 _ hr ?_⟩
  ·rw [hno]
   have:(rows.length==s.2.2.1.length+1)=false:=by
    rw [beq_eq_false_iff_ne]
    simp only [bne_iff_ne] at h
    omega
   rw [QcX,← hr]
   simp [this]
  ·rw [← hr,beq_iff_eq]
   simp only [bne_eq_false_iff_eq] at h
   ((try simp only [sPc,QD,sOps,Qu,Qz,Ql,QH,sX,sY,sG,sD,QG,QF,sSat,QL,QJ,QB,QA] at *);omega)
 simp only [id,List.drop_zero,List.take_length,true_or,true_and,Nat.zero_add]
 rw [Qg0,show QO (Ql s) m=kf from hkf]
 refine ⟨hp,fun h=>R_eq ?_,fun h=>?_⟩
 ·rw [hno]
  simp only [Bool.not_eq_true'] at h
  rw [QcX,h];rfl
 ·simp only [Bool.not_eq_false',Bool.and_eq_true,decide_eq_true_eq] at h
  refine ⟨⟨h.2,by ((try simp only [sPc,QD,sOps,Qu,Qz,Ql,QH,sX,sY,sG,sD,QG,QF,sSat,QL,QJ,QB,QA] at *);omega)⟩,fun hr=>k1 h.1 h.2 _ ?_,fun hr=>k1 h.1 h.2 _ ?_⟩
  ·unfold Z6;rw [if_pos hr]
  ·unfold Z6;rw [if_neg (by rw [show Qz s=false from hr];simp)]
theorem QVz:Qg Tryz.prog Qn5:=Qk fun x h=>QHr x.1 x.2.1 x.2.2.1 h
end
end Go.Proofs.YtjbdljkhbglnhaaGreat.Am

