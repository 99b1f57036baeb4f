/- -/
import Derived.Test.YtjbdljkhbglnhaaGreatZID1
import Derived.Test.YtjbdljkhbglnhaaGreatZIG9
namespace Go.Proofs.YtjbdljkhbglnhaaGreat.Am
open Go Go.RowKit Go.Proofs.YtjbdljkhbglnhaaGreat
set_option linter.all false
set_option maxHeartbeats 2000000
noncomputable section
variable (K:TRes→Prop)
def Qbw (t:(List Int) × (((List Int) × Int × Int))):TRes:=⟨(.r [TI] 0 0 ((t.1).length)),[(.sl 3 [TI] true t.1)],[[(zcs [(.int .u8)] t.2.1),(zci t.2.2.1),(zci t.2.2.2)]],true,[]⟩
def Qat (x0:((List Int) × Int × Int)) (x1:List TOp'):(List Int) × (((List Int) × Int × Int)):=Classical.epsilon fun t:(List Int) × (((List Int) × Int × Int))=>(QcV x0 x1 t)∧TCon Tryz.prog 199 [(.bx [(.c (.sl [(.int .u8)]) x0.1),(.c TI x0.2.1),(.c TI x0.2.2)]),(.a [(.c (.sl ctOp) x1)])] (Qbw t)
def QlK:TRow:=Qk 199 [(.b [(.sl [(.int .u8)]),TI,TI]),(.a [(.sl ctOp)])] fun x=>(some (Qd6 x.1 x.2.1),Qbw (Qat x.1 x.2.1))
def Qk3:List TRow:=[QdY]
def Qwu:TCode :=
 (zsq [(zsq [(.reg [zmv 8 6,zfa 9 3 0,zld 10 9 1,zle 11 10,zbi 12 .lss 8 11]),(.cond 12 .skip (.exit 0))]),(.block 1 (zsq [(.reg [zmv 15 0,zca 16 106 [15,(zki 2)],zmv 17 16,.grp 17 true [zmv 18 5,zle 19 18,zbi 20 .lss 19 (zki 3)] 21 20]),(.cond 21 (.reg [zmv 22 5,zmv 23 6,zop 24 (.bsl 3 [TI] [23]),zop 25 (.app 22 24 3 [TI]),zmv 5 25]) .skip)])),(.reg [zmv 13 6,zbi 14 .add 13 (zki 1),zmv 6 14])])
def QAG:List (Nat × Md):=[(0,.b [.d,.d,.d]),(3,.b [.d]),(5,.one .f),(6,.one .d)]
def QxC:TCode :=
 (zsq [(.reg [zmv 26 5,zmv 4 26]),.ret])
def QF6:TCode :=
 (zsq [(.reg [zop 3 (.box 26 1 1),zmv 4 (.k (.n [TI]))]),(.reg [zop 7 (.bsl 3 [TI] []),zmv 5 7]),(zsq [(.reg [zmv 6 (zki 1)]),(.block 0 (.loop QAG Qwu))]),QxC])
def Qy2:List (ARv × Md):=[(.t 4,.one (.o 3))]
def Qu1:Qb:=TQ 1 0 Qy2 K
def QM4:Qb:=Qseq (tawp Qk3 1 QxC (Qu1 K)) (Qu1 K)
def QLv:Qb:=Qblk 0 (QM4 K)
def Qf6 (m:List TOp') (i:Int) (c0:List Int) (c1:Int) (c2:Int) (out:List Int):Prop:=Loop Qk3 1 QAG Qwu (QLv K) ⟨[(0,(.p 0 0 0)),(3,(.p 1 0 0)),(5,(.r [TI] 2 0 out.length)),(6,(zci i))],[(0,(.box [(zcs [(.int .u8)] c0),(zci c1),(zci c2)])),(1,(.box [(zcs ctOp m)])),(2,(.sl 3 [TI] true out))],3⟩
theorem Qqt (m:List TOp') (i:Int) (c0:List Int) (c1:Int) (c2:Int) (out:List Int) (h :
 (zif (decide (i<(m.length:Int))) ((Zr (c0,c1,c2) (2:Int))∧(zif (((ZB (c0,c1,c2) (2:Int)).1)&&(decide (((out.length:Nat):Int)<(3:Int)))) (((out.length=out.length∨out.length+1≤out.length)∧out.length+1≤big)∧(Qf6 K m (w64 (i+(1:Int))) (((ZB (c0,c1,c2) (2:Int)).2).1) (((ZB (c0,c1,c2) (2:Int)).2).2.1) (((ZB (c0,c1,c2) (2:Int)).2).2.2) (List.take (out.length+1) ((List.take out.length out)++([i]))))) (Qf6 K m (w64 (i+(1:Int))) (((ZB (c0,c1,c2) (2:Int)).2).1) (((ZB (c0,c1,c2) (2:Int)).2).2.1) (((ZB (c0,c1,c2) (2:Int)).2).2.2) (List.take out.length out)))) (K (Qbw ((List.take out.length out),(c0,c1,c2)))))):Qf6 K m i c0 c1 c2 out :=
 Loop.of (by kernel_rfl) h
theorem QMB (c:((List Int) × Int × Int)) (m:List TOp') (h :
 (Qf6 K m 1 c.1 c.2.1 c.2.2 ([]:List Int))):Hold (tawp Qk3 (1+0) QF6 (TQ 1 0 Qy2 K) (Qi [(.bx [(.c (.sl [(.int .u8)]) c.1),(.c TI c.2.1),(.c TI c.2.2)]),(.a [(.c (.sl ctOp) m)])])) :=
 Hold.of (by kernel_rfl) h
theorem Qyy (c:((List Int) × Int × Int)) (m:List TOp') (hp:Qd6 c m):∃ t:(List Int) × (((List Int) × Int × Int)),(QcV c m t)∧TCon Tryz.prog 199 [(.bx [(.c (.sl [(.int .u8)]) c.1),(.c TI c.2.1),(.c TI c.2.2)]),(.a [(.c (.sl ctOp) m)])] (Qbw t):=by
 refine Y8 (tcx (n:=27) (sg:=QlK.sg) Qm (TOk.cons QjG TOk.nil) (by kernel_rfl) (by kernel_rfl) (QMB (fun r'=>∃ t,(QcV c m t)∧r'=Qbw t) c m ?_))
 obtain ⟨h1,h2⟩:=hp
 refine JH (m.length-1) (fun k=>∀ (c0:List Int) (c1 c2:Int) (out:List Int),QQ (c0,c1,c2)→YC (k:Int) none out=true→out.length≤3→Qf6 (fun r'=>∃ t,(QcV c m t)∧r'=Qbw t) m ((k:Int)+1) c0 c1 c2 out) ?_ ?_ c.1 c.2.1 c.2.2 [] h1 rfl (by simp)
 ·intro c0 c1 c2 out hc hg hl
  refine Qqt (fun r'=>∃ t,(QcV c m t)∧r'=Qbw t) m _ _ _ _ _ ⟨fun h=>by simp at h;omega,fun _=>(ZM ⟨fun hm=>?_,?_,hc⟩)⟩
  ·have hm':=hm
   simp only [QT,Bool.and_eq_true,QP] at hm'
   simp only [List.take_length,Zy,hm,Bool.true_and]
   rw [show (m.length:Int)-1=((m.length-1:Nat):Int) by omega]
   exact hg
  ·simp only [List.take_length];exact hl
 ·intro k hk ih c0 c1 c2 out hc hg hl
  have b:=QiF (c0,c1,c2) 2 hc
  have e:w64 ((k:Int)+1+1)=((k+1:Nat):Int)+1:=by rw [Qp (by omega) (by omega)];omega
  refine Qqt (fun r'=>∃ t,(QcV c m t)∧r'=Qbw t) m _ _ _ _ _ ⟨fun _=>⟨hc,fun h=>⟨⟨.inl rfl,by rw [Q9];omega⟩,?_⟩,fun _=>?_⟩,fun h=>by simp at h;omega⟩
  ·rw [Zc,e]
   simp only [Bool.and_eq_true,decide_eq_true_eq] at h
   have hh:=QuP (i:=(k:Int)+1) (by omega) out none (QmH (by omega) _ _ hg) rfl
   refine ih _ _ _ _ b ?_ (by simp;omega)
   rw [show ((k+1:Nat):Int)=(k:Int)+1 by omega]
   exact hh
  ·rw [List.take_length,e]
   exact ih _ _ _ _ b (QmH (by omega) _ _ hg) hl
theorem QSs (c:((List Int) × Int × Int)) (m:List TOp') (hp:Qd6 c m):QcV c m (Qat c m):=(Classical.epsilon_spec (Qyy c m hp)).1
theorem QOB (c:((List Int) × Int × Int)) (m:List TOp') (hp:Qd6 c m):TCon Tryz.prog 199 [(.bx [(.c (.sl [(.int .u8)]) c.1),(.c TI c.2.1),(.c TI c.2.2)]),(.a [(.c (.sl ctOp) m)])] (Qbw (Qat c m)):=(Classical.epsilon_spec (Qyy c m hp)).2
theorem QW0:Ql Tryz.prog QlK:=Qn fun x h=>QOB x.1 x.2.1 h
end
end Go.Proofs.YtjbdljkhbglnhaaGreat.Am

