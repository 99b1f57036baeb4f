/- -/
import Derived.Test.YtjbdljkhbglnhaaGreatZGD1
import Derived.Test.YtjbdljkhbglnhaaGreatZGG9
namespace Go.Proofs.YtjbdljkhbglnhaaGreat.Am
open Go Go.RowKit Go.Proofs.YtjbdljkhbglnhaaGreat
set_option linter.all false
set_option maxHeartbeats 2000000
noncomputable section
variable (K:TRes→Prop)
def QaT (t:(List Int) × (((List Int) × Int × Int))):TRes:=⟨(.r [TI] 0 0 ((t.1).length)),[(.sl 3 [TI] true t.1)],[[(zcs [(.int .u8)] t.2.1),(zci t.2.2.1),(zci t.2.2.2)]],true,[]⟩
def Qan (x0:((List Int) × Int × Int)) (x1:List TOp'):(List Int) × (((List Int) × Int × Int)):=Classical.epsilon fun t:(List Int) × (((List Int) × Int × Int))=>(QcX x0 x1 t)∧TCon Tryz.prog 199 [(.bx [(.c (.sl [(.int .u8)]) x0.1),(.c TI x0.2.1),(.c TI x0.2.2)]),(.a [(.c (.sl ctOp) x1)])] (QaT t)
def Qj7:TRow:=Qi 199 [(.b [(.sl [(.int .u8)]),TI,TI]),(.a [(.sl ctOp)])] fun x=>(some (QdY x.1 x.2.1),QaT (Qan x.1 x.2.1))
def QkA:List TRow:=[Qfe]
def QsD:TCode :=
 (zsq [(zsq [(.reg [zmv 8 6,zfa 9 3 0,zld 10 9 1,zle 11 10,zbi 12 .lss 8 11]),(.cond 12 .skip (.exit 0))]),(.block 1 (zsq [(.reg [zmv 15 0,zca 16 106 [15,(zki 2)],zmv 17 16,.grp 17 true [zmv 18 5,zle 19 18,zbi 20 .lss 19 (zki 3)] 21 20]),(.cond 21 (.reg [zmv 22 5,zmv 23 6,zop 24 (.bsl 3 [TI] [23]),zop 25 (.app 22 24 3 [TI]),zmv 5 25]) .skip)])),(.reg [zmv 13 6,zbi 14 .add 13 (zki 1),zmv 6 14])])
def Qx5:List (Nat × Md):=[(0,.b [.d,.d,.d]),(3,.b [.d]),(5,.one .f),(6,.one .d)]
def Qxv:TCode :=
 (zsq [(.reg [zmv 26 5,zmv 4 26]),.ret])
def QAE:TCode :=
 (zsq [(.reg [zop 3 (.box 26 1 1),zmv 4 (.k (.n [TI]))]),(.reg [zop 7 (.bsl 3 [TI] []),zmv 5 7]),(zsq [(.reg [zmv 6 (zki 1)]),(.block 0 (.loop Qx5 QsD))]),Qxv])
def Qry:List (ARv × Md):=[(.t 4,.one (.o 3))]
def Qp8:Qb:=TQ 1 0 Qry K
def QFN:Qb:=Qseq (tawp QkA 1 Qxv (Qp8 K)) (Qp8 K)
def QJG:Qb:=Qblk 0 (QFN K)
def Qe1 (m:List TOp') (i:Int) (c0:List Int) (c1:Int) (c2:Int) (out:List Int):Prop:=Loop QkA 1 Qx5 QsD (QJG K) ⟨[(0,(.p 0 0 0)),(3,(.p 1 0 0)),(5,(.r [TI] 2 0 out.length)),(6,(zci i))],[(0,(.box [(zcs [(.int .u8)] c0),(zci c1),(zci c2)])),(1,(.box [(zcs ctOp m)])),(2,(.sl 3 [TI] true out))],3⟩
theorem Qpi (m:List TOp') (i:Int) (c0:List Int) (c1:Int) (c2:Int) (out:List Int) (h :
 (zif (decide (i<(m.length:Int))) ((Zh (c0,c1,c2) (2:Int))∧(zif (((ZI (c0,c1,c2) (2:Int)).1)&&(decide (((out.length:Nat):Int)<(3:Int)))) (((out.length=out.length∨out.length+1≤out.length)∧out.length+1≤big)∧(Qe1 K m (w64 (i+(1:Int))) (((ZI (c0,c1,c2) (2:Int)).2).1) (((ZI (c0,c1,c2) (2:Int)).2).2.1) (((ZI (c0,c1,c2) (2:Int)).2).2.2) (List.take (out.length+1) ((List.take out.length out)++([i]))))) (Qe1 K m (w64 (i+(1:Int))) (((ZI (c0,c1,c2) (2:Int)).2).1) (((ZI (c0,c1,c2) (2:Int)).2).2.1) (((ZI (c0,c1,c2) (2:Int)).2).2.2) (List.take out.length out)))) (K (QaT ((List.take out.length out),(c0,c1,c2)))))):Qe1 K m i c0 c1 c2 out :=
 Loop.of (by kernel_rfl) h
theorem QCQ (c:((List Int) × Int × Int)) (m:List TOp') (h :
 (Qe1 K m 1 c.1 c.2.1 c.2.2 ([]:List Int))):Hold (tawp QkA (1+0) QAE (TQ 1 0 Qry K) (Qf [(.bx [(.c (.sl [(.int .u8)]) c.1),(.c TI c.2.1),(.c TI c.2.2)]),(.a [(.c (.sl ctOp) m)])])) :=
 Hold.of (by kernel_rfl) h
theorem Qwh (c:((List Int) × Int × Int)) (m:List TOp') (hp:QdY c m):∃ t:(List Int) × (((List Int) × Int × Int)),(QcX c m t)∧TCon Tryz.prog 199 [(.bx [(.c (.sl [(.int .u8)]) c.1),(.c TI c.2.1),(.c TI c.2.2)]),(.a [(.c (.sl ctOp) m)])] (QaT t):=by
 refine YS (tcx (n:=27) (sg:=Qj7.sg) Qk (TOk.cons QmX TOk.nil) (by kernel_rfl) (by kernel_rfl) (QCQ (fun r'=>∃ t,(QcX c m t)∧r'=QaT t) c m ?_))
 obtain ⟨h1,h2⟩:=hp
 refine QaQ (m.length-1) (fun k=>∀ (c0:List Int) (c1 c2:Int) (out:List Int),Qz (c0,c1,c2)→ZY (k:Int) none out=true→out.length≤3→Qe1 (fun r'=>∃ t,(QcX c m t)∧r'=QaT t) m ((k:Int)+1) c0 c1 c2 out) ?_ ?_ c.1 c.2.1 c.2.2 [] h1 rfl (by simp)
 ·intro c0 c1 c2 out hc hg hl
  refine Qpi (fun r'=>∃ t,(QcX c m t)∧r'=QaT t) m _ _ _ _ _ ⟨fun h=>by simp at h;omega,fun _=>(Q9 ⟨fun hm=>?_,?_,hc⟩)⟩
  ·have hm':=hm
   simp only [QE,Bool.and_eq_true,QL] at hm'
   simp only [List.take_length,Q5,hm,Bool.true_and]
   rw [show (m.length:Int)-1=((m.length-1:Nat):Int) by omega]
   exact hg
  ·simp only [List.take_length];exact hl
 ·intro k hk ih c0 c1 c2 out hc hg hl
  have b:=Qmh (c0,c1,c2) 2 hc
  have e:w64 ((k:Int)+1+1)=((k+1:Nat):Int)+1:=by rw [Qp (by omega) (by omega)];omega
  refine Qpi (fun r'=>∃ t,(QcX c m t)∧r'=QaT t) m _ _ _ _ _ ⟨fun _=>⟨hc,fun h=>⟨⟨.inl rfl,by rw [Zw];omega⟩,?_⟩,fun _=>?_⟩,fun h=>by simp at h;omega⟩
  ·rw [Zx,e]
   simp only [Bool.and_eq_true,decide_eq_true_eq] at h
   have hh:=Qq6 (i:=(k:Int)+1) (by omega) out none (QkI (by omega) _ _ hg) rfl
   refine ih _ _ _ _ b ?_ (by simp;omega)
   rw [show ((k+1:Nat):Int)=(k:Int)+1 by omega]
   exact hh
  ·rw [List.take_length,e]
   exact ih _ _ _ _ b (QkI (by omega) _ _ hg) hl
theorem QBh (c:((List Int) × Int × Int)) (m:List TOp') (hp:QdY c m):QcX c m (Qan c m):=(Classical.epsilon_spec (Qwh c m hp)).1
theorem QCJ (c:((List Int) × Int × Int)) (m:List TOp') (hp:QdY c m):TCon Tryz.prog 199 [(.bx [(.c (.sl [(.int .u8)]) c.1),(.c TI c.2.1),(.c TI c.2.2)]),(.a [(.c (.sl ctOp) m)])] (QaT (Qan c m)):=(Classical.epsilon_spec (Qwh c m hp)).2
theorem QJc:Qj Tryz.prog Qj7:=Ql fun x h=>QCJ x.1 x.2.1 h
end
end Go.Proofs.YtjbdljkhbglnhaaGreat.Am

