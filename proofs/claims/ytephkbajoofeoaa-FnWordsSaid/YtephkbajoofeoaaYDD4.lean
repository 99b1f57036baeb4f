/- -/
import Derived.Test.YtephkbajoofeoaaYDD1
import Derived.Test.YtephkbajoofeoaaYDD2
import Derived.Test.YtephkbajoofeoaaYDG9
namespace Go.Proofs.Ytephkbajoofeoaa.Am
open Go Go.RowKit Go.Proofs.Ytephkbajoofeoaa
set_option linter.all false
set_option maxHeartbeats 2000000
noncomputable section
variable (K:TRes→Prop)
def ZW (t:(List Int) × (((List Int) × Int × Int))):TRes:=⟨(.r [TI] 0 0 ((t.1).length)),[(.sl 3 [TI] true t.1)],[[(zcs [(.int .u8)] t.2.1),(zci t.2.2.1),(zci t.2.2.2)]],true,[]⟩
def ZH (x0:((List Int) × Int × Int)) (x1:List TOp'):(List Int) × (((List Int) × Int × Int)):=Classical.epsilon fun t:(List Int) × (((List Int) × Int × Int))=>(YR x0 x1 t)∧TCon Try.prog 188 [(.bx [(.c (.sl [(.int .u8)]) x0.1),(.c TI x0.2.1),(.c TI x0.2.2)]),(.a [(.c (.sl ctOp) x1)])] (ZW t)
def Qck:TRow:=Qp 188 [(.b [(.sl [(.int .u8)]),TI,TI]),(.a [(.sl ctOp)])] fun x=>(some (Jo x.1 x.2.1),ZW (ZH x.1 x.2.1))
def Qet:List TRow:=[Qap]
def Qh2:TCode :=
 (zsq [(zsq [(.reg [zmv 8 6,zfa 9 3 0,zld 10 9 1,zle 11 10,zbi 12 .lss 8 11]),(.cond 12 .skip (.exit 0))]),(.block 1 (zsq [(.reg [zmv 15 0,zca 16 136 [15,(zki 2)],zmv 17 16,.grp 17 true [zmv 18 5,zle 19 18,zbi 20 .lss 19 (zki 3)] 21 20]),(.cond 21 (.reg [zmv 22 5,zmv 23 6,zop 24 (.bsl 3 [TI] [23]),zop 25 (.app 22 24 3 [TI]),zmv 5 25]) .skip)])),(.reg [zmv 13 6,zbi 14 .add 13 (zki 1),zmv 6 14])])
def Qha:List (Nat × Md):=[(0,.b [.d,.d,.d]),(3,.b [.d]),(5,.one .f),(6,.one .d)]
def Qgi:TCode :=
 (zsq [(.reg [zmv 26 5,zmv 4 26]),.ret])
def QoE:TCode :=
 (zsq [(.reg [zop 3 (.box 66 1 1),zmv 4 (.k (.n [TI]))]),(.reg [zop 7 (.bsl 3 [TI] []),zmv 5 7]),(zsq [(.reg [zmv 6 (zki 1)]),(.block 0 (.loop Qha Qh2))]),Qgi])
def Qjb:List (ARv × Md):=[(.t 4,.one (.o 3))]
def Qhq:Qg:=TQ 1 0 Qjb K
def Qkg:Qg:=Qseq (tawp Qet 1 Qgi (Qhq K)) (Qhq K)
def QjQ:Qg:=Qblk 0 (Qkg K)
def Qam (m:List TOp') (i:Int) (c0:List Int) (c1:Int) (c2:Int) (out:List Int):Prop:=Loop Qet 1 Qha Qh2 (QjQ K) ⟨[(0,(.p 0 0 0)),(3,(.p 1 0 0)),(5,(.r [TI] 2 0 out.length)),(6,(zci i))],[(0,(.box [(zcs [(.int .u8)] c0),(zci c1),(zci c2)])),(1,(.box [(zcs ctOp m)])),(2,(.sl 3 [TI] true out))],3⟩
theorem Qgy (m:List TOp') (i:Int) (c0:List Int) (c1:Int) (c2:Int) (out:List Int) (h :
 (zif (decide (i<(m.length:Int))) ((Qx (c0,c1,c2) (2:Int))∧(zif (((QL (c0,c1,c2) (2:Int)).1)&&(decide (((out.length:Nat):Int)<(3:Int)))) (((out.length=out.length∨out.length+1≤out.length)∧out.length+1≤big)∧(Qam K m (w64 (i+(1:Int))) (((QL (c0,c1,c2) (2:Int)).2).1) (((QL (c0,c1,c2) (2:Int)).2).2.1) (((QL (c0,c1,c2) (2:Int)).2).2.2) (List.take (out.length+1) ((List.take out.length out)++([i]))))) (Qam K m (w64 (i+(1:Int))) (((QL (c0,c1,c2) (2:Int)).2).1) (((QL (c0,c1,c2) (2:Int)).2).2.1) (((QL (c0,c1,c2) (2:Int)).2).2.2) (List.take out.length out)))) (K (ZW ((List.take out.length out),(c0,c1,c2)))))):Qam K m i c0 c1 c2 out :=
 Loop.of (by kernel_rfl) h
theorem QjK (c:((List Int) × Int × Int)) (m:List TOp') (h :
 (Qam K m 1 c.1 c.2.1 c.2.2 ([]:List Int))):Hold (tawp Qet (1+0) QoE (TQ 1 0 Qjb K) (Qm [(.bx [(.c (.sl [(.int .u8)]) c.1),(.c TI c.2.1),(.c TI c.2.2)]),(.a [(.c (.sl ctOp) m)])])) :=
 Hold.of (by kernel_rfl) h
theorem QfC (c:((List Int) × Int × Int)) (m:List TOp') (hp:Jo c m):∃ t:(List Int) × (((List Int) × Int × Int)),(YR c m t)∧TCon Try.prog 188 [(.bx [(.c (.sl [(.int .u8)]) c.1),(.c TI c.2.1),(.c TI c.2.2)]),(.a [(.c (.sl ctOp) m)])] (ZW t):=by
 refine Q7 (tcx (n:=27) (sg:=Qck.sg) Qt (TOk.cons Qd1 TOk.nil) (by kernel_rfl) (by kernel_rfl) (QjK (fun r'=>∃ t,(YR c m t)∧r'=ZW t) c m ?_))
 obtain ⟨h1,h2⟩:=hp
 refine Qea (m.length-1) (fun k=>∀ (c0:List Int) (c1 c2:Int) (out:List Int),Qe (c0,c1,c2)→QW (k:Int) none out=true→out.length≤3→Qam (fun r'=>∃ t,(YR c m t)∧r'=ZW t) m ((k:Int)+1) c0 c1 c2 out) ?_ ?_ c.1 c.2.1 c.2.2 [] h1 rfl (by simp)
 ·intro c0 c1 c2 out hc hg hl
  refine Qgy (fun r'=>∃ t,(YR c m t)∧r'=ZW t) m _ _ _ _ _ ⟨fun h=>by simp at h;omega,fun _=>(Qo ⟨fun hm=>?_,?_,hc⟩)⟩
  ·have hm':=hm
   simp only [Qu,Bool.and_eq_true,QE] at hm'
   simp only [List.take_length,Qw,hm,Bool.true_and]
   rw [show (m.length:Int)-1=((m.length-1:Nat):Int) by omega]
   exact hg
  ·simp only [List.take_length];exact hl
 ·intro k hk ih c0 c1 c2 out hc hg hl
  have b:=Qdj (c0,c1,c2) 2 hc
  have e:w64 ((k:Int)+1+1)=((k+1:Nat):Int)+1:=by rw [Qi (by omega) (by omega)];omega
  refine Qgy (fun r'=>∃ t,(YR c m t)∧r'=ZW t) m _ _ _ _ _ ⟨fun _=>⟨hc,fun h=>⟨⟨.inl rfl,by rw [ZJ];omega⟩,?_⟩,fun _=>?_⟩,fun h=>by simp at h;omega⟩
  ·rw [YU,e]
   simp only [Bool.and_eq_true,decide_eq_true_eq] at h
   have hh:=Qe7 (i:=(k:Int)+1) (by omega) out none (Qd6 (by omega) _ _ hg) rfl
   refine ih _ _ _ _ b ?_ (by simp;omega)
   rw [show ((k+1:Nat):Int)=(k:Int)+1 by omega]
   exact hh
  ·rw [List.take_length,e]
   exact ih _ _ _ _ b (Qd6 (by omega) _ _ hg) hl
theorem QkK (c:((List Int) × Int × Int)) (m:List TOp') (hp:Jo c m):YR c m (ZH c m):=(Classical.epsilon_spec (QfC c m hp)).1
theorem QkQ (c:((List Int) × Int × Int)) (m:List TOp') (hp:Jo c m):TCon Try.prog 188 [(.bx [(.c (.sl [(.int .u8)]) c.1),(.c TI c.2.1),(.c TI c.2.2)]),(.a [(.c (.sl ctOp) m)])] (ZW (ZH c m)):=(Classical.epsilon_spec (QfC c m hp)).2
theorem Qph:Qq Try.prog Qck:=Qv fun x h=>QkQ x.1 x.2.1 h
end
end Go.Proofs.Ytephkbajoofeoaa.Am

