/- -/
import Derived.Test.YtephkbajoofeoaaYCD1
import Derived.Test.YtephkbajoofeoaaYCD2
import Derived.Test.YtephkbajoofeoaaYCG9
namespace Go.Proofs.Ytephkbajoofeoaa.Am
open Go Go.RowKit Go.Proofs.Ytephkbajoofeoaa
set_option linter.all false
set_option maxHeartbeats 2000000
noncomputable section
variable (K:TRes→Prop)
def Z0 (t:(List Int) × (((List Int) × Int × Int))):TRes:=⟨(.r [TI] 0 0 ((t.1).length)),[(.sl 3 [TI] true t.1)],[[(zcs [(.int .u8)] t.2.1),(zci t.2.2.1),(zci t.2.2.2)]],true,[]⟩
def QQ (x0:((List Int) × Int × Int)) (x1:List TOp'):(List Int) × (((List Int) × Int × Int)):=Classical.epsilon fun t:(List Int) × (((List Int) × Int × Int))=>(YI x0 x1 t)∧TCon Try.prog 188 [(.bx [(.c (.sl [(.int .u8)]) x0.1),(.c TI x0.2.1),(.c TI x0.2.2)]),(.a [(.c (.sl ctOp) x1)])] (Z0 t)
def QbD:TRow:=Qr 188 [(.b [(.sl [(.int .u8)]),TI,TI]),(.a [(.sl ctOp)])] fun x=>(some (ZI x.1 x.2.1),Z0 (QQ x.1 x.2.1))
def Qdx:List TRow:=[J2]
def QgG:TCode :=
 (zsq [(zsq [(.reg [zmv 8 6,zfa 9 3 0,zld 10 9 1,zle 11 10,zbi 12 .lss 8 11]),(.cond 12 .skip (.exit 0))]),(.block 1 (zsq [(.reg [zmv 15 0,zca 16 136 [15,(zki 2)],zmv 17 16,.grp 17 true [zmv 18 5,zle 19 18,zbi 20 .lss 19 (zki 3)] 21 20]),(.cond 21 (.reg [zmv 22 5,zmv 23 6,zop 24 (.bsl 3 [TI] [23]),zop 25 (.app 22 24 3 [TI]),zmv 5 25]) .skip)])),(.reg [zmv 13 6,zbi 14 .add 13 (zki 1),zmv 6 14])])
def QfT:List (Nat × Md):=[(0,.b [.d,.d,.d]),(3,.b [.d]),(5,.one .f),(6,.one .d)]
def Qff:TCode :=
 (zsq [(.reg [zmv 26 5,zmv 4 26]),.ret])
def Qin:TCode :=
 (zsq [(.reg [zop 3 (.box 66 1 1),zmv 4 (.k (.n [TI]))]),(.reg [zop 7 (.bsl 3 [TI] []),zmv 5 7]),(zsq [(.reg [zmv 6 (zki 1)]),(.block 0 (.loop QfT QgG))]),Qff])
def Qg1:List (ARv × Md):=[(.t 4,.one (.o 3))]
def QhN:Qd:=TQ 1 0 Qg1 K
def QmE:Qd:=Qseq (tawp Qdx 1 Qff (QhN K)) (QhN K)
def Qng:Qd:=Qblk 0 (QmE K)
def JV (m:List TOp') (i:Int) (c0:List Int) (c1:Int) (c2:Int) (out:List Int):Prop:=Loop Qdx 1 QfT QgG (Qng K) ⟨[(0,(.p 0 0 0)),(3,(.p 1 0 0)),(5,(.r [TI] 2 0 out.length)),(6,(zci i))],[(0,(.box [(zcs [(.int .u8)] c0),(zci c1),(zci c2)])),(1,(.box [(zcs ctOp m)])),(2,(.sl 3 [TI] true out))],3⟩
theorem QhR (m:List TOp') (i:Int) (c0:List Int) (c1:Int) (c2:Int) (out:List Int) (h :
 (zif (decide (i<(m.length:Int))) ((QD (c0,c1,c2) (2:Int))∧(zif (((QJ (c0,c1,c2) (2:Int)).1)&&(decide (((out.length:Nat):Int)<(3:Int)))) (((out.length=out.length∨out.length+1≤out.length)∧out.length+1≤big)∧(JV K m (w64 (i+(1:Int))) (((QJ (c0,c1,c2) (2:Int)).2).1) (((QJ (c0,c1,c2) (2:Int)).2).2.1) (((QJ (c0,c1,c2) (2:Int)).2).2.2) (List.take (out.length+1) ((List.take out.length out)++([i]))))) (JV K m (w64 (i+(1:Int))) (((QJ (c0,c1,c2) (2:Int)).2).1) (((QJ (c0,c1,c2) (2:Int)).2).2.1) (((QJ (c0,c1,c2) (2:Int)).2).2.2) (List.take out.length out)))) (K (Z0 ((List.take out.length out),(c0,c1,c2)))))):JV K m i c0 c1 c2 out :=
 Loop.of (by kernel_rfl) h
theorem QmL (c:((List Int) × Int × Int)) (m:List TOp') (h :
 (JV K m 1 c.1 c.2.1 c.2.2 ([]:List Int))):Hold (tawp Qdx (1+0) Qin (TQ 1 0 Qg1 K) (Ql [(.bx [(.c (.sl [(.int .u8)]) c.1),(.c TI c.2.1),(.c TI c.2.2)]),(.a [(.c (.sl ctOp) m)])])) :=
 Hold.of (by kernel_rfl) h
theorem Qge (c:((List Int) × Int × Int)) (m:List TOp') (hp:ZI c m):∃ t:(List Int) × (((List Int) × Int × Int)),(YI c m t)∧TCon Try.prog 188 [(.bx [(.c (.sl [(.int .u8)]) c.1),(.c TI c.2.1),(.c TI c.2.2)]),(.a [(.c (.sl ctOp) m)])] (Z0 t):=by
 refine Q6 (tcx (n:=27) (sg:=QbD.sg) Qv (TOk.cons Qdr TOk.nil) (by kernel_rfl) (by kernel_rfl) (QmL (fun r'=>∃ t,(YI c m t)∧r'=Z0 t) c m ?_))
 obtain ⟨h1,h2⟩:=hp
 refine Jf (m.length-1) (fun k=>∀ (c0:List Int) (c1 c2:Int) (out:List Int),Qf (c0,c1,c2)→QC (k:Int) none out=true→out.length≤3→JV (fun r'=>∃ t,(YI c m t)∧r'=Z0 t) m ((k:Int)+1) c0 c1 c2 out) ?_ ?_ c.1 c.2.1 c.2.2 [] h1 rfl (by simp)
 ·intro c0 c1 c2 out hc hg hl
  refine QhR (fun r'=>∃ t,(YI c m t)∧r'=Z0 t) m _ _ _ _ _ ⟨fun h=>by simp at h;omega,fun _=>(Qx ⟨fun hm=>?_,?_,hc⟩)⟩
  ·have hm':=hm
   simp only [Qs,Bool.and_eq_true,QK] at hm'
   simp only [List.take_length,Qh,hm,Bool.true_and]
   rw [show (m.length:Int)-1=((m.length-1:Nat):Int) by omega]
   exact hg
  ·simp only [List.take_length];exact hl
 ·intro k hk ih c0 c1 c2 out hc hg hl
  have b:=Qdf (c0,c1,c2) 2 hc
  have e:w64 ((k:Int)+1+1)=((k+1:Nat):Int)+1:=by rw [Qk (by omega) (by omega)];omega
  refine QhR (fun r'=>∃ t,(YI c m t)∧r'=Z0 t) m _ _ _ _ _ ⟨fun _=>⟨hc,fun h=>⟨⟨.inl rfl,by rw [Je];omega⟩,?_⟩,fun _=>?_⟩,fun h=>by simp at h;omega⟩
  ·rw [Qa7,e]
   simp only [Bool.and_eq_true,decide_eq_true_eq] at h
   have hh:=QfB (i:=(k:Int)+1) (by omega) out none (Qdp (by omega) _ _ hg) rfl
   refine ih _ _ _ _ b ?_ (by simp;omega)
   rw [show ((k+1:Nat):Int)=(k:Int)+1 by omega]
   exact hh
  ·rw [List.take_length,e]
   exact ih _ _ _ _ b (Qdp (by omega) _ _ hg) hl
theorem Qid (c:((List Int) × Int × Int)) (m:List TOp') (hp:ZI c m):YI c m (QQ c m):=(Classical.epsilon_spec (Qge c m hp)).1
theorem Qib (c:((List Int) × Int × Int)) (m:List TOp') (hp:ZI c m):TCon Try.prog 188 [(.bx [(.c (.sl [(.int .u8)]) c.1),(.c TI c.2.1),(.c TI c.2.2)]),(.a [(.c (.sl ctOp) m)])] (Z0 (QQ c m)):=(Classical.epsilon_spec (Qge c m hp)).2
theorem Qm8:Qq Try.prog QbD:=Qy fun x h=>Qib x.1 x.2.1 h
def YD (t:(List Int) × (((List Int) × Int × Int))):TRes:=⟨(zcs [TI] t.1),[],[[(zcs [(.int .u8)] t.2.1),(zci t.2.2.1),(zci t.2.2.2)]],true,[]⟩
def Qb3 (x0:((List Int) × Int × Int)) (x1:List TOp'):(List Int) × (((List Int) × Int × Int)):=Classical.epsilon fun t:(List Int) × (((List Int) × Int × Int))=>(Qds x0 x1 t)∧TCon Try.prog 132 [(.bx [(.c (.sl [(.int .u8)]) x0.1),(.c TI x0.2.1),(.c TI x0.2.2)]),(.a [(.c (.sl ctOp) x1)])] (YD t)
def Qdb:TRow:=Qr 132 [(.b [(.sl [(.int .u8)]),TI,TI]),(.a [(.sl ctOp)])] fun x=>(some (ZI x.1 x.2.1),YD (Qb3 x.1 x.2.1))
def Qiz:List TRow:=[QbD,J2,ZA]
def Qk7:TCode :=
 (zsq [(.reg [zop 3 (.box 66 1 1),zmv 4 (.k (.n [TI]))]),(.reg [zmv 6 0,zLd 7 3 1,zca 8 188 [6,7],zmv 5 8]),(zsq [(.reg [zmv 9 0,zca 10 136 [9,(zki 12)]]),(.cond 10 (.reg [zmv 11 5,zmv 12 0,zca 13 116 [12,(zki 9)],zbi 14 .sub 13 (zki 1),zop 15 (.bsl 3 [TI] [14]),zop 16 (.app 11 15 3 [TI]),zmv 5 16]) .skip)]),(.reg [zmv 17 5,zmv 4 17]),.ret])
def Qla:List (ARv × Md):=[(.t 4,.one .d)]
theorem QnW (c:((List Int) × Int × Int)) (m:List TOp') (h :
 ((ZI c m)∧((QD ((QQ c m).2) (12:Int))∧(zif ((QJ ((QQ c m).2) (12:Int)).1) (((QD ((QJ ((QQ c m).2) (12:Int)).2) (9:Int))∧((((QQ c m).1).length=((QQ c m).1).length∨((QQ c m).1).length+1≤((QQ c m).1).length)∧((QQ c m).1).length+1≤big))∧K (YD ((List.take (((QQ c m).1).length+1) (List.drop 0 ((List.take (((QQ c m).1).length) ((QQ c m).1))++([w64 (((Qc ((QJ ((QQ c m).2) (12:Int)).2) (9:Int)).1)-(1:Int))])))),((Qc ((QJ ((QQ c m).2) (12:Int)).2) (9:Int)).2)))) (K (YD ((List.take (((QQ c m).1).length) (List.drop 0 ((QQ c m).1))),((QJ ((QQ c m).2) (12:Int)).2)))))))):Hold (tawp Qiz (1+0) Qk7 (TQ 1 0 Qla K) (Ql [(.bx [(.c (.sl [(.int .u8)]) c.1),(.c TI c.2.1),(.c TI c.2.2)]),(.a [(.c (.sl ctOp) m)])])) :=
 Hold.of (by kernel_rfl) h
theorem Qnm (c:((List Int) × Int × Int)) (m:List TOp') (hp:ZI c m):∃ t:(List Int) × (((List Int) × Int × Int)),(Qds c m t)∧TCon Try.prog 132 [(.bx [(.c (.sl [(.int .u8)]) c.1),(.c TI c.2.1),(.c TI c.2.2)]),(.a [(.c (.sl ctOp) m)])] (YD t):=by
 refine Q6 (tcx (n:=18) (sg:=Qdb.sg) Qv (TOk.cons Qm8 (TOk.cons Qdr (TOk.cons Yg TOk.nil))) (by kernel_rfl) (by kernel_rfl) (QnW (fun r'=>∃ t,(Qds c m t)∧r'=YD t) c m ?_))
 have b1:=Qid c m hp
 generalize QQ c m=r1 at b1 ⊢
 obtain ⟨k1,k2,k3⟩:=b1
 have b2:=Qdf r1.2 12 k3
 generalize QJ r1.2 12=r2 at b2 ⊢
 refine ⟨hp,k3,fun _=>⟨⟨b2,.inl rfl,by rw [Je];omega⟩,Qx ⟨?_,(QW _ _ b2).2.2.2⟩⟩,fun _=>(Qx ⟨?_,b2⟩)⟩ <;> (simp;omega)
theorem QlP (c:((List Int) × Int × Int)) (m:List TOp') (hp:ZI c m):TCon Try.prog 132 [(.bx [(.c (.sl [(.int .u8)]) c.1),(.c TI c.2.1),(.c TI c.2.2)]),(.a [(.c (.sl ctOp) m)])] (YD (Qb3 c m)):=(Classical.epsilon_spec (Qnm c m hp)).2
theorem Qj3:Qq Try.prog Qdb:=Qy fun x h=>QlP x.1 x.2.1 h
def Jc (t:(List TOp') × (List Int)):TRes:=zra (.tp [(.a [(zcs ctOp t.1)]),(zcs [TI] t.2)])
def Qj (x0:List Int):(List TOp') × (List Int):=Classical.epsilon fun t:(List TOp') × (List Int)=>(Qah x0 t)∧TCon Try.prog 46 [(.c (.sl [(.int .u8)]) x0)] (Jc t)
def QcF:TRow:=Qr 46 [(.c (.sl [(.int .u8)]))] fun x=>(some (Zo x.1),Jc (Qj x.1))
def QnB:List TRow:=[Qbt,QcP,Qdb]
def QjC:TCode :=
 (zsq [(.reg [zop 2 (.new 66 [(.n ctOp)]),zmv 3 (.k (.n [TI]))]),(.reg [zmv 6 0,zca 7 114 [6],zmv 4 7]),(.reg [zmv 8 4,zca 9 131 [8],zop 5 (.new 66 [(.n ctOp)]),zst 5 9 1]),(.draw [zLd 10 5 1,zmv 11 4,zLd 12 5 1,zca 13 132 [11,12],zst 2 10 1,zmv 3 13] [(0,3)]),.ret])
def Qnw:List (ARv × Md):=[(.l 2 1 true,.b [.d]),(.t 3,.one .d)]
theorem QjT (code:List Int) (h :
 ((Zo code)∧((Qf (Zw code))∧((ZI ((ZF (Zw code)).2) ((ZF (Zw code)).1))∧K (Jc ((ZF (Zw code)).1,(Qb3 ((ZF (Zw code)).2) ((ZF (Zw code)).1)).1)))))):Hold (tawp QnB (0+0) QjC (TQ 0 0 Qnw K) (Ql [(.c (.sl [(.int .u8)]) code)])) :=
 Hold.of (by kernel_rfl) h
theorem Qe2 (code:List Int) (hp:Zo code):∃ t:(List TOp') × (List Int),(Qah code t)∧TCon Try.prog 46 [(.c (.sl [(.int .u8)]) code)] (Jc t):=by
 refine Q6 (tcx (n:=14) (sg:=QcF.sg) Qv (TOk.cons Qkm (TOk.cons Qkl (TOk.cons Qj3 TOk.nil))) (by kernel_rfl) (by kernel_rfl) (QjT (fun r'=>∃ t,(Qah code t)∧r'=Jc t) code ?_))
 have b1:=Qlt _ (Qe6 code hp)
 have hc:ZI (ZF (Zw code)).2 (ZF (Zw code)).1:=⟨b1.2,b1.1⟩
 exact ⟨hp,Qe6 code hp,hc,Qx b1.1⟩
theorem Qm6 (code:List Int) (hp:Zo code):Qah code (Qj code):=(Classical.epsilon_spec (Qe2 code hp)).1
theorem QkJ (code:List Int) (hp:Zo code):TCon Try.prog 46 [(.c (.sl [(.int .u8)]) code)] (Jc (Qj code)):=(Classical.epsilon_spec (Qe2 code hp)).2
theorem Qlg:Qq Try.prog QcF:=Qy fun x h=>QkJ x.1 h
end
end Go.Proofs.Ytephkbajoofeoaa.Am

