/- -/
import Derived.Test.YtephkbajoofeoaaWCG8
import Derived.Test.YtephkbajoofeoaaWCGD
namespace Go.Proofs.Ytephkbajoofeoaa.Am
open Go Go.RowKit Go.Proofs.Ytephkbajoofeoaa
set_option linter.all false
set_option maxHeartbeats 2000000
noncomputable section
variable (K:TRes→Prop)
def J9 (t:(List Int)):TRes:=⟨(.r [TI] 0 0 t.length),[(.sl 3 [TI] (.dp 0 true []) t)],[],false,[]⟩
def Qe1:TRow:=Qm 94 [(.a QM)] fun x=>(some (Jw (α:=Qt) x.1),J9 (QU x.1))
def Qbo:TTab:=⟨[],true⟩
def QiT:TCode :=
 (zsq [(.reg [zbi 11 .lss 10 9]),(.cond 11 .skip (.exit 0)),(.block 1 (zsq [(.reg [zia 12 8 10 Qn,zLd 13 12 14,zop 5 (.new 121 (z0s Qn)),zst 5 13 14]),(.reg [zmv 14 3,zfa 15 5 5,zld 16 15 1,zle 17 16,zop 18 (.bsl 3 [TI] [17]),zop 19 (.app 14 18 3 [TI]),zmv 3 19])])),(.reg [zbi 20 .add 10 (zki 1),zmv 10 20])])
def Qlp:List (Nat × Md):=[(3,.one .f),(8,.one .d),(9,.one .d),(10,.one .d)]
def Qhi:TCode :=
 (zsq [(.reg [zmv 21 3,zmv 2 21]),.ret])
def Qxb:TCode :=
 (zsq [(.reg [zop 1 (.box 139 0 4),zmv 2 (.k (.n [TI]))]),(.reg [zop 6 (.bsl 3 [TI] []),zmv 3 6]),(zsq [(.reg [zfa 7 1 1,zld 8 7 1,zle 9 8,zmv 10 (zki 0)]),(.block 0 (.loop Qlp QiT))]),Qhi])
def Qm2:List (ARv × Md):=[(.t 2,.one (.p 3))]
def Qkp:Qb:=TQ 0 0 Qm2 K
def Qq0:Qb:=Qseq (tawp Qbo 0 Qhi (Qkp K)) (Qkp K)
def Qvz:Qb:=Qblk 0 (Qq0 K)
def Qbt (p:Qt) (x:Int) (l:List Int):Prop:=Loop Qbo 0 Qlp QiT (Qvz K) ⟨[(3,(.r [TI] 0 0 l.length)),(8,(zcs Qn p.2.1)),(9,(zci ((p.2.1).length:Int))),(10,(zci x))],[(0,(.sl 3 [TI] (.dp 0 true []) l))],1⟩
theorem Qh2 (p:Qt) (x:Int) (l:List Int) (h :
 (zif (decide (x<((p.2.1).length:Int))) (((0:Int)≤x∧Int.toNat x<(p.2.1).length)∧(((l.length=l.length∨l.length+1≤l.length)∧l.length+1≤big)∧(Qbt K p (w64 (x+(1:Int))) (List.take (l.length+1) ((List.take l.length l)++([(((gtd QN p.2.1 (Int.toNat x)).2.2.2.2.2.1).length:Int)])))))) (K (J9 (List.take l.length l))))):Qbt K p x l :=
 Loop.of (by kernel_rfl) h
theorem Qr6 (p:Qt) (h :
 (Qbt K p 0 ([]:List Int))):Hold (tawp Qbo (0+0) Qxb (TQ 0 0 Qm2 K) (Ql [(.a (Tup.cells QM p))])) :=
 Hold.of (by kernel_rfl) h
theorem QoG (p:Qt) (hp:Jw (α:=Qt) p):TCon Try.prog 94 [(.a (Tup.cells QM p))] (J9 (QU p)):=by
 refine Qq rfl fun hb=>tcg (Γ:=Qbo) (n:=22) (sg:=Qe1.sg) Qp TOkL.nil (by kernel_rfl) (by kernel_rfl) (Qr6 _ p ?_)
 have hl_p_0:(p.1).length≤9223372036854775807:=hb.1.1.1
 have hl_p_1:(p.2.1).length≤9223372036854775807:=hb.1.2.1.1
 have hl_p_2:(p.2.2.1).length≤9223372036854775807:=hb.1.2.2.1.1
 have hl_p_3:(p.2.2.2).length≤9223372036854775807:=hb.1.2.2.2.1.1
 have hp':Sz.sz p≤2147483648:=hp
 have hs:Sz.sz p=Sz.sz p.1+Sz.sz p.2.1+Sz.sz p.2.2.1+Sz.sz p.2.2.2:=QfI p
 have hl:=Qaa p.2.1
 refine Qam p.2.1 (fun r k=>∀ v:List Int,v.length=k→v++r.map (fun s=>((Qbm s).length:Int))=(QU p)→Qbt (fun r'=>r'=J9 (QU p)) p (k:Int) v) ?_ ?_ [] rfl rfl
 ·intro v hv he
  refine Qh2 (fun r'=>r'=J9 (QU p)) p _ _ ⟨fun h=>by simp at h,fun _=>R_eq ?_⟩
  rw [List.take_length,← he];simp
 ·intro k x r hk hlt hg ih v hv he
  refine Qh2 (fun r'=>r'=J9 (QU p)) p _ _ ⟨fun _=>?_,fun h=>by simp at h;omega⟩
  rw [Int.toNat_natCast,hg,sc1 (by omega),Qim]
  exact ⟨⟨by omega,hlt⟩,room (by omega),ih _ (by simp;omega) (by rw [← he];simp)⟩
theorem QpA:Qo Try.prog Qe1:=Qr fun x h=>QoG x.1 h
def JR (t:(List Int)):TRes:=zra (zcs [TI] t)
def QeO:TRow:=Qm 92 [(.a QM)] fun x=>(some (Jw (α:=Qt) x.1),JR (QU x.1))
def Qcu:TTab:=⟨[],false⟩
def QmF:TCode :=
 (zsq [(zsq [(.reg [zmv 6 4,zfa 7 1 1,zld 8 7 1,zle 9 8,zbi 10 .lss 6 9]),(.cond 10 .skip (.exit 0))]),(.block 1 (.reg [zmv 13 3,zfa 14 1 1,zld 15 14 1,zmv 16 4,zia 17 15 16 Qn,zfa 18 17 5,zld 19 18 1,zle 20 19,zop 21 (.bsl 3 [TI] [20]),zop 22 (.app 13 21 3 [TI]),zmv 3 22])),(.reg [zmv 11 4,zbi 12 .add 11 (zki 1),zmv 4 12])])
def QkE:List (Nat × Md):=[(1,.b (zds 4)),(3,.one .f),(4,.one .d)]
def QjF:TCode :=
 (zsq [(.reg [zmv 23 3,zmv 2 23]),.ret])
def Qre:TCode :=
 (zsq [(.reg [zop 1 (.box 139 0 4),zmv 2 (.k (.n [TI]))]),(.reg [zop 5 (.bsl 3 [TI] []),zmv 3 5]),(zsq [(.reg [zmv 4 (zki 0)]),(.block 0 (.loop QkE QmF))]),QjF])
def QlN:List (ARv × Md):=[(.t 2,.one .d)]
def Qjz:Qb:=TQ 0 0 QlN K
def QnB:Qb:=Qseq (tawp Qcu 0 QjF (Qjz K)) (Qjz K)
def QnO:Qb:=Qblk 0 (QnB K)
def Qcc (p:Qt) (s:Int) (out:List Int):Prop:=Loop Qcu 0 QkE QmF (QnO K) ⟨[(1,(.p 0 0 0)),(3,(.r [TI] 1 0 out.length)),(4,(zci s))],[(0,(.box (Tup.cells QM p))),(1,(.sl 3 [TI] .ow out))],2⟩
theorem Qj5 (p:Qt) (s:Int) (out:List Int) (h :
 (zif (decide (s<((p.2.1).length:Int))) ((((0:Int)≤s∧Int.toNat s<(p.2.1).length)∧((out.length=out.length∨out.length+1≤out.length)∧out.length+1≤big))∧(Qcc K p (w64 (s+(1:Int))) (List.take (out.length+1) ((List.take out.length out)++([(((gtd QN p.2.1 (Int.toNat s)).2.2.2.2.2.1).length:Int)]))))) (K (JR (List.take out.length (List.drop 0 out)))))):Qcc K p s out :=
 Loop.of (by kernel_rfl) h
theorem Quy (p:Qt) (h :
 (Qcc K p 0 ([]:List Int))):Hold (tawp Qcu (0+0) Qre (TQ 0 0 QlN K) (Ql [(.a (Tup.cells QM p))])) :=
 Hold.of (by kernel_rfl) h
theorem Qp6 (p:Qt) (hp:Jw (α:=Qt) p):TCon Try.prog 92 [(.a (Tup.cells QM p))] (JR (QU p)):=by
 refine Qq rfl fun hb=>tcg (Γ:=Qcu) (n:=24) (sg:=QeO.sg) Qp TOkL.nil (by kernel_rfl) (by kernel_rfl) (Quy _ p ?_)
 have hl_p_0:(p.1).length≤9223372036854775807:=hb.1.1.1
 have hl_p_1:(p.2.1).length≤9223372036854775807:=hb.1.2.1.1
 have hl_p_2:(p.2.2.1).length≤9223372036854775807:=hb.1.2.2.1.1
 have hl_p_3:(p.2.2.2).length≤9223372036854775807:=hb.1.2.2.2.1.1
 have hp':Sz.sz p≤2147483648:=hp
 have hs:Sz.sz p=Sz.sz p.1+Sz.sz p.2.1+Sz.sz p.2.2.1+Sz.sz p.2.2.2:=QfI p
 have hl:=Qaa p.2.1
 refine Qam p.2.1 (fun r k=>∀ v:List Int,v.length=k→v++r.map (fun s=>((Qbm s).length:Int))=(QU p)→Qcc (fun r'=>r'=JR (QU p)) p (k:Int) v) ?_ ?_ [] rfl rfl
 ·intro v hv he
  refine Qj5 (fun r'=>r'=JR (QU p)) p _ _ ⟨fun h=>by simp at h,fun _=>R_eq ?_⟩
  rw [QoL,← he];simp
 ·intro k x r hk hlt hg ih v hv he
  refine Qj5 (fun r'=>r'=JR (QU p)) p _ _ ⟨fun _=>?_,fun h=>by simp at h;omega⟩
  rw [Int.toNat_natCast,hg,sc1 (by omega),Qim]
  exact ⟨⟨⟨by omega,hlt⟩,room (by omega)⟩,ih _ (by simp;omega) (by rw [← he];simp)⟩
theorem Qra:Qo Try.prog QeO:=Qr fun x h=>Qp6 x.1 h
end
end Go.Proofs.Ytephkbajoofeoaa.Am

