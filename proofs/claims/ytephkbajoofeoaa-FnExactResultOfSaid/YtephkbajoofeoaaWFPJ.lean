/- -/
import Derived.Test.YtephkbajoofeoaaWFPF
import Derived.Test.YtephkbajoofeoaaWFG8
namespace Go.Proofs.Ytephkbajoofeoaa.Am
open Go Go.RowKit Go.Proofs.Ytephkbajoofeoaa
set_option linter.all false
noncomputable section
variable (K:TRes→Prop)
def JG (t:(List (List Int))):TRes:=⟨(.r [(.sl [TI])] 0 0 t.length),[(.sl 91 [(.sl [TI])] (.dp 0 true []) t)],[],false,[]⟩
def QgC:TRow:=Ql 180 [(.c (.sl [(.sl [TI])]))] fun x=>(some (ZD (α:=List (List Int)) x.1),JG (id (α:=List (List Int)) x.1))
def QbO:TTab:=⟨[Qgs],true⟩
def Qhz:TCode :=
 (zsq [(.reg [zbi 10 .lss 9 8]),(.cond 10 .skip (.exit 0)),(.block 1 (zsq [(.reg [zia 11 7 9 [(.sl [TI])],zLd 12 11 1,zop 5 (.new 91 [(.n [TI])]),zst 5 12 1]),(.reg [zmv 13 3,zfa 14 5 0,zld 15 14 1,zca 16 121 [15],zop 17 (.build [(.n [TI])] [(0,1,16)]),zop 18 (.bsl 91 [(.sl [TI])] [17]),zop 19 (.app 13 18 91 [(.sl [TI])]),zmv 3 19])])),(.reg [zbi 20 .add 9 (zki 1),zmv 9 20])])
def Qkr:List (Nat × Md):=[(3,.one .f),(7,.one .d),(8,.one .d),(9,.one .d)]
def Qoc:TCode :=
 (zsq [(.reg [zmv 21 3,zmv 2 21]),.ret])
def Qpn:TCode :=
 (zsq [(.reg [zmv 2 (.k (.n [(.sl [TI])]))]),(.reg [zop 6 (.bsl 91 [(.sl [TI])] []),zmv 3 6]),(zsq [(.reg [zmv 7 0,zle 8 7,zmv 9 (zki 0)]),(.block 0 (.loop Qkr Qhz))]),Qoc])
def Qic:List (ARv × Md):=[(.t 2,.one (.p 91))]
def Qif:Qb:=TQ 0 0 Qic K
def Qzb:Qb:=Qseq (tawp QbO 0 Qoc (Qif K)) (Qif K)
def Qy5:Qb:=Qblk 0 (Qzb K)
def Qfn (l:List (List Int)) (x:Int) (rows:List (List Int)):Prop:=Loop QbO 0 Qkr Qhz (Qy5 K) ⟨[(3,(.r [(.sl [TI])] 0 0 rows.length)),(7,(zcs [(.sl [TI])] l)),(8,(zci (l.length:Int))),(9,(zci x))],[(0,(.sl 91 [(.sl [TI])] (.dp 0 true []) rows))],1⟩
theorem Qi3 (l:List (List Int)) (x:Int) (rows:List (List Int)) (h :
 (zif (decide (x<(l.length:Int))) (((0:Int)≤x∧Int.toNat x<l.length)∧(((ZD (α:=List Int) (gtd ([]:List Int) l (Int.toNat x)))∧((rows.length=rows.length∨rows.length+1≤rows.length)∧rows.length+1≤big))∧(Qfn K l (w64 (x+(1:Int))) (List.take (rows.length+1) ((List.take rows.length rows)++([(List.take ((id (α:=List Int) (gtd ([]:List Int) l (Int.toNat x))).length) (List.drop 0 (id (α:=List Int) (gtd ([]:List Int) l (Int.toNat x)))))])))))) (K (JG (List.take rows.length rows))))):Qfn K l x rows :=
 Loop.of (by kernel_rfl) h
theorem QwZ (l:List (List Int)) (h :
 (Qfn K l 0 ([]:List (List Int)))):Hold (tawp QbO (0+0) Qpn (TQ 0 0 Qic K) (Qk [(.c (.sl [(.sl [TI])]) l)])) :=
 Hold.of (by kernel_rfl) h
theorem QoN (l:List (List Int)) (hp:ZD (α:=List (List Int)) l):TCon Try.prog 180 [(.c (.sl [(.sl [TI])]) l)] (JG (id (α:=List (List Int)) l)):=by
 refine Qp rfl fun hb=>tcg (Γ:=QbO) (n:=22) (sg:=QgC.sg) Qo (TOkL.cons Qti TOkL.nil) (by kernel_rfl) (by kernel_rfl) (QwZ _ l ?_)
 have hl_l:l.length≤9223372036854775807:=hb.1.1
 refine QiY (Q:=fun z=>JG z=JG (id (α:=List (List Int)) l)) hp (fun k x v hk hl hg hv hx ih=>?_) (fun hq=>?_) (R_eq rfl)
 ·refine Qi3 (fun r'=>r'=JG (id (α:=List (List Int)) l)) l _ _ ⟨fun _=>?_,fun h=>by simp at h;omega⟩
  try simp only [Qw,Qy,QD] at hx
  rw [Int.toNat_natCast,hg,sc1 (by omega),QlP,Qvl]
  exact ⟨⟨by omega,hk⟩,⟨(show Sz.sz (_:List Int)≤2147483648 by omega),room (by omega)⟩,ih⟩
 ·refine Qi3 (fun r'=>r'=JG (id (α:=List (List Int)) l)) l _ _ ⟨fun h=>by simp at h,fun _=>?_⟩
  exact R_eq (by simp)
theorem QrR:Qm Try.prog QgC:=Qr fun x h=>QoN x.1 h
def Jt (t:(List (List Int))):TRes:=zra (zcs [(.sl [TI])] t)
def Qe1:TRow:=Ql 178 [(.c (.sl [(.sl [TI])]))] fun x=>(some (ZD (α:=List (List Int)) x.1),Jt (id (α:=List (List Int)) x.1))
def Qdg:TTab:=⟨[],false⟩
def Ql6:TCode :=
 (zsq [(zsq [(.reg [zmv 6 4,zmv 7 0,zle 8 7,zbi 9 .lss 6 8]),(.cond 9 .skip (.exit 0))]),(.block 1 (.reg [zmv 12 3,zop 13 (.bsl 3 [TI] []),zmv 14 0,zmv 15 4,zia 16 14 15 [(.sl [TI])],zfa 17 16 0,zld 18 17 1,zop 19 (.app 13 18 3 [TI]),zop 20 (.build [(.n [TI])] [(0,1,19)]),zop 21 (.bsl 91 [(.sl [TI])] [20]),zop 22 (.app 12 21 91 [(.sl [TI])]),zmv 3 22])),(.reg [zmv 10 4,zbi 11 .add 10 (zki 1),zmv 4 11])])
def Qj6:List (Nat × Md):=[(0,.one .d),(3,.one .f),(4,.one .d)]
def QiZ:TCode :=
 (zsq [(.reg [zmv 23 3,zmv 2 23]),.ret])
def QsY:TCode :=
 (zsq [(.reg [zmv 2 (.k (.n [(.sl [TI])]))]),(.reg [zop 5 (.bsl 91 [(.sl [TI])] []),zmv 3 5]),(zsq [(.reg [zmv 4 (zki 0)]),(.block 0 (.loop Qj6 Ql6))]),QiZ])
def QhQ:List (ARv × Md):=[(.t 2,.one .d)]
def QhT:Qb:=TQ 0 0 QhQ K
def QvV:Qb:=Qseq (tawp Qdg 0 QiZ (QhT K)) (QhT K)
def Qrc:Qb:=Qblk 0 (QvV K)
def QdL (l:List (List Int)) (i:Int) (out:List (List Int)):Prop:=Loop Qdg 0 Qj6 Ql6 (Qrc K) ⟨[(0,(zcs [(.sl [TI])] l)),(3,(.r [(.sl [TI])] 0 0 out.length)),(4,(zci i))],[(0,(.sl 91 [(.sl [TI])] .ow out))],1⟩
theorem Qli (l:List (List Int)) (i:Int) (out:List (List Int)) (h :
 (zif (decide (i<(l.length:Int))) ((((0:Int)≤i∧Int.toNat i<l.length)∧(((0=0∨0+(gtd ([]:List Int) l (Int.toNat i)).length≤0)∧0+(gtd ([]:List Int) l (Int.toNat i)).length≤big)∧((out.length=out.length∨out.length+1≤out.length)∧out.length+1≤big)))∧(QdL K l (w64 (i+(1:Int))) (List.take (out.length+1) ((List.take out.length out)++([(List.take (0+(gtd ([]:List Int) l (Int.toNat i)).length) (List.drop 0 (gtd ([]:List Int) l (Int.toNat i))))]))))) (K (Jt (List.take out.length (List.drop 0 out)))))):QdL K l i out :=
 Loop.of (by kernel_rfl) h
theorem Qsr (l:List (List Int)) (h :
 (QdL K l 0 ([]:List (List Int)))):Hold (tawp Qdg (0+0) QsY (TQ 0 0 QhQ K) (Qk [(.c (.sl [(.sl [TI])]) l)])) :=
 Hold.of (by kernel_rfl) h
theorem Qzn (l:List (List Int)) (hp:ZD (α:=List (List Int)) l):TCon Try.prog 178 [(.c (.sl [(.sl [TI])]) l)] (Jt (id (α:=List (List Int)) l)):=by
 refine Qp rfl fun hb=>tcg (Γ:=Qdg) (n:=24) (sg:=Qe1.sg) Qo TOkL.nil (by kernel_rfl) (by kernel_rfl) (Qsr _ l ?_)
 have hl_l:l.length≤9223372036854775807:=hb.1.1
 refine QiY (Q:=fun z=>Jt z=Jt (id (α:=List (List Int)) l)) hp (fun k x v hk hl hg hv hx ih=>?_) (fun hq=>?_) (R_eq rfl)
 ·refine Qli (fun r'=>r'=Jt (id (α:=List (List Int)) l)) l _ _ ⟨fun _=>?_,fun h=>by simp at h;omega⟩
  try simp only [Qw,Qy,QD] at hx
  rw [Int.toNat_natCast,hg,sc1 (by omega),QlP,Qyg]
  exact ⟨⟨⟨by omega,hk⟩,⟨.inl rfl,by have:=QkE x;rw [QaY];omega⟩,room (by omega)⟩,ih⟩
 ·refine Qli (fun r'=>r'=Jt (id (α:=List (List Int)) l)) l _ _ ⟨fun h=>by simp at h,fun _=>?_⟩
  exact R_eq (by simp)
theorem QqC:Qm Try.prog Qe1:=Qr fun x h=>Qzn x.1 h
end
end Go.Proofs.Ytephkbajoofeoaa.Am

