/- -/
import Derived.Test.YtephkbajoofeoaaWEH1
import Derived.Test.YtephkbajoofeoaaWEGF
namespace Go.Proofs.Ytephkbajoofeoaa.Am
open Go Go.RowKit Go.Proofs.Ytephkbajoofeoaa
set_option linter.all false
noncomputable section
variable (K:TRes→Prop)
def Jo (t:Int):TRes:=zre (zci t)
def QdN:TRow:=Ql 22 [(.c (.sl Qf)),(.c TI)] fun x=>(some (p_sz (α:=List TIns) x.1 x.2.1),Jo (m_sz (α:=List TIns) x.1 x.2.1))
def QfL:TTab:=⟨[],false⟩
def Ql9:TCode :=
 (zsq [(.reg [zmv 4 (zki 0)]),(.reg [zmv 5 1,zmv 6 0,zle 7 6,zbi 8 .sub 5 7,zmv 1 8]),(zsq [(.reg [zmv 9 1,zbi 10 .lss 9 (zki 0)]),(.cond 10 (zsq [(.reg [zmv 4 (zki (-1))]),.ret]) .skip)]),(.reg [zmv 11 1,zmv 4 11]),.ret])
def QqU:List (ARv × Md):=[(.t 4,.one .d)]
theorem Qpa (a:List TIns) (left:Int) (h :
 (zif (decide ((w64 (left-(a.length:Int)))<(0:Int))) (K (Jo (-1:Int))) (K (Jo (w64 (left-(a.length:Int))))))):Hold (tawp QfL (0+0) Ql9 (TQ 0 0 QqU K) (Qh [(.c (.sl Qf) a),(.c TI left)])) :=
 Hold.of (by kernel_rfl) h
theorem Qtb (a:List TIns) (left:Int) (hp:p_sz (α:=List TIns) a left):TCon Try.prog 22 [(.c (.sl Qf) a),(.c TI left)] (Jo (m_sz (α:=List TIns) a left)):=by
 refine Qn rfl fun hb=>tcg (Γ:=QfL) (n:=12) (sg:=QdN.sg) Qo TOkL.nil (by kernel_rfl) (by kernel_rfl) (Qpa _ a left ?_)
 exact Qk7 (Q:=fun x=>Jo x=Jo (m_sz (α:=List TIns) a left)) (fun _=>rfl) hp hb.1.1 rfl
theorem QnY:Qm Try.prog QdN:=Qp fun x h=>Qtb x.1 x.2.1 h
def Qdk (t:TIns):TRes:=zre (.a [(zci t.1),(zci t.2)])
def Qds:TRow:=Ql 112 [(.a Qf)] fun x=>(some (p_to (α:=TIns) x.1),Qdk (id (α:=TIns) x.1))
def QiM:TTab:=⟨[],true⟩
def QqX:TCode :=
 (zsq [(.reg [zop 1 (.box 158 0 2),zop 2 (.new 151 (z0s Qf))]),(.reg [zop 3 (.new 151 (z0s Qf))]),(.reg [zfa 4 1 0,zld 5 4 1,zfa 6 3 0,zst 6 5 1]),(.reg [zfa 7 1 1,zld 8 7 1,zfa 9 3 1,zst 9 8 1]),(.reg [zLd 10 3 2,zst 2 10 2]),.ret])
def Qt4:List (ARv × Md):=[(.l 2 2 true,.b [.d,.d])]
theorem Qoj (a:TIns) (h :
 K (Qdk a)):Hold (tawp QiM (0+0) QqX (TQ 0 0 Qt4 K) (Qh [(.a [(.c TI a.1),(.c TI a.2)])])) :=
 Hold.of (by kernel_rfl) h
theorem Qrs (a:TIns) (hp:p_to (α:=TIns) a):TCon Try.prog 112 [(.a [(.c TI a.1),(.c TI a.2)])] (Qdk (id (α:=TIns) a)):=by
 refine Qn rfl fun hb=>tcg (Γ:=QiM) (n:=11) (sg:=Qds.sg) Qo TOkL.nil (by kernel_rfl) (by kernel_rfl) (Qoj _ a ?_)
 exact R_eq rfl
theorem QnE:Qm Try.prog Qds:=Qp fun x h=>Qrs x.1 h
def YH (t:(List TIns)):TRes:=⟨(.r Qf 0 0 t.length),[(.sl 151 Qf (.dp 0 true []) t)],[],false,[]⟩
def Qfi:TRow:=Ql 24 [(.c (.sl Qf))] fun x=>(some (p_to (α:=List TIns) x.1),YH (id (α:=List TIns) x.1))
def QcB:TTab:=⟨[Qds],true⟩
def QiN:TCode :=
 (zsq [(zsq [(.reg [zmv 8 4,zmv 9 0,zle 10 9,zbi 11 .lss 8 10]),(.cond 11 .skip (.exit 0))]),(.block 1 (.reg [zmv 14 3,zmv 15 4,zmv 16 0,zmv 17 4,zia 18 16 17 Qf,zLd 19 18 2,zca 20 112 [19],zia 21 14 15 Qf,zst 21 20 2])),(.reg [zmv 12 4,zbi 13 .add 12 (zki 1),zmv 4 13])])
def QjV:List (Nat × Md):=[(0,.one .d),(3,.one .f),(4,.one .d)]
def QfK:TCode :=
 (zsq [(.reg [zmv 22 3,zmv 2 22]),.ret])
def Qmw:TCode :=
 (zsq [(.reg [zmv 2 (.k (.n Qf))]),(.reg [zmv 5 0,zle 6 5,zop 7 (.mk 151 Qf (z0s Qf) 6),zmv 3 7]),(zsq [(.reg [zmv 4 (zki 0)]),(.block 0 (.loop QjV QiN))]),QfK])
def Qio:List (ARv × Md):=[(.t 2,.one (.p 151))]
def Qjw:Qc:=TQ 0 0 Qio K
def QoB:Qc:=Qseq (tawp QcB 0 QfK (Qjw K)) (Qjw K)
def QpQ:Qc:=Qblk 0 (QoB K)
def Qce (a:List TIns) (i:Int) (out:List TIns):Prop:=Loop QcB 0 QjV QiN (QpQ K) ⟨[(0,(zcs Qf a)),(3,(.r Qf 0 0 out.length)),(4,(zci i))],[(0,(.sl 151 Qf (.dp 0 true []) out))],1⟩
theorem Qj9 (a:List TIns) (i:Int) (out:List TIns) (h :
 (zif (decide (i<(a.length:Int))) ((((0:Int)≤i∧Int.toNat i<a.length)∧((p_to (α:=TIns) (gtd dIns a (Int.toNat i)))∧(((0:Int)≤i∧Int.toNat i<out.length)∧((0+(Int.toNat i))<out.length))))∧(Qce K a (w64 (i+(1:Int))) (List.take out.length ((out).set (0+(Int.toNat i)) (id (α:=TIns) (gtd dIns a (Int.toNat i))))))) (K (YH (List.take out.length out))))):Qce K a i out :=
 Loop.of (by kernel_rfl) h
theorem Qqz (a:List TIns) (h :
 (((0:Int)≤(a.length:Int)∧(a.length:Int)≤big)∧(Qce K a 0 (List.take (Int.toNat (a.length:Int)) (List.replicate (Int.toNat (a.length:Int)) ((0:Int),(0:Int))))))):Hold (tawp QcB (0+0) Qmw (TQ 0 0 Qio K) (Qh [(.c (.sl Qf) a)])) :=
 Hold.of (by kernel_rfl) h
theorem Qmo (a:List TIns) (hp:p_to (α:=List TIns) a):TCon Try.prog 24 [(.c (.sl Qf) a)] (YH (id (α:=List TIns) a)):=by
 refine Qn rfl fun hb=>tcg (Γ:=QcB) (n:=23) (sg:=Qfi.sg) Qo (TOkL.cons QnE TOkL.nil) (by kernel_rfl) (by kernel_rfl) (Qqz _ a ?_)
 refine ⟨⟨by omega,by rw [bigI];have:=JL hp;omega⟩,?_⟩
 refine Qd4 a (A:=fun ii ll=>Qce (fun r'=>r'=YH (id (α:=List TIns) a)) a ii ll) (Q:=fun z=>YH z=YH (id (α:=List TIns) a)) hp ?_ ?_ rfl
 ·intro k x out hlt hg ho hx hA
  have hw:w64 (((k:Nat):Int)+1)=((k+1:Nat):Int):=by have:=JL hp;rw [QJ (by omega) (by omega)];omega
  have hlo:k<out.length:=by omega
  refine Qj9 (fun r'=>r'=YH (id (α:=List TIns) a)) a ((k:Nat):Int) out ?_
  refine ⟨fun _=>?_,fun h=>absurd h (by simp;omega)⟩
  simp only [Int.toNat_natCast,Nat.zero_add,hg,hw,hlt,hlo,Qc0,List.drop_zero,List.take_length,id_eq,and_true,true_and,Int.natCast_nonneg]
  first | exact hA | exact ⟨hx,hA⟩
 ·intro out ho hq
  refine Qj9 (fun r'=>r'=YH (id (α:=List TIns) a)) a ((a.length:Nat):Int) out ?_
  refine ⟨fun h=>absurd h (by simp),fun _=>?_⟩
  simp only [List.drop_zero,List.take_length]
  exact hq
theorem QrO:Qm Try.prog Qfi:=Qp fun x h=>Qmo x.1 h
def Qak (t:Bool):TRes:=zre (zcb t)
def Qev:TRow:=Ql 109 [(.a Qf),(.a Qf)] fun x=>(none,Qak (m_eq (α:=TIns) x.1 x.2.1))
def QhW:TTab:=⟨[],false⟩
def Qpt:TCode :=
 (zsq [(.reg [zop 2 (.box 151 0 2),zop 3 (.box 151 1 2),zmv 4 (zkb false)]),(zsq [(.reg [zfa 5 2 0,zld 6 5 1,zfa 7 3 0,zld 8 7 1,zbi 9 .neq 6 8]),(.cond 9 (zsq [(.reg [zmv 4 (zkb false)]),.ret]) .skip)]),(zsq [(.reg [zfa 10 2 1,zld 11 10 1,zfa 12 3 1,zld 13 12 1,zbi 14 .neq 11 13]),(.cond 14 (zsq [(.reg [zmv 4 (zkb false)]),.ret]) .skip)]),(.reg [zmv 4 (zkb true)]),.ret])
def QtJ:List (ARv × Md):=[(.t 4,.one .d)]
theorem Qsz (a:TIns) (b:TIns) (h :
 (zif (a.1 != b.1) (K (Qak false)) (zif (a.2 != b.2) (K (Qak false)) (K (Qak true))))):Hold (tawp QhW (0+0) Qpt (TQ 0 0 QtJ K) (Qh [(.a [(.c TI a.1),(.c TI a.2)]),(.a [(.c TI b.1),(.c TI b.2)])])) :=
 Hold.of (by kernel_rfl) h
theorem Qs5 (a:TIns) (b:TIns):TCon Try.prog 109 [(.a [(.c TI a.1),(.c TI a.2)]),(.a [(.c TI b.1),(.c TI b.2)])] (Qak (m_eq (α:=TIns) a b)):=by
 refine Qn rfl fun hb=>tcg (Γ:=QhW) (n:=15) (sg:=Qev.sg) Qo TOkL.nil (by kernel_rfl) (by kernel_rfl) (Qsz _ a b ?_)
 refine ⟨fun h=>R_eq (Eq.symm (decide_eq_false (by rintro rfl;simp [m_eq] at h))),fun h0=>?_⟩
 refine ⟨fun h=>R_eq (Eq.symm (decide_eq_false (by rintro rfl;simp [m_eq] at h))),fun h1=>?_⟩
 refine R_eq (Eq.symm (decide_eq_true ?_))
 simp [m_eq] at h0 h1
 simp [Prod.ext_iff, *]
theorem Qtw:Qm Try.prog Qev:=Qp fun x _=>Qs5 x.1 x.2.1
def YW (t:Bool):TRes:=zre (zcb t)
def QcK:TRow:=Ql 19 [(.c (.sl Qf)),(.c (.sl Qf))] fun x=>(none,YW (m_eq (α:=List TIns) x.1 x.2.1))
def QbL:TTab:=⟨[Qev],false⟩
def Qke:TCode :=
 (zsq [(zsq [(.reg [zmv 11 5,zmv 12 0,zle 13 12,zbi 14 .lss 11 13]),(.cond 14 .skip (.exit 0))]),(.block 1 (zsq [(.draw [zmv 17 0,zmv 18 5,zia 19 17 18 Qf,zLd 20 19 2,zmv 21 1,zmv 22 5,zia 23 21 22 Qf,zLd 24 23 2,zca 25 109 [20,24],zno 26 25] []),(.cond 26 (zsq [(.reg [zmv 4 (zkb false)]),.ret]) .skip)])),(.reg [zmv 15 5,zbi 16 .add 15 (zki 1),zmv 5 16])])
def Qf5:List (Nat × Md):=zdl [0,1,5]
def Qkh:TCode :=
 (zsq [(.reg [zmv 4 (zkb true)]),.ret])
def Qnx:TCode :=
 (zsq [(.reg [zmv 4 (zkb false)]),(zsq [(.reg [zmv 6 0,zle 7 6,zmv 8 1,zle 9 8,zbi 10 .neq 7 9]),(.cond 10 (zsq [(.reg [zmv 4 (zkb false)]),.ret]) .skip)]),(zsq [(.reg [zmv 5 (zki 0)]),(.block 0 (.loop Qf5 Qke))]),Qkh])
def Qku:List (ARv × Md):=[(.t 4,.one .d)]
def Qhk:Qc:=TQ 0 0 Qku K
def Qsh:Qc:=Qseq (tawp QbL 0 Qkh (Qhk K)) (Qhk K)
def Qqf:Qc:=Qblk 0 (Qsh K)
def QfB (a:List TIns) (b:List TIns) (i:Int):Prop:=Loop QbL 0 Qf5 Qke (Qqf K) ⟨[(0,(zcs Qf a)),(1,(zcs Qf b)),(5,(zci i))],[],0⟩
theorem Qs1 (a:List TIns) (b:List TIns) (i:Int) (h :
 (zif (decide (i<(a.length:Int))) ((((0:Int)≤i∧Int.toNat i<a.length)∧((0:Int)≤i∧Int.toNat i<b.length))∧(zif (!(m_eq (α:=TIns) (gtd dIns a (Int.toNat i)) (gtd dIns b (Int.toNat i)))) (K (YW false)) (QfB K a b (w64 (i+(1:Int)))))) (K (YW true)))):QfB K a b i :=
 Loop.of (by kernel_rfl) h
theorem QsJ (a:List TIns) (b:List TIns) (h :
 (zif ((a.length:Int) != (b.length:Int)) (K (YW false)) (QfB K a b 0))):Hold (tawp QbL (0+0) Qnx (TQ 0 0 Qku K) (Qh [(.c (.sl Qf) a),(.c (.sl Qf) b)])) :=
 Hold.of (by kernel_rfl) h
theorem QtU (a:List TIns) (b:List TIns):TCon Try.prog 19 [(.c (.sl Qf) a),(.c (.sl Qf) b)] (YW (m_eq (α:=List TIns) a b)):=by
 refine Qn rfl fun hb=>tcg (Γ:=QbL) (n:=27) (sg:=QcK.sg) Qo (TOkL.cons Qtw TOkL.nil) (by kernel_rfl) (by kernel_rfl) (QsJ _ a b ?_)
 exact Qa1 dIns (E:=m_eq) (fun _ _=>rfl) hb.1.1 (fun i h=>Qs1 _ a b i h) (Q:=fun x=>YW x=YW (m_eq (α:=List TIns) a b)) rfl
theorem QgN:Qm Try.prog QcK:=Qp fun x _=>QtU x.1 x.2.1
def Qac (t:Bool):TRes:=zre (zcb t)
def Qdh:TRow:=Ql 195 [(.a QB),(.a QB)] fun x=>(none,Qac (m_eq (α:=Qj) x.1 x.2.1))
def Qlk:TTab:=⟨[Qa8],false⟩
def Qms:TCode :=
 (zsq [(.reg [zop 2 (.box 218 0 2),zop 3 (.box 218 1 2),zmv 4 (zkb false)]),(zsq [(.reg [zfa 5 2 0,zld 6 5 1,zfa 7 3 0,zld 8 7 1,zbi 9 .neq 6 8]),(.cond 9 (zsq [(.reg [zmv 4 (zkb false)]),.ret]) .skip)]),(zsq [(.reg [zfa 10 2 1,zld 11 10 1,zfa 12 3 1,zld 13 12 1,zca 14 158 [11,13],zno 15 14]),(.cond 15 (zsq [(.reg [zmv 4 (zkb false)]),.ret]) .skip)]),(.reg [zmv 4 (zkb true)]),.ret])
def Qmf:List (ARv × Md):=[(.t 4,.one .d)]
theorem QoG (a:Qj) (b:Qj) (h :
 (zif (a.1 != b.1) (K (Qac false)) (zif (!(m_eq (α:=List (List Int)) a.2 b.2)) (K (Qac false)) (K (Qac true))))):Hold (tawp Qlk (0+0) Qms (TQ 0 0 Qmf K) (Qh [(.a [(.c TI a.1),(.c (.sl [(.sl [TI])]) a.2)]),(.a [(.c TI b.1),(.c (.sl [(.sl [TI])]) b.2)])])) :=
 Hold.of (by kernel_rfl) h
theorem Qrw (a:Qj) (b:Qj):TCon Try.prog 195 [(.a [(.c TI a.1),(.c (.sl [(.sl [TI])]) a.2)]),(.a [(.c TI b.1),(.c (.sl [(.sl [TI])]) b.2)])] (Qac (m_eq (α:=Qj) a b)):=by
 refine Qn rfl fun hb=>tcg (Γ:=Qlk) (n:=16) (sg:=Qdh.sg) Qo (TOkL.cons Qfs TOkL.nil) (by kernel_rfl) (by kernel_rfl) (QoG _ a b ?_)
 refine ⟨fun h=>R_eq (Eq.symm (decide_eq_false (by rintro rfl;simp [m_eq] at h))),fun h0=>?_⟩
 refine ⟨fun h=>R_eq (Eq.symm (decide_eq_false (by rintro rfl;simp [m_eq] at h))),fun h1=>?_⟩
 refine R_eq (Eq.symm (decide_eq_true ?_))
 simp [m_eq] at h0 h1
 simp [Prod.ext_iff, *]
theorem Qt8:Qm Try.prog Qdh:=Qp fun x _=>Qrw x.1 x.2.1
def Y3 (t:Bool):TRes:=zre (zcb t)
def QeD:TRow:=Ql 157 [(.c (.sl QB)),(.c (.sl QB))] fun x=>(none,Y3 (m_eq (α:=List Qj) x.1 x.2.1))
def QbP:TTab:=⟨[Qdh],false⟩
def Qj0:TCode :=
 (zsq [(zsq [(.reg [zmv 11 5,zmv 12 0,zle 13 12,zbi 14 .lss 11 13]),(.cond 14 .skip (.exit 0))]),(.block 1 (zsq [(.draw [zmv 17 0,zmv 18 5,zia 19 17 18 QB,zLd 20 19 2,zmv 21 1,zmv 22 5,zia 23 21 22 QB,zLd 24 23 2,zca 25 195 [20,24],zno 26 25] []),(.cond 26 (zsq [(.reg [zmv 4 (zkb false)]),.ret]) .skip)])),(.reg [zmv 15 5,zbi 16 .add 15 (zki 1),zmv 5 16])])
def QkE:List (Nat × Md):=zdl [0,1,5]
def QiE:TCode :=
 (zsq [(.reg [zmv 4 (zkb true)]),.ret])
def QoD:TCode :=
 (zsq [(.reg [zmv 4 (zkb false)]),(zsq [(.reg [zmv 6 0,zle 7 6,zmv 8 1,zle 9 8,zbi 10 .neq 7 9]),(.cond 10 (zsq [(.reg [zmv 4 (zkb false)]),.ret]) .skip)]),(zsq [(.reg [zmv 5 (zki 0)]),(.block 0 (.loop QkE Qj0))]),QiE])
def Qi4:List (ARv × Md):=[(.t 4,.one .d)]
def Qgi:Qc:=TQ 0 0 Qi4 K
def Qmg:Qc:=Qseq (tawp QbP 0 QiE (Qgi K)) (Qgi K)
def Qnr:Qc:=Qblk 0 (Qmg K)
def QeQ (a:List Qj) (b:List Qj) (i:Int):Prop:=Loop QbP 0 QkE Qj0 (Qnr K) ⟨[(0,(zcs QB a)),(1,(zcs QB b)),(5,(zci i))],[],0⟩
theorem QpT (a:List Qj) (b:List Qj) (i:Int) (h :
 (zif (decide (i<(a.length:Int))) ((((0:Int)≤i∧Int.toNat i<a.length)∧((0:Int)≤i∧Int.toNat i<b.length))∧(zif (!(m_eq (α:=Qj) (gtd Zj a (Int.toNat i)) (gtd Zj b (Int.toNat i)))) (K (Y3 false)) (QeQ K a b (w64 (i+(1:Int)))))) (K (Y3 true)))):QeQ K a b i :=
 Loop.of (by kernel_rfl) h
theorem Qpx (a:List Qj) (b:List Qj) (h :
 (zif ((a.length:Int) != (b.length:Int)) (K (Y3 false)) (QeQ K a b 0))):Hold (tawp QbP (0+0) QoD (TQ 0 0 Qi4 K) (Qh [(.c (.sl QB) a),(.c (.sl QB) b)])) :=
 Hold.of (by kernel_rfl) h
theorem Qpn (a:List Qj) (b:List Qj):TCon Try.prog 157 [(.c (.sl QB) a),(.c (.sl QB) b)] (Y3 (m_eq (α:=List Qj) a b)):=by
 refine Qn rfl fun hb=>tcg (Γ:=QbP) (n:=27) (sg:=QeD.sg) Qo (TOkL.cons Qt8 TOkL.nil) (by kernel_rfl) (by kernel_rfl) (Qpx _ a b ?_)
 exact Qa1 Zj (E:=m_eq) (fun _ _=>rfl) hb.1.1 (fun i h=>QpT _ a b i h) (Q:=fun x=>Y3 x=Y3 (m_eq (α:=List Qj) a b)) rfl
theorem Qs8:Qm Try.prog QeD:=Qp fun x _=>Qpn x.1 x.2.1
end
end Go.Proofs.Ytephkbajoofeoaa.Am

