/- -/
import Derived.Test.YtephkbajoofeoaaYHG8
namespace Go.Proofs.Ytephkbajoofeoaa.Am
open Go Go.RowKit Go.Proofs.Ytephkbajoofeoaa
set_option linter.all false
noncomputable section
variable (K:TRes→Prop)
def Yw (t:Bool):TRes:=zre (zcb t)
def Qbe:TRow:=QD 109 [(.a Qb),(.a Qb)] fun x=>(none,Yw (m_eq (α:=TIns) x.1 x.2.1))
def QeP:List TRow:=[]
def Qek:TCode :=
 (zsq [(.reg [zop 2 (.box 151 0 2),zop 3 (.box 151 1 2),zmv 4 (zkb false)]),(zsq [(.reg [zfa 5 2 0,zld 6 5 1,zfa 7 3 0,zld 8 7 1,zbi 9 .neq 6 8]),(.cond 9 (zsq [(.reg [zmv 4 (zkb false)]),.ret]) .skip)]),(zsq [(.reg [zfa 10 2 1,zld 11 10 1,zfa 12 3 1,zld 13 12 1,zbi 14 .neq 11 13]),(.cond 14 (zsq [(.reg [zmv 4 (zkb false)]),.ret]) .skip)]),(.reg [zmv 4 (zkb true)]),.ret])
def Qfc:List (ARv × Md):=[(.t 4,.one .d)]
theorem Qeq (a:TIns) (b:TIns) (h :
 (zif (a.1 != b.1) (K (Yw false)) (zif (a.2 != b.2) (K (Yw false)) (K (Yw true))))):Hold (tawp QeP (0+0) Qek (TQ 0 0 Qfc K) (Qw [(.a [(.c TI a.1),(.c TI a.2)]),(.a [(.c TI b.1),(.c TI b.2)])])) :=
 Hold.of (by kernel_rfl) h
theorem QhB (a:TIns) (b:TIns):TCon Try.prog 109 [(.a [(.c TI a.1),(.c TI a.2)]),(.a [(.c TI b.1),(.c TI b.2)])] (Yw (m_eq (α:=TIns) a b)):=by
 refine QI rfl fun hb=>tcg (n:=15) (sg:=Qbe.sg) QH TOk.nil (by kernel_rfl) (by kernel_rfl) (Qeq _ a b ?_)
 refine ⟨fun h=>R_eq (Eq.symm (decide_eq_false (by rintro rfl;simp [m_eq] at h))),fun h0=>?_⟩
 refine ⟨fun h=>R_eq (Eq.symm (decide_eq_false (by rintro rfl;simp [m_eq] at h))),fun h1=>?_⟩
 refine R_eq (Eq.symm (decide_eq_true ?_))
 simp [m_eq] at h0 h1
 simp [Prod.ext_iff, *]
theorem Qfe:QC Try.prog Qbe:=QM fun x _=>QhB x.1 x.2.1
def ZN (t:Bool):TRes:=zre (zcb t)
def QaF:TRow:=QD 19 [(.c (.sl Qb)),(.c (.sl Qb))] fun x=>(none,ZN (m_eq (α:=List TIns) x.1 x.2.1))
def J7:List TRow:=[Qbe]
def QdY:TCode :=
 (zsq [(zsq [(.reg [zmv 11 5,zmv 12 0,zle 13 12,zbi 14 .lss 11 13]),(.cond 14 .skip (.exit 0))]),(.block 1 (zsq [(.draw [zmv 17 0,zmv 18 5,zia 19 17 18 Qb,zLd 20 19 2,zmv 21 1,zmv 22 5,zia 23 21 22 Qb,zLd 24 23 2,zca 25 109 [20,24],zno 26 25] []),(.cond 26 (zsq [(.reg [zmv 4 (zkb false)]),.ret]) .skip)])),(.reg [zmv 15 5,zbi 16 .add 15 (zki 1),zmv 5 16])])
def Qd1:List (Nat × Md):=zdl [0,1,5]
def QbV:TCode :=
 (zsq [(.reg [zmv 4 (zkb true)]),.ret])
def Qfi:TCode :=
 (zsq [(.reg [zmv 4 (zkb false)]),(zsq [(.reg [zmv 6 0,zle 7 6,zmv 8 1,zle 9 8,zbi 10 .neq 7 9]),(.cond 10 (zsq [(.reg [zmv 4 (zkb false)]),.ret]) .skip)]),(zsq [(.reg [zmv 5 (zki 0)]),(.block 0 (.loop Qd1 QdY))]),QbV])
def Qcu:List (ARv × Md):=[(.t 4,.one .d)]
def Qcj:Qg:=TQ 0 0 Qcu K
def QgO:Qg:=Qseq (tawp J7 0 QbV (Qcj K)) (Qcj K)
def Qen:Qg:=Qblk 0 (QgO K)
def JY (a:List TIns) (b:List TIns) (i:Int):Prop:=Loop J7 0 Qd1 QdY (Qen K) ⟨[(0,(zcs Qb a)),(1,(zcs Qb b)),(5,(zci i))],[],0⟩
theorem QgI (a:List TIns) (b:List TIns) (i:Int) (h :
 (zif (decide (i<(a.length:Int))) ((((0:Int)≤i∧Int.toNat i<a.length)∧((0:Int)≤i∧Int.toNat i<b.length))∧(zif (!(m_eq (α:=TIns) (gtd dIns a (Int.toNat i)) (gtd dIns b (Int.toNat i)))) (K (ZN false)) (JY K a b (w64 (i+(1:Int)))))) (K (ZN true)))):JY K a b i :=
 Loop.of (by kernel_rfl) h
theorem Qeu (a:List TIns) (b:List TIns) (h :
 (zif ((a.length:Int) != (b.length:Int)) (K (ZN false)) (JY K a b 0))):Hold (tawp J7 (0+0) Qfi (TQ 0 0 Qcu K) (Qw [(.c (.sl Qb) a),(.c (.sl Qb) b)])) :=
 Hold.of (by kernel_rfl) h
theorem Qf6 (a:List TIns) (b:List TIns):TCon Try.prog 19 [(.c (.sl Qb) a),(.c (.sl Qb) b)] (ZN (m_eq (α:=List TIns) a b)):=by
 refine QI rfl fun hb=>tcg (n:=27) (sg:=QaF.sg) QH (TOk.cons Qfe TOk.nil) (by kernel_rfl) (by kernel_rfl) (Qeu _ a b ?_)
 exact QeB dIns (E:=m_eq) (fun _ _=>rfl) hb.1.1 (fun i h=>QgI _ a b i h) (Q:=fun x=>ZN x=ZN (m_eq (α:=List TIns) a b)) rfl
theorem Qhu:QC Try.prog QaF:=QM fun x _=>Qf6 x.1 x.2.1
end
end Go.Proofs.Ytephkbajoofeoaa.Am

