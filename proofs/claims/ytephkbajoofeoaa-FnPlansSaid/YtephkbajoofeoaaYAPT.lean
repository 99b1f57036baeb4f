/- -/
import Derived.Test.YtephkbajoofeoaaYAG8
namespace Go.Proofs.Ytephkbajoofeoaa.Am
open Go Go.RowKit Go.Proofs.Ytephkbajoofeoaa
set_option linter.all false
noncomputable section
variable (K:TRes→Prop)
def YT (t:Int):TRes:=zre (zci t)
def QbM:TRow:=Qy 57 [(.c (.sl Qb))] fun x=>(none,YT (QT x.1))
def QcE:List TRow:=[]
def Qf7:TCode :=
 (zsq [(zsq [(.reg [zmv 6 5,zmv 7 0,zle 8 7,zbi 9 .lss 6 8]),(.cond 9 .skip (.exit 0))]),(.block 1 (zsq [(zsq [(.reg [zmv 12 0,zmv 13 5,zia 14 12 13 Qb,zfa 15 14 0,zld 16 15 1]),(.block 2 (zsq [(.reg [zbi 18 .eql 16 (zki 2),zmv 17 18]),(.cond 17 (.reg [zmv 19 3,zbi 20 .add 19 (zki 1),zmv 3 20]) (zsq [(.reg [zbi 22 .eql 16 (zki 6),zmv 21 22]),(.cond 21 (.reg [zmv 23 3,zbi 24 .sub 23 (zki 1),zmv 3 24]) .skip)]))]))]),(.reg [zmv 25 4,zmv 26 3,zop 27 (.mm true 25 26),zmv 4 27])])),(.reg [zmv 10 5,zbi 11 .add 10 (zki 1),zmv 5 11])])
def Qft:List (Nat × Md):=zdl [0,3,4,5]
def QdD:TCode :=
 (zsq [(.reg [zmv 28 4,zmv 2 28]),.ret])
def Qhy:TCode :=
 (zsq [(.reg [zmv 2 (zki 0)]),(.reg [zmv 3 (zki 0)]),(.reg [zmv 4 (zki 0)]),(zsq [(.reg [zmv 5 (zki 0)]),(.block 0 (.loop Qft Qf7))]),QdD])
def Qdw:List (ARv × Md):=[(.t 2,.one .d)]
def QdE:Qd:=TQ 0 0 Qdw K
def QjX:Qd:=Qseq (tawp QcE 0 QdD (QdE K)) (QdE K)
def QkN:Qd:=Qblk 0 (QjX K)
def YC (l:List TIns) (n:Int) (most:Int) (i:Int):Prop:=Loop QcE 0 Qft Qf7 (QkN K) ⟨[(0,(zcs Qb l)),(3,(zci n)),(4,(zci most)),(5,(zci i))],[],0⟩
theorem Qdz (l:List TIns) (n:Int) (most:Int) (i:Int) (h :
 (zif (decide (i<(l.length:Int))) (((0:Int)≤i∧Int.toNat i<l.length)∧(zif (((gtd dIns l (Int.toNat i)).1)==(2:Int)) (YC K l (w64 (n+(1:Int))) (if most<(w64 (n+(1:Int))) then (w64 (n+(1:Int))) else most) (w64 (i+(1:Int)))) (zif (((gtd dIns l (Int.toNat i)).1)==(6:Int)) (YC K l (w64 (n-(1:Int))) (if most<(w64 (n-(1:Int))) then (w64 (n-(1:Int))) else most) (w64 (i+(1:Int)))) (YC K l n (if most<n then n else most) (w64 (i+(1:Int))))))) (K (YT most)))):YC K l n most i :=
 Loop.of (by kernel_rfl) h
theorem Qip (l:List TIns) (h :
 (YC K l 0 0 0)):Hold (tawp QcE (0+0) Qhy (TQ 0 0 Qdw K) (Qn [(.c (.sl Qb) l)])) :=
 Hold.of (by kernel_rfl) h
theorem QiV (l:List TIns):TCon Try.prog 57 [(.c (.sl Qb) l)] (YT (QT l)):=by
 refine QN rfl fun hb=>tcg (n:=29) (sg:=QbM.sg) QC TOk.nil (by kernel_rfl) (by kernel_rfl) (Qip _ l ?_)
 have hl_l:l.length≤9223372036854775807:=hb.1.1
 refine Je l (fun r k=>∀ n most:Int,-(k:Int)≤n→n≤k→flGo r n most=QT l→YC (fun r'=>r'=YT (QT l)) l n most k) ?_ ?_ 0 0 (by omega) (by omega) rfl
 ·intro n most _ _ he
  refine Qdz (fun r'=>r'=YT (QT l)) l n most _ ⟨fun h=>by simp at h,fun _=>?_⟩
  grind [flGo]
 ·intro k x r hk hlt hg ih n most h1 h2 he
  refine Qdz (fun r'=>r'=YT (QT l)) l n most _ ⟨fun _=>?_,fun h=>by simp at h;omega⟩
  rw [Int.toNat_natCast,hg,Qk (x:=(k:Int)+1) (by omega) (by omega)]
  have e1:w64 (n+1)=n+1:=Qk (by omega) (by omega)
  have e2:w64 (n-1)=n-1:=Qk (by omega) (by omega)
  simp only [flGo] at he
  grind
theorem Qic:Qx Try.prog QbM:=QD fun x _=>QiV x.1
def ZX (t:Int):TRes:=zre (zci t)
def QbI:TRow:=Qy 56 [(.c (.sl Qb))] fun x=>(none,ZX (QT x.1))
def Yy:List TRow:=[]
def Qfs:TCode :=
 (zsq [(zsq [(.reg [zfa 18 6 0,zld 19 18 1,zbi 20 .eql 19 (zki 6)]),(.cond 20 (.reg [zmv 21 4,zbi 22 .sub 21 (zki 1),zmv 4 22]) .skip)]),(.reg [zmv 23 3,zmv 24 4,zop 25 (.mm true 23 24),zmv 3 25])])
def Qls:List (Nat × Md):=[(3,.one .d),(4,.one .d),(6,.b [.d,.d]),(7,.one .d),(8,.one .d),(9,.one .d)]
def QhV:TCode:=.wk Qls Qfs
def Qga:TCode :=
 (.reg [zbi 26 .add 9 (zki 1),zmv 9 26])
def QbE:TCode :=
 (zsq [(.reg [zbi 10 .lss 9 8]),(.cond 10 .skip (.exit 0)),(.block 1 (zsq [(.reg [zia 11 7 9 Qb,zLd 12 11 2,zop 6 (.new 151 (z0s Qb)),zst 6 12 2]),(zsq [(.reg [zfa 13 6 0,zld 14 13 1,zbi 15 .eql 14 (zki 2)]),(.cond 15 (.reg [zmv 16 4,zbi 17 .add 16 (zki 1),zmv 4 17]) .skip)]),QhV])),Qga])
def Qal:List (Nat × Md):=zdl [3,4,7,8,9]
def QdT:TCode :=
 (zsq [(.reg [zmv 27 3,zmv 2 27]),.ret])
def Qlk:TCode :=
 (zsq [(.reg [zmv 2 (zki 0)]),(.reg [zmv 3 (zki 0)]),(.reg [zmv 4 (zki 0)]),(zsq [(.reg [zmv 7 0,zle 8 7,zmv 9 (zki 0)]),(.block 0 (.loop Qal QbE))]),QdT])
def QgX:List (ARv × Md):=[(.t 2,.one .d)]
def QdH:Qd:=TQ 0 0 QgX K
def Qjq:Qd:=Qseq (tawp Yy 0 QdT (QdH K)) (QdH K)
def QbO:Qd:=Qblk 0 (Qjq K)
def QfU:Qd:=Qseq (fun s'=>Loop Yy 0 Qal QbE (QbO K) (gc 0 Qal s')) (QbO K)
def Qjt:Qd:=Qseq (tawp Yy 0 Qga (QfU K)) (QfU K)
def Qj0:Qd:=Qblk 1 (Qjt K)
@[irreducible] def Qcb (l:List TIns) (now:Int) (most:Int) (x:Int):Prop:=tawp Yy 0 Qfs (Qj0 K) ⟨[(3,(zci most)),(4,(zci now)),(6,(.p 0 0 0)),(7,(zcs Qb l)),(8,(zci (l.length:Int))),(9,(zci x))],[(0,(.box [(zci ((gtd dIns l (Int.toNat x)).1)),(zci ((gtd dIns l (Int.toNat x)).2))]))],1⟩
def Y2 (l:List TIns) (most:Int) (now1:Int) (x:Int):Prop:=Loop Yy 0 Qal QbE (QbO K) ⟨[(3,(zci most)),(4,(zci now1)),(7,(zcs Qb l)),(8,(zci (l.length:Int))),(9,(zci x))],[],0⟩
theorem QcZ (l:List TIns) (now:Int) (most:Int) (x:Int) (h :
 (zif (((gtd dIns l (Int.toNat x)).1)==(6:Int)) (Y2 K l (if most<(w64 (now-(1:Int))) then (w64 (now-(1:Int))) else most) (w64 (now-(1:Int))) (w64 (x+(1:Int)))) (Y2 K l (if most<now then now else most) now (w64 (x+(1:Int)))))):Hold (Qcb K l now most x) :=
 Hold.of (by kernel_rfl) h
theorem Qgn (l:List TIns) (most:Int) (now1:Int) (x:Int) (h :
 (zif (decide (x<(l.length:Int))) (((0:Int)≤x∧Int.toNat x<l.length)∧(zif (((gtd dIns l (Int.toNat x)).1)==(2:Int)) (Qcb K l (w64 (now1+(1:Int))) most x) (Qcb K l now1 most x))) (K (ZX most)))):Y2 K l most now1 x :=
 Loop.of (by kernel_rfl) h
theorem QlM (l:List TIns) (h :
 (Y2 K l 0 0 0)):Hold (tawp Yy (0+0) Qlk (TQ 0 0 QgX K) (Qn [(.c (.sl Qb) l)])) :=
 Hold.of (by kernel_rfl) h
theorem QlI (l:List TIns):TCon Try.prog 56 [(.c (.sl Qb) l)] (ZX (QT l)):=by
 refine QN rfl fun hb=>tcg (n:=28) (sg:=QbI.sg) QC TOk.nil (by kernel_rfl) (by kernel_rfl) (QlM _ l ?_)
 have hl_l:l.length≤9223372036854775807:=hb.1.1
 refine Je l (fun r k=>∀ n most:Int,-(k:Int)≤n→n≤k→flGo r n most=QT l→Y2 (fun r'=>r'=ZX (QT l)) l most n k) ?_ ?_ 0 0 (by omega) (by omega) rfl
 ·intro n most _ _ he
  refine Qgn (fun r'=>r'=ZX (QT l)) l most _ _ ⟨fun h=>by simp at h,fun _=>?_⟩
  grind [flGo]
 ·intro k x r hk hlt hg ih n most h1 h2 he
  refine Qgn (fun r'=>r'=ZX (QT l)) l most _ _ ⟨fun _=>?_,fun h=>by simp at h;omega⟩
  have e0:=Qk (x:=(k:Int)+1) (by omega) (by omega)
  have e1:w64 (n+1)=n+1:=Qk (by omega) (by omega)
  have e2:w64 (n-1)=n-1:=Qk (by omega) (by omega)
  simp only [flGo] at he
  rw [Int.toNat_natCast,hg]
  refine ⟨⟨by omega,hlt⟩,fun h=>(QcZ (fun r'=>r'=ZX (QT l)) l _ most k ?_).h,fun h=>(QcZ (fun r'=>r'=ZX (QT l)) l n most k ?_).h⟩ <;> rw [Int.toNat_natCast,hg] <;> grind
theorem Ql3:Qx Try.prog QbI:=QD fun x _=>QlI x.1
end
end Go.Proofs.Ytephkbajoofeoaa.Am

