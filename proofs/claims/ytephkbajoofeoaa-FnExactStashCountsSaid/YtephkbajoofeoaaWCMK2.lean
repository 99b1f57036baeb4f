/- -/
import Derived.Test.YtephkbajoofeoaaWCMK1
import Derived.Test.YtephkbajoofeoaaWCGF
namespace Go.Proofs.Ytephkbajoofeoaa.Am
open Go Go.RowKit Go.Proofs.Ytephkbajoofeoaa
set_option linter.all false
noncomputable section
variable (K:TRes→Prop)
def Yo (t:Int × (List Qh)):TRes:=⟨(zci t.1),[],[],true,[(.sl 0 Qu (.dp 0 false []) t.2)]⟩
def QdK:TRow:=Qm 176 [(.d Qu),(.c TI)] fun x=>(none,Yo (Qg (α:=List Qh) x.1 x.2.1))
def Qby:TTab:=⟨[QdY],true⟩
def QkR:TCode :=
 (zsq [(zsq [(.reg [zmv 6 5,zmv 7 0,zle 8 7,zbi 9 .lss 6 8]),(.cond 9 .skip (.exit 0))]),(.block 1 (zsq [(.reg [zmv 12 0,zmv 13 5,zmv 14 1,zia 15 12 13 Qu,zfa 16 15 0,zst 16 14 1]),(.reg [zmv 17 1,zbi 18 .add 17 (zki 1),zmv 1 18]),(.reg [zmv 19 0,zmv 20 5,zia 21 19 20 Qu,zfa 22 21 1,zld 23 22 1,zmv 24 1,zca 25 129 [23,24],zmv 1 25])])),(.reg [zmv 10 5,zbi 11 .add 10 (zki 1),zmv 5 11])])
def Qkq:List (Nat × Md):=[(0,.one .f),(1,.one .d),(5,.one .d)]
def Qkf:TCode :=
 (zsq [(.reg [zmv 26 1,zmv 4 26]),.ret])
def QvP:TCode :=
 (zsq [(.reg [zmv 4 (zki 0)]),(zsq [(.reg [zmv 5 (zki 0)]),(.block 0 (.loop Qkq QkR))]),Qkf])
def QjZ:List (ARv × Md):=[(.t 4,.one .d)]
def Qhp:Qb:=TQ 0 1 QjZ K
def Qwm:Qb:=Qseq (tawp Qby 1 Qkf (Qhp K)) (Qhp K)
def QoZ:Qb:=Qblk 0 (Qwm K)
def Qbn (a:List Qh) (k1:Int) (i:Int) (a1:List Qh):Prop:=Loop Qby 1 Qkq QkR (QoZ K) ⟨[(0,(.r Qu 0 0 a.length)),(1,(zci k1)),(5,(zci i))],[(0,(.sl 0 Qu (.dp 0 false []) a1))],1⟩
theorem QmS (a:List Qh) (k1:Int) (i:Int) (a1:List Qh) (h :
 (zif (decide (i<((a.length:Nat):Int))) ((((0:Int)≤i∧Int.toNat i<a.length)∧((0+(Int.toNat i))<a1.length))∧((((0:Int)≤i∧Int.toNat i<a.length)∧(((0+(Int.toNat i))<((sst Q5 (0+(Int.toNat i)) (fun e_ k_=>(k_,e_.2)) (k1,a1)).2).length)∧((0+(Int.toNat i))<((sst Q5 (0+(Int.toNat i)) (fun e_ k_=>(k_,e_.2)) (k1,a1)).2).length)))∧(Qbn K a ((nst Q5 (0+(Int.toNat i)) (fun e_=>e_.2) (fun e_ y_=>(e_.1,y_)) (Qg (α:=List Qe)) (sst Q5 (0+(Int.toNat i)) (fun e_ k_=>(k_,e_.2)) (k1,a1))).1) (w64 (i+(1:Int))) ((nst Q5 (0+(Int.toNat i)) (fun e_=>e_.2) (fun e_ y_=>(e_.1,y_)) (Qg (α:=List Qe)) (sst Q5 (0+(Int.toNat i)) (fun e_ k_=>(k_,e_.2)) (k1,a1))).2)))) (K (Yo (k1,a1))))):Qbn K a k1 i a1 :=
 Loop.of (by kernel_rfl) h
theorem QnI (a:List Qh) (k:Int) (h :
 (Qbn K a k 0 a)):Hold (tawp Qby (0+1) QvP (TQ 0 1 QjZ K) (Ql [(.ow 0 Qu dw a),(.c TI k)])) :=
 Hold.of (by kernel_rfl) h
theorem QuW (a:List Qh) (k:Int):TCon Try.prog 176 [(.ow 0 Qu dw a),(.c TI k)] (Yo (Qg (α:=List Qh) a k)):=by
 refine Qq rfl fun hb=>tcg (Γ:=Qby) (n:=27) (sg:=QdK.sg) Qp (TOkL.cons QtM TOkL.nil) (by kernel_rfl) (by kernel_rfl) (QnI _ a k ?_)
 have hl_a:a.length≤9223372036854775807:=hb.1.1
 refine Yd (A:=fun kk ii ll=>Qbn (fun r'=>r'=Yo (Qg (α:=List Qh) a k)) a kk ii ll) (Q:=fun z=>Yo z=Yo (Qg (α:=List Qh) a k)) a k ?_ ?_ rfl
 ·intro kk pre post x hl hA
  have hlt:pre.length<a.length:=by omega
  have hw:w64 (((pre.length:Nat):Int)+1)=((pre.length+1:Nat):Int):=by rw [QO (by omega) (by omega)];omega
  refine QmS (fun r'=>r'=Yo (Qg (α:=List Qh) a k)) a kk ((pre.length:Nat):Int) (pre++x::post) ?_
  refine ⟨fun _=>?_,fun h=>absurd h (by simp;omega)⟩
  simp only [Int.toNat_natCast,Nat.zero_add,ZV,Ya,Zy,Yi,hw,lt_f,hlt,ZM,and_true,true_and,Int.natCast_nonneg]
  exact hA
 ·intro kk l hl hq
  refine QmS (fun r'=>r'=Yo (Qg (α:=List Qh) a k)) a kk ((a.length:Nat):Int) l ?_
  exact ⟨fun h=>absurd h (by simp),fun _=>hq⟩
theorem Qtk:Qo Try.prog QdK:=Qr fun x _=>QuW x.1 x.2.1
end
end Go.Proofs.Ytephkbajoofeoaa.Am

