/- -/
import Derived.Test.YtdplaepmjogjjaaGreatVEMK1
import Derived.Test.YtdplaepmjogjjaaGreatVEMK2
import Derived.Test.YtdplaepmjogjjaaGreatVEGF
namespace Go.Proofs.YtdplaepmjogjjaaGreat.Am
open Go Go.RowKit Go.Proofs.YtdplaepmjogjjaaGreat
set_option linter.all false
noncomputable section
variable (K:TRes→Prop)
def JF (t:Int × (List Qr)):TRes:=⟨(zci t.1),[],[],true,[(.sl 0 Qt (.dp 0 false []) t.2)]⟩
def Qg3:TRow:=Qg 95 [(.d Qt),(.c TI)] fun x=>(none,JF (Qn (α:=List Qr) x.1 x.2.1))
def QdX:TTab:=⟨[Qi8,Qf3,Qin,QeN,J3],true⟩
def Qqc:TCode :=
 (zsq [(zsq [(.reg [zmv 6 5,zmv 7 0,zle 8 7,zbi 9 .lss 6 8]),(.cond 9 .skip (.exit 0))]),(.block 1 (zsq [(.reg [zmv 12 0,zmv 13 5,zmv 14 1,zia 15 12 13 Qt,zfa 16 15 0,zst 16 14 1]),(.reg [zmv 17 1,zbi 18 .add 17 (zki 1),zmv 1 18]),(.reg [zmv 19 0,zmv 20 5,zia 21 19 20 Qt,zfa 22 21 1,zld 23 22 1,zmv 24 1,zca 25 79 [23,24],zmv 1 25]),(.reg [zmv 26 0,zmv 27 5,zia 28 26 27 Qt,zfa 29 28 2,zld 30 29 1,zmv 31 1,zca 32 80 [30,31],zmv 1 32]),(.reg [zmv 33 0,zmv 34 5,zmv 35 1,zbi 36 .rem 35 (zki 3),zbi 37 .eql 36 (zki 0),zia 38 33 34 Qt,zfa 39 38 3,zst 39 37 1]),(.reg [zmv 40 1,zbi 41 .add 40 (zki 1),zmv 1 41]),(.reg [zmv 42 0,zmv 43 5,zmv 44 1,zbi 45 .rem 44 (zki 3),zbi 46 .eql 45 (zki 0),zia 47 42 43 Qt,zfa 48 47 4,zst 48 46 1]),(.reg [zmv 49 1,zbi 50 .add 49 (zki 1),zmv 1 50]),(.reg [zmv 51 0,zmv 52 5,zia 53 51 52 Qt,zfa 54 53 5,zld 55 54 1,zmv 56 1,zca 57 81 [55,56],zmv 1 57]),(.reg [zmv 58 0,zmv 59 5,zia 60 58 59 Qt,zfa 61 60 6,zld 62 61 1,zmv 63 1,zca 64 82 [62,63],zmv 1 64]),(.reg [zmv 65 0,zmv 66 5,zia 67 65 66 Qt,zfa 68 67 7,zld 69 68 1,zmv 70 1,zca 71 26 [69,70],zmv 1 71]),(.reg [zmv 72 0,zmv 73 5,zia 74 72 73 Qt,zfa 75 74 8,zld 76 75 1,zmv 77 1,zca 78 26 [76,77],zmv 1 78]),(.reg [zmv 79 0,zmv 80 5,zia 81 79 80 Qt,zfa 82 81 9,zld 83 82 1,zmv 84 1,zca 85 26 [83,84],zmv 1 85]),(.reg [zmv 86 0,zmv 87 5,zia 88 86 87 Qt,zfa 89 88 10,zld 90 89 1,zmv 91 1,zca 92 26 [90,91],zmv 1 92]),(.reg [zmv 93 0,zmv 94 5,zia 95 93 94 Qt,zfa 96 95 11,zfa 97 96 0,zld 98 97 1,zmv 99 1,zca 100 82 [98,99],zmv 1 100]),(.reg [zmv 101 0,zmv 102 5,zmv 103 1,zia 104 101 102 Qt,zfa 105 104 11,zfa 106 105 1,zst 106 103 1]),(.reg [zmv 107 1,zbi 108 .add 107 (zki 1),zmv 1 108]),(.reg [zmv 109 0,zmv 110 5,zmv 111 1,zbi 112 .rem 111 (zki 3),zbi 113 .eql 112 (zki 0),zia 114 109 110 Qt,zfa 115 114 11,zfa 116 115 2,zst 116 113 1]),(.reg [zmv 117 1,zbi 118 .add 117 (zki 1),zmv 1 118])])),(.reg [zmv 10 5,zbi 11 .add 10 (zki 1),zmv 5 11])])
def Qsg:List (Nat × Md):=[(0,.one .f),(1,.one .d),(5,.one .d)]
def QqY:TCode :=
 (zsq [(.reg [zmv 119 1,zmv 4 119]),.ret])
def QEk:TCode :=
 (zsq [(.reg [zmv 4 (zki 0)]),(zsq [(.reg [zmv 5 (zki 0)]),(.block 0 (.loop Qsg Qqc))]),QqY])
def QoK:List (ARv × Md):=[(.t 4,.one .d)]
def QoH:Qb:=TQ 0 1 QoK K
def QIo:Qb:=Qseq (tawp QdX 1 QqY (QoH K)) (QoH K)
def QCA:Qb:=Qblk 0 (QIo K)
def Qfa (a:List Qr) (k1:Int) (i:Int) (a1:List Qr):Prop:=Loop QdX 1 Qsg Qqc (QCA K) ⟨[(0,(.r Qt 0 0 a.length)),(1,(zci k1)),(5,(zci i))],[(0,(.sl 0 Qt (.dp 0 false []) a1))],1⟩
theorem Qrc (a:List Qr) (k1:Int) (i:Int) (a1:List Qr) (h :
 let z11:=sst Zq (0+(Int.toNat i)) (fun e_ k_=>(k_,e_.2.1,e_.2.2.1,e_.2.2.2.1,e_.2.2.2.2.1,e_.2.2.2.2.2.1,e_.2.2.2.2.2.2.1,e_.2.2.2.2.2.2.2.1,e_.2.2.2.2.2.2.2.2.1,e_.2.2.2.2.2.2.2.2.2.1,e_.2.2.2.2.2.2.2.2.2.2.1,e_.2.2.2.2.2.2.2.2.2.2.2.1,e_.2.2.2.2.2.2.2.2.2.2.2.2.1,e_.2.2.2.2.2.2.2.2.2.2.2.2.2)) (k1,a1)
 let z5:=nst Zq (0+(Int.toNat i)) (fun e_=>e_.2.1) (fun e_ y_=>(e_.1,y_,e_.2.2.1,e_.2.2.2.1,e_.2.2.2.2.1,e_.2.2.2.2.2.1,e_.2.2.2.2.2.2.1,e_.2.2.2.2.2.2.2.1,e_.2.2.2.2.2.2.2.2.1,e_.2.2.2.2.2.2.2.2.2.1,e_.2.2.2.2.2.2.2.2.2.2.1,e_.2.2.2.2.2.2.2.2.2.2.2.1,e_.2.2.2.2.2.2.2.2.2.2.2.2.1,e_.2.2.2.2.2.2.2.2.2.2.2.2.2)) (Qn (α:=List TIns)) z11
 let z12:=nst Zq (0+(Int.toNat i)) (fun e_=>e_.2.2.1) (fun e_ y_=>(e_.1,e_.2.1,y_,e_.2.2.2.1,e_.2.2.2.2.1,e_.2.2.2.2.2.1,e_.2.2.2.2.2.2.1,e_.2.2.2.2.2.2.2.1,e_.2.2.2.2.2.2.2.2.1,e_.2.2.2.2.2.2.2.2.2.1,e_.2.2.2.2.2.2.2.2.2.2.1,e_.2.2.2.2.2.2.2.2.2.2.2.1,e_.2.2.2.2.2.2.2.2.2.2.2.2.1,e_.2.2.2.2.2.2.2.2.2.2.2.2.2)) (Qn (α:=List TOp')) z5
 let z3:=sst Zq (0+(Int.toNat i)) (fun e_ k_=>(e_.1,e_.2.1,e_.2.2.1,((Int.tmod k_ (3:Int))==(0:Int)),e_.2.2.2.2.1,e_.2.2.2.2.2.1,e_.2.2.2.2.2.2.1,e_.2.2.2.2.2.2.2.1,e_.2.2.2.2.2.2.2.2.1,e_.2.2.2.2.2.2.2.2.2.1,e_.2.2.2.2.2.2.2.2.2.2.1,e_.2.2.2.2.2.2.2.2.2.2.2.1,e_.2.2.2.2.2.2.2.2.2.2.2.2.1,e_.2.2.2.2.2.2.2.2.2.2.2.2.2)) z12
 let z10:=sst Zq (0+(Int.toNat i)) (fun e_ k_=>(e_.1,e_.2.1,e_.2.2.1,e_.2.2.2.1,((Int.tmod k_ (3:Int))==(0:Int)),e_.2.2.2.2.2.1,e_.2.2.2.2.2.2.1,e_.2.2.2.2.2.2.2.1,e_.2.2.2.2.2.2.2.2.1,e_.2.2.2.2.2.2.2.2.2.1,e_.2.2.2.2.2.2.2.2.2.2.1,e_.2.2.2.2.2.2.2.2.2.2.2.1,e_.2.2.2.2.2.2.2.2.2.2.2.2.1,e_.2.2.2.2.2.2.2.2.2.2.2.2.2)) z3
 let z7:=nst Zq (0+(Int.toNat i)) (fun e_=>e_.2.2.2.2.2.1) (fun e_ y_=>(e_.1,e_.2.1,e_.2.2.1,e_.2.2.2.1,e_.2.2.2.2.1,y_,e_.2.2.2.2.2.2.1,e_.2.2.2.2.2.2.2.1,e_.2.2.2.2.2.2.2.2.1,e_.2.2.2.2.2.2.2.2.2.1,e_.2.2.2.2.2.2.2.2.2.2.1,e_.2.2.2.2.2.2.2.2.2.2.2.1,e_.2.2.2.2.2.2.2.2.2.2.2.2.1,e_.2.2.2.2.2.2.2.2.2.2.2.2.2)) (Qn (α:=List QA)) z10
 let z1:=nst Zq (0+(Int.toNat i)) (fun e_=>e_.2.2.2.2.2.2.1) (fun e_ y_=>(e_.1,e_.2.1,e_.2.2.1,e_.2.2.2.1,e_.2.2.2.2.1,e_.2.2.2.2.2.1,y_,e_.2.2.2.2.2.2.2.1,e_.2.2.2.2.2.2.2.2.1,e_.2.2.2.2.2.2.2.2.2.1,e_.2.2.2.2.2.2.2.2.2.2.1,e_.2.2.2.2.2.2.2.2.2.2.2.1,e_.2.2.2.2.2.2.2.2.2.2.2.2.1,e_.2.2.2.2.2.2.2.2.2.2.2.2.2)) (Qn (α:=List (List Int))) z7
 let z14:=Qn (α:=List Int)
 let z8:=nst Zq (0+(Int.toNat i)) (fun e_=>e_.2.2.2.2.2.2.2.1) (fun e_ y_=>(e_.1,e_.2.1,e_.2.2.1,e_.2.2.2.1,e_.2.2.2.2.1,e_.2.2.2.2.2.1,e_.2.2.2.2.2.2.1,y_,e_.2.2.2.2.2.2.2.2.1,e_.2.2.2.2.2.2.2.2.2.1,e_.2.2.2.2.2.2.2.2.2.2.1,e_.2.2.2.2.2.2.2.2.2.2.2.1,e_.2.2.2.2.2.2.2.2.2.2.2.2.1,e_.2.2.2.2.2.2.2.2.2.2.2.2.2)) z14 z1
 let z6:=nst Zq (0+(Int.toNat i)) (fun e_=>e_.2.2.2.2.2.2.2.2.1) (fun e_ y_=>(e_.1,e_.2.1,e_.2.2.1,e_.2.2.2.1,e_.2.2.2.2.1,e_.2.2.2.2.2.1,e_.2.2.2.2.2.2.1,e_.2.2.2.2.2.2.2.1,y_,e_.2.2.2.2.2.2.2.2.2.1,e_.2.2.2.2.2.2.2.2.2.2.1,e_.2.2.2.2.2.2.2.2.2.2.2.1,e_.2.2.2.2.2.2.2.2.2.2.2.2.1,e_.2.2.2.2.2.2.2.2.2.2.2.2.2)) z14 z8
 let z2:=nst Zq (0+(Int.toNat i)) (fun e_=>e_.2.2.2.2.2.2.2.2.2.1) (fun e_ y_=>(e_.1,e_.2.1,e_.2.2.1,e_.2.2.2.1,e_.2.2.2.2.1,e_.2.2.2.2.2.1,e_.2.2.2.2.2.2.1,e_.2.2.2.2.2.2.2.1,e_.2.2.2.2.2.2.2.2.1,y_,e_.2.2.2.2.2.2.2.2.2.2.1,e_.2.2.2.2.2.2.2.2.2.2.2.1,e_.2.2.2.2.2.2.2.2.2.2.2.2.1,e_.2.2.2.2.2.2.2.2.2.2.2.2.2)) z14 z6
 let z9:=nst Zq (0+(Int.toNat i)) (fun e_=>e_.2.2.2.2.2.2.2.2.2.2.1) (fun e_ y_=>(e_.1,e_.2.1,e_.2.2.1,e_.2.2.2.1,e_.2.2.2.2.1,e_.2.2.2.2.2.1,e_.2.2.2.2.2.2.1,e_.2.2.2.2.2.2.2.1,e_.2.2.2.2.2.2.2.2.1,e_.2.2.2.2.2.2.2.2.2.1,y_,e_.2.2.2.2.2.2.2.2.2.2.2.1,e_.2.2.2.2.2.2.2.2.2.2.2.2.1,e_.2.2.2.2.2.2.2.2.2.2.2.2.2)) z14 z2
 let z4:=nst Zq (0+(Int.toNat i)) (fun e_=>e_.2.2.2.2.2.2.2.2.2.2.2.1) (fun e_ y_=>(e_.1,e_.2.1,e_.2.2.1,e_.2.2.2.1,e_.2.2.2.2.1,e_.2.2.2.2.2.1,e_.2.2.2.2.2.2.1,e_.2.2.2.2.2.2.2.1,e_.2.2.2.2.2.2.2.2.1,e_.2.2.2.2.2.2.2.2.2.1,e_.2.2.2.2.2.2.2.2.2.2.1,y_,e_.2.2.2.2.2.2.2.2.2.2.2.2.1,e_.2.2.2.2.2.2.2.2.2.2.2.2.2)) (Qn (α:=List (List Int))) z9
 let z13:=sst Zq (0+(Int.toNat i)) (fun e_ k_=>(e_.1,e_.2.1,e_.2.2.1,e_.2.2.2.1,e_.2.2.2.2.1,e_.2.2.2.2.2.1,e_.2.2.2.2.2.2.1,e_.2.2.2.2.2.2.2.1,e_.2.2.2.2.2.2.2.2.1,e_.2.2.2.2.2.2.2.2.2.1,e_.2.2.2.2.2.2.2.2.2.2.1,e_.2.2.2.2.2.2.2.2.2.2.2.1,k_,e_.2.2.2.2.2.2.2.2.2.2.2.2.2)) z4
 (zif (decide (i<((a.length:Nat):Int))) ((((0:Int)≤i∧Int.toNat i<a.length)∧((0+(Int.toNat i))<a1.length))∧((((0:Int)≤i∧Int.toNat i<a.length)∧(((0+(Int.toNat i))<(z11.2).length)∧((0+(Int.toNat i))<(z11.2).length)))∧((((0:Int)≤i∧Int.toNat i<a.length)∧(((0+(Int.toNat i))<(z5.2).length)∧((0+(Int.toNat i))<(z5.2).length)))∧(((¬ ((3:Int):Int)=0)∧(((0:Int)≤i∧Int.toNat i<a.length)∧((0+(Int.toNat i))<(z12.2).length)))∧(((¬ ((3:Int):Int)=0)∧(((0:Int)≤i∧Int.toNat i<a.length)∧((0+(Int.toNat i))<(z3.2).length)))∧((((0:Int)≤i∧Int.toNat i<a.length)∧(((0+(Int.toNat i))<(z10.2).length)∧((0+(Int.toNat i))<(z10.2).length)))∧((((0:Int)≤i∧Int.toNat i<a.length)∧(((0+(Int.toNat i))<(z7.2).length)∧((0+(Int.toNat i))<(z7.2).length)))∧((((0:Int)≤i∧Int.toNat i<a.length)∧(((0+(Int.toNat i))<(z1.2).length)∧((0+(Int.toNat i))<(z1.2).length)))∧((((0:Int)≤i∧Int.toNat i<a.length)∧(((0+(Int.toNat i))<(z8.2).length)∧((0+(Int.toNat i))<(z8.2).length)))∧((((0:Int)≤i∧Int.toNat i<a.length)∧(((0+(Int.toNat i))<(z6.2).length)∧((0+(Int.toNat i))<(z6.2).length)))∧((((0:Int)≤i∧Int.toNat i<a.length)∧(((0+(Int.toNat i))<(z2.2).length)∧((0+(Int.toNat i))<(z2.2).length)))∧((((0:Int)≤i∧Int.toNat i<a.length)∧(((0+(Int.toNat i))<(z9.2).length)∧((0+(Int.toNat i))<(z9.2).length)))∧((((0:Int)≤i∧Int.toNat i<a.length)∧((0+(Int.toNat i))<(z4.2).length))∧(((¬ ((3:Int):Int)=0)∧(((0:Int)≤i∧Int.toNat i<a.length)∧((0+(Int.toNat i))<(z13.2).length)))∧(Qfa K a (w64 ((w64 ((z4.1)+(1:Int)))+(1:Int))) (w64 (i+(1:Int))) ((sst Zq (0+(Int.toNat i)) (fun e_ k_=>(e_.1,e_.2.1,e_.2.2.1,e_.2.2.2.1,e_.2.2.2.2.1,e_.2.2.2.2.2.1,e_.2.2.2.2.2.2.1,e_.2.2.2.2.2.2.2.1,e_.2.2.2.2.2.2.2.2.1,e_.2.2.2.2.2.2.2.2.2.1,e_.2.2.2.2.2.2.2.2.2.2.1,e_.2.2.2.2.2.2.2.2.2.2.2.1,e_.2.2.2.2.2.2.2.2.2.2.2.2.1,((Int.tmod k_ (3:Int))==(0:Int)))) z13).2)))))))))))))))) (K (JF (k1,a1))))):Qfa K a k1 i a1 :=
 Loop.of (by kernel_rfl) h
theorem Qvy (a:List Qr) (k:Int) (h :
 (Qfa K a k 0 a)):Hold (tawp QdX (0+1) QEk (TQ 0 1 QoK K) (Qe [(.ow 0 Qt dw a),(.c TI k)])) :=
 Hold.of (by kernel_rfl) h
theorem Qzc (a:List Qr) (k:Int):TCon Tryz.prog 95 [(.ow 0 Qt dw a),(.c TI k)] (JF (Qn (α:=List Qr) a k)):=by
 refine Ql rfl fun hb=>tcg (Γ:=QdX) (n:=120) (sg:=Qg3.sg) Qk (TOkL.cons QvN (TOkL.cons Qof (TOkL.cons Qvw (TOkL.cons Qrg (TOkL.cons Qbw TOkL.nil))))) (by kernel_rfl) (by kernel_rfl) (Qvy _ a k ?_)
 have hl_a:a.length≤9223372036854775807:=hb.1.1
 refine YU (A:=fun kk ii ll=>Qfa (fun r'=>r'=JF (Qn (α:=List Qr) a k)) a kk ii ll) (Q:=fun z=>JF z=JF (Qn (α:=List Qr) a k)) a k ?_ ?_ rfl
 ·intro kk pre post x hl hA
  have hlt:pre.length<a.length:=by omega
  have hw:w64 (((pre.length:Nat):Int)+1)=((pre.length+1:Nat):Int):=by rw [Qx (by omega) (by omega)];omega
  refine Qrc (fun r'=>r'=JF (Qn (α:=List Qr) a k)) a kk ((pre.length:Nat):Int) (pre++x::post) ?_
  conv=>zeta
  refine ⟨fun _=>?_,fun h=>absurd h (by simp;omega)⟩
  simp only [Int.toNat_natCast,Nat.zero_add,YL,YV,Zh,YD,hw,lt_f,hlt,Zu,and_true,true_and,Int.natCast_nonneg]
  exact hA
 ·intro kk l hl hq
  refine Qrc (fun r'=>r'=JF (Qn (α:=List Qr) a k)) a kk ((a.length:Nat):Int) l ?_
  conv=>zeta
  exact ⟨fun h=>absurd h (by simp),fun _=>hq⟩
theorem Qzd:Qi Tryz.prog Qg3:=Qm fun x _=>Qzc x.1 x.2.1
def Zf (t:Int):TRes:=zre (zci t)
def Qgy:TRow:=Qg 137 [(.c (.sl Qt)),(.c TI)] fun x=>(some (QD (α:=List Qr) x.1 x.2.1),Zf (m_held (α:=List Qr) x.1 x.2.1))
def QfI:TTab:=⟨[QiM,Qjt,Qkb,Qfk,QaQ],false⟩
def QuV:TCode :=
 (zsq [(zsq [(.reg [zmv 6 5,zmv 7 0,zle 8 7,zbi 9 .lss 6 8]),(.cond 9 .skip (.exit 0))]),(.block 1 (zsq [(zsq [(.reg [zmv 12 0,zmv 13 5,zia 14 12 13 Qt,zfa 15 14 0,zld 16 15 1,zmv 17 1,zbi 18 .neq 16 17]),(.cond 18 (zsq [(.reg [zmv 4 (zki (-1))]),.ret]) .skip)]),(.reg [zmv 19 1,zbi 20 .add 19 (zki 1),zmv 1 20]),(.reg [zmv 21 0,zmv 22 5,zia 23 21 22 Qt,zfa 24 23 1,zld 25 24 1,zmv 26 1,zca 27 83 [25,26],zmv 1 27]),(zsq [(.reg [zmv 28 1,zbi 29 .lss 28 (zki 0)]),(.cond 29 (zsq [(.reg [zmv 4 (zki (-1))]),.ret]) .skip)]),(.reg [zmv 30 0,zmv 31 5,zia 32 30 31 Qt,zfa 33 32 2,zld 34 33 1,zmv 35 1,zca 36 84 [34,35],zmv 1 36]),(zsq [(.reg [zmv 37 1,zbi 38 .lss 37 (zki 0)]),(.cond 38 (zsq [(.reg [zmv 4 (zki (-1))]),.ret]) .skip)]),(zsq [(.reg [zmv 39 0,zmv 40 5,zia 41 39 40 Qt,zfa 42 41 3,zld 43 42 1,zmv 44 1,zbi 45 .rem 44 (zki 3),zbi 46 .eql 45 (zki 0),zop 47 (.eqb true 43 46)]),(.cond 47 (zsq [(.reg [zmv 4 (zki (-1))]),.ret]) .skip)]),(.reg [zmv 48 1,zbi 49 .add 48 (zki 1),zmv 1 49]),(zsq [(.reg [zmv 50 0,zmv 51 5,zia 52 50 51 Qt,zfa 53 52 4,zld 54 53 1,zmv 55 1,zbi 56 .rem 55 (zki 3),zbi 57 .eql 56 (zki 0),zop 58 (.eqb true 54 57)]),(.cond 58 (zsq [(.reg [zmv 4 (zki (-1))]),.ret]) .skip)]),(.reg [zmv 59 1,zbi 60 .add 59 (zki 1),zmv 1 60]),(.reg [zmv 61 0,zmv 62 5,zia 63 61 62 Qt,zfa 64 63 5,zld 65 64 1,zmv 66 1,zca 67 85 [65,66],zmv 1 67]),(zsq [(.reg [zmv 68 1,zbi 69 .lss 68 (zki 0)]),(.cond 69 (zsq [(.reg [zmv 4 (zki (-1))]),.ret]) .skip)]),(.reg [zmv 70 0,zmv 71 5,zia 72 70 71 Qt,zfa 73 72 6,zld 74 73 1,zmv 75 1,zca 76 86 [74,75],zmv 1 76]),(zsq [(.reg [zmv 77 1,zbi 78 .lss 77 (zki 0)]),(.cond 78 (zsq [(.reg [zmv 4 (zki (-1))]),.ret]) .skip)]),(.reg [zmv 79 0,zmv 80 5,zia 81 79 80 Qt,zfa 82 81 7,zld 83 82 1,zmv 84 1,zca 85 27 [83,84],zmv 1 85]),(zsq [(.reg [zmv 86 1,zbi 87 .lss 86 (zki 0)]),(.cond 87 (zsq [(.reg [zmv 4 (zki (-1))]),.ret]) .skip)]),(.reg [zmv 88 0,zmv 89 5,zia 90 88 89 Qt,zfa 91 90 8,zld 92 91 1,zmv 93 1,zca 94 27 [92,93],zmv 1 94]),(zsq [(.reg [zmv 95 1,zbi 96 .lss 95 (zki 0)]),(.cond 96 (zsq [(.reg [zmv 4 (zki (-1))]),.ret]) .skip)]),(.reg [zmv 97 0,zmv 98 5,zia 99 97 98 Qt,zfa 100 99 9,zld 101 100 1,zmv 102 1,zca 103 27 [101,102],zmv 1 103]),(zsq [(.reg [zmv 104 1,zbi 105 .lss 104 (zki 0)]),(.cond 105 (zsq [(.reg [zmv 4 (zki (-1))]),.ret]) .skip)]),(.reg [zmv 106 0,zmv 107 5,zia 108 106 107 Qt,zfa 109 108 10,zld 110 109 1,zmv 111 1,zca 112 27 [110,111],zmv 1 112]),(zsq [(.reg [zmv 113 1,zbi 114 .lss 113 (zki 0)]),(.cond 114 (zsq [(.reg [zmv 4 (zki (-1))]),.ret]) .skip)]),(.reg [zmv 115 0,zmv 116 5,zia 117 115 116 Qt,zfa 118 117 11,zfa 119 118 0,zld 120 119 1,zmv 121 1,zca 122 86 [120,121],zmv 1 122]),(zsq [(.reg [zmv 123 1,zbi 124 .lss 123 (zki 0)]),(.cond 124 (zsq [(.reg [zmv 4 (zki (-1))]),.ret]) .skip)]),(zsq [(.reg [zmv 125 0,zmv 126 5,zia 127 125 126 Qt,zfa 128 127 11,zfa 129 128 1,zld 130 129 1,zmv 131 1,zbi 132 .neq 130 131]),(.cond 132 (zsq [(.reg [zmv 4 (zki (-1))]),.ret]) .skip)]),(.reg [zmv 133 1,zbi 134 .add 133 (zki 1),zmv 1 134]),(zsq [(.reg [zmv 135 0,zmv 136 5,zia 137 135 136 Qt,zfa 138 137 11,zfa 139 138 2,zld 140 139 1,zmv 141 1,zbi 142 .rem 141 (zki 3),zbi 143 .eql 142 (zki 0),zop 144 (.eqb true 140 143)]),(.cond 144 (zsq [(.reg [zmv 4 (zki (-1))]),.ret]) .skip)]),(.reg [zmv 145 1,zbi 146 .add 145 (zki 1),zmv 1 146])])),(.reg [zmv 10 5,zbi 11 .add 10 (zki 1),zmv 5 11])])
def QsD:List (Nat × Md):=zdl [0,1,5]
def Qtn:TCode :=
 (zsq [(.reg [zmv 147 1,zmv 4 147]),.ret])
def Qzx:TCode :=
 (zsq [(.reg [zmv 4 (zki 0)]),(zsq [(.reg [zmv 5 (zki 0)]),(.block 0 (.loop QsD QuV))]),Qtn])
def QoJ:List (ARv × Md):=[(.t 4,.one .d)]
def QlX:Qb:=TQ 0 0 QoJ K
def QzD:Qb:=Qseq (tawp QfI 0 Qtn (QlX K)) (QlX K)
def QGG:Qb:=Qblk 0 (QzD K)
def Qgc (a:List Qr) (k1:Int) (i:Int):Prop:=Loop QfI 0 QsD QuV (QGG K) ⟨[(0,(zcs Qt a)),(1,(zci k1)),(5,(zci i))],[],0⟩
theorem QqS (a:List Qr) (k1:Int) (i:Int) (h :
 let z2:=gtd Zq a (Int.toNat i)
 let z8:=m_held (α:=List TIns) (z2.2.1) (w64 (k1+(1:Int)))
 let z4:=m_held (α:=List TOp') (z2.2.2.1) z8
 let z5:=m_held (α:=List QA) (z2.2.2.2.2.2.1) (w64 ((w64 (z4+(1:Int)))+(1:Int)))
 let z9:=m_held (α:=List (List Int)) (z2.2.2.2.2.2.2.1) z5
 let z1:=m_held (α:=List Int) (z2.2.2.2.2.2.2.2.1) z9
 let z10:=m_held (α:=List Int) (z2.2.2.2.2.2.2.2.2.1) z1
 let z6:=m_held (α:=List Int) (z2.2.2.2.2.2.2.2.2.2.1) z10
 let z3:=m_held (α:=List Int) (z2.2.2.2.2.2.2.2.2.2.2.1) z6
 let z7:=m_held (α:=List (List Int)) (z2.2.2.2.2.2.2.2.2.2.2.2.1) z3
 (zif (decide (i<(a.length:Int))) (((0:Int)≤i∧Int.toNat i<a.length)∧(zif ((z2.1) != k1) (K (Zf (-1:Int))) ((((0:Int)≤i∧Int.toNat i<a.length)∧(QD (α:=List TIns) (z2.2.1) (w64 (k1+(1:Int)))))∧(zif (decide (z8<(0:Int))) (K (Zf (-1:Int))) ((((0:Int)≤i∧Int.toNat i<a.length)∧(QD (α:=List TOp') (z2.2.2.1) z8))∧(zif (decide (z4<(0:Int))) (K (Zf (-1:Int))) ((((0:Int)≤i∧Int.toNat i<a.length)∧(¬ ((3:Int):Int)=0))∧(zif (!((z2.2.2.2.1)==((Int.tmod z4 (3:Int))==(0:Int)))) (K (Zf (-1:Int))) ((((0:Int)≤i∧Int.toNat i<a.length)∧(¬ ((3:Int):Int)=0))∧(zif (!((z2.2.2.2.2.1)==((Int.tmod (w64 (z4+(1:Int))) (3:Int))==(0:Int)))) (K (Zf (-1:Int))) ((((0:Int)≤i∧Int.toNat i<a.length)∧(QD (α:=List QA) (z2.2.2.2.2.2.1) (w64 ((w64 (z4+(1:Int)))+(1:Int)))))∧(zif (decide (z5<(0:Int))) (K (Zf (-1:Int))) ((((0:Int)≤i∧Int.toNat i<a.length)∧(QD (α:=List (List Int)) (z2.2.2.2.2.2.2.1) z5))∧(zif (decide (z9<(0:Int))) (K (Zf (-1:Int))) ((((0:Int)≤i∧Int.toNat i<a.length)∧(QD (α:=List Int) (z2.2.2.2.2.2.2.2.1) z9))∧(zif (decide (z1<(0:Int))) (K (Zf (-1:Int))) ((((0:Int)≤i∧Int.toNat i<a.length)∧(QD (α:=List Int) (z2.2.2.2.2.2.2.2.2.1) z1))∧(zif (decide (z10<(0:Int))) (K (Zf (-1:Int))) ((((0:Int)≤i∧Int.toNat i<a.length)∧(QD (α:=List Int) (z2.2.2.2.2.2.2.2.2.2.1) z10))∧(zif (decide (z6<(0:Int))) (K (Zf (-1:Int))) ((((0:Int)≤i∧Int.toNat i<a.length)∧(QD (α:=List Int) (z2.2.2.2.2.2.2.2.2.2.2.1) z6))∧(zif (decide (z3<(0:Int))) (K (Zf (-1:Int))) ((((0:Int)≤i∧Int.toNat i<a.length)∧(QD (α:=List (List Int)) (z2.2.2.2.2.2.2.2.2.2.2.2.1) z3))∧(zif (decide (z7<(0:Int))) (K (Zf (-1:Int))) (((0:Int)≤i∧Int.toNat i<a.length)∧(zif ((z2.2.2.2.2.2.2.2.2.2.2.2.2.1) != z7) (K (Zf (-1:Int))) ((((0:Int)≤i∧Int.toNat i<a.length)∧(¬ ((3:Int):Int)=0))∧(zif (!((z2.2.2.2.2.2.2.2.2.2.2.2.2.2)==((Int.tmod (w64 (z7+(1:Int))) (3:Int))==(0:Int)))) (K (Zf (-1:Int))) (Qgc K a (w64 ((w64 (z7+(1:Int)))+(1:Int))) (w64 (i+(1:Int)))))))))))))))))))))))))))))))) (K (Zf k1)))):Qgc K a k1 i :=
 Loop.of (by kernel_rfl) h
theorem Qxo (a:List Qr) (k:Int) (h :
 (Qgc K a k 0)):Hold (tawp QfI (0+0) Qzx (TQ 0 0 QoJ K) (Qe [(.c (.sl Qt) a),(.c TI k)])) :=
 Hold.of (by kernel_rfl) h
theorem QyI (a:List Qr) (k:Int) (hp:QD (α:=List Qr) a k):TCon Tryz.prog 137 [(.c (.sl Qt) a),(.c TI k)] (Zf (m_held (α:=List Qr) a k)):=by
 refine Ql rfl fun hb=>tcg (Γ:=QfI) (n:=148) (sg:=Qgy.sg) Qk (TOkL.cons QIV (TOkL.cons Qx7 (TOkL.cons QD4 (TOkL.cons Qnq (TOkL.cons QcI TOkL.nil))))) (by kernel_rfl) (by kernel_rfl) (Qxo _ a k ?_)
 have hl_a:a.length≤9223372036854775807:=hb.1.1
 refine Ji (A:=fun kk ii=>Qgc (fun r'=>r'=Zf (m_held (α:=List Qr) a k)) a kk ii) (Q:=fun z=>Zf z=Zf (m_held (α:=List Qr) a k)) a k hp ?_ ?_ rfl
 ·intro kk pre post x ha hpx hneg hpos
  have hlt:pre.length<a.length:=by rw [ha];simp
  have hg:∀ d,gtd d a pre.length=x:=fun d=>by rw [ha];exact Zh d pre post x
  have hw:w64 (((pre.length:Nat):Int)+1)=((pre.length+1:Nat):Int):=by rw [Qx (by omega) (by omega)];omega
  refine QqS (fun r'=>r'=Zf (m_held (α:=List Qr) a k)) a kk ((pre.length:Nat):Int) ?_
  conv=>zeta
  refine ⟨fun _=>?_,fun h=>absurd h (by simp;omega)⟩
  simp only [Int.toNat_natCast,hg,hw,hlt,Zu,and_true,true_and,Int.natCast_nonneg]
  have hp0:=(QH hpx).1
  have hq0:=(QH hpx).2
  have hp1:=(QH hq0).1
  have hq1:=(QH hq0).2
  have hp2:=(QH hq1).1
  have hq2:=(QH hq1).2
  have hp3:=(QH hq2).1
  have hq3:=(QH hq2).2
  have hp4:=(QH hq3).1
  have hq4:=(QH hq3).2
  have hp5:=(QH hq4).1
  have hq5:=(QH hq4).2
  have hp6:=(QH hq5).1
  have hq6:=(QH hq5).2
  have hp7:=(QH hq6).1
  have hq7:=(QH hq6).2
  have hp8:=(QH hq7).1
  have hq8:=(QH hq7).2
  have hp9:=(QH hq8).1
  have hq9:=(QH hq8).2
  have hp10:=(QH hq9).1
  have hq10:=(QH hq9).2
  have hp11:=(QH hq10).1
  have hq11:=(QH hq10).2
  have hp12:=(QH hq11).1
  have hq12:=(QH hq11).2
  simp only [JN,J4,JC,Prod.ext_iff] at hneg hpos hp0 hq0 hp1 hq1 hp2 hq2 hp3 hq3 hp4 hq4 hp5 hq5 hp6 hq6 hp7 hq7 hp8 hq8 hp9 hq9 hp10 hq10 hp11 hq11 hp12 hq12
  refine ⟨fun h=>hneg (fun e=>Z1 h (e.1).symm),fun h0=>?_⟩
  have e0:=(ZY h0).symm
  refine ⟨hp1,fun h=>hneg (fun e=>Zl hp1 (of_decide_eq_true h) (e.2.1)),fun h1=>?_⟩
  obtain ⟨e1,h1⟩:=Zn (of_decide_eq_false h1)
  rw [h1]
  refine ⟨hp2,fun h=>hneg (fun e=>Zl hp2 (of_decide_eq_true h) (e.2.2.1)),fun h2=>?_⟩
  obtain ⟨e2,h2⟩:=Zn (of_decide_eq_false h2)
  rw [h2]
  refine ⟨fun h=>hneg (fun e=>Z1 h (e.2.2.2.1).symm),fun h3=>?_⟩
  have e3:=(ZY h3).symm
  refine ⟨fun h=>hneg (fun e=>Z1 h (e.2.2.2.2.1).symm),fun h4=>?_⟩
  have e4:=(ZY h4).symm
  refine ⟨hp5,fun h=>hneg (fun e=>Zl hp5 (of_decide_eq_true h) (e.2.2.2.2.2.1)),fun h5=>?_⟩
  obtain ⟨e5,h5⟩:=Zn (of_decide_eq_false h5)
  rw [h5]
  refine ⟨hp6,fun h=>hneg (fun e=>Zl hp6 (of_decide_eq_true h) (e.2.2.2.2.2.2.1)),fun h6=>?_⟩
  obtain ⟨e6,h6⟩:=Zn (of_decide_eq_false h6)
  rw [h6]
  refine ⟨hp7,fun h=>hneg (fun e=>Zl hp7 (of_decide_eq_true h) (e.2.2.2.2.2.2.2.1)),fun h7=>?_⟩
  obtain ⟨e7,h7⟩:=Zn (of_decide_eq_false h7)
  rw [h7]
  refine ⟨hp8,fun h=>hneg (fun e=>Zl hp8 (of_decide_eq_true h) (e.2.2.2.2.2.2.2.2.1)),fun h8=>?_⟩
  obtain ⟨e8,h8⟩:=Zn (of_decide_eq_false h8)
  rw [h8]
  refine ⟨hp9,fun h=>hneg (fun e=>Zl hp9 (of_decide_eq_true h) (e.2.2.2.2.2.2.2.2.2.1)),fun h9=>?_⟩
  obtain ⟨e9,h9⟩:=Zn (of_decide_eq_false h9)
  rw [h9]
  refine ⟨hp10,fun h=>hneg (fun e=>Zl hp10 (of_decide_eq_true h) (e.2.2.2.2.2.2.2.2.2.2.1)),fun h10=>?_⟩
  obtain ⟨e10,h10⟩:=Zn (of_decide_eq_false h10)
  rw [h10]
  refine ⟨hp11,fun h=>hneg (fun e=>Zl hp11 (of_decide_eq_true h) (e.2.2.2.2.2.2.2.2.2.2.2.1)),fun h11=>?_⟩
  obtain ⟨e11,h11⟩:=Zn (of_decide_eq_false h11)
  rw [h11]
  refine ⟨fun h=>hneg (fun e=>Z1 h (e.2.2.2.2.2.2.2.2.2.2.2.2.1).symm),fun h12=>?_⟩
  have e12:=(ZY h12).symm
  refine ⟨fun h=>hneg (fun e=>Z1 h (e.2.2.2.2.2.2.2.2.2.2.2.2.2).symm),fun h13=>?_⟩
  have e13:=(ZY h13).symm
  exact hpos ⟨e0,e1,e2,e3,e4,e5,e6,e7,e8,e9,e10,e11,e12,e13⟩
 ·intro kk hq
  refine QqS (fun r'=>r'=Zf (m_held (α:=List Qr) a k)) a kk ((a.length:Nat):Int) ?_
  conv=>zeta
  exact ⟨fun h=>absurd h (by simp),fun _=>hq⟩
theorem QCB:Qi Tryz.prog Qgy:=Qm fun x h=>QyI x.1 x.2.1 h
end
end Go.Proofs.YtdplaepmjogjjaaGreat.Am

