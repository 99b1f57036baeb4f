/- -/
import Derived.Test.YtdplaepmjogjjaaGreatVBMK1
import Derived.Test.YtdplaepmjogjjaaGreatVBMK2
import Derived.Test.YtdplaepmjogjjaaGreatVBGF
namespace Go.Proofs.YtdplaepmjogjjaaGreat.Am
open Go Go.RowKit Go.Proofs.YtdplaepmjogjjaaGreat
set_option linter.all false
noncomputable section
variable (K:TRes→Prop)
def JC (t:Int × (List Qc)):TRes:=⟨(zci t.1),[],[],true,[(.sl 0 Qo (.dp 0 false []) t.2)]⟩
def Qhm:TRow:=Qi 95 [(.d Qo),(.c TI)] fun x=>(none,JC (Qm (α:=List Qc) x.1 x.2.1))
def QeN:TTab:=⟨[Qgj,Qg2,Qgo,QeJ,Ja],true⟩
def QjM:TCode :=
 (zsq [(zsq [(.reg [zmv 6 5,zmv 7 0,zle 8 7,zbi 9 .lss 6 8]),(.cond 9 .skip (.exit 0))]),(.block 1 (zsq [(.reg [zmv 12 0,zmv 13 5,zmv 14 1,zia 15 12 13 Qo,zfa 16 15 0,zst 16 14 1]),(.reg [zmv 17 1,zbi 18 .add 17 (zki 1),zmv 1 18]),(.reg [zmv 19 0,zmv 20 5,zia 21 19 20 Qo,zfa 22 21 1,zld 23 22 1,zmv 24 1,zca 25 79 [23,24],zmv 1 25]),(.reg [zmv 26 0,zmv 27 5,zia 28 26 27 Qo,zfa 29 28 2,zld 30 29 1,zmv 31 1,zca 32 80 [30,31],zmv 1 32]),(.reg [zmv 33 0,zmv 34 5,zmv 35 1,zbi 36 .rem 35 (zki 3),zbi 37 .eql 36 (zki 0),zia 38 33 34 Qo,zfa 39 38 3,zst 39 37 1]),(.reg [zmv 40 1,zbi 41 .add 40 (zki 1),zmv 1 41]),(.reg [zmv 42 0,zmv 43 5,zmv 44 1,zbi 45 .rem 44 (zki 3),zbi 46 .eql 45 (zki 0),zia 47 42 43 Qo,zfa 48 47 4,zst 48 46 1]),(.reg [zmv 49 1,zbi 50 .add 49 (zki 1),zmv 1 50]),(.reg [zmv 51 0,zmv 52 5,zia 53 51 52 Qo,zfa 54 53 5,zld 55 54 1,zmv 56 1,zca 57 81 [55,56],zmv 1 57]),(.reg [zmv 58 0,zmv 59 5,zia 60 58 59 Qo,zfa 61 60 6,zld 62 61 1,zmv 63 1,zca 64 82 [62,63],zmv 1 64]),(.reg [zmv 65 0,zmv 66 5,zia 67 65 66 Qo,zfa 68 67 7,zld 69 68 1,zmv 70 1,zca 71 26 [69,70],zmv 1 71]),(.reg [zmv 72 0,zmv 73 5,zia 74 72 73 Qo,zfa 75 74 8,zld 76 75 1,zmv 77 1,zca 78 26 [76,77],zmv 1 78]),(.reg [zmv 79 0,zmv 80 5,zia 81 79 80 Qo,zfa 82 81 9,zld 83 82 1,zmv 84 1,zca 85 26 [83,84],zmv 1 85]),(.reg [zmv 86 0,zmv 87 5,zia 88 86 87 Qo,zfa 89 88 10,zld 90 89 1,zmv 91 1,zca 92 26 [90,91],zmv 1 92]),(.reg [zmv 93 0,zmv 94 5,zia 95 93 94 Qo,zfa 96 95 11,zfa 97 96 0,zld 98 97 1,zmv 99 1,zca 100 82 [98,99],zmv 1 100]),(.reg [zmv 101 0,zmv 102 5,zmv 103 1,zia 104 101 102 Qo,zfa 105 104 11,zfa 106 105 1,zst 106 103 1]),(.reg [zmv 107 1,zbi 108 .add 107 (zki 1),zmv 1 108]),(.reg [zmv 109 0,zmv 110 5,zmv 111 1,zbi 112 .rem 111 (zki 3),zbi 113 .eql 112 (zki 0),zia 114 109 110 Qo,zfa 115 114 11,zfa 116 115 2,zst 116 113 1]),(.reg [zmv 117 1,zbi 118 .add 117 (zki 1),zmv 1 118])])),(.reg [zmv 10 5,zbi 11 .add 10 (zki 1),zmv 5 11])])
def QrC:List (Nat × Md):=[(0,.one .f),(1,.one .d),(5,.one .d)]
def Qph:TCode :=
 (zsq [(.reg [zmv 119 1,zmv 4 119]),.ret])
def QsP:TCode :=
 (zsq [(.reg [zmv 4 (zki 0)]),(zsq [(.reg [zmv 5 (zki 0)]),(.block 0 (.loop QrC QjM))]),Qph])
def QrA:List (ARv × Md):=[(.t 4,.one .d)]
def Qi1:Qb:=TQ 0 1 QrA K
def QCV:Qb:=Qseq (tawp QeN 1 Qph (Qi1 K)) (Qi1 K)
def Qvg:Qb:=Qblk 0 (QCV K)
def Qd6 (a:List Qc) (k1:Int) (i:Int) (a1:List Qc):Prop:=Loop QeN 1 QrC QjM (Qvg K) ⟨[(0,(.r Qo 0 0 a.length)),(1,(zci k1)),(5,(zci i))],[(0,(.sl 0 Qo (.dp 0 false []) a1))],1⟩
theorem Qj5 (a:List Qc) (k1:Int) (i:Int) (a1:List Qc) (h :
 let z11:=sst Qv (0+(Int.toNat i)) (fun e_ k_=>(k_,e_.2.1,e_.2.2.1,e_.2.2.2.1,e_.2.2.2.2.1,e_.2.2.2.2.2.1,e_.2.2.2.2.2.2.1,e_.2.2.2.2.2.2.2.1,e_.2.2.2.2.2.2.2.2.1,e_.2.2.2.2.2.2.2.2.2.1,e_.2.2.2.2.2.2.2.2.2.2.1,e_.2.2.2.2.2.2.2.2.2.2.2.1,e_.2.2.2.2.2.2.2.2.2.2.2.2.1,e_.2.2.2.2.2.2.2.2.2.2.2.2.2)) (k1,a1)
 let z5:=nst Qv (0+(Int.toNat i)) (fun e_=>e_.2.1) (fun e_ y_=>(e_.1,y_,e_.2.2.1,e_.2.2.2.1,e_.2.2.2.2.1,e_.2.2.2.2.2.1,e_.2.2.2.2.2.2.1,e_.2.2.2.2.2.2.2.1,e_.2.2.2.2.2.2.2.2.1,e_.2.2.2.2.2.2.2.2.2.1,e_.2.2.2.2.2.2.2.2.2.2.1,e_.2.2.2.2.2.2.2.2.2.2.2.1,e_.2.2.2.2.2.2.2.2.2.2.2.2.1,e_.2.2.2.2.2.2.2.2.2.2.2.2.2)) (Qm (α:=List TIns)) z11
 let z12:=nst Qv (0+(Int.toNat i)) (fun e_=>e_.2.2.1) (fun e_ y_=>(e_.1,e_.2.1,y_,e_.2.2.2.1,e_.2.2.2.2.1,e_.2.2.2.2.2.1,e_.2.2.2.2.2.2.1,e_.2.2.2.2.2.2.2.1,e_.2.2.2.2.2.2.2.2.1,e_.2.2.2.2.2.2.2.2.2.1,e_.2.2.2.2.2.2.2.2.2.2.1,e_.2.2.2.2.2.2.2.2.2.2.2.1,e_.2.2.2.2.2.2.2.2.2.2.2.2.1,e_.2.2.2.2.2.2.2.2.2.2.2.2.2)) (Qm (α:=List TOp')) z5
 let z3:=sst Qv (0+(Int.toNat i)) (fun e_ k_=>(e_.1,e_.2.1,e_.2.2.1,((Int.tmod k_ (3:Int))==(0:Int)),e_.2.2.2.2.1,e_.2.2.2.2.2.1,e_.2.2.2.2.2.2.1,e_.2.2.2.2.2.2.2.1,e_.2.2.2.2.2.2.2.2.1,e_.2.2.2.2.2.2.2.2.2.1,e_.2.2.2.2.2.2.2.2.2.2.1,e_.2.2.2.2.2.2.2.2.2.2.2.1,e_.2.2.2.2.2.2.2.2.2.2.2.2.1,e_.2.2.2.2.2.2.2.2.2.2.2.2.2)) z12
 let z10:=sst Qv (0+(Int.toNat i)) (fun e_ k_=>(e_.1,e_.2.1,e_.2.2.1,e_.2.2.2.1,((Int.tmod k_ (3:Int))==(0:Int)),e_.2.2.2.2.2.1,e_.2.2.2.2.2.2.1,e_.2.2.2.2.2.2.2.1,e_.2.2.2.2.2.2.2.2.1,e_.2.2.2.2.2.2.2.2.2.1,e_.2.2.2.2.2.2.2.2.2.2.1,e_.2.2.2.2.2.2.2.2.2.2.2.1,e_.2.2.2.2.2.2.2.2.2.2.2.2.1,e_.2.2.2.2.2.2.2.2.2.2.2.2.2)) z3
 let z7:=nst Qv (0+(Int.toNat i)) (fun e_=>e_.2.2.2.2.2.1) (fun e_ y_=>(e_.1,e_.2.1,e_.2.2.1,e_.2.2.2.1,e_.2.2.2.2.1,y_,e_.2.2.2.2.2.2.1,e_.2.2.2.2.2.2.2.1,e_.2.2.2.2.2.2.2.2.1,e_.2.2.2.2.2.2.2.2.2.1,e_.2.2.2.2.2.2.2.2.2.2.1,e_.2.2.2.2.2.2.2.2.2.2.2.1,e_.2.2.2.2.2.2.2.2.2.2.2.2.1,e_.2.2.2.2.2.2.2.2.2.2.2.2.2)) (Qm (α:=List Qr)) z10
 let z1:=nst Qv (0+(Int.toNat i)) (fun e_=>e_.2.2.2.2.2.2.1) (fun e_ y_=>(e_.1,e_.2.1,e_.2.2.1,e_.2.2.2.1,e_.2.2.2.2.1,e_.2.2.2.2.2.1,y_,e_.2.2.2.2.2.2.2.1,e_.2.2.2.2.2.2.2.2.1,e_.2.2.2.2.2.2.2.2.2.1,e_.2.2.2.2.2.2.2.2.2.2.1,e_.2.2.2.2.2.2.2.2.2.2.2.1,e_.2.2.2.2.2.2.2.2.2.2.2.2.1,e_.2.2.2.2.2.2.2.2.2.2.2.2.2)) (Qm (α:=List (List Int))) z7
 let z14:=Qm (α:=List Int)
 let z8:=nst Qv (0+(Int.toNat i)) (fun e_=>e_.2.2.2.2.2.2.2.1) (fun e_ y_=>(e_.1,e_.2.1,e_.2.2.1,e_.2.2.2.1,e_.2.2.2.2.1,e_.2.2.2.2.2.1,e_.2.2.2.2.2.2.1,y_,e_.2.2.2.2.2.2.2.2.1,e_.2.2.2.2.2.2.2.2.2.1,e_.2.2.2.2.2.2.2.2.2.2.1,e_.2.2.2.2.2.2.2.2.2.2.2.1,e_.2.2.2.2.2.2.2.2.2.2.2.2.1,e_.2.2.2.2.2.2.2.2.2.2.2.2.2)) z14 z1
 let z6:=nst Qv (0+(Int.toNat i)) (fun e_=>e_.2.2.2.2.2.2.2.2.1) (fun e_ y_=>(e_.1,e_.2.1,e_.2.2.1,e_.2.2.2.1,e_.2.2.2.2.1,e_.2.2.2.2.2.1,e_.2.2.2.2.2.2.1,e_.2.2.2.2.2.2.2.1,y_,e_.2.2.2.2.2.2.2.2.2.1,e_.2.2.2.2.2.2.2.2.2.2.1,e_.2.2.2.2.2.2.2.2.2.2.2.1,e_.2.2.2.2.2.2.2.2.2.2.2.2.1,e_.2.2.2.2.2.2.2.2.2.2.2.2.2)) z14 z8
 let z2:=nst Qv (0+(Int.toNat i)) (fun e_=>e_.2.2.2.2.2.2.2.2.2.1) (fun e_ y_=>(e_.1,e_.2.1,e_.2.2.1,e_.2.2.2.1,e_.2.2.2.2.1,e_.2.2.2.2.2.1,e_.2.2.2.2.2.2.1,e_.2.2.2.2.2.2.2.1,e_.2.2.2.2.2.2.2.2.1,y_,e_.2.2.2.2.2.2.2.2.2.2.1,e_.2.2.2.2.2.2.2.2.2.2.2.1,e_.2.2.2.2.2.2.2.2.2.2.2.2.1,e_.2.2.2.2.2.2.2.2.2.2.2.2.2)) z14 z6
 let z9:=nst Qv (0+(Int.toNat i)) (fun e_=>e_.2.2.2.2.2.2.2.2.2.2.1) (fun e_ y_=>(e_.1,e_.2.1,e_.2.2.1,e_.2.2.2.1,e_.2.2.2.2.1,e_.2.2.2.2.2.1,e_.2.2.2.2.2.2.1,e_.2.2.2.2.2.2.2.1,e_.2.2.2.2.2.2.2.2.1,e_.2.2.2.2.2.2.2.2.2.1,y_,e_.2.2.2.2.2.2.2.2.2.2.2.1,e_.2.2.2.2.2.2.2.2.2.2.2.2.1,e_.2.2.2.2.2.2.2.2.2.2.2.2.2)) z14 z2
 let z4:=nst Qv (0+(Int.toNat i)) (fun e_=>e_.2.2.2.2.2.2.2.2.2.2.2.1) (fun e_ y_=>(e_.1,e_.2.1,e_.2.2.1,e_.2.2.2.1,e_.2.2.2.2.1,e_.2.2.2.2.2.1,e_.2.2.2.2.2.2.1,e_.2.2.2.2.2.2.2.1,e_.2.2.2.2.2.2.2.2.1,e_.2.2.2.2.2.2.2.2.2.1,e_.2.2.2.2.2.2.2.2.2.2.1,y_,e_.2.2.2.2.2.2.2.2.2.2.2.2.1,e_.2.2.2.2.2.2.2.2.2.2.2.2.2)) (Qm (α:=List (List Int))) z9
 let z13:=sst Qv (0+(Int.toNat i)) (fun e_ k_=>(e_.1,e_.2.1,e_.2.2.1,e_.2.2.2.1,e_.2.2.2.2.1,e_.2.2.2.2.2.1,e_.2.2.2.2.2.2.1,e_.2.2.2.2.2.2.2.1,e_.2.2.2.2.2.2.2.2.1,e_.2.2.2.2.2.2.2.2.2.1,e_.2.2.2.2.2.2.2.2.2.2.1,e_.2.2.2.2.2.2.2.2.2.2.2.1,k_,e_.2.2.2.2.2.2.2.2.2.2.2.2.2)) z4
 (zif (decide (i<((a.length:Nat):Int))) ((((0:Int)≤i∧Int.toNat i<a.length)∧((0+(Int.toNat i))<a1.length))∧((((0:Int)≤i∧Int.toNat i<a.length)∧(((0+(Int.toNat i))<(z11.2).length)∧((0+(Int.toNat i))<(z11.2).length)))∧((((0:Int)≤i∧Int.toNat i<a.length)∧(((0+(Int.toNat i))<(z5.2).length)∧((0+(Int.toNat i))<(z5.2).length)))∧(((¬ ((3:Int):Int)=0)∧(((0:Int)≤i∧Int.toNat i<a.length)∧((0+(Int.toNat i))<(z12.2).length)))∧(((¬ ((3:Int):Int)=0)∧(((0:Int)≤i∧Int.toNat i<a.length)∧((0+(Int.toNat i))<(z3.2).length)))∧((((0:Int)≤i∧Int.toNat i<a.length)∧(((0+(Int.toNat i))<(z10.2).length)∧((0+(Int.toNat i))<(z10.2).length)))∧((((0:Int)≤i∧Int.toNat i<a.length)∧(((0+(Int.toNat i))<(z7.2).length)∧((0+(Int.toNat i))<(z7.2).length)))∧((((0:Int)≤i∧Int.toNat i<a.length)∧(((0+(Int.toNat i))<(z1.2).length)∧((0+(Int.toNat i))<(z1.2).length)))∧((((0:Int)≤i∧Int.toNat i<a.length)∧(((0+(Int.toNat i))<(z8.2).length)∧((0+(Int.toNat i))<(z8.2).length)))∧((((0:Int)≤i∧Int.toNat i<a.length)∧(((0+(Int.toNat i))<(z6.2).length)∧((0+(Int.toNat i))<(z6.2).length)))∧((((0:Int)≤i∧Int.toNat i<a.length)∧(((0+(Int.toNat i))<(z2.2).length)∧((0+(Int.toNat i))<(z2.2).length)))∧((((0:Int)≤i∧Int.toNat i<a.length)∧(((0+(Int.toNat i))<(z9.2).length)∧((0+(Int.toNat i))<(z9.2).length)))∧((((0:Int)≤i∧Int.toNat i<a.length)∧((0+(Int.toNat i))<(z4.2).length))∧(((¬ ((3:Int):Int)=0)∧(((0:Int)≤i∧Int.toNat i<a.length)∧((0+(Int.toNat i))<(z13.2).length)))∧(Qd6 K a (w64 ((w64 ((z4.1)+(1:Int)))+(1:Int))) (w64 (i+(1:Int))) ((sst Qv (0+(Int.toNat i)) (fun e_ k_=>(e_.1,e_.2.1,e_.2.2.1,e_.2.2.2.1,e_.2.2.2.2.1,e_.2.2.2.2.2.1,e_.2.2.2.2.2.2.1,e_.2.2.2.2.2.2.2.1,e_.2.2.2.2.2.2.2.2.1,e_.2.2.2.2.2.2.2.2.2.1,e_.2.2.2.2.2.2.2.2.2.2.1,e_.2.2.2.2.2.2.2.2.2.2.2.1,e_.2.2.2.2.2.2.2.2.2.2.2.2.1,((Int.tmod k_ (3:Int))==(0:Int)))) z13).2)))))))))))))))) (K (JC (k1,a1))))):Qd6 K a k1 i a1 :=
 Loop.of (by kernel_rfl) h
theorem Qxg (a:List Qc) (k:Int) (h :
 (Qd6 K a k 0 a)):Hold (tawp QeN (0+1) QsP (TQ 0 1 QrA K) (Qg [(.ow 0 Qo dw a),(.c TI k)])) :=
 Hold.of (by kernel_rfl) h
theorem QCB (a:List Qc) (k:Int):TCon Tryz.prog 95 [(.ow 0 Qo dw a),(.c TI k)] (JC (Qm (α:=List Qc) a k)):=by
 refine Qk rfl fun hb=>tcg (Γ:=QeN) (n:=120) (sg:=Qhm.sg) Ql (TOkL.cons Qxd (TOkL.cons QFH (TOkL.cons Qsw (TOkL.cons QpC (TOkL.cons QaR TOkL.nil))))) (by kernel_rfl) (by kernel_rfl) (Qxg _ a k ?_)
 have hl_a:a.length≤9223372036854775807:=hb.1.1
 refine YA (A:=fun kk ii ll=>Qd6 (fun r'=>r'=JC (Qm (α:=List Qc) a k)) a kk ii ll) (Q:=fun z=>JC z=JC (Qm (α:=List Qc) a k)) a k ?_ ?_ rfl
 ·intro kk pre post x hl hA
  have hlt:pre.length<a.length:=by omega
  have hw:w64 (((pre.length:Nat):Int)+1)=((pre.length+1:Nat):Int):=by rw [Qw (by omega) (by omega)];omega
  refine Qj5 (fun r'=>r'=JC (Qm (α:=List Qc) a k)) a kk ((pre.length:Nat):Int) (pre++x::post) ?_
  conv=>zeta
  refine ⟨fun _=>?_,fun h=>absurd h (by simp;omega)⟩
  simp only [Int.toNat_natCast,Nat.zero_add,Y0,YQ,ZZ,YK,hw,lt_f,hlt,Yo,and_true,true_and,Int.natCast_nonneg]
  exact hA
 ·intro kk l hl hq
  refine Qj5 (fun r'=>r'=JC (Qm (α:=List Qc) a k)) a kk ((a.length:Nat):Int) l ?_
  conv=>zeta
  exact ⟨fun h=>absurd h (by simp),fun _=>hq⟩
theorem Qv6:Qj Tryz.prog Qhm:=Qn fun x _=>QCB x.1 x.2.1
end
end Go.Proofs.YtdplaepmjogjjaaGreat.Am

