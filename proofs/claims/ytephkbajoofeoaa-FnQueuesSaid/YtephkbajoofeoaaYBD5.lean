/- -/
import Derived.Test.YtephkbajoofeoaaYBD1
import Derived.Test.YtephkbajoofeoaaYBD2
import Derived.Test.YtephkbajoofeoaaYBPO
import Derived.Test.YtephkbajoofeoaaYBG9
namespace Go.Proofs.Ytephkbajoofeoaa.Am
open Go Go.RowKit Go.Proofs.Ytephkbajoofeoaa
set_option linter.all false
set_option maxHeartbeats 2000000
noncomputable section
variable (K:TRes→Prop)
def Zl (t:Qb × (((List Int) × Int × Int))):TRes:=⟨(.a [(zci t.1.1),(zcs Qd t.1.2)]),[],[[(zcs [(.int .u8)] t.2.1),(zci t.2.2.1),(zci t.2.2.2)]],true,[]⟩
def ZC (x0:((List Int) × Int × Int)):Qb × (((List Int) × Int × Int)):=Classical.epsilon fun t:Qb × (((List Int) × Int × Int))=>(Yj x0 t)∧TCon Try.prog 115 [(.bx [(.c (.sl [(.int .u8)]) x0.1),(.c TI x0.2.1),(.c TI x0.2.2)])] (Zl t)
def Qa8:TRow:=Qr 115 [(.b [(.sl [(.int .u8)]),TI,TI])] fun x=>(some (Qj x.1),Zl (ZC x.1))
def QaY:List TRow:=[ZV,Jz,QaF,YC,JO]
def Qcz:TCode :=
 (zsq [(zsq [(.reg [zmv 13 4,zbi 14 .gtr 13 (zki 0)]),(.cond 14 .skip (.exit 0))]),(.block 1 (zsq [(.draw [zLd 18 3 2,zmv 19 0,zca 20 116 [19,(zki 5)],zmv 21 0,zmv 22 0,zca 23 116 [22,(zki 3)],zbi 24 .add (zki 1) 23,zca 25 181 [21,24],zop 26 (.build (z0s Qd) [(0,1,20),(1,1,25)]),zca 27 36 [18,26],zmv 17 27,zex 28 17 0,zex 29 17 1,zop 5 (.new 36 (z0s Qu)),zst 5 28 2,zmv 6 29] [(0,2),(0,5),(0,7),(0,13),(2,13),(5,13),(7,13),(9,13)]),(.reg [zLd 30 5 2,zst 3 30 2])])),(.reg [zmv 15 4,zbi 16 .sub 15 (zki 1),zmv 4 16])])
def QfG:List (Nat × Md):=[(0,.b [.d,.d,.d]),(2,.b [.d,.d]),(3,.b [.d,.o 39]),(4,.one .d)]
def QcJ:TCode :=
 (zsq [(zsq [(.reg [zmv 31 0,zca 32 116 [31,(zki 14)]]),(.block 2 (zsq [(.reg [zbi 34 .eql 32 (zki 0),zmv 33 34]),(.cond 33 (.reg [zmv 35 0,zop 36 (.bsl 3 [TI] [(zki 0),(zki 5),(zki 6)]),zca 37 182 [35,36],zfa 38 3 0,zst 38 37 1]) (zsq [(.reg [zbi 40 .eql 32 (zki 1),zmv 39 40]),(.cond 39 (.draw [zfa 41 3 1,zld 42 41 1,zmv 43 0,zca 44 116 [43,(zki 7)],zbi 45 .sub 44 (zki 1),zmv 46 0,zca 47 117 [46],zop 48 (.build (z0s Qd) [(0,1,45),(1,1,47)]),zop 49 (.bsl 39 Qd [48]),zop 50 (.app 42 49 39 Qd),zfa 51 3 1,zst 51 50 1] [(0,3),(1,3),(0,6),(1,6),(0,8),(1,8)]) .skip)]))]))]),(.reg [zLd 52 3 2,zst 2 52 2]),.ret])
def QhJ:TCode :=
 (zsq [(.reg [zop 2 (.new 36 (z0s Qu))]),(.reg [zmv 7 0,zca 8 116 [7,(zki 3)],zbi 9 .add (zki 1) 8,zop 10 (.build (z0s Qu) [(0,1,9)]),zop 3 (.new 36 (z0s Qu)),zst 3 10 2]),(zsq [(.reg [zmv 11 0,zca 12 116 [11,(zki 4)],zmv 4 12]),(.block 0 (.loop QfG Qcz))]),QcJ])
def Qd8:List (ARv × Md):=[(.l 2 2 true,.b [.d,.d])]
def QcQ:Qi:=TQ 1 0 Qd8 K
def QjX:Qi:=Qseq (tawp QaY 1 QcJ (QcQ K)) (QcQ K)
def QkN:Qi:=Qblk 0 (QjX K)
def Qan (n:Int) (c0:List Int) (c1:Int) (c2:Int) (q1:List Qg) (q0:Int):Prop:=Loop QaY 1 QfG Qcz (QkN K) ⟨[(0,(.p 0 0 0)),(2,(.p 1 0 0)),(3,(.p 3 0 0)),(4,(zci n))],[(0,(.box [(zcs [(.int .u8)] c0),(zci c1),(zci c2)])),(1,(.box [(zci 0),(zcs Qd ([]))])),(2,(.sl 39 Qd true q1)),(3,(.box [(zci q0),(.r Qd 2 0 q1.length)]))],4⟩
theorem QeZ (n:Int) (c0:List Int) (c1:Int) (c2:Int) (q1:List Qg) (q0:Int) (h :
 let z2:=Qe (c0,c1,c2) (14:Int)
 let z4:=Qe (c0,c1,c2) (5:Int)
 let z5:=List.take q1.length (List.drop 0 q1)
 let z6:=Qe (z4.2) (3:Int)
 let z1:=Zk (z6.2) (w64 ((1:Int)+(z6.1)))
 let z7:=Qe (z2.2) (7:Int)
 let z8:=List.take ((z1.1).length) (List.drop 0 (z1.1))
 let z3:=QQ (q0,z5) (z4.1,z8)
 (zif (decide (n>(0:Int))) (((QF (c0,c1,c2) (5:Int))∧((QF (z4.2) (3:Int))∧((Zv (z6.2) (w64 ((1:Int)+(z6.1))))∧(Zx (α:=Qb) (β:=Qg) (q0,z5) (z4.1,z8)))))∧(Qan K (w64 (n-(1:Int))) ((z1.2).1) ((z1.2).2.1) ((z1.2).2.2) (List.take (((z3.1).2).length) ((z3.1).2)) ((z3.1).1))) ((QF (c0,c1,c2) (14:Int))∧(zif ((z2.1)==(0:Int)) ((QY (z2.2) ([(0:Int),(5:Int),(6:Int)]))∧K (Zl (((QG (z2.2) ([(0:Int),(5:Int),(6:Int)])).1,z5),((QG (z2.2) ([(0:Int),(5:Int),(6:Int)])).2)))) (zif ((z2.1)==(1:Int)) (((QF (z2.2) (7:Int))∧((Qj (z7.2))∧((q1.length=q1.length∨q1.length+1≤q1.length)∧q1.length+1≤big)))∧K (Zl ((q0,(List.take (q1.length+1) (List.drop 0 ((List.take q1.length q1)++([(w64 ((z7.1)-(1:Int)),(YH (z7.2)).1)]))))),((YH (z7.2)).2)))) (K (Zl ((q0,z5),(z2.2))))))))):Qan K n c0 c1 c2 q1 q0 :=
 Loop.of (by kernel_rfl) h
theorem Qka (c:((List Int) × Int × Int)) (h :
 ((QF c (3:Int))∧((QF ((Qe c (3:Int)).2) (4:Int))∧(Qan K ((Qe ((Qe c (3:Int)).2) (4:Int)).1) (((Qe ((Qe c (3:Int)).2) (4:Int)).2).1) (((Qe ((Qe c (3:Int)).2) (4:Int)).2).2.1) (((Qe ((Qe c (3:Int)).2) (4:Int)).2).2.2) ([]:List Qg) (w64 ((1:Int)+((Qe c (3:Int)).1))))))):Hold (tawp QaY (1+0) QhJ (TQ 1 0 Qd8 K) (Ql [(.bx [(.c (.sl [(.int .u8)]) c.1),(.c TI c.2.1),(.c TI c.2.2)])])) :=
 Hold.of (by kernel_rfl) h
theorem QcG (c:((List Int) × Int × Int)) (hp:Qj c):∃ t:Qb × (((List Int) × Int × Int)),(Yj c t)∧TCon Try.prog 115 [(.bx [(.c (.sl [(.int .u8)]) c.1),(.c TI c.2.1),(.c TI c.2.2)])] (Zl t):=by
 refine Zj (tcx (n:=53) (sg:=Qa8.sg) Qv (TOk.cons YM (TOk.cons Qdy (TOk.cons Qke (TOk.cons Qad (TOk.cons Qcn TOk.nil))))) (by kernel_rfl) (by kernel_rfl) (Qka (fun r'=>∃ t,(Yj c t)∧r'=Zl t) c ?_))
 have b1:=QW c 3 hp
 have b2:=QW _ 4 b1.2.2.2
 have h1:=b1.1
 have h2:=b1.2.1 (by omega)
 have h3:=b2.1
 have h4:=b2.2.1 (by omega)
 refine ⟨hp,b1.2.2.2,?_⟩
 have eta3:∀ t:TCur,(t.1,t.2.1,t.2.2)=t:=fun _=>rfl
 have key:∀ (k:Nat) (t:TCur) (q1:List Qg) (q0:Int),Qj t→q1.length+k≤3→q0≤6→(∀ x,x∈q1→x.2.length≤7)→Qan (fun r'=>∃ t,(Yj c t)∧r'=Zl t) (k:Int) t.1 t.2.1 t.2.2 q1 q0:=by
  intro k
  induction k with
  | zero =>
   intro t q1 q0 hc k1 k2 k3
   have b:=(QW t 14 hc).2.2.2
   refine QeZ (fun r'=>∃ t,(Yj c t)∧r'=Zl t) _ _ _ _ _ _ ⟨fun h=>by simp at h,fun _=>⟨hc,?_⟩⟩
   simp only [eta3,List.drop_zero,Qaq]
   simp only [List.take_length]
   have hpk:QY (Qe t 14).2 [0,5,6]:=⟨b,by simp,by simp⟩
   have b4:=YY _ _ hpk
   have b5:=b4.1
   simp only [List.mem_cons,List.not_mem_nil,or_false] at b5
   have b6:=(QW (Qe t 14).2 7 b).2.2.2
   have b7:=QeG _ b6
   refine ⟨fun _=>⟨hpk,QK ⟨⟨by simp only;omega,by simp only;omega,k3⟩,b4.2⟩⟩,fun _=>⟨fun _=>⟨⟨b,b6,by simp [ZY];omega⟩,QK ⟨⟨?_,k2,?_⟩,b7.2⟩⟩,fun _=>QK ⟨⟨by simp only;omega,k2,k3⟩,b⟩⟩⟩
   ·simp;omega
   ·intro y hy
    rcases List.mem_append.1 hy with hy | hy
    ·exact k3 y hy
    ·rw [List.mem_singleton.1 hy];exact b7.1
  | succ k ih =>
   intro t q1 q0 hc k1 k2 k3
   have b:=(QW t 5 hc).2.2.2
   have b3:=QW _ 3 b
   have h5:=b3.1
   have h6:=b3.2.1 (by omega)
   have hv:Zv (Qe (Qe t 5).2 3).2 (w64 (1+(Qe (Qe t 5).2 3).1)):=⟨b3.2.2.2,by rw [QE (by omega) (by omega)];omega⟩
   have b4:=Qb5 _ _ hv
   have h7':∀ n:Nat,n=(w64 (1+(Qe (Qe t 5).2 3).1)).toNat→n≤3:=by
    intro n hn
    rw [hn,QE (by omega) (by omega)];omega
   have h7:=h7' _ b4.1
   refine QeZ (fun r'=>∃ t,(Yj c t)∧r'=Zl t) _ _ _ _ _ _ ⟨fun _=>?_,fun h=>by simp at h <;> omega⟩
   simp only [eta3,QcC]
   have h8:=Qf1 (q:=(q0,q1)) (x:=((Qe t 5).1,(Zk (Qe (Qe t 5).2 3).2 (w64 (1+(Qe (Qe t 5).2 3).1))).1)) (n:=q1.length) (Nat.le_refl _) k3 (by simp only;omega)
   refine ⟨⟨hc,b,hv,?_⟩,?_⟩
   ·have h9:=Qcf k3
    have h10:=ZU (Zk (Qe (Qe t 5).2 3).2 (w64 (1+(Qe (Qe t 5).2 3).1))).1
    unfold Zx
    simp only [Qfs,Q7]
    omega
   ·rw [List.take_length,QE (x:=((k+1:Nat):Int)-1) (by omega) (by omega),show ((k+1:Nat):Int)-1=k by omega]
    exact ih _ _ _ b4.2.2 (by have:=h8.1;omega) (by rw [h8.2.1];exact k2) h8.2.2
 have h:=key (Qe (Qe c 3).2 4).1.toNat (Qe (Qe c 3).2 4).2 [] (w64 (1+(Qe c 3).1)) b2.2.2.2 (by simp;omega) (by rw [QE (by omega) (by omega)];omega) (by simp)
 rw [Int.toNat_of_nonneg (by omega)] at h
 exact h
theorem Qhy (c:((List Int) × Int × Int)) (hp:Qj c):Yj c (ZC c):=(Classical.epsilon_spec (QcG c hp)).1
theorem QhE (c:((List Int) × Int × Int)) (hp:Qj c):TCon Try.prog 115 [(.bx [(.c (.sl [(.int .u8)]) c.1),(.c TI c.2.1),(.c TI c.2.2)])] (Zl (ZC c)):=(Classical.epsilon_spec (QcG c hp)).2
theorem Qjs:Qq Try.prog Qa8:=Qy fun x h=>QhE x.1 h
def YA (t:Qb × Qg):TRes:=zra (.tp [(.a [(zci t.1.1),(zcs Qd t.1.2)]),(.a [(zci t.2.1),(zcs [TI] t.2.2)])])
def QS (x0:List Int):Qb × Qg:=Classical.epsilon fun t:Qb × Qg=>(J1 x0 t)∧TCon Try.prog 27 [(.c (.sl [(.int .u8)]) x0)] (YA t)
def QbX:TRow:=Qr 27 [(.c (.sl [(.int .u8)]))] fun x=>(some (Zf x.1),YA (QS x.1))
def Qkb:List TRow:=[Qcd,Qa8,ZV,JO]
def Qgk:TCode :=
 (zsq [(.reg [zop 2 (.new 36 (z0s Qu)),zop 3 (.new 39 (z0s Qd))]),(.reg [zmv 6 0,zca 7 114 [6],zmv 4 7]),(.reg [zmv 8 4,zca 9 115 [8],zop 5 (.new 36 (z0s Qu)),zst 5 9 2]),(.draw [zLd 10 5 2,zmv 11 4,zca 12 116 [11,(zki 7)],zbi 13 .sub 12 (zki 1),zmv 14 4,zca 15 117 [14],zop 16 (.build (z0s Qd) [(0,1,13),(1,1,15)]),zst 2 10 2,zst 3 16 2] [(0,2),(0,5)]),.ret])
def Qi2:List (ARv × Md):=[(.l 2 2 true,.b [.d,.d]),(.l 3 2 true,.b [.d,.d])]
theorem Qf7 (code:List Int) (h :
 ((Zf code)∧((Qj (Zs code))∧(((QF ((ZC (Zs code)).2) (7:Int))∧(Qj ((Qe ((ZC (Zs code)).2) (7:Int)).2)))∧K (YA (((ZC (Zs code)).1),(w64 (((Qe ((ZC (Zs code)).2) (7:Int)).1)-(1:Int)),(YH ((Qe ((ZC (Zs code)).2) (7:Int)).2)).1))))))):Hold (tawp Qkb (0+0) Qgk (TQ 0 0 Qi2 K) (Ql [(.c (.sl [(.int .u8)]) code)])) :=
 Hold.of (by kernel_rfl) h
theorem QdZ (code:List Int) (hp:Zf code):∃ t:Qb × Qg,(J1 code t)∧TCon Try.prog 27 [(.c (.sl [(.int .u8)]) code)] (YA t):=by
 refine Zj (tcx (n:=17) (sg:=QbX.sg) Qv (TOk.cons Qi3 (TOk.cons Qjs (TOk.cons YM (TOk.cons Qcn TOk.nil)))) (by kernel_rfl) (by kernel_rfl) (Qf7 (fun r'=>∃ t,(J1 code t)∧r'=YA t) code ?_))
 have hc:=QkZ code hp
 have b1:=Qhy _ hc
 have b2:=(QW (ZC (Zs code)).2 7 b1.2).2.2.2
 exact ⟨hp,hc,⟨b1.2,b2⟩,QK ⟨b1.1,(QeG _ b2).1⟩⟩
theorem QiK (code:List Int) (hp:Zf code):J1 code (QS code):=(Classical.epsilon_spec (QdZ code hp)).1
theorem Qhm (code:List Int) (hp:Zf code):TCon Try.prog 27 [(.c (.sl [(.int .u8)]) code)] (YA (QS code)):=(Classical.epsilon_spec (QdZ code hp)).2
theorem Qi0:Qq Try.prog QbX:=Qy fun x h=>Qhm x.1 h
end
end Go.Proofs.Ytephkbajoofeoaa.Am

