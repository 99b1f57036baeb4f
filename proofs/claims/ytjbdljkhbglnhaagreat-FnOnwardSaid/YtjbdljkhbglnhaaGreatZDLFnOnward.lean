/-
  Written by program: the code of functions, what it asks, and that it comes to what the models say.
-/
import Derived.Test.YtjbdljkhbglnhaaGreatZDD1
import Derived.Test.YtjbdljkhbglnhaaGreatZDD6
import Derived.Test.YtjbdljkhbglnhaaGreatZDP7
import Derived.Test.YtjbdljkhbglnhaaGreatZDPQ
import Derived.Test.YtjbdljkhbglnhaaGreatZDD7
import Derived.Test.YtjbdljkhbglnhaaGreatZDPR
import Derived.Test.YtjbdljkhbglnhaaGreatZDPB
import Derived.Test.YtjbdljkhbglnhaaGreatZDPA
import Derived.Test.YtjbdljkhbglnhaaGreatZDPU
import Derived.Test.YtjbdljkhbglnhaaGreatZDP9
import Derived.Test.YtjbdljkhbglnhaaGreatZDKL
namespace Go.Proofs.YtjbdljkhbglnhaaGreat.Am
open Go Go.RowKit Go.Proofs.YtjbdljkhbglnhaaGreat
set_option linter.all false
set_option maxHeartbeats 2000000
noncomputable section
variable (K:TRes→Prop)
def QaW (t:Bool):TRes:=zre (zcb t)
def QFX:TRow:=Qj 5 [(.c (.sl [(.int .u8)]))] fun x=>(none,QaW (QeL x.1))
def Qpx:List TRow:=[QoQ,QpN,Qj2,QqM,Qlz,QqC,QnG,Qmf,QpR,QoA,Qgb,QmM,Qqw,Qi5,Qhz]
def QsA:TCode :=
 (zsq [(zsq [(.reg [zmv 47 7,zfa 48 5 1,zld 49 48 1,zle 50 49,zbi 51 .lss 47 50]),(.cond 51 .skip (.exit 0))]),(.block 1 (zsq [(.reg [zLd 54 5 4,zmv 55 7,zca 56 33 [54,55],zop 8 (.new 37 (z0s QE)),zst 8 56 4]),(.reg [zLd 57 5 4,zmv 58 7,zca 59 34 [57,58],zmv 9 59]),(.draw [zmv 60 9,zmv 61 6,zmv 62 7,zca 63 37 [61,62],zop 64 (.eqb true 60 63),zmv 65 64,.grp 65 false [zmv 66 9,zmv 67 66,.grp 67 true [zLd 68 8 4,zca 69 36 [68],zLd 70 5 4,zca 71 36 [70],zbi 72 .sub 71 (zki 1),zbi 73 .neq 69 72] 74 73] 75 74,zmv 76 75,.grp 76 false [zmv 77 9,zno 78 77,zmv 79 78,.grp 79 true [zLd 80 8 4,zLd 81 5 4,zca 82 35 [80,81],zno 83 82] 84 83] 85 84,zmv 86 85,.grp 86 false [zLd 87 8 4,zca 88 38 [87],zno 89 88] 90 89] [(9,10)]),(.cond 90 (zsq [(.reg [zmv 2 (zkb false)]),.ret]) .skip)])),(.reg [zmv 52 7,zbi 53 .add 52 (zki 1),zmv 7 53])])
def QCq:List (Nat × Md):=[(5,.b (zds 4)),(6,.one .d),(7,.one .d)]
def QuW:TCode :=
 (zsq [(.draw [zLd 91 5 4,zca 92 39 [91],zLd 93 5 4,zca 94 36 [93],zbi 95 .eql 92 94,zmv 2 95] [(1,2)]),.ret])
def QRH:TCode :=
 (zsq [(.reg [zmv 2 (zkb false)]),(zsq [(.reg [zmv 10 0,zca 11 13 [10]]),(.cond 11 (zsq [(.reg [zmv 2 (zkb true)]),.ret]) .skip)]),(.reg [zmv 13 0,zca 14 14 [13],zmv 12 14,zex 15 12 0,zex 16 12 1,zop 3 (.new 30 (z0s ZL)),zst 3 15 6,zmv 4 16]),(zsq [(.reg [zLd 17 3 6,zmv 18 4,zca 19 16 [17,18],zbi 20 .neq 19 (zki 0)]),(.cond 20 (zsq [(.reg [zmv 2 (zkb true)]),.ret]) .skip)]),(.draw [zLd 21 3 6,zmv 22 4,zca 23 28 [21,22],zmv 24 0,zfa 25 3 3,zld 26 25 1,zle 27 26,zca 28 18 [24,27],zca 29 27 [23,28],zop 5 (.new 37 (z0s QE)),zst 5 29 4] [(2,4),(2,5),(2,6),(0,9),(2,9),(4,9),(5,9),(6,9),(7,9),(8,9)]),(.reg [zLd 30 5 4,zca 31 32 [30],zmv 6 31]),(zsq [(.draw [zmv 32 6,zle 33 32,zbi 34 .eql 33 (zki 0),zLd 35 5 4,zca 36 36 [35],zbi 37 .eql 36 (zki 0),zop 38 (.eqb true 34 37),zmv 39 38,.grp 39 false [zLd 40 5 4,zca 41 23 [40],zLd 42 5 4,zca 43 36 [42],zbi 44 .eql 43 (zki 0),zop 45 (.eqb true 41 44)] 46 45] [(1,4),(9,10)]),(.cond 46 (zsq [(.reg [zmv 2 (zkb false)]),.ret]) .skip)]),(zsq [(.reg [zmv 7 (zki 0)]),(.block 0 (.loop QCq QsA))]),QuW])
def Qsi:List (ARv × Md):=[(.t 2,.one .d)]
def QrP:Qb:=TQ 0 0 Qsi K
def QIG:Qb:=Qseq (tawp Qpx 0 QuW (QrP K)) (QrP K)
def QVj:Qb:=Qblk 0 (QIG K)
def Qin (code:List Int) (s:Int):Prop:=let z1:=YJ ((QaT code).1) ((QaT code).2)
 let z2:=JO (z1.1,(List.take ((z1.2.1).length) (List.drop 0 (z1.2.1))),(List.take ((z1.2.2.1).length) (List.drop 0 (z1.2.2.1))),z1.2.2.2) (QdG code ((((QaT code).1).2.2.2.1).length:Int))
 Loop Qpx 0 QCq QsA (QVj K) ⟨[(5,(.p 0 0 0)),(6,(zcs [TI] (Je z2))),(7,(zci s))],[(0,(.box (Tup.cells QE z2)))],1⟩
theorem QxE (code:List Int) (s:Int) (h :
 let z2:=YJ ((QaT code).1) ((QaT code).2)
 let z1:=JO (z2.1,(List.take ((z2.2.1).length) (List.drop 0 (z2.2.1))),(List.take ((z2.2.2.1).length) (List.drop 0 (z2.2.2.1))),z2.2.2.2) (QdG code ((((QaT code).1).2.2.2.1).length:Int))
 let z3:=Zu z1 s
 let z4:=Qba (Je z1) s
 (zif (decide (s<((z1.2.1).length:Int))) ((Qbe z1 s)∧((((!(!(z3==z4)))=true→(z3=true→((Qco (Zy z1 s))∧(Qco z1))))∧((!((!(z3==z4))||(z3&&((ZW (Zy z1 s)) != (w64 ((ZW z1)-(1:Int)))))))=true→((!z3)=true→(Qkh (Zy z1 s) z1))))∧(zif ((((!(z3==z4))||(z3&&((ZW (Zy z1 s)) != (w64 ((ZW z1)-(1:Int))))))||((!z3)&&(!(m_eq (α:=Qe) (Zy z1 s) z1))))||(!(Zi (Zy z1 s)))) (K (QaW false)) (Qin K code (w64 (s+(1:Int))))))) ((Qco z1)∧K (QaW ((ZW z1)==(ZW z1)))))):Qin K code s :=
 Loop.of (by kernel_rfl) h
theorem QP2 (code:List Int) (h :
 let z3:=QaT code
 let z2:=YJ (z3.1) (z3.2)
 let z4:=List.take ((z2.2.2.1).length) (List.drop 0 (z2.2.2.1))
 let z5:=List.take ((z2.2.1).length) (List.drop 0 (z2.2.1))
 let z6:=QdG code (((z3.1).2.2.2.1).length:Int)
 let z1:=JO (z2.1,z5,z4,z2.2.2.2) z6
 (zif (Qf1 code) (K (QaW true)) ((Qaq code)∧(zif ((Z5 (z3.1) (z3.2)) != (0:Int)) (K (QaW true)) ((Qkg (z2.1,z5,z4,z2.2.2.2) z6)∧((Qu (α:=Qe) z1)∧(((Qco z1)∧((!(!((((Je z1).length:Int)==(0:Int))==((ZW z1)==(0:Int)))))=true→(Qco z1)))∧(zif ((!((((Je z1).length:Int)==(0:Int))==((ZW z1)==(0:Int))))||(!((QcY z1)==((ZW z1)==(0:Int))))) (K (QaW false)) (Qin K code 0))))))))):Hold (tawp Qpx (0+0) QRH (TQ 0 0 Qsi K) (Qh [(.c (.sl [(.int .u8)]) code)])) :=
 Hold.of (by kernel_rfl) h
theorem l_FnOnward_h (code:List Int):TCon Tryz.prog 5 [(.c (.sl [(.int .u8)]) code)] (QaW (QeL code)):=by
 refine Qo rfl fun hb=>tcg (n:=96) (sg:=QFX.sg) Ql (TOk.cons QXs (TOk.cons QTW (TOk.cons Qz7 (TOk.cons QHf (TOk.cons QSG (TOk.cons QKj (TOk.cons QGA (TOk.cons QWK (TOk.cons QFz (TOk.cons QFJ (TOk.cons QlE (TOk.cons QUS (TOk.cons QFu (TOk.cons QCn (TOk.cons QvX TOk.nil))))))))))))))) (by kernel_rfl) (by kernel_rfl) (QP2 _ code ?_)
 have hl_code:code.length≤9223372036854775807:=hb.1.1
 conv=>zeta
 refine ⟨fun _=>R_eq rfl,fun hb=>?_⟩
 have hn:=QRj hb
 obtain ⟨⟨c,b⟩,hr⟩:∃ r,QaT code=r:=⟨_,rfl⟩
 rw [hr]
 simp only [Qam,Prod.eta]
 refine ⟨hn,fun h=>R_eq rfl,fun h=>?_⟩
 have h0:Z5 c b=0:=by simpa using h
 have A:=Qo1 h0
 have h1:=QZh c b
 obtain ⟨l,hl⟩:∃ l,QdG code (c.2.2.2.1.length:Int)=l:=⟨_,rfl⟩
 rw [hl]
 have h2:=QXX (YJ c b) l
 obtain ⟨ks,V,hk,_⟩:=QUn A l
 have hp:=Qwk A V
 have hm:=QnN A V
 have hd:=QV0 A V
 have hw:=QOn A V
 have hns:=Qb6 A
 have hlen:(Q8 c b ks).2.1.length=nSt c:=Qcf ks
 rw [hk] at h2 ⊢
 have e1:(((Je (Q8 c b ks)).length:Int)==0)=(ZW (Q8 c b ks)==0):=by
  rw [hm,Bool.eq_iff_iff,beq_iff_eq,beq_iff_eq];omega
 have e2:QcY (Q8 c b ks)=(ZW (Q8 c b ks)==0):=by
  rw [hd,hm,Bool.eq_iff_iff,decide_eq_true_iff,beq_iff_eq];omega
 refine ⟨by unfold Qkg;omega,by unfold Qu;omega,⟨hp,fun _=>hp⟩,fun h=>?_,fun _=>?_⟩
 ·rw [e1,e2] at h;simp at h
 refine Jb (nSt c) (fun s=>Qin (fun r'=>r'=QaW (QeL code)) code (s:Int)) ?_ ?_
 ·refine QxE (fun r'=>r'=QaW (QeL code)) code _ ?_
  conv=>zeta
  rw [hr]
  simp only [Qam,Prod.eta]
  rw [hl,hk,hlen]
  refine ⟨fun h=>?_,fun _=>⟨hp,R_eq ?_⟩⟩
  ·simp at h
  ·simp [QeL]
 ·intro s hs ih
  refine QxE (fun r'=>r'=QaW (QeL code)) code _ ?_
  conv=>zeta
  rw [hr]
  simp only [Qam,Prod.eta]
  rw [hl,hk,hlen,sc1 (by omega),QK8 A hs]
  by_cases E:En c b ks s
  ·have hen:=(Qei A V hs).2 E
   have hx:=Qz1 A V hs E
   have V':=Qml A V hs E
   have hpo:=Qj0 A V'
   have hl2:ZW (Q8 c b (bump ks s))=w64 (ZW (Q8 c b ks)-1):=by
    have h3:=QVp hs E.1 (b:=b)
    have h4:=Qv7 A (ks:=ks)
    rw [QnN A V',hm,Qt (by omega) (by omega)];omega
   rw [hx,hen,hl2,hpo]
   refine ⟨fun _=>⟨by unfold Qbe;omega,⟨fun _ _=>⟨Qwk A V',hp⟩,fun _ h=>by simp at h⟩,fun h=>by simp at h,fun _=>ih⟩,fun h=>by simp at h;omega⟩
  ·have hen:Zu (Q8 c b ks) (s:Int)=false:=Bool.eq_false_iff.2 fun h=>E ((Qei A V hs).1 h)
   have hx:=Qx8 A V hs E
   rw [hx,hen,Qj0 A V]
   refine ⟨fun _=>⟨by unfold Qbe;omega,⟨fun _ h=>by simp at h,fun _ _=>by unfold Qkh;omega⟩,fun h=>by simp [m_eq] at h,fun _=>ih⟩,fun h=>by simp at h;omega⟩
end
end Go.Proofs.YtjbdljkhbglnhaaGreat.Am

