/-
  Written by program: the code of functions, what it asks, and that it comes to what the models say.
-/
import Derived.Test.YtjbdljkhbglnhaaGreatZED1
import Derived.Test.YtjbdljkhbglnhaaGreatZED6
import Derived.Test.YtjbdljkhbglnhaaGreatZEP7
import Derived.Test.YtjbdljkhbglnhaaGreatZED7
import Derived.Test.YtjbdljkhbglnhaaGreatZEPQ
import Derived.Test.YtjbdljkhbglnhaaGreatZEPR
import Derived.Test.YtjbdljkhbglnhaaGreatZEPA
import Derived.Test.YtjbdljkhbglnhaaGreatZEPU
import Derived.Test.YtjbdljkhbglnhaaGreatZEKL
namespace Go.Proofs.YtjbdljkhbglnhaaGreat.Am
open Go Go.RowKit Go.Proofs.YtjbdljkhbglnhaaGreat
set_option linter.all false
set_option maxHeartbeats 2000000
noncomputable section
variable (K:TRes→Prop)
def JQ (t:Bool):TRes:=zre (zcb t)
def QGH:TRow:=Qk 4 [(.c (.sl [(.int .u8)]))] fun x=>(some (QnT x.1),JQ (Qck x.1))
def Qd0:List TRow:=[Qn9,QkM,QgL,Qk8,QpH,Qia,QmE,QmV,QqG,QoD,Qnb,Qe1,Qpw]
def Qwr:TCode :=
 (zsq [(zsq [(.reg [zmv 53 9,zmv 54 8,zbi 55 .lss 53 54]),(.cond 55 .skip (.exit 2))]),(.block 3 (zsq [(.draw [zLd 58 6 4,zmv 59 7,zmv 60 8,zia 61 59 60 [TI],zld 62 61 1,zca 63 33 [58,62],zop 10 (.new 37 (z0s QF)),zst 10 63 4] [(0,6),(3,6),(4,6),(5,6)]),(.draw [zLd 64 6 4,zmv 65 7,zmv 66 9,zia 67 65 66 [TI],zld 68 67 1,zca 69 33 [64,68],zop 11 (.new 37 (z0s QF)),zst 11 69 4] [(0,6),(3,6),(4,6),(5,6)]),(.draw [zLd 70 10 4,zmv 71 7,zmv 72 9,zia 73 71 72 [TI],zld 74 73 1,zca 75 34 [70,74],zno 76 75,zmv 77 76,.grp 77 false [zLd 78 11 4,zmv 79 7,zmv 80 8,zia 81 79 80 [TI],zld 82 81 1,zca 83 34 [78,82],zno 84 83] 85 84,zmv 86 85,.grp 86 false [zLd 87 10 4,zmv 88 7,zmv 89 9,zia 90 88 89 [TI],zld 91 90 1,zca 92 33 [87,91],zLd 93 11 4,zmv 94 7,zmv 95 8,zia 96 94 95 [TI],zld 97 96 1,zca 98 33 [93,97],zca 99 35 [92,98],zno 100 99] 101 100] [(22,23),(22,26),(22,27)]),(.cond 101 (zsq [(.reg [zmv 2 (zkb false)]),.ret]) .skip)])),(.reg [zmv 56 9,zbi 57 .add 56 (zki 1),zmv 9 57])])
def Qvc:List (Nat × Md):=[(6,.b (zds 4)),(7,.one .d),(8,.one .d),(9,.one .d)]
def QxJ:TCode :=
 (.reg [zmv 51 8,zbi 52 .add 51 (zki 1),zmv 8 52])
def QnN:TCode :=
 (zsq [(zsq [(.reg [zmv 47 8,zmv 48 7,zle 49 48,zbi 50 .lss 47 49]),(.cond 50 .skip (.exit 0))]),(.block 1 (zsq [(.reg [zmv 9 (zki 0)]),(.block 2 (.loop Qvc Qwr))])),QxJ])
def Qjj:List (Nat × Md):=[(6,.b (zds 4)),(7,.one .d),(8,.one .d)]
def Qwy:TCode :=
 (zsq [(.reg [zmv 2 (zkb true)]),.ret])
def QUB:TCode :=
 (zsq [(.reg [zmv 2 (zkb false)]),(zsq [(.reg [zmv 12 0,zca 13 13 [12]]),(.cond 13 (zsq [(.reg [zmv 2 (zkb true)]),.ret]) .skip)]),(.reg [zmv 15 0,zca 16 14 [15],zmv 14 16,zex 17 14 0,zex 18 14 1,zop 3 (.new 30 (z0s ZL)),zst 3 17 6,zmv 4 18]),(zsq [(.reg [zLd 19 3 6,zmv 20 4,zca 21 16 [19,20],zbi 22 .neq 21 (zki 0)]),(.cond 22 (zsq [(.reg [zmv 2 (zkb true)]),.ret]) .skip)]),(.reg [zmv 23 0,zfa 24 3 3,zld 25 24 1,zle 26 25,zca 27 18 [23,26],zmv 5 27]),(.reg [zLd 28 3 6,zmv 29 4,zca 30 28 [28,29],zmv 31 5,zmv 32 0,zca 33 29 [32,(zki 0)],zmv 34 5,zle 35 34,zbi 36 .mul 33 35,zbi 37 .quo 36 (zki 1020),zop 38 (.slc 31 none (some 37) [TI]),zca 39 27 [30,38],zop 6 (.new 37 (z0s QF)),zst 6 39 4]),(.reg [zLd 40 6 4,zca 41 30 [40],zmv 7 41]),(zsq [(.reg [zLd 42 6 4,zca 43 32 [42],zmv 44 7,zca 45 31 [43,44],zno 46 45]),(.cond 46 (zsq [(.reg [zmv 2 (zkb false)]),.ret]) .skip)]),(zsq [(.reg [zmv 8 (zki 0)]),(.block 0 (.loop Qjj QnN))]),Qwy])
def QAu:List (ARv × Md):=[(.t 2,.one .d)]
def QAi:Qb:=TQ 0 0 QAu K
def QWl:Qb:=Qseq (tawp Qd0 0 Qwy (QAi K)) (QAi K)
def QkX:Qb:=Qblk 0 (QWl K)
def QsQ:Qb:=Qseq (fun s'=>Loop Qd0 0 Qjj QnN (QkX K) (gc 0 Qjj s')) (QkX K)
def QJ8:Qb:=Qseq (tawp Qd0 0 QxJ (QsQ K)) (QsQ K)
def QXO:Qb:=Qblk 1 (QJ8 K)
def QPl:Qb:=Qblk 2 (QXO K)
def QhL (code:List Int) (k:Int) (i:Int):Prop:=let z2:=Z4 ((Yh code).1) ((Yh code).2)
 let z3:=QaN code ((((Yh code).1).2.2.2.1).length:Int)
 let z1:=Jq (z2.1,(List.take ((z2.2.1).length) (List.drop 0 (z2.2.1))),(List.take ((z2.2.2.1).length) (List.drop 0 (z2.2.2.1))),z2.2.2.2) (List.take (Int.toNat (w64 (Int.tdiv (w64 ((m_at code (0:Int))*(z3.length:Int))) (1020:Int)))-Int.toNat (0:Int)) (List.drop (Int.toNat (0:Int)) z3))
 Loop Qd0 0 Qvc Qwr (QPl K) ⟨[(6,(.p 0 0 0)),(7,(zcs [TI] (ZM z1))),(8,(zci i)),(9,(zci k))],[(0,(.box (Tup.cells QF z1)))],1⟩
def QjU (code:List Int) (i:Int):Prop:=let z2:=Z4 ((Yh code).1) ((Yh code).2)
 let z3:=QaN code ((((Yh code).1).2.2.2.1).length:Int)
 let z1:=Jq (z2.1,(List.take ((z2.2.1).length) (List.drop 0 (z2.2.1))),(List.take ((z2.2.2.1).length) (List.drop 0 (z2.2.2.1))),z2.2.2.2) (List.take (Int.toNat (w64 (Int.tdiv (w64 ((m_at code (0:Int))*(z3.length:Int))) (1020:Int)))-Int.toNat (0:Int)) (List.drop (Int.toNat (0:Int)) z3))
 Loop Qd0 0 Qjj QnN (QkX K) ⟨[(6,(.p 0 0 0)),(7,(zcs [TI] (ZM z1))),(8,(zci i))],[(0,(.box (Tup.cells QF z1)))],1⟩
theorem QEl (code:List Int) (k:Int) (i:Int) (h :
 let z4:=Z4 ((Yh code).1) ((Yh code).2)
 let z6:=QaN code ((((Yh code).1).2.2.2.1).length:Int)
 let z1:=Jq (z4.1,(List.take ((z4.2.1).length) (List.drop 0 (z4.2.1))),(List.take ((z4.2.2.1).length) (List.drop 0 (z4.2.2.1))),z4.2.2.2) (List.take (Int.toNat (w64 (Int.tdiv (w64 ((m_at code (0:Int))*(z6.length:Int))) (1020:Int)))-Int.toNat (0:Int)) (List.drop (Int.toNat (0:Int)) z6))
 let z5:=ZM z1
 let z2:=gtd (0:Int) z5 (Int.toNat i)
 let z3:=gtd (0:Int) z5 (Int.toNat k)
 let z7:=Za (Zd z1 z2) z3
 (zif (decide (k<i)) ((((0:Int)≤i∧Int.toNat i<z5.length)∧(JC z1 z2))∧((((0:Int)≤k∧Int.toNat k<z5.length)∧(JC z1 z3))∧((((0:Int)≤k∧Int.toNat k<z5.length)∧(((!(!z7))=true→((0:Int)≤i∧Int.toNat i<z5.length))∧((!((!z7)||(!(Za (Zd z1 z3) z2))))=true→(((0:Int)≤k∧Int.toNat k<z5.length)∧((JC (Zd z1 z2) z3)∧(((0:Int)≤i∧Int.toNat i<z5.length)∧((JC (Zd z1 z3) z2)∧(Qhz (Zd (Zd z1 z2) z3) (Zd (Zd z1 z3) z2)))))))))∧(zif (((!z7)||(!(Za (Zd z1 z3) z2)))||(!(m_eq (α:=Qe) (Zd (Zd z1 z2) z3) (Zd (Zd z1 z3) z2)))) (K (JQ false)) (QhL K code (w64 (k+(1:Int))) i))))) (QjU K code (w64 (i+(1:Int)))))):QhL K code k i :=
 Loop.of (by kernel_rfl) h
theorem QyB (code:List Int) (i:Int) (h :
 (zif (decide (i<((ZM (Jq ((Z4 ((Yh code).1) ((Yh code).2)).1,(List.take (((Z4 ((Yh code).1) ((Yh code).2)).2.1).length) (List.drop 0 ((Z4 ((Yh code).1) ((Yh code).2)).2.1))),(List.take (((Z4 ((Yh code).1) ((Yh code).2)).2.2.1).length) (List.drop 0 ((Z4 ((Yh code).1) ((Yh code).2)).2.2.1))),(Z4 ((Yh code).1) ((Yh code).2)).2.2.2) (List.take (Int.toNat (w64 (Int.tdiv (w64 ((m_at code (0:Int))*((QaN code ((((Yh code).1).2.2.2.1).length:Int)).length:Int))) (1020:Int)))-Int.toNat (0:Int)) (List.drop (Int.toNat (0:Int)) (QaN code ((((Yh code).1).2.2.2.1).length:Int)))))).length:Int))) (QhL K code 0 i) (K (JQ true)))):QjU K code i :=
 Loop.of (by kernel_rfl) h
theorem QLM (code:List Int) (h :
 let z6:=Yh code
 let z2:=Z4 (z6.1) (z6.2)
 let z4:=QaN code (((z6.1).2.2.2.1).length:Int)
 let z3:=Int.tdiv (w64 ((m_at code (0:Int))*(z4.length:Int))) (1020:Int)
 let z5:=List.take (Int.toNat (w64 z3)-Int.toNat (0:Int)) (List.drop (Int.toNat (0:Int)) z4)
 let z7:=List.take ((z2.2.2.1).length) (List.drop 0 (z2.2.2.1))
 let z8:=List.take ((z2.2.1).length) (List.drop 0 (z2.2.1))
 let z1:=Jq (z2.1,z8,z7,z2.2.2.2) z5
 (zif (Qgm code) (K (JQ true)) ((J9 code)∧(zif ((Z8 (z6.1) (z6.2)) != (0:Int)) (K (JQ true)) (((p_at code (0:Int))∧((¬ ((1020:Int):Int)=0)∧(((0:Int)≤(0:Int)∧(0:Int)≤w64 z3∧w64 z3≤(z4.length:Int))∧(QjN (z2.1,z8,z7,z2.2.2.2) z5))))∧((Qu (α:=Qe) z1)∧((Qu (α:=Qe) z1)∧(zif (!(m_eq (α:=List Int) (ZM z1) (ZM z1))) (K (JQ false)) (QjU K code 0))))))))):Hold (tawp Qd0 (0+0) QUB (TQ 0 0 QAu K) (Qg [(.c (.sl [(.int .u8)]) code)])) :=
 Hold.of (by kernel_rfl) h
theorem l_FnDiamond_h (code:List Int) (hp:QnT code):TCon Tryz.prog 4 [(.c (.sl [(.int .u8)]) code)] (JQ (Qck code)):=by
 refine Qo rfl fun hb=>tcg (n:=102) (sg:=QGH.sg) Qm (TOk.cons QWI (TOk.cons QVq (TOk.cons Qr9 (TOk.cons QOy (TOk.cons QJr (TOk.cons QDd (TOk.cons QQC (TOk.cons QLB (TOk.cons QSO (TOk.cons QME (TOk.cons QLA (TOk.cons QmF (TOk.cons QJb TOk.nil))))))))))))) (by kernel_rfl) (by kernel_rfl) (QLM _ code ?_)
 have hl_code:code.length≤9223372036854775807:=hb.1.1
 conv=>zeta
 refine ⟨fun _=>R_eq rfl,fun hb=>?_⟩
 have hn:=QTx hb
 obtain ⟨⟨c,b⟩,hr⟩:∃ r,Yh code=r:=⟨_,rfl⟩
 rw [hr]
 simp only [JI,Prod.eta]
 refine ⟨hn,fun h=>R_eq rfl,fun h=>?_⟩
 have h0:Z8 c b=0:=by simpa using h
 have A:=QnM h0
 have h1:=QPp c b
 have hns:=Qir A
 have hpk:=QXa code (c.2.2.2.1.length:Int)
 obtain ⟨l,hl⟩:∃ l,QaN code (c.2.2.2.1.length:Int)=l:=⟨_,rfl⟩
 rw [hl] at hpk ⊢
 have hpk:l.length≤60:=hpk
 have hat:=QUj hp hn (i:=0) (by omega) (by omega)
 have hml:0≤m_at code 0*(l.length:Int)∧m_at code 0*(l.length:Int)≤255*(l.length:Int):=⟨Int.mul_nonneg hat.1 (by omega),Int.mul_le_mul_of_nonneg_right hat.2 (by omega)⟩
 have hq1:0≤Int.tdiv (m_at code 0*(l.length:Int)) 1020:=Int.tdiv_nonneg hml.1 (by omega)
 have hq2:Int.tdiv (m_at code 0*(l.length:Int)) 1020≤l.length:=by
  rw [Int.tdiv_eq_ediv_of_nonneg hml.1];omega
 have hw:w64 (Int.tdiv (w64 (m_at code 0*(l.length:Int))) 1020)=Int.tdiv (m_at code 0*(l.length:Int)) 1020:=by
  rw [Qr (x:=m_at code 0*(l.length:Int)) (by omega) (by omega),Qr (by omega) (by omega)]
 rw [hw]
 obtain ⟨l2,hl2⟩:∃ l2,List.take (Int.toNat (Int.tdiv (m_at code 0*(l.length:Int)) 1020)-Int.toNat 0) (List.drop (Int.toNat 0) l)=l2:=⟨_,rfl⟩
 rw [hl2]
 have h2:=QOs (Z4 c b) l2
 obtain ⟨ks,V,hk,_⟩:=QPF A l2
 rw [hk] at h2 ⊢
 have hlen:(Ze c b ks).2.1.length=nSt c:=Qc5 ks
 have hwl:=QV1 (p:=Ze c b ks)
 refine ⟨⟨Int.le_refl 0,by decide,⟨by omega,hq1,hq2⟩,by unfold QjN;omega⟩,by unfold Qu;omega,by unfold Qu;omega,fun h=>by simp [m_eq] at h,fun _=>?_⟩
 refine Y4 (ZM (Ze c b ks)).length (fun i=>QjU (fun r'=>r'=JQ (Qck code)) code (i:Int)) ?_ ?_
 ·refine QyB (fun r'=>r'=JQ (Qck code)) code _ ?_
  rw [hr]
  simp only [JI,Prod.eta]
  rw [hl,hw,hl2,hk]
  exact ⟨fun h=>by simp at h,fun _=>R_eq rfl⟩
 ·intro i hi ih
  refine QyB (fun r'=>r'=JQ (Qck code)) code _ ?_
  rw [hr]
  simp only [JI,Prod.eta]
  rw [hl,hw,hl2,hk]
  refine ⟨fun _=>?_,fun h=>by simp at h;omega⟩
  obtain ⟨s,es,hs,Es⟩:=Qzv A hi
  have hzs:=Qgf (Ze c b ks) (s:Int)
  refine Y4 i (fun k=>QhL (fun r'=>r'=JQ (Qck code)) code (k:Int) (i:Int)) ?_ ?_
  ·refine QEl (fun r'=>r'=JQ (Qck code)) code _ _ ?_
   conv=>zeta
   rw [hr]
   simp only [JI,Prod.eta]
   rw [hl,hw,hl2,hk,sc1 (k:=i) (by omega)]
   exact ⟨fun h=>by simp at h,fun _=>ih⟩
  ·intro k hki ih2
   refine QEl (fun r'=>r'=JQ (Qck code)) code _ _ ?_
   conv=>zeta
   rw [hr]
   simp only [JI,Prod.eta]
   rw [hl,hw,hl2,hk,Int.toNat_natCast,Int.toNat_natCast,sc1 (k:=k) (by omega)]
   obtain ⟨t,et,ht,Et⟩:=Qzv A (show k<(ZM (Ze c b ks)).length by omega)
   have hlt:=QMv hki hi
   rw [es,et] at hlt ⊢
   have hzt:=Qgf (Ze c b ks) (t:Int)
   have hd1:=Qub A V hs ht (by omega) Es Et
   have hd2:=Qub A V ht hs (by omega) Et Es
   have hzst:=Qgf (Zd (Ze c b ks) (s:Int)) (t:Int)
   rw [hd1.1,hd2.1,hd1.2]
   rw [hd1.2] at hzst
   refine ⟨fun _=>⟨⟨⟨by omega,by omega⟩,by unfold JC;omega⟩,⟨⟨by omega,by omega⟩,by unfold JC;omega⟩,⟨⟨by omega,by omega⟩,fun _=>⟨by omega,by omega⟩,fun _=>⟨⟨by omega,by omega⟩,by unfold JC;omega,⟨by omega,by omega⟩,by unfold JC;omega,by unfold Qhz;omega⟩⟩,fun h=>by simp [m_eq] at h,fun _=>ih2⟩,fun h=>by simp at h;omega⟩
end
end Go.Proofs.YtjbdljkhbglnhaaGreat.Am

