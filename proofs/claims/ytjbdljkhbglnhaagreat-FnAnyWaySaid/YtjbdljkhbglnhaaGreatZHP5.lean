/- -/
import Derived.Test.YtjbdljkhbglnhaaGreatZHP4
import Derived.Test.YtjbdljkhbglnhaaGreatZHP1
namespace Go.Proofs.YtjbdljkhbglnhaaGreat.Am
open Go Go.RowKit Go.Proofs.YtjbdljkhbglnhaaGreat
set_option linter.all false
noncomputable section
variable (K:TRes→Prop)
def Qoa (t:Bool):TRes:=zre (zcb t)
def Qor:TRow:=Qg 167 [(.a [(.sl ctOp)]),(.a QB)] fun x=>(none,Qoa (Yn x.1 x.2.1))
def QRu:List TRow:=[J6,Qdr,JA,Qdk]
def QPB:TCode :=
 (zsq [(.reg [zop 2 (.box 26 0 1),zop 3 (.box 108 1 2),zmv 4 (zkb false)]),(.draw [zLd 5 2 1,zca 6 131 [5],zmv 7 6,.grp 7 true [zfa 8 3 0,zld 9 8 1,zLd 10 2 1,zca 11 115 [10],zca 12 114 [9,11]] 13 12,zmv 14 13,.grp 14 true [zfa 15 3 1,zld 16 15 1,zLd 17 2 1,zca 18 117 [17],zca 19 114 [16,18]] 20 19,zmv 4 20] [(3,6),(4,6),(10,13),(11,13)]),.ret])
def QNm:List (ARv × Md):=[(.t 4,.one .d)]
theorem QNf (m:List TOp') (p:Qd) (h :
 K (Qoa (((Qw m)&&(Qs p.1 (QX m)))&&(Qs p.2 (Q1 m))))):Hold (tawp QRu (0+0) QPB (TQ 0 0 QNm K) (Qf [(.a [(.c (.sl ctOp) m)]),(.a [(.c (.sl [TI]) p.1),(.c (.sl [TI]) p.2)])])) :=
 Hold.of (by kernel_rfl) h
theorem QQp (m:List TOp') (p:Qd):TCon Tryz.prog 167 [(.a [(.c (.sl ctOp) m)]),(.a [(.c (.sl [TI]) p.1),(.c (.sl [TI]) p.2)])] (Qoa (Yn m p)):=by
 refine Qq rfl fun hb=>tcg (n:=21) (sg:=Qor.sg) Qj (TOk.cons QaP (TOk.cons QhR (TOk.cons Qao (TOk.cons Qgb TOk.nil)))) (by kernel_rfl) (by kernel_rfl) (QNf _ m p ?_)
 have hl_m_0:(m).length≤9223372036854775807:=hb.1.1.1
 have hl_p_0:(p.1).length≤9223372036854775807:=hb.2.1.1.1
 have hl_p_1:(p.2).length≤9223372036854775807:=hb.2.1.2.1.1
 exact R_eq rfl
theorem QH5:Qh Tryz.prog Qor:=Qk fun x _=>QQp x.1 x.2.1
def Qb0 (t:Bool):TRes:=zre (zcb t)
def QlR:TRow:=Qg 75 [(.a [(.sl ctOp)]),(.c (.sl QB))] fun x=>(none,Qb0 (ZC x.1 x.2.1))
def Qnn:List TRow:=[QbH,Jz,QnH,Qif,Qig]
def Qsp:TCode :=
 (zsq [(zsq [(.reg [zmv 15 5,zmv 16 1,zle 17 16,zbi 18 .lss 15 17]),(.cond 18 .skip (.exit 0))]),(.block 1 (zsq [(.draw [zmv 21 1,zmv 22 5,zia 23 21 22 QB,zfa 24 23 0,zld 25 24 1,zca 26 42 [25],zno 27 26,zmv 28 27,.grp 28 false [zmv 29 1,zmv 30 5,zia 31 29 30 QB,zfa 32 31 1,zld 33 32 1,zca 34 42 [33],zno 35 34] 36 35,zmv 37 36,.grp 37 false [zmv 38 1,zmv 39 5,zia 40 38 39 QB,zfa 41 40 0,zld 42 41 1,zle 43 42,zLd 44 2 1,zca 45 153 [44],zbi 46 .neq 43 45] 47 46,zmv 48 47,.grp 48 false [zmv 49 1,zmv 50 5,zia 51 49 50 QB,zfa 52 51 1,zld 53 52 1,zle 54 53,zLd 55 2 1,zca 56 154 [55],zbi 57 .neq 54 56] 58 57] [(19,24),(20,24),(21,24),(22,24),(30,35),(31,35),(32,35),(33,35)]),(.cond 58 (zsq [(.reg [zmv 4 (zkb false)]),.ret]) .skip)])),(.reg [zmv 19 5,zbi 20 .add 19 (zki 1),zmv 5 20])])
def Qzg:List (Nat × Md):=[(1,.one .d),(2,.b [.d]),(5,.one .d)]
def Qyp:TCode :=
 (zsq [(.reg [zmv 4 (zkb true)]),.ret])
def QG7:TCode :=
 (zsq [(.reg [zop 2 (.box 26 0 1),zmv 4 (zkb false)]),(zsq [(.reg [zLd 6 2 1,zca 7 74 [6],zno 8 7,zmv 9 8,.grp 9 false [zmv 10 1,zle 11 10,zca 12 77 [11,(zki 1),(zki 5)],zno 13 12] 14 13]),(.cond 14 (zsq [(.reg [zmv 4 (zkb false)]),.ret]) .skip)]),(zsq [(.reg [zmv 5 (zki 0)]),(.block 0 (.loop Qzg Qsp))]),Qyp])
def Qwp:List (ARv × Md):=[(.t 4,.one .d)]
def QwO:Qb:=TQ 0 0 Qwp K
def QBu:Qb:=Qseq (tawp Qnn 0 Qyp (QwO K)) (QwO K)
def QNT:Qb:=Qblk 0 (QBu K)
def Qg6 (m:List TOp') (b:List Qd) (i:Int):Prop:=Loop Qnn 0 Qzg Qsp (QNT K) ⟨[(1,(zcs QB b)),(2,(.p 0 0 0)),(5,(zci i))],[(0,(.box [(zcs ctOp m)]))],1⟩
theorem QqG (m:List TOp') (b:List Qd) (i:Int) (h :
 (zif (decide (i<(b.length:Int))) ((((0:Int)≤i∧Int.toNat i<b.length)∧(((!(!(Q8 ((gtd Zn b (Int.toNat i)).1))))=true→((0:Int)≤i∧Int.toNat i<b.length))∧(((!((!(Q8 ((gtd Zn b (Int.toNat i)).1)))||(!(Q8 ((gtd Zn b (Int.toNat i)).2)))))=true→((0:Int)≤i∧Int.toNat i<b.length))∧((!(((!(Q8 ((gtd Zn b (Int.toNat i)).1)))||(!(Q8 ((gtd Zn b (Int.toNat i)).2))))||((((gtd Zn b (Int.toNat i)).1).length:Int) != (QX m))))=true→((0:Int)≤i∧Int.toNat i<b.length)))))∧(zif ((((!(Q8 ((gtd Zn b (Int.toNat i)).1)))||(!(Q8 ((gtd Zn b (Int.toNat i)).2))))||((((gtd Zn b (Int.toNat i)).1).length:Int) != (QX m)))||((((gtd Zn b (Int.toNat i)).2).length:Int) != (Q1 m))) (K (Qb0 false)) (Qg6 K m b (w64 (i+(1:Int)))))) (K (Qb0 true)))):Qg6 K m b i :=
 Loop.of (by kernel_rfl) h
theorem QNd (m:List TOp') (b:List Qd) (h :
 (zif ((!(Qw m))||(!(m_in (b.length:Int) (1:Int) (5:Int)))) (K (Qb0 false)) (Qg6 K m b 0))):Hold (tawp Qnn (0+0) QG7 (TQ 0 0 Qwp K) (Qf [(.a [(.c (.sl ctOp) m)]),(.c (.sl QB) b)])) :=
 Hold.of (by kernel_rfl) h
theorem QFq (m:List TOp') (b:List Qd):TCon Tryz.prog 75 [(.a [(.c (.sl ctOp) m)]),(.c (.sl QB) b)] (Qb0 (ZC m b)):=by
 refine Qq rfl fun hb=>tcg (n:=59) (sg:=QlR.sg) Qj (TOk.cons Qd8 (TOk.cons JU (TOk.cons QHL (TOk.cons Qvd (TOk.cons Qun TOk.nil))))) (by kernel_rfl) (by kernel_rfl) (QNd _ m b ?_)
 have hl_m_0:(m).length≤9223372036854775807:=hb.1.1.1
 have hl_b:b.length≤9223372036854775807:=hb.2.1.1
 refine ⟨fun h=>R_eq (by grind [ZC,m_in]),fun h=>?_⟩
 refine ZL b (fun r k=>r.all (Yn m)=b.all (Yn m)→Qg6 (fun r'=>r'=Qb0 (ZC m b)) m b k) ?_ ?_ rfl
 ·intro he
  refine QqG (fun r'=>r'=Qb0 (ZC m b)) m b _ ⟨fun h=>by simp at h,fun _=>?_⟩
  grind [ZC]
 ·intro k x r hk hlt hg ih he
  refine QqG (fun r'=>r'=Qb0 (ZC m b)) m b _ ⟨fun _=>?_,fun h=>by simp at h;omega⟩
  rw [Int.toNat_natCast,hg,Qo (x:=(k:Int)+1) (by omega) (by omega)]
  have e:(!(Q8 x.1)||!(Q8 x.2)||((x.1.length:Int) != QX m)||((x.2.length:Int) != Q1 m)) = !Yn m x:=by grind [Yn,Qs]
  rw [e]
  grind [ZC]
theorem QKj:Qh Tryz.prog QlR:=Qk fun x _=>QFq x.1 x.2.1
def QbM (t:Bool):TRes:=zre (zcb t)
def QmZ:TRow:=Qg 87 [(.a [(.sl ctOp)]),(.c (.sl QB))] fun x=>(none,QbM (ZC x.1 x.2.1))
def Qns:List TRow:=[J6,Qor]
def Qpa:TCode :=
 (zsq [(.reg [zbi 23 .lss 22 21]),(.cond 23 .skip (.exit 0)),(.block 1 (zsq [(.reg [zia 24 20 22 QB,zLd 25 24 2,zop 6 (.new 108 (z0s QB)),zst 6 25 2]),(.reg [zLd 26 2 1,zLd 27 6 2,zca 28 167 [26,27],zno 29 28]),(.cond 29 (zsq [(.reg [zmv 4 (zkb false)]),.ret]) .skip)])),(.reg [zbi 30 .add 22 (zki 1),zmv 22 30])])
def Qrr:List (Nat × Md):=[(2,.b [.d]),(20,.one .d),(21,.one .d),(22,.one .d)]
def QyI:TCode :=
 (zsq [(.reg [zmv 4 (zkb true)]),.ret])
def QGO:TCode :=
 (zsq [(.reg [zop 2 (.box 26 0 1),zmv 4 (zkb false)]),(zsq [(.reg [zLd 7 2 1,zca 8 131 [7],zno 9 8,zmv 10 9,.grp 10 false [zmv 11 1,zle 12 11,zbi 13 .lss 12 (zki 1)] 14 13,zmv 15 14,.grp 15 false [zmv 16 1,zle 17 16,zbi 18 .gtr 17 (zki 5)] 19 18]),(.cond 19 (zsq [(.reg [zmv 4 (zkb false)]),.ret]) .skip)]),(zsq [(.reg [zmv 20 1,zle 21 20,zmv 22 (zki 0)]),(.block 0 (.loop Qrr Qpa))]),QyI])
def Qt9:List (ARv × Md):=[(.t 4,.one .d)]
def Qt0:Qb:=TQ 0 0 Qt9 K
def QHp:Qb:=Qseq (tawp Qns 0 QyI (Qt0 K)) (Qt0 K)
def QEG:Qb:=Qblk 0 (QHp K)
def Qj3 (m:List TOp') (b:List Qd) (x:Int):Prop:=Loop Qns 0 Qrr Qpa (QEG K) ⟨[(2,(.p 0 0 0)),(20,(zcs QB b)),(21,(zci (b.length:Int))),(22,(zci x))],[(0,(.box [(zcs ctOp m)]))],1⟩
theorem QF4 (m:List TOp') (b:List Qd) (x:Int) (h :
 (zif (decide (x<(b.length:Int))) (((0:Int)≤x∧Int.toNat x<b.length)∧(zif (!(Yn m (gtd Zn b (Int.toNat x)))) (K (QbM false)) (Qj3 K m b (w64 (x+(1:Int)))))) (K (QbM true)))):Qj3 K m b x :=
 Loop.of (by kernel_rfl) h
theorem QLF (m:List TOp') (b:List Qd) (h :
 (zif (((!(Qw m))||(decide ((b.length:Int)<(1:Int))))||(decide ((b.length:Int)>(5:Int)))) (K (QbM false)) (Qj3 K m b 0))):Hold (tawp Qns (0+0) QGO (TQ 0 0 Qt9 K) (Qf [(.a [(.c (.sl ctOp) m)]),(.c (.sl QB) b)])) :=
 Hold.of (by kernel_rfl) h
theorem QGl (m:List TOp') (b:List Qd):TCon Tryz.prog 87 [(.a [(.c (.sl ctOp) m)]),(.c (.sl QB) b)] (QbM (ZC m b)):=by
 refine Qq rfl fun hb=>tcg (n:=31) (sg:=QmZ.sg) Qj (TOk.cons QaP (TOk.cons QH5 TOk.nil)) (by kernel_rfl) (by kernel_rfl) (QLF _ m b ?_)
 have hl_m_0:(m).length≤9223372036854775807:=hb.1.1.1
 have hl_b:b.length≤9223372036854775807:=hb.2.1.1
 refine ⟨fun h=>R_eq (by grind [ZC,m_in]),fun h=>?_⟩
 exact Qb3 (Q:=fun x=>QbM x=QbM (ZC m b)) (p:=Yn m) (c:=fun x=>!(Yn m x)) Zn hl_b (fun _=>rfl) (fun i h=>QF4 (fun r'=>r'=QbM (ZC m b)) m b i h) (R_eq (by grind [ZC,m_in]))
theorem QF7:Qh Tryz.prog QmZ:=Qk fun x _=>QGl x.1 x.2.1
def QcL (t:Bool):TRes:=zre (zcb t)
def QeA:TRow:=Qg 76 [(.a [(.sl ctOp)]),(.c (.sl [TI]))] fun x=>(none,QcL (Q0 x.1 x.2.1))
def Qjg:List TRow:=[Jz,QbH]
def QwP:TCode :=
 (zsq [(zsq [(.reg [zmv 6 5,zmv 7 1,zle 8 7,zbi 9 .lss 6 8]),(.cond 9 .skip (.exit 0))]),(.block 1 (zsq [(.draw [zmv 12 1,zmv 13 5,zia 14 12 13 [TI],zld 15 14 1,zfa 16 2 0,zld 17 16 1,zle 18 17,zbi 19 .sub 18 (zki 1),zca 20 77 [15,(zki 1),19],zno 21 20,zmv 22 21,.grp 22 false [zmv 23 5,zbi 24 .gtr 23 (zki 0),zmv 25 24,.grp 25 true [zmv 26 1,zmv 27 5,zia 28 26 27 [TI],zld 29 28 1,zmv 30 1,zmv 31 5,zbi 32 .sub 31 (zki 1),zia 33 30 32 [TI],zld 34 33 1,zbi 35 .leq 29 34] 36 35] 37 36] []),(.cond 37 (zsq [(.reg [zmv 4 (zkb false)]),.ret]) .skip)])),(.reg [zmv 10 5,zbi 11 .add 10 (zki 1),zmv 5 11])])
def QvC:List (Nat × Md):=[(1,.one .d),(2,.b [.d]),(5,.one .d)]
def QwV:TCode :=
 (zsq [(.reg [zLd 38 2 1,zca 39 74 [38],zmv 4 39]),.ret])
def QBr:TCode :=
 (zsq [(.reg [zop 2 (.box 26 0 1),zmv 4 (zkb false)]),(zsq [(.reg [zmv 5 (zki 0)]),(.block 0 (.loop QvC QwP))]),QwV])
def Qxg:List (ARv × Md):=[(.t 4,.one .d)]
def QpK:Qb:=TQ 0 0 Qxg K
def QPt:Qb:=Qseq (tawp Qjg 0 QwV (QpK K)) (QpK K)
def QLB:Qb:=Qblk 0 (QPt K)
def Qir (m:List TOp') (cuts:List Int) (i:Int):Prop:=Loop Qjg 0 QvC QwP (QLB K) ⟨[(1,(zcs [TI] cuts)),(2,(.p 0 0 0)),(5,(zci i))],[(0,(.box [(zcs ctOp m)]))],1⟩
theorem QrF (m:List TOp') (cuts:List Int) (i:Int) (h :
 (zif (decide (i<(cuts.length:Int))) ((((0:Int)≤i∧Int.toNat i<cuts.length)∧((!(!(m_in (gtd (0:Int) cuts (Int.toNat i)) (1:Int) (w64 ((m.length:Int)-(1:Int))))))=true→((decide (i>(0:Int)))=true→(((0:Int)≤i∧Int.toNat i<cuts.length)∧((0:Int)≤w64 (i-(1:Int))∧Int.toNat (w64 (i-(1:Int)))<cuts.length)))))∧(zif ((!(m_in (gtd (0:Int) cuts (Int.toNat i)) (1:Int) (w64 ((m.length:Int)-(1:Int)))))||((decide (i>(0:Int)))&&(decide ((gtd (0:Int) cuts (Int.toNat i))≤(gtd (0:Int) cuts (Int.toNat (w64 (i-(1:Int))))))))) (K (QcL false)) (Qir K m cuts (w64 (i+(1:Int)))))) (K (QcL (Qw m))))):Qir K m cuts i :=
 Loop.of (by kernel_rfl) h
theorem QDk (m:List TOp') (cuts:List Int) (h :
 (Qir K m cuts 0)):Hold (tawp Qjg (0+0) QBr (TQ 0 0 Qxg K) (Qf [(.a [(.c (.sl ctOp) m)]),(.c (.sl [TI]) cuts)])) :=
 Hold.of (by kernel_rfl) h
theorem QGN (m:List TOp') (cuts:List Int):TCon Tryz.prog 76 [(.a [(.c (.sl ctOp) m)]),(.c (.sl [TI]) cuts)] (QcL (Q0 m cuts)):=by
 refine Qq rfl fun hb=>tcg (n:=40) (sg:=QeA.sg) Qj (TOk.cons JU (TOk.cons Qd8 TOk.nil)) (by kernel_rfl) (by kernel_rfl) (QDk _ m cuts ?_)
 have hl_m_0:(m).length≤9223372036854775807:=hb.1.1.1
 have hl_cuts:cuts.length≤9223372036854775807:=hb.2.1.1
 refine ZL cuts (fun r k=>ZR (m.length-1) (Qaz cuts k) r=ZR (m.length-1) none cuts→Qir (fun r'=>r'=QcL (Q0 m cuts)) m cuts k) ?_ ?_ rfl
 ·intro he
  refine QrF (fun r'=>r'=QcL (Q0 m cuts)) m cuts _ ⟨fun h=>by simp at h,fun _=>?_⟩
  grind [ZR,Q0]
 ·intro k x r hk hlt hg ih he
  refine QrF (fun r'=>r'=QcL (Q0 m cuts)) m cuts _ ⟨fun _=>?_,fun h=>by simp at h;omega⟩
  rw [Int.toNat_natCast,hg,Qo (x:=(k:Int)+1) (by omega) (by omega),Qo (x:=(m.length:Int)-1) (by omega) (by omega)]
  have ep:Qaz cuts (k+1)=some x:=by simp [Qaz,hg]
  rw [ep] at ih
  rcases Nat.eq_zero_or_pos k with h0 | h0
  ·subst h0
   simp only [ZR,Qaz,if_true] at he
   grind [Q0]
  ·have e2:=QcP h0 (by omega:k≤9223372036854775807)
   simp only [ZR,Qaz,if_neg (Nat.ne_of_gt h0)] at he
   grind [Q0]
theorem Qkg:Qh Tryz.prog QeA:=Qk fun x _=>QGN x.1 x.2.1
def QbO (t:Bool):TRes:=zre (zcb t)
def Qhd:TRow:=Qg 136 [(.a [(.sl ctOp)]),(.c (.sl [TI]))] fun x=>(none,QbO (Q0 x.1 x.2.1))
def Qjk:List TRow:=[J6]
def Qu9:TCode :=
 (zsq [(.reg [zbi 13 .lss 12 11]),(.cond 13 .skip (.exit 0)),(.block 1 (zsq [(.reg [zmv 14 12,zia 15 10 12 [TI],zld 16 15 1,zmv 5 14,zmv 6 16]),(.reg [zmv 17 6,zbi 18 .lss 17 (zki 1),zmv 19 18,.grp 19 false [zmv 20 6,zfa 21 2 0,zld 22 21 1,zle 23 22,zbi 24 .sub 23 (zki 1),zbi 25 .gtr 20 24] 26 25,zmv 27 26,.grp 27 false [zmv 28 5,zbi 29 .gtr 28 (zki 0),zmv 30 29,.grp 30 true [zmv 31 1,zmv 32 5,zbi 33 .sub 32 (zki 1),zia 34 31 33 [TI],zld 35 34 1,zmv 36 6,zbi 37 .geq 35 36] 38 37] 39 38]),(.cond 39 (zsq [(.reg [zmv 4 (zkb false)]),.ret]) .skip)])),(.reg [zbi 40 .add 12 (zki 1),zmv 12 40])])
def QrA:List (Nat × Md):=[(1,.one .d),(2,.b [.d]),(10,.one .d),(11,.one .d),(12,.one .d)]
def Qve:TCode :=
 (zsq [(.reg [zmv 4 (zkb true)]),.ret])
def QK1:TCode :=
 (zsq [(.reg [zop 2 (.box 26 0 1),zmv 4 (zkb false)]),(zsq [(.reg [zLd 7 2 1,zca 8 131 [7],zno 9 8]),(.cond 9 (zsq [(.reg [zmv 4 (zkb false)]),.ret]) .skip)]),(zsq [(.reg [zmv 10 1,zle 11 10,zmv 12 (zki 0)]),(.block 0 (.loop QrA Qu9))]),Qve])
def Qpo:List (ARv × Md):=[(.t 4,.one .d)]
def Qsc:Qb:=TQ 0 0 Qpo K
def QQN:Qb:=Qseq (tawp Qjk 0 Qve (Qsc K)) (Qsc K)
def QD5:Qb:=Qblk 0 (QQN K)
def Qgs (m:List TOp') (cuts:List Int) (x:Int):Prop:=Loop Qjk 0 QrA Qu9 (QD5 K) ⟨[(1,(zcs [TI] cuts)),(2,(.p 0 0 0)),(10,(zcs [TI] cuts)),(11,(zci (cuts.length:Int))),(12,(zci x))],[(0,(.box [(zcs ctOp m)]))],1⟩
theorem Qrs (m:List TOp') (cuts:List Int) (x:Int) (h :
 (zif (decide (x<(cuts.length:Int))) (((0:Int)≤x∧Int.toNat x<cuts.length)∧(((!((decide ((gtd (0:Int) cuts (Int.toNat x))<(1:Int)))||(decide ((gtd (0:Int) cuts (Int.toNat x))>(w64 ((m.length:Int)-(1:Int)))))))=true→((decide (x>(0:Int)))=true→((0:Int)≤w64 (x-(1:Int))∧Int.toNat (w64 (x-(1:Int)))<cuts.length)))∧(zif (((decide ((gtd (0:Int) cuts (Int.toNat x))<(1:Int)))||(decide ((gtd (0:Int) cuts (Int.toNat x))>(w64 ((m.length:Int)-(1:Int))))))||((decide (x>(0:Int)))&&(decide ((gtd (0:Int) cuts (Int.toNat (w64 (x-(1:Int)))))≥(gtd (0:Int) cuts (Int.toNat x)))))) (K (QbO false)) (Qgs K m cuts (w64 (x+(1:Int))))))) (K (QbO true)))):Qgs K m cuts x :=
 Loop.of (by kernel_rfl) h
theorem QKJ (m:List TOp') (cuts:List Int) (h :
 (zif (!(Qw m)) (K (QbO false)) (Qgs K m cuts 0))):Hold (tawp Qjk (0+0) QK1 (TQ 0 0 Qpo K) (Qf [(.a [(.c (.sl ctOp) m)]),(.c (.sl [TI]) cuts)])) :=
 Hold.of (by kernel_rfl) h
theorem QHo (m:List TOp') (cuts:List Int):TCon Tryz.prog 136 [(.a [(.c (.sl ctOp) m)]),(.c (.sl [TI]) cuts)] (QbO (Q0 m cuts)):=by
 refine Qq rfl fun hb=>tcg (n:=41) (sg:=Qhd.sg) Qj (TOk.cons QaP TOk.nil) (by kernel_rfl) (by kernel_rfl) (QKJ _ m cuts ?_)
 have hl_m_0:(m).length≤9223372036854775807:=hb.1.1.1
 have hl_cuts:cuts.length≤9223372036854775807:=hb.2.1.1
 refine ⟨fun h=>R_eq (by grind [Q0]),fun h=>?_⟩
 refine ZL cuts (fun r k=>ZR (m.length-1) (Qaz cuts k) r=ZR (m.length-1) none cuts→Qgs (fun r'=>r'=QbO (Q0 m cuts)) m cuts k) ?_ ?_ rfl
 ·intro he
  refine Qrs (fun r'=>r'=QbO (Q0 m cuts)) m cuts _ ⟨fun h=>by simp at h,fun _=>?_⟩
  grind [ZR,Q0]
 ·intro k x r hk hlt hg ih he
  refine Qrs (fun r'=>r'=QbO (Q0 m cuts)) m cuts _ ⟨fun _=>?_,fun h=>by simp at h;omega⟩
  rw [Int.toNat_natCast,hg,Qo (x:=(k:Int)+1) (by omega) (by omega),Qo (x:=(m.length:Int)-1) (by omega) (by omega)]
  have ep:Qaz cuts (k+1)=some x:=by simp [Qaz,hg]
  rw [ep] at ih
  rcases Nat.eq_zero_or_pos k with h0 | h0
  ·subst h0
   simp only [ZR,Qaz,if_true,m_in] at he
   grind [Q0]
  ·have e2:=QcP h0 (by omega:k≤9223372036854775807)
   simp only [ZR,Qaz,if_neg (Nat.ne_of_gt h0),m_in] at he
   grind [Q0]
theorem Qyl:Qh Tryz.prog Qhd:=Qk fun x _=>QHo x.1 x.2.1
def QcX (t:Int × Int):TRes:=zre (.tp [(zci t.1),(zci t.2)])
def Qei:TRow:=Qg 93 [(.a [(.sl ctOp)]),(.c (.sl [TI])),(.c TI)] fun x=>(none,QcX (Qp x.1 x.2.1 x.2.2.1))
def Qrq:List TRow:=[QeA,Jz]
def Qym:TCode :=
 (zsq [(zsq [(.reg [zmv 31 2,zmv 32 1,zle 33 32,zbi 34 .lss 31 33]),(.cond 34 (.reg [zmv 35 1,zmv 36 2,zia 37 35 36 [TI],zld 38 37 1,zmv 9 38]) .skip)]),(.reg [zmv 39 8,zmv 40 9,zmv 6 39,zmv 7 40]),.ret])
def QGG:List (Nat × Md):=zdl [1,2,8,9]
def QK8:TCode:=.wk QGG Qym
def QDn:TCode :=
 (zsq [(.reg [zop 3 (.box 26 0 1),zmv 6 (zki 0),zmv 7 (zki 0)]),(zsq [(.reg [zLd 10 3 1,zmv 11 1,zca 12 76 [10,11],zno 13 12,zmv 14 13,.grp 14 false [zmv 15 2,zmv 16 1,zle 17 16,zca 18 77 [15,(zki 0),17],zno 19 18] 20 19]),(.cond 20 (zsq [(.reg [zmv 6 (zki 0),zmv 7 (zki 0)]),.ret]) .skip)]),(.reg [zmv 8 (zki 0)]),(.reg [zfa 21 3 0,zld 22 21 1,zle 23 22,zmv 9 23]),(zsq [(.reg [zmv 24 2,zbi 25 .gtr 24 (zki 0)]),(.cond 25 (.reg [zmv 26 1,zmv 27 2,zbi 28 .sub 27 (zki 1),zia 29 26 28 [TI],zld 30 29 1,zmv 8 30]) .skip)]),QK8])
def Qub:List (ARv × Md):=[(.t 6,.one .d),(.t 7,.one .d)]
def QNw:Qb:=TQ 0 0 Qub K
@[irreducible] def QkI (m:List TOp') (cuts:List Int) (s:Int) (fro:Int):Prop:=tawp Qrq 0 Qym (QNw K) ⟨[(1,(zcs [TI] cuts)),(2,(zci s)),(8,(zci fro)),(9,(zci (m.length:Int)))],[],0⟩
theorem Qvv (m:List TOp') (cuts:List Int) (s:Int) (fro:Int) (h :
 (zif (decide (s<(cuts.length:Int))) (((0:Int)≤s∧Int.toNat s<cuts.length)∧K (QcX (fro,(gtd (0:Int) cuts (Int.toNat s))))) (K (QcX (fro,(m.length:Int)))))):Hold (QkI K m cuts s fro) :=
 Hold.of (by kernel_rfl) h
theorem QP6 (m:List TOp') (cuts:List Int) (s:Int) (h :
 (zif ((!(Q0 m cuts))||(!(m_in s (0:Int) (cuts.length:Int)))) (K (QcX ((0:Int),(0:Int)))) (zif (decide (s>(0:Int))) (((0:Int)≤w64 (s-(1:Int))∧Int.toNat (w64 (s-(1:Int)))<cuts.length)∧(QkI K m cuts s (gtd (0:Int) cuts (Int.toNat (w64 (s-(1:Int))))))) (QkI K m cuts s 0)))):Hold (tawp Qrq (0+0) QDn (TQ 0 0 Qub K) (Qf [(.a [(.c (.sl ctOp) m)]),(.c (.sl [TI]) cuts),(.c TI s)])) :=
 Hold.of (by kernel_rfl) h
theorem QOW (m:List TOp') (cuts:List Int) (s:Int):TCon Tryz.prog 93 [(.a [(.c (.sl ctOp) m)]),(.c (.sl [TI]) cuts),(.c TI s)] (QcX (Qp m cuts s)):=by
 refine Qq rfl fun hb=>tcg (n:=41) (sg:=Qei.sg) Qj (TOk.cons Qkg (TOk.cons JU TOk.nil)) (by kernel_rfl) (by kernel_rfl) (QP6 _ m cuts s ?_)
 have hl_m_0:(m).length≤9223372036854775807:=hb.1.1.1
 have hl_cuts:cuts.length≤9223372036854775807:=hb.2.1.1
 refine ⟨fun h=>R_eq (by grind [Qp,m_in]),fun h=>?_⟩
 have hc:Q0 m cuts=true∧0≤s∧s≤cuts.length:=by grind [m_in]
 have hl:=Qag hc.1
 have e1:(Q0 m cuts&&m_in s 0 cuts.length)=true:=by grind [m_in]
 refine ⟨fun h1=>?_,fun h1=>?_⟩
 ·have h1:0<s:=by simpa using h1
  rw [Qo (x:=s-1) (by omega) (by omega),show Int.toNat (s-1)=s.toNat-1 by omega]
  refine ⟨⟨by omega,by omega⟩,(Qvv (fun r'=>r'=QcX (Qp m cuts s)) m cuts s _ ⟨fun h2=>?_,fun h2=>?_⟩).h⟩
  ·have h2:s<cuts.length:=by simpa using h2
   exact ⟨⟨by omega,by omega⟩,R_eq (by simp [Qp,e1,h1,h2])⟩
  ·exact R_eq (by simp at h2;simp [Qp,e1,h1,Int.not_lt.2 h2])
 ·have h1:¬ 0<s:=by simpa using h1
  refine (Qvv (fun r'=>r'=QcX (Qp m cuts s)) m cuts s _ ⟨fun h2=>?_,fun h2=>?_⟩).h
  ·have h2:s<cuts.length:=by simpa using h2
   exact ⟨⟨by omega,by omega⟩,R_eq (by simp [Qp,e1,h1,h2])⟩
  ·exact R_eq (by simp at h2;simp [Qp,e1,h1,Int.not_lt.2 h2])
theorem QiD:Qh Tryz.prog Qei:=Qk fun x _=>QOW x.1 x.2.1 x.2.2.1
def Qcx (t:Int × Int):TRes:=zre (.tp [(zci t.1),(zci t.2)])
def Qfg:TRow:=Qg 71 [(.a [(.sl ctOp)]),(.c (.sl [TI])),(.c TI)] fun x=>(none,Qcx (Qp x.1 x.2.1 x.2.2.1))
def Qv8:List TRow:=[Qhd]
def Qwd:TCode :=
 (zsq [(zsq [(.reg [zmv 34 2,zmv 35 1,zle 36 35,zbi 37 .lss 34 36]),(.cond 37 (.reg [zmv 38 1,zmv 39 2,zia 40 38 39 [TI],zld 41 40 1,zmv 9 41]) .skip)]),(.reg [zmv 42 8,zmv 43 9,zmv 6 42,zmv 7 43]),.ret])
def QQg:List (Nat × Md):=zdl [1,2,8,9]
def QMs:TCode:=.wk QQg Qwd
def QCW:TCode :=
 (zsq [(.reg [zop 3 (.box 26 0 1),zmv 6 (zki 0),zmv 7 (zki 0)]),(zsq [(.reg [zLd 10 3 1,zmv 11 1,zca 12 136 [10,11],zno 13 12,zmv 14 13,.grp 14 false [zmv 15 2,zbi 16 .lss 15 (zki 0)] 17 16,zmv 18 17,.grp 18 false [zmv 19 2,zmv 20 1,zle 21 20,zbi 22 .gtr 19 21] 23 22]),(.cond 23 (zsq [(.reg [zmv 6 (zki 0),zmv 7 (zki 0)]),.ret]) .skip)]),(.draw [zfa 24 3 0,zld 25 24 1,zle 26 25,zmv 8 (zki 0),zmv 9 26] []),(zsq [(.reg [zmv 27 2,zbi 28 .gtr 27 (zki 0)]),(.cond 28 (.reg [zmv 29 1,zmv 30 2,zbi 31 .sub 30 (zki 1),zia 32 29 31 [TI],zld 33 32 1,zmv 8 33]) .skip)]),QMs])
def QxB:List (ARv × Md):=[(.t 6,.one .d),(.t 7,.one .d)]
def QGh:Qb:=TQ 0 0 QxB K
@[irreducible] def QlE (m:List TOp') (cuts:List Int) (s:Int) (fro:Int):Prop:=tawp Qv8 0 Qwd (QGh K) ⟨[(1,(zcs [TI] cuts)),(2,(zci s)),(8,(zci fro)),(9,(zci (m.length:Int)))],[],0⟩
theorem QvM (m:List TOp') (cuts:List Int) (s:Int) (fro:Int) (h :
 (zif (decide (s<(cuts.length:Int))) (((0:Int)≤s∧Int.toNat s<cuts.length)∧K (Qcx (fro,(gtd (0:Int) cuts (Int.toNat s))))) (K (Qcx (fro,(m.length:Int)))))):Hold (QlE K m cuts s fro) :=
 Hold.of (by kernel_rfl) h
theorem QLh (m:List TOp') (cuts:List Int) (s:Int) (h :
 (zif (((!(Q0 m cuts))||(decide (s<(0:Int))))||(decide (s>(cuts.length:Int)))) (K (Qcx ((0:Int),(0:Int)))) (zif (decide (s>(0:Int))) (((0:Int)≤w64 (s-(1:Int))∧Int.toNat (w64 (s-(1:Int)))<cuts.length)∧(QlE K m cuts s (gtd (0:Int) cuts (Int.toNat (w64 (s-(1:Int))))))) (QlE K m cuts s 0)))):Hold (tawp Qv8 (0+0) QCW (TQ 0 0 QxB K) (Qf [(.a [(.c (.sl ctOp) m)]),(.c (.sl [TI]) cuts),(.c TI s)])) :=
 Hold.of (by kernel_rfl) h
theorem QG3 (m:List TOp') (cuts:List Int) (s:Int):TCon Tryz.prog 71 [(.a [(.c (.sl ctOp) m)]),(.c (.sl [TI]) cuts),(.c TI s)] (Qcx (Qp m cuts s)):=by
 refine Qq rfl fun hb=>tcg (n:=44) (sg:=Qfg.sg) Qj (TOk.cons Qyl TOk.nil) (by kernel_rfl) (by kernel_rfl) (QLh _ m cuts s ?_)
 have hl_m_0:(m).length≤9223372036854775807:=hb.1.1.1
 have hl_cuts:cuts.length≤9223372036854775807:=hb.2.1.1
 refine ⟨fun h=>R_eq (by grind [Qp,m_in]),fun h=>?_⟩
 have hc:Q0 m cuts=true∧0≤s∧s≤cuts.length:=by grind [m_in]
 have hl:=Qag hc.1
 have e1:(Q0 m cuts&&m_in s 0 cuts.length)=true:=by grind [m_in]
 refine ⟨fun h1=>?_,fun h1=>?_⟩
 ·have h1:0<s:=by simpa using h1
  rw [Qo (x:=s-1) (by omega) (by omega),show Int.toNat (s-1)=s.toNat-1 by omega]
  refine ⟨⟨by omega,by omega⟩,(QvM (fun r'=>r'=Qcx (Qp m cuts s)) m cuts s _ ⟨fun h2=>?_,fun h2=>?_⟩).h⟩
  ·have h2:s<cuts.length:=by simpa using h2
   exact ⟨⟨by omega,by omega⟩,R_eq (by simp [Qp,e1,h1,h2])⟩
  ·exact R_eq (by simp at h2;simp [Qp,e1,h1,Int.not_lt.2 h2])
 ·have h1:¬ 0<s:=by simpa using h1
  refine (QvM (fun r'=>r'=Qcx (Qp m cuts s)) m cuts s _ ⟨fun h2=>?_,fun h2=>?_⟩).h
  ·have h2:s<cuts.length:=by simpa using h2
   exact ⟨⟨by omega,by omega⟩,R_eq (by simp [Qp,e1,h1,h2])⟩
  ·exact R_eq (by simp at h2;simp [Qp,e1,h1,Int.not_lt.2 h2])
theorem QmY:Qh Tryz.prog Qfg:=Qk fun x _=>QG3 x.1 x.2.1 x.2.2.1
def Qd0 (t:Int):TRes:=zre (zci t)
def QmL:TRow:=Qg 196 [(.a [(.sl ctOp)]),(.c (.sl [TI])),(.c TI)] fun x=>(none,Qd0 (Qan x.1 x.2.1 x.2.2.1))
def Qlt:List TRow:=[Qei,Qnu]
def Qwk:TCode :=
 (zsq [(zsq [(.reg [zmv 19 10,zmv 20 8,zbi 21 .lss 19 20]),(.cond 21 .skip (.exit 0))]),(.block 1 (.reg [zmv 24 9,zfa 25 3 0,zld 26 25 1,zmv 27 10,zia 28 26 27 ctOp,zLd 29 28 4,zca 30 222 [29],zbi 31 .add 24 30,zmv 9 31])),(.reg [zmv 22 10,zbi 23 .add 22 (zki 1),zmv 10 23])])
def QvO:List (Nat × Md):=[(3,.b [.d]),(8,.one .d),(9,.one .d),(10,.one .d)]
def Qtp:TCode :=
 (zsq [(.reg [zmv 32 9,zmv 6 32]),.ret])
def QHw:TCode :=
 (zsq [(.reg [zop 3 (.box 26 0 1),zmv 6 (zki 0)]),(.reg [zLd 12 3 1,zmv 13 1,zmv 14 2,zca 15 93 [12,13,14],zmv 11 15,zex 16 11 0,zex 17 11 1,zmv 7 16,zmv 8 17]),(.reg [zmv 9 (zki 0)]),(zsq [(.reg [zmv 18 7,zmv 10 18]),(.block 0 (.loop QvO Qwk))]),Qtp])
def Qwl:List (ARv × Md):=[(.t 6,.one .d)]
def QyV:Qb:=TQ 0 0 Qwl K
def QQT:Qb:=Qseq (tawp Qlt 0 Qtp (QyV K)) (QyV K)
def QJk:Qb:=Qblk 0 (QQT K)
def Qf0 (m:List TOp') (cuts:List Int) (s:Int) (n:Int) (i:Int):Prop:=Loop Qlt 0 QvO Qwk (QJk K) ⟨[(3,(.p 0 0 0)),(8,(zci ((Qp m cuts s).2))),(9,(zci n)),(10,(zci i))],[(0,(.box [(zcs ctOp m)]))],1⟩
theorem QvL (m:List TOp') (cuts:List Int) (s:Int) (n:Int) (i:Int) (h :
 (zif (decide (i<((Qp m cuts s).2))) (((0:Int)≤i∧Int.toNat i<m.length)∧(Qf0 K m cuts s (w64 (n+(Qbm (gtd dOp m (Int.toNat i))))) (w64 (i+(1:Int))))) (K (Qd0 n)))):Qf0 K m cuts s n i :=
 Loop.of (by kernel_rfl) h
theorem QQj (m:List TOp') (cuts:List Int) (s:Int) (h :
 (Qf0 K m cuts s 0 ((Qp m cuts s).1))):Hold (tawp Qlt (0+0) QHw (TQ 0 0 Qwl K) (Qf [(.a [(.c (.sl ctOp) m)]),(.c (.sl [TI]) cuts),(.c TI s)])) :=
 Hold.of (by kernel_rfl) h
theorem QHa (m:List TOp') (cuts:List Int) (s:Int):TCon Tryz.prog 196 [(.a [(.c (.sl ctOp) m)]),(.c (.sl [TI]) cuts),(.c TI s)] (Qd0 (Qan m cuts s)):=by
 refine Qq rfl fun hb=>tcg (n:=33) (sg:=QmL.sg) Qj (TOk.cons QiD (TOk.cons QNk TOk.nil)) (by kernel_rfl) (by kernel_rfl) (QQj _ m cuts s ?_)
 have hl_m_0:(m).length≤9223372036854775807:=hb.1.1.1
 have hl_cuts:cuts.length≤9223372036854775807:=hb.2.1.1
 have hr:=Qb1 m cuts s
 have:=QhM m _ _ hr.1 hr.2.1 hr.2.2.1 (fun r k=>∀ y:Int,w64 (y+(r.map Qbm).sum)=(Qan m cuts s)→Qf0 (fun r'=>r'=Qd0 (Qan m cuts s)) m cuts s (w64 y) k) ?_ ?_ 0 (by simp [Qan])
 ·rw [show (((Qp m cuts s).1.toNat:Nat):Int)=(Qp m cuts s).1 by omega] at this
  exact this
 ·intro y he
  refine QvL (fun r'=>r'=Qd0 (Qan m cuts s)) m cuts s _ _ ⟨fun h=>by simp at h;omega,fun _=>R_eq ?_⟩
  simpa using he
 ·intro k x r h1 h2 hlt hg ih y he
  refine QvL (fun r'=>r'=Qd0 (Qan m cuts s)) m cuts s _ _ ⟨fun _=>?_,fun h=>by simp at h;omega⟩
  rw [Int.toNat_natCast,hg,Qo (x:=(k:Int)+1) (by omega) (by omega),Qdh]
  refine ⟨⟨by omega,hlt⟩,ih _ ?_⟩
  rw [← he,List.map_cons,List.sum_cons,Int.add_assoc]
theorem QDF:Qh Tryz.prog QmL:=Qk fun x _=>QHa x.1 x.2.1 x.2.2.1
def Qcj (t:Int):TRes:=zre (zci t)
def QnP:TRow:=Qg 140 [(.a [(.sl ctOp)]),(.c (.sl [TI]))] fun x=>(none,Qcj (YX x.1 x.2.1))
def QmU:List TRow:=[QeA,QmL]
def QyR:TCode :=
 (zsq [(zsq [(.reg [zmv 7 6,zmv 8 1,zle 9 8,zbi 10 .leq 7 9,zmv 11 10,.grp 11 true [zLd 12 2 1,zmv 13 1,zca 14 76 [12,13]] 15 14]),(.cond 15 .skip (.exit 0))]),(.block 1 (.reg [zmv 18 5,zLd 19 2 1,zmv 20 1,zmv 21 6,zca 22 196 [19,20,21],zop 23 (.mm true 18 22),zmv 5 23])),(.reg [zmv 16 6,zbi 17 .add 16 (zki 1),zmv 6 17])])
def Qv0:List (Nat × Md):=[(1,.one .d),(2,.b [.d]),(5,.one .d),(6,.one .d)]
def Qu8:TCode :=
 (zsq [(.reg [zmv 24 5,zmv 4 24]),.ret])
def QK2:TCode :=
 (zsq [(.reg [zop 2 (.box 26 0 1),zmv 4 (zki 0)]),(.reg [zmv 5 (zki 0)]),(zsq [(.reg [zmv 6 (zki 0)]),(.block 0 (.loop Qv0 QyR))]),Qu8])
def Qqw:List (ARv × Md):=[(.t 4,.one .d)]
def QvV:Qb:=TQ 0 0 Qqw K
def QI4:Qb:=Qseq (tawp QmU 0 Qu8 (QvV K)) (QvV K)
def QGE:Qb:=Qblk 0 (QI4 K)
def QgZ (m:List TOp') (cuts:List Int) (best:Int) (s:Int):Prop:=Loop QmU 0 Qv0 QyR (QGE K) ⟨[(1,(zcs [TI] cuts)),(2,(.p 0 0 0)),(5,(zci best)),(6,(zci s))],[(0,(.box [(zcs ctOp m)]))],1⟩
theorem QnU (m:List TOp') (cuts:List Int) (best:Int) (s:Int) (h :
 (zif ((decide (s≤(cuts.length:Int)))&&(Q0 m cuts)) (QgZ K m cuts (if best<(Qan m cuts s) then (Qan m cuts s) else best) (w64 (s+(1:Int)))) (K (Qcj best)))):QgZ K m cuts best s :=
 Loop.of (by kernel_rfl) h
theorem QDT (m:List TOp') (cuts:List Int) (h :
 (QgZ K m cuts 0 0)):Hold (tawp QmU (0+0) QK2 (TQ 0 0 Qqw K) (Qf [(.a [(.c (.sl ctOp) m)]),(.c (.sl [TI]) cuts)])) :=
 Hold.of (by kernel_rfl) h
theorem QH7 (m:List TOp') (cuts:List Int):TCon Tryz.prog 140 [(.a [(.c (.sl ctOp) m)]),(.c (.sl [TI]) cuts)] (Qcj (YX m cuts)):=by
 refine Qq rfl fun hb=>tcg (n:=25) (sg:=QnP.sg) Qj (TOk.cons Qkg (TOk.cons QDF TOk.nil)) (by kernel_rfl) (by kernel_rfl) (QDT _ m cuts ?_)
 have hl_m_0:(m).length≤9223372036854775807:=hb.1.1.1
 have hl_cuts:cuts.length≤9223372036854775807:=hb.2.1.1
 cases hc:Q0 m cuts with
 | false =>
  refine QnU (fun r'=>r'=Qcj (YX m cuts)) m cuts _ _ ⟨fun h=>by simp [hc] at h,fun _=>R_eq ?_⟩
  simp [YX,hc]
 | true =>
  have hl:=Qag hc
  refine JL (cuts.length+1) (fun k=>QgZ (fun r'=>r'=Qcj (YX m cuts)) m cuts (Qm5 (fun s=>Qan m cuts s) k 0) k) ?_ ?_
  ·refine QnU (fun r'=>r'=Qcj (YX m cuts)) m cuts _ _ ⟨fun h=>by simp at h;omega,fun _=>R_eq ?_⟩
   simp [YX,hc]
  ·intro k hk ih
   refine QnU (fun r'=>r'=Qcj (YX m cuts)) m cuts _ _ ⟨fun _=>?_,fun h=>by simp [hc] at h;omega⟩
   rw [Qo (x:=(k:Int)+1) (by omega) (by omega)]
   exact ih
theorem QFM:Qh Tryz.prog QnP:=Qk fun x _=>QH7 x.1 x.2.1
def Qh4 (t:Int):TRes:=zre (zci t)
def QdM:TRow:=Qg 59 [(.a QS)] fun x=>(none,Qh4 (QH x.1))
def QOR:List TRow:=[Qhd]
def QCI:TCode :=
 (zsq [(.reg [zop 1 (.box 30 0 6),zmv 2 (zki 0)]),(zsq [(.reg [zfa 3 1 0,zLd 4 3 1,zfa 5 1 1,zld 6 5 1,zca 7 136 [4,6],zno 8 7]),(.cond 8 (zsq [(.reg [zmv 2 (zki 0)]),.ret]) .skip)]),(.reg [zfa 9 1 1,zld 10 9 1,zle 11 10,zbi 12 .add 11 (zki 1),zmv 2 12]),.ret])
def QJ6:List (ARv × Md):=[(.t 2,.one .d)]
theorem QKl (c:Ql) (h :
 (zif (!(Q0 c.1 c.2.1)) (K (Qh4 (0:Int))) (K (Qh4 (w64 (((c.2.1).length:Int)+(1:Int))))))):Hold (tawp QOR (0+0) QCI (TQ 0 0 QJ6 K) (Qf [(.a (Tup.cells QS c))])) :=
 Hold.of (by kernel_rfl) h
theorem QFt (c:Ql):TCon Tryz.prog 59 [(.a (Tup.cells QS c))] (Qh4 (QH c)):=by
 refine Qq rfl fun hb=>tcg (n:=13) (sg:=QdM.sg) Qj (TOk.cons Qyl TOk.nil) (by kernel_rfl) (by kernel_rfl) (QKl _ c ?_)
 have hl_c_0:(c.1).length≤9223372036854775807:=hb.1.1.1
 have hl_c_1:(c.2.1).length≤9223372036854775807:=hb.1.2.1.1
 have hl_c_3:(c.2.2.2.1).length≤9223372036854775807:=hb.1.2.2.2.1.1
 have hl_c_4:(c.2.2.2.2.1).length≤9223372036854775807:=hb.1.2.2.2.2.1.1
 have hl_c_5:(c.2.2.2.2.2).length≤9223372036854775807:=hb.1.2.2.2.2.2.1.1
 grind [QH]
theorem Qgw:Qh Tryz.prog QdM:=Qk fun x _=>QFt x.1
end
end Go.Proofs.YtjbdljkhbglnhaaGreat.Am

