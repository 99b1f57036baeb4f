/-
  Written by program: the code of functions, what it asks, and that it comes to what the models say.
-/
import Derived.Test.YtjbdljkhbglnhaaGreatZGD1
import Derived.Test.YtjbdljkhbglnhaaGreatZGDA
import Derived.Test.YtjbdljkhbglnhaaGreatZGP7
import Derived.Test.YtjbdljkhbglnhaaGreatZGPQ
import Derived.Test.YtjbdljkhbglnhaaGreatZGPR
import Derived.Test.YtjbdljkhbglnhaaGreatZGP9
import Derived.Test.YtjbdljkhbglnhaaGreatZGP5
import Derived.Test.YtjbdljkhbglnhaaGreatZGPB
import Derived.Test.YtjbdljkhbglnhaaGreatZGP6
import Derived.Test.YtjbdljkhbglnhaaGreatZGKM
namespace Go.Proofs.YtjbdljkhbglnhaaGreat.Am
open Go Go.RowKit Go.Proofs.YtjbdljkhbglnhaaGreat
set_option linter.all false
set_option maxHeartbeats 2000000
noncomputable section
variable (K:TRes→Prop)
def QcU (t:Bool):TRes:=zre (zcb t)
def QA1:TRow:=Qi 8 [(.c (.sl [(.int .u8)]))] fun x=>(some (QgR x.1),QcU (QuE x.1))
def QBa:List TRow:=[Ql8,QnC,Qd3,Qgo,QmN,QkT,QkX,Qnc,Qf4,Qcv,Qes,Qkb,QhL]
def QHE:TCode :=
 (zsq [(.reg [zmv 2 (zkb false)]),(zsq [(.reg [zmv 11 0,zca 12 13 [11]]),(.cond 12 (zsq [(.reg [zmv 2 (zkb true)]),.ret]) .skip)]),(.reg [zmv 14 0,zca 15 55 [14],zmv 13 15,zex 16 13 0,zex 17 13 1,zop 3 (.new 30 (z0s QU)),zst 3 16 6,zmv 4 17]),(.reg [zLd 18 3 6,zmv 19 4,zca 20 56 [18,19],zmv 5 20]),(.reg [zLd 21 3 6,zmv 22 4,zca 23 15 [21,22],zop 6 (.new 37 (z0s Q0)),zst 6 23 4]),(.reg [zLd 25 3 6,zmv 26 4,zca 27 21 [25,26],zmv 24 27,zex 28 24 0,zex 29 24 1,zop 7 (.new 46 (z0s Zq)),zst 7 28 3,zmv 8 29]),(zsq [(.reg [zmv 30 5,zLd 31 3 6,zmv 32 4,zca 33 16 [31,32],zbi 34 .neq 30 33,zmv 35 34,.grp 35 false [zmv 36 8,zmv 37 5,zbi 38 .neq 36 37] 39 38,zmv 40 39,.grp 40 false [zmv 41 5,zca 42 57 [41],zbi 43 .eql 42 (.k (.c .str (⟨#[]⟩:ByteArray)))] 44 43]),(.cond 44 (zsq [(.reg [zmv 2 (zkb false)]),.ret]) .skip)]),(zsq [(.reg [zmv 45 5,zbi 46 .neq 45 (zki 0)]),(.cond 46 (zsq [(.reg [zfa 47 6 1,zld 48 47 1,zle 49 48,zbi 50 .eql 49 (zki 0),zmv 51 50,.grp 51 true [zfa 52 6 0,zld 53 52 1,zle 54 53,zbi 55 .eql 54 (zki 0)] 56 55,zmv 2 56]),.ret]) .skip)]),(zsq [(.draw [zLd 57 6 4,zca 58 38 [57],zno 59 58,zmv 60 59,.grp 60 false [zLd 61 6 4,zca 62 58 [61],zno 63 62] 64 63,zmv 65 64,.grp 65 false [zfa 66 6 1,zld 67 66 1,zle 68 67,zLd 69 3 6,zca 70 59 [69],zbi 71 .neq 68 70] 72 71,zmv 73 72,.grp 73 false [zLd 74 6 4,zca 75 23 [74]] 76 75] [(9,13),(10,13),(11,13)]),(.cond 76 (zsq [(.reg [zmv 2 (zkb false)]),.ret]) .skip)]),(.reg [zLd 77 3 6,zop 9 (.new 30 (z0s QU)),zst 9 77 6]),(.reg [zop 78 (.bsl 3 [TI] []),zfa 79 3 5,zld 80 79 1,zop 81 (.app 78 80 3 [TI]),zfa 82 9 5,zst 82 81 1]),(.draw [zmv 83 0,zca 84 29 [83,(zki 0)],zfa 85 9 5,zld 86 85 1,zle 87 86,zbi 88 .rem 84 87,zmv 10 88] [(1,2),(1,3),(1,4)]),(.draw [zfa 89 9 5,zld 90 89 1,zmv 91 10,zLd 92 3 6,zmv 93 10,zmv 94 4,zle 95 94,zca 96 54 [92,93,95],zbi 97 .sub 96 (zki 1),zia 98 90 91 [TI],zst 98 97 1] [(0,7),(1,7)]),(.reg [zLd 99 9 6,zmv 100 4,zca 101 56 [99,100],zbi 102 .eql 101 (zki 7),zmv 2 102]),.ret])
def QCf:List (ARv × Md):=[(.t 2,.one .d)]
theorem QKX (code:List Int) (h :
 let z1:=Qg7 code
 let z2:=Int.tmod (m_at code (0:Int)) (((0+((z1.1).2.2.2.2.2).length):Nat):Int)
 let z3:=Zi (z1.1) (z1.2)
 let z4:=Q7 (z1.1) (z1.2)
 (zif (Qd1 code) (K (QcU true)) ((JF code)∧(zif (((z4 != z4)||(((J2 (z1.1) (z1.2)).2) != z4))||(ByteArray.toList (Qcp z4)==ByteArray.toList (⟨#[]⟩:ByteArray))) (K (QcU false)) (zif (z4 != (0:Int)) (K (QcU ((((z3.2.1).length:Int)==(0:Int))&&(((z3.1).length:Int)==(0:Int))))) (zif ((((!(Zd z3))||(!(Zd z3)))||(((z3.2.1).length:Int) != (QB (z1.1))))||(Y8 z3)) (K (QcU false)) (((0=0∨0+((z1.1).2.2.2.2.2).length≤0)∧0+((z1.1).2.2.2.2.2).length≤big)∧(((p_at code (0:Int))∧(¬ ((((0+((z1.1).2.2.2.2.2).length):Nat):Int):Int)=0))∧((((0:Int)≤z2∧Int.toNat z2<(0+((z1.1).2.2.2.2.2).length))∧((0+(Int.toNat z2))<((z1.1).2.2.2.2.2).length))∧K (QcU ((Q7 ((z1.1).1,(z1.1).2.1,(z1.1).2.2.1,(z1.1).2.2.2.1,(z1.1).2.2.2.2.1,(List.take (0+((z1.1).2.2.2.2.2).length) (List.drop 0 (((z1.1).2.2.2.2.2).set (0+(Int.toNat z2)) (w64 ((Zr (z1.1) z2 ((z1.2).length:Int))-(1:Int))))))) (z1.2))==(7:Int)))))))))))):Hold (tawp QBa (0+0) QHE (TQ 0 0 QCf K) (Qf [(.c (.sl [(.int .u8)]) code)])) :=
 Hold.of (by kernel_rfl) h
theorem l_FnAdmits_h (code:List Int) (hp:QgR code):TCon Tryz.prog 8 [(.c (.sl [(.int .u8)]) code)] (QcU (QuE code)):=by
 refine Qr rfl fun hb=>tcg (n:=103) (sg:=QA1.sg) Qk (TOk.cons QEF (TOk.cons QLJ (TOk.cons Qmm (TOk.cons Quh (TOk.cons QG0 (TOk.cons QFt (TOk.cons QOc (TOk.cons QFF (TOk.cons QrJ (TOk.cons QeO (TOk.cons Qk1 (TOk.cons QHG (TOk.cons QsC TOk.nil))))))))))))) (by kernel_rfl) (by kernel_rfl) (QKX _ code ?_)
 have hl_code:code.length≤9223372036854775807:=hb.1.1
 conv=>zeta
 refine ⟨fun _=>R_eq rfl,fun hb=>?_⟩
 have hn:=QK3 hb
 obtain ⟨⟨c,b⟩,hr⟩:∃ r,Qg7 code=r:=⟨_,rfl⟩
 rw [hr]
 simp only
 have hrng:=QMd c b
 have hg:(J2 c b).2=Q7 c b:=rfl
 rw [hg,QED hrng.1 hrng.2]
 refine ⟨hn,fun h=>by simp at h,fun _=>⟨fun h=>R_eq ?_,fun h=>?_⟩⟩
 ·rw [QOl (by simpa using h)];rfl
 have h0:Q7 c b=0:=by simpa using h
 have A:=Qim h0
 obtain ⟨f1,f2,f3,f4⟩:=QES A
 have hns:=JE A
 have hll:c.2.2.2.2.2.length=nSt c:=QET A
 rw [f1,f2,f3,f4,hll]
 obtain ⟨m1,m2⟩:=QBQ hp hn (i:=0) (n:=((nSt c:Nat):Int)) (by omega) (by omega) (by omega)
 simp only [Nat.zero_add]
 obtain ⟨s,hs⟩:=Int.eq_ofNat_of_zero_le m1
 rw [hs] at m2 ⊢
 have hpk:=Qw2 c (s:Int) b.length
 refine ⟨fun h=>by simp at h,fun _=>⟨⟨.inl (by trivial),by rw [Zw];omega⟩,⟨Int.le_refl 0,by omega⟩,⟨⟨by omega,by omega⟩,by omega⟩,R_eq ?_⟩⟩
 rw [Qp (by omega) (by omega),Int.toNat_natCast,List.drop_zero,List.take_of_length_le (by simp;omega)]
 rw [QPB A (s:=s) (by omega) _ (by simp;omega) (by rw [QNG (by omega)];omega)]
 rfl
end
end Go.Proofs.YtjbdljkhbglnhaaGreat.Am

