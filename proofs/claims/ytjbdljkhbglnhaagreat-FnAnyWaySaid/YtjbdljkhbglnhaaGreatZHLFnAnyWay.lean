/-
  Written by program: the code of functions, what it asks, and that it comes to what the models say.
-/
import Derived.Test.YtjbdljkhbglnhaaGreatZHD1
import Derived.Test.YtjbdljkhbglnhaaGreatZHD6
import Derived.Test.YtjbdljkhbglnhaaGreatZHD7
import Derived.Test.YtjbdljkhbglnhaaGreatZHP7
import Derived.Test.YtjbdljkhbglnhaaGreatZHPN
import Derived.Test.YtjbdljkhbglnhaaGreatZHPR
import Derived.Test.YtjbdljkhbglnhaaGreatZHPS
import Derived.Test.YtjbdljkhbglnhaaGreatZHKM
namespace Go.Proofs.YtjbdljkhbglnhaaGreat.Am
open Go Go.RowKit Go.Proofs.YtjbdljkhbglnhaaGreat
set_option linter.all false
set_option maxHeartbeats 2000000
noncomputable section
variable (K:TRes→Prop)
def QbY (t:Bool):TRes:=zre (zcb t)
def QAn:TRow:=Qg 10 [(.c (.sl [(.int .u8)]))] fun x=>(some (QgJ x.1),QbY (QdF x.1))
def Qll:List TRow:=[Qjz,Qog,Qju,Qkm,Qk6,QkJ,QjM,Qnj]
def QvK:TCode :=
 (zsq [(zsq [(.reg [zmv 54 7,zfa 55 5 1,zld 56 55 1,zle 57 56,zbi 58 .leq 54 57]),(.cond 58 .skip (.exit 0))]),(.block 1 (zsq [(.draw [zfa 61 5 3,zld 62 61 1,zmv 63 0,zmv 64 7,zbi 65 .add 64 (zki 1),zca 66 29 [63,65],zbi 67 .rem 66 (zki 2),zbi 68 .eql 67 (zki 0),zop 69 (.bsl 4 [.bool] [68]),zop 70 (.app 62 69 4 [.bool]),zfa 71 5 3,zst 71 70 1] [(0,5),(1,5),(0,8),(1,8)]),(.reg [zfa 72 5 5,zld 73 72 1,zop 74 (.bsl 3 [TI] [(zki 100000)]),zop 75 (.app 73 74 3 [TI]),zfa 76 5 5,zst 76 75 1]),(.reg [zmv 77 7,zbi 78 .gtr 77 (zki 0)]),(.cond 78 (.draw [zfa 79 5 4,zld 80 79 1,zmv 81 0,zmv 82 7,zca 83 29 [81,82],zbi 84 .rem 83 (zki 5),zbi 85 .add (zki 1) 84,zop 86 (.bsl 3 [TI] [85]),zop 87 (.app 80 86 3 [TI]),zfa 88 5 4,zst 88 87 1] [(0,4),(1,4),(0,7),(1,7)]) .skip)])),(.reg [zmv 59 7,zbi 60 .add 59 (zki 1),zmv 7 60])])
def Qst:List (Nat × Md):=[(0,.one .d),(3,.b (zds 6)),(4,.one .d),(5,.b [.d,.d,.d,.f,.f,.f]),(7,.one .d)]
def QpH:TCode :=
 (zsq [(.reg [zmv 89 0,zca 90 29 [89,(zki 9)],zbi 91 .rem 90 (zki 2),zbi 92 .add (zki 1) 91,zfa 93 5 2,zst 93 92 1]),(.reg [zLd 95 3 6,zmv 96 4,zca 97 21 [95,96],zmv 94 97,zex 98 94 0,zex 99 94 1,zop 8 (.new 46 (z0s Zd)),zst 8 98 3,zmv 9 99]),(.reg [zLd 101 5 6,zmv 102 4,zca 103 21 [101,102],zmv 100 103,zex 104 100 0,zex 105 100 1,zop 10 (.new 46 (z0s Zd)),zst 10 104 3,zmv 11 105]),(.reg [zmv 106 9,zbi 107 .eql 106 (zki 0),zmv 108 107,.grp 108 true [zmv 109 11,zbi 110 .eql 109 (zki 0)] 111 110,zmv 112 111,.grp 112 true [zLd 113 8 3,zLd 114 10 3,zca 115 24 [113,114]] 116 115,zmv 117 116,.grp 117 true [zfa 118 8 0,zld 119 118 1,zle 120 119,zfa 121 3 0,zfa 122 121 0,zld 123 122 1,zle 124 123,zbi 125 .eql 120 124] 126 125,zmv 2 126]),.ret])
def QJz:TCode :=
 (zsq [(.reg [zmv 2 (zkb false)]),(zsq [(.reg [zmv 12 0,zca 13 13 [12]]),(.cond 13 (zsq [(.reg [zmv 2 (zkb true)]),.ret]) .skip)]),(.reg [zmv 15 0,zca 16 14 [15],zmv 14 16,zex 17 14 0,zex 18 14 1,zop 3 (.new 30 (z0s QS)),zst 3 17 6,zmv 4 18]),(.reg [zmv 20 0,zca 21 64 [20,(zki 5)],zca 22 14 [21],zmv 19 22,zex 23 19 0,zex 24 19 1,zop 5 (.new 30 (z0s QS)),zst 5 23 6,zmv 6 24]),(zsq [(.reg [zLd 25 3 6,zmv 26 4,zca 27 16 [25,26],zbi 28 .neq 27 (zki 0)]),(.cond 28 (zsq [(.reg [zmv 2 (zkb true)]),.ret]) .skip)]),(.reg [zfa 29 3 0,zLd 30 29 1,zfa 31 5 0,zst 31 30 1]),(.draw [zfa 33 3 0,zLd 34 33 1,zmv 35 0,zca 36 29 [35,(zki 0)],zfa 37 3 0,zfa 38 37 0,zld 39 38 1,zle 40 39,zop 41 (.mm false (zki 4) 40),zbi 42 .rem 36 41,zbi 43 .add (zki 1) 42,zca 44 65 [34,43],zmv 32 44,zex 45 32 0,zex 46 32 1,zfa 47 5 1,zst 47 45 1] [(0,3),(1,3),(3,4),(3,5),(3,6),(3,7)]),(.reg [zop 48 (.bsl 4 [.bool] []),zfa 49 5 3,zst 49 48 1]),(.reg [zop 50 (.bsl 3 [TI] []),zfa 51 5 4,zst 51 50 1]),(.reg [zop 52 (.bsl 3 [TI] []),zfa 53 5 5,zst 53 52 1]),(zsq [(.reg [zmv 7 (zki 0)]),(.block 0 (.loop Qst QvK))]),QpH])
def Qq0:List (ARv × Md):=[(.t 2,.one .d)]
def QoC:Qb:=TQ 0 0 Qq0 K
def QQx:Qb:=Qseq (tawp Qll 0 QpH (QoC K)) (QoC K)
def QQI:Qb:=Qblk 0 (QQx K)
def QfF (code:List Int) (s:Int) (d3:List Bool) (d4:List Int) (d5:List Int):Prop:=Loop Qll 0 Qst QvK (QQI K) ⟨[(0,(zcs [(.int .u8)] code)),(3,(.p 0 0 0)),(4,(zcs QB ((Jf code).2))),(5,(.p 4 0 0)),(7,(zci s))],[(0,(.box (Tup.cells QS ((Jf code).1)))),(1,(.sl 4 [.bool] true d3)),(2,(.sl 3 [TI] true d4)),(3,(.sl 3 [TI] true d5)),(4,(.box [(zcs ctOp (((Jf code).1).1)),(zcs [TI] ((Yj (((Jf code).1).1) (w64 ((1:Int)+(Int.tmod (m_at code (0:Int)) (if ((((Jf code).1).1).length:Int)<(4:Int) then ((((Jf code).1).1).length:Int) else (4:Int)))))).1)),(zci (((Jf (Qcs code (5:Int))).1).2.2.1)),(.r [.bool] 1 0 d3.length),(.r [TI] 2 0 d4.length),(.r [TI] 3 0 d5.length)]))],5⟩
theorem QtZ (code:List Int) (s:Int) (d3:List Bool) (d4:List Int) (d5:List Int) (h :
 let z2:=Jf code
 let z3:=Yj ((z2.1).1) (w64 ((1:Int)+(Int.tmod (m_at code (0:Int)) (if (((z2.1).1).length:Int)<(4:Int) then (((z2.1).1).length:Int) else (4:Int)))))
 let z1:=JB ((z2.1).1,z3.1,w64 ((1:Int)+(Int.tmod (m_at code (9:Int)) (2:Int))),(List.take d3.length (List.drop 0 d3)),(List.take d4.length (List.drop 0 d4)),(List.take d5.length (List.drop 0 d5))) (z2.2)
 let z4:=w64 (s+(1:Int))
 let z5:=JB (z2.1) (z2.2)
 (zif (decide (s≤((z3.1).length:Int))) (((p_at code z4)∧((¬ ((2:Int):Int)=0)∧((d3.length=d3.length∨d3.length+1≤d3.length)∧d3.length+1≤big)))∧(((d5.length=d5.length∨d5.length+1≤d5.length)∧d5.length+1≤big)∧(zif (decide (s>(0:Int))) (((p_at code s)∧((¬ ((5:Int):Int)=0)∧((d4.length=d4.length∨d4.length+1≤d4.length)∧d4.length+1≤big)))∧(QfF K code z4 (List.take (d3.length+1) ((List.take d3.length d3)++([((Int.tmod (m_at code z4) (2:Int))==(0:Int))]))) (List.take (d4.length+1) ((List.take d4.length d4)++([w64 ((1:Int)+(Int.tmod (m_at code s) (5:Int)))]))) (List.take (d5.length+1) ((List.take d5.length d5)++([(100000:Int)]))))) (QfF K code z4 (List.take (d3.length+1) ((List.take d3.length d3)++([((Int.tmod (m_at code z4) (2:Int))==(0:Int))]))) (List.take d4.length d4) (List.take (d5.length+1) ((List.take d5.length d5)++([(100000:Int)]))))))) (((p_at code (9:Int))∧(¬ ((2:Int):Int)=0))∧K (QbY (((((z5.2)==(0:Int))&&((z1.2)==(0:Int)))&&(m_eq (α:=QZ) (z5.1) (z1.1)))&&((((z5.1).1).length:Int)==(((z2.1).1).length:Int))))))):QfF K code s d3 d4 d5 :=
 Loop.of (by kernel_rfl) h
theorem QBa (code:List Int) (h :
 (zif (Qfm code) (K (QbY true)) ((Y8 code)∧((Y8 (Qcs code (5:Int)))∧(zif ((Zj ((Jf code).1) ((Jf code).2)) != (0:Int)) (K (QbY true)) (((p_at code (0:Int))∧(¬ ((if ((((Jf code).1).1).length:Int)<(4:Int) then ((((Jf code).1).1).length:Int) else (4:Int)):Int)=0))∧(QfF K code 0 ([]:List Bool) ([]:List Int) ([]:List Int)))))))):Hold (tawp Qll (0+0) QJz (TQ 0 0 Qq0 K) (Qf [(.c (.sl [(.int .u8)]) code)])) :=
 Hold.of (by kernel_rfl) h
theorem l_FnAnyWay_h (code:List Int) (hp:QgJ code):TCon Tryz.prog 10 [(.c (.sl [(.int .u8)]) code)] (QbY (QdF code)):=by
 refine Qq rfl fun hb=>tcg (n:=127) (sg:=QAn.sg) Qj (TOk.cons QN7 (TOk.cons QHm (TOk.cons QQy (TOk.cons QJR (TOk.cons QO3 (TOk.cons QFu (TOk.cons QDI (TOk.cons QM1 TOk.nil)))))))) (by kernel_rfl) (by kernel_rfl) (QBa _ code ?_)
 have hl_code:code.length≤9223372036854775807:=hb.1.1
 refine ⟨fun _=>R_eq rfl,fun hb=>?_⟩
 have hn:=QKy hb
 have hfr:Y8 (Qcs code 5):=by
  have h:(Qcs code 5).length≤1000:=QNp code 5
  unfold Y8;omega
 obtain ⟨⟨c,b⟩,hr⟩:∃ r,Jf code=r:=⟨_,rfl⟩
 rw [hr]
 simp only
 refine ⟨hn,hfr,fun h=>R_eq rfl,fun h=>?_⟩
 have h0:Zj c b=0:=by simpa using h
 have A:=Qi8 h0
 have hml:1≤c.1.length∧c.1.length≤8:=Yx A.model
 have hk4:1≤(if (c.1.length:Int)<4 then (c.1.length:Int) else 4)∧(if (c.1.length:Int)<4 then (c.1.length:Int) else 4)≤4∧(if (c.1.length:Int)<4 then (c.1.length:Int) else 4)≤c.1.length:=by
  by_cases hh:(c.1.length:Int)<4
  ·rw [if_pos hh];omega
  ·rw [if_neg hh];omega
 obtain ⟨mn,hmn⟩:∃ k,(if (c.1.length:Int)<4 then (c.1.length:Int) else 4)=k:=⟨_,rfl⟩
 rw [hmn] at hk4 ⊢
 obtain ⟨m1,m2⟩:=Qoq hp hn (i:=0) (n:=mn) (by omega) (by omega) (by omega)
 obtain ⟨n,hnn⟩:∃ k,w64 (1+Int.tmod (m_at code 0) mn)=k:=⟨_,rfl⟩
 have hn1:1≤n∧n≤mn:=by rw [← hnn,Qo (by omega) (by omega)];omega
 obtain ⟨bc1,bc2⟩:=QOy A.model hn1.1 (by have:(QV c).length=c.1.length:=rfl;omega)
 have hlen:(Yj c.1 n).1.length≤3:=by have:(((Yj c.1 n).1.length:Nat):Int)=n-1:=bc2;omega
 refine ⟨⟨Int.le_refl 0,by omega⟩,?_⟩
 have key:∀ (k s:Nat) (d3:List Bool) (d4 d5:List Int),s+k=(Yj c.1 n).1.length+1→d3.length=s→d4.length=s-1→d5.length=s→(∀ x,x∈d4→1≤x∧x≤5)→(∀ x,x∈d5→x=100000) →
   QfF (fun r'=>r'=QbY (QdF code)) code (s:Int) d3 d4 d5:=by
  intro k
  induction k with
  | zero =>
   intro s d3 d4 d5 h1 h2 h3 h4 h5 h6
   refine QtZ (fun r'=>r'=QbY (QdF code)) code _ _ _ _ ?_
   conv=>zeta
   rw [hr]
   simp only
   rw [hmn,hnn]
   simp only [JP]
   have a9:=Qoq hp hn (i:=9) (n:=2) (by omega) (by omega) (by omega)
   have B:Adm (c.1,(Yj c.1 n).1,w64 (1+Int.tmod (m_at code 9) 2),d3,d4,d5) b:=by
    refine QqB A.model A.batch bc1 hlen ?_ (by show d3.length=(Yj c.1 n).1.length+1;omega) (by show d4.length=(Yj c.1 n).1.length;omega) h5 (by show d5.length=(Yj c.1 n).1.length+1;omega) fun j hj=>?_
    ·show 1≤w64 (1+Int.tmod (m_at code 9) 2)∧w64 (1+Int.tmod (m_at code 9) 2)≤2
     rw [Qo (by omega) (by omega)];omega
    ·have hpk:=QoP (c.1,(Yj c.1 n).1,w64 (1+Int.tmod (m_at code 9) 2),d3,d4,d5) (j:Int) b.length
     have hx:gtd 0 d5 j=100000:=h6 _ (Y7 hj 0)
     show _≤gtd 0 d5 j∧gtd 0 d5 j≤100000
     rw [hx]
     omega
   have hB:=QkW B
   have hq:(Qa1 c.1 b).1.length=c.1.length:=QPW A.batch
   refine ⟨fun h=>by simp at h;omega,fun _=>⟨⟨show (0:Int)≤9 by omega,by omega⟩,R_eq ?_⟩⟩
   unfold JB
   rw [hB,h0]
   simp [m_eq,QdF,hq]
  | succ k ih =>
   intro s d3 d4 d5 h1 h2 h3 h4 h5 h6
   refine QtZ (fun r'=>r'=QbY (QdF code)) code _ _ _ _ ?_
   conv=>zeta
   rw [hr]
   simp only
   rw [hmn,hnn,sc1 (by omega)]
   simp only [Zq]
   have a5:=Qoq hp hn (i:=(s:Int)) (n:=5) (by omega) (by omega) (by omega)
   have h6':∀ x,x∈d5++[(100000:Int)]→x=100000:=fun x hx=>by
    rcases List.mem_append.1 hx with hx | hx
    ·exact h6 x hx
    ·exact List.mem_singleton.1 hx
   refine ⟨fun _=>⟨⟨show (0:Int)≤_ by omega,by omega,.inl (by trivial),by rw [Zi];omega⟩,⟨.inl (by trivial),by rw [Zi];omega⟩,fun hs=>?_,fun hs=>?_⟩,fun h=>by simp at h;omega⟩
   ·have hs:0<s:=by have:=of_decide_eq_true hs;omega
    refine ⟨⟨show (0:Int)≤_ by omega,by omega,.inl (by trivial),by rw [Zi];omega⟩,ih (s+1) _ _ _ (by omega) (by simp;omega) (by simp;omega) (by simp;omega) (fun x hx=>?_) h6'⟩
    rcases List.mem_append.1 hx with hx | hx
    ·exact h5 x hx
    ·rw [List.mem_singleton.1 hx,Qo (by omega) (by omega)];omega
   ·have hs:s=0:=by have:=of_decide_eq_false hs;omega
    rw [List.take_length]
    exact ih (s+1) _ _ _ (by omega) (by simp;omega) (by omega) (by simp;omega) h5 h6'
 exact key ((Yj c.1 n).1.length+1) 0 [] [] [] (by omega) rfl rfl rfl (fun x hx=>by cases hx) (fun x hx=>by cases hx)
end
end Go.Proofs.YtjbdljkhbglnhaaGreat.Am

