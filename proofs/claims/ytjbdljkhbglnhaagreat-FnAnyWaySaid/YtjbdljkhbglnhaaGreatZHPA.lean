/- -/
import Derived.Test.YtjbdljkhbglnhaaGreatZHP1
import Derived.Test.YtjbdljkhbglnhaaGreatZHP9
import Derived.Test.YtjbdljkhbglnhaaGreatZHP2
namespace Go.Proofs.YtjbdljkhbglnhaaGreat.Am
open Go Go.RowKit Go.Proofs.YtjbdljkhbglnhaaGreat
set_option linter.all false
noncomputable section
variable (K:TRes→Prop)
def QeZ (t:TIns):TRes:=zre (.a [(zci t.1),(zci t.2)])
def Qgz:TRow:=Qg 96 [(.a Q9),(.c TI)] fun x=>(none,QeZ (Qt x.1 x.2.1))
def QON:List TRow:=[]
def QMS:TCode :=
 (zsq [(.reg [zop 2 (.box 37 0 4),zop 4 (.new 111 (z0s QP))]),(zsq [(.reg [zmv 6 1,zbi 7 .lss 6 (zki 0),zmv 8 7,.grp 8 false [zmv 9 1,zfa 10 2 1,zld 11 10 1,zle 12 11,zbi 13 .geq 9 12] 14 13]),(.cond 14 (zsq [(.reg [zop 15 (.build (z0s QP) []),zst 4 15 2]),.ret]) .skip)]),(.reg [zfa 16 2 1,zld 17 16 1,zmv 18 1,zia 19 17 18 Qx,zLd 20 19 14,zop 5 (.new 63 (z0s Qx)),zst 5 20 14]),(zsq [(.reg [zfa 21 5 0,zld 22 21 1,zbi 23 .lss 22 (zki 0),zmv 24 23,.grp 24 false [zfa 25 5 0,zld 26 25 1,zfa 27 5 1,zld 28 27 1,zle 29 28,zbi 30 .geq 26 29] 31 30]),(.cond 31 (zsq [(.reg [zop 32 (.build (z0s QP) []),zst 4 32 2]),.ret]) .skip)]),(.reg [zfa 33 5 1,zld 34 33 1,zfa 35 5 0,zld 36 35 1,zia 37 34 36 QP,zLd 38 37 2,zst 4 38 2]),.ret])
def QH6:List (ARv × Md):=[(.l 4 2 true,.b [.d,.d])]
theorem QMx (p:Qr) (s:Int) (h :
 (zif ((decide (s<(0:Int)))||(decide (s≥((p.2.1).length:Int)))) (K (QeZ ((0:Int),(0:Int)))) (((0:Int)≤s∧Int.toNat s<(p.2.1).length)∧(zif ((decide (((gtd QQ p.2.1 (Int.toNat s)).1)<(0:Int)))||(decide (((gtd QQ p.2.1 (Int.toNat s)).1)≥(((gtd QQ p.2.1 (Int.toNat s)).2.1).length:Int)))) (K (QeZ ((0:Int),(0:Int)))) (((0:Int)≤(gtd QQ p.2.1 (Int.toNat s)).1∧Int.toNat ((gtd QQ p.2.1 (Int.toNat s)).1)<((gtd QQ p.2.1 (Int.toNat s)).2.1).length)∧K (QeZ (gtd dIns ((gtd QQ p.2.1 (Int.toNat s)).2.1) (Int.toNat ((gtd QQ p.2.1 (Int.toNat s)).1))))))))):Hold (tawp QON (0+0) QMS (TQ 0 0 QH6 K) (Qf [(.a (Tup.cells Q9 p)),(.c TI s)])) :=
 Hold.of (by kernel_rfl) h
theorem QGL (p:Qr) (s:Int):TCon Tryz.prog 96 [(.a (Tup.cells Q9 p)),(.c TI s)] (QeZ (Qt p s)):=by
 refine Qq rfl fun hb=>tcg (n:=39) (sg:=Qgz.sg) Qj TOk.nil (by kernel_rfl) (by kernel_rfl) (QMx _ p s ?_)
 have hl_p_0:(p.1).length≤9223372036854775807:=hb.1.1.1
 have hl_p_1:(p.2.1).length≤9223372036854775807:=hb.1.2.1.1
 have hl_p_2:(p.2.2.1).length≤9223372036854775807:=hb.1.2.2.1.1
 have hl_p_3:(p.2.2.2).length≤9223372036854775807:=hb.1.2.2.2.1.1
 refine ⟨fun h=>R_eq ?_,fun h=>?_⟩
 ·have h0:m_in s 0 (p.2.1.length-1)=false:=by simp at h;simp [m_in];omega
  simp [Qt,h0]
 have h0:m_in s 0 (p.2.1.length-1)=true:=by simp at h;simp [m_in];omega
 have h1:=QJ.1 h0
 have hlt:s.toNat<p.2.1.length:=by omega
 refine ⟨⟨h1.1,hlt⟩,fun h=>R_eq ?_,fun h=>?_⟩
 ·have h2:m_in (gtd QQ p.2.1 s.toNat).1 0 ((gtd QQ p.2.1 s.toNat).2.1.length-1)=false:=by simp at h;simp [m_in];omega
  simp [Qt,h0,Qee,h2]
 ·have h2:m_in (gtd QQ p.2.1 s.toNat).1 0 ((gtd QQ p.2.1 s.toNat).2.1.length-1)=true:=by simp at h;simp [m_in];omega
  have h3:=QJ.1 h2
  refine ⟨⟨h3.1,by omega⟩,R_eq ?_⟩
  simp [Qt,h0,Qee,h2]
theorem Qwh:Qh Tryz.prog Qgz:=Qk fun x _=>QGL x.1 x.2.1
def Y6 (t:Bool):TRes:=zre (zcb t)
def QnW:TRow:=Qg 34 [(.a Q9),(.c TI)] fun x=>(none,Y6 (YF x.1 x.2.1))
def QeC:List TRow:=[Qkh,Qgz,Qj8]
def Qs6:TCode :=
 (zsq [(.reg [zbi 94 .lss 93 92]),(.cond 94 .skip (.exit 1)),(.block 2 (zsq [(.reg [zia 95 91 93 Qx,zLd 96 95 14,zop 7 (.new 63 (z0s Qx)),zst 7 96 14]),(.reg [zfa 97 7 0,zld 98 97 1,zfa 99 7 1,zld 100 99 1,zle 101 100,zbi 102 .sub 101 (zki 1),zbi 103 .lss 98 102]),(.cond 103 (zsq [(.reg [zmv 4 (zkb false)]),.ret]) .skip)])),(.reg [zbi 104 .add 93 (zki 1),zmv 93 104])])
def Qs2:List (Nat × Md):=zdl [91,92,93]
def QuZ:TCode :=
 (zsq [(.reg [zmv 4 (zkb true)]),.ret])
def Qqz:TCode :=
 (.cond 84 (zsq [(.reg [zmv 4 (zkb true)]),.ret]) (zsq [(.reg [zbi 89 .eql 31 (zki 8),zmv 88 89]),(.cond 88 (zsq [(zsq [(.reg [zfa 90 2 1,zld 91 90 1,zle 92 91,zmv 93 (zki 0)]),(.block 1 (.loop Qs2 Qs6))]),QuZ]) .skip)]))
def QLL:List (Nat × Md):=[(2,.b (zds 4)),(31,.one .d),(84,.one .d)]
def QHt:TCode:=.wk QLL Qqz
def QzP:TCode :=
 (zsq [(.reg [zmv 4 (zkb false)]),.ret])
def QLl:TCode :=
 (zsq [(.reg [zop 2 (.box 37 0 4),zmv 4 (zkb false)]),(zsq [(.reg [zLd 8 2 4,zca 9 58 [8],zno 10 9,zmv 11 10,.grp 11 false [zmv 12 1,zbi 13 .lss 12 (zki 0)] 14 13,zmv 15 14,.grp 15 false [zmv 16 1,zfa 17 2 1,zld 18 17 1,zle 19 18,zbi 20 .geq 16 19] 21 20]),(.cond 21 (zsq [(.reg [zmv 4 (zkb false)]),.ret]) .skip)]),(.reg [zmv 22 1,zfa 23 2 1,zld 24 23 1,zle 25 24,zbi 26 .sub 25 (zki 1),zbi 27 .lss 22 26,zmv 5 27]),(zsq [(.reg [zLd 28 2 4,zmv 29 1,zca 30 96 [28,29],zop 31 (.fld 30 0 1 false)]),(.block 0 (zsq [(.reg [zbi 33 .eql 31 (zki 1),zmv 32 33]),(.cond 32 (zsq [(.reg [zmv 34 1,zbi 35 .gtr 34 (zki 0),zmv 36 35,.grp 36 true [zfa 37 2 2,zld 38 37 1,zmv 39 1,zbi 40 .sub 39 (zki 1),zia 41 38 40 QL,zfa 42 41 1,zld 43 42 1,zle 44 43,zbi 45 .gtr 44 (zki 0)] 46 45,zmv 4 46]),.ret]) (zsq [(.reg [zbi 48 .eql 31 (zki 3),zmv 47 48]),(.cond 47 (zsq [(.reg [zmv 49 5,zmv 50 49,.grp 50 true [zfa 51 2 2,zld 52 51 1,zmv 53 1,zia 54 52 53 QL,zLd 55 54 2,zca 56 99 [55]] 57 56,zmv 4 57]),.ret]) (zsq [(.reg [zbi 59 .eql 31 (zki 4),zmv 58 59]),(.cond 58 (zsq [(.reg [zmv 60 5,zmv 61 60,.grp 61 true [zfa 62 2 3,zld 63 62 1,zmv 64 1,zia 65 63 64 QL,zfa 66 65 1,zld 67 66 1,zle 68 67,zbi 69 .gtr 68 (zki 0)] 70 69,zmv 4 70]),.ret]) (zsq [(.reg [zbi 72 .eql 31 (zki 7),zmv 71 72]),(.cond 71 (zsq [(.reg [zmv 73 1,zbi 74 .gtr 73 (zki 0),zmv 75 74,.grp 75 true [zfa 76 2 3,zld 77 76 1,zmv 78 1,zbi 79 .sub 78 (zki 1),zia 80 77 79 QL,zLd 81 80 2,zca 82 99 [81]] 83 82,zmv 4 83]),.ret]) (zsq [(zsq [(.reg [zbi 85 .eql 31 (zki 2),zmv 84 85]),(.cond 84 .skip (zsq [(.reg [zbi 86 .eql 31 (zki 5),zmv 84 86]),(.cond 84 .skip (.reg [zbi 87 .eql 31 (zki 6),zmv 84 87]))]))]),QHt]))]))]))]))]))]),QzP])
def Quy:List (ARv × Md):=[(.t 4,.one .d)]
def QvJ:Qb:=TQ 0 0 Quy K
def QBL:Qb:=Qseq (tawp QeC 0 QzP (QvJ K)) (QvJ K)
def QmG:Qb:=Qblk 0 (QBL K)
def QFH:Qb:=Qseq (tawp QeC 0 QuZ (QmG K)) (QmG K)
def QJ1:Qb:=Qblk 1 (QFH K)
def Qft (p:Qr) (x1:Int):Prop:=Loop QeC 0 Qs2 Qs6 (QJ1 K) ⟨[(91,(zcs Qx p.2.1)),(92,(zci ((p.2.1).length:Int))),(93,(zci x1))],[],0⟩
@[irreducible] def Qek (p:Qr) (s:Int) (x:Bool):Prop:=tawp QeC 0 Qqz (QmG K) ⟨[(2,(.p 0 0 0)),(31,(zci ((Qt p s).1))),(84,(zcb x))],[(0,(.box (Tup.cells Q9 p)))],1⟩
theorem QpX (p:Qr) (x1:Int) (h :
 (zif (decide (x1<((p.2.1).length:Int))) (((0:Int)≤x1∧Int.toNat x1<(p.2.1).length)∧(zif (decide (((gtd QQ p.2.1 (Int.toNat x1)).1)<(w64 ((((gtd QQ p.2.1 (Int.toNat x1)).2.1).length:Int)-(1:Int))))) (K (Y6 false)) (Qft K p (w64 (x1+(1:Int)))))) (K (Y6 true)))):Qft K p x1 :=
 Loop.of (by kernel_rfl) h
theorem QGX (p:Qr) (s:Int) (x:Bool) (h :
 (zif x (K (Y6 true)) (zif (((Qt p s).1)==(8:Int)) (Qft K p 0) (K (Y6 false))))):Hold (Qek K p s x) :=
 Hold.of (by kernel_rfl) h
theorem QH8 (p:Qr) (s:Int) (h :
 (zif (((!(ZZ p))||(decide (s<(0:Int))))||(decide (s≥((p.2.1).length:Int)))) (K (Y6 false)) (zif (((Qt p s).1)==(1:Int)) (((decide (s>(0:Int)))=true→((0:Int)≤w64 (s-(1:Int))∧Int.toNat (w64 (s-(1:Int)))<(p.2.2.1).length))∧K (Y6 ((decide (s>(0:Int)))&&(decide ((((gtd QW p.2.2.1 (Int.toNat (w64 (s-(1:Int))))).2).length:Int)>(0:Int)))))) (zif (((Qt p s).1)==(3:Int)) (((decide (s<(w64 (((p.2.1).length:Int)-(1:Int)))))=true→((0:Int)≤s∧Int.toNat s<(p.2.2.1).length))∧K (Y6 ((decide (s<(w64 (((p.2.1).length:Int)-(1:Int)))))&&(Qbo (gtd QW p.2.2.1 (Int.toNat s)))))) (zif (((Qt p s).1)==(4:Int)) (((decide (s<(w64 (((p.2.1).length:Int)-(1:Int)))))=true→((0:Int)≤s∧Int.toNat s<(p.2.2.2).length))∧K (Y6 ((decide (s<(w64 (((p.2.1).length:Int)-(1:Int)))))&&(decide ((((gtd QW p.2.2.2 (Int.toNat s)).2).length:Int)>(0:Int)))))) (zif (((Qt p s).1)==(7:Int)) (((decide (s>(0:Int)))=true→((0:Int)≤w64 (s-(1:Int))∧Int.toNat (w64 (s-(1:Int)))<(p.2.2.2).length))∧K (Y6 ((decide (s>(0:Int)))&&(Qbo (gtd QW p.2.2.2 (Int.toNat (w64 (s-(1:Int))))))))) (zif (((Qt p s).1)==(2:Int)) (Qek K p s (((Qt p s).1)==(2:Int))) (zif (((Qt p s).1)==(5:Int)) (Qek K p s (((Qt p s).1)==(5:Int))) (Qek K p s (((Qt p s).1)==(6:Int))))))))))):Hold (tawp QeC (0+0) QLl (TQ 0 0 Quy K) (Qf [(.a (Tup.cells Q9 p)),(.c TI s)])) :=
 Hold.of (by kernel_rfl) h
theorem QFI (p:Qr) (s:Int):TCon Tryz.prog 34 [(.a (Tup.cells Q9 p)),(.c TI s)] (Y6 (YF p s)):=by
 refine Qq rfl fun hb=>tcg (n:=105) (sg:=QnW.sg) Qj (TOk.cons QCr (TOk.cons Qwh (TOk.cons QGD TOk.nil))) (by kernel_rfl) (by kernel_rfl) (QH8 _ p s ?_)
 have hl_p_0:(p.1).length≤9223372036854775807:=hb.1.1.1
 have hl_p_1:(p.2.1).length≤9223372036854775807:=hb.1.2.1.1
 have hl_p_2:(p.2.2.1).length≤9223372036854775807:=hb.1.2.2.1.1
 have hl_p_3:(p.2.2.2).length≤9223372036854775807:=hb.1.2.2.2.1.1
 by_cases h0:(ZZ p&&m_in s 0 (p.2.1.length-1))=true
 rotate_left
 ·refine ⟨fun h=>R_eq (by grind [YF]),fun h=>by grind [m_in]⟩
 have h00:=h0
 simp only [Bool.and_eq_true,QJ] at h00
 have hp2:=h00.1
 simp only [ZZ,Bool.and_eq_true,QJ,beq_iff_eq] at hp2
 have e1:w64 ((p.2.1.length:Int)-1)=p.2.1.length-1:=Qo (by omega) (by omega)
 have e2:w64 (s-1)=s-1:=Qo (by omega) (by omega)
 rw [e1,e2]
 have e4:Int.toNat (s-1)=s.toNat-1:=by omega
 rw [e4]
 have hM:(YF p s)=QaQ p s (Qt p s).1:=by unfold YF;rw [h0,Bool.true_and]
 have hall:QaQ p s (Qt p s).1=Qe5 p→Qft (fun r'=>r'=Y6 (YF p s)) p ((0:Nat):Int):=by
  intro hm
  refine ZL p.2.1 (fun r k=>r.all Qbh=p.2.1.all Qbh→Qft (fun r'=>r'=Y6 (YF p s)) p k) ?_ ?_ rfl
  ·intro he
   refine QpX (fun r'=>r'=Y6 (YF p s)) p _ ⟨fun h=>by simp at h,fun _=>R_eq ?_⟩
   rw [hM,hm];exact he
  ·intro k x r hk hlt hg ih he
   have hmem:x∈p.2.1:=List.mem_of_mem_drop (i:=k) (by rw [hk];exact List.mem_cons_self)
   have hbx:x.2.1.length≤9223372036854775807:=(hb.1.2.1.2 x hmem).2.1.1
   refine QpX (fun r'=>r'=Y6 (YF p s)) p _ ⟨fun _=>?_,fun h=>by simp at h;omega⟩
   rw [Int.toNat_natCast,hg,Qo (x:=(k:Int)+1) (by omega) (by omega),Qo (x:=(x.2.1.length:Int)-1) (by omega) (by omega)]
   rw [List.all_cons] at he
   refine ⟨⟨by omega,hlt⟩,fun h=>R_eq ?_,fun h=>ih ?_⟩
   ·have:Qbh x=false:=by simp at h;simp [Qbh];omega
    rw [this] at he
    rw [hM,hm];exact he
   ·have:Qbh x=true:=by simp at h;simp [Qbh];omega
    rw [this,Bool.true_and] at he
    exact he
 have k2:∀ b:Bool,(b=true→QaQ p s (Qt p s).1=true)→(b=false→QaQ p s (Qt p s).1=if (Qt p s).1=8 then Qe5 p else false)→Qek (fun r'=>r'=Y6 (YF p s)) p s b:=by
  intro b hb1 hb2
  refine (QGX (fun r'=>r'=Y6 (YF p s)) p s _ ⟨fun h=>R_eq ?_,fun h=>⟨fun h8=>hall ?_,fun h8=>R_eq ?_⟩⟩).h
  ·rw [hM,hb1 h]
  ·rw [hb2 h,if_pos (by simpa using h8)]
  ·rw [hM,hb2 h,if_neg (by simpa using h8)]
 clear hall
 generalize (Qt p s).1=kd at *
 refine ⟨fun h=>by grind [m_in],fun _=>⟨fun h1=>⟨fun h=>by simp at h;omega,R_eq ?_⟩,fun h1=>⟨fun h2=>⟨fun h=>by simp at h;omega,R_eq ?_⟩,fun h2=>⟨fun h3=>⟨fun h=>by simp at h;omega,R_eq ?_⟩,fun h3=>⟨fun h4=>⟨fun h=>by simp at h;omega,R_eq ?_⟩,fun h4=>⟨fun h5=>k2 _ ?_ ?_,fun h5=>⟨fun h6=>k2 _ ?_ ?_,fun h6=>k2 _ ?_ ?_⟩⟩⟩⟩⟩⟩⟩
 all_goals (try rw [hM]);simp only [QaQ,Qbo] at *;grind
theorem QGJ:Qh Tryz.prog QnW:=Qk fun x _=>QFI x.1 x.2.1
end
end Go.Proofs.YtjbdljkhbglnhaaGreat.Am

