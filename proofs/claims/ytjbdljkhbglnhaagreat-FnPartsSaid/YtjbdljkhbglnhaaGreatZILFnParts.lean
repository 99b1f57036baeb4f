/-
  Written by program: the code of functions, what it asks, and that it comes to what the models say.
-/
import Derived.Test.YtjbdljkhbglnhaaGreatZID1
import Derived.Test.YtjbdljkhbglnhaaGreatZID8
import Derived.Test.YtjbdljkhbglnhaaGreatZIPR
import Derived.Test.YtjbdljkhbglnhaaGreatZIPU
import Derived.Test.YtjbdljkhbglnhaaGreatZIKN
namespace Go.Proofs.YtjbdljkhbglnhaaGreat.Am
open Go Go.RowKit Go.Proofs.YtjbdljkhbglnhaaGreat
set_option linter.all false
set_option maxHeartbeats 2000000
noncomputable section
variable (K:TRes→Prop)
def QeD (t:Bool):TRes:=zre (zcb t)
def QES:TRow:=Qk 11 [(.c (.sl [(.int .u8)]))] fun x=>(some (QgZ x.1),QeD (QfQ x.1))
def QuN:List TRow:=[Qnn,Qoz,QlF,QpU,Qnd,QlA]
def QxH:TCode :=
 (zsq [(.draw [zLd 22 3 4,zmv 23 4,zmv 24 5,zop 25 (.slc 23 none (some 24) [TI]),zca 26 17 [22,25],zmv 27 4,zmv 28 5,zop 29 (.slc 27 (some 28) none [TI]),zca 30 17 [26,29],zLd 31 3 4,zmv 32 4,zca 33 17 [31,32],zca 34 35 [30,33],zmv 35 34,.grp 35 true [zLd 36 3 4,zmv 37 4,zca 38 17 [36,37],zLd 39 3 4,zmv 40 4,zca 41 27 [39,40],zca 42 35 [38,41]] 43 42,zmv 2 43] [(4,7),(4,9),(8,9),(16,17)]),.ret])
def QXR:List (Nat × Md):=[(3,.b (zds 4)),(4,.one .d),(5,.one .d)]
def QUG:TCode:=.wk QXR QxH
def QNP:TCode :=
 (zsq [(.reg [zmv 2 (zkb false)]),(zsq [(.reg [zmv 6 0,zca 7 13 [6]]),(.cond 7 (zsq [(.reg [zmv 2 (zkb true)]),.ret]) .skip)]),(.reg [zmv 9 0,zca 10 66 [9],zmv 8 10,zex 11 8 0,zex 12 8 1,zop 3 (.new 37 (z0s QE)),zst 3 11 4,zmv 4 12]),(.reg [zmv 5 (zki 0)]),(zsq [(.reg [zmv 13 4,zle 14 13,zbi 15 .gtr 14 (zki 0)]),(.cond 15 (.reg [zmv 16 0,zca 17 29 [16,(zki 0)],zmv 18 4,zle 19 18,zbi 20 .add 19 (zki 1),zbi 21 .rem 17 20,zmv 5 21]) .skip)]),QUG])
def Qrd:List (ARv × Md):=[(.t 2,.one .d)]
def QIv:Qb:=TQ 0 0 Qrd K
@[irreducible] def Qgw (code:List Int) (k:Int):Prop:=tawp QuN 0 QxH (QIv K) ⟨[(3,(.p 0 0 0)),(4,(zcs [TI] ((QaZ code).2))),(5,(zci k))],[(0,(.box (Tup.cells QE ((QaZ code).1))))],1⟩
theorem QLw (code:List Int) (k:Int) (h :
 let z1:=QaZ code
 let z3:=List.take (Int.toNat k-Int.toNat (0:Int)) (List.drop (Int.toNat (0:Int)) (z1.2))
 let z4:=YI (z1.1) (z1.2)
 let z5:=List.take (Int.toNat ((z1.2).length:Int)-Int.toNat k) (List.drop (Int.toNat k) (z1.2))
 let z2:=YI (YI (z1.1) z3) z5
 ((((0:Int)≤(0:Int)∧(0:Int)≤k∧k≤((z1.2).length:Int))∧((JG (z1.1) z3)∧(((0:Int)≤k∧k≤((z1.2).length:Int)∧((z1.2).length:Int)≤((z1.2).length:Int))∧((JG (YI (z1.1) z3) z5)∧((JG (z1.1) (z1.2))∧((QdM z2 z4)∧((m_eq (α:=Qe) z2 z4)=true→((JG (z1.1) (z1.2))∧((JG (z1.1) (z1.2))∧(QdM z4 z4))))))))))∧K (QeD ((m_eq (α:=Qe) z2 z4)&&(m_eq (α:=Qe) z4 z4))))):Hold (Qgw K code k) :=
 Hold.of (by kernel_rfl) h
theorem QXt (code:List Int) (h :
 (zif (QfR code) (K (QeD true)) ((JO code)∧(zif (decide ((((QaZ code).2).length:Int)>(0:Int))) (((p_at code (0:Int))∧(¬ (w64 ((((QaZ code).2).length:Int)+(1:Int)):Int)=0))∧(Qgw K code (Int.tmod (m_at code (0:Int)) (w64 ((((QaZ code).2).length:Int)+(1:Int)))))) (Qgw K code 0))))):Hold (tawp QuN (0+0) QNP (TQ 0 0 Qrd K) (Qi [(.c (.sl [(.int .u8)]) code)])) :=
 Hold.of (by kernel_rfl) h
theorem l_FnParts_h (code:List Int) (hp:QgZ code):TCon Tryz.prog 11 [(.c (.sl [(.int .u8)]) code)] (QeD (QfQ code)):=by
 refine Qo rfl fun hb=>tcg (n:=44) (sg:=QES.sg) Qm (TOk.cons QV3 (TOk.cons QXf (TOk.cons QW6 (TOk.cons QWu (TOk.cons QXe (TOk.cons QFR TOk.nil)))))) (by kernel_rfl) (by kernel_rfl) (QXt _ code ?_)
 have hl_code:code.length≤9223372036854775807:=hb.1.1
 refine ⟨fun _=>R_eq rfl,fun hb=>?_⟩
 have hn:=QU9 hb
 have hpost:=QLR code hn
 obtain ⟨⟨p,l⟩,hr⟩:∃ r,QaZ code=r:=⟨_,rfl⟩
 rw [hr] at hpost ⊢
 simp only
 obtain ⟨hz,hl⟩:Sz.sz p≤40000∧l.length≤61:=hpost
 have key:∀ n:Nat,n≤l.length→Qgw (fun r'=>r'=QeD (QfQ code)) code (n:Int):=by
  intro n h2
  refine (QLw (fun r'=>r'=QeD (QfQ code)) code (n:Int) ?_).h
  conv=>zeta
  rw [hr]
  simp only
  have e1:List.take (Int.toNat (n:Int)-Int.toNat 0) (List.drop (Int.toNat 0) l)=l.take n:=by
   rw [Int.toNat_natCast];rfl
  have e2:List.take (Int.toNat (l.length:Int)-Int.toNat (n:Int)) (List.drop (Int.toNat (n:Int)) l)=l.drop n:=by
   rw [Int.toNat_natCast,Int.toNat_natCast,List.take_of_length_le (by simp)]
  rw [e1,e2,QQP p l n (by omega)]
  have hs1:=QAn p (l.take n)
  have hs2:=QAn p l
  refine ⟨⟨⟨by omega,by omega,by omega⟩,by unfold JG;omega,⟨by omega,by omega,by omega⟩,by unfold JG;omega,by unfold JG;omega,by unfold QdM;omega,fun _=>⟨by unfold JG;omega,by unfold JG;omega,by unfold QdM;omega⟩⟩,R_eq ?_⟩
  simp [m_eq,QfQ]
 have hw:w64 ((l.length:Int)+1)=(l.length:Int)+1:=Qp (by omega) (by omega)
 rw [hw]
 refine ⟨hn,fun h=>?_,fun h=>key 0 (by omega)⟩
 have hm:=QUT hp hn (i:=0) (n:=(l.length:Int)+1) (by omega) (by omega) (by omega)
 obtain ⟨n,en⟩:=Int.eq_ofNat_of_zero_le hm.1
 rw [en] at hm ⊢
 exact ⟨⟨Int.le_refl 0,by omega⟩,key n (by omega)⟩
end
end Go.Proofs.YtjbdljkhbglnhaaGreat.Am

