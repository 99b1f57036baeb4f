/- -/
import Derived.Test.YtjbdljkhbglnhaaGreatZAGD
set_option linter.all false
namespace Go.Proofs.YtjbdljkhbglnhaaGreat.Am
open Go Sz
theorem Qwr {c:Qo} {b:List Qh} (A:Adm c b) {ks:Nat→Nat} (V:Ok c b ks):QdS (QT c b ks):=by
 intro s hs
 have h:=Qpe A V
 simp only [ZZ,Bool.and_eq_true] at h
 have h1:=QvL (QkU h.2.2 s hs).1
 obtain ⟨t,ht,rfl⟩:=List.mem_map.1 hs
 have ht:t<nSt c:=List.mem_range.1 ht
 have h2:(QD (stAt c b t (ks t))).length=lenP c b t:=rfl
 have h3:=QtT A ht
 have h4:b.length≤5:=by
  have:=A.batch
  simp only [ZP,Bool.and_eq_true,QR] at this
  omega
 show sPc (stAt c b t (ks t))≤_
 omega
end Go.Proofs.YtjbdljkhbglnhaaGreat.Am
namespace Go.Proofs.YtjbdljkhbglnhaaGreat.Am
open Go Sz
end Go.Proofs.YtjbdljkhbglnhaaGreat.Am
namespace Go.Proofs.YtjbdljkhbglnhaaGreat.Am
open Go Sz
section
variable {c:Qo} {b:List Qh} (A:Adm c b)
include A
theorem QF2 {ks:Nat→Nat} (V:Ok c b ks) {n:Nat} (h:nSt c*left c b ks≤n) (hn:n≤2000):Y6 (QT c b ks) (n:Int)=QT c b (lenP c b):=by
 have hl:=Qay (c:=c) (b:=b) ks
 have hs:=Jk A
 obtain ⟨ks',h1,h2,h3⟩:=QyY A (left c b ks) n 0 V (Nat.le_refl _) h
 unfold Y6
 rw [if_pos (by rw [hl];omega),Int.toNat_natCast,Nat.min_eq_left hn,h2,QHp A h1 h3]
theorem QCG:left c b (lenP c b)=0:=Qgf.2 (fun _ _=>Nat.le_refl _)
theorem QBc:Qat (QT c b (lenP c b))=true∧Yq (QT c b (lenP c b))=0∧QnX (QT c b (lenP c b))=Qi2 (Q0 c) b∧QdS (QT c b (lenP c b)):=by
 have h:=QCG A
 refine ⟨by rw [Qy9 A (Qi3 A),h];rfl,by rw [Ql5 A (Qi3 A),h];rfl,QIO A,Qwr A (Qi3 A)⟩
theorem Qvx:Qab c b.length=(left c b (fun _=>0):Nat)∧left c b (fun _=>0)≤144∧nSt c*left c b (fun _=>0)≤576:=by
 have h1:=Qww A (ks:=fun _=>0)
 have h2:=Jk A
 exact ⟨QOT A,h1,Nat.le_trans (Nat.mul_le_mul h2.2 h1) (by omega)⟩
theorem QNI:Y6 (Ys c b) (w64 (Qab c b.length*((Ys c b).2.1.length:Int)))=QT c b (lenP c b):=by
 obtain ⟨t1,t2,t3⟩:=Qvx A
 have hlen:(QT c b (fun _=>0)).2.1.length=nSt c:=Qay _
 rw [QmR A,hlen,t1]
 have e:((left c b (fun _=>0):Nat):Int)*((nSt c:Nat):Int)=((nSt c*left c b (fun _=>0):Nat):Int):=by rw [Int.mul_comm];exact (Int.natCast_mul _ _).symm
 rw [e,Qp (by omega) (by omega)]
 exact QF2 A (QkI A) (Nat.le_refl _) (by omega)
theorem QEG:b.length≤5:=by
 have:=A.batch
 simp only [ZP,Bool.and_eq_true,QR] at this
 omega
end
end Go.Proofs.YtjbdljkhbglnhaaGreat.Am

