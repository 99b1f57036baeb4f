/- -/
import Derived.Test.YtjbdljkhbglnhaaGreatZAGD
set_option linter.all false
namespace Go.Proofs.YtjbdljkhbglnhaaGreat.Am
open Go Sz
theorem Quh {c:Qo} {b:List Qj} (A:Adm c b) {ks:Nat→Nat} (V:Ok c b ks):Qc7 (QT c b ks):=by
 intro s hs
 have h:=Qzy A V
 simp only [ZV,Bool.and_eq_true] at h
 have h1:=QyU (Qlf h.2.2 s hs).1
 obtain ⟨t,ht,rfl⟩:=List.mem_map.1 hs
 have ht:t<nSt c:=List.mem_range.1 ht
 have h2:(QD (stAt c b t (ks t))).length=lenP c b t:=rfl
 have h3:=Qoo A ht
 have h4:b.length≤5:=by
  have:=A.batch
  simp only [ZQ,Bool.and_eq_true,QR] at this
  omega
 show sPc (stAt c b t (ks t))≤_
 omega
end Go.Proofs.YtjbdljkhbglnhaaGreat.Am
namespace Go.Proofs.YtjbdljkhbglnhaaGreat.Am
open Go Sz
end Go.Proofs.YtjbdljkhbglnhaaGreat.Am
namespace Go.Proofs.YtjbdljkhbglnhaaGreat.Am
open Go Sz
section
variable {c:Qo} {b:List Qj} (A:Adm c b)
include A
theorem QDu {ks:Nat→Nat} (V:Ok c b ks) {n:Nat} (h:nSt c*left c b ks≤n) (hn:n≤2000):Jb (QT c b ks) (n:Int)=QT c b (lenP c b):=by
 have hl:=QaP (c:=c) (b:=b) ks
 have hs:=Jn A
 obtain ⟨ks',h1,h2,h3⟩:=Qpq A (left c b ks) n 0 V (Nat.le_refl _) h
 unfold Jb
 rw [if_pos (by rw [hl];omega),Int.toNat_natCast,Nat.min_eq_left hn,h2,QLJ A h1 h3]
theorem QPy:left c b (lenP c b)=0:=Qil.2 (fun _ _=>Nat.le_refl _)
theorem QQr:QaJ (QT c b (lenP c b))=true∧Yt (QT c b (lenP c b))=0∧QkP (QT c b (lenP c b))=QiR (Q0 c) b∧Qc7 (QT c b (lenP c b)):=by
 have h:=QPy A
 refine ⟨by rw [QqO A (QgL A),h];rfl,by rw [QnZ A (QgL A),h];rfl,QLF A,Quh A (QgL A)⟩
theorem Qqj:Qaj c b.length=(left c b (fun _=>0):Nat)∧left c b (fun _=>0)≤144∧nSt c*left c b (fun _=>0)≤576:=by
 have h1:=QtA A (ks:=fun _=>0)
 have h2:=Jn A
 exact ⟨QIW A,h1,Nat.le_trans (Nat.mul_le_mul h2.2 h1) (by omega)⟩
theorem QBe:Jb (Yn c b) (w64 (Qaj c b.length*((Yn c b).2.1.length:Int)))=QT c b (lenP c b):=by
 obtain ⟨t1,t2,t3⟩:=Qqj A
 have hlen:(QT c b (fun _=>0)).2.1.length=nSt c:=QaP _
 rw [Qj2 A,hlen,t1]
 have e:((left c b (fun _=>0):Nat):Int)*((nSt c:Nat):Int)=((nSt c*left c b (fun _=>0):Nat):Int):=by rw [Int.mul_comm];exact (Int.natCast_mul _ _).symm
 rw [e,Qp (by omega) (by omega)]
 exact QDu A (QlU A) (Nat.le_refl _) (by omega)
theorem QGy:b.length≤5:=by
 have:=A.batch
 simp only [ZQ,Bool.and_eq_true,QR] at this
 omega
end
end Go.Proofs.YtjbdljkhbglnhaaGreat.Am

