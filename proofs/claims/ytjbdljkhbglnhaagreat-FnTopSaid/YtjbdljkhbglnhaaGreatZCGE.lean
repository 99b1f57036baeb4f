/- -/
import Derived.Test.YtjbdljkhbglnhaaGreatZCGD
set_option linter.all false
namespace Go.Proofs.YtjbdljkhbglnhaaGreat.Am
open Go Sz
theorem Quk {c:Qo} {b:List Qi} (A:Adm c b) {ks:Nat→Nat} (V:Ok c b ks):Qjv (QW c b ks):=by
 intro s hs
 have h:=Quv A V
 simp only [Yb,Bool.and_eq_true] at h
 have h1:=Qya (Qqn h.2.2 s hs).1
 obtain ⟨t,ht,rfl⟩:=List.mem_map.1 hs
 have ht:t<nSt c:=List.mem_range.1 ht
 have h2:(QH (stAt c b t (ks t))).length=lenP c b t:=rfl
 have h3:=QAi A ht
 have h4:b.length≤5:=by
  have:=A.batch
  simp only [ZG,Bool.and_eq_true,QR] at this
  omega
 show sPc (stAt c b t (ks t))≤_
 omega
end Go.Proofs.YtjbdljkhbglnhaaGreat.Am
namespace Go.Proofs.YtjbdljkhbglnhaaGreat.Am
open Go Sz
def Qev (_:List Int) (_:Int) (t:List Int):Prop:=t.length≤60
end Go.Proofs.YtjbdljkhbglnhaaGreat.Am
namespace Go.Proofs.YtjbdljkhbglnhaaGreat.Am
open Go Sz
theorem QWy {c:Qo} {b:List Qi} (h:¬ Zt c b=0):Zi c b=Qy6:=by unfold Zi;rw [if_neg h]
section
variable {c:Qo} {b:List Qi} (A:Adm c b)
include A
theorem QSp (l:List Int):∃ ks,Ok c b ks∧Jq (Zi c b) l=QW c b ks∧left c b ks≤left c b (fun _=>0):=by
 obtain ⟨ks,h1,h2,h3⟩:=QtA A (l.take 2000) (QrA A)
 refine ⟨ks,h1,?_,QjZ (fun j=>h3 j)⟩
 unfold Jq;rw [Qtb A,h2]
theorem QRE {ks:Nat→Nat} (V:Ok c b ks) {n:Nat} (h:nSt c*left c b ks≤n) (hn:n≤2000):YW (QW c b ks) (n:Int)=QW c b (lenP c b):=by
 have hl:=QaF (c:=c) (b:=b) ks
 have hs:=JV A
 obtain ⟨ks',h1,h2,h3⟩:=Qk1 A (left c b ks) n 0 V (Nat.le_refl _) h
 unfold YW
 rw [if_pos (by rw [hl];omega),Int.toNat_natCast,Nat.min_eq_left hn,h2,QyI A h1 h3]
theorem QRz:left c b (lenP c b)=0:=Qj7.2 (fun _ _=>Nat.le_refl _)
theorem QTR:Ja (QW c b (lenP c b))=true∧J8 (QW c b (lenP c b))=0∧Jw (QW c b (lenP c b))=Yu (Q6 c) b∧Qjv (QW c b (lenP c b)):=by
 have h:=QRz A
 refine ⟨by rw [QiF A (QnS A),h];rfl,by rw [QA7 A (QnS A),h];rfl,QxP A,Quk A (QnS A)⟩
theorem QIt:Qaz c b.length=(left c b (fun _=>0):Nat)∧left c b (fun _=>0)≤144∧nSt c*left c b (fun _=>0)≤576:=by
 have h1:=QoW A (ks:=fun _=>0)
 have h2:=JV A
 exact ⟨QNM A,h1,Nat.le_trans (Nat.mul_le_mul h2.2 h1) (by omega)⟩
theorem QU3 (l:List Int):YW (Jq (Zi c b) l) (w64 (((Jq (Zi c b) l).2.1.length:Int)*Qaz c b.length))=QW c b (lenP c b):=by
 obtain ⟨ks,V,hr,hl⟩:=QSp A l
 obtain ⟨t1,t2,t3⟩:=QIt A
 have hlen:(QW c b ks).2.1.length=nSt c:=QaF ks
 rw [hr,hlen,t1]
 have e:((nSt c:Nat):Int)*((left c b (fun _=>0):Nat):Int)=((nSt c*left c b (fun _=>0):Nat):Int):=(Int.natCast_mul _ _).symm
 rw [e,Qq (by omega) (by omega)]
 exact QRE A V (Nat.mul_le_mul_left _ hl) (by omega)
end
end Go.Proofs.YtjbdljkhbglnhaaGreat.Am

