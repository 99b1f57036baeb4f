/- -/
import Derived.Test.YtjbdljkhbglnhaaGreatZIKM
set_option linter.all false
namespace Go.Proofs.YtjbdljkhbglnhaaGreat.Am
open Go Sz
def Qc5 (_:TCur) (t:Qe × TCur):Prop:=(∃ c b ks,Adm c b∧Ok c b ks∧t.1=Zo c b ks)∧sz t.1≤20000∧QQ t.2
def Qgg (_:TCur) (t:Qe × TCur):Prop:=sz t.1≤40000∧QQ t.2
def Qdv (_:TCur) (_:Int) (t:List Int × TCur):Prop:=t.1.length≤61
def QjX (_:List Int) (t:Qe × List Int):Prop:=sz t.1≤40000∧t.2.length≤61
theorem QVp {c:QM} {b:List Qy} (A:Adm c b) {ks:Nat→Nat} (V:Ok c b ks) :
  1≤(Zo c b ks).2.1.length∧(Zo c b ks).2.1.length≤4∧1≤(Zo c b ks).1.length∧(Zo c b ks).1.length≤5∧(Zo c b ks).2.2.1.length≤3:=by
 have h1:=Qhi A
 have h2:=Qdf A
 have h3:(Zo c b ks).2.1.length=nSt c:=QdB ks
 have h4:(Zo c b ks).1.length=b.length:=rfl
 have h5:(Zo c b ks).2.2.1.length=nSt c-1:=by unfold Zo;simp
 omega
theorem QFd {α:Type} (l:List α) (i:Nat) (v:α):List.take l.length (List.drop 0 (l.set i v))=l.set i v:=by
 rw [List.drop_zero,List.take_of_length_le (by simp)]
theorem QAr {α:Type} (l:List α) (v:α):List.take (l.length+1) (List.drop 0 (List.take l.length l++[v]))=l++[v]:=by
 rw [List.drop_zero,List.take_length,List.take_of_length_le (by simp)]
theorem QJ0:sz QH=0:=rfl
theorem QUE {p:Qe} {k:Nat} {v:Qc} (hv:sz v≤sz (gtd QH p.2.1 k)+10):sz ((p.1,p.2.1.set k v,p.2.2.1,p.2.2.2):Qe)≤sz p+10:=by
 have h1:=QcG QH v p.2.1 k
 have h2:sz p=sz p.1+sz p.2.1+sz p.2.2.1+sz p.2.2.2:=JR p
 have h3:sz ((p.1,p.2.1.set k v,p.2.2.1,p.2.2.2):Qe)=sz p.1+sz (p.2.1.set k v)+sz p.2.2.1+sz p.2.2.2:=JR _
 have h4:=QJ0
 omega
theorem QD5:∀ (a b:List Int) (p:Qe),QaI (a++b) p=QaI b (QaI a p)
 | [],b,p=>rfl
 | x::a,b,p=>QD5 a b (Zu p x)
theorem QQP (p:Qe) (l:List Int) (n:Nat) (h:l.length≤2000):YI (YI p (l.take n)) (l.drop n)=YI p l:=by
 unfold YI
 rw [List.take_of_length_le (l:=l.take n) (by simp;omega),List.take_of_length_le (l:=l.drop n) (by simp;omega),List.take_of_length_le h,← QD5,List.take_append_drop]
end Go.Proofs.YtjbdljkhbglnhaaGreat.Am

