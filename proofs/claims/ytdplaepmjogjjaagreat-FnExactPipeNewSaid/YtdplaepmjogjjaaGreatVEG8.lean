/- -/
import Derived.Test.YtdplaepmjogjjaaGreatVEG7
set_option linter.all false
namespace Go.Proofs.YtdplaepmjogjjaaGreat.Am
open Go Sz
def tm (ds n M s:Int) (i:TIns):Int :=
 let F:=s+2*i.2
 let B:=(if ds=2 then 2*n-1 else 2*n-1+2*M)-s+2*i.2
 if i.1=1 then 8*F else if i.1=2 then 8*F+1 else if i.1=3 then 8*F+2
 else if i.1=4 then 8*B else if i.1=5 then 8*B+1 else if i.1=6 then 8*B+2 else if i.1=7 then 8*B+3 else 1000000
def rcOf (f:Nat) (k1:Int):Nat:=if k1=1 then f+1 else f
def scOf (f:Nat) (k1:Int):Nat:=if k1=2 then f-1 else f
def rgOf (n s:Int) (g:Nat) (k1:Int):Nat:=if k1=4∨(k1=5∧s<n-1) then g+1 else g
def sgQ (g:Nat) (k1:Int):Nat:=if k1=6 then g-1 else g
def kf (i:TIns):Nat:=if i.1=2 then 1 else 0
def kg (i:TIns):Nat:=if i.1=6 then 1 else 0
def cf (l:List TIns):Nat:=(l.map kf).sum
def cg (l:List TIns):Nat:=(l.map kg).sum
def QC7 (l:List TIns) (k:Nat):Int:=if k=0 then 0 else (gtd dIns l (k-1)).1
end Go.Proofs.YtdplaepmjogjjaaGreat.Am
namespace Go.Proofs.YtdplaepmjogjjaaGreat.Am
open Go Sz
theorem QD9 {o:TOp'} (h:Q2 o=true):(o.2.2.2.length:Int)=(if o.1=1∨o.1=5 then o.2.1*o.2.2.1 else if o.1=2 then o.2.1 else if o.1=4 then 1 else 0):=by
 have h1:=Qg4 h
 simp only [Q2,Bool.and_eq_true,beq_iff_eq] at h
 rw [h.1.2]
 unfold ZC
 rw [show m_in o.2.1 1 6=true from Q6.2 ⟨h1.1,h1.2.1⟩,show m_in o.2.2.1 1 6=true from Q6.2 ⟨h1.2.2.1,h1.2.2.2⟩]
 rfl
def Qki (ops:List TOp') (x:List Int):List Int:=gtd [] (Qbt ops x).1 ops.length
end Go.Proofs.YtdplaepmjogjjaaGreat.Am
namespace Go.Proofs.YtdplaepmjogjjaaGreat.Am
open Go Sz
def Jy:Int→List TOp'→Int→Prop
 | i,[],o=>i=o
 | i,a::r,o=>Q2 a=true∧a.2.1=i∧Jy a.2.2.1 r o
theorem Jy.append:∀ {a b:List TOp'} {i o:Int},Jy i (a++b) o↔∃ k,Jy i a k∧Jy k b o
 | [],b,i,o=>by simp [Jy]
 | x::a,b,i,o=>by
  rw [List.cons_append,Jy,Jy.append]
  constructor
  ·rintro ⟨h1,h2,k,h3,h4⟩;exact ⟨k,⟨h1,h2,h3⟩,h4⟩
  ·rintro ⟨k,⟨h1,h2,h3⟩,h4⟩;exact ⟨h1,h2,k,h3,h4⟩
end Go.Proofs.YtdplaepmjogjjaaGreat.Am
namespace Go.Proofs.YtdplaepmjogjjaaGreat.Am
open Go Sz
def ZF {α:Type} [Sz α] (x:α):Prop:=sz x≤2147483648
def p_st (st s m:Int):Prop:=-1000≤st∧st≤1000
def QjQ (st s m:Int) (_:Bool):Prop:=p_st st s m
def QaP (l:List TIns) (st s m:Int):List TIns:=l++Q0 st s m
def QbA (l:List TIns) (st s m:Int) (redo:Bool):List TIns:=l++Q7 st s m redo
def p_l9 (l:List TIns) (st s m:Int):Prop:=p_st st s m∧l.length≤1000000
def QgA (l:List TIns) (st s m:Int) (_:Bool):Prop:=p_l9 l st s m
@[simp] theorem ZU {α:Type} (v:List α) (e:α):List.take (v.length+1) (List.take v.length v++[e])=v++[e]:=by
 rw [List.take_length,List.take_of_length_le (by simp)]
@[simp] theorem QEw {α:Type} (v xs:List α):List.take (v.length+xs.length) (List.take v.length v++xs)=v++xs:=by
 rw [List.take_length,List.take_of_length_le (by simp)]
theorem QjR {α:Type} {v:List α} {k:Nat} {x:α} (h:v.length=k):(v++[x]).length=k+1:=by simp [h]
theorem room {n:Nat} (h:n+1≤2147483648):(n=n∨n+1≤n)∧n+1≤big:=⟨.inl rfl,by rw [Q3];omega⟩
theorem sc1 {k:Nat} (h:k<9223372036854775807):w64 ((k:Int)+1)=((k+1:Nat):Int):=by rw [Qx (by omega) (by omega)];omega
theorem idx {r R C:Int} (h1:0≤r) (h2:r<R) (h3:0≤C):0≤r*C∧r*C+C≤R*C∧(r+1)*C=r*C+C:=by
 have h4:(r+1)*C=r*C+C:=by rw [Int.add_mul,Int.one_mul]
 have h5:=Int.mul_le_mul_of_nonneg_right (show r+1≤R by omega) h3
 exact ⟨Int.mul_nonneg h1 h3,by omega,h4⟩
theorem QgG {α:Type} {f:Nat→List α} {k:Nat}:(List.range (k+1)).flatMap f=(List.range k).flatMap f++f k:=by rw [List.range_succ,List.flatMap_append];simp
theorem Qhs {α:Type} (v:List α):List.take (id v).length (List.drop 0 (id v))=v:=by simp
theorem QjM {α:Type} (v:List α):List.take (0+v.length) (List.drop 0 v)=v:=by simp
theorem drop_nil {α:Type} {l:List α} {k:Nat} (h:l.length≤k):l.drop k=[]:=List.drop_eq_nil_of_le h
theorem QlL (n:Nat) (x:Int):List.take n (List.drop 0 (List.replicate n x))=List.replicate n x:=by rw [List.drop_zero,List.take_of_length_le (by simp)]
theorem QjL {α:Type} [Sz α] {l:List α} {A:Int→List α→Prop} {Q:List α→Prop} (hs:sz l≤2147483648)
  (hA:∀ (k:Nat) (x:α) (v:List α),k<l.length→l.length≤2147483648→(∀ d,gtd d l k=x)→v.length=k→sz x≤2147483648→A ((k+1:Nat):Int) (v++[x])→A (k:Nat) v)
  (hE:Q l→A (l.length:Nat) l) (hq:Q l):A 0 []:=by
 have hl:=Qav l
 refine Zy l (fun r k=>∀ v,v.length=k→v++r=l→A k v) ?_ ?_ [] rfl rfl
 ·intro v hv he
  rw [List.append_nil] at he
  subst he
  exact hE hq
 ·intro k x r hk hlt hg ih v hv he
  have hx:=Qjv hk
  exact hA k x v hlt (by omega) hg hv (by omega) (ih _ (QjR hv) (by rw [← he];simp))
theorem Qgd {o:TOp'} (h:Q2 o=true):o.2.2.2.length≤36:=by
 have h1:=QD9 h
 have h2:=Qg4 h
 have h3:=QiN h2.1 h2.2.1 h2.2.2.1 h2.2.2.2
 split at h1
 ·omega
 ·split at h1
  ·omega
  ·split at h1 <;> omega
theorem Ql0 {m:QN} (h:QB m=true) {k:Nat} (hk:k<m.length):Q2 (gtd dOp m k)=true:=by
 simp only [QB,Bool.and_eq_true] at h
 exact (Qeb h.2 k _ (QaX hk dOp)).1
theorem QmJ:∀ {ops:List TOp'} {rows:List (List Int)},rows.length=ops.length→(∀ o,o∈ops→Q2 o=true)→Qbn ops rows=true→sz rows≤37*ops.length
 | [],[],_,_,_=>by simp
 | [],r::rs,h,_,_=>by simp at h
 | o::os,[],h,_,_=>by simp at h
 | o::os,r::rs,h,ho,hg=>by
  simp only [Qbn,Bool.and_eq_true,beq_iff_eq] at hg
  have h1:=Qgd (ho o List.mem_cons_self)
  have h2:=QmJ (by simpa using h) (fun p hp=>ho p (List.mem_cons_of_mem _ hp)) hg.2
  have h3:=J5 r
  rw [Qai,List.length_cons];omega
theorem Qqh {m:QN} (h:QB m=true):∀ o,o∈m→Q2 o=true:=by
 intro o ho
 obtain ⟨i,hi⟩:=List.getElem?_of_mem ho
 simp only [QB,Bool.and_eq_true] at h
 exact (Qeb h.2 i o hi).1
theorem QIf {m:QN} (h:QB m=true):(QR m).1.length=m.length∧Qbn m (QR m).1=true:=by
 unfold QR
 rw [if_pos h]
 simp only [List.length_map,true_and]
 clear h
 induction m with
 | nil=>rfl
 | cons o l ih=>simp [Qbn,ih]
theorem QxN {m:QN} (h:QB m=true) {a:Z0} (h1:a.1.length=m.length∧Qbn m a.1=true):sz a≤296:=by
 have:=QmJ h1.1 (Qqh h) h1.2
 have:=Y5 h
 simp only [QM,QS,Za];omega
end Go.Proofs.YtdplaepmjogjjaaGreat.Am

