/- -/
import Derived.Test.YtephkbajoofeoaaWEG7
set_option linter.all false
namespace Go.Proofs.Ytephkbajoofeoaa.Am
open Go Sz
def tm (ds n M s:Int) (i:TIns):Int :=
 let F:=s+2*i.2
 let B:=(if ds=2 then 2*n-1 else 2*n-1+2*M)-s+2*i.2
 if i.1=1 then 8*F else if i.1=2 then 8*F+1 else if i.1=3 then 8*F+2
 else if i.1=4 then 8*B else if i.1=5 then 8*B+1 else if i.1=6 then 8*B+2 else if i.1=7 then 8*B+3 else 1000000
def rcOf (f:Nat) (k1:Int):Nat:=if k1=1 then f+1 else f
def scOf (f:Nat) (k1:Int):Nat:=if k1=2 then f-1 else f
def rgOf (n s:Int) (g:Nat) (k1:Int):Nat:=if k1=4∨(k1=5∧s<n-1) then g+1 else g
def sgQ (g:Nat) (k1:Int):Nat:=if k1=6 then g-1 else g
def kf (i:TIns):Nat:=if i.1=2 then 1 else 0
def kg (i:TIns):Nat:=if i.1=6 then 1 else 0
def cf (l:List TIns):Nat:=(l.map kf).sum
def cg (l:List TIns):Nat:=(l.map kg).sum
def QtE (l:List TIns) (k:Nat):Int:=if k=0 then 0 else (gtd dIns l (k-1)).1
end Go.Proofs.Ytephkbajoofeoaa.Am
namespace Go.Proofs.Ytephkbajoofeoaa.Am
open Go Sz
theorem QsM {o:TOp'} (h:QH o=true):(o.2.2.2.length:Int)=(if o.1=1∨o.1=5 then o.2.1*o.2.2.1 else if o.1=2 then o.2.1 else if o.1=4 then 1 else 0):=by
 have h1:=QfW h
 simp only [QH,Bool.and_eq_true,beq_iff_eq] at h
 rw [h.1.2]
 unfold Q0
 rw [show m_in o.2.1 1 6=true from Zx.2 ⟨h1.1,h1.2.1⟩,show m_in o.2.2.1 1 6=true from Zx.2 ⟨h1.2.2.1,h1.2.2.2⟩]
 rfl
def Qfe (ops:List TOp') (x:List Int):List Int:=gtd [] (JA ops x).1 ops.length
end Go.Proofs.Ytephkbajoofeoaa.Am
namespace Go.Proofs.Ytephkbajoofeoaa.Am
open Go Sz
def Yy:Int→List TOp'→Int→Prop
 | i,[],o=>i=o
 | i,a::r,o=>QH a=true∧a.2.1=i∧Yy a.2.2.1 r o
theorem Yy.append:∀ {a b:List TOp'} {i o:Int},Yy i (a++b) o↔∃ k,Yy i a k∧Yy k b o
 | [],b,i,o=>by simp [Yy]
 | x::a,b,i,o=>by
  rw [List.cons_append,Yy,Yy.append]
  constructor
  ·rintro ⟨h1,h2,k,h3,h4⟩;exact ⟨k,⟨h1,h2,h3⟩,h4⟩
  ·rintro ⟨k,⟨h1,h2,h3⟩,h4⟩;exact ⟨h1,h2,k,h3,h4⟩
end Go.Proofs.Ytephkbajoofeoaa.Am
namespace Go.Proofs.Ytephkbajoofeoaa.Am
open Go Sz
def ZO {α:Type} [Sz α] (x:α):Prop:=sz x≤2147483648
@[simp] theorem QbK {α:Type} (v:List α) (e:α):List.take (v.length+1) (List.take v.length v++[e])=v++[e]:=by
 rw [List.take_length,List.take_of_length_le (by simp)]
@[simp] theorem Qus {α:Type} (v xs:List α):List.take (v.length+xs.length) (List.take v.length v++xs)=v++xs:=by
 rw [List.take_length,List.take_of_length_le (by simp)]
theorem QdQ {α:Type} {v:List α} {k:Nat} {x:α} (h:v.length=k):(v++[x]).length=k+1:=by simp [h]
theorem room {n:Nat} (h:n+1≤2147483648):(n=n∨n+1≤n)∧n+1≤big:=⟨.inl rfl,by rw [QaY];omega⟩
theorem sc1 {k:Nat} (h:k<9223372036854775807):w64 ((k:Int)+1)=((k+1:Nat):Int):=by rw [QJ (by omega) (by omega)];omega
theorem idx {r R C:Int} (h1:0≤r) (h2:r<R) (h3:0≤C):0≤r*C∧r*C+C≤R*C∧(r+1)*C=r*C+C:=by
 have h4:(r+1)*C=r*C+C:=by rw [Int.add_mul,Int.one_mul]
 have h5:=Int.mul_le_mul_of_nonneg_right (show r+1≤R by omega) h3
 exact ⟨Int.mul_nonneg h1 h3,by omega,h4⟩
theorem QrU {α:Type} (v:List α):List.take (id v).length (List.drop 0 (id v))=v:=by simp
theorem QoJ {α:Type} (v:List α):List.take (0+v.length) (List.drop 0 v)=v:=by simp
theorem drop_nil {α:Type} {l:List α} {k:Nat} (h:l.length≤k):l.drop k=[]:=List.drop_eq_nil_of_le h
theorem Qks (n:Nat) (x:Int):List.take n (List.drop 0 (List.replicate n x))=List.replicate n x:=by rw [List.drop_zero,List.take_of_length_le (by simp)]
theorem Qgf {α:Type} [Sz α] {l:List α} {A:Int→List α→Prop} {Q:List α→Prop} (hs:sz l≤2147483648)
  (hA:∀ (k:Nat) (x:α) (v:List α),k<l.length→l.length≤2147483648→(∀ d,gtd d l k=x)→v.length=k→sz x≤2147483648→A ((k+1:Nat):Int) (v++[x])→A (k:Nat) v)
  (hE:Q l→A (l.length:Nat) l) (hq:Q l):A 0 []:=by
 have hl:=J5 l
 refine Z8 l (fun r k=>∀ v,v.length=k→v++r=l→A k v) ?_ ?_ [] rfl rfl
 ·intro v hv he
  rw [List.append_nil] at he
  subst he
  exact hE hq
 ·intro k x r hk hlt hg ih v hv he
  have hx:=Qi7 hk
  exact hA k x v hlt (by omega) hg hv (by omega) (ih _ (QdQ hv) (by rw [← he];simp))
theorem QcC {o:TOp'} (h:QH o=true):o.2.2.2.length≤36:=by
 have h1:=QsM h
 have h2:=QfW h
 have h3:=Qc5 h2.1 h2.2.1 h2.2.2.1 h2.2.2.2
 split at h1
 ·omega
 ·split at h1
  ·omega
  ·split at h1 <;> omega
theorem QgZ {m:QC} (h:Qu m=true) {k:Nat} (hk:k<m.length):QH (gtd dOp m k)=true:=by
 simp only [Qu,Bool.and_eq_true] at h
 exact (Qfh h.2 k _ (Qtv hk dOp)).1
theorem QlB:∀ {ops:List TOp'} {rows:List (List Int)},rows.length=ops.length→(∀ o,o∈ops→QH o=true)→JK ops rows=true→sz rows≤37*ops.length
 | [],[],_,_,_=>by simp
 | [],r::rs,h,_,_=>by simp at h
 | o::os,[],h,_,_=>by simp at h
 | o::os,r::rs,h,ho,hg=>by
  simp only [JK,Bool.and_eq_true,beq_iff_eq] at hg
  have h1:=QcC (ho o List.mem_cons_self)
  have h2:=QlB (by simpa using h) (fun p hp=>ho p (List.mem_cons_of_mem _ hp)) hg.2
  have h3:=QcO r
  rw [Qb1,List.length_cons];omega
theorem Qh7 {m:QC} (h:Qu m=true):∀ o,o∈m→QH o=true:=by
 intro o ho
 obtain ⟨i,hi⟩:=List.getElem?_of_mem ho
 simp only [Qu,Bool.and_eq_true] at h
 exact (Qfh h.2 i o hi).1
theorem Qt3 {m:QC} (h:Qu m=true):(Qy m).1.length=m.length∧JK m (Qy m).1=true:=by
 unfold Qy
 rw [if_pos h]
 simp only [List.length_map,true_and]
 clear h
 induction m with
 | nil=>rfl
 | cons o l ih=>simp [JK,ih]
theorem QqR {m:QC} (h:Qu m=true) {a:QE} (h1:a.1.length=m.length∧JK m a.1=true):sz a≤296:=by
 have:=QlB h1.1 (Qh7 h) h1.2
 have:=Qbo h
 simp only [Zk,Zi,YB];omega
end Go.Proofs.Ytephkbajoofeoaa.Am

