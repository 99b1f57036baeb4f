/- -/
import Derived.Test.YtephkbajoofeoaaYAG7
set_option linter.all false
namespace Go.Proofs.Ytephkbajoofeoaa.Am
open Go Sz
end Go.Proofs.Ytephkbajoofeoaa.Am
namespace Go.Proofs.Ytephkbajoofeoaa.Am
open Go Sz
end Go.Proofs.Ytephkbajoofeoaa.Am
namespace Go.Proofs.Ytephkbajoofeoaa.Am
open Go Sz
def ZQ:Int→List TOp'→Int→Prop
 | i,[],o=>i=o
 | i,a::r,o=>Qij a=true∧a.2.1=i∧ZQ a.2.2.1 r o
theorem ZQ.append:∀ {a b:List TOp'} {i o:Int},ZQ i (a++b) o↔∃ k,ZQ i a k∧ZQ k b o
 | [],b,i,o=>by simp [ZQ]
 | x::a,b,i,o=>by
  rw [List.cons_append,ZQ,ZQ.append]
  constructor
  ·rintro ⟨h1,h2,k,h3,h4⟩;exact ⟨k,⟨h1,h2,h3⟩,h4⟩
  ·rintro ⟨k,⟨h1,h2,h3⟩,h4⟩;exact ⟨h1,h2,k,h3,h4⟩
end Go.Proofs.Ytephkbajoofeoaa.Am
namespace Go.Proofs.Ytephkbajoofeoaa.Am
open Go Sz
def p_st (st s m:Int):Prop:=-1000≤st∧st≤1000
def Qab (st s m:Int) (_:Bool):Prop:=p_st st s m
def Q8 (l:List TIns) (st s m:Int):List TIns:=l++Qg st s m
def ZM (l:List TIns) (st s m:Int) (redo:Bool):List TIns:=l++Ql st s m redo
def p_l9 (l:List TIns) (st s m:Int):Prop:=p_st st s m∧l.length≤1000000
def JT (l:List TIns) (st s m:Int) (_:Bool):Prop:=p_l9 l st s m
@[simp] theorem YQ {α:Type} (v:List α) (e:α):List.take (v.length+1) (List.take v.length v++[e])=v++[e]:=by
 rw [List.take_length,List.take_of_length_le (by simp)]
@[simp] theorem QhW {α:Type} (v xs:List α):List.take (v.length+xs.length) (List.take v.length v++xs)=v++xs:=by
 rw [List.take_length,List.take_of_length_le (by simp)]
theorem QkY {α:Type} {v:List α} {k:Nat} {x:α} (h:v.length=k):(v++[x]).length=k+1:=by simp [h]
theorem room {n:Nat} (h:n+1≤2147483648):(n=n∨n+1≤n)∧n+1≤big:=⟨.inl rfl,by rw [Q0];omega⟩
theorem sc1 {k:Nat} (h:k<9223372036854775807):w64 ((k:Int)+1)=((k+1:Nat):Int):=by rw [Qk (by omega) (by omega)];omega
theorem Qcy {α:Type} {f:Nat→α} {k:Nat}:(List.range (k+1)).map f=(List.range k).map f++[f k]:=by rw [List.range_succ,List.map_append];rfl
theorem Qbq {α:Type} {f:Nat→List α} {k:Nat}:(List.range (k+1)).flatMap f=(List.range k).flatMap f++f k:=by rw [List.range_succ,List.flatMap_append];simp
end Go.Proofs.Ytephkbajoofeoaa.Am

