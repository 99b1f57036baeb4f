/- -/
import Derived.Test.YtephkbajoofeoaaYFG7
set_option linter.all false
namespace Go.Proofs.Ytephkbajoofeoaa.Am
open Go Sz
end Go.Proofs.Ytephkbajoofeoaa.Am
namespace Go.Proofs.Ytephkbajoofeoaa.Am
open Go Sz
end Go.Proofs.Ytephkbajoofeoaa.Am
namespace Go.Proofs.Ytephkbajoofeoaa.Am
open Go Sz
def Zz:Int→List TOp'→Int→Prop
 | i,[],o=>i=o
 | i,a::r,o=>QhS a=true∧a.2.1=i∧Zz a.2.2.1 r o
theorem Zz.append:∀ {a b:List TOp'} {i o:Int},Zz i (a++b) o↔∃ k,Zz i a k∧Zz k b o
 | [],b,i,o=>by simp [Zz]
 | x::a,b,i,o=>by
  rw [List.cons_append,Zz,Zz.append]
  constructor
  ·rintro ⟨h1,h2,k,h3,h4⟩;exact ⟨k,⟨h1,h2,h3⟩,h4⟩
  ·rintro ⟨k,⟨h1,h2,h3⟩,h4⟩;exact ⟨h1,h2,k,h3,h4⟩
end Go.Proofs.Ytephkbajoofeoaa.Am
namespace Go.Proofs.Ytephkbajoofeoaa.Am
open Go Sz
def p_st (st s m:Int):Prop:=-1000≤st∧st≤1000
def Qa5 (st s m:Int) (_:Bool):Prop:=p_st st s m
def Zf (l:List TIns) (st s m:Int):List TIns:=l++Qq st s m
def Yg (l:List TIns) (st s m:Int) (redo:Bool):List TIns:=l++Qs st s m redo
def p_l9 (l:List TIns) (st s m:Int):Prop:=p_st st s m∧l.length≤1000000
def JN (l:List TIns) (st s m:Int) (_:Bool):Prop:=p_l9 l st s m
@[simp] theorem Jx {α:Type} (v:List α) (e:α):List.take (v.length+1) (List.take v.length v++[e])=v++[e]:=by
 rw [List.take_length,List.take_of_length_le (by simp)]
@[simp] theorem QiX {α:Type} (v xs:List α):List.take (v.length+xs.length) (List.take v.length v++xs)=v++xs:=by
 rw [List.take_length,List.take_of_length_le (by simp)]
theorem Qgy {α:Type} {v:List α} {k:Nat} {x:α} (h:v.length=k):(v++[x]).length=k+1:=by simp [h]
theorem room {n:Nat} (h:n+1≤2147483648):(n=n∨n+1≤n)∧n+1≤big:=⟨.inl rfl,by rw [Q0];omega⟩
theorem sc1 {k:Nat} (h:k<9223372036854775807):w64 ((k:Int)+1)=((k+1:Nat):Int):=by rw [QC (by omega) (by omega)];omega
theorem Qbg {α:Type} {f:Nat→α} {k:Nat}:(List.range (k+1)).map f=(List.range k).map f++[f k]:=by rw [List.range_succ,List.map_append];rfl
end Go.Proofs.Ytephkbajoofeoaa.Am

