/- -/
import Derived.Test.YtephkbajoofeoaaYHG7
set_option linter.all false
namespace Go.Proofs.Ytephkbajoofeoaa.Am
open Go Sz
end Go.Proofs.Ytephkbajoofeoaa.Am
namespace Go.Proofs.Ytephkbajoofeoaa.Am
open Go Sz
end Go.Proofs.Ytephkbajoofeoaa.Am
namespace Go.Proofs.Ytephkbajoofeoaa.Am
open Go Sz
def Zs:Int→List TOp'→Int→Prop
 | i,[],o=>i=o
 | i,a::r,o=>Qhg a=true∧a.2.1=i∧Zs a.2.2.1 r o
theorem Zs.append:∀ {a b:List TOp'} {i o:Int},Zs i (a++b) o↔∃ k,Zs i a k∧Zs k b o
 | [],b,i,o=>by simp [Zs]
 | x::a,b,i,o=>by
  rw [List.cons_append,Zs,Zs.append]
  constructor
  ·rintro ⟨h1,h2,k,h3,h4⟩;exact ⟨k,⟨h1,h2,h3⟩,h4⟩
  ·rintro ⟨k,⟨h1,h2,h3⟩,h4⟩;exact ⟨h1,h2,k,h3,h4⟩
end Go.Proofs.Ytephkbajoofeoaa.Am
namespace Go.Proofs.Ytephkbajoofeoaa.Am
open Go Sz
def p_st (st s m:Int):Prop:=-1000≤st∧st≤1000
def Qas (st s m:Int) (_:Bool):Prop:=p_st st s m
def ZE (l:List TIns) (st s m:Int):List TIns:=l++Qr st s m
def Z0 (l:List TIns) (st s m:Int) (redo:Bool):List TIns:=l++Qt st s m redo
def p_l9 (l:List TIns) (st s m:Int):Prop:=p_st st s m∧l.length≤1000000
def QaT (l:List TIns) (st s m:Int) (_:Bool):Prop:=p_l9 l st s m
@[simp] theorem YJ {α:Type} (v:List α) (e:α):List.take (v.length+1) (List.take v.length v++[e])=v++[e]:=by
 rw [List.take_length,List.take_of_length_le (by simp)]
@[simp] theorem QfB {α:Type} (v xs:List α):List.take (v.length+xs.length) (List.take v.length v++xs)=v++xs:=by
 rw [List.take_length,List.take_of_length_le (by simp)]
theorem sc1 {k:Nat} (h:k<9223372036854775807):w64 ((k:Int)+1)=((k+1:Nat):Int):=by rw [QA (by omega) (by omega)];omega
theorem Qaz {α:Type} {f:Nat→List α} {k:Nat}:(List.range (k+1)).flatMap f=(List.range k).flatMap f++f k:=by rw [List.range_succ,List.flatMap_append];simp
end Go.Proofs.Ytephkbajoofeoaa.Am

