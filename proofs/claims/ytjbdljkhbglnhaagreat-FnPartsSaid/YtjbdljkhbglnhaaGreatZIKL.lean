/- -/
import Derived.Test.YtjbdljkhbglnhaaGreatZIGE
set_option linter.all false
namespace Go.Proofs.YtjbdljkhbglnhaaGreat.Am
open Go Sz
def QgZ (code:List Int):Prop:=∀ x,x∈code→0≤x∧x≤255
theorem QSe {code:List Int} (hc:QgZ code) (hn:JO code) {i:Int} (h0:0≤i) (h1:i≤1000):0≤m_at code i∧m_at code i≤255:=by
 have hl:code.length≤1048576:=hn
 unfold m_at
 split
 ·rename_i h
  have hm:=hc _ (Jb (show i.toNat<code.length by omega) 0)
  rw [Qp (by omega) (by omega)];exact hm
 ·rw [Qp (x:=i*37) (by omega) (by omega),Qp (x:=(code.length:Int)*11) (by omega) (by omega),Qp (x:=i*37+(code.length:Int)*11) (by omega) (by omega)]
  have h2:0≤Int.tmod (i*37+(code.length:Int)*11) 256:=Int.tmod_nonneg _ (by omega)
  have h3:=Int.tmod_lt_of_pos (i*37+(code.length:Int)*11) (show (0:Int)<256 by omega)
  omega
theorem QUT {code:List Int} (hc:QgZ code) (hn:JO code) {i n:Int} (h0:0≤i) (h1:i≤1000) (h2:0<n):0≤Int.tmod (m_at code i) n∧Int.tmod (m_at code i) n<n :=
 ⟨Int.tmod_nonneg _ (QSe hc hn h0 h1).1,Int.tmod_lt_of_pos _ h2⟩
section
variable {c:QM} {b:List Qy} (A:Adm c b)
include A
end
end Go.Proofs.YtjbdljkhbglnhaaGreat.Am

