/- -/
import Derived.Test.YtjbdljkhbglnhaaGreatZEGE
set_option linter.all false
namespace Go.Proofs.YtjbdljkhbglnhaaGreat.Am
open Go Sz
def QnT (code:List Int):Prop:=∀ x,x∈code→0≤x∧x≤255
theorem QUj {code:List Int} (hc:QnT code) (hn:J9 code) {i:Int} (h0:0≤i) (h1:i≤1000):0≤m_at code i∧m_at code i≤255:=by
 have hl:code.length≤1048576:=hn
 unfold m_at
 split
 ·rename_i h
  have hm:=hc _ (Y5 (show i.toNat<code.length by omega) 0)
  rw [Qr (by omega) (by omega)];exact hm
 ·rw [Qr (x:=i*37) (by omega) (by omega),Qr (x:=(code.length:Int)*11) (by omega) (by omega),Qr (x:=i*37+(code.length:Int)*11) (by omega) (by omega)]
  have h2:0≤Int.tmod (i*37+(code.length:Int)*11) 256:=Int.tmod_nonneg _ (by omega)
  have h3:=Int.tmod_lt_of_pos (i*37+(code.length:Int)*11) (show (0:Int)<256 by omega)
  omega
theorem QMv {p:Qe} {i k:Nat} (hk:k<i) (hi:i<(ZM p).length):gtd 0 (ZM p) k<gtd 0 (ZM p) i:=by
 have hp:(ZM p).Pairwise (· < ·):=by
  unfold ZM
  refine List.Pairwise.filter _ (List.pairwise_map.2 (List.pairwise_lt_range.imp ?_))
  intro a b h;omega
 have h1:gtd 0 (ZM p) k=(ZM p)[k]:=Qb4 (List.getElem?_eq_getElem (by omega)) 0
 have h2:gtd 0 (ZM p) i=(ZM p)[i]:=Qb4 (List.getElem?_eq_getElem hi) 0
 rw [h1,h2]
 exact List.pairwise_iff_getElem.1 hp k i (by omega) hi hk
theorem QV1 {p:Qe}:(ZM p).length≤p.2.1.length:=by
 unfold ZM
 refine Nat.le_trans (List.length_filter_le _ _) ?_
 simp
section
variable {c:QN} {b:List Qt} (A:Adm c b)
include A
theorem Qzv {ks:Nat→Nat} {i:Nat} (hi:i<(ZM (Ze c b ks)).length) :
  ∃ s:Nat,gtd 0 (ZM (Ze c b ks)) i=(s:Int)∧s<nSt c∧Za (Ze c b ks) (s:Int)=true:=by
 have h:=(QKN A _).1 (Y5 hi 0)
 obtain ⟨s,hs⟩:=Int.eq_ofNat_of_zero_le h.1.1
 exact ⟨s,hs,by omega,by rw [← hs];exact h.2⟩
end
end Go.Proofs.YtjbdljkhbglnhaaGreat.Am

