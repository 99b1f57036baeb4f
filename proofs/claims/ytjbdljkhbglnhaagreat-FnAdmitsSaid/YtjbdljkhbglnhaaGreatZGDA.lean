/- -/
import Derived.Test.YtjbdljkhbglnhaaGreatZGD1
import Derived.Test.YtjbdljkhbglnhaaGreatZGD6
import Derived.Test.YtjbdljkhbglnhaaGreatZGKM
namespace Go.Proofs.YtjbdljkhbglnhaaGreat.Am
open Go Go.RowKit Go.Proofs.YtjbdljkhbglnhaaGreat
set_option linter.all false
set_option maxHeartbeats 2000000
noncomputable section
variable (K:TRes→Prop)
def Qc2 (t:Qh × (List Qd)):TRes:=zra (.tp [(.a (Tup.cells QU t.1)),(zcs Qx t.2)])
def Qg7 (x0:List Int):Qh × (List Qd):=Classical.epsilon fun t:Qh × (List Qd)=>(QmI x0 t)∧TCon Tryz.prog 55 [(.c (.sl [(.int .u8)]) x0)] (Qc2 t)
def QnC:TRow:=Qi 55 [(.c (.sl [(.int .u8)]))] fun x=>(some (JF x.1),Qc2 (Qg7 x.1))
def QMR:List TRow:=[Qlr,QmE]
def QMp:TCode :=
 (zsq [(.reg [zop 2 (.new 30 (z0s QU)),zmv 3 (.k (.n Qx))]),(.reg [zmv 4 0,zca 5 69 [4],zca 6 68 [5],zex 7 6 0,zex 8 6 1,zst 2 7 6,zmv 3 8]),.ret])
def QL7:List (ARv × Md):=[(.l 2 6 true,.b (zds 6)),(.t 3,.one .d)]
theorem QKi (code:List Int) (h :
 (((JF code)∧(Qz (QdM code)))∧K (Qc2 (((QfQ (QdM code)).1),(QfQ (QdM code)).2.1)))):Hold (tawp QMR (0+0) QMp (TQ 0 0 QL7 K) (Qf [(.c (.sl [(.int .u8)]) code)])) :=
 Hold.of (by kernel_rfl) h
theorem QOA (code:List Int) (hp:JF code):∃ t:Qh × (List Qd),(QmI code t)∧TCon Tryz.prog 55 [(.c (.sl [(.int .u8)]) code)] (Qc2 t):=by
 refine YS (tcx (n:=9) (sg:=QnC.sg) Qk (TOk.cons QDD (TOk.cons QOk TOk.nil)) (by kernel_rfl) (by kernel_rfl) (QKi (fun r'=>∃ t,(QmI code t)∧r'=Qc2 t) code ?_))
 exact ⟨⟨hp,QDq code hp⟩,Q9 trivial⟩
theorem QIt (code:List Int) (hp:JF code):TCon Tryz.prog 55 [(.c (.sl [(.int .u8)]) code)] (Qc2 (Qg7 code)):=(Classical.epsilon_spec (QOA code hp)).2
theorem QLJ:Qj Tryz.prog QnC:=Ql fun x h=>QIt x.1 h
def QfA (t:ByteArray):TRes:=zre (.c .str t)
def QkX:TRow:=Qi 57 [(.c TI)] fun x=>(none,QfA (Qcp x.1))
def QLP:List TRow:=[]
def QCY:TCode :=
 (zsq [(.reg [zmv 2 (.k (.c .str (⟨#[]⟩:ByteArray)))]),(.reg [zop 4 (.bsl 9 [.str] [(.k (.c .str (⟨#[111,107]⟩:ByteArray))),(.k (.c .str (⟨#[109,111,100,101,108]⟩:ByteArray))),(.k (.c .str (⟨#[98,97,116,99,104]⟩:ByteArray))),(.k (.c .str (⟨#[99,117,116,115]⟩:ByteArray))),(.k (.c .str (⟨#[112,108,97,110]⟩:ByteArray))),(.k (.c .str (⟨#[114,101,100,111]⟩:ByteArray))),(.k (.c .str (⟨#[113,117,101,117,101]⟩:ByteArray))),(.k (.c .str (⟨#[109,101,109,111,114,121]⟩:ByteArray)))]),zmv 3 4]),(zsq [(.reg [zmv 5 0,zbi 6 .lss 5 (zki 0),zmv 7 6,.grp 7 false [zmv 8 0,zmv 9 3,zle 10 9,zbi 11 .geq 8 10] 12 11]),(.cond 12 (zsq [(.reg [zmv 2 (.k (.c .str (⟨#[]⟩:ByteArray)))]),.ret]) .skip)]),(.reg [zmv 13 3,zmv 14 0,zia 15 13 14 [.str],zld 16 15 1,zmv 2 16]),.ret])
def QIL:List (ARv × Md):=[(.t 2,.one .d)]
theorem QEZ (code:Int) (h :
 (zif ((decide (code<(0:Int)))||(decide (code≥((8:Nat):Int)))) (K (QfA (⟨#[]⟩:ByteArray))) ((((0:Int)≤code∧Int.toNat code<8)∧((0+(Int.toNat code))<8))∧K (QfA (gtd (⟨#[]⟩:ByteArray) ([(⟨#[111,107]⟩:ByteArray),(⟨#[109,111,100,101,108]⟩:ByteArray),(⟨#[98,97,116,99,104]⟩:ByteArray),(⟨#[99,117,116,115]⟩:ByteArray),(⟨#[112,108,97,110]⟩:ByteArray),(⟨#[114,101,100,111]⟩:ByteArray),(⟨#[113,117,101,117,101]⟩:ByteArray),(⟨#[109,101,109,111,114,121]⟩:ByteArray)]) (0+(Int.toNat code))))))):Hold (tawp QLP (0+0) QCY (TQ 0 0 QIL K) (Qf [(.c TI code)])) :=
 Hold.of (by kernel_rfl) h
theorem QK0 (code:Int):TCon Tryz.prog 57 [(.c TI code)] (QfA (Qcp code)):=by
 refine Qr rfl fun hb=>tcg (n:=17) (sg:=QkX.sg) Qk TOk.nil (by kernel_rfl) (by kernel_rfl) (QEZ _ code ?_)
 refine ⟨fun h=>R_eq ?_,fun h=>?_⟩
 ·simp only [Bool.or_eq_true,decide_eq_true_eq] at h
  unfold Qcp
  rw [if_pos (show code<0∨code≥8 by omega)]
 ·simp only [Bool.or_eq_false_iff,decide_eq_false_iff_not] at h
  have h1:0≤code:=by omega
  have h2:code<8:=by have:=h.2;omega
  refine ⟨⟨⟨h1,by omega⟩,by omega⟩,R_eq ?_⟩
  unfold Qcp
  rw [if_neg (by omega),Nat.zero_add]
  rfl
theorem QOc:Qj Tryz.prog QkX:=Ql fun x _=>QK0 x.1
end
end Go.Proofs.YtjbdljkhbglnhaaGreat.Am

