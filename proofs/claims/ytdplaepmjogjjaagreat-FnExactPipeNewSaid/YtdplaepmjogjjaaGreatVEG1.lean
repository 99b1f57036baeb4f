/- -/
import Derived.WalkKit
import Derived.KernelRfl
set_option linter.all false
namespace Go.Proofs.YtdplaepmjogjjaaGreat.Am
open Go Go.RowKit
inductive D where
 | v (x:Value)
 | sl (sz:Nat) (es:List (List D))
abbrev Pth:=List (Nat × Nat)
inductive Mo where
 | fz
 | ow
 | dp (g:Nat) (t:Bool) (H:Pth)
def Mo.own:Mo→Bool
 | .fz=>false
 | _=>true
def Mo.tip:Mo→Bool
 | .fz=>false
 | .ow=>true
 | .dp _ t _=>t
def Mo.gen:Mo→Option Nat
 | .dp g _ _=>some g
 | _=>none
def Mo.full:Mo→Bool
 | .dp _ _ (_::_)=>false
 | _=>true
structure Mo.le (m m':Mo):Prop where
 tip:m'.tip=true→m.tip=true
 gen:∀ g',m'.gen=some g'→∃ g,m.gen=some g∧g≤g'
theorem Mo.le.refl (m:Mo):Mo.le m m:=⟨fun h=>h,fun g h=>⟨g,h,Nat.le_refl _⟩⟩
theorem Mo.le.trans {a b c:Mo} (h:Mo.le a b) (h':Mo.le b c):Mo.le a c :=
 ⟨fun e=>h.tip (h'.tip e),fun g e=>let ⟨g1,h1,h2⟩:=h'.gen g e;let ⟨g2,h3,h4⟩:=h.gen g1 h1;⟨g2,h3,Nat.le_trans h4 h2⟩⟩
theorem Mo.le_fz (m:Mo):Mo.le m .fz:=⟨fun h=>(by cases h),fun g h=>(by cases h)⟩
inductive AV where
 | u
 | c (d:D)
 | n (sz:Nat)
 | r (sz id off len:Nat)
 | p (id i j:Nat)
 | q (cs:List D) (j:Nat)
 | a (cs:List AV)
 | t (vs:List AV)
 | bx (cs:List AV)
 | ow (e:TypeId) (sz:Nat) (m:Mo) (es:List (List D))
 | b (d:D) (id g:Nat) (p:Pth)
 | bq (cs:List D) (j id g:Nat) (p:Pth) (i:Nat)
inductive Blk where
 | none
 | dead
 | box (cs:List AV)
 | sl (e:TypeId) (sz:Nat) (m:Mo) (es:List (List D))
structure St where
 t:Nat→AV
 h:Nat→Blk
 nx:Nat
def upd {α:Type} (f:Nat→α) (i:Nat) (x:α):Nat→α:=fun j=>if j=i then x else f j
theorem Qu {α:Type} (f:Nat→α) (i:Nat) (x:α):upd f i x i=x:=by simp [upd]
theorem Qq {α:Type} (f:Nat→α) (i j:Nat) (x:α) (h:j≠i):upd f i x j=f j:=by simp [upd,h]
structure Io where
 b:Nat→Option Nat
 k:Nat→Option (Nat × Pth)
 o:Nat→Nat
instance:CoeFun Io fun _=>Nat→Option Nat:=⟨Io.b⟩
def Io.up (ι:Io) (i:Nat) (x:Option Nat) (o:Nat):Io:=⟨upd ι.b i x,ι.k,upd ι.o i o⟩
theorem Io.up_same (ι:Io) (i:Nat) (x:Option Nat) (o:Nat):(ι.up i x o) i=x:=Qu _ _ _
theorem Io.up_ne (ι:Io) (i j:Nat) (x:Option Nat) (o:Nat) (h:j≠i):(ι.up i x o) j=ι j:=Qq _ _ _ _ h
theorem Io.upo_same (ι:Io) (i:Nat) (x:Option Nat) (o:Nat):(ι.up i x o).o i=o:=Qu _ _ _
theorem Io.upo_ne (ι:Io) (i j:Nat) (x:Option Nat) (o:Nat) (h:j≠i):(ι.up i x o).o j=ι.o j:=Qq _ _ _ _ h
inductive Rd (w:World) (F:Nat→Prop):Value→D→Prop where
 | v (x:Value) (h:x.oneCell'=true):Rd w F x (.v x)
 | nil (sz:Nat):Rd w F (.slice none 0 0) (.sl sz [])
 | emp (a:Addr) (cap sz:Nat):Rd w F (.slice (some a) 0 cap) (.sl sz [])
 | sl (b o len cap sz:Nat) (es:List (List D)) (x:Nat→Nat→Value) (hlen:es.length=len) (hcap:len≤cap) (hml:len≤maxLen) (hsz:∀ e,e∈es→e.length=sz) (hb:es≠[]→F b)
   (hc:∀ i j e d,es[i]? = some e→e[j]? = some d→w.cell? ⟨b,o+i*sz+j,Option.none⟩=some (x i j))
   (hr:∀ i j e d,es[i]? = some e→e[j]? = some d→Rd w F (x i j) d):Rd w F (.slice (some ⟨b,o,Option.none⟩) len cap) (.sl sz es)
theorem Rd.one {w:World} {F:Nat→Prop} {v:Value} {d:D} (h:Rd w F v d):v.oneCell'=true:=by
 cases h with
 | v x h=>exact h
 | nil=>rfl
 | emp=>rfl
 | sl=>rfl
theorem Rd.mono {w w':World} {F F':Nat→Prop} (hF:∀ b,F b→F' b∧w'.heap[b]? = w.heap[b]?) {v:Value} {d:D} (h:Rd w F v d):Rd w' F' v d:=by
 induction h with
 | v x h=>exact .v x h
 | nil sz=>exact .nil sz
 | emp a cap sz=>exact .emp a cap sz
 | sl b o len cap sz es x hlen hcap hml hsz hb hc hr ih =>
  refine .sl b o len cap sz es x hlen hcap hml hsz (fun hn=>(hF b (hb hn)).1) (fun i j e d he hd=>?_) ih
  rw [World.cell?_of_block (w:=w) (w':=w') (a:=⟨b,_,Option.none⟩) (hF b (hb (fun h0=>by rw [h0] at he;simp at he))).2]
  exact hc i j e d he hd
inductive RL (w:World) (K:Nat→Option (Nat × Pth)) (id:Nat):Pth→Value→D→Prop where
 | v (p:Pth) (x:Value) (h:x.oneCell'=true):RL w K id p x (.v x)
 | nil (p:Pth) (sz:Nat):RL w K id p (.slice none 0 0) (.sl sz [])
 | emp (p:Pth) (a:Addr) (cap sz:Nat):RL w K id p (.slice (some a) 0 cap) (.sl sz [])
 | sl (p:Pth) (b o len cap sz:Nat) (es:List (List D)) (cur:Array Value) (e0:TypeId) (x:Nat→Nat→Value) (hz:0<sz) (hne:es≠[]) (hlen:es.length=len) (hcap:len≤cap) (hml:len≤maxLen) (hsz:∀ e,e∈es→e.length=sz)
   (hk:K b=some (id,p)) (hb:w.heap[b]? = some (.cells cur e0 (0,0))) (hle:o+len*sz≤cur.size)
   (hc:∀ i j e d,es[i]? = some e→e[j]? = some d→cur[o+i*sz+j]? = some (x i j))
   (hr:∀ i j e d,es[i]? = some e→e[j]? = some d→RL w K id (p++[(i,j)]) (x i j) d):RL w K id p (.slice (some ⟨b,o,Option.none⟩) len cap) (.sl sz es)
theorem RL.one {w:World} {K:Nat→Option (Nat × Pth)} {id:Nat} {p:Pth} {v:Value} {d:D} (h:RL w K id p v d):v.oneCell'=true:=by
 cases h with
 | v p x h=>exact h
 | nil=>rfl
 | emp=>rfl
 | sl=>rfl
theorem RL.rd {w:World} {K:Nat→Option (Nat × Pth)} {id:Nat} {F:Nat→Prop} (hF:∀ b p,K b=some (id,p)→F b) {p:Pth} {v:Value} {d:D} (h:RL w K id p v d):Rd w F v d:=by
 induction h with
 | v p x h=>exact .v x h
 | nil p sz=>exact .nil sz
 | emp p a cap sz=>exact .emp a cap sz
 | sl p b o len cap sz es cur e0 x hz hne hlen hcap hml hsz hk hb hle hc hr ih =>
  exact .sl b o len cap sz es x hlen hcap hml hsz (fun _=>hF b p hk) (fun i j e d he hd=>by simp [World.cell?,hb,hc i j e d he hd]) ih
theorem RL.map {w w':World} {K K':Nat→Option (Nat × Pth)} {id id':Nat} {p:Pth} {v:Value} {d:D} (h:RL w K id p v d):∀ (p':Pth),
  (∀ b q,K b=some (id,p++q)→K' b=some (id',p'++q)∧w'.heap[b]? = w.heap[b]?)→RL w' K' id' p' v d:=by
 induction h with
 | v p x h=>intro p' _;exact .v p' x h
 | nil p sz=>intro p' _;exact .nil p' sz
 | emp p a cap sz=>intro p' _;exact .emp p' a cap sz
 | sl p b o len cap sz es cur e0 x hz hne hlen hcap hml hsz hk hb hle hc hr ih =>
  intro p' hp
  obtain ⟨h1,h2⟩:=hp b [] (by simpa using hk)
  refine .sl p' b o len cap sz es cur e0 x hz hne hlen hcap hml hsz (by simpa using h1) (h2.trans hb) hle hc (fun i j e d he hd=>ih i j e d he hd (p'++[(i,j)]) fun b q hq=>?_)
  have:=hp b ((i,j)::q) (by simpa using hq)
  simpa using this
theorem RL.mono {w w':World} {K K':Nat→Option (Nat × Pth)} {id:Nat} (hK:∀ b p,K b=some (id,p)→K' b=some (id,p)∧w'.heap[b]? = w.heap[b]?) {p:Pth} {v:Value} {d:D} (h:RL w K id p v d):RL w' K' id p v d :=
 h.map p fun b q hq=>hK b _ hq
def Blk.sz:Blk→Nat
 | .sl _ sz _ _=>sz
 | _=>0
def Blk.gen:Blk→Option Nat
 | .sl _ _ m _=>m.gen
 | _=>Option.none
def Blk.genf:Blk→Option Nat
 | .sl _ _ (.dp g _ []) _=>some g
 | _=>Option.none
theorem Blk.genf_gen {B:Blk} {g:Nat} (h:B.genf=some g):B.gen=some g:=by
 unfold Blk.genf at h
 split at h
 ·exact h
 ·cases h
theorem Blk.genf_full {e:TypeId} {sz:Nat} {m:Mo} {es:List (List D)} {g:Nat} (h:(Blk.sl e sz m es).genf=some g):m.full=true:=by
 cases m with
 | dp g t H=>cases H with
  | nil=>rfl
  | cons=>cases h
 | _=>rfl
inductive VR (w:World) (F:Nat→Prop) (ι:Io) (h:Nat→Blk):Value→AV→Prop where
 | u (v:Value):VR w F ι h v .u
 | c (v:Value) (d:D) (hr:Rd w F v d):VR w F ι h v (.c d)
 | n (sz:Nat):VR w F ι h (.slice Option.none 0 0) (.n sz)
 | rdead (v:Value) (sz id off len:Nat) (h1:v.oneCell'=true) (hd:h id = .dead):VR w F ι h v (.r sz id off len)
 | rnil (id:Nat) (e:TypeId) (sz:Nat) (m:Mo) (hi:ι id=Option.none) (hh:h id = .sl e sz m []):VR w F ι h (.slice Option.none 0 0) (.r sz id 0 0)
 | remp (ad:Addr) (cap id:Nat) (e:TypeId) (sz:Nat) (m:Mo) (hi:ι id=Option.none) (hh:h id = .sl e sz m []) (ht:m.tip=false):VR w F ι h (.slice (some ad) 0 cap) (.r sz id 0 0)
 | r (id off len b ao cap:Nat) (e:TypeId) (sz:Nat) (m:Mo) (es:List (List D)) (hi:ι id=some b) (hh:h id = .sl e sz m es) (hlen:off+len≤es.length)
   (hcap:len≤cap) (ho:len≠0→ao=ι.o id+off*sz) (htip:m.tip=true→off=0→ao=0∧w.shape? b=some (e,cap*sz)):VR w F ι h (.slice (some ⟨b,ao,Option.none⟩) len cap) (.r sz id off len)
 | pdead (v:Value) (id i j:Nat) (h1:v.oneCell'=true) (hd:h id = .dead):VR w F ι h v (.p id i j)
 | p (id i j b:Nat) (hi:ι id=some b) (hn:h id≠.none) (hd:h id≠.dead):VR w F ι h (.pointer (some ⟨b,ι.o id+i*(h id).sz+j,Option.none⟩)) (.p id i j)
 | q (b o j:Nat) (cs:List D) (x:Nat→Value) (hb:F b) (hc:∀ k d,cs[k]? = some d→w.cell? ⟨b,o+k,Option.none⟩=some (x k)) (hr:∀ k d,cs[k]? = some d→Rd w F (x k) d) :
   VR w F ι h (.pointer (some ⟨b,o+j,Option.none⟩)) (.q cs j)
 | a (vs:Array Value) (cs:List AV) (hl:vs.size=cs.length) (h1:∀ (k:Nat) (v:Value),vs[k]? = some v→v.oneCell'=true) (hv:∀ (k:Nat) (v:Value) (x:AV),vs[k]? = some v→cs[k]? = some x→VR w F ι h v x):VR w F ι h (.agg vs) (.a cs)
 | t (vs:Array Value) (cs:List AV) (hl:vs.size=cs.length) (hv:∀ (k:Nat) (v:Value) (x:AV),vs[k]? = some v→cs[k]? = some x→VR w F ι h v x):VR w F ι h (.tuple vs) (.t cs)
 | bdead (v:Value) (d:D) (id g:Nat) (p:Pth) (h1:v.oneCell'=true) (hd:h id = .dead):VR w F ι h v (.b d id g p)
 | b (v:Value) (d:D) (id g:Nat) (p:Pth) (e:TypeId) (sz:Nat) (m:Mo) (es:List (List D)) (h1:v.oneCell'=true) (hh:h id = .sl e sz m es) (hg:∀ g0,m.gen=some g0→g≤g0)
   (hv:m.gen=some g→RL w ι.k id p v d∧∀ i j,p=[(i,j)]→∃ bk cur e0,ι id=some bk∧w.heap[bk]? = some (.cells cur e0 (0,0))∧cur[ι.o id+i*sz+j]? = some v):VR w F ι h v (.b d id g p)
 | bqdead (v:Value) (cs:List D) (j id g:Nat) (p:Pth) (i:Nat) (h1:v.oneCell'=true) (hd:h id = .dead):VR w F ι h v (.bq cs j id g p i)
 | bq (v:Value) (cs:List D) (j id g:Nat) (p:Pth) (i:Nat) (e:TypeId) (sz:Nat) (m:Mo) (es:List (List D)) (h1:v.oneCell'=true) (hh:h id = .sl e sz m es) (hg:∀ g0,m.gen=some g0→g≤g0)
   (hv:m.gen=some g→∃ bk o cur e0,v = .pointer (some ⟨bk,o+j,Option.none⟩)∧ι.k bk=some (id,p)∧w.heap[bk]? = some (.cells cur e0 (0,0))∧∀ k d,cs[k]? = some d→∃ x,cur[o+k]? = some x∧RL w ι.k id (p++[(i,k)]) x d):VR w F ι h v (.bq cs j id g p i)
def Same:Blk→Blk→Prop
 | .box cs,.box cs'=>cs'.length=cs.length
 | .sl e sz m es,.sl e' sz' m' es'=>e'=e∧sz'=sz∧es'.length=es.length∧Mo.le m m'
 | _,_=>False
theorem Same.sz {x y:Blk} (h:Same x y):y.sz=x.sz:=by
 cases x <;> cases y <;> simp_all [Same,Blk.sz]
theorem Same.trans {x y z:Blk} (h:Same x y) (h':Same y z):Same x z:=by
 cases x <;> cases y <;> simp only [Same] at h <;> cases z <;> simp only [Same] at h' ⊢
 ·exact h'.trans h
 ·exact ⟨h'.1.trans h.1,h'.2.1.trans h.2.1,h'.2.2.1.trans h.2.2.1,h.2.2.2.trans h'.2.2.2⟩
theorem Same.ne {x y:Blk} (h:Same x y):y≠.none∧y≠.dead:=by
 cases x <;> cases y <;> simp_all [Same]
theorem Same.refl {x:Blk} (h1:x≠.none) (h2:x≠.dead):Same x x:=by
 cases x with
 | none=>exact absurd rfl h1
 | dead=>exact absurd rfl h2
 | box cs=>exact rfl
 | sl e sz m es=>exact ⟨rfl,rfl,rfl,.refl _⟩
def Zv:Blk→Blk→Prop
 | .box cs,.box cs'=>cs'.length=cs.length
 | .sl e sz m es,.sl e' sz' m' es'=>e'=e∧sz'=sz∧es'.length=es.length∧(m'.tip=true→m.tip=true)∧(m'.gen.isSome=true→m.gen.isSome=true)
 | _,_=>False
theorem Same.w {x y:Blk} (h:Same x y):Zv x y:=by
 cases x <;> cases y <;> simp only [Same] at h
 ·exact h
 ·refine ⟨h.1,h.2.1,h.2.2.1,h.2.2.2.tip,fun hg=>?_⟩
  obtain ⟨g,hg⟩:=Option.isSome_iff_exists.1 hg
  obtain ⟨g0,h0,_⟩:=h.2.2.2.gen g hg
  rw [h0];rfl
theorem Zv.trans {x y z:Blk} (h:Zv x y) (h':Zv y z):Zv x z:=by
 cases x <;> cases y <;> simp only [Zv] at h <;> cases z <;> simp only [Zv] at h' ⊢
 ·exact h'.trans h
 ·exact ⟨h'.1.trans h.1,h'.2.1.trans h.2.1,h'.2.2.1.trans h.2.2.1,fun e=>h.2.2.2.1 (h'.2.2.2.1 e),fun e=>h.2.2.2.2 (h'.2.2.2.2 e)⟩
theorem Zv.ne {x y:Blk} (h:Zv x y):y≠.none∧y≠.dead:=by
 cases x <;> cases y <;> simp_all [Zv]
def Kin (w w':World) (ι ι':Io) (id:Nat):Prop:=∀ b p,ι.k b=some (id,p)→ι'.k b=some (id,p)∧w'.heap[b]? = w.heap[b]?
def Goes (w w':World) (ι ι':Io) (h h':Nat→Blk) (id:Nat):Prop :=
 h id = .none∨h' id = .dead∨(ι' id=ι id∧ι'.o id=ι.o id∧Same (h id) (h' id)∧(∀ b,ι id=some b→w'.shape? b=w.shape? b) ∧
  ∀ g,(h id).gen=some g→(h' id).gen=some g→(∀ b,ι id=some b→w'.heap[b]? = w.heap[b]?)∧Kin w w' ι ι' id)
theorem VR.mono {w w':World} {F F':Nat→Prop} {ι ι':Io} {h h':Nat→Blk} (hF:∀ b,F b→F' b∧w'.heap[b]? = w.heap[b]?)
  (hg:∀ id,Goes w w' ι ι' h h' id) {v:Value} {x:AV} (hv:VR w F ι h v x):VR w' F' ι' h' v x:=by
 have dead:∀ id,h id = .dead→h' id = .dead:=by
  intro id hd
  rcases hg id with g | g | ⟨_,_,g,_⟩
  ·rw [hd] at g;cases g
  ·exact g
  ·rw [hd] at g;cases hx:h' id <;> simp [hx,Same] at g
 have slc:∀ id e sz m es,h id = .sl e sz m es→h' id = .dead∨(ι' id=ι id∧ι'.o id=ι.o id∧(∃ m' es',h' id = .sl e sz m' es'∧es'.length=es.length∧Mo.le m m' ∧
   ∀ g,m.gen=some g→m'.gen=some g→(∀ b,ι id=some b→w'.heap[b]? = w.heap[b]?)∧Kin w w' ι ι' id)∧(∀ b,ι id=some b→w'.shape? b=w.shape? b)):=by
  intro id e sz m es hh
  rcases hg id with g | g | ⟨g1,g2,g,gs,gk⟩
  ·rw [hh] at g;cases g
  ·exact .inl g
  ·right
   rw [hh] at g gk
   cases hx:h' id with
   | sl e' sz' m' es' =>
    simp only [hx,Same] at g
    obtain ⟨rfl,rfl,hl,hm⟩:=g
    rw [hx] at gk
    exact ⟨g1,g2,⟨m',es',rfl,hl,hm,gk⟩,gs⟩
   | none=>simp [hx,Same] at g
   | dead=>simp [hx,Same] at g
   | box cs=>simp [hx,Same] at g
 induction hv with
 | u v=>exact .u v
 | c v d hr=>exact .c v d (hr.mono hF)
 | n sz=>exact .n sz
 | rdead v sz id off len h1 hd=>exact .rdead v sz id off len h1 (dead id hd)
 | rnil id e sz m hi hh =>
  rcases slc id e sz m [] hh with g | ⟨g1,g2,⟨m',es',g3,g4,g5,_⟩,_⟩
  ·exact .rdead _ sz id 0 0 rfl g
  ·have:es'=[]:=List.eq_nil_of_length_eq_zero g4
   subst this
   exact .rnil id _ _ m' (g1.trans hi) g3
 | remp ad cap id e sz m hi hh ht =>
  rcases slc id e sz m [] hh with g | ⟨g1,g2,⟨m',es',g3,g4,g5,_⟩,_⟩
  ·exact .rdead _ sz id 0 0 rfl g
  ·have:es'=[]:=List.eq_nil_of_length_eq_zero g4
   subst this
   refine .remp ad cap id _ _ m' (g1.trans hi) g3 ?_
   cases hx:m'.tip with
   | false=>rfl
   | true=>rw [g5.tip hx] at ht;cases ht
 | r id off len b ao cap e sz m es hi hh hlen hcap ho htip =>
  rcases slc id e sz m es hh with g | ⟨g1,g2,⟨m',es',g3,g4,g5,_⟩,gs⟩
  ·exact .rdead _ sz id off len rfl g
  ·exact .r id off len b ao cap _ _ m' es' (g1.trans hi) g3 (by omega) hcap (fun hn=>by rw [g2];exact ho hn) (fun ht h0=>⟨(htip (g5.tip ht) h0).1,(gs b hi).trans (htip (g5.tip ht) h0).2⟩)
 | pdead v id i j h1 hd=>exact .pdead v id i j h1 (dead id hd)
 | p id i j b hi hn hd =>
  rcases hg id with g | g | ⟨g1,g2,g,_⟩
  ·exact absurd g hn
  ·exact .pdead _ id i j rfl g
  ·rw [← g.sz,← g2]
   exact .p id i j b (g1.trans hi) g.ne.1 g.ne.2
 | q b o j cs x hb hc hr =>
  refine .q b o j cs x (hF b hb).1 (fun k d hk=>?_) (fun k d hk=>(hr k d hk).mono hF)
  rw [World.cell?_of_block (w:=w) (w':=w') (a:=⟨b,_,Option.none⟩) (hF b hb).2]
  exact hc k d hk
 | a vs cs hl h1 hv ih=>exact .a vs cs hl h1 ih
 | t vs cs hl hv ih=>exact .t vs cs hl ih
 | bdead v d id g p h1 hd=>exact .bdead v d id g p h1 (dead id hd)
 | b v d id g p e sz m es h1 hh hge hvv =>
  rcases slc id e sz m es hh with q | ⟨g1,g2,⟨m',es',g3,g4,g5,g6⟩,gs⟩
  ·exact .bdead v d id g p h1 q
  ·refine .b v d id g p _ _ m' es' h1 g3 (fun g0 hg0=>?_) (fun hm=>?_)
   ·obtain ⟨ga,ha,hb⟩:=g5.gen g0 hg0
    have:=hge ga ha
    omega
   ·obtain ⟨ga,ha,hb⟩:=g5.gen g hm
    have:=hge ga ha
    have:ga=g:=by omega
    subst this
    obtain ⟨k1,k2⟩:=g6 ga ha hm
    obtain ⟨c1,c2⟩:=hvv ha
    refine ⟨c1.mono k2,fun i j hp=>?_⟩
    obtain ⟨bk,cur,e0,c3,c4,c5⟩:=c2 i j hp
    exact ⟨bk,cur,e0,g1.trans c3,(k1 bk c3).trans c4,by rw [g2];exact c5⟩
 | bqdead v cs j id g p i h1 hd=>exact .bqdead v cs j id g p i h1 (dead id hd)
 | bq v cs j id g p i e sz m es h1 hh hge hvv =>
  rcases slc id e sz m es hh with q | ⟨g1,g2,⟨m',es',g3,g4,g5,g6⟩,gs⟩
  ·exact .bqdead v cs j id g p i h1 q
  ·refine .bq v cs j id g p i _ _ m' es' h1 g3 (fun g0 hg0=>?_) (fun hm=>?_)
   ·obtain ⟨ga,ha,hb⟩:=g5.gen g0 hg0
    have:=hge ga ha
    omega
   ·obtain ⟨ga,ha,hb⟩:=g5.gen g hm
    have:=hge ga ha
    have:ga=g:=by omega
    subst this
    obtain ⟨k1,k2⟩:=g6 ga ha hm
    obtain ⟨bk,o,cur,e0,c1,c2,c3,c4⟩:=hvv ha
    obtain ⟨k3,k4⟩:=k2 bk p c2
    refine ⟨bk,o,cur,e0,c1,k3,k4.trans c3,fun k d hk=>?_⟩
    obtain ⟨x,c5,c6⟩:=c4 k d hk
    exact ⟨x,c5,c6.mono k2⟩
def RM (w:World) (F:Nat→Prop) (ι:Io) (id:Nat) (m:Mo) (i j:Nat) (v:Value) (d:D):Prop:=match m with
 | .dp _ _ H=>v.oneCell'=true∧((i,j)∉H→RL w ι.k id [(i,j)] v d)
 | _=>Rd w F v d
theorem RM.one {w:World} {F:Nat→Prop} {ι:Io} {id:Nat} {m:Mo} {i j:Nat} {v:Value} {d:D} (h:RM w F ι id m i j v d):v.oneCell'=true:=by
 cases m with
 | dp g t H=>exact h.1
 | _=>exact Rd.one h
theorem RM.mono {w w':World} {F F':Nat→Prop} {ι ι':Io} (hF:∀ b,F b→F' b∧w'.heap[b]? = w.heap[b]?) {id:Nat} (hk:Kin w w' ι ι' id) {m:Mo} {i j:Nat} {v:Value} {d:D} (h:RM w F ι id m i j v d):RM w' F' ι' id m i j v d:=by
 cases m with
 | dp g t H=>exact ⟨h.1,fun hn=>(h.2 hn).mono hk⟩
 | _=>exact Rd.mono hF h
theorem RM.rd {w:World} {F F':Nat→Prop} {ι:Io} {id:Nat} {m:Mo} {i j:Nat} {v:Value} {d:D} (hm:m.full=true) (hF:∀ b,F b→F' b) (hk:∀ b p,ι.k b=some (id,p)→F' b) (h:RM w F ι id m i j v d):Rd w F' v d:=by
 cases m with
 | dp g t H =>
  cases H with
  | nil=>exact (h.2 (by simp)).rd hk
  | cons=>simp [Mo.full] at hm
 | _=>exact Rd.mono (fun b hb=>⟨hF b hb,rfl⟩) h
inductive BR (w:World) (F:Nat→Prop) (ι:Io) (h:Nat→Blk) (id:Nat):Blk→Prop where
 | none:BR w F ι h id .none
 | dead:BR w F ι h id .dead
 | box (b:Nat) (e:TypeId) (vals:Array Value) (cs:List AV) (hi:ι id=some b) (ho:ι.o id=0) (hb:w.heap[b]? = some (.cells vals e (0,0))) (hl:vals.size=cs.length)
   (h1:∀ (k:Nat) (v:Value),vals[k]? = some v→v.oneCell'=true) (hv:∀ (k:Nat) (v:Value) (x:AV),vals[k]? = some v→cs[k]? = some x→VR w F ι h v x):BR w F ι h id (.box cs)
 | slnil (e:TypeId) (sz:Nat) (m:Mo) (hz:0<sz) (hi:ι id=Option.none):BR w F ι h id (.sl e sz m [])
 | sl (b:Nat) (e e0:TypeId) (sz:Nat) (m:Mo) (es:List (List D)) (cur:Array Value) (hz:0<sz) (hi:ι id=some b) (hb:w.heap[b]? = some (.cells cur e0 (0,0)))
   (htc:m.tip=true→e0=e∧ι.o id=0∧∃ C,cur.size=C*sz∧es.length≤C∧C≤maxLen) (hle:ι.o id+es.length*sz≤cur.size) (hml:es.length≤maxLen) (hsz:∀ x,x∈es→x.length=sz)
   (hv:∀ i j x d,es[i]? = some x→x[j]? = some d→∃ v,cur[ι.o id+i*sz+j]? = some v∧RM w F ι id m i j v d):BR w F ι h id (.sl e sz m es)
theorem BR.mono {w w':World} {F F':Nat→Prop} {ι ι':Io} {h h':Nat→Blk} (hF:∀ b,F b→F' b∧w'.heap[b]? = w.heap[b]?)
  (hg:∀ id,Goes w w' ι ι' h h' id) {id:Nat} {x:Blk} (hi':ι' id=ι id) (ho':ι'.o id=ι.o id) (hb':∀ b,ι id=some b→w'.heap[b]? = w.heap[b]?) (hk':Kin w w' ι ι' id) (hv:BR w F ι h id x):BR w' F' ι' h' id x:=by
 cases hv with
 | none=>exact .none
 | dead=>exact .dead
 | box b e vals cs hi ho hb hl h1 hv=>exact .box b e vals cs (hi'.trans hi) (ho'.trans ho) ((hb' b hi).trans hb) hl h1 (fun k v x hk hx=>(hv k v x hk hx).mono hF hg)
 | slnil e sz m hz hi=>exact .slnil e sz m hz (hi'.trans hi)
 | sl b e e0 sz m es cur hz hi hb htc hle hml hsz hv =>
  exact .sl b e e0 sz m es cur hz (hi'.trans hi) ((hb' b hi).trans hb) (fun ht=>by rw [ho'];exact htc ht) (by rw [ho'];exact hle) hml hsz (fun i j x d hx hd=>let ⟨v,h1,h2⟩:=hv i j x d hx hd;⟨v,by rw [ho'];exact h1,h2.mono hF hk'⟩)
def Blk.own:Blk→Bool
 | .box _=>true
 | .sl _ _ m _=>m.own
 | _=>false
structure Hd where
 o:Option Nat
 base:Nat
 B:Blk
 K:Nat→Option Pth
def Hd.has (x:Hd) (b:Nat):Prop:=x.o=some b∨∃ p,x.K b=some p
def Hd.io (x:Hd):Io:=⟨fun _=>x.o,fun b=>(x.K b).map fun p=>(0,p),fun _=>x.base⟩
structure Ctx where
 P:Program
 w0:World
 F0:Nat→Prop
 X:Nat→Prop
 L:Nat→Option Nat
 N:Nat
 G:Nat→Prop
 O:Nat→Option Hd
 GX:∀ b,G b→X b
def Ctx.fr (C:Ctx) (b:Nat):Prop:=C.w0.heap.size≤b∨C.G b
theorem Ctx.fr.fra {C:Ctx} {b:Nat} (h:C.fr b):C.w0.heap.size≤b∨C.X b:=h.imp (fun h=>h) (C.GX b)
def Fz (C:Ctx) (w:World) (ι:Io) (h:Nat→Blk) (b:Nat):Prop :=
 b<w.heap.size∧(C.F0 b∨C.fr b)∧(∀ id,ι id=some b→(h id).own=false)∧ι.k b=none
structure Fra (C:Ctx) (w:World):Prop where
 os:w.os=C.w0.os
 tape:w.tape=C.w0.tape
 output:w.output=C.w0.output
 size:C.w0.heap.size≤w.heap.size
 block:∀ k,k<C.w0.heap.size→¬ C.X k→w.heap[k]? = C.w0.heap[k]?
structure Lab (C:Ctx) (w:World) (ι:Io) (h:Nat→Blk) (b id:Nat) (p:Pth):Prop where
 pn:p≠[]
 dp:∃ e sz g t H es,h id = .sl e sz (.dp g t H) es
 fr:C.fr b
 lt:b<w.heap.size
 ne:∀ i,ι i≠some b
structure Sat (C:Ctx) (U:Nat→Prop) (σ:St) (a:Act) (w:World) (ι:Io):Prop where
 fra:Fra C w
 vals:∀ s,VR w (Fz C w ι σ.h) ι σ.h (a.tmps.getD s undef) (σ.t s)
 size:a.tmps.size=C.N
 defers:a.defers=[]
 blk:∀ id,BR w (Fz C w ι σ.h) ι σ.h id (σ.h id)
 inj:∀ i j b,ι i=some b→ι j=some b→i=j
 rng:∀ i b,ι i=some b→(C.fr b∨C.X b∧∃ cs,σ.h i = .box cs)∧b<w.heap.size
 fresh:∀ i,U i→σ.h i = .none∧ι i=Option.none
 live:∀ i b,ι i=some b→σ.h i≠.none∧σ.h i≠.dead
 lent:∀ i b,C.L i=some b→ι i=some b∧(∃ cs,σ.h i = .box cs)∧w.shape? b=C.w0.shape? b
 hand:∀ i x,C.O i=some x→σ.h i = .dead∨ι i=x.o∧ι.o i=x.base∧Zv x.B (σ.h i)∧∀ b,x.o=some b→w.shape? b=C.w0.shape? b
 lab:∀ b id p,ι.k b=some (id,p)→Lab C w ι σ.h b id p
def SatU (C:Ctx) (U:Nat→Prop) (σ:St) (a:Act) (w:World):Prop:=∃ ι,Sat C U σ a w ι
def SatE (C:Ctx) (σ:St) (a:Act) (w:World):Prop:=SatU C (fun i=>σ.nx≤i) σ a w
structure Rest (w w':World) (ι ι':Io) (id:Nat):Prop where
 b:ι' id=ι id
 o:ι'.o id=ι.o id
 heap:∀ b,ι id=some b→w'.heap[b]? = w.heap[b]?
 kin:Kin w w' ι ι' id
theorem Rest.goes {w w':World} {ι ι':Io} {h h':Nat→Blk} {id:Nat} (r:Rest w w' ι ι' id) (hh:h' id=h id):Goes w w' ι ι' h h' id:=by
 unfold Goes
 rw [hh]
 cases hx:h id with
 | none=>exact .inl rfl
 | dead=>exact .inr (.inl rfl)
 | _=>exact .inr (.inr ⟨r.b,r.o,.refl (by simp) (by simp),fun b hb=>by unfold World.shape?;rw [r.heap b hb],fun _ _ _=>⟨r.heap,r.kin⟩⟩)
theorem Sat.evolve {C:Ctx} {U U':Nat→Prop} {σ:St} {a:Act} {w w':World} {ι ι':Io} {h':Nat→Blk} {nx':Nat} (S:Sat C U σ a w ι) (hfra:Fra C w')
  (hF:∀ b,Fz C w ι σ.h b→Fz C w' ι' h' b∧w'.heap[b]? = w.heap[b]?)
  (hg:∀ id,Goes w w' ι ι' σ.h h' id)
  (hbx:∀ i cs,σ.h i = .box cs→h' i≠.dead)
  (hblk:∀ id,(h' id=σ.h id∧Rest w w' ι ι' id)∨BR w' (Fz C w' ι' h') ι' h' id (h' id))
  (hinj:∀ i j b,ι' i=some b→ι' j=some b→i=j)
  (hrng:∀ i b,ι' i=some b→(C.fr b∨C.X b∧∃ cs,h' i = .box cs)∧b<w'.heap.size)
  (hfresh:∀ i,U' i→h' i = .none∧ι' i=Option.none)
  (hlive:∀ i b,ι' i=some b→h' i≠.none∧h' i≠.dead)
  (hlab:∀ b id p,ι'.k b=some (id,p)→Lab C w' ι' h' b id p):Sat C U' ⟨σ.t,h',nx'⟩ a w' ι' where
 fra:=hfra
 vals:=fun s=>(S.vals s).mono hF hg
 size:=S.size
 defers:=S.defers
 blk:=fun id=>by
  rcases hblk id with ⟨h1,h2⟩ | hb
  ·have:=(S.blk id).mono hF hg h2.b h2.o h2.heap h2.kin
   rw [← h1] at this
   exact this
  ·exact hb
 inj:=hinj
 rng:=hrng
 fresh:=hfresh
 live:=hlive
 lent:=fun i b hL=>by
  obtain ⟨h1,⟨cs,h2⟩,h3⟩:=S.lent i b hL
  rcases hg i with g | g | ⟨g1,_,g2,g3,_⟩
  ·rw [h2] at g;cases g
  ·exact absurd g (hbx i cs h2)
  ·refine ⟨g1.trans h1,?_,(g3 b h1).trans h3⟩
   rw [h2] at g2
   cases hx:h' i with
   | box cs'=>exact ⟨cs',hx⟩
   | none=>simp [hx,Same] at g2
   | dead=>simp [hx,Same] at g2
   | sl e sz m es=>simp [hx,Same] at g2
 hand:=fun i x hO=>by
  rcases S.hand i x hO with h1 | ⟨h1,h1',h2,h3⟩
  ·rcases hg i with g | g | ⟨_,_,g,_⟩
   ·rw [h1] at g;cases g
   ·exact .inl g
   ·rw [h1] at g;exact g.elim
  ·rcases hg i with g | g | ⟨g1,g1',g2,g3,_⟩
   ·exact absurd g h2.ne.1
   ·exact .inl g
   ·exact .inr ⟨g1.trans h1,g1'.trans h1',h2.trans g2.w,fun b hb=>(g3 b (h1.trans hb)).trans (h3 b hb)⟩
 lab:=hlab
theorem Sat.put {C:Ctx} {U:Nat→Prop} {σ:St} {a:Act} {w:World} {ι:Io} (S:Sat C U σ a w ι) (d:Nat) (hd:d<C.N) (v:Value) (x:AV)
  (hv:VR w (Fz C w ι σ.h) ι σ.h v x):Sat C U ⟨upd σ.t d x,σ.h,σ.nx⟩ (a.put (some d) v) w ι where
 fra:=S.fra
 vals:=fun s=>by
  have hsz:d<a.tmps.size:=by rw [S.size];exact hd
  by_cases hs:s=d
  ·subst hs
   simp only [Act.put,Qu]
   rw [show (a.tmps.setIfInBounds s v).getD s undef=v from by simp [Array.getD,hsz]]
   exact hv
  ·have e1:(a.put (some d) v).tmps.getD s undef=a.tmps.getD s undef:=by
    simp only [Act.put,Array.getD_eq_getD_getElem?,Array.getElem?_setIfInBounds]
    rw [if_neg (fun h=>hs h.symm)]
   rw [e1]
   show VR _ _ _ _ _ (upd σ.t d x s)
   rw [Qq _ _ _ _ hs]
   exact S.vals s
 size:=by simp [Act.put,S.size]
 defers:=S.defers
 blk:=S.blk
 inj:=S.inj
 rng:=S.rng
 fresh:=S.fresh
 live:=S.live
 lent:=S.lent
 hand:=S.hand
 lab:=S.lab
theorem Fz.lt {C:Ctx} {w:World} {ι:Io} {h:Nat→Blk} {b:Nat} (hb:Fz C w ι h b):b<w.heap.size:=hb.1
theorem VR.bok {w:World} {F:Nat→Prop} {ι:Io} {h:Nat→Blk} {v:Value} {d:D} {id g:Nat} {p:Pth} (hv:VR w F ι h v (.b d id g p)) (hg0:(h id).genf=some g) :
  RL w ι.k id p v d∧∃ e sz m es,h id = .sl e sz m es∧∀ i j,p=[(i,j)]→∃ bk cur e0,ι id=some bk∧w.heap[bk]? = some (.cells cur e0 (0,0))∧cur[ι.o id+i*sz+j]? = some v:=by
 have hg:=Blk.genf_gen hg0
 cases hv with
 | bdead _ _ _ _ _ h1 hd=>rw [hd] at hg;cases hg
 | b _ _ _ _ _ e sz m es h1 hh hge hvv =>
  rw [hh] at hg
  obtain ⟨c1,c2⟩:=hvv hg
  exact ⟨c1,e,sz,m,es,hh,c2⟩
theorem VR.bqok {w:World} {F:Nat→Prop} {ι:Io} {h:Nat→Blk} {v:Value} {cs:List D} {j id g:Nat} {p:Pth} {i:Nat} (hv:VR w F ι h v (.bq cs j id g p i)) (hg0:(h id).genf=some g) :
  ∃ bk o cur e0,v = .pointer (some ⟨bk,o+j,Option.none⟩)∧ι.k bk=some (id,p)∧w.heap[bk]? = some (.cells cur e0 (0,0))∧∀ k d,cs[k]? = some d→∃ x,cur[o+k]? = some x∧RL w ι.k id (p++[(i,k)]) x d:=by
 have hg:=Blk.genf_gen hg0
 cases hv with
 | bqdead _ _ _ _ _ _ _ h1 hd=>rw [hd] at hg;cases hg
 | bq _ _ _ _ _ _ _ e sz m es h1 hh hge hvv =>
  rw [hh] at hg
  exact hvv hg
theorem VR.bq_of {w:World} {F:Nat→Prop} {ι:Io} {h:Nat→Blk} {cs:List D} {j id g:Nat} {p:Pth} {i bk o:Nat} {cur:Array Value} {e0:TypeId} (hg0:(h id).genf=some g) (hk:ι.k bk=some (id,p)) (hb:w.heap[bk]? = some (.cells cur e0 (0,0)))
  (hc:∀ k d,cs[k]? = some d→∃ x,cur[o+k]? = some x∧RL w ι.k id (p++[(i,k)]) x d):VR w F ι h (.pointer (some ⟨bk,o+j,Option.none⟩)) (.bq cs j id g p i):=by
 have hg:=Blk.genf_gen hg0
 cases hx:h id with
 | sl e sz m es =>
  rw [hx] at hg
  refine .bq _ cs j id g p i e sz m es rfl hx (fun g0 h0=>?_) (fun _=>⟨bk,o,cur,e0,rfl,hk,hb,hc⟩)
  have h0:some g=some g0:=hg.symm.trans h0
  cases h0
  exact Nat.le_refl _
 | _=>rw [hx] at hg;cases hg
theorem VR.b_of {w:World} {F:Nat→Prop} {ι:Io} {h:Nat→Blk} {v:Value} {d:D} {id g:Nat} {p:Pth} {e:TypeId} {sz:Nat} {m:Mo} {es:List (List D)} (hx:h id = .sl e sz m es) (hg:m.gen=some g) (hr:RL w ι.k id p v d)
  (hc:∀ i j,p=[(i,j)]→∃ bk cur e0,ι id=some bk∧w.heap[bk]? = some (.cells cur e0 (0,0))∧cur[ι.o id+i*sz+j]? = some v):VR w F ι h v (.b d id g p):=by
 refine .b v d id g p e sz m es hr.one hx (fun g0 h0=>?_) (fun _=>⟨hr,hc⟩)
 rw [hg] at h0
 cases h0
 exact Nat.le_refl _
end Go.Proofs.YtdplaepmjogjjaaGreat.Am
namespace Go.Proofs.YtdplaepmjogjjaaGreat.Am
open Go Go.RowKit
inductive Opd where
 | s (i:Nat)
 | k (x:AV)
def Opd.ev (t:Nat→AV):Opd→AV
 | .s i=>t i
 | .k x=>x
inductive AOp where
 | mov (x:Opd)
 | pick (c x y:Opd)
 | bin (op:BinOp) (x y:Opd)
 | cmpa (n:Nat) (neg:Bool) (x y:Opd)
 | eqb (neg:Bool) (x y:Opd)
 | not (x:Opd)
 | neg (x:Opd)
 | new (e:TypeId) (zs:List AV)
 | box (e:TypeId) (x:Opd) (n:Nat)
 | load (x:Opd) (n:Nat) (agg:Bool)
 | store (x v:Opd) (n:Nat)
 | fad (x:Opd) (off:Nat)
 | iad (x i:Opd) (sz:Nat)
 | fld (x:Opd) (off n:Nat) (agg:Bool)
 | build (zs:List AV) (ps:List (Nat × Nat × Opd))
 | bsl (e:TypeId) (sz:Nat) (ps:List Opd)
 | mk (e:TypeId) (sz:Nat) (zs:List AV) (n:Opd)
 | slc (x:Opd) (lo hi:Option Opd) (sz:Nat)
 | len (x:Opd)
 | app (s x:Opd) (e:TypeId) (sz:Nat)
 | mm (mx:Bool) (x y:Opd)
 | call (f:FuncId) (args:List Opd)
 | ext (x:Opd) (i:Nat)
 | conv (k:IntKind) (x:Opd)
 | nilc (x:Opd)
structure AO where
 dst:Option Nat
 op:AOp
 gd:Option (Nat × Bool)
 off:Nat
structure Res where
 v:AV
 hb:List Blk
 bx:List (List AV)
 al:Bool
 gv:List Blk:=[]
inductive AM where
 | d
 | o
 | p
structure Tab where
 md:FuncId→List AM
 fn:FuncId→List AV→Option Res
 dp:Bool:=false
instance:CoeFun Tab fun _=>FuncId→List AV→Option Res:=⟨Tab.fn⟩
structure Eff where
 val:AV
 blks:List (Nat × Blk)
def AV.d (h:Nat→Blk):AV→Option D
 | .c d=>some d
 | .n sz=>some (.sl sz [])
 | .r _ id off len=>match h id with
  | .sl _ sz m es=>if m.full=true then some (.sl sz ((es.drop off).take len)) else none
  | _=>none
 | .b d id g _=>if (h id).genf=some g then some d else none
 | _=>none
def AV.ds (h:Nat→Blk):List AV→Option (List D)
 | []=>some []
 | x::xs=>match x.d h,AV.ds h xs with
  | some d,some ds=>some (d::ds)
  | _,_=>none
def AV.cells:AV→List AV
 | .a cs=>cs
 | x=>[x]
def AV.one:AV→Bool
 | .c _ | .n _ | .r .. | .p .. | .q .. | .b .. | .bq ..=>true
 | _=>false
def AV.st:AV→Bool
 | .a _=>true
 | x=>x.one
def AV.ref1:AV→List Nat
 | .r _ id _ _=>[id]
 | .b _ id _ _=>[id]
 | _=>[]
def AV.mref1:AV→List Nat
 | .r _ id _ _=>[id]
 | _=>[]
def AV.mrefsL:List AV→List Nat
 | []=>[]
 | x::xs=>x.mref1++AV.mrefsL xs
def AV.mrefs:AV→List Nat
 | .a cs=>AV.mrefsL cs
 | x=>x.mref1
def Blk.dpf:Blk→Bool
 | .sl _ _ (.dp _ _ []) _=>true
 | _=>false
def AV.mov (h:Nat→Blk) (id g i j:Nat):AV→Bool
 | .c (.v _)=>true
 | .n _=>true
 | .r _ id' _ _=>!(Nat.beq id' id)&&(h id').dpf
 | .b _ id' g' pt=>Nat.beq id' id&&Nat.beq g' g&&decide (pt=[(i,j)])
 | _=>false
def AV.movL (h:Nat→Blk) (id g i:Nat):Nat→List AV→Bool
 | _,[]=>true
 | j,x::xs=>x.mov h id g i j&&AV.movL h id g i (j+1) xs
def AV.pl:AV→Bool
 | .c (.v _)=>true
 | .n _=>true
 | _=>false
def D.pl:D→Bool
 | .v _=>true
 | .sl _ []=>true
 | _=>false
def Jc (xs:List (List D)):Bool:=xs.all fun e=>e.all D.pl
def kil:List Nat→List (Nat × Blk)
 | []=>[]
 | id::ids=>(id,.dead)::kil ids
def AV.refsL:List AV→List Nat
 | []=>[]
 | x::xs=>x.ref1++AV.refsL xs
def AV.refs:AV→List Nat
 | .a cs=>AV.refsL cs
 | x=>x.ref1
def fzB:Blk→Blk
 | .sl e sz _ es=>.sl e sz .fz es
 | b=>b
def frz (h:Nat→Blk):List Nat→List (Nat × Blk)
 | []=>[]
 | id::ids=>(id,fzB (h id))::frz h ids
def splice {α:Type} (l:List α) (j:Nat) (xs:List α):List α:=l.take j++xs++l.drop (j+xs.length)
def cut {α:Type} (l:List α) (j n:Nat):Option (List α):=if j+n≤l.length then some ((l.drop j).take n) else none
def YW (agg:Bool) (cs:List AV):Option AV :=
 if agg then some (.a cs) else match cs with
  | [x]=>some x
  | _=>none
def big:Nat:=4294967296
def Blk.alive:Blk→Bool
 | .box _=>true
 | .sl ..=>true
 | _=>false
def biv (op:BinOp):Value→Value→Option Value
 | .int k x,.int k' y =>
  match op with
  | .shl=>if y<0 then none else some (.int k (k.wrap (x*2 ^ (min y.toNat k.bits))))
  | .shr=>if y<0 then none else some (.int k (x.fdiv (2 ^ (min y.toNat k.bits))))
  | op=>if k=k' then (match op with
   | .add=>some (.int k (k.wrap (x+y)))
   | .sub=>some (.int k (k.wrap (x-y)))
   | .mul=>some (.int k (k.wrap (x*y)))
   | .quo=>if y=0 then none else some (.int k (k.wrap (x.tdiv y)))
   | .rem=>if y=0 then none else some (.int k (x.tmod y))
   | .and=>some (.int k (k.wrap ((BitVec.ofInt k.bits x &&& BitVec.ofInt k.bits y).toNat)))
   | .or=>some (.int k (k.wrap ((BitVec.ofInt k.bits x ||| BitVec.ofInt k.bits y).toNat)))
   | .xor=>some (.int k (k.wrap ((BitVec.ofInt k.bits x ^^^ BitVec.ofInt k.bits y).toNat)))
   | .eql=>some (.bool (x==y))
   | .neq=>some (.bool (x != y))
   | .lss=>some (.bool (decide (x<y)))
   | .leq=>some (.bool (decide (x≤y)))
   | .gtr=>some (.bool (decide (x>y)))
   | .geq=>some (.bool (decide (x≥y)))
   | _=>none) else none
 | .string x,.string y=>match op with
  | .eql=>some (.bool (x.toList==y.toList))
  | .neq=>some (.bool (!(x.toList==y.toList)))
  | _=>none
 | _,_=>none
def JW:List AV→Option (List Int)
 | []=>some []
 | .c (.v (.int .i64 x))::r=>match JW r with
  | some l=>some (x::l)
  | none=>none
 | _=>none
def QbP:AV→Option Int
 | .c (.v (.int _ x))=>some x
 | _=>none
def Zt (ev:Opd→AV) (m:Int):Option Opd→Option Int
 | some l=>QbP (ev l)
 | none=>some m
def AV.els (h:Nat→Blk) (sz:Nat):AV→Option (List (List D))
 | .c (.sl sz' es)=>if sz'=sz then some es else none
 | .n _=>some []
 | .r _ id off len=>match h id with
  | .sl _ sz' m es=>if sz'=sz∧m.full=true then some ((es.drop off).take len) else none
  | _=>none
 | .b (.sl sz' es) id g _=>if sz'=sz∧(h id).genf=some g then some es else none
 | _=>none
def AV.okA (h:Nat→Blk) (xs:List (List D)):AV→Bool
 | .r _ idx _ _=>match h idx with
  | .sl _ _ (.dp _ _ _) _=>Jc xs
  | _=>true
 | .b ..=>Jc xs
 | _=>true
def AV.movA (h:Nat→Blk) (id len:Nat) (xs:List (List D)):AV→Bool
 | .r _ idx off _=>match h idx with
  | .sl _ _ (.dp _ _ _) _=>!(Nat.beq idx id)||Nat.ble len off
  | _=>Jc xs
 | _=>Jc xs
def AV.killA (h:Nat→Blk):AV→List Nat
 | .r _ idx _ _=>match h idx with
  | .sl _ _ (.dp _ _ _) _=>[idx]
  | _=>[]
 | _=>[]
def AV.arg (h:Nat→Blk):AV→Option AV
 | .c d=>some (.c d)
 | .n sz=>some (.c (.sl sz []))
 | .r sz id off len=>match (AV.r sz id off len).d h with
  | some d=>some (.c d)
  | none=>none
 | .b d id g pt=>match (AV.b d id g pt).d h with
  | some d=>some (.c d)
  | none=>none
 | .a cs=>match AV.ds h cs with
  | some ds=>some (.a (ds.map .c))
  | none=>none
 | .p id 0 0=>match h id with
  | .box cs=>if AV.refsL cs=[] then (match AV.ds h cs with
   | some ds=>some (.bx (ds.map .c))
   | none=>none) else none
  | _=>none
 | _=>none
def AV.argL (h:Nat→Blk):List AV→Option (List AV)
 | []=>some []
 | x::xs=>match x.arg h,AV.argL h xs with
  | some d,some ds=>some (d::ds)
  | _,_=>none
def AV.argO (h:Nat→Blk):AV→Option AV
 | .r sz id off len=>match h id with
  | .sl e sz' .ow es=>if sz'=sz∧off=0∧len=es.length then some (.ow e sz .ow es) else none
  | _=>none
 | _=>none
def AV.argP1 (h:Nat→Blk):AV→Option AV
 | .c (.v x)=>some (.c (.v x))
 | .r sz id off len=>match h id with
  | .sl _ sz' (.dp _ _ []) es=>if sz'=sz∧off=0∧len=es.length then some (.ow 0 sz (.dp 0 false []) es) else none
  | _=>none
 | _=>none
def AV.argPL (h:Nat→Blk):List AV→Option (List AV)
 | []=>some []
 | x::xs=>match x.argP1 h,AV.argPL h xs with
  | some d,some ds=>some (d::ds)
  | _,_=>none
def AV.argP (h:Nat→Blk):AV→Option AV
 | .a cs=>match AV.argPL h cs with
  | some ds=>some (.a ds)
  | none=>none
 | .r sz id off len=>(AV.r sz id off len).argP1 h
 | _=>none
def AV.argX (h:Nat→Blk):AM→AV→Option AV
 | .d,x=>x.arg h
 | .o,x=>x.argO h
 | .p,x=>x.argP h
def AM.h:AM→Bool
 | .d=>false
 | _=>true
def AV.argM (h:Nat→Blk):List AM→List AV→Option (List AV)
 | [],xs=>AV.argL h xs
 | m::ms,xs=>match xs with
  | []=>some []
  | x::xs=>match x.argX h m,AV.argM h ms xs with
   | some d,some ds=>some (d::ds)
   | _,_=>none
def owns:List AM→List AV→List AV
 | [],_=>[]
 | m::ms,xs=>match xs with
  | []=>[]
  | x::xs=>if m.h then x::owns ms xs else owns ms xs
def dats:List AM→List AV→List AV
 | [],xs=>xs
 | m::ms,xs=>match xs with
  | []=>[]
  | x::xs=>if m.h then dats ms xs else x::dats ms xs
def Yv:Blk→Blk→Blk
 | .sl e _ (.dp g _ _) _,.sl _ sz (.dp _ _ []) es=>.sl e sz (.dp (g+1) false []) es
 | .sl _ _ (.dp _ _ _) _,_=>.dead
 | _,B=>B
def AV.lent:AV→List Nat
 | .p id _ _=>[id]
 | _=>[]
def AV.sh1 (b:Nat):AV→AV
 | .r sz id off len=>.r sz (id+b) off len
 | .p id i j=>.p (id+b) i j
 | .c d=>.c d
 | .n sz=>.n sz
 | .q cs j=>.q cs j
 | _=>.u
def AV.sh2 (b:Nat):AV→AV
 | .a cs=>.a (cs.map (AV.sh1 b))
 | x=>x.sh1 b
def AV.sh (b:Nat):AV→AV
 | .t vs=>.t (vs.map (AV.sh2 b))
 | x=>x.sh2 b
def Blk.sh (b:Nat):Blk→Blk
 | .box cs=>.box (cs.map (AV.sh1 b))
 | x=>x
def ZK (b:Nat):List Blk→List (Nat × Blk)
 | []=>[]
 | x::xs=>(b,x)::ZK (b+1) xs
def ZR:List Nat→List (List AV)→List (Nat × Blk)
 | id::ids,cs::css=>(id,.box cs)::ZR ids css
 | _,_=>[]
def Zw (h:Nat→Blk):List Nat→List Blk→List (Nat × Blk)
 | id::ids,x::xs=>(id,Yv (h id) x)::Zw h ids xs
 | _,_=>[]
def YB (ev:Opd→AV):List AV→List (Nat × Nat × Opd)→Option (List AV)
 | cs,[]=>some cs
 | cs,(off,n,x)::r =>
  let v:=(ev x).cells
  if v.length=n∧off+n≤cs.length∧(ev x).st=true then YB ev (splice cs off v) r else none
def elems (h:Nat→Blk) (ev:Opd→AV) (sz:Nat):List Opd→Option (List (List D))
 | []=>some []
 | x::r=>match AV.ds h (ev x).cells,elems h ev sz r with
  | some e,some es=>if e.length=sz then some (e::es) else none
  | _,_=>none
def cellsB (id g i:Nat):Nat→List D→List AV
 | _,[]=>[]
 | j,d::r=>(match d with | .v x=>.c (.v x) | d=>.b d id g [(i,j)])::cellsB id g i (j+1) r
def cellsM (m:Mo) (id i j:Nat) (l:List D):List AV:=match m with
 | .dp g _ _=>cellsB id g i j l
 | _=>l.map .c
def cellsQ (id g:Nat) (p:Pth) (i:Nat):Nat→List D→List AV
 | _,[]=>[]
 | j,d::r=>(match d with | .v x=>.c (.v x) | d=>.b d id g (p++[(i,j)]))::cellsQ id g p i (j+1) r
def movE (h:Nat→Blk) (b:Nat) (ev:Opd→AV):Nat→List Opd→Bool
 | _,[]=>true
 | i,x::r=>AV.movL h b 0 i 0 (ev x).cells&&movE h b ev (i+1) r
def isPV:AV→Bool
 | .c (.v _)=>true
 | _=>false
def Qc3 (Γ:Tab) (h:Nat→Blk) (b:Nat) (f:FuncId) (id g i j:Nat) (xs:List AV):Option Eff :=
 match h id with
 | .sl e sz (.dp g0 t []) es=>match es[i]? with
  | some x=>match x[j]? with
   | some (.sl sz' es')=>match Γ f (.ow 0 sz' (.dp 0 false []) es'::xs) with
    | some ⟨v,[],[],_,[.sl _ _ (.dp _ _ []) es1]⟩ =>
     if g0=g∧0<sz'∧xs.all isPV=true then some ⟨v.sh b,[(b,.dead),(id,.sl e sz (.dp (g+1) t []) (es.set i (x.set j (.sl sz' es1))))]⟩ else none
    | _=>none
   | _=>none
  | none=>none
 | _=>none
def Qax (ms:List AM) (xs:List AV):Option (Nat × Nat × Nat × Nat × List AV) :=
 match ms,xs with
 | .p::ms,.b _ id g [(i,j)]::r=>if ms.all (fun m=>!m.h)=true then some (id,g,i,j,r) else none
 | _,_=>none
def Qdd (Γ:Tab) (h:Nat→Blk) (b:Nat) (f:FuncId) (xs:List AV):Option Eff :=
 match AV.argM h (Γ.md f) xs with
  | some vs=>match Γ f vs with
   | some r=>if r.hb.length≤16∧((r.bx.isEmpty&&r.gv.isEmpty)||r.al)=true∧((dats (Γ.md f) xs).flatMap AV.lent).Nodup∧((owns (Γ.md f) xs).flatMap AV.refs).Nodup ∧
     (∀ id,id∈(owns (Γ.md f) xs).flatMap AV.refs→id∉(dats (Γ.md f) xs).flatMap AV.refs) then
     some ⟨r.v.sh b,ZK b (r.hb.map (Blk.sh b))++ZR ((dats (Γ.md f) xs).flatMap AV.lent) r.bx++Zw h ((owns (Γ.md f) xs).flatMap AV.refs) r.gv ++
      (if r.al then frz h ((dats (Γ.md f) xs).flatMap AV.refs) else [])⟩ else none
   | none=>none
  | none=>none
def Qh (Γ:Tab) (ev:Opd→AV) (h:Nat→Blk) (b:Nat):AOp→Option Eff
 | .mov x=>some ⟨ev x,[]⟩
 | .pick c x y=>match ev c with
  | .c (.v (.bool true))=>some ⟨ev x,[]⟩
  | .c (.v (.bool false))=>some ⟨ev y,[]⟩
  | _=>none
 | .bin op x y=>match ev x,ev y with
  | .c (.v x),.c (.v y)=>match biv op x y with
   | some v=>some ⟨.c (.v v),[]⟩
   | none=>none
  | _,_=>none
 | .cmpa n neg x y=>match ev x,ev y with
  | .a xs,.a ys=>match JW xs,JW ys with
   | some l,some m=>if l.length=n∧m.length=n then some ⟨.c (.v (.bool (if neg then !decide (l=m) else decide (l=m)))),[]⟩ else none
   | _,_=>none
  | _,_=>none
 | .eqb neg x y=>match ev x,ev y with
  | .c (.v (.bool x)),.c (.v (.bool y))=>some ⟨.c (.v (.bool (if neg then !(x==y) else x==y))),[]⟩
  | _,_=>none
 | .not x=>match ev x with
  | .c (.v (.bool c))=>some ⟨.c (.v (.bool (!c))),[]⟩
  | _=>none
 | .neg x=>match ev x with
  | .c (.v (.int k n))=>some ⟨.c (.v (.int k (k.wrap (0-n)))),[]⟩
  | _=>none
 | .new _ zs=>some ⟨.p b 0 0,[(b,.box zs)]⟩
 | .box _ x n=>if (ev x).cells.length=n∧(ev x).st=true then some ⟨.p b 0 0,[(b,.box (ev x).cells)]⟩ else none
 | .load x n agg=>match ev x with
  | .p id i j=>match h id with
   | .box cs=>if i=0 then (match cut cs j n with
    | some l=>match YW agg l with
     | some v=>some ⟨v,[]⟩
     | none=>none
    | none=>none) else none
   | .sl _ _ m es=>if m.full=true then (match es[i]? with
    | some e=>match cut e j n with
     | some l=>match YW agg (cellsM m id i j l) with
      | some v=>some ⟨v,[]⟩
      | none=>none
     | none=>none
    | none=>none) else none
   | _=>none
  | .bq cs j id g p i=>if (h id).genf=some g then (match cut cs j n with
   | some l=>match YW agg (cellsQ id g p i j l) with
    | some v=>some ⟨v,[]⟩
    | none=>none
   | none=>none) else none
  | .q cs j=>match cut cs j n with
   | some l=>match YW agg (l.map .c) with
    | some v=>some ⟨v,[]⟩
    | none=>none
   | none=>none
  | _=>none
 | .store x v n=>if (ev v).cells.length=n∧(ev v).st=true then (match ev x with
  | .p id i j=>match h id with
   | .box cs=>if i=0∧j+n≤cs.length then some ⟨.u,[(id,.box (splice cs j (ev v).cells))]⟩ else none
   | .sl e sz .ow es=>match es[i]? with
    | some x=>match AV.ds h (ev v).cells with
     | some ds=>if j+n≤x.length∧id∉(ev v).refs then some ⟨.u,(id,.sl e sz .ow (es.set i (splice x j ds)))::frz h (ev v).refs⟩ else none
     | none=>none
    | none=>none
   | .sl e sz (.dp g t []) es=>match es[i]? with
    | some x=>match AV.ds h (ev v).cells with
     | some ds=>if j+n≤x.length∧AV.movL h id g i j (ev v).cells=true∧(ev v).mrefs.Nodup then some ⟨.u,(id,.sl e sz (.dp (g+1) t []) (es.set i (splice x j ds)))::kil (ev v).mrefs⟩ else none
     | none=>none
    | none=>none
   | _=>none
  | _=>none) else none
 | .fad x off=>match ev x with
  | .p id i j=>if (h id).alive then some ⟨.p id i (j+off),[]⟩ else none
  | .q cs j=>some ⟨.q cs (j+off),[]⟩
  | .bq cs j id g p i=>if (h id).genf=some g then some ⟨.bq cs (j+off) id g p i,[]⟩ else none
  | _=>none
 | .iad x i sz=>match QbP (ev i) with
  | some i=>if 0≤i then (match ev x with
   | .c (.sl sz' es)=>if sz'=sz then (match es[i.toNat]? with
    | some e=>some ⟨.q e 0,[]⟩
    | none=>none) else none
   | .r sz' id off len=>if sz'=sz∧i.toNat<len∧(h id).alive=true then some ⟨.p id (off+i.toNat) 0,[]⟩ else none
   | .b (.sl sz' es) id g p=>if sz'=sz∧(h id).genf=some g then (match es[i.toNat]? with
    | some e=>some ⟨.bq e 0 id g p i.toNat,[]⟩
    | none=>none) else none
   | _=>none) else none
  | none=>none
 | .fld x off n agg=>match ev x with
  | .a cs=>match cut cs off n with
   | some l=>match YW agg l with
    | some v=>some ⟨v,[]⟩
    | none=>none
   | none=>none
  | _=>none
 | .build zs ps=>match YB ev zs ps with
  | some cs=>some ⟨.a cs,[]⟩
  | none=>none
 | .bsl e sz ps=>match elems h ev sz ps with
  | some es=>if Γ.dp=true then (if movE h b ev 0 ps=true∧(ps.flatMap fun x=>(ev x).mrefs).Nodup then
    some ⟨.r sz b 0 es.length,(b,.sl e sz (.dp 0 true []) es)::kil (ps.flatMap fun x=>(ev x).mrefs)⟩ else none) else
   some ⟨.r sz b 0 es.length,(b,.sl e sz .ow es)::frz h (ps.flatMap fun x=>(ev x).refs)⟩
  | none=>none
 | .mk e sz zs n=>match QbP (ev n),AV.ds h zs with
  | some n,some z=>if 0≤n∧n≤big∧z.length=sz∧(Γ.dp=true→z.all D.pl=true) then
    some ⟨.r sz b 0 n.toNat,[(b,.sl e sz (if Γ.dp=true then .dp 0 true [] else .ow) (List.replicate n.toNat z))]⟩ else none
  | _,_=>none
 | .slc x lo hi sz =>
  match Zt ev 0 lo with
  | some lo=>match ev x with
   | .c (.sl sz' es)=>match Zt ev es.length hi with
    | some hi=>if sz'=sz∧0≤lo∧lo≤hi∧hi≤es.length then some ⟨.c (.sl sz ((es.drop lo.toNat).take (hi.toNat-lo.toNat))),[]⟩ else none
    | none=>none
   | .r sz' id off len=>match Zt ev len hi with
    | some hi=>if sz'=sz∧0≤lo∧lo≤hi∧hi≤len∧(h id).alive=true then some ⟨.r sz id (off+lo.toNat) (hi.toNat-lo.toNat),[]⟩ else none
    | none=>none
   | .n _=>match Zt ev 0 hi with
    | some hi=>if lo=0∧hi=0 then some ⟨.n sz,[]⟩ else none
    | none=>none
   | _=>none
  | none=>none
 | .len x=>match ev x with
  | .c (.sl _ es)=>some ⟨.c (.v (.int .i64 es.length)),[]⟩
  | .n _=>some ⟨.c (.v (.int .i64 0)),[]⟩
  | .r _ id _ len=>if (h id).alive then some ⟨.c (.v (.int .i64 len)),[]⟩ else none
  | .b (.sl _ es) id g _=>if (h id).genf=some g then some ⟨.c (.v (.int .i64 es.length)),[]⟩ else none
  | _=>none
 | .app s x e sz=>match (ev x).els h sz with
  | some xs=>match ev s with
   | .n _=>if xs.length≤big then (if Γ.dp=true then (if (ev x).movA h b 0 xs=true then some ⟨.r sz b 0 xs.length,kil ((ev x).killA h)++[(b,.sl e sz (.dp 0 true []) xs)]⟩ else none) else
     if (ev x).okA h xs=true then some ⟨.r sz b 0 xs.length,[(b,.sl e sz .ow xs)]⟩ else none) else none
   | .r _ id 0 len=>match h id with
    | .sl e' sz' .ow es=>if e'=e∧sz'=sz∧(len=es.length∨len+xs.length≤es.length)∧len+xs.length≤big∧(ev x).okA h xs=true then
      some ⟨.r sz b 0 (len+xs.length),[(id,.dead),(b,.sl e sz .ow (es.take len++xs))]⟩ else none
    | .sl e' sz' (.dp _ true []) es=>if e'=e∧sz'=sz∧(len=es.length∨len+xs.length≤es.length)∧len+xs.length≤big∧(ev x).movA h id len xs=true then
      some ⟨.r sz b 0 (len+xs.length),(id,.dead)::kil ((ev x).killA h)++[(b,.sl e sz (.dp 0 true []) (es.take len++xs))]⟩ else none
    | _=>none
   | _=>none
  | none=>none
 | .mm mx x y=>match ev x,ev y with
  | .c (.v (.int k x)),.c (.v (.int _ y))=>some ⟨.c (.v (.int k (if mx then (if x<y then y else x) else (if y<x then y else x)))),[]⟩
  | _,_=>none
 | .call f args=>match Qax (Γ.md f) (args.map ev) with
  | some (id,g,i,j,r)=>Qc3 Γ h b f id g i j r
  | none=>Qdd Γ h b f (args.map ev)
 | .ext x i=>match ev x with
  | .t vs=>match vs[i]? with
   | some v=>some ⟨v,[]⟩
   | none=>none
  | _=>none
 | .conv k x=>match ev x with
  | .c (.v (.int _ n))=>some ⟨.c (.v (.int k (k.wrap n))),[]⟩
  | _=>none
 | .nilc x=>match ev x with
  | .p id i j=>if (h id).alive then some ⟨.p id i j,[]⟩ else none
  | .q cs j=>some ⟨.q cs j,[]⟩
  | .bq cs j id g p i=>if (h id).genf=some g then some ⟨.bq cs j id g p i,[]⟩ else none
  | _=>none
def updL (h:Nat→Blk):List (Nat × Blk)→Nat→Blk
 | []=>h
 | (i,x)::r=>updL (upd h i x) r
def putO (t:Nat→AV):Option Nat→AV→Nat→AV
 | some d,x=>upd t d x
 | none,_=>t
def St.app (σ:St) (d:Option Nat) (e:Eff):St:=⟨putO σ.t d e.val,updL σ.h e.blks,σ.nx⟩
inductive ACode where
 | skip
 | reg (ops:List AO)
 | draw (ops:List AO) (U:List (Nat × Nat))
 | seq (x y:ACode)
 | cond (c:Opd) (x y:ACode)
 | block (id:Nat) (x:ACode)
 | loop (x:ACode)
 | exit (id:Nat)
 | ret
inductive AEx where
 | normal
 | exit (id:Nat)
 | ret
def regK (Γ:Tab):List AO→(St→Prop)→St→Prop
 | [],K,σ=>K σ
 | o::r,K,σ=>match o.gd with
  | none=>match Qh Γ (Opd.ev σ.t) σ.h (σ.nx+o.off) o.op with
   | some e=>regK Γ r K (σ.app o.dst e)
   | none=>False
  | some (s,w)=>match σ.t s with
   | .c (.v (.bool c)) =>
    (c=w→match Qh Γ (Opd.ev σ.t) σ.h (σ.nx+o.off) o.op with
     | some e=>regK Γ r K (σ.app o.dst e)
     | none=>False) ∧
    (c≠w→regK Γ r K ⟨putO σ.t o.dst (.t []),σ.h,σ.nx⟩)
   | .t []=>regK Γ r K ⟨putO σ.t o.dst (.t []),σ.h,σ.nx⟩
   | _=>False
def acc (ev:Opd→AV):AOp→List Nat
 | .load x _ _ | .fad x _ | .nilc x=>match ev x with | .p id _ _=>[id] | .bq _ _ id _ _ _=>[id] | _=>[]
 | .iad x _ _ | .slc x _ _ _ | .len x=>(ev x).refs
 | .store x v _=>(match ev x with | .p id _ _=>[id] | _=>[])++(ev v).refs
 | .bsl _ _ ps=>ps.flatMap fun x=>(ev x).refs
 | .mk _ _ zs _=>AV.refsL zs
 | .app s x _ _=>(ev s).refs++(ev x).refs
 | .call _ args=>(args.flatMap fun x=>(ev x).refs)++(args.flatMap fun x=>(ev x).lent)
 | _=>[]
def keys (l:List (Nat × Blk)):List Nat:=l.map (·.1)
def QP (Γ:Tab) (o:AO) (σ:St):Option (St × List Nat × List Nat) :=
 match o.gd with
 | none=>match Qh Γ (Opd.ev σ.t) σ.h (σ.nx+o.off) o.op with
  | some e=>some (σ.app o.dst e,acc (Opd.ev σ.t) o.op,keys e.blks)
  | none=>none
 | some (s,w)=>match σ.t s with
  | .c (.v (.bool c))=>if c=w then (match Qh Γ (Opd.ev σ.t) σ.h (σ.nx+o.off) o.op with
   | some e=>some (σ.app o.dst e,acc (Opd.ev σ.t) o.op,keys e.blks)
   | none=>none) else some (⟨putO σ.t o.dst (.t []),σ.h,σ.nx⟩,[],[])
  | .t []=>some (⟨putO σ.t o.dst (.t []),σ.h,σ.nx⟩,[],[])
  | _=>none
def QY (Γ:Tab):List AO→St→Option (St × List (List Nat × List Nat))
 | [],σ=>some (σ,[])
 | o::r,σ=>match QP Γ o σ with
  | some (σ',a,w)=>match QY Γ r σ' with
   | some (σ'',l)=>some (σ'',(a,w)::l)
   | none=>none
  | none=>none
def Yu (l m:List Nat):Bool:=l.all fun x=>!(m.elem x)
def QbX (log:List (List Nat × List Nat)) (U:List (Nat × Nat)):Bool :=
 U.all fun (i,j)=>match log[i]?,log[j]? with
  | some (a,w),some (a',w')=>Yu w (a'++w')&&Yu w' a
  | _,_=>true
def St.bump (σ:St) (n:Nat):St:=⟨σ.t,σ.h,σ.nx+n⟩
def awp (Γ:Tab):ACode→(AEx→St→Prop)→St→Prop
 | .skip,Q,σ=>Q .normal σ
 | .reg ops,Q,σ=>regK Γ ops (fun σ'=>Q .normal (σ'.bump (16*ops.length))) σ
 | .draw ops U,Q,σ=>match QY Γ ops σ with
  | some (σ',log)=>QbX log U=true∧Q .normal (σ'.bump (16*ops.length))
  | none=>False
 | .seq x y,Q,σ=>awp Γ x (fun e σ'=>match e with | .normal=>awp Γ y Q σ' | e=>Q e σ') σ
 | .cond c x y,Q,σ=>match c.ev σ.t with
  | .c (.v (.bool t))=>(t=true→awp Γ x Q σ)∧(t=false→awp Γ y Q σ)
  | _=>False
 | .block id x,Q,σ=>awp Γ x (fun e σ'=>match e with | .exit id'=>if id'=id then Q .normal σ' else Q (.exit id') σ' | e=>Q e σ') σ
 | .loop x,Q,σ=>∃ (I:St→Prop) (μ:St→Nat),I σ∧∀ σ',I σ'→awp Γ x (fun e σ''=>match e with | .normal=>I σ''∧μ σ''<μ σ' | e=>Q e σ'') σ'
 | .exit id,Q,σ=>Q (.exit id) σ
 | .ret,Q,σ=>Q .ret σ
end Go.Proofs.YtdplaepmjogjjaaGreat.Am
namespace Go.Proofs.YtdplaepmjogjjaaGreat.Am
open Go Go.RowKit
def szOf (P:Program) (t:TypeId):Option Nat:=(P.info? t).map (·.size)
def YS (P:Program) (t:TypeId):Option Bool :=
 match P.underlying t with
 | some (.struct _)=>some true
 | some (.array _ _)=>some true
 | some _=>some false
 | none=>none
def elOf (P:Program) (t:TypeId):Option TypeId :=
 match P.underlying t with
 | some (.slice e)=>some e
 | _=>none
def Qpf (P:Program):Nat→TypeId→List TypeId
 | 0,t=>[t]
 | k+1,t=>match P.underlying t with
  | some (.struct fs)=>fs.toList.flatMap fun f=>Qpf P k f.type
  | _=>[t]
def av1 (P:Program) (t:TypeId):Value→AV
 | .slice none 0 0=>.n (((elOf P t).bind (szOf P)).getD 0)
 | v=>.c (.v v)
def avL (P:Program) (ts:List TypeId):List Value→List AV
 | []=>[]
 | v::vs=>av1 P (ts.headD 0) v::avL P ts.tail vs
def avOf (P:Program) (t:TypeId):Value→Option AV
 | .agg cs=>if cs.toList.all (·.oneCell') then some (.a (avL P (Qpf P 8 t) cs.toList)) else none
 | v=>if v.oneCell' then some (av1 P t v) else none
def cO (P:Program) (t:TypeId):Operand→Option Opd
 | .tmp i=>some (.s i)
 | .const v=>(avOf P t v).map .k
 | _=>none
def QbL (P:Program):Option Operand→Option (Option Opd)
 | some l=>(cO P 0 l).map some
 | none=>some none
def cOs (P:Program):List TypeId→List Operand→Option (List Opd)
 | _,[]=>some []
 | ts,x::xs=>match cO P (ts.headD 0) x,cOs P ts.tail xs with
  | some y,some ys=>some (y::ys)
  | _,_=>none
def ZW (P:Program) (t:TypeId):Option (List AV) :=
 match P.info? t with
 | some i=>match i.zero with
  | some z=>match avOf P t z with
   | some x=>some x.cells
   | none=>none
  | none=>none
 | none=>none
def Qbf (P:Program) (fs:List Field):List (Nat × Operand)→Option (List (Nat × Nat × Opd))
 | []=>some []
 | (i,x)::r=>match fs[i]? with
  | some f=>match szOf P f.type,cO P f.type x,Qbf P fs r with
   | some n,some y,some ys=>some ((f.offset,n,y)::ys)
   | _,_,_=>none
  | none=>none
def Jr (P:Program) (e:TypeId):Nat→List (Nat × Operand)→Option (List Opd)
 | _,[]=>some []
 | k,(i,x)::r=>if i=k then (match cO P e x,Jr P e (k+1) r with
  | some y,some ys=>some (y::ys)
  | _,_=>none) else none
def QfR (P:Program) (fs:List Field) (k:Nat):Bool :=
 match fs with
 | []=>true
 | f :: r => f.name != "_" && f.offset == k && szOf P f.type == some 1 && (match P.underlying f.type with | some (.int _) => true | _ => false) && QfR P r (k + 1)
def Qia (P:Program) (t:TypeId):Option Nat :=
 match P.underlying t with
 | some (.struct fs)=>if QfR P fs.toList 0&&!P.eqGuardType P.depth t&&!P.stoodInHeld t then some fs.size else none
 | _=>none
def cBi (P:Program):Builtin→List Operand→List TypeId→Option AOp
 | .len,[x],[t]=>match P.underlying t,cO P t x with
  | some (.slice _),some x=>some (.len x)
  | _,_=>none
 | .append,[s,x],[t,t']=>if t=t' then (match elOf P t with
  | some e=>match szOf P e,cO P t s,cO P t x,P.info? e with
   | some sz,some s,some x,some i=>if 0<sz∧i.bytes≤32768∧(ZW P e).map (·.length)=some sz then some (.app s x e sz) else none
   | _,_,_,_=>none
  | none=>none) else none
 | .min,[x,y],[t,t']=>match cO P t x,cO P t' y with
  | some x,some y=>some (.mm false x y)
  | _,_=>none
 | .max,[x,y],[t,t']=>match cO P t x,cO P t' y with
  | some x,some y=>some (.mm true x y)
  | _,_=>none
 | _,_,_=>none
def cOp (P:Program) (o:Oper):Option AOp :=
 match o.op with
 | .move x | .assign x=>(cO P o.type x).map .mov
 | .pick c x y=>match cO P o.type c,cO P o.type x,cO P o.type y with
  | some c,some x,some y=>some (.pick c x y)
  | _,_,_=>none
 | .alloc e=>(ZW P e).map (.new e)
 | .box e x=>match cO P e x,szOf P e with
  | some x,some n=>some (.box e x n)
  | _,_=>none
 | .build t ps=>match P.underlying t with
  | some (.struct fs)=>match ZW P t,Qbf P fs.toList ps.toList with
   | some zs,some ps=>if fs.toList.all (fun f=>(szOf P f.type).isSome) then some (.build zs ps) else none
   | _,_=>none
  | _=>none
 | .buildSlice t n ps=>match elOf P t with
  | some e=>match szOf P e,Jr P e 0 ps.toList with
   | some sz,some xs=>if xs.length=n∧0<sz∧n*sz≤16777216∧(ZW P e).isSome=true then some (.bsl e sz xs) else none
   | _,_=>none
  | none=>none
 | .load t x=>match cO P 0 x,szOf P t,YS P t with
  | some x,some n,some agg=>some (.load x (if agg then n else 1) agg)
  | _,_,_=>none
 | .store t x v=>match cO P 0 x,cO P t v,szOf P t with
  | some x,some v,some n=>some (.store x v n)
  | _,_,_=>none
 | .fieldAddr s x i=>match P.underlying s with
  | some (.struct fs)=>match fs[i]? with
   | some f=>match szOf P f.type,cO P 0 x with
    | some n,some x=>if n≠0 then some (.fad x f.offset) else none
    | _,_=>none
   | none=>none
  | _=>none
 | .field s x i=>match P.underlying s with
  | some (.struct fs)=>match fs[i]? with
   | some f=>match szOf P f.type,YS P f.type,cO P s x with
    | some n,some agg,some x=>some (.fld x f.offset (if agg then n else 1) agg)
    | _,_,_=>none
   | none=>none
  | _=>none
 | .indexAddr t x i=>match elOf P t with
  | some e=>match szOf P e,cO P t x,cO P 0 i with
   | some sz,some x,some i=>if 0<sz then some (.iad x i sz) else none
   | _,_,_=>none
  | none=>none
 | .makeSlice t (.tmp l) (.tmp c)=>if l=c then (match elOf P t with
  | some e=>match szOf P e,ZW P e,P.info? e with
   | some sz,some zs,some i=>if 0<sz∧i.bytes≤32768 then some (.mk e sz zs (.s l)) else none
   | _,_,_=>none
  | none=>none) else none
 | .slice t x lo hi none=>match elOf P t with
  | some e=>match szOf P e,cO P t x,QbL P lo,QbL P hi with
   | some sz,some x,some lo,some hi=>if 0<sz then some (.slc x lo hi sz) else none
   | _,_,_,_=>none
  | none=>none
 | .binOp op t x y ty=>match cO P t x,cO P ty y with
  | some x,some y=>match Qia P t with
   | some n=>(match op with
    | .eql=>some (.cmpa n false x y)
    | .neq=>some (.cmpa n true x y)
    | _=>none)
   | none=>(match P.underlying t with
   | some (.int _)=>some (.bin op x y)
   | some .bool=>match op with
    | .eql=>some (.eqb false x y)
    | .neq=>some (.eqb true x y)
    | _=>none
   | some .string=>some (.bin op x y)
   | _=>none)
  | _,_=>none
 | .unOp .not t x=>(cO P t x).map .not
 | .unOp .neg t x=>(cO P t x).map .neg
 | .convert s d x=>match P.underlying s,P.underlying d,cO P s x with
  | some (.int _),some (.int k),some x=>some (.conv k x)
  | _,_,_=>none
 | .extract x i=>(cO P 0 x).map (.ext · i)
 | .nilCheck x=>(cO P 0 x).map .nilc
 | .call c=>match c.callee with
  | .value (.func f)=>match P.funcs[f]?,cOs P c.argTypes.toList c.args.toList with
   | some fn, some xs => if fn.body.isSome = true ∧ (fn.name == "runtime.NumGoroutine") = false then some (.call f xs) else none
   | _,_=>none
  | .builtin b=>cBi P b c.args.toList c.argTypes.toList
  | _=>none
 | _=>none
def cGd (ops:Array Oper):Option (Nat × Bool)→Option (Option (Nat × Bool))
 | none=>some none
 | some (j,b)=>match (ops[j]?).bind (·.dst) with
  | some s=>some (some (s,b))
  | none=>none
def okAO (N:Nat) (dst:Option Nat) (gd:Option (Nat × Bool)):Bool :=
 (match dst with | some d=>decide (d<N) | none=>true)&&(match gd with | some (s,_)=>decide (s<N) | none=>true)
def cAO (P:Program) (N:Nat) (ops:Array Oper) (o:Oper) (i:Nat):Option AO :=
 match cOp P o,cGd ops o.guard with
 | some op,some gd=>if okAO N o.dst gd=true then some ⟨o.dst,op,gd,16*i⟩ else none
 | _,_=>none
def Jl (P:Program) (N:Nat) (ops:Array Oper):List Oper→Nat→Option (List AO)
 | [],_=>some []
 | o::r,i=>match cAO P N ops o i,Jl P N ops r (i+1) with
  | some x,some xs=>some (x::xs)
  | _,_=>none
def Opd.slots:Opd→List Nat
 | .s i=>[i]
 | .k _=>[]
def AOp.slots:AOp→List Nat
 | .mov x | .not x | .neg x | .box _ x _ | .load x _ _ | .fad x _ | .fld x _ _ _ | .len x | .ext x _ | .conv _ x | .nilc x | .mk _ _ _ x=>x.slots
 | .pick c x y=>c.slots++x.slots++y.slots
 | .bin _ x y | .cmpa _ _ x y | .eqb _ x y | .store x y _ | .iad x y _ | .app x y _ _ | .mm _ x y=>x.slots++y.slots
 | .new _ _=>[]
 | .build _ ps=>ps.flatMap fun x=>x.2.2.slots
 | .bsl _ _ ps=>ps.flatMap Opd.slots
 | .slc x lo hi _=>x.slots++(match lo with | some l=>l.slots | none=>[])++(match hi with | some l=>l.slots | none=>[])
 | .call _ args=>args.flatMap Opd.slots
def AO.reads (o:AO):List Nat:=o.op.slots++(match o.gd with | some (s,_)=>[s] | none=>[])
def AO.free (o p:AO):Bool :=
 (match o.dst with | some d=>!(p.reads.elem d)&&(match p.dst with | some d'=>d != d' | none=>true) | none=>true)&&(match p.dst with | some d=>!(o.reads.elem d) | none=>true)
def Yc (o:Oper):List Nat:=(o.after.toList.filter fun e=>Region.binds .any e).map fun e=>e.on
def Qas:List Oper→List (List Nat)→List (List Nat)
 | [],acc=>acc
 | o::r,acc=>Qas r (acc++[((Yc o).flatMap fun k=>k::(acc[k]?).getD []).eraseDups])
def ancs (ops:Array Oper):List (List Nat):=Qas ops.toList []
def Qar (ops:Array Oper) (j i:Nat):Bool:=(((ancs ops)[i]?).getD []).elem j
def QpI (tab:List (List Nat)) (n:Nat):List (Nat × Nat) :=
 (List.range n).flatMap fun i=>(List.range i).filterMap fun j=>if ((tab[i]?).getD []).elem j then none else some (j,i)
def Zg (ops:Array Oper):List (Nat × Nat):=QpI (ancs ops) ops.size
def AOp.touches:AOp→Bool
 | .load .. | .store .. | .bsl .. | .app .. | .call .. | .new .. | .box .. | .mk .. | .fad .. | .nilc .. | .iad .. | .slc .. | .len ..=>true
 | _=>false
def AOp.writes:AOp→Bool
 | .store .. | .bsl .. | .app .. | .call .. | .new .. | .box .. | .mk ..=>true
 | _=>false
def Qju (ops:Array Oper):Bool :=
 (List.range ops.size).all fun i=>match ops[i]? with
  | some o=>o.after.all fun e=>!Region.binds .any e||decide (e.on<i)
  | none=>true
def Qt7 (l:List AO) (U:List (Nat × Nat)):Bool :=
 U.all fun (i,j)=>match l[i]?,l[j]? with | some o,some p=>o.free p | _,_=>false
def Qhv (l:List AO) (U:List (Nat × Nat)):List (Nat × Nat) :=
 U.filter fun (i,j)=>match l[i]?,l[j]? with | some o,some p=>o.op.touches&&p.op.touches&&(o.op.writes||p.op.writes) | _,_=>true
def comp (P:Program) (N:Nat):Code→Option ACode
 | .skip=>some .skip
 | .region _ ops draw=>match Jl P N ops ops.toList 0 with
  | some l=>if draw then
    (if (Qt7 l (Zg ops)&&Qju ops)=true then some (.draw l (Qhv l (Zg ops))) else none)
   else some (.reg l)
  | none=>none
 | .seq x y=>match comp P N x,comp P N y with
  | some x,some y=>some (.seq x y)
  | _,_=>none
 | .cond c x y=>match cO P 0 c,comp P N x,comp P N y with
  | some c,some x,some y=>some (.cond c x y)
  | _,_,_=>none
 | .block id x=>(comp P N x).map (.block id)
 | .loop x=>(comp P N x).map .loop
 | .exit id=>some (.exit id)
 | .ret=>some .ret
 | _=>none
end Go.Proofs.YtdplaepmjogjjaaGreat.Am
namespace Go.Proofs.YtdplaepmjogjjaaGreat.Am
open Go Go.RowKit
theorem Qct {P:Program} {t:TypeId} {n:Nat} (h:szOf P t=some n):∃ i,P.info? t=some i∧i.size=n:=by
 unfold szOf at h
 obtain ⟨i,h1,h2⟩:=Option.map_eq_some_iff.1 h
 exact ⟨i,h1,h2⟩
theorem Ja {P:Program} {t:TypeId} {n:Nat} (h:szOf P t=some n) (w:World):(sizeOf t).run P w = .ok n w:=by
 obtain ⟨i,h1,h2⟩:=Qct h
 simp [sizeOf,typeInfo,h1,h2]
theorem YH {P:Program} {t e:TypeId} (h:elOf P t=some e):P.underlying t=some (.slice e):=by
 unfold elOf at h
 split at h
 ·rename_i e' h1;cases h;exact h1
 ·cases h
theorem Qbp {P:Program} {t:TypeId} {b:Bool} (h:YS P t=some b) (w:World):(isAgg t).run P w = .ok b w:=by
 unfold YS at h
 split at h
 ·rename_i fs h1;cases h;simp [isAgg,run_underlying h1]
 ·rename_i n e h1;cases h;simp [isAgg,run_underlying h1]
 ·rename_i d hn1 hn2 h1
  cases h
  cases d <;> first
   | exact absurd rfl (hn1 _)
   | exact absurd rfl (hn2 _ _)
   | simp [isAgg,run_underlying h1]
 ·cases h
theorem Qpq {P:Program} {t:TypeId} {v:Value} (h1:v.oneCell'=true) {w:World} {F:Nat→Prop} {ι:Io} {h:Nat→Blk}:VR w F ι h v (av1 P t v):=by
 unfold av1
 split
 ·exact .n _
 ·exact .c _ _ (.v _ h1)
theorem QjE {P:Program}:∀ (vs:List Value) (ts:List TypeId) (k:Nat) (v:Value) (x:AV),vs[k]? = some v→(avL P ts vs)[k]? = some x→∃ t,x=av1 P t v
 | [],_,k,v,x,h,_=>by simp at h
 | y::ys,ts,0,v,x,h,h'=>by
  simp [avL] at h h'
  exact ⟨_,by rw [← h',← h]⟩
 | y::ys,ts,k+1,v,x,h,h'=>by
  simp [avL] at h h'
  exact QjE ys ts.tail k v x h h'
theorem Qj2 {P:Program}:∀ (vs:List Value) (ts:List TypeId),(avL P ts vs).length=vs.length
 | [],_=>rfl
 | _::ys,ts=>by simp [avL,Qj2 ys ts.tail]
theorem QlR {P:Program} {t:TypeId} {v:Value} {x:AV} (hx:avOf P t v=some x) {w:World} {F:Nat→Prop} {ι:Io} {h:Nat→Blk}:VR w F ι h v x:=by
 unfold avOf at hx
 split at hx
 ·rename_i cs
  split at hx
  ·rename_i hall
   cases hx
   have h1:∀ (k:Nat) (v:Value),cs[k]? = some v→v.oneCell'=true:=by
    intro k v hk
    have:v∈cs.toList:=by
     obtain ⟨hlt,he⟩:=Array.getElem?_eq_some_iff.1 hk
     rw [← he];simp
    exact List.all_eq_true.1 hall v this
   refine .a _ _ (by rw [Qj2];simp) h1 (fun k v x hk hx=>?_)
   obtain ⟨t',rfl⟩:=QjE cs.toList _ k v x (by simpa using hk) hx
   exact Qpq (h1 k v hk)
  ·cases hx
 ·split at hx
  ·rename_i h1
   cases hx
   exact Qpq h1
  ·cases hx
theorem QL {C:Ctx} {U:Nat→Prop} {σ:St} {a:Act} {w:World} {ι:Io} (S:Sat C U σ a w ι) {t:TypeId} {x:Operand} {y:Opd} (h:cO C.P t x=some y) :
  VR w (Fz C w ι σ.h) ι σ.h (a.eval x) (y.ev σ.t):=by
 unfold cO at h
 split at h
 ·cases h;exact S.vals _
 ·obtain ⟨z,hz,rfl⟩:=Option.map_eq_some_iff.1 h
  exact QlR hz
 ·cases h
theorem QI {C:Ctx} {U U':Nat→Prop} {σ:St} {a:Act} {w:World} {ι:Io} (S:Sat C U σ a w ι) {o:Oper} {v:Value} {x:AV} {Q:Exit→Act→World→Prop}
  (hd:∀ d,o.dst=some d→d<C.N) (hU':∀ i,U' i→U i)
  (hrun:(execOp a.eval o).run C.P w = .ok (.value v) w) (hv:VR w (Fz C w ι σ.h) ι σ.h v x) :
  o.wp C.P a w (fun a' w'=>SatU C U' (σ.app o.dst ⟨x,[]⟩) a' w') Q:=by
 unfold Oper.wp
 rw [hrun]
 simp only [Oper.upon]
 refine ⟨ι,?_⟩
 have S':Sat C U' σ a w ι:={ S with fresh:=fun i hi=>S.fresh i (hU' i hi) }
 cases ho:o.dst with
 | none=>simpa [St.app,putO,updL,Act.put] using S'
 | some d=>simpa [St.app,putO,updL] using S'.put d (hd d ho) v x hv
theorem VR.int {w:World} {F:Nat→Prop} {ι:Io} {h:Nat→Blk} {v x:Value} (hv:VR w F ι h v (.c (.v x))):v=x:=by
 cases hv with
 | c v d hr=>cases hr;rfl
theorem vr_v {w:World} {F:Nat→Prop} {ι:Io} {h:Nat→Blk} {x:Value} (h1:x.oneCell'=true):VR w F ι h x (.c (.v x)):=.c _ _ (.v _ h1)
theorem Qkc {w:World} {F:Nat→Prop} {ι:Io} {h:Nat→Blk} {v:Value} {x:AV} {n:Int} (hv:VR w F ι h v x) (hx:QbP x=some n):∃ k,v = .int k n:=by
 unfold QbP at hx
 split at hx
 ·rename_i k m
  cases hx
  exact ⟨k,hv.int⟩
 ·cases hx
theorem Qpc {C:Ctx} {U:Nat→Prop} {σ:St} {a:Act} {w:World} {ι:Io} (S:Sat C U σ a w ι):∀ {ts:List TypeId} {xs:List Operand} {ys:List Opd},cOs C.P ts xs=some ys →
  xs.length=ys.length∧∀ (k:Nat) (x:Operand) (y:Opd),xs[k]? = some x→ys[k]? = some y→VR w (Fz C w ι σ.h) ι σ.h (a.eval x) (y.ev σ.t)
 | ts,[],ys,h=>by simp [cOs] at h;subst h;simp
 | ts,x::xs,ys,h=>by
  unfold cOs at h
  split at h
  ·rename_i y ys' h1 h2
   cases h
   obtain ⟨hl,hh⟩:=Qpc S h2
   refine ⟨by simp [hl],fun k x' y' hk hk'=>?_⟩
   cases k with
   | zero=>simp at hk hk';subst hk;subst hk';exact QL S h1
   | succ k=>simp at hk hk';exact hh k x' y' hk hk'
  ·cases h
theorem QFf {P:Program} {w:World} {op:BinOp} {x y z:Value} {t:TypeId} (h:biv op x y=some z):(binOp op t x y).run P w = .ok z w∧z.oneCell'=true:=by
 unfold biv at h
 split at h
 ·rename_i k x k' y
  split at h
  ·split at h
   ·cases h
   ·rename_i h1
    cases h
    simp [binOp,Op.shift,h1,Value.oneCell']
  ·split at h
   ·cases h
   ·rename_i h1
    cases h
    simp [binOp,Op.shift,h1,Value.oneCell']
  ·split at h
   ·rename_i hne1 hne2 hk
    subst hk
    split at h
    any_goals (cases h;simp [binOp,Op.intArith,Op.intBits,Op.intCmp,Value.oneCell'];done)
    ·split at h
     ·cases h
     ·rename_i h1;cases h;simp [binOp,Op.intDiv,h1,Value.oneCell']
    ·split at h
     ·cases h
     ·rename_i h1;cases h;simp [binOp,Op.intDiv,h1,Value.oneCell']
    ·cases h
   ·cases h
 ·rename_i x y
  split at h <;> first
   | (cases h;simp [binOp,Op.stringOp,Value.oneCell'];done)
   | cases h
 ·cases h
theorem QoG {P:Program} {w:World} {op:BinOp} {t:TypeId} {x y:Operand} {v u:Value} (h1:v.oneCell'=true) (h2:v≠.nilIface):(eqGuard op t x y v u).run P w = .ok () w:=by
 cases v <;> cases op <;> first
  | exact absurd rfl h2
  | (simp [Value.oneCell'] at h1;done)
  | simp [eqGuard]
theorem ZP (bk o k:Nat):(⟨bk,o,Option.none⟩:Addr).add k=⟨bk,o+k,Option.none⟩:=by
 unfold Addr.add;split <;> simp_all
theorem QbM {α:Type} {l m:List α} {j n:Nat} (h:cut l j n=some m):j+n≤l.length∧m=(l.drop j).take n:=by
 unfold cut at h
 split at h
 ·cases h;exact ⟨by assumption,rfl⟩
 ·cases h
theorem Qcn {α:Type} {l m:List α} {j n:Nat} (h:cut l j n=some m):m.length=n∧∀ k:Nat,k<n→m[k]? = l[j+k]?:=by
 obtain ⟨h1,rfl⟩:=QbM h
 refine ⟨by simp;omega,fun k hk=>?_⟩
 rw [List.getElem?_take,if_pos hk,List.getElem?_drop]
section
variable {C:Ctx} {U U':Nat→Prop} {σ:St} {a:Act} {w:World} {ι:Io} {o:Oper} {Q:Exit→Act→World→Prop} {Γ:Tab} {b:Nat} {e:Eff}
variable (S:Sat C U σ a w ι) (hd:∀ d,o.dst=some d→d<C.N) (hU':∀ i,U' i→U i)
include S hd hU'
theorem Qqr {x:Operand} {y:Opd} {t:TypeId} (ho:o.op = .move x∨o.op = .assign x) (hx:cO C.P t x=some y) (he:Qh Γ (Opd.ev σ.t) σ.h b (.mov y)=some e) :
  o.wp C.P a w (fun a' w'=>SatU C U' (σ.app o.dst e) a' w') Q:=by
 simp only [Qh,Option.some.injEq] at he
 subst he
 refine QI S hd hU' (v:=a.eval x) ?_ (QL S hx)
 rcases ho with ho | ho <;> simp [execOp,ho]
theorem QCY {c x y:Operand} {c' x' y':Opd} {t:TypeId} (ho:o.op = .pick c x y) (hc:cO C.P t c=some c') (hx:cO C.P t x=some x') (hy:cO C.P t y=some y') (he:Qh Γ (Opd.ev σ.t) σ.h b (.pick c' x' y')=some e) :
  o.wp C.P a w (fun a' w'=>SatU C U' (σ.app o.dst e) a' w') Q:=by
 have h1:=QL S hc
 simp only [Qh] at he
 split at he
 ·rename_i h2
  cases he
  rw [h2] at h1
  exact QI S hd hU' (v:=a.eval x) (by simp [execOp,ho,h1.int,asBool]) (QL S hx)
 ·rename_i h2
  cases he
  rw [h2] at h1
  exact QI S hd hU' (v:=a.eval y) (by simp [execOp,ho,h1.int,asBool]) (QL S hy)
 ·cases he
theorem QpT {op:BinOp} {x y:Operand} {x' y':Opd} {t ty:TypeId} (ho:o.op = .binOp op t x y ty) (hx:cO C.P t x=some x') (hy:cO C.P ty y=some y') (he:Qh Γ (Opd.ev σ.t) σ.h b (.bin op x' y')=some e) :
  o.wp C.P a w (fun a' w'=>SatU C U' (σ.app o.dst e) a' w') Q:=by
 have h1:=QL S hx
 have h2:=QL S hy
 simp only [Qh] at he
 split at he
 ·rename_i v u hv hu
  split at he
  ·rename_i z hz
   cases he
   rw [hv] at h1;rw [hu] at h2
   obtain ⟨hr,hz1⟩:=QFf (P:=C.P) (w:=w) (t:=t) hz
   have hone:v.oneCell'=true∧v≠.nilIface:=by
    unfold biv at hz
    split at hz <;> first | exact ⟨rfl,by simp⟩ | cases hz
   refine QI S hd hU' (v:=z) ?_ (vr_v hz1)
   simp [execOp,ho,h1.int,h2.int,QoG hone.1 hone.2,hr]
  ·cases he
 ·cases he
theorem Que {neg:Bool} {x y:Operand} {x' y':Opd} {t ty:TypeId} (ho:o.op = .binOp (if neg then .neq else .eql) t x y ty) (ht:C.P.underlying t=some .bool) (hx:cO C.P t x=some x') (hy:cO C.P ty y=some y') (he:Qh Γ (Opd.ev σ.t) σ.h b (.eqb neg x' y')=some e) :
  o.wp C.P a w (fun a' w'=>SatU C U' (σ.app o.dst e) a' w') Q:=by
 have h1:=QL S hx
 have h2:=QL S hy
 simp only [Qh] at he
 split at he
 ·rename_i v u hv hu
  cases he
  rw [hv] at h1;rw [hu] at h2
  refine QI S hd hU' (v:=.bool (if neg then !(v==u) else v==u)) ?_ (vr_v rfl)
  have hg:∀ op,(eqGuard op t x y (.bool v) (.bool u)).run C.P w = .ok () w:=fun op=>QoG (by rfl) (by simp)
  cases neg <;> simp [execOp,ho,h1.int,h2.int,hg,binOp,run_equal_bool w t v u ht]
 ·cases he
theorem QyM {x:Operand} {x':Opd} {t:TypeId} (ho:o.op = .unOp .not t x) (hx:cO C.P t x=some x') (he:Qh Γ (Opd.ev σ.t) σ.h b (.not x')=some e) :
  o.wp C.P a w (fun a' w'=>SatU C U' (σ.app o.dst e) a' w') Q:=by
 have h1:=QL S hx
 simp only [Qh] at he
 split at he
 ·rename_i v hv
  cases he
  rw [hv] at h1
  exact QI S hd hU' (v:=.bool (!v)) (by simp [execOp,ho,h1.int,Op.unary]) (vr_v rfl)
 ·cases he
theorem QBw {x:Operand} {x':Opd} {t:TypeId} (ho:o.op = .unOp .neg t x) (hx:cO C.P t x=some x') (he:Qh Γ (Opd.ev σ.t) σ.h b (.neg x')=some e) :
  o.wp C.P a w (fun a' w'=>SatU C U' (σ.app o.dst e) a' w') Q:=by
 have h1:=QL S hx
 simp only [Qh] at he
 split at he
 ·rename_i k n hv
  cases he
  rw [hv] at h1
  exact QI S hd hU' (v:=.int k (k.wrap (0-n))) (by simp [execOp,ho,h1.int,Op.unary,Op.intArith]) (vr_v rfl)
 ·cases he
theorem QCH {x:Operand} {x':Opd} {i:Nat} {t:TypeId} (ho:o.op = .extract x i) (hx:cO C.P t x=some x') (he:Qh Γ (Opd.ev σ.t) σ.h b (.ext x' i)=some e) :
  o.wp C.P a w (fun a' w'=>SatU C U' (σ.app o.dst e) a' w') Q:=by
 have h1:=QL S hx
 simp only [Qh] at he
 split at he
 ·rename_i vs hv
  split at he
  ·rename_i z hz
   cases he
   rw [hv] at h1
   generalize hae:a.eval x=av at h1
   cases h1 with
   | t us _ hl hvr =>
    have hlt:i<us.size:=by rw [hl];exact (List.getElem?_eq_some_iff.1 hz).1
    have hu:us[i]? = some us[i]:=Array.getElem?_eq_getElem hlt
    exact QI S hd hU' (v:=us[i]) (by simp [execOp,ho,hae,Instr.extract,hu]) (hvr i _ z hu hz)
  ·cases he
 ·cases he
theorem QGy {x:Operand} {x':Opd} {s d:TypeId} {k:IntKind} {k0:IntKind} (ho:o.op = .convert s d x) (hs:C.P.underlying s=some (.int k0)) (hdd:C.P.underlying d=some (.int k)) (hx:cO C.P s x=some x') (he:Qh Γ (Opd.ev σ.t) σ.h b (.conv k x')=some e) :
  o.wp C.P a w (fun a' w'=>SatU C U' (σ.app o.dst e) a' w') Q:=by
 have h1:=QL S hx
 simp only [Qh] at he
 split at he
 ·rename_i k1 n hv
  cases he
  rw [hv] at h1
  exact QI S hd hU' (v:=.int k (k.wrap n)) (by simp [execOp,ho,h1.int,convert,run_underlying hs,run_underlying hdd,Conv.intToInt]) (vr_v rfl)
 ·cases he
theorem QFD {x:Operand} {x':Opd} {t:TypeId} (ho:o.op = .nilCheck x) (hx:cO C.P t x=some x') (he:Qh Γ (Opd.ev σ.t) σ.h b (.nilc x')=some e) :
  o.wp C.P a w (fun a' w'=>SatU C U' (σ.app o.dst e) a' w') Q:=by
 have h1:=QL S hx
 simp only [Qh] at he
 split at he
 ·rename_i id i j hv
  split at he
  ·rename_i hal
   cases he
   rw [hv] at h1
   have h1':=h1
   generalize hae:a.eval x=av at h1 h1'
   cases h1 with
   | pdead v _ _ _ _ hdd=>rw [hdd] at hal;simp [Blk.alive] at hal
   | p _ _ _ bk hi hn hnd=>exact QI S hd hU' (by simp [execOp,ho,hae]) h1'
  ·cases he
 ·rename_i cs j hv
  cases he
  rw [hv] at h1
  have h1':=h1
  generalize hae:a.eval x=av at h1 h1'
  cases h1 with
  | q bk o' j cs x hb hc hr=>exact QI S hd hU' (by simp [execOp,ho,hae]) h1'
 ·rename_i cs j id g p i hv
  split at he
  ·rename_i hg
   cases he
   rw [hv] at h1
   obtain ⟨bk,o',cur,e0,hae,_⟩:=h1.bqok hg
   exact QI S hd hU' (by simp [execOp,ho,hae]) h1
  ·cases he
 ·cases he
theorem s_mm {mx:Bool} {x y:Operand} {x' y':Opd} {t t':TypeId} (ho:o.op = .call { callee:=.builtin (if mx then .max else .min),args:=#[x,y],argTypes:=#[t,t'] }) (hx:cO C.P t x=some x') (hy:cO C.P t' y=some y') (he:Qh Γ (Opd.ev σ.t) σ.h b (.mm mx x' y')=some e) :
  o.wp C.P a w (fun a' w'=>SatU C U' (σ.app o.dst e) a' w') Q:=by
 have h1:=QL S hx
 have h2:=QL S hy
 simp only [Qh] at he
 split at he
 ·rename_i k v k' u hv hu
  cases he
  rw [hv] at h1;rw [hu] at h2
  refine QI S hd hU' (v:=.int k (if mx then (if v<u then u else v) else (if u<v then u else v))) ?_ (vr_v rfl)
  cases mx <;> simp [execOp,ho,h1.int,h2.int,resolve,invoke,builtin,Builtin.min_,Builtin.max_,Builtin.min2,Builtin.max2]
 ·cases he
theorem QEo {x:Operand} {x':Opd} {t e':TypeId} (ho:o.op = .call { callee:=.builtin .len,args:=#[x],argTypes:=#[t] }) (ht:C.P.underlying t=some (.slice e')) (hx:cO C.P t x=some x') (he:Qh Γ (Opd.ev σ.t) σ.h b (.len x')=some e) :
  o.wp C.P a w (fun a' w'=>SatU C U' (σ.app o.dst e) a' w') Q:=by
 have h1:=QL S hx
 simp only [Qh] at he
 split at he
 all_goals (try cases he)
 ·rename_i sz es hv
  rw [hv] at h1
  generalize hae:a.eval x=av at h1
  cases h1 with
  | c v d hr =>
   cases hr with
   | nil=>exact QI S hd hU' (v:=.int .i64 0) (by simp [execOp,ho,hae,resolve,invoke,builtin,Builtin.len_,run_underlying ht,goInt]) (vr_v rfl)
   | emp=>exact QI S hd hU' (v:=.int .i64 0) (by simp [execOp,ho,hae,resolve,invoke,builtin,Builtin.len_,run_underlying ht,goInt]) (vr_v rfl)
   | sl b o len cap _ es x hlen=>subst hlen;exact QI S hd hU' (v:=.int .i64 es.length) (by simp [execOp,ho,hae,resolve,invoke,builtin,Builtin.len_,run_underlying ht,goInt]) (vr_v rfl)
 ·rename_i sz hv
  rw [hv] at h1
  generalize hae:a.eval x=av at h1
  cases h1 with
  | n=>exact QI S hd hU' (v:=.int .i64 0) (by simp [execOp,ho,hae,resolve,invoke,builtin,Builtin.len_,run_underlying ht,goInt]) (vr_v rfl)
 ·rename_i sz id off len hv
  split at he
  ·rename_i hal
   cases he
   rw [hv] at h1
   generalize hae:a.eval x=av at h1
   cases h1 with
   | rdead v _ _ _ _ _ hdd=>rw [hdd] at hal;simp [Blk.alive] at hal
   | rnil=>exact QI S hd hU' (v:=.int .i64 0) (by simp [execOp,ho,hae,resolve,invoke,builtin,Builtin.len_,run_underlying ht,goInt]) (vr_v rfl)
   | remp=>exact QI S hd hU' (v:=.int .i64 0) (by simp [execOp,ho,hae,resolve,invoke,builtin,Builtin.len_,run_underlying ht,goInt]) (vr_v rfl)
   | r=>exact QI S hd hU' (v:=.int .i64 len) (by simp [execOp,ho,hae,resolve,invoke,builtin,Builtin.len_,run_underlying ht,goInt]) (vr_v rfl)
  ·cases he
 ·rename_i sz es id g p hv
  split at he
  ·rename_i hg
   cases he
   rw [hv] at h1
   obtain ⟨hr,_⟩:=h1.bok hg
   generalize hae:a.eval x=av at hr
   cases hr with
   | nil=>exact QI S hd hU' (v:=.int .i64 0) (by simp [execOp,ho,hae,resolve,invoke,builtin,Builtin.len_,run_underlying ht,goInt]) (vr_v rfl)
   | emp=>exact QI S hd hU' (v:=.int .i64 0) (by simp [execOp,ho,hae,resolve,invoke,builtin,Builtin.len_,run_underlying ht,goInt]) (vr_v rfl)
   | sl _ b o len cap _ es cur e0 x hz hne hlen=>subst hlen;exact QI S hd hU' (v:=.int .i64 es.length) (by simp [execOp,ho,hae,resolve,invoke,builtin,Builtin.len_,run_underlying ht,goInt]) (vr_v rfl)
  ·cases he
theorem QFF {x:Operand} {x':Opd} {s i n:Nat} {fs:Array Field} {f:Field} (ho:o.op = .fieldAddr s x i) (hs:C.P.underlying s=some (.struct fs)) (hf:fs[i]? = some f) (hn:szOf C.P f.type=some n) (hn0:n≠0)
  {t:TypeId} (hx:cO C.P t x=some x') (he:Qh Γ (Opd.ev σ.t) σ.h b (.fad x' f.offset)=some e) :
  o.wp C.P a w (fun a' w'=>SatU C U' (σ.app o.dst e) a' w') Q:=by
 have h1:=QL S hx
 have hrun:∀ (bk of:Nat),a.eval x = .pointer (some ⟨bk,of,Option.none⟩)→(execOp a.eval o).run C.P w = .ok (.value (.pointer (some ⟨bk,of+f.offset,Option.none⟩))) w:=by
  intro bk of hae
  simp [execOp,ho,hae,Instr.fieldAt,run_underlying hs,hf,Instr.sureAddr,fieldPlace,Ja hn,hn0,ZP]
 simp only [Qh] at he
 split at he
 ·rename_i id k j hv
  split at he
  ·rename_i hal
   cases he
   rw [hv] at h1
   generalize hae:a.eval x=av at h1
   cases h1 with
   | pdead v _ _ _ _ hdd=>rw [hdd] at hal;simp [Blk.alive] at hal
   | p _ _ _ bk hi hn hnd =>
    refine QI S hd hU' (hrun _ _ hae) ?_
    rw [Nat.add_assoc]
    exact .p id k (j+f.offset) bk hi hn hnd
  ·cases he
 ·rename_i cs j hv
  cases he
  rw [hv] at h1
  generalize hae:a.eval x=av at h1
  cases h1 with
  | q bk o' _ _ xv hb hc hr =>
   refine QI S hd hU' (hrun _ _ hae) ?_
   rw [Nat.add_assoc]
   exact .q bk o' (j+f.offset) cs xv hb hc hr
 ·rename_i cs j id g p i hv
  split at he
  ·rename_i hg
   cases he
   rw [hv] at h1
   obtain ⟨bk,o',cur,e0,hae,hk,hb,hc⟩:=h1.bqok hg
   refine QI S hd hU' (hrun _ _ hae) ?_
   rw [Nat.add_assoc]
   exact .bq_of hg hk hb hc
  ·cases he
 ·cases he
theorem QAt {x i:Operand} {x' i':Opd} {t e' sz:Nat} (ho:o.op = .indexAddr t x i) (ht:elOf C.P t=some e') (hsz:szOf C.P e'=some sz) {t1 t2:TypeId}
  (hx:cO C.P t1 x=some x') (hi:cO C.P t2 i=some i') (he:Qh Γ (Opd.ev σ.t) σ.h b (.iad x' i' sz)=some e) :
  o.wp C.P a w (fun a' w'=>SatU C U' (σ.app o.dst e) a' w') Q:=by
 have h1:=QL S hx
 have h2:=QL S hi
 simp only [Qh] at he
 split at he
 rotate_left
 ·cases he
 rename_i n hn
 obtain ⟨k,hk⟩:=Qkc h2 hn
 split at he
 rotate_left
 ·cases he
 rename_i h0
 have hrun:∀ (bk of len cap:Nat),a.eval x = .slice (some ⟨bk,of,Option.none⟩) len cap→n.toNat<len→(execOp a.eval o).run C.P w = .ok (.value (.pointer (some ⟨bk,of+n.toNat*sz,Option.none⟩))) w:=by
  intro bk of len cap hae hlt
  have hlt':n<(len:Int):=by omega
  simp [execOp,ho,hae,hk,Instr.indexAt,asIntOf,run_underlying (YH ht),h0,hlt',Ja hsz,ZP]
 split at he
 ·rename_i sz' es hv
  split at he
  rotate_left
  ·cases he
  rename_i hs
  subst hs
  split at he
  rotate_left
  ·cases he
  rename_i el hel
  cases he
  rw [hv] at h1
  generalize hae:a.eval x=av at h1
  cases h1 with
  | c v d hr =>
   cases hr with
   | nil=>simp at hel
   | emp=>simp at hel
   | sl bk of len cap _ _ xv hlen hcap hml hszs hb hc hr =>
    have hlt:n.toNat<len:=by rw [← hlen];exact (List.getElem?_eq_some_iff.1 hel).1
    refine QI S hd hU' (hrun _ _ _ _ hae hlt) ?_
    have:=VR.q (w:=w) (F:=Fz C w ι σ.h) (ι:=ι) (h:=σ.h) bk (of+n.toNat*sz') 0 el (fun k=>xv n.toNat k) (hb (fun h0=>by rw [h0] at hel;simp at hel)) (fun k d hk=>hc n.toNat k el d hel hk) (fun k d hk=>hr n.toNat k el d hel hk)
    simpa using this
 ·rename_i sz' id off len hv
  split at he
  rotate_left
  ·cases he
  rename_i hs
  obtain ⟨rfl,hlt,hal⟩:=hs
  cases he
  rw [hv] at h1
  generalize hae:a.eval x=av at h1
  cases h1 with
  | rdead v _ _ _ _ _ hdd=>rw [hdd] at hal;simp [Blk.alive] at hal
  | rnil=>omega
  | remp=>omega
  | r _ _ _ bk ao cap et _ m es hi hh hlen hcap hao htip =>
   refine QI S hd hU' (hrun _ _ _ _ hae hlt) ?_
   have:=VR.p (w:=w) (F:=Fz C w ι σ.h) (ι:=ι) (h:=σ.h) id (off+n.toNat) 0 bk hi (by rw [hh];simp) (by rw [hh];simp)
   rw [hh] at this
   simp only [Blk.sz,Nat.add_zero,Nat.add_mul] at this
   rw [hao (by omega),Nat.add_assoc]
   exact this
 ·rename_i sz' es id g p hv
  split at he
  rotate_left
  ·cases he
  rename_i hs
  obtain ⟨rfl,hg⟩:=hs
  split at he
  rotate_left
  ·cases he
  rename_i el hel
  cases he
  rw [hv] at h1
  obtain ⟨hr,_⟩:=h1.bok hg
  generalize hae:a.eval x=av at hr
  cases hr with
  | nil=>simp at hel
  | emp=>simp at hel
  | sl _ bk of len cap _ _ cur e0 xv hz hne hlen hcap hml hszs hk hb hle hc hr =>
   have hlt:n.toNat<len:=by rw [← hlen];exact (List.getElem?_eq_some_iff.1 hel).1
   refine QI S hd hU' (hrun _ _ _ _ hae hlt) ?_
   have:=VR.bq_of (F:=Fz C w ι σ.h) (cs:=el) (j:=0) (i:=n.toNat) (o:=of+n.toNat*sz') hg hk hb (fun k d hkd=>⟨xv n.toNat k,hc n.toNat k el d hel hkd,hr n.toNat k el d hel hkd⟩)
   simpa using this
 ·cases he
end
end Go.Proofs.YtdplaepmjogjjaaGreat.Am
namespace Go.Proofs.YtdplaepmjogjjaaGreat.Am
open Go Go.RowKit
theorem Qlu {w:World} {F:Nat→Prop} {ι:Io} {h:Nat→Blk} {agg:Bool} {n:Nat} {vs:List Value} {l:List AV} {x:AV} (hn1:agg=false→n=1)
  (hl:vs.length=n) (hl':l.length=n) (h1:∀ (k:Nat) (v:Value),vs[k]? = some v→v.oneCell'=true)
  (hv:∀ (k:Nat) (v:Value) (y:AV),vs[k]? = some v→l[k]? = some y→VR w F ι h v y) (hp:YW agg l=some x) :
  VR w F ι h (if agg then .agg vs.toArray else vs.headD undef) x:=by
 unfold YW at hp
 cases agg with
 | true =>
  simp at hp
  subst hp
  exact .a _ _ (by simp [hl,hl']) (fun k v hk=>h1 k v (by simpa using hk)) (fun k v y hk hy=>hv k v y (by simpa using hk) hy)
 | false =>
  have:=hn1 rfl
  subst this
  match l,hl' with
  | [y],_ =>
   simp at hp
   subst hp
   match vs,hl with
   | [v],_=>exact hv 0 v y rfl rfl
theorem Qyx {P:Program} {w:World} {t:TypeId} {agg:Bool} {n:Nat} (hagg:YS P t=some agg) (hn:agg=true→szOf P t=some n) (hn1:agg=false→n=1)
  {bk o:Nat} {vs:List Value} (hl:vs.length=n) (hc:∀ k v,vs[k]? = some v→w.cell? ⟨bk,o+k,Option.none⟩=some v) :
  (Instr.loadAt t (.pointer (some ⟨bk,o,Option.none⟩))).run P w = .ok (if agg then .agg vs.toArray else vs.headD undef) w:=by
 cases agg with
 | true =>
  have h:=run_loadCells_list (P:=P) w ⟨bk,o,Option.none⟩ vs (fun j v hj=>by rw [ZP];exact hc j v hj)
  rw [hl] at h
  simp [Instr.loadAt,Instr.sureAddr,loadVar,Qbp hagg,Ja (hn rfl),h]
 | false =>
  have:=hn1 rfl
  subst this
  match vs,hl with
  | [v],_ =>
   have h0:=hc 0 v rfl
   simp only [Nat.add_zero] at h0
   simp [Instr.loadAt,Instr.sureAddr,loadVar,Qbp hagg,h0]
theorem QFs {P:Program} {w:World} {t:TypeId} {agg:Bool} {n:Nat} (hagg:YS P t=some agg) (hn:agg=true→szOf P t=some n) (hn1:agg=false→n=1)
  {bk o:Nat} {vs:List Value} (hl:vs.length=n) (hc:∀ k v,vs[k]? = some v→w.cell? ⟨bk,o+k,Option.none⟩=some v) :
  (loadVar t ⟨bk,o,Option.none⟩).run P w = .ok (if agg then .agg vs.toArray else vs.headD undef) w:=by
 cases agg with
 | true =>
  have h:=run_loadCells_list (P:=P) w ⟨bk,o,Option.none⟩ vs (fun j v hj=>by rw [ZP];exact hc j v hj)
  rw [hl] at h
  simp [loadVar,Qbp hagg,Ja (hn rfl),h]
 | false =>
  have:=hn1 rfl
  subst this
  match vs,hl with
  | [v],_ =>
   have h0:=hc 0 v rfl
   simp only [Nat.add_zero] at h0
   simp [loadVar,Qbp hagg,h0]
theorem Qtc {id g i:Nat}:∀ {l:List D} {j k:Nat} {y:AV} {d:D},(cellsB id g i j l)[k]? = some y→l[k]? = some d→y=match d with | .v x=>.c (.v x) | d=>.b d id g [(i,j+k)]
 | [],j,k,y,d,h,h'=>by simp at h'
 | x::l,j,0,y,d,h,h'=>by
  simp only [cellsB,List.getElem?_cons_zero,Option.some.injEq] at h h'
  subst h'
  rw [← h]
  rfl
 | x::l,j,k+1,y,d,h,h'=>by
  simp only [cellsB,List.getElem?_cons_succ] at h h'
  rw [Qtc h h',Nat.add_assoc,Nat.add_comm 1 k]
theorem QnY {id g i:Nat}:∀ {l:List D} {j:Nat},(cellsB id g i j l).length=l.length
 | [],j=>rfl
 | x::l,j=>by simp [cellsB,QnY (l:=l)]
theorem Qs0 {m:Mo} {id i j:Nat} {l:List D}:(cellsM m id i j l).length=l.length:=by
 cases m <;> simp [cellsM,QnY]
theorem QrD {id g i:Nat} {p:Pth}:∀ {l:List D} {j k:Nat} {y:AV} {d:D},(cellsQ id g p i j l)[k]? = some y→l[k]? = some d→y=match d with | .v x=>.c (.v x) | d=>.b d id g (p++[(i,j+k)])
 | [],j,k,y,d,h,h'=>by simp at h'
 | x::l,j,0,y,d,h,h'=>by
  simp only [cellsQ,List.getElem?_cons_zero,Option.some.injEq] at h h'
  subst h'
  rw [← h]
  rfl
 | x::l,j,k+1,y,d,h,h'=>by
  simp only [cellsQ,List.getElem?_cons_succ] at h h'
  rw [QrD h h',Nat.add_assoc,Nat.add_comm 1 k]
theorem Qkh {id g i:Nat} {p:Pth}:∀ {l:List D} {j:Nat},(cellsQ id g p i j l).length=l.length
 | [],j=>rfl
 | x::l,j=>by simp [cellsQ,Qkh (l:=l)]
theorem QHk {w:World} {F:Nat→Prop} {ι:Io} {h:Nat→Blk} {id bk i j k sz:Nat} {e e0:TypeId} {m:Mo} {es:List (List D)} {cur:Array Value} {l:List D} {y:AV} {v:Value} {d:D} (hh:h id = .sl e sz m es) (hf:m.full=true) (hi:ι id=some bk)
  (hb:w.heap[bk]? = some (.cells cur e0 (0,0))) (hy:(cellsM m id i j l)[k]? = some y) (hd:l[k]? = some d) (hv:cur[ι.o id+i*sz+(j+k)]? = some v) (hr:RM w F ι id m i (j+k) v d):VR w F ι h v y:=by
 have old:∀ (hr:Rd w F v d) (hy:(l.map AV.c)[k]? = some y),VR w F ι h v y:=by
  intro hr hy
  rw [List.getElem?_map,hd] at hy
  cases hy
  exact .c _ _ hr
 cases m with
 | fz=>exact old hr hy
 | ow=>exact old hr hy
 | dp g t H =>
  cases H with
  | cons=>simp [Mo.full] at hf
  | nil =>
   have hrl:=hr.2 (by simp)
   have:=Qtc hy hd
   subst this
   cases d with
   | v x=>cases hrl with | v _ _ h1=>exact .c _ _ (.v _ h1)
   | sl sz' es' =>
    refine .b_of hh rfl hrl (fun i' j' hp=>?_)
    simp only [List.cons.injEq,Prod.mk.injEq,and_true] at hp
    obtain ⟨rfl,rfl⟩:=hp
    exact ⟨bk,cur,e0,hi,hb,hv⟩
theorem QDR {w:World} {F:Nat→Prop} {ι:Io} {h:Nat→Blk} {id g i j k:Nat} {p:Pth} {l:List D} {y:AV} {v:Value} {d:D} (hg0:(h id).genf=some g) (hp:p≠[])
  (hy:(cellsQ id g p i j l)[k]? = some y) (hd:l[k]? = some d) (hr:RL w ι.k id (p++[(i,j+k)]) v d):VR w F ι h v y:=by
 have hg:=Blk.genf_gen hg0
 have:=QrD hy hd
 subst this
 cases d with
 | v x=>cases hr with | v _ _ h1=>exact .c _ _ (.v _ h1)
 | sl sz' es' =>
  cases hx:h id with
  | sl e sz m es =>
   rw [hx] at hg
   refine .b_of hx hg hr (fun i' j' hq=>?_)
   cases p with
   | nil=>exact absurd rfl hp
   | cons a r=>simp at hq
  | _=>rw [hx] at hg;cases hg
section
variable {C:Ctx} {U U':Nat→Prop} {σ:St} {a:Act} {w:World} {ι:Io} {o:Oper} {Q:Exit→Act→World→Prop} {Γ:Tab} {b:Nat} {e:Eff}
theorem Qbb {w:World} {bk k:Nat} {cur:Array Value} {et:TypeId} {fr:Nat × Nat} {v:Value} (hb:w.heap[bk]? = some (.cells cur et fr)) (hv:cur[k]? = some v):w.cell? ⟨bk,k,Option.none⟩=some v:=by
 simp [World.cell?,hb,hv]
theorem QuD (S:Sat C U σ a w ι) {x:Operand} {av:Value} (hae:a.eval x=av) {x':Opd} {t n:Nat} {agg:Bool} {t1:TypeId} (hx:cO C.P t1 x=some x') (hagg:YS C.P t=some agg) (hn:agg=true→szOf C.P t=some n) (hn1:agg=false→n=1)
  (he:Qh Γ (Opd.ev σ.t) σ.h b (.load x' n agg)=some e) :
  ∃ v x1,e=⟨x1,[]⟩∧VR w (Fz C w ι σ.h) ι σ.h v x1∧(Instr.loadAt t av).run C.P w = .ok v w∧∃ ad,av = .pointer (some ad)∧(loadVar t ad).run C.P w = .ok v w:=by
 have h1:=QL S hx
 have fin:∀ (bk of:Nat) (vs:List Value) (l:List AV) (v:AV),a.eval x = .pointer (some ⟨bk,of,Option.none⟩)→vs.length=n→l.length=n →
   (∀ (k:Nat) (v:Value),vs[k]? = some v→w.cell? ⟨bk,of+k,Option.none⟩=some v)→(∀ (k:Nat) (v:Value),vs[k]? = some v→v.oneCell'=true) →
   (∀ (k:Nat) (v:Value) (y:AV),vs[k]? = some v→l[k]? = some y→VR w (Fz C w ι σ.h) ι σ.h v y)→YW agg l=some v →
   ∃ v' x1,(⟨v,[]⟩:Eff)=⟨x1,[]⟩∧VR w (Fz C w ι σ.h) ι σ.h v' x1∧(Instr.loadAt t av).run C.P w = .ok v' w∧∃ ad,av = .pointer (some ad)∧(loadVar t ad).run C.P w = .ok v' w:=by
  intro bk of vs l v hae' hl hl' hc h1 hv hp
  rw [hae] at hae'
  refine ⟨_,v,rfl,Qlu hn1 hl hl' h1 hv hp,by rw [hae'];exact Qyx hagg hn hn1 hl hc,_,hae',QFs hagg hn hn1 hl hc⟩
 simp only [Qh] at he
 split at he
 ·rename_i id i j hv
  have hblk:=S.blk id
  split at he
  ·rename_i cs hh
   split at he
   rotate_left
   ·cases he
   rename_i hi0
   subst hi0
   split at he
   rotate_left
   ·cases he
   rename_i l hl
   split at he
   rotate_left
   ·cases he
   rename_i v hp
   cases he
   rw [hv] at h1
   rw [hae] at h1
   cases h1 with
   | pdead v _ _ _ _ hdd=>rw [hdd] at hh;cases hh
   | p _ _ _ bk hi hn' hnd =>
    rw [hh] at hblk
    cases hblk with
    | box bk' et vals _ hi' ho0 hb hlen h1 hvr =>
     rw [hi] at hi'
     cases hi'
     rw [ho0,Nat.zero_add] at hae
     obtain ⟨c1,c2⟩:=Qcn hl
     obtain ⟨c3,_⟩:=QbM hl
     rw [hh] at hae
     simp only [Blk.sz,Nat.mul_zero,Nat.zero_add] at hae
     have hget:∀ k:Nat,k<n→((vals.toList.drop j).take n)[k]? = vals[j+k]?:=fun k hk=>by rw [List.getElem?_take,if_pos hk,List.getElem?_drop];simp
     have hvl:((vals.toList.drop j).take n).length=n:=by simp;omega
     have hk':∀ (k:Nat) (v:Value),((vals.toList.drop j).take n)[k]? = some v→k<n∧vals[j+k]? = some v:=by
      intro k v hk
      have:k<n:=by rw [← hvl];exact (List.getElem?_eq_some_iff.1 hk).1
      rw [hget k this] at hk
      exact ⟨this,hk⟩
     refine fin bk j ((vals.toList.drop j).take n) l v hae hvl c1 (fun k v hk=>?_) (fun k v hk=>h1 _ v (hk' k v hk).2) (fun k v y hk hy=>?_) hp
     ·exact Qbb hb (hk' k v hk).2
     ·rw [c2 k (hk' k v hk).1] at hy
      exact hvr _ v y (hk' k v hk).2 hy
  ·rename_i et sz m es hh
   split at he
   rotate_left
   ·cases he
   rename_i hfull
   split at he
   rotate_left
   ·cases he
   rename_i el hel
   split at he
   rotate_left
   ·cases he
   rename_i l hl
   split at he
   rotate_left
   ·cases he
   rename_i v hp
   cases he
   rw [hv] at h1
   rw [hae] at h1
   cases h1 with
   | pdead v _ _ _ _ hdd=>rw [hdd] at hh;cases hh
   | p _ _ _ bk hi hn' hnd =>
    rw [hh] at hblk
    cases hblk with
    | slnil=>simp at hel
    | sl bk' _ e0 _ _ _ cur hz hi' hb htc hle hml hsz hvr =>
     rw [hi] at hi'
     cases hi'
     obtain ⟨c1,c2⟩:=Qcn hl
     obtain ⟨c3,_⟩:=QbM hl
     have hilt:i<es.length:=(List.getElem?_eq_some_iff.1 hel).1
     have hels:el.length=sz:=hsz el (List.mem_of_getElem? hel)
     rw [hh] at hae
     simp only [Blk.sz] at hae
     have hcurs:ι.o id+i*sz+j+n≤cur.size:=by
      have:(i+1)*sz≤es.length*sz:=Nat.mul_le_mul_right _ (by omega)
      rw [Nat.add_mul] at this
      omega
     have hget:∀ k:Nat,k<n→((cur.toList.drop (ι.o id+i*sz+j)).take n)[k]? = cur[ι.o id+i*sz+j+k]?:=fun k hk=>by rw [List.getElem?_take,if_pos hk,List.getElem?_drop];simp
     have hvl:((cur.toList.drop (ι.o id+i*sz+j)).take n).length=n:=by simp;omega
     have hk':∀ (k:Nat) (v:Value),((cur.toList.drop (ι.o id+i*sz+j)).take n)[k]? = some v→k<n∧cur[ι.o id+i*sz+j+k]? = some v:=by
      intro k v hk
      have:k<n:=by rw [← hvl];exact (List.getElem?_eq_some_iff.1 hk).1
      rw [hget k this] at hk
      exact ⟨this,hk⟩
     have hrd:∀ (k:Nat) (v:Value),((cur.toList.drop (ι.o id+i*sz+j)).take n)[k]? = some v→∃ d,l[k]? = some d∧RM w (Fz C w ι σ.h) ι id m i (j+k) v d:=by
      intro k v hk
      obtain ⟨hkn,hkv⟩:=hk' k v hk
      have hlk:k<l.length:=by omega
      have hld:=c2 k hkn
      rw [List.getElem?_eq_getElem hlk] at hld
      obtain ⟨v',h3,h4⟩:=hvr i (j+k) el _ hel hld.symm
      rw [show ι.o id+i*sz+(j+k)=ι.o id+i*sz+j+k by omega,hkv] at h3
      cases h3
      exact ⟨l[k],by simp,h4⟩
     refine fin bk (ι.o id+i*sz+j) ((cur.toList.drop (ι.o id+i*sz+j)).take n) (cellsM m id i j l) v hae hvl (by rw [Qs0];exact c1) (fun k v hk=>?_) (fun k v hk=>?_) (fun k v y hk hy=>?_) hp
     ·exact Qbb hb (hk' k v hk).2
     ·obtain ⟨d,_,h⟩:=hrd k v hk
      exact h.one
     ·obtain ⟨d,h5,h6⟩:=hrd k v hk
      exact QHk hh hfull hi hb hy h5 (by rw [show ι.o id+i*sz+(j+k)=ι.o id+i*sz+j+k by omega];exact (hk' k v hk).2) h6
  ·cases he
 ·rename_i cs j id g p i hv
  split at he
  rotate_left
  ·cases he
  rename_i hg
  split at he
  rotate_left
  ·cases he
  rename_i l hl
  split at he
  rotate_left
  ·cases he
  rename_i v hp
  cases he
  rw [hv] at h1
  obtain ⟨bk,o',cur,e0,hae',hk,hb,hc⟩:=h1.bqok hg
  obtain ⟨c1,c2⟩:=Qcn hl
  obtain ⟨c3,_⟩:=QbM hl
  have hxs:∀ k:Nat,k<n→∃ d x,l[k]? = some d∧cur[o'+(j+k)]? = some x∧RL w ι.k id (p++[(i,j+k)]) x d:=by
   intro k hkn
   have hlk:k<l.length:=by omega
   have hld:=c2 k hkn
   rw [List.getElem?_eq_getElem hlk] at hld
   obtain ⟨x,h2,h3⟩:=hc (j+k) _ hld.symm
   exact ⟨l[k],x,by simp,h2,h3⟩
  have hp0:p≠[]:=(S.lab bk id p hk).pn
  have hk':∀ (k:Nat) (v:Value),((List.range n).map fun k=>cur.getD (o'+(j+k)) undef)[k]? = some v→k<n∧v=cur.getD (o'+(j+k)) undef:=by
   intro k v hk
   rw [List.getElem?_map] at hk
   by_cases hkn:k<n
   ·rw [List.getElem?_range hkn] at hk
    simp at hk
    exact ⟨hkn,by rw [← hk];simp⟩
   ·rw [List.getElem?_eq_none (by simp;omega)] at hk
    simp at hk
  refine fin bk (o'+j) ((List.range n).map fun k=>cur.getD (o'+(j+k)) undef) (cellsQ id g p i j l) v hae' (by simp) (by rw [Qkh];exact c1) (fun k v hk=>?_) (fun k v hk=>?_) (fun k v y hk hy=>?_) hp
  ·obtain ⟨h2,rfl⟩:=hk' k v hk
   obtain ⟨d,x,h3,h4,h5⟩:=hxs k h2
   have:cur.getD (o'+(j+k)) undef=x:=by simp [Array.getD_eq_getD_getElem?,h4]
   rw [this]
   exact Qbb hb (by rw [Nat.add_assoc];exact h4)
  ·obtain ⟨h2,rfl⟩:=hk' k v hk
   obtain ⟨d,x,h3,h4,h5⟩:=hxs k h2
   have:cur.getD (o'+(j+k)) undef=x:=by simp [Array.getD_eq_getD_getElem?,h4]
   rw [this]
   exact h5.one
  ·obtain ⟨h2,rfl⟩:=hk' k v hk
   obtain ⟨d,x,h3,h4,h5⟩:=hxs k h2
   have:cur.getD (o'+(j+k)) undef=x:=by simp [Array.getD_eq_getD_getElem?,h4]
   rw [this]
   exact QDR hg hp0 hy h3 h5
 ·rename_i cs j hv
  split at he
  rotate_left
  ·cases he
  rename_i l hl
  split at he
  rotate_left
  ·cases he
  rename_i v hp
  cases he
  rw [hv] at h1
  rw [hae] at h1
  cases h1 with
  | q bk o' _ _ xv hb hc hr =>
   obtain ⟨c1,c2⟩:=Qcn hl
   obtain ⟨c3,_⟩:=QbM hl
   have hk':∀ (k:Nat) (v:Value),((List.range n).map fun k=>xv (j+k))[k]? = some v→k<n∧v=xv (j+k):=by
    intro k v hk
    rw [List.getElem?_map] at hk
    by_cases hkn:k<n
    ·rw [List.getElem?_range hkn] at hk
     simp at hk
     exact ⟨hkn,hk.symm⟩
    ·rw [List.getElem?_eq_none (by simp;omega)] at hk
     simp at hk
   have hld:∀ k:Nat,k<n→∃ d,cs[j+k]? = some d∧l[k]? = some d:=by
    intro k hk
    have:k<l.length:=by omega
    exact ⟨l[k],by rw [← c2 k hk];simp,by simp⟩
   refine fin bk (o'+j) ((List.range n).map fun k=>xv (j+k)) (l.map .c) v hae (by simp) (by simpa using c1) (fun k v hk=>?_) (fun k v hk=>?_) (fun k v y hk hy=>?_) hp
   ·obtain ⟨h2,rfl⟩:=hk' k v hk
    obtain ⟨d,h3,_⟩:=hld k h2
    rw [Nat.add_assoc]
    exact hc (j+k) d h3
   ·obtain ⟨h2,rfl⟩:=hk' k v hk
    obtain ⟨d,h3,_⟩:=hld k h2
    exact (hr (j+k) d h3).one
   ·obtain ⟨h2,rfl⟩:=hk' k v hk
    obtain ⟨d,h3,h4⟩:=hld k h2
    simp [h4] at hy
    subst hy
    exact .c _ _ (hr (j+k) d h3)
 ·cases he
variable (S:Sat C U σ a w ι) (hd:∀ d,o.dst=some d→d<C.N) (hU':∀ i,U' i→U i)
include S hd hU'
theorem QvP {x:Operand} {x':Opd} {t n:Nat} {agg:Bool} {t1:TypeId} (ho:o.op = .load t x) (hx:cO C.P t1 x=some x') (hagg:YS C.P t=some agg) (hn:agg=true→szOf C.P t=some n) (hn1:agg=false→n=1)
  (he:Qh Γ (Opd.ev σ.t) σ.h b (.load x' n agg)=some e) :
  o.wp C.P a w (fun a' w'=>SatU C U' (σ.app o.dst e) a' w') Q:=by
 obtain ⟨v,x1,rfl,hv,hr,_⟩:=QuD S rfl hx hagg hn hn1 he
 refine QI S hd hU' ?_ hv
 simp only [execOp,ho,Sem.run_bind,hr,Result.andThen_ok,Sem.run_pure]
theorem QFR {x:Operand} {x':Opd} {t i n:Nat} {agg:Bool} {fs:Array Field} {f:Field} {t1:TypeId} (ho:o.op = .field t x i) (ht:C.P.underlying t=some (.struct fs)) (hf:fs[i]? = some f)
  (hagg:YS C.P f.type=some agg) (hn:agg=true→szOf C.P f.type=some n) (hn1:agg=false→n=1) (hx:cO C.P t1 x=some x')
  (he:Qh Γ (Opd.ev σ.t) σ.h b (.fld x' f.offset n agg)=some e) :
  o.wp C.P a w (fun a' w'=>SatU C U' (σ.app o.dst e) a' w') Q:=by
 have h1:=QL S hx
 simp only [Qh] at he
 split at he
 rotate_left
 ·cases he
 rename_i cs hv
 split at he
 rotate_left
 ·cases he
 rename_i l hl
 split at he
 rotate_left
 ·cases he
 rename_i v hp
 cases he
 rw [hv] at h1
 generalize hae:a.eval x=av at h1
 cases h1 with
 | a vs _ hl' h1 hvr =>
  obtain ⟨c1,c2⟩:=Qcn hl
  obtain ⟨c3,_⟩:=QbM hl
  have hget:∀ k:Nat,k<n→((vs.toList.drop f.offset).take n)[k]? = vs[f.offset+k]?:=fun k hk=>by rw [List.getElem?_take,if_pos hk,List.getElem?_drop];simp
  have hvl:((vs.toList.drop f.offset).take n).length=n:=by simp;omega
  have hk':∀ (k:Nat) (v:Value),((vs.toList.drop f.offset).take n)[k]? = some v→k<n∧vs[f.offset+k]? = some v:=by
   intro k v hk
   have:k<n:=by rw [← hvl];exact (List.getElem?_eq_some_iff.1 hk).1
   rw [hget k this] at hk
   exact ⟨this,hk⟩
  refine QI S hd hU' ?_ (Qlu hn1 hvl c1 (fun k v hk=>h1 _ v (hk' k v hk).2) (fun k v y hk hy=>?_) hp)
  ·cases agg with
   | true =>
    have hext:vs.extract f.offset (f.offset+n)=((vs.toList.drop f.offset).take n).toArray:=by
     apply Array.ext'
     simp [Array.toList_extract,List.extract]
    simp [execOp,ho,hae,Instr.field,run_underlying ht,hf,asAgg,part,Qbp hagg,Ja (hn rfl),hext]
   | false =>
    have:=hn1 rfl
    subst this
    have hlt:f.offset<vs.size:=by omega
    have h0:vs[f.offset]? = some vs[f.offset]:=Array.getElem?_eq_getElem hlt
    have h2:((vs.toList.drop f.offset).take 1).headD undef=vs[f.offset]:=by
     have:=hget 0 (by omega)
     simp only [Nat.add_zero,h0] at this
     rw [List.headD_eq_head?_getD,List.head?_eq_getElem?,this]
     rfl
    simp [execOp,ho,hae,Instr.field,run_underlying ht,hf,asAgg,part,Qbp hagg,h0]
    simpa using h2.symm
  ·rw [c2 k (hk' k v hk).1] at hy
   exact hvr _ v y (hk' k v hk).2 hy
theorem QI2 {x:Operand} {x':Opd} {lo hi:Option Operand} {lo' hi':Option Opd} {t e' sz:Nat} {t1:TypeId} (ho:o.op = .slice t x lo hi none) (ht:elOf C.P t=some e') (hsz:szOf C.P e'=some sz) (hz:0<sz)
  (hx:cO C.P t1 x=some x') (hlo:QbL C.P lo=some lo') (hhi:QbL C.P hi=some hi')
  (he:Qh Γ (Opd.ev σ.t) σ.h b (.slc x' lo' hi' sz)=some e) :
  o.wp C.P a w (fun a' w'=>SatU C U' (σ.app o.dst e) a' w') Q:=by
 have h1:=QL S hx
 have hL:∀ (y:Option Operand) (y':Option Opd) (n m:Int),QbL C.P y=some y'→Zt (Opd.ev σ.t) m y'=some n→∃ v:Option Value,y.map a.eval=v∧(v=none∧n=m∨∃ k,v=some (.int k n)):=by
  intro y y' n m hy hn
  cases y with
  | none=>simp [QbL] at hy;subst hy;simp [Zt] at hn;exact ⟨none,rfl,.inl ⟨rfl,hn.symm⟩⟩
  | some l =>
   obtain ⟨l',h2,h3⟩:=Option.map_eq_some_iff.1 hy
   subst h3
   obtain ⟨k,hk⟩:=Qkc (QL S h2) hn
   exact ⟨_,rfl,.inr ⟨k,by simp [hk]⟩⟩
 have bounds:∀ (len cap:Nat) (l h:Int) (vl vh:Option Value),(vl=none∧l=0∨∃ k,vl=some (.int k l))→(vh=none∧h=(len:Int)∨∃ k,vh=some (.int k h))→0≤l→l≤h→h≤len→len≤cap →
   (Instr.sliceBounds true len cap vl vh none).run C.P w = .ok (l.toNat,h.toNat,cap) w:=by
  intro len cap l h vl vh h1 h2 h3 h4 h5 h6
  have h7:h≤(cap:Int):=by omega
  have h8:0≤h:=by omega
  have h9:max h 0=h:=by omega
  rcases h1 with ⟨rfl,rfl⟩ | ⟨k1,rfl⟩ <;> rcases h2 with ⟨rfl,rfl⟩ | ⟨k2,rfl⟩ <;> simp [Instr.sliceBounds,Instr.sliceBound,asIntOf, *]
 have hrun:∀ (ad:Option Addr) (len cap:Nat) (l h:Int) ,a.eval x = .slice ad len cap→((∃ v:Option Value,lo.map a.eval=v∧(v=none∧l=0∨∃ k,v=some (.int k l))))→(∃ v:Option Value,hi.map a.eval=v∧(v=none∧h=(len:Int)∨∃ k,v=some (.int k h))) →
   0≤l→l≤h→h≤len→len≤cap→(execOp a.eval o).run C.P w = .ok (.value (.slice (if cap=l.toNat then ad else ad.map (·.add (l.toNat*sz))) (h.toNat-l.toNat) (cap-l.toNat))) w:=by
  intro ad len cap l h hae hl hh h3 h4 h5 h6
  obtain ⟨vl,e1,hl⟩:=hl
  obtain ⟨vh,e2,hh⟩:=hh
  simp [execOp,ho,hae,Instr.sliceAt,Instr.slice,run_underlying (YH ht),e1,e2,bounds len cap l h vl vh hl hh h3 h4 h5 h6,Ja hsz]
 simp only [Qh] at he
 split at he
 rotate_left
 ·cases he
 rename_i l hl
 have hl':=hL lo lo' l 0 hlo hl
 split at he
 ·rename_i sz' es hv
  split at he
  rotate_left
  ·cases he
  rename_i h hh
  have hh':=hL hi hi' h es.length hhi hh
  split at he
  rotate_left
  ·cases he
  rename_i hc
  obtain ⟨rfl,h3,h4,h5⟩:=hc
  cases he
  rw [hv] at h1
  generalize hae:a.eval x=av at h1
  cases h1 with
  | c v d hr =>
   cases hr with
   | nil =>
    have:l=0:=by simp at h5;omega
    have:h=0:=by simp at h5;omega
    subst_vars
    refine QI S hd hU' (hrun _ _ _ 0 0 hae hl' hh' (by omega) (by omega) (by simp) (by omega)) ?_
    simpa using VR.c (w:=w) (F:=Fz C w ι σ.h) (ι:=ι) (h:=σ.h) _ _ (Rd.nil sz')
   | emp ad cap =>
    have:l=0:=by simp at h5;omega
    have:h=0:=by simp at h5;omega
    subst_vars
    refine QI S hd hU' (hrun _ _ _ 0 0 hae hl' hh' (by omega) (by omega) (by simp) (by omega)) ?_
    have e:(if cap=Int.toNat 0 then some ad else (some ad).map (·.add (Int.toNat 0*sz')))=some ad:=by
     split
     ·rfl
     ·simp [Addr.add]
    rw [e]
    simpa using VR.c (w:=w) (F:=Fz C w ι σ.h) (ι:=ι) (h:=σ.h) _ _ (Rd.emp ad cap sz')
   | sl bk of len cap _ _ xv hlen hcap hml hszs hb hc hr =>
    subst hlen
    refine QI S hd hU' (hrun _ _ _ l h hae hl' hh' h3 h4 h5 hcap) ?_
    have hwl:((es.drop l.toNat).take (h.toNat-l.toNat)).length=h.toNat-l.toNat:=by simp;omega
    have hwg:∀ (i:Nat) (el:List D),((es.drop l.toNat).take (h.toNat-l.toNat))[i]? = some el→es[l.toNat+i]? = some el:=by
     intro i el hel
     have hi:=(List.getElem?_eq_some_iff.1 hel).1
     rw [List.getElem?_take,if_pos (by omega),List.getElem?_drop] at hel
     exact hel
    by_cases hcl:cap=l.toNat
    ·rw [if_pos hcl]
     refine .c _ _ (.sl bk of _ _ sz' _ (fun i j=>xv (l.toNat+i) j) hwl (by omega) (by omega) (fun e he=>hszs e (List.mem_of_mem_drop (List.mem_of_mem_take he))) (fun hn=>hb (fun h0=>hn (by rw [h0];simp))) (fun i j el d h8 h9=>?_) (fun i j el d h8 h9=>hr _ j el d (hwg i el h8) h9))
     have:=(List.getElem?_eq_some_iff.1 h8).1
     omega
    ·rw [if_neg hcl]
     simp only [Option.map_some,ZP]
     refine .c _ _ (.sl bk _ _ _ sz' _ (fun i j=>xv (l.toNat+i) j) hwl (by omega) (by omega) (fun e he=>hszs e (List.mem_of_mem_drop (List.mem_of_mem_take he))) (fun hn=>hb (fun h0=>hn (by rw [h0];simp))) (fun i j el d h8 h9=>?_) (fun i j el d h8 h9=>hr _ j el d (hwg i el h8) h9))
     rw [show of+l.toNat*sz'+i*sz'+j=of+(l.toNat+i)*sz'+j by rw [Nat.add_mul];omega]
     exact hc _ j el d (hwg i el h8) h9
 ·rename_i sz' id off len hv
  split at he
  rotate_left
  ·cases he
  rename_i h hh
  have hh':=hL hi hi' h len hhi hh
  split at he
  rotate_left
  ·cases he
  rename_i hc
  obtain ⟨rfl,h3,h4,h5,hal⟩:=hc
  cases he
  rw [hv] at h1
  generalize hae:a.eval x=av at h1
  cases h1 with
  | rdead v _ _ _ _ _ hdd=>rw [hdd] at hal;simp [Blk.alive] at hal
  | remp ad cap0 _ et _ m hi' hhh htp =>
   have:l=0:=by omega
   have:h=0:=by omega
   subst_vars
   refine QI S hd hU' (hrun _ _ _ 0 0 hae hl' hh' (by omega) (by omega) (by simp) (by omega)) ?_
   have e:(if cap0=Int.toNat 0 then some ad else (some ad).map (·.add (Int.toNat 0*sz')))=some ad:=by
    split
    ·rfl
    ·simp [Addr.add]
   rw [e]
   simpa using VR.remp (w:=w) (F:=Fz C w ι σ.h) (ι:=ι) (h:=σ.h) ad cap0 id et sz' m hi' hhh htp
  | rnil _ et _ m hi' hhh =>
   have:l=0:=by omega
   have:h=0:=by omega
   subst_vars
   refine QI S hd hU' (hrun _ _ _ 0 0 hae hl' hh' (by omega) (by omega) (by simp) (by omega)) ?_
   simpa using VR.rnil (w:=w) (F:=Fz C w ι σ.h) (ι:=ι) (h:=σ.h) id et sz' m hi' hhh
  | r _ _ _ bk ao cap et _ m es hi' hhh hlen hcap hao htip =>
   refine QI S hd hU' (hrun _ _ _ l h hae hl' hh' h3 h4 h5 hcap) ?_
   by_cases hcl:cap=l.toNat
   ·rw [if_pos hcl]
    refine .r id (off+l.toNat) (h.toNat-l.toNat) bk ao (cap-l.toNat) et sz' m es hi' hhh (by omega) (by omega) (fun hne=>by omega) (fun ht h0=>?_)
    have h01:off=0:=by omega
    have h02:l.toNat=0:=by omega
    rw [h02,Nat.sub_zero]
    exact htip ht h01
   ·rw [if_neg hcl]
    simp only [Option.map_some,ZP]
    refine .r id (off+l.toNat) (h.toNat-l.toNat) bk _ (cap-l.toNat) et sz' m es hi' hhh (by omega) (by omega) (fun hne=>?_) (fun ht h0=>?_)
    ·rw [hao (by omega),Nat.add_mul,Nat.add_assoc]
    ·have h01:off=0:=by omega
     have h02:l.toNat=0:=by omega
     rw [h02,Nat.sub_zero,Nat.zero_mul,Nat.add_zero]
     exact htip ht h01
 ·rename_i sz' hv
  split at he
  rotate_left
  ·cases he
  rename_i h hh
  have hh':=hL hi hi' h 0 hhi hh
  split at he
  rotate_left
  ·cases he
  rename_i hc
  obtain ⟨rfl,rfl⟩:=hc
  cases he
  rw [hv] at h1
  generalize hae:a.eval x=av at h1
  cases h1 with
  | n =>
   refine QI S hd hU' (hrun _ _ _ 0 0 hae hl' hh' (by omega) (by omega) (by simp) (by omega)) ?_
   simpa using VR.n (w:=w) (F:=Fz C w ι σ.h) (ι:=ι) (h:=σ.h) sz
 ·cases he
omit S hd hU' in
theorem QlY {P:Program} {w:World} {d:Nat} {xs ys:Array Value} {l m:List Int} (hx:∀ (i:Nat) (n:Int),l[i]? = some n→xs[i]? = some (.int .i64 n)) (hy:∀ (i:Nat) (n:Int),m[i]? = some n→ys[i]? = some (.int .i64 n))
  (hlm:l.length=m.length):∀ (fs:List Field) (k:Nat),QfR P fs k=true→k+fs.length=l.length→(Op.eqFields (d+1) xs ys fs).run P w = .ok (decide (l.drop k=m.drop k)) w
 | [],k,_,hk=>by
  simp at hk
  rw [List.drop_of_length_le (by omega),List.drop_of_length_le (by omega)]
  simp [Op.eqFields]
 | f::fs,k,hp,hk=>by
  simp only [QfR,Bool.and_eq_true,bne_iff_ne,ne_eq,beq_iff_eq] at hp
  obtain ⟨⟨⟨⟨h1,h2⟩,h3⟩,h4⟩,h5⟩:=hp
  simp at hk
  have hkl:k<l.length:=by omega
  have hkm:k<m.length:=by omega
  have hxk:=hx k l[k] (by simp [hkl])
  have hyk:=hy k m[k] (by simp [hkm])
  split at h4
  rotate_left
  ·cases h4
  rename_i kk hu
  have hagg:∀ w:World,(isAgg f.type).run P w = .ok false w:=fun w=>by simp [isAgg,run_underlying hu]
  have e1:(Op.equalIn (d+1) f.type (.int .i64 l[k]) (.int .i64 m[k])).run P w = .ok (l[k]==m[k]) w:=by simp [Op.equalIn,run_underlying hu]
  have hdk:(l.drop k=m.drop k)↔(l[k]=m[k]∧l.drop (k+1)=m.drop (k+1)):=by
   rw [List.drop_eq_getElem_cons hkl,List.drop_eq_getElem_cons hkm,List.cons.injEq]
  have ih:=QlY (P:=P) (w:=w) (d:=d) hx hy hlm fs (k+1) h5 (by omega)
  rw [show decide (l.drop k=m.drop k)=decide (l[k]=m[k]∧l.drop (k+1)=m.drop (k+1)) from decide_eq_decide.2 hdk]
  by_cases heq:l[k]=m[k]
  ·rw [← heq] at e1 hyk
   have hT:(l[k]=m[k])=True:=eq_true heq
   simp [Op.eqFields,h1,part,hagg,h2,hxk,hyk,e1,hT,ih]
  ·simp [Op.eqFields,h1,part,hagg,h2,hxk,hyk,e1,heq]
omit S hd hU' in
theorem QgJ {w:World} {F:Nat→Prop} {h:Nat→Blk}:∀ (cs:List AV) (l:List Int),JW cs=some l→l.length=cs.length∧∀ (i:Nat) (n:Int),l[i]? = some n→cs[i]? = some (.c (.v (.int .i64 n)))
 | [],l,hl=>by simp [JW] at hl;subst hl;simp
 | c::cs,l,hl=>by
  unfold JW at hl
  split at hl
  ·cases hl;rename_i heq;cases heq
  ·rename_i x r heq
   cases heq
   split at hl
   ·rename_i l' hl'
    cases hl
    obtain ⟨h1,h2⟩:=QgJ (w:=w) (F:=F) (h:=h) _ _ hl'
    refine ⟨by simp [h1],fun i n hi=>?_⟩
    cases i with
    | zero=>simp at hi;subst hi;rfl
    | succ i=>simp at hi;exact h2 i n hi
   ·cases hl
  ·cases hl
theorem Qsn {n:Nat} {neg:Bool} {x y:Operand} {x' y':Opd} {t ty:TypeId} (ho:o.op = .binOp (if neg then .neq else .eql) t x y ty) (ht:Qia C.P t=some n) {t1 t2:TypeId} (hx:cO C.P t1 x=some x') (hy:cO C.P t2 y=some y')
  (he:Qh Γ (Opd.ev σ.t) σ.h b (.cmpa n neg x' y')=some e) :
  o.wp C.P a w (fun a' w'=>SatU C U' (σ.app o.dst e) a' w') Q:=by
 have h1:=QL S hx
 have h2:=QL S hy
 unfold Qia at ht
 split at ht
 rotate_left
 ·cases ht
 rename_i fs hu
 split at ht
 rotate_left
 ·cases ht
 rename_i hc
 cases ht
 simp only [Bool.and_eq_true,Bool.not_eq_true'] at hc
 obtain ⟨⟨hp,hg⟩,hst⟩:=hc
 simp only [Qh] at he
 split at he
 rotate_left
 ·cases he
 rename_i xs ys hvx hvy
 split at he
 rotate_left
 ·cases he
 rename_i l m hl hm
 split at he
 rotate_left
 ·cases he
 rename_i hlen
 cases he
 rw [hvx] at h1;rw [hvy] at h2
 obtain ⟨q1,q2⟩:=QgJ (w:=w) (F:=fun _=>True) (h:=σ.h) _ _ hl
 obtain ⟨q3,q4⟩:=QgJ (w:=w) (F:=fun _=>True) (h:=σ.h) _ _ hm
 generalize hax:a.eval x=ax at h1
 generalize hay:a.eval y=ay at h2
 cases h1 with
 | a vs _ l1 _ hv1 =>
  cases h2 with
  | a us _ l2 _ hv2 =>
   have hX:∀ (i:Nat) (n:Int),l[i]? = some n→vs[i]? = some (.int .i64 n):=by
    intro i n hi
    have hk:=q2 i n hi
    have hlt:i<vs.size:=by rw [l1];exact (List.getElem?_eq_some_iff.1 hk).1
    have:=(hv1 i vs[i] _ (Array.getElem?_eq_getElem hlt) hk).int
    rw [Array.getElem?_eq_getElem hlt,this]
   have hY:∀ (i:Nat) (n:Int),m[i]? = some n→us[i]? = some (.int .i64 n):=by
    intro i n hi
    have hk:=q4 i n hi
    have hlt:i<us.size:=by rw [l2];exact (List.getElem?_eq_some_iff.1 hk).1
    have:=(hv2 i us[i] _ (Array.getElem?_eq_getElem hlt) hk).int
    rw [Array.getElem?_eq_getElem hlt,this]
   have hr:=QlY (P:=C.P) (w:=w) (d:=9998) hX hY (by omega) fs.toList 0 hp (by simp;omega)
   have hfs:C.P.fieldsOf t=fs:=by simp [Program.fieldsOf,hu]
   have hs:=run_equalIn_struct (P:=C.P) w 9999 t vs us (by rw [hfs];exact hu) hst
   rw [hfs,hr] at hs
   simp only [List.drop_zero] at hs
   refine QI S hd hU' (v:=.bool (if neg then !decide (l=m) else decide (l=m))) ?_ (vr_v rfl)
   have hgd:∀ op,(eqGuard op t x y (.agg vs) (.agg us)).run C.P w = .ok () w:=fun op=>run_eqGuard_agg w op t x y vs us hg
   cases neg
   ·simp [execOp,ho,hax,hay,hgd,run_eql_struct,hs]
   ·simp [execOp,ho,hax,hay,hgd,run_neq_struct,hs]
end
end Go.Proofs.YtdplaepmjogjjaaGreat.Am
namespace Go.Proofs.YtdplaepmjogjjaaGreat.Am
open Go Go.RowKit
structure CR (w:World) (F:Nat→Prop) (ι:Io) (h:Nat→Blk) (cur:Array Value) (cs:List AV):Prop where
 size:cur.size=cs.length
 one:∀ (k:Nat) (v:Value),cur[k]? = some v→v.oneCell'=true
 vr:∀ (k:Nat) (v:Value) (x:AV),cur[k]? = some v→cs[k]? = some x→VR w F ι h v x
theorem QB3 {v:Value} (h:v.oneCell'=true):v.cells = #[v]:=by
 cases v <;> first | rfl | simp [Value.oneCell'] at h
theorem VR.one {w:World} {F:Nat→Prop} {ι:Io} {h:Nat→Blk} {v:Value} {x:AV} (hv:VR w F ι h v x) (hx:x.one=true):v.oneCell'=true:=by
 cases hv with
 | u=>simp [AV.one] at hx
 | c v d hr=>exact hr.one
 | n=>rfl
 | rdead _ _ _ _ _ h1=>exact h1
 | rnil=>rfl
 | remp=>rfl
 | r=>rfl
 | pdead _ _ _ _ h1=>exact h1
 | p=>rfl
 | q=>rfl
 | bdead _ _ _ _ _ h1=>exact h1
 | b _ _ _ _ _ _ _ _ _ h1=>exact h1
 | bqdead _ _ _ _ _ _ _ h1=>exact h1
 | bq _ _ _ _ _ _ _ _ _ _ _ h1=>exact h1
 | a=>simp [AV.one] at hx
 | t=>simp [AV.one] at hx
theorem VR.cells {w:World} {F:Nat→Prop} {ι:Io} {h:Nat→Blk} {v:Value} {x:AV} (hv:VR w F ι h v x) (hx:x.st=true):CR w F ι h v.cells x.cells:=by
 by_cases hone:x.one=true
 ·have h1:=hv.one hone
  have hc:x.cells=[x]:=by cases x <;> first | rfl | simp [AV.one] at hone
  rw [QB3 h1,hc]
  refine ⟨rfl,fun k u hk=>?_,fun k u y hk hy=>?_⟩
  ·cases k with
   | zero=>simp at hk;subst hk;exact h1
   | succ k=>simp at hk
  ·cases k with
   | zero=>simp at hk hy;subst hk;subst hy;exact hv
   | succ k=>simp at hk
 ·cases x with
  | a cs =>
   cases hv with
   | a vs _ hl h1 hv=>exact ⟨hl,h1,hv⟩
  | _=>first | exact absurd rfl hone | (simp [AV.st,AV.one] at hx)
theorem Jf {α:Type} {l xs:List α} {j:Nat} (h:j+xs.length≤l.length) (k:Nat):(splice l j xs)[k]? = if k<j then l[k]? else if k<j+xs.length then xs[k-j]? else l[k]?:=by
 unfold splice
 rw [List.append_assoc,List.getElem?_append]
 simp only [List.length_take,Nat.min_eq_left (show j≤l.length by omega)]
 by_cases h1:k<j
 ·rw [if_pos h1,if_pos h1,List.getElem?_take,if_pos h1]
 ·rw [if_neg h1,if_neg h1,List.getElem?_append]
  by_cases h2:k<j+xs.length
  ·rw [if_pos (by omega),if_pos h2]
  ·rw [if_neg (by omega),if_neg h2,List.getElem?_drop]
   congr 1
   omega
theorem Jq {α:Type} {l xs:List α} {j:Nat} (h:j+xs.length≤l.length):(splice l j xs).length=l.length:=by
 unfold splice
 simp
 omega
theorem QuT (off:Nat):∀ (l:List Value) (j:Nat) (cur:Array Value),((l.zipIdx j).foldl (fun cs x=>cs.setIfInBounds (off+x.2) x.1) cur).size=cur.size ∧
  (off+j+l.length≤cur.size→∀ k:Nat,((l.zipIdx j).foldl (fun cs x=>cs.setIfInBounds (off+x.2) x.1) cur)[k]? = if k<off+j then cur[k]? else if k<off+j+l.length then l[k-(off+j)]? else cur[k]?)
 | [],j,cur=>⟨rfl,fun _ k=>by
   simp only [List.zipIdx_nil,List.foldl_nil,List.length_nil,Nat.add_zero]
   split
   ·rfl
   ·rfl⟩
 | v::l,j,cur=>by
  obtain ⟨h1,h2⟩:=QuT off l (j+1) (cur.setIfInBounds (off+j) v)
  simp only [List.zipIdx_cons,List.foldl_cons]
  refine ⟨by rw [h1];simp,fun hle k=>?_⟩
  simp only [List.length_cons] at hle
  rw [h2 (by simp;omega) k]
  rw [Array.getElem?_setIfInBounds]
  by_cases e1:k<off+j
  ·rw [if_pos (by omega),if_neg (by omega),if_pos e1]
  ·rw [if_neg e1]
   by_cases e2:k=off+j
   ·subst e2
    rw [if_pos (by omega),if_pos rfl,if_pos (by omega),if_pos (by simp)]
    simp
   ·rw [if_neg (by omega)]
    by_cases e3:k<off+j+(l.length+1)
    ·rw [if_pos (by omega),if_pos (by simpa using e3)]
     rw [show k-(off+j)=(k-(off+(j+1)))+1 by omega]
     simp
    ·rw [if_neg (by omega),if_neg (by omega),if_neg (by simpa using e3)]
theorem Qoy (cur part:Array Value) (off:Nat) (h:off+part.size≤cur.size):(part.zipIdx.foldl (fun cs (x:Value × Nat)=>cs.setIfInBounds (off+x.2) x.1) cur).size=cur.size ∧
  ∀ k:Nat,(part.zipIdx.foldl (fun cs (x:Value × Nat)=>cs.setIfInBounds (off+x.2) x.1) cur)[k]? = if k<off then cur[k]? else if k<off+part.size then part[k-off]? else cur[k]?:=by
 have:=QuT off part.toList 0 cur
 rw [← Array.foldl_toList,Array.toList_zipIdx]
 refine ⟨this.1,fun k=>?_⟩
 have h2:=this.2 (by simpa using h) k
 simpa using h2
theorem CR.splice {w:World} {F:Nat→Prop} {ι:Io} {h:Nat→Blk} {cur part:Array Value} {cs ps:List AV} {off:Nat} (hc:CR w F ι h cur cs) (hp:CR w F ι h part ps) (hle:off+ps.length≤cs.length) :
  CR w F ι h (part.zipIdx.foldl (fun cs (x:Value × Nat)=>cs.setIfInBounds (off+x.2) x.1) cur) (Am.splice cs off ps):=by
 have hps:=hp.size
 have hcs:=hc.size
 obtain ⟨h1,h2⟩:=Qoy cur part off (by omega)
 have hg:=Jf (l:=cs) (xs:=ps) (j:=off) hle
 refine ⟨by rw [h1,Jq hle,hcs],fun k v hk=>?_,fun k v x hk hx=>?_⟩
 ·rw [h2 k] at hk
  split at hk
  ·exact hc.one k v hk
  ·split at hk
   ·exact hp.one _ v hk
   ·exact hc.one k v hk
 ·rw [h2 k] at hk
  rw [hg k] at hx
  split at hk
  ·rename_i e1
   rw [if_pos e1] at hx
   exact hc.vr k v x hk hx
  ·rename_i e1
   rw [if_neg e1] at hx
   split at hk
   ·rename_i e2
    rw [if_pos (by omega)] at hx
    exact hp.vr _ v x hk hx
   ·rename_i e2
    rw [if_neg (by omega)] at hx
    exact hc.vr k v x hk hx
theorem QuM {P:Program}:∀ (fs:List Field),fs.all (fun f=>(szOf P f.type).isSome)=true→∃ pl,fs.mapM (fun f=>(P.info? f.type).map fun i=>(f.offset,i.size))=some pl∧∀ (i:Nat) (f:Field) (n:Nat),fs[i]? = some f→szOf P f.type=some n→pl[i]? = some (f.offset,n)
 | [],_=>⟨[],rfl,by simp⟩
 | f::fs,h=>by
  simp only [List.all_cons,Bool.and_eq_true] at h
  obtain ⟨pl,h1,h2⟩:=QuM fs h.2
  obtain ⟨n,hn⟩:=Option.isSome_iff_exists.1 h.1
  obtain ⟨i,hi,hs⟩:=Qct hn
  refine ⟨(f.offset,n)::pl,by simp [List.mapM_cons,hi,h1,hs],fun k g m hk hm=>?_⟩
  cases k with
  | zero=>simp at hk;subst hk;rw [hn] at hm;cases hm;rfl
  | succ k=>simp at hk;simpa using h2 k g m hk hm
theorem QtP {C:Ctx} {U:Nat→Prop} {σ:St} {a:Act} {w:World} {ι:Io} (S:Sat C U σ a w ι) {fs:List Field} {pl:List (Nat × Nat)}
  (hpl:∀ (i:Nat) (f:Field) (n:Nat),fs[i]? = some f→szOf C.P f.type=some n→pl[i]? = some (f.offset,n)) :
  ∀ (parts:List (Nat × Operand)) (ps:List (Nat × Nat × Opd)) (cur:Array Value) (cs cs':List AV),Qbf C.P fs parts=some ps→CR w (Fz C w ι σ.h) ι σ.h cur cs→YB (Opd.ev σ.t) cs ps=some cs' →
   ∃ cur',Instr.fill (fun i=>pl[i]?) cur (parts.map fun x=>(x.1,a.eval x.2))=some cur'∧CR w (Fz C w ι σ.h) ι σ.h cur' cs'
 | [],ps,cur,cs,cs',hp,hc,hq=>by
  simp [Qbf] at hp
  subst hp
  simp [YB] at hq
  subst hq
  exact ⟨cur,rfl,hc⟩
 | (i,x)::parts,ps,cur,cs,cs',hp,hc,hq=>by
  simp only [Qbf] at hp
  split at hp
  rotate_left
  ·cases hp
  rename_i f hf
  split at hp
  rotate_left
  ·cases hp
  rename_i n y ys hn hy hys
  cases hp
  simp only [YB] at hq
  split at hq
  rotate_left
  ·cases hq
  rename_i hcond
  obtain ⟨e1,e2,e3⟩:=hcond
  have hv:=(QL S hy).cells e3
  have hsz:(a.eval x).cells.size=n:=by rw [hv.size,e1]
  have hc':=hc.splice (off:=f.offset) hv (by omega)
  obtain ⟨cur',h1,h2⟩:=QtP S hpl parts ys _ _ cs' hys hc' hq
  refine ⟨cur',?_,h2⟩
  simp only [List.map_cons,Instr.fill,hpl i f n hf hn]
  have hcs:=hc.size
  rw [if_neg (by simp only [Bool.or_eq_true,decide_eq_true_eq];rintro (h | h) <;> omega)]
  exact h1
theorem Qdf {P:Program} {t:TypeId} {zs:List AV} (h:ZW P t=some zs):∃ i z,P.info? t=some i∧i.zero=some z∧∀ (w:World) (F:Nat→Prop) (ι:Io) (h:Nat→Blk),CR w F ι h z.cells zs:=by
 unfold ZW at h
 split at h
 rotate_left
 ·cases h
 rename_i i hi
 split at h
 rotate_left
 ·cases h
 rename_i z hz
 split at h
 rotate_left
 ·cases h
 rename_i x hx
 cases h
 refine ⟨i,z,hi,hz,fun w F ι h=>(QlR hx).cells ?_⟩
 unfold avOf at hx
 split at hx
 ·split at hx
  ·cases hx;rfl
  ·cases hx
 ·split at hx
  ·cases hx
   unfold av1
   split <;> rfl
  ·cases hx
section
variable {C:Ctx} {U U':Nat→Prop} {σ:St} {a:Act} {w:World} {ι:Io} {o:Oper} {Q:Exit→Act→World→Prop} {Γ:Tab} {b:Nat} {e:Eff}
variable (S:Sat C U σ a w ι) (hd:∀ d,o.dst=some d→d<C.N) (hU':∀ i,U' i→U i)
include S hd hU'
theorem QvS {t:TypeId} {fs:Array Field} {parts:Array (Nat × Operand)} {zs:List AV} {ps:List (Nat × Nat × Opd)} (ho:o.op = .build t parts) (ht:C.P.underlying t=some (.struct fs)) (hz:ZW C.P t=some zs)
  (hp:Qbf C.P fs.toList parts.toList=some ps) (hall:fs.toList.all (fun f=>(szOf C.P f.type).isSome)=true) (he:Qh Γ (Opd.ev σ.t) σ.h b (.build zs ps)=some e) :
  o.wp C.P a w (fun a' w'=>SatU C U' (σ.app o.dst e) a' w') Q:=by
 obtain ⟨i,z,hi,hzz,hcr⟩:=Qdf hz
 obtain ⟨pl,hpl1,hpl2⟩:=QuM fs.toList hall
 simp only [Qh] at he
 split at he
 rotate_left
 ·cases he
 rename_i cs hcs
 cases he
 obtain ⟨cur',h1,h2⟩:=QtP S hpl2 parts.toList ps z.cells zs cs hp (hcr _ _ _ _) hcs
 have hb:C.P.built t (parts.map fun x=>(x.1,a.eval x.2)).toList=some cur':=by
  simp only [Program.built,hi,ht,hzz,hpl1]
  simpa using h1
 refine QI S hd hU' (v:=.agg cur') ?_ (.a _ _ h2.size h2.one h2.vr)
 have:=run_build (P:=C.P) w t (parts.map fun x=>(x.1,a.eval x.2)) cur' hb
 simp only [execOp,ho,Sem.run_bind,this,Result.andThen_ok,Sem.run_pure]
end
theorem Zz (h g:Nat→Blk):∀ (ids:List Nat) (i:Nat),updL g (frz h ids) i=if i∈ids then fzB (h i) else g i
 | [],i=>by simp [frz,updL]
 | id::ids,i=>by
  simp only [frz,updL]
  rw [Zz h (upd g id (fzB (h id))) ids i]
  by_cases h1:i∈ids
  ·simp [h1]
  ·by_cases h2:i=id
   ·subst h2;simp [h1,upd]
   ·simp [h1,h2,upd]
theorem Qps (x:Blk):(fzB x).own=true→x.own=true:=by
 cases x <;> simp [fzB,Blk.own,Mo.own]
def Io.loose (ι:Io) (ids:List Nat):Io:=⟨ι.b,fun b=>match ι.k b with | some (y,p)=>if y∈ids then none else some (y,p) | none=>none,ι.o⟩
theorem Io.loose_k {ι:Io} {ids:List Nat} {b y:Nat} {p:Pth}:(ι.loose ids).k b=some (y,p)↔ι.k b=some (y,p)∧y∉ids:=by
 simp only [Io.loose]
 cases hx:ι.k b with
 | none=>simp
 | some z =>
  obtain ⟨z,q⟩:=z
  by_cases h:z∈ids
  ·simp only [h,if_true,Option.some.injEq,Prod.mk.injEq]
   refine ⟨fun h0=>(by cases h0),?_⟩
   rintro ⟨⟨rfl,_⟩,h1⟩
   exact absurd h h1
  ·simp only [h,if_false,Option.some.injEq,Prod.mk.injEq]
   constructor
   ·rintro ⟨rfl,rfl⟩;exact ⟨⟨rfl,rfl⟩,h⟩
   ·rintro ⟨h1,_⟩;exact h1
theorem Io.loose_none {ι:Io} {ids:List Nat} {b:Nat} (h:ι.k b=none):(ι.loose ids).k b=none:=by simp [Io.loose,h]
def Full (h:Nat→Blk) (ids:List Nat):Prop:=∀ id,id∈ids→∀ e sz m es,h id = .sl e sz m es→m.full=true
theorem Sat.freeze {C:Ctx} {U:Nat→Prop} {σ:St} {a:Act} {w:World} {ι:Io} (S:Sat C U σ a w ι) (ids:List Nat) (hfull:Full σ.h ids) :
  Sat C U ⟨σ.t,updL σ.h (frz σ.h ids),σ.nx⟩ a w (ι.loose ids)∧∀ b,Fz C w ι σ.h b→Fz C w (ι.loose ids) (updL σ.h (frz σ.h ids)) b:=by
 have hget:=Zz σ.h σ.h ids
 have hF:∀ b,Fz C w ι σ.h b→Fz C w (ι.loose ids) (updL σ.h (frz σ.h ids)) b:=by
  intro b ⟨h1,h2,h3,h4⟩
  refine ⟨h1,h2,fun id hid=>?_,Io.loose_none h4⟩
  have:=h3 id hid
  rw [hget]
  split
  ·cases hx:(fzB (σ.h id)).own with
   | false=>rfl
   | true=>rw [Qps _ hx] at this;cases this
  ·exact this
 have hrest:∀ id,id∉ids→Rest w w ι (ι.loose ids) id:=fun id hn=>⟨rfl,rfl,fun _ _=>rfl,fun b p hk=>⟨Io.loose_k.2 ⟨hk,hn⟩,rfl⟩⟩
 have hg:∀ id,Goes w w ι (ι.loose ids) σ.h (updL σ.h (frz σ.h ids)) id:=by
  intro id
  by_cases hid:id∈ids
  ·unfold Goes
   rw [hget,if_pos hid]
   cases hx:σ.h id with
   | none=>exact .inl rfl
   | dead=>exact .inr (.inl rfl)
   | box cs=>exact .inr (.inr ⟨rfl,rfl,rfl,fun _ _=>rfl,fun g h=>(by cases h)⟩)
   | sl e sz m es=>exact .inr (.inr ⟨rfl,rfl,⟨rfl,rfl,rfl,Mo.le_fz m⟩,fun _ _=>rfl,fun g _ h=>(by cases h)⟩)
  ·exact (hrest id hid).goes (by rw [hget,if_neg hid])
 refine ⟨S.evolve S.fra (fun b hb=>⟨hF b hb,rfl⟩) hg (fun i cs hx=>by rw [hget,hx];split <;> simp [fzB]) (fun id=>?_) S.inj (fun i b hi=>?_) (fun i hi=>?_) (fun i b hi=>?_) (fun b id p hk=>?_),hF⟩
 rotate_left
 ·obtain ⟨h1,h2⟩:=S.rng i b hi
  refine ⟨h1.imp id fun ⟨h3,cs,h4⟩=>⟨h3,cs,?_⟩,h2⟩
  rw [hget,h4]
  split <;> rfl
 rotate_right
 ·by_cases hid:id∈ids
  ·right
   rw [hget,if_pos hid]
   have hb:=S.blk id
   cases hx:σ.h id with
   | none=>exact .none
   | dead=>exact .dead
   | box cs =>
    rw [hx] at hb
    cases hb with
    | box b e vals _ hi ho hb hl h1 hv=>exact .box b e vals cs hi ho hb hl h1 (fun k v x hk hxx=>(hv k v x hk hxx).mono (fun b hb=>⟨hF b hb,rfl⟩) hg)
   | sl e sz m es =>
    have hfl:=hfull id hid e sz m es hx
    rw [hx] at hb
    cases hb with
    | slnil _ _ _ hz hi=>exact .slnil e sz .fz hz hi
    | sl b _ e0 _ _ _ cur hz hi hb htc hle hml hsz hv =>
     refine .sl b e e0 sz .fz es cur hz hi hb (fun h=>(by cases h)) hle hml hsz (fun p q x d hx2 hd=>?_)
     obtain ⟨v,h5,h6⟩:=hv p q x d hx2 hd
     refine ⟨v,h5,h6.rd hfl hF (fun b' p' hk=>?_)⟩
     have L:=S.lab b' id p' hk
     refine ⟨L.lt,.inr L.fr,fun i hi=>absurd hi (L.ne i),?_⟩
     cases hkk:(ι.loose ids).k b' with
     | none=>rfl
     | some z =>
      obtain ⟨z,q⟩:=z
      obtain ⟨k1,k2⟩:=Io.loose_k.1 hkk
      rw [hk] at k1
      cases k1
      exact absurd hid k2
  ·left;exact ⟨by rw [hget,if_neg hid],hrest id hid⟩
 ·have:=S.fresh i hi
  rw [hget,this.1]
  refine ⟨?_,this.2⟩
  split <;> rfl
 ·have:=S.live i b hi
  rw [hget]
  split
  ·cases hx:σ.h i <;> simp_all [fzB]
  ·exact this
 ·obtain ⟨k1,k2⟩:=Io.loose_k.1 hk
  have L:=S.lab b id p k1
  refine ⟨L.pn,?_,L.fr,L.lt,L.ne⟩
  rw [hget,if_neg k2]
  exact L.dp
theorem AV.d_rd {C:Ctx} {U:Nat→Prop} {σ:St} {a:Act} {w:World} {ι:Io} (S:Sat C U σ a w ι) {F:Nat→Prop} (hF:∀ b,Fz C w ι σ.h b→F b) {v:Value} {x:AV} {d:D} (hv:VR w (Fz C w ι σ.h) ι σ.h v x) (hx:x.d σ.h=some d)
  (hown:∀ id b,id∈x.ref1→ι id=some b→F b) (hlab:∀ id b p,id∈x.ref1→ι.k b=some (id,p)→F b):Rd w F v d:=by
 cases hv with
 | u=>simp [AV.d] at hx
 | c v d hr=>simp [AV.d] at hx;subst hx;exact hr.mono (fun b hb=>⟨hF b hb,rfl⟩)
 | n sz=>simp [AV.d] at hx;subst hx;exact .nil _
 | rdead v sz id off len h1 hd=>simp [AV.d,hd] at hx
 | rnil id e sz m hi hh =>
  simp only [AV.d,hh] at hx
  split at hx
  ·simp at hx;subst hx;exact .nil _
  ·cases hx
 | remp ad cap id e sz m hi hh ht =>
  simp only [AV.d,hh] at hx
  split at hx
  ·simp at hx;subst hx;exact .emp _ _ _
  ·cases hx
 | r id off len b ao cap e sz m es hi hh hlen hcap ho htip =>
  simp only [AV.d,hh] at hx
  split at hx
  rotate_left
  ·cases hx
  rename_i hfull
  simp only [Option.some.injEq] at hx
  subst hx
  have hb:=S.blk id
  rw [hh] at hb
  have hwl:((es.drop off).take len).length=len:=by simp;omega
  have hwg:∀ (i:Nat) (el:List D),((es.drop off).take len)[i]? = some el→i<len∧es[off+i]? = some el:=by
   intro i el hel
   have hi:=(List.getElem?_eq_some_iff.1 hel).1
   rw [List.getElem?_take,if_pos (by omega),List.getElem?_drop] at hel
   exact ⟨by omega,hel⟩
  cases hb with
  | slnil _ _ _ hz hi'=>rw [hi] at hi';cases hi'
  | sl b' _ e0 _ _ _ cur hz hi' hbk htc hle hml hsz hvr =>
   rw [hi] at hi';cases hi'
   refine .sl b ao len cap sz _ (fun i j=>cur.getD (ι.o id+(off+i)*sz+j) undef) hwl hcap (by omega) (fun el he=>hsz el (List.mem_of_mem_drop (List.mem_of_mem_take he))) (fun _=>hown id b (by simp [AV.ref1]) hi) (fun i j el d h1 h2=>?_) (fun i j el d h1 h2=>?_)
   ·obtain ⟨h3,h4⟩:=hwg i el h1
    obtain ⟨v,h5,h6⟩:=hvr _ j el d h4 h2
    rw [ho (by omega),show ι.o id+off*sz+i*sz+j=ι.o id+(off+i)*sz+j by rw [Nat.add_mul];omega]
    rw [Qbb hbk h5]
    simp [Array.getD_eq_getD_getElem?,h5]
   ·obtain ⟨h3,h4⟩:=hwg i el h1
    obtain ⟨v,h5,h6⟩:=hvr _ j el d h4 h2
    have:cur.getD (ι.o id+(off+i)*sz+j) undef=v:=by simp [Array.getD_eq_getD_getElem?,h5]
    rw [this]
    exact h6.rd hfull hF (fun b p hk=>hlab id b p (by simp [AV.ref1]) hk)
 | pdead=>simp [AV.d] at hx
 | p=>simp [AV.d] at hx
 | q=>simp [AV.d] at hx
 | a=>simp [AV.d] at hx
 | t=>simp [AV.d] at hx
 | bqdead=>simp [AV.d] at hx
 | bq=>simp [AV.d] at hx
 | bdead v d' id g p h1 hd=>simp [AV.d,hd,Blk.genf] at hx
 | b v d' id g p e sz m es h1 hh hge hvv =>
  simp only [AV.d,hh] at hx
  split at hx
  ·rename_i hgen
   cases hx
   exact (hvv (Blk.genf_gen hgen)).1.rd (fun b p hk=>hlab id b p (by simp [AV.ref1]) hk)
  ·cases hx
theorem AV.ds_get {h:Nat→Blk}:∀ {xs:List AV} {ds:List D},AV.ds h xs=some ds→ds.length=xs.length∧∀ (k:Nat) (x:AV),xs[k]? = some x→∃ d,ds[k]? = some d∧x.d h=some d
 | [],ds,hx=>by simp [AV.ds] at hx;subst hx;simp
 | x::xs,ds,hx=>by
  simp only [AV.ds] at hx
  split at hx
  ·rename_i d ds' h1 h2
   cases hx
   obtain ⟨h3,h4⟩:=AV.ds_get h2
   refine ⟨by simp [h3],fun k y hk=>?_⟩
   cases k with
   | zero=>simp at hk;subst hk;exact ⟨d,rfl,h1⟩
   | succ k=>simp at hk;simpa using h4 k y hk
  ·cases hx
theorem Qbm:∀ {xs:List AV} {k:Nat} {x:AV} {id:Nat},xs[k]? = some x→id∈x.ref1→id∈AV.refsL xs
 | [],k,x,id,h,_=>by simp at h
 | y::ys,0,x,id,h,hi=>by simp at h;subst h;simp [AV.refsL,hi]
 | y::ys,k+1,x,id,h,hi=>by simp at h;simp [AV.refsL,Qbm h hi]
end Go.Proofs.YtdplaepmjogjjaaGreat.Am
namespace Go.Proofs.YtdplaepmjogjjaaGreat.Am
open Go Go.RowKit
theorem QHp {α:Type} {es:List α} {off len:Nat} (hlen:off+len≤es.length):((es.drop off).take len).length=len∧∀ (i:Nat) (el:α),((es.drop off).take len)[i]? = some el→i<len∧es[off+i]? = some el:=by
 have hwl:((es.drop off).take len).length=len:=by simp;omega
 refine ⟨hwl,fun i el hel=>?_⟩
 have hi:=(List.getElem?_eq_some_iff.1 hel).1
 rw [List.getElem?_take,if_pos (by omega),List.getElem?_drop] at hel
 exact ⟨by omega,hel⟩
def Io.merge (ι:Io) (id n i j off len:Nat):Io:=⟨upd ι.b n none,fun b=>if ι n=some b then some (id,[(i,j)]) else match ι.k b with
 | some (y,p)=>if y=n then (match p with
  | (a,c)::q=>if off≤a∧a<off+len then some (id,(i,j)::(a-off,c)::q) else none
  | []=>none) else some (y,p)
 | none=>none,ι.o⟩
section
variable {C:Ctx} {U U':Nat→Prop} {σ:St} {a:Act} {w:World} {ι:Io}
theorem QHm (S:Sat C U σ a w ι) {id n i j off len b y:Nat} {p:Pth} (hk:ι.k b=some (y,p)) (hy:y≠n):(ι.merge id n i j off len).k b=some (y,p):=by
 simp only [Io.merge]
 rw [if_neg ((S.lab b y p hk).ne n)]
 simp only [hk,if_neg hy]
theorem Qyu {id n i j off len b y:Nat} {p:Pth} (hk:(ι.merge id n i j off len).k b=some (y,p)) :
  (y≠n∧ι.k b=some (y,p)∧ι n≠some b)∨(y=id∧p≠[]∧(ι n=some b∨∃ p',ι.k b=some (n,p'))):=by
 simp only [Io.merge] at hk
 split at hk
 ·rename_i h1
  cases hk
  exact .inr ⟨rfl,by simp,.inl h1⟩
 ·rename_i h1
  split at hk
  rotate_left
  ·cases hk
  rename_i z q hz
  split at hk
  ·rename_i h2
   subst h2
   split at hk
   ·split at hk
    ·cases hk;exact .inr ⟨rfl,by simp,.inr ⟨_,hz⟩⟩
    ·cases hk
   ·cases hk
  ·rename_i h2
   cases hk
   exact .inl ⟨h2,hz,h1⟩
theorem RL.enter (S:Sat C U σ a w ι) {n off len sz':Nat} {e':TypeId} {g':Nat} {t':Bool} {es':List (List D)} {v:Value} {K':Nat→Option (Nat × Pth)} {id':Nat} {p':Pth} (hn:σ.h n = .sl e' sz' (.dp g' t' []) es')
  (hv:VR w (Fz C w ι σ.h) ι σ.h v (.r sz' n off len)) (h1:∀ b,ι n=some b→len≠0→K' b=some (id',p'))
  (h2:∀ b a c q,ι.k b=some (n,(off+a,c)::q)→a<len→K' b=some (id',p'++(a,c)::q)):RL w K' id' p' v (.sl sz' ((es'.drop off).take len)):=by
 cases hv with
 | rdead _ _ _ _ _ _ hd=>rw [hd] at hn;cases hn
 | rnil _ e sz m hi hh =>
  rw [hn] at hh;cases hh
  simp
  exact .nil _ _
 | remp ad cap _ e sz m hi hh ht =>
  rw [hn] at hh;cases hh
  simp
  exact .emp _ _ _ _
 | r _ _ _ b ao cap e sz m es hi hh hlen hcap ho htip =>
  rw [hn] at hh;cases hh
  by_cases h0:len=0
  ·subst h0
   simp
   exact .emp _ _ _ _
  have hb:=S.blk n
  rw [hn] at hb
  obtain ⟨hwl,hwg⟩:=QHp hlen
  cases hb with
  | slnil _ _ _ hz hi'=>rw [hi] at hi';cases hi'
  | sl b' _ e0 _ _ _ cur hz hi' hbk htc hle hml hsz hvr =>
   rw [hi] at hi';cases hi'
   have hao:=ho h0
   refine .sl p' b ao len cap sz' _ cur e0 (fun x y=>cur.getD (ι.o n+(off+x)*sz'+y) undef) hz (fun h=>by rw [h] at hwl;simp at hwl;omega) hwl hcap (by omega) (fun el he=>hsz el (List.mem_of_mem_drop (List.mem_of_mem_take he))) (h1 b hi h0) hbk ?_ (fun x y el d hx hd=>?_) (fun x y el d hx hd=>?_)
   ·rw [hao]
    have:(off+len)*sz'≤es'.length*sz':=Nat.mul_le_mul_right _ hlen
    rw [Nat.add_mul] at this
    omega
   ·obtain ⟨h3,h4⟩:=hwg x el hx
    obtain ⟨u,h5,h6⟩:=hvr _ y el d h4 hd
    rw [hao,show ι.o n+off*sz'+x*sz'+y=ι.o n+(off+x)*sz'+y by rw [Nat.add_mul];omega,h5]
    simp [Array.getD_eq_getD_getElem?,h5]
   ·obtain ⟨h3,h4⟩:=hwg x el hx
    obtain ⟨u,h5,h6⟩:=hvr _ y el d h4 hd
    have:cur.getD (ι.o n+(off+x)*sz'+y) undef=u:=by simp [Array.getD_eq_getD_getElem?,h5]
    rw [this]
    refine (h6.2 (by simp)).map _ (fun b q hk=>⟨?_,rfl⟩)
    have:=h2 b x y q hk h3
    simpa using this
theorem Sat.merge (S:Sat C U σ a w ι) {id n i j sz sz' off len g g':Nat} {t t':Bool} {H:Pth} {e e':TypeId} {es es':List (List D)} {x:List D} {v:Value}
  (hid:σ.h id = .sl e sz (.dp g t ((i,j)::H)) es) (hn:σ.h n = .sl e' sz' (.dp g' t' []) es') (hne:n≠id)
  (hcell:∃ bk cur e0,ι id=some bk∧w.heap[bk]? = some (.cells cur e0 (0,0))∧cur[ι.o id+i*sz+j]? = some v) (hv:VR w (Fz C w ι σ.h) ι σ.h v (.r sz' n off len))
  (hx:es[i]? = some x) (hxj:x[j]? = some (.sl sz' ((es'.drop off).take len))) :
  Sat C U ⟨σ.t,upd (upd σ.h n .dead) id (.sl e sz (.dp g t H) es),σ.nx⟩ a w (ι.merge id n i j off len) ∧
  (∀ b,Fz C w ι σ.h b→Fz C w (ι.merge id n i j off len) (upd (upd σ.h n .dead) id (.sl e sz (.dp g t H) es)) b) ∧
  ∀ y,Goes w w ι (ι.merge id n i j off len) σ.h (upd (upd σ.h n .dead) id (.sl e sz (.dp g t H) es)) y:=by
 have hb1:∀ y b,(ι.merge id n i j off len) y=some b→y≠n∧ι y=some b:=by
  intro y b hy
  simp only [Io.merge,upd] at hy
  split at hy
  ·cases hy
  ·rename_i h;exact ⟨h,hy⟩
 have hb2:∀ y,y≠n→(ι.merge id n i j off len) y=ι y:=fun y hy=>Qq _ _ _ _ hy
 have hkin:∀ y,y≠n→Kin w w ι (ι.merge id n i j off len) y:=fun y hy b p hk=>⟨QHm S hk hy,rfl⟩
 have hrest:∀ y,y≠n→Rest w w ι (ι.merge id n i j off len) y:=fun y hy=>⟨hb2 y hy,rfl,fun _ _=>rfl,hkin y hy⟩
 have hnown:(σ.h n).own=true:=by rw [hn];rfl
 have hidown:(σ.h id).own=true:=by rw [hid];rfl
 obtain ⟨h',hh'⟩:∃ h',h'=upd (upd σ.h n .dead) id (.sl e sz (.dp g t H) es):=⟨_,rfl⟩
 have e1:h' id = .sl e sz (.dp g t H) es:=by rw [hh',Qu]
 have e2:h' n = .dead:=by rw [hh',Qq _ _ _ _ hne,Qu]
 have e3:∀ y,y≠n→y≠id→h' y=σ.h y:=fun y h1 h2=>by rw [hh',Qq _ _ _ _ h2,Qq _ _ _ _ h1]
 rw [← hh']
 have hF:∀ b,Fz C w ι σ.h b→Fz C w (ι.merge id n i j off len) h' b:=by
  intro b ⟨h1,h2,h3,h4⟩
  refine ⟨h1,h2,fun y hy=>?_,?_⟩
  ·obtain ⟨k1,k2⟩:=hb1 y b hy
   have:=h3 y k2
   by_cases hy2:y=id
   ·subst hy2;rw [hidown] at this;cases this
   ·rw [e3 y k1 hy2];exact this
  ·simp only [Io.merge]
   rw [if_neg (fun hnb=>by have:=h3 n hnb;rw [hnown] at this;cases this)]
   rw [h4]
 have hg:∀ y,Goes w w ι (ι.merge id n i j off len) σ.h h' y:=by
  intro y
  by_cases h1:y=n
  ·subst h1;exact .inr (.inl e2)
  by_cases h2:y=id
  ·subst h2
   unfold Goes
   rw [e1,hid]
   exact .inr (.inr ⟨hb2 y h1,rfl,⟨rfl,rfl,rfl,⟨fun h=>h,fun g h=>⟨g,h,Nat.le_refl _⟩⟩⟩,fun _ _=>rfl,fun _ _ _=>⟨fun _ _=>rfl,hkin y h1⟩⟩)
  ·exact (hrest y h1).goes (e3 y h1 h2)
 refine ⟨S.evolve S.fra (fun b hb=>⟨hF b hb,rfl⟩) hg (fun y cs hb=>?_) (fun y=>?_) (fun y z b hy hz=>?_) (fun y b hy=>?_) (fun y hy=>?_) (fun y b hy=>?_) (fun b y p hk=>?_),hF,hg⟩
 ·by_cases h1:y=n
  ·subst h1;rw [hn] at hb;cases hb
  by_cases h2:y=id
  ·subst h2;rw [hid] at hb;cases hb
  rw [e3 y h1 h2,hb];simp
 ·by_cases h1:y=n
  ·subst h1;right;rw [e2];exact .dead
  by_cases h2:y=id
  ·subst h2
   right
   rw [e1]
   have hb:=S.blk y
   rw [hid] at hb
   cases hb with
   | slnil=>simp at hx
   | sl bk _ e0 _ _ _ cur hz hi hbk htc hle hml hsz hvr =>
    refine .sl bk e e0 sz _ es cur hz ((hb2 y h1).trans hi) hbk htc hle hml hsz (fun p q el d hel hd=>?_)
    obtain ⟨u,h5,h6,h7⟩:=hvr p q el d hel hd
    refine ⟨u,h5,h6,fun hnot=>?_⟩
    by_cases hpq:(p,q)=(i,j)
    ·cases hpq
     rw [hx] at hel
     cases hel
     rw [hxj] at hd
     cases hd
     obtain ⟨bk',cur',e0',c1,c2,c3⟩:=hcell
     rw [hi] at c1
     cases c1
     rw [hbk] at c2
     cases c2
     rw [h5] at c3
     cases c3
     refine RL.enter S hn hv (fun b hb _=>?_) (fun b x c q hk hlt=>?_)
     ·simp only [Io.merge];rw [if_pos hb]
     ·simp only [Io.merge]
      rw [if_neg ((S.lab b n _ hk).ne n),hk]
      simp only [if_true]
      rw [if_pos ⟨by omega,by omega⟩,show off+x-off=x by omega]
      rfl
    ·exact (h7 (by simp only [List.mem_cons,not_or];exact ⟨hpq,hnot⟩)).mono (hkin y h1)
  ·left;exact ⟨e3 y h1 h2,hrest y h1⟩
 ·exact S.inj y z b (hb1 y b hy).2 (hb1 z b hz).2
 ·obtain ⟨h1,h2⟩:=hb1 y b hy
  obtain ⟨h3,h4⟩:=S.rng y b h2
  refine ⟨h3.imp (fun h=>h) fun ⟨h5,cs,h6⟩=>⟨h5,cs,?_⟩,h4⟩
  by_cases h7:y=id
  ·subst h7;rw [hid] at h6;cases h6
  ·rw [e3 y h1 h7];exact h6
 ·obtain ⟨h1,h2⟩:=S.fresh y hy
  have h3:y≠n:=fun h=>by subst h;rw [hn] at h1;cases h1
  have h4:y≠id:=fun h=>by subst h;rw [hid] at h1;cases h1
  rw [e3 y h3 h4,hb2 y h3]
  exact ⟨h1,h2⟩
 ·obtain ⟨h1,h2⟩:=hb1 y b hy
  by_cases h7:y=id
  ·subst h7;rw [e1];simp
  ·rw [e3 y h1 h7];exact S.live y b h2
 ·rcases Qyu hk with ⟨h1,h2,h3⟩ | ⟨rfl,h2,h3⟩
  ·have L:=S.lab b y p h2
   refine ⟨L.pn,?_,L.fr,L.lt,fun z hz=>L.ne z (hb1 z b hz).2⟩
   by_cases h7:y=id
   ·subst h7;rw [e1];exact ⟨_,_,_,_,_,_,rfl⟩
   ·rw [e3 y h1 h7];exact L.dp
  ·rcases h3 with h3 | ⟨p',h3⟩
   ·obtain ⟨h4,h5⟩:=S.rng n b h3
    refine ⟨h2,by rw [e1];exact ⟨_,_,_,_,_,_,rfl⟩,h4.elim (fun h=>h) (fun ⟨_,cs,h⟩=>by rw [hn] at h;cases h),h5,fun z hz=>?_⟩
    obtain ⟨k1,k2⟩:=hb1 z b hz
    exact k1 (S.inj z n b k2 h3)
   ·have L:=S.lab b n p' h3
    exact ⟨h2,by rw [e1];exact ⟨_,_,_,_,_,_,rfl⟩,L.fr,L.lt,fun z hz=>L.ne z (hb1 z b hz).2⟩
theorem Sat.reset (S:Sat C U σ a w ι) {id sz g:Nat} {t:Bool} {H:Pth} {e:TypeId} {es es2:List (List D)} (hid:σ.h id = .sl e sz (.dp g t H) es) (hl:es2.length=es.length) (hsz2:∀ x,x∈es2→x.length=sz)
  (hsame:∀ p q x d,es2[p]? = some x→x[q]? = some d→(p,q)∉H→∃ y,es[p]? = some y∧y[q]? = some d) :
  Sat C U ⟨σ.t,upd σ.h id (.sl e sz (.dp g t H) es2),σ.nx⟩ a w ι∧(∀ b,Fz C w ι σ.h b→Fz C w ι (upd σ.h id (.sl e sz (.dp g t H) es2)) b) ∧
  ∀ y,Goes w w ι ι σ.h (upd σ.h id (.sl e sz (.dp g t H) es2)) y:=by
 obtain ⟨h',hh'⟩:∃ h',h'=upd σ.h id (.sl e sz (.dp g t H) es2):=⟨_,rfl⟩
 have e1:h' id = .sl e sz (.dp g t H) es2:=by rw [hh',Qu]
 have e3:∀ y,y≠id→h' y=σ.h y:=fun y h2=>by rw [hh',Qq _ _ _ _ h2]
 have hrest:∀ y,Rest w w ι ι y:=fun y=>⟨rfl,rfl,fun _ _=>rfl,fun b p hk=>⟨hk,rfl⟩⟩
 rw [← hh']
 have hF:∀ b,Fz C w ι σ.h b→Fz C w ι h' b:=by
  intro b ⟨h1,h2,h3,h4⟩
  refine ⟨h1,h2,fun y hy=>?_,h4⟩
  have:=h3 y hy
  by_cases hy2:y=id
  ·subst hy2;rw [hid] at this;cases this
  ·rw [e3 y hy2];exact this
 have hg:∀ y,Goes w w ι ι σ.h h' y:=by
  intro y
  by_cases h2:y=id
  ·subst h2
   unfold Goes
   rw [e1,hid]
   exact .inr (.inr ⟨rfl,rfl,⟨rfl,rfl,hl,⟨fun h=>h,fun g h=>⟨g,h,Nat.le_refl _⟩⟩⟩,fun _ _=>rfl,fun _ _ _=>⟨fun _ _=>rfl,fun b p hk=>⟨hk,rfl⟩⟩⟩)
  ·exact (hrest y).goes (e3 y h2)
 refine ⟨S.evolve S.fra (fun b hb=>⟨hF b hb,rfl⟩) hg (fun y cs hb=>?_) (fun y=>?_) S.inj (fun y b hy=>?_) (fun y hy=>?_) (fun y b hy=>?_) (fun b y p hk=>?_),hF,hg⟩
 ·by_cases h2:y=id
  ·subst h2;rw [hid] at hb;cases hb
  rw [e3 y h2,hb];simp
 ·by_cases h2:y=id
  ·subst h2
   right
   rw [e1]
   have hb:=S.blk y
   rw [hid] at hb
   cases hb with
   | slnil _ _ _ hz hi =>
    have:es2=[]:=List.eq_nil_of_length_eq_zero (by simpa using hl)
    subst this
    exact .slnil e sz _ hz hi
   | sl bk _ e0 _ _ _ cur hz hi hbk htc hle hml hsz hvr =>
    refine .sl bk e e0 sz _ es2 cur hz hi hbk (fun h=>by rw [hl];exact htc h) (by rw [hl];exact hle) (by rw [hl];exact hml) hsz2 (fun p q el d hel hd=>?_)
    have hpl:p<es.length:=by rw [← hl];exact (List.getElem?_eq_some_iff.1 hel).1
    have hql:q<sz:=by rw [← hsz2 el (List.mem_of_getElem? hel)];exact (List.getElem?_eq_some_iff.1 hd).1
    have hq2:q<es[p].length:=by rw [hsz _ (List.getElem_mem hpl)];exact hql
    obtain ⟨u,h5,h6,h7⟩:=hvr p q es[p] _ (List.getElem?_eq_getElem hpl) (List.getElem?_eq_getElem hq2)
    refine ⟨u,h5,h6,fun hnot=>?_⟩
    obtain ⟨y',k1,k2⟩:=hsame p q el d hel hd hnot
    obtain ⟨u',h5',h6',h7'⟩:=hvr p q y' d k1 k2
    rw [h5] at h5'
    cases h5'
    exact h7' hnot
  ·left;exact ⟨e3 y h2,hrest y⟩
 ·obtain ⟨h3,h4⟩:=S.rng y b hy
  refine ⟨h3.imp (fun h=>h) fun ⟨h5,cs,h6⟩=>⟨h5,cs,?_⟩,h4⟩
  by_cases h7:y=id
  ·subst h7;rw [hid] at h6;cases h6
  ·rw [e3 y h7];exact h6
 ·obtain ⟨h1,h2⟩:=S.fresh y hy
  have h4:y≠id:=fun h=>by subst h;rw [hid] at h1;cases h1
  rw [e3 y h4]
  exact ⟨h1,h2⟩
 ·by_cases h7:y=id
  ·subst h7;rw [e1];simp
  ·rw [e3 y h7];exact S.live y b hy
 ·have L:=S.lab b y p hk
  refine ⟨L.pn,?_,L.fr,L.lt,L.ne⟩
  by_cases h7:y=id
  ·subst h7;rw [e1];exact ⟨_,_,_,_,_,_,rfl⟩
  ·rw [e3 y h7];exact L.dp
def Io.carve (ι:Io) (id n i j:Nat) (r:Option Nat) (o:Nat):Io:=⟨upd ι.b n r,fun b=>if r=some b then none else match ι.k b with
 | some (y,p)=>if y=id then (match p with
  | c::q=>if c=(i,j) then (match q with | []=>none | _::_=>some (n,q)) else some (y,p)
  | []=>some (y,p)) else some (y,p)
 | none=>none,upd ι.o n o⟩
theorem Qqd {id n i j o b y:Nat} {r:Option Nat} {p:Pth} (hk:ι.k b=some (y,p)) (hr:r≠some b) (hy:y≠id∨∃ c q,p=c::q∧c≠(i,j)):(ι.carve id n i j r o).k b=some (y,p):=by
 simp only [Io.carve]
 rw [if_neg hr,hk]
 simp only
 by_cases h:y=id
 ·rcases hy with hy | ⟨c,q,rfl,hc⟩
  ·exact absurd h hy
  ·rw [if_pos h];simp only;rw [if_neg hc]
 ·rw [if_neg h]
theorem QA6 {id n i j o b y:Nat} {r:Option Nat} {p:Pth} (hk:(ι.carve id n i j r o).k b=some (y,p)):r≠some b∧(ι.k b=some (y,p)∨(y=n∧p≠[]∧ι.k b=some (id,(i,j)::p))):=by
 simp only [Io.carve] at hk
 split at hk
 ·cases hk
 rename_i h0
 refine ⟨h0,?_⟩
 split at hk
 rotate_left
 ·cases hk
 rename_i z q hz
 split at hk
 rotate_left
 ·cases hk;exact .inl hz
 rename_i h1
 subst h1
 split at hk
 rotate_left
 ·cases hk;exact .inl hz
 rename_i c q'
 split at hk
 rotate_left
 ·cases hk;exact .inl hz
 rename_i h2
 subst h2
 split at hk
 ·cases hk
 ·cases hk;exact .inr ⟨rfl,by simp,hz⟩
theorem Sat.carve (S:Sat C U σ a w ι) {id n i j sz sz' g:Nat} {t:Bool} {e:TypeId} {es es':List (List D)} {x:List D} {v:Value} (hid:σ.h id = .sl e sz (.dp g t []) es) (hx:es[i]? = some x) (hxj:x[j]? = some (.sl sz' es')) (hz':0<sz')
  (hU:U n) (hU':∀ i,U' i→U i∧i≠n) (hcell:∃ bk cur e0,ι id=some bk∧w.heap[bk]? = some (.cells cur e0 (0,0))∧cur[ι.o id+i*sz+j]? = some v) :
  ∃ ι',Sat C U' ⟨σ.t,upd (upd σ.h n (.sl 0 sz' (.dp 0 false []) es')) id (.sl e sz (.dp (g+1) t [(i,j)]) es),σ.nx⟩ a w ι' ∧
   VR w (Fz C w ι' (upd (upd σ.h n (.sl 0 sz' (.dp 0 false []) es')) id (.sl e sz (.dp (g+1) t [(i,j)]) es))) ι' (upd (upd σ.h n (.sl 0 sz' (.dp 0 false []) es')) id (.sl e sz (.dp (g+1) t [(i,j)]) es)) v (.r sz' n 0 es'.length) ∧
   ι' id=ι id∧ι'.o id=ι.o id∧(∀ b,Fz C w ι σ.h b→Fz C w ι' (upd (upd σ.h n (.sl 0 sz' (.dp 0 false []) es')) id (.sl e sz (.dp (g+1) t [(i,j)]) es)) b) ∧
   ∀ y,Goes w w ι ι' σ.h (upd (upd σ.h n (.sl 0 sz' (.dp 0 false []) es')) id (.sl e sz (.dp (g+1) t [(i,j)]) es)) y:=by
 obtain ⟨hn1,hn2⟩:=S.fresh n hU
 have hne:n≠id:=fun h=>by subst h;rw [hn1] at hid;cases hid
 obtain ⟨bk,cur,e0,c1,c2,c3⟩:=hcell
 have hbid:=S.blk id
 rw [hid] at hbid
 cases hbid with
 | slnil=>simp at hx
 | sl bk' _ e0' _ _ _ cur' hz hi hbk htc hle hml hsz hvr =>
 rw [c1] at hi;cases hi
 rw [c2] at hbk;cases hbk
 obtain ⟨u,h5,h6,h7⟩:=hvr i j x _ hx hxj
 rw [c3] at h5;cases h5
 have hrl:=h7 (by simp)
 obtain ⟨h',hh'⟩:∃ h',h'=upd (upd σ.h n (.sl 0 sz' (.dp 0 false []) es')) id (.sl e sz (.dp (g+1) t [(i,j)]) es):=⟨_,rfl⟩
 have e1:h' id = .sl e sz (.dp (g+1) t [(i,j)]) es:=by rw [hh',Qu]
 have e2:h' n = .sl 0 sz' (.dp 0 false []) es':=by rw [hh',Qq _ _ _ _ hne,Qu]
 have e3:∀ y,y≠n→y≠id→h' y=σ.h y:=fun y h1 h2=>by rw [hh',Qq _ _ _ _ h2,Qq _ _ _ _ h1]
 rw [← hh']
 have key:∀ (r:Option Nat) (o:Nat),(∀ b,r=some b→ι.k b=some (id,[(i,j)])) →
   BR w (Fz C w (ι.carve id n i j r o) h') (ι.carve id n i j r o) h' n (h' n)→VR w (Fz C w (ι.carve id n i j r o) h') (ι.carve id n i j r o) h' v (.r sz' n 0 es'.length) →
   ∃ ι',Sat C U' ⟨σ.t,h',σ.nx⟩ a w ι'∧VR w (Fz C w ι' h') ι' h' v (.r sz' n 0 es'.length)∧ι' id=ι id∧ι'.o id=ι.o id∧(∀ b,Fz C w ι σ.h b→Fz C w ι' h' b)∧∀ y,Goes w w ι ι' σ.h h' y:=by
  intro r o hr hBR hVR
  have hb2:∀ y,y≠n→(ι.carve id n i j r o) y=ι y:=fun y hy=>Qq _ _ _ _ hy
  have ho2:∀ y,y≠n→(ι.carve id n i j r o).o y=ι.o y:=fun y hy=>Qq _ _ _ _ hy
  have hbn:(ι.carve id n i j r o) n=r:=Qu _ _ _
  have hkin:∀ y,y≠id→Kin w w ι (ι.carve id n i j r o) y:=fun y hy b p hk=>⟨Qqd hk (fun h=>by rw [hr b h] at hk;cases hk;exact hy rfl) (.inl hy),rfl⟩
  have hrest:∀ y,y≠n→y≠id→Rest w w ι (ι.carve id n i j r o) y:=fun y hy hy2=>⟨hb2 y hy,ho2 y hy,fun _ _=>rfl,hkin y hy2⟩
  have hF:∀ b,Fz C w ι σ.h b→Fz C w (ι.carve id n i j r o) h' b:=by
   intro b ⟨h1,h2,h3,h4⟩
   refine ⟨h1,h2,fun y hy=>?_,?_⟩
   ·by_cases h8:y=n
    ·subst h8
     rw [hbn] at hy
     rw [hr b hy] at h4
     cases h4
    ·rw [hb2 y h8] at hy
     have:=h3 y hy
     by_cases h9:y=id
     ·subst h9;rw [hid] at this;cases this
     ·rw [e3 y h8 h9];exact this
   ·simp only [Io.carve]
    split
    ·rfl
    ·rw [h4]
  have hg:∀ y,Goes w w ι (ι.carve id n i j r o) σ.h h' y:=by
   intro y
   by_cases h1:y=n
   ·subst h1;exact .inl hn1
   by_cases h2:y=id
   ·subst h2
    unfold Goes
    rw [e1,hid]
    exact .inr (.inr ⟨hb2 y h1,ho2 y h1,⟨rfl,rfl,rfl,⟨fun h=>h,fun g' h=>⟨g,rfl,by cases h;omega⟩⟩⟩,fun _ _=>rfl,fun g' h h'=>by cases h;cases h'⟩)
   ·exact (hrest y h1 h2).goes (e3 y h1 h2)
  refine ⟨ι.carve id n i j r o,S.evolve S.fra (fun b hb=>⟨hF b hb,rfl⟩) hg (fun y cs hb=>?_) (fun y=>?_) (fun y z b hy hz=>?_) (fun y b hy=>?_) (fun y hy=>?_) (fun y b hy=>?_) (fun b y p hk=>?_),hVR,hb2 id hne.symm,ho2 id hne.symm,hF,hg⟩
  ·by_cases h1:y=n
   ·subst h1;rw [hn1] at hb;cases hb
   by_cases h2:y=id
   ·subst h2;rw [hid] at hb;cases hb
   rw [e3 y h1 h2,hb];simp
  ·by_cases h1:y=n
   ·subst h1;right;exact hBR
   by_cases h2:y=id
   ·subst h2
    right
    rw [e1]
    refine .sl bk e e0 sz _ es cur hz ((hb2 y h1).trans c1) c2 (fun h=>by rw [ho2 y h1];exact htc h) (by rw [ho2 y h1];exact hle) hml hsz (fun p q el d hel hd=>?_)
    obtain ⟨u,h5,h6,h7⟩:=hvr p q el d hel hd
    refine ⟨u,by rw [ho2 y h1];exact h5,h6,fun hnot=>(h7 (by simp)).map _ fun b q' hk=>⟨?_,rfl⟩⟩
    have hpq:(p,q)≠(i,j):=by simpa using hnot
    exact Qqd hk (fun h=>by rw [hr b h] at hk;simp at hk;exact hpq (by rw [Prod.mk.injEq];exact ⟨hk.1.1.symm,hk.1.2.symm⟩)) (.inr ⟨(p,q),q',rfl,hpq⟩)
   ·left;exact ⟨e3 y h1 h2,hrest y h1 h2⟩
  ·by_cases h1:y=n
   ·subst h1
    by_cases h2:z=y
    ·exact h2.symm
    ·rw [hbn] at hy;rw [hb2 z h2] at hz
     exact absurd hz ((S.lab b id _ (hr b hy)).ne z)
   ·rw [hb2 y h1] at hy
    by_cases h2:z=n
    ·subst h2
     rw [hbn] at hz
     exact absurd hy ((S.lab b id _ (hr b hz)).ne y)
    ·rw [hb2 z h2] at hz
     exact S.inj y z b hy hz
  ·by_cases h1:y=n
   ·subst h1
    rw [hbn] at hy
    have L:=S.lab b id _ (hr b hy)
    exact ⟨.inl L.fr,L.lt⟩
   ·rw [hb2 y h1] at hy
    obtain ⟨h3,h4⟩:=S.rng y b hy
    refine ⟨h3.imp (fun h=>h) fun ⟨h5,cs,h6⟩=>⟨h5,cs,?_⟩,h4⟩
    by_cases h7:y=id
    ·subst h7;rw [hid] at h6;cases h6
    ·rw [e3 y h1 h7];exact h6
  ·obtain ⟨h1,h2⟩:=hU' y hy
   obtain ⟨h3,h4⟩:=S.fresh y h1
   have h5:y≠id:=fun h=>by subst h;rw [hid] at h3;cases h3
   rw [e3 y h2 h5,hb2 y h2]
   exact ⟨h3,h4⟩
  ·by_cases h1:y=n
   ·subst h1;rw [e2];simp
   ·rw [hb2 y h1] at hy
    by_cases h7:y=id
    ·subst h7;rw [e1];simp
    ·rw [e3 y h1 h7];exact S.live y b hy
  ·obtain ⟨h0,h1⟩:=QA6 hk
   have hne2:∀ L:(∀ z,ι z≠some b),∀ z,(ι.carve id n i j r o) z≠some b:=fun L z hz=>by
    by_cases h1:z=n
    ·subst h1;rw [hbn] at hz;exact h0 hz
    ·rw [hb2 z h1] at hz;exact L z hz
   rcases h1 with h1 | ⟨rfl,h2,h1⟩
   ·have L:=S.lab b y p h1
    refine ⟨L.pn,?_,L.fr,L.lt,hne2 L.ne⟩
    have h8:y≠n:=fun h=>by subst h;obtain ⟨_,_,_,_,_,_,h9⟩:=L.dp;rw [hn1] at h9;cases h9
    by_cases h7:y=id
    ·subst h7;rw [e1];exact ⟨_,_,_,_,_,_,rfl⟩
    ·rw [e3 y h8 h7];exact L.dp
   ·have L:=S.lab b id _ h1
    exact ⟨h2,by rw [e2];exact ⟨_,_,_,_,_,_,rfl⟩,L.fr,L.lt,hne2 L.ne⟩
 cases hrl with
 | nil =>
  refine key none 0 (by simp) ?_ (.rnil n 0 sz' _ (Qu _ _ _) e2)
  rw [e2]
  exact .slnil 0 sz' _ hz' (Qu _ _ _)
 | emp _ ad cap =>
  refine key none 0 (by simp) ?_ (.remp ad cap n 0 sz' _ (Qu _ _ _) e2 rfl)
  rw [e2]
  exact .slnil 0 sz' _ hz' (Qu _ _ _)
 | sl _ b0 o0 len cap _ _ cur0 e00 xv hz0 hne0 hlen hcap hml0 hsz0 hk0 hb0 hle0 hc0 hr0 =>
  have ho0:(ι.carve id n i j (some b0) o0).o n=o0:=Qu _ _ _
  refine key (some b0) o0 (fun b h=>by cases h;exact hk0) ?_ ?_
  ·rw [e2]
   refine .sl b0 0 e00 sz' _ es' cur0 hz' (Qu _ _ _) hb0 (fun h=>by cases h) (by rw [ho0,hlen];exact hle0) (by omega) hsz0 (fun p q el d hel hd=>⟨xv p q,by rw [ho0];exact hc0 p q el d hel hd,(hr0 p q el d hel hd).one,fun _=>?_⟩)
   refine (hr0 p q el d hel hd).map _ fun b q' hk=>⟨?_,rfl⟩
   simp only [Io.carve]
   rw [if_neg (fun h=>by cases h;rw [hk0] at hk;simp at hk)]
   have hk:ι.k b=some (id,(i,j)::((p,q)::q')):=by simpa using hk
   rw [hk]
   simp
  ·rw [hlen]
   refine .r n 0 len b0 o0 cap 0 sz' _ es' (Qu _ _ _) e2 (by omega) hcap (fun _=>by rw [ho0];simp) (fun h=>by cases h)
end
end Go.Proofs.YtdplaepmjogjjaaGreat.Am

