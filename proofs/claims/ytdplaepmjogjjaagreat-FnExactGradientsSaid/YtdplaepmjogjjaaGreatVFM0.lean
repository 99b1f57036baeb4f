/- -/
import Derived.WalkKit
import Derived.KernelRfl
set_option linter.all false
namespace Go.Proofs.YtdplaepmjogjjaaGreat.Am
open Go Go.RowKit
inductive D where
 | v (x:Value)
 | sl (sz:Nat) (es:List (List D))
abbrev cM:=List (Nat × Nat)
inductive Mo where
 | fz
 | ow
 | dp (g:Nat) (t:Bool) (H:cM)
def Mo.own:Mo->Bool
 | .fz=>false
 | _=>true
def Mo.fw:Mo->Bool
 | .fz=>false
 | .ow=>true
 | .dp _ t _=>t
def Mo.gen:Mo->Option Nat
 | .dp g _ _=>some g
 | _=>none
def Mo.full:Mo->Bool
 | .dp _ _ (_::_)=>false
 | _=>true
structure Mo.le(m m':Mo):Prop where
 fw:m'.fw=true->m.fw=true
 gen:∀ g',m'.gen=some g'->∃ g,m.gen=some g/\g<=g'
theorem Mo.le.refl(m:Mo):Mo.le m m:=⟨λh=>h,λg h=>⟨g,h,Nat.le_refl _⟩⟩
theorem Mo.le.trans{a b c:Mo}(h:Mo.le a b)(h':Mo.le b c):Mo.le a c :=
 ⟨λe=>h.fw (h'.fw e),λg e=>let⟨g1,h1,h2⟩:=h'.gen g e;let⟨g2,h3,h4⟩:=h.gen g1 h1;⟨g2,h3,Nat.le_trans h4 h2⟩⟩
theorem Mo.qA(m:Mo):Mo.le m .fz:=⟨λh=>(by cases h),λg h=>(by cases h)⟩
inductive AV where
 | u
 | c (d:D)
 | n (sz:Nat)
 | r (sz id off len:Nat)
 | p (id i j:Nat)
 | q (cs:List D) (j:Nat)
 | a (cs:List AV)
 | t (vs:List AV)
 | bx (cs:List AV)
 | ow (e:TypeId) (sz:Nat) (m:Mo) (es:List (List D))
 | b (d:D) (id g:Nat) (p:cM)
 | bq (cs:List D) (j id g:Nat) (p:cM) (i:Nat)
inductive aX where
 | none
 | dead
 | box (cs:List AV)
 | sl (e:TypeId) (sz:Nat) (m:Mo) (es:List (List D))
structure St where
 t:Nat->AV
 h:Nat->aX
 nx:Nat
def bN{α:Type}(f:Nat->α)(i:Nat)(x:α):Nat->α:=λj=>if j=i then x else f j
theorem QQ{α:Type}(f:Nat->α)(i:Nat)(x:α):bN f i x i=x:=by simp[bN]
theorem QK{α:Type}(f:Nat->α)(i j:Nat)(x:α)(h:j≠i):bN f i x j=f j:=by simp[bN,h]
structure Io where
 b:Nat->Option Nat
 k:Nat->Option (Nat × cM)
 o:Nat->Nat
instance:CoeFun Io λ_=>Nat->Option Nat:=⟨Io.b⟩
def Io.up(ι:Io)(i:Nat)(x:Option Nat)(o:Nat):Io:=⟨bN ι.b i x,ι.k,bN ι.o i o⟩
theorem Io.cH(ι:Io)(i:Nat)(x:Option Nat)(o:Nat):(ι.up i x o) i=x:=QQ _ _ _
theorem Io.gr(ι:Io)(i j:Nat)(x:Option Nat)(o:Nat)(h:j≠i):(ι.up i x o) j=ι j:=QK _ _ _ _ h
theorem Io.cj(ι:Io)(i:Nat)(x:Option Nat)(o:Nat):(ι.up i x o).o i=o:=QQ _ _ _
theorem Io.so(ι:Io)(i j:Nat)(x:Option Nat)(o:Nat)(h:j≠i):(ι.up i x o).o j=ι.o j:=QK _ _ _ _ h
inductive Rd(w:World)(F:Nat->Prop):Value->D->Prop where
 | v (x:Value) (h:x.oneCell'=true):Rd w F x (.v x)
 | nil (sz:Nat):Rd w F (.slice none 0 0) (.sl sz [])
 | emp (a:Addr) (cap sz:Nat):Rd w F (.slice (some a) 0 cap) (.sl sz [])
 | sl (b o len cap sz:Nat) (es:List (List D)) (x:Nat->Nat->Value) (hlen:es.length=len) (cr:len<=cap) (dj:len<=maxLen) (b7:∀ e,e∈es->e.length=sz) (hb:es≠[]->F b)
   (hc:∀ i j e d,es[i]? = some e->e[j]? = some d->w.cell? ⟨b,o+i*sz+j,Option.none⟩=some (x i j))
   (hr:∀ i j e d,es[i]? = some e->e[j]? = some d->Rd w F (x i j) d):Rd w F (.slice (some ⟨b,o,Option.none⟩) len cap) (.sl sz es)
theorem Rd.one{w:World}{F:Nat->Prop}{v:Value}{d:D}(h:Rd w F v d):v.oneCell'=true:=by
 cases h with
 | v x h=>exact h
 | nil=>rfl
 | emp=>rfl
 | sl=>rfl
theorem Rd.mono{w w':World}{F F':Nat->Prop}(hF:∀ b,F b->F' b/\w'.heap[b]? = w.heap[b]?){v:Value}{d:D}(h:Rd w F v d):Rd w' F' v d:=by
 induction h with
 | v x h=>exact .v x h
 | nil sz=>exact .nil sz
 | emp a cap sz=>exact .emp a cap sz
 | sl b o len cap sz es x hlen cr dj b7 hb hc hr ih =>
  refine .sl b o len cap sz es x hlen cr dj b7 (λhn=>(hF b (hb hn)).1) (λi j e d he hd=>?_) ih;rw[World.cell?_of_block (w:=w) (w':=w') (a:=⟨b,_,Option.none⟩) (hF b (hb (λh0=>by rw[h0]at he;simp at he))).2];exact hc i j e d he hd
inductive RL(w:World)(K:Nat->Option (Nat × cM))(id:Nat):cM->Value->D->Prop where
 | v (p:cM) (x:Value) (h:x.oneCell'=true):RL w K id p x (.v x)
 | nil (p:cM) (sz:Nat):RL w K id p (.slice none 0 0) (.sl sz [])
 | emp (p:cM) (a:Addr) (cap sz:Nat):RL w K id p (.slice (some a) 0 cap) (.sl sz [])
 | sl (p:cM) (b o len cap sz:Nat) (es:List (List D)) (cur:Array Value) (e0:TypeId) (x:Nat->Nat->Value) (hz:0<sz) (dk:es≠[]) (hlen:es.length=len) (cr:len<=cap) (dj:len<=maxLen) (b7:∀ e,e∈es->e.length=sz)
   (hk:K b=some (id,p)) (hb:w.heap[b]? = some (.cells cur e0 (0,0))) (hle:o+len*sz<=cur.size)
   (hc:∀ i j e d,es[i]? = some e->e[j]? = some d->cur[o+i*sz+j]? = some (x i j))
   (hr:∀ i j e d,es[i]? = some e->e[j]? = some d->RL w K id (p++[(i,j)]) (x i j) d):RL w K id p (.slice (some ⟨b,o,Option.none⟩) len cap) (.sl sz es)
theorem RL.one{w:World}{K:Nat->Option (Nat × cM)}{id:Nat}{p:cM}{v:Value}{d:D}(h:RL w K id p v d):v.oneCell'=true:=by
 cases h with
 | v p x h=>exact h
 | nil=>rfl
 | emp=>rfl
 | sl=>rfl
theorem RL.rd{w:World}{K:Nat->Option (Nat × cM)}{id:Nat}{F:Nat->Prop}(hF:∀ b p,K b=some (id,p)->F b){p:cM}{v:Value}{d:D}(h:RL w K id p v d):Rd w F v d:=by
 induction h with
 | v p x h=>exact .v x h
 | nil p sz=>exact .nil sz
 | emp p a cap sz=>exact .emp a cap sz
 | sl p b o len cap sz es cur e0 x hz dk hlen cr dj b7 hk hb hle hc hr ih =>
  exact .sl b o len cap sz es x hlen cr dj b7 (λ_=>hF b p hk) (λi j e d he hd=>by simp[World.cell?,hb,hc i j e d he hd]) ih
theorem RL.map{w w':World}{K K':Nat->Option (Nat × cM)}{id cn:Nat}{p:cM}{v:Value}{d:D}(h:RL w K id p v d):∀(p':cM),
  (∀ b q,K b=some (id,p++q)->K' b=some (cn,p'++q)/\w'.heap[b]? = w.heap[b]?)->RL w' K' cn p' v d:=by
 induction h with
 | v p x h=>intro p' _;exact .v p' x h
 | nil p sz=>intro p' _;exact .nil p' sz
 | emp p a cap sz=>intro p' _;exact .emp p' a cap sz
 | sl p b o len cap sz es cur e0 x hz dk hlen cr dj b7 hk hb hle hc hr ih =>
  intro p' hp;obtain⟨h1,h2⟩:=hp b [] (by simpa using hk);refine .sl p' b o len cap sz es cur e0 x hz dk hlen cr dj b7 (by simpa using h1) (h2.trans hb) hle hc (λi j e d he hd=>ih i j e d he hd (p'++[(i,j)]) λb q hq=>?_);have:=hp b ((i,j)::q) (by simpa using hq);simpa using this
theorem RL.mono{w w':World}{K K':Nat->Option (Nat × cM)}{id:Nat}(hK:∀ b p,K b=some (id,p)->K' b=some (id,p)/\w'.heap[b]? = w.heap[b]?){p:cM}{v:Value}{d:D}(h:RL w K id p v d):RL w' K' id p v d :=
 h.map p λb q hq=>hK b _ hq
def aX.sz:aX->Nat
 | .sl _ sz _ _=>sz
 | _=>0
def aX.gen:aX->Option Nat
 | .sl _ _ m _=>m.gen
 | _=>Option.none
def aX.dG:aX->Option Nat
 | .sl _ _ (.dp g _ []) _=>some g
 | _=>Option.none
theorem aX.eT{B:aX}{g:Nat}(h:B.dG=some g):B.gen=some g:=by
 unfold aX.dG at h
 split at h
 ·exact h
 ·cases h
theorem aX.ld{e:TypeId}{sz:Nat}{m:Mo}{es:List (List D)}{g:Nat}(h:(aX.sl e sz m es).dG=some g):m.full=true:=by
 cases m with
 | dp g t H=>cases H with
  | nil=>rfl
  | cons=>cases h
 | _=>rfl
inductive VR(w:World)(F:Nat->Prop)(ι:Io)(h:Nat->aX):Value->AV->Prop where
 | u (v:Value):VR w F ι h v .u
 | c (v:Value) (d:D) (hr:Rd w F v d):VR w F ι h v (.c d)
 | n (sz:Nat):VR w F ι h (.slice Option.none 0 0) (.n sz)
 | cI (v:Value) (sz id off len:Nat) (h1:v.oneCell'=true) (hd:h id = .dead):VR w F ι h v (.r sz id off len)
 | cW (id:Nat) (e:TypeId) (sz:Nat) (m:Mo) (hi:ι id=Option.none) (hh:h id = .sl e sz m []):VR w F ι h (.slice Option.none 0 0) (.r sz id 0 0)
 | dz (ad:Addr) (cap id:Nat) (e:TypeId) (sz:Nat) (m:Mo) (hi:ι id=Option.none) (hh:h id = .sl e sz m []) (ht:m.fw=false):VR w F ι h (.slice (some ad) 0 cap) (.r sz id 0 0)
 | r (id off len b ao cap:Nat) (e:TypeId) (sz:Nat) (m:Mo) (es:List (List D)) (hi:ι id=some b) (hh:h id = .sl e sz m es) (hlen:off+len<=es.length)
   (cr:len<=cap) (ho:len≠0->ao=ι.o id+off*sz) (dm:m.fw=true->off=0->ao=0/\w.shape? b=some (e,cap*sz)):VR w F ι h (.slice (some ⟨b,ao,Option.none⟩) len cap) (.r sz id off len)
 | dg (v:Value) (id i j:Nat) (h1:v.oneCell'=true) (hd:h id = .dead):VR w F ι h v (.p id i j)
 | p (id i j b:Nat) (hi:ι id=some b) (hn:h id≠.none) (hd:h id≠.dead):VR w F ι h (.pointer (some ⟨b,ι.o id+i*(h id).sz+j,Option.none⟩)) (.p id i j)
 | q (b o j:Nat) (cs:List D) (x:Nat->Value) (hb:F b) (hc:∀ k d,cs[k]? = some d->w.cell? ⟨b,o+k,Option.none⟩=some (x k)) (hr:∀ k d,cs[k]? = some d->Rd w F (x k) d) :
   VR w F ι h (.pointer (some ⟨b,o+j,Option.none⟩)) (.q cs j)
 | a (vs:Array Value) (cs:List AV) (hl:vs.size=cs.length) (h1:∀(k:Nat)(v:Value),vs[k]? = some v->v.oneCell'=true) (hv:∀(k:Nat)(v:Value)(x:AV),vs[k]? = some v->cs[k]? = some x->VR w F ι h v x):VR w F ι h (.agg vs) (.a cs)
 | t (vs:Array Value) (cs:List AV) (hl:vs.size=cs.length) (hv:∀(k:Nat)(v:Value)(x:AV),vs[k]? = some v->cs[k]? = some x->VR w F ι h v x):VR w F ι h (.tuple vs) (.t cs)
 | fN (v:Value) (d:D) (id g:Nat) (p:cM) (h1:v.oneCell'=true) (hd:h id = .dead):VR w F ι h v (.b d id g p)
 | b (v:Value) (d:D) (id g:Nat) (p:cM) (e:TypeId) (sz:Nat) (m:Mo) (es:List (List D)) (h1:v.oneCell'=true) (hh:h id = .sl e sz m es) (hg:∀ g0,m.gen=some g0->g<=g0)
   (hv:m.gen=some g->RL w ι.k id p v d/\∀ i j,p=[(i,j)]->∃ bk cur e0,ι id=some bk/\w.heap[bk]? = some (.cells cur e0 (0,0))/\cur[ι.o id+i*sz+j]? = some v):VR w F ι h v (.b d id g p)
 | fa (v:Value) (cs:List D) (j id g:Nat) (p:cM) (i:Nat) (h1:v.oneCell'=true) (hd:h id = .dead):VR w F ι h v (.bq cs j id g p i)
 | bq (v:Value) (cs:List D) (j id g:Nat) (p:cM) (i:Nat) (e:TypeId) (sz:Nat) (m:Mo) (es:List (List D)) (h1:v.oneCell'=true) (hh:h id = .sl e sz m es) (hg:∀ g0,m.gen=some g0->g<=g0)
   (hv:m.gen=some g->∃ bk o cur e0,v = .pointer (some ⟨bk,o+j,Option.none⟩)/\ι.k bk=some (id,p)/\w.heap[bk]? = some (.cells cur e0 (0,0))/\∀ k d,cs[k]? = some d->∃ x,cur[o+k]? = some x/\RL w ι.k id (p++[(i,k)]) x d):VR w F ι h v (.bq cs j id g p i)
def cX:aX->aX->Prop
 | .box cs,.box cs'=>cs'.length=cs.length
 | .sl e sz m es,.sl e' bt m' bZ=>e'=e/\bt=sz/\bZ.length=es.length/\Mo.le m m'
 | _,_=>False
theorem cX.sz{x y:aX}(h:cX x y):y.sz=x.sz:=by
 cases x <;> cases y <;> simp_all [cX,aX.sz]
theorem cX.trans{x y z:aX}(h:cX x y)(h':cX y z):cX x z:=by
 cases x <;> cases y <;> simp only[cX]at h <;> cases z <;> simp only[cX]at h' ⊢
 ·exact h'.trans h
 ·exact⟨h'.1.trans h.1,h'.2.1.trans h.2.1,h'.2.2.1.trans h.2.2.1,h.2.2.2.trans h'.2.2.2⟩
theorem cX.ne{x y:aX}(h:cX x y):y≠.none/\y≠.dead:=by
 cases x <;> cases y <;> simp_all [cX]
theorem cX.refl{x:aX}(h1:x≠.none)(h2:x≠.dead):cX x x:=by
 cases x with
 | none=>exact absurd rfl h1
 | dead=>exact absurd rfl h2
 | box cs=>exact rfl
 | sl e sz m es=>exact⟨rfl,rfl,rfl,.refl _⟩
def YP:aX->aX->Prop
 | .box cs,.box cs'=>cs'.length=cs.length
 | .sl e sz m es,.sl e' bt m' bZ=>e'=e/\bt=sz/\bZ.length=es.length/\(m'.fw=true->m.fw=true)/\(m'.gen.isSome=true->m.gen.isSome=true)
 | _,_=>False
theorem cX.w{x y:aX}(h:cX x y):YP x y:=by
 cases x <;> cases y <;> simp only[cX]at h
 ·exact h
 ·refine⟨h.1,h.2.1,h.2.2.1,h.2.2.2.fw,λhg=>?_⟩;obtain⟨g,hg⟩:=Option.isSome_iff_exists.1 hg;obtain⟨g0,h0,_⟩:=h.2.2.2.gen g hg;rw[h0];rfl
theorem YP.trans{x y z:aX}(h:YP x y)(h':YP y z):YP x z:=by
 cases x <;> cases y <;> simp only[YP]at h <;> cases z <;> simp only[YP]at h' ⊢
 ·exact h'.trans h
 ·exact⟨h'.1.trans h.1,h'.2.1.trans h.2.1,h'.2.2.1.trans h.2.2.1,λe=>h.2.2.2.1 (h'.2.2.2.1 e),λe=>h.2.2.2.2 (h'.2.2.2.2 e)⟩
theorem YP.ne{x y:aX}(h:YP x y):y≠.none/\y≠.dead:=by
 cases x <;> cases y <;> simp_all [YP]
def oX(w w':World)(ι ι':Io)(id:Nat):Prop:=∀ b p,ι.k b=some (id,p)->ι'.k b=some (id,p)/\w'.heap[b]? = w.heap[b]?
def dn(w w':World)(ι ι':Io)(h h':Nat->aX)(id:Nat):Prop :=
 h id = .none\/h' id = .dead\/(ι' id=ι id/\ι'.o id=ι.o id/\cX (h id) (h' id)/\(∀ b,ι id=some b->w'.shape? b=w.shape? b)/\
  ∀ g,(h id).gen=some g->(h' id).gen=some g->(∀ b,ι id=some b->w'.heap[b]? = w.heap[b]?)/\oX w w' ι ι' id)
theorem VR.mono{w w':World}{F F':Nat->Prop}{ι ι':Io}{h h':Nat->aX}(hF:∀ b,F b->F' b/\w'.heap[b]? = w.heap[b]?)
  (hg:∀ id,dn w w' ι ι' h h' id) {v:Value} {x:AV} (hv:VR w F ι h v x):VR w' F' ι' h' v x:=by
 have dead:∀ id,h id = .dead->h' id = .dead:=by
  intro id hd
  rcases hg id with g | g | ⟨_,_,g,_⟩
  ·rw[hd]at g;cases g
  ·exact g
  ·rw[hd]at g;cases hx:h' id <;> simp[hx,cX]at g
 have fO:∀ id e sz m es,h id = .sl e sz m es->h' id = .dead\/(ι' id=ι id/\ι'.o id=ι.o id/\(∃ m' bZ,h' id = .sl e sz m' bZ/\bZ.length=es.length/\Mo.le m m'/\
   ∀ g,m.gen=some g->m'.gen=some g->(∀ b,ι id=some b->w'.heap[b]? = w.heap[b]?)/\oX w w' ι ι' id)/\(∀ b,ι id=some b->w'.shape? b=w.shape? b)):=by
  intro id e sz m es hh
  rcases hg id with g | g | ⟨g1,g2,g,gs,gk⟩
  ·rw[hh]at g;cases g
  ·exact .inl g
  ·right;rw[hh]at g gk
   cases hx:h' id with
   | sl e' bt m' bZ =>
    simp only[hx,cX]at g;obtain⟨rfl,rfl,hl,hm⟩:=g;rw[hx]at gk;exact⟨g1,g2,⟨m',bZ,rfl,hl,hm,gk⟩,gs⟩
   | none=>simp[hx,cX]at g
   | dead=>simp[hx,cX]at g
   | box cs=>simp[hx,cX]at g
 induction hv with
 | u v=>exact .u v
 | c v d hr=>exact .c v d (hr.mono hF)
 | n sz=>exact .n sz
 | cI v sz id off len h1 hd=>exact .cI v sz id off len h1 (dead id hd)
 | cW id e sz m hi hh =>
  rcases fO id e sz m [] hh with g | ⟨g1,g2,⟨m',bZ,g3,g4,g5,_⟩,_⟩
  ·exact .cI _ sz id 0 0 rfl g
  ·have:bZ=[]:=List.eq_nil_of_length_eq_zero g4;subst this;exact .cW id _ _ m' (g1.trans hi) g3
 | dz ad cap id e sz m hi hh ht =>
  rcases fO id e sz m [] hh with g | ⟨g1,g2,⟨m',bZ,g3,g4,g5,_⟩,_⟩
  ·exact .cI _ sz id 0 0 rfl g
  ·have:bZ=[]:=List.eq_nil_of_length_eq_zero g4;subst this;refine .dz ad cap id _ _ m' (g1.trans hi) g3 ?_
   cases hx:m'.fw with
   | false=>rfl
   | true=>rw[g5.fw hx]at ht;cases ht
 | r id off len b ao cap e sz m es hi hh hlen cr ho dm =>
  rcases fO id e sz m es hh with g | ⟨g1,g2,⟨m',bZ,g3,g4,g5,_⟩,gs⟩
  ·exact .cI _ sz id off len rfl g
  ·exact .r id off len b ao cap _ _ m' bZ (g1.trans hi) g3 (by omega) cr (λhn=>by rw[g2];exact ho hn) (λht h0=>⟨(dm (g5.fw ht) h0).1,(gs b hi).trans (dm (g5.fw ht) h0).2⟩)
 | dg v id i j h1 hd=>exact .dg v id i j h1 (dead id hd)
 | p id i j b hi hn hd =>
  rcases hg id with g | g | ⟨g1,g2,g,_⟩
  ·exact absurd g hn
  ·exact .dg _ id i j rfl g
  ·rw[<- g.sz,<- g2];exact .p id i j b (g1.trans hi) g.ne.1 g.ne.2
 | q b o j cs x hb hc hr =>
  refine .q b o j cs x (hF b hb).1 (λk d hk=>?_) (λk d hk=>(hr k d hk).mono hF);rw[World.cell?_of_block (w:=w) (w':=w') (a:=⟨b,_,Option.none⟩) (hF b hb).2];exact hc k d hk
 | a vs cs hl h1 hv ih=>exact .a vs cs hl h1 ih
 | t vs cs hl hv ih=>exact .t vs cs hl ih
 | fN v d id g p h1 hd=>exact .fN v d id g p h1 (dead id hd)
 | b v d id g p e sz m es h1 hh jq j0 =>
  rcases fO id e sz m es hh with q | ⟨g1,g2,⟨m',bZ,g3,g4,g5,g6⟩,gs⟩
  ·exact .fN v d id g p h1 q
  ·refine .b v d id g p _ _ m' bZ h1 g3 (λg0 jr=>?_) (λhm=>?_)
   ·obtain⟨ga,ha,hb⟩:=g5.gen g0 jr;have:=jq ga ha;omega
   ·obtain⟨ga,ha,hb⟩:=g5.gen g hm;have:=jq ga ha;have:ga=g:=by omega
    subst this;obtain⟨k1,k2⟩:=g6 ga ha hm;obtain⟨c1,c2⟩:=j0 ha;refine⟨c1.mono k2,λi j hp=>?_⟩;obtain⟨bk,cur,e0,c3,c4,c5⟩:=c2 i j hp;exact⟨bk,cur,e0,g1.trans c3,(k1 bk c3).trans c4,by rw[g2];exact c5⟩
 | fa v cs j id g p i h1 hd=>exact .fa v cs j id g p i h1 (dead id hd)
 | bq v cs j id g p i e sz m es h1 hh jq j0 =>
  rcases fO id e sz m es hh with q | ⟨g1,g2,⟨m',bZ,g3,g4,g5,g6⟩,gs⟩
  ·exact .fa v cs j id g p i h1 q
  ·refine .bq v cs j id g p i _ _ m' bZ h1 g3 (λg0 jr=>?_) (λhm=>?_)
   ·obtain⟨ga,ha,hb⟩:=g5.gen g0 jr;have:=jq ga ha;omega
   ·obtain⟨ga,ha,hb⟩:=g5.gen g hm;have:=jq ga ha;have:ga=g:=by omega
    subst this;obtain⟨k1,k2⟩:=g6 ga ha hm;obtain⟨bk,o,cur,e0,c1,c2,c3,c4⟩:=j0 ha;obtain⟨k3,k4⟩:=k2 bk p c2;refine⟨bk,o,cur,e0,c1,k3,k4.trans c3,λk d hk=>?_⟩;obtain⟨x,c5,c6⟩:=c4 k d hk;exact⟨x,c5,c6.mono k2⟩
def RM(w:World)(F:Nat->Prop)(ι:Io)(id:Nat)(m:Mo)(i j:Nat)(v:Value)(d:D):Prop:=match m with
 | .dp _ _ H=>v.oneCell'=true/\((i,j)∉H->RL w ι.k id [(i,j)] v d)
 | _=>Rd w F v d
theorem RM.one{w:World}{F:Nat->Prop}{ι:Io}{id:Nat}{m:Mo}{i j:Nat}{v:Value}{d:D}(h:RM w F ι id m i j v d):v.oneCell'=true:=by
 cases m with
 | dp g t H=>exact h.1
 | _=>exact Rd.one h
theorem RM.mono{w w':World}{F F':Nat->Prop}{ι ι':Io}(hF:∀ b,F b->F' b/\w'.heap[b]? = w.heap[b]?){id:Nat}(hk:oX w w' ι ι' id){m:Mo}{i j:Nat}{v:Value}{d:D}(h:RM w F ι id m i j v d):RM w' F' ι' id m i j v d:=by
 cases m with
 | dp g t H=>exact⟨h.1,λhn=>(h.2 hn).mono hk⟩
 | _=>exact Rd.mono hF h
theorem RM.rd{w:World}{F F':Nat->Prop}{ι:Io}{id:Nat}{m:Mo}{i j:Nat}{v:Value}{d:D}(hm:m.full=true)(hF:∀ b,F b->F' b)(hk:∀ b p,ι.k b=some (id,p)->F' b)(h:RM w F ι id m i j v d):Rd w F' v d:=by
 cases m with
 | dp g t H =>
  cases H with
  | nil=>exact(h.2 (by simp)).rd hk
  | cons=>simp[Mo.full]at hm
 | _=>exact Rd.mono (λb hb=>⟨hF b hb,rfl⟩) h
inductive BR(w:World)(F:Nat->Prop)(ι:Io)(h:Nat->aX)(id:Nat):aX->Prop where
 | none:BR w F ι h id .none
 | dead:BR w F ι h id .dead
 | box (b:Nat) (e:TypeId) (bz:Array Value) (cs:List AV) (hi:ι id=some b) (ho:ι.o id=0) (hb:w.heap[b]? = some (.cells bz e (0,0))) (hl:bz.size=cs.length)
   (h1:∀(k:Nat)(v:Value),bz[k]? = some v->v.oneCell'=true) (hv:∀(k:Nat)(v:Value)(x:AV),bz[k]? = some v->cs[k]? = some x->VR w F ι h v x):BR w F ι h id (.box cs)
 | slnil (e:TypeId) (sz:Nat) (m:Mo) (hz:0<sz) (hi:ι id=Option.none):BR w F ι h id (.sl e sz m [])
 | sl (b:Nat) (e e0:TypeId) (sz:Nat) (m:Mo) (es:List (List D)) (cur:Array Value) (hz:0<sz) (hi:ι id=some b) (hb:w.heap[b]? = some (.cells cur e0 (0,0)))
   (fj:m.fw=true->e0=e/\ι.o id=0/\∃ C,cur.size=C*sz/\es.length<=C/\C<=maxLen) (hle:ι.o id+es.length*sz<=cur.size) (dj:es.length<=maxLen) (b7:∀ x,x∈es->x.length=sz)
   (hv:∀ i j x d,es[i]? = some x->x[j]? = some d->∃ v,cur[ι.o id+i*sz+j]? = some v/\RM w F ι id m i j v d):BR w F ι h id (.sl e sz m es)
theorem BR.mono{w w':World}{F F':Nat->Prop}{ι ι':Io}{h h':Nat->aX}(hF:∀ b,F b->F' b/\w'.heap[b]? = w.heap[b]?)
  (hg:∀ id,dn w w' ι ι' h h' id) {id:Nat} {x:aX} (cc:ι' id=ι id) (jw:ι'.o id=ι.o id) (oY:∀ b,ι id=some b->w'.heap[b]? = w.heap[b]?) (eQ:oX w w' ι ι' id) (hv:BR w F ι h id x):BR w' F' ι' h' id x:=by
 cases hv with
 | none=>exact .none
 | dead=>exact .dead
 | box b e bz cs hi ho hb hl h1 hv=>exact .box b e bz cs (cc.trans hi) (jw.trans ho) ((oY b hi).trans hb) hl h1 (λk v x hk hx=>(hv k v x hk hx).mono hF hg)
 | slnil e sz m hz hi=>exact .slnil e sz m hz (cc.trans hi)
 | sl b e e0 sz m es cur hz hi hb fj hle dj b7 hv =>
  exact .sl b e e0 sz m es cur hz (cc.trans hi) ((oY b hi).trans hb) (λht=>by rw[jw];exact fj ht) (by rw[jw];exact hle) dj b7 (λi j x d hx hd=>let⟨v,h1,h2⟩:=hv i j x d hx hd;⟨v,by rw[jw];exact h1,h2.mono hF eQ⟩)
def aX.own:aX->Bool
 | .box _=>true
 | .sl _ _ m _=>m.own
 | _=>false
structure Hd where
 o:Option Nat
 base:Nat
 B:aX
 K:Nat->Option cM
def Hd.has(x:Hd)(b:Nat):Prop:=x.o=some b\/∃ p,x.K b=some p
def Hd.io(x:Hd):Io:=⟨λ_=>x.o,λb=>(x.K b).map λp=>(0,p),λ_=>x.base⟩
structure Ctx where
 P:Program
 w0:World
 F0:Nat->Prop
 X:Nat->Prop
 L:Nat->Option Nat
 N:Nat
 G:Nat->Prop
 O:Nat->Option Hd
 GX:∀ b,G b->X b
def Ctx.fr(C:Ctx)(b:Nat):Prop:=C.w0.heap.size<=b\/C.G b
theorem Ctx.fr.dR{C:Ctx}{b:Nat}(h:C.fr b):C.w0.heap.size<=b\/C.X b:=h.imp (λh=>h) (C.GX b)
def Fz(C:Ctx)(w:World)(ι:Io)(h:Nat->aX)(b:Nat):Prop :=
 b<w.heap.size/\(C.F0 b\/C.fr b)/\(∀ id,ι id=some b->(h id).own=false)/\ι.k b=none
structure lf(C:Ctx)(w:World):Prop where
 os:w.os=C.w0.os
 tape:w.tape=C.w0.tape
 output:w.output=C.w0.output
 size:C.w0.heap.size<=w.heap.size
 block:∀ k,k<C.w0.heap.size->¬ C.X k->w.heap[k]? = C.w0.heap[k]?
structure Tr(C:Ctx)(w:World)(ι:Io)(h:Nat->aX)(b id:Nat)(p:cM):Prop where
 pn:p≠[]
 dp:∃ e sz g t H es,h id = .sl e sz (.dp g t H) es
 fr:C.fr b
 lt:b<w.heap.size
 ne:∀ i,ι i≠some b
structure Sat(C:Ctx)(U:Nat->Prop)(σ:St)(a:Act)(w:World)(ι:Io):Prop where
 dR:lf C w
 bz:∀ s,VR w (Fz C w ι σ.h) ι σ.h (a.tmps.getD s undef) (σ.t s)
 size:a.tmps.size=C.N
 defers:a.defers=[]
 fH:∀ id,BR w (Fz C w ι σ.h) ι σ.h id (σ.h id)
 inj:∀ i j b,ι i=some b->ι j=some b->i=j
 eL:∀ i b,ι i=some b->(C.fr b\/C.X b/\∃ cs,σ.h i = .box cs)/\b<w.heap.size
 fresh:∀ i,U i->σ.h i = .none/\ι i=Option.none
 live:∀ i b,ι i=some b->σ.h i≠.none/\σ.h i≠.dead
 cp:∀ i b,C.L i=some b->ι i=some b/\(∃ cs,σ.h i = .box cs)/\w.shape? b=C.w0.shape? b
 hand:∀ i x,C.O i=some x->σ.h i = .dead\/ι i=x.o/\ι.o i=x.base/\YP x.B (σ.h i)/\∀ b,x.o=some b->w.shape? b=C.w0.shape? b
 dA:∀ b id p,ι.k b=some (id,p)->Tr C w ι σ.h b id p
def cJ(C:Ctx)(U:Nat->Prop)(σ:St)(a:Act)(w:World):Prop:=∃ ι,Sat C U σ a w ι
def fx(C:Ctx)(σ:St)(a:Act)(w:World):Prop:=cJ C (λi=>σ.nx<=i) σ a w
structure Rest(w w':World)(ι ι':Io)(id:Nat):Prop where
 b:ι' id=ι id
 o:ι'.o id=ι.o id
 heap:∀ b,ι id=some b->w'.heap[b]? = w.heap[b]?
 Ts:oX w w' ι ι' id
theorem Rest.il{w w':World}{ι ι':Io}{h h':Nat->aX}{id:Nat}(r:Rest w w' ι ι' id)(hh:h' id=h id):dn w w' ι ι' h h' id:=by
 unfold dn;rw[hh]
 cases hx:h id with
 | none=>exact .inl rfl
 | dead=>exact .inr (.inl rfl)
 | _=>exact .inr (.inr ⟨r.b,r.o,.refl (by simp) (by simp),λb hb=>by unfold World.shape?;rw[r.heap b hb],λ_ _ _=>⟨r.heap,r.Ts⟩⟩)
theorem Sat.eM{C:Ctx}{U U':Nat->Prop}{σ:St}{a:Act}{w w':World}{ι ι':Io}{h':Nat->aX}{Tt:Nat}(S:Sat C U σ a w ι)(j8:lf C w')
  (hF:∀ b,Fz C w ι σ.h b->Fz C w' ι' h' b/\w'.heap[b]? = w.heap[b]?)
  (hg:∀ id,dn w w' ι ι' σ.h h' id)
  (js:∀ i cs,σ.h i = .box cs->h' i≠.dead)
  (dH:∀ id,(h' id=σ.h id/\Rest w w' ι ι' id)\/BR w' (Fz C w' ι' h') ι' h' id (h' id))
  (sq:∀ i j b,ι' i=some b->ι' j=some b->i=j)
  (lh:∀ i b,ι' i=some b->(C.fr b\/C.X b/\∃ cs,h' i = .box cs)/\b<w'.heap.size)
  (sr:∀ i,U' i->h' i = .none/\ι' i=Option.none)
  (xB:∀ i b,ι' i=some b->h' i≠.none/\h' i≠.dead)
  (oZ:∀ b id p,ι'.k b=some (id,p)->Tr C w' ι' h' b id p):Sat C U' ⟨σ.t,h',Tt⟩ a w' ι' where
 dR:=j8
 bz:=λs=>(S.bz s).mono hF hg
 size:=S.size
 defers:=S.defers
 fH:=λid=>by
  rcases dH id with⟨h1,h2⟩ | hb
  ·have:=(S.fH id).mono hF hg h2.b h2.o h2.heap h2.Ts;rw[<- h1]at this;exact this
  ·exact hb
 inj:=sq
 eL:=lh
 fresh:=sr
 live:=xB
 cp:=λi b hL=>by
  obtain⟨h1,⟨cs,h2⟩,h3⟩:=S.cp i b hL
  rcases hg i with g | g | ⟨g1,_,g2,g3,_⟩
  ·rw[h2]at g;cases g
  ·exact absurd g (js i cs h2)
  ·refine⟨g1.trans h1,?_,(g3 b h1).trans h3⟩;rw[h2]at g2
   cases hx:h' i with
   | box cs'=>exact⟨cs',hx⟩
   | none=>simp[hx,cX]at g2
   | dead=>simp[hx,cX]at g2
   | sl e sz m es=>simp[hx,cX]at g2
 hand:=λi x hO=>by
  rcases S.hand i x hO with h1 | ⟨h1,gG,h2,h3⟩
  ·rcases hg i with g | g | ⟨_,_,g,_⟩
   ·rw[h1]at g;cases g
   ·exact .inl g
   ·rw[h1]at g;exact g.elim
  ·rcases hg i with g | g | ⟨g1,xC,g2,g3,_⟩
   ·exact absurd g h2.ne.1
   ·exact .inl g
   ·exact .inr ⟨g1.trans h1,xC.trans gG,h2.trans g2.w,λb hb=>(g3 b (h1.trans hb)).trans (h3 b hb)⟩
 dA:=oZ
theorem Sat.put{C:Ctx}{U:Nat->Prop}{σ:St}{a:Act}{w:World}{ι:Io}(S:Sat C U σ a w ι)(d:Nat)(hd:d<C.N)(v:Value)(x:AV)
  (hv:VR w (Fz C w ι σ.h) ι σ.h v x):Sat C U ⟨bN σ.t d x,σ.h,σ.nx⟩ (a.put (some d) v) w ι where
 dR:=S.dR
 bz:=λs=>by
  have b7:d<a.tmps.size:=by rw[S.size];exact hd
  by_cases hs:s=d
  ·subst hs;simp only[Act.put,QQ];rw[show(a.tmps.setIfInBounds s v).getD s undef=v from by simp[Array.getD,b7]];exact hv
  ·have e1:(a.put (some d) v).tmps.getD s undef=a.tmps.getD s undef:=by
    simp only[Act.put,Array.getD_eq_getD_getElem?,Array.getElem?_setIfInBounds];rw[if_neg (λh=>hs h.symm)]
   rw[e1];show VR _ _ _ _ _ (bN σ.t d x s);rw[QK _ _ _ _ hs];exact S.bz s
 size:=by simp[Act.put,S.size]
 defers:=S.defers
 fH:=S.fH
 inj:=S.inj
 eL:=S.eL
 fresh:=S.fresh
 live:=S.live
 cp:=S.cp
 hand:=S.hand
 dA:=S.dA
theorem Fz.lt{C:Ctx}{w:World}{ι:Io}{h:Nat->aX}{b:Nat}(hb:Fz C w ι h b):b<w.heap.size:=hb.1
theorem VR.Ca{w:World}{F:Nat->Prop}{ι:Io}{h:Nat->aX}{v:Value}{d:D}{id g:Nat}{p:cM}(hv:VR w F ι h v (.b d id g p))(jr:(h id).dG=some g) :
  RL w ι.k id p v d/\∃ e sz m es,h id = .sl e sz m es/\∀ i j,p=[(i,j)]->∃ bk cur e0,ι id=some bk/\w.heap[bk]? = some (.cells cur e0 (0,0))/\cur[ι.o id+i*sz+j]? = some v:=by
 have hg:=aX.eT jr
 cases hv with
 | fN _ _ _ _ _ h1 hd=>rw[hd]at hg;cases hg
 | b _ _ _ _ _ e sz m es h1 hh jq j0 =>
  rw[hh]at hg;obtain⟨c1,c2⟩:=j0 hg;exact⟨c1,e,sz,m,es,hh,c2⟩
theorem VR.su{w:World}{F:Nat->Prop}{ι:Io}{h:Nat->aX}{v:Value}{cs:List D}{j id g:Nat}{p:cM}{i:Nat}(hv:VR w F ι h v (.bq cs j id g p i))(jr:(h id).dG=some g) :
  ∃ bk o cur e0,v = .pointer (some ⟨bk,o+j,Option.none⟩)/\ι.k bk=some (id,p)/\w.heap[bk]? = some (.cells cur e0 (0,0))/\∀ k d,cs[k]? = some d->∃ x,cur[o+k]? = some x/\RL w ι.k id (p++[(i,k)]) x d:=by
 have hg:=aX.eT jr
 cases hv with
 | fa _ _ _ _ _ _ _ h1 hd=>rw[hd]at hg;cases hg
 | bq _ _ _ _ _ _ _ e sz m es h1 hh jq j0 =>
  rw[hh]at hg;exact j0 hg
theorem VR.qB{w:World}{F:Nat->Prop}{ι:Io}{h:Nat->aX}{cs:List D}{j id g:Nat}{p:cM}{i bk o:Nat}{cur:Array Value}{e0:TypeId}(jr:(h id).dG=some g)(hk:ι.k bk=some (id,p))(hb:w.heap[bk]? = some (.cells cur e0 (0,0)))
  (hc:∀ k d,cs[k]? = some d->∃ x,cur[o+k]? = some x/\RL w ι.k id (p++[(i,k)]) x d):VR w F ι h (.pointer (some ⟨bk,o+j,Option.none⟩)) (.bq cs j id g p i):=by
 have hg:=aX.eT jr
 cases hx:h id with
 | sl e sz m es =>
  rw[hx]at hg;refine .bq _ cs j id g p i e sz m es rfl hx (λg0 h0=>?_) (λ_=>⟨bk,o,cur,e0,rfl,hk,hb,hc⟩);have h0:some g=some g0:=hg.symm.trans h0
  cases h0;exact Nat.le_refl _
 | _=>rw[hx]at hg;cases hg
theorem VR.xD{w:World}{F:Nat->Prop}{ι:Io}{h:Nat->aX}{v:Value}{d:D}{id g:Nat}{p:cM}{e:TypeId}{sz:Nat}{m:Mo}{es:List (List D)}(hx:h id = .sl e sz m es)(hg:m.gen=some g)(hr:RL w ι.k id p v d)
  (hc:∀ i j,p=[(i,j)]->∃ bk cur e0,ι id=some bk/\w.heap[bk]? = some (.cells cur e0 (0,0))/\cur[ι.o id+i*sz+j]? = some v):VR w F ι h v (.b d id g p):=by
 refine .b v d id g p e sz m es hr.one hx (λg0 h0=>?_) (λ_=>⟨hr,hc⟩);rw[hg]at h0
 cases h0;exact Nat.le_refl _
end Go.Proofs.YtdplaepmjogjjaaGreat.Am
namespace Go.Proofs.YtdplaepmjogjjaaGreat.Am
open Go Go.RowKit
inductive bc where
 | s (i:Nat)
 | k (x:AV)
def bc.ev(t:Nat->AV):bc->AV
 | .s i=>t i
 | .k x=>x
inductive eG where
 | eY (x:bc)
 | pick (c x y:bc)
 | bin (op:BinOp) (x y:bc)
 | im (n:Nat) (neg:Bool) (x y:bc)
 | j1 (neg:Bool) (x y:bc)
 | not (x:bc)
 | neg (x:bc)
 | new (e:TypeId) (zs:List AV)
 | box (e:TypeId) (x:bc) (n:Nat)
 | load (x:bc) (n:Nat) (agg:Bool)
 | store (x v:bc) (n:Nat)
 | lj (x:bc) (off:Nat)
 | j9 (x i:bc) (sz:Nat)
 | lY (x:bc) (off n:Nat) (agg:Bool)
 | build (zs:List AV) (ps:List (Nat × Nat × bc))
 | bO (e:TypeId) (sz:Nat) (ps:List bc)
 | mk (e:TypeId) (sz:Nat) (zs:List AV) (n:bc)
 | fO (x:bc) (lo hi:Option bc) (sz:Nat)
 | len (x:bc)
 | app (s x:bc) (e:TypeId) (sz:Nat)
 | mm (mx:Bool) (x y:bc)
 | call (f:FuncId) (args:List bc)
 | ext (x:bc) (i:Nat)
 | conv (k:IntKind) (x:bc)
 | gU (x:bc)
structure AO where
 dst:Option Nat
 op:eG
 gd:Option (Nat × Bool)
 off:Nat
structure iS where
 v:AV
 hb:List aX
 bx:List (List AV)
 al:Bool
 gv:List aX:=[]
inductive AM where
 | d
 | o
 | p
structure eR where
 md:FuncId->List AM
 fn:FuncId->List AV->Option iS
 dp:Bool:=false
instance:CoeFun eR λ_=>FuncId->List AV->Option iS:=⟨eR.fn⟩
structure fI where
 val:AV
 gH:List (Nat × aX)
def AV.d(h:Nat->aX):AV->Option D
 | .c d=>some d
 | .n sz=>some (.sl sz [])
 | .r _ id off len=>match h id with
  | .sl _ sz m es=>if m.full=true then some (.sl sz ((es.drop off).take len)) else none
  | _=>none
 | .b d id g _=>if(h id).dG=some g then some d else none
 | _=>none
def AV.ds(h:Nat->aX):List AV->Option (List D)
 | []=>some []
 | x::xs=>match x.d h,AV.ds h xs with
  | some d,some ds=>some (d::ds)
  | _,_=>none
def AV.cells:AV->List AV
 | .a cs=>cs
 | x=>[x]
def AV.one:AV->Bool
 | .c _ | .n _ | .r .. | .p .. | .q .. | .b .. | .bq ..=>true
 | _=>false
def AV.st:AV->Bool
 | .a _=>true
 | x=>x.one
def AV.b4:AV->List Nat
 | .r _ id _ _=>[id]
 | .b _ id _ _=>[id]
 | _=>[]
def AV.gu:AV->List Nat
 | .r _ id _ _=>[id]
 | _=>[]
def AV.de:List AV->List Nat
 | []=>[]
 | x::xs=>x.gu++AV.de xs
def AV.dx:AV->List Nat
 | .a cs=>AV.de cs
 | x=>x.gu
def aX.sv:aX->Bool
 | .sl _ _ (.dp _ _ []) _=>true
 | _=>false
def AV.eY(h:Nat->aX)(id g i j:Nat):AV->Bool
 | .c (.v _)=>true
 | .n _=>true
 | .r _ cn _ _=>!(Nat.beq cn id)&&(h cn).sv
 | .b _ cn g' pt=>Nat.beq cn id&&Nat.beq g' g&&decide (pt=[(i,j)])
 | _=>false
def AV.dM(h:Nat->aX)(id g i:Nat):Nat->List AV->Bool
 | _,[]=>true
 | j,x::xs=>x.eY h id g i j&&AV.dM h id g i (j+1) xs
def AV.pl:AV->Bool
 | .c (.v _)=>true
 | .n _=>true
 | _=>false
def D.pl:D->Bool
 | .v _=>true
 | .sl _ []=>true
 | _=>false
def o3(xs:List (List D)):Bool:=xs.all λe=>e.all D.pl
def jx:List Nat->List (Nat × aX)
 | []=>[]
 | id::ids=>(id,.dead)::jx ids
def AV.bU:List AV->List Nat
 | []=>[]
 | x::xs=>x.b4++AV.bU xs
def AV.refs:AV->List Nat
 | .a cs=>AV.bU cs
 | x=>x.b4
def ka:aX->aX
 | .sl e sz _ es=>.sl e sz .fz es
 | b=>b
def fu(h:Nat->aX):List Nat->List (Nat × aX)
 | []=>[]
 | id::ids=>(id,ka (h id))::fu h ids
def bB{α:Type}(l:List α)(j:Nat)(xs:List α):List α:=l.take j++xs++l.drop (j+xs.length)
def cut{α:Type}(l:List α)(j n:Nat):Option (List α):=if j+n<=l.length then some ((l.drop j).take n) else none
def nP(agg:Bool)(cs:List AV):Option AV :=
 if agg then some (.a cs) else match cs with
  | [x]=>some x
  | _=>none
def bP:Nat:=4294967296
def aX.alive:aX->Bool
 | .box _=>true
 | .sl ..=>true
 | _=>false
def o4(op:BinOp):Value->Value->Option Value
 | .int k x,.int k' y =>
  match op with
  | .shl=>if y<0 then none else some (.int k (k.wrap (x*2 ^ (min y.toNat k.bits))))
  | .shr=>if y<0 then none else some (.int k (x.fdiv (2 ^ (min y.toNat k.bits))))
  | op=>if k=k' then(match op with
   | .add=>some (.int k (k.wrap (x+y)))
   | .sub=>some (.int k (k.wrap (x-y)))
   | .mul=>some (.int k (k.wrap (x*y)))
   | .quo=>if y=0 then none else some (.int k (k.wrap (x.tdiv y)))
   | .rem=>if y=0 then none else some (.int k (x.tmod y))
   | .and=>some (.int k (k.wrap ((BitVec.ofInt k.bits x &&& BitVec.ofInt k.bits y).toNat)))
   | .or=>some (.int k (k.wrap ((BitVec.ofInt k.bits x ||| BitVec.ofInt k.bits y).toNat)))
   | .xor=>some (.int k (k.wrap ((BitVec.ofInt k.bits x ^^^ BitVec.ofInt k.bits y).toNat)))
   | .eql=>some (.bool (x==y))
   | .neq=>some (.bool (x != y))
   | .lss=>some (.bool (decide (x<y)))
   | .leq=>some (.bool (decide (x<=y)))
   | .gtr=>some (.bool (decide (x>y)))
   | .geq=>some (.bool (decide (x>=y)))
   | _=>none) else none
 | .string x,.string y=>match op with
  | .eql=>some (.bool (x.toList==y.toList))
  | .neq=>some (.bool (!(x.toList==y.toList)))
  | _=>none
 | _,_=>none
def qC:List AV->Option (List Int)
 | []=>some []
 | .c (.v (.int .i64 x))::r=>match qC r with
  | some l=>some (x::l)
  | none=>none
 | _=>none
def u2:AV->Option Int
 | .c (.v (.int _ x))=>some x
 | _=>none
def YY(ev:bc->AV)(m:Int):Option bc->Option Int
 | some l=>u2 (ev l)
 | none=>some m
def AV.fP(h:Nat->aX)(sz:Nat):AV->Option (List (List D))
 | .c (.sl bt es)=>if bt=sz then some es else none
 | .n _=>some []
 | .r _ id off len=>match h id with
  | .sl _ bt m es=>if bt=sz/\m.full=true then some ((es.drop off).take len) else none
  | _=>none
 | .b (.sl bt es) id g _=>if bt=sz/\(h id).dG=some g then some es else none
 | _=>none
def AV.jy(h:Nat->aX)(xs:List (List D)):AV->Bool
 | .r _ idx _ _=>match h idx with
  | .sl _ _ (.dp _ _ _) _=>o3 xs
  | _=>true
 | .b ..=>o3 xs
 | _=>true
def AV.dT(h:Nat->aX)(id len:Nat)(xs:List (List D)):AV->Bool
 | .r _ idx off _=>match h idx with
  | .sl _ _ (.dp _ _ _) _=>!(Nat.beq idx id)||Nat.ble len off
  | _=>o3 xs
 | _=>o3 xs
def AV.dy(h:Nat->aX):AV->List Nat
 | .r _ idx _ _=>match h idx with
  | .sl _ _ (.dp _ _ _) _=>[idx]
  | _=>[]
 | _=>[]
def AV.arg(h:Nat->aX):AV->Option AV
 | .c d=>some (.c d)
 | .n sz=>some (.c (.sl sz []))
 | .r sz id off len=>match(AV.r sz id off len).d h with
  | some d=>some (.c d)
  | none=>none
 | .b d id g pt=>match(AV.b d id g pt).d h with
  | some d=>some (.c d)
  | none=>none
 | .a cs=>match AV.ds h cs with
  | some ds=>some (.a (ds.map .c))
  | none=>none
 | .p id 0 0=>match h id with
  | .box cs=>if AV.bU cs=[] then(match AV.ds h cs with
   | some ds=>some (.bx (ds.map .c))
   | none=>none) else none
  | _=>none
 | _=>none
def AV.iK(h:Nat->aX):List AV->Option (List AV)
 | []=>some []
 | x::xs=>match x.arg h,AV.iK h xs with
  | some d,some ds=>some (d::ds)
  | _,_=>none
def AV.iL(h:Nat->aX):AV->Option AV
 | .r sz id off len=>match h id with
  | .sl e bt .ow es=>if bt=sz/\off=0/\len=es.length then some (.ow e sz .ow es) else none
  | _=>none
 | _=>none
def AV.dX(h:Nat->aX):AV->Option AV
 | .c (.v x)=>some (.c (.v x))
 | .r sz id off len=>match h id with
  | .sl _ bt (.dp _ _ []) es=>if bt=sz/\off=0/\len=es.length then some (.ow 0 sz (.dp 0 false []) es) else none
  | _=>none
 | _=>none
def AV.fQ(h:Nat->aX):List AV->Option (List AV)
 | []=>some []
 | x::xs=>match x.dX h,AV.fQ h xs with
  | some d,some ds=>some (d::ds)
  | _,_=>none
def AV.iZ(h:Nat->aX):AV->Option AV
 | .a cs=>match AV.fQ h cs with
  | some ds=>some (.a ds)
  | none=>none
 | .r sz id off len=>(AV.r sz id off len).dX h
 | _=>none
def AV.gI(h:Nat->aX):AM->AV->Option AV
 | .d,x=>x.arg h
 | .o,x=>x.iL h
 | .p,x=>x.iZ h
def AM.h:AM->Bool
 | .d=>false
 | _=>true
def AV.d8(h:Nat->aX):List AM->List AV->Option (List AV)
 | [],xs=>AV.iK h xs
 | m::ms,xs=>match xs with
  | []=>some []
  | x::xs=>match x.gI h m,AV.d8 h ms xs with
   | some d,some ds=>some (d::ds)
   | _,_=>none
def cT:List AM->List AV->List AV
 | [],_=>[]
 | m::ms,xs=>match xs with
  | []=>[]
  | x::xs=>if m.h then x::cT ms xs else cT ms xs
def cy:List AM->List AV->List AV
 | [],xs=>xs
 | m::ms,xs=>match xs with
  | []=>[]
  | x::xs=>if m.h then cy ms xs else x::cy ms xs
def mr:aX->aX->aX
 | .sl e _ (.dp g _ _) _,.sl _ sz (.dp _ _ []) es=>.sl e sz (.dp (g+1) false []) es
 | .sl _ _ (.dp _ _ _) _,_=>.dead
 | _,B=>B
def AV.cp:AV->List Nat
 | .p id _ _=>[id]
 | _=>[]
def AV.nQ(b:Nat):AV->AV
 | .r sz id off len=>.r sz (id+b) off len
 | .p id i j=>.p (id+b) i j
 | .c d=>.c d
 | .n sz=>.n sz
 | .q cs j=>.q cs j
 | _=>.u
def AV.lZ(b:Nat):AV->AV
 | .a cs=>.a (cs.map (AV.nQ b))
 | x=>x.nQ b
def AV.sh(b:Nat):AV->AV
 | .t vs=>.t (vs.map (AV.lZ b))
 | x=>x.lZ b
def aX.sh(b:Nat):aX->aX
 | .box cs=>.box (cs.map (AV.nQ b))
 | x=>x
def Jp(b:Nat):List aX->List (Nat × aX)
 | []=>[]
 | x::xs=>(b,x)::Jp (b+1) xs
def JO:List Nat->List (List AV)->List (Nat × aX)
 | id::ids,cs::cL=>(id,.box cs)::JO ids cL
 | _,_=>[]
def Y0(h:Nat->aX):List Nat->List aX->List (Nat × aX)
 | id::ids,x::xs=>(id,mr (h id) x)::Y0 h ids xs
 | _,_=>[]
def nR(ev:bc->AV):List AV->List (Nat × Nat × bc)->Option (List AV)
 | cs,[]=>some cs
 | cs,(off,n,x)::r =>
  let v:=(ev x).cells
  if v.length=n/\off+n<=cs.length/\(ev x).st=true then nR ev (bB cs off v) r else none
def elems(h:Nat->aX)(ev:bc->AV)(sz:Nat):List bc->Option (List (List D))
 | []=>some []
 | x::r=>match AV.ds h (ev x).cells,elems h ev sz r with
  | some e,some es=>if e.length=sz then some (e::es) else none
  | _,_=>none
def cu(id g i:Nat):Nat->List D->List AV
 | _,[]=>[]
 | j,d::r=>(match d with | .v x=>.c (.v x) | d=>.b d id g [(i,j)])::cu id g i (j+1) r
def dq(m:Mo)(id i j:Nat)(l:List D):List AV:=match m with
 | .dp g _ _=>cu id g i j l
 | _=>l.map .c
def b3(id g:Nat)(p:cM)(i:Nat):Nat->List D->List AV
 | _,[]=>[]
 | j,d::r=>(match d with | .v x=>.c (.v x) | d=>.b d id g (p++[(i,j)]))::b3 id g p i (j+1) r
def iq(h:Nat->aX)(b:Nat)(ev:bc->AV):Nat->List bc->Bool
 | _,[]=>true
 | i,x::r=>AV.dM h b 0 i 0 (ev x).cells&&iq h b ev (i+1) r
def i0:AV->Bool
 | .c (.v _)=>true
 | _=>false
def xE(Γ:eR)(h:Nat->aX)(b:Nat)(f:FuncId)(id g i j:Nat)(xs:List AV):Option fI :=
 match h id with
 | .sl e sz (.dp g0 t []) es=>match es[i]? with
  | some x=>match x[j]? with
   | some (.sl bt bZ)=>match Γ f (.ow 0 bt (.dp 0 false []) bZ::xs) with
    | some ⟨v,[],[],_,[.sl _ _ (.dp _ _ []) fk]⟩ =>
     if g0=g/\0<bt/\xs.all i0=true then some ⟨v.sh b,[(b,.dead),(id,.sl e sz (.dp (g+1) t []) (es.set i (x.set j (.sl bt fk))))]⟩ else none
    | _=>none
   | _=>none
  | none=>none
 | _=>none
def sw(ms:List AM)(xs:List AV):Option (Nat × Nat × Nat × Nat × List AV) :=
 match ms,xs with
 | .p::ms,.b _ id g [(i,j)]::r=>if ms.all (λm=>!m.h)=true then some (id,g,i,j,r) else none
 | _,_=>none
def xF(Γ:eR)(h:Nat->aX)(b:Nat)(f:FuncId)(xs:List AV):Option fI :=
 match AV.d8 h (Γ.md f) xs with
  | some vs=>match Γ f vs with
   | some r=>if r.hb.length<=16/\((r.bx.isEmpty&&r.gv.isEmpty)||r.al)=true/\((cy (Γ.md f) xs).flatMap AV.cp).Nodup/\((cT (Γ.md f) xs).flatMap AV.refs).Nodup/\
     (∀ id,id∈(cT (Γ.md f) xs).flatMap AV.refs->id∉(cy (Γ.md f) xs).flatMap AV.refs) then
     some ⟨r.v.sh b,Jp b (r.hb.map (aX.sh b))++JO ((cy (Γ.md f) xs).flatMap AV.cp) r.bx++Y0 h ((cT (Γ.md f) xs).flatMap AV.refs) r.gv ++
      (if r.al then fu h ((cy (Γ.md f) xs).flatMap AV.refs) else [])⟩ else none
   | none=>none
  | none=>none
def QD(Γ:eR)(ev:bc->AV)(h:Nat->aX)(b:Nat):eG->Option fI
 | .eY x=>some ⟨ev x,[]⟩
 | .pick c x y=>match ev c with
  | .c (.v (.bool true))=>some ⟨ev x,[]⟩
  | .c (.v (.bool false))=>some ⟨ev y,[]⟩
  | _=>none
 | .bin op x y=>match ev x,ev y with
  | .c (.v x),.c (.v y)=>match o4 op x y with
   | some v=>some ⟨.c (.v v),[]⟩
   | none=>none
  | _,_=>none
 | .im n neg x y=>match ev x,ev y with
  | .a xs,.a ys=>match qC xs,qC ys with
   | some l,some m=>if l.length=n/\m.length=n then some ⟨.c (.v (.bool (if neg then !decide (l=m) else decide (l=m)))),[]⟩ else none
   | _,_=>none
  | _,_=>none
 | .j1 neg x y=>match ev x,ev y with
  | .c (.v (.bool x)),.c (.v (.bool y))=>some ⟨.c (.v (.bool (if neg then !(x==y) else x==y))),[]⟩
  | _,_=>none
 | .not x=>match ev x with
  | .c (.v (.bool c))=>some ⟨.c (.v (.bool (!c))),[]⟩
  | _=>none
 | .neg x=>match ev x with
  | .c (.v (.int k n))=>some ⟨.c (.v (.int k (k.wrap (0-n)))),[]⟩
  | _=>none
 | .new _ zs=>some ⟨.p b 0 0,[(b,.box zs)]⟩
 | .box _ x n=>if(ev x).cells.length=n/\(ev x).st=true then some ⟨.p b 0 0,[(b,.box (ev x).cells)]⟩ else none
 | .load x n agg=>match ev x with
  | .p id i j=>match h id with
   | .box cs=>if i=0 then(match cut cs j n with
    | some l=>match nP agg l with
     | some v=>some ⟨v,[]⟩
     | none=>none
    | none=>none) else none
   | .sl _ _ m es=>if m.full=true then(match es[i]? with
    | some e=>match cut e j n with
     | some l=>match nP agg (dq m id i j l) with
      | some v=>some ⟨v,[]⟩
      | none=>none
     | none=>none
    | none=>none) else none
   | _=>none
  | .bq cs j id g p i=>if(h id).dG=some g then(match cut cs j n with
   | some l=>match nP agg (b3 id g p i j l) with
    | some v=>some ⟨v,[]⟩
    | none=>none
   | none=>none) else none
  | .q cs j=>match cut cs j n with
   | some l=>match nP agg (l.map .c) with
    | some v=>some ⟨v,[]⟩
    | none=>none
   | none=>none
  | _=>none
 | .store x v n=>if(ev v).cells.length=n/\(ev v).st=true then(match ev x with
  | .p id i j=>match h id with
   | .box cs=>if i=0/\j+n<=cs.length then some ⟨.u,[(id,.box (bB cs j (ev v).cells))]⟩ else none
   | .sl e sz .ow es=>match es[i]? with
    | some x=>match AV.ds h (ev v).cells with
     | some ds=>if j+n<=x.length/\id∉(ev v).refs then some ⟨.u,(id,.sl e sz .ow (es.set i (bB x j ds)))::fu h (ev v).refs⟩ else none
     | none=>none
    | none=>none
   | .sl e sz (.dp g t []) es=>match es[i]? with
    | some x=>match AV.ds h (ev v).cells with
     | some ds=>if j+n<=x.length/\AV.dM h id g i j (ev v).cells=true/\(ev v).dx.Nodup then some ⟨.u,(id,.sl e sz (.dp (g+1) t []) (es.set i (bB x j ds)))::jx (ev v).dx⟩ else none
     | none=>none
    | none=>none
   | _=>none
  | _=>none) else none
 | .lj x off=>match ev x with
  | .p id i j=>if(h id).alive then some ⟨.p id i (j+off),[]⟩ else none
  | .q cs j=>some ⟨.q cs (j+off),[]⟩
  | .bq cs j id g p i=>if(h id).dG=some g then some ⟨.bq cs (j+off) id g p i,[]⟩ else none
  | _=>none
 | .j9 x i sz=>match u2 (ev i) with
  | some i=>if 0<=i then(match ev x with
   | .c (.sl bt es)=>if bt=sz then(match es[i.toNat]? with
    | some e=>some ⟨.q e 0,[]⟩
    | none=>none) else none
   | .r bt id off len=>if bt=sz/\i.toNat<len/\(h id).alive=true then some ⟨.p id (off+i.toNat) 0,[]⟩ else none
   | .b (.sl bt es) id g p=>if bt=sz/\(h id).dG=some g then(match es[i.toNat]? with
    | some e=>some ⟨.bq e 0 id g p i.toNat,[]⟩
    | none=>none) else none
   | _=>none) else none
  | none=>none
 | .lY x off n agg=>match ev x with
  | .a cs=>match cut cs off n with
   | some l=>match nP agg l with
    | some v=>some ⟨v,[]⟩
    | none=>none
   | none=>none
  | _=>none
 | .build zs ps=>match nR ev zs ps with
  | some cs=>some ⟨.a cs,[]⟩
  | none=>none
 | .bO e sz ps=>match elems h ev sz ps with
  | some es=>if Γ.dp=true then(if iq h b ev 0 ps=true/\(ps.flatMap λx=>(ev x).dx).Nodup then
    some ⟨.r sz b 0 es.length,(b,.sl e sz (.dp 0 true []) es)::jx (ps.flatMap λx=>(ev x).dx)⟩ else none) else
   some ⟨.r sz b 0 es.length,(b,.sl e sz .ow es)::fu h (ps.flatMap λx=>(ev x).refs)⟩
  | none=>none
 | .mk e sz zs n=>match u2 (ev n),AV.ds h zs with
  | some n,some z=>if 0<=n/\n<=bP/\z.length=sz/\(Γ.dp=true->z.all D.pl=true) then
    some ⟨.r sz b 0 n.toNat,[(b,.sl e sz (if Γ.dp=true then .dp 0 true [] else .ow) (List.replicate n.toNat z))]⟩ else none
  | _,_=>none
 | .fO x lo hi sz =>
  match YY ev 0 lo with
  | some lo=>match ev x with
   | .c (.sl bt es)=>match YY ev es.length hi with
    | some hi=>if bt=sz/\0<=lo/\lo<=hi/\hi<=es.length then some ⟨.c (.sl sz ((es.drop lo.toNat).take (hi.toNat-lo.toNat))),[]⟩ else none
    | none=>none
   | .r bt id off len=>match YY ev len hi with
    | some hi=>if bt=sz/\0<=lo/\lo<=hi/\hi<=len/\(h id).alive=true then some ⟨.r sz id (off+lo.toNat) (hi.toNat-lo.toNat),[]⟩ else none
    | none=>none
   | .n _=>match YY ev 0 hi with
    | some hi=>if lo=0/\hi=0 then some ⟨.n sz,[]⟩ else none
    | none=>none
   | _=>none
  | none=>none
 | .len x=>match ev x with
  | .c (.sl _ es)=>some ⟨.c (.v (.int .i64 es.length)),[]⟩
  | .n _=>some ⟨.c (.v (.int .i64 0)),[]⟩
  | .r _ id _ len=>if(h id).alive then some ⟨.c (.v (.int .i64 len)),[]⟩ else none
  | .b (.sl _ es) id g _=>if(h id).dG=some g then some ⟨.c (.v (.int .i64 es.length)),[]⟩ else none
  | _=>none
 | .app s x e sz=>match(ev x).fP h sz with
  | some xs=>match ev s with
   | .n _=>if xs.length<=bP then(if Γ.dp=true then(if(ev x).dT h b 0 xs=true then some ⟨.r sz b 0 xs.length,jx ((ev x).dy h)++[(b,.sl e sz (.dp 0 true []) xs)]⟩ else none) else
     if(ev x).jy h xs=true then some ⟨.r sz b 0 xs.length,[(b,.sl e sz .ow xs)]⟩ else none) else none
   | .r _ id 0 len=>match h id with
    | .sl e' bt .ow es=>if e'=e/\bt=sz/\(len=es.length\/len+xs.length<=es.length)/\len+xs.length<=bP/\(ev x).jy h xs=true then
      some ⟨.r sz b 0 (len+xs.length),[(id,.dead),(b,.sl e sz .ow (es.take len++xs))]⟩ else none
    | .sl e' bt (.dp _ true []) es=>if e'=e/\bt=sz/\(len=es.length\/len+xs.length<=es.length)/\len+xs.length<=bP/\(ev x).dT h id len xs=true then
      some ⟨.r sz b 0 (len+xs.length),(id,.dead)::jx ((ev x).dy h)++[(b,.sl e sz (.dp 0 true []) (es.take len++xs))]⟩ else none
    | _=>none
   | _=>none
  | none=>none
 | .mm mx x y=>match ev x,ev y with
  | .c (.v (.int k x)),.c (.v (.int _ y))=>some ⟨.c (.v (.int k (if mx then(if x<y then y else x) else(if y<x then y else x)))),[]⟩
  | _,_=>none
 | .call f args=>match sw (Γ.md f) (args.map ev) with
  | some (id,g,i,j,r)=>xE Γ h b f id g i j r
  | none=>xF Γ h b f (args.map ev)
 | .ext x i=>match ev x with
  | .t vs=>match vs[i]? with
   | some v=>some ⟨v,[]⟩
   | none=>none
  | _=>none
 | .conv k x=>match ev x with
  | .c (.v (.int _ n))=>some ⟨.c (.v (.int k (k.wrap n))),[]⟩
  | _=>none
 | .gU x=>match ev x with
  | .p id i j=>if(h id).alive then some ⟨.p id i j,[]⟩ else none
  | .q cs j=>some ⟨.q cs j,[]⟩
  | .bq cs j id g p i=>if(h id).dG=some g then some ⟨.bq cs j id g p i,[]⟩ else none
  | _=>none
def bA(h:Nat->aX):List (Nat × aX)->Nat->aX
 | []=>h
 | (i,x)::r=>bA (bN h i x) r
def cY(t:Nat->AV):Option Nat->AV->Nat->AV
 | some d,x=>bN t d x
 | none,_=>t
def St.app(σ:St)(d:Option Nat)(e:fI):St:=⟨cY σ.t d e.val,bA σ.h e.gH,σ.nx⟩
inductive eU where
 | skip
 | ae (ops:List AO)
 | draw (ops:List AO) (U:List (Nat × Nat))
 | seq (x y:eU)
 | cond (c:bc) (x y:eU)
 | block (id:Nat) (x:eU)
 | loop (x:eU)
 | exit (id:Nat)
 | ret
inductive nS where
 | normal
 | exit (id:Nat)
 | ret
def ir(Γ:eR):List AO->(St->Prop)->St->Prop
 | [],K,σ=>K σ
 | o::r,K,σ=>match o.gd with
  | none=>match QD Γ (bc.ev σ.t) σ.h (σ.nx+o.off) o.op with
   | some e=>ir Γ r K (σ.app o.dst e)
   | none=>False
  | some (s,w)=>match σ.t s with
   | .c (.v (.bool c)) =>
    (c=w->match QD Γ (bc.ev σ.t) σ.h (σ.nx+o.off) o.op with
     | some e=>ir Γ r K (σ.app o.dst e)
     | none=>False)/\
    (c≠w->ir Γ r K ⟨cY σ.t o.dst (.t []),σ.h,σ.nx⟩)
   | .t []=>ir Γ r K ⟨cY σ.t o.dst (.t []),σ.h,σ.nx⟩
   | _=>False
def acc(ev:bc->AV):eG->List Nat
 | .load x _ _ | .lj x _ | .gU x=>match ev x with | .p id _ _=>[id] | .bq _ _ id _ _ _=>[id] | _=>[]
 | .j9 x _ _ | .fO x _ _ _ | .len x=>(ev x).refs
 | .store x v _=>(match ev x with | .p id _ _=>[id] | _=>[])++(ev v).refs
 | .bO _ _ ps=>ps.flatMap λx=>(ev x).refs
 | .mk _ _ zs _=>AV.bU zs
 | .app s x _ _=>(ev s).refs++(ev x).refs
 | .call _ args=>(args.flatMap λx=>(ev x).refs)++(args.flatMap λx=>(ev x).cp)
 | _=>[]
def keys(l:List (Nat × aX)):List Nat:=l.map (·.1)
def ZN(Γ:eR)(o:AO)(σ:St):Option (St × List Nat × List Nat) :=
 match o.gd with
 | none=>match QD Γ (bc.ev σ.t) σ.h (σ.nx+o.off) o.op with
  | some e=>some (σ.app o.dst e,acc (bc.ev σ.t) o.op,keys e.gH)
  | none=>none
 | some (s,w)=>match σ.t s with
  | .c (.v (.bool c))=>if c=w then(match QD Γ (bc.ev σ.t) σ.h (σ.nx+o.off) o.op with
   | some e=>some (σ.app o.dst e,acc (bc.ev σ.t) o.op,keys e.gH)
   | none=>none) else some (⟨cY σ.t o.dst (.t []),σ.h,σ.nx⟩,[],[])
  | .t []=>some (⟨cY σ.t o.dst (.t []),σ.h,σ.nx⟩,[],[])
  | _=>none
def Z0(Γ:eR):List AO->St->Option (St × List (List Nat × List Nat))
 | [],σ=>some (σ,[])
 | o::r,σ=>match ZN Γ o σ with
  | some (σ',a,w)=>match Z0 Γ r σ' with
   | some (σ'',l)=>some (σ'',(a,w)::l)
   | none=>none
  | none=>none
def mu(l m:List Nat):Bool:=l.all λx=>!(m.elem x)
def u3(log:List (List Nat × List Nat))(U:List (Nat × Nat)):Bool :=
 U.all λ(i,j)=>match log[i]?,log[j]? with
  | some (a,w),some (a',w')=>mu w (a'++w')&&mu w' a
  | _,_=>true
def St.dN(σ:St)(n:Nat):St:=⟨σ.t,σ.h,σ.nx+n⟩
def lk(Γ:eR):eU->(nS->St->Prop)->St->Prop
 | .skip,Q,σ=>Q .normal σ
 | .ae ops,Q,σ=>ir Γ ops (λσ'=>Q .normal (σ'.dN (16*ops.length))) σ
 | .draw ops U,Q,σ=>match Z0 Γ ops σ with
  | some (σ',log)=>u3 log U=true/\Q .normal (σ'.dN (16*ops.length))
  | none=>False
 | .seq x y,Q,σ=>lk Γ x (λe σ'=>match e with | .normal=>lk Γ y Q σ' | e=>Q e σ') σ
 | .cond c x y,Q,σ=>match c.ev σ.t with
  | .c (.v (.bool t))=>(t=true->lk Γ x Q σ)/\(t=false->lk Γ y Q σ)
  | _=>False
 | .block id x,Q,σ=>lk Γ x (λe σ'=>match e with | .exit cn=>if cn=id then Q .normal σ' else Q (.exit cn) σ' | e=>Q e σ') σ
 | .loop x,Q,σ=>∃(I:St->Prop)(μ:St->Nat),I σ/\∀ σ',I σ'->lk Γ x (λe σ''=>match e with | .normal=>I σ''/\μ σ''<μ σ' | e=>Q e σ'') σ'
 | .exit id,Q,σ=>Q (.exit id) σ
 | .ret,Q,σ=>Q .ret σ
end Go.Proofs.YtdplaepmjogjjaaGreat.Am
namespace Go.Proofs.YtdplaepmjogjjaaGreat.Am
open Go Go.RowKit
def cK(P:Program)(t:TypeId):Option Nat:=(P.info? t).map (·.size)
def nT(P:Program)(t:TypeId):Option Bool :=
 match P.underlying t with
 | some (.struct _)=>some true
 | some (.array _ _)=>some true
 | some _=>some false
 | none=>none
def gJ(P:Program)(t:TypeId):Option TypeId :=
 match P.underlying t with
 | some (.slice e)=>some e
 | _=>none
def Tu(P:Program):Nat->TypeId->List TypeId
 | 0,t=>[t]
 | k+1,t=>match P.underlying t with
  | some (.struct fs)=>fs.toList.flatMap λf=>Tu P k f.type
  | _=>[t]
def mv(P:Program)(t:TypeId):Value->AV
 | .slice none 0 0=>.n (((gJ P t).bind (cK P)).getD 0)
 | v=>.c (.v v)
def sx(P:Program)(ts:List TypeId):List Value->List AV
 | []=>[]
 | v::vs=>mv P (ts.headD 0) v::sx P ts.tail vs
def ln(P:Program)(t:TypeId):Value->Option AV
 | .agg cs=>if cs.toList.all (·.oneCell') then some (.a (sx P (Tu P 8 t) cs.toList)) else none
 | v=>if v.oneCell' then some (mv P t v) else none
def cO(P:Program)(t:TypeId):Operand->Option bc
 | .tmp i=>some (.s i)
 | .const v=>(ln P t v).map .k
 | _=>none
def u4(P:Program):Option Operand->Option (Option bc)
 | some l=>(cO P 0 l).map some
 | none=>some none
def u5(P:Program):List TypeId->List Operand->Option (List bc)
 | _,[]=>some []
 | ts,x::xs=>match cO P (ts.headD 0) x,u5 P ts.tail xs with
  | some y,some ys=>some (y::ys)
  | _,_=>none
def JG(P:Program)(t:TypeId):Option (List AV) :=
 match P.info? t with
 | some i=>match i.zero with
  | some z=>match ln P t z with
   | some x=>some x.cells
   | none=>none
  | none=>none
 | none=>none
def u6(P:Program)(fs:List Field):List (Nat × Operand)->Option (List (Nat × Nat × bc))
 | []=>some []
 | (i,x)::r=>match fs[i]? with
  | some f=>match cK P f.type,cO P f.type x,u6 P fs r with
   | some n,some y,some ys=>some ((f.offset,n,y)::ys)
   | _,_,_=>none
  | none=>none
def o5(P:Program)(e:TypeId):Nat->List (Nat × Operand)->Option (List bc)
 | _,[]=>some []
 | k,(i,x)::r=>if i=k then(match cO P e x,o5 P e (k+1) r with
  | some y,some ys=>some (y::ys)
  | _,_=>none) else none
def Cb(P:Program)(fs:List Field)(k:Nat):Bool :=
 match fs with
 | []=>true
 | f :: r => f.name != "_" && f.offset == k && cK P f.type == some 1 && (match P.underlying f.type with | some (.int _) => true | _ => false) && Cb P r (k + 1)
def Hw(P:Program)(t:TypeId):Option Nat :=
 match P.underlying t with
 | some (.struct fs)=>if Cb P fs.toList 0&&!P.eqGuardType P.depth t&&!P.stoodInHeld t then some fs.size else none
 | _=>none
def Tv(P:Program):Builtin->List Operand->List TypeId->Option eG
 | .len,[x],[t]=>match P.underlying t,cO P t x with
  | some (.slice _),some x=>some (.len x)
  | _,_=>none
 | .append,[s,x],[t,t']=>if t=t' then(match gJ P t with
  | some e=>match cK P e,cO P t s,cO P t x,P.info? e with
   | some sz,some s,some x,some i=>if 0<sz/\i.bytes<=32768/\(JG P e).map (·.length)=some sz then some (.app s x e sz) else none
   | _,_,_,_=>none
  | none=>none) else none
 | .min,[x,y],[t,t']=>match cO P t x,cO P t' y with
  | some x,some y=>some (.mm false x y)
  | _,_=>none
 | .max,[x,y],[t,t']=>match cO P t x,cO P t' y with
  | some x,some y=>some (.mm true x y)
  | _,_=>none
 | _,_,_=>none
def xG(P:Program)(o:Oper):Option eG :=
 match o.op with
 | .move x | .assign x=>(cO P o.type x).map .eY
 | .pick c x y=>match cO P o.type c,cO P o.type x,cO P o.type y with
  | some c,some x,some y=>some (.pick c x y)
  | _,_,_=>none
 | .alloc e=>(JG P e).map (.new e)
 | .box e x=>match cO P e x,cK P e with
  | some x,some n=>some (.box e x n)
  | _,_=>none
 | .build t ps=>match P.underlying t with
  | some (.struct fs)=>match JG P t,u6 P fs.toList ps.toList with
   | some zs,some ps=>if fs.toList.all (λf=>(cK P f.type).isSome) then some (.build zs ps) else none
   | _,_=>none
  | _=>none
 | .buildSlice t n ps=>match gJ P t with
  | some e=>match cK P e,o5 P e 0 ps.toList with
   | some sz,some xs=>if xs.length=n/\0<sz/\n*sz<=16777216/\(JG P e).isSome=true then some (.bO e sz xs) else none
   | _,_=>none
  | none=>none
 | .load t x=>match cO P 0 x,cK P t,nT P t with
  | some x,some n,some agg=>some (.load x (if agg then n else 1) agg)
  | _,_,_=>none
 | .store t x v=>match cO P 0 x,cO P t v,cK P t with
  | some x,some v,some n=>some (.store x v n)
  | _,_,_=>none
 | .fieldAddr s x i=>match P.underlying s with
  | some (.struct fs)=>match fs[i]? with
   | some f=>match cK P f.type,cO P 0 x with
    | some n,some x=>if n≠0 then some (.lj x f.offset) else none
    | _,_=>none
   | none=>none
  | _=>none
 | .field s x i=>match P.underlying s with
  | some (.struct fs)=>match fs[i]? with
   | some f=>match cK P f.type,nT P f.type,cO P s x with
    | some n,some agg,some x=>some (.lY x f.offset (if agg then n else 1) agg)
    | _,_,_=>none
   | none=>none
  | _=>none
 | .indexAddr t x i=>match gJ P t with
  | some e=>match cK P e,cO P t x,cO P 0 i with
   | some sz,some x,some i=>if 0<sz then some (.j9 x i sz) else none
   | _,_,_=>none
  | none=>none
 | .makeSlice t (.tmp l) (.tmp c)=>if l=c then(match gJ P t with
  | some e=>match cK P e,JG P e,P.info? e with
   | some sz,some zs,some i=>if 0<sz/\i.bytes<=32768 then some (.mk e sz zs (.s l)) else none
   | _,_,_=>none
  | none=>none) else none
 | .slice t x lo hi none=>match gJ P t with
  | some e=>match cK P e,cO P t x,u4 P lo,u4 P hi with
   | some sz,some x,some lo,some hi=>if 0<sz then some (.fO x lo hi sz) else none
   | _,_,_,_=>none
  | none=>none
 | .binOp op t x y ty=>match cO P t x,cO P ty y with
  | some x,some y=>match Hw P t with
   | some n=>(match op with
    | .eql=>some (.im n false x y)
    | .neq=>some (.im n true x y)
    | _=>none)
   | none=>(match P.underlying t with
   | some (.int _)=>some (.bin op x y)
   | some .bool=>match op with
    | .eql=>some (.j1 false x y)
    | .neq=>some (.j1 true x y)
    | _=>none
   | some .string=>some (.bin op x y)
   | _=>none)
  | _,_=>none
 | .unOp .not t x=>(cO P t x).map .not
 | .unOp .neg t x=>(cO P t x).map .neg
 | .convert s d x=>match P.underlying s,P.underlying d,cO P s x with
  | some (.int _),some (.int k),some x=>some (.conv k x)
  | _,_,_=>none
 | .extract x i=>(cO P 0 x).map (.ext · i)
 | .nilCheck x=>(cO P 0 x).map .gU
 | .call c=>match c.callee with
  | .value (.func f)=>match P.funcs[f]?,u5 P c.argTypes.toList c.args.toList with
   | some fn, some xs => if fn.body.isSome = true ∧ (fn.name == "runtime.NumGoroutine") = false then some (.call f xs) else none
   | _,_=>none
  | .builtin b=>Tv P b c.args.toList c.argTypes.toList
  | _=>none
 | _=>none
def u7(ops:Array Oper):Option (Nat × Bool)->Option (Option (Nat × Bool))
 | none=>some none
 | some (j,b)=>match(ops[j]?).bind (·.dst) with
  | some s=>some (some (s,b))
  | none=>none
def xH(N:Nat)(dst:Option Nat)(gd:Option (Nat × Bool)):Bool :=
 (match dst with | some d=>decide (d<N) | none=>true)&&(match gd with | some (s,_)=>decide (s<N) | none=>true)
def u9(P:Program)(N:Nat)(ops:Array Oper)(o:Oper)(i:Nat):Option AO :=
 match xG P o,u7 ops o.guard with
 | some op,some gd=>if xH N o.dst gd=true then some ⟨o.dst,op,gd,16*i⟩ else none
 | _,_=>none
def o6(P:Program)(N:Nat)(ops:Array Oper):List Oper->Nat->Option (List AO)
 | [],_=>some []
 | o::r,i=>match u9 P N ops o i,o6 P N ops r (i+1) with
  | some x,some xs=>some (x::xs)
  | _,_=>none
def bc.bR:bc->List Nat
 | .s i=>[i]
 | .k _=>[]
def eG.bR:eG->List Nat
 | .eY x | .not x | .neg x | .box _ x _ | .load x _ _ | .lj x _ | .lY x _ _ _ | .len x | .ext x _ | .conv _ x | .gU x | .mk _ _ _ x=>x.bR
 | .pick c x y=>c.bR++x.bR++y.bR
 | .bin _ x y | .im _ _ x y | .j1 _ x y | .store x y _ | .j9 x y _ | .app x y _ _ | .mm _ x y=>x.bR++y.bR
 | .new _ _=>[]
 | .build _ ps=>ps.flatMap λx=>x.2.2.bR
 | .bO _ _ ps=>ps.flatMap bc.bR
 | .fO x lo hi _=>x.bR++(match lo with | some l=>l.bR | none=>[])++(match hi with | some l=>l.bR | none=>[])
 | .call _ args=>args.flatMap bc.bR
def AO.reads(o:AO):List Nat:=o.op.bR++(match o.gd with | some (s,_)=>[s] | none=>[])
def AO.free(o p:AO):Bool :=
 (match o.dst with | some d=>!(p.reads.elem d)&&(match p.dst with | some d'=>d != d' | none=>true) | none=>true)&&(match p.dst with | some d=>!(o.reads.elem d) | none=>true)
def JZ(o:Oper):List Nat:=(o.after.toList.filter λe=>Region.binds .any e).map λe=>e.on
def sy:List Oper->List (List Nat)->List (List Nat)
 | [],acc=>acc
 | o::r,acc=>sy r (acc++[((JZ o).flatMap λk=>k::(acc[k]?).getD []).eraseDups])
def lq(ops:Array Oper):List (List Nat):=sy ops.toList []
def sA(ops:Array Oper)(j i:Nat):Bool:=(((lq ops)[i]?).getD []).elem j
def Tw(tab:List (List Nat))(n:Nat):List (Nat × Nat) :=
 (List.range n).flatMap λi=>(List.range i).filterMap λj=>if((tab[i]?).getD []).elem j then none else some (j,i)
def Yu(ops:Array Oper):List (Nat × Nat):=Tw (lq ops) ops.size
def eG.cZ:eG->Bool
 | .load .. | .store .. | .bO .. | .app .. | .call .. | .new .. | .box .. | .mk .. | .lj .. | .gU .. | .j9 .. | .fO .. | .len ..=>true
 | _=>false
def eG.writes:eG->Bool
 | .store .. | .bO .. | .app .. | .call .. | .new .. | .box .. | .mk ..=>true
 | _=>false
def Hx(ops:Array Oper):Bool :=
 (List.range ops.size).all λi=>match ops[i]? with
  | some o=>o.after.all λe=>!Region.binds .any e||decide (e.on<i)
  | none=>true
def Tx(l:List AO)(U:List (Nat × Nat)):Bool :=
 U.all λ(i,j)=>match l[i]?,l[j]? with | some o,some p=>o.free p | _,_=>false
def Hy(l:List AO)(U:List (Nat × Nat)):List (Nat × Nat) :=
 U.filter λ(i,j)=>match l[i]?,l[j]? with | some o,some p=>o.op.cZ&&p.op.cZ&&(o.op.writes||p.op.writes) | _,_=>true
def comp(P:Program)(N:Nat):Code->Option eU
 | .skip=>some .skip
 | .region _ ops draw=>match o6 P N ops ops.toList 0 with
  | some l=>if draw then
    (if(Tx l (Yu ops)&&Hx ops)=true then some (.draw l (Hy l (Yu ops))) else none)
   else some (.ae l)
  | none=>none
 | .seq x y=>match comp P N x,comp P N y with
  | some x,some y=>some (.seq x y)
  | _,_=>none
 | .cond c x y=>match cO P 0 c,comp P N x,comp P N y with
  | some c,some x,some y=>some (.cond c x y)
  | _,_,_=>none
 | .block id x=>(comp P N x).map (.block id)
 | .loop x=>(comp P N x).map .loop
 | .exit id=>some (.exit id)
 | .ret=>some .ret
 | _=>none
end Go.Proofs.YtdplaepmjogjjaaGreat.Am
namespace Go.Proofs.YtdplaepmjogjjaaGreat.Am
open Go Go.RowKit
theorem xI{P:Program}{t:TypeId}{n:Nat}(h:cK P t=some n):∃ i,P.info? t=some i/\i.size=n:=by
 unfold cK at h;obtain⟨i,h1,h2⟩:=Option.map_eq_some_iff.1 h;exact⟨i,h1,h2⟩
theorem o7{P:Program}{t:TypeId}{n:Nat}(h:cK P t=some n)(w:World):(sizeOf t).run P w = .ok n w:=by
 obtain⟨i,h1,h2⟩:=xI h;simp[sizeOf,typeInfo,h1,h2]
theorem nU{P:Program}{t e:TypeId}(h:gJ P t=some e):P.underlying t=some (.slice e):=by
 unfold gJ at h
 split at h
 ·rename_i e' h1;cases h;exact h1
 ·cases h
theorem vb{P:Program}{t:TypeId}{b:Bool}(h:nT P t=some b)(w:World):(isAgg t).run P w = .ok b w:=by
 unfold nT at h
 split at h
 ·rename_i fs h1;cases h;simp[isAgg,run_underlying h1]
 ·rename_i n e h1;cases h;simp[isAgg,run_underlying h1]
 ·rename_i d fR nV h1
  cases h
  cases d <;> first
   | exact absurd rfl (fR _)
   | exact absurd rfl (nV _ _)
   | simp[isAgg,run_underlying h1]
 ·cases h
theorem Ty{P:Program}{t:TypeId}{v:Value}(h1:v.oneCell'=true){w:World}{F:Nat->Prop}{ι:Io}{h:Nat->aX}:VR w F ι h v (mv P t v):=by
 unfold mv
 split
 ·exact .n _
 ·exact .c _ _ (.v _ h1)
theorem Hz{P:Program}:∀(vs:List Value)(ts:List TypeId)(k:Nat)(v:Value)(x:AV),vs[k]? = some v->(sx P ts vs)[k]? = some x->∃ t,x=mv P t v
 | [],_,k,v,x,h,_=>by simp at h
 | y::ys,ts,0,v,x,h,h'=>by
  simp[sx]at h h';exact⟨_,by rw[<- h',<- h]⟩
 | y::ys,ts,k+1,v,x,h,h'=>by
  simp[sx]at h h';exact Hz ys ts.tail k v x h h'
theorem HA{P:Program}:∀(vs:List Value)(ts:List TypeId),(sx P ts vs).length=vs.length
 | [],_=>rfl
 | _::ys,ts=>by simp[sx,HA ys ts.tail]
theorem Tz{P:Program}{t:TypeId}{v:Value}{x:AV}(hx:ln P t v=some x){w:World}{F:Nat->Prop}{ι:Io}{h:Nat->aX}:VR w F ι h v x:=by
 unfold ln at hx
 split at hx
 ·rename_i cs
  split at hx
  ·rename_i eN
   cases hx;have h1:∀(k:Nat)(v:Value),cs[k]? = some v->v.oneCell'=true:=by
    intro k v hk;have:v∈cs.toList:=by
     obtain⟨aY,he⟩:=Array.getElem?_eq_some_iff.1 hk;rw[<- he];simp
    exact List.all_eq_true.1 eN v this
   refine .a _ _ (by rw[HA];simp) h1 (λk v x hk hx=>?_);obtain⟨t',rfl⟩:=Hz cs.toList _ k v x (by simpa using hk) hx;exact Ty (h1 k v hk)
  ·cases hx
 ·split at hx
  ·rename_i h1
   cases hx;exact Ty h1
  ·cases hx
theorem ZL{C:Ctx}{U:Nat->Prop}{σ:St}{a:Act}{w:World}{ι:Io}(S:Sat C U σ a w ι){t:TypeId}{x:Operand}{y:bc}(h:cO C.P t x=some y) :
  VR w (Fz C w ι σ.h) ι σ.h (a.eval x) (y.ev σ.t):=by
 unfold cO at h
 split at h
 ·cases h;exact S.bz _
 ·obtain⟨z,hz,rfl⟩:=Option.map_eq_some_iff.1 h;exact Tz hz
 ·cases h
theorem Zx{C:Ctx}{U U':Nat->Prop}{σ:St}{a:Act}{w:World}{ι:Io}(S:Sat C U σ a w ι){o:Oper}{v:Value}{x:AV}{Q:Exit->Act->World->Prop}
  (hd:∀ d,o.dst=some d->d<C.N) (bW:∀ i,U' i->U i)
  (cB:(execOp a.eval o).run C.P w = .ok (.value v) w) (hv:VR w (Fz C w ι σ.h) ι σ.h v x) :
  o.wp C.P a w (λa' w'=>cJ C U' (σ.app o.dst ⟨x,[]⟩) a' w') Q:=by
 unfold Oper.wp;rw[cB];simp only[Oper.upon];refine⟨ι,?_⟩;have S':Sat C U' σ a w ι:={ S with fresh:=λi hi=>S.fresh i (bW i hi) }
 cases ho:o.dst with
 | none=>simpa[St.app,cY,bA,Act.put]using S'
 | some d=>simpa[St.app,cY,bA]using S'.put d (hd d ho) v x hv
theorem VR.int{w:World}{F:Nat->Prop}{ι:Io}{h:Nat->aX}{v x:Value}(hv:VR w F ι h v (.c (.v x))):v=x:=by
 cases hv with
 | c v d hr=>cases hr;rfl
theorem fy{w:World}{F:Nat->Prop}{ι:Io}{h:Nat->aX}{x:Value}(h1:x.oneCell'=true):VR w F ι h x (.c (.v x)):=.c _ _ (.v _ h1)
theorem HC{w:World}{F:Nat->Prop}{ι:Io}{h:Nat->aX}{v:Value}{x:AV}{n:Int}(hv:VR w F ι h v x)(hx:u2 x=some n):∃ k,v = .int k n:=by
 unfold u2 at hx
 split at hx
 ·rename_i k m
  cases hx;exact⟨k,hv.int⟩
 ·cases hx
theorem TA{C:Ctx}{U:Nat->Prop}{σ:St}{a:Act}{w:World}{ι:Io}(S:Sat C U σ a w ι):∀ {ts:List TypeId} {xs:List Operand} {ys:List bc},u5 C.P ts xs=some ys->
  xs.length=ys.length/\∀(k:Nat)(x:Operand)(y:bc),xs[k]? = some x->ys[k]? = some y->VR w (Fz C w ι σ.h) ι σ.h (a.eval x) (y.ev σ.t)
 | ts,[],ys,h=>by simp[u5]at h;subst h;simp
 | ts,x::xs,ys,h=>by
  unfold u5 at h
  split at h
  ·rename_i y l6 h1 h2
   cases h;obtain⟨hl,hh⟩:=TA S h2;refine⟨by simp[hl],λk x' y' hk eQ=>?_⟩
   cases k with
   | zero=>simp at hk eQ;subst hk;subst eQ;exact ZL S h1
   | succ k=>simp at hk eQ;exact hh k x' y' hk eQ
  ·cases h
theorem QPT{P:Program}{w:World}{op:BinOp}{x y z:Value}{t:TypeId}(h:o4 op x y=some z):(binOp op t x y).run P w = .ok z w/\z.oneCell'=true:=by
 unfold o4 at h
 split at h
 ·rename_i k x k' y
  split at h
  ·split at h
   ·cases h
   ·rename_i h1
    cases h;simp[binOp,Op.shift,h1,Value.oneCell']
  ·split at h
   ·cases h
   ·rename_i h1
    cases h;simp[binOp,Op.shift,h1,Value.oneCell']
  ·split at h
   ·rename_i amM sB hk;subst hk
    split at h
    any_goals (cases h;simp[binOp,Op.intArith,Op.intBits,Op.intCmp,Value.oneCell'];done)
    ·split at h
     ·cases h
     ·rename_i h1;cases h;simp[binOp,Op.intDiv,h1,Value.oneCell']
    ·split at h
     ·cases h
     ·rename_i h1;cases h;simp[binOp,Op.intDiv,h1,Value.oneCell']
    ·cases h
   ·cases h
 ·rename_i x y
  split at h <;> first
   | (cases h;simp[binOp,Op.stringOp,Value.oneCell'];done)
   | cases h
 ·cases h
theorem TB{P:Program}{w:World}{op:BinOp}{t:TypeId}{x y:Operand}{v u:Value}(h1:v.oneCell'=true)(h2:v≠.nilIface):(eqGuard op t x y v u).run P w = .ok () w:=by
 cases v <;> cases op <;> first
  | exact absurd rfl h2
  | (simp[Value.oneCell']at h1;done)
  | simp[eqGuard]
theorem JE(bk o k:Nat):(⟨bk,o,Option.none⟩:Addr).add k=⟨bk,o+k,Option.none⟩:=by
 unfold Addr.add;split <;> simp_all
theorem vc{α:Type}{l m:List α}{j n:Nat}(h:cut l j n=some m):j+n<=l.length/\m=(l.drop j).take n:=by
 unfold cut at h
 split at h
 ·cases h;exact⟨by assumption,rfl⟩
 ·cases h
theorem xJ{α:Type}{l m:List α}{j n:Nat}(h:cut l j n=some m):m.length=n/\∀ k:Nat,k<n->m[k]? = l[j+k]?:=by
 obtain⟨h1,rfl⟩:=vc h;refine⟨by simp;omega,λk hk=>?_⟩;rw[List.getElem?_take,if_pos hk,List.getElem?_drop]
section
variable {C:Ctx} {U U':Nat->Prop} {σ:St} {a:Act} {w:World} {ι:Io} {o:Oper} {Q:Exit->Act->World->Prop} {Γ:eR} {b:Nat} {e:fI}
variable (S:Sat C U σ a w ι) (hd:∀ d,o.dst=some d->d<C.N) (bW:∀ i,U' i->U i)
include S hd bW
theorem TC{x:Operand}{y:bc}{t:TypeId}(ho:o.op = .move x\/o.op = .assign x)(hx:cO C.P t x=some y)(he:QD Γ (bc.ev σ.t) σ.h b (.eY y)=some e) :
  o.wp C.P a w (λa' w'=>cJ C U' (σ.app o.dst e) a' w') Q:=by
 simp only[QD,Option.some.injEq]at he;subst he;refine Zx S hd bW (v:=a.eval x) ?_ (ZL S hx)
 rcases ho with ho | ho <;> simp[execOp,ho]
theorem QZW{c x y:Operand}{c' x' y':bc}{t:TypeId}(ho:o.op = .pick c x y)(hc:cO C.P t c=some c')(hx:cO C.P t x=some x')(hy:cO C.P t y=some y')(he:QD Γ (bc.ev σ.t) σ.h b (.pick c' x' y')=some e) :
  o.wp C.P a w (λa' w'=>cJ C U' (σ.app o.dst e) a' w') Q:=by
 have h1:=ZL S hc;simp only[QD]at he
 split at he
 ·rename_i h2
  cases he;rw[h2]at h1;exact Zx S hd bW (v:=a.eval x) (by simp[execOp,ho,h1.int,asBool]) (ZL S hx)
 ·rename_i h2
  cases he;rw[h2]at h1;exact Zx S hd bW (v:=a.eval y) (by simp[execOp,ho,h1.int,asBool]) (ZL S hy)
 ·cases he
theorem TD{op:BinOp}{x y:Operand}{x' y':bc}{t ty:TypeId}(ho:o.op = .binOp op t x y ty)(hx:cO C.P t x=some x')(hy:cO C.P ty y=some y')(he:QD Γ (bc.ev σ.t) σ.h b (.bin op x' y')=some e) :
  o.wp C.P a w (λa' w'=>cJ C U' (σ.app o.dst e) a' w') Q:=by
 have h1:=ZL S hx;have h2:=ZL S hy;simp only[QD]at he
 split at he
 ·rename_i v u hv hu
  split at he
  ·rename_i z hz
   cases he;rw[hv]at h1;rw[hu]at h2;obtain⟨hr,hz1⟩:=QPT (P:=C.P) (w:=w) (t:=t) hz;have jz:v.oneCell'=true/\v≠.nilIface:=by
    unfold o4 at hz
    split at hz <;> first | exact⟨rfl,by simp⟩ | cases hz
   refine Zx S hd bW (v:=z) ?_ (fy hz1);simp[execOp,ho,h1.int,h2.int,TB jz.1 jz.2,hr]
  ·cases he
 ·cases he
theorem TF{neg:Bool}{x y:Operand}{x' y':bc}{t ty:TypeId}(ho:o.op = .binOp (if neg then .neq else .eql) t x y ty)(ht:C.P.underlying t=some .bool)(hx:cO C.P t x=some x')(hy:cO C.P ty y=some y')(he:QD Γ (bc.ev σ.t) σ.h b (.j1 neg x' y')=some e) :
  o.wp C.P a w (λa' w'=>cJ C U' (σ.app o.dst e) a' w') Q:=by
 have h1:=ZL S hx;have h2:=ZL S hy;simp only[QD]at he
 split at he
 ·rename_i v u hv hu
  cases he;rw[hv]at h1;rw[hu]at h2;refine Zx S hd bW (v:=.bool (if neg then !(v==u) else v==u)) ?_ (fy rfl);have hg:∀ op,(eqGuard op t x y (.bool v) (.bool u)).run C.P w = .ok () w:=λop=>TB (by rfl) (by simp)
  cases neg <;> simp[execOp,ho,h1.int,h2.int,hg,binOp,run_equal_bool w t v u ht]
 ·cases he
theorem QLX{x:Operand}{x':bc}{t:TypeId}(ho:o.op = .unOp .not t x)(hx:cO C.P t x=some x')(he:QD Γ (bc.ev σ.t) σ.h b (.not x')=some e) :
  o.wp C.P a w (λa' w'=>cJ C U' (σ.app o.dst e) a' w') Q:=by
 have h1:=ZL S hx;simp only[QD]at he
 split at he
 ·rename_i v hv
  cases he;rw[hv]at h1;exact Zx S hd bW (v:=.bool (!v)) (by simp[execOp,ho,h1.int,Op.unary]) (fy rfl)
 ·cases he
theorem QP9{x:Operand}{x':bc}{t:TypeId}(ho:o.op = .unOp .neg t x)(hx:cO C.P t x=some x')(he:QD Γ (bc.ev σ.t) σ.h b (.neg x')=some e) :
  o.wp C.P a w (λa' w'=>cJ C U' (σ.app o.dst e) a' w') Q:=by
 have h1:=ZL S hx;simp only[QD]at he
 split at he
 ·rename_i k n hv
  cases he;rw[hv]at h1;exact Zx S hd bW (v:=.int k (k.wrap (0-n))) (by simp[execOp,ho,h1.int,Op.unary,Op.intArith]) (fy rfl)
 ·cases he
theorem QSz{x:Operand}{x':bc}{i:Nat}{t:TypeId}(ho:o.op = .extract x i)(hx:cO C.P t x=some x')(he:QD Γ (bc.ev σ.t) σ.h b (.ext x' i)=some e) :
  o.wp C.P a w (λa' w'=>cJ C U' (σ.app o.dst e) a' w') Q:=by
 have h1:=ZL S hx;simp only[QD]at he
 split at he
 ·rename_i vs hv
  split at he
  ·rename_i z hz
   cases he;rw[hv]at h1;generalize cG:a.eval x=av at h1
   cases h1 with
   | t us _ hl d6 =>
    have aY:i<us.size:=by rw[hl];exact(List.getElem?_eq_some_iff.1 hz).1
    have hu:us[i]? = some us[i]:=Array.getElem?_eq_getElem aY;exact Zx S hd bW (v:=us[i]) (by simp[execOp,ho,cG,Instr.extract,hu]) (d6 i _ z hu hz)
  ·cases he
 ·cases he
theorem QSZ{x:Operand}{x':bc}{s d:TypeId}{k:IntKind}{k0:IntKind}(ho:o.op = .convert s d x)(hs:C.P.underlying s=some (.int k0))(fm:C.P.underlying d=some (.int k))(hx:cO C.P s x=some x')(he:QD Γ (bc.ev σ.t) σ.h b (.conv k x')=some e) :
  o.wp C.P a w (λa' w'=>cJ C U' (σ.app o.dst e) a' w') Q:=by
 have h1:=ZL S hx;simp only[QD]at he
 split at he
 ·rename_i k1 n hv
  cases he;rw[hv]at h1;exact Zx S hd bW (v:=.int k (k.wrap n)) (by simp[execOp,ho,h1.int,convert,run_underlying hs,run_underlying fm,Conv.intToInt]) (fy rfl)
 ·cases he
theorem QL5{x:Operand}{x':bc}{t:TypeId}(ho:o.op = .nilCheck x)(hx:cO C.P t x=some x')(he:QD Γ (bc.ev σ.t) σ.h b (.gU x')=some e) :
  o.wp C.P a w (λa' w'=>cJ C U' (σ.app o.dst e) a' w') Q:=by
 have h1:=ZL S hx;simp only[QD]at he
 split at he
 ·rename_i id i j hv
  split at he
  ·rename_i dY
   cases he;rw[hv]at h1;have gG:=h1;generalize cG:a.eval x=av at h1 gG
   cases h1 with
   | dg v _ _ _ _ fm=>rw[fm]at dY;simp[aX.alive]at dY
   | p _ _ _ bk hi hn d9=>exact Zx S hd bW (by simp[execOp,ho,cG]) gG
  ·cases he
 ·rename_i cs j hv
  cases he;rw[hv]at h1;have gG:=h1;generalize cG:a.eval x=av at h1 gG
  cases h1 with
  | q bk o' j cs x hb hc hr=>exact Zx S hd bW (by simp[execOp,ho,cG]) gG
 ·rename_i cs j id g p i hv
  split at he
  ·rename_i hg
   cases he;rw[hv]at h1;obtain⟨bk,o',cur,e0,cG,_⟩:=h1.su hg;exact Zx S hd bW (by simp[execOp,ho,cG]) h1
  ·cases he
 ·cases he
theorem xK{mx:Bool}{x y:Operand}{x' y':bc}{t t':TypeId}(ho:o.op = .call { callee:=.builtin (if mx then .max else .min),args:=#[x,y],argTypes:=#[t,t'] })(hx:cO C.P t x=some x')(hy:cO C.P t' y=some y')(he:QD Γ (bc.ev σ.t) σ.h b (.mm mx x' y')=some e) :
  o.wp C.P a w (λa' w'=>cJ C U' (σ.app o.dst e) a' w') Q:=by
 have h1:=ZL S hx;have h2:=ZL S hy;simp only[QD]at he
 split at he
 ·rename_i k v k' u hv hu
  cases he;rw[hv]at h1;rw[hu]at h2;refine Zx S hd bW (v:=.int k (if mx then(if v<u then u else v) else(if u<v then u else v))) ?_ (fy rfl)
  cases mx <;> simp[execOp,ho,h1.int,h2.int,resolve,invoke,builtin,Builtin.min_,Builtin.max_,Builtin.min2,Builtin.max2]
 ·cases he
theorem Q2C{x:Operand}{x':bc}{t e':TypeId}(ho:o.op = .call { callee:=.builtin .len,args:=#[x],argTypes:=#[t] })(ht:C.P.underlying t=some (.slice e'))(hx:cO C.P t x=some x')(he:QD Γ (bc.ev σ.t) σ.h b (.len x')=some e) :
  o.wp C.P a w (λa' w'=>cJ C U' (σ.app o.dst e) a' w') Q:=by
 have h1:=ZL S hx;simp only[QD]at he
 split at he
 all_goals (try cases he)
 ·rename_i sz es hv;rw[hv]at h1;generalize cG:a.eval x=av at h1
  cases h1 with
  | c v d hr =>
   cases hr with
   | nil=>exact Zx S hd bW (v:=.int .i64 0) (by simp[execOp,ho,cG,resolve,invoke,builtin,Builtin.len_,run_underlying ht,goInt]) (fy rfl)
   | emp=>exact Zx S hd bW (v:=.int .i64 0) (by simp[execOp,ho,cG,resolve,invoke,builtin,Builtin.len_,run_underlying ht,goInt]) (fy rfl)
   | sl b o len cap _ es x hlen=>subst hlen;exact Zx S hd bW (v:=.int .i64 es.length) (by simp[execOp,ho,cG,resolve,invoke,builtin,Builtin.len_,run_underlying ht,goInt]) (fy rfl)
 ·rename_i sz hv;rw[hv]at h1;generalize cG:a.eval x=av at h1
  cases h1 with
  | n=>exact Zx S hd bW (v:=.int .i64 0) (by simp[execOp,ho,cG,resolve,invoke,builtin,Builtin.len_,run_underlying ht,goInt]) (fy rfl)
 ·rename_i sz id off len hv
  split at he
  ·rename_i dY
   cases he;rw[hv]at h1;generalize cG:a.eval x=av at h1
   cases h1 with
   | cI v _ _ _ _ _ fm=>rw[fm]at dY;simp[aX.alive]at dY
   | cW=>exact Zx S hd bW (v:=.int .i64 0) (by simp[execOp,ho,cG,resolve,invoke,builtin,Builtin.len_,run_underlying ht,goInt]) (fy rfl)
   | dz=>exact Zx S hd bW (v:=.int .i64 0) (by simp[execOp,ho,cG,resolve,invoke,builtin,Builtin.len_,run_underlying ht,goInt]) (fy rfl)
   | r=>exact Zx S hd bW (v:=.int .i64 len) (by simp[execOp,ho,cG,resolve,invoke,builtin,Builtin.len_,run_underlying ht,goInt]) (fy rfl)
  ·cases he
 ·rename_i sz es id g p hv
  split at he
  ·rename_i hg
   cases he;rw[hv]at h1;obtain⟨hr,_⟩:=h1.Ca hg;generalize cG:a.eval x=av at hr
   cases hr with
   | nil=>exact Zx S hd bW (v:=.int .i64 0) (by simp[execOp,ho,cG,resolve,invoke,builtin,Builtin.len_,run_underlying ht,goInt]) (fy rfl)
   | emp=>exact Zx S hd bW (v:=.int .i64 0) (by simp[execOp,ho,cG,resolve,invoke,builtin,Builtin.len_,run_underlying ht,goInt]) (fy rfl)
   | sl _ b o len cap _ es cur e0 x hz dk hlen=>subst hlen;exact Zx S hd bW (v:=.int .i64 es.length) (by simp[execOp,ho,cG,resolve,invoke,builtin,Builtin.len_,run_underlying ht,goInt]) (fy rfl)
  ·cases he
theorem QYK{x:Operand}{x':bc}{s i n:Nat}{fs:Array Field}{f:Field}(ho:o.op = .fieldAddr s x i)(hs:C.P.underlying s=some (.struct fs))(hf:fs[i]? = some f)(hn:cK C.P f.type=some n)(hn0:n≠0)
  {t:TypeId} (hx:cO C.P t x=some x') (he:QD Γ (bc.ev σ.t) σ.h b (.lj x' f.offset)=some e) :
  o.wp C.P a w (λa' w'=>cJ C U' (σ.app o.dst e) a' w') Q:=by
 have h1:=ZL S hx;have cB:∀(bk of:Nat),a.eval x = .pointer (some ⟨bk,of,Option.none⟩)->(execOp a.eval o).run C.P w = .ok (.value (.pointer (some ⟨bk,of+f.offset,Option.none⟩))) w:=by
  intro bk of cG;simp[execOp,ho,cG,Instr.fieldAt,run_underlying hs,hf,Instr.sureAddr,fieldPlace,o7 hn,hn0,JE]
 simp only[QD]at he
 split at he
 ·rename_i id k j hv
  split at he
  ·rename_i dY
   cases he;rw[hv]at h1;generalize cG:a.eval x=av at h1
   cases h1 with
   | dg v _ _ _ _ fm=>rw[fm]at dY;simp[aX.alive]at dY
   | p _ _ _ bk hi hn d9 =>
    refine Zx S hd bW (cB _ _ cG) ?_;rw[Nat.add_assoc];exact .p id k (j+f.offset) bk hi hn d9
  ·cases he
 ·rename_i cs j hv
  cases he;rw[hv]at h1;generalize cG:a.eval x=av at h1
  cases h1 with
  | q bk o' _ _ xv hb hc hr =>
   refine Zx S hd bW (cB _ _ cG) ?_;rw[Nat.add_assoc];exact .q bk o' (j+f.offset) cs xv hb hc hr
 ·rename_i cs j id g p i hv
  split at he
  ·rename_i hg
   cases he;rw[hv]at h1;obtain⟨bk,o',cur,e0,cG,hk,hb,hc⟩:=h1.su hg;refine Zx S hd bW (cB _ _ cG) ?_;rw[Nat.add_assoc];exact .qB hg hk hb hc
  ·cases he
 ·cases he
theorem QL2{x i:Operand}{x' i':bc}{t e' sz:Nat}(ho:o.op = .indexAddr t x i)(ht:gJ C.P t=some e')(b7:cK C.P e'=some sz){t1 t2:TypeId}
  (hx:cO C.P t1 x=some x') (hi:cO C.P t2 i=some i') (he:QD Γ (bc.ev σ.t) σ.h b (.j9 x' i' sz)=some e) :
  o.wp C.P a w (λa' w'=>cJ C U' (σ.app o.dst e) a' w') Q:=by
 have h1:=ZL S hx;have h2:=ZL S hi;simp only[QD]at he
 split at he
 rotate_left
 ·cases he
 rename_i n hn;obtain⟨k,hk⟩:=HC h2 hn
 split at he
 rotate_left
 ·cases he
 rename_i h0;have cB:∀(bk of len cap:Nat),a.eval x = .slice (some ⟨bk,of,Option.none⟩) len cap->n.toNat<len->(execOp a.eval o).run C.P w = .ok (.value (.pointer (some ⟨bk,of+n.toNat*sz,Option.none⟩))) w:=by
  intro bk of len cap cG aY;have sC:n<(len:Int):=by omega
  simp[execOp,ho,cG,hk,Instr.indexAt,asIntOf,run_underlying (nU ht),h0,sC,o7 b7,JE]
 split at he
 ·rename_i bt es hv
  split at he
  rotate_left
  ·cases he
  rename_i hs;subst hs
  split at he
  rotate_left
  ·cases he
  rename_i el dh
  cases he;rw[hv]at h1;generalize cG:a.eval x=av at h1
  cases h1 with
  | c v d hr =>
   cases hr with
   | nil=>simp at dh
   | emp=>simp at dh
   | sl bk of len cap _ _ xv hlen cr dj d5 hb hc hr =>
    have aY:n.toNat<len:=by rw[<- hlen];exact(List.getElem?_eq_some_iff.1 dh).1
    refine Zx S hd bW (cB _ _ _ _ cG aY) ?_;have:=VR.q (w:=w) (F:=Fz C w ι σ.h) (ι:=ι) (h:=σ.h) bk (of+n.toNat*bt) 0 el (λk=>xv n.toNat k) (hb (λh0=>by rw[h0]at dh;simp at dh)) (λk d hk=>hc n.toNat k el d dh hk) (λk d hk=>hr n.toNat k el d dh hk);simpa using this
 ·rename_i bt id off len hv
  split at he
  rotate_left
  ·cases he
  rename_i hs;obtain⟨rfl,aY,dY⟩:=hs
  cases he;rw[hv]at h1;generalize cG:a.eval x=av at h1
  cases h1 with
  | cI v _ _ _ _ _ fm=>rw[fm]at dY;simp[aX.alive]at dY
  | cW=>omega
  | dz=>omega
  | r _ _ _ bk ao cap et _ m es hi hh hlen cr j2 dm =>
   refine Zx S hd bW (cB _ _ _ _ cG aY) ?_;have:=VR.p (w:=w) (F:=Fz C w ι σ.h) (ι:=ι) (h:=σ.h) id (off+n.toNat) 0 bk hi (by rw[hh];simp) (by rw[hh];simp);rw[hh]at this;simp only[aX.sz,Nat.add_zero,Nat.add_mul]at this;rw[j2 (by omega),Nat.add_assoc];exact this
 ·rename_i bt es id g p hv
  split at he
  rotate_left
  ·cases he
  rename_i hs;obtain⟨rfl,hg⟩:=hs
  split at he
  rotate_left
  ·cases he
  rename_i el dh
  cases he;rw[hv]at h1;obtain⟨hr,_⟩:=h1.Ca hg;generalize cG:a.eval x=av at hr
  cases hr with
  | nil=>simp at dh
  | emp=>simp at dh
  | sl _ bk of len cap _ _ cur e0 xv hz dk hlen cr dj d5 hk hb hle hc hr =>
   have aY:n.toNat<len:=by rw[<- hlen];exact(List.getElem?_eq_some_iff.1 dh).1
   refine Zx S hd bW (cB _ _ _ _ cG aY) ?_;have:=VR.qB (F:=Fz C w ι σ.h) (cs:=el) (j:=0) (i:=n.toNat) (o:=of+n.toNat*bt) hg hk hb (λk d Cd=>⟨xv n.toNat k,hc n.toNat k el d dh Cd,hr n.toNat k el d dh Cd⟩);simpa using this
 ·cases he
end
end Go.Proofs.YtdplaepmjogjjaaGreat.Am
namespace Go.Proofs.YtdplaepmjogjjaaGreat.Am
open Go Go.RowKit
theorem TG{w:World}{F:Nat->Prop}{ι:Io}{h:Nat->aX}{agg:Bool}{n:Nat}{vs:List Value}{l:List AV}{x:AV}(fR:agg=false->n=1)
  (hl:vs.length=n) (gq:l.length=n) (h1:∀(k:Nat)(v:Value),vs[k]? = some v->v.oneCell'=true)
  (hv:∀(k:Nat)(v:Value)(y:AV),vs[k]? = some v->l[k]? = some y->VR w F ι h v y) (hp:nP agg l=some x) :
  VR w F ι h (if agg then .agg vs.toArray else vs.headD undef) x:=by
 unfold nP at hp
 cases agg with
 | true =>
  simp at hp;subst hp;exact .a _ _ (by simp[hl,gq]) (λk v hk=>h1 k v (by simpa using hk)) (λk v y hk hy=>hv k v y (by simpa using hk) hy)
 | false =>
  have:=fR rfl;subst this
  match l,gq with
  | [y],_ =>
   simp at hp;subst hp
   match vs,hl with
   | [v],_=>exact hv 0 v y rfl rfl
theorem QQj{P:Program}{w:World}{t:TypeId}{agg:Bool}{n:Nat}(fo:nT P t=some agg)(hn:agg=true->cK P t=some n)(fR:agg=false->n=1)
  {bk o:Nat} {vs:List Value} (hl:vs.length=n) (hc:∀ k v,vs[k]? = some v->w.cell? ⟨bk,o+k,Option.none⟩=some v) :
  (Instr.loadAt t (.pointer (some ⟨bk,o,Option.none⟩))).run P w = .ok (if agg then .agg vs.toArray else vs.headD undef) w:=by
 cases agg with
 | true =>
  have h:=run_loadCells_list (P:=P) w ⟨bk,o,Option.none⟩ vs (λj v hj=>by rw[JE];exact hc j v hj);rw[hl]at h;simp[Instr.loadAt,Instr.sureAddr,loadVar,vb fo,o7 (hn rfl),h]
 | false =>
  have:=fR rfl;subst this
  match vs,hl with
  | [v],_ =>
   have h0:=hc 0 v rfl;simp only[Nat.add_zero]at h0;simp[Instr.loadAt,Instr.sureAddr,loadVar,vb fo,h0]
theorem QSC{P:Program}{w:World}{t:TypeId}{agg:Bool}{n:Nat}(fo:nT P t=some agg)(hn:agg=true->cK P t=some n)(fR:agg=false->n=1)
  {bk o:Nat} {vs:List Value} (hl:vs.length=n) (hc:∀ k v,vs[k]? = some v->w.cell? ⟨bk,o+k,Option.none⟩=some v) :
  (loadVar t ⟨bk,o,Option.none⟩).run P w = .ok (if agg then .agg vs.toArray else vs.headD undef) w:=by
 cases agg with
 | true =>
  have h:=run_loadCells_list (P:=P) w ⟨bk,o,Option.none⟩ vs (λj v hj=>by rw[JE];exact hc j v hj);rw[hl]at h;simp[loadVar,vb fo,o7 (hn rfl),h]
 | false =>
  have:=fR rfl;subst this
  match vs,hl with
  | [v],_ =>
   have h0:=hc 0 v rfl;simp only[Nat.add_zero]at h0;simp[loadVar,vb fo,h0]
theorem TH{id g i:Nat}:∀ {l:List D} {j k:Nat} {y:AV} {d:D},(cu id g i j l)[k]? = some y->l[k]? = some d->y=match d with | .v x=>.c (.v x) | d=>.b d id g [(i,j+k)]
 | [],j,k,y,d,h,h'=>by simp at h'
 | x::l,j,0,y,d,h,h'=>by
  simp only[cu,List.getElem?_cons_zero,Option.some.injEq]at h h';subst h';rw[<- h];rfl
 | x::l,j,k+1,y,d,h,h'=>by
  simp only[cu,List.getElem?_cons_succ]at h h';rw[TH h h',Nat.add_assoc,Nat.add_comm 1 k]
theorem TJ{id g i:Nat}:∀ {l:List D} {j:Nat},(cu id g i j l).length=l.length
 | [],j=>rfl
 | x::l,j=>by simp[cu,TJ (l:=l)]
theorem TK{m:Mo}{id i j:Nat}{l:List D}:(dq m id i j l).length=l.length:=by
 cases m <;> simp[dq,TJ]
theorem TL{id g i:Nat}{p:cM}:∀ {l:List D} {j k:Nat} {y:AV} {d:D},(b3 id g p i j l)[k]? = some y->l[k]? = some d->y=match d with | .v x=>.c (.v x) | d=>.b d id g (p++[(i,j+k)])
 | [],j,k,y,d,h,h'=>by simp at h'
 | x::l,j,0,y,d,h,h'=>by
  simp only[b3,List.getElem?_cons_zero,Option.some.injEq]at h h';subst h';rw[<- h];rfl
 | x::l,j,k+1,y,d,h,h'=>by
  simp only[b3,List.getElem?_cons_succ]at h h';rw[TL h h',Nat.add_assoc,Nat.add_comm 1 k]
theorem HD{id g i:Nat}{p:cM}:∀ {l:List D} {j:Nat},(b3 id g p i j l).length=l.length
 | [],j=>rfl
 | x::l,j=>by simp[b3,HD (l:=l)]
theorem QPC{w:World}{F:Nat->Prop}{ι:Io}{h:Nat->aX}{id bk i j k sz:Nat}{e e0:TypeId}{m:Mo}{es:List (List D)}{cur:Array Value}{l:List D}{y:AV}{v:Value}{d:D}(hh:h id = .sl e sz m es)(hf:m.full=true)(hi:ι id=some bk)
  (hb:w.heap[bk]? = some (.cells cur e0 (0,0))) (hy:(dq m id i j l)[k]? = some y) (hd:l[k]? = some d) (hv:cur[ι.o id+i*sz+(j+k)]? = some v) (hr:RM w F ι id m i (j+k) v d):VR w F ι h v y:=by
 have vd:∀(hr:Rd w F v d)(hy:(l.map AV.c)[k]? = some y),VR w F ι h v y:=by
  intro hr hy;rw[List.getElem?_map,hd]at hy
  cases hy;exact .c _ _ hr
 cases m with
 | fz=>exact vd hr hy
 | ow=>exact vd hr hy
 | dp g t H =>
  cases H with
  | cons=>simp[Mo.full]at hf
  | nil =>
   have jA:=hr.2 (by simp);have:=TH hy hd;subst this
   cases d with
   | v x=>cases jA with | v _ _ h1=>exact .c _ _ (.v _ h1)
   | sl bt bZ =>
    refine .xD hh rfl jA (λi' j' hp=>?_);simp only[List.cons.injEq,Prod.mk.injEq,and_true]at hp;obtain⟨rfl,rfl⟩:=hp;exact⟨bk,cur,e0,hi,hb,hv⟩
theorem QPE{w:World}{F:Nat->Prop}{ι:Io}{h:Nat->aX}{id g i j k:Nat}{p:cM}{l:List D}{y:AV}{v:Value}{d:D}(jr:(h id).dG=some g)(hp:p≠[])
  (hy:(b3 id g p i j l)[k]? = some y) (hd:l[k]? = some d) (hr:RL w ι.k id (p++[(i,j+k)]) v d):VR w F ι h v y:=by
 have hg:=aX.eT jr;have:=TL hy hd;subst this
 cases d with
 | v x=>cases hr with | v _ _ h1=>exact .c _ _ (.v _ h1)
 | sl bt bZ =>
  cases hx:h id with
  | sl e sz m es =>
   rw[hx]at hg;refine .xD hx hg hr (λi' j' hq=>?_)
   cases p with
   | nil=>exact absurd rfl hp
   | cons a r=>simp at hq
  | _=>rw[hx]at hg;cases hg
section
variable {C:Ctx} {U U':Nat->Prop} {σ:St} {a:Act} {w:World} {ι:Io} {o:Oper} {Q:Exit->Act->World->Prop} {Γ:eR} {b:Nat} {e:fI}
theorem sE{w:World}{bk k:Nat}{cur:Array Value}{et:TypeId}{fr:Nat × Nat}{v:Value}(hb:w.heap[bk]? = some (.cells cur et fr))(hv:cur[k]? = some v):w.cell? ⟨bk,k,Option.none⟩=some v:=by
 simp[World.cell?,hb,hv]
theorem TM(S:Sat C U σ a w ι){x:Operand}{av:Value}(cG:a.eval x=av){x':bc}{t n:Nat}{agg:Bool}{t1:TypeId}(hx:cO C.P t1 x=some x')(fo:nT C.P t=some agg)(hn:agg=true->cK C.P t=some n)(fR:agg=false->n=1)
  (he:QD Γ (bc.ev σ.t) σ.h b (.load x' n agg)=some e) :
  ∃ v x1,e=⟨x1,[]⟩/\VR w (Fz C w ι σ.h) ι σ.h v x1/\(Instr.loadAt t av).run C.P w = .ok v w/\∃ ad,av = .pointer (some ad)/\(loadVar t ad).run C.P w = .ok v w:=by
 have h1:=ZL S hx;have fin:∀(bk of:Nat)(vs:List Value)(l:List AV)(v:AV),a.eval x = .pointer (some ⟨bk,of,Option.none⟩)->vs.length=n->l.length=n->
   (∀(k:Nat)(v:Value),vs[k]? = some v->w.cell? ⟨bk,of+k,Option.none⟩=some v)->(∀(k:Nat)(v:Value),vs[k]? = some v->v.oneCell'=true)->
   (∀(k:Nat)(v:Value)(y:AV),vs[k]? = some v->l[k]? = some y->VR w (Fz C w ι σ.h) ι σ.h v y)->nP agg l=some v->
   ∃ v' x1,(⟨v,[]⟩:fI)=⟨x1,[]⟩/\VR w (Fz C w ι σ.h) ι σ.h v' x1/\(Instr.loadAt t av).run C.P w = .ok v' w/\∃ ad,av = .pointer (some ad)/\(loadVar t ad).run C.P w = .ok v' w:=by
  intro bk of vs l v mw hl gq hc h1 hv hp;rw[cG]at mw;refine⟨_,v,rfl,TG fR hl gq h1 hv hp,by rw[mw];exact QQj fo hn fR hl hc,_,mw,QSC fo hn fR hl hc⟩
 simp only[QD]at he
 split at he
 ·rename_i id i j hv;have dH:=S.fH id
  split at he
  ·rename_i cs hh
   split at he
   rotate_left
   ·cases he
   rename_i hi0;subst hi0
   split at he
   rotate_left
   ·cases he
   rename_i l hl
   split at he
   rotate_left
   ·cases he
   rename_i v hp
   cases he;rw[hv]at h1;rw[cG]at h1
   cases h1 with
   | dg v _ _ _ _ fm=>rw[fm]at hh;cases hh
   | p _ _ _ bk hi nW d9 =>
    rw[hh]at dH
    cases dH with
    | box nX et bz _ cc fp hb hlen h1 d6 =>
     rw[hi]at cc
     cases cc;rw[fp,Nat.zero_add]at cG;obtain⟨c1,c2⟩:=xJ hl;obtain⟨c3,_⟩:=vc hl;rw[hh]at cG;simp only[aX.sz,Nat.mul_zero,Nat.zero_add]at cG;have fb:∀ k:Nat,k<n->((bz.toList.drop j).take n)[k]? = bz[j+k]?:=λk hk=>by rw[List.getElem?_take,if_pos hk,List.getElem?_drop];simp
     have kb:((bz.toList.drop j).take n).length=n:=by simp;omega
     have eQ:∀(k:Nat)(v:Value),((bz.toList.drop j).take n)[k]? = some v->k<n/\bz[j+k]? = some v:=by
      intro k v hk;have:k<n:=by rw[<- kb];exact(List.getElem?_eq_some_iff.1 hk).1
      rw[fb k this]at hk;exact⟨this,hk⟩
     refine fin bk j ((bz.toList.drop j).take n) l v cG kb c1 (λk v hk=>?_) (λk v hk=>h1 _ v (eQ k v hk).2) (λk v y hk hy=>?_) hp
     ·exact sE hb (eQ k v hk).2
     ·rw[c2 k (eQ k v hk).1]at hy;exact d6 _ v y (eQ k v hk).2 hy
  ·rename_i et sz m es hh
   split at he
   rotate_left
   ·cases he
   rename_i ea
   split at he
   rotate_left
   ·cases he
   rename_i el dh
   split at he
   rotate_left
   ·cases he
   rename_i l hl
   split at he
   rotate_left
   ·cases he
   rename_i v hp
   cases he;rw[hv]at h1;rw[cG]at h1
   cases h1 with
   | dg v _ _ _ _ fm=>rw[fm]at hh;cases hh
   | p _ _ _ bk hi nW d9 =>
    rw[hh]at dH
    cases dH with
    | slnil=>simp at dh
    | sl nX _ e0 _ _ _ cur hz cc hb fj hle dj b7 d6 =>
     rw[hi]at cc
     cases cc;obtain⟨c1,c2⟩:=xJ hl;obtain⟨c3,_⟩:=vc hl;have ke:i<es.length:=(List.getElem?_eq_some_iff.1 dh).1;have o8:el.length=sz:=b7 el (List.mem_of_getElem? dh);rw[hh]at cG;simp only[aX.sz]at cG;have qD:ι.o id+i*sz+j+n<=cur.size:=by
      have:(i+1)*sz<=es.length*sz:=Nat.mul_le_mul_right _ (by omega);rw[Nat.add_mul]at this;omega
     have fb:∀ k:Nat,k<n->((cur.toList.drop (ι.o id+i*sz+j)).take n)[k]? = cur[ι.o id+i*sz+j+k]?:=λk hk=>by rw[List.getElem?_take,if_pos hk,List.getElem?_drop];simp
     have kb:((cur.toList.drop (ι.o id+i*sz+j)).take n).length=n:=by simp;omega
     have eQ:∀(k:Nat)(v:Value),((cur.toList.drop (ι.o id+i*sz+j)).take n)[k]? = some v->k<n/\cur[ι.o id+i*sz+j+k]? = some v:=by
      intro k v hk;have:k<n:=by rw[<- kb];exact(List.getElem?_eq_some_iff.1 hk).1
      rw[fb k this]at hk;exact⟨this,hk⟩
     have o9:∀(k:Nat)(v:Value),((cur.toList.drop (ι.o id+i*sz+j)).take n)[k]? = some v->∃ d,l[k]? = some d/\RM w (Fz C w ι σ.h) ι id m i (j+k) v d:=by
      intro k v hk;obtain⟨kh,sF⟩:=eQ k v hk;have HE:k<l.length:=by omega
      have pb:=c2 k kh;rw[List.getElem?_eq_getElem HE]at pb;obtain⟨v',h3,h4⟩:=d6 i (j+k) el _ dh pb.symm;rw[show ι.o id+i*sz+(j+k)=ι.o id+i*sz+j+k by omega,sF]at h3
      cases h3;exact⟨l[k],by simp,h4⟩
     refine fin bk (ι.o id+i*sz+j) ((cur.toList.drop (ι.o id+i*sz+j)).take n) (dq m id i j l) v cG kb (by rw[TK];exact c1) (λk v hk=>?_) (λk v hk=>?_) (λk v y hk hy=>?_) hp
     ·exact sE hb (eQ k v hk).2
     ·obtain⟨d,_,h⟩:=o9 k v hk;exact h.one
     ·obtain⟨d,h5,h6⟩:=o9 k v hk;exact QPC hh ea hi hb hy h5 (by rw[show ι.o id+i*sz+(j+k)=ι.o id+i*sz+j+k by omega];exact(eQ k v hk).2) h6
  ·cases he
 ·rename_i cs j id g p i hv
  split at he
  rotate_left
  ·cases he
  rename_i hg
  split at he
  rotate_left
  ·cases he
  rename_i l hl
  split at he
  rotate_left
  ·cases he
  rename_i v hp
  cases he;rw[hv]at h1;obtain⟨bk,o',cur,e0,mw,hk,hb,hc⟩:=h1.su hg;obtain⟨c1,c2⟩:=xJ hl;obtain⟨c3,_⟩:=vc hl;have sH:∀ k:Nat,k<n->∃ d x,l[k]? = some d/\cur[o'+(j+k)]? = some x/\RL w ι.k id (p++[(i,j+k)]) x d:=by
   intro k kh;have HE:k<l.length:=by omega
   have pb:=c2 k kh;rw[List.getElem?_eq_getElem HE]at pb;obtain⟨x,h2,h3⟩:=hc (j+k) _ pb.symm;exact⟨l[k],x,by simp,h2,h3⟩
  have sI:p≠[]:=(S.dA bk id p hk).pn;have eQ:∀(k:Nat)(v:Value),((List.range n).map λk=>cur.getD (o'+(j+k)) undef)[k]? = some v->k<n/\v=cur.getD (o'+(j+k)) undef:=by
   intro k v hk;rw[List.getElem?_map]at hk;by_cases kh:k<n
   ·rw[List.getElem?_range kh]at hk;simp at hk;exact⟨kh,by rw[<- hk];simp⟩
   ·rw[List.getElem?_eq_none (by simp;omega)]at hk;simp at hk
  refine fin bk (o'+j) ((List.range n).map λk=>cur.getD (o'+(j+k)) undef) (b3 id g p i j l) v mw (by simp) (by rw[HD];exact c1) (λk v hk=>?_) (λk v hk=>?_) (λk v y hk hy=>?_) hp
  ·obtain⟨h2,rfl⟩:=eQ k v hk;obtain⟨d,x,h3,h4,h5⟩:=sH k h2;have:cur.getD (o'+(j+k)) undef=x:=by simp[Array.getD_eq_getD_getElem?,h4]
   rw[this];exact sE hb (by rw[Nat.add_assoc];exact h4)
  ·obtain⟨h2,rfl⟩:=eQ k v hk;obtain⟨d,x,h3,h4,h5⟩:=sH k h2;have:cur.getD (o'+(j+k)) undef=x:=by simp[Array.getD_eq_getD_getElem?,h4]
   rw[this];exact h5.one
  ·obtain⟨h2,rfl⟩:=eQ k v hk;obtain⟨d,x,h3,h4,h5⟩:=sH k h2;have:cur.getD (o'+(j+k)) undef=x:=by simp[Array.getD_eq_getD_getElem?,h4]
   rw[this];exact QPE hg sI hy h3 h5
 ·rename_i cs j hv
  split at he
  rotate_left
  ·cases he
  rename_i l hl
  split at he
  rotate_left
  ·cases he
  rename_i v hp
  cases he;rw[hv]at h1;rw[cG]at h1
  cases h1 with
  | q bk o' _ _ xv hb hc hr =>
   obtain⟨c1,c2⟩:=xJ hl;obtain⟨c3,_⟩:=vc hl;have eQ:∀(k:Nat)(v:Value),((List.range n).map λk=>xv (j+k))[k]? = some v->k<n/\v=xv (j+k):=by
    intro k v hk;rw[List.getElem?_map]at hk;by_cases kh:k<n
    ·rw[List.getElem?_range kh]at hk;simp at hk;exact⟨kh,hk.symm⟩
    ·rw[List.getElem?_eq_none (by simp;omega)]at hk;simp at hk
   have pb:∀ k:Nat,k<n->∃ d,cs[j+k]? = some d/\l[k]? = some d:=by
    intro k hk;have:k<l.length:=by omega
    exact⟨l[k],by rw[<- c2 k hk];simp,by simp⟩
   refine fin bk (o'+j) ((List.range n).map λk=>xv (j+k)) (l.map .c) v cG (by simp) (by simpa using c1) (λk v hk=>?_) (λk v hk=>?_) (λk v y hk hy=>?_) hp
   ·obtain⟨h2,rfl⟩:=eQ k v hk;obtain⟨d,h3,_⟩:=pb k h2;rw[Nat.add_assoc];exact hc (j+k) d h3
   ·obtain⟨h2,rfl⟩:=eQ k v hk;obtain⟨d,h3,_⟩:=pb k h2;exact(hr (j+k) d h3).one
   ·obtain⟨h2,rfl⟩:=eQ k v hk;obtain⟨d,h3,h4⟩:=pb k h2;simp[h4]at hy;subst hy;exact .c _ _ (hr (j+k) d h3)
 ·cases he
variable (S:Sat C U σ a w ι) (hd:∀ d,o.dst=some d->d<C.N) (bW:∀ i,U' i->U i)
include S hd bW
theorem QZZ{x:Operand}{x':bc}{t n:Nat}{agg:Bool}{t1:TypeId}(ho:o.op = .load t x)(hx:cO C.P t1 x=some x')(fo:nT C.P t=some agg)(hn:agg=true->cK C.P t=some n)(fR:agg=false->n=1)
  (he:QD Γ (bc.ev σ.t) σ.h b (.load x' n agg)=some e) :
  o.wp C.P a w (λa' w'=>cJ C U' (σ.app o.dst e) a' w') Q:=by
 obtain⟨v,x1,rfl,hv,hr,_⟩:=TM S rfl hx fo hn fR he;refine Zx S hd bW ?_ hv;simp only[execOp,ho,Sem.run_bind,hr,Result.andThen_ok,Sem.run_pure]
theorem QNJ{x:Operand}{x':bc}{t i n:Nat}{agg:Bool}{fs:Array Field}{f:Field}{t1:TypeId}(ho:o.op = .field t x i)(ht:C.P.underlying t=some (.struct fs))(hf:fs[i]? = some f)
  (fo:nT C.P f.type=some agg) (hn:agg=true->cK C.P f.type=some n) (fR:agg=false->n=1) (hx:cO C.P t1 x=some x')
  (he:QD Γ (bc.ev σ.t) σ.h b (.lY x' f.offset n agg)=some e) :
  o.wp C.P a w (λa' w'=>cJ C U' (σ.app o.dst e) a' w') Q:=by
 have h1:=ZL S hx;simp only[QD]at he
 split at he
 rotate_left
 ·cases he
 rename_i cs hv
 split at he
 rotate_left
 ·cases he
 rename_i l hl
 split at he
 rotate_left
 ·cases he
 rename_i v hp
 cases he;rw[hv]at h1;generalize cG:a.eval x=av at h1
 cases h1 with
 | a vs _ gq h1 d6 =>
  obtain⟨c1,c2⟩:=xJ hl;obtain⟨c3,_⟩:=vc hl;have fb:∀ k:Nat,k<n->((vs.toList.drop f.offset).take n)[k]? = vs[f.offset+k]?:=λk hk=>by rw[List.getElem?_take,if_pos hk,List.getElem?_drop];simp
  have kb:((vs.toList.drop f.offset).take n).length=n:=by simp;omega
  have eQ:∀(k:Nat)(v:Value),((vs.toList.drop f.offset).take n)[k]? = some v->k<n/\vs[f.offset+k]? = some v:=by
   intro k v hk;have:k<n:=by rw[<- kb];exact(List.getElem?_eq_some_iff.1 hk).1
   rw[fb k this]at hk;exact⟨this,hk⟩
  refine Zx S hd bW ?_ (TG fR kb c1 (λk v hk=>h1 _ v (eQ k v hk).2) (λk v y hk hy=>?_) hp)
  ·cases agg with
   | true =>
    have HF:vs.extract f.offset (f.offset+n)=((vs.toList.drop f.offset).take n).toArray:=by
     apply Array.ext';simp[Array.toList_extract,List.extract]
    simp[execOp,ho,cG,Instr.field,run_underlying ht,hf,asAgg,part,vb fo,o7 (hn rfl),HF]
   | false =>
    have:=fR rfl;subst this;have aY:f.offset<vs.size:=by omega
    have h0:vs[f.offset]? = some vs[f.offset]:=Array.getElem?_eq_getElem aY;have h2:((vs.toList.drop f.offset).take 1).headD undef=vs[f.offset]:=by
     have:=fb 0 (by omega);simp only[Nat.add_zero,h0]at this;rw[List.headD_eq_head?_getD,List.head?_eq_getElem?,this];rfl
    simp[execOp,ho,cG,Instr.field,run_underlying ht,hf,asAgg,part,vb fo,h0];simpa using h2.symm
  ·rw[c2 k (eQ k v hk).1]at hy;exact d6 _ v y (eQ k v hk).2 hy
theorem QXm{x:Operand}{x':bc}{lo hi:Option Operand}{Ce cc:Option bc}{t e' sz:Nat}{t1:TypeId}(ho:o.op = .slice t x lo hi none)(ht:gJ C.P t=some e')(b7:cK C.P e'=some sz)(hz:0<sz)
  (hx:cO C.P t1 x=some x') (my:u4 C.P lo=some Ce) (ki:u4 C.P hi=some cc)
  (he:QD Γ (bc.ev σ.t) σ.h b (.fO x' Ce cc sz)=some e) :
  o.wp C.P a w (λa' w'=>cJ C U' (σ.app o.dst e) a' w') Q:=by
 have h1:=ZL S hx;have hL:∀(y:Option Operand)(y':Option bc)(n m:Int),u4 C.P y=some y'->YY (bc.ev σ.t) m y'=some n->∃ v:Option Value,y.map a.eval=v/\(v=none/\n=m\/∃ k,v=some (.int k n)):=by
  intro y y' n m hy hn
  cases y with
  | none=>simp[u4]at hy;subst hy;simp[YY]at hn;exact⟨none,rfl,.inl ⟨rfl,hn.symm⟩⟩
  | some l =>
   obtain⟨l',h2,h3⟩:=Option.map_eq_some_iff.1 hy;subst h3;obtain⟨k,hk⟩:=HC (ZL S h2) hn;exact⟨_,rfl,.inr ⟨k,by simp[hk]⟩⟩
 have bounds:∀(len cap:Nat)(l h:Int)(vl vh:Option Value),(vl=none/\l=0\/∃ k,vl=some (.int k l))->(vh=none/\h=(len:Int)\/∃ k,vh=some (.int k h))->0<=l->l<=h->h<=len->len<=cap->
   (Instr.sliceBounds true len cap vl vh none).run C.P w = .ok (l.toNat,h.toNat,cap) w:=by
  intro len cap l h vl vh h1 h2 h3 h4 h5 h6;have h7:h<=(cap:Int):=by omega
  have h8:0<=h:=by omega
  have h9:max h 0=h:=by omega
  rcases h1 with⟨rfl,rfl⟩ | ⟨k1,rfl⟩ <;> rcases h2 with⟨rfl,rfl⟩ | ⟨k2,rfl⟩ <;> simp[Instr.sliceBounds,Instr.sliceBound,asIntOf, *]
 have cB:∀(ad:Option Addr)(len cap:Nat)(l h:Int) ,a.eval x = .slice ad len cap->((∃ v:Option Value,lo.map a.eval=v/\(v=none/\l=0\/∃ k,v=some (.int k l))))->(∃ v:Option Value,hi.map a.eval=v/\(v=none/\h=(len:Int)\/∃ k,v=some (.int k h)))->
   0<=l->l<=h->h<=len->len<=cap->(execOp a.eval o).run C.P w = .ok (.value (.slice (if cap=l.toNat then ad else ad.map (·.add (l.toNat*sz))) (h.toNat-l.toNat) (cap-l.toNat))) w:=by
  intro ad len cap l h cG hl hh h3 h4 h5 h6;obtain⟨vl,e1,hl⟩:=hl;obtain⟨vh,e2,hh⟩:=hh;simp[execOp,ho,cG,Instr.sliceAt,Instr.slice,run_underlying (nU ht),e1,e2,bounds len cap l h vl vh hl hh h3 h4 h5 h6,o7 b7]
 simp only[QD]at he
 split at he
 rotate_left
 ·cases he
 rename_i l hl;have gq:=hL lo Ce l 0 my hl
 split at he
 ·rename_i bt es hv
  split at he
  rotate_left
  ·cases he
  rename_i h hh;have cq:=hL hi cc h es.length ki hh
  split at he
  rotate_left
  ·cases he
  rename_i hc;obtain⟨rfl,h3,h4,h5⟩:=hc
  cases he;rw[hv]at h1;generalize cG:a.eval x=av at h1
  cases h1 with
  | c v d hr =>
   cases hr with
   | nil =>
    have:l=0:=by simp at h5;omega
    have:h=0:=by simp at h5;omega
    subst_vars
    refine Zx S hd bW (cB _ _ _ 0 0 cG gq cq (by omega) (by omega) (by simp) (by omega)) ?_;simpa using VR.c (w:=w) (F:=Fz C w ι σ.h) (ι:=ι) (h:=σ.h) _ _ (Rd.nil bt)
   | emp ad cap =>
    have:l=0:=by simp at h5;omega
    have:h=0:=by simp at h5;omega
    subst_vars
    refine Zx S hd bW (cB _ _ _ 0 0 cG gq cq (by omega) (by omega) (by simp) (by omega)) ?_;have e:(if cap=Int.toNat 0 then some ad else(some ad).map (·.add (Int.toNat 0*bt)))=some ad:=by
     split
     ·rfl
     ·simp[Addr.add]
    rw[e];simpa using VR.c (w:=w) (F:=Fz C w ι σ.h) (ι:=ι) (h:=σ.h) _ _ (Rd.emp ad cap bt)
   | sl bk of len cap _ _ xv hlen cr dj d5 hb hc hr =>
    subst hlen;refine Zx S hd bW (cB _ _ _ l h cG gq cq h3 h4 h5 cr) ?_;have lr:((es.drop l.toNat).take (h.toNat-l.toNat)).length=h.toNat-l.toNat:=by simp;omega
    have mz:∀(i:Nat)(el:List D),((es.drop l.toNat).take (h.toNat-l.toNat))[i]? = some el->es[l.toNat+i]? = some el:=by
     intro i el dh;have hi:=(List.getElem?_eq_some_iff.1 dh).1;rw[List.getElem?_take,if_pos (by omega),List.getElem?_drop]at dh;exact dh
    by_cases lu:cap=l.toNat
    ·rw[if_pos lu];refine .c _ _ (.sl bk of _ _ bt _ (λi j=>xv (l.toNat+i) j) lr (by omega) (by omega) (λe he=>d5 e (List.mem_of_mem_drop (List.mem_of_mem_take he))) (λhn=>hb (λh0=>hn (by rw[h0];simp))) (λi j el d h8 h9=>?_) (λi j el d h8 h9=>hr _ j el d (mz i el h8) h9));have:=(List.getElem?_eq_some_iff.1 h8).1;omega
    ·rw[if_neg lu];simp only[Option.map_some,JE];refine .c _ _ (.sl bk _ _ _ bt _ (λi j=>xv (l.toNat+i) j) lr (by omega) (by omega) (λe he=>d5 e (List.mem_of_mem_drop (List.mem_of_mem_take he))) (λhn=>hb (λh0=>hn (by rw[h0];simp))) (λi j el d h8 h9=>?_) (λi j el d h8 h9=>hr _ j el d (mz i el h8) h9));rw[show of+l.toNat*bt+i*bt+j=of+(l.toNat+i)*bt+j by rw[Nat.add_mul];omega];exact hc _ j el d (mz i el h8) h9
 ·rename_i bt id off len hv
  split at he
  rotate_left
  ·cases he
  rename_i h hh;have cq:=hL hi cc h len ki hh
  split at he
  rotate_left
  ·cases he
  rename_i hc;obtain⟨rfl,h3,h4,h5,dY⟩:=hc
  cases he;rw[hv]at h1;generalize cG:a.eval x=av at h1
  cases h1 with
  | cI v _ _ _ _ _ fm=>rw[fm]at dY;simp[aX.alive]at dY
  | dz ad xL _ et _ m cc ve htp =>
   have:l=0:=by omega
   have:h=0:=by omega
   subst_vars
   refine Zx S hd bW (cB _ _ _ 0 0 cG gq cq (by omega) (by omega) (by simp) (by omega)) ?_;have e:(if xL=Int.toNat 0 then some ad else(some ad).map (·.add (Int.toNat 0*bt)))=some ad:=by
    split
    ·rfl
    ·simp[Addr.add]
   rw[e];simpa using VR.dz (w:=w) (F:=Fz C w ι σ.h) (ι:=ι) (h:=σ.h) ad xL id et bt m cc ve htp
  | cW _ et _ m cc ve =>
   have:l=0:=by omega
   have:h=0:=by omega
   subst_vars
   refine Zx S hd bW (cB _ _ _ 0 0 cG gq cq (by omega) (by omega) (by simp) (by omega)) ?_;simpa using VR.cW (w:=w) (F:=Fz C w ι σ.h) (ι:=ι) (h:=σ.h) id et bt m cc ve
  | r _ _ _ bk ao cap et _ m es cc ve hlen cr j2 dm =>
   refine Zx S hd bW (cB _ _ _ l h cG gq cq h3 h4 h5 cr) ?_;by_cases lu:cap=l.toNat
   ·rw[if_pos lu];refine .r id (off+l.toNat) (h.toNat-l.toNat) bk ao (cap-l.toNat) et bt m es cc ve (by omega) (by omega) (λdk=>by omega) (λht h0=>?_);have HG:off=0:=by omega
    have HI:l.toNat=0:=by omega
    rw[HI,Nat.sub_zero];exact dm ht HG
   ·rw[if_neg lu];simp only[Option.map_some,JE];refine .r id (off+l.toNat) (h.toNat-l.toNat) bk _ (cap-l.toNat) et bt m es cc ve (by omega) (by omega) (λdk=>?_) (λht h0=>?_)
    ·rw[j2 (by omega),Nat.add_mul,Nat.add_assoc]
    ·have HG:off=0:=by omega
     have HI:l.toNat=0:=by omega
     rw[HI,Nat.sub_zero,Nat.zero_mul,Nat.add_zero];exact dm ht HG
 ·rename_i bt hv
  split at he
  rotate_left
  ·cases he
  rename_i h hh;have cq:=hL hi cc h 0 ki hh
  split at he
  rotate_left
  ·cases he
  rename_i hc;obtain⟨rfl,rfl⟩:=hc
  cases he;rw[hv]at h1;generalize cG:a.eval x=av at h1
  cases h1 with
  | n =>
   refine Zx S hd bW (cB _ _ _ 0 0 cG gq cq (by omega) (by omega) (by simp) (by omega)) ?_;simpa using VR.n (w:=w) (F:=Fz C w ι σ.h) (ι:=ι) (h:=σ.h) sz
 ·cases he
omit S hd bW in
theorem TN{P:Program}{w:World}{d:Nat}{xs ys:Array Value}{l m:List Int}(hx:∀(i:Nat)(n:Int),l[i]? = some n->xs[i]? = some (.int .i64 n))(hy:∀(i:Nat)(n:Int),m[i]? = some n->ys[i]? = some (.int .i64 n))
  (HJ:l.length=m.length):∀(fs:List Field)(k:Nat),Cb P fs k=true->k+fs.length=l.length->(Op.eqFields (d+1) xs ys fs).run P w = .ok (decide (l.drop k=m.drop k)) w
 | [],k,_,hk=>by
  simp at hk;rw[List.drop_of_length_le (by omega),List.drop_of_length_le (by omega)];simp[Op.eqFields]
 | f::fs,k,hp,hk=>by
  simp only[Cb,Bool.and_eq_true,bne_iff_ne,ne_eq,beq_iff_eq]at hp;obtain⟨⟨⟨⟨h1,h2⟩,h3⟩,h4⟩,h5⟩:=hp;simp at hk;have TO:k<l.length:=by omega
  have kI:k<m.length:=by omega
  have jB:=hx k l[k] (by simp[TO]);have xM:=hy k m[k] (by simp[kI])
  split at h4
  rotate_left
  ·cases h4
  rename_i kk hu;have fo:∀ w:World,(isAgg f.type).run P w = .ok false w:=λw=>by simp[isAgg,run_underlying hu]
  have e1:(Op.equalIn (d+1) f.type (.int .i64 l[k]) (.int .i64 m[k])).run P w = .ok (l[k]==m[k]) w:=by simp[Op.equalIn,run_underlying hu]
  have hdk:(l.drop k=m.drop k)↔(l[k]=m[k]/\l.drop (k+1)=m.drop (k+1)):=by
   rw[List.drop_eq_getElem_cons TO,List.drop_eq_getElem_cons kI,List.cons.injEq]
  have ih:=TN (P:=P) (w:=w) (d:=d) hx hy HJ fs (k+1) h5 (by omega);rw[show decide (l.drop k=m.drop k)=decide (l[k]=m[k]/\l.drop (k+1)=m.drop (k+1)) from decide_eq_decide.2 hdk];by_cases heq:l[k]=m[k]
  ·rw[<- heq]at e1 xM;have hT:(l[k]=m[k])=True:=eq_true heq;simp[Op.eqFields,h1,part,fo,h2,jB,xM,e1,hT,ih]
  ·simp[Op.eqFields,h1,part,fo,h2,jB,xM,e1,heq]
omit S hd bW in
theorem HK{w:World}{F:Nat->Prop}{h:Nat->aX}:∀(cs:List AV)(l:List Int),qC cs=some l->l.length=cs.length/\∀(i:Nat)(n:Int),l[i]? = some n->cs[i]? = some (.c (.v (.int .i64 n)))
 | [],l,hl=>by simp[qC]at hl;subst hl;simp
 | c::cs,l,hl=>by
  unfold qC at hl
  split at hl
  ·cases hl;rename_i heq;cases heq
  ·rename_i x r heq
   cases heq
   split at hl
   ·rename_i l' gq
    cases hl;obtain⟨h1,h2⟩:=HK (w:=w) (F:=F) (h:=h) _ _ gq;refine⟨by simp[h1],λi n hi=>?_⟩
    cases i with
    | zero=>simp at hi;subst hi;rfl
    | succ i=>simp at hi;exact h2 i n hi
   ·cases hl
  ·cases hl
theorem TP{n:Nat}{neg:Bool}{x y:Operand}{x' y':bc}{t ty:TypeId}(ho:o.op = .binOp (if neg then .neq else .eql) t x y ty)(ht:Hw C.P t=some n){t1 t2:TypeId}(hx:cO C.P t1 x=some x')(hy:cO C.P t2 y=some y')
  (he:QD Γ (bc.ev σ.t) σ.h b (.im n neg x' y')=some e) :
  o.wp C.P a w (λa' w'=>cJ C U' (σ.app o.dst e) a' w') Q:=by
 have h1:=ZL S hx;have h2:=ZL S hy;unfold Hw at ht
 split at ht
 rotate_left
 ·cases ht
 rename_i fs hu
 split at ht
 rotate_left
 ·cases ht
 rename_i hc
 cases ht;simp only[Bool.and_eq_true,Bool.not_eq_true']at hc;obtain⟨⟨hp,hg⟩,fS⟩:=hc;simp only[QD]at he
 split at he
 rotate_left
 ·cases he
 rename_i xs ys mA hvy
 split at he
 rotate_left
 ·cases he
 rename_i l m hl hm
 split at he
 rotate_left
 ·cases he
 rename_i hlen
 cases he;rw[mA]at h1;rw[hvy]at h2;obtain⟨q1,q2⟩:=HK (w:=w) (F:=λ_=>True) (h:=σ.h) _ _ hl;obtain⟨q3,q4⟩:=HK (w:=w) (F:=λ_=>True) (h:=σ.h) _ _ hm;generalize TR:a.eval x=ax at h1;generalize TS:a.eval y=ay at h2
 cases h1 with
 | a vs _ l1 _ xN =>
  cases h2 with
  | a us _ l2 _ pc =>
   have hX:∀(i:Nat)(n:Int),l[i]? = some n->vs[i]? = some (.int .i64 n):=by
    intro i n hi;have hk:=q2 i n hi;have aY:i<vs.size:=by rw[l1];exact(List.getElem?_eq_some_iff.1 hk).1
    have:=(xN i vs[i] _ (Array.getElem?_eq_getElem aY) hk).int;rw[Array.getElem?_eq_getElem aY,this]
   have hY:∀(i:Nat)(n:Int),m[i]? = some n->us[i]? = some (.int .i64 n):=by
    intro i n hi;have hk:=q4 i n hi;have aY:i<us.size:=by rw[l2];exact(List.getElem?_eq_some_iff.1 hk).1
    have:=(pc i us[i] _ (Array.getElem?_eq_getElem aY) hk).int;rw[Array.getElem?_eq_getElem aY,this]
   have hr:=TN (P:=C.P) (w:=w) (d:=9998) hX hY (by omega) fs.toList 0 hp (by simp;omega);have Cf:C.P.fieldsOf t=fs:=by simp[Program.fieldsOf,hu]
   have hs:=run_equalIn_struct (P:=C.P) w 9999 t vs us (by rw[Cf];exact hu) fS;rw[Cf,hr]at hs;simp only[List.drop_zero]at hs;refine Zx S hd bW (v:=.bool (if neg then !decide (l=m) else decide (l=m))) ?_ (fy rfl);have kJ:∀ op,(eqGuard op t x y (.agg vs) (.agg us)).run C.P w = .ok () w:=λop=>run_eqGuard_agg w op t x y vs us hg
   cases neg
   ·simp[execOp,ho,TR,TS,kJ,run_eql_struct,hs]
   ·simp[execOp,ho,TR,TS,kJ,run_neq_struct,hs]
end
end Go.Proofs.YtdplaepmjogjjaaGreat.Am
namespace Go.Proofs.YtdplaepmjogjjaaGreat.Am
open Go Go.RowKit
structure CR(w:World)(F:Nat->Prop)(ι:Io)(h:Nat->aX)(cur:Array Value)(cs:List AV):Prop where
 size:cur.size=cs.length
 one:∀(k:Nat)(v:Value),cur[k]? = some v->v.oneCell'=true
 vr:∀(k:Nat)(v:Value)(x:AV),cur[k]? = some v->cs[k]? = some x->VR w F ι h v x
theorem QT2{v:Value}(h:v.oneCell'=true):v.cells = #[v]:=by
 cases v <;> first | rfl | simp[Value.oneCell']at h
theorem VR.one{w:World}{F:Nat->Prop}{ι:Io}{h:Nat->aX}{v:Value}{x:AV}(hv:VR w F ι h v x)(hx:x.one=true):v.oneCell'=true:=by
 cases hv with
 | u=>simp[AV.one]at hx
 | c v d hr=>exact hr.one
 | n=>rfl
 | cI _ _ _ _ _ h1=>exact h1
 | cW=>rfl
 | dz=>rfl
 | r=>rfl
 | dg _ _ _ _ h1=>exact h1
 | p=>rfl
 | q=>rfl
 | fN _ _ _ _ _ h1=>exact h1
 | b _ _ _ _ _ _ _ _ _ h1=>exact h1
 | fa _ _ _ _ _ _ _ h1=>exact h1
 | bq _ _ _ _ _ _ _ _ _ _ _ h1=>exact h1
 | a=>simp[AV.one]at hx
 | t=>simp[AV.one]at hx
theorem VR.cells{w:World}{F:Nat->Prop}{ι:Io}{h:Nat->aX}{v:Value}{x:AV}(hv:VR w F ι h v x)(hx:x.st=true):CR w F ι h v.cells x.cells:=by
 by_cases jz:x.one=true
 ·have h1:=hv.one jz;have hc:x.cells=[x]:=by cases x <;> first | rfl | simp[AV.one]at jz
  rw[QT2 h1,hc];refine⟨rfl,λk u hk=>?_,λk u y hk hy=>?_⟩
  ·cases k with
   | zero=>simp at hk;subst hk;exact h1
   | succ k=>simp at hk
  ·cases k with
   | zero=>simp at hk hy;subst hk;subst hy;exact hv
   | succ k=>simp at hk
 ·cases x with
  | a cs =>
   cases hv with
   | a vs _ hl h1 hv=>exact⟨hl,h1,hv⟩
  | _=>first | exact absurd rfl jz | (simp[AV.st,AV.one]at hx)
theorem pd{α:Type}{l xs:List α}{j:Nat}(h:j+xs.length<=l.length)(k:Nat):(bB l j xs)[k]? = if k<j then l[k]? else if k<j+xs.length then xs[k-j]? else l[k]?:=by
 unfold bB;rw[List.append_assoc,List.getElem?_append];simp only[List.length_take,Nat.min_eq_left (show j<=l.length by omega)];by_cases h1:k<j
 ·rw[if_pos h1,if_pos h1,List.getElem?_take,if_pos h1]
 ·rw[if_neg h1,if_neg h1,List.getElem?_append];by_cases h2:k<j+xs.length
  ·rw[if_pos (by omega),if_pos h2]
  ·rw[if_neg (by omega),if_neg h2,List.getElem?_drop];congr 1
   omega
theorem pe{α:Type}{l xs:List α}{j:Nat}(h:j+xs.length<=l.length):(bB l j xs).length=l.length:=by
 unfold bB;simp;omega
theorem TT(off:Nat):∀(l:List Value)(j:Nat)(cur:Array Value),((l.zipIdx j).foldl (λcs x=>cs.setIfInBounds (off+x.2) x.1) cur).size=cur.size/\
  (off+j+l.length<=cur.size->∀ k:Nat,((l.zipIdx j).foldl (λcs x=>cs.setIfInBounds (off+x.2) x.1) cur)[k]? = if k<off+j then cur[k]? else if k<off+j+l.length then l[k-(off+j)]? else cur[k]?)
 | [],j,cur=>⟨rfl,λ_ k=>by
   simp only[List.zipIdx_nil,List.foldl_nil,List.length_nil,Nat.add_zero]
   split
   ·rfl
   ·rfl⟩
 | v::l,j,cur=>by
  obtain⟨h1,h2⟩:=TT off l (j+1) (cur.setIfInBounds (off+j) v);simp only[List.zipIdx_cons,List.foldl_cons];refine⟨by rw[h1];simp,λhle k=>?_⟩;simp only[List.length_cons]at hle;rw[h2 (by simp;omega) k];rw[Array.getElem?_setIfInBounds];by_cases e1:k<off+j
  ·rw[if_pos (by omega),if_neg (by omega),if_pos e1]
  ·rw[if_neg e1];by_cases e2:k=off+j
   ·subst e2;rw[if_pos (by omega),if_pos rfl,if_pos (by omega),if_pos (by simp)];simp
   ·rw[if_neg (by omega)];by_cases e3:k<off+j+(l.length+1)
    ·rw[if_pos (by omega),if_pos (by simpa using e3)];rw[show k-(off+j)=(k-(off+(j+1)))+1 by omega];simp
    ·rw[if_neg (by omega),if_neg (by omega),if_neg (by simpa using e3)]
theorem TU(cur part:Array Value)(off:Nat)(h:off+part.size<=cur.size):(part.zipIdx.foldl (λcs (x:Value × Nat)=>cs.setIfInBounds (off+x.2) x.1) cur).size=cur.size/\
  ∀ k:Nat,(part.zipIdx.foldl (λcs (x:Value × Nat)=>cs.setIfInBounds (off+x.2) x.1) cur)[k]? = if k<off then cur[k]? else if k<off+part.size then part[k-off]? else cur[k]?:=by
 have:=TT off part.toList 0 cur;rw[<- Array.foldl_toList,Array.toList_zipIdx];refine⟨this.1,λk=>?_⟩;have h2:=this.2 (by simpa using h) k;simpa using h2
theorem CR.bB{w:World}{F:Nat->Prop}{ι:Io}{h:Nat->aX}{cur part:Array Value}{cs ps:List AV}{off:Nat}(hc:CR w F ι h cur cs)(hp:CR w F ι h part ps)(hle:off+ps.length<=cs.length) :
  CR w F ι h (part.zipIdx.foldl (λcs (x:Value × Nat)=>cs.setIfInBounds (off+x.2) x.1) cur) (Am.bB cs off ps):=by
 have xO:=hp.size;have dU:=hc.size;obtain⟨h1,h2⟩:=TU cur part off (by omega);have hg:=pd (l:=cs) (xs:=ps) (j:=off) hle;refine⟨by rw[h1,pe hle,dU],λk v hk=>?_,λk v x hk hx=>?_⟩
 ·rw[h2 k]at hk
  split at hk
  ·exact hc.one k v hk
  ·split at hk
   ·exact hp.one _ v hk
   ·exact hc.one k v hk
 ·rw[h2 k]at hk;rw[hg k]at hx
  split at hk
  ·rename_i e1;rw[if_pos e1]at hx;exact hc.vr k v x hk hx
  ·rename_i e1;rw[if_neg e1]at hx
   split at hk
   ·rename_i e2;rw[if_pos (by omega)]at hx;exact hp.vr _ v x hk hx
   ·rename_i e2;rw[if_neg (by omega)]at hx;exact hc.vr k v x hk hx
theorem TW{P:Program}:∀(fs:List Field),fs.all (λf=>(cK P f.type).isSome)=true->∃ pl,fs.mapM (λf=>(P.info? f.type).map λi=>(f.offset,i.size))=some pl/\∀(i:Nat)(f:Field)(n:Nat),fs[i]? = some f->cK P f.type=some n->pl[i]? = some (f.offset,n)
 | [],_=>⟨[],rfl,by simp⟩
 | f::fs,h=>by
  simp only[List.all_cons,Bool.and_eq_true]at h;obtain⟨pl,h1,h2⟩:=TW fs h.2;obtain⟨n,hn⟩:=Option.isSome_iff_exists.1 h.1;obtain⟨i,hi,hs⟩:=xI hn;refine⟨(f.offset,n)::pl,by simp[List.mapM_cons,hi,h1,hs],λk g m hk hm=>?_⟩
  cases k with
  | zero=>simp at hk;subst hk;rw[hn]at hm;cases hm;rfl
  | succ k=>simp at hk;simpa using h2 k g m hk hm
theorem TX{C:Ctx}{U:Nat->Prop}{σ:St}{a:Act}{w:World}{ι:Io}(S:Sat C U σ a w ι){fs:List Field}{pl:List (Nat × Nat)}
  (fT:∀(i:Nat)(f:Field)(n:Nat),fs[i]? = some f->cK C.P f.type=some n->pl[i]? = some (f.offset,n)) :
  ∀(parts:List (Nat × Operand))(ps:List (Nat × Nat × bc))(cur:Array Value)(cs cs':List AV),u6 C.P fs parts=some ps->CR w (Fz C w ι σ.h) ι σ.h cur cs->nR (bc.ev σ.t) cs ps=some cs'->
   ∃ dB,Instr.fill (λi=>pl[i]?) cur (parts.map λx=>(x.1,a.eval x.2))=some dB/\CR w (Fz C w ι σ.h) ι σ.h dB cs'
 | [],ps,cur,cs,cs',hp,hc,hq=>by
  simp[u6]at hp;subst hp;simp[nR]at hq;subst hq;exact⟨cur,rfl,hc⟩
 | (i,x)::parts,ps,cur,cs,cs',hp,hc,hq=>by
  simp only[u6]at hp
  split at hp
  rotate_left
  ·cases hp
  rename_i f hf
  split at hp
  rotate_left
  ·cases hp
  rename_i n y ys hn hy jC
  cases hp;simp only[nR]at hq
  split at hq
  rotate_left
  ·cases hq
  rename_i fU;obtain⟨e1,e2,e3⟩:=fU;have hv:=(ZL S hy).cells e3;have b7:(a.eval x).cells.size=n:=by rw[hv.size,e1]
  have hc':=hc.bB (off:=f.offset) hv (by omega);obtain⟨dB,h1,h2⟩:=TX S fT parts ys _ _ cs' jC hc' hq;refine⟨dB,?_,h2⟩;simp only[List.map_cons,Instr.fill,fT i f n hf hn];have dU:=hc.size;rw[if_neg (by simp only[Bool.or_eq_true,decide_eq_true_eq];rintro(h | h) <;> omega)];exact h1
theorem xP{P:Program}{t:TypeId}{zs:List AV}(h:JG P t=some zs):∃ i z,P.info? t=some i/\i.zero=some z/\∀(w:World)(F:Nat->Prop)(ι:Io)(h:Nat->aX),CR w F ι h z.cells zs:=by
 unfold JG at h
 split at h
 rotate_left
 ·cases h
 rename_i i hi
 split at h
 rotate_left
 ·cases h
 rename_i z hz
 split at h
 rotate_left
 ·cases h
 rename_i x hx
 cases h;refine⟨i,z,hi,hz,λw F ι h=>(Tz hx).cells ?_⟩;unfold ln at hx
 split at hx
 ·split at hx
  ·cases hx;rfl
  ·cases hx
 ·split at hx
  ·cases hx;unfold mv
   split <;> rfl
  ·cases hx
section
variable {C:Ctx} {U U':Nat->Prop} {σ:St} {a:Act} {w:World} {ι:Io} {o:Oper} {Q:Exit->Act->World->Prop} {Γ:eR} {b:Nat} {e:fI}
variable (S:Sat C U σ a w ι) (hd:∀ d,o.dst=some d->d<C.N) (bW:∀ i,U' i->U i)
include S hd bW
theorem Q4e{t:TypeId}{fs:Array Field}{parts:Array (Nat × Operand)}{zs:List AV}{ps:List (Nat × Nat × bc)}(ho:o.op = .build t parts)(ht:C.P.underlying t=some (.struct fs))(hz:JG C.P t=some zs)
  (hp:u6 C.P fs.toList parts.toList=some ps) (eN:fs.toList.all (λf=>(cK C.P f.type).isSome)=true) (he:QD Γ (bc.ev σ.t) σ.h b (.build zs ps)=some e) :
  o.wp C.P a w (λa' w'=>cJ C U' (σ.app o.dst e) a' w') Q:=by
 obtain⟨i,z,hi,kK,ib⟩:=xP hz;obtain⟨pl,HL,HM⟩:=TW fs.toList eN;simp only[QD]at he
 split at he
 rotate_left
 ·cases he
 rename_i cs dU
 cases he;obtain⟨dB,h1,h2⟩:=TX S HM parts.toList ps z.cells zs cs hp (ib _ _ _ _) dU;have hb:C.P.built t (parts.map λx=>(x.1,a.eval x.2)).toList=some dB:=by
  simp only[Program.built,hi,ht,kK,HL];simpa using h1
 refine Zx S hd bW (v:=.agg dB) ?_ (.a _ _ h2.size h2.one h2.vr);have:=run_build (P:=C.P) w t (parts.map λx=>(x.1,a.eval x.2)) dB hb;simp only[execOp,ho,Sem.run_bind,this,Result.andThen_ok,Sem.run_pure]
end
theorem Y8(h g:Nat->aX):∀(ids:List Nat)(i:Nat),bA g (fu h ids) i=if i∈ids then ka (h i) else g i
 | [],i=>by simp[fu,bA]
 | id::ids,i=>by
  simp only[fu,bA];rw[Y8 h (bN g id (ka (h id))) ids i];by_cases h1:i∈ids
  ·simp[h1]
  ·by_cases h2:i=id
   ·subst h2;simp[h1,bN]
   ·simp[h1,h2,bN]
theorem TY(x:aX):(ka x).own=true->x.own=true:=by
 cases x <;> simp[ka,aX.own,Mo.own]
def Io.loose(ι:Io)(ids:List Nat):Io:=⟨ι.b,λb=>match ι.k b with | some (y,p)=>if y∈ids then none else some (y,p) | none=>none,ι.o⟩
theorem Io.fc{ι:Io}{ids:List Nat}{b y:Nat}{p:cM}:(ι.loose ids).k b=some (y,p)↔ι.k b=some (y,p)/\y∉ids:=by
 simp only[Io.loose]
 cases hx:ι.k b with
 | none=>simp
 | some z =>
  obtain⟨z,q⟩:=z;by_cases h:z∈ids
  ·simp only[h,if_true,Option.some.injEq,Prod.mk.injEq];refine⟨λh0=>(by cases h0),?_⟩;rintro⟨⟨rfl,_⟩,h1⟩
   exact absurd h h1
  ·simp only[h,if_false,Option.some.injEq,Prod.mk.injEq];constructor
   ·rintro⟨rfl,rfl⟩;exact⟨⟨rfl,rfl⟩,h⟩
   ·rintro⟨h1,_⟩;exact h1
theorem Io.iu{ι:Io}{ids:List Nat}{b:Nat}(h:ι.k b=none):(ι.loose ids).k b=none:=by simp[Io.loose,h]
def Full(h:Nat->aX)(ids:List Nat):Prop:=∀ id,id∈ids->∀ e sz m es,h id = .sl e sz m es->m.full=true
theorem Sat.freeze{C:Ctx}{U:Nat->Prop}{σ:St}{a:Act}{w:World}{ι:Io}(S:Sat C U σ a w ι)(ids:List Nat)(ea:Full σ.h ids) :
  Sat C U ⟨σ.t,bA σ.h (fu σ.h ids),σ.nx⟩ a w (ι.loose ids)/\∀ b,Fz C w ι σ.h b->Fz C w (ι.loose ids) (bA σ.h (fu σ.h ids)) b:=by
 have fb:=Y8 σ.h σ.h ids;have hF:∀ b,Fz C w ι σ.h b->Fz C w (ι.loose ids) (bA σ.h (fu σ.h ids)) b:=by
  intro b ⟨h1,h2,h3,h4⟩;refine⟨h1,h2,λid bp=>?_,Io.iu h4⟩;have:=h3 id bp;rw[fb]
  split
  ·cases hx:(ka (σ.h id)).own with
   | false=>rfl
   | true=>rw[TY _ hx]at this;cases this
  ·exact this
 have b8:∀ id,id∉ids->Rest w w ι (ι.loose ids) id:=λid hn=>⟨rfl,rfl,λ_ _=>rfl,λb p hk=>⟨Io.fc.2 ⟨hk,hn⟩,rfl⟩⟩
 have hg:∀ id,dn w w ι (ι.loose ids) σ.h (bA σ.h (fu σ.h ids)) id:=by
  intro id;by_cases bp:id∈ids
  ·unfold dn;rw[fb,if_pos bp]
   cases hx:σ.h id with
   | none=>exact .inl rfl
   | dead=>exact .inr (.inl rfl)
   | box cs=>exact .inr (.inr ⟨rfl,rfl,rfl,λ_ _=>rfl,λg h=>(by cases h)⟩)
   | sl e sz m es=>exact .inr (.inr ⟨rfl,rfl,⟨rfl,rfl,rfl,Mo.qA m⟩,λ_ _=>rfl,λg _ h=>(by cases h)⟩)
  ·exact(b8 id bp).il (by rw[fb,if_neg bp])
 refine⟨S.eM S.dR (λb hb=>⟨hF b hb,rfl⟩) hg (λi cs hx=>by rw[fb,hx];split <;> simp[ka]) (λid=>?_) S.inj (λi b hi=>?_) (λi hi=>?_) (λi b hi=>?_) (λb id p hk=>?_),hF⟩;rotate_left
 ·obtain⟨h1,h2⟩:=S.eL i b hi;refine⟨h1.imp id λ⟨h3,cs,h4⟩=>⟨h3,cs,?_⟩,h2⟩;rw[fb,h4]
  split <;> rfl
 rotate_right
 ·by_cases bp:id∈ids
  ·right;rw[fb,if_pos bp];have hb:=S.fH id
   cases hx:σ.h id with
   | none=>exact .none
   | dead=>exact .dead
   | box cs =>
    rw[hx]at hb
    cases hb with
    | box b e bz _ hi ho hb hl h1 hv=>exact .box b e bz cs hi ho hb hl h1 (λk v x hk sJ=>(hv k v x hk sJ).mono (λb hb=>⟨hF b hb,rfl⟩) hg)
   | sl e sz m es =>
    have qE:=ea id bp e sz m es hx;rw[hx]at hb
    cases hb with
    | slnil _ _ _ hz hi=>exact .slnil e sz .fz hz hi
    | sl b _ e0 _ _ _ cur hz hi hb fj hle dj b7 hv =>
     refine .sl b e e0 sz .fz es cur hz hi hb (λh=>(by cases h)) hle dj b7 (λp q x d pf hd=>?_);obtain⟨v,h5,h6⟩:=hv p q x d pf hd;refine⟨v,h5,h6.rd qE hF (λb' p' hk=>?_)⟩;have L:=S.dA b' id p' hk;refine⟨L.lt,.inr L.fr,λi hi=>absurd hi (L.ne i),?_⟩
     cases fJ:(ι.loose ids).k b' with
     | none=>rfl
     | some z =>
      obtain⟨z,q⟩:=z;obtain⟨k1,k2⟩:=Io.fc.1 fJ;rw[hk]at k1
      cases k1;exact absurd bp k2
  ·left;exact⟨by rw[fb,if_neg bp],b8 id bp⟩
 ·have:=S.fresh i hi;rw[fb,this.1];refine⟨?_,this.2⟩
  split <;> rfl
 ·have:=S.live i b hi;rw[fb]
  split
  ·cases hx:σ.h i <;> simp_all [ka]
  ·exact this
 ·obtain⟨k1,k2⟩:=Io.fc.1 hk;have L:=S.dA b id p k1;refine⟨L.pn,?_,L.fr,L.lt,L.ne⟩;rw[fb,if_neg k2];exact L.dp
theorem AV.kj{C:Ctx}{U:Nat->Prop}{σ:St}{a:Act}{w:World}{ι:Io}(S:Sat C U σ a w ι){F:Nat->Prop}(hF:∀ b,Fz C w ι σ.h b->F b){v:Value}{x:AV}{d:D}(hv:VR w (Fz C w ι σ.h) ι σ.h v x)(hx:x.d σ.h=some d)
  (cE:∀ id b,id∈x.b4->ι id=some b->F b) (oZ:∀ id b p,id∈x.b4->ι.k b=some (id,p)->F b):Rd w F v d:=by
 cases hv with
 | u=>simp[AV.d]at hx
 | c v d hr=>simp[AV.d]at hx;subst hx;exact hr.mono (λb hb=>⟨hF b hb,rfl⟩)
 | n sz=>simp[AV.d]at hx;subst hx;exact .nil _
 | cI v sz id off len h1 hd=>simp[AV.d,hd]at hx
 | cW id e sz m hi hh =>
  simp only[AV.d,hh]at hx
  split at hx
  ·simp at hx;subst hx;exact .nil _
  ·cases hx
 | dz ad cap id e sz m hi hh ht =>
  simp only[AV.d,hh]at hx
  split at hx
  ·simp at hx;subst hx;exact .emp _ _ _
  ·cases hx
 | r id off len b ao cap e sz m es hi hh hlen cr ho dm =>
  simp only[AV.d,hh]at hx
  split at hx
  rotate_left
  ·cases hx
  rename_i ea;simp only[Option.some.injEq]at hx;subst hx;have hb:=S.fH id;rw[hh]at hb;have lr:((es.drop off).take len).length=len:=by simp;omega
  have mz:∀(i:Nat)(el:List D),((es.drop off).take len)[i]? = some el->i<len/\es[off+i]? = some el:=by
   intro i el dh;have hi:=(List.getElem?_eq_some_iff.1 dh).1;rw[List.getElem?_take,if_pos (by omega),List.getElem?_drop]at dh;exact⟨by omega,dh⟩
  cases hb with
  | slnil _ _ _ hz cc=>rw[hi]at cc;cases cc
  | sl b' _ e0 _ _ _ cur hz cc fe fj hle dj b7 d6 =>
   rw[hi]at cc;cases cc;refine .sl b ao len cap sz _ (λi j=>cur.getD (ι.o id+(off+i)*sz+j) undef) lr cr (by omega) (λel he=>b7 el (List.mem_of_mem_drop (List.mem_of_mem_take he))) (λ_=>cE id b (by simp[AV.b4]) hi) (λi j el d h1 h2=>?_) (λi j el d h1 h2=>?_)
   ·obtain⟨h3,h4⟩:=mz i el h1;obtain⟨v,h5,h6⟩:=d6 _ j el d h4 h2;rw[ho (by omega),show ι.o id+off*sz+i*sz+j=ι.o id+(off+i)*sz+j by rw[Nat.add_mul];omega];rw[sE fe h5];simp[Array.getD_eq_getD_getElem?,h5]
   ·obtain⟨h3,h4⟩:=mz i el h1;obtain⟨v,h5,h6⟩:=d6 _ j el d h4 h2;have:cur.getD (ι.o id+(off+i)*sz+j) undef=v:=by simp[Array.getD_eq_getD_getElem?,h5]
    rw[this];exact h6.rd ea hF (λb p hk=>oZ id b p (by simp[AV.b4]) hk)
 | dg=>simp[AV.d]at hx
 | p=>simp[AV.d]at hx
 | q=>simp[AV.d]at hx
 | a=>simp[AV.d]at hx
 | t=>simp[AV.d]at hx
 | fa=>simp[AV.d]at hx
 | bq=>simp[AV.d]at hx
 | fN v d' id g p h1 hd=>simp[AV.d,hd,aX.dG]at hx
 | b v d' id g p e sz m es h1 hh jq j0 =>
  simp only[AV.d,hh]at hx
  split at hx
  ·rename_i gx
   cases hx;exact(j0 (aX.eT gx)).1.rd (λb p hk=>oZ id b p (by simp[AV.b4]) hk)
  ·cases hx
theorem AV.eb{h:Nat->aX}:∀ {xs:List AV} {ds:List D},AV.ds h xs=some ds->ds.length=xs.length/\∀(k:Nat)(x:AV),xs[k]? = some x->∃ d,ds[k]? = some d/\x.d h=some d
 | [],ds,hx=>by simp[AV.ds]at hx;subst hx;simp
 | x::xs,ds,hx=>by
  simp only[AV.ds]at hx
  split at hx
  ·rename_i d vf h1 h2
   cases hx;obtain⟨h3,h4⟩:=AV.eb h2;refine⟨by simp[h3],λk y hk=>?_⟩
   cases k with
   | zero=>simp at hk;subst hk;exact⟨d,rfl,h1⟩
   | succ k=>simp at hk;simpa using h4 k y hk
  ·cases hx
theorem vg:∀ {xs:List AV} {k:Nat} {x:AV} {id:Nat},xs[k]? = some x->id∈x.b4->id∈AV.bU xs
 | [],k,x,id,h,_=>by simp at h
 | y::ys,0,x,id,h,hi=>by simp at h;subst h;simp[AV.bU,hi]
 | y::ys,k+1,x,id,h,hi=>by simp at h;simp[AV.bU,vg h hi]
end Go.Proofs.YtdplaepmjogjjaaGreat.Am
namespace Go.Proofs.YtdplaepmjogjjaaGreat.Am
open Go Go.RowKit
theorem QNh{α:Type}{es:List α}{off len:Nat}(hlen:off+len<=es.length):((es.drop off).take len).length=len/\∀(i:Nat)(el:α),((es.drop off).take len)[i]? = some el->i<len/\es[off+i]? = some el:=by
 have lr:((es.drop off).take len).length=len:=by simp;omega
 refine⟨lr,λi el dh=>?_⟩;have hi:=(List.getElem?_eq_some_iff.1 dh).1;rw[List.getElem?_take,if_pos (by omega),List.getElem?_drop]at dh;exact⟨by omega,dh⟩
def Io.merge(ι:Io)(id n i j off len:Nat):Io:=⟨bN ι.b n none,λb=>if ι n=some b then some (id,[(i,j)]) else match ι.k b with
 | some (y,p)=>if y=n then(match p with
  | (a,c)::q=>if off<=a/\a<off+len then some (id,(i,j)::(a-off,c)::q) else none
  | []=>none) else some (y,p)
 | none=>none,ι.o⟩
section
variable {C:Ctx} {U U':Nat->Prop} {σ:St} {a:Act} {w:World} {ι:Io}
theorem QMB(S:Sat C U σ a w ι){id n i j off len b y:Nat}{p:cM}(hk:ι.k b=some (y,p))(hy:y≠n):(ι.merge id n i j off len).k b=some (y,p):=by
 simp only[Io.merge];rw[if_neg ((S.dA b y p hk).ne n)];simp only[hk,if_neg hy]
theorem QZv{id n i j off len b y:Nat}{p:cM}(hk:(ι.merge id n i j off len).k b=some (y,p)) :
  (y≠n/\ι.k b=some (y,p)/\ι n≠some b)\/(y=id/\p≠[]/\(ι n=some b\/∃ p',ι.k b=some (n,p'))):=by
 simp only[Io.merge]at hk
 split at hk
 ·rename_i h1
  cases hk;exact .inr ⟨rfl,by simp,.inl h1⟩
 ·rename_i h1
  split at hk
  rotate_left
  ·cases hk
  rename_i z q hz
  split at hk
  ·rename_i h2;subst h2
   split at hk
   ·split at hk
    ·cases hk;exact .inr ⟨rfl,by simp,.inr ⟨_,hz⟩⟩
    ·cases hk
   ·cases hk
  ·rename_i h2
   cases hk;exact .inl ⟨h2,hz,h1⟩
theorem RL.enter(S:Sat C U σ a w ι){n off len bt:Nat}{e':TypeId}{g':Nat}{t':Bool}{bZ:List (List D)}{v:Value}{K':Nat->Option (Nat × cM)}{cn:Nat}{p':cM}(hn:σ.h n = .sl e' bt (.dp g' t' []) bZ)
  (hv:VR w (Fz C w ι σ.h) ι σ.h v (.r bt n off len)) (h1:∀ b,ι n=some b->len≠0->K' b=some (cn,p'))
  (h2:∀ b a c q,ι.k b=some (n,(off+a,c)::q)->a<len->K' b=some (cn,p'++(a,c)::q)):RL w K' cn p' v (.sl bt ((bZ.drop off).take len)):=by
 cases hv with
 | cI _ _ _ _ _ _ hd=>rw[hd]at hn;cases hn
 | cW _ e sz m hi hh =>
  rw[hn]at hh;cases hh;simp;exact .nil _ _
 | dz ad cap _ e sz m hi hh ht =>
  rw[hn]at hh;cases hh;simp;exact .emp _ _ _ _
 | r _ _ _ b ao cap e sz m es hi hh hlen cr ho dm =>
  rw[hn]at hh;cases hh;by_cases h0:len=0
  ·subst h0;simp;exact .emp _ _ _ _
  have hb:=S.fH n;rw[hn]at hb;obtain⟨lr,mz⟩:=QNh hlen
  cases hb with
  | slnil _ _ _ hz cc=>rw[hi]at cc;cases cc
  | sl b' _ e0 _ _ _ cur hz cc fe fj hle dj b7 d6 =>
   rw[hi]at cc;cases cc;have j2:=ho h0;refine .sl p' b ao len cap bt _ cur e0 (λx y=>cur.getD (ι.o n+(off+x)*bt+y) undef) hz (λh=>by rw[h]at lr;simp at lr;omega) lr cr (by omega) (λel he=>b7 el (List.mem_of_mem_drop (List.mem_of_mem_take he))) (h1 b hi h0) fe ?_ (λx y el d hx hd=>?_) (λx y el d hx hd=>?_)
   ·rw[j2];have:(off+len)*bt<=bZ.length*bt:=Nat.mul_le_mul_right _ hlen;rw[Nat.add_mul]at this;omega
   ·obtain⟨h3,h4⟩:=mz x el hx;obtain⟨u,h5,h6⟩:=d6 _ y el d h4 hd;rw[j2,show ι.o n+off*bt+x*bt+y=ι.o n+(off+x)*bt+y by rw[Nat.add_mul];omega,h5];simp[Array.getD_eq_getD_getElem?,h5]
   ·obtain⟨h3,h4⟩:=mz x el hx;obtain⟨u,h5,h6⟩:=d6 _ y el d h4 hd;have:cur.getD (ι.o n+(off+x)*bt+y) undef=u:=by simp[Array.getD_eq_getD_getElem?,h5]
    rw[this];refine(h6.2 (by simp)).map _ (λb q hk=>⟨?_,rfl⟩);have:=h2 b x y q hk h3;simpa using this
theorem Sat.merge(S:Sat C U σ a w ι){id n i j sz bt off len g g':Nat}{t t':Bool}{H:cM}{e e':TypeId}{es bZ:List (List D)}{x:List D}{v:Value}
  (bp:σ.h id = .sl e sz (.dp g t ((i,j)::H)) es) (hn:σ.h n = .sl e' bt (.dp g' t' []) bZ) (dk:n≠id)
  (dD:∃ bk cur e0,ι id=some bk/\w.heap[bk]? = some (.cells cur e0 (0,0))/\cur[ι.o id+i*sz+j]? = some v) (hv:VR w (Fz C w ι σ.h) ι σ.h v (.r bt n off len))
  (hx:es[i]? = some x) (pg:x[j]? = some (.sl bt ((bZ.drop off).take len))) :
  Sat C U ⟨σ.t,bN (bN σ.h n .dead) id (.sl e sz (.dp g t H) es),σ.nx⟩ a w (ι.merge id n i j off len)/\
  (∀ b,Fz C w ι σ.h b->Fz C w (ι.merge id n i j off len) (bN (bN σ.h n .dead) id (.sl e sz (.dp g t H) es)) b)/\
  ∀ y,dn w w ι (ι.merge id n i j off len) σ.h (bN (bN σ.h n .dead) id (.sl e sz (.dp g t H) es)) y:=by
 have i4:∀ y b,(ι.merge id n i j off len) y=some b->y≠n/\ι y=some b:=by
  intro y b hy;simp only[Io.merge,bN]at hy
  split at hy
  ·cases hy
  ·rename_i h;exact⟨h,hy⟩
 have fY:∀ y,y≠n->(ι.merge id n i j off len) y=ι y:=λy hy=>QK _ _ _ _ hy;have gV:∀ y,y≠n->oX w w ι (ι.merge id n i j off len) y:=λy hy b p hk=>⟨QMB S hk hy,rfl⟩
 have b8:∀ y,y≠n->Rest w w ι (ι.merge id n i j off len) y:=λy hy=>⟨fY y hy,rfl,λ_ _=>rfl,gV y hy⟩
 have xQ:(σ.h n).own=true:=by rw[hn];rfl
 have sK:(σ.h id).own=true:=by rw[bp];rfl
 obtain⟨h',cq⟩:∃ h',h'=bN (bN σ.h n .dead) id (.sl e sz (.dp g t H) es):=⟨_,rfl⟩
 have e1:h' id = .sl e sz (.dp g t H) es:=by rw[cq,QQ]
 have e2:h' n = .dead:=by rw[cq,QK _ _ _ _ dk,QQ]
 have e3:∀ y,y≠n->y≠id->h' y=σ.h y:=λy h1 h2=>by rw[cq,QK _ _ _ _ h2,QK _ _ _ _ h1]
 rw[<- cq];have hF:∀ b,Fz C w ι σ.h b->Fz C w (ι.merge id n i j off len) h' b:=by
  intro b ⟨h1,h2,h3,h4⟩;refine⟨h1,h2,λy hy=>?_,?_⟩
  ·obtain⟨k1,k2⟩:=i4 y b hy;have:=h3 y k2;by_cases mB:y=id
   ·subst mB;rw[sK]at this;cases this
   ·rw[e3 y k1 mB];exact this
  ·simp only[Io.merge];rw[if_neg (λlv=>by have:=h3 n lv;rw[xQ]at this;cases this)];rw[h4]
 have hg:∀ y,dn w w ι (ι.merge id n i j off len) σ.h h' y:=by
  intro y;by_cases h1:y=n
  ·subst h1;exact .inr (.inl e2)
  by_cases h2:y=id
  ·subst h2;unfold dn;rw[e1,bp];exact .inr (.inr ⟨fY y h1,rfl,⟨rfl,rfl,rfl,⟨λh=>h,λg h=>⟨g,h,Nat.le_refl _⟩⟩⟩,λ_ _=>rfl,λ_ _ _=>⟨λ_ _=>rfl,gV y h1⟩⟩)
  ·exact(b8 y h1).il (e3 y h1 h2)
 refine⟨S.eM S.dR (λb hb=>⟨hF b hb,rfl⟩) hg (λy cs hb=>?_) (λy=>?_) (λy z b hy hz=>?_) (λy b hy=>?_) (λy hy=>?_) (λy b hy=>?_) (λb y p hk=>?_),hF,hg⟩
 ·by_cases h1:y=n
  ·subst h1;rw[hn]at hb;cases hb
  by_cases h2:y=id
  ·subst h2;rw[bp]at hb;cases hb
  rw[e3 y h1 h2,hb];simp
 ·by_cases h1:y=n
  ·subst h1;right;rw[e2];exact .dead
  by_cases h2:y=id
  ·subst h2;right;rw[e1];have hb:=S.fH y;rw[bp]at hb
   cases hb with
   | slnil=>simp at hx
   | sl bk _ e0 _ _ _ cur hz hi fe fj hle dj b7 d6 =>
    refine .sl bk e e0 sz _ es cur hz ((fY y h1).trans hi) fe fj hle dj b7 (λp q el d dh hd=>?_);obtain⟨u,h5,h6,h7⟩:=d6 p q el d dh hd;refine⟨u,h5,h6,λdI=>?_⟩;by_cases ph:(p,q)=(i,j)
    ·cases ph;rw[hx]at dh
     cases dh;rw[pg]at hd
     cases hd;obtain⟨nX,dB,xR,c1,c2,c3⟩:=dD;rw[hi]at c1
     cases c1;rw[fe]at c2
     cases c2;rw[h5]at c3
     cases c3;refine RL.enter S hn hv (λb hb _=>?_) (λb x c q hk aY=>?_)
     ·simp only[Io.merge];rw[if_pos hb]
     ·simp only[Io.merge];rw[if_neg ((S.dA b n _ hk).ne n),hk];simp only[if_true];rw[if_pos ⟨by omega,by omega⟩,show off+x-off=x by omega];rfl
    ·exact(h7 (by simp only[List.mem_cons,not_or];exact⟨ph,dI⟩)).mono (gV y h1)
  ·left;exact⟨e3 y h1 h2,b8 y h1⟩
 ·exact S.inj y z b (i4 y b hy).2 (i4 z b hz).2
 ·obtain⟨h1,h2⟩:=i4 y b hy;obtain⟨h3,h4⟩:=S.eL y b h2;refine⟨h3.imp (λh=>h) λ⟨h5,cs,h6⟩=>⟨h5,cs,?_⟩,h4⟩;by_cases h7:y=id
  ·subst h7;rw[bp]at h6;cases h6
  ·rw[e3 y h1 h7];exact h6
 ·obtain⟨h1,h2⟩:=S.fresh y hy;have h3:y≠n:=λh=>by subst h;rw[hn]at h1;cases h1
  have h4:y≠id:=λh=>by subst h;rw[bp]at h1;cases h1
  rw[e3 y h3 h4,fY y h3];exact⟨h1,h2⟩
 ·obtain⟨h1,h2⟩:=i4 y b hy;by_cases h7:y=id
  ·subst h7;rw[e1];simp
  ·rw[e3 y h1 h7];exact S.live y b h2
 ·rcases QZv hk with⟨h1,h2,h3⟩ | ⟨rfl,h2,h3⟩
  ·have L:=S.dA b y p h2;refine⟨L.pn,?_,L.fr,L.lt,λz hz=>L.ne z (i4 z b hz).2⟩;by_cases h7:y=id
   ·subst h7;rw[e1];exact⟨_,_,_,_,_,_,rfl⟩
   ·rw[e3 y h1 h7];exact L.dp
  ·rcases h3 with h3 | ⟨p',h3⟩
   ·obtain⟨h4,h5⟩:=S.eL n b h3;refine⟨h2,by rw[e1];exact⟨_,_,_,_,_,_,rfl⟩,h4.elim (λh=>h) (λ⟨_,cs,h⟩=>by rw[hn]at h;cases h),h5,λz hz=>?_⟩;obtain⟨k1,k2⟩:=i4 z b hz;exact k1 (S.inj z n b k2 h3)
   ·have L:=S.dA b n p' h3;exact⟨h2,by rw[e1];exact⟨_,_,_,_,_,_,rfl⟩,L.fr,L.lt,λz hz=>L.ne z (i4 z b hz).2⟩
theorem Sat.reset(S:Sat C U σ a w ι){id sz g:Nat}{t:Bool}{H:cM}{e:TypeId}{es gQ:List (List D)}(bp:σ.h id = .sl e sz (.dp g t H) es)(hl:gQ.length=es.length)(pj:∀ x,x∈gQ->x.length=sz)
  (db:∀ p q x d,gQ[p]? = some x->x[q]? = some d->(p,q)∉H->∃ y,es[p]? = some y/\y[q]? = some d) :
  Sat C U ⟨σ.t,bN σ.h id (.sl e sz (.dp g t H) gQ),σ.nx⟩ a w ι/\(∀ b,Fz C w ι σ.h b->Fz C w ι (bN σ.h id (.sl e sz (.dp g t H) gQ)) b)/\
  ∀ y,dn w w ι ι σ.h (bN σ.h id (.sl e sz (.dp g t H) gQ)) y:=by
 obtain⟨h',cq⟩:∃ h',h'=bN σ.h id (.sl e sz (.dp g t H) gQ):=⟨_,rfl⟩
 have e1:h' id = .sl e sz (.dp g t H) gQ:=by rw[cq,QQ]
 have e3:∀ y,y≠id->h' y=σ.h y:=λy h2=>by rw[cq,QK _ _ _ _ h2]
 have b8:∀ y,Rest w w ι ι y:=λy=>⟨rfl,rfl,λ_ _=>rfl,λb p hk=>⟨hk,rfl⟩⟩
 rw[<- cq];have hF:∀ b,Fz C w ι σ.h b->Fz C w ι h' b:=by
  intro b ⟨h1,h2,h3,h4⟩;refine⟨h1,h2,λy hy=>?_,h4⟩;have:=h3 y hy;by_cases mB:y=id
  ·subst mB;rw[bp]at this;cases this
  ·rw[e3 y mB];exact this
 have hg:∀ y,dn w w ι ι σ.h h' y:=by
  intro y;by_cases h2:y=id
  ·subst h2;unfold dn;rw[e1,bp];exact .inr (.inr ⟨rfl,rfl,⟨rfl,rfl,hl,⟨λh=>h,λg h=>⟨g,h,Nat.le_refl _⟩⟩⟩,λ_ _=>rfl,λ_ _ _=>⟨λ_ _=>rfl,λb p hk=>⟨hk,rfl⟩⟩⟩)
  ·exact(b8 y).il (e3 y h2)
 refine⟨S.eM S.dR (λb hb=>⟨hF b hb,rfl⟩) hg (λy cs hb=>?_) (λy=>?_) S.inj (λy b hy=>?_) (λy hy=>?_) (λy b hy=>?_) (λb y p hk=>?_),hF,hg⟩
 ·by_cases h2:y=id
  ·subst h2;rw[bp]at hb;cases hb
  rw[e3 y h2,hb];simp
 ·by_cases h2:y=id
  ·subst h2;right;rw[e1];have hb:=S.fH y;rw[bp]at hb
   cases hb with
   | slnil _ _ _ hz hi =>
    have:gQ=[]:=List.eq_nil_of_length_eq_zero (by simpa using hl);subst this;exact .slnil e sz _ hz hi
   | sl bk _ e0 _ _ _ cur hz hi fe fj hle dj b7 d6 =>
    refine .sl bk e e0 sz _ gQ cur hz hi fe (λh=>by rw[hl];exact fj h) (by rw[hl];exact hle) (by rw[hl];exact dj) pj (λp q el d dh hd=>?_);have fT:p<es.length:=by rw[<- hl];exact(List.getElem?_eq_some_iff.1 dh).1
    have TZ:q<sz:=by rw[<- pj el (List.mem_of_getElem? dh)];exact(List.getElem?_eq_some_iff.1 hd).1
    have lx:q<es[p].length:=by rw[b7 _ (List.getElem_mem fT)];exact TZ
    obtain⟨u,h5,h6,h7⟩:=d6 p q es[p] _ (List.getElem?_eq_getElem fT) (List.getElem?_eq_getElem lx);refine⟨u,h5,h6,λdI=>?_⟩;obtain⟨y',k1,k2⟩:=db p q el d dh hd dI;obtain⟨u',T1,h6',h7'⟩:=d6 p q y' d k1 k2;rw[h5]at T1
    cases T1;exact h7' dI
  ·left;exact⟨e3 y h2,b8 y⟩
 ·obtain⟨h3,h4⟩:=S.eL y b hy;refine⟨h3.imp (λh=>h) λ⟨h5,cs,h6⟩=>⟨h5,cs,?_⟩,h4⟩;by_cases h7:y=id
  ·subst h7;rw[bp]at h6;cases h6
  ·rw[e3 y h7];exact h6
 ·obtain⟨h1,h2⟩:=S.fresh y hy;have h4:y≠id:=λh=>by subst h;rw[bp]at h1;cases h1
  rw[e3 y h4];exact⟨h1,h2⟩
 ·by_cases h7:y=id
  ·subst h7;rw[e1];simp
  ·rw[e3 y h7];exact S.live y b hy
 ·have L:=S.dA b y p hk;refine⟨L.pn,?_,L.fr,L.lt,L.ne⟩;by_cases h7:y=id
  ·subst h7;rw[e1];exact⟨_,_,_,_,_,_,rfl⟩
  ·rw[e3 y h7];exact L.dp
def Io.cU(ι:Io)(id n i j:Nat)(r:Option Nat)(o:Nat):Io:=⟨bN ι.b n r,λb=>if r=some b then none else match ι.k b with
 | some (y,p)=>if y=id then(match p with
  | c::q=>if c=(i,j) then(match q with | []=>none | _::_=>some (n,q)) else some (y,p)
  | []=>some (y,p)) else some (y,p)
 | none=>none,bN ι.o n o⟩
theorem T2{id n i j o b y:Nat}{r:Option Nat}{p:cM}(hk:ι.k b=some (y,p))(hr:r≠some b)(hy:y≠id\/∃ c q,p=c::q/\c≠(i,j)):(ι.cU id n i j r o).k b=some (y,p):=by
 simp only[Io.cU];rw[if_neg hr,hk];simp only;by_cases h:y=id
 ·rcases hy with hy | ⟨c,q,rfl,hc⟩
  ·exact absurd h hy
  ·rw[if_pos h];simp only;rw[if_neg hc]
 ·rw[if_neg h]
theorem QTe{id n i j o b y:Nat}{r:Option Nat}{p:cM}(hk:(ι.cU id n i j r o).k b=some (y,p)):r≠some b/\(ι.k b=some (y,p)\/(y=n/\p≠[]/\ι.k b=some (id,(i,j)::p))):=by
 simp only[Io.cU]at hk
 split at hk
 ·cases hk
 rename_i h0;refine⟨h0,?_⟩
 split at hk
 rotate_left
 ·cases hk
 rename_i z q hz
 split at hk
 rotate_left
 ·cases hk;exact .inl hz
 rename_i h1;subst h1
 split at hk
 rotate_left
 ·cases hk;exact .inl hz
 rename_i c q'
 split at hk
 rotate_left
 ·cases hk;exact .inl hz
 rename_i h2;subst h2
 split at hk
 ·cases hk
 ·cases hk;exact .inr ⟨rfl,by simp,hz⟩
theorem Sat.cU(S:Sat C U σ a w ι){id n i j sz bt g:Nat}{t:Bool}{e:TypeId}{es bZ:List (List D)}{x:List D}{v:Value}(bp:σ.h id = .sl e sz (.dp g t []) es)(hx:es[i]? = some x)(pg:x[j]? = some (.sl bt bZ))(pk:0<bt)
  (hU:U n) (bW:∀ i,U' i->U i/\i≠n) (dD:∃ bk cur e0,ι id=some bk/\w.heap[bk]? = some (.cells cur e0 (0,0))/\cur[ι.o id+i*sz+j]? = some v) :
  ∃ ι',Sat C U' ⟨σ.t,bN (bN σ.h n (.sl 0 bt (.dp 0 false []) bZ)) id (.sl e sz (.dp (g+1) t [(i,j)]) es),σ.nx⟩ a w ι'/\
   VR w (Fz C w ι' (bN (bN σ.h n (.sl 0 bt (.dp 0 false []) bZ)) id (.sl e sz (.dp (g+1) t [(i,j)]) es))) ι' (bN (bN σ.h n (.sl 0 bt (.dp 0 false []) bZ)) id (.sl e sz (.dp (g+1) t [(i,j)]) es)) v (.r bt n 0 bZ.length)/\
   ι' id=ι id/\ι'.o id=ι.o id/\(∀ b,Fz C w ι σ.h b->Fz C w ι' (bN (bN σ.h n (.sl 0 bt (.dp 0 false []) bZ)) id (.sl e sz (.dp (g+1) t [(i,j)]) es)) b)/\
   ∀ y,dn w w ι ι' σ.h (bN (bN σ.h n (.sl 0 bt (.dp 0 false []) bZ)) id (.sl e sz (.dp (g+1) t [(i,j)]) es)) y:=by
 obtain⟨fR,nV⟩:=S.fresh n hU;have dk:n≠id:=λh=>by subst h;rw[fR]at bp;cases bp
 obtain⟨bk,cur,e0,c1,c2,c3⟩:=dD;have xS:=S.fH id;rw[bp]at xS
 cases xS with
 | slnil=>simp at hx
 | sl nX _ xR _ _ _ dB hz hi fe fj hle dj b7 d6 =>
 rw[c1]at hi;cases hi;rw[c2]at fe;cases fe;obtain⟨u,h5,h6,h7⟩:=d6 i j x _ hx pg;rw[c3]at h5;cases h5;have jA:=h7 (by simp);obtain⟨h',cq⟩:∃ h',h'=bN (bN σ.h n (.sl 0 bt (.dp 0 false []) bZ)) id (.sl e sz (.dp (g+1) t [(i,j)]) es):=⟨_,rfl⟩
 have e1:h' id = .sl e sz (.dp (g+1) t [(i,j)]) es:=by rw[cq,QQ]
 have e2:h' n = .sl 0 bt (.dp 0 false []) bZ:=by rw[cq,QK _ _ _ _ dk,QQ]
 have e3:∀ y,y≠n->y≠id->h' y=σ.h y:=λy h1 h2=>by rw[cq,QK _ _ _ _ h2,QK _ _ _ _ h1]
 rw[<- cq];have key:∀(r:Option Nat)(o:Nat),(∀ b,r=some b->ι.k b=some (id,[(i,j)]))->
   BR w (Fz C w (ι.cU id n i j r o) h') (ι.cU id n i j r o) h' n (h' n)->VR w (Fz C w (ι.cU id n i j r o) h') (ι.cU id n i j r o) h' v (.r bt n 0 bZ.length)->
   ∃ ι',Sat C U' ⟨σ.t,h',σ.nx⟩ a w ι'/\VR w (Fz C w ι' h') ι' h' v (.r bt n 0 bZ.length)/\ι' id=ι id/\ι'.o id=ι.o id/\(∀ b,Fz C w ι σ.h b->Fz C w ι' h' b)/\∀ y,dn w w ι ι' σ.h h' y:=by
  intro r o hr sL hVR;have fY:∀ y,y≠n->(ι.cU id n i j r o) y=ι y:=λy hy=>QK _ _ _ _ hy;have qF:∀ y,y≠n->(ι.cU id n i j r o).o y=ι.o y:=λy hy=>QK _ _ _ _ hy;have po:(ι.cU id n i j r o) n=r:=QQ _ _ _;have gV:∀ y,y≠id->oX w w ι (ι.cU id n i j r o) y:=λy hy b p hk=>⟨T2 hk (λh=>by rw[hr b h]at hk;cases hk;exact hy rfl) (.inl hy),rfl⟩
  have b8:∀ y,y≠n->y≠id->Rest w w ι (ι.cU id n i j r o) y:=λy hy mB=>⟨fY y hy,qF y hy,λ_ _=>rfl,gV y mB⟩
  have hF:∀ b,Fz C w ι σ.h b->Fz C w (ι.cU id n i j r o) h' b:=by
   intro b ⟨h1,h2,h3,h4⟩;refine⟨h1,h2,λy hy=>?_,?_⟩
   ·by_cases h8:y=n
    ·subst h8;rw[po]at hy;rw[hr b hy]at h4
     cases h4
    ·rw[fY y h8]at hy;have:=h3 y hy;by_cases h9:y=id
     ·subst h9;rw[bp]at this;cases this
     ·rw[e3 y h8 h9];exact this
   ·simp only[Io.cU]
    split
    ·rfl
    ·rw[h4]
  have hg:∀ y,dn w w ι (ι.cU id n i j r o) σ.h h' y:=by
   intro y;by_cases h1:y=n
   ·subst h1;exact .inl fR
   by_cases h2:y=id
   ·subst h2;unfold dn;rw[e1,bp];exact .inr (.inr ⟨fY y h1,qF y h1,⟨rfl,rfl,rfl,⟨λh=>h,λg' h=>⟨g,rfl,by cases h;omega⟩⟩⟩,λ_ _=>rfl,λg' h h'=>by cases h;cases h'⟩)
   ·exact(b8 y h1 h2).il (e3 y h1 h2)
  refine⟨ι.cU id n i j r o,S.eM S.dR (λb hb=>⟨hF b hb,rfl⟩) hg (λy cs hb=>?_) (λy=>?_) (λy z b hy hz=>?_) (λy b hy=>?_) (λy hy=>?_) (λy b hy=>?_) (λb y p hk=>?_),hVR,fY id dk.symm,qF id dk.symm,hF,hg⟩
  ·by_cases h1:y=n
   ·subst h1;rw[fR]at hb;cases hb
   by_cases h2:y=id
   ·subst h2;rw[bp]at hb;cases hb
   rw[e3 y h1 h2,hb];simp
  ·by_cases h1:y=n
   ·subst h1;right;exact sL
   by_cases h2:y=id
   ·subst h2;right;rw[e1];refine .sl bk e e0 sz _ es cur hz ((fY y h1).trans c1) c2 (λh=>by rw[qF y h1];exact fj h) (by rw[qF y h1];exact hle) dj b7 (λp q el d dh hd=>?_);obtain⟨u,h5,h6,h7⟩:=d6 p q el d dh hd;refine⟨u,by rw[qF y h1];exact h5,h6,λdI=>(h7 (by simp)).map _ λb q' hk=>⟨?_,rfl⟩⟩;have ph:(p,q)≠(i,j):=by simpa using dI
    exact T2 hk (λh=>by rw[hr b h]at hk;simp at hk;exact ph (by rw[Prod.mk.injEq];exact⟨hk.1.1.symm,hk.1.2.symm⟩)) (.inr ⟨(p,q),q',rfl,ph⟩)
   ·left;exact⟨e3 y h1 h2,b8 y h1 h2⟩
  ·by_cases h1:y=n
   ·subst h1;by_cases h2:z=y
    ·exact h2.symm
    ·rw[po]at hy;rw[fY z h2]at hz;exact absurd hz ((S.dA b id _ (hr b hy)).ne z)
   ·rw[fY y h1]at hy;by_cases h2:z=n
    ·subst h2;rw[po]at hz;exact absurd hy ((S.dA b id _ (hr b hz)).ne y)
    ·rw[fY z h2]at hz;exact S.inj y z b hy hz
  ·by_cases h1:y=n
   ·subst h1;rw[po]at hy;have L:=S.dA b id _ (hr b hy);exact⟨.inl L.fr,L.lt⟩
   ·rw[fY y h1]at hy;obtain⟨h3,h4⟩:=S.eL y b hy;refine⟨h3.imp (λh=>h) λ⟨h5,cs,h6⟩=>⟨h5,cs,?_⟩,h4⟩;by_cases h7:y=id
    ·subst h7;rw[bp]at h6;cases h6
    ·rw[e3 y h1 h7];exact h6
  ·obtain⟨h1,h2⟩:=bW y hy;obtain⟨h3,h4⟩:=S.fresh y h1;have h5:y≠id:=λh=>by subst h;rw[bp]at h3;cases h3
   rw[e3 y h2 h5,fY y h2];exact⟨h3,h4⟩
  ·by_cases h1:y=n
   ·subst h1;rw[e2];simp
   ·rw[fY y h1]at hy;by_cases h7:y=id
    ·subst h7;rw[e1];simp
    ·rw[e3 y h1 h7];exact S.live y b hy
  ·obtain⟨h0,h1⟩:=QTe hk;have sB:∀ L:(∀ z,ι z≠some b),∀ z,(ι.cU id n i j r o) z≠some b:=λL z hz=>by
    by_cases h1:z=n
    ·subst h1;rw[po]at hz;exact h0 hz
    ·rw[fY z h1]at hz;exact L z hz
   rcases h1 with h1 | ⟨rfl,h2,h1⟩
   ·have L:=S.dA b y p h1;refine⟨L.pn,?_,L.fr,L.lt,sB L.ne⟩;have h8:y≠n:=λh=>by subst h;obtain⟨_,_,_,_,_,_,h9⟩:=L.dp;rw[fR]at h9;cases h9
    by_cases h7:y=id
    ·subst h7;rw[e1];exact⟨_,_,_,_,_,_,rfl⟩
    ·rw[e3 y h8 h7];exact L.dp
   ·have L:=S.dA b id _ h1;exact⟨h2,by rw[e2];exact⟨_,_,_,_,_,_,rfl⟩,L.fr,L.lt,sB L.ne⟩
 cases jA with
 | nil =>
  refine key none 0 (by simp) ?_ (.cW n 0 bt _ (QQ _ _ _) e2);rw[e2];exact .slnil 0 bt _ pk (QQ _ _ _)
 | emp _ ad cap =>
  refine key none 0 (by simp) ?_ (.dz ad cap n 0 bt _ (QQ _ _ _) e2 rfl);rw[e2];exact .slnil 0 bt _ pk (QQ _ _ _)
 | sl _ b0 o0 len cap _ _ HN e00 xv hz0 ank hlen cr anl mC l7 pq HO HP T3 =>
  have fp:(ι.cU id n i j (some b0) o0).o n=o0:=QQ _ _ _;refine key (some b0) o0 (λb h=>by cases h;exact l7) ?_ ?_
  ·rw[e2];refine .sl b0 0 e00 bt _ bZ HN pk (QQ _ _ _) pq (λh=>by cases h) (by rw[fp,hlen];exact HO) (by omega) mC (λp q el d dh hd=>⟨xv p q,by rw[fp];exact HP p q el d dh hd,(T3 p q el d dh hd).one,λ_=>?_⟩);refine(T3 p q el d dh hd).map _ λb q' hk=>⟨?_,rfl⟩
   simp only[Io.cU];rw[if_neg (λh=>by cases h;rw[l7]at hk;simp at hk)];have hk:ι.k b=some (id,(i,j)::((p,q)::q')):=by simpa using hk
   rw[hk];simp
  ·rw[hlen];refine .r n 0 len b0 o0 cap 0 bt _ bZ (QQ _ _ _) e2 (by omega) cr (λ_=>by rw[fp];simp) (λh=>by cases h)
end
end Go.Proofs.YtdplaepmjogjjaaGreat.Am

