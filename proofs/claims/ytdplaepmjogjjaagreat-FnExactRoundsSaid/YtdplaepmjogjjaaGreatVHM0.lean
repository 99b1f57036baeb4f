/- -/
import Derived.WalkKit
import Derived.KernelRfl
set_option linter.all false
namespace Go.Proofs.YtdplaepmjogjjaaGreat.Am
open Go Go.RowKit
inductive D where
 | v (x:Value)
 | sl (sz:Nat) (es:List (List D))
abbrev cD:=List (Nat × Nat)
inductive Mo where
 | fz
 | ow
 | dp (g:Nat) (t:Bool) (H:cD)
def Mo.own:Mo->Bool
 | .fz=>false
 | _=>true
def Mo.eY:Mo->Bool
 | .fz=>false
 | .ow=>true
 | .dp _ t _=>t
def Mo.gen:Mo->Option Nat
 | .dp g _ _=>some g
 | _=>none
def Mo.full:Mo->Bool
 | .dp _ _ (_::_)=>false
 | _=>true
structure Mo.le(m m':Mo):Prop where
 eY:m'.eY=true->m.eY=true
 gen:∀ g',m'.gen=some g'->∃ g,m.gen=some g/\g<=g'
theorem Mo.le.refl(m:Mo):Mo.le m m:=⟨λh=>h,λg h=>⟨g,h,Nat.le_refl _⟩⟩
theorem Mo.le.trans{a b c:Mo}(h:Mo.le a b)(h':Mo.le b c):Mo.le a c :=
 ⟨λe=>h.eY (h'.eY e),λg e=>let⟨g1,h1,h2⟩:=h'.gen g e;let⟨g2,h3,h4⟩:=h.gen g1 h1;⟨g2,h3,Nat.le_trans h4 h2⟩⟩
theorem Mo.ob(m:Mo):Mo.le m .fz:=⟨λh=>(by cases h),λg h=>(by cases h)⟩
inductive AV where
 | u
 | c (d:D)
 | n (sz:Nat)
 | r (sz id off len:Nat)
 | p (id i j:Nat)
 | q (cs:List D) (j:Nat)
 | a (cs:List AV)
 | t (vs:List AV)
 | bx (cs:List AV)
 | ow (e:TypeId) (sz:Nat) (m:Mo) (es:List (List D))
 | b (d:D) (id g:Nat) (p:cD)
 | bq (cs:List D) (j id g:Nat) (p:cD) (i:Nat)
inductive aR where
 | none
 | dead
 | box (cs:List AV)
 | sl (e:TypeId) (sz:Nat) (m:Mo) (es:List (List D))
structure St where
 t:Nat->AV
 h:Nat->aR
 nx:Nat
def bI{α:Type}(f:Nat->α)(i:Nat)(x:α):Nat->α:=λj=>if j=i then x else f j
theorem QN{α:Type}(f:Nat->α)(i:Nat)(x:α):bI f i x i=x:=by simp[bI]
theorem QI{α:Type}(f:Nat->α)(i j:Nat)(x:α)(h:j≠i):bI f i x j=f j:=by simp[bI,h]
structure Io where
 b:Nat->Option Nat
 k:Nat->Option (Nat × cD)
 o:Nat->Nat
instance:CoeFun Io λ_=>Nat->Option Nat:=⟨Io.b⟩
def Io.up(ι:Io)(i:Nat)(x:Option Nat)(o:Nat):Io:=⟨bI ι.b i x,ι.k,bI ι.o i o⟩
theorem Io.cw(ι:Io)(i:Nat)(x:Option Nat)(o:Nat):(ι.up i x o) i=x:=QN _ _ _
theorem Io.fC(ι:Io)(i j:Nat)(x:Option Nat)(o:Nat)(h:j≠i):(ι.up i x o) j=ι j:=QI _ _ _ _ h
theorem Io.bZ(ι:Io)(i:Nat)(x:Option Nat)(o:Nat):(ι.up i x o).o i=o:=QN _ _ _
theorem Io.pN(ι:Io)(i j:Nat)(x:Option Nat)(o:Nat)(h:j≠i):(ι.up i x o).o j=ι.o j:=QI _ _ _ _ h
inductive Rd(w:World)(F:Nat->Prop):Value->D->Prop where
 | v (x:Value) (h:x.oneCell'=true):Rd w F x (.v x)
 | nil (sz:Nat):Rd w F (.slice none 0 0) (.sl sz [])
 | emp (a:Addr) (cap sz:Nat):Rd w F (.slice (some a) 0 cap) (.sl sz [])
 | sl (b o len cap sz:Nat) (es:List (List D)) (x:Nat->Nat->Value) (hlen:es.length=len) (cj:len<=cap) (cW:len<=maxLen) (bV:∀ e,e∈es->e.length=sz) (hb:es≠[]->F b)
   (hc:∀ i j e d,es[i]? = some e->e[j]? = some d->w.cell? ⟨b,o+i*sz+j,Option.none⟩=some (x i j))
   (hr:∀ i j e d,es[i]? = some e->e[j]? = some d->Rd w F (x i j) d):Rd w F (.slice (some ⟨b,o,Option.none⟩) len cap) (.sl sz es)
theorem Rd.one{w:World}{F:Nat->Prop}{v:Value}{d:D}(h:Rd w F v d):v.oneCell'=true:=by
 cases h with
 | v x h=>exact h
 | nil=>rfl
 | emp=>rfl
 | sl=>rfl
theorem Rd.mono{w w':World}{F F':Nat->Prop}(hF:∀ b,F b->F' b/\w'.heap[b]? = w.heap[b]?){v:Value}{d:D}(h:Rd w F v d):Rd w' F' v d:=by
 induction h with
 | v x h=>exact .v x h
 | nil sz=>exact .nil sz
 | emp a cap sz=>exact .emp a cap sz
 | sl b o len cap sz es x hlen cj cW bV hb hc hr ih =>
  refine .sl b o len cap sz es x hlen cj cW bV (λhn=>(hF b (hb hn)).1) (λi j e d he hd=>?_) ih;rw[World.cell?_of_block (w:=w) (w':=w') (a:=⟨b,_,Option.none⟩) (hF b (hb (λh0=>by rw[h0]at he;simp at he))).2];exact hc i j e d he hd
inductive RL(w:World)(K:Nat->Option (Nat × cD))(id:Nat):cD->Value->D->Prop where
 | v (p:cD) (x:Value) (h:x.oneCell'=true):RL w K id p x (.v x)
 | nil (p:cD) (sz:Nat):RL w K id p (.slice none 0 0) (.sl sz [])
 | emp (p:cD) (a:Addr) (cap sz:Nat):RL w K id p (.slice (some a) 0 cap) (.sl sz [])
 | sl (p:cD) (b o len cap sz:Nat) (es:List (List D)) (cur:Array Value) (e0:TypeId) (x:Nat->Nat->Value) (hz:0<sz) (dM:es≠[]) (hlen:es.length=len) (cj:len<=cap) (cW:len<=maxLen) (bV:∀ e,e∈es->e.length=sz)
   (hk:K b=some (id,p)) (hb:w.heap[b]? = some (.cells cur e0 (0,0))) (hle:o+len*sz<=cur.size)
   (hc:∀ i j e d,es[i]? = some e->e[j]? = some d->cur[o+i*sz+j]? = some (x i j))
   (hr:∀ i j e d,es[i]? = some e->e[j]? = some d->RL w K id (p++[(i,j)]) (x i j) d):RL w K id p (.slice (some ⟨b,o,Option.none⟩) len cap) (.sl sz es)
theorem RL.one{w:World}{K:Nat->Option (Nat × cD)}{id:Nat}{p:cD}{v:Value}{d:D}(h:RL w K id p v d):v.oneCell'=true:=by
 cases h with
 | v p x h=>exact h
 | nil=>rfl
 | emp=>rfl
 | sl=>rfl
theorem RL.rd{w:World}{K:Nat->Option (Nat × cD)}{id:Nat}{F:Nat->Prop}(hF:∀ b p,K b=some (id,p)->F b){p:cD}{v:Value}{d:D}(h:RL w K id p v d):Rd w F v d:=by
 induction h with
 | v p x h=>exact .v x h
 | nil p sz=>exact .nil sz
 | emp p a cap sz=>exact .emp a cap sz
 | sl p b o len cap sz es cur e0 x hz dM hlen cj cW bV hk hb hle hc hr ih =>
  exact .sl b o len cap sz es x hlen cj cW bV (λ_=>hF b p hk) (λi j e d he hd=>by simp[World.cell?,hb,hc i j e d he hd]) ih
theorem RL.map{w w':World}{K K':Nat->Option (Nat × cD)}{id b7:Nat}{p:cD}{v:Value}{d:D}(h:RL w K id p v d):∀(p':cD),
  (∀ b q,K b=some (id,p++q)->K' b=some (b7,p'++q)/\w'.heap[b]? = w.heap[b]?)->RL w' K' b7 p' v d:=by
 induction h with
 | v p x h=>intro p' _;exact .v p' x h
 | nil p sz=>intro p' _;exact .nil p' sz
 | emp p a cap sz=>intro p' _;exact .emp p' a cap sz
 | sl p b o len cap sz es cur e0 x hz dM hlen cj cW bV hk hb hle hc hr ih =>
  intro p' hp;obtain⟨h1,h2⟩:=hp b [] (by simpa using hk);refine .sl p' b o len cap sz es cur e0 x hz dM hlen cj cW bV (by simpa using h1) (h2.trans hb) hle hc (λi j e d he hd=>ih i j e d he hd (p'++[(i,j)]) λb q hq=>?_);have:=hp b ((i,j)::q) (by simpa using hq);simpa using this
theorem RL.mono{w w':World}{K K':Nat->Option (Nat × cD)}{id:Nat}(hK:∀ b p,K b=some (id,p)->K' b=some (id,p)/\w'.heap[b]? = w.heap[b]?){p:cD}{v:Value}{d:D}(h:RL w K id p v d):RL w' K' id p v d :=
 h.map p λb q hq=>hK b _ hq
def aR.sz:aR->Nat
 | .sl _ sz _ _=>sz
 | _=>0
def aR.gen:aR->Option Nat
 | .sl _ _ m _=>m.gen
 | _=>Option.none
def aR.dn:aR->Option Nat
 | .sl _ _ (.dp g _ []) _=>some g
 | _=>Option.none
theorem aR.eA{B:aR}{g:Nat}(h:B.dn=some g):B.gen=some g:=by
 unfold aR.dn at h
 split at h
 ·exact h
 ·cases h
theorem aR.kh{e:TypeId}{sz:Nat}{m:Mo}{es:List (List D)}{g:Nat}(h:(aR.sl e sz m es).dn=some g):m.full=true:=by
 cases m with
 | dp g t H=>cases H with
  | nil=>rfl
  | cons=>cases h
 | _=>rfl
inductive VR(w:World)(F:Nat->Prop)(ι:Io)(h:Nat->aR):Value->AV->Prop where
 | u (v:Value):VR w F ι h v .u
 | c (v:Value) (d:D) (hr:Rd w F v d):VR w F ι h v (.c d)
 | n (sz:Nat):VR w F ι h (.slice Option.none 0 0) (.n sz)
 | cy (v:Value) (sz id off len:Nat) (h1:v.oneCell'=true) (hd:h id = .dead):VR w F ι h v (.r sz id off len)
 | cL (id:Nat) (e:TypeId) (sz:Nat) (m:Mo) (hi:ι id=Option.none) (hh:h id = .sl e sz m []):VR w F ι h (.slice Option.none 0 0) (.r sz id 0 0)
 | de (ad:Addr) (cap id:Nat) (e:TypeId) (sz:Nat) (m:Mo) (hi:ι id=Option.none) (hh:h id = .sl e sz m []) (ht:m.eY=false):VR w F ι h (.slice (some ad) 0 cap) (.r sz id 0 0)
 | r (id off len b ao cap:Nat) (e:TypeId) (sz:Nat) (m:Mo) (es:List (List D)) (hi:ι id=some b) (hh:h id = .sl e sz m es) (hlen:off+len<=es.length)
   (cj:len<=cap) (ho:len≠0->ao=ι.o id+off*sz) (cX:m.eY=true->off=0->ao=0/\w.shape? b=some (e,cap*sz)):VR w F ι h (.slice (some ⟨b,ao,Option.none⟩) len cap) (.r sz id off len)
 | cS (v:Value) (id i j:Nat) (h1:v.oneCell'=true) (hd:h id = .dead):VR w F ι h v (.p id i j)
 | p (id i j b:Nat) (hi:ι id=some b) (hn:h id≠.none) (hd:h id≠.dead):VR w F ι h (.pointer (some ⟨b,ι.o id+i*(h id).sz+j,Option.none⟩)) (.p id i j)
 | q (b o j:Nat) (cs:List D) (x:Nat->Value) (hb:F b) (hc:∀ k d,cs[k]? = some d->w.cell? ⟨b,o+k,Option.none⟩=some (x k)) (hr:∀ k d,cs[k]? = some d->Rd w F (x k) d) :
   VR w F ι h (.pointer (some ⟨b,o+j,Option.none⟩)) (.q cs j)
 | a (vs:Array Value) (cs:List AV) (hl:vs.size=cs.length) (h1:∀(k:Nat)(v:Value),vs[k]? = some v->v.oneCell'=true) (hv:∀(k:Nat)(v:Value)(x:AV),vs[k]? = some v->cs[k]? = some x->VR w F ι h v x):VR w F ι h (.agg vs) (.a cs)
 | t (vs:Array Value) (cs:List AV) (hl:vs.size=cs.length) (hv:∀(k:Nat)(v:Value)(x:AV),vs[k]? = some v->cs[k]? = some x->VR w F ι h v x):VR w F ι h (.tuple vs) (.t cs)
 | fm (v:Value) (d:D) (id g:Nat) (p:cD) (h1:v.oneCell'=true) (hd:h id = .dead):VR w F ι h v (.b d id g p)
 | b (v:Value) (d:D) (id g:Nat) (p:cD) (e:TypeId) (sz:Nat) (m:Mo) (es:List (List D)) (h1:v.oneCell'=true) (hh:h id = .sl e sz m es) (hg:∀ g0,m.gen=some g0->g<=g0)
   (hv:m.gen=some g->RL w ι.k id p v d/\∀ i j,p=[(i,j)]->∃ bk cur e0,ι id=some bk/\w.heap[bk]? = some (.cells cur e0 (0,0))/\cur[ι.o id+i*sz+j]? = some v):VR w F ι h v (.b d id g p)
 | eI (v:Value) (cs:List D) (j id g:Nat) (p:cD) (i:Nat) (h1:v.oneCell'=true) (hd:h id = .dead):VR w F ι h v (.bq cs j id g p i)
 | bq (v:Value) (cs:List D) (j id g:Nat) (p:cD) (i:Nat) (e:TypeId) (sz:Nat) (m:Mo) (es:List (List D)) (h1:v.oneCell'=true) (hh:h id = .sl e sz m es) (hg:∀ g0,m.gen=some g0->g<=g0)
   (hv:m.gen=some g->∃ bk o cur e0,v = .pointer (some ⟨bk,o+j,Option.none⟩)/\ι.k bk=some (id,p)/\w.heap[bk]? = some (.cells cur e0 (0,0))/\∀ k d,cs[k]? = some d->∃ x,cur[o+k]? = some x/\RL w ι.k id (p++[(i,k)]) x d):VR w F ι h v (.bq cs j id g p i)
def cM:aR->aR->Prop
 | .box cs,.box cs'=>cs'.length=cs.length
 | .sl e sz m es,.sl e' bc m' bP=>e'=e/\bc=sz/\bP.length=es.length/\Mo.le m m'
 | _,_=>False
theorem cM.sz{x y:aR}(h:cM x y):y.sz=x.sz:=by
 cases x <;> cases y <;> simp_all [cM,aR.sz]
theorem cM.trans{x y z:aR}(h:cM x y)(h':cM y z):cM x z:=by
 cases x <;> cases y <;> simp only[cM]at h <;> cases z <;> simp only[cM]at h' ⊢
 ·exact h'.trans h
 ·exact⟨h'.1.trans h.1,h'.2.1.trans h.2.1,h'.2.2.1.trans h.2.2.1,h.2.2.2.trans h'.2.2.2⟩
theorem cM.ne{x y:aR}(h:cM x y):y≠.none/\y≠.dead:=by
 cases x <;> cases y <;> simp_all [cM]
theorem cM.refl{x:aR}(h1:x≠.none)(h2:x≠.dead):cM x x:=by
 cases x with
 | none=>exact absurd rfl h1
 | dead=>exact absurd rfl h2
 | box cs=>exact rfl
 | sl e sz m es=>exact⟨rfl,rfl,rfl,.refl _⟩
def Yk:aR->aR->Prop
 | .box cs,.box cs'=>cs'.length=cs.length
 | .sl e sz m es,.sl e' bc m' bP=>e'=e/\bc=sz/\bP.length=es.length/\(m'.eY=true->m.eY=true)/\(m'.gen.isSome=true->m.gen.isSome=true)
 | _,_=>False
theorem cM.w{x y:aR}(h:cM x y):Yk x y:=by
 cases x <;> cases y <;> simp only[cM]at h
 ·exact h
 ·refine⟨h.1,h.2.1,h.2.2.1,h.2.2.2.eY,λhg=>?_⟩;obtain⟨g,hg⟩:=Option.isSome_iff_exists.1 hg;obtain⟨g0,h0,_⟩:=h.2.2.2.gen g hg;rw[h0];rfl
theorem Yk.trans{x y z:aR}(h:Yk x y)(h':Yk y z):Yk x z:=by
 cases x <;> cases y <;> simp only[Yk]at h <;> cases z <;> simp only[Yk]at h' ⊢
 ·exact h'.trans h
 ·exact⟨h'.1.trans h.1,h'.2.1.trans h.2.1,h'.2.2.1.trans h.2.2.1,λe=>h.2.2.2.1 (h'.2.2.2.1 e),λe=>h.2.2.2.2 (h'.2.2.2.2 e)⟩
theorem Yk.ne{x y:aR}(h:Yk x y):y≠.none/\y≠.dead:=by
 cases x <;> cases y <;> simp_all [Yk]
def mD(w w':World)(ι ι':Io)(id:Nat):Prop:=∀ b p,ι.k b=some (id,p)->ι'.k b=some (id,p)/\w'.heap[b]? = w.heap[b]?
def cY(w w':World)(ι ι':Io)(h h':Nat->aR)(id:Nat):Prop :=
 h id = .none\/h' id = .dead\/(ι' id=ι id/\ι'.o id=ι.o id/\cM (h id) (h' id)/\(∀ b,ι id=some b->w'.shape? b=w.shape? b)/\
  ∀ g,(h id).gen=some g->(h' id).gen=some g->(∀ b,ι id=some b->w'.heap[b]? = w.heap[b]?)/\mD w w' ι ι' id)
theorem VR.mono{w w':World}{F F':Nat->Prop}{ι ι':Io}{h h':Nat->aR}(hF:∀ b,F b->F' b/\w'.heap[b]? = w.heap[b]?)
  (hg:∀ id,cY w w' ι ι' h h' id) {v:Value} {x:AV} (hv:VR w F ι h v x):VR w' F' ι' h' v x:=by
 have dead:∀ id,h id = .dead->h' id = .dead:=by
  intro id hd
  rcases hg id with g | g | ⟨_,_,g,_⟩
  ·rw[hd]at g;cases g
  ·exact g
  ·rw[hd]at g;cases hx:h' id <;> simp[hx,cM]at g
 have fB:∀ id e sz m es,h id = .sl e sz m es->h' id = .dead\/(ι' id=ι id/\ι'.o id=ι.o id/\(∃ m' bP,h' id = .sl e sz m' bP/\bP.length=es.length/\Mo.le m m'/\
   ∀ g,m.gen=some g->m'.gen=some g->(∀ b,ι id=some b->w'.heap[b]? = w.heap[b]?)/\mD w w' ι ι' id)/\(∀ b,ι id=some b->w'.shape? b=w.shape? b)):=by
  intro id e sz m es hh
  rcases hg id with g | g | ⟨g1,g2,g,gs,gk⟩
  ·rw[hh]at g;cases g
  ·exact .inl g
  ·right;rw[hh]at g gk
   cases hx:h' id with
   | sl e' bc m' bP =>
    simp only[hx,cM]at g;obtain⟨rfl,rfl,hl,hm⟩:=g;rw[hx]at gk;exact⟨g1,g2,⟨m',bP,rfl,hl,hm,gk⟩,gs⟩
   | none=>simp[hx,cM]at g
   | dead=>simp[hx,cM]at g
   | box cs=>simp[hx,cM]at g
 induction hv with
 | u v=>exact .u v
 | c v d hr=>exact .c v d (hr.mono hF)
 | n sz=>exact .n sz
 | cy v sz id off len h1 hd=>exact .cy v sz id off len h1 (dead id hd)
 | cL id e sz m hi hh =>
  rcases fB id e sz m [] hh with g | ⟨g1,g2,⟨m',bP,g3,g4,g5,_⟩,_⟩
  ·exact .cy _ sz id 0 0 rfl g
  ·have:bP=[]:=List.eq_nil_of_length_eq_zero g4;subst this;exact .cL id _ _ m' (g1.trans hi) g3
 | de ad cap id e sz m hi hh ht =>
  rcases fB id e sz m [] hh with g | ⟨g1,g2,⟨m',bP,g3,g4,g5,_⟩,_⟩
  ·exact .cy _ sz id 0 0 rfl g
  ·have:bP=[]:=List.eq_nil_of_length_eq_zero g4;subst this;refine .de ad cap id _ _ m' (g1.trans hi) g3 ?_
   cases hx:m'.eY with
   | false=>rfl
   | true=>rw[g5.eY hx]at ht;cases ht
 | r id off len b ao cap e sz m es hi hh hlen cj ho cX =>
  rcases fB id e sz m es hh with g | ⟨g1,g2,⟨m',bP,g3,g4,g5,_⟩,gs⟩
  ·exact .cy _ sz id off len rfl g
  ·exact .r id off len b ao cap _ _ m' bP (g1.trans hi) g3 (by omega) cj (λhn=>by rw[g2];exact ho hn) (λht h0=>⟨(cX (g5.eY ht) h0).1,(gs b hi).trans (cX (g5.eY ht) h0).2⟩)
 | cS v id i j h1 hd=>exact .cS v id i j h1 (dead id hd)
 | p id i j b hi hn hd =>
  rcases hg id with g | g | ⟨g1,g2,g,_⟩
  ·exact absurd g hn
  ·exact .cS _ id i j rfl g
  ·rw[<- g.sz,<- g2];exact .p id i j b (g1.trans hi) g.ne.1 g.ne.2
 | q b o j cs x hb hc hr =>
  refine .q b o j cs x (hF b hb).1 (λk d hk=>?_) (λk d hk=>(hr k d hk).mono hF);rw[World.cell?_of_block (w:=w) (w':=w') (a:=⟨b,_,Option.none⟩) (hF b hb).2];exact hc k d hk
 | a vs cs hl h1 hv ih=>exact .a vs cs hl h1 ih
 | t vs cs hl hv ih=>exact .t vs cs hl ih
 | fm v d id g p h1 hd=>exact .fm v d id g p h1 (dead id hd)
 | b v d id g p e sz m es h1 hh iL jj =>
  rcases fB id e sz m es hh with q | ⟨g1,g2,⟨m',bP,g3,g4,g5,g6⟩,gs⟩
  ·exact .fm v d id g p h1 q
  ·refine .b v d id g p _ _ m' bP h1 g3 (λg0 iM=>?_) (λhm=>?_)
   ·obtain⟨ga,ha,hb⟩:=g5.gen g0 iM;have:=iL ga ha;omega
   ·obtain⟨ga,ha,hb⟩:=g5.gen g hm;have:=iL ga ha;have:ga=g:=by omega
    subst this;obtain⟨k1,k2⟩:=g6 ga ha hm;obtain⟨c1,c2⟩:=jj ha;refine⟨c1.mono k2,λi j hp=>?_⟩;obtain⟨bk,cur,e0,c3,c4,c5⟩:=c2 i j hp;exact⟨bk,cur,e0,g1.trans c3,(k1 bk c3).trans c4,by rw[g2];exact c5⟩
 | eI v cs j id g p i h1 hd=>exact .eI v cs j id g p i h1 (dead id hd)
 | bq v cs j id g p i e sz m es h1 hh iL jj =>
  rcases fB id e sz m es hh with q | ⟨g1,g2,⟨m',bP,g3,g4,g5,g6⟩,gs⟩
  ·exact .eI v cs j id g p i h1 q
  ·refine .bq v cs j id g p i _ _ m' bP h1 g3 (λg0 iM=>?_) (λhm=>?_)
   ·obtain⟨ga,ha,hb⟩:=g5.gen g0 iM;have:=iL ga ha;omega
   ·obtain⟨ga,ha,hb⟩:=g5.gen g hm;have:=iL ga ha;have:ga=g:=by omega
    subst this;obtain⟨k1,k2⟩:=g6 ga ha hm;obtain⟨bk,o,cur,e0,c1,c2,c3,c4⟩:=jj ha;obtain⟨k3,k4⟩:=k2 bk p c2;refine⟨bk,o,cur,e0,c1,k3,k4.trans c3,λk d hk=>?_⟩;obtain⟨x,c5,c6⟩:=c4 k d hk;exact⟨x,c5,c6.mono k2⟩
def RM(w:World)(F:Nat->Prop)(ι:Io)(id:Nat)(m:Mo)(i j:Nat)(v:Value)(d:D):Prop:=match m with
 | .dp _ _ H=>v.oneCell'=true/\((i,j)∉H->RL w ι.k id [(i,j)] v d)
 | _=>Rd w F v d
theorem RM.one{w:World}{F:Nat->Prop}{ι:Io}{id:Nat}{m:Mo}{i j:Nat}{v:Value}{d:D}(h:RM w F ι id m i j v d):v.oneCell'=true:=by
 cases m with
 | dp g t H=>exact h.1
 | _=>exact Rd.one h
theorem RM.mono{w w':World}{F F':Nat->Prop}{ι ι':Io}(hF:∀ b,F b->F' b/\w'.heap[b]? = w.heap[b]?){id:Nat}(hk:mD w w' ι ι' id){m:Mo}{i j:Nat}{v:Value}{d:D}(h:RM w F ι id m i j v d):RM w' F' ι' id m i j v d:=by
 cases m with
 | dp g t H=>exact⟨h.1,λhn=>(h.2 hn).mono hk⟩
 | _=>exact Rd.mono hF h
theorem RM.rd{w:World}{F F':Nat->Prop}{ι:Io}{id:Nat}{m:Mo}{i j:Nat}{v:Value}{d:D}(hm:m.full=true)(hF:∀ b,F b->F' b)(hk:∀ b p,ι.k b=some (id,p)->F' b)(h:RM w F ι id m i j v d):Rd w F' v d:=by
 cases m with
 | dp g t H =>
  cases H with
  | nil=>exact(h.2 (by simp)).rd hk
  | cons=>simp[Mo.full]at hm
 | _=>exact Rd.mono (λb hb=>⟨hF b hb,rfl⟩) h
inductive BR(w:World)(F:Nat->Prop)(ι:Io)(h:Nat->aR)(id:Nat):aR->Prop where
 | none:BR w F ι h id .none
 | dead:BR w F ι h id .dead
 | box (b:Nat) (e:TypeId) (bm:Array Value) (cs:List AV) (hi:ι id=some b) (ho:ι.o id=0) (hb:w.heap[b]? = some (.cells bm e (0,0))) (hl:bm.size=cs.length)
   (h1:∀(k:Nat)(v:Value),bm[k]? = some v->v.oneCell'=true) (hv:∀(k:Nat)(v:Value)(x:AV),bm[k]? = some v->cs[k]? = some x->VR w F ι h v x):BR w F ι h id (.box cs)
 | slnil (e:TypeId) (sz:Nat) (m:Mo) (hz:0<sz) (hi:ι id=Option.none):BR w F ι h id (.sl e sz m [])
 | sl (b:Nat) (e e0:TypeId) (sz:Nat) (m:Mo) (es:List (List D)) (cur:Array Value) (hz:0<sz) (hi:ι id=some b) (hb:w.heap[b]? = some (.cells cur e0 (0,0)))
   (eN:m.eY=true->e0=e/\ι.o id=0/\∃ C,cur.size=C*sz/\es.length<=C/\C<=maxLen) (hle:ι.o id+es.length*sz<=cur.size) (cW:es.length<=maxLen) (bV:∀ x,x∈es->x.length=sz)
   (hv:∀ i j x d,es[i]? = some x->x[j]? = some d->∃ v,cur[ι.o id+i*sz+j]? = some v/\RM w F ι id m i j v d):BR w F ι h id (.sl e sz m es)
theorem BR.mono{w w':World}{F F':Nat->Prop}{ι ι':Io}{h h':Nat->aR}(hF:∀ b,F b->F' b/\w'.heap[b]? = w.heap[b]?)
  (hg:∀ id,cY w w' ι ι' h h' id) {id:Nat} {x:aR} (bY:ι' id=ι id) (iQ:ι'.o id=ι.o id) (mE:∀ b,ι id=some b->w'.heap[b]? = w.heap[b]?) (ey:mD w w' ι ι' id) (hv:BR w F ι h id x):BR w' F' ι' h' id x:=by
 cases hv with
 | none=>exact .none
 | dead=>exact .dead
 | box b e bm cs hi ho hb hl h1 hv=>exact .box b e bm cs (bY.trans hi) (iQ.trans ho) ((mE b hi).trans hb) hl h1 (λk v x hk hx=>(hv k v x hk hx).mono hF hg)
 | slnil e sz m hz hi=>exact .slnil e sz m hz (bY.trans hi)
 | sl b e e0 sz m es cur hz hi hb eN hle cW bV hv =>
  exact .sl b e e0 sz m es cur hz (bY.trans hi) ((mE b hi).trans hb) (λht=>by rw[iQ];exact eN ht) (by rw[iQ];exact hle) cW bV (λi j x d hx hd=>let⟨v,h1,h2⟩:=hv i j x d hx hd;⟨v,by rw[iQ];exact h1,h2.mono hF ey⟩)
def aR.own:aR->Bool
 | .box _=>true
 | .sl _ _ m _=>m.own
 | _=>false
structure Hd where
 o:Option Nat
 base:Nat
 B:aR
 K:Nat->Option cD
def Hd.has(x:Hd)(b:Nat):Prop:=x.o=some b\/∃ p,x.K b=some p
def Hd.io(x:Hd):Io:=⟨λ_=>x.o,λb=>(x.K b).map λp=>(0,p),λ_=>x.base⟩
structure Ctx where
 P:Program
 w0:World
 F0:Nat->Prop
 X:Nat->Prop
 L:Nat->Option Nat
 N:Nat
 G:Nat->Prop
 O:Nat->Option Hd
 GX:∀ b,G b->X b
def Ctx.fr(C:Ctx)(b:Nat):Prop:=C.w0.heap.size<=b\/C.G b
theorem Ctx.fr.dD{C:Ctx}{b:Nat}(h:C.fr b):C.w0.heap.size<=b\/C.X b:=h.imp (λh=>h) (C.GX b)
def Fz(C:Ctx)(w:World)(ι:Io)(h:Nat->aR)(b:Nat):Prop :=
 b<w.heap.size/\(C.F0 b\/C.fr b)/\(∀ id,ι id=some b->(h id).own=false)/\ι.k b=none
structure ki(C:Ctx)(w:World):Prop where
 os:w.os=C.w0.os
 tape:w.tape=C.w0.tape
 output:w.output=C.w0.output
 size:C.w0.heap.size<=w.heap.size
 block:∀ k,k<C.w0.heap.size->¬ C.X k->w.heap[k]? = C.w0.heap[k]?
structure Ol(C:Ctx)(w:World)(ι:Io)(h:Nat->aR)(b id:Nat)(p:cD):Prop where
 pn:p≠[]
 dp:∃ e sz g t H es,h id = .sl e sz (.dp g t H) es
 fr:C.fr b
 lt:b<w.heap.size
 ne:∀ i,ι i≠some b
structure Sat(C:Ctx)(U:Nat->Prop)(σ:St)(a:Act)(w:World)(ι:Io):Prop where
 dD:ki C w
 bm:∀ s,VR w (Fz C w ι σ.h) ι σ.h (a.tmps.getD s undef) (σ.t s)
 size:a.tmps.size=C.N
 defers:a.defers=[]
 fh:∀ id,BR w (Fz C w ι σ.h) ι σ.h id (σ.h id)
 inj:∀ i j b,ι i=some b->ι j=some b->i=j
 eg:∀ i b,ι i=some b->(C.fr b\/C.X b/\∃ cs,σ.h i = .box cs)/\b<w.heap.size
 fresh:∀ i,U i->σ.h i = .none/\ι i=Option.none
 live:∀ i b,ι i=some b->σ.h i≠.none/\σ.h i≠.dead
 b8:∀ i b,C.L i=some b->ι i=some b/\(∃ cs,σ.h i = .box cs)/\w.shape? b=C.w0.shape? b
 hand:∀ i x,C.O i=some x->σ.h i = .dead\/ι i=x.o/\ι.o i=x.base/\Yk x.B (σ.h i)/\∀ b,x.o=some b->w.shape? b=C.w0.shape? b
 df:∀ b id p,ι.k b=some (id,p)->Ol C w ι σ.h b id p
def cz(C:Ctx)(U:Nat->Prop)(σ:St)(a:Act)(w:World):Prop:=∃ ι,Sat C U σ a w ι
def eZ(C:Ctx)(σ:St)(a:Act)(w:World):Prop:=cz C (λi=>σ.nx<=i) σ a w
structure Rest(w w':World)(ι ι':Io)(id:Nat):Prop where
 b:ι' id=ι id
 o:ι'.o id=ι.o id
 heap:∀ b,ι id=some b->w'.heap[b]? = w.heap[b]?
 Om:mD w w' ι ι' id
theorem Rest.gD{w w':World}{ι ι':Io}{h h':Nat->aR}{id:Nat}(r:Rest w w' ι ι' id)(hh:h' id=h id):cY w w' ι ι' h h' id:=by
 unfold cY;rw[hh]
 cases hx:h id with
 | none=>exact .inl rfl
 | dead=>exact .inr (.inl rfl)
 | _=>exact .inr (.inr ⟨r.b,r.o,.refl (by simp) (by simp),λb hb=>by unfold World.shape?;rw[r.heap b hb],λ_ _ _=>⟨r.heap,r.Om⟩⟩)
theorem Sat.eh{C:Ctx}{U U':Nat->Prop}{σ:St}{a:Act}{w w':World}{ι ι':Io}{h':Nat->aR}{On:Nat}(S:Sat C U σ a w ι)(jr:ki C w')
  (hF:∀ b,Fz C w ι σ.h b->Fz C w' ι' h' b/\w'.heap[b]? = w.heap[b]?)
  (hg:∀ id,cY w w' ι ι' σ.h h' id)
  (jT:∀ i cs,σ.h i = .box cs->h' i≠.dead)
  (dq:∀ id,(h' id=σ.h id/\Rest w w' ι ι' id)\/BR w' (Fz C w' ι' h') ι' h' id (h' id))
  (pO:∀ i j b,ι' i=some b->ι' j=some b->i=j)
  (kj:∀ i b,ι' i=some b->(C.fr b\/C.X b/\∃ cs,h' i = .box cs)/\b<w'.heap.size)
  (pP:∀ i,U' i->h' i = .none/\ι' i=Option.none)
  (uX:∀ i b,ι' i=some b->h' i≠.none/\h' i≠.dead)
  (mF:∀ b id p,ι'.k b=some (id,p)->Ol C w' ι' h' b id p):Sat C U' ⟨σ.t,h',On⟩ a w' ι' where
 dD:=jr
 bm:=λs=>(S.bm s).mono hF hg
 size:=S.size
 defers:=S.defers
 fh:=λid=>by
  rcases dq id with⟨h1,h2⟩ | hb
  ·have:=(S.fh id).mono hF hg h2.b h2.o h2.heap h2.Om;rw[<- h1]at this;exact this
  ·exact hb
 inj:=pO
 eg:=kj
 fresh:=pP
 live:=uX
 b8:=λi b hL=>by
  obtain⟨h1,⟨cs,h2⟩,h3⟩:=S.b8 i b hL
  rcases hg i with g | g | ⟨g1,_,g2,g3,_⟩
  ·rw[h2]at g;cases g
  ·exact absurd g (jT i cs h2)
  ·refine⟨g1.trans h1,?_,(g3 b h1).trans h3⟩;rw[h2]at g2
   cases hx:h' i with
   | box cs'=>exact⟨cs',hx⟩
   | none=>simp[hx,cM]at g2
   | dead=>simp[hx,cM]at g2
   | sl e sz m es=>simp[hx,cM]at g2
 hand:=λi x hO=>by
  rcases S.hand i x hO with h1 | ⟨h1,fO,h2,h3⟩
  ·rcases hg i with g | g | ⟨_,_,g,_⟩
   ·rw[h1]at g;cases g
   ·exact .inl g
   ·rw[h1]at g;exact g.elim
  ·rcases hg i with g | g | ⟨g1,uY,g2,g3,_⟩
   ·exact absurd g h2.ne.1
   ·exact .inl g
   ·exact .inr ⟨g1.trans h1,uY.trans fO,h2.trans g2.w,λb hb=>(g3 b (h1.trans hb)).trans (h3 b hb)⟩
 df:=mF
theorem Sat.put{C:Ctx}{U:Nat->Prop}{σ:St}{a:Act}{w:World}{ι:Io}(S:Sat C U σ a w ι)(d:Nat)(hd:d<C.N)(v:Value)(x:AV)
  (hv:VR w (Fz C w ι σ.h) ι σ.h v x):Sat C U ⟨bI σ.t d x,σ.h,σ.nx⟩ (a.put (some d) v) w ι where
 dD:=S.dD
 bm:=λs=>by
  have bV:d<a.tmps.size:=by rw[S.size];exact hd
  by_cases hs:s=d
  ·subst hs;simp only[Act.put,QN];rw[show(a.tmps.setIfInBounds s v).getD s undef=v from by simp[Array.getD,bV]];exact hv
  ·have e1:(a.put (some d) v).tmps.getD s undef=a.tmps.getD s undef:=by
    simp only[Act.put,Array.getD_eq_getD_getElem?,Array.getElem?_setIfInBounds];rw[if_neg (λh=>hs h.symm)]
   rw[e1];show VR _ _ _ _ _ (bI σ.t d x s);rw[QI _ _ _ _ hs];exact S.bm s
 size:=by simp[Act.put,S.size]
 defers:=S.defers
 fh:=S.fh
 inj:=S.inj
 eg:=S.eg
 fresh:=S.fresh
 live:=S.live
 b8:=S.b8
 hand:=S.hand
 df:=S.df
theorem Fz.lt{C:Ctx}{w:World}{ι:Io}{h:Nat->aR}{b:Nat}(hb:Fz C w ι h b):b<w.heap.size:=hb.1
theorem VR.y9{w:World}{F:Nat->Prop}{ι:Io}{h:Nat->aR}{v:Value}{d:D}{id g:Nat}{p:cD}(hv:VR w F ι h v (.b d id g p))(iM:(h id).dn=some g) :
  RL w ι.k id p v d/\∃ e sz m es,h id = .sl e sz m es/\∀ i j,p=[(i,j)]->∃ bk cur e0,ι id=some bk/\w.heap[bk]? = some (.cells cur e0 (0,0))/\cur[ι.o id+i*sz+j]? = some v:=by
 have hg:=aR.eA iM
 cases hv with
 | fm _ _ _ _ _ h1 hd=>rw[hd]at hg;cases hg
 | b _ _ _ _ _ e sz m es h1 hh iL jj =>
  rw[hh]at hg;obtain⟨c1,c2⟩:=jj hg;exact⟨c1,e,sz,m,es,hh,c2⟩
theorem VR.pQ{w:World}{F:Nat->Prop}{ι:Io}{h:Nat->aR}{v:Value}{cs:List D}{j id g:Nat}{p:cD}{i:Nat}(hv:VR w F ι h v (.bq cs j id g p i))(iM:(h id).dn=some g) :
  ∃ bk o cur e0,v = .pointer (some ⟨bk,o+j,Option.none⟩)/\ι.k bk=some (id,p)/\w.heap[bk]? = some (.cells cur e0 (0,0))/\∀ k d,cs[k]? = some d->∃ x,cur[o+k]? = some x/\RL w ι.k id (p++[(i,k)]) x d:=by
 have hg:=aR.eA iM
 cases hv with
 | eI _ _ _ _ _ _ _ h1 hd=>rw[hd]at hg;cases hg
 | bq _ _ _ _ _ _ _ e sz m es h1 hh iL jj =>
  rw[hh]at hg;exact jj hg
theorem VR.oc{w:World}{F:Nat->Prop}{ι:Io}{h:Nat->aR}{cs:List D}{j id g:Nat}{p:cD}{i bk o:Nat}{cur:Array Value}{e0:TypeId}(iM:(h id).dn=some g)(hk:ι.k bk=some (id,p))(hb:w.heap[bk]? = some (.cells cur e0 (0,0)))
  (hc:∀ k d,cs[k]? = some d->∃ x,cur[o+k]? = some x/\RL w ι.k id (p++[(i,k)]) x d):VR w F ι h (.pointer (some ⟨bk,o+j,Option.none⟩)) (.bq cs j id g p i):=by
 have hg:=aR.eA iM
 cases hx:h id with
 | sl e sz m es =>
  rw[hx]at hg;refine .bq _ cs j id g p i e sz m es rfl hx (λg0 h0=>?_) (λ_=>⟨bk,o,cur,e0,rfl,hk,hb,hc⟩);have h0:some g=some g0:=hg.symm.trans h0
  cases h0;exact Nat.le_refl _
 | _=>rw[hx]at hg;cases hg
theorem VR.uZ{w:World}{F:Nat->Prop}{ι:Io}{h:Nat->aR}{v:Value}{d:D}{id g:Nat}{p:cD}{e:TypeId}{sz:Nat}{m:Mo}{es:List (List D)}(hx:h id = .sl e sz m es)(hg:m.gen=some g)(hr:RL w ι.k id p v d)
  (hc:∀ i j,p=[(i,j)]->∃ bk cur e0,ι id=some bk/\w.heap[bk]? = some (.cells cur e0 (0,0))/\cur[ι.o id+i*sz+j]? = some v):VR w F ι h v (.b d id g p):=by
 refine .b v d id g p e sz m es hr.one hx (λg0 h0=>?_) (λ_=>⟨hr,hc⟩);rw[hg]at h0
 cases h0;exact Nat.le_refl _
end Go.Proofs.YtdplaepmjogjjaaGreat.Am
namespace Go.Proofs.YtdplaepmjogjjaaGreat.Am
open Go Go.RowKit
inductive aX where
 | s (i:Nat)
 | k (x:AV)
def aX.ev(t:Nat->AV):aX->AV
 | .s i=>t i
 | .k x=>x
inductive ea where
 | eG (x:aX)
 | pick (c x y:aX)
 | bin (op:BinOp) (x y:aX)
 | gE (n:Nat) (neg:Bool) (x y:aX)
 | ic (neg:Bool) (x y:aX)
 | not (x:aX)
 | neg (x:aX)
 | new (e:TypeId) (zs:List AV)
 | box (e:TypeId) (x:aX) (n:Nat)
 | load (x:aX) (n:Nat) (agg:Bool)
 | store (x v:aX) (n:Nat)
 | kl (x:aX) (off:Nat)
 | js (x i:aX) (sz:Nat)
 | kS (x:aX) (off n:Nat) (agg:Bool)
 | build (zs:List AV) (ps:List (Nat × Nat × aX))
 | bW (e:TypeId) (sz:Nat) (ps:List aX)
 | mk (e:TypeId) (sz:Nat) (zs:List AV) (n:aX)
 | fB (x:aX) (lo hi:Option aX) (sz:Nat)
 | len (x:aX)
 | app (s x:aX) (e:TypeId) (sz:Nat)
 | mm (mx:Bool) (x y:aX)
 | call (f:FuncId) (args:List aX)
 | ext (x:aX) (i:Nat)
 | conv (k:IntKind) (x:aX)
 | f9 (x:aX)
structure AO where
 dst:Option Nat
 op:ea
 gd:Option (Nat × Bool)
 off:Nat
structure ie where
 v:AV
 hb:List aR
 bx:List (List AV)
 al:Bool
 gv:List aR:=[]
inductive AM where
 | d
 | o
 | p
structure ez where
 md:FuncId->List AM
 fn:FuncId->List AV->Option ie
 dp:Bool:=false
instance:CoeFun ez λ_=>FuncId->List AV->Option ie:=⟨ez.fn⟩
structure fi where
 val:AV
 fS:List (Nat × aR)
def AV.d(h:Nat->aR):AV->Option D
 | .c d=>some d
 | .n sz=>some (.sl sz [])
 | .r _ id off len=>match h id with
  | .sl _ sz m es=>if m.full=true then some (.sl sz ((es.drop off).take len)) else none
  | _=>none
 | .b d id g _=>if(h id).dn=some g then some d else none
 | _=>none
def AV.ds(h:Nat->aR):List AV->Option (List D)
 | []=>some []
 | x::xs=>match x.d h,AV.ds h xs with
  | some d,some ds=>some (d::ds)
  | _,_=>none
def AV.cells:AV->List AV
 | .a cs=>cs
 | x=>[x]
def AV.one:AV->Bool
 | .c _ | .n _ | .r .. | .p .. | .q .. | .b .. | .bq ..=>true
 | _=>false
def AV.st:AV->Bool
 | .a _=>true
 | x=>x.one
def AV.bR:AV->List Nat
 | .r _ id _ _=>[id]
 | .b _ id _ _=>[id]
 | _=>[]
def AV.fD:AV->List Nat
 | .r _ id _ _=>[id]
 | _=>[]
def AV.cR:List AV->List Nat
 | []=>[]
 | x::xs=>x.fD++AV.cR xs
def AV.db:AV->List Nat
 | .a cs=>AV.cR cs
 | x=>x.fD
def aR.pR:aR->Bool
 | .sl _ _ (.dp _ _ []) _=>true
 | _=>false
def AV.eG(h:Nat->aR)(id g i j:Nat):AV->Bool
 | .c (.v _)=>true
 | .n _=>true
 | .r _ b7 _ _=>!(Nat.beq b7 id)&&(h b7).pR
 | .b _ b7 g' pt=>Nat.beq b7 id&&Nat.beq g' g&&decide (pt=[(i,j)])
 | _=>false
def AV.dy(h:Nat->aR)(id g i:Nat):Nat->List AV->Bool
 | _,[]=>true
 | j,x::xs=>x.eG h id g i j&&AV.dy h id g i (j+1) xs
def AV.pl:AV->Bool
 | .c (.v _)=>true
 | .n _=>true
 | _=>false
def D.pl:D->Bool
 | .v _=>true
 | .sl _ []=>true
 | _=>false
def mG(xs:List (List D)):Bool:=xs.all λe=>e.all D.pl
def iR:List Nat->List (Nat × aR)
 | []=>[]
 | id::ids=>(id,.dead)::iR ids
def AV.bM:List AV->List Nat
 | []=>[]
 | x::xs=>x.bR++AV.bM xs
def AV.refs:AV->List Nat
 | .a cs=>AV.bM cs
 | x=>x.bR
def jt:aR->aR
 | .sl e sz _ es=>.sl e sz .fz es
 | b=>b
def eT(h:Nat->aR):List Nat->List (Nat × aR)
 | []=>[]
 | id::ids=>(id,jt (h id))::eT h ids
def bw{α:Type}(l:List α)(j:Nat)(xs:List α):List α:=l.take j++xs++l.drop (j+xs.length)
def cut{α:Type}(l:List α)(j n:Nat):Option (List α):=if j+n<=l.length then some ((l.drop j).take n) else none
def JL(agg:Bool)(cs:List AV):Option AV :=
 if agg then some (.a cs) else match cs with
  | [x]=>some x
  | _=>none
def ca:Nat:=4294967296
def aR.alive:aR->Bool
 | .box _=>true
 | .sl ..=>true
 | _=>false
def mH(op:BinOp):Value->Value->Option Value
 | .int k x,.int k' y =>
  match op with
  | .shl=>if y<0 then none else some (.int k (k.wrap (x*2 ^ (min y.toNat k.bits))))
  | .shr=>if y<0 then none else some (.int k (x.fdiv (2 ^ (min y.toNat k.bits))))
  | op=>if k=k' then(match op with
   | .add=>some (.int k (k.wrap (x+y)))
   | .sub=>some (.int k (k.wrap (x-y)))
   | .mul=>some (.int k (k.wrap (x*y)))
   | .quo=>if y=0 then none else some (.int k (k.wrap (x.tdiv y)))
   | .rem=>if y=0 then none else some (.int k (x.tmod y))
   | .and=>some (.int k (k.wrap ((BitVec.ofInt k.bits x &&& BitVec.ofInt k.bits y).toNat)))
   | .or=>some (.int k (k.wrap ((BitVec.ofInt k.bits x ||| BitVec.ofInt k.bits y).toNat)))
   | .xor=>some (.int k (k.wrap ((BitVec.ofInt k.bits x ^^^ BitVec.ofInt k.bits y).toNat)))
   | .eql=>some (.bool (x==y))
   | .neq=>some (.bool (x != y))
   | .lss=>some (.bool (decide (x<y)))
   | .leq=>some (.bool (decide (x<=y)))
   | .gtr=>some (.bool (decide (x>y)))
   | .geq=>some (.bool (decide (x>=y)))
   | _=>none) else none
 | .string x,.string y=>match op with
  | .eql=>some (.bool (x.toList==y.toList))
  | .neq=>some (.bool (!(x.toList==y.toList)))
  | _=>none
 | _,_=>none
def od:List AV->Option (List Int)
 | []=>some []
 | .c (.v (.int .i64 x))::r=>match od r with
  | some l=>some (x::l)
  | none=>none
 | _=>none
def sT:AV->Option Int
 | .c (.v (.int _ x))=>some x
 | _=>none
def Yg(ev:aX->AV)(m:Int):Option aX->Option Int
 | some l=>sT (ev l)
 | none=>some m
def AV.fo(h:Nat->aR)(sz:Nat):AV->Option (List (List D))
 | .c (.sl bc es)=>if bc=sz then some es else none
 | .n _=>some []
 | .r _ id off len=>match h id with
  | .sl _ bc m es=>if bc=sz/\m.full=true then some ((es.drop off).take len) else none
  | _=>none
 | .b (.sl bc es) id g _=>if bc=sz/\(h id).dn=some g then some es else none
 | _=>none
def AV.iS(h:Nat->aR)(xs:List (List D)):AV->Bool
 | .r _ idx _ _=>match h idx with
  | .sl _ _ (.dp _ _ _) _=>mG xs
  | _=>true
 | .b ..=>mG xs
 | _=>true
def AV.dH(h:Nat->aR)(id len:Nat)(xs:List (List D)):AV->Bool
 | .r _ idx off _=>match h idx with
  | .sl _ _ (.dp _ _ _) _=>!(Nat.beq idx id)||Nat.ble len off
  | _=>mG xs
 | _=>mG xs
def AV.dc(h:Nat->aR):AV->List Nat
 | .r _ idx _ _=>match h idx with
  | .sl _ _ (.dp _ _ _) _=>[idx]
  | _=>[]
 | _=>[]
def AV.arg(h:Nat->aR):AV->Option AV
 | .c d=>some (.c d)
 | .n sz=>some (.c (.sl sz []))
 | .r sz id off len=>match(AV.r sz id off len).d h with
  | some d=>some (.c d)
  | none=>none
 | .b d id g pt=>match(AV.b d id g pt).d h with
  | some d=>some (.c d)
  | none=>none
 | .a cs=>match AV.ds h cs with
  | some ds=>some (.a (ds.map .c))
  | none=>none
 | .p id 0 0=>match h id with
  | .box cs=>if AV.bM cs=[] then(match AV.ds h cs with
   | some ds=>some (.bx (ds.map .c))
   | none=>none) else none
  | _=>none
 | _=>none
def AV.gZ(h:Nat->aR):List AV->Option (List AV)
 | []=>some []
 | x::xs=>match x.arg h,AV.gZ h xs with
  | some d,some ds=>some (d::ds)
  | _,_=>none
def AV.g7(h:Nat->aR):AV->Option AV
 | .r sz id off len=>match h id with
  | .sl e bc .ow es=>if bc=sz/\off=0/\len=es.length then some (.ow e sz .ow es) else none
  | _=>none
 | _=>none
def AV.dN(h:Nat->aR):AV->Option AV
 | .c (.v x)=>some (.c (.v x))
 | .r sz id off len=>match h id with
  | .sl _ bc (.dp _ _ []) es=>if bc=sz/\off=0/\len=es.length then some (.ow 0 sz (.dp 0 false []) es) else none
  | _=>none
 | _=>none
def AV.fp(h:Nat->aR):List AV->Option (List AV)
 | []=>some []
 | x::xs=>match x.dN h,AV.fp h xs with
  | some d,some ds=>some (d::ds)
  | _,_=>none
def AV.iq(h:Nat->aR):AV->Option AV
 | .a cs=>match AV.fp h cs with
  | some ds=>some (.a ds)
  | none=>none
 | .r sz id off len=>(AV.r sz id off len).dN h
 | _=>none
def AV.fT(h:Nat->aR):AM->AV->Option AV
 | .d,x=>x.arg h
 | .o,x=>x.g7 h
 | .p,x=>x.iq h
def AM.h:AM->Bool
 | .d=>false
 | _=>true
def AV.dT(h:Nat->aR):List AM->List AV->Option (List AV)
 | [],xs=>AV.gZ h xs
 | m::ms,xs=>match xs with
  | []=>some []
  | x::xs=>match x.fT h m,AV.dT h ms xs with
   | some d,some ds=>some (d::ds)
   | _,_=>none
def cI:List AM->List AV->List AV
 | [],_=>[]
 | m::ms,xs=>match xs with
  | []=>[]
  | x::xs=>if m.h then x::cI ms xs else cI ms xs
def cl:List AM->List AV->List AV
 | [],xs=>xs
 | m::ms,xs=>match xs with
  | []=>[]
  | x::xs=>if m.h then cl ms xs else x::cl ms xs
def Jx:aR->aR->aR
 | .sl e _ (.dp g _ _) _,.sl _ sz (.dp _ _ []) es=>.sl e sz (.dp (g+1) false []) es
 | .sl _ _ (.dp _ _ _) _,_=>.dead
 | _,B=>B
def AV.b8:AV->List Nat
 | .p id _ _=>[id]
 | _=>[]
def AV.l8(b:Nat):AV->AV
 | .r sz id off len=>.r sz (id+b) off len
 | .p id i j=>.p (id+b) i j
 | .c d=>.c d
 | .n sz=>.n sz
 | .q cs j=>.q cs j
 | _=>.u
def AV.kT(b:Nat):AV->AV
 | .a cs=>.a (cs.map (AV.l8 b))
 | x=>x.l8 b
def AV.sh(b:Nat):AV->AV
 | .t vs=>.t (vs.map (AV.kT b))
 | x=>x.kT b
def aR.sh(b:Nat):aR->aR
 | .box cs=>.box (cs.map (AV.l8 b))
 | x=>x
def YJ(b:Nat):List aR->List (Nat × aR)
 | []=>[]
 | x::xs=>(b,x)::YJ (b+1) xs
def YY:List Nat->List (List AV)->List (Nat × aR)
 | id::ids,cs::cC=>(id,.box cs)::YY ids cC
 | _,_=>[]
def Yr(h:Nat->aR):List Nat->List aR->List (Nat × aR)
 | id::ids,x::xs=>(id,Jx (h id) x)::Yr h ids xs
 | _,_=>[]
def JV(ev:aX->AV):List AV->List (Nat × Nat × aX)->Option (List AV)
 | cs,[]=>some cs
 | cs,(off,n,x)::r =>
  let v:=(ev x).cells
  if v.length=n/\off+n<=cs.length/\(ev x).st=true then JV ev (bw cs off v) r else none
def elems(h:Nat->aR)(ev:aX->AV)(sz:Nat):List aX->Option (List (List D))
 | []=>some []
 | x::r=>match AV.ds h (ev x).cells,elems h ev sz r with
  | some e,some es=>if e.length=sz then some (e::es) else none
  | _,_=>none
def cd(id g i:Nat):Nat->List D->List AV
 | _,[]=>[]
 | j,d::r=>(match d with | .v x=>.c (.v x) | d=>.b d id g [(i,j)])::cd id g i (j+1) r
def cZ(m:Mo)(id i j:Nat)(l:List D):List AV:=match m with
 | .dp g _ _=>cd id g i j l
 | _=>l.map .c
def bQ(id g:Nat)(p:cD)(i:Nat):Nat->List D->List AV
 | _,[]=>[]
 | j,d::r=>(match d with | .v x=>.c (.v x) | d=>.b d id g (p++[(i,j)]))::bQ id g p i (j+1) r
def gF(h:Nat->aR)(b:Nat)(ev:aX->AV):Nat->List aX->Bool
 | _,[]=>true
 | i,x::r=>AV.dy h b 0 i 0 (ev x).cells&&gF h b ev (i+1) r
def ir:AV->Bool
 | .c (.v _)=>true
 | _=>false
def u0(Γ:ez)(h:Nat->aR)(b:Nat)(f:FuncId)(id g i j:Nat)(xs:List AV):Option fi :=
 match h id with
 | .sl e sz (.dp g0 t []) es=>match es[i]? with
  | some x=>match x[j]? with
   | some (.sl bc bP)=>match Γ f (.ow 0 bc (.dp 0 false []) bP::xs) with
    | some ⟨v,[],[],_,[.sl _ _ (.dp _ _ []) eO]⟩ =>
     if g0=g/\0<bc/\xs.all ir=true then some ⟨v.sh b,[(b,.dead),(id,.sl e sz (.dp (g+1) t []) (es.set i (x.set j (.sl bc eO))))]⟩ else none
    | _=>none
   | _=>none
  | none=>none
 | _=>none
def pS(ms:List AM)(xs:List AV):Option (Nat × Nat × Nat × Nat × List AV) :=
 match ms,xs with
 | .p::ms,.b _ id g [(i,j)]::r=>if ms.all (λm=>!m.h)=true then some (id,g,i,j,r) else none
 | _,_=>none
def u1(Γ:ez)(h:Nat->aR)(b:Nat)(f:FuncId)(xs:List AV):Option fi :=
 match AV.dT h (Γ.md f) xs with
  | some vs=>match Γ f vs with
   | some r=>if r.hb.length<=16/\((r.bx.isEmpty&&r.gv.isEmpty)||r.al)=true/\((cl (Γ.md f) xs).flatMap AV.b8).Nodup/\((cI (Γ.md f) xs).flatMap AV.refs).Nodup/\
     (∀ id,id∈(cI (Γ.md f) xs).flatMap AV.refs->id∉(cl (Γ.md f) xs).flatMap AV.refs) then
     some ⟨r.v.sh b,YJ b (r.hb.map (aR.sh b))++YY ((cl (Γ.md f) xs).flatMap AV.b8) r.bx++Yr h ((cI (Γ.md f) xs).flatMap AV.refs) r.gv ++
      (if r.al then eT h ((cl (Γ.md f) xs).flatMap AV.refs) else [])⟩ else none
   | none=>none
  | none=>none
def Qw(Γ:ez)(ev:aX->AV)(h:Nat->aR)(b:Nat):ea->Option fi
 | .eG x=>some ⟨ev x,[]⟩
 | .pick c x y=>match ev c with
  | .c (.v (.bool true))=>some ⟨ev x,[]⟩
  | .c (.v (.bool false))=>some ⟨ev y,[]⟩
  | _=>none
 | .bin op x y=>match ev x,ev y with
  | .c (.v x),.c (.v y)=>match mH op x y with
   | some v=>some ⟨.c (.v v),[]⟩
   | none=>none
  | _,_=>none
 | .gE n neg x y=>match ev x,ev y with
  | .a xs,.a ys=>match od xs,od ys with
   | some l,some m=>if l.length=n/\m.length=n then some ⟨.c (.v (.bool (if neg then !decide (l=m) else decide (l=m)))),[]⟩ else none
   | _,_=>none
  | _,_=>none
 | .ic neg x y=>match ev x,ev y with
  | .c (.v (.bool x)),.c (.v (.bool y))=>some ⟨.c (.v (.bool (if neg then !(x==y) else x==y))),[]⟩
  | _,_=>none
 | .not x=>match ev x with
  | .c (.v (.bool c))=>some ⟨.c (.v (.bool (!c))),[]⟩
  | _=>none
 | .neg x=>match ev x with
  | .c (.v (.int k n))=>some ⟨.c (.v (.int k (k.wrap (0-n)))),[]⟩
  | _=>none
 | .new _ zs=>some ⟨.p b 0 0,[(b,.box zs)]⟩
 | .box _ x n=>if(ev x).cells.length=n/\(ev x).st=true then some ⟨.p b 0 0,[(b,.box (ev x).cells)]⟩ else none
 | .load x n agg=>match ev x with
  | .p id i j=>match h id with
   | .box cs=>if i=0 then(match cut cs j n with
    | some l=>match JL agg l with
     | some v=>some ⟨v,[]⟩
     | none=>none
    | none=>none) else none
   | .sl _ _ m es=>if m.full=true then(match es[i]? with
    | some e=>match cut e j n with
     | some l=>match JL agg (cZ m id i j l) with
      | some v=>some ⟨v,[]⟩
      | none=>none
     | none=>none
    | none=>none) else none
   | _=>none
  | .bq cs j id g p i=>if(h id).dn=some g then(match cut cs j n with
   | some l=>match JL agg (bQ id g p i j l) with
    | some v=>some ⟨v,[]⟩
    | none=>none
   | none=>none) else none
  | .q cs j=>match cut cs j n with
   | some l=>match JL agg (l.map .c) with
    | some v=>some ⟨v,[]⟩
    | none=>none
   | none=>none
  | _=>none
 | .store x v n=>if(ev v).cells.length=n/\(ev v).st=true then(match ev x with
  | .p id i j=>match h id with
   | .box cs=>if i=0/\j+n<=cs.length then some ⟨.u,[(id,.box (bw cs j (ev v).cells))]⟩ else none
   | .sl e sz .ow es=>match es[i]? with
    | some x=>match AV.ds h (ev v).cells with
     | some ds=>if j+n<=x.length/\id∉(ev v).refs then some ⟨.u,(id,.sl e sz .ow (es.set i (bw x j ds)))::eT h (ev v).refs⟩ else none
     | none=>none
    | none=>none
   | .sl e sz (.dp g t []) es=>match es[i]? with
    | some x=>match AV.ds h (ev v).cells with
     | some ds=>if j+n<=x.length/\AV.dy h id g i j (ev v).cells=true/\(ev v).db.Nodup then some ⟨.u,(id,.sl e sz (.dp (g+1) t []) (es.set i (bw x j ds)))::iR (ev v).db⟩ else none
     | none=>none
    | none=>none
   | _=>none
  | _=>none) else none
 | .kl x off=>match ev x with
  | .p id i j=>if(h id).alive then some ⟨.p id i (j+off),[]⟩ else none
  | .q cs j=>some ⟨.q cs (j+off),[]⟩
  | .bq cs j id g p i=>if(h id).dn=some g then some ⟨.bq cs (j+off) id g p i,[]⟩ else none
  | _=>none
 | .js x i sz=>match sT (ev i) with
  | some i=>if 0<=i then(match ev x with
   | .c (.sl bc es)=>if bc=sz then(match es[i.toNat]? with
    | some e=>some ⟨.q e 0,[]⟩
    | none=>none) else none
   | .r bc id off len=>if bc=sz/\i.toNat<len/\(h id).alive=true then some ⟨.p id (off+i.toNat) 0,[]⟩ else none
   | .b (.sl bc es) id g p=>if bc=sz/\(h id).dn=some g then(match es[i.toNat]? with
    | some e=>some ⟨.bq e 0 id g p i.toNat,[]⟩
    | none=>none) else none
   | _=>none) else none
  | none=>none
 | .kS x off n agg=>match ev x with
  | .a cs=>match cut cs off n with
   | some l=>match JL agg l with
    | some v=>some ⟨v,[]⟩
    | none=>none
   | none=>none
  | _=>none
 | .build zs ps=>match JV ev zs ps with
  | some cs=>some ⟨.a cs,[]⟩
  | none=>none
 | .bW e sz ps=>match elems h ev sz ps with
  | some es=>if Γ.dp=true then(if gF h b ev 0 ps=true/\(ps.flatMap λx=>(ev x).db).Nodup then
    some ⟨.r sz b 0 es.length,(b,.sl e sz (.dp 0 true []) es)::iR (ps.flatMap λx=>(ev x).db)⟩ else none) else
   some ⟨.r sz b 0 es.length,(b,.sl e sz .ow es)::eT h (ps.flatMap λx=>(ev x).refs)⟩
  | none=>none
 | .mk e sz zs n=>match sT (ev n),AV.ds h zs with
  | some n,some z=>if 0<=n/\n<=ca/\z.length=sz/\(Γ.dp=true->z.all D.pl=true) then
    some ⟨.r sz b 0 n.toNat,[(b,.sl e sz (if Γ.dp=true then .dp 0 true [] else .ow) (List.replicate n.toNat z))]⟩ else none
  | _,_=>none
 | .fB x lo hi sz =>
  match Yg ev 0 lo with
  | some lo=>match ev x with
   | .c (.sl bc es)=>match Yg ev es.length hi with
    | some hi=>if bc=sz/\0<=lo/\lo<=hi/\hi<=es.length then some ⟨.c (.sl sz ((es.drop lo.toNat).take (hi.toNat-lo.toNat))),[]⟩ else none
    | none=>none
   | .r bc id off len=>match Yg ev len hi with
    | some hi=>if bc=sz/\0<=lo/\lo<=hi/\hi<=len/\(h id).alive=true then some ⟨.r sz id (off+lo.toNat) (hi.toNat-lo.toNat),[]⟩ else none
    | none=>none
   | .n _=>match Yg ev 0 hi with
    | some hi=>if lo=0/\hi=0 then some ⟨.n sz,[]⟩ else none
    | none=>none
   | _=>none
  | none=>none
 | .len x=>match ev x with
  | .c (.sl _ es)=>some ⟨.c (.v (.int .i64 es.length)),[]⟩
  | .n _=>some ⟨.c (.v (.int .i64 0)),[]⟩
  | .r _ id _ len=>if(h id).alive then some ⟨.c (.v (.int .i64 len)),[]⟩ else none
  | .b (.sl _ es) id g _=>if(h id).dn=some g then some ⟨.c (.v (.int .i64 es.length)),[]⟩ else none
  | _=>none
 | .app s x e sz=>match(ev x).fo h sz with
  | some xs=>match ev s with
   | .n _=>if xs.length<=ca then(if Γ.dp=true then(if(ev x).dH h b 0 xs=true then some ⟨.r sz b 0 xs.length,iR ((ev x).dc h)++[(b,.sl e sz (.dp 0 true []) xs)]⟩ else none) else
     if(ev x).iS h xs=true then some ⟨.r sz b 0 xs.length,[(b,.sl e sz .ow xs)]⟩ else none) else none
   | .r _ id 0 len=>match h id with
    | .sl e' bc .ow es=>if e'=e/\bc=sz/\(len=es.length\/len+xs.length<=es.length)/\len+xs.length<=ca/\(ev x).iS h xs=true then
      some ⟨.r sz b 0 (len+xs.length),[(id,.dead),(b,.sl e sz .ow (es.take len++xs))]⟩ else none
    | .sl e' bc (.dp _ true []) es=>if e'=e/\bc=sz/\(len=es.length\/len+xs.length<=es.length)/\len+xs.length<=ca/\(ev x).dH h id len xs=true then
      some ⟨.r sz b 0 (len+xs.length),(id,.dead)::iR ((ev x).dc h)++[(b,.sl e sz (.dp 0 true []) (es.take len++xs))]⟩ else none
    | _=>none
   | _=>none
  | none=>none
 | .mm mx x y=>match ev x,ev y with
  | .c (.v (.int k x)),.c (.v (.int _ y))=>some ⟨.c (.v (.int k (if mx then(if x<y then y else x) else(if y<x then y else x)))),[]⟩
  | _,_=>none
 | .call f args=>match pS (Γ.md f) (args.map ev) with
  | some (id,g,i,j,r)=>u0 Γ h b f id g i j r
  | none=>u1 Γ h b f (args.map ev)
 | .ext x i=>match ev x with
  | .t vs=>match vs[i]? with
   | some v=>some ⟨v,[]⟩
   | none=>none
  | _=>none
 | .conv k x=>match ev x with
  | .c (.v (.int _ n))=>some ⟨.c (.v (.int k (k.wrap n))),[]⟩
  | _=>none
 | .f9 x=>match ev x with
  | .p id i j=>if(h id).alive then some ⟨.p id i j,[]⟩ else none
  | .q cs j=>some ⟨.q cs j,[]⟩
  | .bq cs j id g p i=>if(h id).dn=some g then some ⟨.bq cs j id g p i,[]⟩ else none
  | _=>none
def bp(h:Nat->aR):List (Nat × aR)->Nat->aR
 | []=>h
 | (i,x)::r=>bp (bI h i x) r
def cN(t:Nat->AV):Option Nat->AV->Nat->AV
 | some d,x=>bI t d x
 | none,_=>t
def St.app(σ:St)(d:Option Nat)(e:fi):St:=⟨cN σ.t d e.val,bp σ.h e.fS,σ.nx⟩
inductive eB where
 | skip
 | ae (ops:List AO)
 | draw (ops:List AO) (U:List (Nat × Nat))
 | seq (x y:eB)
 | cond (c:aX) (x y:eB)
 | block (id:Nat) (x:eB)
 | loop (x:eB)
 | exit (id:Nat)
 | ret
inductive l9 where
 | normal
 | exit (id:Nat)
 | ret
def gG(Γ:ez):List AO->(St->Prop)->St->Prop
 | [],K,σ=>K σ
 | o::r,K,σ=>match o.gd with
  | none=>match Qw Γ (aX.ev σ.t) σ.h (σ.nx+o.off) o.op with
   | some e=>gG Γ r K (σ.app o.dst e)
   | none=>False
  | some (s,w)=>match σ.t s with
   | .c (.v (.bool c)) =>
    (c=w->match Qw Γ (aX.ev σ.t) σ.h (σ.nx+o.off) o.op with
     | some e=>gG Γ r K (σ.app o.dst e)
     | none=>False)/\
    (c≠w->gG Γ r K ⟨cN σ.t o.dst (.t []),σ.h,σ.nx⟩)
   | .t []=>gG Γ r K ⟨cN σ.t o.dst (.t []),σ.h,σ.nx⟩
   | _=>False
def acc(ev:aX->AV):ea->List Nat
 | .load x _ _ | .kl x _ | .f9 x=>match ev x with | .p id _ _=>[id] | .bq _ _ id _ _ _=>[id] | _=>[]
 | .js x _ _ | .fB x _ _ _ | .len x=>(ev x).refs
 | .store x v _=>(match ev x with | .p id _ _=>[id] | _=>[])++(ev v).refs
 | .bW _ _ ps=>ps.flatMap λx=>(ev x).refs
 | .mk _ _ zs _=>AV.bM zs
 | .app s x _ _=>(ev s).refs++(ev x).refs
 | .call _ args=>(args.flatMap λx=>(ev x).refs)++(args.flatMap λx=>(ev x).b8)
 | _=>[]
def keys(l:List (Nat × aR)):List Nat:=l.map (·.1)
def Zt(Γ:ez)(o:AO)(σ:St):Option (St × List Nat × List Nat) :=
 match o.gd with
 | none=>match Qw Γ (aX.ev σ.t) σ.h (σ.nx+o.off) o.op with
  | some e=>some (σ.app o.dst e,acc (aX.ev σ.t) o.op,keys e.fS)
  | none=>none
 | some (s,w)=>match σ.t s with
  | .c (.v (.bool c))=>if c=w then(match Qw Γ (aX.ev σ.t) σ.h (σ.nx+o.off) o.op with
   | some e=>some (σ.app o.dst e,acc (aX.ev σ.t) o.op,keys e.fS)
   | none=>none) else some (⟨cN σ.t o.dst (.t []),σ.h,σ.nx⟩,[],[])
  | .t []=>some (⟨cN σ.t o.dst (.t []),σ.h,σ.nx⟩,[],[])
  | _=>none
def ZD(Γ:ez):List AO->St->Option (St × List (List Nat × List Nat))
 | [],σ=>some (σ,[])
 | o::r,σ=>match Zt Γ o σ with
  | some (σ',a,w)=>match ZD Γ r σ' with
   | some (σ'',l)=>some (σ'',(a,w)::l)
   | none=>none
  | none=>none
def JH(l m:List Nat):Bool:=l.all λx=>!(m.elem x)
def sU(log:List (List Nat × List Nat))(U:List (Nat × Nat)):Bool :=
 U.all λ(i,j)=>match log[i]?,log[j]? with
  | some (a,w),some (a',w')=>JH w (a'++w')&&JH w' a
  | _,_=>true
def St.fU(σ:St)(n:Nat):St:=⟨σ.t,σ.h,σ.nx+n⟩
def km(Γ:ez):eB->(l9->St->Prop)->St->Prop
 | .skip,Q,σ=>Q .normal σ
 | .ae ops,Q,σ=>gG Γ ops (λσ'=>Q .normal (σ'.fU (16*ops.length))) σ
 | .draw ops U,Q,σ=>match ZD Γ ops σ with
  | some (σ',log)=>sU log U=true/\Q .normal (σ'.fU (16*ops.length))
  | none=>False
 | .seq x y,Q,σ=>km Γ x (λe σ'=>match e with | .normal=>km Γ y Q σ' | e=>Q e σ') σ
 | .cond c x y,Q,σ=>match c.ev σ.t with
  | .c (.v (.bool t))=>(t=true->km Γ x Q σ)/\(t=false->km Γ y Q σ)
  | _=>False
 | .block id x,Q,σ=>km Γ x (λe σ'=>match e with | .exit b7=>if b7=id then Q .normal σ' else Q (.exit b7) σ' | e=>Q e σ') σ
 | .loop x,Q,σ=>∃(I:St->Prop)(μ:St->Nat),I σ/\∀ σ',I σ'->km Γ x (λe σ''=>match e with | .normal=>I σ''/\μ σ''<μ σ' | e=>Q e σ'') σ'
 | .exit id,Q,σ=>Q (.exit id) σ
 | .ret,Q,σ=>Q .ret σ
end Go.Proofs.YtdplaepmjogjjaaGreat.Am
namespace Go.Proofs.YtdplaepmjogjjaaGreat.Am
open Go Go.RowKit
def cA(P:Program)(t:TypeId):Option Nat:=(P.info? t).map (·.size)
def JK(P:Program)(t:TypeId):Option Bool :=
 match P.underlying t with
 | some (.struct _)=>some true
 | some (.array _ _)=>some true
 | some _=>some false
 | none=>none
def fV(P:Program)(t:TypeId):Option TypeId :=
 match P.underlying t with
 | some (.slice e)=>some e
 | _=>none
def Oo(P:Program):Nat->TypeId->List TypeId
 | 0,t=>[t]
 | k+1,t=>match P.underlying t with
  | some (.struct fs)=>fs.toList.flatMap λf=>Oo P k f.type
  | _=>[t]
def kZ(P:Program)(t:TypeId):Value->AV
 | .slice none 0 0=>.n (((fV P t).bind (cA P)).getD 0)
 | v=>.c (.v v)
def pT(P:Program)(ts:List TypeId):List Value->List AV
 | []=>[]
 | v::vs=>kZ P (ts.headD 0) v::pT P ts.tail vs
def ko(P:Program)(t:TypeId):Value->Option AV
 | .agg cs=>if cs.toList.all (·.oneCell') then some (.a (pT P (Oo P 8 t) cs.toList)) else none
 | v=>if v.oneCell' then some (kZ P t v) else none
def cO(P:Program)(t:TypeId):Operand->Option aX
 | .tmp i=>some (.s i)
 | .const v=>(ko P t v).map .k
 | _=>none
def sV(P:Program):Option Operand->Option (Option aX)
 | some l=>(cO P 0 l).map some
 | none=>some none
def sW(P:Program):List TypeId->List Operand->Option (List aX)
 | _,[]=>some []
 | ts,x::xs=>match cO P (ts.headD 0) x,sW P ts.tail xs with
  | some y,some ys=>some (y::ys)
  | _,_=>none
def Y2(P:Program)(t:TypeId):Option (List AV) :=
 match P.info? t with
 | some i=>match i.zero with
  | some z=>match ko P t z with
   | some x=>some x.cells
   | none=>none
  | none=>none
 | none=>none
def sZ(P:Program)(fs:List Field):List (Nat × Operand)->Option (List (Nat × Nat × aX))
 | []=>some []
 | (i,x)::r=>match fs[i]? with
  | some f=>match cA P f.type,cO P f.type x,sZ P fs r with
   | some n,some y,some ys=>some ((f.offset,n,y)::ys)
   | _,_,_=>none
  | none=>none
def mI(P:Program)(e:TypeId):Nat->List (Nat × Operand)->Option (List aX)
 | _,[]=>some []
 | k,(i,x)::r=>if i=k then(match cO P e x,mI P e (k+1) r with
  | some y,some ys=>some (y::ys)
  | _,_=>none) else none
def za(P:Program)(fs:List Field)(k:Nat):Bool :=
 match fs with
 | []=>true
 | f :: r => f.name != "_" && f.offset == k && cA P f.type == some 1 && (match P.underlying f.type with | some (.int _) => true | _ => false) && za P r (k + 1)
def DK(P:Program)(t:TypeId):Option Nat :=
 match P.underlying t with
 | some (.struct fs)=>if za P fs.toList 0&&!P.eqGuardType P.depth t&&!P.stoodInHeld t then some fs.size else none
 | _=>none
def Oq(P:Program):Builtin->List Operand->List TypeId->Option ea
 | .len,[x],[t]=>match P.underlying t,cO P t x with
  | some (.slice _),some x=>some (.len x)
  | _,_=>none
 | .append,[s,x],[t,t']=>if t=t' then(match fV P t with
  | some e=>match cA P e,cO P t s,cO P t x,P.info? e with
   | some sz,some s,some x,some i=>if 0<sz/\i.bytes<=32768/\(Y2 P e).map (·.length)=some sz then some (.app s x e sz) else none
   | _,_,_,_=>none
  | none=>none) else none
 | .min,[x,y],[t,t']=>match cO P t x,cO P t' y with
  | some x,some y=>some (.mm false x y)
  | _,_=>none
 | .max,[x,y],[t,t']=>match cO P t x,cO P t' y with
  | some x,some y=>some (.mm true x y)
  | _,_=>none
 | _,_,_=>none
def u2(P:Program)(o:Oper):Option ea :=
 match o.op with
 | .move x | .assign x=>(cO P o.type x).map .eG
 | .pick c x y=>match cO P o.type c,cO P o.type x,cO P o.type y with
  | some c,some x,some y=>some (.pick c x y)
  | _,_,_=>none
 | .alloc e=>(Y2 P e).map (.new e)
 | .box e x=>match cO P e x,cA P e with
  | some x,some n=>some (.box e x n)
  | _,_=>none
 | .build t ps=>match P.underlying t with
  | some (.struct fs)=>match Y2 P t,sZ P fs.toList ps.toList with
   | some zs,some ps=>if fs.toList.all (λf=>(cA P f.type).isSome) then some (.build zs ps) else none
   | _,_=>none
  | _=>none
 | .buildSlice t n ps=>match fV P t with
  | some e=>match cA P e,mI P e 0 ps.toList with
   | some sz,some xs=>if xs.length=n/\0<sz/\n*sz<=16777216/\(Y2 P e).isSome=true then some (.bW e sz xs) else none
   | _,_=>none
  | none=>none
 | .load t x=>match cO P 0 x,cA P t,JK P t with
  | some x,some n,some agg=>some (.load x (if agg then n else 1) agg)
  | _,_,_=>none
 | .store t x v=>match cO P 0 x,cO P t v,cA P t with
  | some x,some v,some n=>some (.store x v n)
  | _,_,_=>none
 | .fieldAddr s x i=>match P.underlying s with
  | some (.struct fs)=>match fs[i]? with
   | some f=>match cA P f.type,cO P 0 x with
    | some n,some x=>if n≠0 then some (.kl x f.offset) else none
    | _,_=>none
   | none=>none
  | _=>none
 | .field s x i=>match P.underlying s with
  | some (.struct fs)=>match fs[i]? with
   | some f=>match cA P f.type,JK P f.type,cO P s x with
    | some n,some agg,some x=>some (.kS x f.offset (if agg then n else 1) agg)
    | _,_,_=>none
   | none=>none
  | _=>none
 | .indexAddr t x i=>match fV P t with
  | some e=>match cA P e,cO P t x,cO P 0 i with
   | some sz,some x,some i=>if 0<sz then some (.js x i sz) else none
   | _,_,_=>none
  | none=>none
 | .makeSlice t (.tmp l) (.tmp c)=>if l=c then(match fV P t with
  | some e=>match cA P e,Y2 P e,P.info? e with
   | some sz,some zs,some i=>if 0<sz/\i.bytes<=32768 then some (.mk e sz zs (.s l)) else none
   | _,_,_=>none
  | none=>none) else none
 | .slice t x lo hi none=>match fV P t with
  | some e=>match cA P e,cO P t x,sV P lo,sV P hi with
   | some sz,some x,some lo,some hi=>if 0<sz then some (.fB x lo hi sz) else none
   | _,_,_,_=>none
  | none=>none
 | .binOp op t x y ty=>match cO P t x,cO P ty y with
  | some x,some y=>match DK P t with
   | some n=>(match op with
    | .eql=>some (.gE n false x y)
    | .neq=>some (.gE n true x y)
    | _=>none)
   | none=>(match P.underlying t with
   | some (.int _)=>some (.bin op x y)
   | some .bool=>match op with
    | .eql=>some (.ic false x y)
    | .neq=>some (.ic true x y)
    | _=>none
   | some .string=>some (.bin op x y)
   | _=>none)
  | _,_=>none
 | .unOp .not t x=>(cO P t x).map .not
 | .unOp .neg t x=>(cO P t x).map .neg
 | .convert s d x=>match P.underlying s,P.underlying d,cO P s x with
  | some (.int _),some (.int k),some x=>some (.conv k x)
  | _,_,_=>none
 | .extract x i=>(cO P 0 x).map (.ext · i)
 | .nilCheck x=>(cO P 0 x).map .f9
 | .call c=>match c.callee with
  | .value (.func f)=>match P.funcs[f]?,sW P c.argTypes.toList c.args.toList with
   | some fn, some xs => if fn.body.isSome = true ∧ (fn.name == "runtime.NumGoroutine") = false then some (.call f xs) else none
   | _,_=>none
  | .builtin b=>Oq P b c.args.toList c.argTypes.toList
  | _=>none
 | _=>none
def s0(ops:Array Oper):Option (Nat × Bool)->Option (Option (Nat × Bool))
 | none=>some none
 | some (j,b)=>match(ops[j]?).bind (·.dst) with
  | some s=>some (some (s,b))
  | none=>none
def u3(N:Nat)(dst:Option Nat)(gd:Option (Nat × Bool)):Bool :=
 (match dst with | some d=>decide (d<N) | none=>true)&&(match gd with | some (s,_)=>decide (s<N) | none=>true)
def s3(P:Program)(N:Nat)(ops:Array Oper)(o:Oper)(i:Nat):Option AO :=
 match u2 P o,s0 ops o.guard with
 | some op,some gd=>if u3 N o.dst gd=true then some ⟨o.dst,op,gd,16*i⟩ else none
 | _,_=>none
def mJ(P:Program)(N:Nat)(ops:Array Oper):List Oper->Nat->Option (List AO)
 | [],_=>some []
 | o::r,i=>match s3 P N ops o i,mJ P N ops r (i+1) with
  | some x,some xs=>some (x::xs)
  | _,_=>none
def aX.bK:aX->List Nat
 | .s i=>[i]
 | .k _=>[]
def ea.bK:ea->List Nat
 | .eG x | .not x | .neg x | .box _ x _ | .load x _ _ | .kl x _ | .kS x _ _ _ | .len x | .ext x _ | .conv _ x | .f9 x | .mk _ _ _ x=>x.bK
 | .pick c x y=>c.bK++x.bK++y.bK
 | .bin _ x y | .gE _ _ x y | .ic _ x y | .store x y _ | .js x y _ | .app x y _ _ | .mm _ x y=>x.bK++y.bK
 | .new _ _=>[]
 | .build _ ps=>ps.flatMap λx=>x.2.2.bK
 | .bW _ _ ps=>ps.flatMap aX.bK
 | .fB x lo hi _=>x.bK++(match lo with | some l=>l.bK | none=>[])++(match hi with | some l=>l.bK | none=>[])
 | .call _ args=>args.flatMap aX.bK
def AO.reads(o:AO):List Nat:=o.op.bK++(match o.gd with | some (s,_)=>[s] | none=>[])
def AO.free(o p:AO):Bool :=
 (match o.dst with | some d=>!(p.reads.elem d)&&(match p.dst with | some d'=>d != d' | none=>true) | none=>true)&&(match p.dst with | some d=>!(o.reads.elem d) | none=>true)
def Je(o:Oper):List Nat:=(o.after.toList.filter λe=>Region.binds .any e).map λe=>e.on
def pU:List Oper->List (List Nat)->List (List Nat)
 | [],acc=>acc
 | o::r,acc=>pU r (acc++[((Je o).flatMap λk=>k::(acc[k]?).getD []).eraseDups])
def kp(ops:Array Oper):List (List Nat):=pU ops.toList []
def pV(ops:Array Oper)(j i:Nat):Bool:=(((kp ops)[i]?).getD []).elem j
def Ot(tab:List (List Nat))(n:Nat):List (Nat × Nat) :=
 (List.range n).flatMap λi=>(List.range i).filterMap λj=>if((tab[i]?).getD []).elem j then none else some (j,i)
def ZX(ops:Array Oper):List (Nat × Nat):=Ot (kp ops) ops.size
def ea.cP:ea->Bool
 | .load .. | .store .. | .bW .. | .app .. | .call .. | .new .. | .box .. | .mk .. | .kl .. | .f9 .. | .js .. | .fB .. | .len ..=>true
 | _=>false
def ea.writes:ea->Bool
 | .store .. | .bW .. | .app .. | .call .. | .new .. | .box .. | .mk ..=>true
 | _=>false
def DL(ops:Array Oper):Bool :=
 (List.range ops.size).all λi=>match ops[i]? with
  | some o=>o.after.all λe=>!Region.binds .any e||decide (e.on<i)
  | none=>true
def Ou(l:List AO)(U:List (Nat × Nat)):Bool :=
 U.all λ(i,j)=>match l[i]?,l[j]? with | some o,some p=>o.free p | _,_=>false
def DM(l:List AO)(U:List (Nat × Nat)):List (Nat × Nat) :=
 U.filter λ(i,j)=>match l[i]?,l[j]? with | some o,some p=>o.op.cP&&p.op.cP&&(o.op.writes||p.op.writes) | _,_=>true
def comp(P:Program)(N:Nat):Code->Option eB
 | .skip=>some .skip
 | .region _ ops draw=>match mJ P N ops ops.toList 0 with
  | some l=>if draw then
    (if(Ou l (ZX ops)&&DL ops)=true then some (.draw l (DM l (ZX ops))) else none)
   else some (.ae l)
  | none=>none
 | .seq x y=>match comp P N x,comp P N y with
  | some x,some y=>some (.seq x y)
  | _,_=>none
 | .cond c x y=>match cO P 0 c,comp P N x,comp P N y with
  | some c,some x,some y=>some (.cond c x y)
  | _,_,_=>none
 | .block id x=>(comp P N x).map (.block id)
 | .loop x=>(comp P N x).map .loop
 | .exit id=>some (.exit id)
 | .ret=>some .ret
 | _=>none
end Go.Proofs.YtdplaepmjogjjaaGreat.Am
namespace Go.Proofs.YtdplaepmjogjjaaGreat.Am
open Go Go.RowKit
theorem u4{P:Program}{t:TypeId}{n:Nat}(h:cA P t=some n):∃ i,P.info? t=some i/\i.size=n:=by
 unfold cA at h;obtain⟨i,h1,h2⟩:=Option.map_eq_some_iff.1 h;exact⟨i,h1,h2⟩
theorem mK{P:Program}{t:TypeId}{n:Nat}(h:cA P t=some n)(w:World):(sizeOf t).run P w = .ok n w:=by
 obtain⟨i,h1,h2⟩:=u4 h;simp[sizeOf,typeInfo,h1,h2]
theorem JR{P:Program}{t e:TypeId}(h:fV P t=some e):P.underlying t=some (.slice e):=by
 unfold fV at h
 split at h
 ·rename_i e' h1;cases h;exact h1
 ·cases h
theorem s4{P:Program}{t:TypeId}{b:Bool}(h:JK P t=some b)(w:World):(isAgg t).run P w = .ok b w:=by
 unfold JK at h
 split at h
 ·rename_i fs h1;cases h;simp[isAgg,run_underlying h1]
 ·rename_i n e h1;cases h;simp[isAgg,run_underlying h1]
 ·rename_i d fq ma h1
  cases h
  cases d <;> first
   | exact absurd rfl (fq _)
   | exact absurd rfl (ma _ _)
   | simp[isAgg,run_underlying h1]
 ·cases h
theorem Ov{P:Program}{t:TypeId}{v:Value}(h1:v.oneCell'=true){w:World}{F:Nat->Prop}{ι:Io}{h:Nat->aR}:VR w F ι h v (kZ P t v):=by
 unfold kZ
 split
 ·exact .n _
 ·exact .c _ _ (.v _ h1)
theorem DN{P:Program}:∀(vs:List Value)(ts:List TypeId)(k:Nat)(v:Value)(x:AV),vs[k]? = some v->(pT P ts vs)[k]? = some x->∃ t,x=kZ P t v
 | [],_,k,v,x,h,_=>by simp at h
 | y::ys,ts,0,v,x,h,h'=>by
  simp[pT]at h h';exact⟨_,by rw[<- h',<- h]⟩
 | y::ys,ts,k+1,v,x,h,h'=>by
  simp[pT]at h h';exact DN ys ts.tail k v x h h'
theorem DO{P:Program}:∀(vs:List Value)(ts:List TypeId),(pT P ts vs).length=vs.length
 | [],_=>rfl
 | _::ys,ts=>by simp[pT,DO ys ts.tail]
theorem Ow{P:Program}{t:TypeId}{v:Value}{x:AV}(hx:ko P t v=some x){w:World}{F:Nat->Prop}{ι:Io}{h:Nat->aR}:VR w F ι h v x:=by
 unfold ko at hx
 split at hx
 ·rename_i cs
  split at hx
  ·rename_i ej
   cases hx;have h1:∀(k:Nat)(v:Value),cs[k]? = some v->v.oneCell'=true:=by
    intro k v hk;have:v∈cs.toList:=by
     obtain⟨aW,he⟩:=Array.getElem?_eq_some_iff.1 hk;rw[<- he];simp
    exact List.all_eq_true.1 ej v this
   refine .a _ _ (by rw[DO];simp) h1 (λk v x hk hx=>?_);obtain⟨t',rfl⟩:=DN cs.toList _ k v x (by simpa using hk) hx;exact Ov (h1 k v hk)
  ·cases hx
 ·split at hx
  ·rename_i h1
   cases hx;exact Ov h1
  ·cases hx
theorem Zs{C:Ctx}{U:Nat->Prop}{σ:St}{a:Act}{w:World}{ι:Io}(S:Sat C U σ a w ι){t:TypeId}{x:Operand}{y:aX}(h:cO C.P t x=some y) :
  VR w (Fz C w ι σ.h) ι σ.h (a.eval x) (y.ev σ.t):=by
 unfold cO at h
 split at h
 ·cases h;exact S.bm _
 ·obtain⟨z,hz,rfl⟩:=Option.map_eq_some_iff.1 h;exact Ow hz
 ·cases h
theorem Zh{C:Ctx}{U U':Nat->Prop}{σ:St}{a:Act}{w:World}{ι:Io}(S:Sat C U σ a w ι){o:Oper}{v:Value}{x:AV}{Q:Exit->Act->World->Prop}
  (hd:∀ d,o.dst=some d->d<C.N) (bN:∀ i,U' i->U i)
  (cp:(execOp a.eval o).run C.P w = .ok (.value v) w) (hv:VR w (Fz C w ι σ.h) ι σ.h v x) :
  o.wp C.P a w (λa' w'=>cz C U' (σ.app o.dst ⟨x,[]⟩) a' w') Q:=by
 unfold Oper.wp;rw[cp];simp only[Oper.upon];refine⟨ι,?_⟩;have S':Sat C U' σ a w ι:={ S with fresh:=λi hi=>S.fresh i (bN i hi) }
 cases ho:o.dst with
 | none=>simpa[St.app,cN,bp,Act.put]using S'
 | some d=>simpa[St.app,cN,bp]using S'.put d (hd d ho) v x hv
theorem VR.int{w:World}{F:Nat->Prop}{ι:Io}{h:Nat->aR}{v x:Value}(hv:VR w F ι h v (.c (.v x))):v=x:=by
 cases hv with
 | c v d hr=>cases hr;rfl
theorem fa{w:World}{F:Nat->Prop}{ι:Io}{h:Nat->aR}{x:Value}(h1:x.oneCell'=true):VR w F ι h x (.c (.v x)):=.c _ _ (.v _ h1)
theorem DP{w:World}{F:Nat->Prop}{ι:Io}{h:Nat->aR}{v:Value}{x:AV}{n:Int}(hv:VR w F ι h v x)(hx:sT x=some n):∃ k,v = .int k n:=by
 unfold sT at hx
 split at hx
 ·rename_i k m
  cases hx;exact⟨k,hv.int⟩
 ·cases hx
theorem Ox{C:Ctx}{U:Nat->Prop}{σ:St}{a:Act}{w:World}{ι:Io}(S:Sat C U σ a w ι):∀ {ts:List TypeId} {xs:List Operand} {ys:List aX},sW C.P ts xs=some ys->
  xs.length=ys.length/\∀(k:Nat)(x:Operand)(y:aX),xs[k]? = some x->ys[k]? = some y->VR w (Fz C w ι σ.h) ι σ.h (a.eval x) (y.ev σ.t)
 | ts,[],ys,h=>by simp[sW]at h;subst h;simp
 | ts,x::xs,ys,h=>by
  unfold sW at h
  split at h
  ·rename_i y kU h1 h2
   cases h;obtain⟨hl,hh⟩:=Ox S h2;refine⟨by simp[hl],λk x' y' hk ey=>?_⟩
   cases k with
   | zero=>simp at hk ey;subst hk;subst ey;exact Zs S h1
   | succ k=>simp at hk ey;exact hh k x' y' hk ey
  ·cases h
theorem QRX{P:Program}{w:World}{op:BinOp}{x y z:Value}{t:TypeId}(h:mH op x y=some z):(binOp op t x y).run P w = .ok z w/\z.oneCell'=true:=by
 unfold mH at h
 split at h
 ·rename_i k x k' y
  split at h
  ·split at h
   ·cases h
   ·rename_i h1
    cases h;simp[binOp,Op.shift,h1,Value.oneCell']
  ·split at h
   ·cases h
   ·rename_i h1
    cases h;simp[binOp,Op.shift,h1,Value.oneCell']
  ·split at h
   ·rename_i ahv pW hk;subst hk
    split at h
    any_goals (cases h;simp[binOp,Op.intArith,Op.intBits,Op.intCmp,Value.oneCell'];done)
    ·split at h
     ·cases h
     ·rename_i h1;cases h;simp[binOp,Op.intDiv,h1,Value.oneCell']
    ·split at h
     ·cases h
     ·rename_i h1;cases h;simp[binOp,Op.intDiv,h1,Value.oneCell']
    ·cases h
   ·cases h
 ·rename_i x y
  split at h <;> first
   | (cases h;simp[binOp,Op.stringOp,Value.oneCell'];done)
   | cases h
 ·cases h
theorem Oy{P:Program}{w:World}{op:BinOp}{t:TypeId}{x y:Operand}{v u:Value}(h1:v.oneCell'=true)(h2:v≠.nilIface):(eqGuard op t x y v u).run P w = .ok () w:=by
 cases v <;> cases op <;> first
  | exact absurd rfl h2
  | (simp[Value.oneCell']at h1;done)
  | simp[eqGuard]
theorem YO(bk o k:Nat):(⟨bk,o,Option.none⟩:Addr).add k=⟨bk,o+k,Option.none⟩:=by
 unfold Addr.add;split <;> simp_all
theorem s5{α:Type}{l m:List α}{j n:Nat}(h:cut l j n=some m):j+n<=l.length/\m=(l.drop j).take n:=by
 unfold cut at h
 split at h
 ·cases h;exact⟨by assumption,rfl⟩
 ·cases h
theorem u5{α:Type}{l m:List α}{j n:Nat}(h:cut l j n=some m):m.length=n/\∀ k:Nat,k<n->m[k]? = l[j+k]?:=by
 obtain⟨h1,rfl⟩:=s5 h;refine⟨by simp;omega,λk hk=>?_⟩;rw[List.getElem?_take,if_pos hk,List.getElem?_drop]
section
variable {C:Ctx} {U U':Nat->Prop} {σ:St} {a:Act} {w:World} {ι:Io} {o:Oper} {Q:Exit->Act->World->Prop} {Γ:ez} {b:Nat} {e:fi}
variable (S:Sat C U σ a w ι) (hd:∀ d,o.dst=some d->d<C.N) (bN:∀ i,U' i->U i)
include S hd bN
theorem Oz{x:Operand}{y:aX}{t:TypeId}(ho:o.op = .move x\/o.op = .assign x)(hx:cO C.P t x=some y)(he:Qw Γ (aX.ev σ.t) σ.h b (.eG y)=some e) :
  o.wp C.P a w (λa' w'=>cz C U' (σ.app o.dst e) a' w') Q:=by
 simp only[Qw,Option.some.injEq]at he;subst he;refine Zh S hd bN (v:=a.eval x) ?_ (Zs S hx)
 rcases ho with ho | ho <;> simp[execOp,ho]
theorem QJe{c x y:Operand}{c' x' y':aX}{t:TypeId}(ho:o.op = .pick c x y)(hc:cO C.P t c=some c')(hx:cO C.P t x=some x')(hy:cO C.P t y=some y')(he:Qw Γ (aX.ev σ.t) σ.h b (.pick c' x' y')=some e) :
  o.wp C.P a w (λa' w'=>cz C U' (σ.app o.dst e) a' w') Q:=by
 have h1:=Zs S hc;simp only[Qw]at he
 split at he
 ·rename_i h2
  cases he;rw[h2]at h1;exact Zh S hd bN (v:=a.eval x) (by simp[execOp,ho,h1.int,asBool]) (Zs S hx)
 ·rename_i h2
  cases he;rw[h2]at h1;exact Zh S hd bN (v:=a.eval y) (by simp[execOp,ho,h1.int,asBool]) (Zs S hy)
 ·cases he
theorem OA{op:BinOp}{x y:Operand}{x' y':aX}{t ty:TypeId}(ho:o.op = .binOp op t x y ty)(hx:cO C.P t x=some x')(hy:cO C.P ty y=some y')(he:Qw Γ (aX.ev σ.t) σ.h b (.bin op x' y')=some e) :
  o.wp C.P a w (λa' w'=>cz C U' (σ.app o.dst e) a' w') Q:=by
 have h1:=Zs S hx;have h2:=Zs S hy;simp only[Qw]at he
 split at he
 ·rename_i v u hv hu
  split at he
  ·rename_i z hz
   cases he;rw[hv]at h1;rw[hu]at h2;obtain⟨hr,hz1⟩:=QRX (P:=C.P) (w:=w) (t:=t) hz;have iT:v.oneCell'=true/\v≠.nilIface:=by
    unfold mH at hz
    split at hz <;> first | exact⟨rfl,by simp⟩ | cases hz
   refine Zh S hd bN (v:=z) ?_ (fa hz1);simp[execOp,ho,h1.int,h2.int,Oy iT.1 iT.2,hr]
  ·cases he
 ·cases he
theorem OB{neg:Bool}{x y:Operand}{x' y':aX}{t ty:TypeId}(ho:o.op = .binOp (if neg then .neq else .eql) t x y ty)(ht:C.P.underlying t=some .bool)(hx:cO C.P t x=some x')(hy:cO C.P ty y=some y')(he:Qw Γ (aX.ev σ.t) σ.h b (.ic neg x' y')=some e) :
  o.wp C.P a w (λa' w'=>cz C U' (σ.app o.dst e) a' w') Q:=by
 have h1:=Zs S hx;have h2:=Zs S hy;simp only[Qw]at he
 split at he
 ·rename_i v u hv hu
  cases he;rw[hv]at h1;rw[hu]at h2;refine Zh S hd bN (v:=.bool (if neg then !(v==u) else v==u)) ?_ (fa rfl);have hg:∀ op,(eqGuard op t x y (.bool v) (.bool u)).run C.P w = .ok () w:=λop=>Oy (by rfl) (by simp)
  cases neg <;> simp[execOp,ho,h1.int,h2.int,hg,binOp,run_equal_bool w t v u ht]
 ·cases he
theorem QKl{x:Operand}{x':aX}{t:TypeId}(ho:o.op = .unOp .not t x)(hx:cO C.P t x=some x')(he:Qw Γ (aX.ev σ.t) σ.h b (.not x')=some e) :
  o.wp C.P a w (λa' w'=>cz C U' (σ.app o.dst e) a' w') Q:=by
 have h1:=Zs S hx;simp only[Qw]at he
 split at he
 ·rename_i v hv
  cases he;rw[hv]at h1;exact Zh S hd bN (v:=.bool (!v)) (by simp[execOp,ho,h1.int,Op.unary]) (fa rfl)
 ·cases he
theorem QPv{x:Operand}{x':aX}{t:TypeId}(ho:o.op = .unOp .neg t x)(hx:cO C.P t x=some x')(he:Qw Γ (aX.ev σ.t) σ.h b (.neg x')=some e) :
  o.wp C.P a w (λa' w'=>cz C U' (σ.app o.dst e) a' w') Q:=by
 have h1:=Zs S hx;simp only[Qw]at he
 split at he
 ·rename_i k n hv
  cases he;rw[hv]at h1;exact Zh S hd bN (v:=.int k (k.wrap (0-n))) (by simp[execOp,ho,h1.int,Op.unary,Op.intArith]) (fa rfl)
 ·cases he
theorem QGE{x:Operand}{x':aX}{i:Nat}{t:TypeId}(ho:o.op = .extract x i)(hx:cO C.P t x=some x')(he:Qw Γ (aX.ev σ.t) σ.h b (.ext x' i)=some e) :
  o.wp C.P a w (λa' w'=>cz C U' (σ.app o.dst e) a' w') Q:=by
 have h1:=Zs S hx;simp only[Qw]at he
 split at he
 ·rename_i vs hv
  split at he
  ·rename_i z hz
   cases he;rw[hv]at h1;generalize cu:a.eval x=av at h1
   cases h1 with
   | t us _ hl dR =>
    have aW:i<us.size:=by rw[hl];exact(List.getElem?_eq_some_iff.1 hz).1
    have hu:us[i]? = some us[i]:=Array.getElem?_eq_getElem aW;exact Zh S hd bN (v:=us[i]) (by simp[execOp,ho,cu,Instr.extract,hu]) (dR i _ z hu hz)
  ·cases he
 ·cases he
theorem QQo{x:Operand}{x':aX}{s d:TypeId}{k:IntKind}{k0:IntKind}(ho:o.op = .convert s d x)(hs:C.P.underlying s=some (.int k0))(eP:C.P.underlying d=some (.int k))(hx:cO C.P s x=some x')(he:Qw Γ (aX.ev σ.t) σ.h b (.conv k x')=some e) :
  o.wp C.P a w (λa' w'=>cz C U' (σ.app o.dst e) a' w') Q:=by
 have h1:=Zs S hx;simp only[Qw]at he
 split at he
 ·rename_i k1 n hv
  cases he;rw[hv]at h1;exact Zh S hd bN (v:=.int k (k.wrap n)) (by simp[execOp,ho,h1.int,convert,run_underlying hs,run_underlying eP,Conv.intToInt]) (fa rfl)
 ·cases he
theorem QTx{x:Operand}{x':aX}{t:TypeId}(ho:o.op = .nilCheck x)(hx:cO C.P t x=some x')(he:Qw Γ (aX.ev σ.t) σ.h b (.f9 x')=some e) :
  o.wp C.P a w (λa' w'=>cz C U' (σ.app o.dst e) a' w') Q:=by
 have h1:=Zs S hx;simp only[Qw]at he
 split at he
 ·rename_i id i j hv
  split at he
  ·rename_i dO
   cases he;rw[hv]at h1;have fO:=h1;generalize cu:a.eval x=av at h1 fO
   cases h1 with
   | cS v _ _ _ _ eP=>rw[eP]at dO;simp[aR.alive]at dO
   | p _ _ _ bk hi hn dU=>exact Zh S hd bN (by simp[execOp,ho,cu]) fO
  ·cases he
 ·rename_i cs j hv
  cases he;rw[hv]at h1;have fO:=h1;generalize cu:a.eval x=av at h1 fO
  cases h1 with
  | q bk o' j cs x hb hc hr=>exact Zh S hd bN (by simp[execOp,ho,cu]) fO
 ·rename_i cs j id g p i hv
  split at he
  ·rename_i hg
   cases he;rw[hv]at h1;obtain⟨bk,o',cur,e0,cu,_⟩:=h1.pQ hg;exact Zh S hd bN (by simp[execOp,ho,cu]) h1
  ·cases he
 ·cases he
theorem u6{mx:Bool}{x y:Operand}{x' y':aX}{t t':TypeId}(ho:o.op = .call { callee:=.builtin (if mx then .max else .min),args:=#[x,y],argTypes:=#[t,t'] })(hx:cO C.P t x=some x')(hy:cO C.P t' y=some y')(he:Qw Γ (aX.ev σ.t) σ.h b (.mm mx x' y')=some e) :
  o.wp C.P a w (λa' w'=>cz C U' (σ.app o.dst e) a' w') Q:=by
 have h1:=Zs S hx;have h2:=Zs S hy;simp only[Qw]at he
 split at he
 ·rename_i k v k' u hv hu
  cases he;rw[hv]at h1;rw[hu]at h2;refine Zh S hd bN (v:=.int k (if mx then(if v<u then u else v) else(if u<v then u else v))) ?_ (fa rfl)
  cases mx <;> simp[execOp,ho,h1.int,h2.int,resolve,invoke,builtin,Builtin.min_,Builtin.max_,Builtin.min2,Builtin.max2]
 ·cases he
theorem QYv{x:Operand}{x':aX}{t e':TypeId}(ho:o.op = .call { callee:=.builtin .len,args:=#[x],argTypes:=#[t] })(ht:C.P.underlying t=some (.slice e'))(hx:cO C.P t x=some x')(he:Qw Γ (aX.ev σ.t) σ.h b (.len x')=some e) :
  o.wp C.P a w (λa' w'=>cz C U' (σ.app o.dst e) a' w') Q:=by
 have h1:=Zs S hx;simp only[Qw]at he
 split at he
 all_goals (try cases he)
 ·rename_i sz es hv;rw[hv]at h1;generalize cu:a.eval x=av at h1
  cases h1 with
  | c v d hr =>
   cases hr with
   | nil=>exact Zh S hd bN (v:=.int .i64 0) (by simp[execOp,ho,cu,resolve,invoke,builtin,Builtin.len_,run_underlying ht,goInt]) (fa rfl)
   | emp=>exact Zh S hd bN (v:=.int .i64 0) (by simp[execOp,ho,cu,resolve,invoke,builtin,Builtin.len_,run_underlying ht,goInt]) (fa rfl)
   | sl b o len cap _ es x hlen=>subst hlen;exact Zh S hd bN (v:=.int .i64 es.length) (by simp[execOp,ho,cu,resolve,invoke,builtin,Builtin.len_,run_underlying ht,goInt]) (fa rfl)
 ·rename_i sz hv;rw[hv]at h1;generalize cu:a.eval x=av at h1
  cases h1 with
  | n=>exact Zh S hd bN (v:=.int .i64 0) (by simp[execOp,ho,cu,resolve,invoke,builtin,Builtin.len_,run_underlying ht,goInt]) (fa rfl)
 ·rename_i sz id off len hv
  split at he
  ·rename_i dO
   cases he;rw[hv]at h1;generalize cu:a.eval x=av at h1
   cases h1 with
   | cy v _ _ _ _ _ eP=>rw[eP]at dO;simp[aR.alive]at dO
   | cL=>exact Zh S hd bN (v:=.int .i64 0) (by simp[execOp,ho,cu,resolve,invoke,builtin,Builtin.len_,run_underlying ht,goInt]) (fa rfl)
   | de=>exact Zh S hd bN (v:=.int .i64 0) (by simp[execOp,ho,cu,resolve,invoke,builtin,Builtin.len_,run_underlying ht,goInt]) (fa rfl)
   | r=>exact Zh S hd bN (v:=.int .i64 len) (by simp[execOp,ho,cu,resolve,invoke,builtin,Builtin.len_,run_underlying ht,goInt]) (fa rfl)
  ·cases he
 ·rename_i sz es id g p hv
  split at he
  ·rename_i hg
   cases he;rw[hv]at h1;obtain⟨hr,_⟩:=h1.y9 hg;generalize cu:a.eval x=av at hr
   cases hr with
   | nil=>exact Zh S hd bN (v:=.int .i64 0) (by simp[execOp,ho,cu,resolve,invoke,builtin,Builtin.len_,run_underlying ht,goInt]) (fa rfl)
   | emp=>exact Zh S hd bN (v:=.int .i64 0) (by simp[execOp,ho,cu,resolve,invoke,builtin,Builtin.len_,run_underlying ht,goInt]) (fa rfl)
   | sl _ b o len cap _ es cur e0 x hz dM hlen=>subst hlen;exact Zh S hd bN (v:=.int .i64 es.length) (by simp[execOp,ho,cu,resolve,invoke,builtin,Builtin.len_,run_underlying ht,goInt]) (fa rfl)
  ·cases he
theorem QFC{x:Operand}{x':aX}{s i n:Nat}{fs:Array Field}{f:Field}(ho:o.op = .fieldAddr s x i)(hs:C.P.underlying s=some (.struct fs))(hf:fs[i]? = some f)(hn:cA C.P f.type=some n)(hn0:n≠0)
  {t:TypeId} (hx:cO C.P t x=some x') (he:Qw Γ (aX.ev σ.t) σ.h b (.kl x' f.offset)=some e) :
  o.wp C.P a w (λa' w'=>cz C U' (σ.app o.dst e) a' w') Q:=by
 have h1:=Zs S hx;have cp:∀(bk of:Nat),a.eval x = .pointer (some ⟨bk,of,Option.none⟩)->(execOp a.eval o).run C.P w = .ok (.value (.pointer (some ⟨bk,of+f.offset,Option.none⟩))) w:=by
  intro bk of cu;simp[execOp,ho,cu,Instr.fieldAt,run_underlying hs,hf,Instr.sureAddr,fieldPlace,mK hn,hn0,YO]
 simp only[Qw]at he
 split at he
 ·rename_i id k j hv
  split at he
  ·rename_i dO
   cases he;rw[hv]at h1;generalize cu:a.eval x=av at h1
   cases h1 with
   | cS v _ _ _ _ eP=>rw[eP]at dO;simp[aR.alive]at dO
   | p _ _ _ bk hi hn dU =>
    refine Zh S hd bN (cp _ _ cu) ?_;rw[Nat.add_assoc];exact .p id k (j+f.offset) bk hi hn dU
  ·cases he
 ·rename_i cs j hv
  cases he;rw[hv]at h1;generalize cu:a.eval x=av at h1
  cases h1 with
  | q bk o' _ _ xv hb hc hr =>
   refine Zh S hd bN (cp _ _ cu) ?_;rw[Nat.add_assoc];exact .q bk o' (j+f.offset) cs xv hb hc hr
 ·rename_i cs j id g p i hv
  split at he
  ·rename_i hg
   cases he;rw[hv]at h1;obtain⟨bk,o',cur,e0,cu,hk,hb,hc⟩:=h1.pQ hg;refine Zh S hd bN (cp _ _ cu) ?_;rw[Nat.add_assoc];exact .oc hg hk hb hc
  ·cases he
 ·cases he
theorem QO1{x i:Operand}{x' i':aX}{t e' sz:Nat}(ho:o.op = .indexAddr t x i)(ht:fV C.P t=some e')(bV:cA C.P e'=some sz){t1 t2:TypeId}
  (hx:cO C.P t1 x=some x') (hi:cO C.P t2 i=some i') (he:Qw Γ (aX.ev σ.t) σ.h b (.js x' i' sz)=some e) :
  o.wp C.P a w (λa' w'=>cz C U' (σ.app o.dst e) a' w') Q:=by
 have h1:=Zs S hx;have h2:=Zs S hi;simp only[Qw]at he
 split at he
 rotate_left
 ·cases he
 rename_i n hn;obtain⟨k,hk⟩:=DP h2 hn
 split at he
 rotate_left
 ·cases he
 rename_i h0;have cp:∀(bk of len cap:Nat),a.eval x = .slice (some ⟨bk,of,Option.none⟩) len cap->n.toNat<len->(execOp a.eval o).run C.P w = .ok (.value (.pointer (some ⟨bk,of+n.toNat*sz,Option.none⟩))) w:=by
  intro bk of len cap cu aW;have pX:n<(len:Int):=by omega
  simp[execOp,ho,cu,hk,Instr.indexAt,asIntOf,run_underlying (JR ht),h0,pX,mK bV,YO]
 split at he
 ·rename_i bc es hv
  split at he
  rotate_left
  ·cases he
  rename_i hs;subst hs
  split at he
  rotate_left
  ·cases he
  rename_i el cT
  cases he;rw[hv]at h1;generalize cu:a.eval x=av at h1
  cases h1 with
  | c v d hr =>
   cases hr with
   | nil=>simp at cT
   | emp=>simp at cT
   | sl bk of len cap _ _ xv hlen cj cW dP hb hc hr =>
    have aW:n.toNat<len:=by rw[<- hlen];exact(List.getElem?_eq_some_iff.1 cT).1
    refine Zh S hd bN (cp _ _ _ _ cu aW) ?_;have:=VR.q (w:=w) (F:=Fz C w ι σ.h) (ι:=ι) (h:=σ.h) bk (of+n.toNat*bc) 0 el (λk=>xv n.toNat k) (hb (λh0=>by rw[h0]at cT;simp at cT)) (λk d hk=>hc n.toNat k el d cT hk) (λk d hk=>hr n.toNat k el d cT hk);simpa using this
 ·rename_i bc id off len hv
  split at he
  rotate_left
  ·cases he
  rename_i hs;obtain⟨rfl,aW,dO⟩:=hs
  cases he;rw[hv]at h1;generalize cu:a.eval x=av at h1
  cases h1 with
  | cy v _ _ _ _ _ eP=>rw[eP]at dO;simp[aR.alive]at dO
  | cL=>omega
  | de=>omega
  | r _ _ _ bk ao cap et _ m es hi hh hlen cj jk cX =>
   refine Zh S hd bN (cp _ _ _ _ cu aW) ?_;have:=VR.p (w:=w) (F:=Fz C w ι σ.h) (ι:=ι) (h:=σ.h) id (off+n.toNat) 0 bk hi (by rw[hh];simp) (by rw[hh];simp);rw[hh]at this;simp only[aR.sz,Nat.add_zero,Nat.add_mul]at this;rw[jk (by omega),Nat.add_assoc];exact this
 ·rename_i bc es id g p hv
  split at he
  rotate_left
  ·cases he
  rename_i hs;obtain⟨rfl,hg⟩:=hs
  split at he
  rotate_left
  ·cases he
  rename_i el cT
  cases he;rw[hv]at h1;obtain⟨hr,_⟩:=h1.y9 hg;generalize cu:a.eval x=av at hr
  cases hr with
  | nil=>simp at cT
  | emp=>simp at cT
  | sl _ bk of len cap _ _ cur e0 xv hz dM hlen cj cW dP hk hb hle hc hr =>
   have aW:n.toNat<len:=by rw[<- hlen];exact(List.getElem?_eq_some_iff.1 cT).1
   refine Zh S hd bN (cp _ _ _ _ cu aW) ?_;have:=VR.oc (F:=Fz C w ι σ.h) (cs:=el) (j:=0) (i:=n.toNat) (o:=of+n.toNat*bc) hg hk hb (λk d zb=>⟨xv n.toNat k,hc n.toNat k el d cT zb,hr n.toNat k el d cT zb⟩);simpa using this
 ·cases he
end
end Go.Proofs.YtdplaepmjogjjaaGreat.Am
namespace Go.Proofs.YtdplaepmjogjjaaGreat.Am
open Go Go.RowKit
theorem OC{w:World}{F:Nat->Prop}{ι:Io}{h:Nat->aR}{agg:Bool}{n:Nat}{vs:List Value}{l:List AV}{x:AV}(fq:agg=false->n=1)
  (hl:vs.length=n) (fP:l.length=n) (h1:∀(k:Nat)(v:Value),vs[k]? = some v->v.oneCell'=true)
  (hv:∀(k:Nat)(v:Value)(y:AV),vs[k]? = some v->l[k]? = some y->VR w F ι h v y) (hp:JL agg l=some x) :
  VR w F ι h (if agg then .agg vs.toArray else vs.headD undef) x:=by
 unfold JL at hp
 cases agg with
 | true =>
  simp at hp;subst hp;exact .a _ _ (by simp[hl,fP]) (λk v hk=>h1 k v (by simpa using hk)) (λk v y hk hy=>hv k v y (by simpa using hk) hy)
 | false =>
  have:=fq rfl;subst this
  match l,fP with
  | [y],_ =>
   simp at hp;subst hp
   match vs,hl with
   | [v],_=>exact hv 0 v y rfl rfl
theorem QL0{P:Program}{w:World}{t:TypeId}{agg:Bool}{n:Nat}(eQ:JK P t=some agg)(hn:agg=true->cA P t=some n)(fq:agg=false->n=1)
  {bk o:Nat} {vs:List Value} (hl:vs.length=n) (hc:∀ k v,vs[k]? = some v->w.cell? ⟨bk,o+k,Option.none⟩=some v) :
  (Instr.loadAt t (.pointer (some ⟨bk,o,Option.none⟩))).run P w = .ok (if agg then .agg vs.toArray else vs.headD undef) w:=by
 cases agg with
 | true =>
  have h:=run_loadCells_list (P:=P) w ⟨bk,o,Option.none⟩ vs (λj v hj=>by rw[YO];exact hc j v hj);rw[hl]at h;simp[Instr.loadAt,Instr.sureAddr,loadVar,s4 eQ,mK (hn rfl),h]
 | false =>
  have:=fq rfl;subst this
  match vs,hl with
  | [v],_ =>
   have h0:=hc 0 v rfl;simp only[Nat.add_zero]at h0;simp[Instr.loadAt,Instr.sureAddr,loadVar,s4 eQ,h0]
theorem QWI{P:Program}{w:World}{t:TypeId}{agg:Bool}{n:Nat}(eQ:JK P t=some agg)(hn:agg=true->cA P t=some n)(fq:agg=false->n=1)
  {bk o:Nat} {vs:List Value} (hl:vs.length=n) (hc:∀ k v,vs[k]? = some v->w.cell? ⟨bk,o+k,Option.none⟩=some v) :
  (loadVar t ⟨bk,o,Option.none⟩).run P w = .ok (if agg then .agg vs.toArray else vs.headD undef) w:=by
 cases agg with
 | true =>
  have h:=run_loadCells_list (P:=P) w ⟨bk,o,Option.none⟩ vs (λj v hj=>by rw[YO];exact hc j v hj);rw[hl]at h;simp[loadVar,s4 eQ,mK (hn rfl),h]
 | false =>
  have:=fq rfl;subst this
  match vs,hl with
  | [v],_ =>
   have h0:=hc 0 v rfl;simp only[Nat.add_zero]at h0;simp[loadVar,s4 eQ,h0]
theorem OD{id g i:Nat}:∀ {l:List D} {j k:Nat} {y:AV} {d:D},(cd id g i j l)[k]? = some y->l[k]? = some d->y=match d with | .v x=>.c (.v x) | d=>.b d id g [(i,j+k)]
 | [],j,k,y,d,h,h'=>by simp at h'
 | x::l,j,0,y,d,h,h'=>by
  simp only[cd,List.getElem?_cons_zero,Option.some.injEq]at h h';subst h';rw[<- h];rfl
 | x::l,j,k+1,y,d,h,h'=>by
  simp only[cd,List.getElem?_cons_succ]at h h';rw[OD h h',Nat.add_assoc,Nat.add_comm 1 k]
theorem OE{id g i:Nat}:∀ {l:List D} {j:Nat},(cd id g i j l).length=l.length
 | [],j=>rfl
 | x::l,j=>by simp[cd,OE (l:=l)]
theorem OG{m:Mo}{id i j:Nat}{l:List D}:(cZ m id i j l).length=l.length:=by
 cases m <;> simp[cZ,OE]
theorem OH{id g i:Nat}{p:cD}:∀ {l:List D} {j k:Nat} {y:AV} {d:D},(bQ id g p i j l)[k]? = some y->l[k]? = some d->y=match d with | .v x=>.c (.v x) | d=>.b d id g (p++[(i,j+k)])
 | [],j,k,y,d,h,h'=>by simp at h'
 | x::l,j,0,y,d,h,h'=>by
  simp only[bQ,List.getElem?_cons_zero,Option.some.injEq]at h h';subst h';rw[<- h];rfl
 | x::l,j,k+1,y,d,h,h'=>by
  simp only[bQ,List.getElem?_cons_succ]at h h';rw[OH h h',Nat.add_assoc,Nat.add_comm 1 k]
theorem DQ{id g i:Nat}{p:cD}:∀ {l:List D} {j:Nat},(bQ id g p i j l).length=l.length
 | [],j=>rfl
 | x::l,j=>by simp[bQ,DQ (l:=l)]
theorem QSK{w:World}{F:Nat->Prop}{ι:Io}{h:Nat->aR}{id bk i j k sz:Nat}{e e0:TypeId}{m:Mo}{es:List (List D)}{cur:Array Value}{l:List D}{y:AV}{v:Value}{d:D}(hh:h id = .sl e sz m es)(hf:m.full=true)(hi:ι id=some bk)
  (hb:w.heap[bk]? = some (.cells cur e0 (0,0))) (hy:(cZ m id i j l)[k]? = some y) (hd:l[k]? = some d) (hv:cur[ι.o id+i*sz+(j+k)]? = some v) (hr:RM w F ι id m i (j+k) v d):VR w F ι h v y:=by
 have s6:∀(hr:Rd w F v d)(hy:(l.map AV.c)[k]? = some y),VR w F ι h v y:=by
  intro hr hy;rw[List.getElem?_map,hd]at hy
  cases hy;exact .c _ _ hr
 cases m with
 | fz=>exact s6 hr hy
 | ow=>exact s6 hr hy
 | dp g t H =>
  cases H with
  | cons=>simp[Mo.full]at hf
  | nil =>
   have ju:=hr.2 (by simp);have:=OD hy hd;subst this
   cases d with
   | v x=>cases ju with | v _ _ h1=>exact .c _ _ (.v _ h1)
   | sl bc bP =>
    refine .uZ hh rfl ju (λi' j' hp=>?_);simp only[List.cons.injEq,Prod.mk.injEq,and_true]at hp;obtain⟨rfl,rfl⟩:=hp;exact⟨bk,cur,e0,hi,hb,hv⟩
theorem QOD{w:World}{F:Nat->Prop}{ι:Io}{h:Nat->aR}{id g i j k:Nat}{p:cD}{l:List D}{y:AV}{v:Value}{d:D}(iM:(h id).dn=some g)(hp:p≠[])
  (hy:(bQ id g p i j l)[k]? = some y) (hd:l[k]? = some d) (hr:RL w ι.k id (p++[(i,j+k)]) v d):VR w F ι h v y:=by
 have hg:=aR.eA iM;have:=OH hy hd;subst this
 cases d with
 | v x=>cases hr with | v _ _ h1=>exact .c _ _ (.v _ h1)
 | sl bc bP =>
  cases hx:h id with
  | sl e sz m es =>
   rw[hx]at hg;refine .uZ hx hg hr (λi' j' hq=>?_)
   cases p with
   | nil=>exact absurd rfl hp
   | cons a r=>simp at hq
  | _=>rw[hx]at hg;cases hg
section
variable {C:Ctx} {U U':Nat->Prop} {σ:St} {a:Act} {w:World} {ι:Io} {o:Oper} {Q:Exit->Act->World->Prop} {Γ:ez} {b:Nat} {e:fi}
theorem pY{w:World}{bk k:Nat}{cur:Array Value}{et:TypeId}{fr:Nat × Nat}{v:Value}(hb:w.heap[bk]? = some (.cells cur et fr))(hv:cur[k]? = some v):w.cell? ⟨bk,k,Option.none⟩=some v:=by
 simp[World.cell?,hb,hv]
theorem OI(S:Sat C U σ a w ι){x:Operand}{av:Value}(cu:a.eval x=av){x':aX}{t n:Nat}{agg:Bool}{t1:TypeId}(hx:cO C.P t1 x=some x')(eQ:JK C.P t=some agg)(hn:agg=true->cA C.P t=some n)(fq:agg=false->n=1)
  (he:Qw Γ (aX.ev σ.t) σ.h b (.load x' n agg)=some e) :
  ∃ v x1,e=⟨x1,[]⟩/\VR w (Fz C w ι σ.h) ι σ.h v x1/\(Instr.loadAt t av).run C.P w = .ok v w/\∃ ad,av = .pointer (some ad)/\(loadVar t ad).run C.P w = .ok v w:=by
 have h1:=Zs S hx;have fin:∀(bk of:Nat)(vs:List Value)(l:List AV)(v:AV),a.eval x = .pointer (some ⟨bk,of,Option.none⟩)->vs.length=n->l.length=n->
   (∀(k:Nat)(v:Value),vs[k]? = some v->w.cell? ⟨bk,of+k,Option.none⟩=some v)->(∀(k:Nat)(v:Value),vs[k]? = some v->v.oneCell'=true)->
   (∀(k:Nat)(v:Value)(y:AV),vs[k]? = some v->l[k]? = some y->VR w (Fz C w ι σ.h) ι σ.h v y)->JL agg l=some v->
   ∃ v' x1,(⟨v,[]⟩:fi)=⟨x1,[]⟩/\VR w (Fz C w ι σ.h) ι σ.h v' x1/\(Instr.loadAt t av).run C.P w = .ok v' w/\∃ ad,av = .pointer (some ad)/\(loadVar t ad).run C.P w = .ok v' w:=by
  intro bk of vs l v k7 hl fP hc h1 hv hp;rw[cu]at k7;refine⟨_,v,rfl,OC fq hl fP h1 hv hp,by rw[k7];exact QL0 eQ hn fq hl hc,_,k7,QWI eQ hn fq hl hc⟩
 simp only[Qw]at he
 split at he
 ·rename_i id i j hv;have dq:=S.fh id
  split at he
  ·rename_i cs hh
   split at he
   rotate_left
   ·cases he
   rename_i hi0;subst hi0
   split at he
   rotate_left
   ·cases he
   rename_i l hl
   split at he
   rotate_left
   ·cases he
   rename_i v hp
   cases he;rw[hv]at h1;rw[cu]at h1
   cases h1 with
   | cS v _ _ _ _ eP=>rw[eP]at hh;cases hh
   | p _ _ _ bk hi mb dU =>
    rw[hh]at dq
    cases dq with
    | box mc et bm _ bY eR hb hlen h1 dR =>
     rw[hi]at bY
     cases bY;rw[eR,Nat.zero_add]at cu;obtain⟨c1,c2⟩:=u5 hl;obtain⟨c3,_⟩:=s5 hl;rw[hh]at cu;simp only[aR.sz,Nat.mul_zero,Nat.zero_add]at cu;have eJ:∀ k:Nat,k<n->((bm.toList.drop j).take n)[k]? = bm[j+k]?:=λk hk=>by rw[List.getElem?_take,if_pos hk,List.getElem?_drop];simp
     have k9:((bm.toList.drop j).take n).length=n:=by simp;omega
     have ey:∀(k:Nat)(v:Value),((bm.toList.drop j).take n)[k]? = some v->k<n/\bm[j+k]? = some v:=by
      intro k v hk;have:k<n:=by rw[<- k9];exact(List.getElem?_eq_some_iff.1 hk).1
      rw[eJ k this]at hk;exact⟨this,hk⟩
     refine fin bk j ((bm.toList.drop j).take n) l v cu k9 c1 (λk v hk=>?_) (λk v hk=>h1 _ v (ey k v hk).2) (λk v y hk hy=>?_) hp
     ·exact pY hb (ey k v hk).2
     ·rw[c2 k (ey k v hk).1]at hy;exact dR _ v y (ey k v hk).2 hy
  ·rename_i et sz m es hh
   split at he
   rotate_left
   ·cases he
   rename_i dV
   split at he
   rotate_left
   ·cases he
   rename_i el cT
   split at he
   rotate_left
   ·cases he
   rename_i l hl
   split at he
   rotate_left
   ·cases he
   rename_i v hp
   cases he;rw[hv]at h1;rw[cu]at h1
   cases h1 with
   | cS v _ _ _ _ eP=>rw[eP]at hh;cases hh
   | p _ _ _ bk hi mb dU =>
    rw[hh]at dq
    cases dq with
    | slnil=>simp at cT
    | sl mc _ e0 _ _ _ cur hz bY hb eN hle cW bV dR =>
     rw[hi]at bY
     cases bY;obtain⟨c1,c2⟩:=u5 hl;obtain⟨c3,_⟩:=s5 hl;have jv:i<es.length:=(List.getElem?_eq_some_iff.1 cT).1;have mL:el.length=sz:=bV el (List.mem_of_getElem? cT);rw[hh]at cu;simp only[aR.sz]at cu;have oe:ι.o id+i*sz+j+n<=cur.size:=by
      have:(i+1)*sz<=es.length*sz:=Nat.mul_le_mul_right _ (by omega);rw[Nat.add_mul]at this;omega
     have eJ:∀ k:Nat,k<n->((cur.toList.drop (ι.o id+i*sz+j)).take n)[k]? = cur[ι.o id+i*sz+j+k]?:=λk hk=>by rw[List.getElem?_take,if_pos hk,List.getElem?_drop];simp
     have k9:((cur.toList.drop (ι.o id+i*sz+j)).take n).length=n:=by simp;omega
     have ey:∀(k:Nat)(v:Value),((cur.toList.drop (ι.o id+i*sz+j)).take n)[k]? = some v->k<n/\cur[ι.o id+i*sz+j+k]? = some v:=by
      intro k v hk;have:k<n:=by rw[<- k9];exact(List.getElem?_eq_some_iff.1 hk).1
      rw[eJ k this]at hk;exact⟨this,hk⟩
     have mM:∀(k:Nat)(v:Value),((cur.toList.drop (ι.o id+i*sz+j)).take n)[k]? = some v->∃ d,l[k]? = some d/\RM w (Fz C w ι σ.h) ι id m i (j+k) v d:=by
      intro k v hk;obtain⟨jw,pZ⟩:=ey k v hk;have DS:k<l.length:=by omega
      have mN:=c2 k jw;rw[List.getElem?_eq_getElem DS]at mN;obtain⟨v',h3,h4⟩:=dR i (j+k) el _ cT mN.symm;rw[show ι.o id+i*sz+(j+k)=ι.o id+i*sz+j+k by omega,pZ]at h3
      cases h3;exact⟨l[k],by simp,h4⟩
     refine fin bk (ι.o id+i*sz+j) ((cur.toList.drop (ι.o id+i*sz+j)).take n) (cZ m id i j l) v cu k9 (by rw[OG];exact c1) (λk v hk=>?_) (λk v hk=>?_) (λk v y hk hy=>?_) hp
     ·exact pY hb (ey k v hk).2
     ·obtain⟨d,_,h⟩:=mM k v hk;exact h.one
     ·obtain⟨d,h5,h6⟩:=mM k v hk;exact QSK hh dV hi hb hy h5 (by rw[show ι.o id+i*sz+(j+k)=ι.o id+i*sz+j+k by omega];exact(ey k v hk).2) h6
  ·cases he
 ·rename_i cs j id g p i hv
  split at he
  rotate_left
  ·cases he
  rename_i hg
  split at he
  rotate_left
  ·cases he
  rename_i l hl
  split at he
  rotate_left
  ·cases he
  rename_i v hp
  cases he;rw[hv]at h1;obtain⟨bk,o',cur,e0,k7,hk,hb,hc⟩:=h1.pQ hg;obtain⟨c1,c2⟩:=u5 hl;obtain⟨c3,_⟩:=s5 hl;have p4:∀ k:Nat,k<n->∃ d x,l[k]? = some d/\cur[o'+(j+k)]? = some x/\RL w ι.k id (p++[(i,j+k)]) x d:=by
   intro k jw;have DS:k<l.length:=by omega
   have mN:=c2 k jw;rw[List.getElem?_eq_getElem DS]at mN;obtain⟨x,h2,h3⟩:=hc (j+k) _ mN.symm;exact⟨l[k],x,by simp,h2,h3⟩
  have gH:p≠[]:=(S.df bk id p hk).pn;have ey:∀(k:Nat)(v:Value),((List.range n).map λk=>cur.getD (o'+(j+k)) undef)[k]? = some v->k<n/\v=cur.getD (o'+(j+k)) undef:=by
   intro k v hk;rw[List.getElem?_map]at hk;by_cases jw:k<n
   ·rw[List.getElem?_range jw]at hk;simp at hk;exact⟨jw,by rw[<- hk];simp⟩
   ·rw[List.getElem?_eq_none (by simp;omega)]at hk;simp at hk
  refine fin bk (o'+j) ((List.range n).map λk=>cur.getD (o'+(j+k)) undef) (bQ id g p i j l) v k7 (by simp) (by rw[DQ];exact c1) (λk v hk=>?_) (λk v hk=>?_) (λk v y hk hy=>?_) hp
  ·obtain⟨h2,rfl⟩:=ey k v hk;obtain⟨d,x,h3,h4,h5⟩:=p4 k h2;have:cur.getD (o'+(j+k)) undef=x:=by simp[Array.getD_eq_getD_getElem?,h4]
   rw[this];exact pY hb (by rw[Nat.add_assoc];exact h4)
  ·obtain⟨h2,rfl⟩:=ey k v hk;obtain⟨d,x,h3,h4,h5⟩:=p4 k h2;have:cur.getD (o'+(j+k)) undef=x:=by simp[Array.getD_eq_getD_getElem?,h4]
   rw[this];exact h5.one
  ·obtain⟨h2,rfl⟩:=ey k v hk;obtain⟨d,x,h3,h4,h5⟩:=p4 k h2;have:cur.getD (o'+(j+k)) undef=x:=by simp[Array.getD_eq_getD_getElem?,h4]
   rw[this];exact QOD hg gH hy h3 h5
 ·rename_i cs j hv
  split at he
  rotate_left
  ·cases he
  rename_i l hl
  split at he
  rotate_left
  ·cases he
  rename_i v hp
  cases he;rw[hv]at h1;rw[cu]at h1
  cases h1 with
  | q bk o' _ _ xv hb hc hr =>
   obtain⟨c1,c2⟩:=u5 hl;obtain⟨c3,_⟩:=s5 hl;have ey:∀(k:Nat)(v:Value),((List.range n).map λk=>xv (j+k))[k]? = some v->k<n/\v=xv (j+k):=by
    intro k v hk;rw[List.getElem?_map]at hk;by_cases jw:k<n
    ·rw[List.getElem?_range jw]at hk;simp at hk;exact⟨jw,hk.symm⟩
    ·rw[List.getElem?_eq_none (by simp;omega)]at hk;simp at hk
   have mN:∀ k:Nat,k<n->∃ d,cs[j+k]? = some d/\l[k]? = some d:=by
    intro k hk;have:k<l.length:=by omega
    exact⟨l[k],by rw[<- c2 k hk];simp,by simp⟩
   refine fin bk (o'+j) ((List.range n).map λk=>xv (j+k)) (l.map .c) v cu (by simp) (by simpa using c1) (λk v hk=>?_) (λk v hk=>?_) (λk v y hk hy=>?_) hp
   ·obtain⟨h2,rfl⟩:=ey k v hk;obtain⟨d,h3,_⟩:=mN k h2;rw[Nat.add_assoc];exact hc (j+k) d h3
   ·obtain⟨h2,rfl⟩:=ey k v hk;obtain⟨d,h3,_⟩:=mN k h2;exact(hr (j+k) d h3).one
   ·obtain⟨h2,rfl⟩:=ey k v hk;obtain⟨d,h3,h4⟩:=mN k h2;simp[h4]at hy;subst hy;exact .c _ _ (hr (j+k) d h3)
 ·cases he
variable (S:Sat C U σ a w ι) (hd:∀ d,o.dst=some d->d<C.N) (bN:∀ i,U' i->U i)
include S hd bN
theorem QRL{x:Operand}{x':aX}{t n:Nat}{agg:Bool}{t1:TypeId}(ho:o.op = .load t x)(hx:cO C.P t1 x=some x')(eQ:JK C.P t=some agg)(hn:agg=true->cA C.P t=some n)(fq:agg=false->n=1)
  (he:Qw Γ (aX.ev σ.t) σ.h b (.load x' n agg)=some e) :
  o.wp C.P a w (λa' w'=>cz C U' (σ.app o.dst e) a' w') Q:=by
 obtain⟨v,x1,rfl,hv,hr,_⟩:=OI S rfl hx eQ hn fq he;refine Zh S hd bN ?_ hv;simp only[execOp,ho,Sem.run_bind,hr,Result.andThen_ok,Sem.run_pure]
theorem QWq{x:Operand}{x':aX}{t i n:Nat}{agg:Bool}{fs:Array Field}{f:Field}{t1:TypeId}(ho:o.op = .field t x i)(ht:C.P.underlying t=some (.struct fs))(hf:fs[i]? = some f)
  (eQ:JK C.P f.type=some agg) (hn:agg=true->cA C.P f.type=some n) (fq:agg=false->n=1) (hx:cO C.P t1 x=some x')
  (he:Qw Γ (aX.ev σ.t) σ.h b (.kS x' f.offset n agg)=some e) :
  o.wp C.P a w (λa' w'=>cz C U' (σ.app o.dst e) a' w') Q:=by
 have h1:=Zs S hx;simp only[Qw]at he
 split at he
 rotate_left
 ·cases he
 rename_i cs hv
 split at he
 rotate_left
 ·cases he
 rename_i l hl
 split at he
 rotate_left
 ·cases he
 rename_i v hp
 cases he;rw[hv]at h1;generalize cu:a.eval x=av at h1
 cases h1 with
 | a vs _ fP h1 dR =>
  obtain⟨c1,c2⟩:=u5 hl;obtain⟨c3,_⟩:=s5 hl;have eJ:∀ k:Nat,k<n->((vs.toList.drop f.offset).take n)[k]? = vs[f.offset+k]?:=λk hk=>by rw[List.getElem?_take,if_pos hk,List.getElem?_drop];simp
  have k9:((vs.toList.drop f.offset).take n).length=n:=by simp;omega
  have ey:∀(k:Nat)(v:Value),((vs.toList.drop f.offset).take n)[k]? = some v->k<n/\vs[f.offset+k]? = some v:=by
   intro k v hk;have:k<n:=by rw[<- k9];exact(List.getElem?_eq_some_iff.1 hk).1
   rw[eJ k this]at hk;exact⟨this,hk⟩
  refine Zh S hd bN ?_ (OC fq k9 c1 (λk v hk=>h1 _ v (ey k v hk).2) (λk v y hk hy=>?_) hp)
  ·cases agg with
   | true =>
    have DT:vs.extract f.offset (f.offset+n)=((vs.toList.drop f.offset).take n).toArray:=by
     apply Array.ext';simp[Array.toList_extract,List.extract]
    simp[execOp,ho,cu,Instr.field,run_underlying ht,hf,asAgg,part,s4 eQ,mK (hn rfl),DT]
   | false =>
    have:=fq rfl;subst this;have aW:f.offset<vs.size:=by omega
    have h0:vs[f.offset]? = some vs[f.offset]:=Array.getElem?_eq_getElem aW;have h2:((vs.toList.drop f.offset).take 1).headD undef=vs[f.offset]:=by
     have:=eJ 0 (by omega);simp only[Nat.add_zero,h0]at this;rw[List.headD_eq_head?_getD,List.head?_eq_getElem?,this];rfl
    simp[execOp,ho,cu,Instr.field,run_underlying ht,hf,asAgg,part,s4 eQ,h0];simpa using h2.symm
  ·rw[c2 k (ey k v hk).1]at hy;exact dR _ v y (ey k v hk).2 hy
theorem QT0{x:Operand}{x':aX}{lo hi:Option Operand}{zc bY:Option aX}{t e' sz:Nat}{t1:TypeId}(ho:o.op = .slice t x lo hi none)(ht:fV C.P t=some e')(bV:cA C.P e'=some sz)(hz:0<sz)
  (hx:cO C.P t1 x=some x') (g8:sV C.P lo=some zc) (jx:sV C.P hi=some bY)
  (he:Qw Γ (aX.ev σ.t) σ.h b (.fB x' zc bY sz)=some e) :
  o.wp C.P a w (λa' w'=>cz C U' (σ.app o.dst e) a' w') Q:=by
 have h1:=Zs S hx;have hL:∀(y:Option Operand)(y':Option aX)(n m:Int),sV C.P y=some y'->Yg (aX.ev σ.t) m y'=some n->∃ v:Option Value,y.map a.eval=v/\(v=none/\n=m\/∃ k,v=some (.int k n)):=by
  intro y y' n m hy hn
  cases y with
  | none=>simp[sV]at hy;subst hy;simp[Yg]at hn;exact⟨none,rfl,.inl ⟨rfl,hn.symm⟩⟩
  | some l =>
   obtain⟨l',h2,h3⟩:=Option.map_eq_some_iff.1 hy;subst h3;obtain⟨k,hk⟩:=DP (Zs S h2) hn;exact⟨_,rfl,.inr ⟨k,by simp[hk]⟩⟩
 have bounds:∀(len cap:Nat)(l h:Int)(vl vh:Option Value),(vl=none/\l=0\/∃ k,vl=some (.int k l))->(vh=none/\h=(len:Int)\/∃ k,vh=some (.int k h))->0<=l->l<=h->h<=len->len<=cap->
   (Instr.sliceBounds true len cap vl vh none).run C.P w = .ok (l.toNat,h.toNat,cap) w:=by
  intro len cap l h vl vh h1 h2 h3 h4 h5 h6;have h7:h<=(cap:Int):=by omega
  have h8:0<=h:=by omega
  have h9:max h 0=h:=by omega
  rcases h1 with⟨rfl,rfl⟩ | ⟨k1,rfl⟩ <;> rcases h2 with⟨rfl,rfl⟩ | ⟨k2,rfl⟩ <;> simp[Instr.sliceBounds,Instr.sliceBound,asIntOf, *]
 have cp:∀(ad:Option Addr)(len cap:Nat)(l h:Int) ,a.eval x = .slice ad len cap->((∃ v:Option Value,lo.map a.eval=v/\(v=none/\l=0\/∃ k,v=some (.int k l))))->(∃ v:Option Value,hi.map a.eval=v/\(v=none/\h=(len:Int)\/∃ k,v=some (.int k h)))->
   0<=l->l<=h->h<=len->len<=cap->(execOp a.eval o).run C.P w = .ok (.value (.slice (if cap=l.toNat then ad else ad.map (·.add (l.toNat*sz))) (h.toNat-l.toNat) (cap-l.toNat))) w:=by
  intro ad len cap l h cu hl hh h3 h4 h5 h6;obtain⟨vl,e1,hl⟩:=hl;obtain⟨vh,e2,hh⟩:=hh;simp[execOp,ho,cu,Instr.sliceAt,Instr.slice,run_underlying (JR ht),e1,e2,bounds len cap l h vl vh hl hh h3 h4 h5 h6,mK bV]
 simp only[Qw]at he
 split at he
 rotate_left
 ·cases he
 rename_i l hl;have fP:=hL lo zc l 0 g8 hl
 split at he
 ·rename_i bc es hv
  split at he
  rotate_left
  ·cases he
  rename_i h hh;have b9:=hL hi bY h es.length jx hh
  split at he
  rotate_left
  ·cases he
  rename_i hc;obtain⟨rfl,h3,h4,h5⟩:=hc
  cases he;rw[hv]at h1;generalize cu:a.eval x=av at h1
  cases h1 with
  | c v d hr =>
   cases hr with
   | nil =>
    have:l=0:=by simp at h5;omega
    have:h=0:=by simp at h5;omega
    subst_vars
    refine Zh S hd bN (cp _ _ _ 0 0 cu fP b9 (by omega) (by omega) (by simp) (by omega)) ?_;simpa using VR.c (w:=w) (F:=Fz C w ι σ.h) (ι:=ι) (h:=σ.h) _ _ (Rd.nil bc)
   | emp ad cap =>
    have:l=0:=by simp at h5;omega
    have:h=0:=by simp at h5;omega
    subst_vars
    refine Zh S hd bN (cp _ _ _ 0 0 cu fP b9 (by omega) (by omega) (by simp) (by omega)) ?_;have e:(if cap=Int.toNat 0 then some ad else(some ad).map (·.add (Int.toNat 0*bc)))=some ad:=by
     split
     ·rfl
     ·simp[Addr.add]
    rw[e];simpa using VR.c (w:=w) (F:=Fz C w ι σ.h) (ι:=ι) (h:=σ.h) _ _ (Rd.emp ad cap bc)
   | sl bk of len cap _ _ xv hlen cj cW dP hb hc hr =>
    subst hlen;refine Zh S hd bN (cp _ _ _ l h cu fP b9 h3 h4 h5 cj) ?_;have kq:((es.drop l.toNat).take (h.toNat-l.toNat)).length=h.toNat-l.toNat:=by simp;omega
    have la:∀(i:Nat)(el:List D),((es.drop l.toNat).take (h.toNat-l.toNat))[i]? = some el->es[l.toNat+i]? = some el:=by
     intro i el cT;have hi:=(List.getElem?_eq_some_iff.1 cT).1;rw[List.getElem?_take,if_pos (by omega),List.getElem?_drop]at cT;exact cT
    by_cases ld:cap=l.toNat
    ·rw[if_pos ld];refine .c _ _ (.sl bk of _ _ bc _ (λi j=>xv (l.toNat+i) j) kq (by omega) (by omega) (λe he=>dP e (List.mem_of_mem_drop (List.mem_of_mem_take he))) (λhn=>hb (λh0=>hn (by rw[h0];simp))) (λi j el d h8 h9=>?_) (λi j el d h8 h9=>hr _ j el d (la i el h8) h9));have:=(List.getElem?_eq_some_iff.1 h8).1;omega
    ·rw[if_neg ld];simp only[Option.map_some,YO];refine .c _ _ (.sl bk _ _ _ bc _ (λi j=>xv (l.toNat+i) j) kq (by omega) (by omega) (λe he=>dP e (List.mem_of_mem_drop (List.mem_of_mem_take he))) (λhn=>hb (λh0=>hn (by rw[h0];simp))) (λi j el d h8 h9=>?_) (λi j el d h8 h9=>hr _ j el d (la i el h8) h9));rw[show of+l.toNat*bc+i*bc+j=of+(l.toNat+i)*bc+j by rw[Nat.add_mul];omega];exact hc _ j el d (la i el h8) h9
 ·rename_i bc id off len hv
  split at he
  rotate_left
  ·cases he
  rename_i h hh;have b9:=hL hi bY h len jx hh
  split at he
  rotate_left
  ·cases he
  rename_i hc;obtain⟨rfl,h3,h4,h5,dO⟩:=hc
  cases he;rw[hv]at h1;generalize cu:a.eval x=av at h1
  cases h1 with
  | cy v _ _ _ _ _ eP=>rw[eP]at dO;simp[aR.alive]at dO
  | de ad u7 _ et _ m bY s7 htp =>
   have:l=0:=by omega
   have:h=0:=by omega
   subst_vars
   refine Zh S hd bN (cp _ _ _ 0 0 cu fP b9 (by omega) (by omega) (by simp) (by omega)) ?_;have e:(if u7=Int.toNat 0 then some ad else(some ad).map (·.add (Int.toNat 0*bc)))=some ad:=by
    split
    ·rfl
    ·simp[Addr.add]
   rw[e];simpa using VR.de (w:=w) (F:=Fz C w ι σ.h) (ι:=ι) (h:=σ.h) ad u7 id et bc m bY s7 htp
  | cL _ et _ m bY s7 =>
   have:l=0:=by omega
   have:h=0:=by omega
   subst_vars
   refine Zh S hd bN (cp _ _ _ 0 0 cu fP b9 (by omega) (by omega) (by simp) (by omega)) ?_;simpa using VR.cL (w:=w) (F:=Fz C w ι σ.h) (ι:=ι) (h:=σ.h) id et bc m bY s7
  | r _ _ _ bk ao cap et _ m es bY s7 hlen cj jk cX =>
   refine Zh S hd bN (cp _ _ _ l h cu fP b9 h3 h4 h5 cj) ?_;by_cases ld:cap=l.toNat
   ·rw[if_pos ld];refine .r id (off+l.toNat) (h.toNat-l.toNat) bk ao (cap-l.toNat) et bc m es bY s7 (by omega) (by omega) (λdM=>by omega) (λht h0=>?_);have DU:off=0:=by omega
    have DV:l.toNat=0:=by omega
    rw[DV,Nat.sub_zero];exact cX ht DU
   ·rw[if_neg ld];simp only[Option.map_some,YO];refine .r id (off+l.toNat) (h.toNat-l.toNat) bk _ (cap-l.toNat) et bc m es bY s7 (by omega) (by omega) (λdM=>?_) (λht h0=>?_)
    ·rw[jk (by omega),Nat.add_mul,Nat.add_assoc]
    ·have DU:off=0:=by omega
     have DV:l.toNat=0:=by omega
     rw[DV,Nat.sub_zero,Nat.zero_mul,Nat.add_zero];exact cX ht DU
 ·rename_i bc hv
  split at he
  rotate_left
  ·cases he
  rename_i h hh;have b9:=hL hi bY h 0 jx hh
  split at he
  rotate_left
  ·cases he
  rename_i hc;obtain⟨rfl,rfl⟩:=hc
  cases he;rw[hv]at h1;generalize cu:a.eval x=av at h1
  cases h1 with
  | n =>
   refine Zh S hd bN (cp _ _ _ 0 0 cu fP b9 (by omega) (by omega) (by simp) (by omega)) ?_;simpa using VR.n (w:=w) (F:=Fz C w ι σ.h) (ι:=ι) (h:=σ.h) sz
 ·cases he
omit S hd bN in
theorem OJ{P:Program}{w:World}{d:Nat}{xs ys:Array Value}{l m:List Int}(hx:∀(i:Nat)(n:Int),l[i]? = some n->xs[i]? = some (.int .i64 n))(hy:∀(i:Nat)(n:Int),m[i]? = some n->ys[i]? = some (.int .i64 n))
  (DW:l.length=m.length):∀(fs:List Field)(k:Nat),za P fs k=true->k+fs.length=l.length->(Op.eqFields (d+1) xs ys fs).run P w = .ok (decide (l.drop k=m.drop k)) w
 | [],k,_,hk=>by
  simp at hk;rw[List.drop_of_length_le (by omega),List.drop_of_length_le (by omega)];simp[Op.eqFields]
 | f::fs,k,hp,hk=>by
  simp only[za,Bool.and_eq_true,bne_iff_ne,ne_eq,beq_iff_eq]at hp;obtain⟨⟨⟨⟨h1,h2⟩,h3⟩,h4⟩,h5⟩:=hp;simp at hk;have OK:k<l.length:=by omega
  have jU:k<m.length:=by omega
  have iU:=hx k l[k] (by simp[OK]);have u9:=hy k m[k] (by simp[jU])
  split at h4
  rotate_left
  ·cases h4
  rename_i kk hu;have eQ:∀ w:World,(isAgg f.type).run P w = .ok false w:=λw=>by simp[isAgg,run_underlying hu]
  have e1:(Op.equalIn (d+1) f.type (.int .i64 l[k]) (.int .i64 m[k])).run P w = .ok (l[k]==m[k]) w:=by simp[Op.equalIn,run_underlying hu]
  have hdk:(l.drop k=m.drop k)↔(l[k]=m[k]/\l.drop (k+1)=m.drop (k+1)):=by
   rw[List.drop_eq_getElem_cons OK,List.drop_eq_getElem_cons jU,List.cons.injEq]
  have ih:=OJ (P:=P) (w:=w) (d:=d) hx hy DW fs (k+1) h5 (by omega);rw[show decide (l.drop k=m.drop k)=decide (l[k]=m[k]/\l.drop (k+1)=m.drop (k+1)) from decide_eq_decide.2 hdk];by_cases heq:l[k]=m[k]
  ·rw[<- heq]at e1 u9;have hT:(l[k]=m[k])=True:=eq_true heq;simp[Op.eqFields,h1,part,eQ,h2,iU,u9,e1,hT,ih]
  ·simp[Op.eqFields,h1,part,eQ,h2,iU,u9,e1,heq]
omit S hd bN in
theorem DX{w:World}{F:Nat->Prop}{h:Nat->aR}:∀(cs:List AV)(l:List Int),od cs=some l->l.length=cs.length/\∀(i:Nat)(n:Int),l[i]? = some n->cs[i]? = some (.c (.v (.int .i64 n)))
 | [],l,hl=>by simp[od]at hl;subst hl;simp
 | c::cs,l,hl=>by
  unfold od at hl
  split at hl
  ·cases hl;rename_i heq;cases heq
  ·rename_i x r heq
   cases heq
   split at hl
   ·rename_i l' fP
    cases hl;obtain⟨h1,h2⟩:=DX (w:=w) (F:=F) (h:=h) _ _ fP;refine⟨by simp[h1],λi n hi=>?_⟩
    cases i with
    | zero=>simp at hi;subst hi;rfl
    | succ i=>simp at hi;exact h2 i n hi
   ·cases hl
  ·cases hl
theorem OL{n:Nat}{neg:Bool}{x y:Operand}{x' y':aX}{t ty:TypeId}(ho:o.op = .binOp (if neg then .neq else .eql) t x y ty)(ht:DK C.P t=some n){t1 t2:TypeId}(hx:cO C.P t1 x=some x')(hy:cO C.P t2 y=some y')
  (he:Qw Γ (aX.ev σ.t) σ.h b (.gE n neg x' y')=some e) :
  o.wp C.P a w (λa' w'=>cz C U' (σ.app o.dst e) a' w') Q:=by
 have h1:=Zs S hx;have h2:=Zs S hy;unfold DK at ht
 split at ht
 rotate_left
 ·cases ht
 rename_i fs hu
 split at ht
 rotate_left
 ·cases ht
 rename_i hc
 cases ht;simp only[Bool.and_eq_true,Bool.not_eq_true']at hc;obtain⟨⟨hp,hg⟩,iN⟩:=hc;simp only[Qw]at he
 split at he
 rotate_left
 ·cases he
 rename_i xs ys lf hvy
 split at he
 rotate_left
 ·cases he
 rename_i l m hl hm
 split at he
 rotate_left
 ·cases he
 rename_i hlen
 cases he;rw[lf]at h1;rw[hvy]at h2;obtain⟨q1,q2⟩:=DX (w:=w) (F:=λ_=>True) (h:=σ.h) _ _ hl;obtain⟨q3,q4⟩:=DX (w:=w) (F:=λ_=>True) (h:=σ.h) _ _ hm;generalize OM:a.eval x=ax at h1;generalize ON:a.eval y=ay at h2
 cases h1 with
 | a vs _ l1 _ vb =>
  cases h2 with
  | a us _ l2 _ mO =>
   have hX:∀(i:Nat)(n:Int),l[i]? = some n->vs[i]? = some (.int .i64 n):=by
    intro i n hi;have hk:=q2 i n hi;have aW:i<vs.size:=by rw[l1];exact(List.getElem?_eq_some_iff.1 hk).1
    have:=(vb i vs[i] _ (Array.getElem?_eq_getElem aW) hk).int;rw[Array.getElem?_eq_getElem aW,this]
   have hY:∀(i:Nat)(n:Int),m[i]? = some n->us[i]? = some (.int .i64 n):=by
    intro i n hi;have hk:=q4 i n hi;have aW:i<us.size:=by rw[l2];exact(List.getElem?_eq_some_iff.1 hk).1
    have:=(mO i us[i] _ (Array.getElem?_eq_getElem aW) hk).int;rw[Array.getElem?_eq_getElem aW,this]
   have hr:=OJ (P:=C.P) (w:=w) (d:=9998) hX hY (by omega) fs.toList 0 hp (by simp;omega);have ze:C.P.fieldsOf t=fs:=by simp[Program.fieldsOf,hu]
   have hs:=run_equalIn_struct (P:=C.P) w 9999 t vs us (by rw[ze];exact hu) iN;rw[ze,hr]at hs;simp only[List.drop_zero]at hs;refine Zh S hd bN (v:=.bool (if neg then !decide (l=m) else decide (l=m))) ?_ (fa rfl);have jV:∀ op,(eqGuard op t x y (.agg vs) (.agg us)).run C.P w = .ok () w:=λop=>run_eqGuard_agg w op t x y vs us hg
   cases neg
   ·simp[execOp,ho,OM,ON,jV,run_eql_struct,hs]
   ·simp[execOp,ho,OM,ON,jV,run_neq_struct,hs]
end
end Go.Proofs.YtdplaepmjogjjaaGreat.Am
namespace Go.Proofs.YtdplaepmjogjjaaGreat.Am
open Go Go.RowKit
structure CR(w:World)(F:Nat->Prop)(ι:Io)(h:Nat->aR)(cur:Array Value)(cs:List AV):Prop where
 size:cur.size=cs.length
 one:∀(k:Nat)(v:Value),cur[k]? = some v->v.oneCell'=true
 vr:∀(k:Nat)(v:Value)(x:AV),cur[k]? = some v->cs[k]? = some x->VR w F ι h v x
theorem QXN{v:Value}(h:v.oneCell'=true):v.cells = #[v]:=by
 cases v <;> first | rfl | simp[Value.oneCell']at h
theorem VR.one{w:World}{F:Nat->Prop}{ι:Io}{h:Nat->aR}{v:Value}{x:AV}(hv:VR w F ι h v x)(hx:x.one=true):v.oneCell'=true:=by
 cases hv with
 | u=>simp[AV.one]at hx
 | c v d hr=>exact hr.one
 | n=>rfl
 | cy _ _ _ _ _ h1=>exact h1
 | cL=>rfl
 | de=>rfl
 | r=>rfl
 | cS _ _ _ _ h1=>exact h1
 | p=>rfl
 | q=>rfl
 | fm _ _ _ _ _ h1=>exact h1
 | b _ _ _ _ _ _ _ _ _ h1=>exact h1
 | eI _ _ _ _ _ _ _ h1=>exact h1
 | bq _ _ _ _ _ _ _ _ _ _ _ h1=>exact h1
 | a=>simp[AV.one]at hx
 | t=>simp[AV.one]at hx
theorem VR.cells{w:World}{F:Nat->Prop}{ι:Io}{h:Nat->aR}{v:Value}{x:AV}(hv:VR w F ι h v x)(hx:x.st=true):CR w F ι h v.cells x.cells:=by
 by_cases iT:x.one=true
 ·have h1:=hv.one iT;have hc:x.cells=[x]:=by cases x <;> first | rfl | simp[AV.one]at iT
  rw[QXN h1,hc];refine⟨rfl,λk u hk=>?_,λk u y hk hy=>?_⟩
  ·cases k with
   | zero=>simp at hk;subst hk;exact h1
   | succ k=>simp at hk
  ·cases k with
   | zero=>simp at hk hy;subst hk;subst hy;exact hv
   | succ k=>simp at hk
 ·cases x with
  | a cs =>
   cases hv with
   | a vs _ hl h1 hv=>exact⟨hl,h1,hv⟩
  | _=>first | exact absurd rfl iT | (simp[AV.st,AV.one]at hx)
theorem mP{α:Type}{l xs:List α}{j:Nat}(h:j+xs.length<=l.length)(k:Nat):(bw l j xs)[k]? = if k<j then l[k]? else if k<j+xs.length then xs[k-j]? else l[k]?:=by
 unfold bw;rw[List.append_assoc,List.getElem?_append];simp only[List.length_take,Nat.min_eq_left (show j<=l.length by omega)];by_cases h1:k<j
 ·rw[if_pos h1,if_pos h1,List.getElem?_take,if_pos h1]
 ·rw[if_neg h1,if_neg h1,List.getElem?_append];by_cases h2:k<j+xs.length
  ·rw[if_pos (by omega),if_pos h2]
  ·rw[if_neg (by omega),if_neg h2,List.getElem?_drop];congr 1
   omega
theorem J9{α:Type}{l xs:List α}{j:Nat}(h:j+xs.length<=l.length):(bw l j xs).length=l.length:=by
 unfold bw;simp;omega
theorem OO(off:Nat):∀(l:List Value)(j:Nat)(cur:Array Value),((l.zipIdx j).foldl (λcs x=>cs.setIfInBounds (off+x.2) x.1) cur).size=cur.size/\
  (off+j+l.length<=cur.size->∀ k:Nat,((l.zipIdx j).foldl (λcs x=>cs.setIfInBounds (off+x.2) x.1) cur)[k]? = if k<off+j then cur[k]? else if k<off+j+l.length then l[k-(off+j)]? else cur[k]?)
 | [],j,cur=>⟨rfl,λ_ k=>by
   simp only[List.zipIdx_nil,List.foldl_nil,List.length_nil,Nat.add_zero]
   split
   ·rfl
   ·rfl⟩
 | v::l,j,cur=>by
  obtain⟨h1,h2⟩:=OO off l (j+1) (cur.setIfInBounds (off+j) v);simp only[List.zipIdx_cons,List.foldl_cons];refine⟨by rw[h1];simp,λhle k=>?_⟩;simp only[List.length_cons]at hle;rw[h2 (by simp;omega) k];rw[Array.getElem?_setIfInBounds];by_cases e1:k<off+j
  ·rw[if_pos (by omega),if_neg (by omega),if_pos e1]
  ·rw[if_neg e1];by_cases e2:k=off+j
   ·subst e2;rw[if_pos (by omega),if_pos rfl,if_pos (by omega),if_pos (by simp)];simp
   ·rw[if_neg (by omega)];by_cases e3:k<off+j+(l.length+1)
    ·rw[if_pos (by omega),if_pos (by simpa using e3)];rw[show k-(off+j)=(k-(off+(j+1)))+1 by omega];simp
    ·rw[if_neg (by omega),if_neg (by omega),if_neg (by simpa using e3)]
theorem OP(cur part:Array Value)(off:Nat)(h:off+part.size<=cur.size):(part.zipIdx.foldl (λcs (x:Value × Nat)=>cs.setIfInBounds (off+x.2) x.1) cur).size=cur.size/\
  ∀ k:Nat,(part.zipIdx.foldl (λcs (x:Value × Nat)=>cs.setIfInBounds (off+x.2) x.1) cur)[k]? = if k<off then cur[k]? else if k<off+part.size then part[k-off]? else cur[k]?:=by
 have:=OO off part.toList 0 cur;rw[<- Array.foldl_toList,Array.toList_zipIdx];refine⟨this.1,λk=>?_⟩;have h2:=this.2 (by simpa using h) k;simpa using h2
theorem CR.bw{w:World}{F:Nat->Prop}{ι:Io}{h:Nat->aR}{cur part:Array Value}{cs ps:List AV}{off:Nat}(hc:CR w F ι h cur cs)(hp:CR w F ι h part ps)(hle:off+ps.length<=cs.length) :
  CR w F ι h (part.zipIdx.foldl (λcs (x:Value × Nat)=>cs.setIfInBounds (off+x.2) x.1) cur) (Am.bw cs off ps):=by
 have zf:=hp.size;have dI:=hc.size;obtain⟨h1,h2⟩:=OP cur part off (by omega);have hg:=mP (l:=cs) (xs:=ps) (j:=off) hle;refine⟨by rw[h1,J9 hle,dI],λk v hk=>?_,λk v x hk hx=>?_⟩
 ·rw[h2 k]at hk
  split at hk
  ·exact hc.one k v hk
  ·split at hk
   ·exact hp.one _ v hk
   ·exact hc.one k v hk
 ·rw[h2 k]at hk;rw[hg k]at hx
  split at hk
  ·rename_i e1;rw[if_pos e1]at hx;exact hc.vr k v x hk hx
  ·rename_i e1;rw[if_neg e1]at hx
   split at hk
   ·rename_i e2;rw[if_pos (by omega)]at hx;exact hp.vr _ v x hk hx
   ·rename_i e2;rw[if_neg (by omega)]at hx;exact hc.vr k v x hk hx
theorem OQ{P:Program}:∀(fs:List Field),fs.all (λf=>(cA P f.type).isSome)=true->∃ pl,fs.mapM (λf=>(P.info? f.type).map λi=>(f.offset,i.size))=some pl/\∀(i:Nat)(f:Field)(n:Nat),fs[i]? = some f->cA P f.type=some n->pl[i]? = some (f.offset,n)
 | [],_=>⟨[],rfl,by simp⟩
 | f::fs,h=>by
  simp only[List.all_cons,Bool.and_eq_true]at h;obtain⟨pl,h1,h2⟩:=OQ fs h.2;obtain⟨n,hn⟩:=Option.isSome_iff_exists.1 h.1;obtain⟨i,hi,hs⟩:=u4 hn;refine⟨(f.offset,n)::pl,by simp[List.mapM_cons,hi,h1,hs],λk g m hk hm=>?_⟩
  cases k with
  | zero=>simp at hk;subst hk;rw[hn]at hm;cases hm;rfl
  | succ k=>simp at hk;simpa using h2 k g m hk hm
theorem OR{C:Ctx}{U:Nat->Prop}{σ:St}{a:Act}{w:World}{ι:Io}(S:Sat C U σ a w ι){fs:List Field}{pl:List (Nat × Nat)}
  (gz:∀(i:Nat)(f:Field)(n:Nat),fs[i]? = some f->cA C.P f.type=some n->pl[i]? = some (f.offset,n)) :
  ∀(parts:List (Nat × Operand))(ps:List (Nat × Nat × aX))(cur:Array Value)(cs cs':List AV),sZ C.P fs parts=some ps->CR w (Fz C w ι σ.h) ι σ.h cur cs->JV (aX.ev σ.t) cs ps=some cs'->
   ∃ dg,Instr.fill (λi=>pl[i]?) cur (parts.map λx=>(x.1,a.eval x.2))=some dg/\CR w (Fz C w ι σ.h) ι σ.h dg cs'
 | [],ps,cur,cs,cs',hp,hc,hq=>by
  simp[sZ]at hp;subst hp;simp[JV]at hq;subst hq;exact⟨cur,rfl,hc⟩
 | (i,x)::parts,ps,cur,cs,cs',hp,hc,hq=>by
  simp only[sZ]at hp
  split at hp
  rotate_left
  ·cases hp
  rename_i f hf
  split at hp
  rotate_left
  ·cases hp
  rename_i n y ys hn hy iV
  cases hp;simp only[JV]at hq
  split at hq
  rotate_left
  ·cases hq
  rename_i ft;obtain⟨e1,e2,e3⟩:=ft;have hv:=(Zs S hy).cells e3;have bV:(a.eval x).cells.size=n:=by rw[hv.size,e1]
  have hc':=hc.bw (off:=f.offset) hv (by omega);obtain⟨dg,h1,h2⟩:=OR S gz parts ys _ _ cs' iV hc' hq;refine⟨dg,?_,h2⟩;simp only[List.map_cons,Instr.fill,gz i f n hf hn];have dI:=hc.size;rw[if_neg (by simp only[Bool.or_eq_true,decide_eq_true_eq];rintro(h | h) <;> omega)];exact h1
theorem vc{P:Program}{t:TypeId}{zs:List AV}(h:Y2 P t=some zs):∃ i z,P.info? t=some i/\i.zero=some z/\∀(w:World)(F:Nat->Prop)(ι:Io)(h:Nat->aR),CR w F ι h z.cells zs:=by
 unfold Y2 at h
 split at h
 rotate_left
 ·cases h
 rename_i i hi
 split at h
 rotate_left
 ·cases h
 rename_i z hz
 split at h
 rotate_left
 ·cases h
 rename_i x hx
 cases h;refine⟨i,z,hi,hz,λw F ι h=>(Ow hx).cells ?_⟩;unfold ko at hx
 split at hx
 ·split at hx
  ·cases hx;rfl
  ·cases hx
 ·split at hx
  ·cases hx;unfold kZ
   split <;> rfl
  ·cases hx
section
variable {C:Ctx} {U U':Nat->Prop} {σ:St} {a:Act} {w:World} {ι:Io} {o:Oper} {Q:Exit->Act->World->Prop} {Γ:ez} {b:Nat} {e:fi}
variable (S:Sat C U σ a w ι) (hd:∀ d,o.dst=some d->d<C.N) (bN:∀ i,U' i->U i)
include S hd bN
theorem QKg{t:TypeId}{fs:Array Field}{parts:Array (Nat × Operand)}{zs:List AV}{ps:List (Nat × Nat × aX)}(ho:o.op = .build t parts)(ht:C.P.underlying t=some (.struct fs))(hz:Y2 C.P t=some zs)
  (hp:sZ C.P fs.toList parts.toList=some ps) (ej:fs.toList.all (λf=>(cA C.P f.type).isSome)=true) (he:Qw Γ (aX.ev σ.t) σ.h b (.build zs ps)=some e) :
  o.wp C.P a w (λa' w'=>cz C U' (σ.app o.dst e) a' w') Q:=by
 obtain⟨i,z,hi,jW,gA⟩:=vc hz;obtain⟨pl,DY,DZ⟩:=OQ fs.toList ej;simp only[Qw]at he
 split at he
 rotate_left
 ·cases he
 rename_i cs dI
 cases he;obtain⟨dg,h1,h2⟩:=OR S DZ parts.toList ps z.cells zs cs hp (gA _ _ _ _) dI;have hb:C.P.built t (parts.map λx=>(x.1,a.eval x.2)).toList=some dg:=by
  simp only[Program.built,hi,ht,jW,DY];simpa using h1
 refine Zh S hd bN (v:=.agg dg) ?_ (.a _ _ h2.size h2.one h2.vr);have:=run_build (P:=C.P) w t (parts.map λx=>(x.1,a.eval x.2)) dg hb;simp only[execOp,ho,Sem.run_bind,this,Result.andThen_ok,Sem.run_pure]
end
theorem Yw(h g:Nat->aR):∀(ids:List Nat)(i:Nat),bp g (eT h ids) i=if i∈ids then jt (h i) else g i
 | [],i=>by simp[eT,bp]
 | id::ids,i=>by
  simp only[eT,bp];rw[Yw h (bI g id (jt (h id))) ids i];by_cases h1:i∈ids
  ·simp[h1]
  ·by_cases h2:i=id
   ·subst h2;simp[h1,bI]
   ·simp[h1,h2,bI]
theorem OS(x:aR):(jt x).own=true->x.own=true:=by
 cases x <;> simp[jt,aR.own,Mo.own]
def Io.loose(ι:Io)(ids:List Nat):Io:=⟨ι.b,λb=>match ι.k b with | some (y,p)=>if y∈ids then none else some (y,p) | none=>none,ι.o⟩
theorem Io.eK{ι:Io}{ids:List Nat}{b y:Nat}{p:cD}:(ι.loose ids).k b=some (y,p)↔ι.k b=some (y,p)/\y∉ids:=by
 simp only[Io.loose]
 cases hx:ι.k b with
 | none=>simp
 | some z =>
  obtain⟨z,q⟩:=z;by_cases h:z∈ids
  ·simp only[h,if_true,Option.some.injEq,Prod.mk.injEq];refine⟨λh0=>(by cases h0),?_⟩;rintro⟨⟨rfl,_⟩,h1⟩
   exact absurd h h1
  ·simp only[h,if_false,Option.some.injEq,Prod.mk.injEq];constructor
   ·rintro⟨rfl,rfl⟩;exact⟨⟨rfl,rfl⟩,h⟩
   ·rintro⟨h1,_⟩;exact h1
theorem Io.gI{ι:Io}{ids:List Nat}{b:Nat}(h:ι.k b=none):(ι.loose ids).k b=none:=by simp[Io.loose,h]
def Full(h:Nat->aR)(ids:List Nat):Prop:=∀ id,id∈ids->∀ e sz m es,h id = .sl e sz m es->m.full=true
theorem Sat.freeze{C:Ctx}{U:Nat->Prop}{σ:St}{a:Act}{w:World}{ι:Io}(S:Sat C U σ a w ι)(ids:List Nat)(dV:Full σ.h ids) :
  Sat C U ⟨σ.t,bp σ.h (eT σ.h ids),σ.nx⟩ a w (ι.loose ids)/\∀ b,Fz C w ι σ.h b->Fz C w (ι.loose ids) (bp σ.h (eT σ.h ids)) b:=by
 have eJ:=Yw σ.h σ.h ids;have hF:∀ b,Fz C w ι σ.h b->Fz C w (ι.loose ids) (bp σ.h (eT σ.h ids)) b:=by
  intro b ⟨h1,h2,h3,h4⟩;refine⟨h1,h2,λid a9=>?_,Io.gI h4⟩;have:=h3 id a9;rw[eJ]
  split
  ·cases hx:(jt (σ.h id)).own with
   | false=>rfl
   | true=>rw[OS _ hx]at this;cases this
  ·exact this
 have bU:∀ id,id∉ids->Rest w w ι (ι.loose ids) id:=λid hn=>⟨rfl,rfl,λ_ _=>rfl,λb p hk=>⟨Io.eK.2 ⟨hk,hn⟩,rfl⟩⟩
 have hg:∀ id,cY w w ι (ι.loose ids) σ.h (bp σ.h (eT σ.h ids)) id:=by
  intro id;by_cases a9:id∈ids
  ·unfold cY;rw[eJ,if_pos a9]
   cases hx:σ.h id with
   | none=>exact .inl rfl
   | dead=>exact .inr (.inl rfl)
   | box cs=>exact .inr (.inr ⟨rfl,rfl,rfl,λ_ _=>rfl,λg h=>(by cases h)⟩)
   | sl e sz m es=>exact .inr (.inr ⟨rfl,rfl,⟨rfl,rfl,rfl,Mo.ob m⟩,λ_ _=>rfl,λg _ h=>(by cases h)⟩)
  ·exact(bU id a9).gD (by rw[eJ,if_neg a9])
 refine⟨S.eh S.dD (λb hb=>⟨hF b hb,rfl⟩) hg (λi cs hx=>by rw[eJ,hx];split <;> simp[jt]) (λid=>?_) S.inj (λi b hi=>?_) (λi hi=>?_) (λi b hi=>?_) (λb id p hk=>?_),hF⟩;rotate_left
 ·obtain⟨h1,h2⟩:=S.eg i b hi;refine⟨h1.imp id λ⟨h3,cs,h4⟩=>⟨h3,cs,?_⟩,h2⟩;rw[eJ,h4]
  split <;> rfl
 rotate_right
 ·by_cases a9:id∈ids
  ·right;rw[eJ,if_pos a9];have hb:=S.fh id
   cases hx:σ.h id with
   | none=>exact .none
   | dead=>exact .dead
   | box cs =>
    rw[hx]at hb
    cases hb with
    | box b e bm _ hi ho hb hl h1 hv=>exact .box b e bm cs hi ho hb hl h1 (λk v x hk p5=>(hv k v x hk p5).mono (λb hb=>⟨hF b hb,rfl⟩) hg)
   | sl e sz m es =>
    have og:=dV id a9 e sz m es hx;rw[hx]at hb
    cases hb with
    | slnil _ _ _ hz hi=>exact .slnil e sz .fz hz hi
    | sl b _ e0 _ _ _ cur hz hi hb eN hle cW bV hv =>
     refine .sl b e e0 sz .fz es cur hz hi hb (λh=>(by cases h)) hle cW bV (λp q x d mQ hd=>?_);obtain⟨v,h5,h6⟩:=hv p q x d mQ hd;refine⟨v,h5,h6.rd og hF (λb' p' hk=>?_)⟩;have L:=S.df b' id p' hk;refine⟨L.lt,.inr L.fr,λi hi=>absurd hi (L.ne i),?_⟩
     cases fj:(ι.loose ids).k b' with
     | none=>rfl
     | some z =>
      obtain⟨z,q⟩:=z;obtain⟨k1,k2⟩:=Io.eK.1 fj;rw[hk]at k1
      cases k1;exact absurd a9 k2
  ·left;exact⟨by rw[eJ,if_neg a9],bU id a9⟩
 ·have:=S.fresh i hi;rw[eJ,this.1];refine⟨?_,this.2⟩
  split <;> rfl
 ·have:=S.live i b hi;rw[eJ]
  split
  ·cases hx:σ.h i <;> simp_all [jt]
  ·exact this
 ·obtain⟨k1,k2⟩:=Io.eK.1 hk;have L:=S.df b id p k1;refine⟨L.pn,?_,L.fr,L.lt,L.ne⟩;rw[eJ,if_neg k2];exact L.dp
theorem AV.jy{C:Ctx}{U:Nat->Prop}{σ:St}{a:Act}{w:World}{ι:Io}(S:Sat C U σ a w ι){F:Nat->Prop}(hF:∀ b,Fz C w ι σ.h b->F b){v:Value}{x:AV}{d:D}(hv:VR w (Fz C w ι σ.h) ι σ.h v x)(hx:x.d σ.h=some d)
  (cr:∀ id b,id∈x.bR->ι id=some b->F b) (mF:∀ id b p,id∈x.bR->ι.k b=some (id,p)->F b):Rd w F v d:=by
 cases hv with
 | u=>simp[AV.d]at hx
 | c v d hr=>simp[AV.d]at hx;subst hx;exact hr.mono (λb hb=>⟨hF b hb,rfl⟩)
 | n sz=>simp[AV.d]at hx;subst hx;exact .nil _
 | cy v sz id off len h1 hd=>simp[AV.d,hd]at hx
 | cL id e sz m hi hh =>
  simp only[AV.d,hh]at hx
  split at hx
  ·simp at hx;subst hx;exact .nil _
  ·cases hx
 | de ad cap id e sz m hi hh ht =>
  simp only[AV.d,hh]at hx
  split at hx
  ·simp at hx;subst hx;exact .emp _ _ _
  ·cases hx
 | r id off len b ao cap e sz m es hi hh hlen cj ho cX =>
  simp only[AV.d,hh]at hx
  split at hx
  rotate_left
  ·cases hx
  rename_i dV;simp only[Option.some.injEq]at hx;subst hx;have hb:=S.fh id;rw[hh]at hb;have kq:((es.drop off).take len).length=len:=by simp;omega
  have la:∀(i:Nat)(el:List D),((es.drop off).take len)[i]? = some el->i<len/\es[off+i]? = some el:=by
   intro i el cT;have hi:=(List.getElem?_eq_some_iff.1 cT).1;rw[List.getElem?_take,if_pos (by omega),List.getElem?_drop]at cT;exact⟨by omega,cT⟩
  cases hb with
  | slnil _ _ _ hz bY=>rw[hi]at bY;cases bY
  | sl b' _ e0 _ _ _ cur hz bY fb eN hle cW bV dR =>
   rw[hi]at bY;cases bY;refine .sl b ao len cap sz _ (λi j=>cur.getD (ι.o id+(off+i)*sz+j) undef) kq cj (by omega) (λel he=>bV el (List.mem_of_mem_drop (List.mem_of_mem_take he))) (λ_=>cr id b (by simp[AV.bR]) hi) (λi j el d h1 h2=>?_) (λi j el d h1 h2=>?_)
   ·obtain⟨h3,h4⟩:=la i el h1;obtain⟨v,h5,h6⟩:=dR _ j el d h4 h2;rw[ho (by omega),show ι.o id+off*sz+i*sz+j=ι.o id+(off+i)*sz+j by rw[Nat.add_mul];omega];rw[pY fb h5];simp[Array.getD_eq_getD_getElem?,h5]
   ·obtain⟨h3,h4⟩:=la i el h1;obtain⟨v,h5,h6⟩:=dR _ j el d h4 h2;have:cur.getD (ι.o id+(off+i)*sz+j) undef=v:=by simp[Array.getD_eq_getD_getElem?,h5]
    rw[this];exact h6.rd dV hF (λb p hk=>mF id b p (by simp[AV.bR]) hk)
 | cS=>simp[AV.d]at hx
 | p=>simp[AV.d]at hx
 | q=>simp[AV.d]at hx
 | a=>simp[AV.d]at hx
 | t=>simp[AV.d]at hx
 | eI=>simp[AV.d]at hx
 | bq=>simp[AV.d]at hx
 | fm v d' id g p h1 hd=>simp[AV.d,hd,aR.dn]at hx
 | b v d' id g p e sz m es h1 hh iL jj =>
  simp only[AV.d,hh]at hx
  split at hx
  ·rename_i fE
   cases hx;exact(jj (aR.eA fE)).1.rd (λb p hk=>mF id b p (by simp[AV.bR]) hk)
  ·cases hx
theorem AV.dW{h:Nat->aR}:∀ {xs:List AV} {ds:List D},AV.ds h xs=some ds->ds.length=xs.length/\∀(k:Nat)(x:AV),xs[k]? = some x->∃ d,ds[k]? = some d/\x.d h=some d
 | [],ds,hx=>by simp[AV.ds]at hx;subst hx;simp
 | x::xs,ds,hx=>by
  simp only[AV.ds]at hx
  split at hx
  ·rename_i d s8 h1 h2
   cases hx;obtain⟨h3,h4⟩:=AV.dW h2;refine⟨by simp[h3],λk y hk=>?_⟩
   cases k with
   | zero=>simp at hk;subst hk;exact⟨d,rfl,h1⟩
   | succ k=>simp at hk;simpa using h4 k y hk
  ·cases hx
theorem s9:∀ {xs:List AV} {k:Nat} {x:AV} {id:Nat},xs[k]? = some x->id∈x.bR->id∈AV.bM xs
 | [],k,x,id,h,_=>by simp at h
 | y::ys,0,x,id,h,hi=>by simp at h;subst h;simp[AV.bM,hi]
 | y::ys,k+1,x,id,h,hi=>by simp at h;simp[AV.bM,s9 h hi]
end Go.Proofs.YtdplaepmjogjjaaGreat.Am
namespace Go.Proofs.YtdplaepmjogjjaaGreat.Am
open Go Go.RowKit
theorem QKQ{α:Type}{es:List α}{off len:Nat}(hlen:off+len<=es.length):((es.drop off).take len).length=len/\∀(i:Nat)(el:α),((es.drop off).take len)[i]? = some el->i<len/\es[off+i]? = some el:=by
 have kq:((es.drop off).take len).length=len:=by simp;omega
 refine⟨kq,λi el cT=>?_⟩;have hi:=(List.getElem?_eq_some_iff.1 cT).1;rw[List.getElem?_take,if_pos (by omega),List.getElem?_drop]at cT;exact⟨by omega,cT⟩
def Io.merge(ι:Io)(id n i j off len:Nat):Io:=⟨bI ι.b n none,λb=>if ι n=some b then some (id,[(i,j)]) else match ι.k b with
 | some (y,p)=>if y=n then(match p with
  | (a,c)::q=>if off<=a/\a<off+len then some (id,(i,j)::(a-off,c)::q) else none
  | []=>none) else some (y,p)
 | none=>none,ι.o⟩
section
variable {C:Ctx} {U U':Nat->Prop} {σ:St} {a:Act} {w:World} {ι:Io}
theorem QYu(S:Sat C U σ a w ι){id n i j off len b y:Nat}{p:cD}(hk:ι.k b=some (y,p))(hy:y≠n):(ι.merge id n i j off len).k b=some (y,p):=by
 simp only[Io.merge];rw[if_neg ((S.df b y p hk).ne n)];simp only[hk,if_neg hy]
theorem QQk{id n i j off len b y:Nat}{p:cD}(hk:(ι.merge id n i j off len).k b=some (y,p)) :
  (y≠n/\ι.k b=some (y,p)/\ι n≠some b)\/(y=id/\p≠[]/\(ι n=some b\/∃ p',ι.k b=some (n,p'))):=by
 simp only[Io.merge]at hk
 split at hk
 ·rename_i h1
  cases hk;exact .inr ⟨rfl,by simp,.inl h1⟩
 ·rename_i h1
  split at hk
  rotate_left
  ·cases hk
  rename_i z q hz
  split at hk
  ·rename_i h2;subst h2
   split at hk
   ·split at hk
    ·cases hk;exact .inr ⟨rfl,by simp,.inr ⟨_,hz⟩⟩
    ·cases hk
   ·cases hk
  ·rename_i h2
   cases hk;exact .inl ⟨h2,hz,h1⟩
theorem RL.enter(S:Sat C U σ a w ι){n off len bc:Nat}{e':TypeId}{g':Nat}{t':Bool}{bP:List (List D)}{v:Value}{K':Nat->Option (Nat × cD)}{b7:Nat}{p':cD}(hn:σ.h n = .sl e' bc (.dp g' t' []) bP)
  (hv:VR w (Fz C w ι σ.h) ι σ.h v (.r bc n off len)) (h1:∀ b,ι n=some b->len≠0->K' b=some (b7,p'))
  (h2:∀ b a c q,ι.k b=some (n,(off+a,c)::q)->a<len->K' b=some (b7,p'++(a,c)::q)):RL w K' b7 p' v (.sl bc ((bP.drop off).take len)):=by
 cases hv with
 | cy _ _ _ _ _ _ hd=>rw[hd]at hn;cases hn
 | cL _ e sz m hi hh =>
  rw[hn]at hh;cases hh;simp;exact .nil _ _
 | de ad cap _ e sz m hi hh ht =>
  rw[hn]at hh;cases hh;simp;exact .emp _ _ _ _
 | r _ _ _ b ao cap e sz m es hi hh hlen cj ho cX =>
  rw[hn]at hh;cases hh;by_cases h0:len=0
  ·subst h0;simp;exact .emp _ _ _ _
  have hb:=S.fh n;rw[hn]at hb;obtain⟨kq,la⟩:=QKQ hlen
  cases hb with
  | slnil _ _ _ hz bY=>rw[hi]at bY;cases bY
  | sl b' _ e0 _ _ _ cur hz bY fb eN hle cW bV dR =>
   rw[hi]at bY;cases bY;have jk:=ho h0;refine .sl p' b ao len cap bc _ cur e0 (λx y=>cur.getD (ι.o n+(off+x)*bc+y) undef) hz (λh=>by rw[h]at kq;simp at kq;omega) kq cj (by omega) (λel he=>bV el (List.mem_of_mem_drop (List.mem_of_mem_take he))) (h1 b hi h0) fb ?_ (λx y el d hx hd=>?_) (λx y el d hx hd=>?_)
   ·rw[jk];have:(off+len)*bc<=bP.length*bc:=Nat.mul_le_mul_right _ hlen;rw[Nat.add_mul]at this;omega
   ·obtain⟨h3,h4⟩:=la x el hx;obtain⟨u,h5,h6⟩:=dR _ y el d h4 hd;rw[jk,show ι.o n+off*bc+x*bc+y=ι.o n+(off+x)*bc+y by rw[Nat.add_mul];omega,h5];simp[Array.getD_eq_getD_getElem?,h5]
   ·obtain⟨h3,h4⟩:=la x el hx;obtain⟨u,h5,h6⟩:=dR _ y el d h4 hd;have:cur.getD (ι.o n+(off+x)*bc+y) undef=u:=by simp[Array.getD_eq_getD_getElem?,h5]
    rw[this];refine(h6.2 (by simp)).map _ (λb q hk=>⟨?_,rfl⟩);have:=h2 b x y q hk h3;simpa using this
theorem Sat.merge(S:Sat C U σ a w ι){id n i j sz bc off len g g':Nat}{t t':Bool}{H:cD}{e e':TypeId}{es bP:List (List D)}{x:List D}{v:Value}
  (a9:σ.h id = .sl e sz (.dp g t ((i,j)::H)) es) (hn:σ.h n = .sl e' bc (.dp g' t' []) bP) (dM:n≠id)
  (di:∃ bk cur e0,ι id=some bk/\w.heap[bk]? = some (.cells cur e0 (0,0))/\cur[ι.o id+i*sz+j]? = some v) (hv:VR w (Fz C w ι σ.h) ι σ.h v (.r bc n off len))
  (hx:es[i]? = some x) (mR:x[j]? = some (.sl bc ((bP.drop off).take len))) :
  Sat C U ⟨σ.t,bI (bI σ.h n .dead) id (.sl e sz (.dp g t H) es),σ.nx⟩ a w (ι.merge id n i j off len)/\
  (∀ b,Fz C w ι σ.h b->Fz C w (ι.merge id n i j off len) (bI (bI σ.h n .dead) id (.sl e sz (.dp g t H) es)) b)/\
  ∀ y,cY w w ι (ι.merge id n i j off len) σ.h (bI (bI σ.h n .dead) id (.sl e sz (.dp g t H) es)) y:=by
 have iu:∀ y b,(ι.merge id n i j off len) y=some b->y≠n/\ι y=some b:=by
  intro y b hy;simp only[Io.merge,bI]at hy
  split at hy
  ·cases hy
  ·rename_i h;exact⟨h,hy⟩
 have fw:∀ y,y≠n->(ι.merge id n i j off len) y=ι y:=λy hy=>QI _ _ _ _ hy;have gg:∀ y,y≠n->mD w w ι (ι.merge id n i j off len) y:=λy hy b p hk=>⟨QYu S hk hy,rfl⟩
 have bU:∀ y,y≠n->Rest w w ι (ι.merge id n i j off len) y:=λy hy=>⟨fw y hy,rfl,λ_ _=>rfl,gg y hy⟩
 have vd:(σ.h n).own=true:=by rw[hn];rfl
 have p6:(σ.h id).own=true:=by rw[a9];rfl
 obtain⟨h',b9⟩:∃ h',h'=bI (bI σ.h n .dead) id (.sl e sz (.dp g t H) es):=⟨_,rfl⟩
 have e1:h' id = .sl e sz (.dp g t H) es:=by rw[b9,QN]
 have e2:h' n = .dead:=by rw[b9,QI _ _ _ _ dM,QN]
 have e3:∀ y,y≠n->y≠id->h' y=σ.h y:=λy h1 h2=>by rw[b9,QI _ _ _ _ h2,QI _ _ _ _ h1]
 rw[<- b9];have hF:∀ b,Fz C w ι σ.h b->Fz C w (ι.merge id n i j off len) h' b:=by
  intro b ⟨h1,h2,h3,h4⟩;refine⟨h1,h2,λy hy=>?_,?_⟩
  ·obtain⟨k1,k2⟩:=iu y b hy;have:=h3 y k2;by_cases lh:y=id
   ·subst lh;rw[p6]at this;cases this
   ·rw[e3 y k1 lh];exact this
  ·simp only[Io.merge];rw[if_neg (λkr=>by have:=h3 n kr;rw[vd]at this;cases this)];rw[h4]
 have hg:∀ y,cY w w ι (ι.merge id n i j off len) σ.h h' y:=by
  intro y;by_cases h1:y=n
  ·subst h1;exact .inr (.inl e2)
  by_cases h2:y=id
  ·subst h2;unfold cY;rw[e1,a9];exact .inr (.inr ⟨fw y h1,rfl,⟨rfl,rfl,rfl,⟨λh=>h,λg h=>⟨g,h,Nat.le_refl _⟩⟩⟩,λ_ _=>rfl,λ_ _ _=>⟨λ_ _=>rfl,gg y h1⟩⟩)
  ·exact(bU y h1).gD (e3 y h1 h2)
 refine⟨S.eh S.dD (λb hb=>⟨hF b hb,rfl⟩) hg (λy cs hb=>?_) (λy=>?_) (λy z b hy hz=>?_) (λy b hy=>?_) (λy hy=>?_) (λy b hy=>?_) (λb y p hk=>?_),hF,hg⟩
 ·by_cases h1:y=n
  ·subst h1;rw[hn]at hb;cases hb
  by_cases h2:y=id
  ·subst h2;rw[a9]at hb;cases hb
  rw[e3 y h1 h2,hb];simp
 ·by_cases h1:y=n
  ·subst h1;right;rw[e2];exact .dead
  by_cases h2:y=id
  ·subst h2;right;rw[e1];have hb:=S.fh y;rw[a9]at hb
   cases hb with
   | slnil=>simp at hx
   | sl bk _ e0 _ _ _ cur hz hi fb eN hle cW bV dR =>
    refine .sl bk e e0 sz _ es cur hz ((fw y h1).trans hi) fb eN hle cW bV (λp q el d cT hd=>?_);obtain⟨u,h5,h6,h7⟩:=dR p q el d cT hd;refine⟨u,h5,h6,λdr=>?_⟩;by_cases mS:(p,q)=(i,j)
    ·cases mS;rw[hx]at cT
     cases cT;rw[mR]at hd
     cases hd;obtain⟨mc,dg,ve,c1,c2,c3⟩:=di;rw[hi]at c1
     cases c1;rw[fb]at c2
     cases c2;rw[h5]at c3
     cases c3;refine RL.enter S hn hv (λb hb _=>?_) (λb x c q hk aW=>?_)
     ·simp only[Io.merge];rw[if_pos hb]
     ·simp only[Io.merge];rw[if_neg ((S.df b n _ hk).ne n),hk];simp only[if_true];rw[if_pos ⟨by omega,by omega⟩,show off+x-off=x by omega];rfl
    ·exact(h7 (by simp only[List.mem_cons,not_or];exact⟨mS,dr⟩)).mono (gg y h1)
  ·left;exact⟨e3 y h1 h2,bU y h1⟩
 ·exact S.inj y z b (iu y b hy).2 (iu z b hz).2
 ·obtain⟨h1,h2⟩:=iu y b hy;obtain⟨h3,h4⟩:=S.eg y b h2;refine⟨h3.imp (λh=>h) λ⟨h5,cs,h6⟩=>⟨h5,cs,?_⟩,h4⟩;by_cases h7:y=id
  ·subst h7;rw[a9]at h6;cases h6
  ·rw[e3 y h1 h7];exact h6
 ·obtain⟨h1,h2⟩:=S.fresh y hy;have h3:y≠n:=λh=>by subst h;rw[hn]at h1;cases h1
  have h4:y≠id:=λh=>by subst h;rw[a9]at h1;cases h1
  rw[e3 y h3 h4,fw y h3];exact⟨h1,h2⟩
 ·obtain⟨h1,h2⟩:=iu y b hy;by_cases h7:y=id
  ·subst h7;rw[e1];simp
  ·rw[e3 y h1 h7];exact S.live y b h2
 ·rcases QQk hk with⟨h1,h2,h3⟩ | ⟨rfl,h2,h3⟩
  ·have L:=S.df b y p h2;refine⟨L.pn,?_,L.fr,L.lt,λz hz=>L.ne z (iu z b hz).2⟩;by_cases h7:y=id
   ·subst h7;rw[e1];exact⟨_,_,_,_,_,_,rfl⟩
   ·rw[e3 y h1 h7];exact L.dp
  ·rcases h3 with h3 | ⟨p',h3⟩
   ·obtain⟨h4,h5⟩:=S.eg n b h3;refine⟨h2,by rw[e1];exact⟨_,_,_,_,_,_,rfl⟩,h4.elim (λh=>h) (λ⟨_,cs,h⟩=>by rw[hn]at h;cases h),h5,λz hz=>?_⟩;obtain⟨k1,k2⟩:=iu z b hz;exact k1 (S.inj z n b k2 h3)
   ·have L:=S.df b n p' h3;exact⟨h2,by rw[e1];exact⟨_,_,_,_,_,_,rfl⟩,L.fr,L.lt,λz hz=>L.ne z (iu z b hz).2⟩
theorem Sat.reset(S:Sat C U σ a w ι){id sz g:Nat}{t:Bool}{H:cD}{e:TypeId}{es f4:List (List D)}(a9:σ.h id = .sl e sz (.dp g t H) es)(hl:f4.length=es.length)(mT:∀ x,x∈f4->x.length=sz)
  (cQ:∀ p q x d,f4[p]? = some x->x[q]? = some d->(p,q)∉H->∃ y,es[p]? = some y/\y[q]? = some d) :
  Sat C U ⟨σ.t,bI σ.h id (.sl e sz (.dp g t H) f4),σ.nx⟩ a w ι/\(∀ b,Fz C w ι σ.h b->Fz C w ι (bI σ.h id (.sl e sz (.dp g t H) f4)) b)/\
  ∀ y,cY w w ι ι σ.h (bI σ.h id (.sl e sz (.dp g t H) f4)) y:=by
 obtain⟨h',b9⟩:∃ h',h'=bI σ.h id (.sl e sz (.dp g t H) f4):=⟨_,rfl⟩
 have e1:h' id = .sl e sz (.dp g t H) f4:=by rw[b9,QN]
 have e3:∀ y,y≠id->h' y=σ.h y:=λy h2=>by rw[b9,QI _ _ _ _ h2]
 have bU:∀ y,Rest w w ι ι y:=λy=>⟨rfl,rfl,λ_ _=>rfl,λb p hk=>⟨hk,rfl⟩⟩
 rw[<- b9];have hF:∀ b,Fz C w ι σ.h b->Fz C w ι h' b:=by
  intro b ⟨h1,h2,h3,h4⟩;refine⟨h1,h2,λy hy=>?_,h4⟩;have:=h3 y hy;by_cases lh:y=id
  ·subst lh;rw[a9]at this;cases this
  ·rw[e3 y lh];exact this
 have hg:∀ y,cY w w ι ι σ.h h' y:=by
  intro y;by_cases h2:y=id
  ·subst h2;unfold cY;rw[e1,a9];exact .inr (.inr ⟨rfl,rfl,⟨rfl,rfl,hl,⟨λh=>h,λg h=>⟨g,h,Nat.le_refl _⟩⟩⟩,λ_ _=>rfl,λ_ _ _=>⟨λ_ _=>rfl,λb p hk=>⟨hk,rfl⟩⟩⟩)
  ·exact(bU y).gD (e3 y h2)
 refine⟨S.eh S.dD (λb hb=>⟨hF b hb,rfl⟩) hg (λy cs hb=>?_) (λy=>?_) S.inj (λy b hy=>?_) (λy hy=>?_) (λy b hy=>?_) (λb y p hk=>?_),hF,hg⟩
 ·by_cases h2:y=id
  ·subst h2;rw[a9]at hb;cases hb
  rw[e3 y h2,hb];simp
 ·by_cases h2:y=id
  ·subst h2;right;rw[e1];have hb:=S.fh y;rw[a9]at hb
   cases hb with
   | slnil _ _ _ hz hi =>
    have:f4=[]:=List.eq_nil_of_length_eq_zero (by simpa using hl);subst this;exact .slnil e sz _ hz hi
   | sl bk _ e0 _ _ _ cur hz hi fb eN hle cW bV dR =>
    refine .sl bk e e0 sz _ f4 cur hz hi fb (λh=>by rw[hl];exact eN h) (by rw[hl];exact hle) (by rw[hl];exact cW) mT (λp q el d cT hd=>?_);have gz:p<es.length:=by rw[<- hl];exact(List.getElem?_eq_some_iff.1 cT).1
    have hql:q<sz:=by rw[<- mT el (List.mem_of_getElem? cT)];exact(List.getElem?_eq_some_iff.1 hd).1
    have gh:q<es[p].length:=by rw[bV _ (List.getElem_mem gz)];exact hql
    obtain⟨u,h5,h6,h7⟩:=dR p q es[p] _ (List.getElem?_eq_getElem gz) (List.getElem?_eq_getElem gh);refine⟨u,h5,h6,λdr=>?_⟩;obtain⟨y',k1,k2⟩:=cQ p q el d cT hd dr;obtain⟨u',OT,h6',h7'⟩:=dR p q y' d k1 k2;rw[h5]at OT
    cases OT;exact h7' dr
  ·left;exact⟨e3 y h2,bU y⟩
 ·obtain⟨h3,h4⟩:=S.eg y b hy;refine⟨h3.imp (λh=>h) λ⟨h5,cs,h6⟩=>⟨h5,cs,?_⟩,h4⟩;by_cases h7:y=id
  ·subst h7;rw[a9]at h6;cases h6
  ·rw[e3 y h7];exact h6
 ·obtain⟨h1,h2⟩:=S.fresh y hy;have h4:y≠id:=λh=>by subst h;rw[a9]at h1;cases h1
  rw[e3 y h4];exact⟨h1,h2⟩
 ·by_cases h7:y=id
  ·subst h7;rw[e1];simp
  ·rw[e3 y h7];exact S.live y b hy
 ·have L:=S.df b y p hk;refine⟨L.pn,?_,L.fr,L.lt,L.ne⟩;by_cases h7:y=id
  ·subst h7;rw[e1];exact⟨_,_,_,_,_,_,rfl⟩
  ·rw[e3 y h7];exact L.dp
def Io.cJ(ι:Io)(id n i j:Nat)(r:Option Nat)(o:Nat):Io:=⟨bI ι.b n r,λb=>if r=some b then none else match ι.k b with
 | some (y,p)=>if y=id then(match p with
  | c::q=>if c=(i,j) then(match q with | []=>none | _::_=>some (n,q)) else some (y,p)
  | []=>some (y,p)) else some (y,p)
 | none=>none,bI ι.o n o⟩
theorem OU{id n i j o b y:Nat}{r:Option Nat}{p:cD}(hk:ι.k b=some (y,p))(hr:r≠some b)(hy:y≠id\/∃ c q,p=c::q/\c≠(i,j)):(ι.cJ id n i j r o).k b=some (y,p):=by
 simp only[Io.cJ];rw[if_neg hr,hk];simp only;by_cases h:y=id
 ·rcases hy with hy | ⟨c,q,rfl,hc⟩
  ·exact absurd h hy
  ·rw[if_pos h];simp only;rw[if_neg hc]
 ·rw[if_neg h]
theorem QJi{id n i j o b y:Nat}{r:Option Nat}{p:cD}(hk:(ι.cJ id n i j r o).k b=some (y,p)):r≠some b/\(ι.k b=some (y,p)\/(y=n/\p≠[]/\ι.k b=some (id,(i,j)::p))):=by
 simp only[Io.cJ]at hk
 split at hk
 ·cases hk
 rename_i h0;refine⟨h0,?_⟩
 split at hk
 rotate_left
 ·cases hk
 rename_i z q hz
 split at hk
 rotate_left
 ·cases hk;exact .inl hz
 rename_i h1;subst h1
 split at hk
 rotate_left
 ·cases hk;exact .inl hz
 rename_i c q'
 split at hk
 rotate_left
 ·cases hk;exact .inl hz
 rename_i h2;subst h2
 split at hk
 ·cases hk
 ·cases hk;exact .inr ⟨rfl,by simp,hz⟩
theorem Sat.cJ(S:Sat C U σ a w ι){id n i j sz bc g:Nat}{t:Bool}{e:TypeId}{es bP:List (List D)}{x:List D}{v:Value}(a9:σ.h id = .sl e sz (.dp g t []) es)(hx:es[i]? = some x)(mR:x[j]? = some (.sl bc bP))(p7:0<bc)
  (hU:U n) (bN:∀ i,U' i->U i/\i≠n) (di:∃ bk cur e0,ι id=some bk/\w.heap[bk]? = some (.cells cur e0 (0,0))/\cur[ι.o id+i*sz+j]? = some v) :
  ∃ ι',Sat C U' ⟨σ.t,bI (bI σ.h n (.sl 0 bc (.dp 0 false []) bP)) id (.sl e sz (.dp (g+1) t [(i,j)]) es),σ.nx⟩ a w ι'/\
   VR w (Fz C w ι' (bI (bI σ.h n (.sl 0 bc (.dp 0 false []) bP)) id (.sl e sz (.dp (g+1) t [(i,j)]) es))) ι' (bI (bI σ.h n (.sl 0 bc (.dp 0 false []) bP)) id (.sl e sz (.dp (g+1) t [(i,j)]) es)) v (.r bc n 0 bP.length)/\
   ι' id=ι id/\ι'.o id=ι.o id/\(∀ b,Fz C w ι σ.h b->Fz C w ι' (bI (bI σ.h n (.sl 0 bc (.dp 0 false []) bP)) id (.sl e sz (.dp (g+1) t [(i,j)]) es)) b)/\
   ∀ y,cY w w ι ι' σ.h (bI (bI σ.h n (.sl 0 bc (.dp 0 false []) bP)) id (.sl e sz (.dp (g+1) t [(i,j)]) es)) y:=by
 obtain⟨fq,ma⟩:=S.fresh n hU;have dM:n≠id:=λh=>by subst h;rw[fq]at a9;cases a9
 obtain⟨bk,cur,e0,c1,c2,c3⟩:=di;have vf:=S.fh id;rw[a9]at vf
 cases vf with
 | slnil=>simp at hx
 | sl mc _ ve _ _ _ dg hz hi fb eN hle cW bV dR =>
 rw[c1]at hi;cases hi;rw[c2]at fb;cases fb;obtain⟨u,h5,h6,h7⟩:=dR i j x _ hx mR;rw[c3]at h5;cases h5;have ju:=h7 (by simp);obtain⟨h',b9⟩:∃ h',h'=bI (bI σ.h n (.sl 0 bc (.dp 0 false []) bP)) id (.sl e sz (.dp (g+1) t [(i,j)]) es):=⟨_,rfl⟩
 have e1:h' id = .sl e sz (.dp (g+1) t [(i,j)]) es:=by rw[b9,QN]
 have e2:h' n = .sl 0 bc (.dp 0 false []) bP:=by rw[b9,QI _ _ _ _ dM,QN]
 have e3:∀ y,y≠n->y≠id->h' y=σ.h y:=λy h1 h2=>by rw[b9,QI _ _ _ _ h2,QI _ _ _ _ h1]
 rw[<- b9];have key:∀(r:Option Nat)(o:Nat),(∀ b,r=some b->ι.k b=some (id,[(i,j)]))->
   BR w (Fz C w (ι.cJ id n i j r o) h') (ι.cJ id n i j r o) h' n (h' n)->VR w (Fz C w (ι.cJ id n i j r o) h') (ι.cJ id n i j r o) h' v (.r bc n 0 bP.length)->
   ∃ ι',Sat C U' ⟨σ.t,h',σ.nx⟩ a w ι'/\VR w (Fz C w ι' h') ι' h' v (.r bc n 0 bP.length)/\ι' id=ι id/\ι'.o id=ι.o id/\(∀ b,Fz C w ι σ.h b->Fz C w ι' h' b)/\∀ y,cY w w ι ι' σ.h h' y:=by
  intro r o hr p8 hVR;have fw:∀ y,y≠n->(ι.cJ id n i j r o) y=ι y:=λy hy=>QI _ _ _ _ hy;have oh:∀ y,y≠n->(ι.cJ id n i j r o).o y=ι.o y:=λy hy=>QI _ _ _ _ hy;have mU:(ι.cJ id n i j r o) n=r:=QN _ _ _;have gg:∀ y,y≠id->mD w w ι (ι.cJ id n i j r o) y:=λy hy b p hk=>⟨OU hk (λh=>by rw[hr b h]at hk;cases hk;exact hy rfl) (.inl hy),rfl⟩
  have bU:∀ y,y≠n->y≠id->Rest w w ι (ι.cJ id n i j r o) y:=λy hy lh=>⟨fw y hy,oh y hy,λ_ _=>rfl,gg y lh⟩
  have hF:∀ b,Fz C w ι σ.h b->Fz C w (ι.cJ id n i j r o) h' b:=by
   intro b ⟨h1,h2,h3,h4⟩;refine⟨h1,h2,λy hy=>?_,?_⟩
   ·by_cases h8:y=n
    ·subst h8;rw[mU]at hy;rw[hr b hy]at h4
     cases h4
    ·rw[fw y h8]at hy;have:=h3 y hy;by_cases h9:y=id
     ·subst h9;rw[a9]at this;cases this
     ·rw[e3 y h8 h9];exact this
   ·simp only[Io.cJ]
    split
    ·rfl
    ·rw[h4]
  have hg:∀ y,cY w w ι (ι.cJ id n i j r o) σ.h h' y:=by
   intro y;by_cases h1:y=n
   ·subst h1;exact .inl fq
   by_cases h2:y=id
   ·subst h2;unfold cY;rw[e1,a9];exact .inr (.inr ⟨fw y h1,oh y h1,⟨rfl,rfl,rfl,⟨λh=>h,λg' h=>⟨g,rfl,by cases h;omega⟩⟩⟩,λ_ _=>rfl,λg' h h'=>by cases h;cases h'⟩)
   ·exact(bU y h1 h2).gD (e3 y h1 h2)
  refine⟨ι.cJ id n i j r o,S.eh S.dD (λb hb=>⟨hF b hb,rfl⟩) hg (λy cs hb=>?_) (λy=>?_) (λy z b hy hz=>?_) (λy b hy=>?_) (λy hy=>?_) (λy b hy=>?_) (λb y p hk=>?_),hVR,fw id dM.symm,oh id dM.symm,hF,hg⟩
  ·by_cases h1:y=n
   ·subst h1;rw[fq]at hb;cases hb
   by_cases h2:y=id
   ·subst h2;rw[a9]at hb;cases hb
   rw[e3 y h1 h2,hb];simp
  ·by_cases h1:y=n
   ·subst h1;right;exact p8
   by_cases h2:y=id
   ·subst h2;right;rw[e1];refine .sl bk e e0 sz _ es cur hz ((fw y h1).trans c1) c2 (λh=>by rw[oh y h1];exact eN h) (by rw[oh y h1];exact hle) cW bV (λp q el d cT hd=>?_);obtain⟨u,h5,h6,h7⟩:=dR p q el d cT hd;refine⟨u,by rw[oh y h1];exact h5,h6,λdr=>(h7 (by simp)).map _ λb q' hk=>⟨?_,rfl⟩⟩;have mS:(p,q)≠(i,j):=by simpa using dr
    exact OU hk (λh=>by rw[hr b h]at hk;simp at hk;exact mS (by rw[Prod.mk.injEq];exact⟨hk.1.1.symm,hk.1.2.symm⟩)) (.inr ⟨(p,q),q',rfl,mS⟩)
   ·left;exact⟨e3 y h1 h2,bU y h1 h2⟩
  ·by_cases h1:y=n
   ·subst h1;by_cases h2:z=y
    ·exact h2.symm
    ·rw[mU]at hy;rw[fw z h2]at hz;exact absurd hz ((S.df b id _ (hr b hy)).ne z)
   ·rw[fw y h1]at hy;by_cases h2:z=n
    ·subst h2;rw[mU]at hz;exact absurd hy ((S.df b id _ (hr b hz)).ne y)
    ·rw[fw z h2]at hz;exact S.inj y z b hy hz
  ·by_cases h1:y=n
   ·subst h1;rw[mU]at hy;have L:=S.df b id _ (hr b hy);exact⟨.inl L.fr,L.lt⟩
   ·rw[fw y h1]at hy;obtain⟨h3,h4⟩:=S.eg y b hy;refine⟨h3.imp (λh=>h) λ⟨h5,cs,h6⟩=>⟨h5,cs,?_⟩,h4⟩;by_cases h7:y=id
    ·subst h7;rw[a9]at h6;cases h6
    ·rw[e3 y h1 h7];exact h6
  ·obtain⟨h1,h2⟩:=bN y hy;obtain⟨h3,h4⟩:=S.fresh y h1;have h5:y≠id:=λh=>by subst h;rw[a9]at h3;cases h3
   rw[e3 y h2 h5,fw y h2];exact⟨h3,h4⟩
  ·by_cases h1:y=n
   ·subst h1;rw[e2];simp
   ·rw[fw y h1]at hy;by_cases h7:y=id
    ·subst h7;rw[e1];simp
    ·rw[e3 y h1 h7];exact S.live y b hy
  ·obtain⟨h0,h1⟩:=QJi hk;have pW:∀ L:(∀ z,ι z≠some b),∀ z,(ι.cJ id n i j r o) z≠some b:=λL z hz=>by
    by_cases h1:z=n
    ·subst h1;rw[mU]at hz;exact h0 hz
    ·rw[fw z h1]at hz;exact L z hz
   rcases h1 with h1 | ⟨rfl,h2,h1⟩
   ·have L:=S.df b y p h1;refine⟨L.pn,?_,L.fr,L.lt,pW L.ne⟩;have h8:y≠n:=λh=>by subst h;obtain⟨_,_,_,_,_,_,h9⟩:=L.dp;rw[fq]at h9;cases h9
    by_cases h7:y=id
    ·subst h7;rw[e1];exact⟨_,_,_,_,_,_,rfl⟩
    ·rw[e3 y h8 h7];exact L.dp
   ·have L:=S.df b id _ h1;exact⟨h2,by rw[e2];exact⟨_,_,_,_,_,_,rfl⟩,L.fr,L.lt,pW L.ne⟩
 cases ju with
 | nil =>
  refine key none 0 (by simp) ?_ (.cL n 0 bc _ (QN _ _ _) e2);rw[e2];exact .slnil 0 bc _ p7 (QN _ _ _)
 | emp _ ad cap =>
  refine key none 0 (by simp) ?_ (.de ad cap n 0 bc _ (QN _ _ _) e2 rfl);rw[e2];exact .slnil 0 bc _ p7 (QN _ _ _)
 | sl _ b0 o0 len cap _ _ D0 e00 xv hz0 ah3 hlen cj ah4 lj om mV D1 D2 OV =>
  have eR:(ι.cJ id n i j (some b0) o0).o n=o0:=QN _ _ _;refine key (some b0) o0 (λb h=>by cases h;exact om) ?_ ?_
  ·rw[e2];refine .sl b0 0 e00 bc _ bP D0 p7 (QN _ _ _) mV (λh=>by cases h) (by rw[eR,hlen];exact D1) (by omega) lj (λp q el d cT hd=>⟨xv p q,by rw[eR];exact D2 p q el d cT hd,(OV p q el d cT hd).one,λ_=>?_⟩);refine(OV p q el d cT hd).map _ λb q' hk=>⟨?_,rfl⟩
   simp only[Io.cJ];rw[if_neg (λh=>by cases h;rw[om]at hk;simp at hk)];have hk:ι.k b=some (id,(i,j)::((p,q)::q')):=by simpa using hk
   rw[hk];simp
  ·rw[hlen];refine .r n 0 len b0 o0 cap 0 bc _ bP (QN _ _ _) e2 (by omega) cj (λ_=>by rw[eR];simp) (λh=>by cases h)
end
end Go.Proofs.YtdplaepmjogjjaaGreat.Am

