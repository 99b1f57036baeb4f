/- -/
import Derived.WalkKit
import Derived.KernelRfl
set_option linter.all false
namespace Go.Proofs.YtdplaepmjogjjaaGreat.Am
open Go Go.RowKit
inductive D where
 | v (x:Value)
 | sl (sz:Nat) (es:List (List D))
abbrev cE:=List (Nat × Nat)
inductive Mo where
 | fz
 | ow
 | dp (g:Nat) (t:Bool) (H:cE)
def Mo.own:Mo->Bool
 | .fz=>false
 | _=>true
def Mo.eZ:Mo->Bool
 | .fz=>false
 | .ow=>true
 | .dp _ t _=>t
def Mo.gen:Mo->Option Nat
 | .dp g _ _=>some g
 | _=>none
def Mo.full:Mo->Bool
 | .dp _ _ (_::_)=>false
 | _=>true
structure Mo.le(m m':Mo):Prop where
 eZ:m'.eZ=true->m.eZ=true
 gen:∀ g',m'.gen=some g'->∃ g,m.gen=some g/\g<=g'
theorem Mo.le.refl(m:Mo):Mo.le m m:=⟨λh=>h,λg h=>⟨g,h,Nat.le_refl _⟩⟩
theorem Mo.le.trans{a b c:Mo}(h:Mo.le a b)(h':Mo.le b c):Mo.le a c :=
 ⟨λe=>h.eZ (h'.eZ e),λg e=>let⟨g1,h1,h2⟩:=h'.gen g e;let⟨g2,h3,h4⟩:=h.gen g1 h1;⟨g2,h3,Nat.le_trans h4 h2⟩⟩
theorem Mo.og(m:Mo):Mo.le m .fz:=⟨λh=>(by cases h),λg h=>(by cases h)⟩
inductive AV where
 | u
 | c (d:D)
 | n (sz:Nat)
 | r (sz id off len:Nat)
 | p (id i j:Nat)
 | q (cs:List D) (j:Nat)
 | a (cs:List AV)
 | t (vs:List AV)
 | bx (cs:List AV)
 | ow (e:TypeId) (sz:Nat) (m:Mo) (es:List (List D))
 | b (d:D) (id g:Nat) (p:cE)
 | bq (cs:List D) (j id g:Nat) (p:cE) (i:Nat)
inductive aQ where
 | none
 | dead
 | box (cs:List AV)
 | sl (e:TypeId) (sz:Nat) (m:Mo) (es:List (List D))
structure St where
 t:Nat->AV
 h:Nat->aQ
 nx:Nat
def bI{α:Type}(f:Nat->α)(i:Nat)(x:α):Nat->α:=λj=>if j=i then x else f j
theorem QN{α:Type}(f:Nat->α)(i:Nat)(x:α):bI f i x i=x:=by simp[bI]
theorem QI{α:Type}(f:Nat->α)(i j:Nat)(x:α)(h:j≠i):bI f i x j=f j:=by simp[bI,h]
structure Io where
 b:Nat->Option Nat
 k:Nat->Option (Nat × cE)
 o:Nat->Nat
instance:CoeFun Io λ_=>Nat->Option Nat:=⟨Io.b⟩
def Io.up(ι:Io)(i:Nat)(x:Option Nat)(o:Nat):Io:=⟨bI ι.b i x,ι.k,bI ι.o i o⟩
theorem Io.cy(ι:Io)(i:Nat)(x:Option Nat)(o:Nat):(ι.up i x o) i=x:=QN _ _ _
theorem Io.fD(ι:Io)(i j:Nat)(x:Option Nat)(o:Nat)(h:j≠i):(ι.up i x o) j=ι j:=QI _ _ _ _ h
theorem Io.bZ(ι:Io)(i:Nat)(x:Option Nat)(o:Nat):(ι.up i x o).o i=o:=QN _ _ _
theorem Io.pT(ι:Io)(i j:Nat)(x:Option Nat)(o:Nat)(h:j≠i):(ι.up i x o).o j=ι.o j:=QI _ _ _ _ h
inductive Rd(w:World)(F:Nat->Prop):Value->D->Prop where
 | v (x:Value) (h:x.oneCell'=true):Rd w F x (.v x)
 | nil (sz:Nat):Rd w F (.slice none 0 0) (.sl sz [])
 | emp (a:Addr) (cap sz:Nat):Rd w F (.slice (some a) 0 cap) (.sl sz [])
 | sl (b o len cap sz:Nat) (es:List (List D)) (x:Nat->Nat->Value) (hlen:es.length=len) (ck:len<=cap) (cX:len<=maxLen) (bV:∀ e,e∈es->e.length=sz) (hb:es≠[]->F b)
   (hc:∀ i j e d,es[i]? = some e->e[j]? = some d->w.cell? ⟨b,o+i*sz+j,Option.none⟩=some (x i j))
   (hr:∀ i j e d,es[i]? = some e->e[j]? = some d->Rd w F (x i j) d):Rd w F (.slice (some ⟨b,o,Option.none⟩) len cap) (.sl sz es)
theorem Rd.one{w:World}{F:Nat->Prop}{v:Value}{d:D}(h:Rd w F v d):v.oneCell'=true:=by
 cases h with
 | v x h=>exact h
 | nil=>rfl
 | emp=>rfl
 | sl=>rfl
theorem Rd.mono{w w':World}{F F':Nat->Prop}(hF:∀ b,F b->F' b/\w'.heap[b]? = w.heap[b]?){v:Value}{d:D}(h:Rd w F v d):Rd w' F' v d:=by
 induction h with
 | v x h=>exact .v x h
 | nil sz=>exact .nil sz
 | emp a cap sz=>exact .emp a cap sz
 | sl b o len cap sz es x hlen ck cX bV hb hc hr ih =>
  refine .sl b o len cap sz es x hlen ck cX bV (λhn=>(hF b (hb hn)).1) (λi j e d he hd=>?_) ih;rw[World.cell?_of_block (w:=w) (w':=w') (a:=⟨b,_,Option.none⟩) (hF b (hb (λh0=>by rw[h0]at he;simp at he))).2];exact hc i j e d he hd
inductive RL(w:World)(K:Nat->Option (Nat × cE))(id:Nat):cE->Value->D->Prop where
 | v (p:cE) (x:Value) (h:x.oneCell'=true):RL w K id p x (.v x)
 | nil (p:cE) (sz:Nat):RL w K id p (.slice none 0 0) (.sl sz [])
 | emp (p:cE) (a:Addr) (cap sz:Nat):RL w K id p (.slice (some a) 0 cap) (.sl sz [])
 | sl (p:cE) (b o len cap sz:Nat) (es:List (List D)) (cur:Array Value) (e0:TypeId) (x:Nat->Nat->Value) (hz:0<sz) (dN:es≠[]) (hlen:es.length=len) (ck:len<=cap) (cX:len<=maxLen) (bV:∀ e,e∈es->e.length=sz)
   (hk:K b=some (id,p)) (hb:w.heap[b]? = some (.cells cur e0 (0,0))) (hle:o+len*sz<=cur.size)
   (hc:∀ i j e d,es[i]? = some e->e[j]? = some d->cur[o+i*sz+j]? = some (x i j))
   (hr:∀ i j e d,es[i]? = some e->e[j]? = some d->RL w K id (p++[(i,j)]) (x i j) d):RL w K id p (.slice (some ⟨b,o,Option.none⟩) len cap) (.sl sz es)
theorem RL.one{w:World}{K:Nat->Option (Nat × cE)}{id:Nat}{p:cE}{v:Value}{d:D}(h:RL w K id p v d):v.oneCell'=true:=by
 cases h with
 | v p x h=>exact h
 | nil=>rfl
 | emp=>rfl
 | sl=>rfl
theorem RL.rd{w:World}{K:Nat->Option (Nat × cE)}{id:Nat}{F:Nat->Prop}(hF:∀ b p,K b=some (id,p)->F b){p:cE}{v:Value}{d:D}(h:RL w K id p v d):Rd w F v d:=by
 induction h with
 | v p x h=>exact .v x h
 | nil p sz=>exact .nil sz
 | emp p a cap sz=>exact .emp a cap sz
 | sl p b o len cap sz es cur e0 x hz dN hlen ck cX bV hk hb hle hc hr ih =>
  exact .sl b o len cap sz es x hlen ck cX bV (λ_=>hF b p hk) (λi j e d he hd=>by simp[World.cell?,hb,hc i j e d he hd]) ih
theorem RL.map{w w':World}{K K':Nat->Option (Nat × cE)}{id b8:Nat}{p:cE}{v:Value}{d:D}(h:RL w K id p v d):∀(p':cE),
  (∀ b q,K b=some (id,p++q)->K' b=some (b8,p'++q)/\w'.heap[b]? = w.heap[b]?)->RL w' K' b8 p' v d:=by
 induction h with
 | v p x h=>intro p' _;exact .v p' x h
 | nil p sz=>intro p' _;exact .nil p' sz
 | emp p a cap sz=>intro p' _;exact .emp p' a cap sz
 | sl p b o len cap sz es cur e0 x hz dN hlen ck cX bV hk hb hle hc hr ih =>
  intro p' hp;obtain⟨h1,h2⟩:=hp b [] (by simpa using hk);refine .sl p' b o len cap sz es cur e0 x hz dN hlen ck cX bV (by simpa using h1) (h2.trans hb) hle hc (λi j e d he hd=>ih i j e d he hd (p'++[(i,j)]) λb q hq=>?_);have:=hp b ((i,j)::q) (by simpa using hq);simpa using this
theorem RL.mono{w w':World}{K K':Nat->Option (Nat × cE)}{id:Nat}(hK:∀ b p,K b=some (id,p)->K' b=some (id,p)/\w'.heap[b]? = w.heap[b]?){p:cE}{v:Value}{d:D}(h:RL w K id p v d):RL w' K' id p v d :=
 h.map p λb q hq=>hK b _ hq
def aQ.sz:aQ->Nat
 | .sl _ sz _ _=>sz
 | _=>0
def aQ.gen:aQ->Option Nat
 | .sl _ _ m _=>m.gen
 | _=>Option.none
def aQ.dq:aQ->Option Nat
 | .sl _ _ (.dp g _ []) _=>some g
 | _=>Option.none
theorem aQ.eB{B:aQ}{g:Nat}(h:B.dq=some g):B.gen=some g:=by
 unfold aQ.dq at h
 split at h
 ·exact h
 ·cases h
theorem aQ.kl{e:TypeId}{sz:Nat}{m:Mo}{es:List (List D)}{g:Nat}(h:(aQ.sl e sz m es).dq=some g):m.full=true:=by
 cases m with
 | dp g t H=>cases H with
  | nil=>rfl
  | cons=>cases h
 | _=>rfl
inductive VR(w:World)(F:Nat->Prop)(ι:Io)(h:Nat->aQ):Value->AV->Prop where
 | u (v:Value):VR w F ι h v .u
 | c (v:Value) (d:D) (hr:Rd w F v d):VR w F ι h v (.c d)
 | n (sz:Nat):VR w F ι h (.slice Option.none 0 0) (.n sz)
 | cz (v:Value) (sz id off len:Nat) (h1:v.oneCell'=true) (hd:h id = .dead):VR w F ι h v (.r sz id off len)
 | cM (id:Nat) (e:TypeId) (sz:Nat) (m:Mo) (hi:ι id=Option.none) (hh:h id = .sl e sz m []):VR w F ι h (.slice Option.none 0 0) (.r sz id 0 0)
 | df (ad:Addr) (cap id:Nat) (e:TypeId) (sz:Nat) (m:Mo) (hi:ι id=Option.none) (hh:h id = .sl e sz m []) (ht:m.eZ=false):VR w F ι h (.slice (some ad) 0 cap) (.r sz id 0 0)
 | r (id off len b ao cap:Nat) (e:TypeId) (sz:Nat) (m:Mo) (es:List (List D)) (hi:ι id=some b) (hh:h id = .sl e sz m es) (hlen:off+len<=es.length)
   (ck:len<=cap) (ho:len≠0->ao=ι.o id+off*sz) (cY:m.eZ=true->off=0->ao=0/\w.shape? b=some (e,cap*sz)):VR w F ι h (.slice (some ⟨b,ao,Option.none⟩) len cap) (.r sz id off len)
 | cT (v:Value) (id i j:Nat) (h1:v.oneCell'=true) (hd:h id = .dead):VR w F ι h v (.p id i j)
 | p (id i j b:Nat) (hi:ι id=some b) (hn:h id≠.none) (hd:h id≠.dead):VR w F ι h (.pointer (some ⟨b,ι.o id+i*(h id).sz+j,Option.none⟩)) (.p id i j)
 | q (b o j:Nat) (cs:List D) (x:Nat->Value) (hb:F b) (hc:∀ k d,cs[k]? = some d->w.cell? ⟨b,o+k,Option.none⟩=some (x k)) (hr:∀ k d,cs[k]? = some d->Rd w F (x k) d) :
   VR w F ι h (.pointer (some ⟨b,o+j,Option.none⟩)) (.q cs j)
 | a (vs:Array Value) (cs:List AV) (hl:vs.size=cs.length) (h1:∀(k:Nat)(v:Value),vs[k]? = some v->v.oneCell'=true) (hv:∀(k:Nat)(v:Value)(x:AV),vs[k]? = some v->cs[k]? = some x->VR w F ι h v x):VR w F ι h (.agg vs) (.a cs)
 | t (vs:Array Value) (cs:List AV) (hl:vs.size=cs.length) (hv:∀(k:Nat)(v:Value)(x:AV),vs[k]? = some v->cs[k]? = some x->VR w F ι h v x):VR w F ι h (.tuple vs) (.t cs)
 | fo (v:Value) (d:D) (id g:Nat) (p:cE) (h1:v.oneCell'=true) (hd:h id = .dead):VR w F ι h v (.b d id g p)
 | b (v:Value) (d:D) (id g:Nat) (p:cE) (e:TypeId) (sz:Nat) (m:Mo) (es:List (List D)) (h1:v.oneCell'=true) (hh:h id = .sl e sz m es) (hg:∀ g0,m.gen=some g0->g<=g0)
   (hv:m.gen=some g->RL w ι.k id p v d/\∀ i j,p=[(i,j)]->∃ bk cur e0,ι id=some bk/\w.heap[bk]? = some (.cells cur e0 (0,0))/\cur[ι.o id+i*sz+j]? = some v):VR w F ι h v (.b d id g p)
 | eJ (v:Value) (cs:List D) (j id g:Nat) (p:cE) (i:Nat) (h1:v.oneCell'=true) (hd:h id = .dead):VR w F ι h v (.bq cs j id g p i)
 | bq (v:Value) (cs:List D) (j id g:Nat) (p:cE) (i:Nat) (e:TypeId) (sz:Nat) (m:Mo) (es:List (List D)) (h1:v.oneCell'=true) (hh:h id = .sl e sz m es) (hg:∀ g0,m.gen=some g0->g<=g0)
   (hv:m.gen=some g->∃ bk o cur e0,v = .pointer (some ⟨bk,o+j,Option.none⟩)/\ι.k bk=some (id,p)/\w.heap[bk]? = some (.cells cur e0 (0,0))/\∀ k d,cs[k]? = some d->∃ x,cur[o+k]? = some x/\RL w ι.k id (p++[(i,k)]) x d):VR w F ι h v (.bq cs j id g p i)
def cN:aQ->aQ->Prop
 | .box cs,.box cs'=>cs'.length=cs.length
 | .sl e sz m es,.sl e' ba m' bP=>e'=e/\ba=sz/\bP.length=es.length/\Mo.le m m'
 | _,_=>False
theorem cN.sz{x y:aQ}(h:cN x y):y.sz=x.sz:=by
 cases x <;> cases y <;> simp_all [cN,aQ.sz]
theorem cN.trans{x y z:aQ}(h:cN x y)(h':cN y z):cN x z:=by
 cases x <;> cases y <;> simp only[cN]at h <;> cases z <;> simp only[cN]at h' ⊢
 ·exact h'.trans h
 ·exact⟨h'.1.trans h.1,h'.2.1.trans h.2.1,h'.2.2.1.trans h.2.2.1,h.2.2.2.trans h'.2.2.2⟩
theorem cN.ne{x y:aQ}(h:cN x y):y≠.none/\y≠.dead:=by
 cases x <;> cases y <;> simp_all [cN]
theorem cN.refl{x:aQ}(h1:x≠.none)(h2:x≠.dead):cN x x:=by
 cases x with
 | none=>exact absurd rfl h1
 | dead=>exact absurd rfl h2
 | box cs=>exact rfl
 | sl e sz m es=>exact⟨rfl,rfl,rfl,.refl _⟩
def Yj:aQ->aQ->Prop
 | .box cs,.box cs'=>cs'.length=cs.length
 | .sl e sz m es,.sl e' ba m' bP=>e'=e/\ba=sz/\bP.length=es.length/\(m'.eZ=true->m.eZ=true)/\(m'.gen.isSome=true->m.gen.isSome=true)
 | _,_=>False
theorem cN.w{x y:aQ}(h:cN x y):Yj x y:=by
 cases x <;> cases y <;> simp only[cN]at h
 ·exact h
 ·refine⟨h.1,h.2.1,h.2.2.1,h.2.2.2.eZ,λhg=>?_⟩;obtain⟨g,hg⟩:=Option.isSome_iff_exists.1 hg;obtain⟨g0,h0,_⟩:=h.2.2.2.gen g hg;rw[h0];rfl
theorem Yj.trans{x y z:aQ}(h:Yj x y)(h':Yj y z):Yj x z:=by
 cases x <;> cases y <;> simp only[Yj]at h <;> cases z <;> simp only[Yj]at h' ⊢
 ·exact h'.trans h
 ·exact⟨h'.1.trans h.1,h'.2.1.trans h.2.1,h'.2.2.1.trans h.2.2.1,λe=>h.2.2.2.1 (h'.2.2.2.1 e),λe=>h.2.2.2.2 (h'.2.2.2.2 e)⟩
theorem Yj.ne{x y:aQ}(h:Yj x y):y≠.none/\y≠.dead:=by
 cases x <;> cases y <;> simp_all [Yj]
def mH(w w':World)(ι ι':Io)(id:Nat):Prop:=∀ b p,ι.k b=some (id,p)->ι'.k b=some (id,p)/\w'.heap[b]? = w.heap[b]?
def cZ(w w':World)(ι ι':Io)(h h':Nat->aQ)(id:Nat):Prop :=
 h id = .none\/h' id = .dead\/(ι' id=ι id/\ι'.o id=ι.o id/\cN (h id) (h' id)/\(∀ b,ι id=some b->w'.shape? b=w.shape? b)/\
  ∀ g,(h id).gen=some g->(h' id).gen=some g->(∀ b,ι id=some b->w'.heap[b]? = w.heap[b]?)/\mH w w' ι ι' id)
theorem VR.mono{w w':World}{F F':Nat->Prop}{ι ι':Io}{h h':Nat->aQ}(hF:∀ b,F b->F' b/\w'.heap[b]? = w.heap[b]?)
  (hg:∀ id,cZ w w' ι ι' h h' id) {v:Value} {x:AV} (hv:VR w F ι h v x):VR w' F' ι' h' v x:=by
 have dead:∀ id,h id = .dead->h' id = .dead:=by
  intro id hd
  rcases hg id with g | g | ⟨_,_,g,_⟩
  ·rw[hd]at g;cases g
  ·exact g
  ·rw[hd]at g;cases hx:h' id <;> simp[hx,cN]at g
 have fx:∀ id e sz m es,h id = .sl e sz m es->h' id = .dead\/(ι' id=ι id/\ι'.o id=ι.o id/\(∃ m' bP,h' id = .sl e sz m' bP/\bP.length=es.length/\Mo.le m m'/\
   ∀ g,m.gen=some g->m'.gen=some g->(∀ b,ι id=some b->w'.heap[b]? = w.heap[b]?)/\mH w w' ι ι' id)/\(∀ b,ι id=some b->w'.shape? b=w.shape? b)):=by
  intro id e sz m es hh
  rcases hg id with g | g | ⟨g1,g2,g,gs,gk⟩
  ·rw[hh]at g;cases g
  ·exact .inl g
  ·right;rw[hh]at g gk
   cases hx:h' id with
   | sl e' ba m' bP =>
    simp only[hx,cN]at g;obtain⟨rfl,rfl,hl,hm⟩:=g;rw[hx]at gk;exact⟨g1,g2,⟨m',bP,rfl,hl,hm,gk⟩,gs⟩
   | none=>simp[hx,cN]at g
   | dead=>simp[hx,cN]at g
   | box cs=>simp[hx,cN]at g
 induction hv with
 | u v=>exact .u v
 | c v d hr=>exact .c v d (hr.mono hF)
 | n sz=>exact .n sz
 | cz v sz id off len h1 hd=>exact .cz v sz id off len h1 (dead id hd)
 | cM id e sz m hi hh =>
  rcases fx id e sz m [] hh with g | ⟨g1,g2,⟨m',bP,g3,g4,g5,_⟩,_⟩
  ·exact .cz _ sz id 0 0 rfl g
  ·have:bP=[]:=List.eq_nil_of_length_eq_zero g4;subst this;exact .cM id _ _ m' (g1.trans hi) g3
 | df ad cap id e sz m hi hh ht =>
  rcases fx id e sz m [] hh with g | ⟨g1,g2,⟨m',bP,g3,g4,g5,_⟩,_⟩
  ·exact .cz _ sz id 0 0 rfl g
  ·have:bP=[]:=List.eq_nil_of_length_eq_zero g4;subst this;refine .df ad cap id _ _ m' (g1.trans hi) g3 ?_
   cases hx:m'.eZ with
   | false=>rfl
   | true=>rw[g5.eZ hx]at ht;cases ht
 | r id off len b ao cap e sz m es hi hh hlen ck ho cY =>
  rcases fx id e sz m es hh with g | ⟨g1,g2,⟨m',bP,g3,g4,g5,_⟩,gs⟩
  ·exact .cz _ sz id off len rfl g
  ·exact .r id off len b ao cap _ _ m' bP (g1.trans hi) g3 (by omega) ck (λhn=>by rw[g2];exact ho hn) (λht h0=>⟨(cY (g5.eZ ht) h0).1,(gs b hi).trans (cY (g5.eZ ht) h0).2⟩)
 | cT v id i j h1 hd=>exact .cT v id i j h1 (dead id hd)
 | p id i j b hi hn hd =>
  rcases hg id with g | g | ⟨g1,g2,g,_⟩
  ·exact absurd g hn
  ·exact .cT _ id i j rfl g
  ·rw[<- g.sz,<- g2];exact .p id i j b (g1.trans hi) g.ne.1 g.ne.2
 | q b o j cs x hb hc hr =>
  refine .q b o j cs x (hF b hb).1 (λk d hk=>?_) (λk d hk=>(hr k d hk).mono hF);rw[World.cell?_of_block (w:=w) (w':=w') (a:=⟨b,_,Option.none⟩) (hF b hb).2];exact hc k d hk
 | a vs cs hl h1 hv ih=>exact .a vs cs hl h1 ih
 | t vs cs hl hv ih=>exact .t vs cs hl ih
 | fo v d id g p h1 hd=>exact .fo v d id g p h1 (dead id hd)
 | b v d id g p e sz m es h1 hh iM jm =>
  rcases fx id e sz m es hh with q | ⟨g1,g2,⟨m',bP,g3,g4,g5,g6⟩,gs⟩
  ·exact .fo v d id g p h1 q
  ·refine .b v d id g p _ _ m' bP h1 g3 (λg0 iN=>?_) (λhm=>?_)
   ·obtain⟨ga,ha,hb⟩:=g5.gen g0 iN;have:=iM ga ha;omega
   ·obtain⟨ga,ha,hb⟩:=g5.gen g hm;have:=iM ga ha;have:ga=g:=by omega
    subst this;obtain⟨k1,k2⟩:=g6 ga ha hm;obtain⟨c1,c2⟩:=jm ha;refine⟨c1.mono k2,λi j hp=>?_⟩;obtain⟨bk,cur,e0,c3,c4,c5⟩:=c2 i j hp;exact⟨bk,cur,e0,g1.trans c3,(k1 bk c3).trans c4,by rw[g2];exact c5⟩
 | eJ v cs j id g p i h1 hd=>exact .eJ v cs j id g p i h1 (dead id hd)
 | bq v cs j id g p i e sz m es h1 hh iM jm =>
  rcases fx id e sz m es hh with q | ⟨g1,g2,⟨m',bP,g3,g4,g5,g6⟩,gs⟩
  ·exact .eJ v cs j id g p i h1 q
  ·refine .bq v cs j id g p i _ _ m' bP h1 g3 (λg0 iN=>?_) (λhm=>?_)
   ·obtain⟨ga,ha,hb⟩:=g5.gen g0 iN;have:=iM ga ha;omega
   ·obtain⟨ga,ha,hb⟩:=g5.gen g hm;have:=iM ga ha;have:ga=g:=by omega
    subst this;obtain⟨k1,k2⟩:=g6 ga ha hm;obtain⟨bk,o,cur,e0,c1,c2,c3,c4⟩:=jm ha;obtain⟨k3,k4⟩:=k2 bk p c2;refine⟨bk,o,cur,e0,c1,k3,k4.trans c3,λk d hk=>?_⟩;obtain⟨x,c5,c6⟩:=c4 k d hk;exact⟨x,c5,c6.mono k2⟩
def RM(w:World)(F:Nat->Prop)(ι:Io)(id:Nat)(m:Mo)(i j:Nat)(v:Value)(d:D):Prop:=match m with
 | .dp _ _ H=>v.oneCell'=true/\((i,j)∉H->RL w ι.k id [(i,j)] v d)
 | _=>Rd w F v d
theorem RM.one{w:World}{F:Nat->Prop}{ι:Io}{id:Nat}{m:Mo}{i j:Nat}{v:Value}{d:D}(h:RM w F ι id m i j v d):v.oneCell'=true:=by
 cases m with
 | dp g t H=>exact h.1
 | _=>exact Rd.one h
theorem RM.mono{w w':World}{F F':Nat->Prop}{ι ι':Io}(hF:∀ b,F b->F' b/\w'.heap[b]? = w.heap[b]?){id:Nat}(hk:mH w w' ι ι' id){m:Mo}{i j:Nat}{v:Value}{d:D}(h:RM w F ι id m i j v d):RM w' F' ι' id m i j v d:=by
 cases m with
 | dp g t H=>exact⟨h.1,λhn=>(h.2 hn).mono hk⟩
 | _=>exact Rd.mono hF h
theorem RM.rd{w:World}{F F':Nat->Prop}{ι:Io}{id:Nat}{m:Mo}{i j:Nat}{v:Value}{d:D}(hm:m.full=true)(hF:∀ b,F b->F' b)(hk:∀ b p,ι.k b=some (id,p)->F' b)(h:RM w F ι id m i j v d):Rd w F' v d:=by
 cases m with
 | dp g t H =>
  cases H with
  | nil=>exact(h.2 (by simp)).rd hk
  | cons=>simp[Mo.full]at hm
 | _=>exact Rd.mono (λb hb=>⟨hF b hb,rfl⟩) h
inductive BR(w:World)(F:Nat->Prop)(ι:Io)(h:Nat->aQ)(id:Nat):aQ->Prop where
 | none:BR w F ι h id .none
 | dead:BR w F ι h id .dead
 | box (b:Nat) (e:TypeId) (bj:Array Value) (cs:List AV) (hi:ι id=some b) (ho:ι.o id=0) (hb:w.heap[b]? = some (.cells bj e (0,0))) (hl:bj.size=cs.length)
   (h1:∀(k:Nat)(v:Value),bj[k]? = some v->v.oneCell'=true) (hv:∀(k:Nat)(v:Value)(x:AV),bj[k]? = some v->cs[k]? = some x->VR w F ι h v x):BR w F ι h id (.box cs)
 | slnil (e:TypeId) (sz:Nat) (m:Mo) (hz:0<sz) (hi:ι id=Option.none):BR w F ι h id (.sl e sz m [])
 | sl (b:Nat) (e e0:TypeId) (sz:Nat) (m:Mo) (es:List (List D)) (cur:Array Value) (hz:0<sz) (hi:ι id=some b) (hb:w.heap[b]? = some (.cells cur e0 (0,0)))
   (eO:m.eZ=true->e0=e/\ι.o id=0/\∃ C,cur.size=C*sz/\es.length<=C/\C<=maxLen) (hle:ι.o id+es.length*sz<=cur.size) (cX:es.length<=maxLen) (bV:∀ x,x∈es->x.length=sz)
   (hv:∀ i j x d,es[i]? = some x->x[j]? = some d->∃ v,cur[ι.o id+i*sz+j]? = some v/\RM w F ι id m i j v d):BR w F ι h id (.sl e sz m es)
theorem BR.mono{w w':World}{F F':Nat->Prop}{ι ι':Io}{h h':Nat->aQ}(hF:∀ b,F b->F' b/\w'.heap[b]? = w.heap[b]?)
  (hg:∀ id,cZ w w' ι ι' h h' id) {id:Nat} {x:aQ} (bY:ι' id=ι id) (iR:ι'.o id=ι.o id) (mI:∀ b,ι id=some b->w'.heap[b]? = w.heap[b]?) (ez:mH w w' ι ι' id) (hv:BR w F ι h id x):BR w' F' ι' h' id x:=by
 cases hv with
 | none=>exact .none
 | dead=>exact .dead
 | box b e bj cs hi ho hb hl h1 hv=>exact .box b e bj cs (bY.trans hi) (iR.trans ho) ((mI b hi).trans hb) hl h1 (λk v x hk hx=>(hv k v x hk hx).mono hF hg)
 | slnil e sz m hz hi=>exact .slnil e sz m hz (bY.trans hi)
 | sl b e e0 sz m es cur hz hi hb eO hle cX bV hv =>
  exact .sl b e e0 sz m es cur hz (bY.trans hi) ((mI b hi).trans hb) (λht=>by rw[iR];exact eO ht) (by rw[iR];exact hle) cX bV (λi j x d hx hd=>let⟨v,h1,h2⟩:=hv i j x d hx hd;⟨v,by rw[iR];exact h1,h2.mono hF ez⟩)
def aQ.own:aQ->Bool
 | .box _=>true
 | .sl _ _ m _=>m.own
 | _=>false
structure Hd where
 o:Option Nat
 base:Nat
 B:aQ
 K:Nat->Option cE
def Hd.has(x:Hd)(b:Nat):Prop:=x.o=some b\/∃ p,x.K b=some p
def Hd.io(x:Hd):Io:=⟨λ_=>x.o,λb=>(x.K b).map λp=>(0,p),λ_=>x.base⟩
structure Ctx where
 P:Program
 w0:World
 F0:Nat->Prop
 X:Nat->Prop
 L:Nat->Option Nat
 N:Nat
 G:Nat->Prop
 O:Nat->Option Hd
 GX:∀ b,G b->X b
def Ctx.fr(C:Ctx)(b:Nat):Prop:=C.w0.heap.size<=b\/C.G b
theorem Ctx.fr.dE{C:Ctx}{b:Nat}(h:C.fr b):C.w0.heap.size<=b\/C.X b:=h.imp (λh=>h) (C.GX b)
def Fz(C:Ctx)(w:World)(ι:Io)(h:Nat->aQ)(b:Nat):Prop :=
 b<w.heap.size/\(C.F0 b\/C.fr b)/\(∀ id,ι id=some b->(h id).own=false)/\ι.k b=none
structure km(C:Ctx)(w:World):Prop where
 os:w.os=C.w0.os
 tape:w.tape=C.w0.tape
 output:w.output=C.w0.output
 size:C.w0.heap.size<=w.heap.size
 block:∀ k,k<C.w0.heap.size->¬ C.X k->w.heap[k]? = C.w0.heap[k]?
structure Oq(C:Ctx)(w:World)(ι:Io)(h:Nat->aQ)(b id:Nat)(p:cE):Prop where
 pn:p≠[]
 dp:∃ e sz g t H es,h id = .sl e sz (.dp g t H) es
 fr:C.fr b
 lt:b<w.heap.size
 ne:∀ i,ι i≠some b
structure Sat(C:Ctx)(U:Nat->Prop)(σ:St)(a:Act)(w:World)(ι:Io):Prop where
 dE:km C w
 bj:∀ s,VR w (Fz C w ι σ.h) ι σ.h (a.tmps.getD s undef) (σ.t s)
 size:a.tmps.size=C.N
 defers:a.defers=[]
 fi:∀ id,BR w (Fz C w ι σ.h) ι σ.h id (σ.h id)
 inj:∀ i j b,ι i=some b->ι j=some b->i=j
 eh:∀ i b,ι i=some b->(C.fr b\/C.X b/\∃ cs,σ.h i = .box cs)/\b<w.heap.size
 fresh:∀ i,U i->σ.h i = .none/\ι i=Option.none
 live:∀ i b,ι i=some b->σ.h i≠.none/\σ.h i≠.dead
 b9:∀ i b,C.L i=some b->ι i=some b/\(∃ cs,σ.h i = .box cs)/\w.shape? b=C.w0.shape? b
 hand:∀ i x,C.O i=some x->σ.h i = .dead\/ι i=x.o/\ι.o i=x.base/\Yj x.B (σ.h i)/\∀ b,x.o=some b->w.shape? b=C.w0.shape? b
 dg:∀ b id p,ι.k b=some (id,p)->Oq C w ι σ.h b id p
def cA(C:Ctx)(U:Nat->Prop)(σ:St)(a:Act)(w:World):Prop:=∃ ι,Sat C U σ a w ι
def fa(C:Ctx)(σ:St)(a:Act)(w:World):Prop:=cA C (λi=>σ.nx<=i) σ a w
structure Rest(w w':World)(ι ι':Io)(id:Nat):Prop where
 b:ι' id=ι id
 o:ι'.o id=ι.o id
 heap:∀ b,ι id=some b->w'.heap[b]? = w.heap[b]?
 Ot:mH w w' ι ι' id
theorem Rest.gE{w w':World}{ι ι':Io}{h h':Nat->aQ}{id:Nat}(r:Rest w w' ι ι' id)(hh:h' id=h id):cZ w w' ι ι' h h' id:=by
 unfold cZ;rw[hh]
 cases hx:h id with
 | none=>exact .inl rfl
 | dead=>exact .inr (.inl rfl)
 | _=>exact .inr (.inr ⟨r.b,r.o,.refl (by simp) (by simp),λb hb=>by unfold World.shape?;rw[r.heap b hb],λ_ _ _=>⟨r.heap,r.Ot⟩⟩)
theorem Sat.ej{C:Ctx}{U U':Nat->Prop}{σ:St}{a:Act}{w w':World}{ι ι':Io}{h':Nat->aQ}{Ou:Nat}(S:Sat C U σ a w ι)(ju:km C w')
  (hF:∀ b,Fz C w ι σ.h b->Fz C w' ι' h' b/\w'.heap[b]? = w.heap[b]?)
  (hg:∀ id,cZ w w' ι ι' σ.h h' id)
  (jW:∀ i cs,σ.h i = .box cs->h' i≠.dead)
  (dr:∀ id,(h' id=σ.h id/\Rest w w' ι ι' id)\/BR w' (Fz C w' ι' h') ι' h' id (h' id))
  (pU:∀ i j b,ι' i=some b->ι' j=some b->i=j)
  (ko:∀ i b,ι' i=some b->(C.fr b\/C.X b/\∃ cs,h' i = .box cs)/\b<w'.heap.size)
  (pV:∀ i,U' i->h' i = .none/\ι' i=Option.none)
  (u4:∀ i b,ι' i=some b->h' i≠.none/\h' i≠.dead)
  (mJ:∀ b id p,ι'.k b=some (id,p)->Oq C w' ι' h' b id p):Sat C U' ⟨σ.t,h',Ou⟩ a w' ι' where
 dE:=ju
 bj:=λs=>(S.bj s).mono hF hg
 size:=S.size
 defers:=S.defers
 fi:=λid=>by
  rcases dr id with⟨h1,h2⟩ | hb
  ·have:=(S.fi id).mono hF hg h2.b h2.o h2.heap h2.Ot;rw[<- h1]at this;exact this
  ·exact hb
 inj:=pU
 eh:=ko
 fresh:=pV
 live:=u4
 b9:=λi b hL=>by
  obtain⟨h1,⟨cs,h2⟩,h3⟩:=S.b9 i b hL
  rcases hg i with g | g | ⟨g1,_,g2,g3,_⟩
  ·rw[h2]at g;cases g
  ·exact absurd g (jW i cs h2)
  ·refine⟨g1.trans h1,?_,(g3 b h1).trans h3⟩;rw[h2]at g2
   cases hx:h' i with
   | box cs'=>exact⟨cs',hx⟩
   | none=>simp[hx,cN]at g2
   | dead=>simp[hx,cN]at g2
   | sl e sz m es=>simp[hx,cN]at g2
 hand:=λi x hO=>by
  rcases S.hand i x hO with h1 | ⟨h1,fO,h2,h3⟩
  ·rcases hg i with g | g | ⟨_,_,g,_⟩
   ·rw[h1]at g;cases g
   ·exact .inl g
   ·rw[h1]at g;exact g.elim
  ·rcases hg i with g | g | ⟨g1,u5,g2,g3,_⟩
   ·exact absurd g h2.ne.1
   ·exact .inl g
   ·exact .inr ⟨g1.trans h1,u5.trans fO,h2.trans g2.w,λb hb=>(g3 b (h1.trans hb)).trans (h3 b hb)⟩
 dg:=mJ
theorem Sat.put{C:Ctx}{U:Nat->Prop}{σ:St}{a:Act}{w:World}{ι:Io}(S:Sat C U σ a w ι)(d:Nat)(hd:d<C.N)(v:Value)(x:AV)
  (hv:VR w (Fz C w ι σ.h) ι σ.h v x):Sat C U ⟨bI σ.t d x,σ.h,σ.nx⟩ (a.put (some d) v) w ι where
 dE:=S.dE
 bj:=λs=>by
  have bV:d<a.tmps.size:=by rw[S.size];exact hd
  by_cases hs:s=d
  ·subst hs;simp only[Act.put,QN];rw[show(a.tmps.setIfInBounds s v).getD s undef=v from by simp[Array.getD,bV]];exact hv
  ·have e1:(a.put (some d) v).tmps.getD s undef=a.tmps.getD s undef:=by
    simp only[Act.put,Array.getD_eq_getD_getElem?,Array.getElem?_setIfInBounds];rw[if_neg (λh=>hs h.symm)]
   rw[e1];show VR _ _ _ _ _ (bI σ.t d x s);rw[QI _ _ _ _ hs];exact S.bj s
 size:=by simp[Act.put,S.size]
 defers:=S.defers
 fi:=S.fi
 inj:=S.inj
 eh:=S.eh
 fresh:=S.fresh
 live:=S.live
 b9:=S.b9
 hand:=S.hand
 dg:=S.dg
theorem Fz.lt{C:Ctx}{w:World}{ι:Io}{h:Nat->aQ}{b:Nat}(hb:Fz C w ι h b):b<w.heap.size:=hb.1
theorem VR.ze{w:World}{F:Nat->Prop}{ι:Io}{h:Nat->aQ}{v:Value}{d:D}{id g:Nat}{p:cE}(hv:VR w F ι h v (.b d id g p))(iN:(h id).dq=some g) :
  RL w ι.k id p v d/\∃ e sz m es,h id = .sl e sz m es/\∀ i j,p=[(i,j)]->∃ bk cur e0,ι id=some bk/\w.heap[bk]? = some (.cells cur e0 (0,0))/\cur[ι.o id+i*sz+j]? = some v:=by
 have hg:=aQ.eB iN
 cases hv with
 | fo _ _ _ _ _ h1 hd=>rw[hd]at hg;cases hg
 | b _ _ _ _ _ e sz m es h1 hh iM jm =>
  rw[hh]at hg;obtain⟨c1,c2⟩:=jm hg;exact⟨c1,e,sz,m,es,hh,c2⟩
theorem VR.pW{w:World}{F:Nat->Prop}{ι:Io}{h:Nat->aQ}{v:Value}{cs:List D}{j id g:Nat}{p:cE}{i:Nat}(hv:VR w F ι h v (.bq cs j id g p i))(iN:(h id).dq=some g) :
  ∃ bk o cur e0,v = .pointer (some ⟨bk,o+j,Option.none⟩)/\ι.k bk=some (id,p)/\w.heap[bk]? = some (.cells cur e0 (0,0))/\∀ k d,cs[k]? = some d->∃ x,cur[o+k]? = some x/\RL w ι.k id (p++[(i,k)]) x d:=by
 have hg:=aQ.eB iN
 cases hv with
 | eJ _ _ _ _ _ _ _ h1 hd=>rw[hd]at hg;cases hg
 | bq _ _ _ _ _ _ _ e sz m es h1 hh iM jm =>
  rw[hh]at hg;exact jm hg
theorem VR.oh{w:World}{F:Nat->Prop}{ι:Io}{h:Nat->aQ}{cs:List D}{j id g:Nat}{p:cE}{i bk o:Nat}{cur:Array Value}{e0:TypeId}(iN:(h id).dq=some g)(hk:ι.k bk=some (id,p))(hb:w.heap[bk]? = some (.cells cur e0 (0,0)))
  (hc:∀ k d,cs[k]? = some d->∃ x,cur[o+k]? = some x/\RL w ι.k id (p++[(i,k)]) x d):VR w F ι h (.pointer (some ⟨bk,o+j,Option.none⟩)) (.bq cs j id g p i):=by
 have hg:=aQ.eB iN
 cases hx:h id with
 | sl e sz m es =>
  rw[hx]at hg;refine .bq _ cs j id g p i e sz m es rfl hx (λg0 h0=>?_) (λ_=>⟨bk,o,cur,e0,rfl,hk,hb,hc⟩);have h0:some g=some g0:=hg.symm.trans h0
  cases h0;exact Nat.le_refl _
 | _=>rw[hx]at hg;cases hg
theorem VR.u6{w:World}{F:Nat->Prop}{ι:Io}{h:Nat->aQ}{v:Value}{d:D}{id g:Nat}{p:cE}{e:TypeId}{sz:Nat}{m:Mo}{es:List (List D)}(hx:h id = .sl e sz m es)(hg:m.gen=some g)(hr:RL w ι.k id p v d)
  (hc:∀ i j,p=[(i,j)]->∃ bk cur e0,ι id=some bk/\w.heap[bk]? = some (.cells cur e0 (0,0))/\cur[ι.o id+i*sz+j]? = some v):VR w F ι h v (.b d id g p):=by
 refine .b v d id g p e sz m es hr.one hx (λg0 h0=>?_) (λ_=>⟨hr,hc⟩);rw[hg]at h0
 cases h0;exact Nat.le_refl _
end Go.Proofs.YtdplaepmjogjjaaGreat.Am
namespace Go.Proofs.YtdplaepmjogjjaaGreat.Am
open Go Go.RowKit
inductive aW where
 | s (i:Nat)
 | k (x:AV)
def aW.ev(t:Nat->AV):aW->AV
 | .s i=>t i
 | .k x=>x
inductive eb where
 | eH (x:aW)
 | pick (c x y:aW)
 | bin (op:BinOp) (x y:aW)
 | gF (n:Nat) (neg:Bool) (x y:aW)
 | ij (neg:Bool) (x y:aW)
 | not (x:aW)
 | neg (x:aW)
 | new (e:TypeId) (zs:List AV)
 | box (e:TypeId) (x:aW) (n:Nat)
 | load (x:aW) (n:Nat) (agg:Bool)
 | store (x v:aW) (n:Nat)
 | kp (x:aW) (off:Nat)
 | jv (x i:aW) (sz:Nat)
 | kY (x:aW) (off n:Nat) (agg:Bool)
 | build (zs:List AV) (ps:List (Nat × Nat × aW))
 | bW (e:TypeId) (sz:Nat) (ps:List aW)
 | mk (e:TypeId) (sz:Nat) (zs:List AV) (n:aW)
 | fx (x:aW) (lo hi:Option aW) (sz:Nat)
 | len (x:aW)
 | app (s x:aW) (e:TypeId) (sz:Nat)
 | mm (mx:Bool) (x y:aW)
 | call (f:FuncId) (args:List aW)
 | ext (x:aW) (i:Nat)
 | conv (k:IntKind) (x:aW)
 | gh (x:aW)
structure AO where
 dst:Option Nat
 op:eb
 gd:Option (Nat × Bool)
 off:Nat
structure ik where
 v:AV
 hb:List aQ
 bx:List (List AV)
 al:Bool
 gv:List aQ:=[]
inductive AM where
 | d
 | o
 | p
structure eA where
 md:FuncId->List AM
 fn:FuncId->List AV->Option ik
 dp:Bool:=false
instance:CoeFun eA λ_=>FuncId->List AV->Option ik:=⟨eA.fn⟩
structure fj where
 val:AV
 fU:List (Nat × aQ)
def AV.d(h:Nat->aQ):AV->Option D
 | .c d=>some d
 | .n sz=>some (.sl sz [])
 | .r _ id off len=>match h id with
  | .sl _ sz m es=>if m.full=true then some (.sl sz ((es.drop off).take len)) else none
  | _=>none
 | .b d id g _=>if(h id).dq=some g then some d else none
 | _=>none
def AV.ds(h:Nat->aQ):List AV->Option (List D)
 | []=>some []
 | x::xs=>match x.d h,AV.ds h xs with
  | some d,some ds=>some (d::ds)
  | _,_=>none
def AV.cells:AV->List AV
 | .a cs=>cs
 | x=>[x]
def AV.one:AV->Bool
 | .c _ | .n _ | .r .. | .p .. | .q .. | .b .. | .bq ..=>true
 | _=>false
def AV.st:AV->Bool
 | .a _=>true
 | x=>x.one
def AV.bR:AV->List Nat
 | .r _ id _ _=>[id]
 | .b _ id _ _=>[id]
 | _=>[]
def AV.fE:AV->List Nat
 | .r _ id _ _=>[id]
 | _=>[]
def AV.cS:List AV->List Nat
 | []=>[]
 | x::xs=>x.fE++AV.cS xs
def AV.dc:AV->List Nat
 | .a cs=>AV.cS cs
 | x=>x.fE
def aQ.pX:aQ->Bool
 | .sl _ _ (.dp _ _ []) _=>true
 | _=>false
def AV.eH(h:Nat->aQ)(id g i j:Nat):AV->Bool
 | .c (.v _)=>true
 | .n _=>true
 | .r _ b8 _ _=>!(Nat.beq b8 id)&&(h b8).pX
 | .b _ b8 g' pt=>Nat.beq b8 id&&Nat.beq g' g&&decide (pt=[(i,j)])
 | _=>false
def AV.dz(h:Nat->aQ)(id g i:Nat):Nat->List AV->Bool
 | _,[]=>true
 | j,x::xs=>x.eH h id g i j&&AV.dz h id g i (j+1) xs
def AV.pl:AV->Bool
 | .c (.v _)=>true
 | .n _=>true
 | _=>false
def D.pl:D->Bool
 | .v _=>true
 | .sl _ []=>true
 | _=>false
def mK(xs:List (List D)):Bool:=xs.all λe=>e.all D.pl
def iS:List Nat->List (Nat × aQ)
 | []=>[]
 | id::ids=>(id,.dead)::iS ids
def AV.bM:List AV->List Nat
 | []=>[]
 | x::xs=>x.bR++AV.bM xs
def AV.refs:AV->List Nat
 | .a cs=>AV.bM cs
 | x=>x.bR
def jw:aQ->aQ
 | .sl e sz _ es=>.sl e sz .fz es
 | b=>b
def eU(h:Nat->aQ):List Nat->List (Nat × aQ)
 | []=>[]
 | id::ids=>(id,jw (h id))::eU h ids
def bu{α:Type}(l:List α)(j:Nat)(xs:List α):List α:=l.take j++xs++l.drop (j+xs.length)
def cut{α:Type}(l:List α)(j n:Nat):Option (List α):=if j+n<=l.length then some ((l.drop j).take n) else none
def JO(agg:Bool)(cs:List AV):Option AV :=
 if agg then some (.a cs) else match cs with
  | [x]=>some x
  | _=>none
def cc:Nat:=4294967296
def aQ.alive:aQ->Bool
 | .box _=>true
 | .sl ..=>true
 | _=>false
def mL(op:BinOp):Value->Value->Option Value
 | .int k x,.int k' y =>
  match op with
  | .shl=>if y<0 then none else some (.int k (k.wrap (x*2 ^ (min y.toNat k.bits))))
  | .shr=>if y<0 then none else some (.int k (x.fdiv (2 ^ (min y.toNat k.bits))))
  | op=>if k=k' then(match op with
   | .add=>some (.int k (k.wrap (x+y)))
   | .sub=>some (.int k (k.wrap (x-y)))
   | .mul=>some (.int k (k.wrap (x*y)))
   | .quo=>if y=0 then none else some (.int k (k.wrap (x.tdiv y)))
   | .rem=>if y=0 then none else some (.int k (x.tmod y))
   | .and=>some (.int k (k.wrap ((BitVec.ofInt k.bits x &&& BitVec.ofInt k.bits y).toNat)))
   | .or=>some (.int k (k.wrap ((BitVec.ofInt k.bits x ||| BitVec.ofInt k.bits y).toNat)))
   | .xor=>some (.int k (k.wrap ((BitVec.ofInt k.bits x ^^^ BitVec.ofInt k.bits y).toNat)))
   | .eql=>some (.bool (x==y))
   | .neq=>some (.bool (x != y))
   | .lss=>some (.bool (decide (x<y)))
   | .leq=>some (.bool (decide (x<=y)))
   | .gtr=>some (.bool (decide (x>y)))
   | .geq=>some (.bool (decide (x>=y)))
   | _=>none) else none
 | .string x,.string y=>match op with
  | .eql=>some (.bool (x.toList==y.toList))
  | .neq=>some (.bool (!(x.toList==y.toList)))
  | _=>none
 | _,_=>none
def om:List AV->Option (List Int)
 | []=>some []
 | .c (.v (.int .i64 x))::r=>match om r with
  | some l=>some (x::l)
  | none=>none
 | _=>none
def sZ:AV->Option Int
 | .c (.v (.int _ x))=>some x
 | _=>none
def Yk(ev:aW->AV)(m:Int):Option aW->Option Int
 | some l=>sZ (ev l)
 | none=>some m
def AV.fp(h:Nat->aQ)(sz:Nat):AV->Option (List (List D))
 | .c (.sl ba es)=>if ba=sz then some es else none
 | .n _=>some []
 | .r _ id off len=>match h id with
  | .sl _ ba m es=>if ba=sz/\m.full=true then some ((es.drop off).take len) else none
  | _=>none
 | .b (.sl ba es) id g _=>if ba=sz/\(h id).dq=some g then some es else none
 | _=>none
def AV.iT(h:Nat->aQ)(xs:List (List D)):AV->Bool
 | .r _ idx _ _=>match h idx with
  | .sl _ _ (.dp _ _ _) _=>mK xs
  | _=>true
 | .b ..=>mK xs
 | _=>true
def AV.dI(h:Nat->aQ)(id len:Nat)(xs:List (List D)):AV->Bool
 | .r _ idx off _=>match h idx with
  | .sl _ _ (.dp _ _ _) _=>!(Nat.beq idx id)||Nat.ble len off
  | _=>mK xs
 | _=>mK xs
def AV.de(h:Nat->aQ):AV->List Nat
 | .r _ idx _ _=>match h idx with
  | .sl _ _ (.dp _ _ _) _=>[idx]
  | _=>[]
 | _=>[]
def AV.arg(h:Nat->aQ):AV->Option AV
 | .c d=>some (.c d)
 | .n sz=>some (.c (.sl sz []))
 | .r sz id off len=>match(AV.r sz id off len).d h with
  | some d=>some (.c d)
  | none=>none
 | .b d id g pt=>match(AV.b d id g pt).d h with
  | some d=>some (.c d)
  | none=>none
 | .a cs=>match AV.ds h cs with
  | some ds=>some (.a (ds.map .c))
  | none=>none
 | .p id 0 0=>match h id with
  | .box cs=>if AV.bM cs=[] then(match AV.ds h cs with
   | some ds=>some (.bx (ds.map .c))
   | none=>none) else none
  | _=>none
 | _=>none
def AV.g8(h:Nat->aQ):List AV->Option (List AV)
 | []=>some []
 | x::xs=>match x.arg h,AV.g8 h xs with
  | some d,some ds=>some (d::ds)
  | _,_=>none
def AV.g9(h:Nat->aQ):AV->Option AV
 | .r sz id off len=>match h id with
  | .sl e ba .ow es=>if ba=sz/\off=0/\len=es.length then some (.ow e sz .ow es) else none
  | _=>none
 | _=>none
def AV.dO(h:Nat->aQ):AV->Option AV
 | .c (.v x)=>some (.c (.v x))
 | .r sz id off len=>match h id with
  | .sl _ ba (.dp _ _ []) es=>if ba=sz/\off=0/\len=es.length then some (.ow 0 sz (.dp 0 false []) es) else none
  | _=>none
 | _=>none
def AV.fq(h:Nat->aQ):List AV->Option (List AV)
 | []=>some []
 | x::xs=>match x.dO h,AV.fq h xs with
  | some d,some ds=>some (d::ds)
  | _,_=>none
def AV.ir(h:Nat->aQ):AV->Option AV
 | .a cs=>match AV.fq h cs with
  | some ds=>some (.a ds)
  | none=>none
 | .r sz id off len=>(AV.r sz id off len).dO h
 | _=>none
def AV.fV(h:Nat->aQ):AM->AV->Option AV
 | .d,x=>x.arg h
 | .o,x=>x.g9 h
 | .p,x=>x.ir h
def AM.h:AM->Bool
 | .d=>false
 | _=>true
def AV.dU(h:Nat->aQ):List AM->List AV->Option (List AV)
 | [],xs=>AV.g8 h xs
 | m::ms,xs=>match xs with
  | []=>some []
  | x::xs=>match x.fV h m,AV.dU h ms xs with
   | some d,some ds=>some (d::ds)
   | _,_=>none
def cJ:List AM->List AV->List AV
 | [],_=>[]
 | m::ms,xs=>match xs with
  | []=>[]
  | x::xs=>if m.h then x::cJ ms xs else cJ ms xs
def cm:List AM->List AV->List AV
 | [],xs=>xs
 | m::ms,xs=>match xs with
  | []=>[]
  | x::xs=>if m.h then cm ms xs else x::cm ms xs
def JH:aQ->aQ->aQ
 | .sl e _ (.dp g _ _) _,.sl _ sz (.dp _ _ []) es=>.sl e sz (.dp (g+1) false []) es
 | .sl _ _ (.dp _ _ _) _,_=>.dead
 | _,B=>B
def AV.b9:AV->List Nat
 | .p id _ _=>[id]
 | _=>[]
def AV.mf(b:Nat):AV->AV
 | .r sz id off len=>.r sz (id+b) off len
 | .p id i j=>.p (id+b) i j
 | .c d=>.c d
 | .n sz=>.n sz
 | .q cs j=>.q cs j
 | _=>.u
def AV.kZ(b:Nat):AV->AV
 | .a cs=>.a (cs.map (AV.mf b))
 | x=>x.mf b
def AV.sh(b:Nat):AV->AV
 | .t vs=>.t (vs.map (AV.kZ b))
 | x=>x.kZ b
def aQ.sh(b:Nat):aQ->aQ
 | .box cs=>.box (cs.map (AV.mf b))
 | x=>x
def YM(b:Nat):List aQ->List (Nat × aQ)
 | []=>[]
 | x::xs=>(b,x)::YM (b+1) xs
def YO:List Nat->List (List AV)->List (Nat × aQ)
 | id::ids,cs::cD=>(id,.box cs)::YO ids cD
 | _,_=>[]
def Yt(h:Nat->aQ):List Nat->List aQ->List (Nat × aQ)
 | id::ids,x::xs=>(id,JH (h id) x)::Yt h ids xs
 | _,_=>[]
def JZ(ev:aW->AV):List AV->List (Nat × Nat × aW)->Option (List AV)
 | cs,[]=>some cs
 | cs,(off,n,x)::r =>
  let v:=(ev x).cells
  if v.length=n/\off+n<=cs.length/\(ev x).st=true then JZ ev (bu cs off v) r else none
def elems(h:Nat->aQ)(ev:aW->AV)(sz:Nat):List aW->Option (List (List D))
 | []=>some []
 | x::r=>match AV.ds h (ev x).cells,elems h ev sz r with
  | some e,some es=>if e.length=sz then some (e::es) else none
  | _,_=>none
def cj(id g i:Nat):Nat->List D->List AV
 | _,[]=>[]
 | j,d::r=>(match d with | .v x=>.c (.v x) | d=>.b d id g [(i,j)])::cj id g i (j+1) r
def da(m:Mo)(id i j:Nat)(l:List D):List AV:=match m with
 | .dp g _ _=>cj id g i j l
 | _=>l.map .c
def bQ(id g:Nat)(p:cE)(i:Nat):Nat->List D->List AV
 | _,[]=>[]
 | j,d::r=>(match d with | .v x=>.c (.v x) | d=>.b d id g (p++[(i,j)]))::bQ id g p i (j+1) r
def gG(h:Nat->aQ)(b:Nat)(ev:aW->AV):Nat->List aW->Bool
 | _,[]=>true
 | i,x::r=>AV.dz h b 0 i 0 (ev x).cells&&gG h b ev (i+1) r
def iu:AV->Bool
 | .c (.v _)=>true
 | _=>false
def u7(Γ:eA)(h:Nat->aQ)(b:Nat)(f:FuncId)(id g i j:Nat)(xs:List AV):Option fj :=
 match h id with
 | .sl e sz (.dp g0 t []) es=>match es[i]? with
  | some x=>match x[j]? with
   | some (.sl ba bP)=>match Γ f (.ow 0 ba (.dp 0 false []) bP::xs) with
    | some ⟨v,[],[],_,[.sl _ _ (.dp _ _ []) eP]⟩ =>
     if g0=g/\0<ba/\xs.all iu=true then some ⟨v.sh b,[(b,.dead),(id,.sl e sz (.dp (g+1) t []) (es.set i (x.set j (.sl ba eP))))]⟩ else none
    | _=>none
   | _=>none
  | none=>none
 | _=>none
def pY(ms:List AM)(xs:List AV):Option (Nat × Nat × Nat × Nat × List AV) :=
 match ms,xs with
 | .p::ms,.b _ id g [(i,j)]::r=>if ms.all (λm=>!m.h)=true then some (id,g,i,j,r) else none
 | _,_=>none
def u9(Γ:eA)(h:Nat->aQ)(b:Nat)(f:FuncId)(xs:List AV):Option fj :=
 match AV.dU h (Γ.md f) xs with
  | some vs=>match Γ f vs with
   | some r=>if r.hb.length<=16/\((r.bx.isEmpty&&r.gv.isEmpty)||r.al)=true/\((cm (Γ.md f) xs).flatMap AV.b9).Nodup/\((cJ (Γ.md f) xs).flatMap AV.refs).Nodup/\
     (∀ id,id∈(cJ (Γ.md f) xs).flatMap AV.refs->id∉(cm (Γ.md f) xs).flatMap AV.refs) then
     some ⟨r.v.sh b,YM b (r.hb.map (aQ.sh b))++YO ((cm (Γ.md f) xs).flatMap AV.b9) r.bx++Yt h ((cJ (Γ.md f) xs).flatMap AV.refs) r.gv ++
      (if r.al then eU h ((cm (Γ.md f) xs).flatMap AV.refs) else [])⟩ else none
   | none=>none
  | none=>none
def Qv(Γ:eA)(ev:aW->AV)(h:Nat->aQ)(b:Nat):eb->Option fj
 | .eH x=>some ⟨ev x,[]⟩
 | .pick c x y=>match ev c with
  | .c (.v (.bool true))=>some ⟨ev x,[]⟩
  | .c (.v (.bool false))=>some ⟨ev y,[]⟩
  | _=>none
 | .bin op x y=>match ev x,ev y with
  | .c (.v x),.c (.v y)=>match mL op x y with
   | some v=>some ⟨.c (.v v),[]⟩
   | none=>none
  | _,_=>none
 | .gF n neg x y=>match ev x,ev y with
  | .a xs,.a ys=>match om xs,om ys with
   | some l,some m=>if l.length=n/\m.length=n then some ⟨.c (.v (.bool (if neg then !decide (l=m) else decide (l=m)))),[]⟩ else none
   | _,_=>none
  | _,_=>none
 | .ij neg x y=>match ev x,ev y with
  | .c (.v (.bool x)),.c (.v (.bool y))=>some ⟨.c (.v (.bool (if neg then !(x==y) else x==y))),[]⟩
  | _,_=>none
 | .not x=>match ev x with
  | .c (.v (.bool c))=>some ⟨.c (.v (.bool (!c))),[]⟩
  | _=>none
 | .neg x=>match ev x with
  | .c (.v (.int k n))=>some ⟨.c (.v (.int k (k.wrap (0-n)))),[]⟩
  | _=>none
 | .new _ zs=>some ⟨.p b 0 0,[(b,.box zs)]⟩
 | .box _ x n=>if(ev x).cells.length=n/\(ev x).st=true then some ⟨.p b 0 0,[(b,.box (ev x).cells)]⟩ else none
 | .load x n agg=>match ev x with
  | .p id i j=>match h id with
   | .box cs=>if i=0 then(match cut cs j n with
    | some l=>match JO agg l with
     | some v=>some ⟨v,[]⟩
     | none=>none
    | none=>none) else none
   | .sl _ _ m es=>if m.full=true then(match es[i]? with
    | some e=>match cut e j n with
     | some l=>match JO agg (da m id i j l) with
      | some v=>some ⟨v,[]⟩
      | none=>none
     | none=>none
    | none=>none) else none
   | _=>none
  | .bq cs j id g p i=>if(h id).dq=some g then(match cut cs j n with
   | some l=>match JO agg (bQ id g p i j l) with
    | some v=>some ⟨v,[]⟩
    | none=>none
   | none=>none) else none
  | .q cs j=>match cut cs j n with
   | some l=>match JO agg (l.map .c) with
    | some v=>some ⟨v,[]⟩
    | none=>none
   | none=>none
  | _=>none
 | .store x v n=>if(ev v).cells.length=n/\(ev v).st=true then(match ev x with
  | .p id i j=>match h id with
   | .box cs=>if i=0/\j+n<=cs.length then some ⟨.u,[(id,.box (bu cs j (ev v).cells))]⟩ else none
   | .sl e sz .ow es=>match es[i]? with
    | some x=>match AV.ds h (ev v).cells with
     | some ds=>if j+n<=x.length/\id∉(ev v).refs then some ⟨.u,(id,.sl e sz .ow (es.set i (bu x j ds)))::eU h (ev v).refs⟩ else none
     | none=>none
    | none=>none
   | .sl e sz (.dp g t []) es=>match es[i]? with
    | some x=>match AV.ds h (ev v).cells with
     | some ds=>if j+n<=x.length/\AV.dz h id g i j (ev v).cells=true/\(ev v).dc.Nodup then some ⟨.u,(id,.sl e sz (.dp (g+1) t []) (es.set i (bu x j ds)))::iS (ev v).dc⟩ else none
     | none=>none
    | none=>none
   | _=>none
  | _=>none) else none
 | .kp x off=>match ev x with
  | .p id i j=>if(h id).alive then some ⟨.p id i (j+off),[]⟩ else none
  | .q cs j=>some ⟨.q cs (j+off),[]⟩
  | .bq cs j id g p i=>if(h id).dq=some g then some ⟨.bq cs (j+off) id g p i,[]⟩ else none
  | _=>none
 | .jv x i sz=>match sZ (ev i) with
  | some i=>if 0<=i then(match ev x with
   | .c (.sl ba es)=>if ba=sz then(match es[i.toNat]? with
    | some e=>some ⟨.q e 0,[]⟩
    | none=>none) else none
   | .r ba id off len=>if ba=sz/\i.toNat<len/\(h id).alive=true then some ⟨.p id (off+i.toNat) 0,[]⟩ else none
   | .b (.sl ba es) id g p=>if ba=sz/\(h id).dq=some g then(match es[i.toNat]? with
    | some e=>some ⟨.bq e 0 id g p i.toNat,[]⟩
    | none=>none) else none
   | _=>none) else none
  | none=>none
 | .kY x off n agg=>match ev x with
  | .a cs=>match cut cs off n with
   | some l=>match JO agg l with
    | some v=>some ⟨v,[]⟩
    | none=>none
   | none=>none
  | _=>none
 | .build zs ps=>match JZ ev zs ps with
  | some cs=>some ⟨.a cs,[]⟩
  | none=>none
 | .bW e sz ps=>match elems h ev sz ps with
  | some es=>if Γ.dp=true then(if gG h b ev 0 ps=true/\(ps.flatMap λx=>(ev x).dc).Nodup then
    some ⟨.r sz b 0 es.length,(b,.sl e sz (.dp 0 true []) es)::iS (ps.flatMap λx=>(ev x).dc)⟩ else none) else
   some ⟨.r sz b 0 es.length,(b,.sl e sz .ow es)::eU h (ps.flatMap λx=>(ev x).refs)⟩
  | none=>none
 | .mk e sz zs n=>match sZ (ev n),AV.ds h zs with
  | some n,some z=>if 0<=n/\n<=cc/\z.length=sz/\(Γ.dp=true->z.all D.pl=true) then
    some ⟨.r sz b 0 n.toNat,[(b,.sl e sz (if Γ.dp=true then .dp 0 true [] else .ow) (List.replicate n.toNat z))]⟩ else none
  | _,_=>none
 | .fx x lo hi sz =>
  match Yk ev 0 lo with
  | some lo=>match ev x with
   | .c (.sl ba es)=>match Yk ev es.length hi with
    | some hi=>if ba=sz/\0<=lo/\lo<=hi/\hi<=es.length then some ⟨.c (.sl sz ((es.drop lo.toNat).take (hi.toNat-lo.toNat))),[]⟩ else none
    | none=>none
   | .r ba id off len=>match Yk ev len hi with
    | some hi=>if ba=sz/\0<=lo/\lo<=hi/\hi<=len/\(h id).alive=true then some ⟨.r sz id (off+lo.toNat) (hi.toNat-lo.toNat),[]⟩ else none
    | none=>none
   | .n _=>match Yk ev 0 hi with
    | some hi=>if lo=0/\hi=0 then some ⟨.n sz,[]⟩ else none
    | none=>none
   | _=>none
  | none=>none
 | .len x=>match ev x with
  | .c (.sl _ es)=>some ⟨.c (.v (.int .i64 es.length)),[]⟩
  | .n _=>some ⟨.c (.v (.int .i64 0)),[]⟩
  | .r _ id _ len=>if(h id).alive then some ⟨.c (.v (.int .i64 len)),[]⟩ else none
  | .b (.sl _ es) id g _=>if(h id).dq=some g then some ⟨.c (.v (.int .i64 es.length)),[]⟩ else none
  | _=>none
 | .app s x e sz=>match(ev x).fp h sz with
  | some xs=>match ev s with
   | .n _=>if xs.length<=cc then(if Γ.dp=true then(if(ev x).dI h b 0 xs=true then some ⟨.r sz b 0 xs.length,iS ((ev x).de h)++[(b,.sl e sz (.dp 0 true []) xs)]⟩ else none) else
     if(ev x).iT h xs=true then some ⟨.r sz b 0 xs.length,[(b,.sl e sz .ow xs)]⟩ else none) else none
   | .r _ id 0 len=>match h id with
    | .sl e' ba .ow es=>if e'=e/\ba=sz/\(len=es.length\/len+xs.length<=es.length)/\len+xs.length<=cc/\(ev x).iT h xs=true then
      some ⟨.r sz b 0 (len+xs.length),[(id,.dead),(b,.sl e sz .ow (es.take len++xs))]⟩ else none
    | .sl e' ba (.dp _ true []) es=>if e'=e/\ba=sz/\(len=es.length\/len+xs.length<=es.length)/\len+xs.length<=cc/\(ev x).dI h id len xs=true then
      some ⟨.r sz b 0 (len+xs.length),(id,.dead)::iS ((ev x).de h)++[(b,.sl e sz (.dp 0 true []) (es.take len++xs))]⟩ else none
    | _=>none
   | _=>none
  | none=>none
 | .mm mx x y=>match ev x,ev y with
  | .c (.v (.int k x)),.c (.v (.int _ y))=>some ⟨.c (.v (.int k (if mx then(if x<y then y else x) else(if y<x then y else x)))),[]⟩
  | _,_=>none
 | .call f args=>match pY (Γ.md f) (args.map ev) with
  | some (id,g,i,j,r)=>u7 Γ h b f id g i j r
  | none=>u9 Γ h b f (args.map ev)
 | .ext x i=>match ev x with
  | .t vs=>match vs[i]? with
   | some v=>some ⟨v,[]⟩
   | none=>none
  | _=>none
 | .conv k x=>match ev x with
  | .c (.v (.int _ n))=>some ⟨.c (.v (.int k (k.wrap n))),[]⟩
  | _=>none
 | .gh x=>match ev x with
  | .p id i j=>if(h id).alive then some ⟨.p id i j,[]⟩ else none
  | .q cs j=>some ⟨.q cs j,[]⟩
  | .bq cs j id g p i=>if(h id).dq=some g then some ⟨.bq cs j id g p i,[]⟩ else none
  | _=>none
def bn(h:Nat->aQ):List (Nat × aQ)->Nat->aQ
 | []=>h
 | (i,x)::r=>bn (bI h i x) r
def cP(t:Nat->AV):Option Nat->AV->Nat->AV
 | some d,x=>bI t d x
 | none,_=>t
def St.app(σ:St)(d:Option Nat)(e:fj):St:=⟨cP σ.t d e.val,bn σ.h e.fU,σ.nx⟩
inductive eC where
 | skip
 | ae (ops:List AO)
 | draw (ops:List AO) (U:List (Nat × Nat))
 | seq (x y:eC)
 | cond (c:aW) (x y:eC)
 | block (id:Nat) (x:eC)
 | loop (x:eC)
 | exit (id:Nat)
 | ret
inductive mg where
 | normal
 | exit (id:Nat)
 | ret
def gH(Γ:eA):List AO->(St->Prop)->St->Prop
 | [],K,σ=>K σ
 | o::r,K,σ=>match o.gd with
  | none=>match Qv Γ (aW.ev σ.t) σ.h (σ.nx+o.off) o.op with
   | some e=>gH Γ r K (σ.app o.dst e)
   | none=>False
  | some (s,w)=>match σ.t s with
   | .c (.v (.bool c)) =>
    (c=w->match Qv Γ (aW.ev σ.t) σ.h (σ.nx+o.off) o.op with
     | some e=>gH Γ r K (σ.app o.dst e)
     | none=>False)/\
    (c≠w->gH Γ r K ⟨cP σ.t o.dst (.t []),σ.h,σ.nx⟩)
   | .t []=>gH Γ r K ⟨cP σ.t o.dst (.t []),σ.h,σ.nx⟩
   | _=>False
def acc(ev:aW->AV):eb->List Nat
 | .load x _ _ | .kp x _ | .gh x=>match ev x with | .p id _ _=>[id] | .bq _ _ id _ _ _=>[id] | _=>[]
 | .jv x _ _ | .fx x _ _ _ | .len x=>(ev x).refs
 | .store x v _=>(match ev x with | .p id _ _=>[id] | _=>[])++(ev v).refs
 | .bW _ _ ps=>ps.flatMap λx=>(ev x).refs
 | .mk _ _ zs _=>AV.bM zs
 | .app s x _ _=>(ev s).refs++(ev x).refs
 | .call _ args=>(args.flatMap λx=>(ev x).refs)++(args.flatMap λx=>(ev x).b9)
 | _=>[]
def keys(l:List (Nat × aQ)):List Nat:=l.map (·.1)
def Zw(Γ:eA)(o:AO)(σ:St):Option (St × List Nat × List Nat) :=
 match o.gd with
 | none=>match Qv Γ (aW.ev σ.t) σ.h (σ.nx+o.off) o.op with
  | some e=>some (σ.app o.dst e,acc (aW.ev σ.t) o.op,keys e.fU)
  | none=>none
 | some (s,w)=>match σ.t s with
  | .c (.v (.bool c))=>if c=w then(match Qv Γ (aW.ev σ.t) σ.h (σ.nx+o.off) o.op with
   | some e=>some (σ.app o.dst e,acc (aW.ev σ.t) o.op,keys e.fU)
   | none=>none) else some (⟨cP σ.t o.dst (.t []),σ.h,σ.nx⟩,[],[])
  | .t []=>some (⟨cP σ.t o.dst (.t []),σ.h,σ.nx⟩,[],[])
  | _=>none
def ZC(Γ:eA):List AO->St->Option (St × List (List Nat × List Nat))
 | [],σ=>some (σ,[])
 | o::r,σ=>match Zw Γ o σ with
  | some (σ',a,w)=>match ZC Γ r σ' with
   | some (σ'',l)=>some (σ'',(a,w)::l)
   | none=>none
  | none=>none
def JE(l m:List Nat):Bool:=l.all λx=>!(m.elem x)
def s0(log:List (List Nat × List Nat))(U:List (Nat × Nat)):Bool :=
 U.all λ(i,j)=>match log[i]?,log[j]? with
  | some (a,w),some (a',w')=>JE w (a'++w')&&JE w' a
  | _,_=>true
def St.fW(σ:St)(n:Nat):St:=⟨σ.t,σ.h,σ.nx+n⟩
def kq(Γ:eA):eC->(mg->St->Prop)->St->Prop
 | .skip,Q,σ=>Q .normal σ
 | .ae ops,Q,σ=>gH Γ ops (λσ'=>Q .normal (σ'.fW (16*ops.length))) σ
 | .draw ops U,Q,σ=>match ZC Γ ops σ with
  | some (σ',log)=>s0 log U=true/\Q .normal (σ'.fW (16*ops.length))
  | none=>False
 | .seq x y,Q,σ=>kq Γ x (λe σ'=>match e with | .normal=>kq Γ y Q σ' | e=>Q e σ') σ
 | .cond c x y,Q,σ=>match c.ev σ.t with
  | .c (.v (.bool t))=>(t=true->kq Γ x Q σ)/\(t=false->kq Γ y Q σ)
  | _=>False
 | .block id x,Q,σ=>kq Γ x (λe σ'=>match e with | .exit b8=>if b8=id then Q .normal σ' else Q (.exit b8) σ' | e=>Q e σ') σ
 | .loop x,Q,σ=>∃(I:St->Prop)(μ:St->Nat),I σ/\∀ σ',I σ'->kq Γ x (λe σ''=>match e with | .normal=>I σ''/\μ σ''<μ σ' | e=>Q e σ'') σ'
 | .exit id,Q,σ=>Q (.exit id) σ
 | .ret,Q,σ=>Q .ret σ
end Go.Proofs.YtdplaepmjogjjaaGreat.Am
namespace Go.Proofs.YtdplaepmjogjjaaGreat.Am
open Go Go.RowKit
def cB(P:Program)(t:TypeId):Option Nat:=(P.info? t).map (·.size)
def JQ(P:Program)(t:TypeId):Option Bool :=
 match P.underlying t with
 | some (.struct _)=>some true
 | some (.array _ _)=>some true
 | some _=>some false
 | none=>none
def fX(P:Program)(t:TypeId):Option TypeId :=
 match P.underlying t with
 | some (.slice e)=>some e
 | _=>none
def Ov(P:Program):Nat->TypeId->List TypeId
 | 0,t=>[t]
 | k+1,t=>match P.underlying t with
  | some (.struct fs)=>fs.toList.flatMap λf=>Ov P k f.type
  | _=>[t]
def lh(P:Program)(t:TypeId):Value->AV
 | .slice none 0 0=>.n (((fX P t).bind (cB P)).getD 0)
 | v=>.c (.v v)
def pZ(P:Program)(ts:List TypeId):List Value->List AV
 | []=>[]
 | v::vs=>lh P (ts.headD 0) v::pZ P ts.tail vs
def kr(P:Program)(t:TypeId):Value->Option AV
 | .agg cs=>if cs.toList.all (·.oneCell') then some (.a (pZ P (Ov P 8 t) cs.toList)) else none
 | v=>if v.oneCell' then some (lh P t v) else none
def cO(P:Program)(t:TypeId):Operand->Option aW
 | .tmp i=>some (.s i)
 | .const v=>(kr P t v).map .k
 | _=>none
def s3(P:Program):Option Operand->Option (Option aW)
 | some l=>(cO P 0 l).map some
 | none=>some none
def s4(P:Program):List TypeId->List Operand->Option (List aW)
 | _,[]=>some []
 | ts,x::xs=>match cO P (ts.headD 0) x,s4 P ts.tail xs with
  | some y,some ys=>some (y::ys)
  | _,_=>none
def YW(P:Program)(t:TypeId):Option (List AV) :=
 match P.info? t with
 | some i=>match i.zero with
  | some z=>match kr P t z with
   | some x=>some x.cells
   | none=>none
  | none=>none
 | none=>none
def s5(P:Program)(fs:List Field):List (Nat × Operand)->Option (List (Nat × Nat × aW))
 | []=>some []
 | (i,x)::r=>match fs[i]? with
  | some f=>match cB P f.type,cO P f.type x,s5 P fs r with
   | some n,some y,some ys=>some ((f.offset,n,y)::ys)
   | _,_,_=>none
  | none=>none
def J7(P:Program)(e:TypeId):Nat->List (Nat × Operand)->Option (List aW)
 | _,[]=>some []
 | k,(i,x)::r=>if i=k then(match cO P e x,J7 P e (k+1) r with
  | some y,some ys=>some (y::ys)
  | _,_=>none) else none
def zf(P:Program)(fs:List Field)(k:Nat):Bool :=
 match fs with
 | []=>true
 | f :: r => f.name != "_" && f.offset == k && cB P f.type == some 1 && (match P.underlying f.type with | some (.int _) => true | _ => false) && zf P r (k + 1)
def DO(P:Program)(t:TypeId):Option Nat :=
 match P.underlying t with
 | some (.struct fs)=>if zf P fs.toList 0&&!P.eqGuardType P.depth t&&!P.stoodInHeld t then some fs.size else none
 | _=>none
def Ow(P:Program):Builtin->List Operand->List TypeId->Option eb
 | .len,[x],[t]=>match P.underlying t,cO P t x with
  | some (.slice _),some x=>some (.len x)
  | _,_=>none
 | .append,[s,x],[t,t']=>if t=t' then(match fX P t with
  | some e=>match cB P e,cO P t s,cO P t x,P.info? e with
   | some sz,some s,some x,some i=>if 0<sz/\i.bytes<=32768/\(YW P e).map (·.length)=some sz then some (.app s x e sz) else none
   | _,_,_,_=>none
  | none=>none) else none
 | .min,[x,y],[t,t']=>match cO P t x,cO P t' y with
  | some x,some y=>some (.mm false x y)
  | _,_=>none
 | .max,[x,y],[t,t']=>match cO P t x,cO P t' y with
  | some x,some y=>some (.mm true x y)
  | _,_=>none
 | _,_,_=>none
def vb(P:Program)(o:Oper):Option eb :=
 match o.op with
 | .move x | .assign x=>(cO P o.type x).map .eH
 | .pick c x y=>match cO P o.type c,cO P o.type x,cO P o.type y with
  | some c,some x,some y=>some (.pick c x y)
  | _,_,_=>none
 | .alloc e=>(YW P e).map (.new e)
 | .box e x=>match cO P e x,cB P e with
  | some x,some n=>some (.box e x n)
  | _,_=>none
 | .build t ps=>match P.underlying t with
  | some (.struct fs)=>match YW P t,s5 P fs.toList ps.toList with
   | some zs,some ps=>if fs.toList.all (λf=>(cB P f.type).isSome) then some (.build zs ps) else none
   | _,_=>none
  | _=>none
 | .buildSlice t n ps=>match fX P t with
  | some e=>match cB P e,J7 P e 0 ps.toList with
   | some sz,some xs=>if xs.length=n/\0<sz/\n*sz<=16777216/\(YW P e).isSome=true then some (.bW e sz xs) else none
   | _,_=>none
  | none=>none
 | .load t x=>match cO P 0 x,cB P t,JQ P t with
  | some x,some n,some agg=>some (.load x (if agg then n else 1) agg)
  | _,_,_=>none
 | .store t x v=>match cO P 0 x,cO P t v,cB P t with
  | some x,some v,some n=>some (.store x v n)
  | _,_,_=>none
 | .fieldAddr s x i=>match P.underlying s with
  | some (.struct fs)=>match fs[i]? with
   | some f=>match cB P f.type,cO P 0 x with
    | some n,some x=>if n≠0 then some (.kp x f.offset) else none
    | _,_=>none
   | none=>none
  | _=>none
 | .field s x i=>match P.underlying s with
  | some (.struct fs)=>match fs[i]? with
   | some f=>match cB P f.type,JQ P f.type,cO P s x with
    | some n,some agg,some x=>some (.kY x f.offset (if agg then n else 1) agg)
    | _,_,_=>none
   | none=>none
  | _=>none
 | .indexAddr t x i=>match fX P t with
  | some e=>match cB P e,cO P t x,cO P 0 i with
   | some sz,some x,some i=>if 0<sz then some (.jv x i sz) else none
   | _,_,_=>none
  | none=>none
 | .makeSlice t (.tmp l) (.tmp c)=>if l=c then(match fX P t with
  | some e=>match cB P e,YW P e,P.info? e with
   | some sz,some zs,some i=>if 0<sz/\i.bytes<=32768 then some (.mk e sz zs (.s l)) else none
   | _,_,_=>none
  | none=>none) else none
 | .slice t x lo hi none=>match fX P t with
  | some e=>match cB P e,cO P t x,s3 P lo,s3 P hi with
   | some sz,some x,some lo,some hi=>if 0<sz then some (.fx x lo hi sz) else none
   | _,_,_,_=>none
  | none=>none
 | .binOp op t x y ty=>match cO P t x,cO P ty y with
  | some x,some y=>match DO P t with
   | some n=>(match op with
    | .eql=>some (.gF n false x y)
    | .neq=>some (.gF n true x y)
    | _=>none)
   | none=>(match P.underlying t with
   | some (.int _)=>some (.bin op x y)
   | some .bool=>match op with
    | .eql=>some (.ij false x y)
    | .neq=>some (.ij true x y)
    | _=>none
   | some .string=>some (.bin op x y)
   | _=>none)
  | _,_=>none
 | .unOp .not t x=>(cO P t x).map .not
 | .unOp .neg t x=>(cO P t x).map .neg
 | .convert s d x=>match P.underlying s,P.underlying d,cO P s x with
  | some (.int _),some (.int k),some x=>some (.conv k x)
  | _,_,_=>none
 | .extract x i=>(cO P 0 x).map (.ext · i)
 | .nilCheck x=>(cO P 0 x).map .gh
 | .call c=>match c.callee with
  | .value (.func f)=>match P.funcs[f]?,s4 P c.argTypes.toList c.args.toList with
   | some fn, some xs => if fn.body.isSome = true ∧ (fn.name == "runtime.NumGoroutine") = false then some (.call f xs) else none
   | _,_=>none
  | .builtin b=>Ow P b c.args.toList c.argTypes.toList
  | _=>none
 | _=>none
def s6(ops:Array Oper):Option (Nat × Bool)->Option (Option (Nat × Bool))
 | none=>some none
 | some (j,b)=>match(ops[j]?).bind (·.dst) with
  | some s=>some (some (s,b))
  | none=>none
def vc(N:Nat)(dst:Option Nat)(gd:Option (Nat × Bool)):Bool :=
 (match dst with | some d=>decide (d<N) | none=>true)&&(match gd with | some (s,_)=>decide (s<N) | none=>true)
def s7(P:Program)(N:Nat)(ops:Array Oper)(o:Oper)(i:Nat):Option AO :=
 match vb P o,s6 ops o.guard with
 | some op,some gd=>if vc N o.dst gd=true then some ⟨o.dst,op,gd,16*i⟩ else none
 | _,_=>none
def J1(P:Program)(N:Nat)(ops:Array Oper):List Oper->Nat->Option (List AO)
 | [],_=>some []
 | o::r,i=>match s7 P N ops o i,J1 P N ops r (i+1) with
  | some x,some xs=>some (x::xs)
  | _,_=>none
def aW.bK:aW->List Nat
 | .s i=>[i]
 | .k _=>[]
def eb.bK:eb->List Nat
 | .eH x | .not x | .neg x | .box _ x _ | .load x _ _ | .kp x _ | .kY x _ _ _ | .len x | .ext x _ | .conv _ x | .gh x | .mk _ _ _ x=>x.bK
 | .pick c x y=>c.bK++x.bK++y.bK
 | .bin _ x y | .gF _ _ x y | .ij _ x y | .store x y _ | .jv x y _ | .app x y _ _ | .mm _ x y=>x.bK++y.bK
 | .new _ _=>[]
 | .build _ ps=>ps.flatMap λx=>x.2.2.bK
 | .bW _ _ ps=>ps.flatMap aW.bK
 | .fx x lo hi _=>x.bK++(match lo with | some l=>l.bK | none=>[])++(match hi with | some l=>l.bK | none=>[])
 | .call _ args=>args.flatMap aW.bK
def AO.reads(o:AO):List Nat:=o.op.bK++(match o.gd with | some (s,_)=>[s] | none=>[])
def AO.free(o p:AO):Bool :=
 (match o.dst with | some d=>!(p.reads.elem d)&&(match p.dst with | some d'=>d != d' | none=>true) | none=>true)&&(match p.dst with | some d=>!(o.reads.elem d) | none=>true)
def Y9(o:Oper):List Nat:=(o.after.toList.filter λe=>Region.binds .any e).map λe=>e.on
def p4:List Oper->List (List Nat)->List (List Nat)
 | [],acc=>acc
 | o::r,acc=>p4 r (acc++[((Y9 o).flatMap λk=>k::(acc[k]?).getD []).eraseDups])
def kt(ops:Array Oper):List (List Nat):=p4 ops.toList []
def p5(ops:Array Oper)(j i:Nat):Bool:=(((kt ops)[i]?).getD []).elem j
def Ox(tab:List (List Nat))(n:Nat):List (Nat × Nat) :=
 (List.range n).flatMap λi=>(List.range i).filterMap λj=>if((tab[i]?).getD []).elem j then none else some (j,i)
def ZW(ops:Array Oper):List (Nat × Nat):=Ox (kt ops) ops.size
def eb.cQ:eb->Bool
 | .load .. | .store .. | .bW .. | .app .. | .call .. | .new .. | .box .. | .mk .. | .kp .. | .gh .. | .jv .. | .fx .. | .len ..=>true
 | _=>false
def eb.writes:eb->Bool
 | .store .. | .bW .. | .app .. | .call .. | .new .. | .box .. | .mk ..=>true
 | _=>false
def DP(ops:Array Oper):Bool :=
 (List.range ops.size).all λi=>match ops[i]? with
  | some o=>o.after.all λe=>!Region.binds .any e||decide (e.on<i)
  | none=>true
def Oy(l:List AO)(U:List (Nat × Nat)):Bool :=
 U.all λ(i,j)=>match l[i]?,l[j]? with | some o,some p=>o.free p | _,_=>false
def DQ(l:List AO)(U:List (Nat × Nat)):List (Nat × Nat) :=
 U.filter λ(i,j)=>match l[i]?,l[j]? with | some o,some p=>o.op.cQ&&p.op.cQ&&(o.op.writes||p.op.writes) | _,_=>true
def comp(P:Program)(N:Nat):Code->Option eC
 | .skip=>some .skip
 | .region _ ops draw=>match J1 P N ops ops.toList 0 with
  | some l=>if draw then
    (if(Oy l (ZW ops)&&DP ops)=true then some (.draw l (DQ l (ZW ops))) else none)
   else some (.ae l)
  | none=>none
 | .seq x y=>match comp P N x,comp P N y with
  | some x,some y=>some (.seq x y)
  | _,_=>none
 | .cond c x y=>match cO P 0 c,comp P N x,comp P N y with
  | some c,some x,some y=>some (.cond c x y)
  | _,_,_=>none
 | .block id x=>(comp P N x).map (.block id)
 | .loop x=>(comp P N x).map .loop
 | .exit id=>some (.exit id)
 | .ret=>some .ret
 | _=>none
end Go.Proofs.YtdplaepmjogjjaaGreat.Am
namespace Go.Proofs.YtdplaepmjogjjaaGreat.Am
open Go Go.RowKit
theorem vd{P:Program}{t:TypeId}{n:Nat}(h:cB P t=some n):∃ i,P.info? t=some i/\i.size=n:=by
 unfold cB at h;obtain⟨i,h1,h2⟩:=Option.map_eq_some_iff.1 h;exact⟨i,h1,h2⟩
theorem mM{P:Program}{t:TypeId}{n:Nat}(h:cB P t=some n)(w:World):(sizeOf t).run P w = .ok n w:=by
 obtain⟨i,h1,h2⟩:=vd h;simp[sizeOf,typeInfo,h1,h2]
theorem JR{P:Program}{t e:TypeId}(h:fX P t=some e):P.underlying t=some (.slice e):=by
 unfold fX at h
 split at h
 ·rename_i e' h1;cases h;exact h1
 ·cases h
theorem s8{P:Program}{t:TypeId}{b:Bool}(h:JQ P t=some b)(w:World):(isAgg t).run P w = .ok b w:=by
 unfold JQ at h
 split at h
 ·rename_i fs h1;cases h;simp[isAgg,run_underlying h1]
 ·rename_i n e h1;cases h;simp[isAgg,run_underlying h1]
 ·rename_i d ft mh h1
  cases h
  cases d <;> first
   | exact absurd rfl (ft _)
   | exact absurd rfl (mh _ _)
   | simp[isAgg,run_underlying h1]
 ·cases h
theorem Oz{P:Program}{t:TypeId}{v:Value}(h1:v.oneCell'=true){w:World}{F:Nat->Prop}{ι:Io}{h:Nat->aQ}:VR w F ι h v (lh P t v):=by
 unfold lh
 split
 ·exact .n _
 ·exact .c _ _ (.v _ h1)
theorem DS{P:Program}:∀(vs:List Value)(ts:List TypeId)(k:Nat)(v:Value)(x:AV),vs[k]? = some v->(pZ P ts vs)[k]? = some x->∃ t,x=lh P t v
 | [],_,k,v,x,h,_=>by simp at h
 | y::ys,ts,0,v,x,h,h'=>by
  simp[pZ]at h h';exact⟨_,by rw[<- h',<- h]⟩
 | y::ys,ts,k+1,v,x,h,h'=>by
  simp[pZ]at h h';exact DS ys ts.tail k v x h h'
theorem DT{P:Program}:∀(vs:List Value)(ts:List TypeId),(pZ P ts vs).length=vs.length
 | [],_=>rfl
 | _::ys,ts=>by simp[pZ,DT ys ts.tail]
theorem OA{P:Program}{t:TypeId}{v:Value}{x:AV}(hx:kr P t v=some x){w:World}{F:Nat->Prop}{ι:Io}{h:Nat->aQ}:VR w F ι h v x:=by
 unfold kr at hx
 split at hx
 ·rename_i cs
  split at hx
  ·rename_i ew
   cases hx;have h1:∀(k:Nat)(v:Value),cs[k]? = some v->v.oneCell'=true:=by
    intro k v hk;have:v∈cs.toList:=by
     obtain⟨aU,he⟩:=Array.getElem?_eq_some_iff.1 hk;rw[<- he];simp
    exact List.all_eq_true.1 ew v this
   refine .a _ _ (by rw[DT];simp) h1 (λk v x hk hx=>?_);obtain⟨t',rfl⟩:=DS cs.toList _ k v x (by simpa using hk) hx;exact Oz (h1 k v hk)
  ·cases hx
 ·split at hx
  ·rename_i h1
   cases hx;exact Oz h1
  ·cases hx
theorem Zs{C:Ctx}{U:Nat->Prop}{σ:St}{a:Act}{w:World}{ι:Io}(S:Sat C U σ a w ι){t:TypeId}{x:Operand}{y:aW}(h:cO C.P t x=some y) :
  VR w (Fz C w ι σ.h) ι σ.h (a.eval x) (y.ev σ.t):=by
 unfold cO at h
 split at h
 ·cases h;exact S.bj _
 ·obtain⟨z,hz,rfl⟩:=Option.map_eq_some_iff.1 h;exact OA hz
 ·cases h
theorem Zi{C:Ctx}{U U':Nat->Prop}{σ:St}{a:Act}{w:World}{ι:Io}(S:Sat C U σ a w ι){o:Oper}{v:Value}{x:AV}{Q:Exit->Act->World->Prop}
  (hd:∀ d,o.dst=some d->d<C.N) (bN:∀ i,U' i->U i)
  (cq:(execOp a.eval o).run C.P w = .ok (.value v) w) (hv:VR w (Fz C w ι σ.h) ι σ.h v x) :
  o.wp C.P a w (λa' w'=>cA C U' (σ.app o.dst ⟨x,[]⟩) a' w') Q:=by
 unfold Oper.wp;rw[cq];simp only[Oper.upon];refine⟨ι,?_⟩;have S':Sat C U' σ a w ι:={ S with fresh:=λi hi=>S.fresh i (bN i hi) }
 cases ho:o.dst with
 | none=>simpa[St.app,cP,bn,Act.put]using S'
 | some d=>simpa[St.app,cP,bn]using S'.put d (hd d ho) v x hv
theorem VR.int{w:World}{F:Nat->Prop}{ι:Io}{h:Nat->aQ}{v x:Value}(hv:VR w F ι h v (.c (.v x))):v=x:=by
 cases hv with
 | c v d hr=>cases hr;rfl
theorem fb{w:World}{F:Nat->Prop}{ι:Io}{h:Nat->aQ}{x:Value}(h1:x.oneCell'=true):VR w F ι h x (.c (.v x)):=.c _ _ (.v _ h1)
theorem DU{w:World}{F:Nat->Prop}{ι:Io}{h:Nat->aQ}{v:Value}{x:AV}{n:Int}(hv:VR w F ι h v x)(hx:sZ x=some n):∃ k,v = .int k n:=by
 unfold sZ at hx
 split at hx
 ·rename_i k m
  cases hx;exact⟨k,hv.int⟩
 ·cases hx
theorem OB{C:Ctx}{U:Nat->Prop}{σ:St}{a:Act}{w:World}{ι:Io}(S:Sat C U σ a w ι):∀ {ts:List TypeId} {xs:List Operand} {ys:List aW},s4 C.P ts xs=some ys->
  xs.length=ys.length/\∀(k:Nat)(x:Operand)(y:aW),xs[k]? = some x->ys[k]? = some y->VR w (Fz C w ι σ.h) ι σ.h (a.eval x) (y.ev σ.t)
 | ts,[],ys,h=>by simp[s4]at h;subst h;simp
 | ts,x::xs,ys,h=>by
  unfold s4 at h
  split at h
  ·rename_i y k7 h1 h2
   cases h;obtain⟨hl,hh⟩:=OB S h2;refine⟨by simp[hl],λk x' y' hk ez=>?_⟩
   cases k with
   | zero=>simp at hk ez;subst hk;subst ez;exact Zs S h1
   | succ k=>simp at hk ez;exact hh k x' y' hk ez
  ·cases h
theorem QP9{P:Program}{w:World}{op:BinOp}{x y z:Value}{t:TypeId}(h:mL op x y=some z):(binOp op t x y).run P w = .ok z w/\z.oneCell'=true:=by
 unfold mL at h
 split at h
 ·rename_i k x k' y
  split at h
  ·split at h
   ·cases h
   ·rename_i h1
    cases h;simp[binOp,Op.shift,h1,Value.oneCell']
  ·split at h
   ·cases h
   ·rename_i h1
    cases h;simp[binOp,Op.shift,h1,Value.oneCell']
  ·split at h
   ·rename_i ahB p6 hk;subst hk
    split at h
    any_goals (cases h;simp[binOp,Op.intArith,Op.intBits,Op.intCmp,Value.oneCell'];done)
    ·split at h
     ·cases h
     ·rename_i h1;cases h;simp[binOp,Op.intDiv,h1,Value.oneCell']
    ·split at h
     ·cases h
     ·rename_i h1;cases h;simp[binOp,Op.intDiv,h1,Value.oneCell']
    ·cases h
   ·cases h
 ·rename_i x y
  split at h <;> first
   | (cases h;simp[binOp,Op.stringOp,Value.oneCell'];done)
   | cases h
 ·cases h
theorem OC{P:Program}{w:World}{op:BinOp}{t:TypeId}{x y:Operand}{v u:Value}(h1:v.oneCell'=true)(h2:v≠.nilIface):(eqGuard op t x y v u).run P w = .ok () w:=by
 cases v <;> cases op <;> first
  | exact absurd rfl h2
  | (simp[Value.oneCell']at h1;done)
  | simp[eqGuard]
theorem YN(bk o k:Nat):(⟨bk,o,Option.none⟩:Addr).add k=⟨bk,o+k,Option.none⟩:=by
 unfold Addr.add;split <;> simp_all
theorem s9{α:Type}{l m:List α}{j n:Nat}(h:cut l j n=some m):j+n<=l.length/\m=(l.drop j).take n:=by
 unfold cut at h
 split at h
 ·cases h;exact⟨by assumption,rfl⟩
 ·cases h
theorem ve{α:Type}{l m:List α}{j n:Nat}(h:cut l j n=some m):m.length=n/\∀ k:Nat,k<n->m[k]? = l[j+k]?:=by
 obtain⟨h1,rfl⟩:=s9 h;refine⟨by simp;omega,λk hk=>?_⟩;rw[List.getElem?_take,if_pos hk,List.getElem?_drop]
section
variable {C:Ctx} {U U':Nat->Prop} {σ:St} {a:Act} {w:World} {ι:Io} {o:Oper} {Q:Exit->Act->World->Prop} {Γ:eA} {b:Nat} {e:fj}
variable (S:Sat C U σ a w ι) (hd:∀ d,o.dst=some d->d<C.N) (bN:∀ i,U' i->U i)
include S hd bN
theorem OD{x:Operand}{y:aW}{t:TypeId}(ho:o.op = .move x\/o.op = .assign x)(hx:cO C.P t x=some y)(he:Qv Γ (aW.ev σ.t) σ.h b (.eH y)=some e) :
  o.wp C.P a w (λa' w'=>cA C U' (σ.app o.dst e) a' w') Q:=by
 simp only[Qv,Option.some.injEq]at he;subst he;refine Zi S hd bN (v:=a.eval x) ?_ (Zs S hx)
 rcases ho with ho | ho <;> simp[execOp,ho]
theorem QP3{c x y:Operand}{c' x' y':aW}{t:TypeId}(ho:o.op = .pick c x y)(hc:cO C.P t c=some c')(hx:cO C.P t x=some x')(hy:cO C.P t y=some y')(he:Qv Γ (aW.ev σ.t) σ.h b (.pick c' x' y')=some e) :
  o.wp C.P a w (λa' w'=>cA C U' (σ.app o.dst e) a' w') Q:=by
 have h1:=Zs S hc;simp only[Qv]at he
 split at he
 ·rename_i h2
  cases he;rw[h2]at h1;exact Zi S hd bN (v:=a.eval x) (by simp[execOp,ho,h1.int,asBool]) (Zs S hx)
 ·rename_i h2
  cases he;rw[h2]at h1;exact Zi S hd bN (v:=a.eval y) (by simp[execOp,ho,h1.int,asBool]) (Zs S hy)
 ·cases he
theorem OE{op:BinOp}{x y:Operand}{x' y':aW}{t ty:TypeId}(ho:o.op = .binOp op t x y ty)(hx:cO C.P t x=some x')(hy:cO C.P ty y=some y')(he:Qv Γ (aW.ev σ.t) σ.h b (.bin op x' y')=some e) :
  o.wp C.P a w (λa' w'=>cA C U' (σ.app o.dst e) a' w') Q:=by
 have h1:=Zs S hx;have h2:=Zs S hy;simp only[Qv]at he
 split at he
 ·rename_i v u hv hu
  split at he
  ·rename_i z hz
   cases he;rw[hv]at h1;rw[hu]at h2;obtain⟨hr,hz1⟩:=QP9 (P:=C.P) (w:=w) (t:=t) hz;have iU:v.oneCell'=true/\v≠.nilIface:=by
    unfold mL at hz
    split at hz <;> first | exact⟨rfl,by simp⟩ | cases hz
   refine Zi S hd bN (v:=z) ?_ (fb hz1);simp[execOp,ho,h1.int,h2.int,OC iU.1 iU.2,hr]
  ·cases he
 ·cases he
theorem OG{neg:Bool}{x y:Operand}{x' y':aW}{t ty:TypeId}(ho:o.op = .binOp (if neg then .neq else .eql) t x y ty)(ht:C.P.underlying t=some .bool)(hx:cO C.P t x=some x')(hy:cO C.P ty y=some y')(he:Qv Γ (aW.ev σ.t) σ.h b (.ij neg x' y')=some e) :
  o.wp C.P a w (λa' w'=>cA C U' (σ.app o.dst e) a' w') Q:=by
 have h1:=Zs S hx;have h2:=Zs S hy;simp only[Qv]at he
 split at he
 ·rename_i v u hv hu
  cases he;rw[hv]at h1;rw[hu]at h2;refine Zi S hd bN (v:=.bool (if neg then !(v==u) else v==u)) ?_ (fb rfl);have hg:∀ op,(eqGuard op t x y (.bool v) (.bool u)).run C.P w = .ok () w:=λop=>OC (by rfl) (by simp)
  cases neg <;> simp[execOp,ho,h1.int,h2.int,hg,binOp,run_equal_bool w t v u ht]
 ·cases he
theorem QKC{x:Operand}{x':aW}{t:TypeId}(ho:o.op = .unOp .not t x)(hx:cO C.P t x=some x')(he:Qv Γ (aW.ev σ.t) σ.h b (.not x')=some e) :
  o.wp C.P a w (λa' w'=>cA C U' (σ.app o.dst e) a' w') Q:=by
 have h1:=Zs S hx;simp only[Qv]at he
 split at he
 ·rename_i v hv
  cases he;rw[hv]at h1;exact Zi S hd bN (v:=.bool (!v)) (by simp[execOp,ho,h1.int,Op.unary]) (fb rfl)
 ·cases he
theorem QR0{x:Operand}{x':aW}{t:TypeId}(ho:o.op = .unOp .neg t x)(hx:cO C.P t x=some x')(he:Qv Γ (aW.ev σ.t) σ.h b (.neg x')=some e) :
  o.wp C.P a w (λa' w'=>cA C U' (σ.app o.dst e) a' w') Q:=by
 have h1:=Zs S hx;simp only[Qv]at he
 split at he
 ·rename_i k n hv
  cases he;rw[hv]at h1;exact Zi S hd bN (v:=.int k (k.wrap (0-n))) (by simp[execOp,ho,h1.int,Op.unary,Op.intArith]) (fb rfl)
 ·cases he
theorem QOs{x:Operand}{x':aW}{i:Nat}{t:TypeId}(ho:o.op = .extract x i)(hx:cO C.P t x=some x')(he:Qv Γ (aW.ev σ.t) σ.h b (.ext x' i)=some e) :
  o.wp C.P a w (λa' w'=>cA C U' (σ.app o.dst e) a' w') Q:=by
 have h1:=Zs S hx;simp only[Qv]at he
 split at he
 ·rename_i vs hv
  split at he
  ·rename_i z hz
   cases he;rw[hv]at h1;generalize cw:a.eval x=av at h1
   cases h1 with
   | t us _ hl dS =>
    have aU:i<us.size:=by rw[hl];exact(List.getElem?_eq_some_iff.1 hz).1
    have hu:us[i]? = some us[i]:=Array.getElem?_eq_getElem aU;exact Zi S hd bN (v:=us[i]) (by simp[execOp,ho,cw,Instr.extract,hu]) (dS i _ z hu hz)
  ·cases he
 ·cases he
theorem QQw{x:Operand}{x':aW}{s d:TypeId}{k:IntKind}{k0:IntKind}(ho:o.op = .convert s d x)(hs:C.P.underlying s=some (.int k0))(eQ:C.P.underlying d=some (.int k))(hx:cO C.P s x=some x')(he:Qv Γ (aW.ev σ.t) σ.h b (.conv k x')=some e) :
  o.wp C.P a w (λa' w'=>cA C U' (σ.app o.dst e) a' w') Q:=by
 have h1:=Zs S hx;simp only[Qv]at he
 split at he
 ·rename_i k1 n hv
  cases he;rw[hv]at h1;exact Zi S hd bN (v:=.int k (k.wrap n)) (by simp[execOp,ho,h1.int,convert,run_underlying hs,run_underlying eQ,Conv.intToInt]) (fb rfl)
 ·cases he
theorem QTq{x:Operand}{x':aW}{t:TypeId}(ho:o.op = .nilCheck x)(hx:cO C.P t x=some x')(he:Qv Γ (aW.ev σ.t) σ.h b (.gh x')=some e) :
  o.wp C.P a w (λa' w'=>cA C U' (σ.app o.dst e) a' w') Q:=by
 have h1:=Zs S hx;simp only[Qv]at he
 split at he
 ·rename_i id i j hv
  split at he
  ·rename_i dP
   cases he;rw[hv]at h1;have fO:=h1;generalize cw:a.eval x=av at h1 fO
   cases h1 with
   | cT v _ _ _ _ eQ=>rw[eQ]at dP;simp[aQ.alive]at dP
   | p _ _ _ bk hi hn dV=>exact Zi S hd bN (by simp[execOp,ho,cw]) fO
  ·cases he
 ·rename_i cs j hv
  cases he;rw[hv]at h1;have fO:=h1;generalize cw:a.eval x=av at h1 fO
  cases h1 with
  | q bk o' j cs x hb hc hr=>exact Zi S hd bN (by simp[execOp,ho,cw]) fO
 ·rename_i cs j id g p i hv
  split at he
  ·rename_i hg
   cases he;rw[hv]at h1;obtain⟨bk,o',cur,e0,cw,_⟩:=h1.pW hg;exact Zi S hd bN (by simp[execOp,ho,cw]) h1
  ·cases he
 ·cases he
theorem vf{mx:Bool}{x y:Operand}{x' y':aW}{t t':TypeId}(ho:o.op = .call { callee:=.builtin (if mx then .max else .min),args:=#[x,y],argTypes:=#[t,t'] })(hx:cO C.P t x=some x')(hy:cO C.P t' y=some y')(he:Qv Γ (aW.ev σ.t) σ.h b (.mm mx x' y')=some e) :
  o.wp C.P a w (λa' w'=>cA C U' (σ.app o.dst e) a' w') Q:=by
 have h1:=Zs S hx;have h2:=Zs S hy;simp only[Qv]at he
 split at he
 ·rename_i k v k' u hv hu
  cases he;rw[hv]at h1;rw[hu]at h2;refine Zi S hd bN (v:=.int k (if mx then(if v<u then u else v) else(if u<v then u else v))) ?_ (fb rfl)
  cases mx <;> simp[execOp,ho,h1.int,h2.int,resolve,invoke,builtin,Builtin.min_,Builtin.max_,Builtin.min2,Builtin.max2]
 ·cases he
theorem QHE{x:Operand}{x':aW}{t e':TypeId}(ho:o.op = .call { callee:=.builtin .len,args:=#[x],argTypes:=#[t] })(ht:C.P.underlying t=some (.slice e'))(hx:cO C.P t x=some x')(he:Qv Γ (aW.ev σ.t) σ.h b (.len x')=some e) :
  o.wp C.P a w (λa' w'=>cA C U' (σ.app o.dst e) a' w') Q:=by
 have h1:=Zs S hx;simp only[Qv]at he
 split at he
 all_goals (try cases he)
 ·rename_i sz es hv;rw[hv]at h1;generalize cw:a.eval x=av at h1
  cases h1 with
  | c v d hr =>
   cases hr with
   | nil=>exact Zi S hd bN (v:=.int .i64 0) (by simp[execOp,ho,cw,resolve,invoke,builtin,Builtin.len_,run_underlying ht,goInt]) (fb rfl)
   | emp=>exact Zi S hd bN (v:=.int .i64 0) (by simp[execOp,ho,cw,resolve,invoke,builtin,Builtin.len_,run_underlying ht,goInt]) (fb rfl)
   | sl b o len cap _ es x hlen=>subst hlen;exact Zi S hd bN (v:=.int .i64 es.length) (by simp[execOp,ho,cw,resolve,invoke,builtin,Builtin.len_,run_underlying ht,goInt]) (fb rfl)
 ·rename_i sz hv;rw[hv]at h1;generalize cw:a.eval x=av at h1
  cases h1 with
  | n=>exact Zi S hd bN (v:=.int .i64 0) (by simp[execOp,ho,cw,resolve,invoke,builtin,Builtin.len_,run_underlying ht,goInt]) (fb rfl)
 ·rename_i sz id off len hv
  split at he
  ·rename_i dP
   cases he;rw[hv]at h1;generalize cw:a.eval x=av at h1
   cases h1 with
   | cz v _ _ _ _ _ eQ=>rw[eQ]at dP;simp[aQ.alive]at dP
   | cM=>exact Zi S hd bN (v:=.int .i64 0) (by simp[execOp,ho,cw,resolve,invoke,builtin,Builtin.len_,run_underlying ht,goInt]) (fb rfl)
   | df=>exact Zi S hd bN (v:=.int .i64 0) (by simp[execOp,ho,cw,resolve,invoke,builtin,Builtin.len_,run_underlying ht,goInt]) (fb rfl)
   | r=>exact Zi S hd bN (v:=.int .i64 len) (by simp[execOp,ho,cw,resolve,invoke,builtin,Builtin.len_,run_underlying ht,goInt]) (fb rfl)
  ·cases he
 ·rename_i sz es id g p hv
  split at he
  ·rename_i hg
   cases he;rw[hv]at h1;obtain⟨hr,_⟩:=h1.ze hg;generalize cw:a.eval x=av at hr
   cases hr with
   | nil=>exact Zi S hd bN (v:=.int .i64 0) (by simp[execOp,ho,cw,resolve,invoke,builtin,Builtin.len_,run_underlying ht,goInt]) (fb rfl)
   | emp=>exact Zi S hd bN (v:=.int .i64 0) (by simp[execOp,ho,cw,resolve,invoke,builtin,Builtin.len_,run_underlying ht,goInt]) (fb rfl)
   | sl _ b o len cap _ es cur e0 x hz dN hlen=>subst hlen;exact Zi S hd bN (v:=.int .i64 es.length) (by simp[execOp,ho,cw,resolve,invoke,builtin,Builtin.len_,run_underlying ht,goInt]) (fb rfl)
  ·cases he
theorem QRB{x:Operand}{x':aW}{s i n:Nat}{fs:Array Field}{f:Field}(ho:o.op = .fieldAddr s x i)(hs:C.P.underlying s=some (.struct fs))(hf:fs[i]? = some f)(hn:cB C.P f.type=some n)(hn0:n≠0)
  {t:TypeId} (hx:cO C.P t x=some x') (he:Qv Γ (aW.ev σ.t) σ.h b (.kp x' f.offset)=some e) :
  o.wp C.P a w (λa' w'=>cA C U' (σ.app o.dst e) a' w') Q:=by
 have h1:=Zs S hx;have cq:∀(bk of:Nat),a.eval x = .pointer (some ⟨bk,of,Option.none⟩)->(execOp a.eval o).run C.P w = .ok (.value (.pointer (some ⟨bk,of+f.offset,Option.none⟩))) w:=by
  intro bk of cw;simp[execOp,ho,cw,Instr.fieldAt,run_underlying hs,hf,Instr.sureAddr,fieldPlace,mM hn,hn0,YN]
 simp only[Qv]at he
 split at he
 ·rename_i id k j hv
  split at he
  ·rename_i dP
   cases he;rw[hv]at h1;generalize cw:a.eval x=av at h1
   cases h1 with
   | cT v _ _ _ _ eQ=>rw[eQ]at dP;simp[aQ.alive]at dP
   | p _ _ _ bk hi hn dV =>
    refine Zi S hd bN (cq _ _ cw) ?_;rw[Nat.add_assoc];exact .p id k (j+f.offset) bk hi hn dV
  ·cases he
 ·rename_i cs j hv
  cases he;rw[hv]at h1;generalize cw:a.eval x=av at h1
  cases h1 with
  | q bk o' _ _ xv hb hc hr =>
   refine Zi S hd bN (cq _ _ cw) ?_;rw[Nat.add_assoc];exact .q bk o' (j+f.offset) cs xv hb hc hr
 ·rename_i cs j id g p i hv
  split at he
  ·rename_i hg
   cases he;rw[hv]at h1;obtain⟨bk,o',cur,e0,cw,hk,hb,hc⟩:=h1.pW hg;refine Zi S hd bN (cq _ _ cw) ?_;rw[Nat.add_assoc];exact .oh hg hk hb hc
  ·cases he
 ·cases he
theorem QTL{x i:Operand}{x' i':aW}{t e' sz:Nat}(ho:o.op = .indexAddr t x i)(ht:fX C.P t=some e')(bV:cB C.P e'=some sz){t1 t2:TypeId}
  (hx:cO C.P t1 x=some x') (hi:cO C.P t2 i=some i') (he:Qv Γ (aW.ev σ.t) σ.h b (.jv x' i' sz)=some e) :
  o.wp C.P a w (λa' w'=>cA C U' (σ.app o.dst e) a' w') Q:=by
 have h1:=Zs S hx;have h2:=Zs S hi;simp only[Qv]at he
 split at he
 rotate_left
 ·cases he
 rename_i n hn;obtain⟨k,hk⟩:=DU h2 hn
 split at he
 rotate_left
 ·cases he
 rename_i h0;have cq:∀(bk of len cap:Nat),a.eval x = .slice (some ⟨bk,of,Option.none⟩) len cap->n.toNat<len->(execOp a.eval o).run C.P w = .ok (.value (.pointer (some ⟨bk,of+n.toNat*sz,Option.none⟩))) w:=by
  intro bk of len cap cw aU;have p7:n<(len:Int):=by omega
  simp[execOp,ho,cw,hk,Instr.indexAt,asIntOf,run_underlying (JR ht),h0,p7,mM bV,YN]
 split at he
 ·rename_i ba es hv
  split at he
  rotate_left
  ·cases he
  rename_i hs;subst hs
  split at he
  rotate_left
  ·cases he
  rename_i el cU
  cases he;rw[hv]at h1;generalize cw:a.eval x=av at h1
  cases h1 with
  | c v d hr =>
   cases hr with
   | nil=>simp at cU
   | emp=>simp at cU
   | sl bk of len cap _ _ xv hlen ck cX dQ hb hc hr =>
    have aU:n.toNat<len:=by rw[<- hlen];exact(List.getElem?_eq_some_iff.1 cU).1
    refine Zi S hd bN (cq _ _ _ _ cw aU) ?_;have:=VR.q (w:=w) (F:=Fz C w ι σ.h) (ι:=ι) (h:=σ.h) bk (of+n.toNat*ba) 0 el (λk=>xv n.toNat k) (hb (λh0=>by rw[h0]at cU;simp at cU)) (λk d hk=>hc n.toNat k el d cU hk) (λk d hk=>hr n.toNat k el d cU hk);simpa using this
 ·rename_i ba id off len hv
  split at he
  rotate_left
  ·cases he
  rename_i hs;obtain⟨rfl,aU,dP⟩:=hs
  cases he;rw[hv]at h1;generalize cw:a.eval x=av at h1
  cases h1 with
  | cz v _ _ _ _ _ eQ=>rw[eQ]at dP;simp[aQ.alive]at dP
  | cM=>omega
  | df=>omega
  | r _ _ _ bk ao cap et _ m es hi hh hlen ck jn cY =>
   refine Zi S hd bN (cq _ _ _ _ cw aU) ?_;have:=VR.p (w:=w) (F:=Fz C w ι σ.h) (ι:=ι) (h:=σ.h) id (off+n.toNat) 0 bk hi (by rw[hh];simp) (by rw[hh];simp);rw[hh]at this;simp only[aQ.sz,Nat.add_zero,Nat.add_mul]at this;rw[jn (by omega),Nat.add_assoc];exact this
 ·rename_i ba es id g p hv
  split at he
  rotate_left
  ·cases he
  rename_i hs;obtain⟨rfl,hg⟩:=hs
  split at he
  rotate_left
  ·cases he
  rename_i el cU
  cases he;rw[hv]at h1;obtain⟨hr,_⟩:=h1.ze hg;generalize cw:a.eval x=av at hr
  cases hr with
  | nil=>simp at cU
  | emp=>simp at cU
  | sl _ bk of len cap _ _ cur e0 xv hz dN hlen ck cX dQ hk hb hle hc hr =>
   have aU:n.toNat<len:=by rw[<- hlen];exact(List.getElem?_eq_some_iff.1 cU).1
   refine Zi S hd bN (cq _ _ _ _ cw aU) ?_;have:=VR.oh (F:=Fz C w ι σ.h) (cs:=el) (j:=0) (i:=n.toNat) (o:=of+n.toNat*ba) hg hk hb (λk d zg=>⟨xv n.toNat k,hc n.toNat k el d cU zg,hr n.toNat k el d cU zg⟩);simpa using this
 ·cases he
end
end Go.Proofs.YtdplaepmjogjjaaGreat.Am
namespace Go.Proofs.YtdplaepmjogjjaaGreat.Am
open Go Go.RowKit
theorem OH{w:World}{F:Nat->Prop}{ι:Io}{h:Nat->aQ}{agg:Bool}{n:Nat}{vs:List Value}{l:List AV}{x:AV}(ft:agg=false->n=1)
  (hl:vs.length=n) (fP:l.length=n) (h1:∀(k:Nat)(v:Value),vs[k]? = some v->v.oneCell'=true)
  (hv:∀(k:Nat)(v:Value)(y:AV),vs[k]? = some v->l[k]? = some y->VR w F ι h v y) (hp:JO agg l=some x) :
  VR w F ι h (if agg then .agg vs.toArray else vs.headD undef) x:=by
 unfold JO at hp
 cases agg with
 | true =>
  simp at hp;subst hp;exact .a _ _ (by simp[hl,fP]) (λk v hk=>h1 k v (by simpa using hk)) (λk v y hk hy=>hv k v y (by simpa using hk) hy)
 | false =>
  have:=ft rfl;subst this
  match l,fP with
  | [y],_ =>
   simp at hp;subst hp
   match vs,hl with
   | [v],_=>exact hv 0 v y rfl rfl
theorem QWf{P:Program}{w:World}{t:TypeId}{agg:Bool}{n:Nat}(eR:JQ P t=some agg)(hn:agg=true->cB P t=some n)(ft:agg=false->n=1)
  {bk o:Nat} {vs:List Value} (hl:vs.length=n) (hc:∀ k v,vs[k]? = some v->w.cell? ⟨bk,o+k,Option.none⟩=some v) :
  (Instr.loadAt t (.pointer (some ⟨bk,o,Option.none⟩))).run P w = .ok (if agg then .agg vs.toArray else vs.headD undef) w:=by
 cases agg with
 | true =>
  have h:=run_loadCells_list (P:=P) w ⟨bk,o,Option.none⟩ vs (λj v hj=>by rw[YN];exact hc j v hj);rw[hl]at h;simp[Instr.loadAt,Instr.sureAddr,loadVar,s8 eR,mM (hn rfl),h]
 | false =>
  have:=ft rfl;subst this
  match vs,hl with
  | [v],_ =>
   have h0:=hc 0 v rfl;simp only[Nat.add_zero]at h0;simp[Instr.loadAt,Instr.sureAddr,loadVar,s8 eR,h0]
theorem QHQ{P:Program}{w:World}{t:TypeId}{agg:Bool}{n:Nat}(eR:JQ P t=some agg)(hn:agg=true->cB P t=some n)(ft:agg=false->n=1)
  {bk o:Nat} {vs:List Value} (hl:vs.length=n) (hc:∀ k v,vs[k]? = some v->w.cell? ⟨bk,o+k,Option.none⟩=some v) :
  (loadVar t ⟨bk,o,Option.none⟩).run P w = .ok (if agg then .agg vs.toArray else vs.headD undef) w:=by
 cases agg with
 | true =>
  have h:=run_loadCells_list (P:=P) w ⟨bk,o,Option.none⟩ vs (λj v hj=>by rw[YN];exact hc j v hj);rw[hl]at h;simp[loadVar,s8 eR,mM (hn rfl),h]
 | false =>
  have:=ft rfl;subst this
  match vs,hl with
  | [v],_ =>
   have h0:=hc 0 v rfl;simp only[Nat.add_zero]at h0;simp[loadVar,s8 eR,h0]
theorem OI{id g i:Nat}:∀ {l:List D} {j k:Nat} {y:AV} {d:D},(cj id g i j l)[k]? = some y->l[k]? = some d->y=match d with | .v x=>.c (.v x) | d=>.b d id g [(i,j+k)]
 | [],j,k,y,d,h,h'=>by simp at h'
 | x::l,j,0,y,d,h,h'=>by
  simp only[cj,List.getElem?_cons_zero,Option.some.injEq]at h h';subst h';rw[<- h];rfl
 | x::l,j,k+1,y,d,h,h'=>by
  simp only[cj,List.getElem?_cons_succ]at h h';rw[OI h h',Nat.add_assoc,Nat.add_comm 1 k]
theorem OJ{id g i:Nat}:∀ {l:List D} {j:Nat},(cj id g i j l).length=l.length
 | [],j=>rfl
 | x::l,j=>by simp[cj,OJ (l:=l)]
theorem OK{m:Mo}{id i j:Nat}{l:List D}:(da m id i j l).length=l.length:=by
 cases m <;> simp[da,OJ]
theorem OL{id g i:Nat}{p:cE}:∀ {l:List D} {j k:Nat} {y:AV} {d:D},(bQ id g p i j l)[k]? = some y->l[k]? = some d->y=match d with | .v x=>.c (.v x) | d=>.b d id g (p++[(i,j+k)])
 | [],j,k,y,d,h,h'=>by simp at h'
 | x::l,j,0,y,d,h,h'=>by
  simp only[bQ,List.getElem?_cons_zero,Option.some.injEq]at h h';subst h';rw[<- h];rfl
 | x::l,j,k+1,y,d,h,h'=>by
  simp only[bQ,List.getElem?_cons_succ]at h h';rw[OL h h',Nat.add_assoc,Nat.add_comm 1 k]
theorem DV{id g i:Nat}{p:cE}:∀ {l:List D} {j:Nat},(bQ id g p i j l).length=l.length
 | [],j=>rfl
 | x::l,j=>by simp[bQ,DV (l:=l)]
theorem QTj{w:World}{F:Nat->Prop}{ι:Io}{h:Nat->aQ}{id bk i j k sz:Nat}{e e0:TypeId}{m:Mo}{es:List (List D)}{cur:Array Value}{l:List D}{y:AV}{v:Value}{d:D}(hh:h id = .sl e sz m es)(hf:m.full=true)(hi:ι id=some bk)
  (hb:w.heap[bk]? = some (.cells cur e0 (0,0))) (hy:(da m id i j l)[k]? = some y) (hd:l[k]? = some d) (hv:cur[ι.o id+i*sz+(j+k)]? = some v) (hr:RM w F ι id m i (j+k) v d):VR w F ι h v y:=by
 have ta:∀(hr:Rd w F v d)(hy:(l.map AV.c)[k]? = some y),VR w F ι h v y:=by
  intro hr hy;rw[List.getElem?_map,hd]at hy
  cases hy;exact .c _ _ hr
 cases m with
 | fz=>exact ta hr hy
 | ow=>exact ta hr hy
 | dp g t H =>
  cases H with
  | cons=>simp[Mo.full]at hf
  | nil =>
   have jx:=hr.2 (by simp);have:=OI hy hd;subst this
   cases d with
   | v x=>cases jx with | v _ _ h1=>exact .c _ _ (.v _ h1)
   | sl ba bP =>
    refine .u6 hh rfl jx (λi' j' hp=>?_);simp only[List.cons.injEq,Prod.mk.injEq,and_true]at hp;obtain⟨rfl,rfl⟩:=hp;exact⟨bk,cur,e0,hi,hb,hv⟩
theorem QHo{w:World}{F:Nat->Prop}{ι:Io}{h:Nat->aQ}{id g i j k:Nat}{p:cE}{l:List D}{y:AV}{v:Value}{d:D}(iN:(h id).dq=some g)(hp:p≠[])
  (hy:(bQ id g p i j l)[k]? = some y) (hd:l[k]? = some d) (hr:RL w ι.k id (p++[(i,j+k)]) v d):VR w F ι h v y:=by
 have hg:=aQ.eB iN;have:=OL hy hd;subst this
 cases d with
 | v x=>cases hr with | v _ _ h1=>exact .c _ _ (.v _ h1)
 | sl ba bP =>
  cases hx:h id with
  | sl e sz m es =>
   rw[hx]at hg;refine .u6 hx hg hr (λi' j' hq=>?_)
   cases p with
   | nil=>exact absurd rfl hp
   | cons a r=>simp at hq
  | _=>rw[hx]at hg;cases hg
section
variable {C:Ctx} {U U':Nat->Prop} {σ:St} {a:Act} {w:World} {ι:Io} {o:Oper} {Q:Exit->Act->World->Prop} {Γ:eA} {b:Nat} {e:fj}
theorem p8{w:World}{bk k:Nat}{cur:Array Value}{et:TypeId}{fr:Nat × Nat}{v:Value}(hb:w.heap[bk]? = some (.cells cur et fr))(hv:cur[k]? = some v):w.cell? ⟨bk,k,Option.none⟩=some v:=by
 simp[World.cell?,hb,hv]
theorem OM(S:Sat C U σ a w ι){x:Operand}{av:Value}(cw:a.eval x=av){x':aW}{t n:Nat}{agg:Bool}{t1:TypeId}(hx:cO C.P t1 x=some x')(eR:JQ C.P t=some agg)(hn:agg=true->cB C.P t=some n)(ft:agg=false->n=1)
  (he:Qv Γ (aW.ev σ.t) σ.h b (.load x' n agg)=some e) :
  ∃ v x1,e=⟨x1,[]⟩/\VR w (Fz C w ι σ.h) ι σ.h v x1/\(Instr.loadAt t av).run C.P w = .ok v w/\∃ ad,av = .pointer (some ad)/\(loadVar t ad).run C.P w = .ok v w:=by
 have h1:=Zs S hx;have fin:∀(bk of:Nat)(vs:List Value)(l:List AV)(v:AV),a.eval x = .pointer (some ⟨bk,of,Option.none⟩)->vs.length=n->l.length=n->
   (∀(k:Nat)(v:Value),vs[k]? = some v->w.cell? ⟨bk,of+k,Option.none⟩=some v)->(∀(k:Nat)(v:Value),vs[k]? = some v->v.oneCell'=true)->
   (∀(k:Nat)(v:Value)(y:AV),vs[k]? = some v->l[k]? = some y->VR w (Fz C w ι σ.h) ι σ.h v y)->JO agg l=some v->
   ∃ v' x1,(⟨v,[]⟩:fj)=⟨x1,[]⟩/\VR w (Fz C w ι σ.h) ι σ.h v' x1/\(Instr.loadAt t av).run C.P w = .ok v' w/\∃ ad,av = .pointer (some ad)/\(loadVar t ad).run C.P w = .ok v' w:=by
  intro bk of vs l v lj hl fP hc h1 hv hp;rw[cw]at lj;refine⟨_,v,rfl,OH ft hl fP h1 hv hp,by rw[lj];exact QWf eR hn ft hl hc,_,lj,QHQ eR hn ft hl hc⟩
 simp only[Qv]at he
 split at he
 ·rename_i id i j hv;have dr:=S.fi id
  split at he
  ·rename_i cs hh
   split at he
   rotate_left
   ·cases he
   rename_i hi0;subst hi0
   split at he
   rotate_left
   ·cases he
   rename_i l hl
   split at he
   rotate_left
   ·cases he
   rename_i v hp
   cases he;rw[hv]at h1;rw[cw]at h1
   cases h1 with
   | cT v _ _ _ _ eQ=>rw[eQ]at hh;cases hh
   | p _ _ _ bk hi mj dV =>
    rw[hh]at dr
    cases dr with
    | box ml et bj _ bY eS hb hlen h1 dS =>
     rw[hi]at bY
     cases bY;rw[eS,Nat.zero_add]at cw;obtain⟨c1,c2⟩:=ve hl;obtain⟨c3,_⟩:=s9 hl;rw[hh]at cw;simp only[aQ.sz,Nat.mul_zero,Nat.zero_add]at cw;have eK:∀ k:Nat,k<n->((bj.toList.drop j).take n)[k]? = bj[j+k]?:=λk hk=>by rw[List.getElem?_take,if_pos hk,List.getElem?_drop];simp
     have lk:((bj.toList.drop j).take n).length=n:=by simp;omega
     have ez:∀(k:Nat)(v:Value),((bj.toList.drop j).take n)[k]? = some v->k<n/\bj[j+k]? = some v:=by
      intro k v hk;have:k<n:=by rw[<- lk];exact(List.getElem?_eq_some_iff.1 hk).1
      rw[eK k this]at hk;exact⟨this,hk⟩
     refine fin bk j ((bj.toList.drop j).take n) l v cw lk c1 (λk v hk=>?_) (λk v hk=>h1 _ v (ez k v hk).2) (λk v y hk hy=>?_) hp
     ·exact p8 hb (ez k v hk).2
     ·rw[c2 k (ez k v hk).1]at hy;exact dS _ v y (ez k v hk).2 hy
  ·rename_i et sz m es hh
   split at he
   rotate_left
   ·cases he
   rename_i dW
   split at he
   rotate_left
   ·cases he
   rename_i el cU
   split at he
   rotate_left
   ·cases he
   rename_i l hl
   split at he
   rotate_left
   ·cases he
   rename_i v hp
   cases he;rw[hv]at h1;rw[cw]at h1
   cases h1 with
   | cT v _ _ _ _ eQ=>rw[eQ]at hh;cases hh
   | p _ _ _ bk hi mj dV =>
    rw[hh]at dr
    cases dr with
    | slnil=>simp at cU
    | sl ml _ e0 _ _ _ cur hz bY hb eO hle cX bV dS =>
     rw[hi]at bY
     cases bY;obtain⟨c1,c2⟩:=ve hl;obtain⟨c3,_⟩:=s9 hl;have jy:i<es.length:=(List.getElem?_eq_some_iff.1 cU).1;have mN:el.length=sz:=bV el (List.mem_of_getElem? cU);rw[hh]at cw;simp only[aQ.sz]at cw;have oo:ι.o id+i*sz+j+n<=cur.size:=by
      have:(i+1)*sz<=es.length*sz:=Nat.mul_le_mul_right _ (by omega);rw[Nat.add_mul]at this;omega
     have eK:∀ k:Nat,k<n->((cur.toList.drop (ι.o id+i*sz+j)).take n)[k]? = cur[ι.o id+i*sz+j+k]?:=λk hk=>by rw[List.getElem?_take,if_pos hk,List.getElem?_drop];simp
     have lk:((cur.toList.drop (ι.o id+i*sz+j)).take n).length=n:=by simp;omega
     have ez:∀(k:Nat)(v:Value),((cur.toList.drop (ι.o id+i*sz+j)).take n)[k]? = some v->k<n/\cur[ι.o id+i*sz+j+k]? = some v:=by
      intro k v hk;have:k<n:=by rw[<- lk];exact(List.getElem?_eq_some_iff.1 hk).1
      rw[eK k this]at hk;exact⟨this,hk⟩
     have mO:∀(k:Nat)(v:Value),((cur.toList.drop (ι.o id+i*sz+j)).take n)[k]? = some v->∃ d,l[k]? = some d/\RM w (Fz C w ι σ.h) ι id m i (j+k) v d:=by
      intro k v hk;obtain⟨jz,p9⟩:=ez k v hk;have DW:k<l.length:=by omega
      have mP:=c2 k jz;rw[List.getElem?_eq_getElem DW]at mP;obtain⟨v',h3,h4⟩:=dS i (j+k) el _ cU mP.symm;rw[show ι.o id+i*sz+(j+k)=ι.o id+i*sz+j+k by omega,p9]at h3
      cases h3;exact⟨l[k],by simp,h4⟩
     refine fin bk (ι.o id+i*sz+j) ((cur.toList.drop (ι.o id+i*sz+j)).take n) (da m id i j l) v cw lk (by rw[OK];exact c1) (λk v hk=>?_) (λk v hk=>?_) (λk v y hk hy=>?_) hp
     ·exact p8 hb (ez k v hk).2
     ·obtain⟨d,_,h⟩:=mO k v hk;exact h.one
     ·obtain⟨d,h5,h6⟩:=mO k v hk;exact QTj hh dW hi hb hy h5 (by rw[show ι.o id+i*sz+(j+k)=ι.o id+i*sz+j+k by omega];exact(ez k v hk).2) h6
  ·cases he
 ·rename_i cs j id g p i hv
  split at he
  rotate_left
  ·cases he
  rename_i hg
  split at he
  rotate_left
  ·cases he
  rename_i l hl
  split at he
  rotate_left
  ·cases he
  rename_i v hp
  cases he;rw[hv]at h1;obtain⟨bk,o',cur,e0,lj,hk,hb,hc⟩:=h1.pW hg;obtain⟨c1,c2⟩:=ve hl;obtain⟨c3,_⟩:=s9 hl;have qc:∀ k:Nat,k<n->∃ d x,l[k]? = some d/\cur[o'+(j+k)]? = some x/\RL w ι.k id (p++[(i,j+k)]) x d:=by
   intro k jz;have DW:k<l.length:=by omega
   have mP:=c2 k jz;rw[List.getElem?_eq_getElem DW]at mP;obtain⟨x,h2,h3⟩:=hc (j+k) _ mP.symm;exact⟨l[k],x,by simp,h2,h3⟩
  have gI:p≠[]:=(S.dg bk id p hk).pn;have ez:∀(k:Nat)(v:Value),((List.range n).map λk=>cur.getD (o'+(j+k)) undef)[k]? = some v->k<n/\v=cur.getD (o'+(j+k)) undef:=by
   intro k v hk;rw[List.getElem?_map]at hk;by_cases jz:k<n
   ·rw[List.getElem?_range jz]at hk;simp at hk;exact⟨jz,by rw[<- hk];simp⟩
   ·rw[List.getElem?_eq_none (by simp;omega)]at hk;simp at hk
  refine fin bk (o'+j) ((List.range n).map λk=>cur.getD (o'+(j+k)) undef) (bQ id g p i j l) v lj (by simp) (by rw[DV];exact c1) (λk v hk=>?_) (λk v hk=>?_) (λk v y hk hy=>?_) hp
  ·obtain⟨h2,rfl⟩:=ez k v hk;obtain⟨d,x,h3,h4,h5⟩:=qc k h2;have:cur.getD (o'+(j+k)) undef=x:=by simp[Array.getD_eq_getD_getElem?,h4]
   rw[this];exact p8 hb (by rw[Nat.add_assoc];exact h4)
  ·obtain⟨h2,rfl⟩:=ez k v hk;obtain⟨d,x,h3,h4,h5⟩:=qc k h2;have:cur.getD (o'+(j+k)) undef=x:=by simp[Array.getD_eq_getD_getElem?,h4]
   rw[this];exact h5.one
  ·obtain⟨h2,rfl⟩:=ez k v hk;obtain⟨d,x,h3,h4,h5⟩:=qc k h2;have:cur.getD (o'+(j+k)) undef=x:=by simp[Array.getD_eq_getD_getElem?,h4]
   rw[this];exact QHo hg gI hy h3 h5
 ·rename_i cs j hv
  split at he
  rotate_left
  ·cases he
  rename_i l hl
  split at he
  rotate_left
  ·cases he
  rename_i v hp
  cases he;rw[hv]at h1;rw[cw]at h1
  cases h1 with
  | q bk o' _ _ xv hb hc hr =>
   obtain⟨c1,c2⟩:=ve hl;obtain⟨c3,_⟩:=s9 hl;have ez:∀(k:Nat)(v:Value),((List.range n).map λk=>xv (j+k))[k]? = some v->k<n/\v=xv (j+k):=by
    intro k v hk;rw[List.getElem?_map]at hk;by_cases jz:k<n
    ·rw[List.getElem?_range jz]at hk;simp at hk;exact⟨jz,hk.symm⟩
    ·rw[List.getElem?_eq_none (by simp;omega)]at hk;simp at hk
   have mP:∀ k:Nat,k<n->∃ d,cs[j+k]? = some d/\l[k]? = some d:=by
    intro k hk;have:k<l.length:=by omega
    exact⟨l[k],by rw[<- c2 k hk];simp,by simp⟩
   refine fin bk (o'+j) ((List.range n).map λk=>xv (j+k)) (l.map .c) v cw (by simp) (by simpa using c1) (λk v hk=>?_) (λk v hk=>?_) (λk v y hk hy=>?_) hp
   ·obtain⟨h2,rfl⟩:=ez k v hk;obtain⟨d,h3,_⟩:=mP k h2;rw[Nat.add_assoc];exact hc (j+k) d h3
   ·obtain⟨h2,rfl⟩:=ez k v hk;obtain⟨d,h3,_⟩:=mP k h2;exact(hr (j+k) d h3).one
   ·obtain⟨h2,rfl⟩:=ez k v hk;obtain⟨d,h3,h4⟩:=mP k h2;simp[h4]at hy;subst hy;exact .c _ _ (hr (j+k) d h3)
 ·cases he
variable (S:Sat C U σ a w ι) (hd:∀ d,o.dst=some d->d<C.N) (bN:∀ i,U' i->U i)
include S hd bN
theorem QPy{x:Operand}{x':aW}{t n:Nat}{agg:Bool}{t1:TypeId}(ho:o.op = .load t x)(hx:cO C.P t1 x=some x')(eR:JQ C.P t=some agg)(hn:agg=true->cB C.P t=some n)(ft:agg=false->n=1)
  (he:Qv Γ (aW.ev σ.t) σ.h b (.load x' n agg)=some e) :
  o.wp C.P a w (λa' w'=>cA C U' (σ.app o.dst e) a' w') Q:=by
 obtain⟨v,x1,rfl,hv,hr,_⟩:=OM S rfl hx eR hn ft he;refine Zi S hd bN ?_ hv;simp only[execOp,ho,Sem.run_bind,hr,Result.andThen_ok,Sem.run_pure]
theorem QQl{x:Operand}{x':aW}{t i n:Nat}{agg:Bool}{fs:Array Field}{f:Field}{t1:TypeId}(ho:o.op = .field t x i)(ht:C.P.underlying t=some (.struct fs))(hf:fs[i]? = some f)
  (eR:JQ C.P f.type=some agg) (hn:agg=true->cB C.P f.type=some n) (ft:agg=false->n=1) (hx:cO C.P t1 x=some x')
  (he:Qv Γ (aW.ev σ.t) σ.h b (.kY x' f.offset n agg)=some e) :
  o.wp C.P a w (λa' w'=>cA C U' (σ.app o.dst e) a' w') Q:=by
 have h1:=Zs S hx;simp only[Qv]at he
 split at he
 rotate_left
 ·cases he
 rename_i cs hv
 split at he
 rotate_left
 ·cases he
 rename_i l hl
 split at he
 rotate_left
 ·cases he
 rename_i v hp
 cases he;rw[hv]at h1;generalize cw:a.eval x=av at h1
 cases h1 with
 | a vs _ fP h1 dS =>
  obtain⟨c1,c2⟩:=ve hl;obtain⟨c3,_⟩:=s9 hl;have eK:∀ k:Nat,k<n->((vs.toList.drop f.offset).take n)[k]? = vs[f.offset+k]?:=λk hk=>by rw[List.getElem?_take,if_pos hk,List.getElem?_drop];simp
  have lk:((vs.toList.drop f.offset).take n).length=n:=by simp;omega
  have ez:∀(k:Nat)(v:Value),((vs.toList.drop f.offset).take n)[k]? = some v->k<n/\vs[f.offset+k]? = some v:=by
   intro k v hk;have:k<n:=by rw[<- lk];exact(List.getElem?_eq_some_iff.1 hk).1
   rw[eK k this]at hk;exact⟨this,hk⟩
  refine Zi S hd bN ?_ (OH ft lk c1 (λk v hk=>h1 _ v (ez k v hk).2) (λk v y hk hy=>?_) hp)
  ·cases agg with
   | true =>
    have DX:vs.extract f.offset (f.offset+n)=((vs.toList.drop f.offset).take n).toArray:=by
     apply Array.ext';simp[Array.toList_extract,List.extract]
    simp[execOp,ho,cw,Instr.field,run_underlying ht,hf,asAgg,part,s8 eR,mM (hn rfl),DX]
   | false =>
    have:=ft rfl;subst this;have aU:f.offset<vs.size:=by omega
    have h0:vs[f.offset]? = some vs[f.offset]:=Array.getElem?_eq_getElem aU;have h2:((vs.toList.drop f.offset).take 1).headD undef=vs[f.offset]:=by
     have:=eK 0 (by omega);simp only[Nat.add_zero,h0]at this;rw[List.headD_eq_head?_getD,List.head?_eq_getElem?,this];rfl
    simp[execOp,ho,cw,Instr.field,run_underlying ht,hf,asAgg,part,s8 eR,h0];simpa using h2.symm
  ·rw[c2 k (ez k v hk).1]at hy;exact dS _ v y (ez k v hk).2 hy
theorem QPc{x:Operand}{x':aW}{lo hi:Option Operand}{zh bY:Option aW}{t e' sz:Nat}{t1:TypeId}(ho:o.op = .slice t x lo hi none)(ht:fX C.P t=some e')(bV:cB C.P e'=some sz)(hz:0<sz)
  (hx:cO C.P t1 x=some x') (hP:s3 C.P lo=some zh) (jA:s3 C.P hi=some bY)
  (he:Qv Γ (aW.ev σ.t) σ.h b (.fx x' zh bY sz)=some e) :
  o.wp C.P a w (λa' w'=>cA C U' (σ.app o.dst e) a' w') Q:=by
 have h1:=Zs S hx;have hL:∀(y:Option Operand)(y':Option aW)(n m:Int),s3 C.P y=some y'->Yk (aW.ev σ.t) m y'=some n->∃ v:Option Value,y.map a.eval=v/\(v=none/\n=m\/∃ k,v=some (.int k n)):=by
  intro y y' n m hy hn
  cases y with
  | none=>simp[s3]at hy;subst hy;simp[Yk]at hn;exact⟨none,rfl,.inl ⟨rfl,hn.symm⟩⟩
  | some l =>
   obtain⟨l',h2,h3⟩:=Option.map_eq_some_iff.1 hy;subst h3;obtain⟨k,hk⟩:=DU (Zs S h2) hn;exact⟨_,rfl,.inr ⟨k,by simp[hk]⟩⟩
 have bounds:∀(len cap:Nat)(l h:Int)(vl vh:Option Value),(vl=none/\l=0\/∃ k,vl=some (.int k l))->(vh=none/\h=(len:Int)\/∃ k,vh=some (.int k h))->0<=l->l<=h->h<=len->len<=cap->
   (Instr.sliceBounds true len cap vl vh none).run C.P w = .ok (l.toNat,h.toNat,cap) w:=by
  intro len cap l h vl vh h1 h2 h3 h4 h5 h6;have h7:h<=(cap:Int):=by omega
  have h8:0<=h:=by omega
  have h9:max h 0=h:=by omega
  rcases h1 with⟨rfl,rfl⟩ | ⟨k1,rfl⟩ <;> rcases h2 with⟨rfl,rfl⟩ | ⟨k2,rfl⟩ <;> simp[Instr.sliceBounds,Instr.sliceBound,asIntOf, *]
 have cq:∀(ad:Option Addr)(len cap:Nat)(l h:Int) ,a.eval x = .slice ad len cap->((∃ v:Option Value,lo.map a.eval=v/\(v=none/\l=0\/∃ k,v=some (.int k l))))->(∃ v:Option Value,hi.map a.eval=v/\(v=none/\h=(len:Int)\/∃ k,v=some (.int k h)))->
   0<=l->l<=h->h<=len->len<=cap->(execOp a.eval o).run C.P w = .ok (.value (.slice (if cap=l.toNat then ad else ad.map (·.add (l.toNat*sz))) (h.toNat-l.toNat) (cap-l.toNat))) w:=by
  intro ad len cap l h cw hl hh h3 h4 h5 h6;obtain⟨vl,e1,hl⟩:=hl;obtain⟨vh,e2,hh⟩:=hh;simp[execOp,ho,cw,Instr.sliceAt,Instr.slice,run_underlying (JR ht),e1,e2,bounds len cap l h vl vh hl hh h3 h4 h5 h6,mM bV]
 simp only[Qv]at he
 split at he
 rotate_left
 ·cases he
 rename_i l hl;have fP:=hL lo zh l 0 hP hl
 split at he
 ·rename_i ba es hv
  split at he
  rotate_left
  ·cases he
  rename_i h hh;have ca:=hL hi bY h es.length jA hh
  split at he
  rotate_left
  ·cases he
  rename_i hc;obtain⟨rfl,h3,h4,h5⟩:=hc
  cases he;rw[hv]at h1;generalize cw:a.eval x=av at h1
  cases h1 with
  | c v d hr =>
   cases hr with
   | nil =>
    have:l=0:=by simp at h5;omega
    have:h=0:=by simp at h5;omega
    subst_vars
    refine Zi S hd bN (cq _ _ _ 0 0 cw fP ca (by omega) (by omega) (by simp) (by omega)) ?_;simpa using VR.c (w:=w) (F:=Fz C w ι σ.h) (ι:=ι) (h:=σ.h) _ _ (Rd.nil ba)
   | emp ad cap =>
    have:l=0:=by simp at h5;omega
    have:h=0:=by simp at h5;omega
    subst_vars
    refine Zi S hd bN (cq _ _ _ 0 0 cw fP ca (by omega) (by omega) (by simp) (by omega)) ?_;have e:(if cap=Int.toNat 0 then some ad else(some ad).map (·.add (Int.toNat 0*ba)))=some ad:=by
     split
     ·rfl
     ·simp[Addr.add]
    rw[e];simpa using VR.c (w:=w) (F:=Fz C w ι σ.h) (ι:=ι) (h:=σ.h) _ _ (Rd.emp ad cap ba)
   | sl bk of len cap _ _ xv hlen ck cX dQ hb hc hr =>
    subst hlen;refine Zi S hd bN (cq _ _ _ l h cw fP ca h3 h4 h5 ck) ?_;have ku:((es.drop l.toNat).take (h.toNat-l.toNat)).length=h.toNat-l.toNat:=by simp;omega
    have ln:∀(i:Nat)(el:List D),((es.drop l.toNat).take (h.toNat-l.toNat))[i]? = some el->es[l.toNat+i]? = some el:=by
     intro i el cU;have hi:=(List.getElem?_eq_some_iff.1 cU).1;rw[List.getElem?_take,if_pos (by omega),List.getElem?_drop]at cU;exact cU
    by_cases lq:cap=l.toNat
    ·rw[if_pos lq];refine .c _ _ (.sl bk of _ _ ba _ (λi j=>xv (l.toNat+i) j) ku (by omega) (by omega) (λe he=>dQ e (List.mem_of_mem_drop (List.mem_of_mem_take he))) (λhn=>hb (λh0=>hn (by rw[h0];simp))) (λi j el d h8 h9=>?_) (λi j el d h8 h9=>hr _ j el d (ln i el h8) h9));have:=(List.getElem?_eq_some_iff.1 h8).1;omega
    ·rw[if_neg lq];simp only[Option.map_some,YN];refine .c _ _ (.sl bk _ _ _ ba _ (λi j=>xv (l.toNat+i) j) ku (by omega) (by omega) (λe he=>dQ e (List.mem_of_mem_drop (List.mem_of_mem_take he))) (λhn=>hb (λh0=>hn (by rw[h0];simp))) (λi j el d h8 h9=>?_) (λi j el d h8 h9=>hr _ j el d (ln i el h8) h9));rw[show of+l.toNat*ba+i*ba+j=of+(l.toNat+i)*ba+j by rw[Nat.add_mul];omega];exact hc _ j el d (ln i el h8) h9
 ·rename_i ba id off len hv
  split at he
  rotate_left
  ·cases he
  rename_i h hh;have ca:=hL hi bY h len jA hh
  split at he
  rotate_left
  ·cases he
  rename_i hc;obtain⟨rfl,h3,h4,h5,dP⟩:=hc
  cases he;rw[hv]at h1;generalize cw:a.eval x=av at h1
  cases h1 with
  | cz v _ _ _ _ _ eQ=>rw[eQ]at dP;simp[aQ.alive]at dP
  | df ad vg _ et _ m bY td htp =>
   have:l=0:=by omega
   have:h=0:=by omega
   subst_vars
   refine Zi S hd bN (cq _ _ _ 0 0 cw fP ca (by omega) (by omega) (by simp) (by omega)) ?_;have e:(if vg=Int.toNat 0 then some ad else(some ad).map (·.add (Int.toNat 0*ba)))=some ad:=by
    split
    ·rfl
    ·simp[Addr.add]
   rw[e];simpa using VR.df (w:=w) (F:=Fz C w ι σ.h) (ι:=ι) (h:=σ.h) ad vg id et ba m bY td htp
  | cM _ et _ m bY td =>
   have:l=0:=by omega
   have:h=0:=by omega
   subst_vars
   refine Zi S hd bN (cq _ _ _ 0 0 cw fP ca (by omega) (by omega) (by simp) (by omega)) ?_;simpa using VR.cM (w:=w) (F:=Fz C w ι σ.h) (ι:=ι) (h:=σ.h) id et ba m bY td
  | r _ _ _ bk ao cap et _ m es bY td hlen ck jn cY =>
   refine Zi S hd bN (cq _ _ _ l h cw fP ca h3 h4 h5 ck) ?_;by_cases lq:cap=l.toNat
   ·rw[if_pos lq];refine .r id (off+l.toNat) (h.toNat-l.toNat) bk ao (cap-l.toNat) et ba m es bY td (by omega) (by omega) (λdN=>by omega) (λht h0=>?_);have DY:off=0:=by omega
    have DZ:l.toNat=0:=by omega
    rw[DZ,Nat.sub_zero];exact cY ht DY
   ·rw[if_neg lq];simp only[Option.map_some,YN];refine .r id (off+l.toNat) (h.toNat-l.toNat) bk _ (cap-l.toNat) et ba m es bY td (by omega) (by omega) (λdN=>?_) (λht h0=>?_)
    ·rw[jn (by omega),Nat.add_mul,Nat.add_assoc]
    ·have DY:off=0:=by omega
     have DZ:l.toNat=0:=by omega
     rw[DZ,Nat.sub_zero,Nat.zero_mul,Nat.add_zero];exact cY ht DY
 ·rename_i ba hv
  split at he
  rotate_left
  ·cases he
  rename_i h hh;have ca:=hL hi bY h 0 jA hh
  split at he
  rotate_left
  ·cases he
  rename_i hc;obtain⟨rfl,rfl⟩:=hc
  cases he;rw[hv]at h1;generalize cw:a.eval x=av at h1
  cases h1 with
  | n =>
   refine Zi S hd bN (cq _ _ _ 0 0 cw fP ca (by omega) (by omega) (by simp) (by omega)) ?_;simpa using VR.n (w:=w) (F:=Fz C w ι σ.h) (ι:=ι) (h:=σ.h) sz
 ·cases he
omit S hd bN in
theorem ON{P:Program}{w:World}{d:Nat}{xs ys:Array Value}{l m:List Int}(hx:∀(i:Nat)(n:Int),l[i]? = some n->xs[i]? = some (.int .i64 n))(hy:∀(i:Nat)(n:Int),m[i]? = some n->ys[i]? = some (.int .i64 n))
  (D0:l.length=m.length):∀(fs:List Field)(k:Nat),zf P fs k=true->k+fs.length=l.length->(Op.eqFields (d+1) xs ys fs).run P w = .ok (decide (l.drop k=m.drop k)) w
 | [],k,_,hk=>by
  simp at hk;rw[List.drop_of_length_le (by omega),List.drop_of_length_le (by omega)];simp[Op.eqFields]
 | f::fs,k,hp,hk=>by
  simp only[zf,Bool.and_eq_true,bne_iff_ne,ne_eq,beq_iff_eq]at hp;obtain⟨⟨⟨⟨h1,h2⟩,h3⟩,h4⟩,h5⟩:=hp;simp at hk;have OO:k<l.length:=by omega
  have jX:k<m.length:=by omega
  have iV:=hx k l[k] (by simp[OO]);have vi:=hy k m[k] (by simp[jX])
  split at h4
  rotate_left
  ·cases h4
  rename_i kk hu;have eR:∀ w:World,(isAgg f.type).run P w = .ok false w:=λw=>by simp[isAgg,run_underlying hu]
  have e1:(Op.equalIn (d+1) f.type (.int .i64 l[k]) (.int .i64 m[k])).run P w = .ok (l[k]==m[k]) w:=by simp[Op.equalIn,run_underlying hu]
  have hdk:(l.drop k=m.drop k)↔(l[k]=m[k]/\l.drop (k+1)=m.drop (k+1)):=by
   rw[List.drop_eq_getElem_cons OO,List.drop_eq_getElem_cons jX,List.cons.injEq]
  have ih:=ON (P:=P) (w:=w) (d:=d) hx hy D0 fs (k+1) h5 (by omega);rw[show decide (l.drop k=m.drop k)=decide (l[k]=m[k]/\l.drop (k+1)=m.drop (k+1)) from decide_eq_decide.2 hdk];by_cases heq:l[k]=m[k]
  ·rw[<- heq]at e1 vi;have hT:(l[k]=m[k])=True:=eq_true heq;simp[Op.eqFields,h1,part,eR,h2,iV,vi,e1,hT,ih]
  ·simp[Op.eqFields,h1,part,eR,h2,iV,vi,e1,heq]
omit S hd bN in
theorem D1{w:World}{F:Nat->Prop}{h:Nat->aQ}:∀(cs:List AV)(l:List Int),om cs=some l->l.length=cs.length/\∀(i:Nat)(n:Int),l[i]? = some n->cs[i]? = some (.c (.v (.int .i64 n)))
 | [],l,hl=>by simp[om]at hl;subst hl;simp
 | c::cs,l,hl=>by
  unfold om at hl
  split at hl
  ·cases hl;rename_i heq;cases heq
  ·rename_i x r heq
   cases heq
   split at hl
   ·rename_i l' fP
    cases hl;obtain⟨h1,h2⟩:=D1 (w:=w) (F:=F) (h:=h) _ _ fP;refine⟨by simp[h1],λi n hi=>?_⟩
    cases i with
    | zero=>simp at hi;subst hi;rfl
    | succ i=>simp at hi;exact h2 i n hi
   ·cases hl
  ·cases hl
theorem OP{n:Nat}{neg:Bool}{x y:Operand}{x' y':aW}{t ty:TypeId}(ho:o.op = .binOp (if neg then .neq else .eql) t x y ty)(ht:DO C.P t=some n){t1 t2:TypeId}(hx:cO C.P t1 x=some x')(hy:cO C.P t2 y=some y')
  (he:Qv Γ (aW.ev σ.t) σ.h b (.gF n neg x' y')=some e) :
  o.wp C.P a w (λa' w'=>cA C U' (σ.app o.dst e) a' w') Q:=by
 have h1:=Zs S hx;have h2:=Zs S hy;unfold DO at ht
 split at ht
 rotate_left
 ·cases ht
 rename_i fs hu
 split at ht
 rotate_left
 ·cases ht
 rename_i hc
 cases ht;simp only[Bool.and_eq_true,Bool.not_eq_true']at hc;obtain⟨⟨hp,hg⟩,iO⟩:=hc;simp only[Qv]at he
 split at he
 rotate_left
 ·cases he
 rename_i xs ys lr hvy
 split at he
 rotate_left
 ·cases he
 rename_i l m hl hm
 split at he
 rotate_left
 ·cases he
 rename_i hlen
 cases he;rw[lr]at h1;rw[hvy]at h2;obtain⟨q1,q2⟩:=D1 (w:=w) (F:=λ_=>True) (h:=σ.h) _ _ hl;obtain⟨q3,q4⟩:=D1 (w:=w) (F:=λ_=>True) (h:=σ.h) _ _ hm;generalize OQ:a.eval x=ax at h1;generalize OR:a.eval y=ay at h2
 cases h1 with
 | a vs _ l1 _ vj =>
  cases h2 with
  | a us _ l2 _ mQ =>
   have hX:∀(i:Nat)(n:Int),l[i]? = some n->vs[i]? = some (.int .i64 n):=by
    intro i n hi;have hk:=q2 i n hi;have aU:i<vs.size:=by rw[l1];exact(List.getElem?_eq_some_iff.1 hk).1
    have:=(vj i vs[i] _ (Array.getElem?_eq_getElem aU) hk).int;rw[Array.getElem?_eq_getElem aU,this]
   have hY:∀(i:Nat)(n:Int),m[i]? = some n->us[i]? = some (.int .i64 n):=by
    intro i n hi;have hk:=q4 i n hi;have aU:i<us.size:=by rw[l2];exact(List.getElem?_eq_some_iff.1 hk).1
    have:=(mQ i us[i] _ (Array.getElem?_eq_getElem aU) hk).int;rw[Array.getElem?_eq_getElem aU,this]
   have hr:=ON (P:=C.P) (w:=w) (d:=9998) hX hY (by omega) fs.toList 0 hp (by simp;omega);have zi:C.P.fieldsOf t=fs:=by simp[Program.fieldsOf,hu]
   have hs:=run_equalIn_struct (P:=C.P) w 9999 t vs us (by rw[zi];exact hu) iO;rw[zi,hr]at hs;simp only[List.drop_zero]at hs;refine Zi S hd bN (v:=.bool (if neg then !decide (l=m) else decide (l=m))) ?_ (fb rfl);have jY:∀ op,(eqGuard op t x y (.agg vs) (.agg us)).run C.P w = .ok () w:=λop=>run_eqGuard_agg w op t x y vs us hg
   cases neg
   ·simp[execOp,ho,OQ,OR,jY,run_eql_struct,hs]
   ·simp[execOp,ho,OQ,OR,jY,run_neq_struct,hs]
end
end Go.Proofs.YtdplaepmjogjjaaGreat.Am
namespace Go.Proofs.YtdplaepmjogjjaaGreat.Am
open Go Go.RowKit
structure CR(w:World)(F:Nat->Prop)(ι:Io)(h:Nat->aQ)(cur:Array Value)(cs:List AV):Prop where
 size:cur.size=cs.length
 one:∀(k:Nat)(v:Value),cur[k]? = some v->v.oneCell'=true
 vr:∀(k:Nat)(v:Value)(x:AV),cur[k]? = some v->cs[k]? = some x->VR w F ι h v x
theorem QUj{v:Value}(h:v.oneCell'=true):v.cells = #[v]:=by
 cases v <;> first | rfl | simp[Value.oneCell']at h
theorem VR.one{w:World}{F:Nat->Prop}{ι:Io}{h:Nat->aQ}{v:Value}{x:AV}(hv:VR w F ι h v x)(hx:x.one=true):v.oneCell'=true:=by
 cases hv with
 | u=>simp[AV.one]at hx
 | c v d hr=>exact hr.one
 | n=>rfl
 | cz _ _ _ _ _ h1=>exact h1
 | cM=>rfl
 | df=>rfl
 | r=>rfl
 | cT _ _ _ _ h1=>exact h1
 | p=>rfl
 | q=>rfl
 | fo _ _ _ _ _ h1=>exact h1
 | b _ _ _ _ _ _ _ _ _ h1=>exact h1
 | eJ _ _ _ _ _ _ _ h1=>exact h1
 | bq _ _ _ _ _ _ _ _ _ _ _ h1=>exact h1
 | a=>simp[AV.one]at hx
 | t=>simp[AV.one]at hx
theorem VR.cells{w:World}{F:Nat->Prop}{ι:Io}{h:Nat->aQ}{v:Value}{x:AV}(hv:VR w F ι h v x)(hx:x.st=true):CR w F ι h v.cells x.cells:=by
 by_cases iU:x.one=true
 ·have h1:=hv.one iU;have hc:x.cells=[x]:=by cases x <;> first | rfl | simp[AV.one]at iU
  rw[QUj h1,hc];refine⟨rfl,λk u hk=>?_,λk u y hk hy=>?_⟩
  ·cases k with
   | zero=>simp at hk;subst hk;exact h1
   | succ k=>simp at hk
  ·cases k with
   | zero=>simp at hk hy;subst hk;subst hy;exact hv
   | succ k=>simp at hk
 ·cases x with
  | a cs =>
   cases hv with
   | a vs _ hl h1 hv=>exact⟨hl,h1,hv⟩
  | _=>first | exact absurd rfl iU | (simp[AV.st,AV.one]at hx)
theorem J4{α:Type}{l xs:List α}{j:Nat}(h:j+xs.length<=l.length)(k:Nat):(bu l j xs)[k]? = if k<j then l[k]? else if k<j+xs.length then xs[k-j]? else l[k]?:=by
 unfold bu;rw[List.append_assoc,List.getElem?_append];simp only[List.length_take,Nat.min_eq_left (show j<=l.length by omega)];by_cases h1:k<j
 ·rw[if_pos h1,if_pos h1,List.getElem?_take,if_pos h1]
 ·rw[if_neg h1,if_neg h1,List.getElem?_append];by_cases h2:k<j+xs.length
  ·rw[if_pos (by omega),if_pos h2]
  ·rw[if_neg (by omega),if_neg h2,List.getElem?_drop];congr 1
   omega
theorem mR{α:Type}{l xs:List α}{j:Nat}(h:j+xs.length<=l.length):(bu l j xs).length=l.length:=by
 unfold bu;simp;omega
theorem OS(off:Nat):∀(l:List Value)(j:Nat)(cur:Array Value),((l.zipIdx j).foldl (λcs x=>cs.setIfInBounds (off+x.2) x.1) cur).size=cur.size/\
  (off+j+l.length<=cur.size->∀ k:Nat,((l.zipIdx j).foldl (λcs x=>cs.setIfInBounds (off+x.2) x.1) cur)[k]? = if k<off+j then cur[k]? else if k<off+j+l.length then l[k-(off+j)]? else cur[k]?)
 | [],j,cur=>⟨rfl,λ_ k=>by
   simp only[List.zipIdx_nil,List.foldl_nil,List.length_nil,Nat.add_zero]
   split
   ·rfl
   ·rfl⟩
 | v::l,j,cur=>by
  obtain⟨h1,h2⟩:=OS off l (j+1) (cur.setIfInBounds (off+j) v);simp only[List.zipIdx_cons,List.foldl_cons];refine⟨by rw[h1];simp,λhle k=>?_⟩;simp only[List.length_cons]at hle;rw[h2 (by simp;omega) k];rw[Array.getElem?_setIfInBounds];by_cases e1:k<off+j
  ·rw[if_pos (by omega),if_neg (by omega),if_pos e1]
  ·rw[if_neg e1];by_cases e2:k=off+j
   ·subst e2;rw[if_pos (by omega),if_pos rfl,if_pos (by omega),if_pos (by simp)];simp
   ·rw[if_neg (by omega)];by_cases e3:k<off+j+(l.length+1)
    ·rw[if_pos (by omega),if_pos (by simpa using e3)];rw[show k-(off+j)=(k-(off+(j+1)))+1 by omega];simp
    ·rw[if_neg (by omega),if_neg (by omega),if_neg (by simpa using e3)]
theorem OT(cur part:Array Value)(off:Nat)(h:off+part.size<=cur.size):(part.zipIdx.foldl (λcs (x:Value × Nat)=>cs.setIfInBounds (off+x.2) x.1) cur).size=cur.size/\
  ∀ k:Nat,(part.zipIdx.foldl (λcs (x:Value × Nat)=>cs.setIfInBounds (off+x.2) x.1) cur)[k]? = if k<off then cur[k]? else if k<off+part.size then part[k-off]? else cur[k]?:=by
 have:=OS off part.toList 0 cur;rw[<- Array.foldl_toList,Array.toList_zipIdx];refine⟨this.1,λk=>?_⟩;have h2:=this.2 (by simpa using h) k;simpa using h2
theorem CR.bu{w:World}{F:Nat->Prop}{ι:Io}{h:Nat->aQ}{cur part:Array Value}{cs ps:List AV}{off:Nat}(hc:CR w F ι h cur cs)(hp:CR w F ι h part ps)(hle:off+ps.length<=cs.length) :
  CR w F ι h (part.zipIdx.foldl (λcs (x:Value × Nat)=>cs.setIfInBounds (off+x.2) x.1) cur) (Am.bu cs off ps):=by
 have zj:=hp.size;have dJ:=hc.size;obtain⟨h1,h2⟩:=OT cur part off (by omega);have hg:=J4 (l:=cs) (xs:=ps) (j:=off) hle;refine⟨by rw[h1,mR hle,dJ],λk v hk=>?_,λk v x hk hx=>?_⟩
 ·rw[h2 k]at hk
  split at hk
  ·exact hc.one k v hk
  ·split at hk
   ·exact hp.one _ v hk
   ·exact hc.one k v hk
 ·rw[h2 k]at hk;rw[hg k]at hx
  split at hk
  ·rename_i e1;rw[if_pos e1]at hx;exact hc.vr k v x hk hx
  ·rename_i e1;rw[if_neg e1]at hx
   split at hk
   ·rename_i e2;rw[if_pos (by omega)]at hx;exact hp.vr _ v x hk hx
   ·rename_i e2;rw[if_neg (by omega)]at hx;exact hc.vr k v x hk hx
theorem OU{P:Program}:∀(fs:List Field),fs.all (λf=>(cB P f.type).isSome)=true->∃ pl,fs.mapM (λf=>(P.info? f.type).map λi=>(f.offset,i.size))=some pl/\∀(i:Nat)(f:Field)(n:Nat),fs[i]? = some f->cB P f.type=some n->pl[i]? = some (f.offset,n)
 | [],_=>⟨[],rfl,by simp⟩
 | f::fs,h=>by
  simp only[List.all_cons,Bool.and_eq_true]at h;obtain⟨pl,h1,h2⟩:=OU fs h.2;obtain⟨n,hn⟩:=Option.isSome_iff_exists.1 h.1;obtain⟨i,hi,hs⟩:=vd hn;refine⟨(f.offset,n)::pl,by simp[List.mapM_cons,hi,h1,hs],λk g m hk hm=>?_⟩
  cases k with
  | zero=>simp at hk;subst hk;rw[hn]at hm;cases hm;rfl
  | succ k=>simp at hk;simpa using h2 k g m hk hm
theorem OV{C:Ctx}{U:Nat->Prop}{σ:St}{a:Act}{w:World}{ι:Io}(S:Sat C U σ a w ι){fs:List Field}{pl:List (Nat × Nat)}
  (gA:∀(i:Nat)(f:Field)(n:Nat),fs[i]? = some f->cB C.P f.type=some n->pl[i]? = some (f.offset,n)) :
  ∀(parts:List (Nat × Operand))(ps:List (Nat × Nat × aW))(cur:Array Value)(cs cs':List AV),s5 C.P fs parts=some ps->CR w (Fz C w ι σ.h) ι σ.h cur cs->JZ (aW.ev σ.t) cs ps=some cs'->
   ∃ dh,Instr.fill (λi=>pl[i]?) cur (parts.map λx=>(x.1,a.eval x.2))=some dh/\CR w (Fz C w ι σ.h) ι σ.h dh cs'
 | [],ps,cur,cs,cs',hp,hc,hq=>by
  simp[s5]at hp;subst hp;simp[JZ]at hq;subst hq;exact⟨cur,rfl,hc⟩
 | (i,x)::parts,ps,cur,cs,cs',hp,hc,hq=>by
  simp only[s5]at hp
  split at hp
  rotate_left
  ·cases hp
  rename_i f hf
  split at hp
  rotate_left
  ·cases hp
  rename_i n y ys hn hy iW
  cases hp;simp only[JZ]at hq
  split at hq
  rotate_left
  ·cases hq
  rename_i fu;obtain⟨e1,e2,e3⟩:=fu;have hv:=(Zs S hy).cells e3;have bV:(a.eval x).cells.size=n:=by rw[hv.size,e1]
  have hc':=hc.bu (off:=f.offset) hv (by omega);obtain⟨dh,h1,h2⟩:=OV S gA parts ys _ _ cs' iW hc' hq;refine⟨dh,?_,h2⟩;simp only[List.map_cons,Instr.fill,gA i f n hf hn];have dJ:=hc.size;rw[if_neg (by simp only[Bool.or_eq_true,decide_eq_true_eq];rintro(h | h) <;> omega)];exact h1
theorem vk{P:Program}{t:TypeId}{zs:List AV}(h:YW P t=some zs):∃ i z,P.info? t=some i/\i.zero=some z/\∀(w:World)(F:Nat->Prop)(ι:Io)(h:Nat->aQ),CR w F ι h z.cells zs:=by
 unfold YW at h
 split at h
 rotate_left
 ·cases h
 rename_i i hi
 split at h
 rotate_left
 ·cases h
 rename_i z hz
 split at h
 rotate_left
 ·cases h
 rename_i x hx
 cases h;refine⟨i,z,hi,hz,λw F ι h=>(OA hx).cells ?_⟩;unfold kr at hx
 split at hx
 ·split at hx
  ·cases hx;rfl
  ·cases hx
 ·split at hx
  ·cases hx;unfold lh
   split <;> rfl
  ·cases hx
section
variable {C:Ctx} {U U':Nat->Prop} {σ:St} {a:Act} {w:World} {ι:Io} {o:Oper} {Q:Exit->Act->World->Prop} {Γ:eA} {b:Nat} {e:fj}
variable (S:Sat C U σ a w ι) (hd:∀ d,o.dst=some d->d<C.N) (bN:∀ i,U' i->U i)
include S hd bN
theorem QLZ{t:TypeId}{fs:Array Field}{parts:Array (Nat × Operand)}{zs:List AV}{ps:List (Nat × Nat × aW)}(ho:o.op = .build t parts)(ht:C.P.underlying t=some (.struct fs))(hz:YW C.P t=some zs)
  (hp:s5 C.P fs.toList parts.toList=some ps) (ew:fs.toList.all (λf=>(cB C.P f.type).isSome)=true) (he:Qv Γ (aW.ev σ.t) σ.h b (.build zs ps)=some e) :
  o.wp C.P a w (λa' w'=>cA C U' (σ.app o.dst e) a' w') Q:=by
 obtain⟨i,z,hi,jZ,gB⟩:=vk hz;obtain⟨pl,D2,D3⟩:=OU fs.toList ew;simp only[Qv]at he
 split at he
 rotate_left
 ·cases he
 rename_i cs dJ
 cases he;obtain⟨dh,h1,h2⟩:=OV S D3 parts.toList ps z.cells zs cs hp (gB _ _ _ _) dJ;have hb:C.P.built t (parts.map λx=>(x.1,a.eval x.2)).toList=some dh:=by
  simp only[Program.built,hi,ht,jZ,D2];simpa using h1
 refine Zi S hd bN (v:=.agg dh) ?_ (.a _ _ h2.size h2.one h2.vr);have:=run_build (P:=C.P) w t (parts.map λx=>(x.1,a.eval x.2)) dh hb;simp only[execOp,ho,Sem.run_bind,this,Result.andThen_ok,Sem.run_pure]
end
theorem Yx(h g:Nat->aQ):∀(ids:List Nat)(i:Nat),bn g (eU h ids) i=if i∈ids then jw (h i) else g i
 | [],i=>by simp[eU,bn]
 | id::ids,i=>by
  simp only[eU,bn];rw[Yx h (bI g id (jw (h id))) ids i];by_cases h1:i∈ids
  ·simp[h1]
  ·by_cases h2:i=id
   ·subst h2;simp[h1,bI]
   ·simp[h1,h2,bI]
theorem OW(x:aQ):(jw x).own=true->x.own=true:=by
 cases x <;> simp[jw,aQ.own,Mo.own]
def Io.loose(ι:Io)(ids:List Nat):Io:=⟨ι.b,λb=>match ι.k b with | some (y,p)=>if y∈ids then none else some (y,p) | none=>none,ι.o⟩
theorem Io.eL{ι:Io}{ids:List Nat}{b y:Nat}{p:cE}:(ι.loose ids).k b=some (y,p)↔ι.k b=some (y,p)/\y∉ids:=by
 simp only[Io.loose]
 cases hx:ι.k b with
 | none=>simp
 | some z =>
  obtain⟨z,q⟩:=z;by_cases h:z∈ids
  ·simp only[h,if_true,Option.some.injEq,Prod.mk.injEq];refine⟨λh0=>(by cases h0),?_⟩;rintro⟨⟨rfl,_⟩,h1⟩
   exact absurd h h1
  ·simp only[h,if_false,Option.some.injEq,Prod.mk.injEq];constructor
   ·rintro⟨rfl,rfl⟩;exact⟨⟨rfl,rfl⟩,h⟩
   ·rintro⟨h1,_⟩;exact h1
theorem Io.gJ{ι:Io}{ids:List Nat}{b:Nat}(h:ι.k b=none):(ι.loose ids).k b=none:=by simp[Io.loose,h]
def Full(h:Nat->aQ)(ids:List Nat):Prop:=∀ id,id∈ids->∀ e sz m es,h id = .sl e sz m es->m.full=true
theorem Sat.freeze{C:Ctx}{U:Nat->Prop}{σ:St}{a:Act}{w:World}{ι:Io}(S:Sat C U σ a w ι)(ids:List Nat)(dW:Full σ.h ids) :
  Sat C U ⟨σ.t,bn σ.h (eU σ.h ids),σ.nx⟩ a w (ι.loose ids)/\∀ b,Fz C w ι σ.h b->Fz C w (ι.loose ids) (bn σ.h (eU σ.h ids)) b:=by
 have eK:=Yx σ.h σ.h ids;have hF:∀ b,Fz C w ι σ.h b->Fz C w (ι.loose ids) (bn σ.h (eU σ.h ids)) b:=by
  intro b ⟨h1,h2,h3,h4⟩;refine⟨h1,h2,λid a8=>?_,Io.gJ h4⟩;have:=h3 id a8;rw[eK]
  split
  ·cases hx:(jw (σ.h id)).own with
   | false=>rfl
   | true=>rw[OW _ hx]at this;cases this
  ·exact this
 have bU:∀ id,id∉ids->Rest w w ι (ι.loose ids) id:=λid hn=>⟨rfl,rfl,λ_ _=>rfl,λb p hk=>⟨Io.eL.2 ⟨hk,hn⟩,rfl⟩⟩
 have hg:∀ id,cZ w w ι (ι.loose ids) σ.h (bn σ.h (eU σ.h ids)) id:=by
  intro id;by_cases a8:id∈ids
  ·unfold cZ;rw[eK,if_pos a8]
   cases hx:σ.h id with
   | none=>exact .inl rfl
   | dead=>exact .inr (.inl rfl)
   | box cs=>exact .inr (.inr ⟨rfl,rfl,rfl,λ_ _=>rfl,λg h=>(by cases h)⟩)
   | sl e sz m es=>exact .inr (.inr ⟨rfl,rfl,⟨rfl,rfl,rfl,Mo.og m⟩,λ_ _=>rfl,λg _ h=>(by cases h)⟩)
  ·exact(bU id a8).gE (by rw[eK,if_neg a8])
 refine⟨S.ej S.dE (λb hb=>⟨hF b hb,rfl⟩) hg (λi cs hx=>by rw[eK,hx];split <;> simp[jw]) (λid=>?_) S.inj (λi b hi=>?_) (λi hi=>?_) (λi b hi=>?_) (λb id p hk=>?_),hF⟩;rotate_left
 ·obtain⟨h1,h2⟩:=S.eh i b hi;refine⟨h1.imp id λ⟨h3,cs,h4⟩=>⟨h3,cs,?_⟩,h2⟩;rw[eK,h4]
  split <;> rfl
 rotate_right
 ·by_cases a8:id∈ids
  ·right;rw[eK,if_pos a8];have hb:=S.fi id
   cases hx:σ.h id with
   | none=>exact .none
   | dead=>exact .dead
   | box cs =>
    rw[hx]at hb
    cases hb with
    | box b e bj _ hi ho hb hl h1 hv=>exact .box b e bj cs hi ho hb hl h1 (λk v x hk qd=>(hv k v x hk qd).mono (λb hb=>⟨hF b hb,rfl⟩) hg)
   | sl e sz m es =>
    have mn:=dW id a8 e sz m es hx;rw[hx]at hb
    cases hb with
    | slnil _ _ _ hz hi=>exact .slnil e sz .fz hz hi
    | sl b _ e0 _ _ _ cur hz hi hb eO hle cX bV hv =>
     refine .sl b e e0 sz .fz es cur hz hi hb (λh=>(by cases h)) hle cX bV (λp q x d mS hd=>?_);obtain⟨v,h5,h6⟩:=hv p q x d mS hd;refine⟨v,h5,h6.rd mn hF (λb' p' hk=>?_)⟩;have L:=S.dg b' id p' hk;refine⟨L.lt,.inr L.fr,λi hi=>absurd hi (L.ne i),?_⟩
     cases fk:(ι.loose ids).k b' with
     | none=>rfl
     | some z =>
      obtain⟨z,q⟩:=z;obtain⟨k1,k2⟩:=Io.eL.1 fk;rw[hk]at k1
      cases k1;exact absurd a8 k2
  ·left;exact⟨by rw[eK,if_neg a8],bU id a8⟩
 ·have:=S.fresh i hi;rw[eK,this.1];refine⟨?_,this.2⟩
  split <;> rfl
 ·have:=S.live i b hi;rw[eK]
  split
  ·cases hx:σ.h i <;> simp_all [jw]
  ·exact this
 ·obtain⟨k1,k2⟩:=Io.eL.1 hk;have L:=S.dg b id p k1;refine⟨L.pn,?_,L.fr,L.lt,L.ne⟩;rw[eK,if_neg k2];exact L.dp
theorem AV.jB{C:Ctx}{U:Nat->Prop}{σ:St}{a:Act}{w:World}{ι:Io}(S:Sat C U σ a w ι){F:Nat->Prop}(hF:∀ b,Fz C w ι σ.h b->F b){v:Value}{x:AV}{d:D}(hv:VR w (Fz C w ι σ.h) ι σ.h v x)(hx:x.d σ.h=some d)
  (cu:∀ id b,id∈x.bR->ι id=some b->F b) (mJ:∀ id b p,id∈x.bR->ι.k b=some (id,p)->F b):Rd w F v d:=by
 cases hv with
 | u=>simp[AV.d]at hx
 | c v d hr=>simp[AV.d]at hx;subst hx;exact hr.mono (λb hb=>⟨hF b hb,rfl⟩)
 | n sz=>simp[AV.d]at hx;subst hx;exact .nil _
 | cz v sz id off len h1 hd=>simp[AV.d,hd]at hx
 | cM id e sz m hi hh =>
  simp only[AV.d,hh]at hx
  split at hx
  ·simp at hx;subst hx;exact .nil _
  ·cases hx
 | df ad cap id e sz m hi hh ht =>
  simp only[AV.d,hh]at hx
  split at hx
  ·simp at hx;subst hx;exact .emp _ _ _
  ·cases hx
 | r id off len b ao cap e sz m es hi hh hlen ck ho cY =>
  simp only[AV.d,hh]at hx
  split at hx
  rotate_left
  ·cases hx
  rename_i dW;simp only[Option.some.injEq]at hx;subst hx;have hb:=S.fi id;rw[hh]at hb;have ku:((es.drop off).take len).length=len:=by simp;omega
  have ln:∀(i:Nat)(el:List D),((es.drop off).take len)[i]? = some el->i<len/\es[off+i]? = some el:=by
   intro i el cU;have hi:=(List.getElem?_eq_some_iff.1 cU).1;rw[List.getElem?_take,if_pos (by omega),List.getElem?_drop]at cU;exact⟨by omega,cU⟩
  cases hb with
  | slnil _ _ _ hz bY=>rw[hi]at bY;cases bY
  | sl b' _ e0 _ _ _ cur hz bY fc eO hle cX bV dS =>
   rw[hi]at bY;cases bY;refine .sl b ao len cap sz _ (λi j=>cur.getD (ι.o id+(off+i)*sz+j) undef) ku ck (by omega) (λel he=>bV el (List.mem_of_mem_drop (List.mem_of_mem_take he))) (λ_=>cu id b (by simp[AV.bR]) hi) (λi j el d h1 h2=>?_) (λi j el d h1 h2=>?_)
   ·obtain⟨h3,h4⟩:=ln i el h1;obtain⟨v,h5,h6⟩:=dS _ j el d h4 h2;rw[ho (by omega),show ι.o id+off*sz+i*sz+j=ι.o id+(off+i)*sz+j by rw[Nat.add_mul];omega];rw[p8 fc h5];simp[Array.getD_eq_getD_getElem?,h5]
   ·obtain⟨h3,h4⟩:=ln i el h1;obtain⟨v,h5,h6⟩:=dS _ j el d h4 h2;have:cur.getD (ι.o id+(off+i)*sz+j) undef=v:=by simp[Array.getD_eq_getD_getElem?,h5]
    rw[this];exact h6.rd dW hF (λb p hk=>mJ id b p (by simp[AV.bR]) hk)
 | cT=>simp[AV.d]at hx
 | p=>simp[AV.d]at hx
 | q=>simp[AV.d]at hx
 | a=>simp[AV.d]at hx
 | t=>simp[AV.d]at hx
 | eJ=>simp[AV.d]at hx
 | bq=>simp[AV.d]at hx
 | fo v d' id g p h1 hd=>simp[AV.d,hd,aQ.dq]at hx
 | b v d' id g p e sz m es h1 hh iM jm =>
  simp only[AV.d,hh]at hx
  split at hx
  ·rename_i fF
   cases hx;exact(jm (aQ.eB fF)).1.rd (λb p hk=>mJ id b p (by simp[AV.bR]) hk)
  ·cases hx
theorem AV.dX{h:Nat->aQ}:∀ {xs:List AV} {ds:List D},AV.ds h xs=some ds->ds.length=xs.length/\∀(k:Nat)(x:AV),xs[k]? = some x->∃ d,ds[k]? = some d/\x.d h=some d
 | [],ds,hx=>by simp[AV.ds]at hx;subst hx;simp
 | x::xs,ds,hx=>by
  simp only[AV.ds]at hx
  split at hx
  ·rename_i d te h1 h2
   cases hx;obtain⟨h3,h4⟩:=AV.dX h2;refine⟨by simp[h3],λk y hk=>?_⟩
   cases k with
   | zero=>simp at hk;subst hk;exact⟨d,rfl,h1⟩
   | succ k=>simp at hk;simpa using h4 k y hk
  ·cases hx
theorem tf:∀ {xs:List AV} {k:Nat} {x:AV} {id:Nat},xs[k]? = some x->id∈x.bR->id∈AV.bM xs
 | [],k,x,id,h,_=>by simp at h
 | y::ys,0,x,id,h,hi=>by simp at h;subst h;simp[AV.bM,hi]
 | y::ys,k+1,x,id,h,hi=>by simp at h;simp[AV.bM,tf h hi]
end Go.Proofs.YtdplaepmjogjjaaGreat.Am
namespace Go.Proofs.YtdplaepmjogjjaaGreat.Am
open Go Go.RowKit
theorem QYX{α:Type}{es:List α}{off len:Nat}(hlen:off+len<=es.length):((es.drop off).take len).length=len/\∀(i:Nat)(el:α),((es.drop off).take len)[i]? = some el->i<len/\es[off+i]? = some el:=by
 have ku:((es.drop off).take len).length=len:=by simp;omega
 refine⟨ku,λi el cU=>?_⟩;have hi:=(List.getElem?_eq_some_iff.1 cU).1;rw[List.getElem?_take,if_pos (by omega),List.getElem?_drop]at cU;exact⟨by omega,cU⟩
def Io.merge(ι:Io)(id n i j off len:Nat):Io:=⟨bI ι.b n none,λb=>if ι n=some b then some (id,[(i,j)]) else match ι.k b with
 | some (y,p)=>if y=n then(match p with
  | (a,c)::q=>if off<=a/\a<off+len then some (id,(i,j)::(a-off,c)::q) else none
  | []=>none) else some (y,p)
 | none=>none,ι.o⟩
section
variable {C:Ctx} {U U':Nat->Prop} {σ:St} {a:Act} {w:World} {ι:Io}
theorem QGH(S:Sat C U σ a w ι){id n i j off len b y:Nat}{p:cE}(hk:ι.k b=some (y,p))(hy:y≠n):(ι.merge id n i j off len).k b=some (y,p):=by
 simp only[Io.merge];rw[if_neg ((S.dg b y p hk).ne n)];simp only[hk,if_neg hy]
theorem QVG{id n i j off len b y:Nat}{p:cE}(hk:(ι.merge id n i j off len).k b=some (y,p)) :
  (y≠n/\ι.k b=some (y,p)/\ι n≠some b)\/(y=id/\p≠[]/\(ι n=some b\/∃ p',ι.k b=some (n,p'))):=by
 simp only[Io.merge]at hk
 split at hk
 ·rename_i h1
  cases hk;exact .inr ⟨rfl,by simp,.inl h1⟩
 ·rename_i h1
  split at hk
  rotate_left
  ·cases hk
  rename_i z q hz
  split at hk
  ·rename_i h2;subst h2
   split at hk
   ·split at hk
    ·cases hk;exact .inr ⟨rfl,by simp,.inr ⟨_,hz⟩⟩
    ·cases hk
   ·cases hk
  ·rename_i h2
   cases hk;exact .inl ⟨h2,hz,h1⟩
theorem RL.enter(S:Sat C U σ a w ι){n off len ba:Nat}{e':TypeId}{g':Nat}{t':Bool}{bP:List (List D)}{v:Value}{K':Nat->Option (Nat × cE)}{b8:Nat}{p':cE}(hn:σ.h n = .sl e' ba (.dp g' t' []) bP)
  (hv:VR w (Fz C w ι σ.h) ι σ.h v (.r ba n off len)) (h1:∀ b,ι n=some b->len≠0->K' b=some (b8,p'))
  (h2:∀ b a c q,ι.k b=some (n,(off+a,c)::q)->a<len->K' b=some (b8,p'++(a,c)::q)):RL w K' b8 p' v (.sl ba ((bP.drop off).take len)):=by
 cases hv with
 | cz _ _ _ _ _ _ hd=>rw[hd]at hn;cases hn
 | cM _ e sz m hi hh =>
  rw[hn]at hh;cases hh;simp;exact .nil _ _
 | df ad cap _ e sz m hi hh ht =>
  rw[hn]at hh;cases hh;simp;exact .emp _ _ _ _
 | r _ _ _ b ao cap e sz m es hi hh hlen ck ho cY =>
  rw[hn]at hh;cases hh;by_cases h0:len=0
  ·subst h0;simp;exact .emp _ _ _ _
  have hb:=S.fi n;rw[hn]at hb;obtain⟨ku,ln⟩:=QYX hlen
  cases hb with
  | slnil _ _ _ hz bY=>rw[hi]at bY;cases bY
  | sl b' _ e0 _ _ _ cur hz bY fc eO hle cX bV dS =>
   rw[hi]at bY;cases bY;have jn:=ho h0;refine .sl p' b ao len cap ba _ cur e0 (λx y=>cur.getD (ι.o n+(off+x)*ba+y) undef) hz (λh=>by rw[h]at ku;simp at ku;omega) ku ck (by omega) (λel he=>bV el (List.mem_of_mem_drop (List.mem_of_mem_take he))) (h1 b hi h0) fc ?_ (λx y el d hx hd=>?_) (λx y el d hx hd=>?_)
   ·rw[jn];have:(off+len)*ba<=bP.length*ba:=Nat.mul_le_mul_right _ hlen;rw[Nat.add_mul]at this;omega
   ·obtain⟨h3,h4⟩:=ln x el hx;obtain⟨u,h5,h6⟩:=dS _ y el d h4 hd;rw[jn,show ι.o n+off*ba+x*ba+y=ι.o n+(off+x)*ba+y by rw[Nat.add_mul];omega,h5];simp[Array.getD_eq_getD_getElem?,h5]
   ·obtain⟨h3,h4⟩:=ln x el hx;obtain⟨u,h5,h6⟩:=dS _ y el d h4 hd;have:cur.getD (ι.o n+(off+x)*ba+y) undef=u:=by simp[Array.getD_eq_getD_getElem?,h5]
    rw[this];refine(h6.2 (by simp)).map _ (λb q hk=>⟨?_,rfl⟩);have:=h2 b x y q hk h3;simpa using this
theorem Sat.merge(S:Sat C U σ a w ι){id n i j sz ba off len g g':Nat}{t t':Bool}{H:cE}{e e':TypeId}{es bP:List (List D)}{x:List D}{v:Value}
  (a8:σ.h id = .sl e sz (.dp g t ((i,j)::H)) es) (hn:σ.h n = .sl e' ba (.dp g' t' []) bP) (dN:n≠id)
  (dj:∃ bk cur e0,ι id=some bk/\w.heap[bk]? = some (.cells cur e0 (0,0))/\cur[ι.o id+i*sz+j]? = some v) (hv:VR w (Fz C w ι σ.h) ι σ.h v (.r ba n off len))
  (hx:es[i]? = some x) (mT:x[j]? = some (.sl ba ((bP.drop off).take len))) :
  Sat C U ⟨σ.t,bI (bI σ.h n .dead) id (.sl e sz (.dp g t H) es),σ.nx⟩ a w (ι.merge id n i j off len)/\
  (∀ b,Fz C w ι σ.h b->Fz C w (ι.merge id n i j off len) (bI (bI σ.h n .dead) id (.sl e sz (.dp g t H) es)) b)/\
  ∀ y,cZ w w ι (ι.merge id n i j off len) σ.h (bI (bI σ.h n .dead) id (.sl e sz (.dp g t H) es)) y:=by
 have iv:∀ y b,(ι.merge id n i j off len) y=some b->y≠n/\ι y=some b:=by
  intro y b hy;simp only[Io.merge,bI]at hy
  split at hy
  ·cases hy
  ·rename_i h;exact⟨h,hy⟩
 have fy:∀ y,y≠n->(ι.merge id n i j off len) y=ι y:=λy hy=>QI _ _ _ _ hy;have gi:∀ y,y≠n->mH w w ι (ι.merge id n i j off len) y:=λy hy b p hk=>⟨QGH S hk hy,rfl⟩
 have bU:∀ y,y≠n->Rest w w ι (ι.merge id n i j off len) y:=λy hy=>⟨fy y hy,rfl,λ_ _=>rfl,gi y hy⟩
 have vm:(σ.h n).own=true:=by rw[hn];rfl
 have qe:(σ.h id).own=true:=by rw[a8];rfl
 obtain⟨h',ca⟩:∃ h',h'=bI (bI σ.h n .dead) id (.sl e sz (.dp g t H) es):=⟨_,rfl⟩
 have e1:h' id = .sl e sz (.dp g t H) es:=by rw[ca,QN]
 have e2:h' n = .dead:=by rw[ca,QI _ _ _ _ dN,QN]
 have e3:∀ y,y≠n->y≠id->h' y=σ.h y:=λy h1 h2=>by rw[ca,QI _ _ _ _ h2,QI _ _ _ _ h1]
 rw[<- ca];have hF:∀ b,Fz C w ι σ.h b->Fz C w (ι.merge id n i j off len) h' b:=by
  intro b ⟨h1,h2,h3,h4⟩;refine⟨h1,h2,λy hy=>?_,?_⟩
  ·obtain⟨k1,k2⟩:=iv y b hy;have:=h3 y k2;by_cases lu:y=id
   ·subst lu;rw[qe]at this;cases this
   ·rw[e3 y k1 lu];exact this
  ·simp only[Io.merge];rw[if_neg (λkv=>by have:=h3 n kv;rw[vm]at this;cases this)];rw[h4]
 have hg:∀ y,cZ w w ι (ι.merge id n i j off len) σ.h h' y:=by
  intro y;by_cases h1:y=n
  ·subst h1;exact .inr (.inl e2)
  by_cases h2:y=id
  ·subst h2;unfold cZ;rw[e1,a8];exact .inr (.inr ⟨fy y h1,rfl,⟨rfl,rfl,rfl,⟨λh=>h,λg h=>⟨g,h,Nat.le_refl _⟩⟩⟩,λ_ _=>rfl,λ_ _ _=>⟨λ_ _=>rfl,gi y h1⟩⟩)
  ·exact(bU y h1).gE (e3 y h1 h2)
 refine⟨S.ej S.dE (λb hb=>⟨hF b hb,rfl⟩) hg (λy cs hb=>?_) (λy=>?_) (λy z b hy hz=>?_) (λy b hy=>?_) (λy hy=>?_) (λy b hy=>?_) (λb y p hk=>?_),hF,hg⟩
 ·by_cases h1:y=n
  ·subst h1;rw[hn]at hb;cases hb
  by_cases h2:y=id
  ·subst h2;rw[a8]at hb;cases hb
  rw[e3 y h1 h2,hb];simp
 ·by_cases h1:y=n
  ·subst h1;right;rw[e2];exact .dead
  by_cases h2:y=id
  ·subst h2;right;rw[e1];have hb:=S.fi y;rw[a8]at hb
   cases hb with
   | slnil=>simp at hx
   | sl bk _ e0 _ _ _ cur hz hi fc eO hle cX bV dS =>
    refine .sl bk e e0 sz _ es cur hz ((fy y h1).trans hi) fc eO hle cX bV (λp q el d cU hd=>?_);obtain⟨u,h5,h6,h7⟩:=dS p q el d cU hd;refine⟨u,h5,h6,λdt=>?_⟩;by_cases mU:(p,q)=(i,j)
    ·cases mU;rw[hx]at cU
     cases cU;rw[mT]at hd
     cases hd;obtain⟨ml,dh,vn,c1,c2,c3⟩:=dj;rw[hi]at c1
     cases c1;rw[fc]at c2
     cases c2;rw[h5]at c3
     cases c3;refine RL.enter S hn hv (λb hb _=>?_) (λb x c q hk aU=>?_)
     ·simp only[Io.merge];rw[if_pos hb]
     ·simp only[Io.merge];rw[if_neg ((S.dg b n _ hk).ne n),hk];simp only[if_true];rw[if_pos ⟨by omega,by omega⟩,show off+x-off=x by omega];rfl
    ·exact(h7 (by simp only[List.mem_cons,not_or];exact⟨mU,dt⟩)).mono (gi y h1)
  ·left;exact⟨e3 y h1 h2,bU y h1⟩
 ·exact S.inj y z b (iv y b hy).2 (iv z b hz).2
 ·obtain⟨h1,h2⟩:=iv y b hy;obtain⟨h3,h4⟩:=S.eh y b h2;refine⟨h3.imp (λh=>h) λ⟨h5,cs,h6⟩=>⟨h5,cs,?_⟩,h4⟩;by_cases h7:y=id
  ·subst h7;rw[a8]at h6;cases h6
  ·rw[e3 y h1 h7];exact h6
 ·obtain⟨h1,h2⟩:=S.fresh y hy;have h3:y≠n:=λh=>by subst h;rw[hn]at h1;cases h1
  have h4:y≠id:=λh=>by subst h;rw[a8]at h1;cases h1
  rw[e3 y h3 h4,fy y h3];exact⟨h1,h2⟩
 ·obtain⟨h1,h2⟩:=iv y b hy;by_cases h7:y=id
  ·subst h7;rw[e1];simp
  ·rw[e3 y h1 h7];exact S.live y b h2
 ·rcases QVG hk with⟨h1,h2,h3⟩ | ⟨rfl,h2,h3⟩
  ·have L:=S.dg b y p h2;refine⟨L.pn,?_,L.fr,L.lt,λz hz=>L.ne z (iv z b hz).2⟩;by_cases h7:y=id
   ·subst h7;rw[e1];exact⟨_,_,_,_,_,_,rfl⟩
   ·rw[e3 y h1 h7];exact L.dp
  ·rcases h3 with h3 | ⟨p',h3⟩
   ·obtain⟨h4,h5⟩:=S.eh n b h3;refine⟨h2,by rw[e1];exact⟨_,_,_,_,_,_,rfl⟩,h4.elim (λh=>h) (λ⟨_,cs,h⟩=>by rw[hn]at h;cases h),h5,λz hz=>?_⟩;obtain⟨k1,k2⟩:=iv z b hz;exact k1 (S.inj z n b k2 h3)
   ·have L:=S.dg b n p' h3;exact⟨h2,by rw[e1];exact⟨_,_,_,_,_,_,rfl⟩,L.fr,L.lt,λz hz=>L.ne z (iv z b hz).2⟩
theorem Sat.reset(S:Sat C U σ a w ι){id sz g:Nat}{t:Bool}{H:cE}{e:TypeId}{es f6:List (List D)}(a8:σ.h id = .sl e sz (.dp g t H) es)(hl:f6.length=es.length)(mV:∀ x,x∈f6->x.length=sz)
  (cR:∀ p q x d,f6[p]? = some x->x[q]? = some d->(p,q)∉H->∃ y,es[p]? = some y/\y[q]? = some d) :
  Sat C U ⟨σ.t,bI σ.h id (.sl e sz (.dp g t H) f6),σ.nx⟩ a w ι/\(∀ b,Fz C w ι σ.h b->Fz C w ι (bI σ.h id (.sl e sz (.dp g t H) f6)) b)/\
  ∀ y,cZ w w ι ι σ.h (bI σ.h id (.sl e sz (.dp g t H) f6)) y:=by
 obtain⟨h',ca⟩:∃ h',h'=bI σ.h id (.sl e sz (.dp g t H) f6):=⟨_,rfl⟩
 have e1:h' id = .sl e sz (.dp g t H) f6:=by rw[ca,QN]
 have e3:∀ y,y≠id->h' y=σ.h y:=λy h2=>by rw[ca,QI _ _ _ _ h2]
 have bU:∀ y,Rest w w ι ι y:=λy=>⟨rfl,rfl,λ_ _=>rfl,λb p hk=>⟨hk,rfl⟩⟩
 rw[<- ca];have hF:∀ b,Fz C w ι σ.h b->Fz C w ι h' b:=by
  intro b ⟨h1,h2,h3,h4⟩;refine⟨h1,h2,λy hy=>?_,h4⟩;have:=h3 y hy;by_cases lu:y=id
  ·subst lu;rw[a8]at this;cases this
  ·rw[e3 y lu];exact this
 have hg:∀ y,cZ w w ι ι σ.h h' y:=by
  intro y;by_cases h2:y=id
  ·subst h2;unfold cZ;rw[e1,a8];exact .inr (.inr ⟨rfl,rfl,⟨rfl,rfl,hl,⟨λh=>h,λg h=>⟨g,h,Nat.le_refl _⟩⟩⟩,λ_ _=>rfl,λ_ _ _=>⟨λ_ _=>rfl,λb p hk=>⟨hk,rfl⟩⟩⟩)
  ·exact(bU y).gE (e3 y h2)
 refine⟨S.ej S.dE (λb hb=>⟨hF b hb,rfl⟩) hg (λy cs hb=>?_) (λy=>?_) S.inj (λy b hy=>?_) (λy hy=>?_) (λy b hy=>?_) (λb y p hk=>?_),hF,hg⟩
 ·by_cases h2:y=id
  ·subst h2;rw[a8]at hb;cases hb
  rw[e3 y h2,hb];simp
 ·by_cases h2:y=id
  ·subst h2;right;rw[e1];have hb:=S.fi y;rw[a8]at hb
   cases hb with
   | slnil _ _ _ hz hi =>
    have:f6=[]:=List.eq_nil_of_length_eq_zero (by simpa using hl);subst this;exact .slnil e sz _ hz hi
   | sl bk _ e0 _ _ _ cur hz hi fc eO hle cX bV dS =>
    refine .sl bk e e0 sz _ f6 cur hz hi fc (λh=>by rw[hl];exact eO h) (by rw[hl];exact hle) (by rw[hl];exact cX) mV (λp q el d cU hd=>?_);have gA:p<es.length:=by rw[<- hl];exact(List.getElem?_eq_some_iff.1 cU).1
    have hql:q<sz:=by rw[<- mV el (List.mem_of_getElem? cU)];exact(List.getElem?_eq_some_iff.1 hd).1
    have gj:q<es[p].length:=by rw[bV _ (List.getElem_mem gA)];exact hql
    obtain⟨u,h5,h6,h7⟩:=dS p q es[p] _ (List.getElem?_eq_getElem gA) (List.getElem?_eq_getElem gj);refine⟨u,h5,h6,λdt=>?_⟩;obtain⟨y',k1,k2⟩:=cR p q el d cU hd dt;obtain⟨u',OX,h6',h7'⟩:=dS p q y' d k1 k2;rw[h5]at OX
    cases OX;exact h7' dt
  ·left;exact⟨e3 y h2,bU y⟩
 ·obtain⟨h3,h4⟩:=S.eh y b hy;refine⟨h3.imp (λh=>h) λ⟨h5,cs,h6⟩=>⟨h5,cs,?_⟩,h4⟩;by_cases h7:y=id
  ·subst h7;rw[a8]at h6;cases h6
  ·rw[e3 y h7];exact h6
 ·obtain⟨h1,h2⟩:=S.fresh y hy;have h4:y≠id:=λh=>by subst h;rw[a8]at h1;cases h1
  rw[e3 y h4];exact⟨h1,h2⟩
 ·by_cases h7:y=id
  ·subst h7;rw[e1];simp
  ·rw[e3 y h7];exact S.live y b hy
 ·have L:=S.dg b y p hk;refine⟨L.pn,?_,L.fr,L.lt,L.ne⟩;by_cases h7:y=id
  ·subst h7;rw[e1];exact⟨_,_,_,_,_,_,rfl⟩
  ·rw[e3 y h7];exact L.dp
def Io.cK(ι:Io)(id n i j:Nat)(r:Option Nat)(o:Nat):Io:=⟨bI ι.b n r,λb=>if r=some b then none else match ι.k b with
 | some (y,p)=>if y=id then(match p with
  | c::q=>if c=(i,j) then(match q with | []=>none | _::_=>some (n,q)) else some (y,p)
  | []=>some (y,p)) else some (y,p)
 | none=>none,bI ι.o n o⟩
theorem OY{id n i j o b y:Nat}{r:Option Nat}{p:cE}(hk:ι.k b=some (y,p))(hr:r≠some b)(hy:y≠id\/∃ c q,p=c::q/\c≠(i,j)):(ι.cK id n i j r o).k b=some (y,p):=by
 simp only[Io.cK];rw[if_neg hr,hk];simp only;by_cases h:y=id
 ·rcases hy with hy | ⟨c,q,rfl,hc⟩
  ·exact absurd h hy
  ·rw[if_pos h];simp only;rw[if_neg hc]
 ·rw[if_neg h]
theorem QPA{id n i j o b y:Nat}{r:Option Nat}{p:cE}(hk:(ι.cK id n i j r o).k b=some (y,p)):r≠some b/\(ι.k b=some (y,p)\/(y=n/\p≠[]/\ι.k b=some (id,(i,j)::p))):=by
 simp only[Io.cK]at hk
 split at hk
 ·cases hk
 rename_i h0;refine⟨h0,?_⟩
 split at hk
 rotate_left
 ·cases hk
 rename_i z q hz
 split at hk
 rotate_left
 ·cases hk;exact .inl hz
 rename_i h1;subst h1
 split at hk
 rotate_left
 ·cases hk;exact .inl hz
 rename_i c q'
 split at hk
 rotate_left
 ·cases hk;exact .inl hz
 rename_i h2;subst h2
 split at hk
 ·cases hk
 ·cases hk;exact .inr ⟨rfl,by simp,hz⟩
theorem Sat.cK(S:Sat C U σ a w ι){id n i j sz ba g:Nat}{t:Bool}{e:TypeId}{es bP:List (List D)}{x:List D}{v:Value}(a8:σ.h id = .sl e sz (.dp g t []) es)(hx:es[i]? = some x)(mT:x[j]? = some (.sl ba bP))(qf:0<ba)
  (hU:U n) (bN:∀ i,U' i->U i/\i≠n) (dj:∃ bk cur e0,ι id=some bk/\w.heap[bk]? = some (.cells cur e0 (0,0))/\cur[ι.o id+i*sz+j]? = some v) :
  ∃ ι',Sat C U' ⟨σ.t,bI (bI σ.h n (.sl 0 ba (.dp 0 false []) bP)) id (.sl e sz (.dp (g+1) t [(i,j)]) es),σ.nx⟩ a w ι'/\
   VR w (Fz C w ι' (bI (bI σ.h n (.sl 0 ba (.dp 0 false []) bP)) id (.sl e sz (.dp (g+1) t [(i,j)]) es))) ι' (bI (bI σ.h n (.sl 0 ba (.dp 0 false []) bP)) id (.sl e sz (.dp (g+1) t [(i,j)]) es)) v (.r ba n 0 bP.length)/\
   ι' id=ι id/\ι'.o id=ι.o id/\(∀ b,Fz C w ι σ.h b->Fz C w ι' (bI (bI σ.h n (.sl 0 ba (.dp 0 false []) bP)) id (.sl e sz (.dp (g+1) t [(i,j)]) es)) b)/\
   ∀ y,cZ w w ι ι' σ.h (bI (bI σ.h n (.sl 0 ba (.dp 0 false []) bP)) id (.sl e sz (.dp (g+1) t [(i,j)]) es)) y:=by
 obtain⟨ft,mh⟩:=S.fresh n hU;have dN:n≠id:=λh=>by subst h;rw[ft]at a8;cases a8
 obtain⟨bk,cur,e0,c1,c2,c3⟩:=dj;have vq:=S.fi id;rw[a8]at vq
 cases vq with
 | slnil=>simp at hx
 | sl ml _ vn _ _ _ dh hz hi fc eO hle cX bV dS =>
 rw[c1]at hi;cases hi;rw[c2]at fc;cases fc;obtain⟨u,h5,h6,h7⟩:=dS i j x _ hx mT;rw[c3]at h5;cases h5;have jx:=h7 (by simp);obtain⟨h',ca⟩:∃ h',h'=bI (bI σ.h n (.sl 0 ba (.dp 0 false []) bP)) id (.sl e sz (.dp (g+1) t [(i,j)]) es):=⟨_,rfl⟩
 have e1:h' id = .sl e sz (.dp (g+1) t [(i,j)]) es:=by rw[ca,QN]
 have e2:h' n = .sl 0 ba (.dp 0 false []) bP:=by rw[ca,QI _ _ _ _ dN,QN]
 have e3:∀ y,y≠n->y≠id->h' y=σ.h y:=λy h1 h2=>by rw[ca,QI _ _ _ _ h2,QI _ _ _ _ h1]
 rw[<- ca];have key:∀(r:Option Nat)(o:Nat),(∀ b,r=some b->ι.k b=some (id,[(i,j)]))->
   BR w (Fz C w (ι.cK id n i j r o) h') (ι.cK id n i j r o) h' n (h' n)->VR w (Fz C w (ι.cK id n i j r o) h') (ι.cK id n i j r o) h' v (.r ba n 0 bP.length)->
   ∃ ι',Sat C U' ⟨σ.t,h',σ.nx⟩ a w ι'/\VR w (Fz C w ι' h') ι' h' v (.r ba n 0 bP.length)/\ι' id=ι id/\ι'.o id=ι.o id/\(∀ b,Fz C w ι σ.h b->Fz C w ι' h' b)/\∀ y,cZ w w ι ι' σ.h h' y:=by
  intro r o hr qg hVR;have fy:∀ y,y≠n->(ι.cK id n i j r o) y=ι y:=λy hy=>QI _ _ _ _ hy;have oq:∀ y,y≠n->(ι.cK id n i j r o).o y=ι.o y:=λy hy=>QI _ _ _ _ hy;have mW:(ι.cK id n i j r o) n=r:=QN _ _ _;have gi:∀ y,y≠id->mH w w ι (ι.cK id n i j r o) y:=λy hy b p hk=>⟨OY hk (λh=>by rw[hr b h]at hk;cases hk;exact hy rfl) (.inl hy),rfl⟩
  have bU:∀ y,y≠n->y≠id->Rest w w ι (ι.cK id n i j r o) y:=λy hy lu=>⟨fy y hy,oq y hy,λ_ _=>rfl,gi y lu⟩
  have hF:∀ b,Fz C w ι σ.h b->Fz C w (ι.cK id n i j r o) h' b:=by
   intro b ⟨h1,h2,h3,h4⟩;refine⟨h1,h2,λy hy=>?_,?_⟩
   ·by_cases h8:y=n
    ·subst h8;rw[mW]at hy;rw[hr b hy]at h4
     cases h4
    ·rw[fy y h8]at hy;have:=h3 y hy;by_cases h9:y=id
     ·subst h9;rw[a8]at this;cases this
     ·rw[e3 y h8 h9];exact this
   ·simp only[Io.cK]
    split
    ·rfl
    ·rw[h4]
  have hg:∀ y,cZ w w ι (ι.cK id n i j r o) σ.h h' y:=by
   intro y;by_cases h1:y=n
   ·subst h1;exact .inl ft
   by_cases h2:y=id
   ·subst h2;unfold cZ;rw[e1,a8];exact .inr (.inr ⟨fy y h1,oq y h1,⟨rfl,rfl,rfl,⟨λh=>h,λg' h=>⟨g,rfl,by cases h;omega⟩⟩⟩,λ_ _=>rfl,λg' h h'=>by cases h;cases h'⟩)
   ·exact(bU y h1 h2).gE (e3 y h1 h2)
  refine⟨ι.cK id n i j r o,S.ej S.dE (λb hb=>⟨hF b hb,rfl⟩) hg (λy cs hb=>?_) (λy=>?_) (λy z b hy hz=>?_) (λy b hy=>?_) (λy hy=>?_) (λy b hy=>?_) (λb y p hk=>?_),hVR,fy id dN.symm,oq id dN.symm,hF,hg⟩
  ·by_cases h1:y=n
   ·subst h1;rw[ft]at hb;cases hb
   by_cases h2:y=id
   ·subst h2;rw[a8]at hb;cases hb
   rw[e3 y h1 h2,hb];simp
  ·by_cases h1:y=n
   ·subst h1;right;exact qg
   by_cases h2:y=id
   ·subst h2;right;rw[e1];refine .sl bk e e0 sz _ es cur hz ((fy y h1).trans c1) c2 (λh=>by rw[oq y h1];exact eO h) (by rw[oq y h1];exact hle) cX bV (λp q el d cU hd=>?_);obtain⟨u,h5,h6,h7⟩:=dS p q el d cU hd;refine⟨u,by rw[oq y h1];exact h5,h6,λdt=>(h7 (by simp)).map _ λb q' hk=>⟨?_,rfl⟩⟩;have mU:(p,q)≠(i,j):=by simpa using dt
    exact OY hk (λh=>by rw[hr b h]at hk;simp at hk;exact mU (by rw[Prod.mk.injEq];exact⟨hk.1.1.symm,hk.1.2.symm⟩)) (.inr ⟨(p,q),q',rfl,mU⟩)
   ·left;exact⟨e3 y h1 h2,bU y h1 h2⟩
  ·by_cases h1:y=n
   ·subst h1;by_cases h2:z=y
    ·exact h2.symm
    ·rw[mW]at hy;rw[fy z h2]at hz;exact absurd hz ((S.dg b id _ (hr b hy)).ne z)
   ·rw[fy y h1]at hy;by_cases h2:z=n
    ·subst h2;rw[mW]at hz;exact absurd hy ((S.dg b id _ (hr b hz)).ne y)
    ·rw[fy z h2]at hz;exact S.inj y z b hy hz
  ·by_cases h1:y=n
   ·subst h1;rw[mW]at hy;have L:=S.dg b id _ (hr b hy);exact⟨.inl L.fr,L.lt⟩
   ·rw[fy y h1]at hy;obtain⟨h3,h4⟩:=S.eh y b hy;refine⟨h3.imp (λh=>h) λ⟨h5,cs,h6⟩=>⟨h5,cs,?_⟩,h4⟩;by_cases h7:y=id
    ·subst h7;rw[a8]at h6;cases h6
    ·rw[e3 y h1 h7];exact h6
  ·obtain⟨h1,h2⟩:=bN y hy;obtain⟨h3,h4⟩:=S.fresh y h1;have h5:y≠id:=λh=>by subst h;rw[a8]at h3;cases h3
   rw[e3 y h2 h5,fy y h2];exact⟨h3,h4⟩
  ·by_cases h1:y=n
   ·subst h1;rw[e2];simp
   ·rw[fy y h1]at hy;by_cases h7:y=id
    ·subst h7;rw[e1];simp
    ·rw[e3 y h1 h7];exact S.live y b hy
  ·obtain⟨h0,h1⟩:=QPA hk;have p6:∀ L:(∀ z,ι z≠some b),∀ z,(ι.cK id n i j r o) z≠some b:=λL z hz=>by
    by_cases h1:z=n
    ·subst h1;rw[mW]at hz;exact h0 hz
    ·rw[fy z h1]at hz;exact L z hz
   rcases h1 with h1 | ⟨rfl,h2,h1⟩
   ·have L:=S.dg b y p h1;refine⟨L.pn,?_,L.fr,L.lt,p6 L.ne⟩;have h8:y≠n:=λh=>by subst h;obtain⟨_,_,_,_,_,_,h9⟩:=L.dp;rw[ft]at h9;cases h9
    by_cases h7:y=id
    ·subst h7;rw[e1];exact⟨_,_,_,_,_,_,rfl⟩
    ·rw[e3 y h8 h7];exact L.dp
   ·have L:=S.dg b id _ h1;exact⟨h2,by rw[e2];exact⟨_,_,_,_,_,_,rfl⟩,L.fr,L.lt,p6 L.ne⟩
 cases jx with
 | nil =>
  refine key none 0 (by simp) ?_ (.cM n 0 ba _ (QN _ _ _) e2);rw[e2];exact .slnil 0 ba _ qf (QN _ _ _)
 | emp _ ad cap =>
  refine key none 0 (by simp) ?_ (.df ad cap n 0 ba _ (QN _ _ _) e2 rfl);rw[e2];exact .slnil 0 ba _ qf (QN _ _ _)
 | sl _ b0 o0 len cap _ _ D4 e00 xv hz0 ah9 hlen ck aia lv ot mX D5 D6 OZ =>
  have eS:(ι.cK id n i j (some b0) o0).o n=o0:=QN _ _ _;refine key (some b0) o0 (λb h=>by cases h;exact ot) ?_ ?_
  ·rw[e2];refine .sl b0 0 e00 ba _ bP D4 qf (QN _ _ _) mX (λh=>by cases h) (by rw[eS,hlen];exact D5) (by omega) lv (λp q el d cU hd=>⟨xv p q,by rw[eS];exact D6 p q el d cU hd,(OZ p q el d cU hd).one,λ_=>?_⟩);refine(OZ p q el d cU hd).map _ λb q' hk=>⟨?_,rfl⟩
   simp only[Io.cK];rw[if_neg (λh=>by cases h;rw[ot]at hk;simp at hk)];have hk:ι.k b=some (id,(i,j)::((p,q)::q')):=by simpa using hk
   rw[hk];simp
  ·rw[hlen];refine .r n 0 len b0 o0 cap 0 ba _ bP (QN _ _ _) e2 (by omega) ck (λ_=>by rw[eS];simp) (λh=>by cases h)
end
end Go.Proofs.YtdplaepmjogjjaaGreat.Am

