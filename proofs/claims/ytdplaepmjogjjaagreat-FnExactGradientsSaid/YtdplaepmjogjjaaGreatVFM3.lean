/- -/
import Derived.Test.YtdplaepmjogjjaaGreatVFM2
import Derived.Test.YtdplaepmjogjjaaGreatProg
import Derived.Carry
import Derived.Deep.Slices
import Derived.ChangeArms
import Derived.ProofKit
import Derived.OpenShut
set_option linter.all false
namespace Go.Proofs.YtdplaepmjogjjaaGreat.Am
open Go Go.RowKit
inductive j7 where
 | f
 | d
 | o (e:TypeId)
 | p (e:TypeId)
 | w
def j7.e:j7->TypeId->TypeId
 | .w,_=>0
 | _,e=>e
def j7.t:j7->Bool->Bool
 | .w,_=>false
 | _,t=>t
inductive Md where
 | one (m:j7)
 | b (ms:List j7)
 | a (ms:List j7)
abbrev Acc:=List (Option (Nat × Nat) × aG)
def YL:Acc->Nat->Option Nat
 | [],_=>none
 | (some (j,_),_)::r,i=>bif Nat.beq j i then some 0 else(match YL r i with | some k=>some (k+1) | none=>none)
 | (none,_)::r,i=>match YL r i with | some k=>some (k+1) | none=>none
def Mo.rs:Mo->Mo
 | .dp _ t _=>.dp 0 t []
 | m=>m
def KD:Mo->Bool
 | .fz=>true
 | _=>false
def JX(nl:Nat)(h:Nat->aG)(m:j7)(v:TV)(acc:Acc):TV × Acc :=
 match v with
 | .c t x=>(.c t x,acc)
 | .q ts x j=>(.q ts x j,acc)
 | .n ts=>match m with
  | .o e=>match ts with
   | []=>(.u,acc)
   | t::ts=>(.r (t::ts) acc.length 0 0,acc++[(none,.sl e (t::ts) .ow [])])
  | .p e=>match ts with
   | []=>(.u,acc)
   | t::ts=>(.r (t::ts) acc.length 0 0,acc++[(none,.sl e (t::ts) (.dp 0 true []) [])])
  | .w=>match ts with
   | []=>(.u,acc)
   | t::ts=>(.r (t::ts) acc.length 0 0,acc++[(none,.sl 0 (t::ts) (.dp 0 false []) [])])
  | .d=>(.c (.sl ts) [],acc)
  | .f=>(.n ts,acc)
 | .r _ id off len=>match h id with
  | .sl e ts mm es=>match m with
   | .d=>bif KD mm then(.c (.sl ts) ((es.drop off).take len),acc) else(.u,acc)
   | _=>bif Nat.blt id nl then(bif mm.full then(.r ts id off len,acc) else(.u,acc)) else match YL acc id with
    | some _=>(.u,acc)
    | none=>match mm with
     | .dp _ t H=>bif H.all (λx=>Nat.blt x.1 off) then(match off with
      | 0=>(.r ts acc.length 0 (es.take len).length,acc++[(some (id,0),.sl (m.e e) ts (.dp 0 (m.t t) []) (es.take len))])
      | k+1=>(.r ts acc.length 0 ((es.drop (k+1)).take len).length,acc++[(some (id,k+1),.sl (m.e e) ts (.dp 0 false []) ((es.drop (k+1)).take len))])) else(.u,acc)
     | mm=>match off with
      | 0=>(.r ts acc.length 0 (es.take len).length,acc++[(some (id,0),.sl e ts mm (es.take len))])
      | _=>(.u,acc)
  | _=>(.u,acc)
 | _=>(.u,acc)
def YR(nl:Nat)(h:Nat->aG):List j7->List TV->Acc->List TV × Acc
 | _,[],acc=>([],acc)
 | [],_::xs,acc=>let r:=YR nl h [] xs acc;(.u::r.1,r.2)
 | m::ms,x::xs,acc=>let a:=JX nl h m x acc;let r:=YR nl h ms xs a.2;(a.1::r.1,r.2)
def conv(nl:Nat)(h:Nat->aG)(m:Md)(v:TV)(acc:Acc):TV × Acc :=
 match m with
 | .one m=>JX nl h m v acc
 | .b ms=>match v with
  | .p id 0 0=>match h id with
   | .box cs=>match YL acc id with
    | some k=>(.p k 0 0,acc)
    | none=>let r:=YR nl h ms cs acc;match YL r.2 id with
     | none=>(.p r.2.length 0 0,r.2++[(some (id,0),.box r.1)])
     | some _=>(.u,acc)
   | _=>(.u,acc)
  | _=>(.u,acc)
 | .a ms=>match v with
  | .a cs=>let r:=YR nl h ms cs acc;(.a r.1,r.2)
  | _=>(.u,acc)
def JR(nl:Nat)(h:Nat->aG)(T:Nat->TV):List (Nat × Md)->Acc->List (Nat × TV) × Acc
 | [],acc=>([],acc)
 | (s,m)::r,acc=>let a:=conv nl h m (T s) acc;let q:=JR nl h T r a.2;((s,a.1)::q.1,q.2)
def CO:List j7->List TV->List Nat
 | .d::ms,x::xs=>x.b4++CO ms xs
 | _::ms,_::xs=>CO ms xs
 | _,_=>[]
def tG(h:Nat->aG)(T:Nat->TV):List (Nat × Md)->List Nat
 | []=>[]
 | (s,.one .d)::r=>(T s).b4++tG h T r
 | (s,.a ms)::r=>(match T s with | .a cs=>CO ms cs | _=>[])++tG h T r
 | (s,.b ms)::r=>(match T s with | .p id _ _=>(match h id with | .box cs=>CO ms cs | _=>[]) | _=>[])++tG h T r
 | _::r=>tG h T r
def CP(h:Nat->aG):Nat->List Nat
 | 0=>[]
 | n+1=>CP h n++(match h n with | .box cs=>TV.bU cs | _=>[])
def m7:List TV->List j7
 | []=>[]
 | _::xs=>.d::m7 xs
def Z8(h:Nat->aG):Nat->Acc
 | 0=>[]
 | n+1=>let a:=Z8 h n;a++[match h n with | .box cs=>(some (n,0),.box (YR 0 h (m7 cs) cs a).1) | .sl e ts m es=>bif m.full then(some (n,0),.sl e ts m.rs es) else(none,.dead) | .dead=>(none,.dead) | .none=>(none,.none)]
def rf:Nat->Acc->List (Nat × aG)
 | _,[]=>[]
 | k,(_,b)::r=>(k,b)::rf (k+1) r
def aG.full:aG->Bool
 | .sl _ _ m _=>m.full
 | _=>true
def lK(h:Nat->aG)(ids:List Nat):Nat->aG:=λi=>bif ids.elem i&&(h i).full then Kb (h i) else h i
def gc(nl:Nat)(L:List (Nat × Md))(σ:cD):cD :=
 let h:=lK σ.H (CP σ.H nl++tG σ.H σ.T L)
 let r:=JR nl h σ.T L (Z8 h nl)
 ⟨r.1,rf 0 r.2,r.2.length⟩
section
variable {w:World} {F F':Nat->Prop} {ι:Io} {h:Nat->aG}
def vN:Option (Nat × Nat) × aG->Nat
 | (some (_,off),.sl _ ts _ (_::_))=>off*ts.length
 | _=>0
theorem Wl{id off:Nat}{e:TypeId}{ts:List CT}{m:Mo}{es:List (aV ts)}(h:es≠[]):vN (some (id,off),.sl e ts m es)=off*ts.length:=by
 cases es with
 | nil=>exact absurd rfl h
 | cons=>rfl
theorem Wm{id:Nat}{b:aG}:vN (some (id,0),b)=0:=by
 cases b with
 | sl e ts m es=>cases es <;> simp[vN]
 | _=>rfl
theorem Q0F{o:Option (Nat × Nat)}{e:TypeId}{ts:List CT}{m:Mo}:vN (o,.sl e ts m [])=0:=by
 cases o <;> rfl
theorem KE{o:Option (Nat × Nat)}{cs:List TV}:vN (o,.box cs)=0:=by
 cases o <;> rfl
def m8(ι:Io)(x:Option (Nat × Nat) × aG):Nat:=match x.1 with
 | some (id,_)=>ι.o id+vN x
 | none=>0
def aι(ι:Io)(acc:Acc):Io:=⟨λk=>((acc[k]?).bind (·.1)).bind λx=>ι x.1,
 λb=>match ι.k b with
  | some (y,(a,c)::q)=>match YL acc y with
   | some k=>match acc[k]? with
    | some (some (_,off),_)=>if off<=a then some (k,(a-off,c)::q) else none
    | _=>none
   | none=>none
  | _=>none,
 λk=>match acc[k]? with
  | some x=>m8 ι x
  | none=>0⟩
def ah(acc:Acc):Nat->aX:=λk=>match acc[k]? with | some (_,b)=>b.aH | none=>.none
def rh(w:World)(F:Nat->Prop)(ι:Io)(h:Nat->aG)(acc:Acc)(x y:TV):Prop :=
 ∀(ca:Acc)(F':Nat->Prop),acc <+: ca->(∀ b,F b->F' b)->∀ v,VR w F ι (λi=>(h i).aH) v x.aW->VR w F' (aι ι ca) (ah ca) v y.aW
def m9(m0 m:Mo)(off:Nat):Prop:=(m0=m/\m.gen=none/\off=0)\/∃ g t H t',m0 = .dp g t H/\m = .dp 0 t' []/\(t'=true->t=true/\off=0)/\∀ x,x∈H->x.1<off
theorem m9.fw{m0 m:Mo}{off:Nat}(h:m9 m0 m off)(ht:m.fw=true):m0.fw=true/\off=0:=by
 rcases h with⟨rfl,_,h⟩ | ⟨g,t,H,t',rfl,rfl,h,_⟩
 ·exact⟨ht,h⟩
 ·exact h ht
theorem m9.own{m0 m:Mo}{off:Nat}(h:m9 m0 m off):m.own=m0.own:=by
 rcases h with⟨rfl,_,h⟩ | ⟨g,t,H,t',rfl,rfl,h,_⟩ <;> rfl
theorem m9.rs{m:Mo}(hf:m.full=true):m9 m m.rs 0:=by
 cases m with
 | dp g t H =>
  cases H with
  | nil=>exact .inr ⟨g,t,[],t,rfl,rfl,λh=>⟨h,rfl⟩,by simp⟩
  | cons=>simp[Mo.full]at hf
 | _=>exact .inl ⟨rfl,rfl,rfl⟩
def y7(w:World)(F:Nat->Prop)(ι:Io)(h:Nat->aG)(acc:Acc):Option (Nat × Nat) × aG->Prop
 | (some (id,off),.sl e ts m es)=>∃ n8 m0 len,(∃ e0,h id = .sl e0 ts m0 n8/\(m.fw=true->e0=e))/\es=(n8.drop off).take len/\m9 m0 m off
 | (some (id,off),.box cs)=>∃ gL,h id = .box gL/\cs.length=gL.length/\∀(k:Nat)(x y:TV),gL[k]? = some x->cs[k]? = some y->rh w F ι h acc x y
 | (none,.sl _ ts m es)=>es=[]/\0<ts.length
 | (none,.none)=>True
 | (none,.dead)=>True
 | _=>False
def ri(nl:Nat)(h:Nat->aG)(acc:Acc):Prop:=∀ id e ts m es,id<nl->h id = .sl e ts m es->m.full=true->acc[id]? = some (some (id,0),.sl e ts m.rs es)
theorem ri.mono{nl:Nat}{h:Nat->aG}{acc iD:Acc}(hp:acc <+: iD)(hf:ri nl h acc):ri nl h iD:=λid e ts m es h1 h2 lF=>by
 have h3:=hf id e ts m es h1 h2 lF;obtain⟨r,rfl⟩:=hp;rw[List.getElem?_append_left (List.getElem?_eq_some_iff.1 h3).1];exact h3
structure eI(w:World)(F:Nat->Prop)(ι:Io)(h:Nat->aG)(acc:Acc):Prop where
 ky:∀(k:Nat)(e:Option (Nat × Nat) × aG),acc[k]? = some e->y7 w F ι h acc e
 nodup:∀(k j id o o':Nat)(b c:aG),acc[k]? = some (some (id,o),b)->acc[j]? = some (some (id,o'),c)->k=j
theorem rh.mono{acc iD:Acc}{x y:TV}(hp:acc <+: iD)(hk:rh w F ι h acc x y):rh w F ι h iD x y :=
 λca F' KF hF v hv=>hk ca F' (hp.trans KF) hF v hv
theorem y7.mono{acc iD:Acc}{e:Option (Nat × Nat) × aG}(hp:acc <+: iD)(hg:y7 w F ι h acc e):y7 w F ι h iD e:=by
 obtain⟨o,b⟩:=e
 cases o with
 | none=>cases b <;> exact hg
 | some id =>
  obtain⟨id,off⟩:=id
  cases b with
  | box cs=>obtain⟨gL,h1,h2,h3⟩:=hg;exact⟨gL,h1,h2,λk x y hx hy=>(h3 k x y hx hy).mono hp⟩
  | _=>exact hg
theorem y9:∀ {acc:Acc} {id:Nat},YL acc id=none->∀(k o:Nat)(b:aG),acc[k]?≠some (some (id,o),b)
 | [],id,_,k,o,b,hk=>by simp at hk
 | (some (j,o0),c)::r,id,hn,k,o,b,hk=>by
  simp only[YL]at hn
  cases hb:Nat.beq j id with
  | true=>rw[hb]at hn;cases hn
  | false =>
   rw[hb]at hn;simp only[cond_false]at hn
   split at hn
   ·cases hn
   rename_i hr
   cases k with
   | zero =>
    simp only[List.getElem?_cons_zero,Option.some.injEq,Prod.mk.injEq]at hk;rw[hk.1.1]at hb;simp at hb
   | succ k=>exact y9 hr k o b (by simpa using hk)
 | (none,c)::r,id,hn,k,o,b,hk=>by
  simp only[YL]at hn
  split at hn
  ·cases hn
  rename_i hr
  cases k with
  | zero=>simp at hk
  | succ k=>exact y9 hr k o b (by simpa using hk)
theorem vO:∀ {acc:Acc} {id k:Nat},YL acc id=some k->∃ o b,acc[k]? = some (some (id,o),b)
 | [],id,k,hn=>by simp[YL]at hn
 | (some (j,o0),c)::r,id,k,hn=>by
  simp only[YL]at hn
  cases hb:Nat.beq j id with
  | true =>
   rw[hb]at hn;simp only[cond_true,Option.some.injEq]at hn;subst hn;exact⟨o0,c,by rw[Nat.eq_of_beq_eq_true hb];rfl⟩
  | false =>
   rw[hb]at hn;simp only[cond_false]at hn
   split at hn
   rotate_left
   ·cases hn
   rename_i k' hr
   cases hn;obtain⟨o,b,h⟩:=vO hr;exact⟨o,b,by simpa using h⟩
 | (none,c)::r,id,k,hn=>by
  simp only[YL]at hn
  split at hn
  rotate_left
  ·cases hn
  rename_i k' hr
  cases hn;obtain⟨o,b,h⟩:=vO hr;exact⟨o,b,by simpa using h⟩
theorem QYP{acc:Acc}(A:eI w F ι h acc){id k o:Nat}{b:aG}(hk:acc[k]? = some (some (id,o),b)):YL acc id=some k:=by
 cases hx:YL acc id with
 | none=>exact absurd hk (y9 hx k o b)
 | some j =>
  obtain⟨o',b',h1⟩:=vO hx;rw[A.nodup j k id o' o b' b h1 hk]
theorem eI.push{acc:Acc}(A:eI w F ι h acc){o:Option (Nat × Nat)}{b:aG}(hg:y7 w F ι h (acc++[(o,b)]) (o,b))(hn:∀ id off,o=some (id,off)->YL acc id=none):eI w F ι h (acc++[(o,b)]):=by
 have hp:acc <+: acc++[(o,b)]:=List.prefix_append _ _;refine⟨λk e he=>?_,λk j id o1 o2 c d hk hj=>?_⟩
 ·rw[List.getElem?_append]at he
  split at he
  ·exact(A.ky k e he).mono hp
  ·have:=List.mem_of_getElem? he;simp only[List.mem_singleton]at this;rw[this];exact hg
 ·rw[List.getElem?_append]at hk hj
  split at hk <;> split at hj
  ·exact A.nodup k j id o1 o2 c d hk hj
  ·have h1:=List.mem_of_getElem? hj;simp only[List.mem_singleton,Prod.mk.injEq]at h1;exact absurd hk (y9 (hn id o2 h1.1.symm) k o1 c)
  ·have h1:=List.mem_of_getElem? hk;simp only[List.mem_singleton,Prod.mk.injEq]at h1;exact absurd hj (y9 (hn id o1 h1.1.symm) j o2 d)
  ·rename_i h1 h2;have h3:=(List.getElem?_eq_some_iff.1 hk).1;have h4:=(List.getElem?_eq_some_iff.1 hj).1;simp at h3 h4;omega
theorem vP{acc ca:Acc}{k:Nat}{o:Option (Nat × Nat)}{b:aG}(hp:acc <+: ca)(hk:acc[k]? = some (o,b)):ah ca k=b.aH/\aι ι ca k=o.bind (λx=>ι x.1)/\(aι ι ca).o k=m8 ι (o,b):=by
 obtain⟨r,rfl⟩:=hp;have:(acc++r)[k]? = some (o,b):=by
  rw[List.getElem?_append_left (List.getElem?_eq_some_iff.1 hk).1];exact hk
 refine⟨?_,?_,?_⟩
 ·simp only[ah,this]
 ·simp only[aι,this,Option.bind_some]
 ·simp only[aι,this]
theorem za{acc ca:Acc}{o:Option (Nat × Nat)}{b:aG}(hp:acc++[(o,b)] <+: ca):ah ca acc.length=b.aH/\aι ι ca acc.length=o.bind (λx=>ι x.1)/\(aι ι ca).o acc.length=m8 ι (o,b) :=
 vP (acc:=acc++[(o,b)]) (k:=acc.length) (o:=o) (b:=b) hp (by simp)
def na(w:World)(F:Nat->Prop)(ι:Io)(h:Nat->aG):Prop :=
 ∀ id e ts es v off len,h id = .sl e ts .fz es->VR w F ι (λi=>(h i).aH) v (.r ts.length id off len)->Rd w F v (.sl ts.length (((es.map (a9 ts)).drop off).take len))
theorem QKp{id off len k:Nat}{e0 e:TypeId}{ts:List CT}{mm m:Mo}{es:List (aV ts)}{F':Nat->Prop}{ι':Io}{h':Nat->aX}{v:Value}(hh:h id = .sl e0 ts mm es)(he:m.fw=true->e0=e)(hg:m9 mm m off)
  (h1:h' k=(aG.sl e ts m ((es.drop off).take len)).aH) (h2:ι' k=ι id) (h3:(es.drop off).take len≠[]->ι'.o k=ι.o id+off*ts.length) (hv:VR w F ι (λi=>(h i).aH) v (.r ts.length id off len)) :
  VR w F' ι' h' v (TV.r ts k 0 ((es.drop off).take len).length).aW:=by
 have nc:(λi=>(h i).aH) id = .sl e0 ts.length mm (es.map (a9 ts)):=by simp only[hh,aG.bM]
 generalize hgA:(λi=>(h i).aH)=hA at hv nc;simp only[TV.aW];rw[aG.bM]at h1
 cases hv with
 | cI v sz id off len h1 hd=>rw[nc]at hd;cases hd
 | cW id e' sz m' hi cq =>
  rw[nc]at cq;have:es=[]:=by injection cq with _ _ _ h4;simpa using h4
  subst this;simp only[List.drop_nil,List.take_nil,List.length_nil]at h1 ⊢;exact .cW k e ts.length m (h2.trans hi) h1
 | dz ad cap id e' sz m' hi cq ht =>
  rw[nc]at cq;injection cq with q1 q2 q3 q4;have:es=[]:=by simpa using q4
  subst this;simp only[List.drop_nil,List.take_nil,List.length_nil]at h1 ⊢;refine .dz ad cap k e ts.length m (h2.trans hi) h1 ?_
  cases hx:m.fw with
  | false=>rfl
  | true=>rw[<- q3,(hg.fw hx).1]at ht;cases ht
 | r id off len b ao cap e' sz m' bZ hi cq hlen cr ho dm =>
  rw[nc]at cq;injection cq with q1 q2 q3 q4;subst q1;subst q3;rw[<- q4,List.length_map]at hlen;have hl:((es.drop off).take len).length=len:=by simp;omega
  rw[hl];refine .r k 0 len b ao cap e ts.length m _ (h2.trans hi) h1 (by simp;omega) cr (λhn=>by rw[h3 (λh0=>hn (by rw[<- hl,h0];rfl)),ho hn];simp) (λht _=>?_);obtain⟨k1,k2⟩:=hg.fw ht;rw[<- he ht];exact dm k1 k2
theorem Wn{nl:Nat}(hz:na w F ι h)(hs:∀ id e ts m es v off len n,h id = .sl e ts m es->VR w F ι (λi=>(h i).aH) v (.r n id off len)->n=ts.length){m:j7}{x:TV}{acc:Acc}(A:eI w F ι h acc)(hf:ri nl h acc) :
  acc <+: (JX nl h m x acc).2/\eI w F ι h (JX nl h m x acc).2/\rh w F ι h (JX nl h m x acc).2 x (JX nl h m x acc).1:=by
 have hu:∀(a:Acc)(x:TV),rh w F ι h a x .u:=λa x ca F' _ _ v _=>.u v;unfold JX
 split
 ·exact⟨List.prefix_refl _,A,λca F' hp hF v hv=>hv.data hF⟩
 ·refine⟨List.prefix_refl _,A,λca F' hp hF v hv=>?_⟩
  cases hv with
  | q b o _ _ x hb hc hr=>exact .q b o _ _ x (hF b hb) hc (λk d hk=>(hr k d hk).mono λb hb=>⟨hF b hb,rfl⟩)
 ·rename_i ts
  split
  ·split
   ·exact⟨List.prefix_refl _,A,hu _ _⟩
   ·refine⟨List.prefix_append _ _,A.push ⟨rfl,by simp⟩ (by simp),λca F' hp hF v hv=>?_⟩;obtain⟨h1,h2,_⟩:=za (ι:=ι) hp
    cases hv;exact .cW acc.length _ _ .ow h2 (by rw[h1];rfl)
  ·split
   ·exact⟨List.prefix_refl _,A,hu _ _⟩
   ·refine⟨List.prefix_append _ _,A.push ⟨rfl,by simp⟩ (by simp),λca F' hp hF v hv=>?_⟩;obtain⟨h1,h2,_⟩:=za (ι:=ι) hp
    cases hv;exact .cW acc.length _ _ (.dp 0 true []) h2 (by rw[h1];rfl)
  ·split
   ·exact⟨List.prefix_refl _,A,hu _ _⟩
   ·refine⟨List.prefix_append _ _,A.push ⟨rfl,by simp⟩ (by simp),λca F' hp hF v hv=>?_⟩;obtain⟨h1,h2,_⟩:=za (ι:=ι) hp
    cases hv;exact .cW acc.length _ _ (.dp 0 false []) h2 (by rw[h1];rfl)
  ·refine⟨List.prefix_refl _,A,λca F' hp hF v hv=>?_⟩
   cases hv;exact .c _ _ (by simp only[enc,List.map_nil];exact .nil _)
  ·refine⟨List.prefix_refl _,A,λca F' hp hF v hv=>?_⟩
   cases hv;exact .n _
 ·rename_i kz id off len
  split
  rotate_left
  ·exact⟨List.prefix_refl _,A,hu _ _⟩
  rename_i e ts mm es hh;have own:∀(e':TypeId)(m':Mo)(k:Nat),k=off->m9 mm m' off->(m'.fw=true->e=e')->YL acc id=none->
    acc <+: acc++[(some (id,k),.sl e' ts m' ((es.drop k).take len))]/\eI w F ι h (acc++[(some (id,k),.sl e' ts m' ((es.drop k).take len))])/\rh w F ι h (acc++[(some (id,k),.sl e' ts m' ((es.drop k).take len))]) (.r kz id off len) (.r ts acc.length 0 ((es.drop k).take len).length):=by
   intro e' m' k hk hg CQ eV;subst hk;refine⟨List.prefix_append _ _,A.push ⟨es,mm,len,⟨e,hh,CQ⟩,rfl,hg⟩ (λcn o' h'=>by cases h';exact eV),λca F' hp hF v hv=>?_⟩;obtain⟨h1,h2,h3⟩:=za (ι:=ι) hp;have hn:=hs id e ts mm es v k len _ hh hv;simp only[TV.aW,hn]at hv;refine QKp hh CQ hg h1 h2 (λdk=>?_) hv;rw[h3];simp only[m8,Wl dk]
  split
  ·cases mm with
   | ow=>exact⟨List.prefix_refl _,A,hu _ _⟩
   | dp=>exact⟨List.prefix_refl _,A,hu _ _⟩
   | fz =>
    refine⟨List.prefix_refl _,A,λca F' hp hF v hv=>?_⟩;have hn:=hs id e ts .fz es v off len _ hh hv;simp only[TV.aW,hn]at hv;have:=hz id e ts es v off len hh hv;refine .c _ _ ?_;simp only[enc,List.map_take,List.map_drop];exact this.mono λb hb=>⟨hF b hb,rfl⟩
  ·cases aY:Nat.blt id nl with
   | true =>
    simp only[cond_true]
    cases qE:mm.full with
    | false=>exact⟨List.prefix_refl _,A,hu _ _⟩
    | true =>
    have hb:=hf id e ts mm es (Nat.le_of_ble_eq_true aY) hh qE;refine⟨List.prefix_refl _,A,λca F' hp hF v hv=>?_⟩;obtain⟨h1,h2,h3⟩:=vP (ι:=ι) hp hb;have hn:=hs id e ts mm es v off len _ hh hv;simp only[cond_true,TV.aW,hn]at hv ⊢;simp only[Option.bind_some]at h2;have h3:(aι ι ca).o id=ι.o id:=by rw[h3];simp only[m8,Wm,Nat.add_zero]
    have nc:(λi=>(h i).aH) id = .sl e ts.length mm (es.map (a9 ts)):=by simp only[hh,aG.bM]
    generalize hgA:(λi=>(h i).aH)=hA at hv nc;have CS:=m9.rs qE
    cases hv with
    | cI v sz id off len h1 hd=>rw[nc]at hd;cases hd
    | cW id e' sz m hi cq =>
     rw[nc]at cq;injection cq with _ _ _ h4;exact .cW _ e ts.length mm.rs (h2.trans hi) (by rw[h1,aG.bM,h4])
    | dz ad cap id e' sz m hi cq ht =>
     rw[nc]at cq;injection cq with q1 q2 q3 q4;refine .dz ad cap _ e ts.length mm.rs (h2.trans hi) (by rw[h1,aG.bM,q4]) ?_
     cases hx:mm.rs.fw with
     | false=>rfl
     | true=>rw[<- q3,(CS.fw hx).1]at ht;cases ht
    | r id off len b ao cap e' sz m bZ hi cq hlen cr ho dm =>
     rw[nc]at cq;injection cq with q1 q2 q3 q4;subst q1;subst q3;rw[<- q4]at hlen;exact .r id off len b ao cap e ts.length mm.rs (es.map (a9 ts)) (h2.trans hi) (by rw[h1,aG.bM]) hlen cr (by rw[h3];exact ho) (λht=>dm (CS.fw ht).1)
   | false =>
   simp only[cond_false]
   split
   ·exact⟨List.prefix_refl _,A,hu _ _⟩
   rename_i eV
   split
   ·rename_i g t H
    cases hH:H.all (λx=>Nat.blt x.1 off) with
    | false=>exact⟨List.prefix_refl _,A,hu _ _⟩
    | true =>
    simp only[cond_true];have Wo:∀ x,x∈H->x.1<off:=λx hx=>Nat.le_of_ble_eq_true (List.all_eq_true.1 hH x hx)
    split
    ·have:=own (m.e e) (.dp 0 (m.t t) []) 0 rfl (.inr ⟨g,t,H,m.t t,rfl,rfl,λh=>⟨(by cases m <;> first | exact h | cases h),rfl⟩,Wo⟩) (λh=>by cases m <;> first | rfl | cases h) eV;simpa using this
    ·rename_i k;exact own (m.e e) (.dp 0 false []) (k+1) rfl (.inr ⟨g,t,H,false,rfl,rfl,λh=>(by cases h),Wo⟩) (λh=>by cases h) eV
   ·rename_i d9
    split
    ·have j3:mm.gen=none:=by
      cases mm with
      | dp g t H=>exact absurd rfl (d9 g t H)
      | _=>rfl
     have:=own e mm 0 rfl (.inl ⟨rfl,j3,rfl⟩) (λ_=>rfl) eV;simpa using this
    ·exact⟨List.prefix_refl _,A,hu _ _⟩
 ·exact⟨List.prefix_refl _,A,hu _ _⟩
theorem zb{nl:Nat}(hz:na w F ι h)(hs:∀ id e ts m es v off len n,h id = .sl e ts m es->VR w F ι (λi=>(h i).aH) v (.r n id off len)->n=ts.length) :
  ∀ {ms:List j7} {xs:List TV} {acc:Acc},eI w F ι h acc->ri nl h acc->acc <+: (YR nl h ms xs acc).2/\eI w F ι h (YR nl h ms xs acc).2/\(YR nl h ms xs acc).1.length=xs.length/\
   ∀(k:Nat)(x y:TV),xs[k]? = some x->(YR nl h ms xs acc).1[k]? = some y->rh w F ι h (YR nl h ms xs acc).2 x y
 | ms,[],acc,A,hf=>by
  cases ms <;> exact⟨List.prefix_refl _,A,rfl,λk x y hx=>by simp at hx⟩
 | [],x::xs,acc,A,hf=>by
  obtain⟨h1,h2,h3,h4⟩:=zb hz hs (ms:=[]) (xs:=xs) A hf;refine⟨h1,h2,by simp only[YR,List.length_cons,h3],λk a b ha hb=>?_⟩;simp only[YR]at hb
  cases k with
  | zero=>simp at hb;subst hb;exact λca F' _ _ v _=>.u v
  | succ k=>exact h4 k a b (by simpa using ha) (by simpa using hb)
 | m::ms,x::xs,acc,A,hf=>by
  obtain⟨g1,g2,g3⟩:=Wn hz hs (m:=m) (x:=x) A hf;obtain⟨h1,h2,h3,h4⟩:=zb hz hs (ms:=ms) (xs:=xs) g2 (hf.mono g1);refine⟨g1.trans h1,h2,by simp only[YR,List.length_cons,h3],λk a b ha hb=>?_⟩;simp only[YR]at hb
  cases k with
  | zero=>simp at ha hb;subst ha;subst hb;exact g3.mono h1
  | succ k=>exact h4 k a b (by simpa using ha) (by simpa using hb)
def vQ(w:World)(F:Nat->Prop)(ι:Io)(h:Nat->aG)(acc:Acc)(x y:TV):Prop :=
 ∀(ca:Acc)(F':Nat->Prop),acc <+: ca->(∀ b,F b->F' b)->∀ v,VR w F ι (λi=>(h i).aH) v x.aH->VR w F' (aι ι ca) (ah ca) v y.aH
theorem vQ.mono{acc iD:Acc}{x y:TV}(hp:acc <+: iD)(hk:vQ w F ι h acc x y):vQ w F ι h iD x y :=
 λca F' KF hF v hv=>hk ca F' (hp.trans KF) hF v hv
theorem QNY{nl:Nat}{m:j7}{x:TV}{acc:Acc}:(JX nl h m x acc).1.aH=(JX nl h m x acc).1.aW:=by
 unfold JX;simp only[cond];repeat' split
 all_goals rfl
theorem Q0t{nl:Nat}{m:j7}{x:TV}{acc:Acc}(hx:x.one=false):JX nl h m x acc=(.u,acc):=by
 cases x <;> first | rfl | simp[TV.one]at hx
theorem QJL{nl:Nat}(hz:na w F ι h)(hs:∀ id e ts m es v off len n,h id = .sl e ts m es->VR w F ι (λi=>(h i).aH) v (.r n id off len)->n=ts.length){m:Md}{x:TV}{acc:Acc}(A:eI w F ι h acc)(hf:ri nl h acc) :
  acc <+: (conv nl h m x acc).2/\eI w F ι h (conv nl h m x acc).2/\vQ w F ι h (conv nl h m x acc).2 x (conv nl h m x acc).1:=by
 have hu:∀(a:Acc)(x:TV),vQ w F ι h a x .u:=λa x ca F' _ _ v _=>.u v;unfold conv
 split
 ·rename_i m
  cases hx:x.one with
  | false=>rw[Q0t hx];exact⟨List.prefix_refl _,A,hu _ _⟩
  | true =>
   obtain⟨g1,g2,g3⟩:=Wn hz hs (m:=m) (x:=x) A hf;refine⟨g1,g2,λca F' hp hF v hv=>?_⟩;rw[tA hx]at hv;rw[QNY];exact g3 ca F' hp hF v hv
 ·rename_i ms
  split
  rotate_left
  ·exact⟨List.prefix_refl _,A,hu _ _⟩
  rename_i id
  split
  rotate_left
  ·exact⟨List.prefix_refl _,A,hu _ _⟩
  rename_i cs hh;have put:∀(k:Nat)(cs':List TV)(F':Nat->Prop)(ca:Acc)(v:Value),ah ca k=(aG.box cs').aH->aι ι ca k=ι id->(aι ι ca).o k=ι.o id->VR w F ι (λi=>(h i).aH) v (.p id 0 0)->VR w F' (aι ι ca) (ah ca) v (.p k 0 0):=by
   intro k cs' F' ca v h1 h2 h3 hv
   cases hv with
   | dg v id i j h3 hd=>have hd:(h id).aH = .dead:=hd;rw[hh]at hd;cases hd
   | p id i j bk hi hn hd =>
    have:VR w F' (aι ι ca) (ah ca) (.pointer (some ⟨bk,(aι ι ca).o k+0*(ah ca k).sz+0,none⟩)) (.p k 0 0) :=
     .p k 0 0 bk (h2.trans hi) (by rw[h1];simp[aG.aH]) (by rw[h1];simp[aG.aH])
    rw[h3]at this;simpa using this
  split
  ·rename_i k hk;obtain⟨o,b,hb⟩:=vO hk;refine⟨List.prefix_refl _,A,λca F' hp hF v hv=>?_⟩;obtain⟨h1,h2,h3⟩:=vP (ι:=ι) hp hb;have hg:=A.ky k _ hb
   cases b with
   | none=>exact hg.elim
   | dead=>exact hg.elim
   | sl e ts m es=>obtain⟨n8,m0,len,⟨_,q,_⟩,_⟩:=hg;rw[hh]at q;cases q
   | box cs'=>exact put k cs' F' ca v h1 h2 (by rw[h3];simp only[m8,KE,Nat.add_zero]) hv
  ·rename_i nf;obtain⟨g1,g2,g3,g4⟩:=zb hz hs (ms:=ms) (xs:=cs) A hf;simp only
   split
   rotate_left
   ·exact⟨List.prefix_refl _,A,hu _ _⟩
   rename_i tH;have gC:(YR nl h ms cs acc).2 <+: (YR nl h ms cs acc).2++[(some (id,0),.box (YR nl h ms cs acc).1)]:=List.prefix_append _ _;refine⟨g1.trans gC,g2.push ⟨cs,hh,g3,λk x y hx hy=>(g4 k x y hx hy).mono gC⟩ (λcn o' h'=>by cases h';exact tH),λca F' hp hF v hv=>?_⟩;obtain⟨h1,h2,h3⟩:=za (ι:=ι) hp;exact put _ _ F' ca v h1 h2 (by rw[h3];simp only[m8,KE,Nat.add_zero]) hv
 ·rename_i ms
  split
  rotate_left
  ·exact⟨List.prefix_refl _,A,hu _ _⟩
  rename_i cs;obtain⟨g1,g2,g3,g4⟩:=zb hz hs (ms:=ms) (xs:=cs) A hf;refine⟨g1,g2,λca F' hp hF v hv=>?_⟩
  cases hv with
  | a vs cs' hl h1 hv =>
   refine .a vs _ (by simpa[g3]using hl) h1 (λk v y hk hy=>?_);simp only[List.getElem?_map,Option.map_eq_some_iff]at hy;obtain⟨y0,zc,rfl⟩:=hy;have aY:k<cs.length:=by rw[<- g3];exact(List.getElem?_eq_some_iff.1 zc).1
   exact g4 k cs[k] y0 (List.getElem?_eq_getElem aY) zc ca F' hp hF v (hv k v _ hk (by simp[aY]))
theorem Wp{nl:Nat}(hz:na w F ι h)(hs:∀ id e ts m es v off len n,h id = .sl e ts m es->VR w F ι (λi=>(h i).aH) v (.r n id off len)->n=ts.length){T:Nat->TV} :
  ∀ {L:List (Nat × Md)} {acc:Acc},eI w F ι h acc->ri nl h acc->acc <+: (JR nl h T L acc).2/\eI w F ι h (JR nl h T L acc).2/\∀ s,vQ w F ι h (JR nl h T L acc).2 (T s) (cR (JR nl h T L acc).1 s)
 | [],acc,A,hf=>⟨List.prefix_refl _,A,λs ca F' _ _ v _=>.u v⟩
 | (s,m)::L,acc,A,hf=>by
  obtain⟨g1,g2,g3⟩:=QJL hz hs (m:=m) (x:=T s) A hf;obtain⟨h1,h2,h3⟩:=Wp hz hs (T:=T) (L:=L) g2 (hf.mono g1);refine⟨g1.trans h1,h2,λs'=>?_⟩;simp only[JR,JW,bN]
  split
  ·rename_i e;subst e;exact g3.mono h1
  ·exact h3 s'
end
theorem Wq:∀(acc:Acc)(n k:Nat),dK (rf n acc) k=if n<=k then(match acc[k-n]? with | some (_,b)=>b | none=>.none) else .none
 | [],n,k=>by simp[rf,dK]
 | (o,b)::r,n,k=>by
  simp only[rf,tE,bN];by_cases h:k=n
  ·subst h;simp
  ·rw[if_neg h,Wq r (n+1) k];by_cases h2:n<=k
   ·rw[if_pos h2,if_pos (by omega),show k-n=(k-(n+1))+1 by omega];simp
   ·rw[if_neg h2,if_neg (by omega)]
theorem mh(h:Nat->aG):∀ n,(Z8 h n).length=n
 | 0=>rfl
 | n+1=>by simp only[Z8,List.length_append,mh h n,List.length_singleton]
theorem Wr{nl:Nat}{h:Nat->aG}:∀ {cs:List TV} {acc:Acc},(YR nl h (m7 cs) cs acc).2=acc
 | [],acc=>rfl
 | x::xs,acc=>by
  have:(JX nl h .d x acc).2=acc:=by
   unfold JX
   split <;> try rfl
   split <;> try rfl
   simp only[cond]
   split <;> rfl
  simp only[m7,YR,this];exact Wr
section
variable {C:Ctx} {U:Nat->Prop} {a:Act} {w:World} {ι:Io}
theorem QMX(h:Nat->aG)(ids:List Nat):(λi=>(lK h ids i).aH)=bA (λi=>(h i).aH) (fu (λi=>(h i).aH) (ids.filter λi=>(h i).full)):=by
 funext i
 rw[Y8];simp only[lK,List.mem_filter];by_cases hi:i∈ids
 ·rw[show ids.elem i=true by simpa using hi]
  cases hf:(h i).full with
  | true=>rw[if_pos ⟨hi,rfl⟩];exact VG _
  | false=>rw[if_neg (λh=>by cases h.2)];rfl
 ·rw[if_neg (λh=>hi h.1),show ids.elem i=false by simpa using hi];rfl
theorem QYF{σ:cD}{nl:Nat}{L:List (Nat × Md)}(S:Sat C U σ.aH a w ι)(hL:∀ i b,C.L i=some b->i<nl)(hO:∀ i x,C.O i=some x->i<nl)(hOb:∀ i x cs,C.O i=some x->x.B≠.box cs):∃ ι',Sat C (λi=>(gc nl L σ).nx<=i) (gc nl L σ).aH a w ι':=by
 obtain⟨t,h0,nx⟩:=σ;let H:=dK h0
 let T:=cR t
 let ids:=CP H nl++tG H T L
 have qE:Am.Full (λi=>(H i).aH) (ids.filter λi=>(H i).full):=by
  intro id bp e sz m es he;have h1:=(List.mem_filter.1 bp).2;simp only at h1 he
  cases hq:H id with
  | sl e' ts m' bZ=>rw[hq]at he h1;rw[aG.bM]at he;injection he with _ _ q _;rw[<- q];exact h1
  | _=>rw[hq]at he;cases he
 obtain⟨S1,_⟩:=S.freeze (ids.filter λi=>(H i).full) qE;have hf:bA (cD.aH ⟨t,h0,nx⟩).h (fu (cD.aH ⟨t,h0,nx⟩).h (ids.filter λi=>(H i).full))=λi=>(lK H ids i).aH:=(QMX H ids).symm;rw[hf]at S1;generalize hh:lK H ids=h at S1;generalize ι.loose (ids.filter λi=>(H i).full)=ι at S1;let F:=Fz C w ι λi=>(h i).aH
 have hs:∀ id e ts m es v off len n,h id = .sl e ts m es->VR w F ι (λi=>(h i).aH) v (.r n id off len)->n=ts.length:=by
  intro id e ts m es v off len n bp hv;have hA:(λi=>(h i).aH) id = .sl e ts.length m (es.map (a9 ts)):=by simp only[bp,aG.bM]
  generalize(λi=>(h i).aH)=hB at hv hA
  cases hv with
  | cI v sz id off len h1 hd=>rw[hA]at hd;cases hd
  | cW id e' sz m' hi cq=>rw[hA]at cq;injection cq with _ q _ _;exact q.symm
  | dz ad cap id e' sz m' hi cq ht=>rw[hA]at cq;injection cq with _ q _ _;exact q.symm
  | r id off len b ao cap e' sz m' bZ hi cq hlen cr ho dm=>rw[hA]at cq;injection cq with _ q _ _;exact q.symm
 have hz:na w F ι h:=by
  intro id e ts es v off len bp hv;have hA:(λi=>(h i).aH) id = .sl e ts.length .fz (es.map (a9 ts)):=by simp only[bp,aG.bM]
  refine AV.kj S1 (F:=F) (λb hb=>hb) hv (d:=.sl ts.length (((es.map (a9 ts)).drop off).take len)) ?_ (λcn b i5 hb=>?_) (λcn b p i5 hb=>?_)
  ·show(match(h id).aH with | .sl _ sz m es=>if m.full=true then some (D.sl sz ((es.drop off).take len)) else none | _=>none)=_;rw[bp];rfl
  ·simp only[AV.b4,List.mem_singleton]at i5;subst i5;obtain⟨r1,r2⟩:=S1.eL cn b hb;refine⟨r2,?_,λj hj=>?_,?_⟩
   ·rcases r1 with r1 | ⟨_,cs,q⟩
    ·exact .inr r1
    ·have q:(h cn).aH = .box cs:=q;rw[bp]at q;cases q
   ·have:=S1.inj j cn b hj hb;subst this;show((h j).aH).own=false;rw[bp];rfl
   ·cases hk:ι.k b with
    | none=>rfl
    | some x=>exact absurd hb ((S1.dA b x.1 x.2 hk).ne cn)
  ·simp only[AV.b4,List.mem_singleton]at i5;subst i5;obtain⟨e',bt,g,t',H',bZ,q⟩:=(S1.dA b cn p hb).dp;have q:(h cn).aH = .sl e' bt (.dp g t' H') bZ:=q;rw[bp,aG.bM]at q
   cases q
 have tI:∀(n k:Nat)(j o:Nat)(b:aG),(Z8 h n)[k]? = some (some (j,o),b)->j=k:=by
  intro n
  induction n with
  | zero=>intro k j o b hk;simp[Z8]at hk
  | succ n ih =>
   intro k j o b hk;simp only[Z8]at hk;rw[List.getElem?_append]at hk
   split at hk
   ·exact ih k j o b hk
   ·rename_i jq;have h1:=List.mem_of_getElem? hk;have h2:=(List.getElem?_eq_some_iff.1 hk).1;simp only[List.mem_singleton]at h1;simp only[mh,List.length_singleton]at jq h2;simp only[cond]at h1;repeat' split at h1
    all_goals first | (cases h1;omega) | cases h1
 have fV:∀ n,eI w F ι h (Z8 h n):=by
  intro n
  induction n with
  | zero=>exact⟨λk e he=>by simp[Z8]at he,λk j id o o' b c hk=>by simp[Z8]at hk⟩
  | succ n ih =>
   simp only[Z8];have nf:YL (Z8 h n) n=none:=by
    cases hx:YL (Z8 h n) n with
    | none=>rfl
    | some k =>
     obtain⟨o,b,hb⟩:=vO hx;have h1:=tI n k n o b hb;have h2:=(List.getElem?_eq_some_iff.1 hb).1;rw[mh]at h2;omega
   split
   ·rename_i cs dU;obtain⟨g1,g2,g3,g4⟩:=zb (nl:=0) hz hs (ms:=m7 cs) (xs:=cs) ih (λid _ _ _ _ h=>by omega);rw[Wr]at g1 g2 g4;exact ih.push ⟨cs,dU,g3,λk x y hx hy=>(g4 k x y hx hy).mono (List.prefix_append _ _)⟩ (λid o bp=>by cases bp;exact nf)
   ·rename_i e ts m es hq
    cases oq:m.full with
    | true=>exact ih.push ⟨es,m,es.length,⟨e,hq,λ_=>rfl⟩,List.take_length.symm,.rs oq⟩ (λid o bp=>by cases bp;exact nf)
    | false=>exact ih.push trivial (λid o bp=>by cases bp)
   ·exact ih.push trivial (λid o bp=>by cases bp)
   ·exact ih.push trivial (λid o bp=>by cases bp)
 have ea:∀ n,ri n h (Z8 h n):=by
  intro n
  induction n with
  | zero=>intro id e ts m es aY;omega
  | succ n ih =>
   intro id e ts m es aY bp oq;simp only[Z8];by_cases eS:id<n
   ·rw[List.getElem?_append_left (by rw[mh];exact eS)];exact ih id e ts m es eS bp oq
   ·have:id=n:=by omega
    subst this;rw[List.getElem?_append_right (by rw[mh];omega),mh,bp];simp[oq]
 have lv:∀ i x,C.O i=some x->∀ cs,h i≠.box cs:=by
  intro i x hi cs hq
  rcases S1.hand i x hi with r1 | ⟨_,_,r2,_⟩
  ·have r1:(h i).aH = .dead:=r1;rw[hq]at r1
   cases r1
  ·have r2:YP x.B (h i).aH:=r2;rw[hq]at r2
   cases hB:x.B with
   | box cs'=>exact hOb i x cs' hi hB
   | _=>rw[hB]at r2;exact r2.elim
 have ze:∀ n i,i<n->(h i = .dead\/∃ e ts m es,h i = .sl e ts m es/\m.full=false)->(Z8 h n)[i]? = some (none,.dead):=by
  intro n
  induction n with
  | zero=>intro i aY;omega
  | succ n ih =>
   intro i aY bp;simp only[Z8];by_cases eS:i<n
   ·rw[List.getElem?_append_left (by rw[mh];exact eS)];exact ih i eS bp
   ·have:i=n:=by omega
    subst this;rw[List.getElem?_append_right (by rw[mh];omega),mh]
    rcases bp with bp | ⟨e,ts,m,es,bp,oq⟩
    ·rw[bp];simp
    ·rw[bp];simp[oq]
 obtain⟨g1,g2,g3⟩:=Wp (nl:=nl) hz hs (T:=T) (L:=L) (fV nl) (ea nl);have hgc:gc nl L ⟨t,h0,nx⟩=⟨(JR nl h T L (Z8 h nl)).1,rf 0 (JR nl h T L (Z8 h nl)).2,(JR nl h T L (Z8 h nl)).2.length⟩:=by
  unfold gc;show cD.mk _ _ _=_;simp only[show lK (cD.H ⟨t,h0,nx⟩) (CP (cD.H ⟨t,h0,nx⟩) nl++tG (cD.H ⟨t,h0,nx⟩) (cD.T ⟨t,h0,nx⟩) L)=h from hh];rfl
 rw[hgc];generalize pS:(JR nl h T L (Z8 h nl)).2=acc at g1 g2 g3;have hah:(λi=>(dK (rf 0 acc) i).aH)=ah acc:=by
  funext k
  rw[Wq];simp only[Nat.zero_le,if_true,Nat.sub_zero,ah]
  cases acc[k]? with
  | none=>rfl
  | some x=>obtain⟨o,b⟩:=x;rfl
 have hex:∀(k b:Nat),aι ι acc k=some b->∃ id off B,acc[k]? = some (some (id,off),B)/\ι id=some b:=by
  intro k b hk;simp only[aι]at hk
  cases hx:acc[k]? with
  | none=>rw[hx]at hk;cases hk
  | some x =>
   obtain⟨o,B⟩:=x;rw[hx]at hk
   cases o with
   | none=>cases hk
   | some id=>exact⟨id.1,id.2,B,rfl,hk⟩
 have Ws:∀(b k:Nat)(p:cM),(aι ι acc).k b=some (k,p)->∃ y a c q off B,ι.k b=some (y,(a,c)::q)/\acc[k]? = some (some (y,off),B)/\off<=a/\p=(a-off,c)::q:=by
  intro b k p hk;simp only[aι]at hk
  cases hx:ι.k b with
  | none=>rw[hx]at hk;cases hk
  | some x =>
   obtain⟨y,p0⟩:=x;rw[hx]at hk
   cases p0 with
   | nil=>cases hk
   | cons ac q =>
    obtain⟨a,c⟩:=ac;simp only at hk
    cases hy:YL acc y with
    | none=>rw[hy]at hk;cases hk
    | some k' =>
     rw[hy]at hk;obtain⟨off,B,hB⟩:=vO hy;simp only[hB]at hk
     split at hk
     ·rename_i hle;simp only[Option.some.injEq,Prod.mk.injEq]at hk;obtain⟨rfl,rfl⟩:=hk;exact⟨y,a,c,q,off,B,rfl,hB,hle,rfl⟩
     ·cases hk
 have hF:∀ b,F b->Fz C w (aι ι acc) (ah acc) b:=by
  intro b ⟨q1,q2,q3,q4⟩;refine⟨q1,q2,λk hk=>?_,?_⟩
  ·obtain⟨id,off,B,h1,h2⟩:=hex k b hk;have h3:=q3 id h2;have hg:=g2.ky k _ h1;simp only[ah,h1]
   cases B with
   | none=>rfl
   | dead=>rfl
   | box cs=>obtain⟨gL,e,_⟩:=hg;have h3:((h id).aH).own=false:=h3;rw[e]at h3;cases h3
   | sl e ts m es =>
    obtain⟨n8,m0,len,⟨_,e,_⟩,_,hg⟩:=hg;have h3:((h id).aH).own=false:=h3;rw[e,aG.bM]at h3;rw[aG.bM];exact hg.own.trans h3
  ·cases hk:(aι ι acc).k b with
   | none=>rfl
   | some x=>obtain⟨y,a,c,q,off,B,h1,_⟩:=Ws b x.1 x.2 hk;rw[q4]at h1;cases h1
 have key:Sat C (λi=>acc.length<=i) ⟨λs=>(cR (JR nl h T L (Z8 h nl)).1 s).aH,ah acc,acc.length⟩ a w (aι ι acc):=by
  refine⟨S1.dR,λs=>?_,S1.size,S1.defers,λk=>?_,λi j b hi hj=>?_,λi b hi=>?_,λi hi=>?_,λi b hi=>?_,λi b hi=>?_,λi x hi=>?_,λb k p hk=>?_⟩
  ·exact g3 s acc _ (List.prefix_refl _) hF _ (S1.bz s)
  ·show BR w (Fz C w (aι ι acc) (ah acc)) (aι ι acc) (ah acc) k (ah acc k)
   cases hx:acc[k]? with
   | none=>simp only[ah,hx];exact .none
   | some x =>
    obtain⟨o,B⟩:=x;have hg:=g2.ky k _ hx;obtain⟨ha,hi,ho⟩:=vP (ι:=ι) (List.prefix_refl acc) hx;rw[ha]
    cases o with
    | none =>
     cases B with
     | none=>exact .none
     | dead=>exact .dead
     | box cs=>exact hg.elim
     | sl e ts m es =>
      obtain⟨e1,e2⟩:=hg;subst e1;rw[aG.bM];exact .slnil e ts.length m e2 hi
    | some id =>
     obtain⟨id,off⟩:=id;have hi:aι ι acc k=ι id:=hi;have hb:=S1.fH id
     cases B with
     | none=>exact hg.elim
     | dead=>exact hg.elim
     | box cs =>
      obtain⟨gL,e1,e2,e3⟩:=hg;have hb:BR w F ι (λi=>(h i).aH) id ((h id).aH):=hb;rw[e1]at hb
      cases hb with
      | box b e bz _ q1 qo q2 q3 q4 q5 =>
       refine .box b e bz _ (hi.trans q1) (by rw[ho];simp only[m8,KE,Nat.add_zero];exact qo) q2 (by simpa[e2]using q3) q4 (λj v y hj hy=>?_);simp only[List.getElem?_map,Option.map_eq_some_iff]at hy;obtain⟨y0,zc,rfl⟩:=hy;have aY:j<gL.length:=by rw[<- e2];exact(List.getElem?_eq_some_iff.1 zc).1
       exact e3 j gL[j] y0 (List.getElem?_eq_getElem aY) zc acc _ (List.prefix_refl _) hF v (q5 j v _ hj (by simp[aY]))
     | sl e ts m es =>
      obtain⟨n8,m0,len,⟨e9,e1,CQ⟩,e2,tq⟩:=hg;have rj:=hx;have hb:BR w F ι (λi=>(h i).aH) id ((h id).aH):=hb;rw[e1]at hb;have ho:es≠[]->(aι ι acc).o k=ι.o id+off*ts.length:=λdk=>by rw[ho];simp only[m8,Wl dk]
      have fp:es=[]->(aι ι acc).o k=ι.o id:=λdk=>by subst dk;rw[(vP (ι:=ι) (List.prefix_refl acc) hx).2.2];simp only[m8,Q0F,Nat.add_zero]
      simp only[aG.bM]at hb ⊢;have het:es.map (a9 ts)=((n8.map (a9 ts)).drop off).take len:=by rw[e2,List.map_take,List.map_drop]
      have CU:es=[]↔es.map (a9 ts)=[]:=by simp
      generalize es.map (a9 ts)=bZ at het CU ⊢;generalize n8.map (a9 ts)=fk at hb het
      cases hb with
      | slnil _ _ _ q1 q2=>simp only[List.drop_nil,List.take_nil]at het;subst het;exact .slnil e ts.length m q1 (hi.trans q2)
      | sl b _ e0 _ _ _ cur q1 q2 q3 q4 q5 q6 q7 q8 =>
       have zf:bZ.length<=fk.length:=by rw[het];simp;omega
       refine .sl b e e0 ts.length m _ cur q1 (hi.trans q2) q3 (λht=>?_) ?_ (Nat.le_trans zf q6) (λx hx=>?_) (λi j x d hx hd=>?_)
       ·obtain⟨t1,t2⟩:=tq.fw ht;obtain⟨r1,r2,Cc,r3,r4,r5⟩:=q4 t1;refine⟨r1.trans (CQ ht),?_,Cc,r3,by omega,r5⟩;by_cases dk:es=[]
        ·rw[fp dk,r2]
        ·rw[ho dk,r2,t2];simp
       ·by_cases dk:es=[]
        ·rw[fp dk,CU.1 dk];simp only[List.length_nil,Nat.zero_mul];exact Nat.le_trans (Nat.le_add_right _ _) q5
        ·rw[ho dk];have:off+bZ.length<=fk.length:=by
          have:bZ≠[]:=λh=>dk (CU.2 h);have h3:0<bZ.length:=List.length_pos_iff.2 this;rw[het]at h3 ⊢;simp at h3 ⊢;omega
         have:=Nat.mul_le_mul_right ts.length this;rw[Nat.add_mul]at this;omega
       ·rw[het]at hx;exact q7 x (List.mem_of_mem_drop (List.mem_of_mem_take hx))
       ·have dk:es≠[]:=λh=>by rw[CU.1 h]at hx;simp at hx
        rw[ho dk];rw[het,List.getElem?_take]at hx
        split at hx
        rotate_left
        ·cases hx
        rw[List.getElem?_drop]at hx;obtain⟨v,r1,r2⟩:=q8 (off+i) j x d hx hd;refine⟨v,by rw[<- r1];congr 1;rw[Nat.add_mul];omega,?_⟩
        rcases tq with⟨rfl,j3,rfl⟩ | ⟨g,t,HH,t',rfl,rfl,_,qN⟩
        ·cases m0 with
         | dp=>cases j3
         | ow=>exact Rd.mono (λb hb=>⟨hF b hb,rfl⟩) r2
         | fz=>exact Rd.mono (λb hb=>⟨hF b hb,rfl⟩) r2
        ·refine⟨r2.1,λ_=>?_⟩;have r3:=r2.2 (λhm=>by have:=qN _ hm;simp only at this;omega);refine r3.map [(i,j)] (λb q hk=>⟨?_,rfl⟩);simp only[List.singleton_append]at hk;simp only[aι,hk,QYP g2 rj,rj];simp
  ·obtain⟨id,o1,B,h1,h2⟩:=hex i b hi;obtain⟨cn,o2,B',h3,h4⟩:=hex j b hj;have:=S1.inj id cn b h2 h4;subst this;exact g2.nodup i j id o1 o2 B B' h1 h3
  ·obtain⟨id,o1,B,h1,h2⟩:=hex i b hi;obtain⟨r1,r2⟩:=S1.eL id b h2;refine⟨r1.imp (λx=>x) λ⟨r3,cs,r4⟩=>⟨r3,?_⟩,r2⟩;have r4:(h id).aH = .box cs:=r4;have hg:=g2.ky i _ h1
   cases B with
   | none=>exact hg.elim
   | dead=>exact hg.elim
   | box cs'=>exact⟨cs'.map TV.aW,by simp only[ah,h1];rfl⟩
   | sl e ts m es=>obtain⟨n8,m0,len,⟨_,e1,_⟩,_⟩:=hg;rw[e1]at r4;cases r4
  ·have:acc[i]? = none:=List.getElem?_eq_none hi;simp only[ah,aι,this,Option.bind_none,and_self]
  ·obtain⟨id,o1,B,h1,h2⟩:=hex i b hi;have hg:=g2.ky i _ h1;simp only[ah,h1]
   cases B with
   | none=>exact hg.elim
   | dead=>exact hg.elim
   | box cs'=>simp[aG.aH]
   | sl e ts m es=>simp[aG.aH]
  ·obtain⟨r1,⟨cs,r2⟩,r3⟩:=S1.cp i b hi;have r2:(h i).aH = .box cs:=r2;have aY:=hL i b hi;have tI:∀ n,i<n->∃ cs',(Z8 h n)[i]? = some (some (i,0),.box cs'):=by
    intro n
    induction n with
    | zero=>intro hn;omega
    | succ n ih =>
     intro hn;simp only[Z8];rw[List.getElem?_append];by_cases eS:i<n
     ·rw[if_pos (by rw[mh];exact eS)];exact ih eS
     ·have:i=n:=by omega
      subst this;rw[if_neg (by rw[mh];omega),mh]
      cases hq:h i with
      | box gL=>simp
      | none=>rw[hq]at r2;cases r2
      | dead=>rw[hq]at r2;cases r2
      | sl e ts m es=>rw[hq]at r2;cases r2
   obtain⟨cs',h1⟩:=tI nl aY;obtain⟨rr,vC⟩:=g1;have h2:acc[i]? = some (some (i,0),.box cs'):=by
    rw[<- vC,List.getElem?_append_left (List.getElem?_eq_some_iff.1 h1).1];exact h1
   exact⟨by simp only[aι,h2,Option.bind_some];exact r1,⟨cs'.map TV.aW,by simp only[ah,h2];rfl⟩,r3⟩
  ·have aY:=hO i _ hi;obtain⟨rr,vC⟩:=g1;have eS:∀ x,(Z8 h nl)[i]? = some x->acc[i]? = some x:=λx hx=>by
    rw[<- vC,List.getElem?_append_left (List.getElem?_eq_some_iff.1 hx).1];exact hx
   have fm:(h i = .dead\/∃ e ts m es,h i = .sl e ts m es/\m.full=false)->ah acc i = .dead:=λhq=>by
    simp only[ah,eS _ (ze nl i aY hq)];rfl
   rcases S1.hand i x hi with r1 | ⟨r1,rb,r2,r3⟩
   ·left;have r1:(h i).aH = .dead:=r1;have:h i = .dead:=by cases hq:h i <;> rw[hq]at r1 <;> first | rfl | cases r1
    exact fm (.inl this)
   ·have r2:YP x.B (h i).aH:=r2
    cases hq:h i with
    | none=>rw[hq]at r2;cases hB:x.B <;> rw[hB]at r2 <;> exact r2.elim
    | dead=>exact .inl (fm (.inl hq))
    | sl e ts m es =>
     cases oq:m.full with
     | false=>exact .inl (fm (.inr ⟨e,ts,m,es,hq,oq⟩))
     | true =>
      right;have hx:=eS _ (ea nl i e ts m es aY hq oq);obtain⟨z1,z2,z3⟩:=vP (ι:=ι) (List.prefix_refl acc) hx;refine⟨z2.trans r1,by rw[z3];simp only[m8,Wm,Nat.add_zero];exact rb,?_,r3⟩;show YP x.B (ah acc i);rw[z1];rw[hq,aG.bM]at r2;rw[aG.bM]
      cases hB:x.B with
      | sl e' bt m' bZ =>
       rw[hB]at r2;refine⟨r2.1,r2.2.1,r2.2.2.1,λht=>r2.2.2.2.1 ((m9.rs oq).fw ht).1,λhg=>r2.2.2.2.2 ?_⟩
       cases m <;> first | rfl | exact hg
      | _=>rw[hB]at r2;exact r2.elim
    | box cs=>exact absurd hq (lv i x hi cs)
  ·obtain⟨y,a',c,q,off,B,h1,h2,h3,h4⟩:=Ws b k p hk;have l:=S1.dA b y _ h1;refine⟨by rw[h4];simp,?_,l.fr,l.lt,λi hi=>?_⟩
   ·obtain⟨e,sz,g,t',HH,es,hd⟩:=l.dp;have hd:(h y).aH = .sl e sz (.dp g t' HH) es:=hd;have hg:=g2.ky k _ h2;show ∃ e sz g t H es,ah acc k = .sl e sz (.dp g t H) es
    cases B with
    | none=>exact hg.elim
    | dead=>exact hg.elim
    | box cs'=>obtain⟨gL,e1,_⟩:=hg;rw[e1]at hd;cases hd
    | sl e2 ts m gQ =>
     obtain⟨n8,m0,len,⟨_,e1,_⟩,_,tq⟩:=hg;rw[e1,aG.bM]at hd;injection hd with _ _ d3 _
     rcases tq with⟨rfl,j3,_⟩ | ⟨g',t2,H2,t3,r1,r2,_⟩
     ·rw[d3]at j3;cases j3
     ·exact⟨e2,ts.length,0,t3,[],gQ.map (a9 ts),by simp only[ah,h2,aG.bM,r2]⟩
   ·obtain⟨id,o1,B,gG,lF⟩:=hex i b hi;exact l.ne id lF
 refine⟨aι ι acc,?_⟩;have KG:cD.aH ⟨(JR nl h T L (Z8 h nl)).1,rf 0 acc,acc.length⟩=⟨λs=>(cR (JR nl h T L (Z8 h nl)).1 s).aH,ah acc,acc.length⟩:=by
  unfold cD.aH cD.T cD.H;rw[<- hah]
 rw[KG];exact key
end
end Go.Proofs.YtdplaepmjogjjaaGreat.Am
namespace Go.Proofs.YtdplaepmjogjjaaGreat.Am
open Go Go.RowKit
inductive af where
 | skip
 | ae (ss:List bI)
 | draw (ss:List bI) (U:List (Nat × Nat))
 | seq (x y:af)
 | cond (c:bJ) (x y:af)
 | block (id:Nat) (x:af)
 | loop (L:List (Nat × Md)) (x:af)
 | exit (id:Nat)
 | ret
 | wk (L:List (Nat × Md)) (x:af)
 | cv (s k:Nat) (x:af)
def af.er:af->eU
 | .skip=>.skip
 | .ae ss=>.ae (iU none 0 ss)
 | .draw ss U=>.draw (iU none 0 ss) U
 | .seq x y=>.seq x.er y.er
 | .cond c x y=>.cond c.er x.er y.er
 | .block id x=>.block id x.er
 | .loop _ x=>.loop x.er
 | .exit id=>.exit id
 | .ret=>.ret
 | .wk _ x=>x.er
 | .cv _ _ x=>x.er
def CV(F:(cD->Prop)->cD->Prop)(σ:cD):Prop:=∀ J:cD->Prop,(∀ s,F J s->J s)->J σ
abbrev Qb:=nS->cD->Prop
def ba(next:cD->Prop)(Q:Qb):Qb:=λe σ=>match e with
 | .normal=>next σ
 | e=>Q e σ
def bf(id:Nat)(Q:Qb):Qb:=λe σ=>match e with
 | .exit cn=>bif Nat.beq cn id then Q .normal σ else Q (.exit cn) σ
 | e=>Q e σ
def cD.dN(σ:cD)(n:Nat):cD:=⟨σ.t,σ.h,σ.nx+n⟩
def CW(H:Nat->aG)(nx:Nat):TV->Option (Prop × TV × List (Nat × aG))
 | .bs _ _ id g [(i,j)]=>match H id with
  | .sl e kz (.dp g0 t []) es=>match Nat.beq g g0,(aV.cells kz (gt kz es i))[j]? with
   | true,some (.c (.sl (t1::ts)) l)=>some (i<es.length,.r (t1::ts) nx 0 l.length,[(id,.sl e kz (.dp (g0+1) t [(i,j)]) es),(nx,.sl 0 (t1::ts) (.dp 0 false []) l)])
   | _,_=>none
  | _=>none
 | _=>none
def KH(s k:Nat)(σ:cD):Option (Prop × cD):=match σ.T s with
 | .a cs=>match cs[k]? with
  | some c=>match CW σ.H σ.nx c with
   | some (p,y,l)=>some (p,⟨(s,.a (cs.set k y))::σ.t,l++σ.h,σ.nx+1⟩)
   | none=>none
  | none=>none
 | .p id 0 0=>match σ.H id with
  | .box cs=>match cs[k]? with
   | some c=>match CW σ.H σ.nx c with
    | some (p,y,l)=>some (p,⟨σ.t,(id,.box (cs.set k y))::(l++σ.h),σ.nx+1⟩)
    | none=>none
   | none=>none
  | _=>none
 | _=>none
def aU(Γ:aN)(nl:Nat):af->Qb->cD->Prop
 | .skip,Q,σ=>Q .normal σ
 | .ae ss,Q,σ=>match iQ Γ 0 ss σ with
  | some (p,σ',_)=>pJ p (Q .normal (σ'.dN (16*di ss)))
  | none=>False
 | .draw ss U,Q,σ=>match iQ Γ 0 ss σ with
  | some (p,σ',l)=>match u3 l U with
   | true=>pJ p (Q .normal (σ'.dN (16*di ss)))
   | false=>False
  | none=>False
 | .seq x y,Q,σ=>aU Γ nl x (ba (aU Γ nl y Q) Q) σ
 | .cond c x y,Q,σ=>match c.ev σ.T with
  | .c .bool t=>(t=true->aU Γ nl x Q σ)/\(t=false->aU Γ nl y Q σ)
  | _=>False
 | .block id x,Q,σ=>aU Γ nl x (bf id Q) σ
 | .loop L x,Q,σ=>CV (λR s=>aU Γ nl x (ba (λs'=>R (gc nl L s')) Q) s) (gc nl L σ)
 | .exit id,Q,σ=>Q (.exit id) σ
 | .ret,Q,σ=>Q .ret σ
 | .wk L x,Q,σ=>aU Γ nl x Q (gc nl L σ)
 | .cv s k x,Q,σ=>match KH s k σ with
  | some r=>r.1/\aU Γ nl x Q r.2
  | none=>False
theorem CX{p:Option Prop}{k:Prop}:pJ p k↔holds p/\k:=by cases p <;> simp[pJ,holds]
theorem pT{Γ:aN}{nl:Nat}:∀(c:af){Q Q':Qb}{σ:cD},(∀ e s,Q e s->Q' e s)->aU Γ nl c Q σ->aU Γ nl c Q' σ
 | .skip,Q,Q',σ,h,hc=>h _ _ hc
 | .ae ss,Q,Q',σ,h,hc=>by
  simp only[aU]at hc ⊢
  split at hc
  ·rw[CX]at hc ⊢;exact⟨hc.1,h _ _ hc.2⟩
  ·exact hc
 | .draw ss U,Q,Q',σ,h,hc=>by
  simp only[aU]at hc ⊢
  split at hc
  ·split at hc
   ·rw[CX]at hc ⊢;exact⟨hc.1,h _ _ hc.2⟩
   ·exact hc
  ·exact hc
 | .seq x y,Q,Q',σ,h,hc=>by
  simp only[aU]at hc ⊢;refine pT x (λe s hq=>?_) hc
  cases e with
  | normal=>exact pT y h hq
  | exit id=>exact h _ _ hq
  | ret=>exact h _ _ hq
 | .cond c x y,Q,Q',σ,h,hc=>by
  simp only[aU]at hc ⊢
  split at hc
  ·exact⟨λe=>pT x h (hc.1 e),λe=>pT y h (hc.2 e)⟩
  ·exact hc
 | .block id x,Q,Q',σ,h,hc=>by
  simp only[aU]at hc ⊢;refine pT x (λe s hq=>?_) hc
  cases e with
  | normal=>exact h _ _ hq
  | exit cn =>
   simp only[bf]at hq ⊢
   cases hb:Nat.beq cn id with
   | true=>rw[hb]at hq;exact h _ _ hq
   | false=>rw[hb]at hq;exact h _ _ hq
  | ret=>exact h _ _ hq
 | .loop L x,Q,Q',σ,h,hc=>by
  simp only[aU]at hc ⊢;intro J hJ;refine hc J (λs hs=>hJ s (pT x (λe s hq=>?_) hs))
  cases e with
  | normal=>exact hq
  | exit id=>exact h _ _ hq
  | ret=>exact h _ _ hq
 | .exit id,Q,Q',σ,h,hc=>h _ _ hc
 | .ret,Q,Q',σ,h,hc=>h _ _ hc
 | .wk L x,Q,Q',σ,h,hc=>by
  simp only[aU]at hc ⊢;exact pT x h hc
 | .cv s k x,Q,Q',σ,h,hc=>by
  simp only[aU]at hc ⊢
  split at hc
  ·exact⟨hc.1,pT x h hc.2⟩
  ·exact hc
theorem Q4d{Γ:aN}{nl:Nat}{L:List (Nat × Md)}{x:af}{Q:Qb}{s:cD}
  (h:aU Γ nl x (ba (λs'=>CV (λR s=>aU Γ nl x (ba (λs'=>R (gc nl L s')) Q) s) (gc nl L s')) Q) s) :
  CV (λR s=>aU Γ nl x (ba (λs'=>R (gc nl L s')) Q) s) s:=by
 intro J hJ;refine hJ s (pT x (λe s hq=>?_) h)
 cases e with
 | normal=>exact hq J hJ
 | exit id=>exact hq
 | ret=>exact hq
mutual
theorem Q33(g:Option (Nat × Bool)):∀(x:bI)(i:Nat),(x.er g i).length=x.len
 | .op d o,i=>rfl
 | .bj s w ss d x,i=>by simp[bI.er,bI.len,zg (some (s,w)) ss i]
 | .gw s w ss d2 o d x,i=>by simp[bI.er,bI.len,zg (some (s,w)) ss i]
theorem zg(g:Option (Nat × Bool)):∀(ss:List bI)(i:Nat),(iU g i ss).length=di ss
 | [],i=>rfl
 | x::xs,i=>by simp[iU,di,Q33 g x i,zg g xs (i+x.len)]
end
theorem QMs{P:Program}{N:Nat}{c:Code}{x y:eU}(h:comp P N c=some (.seq x y)):∃ c1 c2,c = .seq c1 c2/\comp P N c1=some x/\comp P N c2=some y:=by
 cases c with
 | seq c1 c2 =>
  simp only[comp]at h
  split at h
  ·rename_i h1 h2;cases h;exact⟨c1,c2,rfl,h1,h2⟩
  ·cases h
 | region id ops draw =>
  simp only[comp]at h
  split at h
  ·split at h
   ·split at h <;> cases h
   ·cases h
  ·cases h
 | cond a b c=>simp only[comp]at h;split at h <;> cases h
 | block id c=>simp only[comp,Option.map_eq_some_iff]at h;obtain⟨_,_,h⟩:=h;cases h
 | loop c=>simp only[comp,Option.map_eq_some_iff]at h;obtain⟨_,_,h⟩:=h;cases h
 | _=>simp[comp]at h
theorem QZn{P:Program}{N:Nat}{c:Code}{b:bc}{x y:eU}(h:comp P N c=some (.cond b x y)):∃ b0 c1 c2,c = .cond b0 c1 c2/\cO P 0 b0=some b/\comp P N c1=some x/\comp P N c2=some y:=by
 cases c with
 | cond b0 c1 c2 =>
  simp only[comp]at h
  split at h
  ·rename_i h0 h1 h2;cases h;exact⟨b0,c1,c2,rfl,h0,h1,h2⟩
  ·cases h
 | region id ops draw =>
  simp only[comp]at h
  split at h
  ·split at h
   ·split at h <;> cases h
   ·cases h
  ·cases h
 | seq a b=>simp only[comp]at h;split at h <;> cases h
 | block id c=>simp only[comp,Option.map_eq_some_iff]at h;obtain⟨_,_,h⟩:=h;cases h
 | loop c=>simp only[comp,Option.map_eq_some_iff]at h;obtain⟨_,_,h⟩:=h;cases h
 | _=>simp[comp]at h
theorem QMH{P:Program}{N:Nat}{c:Code}{id:Nat}{x:eU}(h:comp P N c=some (.block id x)):∃ c1,c = .block id c1/\comp P N c1=some x:=by
 cases c with
 | block cn c1 =>
  simp only[comp,Option.map_eq_some_iff]at h;obtain⟨_,h1,h⟩:=h
  cases h;exact⟨c1,rfl,h1⟩
 | region id ops draw =>
  simp only[comp]at h
  split at h
  ·split at h
   ·split at h <;> cases h
   ·cases h
  ·cases h
 | seq a b=>simp only[comp]at h;split at h <;> cases h
 | cond a b c=>simp only[comp]at h;split at h <;> cases h
 | loop c=>simp only[comp,Option.map_eq_some_iff]at h;obtain⟨_,_,h⟩:=h;cases h
 | _=>simp[comp]at h
theorem QRJ{P:Program}{N:Nat}{c:Code}{x:eU}(h:comp P N c=some (.loop x)):∃ c1,c = .loop c1/\comp P N c1=some x:=by
 cases c with
 | loop c1 =>
  simp only[comp,Option.map_eq_some_iff]at h;obtain⟨_,h1,h⟩:=h
  cases h;exact⟨c1,rfl,h1⟩
 | region id ops draw =>
  simp only[comp]at h
  split at h
  ·split at h
   ·split at h <;> cases h
   ·cases h
  ·cases h
 | seq a b=>simp only[comp]at h;split at h <;> cases h
 | cond a b c=>simp only[comp]at h;split at h <;> cases h
 | block id c=>simp only[comp,Option.map_eq_some_iff]at h;obtain⟨_,_,h⟩:=h;cases h
 | _=>simp[comp]at h
def QZh(C:Ctx)(Qa:Qb)(Q:Exit->Act->World->Prop):Prop:=∀ e σ a w,Qa e σ->fx C σ.aH a w->Q e.up a w
theorem QWo{C:Ctx}{U:Nat->Prop}{σ:cD}{a:Act}{w:World}{ι:Io}(S:Sat C U σ.aH a w ι){x:Operand}{x':bJ}{ty:TypeId}(hx:cO C.P ty x=some x'.er){b:Bool}(hv:x'.ev σ.T = .c .bool b):a.eval x = .bool b :=
 Vq S hx (by show x'.er.ev (λs=>(σ.T s).aH)=_;rw[ZP,hv];rfl)
section
variable {C:Ctx} {Γ:aN} {ΓA:eR} {nl:Nat}
structure Kept(C:Ctx)(nl:Nat):Prop where
 l:∀ i b,C.L i=some b->i<nl
 o:∀ i o,C.O i=some o->i<nl
 b:∀ i x cs,C.O i=some x->x.B≠.box cs
theorem CY{σ:cD}{a:Act}{w:World}{L:List (Nat × Md)}(hL:Kept C nl)(S:fx C σ.aH a w):fx C (gc nl L σ).aH a w:=by
 obtain⟨ι,S⟩:=S;exact QYF S hL.l hL.o hL.b
theorem Q4g{ts:List CT}{x:aV ts}{j:Nat}{t:CT}{d:t.den}(h:(aV.cells ts x)[j]? = some (.c t d)):(a9 ts x)[j]? = some (enc t d):=by
 have h1:((aV.cells ts x).map TV.aW)[j]? = some (.c (enc t d)):=by rw[List.getElem?_map,h];rfl
 rw[q9,List.getElem?_map,Option.map_eq_some_iff]at h1;obtain⟨y,h1,h2⟩:=h1
 cases h2;exact h1
theorem Wt{σ:cD}{U:Nat->Prop}{a:Act}{w:World}{ι:Io}{c y:TV}{p:Prop}{l:List (Nat × aG)}{v:Value}(hr:CW σ.H σ.nx c=some (p,y,l))(hp:p)(S:Sat C (λi=>σ.nx<=i) σ.aH a w ι)(hv:VR w (Fz C w ι σ.aH.h) ι σ.aH.h v c.aW) :
  ∃ ι',Sat C (λi=>σ.nx+1<=i) ⟨σ.aH.t,λx=>(dK (l++σ.h) x).aH,σ.nx⟩ a w ι'/\VR w (Fz C w ι' λx=>(dK (l++σ.h) x).aH) ι' (λx=>(dK (l++σ.h) x).aH) v y.aW/\
   (∀ b,Fz C w ι σ.aH.h b->Fz C w ι' (λx=>(dK (l++σ.h) x).aH) b)/\(∀ x,dn w w ι ι' σ.aH.h (λx=>(dK (l++σ.h) x).aH) x)/\∀ id cs,σ.aH.h id = .box cs->(dK (l++σ.h) id).aH = .box cs:=by
 unfold CW at hr
 split at hr <;> try cases hr
 rename_i cl l' id g i j
 split at hr <;> try cases hr
 rename_i e kz g0 t es bp
 split at hr <;> try cases hr
 rename_i t1 ts l hg hc;have hg:=Nat.eq_of_beq_eq_true hg;subst hg;have pU:σ.aH.h id = .sl e kz.length (.dp g t []) (es.map (a9 kz)):=by show(σ.H id).aH=_;rw[bp,aG.bM]
 have dD:∃ bk cur e0,ι id=some bk/\w.heap[bk]? = some (.cells cur e0 (0,0))/\cur[ι.o id+i*kz.length+j]? = some v:=by
  simp only[TV.aW]at hv
  cases hv with
  | fN _ _ _ _ _ q1 q2=>rw[pU]at q2;cases q2
  | b _ _ _ _ _ e' sz m bZ q1 q2 q3 q4 =>
   rw[pU]at q2;injection q2 with r1 r2 r3 r4;subst r2;subst r3;exact(q4 rfl).2 i j rfl
 have hx:(es.map (a9 kz))[i]? = some (a9 kz (gt kz es i)):=by
  rw[List.getElem?_map,List.getElem?_eq_getElem hp];simp[gt,List.getD,List.getElem?_eq_getElem hp]
 have pg:=Q4g hc;simp only[enc]at pg;obtain⟨fR,_⟩:=S.fresh σ.nx (Nat.le_refl _);obtain⟨ι',S',lL,_,_,hF,jE⟩:=S.cU (U':=λi=>σ.nx+1<=i) (n:=σ.nx) pU hx pg (by simp) (Nat.le_refl _) (λi hi=>⟨Nat.le_of_succ_le hi,λh=>by subst h;exact absurd hi (Nat.not_succ_le_self _)⟩) dD;have hh:(λx=>(dK ([(id,aG.sl e kz (.dp (g+1) t [(i,j)]) es),(σ.nx,.sl 0 (t1::ts) (.dp 0 false []) l)]++σ.h) x).aH) =
   bN (bN σ.aH.h σ.nx (.sl 0 (t1::ts).length (.dp 0 false []) (l.map (a9 (t1::ts))))) id (.sl e kz.length (.dp (g+1) t [(i,j)]) (es.map (a9 kz))):=by
  funext x
  simp only[List.cons_append,List.nil_append,tE,bN]
  split
  ·rw[aG.bM]
  ·split
   ·rw[aG.bM]
   ·rfl
 rw[hh];refine⟨ι',S',?_,hF,jE,λcn cs hb=>?_⟩
 ·simp only[TV.aW];rw[List.length_map]at lL;exact lL
 ·rw[congrFun hh cn];have h1:cn≠id:=λh=>by subst h;rw[pU]at hb;cases hb
  have h2:cn≠σ.nx:=λh=>by subst h;rw[fR]at hb;cases hb
  rw[QK _ _ _ _ h1,QK _ _ _ _ h2,hb]
theorem Sat.tJ{U:Nat->Prop}{σ:St}{a:Act}{w:World}{ι:Io}(S:Sat C U σ a w ι){id:Nat}{cs cs':List AV}(bp:σ.h id = .box cs)(hl:cs'.length=cs.length)
  (hy:∀(b:Nat)(e:TypeId)(bz:Array Value)(k:Nat)(v:Value)(y:AV),ι id=some b->w.heap[b]? = some (.cells bz e (0,0))->bz[k]? = some v->cs'[k]? = some y->VR w (Fz C w ι σ.h) ι σ.h v y) :
  Sat C U ⟨σ.t,bN σ.h id (.box cs'),σ.nx⟩ a w ι:=by
 have b8:∀ i,Rest w w ι ι i:=λi=>⟨rfl,rfl,λ_ _=>rfl,λb p hk=>⟨hk,rfl⟩⟩
 have hF:∀ b,Fz C w ι σ.h b->Fz C w ι (bN σ.h id (.box cs')) b/\w.heap[b]? = w.heap[b]?:=λb ⟨h1,h2,h3,h4⟩=>⟨⟨h1,h2,λi hi=>by
  by_cases h:i=id
  ·subst h;have:=h3 i hi;rw[bp]at this
   cases this
  ·rw[QK _ _ _ _ h];exact h3 i hi,h4⟩,rfl⟩
 have hg:∀ i,dn w w ι ι σ.h (bN σ.h id (.box cs')) i:=λi=>by
  by_cases h:i=id
  ·subst h;unfold dn;right;right;rw[QQ,bp];exact⟨rfl,rfl,hl,λ_ _=>rfl,λg h1=>by cases h1⟩
  ·exact(b8 i).il (QK _ _ _ _ h)
 refine S.eM S.dR hF hg (λi gL hx=>?_) (λi=>?_) S.inj (λi b hi=>?_) (λi hi=>?_) (λi b hi=>?_) (λb i p hk=>?_)
 ·by_cases h:i=id
  ·subst h;rw[QQ];simp
  ·rw[QK _ _ _ _ h,hx];simp
 ·by_cases h:i=id
  ·subst h;right;rw[QQ];have hb:=S.fH i;rw[bp]at hb
   cases hb with
   | box b e bz _ q1 qo q2 q3 q4 q5 =>
    exact .box b e bz _ q1 qo q2 (q3.trans hl.symm) q4 (λk v y hk xM=>(hy b e bz k v y q1 q2 hk xM).mono hF hg)
  ·exact .inl ⟨QK _ _ _ _ h,b8 i⟩
 ·obtain⟨h1,h2⟩:=S.eL i b hi;refine⟨h1.imp (λx=>x) λ⟨h3,gL,h4⟩=>⟨h3,?_⟩,h2⟩;by_cases h:i=id
  ·subst h;rw[QQ];exact⟨_,rfl⟩
  ·rw[QK _ _ _ _ h];exact⟨gL,h4⟩
 ·obtain⟨h1,h2⟩:=S.fresh i hi;have:i≠id:=λe=>by subst e;rw[bp]at h1;cases h1
  rw[QK _ _ _ _ this];exact⟨h1,h2⟩
 ·by_cases h:i=id
  ·subst h;rw[QQ];simp
  ·rw[QK _ _ _ _ h];exact S.live i b hi
 ·have L:=S.dA b i p hk;refine⟨L.pn,?_,L.fr,L.lt,L.ne⟩;obtain⟨e,sz,g,t,H,es,hd⟩:=L.dp;have:i≠id:=λe=>by subst e;rw[bp]at hd;cases hd
  rw[QK _ _ _ _ this];exact⟨e,sz,g,t,H,es,hd⟩
theorem QUQ{σ:cD}{a:Act}{w:World}{s k:Nat}{r:Prop × cD}(hr:KH s k σ=some r)(hp:r.1)(S:fx C σ.aH a w):fx C r.2.aH a w:=by
 obtain⟨ι,S⟩:=S;unfold KH at hr
 split at hr
 ·rename_i cs hs
  split at hr <;> try cases hr
  rename_i c hk
  split at hr <;> try cases hr
  rename_i p y l hc;have hp:p:=hp;have hv:=S.bz s;have hsA:σ.aH.t s = .a (cs.map TV.aW):=by show(σ.T s).aH=_;rw[hs];rfl
  rw[hsA]at hv;generalize iA:a.tmps.getD s undef=val at hv
  cases hv with
  | a vs _ hl h1 hv =>
   have aY:k<cs.length:=(List.getElem?_eq_some_iff.1 hk).1;have KI:k<vs.size:=by rw[hl,List.length_map];exact aY
   have sF:vs[k]? = some vs[k]:=by simp[KI]
   have hb:=hv k vs[k] c.aW sF (by rw[List.getElem?_map,hk];rfl);obtain⟨ι',S',lL,hF,jE,_⟩:=Wt (U:=λ_=>True) hc hp S hb;refine⟨ι',S'.dR,λs'=>?_,S'.size,S'.defers,S'.fH,S'.inj,S'.eL,S'.fresh,S'.live,S'.cp,S'.hand,S'.dA⟩;show VR _ _ _ _ _ (cR ((s,.a (cs.set k y))::σ.t) s').aH;rw[JW];by_cases vR:s'=s
   ·subst vR;rw[QQ,iA];refine .a vs _ (by simp only[List.length_map,List.length_set];simpa using hl) h1 (λk' v z eQ hz=>?_);rw[List.getElem?_map,List.getElem?_set]at hz;by_cases fJ:k=k'
    ·subst fJ;rw[if_pos rfl,if_pos aY]at hz;rw[sF]at eQ
     cases eQ;cases hz;exact lL
    ·rw[if_neg fJ,<- List.getElem?_map]at hz;exact(hv k' v z eQ hz).mono (λb hb=>⟨hF b hb,rfl⟩) jE
   ·rw[QK _ _ _ _ vR];exact S'.bz s'
 ·rename_i kX hs
  split at hr <;> try cases hr
  rename_i cs hb
  split at hr <;> try cases hr
  rename_i c hk
  split at hr <;> try cases hr
  rename_i p y l hc;have hp:p:=hp;have KJ:σ.aH.h kX = .box (cs.map TV.aW):=by show(σ.H kX).aH=_;rw[hb];rfl
  have aY:k<cs.length:=(List.getElem?_eq_some_iff.1 hk).1;have hB:=S.fH kX;rw[KJ]at hB
  cases hB with
  | box b e bz _ q1 qo q2 q3 q4 q5 =>
   have KI:k<bz.size:=by rw[q3,List.length_map];exact aY
   have sF:bz[k]? = some bz[k]:=by simp[KI]
   have hbv:=q5 k bz[k] c.aW sF (by rw[List.getElem?_map,hk];rfl);obtain⟨ι',S',lL,hF,jE,KK⟩:=Wt (U:=λ_=>True) hc hp S hbv;have fY:=KK kX _ KJ;have CZ:=S'.fH kX;have CZ:BR w (Fz C w ι' λx=>(dK (l++σ.h) x).aH) ι' (λx=>(dK (l++σ.h) x).aH) kX ((dK (l++σ.h) kX).aH):=CZ;rw[fY]at CZ;have S2:=Sat.tJ S' (id:=kX) (cs:=cs.map TV.aW) (cs':=(cs.set k y).map TV.aW) fY (by simp) (λb' e' Wu k' v z hi ec tK hz=>by
    cases CZ with
    | box b2 e2 Wv _ r1 ro r2 r3 r4 r5 =>
     rw[r1]at hi;cases hi;rw[r2]at ec;cases ec;rw[List.getElem?_map,List.getElem?_set]at hz;by_cases fJ:k=k'
     ·subst fJ;rw[if_pos rfl,if_pos aY]at hz
      cases hz;have db:v=bz[k]:=by
       rcases jE kX with g | g | ⟨g1,_,_,_,_⟩
       ·rw[KJ]at g;cases g
       ·have g:(dK (l++σ.h) kX).aH = .dead:=g;rw[fY]at g;cases g
       ·rw[r1,q1]at g1
        cases g1;rw[q2]at r2
        cases r2;rw[sF]at tK;exact(Option.some.inj tK).symm
      rw[db];exact lL
     ·rw[if_neg fJ,<- List.getElem?_map]at hz;exact r5 k' v z tK hz)
   have KL:(λx=>(dK ((kX,aG.box (cs.set k y))::(l++σ.h)) x).aH)=bN (λx=>(dK (l++σ.h) x).aH) kX (.box ((cs.set k y).map TV.aW)):=by
    funext x
    simp only[tE,bN]
    split
    ·rfl
    ·rfl
   refine⟨ι',?_⟩;have:(cD.aH ⟨σ.t,(kX,.box (cs.set k y))::(l++σ.h),σ.nx+1⟩)=⟨σ.aH.t,bN (λx=>(dK (l++σ.h) x).aH) kX (.box ((cs.set k y).map TV.aW)),σ.nx+1⟩:=by
    rw[<- KL];rfl
   rw[this];exact S2.nx
 ·cases hr
theorem Q0A(hm:C.P.follows .mixedOrders=true)(hT:jh Γ ΓA)(hΓ:oc C.P ΓA)(hL:Kept C nl):∀(tc:af)(c:Code)(Qa:Qb)(Q:Exit->Act->World->Prop)(σ:cD)(a:Act)(w:World),comp C.P C.N c=some tc.er->
  aU Γ nl tc Qa σ->fx C σ.aH a w->QZh C Qa Q->c.wp C.P Q a w:=by
 intro tc
 induction tc with
 | skip =>
  intro c Qa Q σ a w hc h S hQ;refine yB hm hΓ c .skip (λe τ=>e = .normal/\τ=σ.aH) Q σ.aH a w hc ⟨rfl,rfl⟩ S ?_;rintro e τ a' w' ⟨rfl,rfl⟩ S'
  exact hQ .normal σ a' w' h S'
 | ae ss =>
  intro c Qa Q σ a w hc h S hQ;simp only[aU]at h
  split at h
  rotate_left
  ·exact h.elim
  rename_i p σ' l hr;rw[CX]at h;obtain⟨l',h1,_⟩:=y6 hT ss hr h.1;have hlen:(iU none 0 ss).length=di ss:=zg none ss 0;refine yB hm hΓ c _ (λe τ=>e = .normal/\τ=(σ'.dN (16*di ss)).aH) Q σ.aH a w hc ?_ S ?_
  ·show ir ΓA (iU none 0 ss) (λs=>nS.normal=nS.normal/\s.dN (16*(iU none 0 ss).length)=_) σ.aH;exact Wk _ h1 ⟨rfl,by rw[hlen];rfl⟩
  ·rintro e τ a' w' ⟨rfl,rfl⟩ S'
   exact hQ .normal _ a' w' h.2 S'
 | draw ss U =>
  intro c Qa Q σ a w hc h S hQ;simp only[aU]at h
  split at h
  rotate_left
  ·exact h.elim
  rename_i p σ' l hr
  split at h
  rotate_left
  ·exact h.elim
  rename_i fK;rw[CX]at h;obtain⟨l',h1,h2⟩:=y6 hT ss hr h.1;have hlen:(iU none 0 ss).length=di ss:=zg none ss 0;refine yB hm hΓ c _ (λe τ=>e = .normal/\τ=(σ'.dN (16*di ss)).aH) Q σ.aH a w hc ?_ S ?_
  ·simp only[af.er,lk,h1];exact⟨QRb h2 fK,trivial,by rw[hlen];rfl⟩
  ·rintro e τ a' w' ⟨rfl,rfl⟩ S'
   exact hQ .normal _ a' w' h.2 S'
 | seq x y yC ti =>
  intro c Qa Q σ a w hc h S hQ;simp only[af.er]at hc;obtain⟨c1,c2,rfl,h1,h2⟩:=QMs hc;simp only[aU]at h;refine wp_seq (yC _ _ _ σ a w h1 h S ?_);intro e σ' a' w' he S'
  cases e with
  | normal=>exact ti _ _ _ σ' a' w' h2 he S' hQ
  | exit id=>exact hQ _ _ _ _ he S'
  | ret=>exact hQ _ _ _ _ he S'
 | cond b x y yC ti =>
  intro c Qa Q σ a w hc h S hQ;simp only[af.er]at hc;obtain⟨b0,c1,c2,rfl,h0,h1,h2⟩:=QZn hc;simp only[aU]at h
  split at h
  rotate_left
  ·exact h.elim
  rename_i t ht;obtain⟨ι,S0⟩:=S;exact wp_cond_split (QWo S0 h0 ht) (λe=>yC _ _ _ σ a w h1 (h.1 e) ⟨ι,S0⟩ hQ) (λe=>ti _ _ _ σ a w h2 (h.2 e) ⟨ι,S0⟩ hQ)
 | block id x ih =>
  intro c Qa Q σ a w hc h S hQ;simp only[af.er]at hc;obtain⟨c1,rfl,h1⟩:=QMH hc;simp only[aU]at h;refine wp_block (ih _ _ _ σ a w h1 h S ?_);intro e σ' a' w' he S'
  cases e with
  | normal=>exact hQ _ _ _ _ he S'
  | ret=>exact hQ _ _ _ _ he S'
  | exit cn =>
   simp only[bf]at he;show Exit.inBlock id Q (.exit cn) a' w';simp only[Exit.inBlock]
   split
   ·rename_i heq;subst heq;rw[show Nat.beq cn cn=true by simp]at he;exact hQ .normal _ _ _ he S'
   ·rename_i heq;rw[Kw heq]at he;exact hQ (.exit cn) _ _ _ he S'
 | loop L x ih =>
  intro c Qa Q σ a w hc h S hQ;simp only[af.er]at hc;obtain⟨c1,rfl,h1⟩:=QRJ hc;simp only[aU]at h;have key:=h (λs=>∀ a w,fx C s.aH a w->∀(b:Frame)(k:List Item)(cs:List Frame),∃ e a' w',Q e a' w'/\Arrives C.P (lone (b.at a (.code c1::.inLoop c1::k)) cs w) b k cs e a' w') ?_
  ·intro b k cs;obtain⟨e,a',w',hq,jS⟩:=key a w (CY hL S) b k cs;exact⟨e,a',w',hq,.of_steps (.one step_loop) jS⟩
  ·intro s hs a w S b k cs;have hb:=ih c1 _ (Exit.then (λa w=>∀(b:Frame)(k:List Item)(cs:List Frame),∃ e a' w',Q e a' w'/\Arrives C.P (lone (b.at a (.code c1::.inLoop c1::k)) cs w) b k cs e a' w') Q) s a w h1 hs S ?_
   ·obtain⟨e,a₁,w₁,hq,jS⟩:=hb b (.inLoop c1::k) cs
    cases e with
    | normal =>
     obtain⟨e₂,a₂,w₂,hq₂,harr₂⟩:=hq b k cs;exact⟨e₂,a₂,w₂,hq₂,.of_steps (Steps.trans jS (.one step_inLoop)) harr₂⟩
    | exit id=>exact⟨_,a₁,w₁,hq,.pass (x:=.inLoop c1) rfl (λ_ _=>.inl (by simp)) jS⟩
    | goto l=>exact⟨_,a₁,w₁,hq,.pass (x:=.inLoop c1) rfl (λ_ _=>.inl (by simp)) jS⟩
    | ret=>exact⟨_,a₁,w₁,hq,.pass (x:=.inLoop c1) rfl (λ_ _=>.inl (by simp)) jS⟩
    | panic ch=>exact⟨_,a₁,w₁,hq,.pass (x:=.inLoop c1) rfl (λ_ _=>.inl (by simp)) jS⟩
    | outgrown=>exact⟨_,a₁,w₁,hq,.pass (x:=.inLoop c1) rfl (λ_ _=>.inl (by simp)) jS⟩
   ·intro e σ' a' w' he S'
    cases e with
    | normal=>exact he a' w' (CY hL S')
    | exit id=>exact hQ _ _ _ _ he S'
    | ret=>exact hQ _ _ _ _ he S'
 | exit id =>
  intro c Qa Q σ a w hc h S hQ;refine yB hm hΓ c (.exit id) (λe τ=>e = .exit id/\τ=σ.aH) Q σ.aH a w hc ⟨rfl,rfl⟩ S ?_;rintro e τ a' w' ⟨rfl,rfl⟩ S'
  exact hQ (.exit id) σ a' w' h S'
 | ret =>
  intro c Qa Q σ a w hc h S hQ;refine yB hm hΓ c .ret (λe τ=>e = .ret/\τ=σ.aH) Q σ.aH a w hc ⟨rfl,rfl⟩ S ?_;rintro e τ a' w' ⟨rfl,rfl⟩ S'
  exact hQ .ret σ a' w' h S'
 | wk L x ih =>
  intro c Qa Q σ a w hc h S hQ;exact ih c Qa Q _ a w hc h (CY hL S) hQ
 | cv s k x ih =>
  intro c Qa Q σ a w hc h S hQ;simp only[aU]at h
  split at h
  ·rename_i r hr;exact ih c Qa Q _ a w hc h.2 (QUQ hr h.1 S) hQ
  ·exact h.elim
end
end Go.Proofs.YtdplaepmjogjjaaGreat.Am
namespace Go.Proofs.YtdplaepmjogjjaaGreat.Am
open Go Go.RowKit
mutual
theorem C0:∀(t:CT)(x y:t.den),enc t x=enc t y->x=y
 | .int k,x,y,h=>by injection h with h;injection h
 | .bool,x,y,h=>by injection h with h;injection h
 | .str,x,y,h=>by injection h with h;injection h
 | .dS,x,y,h=>rfl
 | .sl ts,x,y,h=>by
  rw[enc,enc]at h
  injection h with _ h
  exact zh (λa b=>zi ts a b) x y h
theorem zi:∀(ts:List CT)(x y:aV ts),a9 ts x=a9 ts y->x=y
 | [],x,y,_=>rfl
 | t::ts,x,y,h=>by
  rw[a9,a9]at h
  injection h with h1 h2
  have h1:=C0 t _ _ h1
  have h2:=zi ts _ _ h2
  cases ts with
  | nil=>exact h1
  | cons u us=>exact Prod.ext h1 h2
theorem zh{α β:Type}{f:α->β}(hf:∀ a b,f a=f b->a=b):∀(x y:List α),x.map f=y.map f->x=y
 | [],[],_=>rfl
 | a::x,b::y,h=>by
  rw[List.map_cons,List.map_cons]at h
  injection h with h1 h2
  rw[hf a b h1,zh hf x y h2]
 | [],b::y,h=>by simp at h
 | a::x,[],h=>by simp at h
end
theorem KM:∀ {ts:List CT} {xs ys:List TV},qW xs=some ts->qW ys=some ts->xs.map TV.aW=ys.map TV.aW->xs=ys
 | ts,[],ys,h1,h2,h=>by
  cases ys with
  | nil=>rfl
  | cons y ys=>simp at h
 | ts,x::xs,ys,h1,h2,h=>by
  cases ys with
  | nil=>simp at h
  | cons y ys =>
   cases x with
   | c t x =>
    cases y with
    | c t' y =>
     simp only[qW]at h1 h2
     split at h1
     rotate_left
     ·cases h1
     rename_i t1 e1
     split at h2
     rotate_left
     ·cases h2
     rename_i t2 e2
     cases h1
     cases h2;rw[List.map_cons,List.map_cons]at h;injection h with h3 h4;rw[KM e1 e2 h4];simp only[TV.aW]at h3;injection h3 with h3;rw[C0 t x y h3]
    | _=>simp[qW]at h2
   | _=>simp[qW]at h1
theorem C1{m:Mo}(h:lG m=true):m=dw:=by
 unfold lG at h
 split at h
 ·rfl
 ·cases h
theorem Ww{e:TypeId}{ts:List CT}{x:TV}(hx:(Sh.o e ts).fits x=true):∃ es,x = .ow e ts .ow es:=by
 cases x with
 | ow e' cl m es =>
  cases m with
  | ow =>
   simp only[Sh.fits,Bool.and_eq_true]at hx;obtain rfl:=Nat.eq_of_beq_eq_true hx.1;obtain rfl:=CT.b6 _ _ hx.2;exact⟨es,rfl⟩
  | _=>simp[Sh.fits]at hx
 | _=>simp[Sh.fits]at hx
theorem Wx{ts:List CT}{x:TV}(hx:(Sh.d ts).fits x=true):∃ es,x = .ow 0 ts dw es:=by
 cases x with
 | ow e' cl m es =>
  simp only[Sh.fits,Bool.and_eq_true]at hx;obtain rfl:=Nat.eq_of_beq_eq_true hx.1.1;obtain rfl:=CT.b6 _ _ hx.1.2;obtain rfl:=C1 hx.2;exact⟨es,rfl⟩
 | _=>simp[Sh.fits]at hx
theorem Wy{t:CT}{ts:List CT}{x:TV}{xs:List TV}(h:mY (t::ts) (x::xs)=true):((∃ d,x = .c t d)\/∃ us es,t = .sl us/\x = .ow 0 us dw es)/\mY ts xs=true:=by
 simp only[mY,Bool.and_eq_true]at h;refine⟨?_,h.2⟩;have h:=h.1
 cases x with
 | c t' d =>
  simp only[Bool.and_eq_true]at h;obtain rfl:=CT.beq_eq _ _ h.1;exact .inl ⟨d,rfl⟩
 | ow e' us m es =>
  simp only[Bool.and_eq_true]at h;obtain rfl:=Nat.eq_of_beq_eq_true h.1.1;have:=CT.beq_eq _ _ h.1.2;obtain rfl:=C1 h.2;exact .inr ⟨us,es,this.symm,rfl⟩
 | _=>cases h
theorem Wz:∀ {ts:List CT} {xs ys:List TV},mY ts xs=true->mY ts ys=true->xs.map TV.aW=ys.map TV.aW->xs=ys
 | [],[],[],_,_,_=>rfl
 | [],_::_,_,h,_,_=>by simp[mY]at h
 | [],[],_::_,_,h,_=>by simp[mY]at h
 | _::_,[],_,h,_,_=>by simp[mY]at h
 | _::_,_::_,[],_,h,_=>by simp[mY]at h
 | t::ts,x::xs,y::ys,h1,h2,h=>by
  obtain⟨a1,b1⟩:=Wy h1;obtain⟨a2,b2⟩:=Wy h2;rw[List.map_cons,List.map_cons]at h;injection h with h3 h4;rw[Wz b1 b2 h4];congr 1
  rcases a1 with⟨d,rfl⟩ | ⟨us,es,rfl,rfl⟩
  ·rcases a2 with⟨d',rfl⟩ | ⟨us,es,rfl,rfl⟩
   ·simp only[TV.aW]at h3;injection h3 with h3;rw[C0 t d d' h3]
   ·cases h3
  ·rcases a2 with⟨d',rfl⟩ | ⟨us',bZ,q,rfl⟩
   ·cases h3
   ·injection q with q;subst q;simp only[TV.aW]at h3;injection h3 with _ _ _ h3;rw[zh (λa b=>zi us a b) _ _ h3]
theorem QXl{s:Sh}{x y:TV}(hx:s.fits x=true)(hy:s.fits y=true)(h:x.aH=y.aH):x=y:=by
 cases s with
 | c t =>
  cases x with
  | c t1 x =>
   cases y with
   | c t2 y =>
    simp only[Sh.fits]at hx hy;have h1:=CT.beq_eq _ _ hx;have h2:=CT.beq_eq _ _ hy;subst h1;subst h2;simp only[TV.aH,TV.cw,TV.aW]at h;injection h with h;rw[C0 _ x y h]
   | _=>simp[Sh.fits]at hy
  | _=>simp[Sh.fits]at hx
 | o e ts =>
  obtain⟨xs,rfl⟩:=Ww hx;obtain⟨ys,rfl⟩:=Ww hy;simp only[TV.aH,TV.cw,TV.aW]at h;injection h with _ _ _ h;rw[zh (λa b=>zi ts a b) _ _ h]
 | d ts =>
  obtain⟨xs,rfl⟩:=Wx hx;obtain⟨ys,rfl⟩:=Wx hy;simp only[TV.aH,TV.cw,TV.aW]at h;injection h with _ _ _ h;rw[zh (λa b=>zi ts a b) _ _ h]
 | s ts =>
  cases x with
  | a xs =>
   cases y with
   | a ys =>
    simp only[Sh.fits]at hx hy;simp only[TV.aH,TV.cw]at h;injection h with h;rw[Wz hx hy h]
   | _=>simp[Sh.fits]at hy
  | _=>simp[Sh.fits]at hx
 | a ts =>
  cases x with
  | a xs =>
   cases y with
   | a ys =>
    simp only[Sh.fits]at hx hy
    split at hx
    rotate_left
    ·cases hx
    rename_i t1 e1
    split at hy
    rotate_left
    ·cases hy
    rename_i t2 e2;have h1:=CT.b6 _ _ hx;have h2:=CT.b6 _ _ hy;subst h1;subst h2;simp only[TV.aH,TV.cw]at h;injection h with h;rw[KM e1 e2 h]
   | _=>simp[Sh.fits]at hy
  | _=>simp[Sh.fits]at hx
 | b ts =>
  cases x with
  | bx xs =>
   cases y with
   | bx ys =>
    simp only[Sh.fits]at hx hy
    split at hx
    rotate_left
    ·cases hx
    rename_i t1 e1
    split at hy
    rotate_left
    ·cases hy
    rename_i t2 e2;have h1:=CT.b6 _ _ hx;have h2:=CT.b6 _ _ hy;subst h1;subst h2;simp only[TV.aH]at h;injection h with h;rw[KM e1 e2 h]
   | _=>simp[Sh.fits]at hy
  | _=>simp[Sh.fits]at hx
theorem WA:∀ {ss:List Sh} {xs ys:List TV},Yv ss xs=true->Yv ss ys=true->xs.map TV.aH=ys.map TV.aH->xs=ys
 | [],[],[],_,_,_=>rfl
 | [],_::_,_,h,_,_=>by simp[Yv]at h
 | [],[],_::_,_,h,_=>by simp[Yv]at h
 | _::_,[],_,h,_,_=>by simp[Yv]at h
 | _::_,_::_,[],_,h,_=>by simp[Yv]at h
 | s::ss,x::xs,y::ys,h1,h2,h=>by
  simp only[Yv,Bool.and_eq_true]at h1 h2;rw[List.map_cons,List.map_cons]at h;injection h with h3 h4;rw[QXl h1.1 h2.1 h3,WA h1.2 h2.2 h4]
def aR(P:Program)(f:FuncId)(xs:List TV)(r:aJ):Prop:=sT P f (xs.map TV.aH) r.aH
def Qf(P:Program)(row:aP):Prop:=∀ vs pre r,Yv row.sg vs=true->row.fn vs=some (pre,r)->holds pre->aR P row.f vs r
def iE(P:Program)(Γ:List aP):Prop:=∀ row,row∈Γ->Qf P row
def zj(P:Program)(Γ:aN):Prop:=iE P Γ.rows
theorem iE.nil{P:Program}:iE P []:=λ_ h=>by cases h
theorem iE.cons{P:Program}{row:aP}{Γ:List aP}(h:Qf P row)(hs:iE P Γ):iE P (row::Γ):=λr hr=>by
 rcases List.mem_cons.1 hr with rfl | hr
 ·exact h
 ·exact hs r hr
theorem WB:∀ {Γ:List aP} {f:FuncId} {row:aP},me Γ f=some row->row∈Γ/\row.f=f
 | [],f,row,h=>by simp[me]at h
 | r::rs,f,row,h=>by
  simp only[me]at h
  cases hb:Nat.beq r.f f with
  | true =>
   rw[hb]at h;simp only[cond_true,Option.some.injEq]at h;subst h;exact⟨List.mem_cons_self,Nat.eq_of_beq_eq_true hb⟩
  | false =>
   rw[hb]at h;have:=WB (Γ:=rs) h;exact⟨List.mem_cons_of_mem _ this.1,this.2⟩
open Classical in
noncomputable def jT(Γ:aN):eR:=⟨λf=>match me Γ.rows f with | some row=>g7 row.sg | none=>[],λf args =>
 if h:∃ r:aJ,∃ row vs pre,me Γ.rows f=some row/\Yv row.sg vs=true/\row.fn vs=some (pre,r)/\holds pre/\vs.map TV.aH=args then some h.choose.aH else none,Γ.dp⟩
theorem QSx(Γ:aN):jh Γ (jT Γ):=by
 refine⟨λf row h=>by simp only[jT,h],?_,rfl⟩;intro f row vs pre r h1 h2 h3 h4;have hex:∃ r:aJ,∃ row vA pre,me Γ.rows f=some row/\Yv row.sg vA=true/\row.fn vA=some (pre,r)/\holds pre/\vA.map TV.aH=vs.map TV.aH:=⟨r,row,vs,pre,h1,h2,h3,h4,rfl⟩
 simp only[jT];rw[dif_pos hex];obtain⟨ap3,vA,ap4,g1,g2,g3,g4,g5⟩:=hex.choose_spec;rw[h1]at g1
 cases g1;have:=WA g2 h2 g5;subst this;rw[h3]at g3;injection g3 with g3;injection g3 with _ g3;rw[<- g3]
theorem QZx{P:Program}{Γ:aN}(h:zj P Γ):oc P (jT Γ):=by
 intro f args r hr;simp only[jT]at hr
 split at hr
 rotate_left
 ·cases hr
 rename_i hex
 cases hr;obtain⟨row,vs,pre,g1,g2,g3,g4,g5⟩:=hex.choose_spec;obtain⟨m1,m2⟩:=WB g1;have:=h row m1 vs pre _ g2 g3 g4;unfold aR at this;rw[m2,g5]at this;exact this
def tL:List TV->Nat->List TV
 | [],_=>[]
 | .ow _ ts _ es::r,m=>.r ts m 0 es.length::tL r (m+1)
 | x::r,m=>x::tL r m
def vS:List TV->Nat->List (Nat × aG)
 | [],_=>[]
 | .ow e ts m es::r,k=>(k,.sl e ts m es)::vS r (k+1)
 | _::r,k=>vS r k
def jU:List TV->Nat
 | []=>0
 | .ow _ _ _ _::r=>jU r+1
 | _::r=>jU r
def pV:List TV->Nat->Nat->Nat->List (Nat × TV)
 | [],_,_,_=>[]
 | .bx _::r,s,k,m=>(s,.p k 0 0)::pV r (s+1) (k+1) m
 | .ow _ ts _ es::r,s,k,m=>(s,.r ts m 0 es.length)::pV r (s+1) k (m+1)
 | .a cs::r,s,k,m=>(s,.a (tL cs m))::pV r (s+1) k (m+jU cs)
 | x::r,s,k,m=>(s,x)::pV r (s+1) k m
def tM:List TV->Nat->List (Nat × aG)
 | [],_=>[]
 | .bx cs::r,k=>(k,.box cs)::tM r (k+1)
 | _::r,k=>tM r k
def pW:List TV->Nat->List (Nat × aG)
 | [],_=>[]
 | .ow e ts m es::r,k=>(k,.sl e ts m es)::pW r (k+1)
 | .a cs::r,k=>vS cs k++pW r (k+jU cs)
 | _::r,k=>pW r k
def eD:List TV->Nat
 | []=>0
 | .bx _::r=>eD r+1
 | _::r=>eD r
def eX:List TV->Nat
 | []=>0
 | .ow _ _ _ _::r=>eX r+1
 | .a cs::r=>eX r+jU cs
 | _::r=>eX r
def tN(xs:List TV):cD:=⟨pV xs 0 0 (eD xs),tM xs 0++pW xs (eD xs),eD xs+eX xs⟩
theorem zk:∀(cs:List TV),jU cs=(YG (cs.map TV.aW)).length
 | []=>rfl
 | x::cs=>by cases x <;> simp only[jU,List.map_cons,TV.aW,YG,List.length_cons,zk cs]
theorem KN:∀(cs:List TV)(m:Nat),(tL cs m).map TV.aW=gA (cs.map TV.aW) m
 | [],_=>rfl
 | x::cs,m=>by
  cases x with
  | ow e ts mm es=>simp only[tL,List.map_cons,TV.aW,gA,List.length_map,KN cs]
  | _=>simp only[tL,List.map_cons,TV.aW,gA,KN cs]
theorem KO:∀(cs:List TV)(B:List (Nat × aG))(k j:Nat),(dK (vS cs k++B) j).aH=if k<=j then(match(YG (cs.map TV.aW))[j-k]? with | some b=>b | none=>(dK B j).aH) else(dK B j).aH
 | [],B,k,j=>by simp[vS,YG]
 | x::cs,B,k,j=>by
  cases x with
  | ow e ts m es =>
   simp only[vS,List.cons_append,tE,bN,List.map_cons,TV.aW,YG];by_cases h:j=k
   ·subst h;simp[aG.aH]
   ·rw[if_neg h,KO cs B (k+1) j];by_cases h2:k<=j
    ·rw[if_pos h2,if_pos (by omega),show j-k=(j-(k+1))+1 by omega];simp
    ·rw[if_neg h2,if_neg (by omega)]
  | _=>exact KO cs B k j
def TV.ng:TV->Bool
 | .g _ _=>false
 | _=>true
theorem WC:∀(xs:List TV)(s k m j:Nat),xs.all TV.ng=true->(cR (pV xs s k m) j).aH=if s<=j then((dV (xs.map TV.aH) k m)[j-s]?).getD .u else .u
 | [],s,k,m,j,_=>by simp[pV,cR,dV,TV.aH,TV.cw,TV.aW]
 | x::xs,s,k,m,j,cC=>by
  rw[List.all_cons,Bool.and_eq_true]at cC;have key:∀(y:TV)(k' m':Nat)(z:AV),y.aH=z->(cR ((s,y)::pV xs (s+1) k' m') j).aH=if s<=j then((z::dV (xs.map TV.aH) k' m')[j-s]?).getD .u else .u:=by
   intro y k' m' z hz;rw[JW,bN];by_cases h:j=s
   ·subst h;simp[hz]
   ·rw[if_neg h,WC xs (s+1) k' m' j cC.2];by_cases h2:s<=j
    ·rw[if_pos h2,if_pos (by omega),show j-s=(j-(s+1))+1 by omega];simp
    ·rw[if_neg h2,if_neg (by omega)]
  cases x with
  | bx cs=>exact key (.p k 0 0) (k+1) m (.p k 0 0) rfl
  | ow e ts mm es =>
   have:=key (.r ts m 0 es.length) k (m+1) (.r ts.length m 0 (es.map (a9 ts)).length) (by simp[TV.aH,TV.cw,TV.aW]);exact this
  | a cs =>
   have:=key (.a (tL cs m)) k (m+jU cs) (.a (gA (cs.map TV.aW) m)) (by simp only[TV.aH,TV.cw,KN]);rw[zk]at this;simp only[pV,zk];exact this
  | g b v=>exact absurd cC.1 (by simp[TV.ng])
  | _=>exact key _ k m _ rfl
theorem KP:∀(xs:List TV)(B:List (Nat × aG))(k j:Nat),xs.all TV.ng=true->(dK (tM xs k++B) j).aH=if k<=j then(match(cV (xs.map TV.aH))[j-k]? with | some cs=>.box cs | none=>(dK B j).aH) else(dK B j).aH
 | [],B,k,j,_=>by simp[tM,cV]
 | x::xs,B,k,j,cC=>by
  rw[List.all_cons,Bool.and_eq_true]at cC
  cases x with
  | bx cs =>
   simp only[tM,List.cons_append,tE,bN,List.map_cons,cV,TV.aH];by_cases h:j=k
   ·subst h;simp[aG.aH]
   ·rw[if_neg h,KP xs B (k+1) j cC.2];by_cases h2:k<=j
    ·rw[if_pos h2,if_pos (by omega),show j-k=(j-(k+1))+1 by omega];simp
    ·rw[if_neg h2,if_neg (by omega)]
  | g b v=>exact absurd cC.1 (by simp[TV.ng])
  | _=>exact KP xs B k j cC.2
theorem C2:∀(xs:List TV)(k j:Nat),xs.all TV.ng=true->(dK (pW xs k) j).aH=if k<=j then((dQ (xs.map TV.aH))[j-k]?).getD .none else .none
 | [],k,j,_=>by simp[pW,dK,dQ,aG.aH]
 | x::xs,k,j,cC=>by
  rw[List.all_cons,Bool.and_eq_true]at cC
  cases x with
  | ow e ts m es =>
   simp only[pW,tE,bN,List.map_cons,dQ,TV.aH,TV.cw,TV.aW];by_cases h:j=k
   ·subst h;simp[aG.aH]
   ·rw[if_neg h,C2 xs (k+1) j cC.2];by_cases h2:k<=j
    ·rw[if_pos h2,if_pos (by omega),show j-k=(j-(k+1))+1 by omega];simp
    ·rw[if_neg h2,if_neg (by omega)]
  | a cs =>
   simp only[pW,List.map_cons,dQ,TV.aH,TV.cw];rw[KO,C2 xs _ j cC.2,zk];by_cases h2:k<=j
   ·rw[if_pos h2,if_pos h2,List.getElem?_append];by_cases h3:j-k<(YG (cs.map TV.aW)).length
    ·rw[if_pos h3,List.getElem?_eq_getElem h3];rfl
    ·rw[if_neg h3,List.getElem?_eq_none (by omega),if_pos (by omega),show j-(k+(YG (cs.map TV.aW)).length)=j-k-(YG (cs.map TV.aW)).length by omega]
   ·rw[if_neg h2,if_neg h2,if_neg (by omega)]
  | g b v=>exact absurd cC.1 (by simp[TV.ng])
  | _=>exact C2 xs k j cC.2
theorem zl:∀(xs:List TV),xs.all TV.ng=true->eX xs=(dQ (xs.map TV.aH)).length
 | [],_=>rfl
 | x::xs,cC=>by
  rw[List.all_cons,Bool.and_eq_true]at cC
  cases x with
  | ow e ts m es=>simp only[eX,List.map_cons,TV.aH,TV.cw,TV.aW,dQ,List.length_cons,zl xs cC.2]
  | a cs=>simp only[eX,List.map_cons,TV.aH,TV.cw,dQ,List.length_append,zl xs cC.2,zk];omega
  | g b v=>exact absurd cC.1 (by simp[TV.ng])
  | _=>exact zl xs cC.2
theorem C3:∀(xs:List TV),xs.all TV.ng=true->eD xs=(cV (xs.map TV.aH)).length
 | [],_=>rfl
 | x::xs,cC=>by
  rw[List.all_cons,Bool.and_eq_true]at cC
  cases x with
  | bx cs=>simp only[eD,List.map_cons,TV.aH,cV,List.length_cons,C3 xs cC.2]
  | g b v=>exact absurd cC.1 (by simp[TV.ng])
  | _=>exact C3 xs cC.2
theorem QYk(xs:List TV)(cC:xs.all TV.ng=true):(tN xs).aH=mc (xs.map TV.aH):=by
 have hB:=C3 xs cC;have hG:=zl xs cC;unfold tN cD.aH mc cD.T cD.H;congr 1
 ·funext s
  rw[WC xs 0 0 _ s cC,hB];simp
 ·funext i
  show(dK (tM xs 0++pW xs (eD xs)) i).aH=_;rw[KP xs _ 0 i cC,C2 xs _ i cC,hB];simp only[Nat.zero_le,if_true,Nat.sub_zero]
  cases hx:(cV (xs.map TV.aH))[i]? with
  | some cs=>rfl
  | none =>
   have:(cV (xs.map TV.aH)).length<=i:=by rw[List.getElem?_eq_none_iff]at hx;exact hx
   rw[if_pos this]
 ·rw[hB,hG]
def bw.slot:bw->Nat
 | .t s=>s
 | .l s _ _=>s
def pX(σ:cD):bw->Option TV
 | .t s=>some (σ.T s)
 | .l s n agg=>match ZE ⟨[],false⟩ σ.T σ.H 0 (.load (.s s) n agg) with
  | some ⟨none,v,_⟩=>some v
  | _=>none
def zm(σ:cD):List bw->Option (List TV)
 | []=>some []
 | x::xs=>match pX σ x,zm σ xs with
  | some y,some ys=>some (y::ys)
  | _,_=>none
def pY:List TV->TV
 | [x]=>x
 | xs=>.tp xs
def TV.fv(ids:List Nat):TV->TV
 | .r ts id off len=>bif ids.elem id then .r ts (ids.idxOf id) off len else .u
 | .p id i j=>bif ids.elem id then .p (ids.idxOf id) i j else .u
 | .c t x=>.c t x
 | .n ts=>.n ts
 | .q ts x j=>.q ts x j
 | _=>.u
def TV.jM(ids:List Nat):TV->TV
 | .a cs=>.a (cs.map (TV.fv ids))
 | x=>x.fv ids
def TV.rn(ids:List Nat):TV->TV
 | .tp vs=>.tp (vs.map (TV.jM ids))
 | x=>x.jM ids
def aG.rn(ids:List Nat):aG->aG
 | .box cs=>.box (cs.map (TV.fv ids))
 | x=>x
def tO:TV->Bool
 | .c _ _=>true
 | _=>false
def zn(h:Nat->aG):Nat->Nat->Option (List (List TV))
 | 0,_=>some []
 | n+1,k=>match h k,zn h n (k+1) with
  | .box cs,some cL=>bif cs.all tO then some (cs::cL) else none
  | _,_=>none
def TV.dL:TV->Bool
 | .c t _=>t.flat
 | .n _=>true
 | .r ..=>true
 | .p ..=>true
 | .u=>true
 | _=>false
def TV.ej:TV->Bool
 | .a cs=>cs.all TV.dL
 | x=>x.dL
def TV.free:TV->Bool
 | .tp vs=>vs.all TV.ej
 | x=>x.ej
def aG.free:aG->Bool
 | .none=>true
 | .dead=>true
 | .box cs=>cs.all TV.dL
 | .sl _ ts m _=>(match m with | .dp _ _ _=>true | _=>ts.all CT.flat)
def vT:List Nat->List Nat->List Nat
 | [],acc=>acc
 | x::xs,acc=>bif acc.elem x then vT xs acc else vT xs (acc++[x])
def zo(h:Nat->aG):Nat->Nat->Option (List aG)
 | 0,_=>some []
 | n+1,k=>match h k,zo h n (k+1) with
  | .sl e ts m es,some cL=>some (.sl e ts m es::cL)
  | .dead,some cL=>some (.dead::cL)
  | _,_=>none
def KQ(nb no:Nat)(rs:List (bw × Md))(σ0:cD):Option aJ :=
 let σ:=gc (nb+no) (rs.map λx=>(x.1.slot,x.2)) σ0
 match zm σ (rs.map Prod.fst) with
 | some vs=>bif vs.all TV.st then(match zn σ.H nb 0,zo σ.H no nb with
  | some cL,some gs =>
   let ids:=vT (vs.flatMap λv=>v.refs++v.cp) []
   let v:=(pY vs).rn ids
   let hb:=ids.map λid=>(σ.H id).rn ids
   bif qZ ids&&ids.all (Nat.ble (nb+no) ·) then some ⟨v,hb,cL,!(v.free&&cL.isEmpty&&hb.all aG.free&&gs.isEmpty),gs⟩ else none
  | _,_=>none) else none
 | none=>none
def TQ(nb no:Nat)(rs:List (bw × Md))(K:aJ->Prop):Qb:=λe σ=>match e with
 | .exit _=>False
 | _=>match KQ nb no rs σ with
  | some r=>K r
  | none=>False
theorem QQh{σ:cD}{y:bw}{v:TV}(h:pX σ y=some v):y.get σ.aH=some v.aH:=by
 cases y with
 | t s=>simp only[pX,Option.some.injEq]at h;subst h;rfl
 | l s n agg =>
  simp only[pX]at h
  split at h
  rotate_left
  ·cases h
  rename_i v' bl he
  cases h;have:=V8 (ΓA:=Cx) he trivial;have this:QD Cx (bc.ev λs=>(σ.T s).aH) (λi=>(σ.H i).aH) 0 (.load (.s s) n agg)=some (TE.aH ⟨none,v,bl⟩):=this;show(match QD Cx (bc.ev λs=>(σ.T s).aH) (λi=>(σ.H i).aH) 0 (.load (.s s) n agg) with | some e=>some e.val | none=>none)=_;rw[this];rfl
theorem WD{σ:cD}:∀ {ys:List bw} {vs:List TV},zm σ ys=some vs->tj σ.aH ys=some (vs.map TV.aH)
 | [],vs,h=>by simp only[zm,Option.some.injEq]at h;subst h;rfl
 | y::ys,vs,h=>by
  simp only[zm]at h
  split at h
  rotate_left
  ·cases h
  rename_i a b ha hb
  cases h;simp only[tj,QQh ha,WD hb,List.map_cons]
theorem Q0l{vs:List TV}(h:vs.all TV.st=true):Vr (vs.map TV.aH)=(pY vs).aH:=by
 match vs,h with
 | [],_=>rfl
 | [x],_=>rfl
 | x::y::vs,h =>
  show AV.t ((x::y::vs).map TV.aH)=AV.t ((x::y::vs).map TV.cw);congr 1
  exact List.map_congr_left λa ha=>(V6 (List.all_eq_true.1 h a ha)).symm
theorem tP(ids:List Nat)(x:TV):(x.fv ids).aW=x.aW.fv ids:=by
 cases x with
 | r ts id off len =>
  simp only[TV.fv,TV.aW,AV.fv];by_cases h:id∈ids
  ·rw[if_pos h,show ids.elem id=true by simpa using h];rfl
  ·rw[if_neg h,show ids.elem id=false by simpa using h];rfl
 | p id i j =>
  simp only[TV.fv,TV.aW,AV.fv];by_cases h:id∈ids
  ·rw[if_pos h,show ids.elem id=true by simpa using h];rfl
  ·rw[if_neg h,show ids.elem id=false by simpa using h];rfl
 | _=>rfl
theorem WE(ids:List Nat)(x:TV):(x.fv ids).aH=(x.fv ids).aW:=by
 cases x with
 | r ts id off len=>simp only[TV.fv];cases ids.elem id <;> rfl
 | p id i j=>simp only[TV.fv];cases ids.elem id <;> rfl
 | _=>rfl
theorem QKR(ids:List Nat)(x:TV):(x.jM ids).cw=x.cw.jM ids:=by
 cases x with
 | a cs=>simp only[TV.jM,TV.cw,AV.jM,List.map_map];congr 2;funext y;exact tP ids y
 | r ts id off len =>
  have:=tP ids (.r ts id off len);simp only[TV.jM]
  cases hx:(TV.r ts id off len).fv ids <;> (simp only[TV.fv]at hx;cases hb:ids.elem id <;> rw[hb]at hx <;> first | cases hx | skip) <;> (rw[show TV.fv ids (.r ts id off len)=_ from by simp only[TV.fv,hb];rfl]at this;first | exact this | skip)
 | p id i j =>
  have:=tP ids (.p id i j);simp only[TV.jM]
  cases hx:(TV.p id i j).fv ids <;> (simp only[TV.fv]at hx;cases hb:ids.elem id <;> rw[hb]at hx <;> first | cases hx | skip) <;> (rw[show TV.fv ids (.p id i j)=_ from by simp only[TV.fv,hb];rfl]at this;first | exact this | skip)
 | _=>rfl
theorem QZm(ids:List Nat):∀(x:TV),x.st=true\/(∃ vs,x = .tp vs)->(x.rn ids).aH=x.aH.rn ids
 | .tp vs,_=>by simp only[TV.rn,TV.aH,AV.rn,List.map_map];congr 2;funext y;exact QKR ids y
 | .a cs,_=>by simp only[TV.rn,TV.jM,TV.aH,TV.cw,AV.rn,AV.jM,List.map_map];congr 2;funext y;exact tP ids y
 | .c t x,_=>rfl
 | .n ts,_=>rfl
 | .r ts id off len,_=>(WE ids (.r ts id off len)).trans (tP ids (.r ts id off len))
 | .p id i j,_=>(WE ids (.p id i j)).trans (tP ids (.p id i j))
 | .q ts x j,_=>rfl
 | .bs ..,_=>rfl
 | .bq ..,_=>rfl
 | .u,h=>by rcases h with h | ⟨vs,h⟩ <;> cases h
 | .bx cs,h=>by rcases h with h | ⟨vs,h⟩ <;> cases h
 | .g b v,h=>by rcases h with h | ⟨vs,h⟩ <;> cases h
theorem QW9(ids:List Nat)(x:aG):(x.rn ids).aH=x.aH.rn ids:=by
 cases x with
 | box cs=>simp only[aG.rn,aG.aH,aX.rn,List.map_map];congr 2;funext y;exact tP ids y
 | _=>rfl
theorem QV4{cs:List TV}(h:cs.all tO=true):(cs.map TV.aW).all oa=true:=by
 rw[List.all_eq_true]at h ⊢;intro x hx;obtain⟨y,hy,rfl⟩:=List.mem_map.1 hx;have:=h y hy
 cases y <;> first | rfl | simp[tO]at this
theorem WG{h:Nat->aG}:∀ {n k:Nat} {cL:List (List TV)},zn h n k=some cL->qT (λi=>(h i).aH) n k=some (cL.map (·.map TV.aW))
 | 0,k,cL,e=>by simp only[zn,Option.some.injEq]at e;subst e;rfl
 | n+1,k,cL,e=>by
  simp only[zn]at e
  split at e
  rotate_left
  ·cases e
  rename_i cs mV h1 h2;obtain⟨q,e⟩:=Q6 e
  cases e;have ih:=WG h2;have hk:(λi=>(h i).aH) k = .box (cs.map TV.aW):=by simp only[h1];rfl
  generalize(λi=>(h i).aH)=hA at ih hk;simp only[qT,hk,ih,QV4 q,if_true,List.map_cons]
def AV.dL:AV->Bool
 | .c (.v _)=>true
 | .n _=>true
 | .r ..=>true
 | .p ..=>true
 | .u=>true
 | _=>false
def AV.ej:AV->Bool
 | .a cs=>cs.all AV.dL
 | x=>x.dL
def AV.free:AV->Bool
 | .t vs=>vs.all AV.ej
 | x=>x.ej
def aX.free:aX->Prop
 | .none=>True
 | .dead=>True
 | .box cs=>cs.all AV.dL=true
 | .sl _ _ m es=>(∃ g t H,m = .dp g t H)\/∀ x,x∈es->∀ d,d∈x->∃ v,d = .v v
theorem WH{x:TV}(h:x.dL=true):x.aW.dL=true:=by
 cases x with
 | c t x=>cases t <;> first | rfl | simp[TV.dL,CT.flat]at h
 | _=>first | rfl | simp[TV.dL]at h
theorem WI{x:TV}(h:x.ej=true):x.cw.ej=true:=by
 cases x with
 | a cs =>
  simp only[TV.ej,List.all_eq_true]at h;simp only[TV.cw,AV.ej,List.all_eq_true];intro y hy;obtain⟨z,hz,rfl⟩:=List.mem_map.1 hy;exact WH (h z hz)
 | c t x=>exact(by cases t <;> first | rfl | simp[TV.ej,TV.dL,CT.flat]at h)
 | _=>first | rfl | simp[TV.ej,TV.dL]at h
theorem QPR{x:TV}(h:x.free=true):x.aH.free=true:=by
 cases x with
 | tp vs =>
  simp only[TV.free,List.all_eq_true]at h;simp only[TV.aH,AV.free,List.all_eq_true];intro y hy;obtain⟨z,hz,rfl⟩:=List.mem_map.1 hy;exact WI (h z hz)
 | a cs=>exact WI (x:=.a cs) h
 | c t x=>exact(by cases t <;> first | rfl | simp[TV.free,TV.ej,TV.dL,CT.flat]at h)
 | _=>first | rfl | simp[TV.free,TV.ej,TV.dL]at h
theorem WJ:∀ {ts:List CT},ts.all CT.flat=true->∀(x:aV ts)(d:D),d∈a9 ts x->∃ v,d = .v v
 | [],_,x,d,h=>by rw[a9]at h;cases h
 | t::ts,hf,x,d,h=>by
  rw[List.all_cons,Bool.and_eq_true]at hf;rw[a9]at h
  rcases List.mem_cons.1 h with rfl | h
  ·cases t with
   | sl us=>cases hf.1
   | _=>exact⟨_,rfl⟩
  ·exact WJ hf.2 _ d h
theorem QRY{x:aG}(h:x.free=true):x.aH.free:=by
 cases x with
 | none=>trivial
 | dead=>trivial
 | box cs =>
  simp only[aG.free,List.all_eq_true]at h;simp only[aG.aH,aX.free,List.all_eq_true];intro y hy;obtain⟨z,hz,rfl⟩:=List.mem_map.1 hy;exact WH (h z hz)
 | sl e ts m es =>
  rw[aG.bM];have key:ts.all CT.flat=true->∀ x,x∈es.map (a9 ts)->∀ d,d∈x->∃ v,d = .v v:=λhf x hx d hd=>by
   obtain⟨y,hy,rfl⟩:=List.mem_map.1 hx;exact WJ hf y d hd
  cases m with
  | dp g t H=>exact .inl ⟨g,t,H,rfl⟩
  | _=>exact .inr (key h)
theorem KR{w:World}{F F':Nat->Prop}{ι:Io}{h:Nat->aX}{v:Value}{x:AV}(hx:x.dL=true)(hv:VR w F ι h v x):VR w F' ι h v x:=by
 cases hv with
 | u=>exact .u _
 | c v d hr =>
  cases d with
  | v y=>cases hr with
   | v x h1=>exact .c _ _ (.v _ h1)
  | sl sz es=>simp[AV.dL]at hx
 | n sz=>exact .n sz
 | cI v sz id off len h1 hd=>exact .cI v sz id off len h1 hd
 | cW id e sz m hi hh=>exact .cW id e sz m hi hh
 | dz ad cap id e sz m hi hh ht=>exact .dz ad cap id e sz m hi hh ht
 | r id off len b ao cap e sz m es hi hh hlen cr ho dm=>exact .r id off len b ao cap e sz m es hi hh hlen cr ho dm
 | dg v id i j h1 hd=>exact .dg v id i j h1 hd
 | p id i j b hi hn hd=>exact .p id i j b hi hn hd
 | _=>simp[AV.dL]at hx
theorem WK{w:World}{F F':Nat->Prop}{ι:Io}{h:Nat->aX}{v:Value}{x:AV}(hx:x.ej=true)(hv:VR w F ι h v x):VR w F' ι h v x:=by
 cases x with
 | a cs =>
  simp only[AV.ej,List.all_eq_true]at hx
  cases hv with
  | a vs _ hl h1 hv=>exact .a vs cs hl h1 (λk v x hk jB=>KR (hx x (List.mem_of_getElem? jB)) (hv k v x hk jB))
 | _=>exact KR hx hv
theorem QPf{w:World}{F F':Nat->Prop}{ι:Io}{h:Nat->aX}{v:Value}{x:AV}(hx:x.free=true)(hv:VR w F ι h v x):VR w F' ι h v x:=by
 cases x with
 | t cs =>
  simp only[AV.free,List.all_eq_true]at hx
  cases hv with
  | t vs _ hl hv=>exact .t vs cs hl (λk v x hk jB=>WK (hx x (List.mem_of_getElem? jB)) (hv k v x hk jB))
 | _=>exact WK hx hv
theorem QWW{w:World}{F F':Nat->Prop}{ι:Io}{h:Nat->aX}{id:Nat}{x:aX}(hx:x.free)(hv:BR w F ι h id x):BR w F' ι h id x:=by
 cases hv with
 | none=>exact .none
 | dead=>exact .dead
 | box b e bz cs hi ho hb hl h1 hv=>exact .box b e bz cs hi ho hb hl h1 (λk v x hk jB=>KR (List.all_eq_true.1 hx x (List.mem_of_getElem? jB)) (hv k v x hk jB))
 | slnil e sz m hz hi=>exact .slnil e sz m hz hi
 | sl b e e0 sz m es cur hz hi hb fj hle dj b7 hv =>
  refine .sl b e e0 sz m es cur hz hi hb fj hle dj b7 (λi j x d WL hd=>?_);obtain⟨v,h1,h2⟩:=hv i j x d WL hd;refine⟨v,h1,?_⟩
  rcases hx with⟨g,t,H,rfl⟩ | hx
  ·exact h2
  ·cases m with
   | dp g t H=>exact h2
   | _ =>
    obtain⟨y,rfl⟩:=hx x (List.mem_of_getElem? WL) d (List.mem_of_getElem? hd);have h2:Rd w F v (.v y):=h2;show Rd w F' v (.v y)
    cases h2 with
    | v x h1=>exact .v _ h1
theorem i7.free{w:World}{F0:Nat->Prop}{lb:List Nat}{gb:List Hd}{v:AV}{hb:List aX}{al al':Bool}{v':Value}{w':World}{ι:Io}(hx:v.free=true)(hh:∀ x,x∈hb->x.free)(Q:i7 w F0 lb gb ⟨v,hb,[],al,[]⟩ v' w' ι) :
  i7 w F0 lb gb ⟨v,hb,[],al',[]⟩ v' w' ι:=by
 refine⟨Q.os,Q.tape,Q.output,Q.size,Q.block,QPf hx Q.val,λi hi=>QWW ?_ (Q.fH i hi),Q.inj,Q.eL,Q.live,Q.dA,Q.It,λk b cs _ hc=>by simp at hc,Q.Iu,λk x B _ hc=>by simp at hc⟩;have hi:i<hb.length:=hi;show aX.free ((hb[i]?).getD .none);rw[List.getElem?_eq_getElem hi];exact hh _ (List.getElem_mem hi)
theorem KS:∀(l acc:List Nat),acc.Nodup->(vT l acc).Nodup
 | [],acc,h=>h
 | x::l,acc,h=>by
  simp only[vT]
  cases hx:acc.elem x with
  | true=>exact KS l acc h
  | false =>
   refine KS l _ ?_;rw[List.nodup_append];refine⟨h,by simp,λa ha b hb=>?_⟩;simp only[List.mem_singleton]at hb;rintro rfl
   subst hb;have:a∉acc:=by simpa using hx
   exact this ha
theorem WM:∀ {ss:List Sh} {xs:List TV},Yv ss xs=true->xs.all TV.ng=true
 | [],[],_=>rfl
 | [],_::_,h=>by simp[Yv]at h
 | _::_,[],h=>by simp[Yv]at h
 | s::ss,x::xs,h=>by
  simp only[Yv,Bool.and_eq_true]at h;rw[List.all_cons,WM h.2,Bool.and_true]
  cases x with
  | g b v=>cases s <;> simp[Sh.fits]at h
  | _=>rfl
theorem KT{h:Nat->aG}:∀ {n k:Nat} {cL:List aG},zo h n k=some cL->pI (λi=>(h i).aH) n k=some (cL.map aG.aH)
 | 0,k,cL,hx=>by simp only[zo,Option.some.injEq]at hx;subst hx;rfl
 | n+1,k,cL,hx=>by
  simp only[zo]at hx
  split at hx
  ·rename_i e ts m es mV h1 h2
   cases hx;have h3:=KT h2;simp only[pI,h1,aG.bM,h3,List.map_cons]
  ·rename_i mV h1 h2
   cases hx;have h3:=KT h2;simp only[pI,h1,aG.jQ,h3,List.map_cons]
  ·cases hx
theorem QJu{P:Program}{Γ:aN}{f:FuncId}{tc:af}{rs:List (bw × Md)}{n:Nat}{xs:List TV}{r:aJ}{sg:List Sh}(hm:P.follows .mixedOrders=true)(hΓ:zj P Γ)(hs:yG P f=some (tc.er,rs.map Prod.fst,n))
  (gy:Yv sg xs=true) (hN:xs.length<=n) (h:aU Γ (eD xs+eX xs) tc (TQ (eD xs) (eX xs) rs (λr'=>r'=r)) (tN xs)):aR P f xs r:=by
 have cC:=WM gy;unfold yG at hs
 split at hs
 rotate_left
 ·cases hs
 rename_i fn hf
 split at hs
 rotate_left
 ·cases hs
 rename_i c hb
 split at hs
 rotate_left
 ·cases hs
 rename_i ac' rs' hc CS;simp only[Option.some.injEq,Prod.mk.injEq]at hs;obtain⟨rfl,rfl,rfl⟩:=hs;intro w F0 vs lb gb hA hF;have LA:=Vx hA;have I9:=LA.len;have jG:eD xs=lb.length:=(C3 xs cC).trans I9.symm;have jO:eX xs=gb.length:=(zl xs cC).trans LA.gl.symm;have hL:Kept (J2 P w F0 lb gb fn.ntmps) (eD xs+eX xs):=by
  refine⟨λi b hi=>?_,λi o hi=>?_,λi o cs hi=>?_⟩
  ·have:=(List.getElem?_eq_some_iff.1 (show lb[i]? = some b from hi)).1;omega
  ·simp only[J2]at hi
   split at hi
   ·cases hi
   ·have:=(List.getElem?_eq_some_iff.1 hi).1;omega
  ·simp only[J2]at hi
   split at hi
   ·cases hi
   ·obtain⟨_,⟨e,sz,m,es,q,_⟩,_⟩:=LA.gM _ _ hi;rw[q];exact λh=>by cases h
 refine calls_of_wp hf hb ?_;refine Q0A (C:=J2 P w F0 lb gb fn.ntmps) (nl:=eD xs+eX xs) hm (QSx Γ) (QZx hΓ) hL tc c _ _ (tN xs) _ _ hc h ?_ ?_
 ·rw[QYk xs cC];exact QJf hA hF (by simpa using hN)
 ·intro e σ0 a w' hK S;have hK:(match KQ (eD xs) (eX xs) rs σ0 with | some r'=>r'=r | none=>False)/\∀ id,e≠.exit id:=by
   cases e with
   | exit id=>exact hK.elim
   | normal=>exact⟨hK,by simp⟩
   | ret=>exact⟨hK,by simp⟩
  obtain⟨hK,he⟩:=hK
  split at hK
  rotate_left
  ·exact hK.elim
  rename_i r' hr;subst hK;unfold KQ at hr;simp only at hr
  split at hr
  rotate_left
  ·cases hr
  rename_i bz gS;obtain⟨q1,hr⟩:=Q6 hr
  split at hr
  rotate_left
  ·cases hr
  rename_i cL gs tn qQ;obtain⟨q2,hr⟩:=Q6 hr;simp only[Bool.and_eq_true]at q2
  cases hr;have S':=CY (L:=rs.map λx=>(x.1.slot,x.2)) hL S;generalize hσ:gc (eD xs+eX xs) (rs.map λx=>(x.1.slot,x.2)) σ0=σ at *;obtain⟨ι,S'⟩:=S';have h1:=WD gS;obtain⟨u,h5,h6⟩:=QOa S' CS h1;rw[Q0l q1]at h6;have iO:=KS (bz.flatMap λv=>v.refs++v.cp) [] List.nodup_nil;generalize vT (bz.flatMap λv=>v.refs++v.cp) []=ids at *;have jq:∀ id,id∈ids->eD xs+eX xs<=id:=λid bp=>Nat.le_of_ble_eq_true (List.all_eq_true.1 q2.2 id bp);have KU:Cy (eD xs) (eX xs) ids σ.aH (pY bz).aH=some ⟨((pY bz).rn ids).aH,(ids.map λid=>(σ.H id).rn ids).map aG.aH,cL.map (·.map TV.aW),true,gs.map aG.aH⟩:=by
   unfold Cy;have h2:=WG tn;have h2:qT σ.aH.h (eD xs) 0=some (cL.map (·.map TV.aW)):=h2;have h3:=KT qQ;have h3:pI σ.aH.h (eX xs) (eD xs)=some (gs.map aG.aH):=h3;rw[h2,h3];simp only;congr 2
   ·rw[QZm]
    match bz,q1 with
    | [],_=>exact .inr ⟨[],rfl⟩
    | [x],q1=>left;rw[List.all_cons,List.all_nil,Bool.and_true]at q1;exact q1
    | x::y::l,_=>exact .inr ⟨_,rfl⟩
   ·rw[List.map_map];congr 1
    funext id
    exact(QW9 ids _).symm
  obtain⟨ι',post⟩:=QNz jG jO S' iO jq KU h6;have zp:i7 w F0 lb gb (aJ.aH ⟨(pY bz).rn ids,ids.map λid=>(σ.H id).rn ids,cL,!(((pY bz).rn ids).free&&cL.isEmpty&&(ids.map λid=>(σ.H id).rn ids).all aG.free&&gs.isEmpty),gs⟩) u w' ι':=by
   unfold aJ.aH;simp only
   cases dY:((pY bz).rn ids).free&&cL.isEmpty&&(ids.map λid=>(σ.H id).rn ids).all aG.free&&gs.isEmpty with
   | false=>exact post
   | true =>
    simp only[Bool.and_eq_true,List.isEmpty_iff]at dY;obtain⟨⟨⟨e1,e2⟩,e3⟩,e4⟩:=dY;subst e2;subst e4;refine i7.free (QPR e1) (λx hx=>?_) post;obtain⟨y,hy,rfl⟩:=List.mem_map.1 hx;exact QRY (List.all_eq_true.1 e3 y hy)
  have key:a.defers=[]/\∃ v,(results fn a.tmps).run P w' = .ok v w'/\∃ v1 ι,Ending.returned v = .returned v1/\i7 w F0 lb gb (aJ.aH ⟨(pY bz).rn ids,ids.map λid=>(σ.H id).rn ids,cL,!(((pY bz).rn ids).free&&cL.isEmpty&&(ids.map λid=>(σ.H id).rn ids).all aG.free&&gs.isEmpty),gs⟩) v1 w' ι :=
   ⟨S'.defers,u,h5,u,_,rfl,zp⟩
  cases e with
  | normal=>exact key
  | ret=>exact key
  | exit id=>exact absurd rfl (he id)
mutual
def CT.bd:(t:CT)->t.den->Prop
 | .int _,_=>True
 | .bool,_=>True
 | .str,_=>True
 | .dS,_=>True
 | .sl ts,l=>List.length l<=maxLen/\∀ x:aV ts,x∈(l:List (aV ts))->aV.bd ts x
def aV.bd:(ts:List CT)->aV ts->Prop
 | [],_=>True
 | t::ts,x=>t.bd (hd ts x)/\aV.bd ts (tl ts x)
end
def tQ(ts:List CT)(es:List (aV ts)):Prop:=List.length es<=maxLen/\∀ x:aV ts,x∈es->aV.bd ts x
def TV.zq:TV->Prop
 | .c t x=>t.bd x
 | .ow _ ts .ow es=>tQ ts es
 | .ow _ ts (.dp _ _ []) es=>tQ ts es
 | _=>True
def TV.zr:List TV->Prop
 | []=>True
 | x::xs=>x.zq/\TV.zr xs
def TV.bd:TV->Prop
 | .a cs=>TV.zr cs
 | .bx cs=>TV.zr cs
 | x=>x.zq
def C4:List TV->Prop
 | []=>True
 | x::xs=>x.bd/\C4 xs
mutual
theorem WN{w:World}{F:Nat->Prop}:∀(t:CT)(x:t.den)(v:Value),Rd w F v (enc t x)->t.bd x
 | .int _,_,_,_=>by rw[CT.bd];trivial
 | .bool,_,_,_=>by rw[CT.bd];trivial
 | .str,_,_,_=>by rw[CT.bd];trivial
 | .dS,_,_,_=>by rw[CT.bd];trivial
 | .sl ts,l,v,h=>by
  rw[enc]at h
  rw[CT.bd]
  generalize gW:List.map (a9 ts) l=es at h
  have hl:List.length l=es.length:=by rw[<- gW,List.length_map]
  generalize b7:ts.length=sz at h
  cases h with
  | nil =>
   have:l=[]:=by simpa using gW
   subst this
   exact⟨Nat.zero_le _,λx hx=>by cases hx⟩
  | emp =>
   have:l=[]:=by simpa using gW
   subst this
   exact⟨Nat.zero_le _,λx hx=>by cases hx⟩
  | sl b o len cap _ _ xv hlen cr dj d5 hb hc hr =>
   refine⟨by rw[hl,hlen];exact dj,λx hx=>?_⟩
   obtain⟨i,hi⟩:=List.getElem?_of_mem hx
   have he:es[i]? = some (a9 ts x):=by rw[<- gW,List.getElem?_map,hi];rfl
   exact KV ts x (λj d hj=>⟨_,hr i j _ d he hj⟩)
theorem KV{w:World}{F:Nat->Prop}:∀(ts:List CT)(x:aV ts),(∀(j:Nat)(d:D),(a9 ts x)[j]? = some d->∃ v,Rd w F v d)->aV.bd ts x
 | [],_,_=>by rw[aV.bd];trivial
 | t::ts,x,h=>by
  rw[a9]at h
  rw[aV.bd]
  obtain⟨v,hv⟩:=h 0 _ rfl
  exact⟨WN t _ v hv,KV ts _ (λj d hj=>h (j+1) d (by simpa using hj))⟩
end
mutual
theorem QKr{w:World}{K:Nat->Option (Nat × cM)}{id:Nat}:∀(t:CT)(x:t.den)(v:Value)(p:cM),RL w K id p v (enc t x)->t.bd x
 | .int _,_,_,_,_=>by rw[CT.bd];trivial
 | .bool,_,_,_,_=>by rw[CT.bd];trivial
 | .str,_,_,_,_=>by rw[CT.bd];trivial
 | .dS,_,_,_,_=>by rw[CT.bd];trivial
 | .sl ts,l,v,p,h=>by
  rw[enc]at h
  rw[CT.bd]
  generalize gW:List.map (a9 ts) l=es at h
  have hl:List.length l=es.length:=by rw[<- gW,List.length_map]
  generalize b7:ts.length=sz at h
  cases h with
  | nil =>
   have:l=[]:=by simpa using gW
   subst this
   exact⟨Nat.zero_le _,λx hx=>by cases hx⟩
  | emp =>
   have:l=[]:=by simpa using gW
   subst this
   exact⟨Nat.zero_le _,λx hx=>by cases hx⟩
  | sl _ b o len cap _ _ cur e0 xv hz dk hlen cr dj d5 hk hb hle hc hr =>
   refine⟨by rw[hl,hlen];exact dj,λx hx=>?_⟩
   obtain⟨i,hi⟩:=List.getElem?_of_mem hx
   have he:es[i]? = some (a9 ts x):=by rw[<- gW,List.getElem?_map,hi];rfl
   exact KW ts x (λj d hj=>⟨_,_,hr i j _ d he hj⟩)
theorem KW{w:World}{K:Nat->Option (Nat × cM)}{id:Nat}:∀(ts:List CT)(x:aV ts),(∀(j:Nat)(d:D),(a9 ts x)[j]? = some d->∃ v p,RL w K id p v d)->aV.bd ts x
 | [],_,_=>by rw[aV.bd];trivial
 | t::ts,x,h=>by
  rw[a9]at h
  rw[aV.bd]
  obtain⟨v,p,hv⟩:=h 0 _ rfl
  exact⟨QKr t _ v p hv,KW ts _ (λj d hj=>h (j+1) d (by simpa using hj))⟩
end
theorem C5{w:World}{F:Nat->Prop}{ι:Io}{h:Nat->aX}{v:Value}:∀ {x:TV},VR w F ι h v x.aW->x.zq
 | .c t x,hv=>by cases hv with | c v d hr=>exact WN t x v hr
 | .ow ..,hv=>by cases hv
 | .u,_=>trivial
 | .n _,_=>trivial
 | .r ..,_=>trivial
 | .p ..,_=>trivial
 | .q ..,_=>trivial
 | .a _,_=>trivial
 | .tp _,_=>trivial
 | .bx _,_=>trivial
 | .bs ..,_=>trivial
 | .bq ..,_=>trivial
 | .g ..,_=>trivial
theorem WO{w:World}{F:Nat->Prop}{v:Value}{x:Hd}{e:TypeId}{ts:List CT}{m:Mo}{es:List (aV ts)}(hv:mJ w F v x e ts.length m (es.map (a9 ts))):(TV.ow e ts m es).zq:=by
 have key:m.full=true->tQ ts es:=by
  intro hf;have vB:=hv.br;rw[hv.hB]at vB;generalize hq:es.map (a9 ts)=fk at vB
  cases vB with
  | slnil =>
   have:es=[]:=by simpa using hq
   subst this;exact⟨Nat.zero_le _,λx hx=>by cases hx⟩
  | sl bk _ e0 _ _ _ cur hz hi hb fj hle dj b7 j0 =>
   refine⟨by rw[<- hq,List.length_map]at dj;exact dj,λx hx=>?_⟩;obtain⟨i,cc⟩:=List.getElem?_of_mem hx;have he:fk[i]? = some (a9 ts x):=by rw[<- hq,List.getElem?_map,cc];rfl
   cases m with
   | dp g t H =>
    cases H with
    | nil=>exact KW ts x (λj d hj=>let⟨v,_,h2⟩:=j0 i j _ d he hj;⟨v,_,h2.2 (by simp)⟩)
    | cons=>cases hf
   | _=>exact KV ts x (λj d hj=>let⟨v,_,h2⟩:=j0 i j _ d he hj;⟨v,h2⟩)
 cases m with
 | fz=>trivial
 | ow=>exact key rfl
 | dp g t H =>
  cases H with
  | nil=>exact key rfl
  | cons=>trivial
theorem KX:∀ {cs:List TV},(∀(k:Nat)(x:TV),cs[k]? = some x->x.zq)->TV.zr cs
 | [],_=>trivial
 | x::xs,h=>⟨h 0 x rfl,KX λk y hy=>h (k+1) y (by simpa using hy)⟩
theorem zt{w:World}{F:Nat->Prop}:∀ {cs:List TV} {vs:List Value} {lb:List Nat} {gb:List Hd},eO w F vs (cs.map TV.aW) lb gb->TV.zr cs
 | [],vs,lb,gb,_=>trivial
 | x::cs,vs,lb,gb,hA=>by
  rw[List.map_cons]at hA;generalize hy:x.aW=y at hA;generalize jC:cs.map TV.aW=ys at hA
  cases hA with
  | eW v _ vs _ lb gb hv hr hx =>
   subst jC;subst hy;exact⟨C5 hv,zt hr⟩
  | own v o e sz m es vs _ lb gb hv hn hr =>
   subst jC;refine⟨?_,zt hr⟩
   cases x with
   | ow e' ts mm bZ =>
    simp only[TV.aW]at hy;injection hy with q1 q2 q3 q4;subst q1;subst q2;subst q3;subst q4;exact WO hv
   | _=>trivial
  | box b e bz cs' vs _ lb gb hb hd hc hn hg hr =>
   subst jC;refine⟨?_,zt hr⟩
   cases x with
   | c t x=>cases hy
   | ow e' ts mm bZ=>cases hy
   | _=>trivial
  | agg arr cs' vs _ lb g1 gb hc hk h1 hn hr =>
   subst jC;refine⟨?_,zt hr⟩
   cases x with
   | c t x=>cases hy
   | ow e' ts mm bZ=>cases hy
   | _=>trivial
theorem zu{w:World}{F:Nat->Prop}:∀ {xs:List TV} {vs:List Value} {lb:List Nat} {gb:List Hd},eO w F vs (xs.map TV.aH) lb gb->xs.all TV.ng=true->C4 xs
 | [],vs,lb,gb,_,_=>trivial
 | x::xs,vs,lb,gb,hA,cC=>by
  rw[List.all_cons,Bool.and_eq_true]at cC;rw[List.map_cons]at hA;generalize hy:x.aH=y at hA;generalize jC:xs.map TV.aH=ys at hA
  cases hA with
  | eW v _ vs _ lb gb hv hr hx =>
   subst jC;refine⟨?_,zu hr cC.2⟩
   cases x with
   | a cs =>
    subst hy
    cases hv with
    | a va _ hl h1 hv =>
     refine KX λk z hz=>?_;have aY:k<va.size:=by rw[hl,List.length_map];exact(List.getElem?_eq_some_iff.1 hz).1
     exact C5 (hv k va[k] z.aW (by simp[aY]) (by rw[List.getElem?_map,hz];rfl))
   | bx cs=>subst hy;simp[TV.aH,AV.eW]at hx
   | ow e ts m es=>subst hy;simp[TV.aH,TV.cw,TV.aW,AV.eW]at hx
   | g b v=>exact absurd cC.1 (by simp[TV.ng])
   | c t z=>subst hy;exact C5 (x:=.c t z) hv
   | _=>trivial
  | own v o e sz m es vs _ lb gb hv hn hr =>
   subst jC;refine⟨?_,zu hr cC.2⟩
   cases x with
   | ow e' ts mm bZ =>
    simp only[TV.aH,TV.cw,TV.aW]at hy;injection hy with q1 q2 q3 q4;subst q1;subst q2;subst q3;subst q4;exact WO hv
   | g b v=>exact absurd cC.1 (by simp[TV.ng])
   | a cs=>simp only[TV.aH,TV.cw]at hy;cases hy
   | bx cs=>simp only[TV.aH]at hy;cases hy
   | _=>trivial
  | box b e bz cs vs _ lb gb hb hd hc hn hg hr =>
   subst jC;refine⟨?_,zu hr cC.2⟩
   cases x with
   | bx ds =>
    simp only[TV.aH]at hy;injection hy with hy;subst hy;refine KX λk z hz=>?_;have aY:k<bz.size:=by rw[hd.size,List.length_map];exact(List.getElem?_eq_some_iff.1 hz).1
    exact C5 (hd.vr k bz[k] z.aW (by simp[aY]) (by rw[List.getElem?_map,hz];rfl))
   | g b v=>exact absurd cC.1 (by simp[TV.ng])
   | a cs=>simp only[TV.aH,TV.cw]at hy;cases hy
   | ow e ts m es=>simp only[TV.aH,TV.cw,TV.aW]at hy;cases hy
   | _=>trivial
  | agg arr cs vs _ lb g1 gb hc hk h1 hn hr =>
   subst jC;refine⟨?_,zu hr cC.2⟩
   cases x with
   | a ds =>
    simp only[TV.aH,TV.cw]at hy;injection hy with hy;subst hy;exact zt hc
   | g b v=>exact absurd cC.1 (by simp[TV.ng])
   | bx cs=>simp only[TV.aH]at hy;cases hy
   | ow e ts m es=>simp only[TV.aH,TV.cw,TV.aW]at hy;cases hy
   | c t z=>simp only[TV.aH,TV.cw,TV.aW]at hy;cases hy
   | _=>trivial
theorem QZC{P:Program}{f:FuncId}{xs:List TV}{r:aJ}(cC:xs.all TV.ng=true)(h:C4 xs->aR P f xs r):aR P f xs r :=
 λw F0 vs lb gb hA hF=>h (zu hA cC) w F0 vs lb gb hA hF
end Go.Proofs.YtdplaepmjogjjaaGreat.Am

set_option linter.all false
namespace Go.Proofs.YtdplaepmjogjjaaGreat.Am
open Go Go.RowKit Go.Proofs.YtdplaepmjogjjaaGreat
abbrev TI:CT:=.int .i64
abbrev aI(x:Int):Int:=IntKind.i64.wrap x
def Loop(Γ:aN)(nl:Nat)(L:List (Nat × Md))(x:af)(Q:Qb)(s:cD):Prop :=
 CV (λR s=>aU Γ nl x (ba (λs'=>R (gc nl L s')) Q) s) s
theorem QK8{Γ:aN}{nl:Nat}{L:List (Nat × Md)}{x:af}{Q:Qb}{s:cD}
  (h:aU Γ nl x (ba (λs'=>Loop Γ nl L x Q (gc nl L s')) Q) s):Loop Γ nl L x Q s:=Q4d h
structure cz(p:Prop):Prop where
 h:p
theorem cz.of{p F:Prop}(h:F)(e:F=p:=by kernel_rfl):cz p:=⟨e ▸ h⟩
theorem Loop.of{Γ:aN}{nl:Nat}{L:List (Nat × Md)}{x:af}{Q:Qb}{s:cD}{F:Prop}
  (h:F) (e:F=aU Γ nl x (ba (λs'=>Loop Γ nl L x Q (gc nl L s')) Q) s:=by kernel_rfl):Loop Γ nl L x Q s:=QK8 (e ▸ h)
def aq{α:Type}(d:α)(l:List α)(i:Nat):α:=l.getD i d
@[reducible] def Sh.den:Sh->Type
 | .c t=>t.den
 | .a ts=>aV ts
 | .b ts=>aV ts
 | .o _ ts=>List (aV ts)
 | .d ts=>List (aV ts)
 | .s ts=>aV ts
@[reducible] def iF:List Sh->Type
 | []=>Unit
 | s::ss=>s.den × iF ss
def WQ:(t:CT)->t.den->TV
 | .sl us,l=>.ow 0 us dw l
 | .int k,x=>.c (.int k) x
 | .bool,x=>.c .bool x
 | .str,x=>.c .str x
 | .dS,x=>.c .dS x
def aV.jj:(ts:List CT)->aV ts->List TV
 | [],_=>[]
 | t::ts,x=>WQ t (hd ts x)::aV.jj ts (tl ts x)
def Sh.val:(s:Sh)->s.den->TV
 | .c t,x=>.c t x
 | .a ts,x=>.a (aV.cells ts x)
 | .b ts,x=>.bx (aV.cells ts x)
 | .o e ts,x=>.ow e ts .ow x
 | .d ts,x=>.ow 0 ts dw x
 | .s ts,x=>.a (aV.jj ts x)
def kA:(ss:List Sh)->iF ss->List TV
 | [],_=>[]
 | s::ss,x=>s.val x.1::kA ss x.2
def jk(t:CT):TV->Option t.den
 | .c t' x=>if e:t'.beq t=true then some (CB e x) else none
 | _=>none
def kB:(ts:List CT)->List TV->Option (aV ts)
 | [],xs=>match xs with
  | []=>some ()
  | _=>none
 | t::ts,xs=>match xs with
  | x::xs=>match jk t x,kB ts xs with
   | some a,some b=>some (mX ts a b)
   | _,_=>none
  | []=>none
def zv:Mo->Bool
 | .ow=>true
 | _=>false
def lM(m0:Mo->Bool)(e:TypeId)(ts:List CT):TV->Option (List (aV ts))
 | .ow e' cl m es=>if q:CT.dC cl ts=true then(bif Nat.beq e' e&&m0 m then some (vE q es) else none) else none
 | _=>none
def zw:(t:CT)->TV->Option t.den
 | .sl us,x=>lM lG 0 us x
 | .int k,x=>jk (.int k) x
 | .bool,x=>jk .bool x
 | .str,x=>jk .str x
 | .dS,x=>jk .dS x
def lN:(ts:List CT)->List TV->Option (aV ts)
 | [],xs=>match xs with
  | []=>some ()
  | _=>none
 | t::ts,xs=>match xs with
  | x::xs=>match zw t x,lN ts xs with
   | some a,some b=>some (mX ts a b)
   | _,_=>none
  | []=>none
def Sh.dec:(s:Sh)->TV->Option s.den
 | .c t,x=>jk t x
 | .a ts,x=>match x with
  | .a cs=>kB ts cs
  | _=>none
 | .b ts,x=>match x with
  | .bx cs=>kB ts cs
  | _=>none
 | .o e ts,x=>lM zv e ts x
 | .d ts,x=>lM lG 0 ts x
 | .s ts,x=>match x with
  | .a cs=>lN ts cs
  | _=>none
def lO:(ss:List Sh)->List TV->Option (iF ss)
 | [],xs=>match xs with
  | []=>some ()
  | _=>none
 | s::ss,xs=>match xs with
  | x::xs=>match s.dec x,lO ss xs with
   | some a,some b=>some (a,b)
   | _,_=>none
  | []=>none
theorem KY{t:CT}{v:TV}{x:t.den}(h:jk t v=some x):v = .c t x:=by
 cases v with
 | c t' y =>
  simp only[jk]at h
  split at h
  ·rename_i e;have e':=CT.beq_eq _ _ e;subst e'
   cases h;rfl
  ·cases h
 | _=>simp[jk]at h
theorem KZ:∀ {ts:List CT} {vs:List TV} {x:aV ts},kB ts vs=some x->vs=aV.cells ts x
 | [],vs,x,h=>by
  cases vs with
  | nil=>rfl
  | cons v vs=>simp[kB]at h
 | t::ts,vs,x,h=>by
  cases vs with
  | nil=>simp[kB]at h
  | cons v vs =>
   simp only[kB]at h
   split at h
   rotate_left
   ·cases h
   rename_i a b h1 h2
   cases h;rw[aV.cells,KY h1,KZ h2,yN,yO]
theorem QJ7{m:Mo}(h:zv m=true):m = .ow:=by
 cases m <;> first | rfl | cases h
theorem K0{m0:Mo->Bool}{m1:Mo}(hm:∀ m,m0 m=true->m=m1){e:TypeId}{ts:List CT}{v:TV}{x:List (aV ts)}(h:lM m0 e ts v=some x):v = .ow e ts m1 x:=by
 cases v with
 | ow e' cl m es =>
  simp only[lM]at h
  split at h
  ·rename_i q;have q':=CT.b6 _ _ q;subst q'
   cases hb:Nat.beq e' e&&m0 m with
   | false=>rw[hb]at h;cases h
   | true =>
    rw[hb]at h
    cases h;rw[Bool.and_eq_true]at hb;have:=Nat.eq_of_beq_eq_true hb.1;subst this;rw[hm m hb.2];rfl
  ·cases h
 | _=>simp[lM]at h
theorem QKQ{t:CT}{v:TV}{x:t.den}(h:zw t v=some x):v=WQ t x:=by
 cases t with
 | sl us=>exact K0 (λ_=>C1) h
 | _=>exact KY h
theorem WR:∀ {ts:List CT} {vs:List TV} {x:aV ts},lN ts vs=some x->vs=aV.jj ts x
 | [],vs,x,h=>by
  cases vs with
  | nil=>rfl
  | cons v vs=>simp[lN]at h
 | t::ts,vs,x,h=>by
  cases vs with
  | nil=>simp[lN]at h
  | cons v vs =>
   simp only[lN]at h
   split at h
   rotate_left
   ·cases h
   rename_i a b h1 h2
   cases h;rw[aV.jj,QKQ h1,WR h2,yN,yO]
theorem QM8{s:Sh}{v:TV}{x:s.den}(h:s.dec v=some x):v=s.val x:=by
 cases s with
 | c t=>exact KY h
 | a ts =>
  cases v with
  | a cs=>exact congrArg TV.a (KZ h)
  | _=>simp[Sh.dec]at h
 | b ts =>
  cases v with
  | bx cs=>exact congrArg TV.bx (KZ h)
  | _=>simp[Sh.dec]at h
 | o e ts=>exact K0 (λ_=>QJ7) h
 | d ts=>exact K0 (λ_=>C1) h
 | s ts =>
  cases v with
  | a cs=>exact congrArg TV.a (WR h)
  | _=>simp[Sh.dec]at h
theorem WS:∀ {ss:List Sh} {vs:List TV} {x:iF ss},lO ss vs=some x->vs=kA ss x
 | [],vs,x,h=>by
  cases vs with
  | nil=>rfl
  | cons v vs=>simp[lO]at h
 | s::ss,vs,x,h=>by
  cases vs with
  | nil=>simp[lO]at h
  | cons v vs =>
   simp only[lO]at h
   split at h
   rotate_left
   ·cases h
   rename_i a b h1 h2
   cases h;rw[kA,QM8 h1,WS h2]
def Qg(f:FuncId)(sg:List Sh)(g:iF sg->Option Prop × aJ):aP:=⟨f,sg,λvs=>match lO sg vs with
 | some x=>some (g x)
 | none=>none⟩
theorem Qh{P:Program}{f:FuncId}{sg:List Sh}{g:iF sg->Option Prop × aJ}(h:∀ x:iF sg,holds (g x).1->aR P f (kA sg x) (g x).2):Qf P (Qg f sg g):=by
 intro vs pre r hf hr hp;simp only[Qg]at hr
 split at hr
 ·rename_i x hx;rw[WS hx]
  cases hg:g x with
  | mk p r' =>
   rw[hg]at hr
   cases hr;have:=h x;rw[hg]at this;exact this hp
 ·cases hr
theorem Q2D{P:Program}{Γ:aN}{f:FuncId}{tc:af}{rs:List (bw × Md)}{n nb no:Nat}{xs:List TV}{r:aJ}{sg:List Sh}(hm:P.follows .mixedOrders=true)(hΓ:zj P Γ)(hs:yG P f=some (tc.er,rs.map Prod.fst,n))
  (gy:Yv sg xs=true) (hN:Nat.ble xs.length n=true) (jG:eD xs=nb) (fK:eX xs=no) (h:cz (aU Γ (nb+no) tc (TQ nb no rs (λr'=>r'=r)) (tN xs))):aR P f xs r:=by
 subst jG;subst fK;exact QJu hm hΓ hs gy (Nat.le_of_ble_eq_true hN) h.h
theorem QPZ:Tryz.prog.follows .mixedOrders=true:=by kernel_rfl
end Go.Proofs.YtdplaepmjogjjaaGreat.Am
namespace Go.Proofs.YtdplaepmjogjjaaGreat.Am
open Go Go.RowKit Go.Proofs.YtdplaepmjogjjaaGreat
theorem Qy{x:Int}(h1:-9223372036854775808<=x)(h2:x<9223372036854775808):aI x=x:=IntWalk.i64_in x (by omega)
theorem Z2{α:Type}{l r:List α}{x:α}{k:Nat}(h:l.drop k=x::r)(d:α):aq d l k=x:=by
 unfold aq;have:l[k]? = some x:=by
  have:=congrArg List.head? h;simpa[List.head?_drop]using this
 rw[List.getD_eq_getElem?_getD,this];rfl
theorem zx{α:Type}{l r:List α}{x:α}{k:Nat}(h:l.drop k=x::r):k<l.length:=by
 apply Classical.byContradiction;intro hn;rw[List.drop_eq_nil_of_le (by omega)]at h
 cases h
theorem ZW{α:Type}{l r:List α}{x:α}{k:Nat}(h:l.drop k=x::r):l.drop (k+1)=r:=by
 have:=congrArg List.tail h;simpa[List.tail_drop]using this
theorem Zd{α:Type}(l:List α)(P:List α->Nat->Prop)(h0:P [] l.length)(hs:∀(k:Nat)(x:α)(r:List α),l.drop k=x::r->k<l.length->(∀ d,aq d l k=x)->P r (k+1)->P (x::r) k):P l 0:=by
 suffices ∀(r:List α)(k:Nat),l.drop k=r->k<=l.length->P r k from this l 0 rfl (Nat.zero_le _)
 intro r
 induction r with
 | nil =>
  intro k hk hle;have:l.length<=k:=by simpa using hk
  rw[show k=l.length by omega];exact h0
 | cons x r ih =>
  intro k hk hle;have aY:=zx hk;exact hs k x r hk aY (Z2 hk) (ih (k+1) (ZW hk) aY)
theorem JN(n:Nat)(P:Nat->Prop)(h0:P n)(hs:∀ k,k<n->P (k+1)->P k):P 0:=by
 suffices ∀ j k,k+j=n->P k from this n 0 (by omega)
 intro j
 induction j with
 | zero=>intro k hk;rw[show k=n by omega];exact h0
 | succ j ih=>intro k hk;exact hs k (by omega) (ih (k+1) (by omega))
class Sz(α:Type) where
 sz:α->Nat
instance:Sz Int:=⟨λ_=>0⟩
instance:Sz Bool:=⟨λ_=>0⟩
instance:Sz ByteArray:=⟨λ_=>0⟩
instance {α β:Type} [Sz α] [Sz β]:Sz (α × β):=⟨λx=>Sz.sz x.1+Sz.sz x.2⟩
def WT{α:Type}[Sz α]:List α->Nat
 | []=>0
 | x::r=>1+Sz.sz x+WT r
instance {α:Type} [Sz α]:Sz (List α):=⟨WT⟩
open Sz
@[simp] theorem Q1(x:Int):sz x=0:=rfl
@[simp] theorem ZJ(x:Bool):sz x=0:=rfl
@[simp] theorem JA{α β:Type}[Sz α][Sz β](x:α)(y:β):sz (x,y)=sz x+sz y:=rfl
theorem Q9{α β:Type}[Sz α][Sz β](x:α × β):sz x=sz x.1+sz x.2:=rfl
@[simp] theorem Q4z{α:Type}[Sz α]:sz ([]:List α)=0:=rfl
@[simp] theorem YZ{α:Type}[Sz α](x:α)(r:List α):sz (x::r)=1+sz x+sz r:=rfl
@[simp] theorem zy{α:Type}[Sz α](l r:List α):sz (l++r)=sz l+sz r:=by
 induction l with
 | nil=>simp
 | cons x l ih=>simp[ih];omega
theorem Yk{α:Type}[Sz α](l:List α):l.length<=sz l:=by
 induction l with
 | nil=>simp
 | cons x l ih=>simp;omega
theorem ZR(l:List Int):sz l=l.length:=by
 induction l with
 | nil=>rfl
 | cons x l ih=>simp[ih];omega
theorem C6{α:Type}[Sz α]{l:List α}{x:α}(h:x∈l):sz x<sz l:=by
 induction l with
 | nil=>cases h
 | cons y l ih =>
  rcases List.mem_cons.1 h with rfl | h
  ·simp;omega
  ·have:=ih h;simp;omega
theorem vU{α:Type}[Sz α]{l r:List α}{x:α}{k:Nat}(h:l.drop k=x::r):sz x<sz l:=C6 (List.mem_of_mem_drop (by rw[h];exact List.mem_cons_self))
theorem K2{α:Type}[Sz α](l:List α)(k:Nat):sz (l.take k)+sz (l.drop k)=sz l:=by
 rw[<- zy,List.take_append_drop]
theorem zA{α:Type}[Sz α](l:List α)(k:Nat):sz (l.take k)<=sz l:=by have:=K2 l k;omega
theorem K3{α:Type}[Sz α](l:List α)(k:Nat):sz (l.drop k)<=sz l:=by have:=K2 l k;omega
theorem QY:(bP:Nat)=4294967296:=rfl
theorem jV:((bP:Nat):Int)=4294967296:=rfl
theorem au{α:Type}{R:α->aJ}{x y:α}(h:x=y):R x=R y:=by rw[h]
end Go.Proofs.YtdplaepmjogjjaaGreat.Am
namespace Go.Proofs.YtdplaepmjogjjaaGreat.Am
open Go Go.RowKit
instance (n:Nat):OfNat bJ n:=⟨.s n⟩
abbrev aO(n:Int):TV:=.c TI n
abbrev bH(b:Bool):TV:=.c .bool b
abbrev bu(ts:List CT)(x:List (aV ts)):TV:=.c (.sl ts) x
def aw(n:Int):bJ:=.k (.c TI n)
def bm(b:Bool):bJ:=.k (.c .bool b)
def aD(d:Nat)(x:eB):bI:=.op (some d) x
def ab(d:Nat)(x:bJ):bI:=.op (some d) (.eY x)
def ar(d:Nat)(x:bJ)(n:Nat):bI:=.op (some d) (.load x n false)
def aZ(d:Nat)(x:bJ)(n:Nat):bI:=.op (some d) (.load x n true)
def an(d:Nat)(x:bJ)(o:Nat):bI:=.op (some d) (.lj x o)
def bh(d:Nat)(x:bJ):bI:=.op (some d) (.len x)
def az(d:Nat)(o:BinOp)(x y:bJ):bI:=.op (some d) (.bin o x y)
def a8(x v:bJ)(n:Nat):bI:=.op none (.store x v n)
def aL(d:Nat)(f:FuncId)(l:List bJ):bI:=.op (some d) (.call f l)
def bn(d:Nat)(x i:bJ)(ts:List CT):bI:=.op (some d) (.j9 x i ts)
def bL(d:Nat)(x:bJ):bI:=.op (some d) (.not x)
def bF(d:Nat)(x:bJ)(i:Nat):bI:=.op (some d) (.ext x i)
def ag:List af->af
 | []=>.skip
 | [x]=>x
 | x::y::r=>.seq x (ag (y::r))
def z01:CT->TV
 | .int k=>.c (.int k) (0:Int)
 | .bool=>.c .bool false
 | .str=>.c .str ⟨#[]⟩
 | .dS=>.c .dS ()
 | .sl ts=>.n ts
def bC:List CT->List TV
 | []=>[]
 | t::ts=>z01 t::bC ts
abbrev aS(c:Bool)(A B:Prop):Prop:=(c=true->A)/\(c=false->B)
def ij(l:List Nat):List (Nat × Md):=l.map λi=>(i,.one .d)
def da(n:Nat):List j7:=List.replicate n .d
@[reducible] def cd(v:TV):aJ:=⟨v,[],[],false,[]⟩
@[reducible] def f0(v:TV):aJ:=⟨v,[],[],true,[]⟩
theorem tcg{P:Program}{Γ:aN}{f:FuncId}{tc:af}{rs:List (bw × Md)}{n nb no:Nat}{xs:List TV}{r:aJ}{sg:List Sh}(hm:P.follows .mixedOrders=true)(hΓ:zj P Γ)(hs:yG P f=some (tc.er,rs.map Prod.fst,n))
  (hq:((Yv sg xs&&Nat.ble xs.length n)&&(Nat.beq (eD xs) nb&&Nat.beq (eX xs) no))=true) (h:cz (aU Γ (nb+no) tc (TQ nb no rs (λr'=>r'=r)) (tN xs))):aR P f xs r:=by
 simp only[Bool.and_eq_true]at hq;exact Q2D hm hΓ hs hq.1.1 hq.1.2 (Nat.eq_of_beq_eq_true hq.2.1) (Nat.eq_of_beq_eq_true hq.2.2) h
theorem bD(Γ:aN)(tc:af)(rs:List (bw × Md))(nb no n:Nat)(row:aP){f:FuncId}{xs:List TV}{r:aJ}(hΓ:zj Tryz.prog Γ)(F:(aJ->Prop)->Prop)(h:C4 xs->F (λr'=>r'=r))
  (hx:xs.all TV.ng=true:=by exact rfl) (hs:yG Tryz.prog f=some (tc.er,rs.map Prod.fst,n):=by kernel_rfl)
  (hq:((Yv row.sg xs&&Nat.ble xs.length n)&&(Nat.beq (eD xs) nb&&Nat.beq (eX xs) no))=true:=by kernel_rfl) (e:∀ K,F K=aU Γ (nb+no) tc (TQ nb no rs K) (tN xs):=by intro K;kernel_rfl):aR Tryz.prog f xs r :=
 QZC hx λhb=>tcg QPZ hΓ hs hq ⟨e _ ▸ h hb⟩
theorem kc{P:Program}{row:aP}{Γ:List aP}(h:Qf P row)(hs:iE P Γ):iE P (row::Γ):=iE.cons h hs
theorem kn{P:Program}:iE P []:=iE.nil
end Go.Proofs.YtdplaepmjogjjaaGreat.Am
namespace Go.Proofs.YtdplaepmjogjjaaGreat.Am
open Sz
abbrev bE:=Int × Int
abbrev Zl:=Int × List Int
abbrev aE:=Int × Int × Int × List Int
abbrev ZI:=Int × List (List Int)
abbrev Qi:=List Int × List Int
abbrev Qd:=Int × List Zl
abbrev QL:=List (List Int) × Int × Bool
def QOx{α:Type}(_:α):Bool:=true
def K4{α β:Type}(_:α)(_:β):Bool:=true
def QPJ{α β γ:Type}(_:α)(_:β)(_:γ):Bool:=true
def QYU{α β γ δ:Type}(_:α)(_:β)(_:γ)(_:δ):Bool:=true
def QR1{α β γ δ ε:Type}(_:α)(_:β)(_:γ)(_:δ)(_:ε):Bool:=true
def Jj(n:Nat)(left:Int):Int:=if(n:Int)<=left then left-n else -1
def bS{α:Type}[Sz α](x:α)(left:Int):Int:=Jj (sz x) left
def pl(left:Int):Prop:=-1<=left/\left<=1048576
def cS{α:Type}[Sz α](_:α)(left:Int):Prop:=pl left
def bK{α:Type}[DecidableEq α](x y:α):Bool:=decide (x=y)
def cP{α:Type}[Sz α](x:α):Prop:=sz x<=1048576
def aT(x a b:Int):Bool:=decide (a<=x)&&decide (x<=b)
def Zj(x:Int):Bool:=decide (-2147483647<=x)&&decide (x<=2147483647)
def ZT(v:List Int):Bool:=v.all Zj
def QH(v:List Int):Bool:=aT v.length 1 6&&ZT v
def Yq(x:Zl):Bool:=QH x.2&&decide (0<=x.1)&&decide (x.1<5)
def Q3(q:Qd):Bool:=decide (1<=q.1)&&decide (q.1<=5)&&decide ((q.2.length:Int)<=q.1)&&q.2.all Yq
end Go.Proofs.YtdplaepmjogjjaaGreat.Am
namespace Go.Proofs.YtdplaepmjogjjaaGreat.Am
open Go Sz
abbrev Zo:=List aE
abbrev Qc:=Int × List bE × List aE × Bool × Bool × List ZI × List (List Int) × List Int × List Int × List Int × List Int × List (List Int) × Int × Bool
abbrev QC:=List aE × List Int × Int × List Bool × List Int × List Int
abbrev Ql:=List Qi × List Qc × List Qd × List Qd
abbrev cm:=Int × Int × List Int
abbrev bY:aE:=(0,0,0,[])
abbrev f5:bE:=(0,0)
abbrev Zb:ZI:=(0,[])
abbrev QP:Qi:=([],[])
abbrev QI:Qd:=(0,[])
abbrev QE:Qc:=(0,[],[],false,false,[],[],[],[],[],[],[],0,false)
abbrev Qs:List CT:=[.int .i64,.int .i64]
abbrev QT:List CT:=[.int .i64,.sl [.int .i64]]
abbrev aK:List CT:=[.int .i64,.int .i64,.int .i64,.sl [.int .i64]]
abbrev QX:List CT:=[.int .i64,.sl [.sl [.int .i64]]]
abbrev Qp:List CT:=[.sl [.int .i64],.sl [.int .i64]]
abbrev Qj:List CT:=[.int .i64,.sl QT]
abbrev Q2:List CT:=[.sl [.sl [.int .i64]],.int .i64,.bool]
abbrev Qm:List CT:=[.int .i64,.sl Qs,.sl aK,.bool,.bool,.sl QX,.sl [.sl [.int .i64]],.sl [.int .i64],.sl [.int .i64],.sl [.int .i64],.sl [.int .i64],.sl [.sl [.int .i64]],.int .i64,.bool]
abbrev Q5:List CT:=[.sl aK,.sl [.int .i64],.int .i64,.sl [.bool],.sl [.int .i64],.sl [.int .i64]]
abbrev QM:List CT:=[.sl Qp,.sl Qm,.sl Qj,.sl Qj]
set_option synthInstance.maxSize 2000
set_option synthInstance.maxHeartbeats 200000
instance:DecidableEq aE:=inferInstance
instance:DecidableEq ZI:=inferInstance
instance:DecidableEq Qd:=inferInstance
abbrev zB:=List Int × List Int × List Int × List Int × QL
abbrev zC:=List ZI × List (List Int) × zB
abbrev zD:=List aE × Bool × Bool × zC
instance:DecidableEq QL:=inferInstance
instance:DecidableEq zB:=inferInstance
instance:DecidableEq zC:=inferInstance
instance:DecidableEq zD:=inferInstance
instance:DecidableEq Qc:=(inferInstance:DecidableEq (Int × List bE × zD))
instance:DecidableEq QC:=inferInstance
instance:DecidableEq Ql:=inferInstance
instance:Sz Qc:=inferInstance
instance:Sz QC:=inferInstance
instance:Sz Ql:=inferInstance
abbrev bT(s:Qc):=s.1
abbrev Qx(s:Qc):=s.2.1
abbrev aM(s:Qc):=s.2.2.1
abbrev Qn(s:Qc):=s.2.2.2.1
abbrev Qq(s:Qc):=s.2.2.2.2.1
abbrev Qe(s:Qc):=s.2.2.2.2.2.1
abbrev Qz(s:Qc):=s.2.2.2.2.2.2.1
abbrev sX(s:Qc):=s.2.2.2.2.2.2.2.1
abbrev sY(s:Qc):=s.2.2.2.2.2.2.2.2.1
abbrev sG(s:Qc):=s.2.2.2.2.2.2.2.2.2.1
abbrev sD(s:Qc):=s.2.2.2.2.2.2.2.2.2.2.1
abbrev Qt(s:Qc):=s.2.2.2.2.2.2.2.2.2.2.2.1
abbrev Qo(s:Qc):=s.2.2.2.2.2.2.2.2.2.2.2.2.1
abbrev bg(s:Qc):=s.2.2.2.2.2.2.2.2.2.2.2.2.2
abbrev kC(s:Qc):QL:=(Qt s,Qo s,bg s)
abbrev Q8(c:QC):=c.1
abbrev Zh(c:QC):=c.2.1
abbrev lP(c:QC):=c.2.2.1
abbrev nh(c:QC):=c.2.2.2.1
abbrev JF(c:QC):=c.2.2.2.2.1
abbrev QB(p:Ql):=p.1
abbrev Qu(p:Ql):=p.2.1
abbrev Qv(p:Ql):=p.2.2.1
abbrev Qw(p:Ql):=p.2.2.2
abbrev ZF(s:Qc):Zo:=s.2.2.1
def Qr(v:List Int)(n:Int):Bool:=QH v&&((v.length:Int)==n)
def Ye(v:List Int)(n:Int):Bool:=((v.length:Int)==0)||Qr v n
def Jr:List ZI->Int->Int->Int
 | [],_,_=>-1
 | x::r,m,k=>if x.1=m then k else Jr r m (k+1)
def QJ(l:List ZI)(m:Int):Int:=Jr l m 0
def Jl(o:aE):Int :=
 if aT o.2.1 1 6&&aT o.2.2.1 1 6 then(if o.1=1\/o.1=5 then o.2.1*o.2.2.1 else if o.1=2 then o.2.1 else if o.1=4 then 1 else 0) else 0
def Zk(o:aE):Bool :=
 aT o.1 1 5&&aT o.2.1 1 6&&aT o.2.2.1 1 6&&(o.1==1||o.2.1==o.2.2.1)&&((o.2.2.2.length:Int)==Jl o)&&ZT o.2.2.2
def YU:Option Int->List aE->Bool
 | _,[]=>true
 | p,o::r=>Zk o&&(match p with | none=>true | some q=>q==o.2.1)&&YU (some o.2.2.1) r
def QS(m:Zo):Bool:=aT m.length 1 8&&YU none m
def Zn(m:Zo):Int:=if QS m then(aq bY m 0).2.1 else 0
def Za(m:Zo):Int:=if QS m then(aq bY m (m.length-1)).2.2.1 else 0
def Jb(m:Zo)(p:Qi):Bool:=QS m&&Qr p.1 (Zn m)&&Qr p.2 (Za m)
def Z5(m:Zo)(b:List Qi):Bool:=QS m&&aT b.length 1 5&&b.all (Jb m)
def YH(n:Int):Option Int->List Int->Bool
 | _,[]=>true
 | p,c::r=>aT c 1 n&&(match p with | none=>true | some q=>decide (q<c))&&YH n (some c) r
def Zr(m:Zo)(aA:List Int):Bool:=QS m&&YH (m.length-1) none aA
def QG(m:Zo)(aA:List Int)(s:Int):Int × Int :=
 if Zr m aA&&aT s 0 aA.length then(if 0<s then aq 0 aA (s.toNat-1) else 0,if s<aA.length then aq 0 aA s.toNat else m.length) else(0,0)
def slice{α:Type}(l:List α)(a b:Int):List α:=(l.drop a.toNat).take (b.toNat-a.toNat)
def QO(c:QC):Int:=if Zr c.1 c.2.1 then aI (c.2.1.length+1) else 0
def YT(c:QC)(s:Int):Int :=
 let r:=QG c.1 c.2.1 s
 aI (((slice c.1 r.1 r.2).map λo=>o.2.1).sum+if r.1<r.2 then(aq bY c.1 (r.2.toNat-1)).2.2.1 else 0)
def Jk(c:QC)(s:Int):Bool:=decide (0<=s)&&decide (s<c.2.2.2.1.length)&&aq false c.2.2.2.1 s.toNat
def Yf(c:QC)(s:Int):Int × Int :=
 let r:=QG c.1 c.2.1 s
 if r.1=r.2 then(0,0) else((aq bY c.1 r.1.toNat).2.1,(aq bY c.1 (r.2.toNat-1)).2.2.1)
def Jq(c:QC)(s:Int):Int:=if Jk c s then(Yf c s).1 else YT c s
def fB(a b:Int):Int:=if b<a then b else a
def fC(a b:Int):Int:=if a<b then b else a
def YX(c:QC)(s aF:Int):Int :=
 if aT s 0 (QO c-1)&&aT aF 1 5&&decide (QO c<=4) then
  (let k:=if c.2.2.1=2 then fB aF (QO c-s) else aF
   let z:=Yf c s
   aI (aI (aI (k*Jq c s)+fC z.1 z.2)+if Jk c s then YT c s else 0))
 else 0
def YE(c:QC):Bool:=(c.2.2.2.2.1.length==c.2.1.length)&&c.2.2.2.2.1.all λn=>aT n 1 5
def ot(c:QC)(aF:Int):List Int->Int->Bool
 | [],_=>true
 | n::r,s=>aT n (YX c s aF) 100000&&ot c aF r (s+1)
def Y9(c:QC)(aF:Int):Bool:=((c.2.2.2.2.2.length:Int)==QO c)&&ot c aF c.2.2.2.2.2 0
def Zp(c:QC)(b:List Qi):Int :=
 if !QS c.1 then 1 else if !Z5 c.1 b then 2 else if QO c=0\/4<QO c then 3 else if !aT c.2.2.1 1 2 then 4
 else if(c.2.2.2.1.length:Int)≠QO c then 5 else if !YE c then 6 else if !Y9 c b.length then 7 else 0
def ZV(st s mi:Int):Bool:=aT st 1 4&&aT s 0 (st-1)&&aT mi 1 5
def ZS(ds st s mi:Int):Int:=if ZV st s mi then(if ds=2 then fB mi (st-1-s) else mi) else 0
def Ya(st s m:Int):List bE:=(if 0<s then [(1,m)] else [])++[(2,m)]++(if s<st-1 then [(3,m)] else [])
def Yy(st s m:Int)(a0:Bool):List bE:=(if s<st-1 then [(4,m)] else [])++(if a0 then [(5,m)] else [])++[(6,m)]++(if 0<s then [(7,m)] else [])
def Z7(ds st s mi:Int)(a0:Bool):List bE :=
 if aT ds 1 2&&ZV st s mi then
  (let w:=(ZS ds st s mi).toNat
   ((List.range w).flatMap λm:Nat=>Ya st s (m:Int))++((List.range mi.toNat).flatMap λm:Nat=>(if(m:Int)+w<mi then Ya st s ((m:Int)+w) else [])++Yy st s (m:Int) a0)++[(8,0)])
 else []
def Z1:List aE->List (List Int)->Bool
 | o::os,r::rs=>(r.length==o.2.2.2.length)&&Z1 os rs
 | _,_=>true
def Jo(m:Zo)(rows:List (List Int)):Bool:=(rows.length==m.length)&&Z1 m rows
def Je(ops:List aE)(k:Nat):Int:=if k<ops.length then(aq bY ops k).2.1 else(aq bY ops (ops.length-1)).2.2.1
def Yd(ops:List aE):Nat->List (List Int)->Bool
 | _,[]=>true
 | k,r::rs=>Qr r (Je ops k)&&Yd ops (k+1) rs
def Yg(ops:List aE)(rows:List (List Int))(n:Int):Bool:=Yd ops 0 (rows.take n.toNat)
def zE(ops:List aE)(rows:List (List Int))(n:Int):Prop:=1<=ops.length/\0<=n/\n<=rows.length
def Z4(s:Qc):Int:=if s.2.2.2.2.1 then 1 else s.2.2.1.length+1
def YC(s:Qc)(x:ZI):Bool:=((x.2.length:Int)==Z4 s)&&Yg s.2.2.1 x.2 (Z4 s)
def QU(s:Qc):Bool :=
 QS s.2.2.1&&aT s.1 0 s.2.1.length&&Jo s.2.2.1 s.2.2.2.2.2.2.2.2.2.2.2.1&&s.2.2.2.2.2.1.all (YC s) &&
  (Ye s.2.2.2.2.2.2.2.1 (Zn s.2.2.1)&&Ye s.2.2.2.2.2.2.2.2.2.2.1 (Zn s.2.2.1)&&Ye s.2.2.2.2.2.2.2.2.1 (Za s.2.2.1)&&Ye s.2.2.2.2.2.2.2.2.2.1 (Za s.2.2.1))
def Jx(s:Qc):Int:=s.2.1.length-fB (fC s.1 0) s.2.1.length
def Y5(p:Ql):Int:=aI (p.2.1.map Jx).sum
def YS(p:Ql):Bool:=decide (0<p.2.1.length)&&(Y5 p==0)
def rl(s:Qc):bE:=if aT s.1 0 (s.2.1.length-1) then aq f5 s.2.1 s.1.toNat else(0,0)
def Qk(p:Ql)(s:Int):bE:=if aT s 0 (p.2.1.length-1) then rl (aq QE p.2.1 s.toNat) else(0,0)
def JI(x:Qi):Bool:=QH x.1&&QH x.2
def Jw(nb:Int):List Qc->Bool
 | []=>true
 | s::r=>QU s&&(s.2.2.2.1==decide (r.length=0))&&s.2.1.all (λx=>aT x.2 0 (nb-1))&&Jw nb r
def Zz(p:Ql):Bool :=
 aT p.2.1.length 1 4&&(p.2.2.1.length+1==p.2.1.length)&&(p.2.2.2.length+1==p.2.1.length)&&aT p.1.length 1 5 &&
  (p.1.all JI&&(p.2.2.1.all Q3&&p.2.2.2.all Q3)&&Jw p.1.length p.2.1)
def ou(q:Qd):Bool:=decide ((q.2.length:Int)<q.1)
def Ju(s:Qc):Bool:=decide ((s.2.1.length:Int)-1<=s.1)
def ov(p:Ql):Bool:=p.2.1.all Ju
def JQ(p:Ql)(s kind:Int):Bool :=
 let n:Int:=p.2.1.length
 if kind=1 then decide (0<s)&&decide (0<(aq QI p.2.2.1 (s.toNat-1)).2.length)
 else if kind=3 then decide (s<n-1)&&ou (aq QI p.2.2.1 s.toNat)
 else if kind=4 then decide (s<n-1)&&decide (0<(aq QI p.2.2.2 s.toNat).2.length)
 else if kind=7 then decide (0<s)&&ou (aq QI p.2.2.2 (s.toNat-1))
 else if kind=2\/kind=5\/kind=6 then true
 else if kind=8 then ov p else false
def ZZ(p:Ql)(s:Int):Bool:=Zz p&&aT s 0 (p.2.1.length-1)&&JQ p s (Qk p s).1
end Go.Proofs.YtdplaepmjogjjaaGreat.Am
namespace Go.Proofs.YtdplaepmjogjjaaGreat.Am
open Go Sz
theorem zF:pl 1048576:=⟨by omega,by omega⟩
theorem vV{n:Nat}{left:Int}(h:pl left):pl (Jj n left):=by
 unfold Jj pl at *
 split <;> omega
theorem zG{α β:Type}[Sz α][Sz β]{x:α}{y:β}{left:Int}(hl:0<=bS x left):bS y (bS x left)=bS (x,y) left:=by
 unfold bS Jj at *;rw[JA]
 split at hl
 ·rename_i h1;rw[if_pos h1]
  split <;> split <;> omega
 ·omega
theorem pZ{α γ:Type}[Sz α][Sz γ]{x:α}{z:γ}{left:Int}(hl:bS x left<0)(h:sz x<=sz z)(hp:-1<=left):-1=bS z left:=by
 unfold bS Jj at *
 split at hl
 ·omega
 ·rw[if_neg (by omega)]
theorem WU{α:Type}[Sz α]{x:α}{left:Int}(h:¬ bS x left<0)(hl:left<=1048576):cP x:=by
 unfold bS Jj at h;unfold cP
 split at h <;> omega
theorem Q3h{α:Type}[Sz α]{x:α}{left:Int}(h:¬ bS x left<0)(hl:left<=1048576):bS x left<=1048576:=by
 unfold bS Jj at *
 split at h <;> split <;> omega
theorem WV{α:Type}[Sz α](l:List α)(h:∀ x:α,sz x=0):sz l=l.length:=by
 induction l with
 | nil=>rfl
 | cons x l ih=>simp[ih,h];omega
theorem WW{α:Type}[Sz α]{a:List α}{left:Int}(h:cS a left)(hb:a.length<=9223372036854775807):aI (left-(a.length:Int))=left-a.length:=by
 unfold cS pl at h;exact Qy (by omega) (by omega)
theorem WX{α:Type}[Sz α]{a:List α}{left:Int}{Q:Int->Prop}(hf:∀ x:α,sz x=0)(h:cS a left)(hb:a.length<=9223372036854775807)(hq:Q (bS a left)) :
  ((decide (aI (left-(a.length:Int))<(0:Int))=true->Q (-1))/\(decide (aI (left-(a.length:Int))<(0:Int))=false->Q (aI (left-(a.length:Int))))):=by
 rw[WW h hb];unfold bS Jj at hq;rw[WV a hf]at hq;constructor
 ·intro h1;simp only[decide_eq_true_eq]at h1;rw[if_neg (by omega)]at hq;exact hq
 ·intro h1;simp only[decide_eq_false_iff_not]at h1;rw[if_pos (by omega)]at hq;exact hq
theorem WY{α:Type}[Sz α](d:α){a:List α}{left:Int}{Q:Int->Prop}{A:Int->Int->Prop}(h:cS a left)(hb:a.length<=9223372036854775807)
  (hA:∀(l i:Int),((decide (i<(a.length:Int))=true->((((0:Int)<=i/\Int.toNat i<a.length)/\(cS (aq d a (Int.toNat i)) l))/\((decide (bS (aq d a (Int.toNat i)) l<(0:Int))=true->Q (-1))/\(decide (bS (aq d a (Int.toNat i)) l<(0:Int))=false->A (bS (aq d a (Int.toNat i)) l) (aI (i+(1:Int)))))))/\(decide (i<(a.length:Int))=false->Q l))->A l i)
  (hq:Q (bS a left)) :
  ((decide (aI (left-(a.length:Int))<(0:Int))=true->Q (-1))/\(decide (aI (left-(a.length:Int))<(0:Int))=false->A (aI (left-(a.length:Int))) 0)):=by
 rw[WW h hb];constructor
 ·intro h1;simp only[decide_eq_true_eq]at h1;have hle:=Yk a;rw[bS,Jj,if_neg (by omega)]at hq;exact hq
 ·intro h1;simp only[decide_eq_false_iff_not]at h1;have key:∀ l:Int,0<=l->l<=1048576->(if(sz a-a.length:Int)<=l then l-(sz a-a.length:Int) else -1)=bS a left->A l (0:Nat):=by
   refine Zd a (λr k=>∀ l:Int,0<=l->l<=1048576->(if(sz r-r.length:Int)<=l then l-(sz r-r.length:Int) else -1)=bS a left->A l k) ?_ ?_
   ·intro l hl rm he;refine hA l _ ⟨λhc=>by simp at hc,λ_=>?_⟩;have e0:((sz ([]:List α):Nat):Int)-(([]:List α).length:Nat)=0:=rfl;rw[e0,if_pos hl]at he;rw[<- he]at hq;simpa using hq
   ·intro k x r hk aY hg ih l hl rm he;have hr:=Yk r;have e1:((sz (x::r):Nat):Int)-((x::r).length:Nat)=sz x+(sz r-r.length):=by
     rw[YZ,List.length_cons];omega
    rw[e1]at he;refine hA l _ ⟨λ_=>?_,λhc=>by simp at hc;omega⟩;rw[Int.toNat_natCast,hg d];refine⟨⟨⟨by omega,aY⟩,by unfold cS pl;omega⟩,λh2=>?_,λh2=>?_⟩
    ·simp only[decide_eq_true_eq]at h2;unfold bS Jj at h2
     split at h2
     ·omega
     ·rw[if_neg (by omega)]at he;rw[he];exact hq
    ·simp only[decide_eq_false_iff_not]at h2;unfold bS Jj at h2 ⊢
     split at h2
     rotate_left
     ·omega
     rw[if_pos (by assumption),Qy (by omega) (by omega),show(k:Int)+1=(k+1:Nat) by omega];refine ih _ (by omega) (by omega) ?_;rw[<- he]
     split <;> split <;> omega
  have:=key (left-a.length) (by omega) (by unfold cS pl at h;omega) (by
   unfold bS Jj
   split <;> split <;> omega)
  exact this
theorem zH{α:Type}[DecidableEq α](d:α){a b:List α}{Q:Bool->Prop}{A:Int->Prop}{E:α->α->Bool}(hE:∀ x y,E x y=decide (x=y))(hb:a.length<=9223372036854775807)
  (hA:∀(i:Int),((decide (i<(a.length:Int))=true->((((0:Int)<=i/\Int.toNat i<a.length)/\((0:Int)<=i/\Int.toNat i<b.length))/\(((!(E (aq d a (Int.toNat i)) (aq d b (Int.toNat i))))=true->Q false)/\((!(E (aq d a (Int.toNat i)) (aq d b (Int.toNat i))))=false->A (aI (i+(1:Int)))))))/\(decide (i<(a.length:Int))=false->Q true))->A i)
  (hq:Q (bK a b)):((((a.length:Int) != (b.length:Int))=true->Q false)/\(((a.length:Int) != (b.length:Int))=false->A 0)):=by
 constructor
 ·intro h;have:a≠b:=by rintro rfl;simp at h
  simpa[bK,this]using hq
 ·intro h;have hl:a.length=b.length:=by
   have h:((a.length:Int)==(b.length:Int))=true:=by simpa[bne]using h
   have:=of_decide_eq_true (by simpa using h:decide ((a.length:Int)=b.length)=true);omega
  have key:bK (a.drop 0) (b.drop 0)=bK a b->A (0:Nat):=by
   refine Zd a (λr k=>bK r (b.drop k)=bK a b->A k) ?_ ?_
   ·intro he;refine hA _ ⟨λhc=>by simp at hc,λ_=>?_⟩;rw[<- he]at hq;simpa[bK,hl]using hq
   ·intro k x r hk aY hg ih he;refine hA _ ⟨λ_=>?_,λhc=>by simp at hc;omega⟩;obtain⟨y,s,fe⟩:∃ y s,b.drop k=y::s:=by
     cases fe:b.drop k with
     | nil=>have:=congrArg List.length fe;simp at this;omega
     | cons y s=>exact⟨y,s,rfl⟩
    rw[Int.toNat_natCast,hg d,Z2 fe d,hE];refine⟨⟨⟨by omega,aY⟩,by omega,by omega⟩,λh1=>?_,λh1=>?_⟩
    ·have dk:x≠y:=by simpa using h1
     rw[<- he,fe]at hq;simpa[bK,dk]using hq
    ·have hxy:x=y:=by simpa using h1
     rw[Qy (by omega) (by omega),show(k:Int)+1=(k+1:Nat) by omega];refine ih ?_;rw[<- he,fe,ZW fe];simp[bK,hxy]
  exact key rfl
theorem QMe{a b:List Int}{Q:Bool->Prop}{A:Int->Prop}(hb:a.length<=9223372036854775807)
  (hA:∀(i:Int),((decide (i<(a.length:Int))=true->((((0:Int)<=i/\Int.toNat i<a.length)/\((0:Int)<=i/\Int.toNat i<b.length))/\((((aq (0:Int) a (Int.toNat i)) != (aq (0:Int) b (Int.toNat i)))=true->Q false)/\(((aq (0:Int) a (Int.toNat i)) != (aq (0:Int) b (Int.toNat i)))=false->A (aI (i+(1:Int)))))))/\(decide (i<(a.length:Int))=false->Q true))->A i)
  (hq:Q (bK a b)):((((a.length:Int) != (b.length:Int))=true->Q false)/\(((a.length:Int) != (b.length:Int))=false->A 0)) :=
 zH (0:Int) (E:=λx y=>x==y) (λx y=>by rw[Bool.eq_iff_iff];simp) hb (λi h=>hA i h) hq
theorem Q3o{a b:List Bool}{Q:Bool->Prop}{A:Int->Prop}(hb:a.length<=9223372036854775807)
  (hA:∀(i:Int),((decide (i<(a.length:Int))=true->((((0:Int)<=i/\Int.toNat i<a.length)/\((0:Int)<=i/\Int.toNat i<b.length))/\(((!((aq false a (Int.toNat i))==(aq false b (Int.toNat i))))=true->Q false)/\((!((aq false a (Int.toNat i))==(aq false b (Int.toNat i))))=false->A (aI (i+(1:Int)))))))/\(decide (i<(a.length:Int))=false->Q true))->A i)
  (hq:Q (bK a b)):((((a.length:Int) != (b.length:Int))=true->Q false)/\(((a.length:Int) != (b.length:Int))=false->A 0)) :=
 zH false (E:=λx y=>x==y) (λx y=>by rw[Bool.eq_iff_iff];simp) hb (λi h=>hA i h) hq
theorem ox{α:Type}(d:α){l:List α}{c p:α->Bool}{Q:Bool->Prop}{A:Int->Prop}{e:Bool}(hb:l.length<=9223372036854775807)(hc:∀ x,c x = !p x)
  (hA:∀(i:Int),((decide (i<(l.length:Int))=true->(((0:Int)<=i/\Int.toNat i<l.length)/\((c (aq d l (Int.toNat i))=true->Q false)/\(c (aq d l (Int.toNat i))=false->A (aI (i+(1:Int)))))))/\(decide (i<(l.length:Int))=false->Q e))->A i)
  (hq:Q (l.all p&&e)):A 0:=by
 have key:(l.drop 0).all p=l.all p->A (0:Nat):=by
  refine Zd l (λr k=>r.all p=l.all p->A k) ?_ ?_
  ·intro he;refine hA _ ⟨λh=>by simp at h,λ_=>?_⟩;rw[<- he]at hq;simpa using hq
  ·intro k x r hk aY hg ih he;refine hA _ ⟨λ_=>?_,λh=>by simp at h;omega⟩;rw[Int.toNat_natCast,hg,Qy (by omega) (by omega)];refine⟨⟨by omega,aY⟩,λh=>?_,λh=>ih ?_⟩
   ·have hp:p x=false:=by simpa[hc]using h
    have:l.all p=false:=by rw[<- he,List.all_cons,hp];rfl
    rw[this]at hq;exact hq
   ·have hp:p x=true:=by simpa[hc]using h
    rw[<- he,List.all_cons,hp];rfl
 exact key rfl
end Go.Proofs.YtdplaepmjogjjaaGreat.Am

set_option linter.all false
namespace Go.Proofs.YtdplaepmjogjjaaGreat.Am
open Go Sz
theorem K5(x:Int):aI x=if x % 18446744073709551616>=9223372036854775808 then x % 18446744073709551616-18446744073709551616 else x % 18446744073709551616:=by
 show IntKind.i64.wrap x=_;simp[IntKind.wrap,IntKind.bits,IntKind.signed]
theorem vW(a b:Int):aI (aI a+b)=aI (a+b):=by
 rw[K5 (aI a+b),K5 (a+b),K5 a];split <;> split <;> split <;> omega
theorem WZ(a:Int):aI (aI a)=aI a:=by have:=vW a 0;simpa using this
theorem QWA:aI 0=0:=rfl
theorem tR{a b:Int}(h1:1<=a)(h2:a<=6)(h3:1<=b)(h4:b<=6):1<=a*b/\a*b<=36:=by
 have:a=1\/a=2\/a=3\/a=4\/a=5\/a=6:=by omega
 rcases this with rfl | rfl | rfl | rfl | rfl | rfl <;> omega
theorem QW{x a b:Int}:aT x a b=true↔a<=x/\x<=b:=by simp[aT]
theorem oy{n:Nat}(h1:1<=n)(h2:n<=9223372036854775807):Int.toNat (aI ((n:Int)-1))=n-1/\(0:Int)<=aI ((n:Int)-1):=by
 rw[Qy (by omega) (by omega)];omega
theorem Yp{m:Zo}(h:QS m=true):1<=m.length/\m.length<=8:=by
 simp only[QS,Bool.and_eq_true,QW]at h;omega
def oz(m:Zo)(k:Nat):Option Int:=if k=0 then none else some (aq bY m (k-1)).2.2.1
def oA(l:List Int)(k:Nat):Option Int:=if k=0 then none else some (aq 0 l (k-1))
theorem zI{o:aE}(h:Zk o=true):1<=o.2.1/\o.2.1<=6/\1<=o.2.2.1/\o.2.2.1<=6:=by
 simp only[Zk,Bool.and_eq_true,QW]at h;omega
theorem tS{α:Type}{l:List α}{i:Nat}{x:α}(h:l[i]? = some x)(d:α):aq d l i=x:=by
 unfold aq;rw[List.getD_eq_getElem?_getD,h];rfl
theorem Y4{α:Type}{l:List α}{i:Nat}(h:i<l.length)(d:α):l[i]? = some (aq d l i):=by
 unfold aq;rw[List.getD_eq_getElem?_getD,List.getElem?_eq_getElem h];rfl
theorem Js{α:Type}{l:List α}{i:Nat}(h:i<l.length)(d:α):aq d l i∈l:=List.mem_of_getElem? (Y4 h d)
theorem Q0c{α:Type}(d x:α)(l:List α)(i:Nat):aq d (x::l) (i+1)=aq d l i:=by simp[aq]
theorem rp{α:Type}(d x:α)(l:List α):aq d (x::l) 0=x:=by simp[aq]
theorem tT{n:Int}:∀ {l:List Int} {p:Option Int},YH n p l=true->∀(i:Nat)(x:Int),l[i]? = some x->1<=x/\x<=n/\p.getD 0+i+1<=x
 | [],p,h,i,x,hx=>by simp at hx
 | c::r,p,h,i,x,hx=>by
  simp only[YH,Bool.and_eq_true,QW]at h;have hp:p.getD 0<c:=by
   cases p with
   | none=>simp;omega
   | some q=>simpa using h.1.2
  cases i with
  | zero=>simp at hx;subst hx;simp;omega
  | succ i =>
   have:=tT h.2 i x (by simpa using hx);simp at this ⊢;omega
theorem K6{n:Int}:∀ {l:List Int} {p:Option Int},YH n p l=true->∀(i:Nat)(x y:Int),l[i]? = some x->l[i+1]? = some y->x<y
 | [],p,h,i,x,y,hx,hy=>by simp at hx
 | c::r,p,h,i,x,y,hx,hy=>by
  simp only[YH,Bool.and_eq_true]at h
  cases i with
  | zero =>
   simp at hx;subst hx;have:=(tT h.2 0 y (by simpa using hy)).2.2;simp at this;omega
  | succ i=>exact K6 h.2 i x y (by simpa using hx) (by simpa using hy)
theorem oB{m:Zo}{aA:List Int}(h:Zr m aA=true):1<=m.length/\m.length<=8/\aA.length<m.length:=by
 simp only[Zr,Bool.and_eq_true]at h;have hm:=Yp h.1;refine⟨hm.1,hm.2,?_⟩
 cases hc:aA.length with
 | zero=>omega
 | succ k =>
  have:=tT h.2 k (aq 0 aA k) (Y4 (by omega) 0);simp at this;omega
theorem tU(m:Zo)(aA:List Int)(s:Int):0<=(QG m aA s).1/\(QG m aA s).1<=(QG m aA s).2/\(QG m aA s).2<=m.length/\
  ((QG m aA s).1<(QG m aA s).2↔Zr m aA=true/\0<=s/\s<=aA.length):=by
 unfold QG;by_cases h:(Zr m aA&&aT s 0 aA.length)=true
 ·rw[if_pos h];simp only[Bool.and_eq_true,QW]at h;have hl:=oB h.1;have hc:YH (m.length-1) none aA=true:=by have:=h.1;simp only[Zr,Bool.and_eq_true]at this;exact this.2
  have h1:∀ k:Nat,k<aA.length->1<=aq 0 aA k/\aq 0 aA k<=(m.length:Int)-1:=λk hk=>by
   have:=tT hc k _ (Y4 hk 0);omega
  have h2:∀ k:Nat,k+1<aA.length->aq 0 aA k<aq 0 aA (k+1):=λk hk=>K6 hc k _ _ (Y4 (by omega) 0) (Y4 hk 0);by_cases ha:0<s
  ·have h3:=h1 (s.toNat-1) (by omega);by_cases hb:s<aA.length
   ·have h4:=h1 s.toNat (by omega)
    have h5:=h2 (s.toNat-1) (by omega);rw[show s.toNat-1+1=s.toNat by omega]at h5;simp only[if_pos ha,if_pos hb];exact⟨by omega,by omega,by omega,λ_=>⟨h.1,h.2⟩,λ_=>by omega⟩
   ·simp only[if_pos ha,if_neg hb];exact⟨by omega,by omega,by omega,λ_=>⟨h.1,h.2⟩,λ_=>by omega⟩
  ·by_cases hb:s<aA.length
   ·have h4:=h1 s.toNat (by omega)
    simp only[if_neg ha,if_pos hb];exact⟨by omega,by omega,by omega,λ_=>⟨h.1,h.2⟩,λ_=>by omega⟩
   ·simp only[if_neg ha,if_neg hb];exact⟨by omega,by omega,by omega,λ_=>⟨h.1,h.2⟩,λ_=>by omega⟩
 ·rw[if_neg h];refine⟨by simp,by simp,by simp,λh'=>by simp at h',λh'=>?_⟩;exact absurd (by simp only[Bool.and_eq_true,QW];exact h') h
theorem zJ:∀ {l:List aE} {p:Option Int},YU p l=true->∀(i:Nat)(x:aE),l[i]? = some x->Zk x=true/\(∀ y:aE,l[i+1]? = some y->y.2.1=x.2.2.1)
 | [],p,h,i,x,hx=>by simp at hx
 | o::r,p,h,i,x,hx=>by
  simp only[YU,Bool.and_eq_true]at h
  cases i with
  | zero =>
   simp at hx;subst hx;refine⟨h.1.1,λy hy=>?_⟩
   cases r with
   | nil=>simp at hy
   | cons q r =>
    simp at hy;subst hy;have:=h.2;simp only[YU,Bool.and_eq_true]at this;have:=this.1.2;simp at this;omega
  | succ i =>
   have:=zJ h.2 i x (by simpa using hx);exact⟨this.1,λy hy=>this.2 y (by simpa using hy)⟩
theorem QQG{m:Zo}(h:QS m=true){k:Nat}(h0:0<k)(hk:k<=m.length):Je m k=(aq bY m (k-1)).2.2.1:=by
 unfold Je;by_cases aY:k<m.length
 ·rw[if_pos aY];simp only[QS,Bool.and_eq_true]at h;have:=(zJ h.2 (k-1) _ (Y4 (by omega) bY)).2 (aq bY m k) (by rw[show k-1+1=k by omega];exact Y4 aY bY);exact this
 ·rw[if_neg aY,show m.length=k by omega]
theorem QMu{m:Zo}(h:QS m=true):Je m 0=(aq bY m 0).2.1:=by
 have:=Yp h;unfold Je;rw[if_pos (by omega)]
theorem K7{α:Type}(l:List α)(a b:Int)(h0:0<=a)(h1:a<=b)(h2:b<=l.length)(P:List α->Nat->Prop)(he:P [] b.toNat)
  (hs:∀(k:Nat)(x:α)(r:List α),a<=k->(k:Int)<b->k<l.length->(∀ d,aq d l k=x)->P r (k+1)->P (x::r) k):P (slice l a b) a.toNat:=by
 suffices ∀(n k:Nat),k+n=b.toNat->a.toNat<=k->P ((l.drop k).take n) k from this (b.toNat-a.toNat) a.toNat (by omega) (Nat.le_refl _)
 intro n
 induction n with
 | zero=>intro k hk _;rw[List.take_zero,show k=b.toNat by omega];exact he
 | succ n ih =>
  intro k hk hak;have aY:k<l.length:=by omega
  obtain⟨x,r,hx⟩:∃ x r,l.drop k=x::r:=by
   cases hx:l.drop k with
   | nil=>have:=congrArg List.length hx;simp at this;omega
   | cons x r=>exact⟨x,r,rfl⟩
  rw[hx,List.take_succ_cons];have:=ih (k+1) (by omega) (by omega);rw[ZW hx]at this;exact hs k x _ (by omega) (by omega) aY (Z2 hx) this
def tV(b:Bool)(x y:Prop):Prop:=match b with | true=>x | false=>y
theorem zK{α:Type}(d:α){l:List α}{f:α->Bool}:l.all f=true↔∀ j,j<l.length->f (aq d l j)=true:=by
 rw[List.all_eq_true];constructor
 ·intro h j hj;exact h _ (Js hj d)
 ·intro h x hx;obtain⟨j,hj⟩:=List.getElem?_of_mem hx;have:=h j (List.getElem?_eq_some_iff.1 hj).1;rwa [tS hj]at this
theorem W0{α:Type}{l r:List α}{x:α}{k:Nat}(h:l.drop k=x::r):r.length=l.length-k-1:=by
 have:=congrArg List.length h;simp at this;omega
theorem W1{α:Type}{l r:List α}{x:α}{k:Nat}(h:l.drop k=x::r)(hl:l.length<=9223372036854775807):((k:Int)==aI ((l.length:Int)-1))=decide (r.length=0):=by
 have h1:=W0 h;have h2:=zx h;rw[Qy (by omega) (by omega),Bool.eq_iff_iff];simp only[beq_iff_eq,decide_eq_true_eq];omega
theorem tW{c:QC}:0<=QO c/\QO c<=8/\(QO c≠0↔Zr c.1 c.2.1=true)/\(Zr c.1 c.2.1=true->QO c=c.2.1.length+1):=by
 unfold QO;by_cases h:Zr c.1 c.2.1=true
 ·have:=oB h;rw[if_pos h,Qy (by omega) (by omega)];exact⟨by omega,by omega,⟨λ_=>h,λ_=>by omega⟩,λ_=>rfl⟩
 ·rw[if_neg h];exact⟨by omega,by omega,⟨λh0=>absurd rfl h0,λh1=>absurd h1 h⟩,λh1=>absurd h1 h⟩
def oC(p:Ql):Prop:=∀ s,s∈p.2.1->s.1<=9223372036854775807
theorem QV9{s:Qc}(h:s.1<=9223372036854775807)(hl:s.2.1.length<=9223372036854775807) :
  (if 0<aI ((s.2.1.length:Int)-(if 0<s.1 then s.1 else 0)) then aI ((s.2.1.length:Int)-(if 0<s.1 then s.1 else 0)) else 0)=Jx s:=by
 have e:aI ((s.2.1.length:Int)-(if 0<s.1 then s.1 else 0))=(s.2.1.length:Int)-(if 0<s.1 then s.1 else 0):=by
  split <;> exact Qy (by omega) (by omega)
 rw[e];unfold Jx fB fC;repeat' split
 all_goals omega
theorem Q25{s:Qc}(hl:s.2.1.length<=9223372036854775807) :
  aI ((s.2.1.length:Int)-(if(s.2.1.length:Int)<(if s.1<0 then 0 else s.1) then(s.2.1.length:Int) else(if s.1<0 then 0 else s.1)))=Jx s:=by
 have e:(s.2.1.length:Int)-(if(s.2.1.length:Int)<(if s.1<0 then 0 else s.1) then(s.2.1.length:Int) else(if s.1<0 then 0 else s.1))=Jx s:=by
  unfold Jx fB fC;repeat' split
  all_goals omega
 rw[e];apply Qy
 ·unfold Jx fB fC;repeat' split
  all_goals omega
 ·unfold Jx fB fC;repeat' split
  all_goals omega
end Go.Proofs.YtdplaepmjogjjaaGreat.Am
namespace Go.Proofs.YtdplaepmjogjjaaGreat.Am
open Go Go.RowKit Go.ChangeShapes Go.WideShapes Go.ChangeAt
def zL(L:TypeId->Option (List CT))(P:Program):List Field->Nat->Option (List CT)
 | [],_=>some []
 | f::fs,off=>match L f.type,zL L P fs (off+P.cellsOf f.type) with
  | some ts,some us=>bif Nat.beq f.offset off&&Nat.beq (P.cellsOf f.type) ts.length then some (ts++us) else none
  | _,_=>none
def lay(P:Program):Nat->TypeId->Option (List CT)
 | 0,_=>none
 | k+1,t=>match P.underlying t with
  | some .bool=>some [.bool]
  | some (.int q)=>some [.int q]
  | some .string=>some [.str]
  | some (.slice e)=>match lay P k e with
   | some ts=>bif Nat.beq (P.cellsOf e) ts.length&&Nat.blt 0 ts.length then some [.sl ts] else none
   | none=>none
  | some (.struct fs)=>match zL (lay P k) P fs.toList 0 with
   | some ts=>bif Nat.beq (P.cellsOf t) ts.length then some ts else none
   | none=>none
  | _=>none
mutual
def CT.wf:(t:CT)->t.den->Prop
 | .int k,x=>k.min<=(x:Int)/\(x:Int)<=k.max
 | .bool,_=>True
 | .str,_=>True
 | .dS,_=>True
 | .sl ts,l=>∀ x:aV ts,x∈(l:List (aV ts))->aV.wf ts x
def aV.wf:(ts:List CT)->aV ts->Prop
 | [],_=>True
 | t::ts,x=>t.wf (hd ts x)/\aV.wf ts (tl ts x)
end
def Sh.wf:(s:Sh)->s.den->Prop
 | .c t,x=>t.wf x
 | .a ts,x=>aV.wf ts x
 | .b ts,x=>aV.wf ts x
 | .o _ _,_=>False
 | .d _,_=>False
 | .s _,_=>False
def C7:(ss:List Sh)->iF ss->Prop
 | [],_=>True
 | s::ss,x=>s.wf x.1/\C7 ss x.2
def aV.app:(ts:List CT)->{us:List CT}->aV ts->aV us->aV (ts++us)
 | [],_,_,y=>y
 | t::ts,us,x,y=>mX (ts++us) (hd ts x) (aV.app ts (tl ts x) y)
theorem W2:∀(ts:List CT){us:List CT}(x:aV ts)(y:aV us),a9 (ts++us) (aV.app ts x y)=a9 ts x++a9 us y
 | [],us,x,y=>by simp[a9,aV.app]
 | t::ts,us,x,y=>by
  show a9 (t::(ts++us)) (mX (ts++us) (hd ts x) (aV.app ts (tl ts x) y))=_;rw[a9,a9,yN,yO,W2 ts];rfl
theorem W3:∀(ts:List CT){us:List CT}{x:aV ts}{y:aV us},aV.wf ts x->aV.wf us y->aV.wf (ts++us) (aV.app ts x y)
 | [],us,x,y,_,hy=>hy
 | t::ts,us,x,y,hx,hy=>by
  rw[aV.wf]at hx;show aV.wf (t::(ts++us)) (mX (ts++us) (hd ts x) (aV.app ts (tl ts x) y));rw[aV.wf,yN,yO];exact⟨hx.1,W3 ts hx.2 hy⟩
theorem p4:∀(ts:List CT)(x:aV ts),(a9 ts x).length=ts.length
 | [],x=>by simp[a9]
 | t::ts,x=>by rw[a9,List.length_cons,p4 ts,List.length_cons]
section
variable {H:Type} {enc:TypeId × Value->H} {P:Program} {w:World} {held:Bool}
def Old(w:World)(b:Nat):Prop:=b<w.heap.size
theorem QLz{k:IntKind}{n:Int}(h:(Lit.int k n).wf=true):k.min<=n/\n<=k.max:=by
 simpa[Lit.wf]using h
theorem QKb{a:Addr}{v:Value}(h:w.cell? a=some v):a.block<w.heap.size/\a.spot=none:=by
 unfold World.cell? at h
 split at h
 ·rename_i hb;have:=(Array.getElem?_eq_some_iff.1 hb).1;refine⟨this,?_⟩
  split at h
  ·cases h
  ·rename_i hs;simpa using hs
 ·cases h
theorem W4{k n:Nat}(ih:∀ t cs d ps ts,DataW.trod enc P w 0 (λ_=>true) held n t cs=some (d,ps)->lay P k t=some ts->cs.length=ts.length/\∃ x:aV ts,aV.wf ts x/\∀(j:Nat)(v:Value)(d':D),cs[j]? = some v->(a9 ts x)[j]? = some d'->Rd w (Old w) v d'){cs:List Value} :
  ∀(fl:List Field)(off:Nat)(ts:List CT),zL (lay P k) P fl off=some ts->(∀ f,f∈fl->∃ y,DataW.trod enc P w 0 (λ_=>true) held n f.type ((cs.drop f.offset).take (P.cellsOf f.type))=some y)->
   ∃ x:aV ts,aV.wf ts x/\∀(j:Nat)(v:Value)(d':D),cs[off+j]? = some v->(a9 ts x)[j]? = some d'->Rd w (Old w) v d'
 | [],off,ts,h,_=>by
  simp only[zL,Option.some.injEq]at h;subst h;exact⟨(),by rw[aV.wf];trivial,λj v d' _ hd=>by simp[a9]at hd⟩
 | f::fl,off,ts,h,hy=>by
  simp only[zL]at h
  split at h
  rotate_left
  ·cases h
  rename_i vI us h1 h2;obtain⟨hb,h⟩:=Q6 h
  cases h;simp only[Bool.and_eq_true]at hb;have e1:=Nat.eq_of_beq_eq_true hb.1;have e2:=Nat.eq_of_beq_eq_true hb.2;obtain⟨⟨d,ps⟩,hyf⟩:=hy f List.mem_cons_self;obtain⟨hl,x,kY,hx⟩:=ih _ _ _ _ _ hyf h1;obtain⟨y,K8,hyy⟩:=W4 ih fl _ _ h2 (λg hg=>hy g (List.mem_cons_of_mem _ hg));refine⟨aV.app vI x y,W3 vI kY K8,λj v d' hv hd=>?_⟩;rw[W2]at hd;by_cases hj:j<vI.length
  ·rw[List.getElem?_append_left (by rw[p4];exact hj)]at hd;refine hx j v d' ?_ hd;rw[List.getElem?_take,if_pos (by omega),List.getElem?_drop,e1];exact hv
  ·rw[List.getElem?_append_right (by rw[p4];omega),p4]at hd;refine hyy (j-vI.length) v d' ?_ hd;rw[show off+P.cellsOf f.type+(j-vI.length)=off+j by omega];exact hv
theorem C8:∀(k n:Nat)(t:TypeId)(cs:List Value)(d:DataW H)(ps:List MemPlace)(ts:List CT),DataW.trod enc P w 0 (λ_=>true) held n t cs=some (d,ps)->lay P k t=some ts->
  cs.length=ts.length/\∃ x:aV ts,aV.wf ts x/\∀(j:Nat)(v:Value)(d':D),cs[j]? = some v->(a9 ts x)[j]? = some d'->Rd w (Old w) v d'
 | 0,n,t,cs,d,ps,ts,_,hl=>by simp[lay]at hl
 | k+1,n,t,cs,d,ps,ts,h,hl=>by
  simp only[lay]at hl
  split at hl
  ·rename_i ht
   cases hl;obtain⟨b,rfl,_⟩:=DataW.trod_bool ht h;refine⟨rfl,b,by simp[aV.wf,CT.wf],λj v d' hv hd=>?_⟩
   cases j with
   | zero=>simp[a9,Am.enc]at hv hd;subst hv;subst hd;exact .v _ rfl
   | succ j=>simp at hv
  ·rename_i q ht
   cases hl;obtain⟨b,rfl,_,hwf⟩:=DataW.trod_int ht h;refine⟨rfl,b,⟨QLz hwf,trivial⟩,λj v d' hv hd=>?_⟩
   cases j with
   | zero=>simp[a9,Am.enc]at hv hd;subst hv;subst hd;exact .v _ rfl
   | succ j=>simp at hv
  ·rename_i ht
   cases hl;obtain⟨b,rfl,_⟩:=DataW.trod_string ht h;refine⟨rfl,b,by simp[aV.wf,CT.wf],λj v d' hv hd=>?_⟩
   cases j with
   | zero=>simp[a9,Am.enc]at hv hd;subst hv;subst hd;exact .v _ rfl
   | succ j=>simp at hv
  ·rename_i e ht
   split at hl
   rotate_left
   ·cases hl
   rename_i ts he;obtain⟨hb,hl⟩:=Q6 hl
   cases hl;simp only[Bool.and_eq_true]at hb;have e1:=Nat.eq_of_beq_eq_true hb.1;have e2:0<ts.length:=Nat.le_of_ble_eq_true hb.2
   rcases Deep.open_slice ht h with⟨rfl,_⟩ | ⟨a,len,cap,m,n',dd,pl,rfl,_,Uw,hcm,hm,_,hx⟩
   ·refine⟨rfl,([]:List (aV ts)),⟨(λx hx=>by cases hx),trivial⟩,λj v d' hv hd=>?_⟩
    cases j with
    | zero=>simp[a9,Am.enc,Am.hd]at hv hd;subst hv;subst hd;exact .nil _
    | succ j=>simp at hv
   ·simp only[if_true]at hm;subst hm;have gB:∀ i,i<len->∃ x:aV ts,aV.wf ts x/\∀(j:Nat)(d':D),(a9 ts x)[j]? = some d'->∃ v,w.cell? ((a.add (i*ts.length)).add j)=some v/\Rd w (Old w) v d':=by
     intro i hi;obtain⟨cs',h1,h2⟩:=hx i (by omega);obtain⟨hl,x,kY,sJ⟩:=C8 k _ _ _ _ _ _ h2 he;refine⟨x,kY,λj d' hd=>?_⟩;have hj:j<ts.length:=by have:=(List.getElem?_eq_some_iff.1 hd).1;rwa [p4]at this
     obtain⟨_,_,hc⟩:=World.cells?_some h1;rw[e1]at hc;refine⟨cs'[j]'(by omega),?_,sJ j _ d' (List.getElem?_eq_getElem _) hd⟩;rw[hc j hj];exact List.getElem?_eq_getElem _
    by_cases hlen:len=0
    ·subst hlen;refine⟨rfl,([]:List (aV ts)),⟨(λx hx=>by cases hx),trivial⟩,λj v d' hv hd=>?_⟩
     cases j with
     | zero=>simp[a9,Am.enc,Am.hd]at hv hd;subst hv;subst hd;exact .emp _ _ _
     | succ j=>simp at hv
    ·have hz:∃ v,w.cell? a=some v:=by
      obtain⟨x,_,sJ⟩:=gB 0 (by omega);have h0:0<(a9 ts x).length:=by rw[p4];exact e2
      obtain⟨v,hv,_⟩:=sJ 0 _ (List.getElem?_eq_getElem h0);simp[Addr.add]at hv;exact⟨v,hv⟩
     obtain⟨v0,sU⟩:=hz;obtain⟨aY,tX⟩:=QKb sU;obtain⟨b,o,sp⟩:=a;simp only at tX aY;subst tX;have:Inhabited (aV ts):=⟨aV.yH ts⟩
     obtain⟨f,hf⟩:=Deep.choose_lt gB;refine⟨rfl,((List.range len).map f:List (aV ts)),by
      refine⟨λx hx=>?_,trivial⟩;obtain⟨i,hi,rfl⟩:=List.mem_map.1 (show x∈(List.range len).map f from hx);exact(hf i (List.mem_range.1 hi)).1,λj v d' hv hd=>?_⟩
     cases j with
     | succ j=>simp at hv
     | zero =>
      simp only[List.getElem?_cons_zero,Option.some.injEq]at hv;subst hv;have hd2:d' = .sl ts.length (List.map (a9 ts) ((List.range len).map f)):=by
       simp only[a9,List.getElem?_cons_zero,Option.some.injEq]at hd;rw[<- hd];show D.sl ts.length (List.map (a9 ts) (Am.hd [] _))=_;rfl
      subst hd2;have hg:∀(i:Nat)(e:List D),(List.map (a9 ts) ((List.range len).map f))[i]? = some e->i<len/\e=a9 ts (f i):=by
       intro i e hi;have aY:=(List.getElem?_eq_some_iff.1 hi).1;simp only[List.length_map,List.length_range]at aY;rw[List.getElem?_map,List.getElem?_map,List.getElem?_range aY]at hi;simp at hi;exact⟨aY,hi.symm⟩
      refine Rd.sl b o len m ts.length _ (λi j=>(w.cell? ⟨b,o+i*ts.length+j,none⟩).getD undef) (by simp) Uw (by omega) (λe he=>?_) (λ_=>aY) (λi j e d hi hj=>?_) (λi j e d hi hj=>?_)
      ·obtain⟨x,_,rfl⟩:=List.mem_map.1 he;exact p4 ts x
      ·obtain⟨cc,rfl⟩:=hg i e hi;obtain⟨v,hv,_⟩:=(hf i cc).2 j d hj;rw[JE,JE]at hv;rw[hv];rfl
      ·obtain⟨cc,rfl⟩:=hg i e hi;obtain⟨v,hv,hr⟩:=(hf i cc).2 j d hj;rw[JE,JE]at hv;rw[hv];exact hr
  ·rename_i fs ht
   split at hl
   rotate_left
   ·cases hl
   rename_i ts Cf;obtain⟨hb,hl⟩:=Q6 hl
   cases hl;have e1:=Nat.eq_of_beq_eq_true hb;obtain⟨xs,n',_,_,hlen,W5,hx⟩:=DataW.trod_struct ht h;refine⟨by omega,?_⟩;obtain⟨x,kY,sJ⟩:=W4 (n:=n') (λt cs d ps ts h1 h2=>C8 k n' t cs d ps ts h1 h2) fs.toList 0 ts Cf (λf hf=>by
    obtain⟨i,hi⟩:=List.getElem?_of_mem hf;have n9:fs[i]? = some f:=by simpa using hi
    have aY:i<xs.length:=by rw[W5];exact(Array.getElem?_eq_some_iff.1 n9).1
    exact⟨xs[i],by rw[hx i f n9];exact List.getElem?_eq_getElem _⟩)
   exact⟨x,kY,λj v d' hv hd=>sJ j v d' (by simpa using hv) hd⟩
  ·cases hl
end
end Go.Proofs.YtdplaepmjogjjaaGreat.Am
namespace Go.Proofs.YtdplaepmjogjjaaGreat.Am
open Go Go.RowKit Go.ChangeShapes Go.WideShapes Go.ChangeAt
def tY(P:Program)(t:TypeId):Option Sh:=match P.underlying t with
 | some (.struct _)=>match lay P 12 t with
  | some ts=>some (.a ts)
  | none=>none
 | some (.array _ _)=>none
 | _=>match lay P 12 t with
  | some [ct]=>some (.c ct)
  | _=>none
def ni(P:Program):List TypeId->Option (List Sh)
 | []=>some []
 | t::ts=>match tY P t,ni P ts with
  | some s,some ss=>some (s::ss)
  | _,_=>none
theorem K9:∀(ts:List CT)(x:aV ts),(aV.cells ts x).map TV.aW=(a9 ts x).map AV.c
 | [],x=>rfl
 | t::ts,x=>by rw[aV.cells,a9,List.map_cons,List.map_cons,K9 ts];rfl
section
variable {H:Type} {enc:TypeId × Value->H} {P:Program} {w:World} {held:Bool}
theorem Q0b{r:Reach}{base:Nat}{t:TypeId}{v:Value}{d:DataW H}{p:List MemPlace}{s:Sh}(hs:tY P t=some s)(hv:Value.okWide P w r base t v)(h:DataW.Trod enc P w 0 (λ_=>true) held t v d p) :
  ∃ x:s.den,s.wf x/\VR w (Old w) noι vt v (s.val x).aH/\(s.val x).aH.eW=true:=by
 obtain⟨n,h⟩:=h;unfold tY at hs
 split at hs
 ·rename_i fs ht
  split at hs
  rotate_left
  ·cases hs
  rename_i ts hl
  cases hs;obtain⟨h1,x,kY,hx⟩:=C8 _ _ _ _ _ _ _ h hl;unfold Value.okWide at hv;rw[ht]at hv;obtain⟨cs,rfl,_,_⟩:=hv;refine⟨x,kY,?_,?_⟩
  ·show VR w (Old w) noι vt (.agg cs) (.a ((aV.cells ts x).map TV.aW));rw[K9];have h1:cs.toList.length=ts.length:=h1;have o9:∀(k:Nat)(v:Value),cs[k]? = some v->∃ d,(a9 ts x)[k]? = some d/\Rd w (Old w) v d:=by
    intro k v hk;have aY:k<(a9 ts x).length:=by
     have:=(Array.getElem?_eq_some_iff.1 hk).1;rw[p4];simpa[<- h1]using this
    exact⟨_,List.getElem?_eq_getElem aY,hx k v _ (by show cs.toList[k]? = some v;simpa using hk) (List.getElem?_eq_getElem aY)⟩
   refine .a cs _ (by rw[List.length_map,p4,<- h1];simp) (λk v hk=>?_) (λk v y hk hy=>?_)
   ·obtain⟨_,_,hr⟩:=o9 k v hk;exact hr.one
   ·obtain⟨d,hd,hr⟩:=o9 k v hk;rw[List.getElem?_map,hd]at hy;simp at hy;subst hy;exact .c _ _ hr
  ·show AV.eW (.a ((aV.cells ts x).map TV.aW))=true;rw[K9];simp[AV.eW]
 ·cases hs
 ·rename_i fR nV
  split at hs
  rotate_left
  ·cases hs
  rename_i ct hl
  cases hs;obtain⟨h1,x,kY,hx⟩:=C8 _ _ _ _ _ _ _ h hl;unfold Value.okWide at hv;have hv:Cell.okWide P w r base t v:=by
   split at hv
   ·rename_i hh;exact absurd hh (fR _)
   ·rename_i hh;exact absurd hh (nV _ _)
   ·exact hv
  have hc:v.cells.toList=[v]:=by
   cases v with
   | agg cs =>
    exfalso;unfold Cell.okWide at hv
    split at hv <;> first | (simp_all;done) | skip
    unfold Cell.ok at hv
    split at hv <;> first | (simp_all;done) | exact hv
   | _=>rfl
  have hr:=hx 0 v (Am.enc ct x) (by rw[hc];rfl) (by cases ct <;> rfl);exact⟨x,by rw[aV.wf]at kY;exact kY.1,.c _ _ hr,rfl⟩
theorem W6{r:Reach}{base:Nat}:∀ {ts:List TypeId} {ss:List Sh} {vs:List Value} {ds:List (DataW H)} {ps:List MemPlace},ni P ts=some ss->(∀(j:Nat)(t:TypeId)(v:Value),ts[j]? = some t->vs[j]? = some v->Value.okWide P w r base t v)->
  DataW.TrodAll enc P w 0 (λ_=>true) held ts vs ds ps->∃ x:iF ss,C7 ss x/\eO w (Old w) vs ((kA ss x).map TV.aH) [] []
 | [],ss,vs,ds,ps,hs,hv,h=>by
  simp only[ni,Option.some.injEq]at hs;subst hs;obtain⟨rfl,_,_⟩:=trodAll_nil h;exact⟨(),trivial,.nil⟩
 | t::ts,ss,vs,ds,ps,hs,hv,h=>by
  simp only[ni]at hs
  split at hs
  rotate_left
  ·cases hs
  rename_i s ss' h1 h2
  cases hs;obtain⟨v0,La,d0,W7,p0,q0,rfl,rfl,rfl,h0,hr⟩:=trodAll_cons h;obtain⟨x,kY,hx,hd⟩:=Q0b h1 (hv 0 t v0 rfl rfl) h0;obtain⟨y,K8,hy⟩:=W6 h2 (λj t v hj hk=>hv (j+1) t v (by simpa using hj) (by simpa using hk)) hr;exact⟨(x,y),⟨kY,K8⟩,.eW v0 _ La _ [] [] hx hy hd⟩
theorem W8{W W':World}(hl:laidOutB P=true)(hb:Below W.heap.size W W'){sp:Nat->Bool}:∀ {ts:List TypeId} {vs:List Value} {ds:List (DataW H)} {ps:List MemPlace},ts.all (λt=>P.readableRec t&&decide (t<P.types.size))=true->
  DataW.TrodAll enc P W 0 (λ_=>true) true ts vs ds ps->(∀ p,p∈ps->p.block<W.heap.size)->(∀ p,p∈ps->sp p.block=true)->DataW.TrodAll enc P W' 0 sp true ts vs ds ps
 | [],vs,ds,ps,_,h,_,_=>by
  obtain⟨rfl,rfl,rfl⟩:=trodAll_nil h;exact rfl
 | t::ts,vs,ds,ps,hr,h,aY,tX=>by
  rw[List.all_cons,Bool.and_eq_true,Bool.and_eq_true]at hr;obtain⟨v0,La,d0,W7,p0,q0,rfl,rfl,rfl,h0,b8⟩:=trodAll_cons h;refine⟨p0,q0,WideElems.Trod_stays hl hr.1.1 (of_decide_eq_true hr.1.2) h0 (λx hx=>hb.same (aY x (List.mem_append_left _ hx))) (λx hx=>tX x (List.mem_append_left _ hx)),?_,rfl⟩;exact W8 hl hb hr.2 b8 (λp hp=>aY p (List.mem_append_right _ hp)) (λp hp=>tX p (List.mem_append_right _ hp))
end
theorem lQ{H:Type}{enc:TypeId × Value->H}{P:Program}{f:FuncId}{fn:Func}{s:ChangeSpec}{apart fresh handsOn again:Bool}{sg:List Sh}{W:World}{args:Array Value}{ds gs:List (DataW H)}{before:List MemPlace}{base:Nat}{tb:TypeId}{n:Nat}
  (hl:laidOutB P=true) (C9:ni P fn.params.toList=some sg) (o9:fn.params.toList.all (λt=>P.readableRec t&&decide (t<P.types.size))=true) (rq:P.underlying tb=some .bool) (W9:fn.resultTypes = #[tb])
  (Lb:∀ x:iF sg,C7 sg x->aR P f (kA sg x) ⟨.c .bool true,[],[],false,[]⟩) (jP:s.vars=[]) (hn:fn.params.size=n) (hfn:∀ ds:List (DataW H),ds.length=n->s.fn H ds = { results:=[.lit (.bool true)],args:=ds })
  (iA:∀(j:Nat)(t:TypeId)(v:Value),fn.params[j]? = some t->args[j]? = some v->Value.okWide P W .any base t v)
  (hW:DataW.Whole enc P fn.params.toList s.vars apart W args.toList ds gs before) :
  Calls P f args W λe W'=>∃ v,e = .returned v/\s.post enc P fn apart fresh handsOn again W args v W':=by
 have Xa:=hW;obtain⟨p,q,hA,hV,rfl,hfz,d9⟩:=hW;rw[jP]at hV;obtain⟨rfl,rfl⟩:=trodVars_none hV;obtain⟨x,kY,hx⟩:=W6 C9 (λj t v hj hk=>iA j t v (by simpa using hj) (by simpa using hk)) hA;have hlen:ds.length=n:=by
  rw[<- hn];have:∀ {ts:List TypeId} {vs:List Value} {ds:List (DataW H)} {ps:List MemPlace},DataW.TrodAll enc P W 0 (λ_=>true) true ts vs ds ps->ds.length=ts.length:=by
   intro ts
   induction ts with
   | nil=>intro vs ds ps h;obtain⟨_,rfl,_⟩:=trodAll_nil h;rfl
   | cons t ts ih=>intro vs ds ps h;obtain⟨v0,La,d0,W7,p0,q0,rfl,rfl,rfl,h0,hr⟩:=trodAll_cons h;simp[ih hr]
  simpa using this hA
 have aY:∀ p',p'∈p++[]->p'.block<W.heap.size:=λp' hp=>Xa.lt p' hp;refine(Q1U (x:=.bool true) (al:=false) (Lb x kY) (F0:=Old W) hx (λ_ h=>h)).mono λe W' ⟨he,hg⟩=>?_;subst he;have hf:=hfn (ds++[]) (by simpa using hlen);refine⟨_,rfl,QQ6 (pa:=p) (pv:=[]) Xa (λb sp hd=>?_) (λsp tX=>?_) (λsp _=>?_) rfl hg ?_⟩
 ·rw[hf,W9];exact trodAll_cons_mk (shut_bool rq _) trodAll_mk0
 ·rw[hf,List.append_nil];exact W8 hl hg o9 hA (λp' hp=>aY p' (List.mem_append_left _ hp)) (λp' hp=>tX p' (List.mem_append_left _ hp))
 ·rw[jP,hf];exact rfl
 ·exact Go.RowKit.ok_one W9 rfl (okWide_bool_mk rq _)
end Go.Proofs.YtdplaepmjogjjaaGreat.Am
namespace Go.Proofs.YtdplaepmjogjjaaGreat.Am
open Go
theorem bX{a b:Bool}(ha:a=true)(hb:b=true):(a&&b)=true:=by rw[ha,hb];rfl
def Da(P:Program)(rk:List Nat):Bool:=(List.range P.funcs.size).all λg=>((P.funcs[g]?).elim [] P.leadsTo).all λh=>Nat.blt (rk.getD h 0) (rk.getD g 0)
theorem Xb{P:Program}{rk:List Nat}(h:Da P rk=true)(g x:Nat)(hx:x∈(P.funcs[g]?).elim [] P.leadsTo):rk.getD x 0<rk.getD g 0:=by
 by_cases hg:g<P.funcs.size
 ·have:=List.all_eq_true.1 h g (List.mem_range.2 hg);exact Nat.le_of_ble_eq_true (List.all_eq_true.1 this x hx)
 ·rw[Array.getElem?_eq_none (by omega)]at hx;simp at hx
theorem Lc{P:Program}{rk:List Nat}(h:Da P rk=true)(r:Nat):∀(fuel:Nat)(todo seen:List FuncId),(∀ x,x∈todo->rk.getD x 0<r)->(∀ x,x∈seen->rk.getD x 0<r)->∀ x,x∈P.closureVia fuel todo seen->rk.getD x 0<r
 | 0,todo,seen,_,h2,x,hx=>by
  simp only[Program.closureVia,List.mem_reverse]at hx;exact h2 x hx
 | n+1,[],seen,_,h2,x,hx=>by
  simp only[Program.closureVia,List.mem_reverse]at hx;exact h2 x hx
 | n+1,f::todo,seen,h1,h2,x,hx=>by
  simp only[Program.closureVia]at hx
  split at hx
  ·exact Lc h r n todo seen (λy hy=>h1 y (List.mem_cons_of_mem _ hy)) h2 x hx
  ·refine Lc h r n _ _ (λy hy=>?_) (λy hy=>?_) x hx
   ·rcases List.mem_append.1 hy with hy | hy
    ·exact Nat.lt_trans (Xb h f y hy) (h1 f List.mem_cons_self)
    ·exact h1 y (List.mem_cons_of_mem _ hy)
   ·rcases List.mem_cons.1 hy with rfl | hy
    ·exact h1 _ List.mem_cons_self
    ·exact h2 y hy
theorem tZ{P:Program}{rk:List Nat}(h:Da P rk=true){f:FuncId}(hu:P.unfollowed f=false):P.recurses f=false:=by
 unfold Program.recurses;rw[hu,Bool.false_or];rw[Bool.eq_false_iff];intro hc;obtain⟨g,hg,hc⟩:=List.any_eq_true.1 hc;obtain⟨x,hx,hc⟩:=List.any_eq_true.1 hc;have du:g∈P.closure x:=by simpa using hc
 have aY:=Xb h g x hx;unfold Program.closure at du;have:=Lc h (rk.getD g 0) _ [x] [] (λy hy=>by simp at hy;subst hy;exact aY) (λy hy=>by simp at hy) g du;omega
def t4:List Char:=([99,117,116]:List Nat).map Char.ofNat
theorem QVU{P:Program}{rest:List (List Char)}(h:behindMainWord (wordsSigns P.initOrder.toList)=t4::rest):P.make=some .cut:=by
 unfold Program.make;rw[h];rfl
theorem Xc(rest:List (List Char)):stripLifts liftWords (t4::rest)=([],t4::rest):=by
 rfl
theorem QSO{P:Program}{rest:List (List Char)}(h:behindMainWord (wordsSigns P.initOrder.toList)=t4::rest):P.headLifts=[]:=by
 unfold Program.headLifts;rw[h,Xc];rfl
theorem QX8{P:Program}{rest:List (List Char)}(h:behindMainWord (wordsSigns P.initOrder.toList)=t4::rest):P.liftsFinal=false:=by
 unfold Program.liftsFinal;rw[QSO h,h];rfl
theorem Q2q{P:Program}{rest:List (List Char)}(h:behindMainWord (wordsSigns P.initOrder.toList)=t4::rest)(h1:P.laysLater=false)(h2:P.bearsReflect=false)(h3:P.doorFits []=true):P.mayEnter=true:=by
 unfold Program.mayEnter;rw[h];simp only[Xc,h1,h2,h3];rfl
end Go.Proofs.YtdplaepmjogjjaaGreat.Am
namespace Go.Proofs.YtdplaepmjogjjaaGreat.Am
open Go Sz
def QR(x:Int):Int:=fB (fC x (-2147483647)) 2147483647
def Ys(x:Int):Int × Bool:=(QR x,!Zj x)
def Q4(a b:Int):Int × Bool:=Ys (QR a+QR b)
def JU(a b:Int):Int × Bool:=Ys (QR a-QR b)
def Zm(a b:Int):Int × Bool:=Ys (Int.fdiv (QR a*QR b) 65536)
def nj(a:Int):Int:=fC 0 (QR a)
def Db(a b:Int):Int:=Int.fdiv a b
def Ld(a b:Int):Prop:=-4611686018427387904<=a/\a<=4611686018427387904/\b=65536
def ZG(a b:List Int):Bool:=QH a&&Qr b a.length
def vz(f:Int->Int->Int × Bool):List Int->List Int->List Int × Bool
 | a::aa,b::bb=>((f a b).1::(vz f aa bb).1,(f a b).2||(vz f aa bb).2)
 | _,_=>([],false)
def Zt(a b:List Int):List Int × Bool:=if ZG a b then vz Q4 a b else([],false)
def QV(a b:List Int):List Int × Bool:=if ZG a b then vz JU a b else([],false)
def v1(f:Int->Int × Bool):List Int->List Int × Bool
 | a::aa=>((f a).1::(v1 f aa).1,(f a).2||(v1 f aa).2)
 | []=>([],false)
def ZQ(c:Int)(a:List Int):List Int × Bool:=if Zj c&&QH a then v1 (Zm c) a else([],false)
def Y3:List Int->List Int->Int->Int × Bool
 | a::aa,b::bb,z=>((Y3 aa bb (Q4 z (Zm a b).1).1).1,(Zm a b).2||(Q4 z (Zm a b).1).2||(Y3 aa bb (Q4 z (Zm a b).1).1).2)
 | _,_,z=>(z,false)
def Q7(a b:List Int):Int × Bool:=if ZG a b then Y3 a b 0 else(0,false)
def Yx(a:List Int):List Int:=if QH a then a.map nj else []
def Yw(x d:List Int):List Int:=if ZG x d then List.zipWith (λa b=>if 0<a then b else 0) x d else []
def Zw(m:cm):Bool:=aT m.1 1 6&&aT m.2.1 1 6&&((m.2.2.length:Int)==m.1*m.2.1)&&ZT m.2.2
def Y2(m:cm)(i:Int):List Int:=slice m.2.2 (i*m.2.1) ((i+1)*m.2.1)
def Yb(m:cm)(k:Int):List Int:=(List.range m.1.toNat).map λi:Nat=>aq 0 m.2.2 ((i:Int)*m.2.1+k).toNat
def Zi(m:cm)(x:List Int):List Int × Bool :=
 if Zw m&&Qr x m.2.1 then
  ((List.range m.1.toNat).map λi:Nat=>(Q7 (Y2 m i) x).1,(List.range m.1.toNat).any λi:Nat=>(Q7 (Y2 m i) x).2) else([],false)
def ZB(m:cm)(d:List Int):List Int × Bool :=
 if Zw m&&Qr d m.1 then
  ((List.range m.2.1.toNat).map λk:Nat=>(Q7 (Yb m k) d).1,(List.range m.2.1.toNat).any λk:Nat=>(Q7 (Yb m k) d).2) else([],false)
def Y7(m:cm):cm:=if Zw m then(m.2.1,m.1,(List.range m.2.1.toNat).flatMap λk:Nat=>Yb m k) else(0,0,[])
def Zy(d x:List Int):cm × Bool :=
 if QH d&&QH x then(((d.length:Int),(x.length:Int),d.flatMap λa=>x.map λb=>(Zm a b).1),d.any λa=>x.any λb=>(Zm a b).2) else((0,0,[]),false)
def Q0(o:aE):cm:=(o.2.2.1,o.2.1,o.2.2.2)
def Yr(o:aE)(x:List Int):List Int × Bool :=
 if Zk o&&Qr x o.2.1 then
  (if o.1=1 then Zi (Q0 o) x else if o.1=2 then Zt x o.2.2.2 else if o.1=4 then ZQ (aq 0 o.2.2.2 0) x
   else if o.1=5 then((Zt x (Zi (Q0 o) x).1).1,(Zi (Q0 o) x).2||(Zt x (Zi (Q0 o) x).1).2) else(Yx x,false))
 else([],false)
def Ym(o:aE)(x d:List Int):List Int × List Int × Bool :=
 if Zk o&&Qr x o.2.1&&Qr d o.2.2.1 then
  (if o.1=1 then((ZB (Q0 o) d).1,(Zy d x).1.2.2,(ZB (Q0 o) d).2||(Zy d x).2)
   else if o.1=2 then(d,d,false)
   else if o.1=4 then((ZQ (aq 0 o.2.2.2 0) d).1,[(Q7 d x).1],(ZQ (aq 0 o.2.2.2 0) d).2||(Q7 d x).2)
   else if o.1=5 then((Zt d (ZB (Q0 o) d).1).1,(Zy d x).1.2.2,(ZB (Q0 o) d).2||(Zy d x).2||(Zt d (ZB (Q0 o) d).1).2)
   else(Yw x d,[],false))
 else([],[],false)
def ZO(y t:List Int):Int × Bool:=(Int.fdiv (Q7 (QV y t).1 (QV y t).1).1 2,(QV y t).2||(Q7 (QV y t).1 (QV y t).1).2)
abbrev t6:QL:=([],0,false)
def ZA(m:Zo):QL:=if QS m then(m.map λo=>List.replicate o.2.2.2.length 0,0,false) else t6
def p5(a b:List Int):List Int × Bool:=vz Q4 a b
def Zg:List (List Int)->List (List Int)->List (List Int) × Bool
 | a::aa,b::bb=>((vz Q4 a b).1::(Zg aa bb).1,(vz Q4 a b).2||(Zg aa bb).2)
 | _,_=>([],false)
def Z6(a b:QL):QL:=((Zg a.1 b.1).1,(Q4 a.2.1 b.2.1).1,a.2.2||b.2.2||(Zg a.1 b.1).2||(Q4 a.2.1 b.2.1).2)
def QF:List aE->List Int->List (List Int) × Bool
 | [],x=>([x],false)
 | o::r,x=>(x::(QF r (Yr o x).1).1,(Yr o x).2||(QF r (Yr o x).1).2)
def oD(m:Zo)(x:List Int):List (List Int) × Bool:=if QS m&&Qr x (Zn m) then QF m x else([],false)
def QN:List aE->List (List Int)->List Int->List (List Int) × List Int × Bool
 | o::os,r::rs,d =>
  ((Ym o r (QN os rs d).2.1).2.1::(QN os rs d).1,(Ym o r (QN os rs d).2.1).1,(Ym o r (QN os rs d).2.1).2.2||(QN os rs d).2.2)
 | _,_,d=>([],d,false)
def Le(ops:List aE)(rows:List (List Int))(_:List Int):Prop:=ops.length<=rows.length/\ops.length<=bP
def vZ(ops:List aE)(rows:List (List Int))(_:List Int):Prop:=(ops.length<=rows.length/\ops.length<=bP)/\0<ops.length
def zM(m:Zo)(p:Qi):QL :=
 if Jb m p then
  (let i:=QF m p.1
   let y:=aq [] i.1 m.length
   ((QN m i.1 (QV y p.2).1).1,(ZO y p.2).1,i.2||(ZO y p.2).2||(QV y p.2).2||(QN m i.1 (QV y p.2).1).2.2))
 else t6
def zN(m:Zo):List Qi->QL->QL
 | [],g=>g
 | p::r,g=>zN m r (Z6 g (zM m p))
def oE(m:Zo)(b:List Qi):QL:=if Z5 m b then zN m b (ZA m) else t6
def Yn(q:Qd)(x:Zl):Qd × Bool:=if Q3 q&&Yq x&&decide ((q.2.length:Int)<q.1) then((q.1,q.2++[x]),true) else(q,false)
def Zq(q:Qd):Qd × Zl × Bool:=if Q3 q&&decide (0<q.2.length) then((q.1,q.2.tail),aq (0,[]) q.2 0,true) else(q,(0,[]),false)
def JC(ops:Zo)(ew:List bE)(last a0:Bool):Qc :=
 if QS ops then(0,ew,ops,last,a0,[],[],[],[],[],[],(ZA ops).1,0,false) else QE
def JB(s:Qc)(m:Int)(x t:List Int):Bool :=
 QU s&&Qr x (Zn (aM s))&&decide (QJ (Qe s) m<0)&&(!Qn s||Qr t (Za (aM s)))
def Yl(s:Qc)(m:Int)(x t:List Int):Qc :=
 if JB s m x t then
  (let i:=QF (aM s) x
   let y:=aq [] i.1 (aM s).length
   let kept:=if Qq s then i.1.take 1 else i.1
   let l:=ZO y t
   let a:=Q4 (Qo s) l.1
   (bT s,Qx s,aM s,Qn s,Qq s,Qe s++[(m,kept)],Qz s,[],(if Qn s then sY s else y),sG s,sD s,Qt s,(if Qn s then a.1 else Qo s),bg s||i.2||(Qn s&&(l.2||a.2))))
 else s
def YI(s:Qc)(m:Int):Qc :=
 let k:=QJ (Qe s) m
 if QU s&&decide (0<=k) then
  (bT s,Qx s,aM s,Qn s,Qq s,Qe s,(QF (aM s) (aq [] (aq Zb (Qe s) k.toNat).2 0)).1,sX s,sY s,sG s,sD s,Qt s,Qo s,bg s)
 else s
def ZD(s:Qc)(k:Int):List (List Int):=if Qq s then Qz s else(aq Zb (Qe s) k.toNat).2
def eP(s:Qc)(k:Int)(t:List Int):List Int × Bool:=if Qn s then QV (aq [] (ZD s k) (aM s).length) t else(sG s,false)
def YW(s:Qc)(k:Int)(t:List Int):Bool :=
 QU s&&decide (0<=k)&&((ZD s k).length==(aM s).length+1)&&Yg (aM s) (ZD s k) (aM s).length&&Qr (eP s k t).1 (Za (aM s))
def ZM(s:Qc)(m:Int)(t:List Int):Qc :=
 let k:=QJ (Qe s) m
 if YW s k t then
  (let g:=QN (aM s) (ZD s k) (eP s k t).1
   let z:=Z6 (kC s) (g.1,0,(eP s k t).2||g.2.2)
   (bT s,Qx s,aM s,Qn s,Qq s,(Qe s).take k.toNat++(Qe s).drop (k.toNat+1),[],sX s,sY s,[],g.2.1,z.1,z.2.1,z.2.2))
 else s
def Jz(c:QC)(n aF:Int):Nat->List Qc
 | 0=>[]
 | k+1=>Jz c n aF k++[JC (slice (Q8 c) (QG (Q8 c) (Zh c) k).1 (QG (Q8 c) (Zh c) k).2) (Z7 (lP c) n k aF (aq false (nh c) k)) (decide ((k:Int)=n-1)) (aq false (nh c) k)]
abbrev QY3:Ql:=([],[],[],[])
def Ze(c:QC)(b:List Qi):Ql :=
 if Zp c b=0 then(b,Jz c (QO c) b.length (QO c).toNat,(JF c).map λn=>(n,[]),(JF c).map λn=>(n,[])) else QY3
def f6(s:Qc)(v:List Int):Qc:=(bT s,Qx s,aM s,Qn s,Qq s,Qe s,Qz s,v,sY s,sG s,sD s,Qt s,Qo s,bg s)
def f7(s:Qc)(v:List Int):Qc:=(bT s,Qx s,aM s,Qn s,Qq s,Qe s,Qz s,sX s,v,sG s,sD s,Qt s,Qo s,bg s)
def f9(s:Qc)(v:List Int):Qc:=(bT s,Qx s,aM s,Qn s,Qq s,Qe s,Qz s,sX s,sY s,v,sD s,Qt s,Qo s,bg s)
def eE(s:Qc)(v:List Int):Qc:=(bT s,Qx s,aM s,Qn s,Qq s,Qe s,Qz s,sX s,sY s,sG s,v,Qt s,Qo s,bg s)
def YB(s:Qc)(v:Int):Qc:=(v,Qx s,aM s,Qn s,Qq s,Qe s,Qz s,sX s,sY s,sG s,sD s,Qt s,Qo s,bg s)
def Yc(p:Ql)(k:Nat)(x:Qc)(i:bE):Qc × List Qd × List Qd :=
 let a:=Qv p;let b:=Qw p
 let pr:=aq QP (QB p) i.2.toNat
 if i.1=1 then(f6 x (Zq (aq QI a (k-1))).2.1.2,a.set (k-1) (Zq (aq QI a (k-1))).1,b)
 else if i.1=2 then(Yl x i.2 (if k=0 then pr.1 else sX x) pr.2,a,b)
 else if i.1=3 then(f7 x [],a.set k (Yn (aq QI a k) (i.2,sY x)).1,b)
 else if i.1=4 then(f9 x (Zq (aq QI b k)).2.1.2,a,b.set k (Zq (aq QI b k)).1)
 else if i.1=5 then(YI x i.2,a,b)
 else if i.1=6 then((if k=0 then eE (ZM x i.2 pr.2) [] else ZM x i.2 pr.2),a,b)
 else if i.1=7 then(eE x [],a,b.set (k-1) (Yn (aq QI b (k-1)) (i.2,sD x)).1)
 else(x,a,b)
def ZU(p:Ql)(s:Int):Ql :=
 if ZZ p s then
  (let x:=aq QE (Qu p) s.toNat
   let y:=Yc p s.toNat x (Qk p s)
   (QB p,(Qu p).set s.toNat (YB y.1 (bT x+1)),y.2.1,y.2.2))
 else p
def ZH(k:Nat):Nat->Ql->Ql
 | 0,p=>p
 | n+1,p=>ZH (k+1) n (ZU p (Int.tmod (k:Int) (Qu p).length))
def Jv(p:Ql)(n:Int):Ql:=if 0<(Qu p).length then ZH 0 (min n.toNat 2000) p else p
def YJ(p:Ql):QL:=if YS p then((Qu p).flatMap Qt,(((Qu p).map Qo).getLast?).getD 0,(Qu p).any bg) else t6
end Go.Proofs.YtdplaepmjogjjaaGreat.Am

namespace Go.Proofs.YtdplaepmjogjjaaGreat.Am
open Go Go.Proofs.YtdplaepmjogjjaaGreat
set_option linter.all false
def QQR:List Nat:=[1,1,2,11,10,11,12,14,15,13,14,14,6,9,6,10,6,4,4,8,8,8,9,1,8,5,1,1,9,1,10,9,11,5,3,11,5,3,13,5,3,4,2,5,12,14,4,3,3,10,12,11,13,11,13,1,3,5,3,1,4,2,1,5,8,2,3,5,3,4,4,1,6,9,1,2,3,5,3,1,2,3,2,1,2,3,2,7,5,7,7,5,8,7,5,4,3,3,6,3,4,5,5,2,1,7,3,5,8,5,5,6,10,4,4,1,2,10,6,6,6,3,4,1,2,12,2,6,6,3,6,4,1,2,3,1,2,4,3,1,3,2,3,3,2,5,5,5,1,6,6,1,2,4,2,1,1,4,1,4,7,1,2,4,2,2,3,4,1,5,8,1,2,4,2,4,6,1,4,7,1,4,2,2,5,1,2,3,6,2,1,4,3,7,4,5,3,9,6,5,9,5,2,1,1,7,1,11,5,1,2,1,1,5,2,2,1,1,4,2,5,4,3,6,1,5,4,4,3,7,1,6,4,4,3,3,3,3,2,3,1,5,6,4,8,4,6,5,5,8,7,6,10,2,3,1,3,1,3,2,2,2,2,1,1,4,7,9,1,8,1,1,1,1,1,1,1,1,1,1,1,1,1,1,1,1]
theorem lR:Da Tryz.prog QQR=true:=by kernel_rfl
def QM3:List Nat:=[104,97,114,110,101,115,115,32,56,49,53,57,52,50,49,48,52,97,101,98,98,101,101,102,97,56,50,49,56,97,99,97,102,98,102,56,51,52,55,98,50,50,99,50,55,101,102,55,56,57,48,55,101,55,54,57,54,102,99,56,52,52,98,51,101,49,55,102,49,98,57,52,32,99,117,116,32,97,116,32,108,111,111,112,46,101,120,97,109,112,108,101,47,103,48,49,52,48,55,47,108,97,119,115,46,70,110,69,120,97,99,116,83,116,97,103,101,82,101,100,111,32,108,111,111,112,46,101,120,97,109,112,108,101,47,103,48,49,52,48,55,47,108,97,119,115,46,70,110,69,120,97,99,116,69,110,97,98,108,101,100,65,108,108,32,108,111,111,112,46,101,120,97,109,112,108,101,47,103,48,49,52,48,55,47,108,97,119,115,46,70,110,69,120,97,99,116,83,116,97,103,101,70,119,100,32,108,111,111,112,46,101,120,97,109,112,108,101,47,103,48,49,52,48,55,47,108,97,119,115,46,70,110,69,120,97,99,116,83,116,97,103,101,66,119,100,32,108,111,111,112,46,101,120,97,109,112,108,101,47,103,48,49,52,48,55,47,108,97,119,115,46,70,110,69,120,97,99,116,80,105,112,101,78,101,119,32,108,111,111,112,46,101,120,97,109,112,108,101,47,103,48,49,52,48,55,47,108,97,119,115,46,70,110,69,120,97,99,116,71,114,97,100,105,101,110,116,115,32,108,111,111,112,46,101,120,97,109,112,108,101,47,103,48,49,52,48,55,47,108,97,119,115,46,70,110,69,120,97,99,116,80,105,99,107,32,108,111,111,112,46,101,120,97,109,112,108,101,47,103,48,49,52,48,55,47,108,97,119,115,46,70,110,69,120,97,99,116,82,111,117,110,100,115,32,108,111,111,112,46,101,120,97,109,112,108,101,47,103,48,49,52,48,55,47,108,97,119,115,46,70,110,69,120,97,99,116,82,117,110]
theorem QPD:Tryz.prog.initOrder=String.ofList (QM3.map Char.ofNat):=by kernel_rfl
def Q4r:List (List Nat):=[[97,116],[108,111,111,112,46,101,120,97,109,112,108,101,47,103,48,49,52,48,55,47,108,97,119,115,46,70,110,69,120,97,99,116,83,116,97,103,101,82,101,100,111],[108,111,111,112,46,101,120,97,109,112,108,101,47,103,48,49,52,48,55,47,108,97,119,115,46,70,110,69,120,97,99,116,69,110,97,98,108,101,100,65,108,108],[108,111,111,112,46,101,120,97,109,112,108,101,47,103,48,49,52,48,55,47,108,97,119,115,46,70,110,69,120,97,99,116,83,116,97,103,101,70,119,100],[108,111,111,112,46,101,120,97,109,112,108,101,47,103,48,49,52,48,55,47,108,97,119,115,46,70,110,69,120,97,99,116,83,116,97,103,101,66,119,100],[108,111,111,112,46,101,120,97,109,112,108,101,47,103,48,49,52,48,55,47,108,97,119,115,46,70,110,69,120,97,99,116,80,105,112,101,78,101,119],[108,111,111,112,46,101,120,97,109,112,108,101,47,103,48,49,52,48,55,47,108,97,119,115,46,70,110,69,120,97,99,116,71,114,97,100,105,101,110,116,115],[108,111,111,112,46,101,120,97,109,112,108,101,47,103,48,49,52,48,55,47,108,97,119,115,46,70,110,69,120,97,99,116,80,105,99,107],[108,111,111,112,46,101,120,97,109,112,108,101,47,103,48,49,52,48,55,47,108,97,119,115,46,70,110,69,120,97,99,116,82,111,117,110,100,115],[108,111,111,112,46,101,120,97,109,112,108,101,47,103,48,49,52,48,55,47,108,97,119,115,46,70,110,69,120,97,99,116,82,117,110]]
theorem Lf:behindMainWord (wordsSigns Tryz.prog.initOrder.toList)=t4::Q4r.map (λl=>l.map Char.ofNat):=by
 rw[QPD,String.toList_ofList];kernel_rfl
theorem lS:Tryz.prog.mayEnter=true:=Q2q Lf (by kernel_rfl) (by kernel_rfl) (by kernel_rfl)
theorem jW:Tryz.prog.liftsFinal=false:=QX8 Lf
theorem p6:Tryz.prog.make=some .cut:=QVU Lf
end Go.Proofs.YtdplaepmjogjjaaGreat.Am

set_option linter.all false
namespace Go.Proofs.YtdplaepmjogjjaaGreat.Am
open Go Sz
def tm(ds n M s:Int)(i:bE):Int :=
 let F:=s+2*i.2
 let B:=(if ds=2 then 2*n-1 else 2*n-1+2*M)-s+2*i.2
 if i.1=1 then 8*F else if i.1=2 then 8*F+1 else if i.1=3 then 8*F+2
 else if i.1=4 then 8*B else if i.1=5 then 8*B+1 else if i.1=6 then 8*B+2 else if i.1=7 then 8*B+3 else 1000000
def g8(f:Nat)(k1:Int):Nat:=if k1=1 then f+1 else f
def hP(f:Nat)(k1:Int):Nat:=if k1=2 then f-1 else f
def hZ(n s:Int)(g:Nat)(k1:Int):Nat:=if k1=4\/(k1=5/\s<n-1) then g+1 else g
def mj(g:Nat)(k1:Int):Nat:=if k1=6 then g-1 else g
def Dc(ds n M s:Int)(rd:Bool)(f g:Nat)(k1:Int)(i:bE)(last:Bool):Bool :=
 decide (g<=f/\(f:Int)<=M/\1<=i.1/\i.1<=8/\0<=i.2/\i.2<M/\(i.1=8↔last=true)/\i≠(0,0)) &&
 decide (i.1=1->0<s/\i.2=f/\k1≠1) &&
 decide (i.1=2->i.2=f/\(0<s->k1=1)) &&
 decide (i.1=3->s<n-1/\i.2=(f:Int)-1/\k1=2) &&
 decide (i.1=4->s<n-1/\i.2=g) &&
 decide (i.1=5->rd=true/\i.2=g/\g<f/\(s<n-1->k1=4)) &&
 decide (i.1=6->i.2=g/\g<f/\(rd=true->k1=5)/\(rd=false->s<n-1->k1=4)) &&
 decide (i.1=7->0<s/\i.2=(g:Int)-1/\k1=6) &&
 decide (i.1=8->(f:Int)=M/\(g:Int)=M/\k1≠0) &&
 decide (k1=1->i.1=2)&&decide (k1=2->s<n-1->i.1=3)&&decide (k1=4->i.1=5\/i.1=6)&&decide (k1=5->i.1=6)&&decide (k1=6->0<s->i.1=7) &&
 decide (k1=5->rd=true)&&decide (k1=6->1<=g)&&decide (k1=2->1<=f)&&decide (k1≠8)&&decide (k1=4->s<n-1)&&decide (k1=1->0<s) &&
 decide (k1=4\/k1=5->g<f)&&decide (k1=1->(f:Int)<M) &&
 decide (s<n-1->(hP f k1:Int)<M->tm ds n M s i<=tm ds n M s (3,(hP f k1:Int))) &&
 decide (0<s->(g8 f k1:Int)<M->tm ds n M s i<=tm ds n M s (1,(g8 f k1:Int))) &&
 decide (s<n-1->(hZ n s g k1:Int)<M->tm ds n M s i<=tm ds n M s (4,(hZ n s g k1:Int))) &&
 decide (0<s->(mj g k1:Int)<M->tm ds n M s i<=tm ds n M s (7,(mj g k1:Int))) &&
 decide (ds=2->(f:Int)-g<=n-s)&&decide (ds=2->i.1=2->(f:Int)-g<n-s)
def Lg(M:Int)(f g:Nat)(k1:Int):Bool:=decide ((f:Int)=M/\(g:Int)=M/\k1=8)
def kf(i:bE):Nat:=if i.1=2 then 1 else 0
def kg(i:bE):Nat:=if i.1=6 then 1 else 0
def t7(ds n M s:Int)(rd:Bool):List bE->Nat->Nat->Int->Bool
 | [],f,g,k1=>Lg M f g k1
 | i::r,f,g,k1=>Dc ds n M s rd f g k1 i r.isEmpty&&t7 ds n M s rd r (f+kf i) (g+kg i) i.1
def Xd:Bool:=[1,2].all λds:Int=>[1,2,3,4].all λn:Int=>[0,1,2,3].all λs:Int=>[1,2,3,4,5].all λM:Int=>[true,false].all λrd =>
 !(decide (s<n))||t7 ds n M s rd (Z7 ds n s M rd) 0 0 0
set_option maxRecDepth 100000 in
theorem QK9:Xd=true:=by kernel_rfl
theorem Q2L{ds n s M:Int}(rd:Bool)(h1:1<=ds)(h2:ds<=2)(h3:n<=4)(h4:0<=s)(h5:s<n)(h6:1<=M)(h7:M<=5):t7 ds n M s rd (Z7 ds n s M rd) 0 0 0=true:=by
 have h:=QK9;unfold Xd at h;rw[List.all_eq_true]at h;have h:=h ds (by have:ds=1\/ds=2:=(by omega);rcases this with rfl | rfl <;> simp);rw[List.all_eq_true]at h;have h:=h n (by have:n=1\/n=2\/n=3\/n=4:=(by omega);rcases this with rfl | rfl | rfl | rfl <;> simp);rw[List.all_eq_true]at h;have h:=h s (by have:s=0\/s=1\/s=2\/s=3:=(by omega);rcases this with rfl | rfl | rfl | rfl <;> simp);rw[List.all_eq_true]at h;have h:=h M (by have:M=1\/M=2\/M=3\/M=4\/M=5:=(by omega);rcases this with rfl | rfl | rfl | rfl | rfl <;> simp);rw[List.all_eq_true]at h;have h:=h rd (by cases rd <;> simp);simpa[h5]using h
def cf(l:List bE):Nat:=(l.map kf).sum
def cg(l:List bE):Nat:=(l.map kg).sum
def Ja(l:List bE)(k:Nat):Int:=if k=0 then 0 else(aq f5 l (k-1)).1
theorem Lh{ds n M s:Int}{rd:Bool}:∀(l:List bE)(f g:Nat)(k1:Int),t7 ds n M s rd l f g k1=true->∀ k,k<=l.length->
  (∀ i,l[k]? = some i->Dc ds n M s rd (f+cf (l.take k)) (g+cg (l.take k)) (if k=0 then k1 else Ja l k) i (decide (k+1=l.length))=true)/\
  (k=l.length->Lg M (f+cf (l.take k)) (g+cg (l.take k)) (if k=0 then k1 else Ja l k)=true)
 | [],f,g,k1,h,k,hk=>by
  have:k=0:=by simpa using hk
  subst this;simp only[t7]at h;exact⟨λi hi=>by simp at hi,λ_=>by simpa[cf,cg]using h⟩
 | i::r,f,g,k1,h,k,hk=>by
  simp only[t7,Bool.and_eq_true]at h
  cases k with
  | zero =>
   refine⟨λj hj=>?_,λh0=>by simp at h0⟩;simp at hj;subst hj;have:r.isEmpty=decide (0+1=(i::r).length):=by cases r <;> simp
   rw[<- this];simpa[cf,cg]using h.1
  | succ k =>
   have ih:=Lh r (f+kf i) (g+kg i) i.1 h.2 k (by simpa using hk);have e1:f+cf ((i::r).take (k+1))=f+kf i+cf (r.take k):=by simp[cf];omega
   have e2:g+cg ((i::r).take (k+1))=g+kg i+cg (r.take k):=by simp[cg];omega
   have e3:(if k=0 then i.1 else Ja r k)=Ja (i::r) (k+1):=by
    unfold Ja
    cases k with
    | zero=>simp[aq]
    | succ k=>simp[aq]
   rw[e1,e2,if_neg (by omega),<- e3];refine⟨λj hj=>?_,λh0=>ih.2 (by simpa using h0)⟩;have:=ih.1 j (by simpa using hj);rw[show decide (k+1+1=(i::r).length)=decide (k+1=r.length) by simp];exact this
end Go.Proofs.YtdplaepmjogjjaaGreat.Am
namespace Go.Proofs.YtdplaepmjogjjaaGreat.Am
open Go Sz
theorem ml(x:Int):-2147483647<=QR x/\QR x<=2147483647:=by unfold QR fB fC;split <;> split <;> omega
theorem Dd{x:Int}:Zj x=true↔-2147483647<=x/\x<=2147483647:=by simp[Zj]
theorem QUo(x:Int):Zj (QR x)=true:=Dd.2 (ml x)
theorem Xe{x:Int}(h:Zj x=true):QR x=x:=by
 have:=Dd.1 h;unfold QR fB fC;split <;> split <;> omega
theorem Li(x:Int):Zj (Ys x).1=true:=QUo x
theorem Lj(a b:Int):Zj (Q4 a b).1=true:=Li _
theorem Q1v(a b:Int):Zj (JU a b).1=true:=Li _
theorem QPi(a b:Int):Zj (Zm a b).1=true:=Li _
theorem QTS(a:Int):Zj (nj a)=true:=by
 have:=ml a;rw[Dd];unfold nj fC;split <;> omega
theorem Q2z{a:Int}(h:Zj a=true):Q4 a 0=(a,false):=by
 have e:QR 0=0:=rfl;unfold Q4 Ys;rw[e,Int.add_zero,Xe h,Xe h,h];rfl
theorem Xf{x:Int}{l:List Int}:ZT (x::l)=(Zj x&&ZT l):=rfl
theorem ZY{v:List Int}:QH v=true↔(1<=v.length/\v.length<=6)/\ZT v=true:=by
 simp only[QH,Bool.and_eq_true,QW];constructor
 ·rintro⟨h1,h2⟩;exact⟨by omega,h2⟩
 ·rintro⟨h1,h2⟩;exact⟨by omega,h2⟩
theorem YN{v:List Int}{n:Int}:Qr v n=true↔QH v=true/\(v.length:Int)=n:=by simp[Qr]
theorem Lk(f:Int->Int->Int × Bool):∀ a b:List Int,(vz f a b).1.length=min a.length b.length
 | [],b=>by simp[vz]
 | a::aa,[]=>by simp[vz]
 | a::aa,b::bb=>by simp[vz,Lk f aa bb]
theorem Xg{f:Int->Int->Int × Bool}(hf:∀ a b,Zj (f a b).1=true):∀ a b:List Int,ZT (vz f a b).1=true
 | [],b=>by simp[vz,ZT]
 | a::aa,[]=>by simp[vz,ZT]
 | a::aa,b::bb=>by simp only[vz,Xf,hf,Xg hf aa bb,Bool.and_self]
theorem Xh(f:Int->Int × Bool):∀ a:List Int,(v1 f a).1.length=a.length
 | []=>rfl
 | a::aa=>by simp[v1,Xh f aa]
theorem Xi{f:Int->Int × Bool}(hf:∀ a,Zj (f a).1=true):∀ a:List Int,ZT (v1 f a).1=true
 | []=>rfl
 | a::aa=>by simp only[v1,Xf,hf,Xi hf aa,Bool.and_self]
theorem Xj:∀(a b:List Int)(z:Int),Zj z=true->Zj (Y3 a b z).1=true
 | [],b,z,h=>by simpa[Y3]using h
 | a::aa,[],z,h=>by simpa[Y3]using h
 | a::aa,b::bb,z,h=>by rw[Y3];exact Xj aa bb _ (Lj _ _)
theorem Ll(a b:List Int):Zj (Q7 a b).1=true:=by
 unfold Q7;split
 ·exact Xj _ _ _ rfl
 ·rfl
theorem JV{a b:List Int}:ZG a b=true↔QH a=true/\QH b=true/\b.length=a.length:=by
 unfold ZG;rw[Bool.and_eq_true,YN];constructor <;> (intro h;exact⟨h.1,h.2.1,by omega⟩)
theorem Xk{f:Int->Int->Int × Bool}(hf:∀ a b,Zj (f a b).1=true){a b:List Int}(h:ZG a b=true):Qr (vz f a b).1 a.length=true:=by
 obtain⟨h1,h2,h3⟩:=JV.1 h;have:=(ZY.1 h1).1;have hl:=Lk f a b;exact YN.2 ⟨ZY.2 ⟨by omega,Xg hf a b⟩,by omega⟩
theorem Lm{a b:List Int}(h:ZG a b=true):Qr (Zt a b).1 a.length=true:=by unfold Zt;rw[if_pos h];exact Xk Lj h
theorem QV5{a b:List Int}(h:ZG a b=true):Qr (QV a b).1 a.length=true:=by unfold QV;rw[if_pos h];exact Xk Q1v h
theorem Ln{a b:List Int}{n:Int}(h1:Qr a n=true)(h2:Qr b n=true):ZG a b=true:=by
 obtain⟨h3,h4⟩:=YN.1 h1;obtain⟨h5,h6⟩:=YN.1 h2;exact JV.2 ⟨h3,h5,by omega⟩
theorem Xl{c:Int}{a:List Int}(hc:Zj c=true)(h:QH a=true):Qr (ZQ c a).1 a.length=true:=by
 unfold ZQ;rw[hc,h,Bool.and_self,if_pos rfl];have:=(ZY.1 h).1;have hl:=Xh (Zm c) a;exact YN.2 ⟨ZY.2 ⟨by omega,Xi (QPi c) a⟩,by omega⟩
theorem QUR{α:Type}{f:α->Int}(hf:∀ a,Zj (f a)=true)(l:List α):ZT (l.map f)=true:=by
 unfold ZT;rw[List.all_eq_true];intro x hx;obtain⟨a,_,rfl⟩:=List.mem_map.1 hx;exact hf a
theorem Lo{α:Type}{f:α->Int}(hf:∀ a,Zj (f a)=true){l:List α}(h1:1<=l.length)(h2:l.length<=6):Qr (l.map f) l.length=true :=
 YN.2 ⟨ZY.2 ⟨by simp;omega,QUR hf l⟩,by simp⟩
theorem QJx{a:List Int}(h:QH a=true):Qr (Yx a) a.length=true:=by
 unfold Yx;rw[if_pos h];have:=(ZY.1 h).1;exact Lo QTS (by omega) (by omega)
theorem Xm{m:cm}{x:List Int}(h:(Zw m&&Qr x m.2.1)=true):Qr (Zi m x).1 m.1=true:=by
 unfold Zi;rw[if_pos h];have h1:1<=m.1/\m.1<=6:=by simp only[Zw,Bool.and_eq_true,QW]at h;omega
 have:=Lo (f:=λi:Nat=>(Q7 (Y2 m i) x).1) (λi=>Ll _ _) (l:=List.range m.1.toNat) (by simp;omega) (by simp;omega);rw[List.length_range,show((m.1.toNat:Nat):Int)=m.1 by omega]at this;exact this
theorem Xn{m:cm}{x:List Int}(h:(Zw m&&Qr x m.1)=true):Qr (ZB m x).1 m.2.1=true:=by
 unfold ZB;rw[if_pos h];have h1:1<=m.2.1/\m.2.1<=6:=by simp only[Zw,Bool.and_eq_true,QW]at h;omega
 have:=Lo (f:=λi:Nat=>(Q7 (Yb m i) x).1) (λi=>Ll _ _) (l:=List.range m.2.1.toNat) (by simp;omega) (by simp;omega);rw[List.length_range,show((m.2.1.toNat:Nat):Int)=m.2.1 by omega]at this;exact this
theorem Q1k{x d:List Int}(h:ZG x d=true):Qr (Yw x d) x.length=true:=by
 unfold Yw;rw[if_pos h];obtain⟨h1,h2,h3⟩:=JV.1 h;have hl:=(ZY.1 h1).1;have hf:=(ZY.1 h2).2;refine YN.2 ⟨ZY.2 ⟨by simp;omega,?_⟩,by simp;omega⟩;unfold ZT at hf ⊢;rw[List.all_eq_true]at hf ⊢;intro y hy;rw[List.mem_iff_getElem?]at hy;obtain⟨i,hi⟩:=hy;rw[List.getElem?_zipWith]at hi
 split at hi
 ·rename_i a b ha hb
  cases hi
  split
  ·exact hf b (List.mem_of_getElem? hb)
  ·rfl
 ·cases hi
theorem Xo{d x:List Int}(hd:QH d=true)(hx:QH x=true):(Zy d x).1.2.2.length=d.length*x.length:=by
 unfold Zy;rw[hd,hx,Bool.and_self,if_pos rfl];simp only;generalize d=l;clear hd
 induction l with
 | nil=>simp
 | cons a l ih=>rw[List.flatMap_cons,List.length_append,ih];simp[Nat.add_mul];omega
theorem v3{o:aE}(h:Zk o=true):(o.2.2.2.length:Int)=(if o.1=1\/o.1=5 then o.2.1*o.2.2.1 else if o.1=2 then o.2.1 else if o.1=4 then 1 else 0):=by
 have h1:=zI h;simp only[Zk,Bool.and_eq_true,beq_iff_eq]at h;rw[h.1.2];unfold Jl;rw[show aT o.2.1 1 6=true from QW.2 ⟨h1.1,h1.2.1⟩,show aT o.2.2.1 1 6=true from QW.2 ⟨h1.2.2.1,h1.2.2.2⟩];rfl
theorem De{o:aE}(h:Zk o=true):ZT o.2.2.2=true:=by simp only[Zk,Bool.and_eq_true]at h;exact h.2
theorem zO{o:aE}(h:Zk o=true)(h1:o.1≠1):o.2.1=o.2.2.1:=by
 simp only[Zk,Bool.and_eq_true,Bool.or_eq_true,beq_iff_eq]at h
 rcases h.1.1.2 with h | h
 ·exact absurd h h1
 ·exact h
theorem Df{o:aE}(h:Zk o=true)(h1:o.1=1\/o.1=5):Zw (Q0 o)=true:=by
 have h2:=zI h;have h3:=v3 h;rw[if_pos h1]at h3;simp only[Zw,Q0,Bool.and_eq_true,QW,beq_iff_eq];refine⟨⟨⟨⟨by omega,by omega⟩,by omega,by omega⟩,?_⟩,De h⟩;rw[h3,Int.mul_comm]
theorem Lp{o:aE}{x:List Int}(ho:Zk o=true)(hx:Qr x o.2.1=true):Qr (Yr o x).1 o.2.2.1=true:=by
 have gB:=YN.1 hx;unfold Yr;rw[ho,hx,Bool.and_self,if_pos rfl]
 split
 ·rename_i h1;exact Xm (m:=Q0 o) (by rw[Df ho (.inl h1)];simpa[Q0]using hx)
 ·rename_i h1;have he:=zO ho h1;rw[<- he]
  split
  ·rename_i h2;have h3:=v3 ho;rw[if_neg (by omega),if_pos h2]at h3;have h4:=zI ho;have hp:ZG x o.2.2.2=true:=JV.2 ⟨gB.1,ZY.2 ⟨by omega,De ho⟩,by omega⟩;rw[<- gB.2];exact Lm hp
  ·split
   ·rename_i h2 h3;have h4:=v3 ho;rw[if_neg (by omega),if_neg h2,if_pos h3]at h4;have hf:Zj (aq 0 o.2.2.2 0)=true:=by
     have:=De ho;unfold ZT at this;exact List.all_eq_true.1 this _ (Js (by omega) 0)
    rw[<- gB.2];exact Xl hf gB.1
   ·split
    ·rename_i h5;have hm:=Df ho (.inr h5);have hy:Qr (Zi (Q0 o) x).1 o.2.2.1=true:=Xm (m:=Q0 o) (by rw[hm];simpa[Q0]using hx);rw[<- he]at hy;have:=Lm (Ln hx hy);rwa [gB.2]at this
    ·have:=QJx gB.1;rwa [gB.2]at this
theorem QWl{o:aE}{x d:List Int}(ho:Zk o=true)(hx:Qr x o.2.1=true)(hd:Qr d o.2.2.1=true) :
  Qr (Ym o x d).1 o.2.1=true/\(Ym o x d).2.1.length=o.2.2.2.length:=by
 have gB:=YN.1 hx;have dr:=YN.1 hd;have hs:=v3 ho;unfold Ym;rw[ho,hx,hd,Bool.and_self,Bool.and_self,if_pos rfl]
 split
 ·rename_i h1;rw[if_pos (.inl h1)]at hs;refine⟨Xn (m:=Q0 o) (by rw[Df ho (.inl h1)];simpa[Q0]using hd),?_⟩;have:=Xo dr.1 gB.1;show(Zy d x).1.2.2.length=_;rw[this];have:((d.length*x.length:Nat):Int)=o.2.1*o.2.2.1:=by rw[Int.natCast_mul,dr.2,gB.2,Int.mul_comm]
  omega
 ·rename_i h1;have he:=zO ho h1
  split
  ·rename_i h2;rw[if_neg (by omega),if_pos h2]at hs;refine⟨by rw[he];exact hd,?_⟩;show d.length=_;omega
  ·split
   ·rename_i h2 h3;rw[if_neg (by omega),if_neg h2,if_pos h3]at hs;have hf:Zj (aq 0 o.2.2.2 0)=true:=by
     have:=De ho;unfold ZT at this;exact List.all_eq_true.1 this _ (Js (by omega) 0)
    refine⟨?_,?_⟩
    ·have:=Xl hf dr.1;rw[dr.2,<- he]at this;exact this
    ·show [(Q7 d x).1].length=_;simp;omega
   ·split
    ·rename_i h2 h3 h5;rw[if_pos (.inr h5)]at hs;have hm:=Df ho (.inr h5);have hy:Qr (ZB (Q0 o) d).1 o.2.1=true:=Xn (m:=Q0 o) (by rw[hm];simpa[Q0]using hd);refine⟨?_,?_⟩
     ·rw[he]at hy;have:=Lm (Ln hd hy);rw[dr.2,<- he]at this;exact this
     ·have:=Xo dr.1 gB.1;show(Zy d x).1.2.2.length=_;rw[this];have:((d.length*x.length:Nat):Int)=o.2.1*o.2.2.1:=by rw[Int.natCast_mul,dr.2,gB.2,Int.mul_comm]
      omega
    ·rename_i h2 h3 h5;rw[if_neg (by omega),if_neg h2,if_neg h3]at hs;have hp:ZG x d=true:=JV.2 ⟨gB.1,dr.1,by omega⟩;refine⟨?_,by simp;omega⟩;have:=Q1k hp;rw[gB.2]at this;exact this
theorem t8:∀(ops:List aE)(x:List Int),(QF ops x).1.length=ops.length+1
 | [],x=>rfl
 | o::r,x=>by simp[QF,t8 r]
def ZX(ops:List aE)(x:List Int):List Int:=aq [] (QF ops x).1 ops.length
theorem Dg(x:List Int):ZX [] x=x:=rfl
theorem zP(o:aE)(r:List aE)(x:List Int):ZX (o::r) x=ZX r (Yr o x).1:=by
 unfold ZX;rw[QF];simp[aq]
theorem Lq:∀(a b:List aE)(x:List Int),QF (a++b) x=((QF a x).1.take a.length++(QF b (ZX a x)).1,(QF a x).2||(QF b (ZX a x)).2)
 | [],b,x=>by simp[QF,Dg]
 | o::a,b,x=>by
  rw[List.cons_append,QF,Lq a b,zP,QF];simp[Bool.or_assoc]
theorem QOD(a b:List aE)(x:List Int):ZX (a++b) x=ZX b (ZX a x):=by
 induction a generalizing x with
 | nil=>rfl
 | cons o a ih=>rw[List.cons_append,zP,zP,ih]
theorem QLa(ops:List aE)(x:List Int):aq [] (QF ops x).1 0=x:=by cases ops <;> simp[QF,aq]
theorem QZS(ops:List aE)(x:List Int):(QF ops x).1.take ops.length++[ZX ops x]=(QF ops x).1:=by
 unfold ZX;have hl:=t8 ops x;have:aq [] (QF ops x).1 ops.length=(QF ops x).1[ops.length]'(by omega):=tS (List.getElem?_eq_getElem (by omega)) [];rw[this,List.take_append_getElem (by omega),List.take_of_length_le (by omega)]
theorem Dh:∀(ops:List aE)(rows:List (List Int))(d:List Int),ops.length<=rows.length->(QN ops rows d).1.length=ops.length
 | [],rows,d,_=>by simp[QN]
 | o::os,[],d,h=>by simp at h
 | o::os,r::rs,d,h=>by simp[QN,Dh os rs d (by simpa using h)]
theorem Lr:∀(a b:List aE)(ra rb:List (List Int))(d:List Int),ra.length=a.length->
  QN (a++b) (ra++rb) d=((QN a ra (QN b rb d).2.1).1++(QN b rb d).1,(QN a ra (QN b rb d).2.1).2.1,(QN a ra (QN b rb d).2.1).2.2||(QN b rb d).2.2)
 | [],b,ra,rb,d,h=>by
  have:ra=[]:=List.eq_nil_of_length_eq_zero (by simpa using h);subst this;simp[QN]
 | o::a,b,[],rb,d,h=>by simp at h
 | o::a,b,r::ra,rb,d,h=>by
  rw[List.cons_append,List.cons_append,QN,Lr a b ra rb d (by simpa using h),QN];simp[Bool.or_assoc]
theorem QQr:∀(ops:List aE)(rows more:List (List Int))(d:List Int),rows.length=ops.length->QN ops (rows++more) d=QN ops rows d:=by
 intro ops rows more d h;have:=Lr ops [] rows more d h;rw[List.append_nil]at this;rw[this];simp[QN]
end Go.Proofs.YtdplaepmjogjjaaGreat.Am
namespace Go.Proofs.YtdplaepmjogjjaaGreat.Am
open Go Sz
def Z9:Int->List aE->Int->Prop
 | i,[],o=>i=o
 | i,a::r,o=>Zk a=true/\a.2.1=i/\Z9 a.2.2.1 r o
theorem Z9.append:∀ {a b:List aE} {i o:Int},Z9 i (a++b) o↔∃ k,Z9 i a k/\Z9 k b o
 | [],b,i,o=>by simp[Z9]
 | x::a,b,i,o=>by
  rw[List.cons_append,Z9,Z9.append];constructor
  ·rintro⟨h1,h2,k,h3,h4⟩;exact⟨k,⟨h1,h2,h3⟩,h4⟩
  ·rintro⟨k,⟨h1,h2,h3⟩,h4⟩;exact⟨h1,h2,k,h3,h4⟩
theorem Xp:∀ {l:List aE} {p:Option Int},YU p l=true->∃ i o,Z9 i l o/\(∀ q,p=some q->l≠[]->q=i)
 | [],p,h=>⟨0,0,rfl,λq _ h=>absurd rfl h⟩
 | a::r,p,h=>by
  simp only[YU,Bool.and_eq_true]at h;obtain⟨i,o,h1,h2⟩:=Xp h.2;have hp:∀ q,p=some q->a::r≠[]->q=a.2.1:=λq hq _=>by
   have:=h.1.2;rw[hq]at this;simpa using this
  cases r with
  | nil=>exact⟨a.2.1,a.2.2.1,⟨h.1.1,rfl,rfl⟩,hp⟩
  | cons b r =>
   have:=h2 _ rfl (by simp);rw[<- this]at h1;exact⟨a.2.1,o,⟨h.1.1,rfl,h1⟩,hp⟩
theorem Xq:∀ {l:List aE} {i o:Int} {p:Option Int},Z9 i l o->(∀ q,p=some q->q=i)->YU p l=true
 | [],i,o,p,h,hp=>rfl
 | a::r,i,o,p,h,hp=>by
  obtain⟨h1,h2,h3⟩:=h;simp only[YU,Bool.and_eq_true];refine⟨⟨h1,?_⟩,Xq h3 (λq hq=>by cases hq;rfl)⟩
  cases p with
  | none=>rfl
  | some q=>simp[hp q rfl,h2]
theorem Z9.nk:∀ {l:List aE} {i o:Int},Z9 i l o->l≠[]->(aq bY l (l.length-1)).2.2.1=o
 | [],i,o,h,hn=>absurd rfl hn
 | [a],i,o,h,hn=>h.2.2
 | a::b::r,i,o,h,hn=>by
  have:=Z9.nk h.2.2 (by simp);simpa[aq]using this
theorem Di{l:List aE}{i o:Int}(h:Z9 i l o)(h1:1<=l.length)(h2:l.length<=8):QS l=true/\Zn l=i/\Za l=o:=by
 have hm:QS l=true:=by
  simp only[QS,Bool.and_eq_true,QW];exact⟨by omega,Xq h (by simp)⟩
 refine⟨hm,?_,?_⟩
 ·unfold Zn;rw[if_pos hm]
  cases l with
  | nil=>simp at h1
  | cons a r=>exact h.2.1
 ·unfold Za;rw[if_pos hm];exact h.nk (by intro e;rw[e]at h1;simp at h1)
theorem QMm{l:List aE}(h:QS l=true):1<=l.length/\l.length<=8/\Z9 (Zn l) l (Za l):=by
 have hl:=Yp h;refine⟨hl.1,hl.2,?_⟩;have h':=h;simp only[QS,Bool.and_eq_true]at h';obtain⟨i,o,h1,_⟩:=Xp h'.2;have:=Di h1 hl.1 hl.2;rw[this.2.1,this.2.2];exact h1
theorem Xr:∀ {l:List aE} {i o:Int} {x:List Int},Z9 i l o->Qr x i=true->Qr (ZX l x) o=true
 | [],i,o,x,h,hx=>by rw[Dg,<- show i=o from h];exact hx
 | a::r,i,o,x,h,hx=>by
  obtain⟨h1,h2,h3⟩:=h;rw[zP];exact Xr h3 (Lp h1 (by rw[h2];exact hx))
theorem Ls:∀ {l:List aE} {i o:Int} {x d:List Int},Z9 i l o->Qr x i=true->Qr d o=true->
  Qr (QN l (QF l x).1 d).2.1 i=true/\Z1 l (QN l (QF l x).1 d).1=true
 | [],i,o,x,d,h,hx,hd=>by
  refine⟨?_,rfl⟩;show Qr d i=true;rw[show i=o from h];exact hd
 | a::r,i,o,x,d,h,hx,hd=>by
  obtain⟨h1,h2,h3⟩:=h;rw[QF];have gB:Qr x a.2.1=true:=by rw[h2];exact hx
  have ih:=Ls h3 (Lp h1 gB) hd;have:=QWl h1 gB ih.1;rw[QN];refine⟨by rw[<- h2];exact this.1,?_⟩;simp only[Z1,Bool.and_eq_true,beq_iff_eq];exact⟨this.2,ih.2⟩
theorem Xs(all:List aE){o:Int}:∀ {l:List aE} {i:Int} {x:List Int} {k:Nat},Z9 i l o->all.drop k=l->k<=all.length->(l=[]->Je all k=i)->Qr x i=true->Yd all k (QF l x).1=true
 | [],i,x,k,h,hk,hle,hs,hx=>by
  simp only[QF,Yd,Bool.and_true];rw[hs rfl];exact hx
 | a::r,i,x,k,h,hk,hle,hs,hx=>by
  obtain⟨h1,h2,h3⟩:=h;have aY:=zx hk;have gB:Qr x a.2.1=true:=by rw[h2];exact hx
  simp only[QF,Yd,Bool.and_eq_true];refine⟨?_,Xs all h3 (ZW hk) aY (λhr=>?_) (Lp h1 gB)⟩
  ·unfold Je;rw[if_pos aY,Z2 hk];exact gB
  ·have:all.length=k+1:=by have:=W0 hk;rw[hr]at this;simp at this;omega
   unfold Je;rw[if_neg (by omega),show all.length-1=k by omega,Z2 hk]
theorem QMw{l:List aE}{i o:Int}{x:List Int}(h:Z9 i l o)(hl:l≠[])(hx:Qr x i=true):Yd l 0 (QF l x).1=true :=
 Xs l h (by simp) (by simp) (λh0=>absurd h0 hl) hx
theorem zQ:∀(ops:List aE)(rows:List (List Int))(k n:Nat),Yd ops k rows=true->Yd ops k (rows.take n)=true
 | ops,[],k,n,h=>by simp[Yd]
 | ops,r::rs,k,0,h=>by simp[Yd]
 | ops,r::rs,k,n+1,h=>by
  simp only[Yd,List.take_succ_cons,Bool.and_eq_true]at h ⊢;exact⟨h.1,zQ ops rs (k+1) n h.2⟩
theorem QWm(a b:List aE)(x d:List Int) :
  QN (a++b) (QF (a++b) x).1 d =
   ((QN a (QF a x).1 (QN b (QF b (ZX a x)).1 d).2.1).1++(QN b (QF b (ZX a x)).1 d).1,
    (QN a (QF a x).1 (QN b (QF b (ZX a x)).1 d).2.1).2.1,
    (QN a (QF a x).1 (QN b (QF b (ZX a x)).1 d).2.1).2.2||(QN b (QF b (ZX a x)).1 d).2.2):=by
 have hl:=t8 a x;have ht:((QF a x).1.take a.length).length=a.length:=by simp;omega
 rw[Lq];simp only;rw[Lr a b _ _ d ht];have e:∀ d',QN a ((QF a x).1.take a.length) d'=QN a (QF a x).1 d':=λd'=>by
  rw[<- QQr a _ [ZX a x] d' ht,QZS]
 rw[e]
theorem Xt:∀(a b c d:List (List Int)),a.length=c.length->Zg (a++b) (c++d)=((Zg a c).1++(Zg b d).1,(Zg a c).2||(Zg b d).2)
 | [],b,c,d,h=>by
  have:c=[]:=List.eq_nil_of_length_eq_zero (by simpa using h.symm);subst this;simp[Zg]
 | x::a,b,[],d,h=>by simp at h
 | x::a,b,y::c,d,h=>by
  rw[List.cons_append,List.cons_append,Zg,Xt a b c d (by simpa using h),Zg];simp[Bool.or_assoc]
theorem Xu:∀(a b:List (List Int)),(Zg a b).1.length=min a.length b.length
 | [],b=>by simp[Zg]
 | x::a,[]=>by simp[Zg]
 | x::a,y::b=>by simp[Zg,Xu a b]
theorem Xv:∀ {ops:List aE} {a b:List (List Int)},a.length=ops.length->b.length=ops.length->Z1 ops a=true->Z1 ops b=true->Z1 ops (Zg a b).1=true
 | [],a,b,h1,h2,h3,h4=>by
  have:a=[]:=List.eq_nil_of_length_eq_zero (by simpa using h1);subst this;simp[Zg,Z1]
 | o::ops,[],b,h1,h2,h3,h4=>by simp at h1
 | o::ops,x::a,[],h1,h2,h3,h4=>by simp at h2
 | o::ops,x::a,y::b,h1,h2,h3,h4=>by
  simp only[Z1,Bool.and_eq_true,beq_iff_eq]at h3 h4;simp only[Zg,Z1,Bool.and_eq_true,beq_iff_eq];refine⟨?_,Xv (by simpa using h1) (by simpa using h2) h3.2 h4.2⟩;rw[Lk];omega
end Go.Proofs.YtdplaepmjogjjaaGreat.Am
namespace Go.Proofs.YtdplaepmjogjjaaGreat.Am
open Go Sz
def QA{α:Type}[Sz α](x:α):Prop:=sz x<=2147483648
def ZK{α β:Type}[Sz α][Sz β](x:α)(y:β):Prop:=sz x+sz y<=2147483648
def lT(st s m:Int):Prop:=-1000<=st/\st<=1000
def Lt(st s m:Int)(_:Bool):Prop:=lT st s m
def t9(l:List bE)(st s m:Int):List bE:=l++Ya st s m
def v5(l:List bE)(st s m:Int)(a0:Bool):List bE:=l++Yy st s m a0
def nm(l:List bE)(st s m:Int):Prop:=lT st s m/\l.length<=1000000
def Lu(l:List bE)(st s m:Int)(_:Bool):Prop:=nm l st s m
def Dj(ops:List aE)(x:List Int):Prop:=ops.length<=1000000/\x.length<=1000000
def Lv(m:cm)(i:Int):Prop:=0<=m.2.1/\m.2.1<=6/\0<=i/\i<m.1/\m.1<=6/\(m.2.2.length:Int)=m.1*m.2.1
def Lw(m:cm)(k:Int):Prop:=m.2.1<=6/\0<=k/\k<m.2.1/\0<=m.1/\m.1<=6/\(m.2.2.length:Int)=m.1*m.2.1
@[simp] theorem Zc{α:Type}(v:List α)(e:α):List.take (v.length+1) (List.take v.length v++[e])=v++[e]:=by
 rw[List.take_length,List.take_of_length_le (by simp)]
@[simp] theorem Lx{α:Type}(v xs:List α):List.take (v.length+xs.length) (List.take v.length v++xs)=v++xs:=by
 rw[List.take_length,List.take_of_length_le (by simp)]
theorem Y1{α:Type}{l:List α}{k:Nat}(h:k<l.length):∃ y q,l.drop k=y::q:=by
 cases hq:l.drop k with
 | nil=>have:=congrArg List.length hq;simp at this;omega
 | cons y q=>exact⟨y,q,rfl⟩
theorem Yz{α:Type}{v:List α}{k:Nat}{x:α}(h:v.length=k):(v++[x]).length=k+1:=by simp[h]
theorem room{n:Nat}(h:n+1<=2147483648):(n=n\/n+1<=n)/\n+1<=bP:=⟨.inl rfl,by rw[QY];omega⟩
theorem dv{k:Nat}(h:k<9223372036854775807):aI ((k:Int)+1)=((k+1:Nat):Int):=by rw[Qy (by omega) (by omega)];omega
theorem Xw(a b:Int):-4611686018427387904<=QR a*QR b/\QR a*QR b<=4611686018427387904:=by
 obtain⟨h1,h2⟩:=ml a;obtain⟨h3,h4⟩:=ml b;generalize QR a=x at *;generalize QR b=y at *;have hx:x.natAbs<=2147483647:=by omega
 have hy:y.natAbs<=2147483647:=by omega
 have h:=Nat.mul_le_mul hx hy;rw[<- Int.natAbs_mul]at h;omega
theorem QQI(x:Int):(if 2147483647<(if x < -2147483647 then -2147483647 else x) then 2147483647 else(if x < -2147483647 then -2147483647 else x))=QR x:=by
 unfold QR fB fC;repeat' split
 all_goals omega
theorem Q1X(a:Int):(if((Int.tmod a 65536 != 0)&&(!(decide (a<0)==decide ((65536:Int)<0))))=true then Int.tdiv a 65536-1 else Int.tdiv a 65536)=Int.fdiv a 65536:=by
 rw[Int.fdiv_eq_ediv_of_nonneg _ (by omega),Int.tmod_eq_emod,Int.tdiv_eq_ediv];have hs:Int.sign 65536=1:=rfl;rw[hs];by_cases h:0<=a
 ·have:decide (a<0)=false:=by simp;omega
  simp[h,this]
 ·have:decide (a<0)=true:=by simp;omega
  by_cases h2:(65536:Int) ∣ a
  ·have:a % 65536=0:=Int.emod_eq_zero_of_dvd h2;simp[h,h2,this]
  ·have:a % 65536≠0:=λe=>h2 (Int.dvd_of_emod_eq_zero e);simp[h,h2,this];omega
theorem idx{r R C:Int}(h1:0<=r)(h2:r<R)(h3:0<=C):0<=r*C/\r*C+C<=R*C/\(r+1)*C=r*C+C:=by
 have h4:(r+1)*C=r*C+C:=by rw[Int.add_mul,Int.one_mul]
 have h5:=Int.mul_le_mul_of_nonneg_right (show r+1<=R by omega) h3;exact⟨Int.mul_nonneg h1 h3,by omega,h4⟩
theorem ua{m:cm}(h:Zw m=true):1<=m.1/\m.1<=6/\1<=m.2.1/\m.2.1<=6/\(m.2.2.length:Int)=m.1*m.2.1/\m.1*m.2.1<=36/\ZT m.2.2=true:=by
 simp only[Zw,Bool.and_eq_true,QW,beq_iff_eq]at h;have:=tR h.1.1.1.1 h.1.1.1.2 h.1.1.2.1 h.1.1.2.2;exact⟨h.1.1.1.1,h.1.1.1.2,h.1.1.2.1,h.1.1.2.2,h.1.2,this.2,h.2⟩
theorem Ly{f:Nat->Bool}{k:Nat}:(List.range (k+1)).any f=((List.range k).any f||f k):=by rw[List.range_succ,List.any_append];simp
theorem zR{α:Type}{f:Nat->α}{k:Nat}:(List.range (k+1)).map f=(List.range k).map f++[f k]:=by rw[List.range_succ,List.map_append];rfl
theorem v7{α:Type}{f:Nat->List α}{k:Nat}:(List.range (k+1)).flatMap f=(List.range k).flatMap f++f k:=by rw[List.range_succ,List.flatMap_append];simp
theorem Lz{α:Type}{f:Nat->List α}{R:Nat}(n:Nat)(h:∀ k,k<n->(f k).length=R):((List.range n).flatMap f).length=n*R:=by
 induction n with
 | zero=>simp
 | succ n ih=>rw[v7,List.length_append,ih (λk hk=>h k (by omega)),h n (by omega),Nat.add_mul];omega
theorem Xx{α:Type}{f:Nat->List α}{R:Nat}{k:Nat}:∀(n:Nat),k<n->(∀ k,k<n->(f k).length=R)->(((List.range n).flatMap f).drop (k*R)).take R=f k
 | 0,hk,_=>by omega
 | n+1,hk,h=>by
  have hl:=Lz n (λk hk=>h k (by omega));rw[v7];by_cases e:k=n
  ·subst e;rw[List.drop_append,List.drop_eq_nil_of_le (by omega),hl,Nat.sub_self,List.drop_zero,List.nil_append,List.take_of_length_le (by rw[h k (by omega)];exact Nat.le_refl _)]
  ·have ih:=Xx (k:=k) n (by omega) (λk hk=>h k (by omega));have:(k+1)*R<=n*R:=Nat.mul_le_mul_right R (show k+1<=n by omega);rw[Nat.add_mul,Nat.one_mul]at this;rw[List.drop_append_of_le_length (by omega),List.take_append_of_le_length (by rw[List.length_drop,hl];omega),ih]
theorem LB(m:cm)(k:Int):(Yb m k).length=m.1.toNat:=by simp[Yb]
theorem QZ9{m:cm}(h:Zw m=true){k:Nat}(hk:(k:Int)<m.2.1):ZT (Yb m k)=true:=by
 obtain⟨h1,h2,h3,h4,h5,h6,h7⟩:=ua h;unfold ZT Yb;rw[List.all_eq_true];intro x hx;obtain⟨i,hi,rfl⟩:=List.mem_map.1 hx;have hi:=List.mem_range.1 hi;have hd:=idx (r:=i) (R:=m.1) (C:=m.2.1) (by omega) (by omega) (by omega);unfold ZT at h7;generalize(i:Int)*m.2.1=z at *;generalize m.1*m.2.1=y at *;exact List.all_eq_true.1 h7 _ (Js (show Int.toNat (z+k)<m.2.2.length by omega) 0)
theorem QO0{m:cm}(h:Zw m=true):Zw (Y7 m)=true/\(Y7 m).1=m.2.1/\(Y7 m).2.1=m.1/\∀ k:Nat,(k:Int)<m.2.1->Y2 (Y7 m) k=Yb m k:=by
 obtain⟨h1,h2,h3,h4,h5,h6,h7⟩:=ua h;have ht:Y7 m=(m.2.1,m.1,(List.range m.2.1.toNat).flatMap λk:Nat=>Yb m k):=by unfold Y7;rw[if_pos h]
 have hl:=Lz (f:=λk:Nat=>Yb m k) m.2.1.toNat (λk hk=>LB m k)
 have hn:((m.2.1.toNat*m.1.toNat:Nat):Int)=m.2.1*m.1:=by rw[Int.natCast_mul,Int.toNat_of_nonneg (by omega),Int.toNat_of_nonneg (by omega)]
 rw[ht];refine⟨?_,rfl,rfl,λk hk=>?_⟩
 ·simp only[Zw,Bool.and_eq_true,QW,beq_iff_eq];refine⟨⟨⟨⟨h3,h4⟩,h1,h2⟩,by rw[hl,hn]⟩,?_⟩;unfold ZT;rw[List.all_eq_true];intro x hx;obtain⟨k,hk,hx⟩:=List.mem_flatMap.1 hx;have:=QZ9 h (k:=k) (by have:=List.mem_range.1 hk;omega);unfold ZT at this;exact List.all_eq_true.1 this x hx
 ·have hs:=Xx (f:=λk:Nat=>Yb m k) (k:=k) m.2.1.toNat (by omega) (λk hk=>LB m k)
  have hd:=idx (r:=k) (R:=m.2.1) (C:=m.1) (by omega) hk (by omega);have e1:Int.toNat ((k:Int)*m.1)=k*m.1.toNat:=by
   have:((k*m.1.toNat:Nat):Int)=(k:Int)*m.1:=by rw[Int.natCast_mul,Int.toNat_of_nonneg (by omega)]
   omega
  unfold Y2 slice;simp only;rw[show Int.toNat (((k:Int)+1)*m.1)-Int.toNat ((k:Int)*m.1)=m.1.toNat by omega,e1];exact hs
theorem QOr{m:cm}{d:List Int}(h:Zw m=true)(hd:Qr d m.1=true):Zi (Y7 m) d=ZB m d:=by
 obtain⟨h1,h2,h3,h4⟩:=QO0 h;unfold Zi ZB;rw[if_pos (by rw[h1,h3,hd];rfl),if_pos (by rw[h,hd];rfl),h2];have e:∀ i,i∈List.range m.2.1.toNat->Y2 (Y7 m) (i:Nat)=Yb m (i:Nat):=λi hi=>h4 i (by have:=List.mem_range.1 hi;omega);refine Prod.ext (List.map_congr_left λi hi=>by rw[e i hi]) ?_;show(List.range m.2.1.toNat).any _=(List.range m.2.1.toNat).any _;rw[Bool.eq_iff_iff,List.any_eq_true,List.any_eq_true];constructor
 ·rintro⟨i,hi,h⟩;exact⟨i,hi,by rw[<- e i hi];exact h⟩
 ·rintro⟨i,hi,h⟩;exact⟨i,hi,by rw[e i hi];exact h⟩
theorem Xy{m:cm}{d:List Int}(h:¬ (Zw m=true/\Qr d m.1=true)):ZB m d=([],false):=by unfold ZB;rw[if_neg (by simpa using h)]
theorem Xz{m:cm}{d:List Int}(h:¬ (Zw m=true/\Qr d m.2.1=true)):Zi m d=([],false):=by unfold Zi;rw[if_neg (by simpa using h)]
theorem Dk{x:Int}(h:0<=x):0<=QR x:=by
 unfold QR fB fC;repeat' split
 all_goals omega
theorem XA:∀(a:List Int)(z:Int),0<=z->0<=(Y3 a a z).1
 | [],z,h=>by simpa[Y3]using h
 | x::r,z,h=>by
  rw[Y3];refine XA r _ ?_;have h1:0<=QR x*QR x:=by
   rcases Int.le_total 0 (QR x) with h2 | h2
   ·exact Int.mul_nonneg h2 h2
   ·exact Int.mul_nonneg_of_nonpos_of_nonpos h2 h2
  have h3:0<=Int.fdiv (QR x*QR x) 65536:=by rw[Int.fdiv_eq_ediv_of_nonneg _ (by omega)];omega
  have h4:0<=(Zm x x).1:=Dk h3;have h5:=Dk h;have h6:=Dk h4;exact Dk (by omega)
theorem QQc(a:List Int):0<=(Q7 a a).1:=by
 unfold Q7;split
 ·exact XA a 0 (by omega)
 ·show(0:Int)<=0;omega
theorem LC(x:List Int)(n:Int):(!(QH x)||((x.length:Int) != n)) = !(Qr x n):=by unfold Qr;simp[bne]
theorem Dl{o:aE}(h:Zk o=true)(h4:o.1=4):0<o.2.2.2.length:=by
 have:=v3 h;rw[if_neg (by omega),if_neg (by omega),if_pos h4]at this;omega
theorem XB{o:aE}{x:List Int}(h:¬ (Zk o=true/\Qr x o.2.1=true)):Yr o x=([],false):=by unfold Yr;rw[if_neg (by simpa using h)]
theorem XC{o:aE}{x d:List Int}(h:¬ ((Zk o=true/\Qr x o.2.1=true)/\Qr d o.2.2.1=true)):Ym o x d=([],[],false):=by unfold Ym;rw[if_neg (by simpa using h)]
theorem Dm{o:aE}(h:Zk o=true):1<=o.1/\o.1<=5:=by simp only[Zk,Bool.and_eq_true,QW]at h;exact h.1.1.1.1.1
theorem ub{α:Type}(v:List α):List.take (id v).length (List.drop 0 (id v))=v:=by simp
theorem ru{α:Type}(v:List α):List.take (0+v.length) (List.drop 0 v)=v:=by simp
theorem uc{α:Type}(v:List α):List.take v.length (List.drop 0 v)=v:=by simp
theorem drop_nil{α:Type}{l:List α}{k:Nat}(h:l.length<=k):l.drop k=[]:=List.drop_eq_nil_of_le h
theorem XD(n:Nat)(x:Int):List.take n (List.drop 0 (List.replicate n x))=List.replicate n x:=by rw[List.drop_zero,List.take_of_length_le (by simp)]
theorem Jm{α:Type}[Sz α]{l:List α}{A:Int->List α->Prop}{Q:List α->Prop}(hs:sz l<=2147483648)
  (hA:∀(k:Nat)(x:α)(v:List α),k<l.length->l.length<=2147483648->(∀ d,aq d l k=x)->v.length=k->sz x<=2147483648->A ((k+1:Nat):Int) (v++[x])->A (k:Nat) v)
  (hE:Q l->A (l.length:Nat) l) (hq:Q l):A 0 []:=by
 have hl:=Yk l;refine Zd l (λr k=>∀ v,v.length=k->v++r=l->A k v) ?_ ?_ [] rfl rfl
 ·intro v hv he;rw[List.append_nil]at he;subst he;exact hE hq
 ·intro k x r hk aY hg ih v hv he;have hx:=vU hk;exact hA k x v aY (by omega) hg hv (by omega) (ih _ (Yz hv) (by rw[<- he];simp))
theorem Dn{o:aE}(h:Zk o=true):o.2.2.2.length<=36:=by
 have h1:=v3 h;have h2:=zI h;have h3:=tR h2.1 h2.2.1 h2.2.2.1 h2.2.2.2
 split at h1
 ·omega
 ·split at h1
  ·omega
  ·split at h1 <;> omega
theorem XE{m:Zo}(h:QS m=true){k:Nat}(hk:k<m.length):Zk (aq bY m k)=true:=by
 simp only[QS,Bool.and_eq_true]at h;exact(zJ h.2 k _ (Y4 hk bY)).1
theorem Dp{α:Type}(d:α){v:List α}{k:Nat}(h:v.length=k+1):v.take k++[aq d v k]=v:=by
 have h1:aq d v k=v[k]'(by omega):=tS (List.getElem?_eq_getElem (by omega)) d;rw[h1,List.take_append_getElem (by omega),List.take_of_length_le (by omega)]
theorem XF{α:Type}(d:α){v:List α}{n:Nat}(y:α)(h:v.length=n):aq d (v++[y]) n=y:=by
 refine tS ?_ d;rw[List.getElem?_append_right (by omega)];simp[h]
theorem XG{α:Type}{v:List α}{n:Nat}(y:α)(h:v.length=n):(v++[y]).take n=v:=by
 rw[List.take_append_of_le_length (by omega),List.take_of_length_le (by omega)]
theorem LD{α:Type}(n:Nat)(e g:α)(l:List α):(List.replicate (n+1) e++l).set n g=List.replicate n e++g::l:=by
 rw[List.replicate_succ',List.append_assoc,List.set_append_right _ _ (by simp)];simp
theorem LF{m:Zo}{x:List Int}(h1:QS m=true)(h2:Qr x (Zn m)=true):oD m x=QF m x:=by unfold oD;rw[if_pos (by rw[h1,h2];rfl)]
theorem XH:∀ {ops:List aE} {rows:List (List Int)},rows.length=ops.length->(∀ o,o∈ops->Zk o=true)->Z1 ops rows=true->sz rows<=37*ops.length
 | [],[],_,_,_=>by simp
 | [],r::rs,h,_,_=>by simp at h
 | o::os,[],h,_,_=>by simp at h
 | o::os,r::rs,h,ho,hg=>by
  simp only[Z1,Bool.and_eq_true,beq_iff_eq]at hg;have h1:=Dn (ho o List.mem_cons_self);have h2:=XH (by simpa using h) (λp hp=>ho p (List.mem_cons_of_mem _ hp)) hg.2;have h3:=ZR r;rw[YZ,List.length_cons];omega
theorem XI{m:Zo}(h:QS m=true):∀ o,o∈m->Zk o=true:=by
 intro o ho;obtain⟨i,hi⟩:=List.getElem?_of_mem ho;simp only[QS,Bool.and_eq_true]at h;exact(zJ h.2 i o hi).1
theorem XJ{m:Zo}(h:QS m=true):(ZA m).1.length=m.length/\Z1 m (ZA m).1=true:=by
 unfold ZA;rw[if_pos h];simp only[List.length_map,true_and];clear h
 induction m with
 | nil=>rfl
 | cons o l ih=>simp[Z1,ih]
theorem Dq{m:Zo}(h:QS m=true){a:QL}(h1:a.1.length=m.length/\Z1 m a.1=true):sz a<=296:=by
 have:=XH h1.1 (XI h) h1.2;have:=Yp h;simp only[Q9,Q1,ZJ];omega
end Go.Proofs.YtdplaepmjogjjaaGreat.Am

set_option linter.all false
namespace Go.Proofs.YtdplaepmjogjjaaGreat.Am
open Go Go.RowKit Sz
def zS{α:Type}(d:α)(i:Nat)(p:α->Int->α)(z:Int × List α):Int × List α:=(aI (z.1+(1:Int)),z.2.set i (p (aq d z.2 i) z.1))
def nn{α β:Type}(d:α)(i:Nat)(g:α->β)(p:α->β->α)(f:β->Int->Int × β)(z:Int × List α):Int × List α :=
 ((f (g (aq d z.2 i)) z.1).1,z.2.set i (p (aq d z.2 i) (f (g (aq d z.2 i)) z.1).2))
theorem p7{α:Type}(d:α)(pre post:List α)(x:α):aq d (pre++x::post) pre.length=x:=by
 simp[aq]
theorem zT{α:Type}(pre post:List α)(x y:α):(pre++x::post).set pre.length y=pre++y::post:=by
 simp
theorem zU{α:Type}(d:α)(p:α->Int->α)(k:Int)(pre post:List α)(x:α):zS d pre.length p (k,pre++x::post)=(aI (k+1),pre++p x k::post):=by
 simp[zS,p7]
theorem zV{α β:Type}(d:α)(g:α->β)(p:α->β->α)(f:β->Int->Int × β)(k:Int)(pre post:List α)(x:α):nn d pre.length g p f (k,pre++x::post)=((f (g x) k).1,pre++p x (f (g x) k).2::post):=by
 simp[nn,p7]
theorem np{α:Type}(pre post:List α)(x:α):(pre.length<(pre++x::post).length)=True:=by
 simp
class Mk(α:Type) where
 m:α->Int->Int × α
 n:α->Nat
 iW:∀(x:α)(k:Int),0<=k->k+(n x:Nat)<=1099511627776->(m x k).1=k+(n x:Nat)
 idem:∀(x:α)(k:Int),m (m x k).2 k=m x k
 same:∀(x:α)(k:Int),n (m x k).2=n x
instance:Mk Int where
 m _ k:=(aI (k+1),k)
 n _:=1
 iW x k h1 h2:=Qy (by omega) (by simp at h2;omega)
 idem _ _:=rfl
 same _ _:=rfl
instance:Mk Bool where
 m _ k:=(aI (k+1),Int.tmod k 3==0)
 n _:=1
 iW x k h1 h2:=Qy (by omega) (by simp at h2;omega)
 idem _ _:=rfl
 same _ _:=rfl
instance {α β:Type} [Mk α] [Mk β]:Mk (α × β) where
 m x k:=((Mk.m x.2 (Mk.m x.1 k).1).1,((Mk.m x.1 k).2,(Mk.m x.2 (Mk.m x.1 k).1).2))
 n x:=Mk.n x.1+Mk.n x.2
 iW x k h1 h2:=by
  have e:=Mk.iW x.1 k h1 (by omega)
  simp only
  rw[e,Mk.iW x.2 _ (by omega) (by omega)]
  omega
 idem x k:=by simp only[Mk.idem]
 same x k:=by simp only[Mk.same]
def nq{α:Type}[Mk α]:List α->Int->Int × List α
 | [],k=>(k,[])
 | x::r,k=>((nq r (Mk.m x k).1).1,(Mk.m x k).2::(nq r (Mk.m x k).1).2)
def nL{α:Type}[Mk α]:List α->Nat
 | []=>0
 | x::r=>Mk.n x+nL r
instance {α:Type} [Mk α]:Mk (List α) where
 m:=nq
 n:=nL
 iW x:=by
  induction x with
  | nil=>intro k _ _;simp[nq,nL]
  | cons x r ih =>
   intro k h1 h2
   simp only[nL]at h2 ⊢
   have e:=Mk.iW x k h1 (by omega)
   simp only[nq,e]
   rw[ih _ (by omega) (by omega)]
   omega
 idem x:=by
  induction x with
  | nil=>intro k;rfl
  | cons x r ih=>intro k;simp only[nq,Mk.idem,ih]
 same x:=by
  induction x with
  | nil=>intro k;rfl
  | cons x r ih=>intro k;simp only[nq,nL,Mk.same,ih]
theorem QLB{α:Type}[Mk α](x:List α):∀(k:Int),(Mk.m x k).2.length=x.length:=by
 induction x with
 | nil=>intro k;rfl
 | cons x r ih=>intro k;show(Mk.m r (Mk.m x k).1).2.length+1=r.length+1;rw[ih]
theorem QNA{α:Type}[Mk α](x:List α)(k:Int):List.take x.length (Mk.m x k).2=(Mk.m x k).2:=List.take_of_length_le (by rw[QLB];exact Nat.le_refl _)
class dc(α:Type) where
 m:α->Int->Int × α
 n:α->Nat
 iW:∀(x:α)(k:Int),0<=k->k+(n x:Nat)<=1099511627776->(m x k).1=k+(n x:Nat)
 idem:∀(x:α)(k:Int),m (m x k).2 k=m x k
 same:∀(x:α)(k:Int),n (m x k).2=n x
instance:dc Int where
 m x k:=(k,x)
 n _:=0
 iW x k _ _:=by simp
 idem _ _:=rfl
 same _ _:=rfl
instance:dc Bool where
 m x k:=(k,x)
 n _:=0
 iW x k _ _:=by simp
 idem _ _:=rfl
 same _ _:=rfl
instance {α β:Type} [dc α] [dc β]:dc (α × β) where
 m x k:=((dc.m x.2 (dc.m x.1 k).1).1,((dc.m x.1 k).2,(dc.m x.2 (dc.m x.1 k).1).2))
 n x:=dc.n x.1+dc.n x.2
 iW x k h1 h2:=by
  have e:=dc.iW x.1 k h1 (by omega)
  simp only
  rw[e,dc.iW x.2 _ (by omega) (by omega)]
  omega
 idem x k:=by simp only[dc.idem]
 same x k:=by simp only[dc.same]
instance {α:Type} [Mk α]:dc (List α) where
 m:=Mk.m
 n:=Mk.n
 iW:=Mk.iW
 idem:=Mk.idem
 same:=Mk.same
def Zu{α:Type}[Mk α](x:α)(k:Int):Int × α:=Mk.m x k
def Yh{α:Type}[dc α](x:α)(k:Int):Int × α:=dc.m x k
def Jt{α:Type}[Mk α](x:α)(k:Int):Prop:=0<=k/\k+(Mk.n x:Nat)<=1099511627776
def mn{α:Type}[dc α](x:α)(k:Int):Prop:=0<=k/\k+(dc.n x:Nat)<=1099511627776
open Classical in
noncomputable def cF{α:Type}[Mk α](x:α)(k:Int):Int:=if(Mk.m x k).2=x then(Mk.m x k).1 else -1
open Classical in
noncomputable def eJ{α:Type}[dc α](x:α)(k:Int):Int:=if(dc.m x k).2=x then(dc.m x k).1 else -1
theorem zW{α:Type}[Mk α]{x:α}{k:Int}(h:(Mk.m x k).2=x):cF x k=(Mk.m x k).1:=by simp[cF,h]
theorem Dr{α:Type}[Mk α]{x:α}{k:Int}(h:¬ (Mk.m x k).2=x):cF x k = -1:=by simp[cF,h]
theorem XK{α:Type}[dc α]{x:α}{k:Int}(h:(dc.m x k).2=x):eJ x k=(dc.m x k).1:=by simp[eJ,h]
theorem QYn{α:Type}[dc α]{x:α}{k:Int}(h:¬ (dc.m x k).2=x):eJ x k = -1:=by simp[eJ,h]
theorem XL{α:Type}[Mk α]{x:α}{k:Int}(hp:Jt x k)(h:cF x k<0):¬ (Mk.m x k).2=x:=λe=>by
 rw[zW e,Mk.iW x k hp.1 hp.2]at h;have:=hp.1;omega
theorem XM{α:Type}[Mk α]{x:α}{k:Int}(h:¬ cF x k<0):(Mk.m x k).2=x/\cF x k=(Mk.m x k).1:=by
 apply Classical.byContradiction;intro hn;have:¬ (Mk.m x k).2=x:=λe=>hn ⟨e,zW e⟩;rw[Dr this]at h;omega
theorem QYo{α β:Type}[Mk α][Mk β](x:α × β)(k:Int):Mk.m x k=((Mk.m x.2 (Mk.m x.1 k).1).1,((Mk.m x.1 k).2,(Mk.m x.2 (Mk.m x.1 k).1).2)):=rfl
theorem QZX(x:Int)(k:Int):Mk.m x k=(aI (k+1),k):=rfl
theorem QZR(x:Bool)(k:Int):Mk.m x k=(aI (k+1),Int.tmod k 3==0):=rfl
theorem QUk{α β:Type}[dc α][dc β](x:α × β)(k:Int):dc.m x k=((dc.m x.2 (dc.m x.1 k).1).1,((dc.m x.1 k).2,(dc.m x.2 (dc.m x.1 k).1).2)):=rfl
theorem Q0z(x:Int)(k:Int):dc.m x k=(k,x):=rfl
theorem Q2A(x:Bool)(k:Int):dc.m x k=(k,x):=rfl
theorem QPq{α:Type}[Mk α](x:List α)(k:Int):dc.m x k=Mk.m x k:=rfl
theorem Ds{α β:Type}[dc α][dc β]{x:α × β}{k:Int}(h:mn x k):mn x.1 k/\mn x.2 (dc.m x.1 k).1:=by
 have hn:dc.n x=dc.n x.1+dc.n x.2:=rfl;unfold mn at *;rw[hn]at h;have e:=dc.iW x.1 k h.1 (by omega);rw[e];omega
theorem XN{α:Type}[Mk α]{x:List α}{k:Int}(h:mn x k):Jt x k:=h
theorem ud:(¬ (3:Int)=0)=True:=by simp
theorem QVH{α:Type}[BEq α][LawfulBEq α]{x y:α}(h:(x != y)=false):x=y:=by simpa using h
theorem QS3{α:Type}[BEq α][LawfulBEq α]{x y:α}(h:(x != y)=true):¬ x=y:=by simpa using h
theorem ry{α:Type}[Sz α]{a:List α}(h:cP a):a.length<=1048576:=Nat.le_trans (Yk a) h
theorem Dt{α:Type}(l:List α)(i:Nat)(x:α):(l.set i x).take l.length=l.set i x:=List.take_of_length_le (by simp)
theorem Du{α:Type}[Sz α](a:List α){d:α}{A:Int->List α->Prop}{Q:List α->Prop}(h:cP a)
  (hs:∀(k:Nat)(x:α)(out:List α),k<a.length->(∀ d,aq d a k=x)->out.length=a.length->cP x->A ((k+1:Nat):Int) (out.set k x)->A ((k:Nat):Int) out)
  (he:∀ out:List α,out.length=a.length->Q out->A ((a.length:Nat):Int) out) (hq:Q a):A 0 (List.take (Int.toNat (a.length:Int)) (List.replicate (Int.toNat (a.length:Int)) d)):=by
 have key:∀ out:List α,out.length=a.length->out.take 0=a.take 0->A (0:Nat) out:=by
  refine Zd a (λr k=>∀ out:List α,out.length=a.length->out.take k=a.take k->A k out) ?_ ?_
  ·intro out hl ht;refine he out hl ?_;rw[List.take_of_length_le (by omega),List.take_of_length_le (by omega)]at ht;rw[ht];exact hq
  ·intro k x r hk aY hg ih out hl ht;refine hs k x out aY hg hl (by have:=vU hk;unfold cP at h ⊢;omega) (ih _ (by simp[hl]) ?_);have hx:a[k]? = some x:=by have:=congrArg List.head? hk;simpa[List.head?_drop]using this
   rw[List.take_add_one,List.take_add_one,List.getElem?_set_self (by omega),hx,List.take_set_of_le (by omega),ht]
 exact key _ (by simp) rfl
theorem zX{α:Type}[Mk α](a:List α)(k:Int){A:Int->Int->List α->Prop}{Q:Int × List α->Prop}
  (hs:∀(k:Int)(pre post:List α)(x:α),pre.length+1+post.length=a.length->A (Mk.m x k).1 (((pre.length+1:Nat)):Int) (pre++(Mk.m x k).2::post)->A k ((pre.length:Nat):Int) (pre++x::post))
  (he:∀(k:Int)(l:List α),l.length=a.length->Q (k,l)->A k ((a.length:Nat):Int) l) (hq:Q (Zu a k)):A k 0 a:=by
 suffices ∀(post pre:List α)(k:Int),pre.length+post.length=a.length->Q ((nq post k).1,pre++(nq post k).2)->A k ((pre.length:Nat):Int) (pre++post) from this a [] k (by simp) hq
 intro post
 induction post with
 | nil =>
  intro pre k hl hq;have:=he k (pre++[]) (by simpa using hl) (by simpa[nq]using hq);rw[show pre.length=a.length by simpa using hl];exact this
 | cons x post ih =>
  intro pre k hl hq;refine hs k pre post x (by simp at hl;omega) ?_;have:=ih (pre++[(Mk.m x k).2]) (Mk.m x k).1 (by simp at hl ⊢;omega) (by simpa[nq]using hq);simpa using this
theorem XO{α:Type}[Mk α](a:List α)(k:Int)(hp:Jt a k){A:Int->Int->Prop}{Q:Int->Prop}
  (hs:∀(k:Int)(pre post:List α)(x:α),a=pre++x::post->Jt x k->(¬ (Mk.m x k).2=x->Q (-1))->((Mk.m x k).2=x->A (Mk.m x k).1 (((pre.length+1:Nat)):Int))->A k ((pre.length:Nat):Int))
  (he:∀(k:Int),Q k->A k ((a.length:Nat):Int)) (hq:Q (cF a k)):A k 0:=by
 suffices ∀(post pre:List α)(k:Int),a=pre++post->Jt post k->Q (cF post k)->A k ((pre.length:Nat):Int) from this a [] k (by simp) hp hq
 intro post
 induction post with
 | nil =>
  intro pre k hl _ hq;have:pre.length=a.length:=by rw[hl];simp
  rw[this];exact he k (by have:=zW (x:=([]:List α)) (k:=k) rfl;rw[this]at hq;exact hq)
 | cons x post ih =>
  intro pre k hl hp hq;have hn:Mk.n (x::post)=Mk.n x+Mk.n post:=rfl;have iN:=hp;unfold Jt at hp;rw[hn]at hp;have ue:Jt x k:=⟨hp.1,by have:=hp.2;omega⟩
  have XP:=Mk.iW x k ue.1 ue.2;refine hs k pre post x hl ue (λdk=>?_) (λheq=>?_)
  ·rw[Dr (λh=>dk (by have:((Mk.m x k).2::(Mk.m post (Mk.m x k).1).2)=x::post:=h;injection this))]at hq;exact hq
  ·have:=ih (pre++[x]) (Mk.m x k).1 (by simp[hl]) ⟨by rw[XP];omega,by rw[XP];have:=hp.2;omega⟩ (by
    by_cases h:(Mk.m post (Mk.m x k).1).2=post
    ·rw[zW h];rw[zW (show(Mk.m (x::post) k).2=x::post from by show(Mk.m x k).2::(Mk.m post (Mk.m x k).1).2=_;rw[heq,h])]at hq;exact hq
    ·rw[Dr h];rw[Dr (λh'=>h (by have:((Mk.m x k).2::(Mk.m post (Mk.m x k).1).2)=x::post:=h';injection this))]at hq;exact hq)
   simpa using this
end Go.Proofs.YtdplaepmjogjjaaGreat.Am
namespace Go.Proofs.YtdplaepmjogjjaaGreat.Am
open Go Go.RowKit Sz
theorem Dv{α β:Type}[Mk α][Mk β](x:α × β):Mk.n x=Mk.n x.1+Mk.n x.2:=rfl
theorem Dw(x:Int):Mk.n x=1:=rfl
theorem QYh(x:Bool):Mk.n x=1:=rfl
theorem LG{α β:Type}[dc α][dc β](x:α × β):dc.n x=dc.n x.1+dc.n x.2:=rfl
theorem XQ(x:Int):dc.n x=0:=rfl
theorem QXF(x:Bool):dc.n x=0:=rfl
theorem XR{α:Type}[Mk α](x:List α):dc.n x=Mk.n x:=rfl
theorem zY{α:Type}[Sz α][Mk α](h:∀ x:α,Mk.n x<=16+16*sz x)(l:List α):Mk.n l<=16*sz l:=by
 induction l with
 | nil=>exact Nat.zero_le _
 | cons x r ih =>
  have h1:=h x;have h2:Mk.n (x::r)=Mk.n x+Mk.n r:=rfl;rw[h2,YZ];omega
theorem uf(l:List Int):Mk.n l<=16*sz l:=zY (λx=>by rw[Dw];omega) l
theorem QRC(l:List Bool):Mk.n l<=16*sz l:=zY (λx=>by rw[QYh];omega) l
theorem QMQ(l:List (List Int)):Mk.n l<=16*sz l:=zY (λx=>by have:=uf x;omega) l
theorem QM2(l:List aE):Mk.n l<=16*sz l:=zY (λx=>by
 have:=uf x.2.2.2;rw[Dv,Dv x.2,Dv x.2.2,Dw,Dw,Dw,Q9,Q9 x.2,Q9 x.2.2,Q1,Q1,Q1];omega) l
theorem Q0V(l:List Qi):Mk.n l<=16*sz l:=zY (λx=>by have:=uf x.1;have:=uf x.2;rw[Dv,Q9];omega) l
theorem Q2B(x:QL):dc.n x<=16*sz x:=by have:=QMQ x.1;rw[LG,LG x.2,XQ,QXF,XR,Q9];omega
theorem QSs(x:QC):dc.n x<=16*sz x:=by
 obtain⟨a,b,c,d,e,f⟩:=x;have h1:=QM2 a;have h2:=uf b;have h3:=QRC d;have h4:=uf e;have h5:=uf f;simp only[LG,XQ,XR,JA,Q1];omega
theorem QS8{α:Type}[Sz α][Mk α]{x:α}{k:Int}{b c:Nat}(hk:0<=k/\k<=b)(hn:Mk.n x<=16*sz x)(hs:sz x<=c)(hb:b+16*c<=1099511627776):Jt x k/\0<=(Zu x k).1/\(Zu x k).1<=((b+16*c:Nat):Int):=by
 have hp:Jt x k:=⟨hk.1,by omega⟩
 have:=Mk.iW x k hp.1 hp.2;have:(Zu x k).1=k+(Mk.n x:Nat):=this;exact⟨hp,by omega,by omega⟩
theorem XS{α:Type}[Sz α][dc α]{x:α}{k:Int}{b c:Nat}(hk:0<=k/\k<=b)(hn:dc.n x<=16*sz x)(hs:sz x<=c)(hb:b+16*c<=1099511627776):mn x k/\0<=(Yh x k).1/\(Yh x k).1<=((b+16*c:Nat):Int):=by
 have hp:mn x k:=⟨hk.1,by omega⟩
 have:=dc.iW x k hp.1 hp.2;have:(Yh x k).1=k+(dc.n x:Nat):=this;exact⟨hp,by omega,by omega⟩
theorem Q2N{α:Type}[dc α]{x:α}{k:Int}(hp:mn x k):mn (Yh x k).2 k/\eJ (Yh x k).2 k=(Yh x k).1:=by
 refine⟨⟨hp.1,?_⟩,?_⟩
 ·have:dc.n (Yh x k).2=dc.n x:=dc.same x k;rw[this];exact hp.2
 ·have h:dc.m (Yh x k).2 k=dc.m x k:=dc.idem x k;rw[XK (by rw[h];rfl),h];rfl
end Go.Proofs.YtdplaepmjogjjaaGreat.Am

