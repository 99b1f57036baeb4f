/- -/
import Derived.Test.YtdplaepmjogjjaaGreatVGM2
import Derived.Test.YtdplaepmjogjjaaGreatProg
import Derived.Carry
import Derived.Deep.Slices
import Derived.ChangeArms
import Derived.ProofKit
import Derived.OpenShut
set_option linter.all false
namespace Go.Proofs.YtdplaepmjogjjaaGreat.Am
open Go Go.RowKit
inductive jr where
 | f
 | d
 | o (e:TypeId)
 | p (e:TypeId)
 | w
def jr.e:jr->TypeId->TypeId
 | .w,_=>0
 | _,e=>e
def jr.t:jr->Bool->Bool
 | .w,_=>false
 | _,t=>t
inductive Md where
 | one (m:jr)
 | b (ms:List jr)
 | a (ms:List jr)
abbrev Acc:=List (Option (Nat × Nat) × az)
def Ya:Acc->Nat->Option Nat
 | [],_=>none
 | (some (j,_),_)::r,i=>bif Nat.beq j i then some 0 else(match Ya r i with | some k=>some (k+1) | none=>none)
 | (none,_)::r,i=>match Ya r i with | some k=>some (k+1) | none=>none
def Mo.rs:Mo->Mo
 | .dp _ t _=>.dp 0 t []
 | m=>m
def FD:Mo->Bool
 | .fz=>true
 | _=>false
def Jd(nl:Nat)(h:Nat->az)(m:jr)(v:TV)(acc:Acc):TV × Acc :=
 match v with
 | .c t x=>(.c t x,acc)
 | .q ts x j=>(.q ts x j,acc)
 | .n ts=>match m with
  | .o e=>match ts with
   | []=>(.u,acc)
   | t::ts=>(.r (t::ts) acc.length 0 0,acc++[(none,.sl e (t::ts) .ow [])])
  | .p e=>match ts with
   | []=>(.u,acc)
   | t::ts=>(.r (t::ts) acc.length 0 0,acc++[(none,.sl e (t::ts) (.dp 0 true []) [])])
  | .w=>match ts with
   | []=>(.u,acc)
   | t::ts=>(.r (t::ts) acc.length 0 0,acc++[(none,.sl 0 (t::ts) (.dp 0 false []) [])])
  | .d=>(.c (.sl ts) [],acc)
  | .f=>(.n ts,acc)
 | .r _ id off len=>match h id with
  | .sl e ts mm es=>match m with
   | .d=>bif FD mm then(.c (.sl ts) ((es.drop off).take len),acc) else(.u,acc)
   | _=>bif Nat.blt id nl then(bif mm.full then(.r ts id off len,acc) else(.u,acc)) else match Ya acc id with
    | some _=>(.u,acc)
    | none=>match mm with
     | .dp _ t H=>bif H.all (λx=>Nat.blt x.1 off) then(match off with
      | 0=>(.r ts acc.length 0 (es.take len).length,acc++[(some (id,0),.sl (m.e e) ts (.dp 0 (m.t t) []) (es.take len))])
      | k+1=>(.r ts acc.length 0 ((es.drop (k+1)).take len).length,acc++[(some (id,k+1),.sl (m.e e) ts (.dp 0 false []) ((es.drop (k+1)).take len))])) else(.u,acc)
     | mm=>match off with
      | 0=>(.r ts acc.length 0 (es.take len).length,acc++[(some (id,0),.sl e ts mm (es.take len))])
      | _=>(.u,acc)
  | _=>(.u,acc)
 | _=>(.u,acc)
def Yh(nl:Nat)(h:Nat->az):List jr->List TV->Acc->List TV × Acc
 | _,[],acc=>([],acc)
 | [],_::xs,acc=>let r:=Yh nl h [] xs acc;(.u::r.1,r.2)
 | m::ms,x::xs,acc=>let a:=Jd nl h m x acc;let r:=Yh nl h ms xs a.2;(a.1::r.1,r.2)
def conv(nl:Nat)(h:Nat->az)(m:Md)(v:TV)(acc:Acc):TV × Acc :=
 match m with
 | .one m=>Jd nl h m v acc
 | .b ms=>match v with
  | .p id 0 0=>match h id with
   | .box cs=>match Ya acc id with
    | some k=>(.p k 0 0,acc)
    | none=>let r:=Yh nl h ms cs acc;match Ya r.2 id with
     | none=>(.p r.2.length 0 0,r.2++[(some (id,0),.box r.1)])
     | some _=>(.u,acc)
   | _=>(.u,acc)
  | _=>(.u,acc)
 | .a ms=>match v with
  | .a cs=>let r:=Yh nl h ms cs acc;(.a r.1,r.2)
  | _=>(.u,acc)
def YQ(nl:Nat)(h:Nat->az)(T:Nat->TV):List (Nat × Md)->Acc->List (Nat × TV) × Acc
 | [],acc=>([],acc)
 | (s,m)::r,acc=>let a:=conv nl h m (T s) acc;let q:=YQ nl h T r a.2;((s,a.1)::q.1,q.2)
def zO:List jr->List TV->List Nat
 | .d::ms,x::xs=>x.bR++zO ms xs
 | _::ms,_::xs=>zO ms xs
 | _,_=>[]
def qR(h:Nat->az)(T:Nat->TV):List (Nat × Md)->List Nat
 | []=>[]
 | (s,.one .d)::r=>(T s).bR++qR h T r
 | (s,.a ms)::r=>(match T s with | .a cs=>zO ms cs | _=>[])++qR h T r
 | (s,.b ms)::r=>(match T s with | .p id _ _=>(match h id with | .box cs=>zO ms cs | _=>[]) | _=>[])++qR h T r
 | _::r=>qR h T r
def zP(h:Nat->az):Nat->List Nat
 | 0=>[]
 | n+1=>zP h n++(match h n with | .box cs=>TV.bM cs | _=>[])
def lS:List TV->List jr
 | []=>[]
 | _::xs=>.d::lS xs
def ZF(h:Nat->az):Nat->Acc
 | 0=>[]
 | n+1=>let a:=ZF h n;a++[match h n with | .box cs=>(some (n,0),.box (Yh 0 h (lS cs) cs a).1) | .sl e ts m es=>bif m.full then(some (n,0),.sl e ts m.rs es) else(none,.dead) | .dead=>(none,.dead) | .none=>(none,.none)]
def oO:Nat->Acc->List (Nat × az)
 | _,[]=>[]
 | k,(_,b)::r=>(k,b)::oO (k+1) r
def az.full:az->Bool
 | .sl _ _ m _=>m.full
 | _=>true
def kG(h:Nat->az)(ids:List Nat):Nat->az:=λi=>bif ids.elem i&&(h i).full then E7 (h i) else h i
def gc(nl:Nat)(L:List (Nat × Md))(σ:cq):cq :=
 let h:=kG σ.H (zP σ.H nl++qR σ.H σ.T L)
 let r:=YQ nl h σ.T L (ZF h nl)
 ⟨r.1,oO 0 r.2,r.2.length⟩
section
variable {w:World} {F F':Nat->Prop} {ι:Io} {h:Nat->az}
def tC:Option (Nat × Nat) × az->Nat
 | (some (_,off),.sl _ ts _ (_::_))=>off*ts.length
 | _=>0
theorem RZ{id off:Nat}{e:TypeId}{ts:List CT}{m:Mo}{es:List (aT ts)}(h:es≠[]):tC (some (id,off),.sl e ts m es)=off*ts.length:=by
 cases es with
 | nil=>exact absurd rfl h
 | cons=>rfl
theorem R0{id:Nat}{b:az}:tC (some (id,0),b)=0:=by
 cases b with
 | sl e ts m es=>cases es <;> simp[tC]
 | _=>rfl
theorem QXu{o:Option (Nat × Nat)}{e:TypeId}{ts:List CT}{m:Mo}:tC (o,.sl e ts m [])=0:=by
 cases o <;> rfl
theorem FE{o:Option (Nat × Nat)}{cs:List TV}:tC (o,.box cs)=0:=by
 cases o <;> rfl
def Jw(ι:Io)(x:Option (Nat × Nat) × az):Nat:=match x.1 with
 | some (id,_)=>ι.o id+tC x
 | none=>0
def aι(ι:Io)(acc:Acc):Io:=⟨λk=>((acc[k]?).bind (·.1)).bind λx=>ι x.1,
 λb=>match ι.k b with
  | some (y,(a,c)::q)=>match Ya acc y with
   | some k=>match acc[k]? with
    | some (some (_,off),_)=>if off<=a then some (k,(a-off,c)::q) else none
    | _=>none
   | none=>none
  | _=>none,
 λk=>match acc[k]? with
  | some x=>Jw ι x
  | none=>0⟩
def ah(acc:Acc):Nat->aQ:=λk=>match acc[k]? with | some (_,b)=>b.aA | none=>.none
def oP(w:World)(F:Nat->Prop)(ι:Io)(h:Nat->az)(acc:Acc)(x y:TV):Prop :=
 ∀(bX:Acc)(F':Nat->Prop),acc <+: bX->(∀ b,F b->F' b)->∀ v,VR w F ι (λi=>(h i).aA) v x.aO->VR w F' (aι ι bX) (ah bX) v y.aO
def Jz(m0 m:Mo)(off:Nat):Prop:=(m0=m/\m.gen=none/\off=0)\/∃ g t H t',m0 = .dp g t H/\m = .dp 0 t' []/\(t'=true->t=true/\off=0)/\∀ x,x∈H->x.1<off
theorem Jz.eY{m0 m:Mo}{off:Nat}(h:Jz m0 m off)(ht:m.eY=true):m0.eY=true/\off=0:=by
 rcases h with⟨rfl,_,h⟩ | ⟨g,t,H,t',rfl,rfl,h,_⟩
 ·exact⟨ht,h⟩
 ·exact h ht
theorem Jz.own{m0 m:Mo}{off:Nat}(h:Jz m0 m off):m.own=m0.own:=by
 rcases h with⟨rfl,_,h⟩ | ⟨g,t,H,t',rfl,rfl,h,_⟩ <;> rfl
theorem Jz.rs{m:Mo}(hf:m.full=true):Jz m m.rs 0:=by
 cases m with
 | dp g t H =>
  cases H with
  | nil=>exact .inr ⟨g,t,[],t,rfl,rfl,λh=>⟨h,rfl⟩,by simp⟩
  | cons=>simp[Mo.full]at hf
 | _=>exact .inl ⟨rfl,rfl,rfl⟩
def wN(w:World)(F:Nat->Prop)(ι:Io)(h:Nat->az)(acc:Acc):Option (Nat × Nat) × az->Prop
 | (some (id,off),.sl e ts m es)=>∃ ml m0 len,(∃ e0,h id = .sl e0 ts m0 ml/\(m.eY=true->e0=e))/\es=(ml.drop off).take len/\Jz m0 m off
 | (some (id,off),.box cs)=>∃ fW,h id = .box fW/\cs.length=fW.length/\∀(k:Nat)(x y:TV),fW[k]? = some x->cs[k]? = some y->oP w F ι h acc x y
 | (none,.sl _ ts m es)=>es=[]/\0<ts.length
 | (none,.none)=>True
 | (none,.dead)=>True
 | _=>False
def oQ(nl:Nat)(h:Nat->az)(acc:Acc):Prop:=∀ id e ts m es,id<nl->h id = .sl e ts m es->m.full=true->acc[id]? = some (some (id,0),.sl e ts m.rs es)
theorem oQ.mono{nl:Nat}{h:Nat->az}{acc gQ:Acc}(hp:acc <+: gQ)(hf:oQ nl h acc):oQ nl h gQ:=λid e ts m es h1 h2 kB=>by
 have h3:=hf id e ts m es h1 h2 kB;obtain⟨r,rfl⟩:=hp;rw[List.getElem?_append_left (List.getElem?_eq_some_iff.1 h3).1];exact h3
structure ec(w:World)(F:Nat->Prop)(ι:Io)(h:Nat->az)(acc:Acc):Prop where
 jL:∀(k:Nat)(e:Option (Nat × Nat) × az),acc[k]? = some e->wN w F ι h acc e
 nodup:∀(k j id o o':Nat)(b c:az),acc[k]? = some (some (id,o),b)->acc[j]? = some (some (id,o'),c)->k=j
theorem oP.mono{acc gQ:Acc}{x y:TV}(hp:acc <+: gQ)(hk:oP w F ι h acc x y):oP w F ι h gQ x y :=
 λbX F' FF hF v hv=>hk bX F' (hp.trans FF) hF v hv
theorem wN.mono{acc gQ:Acc}{e:Option (Nat × Nat) × az}(hp:acc <+: gQ)(hg:wN w F ι h acc e):wN w F ι h gQ e:=by
 obtain⟨o,b⟩:=e
 cases o with
 | none=>cases b <;> exact hg
 | some id =>
  obtain⟨id,off⟩:=id
  cases b with
  | box cs=>obtain⟨fW,h1,h2,h3⟩:=hg;exact⟨fW,h1,h2,λk x y hx hy=>(h3 k x y hx hy).mono hp⟩
  | _=>exact hg
theorem wO:∀ {acc:Acc} {id:Nat},Ya acc id=none->∀(k o:Nat)(b:az),acc[k]?≠some (some (id,o),b)
 | [],id,_,k,o,b,hk=>by simp at hk
 | (some (j,o0),c)::r,id,hn,k,o,b,hk=>by
  simp only[Ya]at hn
  cases hb:Nat.beq j id with
  | true=>rw[hb]at hn;cases hn
  | false =>
   rw[hb]at hn;simp only[cond_false]at hn
   split at hn
   ·cases hn
   rename_i hr
   cases k with
   | zero =>
    simp only[List.getElem?_cons_zero,Option.some.injEq,Prod.mk.injEq]at hk;rw[hk.1.1]at hb;simp at hb
   | succ k=>exact wO hr k o b (by simpa using hk)
 | (none,c)::r,id,hn,k,o,b,hk=>by
  simp only[Ya]at hn
  split at hn
  ·cases hn
  rename_i hr
  cases k with
  | zero=>simp at hk
  | succ k=>exact wO hr k o b (by simpa using hk)
theorem tD:∀ {acc:Acc} {id k:Nat},Ya acc id=some k->∃ o b,acc[k]? = some (some (id,o),b)
 | [],id,k,hn=>by simp[Ya]at hn
 | (some (j,o0),c)::r,id,k,hn=>by
  simp only[Ya]at hn
  cases hb:Nat.beq j id with
  | true =>
   rw[hb]at hn;simp only[cond_true,Option.some.injEq]at hn;subst hn;exact⟨o0,c,by rw[Nat.eq_of_beq_eq_true hb];rfl⟩
  | false =>
   rw[hb]at hn;simp only[cond_false]at hn
   split at hn
   rotate_left
   ·cases hn
   rename_i k' hr
   cases hn;obtain⟨o,b,h⟩:=tD hr;exact⟨o,b,by simpa using h⟩
 | (none,c)::r,id,k,hn=>by
  simp only[Ya]at hn
  split at hn
  rotate_left
  ·cases hn
  rename_i k' hr
  cases hn;obtain⟨o,b,h⟩:=tD hr;exact⟨o,b,by simpa using h⟩
theorem QIa{acc:Acc}(A:ec w F ι h acc){id k o:Nat}{b:az}(hk:acc[k]? = some (some (id,o),b)):Ya acc id=some k:=by
 cases hx:Ya acc id with
 | none=>exact absurd hk (wO hx k o b)
 | some j =>
  obtain⟨o',b',h1⟩:=tD hx;rw[A.nodup j k id o' o b' b h1 hk]
theorem ec.push{acc:Acc}(A:ec w F ι h acc){o:Option (Nat × Nat)}{b:az}(hg:wN w F ι h (acc++[(o,b)]) (o,b))(hn:∀ id off,o=some (id,off)->Ya acc id=none):ec w F ι h (acc++[(o,b)]):=by
 have hp:acc <+: acc++[(o,b)]:=List.prefix_append _ _;refine⟨λk e he=>?_,λk j id o1 o2 c d hk hj=>?_⟩
 ·rw[List.getElem?_append]at he
  split at he
  ·exact(A.jL k e he).mono hp
  ·have:=List.mem_of_getElem? he;simp only[List.mem_singleton]at this;rw[this];exact hg
 ·rw[List.getElem?_append]at hk hj
  split at hk <;> split at hj
  ·exact A.nodup k j id o1 o2 c d hk hj
  ·have h1:=List.mem_of_getElem? hj;simp only[List.mem_singleton,Prod.mk.injEq]at h1;exact absurd hk (wO (hn id o2 h1.1.symm) k o1 c)
  ·have h1:=List.mem_of_getElem? hk;simp only[List.mem_singleton,Prod.mk.injEq]at h1;exact absurd hj (wO (hn id o1 h1.1.symm) j o2 d)
  ·rename_i h1 h2;have h3:=(List.getElem?_eq_some_iff.1 hk).1;have h4:=(List.getElem?_eq_some_iff.1 hj).1;simp at h3 h4;omega
theorem tE{acc bX:Acc}{k:Nat}{o:Option (Nat × Nat)}{b:az}(hp:acc <+: bX)(hk:acc[k]? = some (o,b)):ah bX k=b.aA/\aι ι bX k=o.bind (λx=>ι x.1)/\(aι ι bX).o k=Jw ι (o,b):=by
 obtain⟨r,rfl⟩:=hp;have:(acc++r)[k]? = some (o,b):=by
  rw[List.getElem?_append_left (List.getElem?_eq_some_iff.1 hk).1];exact hk
 refine⟨?_,?_,?_⟩
 ·simp only[ah,this]
 ·simp only[aι,this,Option.bind_some]
 ·simp only[aι,this]
theorem wP{acc bX:Acc}{o:Option (Nat × Nat)}{b:az}(hp:acc++[(o,b)] <+: bX):ah bX acc.length=b.aA/\aι ι bX acc.length=o.bind (λx=>ι x.1)/\(aι ι bX).o acc.length=Jw ι (o,b) :=
 tE (acc:=acc++[(o,b)]) (k:=acc.length) (o:=o) (b:=b) hp (by simp)
def lT(w:World)(F:Nat->Prop)(ι:Io)(h:Nat->az):Prop :=
 ∀ id e ts es v off len,h id = .sl e ts .fz es->VR w F ι (λi=>(h i).aA) v (.r ts.length id off len)->Rd w F v (.sl ts.length (((es.map (aU ts)).drop off).take len))
theorem QFn{id off len k:Nat}{e0 e:TypeId}{ts:List CT}{mm m:Mo}{es:List (aT ts)}{F':Nat->Prop}{ι':Io}{h':Nat->aQ}{v:Value}(hh:h id = .sl e0 ts mm es)(he:m.eY=true->e0=e)(hg:Jz mm m off)
  (h1:h' k=(az.sl e ts m ((es.drop off).take len)).aA) (h2:ι' k=ι id) (h3:(es.drop off).take len≠[]->ι'.o k=ι.o id+off*ts.length) (hv:VR w F ι (λi=>(h i).aA) v (.r ts.length id off len)) :
  VR w F' ι' h' v (TV.r ts k 0 ((es.drop off).take len).length).aO:=by
 have lU:(λi=>(h i).aA) id = .sl e0 ts.length mm (es.map (aU ts)):=by simp only[hh,az.bH]
 generalize hgA:(λi=>(h i).aA)=hA at hv lU;simp only[TV.aO];rw[az.bH]at h1
 cases hv with
 | cy v sz id off len h1 hd=>rw[lU]at hd;cases hd
 | cL id e' sz m' hi b9 =>
  rw[lU]at b9;have:es=[]:=by injection b9 with _ _ _ h4;simpa using h4
  subst this;simp only[List.drop_nil,List.take_nil,List.length_nil]at h1 ⊢;exact .cL k e ts.length m (h2.trans hi) h1
 | de ad cap id e' sz m' hi b9 ht =>
  rw[lU]at b9;injection b9 with q1 q2 q3 q4;have:es=[]:=by simpa using q4
  subst this;simp only[List.drop_nil,List.take_nil,List.length_nil]at h1 ⊢;refine .de ad cap k e ts.length m (h2.trans hi) h1 ?_
  cases hx:m.eY with
  | false=>rfl
  | true=>rw[<- q3,(hg.eY hx).1]at ht;cases ht
 | r id off len b ao cap e' sz m' bP hi b9 hlen cj ho cX =>
  rw[lU]at b9;injection b9 with q1 q2 q3 q4;subst q1;subst q3;rw[<- q4,List.length_map]at hlen;have hl:((es.drop off).take len).length=len:=by simp;omega
  rw[hl];refine .r k 0 len b ao cap e ts.length m _ (h2.trans hi) h1 (by simp;omega) cj (λhn=>by rw[h3 (λh0=>hn (by rw[<- hl,h0];rfl)),ho hn];simp) (λht _=>?_);obtain⟨k1,k2⟩:=hg.eY ht;rw[<- he ht];exact cX k1 k2
theorem R1{nl:Nat}(hz:lT w F ι h)(hs:∀ id e ts m es v off len n,h id = .sl e ts m es->VR w F ι (λi=>(h i).aA) v (.r n id off len)->n=ts.length){m:jr}{x:TV}{acc:Acc}(A:ec w F ι h acc)(hf:oQ nl h acc) :
  acc <+: (Jd nl h m x acc).2/\ec w F ι h (Jd nl h m x acc).2/\oP w F ι h (Jd nl h m x acc).2 x (Jd nl h m x acc).1:=by
 have hu:∀(a:Acc)(x:TV),oP w F ι h a x .u:=λa x bX F' _ _ v _=>.u v;unfold Jd
 split
 ·exact⟨List.prefix_refl _,A,λbX F' hp hF v hv=>hv.data hF⟩
 ·refine⟨List.prefix_refl _,A,λbX F' hp hF v hv=>?_⟩
  cases hv with
  | q b o _ _ x hb hc hr=>exact .q b o _ _ x (hF b hb) hc (λk d hk=>(hr k d hk).mono λb hb=>⟨hF b hb,rfl⟩)
 ·rename_i ts
  split
  ·split
   ·exact⟨List.prefix_refl _,A,hu _ _⟩
   ·refine⟨List.prefix_append _ _,A.push ⟨rfl,by simp⟩ (by simp),λbX F' hp hF v hv=>?_⟩;obtain⟨h1,h2,_⟩:=wP (ι:=ι) hp
    cases hv;exact .cL acc.length _ _ .ow h2 (by rw[h1];rfl)
  ·split
   ·exact⟨List.prefix_refl _,A,hu _ _⟩
   ·refine⟨List.prefix_append _ _,A.push ⟨rfl,by simp⟩ (by simp),λbX F' hp hF v hv=>?_⟩;obtain⟨h1,h2,_⟩:=wP (ι:=ι) hp
    cases hv;exact .cL acc.length _ _ (.dp 0 true []) h2 (by rw[h1];rfl)
  ·split
   ·exact⟨List.prefix_refl _,A,hu _ _⟩
   ·refine⟨List.prefix_append _ _,A.push ⟨rfl,by simp⟩ (by simp),λbX F' hp hF v hv=>?_⟩;obtain⟨h1,h2,_⟩:=wP (ι:=ι) hp
    cases hv;exact .cL acc.length _ _ (.dp 0 false []) h2 (by rw[h1];rfl)
  ·refine⟨List.prefix_refl _,A,λbX F' hp hF v hv=>?_⟩
   cases hv;exact .c _ _ (by simp only[enc,List.map_nil];exact .nil _)
  ·refine⟨List.prefix_refl _,A,λbX F' hp hF v hv=>?_⟩
   cases hv;exact .n _
 ·rename_i jM id off len
  split
  rotate_left
  ·exact⟨List.prefix_refl _,A,hu _ _⟩
  rename_i e ts mm es hh;have own:∀(e':TypeId)(m':Mo)(k:Nat),k=off->Jz mm m' off->(m'.eY=true->e=e')->Ya acc id=none->
    acc <+: acc++[(some (id,k),.sl e' ts m' ((es.drop k).take len))]/\ec w F ι h (acc++[(some (id,k),.sl e' ts m' ((es.drop k).take len))])/\oP w F ι h (acc++[(some (id,k),.sl e' ts m' ((es.drop k).take len))]) (.r jM id off len) (.r ts acc.length 0 ((es.drop k).take len).length):=by
   intro e' m' k hk hg zQ eC;subst hk;refine⟨List.prefix_append _ _,A.push ⟨es,mm,len,⟨e,hh,zQ⟩,rfl,hg⟩ (λb7 o' h'=>by cases h';exact eC),λbX F' hp hF v hv=>?_⟩;obtain⟨h1,h2,h3⟩:=wP (ι:=ι) hp;have hn:=hs id e ts mm es v k len _ hh hv;simp only[TV.aO,hn]at hv;refine QFn hh zQ hg h1 h2 (λdK=>?_) hv;rw[h3];simp only[Jw,RZ dK]
  split
  ·cases mm with
   | ow=>exact⟨List.prefix_refl _,A,hu _ _⟩
   | dp=>exact⟨List.prefix_refl _,A,hu _ _⟩
   | fz =>
    refine⟨List.prefix_refl _,A,λbX F' hp hF v hv=>?_⟩;have hn:=hs id e ts .fz es v off len _ hh hv;simp only[TV.aO,hn]at hv;have:=hz id e ts es v off len hh hv;refine .c _ _ ?_;simp only[enc,List.map_take,List.map_drop];exact this.mono λb hb=>⟨hF b hb,rfl⟩
  ·cases aW:Nat.blt id nl with
   | true =>
    simp only[cond_true]
    cases oe:mm.full with
    | false=>exact⟨List.prefix_refl _,A,hu _ _⟩
    | true =>
    have hb:=hf id e ts mm es (Nat.le_of_ble_eq_true aW) hh oe;refine⟨List.prefix_refl _,A,λbX F' hp hF v hv=>?_⟩;obtain⟨h1,h2,h3⟩:=tE (ι:=ι) hp hb;have hn:=hs id e ts mm es v off len _ hh hv;simp only[cond_true,TV.aO,hn]at hv ⊢;simp only[Option.bind_some]at h2;have h3:(aι ι bX).o id=ι.o id:=by rw[h3];simp only[Jw,R0,Nat.add_zero]
    have lU:(λi=>(h i).aA) id = .sl e ts.length mm (es.map (aU ts)):=by simp only[hh,az.bH]
    generalize hgA:(λi=>(h i).aA)=hA at hv lU;have zR:=Jz.rs oe
    cases hv with
    | cy v sz id off len h1 hd=>rw[lU]at hd;cases hd
    | cL id e' sz m hi b9 =>
     rw[lU]at b9;injection b9 with _ _ _ h4;exact .cL _ e ts.length mm.rs (h2.trans hi) (by rw[h1,az.bH,h4])
    | de ad cap id e' sz m hi b9 ht =>
     rw[lU]at b9;injection b9 with q1 q2 q3 q4;refine .de ad cap _ e ts.length mm.rs (h2.trans hi) (by rw[h1,az.bH,q4]) ?_
     cases hx:mm.rs.eY with
     | false=>rfl
     | true=>rw[<- q3,(zR.eY hx).1]at ht;cases ht
    | r id off len b ao cap e' sz m bP hi b9 hlen cj ho cX =>
     rw[lU]at b9;injection b9 with q1 q2 q3 q4;subst q1;subst q3;rw[<- q4]at hlen;exact .r id off len b ao cap e ts.length mm.rs (es.map (aU ts)) (h2.trans hi) (by rw[h1,az.bH]) hlen cj (by rw[h3];exact ho) (λht=>cX (zR.eY ht).1)
   | false =>
   simp only[cond_false]
   split
   ·exact⟨List.prefix_refl _,A,hu _ _⟩
   rename_i eC
   split
   ·rename_i g t H
    cases hH:H.all (λx=>Nat.blt x.1 off) with
    | false=>exact⟨List.prefix_refl _,A,hu _ _⟩
    | true =>
    simp only[cond_true];have R2:∀ x,x∈H->x.1<off:=λx hx=>Nat.le_of_ble_eq_true (List.all_eq_true.1 hH x hx)
    split
    ·have:=own (m.e e) (.dp 0 (m.t t) []) 0 rfl (.inr ⟨g,t,H,m.t t,rfl,rfl,λh=>⟨(by cases m <;> first | exact h | cases h),rfl⟩,R2⟩) (λh=>by cases m <;> first | rfl | cases h) eC;simpa using this
    ·rename_i k;exact own (m.e e) (.dp 0 false []) (k+1) rfl (.inr ⟨g,t,H,false,rfl,rfl,λh=>(by cases h),R2⟩) (λh=>by cases h) eC
   ·rename_i dU
    split
    ·have jm:mm.gen=none:=by
      cases mm with
      | dp g t H=>exact absurd rfl (dU g t H)
      | _=>rfl
     have:=own e mm 0 rfl (.inl ⟨rfl,jm,rfl⟩) (λ_=>rfl) eC;simpa using this
    ·exact⟨List.prefix_refl _,A,hu _ _⟩
 ·exact⟨List.prefix_refl _,A,hu _ _⟩
theorem wQ{nl:Nat}(hz:lT w F ι h)(hs:∀ id e ts m es v off len n,h id = .sl e ts m es->VR w F ι (λi=>(h i).aA) v (.r n id off len)->n=ts.length) :
  ∀ {ms:List jr} {xs:List TV} {acc:Acc},ec w F ι h acc->oQ nl h acc->acc <+: (Yh nl h ms xs acc).2/\ec w F ι h (Yh nl h ms xs acc).2/\(Yh nl h ms xs acc).1.length=xs.length/\
   ∀(k:Nat)(x y:TV),xs[k]? = some x->(Yh nl h ms xs acc).1[k]? = some y->oP w F ι h (Yh nl h ms xs acc).2 x y
 | ms,[],acc,A,hf=>by
  cases ms <;> exact⟨List.prefix_refl _,A,rfl,λk x y hx=>by simp at hx⟩
 | [],x::xs,acc,A,hf=>by
  obtain⟨h1,h2,h3,h4⟩:=wQ hz hs (ms:=[]) (xs:=xs) A hf;refine⟨h1,h2,by simp only[Yh,List.length_cons,h3],λk a b ha hb=>?_⟩;simp only[Yh]at hb
  cases k with
  | zero=>simp at hb;subst hb;exact λbX F' _ _ v _=>.u v
  | succ k=>exact h4 k a b (by simpa using ha) (by simpa using hb)
 | m::ms,x::xs,acc,A,hf=>by
  obtain⟨g1,g2,g3⟩:=R1 hz hs (m:=m) (x:=x) A hf;obtain⟨h1,h2,h3,h4⟩:=wQ hz hs (ms:=ms) (xs:=xs) g2 (hf.mono g1);refine⟨g1.trans h1,h2,by simp only[Yh,List.length_cons,h3],λk a b ha hb=>?_⟩;simp only[Yh]at hb
  cases k with
  | zero=>simp at ha hb;subst ha;subst hb;exact g3.mono h1
  | succ k=>exact h4 k a b (by simpa using ha) (by simpa using hb)
def tF(w:World)(F:Nat->Prop)(ι:Io)(h:Nat->az)(acc:Acc)(x y:TV):Prop :=
 ∀(bX:Acc)(F':Nat->Prop),acc <+: bX->(∀ b,F b->F' b)->∀ v,VR w F ι (λi=>(h i).aA) v x.aA->VR w F' (aι ι bX) (ah bX) v y.aA
theorem tF.mono{acc gQ:Acc}{x y:TV}(hp:acc <+: gQ)(hk:tF w F ι h acc x y):tF w F ι h gQ x y :=
 λbX F' FF hF v hv=>hk bX F' (hp.trans FF) hF v hv
theorem QTC{nl:Nat}{m:jr}{x:TV}{acc:Acc}:(Jd nl h m x acc).1.aA=(Jd nl h m x acc).1.aO:=by
 unfold Jd;simp only[cond];repeat' split
 all_goals rfl
theorem QXv{nl:Nat}{m:jr}{x:TV}{acc:Acc}(hx:x.one=false):Jd nl h m x acc=(.u,acc):=by
 cases x <;> first | rfl | simp[TV.one]at hx
theorem QN7{nl:Nat}(hz:lT w F ι h)(hs:∀ id e ts m es v off len n,h id = .sl e ts m es->VR w F ι (λi=>(h i).aA) v (.r n id off len)->n=ts.length){m:Md}{x:TV}{acc:Acc}(A:ec w F ι h acc)(hf:oQ nl h acc) :
  acc <+: (conv nl h m x acc).2/\ec w F ι h (conv nl h m x acc).2/\tF w F ι h (conv nl h m x acc).2 x (conv nl h m x acc).1:=by
 have hu:∀(a:Acc)(x:TV),tF w F ι h a x .u:=λa x bX F' _ _ v _=>.u v;unfold conv
 split
 ·rename_i m
  cases hx:x.one with
  | false=>rw[QXv hx];exact⟨List.prefix_refl _,A,hu _ _⟩
  | true =>
   obtain⟨g1,g2,g3⟩:=R1 hz hs (m:=m) (x:=x) A hf;refine⟨g1,g2,λbX F' hp hF v hv=>?_⟩;rw[qL hx]at hv;rw[QTC];exact g3 bX F' hp hF v hv
 ·rename_i ms
  split
  rotate_left
  ·exact⟨List.prefix_refl _,A,hu _ _⟩
  rename_i id
  split
  rotate_left
  ·exact⟨List.prefix_refl _,A,hu _ _⟩
  rename_i cs hh;have put:∀(k:Nat)(cs':List TV)(F':Nat->Prop)(bX:Acc)(v:Value),ah bX k=(az.box cs').aA->aι ι bX k=ι id->(aι ι bX).o k=ι.o id->VR w F ι (λi=>(h i).aA) v (.p id 0 0)->VR w F' (aι ι bX) (ah bX) v (.p k 0 0):=by
   intro k cs' F' bX v h1 h2 h3 hv
   cases hv with
   | cS v id i j h3 hd=>have hd:(h id).aA = .dead:=hd;rw[hh]at hd;cases hd
   | p id i j bk hi hn hd =>
    have:VR w F' (aι ι bX) (ah bX) (.pointer (some ⟨bk,(aι ι bX).o k+0*(ah bX k).sz+0,none⟩)) (.p k 0 0) :=
     .p k 0 0 bk (h2.trans hi) (by rw[h1];simp[az.aA]) (by rw[h1];simp[az.aA])
    rw[h3]at this;simpa using this
  split
  ·rename_i k hk;obtain⟨o,b,hb⟩:=tD hk;refine⟨List.prefix_refl _,A,λbX F' hp hF v hv=>?_⟩;obtain⟨h1,h2,h3⟩:=tE (ι:=ι) hp hb;have hg:=A.jL k _ hb
   cases b with
   | none=>exact hg.elim
   | dead=>exact hg.elim
   | sl e ts m es=>obtain⟨ml,m0,len,⟨_,q,_⟩,_⟩:=hg;rw[hh]at q;cases q
   | box cs'=>exact put k cs' F' bX v h1 h2 (by rw[h3];simp only[Jw,FE,Nat.add_zero]) hv
  ·rename_i lV;obtain⟨g1,g2,g3,g4⟩:=wQ hz hs (ms:=ms) (xs:=cs) A hf;simp only
   split
   rotate_left
   ·exact⟨List.prefix_refl _,A,hu _ _⟩
   rename_i qS;have eS:(Yh nl h ms cs acc).2 <+: (Yh nl h ms cs acc).2++[(some (id,0),.box (Yh nl h ms cs acc).1)]:=List.prefix_append _ _;refine⟨g1.trans eS,g2.push ⟨cs,hh,g3,λk x y hx hy=>(g4 k x y hx hy).mono eS⟩ (λb7 o' h'=>by cases h';exact qS),λbX F' hp hF v hv=>?_⟩;obtain⟨h1,h2,h3⟩:=wP (ι:=ι) hp;exact put _ _ F' bX v h1 h2 (by rw[h3];simp only[Jw,FE,Nat.add_zero]) hv
 ·rename_i ms
  split
  rotate_left
  ·exact⟨List.prefix_refl _,A,hu _ _⟩
  rename_i cs;obtain⟨g1,g2,g3,g4⟩:=wQ hz hs (ms:=ms) (xs:=cs) A hf;refine⟨g1,g2,λbX F' hp hF v hv=>?_⟩
  cases hv with
  | a vs cs' hl h1 hv =>
   refine .a vs _ (by simpa[g3]using hl) h1 (λk v y hk hy=>?_);simp only[List.getElem?_map,Option.map_eq_some_iff]at hy;obtain⟨y0,wR,rfl⟩:=hy;have aW:k<cs.length:=by rw[<- g3];exact(List.getElem?_eq_some_iff.1 wR).1
   exact g4 k cs[k] y0 (List.getElem?_eq_getElem aW) wR bX F' hp hF v (hv k v _ hk (by simp[aW]))
theorem R3{nl:Nat}(hz:lT w F ι h)(hs:∀ id e ts m es v off len n,h id = .sl e ts m es->VR w F ι (λi=>(h i).aA) v (.r n id off len)->n=ts.length){T:Nat->TV} :
  ∀ {L:List (Nat × Md)} {acc:Acc},ec w F ι h acc->oQ nl h acc->acc <+: (YQ nl h T L acc).2/\ec w F ι h (YQ nl h T L acc).2/\∀ s,tF w F ι h (YQ nl h T L acc).2 (T s) (cG (YQ nl h T L acc).1 s)
 | [],acc,A,hf=>⟨List.prefix_refl _,A,λs bX F' _ _ v _=>.u v⟩
 | (s,m)::L,acc,A,hf=>by
  obtain⟨g1,g2,g3⟩:=QN7 hz hs (m:=m) (x:=T s) A hf;obtain⟨h1,h2,h3⟩:=R3 hz hs (T:=T) (L:=L) g2 (hf.mono g1);refine⟨g1.trans h1,h2,λs'=>?_⟩;simp only[YQ,Y2,bI]
  split
  ·rename_i e;subst e;exact g3.mono h1
  ·exact h3 s'
end
theorem R4:∀(acc:Acc)(n k:Nat),dv (oO n acc) k=if n<=k then(match acc[k-n]? with | some (_,b)=>b | none=>.none) else .none
 | [],n,k=>by simp[oO,dv]
 | (o,b)::r,n,k=>by
  simp only[oO,qP,bI];by_cases h:k=n
  ·subst h;simp
  ·rw[if_neg h,R4 r (n+1) k];by_cases h2:n<=k
   ·rw[if_pos h2,if_pos (by omega),show k-n=(k-(n+1))+1 by omega];simp
   ·rw[if_neg h2,if_neg (by omega)]
theorem Jv(h:Nat->az):∀ n,(ZF h n).length=n
 | 0=>rfl
 | n+1=>by simp only[ZF,List.length_append,Jv h n,List.length_singleton]
theorem R5{nl:Nat}{h:Nat->az}:∀ {cs:List TV} {acc:Acc},(Yh nl h (lS cs) cs acc).2=acc
 | [],acc=>rfl
 | x::xs,acc=>by
  have:(Jd nl h .d x acc).2=acc:=by
   unfold Jd
   split <;> try rfl
   split <;> try rfl
   simp only[cond]
   split <;> rfl
  simp only[lS,Yh,this];exact R5
section
variable {C:Ctx} {U:Nat->Prop} {a:Act} {w:World} {ι:Io}
theorem QS6(h:Nat->az)(ids:List Nat):(λi=>(kG h ids i).aA)=bp (λi=>(h i).aA) (eT (λi=>(h i).aA) (ids.filter λi=>(h i).full)):=by
 funext i
 rw[YA];simp only[kG,List.mem_filter];by_cases hi:i∈ids
 ·rw[show ids.elem i=true by simpa using hi]
  cases hf:(h i).full with
  | true=>rw[if_pos ⟨hi,rfl⟩];exact Rm _
  | false=>rw[if_neg (λh=>by cases h.2)];rfl
 ·rw[if_neg (λh=>hi h.1),show ids.elem i=false by simpa using hi];rfl
theorem QTv{σ:cq}{nl:Nat}{L:List (Nat × Md)}(S:Sat C U σ.aA a w ι)(hL:∀ i b,C.L i=some b->i<nl)(hO:∀ i x,C.O i=some x->i<nl)(hOb:∀ i x cs,C.O i=some x->x.B≠.box cs):∃ ι',Sat C (λi=>(gc nl L σ).nx<=i) (gc nl L σ).aA a w ι':=by
 obtain⟨t,h0,nx⟩:=σ;let H:=dv h0
 let T:=cG t
 let ids:=zP H nl++qR H T L
 have oe:Am.Full (λi=>(H i).aA) (ids.filter λi=>(H i).full):=by
  intro id a8 e sz m es he;have h1:=(List.mem_filter.1 a8).2;simp only at h1 he
  cases hq:H id with
  | sl e' ts m' bP=>rw[hq]at he h1;rw[az.bH]at he;injection he with _ _ q _;rw[<- q];exact h1
  | _=>rw[hq]at he;cases he
 obtain⟨S1,_⟩:=S.freeze (ids.filter λi=>(H i).full) oe;have hf:bp (cq.aA ⟨t,h0,nx⟩).h (eT (cq.aA ⟨t,h0,nx⟩).h (ids.filter λi=>(H i).full))=λi=>(kG H ids i).aA:=(QS6 H ids).symm;rw[hf]at S1;generalize hh:kG H ids=h at S1;generalize ι.loose (ids.filter λi=>(H i).full)=ι at S1;let F:=Fz C w ι λi=>(h i).aA
 have hs:∀ id e ts m es v off len n,h id = .sl e ts m es->VR w F ι (λi=>(h i).aA) v (.r n id off len)->n=ts.length:=by
  intro id e ts m es v off len n a8 hv;have hA:(λi=>(h i).aA) id = .sl e ts.length m (es.map (aU ts)):=by simp only[a8,az.bH]
  generalize(λi=>(h i).aA)=hB at hv hA
  cases hv with
  | cy v sz id off len h1 hd=>rw[hA]at hd;cases hd
  | cL id e' sz m' hi b9=>rw[hA]at b9;injection b9 with _ q _ _;exact q.symm
  | de ad cap id e' sz m' hi b9 ht=>rw[hA]at b9;injection b9 with _ q _ _;exact q.symm
  | r id off len b ao cap e' sz m' bP hi b9 hlen cj ho cX=>rw[hA]at b9;injection b9 with _ q _ _;exact q.symm
 have hz:lT w F ι h:=by
  intro id e ts es v off len a8 hv;have hA:(λi=>(h i).aA) id = .sl e ts.length .fz (es.map (aU ts)):=by simp only[a8,az.bH]
  refine AV.jz S1 (F:=F) (λb hb=>hb) hv (d:=.sl ts.length (((es.map (aU ts)).drop off).take len)) ?_ (λb7 b iv hb=>?_) (λb7 b p iv hb=>?_)
  ·show(match(h id).aA with | .sl _ sz m es=>if m.full=true then some (D.sl sz ((es.drop off).take len)) else none | _=>none)=_;rw[a8];rfl
  ·simp only[AV.bR,List.mem_singleton]at iv;subst iv;obtain⟨r1,r2⟩:=S1.eg b7 b hb;refine⟨r2,?_,λj hj=>?_,?_⟩
   ·rcases r1 with r1 | ⟨_,cs,q⟩
    ·exact .inr r1
    ·have q:(h b7).aA = .box cs:=q;rw[a8]at q;cases q
   ·have:=S1.inj j b7 b hj hb;subst this;show((h j).aA).own=false;rw[a8];rfl
   ·cases hk:ι.k b with
    | none=>rfl
    | some x=>exact absurd hb ((S1.df b x.1 x.2 hk).ne b7)
  ·simp only[AV.bR,List.mem_singleton]at iv;subst iv;obtain⟨e',bc,g,t',H',bP,q⟩:=(S1.df b b7 p hb).dp;have q:(h b7).aA = .sl e' bc (.dp g t' H') bP:=q;rw[a8,az.bH]at q
   cases q
 have qT:∀(n k:Nat)(j o:Nat)(b:az),(ZF h n)[k]? = some (some (j,o),b)->j=k:=by
  intro n
  induction n with
  | zero=>intro k j o b hk;simp[ZF]at hk
  | succ n ih =>
   intro k j o b hk;simp only[ZF]at hk;rw[List.getElem?_append]at hk
   split at hk
   ·exact ih k j o b hk
   ·rename_i iL;have h1:=List.mem_of_getElem? hk;have h2:=(List.getElem?_eq_some_iff.1 hk).1;simp only[List.mem_singleton]at h1;simp only[Jv,List.length_singleton]at iL h2;simp only[cond]at h1;repeat' split at h1
    all_goals first | (cases h1;omega) | cases h1
 have fu:∀ n,ec w F ι h (ZF h n):=by
  intro n
  induction n with
  | zero=>exact⟨λk e he=>by simp[ZF]at he,λk j id o o' b c hk=>by simp[ZF]at hk⟩
  | succ n ih =>
   simp only[ZF];have lV:Ya (ZF h n) n=none:=by
    cases hx:Ya (ZF h n) n with
    | none=>rfl
    | some k =>
     obtain⟨o,b,hb⟩:=tD hx;have h1:=qT n k n o b hb;have h2:=(List.getElem?_eq_some_iff.1 hb).1;rw[Jv]at h2;omega
   split
   ·rename_i cs dH;obtain⟨g1,g2,g3,g4⟩:=wQ (nl:=0) hz hs (ms:=lS cs) (xs:=cs) ih (λid _ _ _ _ h=>by omega);rw[R5]at g1 g2 g4;exact ih.push ⟨cs,dH,g3,λk x y hx hy=>(g4 k x y hx hy).mono (List.prefix_append _ _)⟩ (λid o a8=>by cases a8;exact lV)
   ·rename_i e ts m es hq
    cases mz:m.full with
    | true=>exact ih.push ⟨es,m,es.length,⟨e,hq,λ_=>rfl⟩,List.take_length.symm,.rs mz⟩ (λid o a8=>by cases a8;exact lV)
    | false=>exact ih.push trivial (λid o a8=>by cases a8)
   ·exact ih.push trivial (λid o a8=>by cases a8)
   ·exact ih.push trivial (λid o a8=>by cases a8)
 have dV:∀ n,oQ n h (ZF h n):=by
  intro n
  induction n with
  | zero=>intro id e ts m es aW;omega
  | succ n ih =>
   intro id e ts m es aW a8 mz;simp only[ZF];by_cases fc:id<n
   ·rw[List.getElem?_append_left (by rw[Jv];exact fc)];exact ih id e ts m es fc a8 mz
   ·have:id=n:=by omega
    subst this;rw[List.getElem?_append_right (by rw[Jv];omega),Jv,a8];simp[mz]
 have kt:∀ i x,C.O i=some x->∀ cs,h i≠.box cs:=by
  intro i x hi cs hq
  rcases S1.hand i x hi with r1 | ⟨_,_,r2,_⟩
  ·have r1:(h i).aA = .dead:=r1;rw[hq]at r1
   cases r1
  ·have r2:Yi x.B (h i).aA:=r2;rw[hq]at r2
   cases hB:x.B with
   | box cs'=>exact hOb i x cs' hi hB
   | _=>rw[hB]at r2;exact r2.elim
 have wS:∀ n i,i<n->(h i = .dead\/∃ e ts m es,h i = .sl e ts m es/\m.full=false)->(ZF h n)[i]? = some (none,.dead):=by
  intro n
  induction n with
  | zero=>intro i aW;omega
  | succ n ih =>
   intro i aW a8;simp only[ZF];by_cases fc:i<n
   ·rw[List.getElem?_append_left (by rw[Jv];exact fc)];exact ih i fc a8
   ·have:i=n:=by omega
    subst this;rw[List.getElem?_append_right (by rw[Jv];omega),Jv]
    rcases a8 with a8 | ⟨e,ts,m,es,a8,mz⟩
    ·rw[a8];simp
    ·rw[a8];simp[mz]
 obtain⟨g1,g2,g3⟩:=R3 (nl:=nl) hz hs (T:=T) (L:=L) (fu nl) (dV nl);have hgc:gc nl L ⟨t,h0,nx⟩=⟨(YQ nl h T L (ZF h nl)).1,oO 0 (YQ nl h T L (ZF h nl)).2,(YQ nl h T L (ZF h nl)).2.length⟩:=by
  unfold gc;show cq.mk _ _ _=_;simp only[show kG (cq.H ⟨t,h0,nx⟩) (zP (cq.H ⟨t,h0,nx⟩) nl++qR (cq.H ⟨t,h0,nx⟩) (cq.T ⟨t,h0,nx⟩) L)=h from hh];rfl
 rw[hgc];generalize nu:(YQ nl h T L (ZF h nl)).2=acc at g1 g2 g3;have hah:(λi=>(dv (oO 0 acc) i).aA)=ah acc:=by
  funext k
  rw[R4];simp only[Nat.zero_le,if_true,Nat.sub_zero,ah]
  cases acc[k]? with
  | none=>rfl
  | some x=>obtain⟨o,b⟩:=x;rfl
 have hex:∀(k b:Nat),aι ι acc k=some b->∃ id off B,acc[k]? = some (some (id,off),B)/\ι id=some b:=by
  intro k b hk;simp only[aι]at hk
  cases hx:acc[k]? with
  | none=>rw[hx]at hk;cases hk
  | some x =>
   obtain⟨o,B⟩:=x;rw[hx]at hk
   cases o with
   | none=>cases hk
   | some id=>exact⟨id.1,id.2,B,rfl,hk⟩
 have R6:∀(b k:Nat)(p:cD),(aι ι acc).k b=some (k,p)->∃ y a c q off B,ι.k b=some (y,(a,c)::q)/\acc[k]? = some (some (y,off),B)/\off<=a/\p=(a-off,c)::q:=by
  intro b k p hk;simp only[aι]at hk
  cases hx:ι.k b with
  | none=>rw[hx]at hk;cases hk
  | some x =>
   obtain⟨y,p0⟩:=x;rw[hx]at hk
   cases p0 with
   | nil=>cases hk
   | cons ac q =>
    obtain⟨a,c⟩:=ac;simp only at hk
    cases hy:Ya acc y with
    | none=>rw[hy]at hk;cases hk
    | some k' =>
     rw[hy]at hk;obtain⟨off,B,hB⟩:=tD hy;simp only[hB]at hk
     split at hk
     ·rename_i hle;simp only[Option.some.injEq,Prod.mk.injEq]at hk;obtain⟨rfl,rfl⟩:=hk;exact⟨y,a,c,q,off,B,rfl,hB,hle,rfl⟩
     ·cases hk
 have hF:∀ b,F b->Fz C w (aι ι acc) (ah acc) b:=by
  intro b ⟨q1,q2,q3,q4⟩;refine⟨q1,q2,λk hk=>?_,?_⟩
  ·obtain⟨id,off,B,h1,h2⟩:=hex k b hk;have h3:=q3 id h2;have hg:=g2.jL k _ h1;simp only[ah,h1]
   cases B with
   | none=>rfl
   | dead=>rfl
   | box cs=>obtain⟨fW,e,_⟩:=hg;have h3:((h id).aA).own=false:=h3;rw[e]at h3;cases h3
   | sl e ts m es =>
    obtain⟨ml,m0,len,⟨_,e,_⟩,_,hg⟩:=hg;have h3:((h id).aA).own=false:=h3;rw[e,az.bH]at h3;rw[az.bH];exact hg.own.trans h3
  ·cases hk:(aι ι acc).k b with
   | none=>rfl
   | some x=>obtain⟨y,a,c,q,off,B,h1,_⟩:=R6 b x.1 x.2 hk;rw[q4]at h1;cases h1
 have key:Sat C (λi=>acc.length<=i) ⟨λs=>(cG (YQ nl h T L (ZF h nl)).1 s).aA,ah acc,acc.length⟩ a w (aι ι acc):=by
  refine⟨S1.dD,λs=>?_,S1.size,S1.defers,λk=>?_,λi j b hi hj=>?_,λi b hi=>?_,λi hi=>?_,λi b hi=>?_,λi b hi=>?_,λi x hi=>?_,λb k p hk=>?_⟩
  ·exact g3 s acc _ (List.prefix_refl _) hF _ (S1.bm s)
  ·show BR w (Fz C w (aι ι acc) (ah acc)) (aι ι acc) (ah acc) k (ah acc k)
   cases hx:acc[k]? with
   | none=>simp only[ah,hx];exact .none
   | some x =>
    obtain⟨o,B⟩:=x;have hg:=g2.jL k _ hx;obtain⟨ha,hi,ho⟩:=tE (ι:=ι) (List.prefix_refl acc) hx;rw[ha]
    cases o with
    | none =>
     cases B with
     | none=>exact .none
     | dead=>exact .dead
     | box cs=>exact hg.elim
     | sl e ts m es =>
      obtain⟨e1,e2⟩:=hg;subst e1;rw[az.bH];exact .slnil e ts.length m e2 hi
    | some id =>
     obtain⟨id,off⟩:=id;have hi:aι ι acc k=ι id:=hi;have hb:=S1.fh id
     cases B with
     | none=>exact hg.elim
     | dead=>exact hg.elim
     | box cs =>
      obtain⟨fW,e1,e2,e3⟩:=hg;have hb:BR w F ι (λi=>(h i).aA) id ((h id).aA):=hb;rw[e1]at hb
      cases hb with
      | box b e bm _ q1 qo q2 q3 q4 q5 =>
       refine .box b e bm _ (hi.trans q1) (by rw[ho];simp only[Jw,FE,Nat.add_zero];exact qo) q2 (by simpa[e2]using q3) q4 (λj v y hj hy=>?_);simp only[List.getElem?_map,Option.map_eq_some_iff]at hy;obtain⟨y0,wR,rfl⟩:=hy;have aW:j<fW.length:=by rw[<- e2];exact(List.getElem?_eq_some_iff.1 wR).1
       exact e3 j fW[j] y0 (List.getElem?_eq_getElem aW) wR acc _ (List.prefix_refl _) hF v (q5 j v _ hj (by simp[aW]))
     | sl e ts m es =>
      obtain⟨ml,m0,len,⟨e9,e1,zQ⟩,e2,qE⟩:=hg;have oR:=hx;have hb:BR w F ι (λi=>(h i).aA) id ((h id).aA):=hb;rw[e1]at hb;have ho:es≠[]->(aι ι acc).o k=ι.o id+off*ts.length:=λdK=>by rw[ho];simp only[Jw,RZ dK]
      have eR:es=[]->(aι ι acc).o k=ι.o id:=λdK=>by subst dK;rw[(tE (ι:=ι) (List.prefix_refl acc) hx).2.2];simp only[Jw,QXu,Nat.add_zero]
      simp only[az.bH]at hb ⊢;have het:es.map (aU ts)=((ml.map (aU ts)).drop off).take len:=by rw[e2,List.map_take,List.map_drop]
      have zS:es=[]↔es.map (aU ts)=[]:=by simp
      generalize es.map (aU ts)=bP at het zS ⊢;generalize ml.map (aU ts)=eO at hb het
      cases hb with
      | slnil _ _ _ q1 q2=>simp only[List.drop_nil,List.take_nil]at het;subst het;exact .slnil e ts.length m q1 (hi.trans q2)
      | sl b _ e0 _ _ _ cur q1 q2 q3 q4 q5 q6 q7 q8 =>
       have wT:bP.length<=eO.length:=by rw[het];simp;omega
       refine .sl b e e0 ts.length m _ cur q1 (hi.trans q2) q3 (λht=>?_) ?_ (Nat.le_trans wT q6) (λx hx=>?_) (λi j x d hx hd=>?_)
       ·obtain⟨t1,t2⟩:=qE.eY ht;obtain⟨r1,r2,Cc,r3,r4,r5⟩:=q4 t1;refine⟨r1.trans (zQ ht),?_,Cc,r3,by omega,r5⟩;by_cases dK:es=[]
        ·rw[eR dK,r2]
        ·rw[ho dK,r2,t2];simp
       ·by_cases dK:es=[]
        ·rw[eR dK,zS.1 dK];simp only[List.length_nil,Nat.zero_mul];exact Nat.le_trans (Nat.le_add_right _ _) q5
        ·rw[ho dK];have:off+bP.length<=eO.length:=by
          have:bP≠[]:=λh=>dK (zS.2 h);have h3:0<bP.length:=List.length_pos_iff.2 this;rw[het]at h3 ⊢;simp at h3 ⊢;omega
         have:=Nat.mul_le_mul_right ts.length this;rw[Nat.add_mul]at this;omega
       ·rw[het]at hx;exact q7 x (List.mem_of_mem_drop (List.mem_of_mem_take hx))
       ·have dK:es≠[]:=λh=>by rw[zS.1 h]at hx;simp at hx
        rw[ho dK];rw[het,List.getElem?_take]at hx
        split at hx
        rotate_left
        ·cases hx
        rw[List.getElem?_drop]at hx;obtain⟨v,r1,r2⟩:=q8 (off+i) j x d hx hd;refine⟨v,by rw[<- r1];congr 1;rw[Nat.add_mul];omega,?_⟩
        rcases qE with⟨rfl,jm,rfl⟩ | ⟨g,t,HH,t',rfl,rfl,_,ox⟩
        ·cases m0 with
         | dp=>cases jm
         | ow=>exact Rd.mono (λb hb=>⟨hF b hb,rfl⟩) r2
         | fz=>exact Rd.mono (λb hb=>⟨hF b hb,rfl⟩) r2
        ·refine⟨r2.1,λ_=>?_⟩;have r3:=r2.2 (λhm=>by have:=ox _ hm;simp only at this;omega);refine r3.map [(i,j)] (λb q hk=>⟨?_,rfl⟩);simp only[List.singleton_append]at hk;simp only[aι,hk,QIa g2 oR,oR];simp
  ·obtain⟨id,o1,B,h1,h2⟩:=hex i b hi;obtain⟨b7,o2,B',h3,h4⟩:=hex j b hj;have:=S1.inj id b7 b h2 h4;subst this;exact g2.nodup i j id o1 o2 B B' h1 h3
  ·obtain⟨id,o1,B,h1,h2⟩:=hex i b hi;obtain⟨r1,r2⟩:=S1.eg id b h2;refine⟨r1.imp (λx=>x) λ⟨r3,cs,r4⟩=>⟨r3,?_⟩,r2⟩;have r4:(h id).aA = .box cs:=r4;have hg:=g2.jL i _ h1
   cases B with
   | none=>exact hg.elim
   | dead=>exact hg.elim
   | box cs'=>exact⟨cs'.map TV.aO,by simp only[ah,h1];rfl⟩
   | sl e ts m es=>obtain⟨ml,m0,len,⟨_,e1,_⟩,_⟩:=hg;rw[e1]at r4;cases r4
  ·have:acc[i]? = none:=List.getElem?_eq_none hi;simp only[ah,aι,this,Option.bind_none,and_self]
  ·obtain⟨id,o1,B,h1,h2⟩:=hex i b hi;have hg:=g2.jL i _ h1;simp only[ah,h1]
   cases B with
   | none=>exact hg.elim
   | dead=>exact hg.elim
   | box cs'=>simp[az.aA]
   | sl e ts m es=>simp[az.aA]
  ·obtain⟨r1,⟨cs,r2⟩,r3⟩:=S1.b8 i b hi;have r2:(h i).aA = .box cs:=r2;have aW:=hL i b hi;have qT:∀ n,i<n->∃ cs',(ZF h n)[i]? = some (some (i,0),.box cs'):=by
    intro n
    induction n with
    | zero=>intro hn;omega
    | succ n ih =>
     intro hn;simp only[ZF];rw[List.getElem?_append];by_cases fc:i<n
     ·rw[if_pos (by rw[Jv];exact fc)];exact ih fc
     ·have:i=n:=by omega
      subst this;rw[if_neg (by rw[Jv];omega),Jv]
      cases hq:h i with
      | box fW=>simp
      | none=>rw[hq]at r2;cases r2
      | dead=>rw[hq]at r2;cases r2
      | sl e ts m es=>rw[hq]at r2;cases r2
   obtain⟨cs',h1⟩:=qT nl aW;obtain⟨rr,tq⟩:=g1;have h2:acc[i]? = some (some (i,0),.box cs'):=by
    rw[<- tq,List.getElem?_append_left (List.getElem?_eq_some_iff.1 h1).1];exact h1
   exact⟨by simp only[aι,h2,Option.bind_some];exact r1,⟨cs'.map TV.aO,by simp only[ah,h2];rfl⟩,r3⟩
  ·have aW:=hO i _ hi;obtain⟨rr,tq⟩:=g1;have fc:∀ x,(ZF h nl)[i]? = some x->acc[i]? = some x:=λx hx=>by
    rw[<- tq,List.getElem?_append_left (List.getElem?_eq_some_iff.1 hx).1];exact hx
   have eP:(h i = .dead\/∃ e ts m es,h i = .sl e ts m es/\m.full=false)->ah acc i = .dead:=λhq=>by
    simp only[ah,fc _ (wS nl i aW hq)];rfl
   rcases S1.hand i x hi with r1 | ⟨r1,rb,r2,r3⟩
   ·left;have r1:(h i).aA = .dead:=r1;have:h i = .dead:=by cases hq:h i <;> rw[hq]at r1 <;> first | rfl | cases r1
    exact eP (.inl this)
   ·have r2:Yi x.B (h i).aA:=r2
    cases hq:h i with
    | none=>rw[hq]at r2;cases hB:x.B <;> rw[hB]at r2 <;> exact r2.elim
    | dead=>exact .inl (eP (.inl hq))
    | sl e ts m es =>
     cases mz:m.full with
     | false=>exact .inl (eP (.inr ⟨e,ts,m,es,hq,mz⟩))
     | true =>
      right;have hx:=fc _ (dV nl i e ts m es aW hq mz);obtain⟨z1,z2,z3⟩:=tE (ι:=ι) (List.prefix_refl acc) hx;refine⟨z2.trans r1,by rw[z3];simp only[Jw,R0,Nat.add_zero];exact rb,?_,r3⟩;show Yi x.B (ah acc i);rw[z1];rw[hq,az.bH]at r2;rw[az.bH]
      cases hB:x.B with
      | sl e' bc m' bP =>
       rw[hB]at r2;refine⟨r2.1,r2.2.1,r2.2.2.1,λht=>r2.2.2.2.1 ((Jz.rs mz).eY ht).1,λhg=>r2.2.2.2.2 ?_⟩
       cases m <;> first | rfl | exact hg
      | _=>rw[hB]at r2;exact r2.elim
    | box cs=>exact absurd hq (kt i x hi cs)
  ·obtain⟨y,a',c,q,off,B,h1,h2,h3,h4⟩:=R6 b k p hk;have l:=S1.df b y _ h1;refine⟨by rw[h4];simp,?_,l.fr,l.lt,λi hi=>?_⟩
   ·obtain⟨e,sz,g,t',HH,es,hd⟩:=l.dp;have hd:(h y).aA = .sl e sz (.dp g t' HH) es:=hd;have hg:=g2.jL k _ h2;show ∃ e sz g t H es,ah acc k = .sl e sz (.dp g t H) es
    cases B with
    | none=>exact hg.elim
    | dead=>exact hg.elim
    | box cs'=>obtain⟨fW,e1,_⟩:=hg;rw[e1]at hd;cases hd
    | sl e2 ts m fZ =>
     obtain⟨ml,m0,len,⟨_,e1,_⟩,_,qE⟩:=hg;rw[e1,az.bH]at hd;injection hd with _ _ d3 _
     rcases qE with⟨rfl,jm,_⟩ | ⟨g',t2,H2,t3,r1,r2,_⟩
     ·rw[d3]at jm;cases jm
     ·exact⟨e2,ts.length,0,t3,[],fZ.map (aU ts),by simp only[ah,h2,az.bH,r2]⟩
   ·obtain⟨id,o1,B,fN,kB⟩:=hex i b hi;exact l.ne id kB
 refine⟨aι ι acc,?_⟩;have FG:cq.aA ⟨(YQ nl h T L (ZF h nl)).1,oO 0 acc,acc.length⟩=⟨λs=>(cG (YQ nl h T L (ZF h nl)).1 s).aA,ah acc,acc.length⟩:=by
  unfold cq.aA cq.T cq.H;rw[<- hah]
 rw[FG];exact key
end
end Go.Proofs.YtdplaepmjogjjaaGreat.Am
namespace Go.Proofs.YtdplaepmjogjjaaGreat.Am
open Go Go.RowKit
inductive af where
 | skip
 | ae (ss:List bA)
 | draw (ss:List bA) (U:List (Nat × Nat))
 | seq (x y:af)
 | cond (c:bD) (x y:af)
 | block (id:Nat) (x:af)
 | loop (L:List (Nat × Md)) (x:af)
 | exit (id:Nat)
 | ret
 | wk (L:List (Nat × Md)) (x:af)
 | cv (s k:Nat) (x:af)
def af.er:af->eB
 | .skip=>.skip
 | .ae ss=>.ae (ik none 0 ss)
 | .draw ss U=>.draw (ik none 0 ss) U
 | .seq x y=>.seq x.er y.er
 | .cond c x y=>.cond c.er x.er y.er
 | .block id x=>.block id x.er
 | .loop _ x=>.loop x.er
 | .exit id=>.exit id
 | .ret=>.ret
 | .wk _ x=>x.er
 | .cv _ _ x=>x.er
def zT(F:(cq->Prop)->cq->Prop)(σ:cq):Prop:=∀ J:cq->Prop,(∀ s,F J s->J s)->J σ
abbrev Qb:=mc->cq->Prop
def a0(next:cq->Prop)(Q:Qb):Qb:=λe σ=>match e with
 | .normal=>next σ
 | e=>Q e σ
def a7(id:Nat)(Q:Qb):Qb:=λe σ=>match e with
 | .exit b7=>bif Nat.beq b7 id then Q .normal σ else Q (.exit b7) σ
 | e=>Q e σ
def cq.fT(σ:cq)(n:Nat):cq:=⟨σ.t,σ.h,σ.nx+n⟩
def zU(H:Nat->az)(nx:Nat):TV->Option (Prop × TV × List (Nat × az))
 | .bs _ _ id g [(i,j)]=>match H id with
  | .sl e jM (.dp g0 t []) es=>match Nat.beq g g0,(aT.cells jM (gt jM es i))[j]? with
   | true,some (.c (.sl (t1::ts)) l)=>some (i<es.length,.r (t1::ts) nx 0 l.length,[(id,.sl e jM (.dp (g0+1) t [(i,j)]) es),(nx,.sl 0 (t1::ts) (.dp 0 false []) l)])
   | _,_=>none
  | _=>none
 | _=>none
def FH(s k:Nat)(σ:cq):Option (Prop × cq):=match σ.T s with
 | .a cs=>match cs[k]? with
  | some c=>match zU σ.H σ.nx c with
   | some (p,y,l)=>some (p,⟨(s,.a (cs.set k y))::σ.t,l++σ.h,σ.nx+1⟩)
   | none=>none
  | none=>none
 | .p id 0 0=>match σ.H id with
  | .box cs=>match cs[k]? with
   | some c=>match zU σ.H σ.nx c with
    | some (p,y,l)=>some (p,⟨σ.t,(id,.box (cs.set k y))::(l++σ.h),σ.nx+1⟩)
    | none=>none
   | none=>none
  | _=>none
 | _=>none
def aN(Γ:aF)(nl:Nat):af->Qb->cq->Prop
 | .skip,Q,σ=>Q .normal σ
 | .ae ss,Q,σ=>match ib Γ 0 ss σ with
  | some (p,σ',_)=>nk p (Q .normal (σ'.fT (16*cU ss)))
  | none=>False
 | .draw ss U,Q,σ=>match ib Γ 0 ss σ with
  | some (p,σ',l)=>match sR l U with
   | true=>nk p (Q .normal (σ'.fT (16*cU ss)))
   | false=>False
  | none=>False
 | .seq x y,Q,σ=>aN Γ nl x (a0 (aN Γ nl y Q) Q) σ
 | .cond c x y,Q,σ=>match c.ev σ.T with
  | .c .bool t=>(t=true->aN Γ nl x Q σ)/\(t=false->aN Γ nl y Q σ)
  | _=>False
 | .block id x,Q,σ=>aN Γ nl x (a7 id Q) σ
 | .loop L x,Q,σ=>zT (λR s=>aN Γ nl x (a0 (λs'=>R (gc nl L s')) Q) s) (gc nl L σ)
 | .exit id,Q,σ=>Q (.exit id) σ
 | .ret,Q,σ=>Q .ret σ
 | .wk L x,Q,σ=>aN Γ nl x Q (gc nl L σ)
 | .cv s k x,Q,σ=>match FH s k σ with
  | some r=>r.1/\aN Γ nl x Q r.2
  | none=>False
theorem zV{p:Option Prop}{k:Prop}:nk p k↔holds p/\k:=by cases p <;> simp[nk,holds]
theorem nv{Γ:aF}{nl:Nat}:∀(c:af){Q Q':Qb}{σ:cq},(∀ e s,Q e s->Q' e s)->aN Γ nl c Q σ->aN Γ nl c Q' σ
 | .skip,Q,Q',σ,h,hc=>h _ _ hc
 | .ae ss,Q,Q',σ,h,hc=>by
  simp only[aN]at hc ⊢
  split at hc
  ·rw[zV]at hc ⊢;exact⟨hc.1,h _ _ hc.2⟩
  ·exact hc
 | .draw ss U,Q,Q',σ,h,hc=>by
  simp only[aN]at hc ⊢
  split at hc
  ·split at hc
   ·rw[zV]at hc ⊢;exact⟨hc.1,h _ _ hc.2⟩
   ·exact hc
  ·exact hc
 | .seq x y,Q,Q',σ,h,hc=>by
  simp only[aN]at hc ⊢;refine nv x (λe s hq=>?_) hc
  cases e with
  | normal=>exact nv y h hq
  | exit id=>exact h _ _ hq
  | ret=>exact h _ _ hq
 | .cond c x y,Q,Q',σ,h,hc=>by
  simp only[aN]at hc ⊢
  split at hc
  ·exact⟨λe=>nv x h (hc.1 e),λe=>nv y h (hc.2 e)⟩
  ·exact hc
 | .block id x,Q,Q',σ,h,hc=>by
  simp only[aN]at hc ⊢;refine nv x (λe s hq=>?_) hc
  cases e with
  | normal=>exact h _ _ hq
  | exit b7 =>
   simp only[a7]at hq ⊢
   cases hb:Nat.beq b7 id with
   | true=>rw[hb]at hq;exact h _ _ hq
   | false=>rw[hb]at hq;exact h _ _ hq
  | ret=>exact h _ _ hq
 | .loop L x,Q,Q',σ,h,hc=>by
  simp only[aN]at hc ⊢;intro J hJ;refine hc J (λs hs=>hJ s (nv x (λe s hq=>?_) hs))
  cases e with
  | normal=>exact hq
  | exit id=>exact h _ _ hq
  | ret=>exact h _ _ hq
 | .exit id,Q,Q',σ,h,hc=>h _ _ hc
 | .ret,Q,Q',σ,h,hc=>h _ _ hc
 | .wk L x,Q,Q',σ,h,hc=>by
  simp only[aN]at hc ⊢;exact nv x h hc
 | .cv s k x,Q,Q',σ,h,hc=>by
  simp only[aN]at hc ⊢
  split at hc
  ·exact⟨hc.1,nv x h hc.2⟩
  ·exact hc
theorem QNH{Γ:aF}{nl:Nat}{L:List (Nat × Md)}{x:af}{Q:Qb}{s:cq}
  (h:aN Γ nl x (a0 (λs'=>zT (λR s=>aN Γ nl x (a0 (λs'=>R (gc nl L s')) Q) s) (gc nl L s')) Q) s) :
  zT (λR s=>aN Γ nl x (a0 (λs'=>R (gc nl L s')) Q) s) s:=by
 intro J hJ;refine hJ s (nv x (λe s hq=>?_) h)
 cases e with
 | normal=>exact hq J hJ
 | exit id=>exact hq
 | ret=>exact hq
mutual
theorem QYd(g:Option (Nat × Bool)):∀(x:bA)(i:Nat),(x.er g i).length=x.len
 | .op d o,i=>rfl
 | .bw s w ss d x,i=>by simp[bA.er,bA.len,wU (some (s,w)) ss i]
 | .gw s w ss d2 o d x,i=>by simp[bA.er,bA.len,wU (some (s,w)) ss i]
theorem wU(g:Option (Nat × Bool)):∀(ss:List bA)(i:Nat),(ik g i ss).length=cU ss
 | [],i=>rfl
 | x::xs,i=>by simp[ik,cU,QYd g x i,wU g xs (i+x.len)]
end
theorem QFL{P:Program}{N:Nat}{c:Code}{x y:eB}(h:comp P N c=some (.seq x y)):∃ c1 c2,c = .seq c1 c2/\comp P N c1=some x/\comp P N c2=some y:=by
 cases c with
 | seq c1 c2 =>
  simp only[comp]at h
  split at h
  ·rename_i h1 h2;cases h;exact⟨c1,c2,rfl,h1,h2⟩
  ·cases h
 | region id ops draw =>
  simp only[comp]at h
  split at h
  ·split at h
   ·split at h <;> cases h
   ·cases h
  ·cases h
 | cond a b c=>simp only[comp]at h;split at h <;> cases h
 | block id c=>simp only[comp,Option.map_eq_some_iff]at h;obtain⟨_,_,h⟩:=h;cases h
 | loop c=>simp only[comp,Option.map_eq_some_iff]at h;obtain⟨_,_,h⟩:=h;cases h
 | _=>simp[comp]at h
theorem QFE{P:Program}{N:Nat}{c:Code}{b:aX}{x y:eB}(h:comp P N c=some (.cond b x y)):∃ b0 c1 c2,c = .cond b0 c1 c2/\cO P 0 b0=some b/\comp P N c1=some x/\comp P N c2=some y:=by
 cases c with
 | cond b0 c1 c2 =>
  simp only[comp]at h
  split at h
  ·rename_i h0 h1 h2;cases h;exact⟨b0,c1,c2,rfl,h0,h1,h2⟩
  ·cases h
 | region id ops draw =>
  simp only[comp]at h
  split at h
  ·split at h
   ·split at h <;> cases h
   ·cases h
  ·cases h
 | seq a b=>simp only[comp]at h;split at h <;> cases h
 | block id c=>simp only[comp,Option.map_eq_some_iff]at h;obtain⟨_,_,h⟩:=h;cases h
 | loop c=>simp only[comp,Option.map_eq_some_iff]at h;obtain⟨_,_,h⟩:=h;cases h
 | _=>simp[comp]at h
theorem QIh{P:Program}{N:Nat}{c:Code}{id:Nat}{x:eB}(h:comp P N c=some (.block id x)):∃ c1,c = .block id c1/\comp P N c1=some x:=by
 cases c with
 | block b7 c1 =>
  simp only[comp,Option.map_eq_some_iff]at h;obtain⟨_,h1,h⟩:=h
  cases h;exact⟨c1,rfl,h1⟩
 | region id ops draw =>
  simp only[comp]at h
  split at h
  ·split at h
   ·split at h <;> cases h
   ·cases h
  ·cases h
 | seq a b=>simp only[comp]at h;split at h <;> cases h
 | cond a b c=>simp only[comp]at h;split at h <;> cases h
 | loop c=>simp only[comp,Option.map_eq_some_iff]at h;obtain⟨_,_,h⟩:=h;cases h
 | _=>simp[comp]at h
theorem QNl{P:Program}{N:Nat}{c:Code}{x:eB}(h:comp P N c=some (.loop x)):∃ c1,c = .loop c1/\comp P N c1=some x:=by
 cases c with
 | loop c1 =>
  simp only[comp,Option.map_eq_some_iff]at h;obtain⟨_,h1,h⟩:=h
  cases h;exact⟨c1,rfl,h1⟩
 | region id ops draw =>
  simp only[comp]at h
  split at h
  ·split at h
   ·split at h <;> cases h
   ·cases h
  ·cases h
 | seq a b=>simp only[comp]at h;split at h <;> cases h
 | cond a b c=>simp only[comp]at h;split at h <;> cases h
 | block id c=>simp only[comp,Option.map_eq_some_iff]at h;obtain⟨_,_,h⟩:=h;cases h
 | _=>simp[comp]at h
def QOA(C:Ctx)(Qa:Qb)(Q:Exit->Act->World->Prop):Prop:=∀ e σ a w,Qa e σ->eZ C σ.aA a w->Q e.up a w
theorem QUa{C:Ctx}{U:Nat->Prop}{σ:cq}{a:Act}{w:World}{ι:Io}(S:Sat C U σ.aA a w ι){x:Operand}{x':bD}{ty:TypeId}(hx:cO C.P ty x=some x'.er){b:Bool}(hv:x'.ev σ.T = .c .bool b):a.eval x = .bool b :=
 P5 S hx (by show x'.er.ev (λs=>(σ.T s).aA)=_;rw[Zt,hv];rfl)
section
variable {C:Ctx} {Γ:aF} {ΓA:ez} {nl:Nat}
structure Kept(C:Ctx)(nl:Nat):Prop where
 l:∀ i b,C.L i=some b->i<nl
 o:∀ i o,C.O i=some o->i<nl
 b:∀ i x cs,C.O i=some x->x.B≠.box cs
theorem zW{σ:cq}{a:Act}{w:World}{L:List (Nat × Md)}(hL:Kept C nl)(S:eZ C σ.aA a w):eZ C (gc nl L σ).aA a w:=by
 obtain⟨ι,S⟩:=S;exact QTv S hL.l hL.o hL.b
theorem QL3{ts:List CT}{x:aT ts}{j:Nat}{t:CT}{d:t.den}(h:(aT.cells ts x)[j]? = some (.c t d)):(aU ts x)[j]? = some (enc t d):=by
 have h1:((aT.cells ts x).map TV.aO)[j]? = some (.c (enc t d)):=by rw[List.getElem?_map,h];rfl
 rw[oM,List.getElem?_map,Option.map_eq_some_iff]at h1;obtain⟨y,h1,h2⟩:=h1
 cases h2;exact h1
theorem R7{σ:cq}{U:Nat->Prop}{a:Act}{w:World}{ι:Io}{c y:TV}{p:Prop}{l:List (Nat × az)}{v:Value}(hr:zU σ.H σ.nx c=some (p,y,l))(hp:p)(S:Sat C (λi=>σ.nx<=i) σ.aA a w ι)(hv:VR w (Fz C w ι σ.aA.h) ι σ.aA.h v c.aO) :
  ∃ ι',Sat C (λi=>σ.nx+1<=i) ⟨σ.aA.t,λx=>(dv (l++σ.h) x).aA,σ.nx⟩ a w ι'/\VR w (Fz C w ι' λx=>(dv (l++σ.h) x).aA) ι' (λx=>(dv (l++σ.h) x).aA) v y.aO/\
   (∀ b,Fz C w ι σ.aA.h b->Fz C w ι' (λx=>(dv (l++σ.h) x).aA) b)/\(∀ x,cY w w ι ι' σ.aA.h (λx=>(dv (l++σ.h) x).aA) x)/\∀ id cs,σ.aA.h id = .box cs->(dv (l++σ.h) id).aA = .box cs:=by
 unfold zU at hr
 split at hr <;> try cases hr
 rename_i b4 l' id g i j
 split at hr <;> try cases hr
 rename_i e jM g0 t es a8
 split at hr <;> try cases hr
 rename_i t1 ts l hg hc;have hg:=Nat.eq_of_beq_eq_true hg;subst hg;have nw:σ.aA.h id = .sl e jM.length (.dp g t []) (es.map (aU jM)):=by show(σ.H id).aA=_;rw[a8,az.bH]
 have di:∃ bk cur e0,ι id=some bk/\w.heap[bk]? = some (.cells cur e0 (0,0))/\cur[ι.o id+i*jM.length+j]? = some v:=by
  simp only[TV.aO]at hv
  cases hv with
  | fm _ _ _ _ _ q1 q2=>rw[nw]at q2;cases q2
  | b _ _ _ _ _ e' sz m bP q1 q2 q3 q4 =>
   rw[nw]at q2;injection q2 with r1 r2 r3 r4;subst r2;subst r3;exact(q4 rfl).2 i j rfl
 have hx:(es.map (aU jM))[i]? = some (aU jM (gt jM es i)):=by
  rw[List.getElem?_map,List.getElem?_eq_getElem hp];simp[gt,List.getD,List.getElem?_eq_getElem hp]
 have mR:=QL3 hc;simp only[enc]at mR;obtain⟨fq,_⟩:=S.fresh σ.nx (Nat.le_refl _);obtain⟨ι',S',kH,_,_,hF,iY⟩:=S.cJ (U':=λi=>σ.nx+1<=i) (n:=σ.nx) nw hx mR (by simp) (Nat.le_refl _) (λi hi=>⟨Nat.le_of_succ_le hi,λh=>by subst h;exact absurd hi (Nat.not_succ_le_self _)⟩) di;have hh:(λx=>(dv ([(id,az.sl e jM (.dp (g+1) t [(i,j)]) es),(σ.nx,.sl 0 (t1::ts) (.dp 0 false []) l)]++σ.h) x).aA) =
   bI (bI σ.aA.h σ.nx (.sl 0 (t1::ts).length (.dp 0 false []) (l.map (aU (t1::ts))))) id (.sl e jM.length (.dp (g+1) t [(i,j)]) (es.map (aU jM))):=by
  funext x
  simp only[List.cons_append,List.nil_append,qP,bI]
  split
  ·rw[az.bH]
  ·split
   ·rw[az.bH]
   ·rfl
 rw[hh];refine⟨ι',S',?_,hF,iY,λb7 cs hb=>?_⟩
 ·simp only[TV.aO];rw[List.length_map]at kH;exact kH
 ·rw[congrFun hh b7];have h1:b7≠id:=λh=>by subst h;rw[nw]at hb;cases hb
  have h2:b7≠σ.nx:=λh=>by subst h;rw[fq]at hb;cases hb
  rw[QI _ _ _ _ h1,QI _ _ _ _ h2,hb]
theorem Sat.qU{U:Nat->Prop}{σ:St}{a:Act}{w:World}{ι:Io}(S:Sat C U σ a w ι){id:Nat}{cs cs':List AV}(a8:σ.h id = .box cs)(hl:cs'.length=cs.length)
  (hy:∀(b:Nat)(e:TypeId)(bm:Array Value)(k:Nat)(v:Value)(y:AV),ι id=some b->w.heap[b]? = some (.cells bm e (0,0))->bm[k]? = some v->cs'[k]? = some y->VR w (Fz C w ι σ.h) ι σ.h v y) :
  Sat C U ⟨σ.t,bI σ.h id (.box cs'),σ.nx⟩ a w ι:=by
 have bT:∀ i,Rest w w ι ι i:=λi=>⟨rfl,rfl,λ_ _=>rfl,λb p hk=>⟨hk,rfl⟩⟩
 have hF:∀ b,Fz C w ι σ.h b->Fz C w ι (bI σ.h id (.box cs')) b/\w.heap[b]? = w.heap[b]?:=λb ⟨h1,h2,h3,h4⟩=>⟨⟨h1,h2,λi hi=>by
  by_cases h:i=id
  ·subst h;have:=h3 i hi;rw[a8]at this
   cases this
  ·rw[QI _ _ _ _ h];exact h3 i hi,h4⟩,rfl⟩
 have hg:∀ i,cY w w ι ι σ.h (bI σ.h id (.box cs')) i:=λi=>by
  by_cases h:i=id
  ·subst h;unfold cY;right;right;rw[QM,a8];exact⟨rfl,rfl,hl,λ_ _=>rfl,λg h1=>by cases h1⟩
  ·exact(bT i).gE (QI _ _ _ _ h)
 refine S.eh S.dD hF hg (λi fW hx=>?_) (λi=>?_) S.inj (λi b hi=>?_) (λi hi=>?_) (λi b hi=>?_) (λb i p hk=>?_)
 ·by_cases h:i=id
  ·subst h;rw[QM];simp
  ·rw[QI _ _ _ _ h,hx];simp
 ·by_cases h:i=id
  ·subst h;right;rw[QM];have hb:=S.fh i;rw[a8]at hb
   cases hb with
   | box b e bm _ q1 qo q2 q3 q4 q5 =>
    exact .box b e bm _ q1 qo q2 (q3.trans hl.symm) q4 (λk v y hk u5=>(hy b e bm k v y q1 q2 hk u5).mono hF hg)
  ·exact .inl ⟨QI _ _ _ _ h,bT i⟩
 ·obtain⟨h1,h2⟩:=S.eg i b hi;refine⟨h1.imp (λx=>x) λ⟨h3,fW,h4⟩=>⟨h3,?_⟩,h2⟩;by_cases h:i=id
  ·subst h;rw[QM];exact⟨_,rfl⟩
  ·rw[QI _ _ _ _ h];exact⟨fW,h4⟩
 ·obtain⟨h1,h2⟩:=S.fresh i hi;have:i≠id:=λe=>by subst e;rw[a8]at h1;cases h1
  rw[QI _ _ _ _ this];exact⟨h1,h2⟩
 ·by_cases h:i=id
  ·subst h;rw[QM];simp
  ·rw[QI _ _ _ _ h];exact S.live i b hi
 ·have L:=S.df b i p hk;refine⟨L.pn,?_,L.fr,L.lt,L.ne⟩;obtain⟨e,sz,g,t,H,es,hd⟩:=L.dp;have:i≠id:=λe=>by subst e;rw[a8]at hd;cases hd
  rw[QI _ _ _ _ this];exact⟨e,sz,g,t,H,es,hd⟩
theorem QKN{σ:cq}{a:Act}{w:World}{s k:Nat}{r:Prop × cq}(hr:FH s k σ=some r)(hp:r.1)(S:eZ C σ.aA a w):eZ C r.2.aA a w:=by
 obtain⟨ι,S⟩:=S;unfold FH at hr
 split at hr
 ·rename_i cs hs
  split at hr <;> try cases hr
  rename_i c hk
  split at hr <;> try cases hr
  rename_i p y l hc;have hp:p:=hp;have hv:=S.bm s;have hsA:σ.aA.t s = .a (cs.map TV.aO):=by show(σ.T s).aA=_;rw[hs];rfl
  rw[hsA]at hv;generalize gO:a.tmps.getD s undef=val at hv
  cases hv with
  | a vs _ hl h1 hv =>
   have aW:k<cs.length:=(List.getElem?_eq_some_iff.1 hk).1;have FI:k<vs.size:=by rw[hl,List.length_map];exact aW
   have pX:vs[k]? = some vs[k]:=by simp[FI]
   have hb:=hv k vs[k] c.aO pX (by rw[List.getElem?_map,hk];rfl);obtain⟨ι',S',kH,hF,iY,_⟩:=R7 (U:=λ_=>True) hc hp S hb;refine⟨ι',S'.dD,λs'=>?_,S'.size,S'.defers,S'.fh,S'.inj,S'.eg,S'.fresh,S'.live,S'.b8,S'.hand,S'.df⟩;show VR _ _ _ _ _ (cG ((s,.a (cs.set k y))::σ.t) s').aA;rw[Y2];by_cases R8:s'=s
   ·subst R8;rw[QM,gO];refine .a vs _ (by simp only[List.length_map,List.length_set];simpa using hl) h1 (λk' v z ey hz=>?_);rw[List.getElem?_map,List.getElem?_set]at hz;by_cases fj:k=k'
    ·subst fj;rw[if_pos rfl,if_pos aW]at hz;rw[pX]at ey
     cases ey;cases hz;exact kH
    ·rw[if_neg fj,<- List.getElem?_map]at hz;exact(hv k' v z ey hz).mono (λb hb=>⟨hF b hb,rfl⟩) iY
   ·rw[QI _ _ _ _ R8];exact S'.bm s'
 ·rename_i j8 hs
  split at hr <;> try cases hr
  rename_i cs hb
  split at hr <;> try cases hr
  rename_i c hk
  split at hr <;> try cases hr
  rename_i p y l hc;have hp:p:=hp;have FJ:σ.aA.h j8 = .box (cs.map TV.aO):=by show(σ.H j8).aA=_;rw[hb];rfl
  have aW:k<cs.length:=(List.getElem?_eq_some_iff.1 hk).1;have hB:=S.fh j8;rw[FJ]at hB
  cases hB with
  | box b e bm _ q1 qo q2 q3 q4 q5 =>
   have FI:k<bm.size:=by rw[q3,List.length_map];exact aW
   have pX:bm[k]? = some bm[k]:=by simp[FI]
   have hbv:=q5 k bm[k] c.aO pX (by rw[List.getElem?_map,hk];rfl);obtain⟨ι',S',kH,hF,iY,FK⟩:=R7 (U:=λ_=>True) hc hp S hbv;have fw:=FK j8 _ FJ;have zX:=S'.fh j8;have zX:BR w (Fz C w ι' λx=>(dv (l++σ.h) x).aA) ι' (λx=>(dv (l++σ.h) x).aA) j8 ((dv (l++σ.h) j8).aA):=zX;rw[fw]at zX;have S2:=Sat.qU S' (id:=j8) (cs:=cs.map TV.aO) (cs':=(cs.set k y).map TV.aO) fw (by simp) (λb' e' R9 k' v z hi dX qV hz=>by
    cases zX with
    | box b2 e2 Sa _ r1 ro r2 r3 r4 r5 =>
     rw[r1]at hi;cases hi;rw[r2]at dX;cases dX;rw[List.getElem?_map,List.getElem?_set]at hz;by_cases fj:k=k'
     ·subst fj;rw[if_pos rfl,if_pos aW]at hz
      cases hz;have cQ:v=bm[k]:=by
       rcases iY j8 with g | g | ⟨g1,_,_,_,_⟩
       ·rw[FJ]at g;cases g
       ·have g:(dv (l++σ.h) j8).aA = .dead:=g;rw[fw]at g;cases g
       ·rw[r1,q1]at g1
        cases g1;rw[q2]at r2
        cases r2;rw[pX]at qV;exact(Option.some.inj qV).symm
      rw[cQ];exact kH
     ·rw[if_neg fj,<- List.getElem?_map]at hz;exact r5 k' v z qV hz)
   have FL:(λx=>(dv ((j8,az.box (cs.set k y))::(l++σ.h)) x).aA)=bI (λx=>(dv (l++σ.h) x).aA) j8 (.box ((cs.set k y).map TV.aO)):=by
    funext x
    simp only[qP,bI]
    split
    ·rfl
    ·rfl
   refine⟨ι',?_⟩;have:(cq.aA ⟨σ.t,(j8,.box (cs.set k y))::(l++σ.h),σ.nx+1⟩)=⟨σ.aA.t,bI (λx=>(dv (l++σ.h) x).aA) j8 (.box ((cs.set k y).map TV.aO)),σ.nx+1⟩:=by
    rw[<- FL];rfl
   rw[this];exact S2.nx
 ·cases hr
theorem QTS(hm:C.P.follows .mixedOrders=true)(hT:iG Γ ΓA)(hΓ:JR C.P ΓA)(hL:Kept C nl):∀(tc:af)(c:Code)(Qa:Qb)(Q:Exit->Act->World->Prop)(σ:cq)(a:Act)(w:World),comp C.P C.N c=some tc.er->
  aN Γ nl tc Qa σ->eZ C σ.aA a w->QOA C Qa Q->c.wp C.P Q a w:=by
 intro tc
 induction tc with
 | skip =>
  intro c Qa Q σ a w hc h S hQ;refine vZ hm hΓ c .skip (λe τ=>e = .normal/\τ=σ.aA) Q σ.aA a w hc ⟨rfl,rfl⟩ S ?_;rintro e τ a' w' ⟨rfl,rfl⟩ S'
  exact hQ .normal σ a' w' h S'
 | ae ss =>
  intro c Qa Q σ a w hc h S hQ;simp only[aN]at h
  split at h
  rotate_left
  ·exact h.elim
  rename_i p σ' l hr;rw[zV]at h;obtain⟨l',h1,_⟩:=wM hT ss hr h.1;have hlen:(ik none 0 ss).length=cU ss:=wU none ss 0;refine vZ hm hΓ c _ (λe τ=>e = .normal/\τ=(σ'.fT (16*cU ss)).aA) Q σ.aA a w hc ?_ S ?_
  ·show gH ΓA (ik none 0 ss) (λs=>mc.normal=mc.normal/\s.fT (16*(ik none 0 ss).length)=_) σ.aA;exact RY _ h1 ⟨rfl,by rw[hlen];rfl⟩
  ·rintro e τ a' w' ⟨rfl,rfl⟩ S'
   exact hQ .normal _ a' w' h.2 S'
 | draw ss U =>
  intro c Qa Q σ a w hc h S hQ;simp only[aN]at h
  split at h
  rotate_left
  ·exact h.elim
  rename_i p σ' l hr
  split at h
  rotate_left
  ·exact h.elim
  rename_i fk;rw[zV]at h;obtain⟨l',h1,h2⟩:=wM hT ss hr h.1;have hlen:(ik none 0 ss).length=cU ss:=wU none ss 0;refine vZ hm hΓ c _ (λe τ=>e = .normal/\τ=(σ'.fT (16*cU ss)).aA) Q σ.aA a w hc ?_ S ?_
  ·simp only[af.er,ko,h1];exact⟨QSe h2 fk,trivial,by rw[hlen];rfl⟩
  ·rintro e τ a' w' ⟨rfl,rfl⟩ S'
   exact hQ .normal _ a' w' h.2 S'
 | seq x y v3 qA =>
  intro c Qa Q σ a w hc h S hQ;simp only[af.er]at hc;obtain⟨c1,c2,rfl,h1,h2⟩:=QFL hc;simp only[aN]at h;refine wp_seq (v3 _ _ _ σ a w h1 h S ?_);intro e σ' a' w' he S'
  cases e with
  | normal=>exact qA _ _ _ σ' a' w' h2 he S' hQ
  | exit id=>exact hQ _ _ _ _ he S'
  | ret=>exact hQ _ _ _ _ he S'
 | cond b x y v3 qA =>
  intro c Qa Q σ a w hc h S hQ;simp only[af.er]at hc;obtain⟨b0,c1,c2,rfl,h0,h1,h2⟩:=QFE hc;simp only[aN]at h
  split at h
  rotate_left
  ·exact h.elim
  rename_i t ht;obtain⟨ι,S0⟩:=S;exact wp_cond_split (QUa S0 h0 ht) (λe=>v3 _ _ _ σ a w h1 (h.1 e) ⟨ι,S0⟩ hQ) (λe=>qA _ _ _ σ a w h2 (h.2 e) ⟨ι,S0⟩ hQ)
 | block id x ih =>
  intro c Qa Q σ a w hc h S hQ;simp only[af.er]at hc;obtain⟨c1,rfl,h1⟩:=QIh hc;simp only[aN]at h;refine wp_block (ih _ _ _ σ a w h1 h S ?_);intro e σ' a' w' he S'
  cases e with
  | normal=>exact hQ _ _ _ _ he S'
  | ret=>exact hQ _ _ _ _ he S'
  | exit b7 =>
   simp only[a7]at he;show Exit.inBlock id Q (.exit b7) a' w';simp only[Exit.inBlock]
   split
   ·rename_i heq;subst heq;rw[show Nat.beq b7 b7=true by simp]at he;exact hQ .normal _ _ _ he S'
   ·rename_i heq;rw[Fv heq]at he;exact hQ (.exit b7) _ _ _ he S'
 | loop L x ih =>
  intro c Qa Q σ a w hc h S hQ;simp only[af.er]at hc;obtain⟨c1,rfl,h1⟩:=QNl hc;simp only[aN]at h;have key:=h (λs=>∀ a w,eZ C s.aA a w->∀(b:Frame)(k:List Item)(cs:List Frame),∃ e a' w',Q e a' w'/\Arrives C.P (lone (b.at a (.code c1::.inLoop c1::k)) cs w) b k cs e a' w') ?_
  ·intro b k cs;obtain⟨e,a',w',hq,je⟩:=key a w (zW hL S) b k cs;exact⟨e,a',w',hq,.of_steps (.one step_loop) je⟩
  ·intro s hs a w S b k cs;have hb:=ih c1 _ (Exit.then (λa w=>∀(b:Frame)(k:List Item)(cs:List Frame),∃ e a' w',Q e a' w'/\Arrives C.P (lone (b.at a (.code c1::.inLoop c1::k)) cs w) b k cs e a' w') Q) s a w h1 hs S ?_
   ·obtain⟨e,a₁,w₁,hq,je⟩:=hb b (.inLoop c1::k) cs
    cases e with
    | normal =>
     obtain⟨e₂,a₂,w₂,hq₂,harr₂⟩:=hq b k cs;exact⟨e₂,a₂,w₂,hq₂,.of_steps (Steps.trans je (.one step_inLoop)) harr₂⟩
    | exit id=>exact⟨_,a₁,w₁,hq,.pass (x:=.inLoop c1) rfl (λ_ _=>.inl (by simp)) je⟩
    | goto l=>exact⟨_,a₁,w₁,hq,.pass (x:=.inLoop c1) rfl (λ_ _=>.inl (by simp)) je⟩
    | ret=>exact⟨_,a₁,w₁,hq,.pass (x:=.inLoop c1) rfl (λ_ _=>.inl (by simp)) je⟩
    | panic ch=>exact⟨_,a₁,w₁,hq,.pass (x:=.inLoop c1) rfl (λ_ _=>.inl (by simp)) je⟩
    | outgrown=>exact⟨_,a₁,w₁,hq,.pass (x:=.inLoop c1) rfl (λ_ _=>.inl (by simp)) je⟩
   ·intro e σ' a' w' he S'
    cases e with
    | normal=>exact he a' w' (zW hL S')
    | exit id=>exact hQ _ _ _ _ he S'
    | ret=>exact hQ _ _ _ _ he S'
 | exit id =>
  intro c Qa Q σ a w hc h S hQ;refine vZ hm hΓ c (.exit id) (λe τ=>e = .exit id/\τ=σ.aA) Q σ.aA a w hc ⟨rfl,rfl⟩ S ?_;rintro e τ a' w' ⟨rfl,rfl⟩ S'
  exact hQ (.exit id) σ a' w' h S'
 | ret =>
  intro c Qa Q σ a w hc h S hQ;refine vZ hm hΓ c .ret (λe τ=>e = .ret/\τ=σ.aA) Q σ.aA a w hc ⟨rfl,rfl⟩ S ?_;rintro e τ a' w' ⟨rfl,rfl⟩ S'
  exact hQ .ret σ a' w' h S'
 | wk L x ih =>
  intro c Qa Q σ a w hc h S hQ;exact ih c Qa Q _ a w hc h (zW hL S) hQ
 | cv s k x ih =>
  intro c Qa Q σ a w hc h S hQ;simp only[aN]at h
  split at h
  ·rename_i r hr;exact ih c Qa Q _ a w hc h.2 (QKN hr h.1 S) hQ
  ·exact h.elim
end
end Go.Proofs.YtdplaepmjogjjaaGreat.Am
namespace Go.Proofs.YtdplaepmjogjjaaGreat.Am
open Go Go.RowKit
mutual
theorem zY:∀(t:CT)(x y:t.den),enc t x=enc t y->x=y
 | .int k,x,y,h=>by injection h with h;injection h
 | .bool,x,y,h=>by injection h with h;injection h
 | .str,x,y,h=>by injection h with h;injection h
 | .dF,x,y,h=>rfl
 | .sl ts,x,y,h=>by
  rw[enc,enc]at h
  injection h with _ h
  exact wV (λa b=>wW ts a b) x y h
theorem wW:∀(ts:List CT)(x y:aT ts),aU ts x=aU ts y->x=y
 | [],x,y,_=>rfl
 | t::ts,x,y,h=>by
  rw[aU,aU]at h
  injection h with h1 h2
  have h1:=zY t _ _ h1
  have h2:=wW ts _ _ h2
  cases ts with
  | nil=>exact h1
  | cons u us=>exact Prod.ext h1 h2
theorem wV{α β:Type}{f:α->β}(hf:∀ a b,f a=f b->a=b):∀(x y:List α),x.map f=y.map f->x=y
 | [],[],_=>rfl
 | a::x,b::y,h=>by
  rw[List.map_cons,List.map_cons]at h
  injection h with h1 h2
  rw[hf a b h1,wV hf x y h2]
 | [],b::y,h=>by simp at h
 | a::x,[],h=>by simp at h
end
theorem FM:∀ {ts:List CT} {xs ys:List TV},oI xs=some ts->oI ys=some ts->xs.map TV.aO=ys.map TV.aO->xs=ys
 | ts,[],ys,h1,h2,h=>by
  cases ys with
  | nil=>rfl
  | cons y ys=>simp at h
 | ts,x::xs,ys,h1,h2,h=>by
  cases ys with
  | nil=>simp at h
  | cons y ys =>
   cases x with
   | c t x =>
    cases y with
    | c t' y =>
     simp only[oI]at h1 h2
     split at h1
     rotate_left
     ·cases h1
     rename_i t1 e1
     split at h2
     rotate_left
     ·cases h2
     rename_i t2 e2
     cases h1
     cases h2;rw[List.map_cons,List.map_cons]at h;injection h with h3 h4;rw[FM e1 e2 h4];simp only[TV.aO]at h3;injection h3 with h3;rw[zY t x y h3]
    | _=>simp[oI]at h2
   | _=>simp[oI]at h1
theorem zZ{m:Mo}(h:kC m=true):m=dw:=by
 unfold kC at h
 split at h
 ·rfl
 ·cases h
theorem Sb{e:TypeId}{ts:List CT}{x:TV}(hx:(Sh.o e ts).fits x=true):∃ es,x = .ow e ts .ow es:=by
 cases x with
 | ow e' b4 m es =>
  cases m with
  | ow =>
   simp only[Sh.fits,Bool.and_eq_true]at hx;obtain rfl:=Nat.eq_of_beq_eq_true hx.1;obtain rfl:=CT.bS _ _ hx.2;exact⟨es,rfl⟩
  | _=>simp[Sh.fits]at hx
 | _=>simp[Sh.fits]at hx
theorem Sc{ts:List CT}{x:TV}(hx:(Sh.d ts).fits x=true):∃ es,x = .ow 0 ts dw es:=by
 cases x with
 | ow e' b4 m es =>
  simp only[Sh.fits,Bool.and_eq_true]at hx;obtain rfl:=Nat.eq_of_beq_eq_true hx.1.1;obtain rfl:=CT.bS _ _ hx.1.2;obtain rfl:=zZ hx.2;exact⟨es,rfl⟩
 | _=>simp[Sh.fits]at hx
theorem Sd{t:CT}{ts:List CT}{x:TV}{xs:List TV}(h:JD (t::ts) (x::xs)=true):((∃ d,x = .c t d)\/∃ us es,t = .sl us/\x = .ow 0 us dw es)/\JD ts xs=true:=by
 simp only[JD,Bool.and_eq_true]at h;refine⟨?_,h.2⟩;have h:=h.1
 cases x with
 | c t' d =>
  simp only[Bool.and_eq_true]at h;obtain rfl:=CT.beq_eq _ _ h.1;exact .inl ⟨d,rfl⟩
 | ow e' us m es =>
  simp only[Bool.and_eq_true]at h;obtain rfl:=Nat.eq_of_beq_eq_true h.1.1;have:=CT.beq_eq _ _ h.1.2;obtain rfl:=zZ h.2;exact .inr ⟨us,es,this.symm,rfl⟩
 | _=>cases h
theorem Se:∀ {ts:List CT} {xs ys:List TV},JD ts xs=true->JD ts ys=true->xs.map TV.aO=ys.map TV.aO->xs=ys
 | [],[],[],_,_,_=>rfl
 | [],_::_,_,h,_,_=>by simp[JD]at h
 | [],[],_::_,_,h,_=>by simp[JD]at h
 | _::_,[],_,h,_,_=>by simp[JD]at h
 | _::_,_::_,[],_,h,_=>by simp[JD]at h
 | t::ts,x::xs,y::ys,h1,h2,h=>by
  obtain⟨a1,b1⟩:=Sd h1;obtain⟨a2,b2⟩:=Sd h2;rw[List.map_cons,List.map_cons]at h;injection h with h3 h4;rw[Se b1 b2 h4];congr 1
  rcases a1 with⟨d,rfl⟩ | ⟨us,es,rfl,rfl⟩
  ·rcases a2 with⟨d',rfl⟩ | ⟨us,es,rfl,rfl⟩
   ·simp only[TV.aO]at h3;injection h3 with h3;rw[zY t d d' h3]
   ·cases h3
  ·rcases a2 with⟨d',rfl⟩ | ⟨us',bP,q,rfl⟩
   ·cases h3
   ·injection q with q;subst q;simp only[TV.aO]at h3;injection h3 with _ _ _ h3;rw[wV (λa b=>wW us a b) _ _ h3]
theorem QT4{s:Sh}{x y:TV}(hx:s.fits x=true)(hy:s.fits y=true)(h:x.aA=y.aA):x=y:=by
 cases s with
 | c t =>
  cases x with
  | c t1 x =>
   cases y with
   | c t2 y =>
    simp only[Sh.fits]at hx hy;have h1:=CT.beq_eq _ _ hx;have h2:=CT.beq_eq _ _ hy;subst h1;subst h2;simp only[TV.aA,TV.ck,TV.aO]at h;injection h with h;rw[zY _ x y h]
   | _=>simp[Sh.fits]at hy
  | _=>simp[Sh.fits]at hx
 | o e ts =>
  obtain⟨xs,rfl⟩:=Sb hx;obtain⟨ys,rfl⟩:=Sb hy;simp only[TV.aA,TV.ck,TV.aO]at h;injection h with _ _ _ h;rw[wV (λa b=>wW ts a b) _ _ h]
 | d ts =>
  obtain⟨xs,rfl⟩:=Sc hx;obtain⟨ys,rfl⟩:=Sc hy;simp only[TV.aA,TV.ck,TV.aO]at h;injection h with _ _ _ h;rw[wV (λa b=>wW ts a b) _ _ h]
 | s ts =>
  cases x with
  | a xs =>
   cases y with
   | a ys =>
    simp only[Sh.fits]at hx hy;simp only[TV.aA,TV.ck]at h;injection h with h;rw[Se hx hy h]
   | _=>simp[Sh.fits]at hy
  | _=>simp[Sh.fits]at hx
 | a ts =>
  cases x with
  | a xs =>
   cases y with
   | a ys =>
    simp only[Sh.fits]at hx hy
    split at hx
    rotate_left
    ·cases hx
    rename_i t1 e1
    split at hy
    rotate_left
    ·cases hy
    rename_i t2 e2;have h1:=CT.bS _ _ hx;have h2:=CT.bS _ _ hy;subst h1;subst h2;simp only[TV.aA,TV.ck]at h;injection h with h;rw[FM e1 e2 h]
   | _=>simp[Sh.fits]at hy
  | _=>simp[Sh.fits]at hx
 | b ts =>
  cases x with
  | bx xs =>
   cases y with
   | bx ys =>
    simp only[Sh.fits]at hx hy
    split at hx
    rotate_left
    ·cases hx
    rename_i t1 e1
    split at hy
    rotate_left
    ·cases hy
    rename_i t2 e2;have h1:=CT.bS _ _ hx;have h2:=CT.bS _ _ hy;subst h1;subst h2;simp only[TV.aA]at h;injection h with h;rw[FM e1 e2 h]
   | _=>simp[Sh.fits]at hy
  | _=>simp[Sh.fits]at hx
theorem Sf:∀ {ss:List Sh} {xs ys:List TV},ZW ss xs=true->ZW ss ys=true->xs.map TV.aA=ys.map TV.aA->xs=ys
 | [],[],[],_,_,_=>rfl
 | [],_::_,_,h,_,_=>by simp[ZW]at h
 | [],[],_::_,_,h,_=>by simp[ZW]at h
 | _::_,[],_,h,_,_=>by simp[ZW]at h
 | _::_,_::_,[],_,h,_=>by simp[ZW]at h
 | s::ss,x::xs,y::ys,h1,h2,h=>by
  simp only[ZW,Bool.and_eq_true]at h1 h2;rw[List.map_cons,List.map_cons]at h;injection h with h3 h4;rw[QT4 h1.1 h2.1 h3,Sf h1.2 h2.2 h4]
def aK(P:Program)(f:FuncId)(xs:List TV)(r:aB):Prop:=qg P f (xs.map TV.aA) r.aA
def Qf(P:Program)(row:aJ):Prop:=∀ vs pre r,ZW row.sg vs=true->row.fn vs=some (pre,r)->holds pre->aK P row.f vs r
def gR(P:Program)(Γ:List aJ):Prop:=∀ row,row∈Γ->Qf P row
def wX(P:Program)(Γ:aF):Prop:=gR P Γ.rows
theorem gR.nil{P:Program}:gR P []:=λ_ h=>by cases h
theorem gR.cons{P:Program}{row:aJ}{Γ:List aJ}(h:Qf P row)(hs:gR P Γ):gR P (row::Γ):=λr hr=>by
 rcases List.mem_cons.1 hr with rfl | hr
 ·exact h
 ·exact hs r hr
theorem Sg:∀ {Γ:List aJ} {f:FuncId} {row:aJ},Jl Γ f=some row->row∈Γ/\row.f=f
 | [],f,row,h=>by simp[Jl]at h
 | r::rs,f,row,h=>by
  simp only[Jl]at h
  cases hb:Nat.beq r.f f with
  | true =>
   rw[hb]at h;simp only[cond_true,Option.some.injEq]at h;subst h;exact⟨List.mem_cons_self,Nat.eq_of_beq_eq_true hb⟩
  | false =>
   rw[hb]at h;have:=Sg (Γ:=rs) h;exact⟨List.mem_cons_of_mem _ this.1,this.2⟩
open Classical in
noncomputable def jf(Γ:aF):ez:=⟨λf=>match Jl Γ.rows f with | some row=>gq row.sg | none=>[],λf args =>
 if h:∃ r:aB,∃ row vs pre,Jl Γ.rows f=some row/\ZW row.sg vs=true/\row.fn vs=some (pre,r)/\holds pre/\vs.map TV.aA=args then some h.choose.aA else none,Γ.dp⟩
theorem QMO(Γ:aF):iG Γ (jf Γ):=by
 refine⟨λf row h=>by simp only[jf,h],?_,rfl⟩;intro f row vs pre r h1 h2 h3 h4;have hex:∃ r:aB,∃ row tk pre,Jl Γ.rows f=some row/\ZW row.sg tk=true/\row.fn tk=some (pre,r)/\holds pre/\tk.map TV.aA=vs.map TV.aA:=⟨r,row,vs,pre,h1,h2,h3,h4,rfl⟩
 simp only[jf];rw[dif_pos hex];obtain⟨aki,tk,akj,g1,g2,g3,g4,g5⟩:=hex.choose_spec;rw[h1]at g1
 cases g1;have:=Sf g2 h2 g5;subst this;rw[h3]at g3;injection g3 with g3;injection g3 with _ g3;rw[<- g3]
theorem QJ7{P:Program}{Γ:aF}(h:wX P Γ):JR P (jf Γ):=by
 intro f args r hr;simp only[jf]at hr
 split at hr
 rotate_left
 ·cases hr
 rename_i hex
 cases hr;obtain⟨row,vs,pre,g1,g2,g3,g4,g5⟩:=hex.choose_spec;obtain⟨m1,m2⟩:=Sg g1;have:=h row m1 vs pre _ g2 g3 g4;unfold aK at this;rw[m2,g5]at this;exact this
def qW:List TV->Nat->List TV
 | [],_=>[]
 | .ow _ ts _ es::r,m=>.r ts m 0 es.length::qW r (m+1)
 | x::r,m=>x::qW r m
def tG:List TV->Nat->List (Nat × az)
 | [],_=>[]
 | .ow e ts m es::r,k=>(k,.sl e ts m es)::tG r (k+1)
 | _::r,k=>tG r k
def jg:List TV->Nat
 | []=>0
 | .ow _ _ _ _::r=>jg r+1
 | _::r=>jg r
def ny:List TV->Nat->Nat->Nat->List (Nat × TV)
 | [],_,_,_=>[]
 | .bx _::r,s,k,m=>(s,.p k 0 0)::ny r (s+1) (k+1) m
 | .ow _ ts _ es::r,s,k,m=>(s,.r ts m 0 es.length)::ny r (s+1) k (m+1)
 | .a cs::r,s,k,m=>(s,.a (qW cs m))::ny r (s+1) k (m+jg cs)
 | x::r,s,k,m=>(s,x)::ny r (s+1) k m
def qX:List TV->Nat->List (Nat × az)
 | [],_=>[]
 | .bx cs::r,k=>(k,.box cs)::qX r (k+1)
 | _::r,k=>qX r k
def nz:List TV->Nat->List (Nat × az)
 | [],_=>[]
 | .ow e ts m es::r,k=>(k,.sl e ts m es)::nz r (k+1)
 | .a cs::r,k=>tG cs k++nz r (k+jg cs)
 | _::r,k=>nz r k
def d9:List TV->Nat
 | []=>0
 | .bx _::r=>d9 r+1
 | _::r=>d9 r
def eE:List TV->Nat
 | []=>0
 | .ow _ _ _ _::r=>eE r+1
 | .a cs::r=>eE r+jg cs
 | _::r=>eE r
def qY(xs:List TV):cq:=⟨ny xs 0 0 (d9 xs),qX xs 0++nz xs (d9 xs),d9 xs+eE xs⟩
theorem wY:∀(cs:List TV),jg cs=(Z1 (cs.map TV.aO)).length
 | []=>rfl
 | x::cs=>by cases x <;> simp only[jg,List.map_cons,TV.aO,Z1,List.length_cons,wY cs]
theorem FN:∀(cs:List TV)(m:Nat),(qW cs m).map TV.aO=fH (cs.map TV.aO) m
 | [],_=>rfl
 | x::cs,m=>by
  cases x with
  | ow e ts mm es=>simp only[qW,List.map_cons,TV.aO,fH,List.length_map,FN cs]
  | _=>simp only[qW,List.map_cons,TV.aO,fH,FN cs]
theorem FO:∀(cs:List TV)(B:List (Nat × az))(k j:Nat),(dv (tG cs k++B) j).aA=if k<=j then(match(Z1 (cs.map TV.aO))[j-k]? with | some b=>b | none=>(dv B j).aA) else(dv B j).aA
 | [],B,k,j=>by simp[tG,Z1]
 | x::cs,B,k,j=>by
  cases x with
  | ow e ts m es =>
   simp only[tG,List.cons_append,qP,bI,List.map_cons,TV.aO,Z1];by_cases h:j=k
   ·subst h;simp[az.aA]
   ·rw[if_neg h,FO cs B (k+1) j];by_cases h2:k<=j
    ·rw[if_pos h2,if_pos (by omega),show j-k=(j-(k+1))+1 by omega];simp
    ·rw[if_neg h2,if_neg (by omega)]
  | _=>exact FO cs B k j
def TV.ng:TV->Bool
 | .g _ _=>false
 | _=>true
theorem Si:∀(xs:List TV)(s k m j:Nat),xs.all TV.ng=true->(cG (ny xs s k m) j).aA=if s<=j then((dI (xs.map TV.aA) k m)[j-s]?).getD .u else .u
 | [],s,k,m,j,_=>by simp[ny,cG,dI,TV.aA,TV.ck,TV.aO]
 | x::xs,s,k,m,j,cH=>by
  rw[List.all_cons,Bool.and_eq_true]at cH;have key:∀(y:TV)(k' m':Nat)(z:AV),y.aA=z->(cG ((s,y)::ny xs (s+1) k' m') j).aA=if s<=j then((z::dI (xs.map TV.aA) k' m')[j-s]?).getD .u else .u:=by
   intro y k' m' z hz;rw[Y2,bI];by_cases h:j=s
   ·subst h;simp[hz]
   ·rw[if_neg h,Si xs (s+1) k' m' j cH.2];by_cases h2:s<=j
    ·rw[if_pos h2,if_pos (by omega),show j-s=(j-(s+1))+1 by omega];simp
    ·rw[if_neg h2,if_neg (by omega)]
  cases x with
  | bx cs=>exact key (.p k 0 0) (k+1) m (.p k 0 0) rfl
  | ow e ts mm es =>
   have:=key (.r ts m 0 es.length) k (m+1) (.r ts.length m 0 (es.map (aU ts)).length) (by simp[TV.aA,TV.ck,TV.aO]);exact this
  | a cs =>
   have:=key (.a (qW cs m)) k (m+jg cs) (.a (fH (cs.map TV.aO) m)) (by simp only[TV.aA,TV.ck,FN]);rw[wY]at this;simp only[ny,wY];exact this
  | g b v=>exact absurd cH.1 (by simp[TV.ng])
  | _=>exact key _ k m _ rfl
theorem FP:∀(xs:List TV)(B:List (Nat × az))(k j:Nat),xs.all TV.ng=true->(dv (qX xs k++B) j).aA=if k<=j then(match(cK (xs.map TV.aA))[j-k]? with | some cs=>.box cs | none=>(dv B j).aA) else(dv B j).aA
 | [],B,k,j,_=>by simp[qX,cK]
 | x::xs,B,k,j,cH=>by
  rw[List.all_cons,Bool.and_eq_true]at cH
  cases x with
  | bx cs =>
   simp only[qX,List.cons_append,qP,bI,List.map_cons,cK,TV.aA];by_cases h:j=k
   ·subst h;simp[az.aA]
   ·rw[if_neg h,FP xs B (k+1) j cH.2];by_cases h2:k<=j
    ·rw[if_pos h2,if_pos (by omega),show j-k=(j-(k+1))+1 by omega];simp
    ·rw[if_neg h2,if_neg (by omega)]
  | g b v=>exact absurd cH.1 (by simp[TV.ng])
  | _=>exact FP xs B k j cH.2
theorem Aa:∀(xs:List TV)(k j:Nat),xs.all TV.ng=true->(dv (nz xs k) j).aA=if k<=j then((dB (xs.map TV.aA))[j-k]?).getD .none else .none
 | [],k,j,_=>by simp[nz,dv,dB,az.aA]
 | x::xs,k,j,cH=>by
  rw[List.all_cons,Bool.and_eq_true]at cH
  cases x with
  | ow e ts m es =>
   simp only[nz,qP,bI,List.map_cons,dB,TV.aA,TV.ck,TV.aO];by_cases h:j=k
   ·subst h;simp[az.aA]
   ·rw[if_neg h,Aa xs (k+1) j cH.2];by_cases h2:k<=j
    ·rw[if_pos h2,if_pos (by omega),show j-k=(j-(k+1))+1 by omega];simp
    ·rw[if_neg h2,if_neg (by omega)]
  | a cs =>
   simp only[nz,List.map_cons,dB,TV.aA,TV.ck];rw[FO,Aa xs _ j cH.2,wY];by_cases h2:k<=j
   ·rw[if_pos h2,if_pos h2,List.getElem?_append];by_cases h3:j-k<(Z1 (cs.map TV.aO)).length
    ·rw[if_pos h3,List.getElem?_eq_getElem h3];rfl
    ·rw[if_neg h3,List.getElem?_eq_none (by omega),if_pos (by omega),show j-(k+(Z1 (cs.map TV.aO)).length)=j-k-(Z1 (cs.map TV.aO)).length by omega]
   ·rw[if_neg h2,if_neg h2,if_neg (by omega)]
  | g b v=>exact absurd cH.1 (by simp[TV.ng])
  | _=>exact Aa xs k j cH.2
theorem wZ:∀(xs:List TV),xs.all TV.ng=true->eE xs=(dB (xs.map TV.aA)).length
 | [],_=>rfl
 | x::xs,cH=>by
  rw[List.all_cons,Bool.and_eq_true]at cH
  cases x with
  | ow e ts m es=>simp only[eE,List.map_cons,TV.aA,TV.ck,TV.aO,dB,List.length_cons,wZ xs cH.2]
  | a cs=>simp only[eE,List.map_cons,TV.aA,TV.ck,dB,List.length_append,wZ xs cH.2,wY];omega
  | g b v=>exact absurd cH.1 (by simp[TV.ng])
  | _=>exact wZ xs cH.2
theorem Ab:∀(xs:List TV),xs.all TV.ng=true->d9 xs=(cK (xs.map TV.aA)).length
 | [],_=>rfl
 | x::xs,cH=>by
  rw[List.all_cons,Bool.and_eq_true]at cH
  cases x with
  | bx cs=>simp only[d9,List.map_cons,TV.aA,cK,List.length_cons,Ab xs cH.2]
  | g b v=>exact absurd cH.1 (by simp[TV.ng])
  | _=>exact Ab xs cH.2
theorem QTg(xs:List TV)(cH:xs.all TV.ng=true):(qY xs).aA=Jk (xs.map TV.aA):=by
 have hB:=Ab xs cH;have hG:=wZ xs cH;unfold qY cq.aA Jk cq.T cq.H;congr 1
 ·funext s
  rw[Si xs 0 0 _ s cH,hB];simp
 ·funext i
  show(dv (qX xs 0++nz xs (d9 xs)) i).aA=_;rw[FP xs _ 0 i cH,Aa xs _ i cH,hB];simp only[Nat.zero_le,if_true,Nat.sub_zero]
  cases hx:(cK (xs.map TV.aA))[i]? with
  | some cs=>rfl
  | none =>
   have:(cK (xs.map TV.aA)).length<=i:=by rw[List.getElem?_eq_none_iff]at hx;exact hx
   rw[if_pos this]
 ·rw[hB,hG]
def bn.slot:bn->Nat
 | .t s=>s
 | .l s _ _=>s
def nA(σ:cq):bn->Option TV
 | .t s=>some (σ.T s)
 | .l s n agg=>match Zl ⟨[],false⟩ σ.T σ.H 0 (.load (.s s) n agg) with
  | some ⟨none,v,_⟩=>some v
  | _=>none
def w1(σ:cq):List bn->Option (List TV)
 | []=>some []
 | x::xs=>match nA σ x,w1 σ xs with
  | some y,some ys=>some (y::ys)
  | _,_=>none
def nB:List TV->TV
 | [x]=>x
 | xs=>.tp xs
def TV.eU(ids:List Nat):TV->TV
 | .r ts id off len=>bif ids.elem id then .r ts (ids.idxOf id) off len else .u
 | .p id i j=>bif ids.elem id then .p (ids.idxOf id) i j else .u
 | .c t x=>.c t x
 | .n ts=>.n ts
 | .q ts x j=>.q ts x j
 | _=>.u
def TV.i7(ids:List Nat):TV->TV
 | .a cs=>.a (cs.map (TV.eU ids))
 | x=>x.eU ids
def TV.rn(ids:List Nat):TV->TV
 | .tp vs=>.tp (vs.map (TV.i7 ids))
 | x=>x.i7 ids
def az.rn(ids:List Nat):az->az
 | .box cs=>.box (cs.map (TV.eU ids))
 | x=>x
def qZ:TV->Bool
 | .c _ _=>true
 | _=>false
def w3(h:Nat->az):Nat->Nat->Option (List (List TV))
 | 0,_=>some []
 | n+1,k=>match h k,w3 h n (k+1) with
  | .box cs,some cC=>bif cs.all qZ then some (cs::cC) else none
  | _,_=>none
def TV.dx:TV->Bool
 | .c t _=>t.flat
 | .n _=>true
 | .r ..=>true
 | .p ..=>true
 | .u=>true
 | _=>false
def TV.d5:TV->Bool
 | .a cs=>cs.all TV.dx
 | x=>x.dx
def TV.free:TV->Bool
 | .tp vs=>vs.all TV.d5
 | x=>x.d5
def az.free:az->Bool
 | .none=>true
 | .dead=>true
 | .box cs=>cs.all TV.dx
 | .sl _ ts m _=>(match m with | .dp _ _ _=>true | _=>ts.all CT.flat)
def tH:List Nat->List Nat->List Nat
 | [],acc=>acc
 | x::xs,acc=>bif acc.elem x then tH xs acc else tH xs (acc++[x])
def w4(h:Nat->az):Nat->Nat->Option (List az)
 | 0,_=>some []
 | n+1,k=>match h k,w4 h n (k+1) with
  | .sl e ts m es,some cC=>some (.sl e ts m es::cC)
  | .dead,some cC=>some (.dead::cC)
  | _,_=>none
def FQ(nb no:Nat)(rs:List (bn × Md))(σ0:cq):Option aB :=
 let σ:=gc (nb+no) (rs.map λx=>(x.1.slot,x.2)) σ0
 match w1 σ (rs.map Prod.fst) with
 | some vs=>bif vs.all TV.st then(match w3 σ.H nb 0,w4 σ.H no nb with
  | some cC,some gs =>
   let ids:=tH (vs.flatMap λv=>v.refs++v.b8) []
   let v:=(nB vs).rn ids
   let hb:=ids.map λid=>(σ.H id).rn ids
   bif oL ids&&ids.all (Nat.ble (nb+no) ·) then some ⟨v,hb,cC,!(v.free&&cC.isEmpty&&hb.all az.free&&gs.isEmpty),gs⟩ else none
  | _,_=>none) else none
 | none=>none
def TQ(nb no:Nat)(rs:List (bn × Md))(K:aB->Prop):Qb:=λe σ=>match e with
 | .exit _=>False
 | _=>match FQ nb no rs σ with
  | some r=>K r
  | none=>False
theorem QIZ{σ:cq}{y:bn}{v:TV}(h:nA σ y=some v):y.get σ.aA=some v.aA:=by
 cases y with
 | t s=>simp only[nA,Option.some.injEq]at h;subst h;rfl
 | l s n agg =>
  simp only[nA]at h
  split at h
  rotate_left
  ·cases h
  rename_i v' bl he
  cases h;have:=RK (ΓA:=zw) he trivial;have this:Qu zw (aX.ev λs=>(σ.T s).aA) (λi=>(σ.H i).aA) 0 (.load (.s s) n agg)=some (TE.aA ⟨none,v,bl⟩):=this;show(match Qu zw (aX.ev λs=>(σ.T s).aA) (λi=>(σ.H i).aA) 0 (.load (.s s) n agg) with | some e=>some e.val | none=>none)=_;rw[this];rfl
theorem Sj{σ:cq}:∀ {ys:List bn} {vs:List TV},w1 σ ys=some vs->qB σ.aA ys=some (vs.map TV.aA)
 | [],vs,h=>by simp only[w1,Option.some.injEq]at h;subst h;rfl
 | y::ys,vs,h=>by
  simp only[w1]at h
  split at h
  rotate_left
  ·cases h
  rename_i a b ha hb
  cases h;simp only[qB,QIZ ha,Sj hb,List.map_cons]
theorem QHA{vs:List TV}(h:vs.all TV.st=true):P6 (vs.map TV.aA)=(nB vs).aA:=by
 match vs,h with
 | [],_=>rfl
 | [x],_=>rfl
 | x::y::vs,h =>
  show AV.t ((x::y::vs).map TV.aA)=AV.t ((x::y::vs).map TV.ck);congr 1
  exact List.map_congr_left λa ha=>(RI (List.all_eq_true.1 h a ha)).symm
theorem q9(ids:List Nat)(x:TV):(x.eU ids).aO=x.aO.eU ids:=by
 cases x with
 | r ts id off len =>
  simp only[TV.eU,TV.aO,AV.eU];by_cases h:id∈ids
  ·rw[if_pos h,show ids.elem id=true by simpa using h];rfl
  ·rw[if_neg h,show ids.elem id=false by simpa using h];rfl
 | p id i j =>
  simp only[TV.eU,TV.aO,AV.eU];by_cases h:id∈ids
  ·rw[if_pos h,show ids.elem id=true by simpa using h];rfl
  ·rw[if_neg h,show ids.elem id=false by simpa using h];rfl
 | _=>rfl
theorem Sk(ids:List Nat)(x:TV):(x.eU ids).aA=(x.eU ids).aO:=by
 cases x with
 | r ts id off len=>simp only[TV.eU];cases ids.elem id <;> rfl
 | p id i j=>simp only[TV.eU];cases ids.elem id <;> rfl
 | _=>rfl
theorem QNA(ids:List Nat)(x:TV):(x.i7 ids).ck=x.ck.i7 ids:=by
 cases x with
 | a cs=>simp only[TV.i7,TV.ck,AV.i7,List.map_map];congr 2;funext y;exact q9 ids y
 | r ts id off len =>
  have:=q9 ids (.r ts id off len);simp only[TV.i7]
  cases hx:(TV.r ts id off len).eU ids <;> (simp only[TV.eU]at hx;cases hb:ids.elem id <;> rw[hb]at hx <;> first | cases hx | skip) <;> (rw[show TV.eU ids (.r ts id off len)=_ from by simp only[TV.eU,hb];rfl]at this;first | exact this | skip)
 | p id i j =>
  have:=q9 ids (.p id i j);simp only[TV.i7]
  cases hx:(TV.p id i j).eU ids <;> (simp only[TV.eU]at hx;cases hb:ids.elem id <;> rw[hb]at hx <;> first | cases hx | skip) <;> (rw[show TV.eU ids (.p id i j)=_ from by simp only[TV.eU,hb];rfl]at this;first | exact this | skip)
 | _=>rfl
theorem QVN(ids:List Nat):∀(x:TV),x.st=true\/(∃ vs,x = .tp vs)->(x.rn ids).aA=x.aA.rn ids
 | .tp vs,_=>by simp only[TV.rn,TV.aA,AV.rn,List.map_map];congr 2;funext y;exact QNA ids y
 | .a cs,_=>by simp only[TV.rn,TV.i7,TV.aA,TV.ck,AV.rn,AV.i7,List.map_map];congr 2;funext y;exact q9 ids y
 | .c t x,_=>rfl
 | .n ts,_=>rfl
 | .r ts id off len,_=>(Sk ids (.r ts id off len)).trans (q9 ids (.r ts id off len))
 | .p id i j,_=>(Sk ids (.p id i j)).trans (q9 ids (.p id i j))
 | .q ts x j,_=>rfl
 | .bs ..,_=>rfl
 | .bq ..,_=>rfl
 | .u,h=>by rcases h with h | ⟨vs,h⟩ <;> cases h
 | .bx cs,h=>by rcases h with h | ⟨vs,h⟩ <;> cases h
 | .g b v,h=>by rcases h with h | ⟨vs,h⟩ <;> cases h
theorem QKR(ids:List Nat)(x:az):(x.rn ids).aA=x.aA.rn ids:=by
 cases x with
 | box cs=>simp only[az.rn,az.aA,aQ.rn,List.map_map];congr 2;funext y;exact q9 ids y
 | _=>rfl
theorem QGy{cs:List TV}(h:cs.all qZ=true):(cs.map TV.aO).all mo=true:=by
 rw[List.all_eq_true]at h ⊢;intro x hx;obtain⟨y,hy,rfl⟩:=List.mem_map.1 hx;have:=h y hy
 cases y <;> first | rfl | simp[qZ]at this
theorem Sl{h:Nat->az}:∀ {n k:Nat} {cC:List (List TV)},w3 h n k=some cC->oE (λi=>(h i).aA) n k=some (cC.map (·.map TV.aO))
 | 0,k,cC,e=>by simp only[w3,Option.some.injEq]at e;subst e;rfl
 | n+1,k,cC,e=>by
  simp only[w3]at e
  split at e
  rotate_left
  ·cases e
  rename_i cs lO h1 h2;obtain⟨q,e⟩:=QX e
  cases e;have ih:=Sl h2;have hk:(λi=>(h i).aA) k = .box (cs.map TV.aO):=by simp only[h1];rfl
  generalize(λi=>(h i).aA)=hA at ih hk;simp only[oE,hk,ih,QGy q,if_true,List.map_cons]
def AV.dx:AV->Bool
 | .c (.v _)=>true
 | .n _=>true
 | .r ..=>true
 | .p ..=>true
 | .u=>true
 | _=>false
def AV.d5:AV->Bool
 | .a cs=>cs.all AV.dx
 | x=>x.dx
def AV.free:AV->Bool
 | .t vs=>vs.all AV.d5
 | x=>x.d5
def aQ.free:aQ->Prop
 | .none=>True
 | .dead=>True
 | .box cs=>cs.all AV.dx=true
 | .sl _ _ m es=>(∃ g t H,m = .dp g t H)\/∀ x,x∈es->∀ d,d∈x->∃ v,d = .v v
theorem Sm{x:TV}(h:x.dx=true):x.aO.dx=true:=by
 cases x with
 | c t x=>cases t <;> first | rfl | simp[TV.dx,CT.flat]at h
 | _=>first | rfl | simp[TV.dx]at h
theorem Sn{x:TV}(h:x.d5=true):x.ck.d5=true:=by
 cases x with
 | a cs =>
  simp only[TV.d5,List.all_eq_true]at h;simp only[TV.ck,AV.d5,List.all_eq_true];intro y hy;obtain⟨z,hz,rfl⟩:=List.mem_map.1 hy;exact Sm (h z hz)
 | c t x=>exact(by cases t <;> first | rfl | simp[TV.d5,TV.dx,CT.flat]at h)
 | _=>first | rfl | simp[TV.d5,TV.dx]at h
theorem QQo{x:TV}(h:x.free=true):x.aA.free=true:=by
 cases x with
 | tp vs =>
  simp only[TV.free,List.all_eq_true]at h;simp only[TV.aA,AV.free,List.all_eq_true];intro y hy;obtain⟨z,hz,rfl⟩:=List.mem_map.1 hy;exact Sn (h z hz)
 | a cs=>exact Sn (x:=.a cs) h
 | c t x=>exact(by cases t <;> first | rfl | simp[TV.free,TV.d5,TV.dx,CT.flat]at h)
 | _=>first | rfl | simp[TV.free,TV.d5,TV.dx]at h
theorem So:∀ {ts:List CT},ts.all CT.flat=true->∀(x:aT ts)(d:D),d∈aU ts x->∃ v,d = .v v
 | [],_,x,d,h=>by rw[aU]at h;cases h
 | t::ts,hf,x,d,h=>by
  rw[List.all_cons,Bool.and_eq_true]at hf;rw[aU]at h
  rcases List.mem_cons.1 h with rfl | h
  ·cases t with
   | sl us=>cases hf.1
   | _=>exact⟨_,rfl⟩
  ·exact So hf.2 _ d h
theorem QWs{x:az}(h:x.free=true):x.aA.free:=by
 cases x with
 | none=>trivial
 | dead=>trivial
 | box cs =>
  simp only[az.free,List.all_eq_true]at h;simp only[az.aA,aQ.free,List.all_eq_true];intro y hy;obtain⟨z,hz,rfl⟩:=List.mem_map.1 hy;exact Sm (h z hz)
 | sl e ts m es =>
  rw[az.bH];have key:ts.all CT.flat=true->∀ x,x∈es.map (aU ts)->∀ d,d∈x->∃ v,d = .v v:=λhf x hx d hd=>by
   obtain⟨y,hy,rfl⟩:=List.mem_map.1 hx;exact So hf y d hd
  cases m with
  | dp g t H=>exact .inl ⟨g,t,H,rfl⟩
  | _=>exact .inr (key h)
theorem FR{w:World}{F F':Nat->Prop}{ι:Io}{h:Nat->aQ}{v:Value}{x:AV}(hx:x.dx=true)(hv:VR w F ι h v x):VR w F' ι h v x:=by
 cases hv with
 | u=>exact .u _
 | c v d hr =>
  cases d with
  | v y=>cases hr with
   | v x h1=>exact .c _ _ (.v _ h1)
  | sl sz es=>simp[AV.dx]at hx
 | n sz=>exact .n sz
 | cy v sz id off len h1 hd=>exact .cy v sz id off len h1 hd
 | cL id e sz m hi hh=>exact .cL id e sz m hi hh
 | de ad cap id e sz m hi hh ht=>exact .de ad cap id e sz m hi hh ht
 | r id off len b ao cap e sz m es hi hh hlen cj ho cX=>exact .r id off len b ao cap e sz m es hi hh hlen cj ho cX
 | cS v id i j h1 hd=>exact .cS v id i j h1 hd
 | p id i j b hi hn hd=>exact .p id i j b hi hn hd
 | _=>simp[AV.dx]at hx
theorem Sp{w:World}{F F':Nat->Prop}{ι:Io}{h:Nat->aQ}{v:Value}{x:AV}(hx:x.d5=true)(hv:VR w F ι h v x):VR w F' ι h v x:=by
 cases x with
 | a cs =>
  simp only[AV.d5,List.all_eq_true]at hx
  cases hv with
  | a vs _ hl h1 hv=>exact .a vs cs hl h1 (λk v x hk iV=>FR (hx x (List.mem_of_getElem? iV)) (hv k v x hk iV))
 | _=>exact FR hx hv
theorem QVj{w:World}{F F':Nat->Prop}{ι:Io}{h:Nat->aQ}{v:Value}{x:AV}(hx:x.free=true)(hv:VR w F ι h v x):VR w F' ι h v x:=by
 cases x with
 | t cs =>
  simp only[AV.free,List.all_eq_true]at hx
  cases hv with
  | t vs _ hl hv=>exact .t vs cs hl (λk v x hk iV=>Sp (hx x (List.mem_of_getElem? iV)) (hv k v x hk iV))
 | _=>exact Sp hx hv
theorem QRf{w:World}{F F':Nat->Prop}{ι:Io}{h:Nat->aQ}{id:Nat}{x:aQ}(hx:x.free)(hv:BR w F ι h id x):BR w F' ι h id x:=by
 cases hv with
 | none=>exact .none
 | dead=>exact .dead
 | box b e bm cs hi ho hb hl h1 hv=>exact .box b e bm cs hi ho hb hl h1 (λk v x hk iV=>FR (List.all_eq_true.1 hx x (List.mem_of_getElem? iV)) (hv k v x hk iV))
 | slnil e sz m hz hi=>exact .slnil e sz m hz hi
 | sl b e e0 sz m es cur hz hi hb eN hle cW bV hv =>
  refine .sl b e e0 sz m es cur hz hi hb eN hle cW bV (λi j x d Sq hd=>?_);obtain⟨v,h1,h2⟩:=hv i j x d Sq hd;refine⟨v,h1,?_⟩
  rcases hx with⟨g,t,H,rfl⟩ | hx
  ·exact h2
  ·cases m with
   | dp g t H=>exact h2
   | _ =>
    obtain⟨y,rfl⟩:=hx x (List.mem_of_getElem? Sq) d (List.mem_of_getElem? hd);have h2:Rd w F v (.v y):=h2;show Rd w F' v (.v y)
    cases h2 with
    | v x h1=>exact .v _ h1
theorem ix.free{w:World}{F0:Nat->Prop}{lb:List Nat}{gb:List Hd}{v:AV}{hb:List aQ}{al al':Bool}{v':Value}{w':World}{ι:Io}(hx:v.free=true)(hh:∀ x,x∈hb->x.free)(Q:ix w F0 lb gb ⟨v,hb,[],al,[]⟩ v' w' ι) :
  ix w F0 lb gb ⟨v,hb,[],al',[]⟩ v' w' ι:=by
 refine⟨Q.os,Q.tape,Q.output,Q.size,Q.block,QVj hx Q.val,λi hi=>QRf ?_ (Q.fh i hi),Q.inj,Q.eg,Q.live,Q.df,Q.Es,λk b cs _ hc=>by simp at hc,Q.Et,λk x B _ hc=>by simp at hc⟩;have hi:i<hb.length:=hi;show aQ.free ((hb[i]?).getD .none);rw[List.getElem?_eq_getElem hi];exact hh _ (List.getElem_mem hi)
theorem FT:∀(l acc:List Nat),acc.Nodup->(tH l acc).Nodup
 | [],acc,h=>h
 | x::l,acc,h=>by
  simp only[tH]
  cases hx:acc.elem x with
  | true=>exact FT l acc h
  | false =>
   refine FT l _ ?_;rw[List.nodup_append];refine⟨h,by simp,λa ha b hb=>?_⟩;simp only[List.mem_singleton]at hb;rintro rfl
   subst hb;have:a∉acc:=by simpa using hx
   exact this ha
theorem Sr:∀ {ss:List Sh} {xs:List TV},ZW ss xs=true->xs.all TV.ng=true
 | [],[],_=>rfl
 | [],_::_,h=>by simp[ZW]at h
 | _::_,[],h=>by simp[ZW]at h
 | s::ss,x::xs,h=>by
  simp only[ZW,Bool.and_eq_true]at h;rw[List.all_cons,Sr h.2,Bool.and_true]
  cases x with
  | g b v=>cases s <;> simp[Sh.fits]at h
  | _=>rfl
theorem FU{h:Nat->az}:∀ {n k:Nat} {cC:List az},w4 h n k=some cC->nj (λi=>(h i).aA) n k=some (cC.map az.aA)
 | 0,k,cC,hx=>by simp only[w4,Option.some.injEq]at hx;subst hx;rfl
 | n+1,k,cC,hx=>by
  simp only[w4]at hx
  split at hx
  ·rename_i e ts m es lO h1 h2
   cases hx;have h3:=FU h2;simp only[nj,h1,az.bH,h3,List.map_cons]
  ·rename_i lO h1 h2
   cases hx;have h3:=FU h2;simp only[nj,h1,az.jc,h3,List.map_cons]
  ·cases hx
theorem QR6{P:Program}{Γ:aF}{f:FuncId}{tc:af}{rs:List (bn × Md)}{n:Nat}{xs:List TV}{r:aB}{sg:List Sh}(hm:P.follows .mixedOrders=true)(hΓ:wX P Γ)(hs:wa P f=some (tc.er,rs.map Prod.fst,n))
  (fF:ZW sg xs=true) (hN:xs.length<=n) (h:aN Γ (d9 xs+eE xs) tc (TQ (d9 xs) (eE xs) rs (λr'=>r'=r)) (qY xs)):aK P f xs r:=by
 have cH:=Sr fF;unfold wa at hs
 split at hs
 rotate_left
 ·cases hs
 rename_i fn hf
 split at hs
 rotate_left
 ·cases hs
 rename_i c hb
 split at hs
 rotate_left
 ·cases hs
 rename_i ac' rs' hc zR;simp only[Option.some.injEq,Prod.mk.injEq]at hs;obtain⟨rfl,rfl,rfl⟩:=hs;intro w F0 vs lb gb hA hF;have LA:=Rc hA;have E5:=LA.len;have i0:d9 xs=lb.length:=(Ab xs cH).trans E5.symm;have ja:eE xs=gb.length:=(wZ xs cH).trans LA.gl.symm;have hL:Kept (Y6 P w F0 lb gb fn.ntmps) (d9 xs+eE xs):=by
  refine⟨λi b hi=>?_,λi o hi=>?_,λi o cs hi=>?_⟩
  ·have:=(List.getElem?_eq_some_iff.1 (show lb[i]? = some b from hi)).1;omega
  ·simp only[Y6]at hi
   split at hi
   ·cases hi
   ·have:=(List.getElem?_eq_some_iff.1 hi).1;omega
  ·simp only[Y6]at hi
   split at hi
   ·cases hi
   ·obtain⟨_,⟨e,sz,m,es,q,_⟩,_⟩:=LA.fX _ _ hi;rw[q];exact λh=>by cases h
 refine calls_of_wp hf hb ?_;refine QTS (C:=Y6 P w F0 lb gb fn.ntmps) (nl:=d9 xs+eE xs) hm (QMO Γ) (QJ7 hΓ) hL tc c _ _ (qY xs) _ _ hc h ?_ ?_
 ·rw[QTg xs cH];exact QQY hA hF (by simpa using hN)
 ·intro e σ0 a w' hK S;have hK:(match FQ (d9 xs) (eE xs) rs σ0 with | some r'=>r'=r | none=>False)/\∀ id,e≠.exit id:=by
   cases e with
   | exit id=>exact hK.elim
   | normal=>exact⟨hK,by simp⟩
   | ret=>exact⟨hK,by simp⟩
  obtain⟨hK,he⟩:=hK
  split at hK
  rotate_left
  ·exact hK.elim
  rename_i r' hr;subst hK;unfold FQ at hr;simp only at hr
  split at hr
  rotate_left
  ·cases hr
  rename_i bm f4;obtain⟨q1,hr⟩:=QX hr
  split at hr
  rotate_left
  ·cases hr
  rename_i cC gs qD oA;obtain⟨q2,hr⟩:=QX hr;simp only[Bool.and_eq_true]at q2
  cases hr;have S':=zW (L:=rs.map λx=>(x.1.slot,x.2)) hL S;generalize hσ:gc (d9 xs+eE xs) (rs.map λx=>(x.1.slot,x.2)) σ0=σ at *;obtain⟨ι,S'⟩:=S';have h1:=Sj f4;obtain⟨u,h5,h6⟩:=QGe S' zR h1;rw[QHA q1]at h6;have hZ:=FT (bm.flatMap λv=>v.refs++v.b8) [] List.nodup_nil;generalize tH (bm.flatMap λv=>v.refs++v.b8) []=ids at *;have iL:∀ id,id∈ids->d9 xs+eE xs<=id:=λid a8=>Nat.le_of_ble_eq_true (List.all_eq_true.1 q2.2 id a8);have FV:zx (d9 xs) (eE xs) ids σ.aA (nB bm).aA=some ⟨((nB bm).rn ids).aA,(ids.map λid=>(σ.H id).rn ids).map az.aA,cC.map (·.map TV.aO),true,gs.map az.aA⟩:=by
   unfold zx;have h2:=Sl qD;have h2:oE σ.aA.h (d9 xs) 0=some (cC.map (·.map TV.aO)):=h2;have h3:=FU oA;have h3:nj σ.aA.h (eE xs) (d9 xs)=some (gs.map az.aA):=h3;rw[h2,h3];simp only;congr 2
   ·rw[QVN]
    match bm,q1 with
    | [],_=>exact .inr ⟨[],rfl⟩
    | [x],q1=>left;rw[List.all_cons,List.all_nil,Bool.and_true]at q1;exact q1
    | x::y::l,_=>exact .inr ⟨_,rfl⟩
   ·rw[List.map_map];congr 1
    funext id
    exact(QKR ids _).symm
  obtain⟨ι',post⟩:=QIe i0 ja S' hZ iL FV h6;have w5:ix w F0 lb gb (aB.aA ⟨(nB bm).rn ids,ids.map λid=>(σ.H id).rn ids,cC,!(((nB bm).rn ids).free&&cC.isEmpty&&(ids.map λid=>(σ.H id).rn ids).all az.free&&gs.isEmpty),gs⟩) u w' ι':=by
   unfold aB.aA;simp only
   cases dM:((nB bm).rn ids).free&&cC.isEmpty&&(ids.map λid=>(σ.H id).rn ids).all az.free&&gs.isEmpty with
   | false=>exact post
   | true =>
    simp only[Bool.and_eq_true,List.isEmpty_iff]at dM;obtain⟨⟨⟨e1,e2⟩,e3⟩,e4⟩:=dM;subst e2;subst e4;refine ix.free (QQo e1) (λx hx=>?_) post;obtain⟨y,hy,rfl⟩:=List.mem_map.1 hx;exact QWs (List.all_eq_true.1 e3 y hy)
  have key:a.defers=[]/\∃ v,(results fn a.tmps).run P w' = .ok v w'/\∃ v1 ι,Ending.returned v = .returned v1/\ix w F0 lb gb (aB.aA ⟨(nB bm).rn ids,ids.map λid=>(σ.H id).rn ids,cC,!(((nB bm).rn ids).free&&cC.isEmpty&&(ids.map λid=>(σ.H id).rn ids).all az.free&&gs.isEmpty),gs⟩) v1 w' ι :=
   ⟨S'.defers,u,h5,u,_,rfl,w5⟩
  cases e with
  | normal=>exact key
  | ret=>exact key
  | exit id=>exact absurd rfl (he id)
mutual
def CT.bd:(t:CT)->t.den->Prop
 | .int _,_=>True
 | .bool,_=>True
 | .str,_=>True
 | .dF,_=>True
 | .sl ts,l=>List.length l<=maxLen/\∀ x:aT ts,x∈(l:List (aT ts))->aT.bd ts x
def aT.bd:(ts:List CT)->aT ts->Prop
 | [],_=>True
 | t::ts,x=>t.bd (hd ts x)/\aT.bd ts (tl ts x)
end
def ra(ts:List CT)(es:List (aT ts)):Prop:=List.length es<=maxLen/\∀ x:aT ts,x∈es->aT.bd ts x
def TV.w6:TV->Prop
 | .c t x=>t.bd x
 | .ow _ ts .ow es=>ra ts es
 | .ow _ ts (.dp _ _ []) es=>ra ts es
 | _=>True
def TV.w7:List TV->Prop
 | []=>True
 | x::xs=>x.w6/\TV.w7 xs
def TV.bd:TV->Prop
 | .a cs=>TV.w7 cs
 | .bx cs=>TV.w7 cs
 | x=>x.w6
def Ac:List TV->Prop
 | []=>True
 | x::xs=>x.bd/\Ac xs
mutual
theorem Ss{w:World}{F:Nat->Prop}:∀(t:CT)(x:t.den)(v:Value),Rd w F v (enc t x)->t.bd x
 | .int _,_,_,_=>by rw[CT.bd];trivial
 | .bool,_,_,_=>by rw[CT.bd];trivial
 | .str,_,_,_=>by rw[CT.bd];trivial
 | .dF,_,_,_=>by rw[CT.bd];trivial
 | .sl ts,l,v,h=>by
  rw[enc]at h
  rw[CT.bd]
  generalize gi:List.map (aU ts) l=es at h
  have hl:List.length l=es.length:=by rw[<- gi,List.length_map]
  generalize bV:ts.length=sz at h
  cases h with
  | nil =>
   have:l=[]:=by simpa using gi
   subst this
   exact⟨Nat.zero_le _,λx hx=>by cases hx⟩
  | emp =>
   have:l=[]:=by simpa using gi
   subst this
   exact⟨Nat.zero_le _,λx hx=>by cases hx⟩
  | sl b o len cap _ _ xv hlen cj cW dN hb hc hr =>
   refine⟨by rw[hl,hlen];exact cW,λx hx=>?_⟩
   obtain⟨i,hi⟩:=List.getElem?_of_mem hx
   have he:es[i]? = some (aU ts x):=by rw[<- gi,List.getElem?_map,hi];rfl
   exact FW ts x (λj d hj=>⟨_,hr i j _ d he hj⟩)
theorem FW{w:World}{F:Nat->Prop}:∀(ts:List CT)(x:aT ts),(∀(j:Nat)(d:D),(aU ts x)[j]? = some d->∃ v,Rd w F v d)->aT.bd ts x
 | [],_,_=>by rw[aT.bd];trivial
 | t::ts,x,h=>by
  rw[aU]at h
  rw[aT.bd]
  obtain⟨v,hv⟩:=h 0 _ rfl
  exact⟨Ss t _ v hv,FW ts _ (λj d hj=>h (j+1) d (by simpa using hj))⟩
end
mutual
theorem QSK{w:World}{K:Nat->Option (Nat × cD)}{id:Nat}:∀(t:CT)(x:t.den)(v:Value)(p:cD),RL w K id p v (enc t x)->t.bd x
 | .int _,_,_,_,_=>by rw[CT.bd];trivial
 | .bool,_,_,_,_=>by rw[CT.bd];trivial
 | .str,_,_,_,_=>by rw[CT.bd];trivial
 | .dF,_,_,_,_=>by rw[CT.bd];trivial
 | .sl ts,l,v,p,h=>by
  rw[enc]at h
  rw[CT.bd]
  generalize gi:List.map (aU ts) l=es at h
  have hl:List.length l=es.length:=by rw[<- gi,List.length_map]
  generalize bV:ts.length=sz at h
  cases h with
  | nil =>
   have:l=[]:=by simpa using gi
   subst this
   exact⟨Nat.zero_le _,λx hx=>by cases hx⟩
  | emp =>
   have:l=[]:=by simpa using gi
   subst this
   exact⟨Nat.zero_le _,λx hx=>by cases hx⟩
  | sl _ b o len cap _ _ cur e0 xv hz dK hlen cj cW dN hk hb hle hc hr =>
   refine⟨by rw[hl,hlen];exact cW,λx hx=>?_⟩
   obtain⟨i,hi⟩:=List.getElem?_of_mem hx
   have he:es[i]? = some (aU ts x):=by rw[<- gi,List.getElem?_map,hi];rfl
   exact FX ts x (λj d hj=>⟨_,_,hr i j _ d he hj⟩)
theorem FX{w:World}{K:Nat->Option (Nat × cD)}{id:Nat}:∀(ts:List CT)(x:aT ts),(∀(j:Nat)(d:D),(aU ts x)[j]? = some d->∃ v p,RL w K id p v d)->aT.bd ts x
 | [],_,_=>by rw[aT.bd];trivial
 | t::ts,x,h=>by
  rw[aU]at h
  rw[aT.bd]
  obtain⟨v,p,hv⟩:=h 0 _ rfl
  exact⟨QSK t _ v p hv,FX ts _ (λj d hj=>h (j+1) d (by simpa using hj))⟩
end
theorem Ad{w:World}{F:Nat->Prop}{ι:Io}{h:Nat->aQ}{v:Value}:∀ {x:TV},VR w F ι h v x.aO->x.w6
 | .c t x,hv=>by cases hv with | c v d hr=>exact Ss t x v hr
 | .ow ..,hv=>by cases hv
 | .u,_=>trivial
 | .n _,_=>trivial
 | .r ..,_=>trivial
 | .p ..,_=>trivial
 | .q ..,_=>trivial
 | .a _,_=>trivial
 | .tp _,_=>trivial
 | .bx _,_=>trivial
 | .bs ..,_=>trivial
 | .bq ..,_=>trivial
 | .g ..,_=>trivial
theorem Su{w:World}{F:Nat->Prop}{v:Value}{x:Hd}{e:TypeId}{ts:List CT}{m:Mo}{es:List (aT ts)}(hv:lD w F v x e ts.length m (es.map (aU ts))):(TV.ow e ts m es).w6:=by
 have key:m.full=true->ra ts es:=by
  intro hf;have tn:=hv.br;rw[hv.hB]at tn;generalize hq:es.map (aU ts)=eO at tn
  cases tn with
  | slnil =>
   have:es=[]:=by simpa using hq
   subst this;exact⟨Nat.zero_le _,λx hx=>by cases hx⟩
  | sl bk _ e0 _ _ _ cur hz hi hb eN hle cW bV jk =>
   refine⟨by rw[<- hq,List.length_map]at cW;exact cW,λx hx=>?_⟩;obtain⟨i,bY⟩:=List.getElem?_of_mem hx;have he:eO[i]? = some (aU ts x):=by rw[<- hq,List.getElem?_map,bY];rfl
   cases m with
   | dp g t H =>
    cases H with
    | nil=>exact FX ts x (λj d hj=>let⟨v,_,h2⟩:=jk i j _ d he hj;⟨v,_,h2.2 (by simp)⟩)
    | cons=>cases hf
   | _=>exact FW ts x (λj d hj=>let⟨v,_,h2⟩:=jk i j _ d he hj;⟨v,h2⟩)
 cases m with
 | fz=>trivial
 | ow=>exact key rfl
 | dp g t H =>
  cases H with
  | nil=>exact key rfl
  | cons=>trivial
theorem FY:∀ {cs:List TV},(∀(k:Nat)(x:TV),cs[k]? = some x->x.w6)->TV.w7 cs
 | [],_=>trivial
 | x::xs,h=>⟨h 0 x rfl,FY λk y hy=>h (k+1) y (by simpa using hy)⟩
theorem w8{w:World}{F:Nat->Prop}:∀ {cs:List TV} {vs:List Value} {lb:List Nat} {gb:List Hd},ew w F vs (cs.map TV.aO) lb gb->TV.w7 cs
 | [],vs,lb,gb,_=>trivial
 | x::cs,vs,lb,gb,hA=>by
  rw[List.map_cons]at hA;generalize hy:x.aO=y at hA;generalize iW:cs.map TV.aO=ys at hA
  cases hA with
  | eD v _ vs _ lb gb hv hr hx =>
   subst iW;subst hy;exact⟨Ad hv,w8 hr⟩
  | own v o e sz m es vs _ lb gb hv hn hr =>
   subst iW;refine⟨?_,w8 hr⟩
   cases x with
   | ow e' ts mm bP =>
    simp only[TV.aO]at hy;injection hy with q1 q2 q3 q4;subst q1;subst q2;subst q3;subst q4;exact Su hv
   | _=>trivial
  | box b e bm cs' vs _ lb gb hb hd hc hn hg hr =>
   subst iW;refine⟨?_,w8 hr⟩
   cases x with
   | c t x=>cases hy
   | ow e' ts mm bP=>cases hy
   | _=>trivial
  | agg arr cs' vs _ lb g1 gb hc hk h1 hn hr =>
   subst iW;refine⟨?_,w8 hr⟩
   cases x with
   | c t x=>cases hy
   | ow e' ts mm bP=>cases hy
   | _=>trivial
theorem w9{w:World}{F:Nat->Prop}:∀ {xs:List TV} {vs:List Value} {lb:List Nat} {gb:List Hd},ew w F vs (xs.map TV.aA) lb gb->xs.all TV.ng=true->Ac xs
 | [],vs,lb,gb,_,_=>trivial
 | x::xs,vs,lb,gb,hA,cH=>by
  rw[List.all_cons,Bool.and_eq_true]at cH;rw[List.map_cons]at hA;generalize hy:x.aA=y at hA;generalize iW:xs.map TV.aA=ys at hA
  cases hA with
  | eD v _ vs _ lb gb hv hr hx =>
   subst iW;refine⟨?_,w9 hr cH.2⟩
   cases x with
   | a cs =>
    subst hy
    cases hv with
    | a va _ hl h1 hv =>
     refine FY λk z hz=>?_;have aW:k<va.size:=by rw[hl,List.length_map];exact(List.getElem?_eq_some_iff.1 hz).1
     exact Ad (hv k va[k] z.aO (by simp[aW]) (by rw[List.getElem?_map,hz];rfl))
   | bx cs=>subst hy;simp[TV.aA,AV.eD]at hx
   | ow e ts m es=>subst hy;simp[TV.aA,TV.ck,TV.aO,AV.eD]at hx
   | g b v=>exact absurd cH.1 (by simp[TV.ng])
   | c t z=>subst hy;exact Ad (x:=.c t z) hv
   | _=>trivial
  | own v o e sz m es vs _ lb gb hv hn hr =>
   subst iW;refine⟨?_,w9 hr cH.2⟩
   cases x with
   | ow e' ts mm bP =>
    simp only[TV.aA,TV.ck,TV.aO]at hy;injection hy with q1 q2 q3 q4;subst q1;subst q2;subst q3;subst q4;exact Su hv
   | g b v=>exact absurd cH.1 (by simp[TV.ng])
   | a cs=>simp only[TV.aA,TV.ck]at hy;cases hy
   | bx cs=>simp only[TV.aA]at hy;cases hy
   | _=>trivial
  | box b e bm cs vs _ lb gb hb hd hc hn hg hr =>
   subst iW;refine⟨?_,w9 hr cH.2⟩
   cases x with
   | bx ds =>
    simp only[TV.aA]at hy;injection hy with hy;subst hy;refine FY λk z hz=>?_;have aW:k<bm.size:=by rw[hd.size,List.length_map];exact(List.getElem?_eq_some_iff.1 hz).1
    exact Ad (hd.vr k bm[k] z.aO (by simp[aW]) (by rw[List.getElem?_map,hz];rfl))
   | g b v=>exact absurd cH.1 (by simp[TV.ng])
   | a cs=>simp only[TV.aA,TV.ck]at hy;cases hy
   | ow e ts m es=>simp only[TV.aA,TV.ck,TV.aO]at hy;cases hy
   | _=>trivial
  | agg arr cs vs _ lb g1 gb hc hk h1 hn hr =>
   subst iW;refine⟨?_,w9 hr cH.2⟩
   cases x with
   | a ds =>
    simp only[TV.aA,TV.ck]at hy;injection hy with hy;subst hy;exact w8 hc
   | g b v=>exact absurd cH.1 (by simp[TV.ng])
   | bx cs=>simp only[TV.aA]at hy;cases hy
   | ow e ts m es=>simp only[TV.aA,TV.ck,TV.aO]at hy;cases hy
   | c t z=>simp only[TV.aA,TV.ck,TV.aO]at hy;cases hy
   | _=>trivial
theorem QLk{P:Program}{f:FuncId}{xs:List TV}{r:aB}(cH:xs.all TV.ng=true)(h:Ac xs->aK P f xs r):aK P f xs r :=
 λw F0 vs lb gb hA hF=>h (w9 hA cH) w F0 vs lb gb hA hF
end Go.Proofs.YtdplaepmjogjjaaGreat.Am

set_option linter.all false
namespace Go.Proofs.YtdplaepmjogjjaaGreat.Am
open Go Go.RowKit Go.Proofs.YtdplaepmjogjjaaGreat
abbrev TI:CT:=.int .i64
abbrev aG(x:Int):Int:=IntKind.i64.wrap x
def Loop(Γ:aF)(nl:Nat)(L:List (Nat × Md))(x:af)(Q:Qb)(s:cq):Prop :=
 zT (λR s=>aN Γ nl x (a0 (λs'=>R (gc nl L s')) Q) s) s
theorem QSp{Γ:aF}{nl:Nat}{L:List (Nat × Md)}{x:af}{Q:Qb}{s:cq}
  (h:aN Γ nl x (a0 (λs'=>Loop Γ nl L x Q (gc nl L s')) Q) s):Loop Γ nl L x Q s:=QNH h
structure dt(p:Prop):Prop where
 h:p
theorem dt.of{p F:Prop}(h:F)(e:F=p:=by kernel_rfl):dt p:=⟨e ▸ h⟩
theorem Loop.of{Γ:aF}{nl:Nat}{L:List (Nat × Md)}{x:af}{Q:Qb}{s:cq}{F:Prop}
  (h:F) (e:F=aN Γ nl x (a0 (λs'=>Loop Γ nl L x Q (gc nl L s')) Q) s:=by kernel_rfl):Loop Γ nl L x Q s:=QSp (e ▸ h)
def aq{α:Type}(d:α)(l:List α)(i:Nat):α:=l.getD i d
@[reducible] def Sh.den:Sh->Type
 | .c t=>t.den
 | .a ts=>aT ts
 | .b ts=>aT ts
 | .o _ ts=>List (aT ts)
 | .d ts=>List (aT ts)
 | .s ts=>aT ts
@[reducible] def gS:List Sh->Type
 | []=>Unit
 | s::ss=>s.den × gS ss
def Sv:(t:CT)->t.den->TV
 | .sl us,l=>.ow 0 us dw l
 | .int k,x=>.c (.int k) x
 | .bool,x=>.c .bool x
 | .str,x=>.c .str x
 | .dF,x=>.c .dF x
def aT.iH:(ts:List CT)->aT ts->List TV
 | [],_=>[]
 | t::ts,x=>Sv t (hd ts x)::aT.iH ts (tl ts x)
def Sh.val:(s:Sh)->s.den->TV
 | .c t,x=>.c t x
 | .a ts,x=>.a (aT.cells ts x)
 | .b ts,x=>.bx (aT.cells ts x)
 | .o e ts,x=>.ow e ts .ow x
 | .d ts,x=>.ow 0 ts dw x
 | .s ts,x=>.a (aT.iH ts x)
def jN:(ss:List Sh)->gS ss->List TV
 | [],_=>[]
 | s::ss,x=>s.val x.1::jN ss x.2
def iI(t:CT):TV->Option t.den
 | .c t' x=>if e:t'.beq t=true then some (zB e x) else none
 | _=>none
def jO:(ts:List CT)->List TV->Option (aT ts)
 | [],xs=>match xs with
  | []=>some ()
  | _=>none
 | t::ts,xs=>match xs with
  | x::xs=>match iI t x,jO ts xs with
   | some a,some b=>some (lP ts a b)
   | _,_=>none
  | []=>none
def xa:Mo->Bool
 | .ow=>true
 | _=>false
def kI(m0:Mo->Bool)(e:TypeId)(ts:List CT):TV->Option (List (aT ts))
 | .ow e' b4 m es=>if q:CT.dh b4 ts=true then(bif Nat.beq e' e&&m0 m then some (tr q es) else none) else none
 | _=>none
def xc:(t:CT)->TV->Option t.den
 | .sl us,x=>kI kC 0 us x
 | .int k,x=>iI (.int k) x
 | .bool,x=>iI .bool x
 | .str,x=>iI .str x
 | .dF,x=>iI .dF x
def kJ:(ts:List CT)->List TV->Option (aT ts)
 | [],xs=>match xs with
  | []=>some ()
  | _=>none
 | t::ts,xs=>match xs with
  | x::xs=>match xc t x,kJ ts xs with
   | some a,some b=>some (lP ts a b)
   | _,_=>none
  | []=>none
def Sh.dec:(s:Sh)->TV->Option s.den
 | .c t,x=>iI t x
 | .a ts,x=>match x with
  | .a cs=>jO ts cs
  | _=>none
 | .b ts,x=>match x with
  | .bx cs=>jO ts cs
  | _=>none
 | .o e ts,x=>kI xa e ts x
 | .d ts,x=>kI kC 0 ts x
 | .s ts,x=>match x with
  | .a cs=>kJ ts cs
  | _=>none
def kK:(ss:List Sh)->List TV->Option (gS ss)
 | [],xs=>match xs with
  | []=>some ()
  | _=>none
 | s::ss,xs=>match xs with
  | x::xs=>match s.dec x,kK ss xs with
   | some a,some b=>some (a,b)
   | _,_=>none
  | []=>none
theorem FZ{t:CT}{v:TV}{x:t.den}(h:iI t v=some x):v = .c t x:=by
 cases v with
 | c t' y =>
  simp only[iI]at h
  split at h
  ·rename_i e;have e':=CT.beq_eq _ _ e;subst e'
   cases h;rfl
  ·cases h
 | _=>simp[iI]at h
theorem F1:∀ {ts:List CT} {vs:List TV} {x:aT ts},jO ts vs=some x->vs=aT.cells ts x
 | [],vs,x,h=>by
  cases vs with
  | nil=>rfl
  | cons v vs=>simp[jO]at h
 | t::ts,vs,x,h=>by
  cases vs with
  | nil=>simp[jO]at h
  | cons v vs =>
   simp only[jO]at h
   split at h
   rotate_left
   ·cases h
   rename_i a b h1 h2
   cases h;rw[aT.cells,FZ h1,F1 h2,wq,wu]
theorem QF3{m:Mo}(h:xa m=true):m = .ow:=by
 cases m <;> first | rfl | cases h
theorem F2{m0:Mo->Bool}{m1:Mo}(hm:∀ m,m0 m=true->m=m1){e:TypeId}{ts:List CT}{v:TV}{x:List (aT ts)}(h:kI m0 e ts v=some x):v = .ow e ts m1 x:=by
 cases v with
 | ow e' b4 m es =>
  simp only[kI]at h
  split at h
  ·rename_i q;have q':=CT.bS _ _ q;subst q'
   cases hb:Nat.beq e' e&&m0 m with
   | false=>rw[hb]at h;cases h
   | true =>
    rw[hb]at h
    cases h;rw[Bool.and_eq_true]at hb;have:=Nat.eq_of_beq_eq_true hb.1;subst this;rw[hm m hb.2];rfl
  ·cases h
 | _=>simp[kI]at h
theorem QU9{t:CT}{v:TV}{x:t.den}(h:xc t v=some x):v=Sv t x:=by
 cases t with
 | sl us=>exact F2 (λ_=>zZ) h
 | _=>exact FZ h
theorem Sw:∀ {ts:List CT} {vs:List TV} {x:aT ts},kJ ts vs=some x->vs=aT.iH ts x
 | [],vs,x,h=>by
  cases vs with
  | nil=>rfl
  | cons v vs=>simp[kJ]at h
 | t::ts,vs,x,h=>by
  cases vs with
  | nil=>simp[kJ]at h
  | cons v vs =>
   simp only[kJ]at h
   split at h
   rotate_left
   ·cases h
   rename_i a b h1 h2
   cases h;rw[aT.iH,QU9 h1,Sw h2,wq,wu]
theorem QRO{s:Sh}{v:TV}{x:s.den}(h:s.dec v=some x):v=s.val x:=by
 cases s with
 | c t=>exact FZ h
 | a ts =>
  cases v with
  | a cs=>exact congrArg TV.a (F1 h)
  | _=>simp[Sh.dec]at h
 | b ts =>
  cases v with
  | bx cs=>exact congrArg TV.bx (F1 h)
  | _=>simp[Sh.dec]at h
 | o e ts=>exact F2 (λ_=>QF3) h
 | d ts=>exact F2 (λ_=>zZ) h
 | s ts =>
  cases v with
  | a cs=>exact congrArg TV.a (Sw h)
  | _=>simp[Sh.dec]at h
theorem Sx:∀ {ss:List Sh} {vs:List TV} {x:gS ss},kK ss vs=some x->vs=jN ss x
 | [],vs,x,h=>by
  cases vs with
  | nil=>rfl
  | cons v vs=>simp[kK]at h
 | s::ss,vs,x,h=>by
  cases vs with
  | nil=>simp[kK]at h
  | cons v vs =>
   simp only[kK]at h
   split at h
   rotate_left
   ·cases h
   rename_i a b h1 h2
   cases h;rw[jN,QRO h1,Sx h2]
def Qg(f:FuncId)(sg:List Sh)(g:gS sg->Option Prop × aB):aJ:=⟨f,sg,λvs=>match kK sg vs with
 | some x=>some (g x)
 | none=>none⟩
theorem Qh{P:Program}{f:FuncId}{sg:List Sh}{g:gS sg->Option Prop × aB}(h:∀ x:gS sg,holds (g x).1->aK P f (jN sg x) (g x).2):Qf P (Qg f sg g):=by
 intro vs pre r hf hr hp;simp only[Qg]at hr
 split at hr
 ·rename_i x hx;rw[Sx hx]
  cases hg:g x with
  | mk p r' =>
   rw[hg]at hr
   cases hr;have:=h x;rw[hg]at this;exact this hp
 ·cases hr
theorem QMn{P:Program}{Γ:aF}{f:FuncId}{tc:af}{rs:List (bn × Md)}{n nb no:Nat}{xs:List TV}{r:aB}{sg:List Sh}(hm:P.follows .mixedOrders=true)(hΓ:wX P Γ)(hs:wa P f=some (tc.er,rs.map Prod.fst,n))
  (fF:ZW sg xs=true) (hN:Nat.ble xs.length n=true) (i0:d9 xs=nb) (fk:eE xs=no) (h:dt (aN Γ (nb+no) tc (TQ nb no rs (λr'=>r'=r)) (qY xs))):aK P f xs r:=by
 subst i0;subst fk;exact QR6 hm hΓ hs fF (Nat.le_of_ble_eq_true hN) h.h
theorem QGI:Tryz.prog.follows .mixedOrders=true:=by kernel_rfl
end Go.Proofs.YtdplaepmjogjjaaGreat.Am
namespace Go.Proofs.YtdplaepmjogjjaaGreat.Am
open Go Go.RowKit Go.Proofs.YtdplaepmjogjjaaGreat
theorem QF{x:Int}(h1:-9223372036854775808<=x)(h2:x<9223372036854775808):aG x=x:=IntWalk.i64_in x (by omega)
theorem ZJ{α:Type}{l r:List α}{x:α}{k:Nat}(h:l.drop k=x::r)(d:α):aq d l k=x:=by
 unfold aq;have:l[k]? = some x:=by
  have:=congrArg List.head? h;simpa[List.head?_drop]using this
 rw[List.getD_eq_getElem?_getD,this];rfl
theorem Ae{α:Type}{l r:List α}{x:α}{k:Nat}(h:l.drop k=x::r):k<l.length:=by
 apply Classical.byContradiction;intro hn;rw[List.drop_eq_nil_of_le (by omega)]at h
 cases h
theorem Zz{α:Type}{l r:List α}{x:α}{k:Nat}(h:l.drop k=x::r):l.drop (k+1)=r:=by
 have:=congrArg List.tail h;simpa[List.tail_drop]using this
theorem Zf{α:Type}(l:List α)(P:List α->Nat->Prop)(h0:P [] l.length)(hs:∀(k:Nat)(x:α)(r:List α),l.drop k=x::r->k<l.length->(∀ d,aq d l k=x)->P r (k+1)->P (x::r) k):P l 0:=by
 suffices ∀(r:List α)(k:Nat),l.drop k=r->k<=l.length->P r k from this l 0 rfl (Nat.zero_le _)
 intro r
 induction r with
 | nil =>
  intro k hk hle;have:l.length<=k:=by simpa using hk
  rw[show k=l.length by omega];exact h0
 | cons x r ih =>
  intro k hk hle;have aW:=Ae hk;exact hs k x r hk aW (ZJ hk) (ih (k+1) (Zz hk) aW)
theorem re(n:Nat)(P:Nat->Prop)(h0:P n)(hs:∀ k,k<n->P (k+1)->P k):P 0:=by
 suffices ∀ j k,k+j=n->P k from this n 0 (by omega)
 intro j
 induction j with
 | zero=>intro k hk;rw[show k=n by omega];exact h0
 | succ j ih=>intro k hk;exact hs k (by omega) (ih (k+1) (by omega))
class Sz(α:Type) where
 sz:α->Nat
instance:Sz Int:=⟨λ_=>0⟩
instance:Sz Bool:=⟨λ_=>0⟩
instance:Sz ByteArray:=⟨λ_=>0⟩
instance {α β:Type} [Sz α] [Sz β]:Sz (α × β):=⟨λx=>Sz.sz x.1+Sz.sz x.2⟩
def Sy{α:Type}[Sz α]:List α->Nat
 | []=>0
 | x::r=>1+Sz.sz x+Sy r
instance {α:Type} [Sz α]:Sz (List α):=⟨Sy⟩
open Sz
@[simp] theorem QL(x:Int):sz x=0:=rfl
@[simp] theorem Q0(x:Bool):sz x=0:=rfl
@[simp] theorem YJ{α β:Type}[Sz α][Sz β](x:α)(y:β):sz (x,y)=sz x+sz y:=rfl
theorem QP{α β:Type}[Sz α][Sz β](x:α × β):sz x=sz x.1+sz x.2:=rfl
@[simp] theorem QYg{α:Type}[Sz α]:sz ([]:List α)=0:=rfl
@[simp] theorem Jq{α:Type}[Sz α](x:α)(r:List α):sz (x::r)=1+sz x+sz r:=rfl
@[simp] theorem Af{α:Type}[Sz α](l r:List α):sz (l++r)=sz l+sz r:=by
 induction l with
 | nil=>simp
 | cons x l ih=>simp[ih];omega
theorem Ym{α:Type}[Sz α](l:List α):l.length<=sz l:=by
 induction l with
 | nil=>simp
 | cons x l ih=>simp;omega
theorem ZH(l:List Int):sz l=l.length:=by
 induction l with
 | nil=>rfl
 | cons x l ih=>simp[ih];omega
theorem Ag{α:Type}[Sz α]{l:List α}{x:α}(h:x∈l):sz x<sz l:=by
 induction l with
 | nil=>cases h
 | cons y l ih =>
  rcases List.mem_cons.1 h with rfl | h
  ·simp;omega
  ·have:=ih h;simp;omega
theorem xd{α:Type}[Sz α]{l r:List α}{x:α}{k:Nat}(h:l.drop k=x::r):sz x<sz l:=Ag (List.mem_of_mem_drop (by rw[h];exact List.mem_cons_self))
theorem F3{α:Type}[Sz α](l:List α)(k:Nat):sz (l.take k)+sz (l.drop k)=sz l:=by
 rw[<- Af,List.take_append_drop]
theorem F4{α:Type}[Sz α](l:List α)(k:Nat):sz (l.take k)<=sz l:=by have:=F3 l k;omega
theorem QPh{α:Type}[Sz α](l:List α)(k:Nat):sz (l.drop k)<=sz l:=by have:=F3 l k;omega
theorem Zg:(ca:Nat)=4294967296:=rfl
theorem gT:((ca:Nat):Int)=4294967296:=rfl
theorem au{α:Type}{R:α->aB}{x y:α}(h:x=y):R x=R y:=by rw[h]
end Go.Proofs.YtdplaepmjogjjaaGreat.Am
namespace Go.Proofs.YtdplaepmjogjjaaGreat.Am
open Go Go.RowKit
instance (n:Nat):OfNat bD n:=⟨.s n⟩
abbrev aL(n:Int):TV:=.c TI n
abbrev bE(b:Bool):TV:=.c .bool b
abbrev bf(ts:List CT)(x:List (aT ts)):TV:=.c (.sl ts) x
def ar(n:Int):bD:=.k (.c TI n)
def a6(b:Bool):bD:=.k (.c .bool b)
def aC(d:Nat)(x:d6):bA:=.op (some d) x
def ab(d:Nat)(x:bD):bA:=.op (some d) (.eG x)
def an(d:Nat)(x:bD)(n:Nat):bA:=.op (some d) (.load x n false)
def a9(d:Nat)(x:bD)(n:Nat):bA:=.op (some d) (.load x n true)
def ak(d:Nat)(x:bD)(o:Nat):bA:=.op (some d) (.km x o)
def ba(d:Nat)(x:bD):bA:=.op (some d) (.len x)
def aw(d:Nat)(o:BinOp)(x y:bD):bA:=.op (some d) (.bin o x y)
def aV(x v:bD)(n:Nat):bA:=.op none (.store x v n)
def aD(d:Nat)(f:FuncId)(l:List bD):bA:=.op (some d) (.call f l)
def aZ(d:Nat)(x i:bD)(ts:List CT):bA:=.op (some d) (.jt x i ts)
def bL(d:Nat)(x:bD):bA:=.op (some d) (.not x)
def bF(d:Nat)(x:bD)(i:Nat):bA:=.op (some d) (.ext x i)
def ag:List af->af
 | []=>.skip
 | [x]=>x
 | x::y::r=>.seq x (ag (y::r))
def z01:CT->TV
 | .int k=>.c (.int k) (0:Int)
 | .bool=>.c .bool false
 | .str=>.c .str ⟨#[]⟩
 | .dF=>.c .dF ()
 | .sl ts=>.n ts
def bG:List CT->List TV
 | []=>[]
 | t::ts=>z01 t::bG ts
abbrev aI(c:Bool)(A B:Prop):Prop:=(c=true->A)/\(c=false->B)
def eV(l:List Nat):List (Nat × Md):=l.map λi=>(i,.one .d)
def dO(n:Nat):List jr:=List.replicate n .d
@[reducible] def b6(v:TV):aB:=⟨v,[],[],false,[]⟩
@[reducible] def f5(v:TV):aB:=⟨v,[],[],true,[]⟩
theorem tcg{P:Program}{Γ:aF}{f:FuncId}{tc:af}{rs:List (bn × Md)}{n nb no:Nat}{xs:List TV}{r:aB}{sg:List Sh}(hm:P.follows .mixedOrders=true)(hΓ:wX P Γ)(hs:wa P f=some (tc.er,rs.map Prod.fst,n))
  (hq:((ZW sg xs&&Nat.ble xs.length n)&&(Nat.beq (d9 xs) nb&&Nat.beq (eE xs) no))=true) (h:dt (aN Γ (nb+no) tc (TQ nb no rs (λr'=>r'=r)) (qY xs))):aK P f xs r:=by
 simp only[Bool.and_eq_true]at hq;exact QMn hm hΓ hs hq.1.1 hq.1.2 (Nat.eq_of_beq_eq_true hq.2.1) (Nat.eq_of_beq_eq_true hq.2.2) h
theorem bz(Γ:aF)(tc:af)(rs:List (bn × Md))(nb no n:Nat)(row:aJ){f:FuncId}{xs:List TV}{r:aB}(hΓ:wX Tryz.prog Γ)(F:(aB->Prop)->Prop)(h:Ac xs->F (λr'=>r'=r))
  (hx:xs.all TV.ng=true:=by exact rfl) (hs:wa Tryz.prog f=some (tc.er,rs.map Prod.fst,n):=by kernel_rfl)
  (hq:((ZW row.sg xs&&Nat.ble xs.length n)&&(Nat.beq (d9 xs) nb&&Nat.beq (eE xs) no))=true:=by kernel_rfl) (e:∀ K,F K=aN Γ (nb+no) tc (TQ nb no rs K) (qY xs):=by intro K;kernel_rfl):aK Tryz.prog f xs r :=
 QLk hx λhb=>tcg QGI hΓ hs hq ⟨e _ ▸ h hb⟩
theorem kc{P:Program}{row:aJ}{Γ:List aJ}(h:Qf P row)(hs:gR P Γ):gR P (row::Γ):=gR.cons h hs
theorem kn{P:Program}:gR P []:=gR.nil
end Go.Proofs.YtdplaepmjogjjaaGreat.Am
namespace Go.Proofs.YtdplaepmjogjjaaGreat.Am
open Sz
abbrev bt:=Int × Int
abbrev Ql:=Int × List Int
abbrev aH:=Int × Int × Int × List Int
abbrev QC:=Int × List (List Int)
abbrev Qo:=List Int × List Int
abbrev Qd:=Int × List Ql
abbrev QN:=List (List Int) × Int × Bool
def QXi{α:Type}(_:α):Bool:=true
def F5{α β:Type}(_:α)(_:β):Bool:=true
def QRX{α β γ:Type}(_:α)(_:β)(_:γ):Bool:=true
def QNL{α β γ δ:Type}(_:α)(_:β)(_:γ)(_:δ):Bool:=true
def QPl{α β γ δ ε:Type}(_:α)(_:β)(_:γ)(_:δ)(_:ε):Bool:=true
def Z6(n:Nat)(left:Int):Int:=if(n:Int)<=left then left-n else -1
def bg{α:Type}[Sz α](x:α)(left:Int):Int:=Z6 (sz x) left
def pl(left:Int):Prop:=-1<=left/\left<=1048576
def bJ{α:Type}[Sz α](_:α)(left:Int):Prop:=pl left
def aY{α:Type}[DecidableEq α](x y:α):Bool:=decide (x=y)
def bB{α:Type}[Sz α](x:α):Prop:=sz x<=1048576
def bj(x a b:Int):Bool:=decide (a<=x)&&decide (x<=b)
def Zv(x:Int):Bool:=decide (-2147483647<=x)&&decide (x<=2147483647)
def Z3(v:List Int):Bool:=v.all Zv
def QK(v:List Int):Bool:=bj v.length 1 6&&Z3 v
def Yq(x:Ql):Bool:=QK x.2&&decide (0<=x.1)&&decide (x.1<5)
def QZ(q:Qd):Bool:=decide (1<=q.1)&&decide (q.1<=5)&&decide ((q.2.length:Int)<=q.1)&&q.2.all Yq
end Go.Proofs.YtdplaepmjogjjaaGreat.Am
namespace Go.Proofs.YtdplaepmjogjjaaGreat.Am
open Go Sz
abbrev Zx:=List aH
abbrev Qc:=Int × List bt × List aH × Bool × Bool × List QC × List (List Int) × List Int × List Int × List Int × List Int × List (List Int) × Int × Bool
abbrev ZK:=List aH × List Int × Int × List Bool × List Int × List Int
abbrev Qm:=List Qo × List Qc × List Qd × List Qd
abbrev cc:=Int × Int × List Int
abbrev b5:aH:=(0,0,0,[])
abbrev eF:bt:=(0,0)
abbrev QS:QC:=(0,[])
abbrev QW:Qo:=([],[])
abbrev Qv:Qd:=(0,[])
abbrev Qy:Qc:=(0,[],[],false,false,[],[],[],[],[],[],[],0,false)
abbrev QO:List CT:=[.int .i64,.int .i64]
abbrev Qs:List CT:=[.int .i64,.sl [.int .i64]]
abbrev aM:List CT:=[.int .i64,.int .i64,.int .i64,.sl [.int .i64]]
abbrev QD:List CT:=[.int .i64,.sl [.sl [.int .i64]]]
abbrev QG:List CT:=[.sl [.int .i64],.sl [.int .i64]]
abbrev Qj:List CT:=[.int .i64,.sl Qs]
abbrev Zj:List CT:=[.sl [.sl [.int .i64]],.int .i64,.bool]
abbrev Qe:List CT:=[.int .i64,.sl QO,.sl aM,.bool,.bool,.sl QD,.sl [.sl [.int .i64]],.sl [.int .i64],.sl [.int .i64],.sl [.int .i64],.sl [.int .i64],.sl [.sl [.int .i64]],.int .i64,.bool]
abbrev QR:List CT:=[.sl QG,.sl Qe,.sl Qj,.sl Qj]
set_option synthInstance.maxSize 2000
set_option synthInstance.maxHeartbeats 200000
instance:DecidableEq aH:=inferInstance
instance:DecidableEq QC:=inferInstance
instance:DecidableEq Qd:=inferInstance
abbrev xe:=List Int × List Int × List Int × List Int × QN
abbrev xf:=List QC × List (List Int) × xe
abbrev xg:=List aH × Bool × Bool × xf
instance:DecidableEq QN:=inferInstance
instance:DecidableEq xe:=inferInstance
instance:DecidableEq xf:=inferInstance
instance:DecidableEq xg:=inferInstance
instance:DecidableEq Qc:=(inferInstance:DecidableEq (Int × List bt × xg))
instance:DecidableEq ZK:=inferInstance
instance:DecidableEq Qm:=inferInstance
instance:Sz Qc:=inferInstance
instance:Sz ZK:=inferInstance
instance:Sz Qm:=inferInstance
abbrev bU(s:Qc):=s.1
abbrev Qw(s:Qc):=s.2.1
abbrev aE(s:Qc):=s.2.2.1
abbrev Qn(s:Qc):=s.2.2.2.1
abbrev Qp(s:Qc):=s.2.2.2.2.1
abbrev Qi(s:Qc):=s.2.2.2.2.2.1
abbrev QB(s:Qc):=s.2.2.2.2.2.2.1
abbrev sX(s:Qc):=s.2.2.2.2.2.2.2.1
abbrev sY(s:Qc):=s.2.2.2.2.2.2.2.2.1
abbrev sG(s:Qc):=s.2.2.2.2.2.2.2.2.2.1
abbrev sD(s:Qc):=s.2.2.2.2.2.2.2.2.2.2.1
abbrev Qz(s:Qc):=s.2.2.2.2.2.2.2.2.2.2.2.1
abbrev Qx(s:Qc):=s.2.2.2.2.2.2.2.2.2.2.2.2.1
abbrev bh(s:Qc):=s.2.2.2.2.2.2.2.2.2.2.2.2.2
abbrev lW(s:Qc):QN:=(Qz s,Qx s,bh s)
abbrev JO(c:ZK):=c.1
abbrev JL(c:ZK):=c.2.1
abbrev F6(c:ZK):=c.2.2.1
abbrev SB(c:ZK):=c.2.2.2.1
abbrev QPm(c:ZK):=c.2.2.2.2.1
abbrev QA(p:Qm):=p.1
abbrev QE(p:Qm):=p.2.1
abbrev Qr(p:Qm):=p.2.2.1
abbrev Qq(p:Qm):=p.2.2.2
abbrev Zn(s:Qc):Zx:=s.2.2.1
def QH(v:List Int)(n:Int):Bool:=QK v&&((v.length:Int)==n)
def Yr(v:List Int)(n:Int):Bool:=((v.length:Int)==0)||QH v n
def Jt:List QC->Int->Int->Int
 | [],_,_=>-1
 | x::r,m,k=>if x.1=m then k else Jt r m (k+1)
def QJ(l:List QC)(m:Int):Int:=Jt l m 0
def YD(o:aH):Int :=
 if bj o.2.1 1 6&&bj o.2.2.1 1 6 then(if o.1=1\/o.1=5 then o.2.1*o.2.2.1 else if o.1=2 then o.2.1 else if o.1=4 then 1 else 0) else 0
def Zh(o:aH):Bool :=
 bj o.1 1 5&&bj o.2.1 1 6&&bj o.2.2.1 1 6&&(o.1==1||o.2.1==o.2.2.1)&&((o.2.2.2.length:Int)==YD o)&&Z3 o.2.2.2
def YI:Option Int->List aH->Bool
 | _,[]=>true
 | p,o::r=>Zh o&&(match p with | none=>true | some q=>q==o.2.1)&&YI (some o.2.2.1) r
def Zc(m:Zx):Bool:=bj m.length 1 8&&YI none m
def ZO(m:Zx):Int:=if Zc m then(aq b5 m 0).2.1 else 0
def Zu(m:Zx):Int:=if Zc m then(aq b5 m (m.length-1)).2.2.1 else 0
def SC(m:Zx)(p:Qo):Bool:=Zc m&&QH p.1 (ZO m)&&QH p.2 (Zu m)
def QG2(m:Zx)(b:List Qo):Bool:=Zc m&&bj b.length 1 5&&b.all (SC m)
def SD(n:Int):Option Int->List Int->Bool
 | _,[]=>true
 | p,c::r=>bj c 1 n&&(match p with | none=>true | some q=>decide (q<c))&&SD n (some c) r
def rf(m:Zx)(cB:List Int):Bool:=Zc m&&SD (m.length-1) none cB
def SE(m:Zx)(cB:List Int)(s:Int):Int × Int :=
 if rf m cB&&bj s 0 cB.length then(if 0<s then aq 0 cB (s.toNat-1) else 0,if s<cB.length then aq 0 cB s.toNat else m.length) else(0,0)
def slice{α:Type}(l:List α)(a b:Int):List α:=(l.drop a.toNat).take (b.toNat-a.toNat)
def Ah(c:ZK):Int:=if rf c.1 c.2.1 then aG (c.2.1.length+1) else 0
def SF(c:ZK)(s:Int):Int :=
 let r:=SE c.1 c.2.1 s
 aG (((slice c.1 r.1 r.2).map λo=>o.2.1).sum+if r.1<r.2 then(aq b5 c.1 (r.2.toNat-1)).2.2.1 else 0)
def SG(c:ZK)(s:Int):Bool:=decide (0<=s)&&decide (s<c.2.2.2.1.length)&&aq false c.2.2.2.1 s.toNat
def SH(c:ZK)(s:Int):Int × Int :=
 let r:=SE c.1 c.2.1 s
 if r.1=r.2 then(0,0) else((aq b5 c.1 r.1.toNat).2.1,(aq b5 c.1 (r.2.toNat-1)).2.2.1)
def QT8(c:ZK)(s:Int):Int:=if SG c s then(SH c s).1 else SF c s
def jP(a b:Int):Int:=if b<a then b else a
def jQ(a b:Int):Int:=if a<b then b else a
def QWX(c:ZK)(s f6:Int):Int :=
 if bj s 0 (Ah c-1)&&bj f6 1 5&&decide (Ah c<=4) then
  (let k:=if c.2.2.1=2 then jP f6 (Ah c-s) else f6
   let z:=SH c s
   aG (aG (aG (k*QT8 c s)+jQ z.1 z.2)+if SG c s then SF c s else 0))
 else 0
def QIF(c:ZK):Bool:=(c.2.2.2.2.1.length==c.2.1.length)&&c.2.2.2.2.1.all λn=>bj n 1 5
def SI(c:ZK)(f6:Int):List Int->Int->Bool
 | [],_=>true
 | n::r,s=>bj n (QWX c s f6) 100000&&SI c f6 r (s+1)
def QOw(c:ZK)(f6:Int):Bool:=((c.2.2.2.2.2.length:Int)==Ah c)&&SI c f6 c.2.2.2.2.2 0
def SJ(st s mi:Int):Bool:=bj st 1 4&&bj s 0 (st-1)&&bj mi 1 5
def QVs(ds st s mi:Int):Int:=if SJ st s mi then(if ds=2 then jP mi (st-1-s) else mi) else 0
def SK(st s m:Int):List bt:=(if 0<s then [(1,m)] else [])++[(2,m)]++(if s<st-1 then [(3,m)] else [])
def QJS(st s m:Int)(nC:Bool):List bt:=(if s<st-1 then [(4,m)] else [])++(if nC then [(5,m)] else [])++[(6,m)]++(if 0<s then [(7,m)] else [])
def QSV(ds st s mi:Int)(nC:Bool):List bt :=
 if bj ds 1 2&&SJ st s mi then
  (let w:=(QVs ds st s mi).toNat
   ((List.range w).flatMap λm:Nat=>SK st s (m:Int))++((List.range mi.toNat).flatMap λm:Nat=>(if(m:Int)+w<mi then SK st s ((m:Int)+w) else [])++QJS st s (m:Int) nC)++[(8,0)])
 else []
def YV:List aH->List (List Int)->Bool
 | o::os,r::rs=>(r.length==o.2.2.2.length)&&YV os rs
 | _,_=>true
def YR(m:Zx)(rows:List (List Int)):Bool:=(rows.length==m.length)&&YV m rows
def YU(ops:List aH)(k:Nat):Int:=if k<ops.length then(aq b5 ops k).2.1 else(aq b5 ops (ops.length-1)).2.2.1
def YG(ops:List aH):Nat->List (List Int)->Bool
 | _,[]=>true
 | k,r::rs=>QH r (YU ops k)&&YG ops (k+1) rs
def ZQ(ops:List aH)(rows:List (List Int))(n:Int):Bool:=YG ops 0 (rows.take n.toNat)
def xh(ops:List aH)(rows:List (List Int))(n:Int):Prop:=1<=ops.length/\0<=n/\n<=rows.length
def ZI(s:Qc):Int:=if s.2.2.2.2.1 then 1 else s.2.2.1.length+1
def Yf(s:Qc)(x:QC):Bool:=((x.2.length:Int)==ZI s)&&ZQ s.2.2.1 x.2 (ZI s)
def QU(s:Qc):Bool :=
 Zc s.2.2.1&&bj s.1 0 s.2.1.length&&YR s.2.2.1 s.2.2.2.2.2.2.2.2.2.2.2.1&&s.2.2.2.2.2.1.all (Yf s) &&
  (Yr s.2.2.2.2.2.2.2.1 (ZO s.2.2.1)&&Yr s.2.2.2.2.2.2.2.2.2.2.1 (ZO s.2.2.1)&&Yr s.2.2.2.2.2.2.2.2.1 (Zu s.2.2.1)&&Yr s.2.2.2.2.2.2.2.2.2.1 (Zu s.2.2.1))
def rh(s:Qc):bt:=if bj s.1 0 (s.2.1.length-1) then aq eF s.2.1 s.1.toNat else(0,0)
def Qk(p:Qm)(s:Int):bt:=if bj s 0 (p.2.1.length-1) then rh (aq Qy p.2.1 s.toNat) else(0,0)
def Je(x:Qo):Bool:=QK x.1&&QK x.2
def Ja(nb:Int):List Qc->Bool
 | []=>true
 | s::r=>QU s&&(s.2.2.2.1==decide (r.length=0))&&s.2.1.all (λx=>bj x.2 0 (nb-1))&&Ja nb r
def Zk(p:Qm):Bool :=
 bj p.2.1.length 1 4&&(p.2.2.1.length+1==p.2.1.length)&&(p.2.2.2.length+1==p.2.1.length)&&bj p.1.length 1 5 &&
  (p.1.all Je&&(p.2.2.1.all QZ&&p.2.2.2.all QZ)&&Ja p.1.length p.2.1)
def oS(q:Qd):Bool:=decide ((q.2.length:Int)<q.1)
def Y3(s:Qc):Bool:=decide ((s.2.1.length:Int)-1<=s.1)
def oT(p:Qm):Bool:=p.2.1.all Y3
def Jm(p:Qm)(s kind:Int):Bool :=
 let n:Int:=p.2.1.length
 if kind=1 then decide (0<s)&&decide (0<(aq Qv p.2.2.1 (s.toNat-1)).2.length)
 else if kind=3 then decide (s<n-1)&&oS (aq Qv p.2.2.1 s.toNat)
 else if kind=4 then decide (s<n-1)&&decide (0<(aq Qv p.2.2.2 s.toNat).2.length)
 else if kind=7 then decide (0<s)&&oS (aq Qv p.2.2.2 (s.toNat-1))
 else if kind=2\/kind=5\/kind=6 then true
 else if kind=8 then oT p else false
def ZG(p:Qm)(s:Int):Bool:=Zk p&&bj s 0 (p.2.1.length-1)&&Jm p s (Qk p s).1
end Go.Proofs.YtdplaepmjogjjaaGreat.Am
namespace Go.Proofs.YtdplaepmjogjjaaGreat.Am
open Go Sz
theorem F7:pl 1048576:=⟨by omega,by omega⟩
theorem Jp{n:Nat}{left:Int}(h:pl left):pl (Z6 n left):=by
 unfold Z6 pl at *
 split <;> omega
theorem Ju{α β:Type}[Sz α][Sz β]{x:α}{y:β}{left:Int}(hl:0<=bg x left):bg y (bg x left)=bg (x,y) left:=by
 unfold bg Z6 at *;rw[YJ]
 split at hl
 ·rename_i h1;rw[if_pos h1]
  split <;> split <;> omega
 ·omega
theorem Z0{α γ:Type}[Sz α][Sz γ]{x:α}{z:γ}{left:Int}(hl:bg x left<0)(h:sz x<=sz z)(hp:-1<=left):-1=bg z left:=by
 unfold bg Z6 at *
 split at hl
 ·omega
 ·rw[if_neg (by omega)]
theorem QSO{α:Type}[Sz α]{x:α}{left:Int}(h:¬ bg x left<0)(hl:left<=1048576):bB x:=by
 unfold bg Z6 at h;unfold bB
 split at h <;> omega
theorem QO6{α:Type}[Sz α](l:List α)(h:∀ x:α,sz x=0):sz l=l.length:=by
 induction l with
 | nil=>rfl
 | cons x l ih=>simp[ih,h];omega
theorem SL{α:Type}[Sz α]{a:List α}{left:Int}(h:bJ a left)(hb:a.length<=9223372036854775807):aG (left-(a.length:Int))=left-a.length:=by
 unfold bJ pl at h;exact QF (by omega) (by omega)
theorem SM{α:Type}[Sz α]{a:List α}{left:Int}{Q:Int->Prop}(hf:∀ x:α,sz x=0)(h:bJ a left)(hb:a.length<=9223372036854775807)(hq:Q (bg a left)) :
  ((decide (aG (left-(a.length:Int))<(0:Int))=true->Q (-1))/\(decide (aG (left-(a.length:Int))<(0:Int))=false->Q (aG (left-(a.length:Int))))):=by
 rw[SL h hb];unfold bg Z6 at hq;rw[QO6 a hf]at hq;constructor
 ·intro h1;simp only[decide_eq_true_eq]at h1;rw[if_neg (by omega)]at hq;exact hq
 ·intro h1;simp only[decide_eq_false_iff_not]at h1;rw[if_pos (by omega)]at hq;exact hq
theorem ri{α:Type}[Sz α](d:α){a:List α}{left:Int}{Q:Int->Prop}{A:Int->Int->Prop}(h:bJ a left)(hb:a.length<=9223372036854775807)
  (hA:∀(l i:Int),((decide (i<(a.length:Int))=true->((((0:Int)<=i/\Int.toNat i<a.length)/\(bJ (aq d a (Int.toNat i)) l))/\((decide (bg (aq d a (Int.toNat i)) l<(0:Int))=true->Q (-1))/\(decide (bg (aq d a (Int.toNat i)) l<(0:Int))=false->A (bg (aq d a (Int.toNat i)) l) (aG (i+(1:Int)))))))/\(decide (i<(a.length:Int))=false->Q l))->A l i)
  (hq:Q (bg a left)) :
  ((decide (aG (left-(a.length:Int))<(0:Int))=true->Q (-1))/\(decide (aG (left-(a.length:Int))<(0:Int))=false->A (aG (left-(a.length:Int))) 0)):=by
 rw[SL h hb];constructor
 ·intro h1;simp only[decide_eq_true_eq]at h1;have hle:=Ym a;rw[bg,Z6,if_neg (by omega)]at hq;exact hq
 ·intro h1;simp only[decide_eq_false_iff_not]at h1;have key:∀ l:Int,0<=l->l<=1048576->(if(sz a-a.length:Int)<=l then l-(sz a-a.length:Int) else -1)=bg a left->A l (0:Nat):=by
   refine Zf a (λr k=>∀ l:Int,0<=l->l<=1048576->(if(sz r-r.length:Int)<=l then l-(sz r-r.length:Int) else -1)=bg a left->A l k) ?_ ?_
   ·intro l hl oU he;refine hA l _ ⟨λhc=>by simp at hc,λ_=>?_⟩;have e0:((sz ([]:List α):Nat):Int)-(([]:List α).length:Nat)=0:=rfl;rw[e0,if_pos hl]at he;rw[<- he]at hq;simpa using hq
   ·intro k x r hk aW hg ih l hl oU he;have hr:=Ym r;have e1:((sz (x::r):Nat):Int)-((x::r).length:Nat)=sz x+(sz r-r.length):=by
     rw[Jq,List.length_cons];omega
    rw[e1]at he;refine hA l _ ⟨λ_=>?_,λhc=>by simp at hc;omega⟩;rw[Int.toNat_natCast,hg d];refine⟨⟨⟨by omega,aW⟩,by unfold bJ pl;omega⟩,λh2=>?_,λh2=>?_⟩
    ·simp only[decide_eq_true_eq]at h2;unfold bg Z6 at h2
     split at h2
     ·omega
     ·rw[if_neg (by omega)]at he;rw[he];exact hq
    ·simp only[decide_eq_false_iff_not]at h2;unfold bg Z6 at h2 ⊢
     split at h2
     rotate_left
     ·omega
     rw[if_pos (by assumption),QF (by omega) (by omega),show(k:Int)+1=(k+1:Nat) by omega];refine ih _ (by omega) (by omega) ?_;rw[<- he]
     split <;> split <;> omega
  have:=key (left-a.length) (by omega) (by unfold bJ pl at h;omega) (by
   unfold bg Z6
   split <;> split <;> omega)
  exact this
theorem J9{α:Type}[DecidableEq α](d:α){a b:List α}{Q:Bool->Prop}{A:Int->Prop}{E:α->α->Bool}(hE:∀ x y,E x y=decide (x=y))(hb:a.length<=9223372036854775807)
  (hA:∀(i:Int),((decide (i<(a.length:Int))=true->((((0:Int)<=i/\Int.toNat i<a.length)/\((0:Int)<=i/\Int.toNat i<b.length))/\(((!(E (aq d a (Int.toNat i)) (aq d b (Int.toNat i))))=true->Q false)/\((!(E (aq d a (Int.toNat i)) (aq d b (Int.toNat i))))=false->A (aG (i+(1:Int)))))))/\(decide (i<(a.length:Int))=false->Q true))->A i)
  (hq:Q (aY a b)):((((a.length:Int) != (b.length:Int))=true->Q false)/\(((a.length:Int) != (b.length:Int))=false->A 0)):=by
 constructor
 ·intro h;have:a≠b:=by rintro rfl;simp at h
  simpa[aY,this]using hq
 ·intro h;have hl:a.length=b.length:=by
   have h:((a.length:Int)==(b.length:Int))=true:=by simpa[bne]using h
   have:=of_decide_eq_true (by simpa using h:decide ((a.length:Int)=b.length)=true);omega
  have key:aY (a.drop 0) (b.drop 0)=aY a b->A (0:Nat):=by
   refine Zf a (λr k=>aY r (b.drop k)=aY a b->A k) ?_ ?_
   ·intro he;refine hA _ ⟨λhc=>by simp at hc,λ_=>?_⟩;rw[<- he]at hq;simpa[aY,hl]using hq
   ·intro k x r hk aW hg ih he;refine hA _ ⟨λ_=>?_,λhc=>by simp at hc;omega⟩;obtain⟨y,s,fb⟩:∃ y s,b.drop k=y::s:=by
     cases fb:b.drop k with
     | nil=>have:=congrArg List.length fb;simp at this;omega
     | cons y s=>exact⟨y,s,rfl⟩
    rw[Int.toNat_natCast,hg d,ZJ fb d,hE];refine⟨⟨⟨by omega,aW⟩,by omega,by omega⟩,λh1=>?_,λh1=>?_⟩
    ·have dK:x≠y:=by simpa using h1
     rw[<- he,fb]at hq;simpa[aY,dK]using hq
    ·have hxy:x=y:=by simpa using h1
     rw[QF (by omega) (by omega),show(k:Int)+1=(k+1:Nat) by omega];refine ih ?_;rw[<- he,fb,Zz fb];simp[aY,hxy]
  exact key rfl
theorem QX4{a b:List Int}{Q:Bool->Prop}{A:Int->Prop}(hb:a.length<=9223372036854775807)
  (hA:∀(i:Int),((decide (i<(a.length:Int))=true->((((0:Int)<=i/\Int.toNat i<a.length)/\((0:Int)<=i/\Int.toNat i<b.length))/\((((aq (0:Int) a (Int.toNat i)) != (aq (0:Int) b (Int.toNat i)))=true->Q false)/\(((aq (0:Int) a (Int.toNat i)) != (aq (0:Int) b (Int.toNat i)))=false->A (aG (i+(1:Int)))))))/\(decide (i<(a.length:Int))=false->Q true))->A i)
  (hq:Q (aY a b)):((((a.length:Int) != (b.length:Int))=true->Q false)/\(((a.length:Int) != (b.length:Int))=false->A 0)) :=
 J9 (0:Int) (E:=λx y=>x==y) (λx y=>by rw[Bool.eq_iff_iff];simp) hb (λi h=>hA i h) hq
theorem oV{α:Type}(d:α){l:List α}{c p:α->Bool}{Q:Bool->Prop}{A:Int->Prop}{e:Bool}(hb:l.length<=9223372036854775807)(hc:∀ x,c x = !p x)
  (hA:∀(i:Int),((decide (i<(l.length:Int))=true->(((0:Int)<=i/\Int.toNat i<l.length)/\((c (aq d l (Int.toNat i))=true->Q false)/\(c (aq d l (Int.toNat i))=false->A (aG (i+(1:Int)))))))/\(decide (i<(l.length:Int))=false->Q e))->A i)
  (hq:Q (l.all p&&e)):A 0:=by
 have key:(l.drop 0).all p=l.all p->A (0:Nat):=by
  refine Zf l (λr k=>r.all p=l.all p->A k) ?_ ?_
  ·intro he;refine hA _ ⟨λh=>by simp at h,λ_=>?_⟩;rw[<- he]at hq;simpa using hq
  ·intro k x r hk aW hg ih he;refine hA _ ⟨λ_=>?_,λh=>by simp at h;omega⟩;rw[Int.toNat_natCast,hg,QF (by omega) (by omega)];refine⟨⟨by omega,aW⟩,λh=>?_,λh=>ih ?_⟩
   ·have hp:p x=false:=by simpa[hc]using h
    have:l.all p=false:=by rw[<- he,List.all_cons,hp];rfl
    rw[this]at hq;exact hq
   ·have hp:p x=true:=by simpa[hc]using h
    rw[<- he,List.all_cons,hp];rfl
 exact key rfl
end Go.Proofs.YtdplaepmjogjjaaGreat.Am

set_option linter.all false
namespace Go.Proofs.YtdplaepmjogjjaaGreat.Am
open Go Sz
theorem rj{a b:Int}(h1:1<=a)(h2:a<=6)(h3:1<=b)(h4:b<=6):1<=a*b/\a*b<=36:=by
 have:a=1\/a=2\/a=3\/a=4\/a=5\/a=6:=by omega
 rcases this with rfl | rfl | rfl | rfl | rfl | rfl <;> omega
theorem Za{x a b:Int}:bj x a b=true↔a<=x/\x<=b:=by simp[bj]
theorem rl{n:Nat}(h1:1<=n)(h2:n<=9223372036854775807):Int.toNat (aG ((n:Int)-1))=n-1/\(0:Int)<=aG ((n:Int)-1):=by
 rw[QF (by omega) (by omega)];omega
theorem Yw{m:Zx}(h:Zc m=true):1<=m.length/\m.length<=8:=by
 simp only[Zc,Bool.and_eq_true,Za]at h;omega
def JK(m:Zx)(k:Nat):Option Int:=if k=0 then none else some (aq b5 m (k-1)).2.2.1
theorem SN{o:aH}(h:Zh o=true):1<=o.2.1/\o.2.1<=6/\1<=o.2.2.1/\o.2.2.1<=6:=by
 simp only[Zh,Bool.and_eq_true,Za]at h;omega
theorem Ai{α:Type}{l:List α}{i:Nat}{x:α}(h:l[i]? = some x)(d:α):aq d l i=x:=by
 unfold aq;rw[List.getD_eq_getElem?_getD,h];rfl
theorem F8{α:Type}{l:List α}{i:Nat}(h:i<l.length)(d:α):l[i]? = some (aq d l i):=by
 unfold aq;rw[List.getD_eq_getElem?_getD,List.getElem?_eq_getElem h];rfl
theorem JA{α:Type}{l:List α}{i:Nat}(h:i<l.length)(d:α):aq d l i∈l:=List.mem_of_getElem? (F8 h d)
theorem QVo{α:Type}(d x:α)(l:List α)(i:Nat):aq d (x::l) (i+1)=aq d l i:=by simp[aq]
theorem Aj{α:Type}(d x:α)(l:List α):aq d (x::l) 0=x:=by simp[aq]
theorem F9:∀ {l:List aH} {p:Option Int},YI p l=true->∀(i:Nat)(x:aH),l[i]? = some x->Zh x=true/\(∀ y:aH,l[i+1]? = some y->y.2.1=x.2.2.1)
 | [],p,h,i,x,hx=>by simp at hx
 | o::r,p,h,i,x,hx=>by
  simp only[YI,Bool.and_eq_true]at h
  cases i with
  | zero =>
   simp at hx;subst hx;refine⟨h.1.1,λy hy=>?_⟩
   cases r with
   | nil=>simp at hy
   | cons q r =>
    simp at hy;subst hy;have:=h.2;simp only[YI,Bool.and_eq_true]at this;have:=this.1.2;simp at this;omega
  | succ i =>
   have:=F9 h.2 i x (by simpa using hx);exact⟨this.1,λy hy=>this.2 y (by simpa using hy)⟩
theorem QSi{m:Zx}(h:Zc m=true){k:Nat}(h0:0<k)(hk:k<=m.length):YU m k=(aq b5 m (k-1)).2.2.1:=by
 unfold YU;by_cases aW:k<m.length
 ·rw[if_pos aW];simp only[Zc,Bool.and_eq_true]at h;have:=(F9 h.2 (k-1) _ (F8 (by omega) b5)).2 (aq b5 m k) (by rw[show k-1+1=k by omega];exact F8 aW b5);exact this
 ·rw[if_neg aW,show m.length=k by omega]
theorem QFt{m:Zx}(h:Zc m=true):YU m 0=(aq b5 m 0).2.1:=by
 have:=Yw h;unfold YU;rw[if_pos (by omega)]
theorem QHq{α:Type}(l:List α)(a b:Int)(h0:0<=a)(h1:a<=b)(h2:b<=l.length)(P:List α->Nat->Prop)(he:P [] b.toNat)
  (hs:∀(k:Nat)(x:α)(r:List α),a<=k->(k:Int)<b->k<l.length->(∀ d,aq d l k=x)->P r (k+1)->P (x::r) k):P (slice l a b) a.toNat:=by
 suffices ∀(n k:Nat),k+n=b.toNat->a.toNat<=k->P ((l.drop k).take n) k from this (b.toNat-a.toNat) a.toNat (by omega) (Nat.le_refl _)
 intro n
 induction n with
 | zero=>intro k hk _;rw[List.take_zero,show k=b.toNat by omega];exact he
 | succ n ih =>
  intro k hk hak;have aW:k<l.length:=by omega
  obtain⟨x,r,hx⟩:∃ x r,l.drop k=x::r:=by
   cases hx:l.drop k with
   | nil=>have:=congrArg List.length hx;simp at this;omega
   | cons x r=>exact⟨x,r,rfl⟩
  rw[hx,List.take_succ_cons];have:=ih (k+1) (by omega) (by omega);rw[Zz hx]at this;exact hs k x _ (by omega) (by omega) aW (ZJ hx) this
def rm(b:Bool)(x y:Prop):Prop:=match b with | true=>x | false=>y
theorem Ak{α:Type}(d:α){l:List α}{f:α->Bool}:l.all f=true↔∀ j,j<l.length->f (aq d l j)=true:=by
 rw[List.all_eq_true];constructor
 ·intro h j hj;exact h _ (JA hj d)
 ·intro h x hx;obtain⟨j,hj⟩:=List.getElem?_of_mem hx;have:=h j (List.getElem?_eq_some_iff.1 hj).1;rwa [Ai hj]at this
theorem QHi{α:Type}{l r:List α}{x:α}{k:Nat}(h:l.drop k=x::r):r.length=l.length-k-1:=by
 have:=congrArg List.length h;simp at this;omega
theorem SO{α:Type}{l r:List α}{x:α}{k:Nat}(h:l.drop k=x::r)(hl:l.length<=9223372036854775807):((k:Int)==aG ((l.length:Int)-1))=decide (r.length=0):=by
 have h1:=QHi h;have h2:=Ae h;rw[QF (by omega) (by omega),Bool.eq_iff_iff];simp only[beq_iff_eq,decide_eq_true_eq];omega
end Go.Proofs.YtdplaepmjogjjaaGreat.Am
namespace Go.Proofs.YtdplaepmjogjjaaGreat.Am
open Go Go.RowKit Go.ChangeShapes Go.WideShapes Go.ChangeAt
def xi(L:TypeId->Option (List CT))(P:Program):List Field->Nat->Option (List CT)
 | [],_=>some []
 | f::fs,off=>match L f.type,xi L P fs (off+P.cellsOf f.type) with
  | some ts,some us=>bif Nat.beq f.offset off&&Nat.beq (P.cellsOf f.type) ts.length then some (ts++us) else none
  | _,_=>none
def lay(P:Program):Nat->TypeId->Option (List CT)
 | 0,_=>none
 | k+1,t=>match P.underlying t with
  | some .bool=>some [.bool]
  | some (.int q)=>some [.int q]
  | some .string=>some [.str]
  | some (.slice e)=>match lay P k e with
   | some ts=>bif Nat.beq (P.cellsOf e) ts.length&&Nat.blt 0 ts.length then some [.sl ts] else none
   | none=>none
  | some (.struct fs)=>match xi (lay P k) P fs.toList 0 with
   | some ts=>bif Nat.beq (P.cellsOf t) ts.length then some ts else none
   | none=>none
  | _=>none
mutual
def CT.wf:(t:CT)->t.den->Prop
 | .int k,x=>k.min<=(x:Int)/\(x:Int)<=k.max
 | .bool,_=>True
 | .str,_=>True
 | .dF,_=>True
 | .sl ts,l=>∀ x:aT ts,x∈(l:List (aT ts))->aT.wf ts x
def aT.wf:(ts:List CT)->aT ts->Prop
 | [],_=>True
 | t::ts,x=>t.wf (hd ts x)/\aT.wf ts (tl ts x)
end
def Sh.wf:(s:Sh)->s.den->Prop
 | .c t,x=>t.wf x
 | .a ts,x=>aT.wf ts x
 | .b ts,x=>aT.wf ts x
 | .o _ _,_=>False
 | .d _,_=>False
 | .s _,_=>False
def Al:(ss:List Sh)->gS ss->Prop
 | [],_=>True
 | s::ss,x=>s.wf x.1/\Al ss x.2
def aT.app:(ts:List CT)->{us:List CT}->aT ts->aT us->aT (ts++us)
 | [],_,_,y=>y
 | t::ts,us,x,y=>lP (ts++us) (hd ts x) (aT.app ts (tl ts x) y)
theorem SP:∀(ts:List CT){us:List CT}(x:aT ts)(y:aT us),aU (ts++us) (aT.app ts x y)=aU ts x++aU us y
 | [],us,x,y=>by simp[aU,aT.app]
 | t::ts,us,x,y=>by
  show aU (t::(ts++us)) (lP (ts++us) (hd ts x) (aT.app ts (tl ts x) y))=_;rw[aU,aU,wq,wu,SP ts];rfl
theorem SQ:∀(ts:List CT){us:List CT}{x:aT ts}{y:aT us},aT.wf ts x->aT.wf us y->aT.wf (ts++us) (aT.app ts x y)
 | [],us,x,y,_,hy=>hy
 | t::ts,us,x,y,hx,hy=>by
  rw[aT.wf]at hx;show aT.wf (t::(ts++us)) (lP (ts++us) (hd ts x) (aT.app ts (tl ts x) y));rw[aT.wf,wq,wu];exact⟨hx.1,SQ ts hx.2 hy⟩
theorem nD:∀(ts:List CT)(x:aT ts),(aU ts x).length=ts.length
 | [],x=>by simp[aU]
 | t::ts,x=>by rw[aU,List.length_cons,nD ts,List.length_cons]
section
variable {H:Type} {enc:TypeId × Value->H} {P:Program} {w:World} {held:Bool}
def Old(w:World)(b:Nat):Prop:=b<w.heap.size
theorem QNK{k:IntKind}{n:Int}(h:(Lit.int k n).wf=true):k.min<=n/\n<=k.max:=by
 simpa[Lit.wf]using h
theorem QER{a:Addr}{v:Value}(h:w.cell? a=some v):a.block<w.heap.size/\a.spot=none:=by
 unfold World.cell? at h
 split at h
 ·rename_i hb;have:=(Array.getElem?_eq_some_iff.1 hb).1;refine⟨this,?_⟩
  split at h
  ·cases h
  ·rename_i hs;simpa using hs
 ·cases h
theorem SR{k n:Nat}(ih:∀ t cs d ps ts,DataW.trod enc P w 0 (λ_=>true) held n t cs=some (d,ps)->lay P k t=some ts->cs.length=ts.length/\∃ x:aT ts,aT.wf ts x/\∀(j:Nat)(v:Value)(d':D),cs[j]? = some v->(aU ts x)[j]? = some d'->Rd w (Old w) v d'){cs:List Value} :
  ∀(fl:List Field)(off:Nat)(ts:List CT),xi (lay P k) P fl off=some ts->(∀ f,f∈fl->∃ y,DataW.trod enc P w 0 (λ_=>true) held n f.type ((cs.drop f.offset).take (P.cellsOf f.type))=some y)->
   ∃ x:aT ts,aT.wf ts x/\∀(j:Nat)(v:Value)(d':D),cs[off+j]? = some v->(aU ts x)[j]? = some d'->Rd w (Old w) v d'
 | [],off,ts,h,_=>by
  simp only[xi,Option.some.injEq]at h;subst h;exact⟨(),by rw[aT.wf];trivial,λj v d' _ hd=>by simp[aU]at hd⟩
 | f::fl,off,ts,h,hy=>by
  simp only[xi]at h
  split at h
  rotate_left
  ·cases h
  rename_i tw us h1 h2;obtain⟨hb,h⟩:=QX h
  cases h;simp only[Bool.and_eq_true]at hb;have e1:=Nat.eq_of_beq_eq_true hb.1;have e2:=Nat.eq_of_beq_eq_true hb.2;obtain⟨⟨d,ps⟩,hyf⟩:=hy f List.mem_cons_self;obtain⟨hl,x,j9,hx⟩:=ih _ _ _ _ _ hyf h1;obtain⟨y,Ga,hyy⟩:=SR ih fl _ _ h2 (λg hg=>hy g (List.mem_cons_of_mem _ hg));refine⟨aT.app tw x y,SQ tw j9 Ga,λj v d' hv hd=>?_⟩;rw[SP]at hd;by_cases hj:j<tw.length
  ·rw[List.getElem?_append_left (by rw[nD];exact hj)]at hd;refine hx j v d' ?_ hd;rw[List.getElem?_take,if_pos (by omega),List.getElem?_drop,e1];exact hv
  ·rw[List.getElem?_append_right (by rw[nD];omega),nD]at hd;refine hyy (j-tw.length) v d' ?_ hd;rw[show off+P.cellsOf f.type+(j-tw.length)=off+j by omega];exact hv
theorem An:∀(k n:Nat)(t:TypeId)(cs:List Value)(d:DataW H)(ps:List MemPlace)(ts:List CT),DataW.trod enc P w 0 (λ_=>true) held n t cs=some (d,ps)->lay P k t=some ts->
  cs.length=ts.length/\∃ x:aT ts,aT.wf ts x/\∀(j:Nat)(v:Value)(d':D),cs[j]? = some v->(aU ts x)[j]? = some d'->Rd w (Old w) v d'
 | 0,n,t,cs,d,ps,ts,_,hl=>by simp[lay]at hl
 | k+1,n,t,cs,d,ps,ts,h,hl=>by
  simp only[lay]at hl
  split at hl
  ·rename_i ht
   cases hl;obtain⟨b,rfl,_⟩:=DataW.trod_bool ht h;refine⟨rfl,b,by simp[aT.wf,CT.wf],λj v d' hv hd=>?_⟩
   cases j with
   | zero=>simp[aU,Am.enc]at hv hd;subst hv;subst hd;exact .v _ rfl
   | succ j=>simp at hv
  ·rename_i q ht
   cases hl;obtain⟨b,rfl,_,hwf⟩:=DataW.trod_int ht h;refine⟨rfl,b,⟨QNK hwf,trivial⟩,λj v d' hv hd=>?_⟩
   cases j with
   | zero=>simp[aU,Am.enc]at hv hd;subst hv;subst hd;exact .v _ rfl
   | succ j=>simp at hv
  ·rename_i ht
   cases hl;obtain⟨b,rfl,_⟩:=DataW.trod_string ht h;refine⟨rfl,b,by simp[aT.wf,CT.wf],λj v d' hv hd=>?_⟩
   cases j with
   | zero=>simp[aU,Am.enc]at hv hd;subst hv;subst hd;exact .v _ rfl
   | succ j=>simp at hv
  ·rename_i e ht
   split at hl
   rotate_left
   ·cases hl
   rename_i ts he;obtain⟨hb,hl⟩:=QX hl
   cases hl;simp only[Bool.and_eq_true]at hb;have e1:=Nat.eq_of_beq_eq_true hb.1;have e2:0<ts.length:=Nat.le_of_ble_eq_true hb.2
   rcases Deep.open_slice ht h with⟨rfl,_⟩ | ⟨a,len,cap,m,n',dd,pl,rfl,_,O9,hcm,hm,_,hx⟩
   ·refine⟨rfl,([]:List (aT ts)),⟨(λx hx=>by cases hx),trivial⟩,λj v d' hv hd=>?_⟩
    cases j with
    | zero=>simp[aU,Am.enc,Am.hd]at hv hd;subst hv;subst hd;exact .nil _
    | succ j=>simp at hv
   ·simp only[if_true]at hm;subst hm;have oF:∀ i,i<len->∃ x:aT ts,aT.wf ts x/\∀(j:Nat)(d':D),(aU ts x)[j]? = some d'->∃ v,w.cell? ((a.add (i*ts.length)).add j)=some v/\Rd w (Old w) v d':=by
     intro i hi;obtain⟨cs',h1,h2⟩:=hx i (by omega);obtain⟨hl,x,j9,pZ⟩:=An k _ _ _ _ _ _ h2 he;refine⟨x,j9,λj d' hd=>?_⟩;have hj:j<ts.length:=by have:=(List.getElem?_eq_some_iff.1 hd).1;rwa [nD]at this
     obtain⟨_,_,hc⟩:=World.cells?_some h1;rw[e1]at hc;refine⟨cs'[j]'(by omega),?_,pZ j _ d' (List.getElem?_eq_getElem _) hd⟩;rw[hc j hj];exact List.getElem?_eq_getElem _
    by_cases hlen:len=0
    ·subst hlen;refine⟨rfl,([]:List (aT ts)),⟨(λx hx=>by cases hx),trivial⟩,λj v d' hv hd=>?_⟩
     cases j with
     | zero=>simp[aU,Am.enc,Am.hd]at hv hd;subst hv;subst hd;exact .emp _ _ _
     | succ j=>simp at hv
    ·have hz:∃ v,w.cell? a=some v:=by
      obtain⟨x,_,pZ⟩:=oF 0 (by omega);have h0:0<(aU ts x).length:=by rw[nD];exact e2
      obtain⟨v,hv,_⟩:=pZ 0 _ (List.getElem?_eq_getElem h0);simp[Addr.add]at hv;exact⟨v,hv⟩
     obtain⟨v0,qh⟩:=hz;obtain⟨aW,rp⟩:=QER qh;obtain⟨b,o,sp⟩:=a;simp only at rp aW;subst rp;have:Inhabited (aT ts):=⟨aT.wc ts⟩
     obtain⟨f,hf⟩:=Deep.choose_lt oF;refine⟨rfl,((List.range len).map f:List (aT ts)),by
      refine⟨λx hx=>?_,trivial⟩;obtain⟨i,hi,rfl⟩:=List.mem_map.1 (show x∈(List.range len).map f from hx);exact(hf i (List.mem_range.1 hi)).1,λj v d' hv hd=>?_⟩
     cases j with
     | succ j=>simp at hv
     | zero =>
      simp only[List.getElem?_cons_zero,Option.some.injEq]at hv;subst hv;have hd2:d' = .sl ts.length (List.map (aU ts) ((List.range len).map f)):=by
       simp only[aU,List.getElem?_cons_zero,Option.some.injEq]at hd;rw[<- hd];show D.sl ts.length (List.map (aU ts) (Am.hd [] _))=_;rfl
      subst hd2;have hg:∀(i:Nat)(e:List D),(List.map (aU ts) ((List.range len).map f))[i]? = some e->i<len/\e=aU ts (f i):=by
       intro i e hi;have aW:=(List.getElem?_eq_some_iff.1 hi).1;simp only[List.length_map,List.length_range]at aW;rw[List.getElem?_map,List.getElem?_map,List.getElem?_range aW]at hi;simp at hi;exact⟨aW,hi.symm⟩
      refine Rd.sl b o len m ts.length _ (λi j=>(w.cell? ⟨b,o+i*ts.length+j,none⟩).getD undef) (by simp) O9 (by omega) (λe he=>?_) (λ_=>aW) (λi j e d hi hj=>?_) (λi j e d hi hj=>?_)
      ·obtain⟨x,_,rfl⟩:=List.mem_map.1 he;exact nD ts x
      ·obtain⟨bY,rfl⟩:=hg i e hi;obtain⟨v,hv,_⟩:=(hf i bY).2 j d hj;rw[YP,YP]at hv;rw[hv];rfl
      ·obtain⟨bY,rfl⟩:=hg i e hi;obtain⟨v,hv,hr⟩:=(hf i bY).2 j d hj;rw[YP,YP]at hv;rw[hv];exact hr
  ·rename_i fs ht
   split at hl
   rotate_left
   ·cases hl
   rename_i ts za;obtain⟨hb,hl⟩:=QX hl
   cases hl;have e1:=Nat.eq_of_beq_eq_true hb;obtain⟨xs,n',_,_,hlen,SS,hx⟩:=DataW.trod_struct ht h;refine⟨by omega,?_⟩;obtain⟨x,j9,pZ⟩:=SR (n:=n') (λt cs d ps ts h1 h2=>An k n' t cs d ps ts h1 h2) fs.toList 0 ts za (λf hf=>by
    obtain⟨i,hi⟩:=List.getElem?_of_mem hf;have mn:fs[i]? = some f:=by simpa using hi
    have aW:i<xs.length:=by rw[SS];exact(Array.getElem?_eq_some_iff.1 mn).1
    exact⟨xs[i],by rw[hx i f mn];exact List.getElem?_eq_getElem _⟩)
   exact⟨x,j9,λj v d' hv hd=>pZ j v d' (by simpa using hv) hd⟩
  ·cases hl
end
end Go.Proofs.YtdplaepmjogjjaaGreat.Am
namespace Go.Proofs.YtdplaepmjogjjaaGreat.Am
open Go Go.RowKit Go.ChangeShapes Go.WideShapes Go.ChangeAt
def rq(P:Program)(t:TypeId):Option Sh:=match P.underlying t with
 | some (.struct _)=>match lay P 12 t with
  | some ts=>some (.a ts)
  | none=>none
 | some (.array _ _)=>none
 | _=>match lay P 12 t with
  | some [ct]=>some (.c ct)
  | _=>none
def lX(P:Program):List TypeId->Option (List Sh)
 | []=>some []
 | t::ts=>match rq P t,lX P ts with
  | some s,some ss=>some (s::ss)
  | _,_=>none
theorem Gb:∀(ts:List CT)(x:aT ts),(aT.cells ts x).map TV.aO=(aU ts x).map AV.c
 | [],x=>rfl
 | t::ts,x=>by rw[aT.cells,aU,List.map_cons,List.map_cons,Gb ts];rfl
section
variable {H:Type} {enc:TypeId × Value->H} {P:Program} {w:World} {held:Bool}
theorem QFM{r:Reach}{base:Nat}{t:TypeId}{v:Value}{d:DataW H}{p:List MemPlace}{s:Sh}(hs:rq P t=some s)(hv:Value.okWide P w r base t v)(h:DataW.Trod enc P w 0 (λ_=>true) held t v d p) :
  ∃ x:s.den,s.wf x/\VR w (Old w) noι tf v (s.val x).aA/\(s.val x).aA.eD=true:=by
 obtain⟨n,h⟩:=h;unfold rq at hs
 split at hs
 ·rename_i fs ht
  split at hs
  rotate_left
  ·cases hs
  rename_i ts hl
  cases hs;obtain⟨h1,x,j9,hx⟩:=An _ _ _ _ _ _ _ h hl;unfold Value.okWide at hv;rw[ht]at hv;obtain⟨cs,rfl,_,_⟩:=hv;refine⟨x,j9,?_,?_⟩
  ·show VR w (Old w) noι tf (.agg cs) (.a ((aT.cells ts x).map TV.aO));rw[Gb];have h1:cs.toList.length=ts.length:=h1;have mL:∀(k:Nat)(v:Value),cs[k]? = some v->∃ d,(aU ts x)[k]? = some d/\Rd w (Old w) v d:=by
    intro k v hk;have aW:k<(aU ts x).length:=by
     have:=(Array.getElem?_eq_some_iff.1 hk).1;rw[nD];simpa[<- h1]using this
    exact⟨_,List.getElem?_eq_getElem aW,hx k v _ (by show cs.toList[k]? = some v;simpa using hk) (List.getElem?_eq_getElem aW)⟩
   refine .a cs _ (by rw[List.length_map,nD,<- h1];simp) (λk v hk=>?_) (λk v y hk hy=>?_)
   ·obtain⟨_,_,hr⟩:=mL k v hk;exact hr.one
   ·obtain⟨d,hd,hr⟩:=mL k v hk;rw[List.getElem?_map,hd]at hy;simp at hy;subst hy;exact .c _ _ hr
  ·show AV.eD (.a ((aT.cells ts x).map TV.aO))=true;rw[Gb];simp[AV.eD]
 ·cases hs
 ·rename_i fq me
  split at hs
  rotate_left
  ·cases hs
  rename_i ct hl
  cases hs;obtain⟨h1,x,j9,hx⟩:=An _ _ _ _ _ _ _ h hl;unfold Value.okWide at hv;have hv:Cell.okWide P w r base t v:=by
   split at hv
   ·rename_i hh;exact absurd hh (fq _)
   ·rename_i hh;exact absurd hh (me _ _)
   ·exact hv
  have hc:v.cells.toList=[v]:=by
   cases v with
   | agg cs =>
    exfalso;unfold Cell.okWide at hv
    split at hv <;> first | (simp_all;done) | skip
    unfold Cell.ok at hv
    split at hv <;> first | (simp_all;done) | exact hv
   | _=>rfl
  have hr:=hx 0 v (Am.enc ct x) (by rw[hc];rfl) (by cases ct <;> rfl);exact⟨x,by rw[aT.wf]at j9;exact j9.1,.c _ _ hr,rfl⟩
theorem SU{r:Reach}{base:Nat}:∀ {ts:List TypeId} {ss:List Sh} {vs:List Value} {ds:List (DataW H)} {ps:List MemPlace},lX P ts=some ss->(∀(j:Nat)(t:TypeId)(v:Value),ts[j]? = some t->vs[j]? = some v->Value.okWide P w r base t v)->
  DataW.TrodAll enc P w 0 (λ_=>true) held ts vs ds ps->∃ x:gS ss,Al ss x/\ew w (Old w) vs ((jN ss x).map TV.aA) [] []
 | [],ss,vs,ds,ps,hs,hv,h=>by
  simp only[lX,Option.some.injEq]at hs;subst hs;obtain⟨rfl,_,_⟩:=trodAll_nil h;exact⟨(),trivial,.nil⟩
 | t::ts,ss,vs,ds,ps,hs,hv,h=>by
  simp only[lX]at hs
  split at hs
  rotate_left
  ·cases hs
  rename_i s ss' h1 h2
  cases hs;obtain⟨v0,Gc,d0,SV,p0,q0,rfl,rfl,rfl,h0,hr⟩:=trodAll_cons h;obtain⟨x,j9,hx,hd⟩:=QFM h1 (hv 0 t v0 rfl rfl) h0;obtain⟨y,Ga,hy⟩:=SU h2 (λj t v hj hk=>hv (j+1) t v (by simpa using hj) (by simpa using hk)) hr;exact⟨(x,y),⟨j9,Ga⟩,.eD v0 _ Gc _ [] [] hx hy hd⟩
theorem SW{W W':World}(hl:laidOutB P=true)(hb:Below W.heap.size W W'){sp:Nat->Bool}:∀ {ts:List TypeId} {vs:List Value} {ds:List (DataW H)} {ps:List MemPlace},ts.all (λt=>P.readableRec t&&decide (t<P.types.size))=true->
  DataW.TrodAll enc P W 0 (λ_=>true) true ts vs ds ps->(∀ p,p∈ps->p.block<W.heap.size)->(∀ p,p∈ps->sp p.block=true)->DataW.TrodAll enc P W' 0 sp true ts vs ds ps
 | [],vs,ds,ps,_,h,_,_=>by
  obtain⟨rfl,rfl,rfl⟩:=trodAll_nil h;exact rfl
 | t::ts,vs,ds,ps,hr,h,aW,rp=>by
  rw[List.all_cons,Bool.and_eq_true,Bool.and_eq_true]at hr;obtain⟨v0,Gc,d0,SV,p0,q0,rfl,rfl,rfl,h0,bT⟩:=trodAll_cons h;refine⟨p0,q0,WideElems.Trod_stays hl hr.1.1 (of_decide_eq_true hr.1.2) h0 (λx hx=>hb.same (aW x (List.mem_append_left _ hx))) (λx hx=>rp x (List.mem_append_left _ hx)),?_,rfl⟩;exact SW hl hb hr.2 bT (λp hp=>aW p (List.mem_append_right _ hp)) (λp hp=>rp p (List.mem_append_right _ hp))
end
theorem kL{H:Type}{enc:TypeId × Value->H}{P:Program}{f:FuncId}{fn:Func}{s:ChangeSpec}{apart fresh handsOn again:Bool}{sg:List Sh}{W:World}{args:Array Value}{ds gs:List (DataW H)}{before:List MemPlace}{base:Nat}{tb:TypeId}{n:Nat}
  (hl:laidOutB P=true) (hsg:lX P fn.params.toList=some sg) (mL:fn.params.toList.all (λt=>P.readableRec t&&decide (t<P.types.size))=true) (oW:P.underlying tb=some .bool) (SX:fn.resultTypes = #[tb])
  (Gd:∀ x:gS sg,Al sg x->aK P f (jN sg x) ⟨.c .bool true,[],[],false,[]⟩) (jb:s.vars=[]) (hn:fn.params.size=n) (hfn:∀ ds:List (DataW H),ds.length=n->s.fn H ds = { results:=[.lit (.bool true)],args:=ds })
  (gO:∀(j:Nat)(t:TypeId)(v:Value),fn.params[j]? = some t->args[j]? = some v->Value.okWide P W .any base t v)
  (hW:DataW.Whole enc P fn.params.toList s.vars apart W args.toList ds gs before) :
  Calls P f args W λe W'=>∃ v,e = .returned v/\s.post enc P fn apart fresh handsOn again W args v W':=by
 have SY:=hW;obtain⟨p,q,hA,hV,rfl,hfz,dU⟩:=hW;rw[jb]at hV;obtain⟨rfl,rfl⟩:=trodVars_none hV;obtain⟨x,j9,hx⟩:=SU hsg (λj t v hj hk=>gO j t v (by simpa using hj) (by simpa using hk)) hA;have hlen:ds.length=n:=by
  rw[<- hn];have:∀ {ts:List TypeId} {vs:List Value} {ds:List (DataW H)} {ps:List MemPlace},DataW.TrodAll enc P W 0 (λ_=>true) true ts vs ds ps->ds.length=ts.length:=by
   intro ts
   induction ts with
   | nil=>intro vs ds ps h;obtain⟨_,rfl,_⟩:=trodAll_nil h;rfl
   | cons t ts ih=>intro vs ds ps h;obtain⟨v0,Gc,d0,SV,p0,q0,rfl,rfl,rfl,h0,hr⟩:=trodAll_cons h;simp[ih hr]
  simpa using this hA
 have aW:∀ p',p'∈p++[]->p'.block<W.heap.size:=λp' hp=>SY.lt p' hp;refine(QHe (x:=.bool true) (al:=false) (Gd x j9) (F0:=Old W) hx (λ_ h=>h)).mono λe W' ⟨he,hg⟩=>?_;subst he;have hf:=hfn (ds++[]) (by simpa using hlen);refine⟨_,rfl,QTK (pa:=p) (pv:=[]) SY (λb sp hd=>?_) (λsp rp=>?_) (λsp _=>?_) rfl hg ?_⟩
 ·rw[hf,SX];exact trodAll_cons_mk (shut_bool oW _) trodAll_mk0
 ·rw[hf,List.append_nil];exact SW hl hg mL hA (λp' hp=>aW p' (List.mem_append_left _ hp)) (λp' hp=>rp p' (List.mem_append_left _ hp))
 ·rw[jb,hf];exact rfl
 ·exact Go.RowKit.ok_one SX rfl (okWide_bool_mk oW _)
end Go.Proofs.YtdplaepmjogjjaaGreat.Am
namespace Go.Proofs.YtdplaepmjogjjaaGreat.Am
open Go
theorem bO{a b:Bool}(ha:a=true)(hb:b=true):(a&&b)=true:=by rw[ha,hb];rfl
def Ao(P:Program)(rk:List Nat):Bool:=(List.range P.funcs.size).all λg=>((P.funcs[g]?).elim [] P.leadsTo).all λh=>Nat.blt (rk.getD h 0) (rk.getD g 0)
theorem SZ{P:Program}{rk:List Nat}(h:Ao P rk=true)(g x:Nat)(hx:x∈(P.funcs[g]?).elim [] P.leadsTo):rk.getD x 0<rk.getD g 0:=by
 by_cases hg:g<P.funcs.size
 ·have:=List.all_eq_true.1 h g (List.mem_range.2 hg);exact Nat.le_of_ble_eq_true (List.all_eq_true.1 this x hx)
 ·rw[Array.getElem?_eq_none (by omega)]at hx;simp at hx
theorem Ge{P:Program}{rk:List Nat}(h:Ao P rk=true)(r:Nat):∀(fuel:Nat)(todo seen:List FuncId),(∀ x,x∈todo->rk.getD x 0<r)->(∀ x,x∈seen->rk.getD x 0<r)->∀ x,x∈P.closureVia fuel todo seen->rk.getD x 0<r
 | 0,todo,seen,_,h2,x,hx=>by
  simp only[Program.closureVia,List.mem_reverse]at hx;exact h2 x hx
 | n+1,[],seen,_,h2,x,hx=>by
  simp only[Program.closureVia,List.mem_reverse]at hx;exact h2 x hx
 | n+1,f::todo,seen,h1,h2,x,hx=>by
  simp only[Program.closureVia]at hx
  split at hx
  ·exact Ge h r n todo seen (λy hy=>h1 y (List.mem_cons_of_mem _ hy)) h2 x hx
  ·refine Ge h r n _ _ (λy hy=>?_) (λy hy=>?_) x hx
   ·rcases List.mem_append.1 hy with hy | hy
    ·exact Nat.lt_trans (SZ h f y hy) (h1 f List.mem_cons_self)
    ·exact h1 y (List.mem_cons_of_mem _ hy)
   ·rcases List.mem_cons.1 hy with rfl | hy
    ·exact h1 _ List.mem_cons_self
    ·exact h2 y hy
theorem ru{P:Program}{rk:List Nat}(h:Ao P rk=true){f:FuncId}(hu:P.unfollowed f=false):P.recurses f=false:=by
 unfold Program.recurses;rw[hu,Bool.false_or];rw[Bool.eq_false_iff];intro hc;obtain⟨g,hg,hc⟩:=List.any_eq_true.1 hc;obtain⟨x,hx,hc⟩:=List.any_eq_true.1 hc;have dE:g∈P.closure x:=by simpa using hc
 have aW:=SZ h g x hx;unfold Program.closure at dE;have:=Ge h (rk.getD g 0) _ [x] [] (λy hy=>by simp at hy;subst hy;exact aW) (λy hy=>by simp at hy) g dE;omega
def ry:List Char:=([99,117,116]:List Nat).map Char.ofNat
theorem QHk{P:Program}{rest:List (List Char)}(h:behindMainWord (wordsSigns P.initOrder.toList)=ry::rest):P.make=some .cut:=by
 unfold Program.make;rw[h];rfl
theorem S5(rest:List (List Char)):stripLifts liftWords (ry::rest)=([],ry::rest):=by
 rfl
theorem QIE{P:Program}{rest:List (List Char)}(h:behindMainWord (wordsSigns P.initOrder.toList)=ry::rest):P.headLifts=[]:=by
 unfold Program.headLifts;rw[h,S5];rfl
theorem QVL{P:Program}{rest:List (List Char)}(h:behindMainWord (wordsSigns P.initOrder.toList)=ry::rest):P.liftsFinal=false:=by
 unfold Program.liftsFinal;rw[QIE h,h];rfl
theorem QWK{P:Program}{rest:List (List Char)}(h:behindMainWord (wordsSigns P.initOrder.toList)=ry::rest)(h1:P.laysLater=false)(h2:P.bearsReflect=false)(h3:P.doorFits []=true):P.mayEnter=true:=by
 unfold Program.mayEnter;rw[h];simp only[S5,h1,h2,h3];rfl
end Go.Proofs.YtdplaepmjogjjaaGreat.Am
namespace Go.Proofs.YtdplaepmjogjjaaGreat.Am
open Go Sz
def QQ(x:Int):Int:=jP (jQ x (-2147483647)) 2147483647
def ZX(x:Int):Int × Bool:=(QQ x,!Zv x)
def Q4(a b:Int):Int × Bool:=ZX (QQ a+QQ b)
def Jc(a b:Int):Int × Bool:=ZX (QQ a-QQ b)
def Q9(a b:Int):Int × Bool:=ZX (Int.fdiv (QQ a*QQ b) 65536)
def J2(a:Int):Int:=jQ 0 (QQ a)
def Ap(a b:Int):Int:=Int.fdiv a b
def Gf(a b:Int):Prop:=-4611686018427387904<=a/\a<=4611686018427387904/\b=65536
def ZB(a b:List Int):Bool:=QK a&&QH b a.length
def vz(f:Int->Int->Int × Bool):List Int->List Int->List Int × Bool
 | a::aa,b::bb=>((f a b).1::(vz f aa bb).1,(f a b).2||(vz f aa bb).2)
 | _,_=>([],false)
def Zb(a b:List Int):List Int × Bool:=if ZB a b then vz Q4 a b else([],false)
def QY(a b:List Int):List Int × Bool:=if ZB a b then vz Jc a b else([],false)
def v1(f:Int->Int × Bool):List Int->List Int × Bool
 | a::aa=>((f a).1::(v1 f aa).1,(f a).2||(v1 f aa).2)
 | []=>([],false)
def Zy(c:Int)(a:List Int):List Int × Bool:=if Zv c&&QK a then v1 (Q9 c) a else([],false)
def Yl:List Int->List Int->Int->Int × Bool
 | a::aa,b::bb,z=>((Yl aa bb (Q4 z (Q9 a b).1).1).1,(Q9 a b).2||(Q4 z (Q9 a b).1).2||(Yl aa bb (Q4 z (Q9 a b).1).1).2)
 | _,_,z=>(z,false)
def Q1(a b:List Int):Int × Bool:=if ZB a b then Yl a b 0 else(0,false)
def Yd(a:List Int):List Int:=if QK a then a.map J2 else []
def Z9(x d:List Int):List Int:=if ZB x d then List.zipWith (λa b=>if 0<a then b else 0) x d else []
def Zo(m:cc):Bool:=bj m.1 1 6&&bj m.2.1 1 6&&((m.2.2.length:Int)==m.1*m.2.1)&&Z3 m.2.2
def Yz(m:cc)(i:Int):List Int:=slice m.2.2 (i*m.2.1) ((i+1)*m.2.1)
def ZN(m:cc)(k:Int):List Int:=(List.range m.1.toNat).map λi:Nat=>aq 0 m.2.2 ((i:Int)*m.2.1+k).toNat
def Q6(m:cc)(x:List Int):List Int × Bool :=
 if Zo m&&QH x m.2.1 then
  ((List.range m.1.toNat).map λi:Nat=>(Q1 (Yz m i) x).1,(List.range m.1.toNat).any λi:Nat=>(Q1 (Yz m i) x).2) else([],false)
def Zs(m:cc)(d:List Int):List Int × Bool :=
 if Zo m&&QH d m.1 then
  ((List.range m.2.1.toNat).map λk:Nat=>(Q1 (ZN m k) d).1,(List.range m.2.1.toNat).any λk:Nat=>(Q1 (ZN m k) d).2) else([],false)
def Yy(m:cc):cc:=if Zo m then(m.2.1,m.1,(List.range m.2.1.toNat).flatMap λk:Nat=>ZN m k) else(0,0,[])
def Zm(d x:List Int):cc × Bool :=
 if QK d&&QK x then(((d.length:Int),(x.length:Int),d.flatMap λa=>x.map λb=>(Q9 a b).1),d.any λa=>x.any λb=>(Q9 a b).2) else((0,0,[]),false)
def Q3(o:aH):cc:=(o.2.2.1,o.2.1,o.2.2.2)
def ZY(o:aH)(x:List Int):List Int × Bool :=
 if Zh o&&QH x o.2.1 then
  (if o.1=1 then Q6 (Q3 o) x else if o.1=2 then Zb x o.2.2.2 else if o.1=4 then Zy (aq 0 o.2.2.2 0) x
   else if o.1=5 then((Zb x (Q6 (Q3 o) x).1).1,(Q6 (Q3 o) x).2||(Zb x (Q6 (Q3 o) x).1).2) else(Yd x,false))
 else([],false)
def ZU(o:aH)(x d:List Int):List Int × List Int × Bool :=
 if Zh o&&QH x o.2.1&&QH d o.2.2.1 then
  (if o.1=1 then((Zs (Q3 o) d).1,(Zm d x).1.2.2,(Zs (Q3 o) d).2||(Zm d x).2)
   else if o.1=2 then(d,d,false)
   else if o.1=4 then((Zy (aq 0 o.2.2.2 0) d).1,[(Q1 d x).1],(Zy (aq 0 o.2.2.2 0) d).2||(Q1 d x).2)
   else if o.1=5 then((Zb d (Zs (Q3 o) d).1).1,(Zm d x).1.2.2,(Zs (Q3 o) d).2||(Zm d x).2||(Zb d (Zs (Q3 o) d).1).2)
   else(Z9 x d,[],false))
 else([],[],false)
def Yb(y t:List Int):Int × Bool:=(Int.fdiv (Q1 (QY y t).1 (QY y t).1).1 2,(QY y t).2||(Q1 (QY y t).1 (QY y t).1).2)
abbrev QWW:QN:=([],0,false)
def QMX(m:Zx):QN:=if Zc m then(m.map λo=>List.replicate o.2.2.2.length 0,0,false) else QWW
def nE(a b:List Int):List Int × Bool:=vz Q4 a b
def ZE:List (List Int)->List (List Int)->List (List Int) × Bool
 | a::aa,b::bb=>((vz Q4 a b).1::(ZE aa bb).1,(vz Q4 a b).2||(ZE aa bb).2)
 | _,_=>([],false)
def ZZ(a b:QN):QN:=((ZE a.1 b.1).1,(Q4 a.2.1 b.2.1).1,a.2.2||b.2.2||(ZE a.1 b.1).2||(Q4 a.2.1 b.2.1).2)
def QV:List aH->List Int->List (List Int) × Bool
 | [],x=>([x],false)
 | o::r,x=>(x::(QV r (ZY o x).1).1,(ZY o x).2||(QV r (ZY o x).1).2)
def JP(m:Zx)(x:List Int):List (List Int) × Bool:=if Zc m&&QH x (ZO m) then QV m x else([],false)
def Q2:List aH->List (List Int)->List Int->List (List Int) × List Int × Bool
 | o::os,r::rs,d =>
  ((ZU o r (Q2 os rs d).2.1).2.1::(Q2 os rs d).1,(ZU o r (Q2 os rs d).2.1).1,(ZU o r (Q2 os rs d).2.1).2.2||(Q2 os rs d).2.2)
 | _,_,d=>([],d,false)
def Gg(ops:List aH)(rows:List (List Int))(_:List Int):Prop:=ops.length<=rows.length/\ops.length<=ca
def tI(ops:List aH)(rows:List (List Int))(_:List Int):Prop:=(ops.length<=rows.length/\ops.length<=ca)/\0<ops.length
def Z4(q:Qd)(x:Ql):Qd × Bool:=if QZ q&&Yq x&&decide ((q.2.length:Int)<q.1) then((q.1,q.2++[x]),true) else(q,false)
def Ze(q:Qd):Qd × Ql × Bool:=if QZ q&&decide (0<q.2.length) then((q.1,q.2.tail),aq (0,[]) q.2 0,true) else(q,(0,[]),false)
def Y7(s:Qc)(m:Int)(x t:List Int):Bool :=
 QU s&&QH x (ZO (aE s))&&decide (QJ (Qi s) m<0)&&(!Qn s||QH t (Zu (aE s)))
def ZV(s:Qc)(m:Int)(x t:List Int):Qc :=
 if Y7 s m x t then
  (let i:=QV (aE s) x
   let y:=aq [] i.1 (aE s).length
   let kept:=if Qp s then i.1.take 1 else i.1
   let l:=Yb y t
   let a:=Q4 (Qx s) l.1
   (bU s,Qw s,aE s,Qn s,Qp s,Qi s++[(m,kept)],QB s,[],(if Qn s then sY s else y),sG s,sD s,Qz s,(if Qn s then a.1 else Qx s),bh s||i.2||(Qn s&&(l.2||a.2))))
 else s
def Yn(s:Qc)(m:Int):Qc :=
 let k:=QJ (Qi s) m
 if QU s&&decide (0<=k) then
  (bU s,Qw s,aE s,Qn s,Qp s,Qi s,(QV (aE s) (aq [] (aq QS (Qi s) k.toNat).2 0)).1,sX s,sY s,sG s,sD s,Qz s,Qx s,bh s)
 else s
def Zq(s:Qc)(k:Int):List (List Int):=if Qp s then QB s else(aq QS (Qi s) k.toNat).2
def eM(s:Qc)(k:Int)(t:List Int):List Int × Bool:=if Qn s then QY (aq [] (Zq s k) (aE s).length) t else(sG s,false)
def Yx(s:Qc)(k:Int)(t:List Int):Bool :=
 QU s&&decide (0<=k)&&((Zq s k).length==(aE s).length+1)&&ZQ (aE s) (Zq s k) (aE s).length&&QH (eM s k t).1 (Zu (aE s))
def ZD(s:Qc)(m:Int)(t:List Int):Qc :=
 let k:=QJ (Qi s) m
 if Yx s k t then
  (let g:=Q2 (aE s) (Zq s k) (eM s k t).1
   let z:=ZZ (lW s) (g.1,0,(eM s k t).2||g.2.2)
   (bU s,Qw s,aE s,Qn s,Qp s,(Qi s).take k.toNat++(Qi s).drop (k.toNat+1),[],sX s,sY s,[],g.2.1,z.1,z.2.1,z.2.2))
 else s
def kM(s:Qc)(v:List Int):Qc:=(bU s,Qw s,aE s,Qn s,Qp s,Qi s,QB s,v,sY s,sG s,sD s,Qz s,Qx s,bh s)
def kN(s:Qc)(v:List Int):Qc:=(bU s,Qw s,aE s,Qn s,Qp s,Qi s,QB s,sX s,v,sG s,sD s,Qz s,Qx s,bh s)
def kO(s:Qc)(v:List Int):Qc:=(bU s,Qw s,aE s,Qn s,Qp s,Qi s,QB s,sX s,sY s,v,sD s,Qz s,Qx s,bh s)
def gr(s:Qc)(v:List Int):Qc:=(bU s,Qw s,aE s,Qn s,Qp s,Qi s,QB s,sX s,sY s,sG s,v,Qz s,Qx s,bh s)
def Gh(s:Qc)(v:Int):Qc:=(v,Qw s,aE s,Qn s,Qp s,Qi s,QB s,sX s,sY s,sG s,sD s,Qz s,Qx s,bh s)
def ZM(p:Qm)(k:Nat)(x:Qc)(i:bt):Qc × List Qd × List Qd :=
 let a:=Qr p;let b:=Qq p
 let pr:=aq QW (QA p) i.2.toNat
 if i.1=1 then(kM x (Ze (aq Qv a (k-1))).2.1.2,a.set (k-1) (Ze (aq Qv a (k-1))).1,b)
 else if i.1=2 then(ZV x i.2 (if k=0 then pr.1 else sX x) pr.2,a,b)
 else if i.1=3 then(kN x [],a.set k (Z4 (aq Qv a k) (i.2,sY x)).1,b)
 else if i.1=4 then(kO x (Ze (aq Qv b k)).2.1.2,a,b.set k (Ze (aq Qv b k)).1)
 else if i.1=5 then(Yn x i.2,a,b)
 else if i.1=6 then((if k=0 then gr (ZD x i.2 pr.2) [] else ZD x i.2 pr.2),a,b)
 else if i.1=7 then(gr x [],a,b.set (k-1) (Z4 (aq Qv b (k-1)) (i.2,sD x)).1)
 else(x,a,b)
def ZA(p:Qm)(s:Int):Qm :=
 if ZG p s then
  (let x:=aq Qy (QE p) s.toNat
   let y:=ZM p s.toNat x (Qk p s)
   (QA p,(QE p).set s.toNat (Gh y.1 (bU x+1)),y.2.1,y.2.2))
 else p
end Go.Proofs.YtdplaepmjogjjaaGreat.Am

namespace Go.Proofs.YtdplaepmjogjjaaGreat.Am
open Go Go.Proofs.YtdplaepmjogjjaaGreat
set_option linter.all false
def QLl:List Nat:=[1,1,2,11,10,11,12,14,15,13,14,14,6,9,6,10,6,4,4,8,8,8,9,1,8,5,1,1,9,1,10,9,11,5,3,11,5,3,13,5,3,4,2,5,12,14,4,3,3,10,12,11,13,11,13,1,3,5,3,1,4,2,1,5,8,2,3,5,3,4,4,1,6,9,1,2,3,5,3,1,2,3,2,1,2,3,2,7,5,7,7,5,8,7,5,4,3,3,6,3,4,5,5,2,1,7,3,5,8,5,5,6,10,4,4,1,2,10,6,6,6,3,4,1,2,12,2,6,6,3,6,4,1,2,3,1,2,4,3,1,3,2,3,3,2,5,5,5,1,6,6,1,2,4,2,1,1,4,1,4,7,1,2,4,2,2,3,4,1,5,8,1,2,4,2,4,6,1,4,7,1,4,2,2,5,1,2,3,6,2,1,4,3,7,4,5,3,9,6,5,9,5,2,1,1,7,1,11,5,1,2,1,1,5,2,2,1,1,4,2,5,4,3,6,1,5,4,4,3,7,1,6,4,4,3,3,3,3,2,3,1,5,6,4,8,4,6,5,5,8,7,6,10,2,3,1,3,1,3,2,2,2,2,1,1,4,7,9,1,8,1,1,1,1,1,1,1,1,1,1,1,1,1,1,1,1]
theorem kP:Ao Tryz.prog QLl=true:=by kernel_rfl
def QVW:List Nat:=[104,97,114,110,101,115,115,32,56,49,53,57,52,50,49,48,52,97,101,98,98,101,101,102,97,56,50,49,56,97,99,97,102,98,102,56,51,52,55,98,50,50,99,50,55,101,102,55,56,57,48,55,101,55,54,57,54,102,99,56,52,52,98,51,101,49,55,102,49,98,57,52,32,99,117,116,32,97,116,32,108,111,111,112,46,101,120,97,109,112,108,101,47,103,48,49,52,48,55,47,108,97,119,115,46,70,110,69,120,97,99,116,83,116,97,103,101,82,101,100,111,32,108,111,111,112,46,101,120,97,109,112,108,101,47,103,48,49,52,48,55,47,108,97,119,115,46,70,110,69,120,97,99,116,69,110,97,98,108,101,100,65,108,108,32,108,111,111,112,46,101,120,97,109,112,108,101,47,103,48,49,52,48,55,47,108,97,119,115,46,70,110,69,120,97,99,116,83,116,97,103,101,70,119,100,32,108,111,111,112,46,101,120,97,109,112,108,101,47,103,48,49,52,48,55,47,108,97,119,115,46,70,110,69,120,97,99,116,83,116,97,103,101,66,119,100,32,108,111,111,112,46,101,120,97,109,112,108,101,47,103,48,49,52,48,55,47,108,97,119,115,46,70,110,69,120,97,99,116,80,105,112,101,78,101,119,32,108,111,111,112,46,101,120,97,109,112,108,101,47,103,48,49,52,48,55,47,108,97,119,115,46,70,110,69,120,97,99,116,71,114,97,100,105,101,110,116,115,32,108,111,111,112,46,101,120,97,109,112,108,101,47,103,48,49,52,48,55,47,108,97,119,115,46,70,110,69,120,97,99,116,80,105,99,107,32,108,111,111,112,46,101,120,97,109,112,108,101,47,103,48,49,52,48,55,47,108,97,119,115,46,70,110,69,120,97,99,116,82,111,117,110,100,115,32,108,111,111,112,46,101,120,97,109,112,108,101,47,103,48,49,52,48,55,47,108,97,119,115,46,70,110,69,120,97,99,116,82,117,110]
theorem QNk:Tryz.prog.initOrder=String.ofList (QVW.map Char.ofNat):=by kernel_rfl
def QSh:List (List Nat):=[[97,116],[108,111,111,112,46,101,120,97,109,112,108,101,47,103,48,49,52,48,55,47,108,97,119,115,46,70,110,69,120,97,99,116,83,116,97,103,101,82,101,100,111],[108,111,111,112,46,101,120,97,109,112,108,101,47,103,48,49,52,48,55,47,108,97,119,115,46,70,110,69,120,97,99,116,69,110,97,98,108,101,100,65,108,108],[108,111,111,112,46,101,120,97,109,112,108,101,47,103,48,49,52,48,55,47,108,97,119,115,46,70,110,69,120,97,99,116,83,116,97,103,101,70,119,100],[108,111,111,112,46,101,120,97,109,112,108,101,47,103,48,49,52,48,55,47,108,97,119,115,46,70,110,69,120,97,99,116,83,116,97,103,101,66,119,100],[108,111,111,112,46,101,120,97,109,112,108,101,47,103,48,49,52,48,55,47,108,97,119,115,46,70,110,69,120,97,99,116,80,105,112,101,78,101,119],[108,111,111,112,46,101,120,97,109,112,108,101,47,103,48,49,52,48,55,47,108,97,119,115,46,70,110,69,120,97,99,116,71,114,97,100,105,101,110,116,115],[108,111,111,112,46,101,120,97,109,112,108,101,47,103,48,49,52,48,55,47,108,97,119,115,46,70,110,69,120,97,99,116,80,105,99,107],[108,111,111,112,46,101,120,97,109,112,108,101,47,103,48,49,52,48,55,47,108,97,119,115,46,70,110,69,120,97,99,116,82,111,117,110,100,115],[108,111,111,112,46,101,120,97,109,112,108,101,47,103,48,49,52,48,55,47,108,97,119,115,46,70,110,69,120,97,99,116,82,117,110]]
theorem Gi:behindMainWord (wordsSigns Tryz.prog.initOrder.toList)=ry::QSh.map (λl=>l.map Char.ofNat):=by
 rw[QNk,String.toList_ofList];kernel_rfl
theorem kQ:Tryz.prog.mayEnter=true:=QWK Gi (by kernel_rfl) (by kernel_rfl) (by kernel_rfl)
theorem jh:Tryz.prog.liftsFinal=false:=QVL Gi
theorem nF:Tryz.prog.make=some .cut:=QHk Gi
end Go.Proofs.YtdplaepmjogjjaaGreat.Am

set_option linter.all false
namespace Go.Proofs.YtdplaepmjogjjaaGreat.Am
open Go Sz
def tm(ds n M s:Int)(i:bt):Int :=
 let F:=s+2*i.2
 let B:=(if ds=2 then 2*n-1 else 2*n-1+2*M)-s+2*i.2
 if i.1=1 then 8*F else if i.1=2 then 8*F+1 else if i.1=3 then 8*F+2
 else if i.1=4 then 8*B else if i.1=5 then 8*B+1 else if i.1=6 then 8*B+2 else if i.1=7 then 8*B+3 else 1000000
def rz(f:Nat)(k1:Int):Nat:=if k1=1 then f+1 else f
def rA(f:Nat)(k1:Int):Nat:=if k1=2 then f-1 else f
def rB(n s:Int)(g:Nat)(k1:Int):Nat:=if k1=4\/(k1=5/\s<n-1) then g+1 else g
def Gj(g:Nat)(k1:Int):Nat:=if k1=6 then g-1 else g
def kf(i:bt):Nat:=if i.1=2 then 1 else 0
def kg(i:bt):Nat:=if i.1=6 then 1 else 0
def cf(l:List bt):Nat:=(l.map kf).sum
def cg(l:List bt):Nat:=(l.map kg).sum
def QKQ(l:List bt)(k:Nat):Int:=if k=0 then 0 else(aq eF l (k-1)).1
end Go.Proofs.YtdplaepmjogjjaaGreat.Am
namespace Go.Proofs.YtdplaepmjogjjaaGreat.Am
open Go Sz
theorem Jy(x:Int):-2147483647<=QQ x/\QQ x<=2147483647:=by unfold QQ jP jQ;split <;> split <;> omega
theorem S6{x:Int}:Zv x=true↔-2147483647<=x/\x<=2147483647:=by simp[Zv]
theorem QRK(x:Int):Zv (QQ x)=true:=S6.2 (Jy x)
theorem QMN(x:Int):Zv (ZX x).1=true:=QRK x
theorem QQf(a b:Int):Zv (Q4 a b).1=true:=QMN _
theorem Yg{v:List Int}:QK v=true↔(1<=v.length/\v.length<=6)/\Z3 v=true:=by
 simp only[QK,Bool.and_eq_true,Za];constructor
 ·rintro⟨h1,h2⟩;exact⟨by omega,h2⟩
 ·rintro⟨h1,h2⟩;exact⟨by omega,h2⟩
theorem Aq{v:List Int}{n:Int}:QH v n=true↔QK v=true/\(v.length:Int)=n:=by simp[QH]
theorem S7:∀(a b:List Int)(z:Int),Zv z=true->Zv (Yl a b z).1=true
 | [],b,z,h=>by simpa[Yl]using h
 | a::aa,[],z,h=>by simpa[Yl]using h
 | a::aa,b::bb,z,h=>by rw[Yl];exact S7 aa bb _ (QQf _ _)
theorem QTt(a b:List Int):Zv (Q1 a b).1=true:=by
 unfold Q1;split
 ·exact S7 _ _ _ rfl
 ·rfl
theorem oX{a b:List Int}:ZB a b=true↔QK a=true/\QK b=true/\b.length=a.length:=by
 unfold ZB;rw[Bool.and_eq_true,Aq];constructor <;> (intro h;exact⟨h.1,h.2.1,by omega⟩)
theorem S8{o:aH}(h:Zh o=true):(o.2.2.2.length:Int)=(if o.1=1\/o.1=5 then o.2.1*o.2.2.1 else if o.1=2 then o.2.1 else if o.1=4 then 1 else 0):=by
 have h1:=SN h;simp only[Zh,Bool.and_eq_true,beq_iff_eq]at h;rw[h.1.2];unfold YD;rw[show bj o.2.1 1 6=true from Za.2 ⟨h1.1,h1.2.1⟩,show bj o.2.2.1 1 6=true from Za.2 ⟨h1.2.2.1,h1.2.2.2⟩];rfl
theorem Gk:∀(ops:List aH)(x:List Int),(QV ops x).1.length=ops.length+1
 | [],x=>rfl
 | o::r,x=>by simp[QV,Gk r]
def nG(ops:List aH)(x:List Int):List Int:=aq [] (QV ops x).1 ops.length
theorem QXX(x:List Int):nG [] x=x:=rfl
theorem QN0(o:aH)(r:List aH)(x:List Int):nG (o::r) x=nG r (ZY o x).1:=by
 unfold nG;rw[QV];simp[aq]
theorem Gl:∀(ops:List aH)(rows:List (List Int))(d:List Int),ops.length<=rows.length->(Q2 ops rows d).1.length=ops.length
 | [],rows,d,_=>by simp[Q2]
 | o::os,[],d,h=>by simp at h
 | o::os,r::rs,d,h=>by simp[Q2,Gl os rs d (by simpa using h)]
end Go.Proofs.YtdplaepmjogjjaaGreat.Am
namespace Go.Proofs.YtdplaepmjogjjaaGreat.Am
open Go Sz
def oY:Int->List aH->Int->Prop
 | i,[],o=>i=o
 | i,a::r,o=>Zh a=true/\a.2.1=i/\oY a.2.2.1 r o
theorem oY.append:∀ {a b:List aH} {i o:Int},oY i (a++b) o↔∃ k,oY i a k/\oY k b o
 | [],b,i,o=>by simp[oY]
 | x::a,b,i,o=>by
  rw[List.cons_append,oY,oY.append];constructor
  ·rintro⟨h1,h2,k,h3,h4⟩;exact⟨k,⟨h1,h2,h3⟩,h4⟩
  ·rintro⟨k,⟨h1,h2,h3⟩,h4⟩;exact⟨h1,h2,k,h3,h4⟩
end Go.Proofs.YtdplaepmjogjjaaGreat.Am
namespace Go.Proofs.YtdplaepmjogjjaaGreat.Am
open Go Sz
def Qt{α:Type}[Sz α](x:α):Prop:=sz x<=2147483648
def Zp{α β:Type}[Sz α][Sz β](x:α)(y:β):Prop:=sz x+sz y<=2147483648
def Ar(ops:List aH)(x:List Int):Prop:=ops.length<=1000000/\x.length<=1000000
def Gm(m:cc)(i:Int):Prop:=0<=m.2.1/\m.2.1<=6/\0<=i/\i<m.1/\m.1<=6/\(m.2.2.length:Int)=m.1*m.2.1
def Gn(m:cc)(k:Int):Prop:=m.2.1<=6/\0<=k/\k<m.2.1/\0<=m.1/\m.1<=6/\(m.2.2.length:Int)=m.1*m.2.1
@[simp] theorem Q8{α:Type}(v:List α)(e:α):List.take (v.length+1) (List.take v.length v++[e])=v++[e]:=by
 rw[List.take_length,List.take_of_length_le (by simp)]
@[simp] theorem QYe{α:Type}(v xs:List α):List.take (v.length+xs.length) (List.take v.length v++xs)=v++xs:=by
 rw[List.take_length,List.take_of_length_le (by simp)]
theorem Ys{α:Type}{l:List α}{k:Nat}(h:k<l.length):∃ y q,l.drop k=y::q:=by
 cases hq:l.drop k with
 | nil=>have:=congrArg List.length hq;simp at this;omega
 | cons y q=>exact⟨y,q,rfl⟩
theorem Ye{α:Type}{v:List α}{k:Nat}{x:α}(h:v.length=k):(v++[x]).length=k+1:=by simp[h]
theorem room{n:Nat}(h:n+1<=2147483648):(n=n\/n+1<=n)/\n+1<=ca:=⟨.inl rfl,by rw[Zg];omega⟩
theorem dP{k:Nat}(h:k<9223372036854775807):aG ((k:Int)+1)=((k+1:Nat):Int):=by rw[QF (by omega) (by omega)];omega
theorem S9(a b:Int):-4611686018427387904<=QQ a*QQ b/\QQ a*QQ b<=4611686018427387904:=by
 obtain⟨h1,h2⟩:=Jy a;obtain⟨h3,h4⟩:=Jy b;generalize QQ a=x at *;generalize QQ b=y at *;have hx:x.natAbs<=2147483647:=by omega
 have hy:y.natAbs<=2147483647:=by omega
 have h:=Nat.mul_le_mul hx hy;rw[<- Int.natAbs_mul]at h;omega
theorem QI7(x:Int):(if 2147483647<(if x < -2147483647 then -2147483647 else x) then 2147483647 else(if x < -2147483647 then -2147483647 else x))=QQ x:=by
 unfold QQ jP jQ;repeat' split
 all_goals omega
theorem QPp(a:Int):(if((Int.tmod a 65536 != 0)&&(!(decide (a<0)==decide ((65536:Int)<0))))=true then Int.tdiv a 65536-1 else Int.tdiv a 65536)=Int.fdiv a 65536:=by
 rw[Int.fdiv_eq_ediv_of_nonneg _ (by omega),Int.tmod_eq_emod,Int.tdiv_eq_ediv];have hs:Int.sign 65536=1:=rfl;rw[hs];by_cases h:0<=a
 ·have:decide (a<0)=false:=by simp;omega
  simp[h,this]
 ·have:decide (a<0)=true:=by simp;omega
  by_cases h2:(65536:Int) ∣ a
  ·have:a % 65536=0:=Int.emod_eq_zero_of_dvd h2;simp[h,h2,this]
  ·have:a % 65536≠0:=λe=>h2 (Int.dvd_of_emod_eq_zero e);simp[h,h2,this];omega
theorem idx{r R C:Int}(h1:0<=r)(h2:r<R)(h3:0<=C):0<=r*C/\r*C+C<=R*C/\(r+1)*C=r*C+C:=by
 have h4:(r+1)*C=r*C+C:=by rw[Int.add_mul,Int.one_mul]
 have h5:=Int.mul_le_mul_of_nonneg_right (show r+1<=R by omega) h3;exact⟨Int.mul_nonneg h1 h3,by omega,h4⟩
theorem rC{m:cc}(h:Zo m=true):1<=m.1/\m.1<=6/\1<=m.2.1/\m.2.1<=6/\(m.2.2.length:Int)=m.1*m.2.1/\m.1*m.2.1<=36/\Z3 m.2.2=true:=by
 simp only[Zo,Bool.and_eq_true,Za,beq_iff_eq]at h;have:=rj h.1.1.1.1 h.1.1.1.2 h.1.1.2.1 h.1.1.2.2;exact⟨h.1.1.1.1,h.1.1.1.2,h.1.1.2.1,h.1.1.2.2,h.1.2,this.2,h.2⟩
theorem Gp{f:Nat->Bool}{k:Nat}:(List.range (k+1)).any f=((List.range k).any f||f k):=by rw[List.range_succ,List.any_append];simp
theorem xj{α:Type}{f:Nat->α}{k:Nat}:(List.range (k+1)).map f=(List.range k).map f++[f k]:=by rw[List.range_succ,List.map_append];rfl
theorem Gq{α:Type}{f:Nat->List α}{k:Nat}:(List.range (k+1)).flatMap f=(List.range k).flatMap f++f k:=by rw[List.range_succ,List.flatMap_append];simp
theorem Gr{α:Type}{f:Nat->List α}{R:Nat}(n:Nat)(h:∀ k,k<n->(f k).length=R):((List.range n).flatMap f).length=n*R:=by
 induction n with
 | zero=>simp
 | succ n ih=>rw[Gq,List.length_append,ih (λk hk=>h k (by omega)),h n (by omega),Nat.add_mul];omega
theorem Ta{α:Type}{f:Nat->List α}{R:Nat}{k:Nat}:∀(n:Nat),k<n->(∀ k,k<n->(f k).length=R)->(((List.range n).flatMap f).drop (k*R)).take R=f k
 | 0,hk,_=>by omega
 | n+1,hk,h=>by
  have hl:=Gr n (λk hk=>h k (by omega));rw[Gq];by_cases e:k=n
  ·subst e;rw[List.drop_append,List.drop_eq_nil_of_le (by omega),hl,Nat.sub_self,List.drop_zero,List.nil_append,List.take_of_length_le (by rw[h k (by omega)];exact Nat.le_refl _)]
  ·have ih:=Ta (k:=k) n (by omega) (λk hk=>h k (by omega));have:(k+1)*R<=n*R:=Nat.mul_le_mul_right R (show k+1<=n by omega);rw[Nat.add_mul,Nat.one_mul]at this;rw[List.drop_append_of_le_length (by omega),List.take_append_of_le_length (by rw[List.length_drop,hl];omega),ih]
theorem Gs(m:cc)(k:Int):(ZN m k).length=m.1.toNat:=by simp[ZN]
theorem QFG{m:cc}(h:Zo m=true){k:Nat}(hk:(k:Int)<m.2.1):Z3 (ZN m k)=true:=by
 obtain⟨h1,h2,h3,h4,h5,h6,h7⟩:=rC h;unfold Z3 ZN;rw[List.all_eq_true];intro x hx;obtain⟨i,hi,rfl⟩:=List.mem_map.1 hx;have hi:=List.mem_range.1 hi;have hd:=idx (r:=i) (R:=m.1) (C:=m.2.1) (by omega) (by omega) (by omega);unfold Z3 at h7;generalize(i:Int)*m.2.1=z at *;generalize m.1*m.2.1=y at *;exact List.all_eq_true.1 h7 _ (JA (show Int.toNat (z+k)<m.2.2.length by omega) 0)
theorem QKC{m:cc}(h:Zo m=true):Zo (Yy m)=true/\(Yy m).1=m.2.1/\(Yy m).2.1=m.1/\∀ k:Nat,(k:Int)<m.2.1->Yz (Yy m) k=ZN m k:=by
 obtain⟨h1,h2,h3,h4,h5,h6,h7⟩:=rC h;have ht:Yy m=(m.2.1,m.1,(List.range m.2.1.toNat).flatMap λk:Nat=>ZN m k):=by unfold Yy;rw[if_pos h]
 have hl:=Gr (f:=λk:Nat=>ZN m k) m.2.1.toNat (λk hk=>Gs m k)
 have hn:((m.2.1.toNat*m.1.toNat:Nat):Int)=m.2.1*m.1:=by rw[Int.natCast_mul,Int.toNat_of_nonneg (by omega),Int.toNat_of_nonneg (by omega)]
 rw[ht];refine⟨?_,rfl,rfl,λk hk=>?_⟩
 ·simp only[Zo,Bool.and_eq_true,Za,beq_iff_eq];refine⟨⟨⟨⟨h3,h4⟩,h1,h2⟩,by rw[hl,hn]⟩,?_⟩;unfold Z3;rw[List.all_eq_true];intro x hx;obtain⟨k,hk,hx⟩:=List.mem_flatMap.1 hx;have:=QFG h (k:=k) (by have:=List.mem_range.1 hk;omega);unfold Z3 at this;exact List.all_eq_true.1 this x hx
 ·have hs:=Ta (f:=λk:Nat=>ZN m k) (k:=k) m.2.1.toNat (by omega) (λk hk=>Gs m k)
  have hd:=idx (r:=k) (R:=m.2.1) (C:=m.1) (by omega) hk (by omega);have e1:Int.toNat ((k:Int)*m.1)=k*m.1.toNat:=by
   have:((k*m.1.toNat:Nat):Int)=(k:Int)*m.1:=by rw[Int.natCast_mul,Int.toNat_of_nonneg (by omega)]
   omega
  unfold Yz slice;simp only;rw[show Int.toNat (((k:Int)+1)*m.1)-Int.toNat ((k:Int)*m.1)=m.1.toNat by omega,e1];exact hs
theorem QMx{m:cc}{d:List Int}(h:Zo m=true)(hd:QH d m.1=true):Q6 (Yy m) d=Zs m d:=by
 obtain⟨h1,h2,h3,h4⟩:=QKC h;unfold Q6 Zs;rw[if_pos (by rw[h1,h3,hd];rfl),if_pos (by rw[h,hd];rfl),h2];have e:∀ i,i∈List.range m.2.1.toNat->Yz (Yy m) (i:Nat)=ZN m (i:Nat):=λi hi=>h4 i (by have:=List.mem_range.1 hi;omega);refine Prod.ext (List.map_congr_left λi hi=>by rw[e i hi]) ?_;show(List.range m.2.1.toNat).any _=(List.range m.2.1.toNat).any _;rw[Bool.eq_iff_iff,List.any_eq_true,List.any_eq_true];constructor
 ·rintro⟨i,hi,h⟩;exact⟨i,hi,by rw[<- e i hi];exact h⟩
 ·rintro⟨i,hi,h⟩;exact⟨i,hi,by rw[e i hi];exact h⟩
theorem Tb{m:cc}{d:List Int}(h:¬ (Zo m=true/\QH d m.1=true)):Zs m d=([],false):=by unfold Zs;rw[if_neg (by simpa using h)]
theorem Tc{m:cc}{d:List Int}(h:¬ (Zo m=true/\QH d m.2.1=true)):Q6 m d=([],false):=by unfold Q6;rw[if_neg (by simpa using h)]
theorem As{x:Int}(h:0<=x):0<=QQ x:=by
 unfold QQ jP jQ;repeat' split
 all_goals omega
theorem Td:∀(a:List Int)(z:Int),0<=z->0<=(Yl a a z).1
 | [],z,h=>by simpa[Yl]using h
 | x::r,z,h=>by
  rw[Yl];refine Td r _ ?_;have h1:0<=QQ x*QQ x:=by
   rcases Int.le_total 0 (QQ x) with h2 | h2
   ·exact Int.mul_nonneg h2 h2
   ·exact Int.mul_nonneg_of_nonpos_of_nonpos h2 h2
  have h3:0<=Int.fdiv (QQ x*QQ x) 65536:=by rw[Int.fdiv_eq_ediv_of_nonneg _ (by omega)];omega
  have h4:0<=(Q9 x x).1:=As h3;have h5:=As h;have h6:=As h4;exact As (by omega)
theorem QF2(a:List Int):0<=(Q1 a a).1:=by
 unfold Q1;split
 ·exact Td a 0 (by omega)
 ·show(0:Int)<=0;omega
theorem Gt(x:List Int)(n:Int):(!(QK x)||((x.length:Int) != n)) = !(QH x n):=by unfold QH;simp[bne]
theorem At{o:aH}(h:Zh o=true)(h4:o.1=4):0<o.2.2.2.length:=by
 have:=S8 h;rw[if_neg (by omega),if_neg (by omega),if_pos h4]at this;omega
theorem Te{o:aH}{x:List Int}(h:¬ (Zh o=true/\QH x o.2.1=true)):ZY o x=([],false):=by unfold ZY;rw[if_neg (by simpa using h)]
theorem Tf{o:aH}{x d:List Int}(h:¬ ((Zh o=true/\QH x o.2.1=true)/\QH d o.2.2.1=true)):ZU o x d=([],[],false):=by unfold ZU;rw[if_neg (by simpa using h)]
theorem Au{o:aH}(h:Zh o=true):1<=o.1/\o.1<=5:=by simp only[Zh,Bool.and_eq_true,Za]at h;exact h.1.1.1.1.1
theorem rD{α:Type}(v:List α):List.take (id v).length (List.drop 0 (id v))=v:=by simp
theorem tJ{α:Type}(v:List α):List.take (0+v.length) (List.drop 0 v)=v:=by simp
theorem Av{α:Type}(v:List α):List.take v.length (List.drop 0 v)=v:=by simp
theorem drop_nil{α:Type}{l:List α}{k:Nat}(h:l.length<=k):l.drop k=[]:=List.drop_eq_nil_of_le h
theorem YC{α:Type}[Sz α]{l:List α}{A:Int->List α->Prop}{Q:List α->Prop}(hs:sz l<=2147483648)
  (hA:∀(k:Nat)(x:α)(v:List α),k<l.length->l.length<=2147483648->(∀ d,aq d l k=x)->v.length=k->sz x<=2147483648->A ((k+1:Nat):Int) (v++[x])->A (k:Nat) v)
  (hE:Q l->A (l.length:Nat) l) (hq:Q l):A 0 []:=by
 have hl:=Ym l;refine Zf l (λr k=>∀ v,v.length=k->v++r=l->A k v) ?_ ?_ [] rfl rfl
 ·intro v hv he;rw[List.append_nil]at he;subst he;exact hE hq
 ·intro k x r hk aW hg ih v hv he;have hx:=xd hk;exact hA k x v aW (by omega) hg hv (by omega) (ih _ (Ye hv) (by rw[<- he];simp))
theorem QXZ{o:aH}(h:Zh o=true):o.2.2.2.length<=36:=by
 have h1:=S8 h;have h2:=SN h;have h3:=rj h2.1 h2.2.1 h2.2.2.1 h2.2.2.2
 split at h1
 ·omega
 ·split at h1
  ·omega
  ·split at h1 <;> omega
theorem Aw{α:Type}(d:α){v:List α}{k:Nat}(h:v.length=k+1):v.take k++[aq d v k]=v:=by
 have h1:aq d v k=v[k]'(by omega):=Ai (List.getElem?_eq_getElem (by omega)) d;rw[h1,List.take_append_getElem (by omega),List.take_of_length_le (by omega)]
theorem Tg{α:Type}(d:α){v:List α}{n:Nat}(y:α)(h:v.length=n):aq d (v++[y]) n=y:=by
 refine Ai ?_ d;rw[List.getElem?_append_right (by omega)];simp[h]
theorem Th{α:Type}{v:List α}{n:Nat}(y:α)(h:v.length=n):(v++[y]).take n=v:=by
 rw[List.take_append_of_le_length (by omega),List.take_of_length_le (by omega)]
theorem Gu{α:Type}(n:Nat)(e g:α)(l:List α):(List.replicate (n+1) e++l).set n g=List.replicate n e++g::l:=by
 rw[List.replicate_succ',List.append_assoc,List.set_append_right _ _ (by simp)];simp
theorem Gv{m:Zx}{x:List Int}(h1:Zc m=true)(h2:QH x (ZO m)=true):JP m x=QV m x:=by unfold JP;rw[if_pos (by rw[h1,h2];rfl)]
theorem Ti:∀ {ops:List aH} {rows:List (List Int)},rows.length=ops.length->(∀ o,o∈ops->Zh o=true)->YV ops rows=true->sz rows<=37*ops.length
 | [],[],_,_,_=>by simp
 | [],r::rs,h,_,_=>by simp at h
 | o::os,[],h,_,_=>by simp at h
 | o::os,r::rs,h,ho,hg=>by
  simp only[YV,Bool.and_eq_true,beq_iff_eq]at hg;have h1:=QXZ (ho o List.mem_cons_self);have h2:=Ti (by simpa using h) (λp hp=>ho p (List.mem_cons_of_mem _ hp)) hg.2;have h3:=ZH r;rw[Jq,List.length_cons];omega
theorem QOD{m:Zx}(h:Zc m=true):∀ o,o∈m->Zh o=true:=by
 intro o ho;obtain⟨i,hi⟩:=List.getElem?_of_mem ho;simp only[Zc,Bool.and_eq_true]at h;exact(F9 h.2 i o hi).1
theorem Tj{m:Zx}(h:Zc m=true){a:QN}(h1:a.1.length=m.length/\YV m a.1=true):sz a<=296:=by
 have:=Ti h1.1 (QOD h) h1.2;have:=Yw h;simp only[QP,QL,Q0];omega
end Go.Proofs.YtdplaepmjogjjaaGreat.Am

set_option linter.all false
namespace Go.Proofs.YtdplaepmjogjjaaGreat.Am
open Go Go.RowKit Sz
def gu{α:Type}(d:α)(i:Nat)(p:α->Int->α)(z:Int × List α):Int × List α:=(aG (z.1+(1:Int)),z.2.set i (p (aq d z.2 i) z.1))
def f7{α β:Type}(d:α)(i:Nat)(g:α->β)(p:α->β->α)(f:β->Int->Int × β)(z:Int × List α):Int × List α :=
 ((f (g (aq d z.2 i)) z.1).1,z.2.set i (p (aq d z.2 i) (f (g (aq d z.2 i)) z.1).2))
theorem Z5{α:Type}(d:α)(pre post:List α)(x:α):aq d (pre++x::post) pre.length=x:=by
 simp[aq]
theorem nH{α:Type}(pre post:List α)(x y:α):(pre++x::post).set pre.length y=pre++y::post:=by
 simp
theorem nI{α:Type}(d:α)(p:α->Int->α)(k:Int)(pre post:List α)(x:α):gu d pre.length p (k,pre++x::post)=(aG (k+1),pre++p x k::post):=by
 simp[gu,Z5]
theorem nJ{α β:Type}(d:α)(g:α->β)(p:α->β->α)(f:β->Int->Int × β)(k:Int)(pre post:List α)(x:α):f7 d pre.length g p f (k,pre++x::post)=((f (g x) k).1,pre++p x (f (g x) k).2::post):=by
 simp[f7,Z5]
theorem iJ{α:Type}(pre post:List α)(x:α):(pre.length<(pre++x::post).length)=True:=by
 simp
class Mk(α:Type) where
 m:α->Int->Int × α
 n:α->Nat
 im:∀(x:α)(k:Int),0<=k->k+(n x:Nat)<=1099511627776->(m x k).1=k+(n x:Nat)
 idem:∀(x:α)(k:Int),m (m x k).2 k=m x k
 same:∀(x:α)(k:Int),n (m x k).2=n x
instance:Mk Int where
 m _ k:=(aG (k+1),k)
 n _:=1
 im x k h1 h2:=QF (by omega) (by simp at h2;omega)
 idem _ _:=rfl
 same _ _:=rfl
instance:Mk Bool where
 m _ k:=(aG (k+1),Int.tmod k 3==0)
 n _:=1
 im x k h1 h2:=QF (by omega) (by simp at h2;omega)
 idem _ _:=rfl
 same _ _:=rfl
instance {α β:Type} [Mk α] [Mk β]:Mk (α × β) where
 m x k:=((Mk.m x.2 (Mk.m x.1 k).1).1,((Mk.m x.1 k).2,(Mk.m x.2 (Mk.m x.1 k).1).2))
 n x:=Mk.n x.1+Mk.n x.2
 im x k h1 h2:=by
  have e:=Mk.im x.1 k h1 (by omega)
  simp only
  rw[e,Mk.im x.2 _ (by omega) (by omega)]
  omega
 idem x k:=by simp only[Mk.idem]
 same x k:=by simp only[Mk.same]
def lY{α:Type}[Mk α]:List α->Int->Int × List α
 | [],k=>(k,[])
 | x::r,k=>((lY r (Mk.m x k).1).1,(Mk.m x k).2::(lY r (Mk.m x k).1).2)
def nL{α:Type}[Mk α]:List α->Nat
 | []=>0
 | x::r=>Mk.n x+nL r
instance {α:Type} [Mk α]:Mk (List α) where
 m:=lY
 n:=nL
 im x:=by
  induction x with
  | nil=>intro k _ _;simp[lY,nL]
  | cons x r ih =>
   intro k h1 h2
   simp only[nL]at h2 ⊢
   have e:=Mk.im x k h1 (by omega)
   simp only[lY,e]
   rw[ih _ (by omega) (by omega)]
   omega
 idem x:=by
  induction x with
  | nil=>intro k;rfl
  | cons x r ih=>intro k;simp only[lY,Mk.idem,ih]
 same x:=by
  induction x with
  | nil=>intro k;rfl
  | cons x r ih=>intro k;simp only[lY,nL,Mk.same,ih]
theorem QFP{α:Type}[Mk α](x:List α):∀(k:Int),(Mk.m x k).2.length=x.length:=by
 induction x with
 | nil=>intro k;rfl
 | cons x r ih=>intro k;show(Mk.m r (Mk.m x k).1).2.length+1=r.length+1;rw[ih]
theorem Ax{α:Type}[Mk α](x:List α)(k:Int):List.take x.length (Mk.m x k).2=(Mk.m x k).2:=List.take_of_length_le (by rw[QFP];exact Nat.le_refl _)
class cV(α:Type) where
 m:α->Int->Int × α
 n:α->Nat
 im:∀(x:α)(k:Int),0<=k->k+(n x:Nat)<=1099511627776->(m x k).1=k+(n x:Nat)
 idem:∀(x:α)(k:Int),m (m x k).2 k=m x k
 same:∀(x:α)(k:Int),n (m x k).2=n x
instance:cV Int where
 m x k:=(k,x)
 n _:=0
 im x k _ _:=by simp
 idem _ _:=rfl
 same _ _:=rfl
instance:cV Bool where
 m x k:=(k,x)
 n _:=0
 im x k _ _:=by simp
 idem _ _:=rfl
 same _ _:=rfl
instance {α β:Type} [cV α] [cV β]:cV (α × β) where
 m x k:=((cV.m x.2 (cV.m x.1 k).1).1,((cV.m x.1 k).2,(cV.m x.2 (cV.m x.1 k).1).2))
 n x:=cV.n x.1+cV.n x.2
 im x k h1 h2:=by
  have e:=cV.im x.1 k h1 (by omega)
  simp only
  rw[e,cV.im x.2 _ (by omega) (by omega)]
  omega
 idem x k:=by simp only[cV.idem]
 same x k:=by simp only[cV.same]
instance {α:Type} [Mk α]:cV (List α) where
 m:=Mk.m
 n:=Mk.n
 im:=Mk.im
 idem:=Mk.idem
 same:=Mk.same
def QT{α:Type}[Mk α](x:α)(k:Int):Int × α:=Mk.m x k
def ZT{α:Type}[cV α](x:α)(k:Int):Int × α:=cV.m x k
def Q5{α:Type}[Mk α](x:α)(k:Int):Prop:=0<=k/\k+(Mk.n x:Nat)<=1099511627776
def Ji{α:Type}[cV α](x:α)(k:Int):Prop:=0<=k/\k+(cV.n x:Nat)<=1099511627776
open Classical in
noncomputable def aR{α:Type}[Mk α](x:α)(k:Int):Int:=if(Mk.m x k).2=x then(Mk.m x k).1 else -1
open Classical in
noncomputable def ef{α:Type}[cV α](x:α)(k:Int):Int:=if(cV.m x k).2=x then(cV.m x k).1 else -1
theorem xk{α:Type}[Mk α]{x:α}{k:Int}(h:(Mk.m x k).2=x):aR x k=(Mk.m x k).1:=by simp[aR,h]
theorem Ay{α:Type}[Mk α]{x:α}{k:Int}(h:¬ (Mk.m x k).2=x):aR x k = -1:=by simp[aR,h]
theorem Tk{α:Type}[cV α]{x:α}{k:Int}(h:(cV.m x k).2=x):ef x k=(cV.m x k).1:=by simp[ef,h]
theorem Az{α:Type}[cV α]{x:α}{k:Int}(h:¬ (cV.m x k).2=x):ef x k = -1:=by simp[ef,h]
theorem Z7{α:Type}[Mk α]{x:α}{k:Int}(hp:Q5 x k)(h:aR x k<0):¬ (Mk.m x k).2=x:=λe=>by
 rw[xk e,Mk.im x k hp.1 hp.2]at h;have:=hp.1;omega
theorem Z2{α:Type}[Mk α]{x:α}{k:Int}(h:¬ aR x k<0):(Mk.m x k).2=x/\aR x k=(Mk.m x k).1:=by
 apply Classical.byContradiction;intro hn;have:¬ (Mk.m x k).2=x:=λe=>hn ⟨e,xk e⟩;rw[Ay this]at h;omega
theorem oZ{α β:Type}[Mk α][Mk β](x:α × β)(k:Int):Mk.m x k=((Mk.m x.2 (Mk.m x.1 k).1).1,((Mk.m x.1 k).2,(Mk.m x.2 (Mk.m x.1 k).1).2)):=rfl
theorem o3(x:Int)(k:Int):Mk.m x k=(aG (k+1),k):=rfl
theorem o4(x:Bool)(k:Int):Mk.m x k=(aG (k+1),Int.tmod k 3==0):=rfl
theorem QRJ{α β:Type}[cV α][cV β](x:α × β)(k:Int):cV.m x k=((cV.m x.2 (cV.m x.1 k).1).1,((cV.m x.1 k).2,(cV.m x.2 (cV.m x.1 k).1).2)):=rfl
theorem QQ8(x:Int)(k:Int):cV.m x k=(k,x):=rfl
theorem QJg(x:Bool)(k:Int):cV.m x k=(k,x):=rfl
theorem QJ0{α:Type}[Mk α](x:List α)(k:Int):cV.m x k=Mk.m x k:=rfl
theorem Zd{α β:Type}[Mk α][Mk β]{x:α × β}{k:Int}(h:Q5 x k):Q5 x.1 k/\Q5 x.2 (Mk.m x.1 k).1:=by
 have hn:Mk.n x=Mk.n x.1+Mk.n x.2:=rfl;unfold Q5 at *;rw[hn]at h;have e:=Mk.im x.1 k h.1 (by omega);rw[e];omega
theorem tK{α β:Type}[cV α][cV β]{x:α × β}{k:Int}(h:Ji x k):Ji x.1 k/\Ji x.2 (cV.m x.1 k).1:=by
 have hn:cV.n x=cV.n x.1+cV.n x.2:=rfl;unfold Ji at *;rw[hn]at h;have e:=cV.im x.1 k h.1 (by omega);rw[e];omega
theorem o5{α:Type}[Mk α]{x:List α}{k:Int}(h:Ji x k):Q5 x k:=h
theorem Yk:(¬ (3:Int)=0)=True:=by simp
theorem YZ{α:Type}[BEq α][LawfulBEq α]{x y:α}(h:(x != y)=false):x=y:=by simpa using h
theorem YO{α:Type}[BEq α][LawfulBEq α]{x y:α}(h:(x != y)=true):¬ x=y:=by simpa using h
theorem Yo{α:Type}[Sz α]{a:List α}(h:bB a):a.length<=1048576:=Nat.le_trans (Ym a) h
theorem nK{α:Type}(l:List α)(i:Nat)(x:α):(l.set i x).take l.length=l.set i x:=List.take_of_length_le (by simp)
theorem nM{α:Type}[Sz α](a:List α){d:α}{A:Int->List α->Prop}{Q:List α->Prop}(h:bB a)
  (hs:∀(k:Nat)(x:α)(out:List α),k<a.length->(∀ d,aq d a k=x)->out.length=a.length->bB x->A ((k+1:Nat):Int) (out.set k x)->A ((k:Nat):Int) out)
  (he:∀ out:List α,out.length=a.length->Q out->A ((a.length:Nat):Int) out) (hq:Q a):A 0 (List.take (Int.toNat (a.length:Int)) (List.replicate (Int.toNat (a.length:Int)) d)):=by
 have key:∀ out:List α,out.length=a.length->out.take 0=a.take 0->A (0:Nat) out:=by
  refine Zf a (λr k=>∀ out:List α,out.length=a.length->out.take k=a.take k->A k out) ?_ ?_
  ·intro out hl ht;refine he out hl ?_;rw[List.take_of_length_le (by omega),List.take_of_length_le (by omega)]at ht;rw[ht];exact hq
  ·intro k x r hk aW hg ih out hl ht;refine hs k x out aW hg hl (by have:=xd hk;unfold bB at h ⊢;omega) (ih _ (by simp[hl]) ?_);have hx:a[k]? = some x:=by have:=congrArg List.head? hk;simpa[List.head?_drop]using this
   rw[List.take_add_one,List.take_add_one,List.getElem?_set_self (by omega),hx,List.take_set_of_le (by omega),ht]
 exact key _ (by simp) rfl
theorem J3{α:Type}[Mk α](a:List α)(k:Int){A:Int->Int->List α->Prop}{Q:Int × List α->Prop}
  (hs:∀(k:Int)(pre post:List α)(x:α),pre.length+1+post.length=a.length->A (Mk.m x k).1 (((pre.length+1:Nat)):Int) (pre++(Mk.m x k).2::post)->A k ((pre.length:Nat):Int) (pre++x::post))
  (he:∀(k:Int)(l:List α),l.length=a.length->Q (k,l)->A k ((a.length:Nat):Int) l) (hq:Q (QT a k)):A k 0 a:=by
 suffices ∀(post pre:List α)(k:Int),pre.length+post.length=a.length->Q ((lY post k).1,pre++(lY post k).2)->A k ((pre.length:Nat):Int) (pre++post) from this a [] k (by simp) hq
 intro post
 induction post with
 | nil =>
  intro pre k hl hq;have:=he k (pre++[]) (by simpa using hl) (by simpa[lY]using hq);rw[show pre.length=a.length by simpa using hl];exact this
 | cons x post ih =>
  intro pre k hl hq;refine hs k pre post x (by simp at hl;omega) ?_;have:=ih (pre++[(Mk.m x k).2]) (Mk.m x k).1 (by simp at hl ⊢;omega) (by simpa[lY]using hq);simpa using this
theorem JY{α:Type}[Mk α](a:List α)(k:Int)(hp:Q5 a k){A:Int->Int->Prop}{Q:Int->Prop}
  (hs:∀(k:Int)(pre post:List α)(x:α),a=pre++x::post->Q5 x k->(¬ (Mk.m x k).2=x->Q (-1))->((Mk.m x k).2=x->A (Mk.m x k).1 (((pre.length+1:Nat)):Int))->A k ((pre.length:Nat):Int))
  (he:∀(k:Int),Q k->A k ((a.length:Nat):Int)) (hq:Q (aR a k)):A k 0:=by
 suffices ∀(post pre:List α)(k:Int),a=pre++post->Q5 post k->Q (aR post k)->A k ((pre.length:Nat):Int) from this a [] k (by simp) hp hq
 intro post
 induction post with
 | nil =>
  intro pre k hl _ hq;have:pre.length=a.length:=by rw[hl];simp
  rw[this];exact he k (by have:=xk (x:=([]:List α)) (k:=k) rfl;rw[this]at hq;exact hq)
 | cons x post ih =>
  intro pre k hl hp hq;have hn:Mk.n (x::post)=Mk.n x+Mk.n post:=rfl;have iO:=hp;unfold Q5 at hp;rw[hn]at hp;have fP:Q5 x k:=⟨hp.1,by have:=hp.2;omega⟩
  have Tl:=Mk.im x k fP.1 fP.2;refine hs k pre post x hl fP (λdK=>?_) (λheq=>?_)
  ·rw[Ay (λh=>dK (by have:((Mk.m x k).2::(Mk.m post (Mk.m x k).1).2)=x::post:=h;injection this))]at hq;exact hq
  ·have:=ih (pre++[x]) (Mk.m x k).1 (by simp[hl]) ⟨by rw[Tl];omega,by rw[Tl];have:=hp.2;omega⟩ (by
    by_cases h:(Mk.m post (Mk.m x k).1).2=post
    ·rw[xk h];rw[xk (show(Mk.m (x::post) k).2=x::post from by show(Mk.m x k).2::(Mk.m post (Mk.m x k).1).2=_;rw[heq,h])]at hq;exact hq
    ·rw[Ay h];rw[Ay (λh'=>h (by have:((Mk.m x k).2::(Mk.m post (Mk.m x k).1).2)=x::post:=h';injection this))]at hq;exact hq)
   simpa using this
end Go.Proofs.YtdplaepmjogjjaaGreat.Am
namespace Go.Proofs.YtdplaepmjogjjaaGreat.Am
open Go Go.RowKit Sz
theorem J6{α β:Type}[Mk α][Mk β](x:α × β):Mk.n x=Mk.n x.1+Mk.n x.2:=rfl
theorem JM(x:Int):Mk.n x=1:=rfl
theorem QPU(x:Bool):Mk.n x=1:=rfl
theorem QI5{α β:Type}[cV α][cV β](x:α × β):cV.n x=cV.n x.1+cV.n x.2:=rfl
theorem QIS{α:Type}[Mk α](x:List α):cV.n x=Mk.n x:=rfl
theorem nN{α:Type}[Sz α][Mk α](h:∀ x:α,Mk.n x<=16+16*sz x)(l:List α):Mk.n l<=16*sz l:=by
 induction l with
 | nil=>exact Nat.zero_le _
 | cons x r ih =>
  have h1:=h x;have h2:Mk.n (x::r)=Mk.n x+Mk.n r:=rfl;rw[h2,Jq];omega
theorem J5(l:List Int):Mk.n l<=16*sz l:=nN (λx=>by rw[JM];omega) l
theorem Gw(l:List (List Int)):Mk.n l<=16*sz l:=nN (λx=>by have:=J5 x;omega) l
theorem QHx(l:List bt):Mk.n l<=16*sz l:=nN (λx=>by rw[J6,JM,JM];omega) l
theorem QWr(l:List Ql):Mk.n l<=16*sz l:=nN (λx=>by have:=J5 x.2;rw[J6,JM,QP,QL];omega) l
theorem QVZ(l:List aH):Mk.n l<=16*sz l:=nN (λx=>by
 have:=J5 x.2.2.2;rw[J6,J6 x.2,J6 x.2.2,JM,JM,JM,QP,QP x.2,QP x.2.2,QL,QL,QL];omega) l
theorem QKf(l:List Qo):Mk.n l<=16*sz l:=nN (λx=>by have:=J5 x.1;have:=J5 x.2;rw[J6,QP];omega) l
theorem QGV(l:List QC):Mk.n l<=16*sz l:=nN (λx=>by have:=Gw x.2;rw[J6,JM,QP,QL];omega) l
theorem Tm(l:List Qd):Mk.n l<=16*sz l:=nN (λx=>by have:=QWr x.2;rw[J6,JM,QP,QL];omega) l
theorem QTs(l:List Qc):Mk.n l<=16*sz l:=nN (λx=>by
 obtain⟨a,b,c,d,e,f,g,h,i,j,k,m,n,o⟩:=x;have h1:=QHx b;have h2:=QVZ c;have h3:=QGV f;have h4:=Gw g;have h5:=J5 h;have h6:=J5 i;have h7:=J5 j;have h8:=J5 k;have h9:=Gw m;simp only[J6,JM,QPU,YJ,QL,Q0];omega) l
theorem Tn(x:Qm):cV.n x<=16*sz x:=by
 obtain⟨a,b,c,d⟩:=x;have h1:=QKf a;have h2:=QTs b;have h3:=Tm c;have h4:=Tm d;simp only[QI5,QIS,YJ];omega
theorem To{α:Type}[Sz α][cV α]{x:α}{k:Int}{b c:Nat}(hk:0<=k/\k<=b)(hn:cV.n x<=16*sz x)(hs:sz x<=c)(hb:b+16*c<=1099511627776):Ji x k/\0<=(ZT x k).1/\(ZT x k).1<=((b+16*c:Nat):Int):=by
 have hp:Ji x k:=⟨hk.1,by omega⟩
 have:=cV.im x k hp.1 hp.2;have:(ZT x k).1=k+(cV.n x:Nat):=this;exact⟨hp,by omega,by omega⟩
theorem QQU{α:Type}[cV α]{x:α}{k:Int}(hp:Ji x k):Ji (ZT x k).2 k/\ef (ZT x k).2 k=(ZT x k).1:=by
 refine⟨⟨hp.1,?_⟩,?_⟩
 ·have:cV.n (ZT x k).2=cV.n x:=cV.same x k;rw[this];exact hp.2
 ·have h:cV.m (ZT x k).2 k=cV.m x k:=cV.idem x k;rw[Tk (by rw[h];rfl),h];rfl
end Go.Proofs.YtdplaepmjogjjaaGreat.Am

namespace Go.Proofs.YtdplaepmjogjjaaGreat.Am
open Go Go.RowKit Go.Proofs.YtdplaepmjogjjaaGreat
set_option linter.all false
noncomputable section
variable (K:aB->Prop)
def tL(t:Int):aB:=b6 (aL t)
def rE:aJ:=Qg 59 [(.c (.sl [TI])),(.c TI)] λx=>(some (bJ (α:=List Int) x.1 x.2.1),tL (bg (α:=List Int) x.1 x.2.1))
def QX7:aF:=⟨[],false⟩
def QKj:af :=
 (ag [(.ae [ab 4 (ar 0)]),(.ae [ab 5 1,ab 6 0,ba 7 6,aw 8 .sub 5 7,ab 1 8]),(ag [(.ae [ab 9 1,aw 10 .lss 9 (ar 0)]),(.cond 10 (ag [(.ae [ab 4 (ar (-1))]),.ret]) .skip)]),(.ae [ab 11 1,ab 4 11]),.ret])
def QSc:List (bn × Md):=[(.t 4,.one .d)]
theorem QFT(a:List Int)(left:Int)(hp:bJ (α:=List Int) a left):aK Tryz.prog 59 [(.c (.sl [TI]) a),(.c TI left)] (tL (bg (α:=List Int) a left)):=by
 refine bz QX7 QKj QSc 0 0 12 rE kn (λK =>
 (aI (decide ((aG (left-(a.length:Int)))<0)) (K (tL (-1:Int))) (K (tL (aG (left-(a.length:Int))))))) (λhb=>?_)
 exact SM (Q:=λx=>tL x=tL (bg (α:=List Int) a left)) (λ_=>rfl) hp hb.1.1 rfl
theorem xl:Qf Tryz.prog rE:=Qh λx h=>QFT x.1 x.2.1 h
def AA(t:Int):aB:=b6 (aL t)
def Gx:aJ:=Qg 154 [(.a [(.sl [TI])]),(.c TI)] λx=>(some (bJ (α:=List Int) x.1 x.2.1),AA (bg (α:=List Int) x.1 x.2.1))
def QIz:aF:=⟨[rE],false⟩
def QHy:af :=
 (ag [(.ae [aC 2 (.box 189 0 1),ab 4 (ar 0)]),(.ae [ak 5 2 0,an 6 5 1,ab 7 1,aD 8 59 [6,7],ab 1 8]),(ag [(.ae [ab 9 1,aw 10 .lss 9 (ar 0)]),(.cond 10 (ag [(.ae [ab 4 (ar (-1))]),.ret]) .skip)]),(.ae [ab 11 1,ab 4 11]),.ret])
def QL1:List (bn × Md):=[(.t 4,.one .d)]
theorem QU2(a:List Int)(left:Int)(hp:bJ (α:=List Int) a left):aK Tryz.prog 154 [(.a [(.c (.sl [TI]) a)]),(.c TI left)] (AA (bg (α:=List Int) a left)):=by
 refine bz QIz QHy QL1 0 0 12 Gx (kc xl kn) (λK =>
 ((bJ (α:=List Int) a left)/\(aI (decide ((bg (α:=List Int) a left)<0)) (K (AA (-1:Int))) (K (AA (bg (α:=List Int) a left)))))) (λhb=>?_)
 refine⟨hp,λh=>au (Z0 (of_decide_eq_true h) (by first | omega | (simp only[QP,QL,Q0];omega)) hp.1),λh=>?_⟩;exact au (congrArg (Z6 · _) (by first | rfl | omega | (simp only[QP,QL,Q0];omega)))
theorem QRz:Qf Tryz.prog Gx:=Qh λx h=>QU2 x.1 x.2.1 h
def rF(t:Int):aB:=b6 (aL t)
def xm:aJ:=Qg 58 [(.c (.sl [(.sl [TI])])),(.c TI)] λx=>(some (bJ (α:=List (List Int)) x.1 x.2.1),rF (bg (α:=List (List Int)) x.1 x.2.1))
def Gy:aF:=⟨[Gx],false⟩
def Tp:af :=
 (ag [(ag [(.ae [ab 12 5,ab 13 0,ba 14 13,aw 15 .lss 12 14]),(.cond 15 .skip (.exit 0))]),(.block 1 (ag [(.ae [ab 18 0,ab 19 5,aZ 20 18 19 [(.sl [TI])],a9 21 20 1,ab 22 1,aD 23 154 [21,22],ab 1 23]),(.ae [ab 24 1,aw 25 .lss 24 (ar 0)]),(.cond 25 (ag [(.ae [ab 4 (ar (-1))]),.ret]) .skip)])),(.ae [ab 16 5,aw 17 .add 16 (ar 1),ab 5 17])])
def Tq:List (Nat × Md):=eV [0,1,5]
def Tr:af :=
 (ag [(.ae [ab 26 1,ab 4 26]),.ret])
def QGh:af :=
 (ag [(.ae [ab 4 (ar 0)]),(.ae [ab 6 1,ab 7 0,ba 8 7,aw 9 .sub 6 8,ab 1 9]),(ag [(.ae [ab 10 1,aw 11 .lss 10 (ar 0)]),(.cond 11 (ag [(.ae [ab 4 (ar (-1))]),.ret]) .skip)]),(ag [(.ae [ab 5 (ar 0)]),(.block 0 (.loop Tq Tp))]),Tr])
def Ts:List (bn × Md):=[(.t 4,.one .d)]
def Tt:Qb:=TQ 0 0 Ts K
def QUq:Qb:=a0 (aN Gy 0 Tr (Tt K)) (Tt K)
def QHb:Qb:=a7 0 (QUq K)
def Gz(a:List (List Int))(bC:Int)(i:Int):Prop:=Loop Gy 0 Tq Tp (QHb K) ⟨[(0,(bf [(.sl [TI])] a)),(1,(aL bC)),(5,(aL i))],[],0⟩
theorem QFk(a:List (List Int))(bC:Int)(i:Int) (h :
 (aI (decide (i<(a.length:Int))) (((0<=i/\Int.toNat i<a.length)/\(bJ (α:=List Int) (aq ([]:List Int) a (Int.toNat i)) bC))/\(aI (decide ((bg (α:=List Int) (aq ([]:List Int) a (Int.toNat i)) bC)<0)) (K (rF (-1:Int))) (Gz K a (bg (α:=List Int) (aq ([]:List Int) a (Int.toNat i)) bC) (aG (i+1))))) (K (rF bC)))):Gz K a bC i :=
 Loop.of h
theorem QTD(a:List (List Int))(left:Int)(hp:bJ (α:=List (List Int)) a left):aK Tryz.prog 58 [(.c (.sl [(.sl [TI])]) a),(.c TI left)] (rF (bg (α:=List (List Int)) a left)):=by
 refine bz Gy QGh Ts 0 0 27 xm (kc QRz kn) (λK =>
 (aI (decide ((aG (left-(a.length:Int)))<0)) (K (rF (-1:Int))) (Gz K a (aG (left-(a.length:Int))) 0))) (λhb=>?_)
 exact ri (Q:=λx=>rF x=rF (bg (α:=List (List Int)) a left)) ([]:List Int) hp hb.1.1 (λl i h=>QFk _ a l i h) rfl
theorem GA:Qf Tryz.prog xm:=Qh λx h=>QTD x.1 x.2.1 h
def AB(t:Int):aB:=b6 (aL t)
def GB:aJ:=Qg 60 [(.a Zj),(.c TI)] λx=>(some (bJ (α:=QN) x.1 x.2.1),AB (bg (α:=QN) x.1 x.2.1))
def QVQ:aF:=⟨[xm],false⟩
def QQh:af :=
 (ag [(.ae [aC 2 (.box 28 0 3),ab 4 (ar 0)]),(.ae [ak 5 2 0,an 6 5 1,ab 7 1,aD 8 58 [6,7],ab 1 8]),(ag [(.ae [ab 9 1,aw 10 .lss 9 (ar 0)]),(.cond 10 (ag [(.ae [ab 4 (ar (-1))]),.ret]) .skip)]),(.ae [ab 11 1,ab 4 11]),.ret])
def QHz:List (bn × Md):=[(.t 4,.one .d)]
theorem QJe(a:QN)(left:Int)(hp:bJ (α:=QN) a left):aK Tryz.prog 60 [(.a (aT.cells Zj a)),(.c TI left)] (AB (bg (α:=QN) a left)):=by
 refine bz QVQ QQh QHz 0 0 12 GB (kc GA kn) (λK =>
 ((bJ (α:=List (List Int)) a.1 left)/\(aI (decide ((bg (α:=List (List Int)) a.1 left)<0)) (K (AB (-1:Int))) (K (AB (bg (α:=List (List Int)) a.1 left)))))) (λhb=>?_)
 refine⟨hp,λh=>au (Z0 (of_decide_eq_true h) (by first | omega | (simp only[QP,QL,Q0];omega)) hp.1),λh=>?_⟩;exact au (congrArg (Z6 · _) (by first | rfl | omega | (simp only[QP,QL,Q0];omega)))
theorem QIi:Qf Tryz.prog GB:=Qh λx h=>QJe x.1 x.2.1 h
def xn(t:Int):aB:=b6 (aL t)
def GC:aJ:=Qg 116 [(.a QG),(.c TI)] λx=>(some (bJ (α:=Qo) x.1 x.2.1),xn (bg (α:=Qo) x.1 x.2.1))
def QXj:aF:=⟨[rE],false⟩
def QTM:af :=
 (ag [(.ae [aC 2 (.box 151 0 2),ab 4 (ar 0)]),(.ae [ak 5 2 0,an 6 5 1,ab 7 1,aD 8 59 [6,7],ab 1 8]),(ag [(.ae [ab 9 1,aw 10 .lss 9 (ar 0)]),(.cond 10 (ag [(.ae [ab 4 (ar (-1))]),.ret]) .skip)]),(.ae [ak 11 2 1,an 12 11 1,ab 13 1,aD 14 59 [12,13],ab 1 14]),(ag [(.ae [ab 15 1,aw 16 .lss 15 (ar 0)]),(.cond 16 (ag [(.ae [ab 4 (ar (-1))]),.ret]) .skip)]),(.ae [ab 17 1,ab 4 17]),.ret])
def QM4:List (bn × Md):=[(.t 4,.one .d)]
theorem QTZ(a:Qo)(left:Int)(hp:bJ (α:=Qo) a left):aK Tryz.prog 116 [(.a [(.c (.sl [TI]) a.1),(.c (.sl [TI]) a.2)]),(.c TI left)] (xn (bg (α:=Qo) a left)):=by
 refine bz QXj QTM QM4 0 0 18 GC (kc xl kn) (λK =>
 ((bJ (α:=List Int) a.1 left)/\(aI (decide ((bg (α:=List Int) a.1 left)<0)) (K (xn (-1:Int))) ((bJ (α:=List Int) a.2 (bg (α:=List Int) a.1 left))/\(aI (decide ((bg (α:=List Int) a.2 (bg (α:=List Int) a.1 left))<0)) (K (xn (-1:Int))) (K (xn (bg (α:=List Int) a.2 (bg (α:=List Int) a.1 left))))))))) (λhb=>?_)
 refine⟨hp,λh=>au (Z0 (of_decide_eq_true h) (by first | omega | (simp only[QP,QL,Q0];omega)) hp.1),λh=>?_⟩;rw[Ju (Int.not_lt.1 (of_decide_eq_false h))];refine⟨Jp hp,λh=>au (Z0 (of_decide_eq_true h) (by first | omega | (simp only[QP,QL,Q0];omega)) hp.1),λh=>?_⟩;exact au (congrArg (Z6 · _) (by first | rfl | omega | (simp only[QP,QL,Q0];omega)))
theorem QJx:Qf Tryz.prog GC:=Qh λx h=>QTZ x.1 x.2.1 h
def rG(t:Int):aB:=b6 (aL t)
def GD:aJ:=Qg 34 [(.c (.sl QG)),(.c TI)] λx=>(some (bJ (α:=List Qo) x.1 x.2.1),rG (bg (α:=List Qo) x.1 x.2.1))
def GF:aF:=⟨[GC],false⟩
def Tu:af :=
 (ag [(ag [(.ae [ab 12 5,ab 13 0,ba 14 13,aw 15 .lss 12 14]),(.cond 15 .skip (.exit 0))]),(.block 1 (ag [(.ae [ab 18 0,ab 19 5,aZ 20 18 19 QG,a9 21 20 2,ab 22 1,aD 23 116 [21,22],ab 1 23]),(.ae [ab 24 1,aw 25 .lss 24 (ar 0)]),(.cond 25 (ag [(.ae [ab 4 (ar (-1))]),.ret]) .skip)])),(.ae [ab 16 5,aw 17 .add 16 (ar 1),ab 5 17])])
def Tv:List (Nat × Md):=eV [0,1,5]
def Tw:af :=
 (ag [(.ae [ab 26 1,ab 4 26]),.ret])
def QNb:af :=
 (ag [(.ae [ab 4 (ar 0)]),(.ae [ab 6 1,ab 7 0,ba 8 7,aw 9 .sub 6 8,ab 1 9]),(ag [(.ae [ab 10 1,aw 11 .lss 10 (ar 0)]),(.cond 11 (ag [(.ae [ab 4 (ar (-1))]),.ret]) .skip)]),(ag [(.ae [ab 5 (ar 0)]),(.block 0 (.loop Tv Tu))]),Tw])
def Tx:List (bn × Md):=[(.t 4,.one .d)]
def Ty:Qb:=TQ 0 0 Tx K
def QKL:Qb:=a0 (aN GF 0 Tw (Ty K)) (Ty K)
def QVp:Qb:=a7 0 (QKL K)
def GG(a:List Qo)(bC:Int)(i:Int):Prop:=Loop GF 0 Tv Tu (QVp K) ⟨[(0,(bf QG a)),(1,(aL bC)),(5,(aL i))],[],0⟩
theorem QWD(a:List Qo)(bC:Int)(i:Int) (h :
 (aI (decide (i<(a.length:Int))) (((0<=i/\Int.toNat i<a.length)/\(bJ (α:=Qo) (aq QW a (Int.toNat i)) bC))/\(aI (decide ((bg (α:=Qo) (aq QW a (Int.toNat i)) bC)<0)) (K (rG (-1:Int))) (GG K a (bg (α:=Qo) (aq QW a (Int.toNat i)) bC) (aG (i+1))))) (K (rG bC)))):GG K a bC i :=
 Loop.of h
theorem QF6(a:List Qo)(left:Int)(hp:bJ (α:=List Qo) a left):aK Tryz.prog 34 [(.c (.sl QG) a),(.c TI left)] (rG (bg (α:=List Qo) a left)):=by
 refine bz GF QNb Tx 0 0 27 GD (kc QJx kn) (λK =>
 (aI (decide ((aG (left-(a.length:Int)))<0)) (K (rG (-1:Int))) (GG K a (aG (left-(a.length:Int))) 0))) (λhb=>?_)
 exact ri (Q:=λx=>rG x=rG (bg (α:=List Qo) a left)) QW hp hb.1.1 (λl i h=>QWD _ a l i h) rfl
theorem QRj:Qf Tryz.prog GD:=Qh λx h=>QF6 x.1 x.2.1 h
def tM(t:(List Int)):aB:=⟨(.r [TI] 0 0 t.length),[(.sl 3 [TI] (.dp 0 true []) t)],[],false,[]⟩
def rH:aJ:=Qg 29 [(.c (.sl [TI]))] λx=>(some (bB (α:=List Int) x.1),tM (id (α:=List Int) x.1))
def GH:aF:=⟨[],true⟩
def Tz:af :=
 (ag [(ag [(.ae [ab 8 4,ab 9 0,ba 10 9,aw 11 .lss 8 10]),(.cond 11 .skip (.exit 0))]),(.block 1 (.ae [ab 14 3,ab 15 4,ab 16 0,ab 17 4,aZ 18 16 17 [TI],an 19 18 1,aZ 20 14 15 [TI],aV 20 19 1])),(.ae [ab 12 4,aw 13 .add 12 (ar 1),ab 4 13])])
def TA:List (Nat × Md):=[(0,.one .d),(3,.one .f),(4,.one .d)]
def TB:af :=
 (ag [(.ae [ab 21 3,ab 2 21]),.ret])
def QJY:af :=
 (ag [(.ae [ab 2 (.k (.n [TI]))]),(.ae [ab 5 0,ba 6 5,aC 7 (.mk 3 [TI] [(aL 0)] 6),ab 3 7]),(ag [(.ae [ab 4 (ar 0)]),(.block 0 (.loop TA Tz))]),TB])
def TC:List (bn × Md):=[(.t 2,.one (.p 3))]
def TD:Qb:=TQ 0 0 TC K
def QH6:Qb:=a0 (aN GH 0 TB (TD K)) (TD K)
def QKa:Qb:=a7 0 (QH6 K)
def AD(a:List Int)(i:Int)(out:List Int):Prop:=Loop GH 0 TA Tz (QKa K) ⟨[(0,(bf [TI] a)),(3,(.r [TI] 0 0 out.length)),(4,(aL i))],[(0,(.sl 3 [TI] (.dp 0 true []) out))],1⟩
theorem TF(a:List Int)(i:Int)(out:List Int) (h :
 (aI (decide (i<(a.length:Int))) (((0<=i/\Int.toNat i<a.length)/\((0<=i/\Int.toNat i<out.length)/\((0+(Int.toNat i))<out.length)))/\(AD K a (aG (i+1)) (List.take out.length ((out).set (0+(Int.toNat i)) (aq (0:Int) a (Int.toNat i)))))) (K (tM (List.take out.length out))))):AD K a i out :=
 Loop.of h
theorem QVF(a:List Int)(hp:bB (α:=List Int) a):aK Tryz.prog 29 [(.c (.sl [TI]) a)] (tM (id (α:=List Int) a)):=by
 refine bz GH QJY TC 0 0 22 rH kn (λK =>
 ((0<=(a.length:Int)/\(a.length:Int)<=ca)/\(AD K a 0 (List.take (Int.toNat (a.length:Int)) (List.replicate (Int.toNat (a.length:Int)) (0:Int)))))) (λhb=>?_)
 refine⟨⟨by omega,by rw[gT];have:=Yo hp;omega⟩,?_⟩;refine nM a (A:=λii ll=>AD (λr'=>r'=tM (id (α:=List Int) a)) a ii ll) (Q:=λz=>tM z=tM (id (α:=List Int) a)) hp ?_ ?_ rfl
 ·intro k x out aW hg ho hx hA;have hw:aG (((k:Nat):Int)+1)=((k+1:Nat):Int):=by have:=Yo hp;rw[QF (by omega) (by omega)];omega
  have g9:k<out.length:=by omega
  refine TF _ _ _ _ ?_;refine⟨λ_=>?_,λh=>absurd h (by simp;omega)⟩;simp only[Int.toNat_natCast,Nat.zero_add,hg,hw,aW,g9,nK,List.drop_zero,List.take_length,id_eq,and_true,true_and,Int.natCast_nonneg]
  first | exact hA | exact⟨hx,hA⟩
 ·intro out ho hq;refine TF _ _ _ _ ?_;refine⟨λh=>absurd h (by simp),λ_=>?_⟩;simp only[List.drop_zero,List.take_length];exact hq
theorem xp:Qf Tryz.prog rH:=Qh λx h=>QVF x.1 h
def GI(t:(List Int)):aB:=⟨(.a [(.r [TI] 0 0 t.length)]),[(.sl 3 [TI] (.dp 0 true []) t)],[],false,[]⟩
def GJ:aJ:=Qg 164 [(.a [(.sl [TI])])] λx=>(some (bB (α:=List Int) x.1),GI (id (α:=List Int) x.1))
def QKM:aF:=⟨[rH],true⟩
def QVq:af :=
 (ag [(.ae [aC 1 (.box 189 0 1),aC 2 (.new 106 [(.n [TI])])]),(.ae [aC 3 (.new 106 [(.n [TI])])]),(.ae [ak 4 1 0,an 5 4 1,aD 6 29 [5],ak 7 3 0,aV 7 6 1]),(.ae [a9 8 3 1,aV 2 8 1]),.ret])
def QMf:List (bn × Md):=[(.l 2 1 true,.b [.p 3])]
theorem QOo(a:List Int)(hp:bB (α:=List Int) a):aK Tryz.prog 164 [(.a [(.c (.sl [TI]) a)])] (GI (id (α:=List Int) a)):=by
 refine bz QKM QVq QMf 0 0 9 GJ (kc xp kn) (λK =>
 ((bB (α:=List Int) a)/\K (GI (List.take ((id (α:=List Int) a).length) (id (α:=List Int) a))))) (λhb=>?_)
 repeat' (first | refine And.intro ?_ ?_ | exact au (by simp))
 all_goals (simp only[bB,QP,QL,Q0,List.drop_zero,List.take_length,id_eq]at hp ⊢;omega)
theorem QQp:Qf Tryz.prog GJ:=Qh λx h=>QOo x.1 h
def tN(t:(List (List Int))):aB:=⟨(.r [(.sl [TI])] 0 0 t.length),[(.sl 106 [(.sl [TI])] (.dp 0 true []) t)],[],false,[]⟩
def xq:aJ:=Qg 68 [(.c (.sl [(.sl [TI])]))] λx=>(some (bB (α:=List (List Int)) x.1),tN (id (α:=List (List Int)) x.1))
def GK:aF:=⟨[GJ],true⟩
def TG:af :=
 (ag [(ag [(.ae [ab 8 4,ab 9 0,ba 10 9,aw 11 .lss 8 10]),(.cond 11 .skip (.exit 0))]),(.block 1 (.ae [ab 14 3,ab 15 4,ab 16 0,ab 17 4,aZ 18 16 17 [(.sl [TI])],a9 19 18 1,aD 20 164 [19],aZ 21 14 15 [(.sl [TI])],aV 21 20 1])),(.ae [ab 12 4,aw 13 .add 12 (ar 1),ab 4 13])])
def TH:List (Nat × Md):=[(0,.one .d),(3,.one .f),(4,.one .d)]
def TJ:af :=
 (ag [(.ae [ab 22 3,ab 2 22]),.ret])
def QYc:af :=
 (ag [(.ae [ab 2 (.k (.n [(.sl [TI])]))]),(.ae [ab 5 0,ba 6 5,aC 7 (.mk 106 [(.sl [TI])] [(.n [TI])] 6),ab 3 7]),(ag [(.ae [ab 4 (ar 0)]),(.block 0 (.loop TH TG))]),TJ])
def TK:List (bn × Md):=[(.t 2,.one (.p 106))]
def TL:Qb:=TQ 0 0 TK K
def QHB:Qb:=a0 (aN GK 0 TJ (TL K)) (TL K)
def QFX:Qb:=a7 0 (QHB K)
def AE(a:List (List Int))(i:Int)(out:List (List Int)):Prop:=Loop GK 0 TH TG (QFX K) ⟨[(0,(bf [(.sl [TI])] a)),(3,(.r [(.sl [TI])] 0 0 out.length)),(4,(aL i))],[(0,(.sl 106 [(.sl [TI])] (.dp 0 true []) out))],1⟩
theorem TM(a:List (List Int))(i:Int)(out:List (List Int)) (h :
 (aI (decide (i<(a.length:Int))) (((0<=i/\Int.toNat i<a.length)/\((bB (α:=List Int) (aq ([]:List Int) a (Int.toNat i)))/\((0<=i/\Int.toNat i<out.length)/\((0+(Int.toNat i))<out.length))))/\(AE K a (aG (i+1)) (List.take out.length ((out).set (0+(Int.toNat i)) (List.take ((id (α:=List Int) (aq ([]:List Int) a (Int.toNat i))).length) (List.drop 0 (id (α:=List Int) (aq ([]:List Int) a (Int.toNat i))))))))) (K (tN (List.take out.length out))))):AE K a i out :=
 Loop.of h
theorem QFQ(a:List (List Int))(hp:bB (α:=List (List Int)) a):aK Tryz.prog 68 [(.c (.sl [(.sl [TI])]) a)] (tN (id (α:=List (List Int)) a)):=by
 refine bz GK QYc TK 0 0 23 xq (kc QQp kn) (λK =>
 ((0<=(a.length:Int)/\(a.length:Int)<=ca)/\(AE K a 0 (List.take (Int.toNat (a.length:Int)) (List.replicate (Int.toNat (a.length:Int)) ([]:List Int)))))) (λhb=>?_)
 refine⟨⟨by omega,by rw[gT];have:=Yo hp;omega⟩,?_⟩;refine nM a (A:=λii ll=>AE (λr'=>r'=tN (id (α:=List (List Int)) a)) a ii ll) (Q:=λz=>tN z=tN (id (α:=List (List Int)) a)) hp ?_ ?_ rfl
 ·intro k x out aW hg ho hx hA;have hw:aG (((k:Nat):Int)+1)=((k+1:Nat):Int):=by have:=Yo hp;rw[QF (by omega) (by omega)];omega
  have g9:k<out.length:=by omega
  refine TM _ _ _ _ ?_;refine⟨λ_=>?_,λh=>absurd h (by simp;omega)⟩;simp only[Int.toNat_natCast,Nat.zero_add,hg,hw,aW,g9,nK,List.drop_zero,List.take_length,id_eq,and_true,true_and,Int.natCast_nonneg]
  first | exact hA | exact⟨hx,hA⟩
 ·intro out ho hq;refine TM _ _ _ _ ?_;refine⟨λh=>absurd h (by simp),λ_=>?_⟩;simp only[List.drop_zero,List.take_length];exact hq
theorem GL:Qf Tryz.prog xq:=Qh λx h=>QFQ x.1 h
def GM(t:QN):aB:=⟨(.a [(.r [(.sl [TI])] 0 0 ((t.1).length)),(aL t.2.1),(bE t.2.2)]),[(.sl 106 [(.sl [TI])] (.dp 0 true []) t.1)],[],false,[]⟩
def GN:aJ:=Qg 69 [(.a Zj)] λx=>(some (bB (α:=QN) x.1),GM (id (α:=QN) x.1))
def QKw:aF:=⟨[xq],true⟩
def QP6:af :=
 (ag [(.ae [aC 1 (.box 28 0 3),aC 2 (.new 37 (bG Zj))]),(.ae [aC 3 (.new 37 (bG Zj))]),(.ae [ak 4 1 0,an 5 4 1,aD 6 68 [5],ak 7 3 0,aV 7 6 1]),(.ae [ak 8 1 1,an 9 8 1,ak 10 3 1,aV 10 9 1]),(.ae [ak 11 1 2,an 12 11 1,ak 13 3 2,aV 13 12 1]),(.ae [a9 14 3 3,aV 2 14 3]),.ret])
def QEJ:List (bn × Md):=[(.l 2 3 true,.b [.p 106,.d,.d])]
theorem QSL(a:QN)(hp:bB (α:=QN) a):aK Tryz.prog 69 [(.a (aT.cells Zj a))] (GM (id (α:=QN) a)):=by
 refine bz QKw QP6 QEJ 0 0 15 GN (kc GL kn) (λK =>
 ((bB (α:=List (List Int)) a.1)/\K (GM ((List.take ((id (α:=List (List Int)) a.1).length) (id (α:=List (List Int)) a.1)),a.2.1,a.2.2)))) (λhb=>?_)
 repeat' (first | refine And.intro ?_ ?_ | exact au (by simp))
 all_goals (simp only[bB,QP,QL,Q0,List.drop_zero,List.take_length,id_eq]at hp ⊢;omega)
theorem QQT:Qf Tryz.prog GN:=Qh λx h=>QSL x.1 h
def GO(t:Qo):aB:=⟨(.a [(.r [TI] 0 0 ((t.1).length)),(.r [TI] 1 0 ((t.2).length))]),[(.sl 3 [TI] (.dp 0 true []) t.1),(.sl 3 [TI] (.dp 0 true []) t.2)],[],false,[]⟩
def GP:aJ:=Qg 124 [(.a QG)] λx=>(some (bB (α:=Qo) x.1),GO (id (α:=Qo) x.1))
def QFf:aF:=⟨[rH],true⟩
def QPe:af :=
 (ag [(.ae [aC 1 (.box 151 0 2),aC 2 (.new 154 (bG QG))]),(.ae [aC 3 (.new 154 (bG QG))]),(.ae [ak 4 1 0,an 5 4 1,aD 6 29 [5],ak 7 3 0,aV 7 6 1]),(.ae [ak 8 1 1,an 9 8 1,aD 10 29 [9],ak 11 3 1,aV 11 10 1]),(.ae [a9 12 3 2,aV 2 12 2]),.ret])
def QMH:List (bn × Md):=[(.l 2 2 true,.b [.p 3,.p 3])]
theorem QG8(a:Qo)(hp:bB (α:=Qo) a):aK Tryz.prog 124 [(.a [(.c (.sl [TI]) a.1),(.c (.sl [TI]) a.2)])] (GO (id (α:=Qo) a)):=by
 refine bz QFf QPe QMH 0 0 13 GP (kc xp kn) (λK =>
 ((bB (α:=List Int) a.1)/\((bB (α:=List Int) a.2)/\K (GO ((List.take ((id (α:=List Int) a.1).length) (id (α:=List Int) a.1)),(List.take ((id (α:=List Int) a.2).length) (id (α:=List Int) a.2))))))) (λhb=>?_)
 repeat' (first | refine And.intro ?_ ?_ | exact au (by simp))
 all_goals (simp only[bB,QP,QL,Q0,List.drop_zero,List.take_length,id_eq]at hp ⊢;omega)
theorem QXz:Qf Tryz.prog GP:=Qh λx h=>QG8 x.1 h
def tO(t:(List Qo)):aB:=⟨(.r QG 0 0 t.length),[(.sl 154 QG (.dp 0 true []) t)],[],false,[]⟩
def GQ:aJ:=Qg 37 [(.c (.sl QG))] λx=>(some (bB (α:=List Qo) x.1),tO (id (α:=List Qo) x.1))
def GR:aF:=⟨[GP],true⟩
def TN:af :=
 (ag [(ag [(.ae [ab 8 4,ab 9 0,ba 10 9,aw 11 .lss 8 10]),(.cond 11 .skip (.exit 0))]),(.block 1 (.ae [ab 14 3,ab 15 4,ab 16 0,ab 17 4,aZ 18 16 17 QG,a9 19 18 2,aD 20 124 [19],aZ 21 14 15 QG,aV 21 20 2])),(.ae [ab 12 4,aw 13 .add 12 (ar 1),ab 4 13])])
def TO:List (Nat × Md):=[(0,.one .d),(3,.one .f),(4,.one .d)]
def TP:af :=
 (ag [(.ae [ab 22 3,ab 2 22]),.ret])
def QXq:af :=
 (ag [(.ae [ab 2 (.k (.n QG))]),(.ae [ab 5 0,ba 6 5,aC 7 (.mk 154 QG (bG QG) 6),ab 3 7]),(ag [(.ae [ab 4 (ar 0)]),(.block 0 (.loop TO TN))]),TP])
def TR:List (bn × Md):=[(.t 2,.one (.p 154))]
def TS:Qb:=TQ 0 0 TR K
def QNZ:Qb:=a0 (aN GR 0 TP (TS K)) (TS K)
def QNi:Qb:=a7 0 (QNZ K)
def AF(a:List Qo)(i:Int)(out:List Qo):Prop:=Loop GR 0 TO TN (QNi K) ⟨[(0,(bf QG a)),(3,(.r QG 0 0 out.length)),(4,(aL i))],[(0,(.sl 154 QG (.dp 0 true []) out))],1⟩
theorem TT(a:List Qo)(i:Int)(out:List Qo) (h :
 (aI (decide (i<(a.length:Int))) (((0<=i/\Int.toNat i<a.length)/\((bB (α:=Qo) (aq QW a (Int.toNat i)))/\((0<=i/\Int.toNat i<out.length)/\((0+(Int.toNat i))<out.length))))/\(AF K a (aG (i+1)) (List.take out.length ((out).set (0+(Int.toNat i)) ((List.take (((id (α:=Qo) (aq QW a (Int.toNat i))).1).length) (List.drop 0 ((id (α:=Qo) (aq QW a (Int.toNat i))).1))),(List.take (((id (α:=Qo) (aq QW a (Int.toNat i))).2).length) (List.drop 0 ((id (α:=Qo) (aq QW a (Int.toNat i))).2)))))))) (K (tO (List.take out.length out))))):AF K a i out :=
 Loop.of h
theorem QVu(a:List Qo)(hp:bB (α:=List Qo) a):aK Tryz.prog 37 [(.c (.sl QG) a)] (tO (id (α:=List Qo) a)):=by
 refine bz GR QXq TR 0 0 23 GQ (kc QXz kn) (λK =>
 ((0<=(a.length:Int)/\(a.length:Int)<=ca)/\(AF K a 0 (List.take (Int.toNat (a.length:Int)) (List.replicate (Int.toNat (a.length:Int)) ([],[])))))) (λhb=>?_)
 refine⟨⟨by omega,by rw[gT];have:=Yo hp;omega⟩,?_⟩;refine nM a (A:=λii ll=>AF (λr'=>r'=tO (id (α:=List Qo) a)) a ii ll) (Q:=λz=>tO z=tO (id (α:=List Qo) a)) hp ?_ ?_ rfl
 ·intro k x out aW hg ho hx hA;have hw:aG (((k:Nat):Int)+1)=((k+1:Nat):Int):=by have:=Yo hp;rw[QF (by omega) (by omega)];omega
  have g9:k<out.length:=by omega
  refine TT _ _ _ _ ?_;refine⟨λ_=>?_,λh=>absurd h (by simp;omega)⟩;simp only[Int.toNat_natCast,Nat.zero_add,hg,hw,aW,g9,nK,List.drop_zero,List.take_length,id_eq,and_true,true_and,Int.natCast_nonneg]
  first | exact hA | exact⟨hx,hA⟩
 ·intro out ho hq;refine TT _ _ _ _ ?_;refine⟨λh=>absurd h (by simp),λ_=>?_⟩;simp only[List.drop_zero,List.take_length];exact hq
theorem QGl:Qf Tryz.prog GQ:=Qh λx h=>QVu x.1 h
def rI(t:Bool):aB:=b6 (bE t)
def rJ:aJ:=Qg 23 [(.c (.sl [TI])),(.c (.sl [TI]))] λx=>(none,rI (aY (α:=List Int) x.1 x.2.1))
def GS:aF:=⟨[],false⟩
def TU:af :=
 (ag [(ag [(.ae [ab 11 5,ab 12 0,ba 13 12,aw 14 .lss 11 13]),(.cond 14 .skip (.exit 0))]),(.block 1 (ag [(.draw [ab 17 0,ab 18 5,aZ 19 17 18 [TI],an 20 19 1,ab 21 1,ab 22 5,aZ 23 21 22 [TI],an 24 23 1,aw 25 .neq 20 24] []),(.cond 25 (ag [(.ae [ab 4 (a6 false)]),.ret]) .skip)])),(.ae [ab 15 5,aw 16 .add 15 (ar 1),ab 5 16])])
def TW:List (Nat × Md):=eV [0,1,5]
def TX:af :=
 (ag [(.ae [ab 4 (a6 true)]),.ret])
def QQR:af :=
 (ag [(.ae [ab 4 (a6 false)]),(ag [(.ae [ab 6 0,ba 7 6,ab 8 1,ba 9 8,aw 10 .neq 7 9]),(.cond 10 (ag [(.ae [ab 4 (a6 false)]),.ret]) .skip)]),(ag [(.ae [ab 5 (ar 0)]),(.block 0 (.loop TW TU))]),TX])
def TY:List (bn × Md):=[(.t 4,.one .d)]
def TZ:Qb:=TQ 0 0 TY K
def QVB:Qb:=a0 (aN GS 0 TX (TZ K)) (TZ K)
def QM9:Qb:=a7 0 (QVB K)
def GU(a:List Int)(b:List Int)(i:Int):Prop:=Loop GS 0 TW TU (QM9 K) ⟨[(0,(bf [TI] a)),(1,(bf [TI] b)),(5,(aL i))],[],0⟩
theorem QPL(a:List Int)(b:List Int)(i:Int) (h :
 (aI (decide (i<(a.length:Int))) (((0<=i/\Int.toNat i<a.length)/\(0<=i/\Int.toNat i<b.length))/\(aI ((aq (0:Int) a (Int.toNat i)) != (aq (0:Int) b (Int.toNat i))) (K (rI false)) (GU K a b (aG (i+1))))) (K (rI true)))):GU K a b i :=
 Loop.of h
theorem QW1(a:List Int)(b:List Int):aK Tryz.prog 23 [(.c (.sl [TI]) a),(.c (.sl [TI]) b)] (rI (aY (α:=List Int) a b)):=by
 refine bz GS QQR TY 0 0 26 rJ kn (λK =>
 (aI ((a.length:Int) != (b.length:Int)) (K (rI false)) (GU K a b 0))) (λhb=>?_)
 exact QX4 hb.1.1 (λi h=>QPL _ a b i h) (Q:=λx=>rI x=rI (aY (α:=List Int) a b)) rfl
theorem xr:Qf Tryz.prog rJ:=Qh λx _=>QW1 x.1 x.2.1
def AG(t:Bool):aB:=b6 (bE t)
def GV:aJ:=Qg 174 [(.a [(.sl [TI])]),(.a [(.sl [TI])])] λx=>(none,AG (aY (α:=List Int) x.1 x.2.1))
def QUs:aF:=⟨[rJ],false⟩
def QUM:af :=
 (ag [(.ae [aC 2 (.box 106 0 1),aC 3 (.box 106 1 1),ab 4 (a6 false)]),(ag [(.ae [ak 5 2 0,an 6 5 1,ak 7 3 0,an 8 7 1,aD 9 23 [6,8],bL 10 9]),(.cond 10 (ag [(.ae [ab 4 (a6 false)]),.ret]) .skip)]),(.ae [ab 4 (a6 true)]),.ret])
def QP3:List (bn × Md):=[(.t 4,.one .d)]
theorem QN1(a:List Int)(b:List Int):aK Tryz.prog 174 [(.a [(.c (.sl [TI]) a)]),(.a [(.c (.sl [TI]) b)])] (AG (aY (α:=List Int) a b)):=by
 refine bz QUs QUM QP3 0 0 11 GV (kc xr kn) (λK =>
 (aI (!(aY (α:=List Int) a b)) (K (AG false)) (K (AG true)))) (λhb=>?_)
 refine⟨λh=>au (Eq.symm (decide_eq_false (by rintro rfl;simp[aY]at h))),λh0=>?_⟩;refine au (Eq.symm (decide_eq_true ?_));simp[aY]at h0;simp[Prod.ext_iff, *]
theorem QSA:Qf Tryz.prog GV:=Qh λx _=>QN1 x.1 x.2.1
def rK(t:Bool):aB:=b6 (bE t)
def xt:aJ:=Qg 78 [(.c (.sl [(.sl [TI])])),(.c (.sl [(.sl [TI])]))] λx=>(none,rK (aY (α:=List (List Int)) x.1 x.2.1))
def GW:aF:=⟨[GV],false⟩
def T1:af :=
 (ag [(ag [(.ae [ab 11 5,ab 12 0,ba 13 12,aw 14 .lss 11 13]),(.cond 14 .skip (.exit 0))]),(.block 1 (ag [(.draw [ab 17 0,ab 18 5,aZ 19 17 18 [(.sl [TI])],a9 20 19 1,ab 21 1,ab 22 5,aZ 23 21 22 [(.sl [TI])],a9 24 23 1,aD 25 174 [20,24],bL 26 25] []),(.cond 26 (ag [(.ae [ab 4 (a6 false)]),.ret]) .skip)])),(.ae [ab 15 5,aw 16 .add 15 (ar 1),ab 5 16])])
def T2:List (Nat × Md):=eV [0,1,5]
def T3:af :=
 (ag [(.ae [ab 4 (a6 true)]),.ret])
def QWZ:af :=
 (ag [(.ae [ab 4 (a6 false)]),(ag [(.ae [ab 6 0,ba 7 6,ab 8 1,ba 9 8,aw 10 .neq 7 9]),(.cond 10 (ag [(.ae [ab 4 (a6 false)]),.ret]) .skip)]),(ag [(.ae [ab 5 (ar 0)]),(.block 0 (.loop T2 T1))]),T3])
def T4:List (bn × Md):=[(.t 4,.one .d)]
def T5:Qb:=TQ 0 0 T4 K
def QR4:Qb:=a0 (aN GW 0 T3 (T5 K)) (T5 K)
def QPB:Qb:=a7 0 (QR4 K)
def GY(a:List (List Int))(b:List (List Int))(i:Int):Prop:=Loop GW 0 T2 T1 (QPB K) ⟨[(0,(bf [(.sl [TI])] a)),(1,(bf [(.sl [TI])] b)),(5,(aL i))],[],0⟩
theorem QPN(a:List (List Int))(b:List (List Int))(i:Int) (h :
 (aI (decide (i<(a.length:Int))) (((0<=i/\Int.toNat i<a.length)/\(0<=i/\Int.toNat i<b.length))/\(aI (!(aY (α:=List Int) (aq ([]:List Int) a (Int.toNat i)) (aq ([]:List Int) b (Int.toNat i)))) (K (rK false)) (GY K a b (aG (i+1))))) (K (rK true)))):GY K a b i :=
 Loop.of h
theorem QQg(a:List (List Int))(b:List (List Int)):aK Tryz.prog 78 [(.c (.sl [(.sl [TI])]) a),(.c (.sl [(.sl [TI])]) b)] (rK (aY (α:=List (List Int)) a b)):=by
 refine bz GW QWZ T4 0 0 27 xt (kc QSA kn) (λK =>
 (aI ((a.length:Int) != (b.length:Int)) (K (rK false)) (GY K a b 0))) (λhb=>?_)
 exact J9 ([]:List Int) (E:=aY) (λ_ _=>rfl) hb.1.1 (λi h=>QPN _ a b i h) (Q:=λx=>rK x=rK (aY (α:=List (List Int)) a b)) rfl
theorem GZ:Qf Tryz.prog xt:=Qh λx _=>QQg x.1 x.2.1
def tP(t:Bool):aB:=b6 (bE t)
def G1:aJ:=Qg 46 [(.a Zj),(.a Zj)] λx=>(none,tP (aY (α:=QN) x.1 x.2.1))
def QNo:aF:=⟨[xt],false⟩
def QNQ:af :=
 (ag [(.ae [aC 2 (.box 37 0 3),aC 3 (.box 37 1 3),ab 4 (a6 false)]),(ag [(.ae [ak 5 2 0,an 6 5 1,ak 7 3 0,an 8 7 1,aD 9 78 [6,8],bL 10 9]),(.cond 10 (ag [(.ae [ab 4 (a6 false)]),.ret]) .skip)]),(ag [(.ae [ak 11 2 1,an 12 11 1,ak 13 3 1,an 14 13 1,aw 15 .neq 12 14]),(.cond 15 (ag [(.ae [ab 4 (a6 false)]),.ret]) .skip)]),(ag [(.ae [ak 16 2 2,an 17 16 1,ak 18 3 2,an 19 18 1,aC 20 (.ie true 17 19)]),(.cond 20 (ag [(.ae [ab 4 (a6 false)]),.ret]) .skip)]),(.ae [ab 4 (a6 true)]),.ret])
def QL6:List (bn × Md):=[(.t 4,.one .d)]
theorem QVC(a:QN)(b:QN):aK Tryz.prog 46 [(.a (aT.cells Zj a)),(.a (aT.cells Zj b))] (tP (aY (α:=QN) a b)):=by
 refine bz QNo QNQ QL6 0 0 21 G1 (kc GZ kn) (λK =>
 (aI (!(aY (α:=List (List Int)) a.1 b.1)) (K (tP false)) (aI (a.2.1 != b.2.1) (K (tP false)) (aI (!(a.2.2==b.2.2)) (K (tP false)) (K (tP true)))))) (λhb=>?_)
 refine⟨λh=>au (Eq.symm (decide_eq_false (by rintro rfl;simp[aY]at h))),λh0=>?_⟩;refine⟨λh=>au (Eq.symm (decide_eq_false (by rintro rfl;simp[aY]at h))),λh1=>?_⟩;refine⟨λh=>au (Eq.symm (decide_eq_false (by rintro rfl;simp[aY]at h))),λh2=>?_⟩;refine au (Eq.symm (decide_eq_true ?_));simp[aY]at h0 h1 h2;simp[Prod.ext_iff, *]
theorem QF5:Qf Tryz.prog G1:=Qh λx _=>QVC x.1 x.2.1
def xu(t:Bool):aB:=b6 (bE t)
def G2:aJ:=Qg 133 [(.a QG),(.a QG)] λx=>(none,xu (aY (α:=Qo) x.1 x.2.1))
def QLJ:aF:=⟨[rJ],false⟩
def QUi:af :=
 (ag [(.ae [aC 2 (.box 154 0 2),aC 3 (.box 154 1 2),ab 4 (a6 false)]),(ag [(.ae [ak 5 2 0,an 6 5 1,ak 7 3 0,an 8 7 1,aD 9 23 [6,8],bL 10 9]),(.cond 10 (ag [(.ae [ab 4 (a6 false)]),.ret]) .skip)]),(ag [(.ae [ak 11 2 1,an 12 11 1,ak 13 3 1,an 14 13 1,aD 15 23 [12,14],bL 16 15]),(.cond 16 (ag [(.ae [ab 4 (a6 false)]),.ret]) .skip)]),(.ae [ab 4 (a6 true)]),.ret])
def QTX:List (bn × Md):=[(.t 4,.one .d)]
theorem QNJ(a:Qo)(b:Qo):aK Tryz.prog 133 [(.a [(.c (.sl [TI]) a.1),(.c (.sl [TI]) a.2)]),(.a [(.c (.sl [TI]) b.1),(.c (.sl [TI]) b.2)])] (xu (aY (α:=Qo) a b)):=by
 refine bz QLJ QUi QTX 0 0 17 G2 (kc xr kn) (λK =>
 (aI (!(aY (α:=List Int) a.1 b.1)) (K (xu false)) (aI (!(aY (α:=List Int) a.2 b.2)) (K (xu false)) (K (xu true))))) (λhb=>?_)
 refine⟨λh=>au (Eq.symm (decide_eq_false (by rintro rfl;simp[aY]at h))),λh0=>?_⟩;refine⟨λh=>au (Eq.symm (decide_eq_false (by rintro rfl;simp[aY]at h))),λh1=>?_⟩;refine au (Eq.symm (decide_eq_true ?_));simp[aY]at h0 h1;simp[Prod.ext_iff, *]
theorem QT6:Qf Tryz.prog G2:=Qh λx _=>QNJ x.1 x.2.1
def rL(t:Bool):aB:=b6 (bE t)
def G3:aJ:=Qg 40 [(.c (.sl QG)),(.c (.sl QG))] λx=>(none,rL (aY (α:=List Qo) x.1 x.2.1))
def G4:aF:=⟨[G2],false⟩
def T6:af :=
 (ag [(ag [(.ae [ab 11 5,ab 12 0,ba 13 12,aw 14 .lss 11 13]),(.cond 14 .skip (.exit 0))]),(.block 1 (ag [(.draw [ab 17 0,ab 18 5,aZ 19 17 18 QG,a9 20 19 2,ab 21 1,ab 22 5,aZ 23 21 22 QG,a9 24 23 2,aD 25 133 [20,24],bL 26 25] []),(.cond 26 (ag [(.ae [ab 4 (a6 false)]),.ret]) .skip)])),(.ae [ab 15 5,aw 16 .add 15 (ar 1),ab 5 16])])
def T7:List (Nat × Md):=eV [0,1,5]
def T8:af :=
 (ag [(.ae [ab 4 (a6 true)]),.ret])
def QHO:af :=
 (ag [(.ae [ab 4 (a6 false)]),(ag [(.ae [ab 6 0,ba 7 6,ab 8 1,ba 9 8,aw 10 .neq 7 9]),(.cond 10 (ag [(.ae [ab 4 (a6 false)]),.ret]) .skip)]),(ag [(.ae [ab 5 (ar 0)]),(.block 0 (.loop T7 T6))]),T8])
def T9:List (bn × Md):=[(.t 4,.one .d)]
def Ua:Qb:=TQ 0 0 T9 K
def QMT:Qb:=a0 (aN G4 0 T8 (Ua K)) (Ua K)
def QSg:Qb:=a7 0 (QMT K)
def G5(a:List Qo)(b:List Qo)(i:Int):Prop:=Loop G4 0 T7 T6 (QSg K) ⟨[(0,(bf QG a)),(1,(bf QG b)),(5,(aL i))],[],0⟩
theorem QRx(a:List Qo)(b:List Qo)(i:Int) (h :
 (aI (decide (i<(a.length:Int))) (((0<=i/\Int.toNat i<a.length)/\(0<=i/\Int.toNat i<b.length))/\(aI (!(aY (α:=Qo) (aq QW a (Int.toNat i)) (aq QW b (Int.toNat i)))) (K (rL false)) (G5 K a b (aG (i+1))))) (K (rL true)))):G5 K a b i :=
 Loop.of h
theorem QTp(a:List Qo)(b:List Qo):aK Tryz.prog 40 [(.c (.sl QG) a),(.c (.sl QG) b)] (rL (aY (α:=List Qo) a b)):=by
 refine bz G4 QHO T9 0 0 27 G3 (kc QT6 kn) (λK =>
 (aI ((a.length:Int) != (b.length:Int)) (K (rL false)) (G5 K a b 0))) (λhb=>?_)
 exact J9 QW (E:=aY) (λ_ _=>rfl) hb.1.1 (λi h=>QRx _ a b i h) (Q:=λx=>rL x=rL (aY (α:=List Qo) a b)) rfl
theorem QPt:Qf Tryz.prog G3:=Qh λx _=>QTp x.1 x.2.1
end
end Go.Proofs.YtdplaepmjogjjaaGreat.Am

