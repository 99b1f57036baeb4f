/- -/
import Derived.Test.YtdplaepmjogjjaaGreatVIM2
import Derived.Test.YtdplaepmjogjjaaGreatProg
import Derived.Carry
import Derived.Deep.Slices
import Derived.ChangeArms
import Derived.ProofKit
import Derived.OpenShut
set_option linter.all false
namespace Go.Proofs.YtdplaepmjogjjaaGreat.Am
open Go Go.RowKit
inductive jt where
 | f
 | d
 | o (e:TypeId)
 | p (e:TypeId)
 | w
def jt.e:jt->TypeId->TypeId
 | .w,_=>0
 | _,e=>e
def jt.t:jt->Bool->Bool
 | .w,_=>false
 | _,t=>t
inductive Md where
 | one (m:jt)
 | b (ms:List jt)
 | a (ms:List jt)
abbrev Acc:=List (Option (Nat × Nat) × az)
def Z6:Acc->Nat->Option Nat
 | [],_=>none
 | (some (j,_),_)::r,i=>bif Nat.beq j i then some 0 else(match Z6 r i with | some k=>some (k+1) | none=>none)
 | (none,_)::r,i=>match Z6 r i with | some k=>some (k+1) | none=>none
def Mo.rs:Mo->Mo
 | .dp _ t _=>.dp 0 t []
 | m=>m
def FQ:Mo->Bool
 | .fz=>true
 | _=>false
def Y5(nl:Nat)(h:Nat->az)(m:jt)(v:TV)(acc:Acc):TV × Acc :=
 match v with
 | .c t x=>(.c t x,acc)
 | .q ts x j=>(.q ts x j,acc)
 | .n ts=>match m with
  | .o e=>match ts with
   | []=>(.u,acc)
   | t::ts=>(.r (t::ts) acc.length 0 0,acc++[(none,.sl e (t::ts) .ow [])])
  | .p e=>match ts with
   | []=>(.u,acc)
   | t::ts=>(.r (t::ts) acc.length 0 0,acc++[(none,.sl e (t::ts) (.dp 0 true []) [])])
  | .w=>match ts with
   | []=>(.u,acc)
   | t::ts=>(.r (t::ts) acc.length 0 0,acc++[(none,.sl 0 (t::ts) (.dp 0 false []) [])])
  | .d=>(.c (.sl ts) [],acc)
  | .f=>(.n ts,acc)
 | .r _ id off len=>match h id with
  | .sl e ts mm es=>match m with
   | .d=>bif FQ mm then(.c (.sl ts) ((es.drop off).take len),acc) else(.u,acc)
   | _=>bif Nat.blt id nl then(bif mm.full then(.r ts id off len,acc) else(.u,acc)) else match Z6 acc id with
    | some _=>(.u,acc)
    | none=>match mm with
     | .dp _ t H=>bif H.all (λx=>Nat.blt x.1 off) then(match off with
      | 0=>(.r ts acc.length 0 (es.take len).length,acc++[(some (id,0),.sl (m.e e) ts (.dp 0 (m.t t) []) (es.take len))])
      | k+1=>(.r ts acc.length 0 ((es.drop (k+1)).take len).length,acc++[(some (id,k+1),.sl (m.e e) ts (.dp 0 false []) ((es.drop (k+1)).take len))])) else(.u,acc)
     | mm=>match off with
      | 0=>(.r ts acc.length 0 (es.take len).length,acc++[(some (id,0),.sl e ts mm (es.take len))])
      | _=>(.u,acc)
  | _=>(.u,acc)
 | _=>(.u,acc)
def Yh(nl:Nat)(h:Nat->az):List jt->List TV->Acc->List TV × Acc
 | _,[],acc=>([],acc)
 | [],_::xs,acc=>let r:=Yh nl h [] xs acc;(.u::r.1,r.2)
 | m::ms,x::xs,acc=>let a:=Y5 nl h m x acc;let r:=Yh nl h ms xs a.2;(a.1::r.1,r.2)
def conv(nl:Nat)(h:Nat->az)(m:Md)(v:TV)(acc:Acc):TV × Acc :=
 match m with
 | .one m=>Y5 nl h m v acc
 | .b ms=>match v with
  | .p id 0 0=>match h id with
   | .box cs=>match Z6 acc id with
    | some k=>(.p k 0 0,acc)
    | none=>let r:=Yh nl h ms cs acc;match Z6 r.2 id with
     | none=>(.p r.2.length 0 0,r.2++[(some (id,0),.box r.1)])
     | some _=>(.u,acc)
   | _=>(.u,acc)
  | _=>(.u,acc)
 | .a ms=>match v with
  | .a cs=>let r:=Yh nl h ms cs acc;(.a r.1,r.2)
  | _=>(.u,acc)
def Y3(nl:Nat)(h:Nat->az)(T:Nat->TV):List (Nat × Md)->Acc->List (Nat × TV) × Acc
 | [],acc=>([],acc)
 | (s,m)::r,acc=>let a:=conv nl h m (T s) acc;let q:=Y3 nl h T r a.2;((s,a.1)::q.1,q.2)
def zW:List jt->List TV->List Nat
 | .d::ms,x::xs=>x.bR++zW ms xs
 | _::ms,_::xs=>zW ms xs
 | _,_=>[]
def qZ(h:Nat->az)(T:Nat->TV):List (Nat × Md)->List Nat
 | []=>[]
 | (s,.one .d)::r=>(T s).bR++qZ h T r
 | (s,.a ms)::r=>(match T s with | .a cs=>zW ms cs | _=>[])++qZ h T r
 | (s,.b ms)::r=>(match T s with | .p id _ _=>(match h id with | .box cs=>zW ms cs | _=>[]) | _=>[])++qZ h T r
 | _::r=>qZ h T r
def zX(h:Nat->az):Nat->List Nat
 | 0=>[]
 | n+1=>zX h n++(match h n with | .box cs=>TV.bM cs | _=>[])
def lU:List TV->List jt
 | []=>[]
 | _::xs=>.d::lU xs
def ZF(h:Nat->az):Nat->Acc
 | 0=>[]
 | n+1=>let a:=ZF h n;a++[match h n with | .box cs=>(some (n,0),.box (Yh 0 h (lU cs) cs a).1) | .sl e ts m es=>bif m.full then(some (n,0),.sl e ts m.rs es) else(none,.dead) | .dead=>(none,.dead) | .none=>(none,.none)]
def oS:Nat->Acc->List (Nat × az)
 | _,[]=>[]
 | k,(_,b)::r=>(k,b)::oS (k+1) r
def az.full:az->Bool
 | .sl _ _ m _=>m.full
 | _=>true
def kI(h:Nat->az)(ids:List Nat):Nat->az:=λi=>bif ids.elem i&&(h i).full then Fl (h i) else h i
def gc(nl:Nat)(L:List (Nat × Md))(σ:cr):cr :=
 let h:=kI σ.H (zX σ.H nl++qZ σ.H σ.T L)
 let r:=Y3 nl h σ.T L (ZF h nl)
 ⟨r.1,oS 0 r.2,r.2.length⟩
section
variable {w:World} {F F':Nat->Prop} {ι:Io} {h:Nat->az}
def tJ:Option (Nat × Nat) × az->Nat
 | (some (_,off),.sl _ ts _ (_::_))=>off*ts.length
 | _=>0
theorem Si{id off:Nat}{e:TypeId}{ts:List CT}{m:Mo}{es:List (aR ts)}(h:es≠[]):tJ (some (id,off),.sl e ts m es)=off*ts.length:=by
 cases es with
 | nil=>exact absurd rfl h
 | cons=>rfl
theorem Sj{id:Nat}{b:az}:tJ (some (id,0),b)=0:=by
 cases b with
 | sl e ts m es=>cases es <;> simp[tJ]
 | _=>rfl
theorem QII{o:Option (Nat × Nat)}{e:TypeId}{ts:List CT}{m:Mo}:tJ (o,.sl e ts m [])=0:=by
 cases o <;> rfl
theorem FR{o:Option (Nat × Nat)}{cs:List TV}:tJ (o,.box cs)=0:=by
 cases o <;> rfl
def Jz(ι:Io)(x:Option (Nat × Nat) × az):Nat:=match x.1 with
 | some (id,_)=>ι.o id+tJ x
 | none=>0
def aι(ι:Io)(acc:Acc):Io:=⟨λk=>((acc[k]?).bind (·.1)).bind λx=>ι x.1,
 λb=>match ι.k b with
  | some (y,(a,c)::q)=>match Z6 acc y with
   | some k=>match acc[k]? with
    | some (some (_,off),_)=>if off<=a then some (k,(a-off,c)::q) else none
    | _=>none
   | none=>none
  | _=>none,
 λk=>match acc[k]? with
  | some x=>Jz ι x
  | none=>0⟩
def ah(acc:Acc):Nat->aQ:=λk=>match acc[k]? with | some (_,b)=>b.aA | none=>.none
def oT(w:World)(F:Nat->Prop)(ι:Io)(h:Nat->az)(acc:Acc)(x y:TV):Prop :=
 ∀(bX:Acc)(F':Nat->Prop),acc <+: bX->(∀ b,F b->F' b)->∀ v,VR w F ι (λi=>(h i).aA) v x.aO->VR w F' (aι ι bX) (ah bX) v y.aO
def JC(m0 m:Mo)(off:Nat):Prop:=(m0=m/\m.gen=none/\off=0)\/∃ g t H t',m0 = .dp g t H/\m = .dp 0 t' []/\(t'=true->t=true/\off=0)/\∀ x,x∈H->x.1<off
theorem JC.eZ{m0 m:Mo}{off:Nat}(h:JC m0 m off)(ht:m.eZ=true):m0.eZ=true/\off=0:=by
 rcases h with⟨rfl,_,h⟩ | ⟨g,t,H,t',rfl,rfl,h,_⟩
 ·exact⟨ht,h⟩
 ·exact h ht
theorem JC.own{m0 m:Mo}{off:Nat}(h:JC m0 m off):m.own=m0.own:=by
 rcases h with⟨rfl,_,h⟩ | ⟨g,t,H,t',rfl,rfl,h,_⟩ <;> rfl
theorem JC.rs{m:Mo}(hf:m.full=true):JC m m.rs 0:=by
 cases m with
 | dp g t H =>
  cases H with
  | nil=>exact .inr ⟨g,t,[],t,rfl,rfl,λh=>⟨h,rfl⟩,by simp⟩
  | cons=>simp[Mo.full]at hf
 | _=>exact .inl ⟨rfl,rfl,rfl⟩
def wX(w:World)(F:Nat->Prop)(ι:Io)(h:Nat->az)(acc:Acc):Option (Nat × Nat) × az->Prop
 | (some (id,off),.sl e ts m es)=>∃ mr m0 len,(∃ e0,h id = .sl e0 ts m0 mr/\(m.eZ=true->e0=e))/\es=(mr.drop off).take len/\JC m0 m off
 | (some (id,off),.box cs)=>∃ fZ,h id = .box fZ/\cs.length=fZ.length/\∀(k:Nat)(x y:TV),fZ[k]? = some x->cs[k]? = some y->oT w F ι h acc x y
 | (none,.sl _ ts m es)=>es=[]/\0<ts.length
 | (none,.none)=>True
 | (none,.dead)=>True
 | _=>False
def oU(nl:Nat)(h:Nat->az)(acc:Acc):Prop:=∀ id e ts m es,id<nl->h id = .sl e ts m es->m.full=true->acc[id]? = some (some (id,0),.sl e ts m.rs es)
theorem oU.mono{nl:Nat}{h:Nat->az}{acc gQ:Acc}(hp:acc <+: gQ)(hf:oU nl h acc):oU nl h gQ:=λid e ts m es h1 h2 kD=>by
 have h3:=hf id e ts m es h1 h2 kD;obtain⟨r,rfl⟩:=hp;rw[List.getElem?_append_left (List.getElem?_eq_some_iff.1 h3).1];exact h3
structure ef(w:World)(F:Nat->Prop)(ι:Io)(h:Nat->az)(acc:Acc):Prop where
 jN:∀(k:Nat)(e:Option (Nat × Nat) × az),acc[k]? = some e->wX w F ι h acc e
 nodup:∀(k j id o o':Nat)(b c:az),acc[k]? = some (some (id,o),b)->acc[j]? = some (some (id,o'),c)->k=j
theorem oT.mono{acc gQ:Acc}{x y:TV}(hp:acc <+: gQ)(hk:oT w F ι h acc x y):oT w F ι h gQ x y :=
 λbX F' FT hF v hv=>hk bX F' (hp.trans FT) hF v hv
theorem wX.mono{acc gQ:Acc}{e:Option (Nat × Nat) × az}(hp:acc <+: gQ)(hg:wX w F ι h acc e):wX w F ι h gQ e:=by
 obtain⟨o,b⟩:=e
 cases o with
 | none=>cases b <;> exact hg
 | some id =>
  obtain⟨id,off⟩:=id
  cases b with
  | box cs=>obtain⟨fZ,h1,h2,h3⟩:=hg;exact⟨fZ,h1,h2,λk x y hx hy=>(h3 k x y hx hy).mono hp⟩
  | _=>exact hg
theorem wY:∀ {acc:Acc} {id:Nat},Z6 acc id=none->∀(k o:Nat)(b:az),acc[k]?≠some (some (id,o),b)
 | [],id,_,k,o,b,hk=>by simp at hk
 | (some (j,o0),c)::r,id,hn,k,o,b,hk=>by
  simp only[Z6]at hn
  cases hb:Nat.beq j id with
  | true=>rw[hb]at hn;cases hn
  | false =>
   rw[hb]at hn;simp only[cond_false]at hn
   split at hn
   ·cases hn
   rename_i hr
   cases k with
   | zero =>
    simp only[List.getElem?_cons_zero,Option.some.injEq,Prod.mk.injEq]at hk;rw[hk.1.1]at hb;simp at hb
   | succ k=>exact wY hr k o b (by simpa using hk)
 | (none,c)::r,id,hn,k,o,b,hk=>by
  simp only[Z6]at hn
  split at hn
  ·cases hn
  rename_i hr
  cases k with
  | zero=>simp at hk
  | succ k=>exact wY hr k o b (by simpa using hk)
theorem tK:∀ {acc:Acc} {id k:Nat},Z6 acc id=some k->∃ o b,acc[k]? = some (some (id,o),b)
 | [],id,k,hn=>by simp[Z6]at hn
 | (some (j,o0),c)::r,id,k,hn=>by
  simp only[Z6]at hn
  cases hb:Nat.beq j id with
  | true =>
   rw[hb]at hn;simp only[cond_true,Option.some.injEq]at hn;subst hn;exact⟨o0,c,by rw[Nat.eq_of_beq_eq_true hb];rfl⟩
  | false =>
   rw[hb]at hn;simp only[cond_false]at hn
   split at hn
   rotate_left
   ·cases hn
   rename_i k' hr
   cases hn;obtain⟨o,b,h⟩:=tK hr;exact⟨o,b,by simpa using h⟩
 | (none,c)::r,id,k,hn=>by
  simp only[Z6]at hn
  split at hn
  rotate_left
  ·cases hn
  rename_i k' hr
  cases hn;obtain⟨o,b,h⟩:=tK hr;exact⟨o,b,by simpa using h⟩
theorem QTM{acc:Acc}(A:ef w F ι h acc){id k o:Nat}{b:az}(hk:acc[k]? = some (some (id,o),b)):Z6 acc id=some k:=by
 cases hx:Z6 acc id with
 | none=>exact absurd hk (wY hx k o b)
 | some j =>
  obtain⟨o',b',h1⟩:=tK hx;rw[A.nodup j k id o' o b' b h1 hk]
theorem ef.push{acc:Acc}(A:ef w F ι h acc){o:Option (Nat × Nat)}{b:az}(hg:wX w F ι h (acc++[(o,b)]) (o,b))(hn:∀ id off,o=some (id,off)->Z6 acc id=none):ef w F ι h (acc++[(o,b)]):=by
 have hp:acc <+: acc++[(o,b)]:=List.prefix_append _ _;refine⟨λk e he=>?_,λk j id o1 o2 c d hk hj=>?_⟩
 ·rw[List.getElem?_append]at he
  split at he
  ·exact(A.jN k e he).mono hp
  ·have:=List.mem_of_getElem? he;simp only[List.mem_singleton]at this;rw[this];exact hg
 ·rw[List.getElem?_append]at hk hj
  split at hk <;> split at hj
  ·exact A.nodup k j id o1 o2 c d hk hj
  ·have h1:=List.mem_of_getElem? hj;simp only[List.mem_singleton,Prod.mk.injEq]at h1;exact absurd hk (wY (hn id o2 h1.1.symm) k o1 c)
  ·have h1:=List.mem_of_getElem? hk;simp only[List.mem_singleton,Prod.mk.injEq]at h1;exact absurd hj (wY (hn id o1 h1.1.symm) j o2 d)
  ·rename_i h1 h2;have h3:=(List.getElem?_eq_some_iff.1 hk).1;have h4:=(List.getElem?_eq_some_iff.1 hj).1;simp at h3 h4;omega
theorem tL{acc bX:Acc}{k:Nat}{o:Option (Nat × Nat)}{b:az}(hp:acc <+: bX)(hk:acc[k]? = some (o,b)):ah bX k=b.aA/\aι ι bX k=o.bind (λx=>ι x.1)/\(aι ι bX).o k=Jz ι (o,b):=by
 obtain⟨r,rfl⟩:=hp;have:(acc++r)[k]? = some (o,b):=by
  rw[List.getElem?_append_left (List.getElem?_eq_some_iff.1 hk).1];exact hk
 refine⟨?_,?_,?_⟩
 ·simp only[ah,this]
 ·simp only[aι,this,Option.bind_some]
 ·simp only[aι,this]
theorem wZ{acc bX:Acc}{o:Option (Nat × Nat)}{b:az}(hp:acc++[(o,b)] <+: bX):ah bX acc.length=b.aA/\aι ι bX acc.length=o.bind (λx=>ι x.1)/\(aι ι bX).o acc.length=Jz ι (o,b) :=
 tL (acc:=acc++[(o,b)]) (k:=acc.length) (o:=o) (b:=b) hp (by simp)
def lV(w:World)(F:Nat->Prop)(ι:Io)(h:Nat->az):Prop :=
 ∀ id e ts es v off len,h id = .sl e ts .fz es->VR w F ι (λi=>(h i).aA) v (.r ts.length id off len)->Rd w F v (.sl ts.length (((es.map (aV ts)).drop off).take len))
theorem QJm{id off len k:Nat}{e0 e:TypeId}{ts:List CT}{mm m:Mo}{es:List (aR ts)}{F':Nat->Prop}{ι':Io}{h':Nat->aQ}{v:Value}(hh:h id = .sl e0 ts mm es)(he:m.eZ=true->e0=e)(hg:JC mm m off)
  (h1:h' k=(az.sl e ts m ((es.drop off).take len)).aA) (h2:ι' k=ι id) (h3:(es.drop off).take len≠[]->ι'.o k=ι.o id+off*ts.length) (hv:VR w F ι (λi=>(h i).aA) v (.r ts.length id off len)) :
  VR w F' ι' h' v (TV.r ts k 0 ((es.drop off).take len).length).aO:=by
 have lW:(λi=>(h i).aA) id = .sl e0 ts.length mm (es.map (aV ts)):=by simp only[hh,az.bH]
 generalize hgA:(λi=>(h i).aA)=hA at hv lW;simp only[TV.aO];rw[az.bH]at h1
 cases hv with
 | cz v sz id off len h1 hd=>rw[lW]at hd;cases hd
 | cM id e' sz m' hi ca =>
  rw[lW]at ca;have:es=[]:=by injection ca with _ _ _ h4;simpa using h4
  subst this;simp only[List.drop_nil,List.take_nil,List.length_nil]at h1 ⊢;exact .cM k e ts.length m (h2.trans hi) h1
 | df ad cap id e' sz m' hi ca ht =>
  rw[lW]at ca;injection ca with q1 q2 q3 q4;have:es=[]:=by simpa using q4
  subst this;simp only[List.drop_nil,List.take_nil,List.length_nil]at h1 ⊢;refine .df ad cap k e ts.length m (h2.trans hi) h1 ?_
  cases hx:m.eZ with
  | false=>rfl
  | true=>rw[<- q3,(hg.eZ hx).1]at ht;cases ht
 | r id off len b ao cap e' sz m' bP hi ca hlen ck ho cY =>
  rw[lW]at ca;injection ca with q1 q2 q3 q4;subst q1;subst q3;rw[<- q4,List.length_map]at hlen;have hl:((es.drop off).take len).length=len:=by simp;omega
  rw[hl];refine .r k 0 len b ao cap e ts.length m _ (h2.trans hi) h1 (by simp;omega) ck (λhn=>by rw[h3 (λh0=>hn (by rw[<- hl,h0];rfl)),ho hn];simp) (λht _=>?_);obtain⟨k1,k2⟩:=hg.eZ ht;rw[<- he ht];exact cY k1 k2
theorem Sk{nl:Nat}(hz:lV w F ι h)(hs:∀ id e ts m es v off len n,h id = .sl e ts m es->VR w F ι (λi=>(h i).aA) v (.r n id off len)->n=ts.length){m:jt}{x:TV}{acc:Acc}(A:ef w F ι h acc)(hf:oU nl h acc) :
  acc <+: (Y5 nl h m x acc).2/\ef w F ι h (Y5 nl h m x acc).2/\oT w F ι h (Y5 nl h m x acc).2 x (Y5 nl h m x acc).1:=by
 have hu:∀(a:Acc)(x:TV),oT w F ι h a x .u:=λa x bX F' _ _ v _=>.u v;unfold Y5
 split
 ·exact⟨List.prefix_refl _,A,λbX F' hp hF v hv=>hv.data hF⟩
 ·refine⟨List.prefix_refl _,A,λbX F' hp hF v hv=>?_⟩
  cases hv with
  | q b o _ _ x hb hc hr=>exact .q b o _ _ x (hF b hb) hc (λk d hk=>(hr k d hk).mono λb hb=>⟨hF b hb,rfl⟩)
 ·rename_i ts
  split
  ·split
   ·exact⟨List.prefix_refl _,A,hu _ _⟩
   ·refine⟨List.prefix_append _ _,A.push ⟨rfl,by simp⟩ (by simp),λbX F' hp hF v hv=>?_⟩;obtain⟨h1,h2,_⟩:=wZ (ι:=ι) hp
    cases hv;exact .cM acc.length _ _ .ow h2 (by rw[h1];rfl)
  ·split
   ·exact⟨List.prefix_refl _,A,hu _ _⟩
   ·refine⟨List.prefix_append _ _,A.push ⟨rfl,by simp⟩ (by simp),λbX F' hp hF v hv=>?_⟩;obtain⟨h1,h2,_⟩:=wZ (ι:=ι) hp
    cases hv;exact .cM acc.length _ _ (.dp 0 true []) h2 (by rw[h1];rfl)
  ·split
   ·exact⟨List.prefix_refl _,A,hu _ _⟩
   ·refine⟨List.prefix_append _ _,A.push ⟨rfl,by simp⟩ (by simp),λbX F' hp hF v hv=>?_⟩;obtain⟨h1,h2,_⟩:=wZ (ι:=ι) hp
    cases hv;exact .cM acc.length _ _ (.dp 0 false []) h2 (by rw[h1];rfl)
  ·refine⟨List.prefix_refl _,A,λbX F' hp hF v hv=>?_⟩
   cases hv;exact .c _ _ (by simp only[enc,List.map_nil];exact .nil _)
  ·refine⟨List.prefix_refl _,A,λbX F' hp hF v hv=>?_⟩
   cases hv;exact .n _
 ·rename_i jO id off len
  split
  rotate_left
  ·exact⟨List.prefix_refl _,A,hu _ _⟩
  rename_i e ts mm es hh;have own:∀(e':TypeId)(m':Mo)(k:Nat),k=off->JC mm m' off->(m'.eZ=true->e=e')->Z6 acc id=none->
    acc <+: acc++[(some (id,k),.sl e' ts m' ((es.drop k).take len))]/\ef w F ι h (acc++[(some (id,k),.sl e' ts m' ((es.drop k).take len))])/\oT w F ι h (acc++[(some (id,k),.sl e' ts m' ((es.drop k).take len))]) (.r jO id off len) (.r ts acc.length 0 ((es.drop k).take len).length):=by
   intro e' m' k hk hg zY eD;subst hk;refine⟨List.prefix_append _ _,A.push ⟨es,mm,len,⟨e,hh,zY⟩,rfl,hg⟩ (λb8 o' h'=>by cases h';exact eD),λbX F' hp hF v hv=>?_⟩;obtain⟨h1,h2,h3⟩:=wZ (ι:=ι) hp;have hn:=hs id e ts mm es v k len _ hh hv;simp only[TV.aO,hn]at hv;refine QJm hh zY hg h1 h2 (λdN=>?_) hv;rw[h3];simp only[Jz,Si dN]
  split
  ·cases mm with
   | ow=>exact⟨List.prefix_refl _,A,hu _ _⟩
   | dp=>exact⟨List.prefix_refl _,A,hu _ _⟩
   | fz =>
    refine⟨List.prefix_refl _,A,λbX F' hp hF v hv=>?_⟩;have hn:=hs id e ts .fz es v off len _ hh hv;simp only[TV.aO,hn]at hv;have:=hz id e ts es v off len hh hv;refine .c _ _ ?_;simp only[enc,List.map_take,List.map_drop];exact this.mono λb hb=>⟨hF b hb,rfl⟩
  ·cases aU:Nat.blt id nl with
   | true =>
    simp only[cond_true]
    cases mn:mm.full with
    | false=>exact⟨List.prefix_refl _,A,hu _ _⟩
    | true =>
    have hb:=hf id e ts mm es (Nat.le_of_ble_eq_true aU) hh mn;refine⟨List.prefix_refl _,A,λbX F' hp hF v hv=>?_⟩;obtain⟨h1,h2,h3⟩:=tL (ι:=ι) hp hb;have hn:=hs id e ts mm es v off len _ hh hv;simp only[cond_true,TV.aO,hn]at hv ⊢;simp only[Option.bind_some]at h2;have h3:(aι ι bX).o id=ι.o id:=by rw[h3];simp only[Jz,Sj,Nat.add_zero]
    have lW:(λi=>(h i).aA) id = .sl e ts.length mm (es.map (aV ts)):=by simp only[hh,az.bH]
    generalize hgA:(λi=>(h i).aA)=hA at hv lW;have zZ:=JC.rs mn
    cases hv with
    | cz v sz id off len h1 hd=>rw[lW]at hd;cases hd
    | cM id e' sz m hi ca =>
     rw[lW]at ca;injection ca with _ _ _ h4;exact .cM _ e ts.length mm.rs (h2.trans hi) (by rw[h1,az.bH,h4])
    | df ad cap id e' sz m hi ca ht =>
     rw[lW]at ca;injection ca with q1 q2 q3 q4;refine .df ad cap _ e ts.length mm.rs (h2.trans hi) (by rw[h1,az.bH,q4]) ?_
     cases hx:mm.rs.eZ with
     | false=>rfl
     | true=>rw[<- q3,(zZ.eZ hx).1]at ht;cases ht
    | r id off len b ao cap e' sz m bP hi ca hlen ck ho cY =>
     rw[lW]at ca;injection ca with q1 q2 q3 q4;subst q1;subst q3;rw[<- q4]at hlen;exact .r id off len b ao cap e ts.length mm.rs (es.map (aV ts)) (h2.trans hi) (by rw[h1,az.bH]) hlen ck (by rw[h3];exact ho) (λht=>cY (zZ.eZ ht).1)
   | false =>
   simp only[cond_false]
   split
   ·exact⟨List.prefix_refl _,A,hu _ _⟩
   rename_i eD
   split
   ·rename_i g t H
    cases hH:H.all (λx=>Nat.blt x.1 off) with
    | false=>exact⟨List.prefix_refl _,A,hu _ _⟩
    | true =>
    simp only[cond_true];have Sl:∀ x,x∈H->x.1<off:=λx hx=>Nat.le_of_ble_eq_true (List.all_eq_true.1 hH x hx)
    split
    ·have:=own (m.e e) (.dp 0 (m.t t) []) 0 rfl (.inr ⟨g,t,H,m.t t,rfl,rfl,λh=>⟨(by cases m <;> first | exact h | cases h),rfl⟩,Sl⟩) (λh=>by cases m <;> first | rfl | cases h) eD;simpa using this
    ·rename_i k;exact own (m.e e) (.dp 0 false []) (k+1) rfl (.inr ⟨g,t,H,false,rfl,rfl,λh=>(by cases h),Sl⟩) (λh=>by cases h) eD
   ·rename_i dV
    split
    ·have jo:mm.gen=none:=by
      cases mm with
      | dp g t H=>exact absurd rfl (dV g t H)
      | _=>rfl
     have:=own e mm 0 rfl (.inl ⟨rfl,jo,rfl⟩) (λ_=>rfl) eD;simpa using this
    ·exact⟨List.prefix_refl _,A,hu _ _⟩
 ·exact⟨List.prefix_refl _,A,hu _ _⟩
theorem w1{nl:Nat}(hz:lV w F ι h)(hs:∀ id e ts m es v off len n,h id = .sl e ts m es->VR w F ι (λi=>(h i).aA) v (.r n id off len)->n=ts.length) :
  ∀ {ms:List jt} {xs:List TV} {acc:Acc},ef w F ι h acc->oU nl h acc->acc <+: (Yh nl h ms xs acc).2/\ef w F ι h (Yh nl h ms xs acc).2/\(Yh nl h ms xs acc).1.length=xs.length/\
   ∀(k:Nat)(x y:TV),xs[k]? = some x->(Yh nl h ms xs acc).1[k]? = some y->oT w F ι h (Yh nl h ms xs acc).2 x y
 | ms,[],acc,A,hf=>by
  cases ms <;> exact⟨List.prefix_refl _,A,rfl,λk x y hx=>by simp at hx⟩
 | [],x::xs,acc,A,hf=>by
  obtain⟨h1,h2,h3,h4⟩:=w1 hz hs (ms:=[]) (xs:=xs) A hf;refine⟨h1,h2,by simp only[Yh,List.length_cons,h3],λk a b ha hb=>?_⟩;simp only[Yh]at hb
  cases k with
  | zero=>simp at hb;subst hb;exact λbX F' _ _ v _=>.u v
  | succ k=>exact h4 k a b (by simpa using ha) (by simpa using hb)
 | m::ms,x::xs,acc,A,hf=>by
  obtain⟨g1,g2,g3⟩:=Sk hz hs (m:=m) (x:=x) A hf;obtain⟨h1,h2,h3,h4⟩:=w1 hz hs (ms:=ms) (xs:=xs) g2 (hf.mono g1);refine⟨g1.trans h1,h2,by simp only[Yh,List.length_cons,h3],λk a b ha hb=>?_⟩;simp only[Yh]at hb
  cases k with
  | zero=>simp at ha hb;subst ha;subst hb;exact g3.mono h1
  | succ k=>exact h4 k a b (by simpa using ha) (by simpa using hb)
def tM(w:World)(F:Nat->Prop)(ι:Io)(h:Nat->az)(acc:Acc)(x y:TV):Prop :=
 ∀(bX:Acc)(F':Nat->Prop),acc <+: bX->(∀ b,F b->F' b)->∀ v,VR w F ι (λi=>(h i).aA) v x.aA->VR w F' (aι ι bX) (ah bX) v y.aA
theorem tM.mono{acc gQ:Acc}{x y:TV}(hp:acc <+: gQ)(hk:tM w F ι h acc x y):tM w F ι h gQ x y :=
 λbX F' FT hF v hv=>hk bX F' (hp.trans FT) hF v hv
theorem QGT{nl:Nat}{m:jt}{x:TV}{acc:Acc}:(Y5 nl h m x acc).1.aA=(Y5 nl h m x acc).1.aO:=by
 unfold Y5;simp only[cond];repeat' split
 all_goals rfl
theorem QXm{nl:Nat}{m:jt}{x:TV}{acc:Acc}(hx:x.one=false):Y5 nl h m x acc=(.u,acc):=by
 cases x <;> first | rfl | simp[TV.one]at hx
theorem QMK{nl:Nat}(hz:lV w F ι h)(hs:∀ id e ts m es v off len n,h id = .sl e ts m es->VR w F ι (λi=>(h i).aA) v (.r n id off len)->n=ts.length){m:Md}{x:TV}{acc:Acc}(A:ef w F ι h acc)(hf:oU nl h acc) :
  acc <+: (conv nl h m x acc).2/\ef w F ι h (conv nl h m x acc).2/\tM w F ι h (conv nl h m x acc).2 x (conv nl h m x acc).1:=by
 have hu:∀(a:Acc)(x:TV),tM w F ι h a x .u:=λa x bX F' _ _ v _=>.u v;unfold conv
 split
 ·rename_i m
  cases hx:x.one with
  | false=>rw[QXm hx];exact⟨List.prefix_refl _,A,hu _ _⟩
  | true =>
   obtain⟨g1,g2,g3⟩:=Sk hz hs (m:=m) (x:=x) A hf;refine⟨g1,g2,λbX F' hp hF v hv=>?_⟩;rw[qT hx]at hv;rw[QGT];exact g3 bX F' hp hF v hv
 ·rename_i ms
  split
  rotate_left
  ·exact⟨List.prefix_refl _,A,hu _ _⟩
  rename_i id
  split
  rotate_left
  ·exact⟨List.prefix_refl _,A,hu _ _⟩
  rename_i cs hh;have put:∀(k:Nat)(cs':List TV)(F':Nat->Prop)(bX:Acc)(v:Value),ah bX k=(az.box cs').aA->aι ι bX k=ι id->(aι ι bX).o k=ι.o id->VR w F ι (λi=>(h i).aA) v (.p id 0 0)->VR w F' (aι ι bX) (ah bX) v (.p k 0 0):=by
   intro k cs' F' bX v h1 h2 h3 hv
   cases hv with
   | cT v id i j h3 hd=>have hd:(h id).aA = .dead:=hd;rw[hh]at hd;cases hd
   | p id i j bk hi hn hd =>
    have:VR w F' (aι ι bX) (ah bX) (.pointer (some ⟨bk,(aι ι bX).o k+0*(ah bX k).sz+0,none⟩)) (.p k 0 0) :=
     .p k 0 0 bk (h2.trans hi) (by rw[h1];simp[az.aA]) (by rw[h1];simp[az.aA])
    rw[h3]at this;simpa using this
  split
  ·rename_i k hk;obtain⟨o,b,hb⟩:=tK hk;refine⟨List.prefix_refl _,A,λbX F' hp hF v hv=>?_⟩;obtain⟨h1,h2,h3⟩:=tL (ι:=ι) hp hb;have hg:=A.jN k _ hb
   cases b with
   | none=>exact hg.elim
   | dead=>exact hg.elim
   | sl e ts m es=>obtain⟨mr,m0,len,⟨_,q,_⟩,_⟩:=hg;rw[hh]at q;cases q
   | box cs'=>exact put k cs' F' bX v h1 h2 (by rw[h3];simp only[Jz,FR,Nat.add_zero]) hv
  ·rename_i lX;obtain⟨g1,g2,g3,g4⟩:=w1 hz hs (ms:=ms) (xs:=cs) A hf;simp only
   split
   rotate_left
   ·exact⟨List.prefix_refl _,A,hu _ _⟩
   rename_i q9;have eT:(Yh nl h ms cs acc).2 <+: (Yh nl h ms cs acc).2++[(some (id,0),.box (Yh nl h ms cs acc).1)]:=List.prefix_append _ _;refine⟨g1.trans eT,g2.push ⟨cs,hh,g3,λk x y hx hy=>(g4 k x y hx hy).mono eT⟩ (λb8 o' h'=>by cases h';exact q9),λbX F' hp hF v hv=>?_⟩;obtain⟨h1,h2,h3⟩:=wZ (ι:=ι) hp;exact put _ _ F' bX v h1 h2 (by rw[h3];simp only[Jz,FR,Nat.add_zero]) hv
 ·rename_i ms
  split
  rotate_left
  ·exact⟨List.prefix_refl _,A,hu _ _⟩
  rename_i cs;obtain⟨g1,g2,g3,g4⟩:=w1 hz hs (ms:=ms) (xs:=cs) A hf;refine⟨g1,g2,λbX F' hp hF v hv=>?_⟩
  cases hv with
  | a vs cs' hl h1 hv =>
   refine .a vs _ (by simpa[g3]using hl) h1 (λk v y hk hy=>?_);simp only[List.getElem?_map,Option.map_eq_some_iff]at hy;obtain⟨y0,w3,rfl⟩:=hy;have aU:k<cs.length:=by rw[<- g3];exact(List.getElem?_eq_some_iff.1 w3).1
   exact g4 k cs[k] y0 (List.getElem?_eq_getElem aU) w3 bX F' hp hF v (hv k v _ hk (by simp[aU]))
theorem Sm{nl:Nat}(hz:lV w F ι h)(hs:∀ id e ts m es v off len n,h id = .sl e ts m es->VR w F ι (λi=>(h i).aA) v (.r n id off len)->n=ts.length){T:Nat->TV} :
  ∀ {L:List (Nat × Md)} {acc:Acc},ef w F ι h acc->oU nl h acc->acc <+: (Y3 nl h T L acc).2/\ef w F ι h (Y3 nl h T L acc).2/\∀ s,tM w F ι h (Y3 nl h T L acc).2 (T s) (cH (Y3 nl h T L acc).1 s)
 | [],acc,A,hf=>⟨List.prefix_refl _,A,λs bX F' _ _ v _=>.u v⟩
 | (s,m)::L,acc,A,hf=>by
  obtain⟨g1,g2,g3⟩:=QMK hz hs (m:=m) (x:=T s) A hf;obtain⟨h1,h2,h3⟩:=Sm hz hs (T:=T) (L:=L) g2 (hf.mono g1);refine⟨g1.trans h1,h2,λs'=>?_⟩;simp only[Y3,Y4,bI]
  split
  ·rename_i e;subst e;exact g3.mono h1
  ·exact h3 s'
end
theorem Sn:∀(acc:Acc)(n k:Nat),dx (oS n acc) k=if n<=k then(match acc[k-n]? with | some (_,b)=>b | none=>.none) else .none
 | [],n,k=>by simp[oS,dx]
 | (o,b)::r,n,k=>by
  simp only[oS,qX,bI];by_cases h:k=n
  ·subst h;simp
  ·rw[if_neg h,Sn r (n+1) k];by_cases h2:n<=k
   ·rw[if_pos h2,if_pos (by omega),show k-n=(k-(n+1))+1 by omega];simp
   ·rw[if_neg h2,if_neg (by omega)]
theorem Jn(h:Nat->az):∀ n,(ZF h n).length=n
 | 0=>rfl
 | n+1=>by simp only[ZF,List.length_append,Jn h n,List.length_singleton]
theorem So{nl:Nat}{h:Nat->az}:∀ {cs:List TV} {acc:Acc},(Yh nl h (lU cs) cs acc).2=acc
 | [],acc=>rfl
 | x::xs,acc=>by
  have:(Y5 nl h .d x acc).2=acc:=by
   unfold Y5
   split <;> try rfl
   split <;> try rfl
   simp only[cond]
   split <;> rfl
  simp only[lU,Yh,this];exact So
section
variable {C:Ctx} {U:Nat->Prop} {a:Act} {w:World} {ι:Io}
theorem QVx(h:Nat->az)(ids:List Nat):(λi=>(kI h ids i).aA)=bn (λi=>(h i).aA) (eU (λi=>(h i).aA) (ids.filter λi=>(h i).full)):=by
 funext i
 rw[Yx];simp only[kI,List.mem_filter];by_cases hi:i∈ids
 ·rw[show ids.elem i=true by simpa using hi]
  cases hf:(h i).full with
  | true=>rw[if_pos ⟨hi,rfl⟩];exact RE _
  | false=>rw[if_neg (λh=>by cases h.2)];rfl
 ·rw[if_neg (λh=>hi h.1),show ids.elem i=false by simpa using hi];rfl
theorem QHv{σ:cr}{nl:Nat}{L:List (Nat × Md)}(S:Sat C U σ.aA a w ι)(hL:∀ i b,C.L i=some b->i<nl)(hO:∀ i x,C.O i=some x->i<nl)(hOb:∀ i x cs,C.O i=some x->x.B≠.box cs):∃ ι',Sat C (λi=>(gc nl L σ).nx<=i) (gc nl L σ).aA a w ι':=by
 obtain⟨t,h0,nx⟩:=σ;let H:=dx h0
 let T:=cH t
 let ids:=zX H nl++qZ H T L
 have mn:Am.Full (λi=>(H i).aA) (ids.filter λi=>(H i).full):=by
  intro id a8 e sz m es he;have h1:=(List.mem_filter.1 a8).2;simp only at h1 he
  cases hq:H id with
  | sl e' ts m' bP=>rw[hq]at he h1;rw[az.bH]at he;injection he with _ _ q _;rw[<- q];exact h1
  | _=>rw[hq]at he;cases he
 obtain⟨S1,_⟩:=S.freeze (ids.filter λi=>(H i).full) mn;have hf:bn (cr.aA ⟨t,h0,nx⟩).h (eU (cr.aA ⟨t,h0,nx⟩).h (ids.filter λi=>(H i).full))=λi=>(kI H ids i).aA:=(QVx H ids).symm;rw[hf]at S1;generalize hh:kI H ids=h at S1;generalize ι.loose (ids.filter λi=>(H i).full)=ι at S1;let F:=Fz C w ι λi=>(h i).aA
 have hs:∀ id e ts m es v off len n,h id = .sl e ts m es->VR w F ι (λi=>(h i).aA) v (.r n id off len)->n=ts.length:=by
  intro id e ts m es v off len n a8 hv;have hA:(λi=>(h i).aA) id = .sl e ts.length m (es.map (aV ts)):=by simp only[a8,az.bH]
  generalize(λi=>(h i).aA)=hB at hv hA
  cases hv with
  | cz v sz id off len h1 hd=>rw[hA]at hd;cases hd
  | cM id e' sz m' hi ca=>rw[hA]at ca;injection ca with _ q _ _;exact q.symm
  | df ad cap id e' sz m' hi ca ht=>rw[hA]at ca;injection ca with _ q _ _;exact q.symm
  | r id off len b ao cap e' sz m' bP hi ca hlen ck ho cY=>rw[hA]at ca;injection ca with _ q _ _;exact q.symm
 have hz:lV w F ι h:=by
  intro id e ts es v off len a8 hv;have hA:(λi=>(h i).aA) id = .sl e ts.length .fz (es.map (aV ts)):=by simp only[a8,az.bH]
  refine AV.jB S1 (F:=F) (λb hb=>hb) hv (d:=.sl ts.length (((es.map (aV ts)).drop off).take len)) ?_ (λb8 b iw hb=>?_) (λb8 b p iw hb=>?_)
  ·show(match(h id).aA with | .sl _ sz m es=>if m.full=true then some (D.sl sz ((es.drop off).take len)) else none | _=>none)=_;rw[a8];rfl
  ·simp only[AV.bR,List.mem_singleton]at iw;subst iw;obtain⟨r1,r2⟩:=S1.eh b8 b hb;refine⟨r2,?_,λj hj=>?_,?_⟩
   ·rcases r1 with r1 | ⟨_,cs,q⟩
    ·exact .inr r1
    ·have q:(h b8).aA = .box cs:=q;rw[a8]at q;cases q
   ·have:=S1.inj j b8 b hj hb;subst this;show((h j).aA).own=false;rw[a8];rfl
   ·cases hk:ι.k b with
    | none=>rfl
    | some x=>exact absurd hb ((S1.dg b x.1 x.2 hk).ne b8)
  ·simp only[AV.bR,List.mem_singleton]at iw;subst iw;obtain⟨e',ba,g,t',H',bP,q⟩:=(S1.dg b b8 p hb).dp;have q:(h b8).aA = .sl e' ba (.dp g t' H') bP:=q;rw[a8,az.bH]at q
   cases q
 have ra:∀(n k:Nat)(j o:Nat)(b:az),(ZF h n)[k]? = some (some (j,o),b)->j=k:=by
  intro n
  induction n with
  | zero=>intro k j o b hk;simp[ZF]at hk
  | succ n ih =>
   intro k j o b hk;simp only[ZF]at hk;rw[List.getElem?_append]at hk
   split at hk
   ·exact ih k j o b hk
   ·rename_i iM;have h1:=List.mem_of_getElem? hk;have h2:=(List.getElem?_eq_some_iff.1 hk).1;simp only[List.mem_singleton]at h1;simp only[Jn,List.length_singleton]at iM h2;simp only[cond]at h1;repeat' split at h1
    all_goals first | (cases h1;omega) | cases h1
 have fv:∀ n,ef w F ι h (ZF h n):=by
  intro n
  induction n with
  | zero=>exact⟨λk e he=>by simp[ZF]at he,λk j id o o' b c hk=>by simp[ZF]at hk⟩
  | succ n ih =>
   simp only[ZF];have lX:Z6 (ZF h n) n=none:=by
    cases hx:Z6 (ZF h n) n with
    | none=>rfl
    | some k =>
     obtain⟨o,b,hb⟩:=tK hx;have h1:=ra n k n o b hb;have h2:=(List.getElem?_eq_some_iff.1 hb).1;rw[Jn]at h2;omega
   split
   ·rename_i cs dJ;obtain⟨g1,g2,g3,g4⟩:=w1 (nl:=0) hz hs (ms:=lU cs) (xs:=cs) ih (λid _ _ _ _ h=>by omega);rw[So]at g1 g2 g4;exact ih.push ⟨cs,dJ,g3,λk x y hx hy=>(g4 k x y hx hy).mono (List.prefix_append _ _)⟩ (λid o a8=>by cases a8;exact lX)
   ·rename_i e ts m es hq
    cases mD:m.full with
    | true=>exact ih.push ⟨es,m,es.length,⟨e,hq,λ_=>rfl⟩,List.take_length.symm,.rs mD⟩ (λid o a8=>by cases a8;exact lX)
    | false=>exact ih.push trivial (λid o a8=>by cases a8)
   ·exact ih.push trivial (λid o a8=>by cases a8)
   ·exact ih.push trivial (λid o a8=>by cases a8)
 have dW:∀ n,oU n h (ZF h n):=by
  intro n
  induction n with
  | zero=>intro id e ts m es aU;omega
  | succ n ih =>
   intro id e ts m es aU a8 mD;simp only[ZF];by_cases fe:id<n
   ·rw[List.getElem?_append_left (by rw[Jn];exact fe)];exact ih id e ts m es fe a8 mD
   ·have:id=n:=by omega
    subst this;rw[List.getElem?_append_right (by rw[Jn];omega),Jn,a8];simp[mD]
 have kv:∀ i x,C.O i=some x->∀ cs,h i≠.box cs:=by
  intro i x hi cs hq
  rcases S1.hand i x hi with r1 | ⟨_,_,r2,_⟩
  ·have r1:(h i).aA = .dead:=r1;rw[hq]at r1
   cases r1
  ·have r2:Yj x.B (h i).aA:=r2;rw[hq]at r2
   cases hB:x.B with
   | box cs'=>exact hOb i x cs' hi hB
   | _=>rw[hB]at r2;exact r2.elim
 have w4:∀ n i,i<n->(h i = .dead\/∃ e ts m es,h i = .sl e ts m es/\m.full=false)->(ZF h n)[i]? = some (none,.dead):=by
  intro n
  induction n with
  | zero=>intro i aU;omega
  | succ n ih =>
   intro i aU a8;simp only[ZF];by_cases fe:i<n
   ·rw[List.getElem?_append_left (by rw[Jn];exact fe)];exact ih i fe a8
   ·have:i=n:=by omega
    subst this;rw[List.getElem?_append_right (by rw[Jn];omega),Jn]
    rcases a8 with a8 | ⟨e,ts,m,es,a8,mD⟩
    ·rw[a8];simp
    ·rw[a8];simp[mD]
 obtain⟨g1,g2,g3⟩:=Sm (nl:=nl) hz hs (T:=T) (L:=L) (fv nl) (dW nl);have hgc:gc nl L ⟨t,h0,nx⟩=⟨(Y3 nl h T L (ZF h nl)).1,oS 0 (Y3 nl h T L (ZF h nl)).2,(Y3 nl h T L (ZF h nl)).2.length⟩:=by
  unfold gc;show cr.mk _ _ _=_;simp only[show kI (cr.H ⟨t,h0,nx⟩) (zX (cr.H ⟨t,h0,nx⟩) nl++qZ (cr.H ⟨t,h0,nx⟩) (cr.T ⟨t,h0,nx⟩) L)=h from hh];rfl
 rw[hgc];generalize ny:(Y3 nl h T L (ZF h nl)).2=acc at g1 g2 g3;have hah:(λi=>(dx (oS 0 acc) i).aA)=ah acc:=by
  funext k
  rw[Sn];simp only[Nat.zero_le,if_true,Nat.sub_zero,ah]
  cases acc[k]? with
  | none=>rfl
  | some x=>obtain⟨o,b⟩:=x;rfl
 have hex:∀(k b:Nat),aι ι acc k=some b->∃ id off B,acc[k]? = some (some (id,off),B)/\ι id=some b:=by
  intro k b hk;simp only[aι]at hk
  cases hx:acc[k]? with
  | none=>rw[hx]at hk;cases hk
  | some x =>
   obtain⟨o,B⟩:=x;rw[hx]at hk
   cases o with
   | none=>cases hk
   | some id=>exact⟨id.1,id.2,B,rfl,hk⟩
 have Sp:∀(b k:Nat)(p:cE),(aι ι acc).k b=some (k,p)->∃ y a c q off B,ι.k b=some (y,(a,c)::q)/\acc[k]? = some (some (y,off),B)/\off<=a/\p=(a-off,c)::q:=by
  intro b k p hk;simp only[aι]at hk
  cases hx:ι.k b with
  | none=>rw[hx]at hk;cases hk
  | some x =>
   obtain⟨y,p0⟩:=x;rw[hx]at hk
   cases p0 with
   | nil=>cases hk
   | cons ac q =>
    obtain⟨a,c⟩:=ac;simp only at hk
    cases hy:Z6 acc y with
    | none=>rw[hy]at hk;cases hk
    | some k' =>
     rw[hy]at hk;obtain⟨off,B,hB⟩:=tK hy;simp only[hB]at hk
     split at hk
     ·rename_i hle;simp only[Option.some.injEq,Prod.mk.injEq]at hk;obtain⟨rfl,rfl⟩:=hk;exact⟨y,a,c,q,off,B,rfl,hB,hle,rfl⟩
     ·cases hk
 have hF:∀ b,F b->Fz C w (aι ι acc) (ah acc) b:=by
  intro b ⟨q1,q2,q3,q4⟩;refine⟨q1,q2,λk hk=>?_,?_⟩
  ·obtain⟨id,off,B,h1,h2⟩:=hex k b hk;have h3:=q3 id h2;have hg:=g2.jN k _ h1;simp only[ah,h1]
   cases B with
   | none=>rfl
   | dead=>rfl
   | box cs=>obtain⟨fZ,e,_⟩:=hg;have h3:((h id).aA).own=false:=h3;rw[e]at h3;cases h3
   | sl e ts m es =>
    obtain⟨mr,m0,len,⟨_,e,_⟩,_,hg⟩:=hg;have h3:((h id).aA).own=false:=h3;rw[e,az.bH]at h3;rw[az.bH];exact hg.own.trans h3
  ·cases hk:(aι ι acc).k b with
   | none=>rfl
   | some x=>obtain⟨y,a,c,q,off,B,h1,_⟩:=Sp b x.1 x.2 hk;rw[q4]at h1;cases h1
 have key:Sat C (λi=>acc.length<=i) ⟨λs=>(cH (Y3 nl h T L (ZF h nl)).1 s).aA,ah acc,acc.length⟩ a w (aι ι acc):=by
  refine⟨S1.dE,λs=>?_,S1.size,S1.defers,λk=>?_,λi j b hi hj=>?_,λi b hi=>?_,λi hi=>?_,λi b hi=>?_,λi b hi=>?_,λi x hi=>?_,λb k p hk=>?_⟩
  ·exact g3 s acc _ (List.prefix_refl _) hF _ (S1.bj s)
  ·show BR w (Fz C w (aι ι acc) (ah acc)) (aι ι acc) (ah acc) k (ah acc k)
   cases hx:acc[k]? with
   | none=>simp only[ah,hx];exact .none
   | some x =>
    obtain⟨o,B⟩:=x;have hg:=g2.jN k _ hx;obtain⟨ha,hi,ho⟩:=tL (ι:=ι) (List.prefix_refl acc) hx;rw[ha]
    cases o with
    | none =>
     cases B with
     | none=>exact .none
     | dead=>exact .dead
     | box cs=>exact hg.elim
     | sl e ts m es =>
      obtain⟨e1,e2⟩:=hg;subst e1;rw[az.bH];exact .slnil e ts.length m e2 hi
    | some id =>
     obtain⟨id,off⟩:=id;have hi:aι ι acc k=ι id:=hi;have hb:=S1.fi id
     cases B with
     | none=>exact hg.elim
     | dead=>exact hg.elim
     | box cs =>
      obtain⟨fZ,e1,e2,e3⟩:=hg;have hb:BR w F ι (λi=>(h i).aA) id ((h id).aA):=hb;rw[e1]at hb
      cases hb with
      | box b e bj _ q1 qo q2 q3 q4 q5 =>
       refine .box b e bj _ (hi.trans q1) (by rw[ho];simp only[Jz,FR,Nat.add_zero];exact qo) q2 (by simpa[e2]using q3) q4 (λj v y hj hy=>?_);simp only[List.getElem?_map,Option.map_eq_some_iff]at hy;obtain⟨y0,w3,rfl⟩:=hy;have aU:j<fZ.length:=by rw[<- e2];exact(List.getElem?_eq_some_iff.1 w3).1
       exact e3 j fZ[j] y0 (List.getElem?_eq_getElem aU) w3 acc _ (List.prefix_refl _) hF v (q5 j v _ hj (by simp[aU]))
     | sl e ts m es =>
      obtain⟨mr,m0,len,⟨e9,e1,zY⟩,e2,qM⟩:=hg;have oV:=hx;have hb:BR w F ι (λi=>(h i).aA) id ((h id).aA):=hb;rw[e1]at hb;have ho:es≠[]->(aι ι acc).o k=ι.o id+off*ts.length:=λdN=>by rw[ho];simp only[Jz,Si dN]
      have eS:es=[]->(aι ι acc).o k=ι.o id:=λdN=>by subst dN;rw[(tL (ι:=ι) (List.prefix_refl acc) hx).2.2];simp only[Jz,QII,Nat.add_zero]
      simp only[az.bH]at hb ⊢;have het:es.map (aV ts)=((mr.map (aV ts)).drop off).take len:=by rw[e2,List.map_take,List.map_drop]
      have Aa:es=[]↔es.map (aV ts)=[]:=by simp
      generalize es.map (aV ts)=bP at het Aa ⊢;generalize mr.map (aV ts)=eP at hb het
      cases hb with
      | slnil _ _ _ q1 q2=>simp only[List.drop_nil,List.take_nil]at het;subst het;exact .slnil e ts.length m q1 (hi.trans q2)
      | sl b _ e0 _ _ _ cur q1 q2 q3 q4 q5 q6 q7 q8 =>
       have w5:bP.length<=eP.length:=by rw[het];simp;omega
       refine .sl b e e0 ts.length m _ cur q1 (hi.trans q2) q3 (λht=>?_) ?_ (Nat.le_trans w5 q6) (λx hx=>?_) (λi j x d hx hd=>?_)
       ·obtain⟨t1,t2⟩:=qM.eZ ht;obtain⟨r1,r2,Cc,r3,r4,r5⟩:=q4 t1;refine⟨r1.trans (zY ht),?_,Cc,r3,by omega,r5⟩;by_cases dN:es=[]
        ·rw[eS dN,r2]
        ·rw[ho dN,r2,t2];simp
       ·by_cases dN:es=[]
        ·rw[eS dN,Aa.1 dN];simp only[List.length_nil,Nat.zero_mul];exact Nat.le_trans (Nat.le_add_right _ _) q5
        ·rw[ho dN];have:off+bP.length<=eP.length:=by
          have:bP≠[]:=λh=>dN (Aa.2 h);have h3:0<bP.length:=List.length_pos_iff.2 this;rw[het]at h3 ⊢;simp at h3 ⊢;omega
         have:=Nat.mul_le_mul_right ts.length this;rw[Nat.add_mul]at this;omega
       ·rw[het]at hx;exact q7 x (List.mem_of_mem_drop (List.mem_of_mem_take hx))
       ·have dN:es≠[]:=λh=>by rw[Aa.1 h]at hx;simp at hx
        rw[ho dN];rw[het,List.getElem?_take]at hx
        split at hx
        rotate_left
        ·cases hx
        rw[List.getElem?_drop]at hx;obtain⟨v,r1,r2⟩:=q8 (off+i) j x d hx hd;refine⟨v,by rw[<- r1];congr 1;rw[Nat.add_mul];omega,?_⟩
        rcases qM with⟨rfl,jo,rfl⟩ | ⟨g,t,HH,t',rfl,rfl,_,oB⟩
        ·cases m0 with
         | dp=>cases jo
         | ow=>exact Rd.mono (λb hb=>⟨hF b hb,rfl⟩) r2
         | fz=>exact Rd.mono (λb hb=>⟨hF b hb,rfl⟩) r2
        ·refine⟨r2.1,λ_=>?_⟩;have r3:=r2.2 (λhm=>by have:=oB _ hm;simp only at this;omega);refine r3.map [(i,j)] (λb q hk=>⟨?_,rfl⟩);simp only[List.singleton_append]at hk;simp only[aι,hk,QTM g2 oV,oV];simp
  ·obtain⟨id,o1,B,h1,h2⟩:=hex i b hi;obtain⟨b8,o2,B',h3,h4⟩:=hex j b hj;have:=S1.inj id b8 b h2 h4;subst this;exact g2.nodup i j id o1 o2 B B' h1 h3
  ·obtain⟨id,o1,B,h1,h2⟩:=hex i b hi;obtain⟨r1,r2⟩:=S1.eh id b h2;refine⟨r1.imp (λx=>x) λ⟨r3,cs,r4⟩=>⟨r3,?_⟩,r2⟩;have r4:(h id).aA = .box cs:=r4;have hg:=g2.jN i _ h1
   cases B with
   | none=>exact hg.elim
   | dead=>exact hg.elim
   | box cs'=>exact⟨cs'.map TV.aO,by simp only[ah,h1];rfl⟩
   | sl e ts m es=>obtain⟨mr,m0,len,⟨_,e1,_⟩,_⟩:=hg;rw[e1]at r4;cases r4
  ·have:acc[i]? = none:=List.getElem?_eq_none hi;simp only[ah,aι,this,Option.bind_none,and_self]
  ·obtain⟨id,o1,B,h1,h2⟩:=hex i b hi;have hg:=g2.jN i _ h1;simp only[ah,h1]
   cases B with
   | none=>exact hg.elim
   | dead=>exact hg.elim
   | box cs'=>simp[az.aA]
   | sl e ts m es=>simp[az.aA]
  ·obtain⟨r1,⟨cs,r2⟩,r3⟩:=S1.b9 i b hi;have r2:(h i).aA = .box cs:=r2;have aU:=hL i b hi;have ra:∀ n,i<n->∃ cs',(ZF h n)[i]? = some (some (i,0),.box cs'):=by
    intro n
    induction n with
    | zero=>intro hn;omega
    | succ n ih =>
     intro hn;simp only[ZF];rw[List.getElem?_append];by_cases fe:i<n
     ·rw[if_pos (by rw[Jn];exact fe)];exact ih fe
     ·have:i=n:=by omega
      subst this;rw[if_neg (by rw[Jn];omega),Jn]
      cases hq:h i with
      | box fZ=>simp
      | none=>rw[hq]at r2;cases r2
      | dead=>rw[hq]at r2;cases r2
      | sl e ts m es=>rw[hq]at r2;cases r2
   obtain⟨cs',h1⟩:=ra nl aU;obtain⟨rr,tA⟩:=g1;have h2:acc[i]? = some (some (i,0),.box cs'):=by
    rw[<- tA,List.getElem?_append_left (List.getElem?_eq_some_iff.1 h1).1];exact h1
   exact⟨by simp only[aι,h2,Option.bind_some];exact r1,⟨cs'.map TV.aO,by simp only[ah,h2];rfl⟩,r3⟩
  ·have aU:=hO i _ hi;obtain⟨rr,tA⟩:=g1;have fe:∀ x,(ZF h nl)[i]? = some x->acc[i]? = some x:=λx hx=>by
    rw[<- tA,List.getElem?_append_left (List.getElem?_eq_some_iff.1 hx).1];exact hx
   have eQ:(h i = .dead\/∃ e ts m es,h i = .sl e ts m es/\m.full=false)->ah acc i = .dead:=λhq=>by
    simp only[ah,fe _ (w4 nl i aU hq)];rfl
   rcases S1.hand i x hi with r1 | ⟨r1,rb,r2,r3⟩
   ·left;have r1:(h i).aA = .dead:=r1;have:h i = .dead:=by cases hq:h i <;> rw[hq]at r1 <;> first | rfl | cases r1
    exact eQ (.inl this)
   ·have r2:Yj x.B (h i).aA:=r2
    cases hq:h i with
    | none=>rw[hq]at r2;cases hB:x.B <;> rw[hB]at r2 <;> exact r2.elim
    | dead=>exact .inl (eQ (.inl hq))
    | sl e ts m es =>
     cases mD:m.full with
     | false=>exact .inl (eQ (.inr ⟨e,ts,m,es,hq,mD⟩))
     | true =>
      right;have hx:=fe _ (dW nl i e ts m es aU hq mD);obtain⟨z1,z2,z3⟩:=tL (ι:=ι) (List.prefix_refl acc) hx;refine⟨z2.trans r1,by rw[z3];simp only[Jz,Sj,Nat.add_zero];exact rb,?_,r3⟩;show Yj x.B (ah acc i);rw[z1];rw[hq,az.bH]at r2;rw[az.bH]
      cases hB:x.B with
      | sl e' ba m' bP =>
       rw[hB]at r2;refine⟨r2.1,r2.2.1,r2.2.2.1,λht=>r2.2.2.2.1 ((JC.rs mD).eZ ht).1,λhg=>r2.2.2.2.2 ?_⟩
       cases m <;> first | rfl | exact hg
      | _=>rw[hB]at r2;exact r2.elim
    | box cs=>exact absurd hq (kv i x hi cs)
  ·obtain⟨y,a',c,q,off,B,h1,h2,h3,h4⟩:=Sp b k p hk;have l:=S1.dg b y _ h1;refine⟨by rw[h4];simp,?_,l.fr,l.lt,λi hi=>?_⟩
   ·obtain⟨e,sz,g,t',HH,es,hd⟩:=l.dp;have hd:(h y).aA = .sl e sz (.dp g t' HH) es:=hd;have hg:=g2.jN k _ h2;show ∃ e sz g t H es,ah acc k = .sl e sz (.dp g t H) es
    cases B with
    | none=>exact hg.elim
    | dead=>exact hg.elim
    | box cs'=>obtain⟨fZ,e1,_⟩:=hg;rw[e1]at hd;cases hd
    | sl e2 ts m f6 =>
     obtain⟨mr,m0,len,⟨_,e1,_⟩,_,qM⟩:=hg;rw[e1,az.bH]at hd;injection hd with _ _ d3 _
     rcases qM with⟨rfl,jo,_⟩ | ⟨g',t2,H2,t3,r1,r2,_⟩
     ·rw[d3]at jo;cases jo
     ·exact⟨e2,ts.length,0,t3,[],f6.map (aV ts),by simp only[ah,h2,az.bH,r2]⟩
   ·obtain⟨id,o1,B,fO,kD⟩:=hex i b hi;exact l.ne id kD
 refine⟨aι ι acc,?_⟩;have FU:cr.aA ⟨(Y3 nl h T L (ZF h nl)).1,oS 0 acc,acc.length⟩=⟨λs=>(cH (Y3 nl h T L (ZF h nl)).1 s).aA,ah acc,acc.length⟩:=by
  unfold cr.aA cr.T cr.H;rw[<- hah]
 rw[FU];exact key
end
end Go.Proofs.YtdplaepmjogjjaaGreat.Am
namespace Go.Proofs.YtdplaepmjogjjaaGreat.Am
open Go Go.RowKit
inductive af where
 | skip
 | ae (ss:List bz)
 | draw (ss:List bz) (U:List (Nat × Nat))
 | seq (x y:af)
 | cond (c:bD) (x y:af)
 | block (id:Nat) (x:af)
 | loop (L:List (Nat × Md)) (x:af)
 | exit (id:Nat)
 | ret
 | wk (L:List (Nat × Md)) (x:af)
 | cv (s k:Nat) (x:af)
def af.er:af->eC
 | .skip=>.skip
 | .ae ss=>.ae (im none 0 ss)
 | .draw ss U=>.draw (im none 0 ss) U
 | .seq x y=>.seq x.er y.er
 | .cond c x y=>.cond c.er x.er y.er
 | .block id x=>.block id x.er
 | .loop _ x=>.loop x.er
 | .exit id=>.exit id
 | .ret=>.ret
 | .wk _ x=>x.er
 | .cv _ _ x=>x.er
def Ab(F:(cr->Prop)->cr->Prop)(σ:cr):Prop:=∀ J:cr->Prop,(∀ s,F J s->J s)->J σ
abbrev Qb:=mg->cr->Prop
def aY(next:cr->Prop)(Q:Qb):Qb:=λe σ=>match e with
 | .normal=>next σ
 | e=>Q e σ
def a6(id:Nat)(Q:Qb):Qb:=λe σ=>match e with
 | .exit b8=>bif Nat.beq b8 id then Q .normal σ else Q (.exit b8) σ
 | e=>Q e σ
def cr.fW(σ:cr)(n:Nat):cr:=⟨σ.t,σ.h,σ.nx+n⟩
def Ac(H:Nat->az)(nx:Nat):TV->Option (Prop × TV × List (Nat × az))
 | .bs _ _ id g [(i,j)]=>match H id with
  | .sl e jO (.dp g0 t []) es=>match Nat.beq g g0,(aR.cells jO (gt jO es i))[j]? with
   | true,some (.c (.sl (t1::ts)) l)=>some (i<es.length,.r (t1::ts) nx 0 l.length,[(id,.sl e jO (.dp (g0+1) t [(i,j)]) es),(nx,.sl 0 (t1::ts) (.dp 0 false []) l)])
   | _,_=>none
  | _=>none
 | _=>none
def FV(s k:Nat)(σ:cr):Option (Prop × cr):=match σ.T s with
 | .a cs=>match cs[k]? with
  | some c=>match Ac σ.H σ.nx c with
   | some (p,y,l)=>some (p,⟨(s,.a (cs.set k y))::σ.t,l++σ.h,σ.nx+1⟩)
   | none=>none
  | none=>none
 | .p id 0 0=>match σ.H id with
  | .box cs=>match cs[k]? with
   | some c=>match Ac σ.H σ.nx c with
    | some (p,y,l)=>some (p,⟨σ.t,(id,.box (cs.set k y))::(l++σ.h),σ.nx+1⟩)
    | none=>none
   | none=>none
  | _=>none
 | _=>none
def aN(Γ:aF)(nl:Nat):af->Qb->cr->Prop
 | .skip,Q,σ=>Q .normal σ
 | .ae ss,Q,σ=>match ic Γ 0 ss σ with
  | some (p,σ',_)=>nn p (Q .normal (σ'.fW (16*cV ss)))
  | none=>False
 | .draw ss U,Q,σ=>match ic Γ 0 ss σ with
  | some (p,σ',l)=>match s0 l U with
   | true=>nn p (Q .normal (σ'.fW (16*cV ss)))
   | false=>False
  | none=>False
 | .seq x y,Q,σ=>aN Γ nl x (aY (aN Γ nl y Q) Q) σ
 | .cond c x y,Q,σ=>match c.ev σ.T with
  | .c .bool t=>(t=true->aN Γ nl x Q σ)/\(t=false->aN Γ nl y Q σ)
  | _=>False
 | .block id x,Q,σ=>aN Γ nl x (a6 id Q) σ
 | .loop L x,Q,σ=>Ab (λR s=>aN Γ nl x (aY (λs'=>R (gc nl L s')) Q) s) (gc nl L σ)
 | .exit id,Q,σ=>Q (.exit id) σ
 | .ret,Q,σ=>Q .ret σ
 | .wk L x,Q,σ=>aN Γ nl x Q (gc nl L σ)
 | .cv s k x,Q,σ=>match FV s k σ with
  | some r=>r.1/\aN Γ nl x Q r.2
  | none=>False
theorem Ad{p:Option Prop}{k:Prop}:nn p k↔holds p/\k:=by cases p <;> simp[nn,holds]
theorem nz{Γ:aF}{nl:Nat}:∀(c:af){Q Q':Qb}{σ:cr},(∀ e s,Q e s->Q' e s)->aN Γ nl c Q σ->aN Γ nl c Q' σ
 | .skip,Q,Q',σ,h,hc=>h _ _ hc
 | .ae ss,Q,Q',σ,h,hc=>by
  simp only[aN]at hc ⊢
  split at hc
  ·rw[Ad]at hc ⊢;exact⟨hc.1,h _ _ hc.2⟩
  ·exact hc
 | .draw ss U,Q,Q',σ,h,hc=>by
  simp only[aN]at hc ⊢
  split at hc
  ·split at hc
   ·rw[Ad]at hc ⊢;exact⟨hc.1,h _ _ hc.2⟩
   ·exact hc
  ·exact hc
 | .seq x y,Q,Q',σ,h,hc=>by
  simp only[aN]at hc ⊢;refine nz x (λe s hq=>?_) hc
  cases e with
  | normal=>exact nz y h hq
  | exit id=>exact h _ _ hq
  | ret=>exact h _ _ hq
 | .cond c x y,Q,Q',σ,h,hc=>by
  simp only[aN]at hc ⊢
  split at hc
  ·exact⟨λe=>nz x h (hc.1 e),λe=>nz y h (hc.2 e)⟩
  ·exact hc
 | .block id x,Q,Q',σ,h,hc=>by
  simp only[aN]at hc ⊢;refine nz x (λe s hq=>?_) hc
  cases e with
  | normal=>exact h _ _ hq
  | exit b8 =>
   simp only[a6]at hq ⊢
   cases hb:Nat.beq b8 id with
   | true=>rw[hb]at hq;exact h _ _ hq
   | false=>rw[hb]at hq;exact h _ _ hq
  | ret=>exact h _ _ hq
 | .loop L x,Q,Q',σ,h,hc=>by
  simp only[aN]at hc ⊢;intro J hJ;refine hc J (λs hs=>hJ s (nz x (λe s hq=>?_) hs))
  cases e with
  | normal=>exact hq
  | exit id=>exact h _ _ hq
  | ret=>exact h _ _ hq
 | .exit id,Q,Q',σ,h,hc=>h _ _ hc
 | .ret,Q,Q',σ,h,hc=>h _ _ hc
 | .wk L x,Q,Q',σ,h,hc=>by
  simp only[aN]at hc ⊢;exact nz x h hc
 | .cv s k x,Q,Q',σ,h,hc=>by
  simp only[aN]at hc ⊢
  split at hc
  ·exact⟨hc.1,nz x h hc.2⟩
  ·exact hc
theorem QQn{Γ:aF}{nl:Nat}{L:List (Nat × Md)}{x:af}{Q:Qb}{s:cr}
  (h:aN Γ nl x (aY (λs'=>Ab (λR s=>aN Γ nl x (aY (λs'=>R (gc nl L s')) Q) s) (gc nl L s')) Q) s) :
  Ab (λR s=>aN Γ nl x (aY (λs'=>R (gc nl L s')) Q) s) s:=by
 intro J hJ;refine hJ s (nz x (λe s hq=>?_) h)
 cases e with
 | normal=>exact hq J hJ
 | exit id=>exact hq
 | ret=>exact hq
mutual
theorem QUJ(g:Option (Nat × Bool)):∀(x:bz)(i:Nat),(x.er g i).length=x.len
 | .op d o,i=>rfl
 | .bt s w ss d x,i=>by simp[bz.er,bz.len,w6 (some (s,w)) ss i]
 | .gw s w ss d2 o d x,i=>by simp[bz.er,bz.len,w6 (some (s,w)) ss i]
theorem w6(g:Option (Nat × Bool)):∀(ss:List bz)(i:Nat),(im g i ss).length=cV ss
 | [],i=>rfl
 | x::xs,i=>by simp[im,cV,QUJ g x i,w6 g xs (i+x.len)]
end
theorem QL3{P:Program}{N:Nat}{c:Code}{x y:eC}(h:comp P N c=some (.seq x y)):∃ c1 c2,c = .seq c1 c2/\comp P N c1=some x/\comp P N c2=some y:=by
 cases c with
 | seq c1 c2 =>
  simp only[comp]at h
  split at h
  ·rename_i h1 h2;cases h;exact⟨c1,c2,rfl,h1,h2⟩
  ·cases h
 | region id ops draw =>
  simp only[comp]at h
  split at h
  ·split at h
   ·split at h <;> cases h
   ·cases h
  ·cases h
 | cond a b c=>simp only[comp]at h;split at h <;> cases h
 | block id c=>simp only[comp,Option.map_eq_some_iff]at h;obtain⟨_,_,h⟩:=h;cases h
 | loop c=>simp only[comp,Option.map_eq_some_iff]at h;obtain⟨_,_,h⟩:=h;cases h
 | _=>simp[comp]at h
theorem QMU{P:Program}{N:Nat}{c:Code}{b:aW}{x y:eC}(h:comp P N c=some (.cond b x y)):∃ b0 c1 c2,c = .cond b0 c1 c2/\cO P 0 b0=some b/\comp P N c1=some x/\comp P N c2=some y:=by
 cases c with
 | cond b0 c1 c2 =>
  simp only[comp]at h
  split at h
  ·rename_i h0 h1 h2;cases h;exact⟨b0,c1,c2,rfl,h0,h1,h2⟩
  ·cases h
 | region id ops draw =>
  simp only[comp]at h
  split at h
  ·split at h
   ·split at h <;> cases h
   ·cases h
  ·cases h
 | seq a b=>simp only[comp]at h;split at h <;> cases h
 | block id c=>simp only[comp,Option.map_eq_some_iff]at h;obtain⟨_,_,h⟩:=h;cases h
 | loop c=>simp only[comp,Option.map_eq_some_iff]at h;obtain⟨_,_,h⟩:=h;cases h
 | _=>simp[comp]at h
theorem QKO{P:Program}{N:Nat}{c:Code}{id:Nat}{x:eC}(h:comp P N c=some (.block id x)):∃ c1,c = .block id c1/\comp P N c1=some x:=by
 cases c with
 | block b8 c1 =>
  simp only[comp,Option.map_eq_some_iff]at h;obtain⟨_,h1,h⟩:=h
  cases h;exact⟨c1,rfl,h1⟩
 | region id ops draw =>
  simp only[comp]at h
  split at h
  ·split at h
   ·split at h <;> cases h
   ·cases h
  ·cases h
 | seq a b=>simp only[comp]at h;split at h <;> cases h
 | cond a b c=>simp only[comp]at h;split at h <;> cases h
 | loop c=>simp only[comp,Option.map_eq_some_iff]at h;obtain⟨_,_,h⟩:=h;cases h
 | _=>simp[comp]at h
theorem QYJ{P:Program}{N:Nat}{c:Code}{x:eC}(h:comp P N c=some (.loop x)):∃ c1,c = .loop c1/\comp P N c1=some x:=by
 cases c with
 | loop c1 =>
  simp only[comp,Option.map_eq_some_iff]at h;obtain⟨_,h1,h⟩:=h
  cases h;exact⟨c1,rfl,h1⟩
 | region id ops draw =>
  simp only[comp]at h
  split at h
  ·split at h
   ·split at h <;> cases h
   ·cases h
  ·cases h
 | seq a b=>simp only[comp]at h;split at h <;> cases h
 | cond a b c=>simp only[comp]at h;split at h <;> cases h
 | block id c=>simp only[comp,Option.map_eq_some_iff]at h;obtain⟨_,_,h⟩:=h;cases h
 | _=>simp[comp]at h
def QJy(C:Ctx)(Qa:Qb)(Q:Exit->Act->World->Prop):Prop:=∀ e σ a w,Qa e σ->fa C σ.aA a w->Q e.up a w
theorem QVN{C:Ctx}{U:Nat->Prop}{σ:cr}{a:Act}{w:World}{ι:Io}(S:Sat C U σ.aA a w ι){x:Operand}{x':bD}{ty:TypeId}(hx:cO C.P ty x=some x'.er){b:Bool}(hv:x'.ev σ.T = .c .bool b):a.eval x = .bool b :=
 Ro S hx (by show x'.er.ev (λs=>(σ.T s).aA)=_;rw[Zv,hv];rfl)
section
variable {C:Ctx} {Γ:aF} {ΓA:eA} {nl:Nat}
structure Kept(C:Ctx)(nl:Nat):Prop where
 l:∀ i b,C.L i=some b->i<nl
 o:∀ i o,C.O i=some o->i<nl
 b:∀ i x cs,C.O i=some x->x.B≠.box cs
theorem Ae{σ:cr}{a:Act}{w:World}{L:List (Nat × Md)}(hL:Kept C nl)(S:fa C σ.aA a w):fa C (gc nl L σ).aA a w:=by
 obtain⟨ι,S⟩:=S;exact QHv S hL.l hL.o hL.b
theorem QHr{ts:List CT}{x:aR ts}{j:Nat}{t:CT}{d:t.den}(h:(aR.cells ts x)[j]? = some (.c t d)):(aV ts x)[j]? = some (enc t d):=by
 have h1:((aR.cells ts x).map TV.aO)[j]? = some (.c (enc t d)):=by rw[List.getElem?_map,h];rfl
 rw[oQ,List.getElem?_map,Option.map_eq_some_iff]at h1;obtain⟨y,h1,h2⟩:=h1
 cases h2;exact h1
theorem Sq{σ:cr}{U:Nat->Prop}{a:Act}{w:World}{ι:Io}{c y:TV}{p:Prop}{l:List (Nat × az)}{v:Value}(hr:Ac σ.H σ.nx c=some (p,y,l))(hp:p)(S:Sat C (λi=>σ.nx<=i) σ.aA a w ι)(hv:VR w (Fz C w ι σ.aA.h) ι σ.aA.h v c.aO) :
  ∃ ι',Sat C (λi=>σ.nx+1<=i) ⟨σ.aA.t,λx=>(dx (l++σ.h) x).aA,σ.nx⟩ a w ι'/\VR w (Fz C w ι' λx=>(dx (l++σ.h) x).aA) ι' (λx=>(dx (l++σ.h) x).aA) v y.aO/\
   (∀ b,Fz C w ι σ.aA.h b->Fz C w ι' (λx=>(dx (l++σ.h) x).aA) b)/\(∀ x,cZ w w ι ι' σ.aA.h (λx=>(dx (l++σ.h) x).aA) x)/\∀ id cs,σ.aA.h id = .box cs->(dx (l++σ.h) id).aA = .box cs:=by
 unfold Ac at hr
 split at hr <;> try cases hr
 rename_i b5 l' id g i j
 split at hr <;> try cases hr
 rename_i e jO g0 t es a8
 split at hr <;> try cases hr
 rename_i t1 ts l hg hc;have hg:=Nat.eq_of_beq_eq_true hg;subst hg;have nA:σ.aA.h id = .sl e jO.length (.dp g t []) (es.map (aV jO)):=by show(σ.H id).aA=_;rw[a8,az.bH]
 have dj:∃ bk cur e0,ι id=some bk/\w.heap[bk]? = some (.cells cur e0 (0,0))/\cur[ι.o id+i*jO.length+j]? = some v:=by
  simp only[TV.aO]at hv
  cases hv with
  | fo _ _ _ _ _ q1 q2=>rw[nA]at q2;cases q2
  | b _ _ _ _ _ e' sz m bP q1 q2 q3 q4 =>
   rw[nA]at q2;injection q2 with r1 r2 r3 r4;subst r2;subst r3;exact(q4 rfl).2 i j rfl
 have hx:(es.map (aV jO))[i]? = some (aV jO (gt jO es i)):=by
  rw[List.getElem?_map,List.getElem?_eq_getElem hp];simp[gt,List.getD,List.getElem?_eq_getElem hp]
 have mT:=QHr hc;simp only[enc]at mT;obtain⟨ft,_⟩:=S.fresh σ.nx (Nat.le_refl _);obtain⟨ι',S',kJ,_,_,hF,iY⟩:=S.cK (U':=λi=>σ.nx+1<=i) (n:=σ.nx) nA hx mT (by simp) (Nat.le_refl _) (λi hi=>⟨Nat.le_of_succ_le hi,λh=>by subst h;exact absurd hi (Nat.not_succ_le_self _)⟩) dj;have hh:(λx=>(dx ([(id,az.sl e jO (.dp (g+1) t [(i,j)]) es),(σ.nx,.sl 0 (t1::ts) (.dp 0 false []) l)]++σ.h) x).aA) =
   bI (bI σ.aA.h σ.nx (.sl 0 (t1::ts).length (.dp 0 false []) (l.map (aV (t1::ts))))) id (.sl e jO.length (.dp (g+1) t [(i,j)]) (es.map (aV jO))):=by
  funext x
  simp only[List.cons_append,List.nil_append,qX,bI]
  split
  ·rw[az.bH]
  ·split
   ·rw[az.bH]
   ·rfl
 rw[hh];refine⟨ι',S',?_,hF,iY,λb8 cs hb=>?_⟩
 ·simp only[TV.aO];rw[List.length_map]at kJ;exact kJ
 ·rw[congrFun hh b8];have h1:b8≠id:=λh=>by subst h;rw[nA]at hb;cases hb
  have h2:b8≠σ.nx:=λh=>by subst h;rw[ft]at hb;cases hb
  rw[QI _ _ _ _ h1,QI _ _ _ _ h2,hb]
theorem Sat.re{U:Nat->Prop}{σ:St}{a:Act}{w:World}{ι:Io}(S:Sat C U σ a w ι){id:Nat}{cs cs':List AV}(a8:σ.h id = .box cs)(hl:cs'.length=cs.length)
  (hy:∀(b:Nat)(e:TypeId)(bj:Array Value)(k:Nat)(v:Value)(y:AV),ι id=some b->w.heap[b]? = some (.cells bj e (0,0))->bj[k]? = some v->cs'[k]? = some y->VR w (Fz C w ι σ.h) ι σ.h v y) :
  Sat C U ⟨σ.t,bI σ.h id (.box cs'),σ.nx⟩ a w ι:=by
 have bU:∀ i,Rest w w ι ι i:=λi=>⟨rfl,rfl,λ_ _=>rfl,λb p hk=>⟨hk,rfl⟩⟩
 have hF:∀ b,Fz C w ι σ.h b->Fz C w ι (bI σ.h id (.box cs')) b/\w.heap[b]? = w.heap[b]?:=λb ⟨h1,h2,h3,h4⟩=>⟨⟨h1,h2,λi hi=>by
  by_cases h:i=id
  ·subst h;have:=h3 i hi;rw[a8]at this
   cases this
  ·rw[QI _ _ _ _ h];exact h3 i hi,h4⟩,rfl⟩
 have hg:∀ i,cZ w w ι ι σ.h (bI σ.h id (.box cs')) i:=λi=>by
  by_cases h:i=id
  ·subst h;unfold cZ;right;right;rw[QN,a8];exact⟨rfl,rfl,hl,λ_ _=>rfl,λg h1=>by cases h1⟩
  ·exact(bU i).gE (QI _ _ _ _ h)
 refine S.ej S.dE hF hg (λi fZ hx=>?_) (λi=>?_) S.inj (λi b hi=>?_) (λi hi=>?_) (λi b hi=>?_) (λb i p hk=>?_)
 ·by_cases h:i=id
  ·subst h;rw[QN];simp
  ·rw[QI _ _ _ _ h,hx];simp
 ·by_cases h:i=id
  ·subst h;right;rw[QN];have hb:=S.fi i;rw[a8]at hb
   cases hb with
   | box b e bj _ q1 qo q2 q3 q4 q5 =>
    exact .box b e bj _ q1 qo q2 (q3.trans hl.symm) q4 (λk v y hk vi=>(hy b e bj k v y q1 q2 hk vi).mono hF hg)
  ·exact .inl ⟨QI _ _ _ _ h,bU i⟩
 ·obtain⟨h1,h2⟩:=S.eh i b hi;refine⟨h1.imp (λx=>x) λ⟨h3,fZ,h4⟩=>⟨h3,?_⟩,h2⟩;by_cases h:i=id
  ·subst h;rw[QN];exact⟨_,rfl⟩
  ·rw[QI _ _ _ _ h];exact⟨fZ,h4⟩
 ·obtain⟨h1,h2⟩:=S.fresh i hi;have:i≠id:=λe=>by subst e;rw[a8]at h1;cases h1
  rw[QI _ _ _ _ this];exact⟨h1,h2⟩
 ·by_cases h:i=id
  ·subst h;rw[QN];simp
  ·rw[QI _ _ _ _ h];exact S.live i b hi
 ·have L:=S.dg b i p hk;refine⟨L.pn,?_,L.fr,L.lt,L.ne⟩;obtain⟨e,sz,g,t,H,es,hd⟩:=L.dp;have:i≠id:=λe=>by subst e;rw[a8]at hd;cases hd
  rw[QI _ _ _ _ this];exact⟨e,sz,g,t,H,es,hd⟩
theorem QRt{σ:cr}{a:Act}{w:World}{s k:Nat}{r:Prop × cr}(hr:FV s k σ=some r)(hp:r.1)(S:fa C σ.aA a w):fa C r.2.aA a w:=by
 obtain⟨ι,S⟩:=S;unfold FV at hr
 split at hr
 ·rename_i cs hs
  split at hr <;> try cases hr
  rename_i c hk
  split at hr <;> try cases hr
  rename_i p y l hc;have hp:p:=hp;have hv:=S.bj s;have hsA:σ.aA.t s = .a (cs.map TV.aO):=by show(σ.T s).aA=_;rw[hs];rfl
  rw[hsA]at hv;generalize gO:a.tmps.getD s undef=val at hv
  cases hv with
  | a vs _ hl h1 hv =>
   have aU:k<cs.length:=(List.getElem?_eq_some_iff.1 hk).1;have FW:k<vs.size:=by rw[hl,List.length_map];exact aU
   have p9:vs[k]? = some vs[k]:=by simp[FW]
   have hb:=hv k vs[k] c.aO p9 (by rw[List.getElem?_map,hk];rfl);obtain⟨ι',S',kJ,hF,iY,_⟩:=Sq (U:=λ_=>True) hc hp S hb;refine⟨ι',S'.dE,λs'=>?_,S'.size,S'.defers,S'.fi,S'.inj,S'.eh,S'.fresh,S'.live,S'.b9,S'.hand,S'.dg⟩;show VR _ _ _ _ _ (cH ((s,.a (cs.set k y))::σ.t) s').aA;rw[Y4];by_cases Sr:s'=s
   ·subst Sr;rw[QN,gO];refine .a vs _ (by simp only[List.length_map,List.length_set];simpa using hl) h1 (λk' v z ez hz=>?_);rw[List.getElem?_map,List.getElem?_set]at hz;by_cases fk:k=k'
    ·subst fk;rw[if_pos rfl,if_pos aU]at hz;rw[p9]at ez
     cases ez;cases hz;exact kJ
    ·rw[if_neg fk,<- List.getElem?_map]at hz;exact(hv k' v z ez hz).mono (λb hb=>⟨hF b hb,rfl⟩) iY
   ·rw[QI _ _ _ _ Sr];exact S'.bj s'
 ·rename_i ka hs
  split at hr <;> try cases hr
  rename_i cs hb
  split at hr <;> try cases hr
  rename_i c hk
  split at hr <;> try cases hr
  rename_i p y l hc;have hp:p:=hp;have FX:σ.aA.h ka = .box (cs.map TV.aO):=by show(σ.H ka).aA=_;rw[hb];rfl
  have aU:k<cs.length:=(List.getElem?_eq_some_iff.1 hk).1;have hB:=S.fi ka;rw[FX]at hB
  cases hB with
  | box b e bj _ q1 qo q2 q3 q4 q5 =>
   have FW:k<bj.size:=by rw[q3,List.length_map];exact aU
   have p9:bj[k]? = some bj[k]:=by simp[FW]
   have hbv:=q5 k bj[k] c.aO p9 (by rw[List.getElem?_map,hk];rfl);obtain⟨ι',S',kJ,hF,iY,FY⟩:=Sq (U:=λ_=>True) hc hp S hbv;have fy:=FY ka _ FX;have Af:=S'.fi ka;have Af:BR w (Fz C w ι' λx=>(dx (l++σ.h) x).aA) ι' (λx=>(dx (l++σ.h) x).aA) ka ((dx (l++σ.h) ka).aA):=Af;rw[fy]at Af;have S2:=Sat.re S' (id:=ka) (cs:=cs.map TV.aO) (cs':=(cs.set k y).map TV.aO) fy (by simp) (λb' e' Ss k' v z hi dY rf hz=>by
    cases Af with
    | box b2 e2 Su _ r1 ro r2 r3 r4 r5 =>
     rw[r1]at hi;cases hi;rw[r2]at dY;cases dY;rw[List.getElem?_map,List.getElem?_set]at hz;by_cases fk:k=k'
     ·subst fk;rw[if_pos rfl,if_pos aU]at hz
      cases hz;have cR:v=bj[k]:=by
       rcases iY ka with g | g | ⟨g1,_,_,_,_⟩
       ·rw[FX]at g;cases g
       ·have g:(dx (l++σ.h) ka).aA = .dead:=g;rw[fy]at g;cases g
       ·rw[r1,q1]at g1
        cases g1;rw[q2]at r2
        cases r2;rw[p9]at rf;exact(Option.some.inj rf).symm
      rw[cR];exact kJ
     ·rw[if_neg fk,<- List.getElem?_map]at hz;exact r5 k' v z rf hz)
   have FZ:(λx=>(dx ((ka,az.box (cs.set k y))::(l++σ.h)) x).aA)=bI (λx=>(dx (l++σ.h) x).aA) ka (.box ((cs.set k y).map TV.aO)):=by
    funext x
    simp only[qX,bI]
    split
    ·rfl
    ·rfl
   refine⟨ι',?_⟩;have:(cr.aA ⟨σ.t,(ka,.box (cs.set k y))::(l++σ.h),σ.nx+1⟩)=⟨σ.aA.t,bI (λx=>(dx (l++σ.h) x).aA) ka (.box ((cs.set k y).map TV.aO)),σ.nx+1⟩:=by
    rw[<- FZ];rfl
   rw[this];exact S2.nx
 ·cases hr
theorem QFW(hm:C.P.follows .mixedOrders=true)(hT:iH Γ ΓA)(hΓ:JP C.P ΓA)(hL:Kept C nl):∀(tc:af)(c:Code)(Qa:Qb)(Q:Exit->Act->World->Prop)(σ:cr)(a:Act)(w:World),comp C.P C.N c=some tc.er->
  aN Γ nl tc Qa σ->fa C σ.aA a w->QJy C Qa Q->c.wp C.P Q a w:=by
 intro tc
 induction tc with
 | skip =>
  intro c Qa Q σ a w hc h S hQ;refine wh hm hΓ c .skip (λe τ=>e = .normal/\τ=σ.aA) Q σ.aA a w hc ⟨rfl,rfl⟩ S ?_;rintro e τ a' w' ⟨rfl,rfl⟩ S'
  exact hQ .normal σ a' w' h S'
 | ae ss =>
  intro c Qa Q σ a w hc h S hQ;simp only[aN]at h
  split at h
  rotate_left
  ·exact h.elim
  rename_i p σ' l hr;rw[Ad]at h;obtain⟨l',h1,_⟩:=wW hT ss hr h.1;have hlen:(im none 0 ss).length=cV ss:=w6 none ss 0;refine wh hm hΓ c _ (λe τ=>e = .normal/\τ=(σ'.fW (16*cV ss)).aA) Q σ.aA a w hc ?_ S ?_
  ·show gH ΓA (im none 0 ss) (λs=>mg.normal=mg.normal/\s.fW (16*(im none 0 ss).length)=_) σ.aA;exact Sg _ h1 ⟨rfl,by rw[hlen];rfl⟩
  ·rintro e τ a' w' ⟨rfl,rfl⟩ S'
   exact hQ .normal _ a' w' h.2 S'
 | draw ss U =>
  intro c Qa Q σ a w hc h S hQ;simp only[aN]at h
  split at h
  rotate_left
  ·exact h.elim
  rename_i p σ' l hr
  split at h
  rotate_left
  ·exact h.elim
  rename_i fm;rw[Ad]at h;obtain⟨l',h1,h2⟩:=wW hT ss hr h.1;have hlen:(im none 0 ss).length=cV ss:=w6 none ss 0;refine wh hm hΓ c _ (λe τ=>e = .normal/\τ=(σ'.fW (16*cV ss)).aA) Q σ.aA a w hc ?_ S ?_
  ·simp only[af.er,kq,h1];exact⟨QNE h2 fm,trivial,by rw[hlen];rfl⟩
  ·rintro e τ a' w' ⟨rfl,rfl⟩ S'
   exact hQ .normal _ a' w' h.2 S'
 | seq x y wi qI =>
  intro c Qa Q σ a w hc h S hQ;simp only[af.er]at hc;obtain⟨c1,c2,rfl,h1,h2⟩:=QL3 hc;simp only[aN]at h;refine wp_seq (wi _ _ _ σ a w h1 h S ?_);intro e σ' a' w' he S'
  cases e with
  | normal=>exact qI _ _ _ σ' a' w' h2 he S' hQ
  | exit id=>exact hQ _ _ _ _ he S'
  | ret=>exact hQ _ _ _ _ he S'
 | cond b x y wi qI =>
  intro c Qa Q σ a w hc h S hQ;simp only[af.er]at hc;obtain⟨b0,c1,c2,rfl,h0,h1,h2⟩:=QMU hc;simp only[aN]at h
  split at h
  rotate_left
  ·exact h.elim
  rename_i t ht;obtain⟨ι,S0⟩:=S;exact wp_cond_split (QVN S0 h0 ht) (λe=>wi _ _ _ σ a w h1 (h.1 e) ⟨ι,S0⟩ hQ) (λe=>qI _ _ _ σ a w h2 (h.2 e) ⟨ι,S0⟩ hQ)
 | block id x ih =>
  intro c Qa Q σ a w hc h S hQ;simp only[af.er]at hc;obtain⟨c1,rfl,h1⟩:=QKO hc;simp only[aN]at h;refine wp_block (ih _ _ _ σ a w h1 h S ?_);intro e σ' a' w' he S'
  cases e with
  | normal=>exact hQ _ _ _ _ he S'
  | ret=>exact hQ _ _ _ _ he S'
  | exit b8 =>
   simp only[a6]at he;show Exit.inBlock id Q (.exit b8) a' w';simp only[Exit.inBlock]
   split
   ·rename_i heq;subst heq;rw[show Nat.beq b8 b8=true by simp]at he;exact hQ .normal _ _ _ he S'
   ·rename_i heq;rw[FJ heq]at he;exact hQ (.exit b8) _ _ _ he S'
 | loop L x ih =>
  intro c Qa Q σ a w hc h S hQ;simp only[af.er]at hc;obtain⟨c1,rfl,h1⟩:=QYJ hc;simp only[aN]at h;have key:=h (λs=>∀ a w,fa C s.aA a w->∀(b:Frame)(k:List Item)(cs:List Frame),∃ e a' w',Q e a' w'/\Arrives C.P (lone (b.at a (.code c1::.inLoop c1::k)) cs w) b k cs e a' w') ?_
  ·intro b k cs;obtain⟨e,a',w',hq,jf⟩:=key a w (Ae hL S) b k cs;exact⟨e,a',w',hq,.of_steps (.one step_loop) jf⟩
  ·intro s hs a w S b k cs;have hb:=ih c1 _ (Exit.then (λa w=>∀(b:Frame)(k:List Item)(cs:List Frame),∃ e a' w',Q e a' w'/\Arrives C.P (lone (b.at a (.code c1::.inLoop c1::k)) cs w) b k cs e a' w') Q) s a w h1 hs S ?_
   ·obtain⟨e,a₁,w₁,hq,jf⟩:=hb b (.inLoop c1::k) cs
    cases e with
    | normal =>
     obtain⟨e₂,a₂,w₂,hq₂,harr₂⟩:=hq b k cs;exact⟨e₂,a₂,w₂,hq₂,.of_steps (Steps.trans jf (.one step_inLoop)) harr₂⟩
    | exit id=>exact⟨_,a₁,w₁,hq,.pass (x:=.inLoop c1) rfl (λ_ _=>.inl (by simp)) jf⟩
    | goto l=>exact⟨_,a₁,w₁,hq,.pass (x:=.inLoop c1) rfl (λ_ _=>.inl (by simp)) jf⟩
    | ret=>exact⟨_,a₁,w₁,hq,.pass (x:=.inLoop c1) rfl (λ_ _=>.inl (by simp)) jf⟩
    | panic ch=>exact⟨_,a₁,w₁,hq,.pass (x:=.inLoop c1) rfl (λ_ _=>.inl (by simp)) jf⟩
    | outgrown=>exact⟨_,a₁,w₁,hq,.pass (x:=.inLoop c1) rfl (λ_ _=>.inl (by simp)) jf⟩
   ·intro e σ' a' w' he S'
    cases e with
    | normal=>exact he a' w' (Ae hL S')
    | exit id=>exact hQ _ _ _ _ he S'
    | ret=>exact hQ _ _ _ _ he S'
 | exit id =>
  intro c Qa Q σ a w hc h S hQ;refine wh hm hΓ c (.exit id) (λe τ=>e = .exit id/\τ=σ.aA) Q σ.aA a w hc ⟨rfl,rfl⟩ S ?_;rintro e τ a' w' ⟨rfl,rfl⟩ S'
  exact hQ (.exit id) σ a' w' h S'
 | ret =>
  intro c Qa Q σ a w hc h S hQ;refine wh hm hΓ c .ret (λe τ=>e = .ret/\τ=σ.aA) Q σ.aA a w hc ⟨rfl,rfl⟩ S ?_;rintro e τ a' w' ⟨rfl,rfl⟩ S'
  exact hQ .ret σ a' w' h S'
 | wk L x ih =>
  intro c Qa Q σ a w hc h S hQ;exact ih c Qa Q _ a w hc h (Ae hL S) hQ
 | cv s k x ih =>
  intro c Qa Q σ a w hc h S hQ;simp only[aN]at h
  split at h
  ·rename_i r hr;exact ih c Qa Q _ a w hc h.2 (QRt hr h.1 S) hQ
  ·exact h.elim
end
end Go.Proofs.YtdplaepmjogjjaaGreat.Am
namespace Go.Proofs.YtdplaepmjogjjaaGreat.Am
open Go Go.RowKit
mutual
theorem Ag:∀(t:CT)(x y:t.den),enc t x=enc t y->x=y
 | .int k,x,y,h=>by injection h with h;injection h
 | .bool,x,y,h=>by injection h with h;injection h
 | .str,x,y,h=>by injection h with h;injection h
 | .dG,x,y,h=>rfl
 | .sl ts,x,y,h=>by
  rw[enc,enc]at h
  injection h with _ h
  exact w7 (λa b=>w8 ts a b) x y h
theorem w8:∀(ts:List CT)(x y:aR ts),aV ts x=aV ts y->x=y
 | [],x,y,_=>rfl
 | t::ts,x,y,h=>by
  rw[aV,aV]at h
  injection h with h1 h2
  have h1:=Ag t _ _ h1
  have h2:=w8 ts _ _ h2
  cases ts with
  | nil=>exact h1
  | cons u us=>exact Prod.ext h1 h2
theorem w7{α β:Type}{f:α->β}(hf:∀ a b,f a=f b->a=b):∀(x y:List α),x.map f=y.map f->x=y
 | [],[],_=>rfl
 | a::x,b::y,h=>by
  rw[List.map_cons,List.map_cons]at h
  injection h with h1 h2
  rw[hf a b h1,w7 hf x y h2]
 | [],b::y,h=>by simp at h
 | a::x,[],h=>by simp at h
end
theorem F1:∀ {ts:List CT} {xs ys:List TV},oM xs=some ts->oM ys=some ts->xs.map TV.aO=ys.map TV.aO->xs=ys
 | ts,[],ys,h1,h2,h=>by
  cases ys with
  | nil=>rfl
  | cons y ys=>simp at h
 | ts,x::xs,ys,h1,h2,h=>by
  cases ys with
  | nil=>simp at h
  | cons y ys =>
   cases x with
   | c t x =>
    cases y with
    | c t' y =>
     simp only[oM]at h1 h2
     split at h1
     rotate_left
     ·cases h1
     rename_i t1 e1
     split at h2
     rotate_left
     ·cases h2
     rename_i t2 e2
     cases h1
     cases h2;rw[List.map_cons,List.map_cons]at h;injection h with h3 h4;rw[F1 e1 e2 h4];simp only[TV.aO]at h3;injection h3 with h3;rw[Ag t x y h3]
    | _=>simp[oM]at h2
   | _=>simp[oM]at h1
theorem Ah{m:Mo}(h:kE m=true):m=dw:=by
 unfold kE at h
 split at h
 ·rfl
 ·cases h
theorem Sv{e:TypeId}{ts:List CT}{x:TV}(hx:(Sh.o e ts).fits x=true):∃ es,x = .ow e ts .ow es:=by
 cases x with
 | ow e' b5 m es =>
  cases m with
  | ow =>
   simp only[Sh.fits,Bool.and_eq_true]at hx;obtain rfl:=Nat.eq_of_beq_eq_true hx.1;obtain rfl:=CT.bS _ _ hx.2;exact⟨es,rfl⟩
  | _=>simp[Sh.fits]at hx
 | _=>simp[Sh.fits]at hx
theorem Sw{ts:List CT}{x:TV}(hx:(Sh.d ts).fits x=true):∃ es,x = .ow 0 ts dw es:=by
 cases x with
 | ow e' b5 m es =>
  simp only[Sh.fits,Bool.and_eq_true]at hx;obtain rfl:=Nat.eq_of_beq_eq_true hx.1.1;obtain rfl:=CT.bS _ _ hx.1.2;obtain rfl:=Ah hx.2;exact⟨es,rfl⟩
 | _=>simp[Sh.fits]at hx
theorem Sx{t:CT}{ts:List CT}{x:TV}{xs:List TV}(h:Jy (t::ts) (x::xs)=true):((∃ d,x = .c t d)\/∃ us es,t = .sl us/\x = .ow 0 us dw es)/\Jy ts xs=true:=by
 simp only[Jy,Bool.and_eq_true]at h;refine⟨?_,h.2⟩;have h:=h.1
 cases x with
 | c t' d =>
  simp only[Bool.and_eq_true]at h;obtain rfl:=CT.beq_eq _ _ h.1;exact .inl ⟨d,rfl⟩
 | ow e' us m es =>
  simp only[Bool.and_eq_true]at h;obtain rfl:=Nat.eq_of_beq_eq_true h.1.1;have:=CT.beq_eq _ _ h.1.2;obtain rfl:=Ah h.2;exact .inr ⟨us,es,this.symm,rfl⟩
 | _=>cases h
theorem Sy:∀ {ts:List CT} {xs ys:List TV},Jy ts xs=true->Jy ts ys=true->xs.map TV.aO=ys.map TV.aO->xs=ys
 | [],[],[],_,_,_=>rfl
 | [],_::_,_,h,_,_=>by simp[Jy]at h
 | [],[],_::_,_,h,_=>by simp[Jy]at h
 | _::_,[],_,h,_,_=>by simp[Jy]at h
 | _::_,_::_,[],_,h,_=>by simp[Jy]at h
 | t::ts,x::xs,y::ys,h1,h2,h=>by
  obtain⟨a1,b1⟩:=Sx h1;obtain⟨a2,b2⟩:=Sx h2;rw[List.map_cons,List.map_cons]at h;injection h with h3 h4;rw[Sy b1 b2 h4];congr 1
  rcases a1 with⟨d,rfl⟩ | ⟨us,es,rfl,rfl⟩
  ·rcases a2 with⟨d',rfl⟩ | ⟨us,es,rfl,rfl⟩
   ·simp only[TV.aO]at h3;injection h3 with h3;rw[Ag t d d' h3]
   ·cases h3
  ·rcases a2 with⟨d',rfl⟩ | ⟨us',bP,q,rfl⟩
   ·cases h3
   ·injection q with q;subst q;simp only[TV.aO]at h3;injection h3 with _ _ _ h3;rw[w7 (λa b=>w8 us a b) _ _ h3]
theorem QSG{s:Sh}{x y:TV}(hx:s.fits x=true)(hy:s.fits y=true)(h:x.aA=y.aA):x=y:=by
 cases s with
 | c t =>
  cases x with
  | c t1 x =>
   cases y with
   | c t2 y =>
    simp only[Sh.fits]at hx hy;have h1:=CT.beq_eq _ _ hx;have h2:=CT.beq_eq _ _ hy;subst h1;subst h2;simp only[TV.aA,TV.cl,TV.aO]at h;injection h with h;rw[Ag _ x y h]
   | _=>simp[Sh.fits]at hy
  | _=>simp[Sh.fits]at hx
 | o e ts =>
  obtain⟨xs,rfl⟩:=Sv hx;obtain⟨ys,rfl⟩:=Sv hy;simp only[TV.aA,TV.cl,TV.aO]at h;injection h with _ _ _ h;rw[w7 (λa b=>w8 ts a b) _ _ h]
 | d ts =>
  obtain⟨xs,rfl⟩:=Sw hx;obtain⟨ys,rfl⟩:=Sw hy;simp only[TV.aA,TV.cl,TV.aO]at h;injection h with _ _ _ h;rw[w7 (λa b=>w8 ts a b) _ _ h]
 | s ts =>
  cases x with
  | a xs =>
   cases y with
   | a ys =>
    simp only[Sh.fits]at hx hy;simp only[TV.aA,TV.cl]at h;injection h with h;rw[Sy hx hy h]
   | _=>simp[Sh.fits]at hy
  | _=>simp[Sh.fits]at hx
 | a ts =>
  cases x with
  | a xs =>
   cases y with
   | a ys =>
    simp only[Sh.fits]at hx hy
    split at hx
    rotate_left
    ·cases hx
    rename_i t1 e1
    split at hy
    rotate_left
    ·cases hy
    rename_i t2 e2;have h1:=CT.bS _ _ hx;have h2:=CT.bS _ _ hy;subst h1;subst h2;simp only[TV.aA,TV.cl]at h;injection h with h;rw[F1 e1 e2 h]
   | _=>simp[Sh.fits]at hy
  | _=>simp[Sh.fits]at hx
 | b ts =>
  cases x with
  | bx xs =>
   cases y with
   | bx ys =>
    simp only[Sh.fits]at hx hy
    split at hx
    rotate_left
    ·cases hx
    rename_i t1 e1
    split at hy
    rotate_left
    ·cases hy
    rename_i t2 e2;have h1:=CT.bS _ _ hx;have h2:=CT.bS _ _ hy;subst h1;subst h2;simp only[TV.aA]at h;injection h with h;rw[F1 e1 e2 h]
   | _=>simp[Sh.fits]at hy
  | _=>simp[Sh.fits]at hx
theorem SB:∀ {ss:List Sh} {xs ys:List TV},ZU ss xs=true->ZU ss ys=true->xs.map TV.aA=ys.map TV.aA->xs=ys
 | [],[],[],_,_,_=>rfl
 | [],_::_,_,h,_,_=>by simp[ZU]at h
 | [],[],_::_,_,h,_=>by simp[ZU]at h
 | _::_,[],_,h,_,_=>by simp[ZU]at h
 | _::_,_::_,[],_,h,_=>by simp[ZU]at h
 | s::ss,x::xs,y::ys,h1,h2,h=>by
  simp only[ZU,Bool.and_eq_true]at h1 h2;rw[List.map_cons,List.map_cons]at h;injection h with h3 h4;rw[QSG h1.1 h2.1 h3,SB h1.2 h2.2 h4]
def aK(P:Program)(f:FuncId)(xs:List TV)(r:aB):Prop:=qp P f (xs.map TV.aA) r.aA
def Qf(P:Program)(row:aI):Prop:=∀ vs pre r,ZU row.sg vs=true->row.fn vs=some (pre,r)->holds pre->aK P row.f vs r
def gR(P:Program)(Γ:List aI):Prop:=∀ row,row∈Γ->Qf P row
def w9(P:Program)(Γ:aF):Prop:=gR P Γ.rows
theorem gR.nil{P:Program}:gR P []:=λ_ h=>by cases h
theorem gR.cons{P:Program}{row:aI}{Γ:List aI}(h:Qf P row)(hs:gR P Γ):gR P (row::Γ):=λr hr=>by
 rcases List.mem_cons.1 hr with rfl | hr
 ·exact h
 ·exact hs r hr
theorem SC:∀ {Γ:List aI} {f:FuncId} {row:aI},Jm Γ f=some row->row∈Γ/\row.f=f
 | [],f,row,h=>by simp[Jm]at h
 | r::rs,f,row,h=>by
  simp only[Jm]at h
  cases hb:Nat.beq r.f f with
  | true =>
   rw[hb]at h;simp only[cond_true,Option.some.injEq]at h;subst h;exact⟨List.mem_cons_self,Nat.eq_of_beq_eq_true hb⟩
  | false =>
   rw[hb]at h;have:=SC (Γ:=rs) h;exact⟨List.mem_cons_of_mem _ this.1,this.2⟩
open Classical in
noncomputable def jg(Γ:aF):eA:=⟨λf=>match Jm Γ.rows f with | some row=>gu row.sg | none=>[],λf args =>
 if h:∃ r:aB,∃ row vs pre,Jm Γ.rows f=some row/\ZU row.sg vs=true/\row.fn vs=some (pre,r)/\holds pre/\vs.map TV.aA=args then some h.choose.aA else none,Γ.dp⟩
theorem QM8(Γ:aF):iH Γ (jg Γ):=by
 refine⟨λf row h=>by simp only[jg,h],?_,rfl⟩;intro f row vs pre r h1 h2 h3 h4;have hex:∃ r:aB,∃ row tx pre,Jm Γ.rows f=some row/\ZU row.sg tx=true/\row.fn tx=some (pre,r)/\holds pre/\tx.map TV.aA=vs.map TV.aA:=⟨r,row,vs,pre,h1,h2,h3,h4,rfl⟩
 simp only[jg];rw[dif_pos hex];obtain⟨akQ,tx,akR,g1,g2,g3,g4,g5⟩:=hex.choose_spec;rw[h1]at g1
 cases g1;have:=SB g2 h2 g5;subst this;rw[h3]at g3;injection g3 with g3;injection g3 with _ g3;rw[<- g3]
theorem QWj{P:Program}{Γ:aF}(h:w9 P Γ):JP P (jg Γ):=by
 intro f args r hr;simp only[jg]at hr
 split at hr
 rotate_left
 ·cases hr
 rename_i hex
 cases hr;obtain⟨row,vs,pre,g1,g2,g3,g4,g5⟩:=hex.choose_spec;obtain⟨m1,m2⟩:=SC g1;have:=h row m1 vs pre _ g2 g3 g4;unfold aK at this;rw[m2,g5]at this;exact this
def rh:List TV->Nat->List TV
 | [],_=>[]
 | .ow _ ts _ es::r,m=>.r ts m 0 es.length::rh r (m+1)
 | x::r,m=>x::rh r m
def tN:List TV->Nat->List (Nat × az)
 | [],_=>[]
 | .ow e ts m es::r,k=>(k,.sl e ts m es)::tN r (k+1)
 | _::r,k=>tN r k
def jh:List TV->Nat
 | []=>0
 | .ow _ _ _ _::r=>jh r+1
 | _::r=>jh r
def nB:List TV->Nat->Nat->Nat->List (Nat × TV)
 | [],_,_,_=>[]
 | .bx _::r,s,k,m=>(s,.p k 0 0)::nB r (s+1) (k+1) m
 | .ow _ ts _ es::r,s,k,m=>(s,.r ts m 0 es.length)::nB r (s+1) k (m+1)
 | .a cs::r,s,k,m=>(s,.a (rh cs m))::nB r (s+1) k (m+jh cs)
 | x::r,s,k,m=>(s,x)::nB r (s+1) k m
def ri:List TV->Nat->List (Nat × az)
 | [],_=>[]
 | .bx cs::r,k=>(k,.box cs)::ri r (k+1)
 | _::r,k=>ri r k
def nC:List TV->Nat->List (Nat × az)
 | [],_=>[]
 | .ow e ts m es::r,k=>(k,.sl e ts m es)::nC r (k+1)
 | .a cs::r,k=>tN cs k++nC r (k+jh cs)
 | _::r,k=>nC r k
def ea:List TV->Nat
 | []=>0
 | .bx _::r=>ea r+1
 | _::r=>ea r
def eF:List TV->Nat
 | []=>0
 | .ow _ _ _ _::r=>eF r+1
 | .a cs::r=>eF r+jh cs
 | _::r=>eF r
def rj(xs:List TV):cr:=⟨nB xs 0 0 (ea xs),ri xs 0++nC xs (ea xs),ea xs+eF xs⟩
theorem xa:∀(cs:List TV),jh cs=(Z2 (cs.map TV.aO)).length
 | []=>rfl
 | x::cs=>by cases x <;> simp only[jh,List.map_cons,TV.aO,Z2,List.length_cons,xa cs]
theorem F2:∀(cs:List TV)(m:Nat),(rh cs m).map TV.aO=fI (cs.map TV.aO) m
 | [],_=>rfl
 | x::cs,m=>by
  cases x with
  | ow e ts mm es=>simp only[rh,List.map_cons,TV.aO,fI,List.length_map,F2 cs]
  | _=>simp only[rh,List.map_cons,TV.aO,fI,F2 cs]
theorem F3:∀(cs:List TV)(B:List (Nat × az))(k j:Nat),(dx (tN cs k++B) j).aA=if k<=j then(match(Z2 (cs.map TV.aO))[j-k]? with | some b=>b | none=>(dx B j).aA) else(dx B j).aA
 | [],B,k,j=>by simp[tN,Z2]
 | x::cs,B,k,j=>by
  cases x with
  | ow e ts m es =>
   simp only[tN,List.cons_append,qX,bI,List.map_cons,TV.aO,Z2];by_cases h:j=k
   ·subst h;simp[az.aA]
   ·rw[if_neg h,F3 cs B (k+1) j];by_cases h2:k<=j
    ·rw[if_pos h2,if_pos (by omega),show j-k=(j-(k+1))+1 by omega];simp
    ·rw[if_neg h2,if_neg (by omega)]
  | _=>exact F3 cs B k j
def TV.ng:TV->Bool
 | .g _ _=>false
 | _=>true
theorem SD:∀(xs:List TV)(s k m j:Nat),xs.all TV.ng=true->(cH (nB xs s k m) j).aA=if s<=j then((dK (xs.map TV.aA) k m)[j-s]?).getD .u else .u
 | [],s,k,m,j,_=>by simp[nB,cH,dK,TV.aA,TV.cl,TV.aO]
 | x::xs,s,k,m,j,cI=>by
  rw[List.all_cons,Bool.and_eq_true]at cI;have key:∀(y:TV)(k' m':Nat)(z:AV),y.aA=z->(cH ((s,y)::nB xs (s+1) k' m') j).aA=if s<=j then((z::dK (xs.map TV.aA) k' m')[j-s]?).getD .u else .u:=by
   intro y k' m' z hz;rw[Y4,bI];by_cases h:j=s
   ·subst h;simp[hz]
   ·rw[if_neg h,SD xs (s+1) k' m' j cI.2];by_cases h2:s<=j
    ·rw[if_pos h2,if_pos (by omega),show j-s=(j-(s+1))+1 by omega];simp
    ·rw[if_neg h2,if_neg (by omega)]
  cases x with
  | bx cs=>exact key (.p k 0 0) (k+1) m (.p k 0 0) rfl
  | ow e ts mm es =>
   have:=key (.r ts m 0 es.length) k (m+1) (.r ts.length m 0 (es.map (aV ts)).length) (by simp[TV.aA,TV.cl,TV.aO]);exact this
  | a cs =>
   have:=key (.a (rh cs m)) k (m+jh cs) (.a (fI (cs.map TV.aO) m)) (by simp only[TV.aA,TV.cl,F2]);rw[xa]at this;simp only[nB,xa];exact this
  | g b v=>exact absurd cI.1 (by simp[TV.ng])
  | _=>exact key _ k m _ rfl
theorem F4:∀(xs:List TV)(B:List (Nat × az))(k j:Nat),xs.all TV.ng=true->(dx (ri xs k++B) j).aA=if k<=j then(match(cL (xs.map TV.aA))[j-k]? with | some cs=>.box cs | none=>(dx B j).aA) else(dx B j).aA
 | [],B,k,j,_=>by simp[ri,cL]
 | x::xs,B,k,j,cI=>by
  rw[List.all_cons,Bool.and_eq_true]at cI
  cases x with
  | bx cs =>
   simp only[ri,List.cons_append,qX,bI,List.map_cons,cL,TV.aA];by_cases h:j=k
   ·subst h;simp[az.aA]
   ·rw[if_neg h,F4 xs B (k+1) j cI.2];by_cases h2:k<=j
    ·rw[if_pos h2,if_pos (by omega),show j-k=(j-(k+1))+1 by omega];simp
    ·rw[if_neg h2,if_neg (by omega)]
  | g b v=>exact absurd cI.1 (by simp[TV.ng])
  | _=>exact F4 xs B k j cI.2
theorem Ai:∀(xs:List TV)(k j:Nat),xs.all TV.ng=true->(dx (nC xs k) j).aA=if k<=j then((dC (xs.map TV.aA))[j-k]?).getD .none else .none
 | [],k,j,_=>by simp[nC,dx,dC,az.aA]
 | x::xs,k,j,cI=>by
  rw[List.all_cons,Bool.and_eq_true]at cI
  cases x with
  | ow e ts m es =>
   simp only[nC,qX,bI,List.map_cons,dC,TV.aA,TV.cl,TV.aO];by_cases h:j=k
   ·subst h;simp[az.aA]
   ·rw[if_neg h,Ai xs (k+1) j cI.2];by_cases h2:k<=j
    ·rw[if_pos h2,if_pos (by omega),show j-k=(j-(k+1))+1 by omega];simp
    ·rw[if_neg h2,if_neg (by omega)]
  | a cs =>
   simp only[nC,List.map_cons,dC,TV.aA,TV.cl];rw[F3,Ai xs _ j cI.2,xa];by_cases h2:k<=j
   ·rw[if_pos h2,if_pos h2,List.getElem?_append];by_cases h3:j-k<(Z2 (cs.map TV.aO)).length
    ·rw[if_pos h3,List.getElem?_eq_getElem h3];rfl
    ·rw[if_neg h3,List.getElem?_eq_none (by omega),if_pos (by omega),show j-(k+(Z2 (cs.map TV.aO)).length)=j-k-(Z2 (cs.map TV.aO)).length by omega]
   ·rw[if_neg h2,if_neg h2,if_neg (by omega)]
  | g b v=>exact absurd cI.1 (by simp[TV.ng])
  | _=>exact Ai xs k j cI.2
theorem xc:∀(xs:List TV),xs.all TV.ng=true->eF xs=(dC (xs.map TV.aA)).length
 | [],_=>rfl
 | x::xs,cI=>by
  rw[List.all_cons,Bool.and_eq_true]at cI
  cases x with
  | ow e ts m es=>simp only[eF,List.map_cons,TV.aA,TV.cl,TV.aO,dC,List.length_cons,xc xs cI.2]
  | a cs=>simp only[eF,List.map_cons,TV.aA,TV.cl,dC,List.length_append,xc xs cI.2,xa];omega
  | g b v=>exact absurd cI.1 (by simp[TV.ng])
  | _=>exact xc xs cI.2
theorem Aj:∀(xs:List TV),xs.all TV.ng=true->ea xs=(cL (xs.map TV.aA)).length
 | [],_=>rfl
 | x::xs,cI=>by
  rw[List.all_cons,Bool.and_eq_true]at cI
  cases x with
  | bx cs=>simp only[ea,List.map_cons,TV.aA,cL,List.length_cons,Aj xs cI.2]
  | g b v=>exact absurd cI.1 (by simp[TV.ng])
  | _=>exact Aj xs cI.2
theorem QI6(xs:List TV)(cI:xs.all TV.ng=true):(rj xs).aA=Jw (xs.map TV.aA):=by
 have hB:=Aj xs cI;have hG:=xc xs cI;unfold rj cr.aA Jw cr.T cr.H;congr 1
 ·funext s
  rw[SD xs 0 0 _ s cI,hB];simp
 ·funext i
  show(dx (ri xs 0++nC xs (ea xs)) i).aA=_;rw[F4 xs _ 0 i cI,Ai xs _ i cI,hB];simp only[Nat.zero_le,if_true,Nat.sub_zero]
  cases hx:(cL (xs.map TV.aA))[i]? with
  | some cs=>rfl
  | none =>
   have:(cL (xs.map TV.aA)).length<=i:=by rw[List.getElem?_eq_none_iff]at hx;exact hx
   rw[if_pos this]
 ·rw[hB,hG]
def bm.slot:bm->Nat
 | .t s=>s
 | .l s _ _=>s
def nD(σ:cr):bm->Option TV
 | .t s=>some (σ.T s)
 | .l s n agg=>match Zn ⟨[],false⟩ σ.T σ.H 0 (.load (.s s) n agg) with
  | some ⟨none,v,_⟩=>some v
  | _=>none
def xd(σ:cr):List bm->Option (List TV)
 | []=>some []
 | x::xs=>match nD σ x,xd σ xs with
  | some y,some ys=>some (y::ys)
  | _,_=>none
def nE:List TV->TV
 | [x]=>x
 | xs=>.tp xs
def TV.eV(ids:List Nat):TV->TV
 | .r ts id off len=>bif ids.elem id then .r ts (ids.idxOf id) off len else .u
 | .p id i j=>bif ids.elem id then .p (ids.idxOf id) i j else .u
 | .c t x=>.c t x
 | .n ts=>.n ts
 | .q ts x j=>.q ts x j
 | _=>.u
def TV.i9(ids:List Nat):TV->TV
 | .a cs=>.a (cs.map (TV.eV ids))
 | x=>x.eV ids
def TV.rn(ids:List Nat):TV->TV
 | .tp vs=>.tp (vs.map (TV.i9 ids))
 | x=>x.i9 ids
def az.rn(ids:List Nat):az->az
 | .box cs=>.box (cs.map (TV.eV ids))
 | x=>x
def rl:TV->Bool
 | .c _ _=>true
 | _=>false
def xe(h:Nat->az):Nat->Nat->Option (List (List TV))
 | 0,_=>some []
 | n+1,k=>match h k,xe h n (k+1) with
  | .box cs,some cD=>bif cs.all rl then some (cs::cD) else none
  | _,_=>none
def TV.dy:TV->Bool
 | .c t _=>t.flat
 | .n _=>true
 | .r ..=>true
 | .p ..=>true
 | .u=>true
 | _=>false
def TV.d6:TV->Bool
 | .a cs=>cs.all TV.dy
 | x=>x.dy
def TV.free:TV->Bool
 | .tp vs=>vs.all TV.d6
 | x=>x.d6
def az.free:az->Bool
 | .none=>true
 | .dead=>true
 | .box cs=>cs.all TV.dy
 | .sl _ ts m _=>(match m with | .dp _ _ _=>true | _=>ts.all CT.flat)
def tO:List Nat->List Nat->List Nat
 | [],acc=>acc
 | x::xs,acc=>bif acc.elem x then tO xs acc else tO xs (acc++[x])
def xf(h:Nat->az):Nat->Nat->Option (List az)
 | 0,_=>some []
 | n+1,k=>match h k,xf h n (k+1) with
  | .sl e ts m es,some cD=>some (.sl e ts m es::cD)
  | .dead,some cD=>some (.dead::cD)
  | _,_=>none
def F5(nb no:Nat)(rs:List (bm × Md))(σ0:cr):Option aB :=
 let σ:=gc (nb+no) (rs.map λx=>(x.1.slot,x.2)) σ0
 match xd σ (rs.map Prod.fst) with
 | some vs=>bif vs.all TV.st then(match xe σ.H nb 0,xf σ.H no nb with
  | some cD,some gs =>
   let ids:=tO (vs.flatMap λv=>v.refs++v.b9) []
   let v:=(nE vs).rn ids
   let hb:=ids.map λid=>(σ.H id).rn ids
   bif oP ids&&ids.all (Nat.ble (nb+no) ·) then some ⟨v,hb,cD,!(v.free&&cD.isEmpty&&hb.all az.free&&gs.isEmpty),gs⟩ else none
  | _,_=>none) else none
 | none=>none
def TQ(nb no:Nat)(rs:List (bm × Md))(K:aB->Prop):Qb:=λe σ=>match e with
 | .exit _=>False
 | _=>match F5 nb no rs σ with
  | some r=>K r
  | none=>False
theorem QLd{σ:cr}{y:bm}{v:TV}(h:nD σ y=some v):y.get σ.aA=some v.aA:=by
 cases y with
 | t s=>simp only[nD,Option.some.injEq]at h;subst h;rfl
 | l s n agg =>
  simp only[nD]at h
  split at h
  rotate_left
  ·cases h
  rename_i v' bl he
  cases h;have:=R4 (ΓA:=zF) he trivial;have this:Qv zF (aW.ev λs=>(σ.T s).aA) (λi=>(σ.H i).aA) 0 (.load (.s s) n agg)=some (TE.aA ⟨none,v,bl⟩):=this;show(match Qv zF (aW.ev λs=>(σ.T s).aA) (λi=>(σ.H i).aA) 0 (.load (.s s) n agg) with | some e=>some e.val | none=>none)=_;rw[this];rfl
theorem SE{σ:cr}:∀ {ys:List bm} {vs:List TV},xd σ ys=some vs->qJ σ.aA ys=some (vs.map TV.aA)
 | [],vs,h=>by simp only[xd,Option.some.injEq]at h;subst h;rfl
 | y::ys,vs,h=>by
  simp only[xd]at h
  split at h
  rotate_left
  ·cases h
  rename_i a b ha hb
  cases h;simp only[qJ,QLd ha,SE hb,List.map_cons]
theorem QOK{vs:List TV}(h:vs.all TV.st=true):Rp (vs.map TV.aA)=(nE vs).aA:=by
 match vs,h with
 | [],_=>rfl
 | [x],_=>rfl
 | x::y::vs,h =>
  show AV.t ((x::y::vs).map TV.aA)=AV.t ((x::y::vs).map TV.cl);congr 1
  exact List.map_congr_left λa ha=>(R2 (List.all_eq_true.1 h a ha)).symm
theorem rm(ids:List Nat)(x:TV):(x.eV ids).aO=x.aO.eV ids:=by
 cases x with
 | r ts id off len =>
  simp only[TV.eV,TV.aO,AV.eV];by_cases h:id∈ids
  ·rw[if_pos h,show ids.elem id=true by simpa using h];rfl
  ·rw[if_neg h,show ids.elem id=false by simpa using h];rfl
 | p id i j =>
  simp only[TV.eV,TV.aO,AV.eV];by_cases h:id∈ids
  ·rw[if_pos h,show ids.elem id=true by simpa using h];rfl
  ·rw[if_neg h,show ids.elem id=false by simpa using h];rfl
 | _=>rfl
theorem SF(ids:List Nat)(x:TV):(x.eV ids).aA=(x.eV ids).aO:=by
 cases x with
 | r ts id off len=>simp only[TV.eV];cases ids.elem id <;> rfl
 | p id i j=>simp only[TV.eV];cases ids.elem id <;> rfl
 | _=>rfl
theorem QSC(ids:List Nat)(x:TV):(x.i9 ids).cl=x.cl.i9 ids:=by
 cases x with
 | a cs=>simp only[TV.i9,TV.cl,AV.i9,List.map_map];congr 2;funext y;exact rm ids y
 | r ts id off len =>
  have:=rm ids (.r ts id off len);simp only[TV.i9]
  cases hx:(TV.r ts id off len).eV ids <;> (simp only[TV.eV]at hx;cases hb:ids.elem id <;> rw[hb]at hx <;> first | cases hx | skip) <;> (rw[show TV.eV ids (.r ts id off len)=_ from by simp only[TV.eV,hb];rfl]at this;first | exact this | skip)
 | p id i j =>
  have:=rm ids (.p id i j);simp only[TV.i9]
  cases hx:(TV.p id i j).eV ids <;> (simp only[TV.eV]at hx;cases hb:ids.elem id <;> rw[hb]at hx <;> first | cases hx | skip) <;> (rw[show TV.eV ids (.p id i j)=_ from by simp only[TV.eV,hb];rfl]at this;first | exact this | skip)
 | _=>rfl
theorem QXk(ids:List Nat):∀(x:TV),x.st=true\/(∃ vs,x = .tp vs)->(x.rn ids).aA=x.aA.rn ids
 | .tp vs,_=>by simp only[TV.rn,TV.aA,AV.rn,List.map_map];congr 2;funext y;exact QSC ids y
 | .a cs,_=>by simp only[TV.rn,TV.i9,TV.aA,TV.cl,AV.rn,AV.i9,List.map_map];congr 2;funext y;exact rm ids y
 | .c t x,_=>rfl
 | .n ts,_=>rfl
 | .r ts id off len,_=>(SF ids (.r ts id off len)).trans (rm ids (.r ts id off len))
 | .p id i j,_=>(SF ids (.p id i j)).trans (rm ids (.p id i j))
 | .q ts x j,_=>rfl
 | .bs ..,_=>rfl
 | .bq ..,_=>rfl
 | .u,h=>by rcases h with h | ⟨vs,h⟩ <;> cases h
 | .bx cs,h=>by rcases h with h | ⟨vs,h⟩ <;> cases h
 | .g b v,h=>by rcases h with h | ⟨vs,h⟩ <;> cases h
theorem QXV(ids:List Nat)(x:az):(x.rn ids).aA=x.aA.rn ids:=by
 cases x with
 | box cs=>simp only[az.rn,az.aA,aQ.rn,List.map_map];congr 2;funext y;exact rm ids y
 | _=>rfl
theorem QGV{cs:List TV}(h:cs.all rl=true):(cs.map TV.aO).all mv=true:=by
 rw[List.all_eq_true]at h ⊢;intro x hx;obtain⟨y,hy,rfl⟩:=List.mem_map.1 hx;have:=h y hy
 cases y <;> first | rfl | simp[rl]at this
theorem SG{h:Nat->az}:∀ {n k:Nat} {cD:List (List TV)},xe h n k=some cD->oI (λi=>(h i).aA) n k=some (cD.map (·.map TV.aO))
 | 0,k,cD,e=>by simp only[xe,Option.some.injEq]at e;subst e;rfl
 | n+1,k,cD,e=>by
  simp only[xe]at e
  split at e
  rotate_left
  ·cases e
  rename_i cs lQ h1 h2;obtain⟨q,e⟩:=QX e
  cases e;have ih:=SG h2;have hk:(λi=>(h i).aA) k = .box (cs.map TV.aO):=by simp only[h1];rfl
  generalize(λi=>(h i).aA)=hA at ih hk;simp only[oI,hk,ih,QGV q,if_true,List.map_cons]
def AV.dy:AV->Bool
 | .c (.v _)=>true
 | .n _=>true
 | .r ..=>true
 | .p ..=>true
 | .u=>true
 | _=>false
def AV.d6:AV->Bool
 | .a cs=>cs.all AV.dy
 | x=>x.dy
def AV.free:AV->Bool
 | .t vs=>vs.all AV.d6
 | x=>x.d6
def aQ.free:aQ->Prop
 | .none=>True
 | .dead=>True
 | .box cs=>cs.all AV.dy=true
 | .sl _ _ m es=>(∃ g t H,m = .dp g t H)\/∀ x,x∈es->∀ d,d∈x->∃ v,d = .v v
theorem SH{x:TV}(h:x.dy=true):x.aO.dy=true:=by
 cases x with
 | c t x=>cases t <;> first | rfl | simp[TV.dy,CT.flat]at h
 | _=>first | rfl | simp[TV.dy]at h
theorem SI{x:TV}(h:x.d6=true):x.cl.d6=true:=by
 cases x with
 | a cs =>
  simp only[TV.d6,List.all_eq_true]at h;simp only[TV.cl,AV.d6,List.all_eq_true];intro y hy;obtain⟨z,hz,rfl⟩:=List.mem_map.1 hy;exact SH (h z hz)
 | c t x=>exact(by cases t <;> first | rfl | simp[TV.d6,TV.dy,CT.flat]at h)
 | _=>first | rfl | simp[TV.d6,TV.dy]at h
theorem QKu{x:TV}(h:x.free=true):x.aA.free=true:=by
 cases x with
 | tp vs =>
  simp only[TV.free,List.all_eq_true]at h;simp only[TV.aA,AV.free,List.all_eq_true];intro y hy;obtain⟨z,hz,rfl⟩:=List.mem_map.1 hy;exact SI (h z hz)
 | a cs=>exact SI (x:=.a cs) h
 | c t x=>exact(by cases t <;> first | rfl | simp[TV.free,TV.d6,TV.dy,CT.flat]at h)
 | _=>first | rfl | simp[TV.free,TV.d6,TV.dy]at h
theorem SJ:∀ {ts:List CT},ts.all CT.flat=true->∀(x:aR ts)(d:D),d∈aV ts x->∃ v,d = .v v
 | [],_,x,d,h=>by rw[aV]at h;cases h
 | t::ts,hf,x,d,h=>by
  rw[List.all_cons,Bool.and_eq_true]at hf;rw[aV]at h
  rcases List.mem_cons.1 h with rfl | h
  ·cases t with
   | sl us=>cases hf.1
   | _=>exact⟨_,rfl⟩
  ·exact SJ hf.2 _ d h
theorem QKq{x:az}(h:x.free=true):x.aA.free:=by
 cases x with
 | none=>trivial
 | dead=>trivial
 | box cs =>
  simp only[az.free,List.all_eq_true]at h;simp only[az.aA,aQ.free,List.all_eq_true];intro y hy;obtain⟨z,hz,rfl⟩:=List.mem_map.1 hy;exact SH (h z hz)
 | sl e ts m es =>
  rw[az.bH];have key:ts.all CT.flat=true->∀ x,x∈es.map (aV ts)->∀ d,d∈x->∃ v,d = .v v:=λhf x hx d hd=>by
   obtain⟨y,hy,rfl⟩:=List.mem_map.1 hx;exact SJ hf y d hd
  cases m with
  | dp g t H=>exact .inl ⟨g,t,H,rfl⟩
  | _=>exact .inr (key h)
theorem F6{w:World}{F F':Nat->Prop}{ι:Io}{h:Nat->aQ}{v:Value}{x:AV}(hx:x.dy=true)(hv:VR w F ι h v x):VR w F' ι h v x:=by
 cases hv with
 | u=>exact .u _
 | c v d hr =>
  cases d with
  | v y=>cases hr with
   | v x h1=>exact .c _ _ (.v _ h1)
  | sl sz es=>simp[AV.dy]at hx
 | n sz=>exact .n sz
 | cz v sz id off len h1 hd=>exact .cz v sz id off len h1 hd
 | cM id e sz m hi hh=>exact .cM id e sz m hi hh
 | df ad cap id e sz m hi hh ht=>exact .df ad cap id e sz m hi hh ht
 | r id off len b ao cap e sz m es hi hh hlen ck ho cY=>exact .r id off len b ao cap e sz m es hi hh hlen ck ho cY
 | cT v id i j h1 hd=>exact .cT v id i j h1 hd
 | p id i j b hi hn hd=>exact .p id i j b hi hn hd
 | _=>simp[AV.dy]at hx
theorem SK{w:World}{F F':Nat->Prop}{ι:Io}{h:Nat->aQ}{v:Value}{x:AV}(hx:x.d6=true)(hv:VR w F ι h v x):VR w F' ι h v x:=by
 cases x with
 | a cs =>
  simp only[AV.d6,List.all_eq_true]at hx
  cases hv with
  | a vs _ hl h1 hv=>exact .a vs cs hl h1 (λk v x hk iV=>F6 (hx x (List.mem_of_getElem? iV)) (hv k v x hk iV))
 | _=>exact F6 hx hv
theorem QR9{w:World}{F F':Nat->Prop}{ι:Io}{h:Nat->aQ}{v:Value}{x:AV}(hx:x.free=true)(hv:VR w F ι h v x):VR w F' ι h v x:=by
 cases x with
 | t cs =>
  simp only[AV.free,List.all_eq_true]at hx
  cases hv with
  | t vs _ hl hv=>exact .t vs cs hl (λk v x hk iV=>SK (hx x (List.mem_of_getElem? iV)) (hv k v x hk iV))
 | _=>exact SK hx hv
theorem QNV{w:World}{F F':Nat->Prop}{ι:Io}{h:Nat->aQ}{id:Nat}{x:aQ}(hx:x.free)(hv:BR w F ι h id x):BR w F' ι h id x:=by
 cases hv with
 | none=>exact .none
 | dead=>exact .dead
 | box b e bj cs hi ho hb hl h1 hv=>exact .box b e bj cs hi ho hb hl h1 (λk v x hk iV=>F6 (List.all_eq_true.1 hx x (List.mem_of_getElem? iV)) (hv k v x hk iV))
 | slnil e sz m hz hi=>exact .slnil e sz m hz hi
 | sl b e e0 sz m es cur hz hi hb eO hle cX bV hv =>
  refine .sl b e e0 sz m es cur hz hi hb eO hle cX bV (λi j x d SL hd=>?_);obtain⟨v,h1,h2⟩:=hv i j x d SL hd;refine⟨v,h1,?_⟩
  rcases hx with⟨g,t,H,rfl⟩ | hx
  ·exact h2
  ·cases m with
   | dp g t H=>exact h2
   | _ =>
    obtain⟨y,rfl⟩:=hx x (List.mem_of_getElem? SL) d (List.mem_of_getElem? hd);have h2:Rd w F v (.v y):=h2;show Rd w F' v (.v y)
    cases h2 with
    | v x h1=>exact .v _ h1
theorem iy.free{w:World}{F0:Nat->Prop}{lb:List Nat}{gb:List Hd}{v:AV}{hb:List aQ}{al al':Bool}{v':Value}{w':World}{ι:Io}(hx:v.free=true)(hh:∀ x,x∈hb->x.free)(Q:iy w F0 lb gb ⟨v,hb,[],al,[]⟩ v' w' ι) :
  iy w F0 lb gb ⟨v,hb,[],al',[]⟩ v' w' ι:=by
 refine⟨Q.os,Q.tape,Q.output,Q.size,Q.block,QR9 hx Q.val,λi hi=>QNV ?_ (Q.fi i hi),Q.inj,Q.eh,Q.live,Q.dg,Q.EF,λk b cs _ hc=>by simp at hc,Q.EG,λk x B _ hc=>by simp at hc⟩;have hi:i<hb.length:=hi;show aQ.free ((hb[i]?).getD .none);rw[List.getElem?_eq_getElem hi];exact hh _ (List.getElem_mem hi)
theorem F7:∀(l acc:List Nat),acc.Nodup->(tO l acc).Nodup
 | [],acc,h=>h
 | x::l,acc,h=>by
  simp only[tO]
  cases hx:acc.elem x with
  | true=>exact F7 l acc h
  | false =>
   refine F7 l _ ?_;rw[List.nodup_append];refine⟨h,by simp,λa ha b hb=>?_⟩;simp only[List.mem_singleton]at hb;rintro rfl
   subst hb;have:a∉acc:=by simpa using hx
   exact this ha
theorem SM:∀ {ss:List Sh} {xs:List TV},ZU ss xs=true->xs.all TV.ng=true
 | [],[],_=>rfl
 | [],_::_,h=>by simp[ZU]at h
 | _::_,[],h=>by simp[ZU]at h
 | s::ss,x::xs,h=>by
  simp only[ZU,Bool.and_eq_true]at h;rw[List.all_cons,SM h.2,Bool.and_true]
  cases x with
  | g b v=>cases s <;> simp[Sh.fits]at h
  | _=>rfl
theorem F8{h:Nat->az}:∀ {n k:Nat} {cD:List az},xf h n k=some cD->J2 (λi=>(h i).aA) n k=some (cD.map az.aA)
 | 0,k,cD,hx=>by simp only[xf,Option.some.injEq]at hx;subst hx;rfl
 | n+1,k,cD,hx=>by
  simp only[xf]at hx
  split at hx
  ·rename_i e ts m es lQ h1 h2
   cases hx;have h3:=F8 h2;simp only[J2,h1,az.bH,h3,List.map_cons]
  ·rename_i lQ h1 h2
   cases hx;have h3:=F8 h2;simp only[J2,h1,az.jd,h3,List.map_cons]
  ·cases hx
theorem QQz{P:Program}{Γ:aF}{f:FuncId}{tc:af}{rs:List (bm × Md)}{n:Nat}{xs:List TV}{r:aB}{sg:List Sh}(hm:P.follows .mixedOrders=true)(hΓ:w9 P Γ)(hs:wv P f=some (tc.er,rs.map Prod.fst,n))
  (fG:ZU sg xs=true) (hN:xs.length<=n) (h:aN Γ (ea xs+eF xs) tc (TQ (ea xs) (eF xs) rs (λr'=>r'=r)) (rj xs)):aK P f xs r:=by
 have cI:=SM fG;unfold wv at hs
 split at hs
 rotate_left
 ·cases hs
 rename_i fn hf
 split at hs
 rotate_left
 ·cases hs
 rename_i c hb
 split at hs
 rotate_left
 ·cases hs
 rename_i ac' rs' hc zZ;simp only[Option.some.injEq,Prod.mk.injEq]at hs;obtain⟨rfl,rfl,rfl⟩:=hs;intro w F0 vs lb gb hA hF;have LA:=Rv hA;have Fj:=LA.len;have i0:ea xs=lb.length:=(Aj xs cI).trans Fj.symm;have jb:eF xs=gb.length:=(xc xs cI).trans LA.gl.symm;have hL:Kept (Jf P w F0 lb gb fn.ntmps) (ea xs+eF xs):=by
  refine⟨λi b hi=>?_,λi o hi=>?_,λi o cs hi=>?_⟩
  ·have:=(List.getElem?_eq_some_iff.1 (show lb[i]? = some b from hi)).1;omega
  ·simp only[Jf]at hi
   split at hi
   ·cases hi
   ·have:=(List.getElem?_eq_some_iff.1 hi).1;omega
  ·simp only[Jf]at hi
   split at hi
   ·cases hi
   ·obtain⟨_,⟨e,sz,m,es,q,_⟩,_⟩:=LA.f0 _ _ hi;rw[q];exact λh=>by cases h
 refine calls_of_wp hf hb ?_;refine QFW (C:=Jf P w F0 lb gb fn.ntmps) (nl:=ea xs+eF xs) hm (QM8 Γ) (QWj hΓ) hL tc c _ _ (rj xs) _ _ hc h ?_ ?_
 ·rw[QI6 xs cI];exact QNr hA hF (by simpa using hN)
 ·intro e σ0 a w' hK S;have hK:(match F5 (ea xs) (eF xs) rs σ0 with | some r'=>r'=r | none=>False)/\∀ id,e≠.exit id:=by
   cases e with
   | exit id=>exact hK.elim
   | normal=>exact⟨hK,by simp⟩
   | ret=>exact⟨hK,by simp⟩
  obtain⟨hK,he⟩:=hK
  split at hK
  rotate_left
  ·exact hK.elim
  rename_i r' hr;subst hK;unfold F5 at hr;simp only at hr
  split at hr
  rotate_left
  ·cases hr
  rename_i bj f8;obtain⟨q1,hr⟩:=QX hr
  split at hr
  rotate_left
  ·cases hr
  rename_i cD gs qL oE;obtain⟨q2,hr⟩:=QX hr;simp only[Bool.and_eq_true]at q2
  cases hr;have S':=Ae (L:=rs.map λx=>(x.1.slot,x.2)) hL S;generalize hσ:gc (ea xs+eF xs) (rs.map λx=>(x.1.slot,x.2)) σ0=σ at *;obtain⟨ι,S'⟩:=S';have h1:=SE f8;obtain⟨u,h5,h6⟩:=QGi S' zZ h1;rw[QOK q1]at h6;have ia:=F7 (bj.flatMap λv=>v.refs++v.b9) [] List.nodup_nil;generalize tO (bj.flatMap λv=>v.refs++v.b9) []=ids at *;have iM:∀ id,id∈ids->ea xs+eF xs<=id:=λid a8=>Nat.le_of_ble_eq_true (List.all_eq_true.1 q2.2 id a8);have F9:zG (ea xs) (eF xs) ids σ.aA (nE bj).aA=some ⟨((nE bj).rn ids).aA,(ids.map λid=>(σ.H id).rn ids).map az.aA,cD.map (·.map TV.aO),true,gs.map az.aA⟩:=by
   unfold zG;have h2:=SG qL;have h2:oI σ.aA.h (ea xs) 0=some (cD.map (·.map TV.aO)):=h2;have h3:=F8 oE;have h3:J2 σ.aA.h (eF xs) (ea xs)=some (gs.map az.aA):=h3;rw[h2,h3];simp only;congr 2
   ·rw[QXk]
    match bj,q1 with
    | [],_=>exact .inr ⟨[],rfl⟩
    | [x],q1=>left;rw[List.all_cons,List.all_nil,Bool.and_true]at q1;exact q1
    | x::y::l,_=>exact .inr ⟨_,rfl⟩
   ·rw[List.map_map];congr 1
    funext id
    exact(QXV ids _).symm
  obtain⟨ι',post⟩:=QKo i0 jb S' ia iM F9 h6;have xg:iy w F0 lb gb (aB.aA ⟨(nE bj).rn ids,ids.map λid=>(σ.H id).rn ids,cD,!(((nE bj).rn ids).free&&cD.isEmpty&&(ids.map λid=>(σ.H id).rn ids).all az.free&&gs.isEmpty),gs⟩) u w' ι':=by
   unfold aB.aA;simp only
   cases dP:((nE bj).rn ids).free&&cD.isEmpty&&(ids.map λid=>(σ.H id).rn ids).all az.free&&gs.isEmpty with
   | false=>exact post
   | true =>
    simp only[Bool.and_eq_true,List.isEmpty_iff]at dP;obtain⟨⟨⟨e1,e2⟩,e3⟩,e4⟩:=dP;subst e2;subst e4;refine iy.free (QKu e1) (λx hx=>?_) post;obtain⟨y,hy,rfl⟩:=List.mem_map.1 hx;exact QKq (List.all_eq_true.1 e3 y hy)
  have key:a.defers=[]/\∃ v,(results fn a.tmps).run P w' = .ok v w'/\∃ v1 ι,Ending.returned v = .returned v1/\iy w F0 lb gb (aB.aA ⟨(nE bj).rn ids,ids.map λid=>(σ.H id).rn ids,cD,!(((nE bj).rn ids).free&&cD.isEmpty&&(ids.map λid=>(σ.H id).rn ids).all az.free&&gs.isEmpty),gs⟩) v1 w' ι :=
   ⟨S'.defers,u,h5,u,_,rfl,xg⟩
  cases e with
  | normal=>exact key
  | ret=>exact key
  | exit id=>exact absurd rfl (he id)
mutual
def CT.bd:(t:CT)->t.den->Prop
 | .int _,_=>True
 | .bool,_=>True
 | .str,_=>True
 | .dG,_=>True
 | .sl ts,l=>List.length l<=maxLen/\∀ x:aR ts,x∈(l:List (aR ts))->aR.bd ts x
def aR.bd:(ts:List CT)->aR ts->Prop
 | [],_=>True
 | t::ts,x=>t.bd (hd ts x)/\aR.bd ts (tl ts x)
end
def rp(ts:List CT)(es:List (aR ts)):Prop:=List.length es<=maxLen/\∀ x:aR ts,x∈es->aR.bd ts x
def TV.xh:TV->Prop
 | .c t x=>t.bd x
 | .ow _ ts .ow es=>rp ts es
 | .ow _ ts (.dp _ _ []) es=>rp ts es
 | _=>True
def TV.xi:List TV->Prop
 | []=>True
 | x::xs=>x.xh/\TV.xi xs
def TV.bd:TV->Prop
 | .a cs=>TV.xi cs
 | .bx cs=>TV.xi cs
 | x=>x.xh
def Ak:List TV->Prop
 | []=>True
 | x::xs=>x.bd/\Ak xs
mutual
theorem SN{w:World}{F:Nat->Prop}:∀(t:CT)(x:t.den)(v:Value),Rd w F v (enc t x)->t.bd x
 | .int _,_,_,_=>by rw[CT.bd];trivial
 | .bool,_,_,_=>by rw[CT.bd];trivial
 | .str,_,_,_=>by rw[CT.bd];trivial
 | .dG,_,_,_=>by rw[CT.bd];trivial
 | .sl ts,l,v,h=>by
  rw[enc]at h
  rw[CT.bd]
  generalize gm:List.map (aV ts) l=es at h
  have hl:List.length l=es.length:=by rw[<- gm,List.length_map]
  generalize bV:ts.length=sz at h
  cases h with
  | nil =>
   have:l=[]:=by simpa using gm
   subst this
   exact⟨Nat.zero_le _,λx hx=>by cases hx⟩
  | emp =>
   have:l=[]:=by simpa using gm
   subst this
   exact⟨Nat.zero_le _,λx hx=>by cases hx⟩
  | sl b o len cap _ _ xv hlen ck cX dQ hb hc hr =>
   refine⟨by rw[hl,hlen];exact cX,λx hx=>?_⟩
   obtain⟨i,hi⟩:=List.getElem?_of_mem hx
   have he:es[i]? = some (aV ts x):=by rw[<- gm,List.getElem?_map,hi];rfl
   exact Ga ts x (λj d hj=>⟨_,hr i j _ d he hj⟩)
theorem Ga{w:World}{F:Nat->Prop}:∀(ts:List CT)(x:aR ts),(∀(j:Nat)(d:D),(aV ts x)[j]? = some d->∃ v,Rd w F v d)->aR.bd ts x
 | [],_,_=>by rw[aR.bd];trivial
 | t::ts,x,h=>by
  rw[aV]at h
  rw[aR.bd]
  obtain⟨v,hv⟩:=h 0 _ rfl
  exact⟨SN t _ v hv,Ga ts _ (λj d hj=>h (j+1) d (by simpa using hj))⟩
end
mutual
theorem QGn{w:World}{K:Nat->Option (Nat × cE)}{id:Nat}:∀(t:CT)(x:t.den)(v:Value)(p:cE),RL w K id p v (enc t x)->t.bd x
 | .int _,_,_,_,_=>by rw[CT.bd];trivial
 | .bool,_,_,_,_=>by rw[CT.bd];trivial
 | .str,_,_,_,_=>by rw[CT.bd];trivial
 | .dG,_,_,_,_=>by rw[CT.bd];trivial
 | .sl ts,l,v,p,h=>by
  rw[enc]at h
  rw[CT.bd]
  generalize gm:List.map (aV ts) l=es at h
  have hl:List.length l=es.length:=by rw[<- gm,List.length_map]
  generalize bV:ts.length=sz at h
  cases h with
  | nil =>
   have:l=[]:=by simpa using gm
   subst this
   exact⟨Nat.zero_le _,λx hx=>by cases hx⟩
  | emp =>
   have:l=[]:=by simpa using gm
   subst this
   exact⟨Nat.zero_le _,λx hx=>by cases hx⟩
  | sl _ b o len cap _ _ cur e0 xv hz dN hlen ck cX dQ hk hb hle hc hr =>
   refine⟨by rw[hl,hlen];exact cX,λx hx=>?_⟩
   obtain⟨i,hi⟩:=List.getElem?_of_mem hx
   have he:es[i]? = some (aV ts x):=by rw[<- gm,List.getElem?_map,hi];rfl
   exact Gb ts x (λj d hj=>⟨_,_,hr i j _ d he hj⟩)
theorem Gb{w:World}{K:Nat->Option (Nat × cE)}{id:Nat}:∀(ts:List CT)(x:aR ts),(∀(j:Nat)(d:D),(aV ts x)[j]? = some d->∃ v p,RL w K id p v d)->aR.bd ts x
 | [],_,_=>by rw[aR.bd];trivial
 | t::ts,x,h=>by
  rw[aV]at h
  rw[aR.bd]
  obtain⟨v,p,hv⟩:=h 0 _ rfl
  exact⟨QGn t _ v p hv,Gb ts _ (λj d hj=>h (j+1) d (by simpa using hj))⟩
end
theorem Al{w:World}{F:Nat->Prop}{ι:Io}{h:Nat->aQ}{v:Value}:∀ {x:TV},VR w F ι h v x.aO->x.xh
 | .c t x,hv=>by cases hv with | c v d hr=>exact SN t x v hr
 | .ow ..,hv=>by cases hv
 | .u,_=>trivial
 | .n _,_=>trivial
 | .r ..,_=>trivial
 | .p ..,_=>trivial
 | .q ..,_=>trivial
 | .a _,_=>trivial
 | .tp _,_=>trivial
 | .bx _,_=>trivial
 | .bs ..,_=>trivial
 | .bq ..,_=>trivial
 | .g ..,_=>trivial
theorem SO{w:World}{F:Nat->Prop}{v:Value}{x:Hd}{e:TypeId}{ts:List CT}{m:Mo}{es:List (aR ts)}(hv:lG w F v x e ts.length m (es.map (aV ts))):(TV.ow e ts m es).xh:=by
 have key:m.full=true->rp ts es:=by
  intro hf;have tz:=hv.br;rw[hv.hB]at tz;generalize hq:es.map (aV ts)=eP at tz
  cases tz with
  | slnil =>
   have:es=[]:=by simpa using hq
   subst this;exact⟨Nat.zero_le _,λx hx=>by cases hx⟩
  | sl bk _ e0 _ _ _ cur hz hi hb eO hle cX bV jm =>
   refine⟨by rw[<- hq,List.length_map]at cX;exact cX,λx hx=>?_⟩;obtain⟨i,bY⟩:=List.getElem?_of_mem hx;have he:eP[i]? = some (aV ts x):=by rw[<- hq,List.getElem?_map,bY];rfl
   cases m with
   | dp g t H =>
    cases H with
    | nil=>exact Gb ts x (λj d hj=>let⟨v,_,h2⟩:=jm i j _ d he hj;⟨v,_,h2.2 (by simp)⟩)
    | cons=>cases hf
   | _=>exact Ga ts x (λj d hj=>let⟨v,_,h2⟩:=jm i j _ d he hj;⟨v,h2⟩)
 cases m with
 | fz=>trivial
 | ow=>exact key rfl
 | dp g t H =>
  cases H with
  | nil=>exact key rfl
  | cons=>trivial
theorem Gc:∀ {cs:List TV},(∀(k:Nat)(x:TV),cs[k]? = some x->x.xh)->TV.xi cs
 | [],_=>trivial
 | x::xs,h=>⟨h 0 x rfl,Gc λk y hy=>h (k+1) y (by simpa using hy)⟩
theorem xj{w:World}{F:Nat->Prop}:∀ {cs:List TV} {vs:List Value} {lb:List Nat} {gb:List Hd},ey w F vs (cs.map TV.aO) lb gb->TV.xi cs
 | [],vs,lb,gb,_=>trivial
 | x::cs,vs,lb,gb,hA=>by
  rw[List.map_cons]at hA;generalize hy:x.aO=y at hA;generalize iW:cs.map TV.aO=ys at hA
  cases hA with
  | eE v _ vs _ lb gb hv hr hx =>
   subst iW;subst hy;exact⟨Al hv,xj hr⟩
  | own v o e sz m es vs _ lb gb hv hn hr =>
   subst iW;refine⟨?_,xj hr⟩
   cases x with
   | ow e' ts mm bP =>
    simp only[TV.aO]at hy;injection hy with q1 q2 q3 q4;subst q1;subst q2;subst q3;subst q4;exact SO hv
   | _=>trivial
  | box b e bj cs' vs _ lb gb hb hd hc hn hg hr =>
   subst iW;refine⟨?_,xj hr⟩
   cases x with
   | c t x=>cases hy
   | ow e' ts mm bP=>cases hy
   | _=>trivial
  | agg arr cs' vs _ lb g1 gb hc hk h1 hn hr =>
   subst iW;refine⟨?_,xj hr⟩
   cases x with
   | c t x=>cases hy
   | ow e' ts mm bP=>cases hy
   | _=>trivial
theorem xk{w:World}{F:Nat->Prop}:∀ {xs:List TV} {vs:List Value} {lb:List Nat} {gb:List Hd},ey w F vs (xs.map TV.aA) lb gb->xs.all TV.ng=true->Ak xs
 | [],vs,lb,gb,_,_=>trivial
 | x::xs,vs,lb,gb,hA,cI=>by
  rw[List.all_cons,Bool.and_eq_true]at cI;rw[List.map_cons]at hA;generalize hy:x.aA=y at hA;generalize iW:xs.map TV.aA=ys at hA
  cases hA with
  | eE v _ vs _ lb gb hv hr hx =>
   subst iW;refine⟨?_,xk hr cI.2⟩
   cases x with
   | a cs =>
    subst hy
    cases hv with
    | a va _ hl h1 hv =>
     refine Gc λk z hz=>?_;have aU:k<va.size:=by rw[hl,List.length_map];exact(List.getElem?_eq_some_iff.1 hz).1
     exact Al (hv k va[k] z.aO (by simp[aU]) (by rw[List.getElem?_map,hz];rfl))
   | bx cs=>subst hy;simp[TV.aA,AV.eE]at hx
   | ow e ts m es=>subst hy;simp[TV.aA,TV.cl,TV.aO,AV.eE]at hx
   | g b v=>exact absurd cI.1 (by simp[TV.ng])
   | c t z=>subst hy;exact Al (x:=.c t z) hv
   | _=>trivial
  | own v o e sz m es vs _ lb gb hv hn hr =>
   subst iW;refine⟨?_,xk hr cI.2⟩
   cases x with
   | ow e' ts mm bP =>
    simp only[TV.aA,TV.cl,TV.aO]at hy;injection hy with q1 q2 q3 q4;subst q1;subst q2;subst q3;subst q4;exact SO hv
   | g b v=>exact absurd cI.1 (by simp[TV.ng])
   | a cs=>simp only[TV.aA,TV.cl]at hy;cases hy
   | bx cs=>simp only[TV.aA]at hy;cases hy
   | _=>trivial
  | box b e bj cs vs _ lb gb hb hd hc hn hg hr =>
   subst iW;refine⟨?_,xk hr cI.2⟩
   cases x with
   | bx ds =>
    simp only[TV.aA]at hy;injection hy with hy;subst hy;refine Gc λk z hz=>?_;have aU:k<bj.size:=by rw[hd.size,List.length_map];exact(List.getElem?_eq_some_iff.1 hz).1
    exact Al (hd.vr k bj[k] z.aO (by simp[aU]) (by rw[List.getElem?_map,hz];rfl))
   | g b v=>exact absurd cI.1 (by simp[TV.ng])
   | a cs=>simp only[TV.aA,TV.cl]at hy;cases hy
   | ow e ts m es=>simp only[TV.aA,TV.cl,TV.aO]at hy;cases hy
   | _=>trivial
  | agg arr cs vs _ lb g1 gb hc hk h1 hn hr =>
   subst iW;refine⟨?_,xk hr cI.2⟩
   cases x with
   | a ds =>
    simp only[TV.aA,TV.cl]at hy;injection hy with hy;subst hy;exact xj hc
   | g b v=>exact absurd cI.1 (by simp[TV.ng])
   | bx cs=>simp only[TV.aA]at hy;cases hy
   | ow e ts m es=>simp only[TV.aA,TV.cl,TV.aO]at hy;cases hy
   | c t z=>simp only[TV.aA,TV.cl,TV.aO]at hy;cases hy
   | _=>trivial
theorem QWG{P:Program}{f:FuncId}{xs:List TV}{r:aB}(cI:xs.all TV.ng=true)(h:Ak xs->aK P f xs r):aK P f xs r :=
 λw F0 vs lb gb hA hF=>h (xk hA cI) w F0 vs lb gb hA hF
end Go.Proofs.YtdplaepmjogjjaaGreat.Am

set_option linter.all false
namespace Go.Proofs.YtdplaepmjogjjaaGreat.Am
open Go Go.RowKit Go.Proofs.YtdplaepmjogjjaaGreat
abbrev TI:CT:=.int .i64
abbrev aG(x:Int):Int:=IntKind.i64.wrap x
def Loop(Γ:aF)(nl:Nat)(L:List (Nat × Md))(x:af)(Q:Qb)(s:cr):Prop :=
 Ab (λR s=>aN Γ nl x (aY (λs'=>R (gc nl L s')) Q) s) s
theorem QHs{Γ:aF}{nl:Nat}{L:List (Nat × Md)}{x:af}{Q:Qb}{s:cr}
  (h:aN Γ nl x (aY (λs'=>Loop Γ nl L x Q (gc nl L s')) Q) s):Loop Γ nl L x Q s:=QQn h
structure du(p:Prop):Prop where
 h:p
theorem du.of{p F:Prop}(h:F)(e:F=p:=by kernel_rfl):du p:=⟨e ▸ h⟩
theorem Loop.of{Γ:aF}{nl:Nat}{L:List (Nat × Md)}{x:af}{Q:Qb}{s:cr}{F:Prop}
  (h:F) (e:F=aN Γ nl x (aY (λs'=>Loop Γ nl L x Q (gc nl L s')) Q) s:=by kernel_rfl):Loop Γ nl L x Q s:=QHs (e ▸ h)
def aq{α:Type}(d:α)(l:List α)(i:Nat):α:=l.getD i d
@[reducible] def Sh.den:Sh->Type
 | .c t=>t.den
 | .a ts=>aR ts
 | .b ts=>aR ts
 | .o _ ts=>List (aR ts)
 | .d ts=>List (aR ts)
 | .s ts=>aR ts
@[reducible] def gS:List Sh->Type
 | []=>Unit
 | s::ss=>s.den × gS ss
def SP:(t:CT)->t.den->TV
 | .sl us,l=>.ow 0 us dw l
 | .int k,x=>.c (.int k) x
 | .bool,x=>.c .bool x
 | .str,x=>.c .str x
 | .dG,x=>.c .dG x
def aR.iI:(ts:List CT)->aR ts->List TV
 | [],_=>[]
 | t::ts,x=>SP t (hd ts x)::aR.iI ts (tl ts x)
def Sh.val:(s:Sh)->s.den->TV
 | .c t,x=>.c t x
 | .a ts,x=>.a (aR.cells ts x)
 | .b ts,x=>.bx (aR.cells ts x)
 | .o e ts,x=>.ow e ts .ow x
 | .d ts,x=>.ow 0 ts dw x
 | .s ts,x=>.a (aR.iI ts x)
def jP:(ss:List Sh)->gS ss->List TV
 | [],_=>[]
 | s::ss,x=>s.val x.1::jP ss x.2
def iJ(t:CT):TV->Option t.den
 | .c t' x=>if e:t'.beq t=true then some (zJ e x) else none
 | _=>none
def jQ:(ts:List CT)->List TV->Option (aR ts)
 | [],xs=>match xs with
  | []=>some ()
  | _=>none
 | t::ts,xs=>match xs with
  | x::xs=>match iJ t x,jQ ts xs with
   | some a,some b=>some (lR ts a b)
   | _,_=>none
  | []=>none
def xl:Mo->Bool
 | .ow=>true
 | _=>false
def kK(m0:Mo->Bool)(e:TypeId)(ts:List CT):TV->Option (List (aR ts))
 | .ow e' b5 m es=>if q:CT.di b5 ts=true then(bif Nat.beq e' e&&m0 m then some (tB q es) else none) else none
 | _=>none
def xm:(t:CT)->TV->Option t.den
 | .sl us,x=>kK kE 0 us x
 | .int k,x=>iJ (.int k) x
 | .bool,x=>iJ .bool x
 | .str,x=>iJ .str x
 | .dG,x=>iJ .dG x
def kL:(ts:List CT)->List TV->Option (aR ts)
 | [],xs=>match xs with
  | []=>some ()
  | _=>none
 | t::ts,xs=>match xs with
  | x::xs=>match xm t x,kL ts xs with
   | some a,some b=>some (lR ts a b)
   | _,_=>none
  | []=>none
def Sh.dec:(s:Sh)->TV->Option s.den
 | .c t,x=>iJ t x
 | .a ts,x=>match x with
  | .a cs=>jQ ts cs
  | _=>none
 | .b ts,x=>match x with
  | .bx cs=>jQ ts cs
  | _=>none
 | .o e ts,x=>kK xl e ts x
 | .d ts,x=>kK kE 0 ts x
 | .s ts,x=>match x with
  | .a cs=>kL ts cs
  | _=>none
def kM:(ss:List Sh)->List TV->Option (gS ss)
 | [],xs=>match xs with
  | []=>some ()
  | _=>none
 | s::ss,xs=>match xs with
  | x::xs=>match s.dec x,kM ss xs with
   | some a,some b=>some (a,b)
   | _,_=>none
  | []=>none
theorem Gd{t:CT}{v:TV}{x:t.den}(h:iJ t v=some x):v = .c t x:=by
 cases v with
 | c t' y =>
  simp only[iJ]at h
  split at h
  ·rename_i e;have e':=CT.beq_eq _ _ e;subst e'
   cases h;rfl
  ·cases h
 | _=>simp[iJ]at h
theorem Ge:∀ {ts:List CT} {vs:List TV} {x:aR ts},jQ ts vs=some x->vs=aR.cells ts x
 | [],vs,x,h=>by
  cases vs with
  | nil=>rfl
  | cons v vs=>simp[jQ]at h
 | t::ts,vs,x,h=>by
  cases vs with
  | nil=>simp[jQ]at h
  | cons v vs =>
   simp only[jQ]at h
   split at h
   rotate_left
   ·cases h
   rename_i a b h1 h2
   cases h;rw[aR.cells,Gd h1,Ge h2,wE,wF]
theorem QMw{m:Mo}(h:xl m=true):m = .ow:=by
 cases m <;> first | rfl | cases h
theorem Gf{m0:Mo->Bool}{m1:Mo}(hm:∀ m,m0 m=true->m=m1){e:TypeId}{ts:List CT}{v:TV}{x:List (aR ts)}(h:kK m0 e ts v=some x):v = .ow e ts m1 x:=by
 cases v with
 | ow e' b5 m es =>
  simp only[kK]at h
  split at h
  ·rename_i q;have q':=CT.bS _ _ q;subst q'
   cases hb:Nat.beq e' e&&m0 m with
   | false=>rw[hb]at h;cases h
   | true =>
    rw[hb]at h
    cases h;rw[Bool.and_eq_true]at hb;have:=Nat.eq_of_beq_eq_true hb.1;subst this;rw[hm m hb.2];rfl
  ·cases h
 | _=>simp[kK]at h
theorem QXG{t:CT}{v:TV}{x:t.den}(h:xm t v=some x):v=SP t x:=by
 cases t with
 | sl us=>exact Gf (λ_=>Ah) h
 | _=>exact Gd h
theorem SQ:∀ {ts:List CT} {vs:List TV} {x:aR ts},kL ts vs=some x->vs=aR.iI ts x
 | [],vs,x,h=>by
  cases vs with
  | nil=>rfl
  | cons v vs=>simp[kL]at h
 | t::ts,vs,x,h=>by
  cases vs with
  | nil=>simp[kL]at h
  | cons v vs =>
   simp only[kL]at h
   split at h
   rotate_left
   ·cases h
   rename_i a b h1 h2
   cases h;rw[aR.iI,QXG h1,SQ h2,wE,wF]
theorem QG2{s:Sh}{v:TV}{x:s.den}(h:s.dec v=some x):v=s.val x:=by
 cases s with
 | c t=>exact Gd h
 | a ts =>
  cases v with
  | a cs=>exact congrArg TV.a (Ge h)
  | _=>simp[Sh.dec]at h
 | b ts =>
  cases v with
  | bx cs=>exact congrArg TV.bx (Ge h)
  | _=>simp[Sh.dec]at h
 | o e ts=>exact Gf (λ_=>QMw) h
 | d ts=>exact Gf (λ_=>Ah) h
 | s ts =>
  cases v with
  | a cs=>exact congrArg TV.a (SQ h)
  | _=>simp[Sh.dec]at h
theorem SR:∀ {ss:List Sh} {vs:List TV} {x:gS ss},kM ss vs=some x->vs=jP ss x
 | [],vs,x,h=>by
  cases vs with
  | nil=>rfl
  | cons v vs=>simp[kM]at h
 | s::ss,vs,x,h=>by
  cases vs with
  | nil=>simp[kM]at h
  | cons v vs =>
   simp only[kM]at h
   split at h
   rotate_left
   ·cases h
   rename_i a b h1 h2
   cases h;rw[jP,QG2 h1,SR h2]
def Qg(f:FuncId)(sg:List Sh)(g:gS sg->Option Prop × aB):aI:=⟨f,sg,λvs=>match kM sg vs with
 | some x=>some (g x)
 | none=>none⟩
theorem Qi{P:Program}{f:FuncId}{sg:List Sh}{g:gS sg->Option Prop × aB}(h:∀ x:gS sg,holds (g x).1->aK P f (jP sg x) (g x).2):Qf P (Qg f sg g):=by
 intro vs pre r hf hr hp;simp only[Qg]at hr
 split at hr
 ·rename_i x hx;rw[SR hx]
  cases hg:g x with
  | mk p r' =>
   rw[hg]at hr
   cases hr;have:=h x;rw[hg]at this;exact this hp
 ·cases hr
theorem QIv{P:Program}{Γ:aF}{f:FuncId}{tc:af}{rs:List (bm × Md)}{n nb no:Nat}{xs:List TV}{r:aB}{sg:List Sh}(hm:P.follows .mixedOrders=true)(hΓ:w9 P Γ)(hs:wv P f=some (tc.er,rs.map Prod.fst,n))
  (fG:ZU sg xs=true) (hN:Nat.ble xs.length n=true) (i0:ea xs=nb) (fm:eF xs=no) (h:du (aN Γ (nb+no) tc (TQ nb no rs (λr'=>r'=r)) (rj xs))):aK P f xs r:=by
 subst i0;subst fm;exact QQz hm hΓ hs fG (Nat.le_of_ble_eq_true hN) h.h
theorem QST:Tryz.prog.follows .mixedOrders=true:=by kernel_rfl
end Go.Proofs.YtdplaepmjogjjaaGreat.Am
namespace Go.Proofs.YtdplaepmjogjjaaGreat.Am
open Go Go.RowKit Go.Proofs.YtdplaepmjogjjaaGreat
theorem QG{x:Int}(h1:-9223372036854775808<=x)(h2:x<9223372036854775808):aG x=x:=IntWalk.i64_in x (by omega)
theorem ZG{α:Type}{l r:List α}{x:α}{k:Nat}(h:l.drop k=x::r)(d:α):aq d l k=x:=by
 unfold aq;have:l[k]? = some x:=by
  have:=congrArg List.head? h;simpa[List.head?_drop]using this
 rw[List.getD_eq_getElem?_getD,this];rfl
theorem An{α:Type}{l r:List α}{x:α}{k:Nat}(h:l.drop k=x::r):k<l.length:=by
 apply Classical.byContradiction;intro hn;rw[List.drop_eq_nil_of_le (by omega)]at h
 cases h
theorem Zz{α:Type}{l r:List α}{x:α}{k:Nat}(h:l.drop k=x::r):l.drop (k+1)=r:=by
 have:=congrArg List.tail h;simpa[List.tail_drop]using this
theorem Za{α:Type}(l:List α)(P:List α->Nat->Prop)(h0:P [] l.length)(hs:∀(k:Nat)(x:α)(r:List α),l.drop k=x::r->k<l.length->(∀ d,aq d l k=x)->P r (k+1)->P (x::r) k):P l 0:=by
 suffices ∀(r:List α)(k:Nat),l.drop k=r->k<=l.length->P r k from this l 0 rfl (Nat.zero_le _)
 intro r
 induction r with
 | nil =>
  intro k hk hle;have:l.length<=k:=by simpa using hk
  rw[show k=l.length by omega];exact h0
 | cons x r ih =>
  intro k hk hle;have aU:=An hk;exact hs k x r hk aU (ZG hk) (ih (k+1) (Zz hk) aU)
theorem rq(n:Nat)(P:Nat->Prop)(h0:P n)(hs:∀ k,k<n->P (k+1)->P k):P 0:=by
 suffices ∀ j k,k+j=n->P k from this n 0 (by omega)
 intro j
 induction j with
 | zero=>intro k hk;rw[show k=n by omega];exact h0
 | succ j ih=>intro k hk;exact hs k (by omega) (ih (k+1) (by omega))
class Sz(α:Type) where
 sz:α->Nat
instance:Sz Int:=⟨λ_=>0⟩
instance:Sz Bool:=⟨λ_=>0⟩
instance:Sz ByteArray:=⟨λ_=>0⟩
instance {α β:Type} [Sz α] [Sz β]:Sz (α × β):=⟨λx=>Sz.sz x.1+Sz.sz x.2⟩
def SS{α:Type}[Sz α]:List α->Nat
 | []=>0
 | x::r=>1+Sz.sz x+SS r
instance {α:Type} [Sz α]:Sz (List α):=⟨SS⟩
open Sz
@[simp] theorem QL(x:Int):sz x=0:=rfl
@[simp] theorem QY(x:Bool):sz x=0:=rfl
@[simp] theorem YK{α β:Type}[Sz α][Sz β](x:α)(y:β):sz (x,y)=sz x+sz y:=rfl
theorem QR{α β:Type}[Sz α][Sz β](x:α × β):sz x=sz x.1+sz x.2:=rfl
@[simp] theorem QY0{α:Type}[Sz α]:sz ([]:List α)=0:=rfl
@[simp] theorem Jj{α:Type}[Sz α](x:α)(r:List α):sz (x::r)=1+sz x+sz r:=rfl
@[simp] theorem Ao{α:Type}[Sz α](l r:List α):sz (l++r)=sz l+sz r:=by
 induction l with
 | nil=>simp
 | cons x l ih=>simp[ih];omega
theorem Yl{α:Type}[Sz α](l:List α):l.length<=sz l:=by
 induction l with
 | nil=>simp
 | cons x l ih=>simp;omega
theorem ZD(l:List Int):sz l=l.length:=by
 induction l with
 | nil=>rfl
 | cons x l ih=>simp[ih];omega
theorem Ap{α:Type}[Sz α]{l:List α}{x:α}(h:x∈l):sz x<sz l:=by
 induction l with
 | nil=>cases h
 | cons y l ih =>
  rcases List.mem_cons.1 h with rfl | h
  ·simp;omega
  ·have:=ih h;simp;omega
theorem xn{α:Type}[Sz α]{l r:List α}{x:α}{k:Nat}(h:l.drop k=x::r):sz x<sz l:=Ap (List.mem_of_mem_drop (by rw[h];exact List.mem_cons_self))
theorem Gg{α:Type}[Sz α](l:List α)(k:Nat):sz (l.take k)+sz (l.drop k)=sz l:=by
 rw[<- Ao,List.take_append_drop]
theorem Gh{α:Type}[Sz α](l:List α)(k:Nat):sz (l.take k)<=sz l:=by have:=Gg l k;omega
theorem QYO{α:Type}[Sz α](l:List α)(k:Nat):sz (l.drop k)<=sz l:=by have:=Gg l k;omega
theorem Zf:(cc:Nat)=4294967296:=rfl
theorem gT:((cc:Nat):Int)=4294967296:=rfl
theorem au{α:Type}{R:α->aB}{x y:α}(h:x=y):R x=R y:=by rw[h]
end Go.Proofs.YtdplaepmjogjjaaGreat.Am
namespace Go.Proofs.YtdplaepmjogjjaaGreat.Am
open Go Go.RowKit
instance (n:Nat):OfNat bD n:=⟨.s n⟩
abbrev aL(n:Int):TV:=.c TI n
abbrev bE(b:Bool):TV:=.c .bool b
abbrev bc(ts:List CT)(x:List (aR ts)):TV:=.c (.sl ts) x
def ar(n:Int):bD:=.k (.c TI n)
def a0(b:Bool):bD:=.k (.c .bool b)
def aC(d:Nat)(x:d7):bz:=.op (some d) x
def ab(d:Nat)(x:bD):bz:=.op (some d) (.eH x)
def an(d:Nat)(x:bD)(n:Nat):bz:=.op (some d) (.load x n false)
def a7(d:Nat)(x:bD)(n:Nat):bz:=.op (some d) (.load x n true)
def ak(d:Nat)(x:bD)(o:Nat):bz:=.op (some d) (.kp x o)
def a9(d:Nat)(x:bD):bz:=.op (some d) (.len x)
def aw(d:Nat)(o:BinOp)(x y:bD):bz:=.op (some d) (.bin o x y)
def aT(x v:bD)(n:Nat):bz:=.op none (.store x v n)
def aD(d:Nat)(f:FuncId)(l:List bD):bz:=.op (some d) (.call f l)
def aZ(d:Nat)(x i:bD)(ts:List CT):bz:=.op (some d) (.jv x i ts)
def bL(d:Nat)(x:bD):bz:=.op (some d) (.not x)
def bF(d:Nat)(x:bD)(i:Nat):bz:=.op (some d) (.ext x i)
def ag:List af->af
 | []=>.skip
 | [x]=>x
 | x::y::r=>.seq x (ag (y::r))
def z01:CT->TV
 | .int k=>.c (.int k) (0:Int)
 | .bool=>.c .bool false
 | .str=>.c .str ⟨#[]⟩
 | .dG=>.c .dG ()
 | .sl ts=>.n ts
def bG:List CT->List TV
 | []=>[]
 | t::ts=>z01 t::bG ts
abbrev aJ(c:Bool)(A B:Prop):Prop:=(c=true->A)/\(c=false->B)
def eW(l:List Nat):List (Nat × Md):=l.map λi=>(i,.one .d)
def dH(n:Nat):List jt:=List.replicate n .d
@[reducible] def b7(v:TV):aB:=⟨v,[],[],false,[]⟩
@[reducible] def fQ(v:TV):aB:=⟨v,[],[],true,[]⟩
theorem tcg{P:Program}{Γ:aF}{f:FuncId}{tc:af}{rs:List (bm × Md)}{n nb no:Nat}{xs:List TV}{r:aB}{sg:List Sh}(hm:P.follows .mixedOrders=true)(hΓ:w9 P Γ)(hs:wv P f=some (tc.er,rs.map Prod.fst,n))
  (hq:((ZU sg xs&&Nat.ble xs.length n)&&(Nat.beq (ea xs) nb&&Nat.beq (eF xs) no))=true) (h:du (aN Γ (nb+no) tc (TQ nb no rs (λr'=>r'=r)) (rj xs))):aK P f xs r:=by
 simp only[Bool.and_eq_true]at hq;exact QIv hm hΓ hs hq.1.1 hq.1.2 (Nat.eq_of_beq_eq_true hq.2.1) (Nat.eq_of_beq_eq_true hq.2.2) h
theorem bw(Γ:aF)(tc:af)(rs:List (bm × Md))(nb no n:Nat)(row:aI){f:FuncId}{xs:List TV}{r:aB}(hΓ:w9 Tryz.prog Γ)(F:(aB->Prop)->Prop)(h:Ak xs->F (λr'=>r'=r))
  (hx:xs.all TV.ng=true:=by exact rfl) (hs:wv Tryz.prog f=some (tc.er,rs.map Prod.fst,n):=by kernel_rfl)
  (hq:((ZU row.sg xs&&Nat.ble xs.length n)&&(Nat.beq (ea xs) nb&&Nat.beq (eF xs) no))=true:=by kernel_rfl) (e:∀ K,F K=aN Γ (nb+no) tc (TQ nb no rs K) (rj xs):=by intro K;kernel_rfl):aK Tryz.prog f xs r :=
 QWG hx λhb=>tcg QST hΓ hs hq ⟨e _ ▸ h hb⟩
theorem kc{P:Program}{row:aI}{Γ:List aI}(h:Qf P row)(hs:gR P Γ):gR P (row::Γ):=gR.cons h hs
theorem kn{P:Program}:gR P []:=gR.nil
end Go.Proofs.YtdplaepmjogjjaaGreat.Am
namespace Go.Proofs.YtdplaepmjogjjaaGreat.Am
open Sz
abbrev bp:=Int × Int
abbrev Qm:=Int × List Int
abbrev aH:=Int × Int × Int × List Int
abbrev QD:=Int × List (List Int)
abbrev Qo:=List Int × List Int
abbrev Qd:=Int × List Qm
abbrev QO:=List (List Int) × Int × Bool
def QIl{α:Type}(_:α):Bool:=true
def Gi{α β:Type}(_:α)(_:β):Bool:=true
def QYM{α β γ:Type}(_:α)(_:β)(_:γ):Bool:=true
def QFX{α β γ δ:Type}(_:α)(_:β)(_:γ)(_:δ):Bool:=true
def QVt{α β γ δ ε:Type}(_:α)(_:β)(_:γ)(_:δ)(_:ε):Bool:=true
def Z7(n:Nat)(left:Int):Int:=if(n:Int)<=left then left-n else -1
def bg{α:Type}[Sz α](x:α)(left:Int):Int:=Z7 (sz x) left
def pl(left:Int):Prop:=-1<=left/\left<=1048576
def bJ{α:Type}[Sz α](_:α)(left:Int):Prop:=pl left
def aX{α:Type}[DecidableEq α](x y:α):Bool:=decide (x=y)
def bA{α:Type}[Sz α](x:α):Prop:=sz x<=1048576
def bh(x a b:Int):Bool:=decide (a<=x)&&decide (x<=b)
def Zt(x:Int):Bool:=decide (-2147483647<=x)&&decide (x<=2147483647)
def Z8(v:List Int):Bool:=v.all Zt
def QK(v:List Int):Bool:=bh v.length 1 6&&Z8 v
def Yo(x:Qm):Bool:=QK x.2&&decide (0<=x.1)&&decide (x.1<5)
def Q0(q:Qd):Bool:=decide (1<=q.1)&&decide (q.1<=5)&&decide ((q.2.length:Int)<=q.1)&&q.2.all Yo
end Go.Proofs.YtdplaepmjogjjaaGreat.Am
namespace Go.Proofs.YtdplaepmjogjjaaGreat.Am
open Go Sz
abbrev Zx:=List aH
abbrev Qc:=Int × List bp × List aH × Bool × Bool × List QD × List (List Int) × List Int × List Int × List Int × List Int × List (List Int) × Int × Bool
abbrev ZJ:=List aH × List Int × Int × List Bool × List Int × List Int
abbrev Qk:=List Qo × List Qc × List Qd × List Qd
abbrev cd:=Int × Int × List Int
abbrev b6:aH:=(0,0,0,[])
abbrev eG:bp:=(0,0)
abbrev QT:QD:=(0,[])
abbrev QW:Qo:=([],[])
abbrev Qx:Qd:=(0,[])
abbrev Qz:Qc:=(0,[],[],false,false,[],[],[],[],[],[],[],0,false)
abbrev QQ:List CT:=[.int .i64,.int .i64]
abbrev Qu:List CT:=[.int .i64,.sl [.int .i64]]
abbrev aM:List CT:=[.int .i64,.int .i64,.int .i64,.sl [.int .i64]]
abbrev QE:List CT:=[.int .i64,.sl [.sl [.int .i64]]]
abbrev QF:List CT:=[.sl [.int .i64],.sl [.int .i64]]
abbrev Qh:List CT:=[.int .i64,.sl Qu]
abbrev Zj:List CT:=[.sl [.sl [.int .i64]],.int .i64,.bool]
abbrev Qe:List CT:=[.int .i64,.sl QQ,.sl aM,.bool,.bool,.sl QE,.sl [.sl [.int .i64]],.sl [.int .i64],.sl [.int .i64],.sl [.int .i64],.sl [.int .i64],.sl [.sl [.int .i64]],.int .i64,.bool]
abbrev QM:List CT:=[.sl QF,.sl Qe,.sl Qh,.sl Qh]
set_option synthInstance.maxSize 2000
set_option synthInstance.maxHeartbeats 200000
instance:DecidableEq aH:=inferInstance
instance:DecidableEq QD:=inferInstance
instance:DecidableEq Qd:=inferInstance
abbrev xp:=List Int × List Int × List Int × List Int × QO
abbrev xq:=List QD × List (List Int) × xp
abbrev xr:=List aH × Bool × Bool × xq
instance:DecidableEq QO:=inferInstance
instance:DecidableEq xp:=inferInstance
instance:DecidableEq xq:=inferInstance
instance:DecidableEq xr:=inferInstance
instance:DecidableEq Qc:=(inferInstance:DecidableEq (Int × List bp × xr))
instance:DecidableEq ZJ:=inferInstance
instance:DecidableEq Qk:=inferInstance
instance:Sz Qc:=inferInstance
instance:Sz ZJ:=inferInstance
instance:Sz Qk:=inferInstance
abbrev bT(s:Qc):=s.1
abbrev Qt(s:Qc):=s.2.1
abbrev aE(s:Qc):=s.2.2.1
abbrev Qn(s:Qc):=s.2.2.2.1
abbrev Qp(s:Qc):=s.2.2.2.2.1
abbrev Qj(s:Qc):=s.2.2.2.2.2.1
abbrev QB(s:Qc):=s.2.2.2.2.2.2.1
abbrev sX(s:Qc):=s.2.2.2.2.2.2.2.1
abbrev sY(s:Qc):=s.2.2.2.2.2.2.2.2.1
abbrev sG(s:Qc):=s.2.2.2.2.2.2.2.2.2.1
abbrev sD(s:Qc):=s.2.2.2.2.2.2.2.2.2.2.1
abbrev Qy(s:Qc):=s.2.2.2.2.2.2.2.2.2.2.2.1
abbrev Qw(s:Qc):=s.2.2.2.2.2.2.2.2.2.2.2.2.1
abbrev bf(s:Qc):=s.2.2.2.2.2.2.2.2.2.2.2.2.2
abbrev lY(s:Qc):QO:=(Qy s,Qw s,bf s)
abbrev JT(c:ZJ):=c.1
abbrev JL(c:ZJ):=c.2.1
abbrev Gj(c:ZJ):=c.2.2.1
abbrev SU(c:ZJ):=c.2.2.2.1
abbrev QRC(c:ZJ):=c.2.2.2.2.1
abbrev QA(p:Qk):=p.1
abbrev QC(p:Qk):=p.2.1
abbrev Qq(p:Qk):=p.2.2.1
abbrev Qr(p:Qk):=p.2.2.2
abbrev Zm(s:Qc):Zx:=s.2.2.1
def QH(v:List Int)(n:Int):Bool:=QK v&&((v.length:Int)==n)
def Yn(v:List Int)(n:Int):Bool:=((v.length:Int)==0)||QH v n
def Ji:List QD->Int->Int->Int
 | [],_,_=>-1
 | x::r,m,k=>if x.1=m then k else Ji r m (k+1)
def QJ(l:List QD)(m:Int):Int:=Ji l m 0
def YG(o:aH):Int :=
 if bh o.2.1 1 6&&bh o.2.2.1 1 6 then(if o.1=1\/o.1=5 then o.2.1*o.2.2.1 else if o.1=2 then o.2.1 else if o.1=4 then 1 else 0) else 0
def Zh(o:aH):Bool :=
 bh o.1 1 5&&bh o.2.1 1 6&&bh o.2.2.1 1 6&&(o.1==1||o.2.1==o.2.2.1)&&((o.2.2.2.length:Int)==YG o)&&Z8 o.2.2.2
def YJ:Option Int->List aH->Bool
 | _,[]=>true
 | p,o::r=>Zh o&&(match p with | none=>true | some q=>q==o.2.1)&&YJ (some o.2.2.1) r
def Zc(m:Zx):Bool:=bh m.length 1 8&&YJ none m
def ZM(m:Zx):Int:=if Zc m then(aq b6 m 0).2.1 else 0
def Zu(m:Zx):Int:=if Zc m then(aq b6 m (m.length-1)).2.2.1 else 0
def SV(m:Zx)(p:Qo):Bool:=Zc m&&QH p.1 (ZM m)&&QH p.2 (Zu m)
def QGx(m:Zx)(b:List Qo):Bool:=Zc m&&bh b.length 1 5&&b.all (SV m)
def SW(n:Int):Option Int->List Int->Bool
 | _,[]=>true
 | p,c::r=>bh c 1 n&&(match p with | none=>true | some q=>decide (q<c))&&SW n (some c) r
def ru(m:Zx)(cC:List Int):Bool:=Zc m&&SW (m.length-1) none cC
def SX(m:Zx)(cC:List Int)(s:Int):Int × Int :=
 if ru m cC&&bh s 0 cC.length then(if 0<s then aq 0 cC (s.toNat-1) else 0,if s<cC.length then aq 0 cC s.toNat else m.length) else(0,0)
def slice{α:Type}(l:List α)(a b:Int):List α:=(l.drop a.toNat).take (b.toNat-a.toNat)
def Aq(c:ZJ):Int:=if ru c.1 c.2.1 then aG (c.2.1.length+1) else 0
def SY(c:ZJ)(s:Int):Int :=
 let r:=SX c.1 c.2.1 s
 aG (((slice c.1 r.1 r.2).map λo=>o.2.1).sum+if r.1<r.2 then(aq b6 c.1 (r.2.toNat-1)).2.2.1 else 0)
def SZ(c:ZJ)(s:Int):Bool:=decide (0<=s)&&decide (s<c.2.2.2.1.length)&&aq false c.2.2.2.1 s.toNat
def S5(c:ZJ)(s:Int):Int × Int :=
 let r:=SX c.1 c.2.1 s
 if r.1=r.2 then(0,0) else((aq b6 c.1 r.1.toNat).2.1,(aq b6 c.1 (r.2.toNat-1)).2.2.1)
def QIC(c:ZJ)(s:Int):Int:=if SZ c s then(S5 c s).1 else SY c s
def jR(a b:Int):Int:=if b<a then b else a
def jS(a b:Int):Int:=if a<b then b else a
def QUv(c:ZJ)(s f9:Int):Int :=
 if bh s 0 (Aq c-1)&&bh f9 1 5&&decide (Aq c<=4) then
  (let k:=if c.2.2.1=2 then jR f9 (Aq c-s) else f9
   let z:=S5 c s
   aG (aG (aG (k*QIC c s)+jS z.1 z.2)+if SZ c s then SY c s else 0))
 else 0
def QUt(c:ZJ):Bool:=(c.2.2.2.2.1.length==c.2.1.length)&&c.2.2.2.2.1.all λn=>bh n 1 5
def S6(c:ZJ)(f9:Int):List Int->Int->Bool
 | [],_=>true
 | n::r,s=>bh n (QUv c s f9) 100000&&S6 c f9 r (s+1)
def QRD(c:ZJ)(f9:Int):Bool:=((c.2.2.2.2.2.length:Int)==Aq c)&&S6 c f9 c.2.2.2.2.2 0
def S7(st s mi:Int):Bool:=bh st 1 4&&bh s 0 (st-1)&&bh mi 1 5
def QLw(ds st s mi:Int):Int:=if S7 st s mi then(if ds=2 then jR mi (st-1-s) else mi) else 0
def S8(st s m:Int):List bp:=(if 0<s then [(1,m)] else [])++[(2,m)]++(if s<st-1 then [(3,m)] else [])
def QJq(st s m:Int)(nF:Bool):List bp:=(if s<st-1 then [(4,m)] else [])++(if nF then [(5,m)] else [])++[(6,m)]++(if 0<s then [(7,m)] else [])
def QWE(ds st s mi:Int)(nF:Bool):List bp :=
 if bh ds 1 2&&S7 st s mi then
  (let w:=(QLw ds st s mi).toNat
   ((List.range w).flatMap λm:Nat=>S8 st s (m:Int))++((List.range mi.toNat).flatMap λm:Nat=>(if(m:Int)+w<mi then S8 st s ((m:Int)+w) else [])++QJq st s (m:Int) nF)++[(8,0)])
 else []
def YR:List aH->List (List Int)->Bool
 | o::os,r::rs=>(r.length==o.2.2.2.length)&&YR os rs
 | _,_=>true
def Y0(m:Zx)(rows:List (List Int)):Bool:=(rows.length==m.length)&&YR m rows
def YY(ops:List aH)(k:Nat):Int:=if k<ops.length then(aq b6 ops k).2.1 else(aq b6 ops (ops.length-1)).2.2.1
def YF(ops:List aH):Nat->List (List Int)->Bool
 | _,[]=>true
 | k,r::rs=>QH r (YY ops k)&&YF ops (k+1) rs
def ZS(ops:List aH)(rows:List (List Int))(n:Int):Bool:=YF ops 0 (rows.take n.toNat)
def xt(ops:List aH)(rows:List (List Int))(n:Int):Prop:=1<=ops.length/\0<=n/\n<=rows.length
def ZH(s:Qc):Int:=if s.2.2.2.2.1 then 1 else s.2.2.1.length+1
def Yi(s:Qc)(x:QD):Bool:=((x.2.length:Int)==ZH s)&&ZS s.2.2.1 x.2 (ZH s)
def QU(s:Qc):Bool :=
 Zc s.2.2.1&&bh s.1 0 s.2.1.length&&Y0 s.2.2.1 s.2.2.2.2.2.2.2.2.2.2.2.1&&s.2.2.2.2.2.1.all (Yi s) &&
  (Yn s.2.2.2.2.2.2.2.1 (ZM s.2.2.1)&&Yn s.2.2.2.2.2.2.2.2.2.2.1 (ZM s.2.2.1)&&Yn s.2.2.2.2.2.2.2.2.1 (Zu s.2.2.1)&&Yn s.2.2.2.2.2.2.2.2.2.1 (Zu s.2.2.1))
def ry(s:Qc):bp:=if bh s.1 0 (s.2.1.length-1) then aq eG s.2.1 s.1.toNat else(0,0)
def Ql(p:Qk)(s:Int):bp:=if bh s 0 (p.2.1.length-1) then ry (aq Qz p.2.1 s.toNat) else(0,0)
def Jk(x:Qo):Bool:=QK x.1&&QK x.2
def Jd(nb:Int):List Qc->Bool
 | []=>true
 | s::r=>QU s&&(s.2.2.2.1==decide (r.length=0))&&s.2.1.all (λx=>bh x.2 0 (nb-1))&&Jd nb r
def Zk(p:Qk):Bool :=
 bh p.2.1.length 1 4&&(p.2.2.1.length+1==p.2.1.length)&&(p.2.2.2.length+1==p.2.1.length)&&bh p.1.length 1 5 &&
  (p.1.all Jk&&(p.2.2.1.all Q0&&p.2.2.2.all Q0)&&Jd p.1.length p.2.1)
def oW(q:Qd):Bool:=decide ((q.2.length:Int)<q.1)
def Y8(s:Qc):Bool:=decide ((s.2.1.length:Int)-1<=s.1)
def oX(p:Qk):Bool:=p.2.1.all Y8
def Jr(p:Qk)(s kind:Int):Bool :=
 let n:Int:=p.2.1.length
 if kind=1 then decide (0<s)&&decide (0<(aq Qx p.2.2.1 (s.toNat-1)).2.length)
 else if kind=3 then decide (s<n-1)&&oW (aq Qx p.2.2.1 s.toNat)
 else if kind=4 then decide (s<n-1)&&decide (0<(aq Qx p.2.2.2 s.toNat).2.length)
 else if kind=7 then decide (0<s)&&oW (aq Qx p.2.2.2 (s.toNat-1))
 else if kind=2\/kind=5\/kind=6 then true
 else if kind=8 then oX p else false
def ZI(p:Qk)(s:Int):Bool:=Zk p&&bh s 0 (p.2.1.length-1)&&Jr p s (Ql p s).1
end Go.Proofs.YtdplaepmjogjjaaGreat.Am
namespace Go.Proofs.YtdplaepmjogjjaaGreat.Am
open Go Sz
theorem Gk:pl 1048576:=⟨by omega,by omega⟩
theorem Jp{n:Nat}{left:Int}(h:pl left):pl (Z7 n left):=by
 unfold Z7 pl at *
 split <;> omega
theorem Jv{α β:Type}[Sz α][Sz β]{x:α}{y:β}{left:Int}(hl:0<=bg x left):bg y (bg x left)=bg (x,y) left:=by
 unfold bg Z7 at *;rw[YK]
 split at hl
 ·rename_i h1;rw[if_pos h1]
  split <;> split <;> omega
 ·omega
theorem Z0{α γ:Type}[Sz α][Sz γ]{x:α}{z:γ}{left:Int}(hl:bg x left<0)(h:sz x<=sz z)(hp:-1<=left):-1=bg z left:=by
 unfold bg Z7 at *
 split at hl
 ·omega
 ·rw[if_neg (by omega)]
theorem QRx{α:Type}[Sz α]{x:α}{left:Int}(h:¬ bg x left<0)(hl:left<=1048576):bA x:=by
 unfold bg Z7 at h;unfold bA
 split at h <;> omega
theorem QOZ{l:List Int}(h:¬ (l.length:Int)>1048576):bA l:=by
 unfold bA;rw[ZD];omega
theorem QRq{α:Type}[Sz α](l:List α)(h:∀ x:α,sz x=0):sz l=l.length:=by
 induction l with
 | nil=>rfl
 | cons x l ih=>simp[ih,h];omega
theorem S9{α:Type}[Sz α]{a:List α}{left:Int}(h:bJ a left)(hb:a.length<=9223372036854775807):aG (left-(a.length:Int))=left-a.length:=by
 unfold bJ pl at h;exact QG (by omega) (by omega)
theorem Ta{α:Type}[Sz α]{a:List α}{left:Int}{Q:Int->Prop}(hf:∀ x:α,sz x=0)(h:bJ a left)(hb:a.length<=9223372036854775807)(hq:Q (bg a left)) :
  ((decide (aG (left-(a.length:Int))<(0:Int))=true->Q (-1))/\(decide (aG (left-(a.length:Int))<(0:Int))=false->Q (aG (left-(a.length:Int))))):=by
 rw[S9 h hb];unfold bg Z7 at hq;rw[QRq a hf]at hq;constructor
 ·intro h1;simp only[decide_eq_true_eq]at h1;rw[if_neg (by omega)]at hq;exact hq
 ·intro h1;simp only[decide_eq_false_iff_not]at h1;rw[if_pos (by omega)]at hq;exact hq
theorem rz{α:Type}[Sz α](d:α){a:List α}{left:Int}{Q:Int->Prop}{A:Int->Int->Prop}(h:bJ a left)(hb:a.length<=9223372036854775807)
  (hA:∀(l i:Int),((decide (i<(a.length:Int))=true->((((0:Int)<=i/\Int.toNat i<a.length)/\(bJ (aq d a (Int.toNat i)) l))/\((decide (bg (aq d a (Int.toNat i)) l<(0:Int))=true->Q (-1))/\(decide (bg (aq d a (Int.toNat i)) l<(0:Int))=false->A (bg (aq d a (Int.toNat i)) l) (aG (i+(1:Int)))))))/\(decide (i<(a.length:Int))=false->Q l))->A l i)
  (hq:Q (bg a left)) :
  ((decide (aG (left-(a.length:Int))<(0:Int))=true->Q (-1))/\(decide (aG (left-(a.length:Int))<(0:Int))=false->A (aG (left-(a.length:Int))) 0)):=by
 rw[S9 h hb];constructor
 ·intro h1;simp only[decide_eq_true_eq]at h1;have hle:=Yl a;rw[bg,Z7,if_neg (by omega)]at hq;exact hq
 ·intro h1;simp only[decide_eq_false_iff_not]at h1;have key:∀ l:Int,0<=l->l<=1048576->(if(sz a-a.length:Int)<=l then l-(sz a-a.length:Int) else -1)=bg a left->A l (0:Nat):=by
   refine Za a (λr k=>∀ l:Int,0<=l->l<=1048576->(if(sz r-r.length:Int)<=l then l-(sz r-r.length:Int) else -1)=bg a left->A l k) ?_ ?_
   ·intro l hl oY he;refine hA l _ ⟨λhc=>by simp at hc,λ_=>?_⟩;have e0:((sz ([]:List α):Nat):Int)-(([]:List α).length:Nat)=0:=rfl;rw[e0,if_pos hl]at he;rw[<- he]at hq;simpa using hq
   ·intro k x r hk aU hg ih l hl oY he;have hr:=Yl r;have e1:((sz (x::r):Nat):Int)-((x::r).length:Nat)=sz x+(sz r-r.length):=by
     rw[Jj,List.length_cons];omega
    rw[e1]at he;refine hA l _ ⟨λ_=>?_,λhc=>by simp at hc;omega⟩;rw[Int.toNat_natCast,hg d];refine⟨⟨⟨by omega,aU⟩,by unfold bJ pl;omega⟩,λh2=>?_,λh2=>?_⟩
    ·simp only[decide_eq_true_eq]at h2;unfold bg Z7 at h2
     split at h2
     ·omega
     ·rw[if_neg (by omega)]at he;rw[he];exact hq
    ·simp only[decide_eq_false_iff_not]at h2;unfold bg Z7 at h2 ⊢
     split at h2
     rotate_left
     ·omega
     rw[if_pos (by assumption),QG (by omega) (by omega),show(k:Int)+1=(k+1:Nat) by omega];refine ih _ (by omega) (by omega) ?_;rw[<- he]
     split <;> split <;> omega
  have:=key (left-a.length) (by omega) (by unfold bJ pl at h;omega) (by
   unfold bg Z7
   split <;> split <;> omega)
  exact this
theorem nG{α:Type}[DecidableEq α](d:α){a b:List α}{Q:Bool->Prop}{A:Int->Prop}{E:α->α->Bool}(hE:∀ x y,E x y=decide (x=y))(hb:a.length<=9223372036854775807)
  (hA:∀(i:Int),((decide (i<(a.length:Int))=true->((((0:Int)<=i/\Int.toNat i<a.length)/\((0:Int)<=i/\Int.toNat i<b.length))/\(((!(E (aq d a (Int.toNat i)) (aq d b (Int.toNat i))))=true->Q false)/\((!(E (aq d a (Int.toNat i)) (aq d b (Int.toNat i))))=false->A (aG (i+(1:Int)))))))/\(decide (i<(a.length:Int))=false->Q true))->A i)
  (hq:Q (aX a b)):((((a.length:Int) != (b.length:Int))=true->Q false)/\(((a.length:Int) != (b.length:Int))=false->A 0)):=by
 constructor
 ·intro h;have:a≠b:=by rintro rfl;simp at h
  simpa[aX,this]using hq
 ·intro h;have hl:a.length=b.length:=by
   have h:((a.length:Int)==(b.length:Int))=true:=by simpa[bne]using h
   have:=of_decide_eq_true (by simpa using h:decide ((a.length:Int)=b.length)=true);omega
  have key:aX (a.drop 0) (b.drop 0)=aX a b->A (0:Nat):=by
   refine Za a (λr k=>aX r (b.drop k)=aX a b->A k) ?_ ?_
   ·intro he;refine hA _ ⟨λhc=>by simp at hc,λ_=>?_⟩;rw[<- he]at hq;simpa[aX,hl]using hq
   ·intro k x r hk aU hg ih he;refine hA _ ⟨λ_=>?_,λhc=>by simp at hc;omega⟩;obtain⟨y,s,fc⟩:∃ y s,b.drop k=y::s:=by
     cases fc:b.drop k with
     | nil=>have:=congrArg List.length fc;simp at this;omega
     | cons y s=>exact⟨y,s,rfl⟩
    rw[Int.toNat_natCast,hg d,ZG fc d,hE];refine⟨⟨⟨by omega,aU⟩,by omega,by omega⟩,λh1=>?_,λh1=>?_⟩
    ·have dN:x≠y:=by simpa using h1
     rw[<- he,fc]at hq;simpa[aX,dN]using hq
    ·have hxy:x=y:=by simpa using h1
     rw[QG (by omega) (by omega),show(k:Int)+1=(k+1:Nat) by omega];refine ih ?_;rw[<- he,fc,Zz fc];simp[aX,hxy]
  exact key rfl
theorem QYl{a b:List Int}{Q:Bool->Prop}{A:Int->Prop}(hb:a.length<=9223372036854775807)
  (hA:∀(i:Int),((decide (i<(a.length:Int))=true->((((0:Int)<=i/\Int.toNat i<a.length)/\((0:Int)<=i/\Int.toNat i<b.length))/\((((aq (0:Int) a (Int.toNat i)) != (aq (0:Int) b (Int.toNat i)))=true->Q false)/\(((aq (0:Int) a (Int.toNat i)) != (aq (0:Int) b (Int.toNat i)))=false->A (aG (i+(1:Int)))))))/\(decide (i<(a.length:Int))=false->Q true))->A i)
  (hq:Q (aX a b)):((((a.length:Int) != (b.length:Int))=true->Q false)/\(((a.length:Int) != (b.length:Int))=false->A 0)) :=
 nG (0:Int) (E:=λx y=>x==y) (λx y=>by rw[Bool.eq_iff_iff];simp) hb (λi h=>hA i h) hq
theorem oZ{α:Type}(d:α){l:List α}{c p:α->Bool}{Q:Bool->Prop}{A:Int->Prop}{e:Bool}(hb:l.length<=9223372036854775807)(hc:∀ x,c x = !p x)
  (hA:∀(i:Int),((decide (i<(l.length:Int))=true->(((0:Int)<=i/\Int.toNat i<l.length)/\((c (aq d l (Int.toNat i))=true->Q false)/\(c (aq d l (Int.toNat i))=false->A (aG (i+(1:Int)))))))/\(decide (i<(l.length:Int))=false->Q e))->A i)
  (hq:Q (l.all p&&e)):A 0:=by
 have key:(l.drop 0).all p=l.all p->A (0:Nat):=by
  refine Za l (λr k=>r.all p=l.all p->A k) ?_ ?_
  ·intro he;refine hA _ ⟨λh=>by simp at h,λ_=>?_⟩;rw[<- he]at hq;simpa using hq
  ·intro k x r hk aU hg ih he;refine hA _ ⟨λ_=>?_,λh=>by simp at h;omega⟩;rw[Int.toNat_natCast,hg,QG (by omega) (by omega)];refine⟨⟨by omega,aU⟩,λh=>?_,λh=>ih ?_⟩
   ·have hp:p x=false:=by simpa[hc]using h
    have:l.all p=false:=by rw[<- he,List.all_cons,hp];rfl
    rw[this]at hq;exact hq
   ·have hp:p x=true:=by simpa[hc]using h
    rw[<- he,List.all_cons,hp];rfl
 exact key rfl
end Go.Proofs.YtdplaepmjogjjaaGreat.Am

set_option linter.all false
namespace Go.Proofs.YtdplaepmjogjjaaGreat.Am
open Go Sz
theorem rA{a b:Int}(h1:1<=a)(h2:a<=6)(h3:1<=b)(h4:b<=6):1<=a*b/\a*b<=36:=by
 have:a=1\/a=2\/a=3\/a=4\/a=5\/a=6:=by omega
 rcases this with rfl | rfl | rfl | rfl | rfl | rfl <;> omega
theorem Zb{x a b:Int}:bh x a b=true↔a<=x/\x<=b:=by simp[bh]
theorem rB{n:Nat}(h1:1<=n)(h2:n<=9223372036854775807):Int.toNat (aG ((n:Int)-1))=n-1/\(0:Int)<=aG ((n:Int)-1):=by
 rw[QG (by omega) (by omega)];omega
theorem Yv{m:Zx}(h:Zc m=true):1<=m.length/\m.length<=8:=by
 simp only[Zc,Bool.and_eq_true,Zb]at h;omega
def JV(m:Zx)(k:Nat):Option Int:=if k=0 then none else some (aq b6 m (k-1)).2.2.1
theorem Tb{o:aH}(h:Zh o=true):1<=o.2.1/\o.2.1<=6/\1<=o.2.2.1/\o.2.2.1<=6:=by
 simp only[Zh,Bool.and_eq_true,Zb]at h;omega
theorem Ar{α:Type}{l:List α}{i:Nat}{x:α}(h:l[i]? = some x)(d:α):aq d l i=x:=by
 unfold aq;rw[List.getD_eq_getElem?_getD,h];rfl
theorem Gl{α:Type}{l:List α}{i:Nat}(h:i<l.length)(d:α):l[i]? = some (aq d l i):=by
 unfold aq;rw[List.getD_eq_getElem?_getD,List.getElem?_eq_getElem h];rfl
theorem JI{α:Type}{l:List α}{i:Nat}(h:i<l.length)(d:α):aq d l i∈l:=List.mem_of_getElem? (Gl h d)
theorem QE7{α:Type}(d x:α)(l:List α)(i:Nat):aq d (x::l) (i+1)=aq d l i:=by simp[aq]
theorem As{α:Type}(d x:α)(l:List α):aq d (x::l) 0=x:=by simp[aq]
theorem Gm:∀ {l:List aH} {p:Option Int},YJ p l=true->∀(i:Nat)(x:aH),l[i]? = some x->Zh x=true/\(∀ y:aH,l[i+1]? = some y->y.2.1=x.2.2.1)
 | [],p,h,i,x,hx=>by simp at hx
 | o::r,p,h,i,x,hx=>by
  simp only[YJ,Bool.and_eq_true]at h
  cases i with
  | zero =>
   simp at hx;subst hx;refine⟨h.1.1,λy hy=>?_⟩
   cases r with
   | nil=>simp at hy
   | cons q r =>
    simp at hy;subst hy;have:=h.2;simp only[YJ,Bool.and_eq_true]at this;have:=this.1.2;simp at this;omega
  | succ i =>
   have:=Gm h.2 i x (by simpa using hx);exact⟨this.1,λy hy=>this.2 y (by simpa using hy)⟩
theorem QIY{m:Zx}(h:Zc m=true){k:Nat}(h0:0<k)(hk:k<=m.length):YY m k=(aq b6 m (k-1)).2.2.1:=by
 unfold YY;by_cases aU:k<m.length
 ·rw[if_pos aU];simp only[Zc,Bool.and_eq_true]at h;have:=(Gm h.2 (k-1) _ (Gl (by omega) b6)).2 (aq b6 m k) (by rw[show k-1+1=k by omega];exact Gl aU b6);exact this
 ·rw[if_neg aU,show m.length=k by omega]
theorem QMV{m:Zx}(h:Zc m=true):YY m 0=(aq b6 m 0).2.1:=by
 have:=Yv h;unfold YY;rw[if_pos (by omega)]
theorem QNT{α:Type}(l:List α)(a b:Int)(h0:0<=a)(h1:a<=b)(h2:b<=l.length)(P:List α->Nat->Prop)(he:P [] b.toNat)
  (hs:∀(k:Nat)(x:α)(r:List α),a<=k->(k:Int)<b->k<l.length->(∀ d,aq d l k=x)->P r (k+1)->P (x::r) k):P (slice l a b) a.toNat:=by
 suffices ∀(n k:Nat),k+n=b.toNat->a.toNat<=k->P ((l.drop k).take n) k from this (b.toNat-a.toNat) a.toNat (by omega) (Nat.le_refl _)
 intro n
 induction n with
 | zero=>intro k hk _;rw[List.take_zero,show k=b.toNat by omega];exact he
 | succ n ih =>
  intro k hk hak;have aU:k<l.length:=by omega
  obtain⟨x,r,hx⟩:∃ x r,l.drop k=x::r:=by
   cases hx:l.drop k with
   | nil=>have:=congrArg List.length hx;simp at this;omega
   | cons x r=>exact⟨x,r,rfl⟩
  rw[hx,List.take_succ_cons];have:=ih (k+1) (by omega) (by omega);rw[Zz hx]at this;exact hs k x _ (by omega) (by omega) aU (ZG hx) this
def rC(b:Bool)(x y:Prop):Prop:=match b with | true=>x | false=>y
theorem At{α:Type}(d:α){l:List α}{f:α->Bool}:l.all f=true↔∀ j,j<l.length->f (aq d l j)=true:=by
 rw[List.all_eq_true];constructor
 ·intro h j hj;exact h _ (JI hj d)
 ·intro h x hx;obtain⟨j,hj⟩:=List.getElem?_of_mem hx;have:=h j (List.getElem?_eq_some_iff.1 hj).1;rwa [Ar hj]at this
theorem QKk{α:Type}{l r:List α}{x:α}{k:Nat}(h:l.drop k=x::r):r.length=l.length-k-1:=by
 have:=congrArg List.length h;simp at this;omega
theorem Tc{α:Type}{l r:List α}{x:α}{k:Nat}(h:l.drop k=x::r)(hl:l.length<=9223372036854775807):((k:Int)==aG ((l.length:Int)-1))=decide (r.length=0):=by
 have h1:=QKk h;have h2:=An h;rw[QG (by omega) (by omega),Bool.eq_iff_iff];simp only[beq_iff_eq,decide_eq_true_eq];omega
end Go.Proofs.YtdplaepmjogjjaaGreat.Am
namespace Go.Proofs.YtdplaepmjogjjaaGreat.Am
open Go Go.RowKit Go.ChangeShapes Go.WideShapes Go.ChangeAt
def xu(L:TypeId->Option (List CT))(P:Program):List Field->Nat->Option (List CT)
 | [],_=>some []
 | f::fs,off=>match L f.type,xu L P fs (off+P.cellsOf f.type) with
  | some ts,some us=>bif Nat.beq f.offset off&&Nat.beq (P.cellsOf f.type) ts.length then some (ts++us) else none
  | _,_=>none
def lay(P:Program):Nat->TypeId->Option (List CT)
 | 0,_=>none
 | k+1,t=>match P.underlying t with
  | some .bool=>some [.bool]
  | some (.int q)=>some [.int q]
  | some .string=>some [.str]
  | some (.slice e)=>match lay P k e with
   | some ts=>bif Nat.beq (P.cellsOf e) ts.length&&Nat.blt 0 ts.length then some [.sl ts] else none
   | none=>none
  | some (.struct fs)=>match xu (lay P k) P fs.toList 0 with
   | some ts=>bif Nat.beq (P.cellsOf t) ts.length then some ts else none
   | none=>none
  | _=>none
mutual
def CT.wf:(t:CT)->t.den->Prop
 | .int k,x=>k.min<=(x:Int)/\(x:Int)<=k.max
 | .bool,_=>True
 | .str,_=>True
 | .dG,_=>True
 | .sl ts,l=>∀ x:aR ts,x∈(l:List (aR ts))->aR.wf ts x
def aR.wf:(ts:List CT)->aR ts->Prop
 | [],_=>True
 | t::ts,x=>t.wf (hd ts x)/\aR.wf ts (tl ts x)
end
def Sh.wf:(s:Sh)->s.den->Prop
 | .c t,x=>t.wf x
 | .a ts,x=>aR.wf ts x
 | .b ts,x=>aR.wf ts x
 | .o _ _,_=>False
 | .d _,_=>False
 | .s _,_=>False
def Au:(ss:List Sh)->gS ss->Prop
 | [],_=>True
 | s::ss,x=>s.wf x.1/\Au ss x.2
def aR.app:(ts:List CT)->{us:List CT}->aR ts->aR us->aR (ts++us)
 | [],_,_,y=>y
 | t::ts,us,x,y=>lR (ts++us) (hd ts x) (aR.app ts (tl ts x) y)
theorem Td:∀(ts:List CT){us:List CT}(x:aR ts)(y:aR us),aV (ts++us) (aR.app ts x y)=aV ts x++aV us y
 | [],us,x,y=>by simp[aV,aR.app]
 | t::ts,us,x,y=>by
  show aV (t::(ts++us)) (lR (ts++us) (hd ts x) (aR.app ts (tl ts x) y))=_;rw[aV,aV,wE,wF,Td ts];rfl
theorem Te:∀(ts:List CT){us:List CT}{x:aR ts}{y:aR us},aR.wf ts x->aR.wf us y->aR.wf (ts++us) (aR.app ts x y)
 | [],us,x,y,_,hy=>hy
 | t::ts,us,x,y,hx,hy=>by
  rw[aR.wf]at hx;show aR.wf (t::(ts++us)) (lR (ts++us) (hd ts x) (aR.app ts (tl ts x) y));rw[aR.wf,wE,wF];exact⟨hx.1,Te ts hx.2 hy⟩
theorem J9:∀(ts:List CT)(x:aR ts),(aV ts x).length=ts.length
 | [],x=>by simp[aV]
 | t::ts,x=>by rw[aV,List.length_cons,J9 ts,List.length_cons]
section
variable {H:Type} {enc:TypeId × Value->H} {P:Program} {w:World} {held:Bool}
def Old(w:World)(b:Nat):Prop:=b<w.heap.size
theorem QYq{k:IntKind}{n:Int}(h:(Lit.int k n).wf=true):k.min<=n/\n<=k.max:=by
 simpa[Lit.wf]using h
theorem QKZ{a:Addr}{v:Value}(h:w.cell? a=some v):a.block<w.heap.size/\a.spot=none:=by
 unfold World.cell? at h
 split at h
 ·rename_i hb;have:=(Array.getElem?_eq_some_iff.1 hb).1;refine⟨this,?_⟩
  split at h
  ·cases h
  ·rename_i hs;simpa using hs
 ·cases h
theorem Tf{k n:Nat}(ih:∀ t cs d ps ts,DataW.trod enc P w 0 (λ_=>true) held n t cs=some (d,ps)->lay P k t=some ts->cs.length=ts.length/\∃ x:aR ts,aR.wf ts x/\∀(j:Nat)(v:Value)(d':D),cs[j]? = some v->(aV ts x)[j]? = some d'->Rd w (Old w) v d'){cs:List Value} :
  ∀(fl:List Field)(off:Nat)(ts:List CT),xu (lay P k) P fl off=some ts->(∀ f,f∈fl->∃ y,DataW.trod enc P w 0 (λ_=>true) held n f.type ((cs.drop f.offset).take (P.cellsOf f.type))=some y)->
   ∃ x:aR ts,aR.wf ts x/\∀(j:Nat)(v:Value)(d':D),cs[off+j]? = some v->(aV ts x)[j]? = some d'->Rd w (Old w) v d'
 | [],off,ts,h,_=>by
  simp only[xu,Option.some.injEq]at h;subst h;exact⟨(),by rw[aR.wf];trivial,λj v d' _ hd=>by simp[aV]at hd⟩
 | f::fl,off,ts,h,hy=>by
  simp only[xu]at h
  split at h
  rotate_left
  ·cases h
  rename_i tE us h1 h2;obtain⟨hb,h⟩:=QX h
  cases h;simp only[Bool.and_eq_true]at hb;have e1:=Nat.eq_of_beq_eq_true hb.1;have e2:=Nat.eq_of_beq_eq_true hb.2;obtain⟨⟨d,ps⟩,hyf⟩:=hy f List.mem_cons_self;obtain⟨hl,x,kb,hx⟩:=ih _ _ _ _ _ hyf h1;obtain⟨y,Gn,hyy⟩:=Tf ih fl _ _ h2 (λg hg=>hy g (List.mem_cons_of_mem _ hg));refine⟨aR.app tE x y,Te tE kb Gn,λj v d' hv hd=>?_⟩;rw[Td]at hd;by_cases hj:j<tE.length
  ·rw[List.getElem?_append_left (by rw[J9];exact hj)]at hd;refine hx j v d' ?_ hd;rw[List.getElem?_take,if_pos (by omega),List.getElem?_drop,e1];exact hv
  ·rw[List.getElem?_append_right (by rw[J9];omega),J9]at hd;refine hyy (j-tE.length) v d' ?_ hd;rw[show off+P.cellsOf f.type+(j-tE.length)=off+j by omega];exact hv
theorem Av:∀(k n:Nat)(t:TypeId)(cs:List Value)(d:DataW H)(ps:List MemPlace)(ts:List CT),DataW.trod enc P w 0 (λ_=>true) held n t cs=some (d,ps)->lay P k t=some ts->
  cs.length=ts.length/\∃ x:aR ts,aR.wf ts x/\∀(j:Nat)(v:Value)(d':D),cs[j]? = some v->(aV ts x)[j]? = some d'->Rd w (Old w) v d'
 | 0,n,t,cs,d,ps,ts,_,hl=>by simp[lay]at hl
 | k+1,n,t,cs,d,ps,ts,h,hl=>by
  simp only[lay]at hl
  split at hl
  ·rename_i ht
   cases hl;obtain⟨b,rfl,_⟩:=DataW.trod_bool ht h;refine⟨rfl,b,by simp[aR.wf,CT.wf],λj v d' hv hd=>?_⟩
   cases j with
   | zero=>simp[aV,Am.enc]at hv hd;subst hv;subst hd;exact .v _ rfl
   | succ j=>simp at hv
  ·rename_i q ht
   cases hl;obtain⟨b,rfl,_,hwf⟩:=DataW.trod_int ht h;refine⟨rfl,b,⟨QYq hwf,trivial⟩,λj v d' hv hd=>?_⟩
   cases j with
   | zero=>simp[aV,Am.enc]at hv hd;subst hv;subst hd;exact .v _ rfl
   | succ j=>simp at hv
  ·rename_i ht
   cases hl;obtain⟨b,rfl,_⟩:=DataW.trod_string ht h;refine⟨rfl,b,by simp[aR.wf,CT.wf],λj v d' hv hd=>?_⟩
   cases j with
   | zero=>simp[aV,Am.enc]at hv hd;subst hv;subst hd;exact .v _ rfl
   | succ j=>simp at hv
  ·rename_i e ht
   split at hl
   rotate_left
   ·cases hl
   rename_i ts he;obtain⟨hb,hl⟩:=QX hl
   cases hl;simp only[Bool.and_eq_true]at hb;have e1:=Nat.eq_of_beq_eq_true hb.1;have e2:0<ts.length:=Nat.le_of_ble_eq_true hb.2
   rcases Deep.open_slice ht h with⟨rfl,_⟩ | ⟨a,len,cap,m,n',dd,pl,rfl,_,Ps,hcm,hm,_,hx⟩
   ·refine⟨rfl,([]:List (aR ts)),⟨(λx hx=>by cases hx),trivial⟩,λj v d' hv hd=>?_⟩
    cases j with
    | zero=>simp[aV,Am.enc,Am.hd]at hv hd;subst hv;subst hd;exact .nil _
    | succ j=>simp at hv
   ·simp only[if_true]at hm;subst hm;have oJ:∀ i,i<len->∃ x:aR ts,aR.wf ts x/\∀(j:Nat)(d':D),(aV ts x)[j]? = some d'->∃ v,w.cell? ((a.add (i*ts.length)).add j)=some v/\Rd w (Old w) v d':=by
     intro i hi;obtain⟨cs',h1,h2⟩:=hx i (by omega);obtain⟨hl,x,kb,qd⟩:=Av k _ _ _ _ _ _ h2 he;refine⟨x,kb,λj d' hd=>?_⟩;have hj:j<ts.length:=by have:=(List.getElem?_eq_some_iff.1 hd).1;rwa [J9]at this
     obtain⟨_,_,hc⟩:=World.cells?_some h1;rw[e1]at hc;refine⟨cs'[j]'(by omega),?_,qd j _ d' (List.getElem?_eq_getElem _) hd⟩;rw[hc j hj];exact List.getElem?_eq_getElem _
    by_cases hlen:len=0
    ·subst hlen;refine⟨rfl,([]:List (aR ts)),⟨(λx hx=>by cases hx),trivial⟩,λj v d' hv hd=>?_⟩
     cases j with
     | zero=>simp[aV,Am.enc,Am.hd]at hv hd;subst hv;subst hd;exact .emp _ _ _
     | succ j=>simp at hv
    ·have hz:∃ v,w.cell? a=some v:=by
      obtain⟨x,_,qd⟩:=oJ 0 (by omega);have h0:0<(aV ts x).length:=by rw[J9];exact e2
      obtain⟨v,hv,_⟩:=qd 0 _ (List.getElem?_eq_getElem h0);simp[Addr.add]at hv;exact⟨v,hv⟩
     obtain⟨v0,qs⟩:=hz;obtain⟨aU,rD⟩:=QKZ qs;obtain⟨b,o,sp⟩:=a;simp only at rD aU;subst rD;have:Inhabited (aR ts):=⟨aR.wy ts⟩
     obtain⟨f,hf⟩:=Deep.choose_lt oJ;refine⟨rfl,((List.range len).map f:List (aR ts)),by
      refine⟨λx hx=>?_,trivial⟩;obtain⟨i,hi,rfl⟩:=List.mem_map.1 (show x∈(List.range len).map f from hx);exact(hf i (List.mem_range.1 hi)).1,λj v d' hv hd=>?_⟩
     cases j with
     | succ j=>simp at hv
     | zero =>
      simp only[List.getElem?_cons_zero,Option.some.injEq]at hv;subst hv;have hd2:d' = .sl ts.length (List.map (aV ts) ((List.range len).map f)):=by
       simp only[aV,List.getElem?_cons_zero,Option.some.injEq]at hd;rw[<- hd];show D.sl ts.length (List.map (aV ts) (Am.hd [] _))=_;rfl
      subst hd2;have hg:∀(i:Nat)(e:List D),(List.map (aV ts) ((List.range len).map f))[i]? = some e->i<len/\e=aV ts (f i):=by
       intro i e hi;have aU:=(List.getElem?_eq_some_iff.1 hi).1;simp only[List.length_map,List.length_range]at aU;rw[List.getElem?_map,List.getElem?_map,List.getElem?_range aU]at hi;simp at hi;exact⟨aU,hi.symm⟩
      refine Rd.sl b o len m ts.length _ (λi j=>(w.cell? ⟨b,o+i*ts.length+j,none⟩).getD undef) (by simp) Ps (by omega) (λe he=>?_) (λ_=>aU) (λi j e d hi hj=>?_) (λi j e d hi hj=>?_)
      ·obtain⟨x,_,rfl⟩:=List.mem_map.1 he;exact J9 ts x
      ·obtain⟨bY,rfl⟩:=hg i e hi;obtain⟨v,hv,_⟩:=(hf i bY).2 j d hj;rw[YN,YN]at hv;rw[hv];rfl
      ·obtain⟨bY,rfl⟩:=hg i e hi;obtain⟨v,hv,hr⟩:=(hf i bY).2 j d hj;rw[YN,YN]at hv;rw[hv];exact hr
  ·rename_i fs ht
   split at hl
   rotate_left
   ·cases hl
   rename_i ts zi;obtain⟨hb,hl⟩:=QX hl
   cases hl;have e1:=Nat.eq_of_beq_eq_true hb;obtain⟨xs,n',_,_,hlen,Tg,hx⟩:=DataW.trod_struct ht h;refine⟨by omega,?_⟩;obtain⟨x,kb,qd⟩:=Tf (n:=n') (λt cs d ps ts h1 h2=>Av k n' t cs d ps ts h1 h2) fs.toList 0 ts zi (λf hf=>by
    obtain⟨i,hi⟩:=List.getElem?_of_mem hf;have mu:fs[i]? = some f:=by simpa using hi
    have aU:i<xs.length:=by rw[Tg];exact(Array.getElem?_eq_some_iff.1 mu).1
    exact⟨xs[i],by rw[hx i f mu];exact List.getElem?_eq_getElem _⟩)
   exact⟨x,kb,λj v d' hv hd=>qd j v d' (by simpa using hv) hd⟩
  ·cases hl
end
end Go.Proofs.YtdplaepmjogjjaaGreat.Am
namespace Go.Proofs.YtdplaepmjogjjaaGreat.Am
open Go Go.RowKit Go.ChangeShapes Go.WideShapes Go.ChangeAt
def rE(P:Program)(t:TypeId):Option Sh:=match P.underlying t with
 | some (.struct _)=>match lay P 12 t with
  | some ts=>some (.a ts)
  | none=>none
 | some (.array _ _)=>none
 | _=>match lay P 12 t with
  | some [ct]=>some (.c ct)
  | _=>none
def lZ(P:Program):List TypeId->Option (List Sh)
 | []=>some []
 | t::ts=>match rE P t,lZ P ts with
  | some s,some ss=>some (s::ss)
  | _,_=>none
theorem Gp:∀(ts:List CT)(x:aR ts),(aR.cells ts x).map TV.aO=(aV ts x).map AV.c
 | [],x=>rfl
 | t::ts,x=>by rw[aR.cells,aV,List.map_cons,List.map_cons,Gp ts];rfl
section
variable {H:Type} {enc:TypeId × Value->H} {P:Program} {w:World} {held:Bool}
theorem QKH{r:Reach}{base:Nat}{t:TypeId}{v:Value}{d:DataW H}{p:List MemPlace}{s:Sh}(hs:rE P t=some s)(hv:Value.okWide P w r base t v)(h:DataW.Trod enc P w 0 (λ_=>true) held t v d p) :
  ∃ x:s.den,s.wf x/\VR w (Old w) noι tq v (s.val x).aA/\(s.val x).aA.eE=true:=by
 obtain⟨n,h⟩:=h;unfold rE at hs
 split at hs
 ·rename_i fs ht
  split at hs
  rotate_left
  ·cases hs
  rename_i ts hl
  cases hs;obtain⟨h1,x,kb,hx⟩:=Av _ _ _ _ _ _ _ h hl;unfold Value.okWide at hv;rw[ht]at hv;obtain⟨cs,rfl,_,_⟩:=hv;refine⟨x,kb,?_,?_⟩
  ·show VR w (Old w) noι tq (.agg cs) (.a ((aR.cells ts x).map TV.aO));rw[Gp];have h1:cs.toList.length=ts.length:=h1;have mO:∀(k:Nat)(v:Value),cs[k]? = some v->∃ d,(aV ts x)[k]? = some d/\Rd w (Old w) v d:=by
    intro k v hk;have aU:k<(aV ts x).length:=by
     have:=(Array.getElem?_eq_some_iff.1 hk).1;rw[J9];simpa[<- h1]using this
    exact⟨_,List.getElem?_eq_getElem aU,hx k v _ (by show cs.toList[k]? = some v;simpa using hk) (List.getElem?_eq_getElem aU)⟩
   refine .a cs _ (by rw[List.length_map,J9,<- h1];simp) (λk v hk=>?_) (λk v y hk hy=>?_)
   ·obtain⟨_,_,hr⟩:=mO k v hk;exact hr.one
   ·obtain⟨d,hd,hr⟩:=mO k v hk;rw[List.getElem?_map,hd]at hy;simp at hy;subst hy;exact .c _ _ hr
  ·show AV.eE (.a ((aR.cells ts x).map TV.aO))=true;rw[Gp];simp[AV.eE]
 ·cases hs
 ·rename_i ft mh
  split at hs
  rotate_left
  ·cases hs
  rename_i ct hl
  cases hs;obtain⟨h1,x,kb,hx⟩:=Av _ _ _ _ _ _ _ h hl;unfold Value.okWide at hv;have hv:Cell.okWide P w r base t v:=by
   split at hv
   ·rename_i hh;exact absurd hh (ft _)
   ·rename_i hh;exact absurd hh (mh _ _)
   ·exact hv
  have hc:v.cells.toList=[v]:=by
   cases v with
   | agg cs =>
    exfalso;unfold Cell.okWide at hv
    split at hv <;> first | (simp_all;done) | skip
    unfold Cell.ok at hv
    split at hv <;> first | (simp_all;done) | exact hv
   | _=>rfl
  have hr:=hx 0 v (Am.enc ct x) (by rw[hc];rfl) (by cases ct <;> rfl);exact⟨x,by rw[aR.wf]at kb;exact kb.1,.c _ _ hr,rfl⟩
theorem Th{r:Reach}{base:Nat}:∀ {ts:List TypeId} {ss:List Sh} {vs:List Value} {ds:List (DataW H)} {ps:List MemPlace},lZ P ts=some ss->(∀(j:Nat)(t:TypeId)(v:Value),ts[j]? = some t->vs[j]? = some v->Value.okWide P w r base t v)->
  DataW.TrodAll enc P w 0 (λ_=>true) held ts vs ds ps->∃ x:gS ss,Au ss x/\ey w (Old w) vs ((jP ss x).map TV.aA) [] []
 | [],ss,vs,ds,ps,hs,hv,h=>by
  simp only[lZ,Option.some.injEq]at hs;subst hs;obtain⟨rfl,_,_⟩:=trodAll_nil h;exact⟨(),trivial,.nil⟩
 | t::ts,ss,vs,ds,ps,hs,hv,h=>by
  simp only[lZ]at hs
  split at hs
  rotate_left
  ·cases hs
  rename_i s ss' h1 h2
  cases hs;obtain⟨v0,Gq,d0,Ti,p0,q0,rfl,rfl,rfl,h0,hr⟩:=trodAll_cons h;obtain⟨x,kb,hx,hd⟩:=QKH h1 (hv 0 t v0 rfl rfl) h0;obtain⟨y,Gn,hy⟩:=Th h2 (λj t v hj hk=>hv (j+1) t v (by simpa using hj) (by simpa using hk)) hr;exact⟨(x,y),⟨kb,Gn⟩,.eE v0 _ Gq _ [] [] hx hy hd⟩
theorem Tj{W W':World}(hl:laidOutB P=true)(hb:Below W.heap.size W W'){sp:Nat->Bool}:∀ {ts:List TypeId} {vs:List Value} {ds:List (DataW H)} {ps:List MemPlace},ts.all (λt=>P.readableRec t&&decide (t<P.types.size))=true->
  DataW.TrodAll enc P W 0 (λ_=>true) true ts vs ds ps->(∀ p,p∈ps->p.block<W.heap.size)->(∀ p,p∈ps->sp p.block=true)->DataW.TrodAll enc P W' 0 sp true ts vs ds ps
 | [],vs,ds,ps,_,h,_,_=>by
  obtain⟨rfl,rfl,rfl⟩:=trodAll_nil h;exact rfl
 | t::ts,vs,ds,ps,hr,h,aU,rD=>by
  rw[List.all_cons,Bool.and_eq_true,Bool.and_eq_true]at hr;obtain⟨v0,Gq,d0,Ti,p0,q0,rfl,rfl,rfl,h0,bU⟩:=trodAll_cons h;refine⟨p0,q0,WideElems.Trod_stays hl hr.1.1 (of_decide_eq_true hr.1.2) h0 (λx hx=>hb.same (aU x (List.mem_append_left _ hx))) (λx hx=>rD x (List.mem_append_left _ hx)),?_,rfl⟩;exact Tj hl hb hr.2 bU (λp hp=>aU p (List.mem_append_right _ hp)) (λp hp=>rD p (List.mem_append_right _ hp))
end
theorem kN{H:Type}{enc:TypeId × Value->H}{P:Program}{f:FuncId}{fn:Func}{s:ChangeSpec}{apart fresh handsOn again:Bool}{sg:List Sh}{W:World}{args:Array Value}{ds gs:List (DataW H)}{before:List MemPlace}{base:Nat}{tb:TypeId}{n:Nat}
  (hl:laidOutB P=true) (hsg:lZ P fn.params.toList=some sg) (mO:fn.params.toList.all (λt=>P.readableRec t&&decide (t<P.types.size))=true) (o3:P.underlying tb=some .bool) (Tk:fn.resultTypes = #[tb])
  (Gr:∀ x:gS sg,Au sg x->aK P f (jP sg x) ⟨.c .bool true,[],[],false,[]⟩) (jc:s.vars=[]) (hn:fn.params.size=n) (hfn:∀ ds:List (DataW H),ds.length=n->s.fn H ds = { results:=[.lit (.bool true)],args:=ds })
  (gO:∀(j:Nat)(t:TypeId)(v:Value),fn.params[j]? = some t->args[j]? = some v->Value.okWide P W .any base t v)
  (hW:DataW.Whole enc P fn.params.toList s.vars apart W args.toList ds gs before) :
  Calls P f args W λe W'=>∃ v,e = .returned v/\s.post enc P fn apart fresh handsOn again W args v W':=by
 have Tl:=hW;obtain⟨p,q,hA,hV,rfl,hfz,dV⟩:=hW;rw[jc]at hV;obtain⟨rfl,rfl⟩:=trodVars_none hV;obtain⟨x,kb,hx⟩:=Th hsg (λj t v hj hk=>gO j t v (by simpa using hj) (by simpa using hk)) hA;have hlen:ds.length=n:=by
  rw[<- hn];have:∀ {ts:List TypeId} {vs:List Value} {ds:List (DataW H)} {ps:List MemPlace},DataW.TrodAll enc P W 0 (λ_=>true) true ts vs ds ps->ds.length=ts.length:=by
   intro ts
   induction ts with
   | nil=>intro vs ds ps h;obtain⟨_,rfl,_⟩:=trodAll_nil h;rfl
   | cons t ts ih=>intro vs ds ps h;obtain⟨v0,Gq,d0,Ti,p0,q0,rfl,rfl,rfl,h0,hr⟩:=trodAll_cons h;simp[ih hr]
  simpa using this hA
 have aU:∀ p',p'∈p++[]->p'.block<W.heap.size:=λp' hp=>Tl.lt p' hp;refine(QFV (x:=.bool true) (al:=false) (Gr x kb) (F0:=Old W) hx (λ_ h=>h)).mono λe W' ⟨he,hg⟩=>?_;subst he;have hf:=hfn (ds++[]) (by simpa using hlen);refine⟨_,rfl,QOg (pa:=p) (pv:=[]) Tl (λb sp hd=>?_) (λsp rD=>?_) (λsp _=>?_) rfl hg ?_⟩
 ·rw[hf,Tk];exact trodAll_cons_mk (shut_bool o3 _) trodAll_mk0
 ·rw[hf,List.append_nil];exact Tj hl hg mO hA (λp' hp=>aU p' (List.mem_append_left _ hp)) (λp' hp=>rD p' (List.mem_append_left _ hp))
 ·rw[jc,hf];exact rfl
 ·exact Go.RowKit.ok_one Tk rfl (okWide_bool_mk o3 _)
end Go.Proofs.YtdplaepmjogjjaaGreat.Am
namespace Go.Proofs.YtdplaepmjogjjaaGreat.Am
open Go
theorem bO{a b:Bool}(ha:a=true)(hb:b=true):(a&&b)=true:=by rw[ha,hb];rfl
def Aw(P:Program)(rk:List Nat):Bool:=(List.range P.funcs.size).all λg=>((P.funcs[g]?).elim [] P.leadsTo).all λh=>Nat.blt (rk.getD h 0) (rk.getD g 0)
theorem Tm{P:Program}{rk:List Nat}(h:Aw P rk=true)(g x:Nat)(hx:x∈(P.funcs[g]?).elim [] P.leadsTo):rk.getD x 0<rk.getD g 0:=by
 by_cases hg:g<P.funcs.size
 ·have:=List.all_eq_true.1 h g (List.mem_range.2 hg);exact Nat.le_of_ble_eq_true (List.all_eq_true.1 this x hx)
 ·rw[Array.getElem?_eq_none (by omega)]at hx;simp at hx
theorem Gs{P:Program}{rk:List Nat}(h:Aw P rk=true)(r:Nat):∀(fuel:Nat)(todo seen:List FuncId),(∀ x,x∈todo->rk.getD x 0<r)->(∀ x,x∈seen->rk.getD x 0<r)->∀ x,x∈P.closureVia fuel todo seen->rk.getD x 0<r
 | 0,todo,seen,_,h2,x,hx=>by
  simp only[Program.closureVia,List.mem_reverse]at hx;exact h2 x hx
 | n+1,[],seen,_,h2,x,hx=>by
  simp only[Program.closureVia,List.mem_reverse]at hx;exact h2 x hx
 | n+1,f::todo,seen,h1,h2,x,hx=>by
  simp only[Program.closureVia]at hx
  split at hx
  ·exact Gs h r n todo seen (λy hy=>h1 y (List.mem_cons_of_mem _ hy)) h2 x hx
  ·refine Gs h r n _ _ (λy hy=>?_) (λy hy=>?_) x hx
   ·rcases List.mem_append.1 hy with hy | hy
    ·exact Nat.lt_trans (Tm h f y hy) (h1 f List.mem_cons_self)
    ·exact h1 y (List.mem_cons_of_mem _ hy)
   ·rcases List.mem_cons.1 hy with rfl | hy
    ·exact h1 _ List.mem_cons_self
    ·exact h2 y hy
theorem rF{P:Program}{rk:List Nat}(h:Aw P rk=true){f:FuncId}(hu:P.unfollowed f=false):P.recurses f=false:=by
 unfold Program.recurses;rw[hu,Bool.false_or];rw[Bool.eq_false_iff];intro hc;obtain⟨g,hg,hc⟩:=List.any_eq_true.1 hc;obtain⟨x,hx,hc⟩:=List.any_eq_true.1 hc;have dF:g∈P.closure x:=by simpa using hc
 have aU:=Tm h g x hx;unfold Program.closure at dF;have:=Gs h (rk.getD g 0) _ [x] [] (λy hy=>by simp at hy;subst hy;exact aU) (λy hy=>by simp at hy) g dF;omega
def rG:List Char:=([99,117,116]:List Nat).map Char.ofNat
theorem QUy{P:Program}{rest:List (List Char)}(h:behindMainWord (wordsSigns P.initOrder.toList)=rG::rest):P.make=some .cut:=by
 unfold Program.make;rw[h];rfl
theorem Tn(rest:List (List Char)):stripLifts liftWords (rG::rest)=([],rG::rest):=by
 rfl
theorem QGe{P:Program}{rest:List (List Char)}(h:behindMainWord (wordsSigns P.initOrder.toList)=rG::rest):P.headLifts=[]:=by
 unfold Program.headLifts;rw[h,Tn];rfl
theorem QK5{P:Program}{rest:List (List Char)}(h:behindMainWord (wordsSigns P.initOrder.toList)=rG::rest):P.liftsFinal=false:=by
 unfold Program.liftsFinal;rw[QGe h,h];rfl
theorem QI7{P:Program}{rest:List (List Char)}(h:behindMainWord (wordsSigns P.initOrder.toList)=rG::rest)(h1:P.laysLater=false)(h2:P.bearsReflect=false)(h3:P.doorFits []=true):P.mayEnter=true:=by
 unfold Program.mayEnter;rw[h];simp only[Tn,h1,h2,h3];rfl
end Go.Proofs.YtdplaepmjogjjaaGreat.Am
namespace Go.Proofs.YtdplaepmjogjjaaGreat.Am
open Go Sz
def QS(x:Int):Int:=jR (jS x (-2147483647)) 2147483647
def ZX(x:Int):Int × Bool:=(QS x,!Zt x)
def Q5(a b:Int):Int × Bool:=ZX (QS a+QS b)
def Y6(a b:Int):Int × Bool:=ZX (QS a-QS b)
def Q7(a b:Int):Int × Bool:=ZX (Int.fdiv (QS a*QS b) 65536)
def nH(a:Int):Int:=jS 0 (QS a)
def Ax(a b:Int):Int:=Int.fdiv a b
def Gt(a b:Int):Prop:=-4611686018427387904<=a/\a<=4611686018427387904/\b=65536
def ZA(a b:List Int):Bool:=QK a&&QH b a.length
def vz(f:Int->Int->Int × Bool):List Int->List Int->List Int × Bool
 | a::aa,b::bb=>((f a b).1::(vz f aa bb).1,(f a b).2||(vz f aa bb).2)
 | _,_=>([],false)
def Zd(a b:List Int):List Int × Bool:=if ZA a b then vz Q5 a b else([],false)
def QZ(a b:List Int):List Int × Bool:=if ZA a b then vz Y6 a b else([],false)
def v1(f:Int->Int × Bool):List Int->List Int × Bool
 | a::aa=>((f a).1::(v1 f aa).1,(f a).2||(v1 f aa).2)
 | []=>([],false)
def Zy(c:Int)(a:List Int):List Int × Bool:=if Zt c&&QK a then v1 (Q7 c) a else([],false)
def Yq:List Int->List Int->Int->Int × Bool
 | a::aa,b::bb,z=>((Yq aa bb (Q5 z (Q7 a b).1).1).1,(Q7 a b).2||(Q5 z (Q7 a b).1).2||(Yq aa bb (Q5 z (Q7 a b).1).1).2)
 | _,_,z=>(z,false)
def Q1(a b:List Int):Int × Bool:=if ZA a b then Yq a b 0 else(0,false)
def Z5(a:List Int):List Int:=if QK a then a.map nH else []
def Z4(x d:List Int):List Int:=if ZA x d then List.zipWith (λa b=>if 0<a then b else 0) x d else []
def Zo(m:cd):Bool:=bh m.1 1 6&&bh m.2.1 1 6&&((m.2.2.length:Int)==m.1*m.2.1)&&Z8 m.2.2
def YA(m:cd)(i:Int):List Int:=slice m.2.2 (i*m.2.1) ((i+1)*m.2.1)
def ZN(m:cd)(k:Int):List Int:=(List.range m.1.toNat).map λi:Nat=>aq 0 m.2.2 ((i:Int)*m.2.1+k).toNat
def Q6(m:cd)(x:List Int):List Int × Bool :=
 if Zo m&&QH x m.2.1 then
  ((List.range m.1.toNat).map λi:Nat=>(Q1 (YA m i) x).1,(List.range m.1.toNat).any λi:Nat=>(Q1 (YA m i) x).2) else([],false)
def Zr(m:cd)(d:List Int):List Int × Bool :=
 if Zo m&&QH d m.1 then
  ((List.range m.2.1.toNat).map λk:Nat=>(Q1 (ZN m k) d).1,(List.range m.2.1.toNat).any λk:Nat=>(Q1 (ZN m k) d).2) else([],false)
def Yz(m:cd):cd:=if Zo m then(m.2.1,m.1,(List.range m.2.1.toNat).flatMap λk:Nat=>ZN m k) else(0,0,[])
def Zl(d x:List Int):cd × Bool :=
 if QK d&&QK x then(((d.length:Int),(x.length:Int),d.flatMap λa=>x.map λb=>(Q7 a b).1),d.any λa=>x.any λb=>(Q7 a b).2) else((0,0,[]),false)
def Q3(o:aH):cd:=(o.2.2.1,o.2.1,o.2.2.2)
def ZV(o:aH)(x:List Int):List Int × Bool :=
 if Zh o&&QH x o.2.1 then
  (if o.1=1 then Q6 (Q3 o) x else if o.1=2 then Zd x o.2.2.2 else if o.1=4 then Zy (aq 0 o.2.2.2 0) x
   else if o.1=5 then((Zd x (Q6 (Q3 o) x).1).1,(Q6 (Q3 o) x).2||(Zd x (Q6 (Q3 o) x).1).2) else(Z5 x,false))
 else([],false)
def ZY(o:aH)(x d:List Int):List Int × List Int × Bool :=
 if Zh o&&QH x o.2.1&&QH d o.2.2.1 then
  (if o.1=1 then((Zr (Q3 o) d).1,(Zl d x).1.2.2,(Zr (Q3 o) d).2||(Zl d x).2)
   else if o.1=2 then(d,d,false)
   else if o.1=4 then((Zy (aq 0 o.2.2.2 0) d).1,[(Q1 d x).1],(Zy (aq 0 o.2.2.2 0) d).2||(Q1 d x).2)
   else if o.1=5 then((Zd d (Zr (Q3 o) d).1).1,(Zl d x).1.2.2,(Zr (Q3 o) d).2||(Zl d x).2||(Zd d (Zr (Q3 o) d).1).2)
   else(Z4 x d,[],false))
 else([],[],false)
def Z9(y t:List Int):Int × Bool:=(Int.fdiv (Q1 (QZ y t).1 (QZ y t).1).1 2,(QZ y t).2||(Q1 (QZ y t).1 (QZ y t).1).2)
abbrev QQt:QO:=([],0,false)
def QYC(m:Zx):QO:=if Zc m then(m.map λo=>List.replicate o.2.2.2.length 0,0,false) else QQt
def nI(a b:List Int):List Int × Bool:=vz Q5 a b
def ZE:List (List Int)->List (List Int)->List (List Int) × Bool
 | a::aa,b::bb=>((vz Q5 a b).1::(ZE aa bb).1,(vz Q5 a b).2||(ZE aa bb).2)
 | _,_=>([],false)
def Z1(a b:QO):QO:=((ZE a.1 b.1).1,(Q5 a.2.1 b.2.1).1,a.2.2||b.2.2||(ZE a.1 b.1).2||(Q5 a.2.1 b.2.1).2)
def QV:List aH->List Int->List (List Int) × Bool
 | [],x=>([x],false)
 | o::r,x=>(x::(QV r (ZV o x).1).1,(ZV o x).2||(QV r (ZV o x).1).2)
def JK(m:Zx)(x:List Int):List (List Int) × Bool:=if Zc m&&QH x (ZM m) then QV m x else([],false)
def Q2:List aH->List (List Int)->List Int->List (List Int) × List Int × Bool
 | o::os,r::rs,d =>
  ((ZY o r (Q2 os rs d).2.1).2.1::(Q2 os rs d).1,(ZY o r (Q2 os rs d).2.1).1,(ZY o r (Q2 os rs d).2.1).2.2||(Q2 os rs d).2.2)
 | _,_,d=>([],d,false)
def Gu(ops:List aH)(rows:List (List Int))(_:List Int):Prop:=ops.length<=rows.length/\ops.length<=cc
def tP(ops:List aH)(rows:List (List Int))(_:List Int):Prop:=(ops.length<=rows.length/\ops.length<=cc)/\0<ops.length
def Ya(q:Qd)(x:Qm):Qd × Bool:=if Q0 q&&Yo x&&decide ((q.2.length:Int)<q.1) then((q.1,q.2++[x]),true) else(q,false)
def Zg(q:Qd):Qd × Qm × Bool:=if Q0 q&&decide (0<q.2.length) then((q.1,q.2.tail),aq (0,[]) q.2 0,true) else(q,(0,[]),false)
def Y7(s:Qc)(m:Int)(x t:List Int):Bool :=
 QU s&&QH x (ZM (aE s))&&decide (QJ (Qj s) m<0)&&(!Qn s||QH t (Zu (aE s)))
def ZZ(s:Qc)(m:Int)(x t:List Int):Qc :=
 if Y7 s m x t then
  (let i:=QV (aE s) x
   let y:=aq [] i.1 (aE s).length
   let kept:=if Qp s then i.1.take 1 else i.1
   let l:=Z9 y t
   let a:=Q5 (Qw s) l.1
   (bT s,Qt s,aE s,Qn s,Qp s,Qj s++[(m,kept)],QB s,[],(if Qn s then sY s else y),sG s,sD s,Qy s,(if Qn s then a.1 else Qw s),bf s||i.2||(Qn s&&(l.2||a.2))))
 else s
def Yp(s:Qc)(m:Int):Qc :=
 let k:=QJ (Qj s) m
 if QU s&&decide (0<=k) then
  (bT s,Qt s,aE s,Qn s,Qp s,Qj s,(QV (aE s) (aq [] (aq QT (Qj s) k.toNat).2 0)).1,sX s,sY s,sG s,sD s,Qy s,Qw s,bf s)
 else s
def Zq(s:Qc)(k:Int):List (List Int):=if Qp s then QB s else(aq QT (Qj s) k.toNat).2
def eN(s:Qc)(k:Int)(t:List Int):List Int × Bool:=if Qn s then QZ (aq [] (Zq s k) (aE s).length) t else(sG s,false)
def Yw(s:Qc)(k:Int)(t:List Int):Bool :=
 QU s&&decide (0<=k)&&((Zq s k).length==(aE s).length+1)&&ZS (aE s) (Zq s k) (aE s).length&&QH (eN s k t).1 (Zu (aE s))
def ZB(s:Qc)(m:Int)(t:List Int):Qc :=
 let k:=QJ (Qj s) m
 if Yw s k t then
  (let g:=Q2 (aE s) (Zq s k) (eN s k t).1
   let z:=Z1 (lY s) (g.1,0,(eN s k t).2||g.2.2)
   (bT s,Qt s,aE s,Qn s,Qp s,(Qj s).take k.toNat++(Qj s).drop (k.toNat+1),[],sX s,sY s,[],g.2.1,z.1,z.2.1,z.2.2))
 else s
def kO(s:Qc)(v:List Int):Qc:=(bT s,Qt s,aE s,Qn s,Qp s,Qj s,QB s,v,sY s,sG s,sD s,Qy s,Qw s,bf s)
def kP(s:Qc)(v:List Int):Qc:=(bT s,Qt s,aE s,Qn s,Qp s,Qj s,QB s,sX s,v,sG s,sD s,Qy s,Qw s,bf s)
def kQ(s:Qc)(v:List Int):Qc:=(bT s,Qt s,aE s,Qn s,Qp s,Qj s,QB s,sX s,sY s,v,sD s,Qy s,Qw s,bf s)
def gx(s:Qc)(v:List Int):Qc:=(bT s,Qt s,aE s,Qn s,Qp s,Qj s,QB s,sX s,sY s,sG s,v,Qy s,Qw s,bf s)
def Gv(s:Qc)(v:Int):Qc:=(v,Qt s,aE s,Qn s,Qp s,Qj s,QB s,sX s,sY s,sG s,sD s,Qy s,Qw s,bf s)
def ZO(p:Qk)(k:Nat)(x:Qc)(i:bp):Qc × List Qd × List Qd :=
 let a:=Qq p;let b:=Qr p
 let pr:=aq QW (QA p) i.2.toNat
 if i.1=1 then(kO x (Zg (aq Qx a (k-1))).2.1.2,a.set (k-1) (Zg (aq Qx a (k-1))).1,b)
 else if i.1=2 then(ZZ x i.2 (if k=0 then pr.1 else sX x) pr.2,a,b)
 else if i.1=3 then(kP x [],a.set k (Ya (aq Qx a k) (i.2,sY x)).1,b)
 else if i.1=4 then(kQ x (Zg (aq Qx b k)).2.1.2,a,b.set k (Zg (aq Qx b k)).1)
 else if i.1=5 then(Yp x i.2,a,b)
 else if i.1=6 then((if k=0 then gx (ZB x i.2 pr.2) [] else ZB x i.2 pr.2),a,b)
 else if i.1=7 then(gx x [],a,b.set (k-1) (Ya (aq Qx b (k-1)) (i.2,sD x)).1)
 else(x,a,b)
def ZQ(p:Qk)(s:Int):Qk :=
 if ZI p s then
  (let x:=aq Qz (QC p) s.toNat
   let y:=ZO p s.toNat x (Ql p s)
   (QA p,(QC p).set s.toNat (Gv y.1 (bT x+1)),y.2.1,y.2.2))
 else p
def rH:List Int->Qk->Qk
 | [],p=>p
 | s::r,p=>rH r (ZQ p s)
def ZK(p:Qk)(bB:List Int):Qk:=rH (bB.take 2000) p
end Go.Proofs.YtdplaepmjogjjaaGreat.Am

namespace Go.Proofs.YtdplaepmjogjjaaGreat.Am
open Go Go.Proofs.YtdplaepmjogjjaaGreat
set_option linter.all false
def QXN:List Nat:=[1,1,2,11,10,11,12,14,15,13,14,14,6,9,6,10,6,4,4,8,8,8,9,1,8,5,1,1,9,1,10,9,11,5,3,11,5,3,13,5,3,4,2,5,12,14,4,3,3,10,12,11,13,11,13,1,3,5,3,1,4,2,1,5,8,2,3,5,3,4,4,1,6,9,1,2,3,5,3,1,2,3,2,1,2,3,2,7,5,7,7,5,8,7,5,4,3,3,6,3,4,5,5,2,1,7,3,5,8,5,5,6,10,4,4,1,2,10,6,6,6,3,4,1,2,12,2,6,6,3,6,4,1,2,3,1,2,4,3,1,3,2,3,3,2,5,5,5,1,6,6,1,2,4,2,1,1,4,1,4,7,1,2,4,2,2,3,4,1,5,8,1,2,4,2,4,6,1,4,7,1,4,2,2,5,1,2,3,6,2,1,4,3,7,4,5,3,9,6,5,9,5,2,1,1,7,1,11,5,1,2,1,1,5,2,2,1,1,4,2,5,4,3,6,1,5,4,4,3,7,1,6,4,4,3,3,3,3,2,3,1,5,6,4,8,4,6,5,5,8,7,6,10,2,3,1,3,1,3,2,2,2,2,1,1,4,7,9,1,8,1,1,1,1,1,1,1,1,1,1,1,1,1,1,1,1]
theorem kR:Aw Tryz.prog QXN=true:=by kernel_rfl
def QW0:List Nat:=[104,97,114,110,101,115,115,32,56,49,53,57,52,50,49,48,52,97,101,98,98,101,101,102,97,56,50,49,56,97,99,97,102,98,102,56,51,52,55,98,50,50,99,50,55,101,102,55,56,57,48,55,101,55,54,57,54,102,99,56,52,52,98,51,101,49,55,102,49,98,57,52,32,99,117,116,32,97,116,32,108,111,111,112,46,101,120,97,109,112,108,101,47,103,48,49,52,48,55,47,108,97,119,115,46,70,110,69,120,97,99,116,83,116,97,103,101,82,101,100,111,32,108,111,111,112,46,101,120,97,109,112,108,101,47,103,48,49,52,48,55,47,108,97,119,115,46,70,110,69,120,97,99,116,69,110,97,98,108,101,100,65,108,108,32,108,111,111,112,46,101,120,97,109,112,108,101,47,103,48,49,52,48,55,47,108,97,119,115,46,70,110,69,120,97,99,116,83,116,97,103,101,70,119,100,32,108,111,111,112,46,101,120,97,109,112,108,101,47,103,48,49,52,48,55,47,108,97,119,115,46,70,110,69,120,97,99,116,83,116,97,103,101,66,119,100,32,108,111,111,112,46,101,120,97,109,112,108,101,47,103,48,49,52,48,55,47,108,97,119,115,46,70,110,69,120,97,99,116,80,105,112,101,78,101,119,32,108,111,111,112,46,101,120,97,109,112,108,101,47,103,48,49,52,48,55,47,108,97,119,115,46,70,110,69,120,97,99,116,71,114,97,100,105,101,110,116,115,32,108,111,111,112,46,101,120,97,109,112,108,101,47,103,48,49,52,48,55,47,108,97,119,115,46,70,110,69,120,97,99,116,80,105,99,107,32,108,111,111,112,46,101,120,97,109,112,108,101,47,103,48,49,52,48,55,47,108,97,119,115,46,70,110,69,120,97,99,116,82,111,117,110,100,115,32,108,111,111,112,46,101,120,97,109,112,108,101,47,103,48,49,52,48,55,47,108,97,119,115,46,70,110,69,120,97,99,116,82,117,110]
theorem QJI:Tryz.prog.initOrder=String.ofList (QW0.map Char.ofNat):=by kernel_rfl
def QKt:List (List Nat):=[[97,116],[108,111,111,112,46,101,120,97,109,112,108,101,47,103,48,49,52,48,55,47,108,97,119,115,46,70,110,69,120,97,99,116,83,116,97,103,101,82,101,100,111],[108,111,111,112,46,101,120,97,109,112,108,101,47,103,48,49,52,48,55,47,108,97,119,115,46,70,110,69,120,97,99,116,69,110,97,98,108,101,100,65,108,108],[108,111,111,112,46,101,120,97,109,112,108,101,47,103,48,49,52,48,55,47,108,97,119,115,46,70,110,69,120,97,99,116,83,116,97,103,101,70,119,100],[108,111,111,112,46,101,120,97,109,112,108,101,47,103,48,49,52,48,55,47,108,97,119,115,46,70,110,69,120,97,99,116,83,116,97,103,101,66,119,100],[108,111,111,112,46,101,120,97,109,112,108,101,47,103,48,49,52,48,55,47,108,97,119,115,46,70,110,69,120,97,99,116,80,105,112,101,78,101,119],[108,111,111,112,46,101,120,97,109,112,108,101,47,103,48,49,52,48,55,47,108,97,119,115,46,70,110,69,120,97,99,116,71,114,97,100,105,101,110,116,115],[108,111,111,112,46,101,120,97,109,112,108,101,47,103,48,49,52,48,55,47,108,97,119,115,46,70,110,69,120,97,99,116,80,105,99,107],[108,111,111,112,46,101,120,97,109,112,108,101,47,103,48,49,52,48,55,47,108,97,119,115,46,70,110,69,120,97,99,116,82,111,117,110,100,115],[108,111,111,112,46,101,120,97,109,112,108,101,47,103,48,49,52,48,55,47,108,97,119,115,46,70,110,69,120,97,99,116,82,117,110]]
theorem Gw:behindMainWord (wordsSigns Tryz.prog.initOrder.toList)=rG::QKt.map (λl=>l.map Char.ofNat):=by
 rw[QJI,String.toList_ofList];kernel_rfl
theorem kS:Tryz.prog.mayEnter=true:=QI7 Gw (by kernel_rfl) (by kernel_rfl) (by kernel_rfl)
theorem ji:Tryz.prog.liftsFinal=false:=QK5 Gw
theorem nJ:Tryz.prog.make=some .cut:=QUy Gw
end Go.Proofs.YtdplaepmjogjjaaGreat.Am

set_option linter.all false
namespace Go.Proofs.YtdplaepmjogjjaaGreat.Am
open Go Sz
def tm(ds n M s:Int)(i:bp):Int :=
 let F:=s+2*i.2
 let B:=(if ds=2 then 2*n-1 else 2*n-1+2*M)-s+2*i.2
 if i.1=1 then 8*F else if i.1=2 then 8*F+1 else if i.1=3 then 8*F+2
 else if i.1=4 then 8*B else if i.1=5 then 8*B+1 else if i.1=6 then 8*B+2 else if i.1=7 then 8*B+3 else 1000000
def rI(f:Nat)(k1:Int):Nat:=if k1=1 then f+1 else f
def rJ(f:Nat)(k1:Int):Nat:=if k1=2 then f-1 else f
def rK(n s:Int)(g:Nat)(k1:Int):Nat:=if k1=4\/(k1=5/\s<n-1) then g+1 else g
def Gx(g:Nat)(k1:Int):Nat:=if k1=6 then g-1 else g
def kf(i:bp):Nat:=if i.1=2 then 1 else 0
def kg(i:bp):Nat:=if i.1=6 then 1 else 0
def cf(l:List bp):Nat:=(l.map kf).sum
def cg(l:List bp):Nat:=(l.map kg).sum
def QNL(l:List bp)(k:Nat):Int:=if k=0 then 0 else(aq eG l (k-1)).1
end Go.Proofs.YtdplaepmjogjjaaGreat.Am
namespace Go.Proofs.YtdplaepmjogjjaaGreat.Am
open Go Sz
theorem JA(x:Int):-2147483647<=QS x/\QS x<=2147483647:=by unfold QS jR jS;split <;> split <;> omega
theorem To{x:Int}:Zt x=true↔-2147483647<=x/\x<=2147483647:=by simp[Zt]
theorem QMb(x:Int):Zt (QS x)=true:=To.2 (JA x)
theorem QG6(x:Int):Zt (ZX x).1=true:=QMb x
theorem QJf(a b:Int):Zt (Q5 a b).1=true:=QG6 _
theorem Yg{v:List Int}:QK v=true↔(1<=v.length/\v.length<=6)/\Z8 v=true:=by
 simp only[QK,Bool.and_eq_true,Zb];constructor
 ·rintro⟨h1,h2⟩;exact⟨by omega,h2⟩
 ·rintro⟨h1,h2⟩;exact⟨by omega,h2⟩
theorem Ay{v:List Int}{n:Int}:QH v n=true↔QK v=true/\(v.length:Int)=n:=by simp[QH]
theorem Tp:∀(a b:List Int)(z:Int),Zt z=true->Zt (Yq a b z).1=true
 | [],b,z,h=>by simpa[Yq]using h
 | a::aa,[],z,h=>by simpa[Yq]using h
 | a::aa,b::bb,z,h=>by rw[Yq];exact Tp aa bb _ (QJf _ _)
theorem QPG(a b:List Int):Zt (Q1 a b).1=true:=by
 unfold Q1;split
 ·exact Tp _ _ _ rfl
 ·rfl
theorem o4{a b:List Int}:ZA a b=true↔QK a=true/\QK b=true/\b.length=a.length:=by
 unfold ZA;rw[Bool.and_eq_true,Ay];constructor <;> (intro h;exact⟨h.1,h.2.1,by omega⟩)
theorem Tq{o:aH}(h:Zh o=true):(o.2.2.2.length:Int)=(if o.1=1\/o.1=5 then o.2.1*o.2.2.1 else if o.1=2 then o.2.1 else if o.1=4 then 1 else 0):=by
 have h1:=Tb h;simp only[Zh,Bool.and_eq_true,beq_iff_eq]at h;rw[h.1.2];unfold YG;rw[show bh o.2.1 1 6=true from Zb.2 ⟨h1.1,h1.2.1⟩,show bh o.2.2.1 1 6=true from Zb.2 ⟨h1.2.2.1,h1.2.2.2⟩];rfl
theorem Gy:∀(ops:List aH)(x:List Int),(QV ops x).1.length=ops.length+1
 | [],x=>rfl
 | o::r,x=>by simp[QV,Gy r]
def J3(ops:List aH)(x:List Int):List Int:=aq [] (QV ops x).1 ops.length
theorem QR5(x:List Int):J3 [] x=x:=rfl
theorem QSw(o:aH)(r:List aH)(x:List Int):J3 (o::r) x=J3 r (ZV o x).1:=by
 unfold J3;rw[QV];simp[aq]
theorem Gz:∀(ops:List aH)(rows:List (List Int))(d:List Int),ops.length<=rows.length->(Q2 ops rows d).1.length=ops.length
 | [],rows,d,_=>by simp[Q2]
 | o::os,[],d,h=>by simp at h
 | o::os,r::rs,d,h=>by simp[Q2,Gz os rs d (by simpa using h)]
end Go.Proofs.YtdplaepmjogjjaaGreat.Am
namespace Go.Proofs.YtdplaepmjogjjaaGreat.Am
open Go Sz
def o5:Int->List aH->Int->Prop
 | i,[],o=>i=o
 | i,a::r,o=>Zh a=true/\a.2.1=i/\o5 a.2.2.1 r o
theorem o5.append:∀ {a b:List aH} {i o:Int},o5 i (a++b) o↔∃ k,o5 i a k/\o5 k b o
 | [],b,i,o=>by simp[o5]
 | x::a,b,i,o=>by
  rw[List.cons_append,o5,o5.append];constructor
  ·rintro⟨h1,h2,k,h3,h4⟩;exact⟨k,⟨h1,h2,h3⟩,h4⟩
  ·rintro⟨k,⟨h1,h2,h3⟩,h4⟩;exact⟨h1,h2,k,h3,h4⟩
end Go.Proofs.YtdplaepmjogjjaaGreat.Am
namespace Go.Proofs.YtdplaepmjogjjaaGreat.Am
open Go Sz
def Qs{α:Type}[Sz α](x:α):Prop:=sz x<=2147483648
def Zp{α β:Type}[Sz α][Sz β](x:α)(y:β):Prop:=sz x+sz y<=2147483648
def Az(ops:List aH)(x:List Int):Prop:=ops.length<=1000000/\x.length<=1000000
def GA(m:cd)(i:Int):Prop:=0<=m.2.1/\m.2.1<=6/\0<=i/\i<m.1/\m.1<=6/\(m.2.2.length:Int)=m.1*m.2.1
def GB(m:cd)(k:Int):Prop:=m.2.1<=6/\0<=k/\k<m.2.1/\0<=m.1/\m.1<=6/\(m.2.2.length:Int)=m.1*m.2.1
@[simp] theorem Q9{α:Type}(v:List α)(e:α):List.take (v.length+1) (List.take v.length v++[e])=v++[e]:=by
 rw[List.take_length,List.take_of_length_le (by simp)]
@[simp] theorem QYZ{α:Type}(v xs:List α):List.take (v.length+xs.length) (List.take v.length v++xs)=v++xs:=by
 rw[List.take_length,List.take_of_length_le (by simp)]
theorem Ys{α:Type}{l:List α}{k:Nat}(h:k<l.length):∃ y q,l.drop k=y::q:=by
 cases hq:l.drop k with
 | nil=>have:=congrArg List.length hq;simp at this;omega
 | cons y q=>exact⟨y,q,rfl⟩
theorem Yd{α:Type}{v:List α}{k:Nat}{x:α}(h:v.length=k):(v++[x]).length=k+1:=by simp[h]
theorem room{n:Nat}(h:n+1<=2147483648):(n=n\/n+1<=n)/\n+1<=cc:=⟨.inl rfl,by rw[Zf];omega⟩
theorem dM{k:Nat}(h:k<9223372036854775807):aG ((k:Int)+1)=((k+1:Nat):Int):=by rw[QG (by omega) (by omega)];omega
theorem Tr(a b:Int):-4611686018427387904<=QS a*QS b/\QS a*QS b<=4611686018427387904:=by
 obtain⟨h1,h2⟩:=JA a;obtain⟨h3,h4⟩:=JA b;generalize QS a=x at *;generalize QS b=y at *;have hx:x.natAbs<=2147483647:=by omega
 have hy:y.natAbs<=2147483647:=by omega
 have h:=Nat.mul_le_mul hx hy;rw[<- Int.natAbs_mul]at h;omega
theorem QP8(x:Int):(if 2147483647<(if x < -2147483647 then -2147483647 else x) then 2147483647 else(if x < -2147483647 then -2147483647 else x))=QS x:=by
 unfold QS jR jS;repeat' split
 all_goals omega
theorem QV6(a:Int):(if((Int.tmod a 65536 != 0)&&(!(decide (a<0)==decide ((65536:Int)<0))))=true then Int.tdiv a 65536-1 else Int.tdiv a 65536)=Int.fdiv a 65536:=by
 rw[Int.fdiv_eq_ediv_of_nonneg _ (by omega),Int.tmod_eq_emod,Int.tdiv_eq_ediv];have hs:Int.sign 65536=1:=rfl;rw[hs];by_cases h:0<=a
 ·have:decide (a<0)=false:=by simp;omega
  simp[h,this]
 ·have:decide (a<0)=true:=by simp;omega
  by_cases h2:(65536:Int) ∣ a
  ·have:a % 65536=0:=Int.emod_eq_zero_of_dvd h2;simp[h,h2,this]
  ·have:a % 65536≠0:=λe=>h2 (Int.dvd_of_emod_eq_zero e);simp[h,h2,this];omega
theorem idx{r R C:Int}(h1:0<=r)(h2:r<R)(h3:0<=C):0<=r*C/\r*C+C<=R*C/\(r+1)*C=r*C+C:=by
 have h4:(r+1)*C=r*C+C:=by rw[Int.add_mul,Int.one_mul]
 have h5:=Int.mul_le_mul_of_nonneg_right (show r+1<=R by omega) h3;exact⟨Int.mul_nonneg h1 h3,by omega,h4⟩
theorem rL{m:cd}(h:Zo m=true):1<=m.1/\m.1<=6/\1<=m.2.1/\m.2.1<=6/\(m.2.2.length:Int)=m.1*m.2.1/\m.1*m.2.1<=36/\Z8 m.2.2=true:=by
 simp only[Zo,Bool.and_eq_true,Zb,beq_iff_eq]at h;have:=rA h.1.1.1.1 h.1.1.1.2 h.1.1.2.1 h.1.1.2.2;exact⟨h.1.1.1.1,h.1.1.1.2,h.1.1.2.1,h.1.1.2.2,h.1.2,this.2,h.2⟩
theorem GC{f:Nat->Bool}{k:Nat}:(List.range (k+1)).any f=((List.range k).any f||f k):=by rw[List.range_succ,List.any_append];simp
theorem xw{α:Type}{f:Nat->α}{k:Nat}:(List.range (k+1)).map f=(List.range k).map f++[f k]:=by rw[List.range_succ,List.map_append];rfl
theorem GD{α:Type}{f:Nat->List α}{k:Nat}:(List.range (k+1)).flatMap f=(List.range k).flatMap f++f k:=by rw[List.range_succ,List.flatMap_append];simp
theorem GF{α:Type}{f:Nat->List α}{R:Nat}(n:Nat)(h:∀ k,k<n->(f k).length=R):((List.range n).flatMap f).length=n*R:=by
 induction n with
 | zero=>simp
 | succ n ih=>rw[GD,List.length_append,ih (λk hk=>h k (by omega)),h n (by omega),Nat.add_mul];omega
theorem Ts{α:Type}{f:Nat->List α}{R:Nat}{k:Nat}:∀(n:Nat),k<n->(∀ k,k<n->(f k).length=R)->(((List.range n).flatMap f).drop (k*R)).take R=f k
 | 0,hk,_=>by omega
 | n+1,hk,h=>by
  have hl:=GF n (λk hk=>h k (by omega));rw[GD];by_cases e:k=n
  ·subst e;rw[List.drop_append,List.drop_eq_nil_of_le (by omega),hl,Nat.sub_self,List.drop_zero,List.nil_append,List.take_of_length_le (by rw[h k (by omega)];exact Nat.le_refl _)]
  ·have ih:=Ts (k:=k) n (by omega) (λk hk=>h k (by omega));have:(k+1)*R<=n*R:=Nat.mul_le_mul_right R (show k+1<=n by omega);rw[Nat.add_mul,Nat.one_mul]at this;rw[List.drop_append_of_le_length (by omega),List.take_append_of_le_length (by rw[List.length_drop,hl];omega),ih]
theorem GG(m:cd)(k:Int):(ZN m k).length=m.1.toNat:=by simp[ZN]
theorem QOY{m:cd}(h:Zo m=true){k:Nat}(hk:(k:Int)<m.2.1):Z8 (ZN m k)=true:=by
 obtain⟨h1,h2,h3,h4,h5,h6,h7⟩:=rL h;unfold Z8 ZN;rw[List.all_eq_true];intro x hx;obtain⟨i,hi,rfl⟩:=List.mem_map.1 hx;have hi:=List.mem_range.1 hi;have hd:=idx (r:=i) (R:=m.1) (C:=m.2.1) (by omega) (by omega) (by omega);unfold Z8 at h7;generalize(i:Int)*m.2.1=z at *;generalize m.1*m.2.1=y at *;exact List.all_eq_true.1 h7 _ (JI (show Int.toNat (z+k)<m.2.2.length by omega) 0)
theorem QJ9{m:cd}(h:Zo m=true):Zo (Yz m)=true/\(Yz m).1=m.2.1/\(Yz m).2.1=m.1/\∀ k:Nat,(k:Int)<m.2.1->YA (Yz m) k=ZN m k:=by
 obtain⟨h1,h2,h3,h4,h5,h6,h7⟩:=rL h;have ht:Yz m=(m.2.1,m.1,(List.range m.2.1.toNat).flatMap λk:Nat=>ZN m k):=by unfold Yz;rw[if_pos h]
 have hl:=GF (f:=λk:Nat=>ZN m k) m.2.1.toNat (λk hk=>GG m k)
 have hn:((m.2.1.toNat*m.1.toNat:Nat):Int)=m.2.1*m.1:=by rw[Int.natCast_mul,Int.toNat_of_nonneg (by omega),Int.toNat_of_nonneg (by omega)]
 rw[ht];refine⟨?_,rfl,rfl,λk hk=>?_⟩
 ·simp only[Zo,Bool.and_eq_true,Zb,beq_iff_eq];refine⟨⟨⟨⟨h3,h4⟩,h1,h2⟩,by rw[hl,hn]⟩,?_⟩;unfold Z8;rw[List.all_eq_true];intro x hx;obtain⟨k,hk,hx⟩:=List.mem_flatMap.1 hx;have:=QOY h (k:=k) (by have:=List.mem_range.1 hk;omega);unfold Z8 at this;exact List.all_eq_true.1 this x hx
 ·have hs:=Ts (f:=λk:Nat=>ZN m k) (k:=k) m.2.1.toNat (by omega) (λk hk=>GG m k)
  have hd:=idx (r:=k) (R:=m.2.1) (C:=m.1) (by omega) hk (by omega);have e1:Int.toNat ((k:Int)*m.1)=k*m.1.toNat:=by
   have:((k*m.1.toNat:Nat):Int)=(k:Int)*m.1:=by rw[Int.natCast_mul,Int.toNat_of_nonneg (by omega)]
   omega
  unfold YA slice;simp only;rw[show Int.toNat (((k:Int)+1)*m.1)-Int.toNat ((k:Int)*m.1)=m.1.toNat by omega,e1];exact hs
theorem QJO{m:cd}{d:List Int}(h:Zo m=true)(hd:QH d m.1=true):Q6 (Yz m) d=Zr m d:=by
 obtain⟨h1,h2,h3,h4⟩:=QJ9 h;unfold Q6 Zr;rw[if_pos (by rw[h1,h3,hd];rfl),if_pos (by rw[h,hd];rfl),h2];have e:∀ i,i∈List.range m.2.1.toNat->YA (Yz m) (i:Nat)=ZN m (i:Nat):=λi hi=>h4 i (by have:=List.mem_range.1 hi;omega);refine Prod.ext (List.map_congr_left λi hi=>by rw[e i hi]) ?_;show(List.range m.2.1.toNat).any _=(List.range m.2.1.toNat).any _;rw[Bool.eq_iff_iff,List.any_eq_true,List.any_eq_true];constructor
 ·rintro⟨i,hi,h⟩;exact⟨i,hi,by rw[<- e i hi];exact h⟩
 ·rintro⟨i,hi,h⟩;exact⟨i,hi,by rw[e i hi];exact h⟩
theorem Tt{m:cd}{d:List Int}(h:¬ (Zo m=true/\QH d m.1=true)):Zr m d=([],false):=by unfold Zr;rw[if_neg (by simpa using h)]
theorem Tu{m:cd}{d:List Int}(h:¬ (Zo m=true/\QH d m.2.1=true)):Q6 m d=([],false):=by unfold Q6;rw[if_neg (by simpa using h)]
theorem AA{x:Int}(h:0<=x):0<=QS x:=by
 unfold QS jR jS;repeat' split
 all_goals omega
theorem Tv:∀(a:List Int)(z:Int),0<=z->0<=(Yq a a z).1
 | [],z,h=>by simpa[Yq]using h
 | x::r,z,h=>by
  rw[Yq];refine Tv r _ ?_;have h1:0<=QS x*QS x:=by
   rcases Int.le_total 0 (QS x) with h2 | h2
   ·exact Int.mul_nonneg h2 h2
   ·exact Int.mul_nonneg_of_nonpos_of_nonpos h2 h2
  have h3:0<=Int.fdiv (QS x*QS x) 65536:=by rw[Int.fdiv_eq_ediv_of_nonneg _ (by omega)];omega
  have h4:0<=(Q7 x x).1:=AA h3;have h5:=AA h;have h6:=AA h4;exact AA (by omega)
theorem QGD(a:List Int):0<=(Q1 a a).1:=by
 unfold Q1;split
 ·exact Tv a 0 (by omega)
 ·show(0:Int)<=0;omega
theorem GH(x:List Int)(n:Int):(!(QK x)||((x.length:Int) != n)) = !(QH x n):=by unfold QH;simp[bne]
theorem AB{o:aH}(h:Zh o=true)(h4:o.1=4):0<o.2.2.2.length:=by
 have:=Tq h;rw[if_neg (by omega),if_neg (by omega),if_pos h4]at this;omega
theorem Tw{o:aH}{x:List Int}(h:¬ (Zh o=true/\QH x o.2.1=true)):ZV o x=([],false):=by unfold ZV;rw[if_neg (by simpa using h)]
theorem Tx{o:aH}{x d:List Int}(h:¬ ((Zh o=true/\QH x o.2.1=true)/\QH d o.2.2.1=true)):ZY o x d=([],[],false):=by unfold ZY;rw[if_neg (by simpa using h)]
theorem AD{o:aH}(h:Zh o=true):1<=o.1/\o.1<=5:=by simp only[Zh,Bool.and_eq_true,Zb]at h;exact h.1.1.1.1.1
theorem rM{α:Type}(v:List α):List.take (id v).length (List.drop 0 (id v))=v:=by simp
theorem tQ{α:Type}(v:List α):List.take (0+v.length) (List.drop 0 v)=v:=by simp
theorem xx{α:Type}(v:List α):List.take v.length (List.drop 0 v)=v:=by simp
theorem drop_nil{α:Type}{l:List α}{k:Nat}(h:l.length<=k):l.drop k=[]:=List.drop_eq_nil_of_le h
theorem YE{α:Type}[Sz α]{l:List α}{A:Int->List α->Prop}{Q:List α->Prop}(hs:sz l<=2147483648)
  (hA:∀(k:Nat)(x:α)(v:List α),k<l.length->l.length<=2147483648->(∀ d,aq d l k=x)->v.length=k->sz x<=2147483648->A ((k+1:Nat):Int) (v++[x])->A (k:Nat) v)
  (hE:Q l->A (l.length:Nat) l) (hq:Q l):A 0 []:=by
 have hl:=Yl l;refine Za l (λr k=>∀ v,v.length=k->v++r=l->A k v) ?_ ?_ [] rfl rfl
 ·intro v hv he;rw[List.append_nil]at he;subst he;exact hE hq
 ·intro k x r hk aU hg ih v hv he;have hx:=xn hk;exact hA k x v aU (by omega) hg hv (by omega) (ih _ (Yd hv) (by rw[<- he];simp))
theorem QQP{o:aH}(h:Zh o=true):o.2.2.2.length<=36:=by
 have h1:=Tq h;have h2:=Tb h;have h3:=rA h2.1 h2.2.1 h2.2.2.1 h2.2.2.2
 split at h1
 ·omega
 ·split at h1
  ·omega
  ·split at h1 <;> omega
theorem AE{α:Type}(d:α){v:List α}{k:Nat}(h:v.length=k+1):v.take k++[aq d v k]=v:=by
 have h1:aq d v k=v[k]'(by omega):=Ar (List.getElem?_eq_getElem (by omega)) d;rw[h1,List.take_append_getElem (by omega),List.take_of_length_le (by omega)]
theorem Ty{α:Type}(d:α){v:List α}{n:Nat}(y:α)(h:v.length=n):aq d (v++[y]) n=y:=by
 refine Ar ?_ d;rw[List.getElem?_append_right (by omega)];simp[h]
theorem Tz{α:Type}{v:List α}{n:Nat}(y:α)(h:v.length=n):(v++[y]).take n=v:=by
 rw[List.take_append_of_le_length (by omega),List.take_of_length_le (by omega)]
theorem GI{α:Type}(n:Nat)(e g:α)(l:List α):(List.replicate (n+1) e++l).set n g=List.replicate n e++g::l:=by
 rw[List.replicate_succ',List.append_assoc,List.set_append_right _ _ (by simp)];simp
theorem GJ{m:Zx}{x:List Int}(h1:Zc m=true)(h2:QH x (ZM m)=true):JK m x=QV m x:=by unfold JK;rw[if_pos (by rw[h1,h2];rfl)]
theorem TA:∀ {ops:List aH} {rows:List (List Int)},rows.length=ops.length->(∀ o,o∈ops->Zh o=true)->YR ops rows=true->sz rows<=37*ops.length
 | [],[],_,_,_=>by simp
 | [],r::rs,h,_,_=>by simp at h
 | o::os,[],h,_,_=>by simp at h
 | o::os,r::rs,h,ho,hg=>by
  simp only[YR,Bool.and_eq_true,beq_iff_eq]at hg;have h1:=QQP (ho o List.mem_cons_self);have h2:=TA (by simpa using h) (λp hp=>ho p (List.mem_cons_of_mem _ hp)) hg.2;have h3:=ZD r;rw[Jj,List.length_cons];omega
theorem QOL{m:Zx}(h:Zc m=true):∀ o,o∈m->Zh o=true:=by
 intro o ho;obtain⟨i,hi⟩:=List.getElem?_of_mem ho;simp only[Zc,Bool.and_eq_true]at h;exact(Gm h.2 i o hi).1
theorem TB{m:Zx}(h:Zc m=true){a:QO}(h1:a.1.length=m.length/\YR m a.1=true):sz a<=296:=by
 have:=TA h1.1 (QOL h) h1.2;have:=Yv h;simp only[QR,QL,QY];omega
end Go.Proofs.YtdplaepmjogjjaaGreat.Am

set_option linter.all false
namespace Go.Proofs.YtdplaepmjogjjaaGreat.Am
open Go Go.RowKit Sz
def gy{α:Type}(d:α)(i:Nat)(p:α->Int->α)(z:Int × List α):Int × List α:=(aG (z.1+(1:Int)),z.2.set i (p (aq d z.2 i) z.1))
def gg{α β:Type}(d:α)(i:Nat)(g:α->β)(p:α->β->α)(f:β->Int->Int × β)(z:Int × List α):Int × List α :=
 ((f (g (aq d z.2 i)) z.1).1,z.2.set i (p (aq d z.2 i) (f (g (aq d z.2 i)) z.1).2))
theorem Ye{α:Type}(d:α)(pre post:List α)(x:α):aq d (pre++x::post) pre.length=x:=by
 simp[aq]
theorem nK{α:Type}(pre post:List α)(x y:α):(pre++x::post).set pre.length y=pre++y::post:=by
 simp
theorem J6{α:Type}(d:α)(p:α->Int->α)(k:Int)(pre post:List α)(x:α):gy d pre.length p (k,pre++x::post)=(aG (k+1),pre++p x k::post):=by
 simp[gy,Ye]
theorem nM{α β:Type}(d:α)(g:α->β)(p:α->β->α)(f:β->Int->Int × β)(k:Int)(pre post:List α)(x:α):gg d pre.length g p f (k,pre++x::post)=((f (g x) k).1,pre++p x (f (g x) k).2::post):=by
 simp[gg,Ye]
theorem iK{α:Type}(pre post:List α)(x:α):(pre.length<(pre++x::post).length)=True:=by
 simp
class Mk(α:Type) where
 m:α->Int->Int × α
 n:α->Nat
 ie:∀(x:α)(k:Int),0<=k->k+(n x:Nat)<=1099511627776->(m x k).1=k+(n x:Nat)
 idem:∀(x:α)(k:Int),m (m x k).2 k=m x k
 same:∀(x:α)(k:Int),n (m x k).2=n x
instance:Mk Int where
 m _ k:=(aG (k+1),k)
 n _:=1
 ie x k h1 h2:=QG (by omega) (by simp at h2;omega)
 idem _ _:=rfl
 same _ _:=rfl
instance:Mk Bool where
 m _ k:=(aG (k+1),Int.tmod k 3==0)
 n _:=1
 ie x k h1 h2:=QG (by omega) (by simp at h2;omega)
 idem _ _:=rfl
 same _ _:=rfl
instance {α β:Type} [Mk α] [Mk β]:Mk (α × β) where
 m x k:=((Mk.m x.2 (Mk.m x.1 k).1).1,((Mk.m x.1 k).2,(Mk.m x.2 (Mk.m x.1 k).1).2))
 n x:=Mk.n x.1+Mk.n x.2
 ie x k h1 h2:=by
  have e:=Mk.ie x.1 k h1 (by omega)
  simp only
  rw[e,Mk.ie x.2 _ (by omega) (by omega)]
  omega
 idem x k:=by simp only[Mk.idem]
 same x k:=by simp only[Mk.same]
def l6{α:Type}[Mk α]:List α->Int->Int × List α
 | [],k=>(k,[])
 | x::r,k=>((l6 r (Mk.m x k).1).1,(Mk.m x k).2::(l6 r (Mk.m x k).1).2)
def nL{α:Type}[Mk α]:List α->Nat
 | []=>0
 | x::r=>Mk.n x+nL r
instance {α:Type} [Mk α]:Mk (List α) where
 m:=l6
 n:=nL
 ie x:=by
  induction x with
  | nil=>intro k _ _;simp[l6,nL]
  | cons x r ih =>
   intro k h1 h2
   simp only[nL]at h2 ⊢
   have e:=Mk.ie x k h1 (by omega)
   simp only[l6,e]
   rw[ih _ (by omega) (by omega)]
   omega
 idem x:=by
  induction x with
  | nil=>intro k;rfl
  | cons x r ih=>intro k;simp only[l6,Mk.idem,ih]
 same x:=by
  induction x with
  | nil=>intro k;rfl
  | cons x r ih=>intro k;simp only[l6,nL,Mk.same,ih]
theorem QRf{α:Type}[Mk α](x:List α):∀(k:Int),(Mk.m x k).2.length=x.length:=by
 induction x with
 | nil=>intro k;rfl
 | cons x r ih=>intro k;show(Mk.m r (Mk.m x k).1).2.length+1=r.length+1;rw[ih]
theorem AF{α:Type}[Mk α](x:List α)(k:Int):List.take x.length (Mk.m x k).2=(Mk.m x k).2:=List.take_of_length_le (by rw[QRf];exact Nat.le_refl _)
class cW(α:Type) where
 m:α->Int->Int × α
 n:α->Nat
 ie:∀(x:α)(k:Int),0<=k->k+(n x:Nat)<=1099511627776->(m x k).1=k+(n x:Nat)
 idem:∀(x:α)(k:Int),m (m x k).2 k=m x k
 same:∀(x:α)(k:Int),n (m x k).2=n x
instance:cW Int where
 m x k:=(k,x)
 n _:=0
 ie x k _ _:=by simp
 idem _ _:=rfl
 same _ _:=rfl
instance:cW Bool where
 m x k:=(k,x)
 n _:=0
 ie x k _ _:=by simp
 idem _ _:=rfl
 same _ _:=rfl
instance {α β:Type} [cW α] [cW β]:cW (α × β) where
 m x k:=((cW.m x.2 (cW.m x.1 k).1).1,((cW.m x.1 k).2,(cW.m x.2 (cW.m x.1 k).1).2))
 n x:=cW.n x.1+cW.n x.2
 ie x k h1 h2:=by
  have e:=cW.ie x.1 k h1 (by omega)
  simp only
  rw[e,cW.ie x.2 _ (by omega) (by omega)]
  omega
 idem x k:=by simp only[cW.idem]
 same x k:=by simp only[cW.same]
instance {α:Type} [Mk α]:cW (List α) where
 m:=Mk.m
 n:=Mk.n
 ie:=Mk.ie
 idem:=Mk.idem
 same:=Mk.same
def QP{α:Type}[Mk α](x:α)(k:Int):Int × α:=Mk.m x k
def ZT{α:Type}[cW α](x:α)(k:Int):Int × α:=cW.m x k
def Q4{α:Type}[Mk α](x:α)(k:Int):Prop:=0<=k/\k+(Mk.n x:Nat)<=1099511627776
def Jg{α:Type}[cW α](x:α)(k:Int):Prop:=0<=k/\k+(cW.n x:Nat)<=1099511627776
open Classical in
noncomputable def aS{α:Type}[Mk α](x:α)(k:Int):Int:=if(Mk.m x k).2=x then(Mk.m x k).1 else -1
open Classical in
noncomputable def eg{α:Type}[cW α](x:α)(k:Int):Int:=if(cW.m x k).2=x then(cW.m x k).1 else -1
theorem xy{α:Type}[Mk α]{x:α}{k:Int}(h:(Mk.m x k).2=x):aS x k=(Mk.m x k).1:=by simp[aS,h]
theorem AG{α:Type}[Mk α]{x:α}{k:Int}(h:¬ (Mk.m x k).2=x):aS x k = -1:=by simp[aS,h]
theorem TC{α:Type}[cW α]{x:α}{k:Int}(h:(cW.m x k).2=x):eg x k=(cW.m x k).1:=by simp[eg,h]
theorem AH{α:Type}[cW α]{x:α}{k:Int}(h:¬ (cW.m x k).2=x):eg x k = -1:=by simp[eg,h]
theorem Z3{α:Type}[Mk α]{x:α}{k:Int}(hp:Q4 x k)(h:aS x k<0):¬ (Mk.m x k).2=x:=λe=>by
 rw[xy e,Mk.ie x k hp.1 hp.2]at h;have:=hp.1;omega
theorem Yf{α:Type}[Mk α]{x:α}{k:Int}(h:¬ aS x k<0):(Mk.m x k).2=x/\aS x k=(Mk.m x k).1:=by
 apply Classical.byContradiction;intro hn;have:¬ (Mk.m x k).2=x:=λe=>hn ⟨e,xy e⟩;rw[AG this]at h;omega
theorem o6{α β:Type}[Mk α][Mk β](x:α × β)(k:Int):Mk.m x k=((Mk.m x.2 (Mk.m x.1 k).1).1,((Mk.m x.1 k).2,(Mk.m x.2 (Mk.m x.1 k).1).2)):=rfl
theorem o7(x:Int)(k:Int):Mk.m x k=(aG (k+1),k):=rfl
theorem o8(x:Bool)(k:Int):Mk.m x k=(aG (k+1),Int.tmod k 3==0):=rfl
theorem QOe{α β:Type}[cW α][cW β](x:α × β)(k:Int):cW.m x k=((cW.m x.2 (cW.m x.1 k).1).1,((cW.m x.1 k).2,(cW.m x.2 (cW.m x.1 k).1).2)):=rfl
theorem QUT(x:Int)(k:Int):cW.m x k=(k,x):=rfl
theorem QPz(x:Bool)(k:Int):cW.m x k=(k,x):=rfl
theorem QQL{α:Type}[Mk α](x:List α)(k:Int):cW.m x k=Mk.m x k:=rfl
theorem Ze{α β:Type}[Mk α][Mk β]{x:α × β}{k:Int}(h:Q4 x k):Q4 x.1 k/\Q4 x.2 (Mk.m x.1 k).1:=by
 have hn:Mk.n x=Mk.n x.1+Mk.n x.2:=rfl;unfold Q4 at *;rw[hn]at h;have e:=Mk.ie x.1 k h.1 (by omega);rw[e];omega
theorem tR{α β:Type}[cW α][cW β]{x:α × β}{k:Int}(h:Jg x k):Jg x.1 k/\Jg x.2 (cW.m x.1 k).1:=by
 have hn:cW.n x=cW.n x.1+cW.n x.2:=rfl;unfold Jg at *;rw[hn]at h;have e:=cW.ie x.1 k h.1 (by omega);rw[e];omega
theorem o9{α:Type}[Mk α]{x:List α}{k:Int}(h:Jg x k):Q4 x k:=h
theorem Ym:(¬ (3:Int)=0)=True:=by simp
theorem Y1{α:Type}[BEq α][LawfulBEq α]{x y:α}(h:(x != y)=false):x=y:=by simpa using h
theorem YV{α:Type}[BEq α][LawfulBEq α]{x y:α}(h:(x != y)=true):¬ x=y:=by simpa using h
theorem Yr{α:Type}[Sz α]{a:List α}(h:bA a):a.length<=1048576:=Nat.le_trans (Yl a) h
theorem J0{α:Type}(l:List α)(i:Nat)(x:α):(l.set i x).take l.length=l.set i x:=List.take_of_length_le (by simp)
theorem nN{α:Type}[Sz α](a:List α){d:α}{A:Int->List α->Prop}{Q:List α->Prop}(h:bA a)
  (hs:∀(k:Nat)(x:α)(out:List α),k<a.length->(∀ d,aq d a k=x)->out.length=a.length->bA x->A ((k+1:Nat):Int) (out.set k x)->A ((k:Nat):Int) out)
  (he:∀ out:List α,out.length=a.length->Q out->A ((a.length:Nat):Int) out) (hq:Q a):A 0 (List.take (Int.toNat (a.length:Int)) (List.replicate (Int.toNat (a.length:Int)) d)):=by
 have key:∀ out:List α,out.length=a.length->out.take 0=a.take 0->A (0:Nat) out:=by
  refine Za a (λr k=>∀ out:List α,out.length=a.length->out.take k=a.take k->A k out) ?_ ?_
  ·intro out hl ht;refine he out hl ?_;rw[List.take_of_length_le (by omega),List.take_of_length_le (by omega)]at ht;rw[ht];exact hq
  ·intro k x r hk aU hg ih out hl ht;refine hs k x out aU hg hl (by have:=xn hk;unfold bA at h ⊢;omega) (ih _ (by simp[hl]) ?_);have hx:a[k]? = some x:=by have:=congrArg List.head? hk;simpa[List.head?_drop]using this
   rw[List.take_add_one,List.take_add_one,List.getElem?_set_self (by omega),hx,List.take_set_of_le (by omega),ht]
 exact key _ (by simp) rfl
theorem nO{α:Type}[Mk α](a:List α)(k:Int){A:Int->Int->List α->Prop}{Q:Int × List α->Prop}
  (hs:∀(k:Int)(pre post:List α)(x:α),pre.length+1+post.length=a.length->A (Mk.m x k).1 (((pre.length+1:Nat)):Int) (pre++(Mk.m x k).2::post)->A k ((pre.length:Nat):Int) (pre++x::post))
  (he:∀(k:Int)(l:List α),l.length=a.length->Q (k,l)->A k ((a.length:Nat):Int) l) (hq:Q (QP a k)):A k 0 a:=by
 suffices ∀(post pre:List α)(k:Int),pre.length+post.length=a.length->Q ((l6 post k).1,pre++(l6 post k).2)->A k ((pre.length:Nat):Int) (pre++post) from this a [] k (by simp) hq
 intro post
 induction post with
 | nil =>
  intro pre k hl hq;have:=he k (pre++[]) (by simpa using hl) (by simpa[l6]using hq);rw[show pre.length=a.length by simpa using hl];exact this
 | cons x post ih =>
  intro pre k hl hq;refine hs k pre post x (by simp at hl;omega) ?_;have:=ih (pre++[(Mk.m x k).2]) (Mk.m x k).1 (by simp at hl ⊢;omega) (by simpa[l6]using hq);simpa using this
theorem J8{α:Type}[Mk α](a:List α)(k:Int)(hp:Q4 a k){A:Int->Int->Prop}{Q:Int->Prop}
  (hs:∀(k:Int)(pre post:List α)(x:α),a=pre++x::post->Q4 x k->(¬ (Mk.m x k).2=x->Q (-1))->((Mk.m x k).2=x->A (Mk.m x k).1 (((pre.length+1:Nat)):Int))->A k ((pre.length:Nat):Int))
  (he:∀(k:Int),Q k->A k ((a.length:Nat):Int)) (hq:Q (aS a k)):A k 0:=by
 suffices ∀(post pre:List α)(k:Int),a=pre++post->Q4 post k->Q (aS post k)->A k ((pre.length:Nat):Int) from this a [] k (by simp) hp hq
 intro post
 induction post with
 | nil =>
  intro pre k hl _ hq;have:pre.length=a.length:=by rw[hl];simp
  rw[this];exact he k (by have:=xy (x:=([]:List α)) (k:=k) rfl;rw[this]at hq;exact hq)
 | cons x post ih =>
  intro pre k hl hp hq;have hn:Mk.n (x::post)=Mk.n x+Mk.n post:=rfl;have il:=hp;unfold Q4 at hp;rw[hn]at hp;have fR:Q4 x k:=⟨hp.1,by have:=hp.2;omega⟩
  have TD:=Mk.ie x k fR.1 fR.2;refine hs k pre post x hl fR (λdN=>?_) (λheq=>?_)
  ·rw[AG (λh=>dN (by have:((Mk.m x k).2::(Mk.m post (Mk.m x k).1).2)=x::post:=h;injection this))]at hq;exact hq
  ·have:=ih (pre++[x]) (Mk.m x k).1 (by simp[hl]) ⟨by rw[TD];omega,by rw[TD];have:=hp.2;omega⟩ (by
    by_cases h:(Mk.m post (Mk.m x k).1).2=post
    ·rw[xy h];rw[xy (show(Mk.m (x::post) k).2=x::post from by show(Mk.m x k).2::(Mk.m post (Mk.m x k).1).2=_;rw[heq,h])]at hq;exact hq
    ·rw[AG h];rw[AG (λh'=>h (by have:((Mk.m x k).2::(Mk.m post (Mk.m x k).1).2)=x::post:=h';injection this))]at hq;exact hq)
   simpa using this
end Go.Proofs.YtdplaepmjogjjaaGreat.Am
namespace Go.Proofs.YtdplaepmjogjjaaGreat.Am
open Go Go.RowKit Sz
theorem nP{α β:Type}[Mk α][Mk β](x:α × β):Mk.n x=Mk.n x.1+Mk.n x.2:=rfl
theorem JJ(x:Int):Mk.n x=1:=rfl
theorem QSi(x:Bool):Mk.n x=1:=rfl
theorem QSN{α β:Type}[cW α][cW β](x:α × β):cW.n x=cW.n x.1+cW.n x.2:=rfl
theorem QUI{α:Type}[Mk α](x:List α):cW.n x=Mk.n x:=rfl
theorem J5{α:Type}[Sz α][Mk α](h:∀ x:α,Mk.n x<=16+16*sz x)(l:List α):Mk.n l<=16*sz l:=by
 induction l with
 | nil=>exact Nat.zero_le _
 | cons x r ih =>
  have h1:=h x;have h2:Mk.n (x::r)=Mk.n x+Mk.n r:=rfl;rw[h2,Jj];omega
theorem JY(l:List Int):Mk.n l<=16*sz l:=J5 (λx=>by rw[JJ];omega) l
theorem GK(l:List (List Int)):Mk.n l<=16*sz l:=J5 (λx=>by have:=JY x;omega) l
theorem QQO(l:List bp):Mk.n l<=16*sz l:=J5 (λx=>by rw[nP,JJ,JJ];omega) l
theorem QKh(l:List Qm):Mk.n l<=16*sz l:=J5 (λx=>by have:=JY x.2;rw[nP,JJ,QR,QL];omega) l
theorem QYb(l:List aH):Mk.n l<=16*sz l:=J5 (λx=>by
 have:=JY x.2.2.2;rw[nP,nP x.2,nP x.2.2,JJ,JJ,JJ,QR,QR x.2,QR x.2.2,QL,QL,QL];omega) l
theorem QPt(l:List Qo):Mk.n l<=16*sz l:=J5 (λx=>by have:=JY x.1;have:=JY x.2;rw[nP,QR];omega) l
theorem QWJ(l:List QD):Mk.n l<=16*sz l:=J5 (λx=>by have:=GK x.2;rw[nP,JJ,QR,QL];omega) l
theorem TF(l:List Qd):Mk.n l<=16*sz l:=J5 (λx=>by have:=QKh x.2;rw[nP,JJ,QR,QL];omega) l
theorem QW2(l:List Qc):Mk.n l<=16*sz l:=J5 (λx=>by
 obtain⟨a,b,c,d,e,f,g,h,i,j,k,m,n,o⟩:=x;have h1:=QQO b;have h2:=QYb c;have h3:=QWJ f;have h4:=GK g;have h5:=JY h;have h6:=JY i;have h7:=JY j;have h8:=JY k;have h9:=GK m;simp only[nP,JJ,QSi,YK,QL,QY];omega) l
theorem TG(x:Qk):cW.n x<=16*sz x:=by
 obtain⟨a,b,c,d⟩:=x;have h1:=QPt a;have h2:=QW2 b;have h3:=TF c;have h4:=TF d;simp only[QSN,QUI,YK];omega
theorem QQI{α:Type}[Sz α][Mk α]{x:α}{k:Int}{b c:Nat}(hk:0<=k/\k<=b)(hn:Mk.n x<=16*sz x)(hs:sz x<=c)(hb:b+16*c<=1099511627776):Q4 x k/\0<=(QP x k).1/\(QP x k).1<=((b+16*c:Nat):Int):=by
 have hp:Q4 x k:=⟨hk.1,by omega⟩
 have:=Mk.ie x k hp.1 hp.2;have:(QP x k).1=k+(Mk.n x:Nat):=this;exact⟨hp,by omega,by omega⟩
theorem TH{α:Type}[Sz α][cW α]{x:α}{k:Int}{b c:Nat}(hk:0<=k/\k<=b)(hn:cW.n x<=16*sz x)(hs:sz x<=c)(hb:b+16*c<=1099511627776):Jg x k/\0<=(ZT x k).1/\(ZT x k).1<=((b+16*c:Nat):Int):=by
 have hp:Jg x k:=⟨hk.1,by omega⟩
 have:=cW.ie x k hp.1 hp.2;have:(ZT x k).1=k+(cW.n x:Nat):=this;exact⟨hp,by omega,by omega⟩
theorem QS2{α:Type}[cW α]{x:α}{k:Int}(hp:Jg x k):Jg (ZT x k).2 k/\eg (ZT x k).2 k=(ZT x k).1:=by
 refine⟨⟨hp.1,?_⟩,?_⟩
 ·have:cW.n (ZT x k).2=cW.n x:=cW.same x k;rw[this];exact hp.2
 ·have h:cW.m (ZT x k).2 k=cW.m x k:=cW.idem x k;rw[TC (by rw[h];rfl),h];rfl
end Go.Proofs.YtdplaepmjogjjaaGreat.Am

namespace Go.Proofs.YtdplaepmjogjjaaGreat.Am
open Go Go.RowKit Go.Proofs.YtdplaepmjogjjaaGreat
set_option linter.all false
noncomputable section
variable (K:aB->Prop)
def tS(t:Int):aB:=b7 (aL t)
def rN:aI:=Qg 59 [(.c (.sl [TI])),(.c TI)] λx=>(some (bJ (α:=List Int) x.1 x.2.1),tS (bg (α:=List Int) x.1 x.2.1))
def QPY:aF:=⟨[],false⟩
def QWx:af :=
 (ag [(.ae [ab 4 (ar 0)]),(.ae [ab 5 1,ab 6 0,a9 7 6,aw 8 .sub 5 7,ab 1 8]),(ag [(.ae [ab 9 1,aw 10 .lss 9 (ar 0)]),(.cond 10 (ag [(.ae [ab 4 (ar (-1))]),.ret]) .skip)]),(.ae [ab 11 1,ab 4 11]),.ret])
def QPO:List (bm × Md):=[(.t 4,.one .d)]
theorem QRi(a:List Int)(left:Int)(hp:bJ (α:=List Int) a left):aK Tryz.prog 59 [(.c (.sl [TI]) a),(.c TI left)] (tS (bg (α:=List Int) a left)):=by
 refine bw QPY QWx QPO 0 0 12 rN kn (λK =>
 (aJ (decide ((aG (left-(a.length:Int)))<0)) (K (tS (-1:Int))) (K (tS (aG (left-(a.length:Int))))))) (λhb=>?_)
 exact Ta (Q:=λx=>tS x=tS (bg (α:=List Int) a left)) (λ_=>rfl) hp hb.1.1 rfl
theorem xz:Qf Tryz.prog rN:=Qi λx h=>QRi x.1 x.2.1 h
def AJ(t:Int):aB:=b7 (aL t)
def GL:aI:=Qg 154 [(.a [(.sl [TI])]),(.c TI)] λx=>(some (bJ (α:=List Int) x.1 x.2.1),AJ (bg (α:=List Int) x.1 x.2.1))
def QRy:aF:=⟨[rN],false⟩
def QGc:af :=
 (ag [(.ae [aC 2 (.box 189 0 1),ab 4 (ar 0)]),(.ae [ak 5 2 0,an 6 5 1,ab 7 1,aD 8 59 [6,7],ab 1 8]),(ag [(.ae [ab 9 1,aw 10 .lss 9 (ar 0)]),(.cond 10 (ag [(.ae [ab 4 (ar (-1))]),.ret]) .skip)]),(.ae [ab 11 1,ab 4 11]),.ret])
def QMs:List (bm × Md):=[(.t 4,.one .d)]
theorem QMH(a:List Int)(left:Int)(hp:bJ (α:=List Int) a left):aK Tryz.prog 154 [(.a [(.c (.sl [TI]) a)]),(.c TI left)] (AJ (bg (α:=List Int) a left)):=by
 refine bw QRy QGc QMs 0 0 12 GL (kc xz kn) (λK =>
 ((bJ (α:=List Int) a left)/\(aJ (decide ((bg (α:=List Int) a left)<0)) (K (AJ (-1:Int))) (K (AJ (bg (α:=List Int) a left)))))) (λhb=>?_)
 refine⟨hp,λh=>au (Z0 (of_decide_eq_true h) (by first | omega | (simp only[QR,QL,QY];omega)) hp.1),λh=>?_⟩;exact au (congrArg (Z7 · _) (by first | rfl | omega | (simp only[QR,QL,QY];omega)))
theorem QWo:Qf Tryz.prog GL:=Qi λx h=>QMH x.1 x.2.1 h
def rO(t:Int):aB:=b7 (aL t)
def xA:aI:=Qg 58 [(.c (.sl [(.sl [TI])])),(.c TI)] λx=>(some (bJ (α:=List (List Int)) x.1 x.2.1),rO (bg (α:=List (List Int)) x.1 x.2.1))
def GM:aF:=⟨[GL],false⟩
def TJ:af :=
 (ag [(ag [(.ae [ab 12 5,ab 13 0,a9 14 13,aw 15 .lss 12 14]),(.cond 15 .skip (.exit 0))]),(.block 1 (ag [(.ae [ab 18 0,ab 19 5,aZ 20 18 19 [(.sl [TI])],a7 21 20 1,ab 22 1,aD 23 154 [21,22],ab 1 23]),(.ae [ab 24 1,aw 25 .lss 24 (ar 0)]),(.cond 25 (ag [(.ae [ab 4 (ar (-1))]),.ret]) .skip)])),(.ae [ab 16 5,aw 17 .add 16 (ar 1),ab 5 17])])
def TK:List (Nat × Md):=eW [0,1,5]
def TL:af :=
 (ag [(.ae [ab 26 1,ab 4 26]),.ret])
def QFs:af :=
 (ag [(.ae [ab 4 (ar 0)]),(.ae [ab 6 1,ab 7 0,a9 8 7,aw 9 .sub 6 8,ab 1 9]),(ag [(.ae [ab 10 1,aw 11 .lss 10 (ar 0)]),(.cond 11 (ag [(.ae [ab 4 (ar (-1))]),.ret]) .skip)]),(ag [(.ae [ab 5 (ar 0)]),(.block 0 (.loop TK TJ))]),TL])
def TM:List (bm × Md):=[(.t 4,.one .d)]
def TN:Qb:=TQ 0 0 TM K
def QRV:Qb:=aY (aN GM 0 TL (TN K)) (TN K)
def QGb:Qb:=a6 0 (QRV K)
def GN(a:List (List Int))(bC:Int)(i:Int):Prop:=Loop GM 0 TK TJ (QGb K) ⟨[(0,(bc [(.sl [TI])] a)),(1,(aL bC)),(5,(aL i))],[],0⟩
theorem QVD(a:List (List Int))(bC:Int)(i:Int) (h :
 (aJ (decide (i<(a.length:Int))) (((0<=i/\Int.toNat i<a.length)/\(bJ (α:=List Int) (aq ([]:List Int) a (Int.toNat i)) bC))/\(aJ (decide ((bg (α:=List Int) (aq ([]:List Int) a (Int.toNat i)) bC)<0)) (K (rO (-1:Int))) (GN K a (bg (α:=List Int) (aq ([]:List Int) a (Int.toNat i)) bC) (aG (i+1))))) (K (rO bC)))):GN K a bC i :=
 Loop.of h
theorem QLW(a:List (List Int))(left:Int)(hp:bJ (α:=List (List Int)) a left):aK Tryz.prog 58 [(.c (.sl [(.sl [TI])]) a),(.c TI left)] (rO (bg (α:=List (List Int)) a left)):=by
 refine bw GM QFs TM 0 0 27 xA (kc QWo kn) (λK =>
 (aJ (decide ((aG (left-(a.length:Int)))<0)) (K (rO (-1:Int))) (GN K a (aG (left-(a.length:Int))) 0))) (λhb=>?_)
 exact rz (Q:=λx=>rO x=rO (bg (α:=List (List Int)) a left)) ([]:List Int) hp hb.1.1 (λl i h=>QVD _ a l i h) rfl
theorem GO:Qf Tryz.prog xA:=Qi λx h=>QLW x.1 x.2.1 h
def AK(t:Int):aB:=b7 (aL t)
def GP:aI:=Qg 60 [(.a Zj),(.c TI)] λx=>(some (bJ (α:=QO) x.1 x.2.1),AK (bg (α:=QO) x.1 x.2.1))
def QPe:aF:=⟨[xA],false⟩
def QNN:af :=
 (ag [(.ae [aC 2 (.box 28 0 3),ab 4 (ar 0)]),(.ae [ak 5 2 0,an 6 5 1,ab 7 1,aD 8 58 [6,7],ab 1 8]),(ag [(.ae [ab 9 1,aw 10 .lss 9 (ar 0)]),(.cond 10 (ag [(.ae [ab 4 (ar (-1))]),.ret]) .skip)]),(.ae [ab 11 1,ab 4 11]),.ret])
def QGu:List (bm × Md):=[(.t 4,.one .d)]
theorem QIj(a:QO)(left:Int)(hp:bJ (α:=QO) a left):aK Tryz.prog 60 [(.a (aR.cells Zj a)),(.c TI left)] (AK (bg (α:=QO) a left)):=by
 refine bw QPe QNN QGu 0 0 12 GP (kc GO kn) (λK =>
 ((bJ (α:=List (List Int)) a.1 left)/\(aJ (decide ((bg (α:=List (List Int)) a.1 left)<0)) (K (AK (-1:Int))) (K (AK (bg (α:=List (List Int)) a.1 left)))))) (λhb=>?_)
 refine⟨hp,λh=>au (Z0 (of_decide_eq_true h) (by first | omega | (simp only[QR,QL,QY];omega)) hp.1),λh=>?_⟩;exact au (congrArg (Z7 · _) (by first | rfl | omega | (simp only[QR,QL,QY];omega)))
theorem QXD:Qf Tryz.prog GP:=Qi λx h=>QIj x.1 x.2.1 h
def xB(t:Int):aB:=b7 (aL t)
def GQ:aI:=Qg 116 [(.a QF),(.c TI)] λx=>(some (bJ (α:=Qo) x.1 x.2.1),xB (bg (α:=Qo) x.1 x.2.1))
def QKT:aF:=⟨[rN],false⟩
def QVK:af :=
 (ag [(.ae [aC 2 (.box 151 0 2),ab 4 (ar 0)]),(.ae [ak 5 2 0,an 6 5 1,ab 7 1,aD 8 59 [6,7],ab 1 8]),(ag [(.ae [ab 9 1,aw 10 .lss 9 (ar 0)]),(.cond 10 (ag [(.ae [ab 4 (ar (-1))]),.ret]) .skip)]),(.ae [ak 11 2 1,an 12 11 1,ab 13 1,aD 14 59 [12,13],ab 1 14]),(ag [(.ae [ab 15 1,aw 16 .lss 15 (ar 0)]),(.cond 16 (ag [(.ae [ab 4 (ar (-1))]),.ret]) .skip)]),(.ae [ab 17 1,ab 4 17]),.ret])
def QJV:List (bm × Md):=[(.t 4,.one .d)]
theorem QQE(a:Qo)(left:Int)(hp:bJ (α:=Qo) a left):aK Tryz.prog 116 [(.a [(.c (.sl [TI]) a.1),(.c (.sl [TI]) a.2)]),(.c TI left)] (xB (bg (α:=Qo) a left)):=by
 refine bw QKT QVK QJV 0 0 18 GQ (kc xz kn) (λK =>
 ((bJ (α:=List Int) a.1 left)/\(aJ (decide ((bg (α:=List Int) a.1 left)<0)) (K (xB (-1:Int))) ((bJ (α:=List Int) a.2 (bg (α:=List Int) a.1 left))/\(aJ (decide ((bg (α:=List Int) a.2 (bg (α:=List Int) a.1 left))<0)) (K (xB (-1:Int))) (K (xB (bg (α:=List Int) a.2 (bg (α:=List Int) a.1 left))))))))) (λhb=>?_)
 refine⟨hp,λh=>au (Z0 (of_decide_eq_true h) (by first | omega | (simp only[QR,QL,QY];omega)) hp.1),λh=>?_⟩;rw[Jv (Int.not_lt.1 (of_decide_eq_false h))];refine⟨Jp hp,λh=>au (Z0 (of_decide_eq_true h) (by first | omega | (simp only[QR,QL,QY];omega)) hp.1),λh=>?_⟩;exact au (congrArg (Z7 · _) (by first | rfl | omega | (simp only[QR,QL,QY];omega)))
theorem QO3:Qf Tryz.prog GQ:=Qi λx h=>QQE x.1 x.2.1 h
def rP(t:Int):aB:=b7 (aL t)
def GR:aI:=Qg 34 [(.c (.sl QF)),(.c TI)] λx=>(some (bJ (α:=List Qo) x.1 x.2.1),rP (bg (α:=List Qo) x.1 x.2.1))
def GS:aF:=⟨[GQ],false⟩
def TO:af :=
 (ag [(ag [(.ae [ab 12 5,ab 13 0,a9 14 13,aw 15 .lss 12 14]),(.cond 15 .skip (.exit 0))]),(.block 1 (ag [(.ae [ab 18 0,ab 19 5,aZ 20 18 19 QF,a7 21 20 2,ab 22 1,aD 23 116 [21,22],ab 1 23]),(.ae [ab 24 1,aw 25 .lss 24 (ar 0)]),(.cond 25 (ag [(.ae [ab 4 (ar (-1))]),.ret]) .skip)])),(.ae [ab 16 5,aw 17 .add 16 (ar 1),ab 5 17])])
def TP:List (Nat × Md):=eW [0,1,5]
def TR:af :=
 (ag [(.ae [ab 26 1,ab 4 26]),.ret])
def QUR:af :=
 (ag [(.ae [ab 4 (ar 0)]),(.ae [ab 6 1,ab 7 0,a9 8 7,aw 9 .sub 6 8,ab 1 9]),(ag [(.ae [ab 10 1,aw 11 .lss 10 (ar 0)]),(.cond 11 (ag [(.ae [ab 4 (ar (-1))]),.ret]) .skip)]),(ag [(.ae [ab 5 (ar 0)]),(.block 0 (.loop TP TO))]),TR])
def TS:List (bm × Md):=[(.t 4,.one .d)]
def TT:Qb:=TQ 0 0 TS K
def QS6:Qb:=aY (aN GS 0 TR (TT K)) (TT K)
def QWP:Qb:=a6 0 (QS6 K)
def GU(a:List Qo)(bC:Int)(i:Int):Prop:=Loop GS 0 TP TO (QWP K) ⟨[(0,(bc QF a)),(1,(aL bC)),(5,(aL i))],[],0⟩
theorem QXu(a:List Qo)(bC:Int)(i:Int) (h :
 (aJ (decide (i<(a.length:Int))) (((0<=i/\Int.toNat i<a.length)/\(bJ (α:=Qo) (aq QW a (Int.toNat i)) bC))/\(aJ (decide ((bg (α:=Qo) (aq QW a (Int.toNat i)) bC)<0)) (K (rP (-1:Int))) (GU K a (bg (α:=Qo) (aq QW a (Int.toNat i)) bC) (aG (i+1))))) (K (rP bC)))):GU K a bC i :=
 Loop.of h
theorem QQq(a:List Qo)(left:Int)(hp:bJ (α:=List Qo) a left):aK Tryz.prog 34 [(.c (.sl QF) a),(.c TI left)] (rP (bg (α:=List Qo) a left)):=by
 refine bw GS QUR TS 0 0 27 GR (kc QO3 kn) (λK =>
 (aJ (decide ((aG (left-(a.length:Int)))<0)) (K (rP (-1:Int))) (GU K a (aG (left-(a.length:Int))) 0))) (λhb=>?_)
 exact rz (Q:=λx=>rP x=rP (bg (α:=List Qo) a left)) QW hp hb.1.1 (λl i h=>QXu _ a l i h) rfl
theorem QYN:Qf Tryz.prog GR:=Qi λx h=>QQq x.1 x.2.1 h
def tT(t:(List Int)):aB:=⟨(.r [TI] 0 0 t.length),[(.sl 3 [TI] (.dp 0 true []) t)],[],false,[]⟩
def pb:aI:=Qg 29 [(.c (.sl [TI]))] λx=>(some (bA (α:=List Int) x.1),tT (id (α:=List Int) x.1))
def GV:aF:=⟨[],true⟩
def TU:af :=
 (ag [(ag [(.ae [ab 8 4,ab 9 0,a9 10 9,aw 11 .lss 8 10]),(.cond 11 .skip (.exit 0))]),(.block 1 (.ae [ab 14 3,ab 15 4,ab 16 0,ab 17 4,aZ 18 16 17 [TI],an 19 18 1,aZ 20 14 15 [TI],aT 20 19 1])),(.ae [ab 12 4,aw 13 .add 12 (ar 1),ab 4 13])])
def TW:List (Nat × Md):=[(0,.one .d),(3,.one .f),(4,.one .d)]
def TX:af :=
 (ag [(.ae [ab 21 3,ab 2 21]),.ret])
def QYv:af :=
 (ag [(.ae [ab 2 (.k (.n [TI]))]),(.ae [ab 5 0,a9 6 5,aC 7 (.mk 3 [TI] [(aL 0)] 6),ab 3 7]),(ag [(.ae [ab 4 (ar 0)]),(.block 0 (.loop TW TU))]),TX])
def TY:List (bm × Md):=[(.t 2,.one (.p 3))]
def TZ:Qb:=TQ 0 0 TY K
def QUu:Qb:=aY (aN GV 0 TX (TZ K)) (TZ K)
def QS1:Qb:=a6 0 (QUu K)
def AL(a:List Int)(i:Int)(out:List Int):Prop:=Loop GV 0 TW TU (QS1 K) ⟨[(0,(bc [TI] a)),(3,(.r [TI] 0 0 out.length)),(4,(aL i))],[(0,(.sl 3 [TI] (.dp 0 true []) out))],1⟩
theorem T1(a:List Int)(i:Int)(out:List Int) (h :
 (aJ (decide (i<(a.length:Int))) (((0<=i/\Int.toNat i<a.length)/\((0<=i/\Int.toNat i<out.length)/\((0+(Int.toNat i))<out.length)))/\(AL K a (aG (i+1)) (List.take out.length ((out).set (0+(Int.toNat i)) (aq (0:Int) a (Int.toNat i)))))) (K (tT (List.take out.length out))))):AL K a i out :=
 Loop.of h
theorem QUc(a:List Int)(hp:bA (α:=List Int) a):aK Tryz.prog 29 [(.c (.sl [TI]) a)] (tT (id (α:=List Int) a)):=by
 refine bw GV QYv TY 0 0 22 pb kn (λK =>
 ((0<=(a.length:Int)/\(a.length:Int)<=cc)/\(AL K a 0 (List.take (Int.toNat (a.length:Int)) (List.replicate (Int.toNat (a.length:Int)) (0:Int)))))) (λhb=>?_)
 refine⟨⟨by omega,by rw[gT];have:=Yr hp;omega⟩,?_⟩;refine nN a (A:=λii ll=>AL (λr'=>r'=tT (id (α:=List Int) a)) a ii ll) (Q:=λz=>tT z=tT (id (α:=List Int) a)) hp ?_ ?_ rfl
 ·intro k x out aU hg ho hx hA;have hw:aG (((k:Nat):Int)+1)=((k+1:Nat):Int):=by have:=Yr hp;rw[QG (by omega) (by omega)];omega
  have hP:k<out.length:=by omega
  refine T1 _ _ _ _ ?_;refine⟨λ_=>?_,λh=>absurd h (by simp;omega)⟩;simp only[Int.toNat_natCast,Nat.zero_add,hg,hw,aU,hP,J0,List.drop_zero,List.take_length,id_eq,and_true,true_and,Int.natCast_nonneg]
  first | exact hA | exact⟨hx,hA⟩
 ·intro out ho hq;refine T1 _ _ _ _ ?_;refine⟨λh=>absurd h (by simp),λ_=>?_⟩;simp only[List.drop_zero,List.take_length];exact hq
theorem tU:Qf Tryz.prog pb:=Qi λx h=>QUc x.1 h
def GW(t:(List Int)):aB:=⟨(.a [(.r [TI] 0 0 t.length)]),[(.sl 3 [TI] (.dp 0 true []) t)],[],false,[]⟩
def GY:aI:=Qg 164 [(.a [(.sl [TI])])] λx=>(some (bA (α:=List Int) x.1),GW (id (α:=List Int) x.1))
def QGm:aF:=⟨[pb],true⟩
def QHq:af :=
 (ag [(.ae [aC 1 (.box 189 0 1),aC 2 (.new 106 [(.n [TI])])]),(.ae [aC 3 (.new 106 [(.n [TI])])]),(.ae [ak 4 1 0,an 5 4 1,aD 6 29 [5],ak 7 3 0,aT 7 6 1]),(.ae [a7 8 3 1,aT 2 8 1]),.ret])
def QWr:List (bm × Md):=[(.l 2 1 true,.b [.p 3])]
theorem QS0(a:List Int)(hp:bA (α:=List Int) a):aK Tryz.prog 164 [(.a [(.c (.sl [TI]) a)])] (GW (id (α:=List Int) a)):=by
 refine bw QGm QHq QWr 0 0 9 GY (kc tU kn) (λK =>
 ((bA (α:=List Int) a)/\K (GW (List.take ((id (α:=List Int) a).length) (id (α:=List Int) a))))) (λhb=>?_)
 repeat' (first | refine And.intro ?_ ?_ | exact au (by simp))
 all_goals (simp only[bA,QR,QL,QY,List.drop_zero,List.take_length,id_eq]at hp ⊢;omega)
theorem QIL:Qf Tryz.prog GY:=Qi λx h=>QS0 x.1 h
def tV(t:(List (List Int))):aB:=⟨(.r [(.sl [TI])] 0 0 t.length),[(.sl 106 [(.sl [TI])] (.dp 0 true []) t)],[],false,[]⟩
def xC:aI:=Qg 68 [(.c (.sl [(.sl [TI])]))] λx=>(some (bA (α:=List (List Int)) x.1),tV (id (α:=List (List Int)) x.1))
def GZ:aF:=⟨[GY],true⟩
def T2:af :=
 (ag [(ag [(.ae [ab 8 4,ab 9 0,a9 10 9,aw 11 .lss 8 10]),(.cond 11 .skip (.exit 0))]),(.block 1 (.ae [ab 14 3,ab 15 4,ab 16 0,ab 17 4,aZ 18 16 17 [(.sl [TI])],a7 19 18 1,aD 20 164 [19],aZ 21 14 15 [(.sl [TI])],aT 21 20 1])),(.ae [ab 12 4,aw 13 .add 12 (ar 1),ab 4 13])])
def T3:List (Nat × Md):=[(0,.one .d),(3,.one .f),(4,.one .d)]
def T4:af :=
 (ag [(.ae [ab 22 3,ab 2 22]),.ret])
def QGE:af :=
 (ag [(.ae [ab 2 (.k (.n [(.sl [TI])]))]),(.ae [ab 5 0,a9 6 5,aC 7 (.mk 106 [(.sl [TI])] [(.n [TI])] 6),ab 3 7]),(ag [(.ae [ab 4 (ar 0)]),(.block 0 (.loop T3 T2))]),T4])
def T5:List (bm × Md):=[(.t 2,.one (.p 106))]
def T6:Qb:=TQ 0 0 T5 K
def QTJ:Qb:=aY (aN GZ 0 T4 (T6 K)) (T6 K)
def QPk:Qb:=a6 0 (QTJ K)
def AN(a:List (List Int))(i:Int)(out:List (List Int)):Prop:=Loop GZ 0 T3 T2 (QPk K) ⟨[(0,(bc [(.sl [TI])] a)),(3,(.r [(.sl [TI])] 0 0 out.length)),(4,(aL i))],[(0,(.sl 106 [(.sl [TI])] (.dp 0 true []) out))],1⟩
theorem T7(a:List (List Int))(i:Int)(out:List (List Int)) (h :
 (aJ (decide (i<(a.length:Int))) (((0<=i/\Int.toNat i<a.length)/\((bA (α:=List Int) (aq ([]:List Int) a (Int.toNat i)))/\((0<=i/\Int.toNat i<out.length)/\((0+(Int.toNat i))<out.length))))/\(AN K a (aG (i+1)) (List.take out.length ((out).set (0+(Int.toNat i)) (List.take ((id (α:=List Int) (aq ([]:List Int) a (Int.toNat i))).length) (List.drop 0 (id (α:=List Int) (aq ([]:List Int) a (Int.toNat i))))))))) (K (tV (List.take out.length out))))):AN K a i out :=
 Loop.of h
theorem QMx(a:List (List Int))(hp:bA (α:=List (List Int)) a):aK Tryz.prog 68 [(.c (.sl [(.sl [TI])]) a)] (tV (id (α:=List (List Int)) a)):=by
 refine bw GZ QGE T5 0 0 23 xC (kc QIL kn) (λK =>
 ((0<=(a.length:Int)/\(a.length:Int)<=cc)/\(AN K a 0 (List.take (Int.toNat (a.length:Int)) (List.replicate (Int.toNat (a.length:Int)) ([]:List Int)))))) (λhb=>?_)
 refine⟨⟨by omega,by rw[gT];have:=Yr hp;omega⟩,?_⟩;refine nN a (A:=λii ll=>AN (λr'=>r'=tV (id (α:=List (List Int)) a)) a ii ll) (Q:=λz=>tV z=tV (id (α:=List (List Int)) a)) hp ?_ ?_ rfl
 ·intro k x out aU hg ho hx hA;have hw:aG (((k:Nat):Int)+1)=((k+1:Nat):Int):=by have:=Yr hp;rw[QG (by omega) (by omega)];omega
  have hP:k<out.length:=by omega
  refine T7 _ _ _ _ ?_;refine⟨λ_=>?_,λh=>absurd h (by simp;omega)⟩;simp only[Int.toNat_natCast,Nat.zero_add,hg,hw,aU,hP,J0,List.drop_zero,List.take_length,id_eq,and_true,true_and,Int.natCast_nonneg]
  first | exact hA | exact⟨hx,hA⟩
 ·intro out ho hq;refine T7 _ _ _ _ ?_;refine⟨λh=>absurd h (by simp),λ_=>?_⟩;simp only[List.drop_zero,List.take_length];exact hq
theorem G1:Qf Tryz.prog xC:=Qi λx h=>QMx x.1 h
def G2(t:QO):aB:=⟨(.a [(.r [(.sl [TI])] 0 0 ((t.1).length)),(aL t.2.1),(bE t.2.2)]),[(.sl 106 [(.sl [TI])] (.dp 0 true []) t.1)],[],false,[]⟩
def G3:aI:=Qg 69 [(.a Zj)] λx=>(some (bA (α:=QO) x.1),G2 (id (α:=QO) x.1))
def QTs:aF:=⟨[xC],true⟩
def QLj:af :=
 (ag [(.ae [aC 1 (.box 28 0 3),aC 2 (.new 37 (bG Zj))]),(.ae [aC 3 (.new 37 (bG Zj))]),(.ae [ak 4 1 0,an 5 4 1,aD 6 68 [5],ak 7 3 0,aT 7 6 1]),(.ae [ak 8 1 1,an 9 8 1,ak 10 3 1,aT 10 9 1]),(.ae [ak 11 1 2,an 12 11 1,ak 13 3 2,aT 13 12 1]),(.ae [a7 14 3 3,aT 2 14 3]),.ret])
def QMa:List (bm × Md):=[(.l 2 3 true,.b [.p 106,.d,.d])]
theorem QLz(a:QO)(hp:bA (α:=QO) a):aK Tryz.prog 69 [(.a (aR.cells Zj a))] (G2 (id (α:=QO) a)):=by
 refine bw QTs QLj QMa 0 0 15 G3 (kc G1 kn) (λK =>
 ((bA (α:=List (List Int)) a.1)/\K (G2 ((List.take ((id (α:=List (List Int)) a.1).length) (id (α:=List (List Int)) a.1)),a.2.1,a.2.2)))) (λhb=>?_)
 repeat' (first | refine And.intro ?_ ?_ | exact au (by simp))
 all_goals (simp only[bA,QR,QL,QY,List.drop_zero,List.take_length,id_eq]at hp ⊢;omega)
theorem QF3:Qf Tryz.prog G3:=Qi λx h=>QLz x.1 h
def G4(t:Qo):aB:=⟨(.a [(.r [TI] 0 0 ((t.1).length)),(.r [TI] 1 0 ((t.2).length))]),[(.sl 3 [TI] (.dp 0 true []) t.1),(.sl 3 [TI] (.dp 0 true []) t.2)],[],false,[]⟩
def G5:aI:=Qg 124 [(.a QF)] λx=>(some (bA (α:=Qo) x.1),G4 (id (α:=Qo) x.1))
def QWB:aF:=⟨[pb],true⟩
def QVc:af :=
 (ag [(.ae [aC 1 (.box 151 0 2),aC 2 (.new 154 (bG QF))]),(.ae [aC 3 (.new 154 (bG QF))]),(.ae [ak 4 1 0,an 5 4 1,aD 6 29 [5],ak 7 3 0,aT 7 6 1]),(.ae [ak 8 1 1,an 9 8 1,aD 10 29 [9],ak 11 3 1,aT 11 10 1]),(.ae [a7 12 3 2,aT 2 12 2]),.ret])
def QNp:List (bm × Md):=[(.l 2 2 true,.b [.p 3,.p 3])]
theorem QOV(a:Qo)(hp:bA (α:=Qo) a):aK Tryz.prog 124 [(.a [(.c (.sl [TI]) a.1),(.c (.sl [TI]) a.2)])] (G4 (id (α:=Qo) a)):=by
 refine bw QWB QVc QNp 0 0 13 G5 (kc tU kn) (λK =>
 ((bA (α:=List Int) a.1)/\((bA (α:=List Int) a.2)/\K (G4 ((List.take ((id (α:=List Int) a.1).length) (id (α:=List Int) a.1)),(List.take ((id (α:=List Int) a.2).length) (id (α:=List Int) a.2))))))) (λhb=>?_)
 repeat' (first | refine And.intro ?_ ?_ | exact au (by simp))
 all_goals (simp only[bA,QR,QL,QY,List.drop_zero,List.take_length,id_eq]at hp ⊢;omega)
theorem QWT:Qf Tryz.prog G5:=Qi λx h=>QOV x.1 h
def tW(t:(List Qo)):aB:=⟨(.r QF 0 0 t.length),[(.sl 154 QF (.dp 0 true []) t)],[],false,[]⟩
def G6:aI:=Qg 37 [(.c (.sl QF))] λx=>(some (bA (α:=List Qo) x.1),tW (id (α:=List Qo) x.1))
def G7:aF:=⟨[G5],true⟩
def T8:af :=
 (ag [(ag [(.ae [ab 8 4,ab 9 0,a9 10 9,aw 11 .lss 8 10]),(.cond 11 .skip (.exit 0))]),(.block 1 (.ae [ab 14 3,ab 15 4,ab 16 0,ab 17 4,aZ 18 16 17 QF,a7 19 18 2,aD 20 124 [19],aZ 21 14 15 QF,aT 21 20 2])),(.ae [ab 12 4,aw 13 .add 12 (ar 1),ab 4 13])])
def T9:List (Nat × Md):=[(0,.one .d),(3,.one .f),(4,.one .d)]
def Ua:af :=
 (ag [(.ae [ab 22 3,ab 2 22]),.ret])
def QFS:af :=
 (ag [(.ae [ab 2 (.k (.n QF))]),(.ae [ab 5 0,a9 6 5,aC 7 (.mk 154 QF (bG QF) 6),ab 3 7]),(ag [(.ae [ab 4 (ar 0)]),(.block 0 (.loop T9 T8))]),Ua])
def Ub:List (bm × Md):=[(.t 2,.one (.p 154))]
def Uc:Qb:=TQ 0 0 Ub K
def QSm:Qb:=aY (aN G7 0 Ua (Uc K)) (Uc K)
def QUU:Qb:=a6 0 (QSm K)
def AP(a:List Qo)(i:Int)(out:List Qo):Prop:=Loop G7 0 T9 T8 (QUU K) ⟨[(0,(bc QF a)),(3,(.r QF 0 0 out.length)),(4,(aL i))],[(0,(.sl 154 QF (.dp 0 true []) out))],1⟩
theorem Ud(a:List Qo)(i:Int)(out:List Qo) (h :
 (aJ (decide (i<(a.length:Int))) (((0<=i/\Int.toNat i<a.length)/\((bA (α:=Qo) (aq QW a (Int.toNat i)))/\((0<=i/\Int.toNat i<out.length)/\((0+(Int.toNat i))<out.length))))/\(AP K a (aG (i+1)) (List.take out.length ((out).set (0+(Int.toNat i)) ((List.take (((id (α:=Qo) (aq QW a (Int.toNat i))).1).length) (List.drop 0 ((id (α:=Qo) (aq QW a (Int.toNat i))).1))),(List.take (((id (α:=Qo) (aq QW a (Int.toNat i))).2).length) (List.drop 0 ((id (α:=Qo) (aq QW a (Int.toNat i))).2)))))))) (K (tW (List.take out.length out))))):AP K a i out :=
 Loop.of h
theorem QWF(a:List Qo)(hp:bA (α:=List Qo) a):aK Tryz.prog 37 [(.c (.sl QF) a)] (tW (id (α:=List Qo) a)):=by
 refine bw G7 QFS Ub 0 0 23 G6 (kc QWT kn) (λK =>
 ((0<=(a.length:Int)/\(a.length:Int)<=cc)/\(AP K a 0 (List.take (Int.toNat (a.length:Int)) (List.replicate (Int.toNat (a.length:Int)) ([],[])))))) (λhb=>?_)
 refine⟨⟨by omega,by rw[gT];have:=Yr hp;omega⟩,?_⟩;refine nN a (A:=λii ll=>AP (λr'=>r'=tW (id (α:=List Qo) a)) a ii ll) (Q:=λz=>tW z=tW (id (α:=List Qo) a)) hp ?_ ?_ rfl
 ·intro k x out aU hg ho hx hA;have hw:aG (((k:Nat):Int)+1)=((k+1:Nat):Int):=by have:=Yr hp;rw[QG (by omega) (by omega)];omega
  have hP:k<out.length:=by omega
  refine Ud _ _ _ _ ?_;refine⟨λ_=>?_,λh=>absurd h (by simp;omega)⟩;simp only[Int.toNat_natCast,Nat.zero_add,hg,hw,aU,hP,J0,List.drop_zero,List.take_length,id_eq,and_true,true_and,Int.natCast_nonneg]
  first | exact hA | exact⟨hx,hA⟩
 ·intro out ho hq;refine Ud _ _ _ _ ?_;refine⟨λh=>absurd h (by simp),λ_=>?_⟩;simp only[List.drop_zero,List.take_length];exact hq
theorem QIc:Qf Tryz.prog G6:=Qi λx h=>QWF x.1 h
def rQ(t:Bool):aB:=b7 (bE t)
def pc:aI:=Qg 23 [(.c (.sl [TI])),(.c (.sl [TI]))] λx=>(none,rQ (aX (α:=List Int) x.1 x.2.1))
def G8:aF:=⟨[],false⟩
def Ue:af :=
 (ag [(ag [(.ae [ab 11 5,ab 12 0,a9 13 12,aw 14 .lss 11 13]),(.cond 14 .skip (.exit 0))]),(.block 1 (ag [(.draw [ab 17 0,ab 18 5,aZ 19 17 18 [TI],an 20 19 1,ab 21 1,ab 22 5,aZ 23 21 22 [TI],an 24 23 1,aw 25 .neq 20 24] []),(.cond 25 (ag [(.ae [ab 4 (a0 false)]),.ret]) .skip)])),(.ae [ab 15 5,aw 16 .add 15 (ar 1),ab 5 16])])
def Uf:List (Nat × Md):=eW [0,1,5]
def Ug:af :=
 (ag [(.ae [ab 4 (a0 true)]),.ret])
def QLA:af :=
 (ag [(.ae [ab 4 (a0 false)]),(ag [(.ae [ab 6 0,a9 7 6,ab 8 1,a9 9 8,aw 10 .neq 7 9]),(.cond 10 (ag [(.ae [ab 4 (a0 false)]),.ret]) .skip)]),(ag [(.ae [ab 5 (ar 0)]),(.block 0 (.loop Uf Ue))]),Ug])
def Uh:List (bm × Md):=[(.t 4,.one .d)]
def Ui:Qb:=TQ 0 0 Uh K
def QJj:Qb:=aY (aN G8 0 Ug (Ui K)) (Ui K)
def QPR:Qb:=a6 0 (QJj K)
def G9(a:List Int)(b:List Int)(i:Int):Prop:=Loop G8 0 Uf Ue (QPR K) ⟨[(0,(bc [TI] a)),(1,(bc [TI] b)),(5,(aL i))],[],0⟩
theorem QHm(a:List Int)(b:List Int)(i:Int) (h :
 (aJ (decide (i<(a.length:Int))) (((0<=i/\Int.toNat i<a.length)/\(0<=i/\Int.toNat i<b.length))/\(aJ ((aq (0:Int) a (Int.toNat i)) != (aq (0:Int) b (Int.toNat i))) (K (rQ false)) (G9 K a b (aG (i+1))))) (K (rQ true)))):G9 K a b i :=
 Loop.of h
theorem QFQ(a:List Int)(b:List Int):aK Tryz.prog 23 [(.c (.sl [TI]) a),(.c (.sl [TI]) b)] (rQ (aX (α:=List Int) a b)):=by
 refine bw G8 QLA Uh 0 0 26 pc kn (λK =>
 (aJ ((a.length:Int) != (b.length:Int)) (K (rQ false)) (G9 K a b 0))) (λhb=>?_)
 exact QYl hb.1.1 (λi h=>QHm _ a b i h) (Q:=λx=>rQ x=rQ (aX (α:=List Int) a b)) rfl
theorem tX:Qf Tryz.prog pc:=Qi λx _=>QFQ x.1 x.2.1
def AQ(t:Bool):aB:=b7 (bE t)
def Ha:aI:=Qg 174 [(.a [(.sl [TI])]),(.a [(.sl [TI])])] λx=>(none,AQ (aX (α:=List Int) x.1 x.2.1))
def QIw:aF:=⟨[pc],false⟩
def QUm:af :=
 (ag [(.ae [aC 2 (.box 106 0 1),aC 3 (.box 106 1 1),ab 4 (a0 false)]),(ag [(.ae [ak 5 2 0,an 6 5 1,ak 7 3 0,an 8 7 1,aD 9 23 [6,8],bL 10 9]),(.cond 10 (ag [(.ae [ab 4 (a0 false)]),.ret]) .skip)]),(.ae [ab 4 (a0 true)]),.ret])
def QWC:List (bm × Md):=[(.t 4,.one .d)]
theorem QQG(a:List Int)(b:List Int):aK Tryz.prog 174 [(.a [(.c (.sl [TI]) a)]),(.a [(.c (.sl [TI]) b)])] (AQ (aX (α:=List Int) a b)):=by
 refine bw QIw QUm QWC 0 0 11 Ha (kc tX kn) (λK =>
 (aJ (!(aX (α:=List Int) a b)) (K (AQ false)) (K (AQ true)))) (λhb=>?_)
 refine⟨λh=>au (Eq.symm (decide_eq_false (by rintro rfl;simp[aX]at h))),λh0=>?_⟩;refine au (Eq.symm (decide_eq_true ?_));simp[aX]at h0;simp[Prod.ext_iff, *]
theorem QIr:Qf Tryz.prog Ha:=Qi λx _=>QQG x.1 x.2.1
def rR(t:Bool):aB:=b7 (bE t)
def xD:aI:=Qg 78 [(.c (.sl [(.sl [TI])])),(.c (.sl [(.sl [TI])]))] λx=>(none,rR (aX (α:=List (List Int)) x.1 x.2.1))
def Hb:aF:=⟨[Ha],false⟩
def Uj:af :=
 (ag [(ag [(.ae [ab 11 5,ab 12 0,a9 13 12,aw 14 .lss 11 13]),(.cond 14 .skip (.exit 0))]),(.block 1 (ag [(.draw [ab 17 0,ab 18 5,aZ 19 17 18 [(.sl [TI])],a7 20 19 1,ab 21 1,ab 22 5,aZ 23 21 22 [(.sl [TI])],a7 24 23 1,aD 25 174 [20,24],bL 26 25] []),(.cond 26 (ag [(.ae [ab 4 (a0 false)]),.ret]) .skip)])),(.ae [ab 15 5,aw 16 .add 15 (ar 1),ab 5 16])])
def Uk:List (Nat × Md):=eW [0,1,5]
def Ul:af :=
 (ag [(.ae [ab 4 (a0 true)]),.ret])
def QQp:af :=
 (ag [(.ae [ab 4 (a0 false)]),(ag [(.ae [ab 6 0,a9 7 6,ab 8 1,a9 9 8,aw 10 .neq 7 9]),(.cond 10 (ag [(.ae [ab 4 (a0 false)]),.ret]) .skip)]),(ag [(.ae [ab 5 (ar 0)]),(.block 0 (.loop Uk Uj))]),Ul])
def Um:List (bm × Md):=[(.t 4,.one .d)]
def Un:Qb:=TQ 0 0 Um K
def QVa:Qb:=aY (aN Hb 0 Ul (Un K)) (Un K)
def QUq:Qb:=a6 0 (QVa K)
def Hc(a:List (List Int))(b:List (List Int))(i:Int):Prop:=Loop Hb 0 Uk Uj (QUq K) ⟨[(0,(bc [(.sl [TI])] a)),(1,(bc [(.sl [TI])] b)),(5,(aL i))],[],0⟩
theorem QPL(a:List (List Int))(b:List (List Int))(i:Int) (h :
 (aJ (decide (i<(a.length:Int))) (((0<=i/\Int.toNat i<a.length)/\(0<=i/\Int.toNat i<b.length))/\(aJ (!(aX (α:=List Int) (aq ([]:List Int) a (Int.toNat i)) (aq ([]:List Int) b (Int.toNat i)))) (K (rR false)) (Hc K a b (aG (i+1))))) (K (rR true)))):Hc K a b i :=
 Loop.of h
theorem QNG(a:List (List Int))(b:List (List Int)):aK Tryz.prog 78 [(.c (.sl [(.sl [TI])]) a),(.c (.sl [(.sl [TI])]) b)] (rR (aX (α:=List (List Int)) a b)):=by
 refine bw Hb QQp Um 0 0 27 xD (kc QIr kn) (λK =>
 (aJ ((a.length:Int) != (b.length:Int)) (K (rR false)) (Hc K a b 0))) (λhb=>?_)
 exact nG ([]:List Int) (E:=aX) (λ_ _=>rfl) hb.1.1 (λi h=>QPL _ a b i h) (Q:=λx=>rR x=rR (aX (α:=List (List Int)) a b)) rfl
theorem He:Qf Tryz.prog xD:=Qi λx _=>QNG x.1 x.2.1
def tY(t:Bool):aB:=b7 (bE t)
def Hf:aI:=Qg 46 [(.a Zj),(.a Zj)] λx=>(none,tY (aX (α:=QO) x.1 x.2.1))
def QMY:aF:=⟨[xD],false⟩
def QUD:af :=
 (ag [(.ae [aC 2 (.box 37 0 3),aC 3 (.box 37 1 3),ab 4 (a0 false)]),(ag [(.ae [ak 5 2 0,an 6 5 1,ak 7 3 0,an 8 7 1,aD 9 78 [6,8],bL 10 9]),(.cond 10 (ag [(.ae [ab 4 (a0 false)]),.ret]) .skip)]),(ag [(.ae [ak 11 2 1,an 12 11 1,ak 13 3 1,an 14 13 1,aw 15 .neq 12 14]),(.cond 15 (ag [(.ae [ab 4 (a0 false)]),.ret]) .skip)]),(ag [(.ae [ak 16 2 2,an 17 16 1,ak 18 3 2,an 19 18 1,aC 20 (.ij true 17 19)]),(.cond 20 (ag [(.ae [ab 4 (a0 false)]),.ret]) .skip)]),(.ae [ab 4 (a0 true)]),.ret])
def QWu:List (bm × Md):=[(.t 4,.one .d)]
theorem QRA(a:QO)(b:QO):aK Tryz.prog 46 [(.a (aR.cells Zj a)),(.a (aR.cells Zj b))] (tY (aX (α:=QO) a b)):=by
 refine bw QMY QUD QWu 0 0 21 Hf (kc He kn) (λK =>
 (aJ (!(aX (α:=List (List Int)) a.1 b.1)) (K (tY false)) (aJ (a.2.1 != b.2.1) (K (tY false)) (aJ (!(a.2.2==b.2.2)) (K (tY false)) (K (tY true)))))) (λhb=>?_)
 refine⟨λh=>au (Eq.symm (decide_eq_false (by rintro rfl;simp[aX]at h))),λh0=>?_⟩;refine⟨λh=>au (Eq.symm (decide_eq_false (by rintro rfl;simp[aX]at h))),λh1=>?_⟩;refine⟨λh=>au (Eq.symm (decide_eq_false (by rintro rfl;simp[aX]at h))),λh2=>?_⟩;refine au (Eq.symm (decide_eq_true ?_));simp[aX]at h0 h1 h2;simp[Prod.ext_iff, *]
theorem QTO:Qf Tryz.prog Hf:=Qi λx _=>QRA x.1 x.2.1
def xE(t:Bool):aB:=b7 (bE t)
def Hg:aI:=Qg 133 [(.a QF),(.a QF)] λx=>(none,xE (aX (α:=Qo) x.1 x.2.1))
def QHS:aF:=⟨[pc],false⟩
def QGP:af :=
 (ag [(.ae [aC 2 (.box 154 0 2),aC 3 (.box 154 1 2),ab 4 (a0 false)]),(ag [(.ae [ak 5 2 0,an 6 5 1,ak 7 3 0,an 8 7 1,aD 9 23 [6,8],bL 10 9]),(.cond 10 (ag [(.ae [ab 4 (a0 false)]),.ret]) .skip)]),(ag [(.ae [ak 11 2 1,an 12 11 1,ak 13 3 1,an 14 13 1,aD 15 23 [12,14],bL 16 15]),(.cond 16 (ag [(.ae [ab 4 (a0 false)]),.ret]) .skip)]),(.ae [ab 4 (a0 true)]),.ret])
def QGC:List (bm × Md):=[(.t 4,.one .d)]
theorem QH8(a:Qo)(b:Qo):aK Tryz.prog 133 [(.a [(.c (.sl [TI]) a.1),(.c (.sl [TI]) a.2)]),(.a [(.c (.sl [TI]) b.1),(.c (.sl [TI]) b.2)])] (xE (aX (α:=Qo) a b)):=by
 refine bw QHS QGP QGC 0 0 17 Hg (kc tX kn) (λK =>
 (aJ (!(aX (α:=List Int) a.1 b.1)) (K (xE false)) (aJ (!(aX (α:=List Int) a.2 b.2)) (K (xE false)) (K (xE true))))) (λhb=>?_)
 refine⟨λh=>au (Eq.symm (decide_eq_false (by rintro rfl;simp[aX]at h))),λh0=>?_⟩;refine⟨λh=>au (Eq.symm (decide_eq_false (by rintro rfl;simp[aX]at h))),λh1=>?_⟩;refine au (Eq.symm (decide_eq_true ?_));simp[aX]at h0 h1;simp[Prod.ext_iff, *]
theorem QKs:Qf Tryz.prog Hg:=Qi λx _=>QH8 x.1 x.2.1
def rS(t:Bool):aB:=b7 (bE t)
def Hh:aI:=Qg 40 [(.c (.sl QF)),(.c (.sl QF))] λx=>(none,rS (aX (α:=List Qo) x.1 x.2.1))
def Hi:aF:=⟨[Hg],false⟩
def Uo:af :=
 (ag [(ag [(.ae [ab 11 5,ab 12 0,a9 13 12,aw 14 .lss 11 13]),(.cond 14 .skip (.exit 0))]),(.block 1 (ag [(.draw [ab 17 0,ab 18 5,aZ 19 17 18 QF,a7 20 19 2,ab 21 1,ab 22 5,aZ 23 21 22 QF,a7 24 23 2,aD 25 133 [20,24],bL 26 25] []),(.cond 26 (ag [(.ae [ab 4 (a0 false)]),.ret]) .skip)])),(.ae [ab 15 5,aw 16 .add 15 (ar 1),ab 5 16])])
def Up:List (Nat × Md):=eW [0,1,5]
def Uq:af :=
 (ag [(.ae [ab 4 (a0 true)]),.ret])
def QV1:af :=
 (ag [(.ae [ab 4 (a0 false)]),(ag [(.ae [ab 6 0,a9 7 6,ab 8 1,a9 9 8,aw 10 .neq 7 9]),(.cond 10 (ag [(.ae [ab 4 (a0 false)]),.ret]) .skip)]),(ag [(.ae [ab 5 (ar 0)]),(.block 0 (.loop Up Uo))]),Uq])
def Ur:List (bm × Md):=[(.t 4,.one .d)]
def Us:Qb:=TQ 0 0 Ur K
def QMN:Qb:=aY (aN Hi 0 Uq (Us K)) (Us K)
def QM5:Qb:=a6 0 (QMN K)
def Hj(a:List Qo)(b:List Qo)(i:Int):Prop:=Loop Hi 0 Up Uo (QM5 K) ⟨[(0,(bc QF a)),(1,(bc QF b)),(5,(aL i))],[],0⟩
theorem QJG(a:List Qo)(b:List Qo)(i:Int) (h :
 (aJ (decide (i<(a.length:Int))) (((0<=i/\Int.toNat i<a.length)/\(0<=i/\Int.toNat i<b.length))/\(aJ (!(aX (α:=Qo) (aq QW a (Int.toNat i)) (aq QW b (Int.toNat i)))) (K (rS false)) (Hj K a b (aG (i+1))))) (K (rS true)))):Hj K a b i :=
 Loop.of h
theorem QKI(a:List Qo)(b:List Qo):aK Tryz.prog 40 [(.c (.sl QF) a),(.c (.sl QF) b)] (rS (aX (α:=List Qo) a b)):=by
 refine bw Hi QV1 Ur 0 0 27 Hh (kc QKs kn) (λK =>
 (aJ ((a.length:Int) != (b.length:Int)) (K (rS false)) (Hj K a b 0))) (λhb=>?_)
 exact nG QW (E:=aX) (λ_ _=>rfl) hb.1.1 (λi h=>QJG _ a b i h) (Q:=λx=>rS x=rS (aX (α:=List Qo) a b)) rfl
theorem QX6:Qf Tryz.prog Hh:=Qi λx _=>QKI x.1 x.2.1
end
end Go.Proofs.YtdplaepmjogjjaaGreat.Am

