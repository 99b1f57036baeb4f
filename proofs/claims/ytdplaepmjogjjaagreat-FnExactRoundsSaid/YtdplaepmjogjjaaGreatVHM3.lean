/- -/
import Derived.Test.YtdplaepmjogjjaaGreatVHM2
import Derived.Test.YtdplaepmjogjjaaGreatProg
import Derived.Carry
import Derived.Deep.Slices
import Derived.ChangeArms
import Derived.ProofKit
import Derived.OpenShut
set_option linter.all false
namespace Go.Proofs.YtdplaepmjogjjaaGreat.Am
open Go Go.RowKit
inductive jq where
 | f
 | d
 | o (e:TypeId)
 | p (e:TypeId)
 | w
def jq.e:jq->TypeId->TypeId
 | .w,_=>0
 | _,e=>e
def jq.t:jq->Bool->Bool
 | .w,_=>false
 | _,t=>t
inductive Md where
 | one (m:jq)
 | b (ms:List jq)
 | a (ms:List jq)
abbrev Acc:=List (Option (Nat × Nat) × az)
def Yf:Acc->Nat->Option Nat
 | [],_=>none
 | (some (j,_),_)::r,i=>bif Nat.beq j i then some 0 else(match Yf r i with | some k=>some (k+1) | none=>none)
 | (none,_)::r,i=>match Yf r i with | some k=>some (k+1) | none=>none
def Mo.rs:Mo->Mo
 | .dp _ t _=>.dp 0 t []
 | m=>m
def FM:Mo->Bool
 | .fz=>true
 | _=>false
def Y7(nl:Nat)(h:Nat->az)(m:jq)(v:TV)(acc:Acc):TV × Acc :=
 match v with
 | .c t x=>(.c t x,acc)
 | .q ts x j=>(.q ts x j,acc)
 | .n ts=>match m with
  | .o e=>match ts with
   | []=>(.u,acc)
   | t::ts=>(.r (t::ts) acc.length 0 0,acc++[(none,.sl e (t::ts) .ow [])])
  | .p e=>match ts with
   | []=>(.u,acc)
   | t::ts=>(.r (t::ts) acc.length 0 0,acc++[(none,.sl e (t::ts) (.dp 0 true []) [])])
  | .w=>match ts with
   | []=>(.u,acc)
   | t::ts=>(.r (t::ts) acc.length 0 0,acc++[(none,.sl 0 (t::ts) (.dp 0 false []) [])])
  | .d=>(.c (.sl ts) [],acc)
  | .f=>(.n ts,acc)
 | .r _ id off len=>match h id with
  | .sl e ts mm es=>match m with
   | .d=>bif FM mm then(.c (.sl ts) ((es.drop off).take len),acc) else(.u,acc)
   | _=>bif Nat.blt id nl then(bif mm.full then(.r ts id off len,acc) else(.u,acc)) else match Yf acc id with
    | some _=>(.u,acc)
    | none=>match mm with
     | .dp _ t H=>bif H.all (λx=>Nat.blt x.1 off) then(match off with
      | 0=>(.r ts acc.length 0 (es.take len).length,acc++[(some (id,0),.sl (m.e e) ts (.dp 0 (m.t t) []) (es.take len))])
      | k+1=>(.r ts acc.length 0 ((es.drop (k+1)).take len).length,acc++[(some (id,k+1),.sl (m.e e) ts (.dp 0 false []) ((es.drop (k+1)).take len))])) else(.u,acc)
     | mm=>match off with
      | 0=>(.r ts acc.length 0 (es.take len).length,acc++[(some (id,0),.sl e ts mm (es.take len))])
      | _=>(.u,acc)
  | _=>(.u,acc)
 | _=>(.u,acc)
def Yj(nl:Nat)(h:Nat->az):List jq->List TV->Acc->List TV × Acc
 | _,[],acc=>([],acc)
 | [],_::xs,acc=>let r:=Yj nl h [] xs acc;(.u::r.1,r.2)
 | m::ms,x::xs,acc=>let a:=Y7 nl h m x acc;let r:=Yj nl h ms xs a.2;(a.1::r.1,r.2)
def conv(nl:Nat)(h:Nat->az)(m:Md)(v:TV)(acc:Acc):TV × Acc :=
 match m with
 | .one m=>Y7 nl h m v acc
 | .b ms=>match v with
  | .p id 0 0=>match h id with
   | .box cs=>match Yf acc id with
    | some k=>(.p k 0 0,acc)
    | none=>let r:=Yj nl h ms cs acc;match Yf r.2 id with
     | none=>(.p r.2.length 0 0,r.2++[(some (id,0),.box r.1)])
     | some _=>(.u,acc)
   | _=>(.u,acc)
  | _=>(.u,acc)
 | .a ms=>match v with
  | .a cs=>let r:=Yj nl h ms cs acc;(.a r.1,r.2)
  | _=>(.u,acc)
def YZ(nl:Nat)(h:Nat->az)(T:Nat->TV):List (Nat × Md)->Acc->List (Nat × TV) × Acc
 | [],acc=>([],acc)
 | (s,m)::r,acc=>let a:=conv nl h m (T s) acc;let q:=YZ nl h T r a.2;((s,a.1)::q.1,q.2)
def zS:List jq->List TV->List Nat
 | .d::ms,x::xs=>x.bR++zS ms xs
 | _::ms,_::xs=>zS ms xs
 | _,_=>[]
def qT(h:Nat->az)(T:Nat->TV):List (Nat × Md)->List Nat
 | []=>[]
 | (s,.one .d)::r=>(T s).bR++qT h T r
 | (s,.a ms)::r=>(match T s with | .a cs=>zS ms cs | _=>[])++qT h T r
 | (s,.b ms)::r=>(match T s with | .p id _ _=>(match h id with | .box cs=>zS ms cs | _=>[]) | _=>[])++qT h T r
 | _::r=>qT h T r
def zT(h:Nat->az):Nat->List Nat
 | 0=>[]
 | n+1=>zT h n++(match h n with | .box cs=>TV.bM cs | _=>[])
def lP:List TV->List jq
 | []=>[]
 | _::xs=>.d::lP xs
def ZG(h:Nat->az):Nat->Acc
 | 0=>[]
 | n+1=>let a:=ZG h n;a++[match h n with | .box cs=>(some (n,0),.box (Yj 0 h (lP cs) cs a).1) | .sl e ts m es=>bif m.full then(some (n,0),.sl e ts m.rs es) else(none,.dead) | .dead=>(none,.dead) | .none=>(none,.none)]
def oP:Nat->Acc->List (Nat × az)
 | _,[]=>[]
 | k,(_,b)::r=>(k,b)::oP (k+1) r
def az.full:az->Bool
 | .sl _ _ m _=>m.full
 | _=>true
def kF(h:Nat->az)(ids:List Nat):Nat->az:=λi=>bif ids.elem i&&(h i).full then Fh (h i) else h i
def gc(nl:Nat)(L:List (Nat × Md))(σ:cq):cq :=
 let h:=kF σ.H (zT σ.H nl++qT σ.H σ.T L)
 let r:=YZ nl h σ.T L (ZG h nl)
 ⟨r.1,oP 0 r.2,r.2.length⟩
section
variable {w:World} {F F':Nat->Prop} {ι:Io} {h:Nat->az}
def tF:Option (Nat × Nat) × az->Nat
 | (some (_,off),.sl _ ts _ (_::_))=>off*ts.length
 | _=>0
theorem Sd{id off:Nat}{e:TypeId}{ts:List CT}{m:Mo}{es:List (aS ts)}(h:es≠[]):tF (some (id,off),.sl e ts m es)=off*ts.length:=by
 cases es with
 | nil=>exact absurd rfl h
 | cons=>rfl
theorem Se{id:Nat}{b:az}:tF (some (id,0),b)=0:=by
 cases b with
 | sl e ts m es=>cases es <;> simp[tF]
 | _=>rfl
theorem QGk{o:Option (Nat × Nat)}{e:TypeId}{ts:List CT}{m:Mo}:tF (o,.sl e ts m [])=0:=by
 cases o <;> rfl
theorem FN{o:Option (Nat × Nat)}{cs:List TV}:tF (o,.box cs)=0:=by
 cases o <;> rfl
def JC(ι:Io)(x:Option (Nat × Nat) × az):Nat:=match x.1 with
 | some (id,_)=>ι.o id+tF x
 | none=>0
def aι(ι:Io)(acc:Acc):Io:=⟨λk=>((acc[k]?).bind (·.1)).bind λx=>ι x.1,
 λb=>match ι.k b with
  | some (y,(a,c)::q)=>match Yf acc y with
   | some k=>match acc[k]? with
    | some (some (_,off),_)=>if off<=a then some (k,(a-off,c)::q) else none
    | _=>none
   | none=>none
  | _=>none,
 λk=>match acc[k]? with
  | some x=>JC ι x
  | none=>0⟩
def ah(acc:Acc):Nat->aR:=λk=>match acc[k]? with | some (_,b)=>b.aA | none=>.none
def oQ(w:World)(F:Nat->Prop)(ι:Io)(h:Nat->az)(acc:Acc)(x y:TV):Prop :=
 ∀(bX:Acc)(F':Nat->Prop),acc <+: bX->(∀ b,F b->F' b)->∀ v,VR w F ι (λi=>(h i).aA) v x.aQ->VR w F' (aι ι bX) (ah bX) v y.aQ
def JG(m0 m:Mo)(off:Nat):Prop:=(m0=m/\m.gen=none/\off=0)\/∃ g t H t',m0 = .dp g t H/\m = .dp 0 t' []/\(t'=true->t=true/\off=0)/\∀ x,x∈H->x.1<off
theorem JG.eY{m0 m:Mo}{off:Nat}(h:JG m0 m off)(ht:m.eY=true):m0.eY=true/\off=0:=by
 rcases h with⟨rfl,_,h⟩ | ⟨g,t,H,t',rfl,rfl,h,_⟩
 ·exact⟨ht,h⟩
 ·exact h ht
theorem JG.own{m0 m:Mo}{off:Nat}(h:JG m0 m off):m.own=m0.own:=by
 rcases h with⟨rfl,_,h⟩ | ⟨g,t,H,t',rfl,rfl,h,_⟩ <;> rfl
theorem JG.rs{m:Mo}(hf:m.full=true):JG m m.rs 0:=by
 cases m with
 | dp g t H =>
  cases H with
  | nil=>exact .inr ⟨g,t,[],t,rfl,rfl,λh=>⟨h,rfl⟩,by simp⟩
  | cons=>simp[Mo.full]at hf
 | _=>exact .inl ⟨rfl,rfl,rfl⟩
def wQ(w:World)(F:Nat->Prop)(ι:Io)(h:Nat->az)(acc:Acc):Option (Nat × Nat) × az->Prop
 | (some (id,off),.sl e ts m es)=>∃ mg m0 len,(∃ e0,h id = .sl e0 ts m0 mg/\(m.eY=true->e0=e))/\es=(mg.drop off).take len/\JG m0 m off
 | (some (id,off),.box cs)=>∃ fX,h id = .box fX/\cs.length=fX.length/\∀(k:Nat)(x y:TV),fX[k]? = some x->cs[k]? = some y->oQ w F ι h acc x y
 | (none,.sl _ ts m es)=>es=[]/\0<ts.length
 | (none,.none)=>True
 | (none,.dead)=>True
 | _=>False
def oR(nl:Nat)(h:Nat->az)(acc:Acc):Prop:=∀ id e ts m es,id<nl->h id = .sl e ts m es->m.full=true->acc[id]? = some (some (id,0),.sl e ts m.rs es)
theorem oR.mono{nl:Nat}{h:Nat->az}{acc gP:Acc}(hp:acc <+: gP)(hf:oR nl h acc):oR nl h gP:=λid e ts m es h1 h2 kA=>by
 have h3:=hf id e ts m es h1 h2 kA;obtain⟨r,rfl⟩:=hp;rw[List.getElem?_append_left (List.getElem?_eq_some_iff.1 h3).1];exact h3
structure ec(w:World)(F:Nat->Prop)(ι:Io)(h:Nat->az)(acc:Acc):Prop where
 jK:∀(k:Nat)(e:Option (Nat × Nat) × az),acc[k]? = some e->wQ w F ι h acc e
 nodup:∀(k j id o o':Nat)(b c:az),acc[k]? = some (some (id,o),b)->acc[j]? = some (some (id,o'),c)->k=j
theorem oQ.mono{acc gP:Acc}{x y:TV}(hp:acc <+: gP)(hk:oQ w F ι h acc x y):oQ w F ι h gP x y :=
 λbX F' FO hF v hv=>hk bX F' (hp.trans FO) hF v hv
theorem wQ.mono{acc gP:Acc}{e:Option (Nat × Nat) × az}(hp:acc <+: gP)(hg:wQ w F ι h acc e):wQ w F ι h gP e:=by
 obtain⟨o,b⟩:=e
 cases o with
 | none=>cases b <;> exact hg
 | some id =>
  obtain⟨id,off⟩:=id
  cases b with
  | box cs=>obtain⟨fX,h1,h2,h3⟩:=hg;exact⟨fX,h1,h2,λk x y hx hy=>(h3 k x y hx hy).mono hp⟩
  | _=>exact hg
theorem wR:∀ {acc:Acc} {id:Nat},Yf acc id=none->∀(k o:Nat)(b:az),acc[k]?≠some (some (id,o),b)
 | [],id,_,k,o,b,hk=>by simp at hk
 | (some (j,o0),c)::r,id,hn,k,o,b,hk=>by
  simp only[Yf]at hn
  cases hb:Nat.beq j id with
  | true=>rw[hb]at hn;cases hn
  | false =>
   rw[hb]at hn;simp only[cond_false]at hn
   split at hn
   ·cases hn
   rename_i hr
   cases k with
   | zero =>
    simp only[List.getElem?_cons_zero,Option.some.injEq,Prod.mk.injEq]at hk;rw[hk.1.1]at hb;simp at hb
   | succ k=>exact wR hr k o b (by simpa using hk)
 | (none,c)::r,id,hn,k,o,b,hk=>by
  simp only[Yf]at hn
  split at hn
  ·cases hn
  rename_i hr
  cases k with
  | zero=>simp at hk
  | succ k=>exact wR hr k o b (by simpa using hk)
theorem tG:∀ {acc:Acc} {id k:Nat},Yf acc id=some k->∃ o b,acc[k]? = some (some (id,o),b)
 | [],id,k,hn=>by simp[Yf]at hn
 | (some (j,o0),c)::r,id,k,hn=>by
  simp only[Yf]at hn
  cases hb:Nat.beq j id with
  | true =>
   rw[hb]at hn;simp only[cond_true,Option.some.injEq]at hn;subst hn;exact⟨o0,c,by rw[Nat.eq_of_beq_eq_true hb];rfl⟩
  | false =>
   rw[hb]at hn;simp only[cond_false]at hn
   split at hn
   rotate_left
   ·cases hn
   rename_i k' hr
   cases hn;obtain⟨o,b,h⟩:=tG hr;exact⟨o,b,by simpa using h⟩
 | (none,c)::r,id,k,hn=>by
  simp only[Yf]at hn
  split at hn
  rotate_left
  ·cases hn
  rename_i k' hr
  cases hn;obtain⟨o,b,h⟩:=tG hr;exact⟨o,b,by simpa using h⟩
theorem QLj{acc:Acc}(A:ec w F ι h acc){id k o:Nat}{b:az}(hk:acc[k]? = some (some (id,o),b)):Yf acc id=some k:=by
 cases hx:Yf acc id with
 | none=>exact absurd hk (wR hx k o b)
 | some j =>
  obtain⟨o',b',h1⟩:=tG hx;rw[A.nodup j k id o' o b' b h1 hk]
theorem ec.push{acc:Acc}(A:ec w F ι h acc){o:Option (Nat × Nat)}{b:az}(hg:wQ w F ι h (acc++[(o,b)]) (o,b))(hn:∀ id off,o=some (id,off)->Yf acc id=none):ec w F ι h (acc++[(o,b)]):=by
 have hp:acc <+: acc++[(o,b)]:=List.prefix_append _ _;refine⟨λk e he=>?_,λk j id o1 o2 c d hk hj=>?_⟩
 ·rw[List.getElem?_append]at he
  split at he
  ·exact(A.jK k e he).mono hp
  ·have:=List.mem_of_getElem? he;simp only[List.mem_singleton]at this;rw[this];exact hg
 ·rw[List.getElem?_append]at hk hj
  split at hk <;> split at hj
  ·exact A.nodup k j id o1 o2 c d hk hj
  ·have h1:=List.mem_of_getElem? hj;simp only[List.mem_singleton,Prod.mk.injEq]at h1;exact absurd hk (wR (hn id o2 h1.1.symm) k o1 c)
  ·have h1:=List.mem_of_getElem? hk;simp only[List.mem_singleton,Prod.mk.injEq]at h1;exact absurd hj (wR (hn id o1 h1.1.symm) j o2 d)
  ·rename_i h1 h2;have h3:=(List.getElem?_eq_some_iff.1 hk).1;have h4:=(List.getElem?_eq_some_iff.1 hj).1;simp at h3 h4;omega
theorem tH{acc bX:Acc}{k:Nat}{o:Option (Nat × Nat)}{b:az}(hp:acc <+: bX)(hk:acc[k]? = some (o,b)):ah bX k=b.aA/\aι ι bX k=o.bind (λx=>ι x.1)/\(aι ι bX).o k=JC ι (o,b):=by
 obtain⟨r,rfl⟩:=hp;have:(acc++r)[k]? = some (o,b):=by
  rw[List.getElem?_append_left (List.getElem?_eq_some_iff.1 hk).1];exact hk
 refine⟨?_,?_,?_⟩
 ·simp only[ah,this]
 ·simp only[aι,this,Option.bind_some]
 ·simp only[aι,this]
theorem wS{acc bX:Acc}{o:Option (Nat × Nat)}{b:az}(hp:acc++[(o,b)] <+: bX):ah bX acc.length=b.aA/\aι ι bX acc.length=o.bind (λx=>ι x.1)/\(aι ι bX).o acc.length=JC ι (o,b) :=
 tH (acc:=acc++[(o,b)]) (k:=acc.length) (o:=o) (b:=b) hp (by simp)
def lQ(w:World)(F:Nat->Prop)(ι:Io)(h:Nat->az):Prop :=
 ∀ id e ts es v off len,h id = .sl e ts .fz es->VR w F ι (λi=>(h i).aA) v (.r ts.length id off len)->Rd w F v (.sl ts.length (((es.map (aV ts)).drop off).take len))
theorem QXP{id off len k:Nat}{e0 e:TypeId}{ts:List CT}{mm m:Mo}{es:List (aS ts)}{F':Nat->Prop}{ι':Io}{h':Nat->aR}{v:Value}(hh:h id = .sl e0 ts mm es)(he:m.eY=true->e0=e)(hg:JG mm m off)
  (h1:h' k=(az.sl e ts m ((es.drop off).take len)).aA) (h2:ι' k=ι id) (h3:(es.drop off).take len≠[]->ι'.o k=ι.o id+off*ts.length) (hv:VR w F ι (λi=>(h i).aA) v (.r ts.length id off len)) :
  VR w F' ι' h' v (TV.r ts k 0 ((es.drop off).take len).length).aQ:=by
 have lR:(λi=>(h i).aA) id = .sl e0 ts.length mm (es.map (aV ts)):=by simp only[hh,az.bH]
 generalize hgA:(λi=>(h i).aA)=hA at hv lR;simp only[TV.aQ];rw[az.bH]at h1
 cases hv with
 | cy v sz id off len h1 hd=>rw[lR]at hd;cases hd
 | cL id e' sz m' hi b9 =>
  rw[lR]at b9;have:es=[]:=by injection b9 with _ _ _ h4;simpa using h4
  subst this;simp only[List.drop_nil,List.take_nil,List.length_nil]at h1 ⊢;exact .cL k e ts.length m (h2.trans hi) h1
 | de ad cap id e' sz m' hi b9 ht =>
  rw[lR]at b9;injection b9 with q1 q2 q3 q4;have:es=[]:=by simpa using q4
  subst this;simp only[List.drop_nil,List.take_nil,List.length_nil]at h1 ⊢;refine .de ad cap k e ts.length m (h2.trans hi) h1 ?_
  cases hx:m.eY with
  | false=>rfl
  | true=>rw[<- q3,(hg.eY hx).1]at ht;cases ht
 | r id off len b ao cap e' sz m' bP hi b9 hlen cj ho cX =>
  rw[lR]at b9;injection b9 with q1 q2 q3 q4;subst q1;subst q3;rw[<- q4,List.length_map]at hlen;have hl:((es.drop off).take len).length=len:=by simp;omega
  rw[hl];refine .r k 0 len b ao cap e ts.length m _ (h2.trans hi) h1 (by simp;omega) cj (λhn=>by rw[h3 (λh0=>hn (by rw[<- hl,h0];rfl)),ho hn];simp) (λht _=>?_);obtain⟨k1,k2⟩:=hg.eY ht;rw[<- he ht];exact cX k1 k2
theorem Sf{nl:Nat}(hz:lQ w F ι h)(hs:∀ id e ts m es v off len n,h id = .sl e ts m es->VR w F ι (λi=>(h i).aA) v (.r n id off len)->n=ts.length){m:jq}{x:TV}{acc:Acc}(A:ec w F ι h acc)(hf:oR nl h acc) :
  acc <+: (Y7 nl h m x acc).2/\ec w F ι h (Y7 nl h m x acc).2/\oQ w F ι h (Y7 nl h m x acc).2 x (Y7 nl h m x acc).1:=by
 have hu:∀(a:Acc)(x:TV),oQ w F ι h a x .u:=λa x bX F' _ _ v _=>.u v;unfold Y7
 split
 ·exact⟨List.prefix_refl _,A,λbX F' hp hF v hv=>hv.data hF⟩
 ·refine⟨List.prefix_refl _,A,λbX F' hp hF v hv=>?_⟩
  cases hv with
  | q b o _ _ x hb hc hr=>exact .q b o _ _ x (hF b hb) hc (λk d hk=>(hr k d hk).mono λb hb=>⟨hF b hb,rfl⟩)
 ·rename_i ts
  split
  ·split
   ·exact⟨List.prefix_refl _,A,hu _ _⟩
   ·refine⟨List.prefix_append _ _,A.push ⟨rfl,by simp⟩ (by simp),λbX F' hp hF v hv=>?_⟩;obtain⟨h1,h2,_⟩:=wS (ι:=ι) hp
    cases hv;exact .cL acc.length _ _ .ow h2 (by rw[h1];rfl)
  ·split
   ·exact⟨List.prefix_refl _,A,hu _ _⟩
   ·refine⟨List.prefix_append _ _,A.push ⟨rfl,by simp⟩ (by simp),λbX F' hp hF v hv=>?_⟩;obtain⟨h1,h2,_⟩:=wS (ι:=ι) hp
    cases hv;exact .cL acc.length _ _ (.dp 0 true []) h2 (by rw[h1];rfl)
  ·split
   ·exact⟨List.prefix_refl _,A,hu _ _⟩
   ·refine⟨List.prefix_append _ _,A.push ⟨rfl,by simp⟩ (by simp),λbX F' hp hF v hv=>?_⟩;obtain⟨h1,h2,_⟩:=wS (ι:=ι) hp
    cases hv;exact .cL acc.length _ _ (.dp 0 false []) h2 (by rw[h1];rfl)
  ·refine⟨List.prefix_refl _,A,λbX F' hp hF v hv=>?_⟩
   cases hv;exact .c _ _ (by simp only[enc,List.map_nil];exact .nil _)
  ·refine⟨List.prefix_refl _,A,λbX F' hp hF v hv=>?_⟩
   cases hv;exact .n _
 ·rename_i jL id off len
  split
  rotate_left
  ·exact⟨List.prefix_refl _,A,hu _ _⟩
  rename_i e ts mm es hh;have own:∀(e':TypeId)(m':Mo)(k:Nat),k=off->JG mm m' off->(m'.eY=true->e=e')->Yf acc id=none->
    acc <+: acc++[(some (id,k),.sl e' ts m' ((es.drop k).take len))]/\ec w F ι h (acc++[(some (id,k),.sl e' ts m' ((es.drop k).take len))])/\oQ w F ι h (acc++[(some (id,k),.sl e' ts m' ((es.drop k).take len))]) (.r jL id off len) (.r ts acc.length 0 ((es.drop k).take len).length):=by
   intro e' m' k hk hg zU eC;subst hk;refine⟨List.prefix_append _ _,A.push ⟨es,mm,len,⟨e,hh,zU⟩,rfl,hg⟩ (λb7 o' h'=>by cases h';exact eC),λbX F' hp hF v hv=>?_⟩;obtain⟨h1,h2,h3⟩:=wS (ι:=ι) hp;have hn:=hs id e ts mm es v k len _ hh hv;simp only[TV.aQ,hn]at hv;refine QXP hh zU hg h1 h2 (λdM=>?_) hv;rw[h3];simp only[JC,Sd dM]
  split
  ·cases mm with
   | ow=>exact⟨List.prefix_refl _,A,hu _ _⟩
   | dp=>exact⟨List.prefix_refl _,A,hu _ _⟩
   | fz =>
    refine⟨List.prefix_refl _,A,λbX F' hp hF v hv=>?_⟩;have hn:=hs id e ts .fz es v off len _ hh hv;simp only[TV.aQ,hn]at hv;have:=hz id e ts es v off len hh hv;refine .c _ _ ?_;simp only[enc,List.map_take,List.map_drop];exact this.mono λb hb=>⟨hF b hb,rfl⟩
  ·cases aW:Nat.blt id nl with
   | true =>
    simp only[cond_true]
    cases og:mm.full with
    | false=>exact⟨List.prefix_refl _,A,hu _ _⟩
    | true =>
    have hb:=hf id e ts mm es (Nat.le_of_ble_eq_true aW) hh og;refine⟨List.prefix_refl _,A,λbX F' hp hF v hv=>?_⟩;obtain⟨h1,h2,h3⟩:=tH (ι:=ι) hp hb;have hn:=hs id e ts mm es v off len _ hh hv;simp only[cond_true,TV.aQ,hn]at hv ⊢;simp only[Option.bind_some]at h2;have h3:(aι ι bX).o id=ι.o id:=by rw[h3];simp only[JC,Se,Nat.add_zero]
    have lR:(λi=>(h i).aA) id = .sl e ts.length mm (es.map (aV ts)):=by simp only[hh,az.bH]
    generalize hgA:(λi=>(h i).aA)=hA at hv lR;have zV:=JG.rs og
    cases hv with
    | cy v sz id off len h1 hd=>rw[lR]at hd;cases hd
    | cL id e' sz m hi b9 =>
     rw[lR]at b9;injection b9 with _ _ _ h4;exact .cL _ e ts.length mm.rs (h2.trans hi) (by rw[h1,az.bH,h4])
    | de ad cap id e' sz m hi b9 ht =>
     rw[lR]at b9;injection b9 with q1 q2 q3 q4;refine .de ad cap _ e ts.length mm.rs (h2.trans hi) (by rw[h1,az.bH,q4]) ?_
     cases hx:mm.rs.eY with
     | false=>rfl
     | true=>rw[<- q3,(zV.eY hx).1]at ht;cases ht
    | r id off len b ao cap e' sz m bP hi b9 hlen cj ho cX =>
     rw[lR]at b9;injection b9 with q1 q2 q3 q4;subst q1;subst q3;rw[<- q4]at hlen;exact .r id off len b ao cap e ts.length mm.rs (es.map (aV ts)) (h2.trans hi) (by rw[h1,az.bH]) hlen cj (by rw[h3];exact ho) (λht=>cX (zV.eY ht).1)
   | false =>
   simp only[cond_false]
   split
   ·exact⟨List.prefix_refl _,A,hu _ _⟩
   rename_i eC
   split
   ·rename_i g t H
    cases hH:H.all (λx=>Nat.blt x.1 off) with
    | false=>exact⟨List.prefix_refl _,A,hu _ _⟩
    | true =>
    simp only[cond_true];have Sg:∀ x,x∈H->x.1<off:=λx hx=>Nat.le_of_ble_eq_true (List.all_eq_true.1 hH x hx)
    split
    ·have:=own (m.e e) (.dp 0 (m.t t) []) 0 rfl (.inr ⟨g,t,H,m.t t,rfl,rfl,λh=>⟨(by cases m <;> first | exact h | cases h),rfl⟩,Sg⟩) (λh=>by cases m <;> first | rfl | cases h) eC;simpa using this
    ·rename_i k;exact own (m.e e) (.dp 0 false []) (k+1) rfl (.inr ⟨g,t,H,false,rfl,rfl,λh=>(by cases h),Sg⟩) (λh=>by cases h) eC
   ·rename_i dU
    split
    ·have jl:mm.gen=none:=by
      cases mm with
      | dp g t H=>exact absurd rfl (dU g t H)
      | _=>rfl
     have:=own e mm 0 rfl (.inl ⟨rfl,jl,rfl⟩) (λ_=>rfl) eC;simpa using this
    ·exact⟨List.prefix_refl _,A,hu _ _⟩
 ·exact⟨List.prefix_refl _,A,hu _ _⟩
theorem wT{nl:Nat}(hz:lQ w F ι h)(hs:∀ id e ts m es v off len n,h id = .sl e ts m es->VR w F ι (λi=>(h i).aA) v (.r n id off len)->n=ts.length) :
  ∀ {ms:List jq} {xs:List TV} {acc:Acc},ec w F ι h acc->oR nl h acc->acc <+: (Yj nl h ms xs acc).2/\ec w F ι h (Yj nl h ms xs acc).2/\(Yj nl h ms xs acc).1.length=xs.length/\
   ∀(k:Nat)(x y:TV),xs[k]? = some x->(Yj nl h ms xs acc).1[k]? = some y->oQ w F ι h (Yj nl h ms xs acc).2 x y
 | ms,[],acc,A,hf=>by
  cases ms <;> exact⟨List.prefix_refl _,A,rfl,λk x y hx=>by simp at hx⟩
 | [],x::xs,acc,A,hf=>by
  obtain⟨h1,h2,h3,h4⟩:=wT hz hs (ms:=[]) (xs:=xs) A hf;refine⟨h1,h2,by simp only[Yj,List.length_cons,h3],λk a b ha hb=>?_⟩;simp only[Yj]at hb
  cases k with
  | zero=>simp at hb;subst hb;exact λbX F' _ _ v _=>.u v
  | succ k=>exact h4 k a b (by simpa using ha) (by simpa using hb)
 | m::ms,x::xs,acc,A,hf=>by
  obtain⟨g1,g2,g3⟩:=Sf hz hs (m:=m) (x:=x) A hf;obtain⟨h1,h2,h3,h4⟩:=wT hz hs (ms:=ms) (xs:=xs) g2 (hf.mono g1);refine⟨g1.trans h1,h2,by simp only[Yj,List.length_cons,h3],λk a b ha hb=>?_⟩;simp only[Yj]at hb
  cases k with
  | zero=>simp at ha hb;subst ha;subst hb;exact g3.mono h1
  | succ k=>exact h4 k a b (by simpa using ha) (by simpa using hb)
def tI(w:World)(F:Nat->Prop)(ι:Io)(h:Nat->az)(acc:Acc)(x y:TV):Prop :=
 ∀(bX:Acc)(F':Nat->Prop),acc <+: bX->(∀ b,F b->F' b)->∀ v,VR w F ι (λi=>(h i).aA) v x.aA->VR w F' (aι ι bX) (ah bX) v y.aA
theorem tI.mono{acc gP:Acc}{x y:TV}(hp:acc <+: gP)(hk:tI w F ι h acc x y):tI w F ι h gP x y :=
 λbX F' FO hF v hv=>hk bX F' (hp.trans FO) hF v hv
theorem QUt{nl:Nat}{m:jq}{x:TV}{acc:Acc}:(Y7 nl h m x acc).1.aA=(Y7 nl h m x acc).1.aQ:=by
 unfold Y7;simp only[cond];repeat' split
 all_goals rfl
theorem QMv{nl:Nat}{m:jq}{x:TV}{acc:Acc}(hx:x.one=false):Y7 nl h m x acc=(.u,acc):=by
 cases x <;> first | rfl | simp[TV.one]at hx
theorem QFO{nl:Nat}(hz:lQ w F ι h)(hs:∀ id e ts m es v off len n,h id = .sl e ts m es->VR w F ι (λi=>(h i).aA) v (.r n id off len)->n=ts.length){m:Md}{x:TV}{acc:Acc}(A:ec w F ι h acc)(hf:oR nl h acc) :
  acc <+: (conv nl h m x acc).2/\ec w F ι h (conv nl h m x acc).2/\tI w F ι h (conv nl h m x acc).2 x (conv nl h m x acc).1:=by
 have hu:∀(a:Acc)(x:TV),tI w F ι h a x .u:=λa x bX F' _ _ v _=>.u v;unfold conv
 split
 ·rename_i m
  cases hx:x.one with
  | false=>rw[QMv hx];exact⟨List.prefix_refl _,A,hu _ _⟩
  | true =>
   obtain⟨g1,g2,g3⟩:=Sf hz hs (m:=m) (x:=x) A hf;refine⟨g1,g2,λbX F' hp hF v hv=>?_⟩;rw[qN hx]at hv;rw[QUt];exact g3 bX F' hp hF v hv
 ·rename_i ms
  split
  rotate_left
  ·exact⟨List.prefix_refl _,A,hu _ _⟩
  rename_i id
  split
  rotate_left
  ·exact⟨List.prefix_refl _,A,hu _ _⟩
  rename_i cs hh;have put:∀(k:Nat)(cs':List TV)(F':Nat->Prop)(bX:Acc)(v:Value),ah bX k=(az.box cs').aA->aι ι bX k=ι id->(aι ι bX).o k=ι.o id->VR w F ι (λi=>(h i).aA) v (.p id 0 0)->VR w F' (aι ι bX) (ah bX) v (.p k 0 0):=by
   intro k cs' F' bX v h1 h2 h3 hv
   cases hv with
   | cS v id i j h3 hd=>have hd:(h id).aA = .dead:=hd;rw[hh]at hd;cases hd
   | p id i j bk hi hn hd =>
    have:VR w F' (aι ι bX) (ah bX) (.pointer (some ⟨bk,(aι ι bX).o k+0*(ah bX k).sz+0,none⟩)) (.p k 0 0) :=
     .p k 0 0 bk (h2.trans hi) (by rw[h1];simp[az.aA]) (by rw[h1];simp[az.aA])
    rw[h3]at this;simpa using this
  split
  ·rename_i k hk;obtain⟨o,b,hb⟩:=tG hk;refine⟨List.prefix_refl _,A,λbX F' hp hF v hv=>?_⟩;obtain⟨h1,h2,h3⟩:=tH (ι:=ι) hp hb;have hg:=A.jK k _ hb
   cases b with
   | none=>exact hg.elim
   | dead=>exact hg.elim
   | sl e ts m es=>obtain⟨mg,m0,len,⟨_,q,_⟩,_⟩:=hg;rw[hh]at q;cases q
   | box cs'=>exact put k cs' F' bX v h1 h2 (by rw[h3];simp only[JC,FN,Nat.add_zero]) hv
  ·rename_i lS;obtain⟨g1,g2,g3,g4⟩:=wT hz hs (ms:=ms) (xs:=cs) A hf;simp only
   split
   rotate_left
   ·exact⟨List.prefix_refl _,A,hu _ _⟩
   rename_i qU;have eS:(Yj nl h ms cs acc).2 <+: (Yj nl h ms cs acc).2++[(some (id,0),.box (Yj nl h ms cs acc).1)]:=List.prefix_append _ _;refine⟨g1.trans eS,g2.push ⟨cs,hh,g3,λk x y hx hy=>(g4 k x y hx hy).mono eS⟩ (λb7 o' h'=>by cases h';exact qU),λbX F' hp hF v hv=>?_⟩;obtain⟨h1,h2,h3⟩:=wS (ι:=ι) hp;exact put _ _ F' bX v h1 h2 (by rw[h3];simp only[JC,FN,Nat.add_zero]) hv
 ·rename_i ms
  split
  rotate_left
  ·exact⟨List.prefix_refl _,A,hu _ _⟩
  rename_i cs;obtain⟨g1,g2,g3,g4⟩:=wT hz hs (ms:=ms) (xs:=cs) A hf;refine⟨g1,g2,λbX F' hp hF v hv=>?_⟩
  cases hv with
  | a vs cs' hl h1 hv =>
   refine .a vs _ (by simpa[g3]using hl) h1 (λk v y hk hy=>?_);simp only[List.getElem?_map,Option.map_eq_some_iff]at hy;obtain⟨y0,wU,rfl⟩:=hy;have aW:k<cs.length:=by rw[<- g3];exact(List.getElem?_eq_some_iff.1 wU).1
   exact g4 k cs[k] y0 (List.getElem?_eq_getElem aW) wU bX F' hp hF v (hv k v _ hk (by simp[aW]))
theorem Si{nl:Nat}(hz:lQ w F ι h)(hs:∀ id e ts m es v off len n,h id = .sl e ts m es->VR w F ι (λi=>(h i).aA) v (.r n id off len)->n=ts.length){T:Nat->TV} :
  ∀ {L:List (Nat × Md)} {acc:Acc},ec w F ι h acc->oR nl h acc->acc <+: (YZ nl h T L acc).2/\ec w F ι h (YZ nl h T L acc).2/\∀ s,tI w F ι h (YZ nl h T L acc).2 (T s) (cG (YZ nl h T L acc).1 s)
 | [],acc,A,hf=>⟨List.prefix_refl _,A,λs bX F' _ _ v _=>.u v⟩
 | (s,m)::L,acc,A,hf=>by
  obtain⟨g1,g2,g3⟩:=QFO hz hs (m:=m) (x:=T s) A hf;obtain⟨h1,h2,h3⟩:=Si hz hs (T:=T) (L:=L) g2 (hf.mono g1);refine⟨g1.trans h1,h2,λs'=>?_⟩;simp only[YZ,Ja,bI]
  split
  ·rename_i e;subst e;exact g3.mono h1
  ·exact h3 s'
end
theorem Sj:∀(acc:Acc)(n k:Nat),dv (oP n acc) k=if n<=k then(match acc[k-n]? with | some (_,b)=>b | none=>.none) else .none
 | [],n,k=>by simp[oP,dv]
 | (o,b)::r,n,k=>by
  simp only[oP,qR,bI];by_cases h:k=n
  ·subst h;simp
  ·rw[if_neg h,Sj r (n+1) k];by_cases h2:n<=k
   ·rw[if_pos h2,if_pos (by omega),show k-n=(k-(n+1))+1 by omega];simp
   ·rw[if_neg h2,if_neg (by omega)]
theorem Jf(h:Nat->az):∀ n,(ZG h n).length=n
 | 0=>rfl
 | n+1=>by simp only[ZG,List.length_append,Jf h n,List.length_singleton]
theorem Sk{nl:Nat}{h:Nat->az}:∀ {cs:List TV} {acc:Acc},(Yj nl h (lP cs) cs acc).2=acc
 | [],acc=>rfl
 | x::xs,acc=>by
  have:(Y7 nl h .d x acc).2=acc:=by
   unfold Y7
   split <;> try rfl
   split <;> try rfl
   simp only[cond]
   split <;> rfl
  simp only[lP,Yj,this];exact Sk
section
variable {C:Ctx} {U:Nat->Prop} {a:Act} {w:World} {ι:Io}
theorem QVZ(h:Nat->az)(ids:List Nat):(λi=>(kF h ids i).aA)=bp (λi=>(h i).aA) (eT (λi=>(h i).aA) (ids.filter λi=>(h i).full)):=by
 funext i
 rw[Yw];simp only[kF,List.mem_filter];by_cases hi:i∈ids
 ·rw[show ids.elem i=true by simpa using hi]
  cases hf:(h i).full with
  | true=>rw[if_pos ⟨hi,rfl⟩];exact RA _
  | false=>rw[if_neg (λh=>by cases h.2)];rfl
 ·rw[if_neg (λh=>hi h.1),show ids.elem i=false by simpa using hi];rfl
theorem QGL{σ:cq}{nl:Nat}{L:List (Nat × Md)}(S:Sat C U σ.aA a w ι)(hL:∀ i b,C.L i=some b->i<nl)(hO:∀ i x,C.O i=some x->i<nl)(hOb:∀ i x cs,C.O i=some x->x.B≠.box cs):∃ ι',Sat C (λi=>(gc nl L σ).nx<=i) (gc nl L σ).aA a w ι':=by
 obtain⟨t,h0,nx⟩:=σ;let H:=dv h0
 let T:=cG t
 let ids:=zT H nl++qT H T L
 have og:Am.Full (λi=>(H i).aA) (ids.filter λi=>(H i).full):=by
  intro id a9 e sz m es he;have h1:=(List.mem_filter.1 a9).2;simp only at h1 he
  cases hq:H id with
  | sl e' ts m' bP=>rw[hq]at he h1;rw[az.bH]at he;injection he with _ _ q _;rw[<- q];exact h1
  | _=>rw[hq]at he;cases he
 obtain⟨S1,_⟩:=S.freeze (ids.filter λi=>(H i).full) og;have hf:bp (cq.aA ⟨t,h0,nx⟩).h (eT (cq.aA ⟨t,h0,nx⟩).h (ids.filter λi=>(H i).full))=λi=>(kF H ids i).aA:=(QVZ H ids).symm;rw[hf]at S1;generalize hh:kF H ids=h at S1;generalize ι.loose (ids.filter λi=>(H i).full)=ι at S1;let F:=Fz C w ι λi=>(h i).aA
 have hs:∀ id e ts m es v off len n,h id = .sl e ts m es->VR w F ι (λi=>(h i).aA) v (.r n id off len)->n=ts.length:=by
  intro id e ts m es v off len n a9 hv;have hA:(λi=>(h i).aA) id = .sl e ts.length m (es.map (aV ts)):=by simp only[a9,az.bH]
  generalize(λi=>(h i).aA)=hB at hv hA
  cases hv with
  | cy v sz id off len h1 hd=>rw[hA]at hd;cases hd
  | cL id e' sz m' hi b9=>rw[hA]at b9;injection b9 with _ q _ _;exact q.symm
  | de ad cap id e' sz m' hi b9 ht=>rw[hA]at b9;injection b9 with _ q _ _;exact q.symm
  | r id off len b ao cap e' sz m' bP hi b9 hlen cj ho cX=>rw[hA]at b9;injection b9 with _ q _ _;exact q.symm
 have hz:lQ w F ι h:=by
  intro id e ts es v off len a9 hv;have hA:(λi=>(h i).aA) id = .sl e ts.length .fz (es.map (aV ts)):=by simp only[a9,az.bH]
  refine AV.jy S1 (F:=F) (λb hb=>hb) hv (d:=.sl ts.length (((es.map (aV ts)).drop off).take len)) ?_ (λb7 b iv hb=>?_) (λb7 b p iv hb=>?_)
  ·show(match(h id).aA with | .sl _ sz m es=>if m.full=true then some (D.sl sz ((es.drop off).take len)) else none | _=>none)=_;rw[a9];rfl
  ·simp only[AV.bR,List.mem_singleton]at iv;subst iv;obtain⟨r1,r2⟩:=S1.eg b7 b hb;refine⟨r2,?_,λj hj=>?_,?_⟩
   ·rcases r1 with r1 | ⟨_,cs,q⟩
    ·exact .inr r1
    ·have q:(h b7).aA = .box cs:=q;rw[a9]at q;cases q
   ·have:=S1.inj j b7 b hj hb;subst this;show((h j).aA).own=false;rw[a9];rfl
   ·cases hk:ι.k b with
    | none=>rfl
    | some x=>exact absurd hb ((S1.df b x.1 x.2 hk).ne b7)
  ·simp only[AV.bR,List.mem_singleton]at iv;subst iv;obtain⟨e',bc,g,t',H',bP,q⟩:=(S1.df b b7 p hb).dp;have q:(h b7).aA = .sl e' bc (.dp g t' H') bP:=q;rw[a9,az.bH]at q
   cases q
 have qV:∀(n k:Nat)(j o:Nat)(b:az),(ZG h n)[k]? = some (some (j,o),b)->j=k:=by
  intro n
  induction n with
  | zero=>intro k j o b hk;simp[ZG]at hk
  | succ n ih =>
   intro k j o b hk;simp only[ZG]at hk;rw[List.getElem?_append]at hk
   split at hk
   ·exact ih k j o b hk
   ·rename_i iL;have h1:=List.mem_of_getElem? hk;have h2:=(List.getElem?_eq_some_iff.1 hk).1;simp only[List.mem_singleton]at h1;simp only[Jf,List.length_singleton]at iL h2;simp only[cond]at h1;repeat' split at h1
    all_goals first | (cases h1;omega) | cases h1
 have fu:∀ n,ec w F ι h (ZG h n):=by
  intro n
  induction n with
  | zero=>exact⟨λk e he=>by simp[ZG]at he,λk j id o o' b c hk=>by simp[ZG]at hk⟩
  | succ n ih =>
   simp only[ZG];have lS:Yf (ZG h n) n=none:=by
    cases hx:Yf (ZG h n) n with
    | none=>rfl
    | some k =>
     obtain⟨o,b,hb⟩:=tG hx;have h1:=qV n k n o b hb;have h2:=(List.getElem?_eq_some_iff.1 hb).1;rw[Jf]at h2;omega
   split
   ·rename_i cs dI;obtain⟨g1,g2,g3,g4⟩:=wT (nl:=0) hz hs (ms:=lP cs) (xs:=cs) ih (λid _ _ _ _ h=>by omega);rw[Sk]at g1 g2 g4;exact ih.push ⟨cs,dI,g3,λk x y hx hy=>(g4 k x y hx hy).mono (List.prefix_append _ _)⟩ (λid o a9=>by cases a9;exact lS)
   ·rename_i e ts m es hq
    cases mv:m.full with
    | true=>exact ih.push ⟨es,m,es.length,⟨e,hq,λ_=>rfl⟩,List.take_length.symm,.rs mv⟩ (λid o a9=>by cases a9;exact lS)
    | false=>exact ih.push trivial (λid o a9=>by cases a9)
   ·exact ih.push trivial (λid o a9=>by cases a9)
   ·exact ih.push trivial (λid o a9=>by cases a9)
 have dV:∀ n,oR n h (ZG h n):=by
  intro n
  induction n with
  | zero=>intro id e ts m es aW;omega
  | succ n ih =>
   intro id e ts m es aW a9 mv;simp only[ZG];by_cases fc:id<n
   ·rw[List.getElem?_append_left (by rw[Jf];exact fc)];exact ih id e ts m es fc a9 mv
   ·have:id=n:=by omega
    subst this;rw[List.getElem?_append_right (by rw[Jf];omega),Jf,a9];simp[mv]
 have kr:∀ i x,C.O i=some x->∀ cs,h i≠.box cs:=by
  intro i x hi cs hq
  rcases S1.hand i x hi with r1 | ⟨_,_,r2,_⟩
  ·have r1:(h i).aA = .dead:=r1;rw[hq]at r1
   cases r1
  ·have r2:Yk x.B (h i).aA:=r2;rw[hq]at r2
   cases hB:x.B with
   | box cs'=>exact hOb i x cs' hi hB
   | _=>rw[hB]at r2;exact r2.elim
 have wV:∀ n i,i<n->(h i = .dead\/∃ e ts m es,h i = .sl e ts m es/\m.full=false)->(ZG h n)[i]? = some (none,.dead):=by
  intro n
  induction n with
  | zero=>intro i aW;omega
  | succ n ih =>
   intro i aW a9;simp only[ZG];by_cases fc:i<n
   ·rw[List.getElem?_append_left (by rw[Jf];exact fc)];exact ih i fc a9
   ·have:i=n:=by omega
    subst this;rw[List.getElem?_append_right (by rw[Jf];omega),Jf]
    rcases a9 with a9 | ⟨e,ts,m,es,a9,mv⟩
    ·rw[a9];simp
    ·rw[a9];simp[mv]
 obtain⟨g1,g2,g3⟩:=Si (nl:=nl) hz hs (T:=T) (L:=L) (fu nl) (dV nl);have hgc:gc nl L ⟨t,h0,nx⟩=⟨(YZ nl h T L (ZG h nl)).1,oP 0 (YZ nl h T L (ZG h nl)).2,(YZ nl h T L (ZG h nl)).2.length⟩:=by
  unfold gc;show cq.mk _ _ _=_;simp only[show kF (cq.H ⟨t,h0,nx⟩) (zT (cq.H ⟨t,h0,nx⟩) nl++qT (cq.H ⟨t,h0,nx⟩) (cq.T ⟨t,h0,nx⟩) L)=h from hh];rfl
 rw[hgc];generalize nt:(YZ nl h T L (ZG h nl)).2=acc at g1 g2 g3;have hah:(λi=>(dv (oP 0 acc) i).aA)=ah acc:=by
  funext k
  rw[Sj];simp only[Nat.zero_le,if_true,Nat.sub_zero,ah]
  cases acc[k]? with
  | none=>rfl
  | some x=>obtain⟨o,b⟩:=x;rfl
 have hex:∀(k b:Nat),aι ι acc k=some b->∃ id off B,acc[k]? = some (some (id,off),B)/\ι id=some b:=by
  intro k b hk;simp only[aι]at hk
  cases hx:acc[k]? with
  | none=>rw[hx]at hk;cases hk
  | some x =>
   obtain⟨o,B⟩:=x;rw[hx]at hk
   cases o with
   | none=>cases hk
   | some id=>exact⟨id.1,id.2,B,rfl,hk⟩
 have Sl:∀(b k:Nat)(p:cD),(aι ι acc).k b=some (k,p)->∃ y a c q off B,ι.k b=some (y,(a,c)::q)/\acc[k]? = some (some (y,off),B)/\off<=a/\p=(a-off,c)::q:=by
  intro b k p hk;simp only[aι]at hk
  cases hx:ι.k b with
  | none=>rw[hx]at hk;cases hk
  | some x =>
   obtain⟨y,p0⟩:=x;rw[hx]at hk
   cases p0 with
   | nil=>cases hk
   | cons ac q =>
    obtain⟨a,c⟩:=ac;simp only at hk
    cases hy:Yf acc y with
    | none=>rw[hy]at hk;cases hk
    | some k' =>
     rw[hy]at hk;obtain⟨off,B,hB⟩:=tG hy;simp only[hB]at hk
     split at hk
     ·rename_i hle;simp only[Option.some.injEq,Prod.mk.injEq]at hk;obtain⟨rfl,rfl⟩:=hk;exact⟨y,a,c,q,off,B,rfl,hB,hle,rfl⟩
     ·cases hk
 have hF:∀ b,F b->Fz C w (aι ι acc) (ah acc) b:=by
  intro b ⟨q1,q2,q3,q4⟩;refine⟨q1,q2,λk hk=>?_,?_⟩
  ·obtain⟨id,off,B,h1,h2⟩:=hex k b hk;have h3:=q3 id h2;have hg:=g2.jK k _ h1;simp only[ah,h1]
   cases B with
   | none=>rfl
   | dead=>rfl
   | box cs=>obtain⟨fX,e,_⟩:=hg;have h3:((h id).aA).own=false:=h3;rw[e]at h3;cases h3
   | sl e ts m es =>
    obtain⟨mg,m0,len,⟨_,e,_⟩,_,hg⟩:=hg;have h3:((h id).aA).own=false:=h3;rw[e,az.bH]at h3;rw[az.bH];exact hg.own.trans h3
  ·cases hk:(aι ι acc).k b with
   | none=>rfl
   | some x=>obtain⟨y,a,c,q,off,B,h1,_⟩:=Sl b x.1 x.2 hk;rw[q4]at h1;cases h1
 have key:Sat C (λi=>acc.length<=i) ⟨λs=>(cG (YZ nl h T L (ZG h nl)).1 s).aA,ah acc,acc.length⟩ a w (aι ι acc):=by
  refine⟨S1.dD,λs=>?_,S1.size,S1.defers,λk=>?_,λi j b hi hj=>?_,λi b hi=>?_,λi hi=>?_,λi b hi=>?_,λi b hi=>?_,λi x hi=>?_,λb k p hk=>?_⟩
  ·exact g3 s acc _ (List.prefix_refl _) hF _ (S1.bm s)
  ·show BR w (Fz C w (aι ι acc) (ah acc)) (aι ι acc) (ah acc) k (ah acc k)
   cases hx:acc[k]? with
   | none=>simp only[ah,hx];exact .none
   | some x =>
    obtain⟨o,B⟩:=x;have hg:=g2.jK k _ hx;obtain⟨ha,hi,ho⟩:=tH (ι:=ι) (List.prefix_refl acc) hx;rw[ha]
    cases o with
    | none =>
     cases B with
     | none=>exact .none
     | dead=>exact .dead
     | box cs=>exact hg.elim
     | sl e ts m es =>
      obtain⟨e1,e2⟩:=hg;subst e1;rw[az.bH];exact .slnil e ts.length m e2 hi
    | some id =>
     obtain⟨id,off⟩:=id;have hi:aι ι acc k=ι id:=hi;have hb:=S1.fh id
     cases B with
     | none=>exact hg.elim
     | dead=>exact hg.elim
     | box cs =>
      obtain⟨fX,e1,e2,e3⟩:=hg;have hb:BR w F ι (λi=>(h i).aA) id ((h id).aA):=hb;rw[e1]at hb
      cases hb with
      | box b e bm _ q1 qo q2 q3 q4 q5 =>
       refine .box b e bm _ (hi.trans q1) (by rw[ho];simp only[JC,FN,Nat.add_zero];exact qo) q2 (by simpa[e2]using q3) q4 (λj v y hj hy=>?_);simp only[List.getElem?_map,Option.map_eq_some_iff]at hy;obtain⟨y0,wU,rfl⟩:=hy;have aW:j<fX.length:=by rw[<- e2];exact(List.getElem?_eq_some_iff.1 wU).1
       exact e3 j fX[j] y0 (List.getElem?_eq_getElem aW) wU acc _ (List.prefix_refl _) hF v (q5 j v _ hj (by simp[aW]))
     | sl e ts m es =>
      obtain⟨mg,m0,len,⟨e9,e1,zU⟩,e2,qG⟩:=hg;have oS:=hx;have hb:BR w F ι (λi=>(h i).aA) id ((h id).aA):=hb;rw[e1]at hb;have ho:es≠[]->(aι ι acc).o k=ι.o id+off*ts.length:=λdM=>by rw[ho];simp only[JC,Sd dM]
      have eR:es=[]->(aι ι acc).o k=ι.o id:=λdM=>by subst dM;rw[(tH (ι:=ι) (List.prefix_refl acc) hx).2.2];simp only[JC,QGk,Nat.add_zero]
      simp only[az.bH]at hb ⊢;have het:es.map (aV ts)=((mg.map (aV ts)).drop off).take len:=by rw[e2,List.map_take,List.map_drop]
      have zW:es=[]↔es.map (aV ts)=[]:=by simp
      generalize es.map (aV ts)=bP at het zW ⊢;generalize mg.map (aV ts)=eO at hb het
      cases hb with
      | slnil _ _ _ q1 q2=>simp only[List.drop_nil,List.take_nil]at het;subst het;exact .slnil e ts.length m q1 (hi.trans q2)
      | sl b _ e0 _ _ _ cur q1 q2 q3 q4 q5 q6 q7 q8 =>
       have wW:bP.length<=eO.length:=by rw[het];simp;omega
       refine .sl b e e0 ts.length m _ cur q1 (hi.trans q2) q3 (λht=>?_) ?_ (Nat.le_trans wW q6) (λx hx=>?_) (λi j x d hx hd=>?_)
       ·obtain⟨t1,t2⟩:=qG.eY ht;obtain⟨r1,r2,Cc,r3,r4,r5⟩:=q4 t1;refine⟨r1.trans (zU ht),?_,Cc,r3,by omega,r5⟩;by_cases dM:es=[]
        ·rw[eR dM,r2]
        ·rw[ho dM,r2,t2];simp
       ·by_cases dM:es=[]
        ·rw[eR dM,zW.1 dM];simp only[List.length_nil,Nat.zero_mul];exact Nat.le_trans (Nat.le_add_right _ _) q5
        ·rw[ho dM];have:off+bP.length<=eO.length:=by
          have:bP≠[]:=λh=>dM (zW.2 h);have h3:0<bP.length:=List.length_pos_iff.2 this;rw[het]at h3 ⊢;simp at h3 ⊢;omega
         have:=Nat.mul_le_mul_right ts.length this;rw[Nat.add_mul]at this;omega
       ·rw[het]at hx;exact q7 x (List.mem_of_mem_drop (List.mem_of_mem_take hx))
       ·have dM:es≠[]:=λh=>by rw[zW.1 h]at hx;simp at hx
        rw[ho dM];rw[het,List.getElem?_take]at hx
        split at hx
        rotate_left
        ·cases hx
        rw[List.getElem?_drop]at hx;obtain⟨v,r1,r2⟩:=q8 (off+i) j x d hx hd;refine⟨v,by rw[<- r1];congr 1;rw[Nat.add_mul];omega,?_⟩
        rcases qG with⟨rfl,jl,rfl⟩ | ⟨g,t,HH,t',rfl,rfl,_,oy⟩
        ·cases m0 with
         | dp=>cases jl
         | ow=>exact Rd.mono (λb hb=>⟨hF b hb,rfl⟩) r2
         | fz=>exact Rd.mono (λb hb=>⟨hF b hb,rfl⟩) r2
        ·refine⟨r2.1,λ_=>?_⟩;have r3:=r2.2 (λhm=>by have:=oy _ hm;simp only at this;omega);refine r3.map [(i,j)] (λb q hk=>⟨?_,rfl⟩);simp only[List.singleton_append]at hk;simp only[aι,hk,QLj g2 oS,oS];simp
  ·obtain⟨id,o1,B,h1,h2⟩:=hex i b hi;obtain⟨b7,o2,B',h3,h4⟩:=hex j b hj;have:=S1.inj id b7 b h2 h4;subst this;exact g2.nodup i j id o1 o2 B B' h1 h3
  ·obtain⟨id,o1,B,h1,h2⟩:=hex i b hi;obtain⟨r1,r2⟩:=S1.eg id b h2;refine⟨r1.imp (λx=>x) λ⟨r3,cs,r4⟩=>⟨r3,?_⟩,r2⟩;have r4:(h id).aA = .box cs:=r4;have hg:=g2.jK i _ h1
   cases B with
   | none=>exact hg.elim
   | dead=>exact hg.elim
   | box cs'=>exact⟨cs'.map TV.aQ,by simp only[ah,h1];rfl⟩
   | sl e ts m es=>obtain⟨mg,m0,len,⟨_,e1,_⟩,_⟩:=hg;rw[e1]at r4;cases r4
  ·have:acc[i]? = none:=List.getElem?_eq_none hi;simp only[ah,aι,this,Option.bind_none,and_self]
  ·obtain⟨id,o1,B,h1,h2⟩:=hex i b hi;have hg:=g2.jK i _ h1;simp only[ah,h1]
   cases B with
   | none=>exact hg.elim
   | dead=>exact hg.elim
   | box cs'=>simp[az.aA]
   | sl e ts m es=>simp[az.aA]
  ·obtain⟨r1,⟨cs,r2⟩,r3⟩:=S1.b8 i b hi;have r2:(h i).aA = .box cs:=r2;have aW:=hL i b hi;have qV:∀ n,i<n->∃ cs',(ZG h n)[i]? = some (some (i,0),.box cs'):=by
    intro n
    induction n with
    | zero=>intro hn;omega
    | succ n ih =>
     intro hn;simp only[ZG];rw[List.getElem?_append];by_cases fc:i<n
     ·rw[if_pos (by rw[Jf];exact fc)];exact ih fc
     ·have:i=n:=by omega
      subst this;rw[if_neg (by rw[Jf];omega),Jf]
      cases hq:h i with
      | box fX=>simp
      | none=>rw[hq]at r2;cases r2
      | dead=>rw[hq]at r2;cases r2
      | sl e ts m es=>rw[hq]at r2;cases r2
   obtain⟨cs',h1⟩:=qV nl aW;obtain⟨rr,tv⟩:=g1;have h2:acc[i]? = some (some (i,0),.box cs'):=by
    rw[<- tv,List.getElem?_append_left (List.getElem?_eq_some_iff.1 h1).1];exact h1
   exact⟨by simp only[aι,h2,Option.bind_some];exact r1,⟨cs'.map TV.aQ,by simp only[ah,h2];rfl⟩,r3⟩
  ·have aW:=hO i _ hi;obtain⟨rr,tv⟩:=g1;have fc:∀ x,(ZG h nl)[i]? = some x->acc[i]? = some x:=λx hx=>by
    rw[<- tv,List.getElem?_append_left (List.getElem?_eq_some_iff.1 hx).1];exact hx
   have eP:(h i = .dead\/∃ e ts m es,h i = .sl e ts m es/\m.full=false)->ah acc i = .dead:=λhq=>by
    simp only[ah,fc _ (wV nl i aW hq)];rfl
   rcases S1.hand i x hi with r1 | ⟨r1,rb,r2,r3⟩
   ·left;have r1:(h i).aA = .dead:=r1;have:h i = .dead:=by cases hq:h i <;> rw[hq]at r1 <;> first | rfl | cases r1
    exact eP (.inl this)
   ·have r2:Yk x.B (h i).aA:=r2
    cases hq:h i with
    | none=>rw[hq]at r2;cases hB:x.B <;> rw[hB]at r2 <;> exact r2.elim
    | dead=>exact .inl (eP (.inl hq))
    | sl e ts m es =>
     cases mv:m.full with
     | false=>exact .inl (eP (.inr ⟨e,ts,m,es,hq,mv⟩))
     | true =>
      right;have hx:=fc _ (dV nl i e ts m es aW hq mv);obtain⟨z1,z2,z3⟩:=tH (ι:=ι) (List.prefix_refl acc) hx;refine⟨z2.trans r1,by rw[z3];simp only[JC,Se,Nat.add_zero];exact rb,?_,r3⟩;show Yk x.B (ah acc i);rw[z1];rw[hq,az.bH]at r2;rw[az.bH]
      cases hB:x.B with
      | sl e' bc m' bP =>
       rw[hB]at r2;refine⟨r2.1,r2.2.1,r2.2.2.1,λht=>r2.2.2.2.1 ((JG.rs mv).eY ht).1,λhg=>r2.2.2.2.2 ?_⟩
       cases m <;> first | rfl | exact hg
      | _=>rw[hB]at r2;exact r2.elim
    | box cs=>exact absurd hq (kr i x hi cs)
  ·obtain⟨y,a',c,q,off,B,h1,h2,h3,h4⟩:=Sl b k p hk;have l:=S1.df b y _ h1;refine⟨by rw[h4];simp,?_,l.fr,l.lt,λi hi=>?_⟩
   ·obtain⟨e,sz,g,t',HH,es,hd⟩:=l.dp;have hd:(h y).aA = .sl e sz (.dp g t' HH) es:=hd;have hg:=g2.jK k _ h2;show ∃ e sz g t H es,ah acc k = .sl e sz (.dp g t H) es
    cases B with
    | none=>exact hg.elim
    | dead=>exact hg.elim
    | box cs'=>obtain⟨fX,e1,_⟩:=hg;rw[e1]at hd;cases hd
    | sl e2 ts m f4 =>
     obtain⟨mg,m0,len,⟨_,e1,_⟩,_,qG⟩:=hg;rw[e1,az.bH]at hd;injection hd with _ _ d3 _
     rcases qG with⟨rfl,jl,_⟩ | ⟨g',t2,H2,t3,r1,r2,_⟩
     ·rw[d3]at jl;cases jl
     ·exact⟨e2,ts.length,0,t3,[],f4.map (aV ts),by simp only[ah,h2,az.bH,r2]⟩
   ·obtain⟨id,o1,B,fO,kA⟩:=hex i b hi;exact l.ne id kA
 refine⟨aι ι acc,?_⟩;have FP:cq.aA ⟨(YZ nl h T L (ZG h nl)).1,oP 0 acc,acc.length⟩=⟨λs=>(cG (YZ nl h T L (ZG h nl)).1 s).aA,ah acc,acc.length⟩:=by
  unfold cq.aA cq.T cq.H;rw[<- hah]
 rw[FP];exact key
end
end Go.Proofs.YtdplaepmjogjjaaGreat.Am
namespace Go.Proofs.YtdplaepmjogjjaaGreat.Am
open Go Go.RowKit
inductive af where
 | skip
 | ae (ss:List bA)
 | draw (ss:List bA) (U:List (Nat × Nat))
 | seq (x y:af)
 | cond (c:bD) (x y:af)
 | block (id:Nat) (x:af)
 | loop (L:List (Nat × Md)) (x:af)
 | exit (id:Nat)
 | ret
 | wk (L:List (Nat × Md)) (x:af)
 | cv (s k:Nat) (x:af)
def af.er:af->eB
 | .skip=>.skip
 | .ae ss=>.ae (ik none 0 ss)
 | .draw ss U=>.draw (ik none 0 ss) U
 | .seq x y=>.seq x.er y.er
 | .cond c x y=>.cond c.er x.er y.er
 | .block id x=>.block id x.er
 | .loop _ x=>.loop x.er
 | .exit id=>.exit id
 | .ret=>.ret
 | .wk _ x=>x.er
 | .cv _ _ x=>x.er
def zX(F:(cq->Prop)->cq->Prop)(σ:cq):Prop:=∀ J:cq->Prop,(∀ s,F J s->J s)->J σ
abbrev Qb:=l9->cq->Prop
def aY(next:cq->Prop)(Q:Qb):Qb:=λe σ=>match e with
 | .normal=>next σ
 | e=>Q e σ
def a7(id:Nat)(Q:Qb):Qb:=λe σ=>match e with
 | .exit b7=>bif Nat.beq b7 id then Q .normal σ else Q (.exit b7) σ
 | e=>Q e σ
def cq.fU(σ:cq)(n:Nat):cq:=⟨σ.t,σ.h,σ.nx+n⟩
def zY(H:Nat->az)(nx:Nat):TV->Option (Prop × TV × List (Nat × az))
 | .bs _ _ id g [(i,j)]=>match H id with
  | .sl e jL (.dp g0 t []) es=>match Nat.beq g g0,(aS.cells jL (gt jL es i))[j]? with
   | true,some (.c (.sl (t1::ts)) l)=>some (i<es.length,.r (t1::ts) nx 0 l.length,[(id,.sl e jL (.dp (g0+1) t [(i,j)]) es),(nx,.sl 0 (t1::ts) (.dp 0 false []) l)])
   | _,_=>none
  | _=>none
 | _=>none
def FQ(s k:Nat)(σ:cq):Option (Prop × cq):=match σ.T s with
 | .a cs=>match cs[k]? with
  | some c=>match zY σ.H σ.nx c with
   | some (p,y,l)=>some (p,⟨(s,.a (cs.set k y))::σ.t,l++σ.h,σ.nx+1⟩)
   | none=>none
  | none=>none
 | .p id 0 0=>match σ.H id with
  | .box cs=>match cs[k]? with
   | some c=>match zY σ.H σ.nx c with
    | some (p,y,l)=>some (p,⟨σ.t,(id,.box (cs.set k y))::(l++σ.h),σ.nx+1⟩)
    | none=>none
   | none=>none
  | _=>none
 | _=>none
def aO(Γ:aF)(nl:Nat):af->Qb->cq->Prop
 | .skip,Q,σ=>Q .normal σ
 | .ae ss,Q,σ=>match ia Γ 0 ss σ with
  | some (p,σ',_)=>nj p (Q .normal (σ'.fU (16*cU ss)))
  | none=>False
 | .draw ss U,Q,σ=>match ia Γ 0 ss σ with
  | some (p,σ',l)=>match sU l U with
   | true=>nj p (Q .normal (σ'.fU (16*cU ss)))
   | false=>False
  | none=>False
 | .seq x y,Q,σ=>aO Γ nl x (aY (aO Γ nl y Q) Q) σ
 | .cond c x y,Q,σ=>match c.ev σ.T with
  | .c .bool t=>(t=true->aO Γ nl x Q σ)/\(t=false->aO Γ nl y Q σ)
  | _=>False
 | .block id x,Q,σ=>aO Γ nl x (a7 id Q) σ
 | .loop L x,Q,σ=>zX (λR s=>aO Γ nl x (aY (λs'=>R (gc nl L s')) Q) s) (gc nl L σ)
 | .exit id,Q,σ=>Q (.exit id) σ
 | .ret,Q,σ=>Q .ret σ
 | .wk L x,Q,σ=>aO Γ nl x Q (gc nl L σ)
 | .cv s k x,Q,σ=>match FQ s k σ with
  | some r=>r.1/\aO Γ nl x Q r.2
  | none=>False
theorem zZ{p:Option Prop}{k:Prop}:nj p k↔holds p/\k:=by cases p <;> simp[nj,holds]
theorem J0{Γ:aF}{nl:Nat}:∀(c:af){Q Q':Qb}{σ:cq},(∀ e s,Q e s->Q' e s)->aO Γ nl c Q σ->aO Γ nl c Q' σ
 | .skip,Q,Q',σ,h,hc=>h _ _ hc
 | .ae ss,Q,Q',σ,h,hc=>by
  simp only[aO]at hc ⊢
  split at hc
  ·rw[zZ]at hc ⊢;exact⟨hc.1,h _ _ hc.2⟩
  ·exact hc
 | .draw ss U,Q,Q',σ,h,hc=>by
  simp only[aO]at hc ⊢
  split at hc
  ·split at hc
   ·rw[zZ]at hc ⊢;exact⟨hc.1,h _ _ hc.2⟩
   ·exact hc
  ·exact hc
 | .seq x y,Q,Q',σ,h,hc=>by
  simp only[aO]at hc ⊢;refine J0 x (λe s hq=>?_) hc
  cases e with
  | normal=>exact J0 y h hq
  | exit id=>exact h _ _ hq
  | ret=>exact h _ _ hq
 | .cond c x y,Q,Q',σ,h,hc=>by
  simp only[aO]at hc ⊢
  split at hc
  ·exact⟨λe=>J0 x h (hc.1 e),λe=>J0 y h (hc.2 e)⟩
  ·exact hc
 | .block id x,Q,Q',σ,h,hc=>by
  simp only[aO]at hc ⊢;refine J0 x (λe s hq=>?_) hc
  cases e with
  | normal=>exact h _ _ hq
  | exit b7 =>
   simp only[a7]at hq ⊢
   cases hb:Nat.beq b7 id with
   | true=>rw[hb]at hq;exact h _ _ hq
   | false=>rw[hb]at hq;exact h _ _ hq
  | ret=>exact h _ _ hq
 | .loop L x,Q,Q',σ,h,hc=>by
  simp only[aO]at hc ⊢;intro J hJ;refine hc J (λs hs=>hJ s (J0 x (λe s hq=>?_) hs))
  cases e with
  | normal=>exact hq
  | exit id=>exact h _ _ hq
  | ret=>exact h _ _ hq
 | .exit id,Q,Q',σ,h,hc=>h _ _ hc
 | .ret,Q,Q',σ,h,hc=>h _ _ hc
 | .wk L x,Q,Q',σ,h,hc=>by
  simp only[aO]at hc ⊢;exact J0 x h hc
 | .cv s k x,Q,Q',σ,h,hc=>by
  simp only[aO]at hc ⊢
  split at hc
  ·exact⟨hc.1,J0 x h hc.2⟩
  ·exact hc
theorem QMc{Γ:aF}{nl:Nat}{L:List (Nat × Md)}{x:af}{Q:Qb}{s:cq}
  (h:aO Γ nl x (aY (λs'=>zX (λR s=>aO Γ nl x (aY (λs'=>R (gc nl L s')) Q) s) (gc nl L s')) Q) s) :
  zX (λR s=>aO Γ nl x (aY (λs'=>R (gc nl L s')) Q) s) s:=by
 intro J hJ;refine hJ s (J0 x (λe s hq=>?_) h)
 cases e with
 | normal=>exact hq J hJ
 | exit id=>exact hq
 | ret=>exact hq
mutual
theorem QMH(g:Option (Nat × Bool)):∀(x:bA)(i:Nat),(x.er g i).length=x.len
 | .op d o,i=>rfl
 | .bt s w ss d x,i=>by simp[bA.er,bA.len,wX (some (s,w)) ss i]
 | .gw s w ss d2 o d x,i=>by simp[bA.er,bA.len,wX (some (s,w)) ss i]
theorem wX(g:Option (Nat × Bool)):∀(ss:List bA)(i:Nat),(ik g i ss).length=cU ss
 | [],i=>rfl
 | x::xs,i=>by simp[ik,cU,QMH g x i,wX g xs (i+x.len)]
end
theorem QJx{P:Program}{N:Nat}{c:Code}{x y:eB}(h:comp P N c=some (.seq x y)):∃ c1 c2,c = .seq c1 c2/\comp P N c1=some x/\comp P N c2=some y:=by
 cases c with
 | seq c1 c2 =>
  simp only[comp]at h
  split at h
  ·rename_i h1 h2;cases h;exact⟨c1,c2,rfl,h1,h2⟩
  ·cases h
 | region id ops draw =>
  simp only[comp]at h
  split at h
  ·split at h
   ·split at h <;> cases h
   ·cases h
  ·cases h
 | cond a b c=>simp only[comp]at h;split at h <;> cases h
 | block id c=>simp only[comp,Option.map_eq_some_iff]at h;obtain⟨_,_,h⟩:=h;cases h
 | loop c=>simp only[comp,Option.map_eq_some_iff]at h;obtain⟨_,_,h⟩:=h;cases h
 | _=>simp[comp]at h
theorem QUJ{P:Program}{N:Nat}{c:Code}{b:aX}{x y:eB}(h:comp P N c=some (.cond b x y)):∃ b0 c1 c2,c = .cond b0 c1 c2/\cO P 0 b0=some b/\comp P N c1=some x/\comp P N c2=some y:=by
 cases c with
 | cond b0 c1 c2 =>
  simp only[comp]at h
  split at h
  ·rename_i h0 h1 h2;cases h;exact⟨b0,c1,c2,rfl,h0,h1,h2⟩
  ·cases h
 | region id ops draw =>
  simp only[comp]at h
  split at h
  ·split at h
   ·split at h <;> cases h
   ·cases h
  ·cases h
 | seq a b=>simp only[comp]at h;split at h <;> cases h
 | block id c=>simp only[comp,Option.map_eq_some_iff]at h;obtain⟨_,_,h⟩:=h;cases h
 | loop c=>simp only[comp,Option.map_eq_some_iff]at h;obtain⟨_,_,h⟩:=h;cases h
 | _=>simp[comp]at h
theorem QFv{P:Program}{N:Nat}{c:Code}{id:Nat}{x:eB}(h:comp P N c=some (.block id x)):∃ c1,c = .block id c1/\comp P N c1=some x:=by
 cases c with
 | block b7 c1 =>
  simp only[comp,Option.map_eq_some_iff]at h;obtain⟨_,h1,h⟩:=h
  cases h;exact⟨c1,rfl,h1⟩
 | region id ops draw =>
  simp only[comp]at h
  split at h
  ·split at h
   ·split at h <;> cases h
   ·cases h
  ·cases h
 | seq a b=>simp only[comp]at h;split at h <;> cases h
 | cond a b c=>simp only[comp]at h;split at h <;> cases h
 | loop c=>simp only[comp,Option.map_eq_some_iff]at h;obtain⟨_,_,h⟩:=h;cases h
 | _=>simp[comp]at h
theorem QJD{P:Program}{N:Nat}{c:Code}{x:eB}(h:comp P N c=some (.loop x)):∃ c1,c = .loop c1/\comp P N c1=some x:=by
 cases c with
 | loop c1 =>
  simp only[comp,Option.map_eq_some_iff]at h;obtain⟨_,h1,h⟩:=h
  cases h;exact⟨c1,rfl,h1⟩
 | region id ops draw =>
  simp only[comp]at h
  split at h
  ·split at h
   ·split at h <;> cases h
   ·cases h
  ·cases h
 | seq a b=>simp only[comp]at h;split at h <;> cases h
 | cond a b c=>simp only[comp]at h;split at h <;> cases h
 | block id c=>simp only[comp,Option.map_eq_some_iff]at h;obtain⟨_,_,h⟩:=h;cases h
 | _=>simp[comp]at h
def QMq(C:Ctx)(Qa:Qb)(Q:Exit->Act->World->Prop):Prop:=∀ e σ a w,Qa e σ->eZ C σ.aA a w->Q e.up a w
theorem QLW{C:Ctx}{U:Nat->Prop}{σ:cq}{a:Act}{w:World}{ι:Io}(S:Sat C U σ.aA a w ι){x:Operand}{x':bD}{ty:TypeId}(hx:cO C.P ty x=some x'.er){b:Bool}(hv:x'.ev σ.T = .c .bool b):a.eval x = .bool b :=
 Rk S hx (by show x'.er.ev (λs=>(σ.T s).aA)=_;rw[Zu,hv];rfl)
section
variable {C:Ctx} {Γ:aF} {ΓA:ez} {nl:Nat}
structure Kept(C:Ctx)(nl:Nat):Prop where
 l:∀ i b,C.L i=some b->i<nl
 o:∀ i o,C.O i=some o->i<nl
 b:∀ i x cs,C.O i=some x->x.B≠.box cs
theorem Aa{σ:cq}{a:Act}{w:World}{L:List (Nat × Md)}(hL:Kept C nl)(S:eZ C σ.aA a w):eZ C (gc nl L σ).aA a w:=by
 obtain⟨ι,S⟩:=S;exact QGL S hL.l hL.o hL.b
theorem QLU{ts:List CT}{x:aS ts}{j:Nat}{t:CT}{d:t.den}(h:(aS.cells ts x)[j]? = some (.c t d)):(aV ts x)[j]? = some (enc t d):=by
 have h1:((aS.cells ts x).map TV.aQ)[j]? = some (.c (enc t d)):=by rw[List.getElem?_map,h];rfl
 rw[oN,List.getElem?_map,Option.map_eq_some_iff]at h1;obtain⟨y,h1,h2⟩:=h1
 cases h2;exact h1
theorem Sm{σ:cq}{U:Nat->Prop}{a:Act}{w:World}{ι:Io}{c y:TV}{p:Prop}{l:List (Nat × az)}{v:Value}(hr:zY σ.H σ.nx c=some (p,y,l))(hp:p)(S:Sat C (λi=>σ.nx<=i) σ.aA a w ι)(hv:VR w (Fz C w ι σ.aA.h) ι σ.aA.h v c.aQ) :
  ∃ ι',Sat C (λi=>σ.nx+1<=i) ⟨σ.aA.t,λx=>(dv (l++σ.h) x).aA,σ.nx⟩ a w ι'/\VR w (Fz C w ι' λx=>(dv (l++σ.h) x).aA) ι' (λx=>(dv (l++σ.h) x).aA) v y.aQ/\
   (∀ b,Fz C w ι σ.aA.h b->Fz C w ι' (λx=>(dv (l++σ.h) x).aA) b)/\(∀ x,cY w w ι ι' σ.aA.h (λx=>(dv (l++σ.h) x).aA) x)/\∀ id cs,σ.aA.h id = .box cs->(dv (l++σ.h) id).aA = .box cs:=by
 unfold zY at hr
 split at hr <;> try cases hr
 rename_i b4 l' id g i j
 split at hr <;> try cases hr
 rename_i e jL g0 t es a9
 split at hr <;> try cases hr
 rename_i t1 ts l hg hc;have hg:=Nat.eq_of_beq_eq_true hg;subst hg;have nu:σ.aA.h id = .sl e jL.length (.dp g t []) (es.map (aV jL)):=by show(σ.H id).aA=_;rw[a9,az.bH]
 have di:∃ bk cur e0,ι id=some bk/\w.heap[bk]? = some (.cells cur e0 (0,0))/\cur[ι.o id+i*jL.length+j]? = some v:=by
  simp only[TV.aQ]at hv
  cases hv with
  | fm _ _ _ _ _ q1 q2=>rw[nu]at q2;cases q2
  | b _ _ _ _ _ e' sz m bP q1 q2 q3 q4 =>
   rw[nu]at q2;injection q2 with r1 r2 r3 r4;subst r2;subst r3;exact(q4 rfl).2 i j rfl
 have hx:(es.map (aV jL))[i]? = some (aV jL (gt jL es i)):=by
  rw[List.getElem?_map,List.getElem?_eq_getElem hp];simp[gt,List.getD,List.getElem?_eq_getElem hp]
 have mR:=QLU hc;simp only[enc]at mR;obtain⟨fq,_⟩:=S.fresh σ.nx (Nat.le_refl _);obtain⟨ι',S',kG,_,_,hF,iX⟩:=S.cJ (U':=λi=>σ.nx+1<=i) (n:=σ.nx) nu hx mR (by simp) (Nat.le_refl _) (λi hi=>⟨Nat.le_of_succ_le hi,λh=>by subst h;exact absurd hi (Nat.not_succ_le_self _)⟩) di;have hh:(λx=>(dv ([(id,az.sl e jL (.dp (g+1) t [(i,j)]) es),(σ.nx,.sl 0 (t1::ts) (.dp 0 false []) l)]++σ.h) x).aA) =
   bI (bI σ.aA.h σ.nx (.sl 0 (t1::ts).length (.dp 0 false []) (l.map (aV (t1::ts))))) id (.sl e jL.length (.dp (g+1) t [(i,j)]) (es.map (aV jL))):=by
  funext x
  simp only[List.cons_append,List.nil_append,qR,bI]
  split
  ·rw[az.bH]
  ·split
   ·rw[az.bH]
   ·rfl
 rw[hh];refine⟨ι',S',?_,hF,iX,λb7 cs hb=>?_⟩
 ·simp only[TV.aQ];rw[List.length_map]at kG;exact kG
 ·rw[congrFun hh b7];have h1:b7≠id:=λh=>by subst h;rw[nu]at hb;cases hb
  have h2:b7≠σ.nx:=λh=>by subst h;rw[fq]at hb;cases hb
  rw[QI _ _ _ _ h1,QI _ _ _ _ h2,hb]
theorem Sat.qW{U:Nat->Prop}{σ:St}{a:Act}{w:World}{ι:Io}(S:Sat C U σ a w ι){id:Nat}{cs cs':List AV}(a9:σ.h id = .box cs)(hl:cs'.length=cs.length)
  (hy:∀(b:Nat)(e:TypeId)(bm:Array Value)(k:Nat)(v:Value)(y:AV),ι id=some b->w.heap[b]? = some (.cells bm e (0,0))->bm[k]? = some v->cs'[k]? = some y->VR w (Fz C w ι σ.h) ι σ.h v y) :
  Sat C U ⟨σ.t,bI σ.h id (.box cs'),σ.nx⟩ a w ι:=by
 have bU:∀ i,Rest w w ι ι i:=λi=>⟨rfl,rfl,λ_ _=>rfl,λb p hk=>⟨hk,rfl⟩⟩
 have hF:∀ b,Fz C w ι σ.h b->Fz C w ι (bI σ.h id (.box cs')) b/\w.heap[b]? = w.heap[b]?:=λb ⟨h1,h2,h3,h4⟩=>⟨⟨h1,h2,λi hi=>by
  by_cases h:i=id
  ·subst h;have:=h3 i hi;rw[a9]at this
   cases this
  ·rw[QI _ _ _ _ h];exact h3 i hi,h4⟩,rfl⟩
 have hg:∀ i,cY w w ι ι σ.h (bI σ.h id (.box cs')) i:=λi=>by
  by_cases h:i=id
  ·subst h;unfold cY;right;right;rw[QN,a9];exact⟨rfl,rfl,hl,λ_ _=>rfl,λg h1=>by cases h1⟩
  ·exact(bU i).gD (QI _ _ _ _ h)
 refine S.eh S.dD hF hg (λi fX hx=>?_) (λi=>?_) S.inj (λi b hi=>?_) (λi hi=>?_) (λi b hi=>?_) (λb i p hk=>?_)
 ·by_cases h:i=id
  ·subst h;rw[QN];simp
  ·rw[QI _ _ _ _ h,hx];simp
 ·by_cases h:i=id
  ·subst h;right;rw[QN];have hb:=S.fh i;rw[a9]at hb
   cases hb with
   | box b e bm _ q1 qo q2 q3 q4 q5 =>
    exact .box b e bm _ q1 qo q2 (q3.trans hl.symm) q4 (λk v y hk u9=>(hy b e bm k v y q1 q2 hk u9).mono hF hg)
  ·exact .inl ⟨QI _ _ _ _ h,bU i⟩
 ·obtain⟨h1,h2⟩:=S.eg i b hi;refine⟨h1.imp (λx=>x) λ⟨h3,fX,h4⟩=>⟨h3,?_⟩,h2⟩;by_cases h:i=id
  ·subst h;rw[QN];exact⟨_,rfl⟩
  ·rw[QI _ _ _ _ h];exact⟨fX,h4⟩
 ·obtain⟨h1,h2⟩:=S.fresh i hi;have:i≠id:=λe=>by subst e;rw[a9]at h1;cases h1
  rw[QI _ _ _ _ this];exact⟨h1,h2⟩
 ·by_cases h:i=id
  ·subst h;rw[QN];simp
  ·rw[QI _ _ _ _ h];exact S.live i b hi
 ·have L:=S.df b i p hk;refine⟨L.pn,?_,L.fr,L.lt,L.ne⟩;obtain⟨e,sz,g,t,H,es,hd⟩:=L.dp;have:i≠id:=λe=>by subst e;rw[a9]at hd;cases hd
  rw[QI _ _ _ _ this];exact⟨e,sz,g,t,H,es,hd⟩
theorem QPl{σ:cq}{a:Act}{w:World}{s k:Nat}{r:Prop × cq}(hr:FQ s k σ=some r)(hp:r.1)(S:eZ C σ.aA a w):eZ C r.2.aA a w:=by
 obtain⟨ι,S⟩:=S;unfold FQ at hr
 split at hr
 ·rename_i cs hs
  split at hr <;> try cases hr
  rename_i c hk
  split at hr <;> try cases hr
  rename_i p y l hc;have hp:p:=hp;have hv:=S.bm s;have hsA:σ.aA.t s = .a (cs.map TV.aQ):=by show(σ.T s).aA=_;rw[hs];rfl
  rw[hsA]at hv;generalize gN:a.tmps.getD s undef=val at hv
  cases hv with
  | a vs _ hl h1 hv =>
   have aW:k<cs.length:=(List.getElem?_eq_some_iff.1 hk).1;have FR:k<vs.size:=by rw[hl,List.length_map];exact aW
   have pZ:vs[k]? = some vs[k]:=by simp[FR]
   have hb:=hv k vs[k] c.aQ pZ (by rw[List.getElem?_map,hk];rfl);obtain⟨ι',S',kG,hF,iX,_⟩:=Sm (U:=λ_=>True) hc hp S hb;refine⟨ι',S'.dD,λs'=>?_,S'.size,S'.defers,S'.fh,S'.inj,S'.eg,S'.fresh,S'.live,S'.b8,S'.hand,S'.df⟩;show VR _ _ _ _ _ (cG ((s,.a (cs.set k y))::σ.t) s').aA;rw[Ja];by_cases Sn:s'=s
   ·subst Sn;rw[QN,gN];refine .a vs _ (by simp only[List.length_map,List.length_set];simpa using hl) h1 (λk' v z ey hz=>?_);rw[List.getElem?_map,List.getElem?_set]at hz;by_cases fj:k=k'
    ·subst fj;rw[if_pos rfl,if_pos aW]at hz;rw[pZ]at ey
     cases ey;cases hz;exact kG
    ·rw[if_neg fj,<- List.getElem?_map]at hz;exact(hv k' v z ey hz).mono (λb hb=>⟨hF b hb,rfl⟩) iX
   ·rw[QI _ _ _ _ Sn];exact S'.bm s'
 ·rename_i j7 hs
  split at hr <;> try cases hr
  rename_i cs hb
  split at hr <;> try cases hr
  rename_i c hk
  split at hr <;> try cases hr
  rename_i p y l hc;have hp:p:=hp;have FT:σ.aA.h j7 = .box (cs.map TV.aQ):=by show(σ.H j7).aA=_;rw[hb];rfl
  have aW:k<cs.length:=(List.getElem?_eq_some_iff.1 hk).1;have hB:=S.fh j7;rw[FT]at hB
  cases hB with
  | box b e bm _ q1 qo q2 q3 q4 q5 =>
   have FR:k<bm.size:=by rw[q3,List.length_map];exact aW
   have pZ:bm[k]? = some bm[k]:=by simp[FR]
   have hbv:=q5 k bm[k] c.aQ pZ (by rw[List.getElem?_map,hk];rfl);obtain⟨ι',S',kG,hF,iX,FU⟩:=Sm (U:=λ_=>True) hc hp S hbv;have fw:=FU j7 _ FT;have Ab:=S'.fh j7;have Ab:BR w (Fz C w ι' λx=>(dv (l++σ.h) x).aA) ι' (λx=>(dv (l++σ.h) x).aA) j7 ((dv (l++σ.h) j7).aA):=Ab;rw[fw]at Ab;have S2:=Sat.qW S' (id:=j7) (cs:=cs.map TV.aQ) (cs':=(cs.set k y).map TV.aQ) fw (by simp) (λb' e' So k' v z hi dX qX hz=>by
    cases Ab with
    | box b2 e2 Sp _ r1 ro r2 r3 r4 r5 =>
     rw[r1]at hi;cases hi;rw[r2]at dX;cases dX;rw[List.getElem?_map,List.getElem?_set]at hz;by_cases fj:k=k'
     ·subst fj;rw[if_pos rfl,if_pos aW]at hz
      cases hz;have cQ:v=bm[k]:=by
       rcases iX j7 with g | g | ⟨g1,_,_,_,_⟩
       ·rw[FT]at g;cases g
       ·have g:(dv (l++σ.h) j7).aA = .dead:=g;rw[fw]at g;cases g
       ·rw[r1,q1]at g1
        cases g1;rw[q2]at r2
        cases r2;rw[pZ]at qX;exact(Option.some.inj qX).symm
      rw[cQ];exact kG
     ·rw[if_neg fj,<- List.getElem?_map]at hz;exact r5 k' v z qX hz)
   have FV:(λx=>(dv ((j7,az.box (cs.set k y))::(l++σ.h)) x).aA)=bI (λx=>(dv (l++σ.h) x).aA) j7 (.box ((cs.set k y).map TV.aQ)):=by
    funext x
    simp only[qR,bI]
    split
    ·rfl
    ·rfl
   refine⟨ι',?_⟩;have:(cq.aA ⟨σ.t,(j7,.box (cs.set k y))::(l++σ.h),σ.nx+1⟩)=⟨σ.aA.t,bI (λx=>(dv (l++σ.h) x).aA) j7 (.box ((cs.set k y).map TV.aQ)),σ.nx+1⟩:=by
    rw[<- FV];rfl
   rw[this];exact S2.nx
 ·cases hr
theorem QNo(hm:C.P.follows .mixedOrders=true)(hT:iG Γ ΓA)(hΓ:JS C.P ΓA)(hL:Kept C nl):∀(tc:af)(c:Code)(Qa:Qb)(Q:Exit->Act->World->Prop)(σ:cq)(a:Act)(w:World),comp C.P C.N c=some tc.er->
  aO Γ nl tc Qa σ->eZ C σ.aA a w->QMq C Qa Q->c.wp C.P Q a w:=by
 intro tc
 induction tc with
 | skip =>
  intro c Qa Q σ a w hc h S hQ;refine v7 hm hΓ c .skip (λe τ=>e = .normal/\τ=σ.aA) Q σ.aA a w hc ⟨rfl,rfl⟩ S ?_;rintro e τ a' w' ⟨rfl,rfl⟩ S'
  exact hQ .normal σ a' w' h S'
 | ae ss =>
  intro c Qa Q σ a w hc h S hQ;simp only[aO]at h
  split at h
  rotate_left
  ·exact h.elim
  rename_i p σ' l hr;rw[zZ]at h;obtain⟨l',h1,_⟩:=wP hT ss hr h.1;have hlen:(ik none 0 ss).length=cU ss:=wX none ss 0;refine v7 hm hΓ c _ (λe τ=>e = .normal/\τ=(σ'.fU (16*cU ss)).aA) Q σ.aA a w hc ?_ S ?_
  ·show gG ΓA (ik none 0 ss) (λs=>l9.normal=l9.normal/\s.fU (16*(ik none 0 ss).length)=_) σ.aA;exact Sc _ h1 ⟨rfl,by rw[hlen];rfl⟩
  ·rintro e τ a' w' ⟨rfl,rfl⟩ S'
   exact hQ .normal _ a' w' h.2 S'
 | draw ss U =>
  intro c Qa Q σ a w hc h S hQ;simp only[aO]at h
  split at h
  rotate_left
  ·exact h.elim
  rename_i p σ' l hr
  split at h
  rotate_left
  ·exact h.elim
  rename_i fk;rw[zZ]at h;obtain⟨l',h1,h2⟩:=wP hT ss hr h.1;have hlen:(ik none 0 ss).length=cU ss:=wX none ss 0;refine v7 hm hΓ c _ (λe τ=>e = .normal/\τ=(σ'.fU (16*cU ss)).aA) Q σ.aA a w hc ?_ S ?_
  ·simp only[af.er,km,h1];exact⟨QQl h2 fk,trivial,by rw[hlen];rfl⟩
  ·rintro e τ a' w' ⟨rfl,rfl⟩ S'
   exact hQ .normal _ a' w' h.2 S'
 | seq x y v8 qC =>
  intro c Qa Q σ a w hc h S hQ;simp only[af.er]at hc;obtain⟨c1,c2,rfl,h1,h2⟩:=QJx hc;simp only[aO]at h;refine wp_seq (v8 _ _ _ σ a w h1 h S ?_);intro e σ' a' w' he S'
  cases e with
  | normal=>exact qC _ _ _ σ' a' w' h2 he S' hQ
  | exit id=>exact hQ _ _ _ _ he S'
  | ret=>exact hQ _ _ _ _ he S'
 | cond b x y v8 qC =>
  intro c Qa Q σ a w hc h S hQ;simp only[af.er]at hc;obtain⟨b0,c1,c2,rfl,h0,h1,h2⟩:=QUJ hc;simp only[aO]at h
  split at h
  rotate_left
  ·exact h.elim
  rename_i t ht;obtain⟨ι,S0⟩:=S;exact wp_cond_split (QLW S0 h0 ht) (λe=>v8 _ _ _ σ a w h1 (h.1 e) ⟨ι,S0⟩ hQ) (λe=>qC _ _ _ σ a w h2 (h.2 e) ⟨ι,S0⟩ hQ)
 | block id x ih =>
  intro c Qa Q σ a w hc h S hQ;simp only[af.er]at hc;obtain⟨c1,rfl,h1⟩:=QFv hc;simp only[aO]at h;refine wp_block (ih _ _ _ σ a w h1 h S ?_);intro e σ' a' w' he S'
  cases e with
  | normal=>exact hQ _ _ _ _ he S'
  | ret=>exact hQ _ _ _ _ he S'
  | exit b7 =>
   simp only[a7]at he;show Exit.inBlock id Q (.exit b7) a' w';simp only[Exit.inBlock]
   split
   ·rename_i heq;subst heq;rw[show Nat.beq b7 b7=true by simp]at he;exact hQ .normal _ _ _ he S'
   ·rename_i heq;rw[FF heq]at he;exact hQ (.exit b7) _ _ _ he S'
 | loop L x ih =>
  intro c Qa Q σ a w hc h S hQ;simp only[af.er]at hc;obtain⟨c1,rfl,h1⟩:=QJD hc;simp only[aO]at h;have key:=h (λs=>∀ a w,eZ C s.aA a w->∀(b:Frame)(k:List Item)(cs:List Frame),∃ e a' w',Q e a' w'/\Arrives C.P (lone (b.at a (.code c1::.inLoop c1::k)) cs w) b k cs e a' w') ?_
  ·intro b k cs;obtain⟨e,a',w',hq,jd⟩:=key a w (Aa hL S) b k cs;exact⟨e,a',w',hq,.of_steps (.one step_loop) jd⟩
  ·intro s hs a w S b k cs;have hb:=ih c1 _ (Exit.then (λa w=>∀(b:Frame)(k:List Item)(cs:List Frame),∃ e a' w',Q e a' w'/\Arrives C.P (lone (b.at a (.code c1::.inLoop c1::k)) cs w) b k cs e a' w') Q) s a w h1 hs S ?_
   ·obtain⟨e,a₁,w₁,hq,jd⟩:=hb b (.inLoop c1::k) cs
    cases e with
    | normal =>
     obtain⟨e₂,a₂,w₂,hq₂,harr₂⟩:=hq b k cs;exact⟨e₂,a₂,w₂,hq₂,.of_steps (Steps.trans jd (.one step_inLoop)) harr₂⟩
    | exit id=>exact⟨_,a₁,w₁,hq,.pass (x:=.inLoop c1) rfl (λ_ _=>.inl (by simp)) jd⟩
    | goto l=>exact⟨_,a₁,w₁,hq,.pass (x:=.inLoop c1) rfl (λ_ _=>.inl (by simp)) jd⟩
    | ret=>exact⟨_,a₁,w₁,hq,.pass (x:=.inLoop c1) rfl (λ_ _=>.inl (by simp)) jd⟩
    | panic ch=>exact⟨_,a₁,w₁,hq,.pass (x:=.inLoop c1) rfl (λ_ _=>.inl (by simp)) jd⟩
    | outgrown=>exact⟨_,a₁,w₁,hq,.pass (x:=.inLoop c1) rfl (λ_ _=>.inl (by simp)) jd⟩
   ·intro e σ' a' w' he S'
    cases e with
    | normal=>exact he a' w' (Aa hL S')
    | exit id=>exact hQ _ _ _ _ he S'
    | ret=>exact hQ _ _ _ _ he S'
 | exit id =>
  intro c Qa Q σ a w hc h S hQ;refine v7 hm hΓ c (.exit id) (λe τ=>e = .exit id/\τ=σ.aA) Q σ.aA a w hc ⟨rfl,rfl⟩ S ?_;rintro e τ a' w' ⟨rfl,rfl⟩ S'
  exact hQ (.exit id) σ a' w' h S'
 | ret =>
  intro c Qa Q σ a w hc h S hQ;refine v7 hm hΓ c .ret (λe τ=>e = .ret/\τ=σ.aA) Q σ.aA a w hc ⟨rfl,rfl⟩ S ?_;rintro e τ a' w' ⟨rfl,rfl⟩ S'
  exact hQ .ret σ a' w' h S'
 | wk L x ih =>
  intro c Qa Q σ a w hc h S hQ;exact ih c Qa Q _ a w hc h (Aa hL S) hQ
 | cv s k x ih =>
  intro c Qa Q σ a w hc h S hQ;simp only[aO]at h
  split at h
  ·rename_i r hr;exact ih c Qa Q _ a w hc h.2 (QPl hr h.1 S) hQ
  ·exact h.elim
end
end Go.Proofs.YtdplaepmjogjjaaGreat.Am
namespace Go.Proofs.YtdplaepmjogjjaaGreat.Am
open Go Go.RowKit
mutual
theorem Ac:∀(t:CT)(x y:t.den),enc t x=enc t y->x=y
 | .int k,x,y,h=>by injection h with h;injection h
 | .bool,x,y,h=>by injection h with h;injection h
 | .str,x,y,h=>by injection h with h;injection h
 | .dF,x,y,h=>rfl
 | .sl ts,x,y,h=>by
  rw[enc,enc]at h
  injection h with _ h
  exact wY (λa b=>wZ ts a b) x y h
theorem wZ:∀(ts:List CT)(x y:aS ts),aV ts x=aV ts y->x=y
 | [],x,y,_=>rfl
 | t::ts,x,y,h=>by
  rw[aV,aV]at h
  injection h with h1 h2
  have h1:=Ac t _ _ h1
  have h2:=wZ ts _ _ h2
  cases ts with
  | nil=>exact h1
  | cons u us=>exact Prod.ext h1 h2
theorem wY{α β:Type}{f:α->β}(hf:∀ a b,f a=f b->a=b):∀(x y:List α),x.map f=y.map f->x=y
 | [],[],_=>rfl
 | a::x,b::y,h=>by
  rw[List.map_cons,List.map_cons]at h
  injection h with h1 h2
  rw[hf a b h1,wY hf x y h2]
 | [],b::y,h=>by simp at h
 | a::x,[],h=>by simp at h
end
theorem FW:∀ {ts:List CT} {xs ys:List TV},oJ xs=some ts->oJ ys=some ts->xs.map TV.aQ=ys.map TV.aQ->xs=ys
 | ts,[],ys,h1,h2,h=>by
  cases ys with
  | nil=>rfl
  | cons y ys=>simp at h
 | ts,x::xs,ys,h1,h2,h=>by
  cases ys with
  | nil=>simp at h
  | cons y ys =>
   cases x with
   | c t x =>
    cases y with
    | c t' y =>
     simp only[oJ]at h1 h2
     split at h1
     rotate_left
     ·cases h1
     rename_i t1 e1
     split at h2
     rotate_left
     ·cases h2
     rename_i t2 e2
     cases h1
     cases h2;rw[List.map_cons,List.map_cons]at h;injection h with h3 h4;rw[FW e1 e2 h4];simp only[TV.aQ]at h3;injection h3 with h3;rw[Ac t x y h3]
    | _=>simp[oJ]at h2
   | _=>simp[oJ]at h1
theorem Ad{m:Mo}(h:kB m=true):m=dw:=by
 unfold kB at h
 split at h
 ·rfl
 ·cases h
theorem Sq{e:TypeId}{ts:List CT}{x:TV}(hx:(Sh.o e ts).fits x=true):∃ es,x = .ow e ts .ow es:=by
 cases x with
 | ow e' b4 m es =>
  cases m with
  | ow =>
   simp only[Sh.fits,Bool.and_eq_true]at hx;obtain rfl:=Nat.eq_of_beq_eq_true hx.1;obtain rfl:=CT.bS _ _ hx.2;exact⟨es,rfl⟩
  | _=>simp[Sh.fits]at hx
 | _=>simp[Sh.fits]at hx
theorem Sr{ts:List CT}{x:TV}(hx:(Sh.d ts).fits x=true):∃ es,x = .ow 0 ts dw es:=by
 cases x with
 | ow e' b4 m es =>
  simp only[Sh.fits,Bool.and_eq_true]at hx;obtain rfl:=Nat.eq_of_beq_eq_true hx.1.1;obtain rfl:=CT.bS _ _ hx.1.2;obtain rfl:=Ad hx.2;exact⟨es,rfl⟩
 | _=>simp[Sh.fits]at hx
theorem Ss{t:CT}{ts:List CT}{x:TV}{xs:List TV}(h:JE (t::ts) (x::xs)=true):((∃ d,x = .c t d)\/∃ us es,t = .sl us/\x = .ow 0 us dw es)/\JE ts xs=true:=by
 simp only[JE,Bool.and_eq_true]at h;refine⟨?_,h.2⟩;have h:=h.1
 cases x with
 | c t' d =>
  simp only[Bool.and_eq_true]at h;obtain rfl:=CT.beq_eq _ _ h.1;exact .inl ⟨d,rfl⟩
 | ow e' us m es =>
  simp only[Bool.and_eq_true]at h;obtain rfl:=Nat.eq_of_beq_eq_true h.1.1;have:=CT.beq_eq _ _ h.1.2;obtain rfl:=Ad h.2;exact .inr ⟨us,es,this.symm,rfl⟩
 | _=>cases h
theorem Su:∀ {ts:List CT} {xs ys:List TV},JE ts xs=true->JE ts ys=true->xs.map TV.aQ=ys.map TV.aQ->xs=ys
 | [],[],[],_,_,_=>rfl
 | [],_::_,_,h,_,_=>by simp[JE]at h
 | [],[],_::_,_,h,_=>by simp[JE]at h
 | _::_,[],_,h,_,_=>by simp[JE]at h
 | _::_,_::_,[],_,h,_=>by simp[JE]at h
 | t::ts,x::xs,y::ys,h1,h2,h=>by
  obtain⟨a1,b1⟩:=Ss h1;obtain⟨a2,b2⟩:=Ss h2;rw[List.map_cons,List.map_cons]at h;injection h with h3 h4;rw[Su b1 b2 h4];congr 1
  rcases a1 with⟨d,rfl⟩ | ⟨us,es,rfl,rfl⟩
  ·rcases a2 with⟨d',rfl⟩ | ⟨us,es,rfl,rfl⟩
   ·simp only[TV.aQ]at h3;injection h3 with h3;rw[Ac t d d' h3]
   ·cases h3
  ·rcases a2 with⟨d',rfl⟩ | ⟨us',bP,q,rfl⟩
   ·cases h3
   ·injection q with q;subst q;simp only[TV.aQ]at h3;injection h3 with _ _ _ h3;rw[wY (λa b=>wZ us a b) _ _ h3]
theorem QG7{s:Sh}{x y:TV}(hx:s.fits x=true)(hy:s.fits y=true)(h:x.aA=y.aA):x=y:=by
 cases s with
 | c t =>
  cases x with
  | c t1 x =>
   cases y with
   | c t2 y =>
    simp only[Sh.fits]at hx hy;have h1:=CT.beq_eq _ _ hx;have h2:=CT.beq_eq _ _ hy;subst h1;subst h2;simp only[TV.aA,TV.ck,TV.aQ]at h;injection h with h;rw[Ac _ x y h]
   | _=>simp[Sh.fits]at hy
  | _=>simp[Sh.fits]at hx
 | o e ts =>
  obtain⟨xs,rfl⟩:=Sq hx;obtain⟨ys,rfl⟩:=Sq hy;simp only[TV.aA,TV.ck,TV.aQ]at h;injection h with _ _ _ h;rw[wY (λa b=>wZ ts a b) _ _ h]
 | d ts =>
  obtain⟨xs,rfl⟩:=Sr hx;obtain⟨ys,rfl⟩:=Sr hy;simp only[TV.aA,TV.ck,TV.aQ]at h;injection h with _ _ _ h;rw[wY (λa b=>wZ ts a b) _ _ h]
 | s ts =>
  cases x with
  | a xs =>
   cases y with
   | a ys =>
    simp only[Sh.fits]at hx hy;simp only[TV.aA,TV.ck]at h;injection h with h;rw[Su hx hy h]
   | _=>simp[Sh.fits]at hy
  | _=>simp[Sh.fits]at hx
 | a ts =>
  cases x with
  | a xs =>
   cases y with
   | a ys =>
    simp only[Sh.fits]at hx hy
    split at hx
    rotate_left
    ·cases hx
    rename_i t1 e1
    split at hy
    rotate_left
    ·cases hy
    rename_i t2 e2;have h1:=CT.bS _ _ hx;have h2:=CT.bS _ _ hy;subst h1;subst h2;simp only[TV.aA,TV.ck]at h;injection h with h;rw[FW e1 e2 h]
   | _=>simp[Sh.fits]at hy
  | _=>simp[Sh.fits]at hx
 | b ts =>
  cases x with
  | bx xs =>
   cases y with
   | bx ys =>
    simp only[Sh.fits]at hx hy
    split at hx
    rotate_left
    ·cases hx
    rename_i t1 e1
    split at hy
    rotate_left
    ·cases hy
    rename_i t2 e2;have h1:=CT.bS _ _ hx;have h2:=CT.bS _ _ hy;subst h1;subst h2;simp only[TV.aA]at h;injection h with h;rw[FW e1 e2 h]
   | _=>simp[Sh.fits]at hy
  | _=>simp[Sh.fits]at hx
theorem Sv:∀ {ss:List Sh} {xs ys:List TV},ZW ss xs=true->ZW ss ys=true->xs.map TV.aA=ys.map TV.aA->xs=ys
 | [],[],[],_,_,_=>rfl
 | [],_::_,_,h,_,_=>by simp[ZW]at h
 | [],[],_::_,_,h,_=>by simp[ZW]at h
 | _::_,[],_,h,_,_=>by simp[ZW]at h
 | _::_,_::_,[],_,h,_=>by simp[ZW]at h
 | s::ss,x::xs,y::ys,h1,h2,h=>by
  simp only[ZW,Bool.and_eq_true]at h1 h2;rw[List.map_cons,List.map_cons]at h;injection h with h3 h4;rw[QG7 h1.1 h2.1 h3,Sv h1.2 h2.2 h4]
def aK(P:Program)(f:FuncId)(xs:List TV)(r:aB):Prop:=qi P f (xs.map TV.aA) r.aA
def Qf(P:Program)(row:aI):Prop:=∀ vs pre r,ZW row.sg vs=true->row.fn vs=some (pre,r)->holds pre->aK P row.f vs r
def gQ(P:Program)(Γ:List aI):Prop:=∀ row,row∈Γ->Qf P row
def w1(P:Program)(Γ:aF):Prop:=gQ P Γ.rows
theorem gQ.nil{P:Program}:gQ P []:=λ_ h=>by cases h
theorem gQ.cons{P:Program}{row:aI}{Γ:List aI}(h:Qf P row)(hs:gQ P Γ):gQ P (row::Γ):=λr hr=>by
 rcases List.mem_cons.1 hr with rfl | hr
 ·exact h
 ·exact hs r hr
theorem Sw:∀ {Γ:List aI} {f:FuncId} {row:aI},Jm Γ f=some row->row∈Γ/\row.f=f
 | [],f,row,h=>by simp[Jm]at h
 | r::rs,f,row,h=>by
  simp only[Jm]at h
  cases hb:Nat.beq r.f f with
  | true =>
   rw[hb]at h;simp only[cond_true,Option.some.injEq]at h;subst h;exact⟨List.mem_cons_self,Nat.eq_of_beq_eq_true hb⟩
  | false =>
   rw[hb]at h;have:=Sw (Γ:=rs) h;exact⟨List.mem_cons_of_mem _ this.1,this.2⟩
open Classical in
noncomputable def je(Γ:aF):ez:=⟨λf=>match Jm Γ.rows f with | some row=>gq row.sg | none=>[],λf args =>
 if h:∃ r:aB,∃ row vs pre,Jm Γ.rows f=some row/\ZW row.sg vs=true/\row.fn vs=some (pre,r)/\holds pre/\vs.map TV.aA=args then some h.choose.aA else none,Γ.dp⟩
theorem QH6(Γ:aF):iG Γ (je Γ):=by
 refine⟨λf row h=>by simp only[je,h],?_,rfl⟩;intro f row vs pre r h1 h2 h3 h4;have hex:∃ r:aB,∃ row tr pre,Jm Γ.rows f=some row/\ZW row.sg tr=true/\row.fn tr=some (pre,r)/\holds pre/\tr.map TV.aA=vs.map TV.aA:=⟨r,row,vs,pre,h1,h2,h3,h4,rfl⟩
 simp only[je];rw[dif_pos hex];obtain⟨akK,tr,akL,g1,g2,g3,g4,g5⟩:=hex.choose_spec;rw[h1]at g1
 cases g1;have:=Sv g2 h2 g5;subst this;rw[h3]at g3;injection g3 with g3;injection g3 with _ g3;rw[<- g3]
theorem QPs{P:Program}{Γ:aF}(h:w1 P Γ):JS P (je Γ):=by
 intro f args r hr;simp only[je]at hr
 split at hr
 rotate_left
 ·cases hr
 rename_i hex
 cases hr;obtain⟨row,vs,pre,g1,g2,g3,g4,g5⟩:=hex.choose_spec;obtain⟨m1,m2⟩:=Sw g1;have:=h row m1 vs pre _ g2 g3 g4;unfold aK at this;rw[m2,g5]at this;exact this
def qY:List TV->Nat->List TV
 | [],_=>[]
 | .ow _ ts _ es::r,m=>.r ts m 0 es.length::qY r (m+1)
 | x::r,m=>x::qY r m
def tJ:List TV->Nat->List (Nat × az)
 | [],_=>[]
 | .ow e ts m es::r,k=>(k,.sl e ts m es)::tJ r (k+1)
 | _::r,k=>tJ r k
def jf:List TV->Nat
 | []=>0
 | .ow _ _ _ _::r=>jf r+1
 | _::r=>jf r
def J3:List TV->Nat->Nat->Nat->List (Nat × TV)
 | [],_,_,_=>[]
 | .bx _::r,s,k,m=>(s,.p k 0 0)::J3 r (s+1) (k+1) m
 | .ow _ ts _ es::r,s,k,m=>(s,.r ts m 0 es.length)::J3 r (s+1) k (m+1)
 | .a cs::r,s,k,m=>(s,.a (qY cs m))::J3 r (s+1) k (m+jf cs)
 | x::r,s,k,m=>(s,x)::J3 r (s+1) k m
def qZ:List TV->Nat->List (Nat × az)
 | [],_=>[]
 | .bx cs::r,k=>(k,.box cs)::qZ r (k+1)
 | _::r,k=>qZ r k
def nv:List TV->Nat->List (Nat × az)
 | [],_=>[]
 | .ow e ts m es::r,k=>(k,.sl e ts m es)::nv r (k+1)
 | .a cs::r,k=>tJ cs k++nv r (k+jf cs)
 | _::r,k=>nv r k
def d9:List TV->Nat
 | []=>0
 | .bx _::r=>d9 r+1
 | _::r=>d9 r
def eE:List TV->Nat
 | []=>0
 | .ow _ _ _ _::r=>eE r+1
 | .a cs::r=>eE r+jf cs
 | _::r=>eE r
def q9(xs:List TV):cq:=⟨J3 xs 0 0 (d9 xs),qZ xs 0++nv xs (d9 xs),d9 xs+eE xs⟩
theorem w3:∀(cs:List TV),jf cs=(Z1 (cs.map TV.aQ)).length
 | []=>rfl
 | x::cs=>by cases x <;> simp only[jf,List.map_cons,TV.aQ,Z1,List.length_cons,w3 cs]
theorem FX:∀(cs:List TV)(m:Nat),(qY cs m).map TV.aQ=fH (cs.map TV.aQ) m
 | [],_=>rfl
 | x::cs,m=>by
  cases x with
  | ow e ts mm es=>simp only[qY,List.map_cons,TV.aQ,fH,List.length_map,FX cs]
  | _=>simp only[qY,List.map_cons,TV.aQ,fH,FX cs]
theorem FY:∀(cs:List TV)(B:List (Nat × az))(k j:Nat),(dv (tJ cs k++B) j).aA=if k<=j then(match(Z1 (cs.map TV.aQ))[j-k]? with | some b=>b | none=>(dv B j).aA) else(dv B j).aA
 | [],B,k,j=>by simp[tJ,Z1]
 | x::cs,B,k,j=>by
  cases x with
  | ow e ts m es =>
   simp only[tJ,List.cons_append,qR,bI,List.map_cons,TV.aQ,Z1];by_cases h:j=k
   ·subst h;simp[az.aA]
   ·rw[if_neg h,FY cs B (k+1) j];by_cases h2:k<=j
    ·rw[if_pos h2,if_pos (by omega),show j-k=(j-(k+1))+1 by omega];simp
    ·rw[if_neg h2,if_neg (by omega)]
  | _=>exact FY cs B k j
def TV.ng:TV->Bool
 | .g _ _=>false
 | _=>true
theorem Sx:∀(xs:List TV)(s k m j:Nat),xs.all TV.ng=true->(cG (J3 xs s k m) j).aA=if s<=j then((dJ (xs.map TV.aA) k m)[j-s]?).getD .u else .u
 | [],s,k,m,j,_=>by simp[J3,cG,dJ,TV.aA,TV.ck,TV.aQ]
 | x::xs,s,k,m,j,cH=>by
  rw[List.all_cons,Bool.and_eq_true]at cH;have key:∀(y:TV)(k' m':Nat)(z:AV),y.aA=z->(cG ((s,y)::J3 xs (s+1) k' m') j).aA=if s<=j then((z::dJ (xs.map TV.aA) k' m')[j-s]?).getD .u else .u:=by
   intro y k' m' z hz;rw[Ja,bI];by_cases h:j=s
   ·subst h;simp[hz]
   ·rw[if_neg h,Sx xs (s+1) k' m' j cH.2];by_cases h2:s<=j
    ·rw[if_pos h2,if_pos (by omega),show j-s=(j-(s+1))+1 by omega];simp
    ·rw[if_neg h2,if_neg (by omega)]
  cases x with
  | bx cs=>exact key (.p k 0 0) (k+1) m (.p k 0 0) rfl
  | ow e ts mm es =>
   have:=key (.r ts m 0 es.length) k (m+1) (.r ts.length m 0 (es.map (aV ts)).length) (by simp[TV.aA,TV.ck,TV.aQ]);exact this
  | a cs =>
   have:=key (.a (qY cs m)) k (m+jf cs) (.a (fH (cs.map TV.aQ) m)) (by simp only[TV.aA,TV.ck,FX]);rw[w3]at this;simp only[J3,w3];exact this
  | g b v=>exact absurd cH.1 (by simp[TV.ng])
  | _=>exact key _ k m _ rfl
theorem FZ:∀(xs:List TV)(B:List (Nat × az))(k j:Nat),xs.all TV.ng=true->(dv (qZ xs k++B) j).aA=if k<=j then(match(cK (xs.map TV.aA))[j-k]? with | some cs=>.box cs | none=>(dv B j).aA) else(dv B j).aA
 | [],B,k,j,_=>by simp[qZ,cK]
 | x::xs,B,k,j,cH=>by
  rw[List.all_cons,Bool.and_eq_true]at cH
  cases x with
  | bx cs =>
   simp only[qZ,List.cons_append,qR,bI,List.map_cons,cK,TV.aA];by_cases h:j=k
   ·subst h;simp[az.aA]
   ·rw[if_neg h,FZ xs B (k+1) j cH.2];by_cases h2:k<=j
    ·rw[if_pos h2,if_pos (by omega),show j-k=(j-(k+1))+1 by omega];simp
    ·rw[if_neg h2,if_neg (by omega)]
  | g b v=>exact absurd cH.1 (by simp[TV.ng])
  | _=>exact FZ xs B k j cH.2
theorem Ae:∀(xs:List TV)(k j:Nat),xs.all TV.ng=true->(dv (nv xs k) j).aA=if k<=j then((dB (xs.map TV.aA))[j-k]?).getD .none else .none
 | [],k,j,_=>by simp[nv,dv,dB,az.aA]
 | x::xs,k,j,cH=>by
  rw[List.all_cons,Bool.and_eq_true]at cH
  cases x with
  | ow e ts m es =>
   simp only[nv,qR,bI,List.map_cons,dB,TV.aA,TV.ck,TV.aQ];by_cases h:j=k
   ·subst h;simp[az.aA]
   ·rw[if_neg h,Ae xs (k+1) j cH.2];by_cases h2:k<=j
    ·rw[if_pos h2,if_pos (by omega),show j-k=(j-(k+1))+1 by omega];simp
    ·rw[if_neg h2,if_neg (by omega)]
  | a cs =>
   simp only[nv,List.map_cons,dB,TV.aA,TV.ck];rw[FY,Ae xs _ j cH.2,w3];by_cases h2:k<=j
   ·rw[if_pos h2,if_pos h2,List.getElem?_append];by_cases h3:j-k<(Z1 (cs.map TV.aQ)).length
    ·rw[if_pos h3,List.getElem?_eq_getElem h3];rfl
    ·rw[if_neg h3,List.getElem?_eq_none (by omega),if_pos (by omega),show j-(k+(Z1 (cs.map TV.aQ)).length)=j-k-(Z1 (cs.map TV.aQ)).length by omega]
   ·rw[if_neg h2,if_neg h2,if_neg (by omega)]
  | g b v=>exact absurd cH.1 (by simp[TV.ng])
  | _=>exact Ae xs k j cH.2
theorem w4:∀(xs:List TV),xs.all TV.ng=true->eE xs=(dB (xs.map TV.aA)).length
 | [],_=>rfl
 | x::xs,cH=>by
  rw[List.all_cons,Bool.and_eq_true]at cH
  cases x with
  | ow e ts m es=>simp only[eE,List.map_cons,TV.aA,TV.ck,TV.aQ,dB,List.length_cons,w4 xs cH.2]
  | a cs=>simp only[eE,List.map_cons,TV.aA,TV.ck,dB,List.length_append,w4 xs cH.2,w3];omega
  | g b v=>exact absurd cH.1 (by simp[TV.ng])
  | _=>exact w4 xs cH.2
theorem Af:∀(xs:List TV),xs.all TV.ng=true->d9 xs=(cK (xs.map TV.aA)).length
 | [],_=>rfl
 | x::xs,cH=>by
  rw[List.all_cons,Bool.and_eq_true]at cH
  cases x with
  | bx cs=>simp only[d9,List.map_cons,TV.aA,cK,List.length_cons,Af xs cH.2]
  | g b v=>exact absurd cH.1 (by simp[TV.ng])
  | _=>exact Af xs cH.2
theorem QNq(xs:List TV)(cH:xs.all TV.ng=true):(q9 xs).aA=Jp (xs.map TV.aA):=by
 have hB:=Af xs cH;have hG:=w4 xs cH;unfold q9 cq.aA Jp cq.T cq.H;congr 1
 ·funext s
  rw[Sx xs 0 0 _ s cH,hB];simp
 ·funext i
  show(dv (qZ xs 0++nv xs (d9 xs)) i).aA=_;rw[FZ xs _ 0 i cH,Ae xs _ i cH,hB];simp only[Nat.zero_le,if_true,Nat.sub_zero]
  cases hx:(cK (xs.map TV.aA))[i]? with
  | some cs=>rfl
  | none =>
   have:(cK (xs.map TV.aA)).length<=i:=by rw[List.getElem?_eq_none_iff]at hx;exact hx
   rw[if_pos this]
 ·rw[hB,hG]
def bn.slot:bn->Nat
 | .t s=>s
 | .l s _ _=>s
def nw(σ:cq):bn->Option TV
 | .t s=>some (σ.T s)
 | .l s n agg=>match Zl ⟨[],false⟩ σ.T σ.H 0 (.load (.s s) n agg) with
  | some ⟨none,v,_⟩=>some v
  | _=>none
def w5(σ:cq):List bn->Option (List TV)
 | []=>some []
 | x::xs=>match nw σ x,w5 σ xs with
  | some y,some ys=>some (y::ys)
  | _,_=>none
def ny:List TV->TV
 | [x]=>x
 | xs=>.tp xs
def TV.eU(ids:List Nat):TV->TV
 | .r ts id off len=>bif ids.elem id then .r ts (ids.idxOf id) off len else .u
 | .p id i j=>bif ids.elem id then .p (ids.idxOf id) i j else .u
 | .c t x=>.c t x
 | .n ts=>.n ts
 | .q ts x j=>.q ts x j
 | _=>.u
def TV.i6(ids:List Nat):TV->TV
 | .a cs=>.a (cs.map (TV.eU ids))
 | x=>x.eU ids
def TV.rn(ids:List Nat):TV->TV
 | .tp vs=>.tp (vs.map (TV.i6 ids))
 | x=>x.i6 ids
def az.rn(ids:List Nat):az->az
 | .box cs=>.box (cs.map (TV.eU ids))
 | x=>x
def ra:TV->Bool
 | .c _ _=>true
 | _=>false
def w6(h:Nat->az):Nat->Nat->Option (List (List TV))
 | 0,_=>some []
 | n+1,k=>match h k,w6 h n (k+1) with
  | .box cs,some cC=>bif cs.all ra then some (cs::cC) else none
  | _,_=>none
def TV.dx:TV->Bool
 | .c t _=>t.flat
 | .n _=>true
 | .r ..=>true
 | .p ..=>true
 | .u=>true
 | _=>false
def TV.d5:TV->Bool
 | .a cs=>cs.all TV.dx
 | x=>x.dx
def TV.free:TV->Bool
 | .tp vs=>vs.all TV.d5
 | x=>x.d5
def az.free:az->Bool
 | .none=>true
 | .dead=>true
 | .box cs=>cs.all TV.dx
 | .sl _ ts m _=>(match m with | .dp _ _ _=>true | _=>ts.all CT.flat)
def tK:List Nat->List Nat->List Nat
 | [],acc=>acc
 | x::xs,acc=>bif acc.elem x then tK xs acc else tK xs (acc++[x])
def w7(h:Nat->az):Nat->Nat->Option (List az)
 | 0,_=>some []
 | n+1,k=>match h k,w7 h n (k+1) with
  | .sl e ts m es,some cC=>some (.sl e ts m es::cC)
  | .dead,some cC=>some (.dead::cC)
  | _,_=>none
def F1(nb no:Nat)(rs:List (bn × Md))(σ0:cq):Option aB :=
 let σ:=gc (nb+no) (rs.map λx=>(x.1.slot,x.2)) σ0
 match w5 σ (rs.map Prod.fst) with
 | some vs=>bif vs.all TV.st then(match w6 σ.H nb 0,w7 σ.H no nb with
  | some cC,some gs =>
   let ids:=tK (vs.flatMap λv=>v.refs++v.b8) []
   let v:=(ny vs).rn ids
   let hb:=ids.map λid=>(σ.H id).rn ids
   bif oM ids&&ids.all (Nat.ble (nb+no) ·) then some ⟨v,hb,cC,!(v.free&&cC.isEmpty&&hb.all az.free&&gs.isEmpty),gs⟩ else none
  | _,_=>none) else none
 | none=>none
def TQ(nb no:Nat)(rs:List (bn × Md))(K:aB->Prop):Qb:=λe σ=>match e with
 | .exit _=>False
 | _=>match F1 nb no rs σ with
  | some r=>K r
  | none=>False
theorem QFB{σ:cq}{y:bn}{v:TV}(h:nw σ y=some v):y.get σ.aA=some v.aA:=by
 cases y with
 | t s=>simp only[nw,Option.some.injEq]at h;subst h;rfl
 | l s n agg =>
  simp only[nw]at h
  split at h
  rotate_left
  ·cases h
  rename_i v' bl he
  cases h;have:=R0 (ΓA:=zB) he trivial;have this:Qw zB (aX.ev λs=>(σ.T s).aA) (λi=>(σ.H i).aA) 0 (.load (.s s) n agg)=some (TE.aA ⟨none,v,bl⟩):=this;show(match Qw zB (aX.ev λs=>(σ.T s).aA) (λi=>(σ.H i).aA) 0 (.load (.s s) n agg) with | some e=>some e.val | none=>none)=_;rw[this];rfl
theorem Sy{σ:cq}:∀ {ys:List bn} {vs:List TV},w5 σ ys=some vs->qD σ.aA ys=some (vs.map TV.aA)
 | [],vs,h=>by simp only[w5,Option.some.injEq]at h;subst h;rfl
 | y::ys,vs,h=>by
  simp only[w5]at h
  split at h
  rotate_left
  ·cases h
  rename_i a b ha hb
  cases h;simp only[qD,QFB ha,Sy hb,List.map_cons]
theorem QFj{vs:List TV}(h:vs.all TV.st=true):Rl (vs.map TV.aA)=(ny vs).aA:=by
 match vs,h with
 | [],_=>rfl
 | [x],_=>rfl
 | x::y::vs,h =>
  show AV.t ((x::y::vs).map TV.aA)=AV.t ((x::y::vs).map TV.ck);congr 1
  exact List.map_congr_left λa ha=>(RY (List.all_eq_true.1 h a ha)).symm
theorem re(ids:List Nat)(x:TV):(x.eU ids).aQ=x.aQ.eU ids:=by
 cases x with
 | r ts id off len =>
  simp only[TV.eU,TV.aQ,AV.eU];by_cases h:id∈ids
  ·rw[if_pos h,show ids.elem id=true by simpa using h];rfl
  ·rw[if_neg h,show ids.elem id=false by simpa using h];rfl
 | p id i j =>
  simp only[TV.eU,TV.aQ,AV.eU];by_cases h:id∈ids
  ·rw[if_pos h,show ids.elem id=true by simpa using h];rfl
  ·rw[if_neg h,show ids.elem id=false by simpa using h];rfl
 | _=>rfl
theorem SB(ids:List Nat)(x:TV):(x.eU ids).aA=(x.eU ids).aQ:=by
 cases x with
 | r ts id off len=>simp only[TV.eU];cases ids.elem id <;> rfl
 | p id i j=>simp only[TV.eU];cases ids.elem id <;> rfl
 | _=>rfl
theorem QSE(ids:List Nat)(x:TV):(x.i6 ids).ck=x.ck.i6 ids:=by
 cases x with
 | a cs=>simp only[TV.i6,TV.ck,AV.i6,List.map_map];congr 2;funext y;exact re ids y
 | r ts id off len =>
  have:=re ids (.r ts id off len);simp only[TV.i6]
  cases hx:(TV.r ts id off len).eU ids <;> (simp only[TV.eU]at hx;cases hb:ids.elem id <;> rw[hb]at hx <;> first | cases hx | skip) <;> (rw[show TV.eU ids (.r ts id off len)=_ from by simp only[TV.eU,hb];rfl]at this;first | exact this | skip)
 | p id i j =>
  have:=re ids (.p id i j);simp only[TV.i6]
  cases hx:(TV.p id i j).eU ids <;> (simp only[TV.eU]at hx;cases hb:ids.elem id <;> rw[hb]at hx <;> first | cases hx | skip) <;> (rw[show TV.eU ids (.p id i j)=_ from by simp only[TV.eU,hb];rfl]at this;first | exact this | skip)
 | _=>rfl
theorem QW2(ids:List Nat):∀(x:TV),x.st=true\/(∃ vs,x = .tp vs)->(x.rn ids).aA=x.aA.rn ids
 | .tp vs,_=>by simp only[TV.rn,TV.aA,AV.rn,List.map_map];congr 2;funext y;exact QSE ids y
 | .a cs,_=>by simp only[TV.rn,TV.i6,TV.aA,TV.ck,AV.rn,AV.i6,List.map_map];congr 2;funext y;exact re ids y
 | .c t x,_=>rfl
 | .n ts,_=>rfl
 | .r ts id off len,_=>(SB ids (.r ts id off len)).trans (re ids (.r ts id off len))
 | .p id i j,_=>(SB ids (.p id i j)).trans (re ids (.p id i j))
 | .q ts x j,_=>rfl
 | .bs ..,_=>rfl
 | .bq ..,_=>rfl
 | .u,h=>by rcases h with h | ⟨vs,h⟩ <;> cases h
 | .bx cs,h=>by rcases h with h | ⟨vs,h⟩ <;> cases h
 | .g b v,h=>by rcases h with h | ⟨vs,h⟩ <;> cases h
theorem QMA(ids:List Nat)(x:az):(x.rn ids).aA=x.aA.rn ids:=by
 cases x with
 | box cs=>simp only[az.rn,az.aA,aR.rn,List.map_map];congr 2;funext y;exact re ids y
 | _=>rfl
theorem QH0{cs:List TV}(h:cs.all ra=true):(cs.map TV.aQ).all mj=true:=by
 rw[List.all_eq_true]at h ⊢;intro x hx;obtain⟨y,hy,rfl⟩:=List.mem_map.1 hx;have:=h y hy
 cases y <;> first | rfl | simp[ra]at this
theorem SC{h:Nat->az}:∀ {n k:Nat} {cC:List (List TV)},w6 h n k=some cC->oF (λi=>(h i).aA) n k=some (cC.map (·.map TV.aQ))
 | 0,k,cC,e=>by simp only[w6,Option.some.injEq]at e;subst e;rfl
 | n+1,k,cC,e=>by
  simp only[w6]at e
  split at e
  rotate_left
  ·cases e
  rename_i cs lL h1 h2;obtain⟨q,e⟩:=QX e
  cases e;have ih:=SC h2;have hk:(λi=>(h i).aA) k = .box (cs.map TV.aQ):=by simp only[h1];rfl
  generalize(λi=>(h i).aA)=hA at ih hk;simp only[oF,hk,ih,QH0 q,if_true,List.map_cons]
def AV.dx:AV->Bool
 | .c (.v _)=>true
 | .n _=>true
 | .r ..=>true
 | .p ..=>true
 | .u=>true
 | _=>false
def AV.d5:AV->Bool
 | .a cs=>cs.all AV.dx
 | x=>x.dx
def AV.free:AV->Bool
 | .t vs=>vs.all AV.d5
 | x=>x.d5
def aR.free:aR->Prop
 | .none=>True
 | .dead=>True
 | .box cs=>cs.all AV.dx=true
 | .sl _ _ m es=>(∃ g t H,m = .dp g t H)\/∀ x,x∈es->∀ d,d∈x->∃ v,d = .v v
theorem SD{x:TV}(h:x.dx=true):x.aQ.dx=true:=by
 cases x with
 | c t x=>cases t <;> first | rfl | simp[TV.dx,CT.flat]at h
 | _=>first | rfl | simp[TV.dx]at h
theorem SE{x:TV}(h:x.d5=true):x.ck.d5=true:=by
 cases x with
 | a cs =>
  simp only[TV.d5,List.all_eq_true]at h;simp only[TV.ck,AV.d5,List.all_eq_true];intro y hy;obtain⟨z,hz,rfl⟩:=List.mem_map.1 hy;exact SD (h z hz)
 | c t x=>exact(by cases t <;> first | rfl | simp[TV.d5,TV.dx,CT.flat]at h)
 | _=>first | rfl | simp[TV.d5,TV.dx]at h
theorem QRV{x:TV}(h:x.free=true):x.aA.free=true:=by
 cases x with
 | tp vs =>
  simp only[TV.free,List.all_eq_true]at h;simp only[TV.aA,AV.free,List.all_eq_true];intro y hy;obtain⟨z,hz,rfl⟩:=List.mem_map.1 hy;exact SE (h z hz)
 | a cs=>exact SE (x:=.a cs) h
 | c t x=>exact(by cases t <;> first | rfl | simp[TV.free,TV.d5,TV.dx,CT.flat]at h)
 | _=>first | rfl | simp[TV.free,TV.d5,TV.dx]at h
theorem SF:∀ {ts:List CT},ts.all CT.flat=true->∀(x:aS ts)(d:D),d∈aV ts x->∃ v,d = .v v
 | [],_,x,d,h=>by rw[aV]at h;cases h
 | t::ts,hf,x,d,h=>by
  rw[List.all_cons,Bool.and_eq_true]at hf;rw[aV]at h
  rcases List.mem_cons.1 h with rfl | h
  ·cases t with
   | sl us=>cases hf.1
   | _=>exact⟨_,rfl⟩
  ·exact SF hf.2 _ d h
theorem QKs{x:az}(h:x.free=true):x.aA.free:=by
 cases x with
 | none=>trivial
 | dead=>trivial
 | box cs =>
  simp only[az.free,List.all_eq_true]at h;simp only[az.aA,aR.free,List.all_eq_true];intro y hy;obtain⟨z,hz,rfl⟩:=List.mem_map.1 hy;exact SD (h z hz)
 | sl e ts m es =>
  rw[az.bH];have key:ts.all CT.flat=true->∀ x,x∈es.map (aV ts)->∀ d,d∈x->∃ v,d = .v v:=λhf x hx d hd=>by
   obtain⟨y,hy,rfl⟩:=List.mem_map.1 hx;exact SF hf y d hd
  cases m with
  | dp g t H=>exact .inl ⟨g,t,H,rfl⟩
  | _=>exact .inr (key h)
theorem F2{w:World}{F F':Nat->Prop}{ι:Io}{h:Nat->aR}{v:Value}{x:AV}(hx:x.dx=true)(hv:VR w F ι h v x):VR w F' ι h v x:=by
 cases hv with
 | u=>exact .u _
 | c v d hr =>
  cases d with
  | v y=>cases hr with
   | v x h1=>exact .c _ _ (.v _ h1)
  | sl sz es=>simp[AV.dx]at hx
 | n sz=>exact .n sz
 | cy v sz id off len h1 hd=>exact .cy v sz id off len h1 hd
 | cL id e sz m hi hh=>exact .cL id e sz m hi hh
 | de ad cap id e sz m hi hh ht=>exact .de ad cap id e sz m hi hh ht
 | r id off len b ao cap e sz m es hi hh hlen cj ho cX=>exact .r id off len b ao cap e sz m es hi hh hlen cj ho cX
 | cS v id i j h1 hd=>exact .cS v id i j h1 hd
 | p id i j b hi hn hd=>exact .p id i j b hi hn hd
 | _=>simp[AV.dx]at hx
theorem SG{w:World}{F F':Nat->Prop}{ι:Io}{h:Nat->aR}{v:Value}{x:AV}(hx:x.d5=true)(hv:VR w F ι h v x):VR w F' ι h v x:=by
 cases x with
 | a cs =>
  simp only[AV.d5,List.all_eq_true]at hx
  cases hv with
  | a vs _ hl h1 hv=>exact .a vs cs hl h1 (λk v x hk iU=>F2 (hx x (List.mem_of_getElem? iU)) (hv k v x hk iU))
 | _=>exact F2 hx hv
theorem QIi{w:World}{F F':Nat->Prop}{ι:Io}{h:Nat->aR}{v:Value}{x:AV}(hx:x.free=true)(hv:VR w F ι h v x):VR w F' ι h v x:=by
 cases x with
 | t cs =>
  simp only[AV.free,List.all_eq_true]at hx
  cases hv with
  | t vs _ hl hv=>exact .t vs cs hl (λk v x hk iU=>SG (hx x (List.mem_of_getElem? iU)) (hv k v x hk iU))
 | _=>exact SG hx hv
theorem QSN{w:World}{F F':Nat->Prop}{ι:Io}{h:Nat->aR}{id:Nat}{x:aR}(hx:x.free)(hv:BR w F ι h id x):BR w F' ι h id x:=by
 cases hv with
 | none=>exact .none
 | dead=>exact .dead
 | box b e bm cs hi ho hb hl h1 hv=>exact .box b e bm cs hi ho hb hl h1 (λk v x hk iU=>F2 (List.all_eq_true.1 hx x (List.mem_of_getElem? iU)) (hv k v x hk iU))
 | slnil e sz m hz hi=>exact .slnil e sz m hz hi
 | sl b e e0 sz m es cur hz hi hb eN hle cW bV hv =>
  refine .sl b e e0 sz m es cur hz hi hb eN hle cW bV (λi j x d SH hd=>?_);obtain⟨v,h1,h2⟩:=hv i j x d SH hd;refine⟨v,h1,?_⟩
  rcases hx with⟨g,t,H,rfl⟩ | hx
  ·exact h2
  ·cases m with
   | dp g t H=>exact h2
   | _ =>
    obtain⟨y,rfl⟩:=hx x (List.mem_of_getElem? SH) d (List.mem_of_getElem? hd);have h2:Rd w F v (.v y):=h2;show Rd w F' v (.v y)
    cases h2 with
    | v x h1=>exact .v _ h1
theorem ix.free{w:World}{F0:Nat->Prop}{lb:List Nat}{gb:List Hd}{v:AV}{hb:List aR}{al al':Bool}{v':Value}{w':World}{ι:Io}(hx:v.free=true)(hh:∀ x,x∈hb->x.free)(Q:ix w F0 lb gb ⟨v,hb,[],al,[]⟩ v' w' ι) :
  ix w F0 lb gb ⟨v,hb,[],al',[]⟩ v' w' ι:=by
 refine⟨Q.os,Q.tape,Q.output,Q.size,Q.block,QIi hx Q.val,λi hi=>QSN ?_ (Q.fh i hi),Q.inj,Q.eg,Q.live,Q.df,Q.EB,λk b cs _ hc=>by simp at hc,Q.EC,λk x B _ hc=>by simp at hc⟩;have hi:i<hb.length:=hi;show aR.free ((hb[i]?).getD .none);rw[List.getElem?_eq_getElem hi];exact hh _ (List.getElem_mem hi)
theorem F3:∀(l acc:List Nat),acc.Nodup->(tK l acc).Nodup
 | [],acc,h=>h
 | x::l,acc,h=>by
  simp only[tK]
  cases hx:acc.elem x with
  | true=>exact F3 l acc h
  | false =>
   refine F3 l _ ?_;rw[List.nodup_append];refine⟨h,by simp,λa ha b hb=>?_⟩;simp only[List.mem_singleton]at hb;rintro rfl
   subst hb;have:a∉acc:=by simpa using hx
   exact this ha
theorem SI:∀ {ss:List Sh} {xs:List TV},ZW ss xs=true->xs.all TV.ng=true
 | [],[],_=>rfl
 | [],_::_,h=>by simp[ZW]at h
 | _::_,[],h=>by simp[ZW]at h
 | s::ss,x::xs,h=>by
  simp only[ZW,Bool.and_eq_true]at h;rw[List.all_cons,SI h.2,Bool.and_true]
  cases x with
  | g b v=>cases s <;> simp[Sh.fits]at h
  | _=>rfl
theorem F4{h:Nat->az}:∀ {n k:Nat} {cC:List az},w7 h n k=some cC->J8 (λi=>(h i).aA) n k=some (cC.map az.aA)
 | 0,k,cC,hx=>by simp only[w7,Option.some.injEq]at hx;subst hx;rfl
 | n+1,k,cC,hx=>by
  simp only[w7]at hx
  split at hx
  ·rename_i e ts m es lL h1 h2
   cases hx;have h3:=F4 h2;simp only[J8,h1,az.bH,h3,List.map_cons]
  ·rename_i lL h1 h2
   cases hx;have h3:=F4 h2;simp only[J8,h1,az.jb,h3,List.map_cons]
  ·cases hx
theorem QWY{P:Program}{Γ:aF}{f:FuncId}{tc:af}{rs:List (bn × Md)}{n:Nat}{xs:List TV}{r:aB}{sg:List Sh}(hm:P.follows .mixedOrders=true)(hΓ:w1 P Γ)(hs:we P f=some (tc.er,rs.map Prod.fst,n))
  (fF:ZW sg xs=true) (hN:xs.length<=n) (h:aO Γ (d9 xs+eE xs) tc (TQ (d9 xs) (eE xs) rs (λr'=>r'=r)) (q9 xs)):aK P f xs r:=by
 have cH:=SI fF;unfold we at hs
 split at hs
 rotate_left
 ·cases hs
 rename_i fn hf
 split at hs
 rotate_left
 ·cases hs
 rename_i c hb
 split at hs
 rotate_left
 ·cases hs
 rename_i ac' rs' hc zV;simp only[Option.some.injEq,Prod.mk.injEq]at hs;obtain⟨rfl,rfl,rfl⟩:=hs;intro w F0 vs lb gb hA hF;have LA:=Rr hA;have Ff:=LA.len;have iZ:d9 xs=lb.length:=(Af xs cH).trans Ff.symm;have i9:eE xs=gb.length:=(w4 xs cH).trans LA.gl.symm;have hL:Kept (Y5 P w F0 lb gb fn.ntmps) (d9 xs+eE xs):=by
  refine⟨λi b hi=>?_,λi o hi=>?_,λi o cs hi=>?_⟩
  ·have:=(List.getElem?_eq_some_iff.1 (show lb[i]? = some b from hi)).1;omega
  ·simp only[Y5]at hi
   split at hi
   ·cases hi
   ·have:=(List.getElem?_eq_some_iff.1 hi).1;omega
  ·simp only[Y5]at hi
   split at hi
   ·cases hi
   ·obtain⟨_,⟨e,sz,m,es,q,_⟩,_⟩:=LA.fY _ _ hi;rw[q];exact λh=>by cases h
 refine calls_of_wp hf hb ?_;refine QNo (C:=Y5 P w F0 lb gb fn.ntmps) (nl:=d9 xs+eE xs) hm (QH6 Γ) (QPs hΓ) hL tc c _ _ (q9 xs) _ _ hc h ?_ ?_
 ·rw[QNq xs cH];exact QV5 hA hF (by simpa using hN)
 ·intro e σ0 a w' hK S;have hK:(match F1 (d9 xs) (eE xs) rs σ0 with | some r'=>r'=r | none=>False)/\∀ id,e≠.exit id:=by
   cases e with
   | exit id=>exact hK.elim
   | normal=>exact⟨hK,by simp⟩
   | ret=>exact⟨hK,by simp⟩
  obtain⟨hK,he⟩:=hK
  split at hK
  rotate_left
  ·exact hK.elim
  rename_i r' hr;subst hK;unfold F1 at hr;simp only at hr
  split at hr
  rotate_left
  ·cases hr
  rename_i bm f6;obtain⟨q1,hr⟩:=QX hr
  split at hr
  rotate_left
  ·cases hr
  rename_i cC gs qF oB;obtain⟨q2,hr⟩:=QX hr;simp only[Bool.and_eq_true]at q2
  cases hr;have S':=Aa (L:=rs.map λx=>(x.1.slot,x.2)) hL S;generalize hσ:gc (d9 xs+eE xs) (rs.map λx=>(x.1.slot,x.2)) σ0=σ at *;obtain⟨ι,S'⟩:=S';have h1:=Sy f6;obtain⟨u,h5,h6⟩:=QMr S' zV h1;rw[QFj q1]at h6;have hP:=F3 (bm.flatMap λv=>v.refs++v.b8) [] List.nodup_nil;generalize tK (bm.flatMap λv=>v.refs++v.b8) []=ids at *;have iL:∀ id,id∈ids->d9 xs+eE xs<=id:=λid a9=>Nat.le_of_ble_eq_true (List.all_eq_true.1 q2.2 id a9);have F5:zC (d9 xs) (eE xs) ids σ.aA (ny bm).aA=some ⟨((ny bm).rn ids).aA,(ids.map λid=>(σ.H id).rn ids).map az.aA,cC.map (·.map TV.aQ),true,gs.map az.aA⟩:=by
   unfold zC;have h2:=SC qF;have h2:oF σ.aA.h (d9 xs) 0=some (cC.map (·.map TV.aQ)):=h2;have h3:=F4 oB;have h3:J8 σ.aA.h (eE xs) (d9 xs)=some (gs.map az.aA):=h3;rw[h2,h3];simp only;congr 2
   ·rw[QW2]
    match bm,q1 with
    | [],_=>exact .inr ⟨[],rfl⟩
    | [x],q1=>left;rw[List.all_cons,List.all_nil,Bool.and_true]at q1;exact q1
    | x::y::l,_=>exact .inr ⟨_,rfl⟩
   ·rw[List.map_map];congr 1
    funext id
    exact(QMA ids _).symm
  obtain⟨ι',post⟩:=QIS iZ i9 S' hP iL F5 h6;have w8:ix w F0 lb gb (aB.aA ⟨(ny bm).rn ids,ids.map λid=>(σ.H id).rn ids,cC,!(((ny bm).rn ids).free&&cC.isEmpty&&(ids.map λid=>(σ.H id).rn ids).all az.free&&gs.isEmpty),gs⟩) u w' ι':=by
   unfold aB.aA;simp only
   cases dO:((ny bm).rn ids).free&&cC.isEmpty&&(ids.map λid=>(σ.H id).rn ids).all az.free&&gs.isEmpty with
   | false=>exact post
   | true =>
    simp only[Bool.and_eq_true,List.isEmpty_iff]at dO;obtain⟨⟨⟨e1,e2⟩,e3⟩,e4⟩:=dO;subst e2;subst e4;refine ix.free (QRV e1) (λx hx=>?_) post;obtain⟨y,hy,rfl⟩:=List.mem_map.1 hx;exact QKs (List.all_eq_true.1 e3 y hy)
  have key:a.defers=[]/\∃ v,(results fn a.tmps).run P w' = .ok v w'/\∃ v1 ι,Ending.returned v = .returned v1/\ix w F0 lb gb (aB.aA ⟨(ny bm).rn ids,ids.map λid=>(σ.H id).rn ids,cC,!(((ny bm).rn ids).free&&cC.isEmpty&&(ids.map λid=>(σ.H id).rn ids).all az.free&&gs.isEmpty),gs⟩) v1 w' ι :=
   ⟨S'.defers,u,h5,u,_,rfl,w8⟩
  cases e with
  | normal=>exact key
  | ret=>exact key
  | exit id=>exact absurd rfl (he id)
mutual
def CT.bd:(t:CT)->t.den->Prop
 | .int _,_=>True
 | .bool,_=>True
 | .str,_=>True
 | .dF,_=>True
 | .sl ts,l=>List.length l<=maxLen/\∀ x:aS ts,x∈(l:List (aS ts))->aS.bd ts x
def aS.bd:(ts:List CT)->aS ts->Prop
 | [],_=>True
 | t::ts,x=>t.bd (hd ts x)/\aS.bd ts (tl ts x)
end
def rf(ts:List CT)(es:List (aS ts)):Prop:=List.length es<=maxLen/\∀ x:aS ts,x∈es->aS.bd ts x
def TV.w9:TV->Prop
 | .c t x=>t.bd x
 | .ow _ ts .ow es=>rf ts es
 | .ow _ ts (.dp _ _ []) es=>rf ts es
 | _=>True
def TV.xa:List TV->Prop
 | []=>True
 | x::xs=>x.w9/\TV.xa xs
def TV.bd:TV->Prop
 | .a cs=>TV.xa cs
 | .bx cs=>TV.xa cs
 | x=>x.w9
def Ag:List TV->Prop
 | []=>True
 | x::xs=>x.bd/\Ag xs
mutual
theorem SJ{w:World}{F:Nat->Prop}:∀(t:CT)(x:t.den)(v:Value),Rd w F v (enc t x)->t.bd x
 | .int _,_,_,_=>by rw[CT.bd];trivial
 | .bool,_,_,_=>by rw[CT.bd];trivial
 | .str,_,_,_=>by rw[CT.bd];trivial
 | .dF,_,_,_=>by rw[CT.bd];trivial
 | .sl ts,l,v,h=>by
  rw[enc]at h
  rw[CT.bd]
  generalize gi:List.map (aV ts) l=es at h
  have hl:List.length l=es.length:=by rw[<- gi,List.length_map]
  generalize bV:ts.length=sz at h
  cases h with
  | nil =>
   have:l=[]:=by simpa using gi
   subst this
   exact⟨Nat.zero_le _,λx hx=>by cases hx⟩
  | emp =>
   have:l=[]:=by simpa using gi
   subst this
   exact⟨Nat.zero_le _,λx hx=>by cases hx⟩
  | sl b o len cap _ _ xv hlen cj cW dP hb hc hr =>
   refine⟨by rw[hl,hlen];exact cW,λx hx=>?_⟩
   obtain⟨i,hi⟩:=List.getElem?_of_mem hx
   have he:es[i]? = some (aV ts x):=by rw[<- gi,List.getElem?_map,hi];rfl
   exact F6 ts x (λj d hj=>⟨_,hr i j _ d he hj⟩)
theorem F6{w:World}{F:Nat->Prop}:∀(ts:List CT)(x:aS ts),(∀(j:Nat)(d:D),(aV ts x)[j]? = some d->∃ v,Rd w F v d)->aS.bd ts x
 | [],_,_=>by rw[aS.bd];trivial
 | t::ts,x,h=>by
  rw[aV]at h
  rw[aS.bd]
  obtain⟨v,hv⟩:=h 0 _ rfl
  exact⟨SJ t _ v hv,F6 ts _ (λj d hj=>h (j+1) d (by simpa using hj))⟩
end
mutual
theorem QKe{w:World}{K:Nat->Option (Nat × cD)}{id:Nat}:∀(t:CT)(x:t.den)(v:Value)(p:cD),RL w K id p v (enc t x)->t.bd x
 | .int _,_,_,_,_=>by rw[CT.bd];trivial
 | .bool,_,_,_,_=>by rw[CT.bd];trivial
 | .str,_,_,_,_=>by rw[CT.bd];trivial
 | .dF,_,_,_,_=>by rw[CT.bd];trivial
 | .sl ts,l,v,p,h=>by
  rw[enc]at h
  rw[CT.bd]
  generalize gi:List.map (aV ts) l=es at h
  have hl:List.length l=es.length:=by rw[<- gi,List.length_map]
  generalize bV:ts.length=sz at h
  cases h with
  | nil =>
   have:l=[]:=by simpa using gi
   subst this
   exact⟨Nat.zero_le _,λx hx=>by cases hx⟩
  | emp =>
   have:l=[]:=by simpa using gi
   subst this
   exact⟨Nat.zero_le _,λx hx=>by cases hx⟩
  | sl _ b o len cap _ _ cur e0 xv hz dM hlen cj cW dP hk hb hle hc hr =>
   refine⟨by rw[hl,hlen];exact cW,λx hx=>?_⟩
   obtain⟨i,hi⟩:=List.getElem?_of_mem hx
   have he:es[i]? = some (aV ts x):=by rw[<- gi,List.getElem?_map,hi];rfl
   exact F7 ts x (λj d hj=>⟨_,_,hr i j _ d he hj⟩)
theorem F7{w:World}{K:Nat->Option (Nat × cD)}{id:Nat}:∀(ts:List CT)(x:aS ts),(∀(j:Nat)(d:D),(aV ts x)[j]? = some d->∃ v p,RL w K id p v d)->aS.bd ts x
 | [],_,_=>by rw[aS.bd];trivial
 | t::ts,x,h=>by
  rw[aV]at h
  rw[aS.bd]
  obtain⟨v,p,hv⟩:=h 0 _ rfl
  exact⟨QKe t _ v p hv,F7 ts _ (λj d hj=>h (j+1) d (by simpa using hj))⟩
end
theorem Ah{w:World}{F:Nat->Prop}{ι:Io}{h:Nat->aR}{v:Value}:∀ {x:TV},VR w F ι h v x.aQ->x.w9
 | .c t x,hv=>by cases hv with | c v d hr=>exact SJ t x v hr
 | .ow ..,hv=>by cases hv
 | .u,_=>trivial
 | .n _,_=>trivial
 | .r ..,_=>trivial
 | .p ..,_=>trivial
 | .q ..,_=>trivial
 | .a _,_=>trivial
 | .tp _,_=>trivial
 | .bx _,_=>trivial
 | .bs ..,_=>trivial
 | .bq ..,_=>trivial
 | .g ..,_=>trivial
theorem SK{w:World}{F:Nat->Prop}{v:Value}{x:Hd}{e:TypeId}{ts:List CT}{m:Mo}{es:List (aS ts)}(hv:lA w F v x e ts.length m (es.map (aV ts))):(TV.ow e ts m es).w9:=by
 have key:m.full=true->rf ts es:=by
  intro hf;have tu:=hv.br;rw[hv.hB]at tu;generalize hq:es.map (aV ts)=eO at tu
  cases tu with
  | slnil =>
   have:es=[]:=by simpa using hq
   subst this;exact⟨Nat.zero_le _,λx hx=>by cases hx⟩
  | sl bk _ e0 _ _ _ cur hz hi hb eN hle cW bV jj =>
   refine⟨by rw[<- hq,List.length_map]at cW;exact cW,λx hx=>?_⟩;obtain⟨i,bY⟩:=List.getElem?_of_mem hx;have he:eO[i]? = some (aV ts x):=by rw[<- hq,List.getElem?_map,bY];rfl
   cases m with
   | dp g t H =>
    cases H with
    | nil=>exact F7 ts x (λj d hj=>let⟨v,_,h2⟩:=jj i j _ d he hj;⟨v,_,h2.2 (by simp)⟩)
    | cons=>cases hf
   | _=>exact F6 ts x (λj d hj=>let⟨v,_,h2⟩:=jj i j _ d he hj;⟨v,h2⟩)
 cases m with
 | fz=>trivial
 | ow=>exact key rfl
 | dp g t H =>
  cases H with
  | nil=>exact key rfl
  | cons=>trivial
theorem F8:∀ {cs:List TV},(∀(k:Nat)(x:TV),cs[k]? = some x->x.w9)->TV.xa cs
 | [],_=>trivial
 | x::xs,h=>⟨h 0 x rfl,F8 λk y hy=>h (k+1) y (by simpa using hy)⟩
theorem xc{w:World}{F:Nat->Prop}:∀ {cs:List TV} {vs:List Value} {lb:List Nat} {gb:List Hd},ew w F vs (cs.map TV.aQ) lb gb->TV.xa cs
 | [],vs,lb,gb,_=>trivial
 | x::cs,vs,lb,gb,hA=>by
  rw[List.map_cons]at hA;generalize hy:x.aQ=y at hA;generalize iV:cs.map TV.aQ=ys at hA
  cases hA with
  | eD v _ vs _ lb gb hv hr hx =>
   subst iV;subst hy;exact⟨Ah hv,xc hr⟩
  | own v o e sz m es vs _ lb gb hv hn hr =>
   subst iV;refine⟨?_,xc hr⟩
   cases x with
   | ow e' ts mm bP =>
    simp only[TV.aQ]at hy;injection hy with q1 q2 q3 q4;subst q1;subst q2;subst q3;subst q4;exact SK hv
   | _=>trivial
  | box b e bm cs' vs _ lb gb hb hd hc hn hg hr =>
   subst iV;refine⟨?_,xc hr⟩
   cases x with
   | c t x=>cases hy
   | ow e' ts mm bP=>cases hy
   | _=>trivial
  | agg arr cs' vs _ lb g1 gb hc hk h1 hn hr =>
   subst iV;refine⟨?_,xc hr⟩
   cases x with
   | c t x=>cases hy
   | ow e' ts mm bP=>cases hy
   | _=>trivial
theorem xd{w:World}{F:Nat->Prop}:∀ {xs:List TV} {vs:List Value} {lb:List Nat} {gb:List Hd},ew w F vs (xs.map TV.aA) lb gb->xs.all TV.ng=true->Ag xs
 | [],vs,lb,gb,_,_=>trivial
 | x::xs,vs,lb,gb,hA,cH=>by
  rw[List.all_cons,Bool.and_eq_true]at cH;rw[List.map_cons]at hA;generalize hy:x.aA=y at hA;generalize iV:xs.map TV.aA=ys at hA
  cases hA with
  | eD v _ vs _ lb gb hv hr hx =>
   subst iV;refine⟨?_,xd hr cH.2⟩
   cases x with
   | a cs =>
    subst hy
    cases hv with
    | a va _ hl h1 hv =>
     refine F8 λk z hz=>?_;have aW:k<va.size:=by rw[hl,List.length_map];exact(List.getElem?_eq_some_iff.1 hz).1
     exact Ah (hv k va[k] z.aQ (by simp[aW]) (by rw[List.getElem?_map,hz];rfl))
   | bx cs=>subst hy;simp[TV.aA,AV.eD]at hx
   | ow e ts m es=>subst hy;simp[TV.aA,TV.ck,TV.aQ,AV.eD]at hx
   | g b v=>exact absurd cH.1 (by simp[TV.ng])
   | c t z=>subst hy;exact Ah (x:=.c t z) hv
   | _=>trivial
  | own v o e sz m es vs _ lb gb hv hn hr =>
   subst iV;refine⟨?_,xd hr cH.2⟩
   cases x with
   | ow e' ts mm bP =>
    simp only[TV.aA,TV.ck,TV.aQ]at hy;injection hy with q1 q2 q3 q4;subst q1;subst q2;subst q3;subst q4;exact SK hv
   | g b v=>exact absurd cH.1 (by simp[TV.ng])
   | a cs=>simp only[TV.aA,TV.ck]at hy;cases hy
   | bx cs=>simp only[TV.aA]at hy;cases hy
   | _=>trivial
  | box b e bm cs vs _ lb gb hb hd hc hn hg hr =>
   subst iV;refine⟨?_,xd hr cH.2⟩
   cases x with
   | bx ds =>
    simp only[TV.aA]at hy;injection hy with hy;subst hy;refine F8 λk z hz=>?_;have aW:k<bm.size:=by rw[hd.size,List.length_map];exact(List.getElem?_eq_some_iff.1 hz).1
    exact Ah (hd.vr k bm[k] z.aQ (by simp[aW]) (by rw[List.getElem?_map,hz];rfl))
   | g b v=>exact absurd cH.1 (by simp[TV.ng])
   | a cs=>simp only[TV.aA,TV.ck]at hy;cases hy
   | ow e ts m es=>simp only[TV.aA,TV.ck,TV.aQ]at hy;cases hy
   | _=>trivial
  | agg arr cs vs _ lb g1 gb hc hk h1 hn hr =>
   subst iV;refine⟨?_,xd hr cH.2⟩
   cases x with
   | a ds =>
    simp only[TV.aA,TV.ck]at hy;injection hy with hy;subst hy;exact xc hc
   | g b v=>exact absurd cH.1 (by simp[TV.ng])
   | bx cs=>simp only[TV.aA]at hy;cases hy
   | ow e ts m es=>simp only[TV.aA,TV.ck,TV.aQ]at hy;cases hy
   | c t z=>simp only[TV.aA,TV.ck,TV.aQ]at hy;cases hy
   | _=>trivial
theorem QXv{P:Program}{f:FuncId}{xs:List TV}{r:aB}(cH:xs.all TV.ng=true)(h:Ag xs->aK P f xs r):aK P f xs r :=
 λw F0 vs lb gb hA hF=>h (xd hA cH) w F0 vs lb gb hA hF
end Go.Proofs.YtdplaepmjogjjaaGreat.Am

set_option linter.all false
namespace Go.Proofs.YtdplaepmjogjjaaGreat.Am
open Go Go.RowKit Go.Proofs.YtdplaepmjogjjaaGreat
abbrev TI:CT:=.int .i64
abbrev aG(x:Int):Int:=IntKind.i64.wrap x
def Loop(Γ:aF)(nl:Nat)(L:List (Nat × Md))(x:af)(Q:Qb)(s:cq):Prop :=
 zX (λR s=>aO Γ nl x (aY (λs'=>R (gc nl L s')) Q) s) s
theorem QE3{Γ:aF}{nl:Nat}{L:List (Nat × Md)}{x:af}{Q:Qb}{s:cq}
  (h:aO Γ nl x (aY (λs'=>Loop Γ nl L x Q (gc nl L s')) Q) s):Loop Γ nl L x Q s:=QMc h
structure dt(p:Prop):Prop where
 h:p
theorem dt.of{p F:Prop}(h:F)(e:F=p:=by kernel_rfl):dt p:=⟨e ▸ h⟩
theorem Loop.of{Γ:aF}{nl:Nat}{L:List (Nat × Md)}{x:af}{Q:Qb}{s:cq}{F:Prop}
  (h:F) (e:F=aO Γ nl x (aY (λs'=>Loop Γ nl L x Q (gc nl L s')) Q) s:=by kernel_rfl):Loop Γ nl L x Q s:=QE3 (e ▸ h)
def ar{α:Type}(d:α)(l:List α)(i:Nat):α:=l.getD i d
@[reducible] def Sh.den:Sh->Type
 | .c t=>t.den
 | .a ts=>aS ts
 | .b ts=>aS ts
 | .o _ ts=>List (aS ts)
 | .d ts=>List (aS ts)
 | .s ts=>aS ts
@[reducible] def gR:List Sh->Type
 | []=>Unit
 | s::ss=>s.den × gR ss
def SL:(t:CT)->t.den->TV
 | .sl us,l=>.ow 0 us dw l
 | .int k,x=>.c (.int k) x
 | .bool,x=>.c .bool x
 | .str,x=>.c .str x
 | .dF,x=>.c .dF x
def aS.iH:(ts:List CT)->aS ts->List TV
 | [],_=>[]
 | t::ts,x=>SL t (hd ts x)::aS.iH ts (tl ts x)
def Sh.val:(s:Sh)->s.den->TV
 | .c t,x=>.c t x
 | .a ts,x=>.a (aS.cells ts x)
 | .b ts,x=>.bx (aS.cells ts x)
 | .o e ts,x=>.ow e ts .ow x
 | .d ts,x=>.ow 0 ts dw x
 | .s ts,x=>.a (aS.iH ts x)
def jM:(ss:List Sh)->gR ss->List TV
 | [],_=>[]
 | s::ss,x=>s.val x.1::jM ss x.2
def iI(t:CT):TV->Option t.den
 | .c t' x=>if e:t'.beq t=true then some (zF e x) else none
 | _=>none
def jN:(ts:List CT)->List TV->Option (aS ts)
 | [],xs=>match xs with
  | []=>some ()
  | _=>none
 | t::ts,xs=>match xs with
  | x::xs=>match iI t x,jN ts xs with
   | some a,some b=>some (lM ts a b)
   | _,_=>none
  | []=>none
def xe:Mo->Bool
 | .ow=>true
 | _=>false
def kH(m0:Mo->Bool)(e:TypeId)(ts:List CT):TV->Option (List (aS ts))
 | .ow e' b4 m es=>if q:CT.dh b4 ts=true then(bif Nat.beq e' e&&m0 m then some (tw q es) else none) else none
 | _=>none
def xf:(t:CT)->TV->Option t.den
 | .sl us,x=>kH kB 0 us x
 | .int k,x=>iI (.int k) x
 | .bool,x=>iI .bool x
 | .str,x=>iI .str x
 | .dF,x=>iI .dF x
def kI:(ts:List CT)->List TV->Option (aS ts)
 | [],xs=>match xs with
  | []=>some ()
  | _=>none
 | t::ts,xs=>match xs with
  | x::xs=>match xf t x,kI ts xs with
   | some a,some b=>some (lM ts a b)
   | _,_=>none
  | []=>none
def Sh.dec:(s:Sh)->TV->Option s.den
 | .c t,x=>iI t x
 | .a ts,x=>match x with
  | .a cs=>jN ts cs
  | _=>none
 | .b ts,x=>match x with
  | .bx cs=>jN ts cs
  | _=>none
 | .o e ts,x=>kH xe e ts x
 | .d ts,x=>kH kB 0 ts x
 | .s ts,x=>match x with
  | .a cs=>kI ts cs
  | _=>none
def kJ:(ss:List Sh)->List TV->Option (gR ss)
 | [],xs=>match xs with
  | []=>some ()
  | _=>none
 | s::ss,xs=>match xs with
  | x::xs=>match s.dec x,kJ ss xs with
   | some a,some b=>some (a,b)
   | _,_=>none
  | []=>none
theorem F9{t:CT}{v:TV}{x:t.den}(h:iI t v=some x):v = .c t x:=by
 cases v with
 | c t' y =>
  simp only[iI]at h
  split at h
  ·rename_i e;have e':=CT.beq_eq _ _ e;subst e'
   cases h;rfl
  ·cases h
 | _=>simp[iI]at h
theorem Ga:∀ {ts:List CT} {vs:List TV} {x:aS ts},jN ts vs=some x->vs=aS.cells ts x
 | [],vs,x,h=>by
  cases vs with
  | nil=>rfl
  | cons v vs=>simp[jN]at h
 | t::ts,vs,x,h=>by
  cases vs with
  | nil=>simp[jN]at h
  | cons v vs =>
   simp only[jN]at h
   split at h
   rotate_left
   ·cases h
   rename_i a b h1 h2
   cases h;rw[aS.cells,F9 h1,Ga h2,wx,wy]
theorem QSC{m:Mo}(h:xe m=true):m = .ow:=by
 cases m <;> first | rfl | cases h
theorem Gb{m0:Mo->Bool}{m1:Mo}(hm:∀ m,m0 m=true->m=m1){e:TypeId}{ts:List CT}{v:TV}{x:List (aS ts)}(h:kH m0 e ts v=some x):v = .ow e ts m1 x:=by
 cases v with
 | ow e' b4 m es =>
  simp only[kH]at h
  split at h
  ·rename_i q;have q':=CT.bS _ _ q;subst q'
   cases hb:Nat.beq e' e&&m0 m with
   | false=>rw[hb]at h;cases h
   | true =>
    rw[hb]at h
    cases h;rw[Bool.and_eq_true]at hb;have:=Nat.eq_of_beq_eq_true hb.1;subst this;rw[hm m hb.2];rfl
  ·cases h
 | _=>simp[kH]at h
theorem QQ5{t:CT}{v:TV}{x:t.den}(h:xf t v=some x):v=SL t x:=by
 cases t with
 | sl us=>exact Gb (λ_=>Ad) h
 | _=>exact F9 h
theorem SM:∀ {ts:List CT} {vs:List TV} {x:aS ts},kI ts vs=some x->vs=aS.iH ts x
 | [],vs,x,h=>by
  cases vs with
  | nil=>rfl
  | cons v vs=>simp[kI]at h
 | t::ts,vs,x,h=>by
  cases vs with
  | nil=>simp[kI]at h
  | cons v vs =>
   simp only[kI]at h
   split at h
   rotate_left
   ·cases h
   rename_i a b h1 h2
   cases h;rw[aS.iH,QQ5 h1,SM h2,wx,wy]
theorem QYE{s:Sh}{v:TV}{x:s.den}(h:s.dec v=some x):v=s.val x:=by
 cases s with
 | c t=>exact F9 h
 | a ts =>
  cases v with
  | a cs=>exact congrArg TV.a (Ga h)
  | _=>simp[Sh.dec]at h
 | b ts =>
  cases v with
  | bx cs=>exact congrArg TV.bx (Ga h)
  | _=>simp[Sh.dec]at h
 | o e ts=>exact Gb (λ_=>QSC) h
 | d ts=>exact Gb (λ_=>Ad) h
 | s ts =>
  cases v with
  | a cs=>exact congrArg TV.a (SM h)
  | _=>simp[Sh.dec]at h
theorem SN:∀ {ss:List Sh} {vs:List TV} {x:gR ss},kJ ss vs=some x->vs=jM ss x
 | [],vs,x,h=>by
  cases vs with
  | nil=>rfl
  | cons v vs=>simp[kJ]at h
 | s::ss,vs,x,h=>by
  cases vs with
  | nil=>simp[kJ]at h
  | cons v vs =>
   simp only[kJ]at h
   split at h
   rotate_left
   ·cases h
   rename_i a b h1 h2
   cases h;rw[jM,QYE h1,SN h2]
def Qg(f:FuncId)(sg:List Sh)(g:gR sg->Option Prop × aB):aI:=⟨f,sg,λvs=>match kJ sg vs with
 | some x=>some (g x)
 | none=>none⟩
theorem Qi{P:Program}{f:FuncId}{sg:List Sh}{g:gR sg->Option Prop × aB}(h:∀ x:gR sg,holds (g x).1->aK P f (jM sg x) (g x).2):Qf P (Qg f sg g):=by
 intro vs pre r hf hr hp;simp only[Qg]at hr
 split at hr
 ·rename_i x hx;rw[SN hx]
  cases hg:g x with
  | mk p r' =>
   rw[hg]at hr
   cases hr;have:=h x;rw[hg]at this;exact this hp
 ·cases hr
theorem QGu{P:Program}{Γ:aF}{f:FuncId}{tc:af}{rs:List (bn × Md)}{n nb no:Nat}{xs:List TV}{r:aB}{sg:List Sh}(hm:P.follows .mixedOrders=true)(hΓ:w1 P Γ)(hs:we P f=some (tc.er,rs.map Prod.fst,n))
  (fF:ZW sg xs=true) (hN:Nat.ble xs.length n=true) (iZ:d9 xs=nb) (fk:eE xs=no) (h:dt (aO Γ (nb+no) tc (TQ nb no rs (λr'=>r'=r)) (q9 xs))):aK P f xs r:=by
 subst iZ;subst fk;exact QWY hm hΓ hs fF (Nat.le_of_ble_eq_true hN) h.h
theorem QXQ:Tryz.prog.follows .mixedOrders=true:=by kernel_rfl
end Go.Proofs.YtdplaepmjogjjaaGreat.Am
namespace Go.Proofs.YtdplaepmjogjjaaGreat.Am
open Go Go.RowKit Go.Proofs.YtdplaepmjogjjaaGreat
theorem QG{x:Int}(h1:-9223372036854775808<=x)(h2:x<9223372036854775808):aG x=x:=IntWalk.i64_in x (by omega)
theorem ZF{α:Type}{l r:List α}{x:α}{k:Nat}(h:l.drop k=x::r)(d:α):ar d l k=x:=by
 unfold ar;have:l[k]? = some x:=by
  have:=congrArg List.head? h;simpa[List.head?_drop]using this
 rw[List.getD_eq_getElem?_getD,this];rfl
theorem Ai{α:Type}{l r:List α}{x:α}{k:Nat}(h:l.drop k=x::r):k<l.length:=by
 apply Classical.byContradiction;intro hn;rw[List.drop_eq_nil_of_le (by omega)]at h
 cases h
theorem ZA{α:Type}{l r:List α}{x:α}{k:Nat}(h:l.drop k=x::r):l.drop (k+1)=r:=by
 have:=congrArg List.tail h;simpa[List.tail_drop]using this
theorem Zf{α:Type}(l:List α)(P:List α->Nat->Prop)(h0:P [] l.length)(hs:∀(k:Nat)(x:α)(r:List α),l.drop k=x::r->k<l.length->(∀ d,ar d l k=x)->P r (k+1)->P (x::r) k):P l 0:=by
 suffices ∀(r:List α)(k:Nat),l.drop k=r->k<=l.length->P r k from this l 0 rfl (Nat.zero_le _)
 intro r
 induction r with
 | nil =>
  intro k hk hle;have:l.length<=k:=by simpa using hk
  rw[show k=l.length by omega];exact h0
 | cons x r ih =>
  intro k hk hle;have aW:=Ai hk;exact hs k x r hk aW (ZF hk) (ih (k+1) (ZA hk) aW)
theorem rh(n:Nat)(P:Nat->Prop)(h0:P n)(hs:∀ k,k<n->P (k+1)->P k):P 0:=by
 suffices ∀ j k,k+j=n->P k from this n 0 (by omega)
 intro j
 induction j with
 | zero=>intro k hk;rw[show k=n by omega];exact h0
 | succ j ih=>intro k hk;exact hs k (by omega) (ih (k+1) (by omega))
class Sz(α:Type) where
 sz:α->Nat
instance:Sz Int:=⟨λ_=>0⟩
instance:Sz Bool:=⟨λ_=>0⟩
instance:Sz ByteArray:=⟨λ_=>0⟩
instance {α β:Type} [Sz α] [Sz β]:Sz (α × β):=⟨λx=>Sz.sz x.1+Sz.sz x.2⟩
def SO{α:Type}[Sz α]:List α->Nat
 | []=>0
 | x::r=>1+Sz.sz x+SO r
instance {α:Type} [Sz α]:Sz (List α):=⟨SO⟩
open Sz
@[simp] theorem QL(x:Int):sz x=0:=rfl
@[simp] theorem QY(x:Bool):sz x=0:=rfl
@[simp] theorem YM{α β:Type}[Sz α][Sz β](x:α)(y:β):sz (x,y)=sz x+sz y:=rfl
theorem QR{α β:Type}[Sz α][Sz β](x:α × β):sz x=sz x.1+sz x.2:=rfl
@[simp] theorem QYO{α:Type}[Sz α]:sz ([]:List α)=0:=rfl
@[simp] theorem Jq{α:Type}[Sz α](x:α)(r:List α):sz (x::r)=1+sz x+sz r:=rfl
@[simp] theorem Aj{α:Type}[Sz α](l r:List α):sz (l++r)=sz l+sz r:=by
 induction l with
 | nil=>simp
 | cons x l ih=>simp[ih];omega
theorem Yo{α:Type}[Sz α](l:List α):l.length<=sz l:=by
 induction l with
 | nil=>simp
 | cons x l ih=>simp;omega
theorem ZK(l:List Int):sz l=l.length:=by
 induction l with
 | nil=>rfl
 | cons x l ih=>simp[ih];omega
theorem Ak{α:Type}[Sz α]{l:List α}{x:α}(h:x∈l):sz x<sz l:=by
 induction l with
 | nil=>cases h
 | cons y l ih =>
  rcases List.mem_cons.1 h with rfl | h
  ·simp;omega
  ·have:=ih h;simp;omega
theorem xg{α:Type}[Sz α]{l r:List α}{x:α}{k:Nat}(h:l.drop k=x::r):sz x<sz l:=Ak (List.mem_of_mem_drop (by rw[h];exact List.mem_cons_self))
theorem Gc{α:Type}[Sz α](l:List α)(k:Nat):sz (l.take k)+sz (l.drop k)=sz l:=by
 rw[<- Aj,List.take_append_drop]
theorem Gd{α:Type}[Sz α](l:List α)(k:Nat):sz (l.take k)<=sz l:=by have:=Gc l k;omega
theorem QSM{α:Type}[Sz α](l:List α)(k:Nat):sz (l.drop k)<=sz l:=by have:=Gc l k;omega
theorem Ze:(ca:Nat)=4294967296:=rfl
theorem gS:((ca:Nat):Int)=4294967296:=rfl
theorem au{α:Type}{R:α->aB}{x y:α}(h:x=y):R x=R y:=by rw[h]
end Go.Proofs.YtdplaepmjogjjaaGreat.Am
namespace Go.Proofs.YtdplaepmjogjjaaGreat.Am
open Go Go.RowKit
instance (n:Nat):OfNat bD n:=⟨.s n⟩
abbrev aL(n:Int):TV:=.c TI n
abbrev bE(b:Bool):TV:=.c .bool b
abbrev bg(ts:List CT)(x:List (aS ts)):TV:=.c (.sl ts) x
def aq(n:Int):bD:=.k (.c TI n)
def a6(b:Bool):bD:=.k (.c .bool b)
def aC(d:Nat)(x:d6):bA:=.op (some d) x
def ab(d:Nat)(x:bD):bA:=.op (some d) (.eG x)
def an(d:Nat)(x:bD)(n:Nat):bA:=.op (some d) (.load x n false)
def a8(d:Nat)(x:bD)(n:Nat):bA:=.op (some d) (.load x n true)
def ak(d:Nat)(x:bD)(o:Nat):bA:=.op (some d) (.kl x o)
def ba(d:Nat)(x:bD):bA:=.op (some d) (.len x)
def aw(d:Nat)(o:BinOp)(x y:bD):bA:=.op (some d) (.bin o x y)
def aU(x v:bD)(n:Nat):bA:=.op none (.store x v n)
def aD(d:Nat)(f:FuncId)(l:List bD):bA:=.op (some d) (.call f l)
def a0(d:Nat)(x i:bD)(ts:List CT):bA:=.op (some d) (.js x i ts)
def bL(d:Nat)(x:bD):bA:=.op (some d) (.not x)
def bF(d:Nat)(x:bD)(i:Nat):bA:=.op (some d) (.ext x i)
def ag:List af->af
 | []=>.skip
 | [x]=>x
 | x::y::r=>.seq x (ag (y::r))
def z01:CT->TV
 | .int k=>.c (.int k) (0:Int)
 | .bool=>.c .bool false
 | .str=>.c .str ⟨#[]⟩
 | .dF=>.c .dF ()
 | .sl ts=>.n ts
def bG:List CT->List TV
 | []=>[]
 | t::ts=>z01 t::bG ts
abbrev aJ(c:Bool)(A B:Prop):Prop:=(c=true->A)/\(c=false->B)
def eV(l:List Nat):List (Nat × Md):=l.map λi=>(i,.one .d)
def dG(n:Nat):List jq:=List.replicate n .d
@[reducible] def b6(v:TV):aB:=⟨v,[],[],false,[]⟩
@[reducible] def fZ(v:TV):aB:=⟨v,[],[],true,[]⟩
theorem tcg{P:Program}{Γ:aF}{f:FuncId}{tc:af}{rs:List (bn × Md)}{n nb no:Nat}{xs:List TV}{r:aB}{sg:List Sh}(hm:P.follows .mixedOrders=true)(hΓ:w1 P Γ)(hs:we P f=some (tc.er,rs.map Prod.fst,n))
  (hq:((ZW sg xs&&Nat.ble xs.length n)&&(Nat.beq (d9 xs) nb&&Nat.beq (eE xs) no))=true) (h:dt (aO Γ (nb+no) tc (TQ nb no rs (λr'=>r'=r)) (q9 xs))):aK P f xs r:=by
 simp only[Bool.and_eq_true]at hq;exact QGu hm hΓ hs hq.1.1 hq.1.2 (Nat.eq_of_beq_eq_true hq.2.1) (Nat.eq_of_beq_eq_true hq.2.2) h
theorem bz(Γ:aF)(tc:af)(rs:List (bn × Md))(nb no n:Nat)(row:aI){f:FuncId}{xs:List TV}{r:aB}(hΓ:w1 Tryz.prog Γ)(F:(aB->Prop)->Prop)(h:Ag xs->F (λr'=>r'=r))
  (hx:xs.all TV.ng=true:=by exact rfl) (hs:we Tryz.prog f=some (tc.er,rs.map Prod.fst,n):=by kernel_rfl)
  (hq:((ZW row.sg xs&&Nat.ble xs.length n)&&(Nat.beq (d9 xs) nb&&Nat.beq (eE xs) no))=true:=by kernel_rfl) (e:∀ K,F K=aO Γ (nb+no) tc (TQ nb no rs K) (q9 xs):=by intro K;kernel_rfl):aK Tryz.prog f xs r :=
 QXv hx λhb=>tcg QXQ hΓ hs hq ⟨e _ ▸ h hb⟩
theorem kc{P:Program}{row:aI}{Γ:List aI}(h:Qf P row)(hs:gQ P Γ):gQ P (row::Γ):=gQ.cons h hs
theorem kn{P:Program}:gQ P []:=gQ.nil
end Go.Proofs.YtdplaepmjogjjaaGreat.Am
namespace Go.Proofs.YtdplaepmjogjjaaGreat.Am
open Sz
abbrev bu:=Int × Int
abbrev Qm:=Int × List Int
abbrev aH:=Int × Int × Int × List Int
abbrev QD:=Int × List (List Int)
abbrev Qo:=List Int × List Int
abbrev Qd:=Int × List Qm
abbrev QO:=List (List Int) × Int × Bool
def QOK{α:Type}(_:α):Bool:=true
def Ge{α β:Type}(_:α)(_:β):Bool:=true
def QTq{α β γ:Type}(_:α)(_:β)(_:γ):Bool:=true
def QFK{α β γ δ:Type}(_:α)(_:β)(_:γ)(_:δ):Bool:=true
def QTv{α β γ δ ε:Type}(_:α)(_:β)(_:γ)(_:δ)(_:ε):Bool:=true
def Yb(n:Nat)(left:Int):Int:=if(n:Int)<=left then left-n else -1
def bh{α:Type}[Sz α](x:α)(left:Int):Int:=Yb (sz x) left
def pl(left:Int):Prop:=-1<=left/\left<=1048576
def bJ{α:Type}[Sz α](_:α)(left:Int):Prop:=pl left
def aZ{α:Type}[DecidableEq α](x y:α):Bool:=decide (x=y)
def bB{α:Type}[Sz α](x:α):Prop:=sz x<=1048576
def bj(x a b:Int):Bool:=decide (a<=x)&&decide (x<=b)
def Zv(x:Int):Bool:=decide (-2147483647<=x)&&decide (x<=2147483647)
def Ye(v:List Int):Bool:=v.all Zv
def QK(v:List Int):Bool:=bj v.length 1 6&&Ye v
def Yq(x:Qm):Bool:=QK x.2&&decide (0<=x.1)&&decide (x.1<5)
def Q0(q:Qd):Bool:=decide (1<=q.1)&&decide (q.1<=5)&&decide ((q.2.length:Int)<=q.1)&&q.2.all Yq
end Go.Proofs.YtdplaepmjogjjaaGreat.Am
namespace Go.Proofs.YtdplaepmjogjjaaGreat.Am
open Go Sz
abbrev Zx:=List aH
abbrev Qc:=Int × List bu × List aH × Bool × Bool × List QD × List (List Int) × List Int × List Int × List Int × List Int × List (List Int) × Int × Bool
abbrev ZI:=List aH × List Int × Int × List Bool × List Int × List Int
abbrev Qk:=List Qo × List Qc × List Qd × List Qd
abbrev cc:=Int × Int × List Int
abbrev b5:aH:=(0,0,0,[])
abbrev eF:bu:=(0,0)
abbrev QS:QD:=(0,[])
abbrev QV:Qo:=([],[])
abbrev Qx:Qd:=(0,[])
abbrev Qz:Qc:=(0,[],[],false,false,[],[],[],[],[],[],[],0,false)
abbrev QP:List CT:=[.int .i64,.int .i64]
abbrev Qu:List CT:=[.int .i64,.sl [.int .i64]]
abbrev aM:List CT:=[.int .i64,.int .i64,.int .i64,.sl [.int .i64]]
abbrev QE:List CT:=[.int .i64,.sl [.sl [.int .i64]]]
abbrev QF:List CT:=[.sl [.int .i64],.sl [.int .i64]]
abbrev Qh:List CT:=[.int .i64,.sl Qu]
abbrev Zj:List CT:=[.sl [.sl [.int .i64]],.int .i64,.bool]
abbrev Qe:List CT:=[.int .i64,.sl QP,.sl aM,.bool,.bool,.sl QE,.sl [.sl [.int .i64]],.sl [.int .i64],.sl [.int .i64],.sl [.int .i64],.sl [.int .i64],.sl [.sl [.int .i64]],.int .i64,.bool]
abbrev QM:List CT:=[.sl QF,.sl Qe,.sl Qh,.sl Qh]
set_option synthInstance.maxSize 2000
set_option synthInstance.maxHeartbeats 200000
instance:DecidableEq aH:=inferInstance
instance:DecidableEq QD:=inferInstance
instance:DecidableEq Qd:=inferInstance
abbrev xh:=List Int × List Int × List Int × List Int × QO
abbrev xi:=List QD × List (List Int) × xh
abbrev xj:=List aH × Bool × Bool × xi
instance:DecidableEq QO:=inferInstance
instance:DecidableEq xh:=inferInstance
instance:DecidableEq xi:=inferInstance
instance:DecidableEq xj:=inferInstance
instance:DecidableEq Qc:=(inferInstance:DecidableEq (Int × List bu × xj))
instance:DecidableEq ZI:=inferInstance
instance:DecidableEq Qk:=inferInstance
instance:Sz Qc:=inferInstance
instance:Sz ZI:=inferInstance
instance:Sz Qk:=inferInstance
abbrev bT(s:Qc):=s.1
abbrev Qt(s:Qc):=s.2.1
abbrev aE(s:Qc):=s.2.2.1
abbrev Qn(s:Qc):=s.2.2.2.1
abbrev Qp(s:Qc):=s.2.2.2.2.1
abbrev Qj(s:Qc):=s.2.2.2.2.2.1
abbrev QC(s:Qc):=s.2.2.2.2.2.2.1
abbrev sX(s:Qc):=s.2.2.2.2.2.2.2.1
abbrev sY(s:Qc):=s.2.2.2.2.2.2.2.2.1
abbrev sG(s:Qc):=s.2.2.2.2.2.2.2.2.2.1
abbrev sD(s:Qc):=s.2.2.2.2.2.2.2.2.2.2.1
abbrev Qy(s:Qc):=s.2.2.2.2.2.2.2.2.2.2.2.1
abbrev Qv(s:Qc):=s.2.2.2.2.2.2.2.2.2.2.2.2.1
abbrev bf(s:Qc):=s.2.2.2.2.2.2.2.2.2.2.2.2.2
abbrev lT(s:Qc):QO:=(Qy s,Qv s,bf s)
abbrev JQ(c:ZI):=c.1
abbrev JX(c:ZI):=c.2.1
abbrev Gf(c:ZI):=c.2.2.1
abbrev SP(c:ZI):=c.2.2.2.1
abbrev QHX(c:ZI):=c.2.2.2.2.1
abbrev QB(p:Qk):=p.1
abbrev QA(p:Qk):=p.2.1
abbrev Qq(p:Qk):=p.2.2.1
abbrev Qr(p:Qk):=p.2.2.2
abbrev Zm(s:Qc):Zx:=s.2.2.1
def QH(v:List Int)(n:Int):Bool:=QK v&&((v.length:Int)==n)
def Ym(v:List Int)(n:Int):Bool:=((v.length:Int)==0)||QH v n
def Jh:List QD->Int->Int->Int
 | [],_,_=>-1
 | x::r,m,k=>if x.1=m then k else Jh r m (k+1)
def QJ(l:List QD)(m:Int):Int:=Jh l m 0
def YH(o:aH):Int :=
 if bj o.2.1 1 6&&bj o.2.2.1 1 6 then(if o.1=1\/o.1=5 then o.2.1*o.2.2.1 else if o.1=2 then o.2.1 else if o.1=4 then 1 else 0) else 0
def Zi(o:aH):Bool :=
 bj o.1 1 5&&bj o.2.1 1 6&&bj o.2.2.1 1 6&&(o.1==1||o.2.1==o.2.2.1)&&((o.2.2.2.length:Int)==YH o)&&Ye o.2.2.2
def YL:Option Int->List aH->Bool
 | _,[]=>true
 | p,o::r=>Zi o&&(match p with | none=>true | some q=>q==o.2.1)&&YL (some o.2.2.1) r
def Zc(m:Zx):Bool:=bj m.length 1 8&&YL none m
def ZN(m:Zx):Int:=if Zc m then(ar b5 m 0).2.1 else 0
def Zw(m:Zx):Int:=if Zc m then(ar b5 m (m.length-1)).2.2.1 else 0
def SQ(m:Zx)(p:Qo):Bool:=Zc m&&QH p.1 (ZN m)&&QH p.2 (Zw m)
def QQJ(m:Zx)(b:List Qo):Bool:=Zc m&&bj b.length 1 5&&b.all (SQ m)
def SR(n:Int):Option Int->List Int->Bool
 | _,[]=>true
 | p,c::r=>bj c 1 n&&(match p with | none=>true | some q=>decide (q<c))&&SR n (some c) r
def ri(m:Zx)(cB:List Int):Bool:=Zc m&&SR (m.length-1) none cB
def SS(m:Zx)(cB:List Int)(s:Int):Int × Int :=
 if ri m cB&&bj s 0 cB.length then(if 0<s then ar 0 cB (s.toNat-1) else 0,if s<cB.length then ar 0 cB s.toNat else m.length) else(0,0)
def slice{α:Type}(l:List α)(a b:Int):List α:=(l.drop a.toNat).take (b.toNat-a.toNat)
def Al(c:ZI):Int:=if ri c.1 c.2.1 then aG (c.2.1.length+1) else 0
def SU(c:ZI)(s:Int):Int :=
 let r:=SS c.1 c.2.1 s
 aG (((slice c.1 r.1 r.2).map λo=>o.2.1).sum+if r.1<r.2 then(ar b5 c.1 (r.2.toNat-1)).2.2.1 else 0)
def SV(c:ZI)(s:Int):Bool:=decide (0<=s)&&decide (s<c.2.2.2.1.length)&&ar false c.2.2.2.1 s.toNat
def SW(c:ZI)(s:Int):Int × Int :=
 let r:=SS c.1 c.2.1 s
 if r.1=r.2 then(0,0) else((ar b5 c.1 r.1.toNat).2.1,(ar b5 c.1 (r.2.toNat-1)).2.2.1)
def QWW(c:ZI)(s:Int):Int:=if SV c s then(SW c s).1 else SU c s
def jO(a b:Int):Int:=if b<a then b else a
def jP(a b:Int):Int:=if a<b then b else a
def QVT(c:ZI)(s f7:Int):Int :=
 if bj s 0 (Al c-1)&&bj f7 1 5&&decide (Al c<=4) then
  (let k:=if c.2.2.1=2 then jO f7 (Al c-s) else f7
   let z:=SW c s
   aG (aG (aG (k*QWW c s)+jP z.1 z.2)+if SV c s then SU c s else 0))
 else 0
def QVo(c:ZI):Bool:=(c.2.2.2.2.1.length==c.2.1.length)&&c.2.2.2.2.1.all λn=>bj n 1 5
def SX(c:ZI)(f7:Int):List Int->Int->Bool
 | [],_=>true
 | n::r,s=>bj n (QVT c s f7) 100000&&SX c f7 r (s+1)
def QQI(c:ZI)(f7:Int):Bool:=((c.2.2.2.2.2.length:Int)==Al c)&&SX c f7 c.2.2.2.2.2 0
def SY(st s mi:Int):Bool:=bj st 1 4&&bj s 0 (st-1)&&bj mi 1 5
def QFZ(ds st s mi:Int):Int:=if SY st s mi then(if ds=2 then jO mi (st-1-s) else mi) else 0
def SZ(st s m:Int):List bu:=(if 0<s then [(1,m)] else [])++[(2,m)]++(if s<st-1 then [(3,m)] else [])
def QQm(st s m:Int)(nz:Bool):List bu:=(if s<st-1 then [(4,m)] else [])++(if nz then [(5,m)] else [])++[(6,m)]++(if 0<s then [(7,m)] else [])
def QNg(ds st s mi:Int)(nz:Bool):List bu :=
 if bj ds 1 2&&SY st s mi then
  (let w:=(QFZ ds st s mi).toNat
   ((List.range w).flatMap λm:Nat=>SZ st s (m:Int))++((List.range mi.toNat).flatMap λm:Nat=>(if(m:Int)+w<mi then SZ st s ((m:Int)+w) else [])++QQm st s (m:Int) nz)++[(8,0)])
 else []
def YR:List aH->List (List Int)->Bool
 | o::os,r::rs=>(r.length==o.2.2.2.length)&&YR os rs
 | _,_=>true
def YP(m:Zx)(rows:List (List Int)):Bool:=(rows.length==m.length)&&YR m rows
def YQ(ops:List aH)(k:Nat):Int:=if k<ops.length then(ar b5 ops k).2.1 else(ar b5 ops (ops.length-1)).2.2.1
def YE(ops:List aH):Nat->List (List Int)->Bool
 | _,[]=>true
 | k,r::rs=>QH r (YQ ops k)&&YE ops (k+1) rs
def ZS(ops:List aH)(rows:List (List Int))(n:Int):Bool:=YE ops 0 (rows.take n.toNat)
def xk(ops:List aH)(rows:List (List Int))(n:Int):Prop:=1<=ops.length/\0<=n/\n<=rows.length
def ZH(s:Qc):Int:=if s.2.2.2.2.1 then 1 else s.2.2.1.length+1
def Yh(s:Qc)(x:QD):Bool:=((x.2.length:Int)==ZH s)&&ZS s.2.2.1 x.2 (ZH s)
def QU(s:Qc):Bool :=
 Zc s.2.2.1&&bj s.1 0 s.2.1.length&&YP s.2.2.1 s.2.2.2.2.2.2.2.2.2.2.2.1&&s.2.2.2.2.2.1.all (Yh s) &&
  (Ym s.2.2.2.2.2.2.2.1 (ZN s.2.2.1)&&Ym s.2.2.2.2.2.2.2.2.2.2.1 (ZN s.2.2.1)&&Ym s.2.2.2.2.2.2.2.2.1 (Zw s.2.2.1)&&Ym s.2.2.2.2.2.2.2.2.2.1 (Zw s.2.2.1))
def rj(s:Qc):bu:=if bj s.1 0 (s.2.1.length-1) then ar eF s.2.1 s.1.toNat else(0,0)
def Ql(p:Qk)(s:Int):bu:=if bj s 0 (p.2.1.length-1) then rj (ar Qz p.2.1 s.toNat) else(0,0)
def Jj(x:Qo):Bool:=QK x.1&&QK x.2
def Y9(nb:Int):List Qc->Bool
 | []=>true
 | s::r=>QU s&&(s.2.2.2.1==decide (r.length=0))&&s.2.1.all (λx=>bj x.2 0 (nb-1))&&Y9 nb r
def Zk(p:Qk):Bool :=
 bj p.2.1.length 1 4&&(p.2.2.1.length+1==p.2.1.length)&&(p.2.2.2.length+1==p.2.1.length)&&bj p.1.length 1 5 &&
  (p.1.all Jj&&(p.2.2.1.all Q0&&p.2.2.2.all Q0)&&Y9 p.1.length p.2.1)
def oT(q:Qd):Bool:=decide ((q.2.length:Int)<q.1)
def Y4(s:Qc):Bool:=decide ((s.2.1.length:Int)-1<=s.1)
def oU(p:Qk):Bool:=p.2.1.all Y4
def Ji(p:Qk)(s kind:Int):Bool :=
 let n:Int:=p.2.1.length
 if kind=1 then decide (0<s)&&decide (0<(ar Qx p.2.2.1 (s.toNat-1)).2.length)
 else if kind=3 then decide (s<n-1)&&oT (ar Qx p.2.2.1 s.toNat)
 else if kind=4 then decide (s<n-1)&&decide (0<(ar Qx p.2.2.2 s.toNat).2.length)
 else if kind=7 then decide (0<s)&&oT (ar Qx p.2.2.2 (s.toNat-1))
 else if kind=2\/kind=5\/kind=6 then true
 else if kind=8 then oU p else false
def ZJ(p:Qk)(s:Int):Bool:=Zk p&&bj s 0 (p.2.1.length-1)&&Ji p s (Ql p s).1
end Go.Proofs.YtdplaepmjogjjaaGreat.Am
namespace Go.Proofs.YtdplaepmjogjjaaGreat.Am
open Go Sz
theorem Gg:pl 1048576:=⟨by omega,by omega⟩
theorem Jw{n:Nat}{left:Int}(h:pl left):pl (Yb n left):=by
 unfold Yb pl at *
 split <;> omega
theorem Jr{α β:Type}[Sz α][Sz β]{x:α}{y:β}{left:Int}(hl:0<=bh x left):bh y (bh x left)=bh (x,y) left:=by
 unfold bh Yb at *;rw[YM]
 split at hl
 ·rename_i h1;rw[if_pos h1]
  split <;> split <;> omega
 ·omega
theorem Z2{α γ:Type}[Sz α][Sz γ]{x:α}{z:γ}{left:Int}(hl:bh x left<0)(h:sz x<=sz z)(hp:-1<=left):-1=bh z left:=by
 unfold bh Yb at *
 split at hl
 ·omega
 ·rw[if_neg (by omega)]
theorem QGJ{α:Type}[Sz α]{x:α}{left:Int}(h:¬ bh x left<0)(hl:left<=1048576):bB x:=by
 unfold bh Yb at h;unfold bB
 split at h <;> omega
theorem QHU{α:Type}[Sz α](l:List α)(h:∀ x:α,sz x=0):sz l=l.length:=by
 induction l with
 | nil=>rfl
 | cons x l ih=>simp[ih,h];omega
theorem S5{α:Type}[Sz α]{a:List α}{left:Int}(h:bJ a left)(hb:a.length<=9223372036854775807):aG (left-(a.length:Int))=left-a.length:=by
 unfold bJ pl at h;exact QG (by omega) (by omega)
theorem S6{α:Type}[Sz α]{a:List α}{left:Int}{Q:Int->Prop}(hf:∀ x:α,sz x=0)(h:bJ a left)(hb:a.length<=9223372036854775807)(hq:Q (bh a left)) :
  ((decide (aG (left-(a.length:Int))<(0:Int))=true->Q (-1))/\(decide (aG (left-(a.length:Int))<(0:Int))=false->Q (aG (left-(a.length:Int))))):=by
 rw[S5 h hb];unfold bh Yb at hq;rw[QHU a hf]at hq;constructor
 ·intro h1;simp only[decide_eq_true_eq]at h1;rw[if_neg (by omega)]at hq;exact hq
 ·intro h1;simp only[decide_eq_false_iff_not]at h1;rw[if_pos (by omega)]at hq;exact hq
theorem rl{α:Type}[Sz α](d:α){a:List α}{left:Int}{Q:Int->Prop}{A:Int->Int->Prop}(h:bJ a left)(hb:a.length<=9223372036854775807)
  (hA:∀(l i:Int),((decide (i<(a.length:Int))=true->((((0:Int)<=i/\Int.toNat i<a.length)/\(bJ (ar d a (Int.toNat i)) l))/\((decide (bh (ar d a (Int.toNat i)) l<(0:Int))=true->Q (-1))/\(decide (bh (ar d a (Int.toNat i)) l<(0:Int))=false->A (bh (ar d a (Int.toNat i)) l) (aG (i+(1:Int)))))))/\(decide (i<(a.length:Int))=false->Q l))->A l i)
  (hq:Q (bh a left)) :
  ((decide (aG (left-(a.length:Int))<(0:Int))=true->Q (-1))/\(decide (aG (left-(a.length:Int))<(0:Int))=false->A (aG (left-(a.length:Int))) 0)):=by
 rw[S5 h hb];constructor
 ·intro h1;simp only[decide_eq_true_eq]at h1;have hle:=Yo a;rw[bh,Yb,if_neg (by omega)]at hq;exact hq
 ·intro h1;simp only[decide_eq_false_iff_not]at h1;have key:∀ l:Int,0<=l->l<=1048576->(if(sz a-a.length:Int)<=l then l-(sz a-a.length:Int) else -1)=bh a left->A l (0:Nat):=by
   refine Zf a (λr k=>∀ l:Int,0<=l->l<=1048576->(if(sz r-r.length:Int)<=l then l-(sz r-r.length:Int) else -1)=bh a left->A l k) ?_ ?_
   ·intro l hl oV he;refine hA l _ ⟨λhc=>by simp at hc,λ_=>?_⟩;have e0:((sz ([]:List α):Nat):Int)-(([]:List α).length:Nat)=0:=rfl;rw[e0,if_pos hl]at he;rw[<- he]at hq;simpa using hq
   ·intro k x r hk aW hg ih l hl oV he;have hr:=Yo r;have e1:((sz (x::r):Nat):Int)-((x::r).length:Nat)=sz x+(sz r-r.length):=by
     rw[Jq,List.length_cons];omega
    rw[e1]at he;refine hA l _ ⟨λ_=>?_,λhc=>by simp at hc;omega⟩;rw[Int.toNat_natCast,hg d];refine⟨⟨⟨by omega,aW⟩,by unfold bJ pl;omega⟩,λh2=>?_,λh2=>?_⟩
    ·simp only[decide_eq_true_eq]at h2;unfold bh Yb at h2
     split at h2
     ·omega
     ·rw[if_neg (by omega)]at he;rw[he];exact hq
    ·simp only[decide_eq_false_iff_not]at h2;unfold bh Yb at h2 ⊢
     split at h2
     rotate_left
     ·omega
     rw[if_pos (by assumption),QG (by omega) (by omega),show(k:Int)+1=(k+1:Nat) by omega];refine ih _ (by omega) (by omega) ?_;rw[<- he]
     split <;> split <;> omega
  have:=key (left-a.length) (by omega) (by unfold bJ pl at h;omega) (by
   unfold bh Yb
   split <;> split <;> omega)
  exact this
theorem J2{α:Type}[DecidableEq α](d:α){a b:List α}{Q:Bool->Prop}{A:Int->Prop}{E:α->α->Bool}(hE:∀ x y,E x y=decide (x=y))(hb:a.length<=9223372036854775807)
  (hA:∀(i:Int),((decide (i<(a.length:Int))=true->((((0:Int)<=i/\Int.toNat i<a.length)/\((0:Int)<=i/\Int.toNat i<b.length))/\(((!(E (ar d a (Int.toNat i)) (ar d b (Int.toNat i))))=true->Q false)/\((!(E (ar d a (Int.toNat i)) (ar d b (Int.toNat i))))=false->A (aG (i+(1:Int)))))))/\(decide (i<(a.length:Int))=false->Q true))->A i)
  (hq:Q (aZ a b)):((((a.length:Int) != (b.length:Int))=true->Q false)/\(((a.length:Int) != (b.length:Int))=false->A 0)):=by
 constructor
 ·intro h;have:a≠b:=by rintro rfl;simp at h
  simpa[aZ,this]using hq
 ·intro h;have hl:a.length=b.length:=by
   have h:((a.length:Int)==(b.length:Int))=true:=by simpa[bne]using h
   have:=of_decide_eq_true (by simpa using h:decide ((a.length:Int)=b.length)=true);omega
  have key:aZ (a.drop 0) (b.drop 0)=aZ a b->A (0:Nat):=by
   refine Zf a (λr k=>aZ r (b.drop k)=aZ a b->A k) ?_ ?_
   ·intro he;refine hA _ ⟨λhc=>by simp at hc,λ_=>?_⟩;rw[<- he]at hq;simpa[aZ,hl]using hq
   ·intro k x r hk aW hg ih he;refine hA _ ⟨λ_=>?_,λhc=>by simp at hc;omega⟩;obtain⟨y,s,fb⟩:∃ y s,b.drop k=y::s:=by
     cases fb:b.drop k with
     | nil=>have:=congrArg List.length fb;simp at this;omega
     | cons y s=>exact⟨y,s,rfl⟩
    rw[Int.toNat_natCast,hg d,ZF fb d,hE];refine⟨⟨⟨by omega,aW⟩,by omega,by omega⟩,λh1=>?_,λh1=>?_⟩
    ·have dM:x≠y:=by simpa using h1
     rw[<- he,fb]at hq;simpa[aZ,dM]using hq
    ·have hxy:x=y:=by simpa using h1
     rw[QG (by omega) (by omega),show(k:Int)+1=(k+1:Nat) by omega];refine ih ?_;rw[<- he,fb,ZA fb];simp[aZ,hxy]
  exact key rfl
theorem QRG{a b:List Int}{Q:Bool->Prop}{A:Int->Prop}(hb:a.length<=9223372036854775807)
  (hA:∀(i:Int),((decide (i<(a.length:Int))=true->((((0:Int)<=i/\Int.toNat i<a.length)/\((0:Int)<=i/\Int.toNat i<b.length))/\((((ar (0:Int) a (Int.toNat i)) != (ar (0:Int) b (Int.toNat i)))=true->Q false)/\(((ar (0:Int) a (Int.toNat i)) != (ar (0:Int) b (Int.toNat i)))=false->A (aG (i+(1:Int)))))))/\(decide (i<(a.length:Int))=false->Q true))->A i)
  (hq:Q (aZ a b)):((((a.length:Int) != (b.length:Int))=true->Q false)/\(((a.length:Int) != (b.length:Int))=false->A 0)) :=
 J2 (0:Int) (E:=λx y=>x==y) (λx y=>by rw[Bool.eq_iff_iff];simp) hb (λi h=>hA i h) hq
theorem oW{α:Type}(d:α){l:List α}{c p:α->Bool}{Q:Bool->Prop}{A:Int->Prop}{e:Bool}(hb:l.length<=9223372036854775807)(hc:∀ x,c x = !p x)
  (hA:∀(i:Int),((decide (i<(l.length:Int))=true->(((0:Int)<=i/\Int.toNat i<l.length)/\((c (ar d l (Int.toNat i))=true->Q false)/\(c (ar d l (Int.toNat i))=false->A (aG (i+(1:Int)))))))/\(decide (i<(l.length:Int))=false->Q e))->A i)
  (hq:Q (l.all p&&e)):A 0:=by
 have key:(l.drop 0).all p=l.all p->A (0:Nat):=by
  refine Zf l (λr k=>r.all p=l.all p->A k) ?_ ?_
  ·intro he;refine hA _ ⟨λh=>by simp at h,λ_=>?_⟩;rw[<- he]at hq;simpa using hq
  ·intro k x r hk aW hg ih he;refine hA _ ⟨λ_=>?_,λh=>by simp at h;omega⟩;rw[Int.toNat_natCast,hg,QG (by omega) (by omega)];refine⟨⟨by omega,aW⟩,λh=>?_,λh=>ih ?_⟩
   ·have hp:p x=false:=by simpa[hc]using h
    have:l.all p=false:=by rw[<- he,List.all_cons,hp];rfl
    rw[this]at hq;exact hq
   ·have hp:p x=true:=by simpa[hc]using h
    rw[<- he,List.all_cons,hp];rfl
 exact key rfl
end Go.Proofs.YtdplaepmjogjjaaGreat.Am

set_option linter.all false
namespace Go.Proofs.YtdplaepmjogjjaaGreat.Am
open Go Sz
theorem rm{a b:Int}(h1:1<=a)(h2:a<=6)(h3:1<=b)(h4:b<=6):1<=a*b/\a*b<=36:=by
 have:a=1\/a=2\/a=3\/a=4\/a=5\/a=6:=by omega
 rcases this with rfl | rfl | rfl | rfl | rfl | rfl <;> omega
theorem Za{x a b:Int}:bj x a b=true↔a<=x/\x<=b:=by simp[bj]
theorem rp{n:Nat}(h1:1<=n)(h2:n<=9223372036854775807):Int.toNat (aG ((n:Int)-1))=n-1/\(0:Int)<=aG ((n:Int)-1):=by
 rw[QG (by omega) (by omega)];omega
theorem Yu{m:Zx}(h:Zc m=true):1<=m.length/\m.length<=8:=by
 simp only[Zc,Bool.and_eq_true,Za]at h;omega
def JJ(m:Zx)(k:Nat):Option Int:=if k=0 then none else some (ar b5 m (k-1)).2.2.1
theorem S7{o:aH}(h:Zi o=true):1<=o.2.1/\o.2.1<=6/\1<=o.2.2.1/\o.2.2.1<=6:=by
 simp only[Zi,Bool.and_eq_true,Za]at h;omega
theorem An{α:Type}{l:List α}{i:Nat}{x:α}(h:l[i]? = some x)(d:α):ar d l i=x:=by
 unfold ar;rw[List.getD_eq_getElem?_getD,h];rfl
theorem Gh{α:Type}{l:List α}{i:Nat}(h:i<l.length)(d:α):l[i]? = some (ar d l i):=by
 unfold ar;rw[List.getD_eq_getElem?_getD,List.getElem?_eq_getElem h];rfl
theorem Jz{α:Type}{l:List α}{i:Nat}(h:i<l.length)(d:α):ar d l i∈l:=List.mem_of_getElem? (Gh h d)
theorem QYs{α:Type}(d x:α)(l:List α)(i:Nat):ar d (x::l) (i+1)=ar d l i:=by simp[ar]
theorem Ao{α:Type}(d x:α)(l:List α):ar d (x::l) 0=x:=by simp[ar]
theorem Gi:∀ {l:List aH} {p:Option Int},YL p l=true->∀(i:Nat)(x:aH),l[i]? = some x->Zi x=true/\(∀ y:aH,l[i+1]? = some y->y.2.1=x.2.2.1)
 | [],p,h,i,x,hx=>by simp at hx
 | o::r,p,h,i,x,hx=>by
  simp only[YL,Bool.and_eq_true]at h
  cases i with
  | zero =>
   simp at hx;subst hx;refine⟨h.1.1,λy hy=>?_⟩
   cases r with
   | nil=>simp at hy
   | cons q r =>
    simp at hy;subst hy;have:=h.2;simp only[YL,Bool.and_eq_true]at this;have:=this.1.2;simp at this;omega
  | succ i =>
   have:=Gi h.2 i x (by simpa using hx);exact⟨this.1,λy hy=>this.2 y (by simpa using hy)⟩
theorem QWo{m:Zx}(h:Zc m=true){k:Nat}(h0:0<k)(hk:k<=m.length):YQ m k=(ar b5 m (k-1)).2.2.1:=by
 unfold YQ;by_cases aW:k<m.length
 ·rw[if_pos aW];simp only[Zc,Bool.and_eq_true]at h;have:=(Gi h.2 (k-1) _ (Gh (by omega) b5)).2 (ar b5 m k) (by rw[show k-1+1=k by omega];exact Gh aW b5);exact this
 ·rw[if_neg aW,show m.length=k by omega]
theorem QNL{m:Zx}(h:Zc m=true):YQ m 0=(ar b5 m 0).2.1:=by
 have:=Yu h;unfold YQ;rw[if_pos (by omega)]
theorem QW9{α:Type}(l:List α)(a b:Int)(h0:0<=a)(h1:a<=b)(h2:b<=l.length)(P:List α->Nat->Prop)(he:P [] b.toNat)
  (hs:∀(k:Nat)(x:α)(r:List α),a<=k->(k:Int)<b->k<l.length->(∀ d,ar d l k=x)->P r (k+1)->P (x::r) k):P (slice l a b) a.toNat:=by
 suffices ∀(n k:Nat),k+n=b.toNat->a.toNat<=k->P ((l.drop k).take n) k from this (b.toNat-a.toNat) a.toNat (by omega) (Nat.le_refl _)
 intro n
 induction n with
 | zero=>intro k hk _;rw[List.take_zero,show k=b.toNat by omega];exact he
 | succ n ih =>
  intro k hk hak;have aW:k<l.length:=by omega
  obtain⟨x,r,hx⟩:∃ x r,l.drop k=x::r:=by
   cases hx:l.drop k with
   | nil=>have:=congrArg List.length hx;simp at this;omega
   | cons x r=>exact⟨x,r,rfl⟩
  rw[hx,List.take_succ_cons];have:=ih (k+1) (by omega) (by omega);rw[ZA hx]at this;exact hs k x _ (by omega) (by omega) aW (ZF hx) this
def rq(b:Bool)(x y:Prop):Prop:=match b with | true=>x | false=>y
theorem Ap{α:Type}(d:α){l:List α}{f:α->Bool}:l.all f=true↔∀ j,j<l.length->f (ar d l j)=true:=by
 rw[List.all_eq_true];constructor
 ·intro h j hj;exact h _ (Jz hj d)
 ·intro h x hx;obtain⟨j,hj⟩:=List.getElem?_of_mem hx;have:=h j (List.getElem?_eq_some_iff.1 hj).1;rwa [An hj]at this
theorem QLz{α:Type}{l r:List α}{x:α}{k:Nat}(h:l.drop k=x::r):r.length=l.length-k-1:=by
 have:=congrArg List.length h;simp at this;omega
theorem S8{α:Type}{l r:List α}{x:α}{k:Nat}(h:l.drop k=x::r)(hl:l.length<=9223372036854775807):((k:Int)==aG ((l.length:Int)-1))=decide (r.length=0):=by
 have h1:=QLz h;have h2:=Ai h;rw[QG (by omega) (by omega),Bool.eq_iff_iff];simp only[beq_iff_eq,decide_eq_true_eq];omega
end Go.Proofs.YtdplaepmjogjjaaGreat.Am
namespace Go.Proofs.YtdplaepmjogjjaaGreat.Am
open Go Go.RowKit Go.ChangeShapes Go.WideShapes Go.ChangeAt
def xl(L:TypeId->Option (List CT))(P:Program):List Field->Nat->Option (List CT)
 | [],_=>some []
 | f::fs,off=>match L f.type,xl L P fs (off+P.cellsOf f.type) with
  | some ts,some us=>bif Nat.beq f.offset off&&Nat.beq (P.cellsOf f.type) ts.length then some (ts++us) else none
  | _,_=>none
def lay(P:Program):Nat->TypeId->Option (List CT)
 | 0,_=>none
 | k+1,t=>match P.underlying t with
  | some .bool=>some [.bool]
  | some (.int q)=>some [.int q]
  | some .string=>some [.str]
  | some (.slice e)=>match lay P k e with
   | some ts=>bif Nat.beq (P.cellsOf e) ts.length&&Nat.blt 0 ts.length then some [.sl ts] else none
   | none=>none
  | some (.struct fs)=>match xl (lay P k) P fs.toList 0 with
   | some ts=>bif Nat.beq (P.cellsOf t) ts.length then some ts else none
   | none=>none
  | _=>none
mutual
def CT.wf:(t:CT)->t.den->Prop
 | .int k,x=>k.min<=(x:Int)/\(x:Int)<=k.max
 | .bool,_=>True
 | .str,_=>True
 | .dF,_=>True
 | .sl ts,l=>∀ x:aS ts,x∈(l:List (aS ts))->aS.wf ts x
def aS.wf:(ts:List CT)->aS ts->Prop
 | [],_=>True
 | t::ts,x=>t.wf (hd ts x)/\aS.wf ts (tl ts x)
end
def Sh.wf:(s:Sh)->s.den->Prop
 | .c t,x=>t.wf x
 | .a ts,x=>aS.wf ts x
 | .b ts,x=>aS.wf ts x
 | .o _ _,_=>False
 | .d _,_=>False
 | .s _,_=>False
def Aq:(ss:List Sh)->gR ss->Prop
 | [],_=>True
 | s::ss,x=>s.wf x.1/\Aq ss x.2
def aS.app:(ts:List CT)->{us:List CT}->aS ts->aS us->aS (ts++us)
 | [],_,_,y=>y
 | t::ts,us,x,y=>lM (ts++us) (hd ts x) (aS.app ts (tl ts x) y)
theorem S9:∀(ts:List CT){us:List CT}(x:aS ts)(y:aS us),aV (ts++us) (aS.app ts x y)=aV ts x++aV us y
 | [],us,x,y=>by simp[aV,aS.app]
 | t::ts,us,x,y=>by
  show aV (t::(ts++us)) (lM (ts++us) (hd ts x) (aS.app ts (tl ts x) y))=_;rw[aV,aV,wx,wy,S9 ts];rfl
theorem Ta:∀(ts:List CT){us:List CT}{x:aS ts}{y:aS us},aS.wf ts x->aS.wf us y->aS.wf (ts++us) (aS.app ts x y)
 | [],us,x,y,_,hy=>hy
 | t::ts,us,x,y,hx,hy=>by
  rw[aS.wf]at hx;show aS.wf (t::(ts++us)) (lM (ts++us) (hd ts x) (aS.app ts (tl ts x) y));rw[aS.wf,wx,wy];exact⟨hx.1,Ta ts hx.2 hy⟩
theorem nA:∀(ts:List CT)(x:aS ts),(aV ts x).length=ts.length
 | [],x=>by simp[aV]
 | t::ts,x=>by rw[aV,List.length_cons,nA ts,List.length_cons]
section
variable {H:Type} {enc:TypeId × Value->H} {P:Program} {w:World} {held:Bool}
def Old(w:World)(b:Nat):Prop:=b<w.heap.size
theorem QGx{k:IntKind}{n:Int}(h:(Lit.int k n).wf=true):k.min<=n/\n<=k.max:=by
 simpa[Lit.wf]using h
theorem QPW{a:Addr}{v:Value}(h:w.cell? a=some v):a.block<w.heap.size/\a.spot=none:=by
 unfold World.cell? at h
 split at h
 ·rename_i hb;have:=(Array.getElem?_eq_some_iff.1 hb).1;refine⟨this,?_⟩
  split at h
  ·cases h
  ·rename_i hs;simpa using hs
 ·cases h
theorem Tb{k n:Nat}(ih:∀ t cs d ps ts,DataW.trod enc P w 0 (λ_=>true) held n t cs=some (d,ps)->lay P k t=some ts->cs.length=ts.length/\∃ x:aS ts,aS.wf ts x/\∀(j:Nat)(v:Value)(d':D),cs[j]? = some v->(aV ts x)[j]? = some d'->Rd w (Old w) v d'){cs:List Value} :
  ∀(fl:List Field)(off:Nat)(ts:List CT),xl (lay P k) P fl off=some ts->(∀ f,f∈fl->∃ y,DataW.trod enc P w 0 (λ_=>true) held n f.type ((cs.drop f.offset).take (P.cellsOf f.type))=some y)->
   ∃ x:aS ts,aS.wf ts x/\∀(j:Nat)(v:Value)(d':D),cs[off+j]? = some v->(aV ts x)[j]? = some d'->Rd w (Old w) v d'
 | [],off,ts,h,_=>by
  simp only[xl,Option.some.injEq]at h;subst h;exact⟨(),by rw[aS.wf];trivial,λj v d' _ hd=>by simp[aV]at hd⟩
 | f::fl,off,ts,h,hy=>by
  simp only[xl]at h
  split at h
  rotate_left
  ·cases h
  rename_i tA us h1 h2;obtain⟨hb,h⟩:=QX h
  cases h;simp only[Bool.and_eq_true]at hb;have e1:=Nat.eq_of_beq_eq_true hb.1;have e2:=Nat.eq_of_beq_eq_true hb.2;obtain⟨⟨d,ps⟩,hyf⟩:=hy f List.mem_cons_self;obtain⟨hl,x,j8,hx⟩:=ih _ _ _ _ _ hyf h1;obtain⟨y,Gj,hyy⟩:=Tb ih fl _ _ h2 (λg hg=>hy g (List.mem_cons_of_mem _ hg));refine⟨aS.app tA x y,Ta tA j8 Gj,λj v d' hv hd=>?_⟩;rw[S9]at hd;by_cases hj:j<tA.length
  ·rw[List.getElem?_append_left (by rw[nA];exact hj)]at hd;refine hx j v d' ?_ hd;rw[List.getElem?_take,if_pos (by omega),List.getElem?_drop,e1];exact hv
  ·rw[List.getElem?_append_right (by rw[nA];omega),nA]at hd;refine hyy (j-tA.length) v d' ?_ hd;rw[show off+P.cellsOf f.type+(j-tA.length)=off+j by omega];exact hv
theorem Ar:∀(k n:Nat)(t:TypeId)(cs:List Value)(d:DataW H)(ps:List MemPlace)(ts:List CT),DataW.trod enc P w 0 (λ_=>true) held n t cs=some (d,ps)->lay P k t=some ts->
  cs.length=ts.length/\∃ x:aS ts,aS.wf ts x/\∀(j:Nat)(v:Value)(d':D),cs[j]? = some v->(aV ts x)[j]? = some d'->Rd w (Old w) v d'
 | 0,n,t,cs,d,ps,ts,_,hl=>by simp[lay]at hl
 | k+1,n,t,cs,d,ps,ts,h,hl=>by
  simp only[lay]at hl
  split at hl
  ·rename_i ht
   cases hl;obtain⟨b,rfl,_⟩:=DataW.trod_bool ht h;refine⟨rfl,b,by simp[aS.wf,CT.wf],λj v d' hv hd=>?_⟩
   cases j with
   | zero=>simp[aV,Am.enc]at hv hd;subst hv;subst hd;exact .v _ rfl
   | succ j=>simp at hv
  ·rename_i q ht
   cases hl;obtain⟨b,rfl,_,hwf⟩:=DataW.trod_int ht h;refine⟨rfl,b,⟨QGx hwf,trivial⟩,λj v d' hv hd=>?_⟩
   cases j with
   | zero=>simp[aV,Am.enc]at hv hd;subst hv;subst hd;exact .v _ rfl
   | succ j=>simp at hv
  ·rename_i ht
   cases hl;obtain⟨b,rfl,_⟩:=DataW.trod_string ht h;refine⟨rfl,b,by simp[aS.wf,CT.wf],λj v d' hv hd=>?_⟩
   cases j with
   | zero=>simp[aV,Am.enc]at hv hd;subst hv;subst hd;exact .v _ rfl
   | succ j=>simp at hv
  ·rename_i e ht
   split at hl
   rotate_left
   ·cases hl
   rename_i ts he;obtain⟨hb,hl⟩:=QX hl
   cases hl;simp only[Bool.and_eq_true]at hb;have e1:=Nat.eq_of_beq_eq_true hb.1;have e2:0<ts.length:=Nat.le_of_ble_eq_true hb.2
   rcases Deep.open_slice ht h with⟨rfl,_⟩ | ⟨a,len,cap,m,n',dd,pl,rfl,_,Po,hcm,hm,_,hx⟩
   ·refine⟨rfl,([]:List (aS ts)),⟨(λx hx=>by cases hx),trivial⟩,λj v d' hv hd=>?_⟩
    cases j with
    | zero=>simp[aV,Am.enc,Am.hd]at hv hd;subst hv;subst hd;exact .nil _
    | succ j=>simp at hv
   ·simp only[if_true]at hm;subst hm;have oG:∀ i,i<len->∃ x:aS ts,aS.wf ts x/\∀(j:Nat)(d':D),(aV ts x)[j]? = some d'->∃ v,w.cell? ((a.add (i*ts.length)).add j)=some v/\Rd w (Old w) v d':=by
     intro i hi;obtain⟨cs',h1,h2⟩:=hx i (by omega);obtain⟨hl,x,j8,p5⟩:=Ar k _ _ _ _ _ _ h2 he;refine⟨x,j8,λj d' hd=>?_⟩;have hj:j<ts.length:=by have:=(List.getElem?_eq_some_iff.1 hd).1;rwa [nA]at this
     obtain⟨_,_,hc⟩:=World.cells?_some h1;rw[e1]at hc;refine⟨cs'[j]'(by omega),?_,p5 j _ d' (List.getElem?_eq_getElem _) hd⟩;rw[hc j hj];exact List.getElem?_eq_getElem _
    by_cases hlen:len=0
    ·subst hlen;refine⟨rfl,([]:List (aS ts)),⟨(λx hx=>by cases hx),trivial⟩,λj v d' hv hd=>?_⟩
     cases j with
     | zero=>simp[aV,Am.enc,Am.hd]at hv hd;subst hv;subst hd;exact .emp _ _ _
     | succ j=>simp at hv
    ·have hz:∃ v,w.cell? a=some v:=by
      obtain⟨x,_,p5⟩:=oG 0 (by omega);have h0:0<(aV ts x).length:=by rw[nA];exact e2
      obtain⟨v,hv,_⟩:=p5 0 _ (List.getElem?_eq_getElem h0);simp[Addr.add]at hv;exact⟨v,hv⟩
     obtain⟨v0,qj⟩:=hz;obtain⟨aW,ru⟩:=QPW qj;obtain⟨b,o,sp⟩:=a;simp only at ru aW;subst ru;have:Inhabited (aS ts):=⟨aS.wi ts⟩
     obtain⟨f,hf⟩:=Deep.choose_lt oG;refine⟨rfl,((List.range len).map f:List (aS ts)),by
      refine⟨λx hx=>?_,trivial⟩;obtain⟨i,hi,rfl⟩:=List.mem_map.1 (show x∈(List.range len).map f from hx);exact(hf i (List.mem_range.1 hi)).1,λj v d' hv hd=>?_⟩
     cases j with
     | succ j=>simp at hv
     | zero =>
      simp only[List.getElem?_cons_zero,Option.some.injEq]at hv;subst hv;have hd2:d' = .sl ts.length (List.map (aV ts) ((List.range len).map f)):=by
       simp only[aV,List.getElem?_cons_zero,Option.some.injEq]at hd;rw[<- hd];show D.sl ts.length (List.map (aV ts) (Am.hd [] _))=_;rfl
      subst hd2;have hg:∀(i:Nat)(e:List D),(List.map (aV ts) ((List.range len).map f))[i]? = some e->i<len/\e=aV ts (f i):=by
       intro i e hi;have aW:=(List.getElem?_eq_some_iff.1 hi).1;simp only[List.length_map,List.length_range]at aW;rw[List.getElem?_map,List.getElem?_map,List.getElem?_range aW]at hi;simp at hi;exact⟨aW,hi.symm⟩
      refine Rd.sl b o len m ts.length _ (λi j=>(w.cell? ⟨b,o+i*ts.length+j,none⟩).getD undef) (by simp) Po (by omega) (λe he=>?_) (λ_=>aW) (λi j e d hi hj=>?_) (λi j e d hi hj=>?_)
      ·obtain⟨x,_,rfl⟩:=List.mem_map.1 he;exact nA ts x
      ·obtain⟨bY,rfl⟩:=hg i e hi;obtain⟨v,hv,_⟩:=(hf i bY).2 j d hj;rw[YO,YO]at hv;rw[hv];rfl
      ·obtain⟨bY,rfl⟩:=hg i e hi;obtain⟨v,hv,hr⟩:=(hf i bY).2 j d hj;rw[YO,YO]at hv;rw[hv];exact hr
  ·rename_i fs ht
   split at hl
   rotate_left
   ·cases hl
   rename_i ts ze;obtain⟨hb,hl⟩:=QX hl
   cases hl;have e1:=Nat.eq_of_beq_eq_true hb;obtain⟨xs,n',_,_,hlen,Tc,hx⟩:=DataW.trod_struct ht h;refine⟨by omega,?_⟩;obtain⟨x,j8,p5⟩:=Tb (n:=n') (λt cs d ps ts h1 h2=>Ar k n' t cs d ps ts h1 h2) fs.toList 0 ts ze (λf hf=>by
    obtain⟨i,hi⟩:=List.getElem?_of_mem hf;have mh:fs[i]? = some f:=by simpa using hi
    have aW:i<xs.length:=by rw[Tc];exact(Array.getElem?_eq_some_iff.1 mh).1
    exact⟨xs[i],by rw[hx i f mh];exact List.getElem?_eq_getElem _⟩)
   exact⟨x,j8,λj v d' hv hd=>p5 j v d' (by simpa using hv) hd⟩
  ·cases hl
end
end Go.Proofs.YtdplaepmjogjjaaGreat.Am
namespace Go.Proofs.YtdplaepmjogjjaaGreat.Am
open Go Go.RowKit Go.ChangeShapes Go.WideShapes Go.ChangeAt
def ry(P:Program)(t:TypeId):Option Sh:=match P.underlying t with
 | some (.struct _)=>match lay P 12 t with
  | some ts=>some (.a ts)
  | none=>none
 | some (.array _ _)=>none
 | _=>match lay P 12 t with
  | some [ct]=>some (.c ct)
  | _=>none
def lU(P:Program):List TypeId->Option (List Sh)
 | []=>some []
 | t::ts=>match ry P t,lU P ts with
  | some s,some ss=>some (s::ss)
  | _,_=>none
theorem Gk:∀(ts:List CT)(x:aS ts),(aS.cells ts x).map TV.aQ=(aV ts x).map AV.c
 | [],x=>rfl
 | t::ts,x=>by rw[aS.cells,aV,List.map_cons,List.map_cons,Gk ts];rfl
section
variable {H:Type} {enc:TypeId × Value->H} {P:Program} {w:World} {held:Bool}
theorem QUE{r:Reach}{base:Nat}{t:TypeId}{v:Value}{d:DataW H}{p:List MemPlace}{s:Sh}(hs:ry P t=some s)(hv:Value.okWide P w r base t v)(h:DataW.Trod enc P w 0 (λ_=>true) held t v d p) :
  ∃ x:s.den,s.wf x/\VR w (Old w) noι ti v (s.val x).aA/\(s.val x).aA.eD=true:=by
 obtain⟨n,h⟩:=h;unfold ry at hs
 split at hs
 ·rename_i fs ht
  split at hs
  rotate_left
  ·cases hs
  rename_i ts hl
  cases hs;obtain⟨h1,x,j8,hx⟩:=Ar _ _ _ _ _ _ _ h hl;unfold Value.okWide at hv;rw[ht]at hv;obtain⟨cs,rfl,_,_⟩:=hv;refine⟨x,j8,?_,?_⟩
  ·show VR w (Old w) noι ti (.agg cs) (.a ((aS.cells ts x).map TV.aQ));rw[Gk];have h1:cs.toList.length=ts.length:=h1;have mM:∀(k:Nat)(v:Value),cs[k]? = some v->∃ d,(aV ts x)[k]? = some d/\Rd w (Old w) v d:=by
    intro k v hk;have aW:k<(aV ts x).length:=by
     have:=(Array.getElem?_eq_some_iff.1 hk).1;rw[nA];simpa[<- h1]using this
    exact⟨_,List.getElem?_eq_getElem aW,hx k v _ (by show cs.toList[k]? = some v;simpa using hk) (List.getElem?_eq_getElem aW)⟩
   refine .a cs _ (by rw[List.length_map,nA,<- h1];simp) (λk v hk=>?_) (λk v y hk hy=>?_)
   ·obtain⟨_,_,hr⟩:=mM k v hk;exact hr.one
   ·obtain⟨d,hd,hr⟩:=mM k v hk;rw[List.getElem?_map,hd]at hy;simp at hy;subst hy;exact .c _ _ hr
  ·show AV.eD (.a ((aS.cells ts x).map TV.aQ))=true;rw[Gk];simp[AV.eD]
 ·cases hs
 ·rename_i fq ma
  split at hs
  rotate_left
  ·cases hs
  rename_i ct hl
  cases hs;obtain⟨h1,x,j8,hx⟩:=Ar _ _ _ _ _ _ _ h hl;unfold Value.okWide at hv;have hv:Cell.okWide P w r base t v:=by
   split at hv
   ·rename_i hh;exact absurd hh (fq _)
   ·rename_i hh;exact absurd hh (ma _ _)
   ·exact hv
  have hc:v.cells.toList=[v]:=by
   cases v with
   | agg cs =>
    exfalso;unfold Cell.okWide at hv
    split at hv <;> first | (simp_all;done) | skip
    unfold Cell.ok at hv
    split at hv <;> first | (simp_all;done) | exact hv
   | _=>rfl
  have hr:=hx 0 v (Am.enc ct x) (by rw[hc];rfl) (by cases ct <;> rfl);exact⟨x,by rw[aS.wf]at j8;exact j8.1,.c _ _ hr,rfl⟩
theorem Td{r:Reach}{base:Nat}:∀ {ts:List TypeId} {ss:List Sh} {vs:List Value} {ds:List (DataW H)} {ps:List MemPlace},lU P ts=some ss->(∀(j:Nat)(t:TypeId)(v:Value),ts[j]? = some t->vs[j]? = some v->Value.okWide P w r base t v)->
  DataW.TrodAll enc P w 0 (λ_=>true) held ts vs ds ps->∃ x:gR ss,Aq ss x/\ew w (Old w) vs ((jM ss x).map TV.aA) [] []
 | [],ss,vs,ds,ps,hs,hv,h=>by
  simp only[lU,Option.some.injEq]at hs;subst hs;obtain⟨rfl,_,_⟩:=trodAll_nil h;exact⟨(),trivial,.nil⟩
 | t::ts,ss,vs,ds,ps,hs,hv,h=>by
  simp only[lU]at hs
  split at hs
  rotate_left
  ·cases hs
  rename_i s ss' h1 h2
  cases hs;obtain⟨v0,Gl,d0,Te,p0,q0,rfl,rfl,rfl,h0,hr⟩:=trodAll_cons h;obtain⟨x,j8,hx,hd⟩:=QUE h1 (hv 0 t v0 rfl rfl) h0;obtain⟨y,Gj,hy⟩:=Td h2 (λj t v hj hk=>hv (j+1) t v (by simpa using hj) (by simpa using hk)) hr;exact⟨(x,y),⟨j8,Gj⟩,.eD v0 _ Gl _ [] [] hx hy hd⟩
theorem Tf{W W':World}(hl:laidOutB P=true)(hb:Below W.heap.size W W'){sp:Nat->Bool}:∀ {ts:List TypeId} {vs:List Value} {ds:List (DataW H)} {ps:List MemPlace},ts.all (λt=>P.readableRec t&&decide (t<P.types.size))=true->
  DataW.TrodAll enc P W 0 (λ_=>true) true ts vs ds ps->(∀ p,p∈ps->p.block<W.heap.size)->(∀ p,p∈ps->sp p.block=true)->DataW.TrodAll enc P W' 0 sp true ts vs ds ps
 | [],vs,ds,ps,_,h,_,_=>by
  obtain⟨rfl,rfl,rfl⟩:=trodAll_nil h;exact rfl
 | t::ts,vs,ds,ps,hr,h,aW,ru=>by
  rw[List.all_cons,Bool.and_eq_true,Bool.and_eq_true]at hr;obtain⟨v0,Gl,d0,Te,p0,q0,rfl,rfl,rfl,h0,bU⟩:=trodAll_cons h;refine⟨p0,q0,WideElems.Trod_stays hl hr.1.1 (of_decide_eq_true hr.1.2) h0 (λx hx=>hb.same (aW x (List.mem_append_left _ hx))) (λx hx=>ru x (List.mem_append_left _ hx)),?_,rfl⟩;exact Tf hl hb hr.2 bU (λp hp=>aW p (List.mem_append_right _ hp)) (λp hp=>ru p (List.mem_append_right _ hp))
end
theorem kK{H:Type}{enc:TypeId × Value->H}{P:Program}{f:FuncId}{fn:Func}{s:ChangeSpec}{apart fresh handsOn again:Bool}{sg:List Sh}{W:World}{args:Array Value}{ds gs:List (DataW H)}{before:List MemPlace}{base:Nat}{tb:TypeId}{n:Nat}
  (hl:laidOutB P=true) (hsg:lU P fn.params.toList=some sg) (mM:fn.params.toList.all (λt=>P.readableRec t&&decide (t<P.types.size))=true) (oX:P.underlying tb=some .bool) (Tg:fn.resultTypes = #[tb])
  (Gm:∀ x:gR sg,Aq sg x->aK P f (jM sg x) ⟨.c .bool true,[],[],false,[]⟩) (ja:s.vars=[]) (hn:fn.params.size=n) (hfn:∀ ds:List (DataW H),ds.length=n->s.fn H ds = { results:=[.lit (.bool true)],args:=ds })
  (gN:∀(j:Nat)(t:TypeId)(v:Value),fn.params[j]? = some t->args[j]? = some v->Value.okWide P W .any base t v)
  (hW:DataW.Whole enc P fn.params.toList s.vars apart W args.toList ds gs before) :
  Calls P f args W λe W'=>∃ v,e = .returned v/\s.post enc P fn apart fresh handsOn again W args v W':=by
 have Th:=hW;obtain⟨p,q,hA,hV,rfl,hfz,dU⟩:=hW;rw[ja]at hV;obtain⟨rfl,rfl⟩:=trodVars_none hV;obtain⟨x,j8,hx⟩:=Td hsg (λj t v hj hk=>gN j t v (by simpa using hj) (by simpa using hk)) hA;have hlen:ds.length=n:=by
  rw[<- hn];have:∀ {ts:List TypeId} {vs:List Value} {ds:List (DataW H)} {ps:List MemPlace},DataW.TrodAll enc P W 0 (λ_=>true) true ts vs ds ps->ds.length=ts.length:=by
   intro ts
   induction ts with
   | nil=>intro vs ds ps h;obtain⟨_,rfl,_⟩:=trodAll_nil h;rfl
   | cons t ts ih=>intro vs ds ps h;obtain⟨v0,Gl,d0,Te,p0,q0,rfl,rfl,rfl,h0,hr⟩:=trodAll_cons h;simp[ih hr]
  simpa using this hA
 have aW:∀ p',p'∈p++[]->p'.block<W.heap.size:=λp' hp=>Th.lt p' hp;refine(QMU (x:=.bool true) (al:=false) (Gm x j8) (F0:=Old W) hx (λ_ h=>h)).mono λe W' ⟨he,hg⟩=>?_;subst he;have hf:=hfn (ds++[]) (by simpa using hlen);refine⟨_,rfl,QK4 (pa:=p) (pv:=[]) Th (λb sp hd=>?_) (λsp ru=>?_) (λsp _=>?_) rfl hg ?_⟩
 ·rw[hf,Tg];exact trodAll_cons_mk (shut_bool oX _) trodAll_mk0
 ·rw[hf,List.append_nil];exact Tf hl hg mM hA (λp' hp=>aW p' (List.mem_append_left _ hp)) (λp' hp=>ru p' (List.mem_append_left _ hp))
 ·rw[ja,hf];exact rfl
 ·exact Go.RowKit.ok_one Tg rfl (okWide_bool_mk oX _)
end Go.Proofs.YtdplaepmjogjjaaGreat.Am
namespace Go.Proofs.YtdplaepmjogjjaaGreat.Am
open Go
theorem bO{a b:Bool}(ha:a=true)(hb:b=true):(a&&b)=true:=by rw[ha,hb];rfl
def As(P:Program)(rk:List Nat):Bool:=(List.range P.funcs.size).all λg=>((P.funcs[g]?).elim [] P.leadsTo).all λh=>Nat.blt (rk.getD h 0) (rk.getD g 0)
theorem Ti{P:Program}{rk:List Nat}(h:As P rk=true)(g x:Nat)(hx:x∈(P.funcs[g]?).elim [] P.leadsTo):rk.getD x 0<rk.getD g 0:=by
 by_cases hg:g<P.funcs.size
 ·have:=List.all_eq_true.1 h g (List.mem_range.2 hg);exact Nat.le_of_ble_eq_true (List.all_eq_true.1 this x hx)
 ·rw[Array.getElem?_eq_none (by omega)]at hx;simp at hx
theorem Gn{P:Program}{rk:List Nat}(h:As P rk=true)(r:Nat):∀(fuel:Nat)(todo seen:List FuncId),(∀ x,x∈todo->rk.getD x 0<r)->(∀ x,x∈seen->rk.getD x 0<r)->∀ x,x∈P.closureVia fuel todo seen->rk.getD x 0<r
 | 0,todo,seen,_,h2,x,hx=>by
  simp only[Program.closureVia,List.mem_reverse]at hx;exact h2 x hx
 | n+1,[],seen,_,h2,x,hx=>by
  simp only[Program.closureVia,List.mem_reverse]at hx;exact h2 x hx
 | n+1,f::todo,seen,h1,h2,x,hx=>by
  simp only[Program.closureVia]at hx
  split at hx
  ·exact Gn h r n todo seen (λy hy=>h1 y (List.mem_cons_of_mem _ hy)) h2 x hx
  ·refine Gn h r n _ _ (λy hy=>?_) (λy hy=>?_) x hx
   ·rcases List.mem_append.1 hy with hy | hy
    ·exact Nat.lt_trans (Ti h f y hy) (h1 f List.mem_cons_self)
    ·exact h1 y (List.mem_cons_of_mem _ hy)
   ·rcases List.mem_cons.1 hy with rfl | hy
    ·exact h1 _ List.mem_cons_self
    ·exact h2 y hy
theorem rz{P:Program}{rk:List Nat}(h:As P rk=true){f:FuncId}(hu:P.unfollowed f=false):P.recurses f=false:=by
 unfold Program.recurses;rw[hu,Bool.false_or];rw[Bool.eq_false_iff];intro hc;obtain⟨g,hg,hc⟩:=List.any_eq_true.1 hc;obtain⟨x,hx,hc⟩:=List.any_eq_true.1 hc;have dE:g∈P.closure x:=by simpa using hc
 have aW:=Ti h g x hx;unfold Program.closure at dE;have:=Gn h (rk.getD g 0) _ [x] [] (λy hy=>by simp at hy;subst hy;exact aW) (λy hy=>by simp at hy) g dE;omega
def rA:List Char:=([99,117,116]:List Nat).map Char.ofNat
theorem QMF{P:Program}{rest:List (List Char)}(h:behindMainWord (wordsSigns P.initOrder.toList)=rA::rest):P.make=some .cut:=by
 unfold Program.make;rw[h];rfl
theorem Tj(rest:List (List Char)):stripLifts liftWords (rA::rest)=([],rA::rest):=by
 rfl
theorem QFx{P:Program}{rest:List (List Char)}(h:behindMainWord (wordsSigns P.initOrder.toList)=rA::rest):P.headLifts=[]:=by
 unfold Program.headLifts;rw[h,Tj];rfl
theorem QMP{P:Program}{rest:List (List Char)}(h:behindMainWord (wordsSigns P.initOrder.toList)=rA::rest):P.liftsFinal=false:=by
 unfold Program.liftsFinal;rw[QFx h,h];rfl
theorem QGw{P:Program}{rest:List (List Char)}(h:behindMainWord (wordsSigns P.initOrder.toList)=rA::rest)(h1:P.laysLater=false)(h2:P.bearsReflect=false)(h3:P.doorFits []=true):P.mayEnter=true:=by
 unfold Program.mayEnter;rw[h];simp only[Tj,h1,h2,h3];rfl
end Go.Proofs.YtdplaepmjogjjaaGreat.Am
namespace Go.Proofs.YtdplaepmjogjjaaGreat.Am
open Go Sz
def QQ(x:Int):Int:=jO (jP x (-2147483647)) 2147483647
def ZT(x:Int):Int × Bool:=(QQ x,!Zv x)
def Q4(a b:Int):Int × Bool:=ZT (QQ a+QQ b)
def Y8(a b:Int):Int × Bool:=ZT (QQ a-QQ b)
def Q7(a b:Int):Int × Bool:=ZT (Int.fdiv (QQ a*QQ b) 65536)
def nB(a:Int):Int:=jP 0 (QQ a)
def At(a b:Int):Int:=Int.fdiv a b
def Gp(a b:Int):Prop:=-4611686018427387904<=a/\a<=4611686018427387904/\b=65536
def ZB(a b:List Int):Bool:=QK a&&QH b a.length
def vz(f:Int->Int->Int × Bool):List Int->List Int->List Int × Bool
 | a::aa,b::bb=>((f a b).1::(vz f aa bb).1,(f a b).2||(vz f aa bb).2)
 | _,_=>([],false)
def Zd(a b:List Int):List Int × Bool:=if ZB a b then vz Q4 a b else([],false)
def QZ(a b:List Int):List Int × Bool:=if ZB a b then vz Y8 a b else([],false)
def v1(f:Int->Int × Bool):List Int->List Int × Bool
 | a::aa=>((f a).1::(v1 f aa).1,(f a).2||(v1 f aa).2)
 | []=>([],false)
def Zz(c:Int)(a:List Int):List Int × Bool:=if Zv c&&QK a then v1 (Q7 c) a else([],false)
def Yn:List Int->List Int->Int->Int × Bool
 | a::aa,b::bb,z=>((Yn aa bb (Q4 z (Q7 a b).1).1).1,(Q7 a b).2||(Q4 z (Q7 a b).1).2||(Yn aa bb (Q4 z (Q7 a b).1).1).2)
 | _,_,z=>(z,false)
def Q1(a b:List Int):Int × Bool:=if ZB a b then Yn a b 0 else(0,false)
def Z4(a:List Int):List Int:=if QK a then a.map nB else []
def Z5(x d:List Int):List Int:=if ZB x d then List.zipWith (λa b=>if 0<a then b else 0) x d else []
def Zp(m:cc):Bool:=bj m.1 1 6&&bj m.2.1 1 6&&((m.2.2.length:Int)==m.1*m.2.1)&&Ye m.2.2
def YA(m:cc)(i:Int):List Int:=slice m.2.2 (i*m.2.1) ((i+1)*m.2.1)
def ZP(m:cc)(k:Int):List Int:=(List.range m.1.toNat).map λi:Nat=>ar 0 m.2.2 ((i:Int)*m.2.1+k).toNat
def Q6(m:cc)(x:List Int):List Int × Bool :=
 if Zp m&&QH x m.2.1 then
  ((List.range m.1.toNat).map λi:Nat=>(Q1 (YA m i) x).1,(List.range m.1.toNat).any λi:Nat=>(Q1 (YA m i) x).2) else([],false)
def Zr(m:cc)(d:List Int):List Int × Bool :=
 if Zp m&&QH d m.1 then
  ((List.range m.2.1.toNat).map λk:Nat=>(Q1 (ZP m k) d).1,(List.range m.2.1.toNat).any λk:Nat=>(Q1 (ZP m k) d).2) else([],false)
def Yx(m:cc):cc:=if Zp m then(m.2.1,m.1,(List.range m.2.1.toNat).flatMap λk:Nat=>ZP m k) else(0,0,[])
def Zn(d x:List Int):cc × Bool :=
 if QK d&&QK x then(((d.length:Int),(x.length:Int),d.flatMap λa=>x.map λb=>(Q7 a b).1),d.any λa=>x.any λb=>(Q7 a b).2) else((0,0,[]),false)
def Q3(o:aH):cc:=(o.2.2.1,o.2.1,o.2.2.2)
def ZY(o:aH)(x:List Int):List Int × Bool :=
 if Zi o&&QH x o.2.1 then
  (if o.1=1 then Q6 (Q3 o) x else if o.1=2 then Zd x o.2.2.2 else if o.1=4 then Zz (ar 0 o.2.2.2 0) x
   else if o.1=5 then((Zd x (Q6 (Q3 o) x).1).1,(Q6 (Q3 o) x).2||(Zd x (Q6 (Q3 o) x).1).2) else(Z4 x,false))
 else([],false)
def ZU(o:aH)(x d:List Int):List Int × List Int × Bool :=
 if Zi o&&QH x o.2.1&&QH d o.2.2.1 then
  (if o.1=1 then((Zr (Q3 o) d).1,(Zn d x).1.2.2,(Zr (Q3 o) d).2||(Zn d x).2)
   else if o.1=2 then(d,d,false)
   else if o.1=4 then((Zz (ar 0 o.2.2.2 0) d).1,[(Q1 d x).1],(Zz (ar 0 o.2.2.2 0) d).2||(Q1 d x).2)
   else if o.1=5 then((Zd d (Zr (Q3 o) d).1).1,(Zn d x).1.2.2,(Zr (Q3 o) d).2||(Zn d x).2||(Zd d (Zr (Q3 o) d).1).2)
   else(Z5 x d,[],false))
 else([],[],false)
def Z7(y t:List Int):Int × Bool:=(Int.fdiv (Q1 (QZ y t).1 (QZ y t).1).1 2,(QZ y t).2||(Q1 (QZ y t).1 (QZ y t).1).2)
abbrev QTk:QO:=([],0,false)
def QJY(m:Zx):QO:=if Zc m then(m.map λo=>List.replicate o.2.2.2.length 0,0,false) else QTk
def nC(a b:List Int):List Int × Bool:=vz Q4 a b
def ZE:List (List Int)->List (List Int)->List (List Int) × Bool
 | a::aa,b::bb=>((vz Q4 a b).1::(ZE aa bb).1,(vz Q4 a b).2||(ZE aa bb).2)
 | _,_=>([],false)
def Z0(a b:QO):QO:=((ZE a.1 b.1).1,(Q4 a.2.1 b.2.1).1,a.2.2||b.2.2||(ZE a.1 b.1).2||(Q4 a.2.1 b.2.1).2)
def QW:List aH->List Int->List (List Int) × Bool
 | [],x=>([x],false)
 | o::r,x=>(x::(QW r (ZY o x).1).1,(ZY o x).2||(QW r (ZY o x).1).2)
def JY(m:Zx)(x:List Int):List (List Int) × Bool:=if Zc m&&QH x (ZN m) then QW m x else([],false)
def Q2:List aH->List (List Int)->List Int->List (List Int) × List Int × Bool
 | o::os,r::rs,d =>
  ((ZU o r (Q2 os rs d).2.1).2.1::(Q2 os rs d).1,(ZU o r (Q2 os rs d).2.1).1,(ZU o r (Q2 os rs d).2.1).2.2||(Q2 os rs d).2.2)
 | _,_,d=>([],d,false)
def Gq(ops:List aH)(rows:List (List Int))(_:List Int):Prop:=ops.length<=rows.length/\ops.length<=ca
def tL(ops:List aH)(rows:List (List Int))(_:List Int):Prop:=(ops.length<=rows.length/\ops.length<=ca)/\0<ops.length
def Z6(q:Qd)(x:Qm):Qd × Bool:=if Q0 q&&Yq x&&decide ((q.2.length:Int)<q.1) then((q.1,q.2++[x]),true) else(q,false)
def Zg(q:Qd):Qd × Qm × Bool:=if Q0 q&&decide (0<q.2.length) then((q.1,q.2.tail),ar (0,[]) q.2 0,true) else(q,(0,[]),false)
def Jb(s:Qc)(m:Int)(x t:List Int):Bool :=
 QU s&&QH x (ZN (aE s))&&decide (QJ (Qj s) m<0)&&(!Qn s||QH t (Zw (aE s)))
def ZV(s:Qc)(m:Int)(x t:List Int):Qc :=
 if Jb s m x t then
  (let i:=QW (aE s) x
   let y:=ar [] i.1 (aE s).length
   let kept:=if Qp s then i.1.take 1 else i.1
   let l:=Z7 y t
   let a:=Q4 (Qv s) l.1
   (bT s,Qt s,aE s,Qn s,Qp s,Qj s++[(m,kept)],QC s,[],(if Qn s then sY s else y),sG s,sD s,Qy s,(if Qn s then a.1 else Qv s),bf s||i.2||(Qn s&&(l.2||a.2))))
 else s
def Yl(s:Qc)(m:Int):Qc :=
 let k:=QJ (Qj s) m
 if QU s&&decide (0<=k) then
  (bT s,Qt s,aE s,Qn s,Qp s,Qj s,(QW (aE s) (ar [] (ar QS (Qj s) k.toNat).2 0)).1,sX s,sY s,sG s,sD s,Qy s,Qv s,bf s)
 else s
def Zq(s:Qc)(k:Int):List (List Int):=if Qp s then QC s else(ar QS (Qj s) k.toNat).2
def eM(s:Qc)(k:Int)(t:List Int):List Int × Bool:=if Qn s then QZ (ar [] (Zq s k) (aE s).length) t else(sG s,false)
def Yz(s:Qc)(k:Int)(t:List Int):Bool :=
 QU s&&decide (0<=k)&&((Zq s k).length==(aE s).length+1)&&ZS (aE s) (Zq s k) (aE s).length&&QH (eM s k t).1 (Zw (aE s))
def ZC(s:Qc)(m:Int)(t:List Int):Qc :=
 let k:=QJ (Qj s) m
 if Yz s k t then
  (let g:=Q2 (aE s) (Zq s k) (eM s k t).1
   let z:=Z0 (lT s) (g.1,0,(eM s k t).2||g.2.2)
   (bT s,Qt s,aE s,Qn s,Qp s,(Qj s).take k.toNat++(Qj s).drop (k.toNat+1),[],sX s,sY s,[],g.2.1,z.1,z.2.1,z.2.2))
 else s
def kL(s:Qc)(v:List Int):Qc:=(bT s,Qt s,aE s,Qn s,Qp s,Qj s,QC s,v,sY s,sG s,sD s,Qy s,Qv s,bf s)
def kM(s:Qc)(v:List Int):Qc:=(bT s,Qt s,aE s,Qn s,Qp s,Qj s,QC s,sX s,v,sG s,sD s,Qy s,Qv s,bf s)
def kN(s:Qc)(v:List Int):Qc:=(bT s,Qt s,aE s,Qn s,Qp s,Qj s,QC s,sX s,sY s,v,sD s,Qy s,Qv s,bf s)
def gr(s:Qc)(v:List Int):Qc:=(bT s,Qt s,aE s,Qn s,Qp s,Qj s,QC s,sX s,sY s,sG s,v,Qy s,Qv s,bf s)
def Gr(s:Qc)(v:Int):Qc:=(v,Qt s,aE s,Qn s,Qp s,Qj s,QC s,sX s,sY s,sG s,sD s,Qy s,Qv s,bf s)
def ZO(p:Qk)(k:Nat)(x:Qc)(i:bu):Qc × List Qd × List Qd :=
 let a:=Qq p;let b:=Qr p
 let pr:=ar QV (QB p) i.2.toNat
 if i.1=1 then(kL x (Zg (ar Qx a (k-1))).2.1.2,a.set (k-1) (Zg (ar Qx a (k-1))).1,b)
 else if i.1=2 then(ZV x i.2 (if k=0 then pr.1 else sX x) pr.2,a,b)
 else if i.1=3 then(kM x [],a.set k (Z6 (ar Qx a k) (i.2,sY x)).1,b)
 else if i.1=4 then(kN x (Zg (ar Qx b k)).2.1.2,a,b.set k (Zg (ar Qx b k)).1)
 else if i.1=5 then(Yl x i.2,a,b)
 else if i.1=6 then((if k=0 then gr (ZC x i.2 pr.2) [] else ZC x i.2 pr.2),a,b)
 else if i.1=7 then(gr x [],a,b.set (k-1) (Z6 (ar Qx b (k-1)) (i.2,sD x)).1)
 else(x,a,b)
def ZM(p:Qk)(s:Int):Qk :=
 if ZJ p s then
  (let x:=ar Qz (QA p) s.toNat
   let y:=ZO p s.toNat x (Ql p s)
   (QB p,(QA p).set s.toNat (Gr y.1 (bT x+1)),y.2.1,y.2.2))
 else p
def nD(k:Nat):Nat->Qk->Qk
 | 0,p=>p
 | n+1,p=>nD (k+1) n (ZM p (Int.tmod (k:Int) (QA p).length))
def Zy(p:Qk)(n:Int):Qk:=if 0<(QA p).length then nD 0 (min n.toNat 2000) p else p
end Go.Proofs.YtdplaepmjogjjaaGreat.Am

namespace Go.Proofs.YtdplaepmjogjjaaGreat.Am
open Go Go.Proofs.YtdplaepmjogjjaaGreat
set_option linter.all false
def QQz:List Nat:=[1,1,2,11,10,11,12,14,15,13,14,14,6,9,6,10,6,4,4,8,8,8,9,1,8,5,1,1,9,1,10,9,11,5,3,11,5,3,13,5,3,4,2,5,12,14,4,3,3,10,12,11,13,11,13,1,3,5,3,1,4,2,1,5,8,2,3,5,3,4,4,1,6,9,1,2,3,5,3,1,2,3,2,1,2,3,2,7,5,7,7,5,8,7,5,4,3,3,6,3,4,5,5,2,1,7,3,5,8,5,5,6,10,4,4,1,2,10,6,6,6,3,4,1,2,12,2,6,6,3,6,4,1,2,3,1,2,4,3,1,3,2,3,3,2,5,5,5,1,6,6,1,2,4,2,1,1,4,1,4,7,1,2,4,2,2,3,4,1,5,8,1,2,4,2,4,6,1,4,7,1,4,2,2,5,1,2,3,6,2,1,4,3,7,4,5,3,9,6,5,9,5,2,1,1,7,1,11,5,1,2,1,1,5,2,2,1,1,4,2,5,4,3,6,1,5,4,4,3,7,1,6,4,4,3,3,3,3,2,3,1,5,6,4,8,4,6,5,5,8,7,6,10,2,3,1,3,1,3,2,2,2,2,1,1,4,7,9,1,8,1,1,1,1,1,1,1,1,1,1,1,1,1,1,1,1]
theorem kO:As Tryz.prog QQz=true:=by kernel_rfl
def QPX:List Nat:=[104,97,114,110,101,115,115,32,56,49,53,57,52,50,49,48,52,97,101,98,98,101,101,102,97,56,50,49,56,97,99,97,102,98,102,56,51,52,55,98,50,50,99,50,55,101,102,55,56,57,48,55,101,55,54,57,54,102,99,56,52,52,98,51,101,49,55,102,49,98,57,52,32,99,117,116,32,97,116,32,108,111,111,112,46,101,120,97,109,112,108,101,47,103,48,49,52,48,55,47,108,97,119,115,46,70,110,69,120,97,99,116,83,116,97,103,101,82,101,100,111,32,108,111,111,112,46,101,120,97,109,112,108,101,47,103,48,49,52,48,55,47,108,97,119,115,46,70,110,69,120,97,99,116,69,110,97,98,108,101,100,65,108,108,32,108,111,111,112,46,101,120,97,109,112,108,101,47,103,48,49,52,48,55,47,108,97,119,115,46,70,110,69,120,97,99,116,83,116,97,103,101,70,119,100,32,108,111,111,112,46,101,120,97,109,112,108,101,47,103,48,49,52,48,55,47,108,97,119,115,46,70,110,69,120,97,99,116,83,116,97,103,101,66,119,100,32,108,111,111,112,46,101,120,97,109,112,108,101,47,103,48,49,52,48,55,47,108,97,119,115,46,70,110,69,120,97,99,116,80,105,112,101,78,101,119,32,108,111,111,112,46,101,120,97,109,112,108,101,47,103,48,49,52,48,55,47,108,97,119,115,46,70,110,69,120,97,99,116,71,114,97,100,105,101,110,116,115,32,108,111,111,112,46,101,120,97,109,112,108,101,47,103,48,49,52,48,55,47,108,97,119,115,46,70,110,69,120,97,99,116,80,105,99,107,32,108,111,111,112,46,101,120,97,109,112,108,101,47,103,48,49,52,48,55,47,108,97,119,115,46,70,110,69,120,97,99,116,82,111,117,110,100,115,32,108,111,111,112,46,101,120,97,109,112,108,101,47,103,48,49,52,48,55,47,108,97,119,115,46,70,110,69,120,97,99,116,82,117,110]
theorem QWm:Tryz.prog.initOrder=String.ofList (QPX.map Char.ofNat):=by kernel_rfl
def QSd:List (List Nat):=[[97,116],[108,111,111,112,46,101,120,97,109,112,108,101,47,103,48,49,52,48,55,47,108,97,119,115,46,70,110,69,120,97,99,116,83,116,97,103,101,82,101,100,111],[108,111,111,112,46,101,120,97,109,112,108,101,47,103,48,49,52,48,55,47,108,97,119,115,46,70,110,69,120,97,99,116,69,110,97,98,108,101,100,65,108,108],[108,111,111,112,46,101,120,97,109,112,108,101,47,103,48,49,52,48,55,47,108,97,119,115,46,70,110,69,120,97,99,116,83,116,97,103,101,70,119,100],[108,111,111,112,46,101,120,97,109,112,108,101,47,103,48,49,52,48,55,47,108,97,119,115,46,70,110,69,120,97,99,116,83,116,97,103,101,66,119,100],[108,111,111,112,46,101,120,97,109,112,108,101,47,103,48,49,52,48,55,47,108,97,119,115,46,70,110,69,120,97,99,116,80,105,112,101,78,101,119],[108,111,111,112,46,101,120,97,109,112,108,101,47,103,48,49,52,48,55,47,108,97,119,115,46,70,110,69,120,97,99,116,71,114,97,100,105,101,110,116,115],[108,111,111,112,46,101,120,97,109,112,108,101,47,103,48,49,52,48,55,47,108,97,119,115,46,70,110,69,120,97,99,116,80,105,99,107],[108,111,111,112,46,101,120,97,109,112,108,101,47,103,48,49,52,48,55,47,108,97,119,115,46,70,110,69,120,97,99,116,82,111,117,110,100,115],[108,111,111,112,46,101,120,97,109,112,108,101,47,103,48,49,52,48,55,47,108,97,119,115,46,70,110,69,120,97,99,116,82,117,110]]
theorem Gs:behindMainWord (wordsSigns Tryz.prog.initOrder.toList)=rA::QSd.map (λl=>l.map Char.ofNat):=by
 rw[QWm,String.toList_ofList];kernel_rfl
theorem kP:Tryz.prog.mayEnter=true:=QGw Gs (by kernel_rfl) (by kernel_rfl) (by kernel_rfl)
theorem jg:Tryz.prog.liftsFinal=false:=QMP Gs
theorem nE:Tryz.prog.make=some .cut:=QMF Gs
end Go.Proofs.YtdplaepmjogjjaaGreat.Am

set_option linter.all false
namespace Go.Proofs.YtdplaepmjogjjaaGreat.Am
open Go Sz
def tm(ds n M s:Int)(i:bu):Int :=
 let F:=s+2*i.2
 let B:=(if ds=2 then 2*n-1 else 2*n-1+2*M)-s+2*i.2
 if i.1=1 then 8*F else if i.1=2 then 8*F+1 else if i.1=3 then 8*F+2
 else if i.1=4 then 8*B else if i.1=5 then 8*B+1 else if i.1=6 then 8*B+2 else if i.1=7 then 8*B+3 else 1000000
def rB(f:Nat)(k1:Int):Nat:=if k1=1 then f+1 else f
def rC(f:Nat)(k1:Int):Nat:=if k1=2 then f-1 else f
def rD(n s:Int)(g:Nat)(k1:Int):Nat:=if k1=4\/(k1=5/\s<n-1) then g+1 else g
def Gt(g:Nat)(k1:Int):Nat:=if k1=6 then g-1 else g
def kf(i:bu):Nat:=if i.1=2 then 1 else 0
def kg(i:bu):Nat:=if i.1=6 then 1 else 0
def cf(l:List bu):Nat:=(l.map kf).sum
def cg(l:List bu):Nat:=(l.map kg).sum
def QPF(l:List bu)(k:Nat):Int:=if k=0 then 0 else(ar eF l (k-1)).1
end Go.Proofs.YtdplaepmjogjjaaGreat.Am
namespace Go.Proofs.YtdplaepmjogjjaaGreat.Am
open Go Sz
theorem JI(x:Int):-2147483647<=QQ x/\QQ x<=2147483647:=by unfold QQ jO jP;split <;> split <;> omega
theorem Tk{x:Int}:Zv x=true↔-2147483647<=x/\x<=2147483647:=by simp[Zv]
theorem QIH(x:Int):Zv (QQ x)=true:=Tk.2 (JI x)
theorem QKD(x:Int):Zv (ZT x).1=true:=QIH x
theorem QJF(a b:Int):Zv (Q4 a b).1=true:=QKD _
theorem Yi{v:List Int}:QK v=true↔(1<=v.length/\v.length<=6)/\Ye v=true:=by
 simp only[QK,Bool.and_eq_true,Za];constructor
 ·rintro⟨h1,h2⟩;exact⟨by omega,h2⟩
 ·rintro⟨h1,h2⟩;exact⟨by omega,h2⟩
theorem Au{v:List Int}{n:Int}:QH v n=true↔QK v=true/\(v.length:Int)=n:=by simp[QH]
theorem Tl:∀(a b:List Int)(z:Int),Zv z=true->Zv (Yn a b z).1=true
 | [],b,z,h=>by simpa[Yn]using h
 | a::aa,[],z,h=>by simpa[Yn]using h
 | a::aa,b::bb,z,h=>by rw[Yn];exact Tl aa bb _ (QJF _ _)
theorem QYN(a b:List Int):Zv (Q1 a b).1=true:=by
 unfold Q1;split
 ·exact Tl _ _ _ rfl
 ·rfl
theorem oY{a b:List Int}:ZB a b=true↔QK a=true/\QK b=true/\b.length=a.length:=by
 unfold ZB;rw[Bool.and_eq_true,Au];constructor <;> (intro h;exact⟨h.1,h.2.1,by omega⟩)
theorem Tm{o:aH}(h:Zi o=true):(o.2.2.2.length:Int)=(if o.1=1\/o.1=5 then o.2.1*o.2.2.1 else if o.1=2 then o.2.1 else if o.1=4 then 1 else 0):=by
 have h1:=S7 h;simp only[Zi,Bool.and_eq_true,beq_iff_eq]at h;rw[h.1.2];unfold YH;rw[show bj o.2.1 1 6=true from Za.2 ⟨h1.1,h1.2.1⟩,show bj o.2.2.1 1 6=true from Za.2 ⟨h1.2.2.1,h1.2.2.2⟩];rfl
theorem Gu:∀(ops:List aH)(x:List Int),(QW ops x).1.length=ops.length+1
 | [],x=>rfl
 | o::r,x=>by simp[QW,Gu r]
def nF(ops:List aH)(x:List Int):List Int:=ar [] (QW ops x).1 ops.length
theorem QNX(x:List Int):nF [] x=x:=rfl
theorem QQn(o:aH)(r:List aH)(x:List Int):nF (o::r) x=nF r (ZY o x).1:=by
 unfold nF;rw[QW];simp[ar]
theorem Gv:∀(ops:List aH)(rows:List (List Int))(d:List Int),ops.length<=rows.length->(Q2 ops rows d).1.length=ops.length
 | [],rows,d,_=>by simp[Q2]
 | o::os,[],d,h=>by simp at h
 | o::os,r::rs,d,h=>by simp[Q2,Gv os rs d (by simpa using h)]
end Go.Proofs.YtdplaepmjogjjaaGreat.Am
namespace Go.Proofs.YtdplaepmjogjjaaGreat.Am
open Go Sz
def oZ:Int->List aH->Int->Prop
 | i,[],o=>i=o
 | i,a::r,o=>Zi a=true/\a.2.1=i/\oZ a.2.2.1 r o
theorem oZ.append:∀ {a b:List aH} {i o:Int},oZ i (a++b) o↔∃ k,oZ i a k/\oZ k b o
 | [],b,i,o=>by simp[oZ]
 | x::a,b,i,o=>by
  rw[List.cons_append,oZ,oZ.append];constructor
  ·rintro⟨h1,h2,k,h3,h4⟩;exact⟨k,⟨h1,h2,h3⟩,h4⟩
  ·rintro⟨k,⟨h1,h2,h3⟩,h4⟩;exact⟨h1,h2,k,h3,h4⟩
end Go.Proofs.YtdplaepmjogjjaaGreat.Am
namespace Go.Proofs.YtdplaepmjogjjaaGreat.Am
open Go Sz
def Qs{α:Type}[Sz α](x:α):Prop:=sz x<=2147483648
def Zo{α β:Type}[Sz α][Sz β](x:α)(y:β):Prop:=sz x+sz y<=2147483648
def Av(ops:List aH)(x:List Int):Prop:=ops.length<=1000000/\x.length<=1000000
def Gw(m:cc)(i:Int):Prop:=0<=m.2.1/\m.2.1<=6/\0<=i/\i<m.1/\m.1<=6/\(m.2.2.length:Int)=m.1*m.2.1
def Gx(m:cc)(k:Int):Prop:=m.2.1<=6/\0<=k/\k<m.2.1/\0<=m.1/\m.1<=6/\(m.2.2.length:Int)=m.1*m.2.1
@[simp] theorem Q8{α:Type}(v:List α)(e:α):List.take (v.length+1) (List.take v.length v++[e])=v++[e]:=by
 rw[List.take_length,List.take_of_length_le (by simp)]
@[simp] theorem QYP{α:Type}(v xs:List α):List.take (v.length+xs.length) (List.take v.length v++xs)=v++xs:=by
 rw[List.take_length,List.take_of_length_le (by simp)]
theorem Yt{α:Type}{l:List α}{k:Nat}(h:k<l.length):∃ y q,l.drop k=y::q:=by
 cases hq:l.drop k with
 | nil=>have:=congrArg List.length hq;simp at this;omega
 | cons y q=>exact⟨y,q,rfl⟩
theorem Yc{α:Type}{v:List α}{k:Nat}{x:α}(h:v.length=k):(v++[x]).length=k+1:=by simp[h]
theorem room{n:Nat}(h:n+1<=2147483648):(n=n\/n+1<=n)/\n+1<=ca:=⟨.inl rfl,by rw[Ze];omega⟩
theorem dL{k:Nat}(h:k<9223372036854775807):aG ((k:Int)+1)=((k+1:Nat):Int):=by rw[QG (by omega) (by omega)];omega
theorem Tn(a b:Int):-4611686018427387904<=QQ a*QQ b/\QQ a*QQ b<=4611686018427387904:=by
 obtain⟨h1,h2⟩:=JI a;obtain⟨h3,h4⟩:=JI b;generalize QQ a=x at *;generalize QQ b=y at *;have hx:x.natAbs<=2147483647:=by omega
 have hy:y.natAbs<=2147483647:=by omega
 have h:=Nat.mul_le_mul hx hy;rw[<- Int.natAbs_mul]at h;omega
theorem QTn(x:Int):(if 2147483647<(if x < -2147483647 then -2147483647 else x) then 2147483647 else(if x < -2147483647 then -2147483647 else x))=QQ x:=by
 unfold QQ jO jP;repeat' split
 all_goals omega
theorem QTI(a:Int):(if((Int.tmod a 65536 != 0)&&(!(decide (a<0)==decide ((65536:Int)<0))))=true then Int.tdiv a 65536-1 else Int.tdiv a 65536)=Int.fdiv a 65536:=by
 rw[Int.fdiv_eq_ediv_of_nonneg _ (by omega),Int.tmod_eq_emod,Int.tdiv_eq_ediv];have hs:Int.sign 65536=1:=rfl;rw[hs];by_cases h:0<=a
 ·have:decide (a<0)=false:=by simp;omega
  simp[h,this]
 ·have:decide (a<0)=true:=by simp;omega
  by_cases h2:(65536:Int) ∣ a
  ·have:a % 65536=0:=Int.emod_eq_zero_of_dvd h2;simp[h,h2,this]
  ·have:a % 65536≠0:=λe=>h2 (Int.dvd_of_emod_eq_zero e);simp[h,h2,this];omega
theorem idx{r R C:Int}(h1:0<=r)(h2:r<R)(h3:0<=C):0<=r*C/\r*C+C<=R*C/\(r+1)*C=r*C+C:=by
 have h4:(r+1)*C=r*C+C:=by rw[Int.add_mul,Int.one_mul]
 have h5:=Int.mul_le_mul_of_nonneg_right (show r+1<=R by omega) h3;exact⟨Int.mul_nonneg h1 h3,by omega,h4⟩
theorem rE{m:cc}(h:Zp m=true):1<=m.1/\m.1<=6/\1<=m.2.1/\m.2.1<=6/\(m.2.2.length:Int)=m.1*m.2.1/\m.1*m.2.1<=36/\Ye m.2.2=true:=by
 simp only[Zp,Bool.and_eq_true,Za,beq_iff_eq]at h;have:=rm h.1.1.1.1 h.1.1.1.2 h.1.1.2.1 h.1.1.2.2;exact⟨h.1.1.1.1,h.1.1.1.2,h.1.1.2.1,h.1.1.2.2,h.1.2,this.2,h.2⟩
theorem Gy{f:Nat->Bool}{k:Nat}:(List.range (k+1)).any f=((List.range k).any f||f k):=by rw[List.range_succ,List.any_append];simp
theorem xm{α:Type}{f:Nat->α}{k:Nat}:(List.range (k+1)).map f=(List.range k).map f++[f k]:=by rw[List.range_succ,List.map_append];rfl
theorem Gz{α:Type}{f:Nat->List α}{k:Nat}:(List.range (k+1)).flatMap f=(List.range k).flatMap f++f k:=by rw[List.range_succ,List.flatMap_append];simp
theorem GA{α:Type}{f:Nat->List α}{R:Nat}(n:Nat)(h:∀ k,k<n->(f k).length=R):((List.range n).flatMap f).length=n*R:=by
 induction n with
 | zero=>simp
 | succ n ih=>rw[Gz,List.length_append,ih (λk hk=>h k (by omega)),h n (by omega),Nat.add_mul];omega
theorem To{α:Type}{f:Nat->List α}{R:Nat}{k:Nat}:∀(n:Nat),k<n->(∀ k,k<n->(f k).length=R)->(((List.range n).flatMap f).drop (k*R)).take R=f k
 | 0,hk,_=>by omega
 | n+1,hk,h=>by
  have hl:=GA n (λk hk=>h k (by omega));rw[Gz];by_cases e:k=n
  ·subst e;rw[List.drop_append,List.drop_eq_nil_of_le (by omega),hl,Nat.sub_self,List.drop_zero,List.nil_append,List.take_of_length_le (by rw[h k (by omega)];exact Nat.le_refl _)]
  ·have ih:=To (k:=k) n (by omega) (λk hk=>h k (by omega));have:(k+1)*R<=n*R:=Nat.mul_le_mul_right R (show k+1<=n by omega);rw[Nat.add_mul,Nat.one_mul]at this;rw[List.drop_append_of_le_length (by omega),List.take_append_of_le_length (by rw[List.length_drop,hl];omega),ih]
theorem GB(m:cc)(k:Int):(ZP m k).length=m.1.toNat:=by simp[ZP]
theorem QXS{m:cc}(h:Zp m=true){k:Nat}(hk:(k:Int)<m.2.1):Ye (ZP m k)=true:=by
 obtain⟨h1,h2,h3,h4,h5,h6,h7⟩:=rE h;unfold Ye ZP;rw[List.all_eq_true];intro x hx;obtain⟨i,hi,rfl⟩:=List.mem_map.1 hx;have hi:=List.mem_range.1 hi;have hd:=idx (r:=i) (R:=m.1) (C:=m.2.1) (by omega) (by omega) (by omega);unfold Ye at h7;generalize(i:Int)*m.2.1=z at *;generalize m.1*m.2.1=y at *;exact List.all_eq_true.1 h7 _ (Jz (show Int.toNat (z+k)<m.2.2.length by omega) 0)
theorem QK2{m:cc}(h:Zp m=true):Zp (Yx m)=true/\(Yx m).1=m.2.1/\(Yx m).2.1=m.1/\∀ k:Nat,(k:Int)<m.2.1->YA (Yx m) k=ZP m k:=by
 obtain⟨h1,h2,h3,h4,h5,h6,h7⟩:=rE h;have ht:Yx m=(m.2.1,m.1,(List.range m.2.1.toNat).flatMap λk:Nat=>ZP m k):=by unfold Yx;rw[if_pos h]
 have hl:=GA (f:=λk:Nat=>ZP m k) m.2.1.toNat (λk hk=>GB m k)
 have hn:((m.2.1.toNat*m.1.toNat:Nat):Int)=m.2.1*m.1:=by rw[Int.natCast_mul,Int.toNat_of_nonneg (by omega),Int.toNat_of_nonneg (by omega)]
 rw[ht];refine⟨?_,rfl,rfl,λk hk=>?_⟩
 ·simp only[Zp,Bool.and_eq_true,Za,beq_iff_eq];refine⟨⟨⟨⟨h3,h4⟩,h1,h2⟩,by rw[hl,hn]⟩,?_⟩;unfold Ye;rw[List.all_eq_true];intro x hx;obtain⟨k,hk,hx⟩:=List.mem_flatMap.1 hx;have:=QXS h (k:=k) (by have:=List.mem_range.1 hk;omega);unfold Ye at this;exact List.all_eq_true.1 this x hx
 ·have hs:=To (f:=λk:Nat=>ZP m k) (k:=k) m.2.1.toNat (by omega) (λk hk=>GB m k)
  have hd:=idx (r:=k) (R:=m.2.1) (C:=m.1) (by omega) hk (by omega);have e1:Int.toNat ((k:Int)*m.1)=k*m.1.toNat:=by
   have:((k*m.1.toNat:Nat):Int)=(k:Int)*m.1:=by rw[Int.natCast_mul,Int.toNat_of_nonneg (by omega)]
   omega
  unfold YA slice;simp only;rw[show Int.toNat (((k:Int)+1)*m.1)-Int.toNat ((k:Int)*m.1)=m.1.toNat by omega,e1];exact hs
theorem QO5{m:cc}{d:List Int}(h:Zp m=true)(hd:QH d m.1=true):Q6 (Yx m) d=Zr m d:=by
 obtain⟨h1,h2,h3,h4⟩:=QK2 h;unfold Q6 Zr;rw[if_pos (by rw[h1,h3,hd];rfl),if_pos (by rw[h,hd];rfl),h2];have e:∀ i,i∈List.range m.2.1.toNat->YA (Yx m) (i:Nat)=ZP m (i:Nat):=λi hi=>h4 i (by have:=List.mem_range.1 hi;omega);refine Prod.ext (List.map_congr_left λi hi=>by rw[e i hi]) ?_;show(List.range m.2.1.toNat).any _=(List.range m.2.1.toNat).any _;rw[Bool.eq_iff_iff,List.any_eq_true,List.any_eq_true];constructor
 ·rintro⟨i,hi,h⟩;exact⟨i,hi,by rw[<- e i hi];exact h⟩
 ·rintro⟨i,hi,h⟩;exact⟨i,hi,by rw[e i hi];exact h⟩
theorem Tp{m:cc}{d:List Int}(h:¬ (Zp m=true/\QH d m.1=true)):Zr m d=([],false):=by unfold Zr;rw[if_neg (by simpa using h)]
theorem Tq{m:cc}{d:List Int}(h:¬ (Zp m=true/\QH d m.2.1=true)):Q6 m d=([],false):=by unfold Q6;rw[if_neg (by simpa using h)]
theorem Aw{x:Int}(h:0<=x):0<=QQ x:=by
 unfold QQ jO jP;repeat' split
 all_goals omega
theorem Tr:∀(a:List Int)(z:Int),0<=z->0<=(Yn a a z).1
 | [],z,h=>by simpa[Yn]using h
 | x::r,z,h=>by
  rw[Yn];refine Tr r _ ?_;have h1:0<=QQ x*QQ x:=by
   rcases Int.le_total 0 (QQ x) with h2 | h2
   ·exact Int.mul_nonneg h2 h2
   ·exact Int.mul_nonneg_of_nonpos_of_nonpos h2 h2
  have h3:0<=Int.fdiv (QQ x*QQ x) 65536:=by rw[Int.fdiv_eq_ediv_of_nonneg _ (by omega)];omega
  have h4:0<=(Q7 x x).1:=Aw h3;have h5:=Aw h;have h6:=Aw h4;exact Aw (by omega)
theorem QR1(a:List Int):0<=(Q1 a a).1:=by
 unfold Q1;split
 ·exact Tr a 0 (by omega)
 ·show(0:Int)<=0;omega
theorem GC(x:List Int)(n:Int):(!(QK x)||((x.length:Int) != n)) = !(QH x n):=by unfold QH;simp[bne]
theorem Ax{o:aH}(h:Zi o=true)(h4:o.1=4):0<o.2.2.2.length:=by
 have:=Tm h;rw[if_neg (by omega),if_neg (by omega),if_pos h4]at this;omega
theorem Ts{o:aH}{x:List Int}(h:¬ (Zi o=true/\QH x o.2.1=true)):ZY o x=([],false):=by unfold ZY;rw[if_neg (by simpa using h)]
theorem Tt{o:aH}{x d:List Int}(h:¬ ((Zi o=true/\QH x o.2.1=true)/\QH d o.2.2.1=true)):ZU o x d=([],[],false):=by unfold ZU;rw[if_neg (by simpa using h)]
theorem Ay{o:aH}(h:Zi o=true):1<=o.1/\o.1<=5:=by simp only[Zi,Bool.and_eq_true,Za]at h;exact h.1.1.1.1.1
theorem rF{α:Type}(v:List α):List.take (id v).length (List.drop 0 (id v))=v:=by simp
theorem tM{α:Type}(v:List α):List.take (0+v.length) (List.drop 0 v)=v:=by simp
theorem xn{α:Type}(v:List α):List.take v.length (List.drop 0 v)=v:=by simp
theorem drop_nil{α:Type}{l:List α}{k:Nat}(h:l.length<=k):l.drop k=[]:=List.drop_eq_nil_of_le h
theorem YC{α:Type}[Sz α]{l:List α}{A:Int->List α->Prop}{Q:List α->Prop}(hs:sz l<=2147483648)
  (hA:∀(k:Nat)(x:α)(v:List α),k<l.length->l.length<=2147483648->(∀ d,ar d l k=x)->v.length=k->sz x<=2147483648->A ((k+1:Nat):Int) (v++[x])->A (k:Nat) v)
  (hE:Q l->A (l.length:Nat) l) (hq:Q l):A 0 []:=by
 have hl:=Yo l;refine Zf l (λr k=>∀ v,v.length=k->v++r=l->A k v) ?_ ?_ [] rfl rfl
 ·intro v hv he;rw[List.append_nil]at he;subst he;exact hE hq
 ·intro k x r hk aW hg ih v hv he;have hx:=xg hk;exact hA k x v aW (by omega) hg hv (by omega) (ih _ (Yc hv) (by rw[<- he];simp))
theorem QRD{o:aH}(h:Zi o=true):o.2.2.2.length<=36:=by
 have h1:=Tm h;have h2:=S7 h;have h3:=rm h2.1 h2.2.1 h2.2.2.1 h2.2.2.2
 split at h1
 ·omega
 ·split at h1
  ·omega
  ·split at h1 <;> omega
theorem Az{α:Type}(d:α){v:List α}{k:Nat}(h:v.length=k+1):v.take k++[ar d v k]=v:=by
 have h1:ar d v k=v[k]'(by omega):=An (List.getElem?_eq_getElem (by omega)) d;rw[h1,List.take_append_getElem (by omega),List.take_of_length_le (by omega)]
theorem Tu{α:Type}(d:α){v:List α}{n:Nat}(y:α)(h:v.length=n):ar d (v++[y]) n=y:=by
 refine An ?_ d;rw[List.getElem?_append_right (by omega)];simp[h]
theorem Tv{α:Type}{v:List α}{n:Nat}(y:α)(h:v.length=n):(v++[y]).take n=v:=by
 rw[List.take_append_of_le_length (by omega),List.take_of_length_le (by omega)]
theorem GD{α:Type}(n:Nat)(e g:α)(l:List α):(List.replicate (n+1) e++l).set n g=List.replicate n e++g::l:=by
 rw[List.replicate_succ',List.append_assoc,List.set_append_right _ _ (by simp)];simp
theorem GF{m:Zx}{x:List Int}(h1:Zc m=true)(h2:QH x (ZN m)=true):JY m x=QW m x:=by unfold JY;rw[if_pos (by rw[h1,h2];rfl)]
theorem Tw:∀ {ops:List aH} {rows:List (List Int)},rows.length=ops.length->(∀ o,o∈ops->Zi o=true)->YR ops rows=true->sz rows<=37*ops.length
 | [],[],_,_,_=>by simp
 | [],r::rs,h,_,_=>by simp at h
 | o::os,[],h,_,_=>by simp at h
 | o::os,r::rs,h,ho,hg=>by
  simp only[YR,Bool.and_eq_true,beq_iff_eq]at hg;have h1:=QRD (ho o List.mem_cons_self);have h2:=Tw (by simpa using h) (λp hp=>ho p (List.mem_cons_of_mem _ hp)) hg.2;have h3:=ZK r;rw[Jq,List.length_cons];omega
theorem QRb{m:Zx}(h:Zc m=true):∀ o,o∈m->Zi o=true:=by
 intro o ho;obtain⟨i,hi⟩:=List.getElem?_of_mem ho;simp only[Zc,Bool.and_eq_true]at h;exact(Gi h.2 i o hi).1
theorem Tx{m:Zx}(h:Zc m=true){a:QO}(h1:a.1.length=m.length/\YR m a.1=true):sz a<=296:=by
 have:=Tw h1.1 (QRb h) h1.2;have:=Yu h;simp only[QR,QL,QY];omega
end Go.Proofs.YtdplaepmjogjjaaGreat.Am

set_option linter.all false
namespace Go.Proofs.YtdplaepmjogjjaaGreat.Am
open Go Go.RowKit Sz
def gu{α:Type}(d:α)(i:Nat)(p:α->Int->α)(z:Int × List α):Int × List α:=(aG (z.1+(1:Int)),z.2.set i (p (ar d z.2 i) z.1))
def f8{α β:Type}(d:α)(i:Nat)(g:α->β)(p:α->β->α)(f:β->Int->Int × β)(z:Int × List α):Int × List α :=
 ((f (g (ar d z.2 i)) z.1).1,z.2.set i (p (ar d z.2 i) (f (g (ar d z.2 i)) z.1).2))
theorem Ya{α:Type}(d:α)(pre post:List α)(x:α):ar d (pre++x::post) pre.length=x:=by
 simp[ar]
theorem J6{α:Type}(pre post:List α)(x y:α):(pre++x::post).set pre.length y=pre++y::post:=by
 simp
theorem J5{α:Type}(d:α)(p:α->Int->α)(k:Int)(pre post:List α)(x:α):gu d pre.length p (k,pre++x::post)=(aG (k+1),pre++p x k::post):=by
 simp[gu,Ya]
theorem nG{α β:Type}(d:α)(g:α->β)(p:α->β->α)(f:β->Int->Int × β)(k:Int)(pre post:List α)(x:α):f8 d pre.length g p f (k,pre++x::post)=((f (g x) k).1,pre++p x (f (g x) k).2::post):=by
 simp[f8,Ya]
theorem iJ{α:Type}(pre post:List α)(x:α):(pre.length<(pre++x::post).length)=True:=by
 simp
class Mk(α:Type) where
 m:α->Int->Int × α
 n:α->Nat
 im:∀(x:α)(k:Int),0<=k->k+(n x:Nat)<=1099511627776->(m x k).1=k+(n x:Nat)
 idem:∀(x:α)(k:Int),m (m x k).2 k=m x k
 same:∀(x:α)(k:Int),n (m x k).2=n x
instance:Mk Int where
 m _ k:=(aG (k+1),k)
 n _:=1
 im x k h1 h2:=QG (by omega) (by simp at h2;omega)
 idem _ _:=rfl
 same _ _:=rfl
instance:Mk Bool where
 m _ k:=(aG (k+1),Int.tmod k 3==0)
 n _:=1
 im x k h1 h2:=QG (by omega) (by simp at h2;omega)
 idem _ _:=rfl
 same _ _:=rfl
instance {α β:Type} [Mk α] [Mk β]:Mk (α × β) where
 m x k:=((Mk.m x.2 (Mk.m x.1 k).1).1,((Mk.m x.1 k).2,(Mk.m x.2 (Mk.m x.1 k).1).2))
 n x:=Mk.n x.1+Mk.n x.2
 im x k h1 h2:=by
  have e:=Mk.im x.1 k h1 (by omega)
  simp only
  rw[e,Mk.im x.2 _ (by omega) (by omega)]
  omega
 idem x k:=by simp only[Mk.idem]
 same x k:=by simp only[Mk.same]
def lV{α:Type}[Mk α]:List α->Int->Int × List α
 | [],k=>(k,[])
 | x::r,k=>((lV r (Mk.m x k).1).1,(Mk.m x k).2::(lV r (Mk.m x k).1).2)
def nL{α:Type}[Mk α]:List α->Nat
 | []=>0
 | x::r=>Mk.n x+nL r
instance {α:Type} [Mk α]:Mk (List α) where
 m:=lV
 n:=nL
 im x:=by
  induction x with
  | nil=>intro k _ _;simp[lV,nL]
  | cons x r ih =>
   intro k h1 h2
   simp only[nL]at h2 ⊢
   have e:=Mk.im x k h1 (by omega)
   simp only[lV,e]
   rw[ih _ (by omega) (by omega)]
   omega
 idem x:=by
  induction x with
  | nil=>intro k;rfl
  | cons x r ih=>intro k;simp only[lV,Mk.idem,ih]
 same x:=by
  induction x with
  | nil=>intro k;rfl
  | cons x r ih=>intro k;simp only[lV,nL,Mk.same,ih]
theorem QSv{α:Type}[Mk α](x:List α):∀(k:Int),(Mk.m x k).2.length=x.length:=by
 induction x with
 | nil=>intro k;rfl
 | cons x r ih=>intro k;show(Mk.m r (Mk.m x k).1).2.length+1=r.length+1;rw[ih]
theorem AA{α:Type}[Mk α](x:List α)(k:Int):List.take x.length (Mk.m x k).2=(Mk.m x k).2:=List.take_of_length_le (by rw[QSv];exact Nat.le_refl _)
class cV(α:Type) where
 m:α->Int->Int × α
 n:α->Nat
 im:∀(x:α)(k:Int),0<=k->k+(n x:Nat)<=1099511627776->(m x k).1=k+(n x:Nat)
 idem:∀(x:α)(k:Int),m (m x k).2 k=m x k
 same:∀(x:α)(k:Int),n (m x k).2=n x
instance:cV Int where
 m x k:=(k,x)
 n _:=0
 im x k _ _:=by simp
 idem _ _:=rfl
 same _ _:=rfl
instance:cV Bool where
 m x k:=(k,x)
 n _:=0
 im x k _ _:=by simp
 idem _ _:=rfl
 same _ _:=rfl
instance {α β:Type} [cV α] [cV β]:cV (α × β) where
 m x k:=((cV.m x.2 (cV.m x.1 k).1).1,((cV.m x.1 k).2,(cV.m x.2 (cV.m x.1 k).1).2))
 n x:=cV.n x.1+cV.n x.2
 im x k h1 h2:=by
  have e:=cV.im x.1 k h1 (by omega)
  simp only
  rw[e,cV.im x.2 _ (by omega) (by omega)]
  omega
 idem x k:=by simp only[cV.idem]
 same x k:=by simp only[cV.same]
instance {α:Type} [Mk α]:cV (List α) where
 m:=Mk.m
 n:=Mk.n
 im:=Mk.im
 idem:=Mk.idem
 same:=Mk.same
def QT{α:Type}[Mk α](x:α)(k:Int):Int × α:=Mk.m x k
def ZZ{α:Type}[cV α](x:α)(k:Int):Int × α:=cV.m x k
def Q5{α:Type}[Mk α](x:α)(k:Int):Prop:=0<=k/\k+(Mk.n x:Nat)<=1099511627776
def Jn{α:Type}[cV α](x:α)(k:Int):Prop:=0<=k/\k+(cV.n x:Nat)<=1099511627776
open Classical in
noncomputable def aT{α:Type}[Mk α](x:α)(k:Int):Int:=if(Mk.m x k).2=x then(Mk.m x k).1 else -1
open Classical in
noncomputable def ef{α:Type}[cV α](x:α)(k:Int):Int:=if(cV.m x k).2=x then(cV.m x k).1 else -1
theorem xp{α:Type}[Mk α]{x:α}{k:Int}(h:(Mk.m x k).2=x):aT x k=(Mk.m x k).1:=by simp[aT,h]
theorem AB{α:Type}[Mk α]{x:α}{k:Int}(h:¬ (Mk.m x k).2=x):aT x k = -1:=by simp[aT,h]
theorem Ty{α:Type}[cV α]{x:α}{k:Int}(h:(cV.m x k).2=x):ef x k=(cV.m x k).1:=by simp[ef,h]
theorem AD{α:Type}[cV α]{x:α}{k:Int}(h:¬ (cV.m x k).2=x):ef x k = -1:=by simp[ef,h]
theorem Z9{α:Type}[Mk α]{x:α}{k:Int}(hp:Q5 x k)(h:aT x k<0):¬ (Mk.m x k).2=x:=λe=>by
 rw[xp e,Mk.im x k hp.1 hp.2]at h;have:=hp.1;omega
theorem Z8{α:Type}[Mk α]{x:α}{k:Int}(h:¬ aT x k<0):(Mk.m x k).2=x/\aT x k=(Mk.m x k).1:=by
 apply Classical.byContradiction;intro hn;have:¬ (Mk.m x k).2=x:=λe=>hn ⟨e,xp e⟩;rw[AB this]at h;omega
theorem o3{α β:Type}[Mk α][Mk β](x:α × β)(k:Int):Mk.m x k=((Mk.m x.2 (Mk.m x.1 k).1).1,((Mk.m x.1 k).2,(Mk.m x.2 (Mk.m x.1 k).1).2)):=rfl
theorem o4(x:Int)(k:Int):Mk.m x k=(aG (k+1),k):=rfl
theorem o5(x:Bool)(k:Int):Mk.m x k=(aG (k+1),Int.tmod k 3==0):=rfl
theorem QGb{α β:Type}[cV α][cV β](x:α × β)(k:Int):cV.m x k=((cV.m x.2 (cV.m x.1 k).1).1,((cV.m x.1 k).2,(cV.m x.2 (cV.m x.1 k).1).2)):=rfl
theorem QH1(x:Int)(k:Int):cV.m x k=(k,x):=rfl
theorem QJG(x:Bool)(k:Int):cV.m x k=(k,x):=rfl
theorem QSw{α:Type}[Mk α](x:List α)(k:Int):cV.m x k=Mk.m x k:=rfl
theorem Zb{α β:Type}[Mk α][Mk β]{x:α × β}{k:Int}(h:Q5 x k):Q5 x.1 k/\Q5 x.2 (Mk.m x.1 k).1:=by
 have hn:Mk.n x=Mk.n x.1+Mk.n x.2:=rfl;unfold Q5 at *;rw[hn]at h;have e:=Mk.im x.1 k h.1 (by omega);rw[e];omega
theorem tN{α β:Type}[cV α][cV β]{x:α × β}{k:Int}(h:Jn x k):Jn x.1 k/\Jn x.2 (cV.m x.1 k).1:=by
 have hn:cV.n x=cV.n x.1+cV.n x.2:=rfl;unfold Jn at *;rw[hn]at h;have e:=cV.im x.1 k h.1 (by omega);rw[e];omega
theorem o6{α:Type}[Mk α]{x:List α}{k:Int}(h:Jn x k):Q5 x k:=h
theorem Yp:(¬ (3:Int)=0)=True:=by simp
theorem YW{α:Type}[BEq α][LawfulBEq α]{x y:α}(h:(x != y)=false):x=y:=by simpa using h
theorem YS{α:Type}[BEq α][LawfulBEq α]{x y:α}(h:(x != y)=true):¬ x=y:=by simpa using h
theorem Ys{α:Type}[Sz α]{a:List α}(h:bB a):a.length<=1048576:=Nat.le_trans (Yo a) h
theorem nH{α:Type}(l:List α)(i:Nat)(x:α):(l.set i x).take l.length=l.set i x:=List.take_of_length_le (by simp)
theorem nI{α:Type}[Sz α](a:List α){d:α}{A:Int->List α->Prop}{Q:List α->Prop}(h:bB a)
  (hs:∀(k:Nat)(x:α)(out:List α),k<a.length->(∀ d,ar d a k=x)->out.length=a.length->bB x->A ((k+1:Nat):Int) (out.set k x)->A ((k:Nat):Int) out)
  (he:∀ out:List α,out.length=a.length->Q out->A ((a.length:Nat):Int) out) (hq:Q a):A 0 (List.take (Int.toNat (a.length:Int)) (List.replicate (Int.toNat (a.length:Int)) d)):=by
 have key:∀ out:List α,out.length=a.length->out.take 0=a.take 0->A (0:Nat) out:=by
  refine Zf a (λr k=>∀ out:List α,out.length=a.length->out.take k=a.take k->A k out) ?_ ?_
  ·intro out hl ht;refine he out hl ?_;rw[List.take_of_length_le (by omega),List.take_of_length_le (by omega)]at ht;rw[ht];exact hq
  ·intro k x r hk aW hg ih out hl ht;refine hs k x out aW hg hl (by have:=xg hk;unfold bB at h ⊢;omega) (ih _ (by simp[hl]) ?_);have hx:a[k]? = some x:=by have:=congrArg List.head? hk;simpa[List.head?_drop]using this
   rw[List.take_add_one,List.take_add_one,List.getElem?_set_self (by omega),hx,List.take_set_of_le (by omega),ht]
 exact key _ (by simp) rfl
theorem nJ{α:Type}[Mk α](a:List α)(k:Int){A:Int->Int->List α->Prop}{Q:Int × List α->Prop}
  (hs:∀(k:Int)(pre post:List α)(x:α),pre.length+1+post.length=a.length->A (Mk.m x k).1 (((pre.length+1:Nat)):Int) (pre++(Mk.m x k).2::post)->A k ((pre.length:Nat):Int) (pre++x::post))
  (he:∀(k:Int)(l:List α),l.length=a.length->Q (k,l)->A k ((a.length:Nat):Int) l) (hq:Q (QT a k)):A k 0 a:=by
 suffices ∀(post pre:List α)(k:Int),pre.length+post.length=a.length->Q ((lV post k).1,pre++(lV post k).2)->A k ((pre.length:Nat):Int) (pre++post) from this a [] k (by simp) hq
 intro post
 induction post with
 | nil =>
  intro pre k hl hq;have:=he k (pre++[]) (by simpa using hl) (by simpa[lV]using hq);rw[show pre.length=a.length by simpa using hl];exact this
 | cons x post ih =>
  intro pre k hl hq;refine hs k pre post x (by simp at hl;omega) ?_;have:=ih (pre++[(Mk.m x k).2]) (Mk.m x k).1 (by simp at hl ⊢;omega) (by simpa[lV]using hq);simpa using this
theorem nK{α:Type}[Mk α](a:List α)(k:Int)(hp:Q5 a k){A:Int->Int->Prop}{Q:Int->Prop}
  (hs:∀(k:Int)(pre post:List α)(x:α),a=pre++x::post->Q5 x k->(¬ (Mk.m x k).2=x->Q (-1))->((Mk.m x k).2=x->A (Mk.m x k).1 (((pre.length+1:Nat)):Int))->A k ((pre.length:Nat):Int))
  (he:∀(k:Int),Q k->A k ((a.length:Nat):Int)) (hq:Q (aT a k)):A k 0:=by
 suffices ∀(post pre:List α)(k:Int),a=pre++post->Q5 post k->Q (aT post k)->A k ((pre.length:Nat):Int) from this a [] k (by simp) hp hq
 intro post
 induction post with
 | nil =>
  intro pre k hl _ hq;have:pre.length=a.length:=by rw[hl];simp
  rw[this];exact he k (by have:=xp (x:=([]:List α)) (k:=k) rfl;rw[this]at hq;exact hq)
 | cons x post ih =>
  intro pre k hl hp hq;have hn:Mk.n (x::post)=Mk.n x+Mk.n post:=rfl;have ij:=hp;unfold Q5 at hp;rw[hn]at hp;have fQ:Q5 x k:=⟨hp.1,by have:=hp.2;omega⟩
  have Tz:=Mk.im x k fQ.1 fQ.2;refine hs k pre post x hl fQ (λdM=>?_) (λheq=>?_)
  ·rw[AB (λh=>dM (by have:((Mk.m x k).2::(Mk.m post (Mk.m x k).1).2)=x::post:=h;injection this))]at hq;exact hq
  ·have:=ih (pre++[x]) (Mk.m x k).1 (by simp[hl]) ⟨by rw[Tz];omega,by rw[Tz];have:=hp.2;omega⟩ (by
    by_cases h:(Mk.m post (Mk.m x k).1).2=post
    ·rw[xp h];rw[xp (show(Mk.m (x::post) k).2=x::post from by show(Mk.m x k).2::(Mk.m post (Mk.m x k).1).2=_;rw[heq,h])]at hq;exact hq
    ·rw[AB h];rw[AB (λh'=>h (by have:((Mk.m x k).2::(Mk.m post (Mk.m x k).1).2)=x::post:=h';injection this))]at hq;exact hq)
   simpa using this
end Go.Proofs.YtdplaepmjogjjaaGreat.Am
namespace Go.Proofs.YtdplaepmjogjjaaGreat.Am
open Go Go.RowKit Sz
theorem nM{α β:Type}[Mk α][Mk β](x:α × β):Mk.n x=Mk.n x.1+Mk.n x.2:=rfl
theorem JT(x:Int):Mk.n x=1:=rfl
theorem QJy(x:Bool):Mk.n x=1:=rfl
theorem QLE{α β:Type}[cV α][cV β](x:α × β):cV.n x=cV.n x.1+cV.n x.2:=rfl
theorem QT7{α:Type}[Mk α](x:List α):cV.n x=Mk.n x:=rfl
theorem nN{α:Type}[Sz α][Mk α](h:∀ x:α,Mk.n x<=16+16*sz x)(l:List α):Mk.n l<=16*sz l:=by
 induction l with
 | nil=>exact Nat.zero_le _
 | cons x r ih =>
  have h1:=h x;have h2:Mk.n (x::r)=Mk.n x+Mk.n r:=rfl;rw[h2,Jq];omega
theorem nO(l:List Int):Mk.n l<=16*sz l:=nN (λx=>by rw[JT];omega) l
theorem GG(l:List (List Int)):Mk.n l<=16*sz l:=nN (λx=>by have:=nO x;omega) l
theorem QE4(l:List bu):Mk.n l<=16*sz l:=nN (λx=>by rw[nM,JT,JT];omega) l
theorem QOr(l:List Qm):Mk.n l<=16*sz l:=nN (λx=>by have:=nO x.2;rw[nM,JT,QR,QL];omega) l
theorem QS4(l:List aH):Mk.n l<=16*sz l:=nN (λx=>by
 have:=nO x.2.2.2;rw[nM,nM x.2,nM x.2.2,JT,JT,JT,QR,QR x.2,QR x.2.2,QL,QL,QL];omega) l
theorem QQO(l:List Qo):Mk.n l<=16*sz l:=nN (λx=>by have:=nO x.1;have:=nO x.2;rw[nM,QR];omega) l
theorem QKw(l:List QD):Mk.n l<=16*sz l:=nN (λx=>by have:=GG x.2;rw[nM,JT,QR,QL];omega) l
theorem TA(l:List Qd):Mk.n l<=16*sz l:=nN (λx=>by have:=QOr x.2;rw[nM,JT,QR,QL];omega) l
theorem QP8(l:List Qc):Mk.n l<=16*sz l:=nN (λx=>by
 obtain⟨a,b,c,d,e,f,g,h,i,j,k,m,n,o⟩:=x;have h1:=QE4 b;have h2:=QS4 c;have h3:=QKw f;have h4:=GG g;have h5:=nO h;have h6:=nO i;have h7:=nO j;have h8:=nO k;have h9:=GG m;simp only[nM,JT,QJy,YM,QL,QY];omega) l
theorem TB(x:Qk):cV.n x<=16*sz x:=by
 obtain⟨a,b,c,d⟩:=x;have h1:=QQO a;have h2:=QP8 b;have h3:=TA c;have h4:=TA d;simp only[QLE,QT7,YM];omega
theorem TC{α:Type}[Sz α][cV α]{x:α}{k:Int}{b c:Nat}(hk:0<=k/\k<=b)(hn:cV.n x<=16*sz x)(hs:sz x<=c)(hb:b+16*c<=1099511627776):Jn x k/\0<=(ZZ x k).1/\(ZZ x k).1<=((b+16*c:Nat):Int):=by
 have hp:Jn x k:=⟨hk.1,by omega⟩
 have:=cV.im x k hp.1 hp.2;have:(ZZ x k).1=k+(cV.n x:Nat):=this;exact⟨hp,by omega,by omega⟩
theorem QHj{α:Type}[cV α]{x:α}{k:Int}(hp:Jn x k):Jn (ZZ x k).2 k/\ef (ZZ x k).2 k=(ZZ x k).1:=by
 refine⟨⟨hp.1,?_⟩,?_⟩
 ·have:cV.n (ZZ x k).2=cV.n x:=cV.same x k;rw[this];exact hp.2
 ·have h:cV.m (ZZ x k).2 k=cV.m x k:=cV.idem x k;rw[Ty (by rw[h];rfl),h];rfl
end Go.Proofs.YtdplaepmjogjjaaGreat.Am

namespace Go.Proofs.YtdplaepmjogjjaaGreat.Am
open Go Go.RowKit Go.Proofs.YtdplaepmjogjjaaGreat
set_option linter.all false
noncomputable section
variable (K:aB->Prop)
def tO(t:Int):aB:=b6 (aL t)
def rG:aI:=Qg 59 [(.c (.sl [TI])),(.c TI)] λx=>(some (bJ (α:=List Int) x.1 x.2.1),tO (bh (α:=List Int) x.1 x.2.1))
def QI3:aF:=⟨[],false⟩
def QQH:af :=
 (ag [(.ae [ab 4 (aq 0)]),(.ae [ab 5 1,ab 6 0,ba 7 6,aw 8 .sub 5 7,ab 1 8]),(ag [(.ae [ab 9 1,aw 10 .lss 9 (aq 0)]),(.cond 10 (ag [(.ae [ab 4 (aq (-1))]),.ret]) .skip)]),(.ae [ab 11 1,ab 4 11]),.ret])
def QOW:List (bn × Md):=[(.t 4,.one .d)]
theorem QPf(a:List Int)(left:Int)(hp:bJ (α:=List Int) a left):aK Tryz.prog 59 [(.c (.sl [TI]) a),(.c TI left)] (tO (bh (α:=List Int) a left)):=by
 refine bz QI3 QQH QOW 0 0 12 rG kn (λK =>
 (aJ (decide ((aG (left-(a.length:Int)))<0)) (K (tO (-1:Int))) (K (tO (aG (left-(a.length:Int))))))) (λhb=>?_)
 exact S6 (Q:=λx=>tO x=tO (bh (α:=List Int) a left)) (λ_=>rfl) hp hb.1.1 rfl
theorem xq:Qf Tryz.prog rG:=Qi λx h=>QPf x.1 x.2.1 h
def AE(t:Int):aB:=b6 (aL t)
def GH:aI:=Qg 154 [(.a [(.sl [TI])]),(.c TI)] λx=>(some (bJ (α:=List Int) x.1 x.2.1),AE (bh (α:=List Int) x.1 x.2.1))
def QLl:aF:=⟨[rG],false⟩
def QUW:af :=
 (ag [(.ae [aC 2 (.box 189 0 1),ab 4 (aq 0)]),(.ae [ak 5 2 0,an 6 5 1,ab 7 1,aD 8 59 [6,7],ab 1 8]),(ag [(.ae [ab 9 1,aw 10 .lss 9 (aq 0)]),(.cond 10 (ag [(.ae [ab 4 (aq (-1))]),.ret]) .skip)]),(.ae [ab 11 1,ab 4 11]),.ret])
def QIk:List (bn × Md):=[(.t 4,.one .d)]
theorem QH9(a:List Int)(left:Int)(hp:bJ (α:=List Int) a left):aK Tryz.prog 154 [(.a [(.c (.sl [TI]) a)]),(.c TI left)] (AE (bh (α:=List Int) a left)):=by
 refine bz QLl QUW QIk 0 0 12 GH (kc xq kn) (λK =>
 ((bJ (α:=List Int) a left)/\(aJ (decide ((bh (α:=List Int) a left)<0)) (K (AE (-1:Int))) (K (AE (bh (α:=List Int) a left)))))) (λhb=>?_)
 refine⟨hp,λh=>au (Z2 (of_decide_eq_true h) (by first | omega | (simp only[QR,QL,QY];omega)) hp.1),λh=>?_⟩;exact au (congrArg (Yb · _) (by first | rfl | omega | (simp only[QR,QL,QY];omega)))
theorem QHD:Qf Tryz.prog GH:=Qi λx h=>QH9 x.1 x.2.1 h
def rH(t:Int):aB:=b6 (aL t)
def xr:aI:=Qg 58 [(.c (.sl [(.sl [TI])])),(.c TI)] λx=>(some (bJ (α:=List (List Int)) x.1 x.2.1),rH (bh (α:=List (List Int)) x.1 x.2.1))
def GI:aF:=⟨[GH],false⟩
def TD:af :=
 (ag [(ag [(.ae [ab 12 5,ab 13 0,ba 14 13,aw 15 .lss 12 14]),(.cond 15 .skip (.exit 0))]),(.block 1 (ag [(.ae [ab 18 0,ab 19 5,a0 20 18 19 [(.sl [TI])],a8 21 20 1,ab 22 1,aD 23 154 [21,22],ab 1 23]),(.ae [ab 24 1,aw 25 .lss 24 (aq 0)]),(.cond 25 (ag [(.ae [ab 4 (aq (-1))]),.ret]) .skip)])),(.ae [ab 16 5,aw 17 .add 16 (aq 1),ab 5 17])])
def TF:List (Nat × Md):=eV [0,1,5]
def TG:af :=
 (ag [(.ae [ab 26 1,ab 4 26]),.ret])
def QJz:af :=
 (ag [(.ae [ab 4 (aq 0)]),(.ae [ab 6 1,ab 7 0,ba 8 7,aw 9 .sub 6 8,ab 1 9]),(ag [(.ae [ab 10 1,aw 11 .lss 10 (aq 0)]),(.cond 11 (ag [(.ae [ab 4 (aq (-1))]),.ret]) .skip)]),(ag [(.ae [ab 5 (aq 0)]),(.block 0 (.loop TF TD))]),TG])
def TH:List (bn × Md):=[(.t 4,.one .d)]
def TJ:Qb:=TQ 0 0 TH K
def QUA:Qb:=aY (aO GI 0 TG (TJ K)) (TJ K)
def QO6:Qb:=a7 0 (QUA K)
def GJ(a:List (List Int))(bC:Int)(i:Int):Prop:=Loop GI 0 TF TD (QO6 K) ⟨[(0,(bg [(.sl [TI])] a)),(1,(aL bC)),(5,(aL i))],[],0⟩
theorem QTo(a:List (List Int))(bC:Int)(i:Int) (h :
 (aJ (decide (i<(a.length:Int))) (((0<=i/\Int.toNat i<a.length)/\(bJ (α:=List Int) (ar ([]:List Int) a (Int.toNat i)) bC))/\(aJ (decide ((bh (α:=List Int) (ar ([]:List Int) a (Int.toNat i)) bC)<0)) (K (rH (-1:Int))) (GJ K a (bh (α:=List Int) (ar ([]:List Int) a (Int.toNat i)) bC) (aG (i+1))))) (K (rH bC)))):GJ K a bC i :=
 Loop.of h
theorem QSk(a:List (List Int))(left:Int)(hp:bJ (α:=List (List Int)) a left):aK Tryz.prog 58 [(.c (.sl [(.sl [TI])]) a),(.c TI left)] (rH (bh (α:=List (List Int)) a left)):=by
 refine bz GI QJz TH 0 0 27 xr (kc QHD kn) (λK =>
 (aJ (decide ((aG (left-(a.length:Int)))<0)) (K (rH (-1:Int))) (GJ K a (aG (left-(a.length:Int))) 0))) (λhb=>?_)
 exact rl (Q:=λx=>rH x=rH (bh (α:=List (List Int)) a left)) ([]:List Int) hp hb.1.1 (λl i h=>QTo _ a l i h) rfl
theorem GK:Qf Tryz.prog xr:=Qi λx h=>QSk x.1 x.2.1 h
def AF(t:Int):aB:=b6 (aL t)
def GL:aI:=Qg 60 [(.a Zj),(.c TI)] λx=>(some (bJ (α:=QO) x.1 x.2.1),AF (bh (α:=QO) x.1 x.2.1))
def QXO:aF:=⟨[xr],false⟩
def QYh:af :=
 (ag [(.ae [aC 2 (.box 28 0 3),ab 4 (aq 0)]),(.ae [ak 5 2 0,an 6 5 1,ab 7 1,aD 8 58 [6,7],ab 1 8]),(ag [(.ae [ab 9 1,aw 10 .lss 9 (aq 0)]),(.cond 10 (ag [(.ae [ab 4 (aq (-1))]),.ret]) .skip)]),(.ae [ab 11 1,ab 4 11]),.ret])
def QFW:List (bn × Md):=[(.t 4,.one .d)]
theorem QSY(a:QO)(left:Int)(hp:bJ (α:=QO) a left):aK Tryz.prog 60 [(.a (aS.cells Zj a)),(.c TI left)] (AF (bh (α:=QO) a left)):=by
 refine bz QXO QYh QFW 0 0 12 GL (kc GK kn) (λK =>
 ((bJ (α:=List (List Int)) a.1 left)/\(aJ (decide ((bh (α:=List (List Int)) a.1 left)<0)) (K (AF (-1:Int))) (K (AF (bh (α:=List (List Int)) a.1 left)))))) (λhb=>?_)
 refine⟨hp,λh=>au (Z2 (of_decide_eq_true h) (by first | omega | (simp only[QR,QL,QY];omega)) hp.1),λh=>?_⟩;exact au (congrArg (Yb · _) (by first | rfl | omega | (simp only[QR,QL,QY];omega)))
theorem QVS:Qf Tryz.prog GL:=Qi λx h=>QSY x.1 x.2.1 h
def xt(t:Int):aB:=b6 (aL t)
def GM:aI:=Qg 116 [(.a QF),(.c TI)] λx=>(some (bJ (α:=Qo) x.1 x.2.1),xt (bh (α:=Qo) x.1 x.2.1))
def QNA:aF:=⟨[rG],false⟩
def QTD:af :=
 (ag [(.ae [aC 2 (.box 151 0 2),ab 4 (aq 0)]),(.ae [ak 5 2 0,an 6 5 1,ab 7 1,aD 8 59 [6,7],ab 1 8]),(ag [(.ae [ab 9 1,aw 10 .lss 9 (aq 0)]),(.cond 10 (ag [(.ae [ab 4 (aq (-1))]),.ret]) .skip)]),(.ae [ak 11 2 1,an 12 11 1,ab 13 1,aD 14 59 [12,13],ab 1 14]),(ag [(.ae [ab 15 1,aw 16 .lss 15 (aq 0)]),(.cond 16 (ag [(.ae [ab 4 (aq (-1))]),.ret]) .skip)]),(.ae [ab 17 1,ab 4 17]),.ret])
def QKN:List (bn × Md):=[(.t 4,.one .d)]
theorem QVl(a:Qo)(left:Int)(hp:bJ (α:=Qo) a left):aK Tryz.prog 116 [(.a [(.c (.sl [TI]) a.1),(.c (.sl [TI]) a.2)]),(.c TI left)] (xt (bh (α:=Qo) a left)):=by
 refine bz QNA QTD QKN 0 0 18 GM (kc xq kn) (λK =>
 ((bJ (α:=List Int) a.1 left)/\(aJ (decide ((bh (α:=List Int) a.1 left)<0)) (K (xt (-1:Int))) ((bJ (α:=List Int) a.2 (bh (α:=List Int) a.1 left))/\(aJ (decide ((bh (α:=List Int) a.2 (bh (α:=List Int) a.1 left))<0)) (K (xt (-1:Int))) (K (xt (bh (α:=List Int) a.2 (bh (α:=List Int) a.1 left))))))))) (λhb=>?_)
 refine⟨hp,λh=>au (Z2 (of_decide_eq_true h) (by first | omega | (simp only[QR,QL,QY];omega)) hp.1),λh=>?_⟩;rw[Jr (Int.not_lt.1 (of_decide_eq_false h))];refine⟨Jw hp,λh=>au (Z2 (of_decide_eq_true h) (by first | omega | (simp only[QR,QL,QY];omega)) hp.1),λh=>?_⟩;exact au (congrArg (Yb · _) (by first | rfl | omega | (simp only[QR,QL,QY];omega)))
theorem QYH:Qf Tryz.prog GM:=Qi λx h=>QVl x.1 x.2.1 h
def rI(t:Int):aB:=b6 (aL t)
def GN:aI:=Qg 34 [(.c (.sl QF)),(.c TI)] λx=>(some (bJ (α:=List Qo) x.1 x.2.1),rI (bh (α:=List Qo) x.1 x.2.1))
def GO:aF:=⟨[GM],false⟩
def TK:af :=
 (ag [(ag [(.ae [ab 12 5,ab 13 0,ba 14 13,aw 15 .lss 12 14]),(.cond 15 .skip (.exit 0))]),(.block 1 (ag [(.ae [ab 18 0,ab 19 5,a0 20 18 19 QF,a8 21 20 2,ab 22 1,aD 23 116 [21,22],ab 1 23]),(.ae [ab 24 1,aw 25 .lss 24 (aq 0)]),(.cond 25 (ag [(.ae [ab 4 (aq (-1))]),.ret]) .skip)])),(.ae [ab 16 5,aw 17 .add 16 (aq 1),ab 5 17])])
def TL:List (Nat × Md):=eV [0,1,5]
def TM:af :=
 (ag [(.ae [ab 26 1,ab 4 26]),.ret])
def QMu:af :=
 (ag [(.ae [ab 4 (aq 0)]),(.ae [ab 6 1,ab 7 0,ba 8 7,aw 9 .sub 6 8,ab 1 9]),(ag [(.ae [ab 10 1,aw 11 .lss 10 (aq 0)]),(.cond 11 (ag [(.ae [ab 4 (aq (-1))]),.ret]) .skip)]),(ag [(.ae [ab 5 (aq 0)]),(.block 0 (.loop TL TK))]),TM])
def TN:List (bn × Md):=[(.t 4,.one .d)]
def TO:Qb:=TQ 0 0 TN K
def QUI:Qb:=aY (aO GO 0 TM (TO K)) (TO K)
def QQt:Qb:=a7 0 (QUI K)
def GP(a:List Qo)(bC:Int)(i:Int):Prop:=Loop GO 0 TL TK (QQt K) ⟨[(0,(bg QF a)),(1,(aL bC)),(5,(aL i))],[],0⟩
theorem QNd(a:List Qo)(bC:Int)(i:Int) (h :
 (aJ (decide (i<(a.length:Int))) (((0<=i/\Int.toNat i<a.length)/\(bJ (α:=Qo) (ar QV a (Int.toNat i)) bC))/\(aJ (decide ((bh (α:=Qo) (ar QV a (Int.toNat i)) bC)<0)) (K (rI (-1:Int))) (GP K a (bh (α:=Qo) (ar QV a (Int.toNat i)) bC) (aG (i+1))))) (K (rI bC)))):GP K a bC i :=
 Loop.of h
theorem QR6(a:List Qo)(left:Int)(hp:bJ (α:=List Qo) a left):aK Tryz.prog 34 [(.c (.sl QF) a),(.c TI left)] (rI (bh (α:=List Qo) a left)):=by
 refine bz GO QMu TN 0 0 27 GN (kc QYH kn) (λK =>
 (aJ (decide ((aG (left-(a.length:Int)))<0)) (K (rI (-1:Int))) (GP K a (aG (left-(a.length:Int))) 0))) (λhb=>?_)
 exact rl (Q:=λx=>rI x=rI (bh (α:=List Qo) a left)) QV hp hb.1.1 (λl i h=>QNd _ a l i h) rfl
theorem QSl:Qf Tryz.prog GN:=Qi λx h=>QR6 x.1 x.2.1 h
def tP(t:(List Int)):aB:=⟨(.r [TI] 0 0 t.length),[(.sl 3 [TI] (.dp 0 true []) t)],[],false,[]⟩
def rJ:aI:=Qg 29 [(.c (.sl [TI]))] λx=>(some (bB (α:=List Int) x.1),tP (id (α:=List Int) x.1))
def GQ:aF:=⟨[],true⟩
def TP:af :=
 (ag [(ag [(.ae [ab 8 4,ab 9 0,ba 10 9,aw 11 .lss 8 10]),(.cond 11 .skip (.exit 0))]),(.block 1 (.ae [ab 14 3,ab 15 4,ab 16 0,ab 17 4,a0 18 16 17 [TI],an 19 18 1,a0 20 14 15 [TI],aU 20 19 1])),(.ae [ab 12 4,aw 13 .add 12 (aq 1),ab 4 13])])
def TR:List (Nat × Md):=[(0,.one .d),(3,.one .f),(4,.one .d)]
def TS:af :=
 (ag [(.ae [ab 21 3,ab 2 21]),.ret])
def QTd:af :=
 (ag [(.ae [ab 2 (.k (.n [TI]))]),(.ae [ab 5 0,ba 6 5,aC 7 (.mk 3 [TI] [(aL 0)] 6),ab 3 7]),(ag [(.ae [ab 4 (aq 0)]),(.block 0 (.loop TR TP))]),TS])
def TT:List (bn × Md):=[(.t 2,.one (.p 3))]
def TU:Qb:=TQ 0 0 TT K
def QYC:Qb:=aY (aO GQ 0 TS (TU K)) (TU K)
def QPu:Qb:=a7 0 (QYC K)
def AG(a:List Int)(i:Int)(out:List Int):Prop:=Loop GQ 0 TR TP (QPu K) ⟨[(0,(bg [TI] a)),(3,(.r [TI] 0 0 out.length)),(4,(aL i))],[(0,(.sl 3 [TI] (.dp 0 true []) out))],1⟩
theorem TW(a:List Int)(i:Int)(out:List Int) (h :
 (aJ (decide (i<(a.length:Int))) (((0<=i/\Int.toNat i<a.length)/\((0<=i/\Int.toNat i<out.length)/\((0+(Int.toNat i))<out.length)))/\(AG K a (aG (i+1)) (List.take out.length ((out).set (0+(Int.toNat i)) (ar (0:Int) a (Int.toNat i)))))) (K (tP (List.take out.length out))))):AG K a i out :=
 Loop.of h
theorem QIw(a:List Int)(hp:bB (α:=List Int) a):aK Tryz.prog 29 [(.c (.sl [TI]) a)] (tP (id (α:=List Int) a)):=by
 refine bz GQ QTd TT 0 0 22 rJ kn (λK =>
 ((0<=(a.length:Int)/\(a.length:Int)<=ca)/\(AG K a 0 (List.take (Int.toNat (a.length:Int)) (List.replicate (Int.toNat (a.length:Int)) (0:Int)))))) (λhb=>?_)
 refine⟨⟨by omega,by rw[gS];have:=Ys hp;omega⟩,?_⟩;refine nI a (A:=λii ll=>AG (λr'=>r'=tP (id (α:=List Int) a)) a ii ll) (Q:=λz=>tP z=tP (id (α:=List Int) a)) hp ?_ ?_ rfl
 ·intro k x out aW hg ho hx hA;have hw:aG (((k:Nat):Int)+1)=((k+1:Nat):Int):=by have:=Ys hp;rw[QG (by omega) (by omega)];omega
  have g8:k<out.length:=by omega
  refine TW _ _ _ _ ?_;refine⟨λ_=>?_,λh=>absurd h (by simp;omega)⟩;simp only[Int.toNat_natCast,Nat.zero_add,hg,hw,aW,g8,nH,List.drop_zero,List.take_length,id_eq,and_true,true_and,Int.natCast_nonneg]
  first | exact hA | exact⟨hx,hA⟩
 ·intro out ho hq;refine TW _ _ _ _ ?_;refine⟨λh=>absurd h (by simp),λ_=>?_⟩;simp only[List.drop_zero,List.take_length];exact hq
theorem xu:Qf Tryz.prog rJ:=Qi λx h=>QIw x.1 h
def GR(t:(List Int)):aB:=⟨(.a [(.r [TI] 0 0 t.length)]),[(.sl 3 [TI] (.dp 0 true []) t)],[],false,[]⟩
def GS:aI:=Qg 164 [(.a [(.sl [TI])])] λx=>(some (bB (α:=List Int) x.1),GR (id (α:=List Int) x.1))
def QK3:aF:=⟨[rJ],true⟩
def QT4:af :=
 (ag [(.ae [aC 1 (.box 189 0 1),aC 2 (.new 106 [(.n [TI])])]),(.ae [aC 3 (.new 106 [(.n [TI])])]),(.ae [ak 4 1 0,an 5 4 1,aD 6 29 [5],ak 7 3 0,aU 7 6 1]),(.ae [a8 8 3 1,aU 2 8 1]),.ret])
def QK5:List (bn × Md):=[(.l 2 1 true,.b [.p 3])]
theorem QOy(a:List Int)(hp:bB (α:=List Int) a):aK Tryz.prog 164 [(.a [(.c (.sl [TI]) a)])] (GR (id (α:=List Int) a)):=by
 refine bz QK3 QT4 QK5 0 0 9 GS (kc xu kn) (λK =>
 ((bB (α:=List Int) a)/\K (GR (List.take ((id (α:=List Int) a).length) (id (α:=List Int) a))))) (λhb=>?_)
 repeat' (first | refine And.intro ?_ ?_ | exact au (by simp))
 all_goals (simp only[bB,QR,QL,QY,List.drop_zero,List.take_length,id_eq]at hp ⊢;omega)
theorem QFe:Qf Tryz.prog GS:=Qi λx h=>QOy x.1 h
def tQ(t:(List (List Int))):aB:=⟨(.r [(.sl [TI])] 0 0 t.length),[(.sl 106 [(.sl [TI])] (.dp 0 true []) t)],[],false,[]⟩
def xw:aI:=Qg 68 [(.c (.sl [(.sl [TI])]))] λx=>(some (bB (α:=List (List Int)) x.1),tQ (id (α:=List (List Int)) x.1))
def GU:aF:=⟨[GS],true⟩
def TX:af :=
 (ag [(ag [(.ae [ab 8 4,ab 9 0,ba 10 9,aw 11 .lss 8 10]),(.cond 11 .skip (.exit 0))]),(.block 1 (.ae [ab 14 3,ab 15 4,ab 16 0,ab 17 4,a0 18 16 17 [(.sl [TI])],a8 19 18 1,aD 20 164 [19],a0 21 14 15 [(.sl [TI])],aU 21 20 1])),(.ae [ab 12 4,aw 13 .add 12 (aq 1),ab 4 13])])
def TY:List (Nat × Md):=[(0,.one .d),(3,.one .f),(4,.one .d)]
def TZ:af :=
 (ag [(.ae [ab 22 3,ab 2 22]),.ret])
def QKG:af :=
 (ag [(.ae [ab 2 (.k (.n [(.sl [TI])]))]),(.ae [ab 5 0,ba 6 5,aC 7 (.mk 106 [(.sl [TI])] [(.n [TI])] 6),ab 3 7]),(ag [(.ae [ab 4 (aq 0)]),(.block 0 (.loop TY TX))]),TZ])
def T1:List (bn × Md):=[(.t 2,.one (.p 106))]
def T2:Qb:=TQ 0 0 T1 K
def QHY:Qb:=aY (aO GU 0 TZ (T2 K)) (T2 K)
def QRe:Qb:=a7 0 (QHY K)
def AH(a:List (List Int))(i:Int)(out:List (List Int)):Prop:=Loop GU 0 TY TX (QRe K) ⟨[(0,(bg [(.sl [TI])] a)),(3,(.r [(.sl [TI])] 0 0 out.length)),(4,(aL i))],[(0,(.sl 106 [(.sl [TI])] (.dp 0 true []) out))],1⟩
theorem T3(a:List (List Int))(i:Int)(out:List (List Int)) (h :
 (aJ (decide (i<(a.length:Int))) (((0<=i/\Int.toNat i<a.length)/\((bB (α:=List Int) (ar ([]:List Int) a (Int.toNat i)))/\((0<=i/\Int.toNat i<out.length)/\((0+(Int.toNat i))<out.length))))/\(AH K a (aG (i+1)) (List.take out.length ((out).set (0+(Int.toNat i)) (List.take ((id (α:=List Int) (ar ([]:List Int) a (Int.toNat i))).length) (List.drop 0 (id (α:=List Int) (ar ([]:List Int) a (Int.toNat i))))))))) (K (tQ (List.take out.length out))))):AH K a i out :=
 Loop.of h
theorem QQf(a:List (List Int))(hp:bB (α:=List (List Int)) a):aK Tryz.prog 68 [(.c (.sl [(.sl [TI])]) a)] (tQ (id (α:=List (List Int)) a)):=by
 refine bz GU QKG T1 0 0 23 xw (kc QFe kn) (λK =>
 ((0<=(a.length:Int)/\(a.length:Int)<=ca)/\(AH K a 0 (List.take (Int.toNat (a.length:Int)) (List.replicate (Int.toNat (a.length:Int)) ([]:List Int)))))) (λhb=>?_)
 refine⟨⟨by omega,by rw[gS];have:=Ys hp;omega⟩,?_⟩;refine nI a (A:=λii ll=>AH (λr'=>r'=tQ (id (α:=List (List Int)) a)) a ii ll) (Q:=λz=>tQ z=tQ (id (α:=List (List Int)) a)) hp ?_ ?_ rfl
 ·intro k x out aW hg ho hx hA;have hw:aG (((k:Nat):Int)+1)=((k+1:Nat):Int):=by have:=Ys hp;rw[QG (by omega) (by omega)];omega
  have g8:k<out.length:=by omega
  refine T3 _ _ _ _ ?_;refine⟨λ_=>?_,λh=>absurd h (by simp;omega)⟩;simp only[Int.toNat_natCast,Nat.zero_add,hg,hw,aW,g8,nH,List.drop_zero,List.take_length,id_eq,and_true,true_and,Int.natCast_nonneg]
  first | exact hA | exact⟨hx,hA⟩
 ·intro out ho hq;refine T3 _ _ _ _ ?_;refine⟨λh=>absurd h (by simp),λ_=>?_⟩;simp only[List.drop_zero,List.take_length];exact hq
theorem GV:Qf Tryz.prog xw:=Qi λx h=>QQf x.1 h
def GW(t:QO):aB:=⟨(.a [(.r [(.sl [TI])] 0 0 ((t.1).length)),(aL t.2.1),(bE t.2.2)]),[(.sl 106 [(.sl [TI])] (.dp 0 true []) t.1)],[],false,[]⟩
def GY:aI:=Qg 69 [(.a Zj)] λx=>(some (bB (α:=QO) x.1),GW (id (α:=QO) x.1))
def QOC:aF:=⟨[xw],true⟩
def QFp:af :=
 (ag [(.ae [aC 1 (.box 28 0 3),aC 2 (.new 37 (bG Zj))]),(.ae [aC 3 (.new 37 (bG Zj))]),(.ae [ak 4 1 0,an 5 4 1,aD 6 68 [5],ak 7 3 0,aU 7 6 1]),(.ae [ak 8 1 1,an 9 8 1,ak 10 3 1,aU 10 9 1]),(.ae [ak 11 1 2,an 12 11 1,ak 13 3 2,aU 13 12 1]),(.ae [a8 14 3 3,aU 2 14 3]),.ret])
def QIT:List (bn × Md):=[(.l 2 3 true,.b [.p 106,.d,.d])]
theorem QKK(a:QO)(hp:bB (α:=QO) a):aK Tryz.prog 69 [(.a (aS.cells Zj a))] (GW (id (α:=QO) a)):=by
 refine bz QOC QFp QIT 0 0 15 GY (kc GV kn) (λK =>
 ((bB (α:=List (List Int)) a.1)/\K (GW ((List.take ((id (α:=List (List Int)) a.1).length) (id (α:=List (List Int)) a.1)),a.2.1,a.2.2)))) (λhb=>?_)
 repeat' (first | refine And.intro ?_ ?_ | exact au (by simp))
 all_goals (simp only[bB,QR,QL,QY,List.drop_zero,List.take_length,id_eq]at hp ⊢;omega)
theorem QX7:Qf Tryz.prog GY:=Qi λx h=>QKK x.1 h
def GZ(t:Qo):aB:=⟨(.a [(.r [TI] 0 0 ((t.1).length)),(.r [TI] 1 0 ((t.2).length))]),[(.sl 3 [TI] (.dp 0 true []) t.1),(.sl 3 [TI] (.dp 0 true []) t.2)],[],false,[]⟩
def G1:aI:=Qg 124 [(.a QF)] λx=>(some (bB (α:=Qo) x.1),GZ (id (α:=Qo) x.1))
def QLG:aF:=⟨[rJ],true⟩
def QQR:af :=
 (ag [(.ae [aC 1 (.box 151 0 2),aC 2 (.new 154 (bG QF))]),(.ae [aC 3 (.new 154 (bG QF))]),(.ae [ak 4 1 0,an 5 4 1,aD 6 29 [5],ak 7 3 0,aU 7 6 1]),(.ae [ak 8 1 1,an 9 8 1,aD 10 29 [9],ak 11 3 1,aU 11 10 1]),(.ae [a8 12 3 2,aU 2 12 2]),.ret])
def QNr:List (bn × Md):=[(.l 2 2 true,.b [.p 3,.p 3])]
theorem QWx(a:Qo)(hp:bB (α:=Qo) a):aK Tryz.prog 124 [(.a [(.c (.sl [TI]) a.1),(.c (.sl [TI]) a.2)])] (GZ (id (α:=Qo) a)):=by
 refine bz QLG QQR QNr 0 0 13 G1 (kc xu kn) (λK =>
 ((bB (α:=List Int) a.1)/\((bB (α:=List Int) a.2)/\K (GZ ((List.take ((id (α:=List Int) a.1).length) (id (α:=List Int) a.1)),(List.take ((id (α:=List Int) a.2).length) (id (α:=List Int) a.2))))))) (λhb=>?_)
 repeat' (first | refine And.intro ?_ ?_ | exact au (by simp))
 all_goals (simp only[bB,QR,QL,QY,List.drop_zero,List.take_length,id_eq]at hp ⊢;omega)
theorem QNl:Qf Tryz.prog G1:=Qi λx h=>QWx x.1 h
def tR(t:(List Qo)):aB:=⟨(.r QF 0 0 t.length),[(.sl 154 QF (.dp 0 true []) t)],[],false,[]⟩
def G2:aI:=Qg 37 [(.c (.sl QF))] λx=>(some (bB (α:=List Qo) x.1),tR (id (α:=List Qo) x.1))
def G3:aF:=⟨[G1],true⟩
def T4:af :=
 (ag [(ag [(.ae [ab 8 4,ab 9 0,ba 10 9,aw 11 .lss 8 10]),(.cond 11 .skip (.exit 0))]),(.block 1 (.ae [ab 14 3,ab 15 4,ab 16 0,ab 17 4,a0 18 16 17 QF,a8 19 18 2,aD 20 124 [19],a0 21 14 15 QF,aU 21 20 2])),(.ae [ab 12 4,aw 13 .add 12 (aq 1),ab 4 13])])
def T5:List (Nat × Md):=[(0,.one .d),(3,.one .f),(4,.one .d)]
def T6:af :=
 (ag [(.ae [ab 22 3,ab 2 22]),.ret])
def QTj:af :=
 (ag [(.ae [ab 2 (.k (.n QF))]),(.ae [ab 5 0,ba 6 5,aC 7 (.mk 154 QF (bG QF) 6),ab 3 7]),(ag [(.ae [ab 4 (aq 0)]),(.block 0 (.loop T5 T4))]),T6])
def T7:List (bn × Md):=[(.t 2,.one (.p 154))]
def T8:Qb:=TQ 0 0 T7 K
def QKy:Qb:=aY (aO G3 0 T6 (T8 K)) (T8 K)
def QYk:Qb:=a7 0 (QKy K)
def AJ(a:List Qo)(i:Int)(out:List Qo):Prop:=Loop G3 0 T5 T4 (QYk K) ⟨[(0,(bg QF a)),(3,(.r QF 0 0 out.length)),(4,(aL i))],[(0,(.sl 154 QF (.dp 0 true []) out))],1⟩
theorem T9(a:List Qo)(i:Int)(out:List Qo) (h :
 (aJ (decide (i<(a.length:Int))) (((0<=i/\Int.toNat i<a.length)/\((bB (α:=Qo) (ar QV a (Int.toNat i)))/\((0<=i/\Int.toNat i<out.length)/\((0+(Int.toNat i))<out.length))))/\(AJ K a (aG (i+1)) (List.take out.length ((out).set (0+(Int.toNat i)) ((List.take (((id (α:=Qo) (ar QV a (Int.toNat i))).1).length) (List.drop 0 ((id (α:=Qo) (ar QV a (Int.toNat i))).1))),(List.take (((id (α:=Qo) (ar QV a (Int.toNat i))).2).length) (List.drop 0 ((id (α:=Qo) (ar QV a (Int.toNat i))).2)))))))) (K (tR (List.take out.length out))))):AJ K a i out :=
 Loop.of h
theorem QR3(a:List Qo)(hp:bB (α:=List Qo) a):aK Tryz.prog 37 [(.c (.sl QF) a)] (tR (id (α:=List Qo) a)):=by
 refine bz G3 QTj T7 0 0 23 G2 (kc QNl kn) (λK =>
 ((0<=(a.length:Int)/\(a.length:Int)<=ca)/\(AJ K a 0 (List.take (Int.toNat (a.length:Int)) (List.replicate (Int.toNat (a.length:Int)) ([],[])))))) (λhb=>?_)
 refine⟨⟨by omega,by rw[gS];have:=Ys hp;omega⟩,?_⟩;refine nI a (A:=λii ll=>AJ (λr'=>r'=tR (id (α:=List Qo) a)) a ii ll) (Q:=λz=>tR z=tR (id (α:=List Qo) a)) hp ?_ ?_ rfl
 ·intro k x out aW hg ho hx hA;have hw:aG (((k:Nat):Int)+1)=((k+1:Nat):Int):=by have:=Ys hp;rw[QG (by omega) (by omega)];omega
  have g8:k<out.length:=by omega
  refine T9 _ _ _ _ ?_;refine⟨λ_=>?_,λh=>absurd h (by simp;omega)⟩;simp only[Int.toNat_natCast,Nat.zero_add,hg,hw,aW,g8,nH,List.drop_zero,List.take_length,id_eq,and_true,true_and,Int.natCast_nonneg]
  first | exact hA | exact⟨hx,hA⟩
 ·intro out ho hq;refine T9 _ _ _ _ ?_;refine⟨λh=>absurd h (by simp),λ_=>?_⟩;simp only[List.drop_zero,List.take_length];exact hq
theorem QXw:Qf Tryz.prog G2:=Qi λx h=>QR3 x.1 h
def rK(t:Bool):aB:=b6 (bE t)
def rL:aI:=Qg 23 [(.c (.sl [TI])),(.c (.sl [TI]))] λx=>(none,rK (aZ (α:=List Int) x.1 x.2.1))
def G4:aF:=⟨[],false⟩
def Ua:af :=
 (ag [(ag [(.ae [ab 11 5,ab 12 0,ba 13 12,aw 14 .lss 11 13]),(.cond 14 .skip (.exit 0))]),(.block 1 (ag [(.draw [ab 17 0,ab 18 5,a0 19 17 18 [TI],an 20 19 1,ab 21 1,ab 22 5,a0 23 21 22 [TI],an 24 23 1,aw 25 .neq 20 24] []),(.cond 25 (ag [(.ae [ab 4 (a6 false)]),.ret]) .skip)])),(.ae [ab 15 5,aw 16 .add 15 (aq 1),ab 5 16])])
def Ub:List (Nat × Md):=eV [0,1,5]
def Uc:af :=
 (ag [(.ae [ab 4 (a6 true)]),.ret])
def QKX:af :=
 (ag [(.ae [ab 4 (a6 false)]),(ag [(.ae [ab 6 0,ba 7 6,ab 8 1,ba 9 8,aw 10 .neq 7 9]),(.cond 10 (ag [(.ae [ab 4 (a6 false)]),.ret]) .skip)]),(ag [(.ae [ab 5 (aq 0)]),(.block 0 (.loop Ub Ua))]),Uc])
def Ud:List (bn × Md):=[(.t 4,.one .d)]
def Ue:Qb:=TQ 0 0 Ud K
def QTs:Qb:=aY (aO G4 0 Uc (Ue K)) (Ue K)
def QYJ:Qb:=a7 0 (QTs K)
def G5(a:List Int)(b:List Int)(i:Int):Prop:=Loop G4 0 Ub Ua (QYJ K) ⟨[(0,(bg [TI] a)),(1,(bg [TI] b)),(5,(aL i))],[],0⟩
theorem QFk(a:List Int)(b:List Int)(i:Int) (h :
 (aJ (decide (i<(a.length:Int))) (((0<=i/\Int.toNat i<a.length)/\(0<=i/\Int.toNat i<b.length))/\(aJ ((ar (0:Int) a (Int.toNat i)) != (ar (0:Int) b (Int.toNat i))) (K (rK false)) (G5 K a b (aG (i+1))))) (K (rK true)))):G5 K a b i :=
 Loop.of h
theorem QJ5(a:List Int)(b:List Int):aK Tryz.prog 23 [(.c (.sl [TI]) a),(.c (.sl [TI]) b)] (rK (aZ (α:=List Int) a b)):=by
 refine bz G4 QKX Ud 0 0 26 rL kn (λK =>
 (aJ ((a.length:Int) != (b.length:Int)) (K (rK false)) (G5 K a b 0))) (λhb=>?_)
 exact QRG hb.1.1 (λi h=>QFk _ a b i h) (Q:=λx=>rK x=rK (aZ (α:=List Int) a b)) rfl
theorem xx:Qf Tryz.prog rL:=Qi λx _=>QJ5 x.1 x.2.1
def AK(t:Bool):aB:=b6 (bE t)
def G6:aI:=Qg 174 [(.a [(.sl [TI])]),(.a [(.sl [TI])])] λx=>(none,AK (aZ (α:=List Int) x.1 x.2.1))
def QJb:aF:=⟨[rL],false⟩
def QPo:af :=
 (ag [(.ae [aC 2 (.box 106 0 1),aC 3 (.box 106 1 1),ab 4 (a6 false)]),(ag [(.ae [ak 5 2 0,an 6 5 1,ak 7 3 0,an 8 7 1,aD 9 23 [6,8],bL 10 9]),(.cond 10 (ag [(.ae [ab 4 (a6 false)]),.ret]) .skip)]),(.ae [ab 4 (a6 true)]),.ret])
def QWX:List (bn × Md):=[(.t 4,.one .d)]
theorem QMs(a:List Int)(b:List Int):aK Tryz.prog 174 [(.a [(.c (.sl [TI]) a)]),(.a [(.c (.sl [TI]) b)])] (AK (aZ (α:=List Int) a b)):=by
 refine bz QJb QPo QWX 0 0 11 G6 (kc xx kn) (λK =>
 (aJ (!(aZ (α:=List Int) a b)) (K (AK false)) (K (AK true)))) (λhb=>?_)
 refine⟨λh=>au (Eq.symm (decide_eq_false (by rintro rfl;simp[aZ]at h))),λh0=>?_⟩;refine au (Eq.symm (decide_eq_true ?_));simp[aZ]at h0;simp[Prod.ext_iff, *]
theorem QHt:Qf Tryz.prog G6:=Qi λx _=>QMs x.1 x.2.1
def rM(t:Bool):aB:=b6 (bE t)
def xy:aI:=Qg 78 [(.c (.sl [(.sl [TI])])),(.c (.sl [(.sl [TI])]))] λx=>(none,rM (aZ (α:=List (List Int)) x.1 x.2.1))
def G7:aF:=⟨[G6],false⟩
def Uf:af :=
 (ag [(ag [(.ae [ab 11 5,ab 12 0,ba 13 12,aw 14 .lss 11 13]),(.cond 14 .skip (.exit 0))]),(.block 1 (ag [(.draw [ab 17 0,ab 18 5,a0 19 17 18 [(.sl [TI])],a8 20 19 1,ab 21 1,ab 22 5,a0 23 21 22 [(.sl [TI])],a8 24 23 1,aD 25 174 [20,24],bL 26 25] []),(.cond 26 (ag [(.ae [ab 4 (a6 false)]),.ret]) .skip)])),(.ae [ab 15 5,aw 16 .add 15 (aq 1),ab 5 16])])
def Ug:List (Nat × Md):=eV [0,1,5]
def Uh:af :=
 (ag [(.ae [ab 4 (a6 true)]),.ret])
def QHg:af :=
 (ag [(.ae [ab 4 (a6 false)]),(ag [(.ae [ab 6 0,ba 7 6,ab 8 1,ba 9 8,aw 10 .neq 7 9]),(.cond 10 (ag [(.ae [ab 4 (a6 false)]),.ret]) .skip)]),(ag [(.ae [ab 5 (aq 0)]),(.block 0 (.loop Ug Uf))]),Uh])
def Ui:List (bn × Md):=[(.t 4,.one .d)]
def Uj:Qb:=TQ 0 0 Ui K
def QPN:Qb:=aY (aO G7 0 Uh (Uj K)) (Uj K)
def QNa:Qb:=a7 0 (QPN K)
def G8(a:List (List Int))(b:List (List Int))(i:Int):Prop:=Loop G7 0 Ug Uf (QNa K) ⟨[(0,(bg [(.sl [TI])] a)),(1,(bg [(.sl [TI])] b)),(5,(aL i))],[],0⟩
theorem QN9(a:List (List Int))(b:List (List Int))(i:Int) (h :
 (aJ (decide (i<(a.length:Int))) (((0<=i/\Int.toNat i<a.length)/\(0<=i/\Int.toNat i<b.length))/\(aJ (!(aZ (α:=List Int) (ar ([]:List Int) a (Int.toNat i)) (ar ([]:List Int) b (Int.toNat i)))) (K (rM false)) (G8 K a b (aG (i+1))))) (K (rM true)))):G8 K a b i :=
 Loop.of h
theorem QVa(a:List (List Int))(b:List (List Int)):aK Tryz.prog 78 [(.c (.sl [(.sl [TI])]) a),(.c (.sl [(.sl [TI])]) b)] (rM (aZ (α:=List (List Int)) a b)):=by
 refine bz G7 QHg Ui 0 0 27 xy (kc QHt kn) (λK =>
 (aJ ((a.length:Int) != (b.length:Int)) (K (rM false)) (G8 K a b 0))) (λhb=>?_)
 exact J2 ([]:List Int) (E:=aZ) (λ_ _=>rfl) hb.1.1 (λi h=>QN9 _ a b i h) (Q:=λx=>rM x=rM (aZ (α:=List (List Int)) a b)) rfl
theorem G9:Qf Tryz.prog xy:=Qi λx _=>QVa x.1 x.2.1
def tS(t:Bool):aB:=b6 (bE t)
def Ha:aI:=Qg 46 [(.a Zj),(.a Zj)] λx=>(none,tS (aZ (α:=QO) x.1 x.2.1))
def QJs:aF:=⟨[xy],false⟩
def QUc:af :=
 (ag [(.ae [aC 2 (.box 37 0 3),aC 3 (.box 37 1 3),ab 4 (a6 false)]),(ag [(.ae [ak 5 2 0,an 6 5 1,ak 7 3 0,an 8 7 1,aD 9 78 [6,8],bL 10 9]),(.cond 10 (ag [(.ae [ab 4 (a6 false)]),.ret]) .skip)]),(ag [(.ae [ak 11 2 1,an 12 11 1,ak 13 3 1,an 14 13 1,aw 15 .neq 12 14]),(.cond 15 (ag [(.ae [ab 4 (a6 false)]),.ret]) .skip)]),(ag [(.ae [ak 16 2 2,an 17 16 1,ak 18 3 2,an 19 18 1,aC 20 (.ic true 17 19)]),(.cond 20 (ag [(.ae [ab 4 (a6 false)]),.ret]) .skip)]),(.ae [ab 4 (a6 true)]),.ret])
def QYA:List (bn × Md):=[(.t 4,.one .d)]
theorem QIW(a:QO)(b:QO):aK Tryz.prog 46 [(.a (aS.cells Zj a)),(.a (aS.cells Zj b))] (tS (aZ (α:=QO) a b)):=by
 refine bz QJs QUc QYA 0 0 21 Ha (kc G9 kn) (λK =>
 (aJ (!(aZ (α:=List (List Int)) a.1 b.1)) (K (tS false)) (aJ (a.2.1 != b.2.1) (K (tS false)) (aJ (!(a.2.2==b.2.2)) (K (tS false)) (K (tS true)))))) (λhb=>?_)
 refine⟨λh=>au (Eq.symm (decide_eq_false (by rintro rfl;simp[aZ]at h))),λh0=>?_⟩;refine⟨λh=>au (Eq.symm (decide_eq_false (by rintro rfl;simp[aZ]at h))),λh1=>?_⟩;refine⟨λh=>au (Eq.symm (decide_eq_false (by rintro rfl;simp[aZ]at h))),λh2=>?_⟩;refine au (Eq.symm (decide_eq_true ?_));simp[aZ]at h0 h1 h2;simp[Prod.ext_iff, *]
theorem QRf:Qf Tryz.prog Ha:=Qi λx _=>QIW x.1 x.2.1
def xz(t:Bool):aB:=b6 (bE t)
def Hb:aI:=Qg 133 [(.a QF),(.a QF)] λx=>(none,xz (aZ (α:=Qo) x.1 x.2.1))
def QMM:aF:=⟨[rL],false⟩
def QGZ:af :=
 (ag [(.ae [aC 2 (.box 154 0 2),aC 3 (.box 154 1 2),ab 4 (a6 false)]),(ag [(.ae [ak 5 2 0,an 6 5 1,ak 7 3 0,an 8 7 1,aD 9 23 [6,8],bL 10 9]),(.cond 10 (ag [(.ae [ab 4 (a6 false)]),.ret]) .skip)]),(ag [(.ae [ak 11 2 1,an 12 11 1,ak 13 3 1,an 14 13 1,aD 15 23 [12,14],bL 16 15]),(.cond 16 (ag [(.ae [ab 4 (a6 false)]),.ret]) .skip)]),(.ae [ab 4 (a6 true)]),.ret])
def QOu:List (bn × Md):=[(.t 4,.one .d)]
theorem QJm(a:Qo)(b:Qo):aK Tryz.prog 133 [(.a [(.c (.sl [TI]) a.1),(.c (.sl [TI]) a.2)]),(.a [(.c (.sl [TI]) b.1),(.c (.sl [TI]) b.2)])] (xz (aZ (α:=Qo) a b)):=by
 refine bz QMM QGZ QOu 0 0 17 Hb (kc xx kn) (λK =>
 (aJ (!(aZ (α:=List Int) a.1 b.1)) (K (xz false)) (aJ (!(aZ (α:=List Int) a.2 b.2)) (K (xz false)) (K (xz true))))) (λhb=>?_)
 refine⟨λh=>au (Eq.symm (decide_eq_false (by rintro rfl;simp[aZ]at h))),λh0=>?_⟩;refine⟨λh=>au (Eq.symm (decide_eq_false (by rintro rfl;simp[aZ]at h))),λh1=>?_⟩;refine au (Eq.symm (decide_eq_true ?_));simp[aZ]at h0 h1;simp[Prod.ext_iff, *]
theorem QXU:Qf Tryz.prog Hb:=Qi λx _=>QJm x.1 x.2.1
def rN(t:Bool):aB:=b6 (bE t)
def Hc:aI:=Qg 40 [(.c (.sl QF)),(.c (.sl QF))] λx=>(none,rN (aZ (α:=List Qo) x.1 x.2.1))
def He:aF:=⟨[Hb],false⟩
def Uk:af :=
 (ag [(ag [(.ae [ab 11 5,ab 12 0,ba 13 12,aw 14 .lss 11 13]),(.cond 14 .skip (.exit 0))]),(.block 1 (ag [(.draw [ab 17 0,ab 18 5,a0 19 17 18 QF,a8 20 19 2,ab 21 1,ab 22 5,a0 23 21 22 QF,a8 24 23 2,aD 25 133 [20,24],bL 26 25] []),(.cond 26 (ag [(.ae [ab 4 (a6 false)]),.ret]) .skip)])),(.ae [ab 15 5,aw 16 .add 15 (aq 1),ab 5 16])])
def Ul:List (Nat × Md):=eV [0,1,5]
def Um:af :=
 (ag [(.ae [ab 4 (a6 true)]),.ret])
def QKE:af :=
 (ag [(.ae [ab 4 (a6 false)]),(ag [(.ae [ab 6 0,ba 7 6,ab 8 1,ba 9 8,aw 10 .neq 7 9]),(.cond 10 (ag [(.ae [ab 4 (a6 false)]),.ret]) .skip)]),(ag [(.ae [ab 5 (aq 0)]),(.block 0 (.loop Ul Uk))]),Um])
def Un:List (bn × Md):=[(.t 4,.one .d)]
def Uo:Qb:=TQ 0 0 Un K
def QQV:Qb:=aY (aO He 0 Um (Uo K)) (Uo K)
def QOv:Qb:=a7 0 (QQV K)
def Hf(a:List Qo)(b:List Qo)(i:Int):Prop:=Loop He 0 Ul Uk (QOv K) ⟨[(0,(bg QF a)),(1,(bg QF b)),(5,(aL i))],[],0⟩
theorem QL5(a:List Qo)(b:List Qo)(i:Int) (h :
 (aJ (decide (i<(a.length:Int))) (((0<=i/\Int.toNat i<a.length)/\(0<=i/\Int.toNat i<b.length))/\(aJ (!(aZ (α:=Qo) (ar QV a (Int.toNat i)) (ar QV b (Int.toNat i)))) (K (rN false)) (Hf K a b (aG (i+1))))) (K (rN true)))):Hf K a b i :=
 Loop.of h
theorem QMR(a:List Qo)(b:List Qo):aK Tryz.prog 40 [(.c (.sl QF) a),(.c (.sl QF) b)] (rN (aZ (α:=List Qo) a b)):=by
 refine bz He QKE Un 0 0 27 Hc (kc QXU kn) (λK =>
 (aJ ((a.length:Int) != (b.length:Int)) (K (rN false)) (Hf K a b 0))) (λhb=>?_)
 exact J2 QV (E:=aZ) (λ_ _=>rfl) hb.1.1 (λi h=>QL5 _ a b i h) (Q:=λx=>rN x=rN (aZ (α:=List Qo) a b)) rfl
theorem QRT:Qf Tryz.prog Hc:=Qi λx _=>QMR x.1 x.2.1
end
end Go.Proofs.YtdplaepmjogjjaaGreat.Am

