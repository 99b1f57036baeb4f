/- -/
import Derived.Test.YtdplaepmjogjjaaGreatVEG4
set_option linter.all false
namespace Go.Proofs.YtdplaepmjogjjaaGreat.Am
open Go Go.RowKit
inductive Md1 where
 | f
 | d
 | o (e:TypeId)
 | p (e:TypeId)
 | w
def Md1.e:Md1→TypeId→TypeId
 | .w,_=>0
 | _,e=>e
def Md1.t:Md1→Bool→Bool
 | .w,_=>false
 | _,t=>t
inductive Md where
 | one (m:Md1)
 | b (ms:List Md1)
 | a (ms:List Md1)
abbrev Acc:=List (Option (Nat × Nat) × TBlk)
def Zk:Acc→Nat→Option Nat
 | [],_=>none
 | (some (j,_),_)::r,i=>bif Nat.beq j i then some 0 else (match Zk r i with | some k=>some (k+1) | none=>none)
 | (none,_)::r,i=>match Zk r i with | some k=>some (k+1) | none=>none
def Mo.rs:Mo→Mo
 | .dp _ t _=>.dp 0 t []
 | m=>m
def isFz:Mo→Bool
 | .fz=>true
 | _=>false
def Z8 (nl:Nat) (h:Nat→TBlk) (m:Md1) (v:TV) (acc:Acc):TV × Acc :=
 match v with
 | .c t x=>(.c t x,acc)
 | .q ts x j=>(.q ts x j,acc)
 | .n ts=>match m with
  | .o e=>match ts with
   | []=>(.u,acc)
   | t::ts=>(.r (t::ts) acc.length 0 0,acc++[(none,.sl e (t::ts) .ow [])])
  | .p e=>match ts with
   | []=>(.u,acc)
   | t::ts=>(.r (t::ts) acc.length 0 0,acc++[(none,.sl e (t::ts) (.dp 0 true []) [])])
  | .w=>match ts with
   | []=>(.u,acc)
   | t::ts=>(.r (t::ts) acc.length 0 0,acc++[(none,.sl 0 (t::ts) (.dp 0 false []) [])])
  | .d=>(.c (.sl ts) [],acc)
  | .f=>(.n ts,acc)
 | .r _ id off len=>match h id with
  | .sl e ts mm es=>match m with
   | .d=>bif isFz mm then (.c (.sl ts) ((es.drop off).take len),acc) else (.u,acc)
   | _=>bif Nat.blt id nl then (bif mm.full then (.r ts id off len,acc) else (.u,acc)) else match Zk acc id with
    | some _=>(.u,acc)
    | none=>match mm with
     | .dp _ t H=>bif H.all (fun x=>Nat.blt x.1 off) then (match off with
      | 0=>(.r ts acc.length 0 (es.take len).length,acc++[(some (id,0),.sl (m.e e) ts (.dp 0 (m.t t) []) (es.take len))])
      | k+1=>(.r ts acc.length 0 ((es.drop (k+1)).take len).length,acc++[(some (id,k+1),.sl (m.e e) ts (.dp 0 false []) ((es.drop (k+1)).take len))])) else (.u,acc)
     | mm=>match off with
      | 0=>(.r ts acc.length 0 (es.take len).length,acc++[(some (id,0),.sl e ts mm (es.take len))])
      | _=>(.u,acc)
  | _=>(.u,acc)
 | _=>(.u,acc)
def Zo (nl:Nat) (h:Nat→TBlk):List Md1→List TV→Acc→List TV × Acc
 | _,[],acc=>([],acc)
 | [],_::xs,acc=>let r:=Zo nl h [] xs acc;(.u::r.1,r.2)
 | m::ms,x::xs,acc=>let a:=Z8 nl h m x acc;let r:=Zo nl h ms xs a.2;(a.1::r.1,r.2)
def conv (nl:Nat) (h:Nat→TBlk) (m:Md) (v:TV) (acc:Acc):TV × Acc :=
 match m with
 | .one m=>Z8 nl h m v acc
 | .b ms=>match v with
  | .p id 0 0=>match h id with
   | .box cs=>match Zk acc id with
    | some k=>(.p k 0 0,acc)
    | none=>let r:=Zo nl h ms cs acc;match Zk r.2 id with
     | none=>(.p r.2.length 0 0,r.2++[(some (id,0),.box r.1)])
     | some _=>(.u,acc)
   | _=>(.u,acc)
  | _=>(.u,acc)
 | .a ms=>match v with
  | .a cs=>let r:=Zo nl h ms cs acc;(.a r.1,r.2)
  | _=>(.u,acc)
def Z2 (nl:Nat) (h:Nat→TBlk) (T:Nat→TV):List (Nat × Md)→Acc→List (Nat × TV) × Acc
 | [],acc=>([],acc)
 | (s,m)::r,acc=>let a:=conv nl h m (T s) acc;let q:=Z2 nl h T r a.2;((s,a.1)::q.1,q.2)
def Qfn:List Md1→List TV→List Nat
 | .d::ms,x::xs=>x.ref1++Qfn ms xs
 | _::ms,_::xs=>Qfn ms xs
 | _,_=>[]
def QaC (h:Nat→TBlk) (T:Nat→TV):List (Nat × Md)→List Nat
 | []=>[]
 | (s,.one .d)::r=>(T s).ref1++QaC h T r
 | (s,.a ms)::r=>(match T s with | .a cs=>Qfn ms cs | _=>[])++QaC h T r
 | (s,.b ms)::r=>(match T s with | .p id _ _=>(match h id with | .box cs=>Qfn ms cs | _=>[]) | _=>[])++QaC h T r
 | _::r=>QaC h T r
def QdT (h:Nat→TBlk):Nat→List Nat
 | 0=>[]
 | n+1=>QdT h n++(match h n with | .box cs=>TV.refsL cs | _=>[])
def alld:List TV→List Md1
 | []=>[]
 | _::xs=>.d::alld xs
def Q1 (h:Nat→TBlk):Nat→Acc
 | 0=>[]
 | n+1=>let a:=Q1 h n;a++[match h n with | .box cs=>(some (n,0),.box (Zo 0 h (alld cs) cs a).1) | .sl e ts m es=>bif m.full then (some (n,0),.sl e ts m.rs es) else (none,.dead) | .dead=>(none,.dead) | .none=>(none,.none)]
def JB:Nat→Acc→List (Nat × TBlk)
 | _,[]=>[]
 | k,(_,b)::r=>(k,b)::JB (k+1) r
def TBlk.full:TBlk→Bool
 | .sl _ _ m _=>m.full
 | _=>true
def frzF (h:Nat→TBlk) (ids:List Nat):Nat→TBlk:=fun i=>bif ids.elem i&&(h i).full then fzT (h i) else h i
def gc (nl:Nat) (L:List (Nat × Md)) (σ:TSt):TSt :=
 let h:=frzF σ.H (QdT σ.H nl++QaC σ.H σ.T L)
 let r:=Z2 nl h σ.T L (Q1 h nl)
 ⟨r.1,JB 0 r.2,r.2.length⟩
section
variable {w:World} {F F':Nat→Prop} {ι:Io} {h:Nat→TBlk}
def QbO:Option (Nat × Nat) × TBlk→Nat
 | (some (_,off),.sl _ ts _ (_::_))=>off*ts.length
 | _=>0
theorem QrR {id off:Nat} {e:TypeId} {ts:List CT} {m:Mo} {es:List (Tup ts)} (h:es≠[]):QbO (some (id,off),.sl e ts m es)=off*ts.length:=by
 cases es with
 | nil=>exact absurd rfl h
 | cons=>rfl
theorem QkY {id:Nat} {b:TBlk}:QbO (some (id,0),b)=0:=by
 cases b with
 | sl e ts m es=>cases es <;> simp [QbO]
 | _=>rfl
theorem QwB {o:Option (Nat × Nat)} {e:TypeId} {ts:List CT} {m:Mo}:QbO (o,.sl e ts m [])=0:=by
 cases o <;> rfl
theorem QjW {o:Option (Nat × Nat)} {cs:List TV}:QbO (o,.box cs)=0:=by
 cases o <;> rfl
def Yw (ι:Io) (x:Option (Nat × Nat) × TBlk):Nat:=match x.1 with
 | some (id,_)=>ι.o id+QbO x
 | none=>0
def aι (ι:Io) (acc:Acc):Io:=⟨fun k=>((acc[k]?).bind (·.1)).bind fun x=>ι x.1,
 fun b=>match ι.k b with
  | some (y,(a,c)::q)=>match Zk acc y with
   | some k=>match acc[k]? with
    | some (some (_,off),_)=>if off≤a then some (k,(a-off,c)::q) else none
    | _=>none
   | none=>none
  | _=>none,
 fun k=>match acc[k]? with
  | some x=>Yw ι x
  | none=>0⟩
def ah (acc:Acc):Nat→Blk:=fun k=>match acc[k]? with | some (_,b)=>b.emb | none=>.none
def JU (w:World) (F:Nat→Prop) (ι:Io) (h:Nat→TBlk) (acc:Acc) (x y:TV):Prop :=
 ∀ (accF:Acc) (F':Nat→Prop),acc <+: accF→(∀ b,F b→F' b)→∀ v,VR w F ι (fun i=>(h i).emb) v x.emb1→VR w F' (aι ι accF) (ah accF) v y.emb1
def Yx (m0 m:Mo) (off:Nat):Prop:=(m0=m∧m.gen=none∧off=0)∨∃ g t H t',m0 = .dp g t H∧m = .dp 0 t' []∧(t'=true→t=true∧off=0)∧∀ x,x∈H→x.1<off
theorem Yx.tip {m0 m:Mo} {off:Nat} (h:Yx m0 m off) (ht:m.tip=true):m0.tip=true∧off=0:=by
 rcases h with ⟨rfl,_,h⟩ | ⟨g,t,H,t',rfl,rfl,h,_⟩
 ·exact ⟨ht,h⟩
 ·exact h ht
theorem Yx.own {m0 m:Mo} {off:Nat} (h:Yx m0 m off):m.own=m0.own:=by
 rcases h with ⟨rfl,_,h⟩ | ⟨g,t,H,t',rfl,rfl,h,_⟩ <;> rfl
theorem Yx.rs {m:Mo} (hf:m.full=true):Yx m m.rs 0:=by
 cases m with
 | dp g t H =>
  cases H with
  | nil=>exact .inr ⟨g,t,[],t,rfl,rfl,fun h=>⟨h,rfl⟩,by simp⟩
  | cons=>simp [Mo.full] at hf
 | _=>exact .inl ⟨rfl,rfl,rfl⟩
def QcJ (w:World) (F:Nat→Prop) (ι:Io) (h:Nat→TBlk) (acc:Acc):Option (Nat × Nat) × TBlk→Prop
 | (some (id,off),.sl e ts m es)=>∃ es0 m0 len,(∃ e0,h id = .sl e0 ts m0 es0∧(m.tip=true→e0=e))∧es=(es0.drop off).take len∧Yx m0 m off
 | (some (id,off),.box cs)=>∃ cs0,h id = .box cs0∧cs.length=cs0.length∧∀ (k:Nat) (x y:TV),cs0[k]? = some x→cs[k]? = some y→JU w F ι h acc x y
 | (none,.sl _ ts m es)=>es=[]∧0<ts.length
 | (none,.none)=>True
 | (none,.dead)=>True
 | _=>False
def JH (nl:Nat) (h:Nat→TBlk) (acc:Acc):Prop:=∀ id e ts m es,id<nl→h id = .sl e ts m es→m.full=true→acc[id]? = some (some (id,0),.sl e ts m.rs es)
theorem JH.mono {nl:Nat} {h:Nat→TBlk} {acc acc':Acc} (hp:acc <+: acc') (hf:JH nl h acc):JH nl h acc':=fun id e ts m es h1 h2 h2'=>by
 have h3:=hf id e ts m es h1 h2 h2'
 obtain ⟨r,rfl⟩:=hp
 rw [List.getElem?_append_left (List.getElem?_eq_some_iff.1 h3).1]
 exact h3
structure AccOk (w:World) (F:Nat→Prop) (ι:Io) (h:Nat→TBlk) (acc:Acc):Prop where
 good:∀ (k:Nat) (e:Option (Nat × Nat) × TBlk),acc[k]? = some e→QcJ w F ι h acc e
 nodup:∀ (k j id o o':Nat) (b c:TBlk),acc[k]? = some (some (id,o),b)→acc[j]? = some (some (id,o'),c)→k=j
theorem JU.mono {acc acc':Acc} {x y:TV} (hp:acc <+: acc') (hk:JU w F ι h acc x y):JU w F ι h acc' x y :=
 fun accF F' hpF hF v hv=>hk accF F' (hp.trans hpF) hF v hv
theorem QcJ.mono {acc acc':Acc} {e:Option (Nat × Nat) × TBlk} (hp:acc <+: acc') (hg:QcJ w F ι h acc e):QcJ w F ι h acc' e:=by
 obtain ⟨o,b⟩:=e
 cases o with
 | none=>cases b <;> exact hg
 | some id =>
  obtain ⟨id,off⟩:=id
  cases b with
  | box cs=>obtain ⟨cs0,h1,h2,h3⟩:=hg;exact ⟨cs0,h1,h2,fun k x y hx hy=>(h3 k x y hx hy).mono hp⟩
  | _=>exact hg
theorem QcE:∀ {acc:Acc} {id:Nat},Zk acc id=none→∀ (k o:Nat) (b:TBlk),acc[k]?≠some (some (id,o),b)
 | [],id,_,k,o,b,hk=>by simp at hk
 | (some (j,o0),c)::r,id,hn,k,o,b,hk=>by
  simp only [Zk] at hn
  cases hb:Nat.beq j id with
  | true=>rw [hb] at hn;cases hn
  | false =>
   rw [hb] at hn
   simp only [cond_false] at hn
   split at hn
   ·cases hn
   rename_i hr
   cases k with
   | zero =>
    simp only [List.getElem?_cons_zero,Option.some.injEq,Prod.mk.injEq] at hk
    rw [hk.1.1] at hb
    simp at hb
   | succ k=>exact QcE hr k o b (by simpa using hk)
 | (none,c)::r,id,hn,k,o,b,hk=>by
  simp only [Zk] at hn
  split at hn
  ·cases hn
  rename_i hr
  cases k with
  | zero=>simp at hk
  | succ k=>exact QcE hr k o b (by simpa using hk)
theorem QbE:∀ {acc:Acc} {id k:Nat},Zk acc id=some k→∃ o b,acc[k]? = some (some (id,o),b)
 | [],id,k,hn=>by simp [Zk] at hn
 | (some (j,o0),c)::r,id,k,hn=>by
  simp only [Zk] at hn
  cases hb:Nat.beq j id with
  | true =>
   rw [hb] at hn
   simp only [cond_true,Option.some.injEq] at hn
   subst hn
   exact ⟨o0,c,by rw [Nat.eq_of_beq_eq_true hb];rfl⟩
  | false =>
   rw [hb] at hn
   simp only [cond_false] at hn
   split at hn
   rotate_left
   ·cases hn
   rename_i k' hr
   cases hn
   obtain ⟨o,b,h⟩:=QbE hr
   exact ⟨o,b,by simpa using h⟩
 | (none,c)::r,id,k,hn=>by
  simp only [Zk] at hn
  split at hn
  rotate_left
  ·cases hn
  rename_i k' hr
  cases hn
  obtain ⟨o,b,h⟩:=QbE hr
  exact ⟨o,b,by simpa using h⟩
theorem QCW {acc:Acc} (A:AccOk w F ι h acc) {id k o:Nat} {b:TBlk} (hk:acc[k]? = some (some (id,o),b)):Zk acc id=some k:=by
 cases hx:Zk acc id with
 | none=>exact absurd hk (QcE hx k o b)
 | some j =>
  obtain ⟨o',b',h1⟩:=QbE hx
  rw [A.nodup j k id o' o b' b h1 hk]
theorem AccOk.push {acc:Acc} (A:AccOk w F ι h acc) {o:Option (Nat × Nat)} {b:TBlk} (hg:QcJ w F ι h (acc++[(o,b)]) (o,b)) (hn:∀ id off,o=some (id,off)→Zk acc id=none):AccOk w F ι h (acc++[(o,b)]):=by
 have hp:acc <+: acc++[(o,b)]:=List.prefix_append _ _
 refine ⟨fun k e he=>?_,fun k j id o1 o2 c d hk hj=>?_⟩
 ·rw [List.getElem?_append] at he
  split at he
  ·exact (A.good k e he).mono hp
  ·have:=List.mem_of_getElem? he
   simp only [List.mem_singleton] at this
   rw [this];exact hg
 ·rw [List.getElem?_append] at hk hj
  split at hk <;> split at hj
  ·exact A.nodup k j id o1 o2 c d hk hj
  ·have h1:=List.mem_of_getElem? hj
   simp only [List.mem_singleton,Prod.mk.injEq] at h1
   exact absurd hk (QcE (hn id o2 h1.1.symm) k o1 c)
  ·have h1:=List.mem_of_getElem? hk
   simp only [List.mem_singleton,Prod.mk.injEq] at h1
   exact absurd hj (QcE (hn id o1 h1.1.symm) j o2 d)
  ·rename_i h1 h2
   have h3:=(List.getElem?_eq_some_iff.1 hk).1
   have h4:=(List.getElem?_eq_some_iff.1 hj).1
   simp at h3 h4
   omega
theorem Qbo {acc accF:Acc} {k:Nat} {o:Option (Nat × Nat)} {b:TBlk} (hp:acc <+: accF) (hk:acc[k]? = some (o,b)):ah accF k=b.emb∧aι ι accF k=o.bind (fun x=>ι x.1)∧(aι ι accF).o k=Yw ι (o,b):=by
 obtain ⟨r,rfl⟩:=hp
 have:(acc++r)[k]? = some (o,b):=by
  rw [List.getElem?_append_left (List.getElem?_eq_some_iff.1 hk).1];exact hk
 refine ⟨?_,?_,?_⟩
 ·simp only [ah,this]
 ·simp only [aι,this,Option.bind_some]
 ·simp only [aι,this]
theorem Qco {acc accF:Acc} {o:Option (Nat × Nat)} {b:TBlk} (hp:acc++[(o,b)] <+: accF):ah accF acc.length=b.emb∧aι ι accF acc.length=o.bind (fun x=>ι x.1)∧(aι ι accF).o acc.length=Yw ι (o,b) :=
 Qbo (acc:=acc++[(o,b)]) (k:=acc.length) (o:=o) (b:=b) hp (by simp)
def FzOk (w:World) (F:Nat→Prop) (ι:Io) (h:Nat→TBlk):Prop :=
 ∀ id e ts es v off len,h id = .sl e ts .fz es→VR w F ι (fun i=>(h i).emb) v (.r ts.length id off len)→Rd w F v (.sl ts.length (((es.map (encs ts)).drop off).take len))
theorem QDv {id off len k:Nat} {e0 e:TypeId} {ts:List CT} {mm m:Mo} {es:List (Tup ts)} {F':Nat→Prop} {ι':Io} {h':Nat→Blk} {v:Value} (hh:h id = .sl e0 ts mm es) (he:m.tip=true→e0=e) (hg:Yx mm m off)
  (h1:h' k=(TBlk.sl e ts m ((es.drop off).take len)).emb) (h2:ι' k=ι id) (h3:(es.drop off).take len≠[]→ι'.o k=ι.o id+off*ts.length) (hv:VR w F ι (fun i=>(h i).emb) v (.r ts.length id off len)) :
  VR w F' ι' h' v (TV.r ts k 0 ((es.drop off).take len).length).emb1:=by
 have hhA:(fun i=>(h i).emb) id = .sl e0 ts.length mm (es.map (encs ts)):=by simp only [hh,TBlk.emb_sl]
 generalize hgA:(fun i=>(h i).emb)=hA at hv hhA
 simp only [TV.emb1]
 rw [TBlk.emb_sl] at h1
 cases hv with
 | rdead v sz id off len h1 hd=>rw [hhA] at hd;cases hd
 | rnil id e' sz m' hi hh' =>
  rw [hhA] at hh'
  have:es=[]:=by injection hh' with _ _ _ h4;simpa using h4
  subst this
  simp only [List.drop_nil,List.take_nil,List.length_nil] at h1 ⊢
  exact .rnil k e ts.length m (h2.trans hi) h1
 | remp ad cap id e' sz m' hi hh' ht =>
  rw [hhA] at hh'
  injection hh' with q1 q2 q3 q4
  have:es=[]:=by simpa using q4
  subst this
  simp only [List.drop_nil,List.take_nil,List.length_nil] at h1 ⊢
  refine .remp ad cap k e ts.length m (h2.trans hi) h1 ?_
  cases hx:m.tip with
  | false=>rfl
  | true=>rw [← q3,(hg.tip hx).1] at ht;cases ht
 | r id off len b ao cap e' sz m' es' hi hh' hlen hcap ho htip =>
  rw [hhA] at hh'
  injection hh' with q1 q2 q3 q4
  subst q1;subst q3
  rw [← q4,List.length_map] at hlen
  have hl:((es.drop off).take len).length=len:=by simp;omega
  rw [hl]
  refine .r k 0 len b ao cap e ts.length m _ (h2.trans hi) h1 (by simp;omega) hcap (fun hn=>by rw [h3 (fun h0=>hn (by rw [← hl,h0];rfl)),ho hn];simp) (fun ht _=>?_)
  obtain ⟨k1,k2⟩:=hg.tip ht
  rw [← he ht]
  exact htip k1 k2
theorem QqA {nl:Nat} (hz:FzOk w F ι h) (hs:∀ id e ts m es v off len n,h id = .sl e ts m es→VR w F ι (fun i=>(h i).emb) v (.r n id off len)→n=ts.length) {m:Md1} {x:TV} {acc:Acc} (A:AccOk w F ι h acc) (hf:JH nl h acc) :
  acc <+: (Z8 nl h m x acc).2∧AccOk w F ι h (Z8 nl h m x acc).2∧JU w F ι h (Z8 nl h m x acc).2 x (Z8 nl h m x acc).1:=by
 have hu:∀ (a:Acc) (x:TV),JU w F ι h a x .u:=fun a x accF F' _ _ v _=>.u v
 unfold Z8
 split
 ·exact ⟨List.prefix_refl _,A,fun accF F' hp hF v hv=>hv.data hF⟩
 ·refine ⟨List.prefix_refl _,A,fun accF F' hp hF v hv=>?_⟩
  cases hv with
  | q b o _ _ x hb hc hr=>exact .q b o _ _ x (hF b hb) hc (fun k d hk=>(hr k d hk).mono fun b hb=>⟨hF b hb,rfl⟩)
 ·rename_i ts
  split
  ·split
   ·exact ⟨List.prefix_refl _,A,hu _ _⟩
   ·refine ⟨List.prefix_append _ _,A.push ⟨rfl,by simp⟩ (by simp),fun accF F' hp hF v hv=>?_⟩
    obtain ⟨h1,h2,_⟩:=Qco (ι:=ι) hp
    cases hv
    exact .rnil acc.length _ _ .ow h2 (by rw [h1];rfl)
  ·split
   ·exact ⟨List.prefix_refl _,A,hu _ _⟩
   ·refine ⟨List.prefix_append _ _,A.push ⟨rfl,by simp⟩ (by simp),fun accF F' hp hF v hv=>?_⟩
    obtain ⟨h1,h2,_⟩:=Qco (ι:=ι) hp
    cases hv
    exact .rnil acc.length _ _ (.dp 0 true []) h2 (by rw [h1];rfl)
  ·split
   ·exact ⟨List.prefix_refl _,A,hu _ _⟩
   ·refine ⟨List.prefix_append _ _,A.push ⟨rfl,by simp⟩ (by simp),fun accF F' hp hF v hv=>?_⟩
    obtain ⟨h1,h2,_⟩:=Qco (ι:=ι) hp
    cases hv
    exact .rnil acc.length _ _ (.dp 0 false []) h2 (by rw [h1];rfl)
  ·refine ⟨List.prefix_refl _,A,fun accF F' hp hF v hv=>?_⟩
   cases hv
   exact .c _ _ (by simp only [enc,List.map_nil];exact .nil _)
  ·refine ⟨List.prefix_refl _,A,fun accF F' hp hF v hv=>?_⟩
   cases hv
   exact .n _
 ·rename_i ts0 id off len
  split
  rotate_left
  ·exact ⟨List.prefix_refl _,A,hu _ _⟩
  rename_i e ts mm es hh
  have own:∀ (e':TypeId) (m':Mo) (k:Nat),k=off→Yx mm m' off→(m'.tip=true→e=e')→Zk acc id=none →
    acc <+: acc++[(some (id,k),.sl e' ts m' ((es.drop k).take len))]∧AccOk w F ι h (acc++[(some (id,k),.sl e' ts m' ((es.drop k).take len))])∧JU w F ι h (acc++[(some (id,k),.sl e' ts m' ((es.drop k).take len))]) (.r ts0 id off len) (.r ts acc.length 0 ((es.drop k).take len).length):=by
   intro e' m' k hk hg hee hidx
   subst hk
   refine ⟨List.prefix_append _ _,A.push ⟨es,mm,len,⟨e,hh,hee⟩,rfl,hg⟩ (fun id' o' h'=>by cases h';exact hidx),fun accF F' hp hF v hv=>?_⟩
   obtain ⟨h1,h2,h3⟩:=Qco (ι:=ι) hp
   have hn:=hs id e ts mm es v k len _ hh hv
   simp only [TV.emb1,hn] at hv
   refine QDv hh hee hg h1 h2 (fun hne=>?_) hv
   rw [h3]
   simp only [Yw,QrR hne]
  split
  ·cases mm with
   | ow=>exact ⟨List.prefix_refl _,A,hu _ _⟩
   | dp=>exact ⟨List.prefix_refl _,A,hu _ _⟩
   | fz =>
    refine ⟨List.prefix_refl _,A,fun accF F' hp hF v hv=>?_⟩
    have hn:=hs id e ts .fz es v off len _ hh hv
    simp only [TV.emb1,hn] at hv
    have:=hz id e ts es v off len hh hv
    refine .c _ _ ?_
    simp only [enc,List.map_take,List.map_drop]
    exact this.mono fun b hb=>⟨hF b hb,rfl⟩
  ·cases hlt:Nat.blt id nl with
   | true =>
    simp only [cond_true]
    cases hfl:mm.full with
    | false=>exact ⟨List.prefix_refl _,A,hu _ _⟩
    | true =>
    have hb:=hf id e ts mm es (Nat.le_of_ble_eq_true hlt) hh hfl
    refine ⟨List.prefix_refl _,A,fun accF F' hp hF v hv=>?_⟩
    obtain ⟨h1,h2,h3⟩:=Qbo (ι:=ι) hp hb
    have hn:=hs id e ts mm es v off len _ hh hv
    simp only [cond_true,TV.emb1,hn] at hv ⊢
    simp only [Option.bind_some] at h2
    have h3:(aι ι accF).o id=ι.o id:=by rw [h3];simp only [Yw,QkY,Nat.add_zero]
    have hhA:(fun i=>(h i).emb) id = .sl e ts.length mm (es.map (encs ts)):=by simp only [hh,TBlk.emb_sl]
    generalize hgA:(fun i=>(h i).emb)=hA at hv hhA
    have hrs:=Yx.rs hfl
    cases hv with
    | rdead v sz id off len h1 hd=>rw [hhA] at hd;cases hd
    | rnil id e' sz m hi hh' =>
     rw [hhA] at hh'
     injection hh' with _ _ _ h4
     exact .rnil _ e ts.length mm.rs (h2.trans hi) (by rw [h1,TBlk.emb_sl,h4])
    | remp ad cap id e' sz m hi hh' ht =>
     rw [hhA] at hh'
     injection hh' with q1 q2 q3 q4
     refine .remp ad cap _ e ts.length mm.rs (h2.trans hi) (by rw [h1,TBlk.emb_sl,q4]) ?_
     cases hx:mm.rs.tip with
     | false=>rfl
     | true=>rw [← q3,(hrs.tip hx).1] at ht;cases ht
    | r id off len b ao cap e' sz m es' hi hh' hlen hcap ho htip =>
     rw [hhA] at hh'
     injection hh' with q1 q2 q3 q4
     subst q1;subst q3
     rw [← q4] at hlen
     exact .r id off len b ao cap e ts.length mm.rs (es.map (encs ts)) (h2.trans hi) (by rw [h1,TBlk.emb_sl]) hlen hcap (by rw [h3];exact ho) (fun ht=>htip (hrs.tip ht).1)
   | false =>
   simp only [cond_false]
   split
   ·exact ⟨List.prefix_refl _,A,hu _ _⟩
   rename_i hidx
   split
   ·rename_i g t H
    cases hH:H.all (fun x=>Nat.blt x.1 off) with
    | false=>exact ⟨List.prefix_refl _,A,hu _ _⟩
    | true =>
    simp only [cond_true]
    have hHs:∀ x,x∈H→x.1<off:=fun x hx=>Nat.le_of_ble_eq_true (List.all_eq_true.1 hH x hx)
    split
    ·have:=own (m.e e) (.dp 0 (m.t t) []) 0 rfl (.inr ⟨g,t,H,m.t t,rfl,rfl,fun h=>⟨(by cases m <;> first | exact h | cases h),rfl⟩,hHs⟩) (fun h=>by cases m <;> first | rfl | cases h) hidx
     simpa using this
    ·rename_i k
     exact own (m.e e) (.dp 0 false []) (k+1) rfl (.inr ⟨g,t,H,false,rfl,rfl,fun h=>(by cases h),hHs⟩) (fun h=>by cases h) hidx
   ·rename_i hnd
    split
    ·have hgn:mm.gen=none:=by
      cases mm with
      | dp g t H=>exact absurd rfl (hnd g t H)
      | _=>rfl
     have:=own e mm 0 rfl (.inl ⟨rfl,hgn,rfl⟩) (fun _=>rfl) hidx
     simpa using this
    ·exact ⟨List.prefix_refl _,A,hu _ _⟩
 ·exact ⟨List.prefix_refl _,A,hu _ _⟩
theorem QcX {nl:Nat} (hz:FzOk w F ι h) (hs:∀ id e ts m es v off len n,h id = .sl e ts m es→VR w F ι (fun i=>(h i).emb) v (.r n id off len)→n=ts.length) :
  ∀ {ms:List Md1} {xs:List TV} {acc:Acc},AccOk w F ι h acc→JH nl h acc→acc <+: (Zo nl h ms xs acc).2∧AccOk w F ι h (Zo nl h ms xs acc).2∧(Zo nl h ms xs acc).1.length=xs.length ∧
   ∀ (k:Nat) (x y:TV),xs[k]? = some x→(Zo nl h ms xs acc).1[k]? = some y→JU w F ι h (Zo nl h ms xs acc).2 x y
 | ms,[],acc,A,hf=>by
  cases ms <;> exact ⟨List.prefix_refl _,A,rfl,fun k x y hx=>by simp at hx⟩
 | [],x::xs,acc,A,hf=>by
  obtain ⟨h1,h2,h3,h4⟩:=QcX hz hs (ms:=[]) (xs:=xs) A hf
  refine ⟨h1,h2,by simp only [Zo,List.length_cons,h3],fun k a b ha hb=>?_⟩
  simp only [Zo] at hb
  cases k with
  | zero=>simp at hb;subst hb;exact fun accF F' _ _ v _=>.u v
  | succ k=>exact h4 k a b (by simpa using ha) (by simpa using hb)
 | m::ms,x::xs,acc,A,hf=>by
  obtain ⟨g1,g2,g3⟩:=QqA hz hs (m:=m) (x:=x) A hf
  obtain ⟨h1,h2,h3,h4⟩:=QcX hz hs (ms:=ms) (xs:=xs) g2 (hf.mono g1)
  refine ⟨g1.trans h1,h2,by simp only [Zo,List.length_cons,h3],fun k a b ha hb=>?_⟩
  simp only [Zo] at hb
  cases k with
  | zero=>simp at ha hb;subst ha;subst hb;exact g3.mono h1
  | succ k=>exact h4 k a b (by simpa using ha) (by simpa using hb)
def Qbj (w:World) (F:Nat→Prop) (ι:Io) (h:Nat→TBlk) (acc:Acc) (x y:TV):Prop :=
 ∀ (accF:Acc) (F':Nat→Prop),acc <+: accF→(∀ b,F b→F' b)→∀ v,VR w F ι (fun i=>(h i).emb) v x.emb→VR w F' (aι ι accF) (ah accF) v y.emb
theorem Qbj.mono {acc acc':Acc} {x y:TV} (hp:acc <+: acc') (hk:Qbj w F ι h acc x y):Qbj w F ι h acc' x y :=
 fun accF F' hpF hF v hv=>hk accF F' (hp.trans hpF) hF v hv
theorem QvI {nl:Nat} {m:Md1} {x:TV} {acc:Acc}:(Z8 nl h m x acc).1.emb=(Z8 nl h m x acc).1.emb1:=by
 unfold Z8
 simp only [cond]
 repeat' split
 all_goals rfl
theorem QEF {nl:Nat} {m:Md1} {x:TV} {acc:Acc} (hx:x.one=false):Z8 nl h m x acc=(.u,acc):=by
 cases x <;> first | rfl | simp [TV.one] at hx
theorem QE8 {nl:Nat} (hz:FzOk w F ι h) (hs:∀ id e ts m es v off len n,h id = .sl e ts m es→VR w F ι (fun i=>(h i).emb) v (.r n id off len)→n=ts.length) {m:Md} {x:TV} {acc:Acc} (A:AccOk w F ι h acc) (hf:JH nl h acc) :
  acc <+: (conv nl h m x acc).2∧AccOk w F ι h (conv nl h m x acc).2∧Qbj w F ι h (conv nl h m x acc).2 x (conv nl h m x acc).1:=by
 have hu:∀ (a:Acc) (x:TV),Qbj w F ι h a x .u:=fun a x accF F' _ _ v _=>.u v
 unfold conv
 split
 ·rename_i m
  cases hx:x.one with
  | false=>rw [QEF hx];exact ⟨List.prefix_refl _,A,hu _ _⟩
  | true =>
   obtain ⟨g1,g2,g3⟩:=QqA hz hs (m:=m) (x:=x) A hf
   refine ⟨g1,g2,fun accF F' hp hF v hv=>?_⟩
   rw [Qa3 hx] at hv
   rw [QvI]
   exact g3 accF F' hp hF v hv
 ·rename_i ms
  split
  rotate_left
  ·exact ⟨List.prefix_refl _,A,hu _ _⟩
  rename_i id
  split
  rotate_left
  ·exact ⟨List.prefix_refl _,A,hu _ _⟩
  rename_i cs hh
  have put:∀ (k:Nat) (cs':List TV) (F':Nat→Prop) (accF:Acc) (v:Value),ah accF k=(TBlk.box cs').emb→aι ι accF k=ι id→(aι ι accF).o k=ι.o id→VR w F ι (fun i=>(h i).emb) v (.p id 0 0)→VR w F' (aι ι accF) (ah accF) v (.p k 0 0):=by
   intro k cs' F' accF v h1 h2 h3 hv
   cases hv with
   | pdead v id i j h3 hd=>have hd:(h id).emb = .dead:=hd;rw [hh] at hd;cases hd
   | p id i j bk hi hn hd =>
    have:VR w F' (aι ι accF) (ah accF) (.pointer (some ⟨bk,(aι ι accF).o k+0*(ah accF k).sz+0,none⟩)) (.p k 0 0) :=
     .p k 0 0 bk (h2.trans hi) (by rw [h1];simp [TBlk.emb]) (by rw [h1];simp [TBlk.emb])
    rw [h3] at this
    simpa using this
  split
  ·rename_i k hk
   obtain ⟨o,b,hb⟩:=QbE hk
   refine ⟨List.prefix_refl _,A,fun accF F' hp hF v hv=>?_⟩
   obtain ⟨h1,h2,h3⟩:=Qbo (ι:=ι) hp hb
   have hg:=A.good k _ hb
   cases b with
   | none=>exact hg.elim
   | dead=>exact hg.elim
   | sl e ts m es=>obtain ⟨es0,m0,len,⟨_,q,_⟩,_⟩:=hg;rw [hh] at q;cases q
   | box cs'=>exact put k cs' F' accF v h1 h2 (by rw [h3];simp only [Yw,QjW,Nat.add_zero]) hv
  ·rename_i hnone
   obtain ⟨g1,g2,g3,g4⟩:=QcX hz hs (ms:=ms) (xs:=cs) A hf
   simp only
   split
   rotate_left
   ·exact ⟨List.prefix_refl _,A,hu _ _⟩
   rename_i hnone2
   have hp1:(Zo nl h ms cs acc).2 <+: (Zo nl h ms cs acc).2++[(some (id,0),.box (Zo nl h ms cs acc).1)]:=List.prefix_append _ _
   refine ⟨g1.trans hp1,g2.push ⟨cs,hh,g3,fun k x y hx hy=>(g4 k x y hx hy).mono hp1⟩ (fun id' o' h'=>by cases h';exact hnone2),fun accF F' hp hF v hv=>?_⟩
   obtain ⟨h1,h2,h3⟩:=Qco (ι:=ι) hp
   exact put _ _ F' accF v h1 h2 (by rw [h3];simp only [Yw,QjW,Nat.add_zero]) hv
 ·rename_i ms
  split
  rotate_left
  ·exact ⟨List.prefix_refl _,A,hu _ _⟩
  rename_i cs
  obtain ⟨g1,g2,g3,g4⟩:=QcX hz hs (ms:=ms) (xs:=cs) A hf
  refine ⟨g1,g2,fun accF F' hp hF v hv=>?_⟩
  cases hv with
  | a vs cs' hl h1 hv =>
   refine .a vs _ (by simpa [g3] using hl) h1 (fun k v y hk hy=>?_)
   simp only [List.getElem?_map,Option.map_eq_some_iff] at hy
   obtain ⟨y0,hy0,rfl⟩:=hy
   have hlt:k<cs.length:=by rw [← g3];exact (List.getElem?_eq_some_iff.1 hy0).1
   exact g4 k cs[k] y0 (List.getElem?_eq_getElem hlt) hy0 accF F' hp hF v (hv k v _ hk (by simp [hlt]))
theorem Qr6 {nl:Nat} (hz:FzOk w F ι h) (hs:∀ id e ts m es v off len n,h id = .sl e ts m es→VR w F ι (fun i=>(h i).emb) v (.r n id off len)→n=ts.length) {T:Nat→TV} :
  ∀ {L:List (Nat × Md)} {acc:Acc},AccOk w F ι h acc→JH nl h acc→acc <+: (Z2 nl h T L acc).2∧AccOk w F ι h (Z2 nl h T L acc).2∧∀ s,Qbj w F ι h (Z2 nl h T L acc).2 (T s) (lkT (Z2 nl h T L acc).1 s)
 | [],acc,A,hf=>⟨List.prefix_refl _,A,fun s accF F' _ _ v _=>.u v⟩
 | (s,m)::L,acc,A,hf=>by
  obtain ⟨g1,g2,g3⟩:=QE8 hz hs (m:=m) (x:=T s) A hf
  obtain ⟨h1,h2,h3⟩:=Qr6 hz hs (T:=T) (L:=L) g2 (hf.mono g1)
  refine ⟨g1.trans h1,h2,fun s'=>?_⟩
  simp only [Z2,Yd,upd]
  split
  ·rename_i e;subst e;exact g3.mono h1
  ·exact h3 s'
end
theorem QnT:∀ (acc:Acc) (n k:Nat),lkB (JB n acc) k=if n≤k then (match acc[k-n]? with | some (_,b)=>b | none=>.none) else .none
 | [],n,k=>by simp [JB,lkB]
 | (o,b)::r,n,k=>by
  simp only [JB,Qay,upd]
  by_cases h:k=n
  ·subst h;simp
  ·rw [if_neg h,QnT r (n+1) k]
   by_cases h2:n≤k
   ·rw [if_pos h2,if_pos (by omega),show k-n=(k-(n+1))+1 by omega]
    simp
   ·rw [if_neg h2,if_neg (by omega)]
theorem Ym (h:Nat→TBlk):∀ n,(Q1 h n).length=n
 | 0=>rfl
 | n+1=>by simp only [Q1,List.length_append,Ym h n,List.length_singleton]
theorem Qr8 {nl:Nat} {h:Nat→TBlk}:∀ {cs:List TV} {acc:Acc},(Zo nl h (alld cs) cs acc).2=acc
 | [],acc=>rfl
 | x::xs,acc=>by
  have:(Z8 nl h .d x acc).2=acc:=by
   unfold Z8
   split <;> try rfl
   split <;> try rfl
   simp only [cond]
   split <;> rfl
  simp only [alld,Zo,this]
  exact Qr8
section
variable {C:Ctx} {U:Nat→Prop} {a:Act} {w:World} {ι:Io}
theorem QCb (h:Nat→TBlk) (ids:List Nat):(fun i=>(frzF h ids i).emb)=updL (fun i=>(h i).emb) (frz (fun i=>(h i).emb) (ids.filter fun i=>(h i).full)):=by
 funext i
 rw [Zz]
 simp only [frzF,List.mem_filter]
 by_cases hi:i∈ids
 ·rw [show ids.elem i=true by simpa using hi]
  cases hf:(h i).full with
  | true=>rw [if_pos ⟨hi,rfl⟩];exact Qux _
  | false=>rw [if_neg (fun h=>by cases h.2)];rfl
 ·rw [if_neg (fun h=>hi h.1),show ids.elem i=false by simpa using hi];rfl
theorem QCx {σ:TSt} {nl:Nat} {L:List (Nat × Md)} (S:Sat C U σ.emb a w ι) (hL:∀ i b,C.L i=some b→i<nl) (hO:∀ i x,C.O i=some x→i<nl) (hOb:∀ i x cs,C.O i=some x→x.B≠.box cs):∃ ι',Sat C (fun i=>(gc nl L σ).nx≤i) (gc nl L σ).emb a w ι':=by
 obtain ⟨t,h0,nx⟩:=σ
 let H:=lkB h0
 let T:=lkT t
 let ids:=QdT H nl++QaC H T L
 have hfl:Am.Full (fun i=>(H i).emb) (ids.filter fun i=>(H i).full):=by
  intro id hid e sz m es he
  have h1:=(List.mem_filter.1 hid).2
  simp only at h1 he
  cases hq:H id with
  | sl e' ts m' es'=>rw [hq] at he h1;rw [TBlk.emb_sl] at he;injection he with _ _ q _;rw [← q];exact h1
  | _=>rw [hq] at he;cases he
 obtain ⟨S1,_⟩:=S.freeze (ids.filter fun i=>(H i).full) hfl
 have hf:updL (TSt.emb ⟨t,h0,nx⟩).h (frz (TSt.emb ⟨t,h0,nx⟩).h (ids.filter fun i=>(H i).full))=fun i=>(frzF H ids i).emb:=(QCb H ids).symm
 rw [hf] at S1
 generalize hh:frzF H ids=h at S1
 generalize ι.loose (ids.filter fun i=>(H i).full)=ι at S1
 let F:=Fz C w ι fun i=>(h i).emb
 have hs:∀ id e ts m es v off len n,h id = .sl e ts m es→VR w F ι (fun i=>(h i).emb) v (.r n id off len)→n=ts.length:=by
  intro id e ts m es v off len n hid hv
  have hA:(fun i=>(h i).emb) id = .sl e ts.length m (es.map (encs ts)):=by simp only [hid,TBlk.emb_sl]
  generalize (fun i=>(h i).emb)=hB at hv hA
  cases hv with
  | rdead v sz id off len h1 hd=>rw [hA] at hd;cases hd
  | rnil id e' sz m' hi hh'=>rw [hA] at hh';injection hh' with _ q _ _;exact q.symm
  | remp ad cap id e' sz m' hi hh' ht=>rw [hA] at hh';injection hh' with _ q _ _;exact q.symm
  | r id off len b ao cap e' sz m' es' hi hh' hlen hcap ho htip=>rw [hA] at hh';injection hh' with _ q _ _;exact q.symm
 have hz:FzOk w F ι h:=by
  intro id e ts es v off len hid hv
  have hA:(fun i=>(h i).emb) id = .sl e ts.length .fz (es.map (encs ts)):=by simp only [hid,TBlk.emb_sl]
  refine AV.d_rd S1 (F:=F) (fun b hb=>hb) hv (d:=.sl ts.length (((es.map (encs ts)).drop off).take len)) ?_ (fun id' b hid' hb=>?_) (fun id' b p hid' hb=>?_)
  ·show (match (h id).emb with | .sl _ sz m es=>if m.full=true then some (D.sl sz ((es.drop off).take len)) else none | _=>none)=_
   rw [hid]
   rfl
  ·simp only [AV.ref1,List.mem_singleton] at hid'
   subst hid'
   obtain ⟨r1,r2⟩:=S1.rng id' b hb
   refine ⟨r2,?_,fun j hj=>?_,?_⟩
   ·rcases r1 with r1 | ⟨_,cs,q⟩
    ·exact .inr r1
    ·have q:(h id').emb = .box cs:=q
     rw [hid] at q;cases q
   ·have:=S1.inj j id' b hj hb
    subst this
    show ((h j).emb).own=false
    rw [hid];rfl
   ·cases hk:ι.k b with
    | none=>rfl
    | some x=>exact absurd hb ((S1.lab b x.1 x.2 hk).ne id')
  ·simp only [AV.ref1,List.mem_singleton] at hid'
   subst hid'
   obtain ⟨e',sz',g,t',H',es',q⟩:=(S1.lab b id' p hb).dp
   have q:(h id').emb = .sl e' sz' (.dp g t' H') es':=q
   rw [hid,TBlk.emb_sl] at q
   cases q
 have hent:∀ (n k:Nat) (j o:Nat) (b:TBlk),(Q1 h n)[k]? = some (some (j,o),b)→j=k:=by
  intro n
  induction n with
  | zero=>intro k j o b hk;simp [Q1] at hk
  | succ n ih =>
   intro k j o b hk
   simp only [Q1] at hk
   rw [List.getElem?_append] at hk
   split at hk
   ·exact ih k j o b hk
   ·rename_i hge
    have h1:=List.mem_of_getElem? hk
    have h2:=(List.getElem?_eq_some_iff.1 hk).1
    simp only [List.mem_singleton] at h1
    simp only [Ym,List.length_singleton] at hge h2
    simp only [cond] at h1
    repeat' split at h1
    all_goals first | (cases h1;omega) | cases h1
 have hlent:∀ n,AccOk w F ι h (Q1 h n):=by
  intro n
  induction n with
  | zero=>exact ⟨fun k e he=>by simp [Q1] at he,fun k j id o o' b c hk=>by simp [Q1] at hk⟩
  | succ n ih =>
   simp only [Q1]
   have hnone:Zk (Q1 h n) n=none:=by
    cases hx:Zk (Q1 h n) n with
    | none=>rfl
    | some k =>
     obtain ⟨o,b,hb⟩:=QbE hx
     have h1:=hent n k n o b hb
     have h2:=(List.getElem?_eq_some_iff.1 hb).1
     rw [Ym] at h2
     omega
   split
   ·rename_i cs hcs
    obtain ⟨g1,g2,g3,g4⟩:=QcX (nl:=0) hz hs (ms:=alld cs) (xs:=cs) ih (fun id _ _ _ _ h=>by omega)
    rw [Qr8] at g1 g2 g4
    exact ih.push ⟨cs,hcs,g3,fun k x y hx hy=>(g4 k x y hx hy).mono (List.prefix_append _ _)⟩ (fun id o hid=>by cases hid;exact hnone)
   ·rename_i e ts m es hq
    cases hfm:m.full with
    | true=>exact ih.push ⟨es,m,es.length,⟨e,hq,fun _=>rfl⟩,List.take_length.symm,.rs hfm⟩ (fun id o hid=>by cases hid;exact hnone)
    | false=>exact ih.push trivial (fun id o hid=>by cases hid)
   ·exact ih.push trivial (fun id o hid=>by cases hid)
   ·exact ih.push trivial (fun id o hid=>by cases hid)
 have hfull:∀ n,JH n h (Q1 h n):=by
  intro n
  induction n with
  | zero=>intro id e ts m es hlt;omega
  | succ n ih =>
   intro id e ts m es hlt hid hfm
   simp only [Q1]
   by_cases hin:id<n
   ·rw [List.getElem?_append_left (by rw [Ym];exact hin)]
    exact ih id e ts m es hin hid hfm
   ·have:id=n:=by omega
    subst this
    rw [List.getElem?_append_right (by rw [Ym];omega),Ym,hid]
    simp [hfm]
 have hnb:∀ i x,C.O i=some x→∀ cs,h i≠.box cs:=by
  intro i x hi cs hq
  rcases S1.hand i x hi with r1 | ⟨_,_,r2,_⟩
  ·have r1:(h i).emb = .dead:=r1
   rw [hq] at r1
   cases r1
  ·have r2:Zv x.B (h i).emb:=r2
   rw [hq] at r2
   cases hB:x.B with
   | box cs'=>exact hOb i x cs' hi hB
   | _=>rw [hB] at r2;exact r2.elim
 have hdead:∀ n i,i<n→(h i = .dead∨∃ e ts m es,h i = .sl e ts m es∧m.full=false)→(Q1 h n)[i]? = some (none,.dead):=by
  intro n
  induction n with
  | zero=>intro i hlt;omega
  | succ n ih =>
   intro i hlt hid
   simp only [Q1]
   by_cases hin:i<n
   ·rw [List.getElem?_append_left (by rw [Ym];exact hin)]
    exact ih i hin hid
   ·have:i=n:=by omega
    subst this
    rw [List.getElem?_append_right (by rw [Ym];omega),Ym]
    rcases hid with hid | ⟨e,ts,m,es,hid,hfm⟩
    ·rw [hid];simp
    ·rw [hid];simp [hfm]
 obtain ⟨g1,g2,g3⟩:=Qr6 (nl:=nl) hz hs (T:=T) (L:=L) (hlent nl) (hfull nl)
 have hgc:gc nl L ⟨t,h0,nx⟩=⟨(Z2 nl h T L (Q1 h nl)).1,JB 0 (Z2 nl h T L (Q1 h nl)).2,(Z2 nl h T L (Q1 h nl)).2.length⟩:=by
  unfold gc
  show TSt.mk _ _ _=_
  simp only [show frzF (TSt.H ⟨t,h0,nx⟩) (QdT (TSt.H ⟨t,h0,nx⟩) nl++QaC (TSt.H ⟨t,h0,nx⟩) (TSt.T ⟨t,h0,nx⟩) L)=h from hh]
  rfl
 rw [hgc]
 generalize hacc:(Z2 nl h T L (Q1 h nl)).2=acc at g1 g2 g3
 have hah:(fun i=>(lkB (JB 0 acc) i).emb)=ah acc:=by
  funext k
  rw [QnT]
  simp only [Nat.zero_le,if_true,Nat.sub_zero,ah]
  cases acc[k]? with
  | none=>rfl
  | some x=>obtain ⟨o,b⟩:=x;rfl
 have hex:∀ (k b:Nat),aι ι acc k=some b→∃ id off B,acc[k]? = some (some (id,off),B)∧ι id=some b:=by
  intro k b hk
  simp only [aι] at hk
  cases hx:acc[k]? with
  | none=>rw [hx] at hk;cases hk
  | some x =>
   obtain ⟨o,B⟩:=x
   rw [hx] at hk
   cases o with
   | none=>cases hk
   | some id=>exact ⟨id.1,id.2,B,rfl,hk⟩
 have hkx:∀ (b k:Nat) (p:Pth),(aι ι acc).k b=some (k,p)→∃ y a c q off B,ι.k b=some (y,(a,c)::q)∧acc[k]? = some (some (y,off),B)∧off≤a∧p=(a-off,c)::q:=by
  intro b k p hk
  simp only [aι] at hk
  cases hx:ι.k b with
  | none=>rw [hx] at hk;cases hk
  | some x =>
   obtain ⟨y,p0⟩:=x
   rw [hx] at hk
   cases p0 with
   | nil=>cases hk
   | cons ac q =>
    obtain ⟨a,c⟩:=ac
    simp only at hk
    cases hy:Zk acc y with
    | none=>rw [hy] at hk;cases hk
    | some k' =>
     rw [hy] at hk
     obtain ⟨off,B,hB⟩:=QbE hy
     simp only [hB] at hk
     split at hk
     ·rename_i hle
      simp only [Option.some.injEq,Prod.mk.injEq] at hk
      obtain ⟨rfl,rfl⟩:=hk
      exact ⟨y,a,c,q,off,B,rfl,hB,hle,rfl⟩
     ·cases hk
 have hF:∀ b,F b→Fz C w (aι ι acc) (ah acc) b:=by
  intro b ⟨q1,q2,q3,q4⟩
  refine ⟨q1,q2,fun k hk=>?_,?_⟩
  ·obtain ⟨id,off,B,h1,h2⟩:=hex k b hk
   have h3:=q3 id h2
   have hg:=g2.good k _ h1
   simp only [ah,h1]
   cases B with
   | none=>rfl
   | dead=>rfl
   | box cs=>obtain ⟨cs0,e,_⟩:=hg;have h3:((h id).emb).own=false:=h3;rw [e] at h3;cases h3
   | sl e ts m es =>
    obtain ⟨es0,m0,len,⟨_,e,_⟩,_,hg⟩:=hg
    have h3:((h id).emb).own=false:=h3
    rw [e,TBlk.emb_sl] at h3
    rw [TBlk.emb_sl]
    exact hg.own.trans h3
  ·cases hk:(aι ι acc).k b with
   | none=>rfl
   | some x=>obtain ⟨y,a,c,q,off,B,h1,_⟩:=hkx b x.1 x.2 hk;rw [q4] at h1;cases h1
 have key:Sat C (fun i=>acc.length≤i) ⟨fun s=>(lkT (Z2 nl h T L (Q1 h nl)).1 s).emb,ah acc,acc.length⟩ a w (aι ι acc):=by
  refine ⟨S1.fra,fun s=>?_,S1.size,S1.defers,fun k=>?_,fun i j b hi hj=>?_,fun i b hi=>?_,fun i hi=>?_,fun i b hi=>?_,fun i b hi=>?_,fun i x hi=>?_,fun b k p hk=>?_⟩
  ·exact g3 s acc _ (List.prefix_refl _) hF _ (S1.vals s)
  ·show BR w (Fz C w (aι ι acc) (ah acc)) (aι ι acc) (ah acc) k (ah acc k)
   cases hx:acc[k]? with
   | none=>simp only [ah,hx];exact .none
   | some x =>
    obtain ⟨o,B⟩:=x
    have hg:=g2.good k _ hx
    obtain ⟨ha,hi,ho⟩:=Qbo (ι:=ι) (List.prefix_refl acc) hx
    rw [ha]
    cases o with
    | none =>
     cases B with
     | none=>exact .none
     | dead=>exact .dead
     | box cs=>exact hg.elim
     | sl e ts m es =>
      obtain ⟨e1,e2⟩:=hg
      subst e1
      rw [TBlk.emb_sl]
      exact .slnil e ts.length m e2 hi
    | some id =>
     obtain ⟨id,off⟩:=id
     have hi:aι ι acc k=ι id:=hi
     have hb:=S1.blk id
     cases B with
     | none=>exact hg.elim
     | dead=>exact hg.elim
     | box cs =>
      obtain ⟨cs0,e1,e2,e3⟩:=hg
      have hb:BR w F ι (fun i=>(h i).emb) id ((h id).emb):=hb
      rw [e1] at hb
      cases hb with
      | box b e vals _ q1 qo q2 q3 q4 q5 =>
       refine .box b e vals _ (hi.trans q1) (by rw [ho];simp only [Yw,QjW,Nat.add_zero];exact qo) q2 (by simpa [e2] using q3) q4 (fun j v y hj hy=>?_)
       simp only [List.getElem?_map,Option.map_eq_some_iff] at hy
       obtain ⟨y0,hy0,rfl⟩:=hy
       have hlt:j<cs0.length:=by rw [← e2];exact (List.getElem?_eq_some_iff.1 hy0).1
       exact e3 j cs0[j] y0 (List.getElem?_eq_getElem hlt) hy0 acc _ (List.prefix_refl _) hF v (q5 j v _ hj (by simp [hlt]))
     | sl e ts m es =>
      obtain ⟨es0,m0,len,⟨e9,e1,hee⟩,e2,hgm⟩:=hg
      have hacck:=hx
      have hb:BR w F ι (fun i=>(h i).emb) id ((h id).emb):=hb
      rw [e1] at hb
      have ho:es≠[]→(aι ι acc).o k=ι.o id+off*ts.length:=fun hne=>by rw [ho];simp only [Yw,QrR hne]
      have ho0:es=[]→(aι ι acc).o k=ι.o id:=fun hne=>by subst hne;rw [(Qbo (ι:=ι) (List.prefix_refl acc) hx).2.2];simp only [Yw,QwB,Nat.add_zero]
      simp only [TBlk.emb_sl] at hb ⊢
      have het:es.map (encs ts)=((es0.map (encs ts)).drop off).take len:=by rw [e2,List.map_take,List.map_drop]
      have hem:es=[]↔es.map (encs ts)=[]:=by simp
      generalize es.map (encs ts)=es' at het hem ⊢
      generalize es0.map (encs ts)=es1 at hb het
      cases hb with
      | slnil _ _ _ q1 q2=>simp only [List.drop_nil,List.take_nil] at het;subst het;exact .slnil e ts.length m q1 (hi.trans q2)
      | sl b _ e0 _ _ _ cur q1 q2 q3 q4 q5 q6 q7 q8 =>
       have hlen':es'.length≤es1.length:=by rw [het];simp;omega
       refine .sl b e e0 ts.length m _ cur q1 (hi.trans q2) q3 (fun ht=>?_) ?_ (Nat.le_trans hlen' q6) (fun x hx=>?_) (fun i j x d hx hd=>?_)
       ·obtain ⟨t1,t2⟩:=hgm.tip ht
        obtain ⟨r1,r2,Cc,r3,r4,r5⟩:=q4 t1
        refine ⟨r1.trans (hee ht),?_,Cc,r3,by omega,r5⟩
        by_cases hne:es=[]
        ·rw [ho0 hne,r2]
        ·rw [ho hne,r2,t2];simp
       ·by_cases hne:es=[]
        ·rw [ho0 hne,hem.1 hne];simp only [List.length_nil,Nat.zero_mul];exact Nat.le_trans (Nat.le_add_right _ _) q5
        ·rw [ho hne]
         have:off+es'.length≤es1.length:=by
          have:es'≠[]:=fun h=>hne (hem.2 h)
          have h3:0<es'.length:=List.length_pos_iff.2 this
          rw [het] at h3 ⊢
          simp at h3 ⊢;omega
         have:=Nat.mul_le_mul_right ts.length this
         rw [Nat.add_mul] at this
         omega
       ·rw [het] at hx;exact q7 x (List.mem_of_mem_drop (List.mem_of_mem_take hx))
       ·have hne:es≠[]:=fun h=>by rw [hem.1 h] at hx;simp at hx
        rw [ho hne]
        rw [het,List.getElem?_take] at hx
        split at hx
        rotate_left
        ·cases hx
        rw [List.getElem?_drop] at hx
        obtain ⟨v,r1,r2⟩:=q8 (off+i) j x d hx hd
        refine ⟨v,by rw [← r1];congr 1;rw [Nat.add_mul];omega,?_⟩
        rcases hgm with ⟨rfl,hgn,rfl⟩ | ⟨g,t,HH,t',rfl,rfl,_,hHH⟩
        ·cases m0 with
         | dp=>cases hgn
         | ow=>exact Rd.mono (fun b hb=>⟨hF b hb,rfl⟩) r2
         | fz=>exact Rd.mono (fun b hb=>⟨hF b hb,rfl⟩) r2
        ·refine ⟨r2.1,fun _=>?_⟩
         have r3:=r2.2 (fun hm=>by have:=hHH _ hm;simp only at this;omega)
         refine r3.map [(i,j)] (fun b q hk=>⟨?_,rfl⟩)
         simp only [List.singleton_append] at hk
         simp only [aι,hk,QCW g2 hacck,hacck]
         simp
  ·obtain ⟨id,o1,B,h1,h2⟩:=hex i b hi
   obtain ⟨id',o2,B',h3,h4⟩:=hex j b hj
   have:=S1.inj id id' b h2 h4
   subst this
   exact g2.nodup i j id o1 o2 B B' h1 h3
  ·obtain ⟨id,o1,B,h1,h2⟩:=hex i b hi
   obtain ⟨r1,r2⟩:=S1.rng id b h2
   refine ⟨r1.imp (fun x=>x) fun ⟨r3,cs,r4⟩=>⟨r3,?_⟩,r2⟩
   have r4:(h id).emb = .box cs:=r4
   have hg:=g2.good i _ h1
   cases B with
   | none=>exact hg.elim
   | dead=>exact hg.elim
   | box cs'=>exact ⟨cs'.map TV.emb1,by simp only [ah,h1];rfl⟩
   | sl e ts m es=>obtain ⟨es0,m0,len,⟨_,e1,_⟩,_⟩:=hg;rw [e1] at r4;cases r4
  ·have:acc[i]? = none:=List.getElem?_eq_none hi
   simp only [ah,aι,this,Option.bind_none,and_self]
  ·obtain ⟨id,o1,B,h1,h2⟩:=hex i b hi
   have hg:=g2.good i _ h1
   simp only [ah,h1]
   cases B with
   | none=>exact hg.elim
   | dead=>exact hg.elim
   | box cs'=>simp [TBlk.emb]
   | sl e ts m es=>simp [TBlk.emb]
  ·obtain ⟨r1,⟨cs,r2⟩,r3⟩:=S1.lent i b hi
   have r2:(h i).emb = .box cs:=r2
   have hlt:=hL i b hi
   have hent:∀ n,i<n→∃ cs',(Q1 h n)[i]? = some (some (i,0),.box cs'):=by
    intro n
    induction n with
    | zero=>intro hn;omega
    | succ n ih =>
     intro hn
     simp only [Q1]
     rw [List.getElem?_append]
     by_cases hin:i<n
     ·rw [if_pos (by rw [Ym];exact hin)];exact ih hin
     ·have:i=n:=by omega
      subst this
      rw [if_neg (by rw [Ym];omega),Ym]
      cases hq:h i with
      | box cs0=>simp
      | none=>rw [hq] at r2;cases r2
      | dead=>rw [hq] at r2;cases r2
      | sl e ts m es=>rw [hq] at r2;cases r2
   obtain ⟨cs',h1⟩:=hent nl hlt
   obtain ⟨rr,hrr⟩:=g1
   have h2:acc[i]? = some (some (i,0),.box cs'):=by
    rw [← hrr,List.getElem?_append_left (List.getElem?_eq_some_iff.1 h1).1];exact h1
   exact ⟨by simp only [aι,h2,Option.bind_some];exact r1,⟨cs'.map TV.emb1,by simp only [ah,h2];rfl⟩,r3⟩
  ·have hlt:=hO i _ hi
   obtain ⟨rr,hrr⟩:=g1
   have hin:∀ x,(Q1 h nl)[i]? = some x→acc[i]? = some x:=fun x hx=>by
    rw [← hrr,List.getElem?_append_left (List.getElem?_eq_some_iff.1 hx).1];exact hx
   have hdd:(h i = .dead∨∃ e ts m es,h i = .sl e ts m es∧m.full=false)→ah acc i = .dead:=fun hq=>by
    simp only [ah,hin _ (hdead nl i hlt hq)]
    rfl
   rcases S1.hand i x hi with r1 | ⟨r1,rb,r2,r3⟩
   ·left
    have r1:(h i).emb = .dead:=r1
    have:h i = .dead:=by cases hq:h i <;> rw [hq] at r1 <;> first | rfl | cases r1
    exact hdd (.inl this)
   ·have r2:Zv x.B (h i).emb:=r2
    cases hq:h i with
    | none=>rw [hq] at r2;cases hB:x.B <;> rw [hB] at r2 <;> exact r2.elim
    | dead=>exact .inl (hdd (.inl hq))
    | sl e ts m es =>
     cases hfm:m.full with
     | false=>exact .inl (hdd (.inr ⟨e,ts,m,es,hq,hfm⟩))
     | true =>
      right
      have hx:=hin _ (hfull nl i e ts m es hlt hq hfm)
      obtain ⟨z1,z2,z3⟩:=Qbo (ι:=ι) (List.prefix_refl acc) hx
      refine ⟨z2.trans r1,by rw [z3];simp only [Yw,QkY,Nat.add_zero];exact rb,?_,r3⟩
      show Zv x.B (ah acc i)
      rw [z1]
      rw [hq,TBlk.emb_sl] at r2
      rw [TBlk.emb_sl]
      cases hB:x.B with
      | sl e' sz' m' es' =>
       rw [hB] at r2
       refine ⟨r2.1,r2.2.1,r2.2.2.1,fun ht=>r2.2.2.2.1 ((Yx.rs hfm).tip ht).1,fun hg=>r2.2.2.2.2 ?_⟩
       cases m <;> first | rfl | exact hg
      | _=>rw [hB] at r2;exact r2.elim
    | box cs=>exact absurd hq (hnb i x hi cs)
  ·obtain ⟨y,a',c,q,off,B,h1,h2,h3,h4⟩:=hkx b k p hk
   have l:=S1.lab b y _ h1
   refine ⟨by rw [h4];simp,?_,l.fr,l.lt,fun i hi=>?_⟩
   ·obtain ⟨e,sz,g,t',HH,es,hd⟩:=l.dp
    have hd:(h y).emb = .sl e sz (.dp g t' HH) es:=hd
    have hg:=g2.good k _ h2
    show ∃ e sz g t H es,ah acc k = .sl e sz (.dp g t H) es
    cases B with
    | none=>exact hg.elim
    | dead=>exact hg.elim
    | box cs'=>obtain ⟨cs0,e1,_⟩:=hg;rw [e1] at hd;cases hd
    | sl e2 ts m es2 =>
     obtain ⟨es0,m0,len,⟨_,e1,_⟩,_,hgm⟩:=hg
     rw [e1,TBlk.emb_sl] at hd
     injection hd with _ _ d3 _
     rcases hgm with ⟨rfl,hgn,_⟩ | ⟨g',t2,H2,t3,r1,r2,_⟩
     ·rw [d3] at hgn;cases hgn
     ·exact ⟨e2,ts.length,0,t3,[],es2.map (encs ts),by simp only [ah,h2,TBlk.emb_sl,r2]⟩
   ·obtain ⟨id,o1,B,h1',h2'⟩:=hex i b hi
    exact l.ne id h2'
 refine ⟨aι ι acc,?_⟩
 have hemb:TSt.emb ⟨(Z2 nl h T L (Q1 h nl)).1,JB 0 acc,acc.length⟩=⟨fun s=>(lkT (Z2 nl h T L (Q1 h nl)).1 s).emb,ah acc,acc.length⟩:=by
  unfold TSt.emb TSt.T TSt.H
  rw [← hah]
 rw [hemb]
 exact key
end
end Go.Proofs.YtdplaepmjogjjaaGreat.Am
namespace Go.Proofs.YtdplaepmjogjjaaGreat.Am
open Go Go.RowKit
inductive TCode where
 | skip
 | reg (ss:List TStm)
 | draw (ss:List TStm) (U:List (Nat × Nat))
 | seq (x y:TCode)
 | cond (c:TOpd) (x y:TCode)
 | block (id:Nat) (x:TCode)
 | loop (L:List (Nat × Md)) (x:TCode)
 | exit (id:Nat)
 | ret
 | wk (L:List (Nat × Md)) (x:TCode)
 | cv (s k:Nat) (x:TCode)
def TCode.er:TCode→ACode
 | .skip=>.skip
 | .reg ss=>.reg (erL none 0 ss)
 | .draw ss U=>.draw (erL none 0 ss) U
 | .seq x y=>.seq x.er y.er
 | .cond c x y=>.cond c.er x.er y.er
 | .block id x=>.block id x.er
 | .loop _ x=>.loop x.er
 | .exit id=>.exit id
 | .ret=>.ret
 | .wk _ x=>x.er
 | .cv _ _ x=>x.er
def Lfp (F:(TSt→Prop)→TSt→Prop) (σ:TSt):Prop:=∀ J:TSt→Prop,(∀ s,F J s→J s)→J σ
abbrev Qb:=AEx→TSt→Prop
def Qseq (next:TSt→Prop) (Q:Qb):Qb:=fun e σ=>match e with
 | .normal=>next σ
 | e=>Q e σ
def Qblk (id:Nat) (Q:Qb):Qb:=fun e σ=>match e with
 | .exit id'=>bif Nat.beq id' id then Q .normal σ else Q (.exit id') σ
 | e=>Q e σ
def TSt.bump (σ:TSt) (n:Nat):TSt:=⟨σ.t,σ.h,σ.nx+n⟩
def Qdq (H:Nat→TBlk) (nx:Nat):TV→Option (Prop × TV × List (Nat × TBlk))
 | .bs _ _ id g [(i,j)]=>match H id with
  | .sl e ts0 (.dp g0 t []) es=>match Nat.beq g g0,(Tup.cells ts0 (gt ts0 es i))[j]? with
   | true,some (.c (.sl (t1::ts)) l)=>some (i<es.length,.r (t1::ts) nx 0 l.length,[(id,.sl e ts0 (.dp (g0+1) t [(i,j)]) es),(nx,.sl 0 (t1::ts) (.dp 0 false []) l)])
   | _,_=>none
  | _=>none
 | _=>none
def Qkg (s k:Nat) (σ:TSt):Option (Prop × TSt):=match σ.T s with
 | .a cs=>match cs[k]? with
  | some c=>match Qdq σ.H σ.nx c with
   | some (p,y,l)=>some (p,⟨(s,.a (cs.set k y))::σ.t,l++σ.h,σ.nx+1⟩)
   | none=>none
  | none=>none
 | .p id 0 0=>match σ.H id with
  | .box cs=>match cs[k]? with
   | some c=>match Qdq σ.H σ.nx c with
    | some (p,y,l)=>some (p,⟨σ.t,(id,.box (cs.set k y))::(l++σ.h),σ.nx+1⟩)
    | none=>none
   | none=>none
  | _=>none
 | _=>none
def tawp (Γ:TTab) (nl:Nat):TCode→Qb→TSt→Prop
 | .skip,Q,σ=>Q .normal σ
 | .reg ss,Q,σ=>match runR Γ 0 ss σ with
  | some (p,σ',_)=>andP p (Q .normal (σ'.bump (16*lenL ss)))
  | none=>False
 | .draw ss U,Q,σ=>match runR Γ 0 ss σ with
  | some (p,σ',l)=>match QbX l U with
   | true=>andP p (Q .normal (σ'.bump (16*lenL ss)))
   | false=>False
  | none=>False
 | .seq x y,Q,σ=>tawp Γ nl x (Qseq (tawp Γ nl y Q) Q) σ
 | .cond c x y,Q,σ=>match c.ev σ.T with
  | .c .bool t=>(t=true→tawp Γ nl x Q σ)∧(t=false→tawp Γ nl y Q σ)
  | _=>False
 | .block id x,Q,σ=>tawp Γ nl x (Qblk id Q) σ
 | .loop L x,Q,σ=>Lfp (fun R s=>tawp Γ nl x (Qseq (fun s'=>R (gc nl L s')) Q) s) (gc nl L σ)
 | .exit id,Q,σ=>Q (.exit id) σ
 | .ret,Q,σ=>Q .ret σ
 | .wk L x,Q,σ=>tawp Γ nl x Q (gc nl L σ)
 | .cv s k x,Q,σ=>match Qkg s k σ with
  | some r=>r.1∧tawp Γ nl x Q r.2
  | none=>False
theorem Qfs {p:Option Prop} {k:Prop}:andP p k↔holds p∧k:=by cases p <;> simp [andP,holds]
theorem Je {Γ:TTab} {nl:Nat}:∀ (c:TCode) {Q Q':Qb} {σ:TSt},(∀ e s,Q e s→Q' e s)→tawp Γ nl c Q σ→tawp Γ nl c Q' σ
 | .skip,Q,Q',σ,h,hc=>h _ _ hc
 | .reg ss,Q,Q',σ,h,hc=>by
  simp only [tawp] at hc ⊢
  split at hc
  ·rw [Qfs] at hc ⊢;exact ⟨hc.1,h _ _ hc.2⟩
  ·exact hc
 | .draw ss U,Q,Q',σ,h,hc=>by
  simp only [tawp] at hc ⊢
  split at hc
  ·split at hc
   ·rw [Qfs] at hc ⊢;exact ⟨hc.1,h _ _ hc.2⟩
   ·exact hc
  ·exact hc
 | .seq x y,Q,Q',σ,h,hc=>by
  simp only [tawp] at hc ⊢
  refine Je x (fun e s hq=>?_) hc
  cases e with
  | normal=>exact Je y h hq
  | exit id=>exact h _ _ hq
  | ret=>exact h _ _ hq
 | .cond c x y,Q,Q',σ,h,hc=>by
  simp only [tawp] at hc ⊢
  split at hc
  ·exact ⟨fun e=>Je x h (hc.1 e),fun e=>Je y h (hc.2 e)⟩
  ·exact hc
 | .block id x,Q,Q',σ,h,hc=>by
  simp only [tawp] at hc ⊢
  refine Je x (fun e s hq=>?_) hc
  cases e with
  | normal=>exact h _ _ hq
  | exit id' =>
   simp only [Qblk] at hq ⊢
   cases hb:Nat.beq id' id with
   | true=>rw [hb] at hq;exact h _ _ hq
   | false=>rw [hb] at hq;exact h _ _ hq
  | ret=>exact h _ _ hq
 | .loop L x,Q,Q',σ,h,hc=>by
  simp only [tawp] at hc ⊢
  intro J hJ
  refine hc J (fun s hs=>hJ s (Je x (fun e s hq=>?_) hs))
  cases e with
  | normal=>exact hq
  | exit id=>exact h _ _ hq
  | ret=>exact h _ _ hq
 | .exit id,Q,Q',σ,h,hc=>h _ _ hc
 | .ret,Q,Q',σ,h,hc=>h _ _ hc
 | .wk L x,Q,Q',σ,h,hc=>by
  simp only [tawp] at hc ⊢
  exact Je x h hc
 | .cv s k x,Q,Q',σ,h,hc=>by
  simp only [tawp] at hc ⊢
  split at hc
  ·exact ⟨hc.1,Je x h hc.2⟩
  ·exact hc
theorem QAs {Γ:TTab} {nl:Nat} {L:List (Nat × Md)} {x:TCode} {Q:Qb} {s:TSt}
  (h:tawp Γ nl x (Qseq (fun s'=>Lfp (fun R s=>tawp Γ nl x (Qseq (fun s'=>R (gc nl L s')) Q) s) (gc nl L s')) Q) s) :
  Lfp (fun R s=>tawp Γ nl x (Qseq (fun s'=>R (gc nl L s')) Q) s) s:=by
 intro J hJ
 refine hJ s (Je x (fun e s hq=>?_) h)
 cases e with
 | normal=>exact hq J hJ
 | exit id=>exact hq
 | ret=>exact hq
mutual
theorem QDG (g:Option (Nat × Bool)):∀ (x:TStm) (i:Nat),(x.er g i).length=x.len
 | .op d o,i=>rfl
 | .grp s w ss d x,i=>by simp [TStm.er,TStm.len,Qc1 (some (s,w)) ss i]
 | .gw s w ss d2 o d x,i=>by simp [TStm.er,TStm.len,Qc1 (some (s,w)) ss i]
theorem Qc1 (g:Option (Nat × Bool)):∀ (ss:List TStm) (i:Nat),(erL g i ss).length=lenL ss
 | [],i=>rfl
 | x::xs,i=>by simp [erL,lenL,QDG g x i,Qc1 g xs (i+x.len)]
end
theorem QJm {P:Program} {N:Nat} {c:Code} {x y:ACode} (h:comp P N c=some (.seq x y)):∃ c1 c2,c = .seq c1 c2∧comp P N c1=some x∧comp P N c2=some y:=by
 cases c with
 | seq c1 c2 =>
  simp only [comp] at h
  split at h
  ·rename_i h1 h2;cases h;exact ⟨c1,c2,rfl,h1,h2⟩
  ·cases h
 | region id ops draw =>
  simp only [comp] at h
  split at h
  ·split at h
   ·split at h <;> cases h
   ·cases h
  ·cases h
 | cond a b c=>simp only [comp] at h;split at h <;> cases h
 | block id c=>simp only [comp,Option.map_eq_some_iff] at h;obtain ⟨_,_,h⟩:=h;cases h
 | loop c=>simp only [comp,Option.map_eq_some_iff] at h;obtain ⟨_,_,h⟩:=h;cases h
 | _=>simp [comp] at h
theorem QJx {P:Program} {N:Nat} {c:Code} {b:Opd} {x y:ACode} (h:comp P N c=some (.cond b x y)):∃ b0 c1 c2,c = .cond b0 c1 c2∧cO P 0 b0=some b∧comp P N c1=some x∧comp P N c2=some y:=by
 cases c with
 | cond b0 c1 c2 =>
  simp only [comp] at h
  split at h
  ·rename_i h0 h1 h2;cases h;exact ⟨b0,c1,c2,rfl,h0,h1,h2⟩
  ·cases h
 | region id ops draw =>
  simp only [comp] at h
  split at h
  ·split at h
   ·split at h <;> cases h
   ·cases h
  ·cases h
 | seq a b=>simp only [comp] at h;split at h <;> cases h
 | block id c=>simp only [comp,Option.map_eq_some_iff] at h;obtain ⟨_,_,h⟩:=h;cases h
 | loop c=>simp only [comp,Option.map_eq_some_iff] at h;obtain ⟨_,_,h⟩:=h;cases h
 | _=>simp [comp] at h
theorem QIR {P:Program} {N:Nat} {c:Code} {id:Nat} {x:ACode} (h:comp P N c=some (.block id x)):∃ c1,c = .block id c1∧comp P N c1=some x:=by
 cases c with
 | block id' c1 =>
  simp only [comp,Option.map_eq_some_iff] at h
  obtain ⟨_,h1,h⟩:=h
  cases h
  exact ⟨c1,rfl,h1⟩
 | region id ops draw =>
  simp only [comp] at h
  split at h
  ·split at h
   ·split at h <;> cases h
   ·cases h
  ·cases h
 | seq a b=>simp only [comp] at h;split at h <;> cases h
 | cond a b c=>simp only [comp] at h;split at h <;> cases h
 | loop c=>simp only [comp,Option.map_eq_some_iff] at h;obtain ⟨_,_,h⟩:=h;cases h
 | _=>simp [comp] at h
theorem QD6 {P:Program} {N:Nat} {c:Code} {x:ACode} (h:comp P N c=some (.loop x)):∃ c1,c = .loop c1∧comp P N c1=some x:=by
 cases c with
 | loop c1 =>
  simp only [comp,Option.map_eq_some_iff] at h
  obtain ⟨_,h1,h⟩:=h
  cases h
  exact ⟨c1,rfl,h1⟩
 | region id ops draw =>
  simp only [comp] at h
  split at h
  ·split at h
   ·split at h <;> cases h
   ·cases h
  ·cases h
 | seq a b=>simp only [comp] at h;split at h <;> cases h
 | cond a b c=>simp only [comp] at h;split at h <;> cases h
 | block id c=>simp only [comp,Option.map_eq_some_iff] at h;obtain ⟨_,_,h⟩:=h;cases h
 | _=>simp [comp] at h
def QH8 (C:Ctx) (Qa:Qb) (Q:Exit→Act→World→Prop):Prop:=∀ e σ a w,Qa e σ→SatE C σ.emb a w→Q e.up a w
theorem QyJ {C:Ctx} {U:Nat→Prop} {σ:TSt} {a:Act} {w:World} {ι:Io} (S:Sat C U σ.emb a w ι) {x:Operand} {x':TOpd} {ty:TypeId} (hx:cO C.P ty x=some x'.er) {b:Bool} (hv:x'.ev σ.T = .c .bool b):a.eval x = .bool b :=
 QsR S hx (by show x'.er.ev (fun s=>(σ.T s).emb)=_;rw [QQ,hv];rfl)
section
variable {C:Ctx} {Γ:TTab} {ΓA:Tab} {nl:Nat}
structure Kept (C:Ctx) (nl:Nat):Prop where
 l:∀ i b,C.L i=some b→i<nl
 o:∀ i o,C.O i=some o→i<nl
 b:∀ i x cs,C.O i=some x→x.B≠.box cs
theorem gcE {σ:TSt} {a:Act} {w:World} {L:List (Nat × Md)} (hL:Kept C nl) (S:SatE C σ.emb a w):SatE C (gc nl L σ).emb a w:=by
 obtain ⟨ι,S⟩:=S
 exact QCx S hL.l hL.o hL.b
theorem Qxx {ts:List CT} {x:Tup ts} {j:Nat} {t:CT} {d:t.den} (h:(Tup.cells ts x)[j]? = some (.c t d)):(encs ts x)[j]? = some (enc t d):=by
 have h1:((Tup.cells ts x).map TV.emb1)[j]? = some (.c (enc t d)):=by rw [List.getElem?_map,h];rfl
 rw [JO,List.getElem?_map,Option.map_eq_some_iff] at h1
 obtain ⟨y,h1,h2⟩:=h1
 cases h2
 exact h1
theorem QkT {σ:TSt} {U:Nat→Prop} {a:Act} {w:World} {ι:Io} {c y:TV} {p:Prop} {l:List (Nat × TBlk)} {v:Value} (hr:Qdq σ.H σ.nx c=some (p,y,l)) (hp:p) (S:Sat C (fun i=>σ.nx≤i) σ.emb a w ι) (hv:VR w (Fz C w ι σ.emb.h) ι σ.emb.h v c.emb1) :
  ∃ ι',Sat C (fun i=>σ.nx+1≤i) ⟨σ.emb.t,fun x=>(lkB (l++σ.h) x).emb,σ.nx⟩ a w ι'∧VR w (Fz C w ι' fun x=>(lkB (l++σ.h) x).emb) ι' (fun x=>(lkB (l++σ.h) x).emb) v y.emb1 ∧
   (∀ b,Fz C w ι σ.emb.h b→Fz C w ι' (fun x=>(lkB (l++σ.h) x).emb) b)∧(∀ x,Goes w w ι ι' σ.emb.h (fun x=>(lkB (l++σ.h) x).emb) x)∧∀ id cs,σ.emb.h id = .box cs→(lkB (l++σ.h) id).emb = .box cs:=by
 unfold Qdq at hr
 split at hr <;> try cases hr
 rename_i ts' l' id g i j
 split at hr <;> try cases hr
 rename_i e ts0 g0 t es hid
 split at hr <;> try cases hr
 rename_i t1 ts l hg hc
 have hg:=Nat.eq_of_beq_eq_true hg
 subst hg
 have hidA:σ.emb.h id = .sl e ts0.length (.dp g t []) (es.map (encs ts0)):=by show (σ.H id).emb=_;rw [hid,TBlk.emb_sl]
 have hcell:∃ bk cur e0,ι id=some bk∧w.heap[bk]? = some (.cells cur e0 (0,0))∧cur[ι.o id+i*ts0.length+j]? = some v:=by
  simp only [TV.emb1] at hv
  cases hv with
  | bdead _ _ _ _ _ q1 q2=>rw [hidA] at q2;cases q2
  | b _ _ _ _ _ e' sz m es' q1 q2 q3 q4 =>
   rw [hidA] at q2
   injection q2 with r1 r2 r3 r4
   subst r2;subst r3
   exact (q4 rfl).2 i j rfl
 have hx:(es.map (encs ts0))[i]? = some (encs ts0 (gt ts0 es i)):=by
  rw [List.getElem?_map,List.getElem?_eq_getElem hp]
  simp [gt,List.getD,List.getElem?_eq_getElem hp]
 have hxj:=Qxx hc
 simp only [enc] at hxj
 obtain ⟨hn1,_⟩:=S.fresh σ.nx (Nat.le_refl _)
 obtain ⟨ι',S',hvk',_,_,hF,hgo⟩:=S.carve (U':=fun i=>σ.nx+1≤i) (n:=σ.nx) hidA hx hxj (by simp) (Nat.le_refl _) (fun i hi=>⟨Nat.le_of_succ_le hi,fun h=>by subst h;exact absurd hi (Nat.not_succ_le_self _)⟩) hcell
 have hh:(fun x=>(lkB ([(id,TBlk.sl e ts0 (.dp (g+1) t [(i,j)]) es),(σ.nx,.sl 0 (t1::ts) (.dp 0 false []) l)]++σ.h) x).emb) =
   upd (upd σ.emb.h σ.nx (.sl 0 (t1::ts).length (.dp 0 false []) (l.map (encs (t1::ts))))) id (.sl e ts0.length (.dp (g+1) t [(i,j)]) (es.map (encs ts0))):=by
  funext x
  simp only [List.cons_append,List.nil_append,Qay,upd]
  split
  ·rw [TBlk.emb_sl]
  ·split
   ·rw [TBlk.emb_sl]
   ·rfl
 rw [hh]
 refine ⟨ι',S',?_,hF,hgo,fun id' cs hb=>?_⟩
 ·simp only [TV.emb1]
  rw [List.length_map] at hvk'
  exact hvk'
 ·rw [congrFun hh id']
  have h1:id'≠id:=fun h=>by subst h;rw [hidA] at hb;cases hb
  have h2:id'≠σ.nx:=fun h=>by subst h;rw [hn1] at hb;cases hb
  rw [Qq _ _ _ _ h1,Qq _ _ _ _ h2,hb]
theorem Sat.recell {U:Nat→Prop} {σ:St} {a:Act} {w:World} {ι:Io} (S:Sat C U σ a w ι) {id:Nat} {cs cs':List AV} (hid:σ.h id = .box cs) (hl:cs'.length=cs.length)
  (hy:∀ (b:Nat) (e:TypeId) (vals:Array Value) (k:Nat) (v:Value) (y:AV),ι id=some b→w.heap[b]? = some (.cells vals e (0,0))→vals[k]? = some v→cs'[k]? = some y→VR w (Fz C w ι σ.h) ι σ.h v y) :
  Sat C U ⟨σ.t,upd σ.h id (.box cs'),σ.nx⟩ a w ι:=by
 have hrest:∀ i,Rest w w ι ι i:=fun i=>⟨rfl,rfl,fun _ _=>rfl,fun b p hk=>⟨hk,rfl⟩⟩
 have hF:∀ b,Fz C w ι σ.h b→Fz C w ι (upd σ.h id (.box cs')) b∧w.heap[b]? = w.heap[b]?:=fun b ⟨h1,h2,h3,h4⟩=>⟨⟨h1,h2,fun i hi=>by
  by_cases h:i=id
  ·subst h
   have:=h3 i hi
   rw [hid] at this
   cases this
  ·rw [Qq _ _ _ _ h];exact h3 i hi,h4⟩,rfl⟩
 have hg:∀ i,Goes w w ι ι σ.h (upd σ.h id (.box cs')) i:=fun i=>by
  by_cases h:i=id
  ·subst h
   unfold Goes
   right;right
   rw [Qu,hid]
   exact ⟨rfl,rfl,hl,fun _ _=>rfl,fun g h1=>by cases h1⟩
  ·exact (hrest i).goes (Qq _ _ _ _ h)
 refine S.evolve S.fra hF hg (fun i cs0 hx=>?_) (fun i=>?_) S.inj (fun i b hi=>?_) (fun i hi=>?_) (fun i b hi=>?_) (fun b i p hk=>?_)
 ·by_cases h:i=id
  ·subst h;rw [Qu];simp
  ·rw [Qq _ _ _ _ h,hx];simp
 ·by_cases h:i=id
  ·subst h
   right
   rw [Qu]
   have hb:=S.blk i
   rw [hid] at hb
   cases hb with
   | box b e vals _ q1 qo q2 q3 q4 q5 =>
    exact .box b e vals _ q1 qo q2 (q3.trans hl.symm) q4 (fun k v y hk hyk=>(hy b e vals k v y q1 q2 hk hyk).mono hF hg)
  ·exact .inl ⟨Qq _ _ _ _ h,hrest i⟩
 ·obtain ⟨h1,h2⟩:=S.rng i b hi
  refine ⟨h1.imp (fun x=>x) fun ⟨h3,cs0,h4⟩=>⟨h3,?_⟩,h2⟩
  by_cases h:i=id
  ·subst h;rw [Qu];exact ⟨_,rfl⟩
  ·rw [Qq _ _ _ _ h];exact ⟨cs0,h4⟩
 ·obtain ⟨h1,h2⟩:=S.fresh i hi
  have:i≠id:=fun e=>by subst e;rw [hid] at h1;cases h1
  rw [Qq _ _ _ _ this]
  exact ⟨h1,h2⟩
 ·by_cases h:i=id
  ·subst h;rw [Qu];simp
  ·rw [Qq _ _ _ _ h];exact S.live i b hi
 ·have L:=S.lab b i p hk
  refine ⟨L.pn,?_,L.fr,L.lt,L.ne⟩
  obtain ⟨e,sz,g,t,H,es,hd⟩:=L.dp
  have:i≠id:=fun e=>by subst e;rw [hid] at hd;cases hd
  rw [Qq _ _ _ _ this]
  exact ⟨e,sz,g,t,H,es,hd⟩
theorem Qwy {σ:TSt} {a:Act} {w:World} {s k:Nat} {r:Prop × TSt} (hr:Qkg s k σ=some r) (hp:r.1) (S:SatE C σ.emb a w):SatE C r.2.emb a w:=by
 obtain ⟨ι,S⟩:=S
 unfold Qkg at hr
 split at hr
 ·rename_i cs hs
  split at hr <;> try cases hr
  rename_i c hk
  split at hr <;> try cases hr
  rename_i p y l hc
  have hp:p:=hp
  have hv:=S.vals s
  have hsA:σ.emb.t s = .a (cs.map TV.emb1):=by show (σ.T s).emb=_;rw [hs];rfl
  rw [hsA] at hv
  generalize hval:a.tmps.getD s undef=val at hv
  cases hv with
  | a vs _ hl h1 hv =>
   have hlt:k<cs.length:=(List.getElem?_eq_some_iff.1 hk).1
   have hlv:k<vs.size:=by rw [hl,List.length_map];exact hlt
   have hkv:vs[k]? = some vs[k]:=by simp [hlv]
   have hb:=hv k vs[k] c.emb1 hkv (by rw [List.getElem?_map,hk];rfl)
   obtain ⟨ι',S',hvk',hF,hgo,_⟩:=QkT (U:=fun _=>True) hc hp S hb
   refine ⟨ι',S'.fra,fun s'=>?_,S'.size,S'.defers,S'.blk,S'.inj,S'.rng,S'.fresh,S'.live,S'.lent,S'.hand,S'.lab⟩
   show VR _ _ _ _ _ (lkT ((s,.a (cs.set k y))::σ.t) s').emb
   rw [Yd]
   by_cases hss:s'=s
   ·subst hss
    rw [Qu,hval]
    refine .a vs _ (by simp only [List.length_map,List.length_set];simpa using hl) h1 (fun k' v z hk' hz=>?_)
    rw [List.getElem?_map,List.getElem?_set] at hz
    by_cases hkk:k=k'
    ·subst hkk
     rw [if_pos rfl,if_pos hlt] at hz
     rw [hkv] at hk'
     cases hk';cases hz
     exact hvk'
    ·rw [if_neg hkk,← List.getElem?_map] at hz
     exact (hv k' v z hk' hz).mono (fun b hb=>⟨hF b hb,rfl⟩) hgo
   ·rw [Qq _ _ _ _ hss]
    exact S'.vals s'
 ·rename_i bid hs
  split at hr <;> try cases hr
  rename_i cs hb
  split at hr <;> try cases hr
  rename_i c hk
  split at hr <;> try cases hr
  rename_i p y l hc
  have hp:p:=hp
  have hbA:σ.emb.h bid = .box (cs.map TV.emb1):=by show (σ.H bid).emb=_;rw [hb];rfl
  have hlt:k<cs.length:=(List.getElem?_eq_some_iff.1 hk).1
  have hB:=S.blk bid
  rw [hbA] at hB
  cases hB with
  | box b e vals _ q1 qo q2 q3 q4 q5 =>
   have hlv:k<vals.size:=by rw [q3,List.length_map];exact hlt
   have hkv:vals[k]? = some vals[k]:=by simp [hlv]
   have hbv:=q5 k vals[k] c.emb1 hkv (by rw [List.getElem?_map,hk];rfl)
   obtain ⟨ι',S',hvk',hF,hgo,hbox⟩:=QkT (U:=fun _=>True) hc hp S hbv
   have hb2:=hbox bid _ hbA
   have hB2:=S'.blk bid
   have hB2:BR w (Fz C w ι' fun x=>(lkB (l++σ.h) x).emb) ι' (fun x=>(lkB (l++σ.h) x).emb) bid ((lkB (l++σ.h) bid).emb):=hB2
   rw [hb2] at hB2
   have S2:=Sat.recell S' (id:=bid) (cs:=cs.map TV.emb1) (cs':=(cs.set k y).map TV.emb1) hb2 (by simp) (fun b' e' vals' k' v z hi hheap hkv' hz=>by
    cases hB2 with
    | box b2 e2 vals2 _ r1 ro r2 r3 r4 r5 =>
     rw [r1] at hi;cases hi
     rw [r2] at hheap;cases hheap
     rw [List.getElem?_map,List.getElem?_set] at hz
     by_cases hkk:k=k'
     ·subst hkk
      rw [if_pos rfl,if_pos hlt] at hz
      cases hz
      have hsame:v=vals[k]:=by
       rcases hgo bid with g | g | ⟨g1,_,_,_,_⟩
       ·rw [hbA] at g;cases g
       ·have g:(lkB (l++σ.h) bid).emb = .dead:=g
        rw [hb2] at g;cases g
       ·rw [r1,q1] at g1
        cases g1
        rw [q2] at r2
        cases r2
        rw [hkv] at hkv'
        exact (Option.some.inj hkv').symm
      rw [hsame]
      exact hvk'
     ·rw [if_neg hkk,← List.getElem?_map] at hz
      exact r5 k' v z hkv' hz)
   have hfun:(fun x=>(lkB ((bid,TBlk.box (cs.set k y))::(l++σ.h)) x).emb)=upd (fun x=>(lkB (l++σ.h) x).emb) bid (.box ((cs.set k y).map TV.emb1)):=by
    funext x
    simp only [Qay,upd]
    split
    ·rfl
    ·rfl
   refine ⟨ι',?_⟩
   have:(TSt.emb ⟨σ.t,(bid,.box (cs.set k y))::(l++σ.h),σ.nx+1⟩)=⟨σ.emb.t,upd (fun x=>(lkB (l++σ.h) x).emb) bid (.box ((cs.set k y).map TV.emb1)),σ.nx+1⟩:=by
    rw [← hfun]
    rfl
   rw [this]
   exact S2.nx
 ·cases hr
theorem QE0 (hm:C.P.follows .mixedOrders=true) (hT:TabSim Γ ΓA) (hΓ:YC C.P ΓA) (hL:Kept C nl):∀ (tc:TCode) (c:Code) (Qa:Qb) (Q:Exit→Act→World→Prop) (σ:TSt) (a:Act) (w:World),comp C.P C.N c=some tc.er →
  tawp Γ nl tc Qa σ→SatE C σ.emb a w→QH8 C Qa Q→c.wp C.P Q a w:=by
 intro tc
 induction tc with
 | skip =>
  intro c Qa Q σ a w hc h S hQ
  refine Qcm hm hΓ c .skip (fun e τ=>e = .normal∧τ=σ.emb) Q σ.emb a w hc ⟨rfl,rfl⟩ S ?_
  rintro e τ a' w' ⟨rfl,rfl⟩ S'
  exact hQ .normal σ a' w' h S'
 | reg ss =>
  intro c Qa Q σ a w hc h S hQ
  simp only [tawp] at h
  split at h
  rotate_left
  ·exact h.elim
  rename_i p σ' l hr
  rw [Qfs] at h
  obtain ⟨l',h1,_⟩:=Qcw hT ss hr h.1
  have hlen:(erL none 0 ss).length=lenL ss:=Qc1 none ss 0
  refine Qcm hm hΓ c _ (fun e τ=>e = .normal∧τ=(σ'.bump (16*lenL ss)).emb) Q σ.emb a w hc ?_ S ?_
  ·show regK ΓA (erL none 0 ss) (fun s=>AEx.normal=AEx.normal∧s.bump (16*(erL none 0 ss).length)=_) σ.emb
   exact QrW _ h1 ⟨rfl,by rw [hlen];rfl⟩
  ·rintro e τ a' w' ⟨rfl,rfl⟩ S'
   exact hQ .normal _ a' w' h.2 S'
 | draw ss U =>
  intro c Qa Q σ a w hc h S hQ
  simp only [tawp] at h
  split at h
  rotate_left
  ·exact h.elim
  rename_i p σ' l hr
  split at h
  rotate_left
  ·exact h.elim
  rename_i hno
  rw [Qfs] at h
  obtain ⟨l',h1,h2⟩:=Qcw hT ss hr h.1
  have hlen:(erL none 0 ss).length=lenL ss:=Qc1 none ss 0
  refine Qcm hm hΓ c _ (fun e τ=>e = .normal∧τ=(σ'.bump (16*lenL ss)).emb) Q σ.emb a w hc ?_ S ?_
  ·simp only [TCode.er,awp,h1]
   exact ⟨Qxv h2 hno,trivial,by rw [hlen];rfl⟩
  ·rintro e τ a' w' ⟨rfl,rfl⟩ S'
   exact hQ .normal _ a' w' h.2 S'
 | seq x y ihx ihy =>
  intro c Qa Q σ a w hc h S hQ
  simp only [TCode.er] at hc
  obtain ⟨c1,c2,rfl,h1,h2⟩:=QJm hc
  simp only [tawp] at h
  refine wp_seq (ihx _ _ _ σ a w h1 h S ?_)
  intro e σ' a' w' he S'
  cases e with
  | normal=>exact ihy _ _ _ σ' a' w' h2 he S' hQ
  | exit id=>exact hQ _ _ _ _ he S'
  | ret=>exact hQ _ _ _ _ he S'
 | cond b x y ihx ihy =>
  intro c Qa Q σ a w hc h S hQ
  simp only [TCode.er] at hc
  obtain ⟨b0,c1,c2,rfl,h0,h1,h2⟩:=QJx hc
  simp only [tawp] at h
  split at h
  rotate_left
  ·exact h.elim
  rename_i t ht
  obtain ⟨ι,S0⟩:=S
  exact wp_cond_split (QyJ S0 h0 ht) (fun e=>ihx _ _ _ σ a w h1 (h.1 e) ⟨ι,S0⟩ hQ) (fun e=>ihy _ _ _ σ a w h2 (h.2 e) ⟨ι,S0⟩ hQ)
 | block id x ih =>
  intro c Qa Q σ a w hc h S hQ
  simp only [TCode.er] at hc
  obtain ⟨c1,rfl,h1⟩:=QIR hc
  simp only [tawp] at h
  refine wp_block (ih _ _ _ σ a w h1 h S ?_)
  intro e σ' a' w' he S'
  cases e with
  | normal=>exact hQ _ _ _ _ he S'
  | ret=>exact hQ _ _ _ _ he S'
  | exit id' =>
   simp only [Qblk] at he
   show Exit.inBlock id Q (.exit id') a' w'
   simp only [Exit.inBlock]
   split
   ·rename_i heq;subst heq;rw [show Nat.beq id' id'=true by simp] at he;exact hQ .normal _ _ _ he S'
   ·rename_i heq;rw [Qh4 heq] at he;exact hQ (.exit id') _ _ _ he S'
 | loop L x ih =>
  intro c Qa Q σ a w hc h S hQ
  simp only [TCode.er] at hc
  obtain ⟨c1,rfl,h1⟩:=QD6 hc
  simp only [tawp] at h
  have key:=h (fun s=>∀ a w,SatE C s.emb a w→∀ (b:Frame) (k:List Item) (cs:List Frame),∃ e a' w',Q e a' w'∧Arrives C.P (lone (b.at a (.code c1::.inLoop c1::k)) cs w) b k cs e a' w') ?_
  ·intro b k cs
   obtain ⟨e,a',w',hq,harr⟩:=key a w (gcE hL S) b k cs
   exact ⟨e,a',w',hq,.of_steps (.one step_loop) harr⟩
  ·intro s hs a w S b k cs
   have hb:=ih c1 _ (Exit.then (fun a w=>∀ (b:Frame) (k:List Item) (cs:List Frame),∃ e a' w',Q e a' w'∧Arrives C.P (lone (b.at a (.code c1::.inLoop c1::k)) cs w) b k cs e a' w') Q) s a w h1 hs S ?_
   ·obtain ⟨e,a₁,w₁,hq,harr⟩:=hb b (.inLoop c1::k) cs
    cases e with
    | normal =>
     obtain ⟨e₂,a₂,w₂,hq₂,harr₂⟩:=hq b k cs
     exact ⟨e₂,a₂,w₂,hq₂,.of_steps (Steps.trans harr (.one step_inLoop)) harr₂⟩
    | exit id=>exact ⟨_,a₁,w₁,hq,.pass (x:=.inLoop c1) rfl (fun _ _=>.inl (by simp)) harr⟩
    | goto l=>exact ⟨_,a₁,w₁,hq,.pass (x:=.inLoop c1) rfl (fun _ _=>.inl (by simp)) harr⟩
    | ret=>exact ⟨_,a₁,w₁,hq,.pass (x:=.inLoop c1) rfl (fun _ _=>.inl (by simp)) harr⟩
    | panic ch=>exact ⟨_,a₁,w₁,hq,.pass (x:=.inLoop c1) rfl (fun _ _=>.inl (by simp)) harr⟩
    | outgrown=>exact ⟨_,a₁,w₁,hq,.pass (x:=.inLoop c1) rfl (fun _ _=>.inl (by simp)) harr⟩
   ·intro e σ' a' w' he S'
    cases e with
    | normal=>exact he a' w' (gcE hL S')
    | exit id=>exact hQ _ _ _ _ he S'
    | ret=>exact hQ _ _ _ _ he S'
 | exit id =>
  intro c Qa Q σ a w hc h S hQ
  refine Qcm hm hΓ c (.exit id) (fun e τ=>e = .exit id∧τ=σ.emb) Q σ.emb a w hc ⟨rfl,rfl⟩ S ?_
  rintro e τ a' w' ⟨rfl,rfl⟩ S'
  exact hQ (.exit id) σ a' w' h S'
 | ret =>
  intro c Qa Q σ a w hc h S hQ
  refine Qcm hm hΓ c .ret (fun e τ=>e = .ret∧τ=σ.emb) Q σ.emb a w hc ⟨rfl,rfl⟩ S ?_
  rintro e τ a' w' ⟨rfl,rfl⟩ S'
  exact hQ .ret σ a' w' h S'
 | wk L x ih =>
  intro c Qa Q σ a w hc h S hQ
  exact ih c Qa Q _ a w hc h (gcE hL S) hQ
 | cv s k x ih =>
  intro c Qa Q σ a w hc h S hQ
  simp only [tawp] at h
  split at h
  ·rename_i r hr
   exact ih c Qa Q _ a w hc h.2 (Qwy hr h.1 S) hQ
  ·exact h.elim
end
end Go.Proofs.YtdplaepmjogjjaaGreat.Am
namespace Go.Proofs.YtdplaepmjogjjaaGreat.Am
open Go Go.RowKit
mutual
theorem Qfd:∀ (t:CT) (x y:t.den),enc t x=enc t y→x=y
 | .int k,x,y,h=>by injection h with h;injection h
 | .bool,x,y,h=>by injection h with h;injection h
 | .str,x,y,h=>by injection h with h;injection h
 | .nilp,x,y,h=>rfl
 | .sl ts,x,y,h=>by
  rw [enc,enc] at h
  injection h with _ h
  exact QcM (fun a b=>Qcs ts a b) x y h
theorem Qcs:∀ (ts:List CT) (x y:Tup ts),encs ts x=encs ts y→x=y
 | [],x,y,_=>rfl
 | t::ts,x,y,h=>by
  rw [encs,encs] at h
  injection h with h1 h2
  have h1:=Qfd t _ _ h1
  have h2:=Qcs ts _ _ h2
  cases ts with
  | nil=>exact h1
  | cons u us=>exact Prod.ext h1 h2
theorem QcM {α β:Type} {f:α→β} (hf:∀ a b,f a=f b→a=b):∀ (x y:List α),x.map f=y.map f→x=y
 | [],[],_=>rfl
 | a::x,b::y,h=>by
  rw [List.map_cons,List.map_cons] at h
  injection h with h1 h2
  rw [hf a b h1,QcM hf x y h2]
 | [],b::y,h=>by simp at h
 | a::x,[],h=>by simp at h
end
theorem Qg7:∀ {ts:List CT} {xs ys:List TV},ctL xs=some ts→ctL ys=some ts→xs.map TV.emb1=ys.map TV.emb1→xs=ys
 | ts,[],ys,h1,h2,h=>by
  cases ys with
  | nil=>rfl
  | cons y ys=>simp at h
 | ts,x::xs,ys,h1,h2,h=>by
  cases ys with
  | nil=>simp at h
  | cons y ys =>
   cases x with
   | c t x =>
    cases y with
    | c t' y =>
     simp only [ctL] at h1 h2
     split at h1
     rotate_left
     ·cases h1
     rename_i t1 e1
     split at h2
     rotate_left
     ·cases h2
     rename_i t2 e2
     cases h1
     cases h2
     rw [List.map_cons,List.map_cons] at h
     injection h with h3 h4
     rw [Qg7 e1 e2 h4]
     simp only [TV.emb1] at h3
     injection h3 with h3
     rw [Qfd t x y h3]
    | _=>simp [ctL] at h2
   | _=>simp [ctL] at h1
theorem QfW {m:Mo} (h:isDw m=true):m=dw:=by
 unfold isDw at h
 split at h
 ·rfl
 ·cases h
theorem Qsw {e:TypeId} {ts:List CT} {x:TV} (hx:(Sh.o e ts).fits x=true):∃ es,x = .ow e ts .ow es:=by
 cases x with
 | ow e' ts' m es =>
  cases m with
  | ow =>
   simp only [Sh.fits,Bool.and_eq_true] at hx
   obtain rfl:=Nat.eq_of_beq_eq_true hx.1
   obtain rfl:=CT.beqL_eq _ _ hx.2
   exact ⟨es,rfl⟩
  | _=>simp [Sh.fits] at hx
 | _=>simp [Sh.fits] at hx
theorem QmT {ts:List CT} {x:TV} (hx:(Sh.d ts).fits x=true):∃ es,x = .ow 0 ts dw es:=by
 cases x with
 | ow e' ts' m es =>
  simp only [Sh.fits,Bool.and_eq_true] at hx
  obtain rfl:=Nat.eq_of_beq_eq_true hx.1.1
  obtain rfl:=CT.beqL_eq _ _ hx.1.2
  obtain rfl:=QfW hx.2
  exact ⟨es,rfl⟩
 | _=>simp [Sh.fits] at hx
theorem Ql9 {t:CT} {ts:List CT} {x:TV} {xs:List TV} (h:Yy (t::ts) (x::xs)=true):((∃ d,x = .c t d)∨∃ us es,t = .sl us∧x = .ow 0 us dw es)∧Yy ts xs=true:=by
 simp only [Yy,Bool.and_eq_true] at h
 refine ⟨?_,h.2⟩
 have h:=h.1
 cases x with
 | c t' d =>
  simp only [Bool.and_eq_true] at h
  obtain rfl:=CT.beq_eq _ _ h.1
  exact .inl ⟨d,rfl⟩
 | ow e' us m es =>
  simp only [Bool.and_eq_true] at h
  obtain rfl:=Nat.eq_of_beq_eq_true h.1.1
  have:=CT.beq_eq _ _ h.1.2
  obtain rfl:=QfW h.2
  exact .inr ⟨us,es,this.symm,rfl⟩
 | _=>cases h
theorem Qqb:∀ {ts:List CT} {xs ys:List TV},Yy ts xs=true→Yy ts ys=true→xs.map TV.emb1=ys.map TV.emb1→xs=ys
 | [],[],[],_,_,_=>rfl
 | [],_::_,_,h,_,_=>by simp [Yy] at h
 | [],[],_::_,_,h,_=>by simp [Yy] at h
 | _::_,[],_,h,_,_=>by simp [Yy] at h
 | _::_,_::_,[],_,h,_=>by simp [Yy] at h
 | t::ts,x::xs,y::ys,h1,h2,h=>by
  obtain ⟨a1,b1⟩:=Ql9 h1
  obtain ⟨a2,b2⟩:=Ql9 h2
  rw [List.map_cons,List.map_cons] at h
  injection h with h3 h4
  rw [Qqb b1 b2 h4]
  congr 1
  rcases a1 with ⟨d,rfl⟩ | ⟨us,es,rfl,rfl⟩
  ·rcases a2 with ⟨d',rfl⟩ | ⟨us,es,rfl,rfl⟩
   ·simp only [TV.emb1] at h3
    injection h3 with h3
    rw [Qfd t d d' h3]
   ·cases h3
  ·rcases a2 with ⟨d',rfl⟩ | ⟨us',es',q,rfl⟩
   ·cases h3
   ·injection q with q
    subst q
    simp only [TV.emb1] at h3
    injection h3 with _ _ _ h3
    rw [QcM (fun a b=>Qcs us a b) _ _ h3]
theorem QH4 {s:Sh} {x y:TV} (hx:s.fits x=true) (hy:s.fits y=true) (h:x.emb=y.emb):x=y:=by
 cases s with
 | c t =>
  cases x with
  | c t1 x =>
   cases y with
   | c t2 y =>
    simp only [Sh.fits] at hx hy
    have h1:=CT.beq_eq _ _ hx
    have h2:=CT.beq_eq _ _ hy
    subst h1
    subst h2
    simp only [TV.emb,TV.emb2,TV.emb1] at h
    injection h with h
    rw [Qfd _ x y h]
   | _=>simp [Sh.fits] at hy
  | _=>simp [Sh.fits] at hx
 | o e ts =>
  obtain ⟨xs,rfl⟩:=Qsw hx
  obtain ⟨ys,rfl⟩:=Qsw hy
  simp only [TV.emb,TV.emb2,TV.emb1] at h
  injection h with _ _ _ h
  rw [QcM (fun a b=>Qcs ts a b) _ _ h]
 | d ts =>
  obtain ⟨xs,rfl⟩:=QmT hx
  obtain ⟨ys,rfl⟩:=QmT hy
  simp only [TV.emb,TV.emb2,TV.emb1] at h
  injection h with _ _ _ h
  rw [QcM (fun a b=>Qcs ts a b) _ _ h]
 | s ts =>
  cases x with
  | a xs =>
   cases y with
   | a ys =>
    simp only [Sh.fits] at hx hy
    simp only [TV.emb,TV.emb2] at h
    injection h with h
    rw [Qqb hx hy h]
   | _=>simp [Sh.fits] at hy
  | _=>simp [Sh.fits] at hx
 | a ts =>
  cases x with
  | a xs =>
   cases y with
   | a ys =>
    simp only [Sh.fits] at hx hy
    split at hx
    rotate_left
    ·cases hx
    rename_i t1 e1
    split at hy
    rotate_left
    ·cases hy
    rename_i t2 e2
    have h1:=CT.beqL_eq _ _ hx
    have h2:=CT.beqL_eq _ _ hy
    subst h1
    subst h2
    simp only [TV.emb,TV.emb2] at h
    injection h with h
    rw [Qg7 e1 e2 h]
   | _=>simp [Sh.fits] at hy
  | _=>simp [Sh.fits] at hx
 | b ts =>
  cases x with
  | bx xs =>
   cases y with
   | bx ys =>
    simp only [Sh.fits] at hx hy
    split at hx
    rotate_left
    ·cases hx
    rename_i t1 e1
    split at hy
    rotate_left
    ·cases hy
    rename_i t2 e2
    have h1:=CT.beqL_eq _ _ hx
    have h2:=CT.beqL_eq _ _ hy
    subst h1
    subst h2
    simp only [TV.emb] at h
    injection h with h
    rw [Qg7 e1 e2 h]
   | _=>simp [Sh.fits] at hy
  | _=>simp [Sh.fits] at hx
theorem Qrj:∀ {ss:List Sh} {xs ys:List TV},Zi ss xs=true→Zi ss ys=true→xs.map TV.emb=ys.map TV.emb→xs=ys
 | [],[],[],_,_,_=>rfl
 | [],_::_,_,h,_,_=>by simp [Zi] at h
 | [],[],_::_,_,h,_=>by simp [Zi] at h
 | _::_,[],_,h,_,_=>by simp [Zi] at h
 | _::_,_::_,[],_,h,_=>by simp [Zi] at h
 | s::ss,x::xs,y::ys,h1,h2,h=>by
  simp only [Zi,Bool.and_eq_true] at h1 h2
  rw [List.map_cons,List.map_cons] at h
  injection h with h3 h4
  rw [QH4 h1.1 h2.1 h3,Qrj h1.2 h2.2 h4]
def TCon (P:Program) (f:FuncId) (xs:List TV) (r:TRes):Prop:=Con P f (xs.map TV.emb) r.emb
def Qi (P:Program) (row:TRow):Prop:=∀ vs pre r,Zi row.sg vs=true→row.fn vs=some (pre,r)→holds pre→TCon P row.f vs r
def TOkL (P:Program) (Γ:List TRow):Prop:=∀ row,row∈Γ→Qi P row
def TOk (P:Program) (Γ:TTab):Prop:=TOkL P Γ.rows
theorem TOkL.nil {P:Program}:TOkL P []:=fun _ h=>by cases h
theorem TOkL.cons {P:Program} {row:TRow} {Γ:List TRow} (h:Qi P row) (hs:TOkL P Γ):TOkL P (row::Γ):=fun r hr=>by
 rcases List.mem_cons.1 hr with rfl | hr
 ·exact h
 ·exact hs r hr
theorem QqL:∀ {Γ:List TRow} {f:FuncId} {row:TRow},Yk Γ f=some row→row∈Γ∧row.f=f
 | [],f,row,h=>by simp [Yk] at h
 | r::rs,f,row,h=>by
  simp only [Yk] at h
  cases hb:Nat.beq r.f f with
  | true =>
   rw [hb] at h
   simp only [cond_true,Option.some.injEq] at h
   subst h
   exact ⟨List.mem_cons_self,Nat.eq_of_beq_eq_true hb⟩
  | false =>
   rw [hb] at h
   have:=QqL (Γ:=rs) h
   exact ⟨List.mem_cons_of_mem _ this.1,this.2⟩
open Classical in
noncomputable def tabOf (Γ:TTab):Tab:=⟨fun f=>match Yk Γ.rows f with | some row=>mdOf row.sg | none=>[],fun f args =>
 if h:∃ r:TRes,∃ row vs pre,Yk Γ.rows f=some row∧Zi row.sg vs=true∧row.fn vs=some (pre,r)∧holds pre∧vs.map TV.emb=args then some h.choose.emb else none,Γ.dp⟩
theorem QBj (Γ:TTab):TabSim Γ (tabOf Γ):=by
 refine ⟨fun f row h=>by simp only [tabOf,h],?_,rfl⟩
 intro f row vs pre r h1 h2 h3 h4
 have hex:∃ r:TRes,∃ row vs' pre,Yk Γ.rows f=some row∧Zi row.sg vs'=true∧row.fn vs'=some (pre,r)∧holds pre∧vs'.map TV.emb=vs.map TV.emb:=⟨r,row,vs,pre,h1,h2,h3,h4,rfl⟩
 simp only [tabOf]
 rw [dif_pos hex]
 obtain ⟨row',vs',pre',g1,g2,g3,g4,g5⟩:=hex.choose_spec
 rw [h1] at g1
 cases g1
 have:=Qrj g2 h2 g5
 subst this
 rw [h3] at g3
 injection g3 with g3
 injection g3 with _ g3
 rw [← g3]
theorem QI7 {P:Program} {Γ:TTab} (h:TOk P Γ):YC P (tabOf Γ):=by
 intro f args r hr
 simp only [tabOf] at hr
 split at hr
 rotate_left
 ·cases hr
 rename_i hex
 cases hr
 obtain ⟨row,vs,pre,g1,g2,g3,g4,g5⟩:=hex.choose_spec
 obtain ⟨m1,m2⟩:=QqL g1
 have:=h row m1 vs pre _ g2 g3 g4
 unfold TCon at this
 rw [m2,g5] at this
 exact this
def Qba:List TV→Nat→List TV
 | [],_=>[]
 | .ow _ ts _ es::r,m=>.r ts m 0 es.length::Qba r (m+1)
 | x::r,m=>x::Qba r m
def Qbc:List TV→Nat→List (Nat × TBlk)
 | [],_=>[]
 | .ow e ts m es::r,k=>(k,.sl e ts m es)::Qbc r (k+1)
 | _::r,k=>Qbc r k
def towc:List TV→Nat
 | []=>0
 | .ow _ _ _ _::r=>towc r+1
 | _::r=>towc r
def Jd:List TV→Nat→Nat→Nat→List (Nat × TV)
 | [],_,_,_=>[]
 | .bx _::r,s,k,m=>(s,.p k 0 0)::Jd r (s+1) (k+1) m
 | .ow _ ts _ es::r,s,k,m=>(s,.r ts m 0 es.length)::Jd r (s+1) k (m+1)
 | .a cs::r,s,k,m=>(s,.a (Qba cs m))::Jd r (s+1) k (m+towc cs)
 | x::r,s,k,m=>(s,x)::Jd r (s+1) k m
def QaG:List TV→Nat→List (Nat × TBlk)
 | [],_=>[]
 | .bx cs::r,k=>(k,.box cs)::QaG r (k+1)
 | _::r,k=>QaG r k
def Jo:List TV→Nat→List (Nat × TBlk)
 | [],_=>[]
 | .ow e ts m es::r,k=>(k,.sl e ts m es)::Jo r (k+1)
 | .a cs::r,k=>Qbc cs k++Jo r (k+towc cs)
 | _::r,k=>Jo r k
def tbxs:List TV→Nat
 | []=>0
 | .bx _::r=>tbxs r+1
 | _::r=>tbxs r
def tows:List TV→Nat
 | []=>0
 | .ow _ _ _ _::r=>tows r+1
 | .a cs::r=>tows r+towc cs
 | _::r=>tows r
def Qe (xs:List TV):TSt:=⟨Jd xs 0 0 (tbxs xs),QaG xs 0++Jo xs (tbxs xs),tbxs xs+tows xs⟩
theorem QcP:∀ (cs:List TV),towc cs=(Zj (cs.map TV.emb1)).length
 | []=>rfl
 | x::cs=>by cases x <;> simp only [towc,List.map_cons,TV.emb1,Zj,List.length_cons,QcP cs]
theorem Qi5:∀ (cs:List TV) (m:Nat),(Qba cs m).map TV.emb1=layC (cs.map TV.emb1) m
 | [],_=>rfl
 | x::cs,m=>by
  cases x with
  | ow e ts mm es=>simp only [Qba,List.map_cons,TV.emb1,layC,List.length_map,Qi5 cs]
  | _=>simp only [Qba,List.map_cons,TV.emb1,layC,Qi5 cs]
theorem Qhl:∀ (cs:List TV) (B:List (Nat × TBlk)) (k j:Nat),(lkB (Qbc cs k++B) j).emb=if k≤j then (match (Zj (cs.map TV.emb1))[j-k]? with | some b=>b | none=>(lkB B j).emb) else (lkB B j).emb
 | [],B,k,j=>by simp [Qbc,Zj]
 | x::cs,B,k,j=>by
  cases x with
  | ow e ts m es =>
   simp only [Qbc,List.cons_append,Qay,upd,List.map_cons,TV.emb1,Zj]
   by_cases h:j=k
   ·subst h;simp [TBlk.emb]
   ·rw [if_neg h,Qhl cs B (k+1) j]
    by_cases h2:k≤j
    ·rw [if_pos h2,if_pos (by omega),show j-k=(j-(k+1))+1 by omega]
     simp
    ·rw [if_neg h2,if_neg (by omega)]
  | _=>exact Qhl cs B k j
def TV.ng:TV→Bool
 | .g _ _=>false
 | _=>true
theorem QrB:∀ (xs:List TV) (s k m j:Nat),xs.all TV.ng=true→(lkT (Jd xs s k m) j).emb=if s≤j then ((layS (xs.map TV.emb) k m)[j-s]?).getD .u else .u
 | [],s,k,m,j,_=>by simp [Jd,lkT,layS,TV.emb,TV.emb2,TV.emb1]
 | x::xs,s,k,m,j,hok=>by
  rw [List.all_cons,Bool.and_eq_true] at hok
  have key:∀ (y:TV) (k' m':Nat) (z:AV),y.emb=z→(lkT ((s,y)::Jd xs (s+1) k' m') j).emb=if s≤j then ((z::layS (xs.map TV.emb) k' m')[j-s]?).getD .u else .u:=by
   intro y k' m' z hz
   rw [Yd,upd]
   by_cases h:j=s
   ·subst h;simp [hz]
   ·rw [if_neg h,QrB xs (s+1) k' m' j hok.2]
    by_cases h2:s≤j
    ·rw [if_pos h2,if_pos (by omega),show j-s=(j-(s+1))+1 by omega]
     simp
    ·rw [if_neg h2,if_neg (by omega)]
  cases x with
  | bx cs=>exact key (.p k 0 0) (k+1) m (.p k 0 0) rfl
  | ow e ts mm es =>
   have:=key (.r ts m 0 es.length) k (m+1) (.r ts.length m 0 (es.map (encs ts)).length) (by simp [TV.emb,TV.emb2,TV.emb1])
   exact this
  | a cs =>
   have:=key (.a (Qba cs m)) k (m+towc cs) (.a (layC (cs.map TV.emb1) m)) (by simp only [TV.emb,TV.emb2,Qi5])
   rw [QcP] at this
   simp only [Jd,QcP]
   exact this
  | g b v=>exact absurd hok.1 (by simp [TV.ng])
  | _=>exact key _ k m _ rfl
theorem QkE:∀ (xs:List TV) (B:List (Nat × TBlk)) (k j:Nat),xs.all TV.ng=true→(lkB (QaG xs k++B) j).emb=if k≤j then (match (layB (xs.map TV.emb))[j-k]? with | some cs=>.box cs | none=>(lkB B j).emb) else (lkB B j).emb
 | [],B,k,j,_=>by simp [QaG,layB]
 | x::xs,B,k,j,hok=>by
  rw [List.all_cons,Bool.and_eq_true] at hok
  cases x with
  | bx cs =>
   simp only [QaG,List.cons_append,Qay,upd,List.map_cons,layB,TV.emb]
   by_cases h:j=k
   ·subst h;simp [TBlk.emb]
   ·rw [if_neg h,QkE xs B (k+1) j hok.2]
    by_cases h2:k≤j
    ·rw [if_pos h2,if_pos (by omega),show j-k=(j-(k+1))+1 by omega]
     simp
    ·rw [if_neg h2,if_neg (by omega)]
  | g b v=>exact absurd hok.1 (by simp [TV.ng])
  | _=>exact QkE xs B k j hok.2
theorem Qfj:∀ (xs:List TV) (k j:Nat),xs.all TV.ng=true→(lkB (Jo xs k) j).emb=if k≤j then ((layG (xs.map TV.emb))[j-k]?).getD .none else .none
 | [],k,j,_=>by simp [Jo,lkB,layG,TBlk.emb]
 | x::xs,k,j,hok=>by
  rw [List.all_cons,Bool.and_eq_true] at hok
  cases x with
  | ow e ts m es =>
   simp only [Jo,Qay,upd,List.map_cons,layG,TV.emb,TV.emb2,TV.emb1]
   by_cases h:j=k
   ·subst h;simp [TBlk.emb]
   ·rw [if_neg h,Qfj xs (k+1) j hok.2]
    by_cases h2:k≤j
    ·rw [if_pos h2,if_pos (by omega),show j-k=(j-(k+1))+1 by omega]
     simp
    ·rw [if_neg h2,if_neg (by omega)]
  | a cs =>
   simp only [Jo,List.map_cons,layG,TV.emb,TV.emb2]
   rw [Qhl,Qfj xs _ j hok.2,QcP]
   by_cases h2:k≤j
   ·rw [if_pos h2,if_pos h2,List.getElem?_append]
    by_cases h3:j-k<(Zj (cs.map TV.emb1)).length
    ·rw [if_pos h3,List.getElem?_eq_getElem h3]
     rfl
    ·rw [if_neg h3,List.getElem?_eq_none (by omega),if_pos (by omega),show j-(k+(Zj (cs.map TV.emb1)).length)=j-k-(Zj (cs.map TV.emb1)).length by omega]
   ·rw [if_neg h2,if_neg h2,if_neg (by omega)]
  | g b v=>exact absurd hok.1 (by simp [TV.ng])
  | _=>exact Qfj xs k j hok.2
theorem Qc2:∀ (xs:List TV),xs.all TV.ng=true→tows xs=(layG (xs.map TV.emb)).length
 | [],_=>rfl
 | x::xs,hok=>by
  rw [List.all_cons,Bool.and_eq_true] at hok
  cases x with
  | ow e ts m es=>simp only [tows,List.map_cons,TV.emb,TV.emb2,TV.emb1,layG,List.length_cons,Qc2 xs hok.2]
  | a cs=>simp only [tows,List.map_cons,TV.emb,TV.emb2,layG,List.length_append,Qc2 xs hok.2,QcP];omega
  | g b v=>exact absurd hok.1 (by simp [TV.ng])
  | _=>exact Qc2 xs hok.2
theorem Qfz:∀ (xs:List TV),xs.all TV.ng=true→tbxs xs=(layB (xs.map TV.emb)).length
 | [],_=>rfl
 | x::xs,hok=>by
  rw [List.all_cons,Bool.and_eq_true] at hok
  cases x with
  | bx cs=>simp only [tbxs,List.map_cons,TV.emb,layB,List.length_cons,Qfz xs hok.2]
  | g b v=>exact absurd hok.1 (by simp [TV.ng])
  | _=>exact Qfz xs hok.2
theorem QAO (xs:List TV) (hok:xs.all TV.ng=true):(Qe xs).emb=Yo (xs.map TV.emb):=by
 have hB:=Qfz xs hok
 have hG:=Qc2 xs hok
 unfold Qe TSt.emb Yo TSt.T TSt.H
 congr 1
 ·funext s
  rw [QrB xs 0 0 _ s hok,hB]
  simp
 ·funext i
  show (lkB (QaG xs 0++Jo xs (tbxs xs)) i).emb=_
  rw [QkE xs _ 0 i hok,Qfj xs _ i hok,hB]
  simp only [Nat.zero_le,if_true,Nat.sub_zero]
  cases hx:(layB (xs.map TV.emb))[i]? with
  | some cs=>rfl
  | none =>
   have:(layB (xs.map TV.emb)).length≤i:=by rw [List.getElem?_eq_none_iff] at hx;exact hx
   rw [if_pos this]
 ·rw [hB,hG]
def ARv.slot:ARv→Nat
 | .t s=>s
 | .l s _ _=>s
def tget (σ:TSt):ARv→Option TV
 | .t s=>some (σ.T s)
 | .l s n agg=>match QJ ⟨[],false⟩ σ.T σ.H 0 (.load (.s s) n agg) with
  | some ⟨none,v,_⟩=>some v
  | _=>none
def Qcc (σ:TSt):List ARv→Option (List TV)
 | []=>some []
 | x::xs=>match tget σ x,Qcc σ xs with
  | some y,some ys=>some (y::ys)
  | _,_=>none
def Y8:List TV→TV
 | [x]=>x
 | xs=>.tp xs
def TV.rn1 (ids:List Nat):TV→TV
 | .r ts id off len=>bif ids.elem id then .r ts (ids.idxOf id) off len else .u
 | .p id i j=>bif ids.elem id then .p (ids.idxOf id) i j else .u
 | .c t x=>.c t x
 | .n ts=>.n ts
 | .q ts x j=>.q ts x j
 | _=>.u
def TV.rn2 (ids:List Nat):TV→TV
 | .a cs=>.a (cs.map (TV.rn1 ids))
 | x=>x.rn1 ids
def TV.rn (ids:List Nat):TV→TV
 | .tp vs=>.tp (vs.map (TV.rn2 ids))
 | x=>x.rn2 ids
def TBlk.rn (ids:List Nat):TBlk→TBlk
 | .box cs=>.box (cs.map (TV.rn1 ids))
 | x=>x
def isCT:TV→Bool
 | .c _ _=>true
 | _=>false
def Qdg (h:Nat→TBlk):Nat→Nat→Option (List (List TV))
 | 0,_=>some []
 | n+1,k=>match h k,Qdg h n (k+1) with
  | .box cs,some css=>bif cs.all isCT then some (cs::css) else none
  | _,_=>none
def TV.free1:TV→Bool
 | .c t _=>t.flat
 | .n _=>true
 | .r ..=>true
 | .p ..=>true
 | .u=>true
 | _=>false
def TV.free2:TV→Bool
 | .a cs=>cs.all TV.free1
 | x=>x.free1
def TV.free:TV→Bool
 | .tp vs=>vs.all TV.free2
 | x=>x.free2
def TBlk.free:TBlk→Bool
 | .none=>true
 | .dead=>true
 | .box cs=>cs.all TV.free1
 | .sl _ ts m _=>(match m with | .dp _ _ _=>true | _=>ts.all CT.flat)
def Qbu:List Nat→List Nat→List Nat
 | [],acc=>acc
 | x::xs,acc=>bif acc.elem x then Qbu xs acc else Qbu xs (acc++[x])
def Qdb (h:Nat→TBlk):Nat→Nat→Option (List TBlk)
 | 0,_=>some []
 | n+1,k=>match h k,Qdb h n (k+1) with
  | .sl e ts m es,some css=>some (.sl e ts m es::css)
  | .dead,some css=>some (.dead::css)
  | _,_=>none
def QgQ (nb no:Nat) (rs:List (ARv × Md)) (σ0:TSt):Option TRes :=
 let σ:=gc (nb+no) (rs.map fun x=>(x.1.slot,x.2)) σ0
 match Qcc σ (rs.map Prod.fst) with
 | some vs=>bif vs.all TV.st then (match Qdg σ.H nb 0,Qdb σ.H no nb with
  | some css,some gs =>
   let ids:=Qbu (vs.flatMap fun v=>v.refs++v.lent) []
   let v:=(Y8 vs).rn ids
   let hb:=ids.map fun id=>(σ.H id).rn ids
   bif Qac ids&&ids.all (Nat.ble (nb+no) ·) then some ⟨v,hb,css,!(v.free&&css.isEmpty&&hb.all TBlk.free&&gs.isEmpty),gs⟩ else none
  | _,_=>none) else none
 | none=>none
def TQ (nb no:Nat) (rs:List (ARv × Md)) (K:TRes→Prop):Qb:=fun e σ=>match e with
 | .exit _=>False
 | _=>match QgQ nb no rs σ with
  | some r=>K r
  | none=>False
theorem QHY {σ:TSt} {y:ARv} {v:TV} (h:tget σ y=some v):y.get σ.emb=some v.emb:=by
 cases y with
 | t s=>simp only [tget,Option.some.injEq] at h;subst h;rfl
 | l s n agg =>
  simp only [tget] at h
  split at h
  rotate_left
  ·cases h
  rename_i v' bl he
  cases h
  have:=Qlm (ΓA:=QeM) he trivial
  have this:Qh QeM (Opd.ev fun s=>(σ.T s).emb) (fun i=>(σ.H i).emb) 0 (.load (.s s) n agg)=some (TE.emb ⟨none,v,bl⟩):=this
  show (match Qh QeM (Opd.ev fun s=>(σ.T s).emb) (fun i=>(σ.H i).emb) 0 (.load (.s s) n agg) with | some e=>some e.val | none=>none)=_
  rw [this]
  rfl
theorem QpF {σ:TSt}:∀ {ys:List ARv} {vs:List TV},Qcc σ ys=some vs→Qau σ.emb ys=some (vs.map TV.emb)
 | [],vs,h=>by simp only [Qcc,Option.some.injEq] at h;subst h;rfl
 | y::ys,vs,h=>by
  simp only [Qcc] at h
  split at h
  rotate_left
  ·cases h
  rename_i a b ha hb
  cases h
  simp only [Qau,QHY ha,QpF hb,List.map_cons]
theorem QCz {vs:List TV} (h:vs.all TV.st=true):Qs1 (vs.map TV.emb)=(Y8 vs).emb:=by
 match vs,h with
 | [],_=>rfl
 | [x],_=>rfl
 | x::y::vs,h =>
  show AV.t ((x::y::vs).map TV.emb)=AV.t ((x::y::vs).map TV.emb2)
  congr 1
  exact List.map_congr_left fun a ha=>(Qk4 (List.all_eq_true.1 h a ha)).symm
theorem QaM (ids:List Nat) (x:TV):(x.rn1 ids).emb1=x.emb1.rn1 ids:=by
 cases x with
 | r ts id off len =>
  simp only [TV.rn1,TV.emb1,AV.rn1]
  by_cases h:id∈ids
  ·rw [if_pos h,show ids.elem id=true by simpa using h];rfl
  ·rw [if_neg h,show ids.elem id=false by simpa using h];rfl
 | p id i j =>
  simp only [TV.rn1,TV.emb1,AV.rn1]
  by_cases h:id∈ids
  ·rw [if_pos h,show ids.elem id=true by simpa using h];rfl
  ·rw [if_neg h,show ids.elem id=false by simpa using h];rfl
 | _=>rfl
theorem Qlb (ids:List Nat) (x:TV):(x.rn1 ids).emb=(x.rn1 ids).emb1:=by
 cases x with
 | r ts id off len=>simp only [TV.rn1];cases ids.elem id <;> rfl
 | p id i j=>simp only [TV.rn1];cases ids.elem id <;> rfl
 | _=>rfl
theorem QHP (ids:List Nat) (x:TV):(x.rn2 ids).emb2=x.emb2.rn2 ids:=by
 cases x with
 | a cs=>simp only [TV.rn2,TV.emb2,AV.rn2,List.map_map];congr 2;funext y;exact QaM ids y
 | r ts id off len =>
  have:=QaM ids (.r ts id off len)
  simp only [TV.rn2]
  cases hx:(TV.r ts id off len).rn1 ids <;> (simp only [TV.rn1] at hx;cases hb:ids.elem id <;> rw [hb] at hx <;> first | cases hx | skip) <;> (rw [show TV.rn1 ids (.r ts id off len)=_ from by simp only [TV.rn1,hb];rfl] at this;first | exact this | skip)
 | p id i j =>
  have:=QaM ids (.p id i j)
  simp only [TV.rn2]
  cases hx:(TV.p id i j).rn1 ids <;> (simp only [TV.rn1] at hx;cases hb:ids.elem id <;> rw [hb] at hx <;> first | cases hx | skip) <;> (rw [show TV.rn1 ids (.p id i j)=_ from by simp only [TV.rn1,hb];rfl] at this;first | exact this | skip)
 | _=>rfl
theorem Qwv (ids:List Nat):∀ (x:TV),x.st=true∨(∃ vs,x = .tp vs)→(x.rn ids).emb=x.emb.rn ids
 | .tp vs,_=>by simp only [TV.rn,TV.emb,AV.rn,List.map_map];congr 2;funext y;exact QHP ids y
 | .a cs,_=>by simp only [TV.rn,TV.rn2,TV.emb,TV.emb2,AV.rn,AV.rn2,List.map_map];congr 2;funext y;exact QaM ids y
 | .c t x,_=>rfl
 | .n ts,_=>rfl
 | .r ts id off len,_=>(Qlb ids (.r ts id off len)).trans (QaM ids (.r ts id off len))
 | .p id i j,_=>(Qlb ids (.p id i j)).trans (QaM ids (.p id i j))
 | .q ts x j,_=>rfl
 | .bs ..,_=>rfl
 | .bq ..,_=>rfl
 | .u,h=>by rcases h with h | ⟨vs,h⟩ <;> cases h
 | .bx cs,h=>by rcases h with h | ⟨vs,h⟩ <;> cases h
 | .g b v,h=>by rcases h with h | ⟨vs,h⟩ <;> cases h
theorem QCX (ids:List Nat) (x:TBlk):(x.rn ids).emb=x.emb.rn ids:=by
 cases x with
 | box cs=>simp only [TBlk.rn,TBlk.emb,Blk.rn,List.map_map];congr 2;funext y;exact QaM ids y
 | _=>rfl
theorem Qxg {cs:List TV} (h:cs.all isCT=true):(cs.map TV.emb1).all isC=true:=by
 rw [List.all_eq_true] at h ⊢
 intro x hx
 obtain ⟨y,hy,rfl⟩:=List.mem_map.1 hx
 have:=h y hy
 cases y <;> first | rfl | simp [isCT] at this
theorem Qm4 {h:Nat→TBlk}:∀ {n k:Nat} {css:List (List TV)},Qdg h n k=some css→J9 (fun i=>(h i).emb) n k=some (css.map (·.map TV.emb1))
 | 0,k,css,e=>by simp only [Qdg,Option.some.injEq] at e;subst e;rfl
 | n+1,k,css,e=>by
  simp only [Qdg] at e
  split at e
  rotate_left
  ·cases e
  rename_i cs css' h1 h2
  obtain ⟨q,e⟩:=Qz e
  cases e
  have ih:=Qm4 h2
  have hk:(fun i=>(h i).emb) k = .box (cs.map TV.emb1):=by simp only [h1];rfl
  generalize (fun i=>(h i).emb)=hA at ih hk
  simp only [J9,hk,ih,Qxg q,if_true,List.map_cons]
def AV.free1:AV→Bool
 | .c (.v _)=>true
 | .n _=>true
 | .r ..=>true
 | .p ..=>true
 | .u=>true
 | _=>false
def AV.free2:AV→Bool
 | .a cs=>cs.all AV.free1
 | x=>x.free1
def AV.free:AV→Bool
 | .t vs=>vs.all AV.free2
 | x=>x.free2
def Blk.free:Blk→Prop
 | .none=>True
 | .dead=>True
 | .box cs=>cs.all AV.free1=true
 | .sl _ _ m es=>(∃ g t H,m = .dp g t H)∨∀ x,x∈es→∀ d,d∈x→∃ v,d = .v v
theorem Ql1 {x:TV} (h:x.free1=true):x.emb1.free1=true:=by
 cases x with
 | c t x=>cases t <;> first | rfl | simp [TV.free1,CT.flat] at h
 | _=>first | rfl | simp [TV.free1] at h
theorem QmU {x:TV} (h:x.free2=true):x.emb2.free2=true:=by
 cases x with
 | a cs =>
  simp only [TV.free2,List.all_eq_true] at h
  simp only [TV.emb2,AV.free2,List.all_eq_true]
  intro y hy
  obtain ⟨z,hz,rfl⟩:=List.mem_map.1 hy
  exact Ql1 (h z hz)
 | c t x=>exact (by cases t <;> first | rfl | simp [TV.free2,TV.free1,CT.flat] at h)
 | _=>first | rfl | simp [TV.free2,TV.free1] at h
theorem QGL {x:TV} (h:x.free=true):x.emb.free=true:=by
 cases x with
 | tp vs =>
  simp only [TV.free,List.all_eq_true] at h
  simp only [TV.emb,AV.free,List.all_eq_true]
  intro y hy
  obtain ⟨z,hz,rfl⟩:=List.mem_map.1 hy
  exact QmU (h z hz)
 | a cs=>exact QmU (x:=.a cs) h
 | c t x=>exact (by cases t <;> first | rfl | simp [TV.free,TV.free2,TV.free1,CT.flat] at h)
 | _=>first | rfl | simp [TV.free,TV.free2,TV.free1] at h
theorem QsL:∀ {ts:List CT},ts.all CT.flat=true→∀ (x:Tup ts) (d:D),d∈encs ts x→∃ v,d = .v v
 | [],_,x,d,h=>by rw [encs] at h;cases h
 | t::ts,hf,x,d,h=>by
  rw [List.all_cons,Bool.and_eq_true] at hf
  rw [encs] at h
  rcases List.mem_cons.1 h with rfl | h
  ·cases t with
   | sl us=>cases hf.1
   | _=>exact ⟨_,rfl⟩
  ·exact QsL hf.2 _ d h
theorem QBP {x:TBlk} (h:x.free=true):x.emb.free:=by
 cases x with
 | none=>trivial
 | dead=>trivial
 | box cs =>
  simp only [TBlk.free,List.all_eq_true] at h
  simp only [TBlk.emb,Blk.free,List.all_eq_true]
  intro y hy
  obtain ⟨z,hz,rfl⟩:=List.mem_map.1 hy
  exact Ql1 (h z hz)
 | sl e ts m es =>
  rw [TBlk.emb_sl]
  have key:ts.all CT.flat=true→∀ x,x∈es.map (encs ts)→∀ d,d∈x→∃ v,d = .v v:=fun hf x hx d hd=>by
   obtain ⟨y,hy,rfl⟩:=List.mem_map.1 hx
   exact QsL hf y d hd
  cases m with
  | dp g t H=>exact .inl ⟨g,t,H,rfl⟩
  | _=>exact .inr (key h)
theorem Qip {w:World} {F F':Nat→Prop} {ι:Io} {h:Nat→Blk} {v:Value} {x:AV} (hx:x.free1=true) (hv:VR w F ι h v x):VR w F' ι h v x:=by
 cases hv with
 | u=>exact .u _
 | c v d hr =>
  cases d with
  | v y=>cases hr with
   | v x h1=>exact .c _ _ (.v _ h1)
  | sl sz es=>simp [AV.free1] at hx
 | n sz=>exact .n sz
 | rdead v sz id off len h1 hd=>exact .rdead v sz id off len h1 hd
 | rnil id e sz m hi hh=>exact .rnil id e sz m hi hh
 | remp ad cap id e sz m hi hh ht=>exact .remp ad cap id e sz m hi hh ht
 | r id off len b ao cap e sz m es hi hh hlen hcap ho htip=>exact .r id off len b ao cap e sz m es hi hh hlen hcap ho htip
 | pdead v id i j h1 hd=>exact .pdead v id i j h1 hd
 | p id i j b hi hn hd=>exact .p id i j b hi hn hd
 | _=>simp [AV.free1] at hx
theorem QtH {w:World} {F F':Nat→Prop} {ι:Io} {h:Nat→Blk} {v:Value} {x:AV} (hx:x.free2=true) (hv:VR w F ι h v x):VR w F' ι h v x:=by
 cases x with
 | a cs =>
  simp only [AV.free2,List.all_eq_true] at hx
  cases hv with
  | a vs _ hl h1 hv=>exact .a vs cs hl h1 (fun k v x hk hxk=>Qip (hx x (List.mem_of_getElem? hxk)) (hv k v x hk hxk))
 | _=>exact Qip hx hv
theorem QAy {w:World} {F F':Nat→Prop} {ι:Io} {h:Nat→Blk} {v:Value} {x:AV} (hx:x.free=true) (hv:VR w F ι h v x):VR w F' ι h v x:=by
 cases x with
 | t cs =>
  simp only [AV.free,List.all_eq_true] at hx
  cases hv with
  | t vs _ hl hv=>exact .t vs cs hl (fun k v x hk hxk=>QtH (hx x (List.mem_of_getElem? hxk)) (hv k v x hk hxk))
 | _=>exact QtH hx hv
theorem QDJ {w:World} {F F':Nat→Prop} {ι:Io} {h:Nat→Blk} {id:Nat} {x:Blk} (hx:x.free) (hv:BR w F ι h id x):BR w F' ι h id x:=by
 cases hv with
 | none=>exact .none
 | dead=>exact .dead
 | box b e vals cs hi ho hb hl h1 hv=>exact .box b e vals cs hi ho hb hl h1 (fun k v x hk hxk=>Qip (List.all_eq_true.1 hx x (List.mem_of_getElem? hxk)) (hv k v x hk hxk))
 | slnil e sz m hz hi=>exact .slnil e sz m hz hi
 | sl b e e0 sz m es cur hz hi hb htc hle hml hsz hv =>
  refine .sl b e e0 sz m es cur hz hi hb htc hle hml hsz (fun i j x d hxi hd=>?_)
  obtain ⟨v,h1,h2⟩:=hv i j x d hxi hd
  refine ⟨v,h1,?_⟩
  rcases hx with ⟨g,t,H,rfl⟩ | hx
  ·exact h2
  ·cases m with
   | dp g t H=>exact h2
   | _ =>
    obtain ⟨y,rfl⟩:=hx x (List.mem_of_getElem? hxi) d (List.mem_of_getElem? hd)
    have h2:Rd w F v (.v y):=h2
    show Rd w F' v (.v y)
    cases h2 with
    | v x h1=>exact .v _ h1
theorem Post.free {w:World} {F0:Nat→Prop} {lb:List Nat} {gb:List Hd} {v:AV} {hb:List Blk} {al al':Bool} {v':Value} {w':World} {ι:Io} (hx:v.free=true) (hh:∀ x,x∈hb→x.free) (Q:Post w F0 lb gb ⟨v,hb,[],al,[]⟩ v' w' ι) :
  Post w F0 lb gb ⟨v,hb,[],al',[]⟩ v' w' ι:=by
 refine ⟨Q.os,Q.tape,Q.output,Q.size,Q.block,QAy hx Q.val,fun i hi=>QDJ ?_ (Q.blk i hi),Q.inj,Q.rng,Q.live,Q.lab,Q.bxl,fun k b cs _ hc=>by simp at hc,Q.gvl,fun k x B _ hc=>by simp at hc⟩
 have hi:i<hb.length:=hi
 show Blk.free ((hb[i]?).getD .none)
 rw [List.getElem?_eq_getElem hi]
 exact hh _ (List.getElem_mem hi)
theorem Qhh:∀ (l acc:List Nat),acc.Nodup→(Qbu l acc).Nodup
 | [],acc,h=>h
 | x::l,acc,h=>by
  simp only [Qbu]
  cases hx:acc.elem x with
  | true=>exact Qhh l acc h
  | false =>
   refine Qhh l _ ?_
   rw [List.nodup_append]
   refine ⟨h,by simp,fun a ha b hb=>?_⟩
   simp only [List.mem_singleton] at hb
   rintro rfl
   subst hb
   have:a∉acc:=by simpa using hx
   exact this ha
theorem Qq5:∀ {ss:List Sh} {xs:List TV},Zi ss xs=true→xs.all TV.ng=true
 | [],[],_=>rfl
 | [],_::_,h=>by simp [Zi] at h
 | _::_,[],h=>by simp [Zi] at h
 | s::ss,x::xs,h=>by
  simp only [Zi,Bool.and_eq_true] at h
  rw [List.all_cons,Qq5 h.2,Bool.and_true]
  cases x with
  | g b v=>cases s <;> simp [Sh.fits] at h
  | _=>rfl
theorem Qjp {h:Nat→TBlk}:∀ {n k:Nat} {css:List TBlk},Qdb h n k=some css→Y1 (fun i=>(h i).emb) n k=some (css.map TBlk.emb)
 | 0,k,css,hx=>by simp only [Qdb,Option.some.injEq] at hx;subst hx;rfl
 | n+1,k,css,hx=>by
  simp only [Qdb] at hx
  split at hx
  ·rename_i e ts m es css' h1 h2
   cases hx
   have h3:=Qjp h2
   simp only [Y1,h1,TBlk.emb_sl,h3,List.map_cons]
  ·rename_i css' h1 h2
   cases hx
   have h3:=Qjp h2
   simp only [Y1,h1,TBlk.emb_dead,h3,List.map_cons]
  ·cases hx
theorem Qyc {P:Program} {Γ:TTab} {f:FuncId} {tc:TCode} {rs:List (ARv × Md)} {n:Nat} {xs:List TV} {r:TRes} {sg:List Sh} (hm:P.follows .mixedOrders=true) (hΓ:TOk P Γ) (hs:Qfi P f=some (tc.er,rs.map Prod.fst,n))
  (hfit:Zi sg xs=true) (hN:xs.length≤n) (h:tawp Γ (tbxs xs+tows xs) tc (TQ (tbxs xs) (tows xs) rs (fun r'=>r'=r)) (Qe xs)):TCon P f xs r:=by
 have hok:=Qq5 hfit
 unfold Qfi at hs
 split at hs
 rotate_left
 ·cases hs
 rename_i fn hf
 split at hs
 rotate_left
 ·cases hs
 rename_i c hb
 split at hs
 rotate_left
 ·cases hs
 rename_i ac' rs' hc hrs
 simp only [Option.some.injEq,Prod.mk.injEq] at hs
 obtain ⟨rfl,rfl,rfl⟩:=hs
 intro w F0 vs lb gb hA hF
 have LA:=Qo3 hA
 have hlb:=LA.len
 have hnl:tbxs xs=lb.length:=(Qfz xs hok).trans hlb.symm
 have hgl:tows xs=gb.length:=(Qc2 xs hok).trans LA.gl.symm
 have hL:Kept (Z6 P w F0 lb gb fn.ntmps) (tbxs xs+tows xs):=by
  refine ⟨fun i b hi=>?_,fun i o hi=>?_,fun i o cs hi=>?_⟩
  ·have:=(List.getElem?_eq_some_iff.1 (show lb[i]? = some b from hi)).1
   omega
  ·simp only [Z6] at hi
   split at hi
   ·cases hi
   ·have:=(List.getElem?_eq_some_iff.1 hi).1
    omega
  ·simp only [Z6] at hi
   split at hi
   ·cases hi
   ·obtain ⟨_,⟨e,sz,m,es,q,_⟩,_⟩:=LA.gget _ _ hi
    rw [q]
    exact fun h=>by cases h
 refine calls_of_wp hf hb ?_
 refine QE0 (C:=Z6 P w F0 lb gb fn.ntmps) (nl:=tbxs xs+tows xs) hm (QBj Γ) (QI7 hΓ) hL tc c _ _ (Qe xs) _ _ hc h ?_ ?_
 ·rw [QAO xs hok]
  exact QFp hA hF (by simpa using hN)
 ·intro e σ0 a w' hK S
  have hK:(match QgQ (tbxs xs) (tows xs) rs σ0 with | some r'=>r'=r | none=>False)∧∀ id,e≠.exit id:=by
   cases e with
   | exit id=>exact hK.elim
   | normal=>exact ⟨hK,by simp⟩
   | ret=>exact ⟨hK,by simp⟩
  obtain ⟨hK,he⟩:=hK
  split at hK
  rotate_left
  ·exact hK.elim
  rename_i r' hr
  subst hK
  unfold QgQ at hr
  simp only at hr
  split at hr
  rotate_left
  ·cases hr
  rename_i vals hvals
  obtain ⟨q1,hr⟩:=Qz hr
  split at hr
  rotate_left
  ·cases hr
  rename_i css gs hcss hgs
  obtain ⟨q2,hr⟩:=Qz hr
  simp only [Bool.and_eq_true] at q2
  cases hr
  have S':=gcE (L:=rs.map fun x=>(x.1.slot,x.2)) hL S
  generalize hσ:gc (tbxs xs+tows xs) (rs.map fun x=>(x.1.slot,x.2)) σ0=σ at *
  obtain ⟨ι,S'⟩:=S'
  have h1:=QpF hvals
  obtain ⟨u,h5,h6⟩:=QC1 S' hrs h1
  rw [QCz q1] at h6
  have hids:=Qhh (vals.flatMap fun v=>v.refs++v.lent) [] List.nodup_nil
  generalize Qbu (vals.flatMap fun v=>v.refs++v.lent) []=ids at *
  have hge:∀ id,id∈ids→tbxs xs+tows xs≤id:=fun id hid=>Nat.le_of_ble_eq_true (List.all_eq_true.1 q2.2 id hid)
  have hexp:QeU (tbxs xs) (tows xs) ids σ.emb (Y8 vals).emb=some ⟨((Y8 vals).rn ids).emb,(ids.map fun id=>(σ.H id).rn ids).map TBlk.emb,css.map (·.map TV.emb1),true,gs.map TBlk.emb⟩:=by
   unfold QeU
   have h2:=Qm4 hcss
   have h2:J9 σ.emb.h (tbxs xs) 0=some (css.map (·.map TV.emb1)):=h2
   have h3:=Qjp hgs
   have h3:Y1 σ.emb.h (tows xs) (tbxs xs)=some (gs.map TBlk.emb):=h3
   rw [h2,h3]
   simp only
   congr 2
   ·rw [Qwv]
    match vals,q1 with
    | [],_=>exact .inr ⟨[],rfl⟩
    | [x],q1=>left;rw [List.all_cons,List.all_nil,Bool.and_true] at q1;exact q1
    | x::y::l,_=>exact .inr ⟨_,rfl⟩
   ·rw [List.map_map]
    congr 1
    funext id
    exact (QCX ids _).symm
  obtain ⟨ι',post⟩:=QFL hnl hgl S' hids hge hexp h6
  have post2:Post w F0 lb gb (TRes.emb ⟨(Y8 vals).rn ids,ids.map fun id=>(σ.H id).rn ids,css,!(((Y8 vals).rn ids).free&&css.isEmpty&&(ids.map fun id=>(σ.H id).rn ids).all TBlk.free&&gs.isEmpty),gs⟩) u w' ι':=by
   unfold TRes.emb
   simp only
   cases hal:((Y8 vals).rn ids).free&&css.isEmpty&&(ids.map fun id=>(σ.H id).rn ids).all TBlk.free&&gs.isEmpty with
   | false=>exact post
   | true =>
    simp only [Bool.and_eq_true,List.isEmpty_iff] at hal
    obtain ⟨⟨⟨e1,e2⟩,e3⟩,e4⟩:=hal
    subst e2
    subst e4
    refine Post.free (QGL e1) (fun x hx=>?_) post
    obtain ⟨y,hy,rfl⟩:=List.mem_map.1 hx
    exact QBP (List.all_eq_true.1 e3 y hy)
  have key:a.defers=[]∧∃ v,(results fn a.tmps).run P w' = .ok v w'∧∃ v1 ι,Ending.returned v = .returned v1∧Post w F0 lb gb (TRes.emb ⟨(Y8 vals).rn ids,ids.map fun id=>(σ.H id).rn ids,css,!(((Y8 vals).rn ids).free&&css.isEmpty&&(ids.map fun id=>(σ.H id).rn ids).all TBlk.free&&gs.isEmpty),gs⟩) v1 w' ι :=
   ⟨S'.defers,u,h5,u,_,rfl,post2⟩
  cases e with
  | normal=>exact key
  | ret=>exact key
  | exit id=>exact absurd rfl (he id)
mutual
def CT.bd:(t:CT)→t.den→Prop
 | .int _,_=>True
 | .bool,_=>True
 | .str,_=>True
 | .nilp,_=>True
 | .sl ts,l=>List.length l≤maxLen∧∀ x:Tup ts,x∈(l:List (Tup ts))→Tup.bd ts x
def Tup.bd:(ts:List CT)→Tup ts→Prop
 | [],_=>True
 | t::ts,x=>t.bd (hd ts x)∧Tup.bd ts (tl ts x)
end
def owBd (ts:List CT) (es:List (Tup ts)):Prop:=List.length es≤maxLen∧∀ x:Tup ts,x∈es→Tup.bd ts x
def TV.bd1:TV→Prop
 | .c t x=>t.bd x
 | .ow _ ts .ow es=>owBd ts es
 | .ow _ ts (.dp _ _ []) es=>owBd ts es
 | _=>True
def TV.bdL:List TV→Prop
 | []=>True
 | x::xs=>x.bd1∧TV.bdL xs
def TV.bd:TV→Prop
 | .a cs=>TV.bdL cs
 | .bx cs=>TV.bdL cs
 | x=>x.bd1
def QgN:List TV→Prop
 | []=>True
 | x::xs=>x.bd∧QgN xs
mutual
theorem QqX {w:World} {F:Nat→Prop}:∀ (t:CT) (x:t.den) (v:Value),Rd w F v (enc t x)→t.bd x
 | .int _,_,_,_=>by rw [CT.bd];trivial
 | .bool,_,_,_=>by rw [CT.bd];trivial
 | .str,_,_,_=>by rw [CT.bd];trivial
 | .nilp,_,_,_=>by rw [CT.bd];trivial
 | .sl ts,l,v,h=>by
  rw [enc] at h
  rw [CT.bd]
  generalize hes:List.map (encs ts) l=es at h
  have hl:List.length l=es.length:=by rw [← hes,List.length_map]
  generalize hsz:ts.length=sz at h
  cases h with
  | nil =>
   have:l=[]:=by simpa using hes
   subst this
   exact ⟨Nat.zero_le _,fun x hx=>by cases hx⟩
  | emp =>
   have:l=[]:=by simpa using hes
   subst this
   exact ⟨Nat.zero_le _,fun x hx=>by cases hx⟩
  | sl b o len cap _ _ xv hlen hcap hml hszs hb hc hr =>
   refine ⟨by rw [hl,hlen];exact hml,fun x hx=>?_⟩
   obtain ⟨i,hi⟩:=List.getElem?_of_mem hx
   have he:es[i]? = some (encs ts x):=by rw [← hes,List.getElem?_map,hi];rfl
   exact QkC ts x (fun j d hj=>⟨_,hr i j _ d he hj⟩)
theorem QkC {w:World} {F:Nat→Prop}:∀ (ts:List CT) (x:Tup ts),(∀ (j:Nat) (d:D),(encs ts x)[j]? = some d→∃ v,Rd w F v d)→Tup.bd ts x
 | [],_,_=>by rw [Tup.bd];trivial
 | t::ts,x,h=>by
  rw [encs] at h
  rw [Tup.bd]
  obtain ⟨v,hv⟩:=h 0 _ rfl
  exact ⟨QqX t _ v hv,QkC ts _ (fun j d hj=>h (j+1) d (by simpa using hj))⟩
end
mutual
theorem QGf {w:World} {K:Nat→Option (Nat × Pth)} {id:Nat}:∀ (t:CT) (x:t.den) (v:Value) (p:Pth),RL w K id p v (enc t x)→t.bd x
 | .int _,_,_,_,_=>by rw [CT.bd];trivial
 | .bool,_,_,_,_=>by rw [CT.bd];trivial
 | .str,_,_,_,_=>by rw [CT.bd];trivial
 | .nilp,_,_,_,_=>by rw [CT.bd];trivial
 | .sl ts,l,v,p,h=>by
  rw [enc] at h
  rw [CT.bd]
  generalize hes:List.map (encs ts) l=es at h
  have hl:List.length l=es.length:=by rw [← hes,List.length_map]
  generalize hsz:ts.length=sz at h
  cases h with
  | nil =>
   have:l=[]:=by simpa using hes
   subst this
   exact ⟨Nat.zero_le _,fun x hx=>by cases hx⟩
  | emp =>
   have:l=[]:=by simpa using hes
   subst this
   exact ⟨Nat.zero_le _,fun x hx=>by cases hx⟩
  | sl _ b o len cap _ _ cur e0 xv hz hne hlen hcap hml hszs hk hb hle hc hr =>
   refine ⟨by rw [hl,hlen];exact hml,fun x hx=>?_⟩
   obtain ⟨i,hi⟩:=List.getElem?_of_mem hx
   have he:es[i]? = some (encs ts x):=by rw [← hes,List.getElem?_map,hi];rfl
   exact Qim ts x (fun j d hj=>⟨_,_,hr i j _ d he hj⟩)
theorem Qim {w:World} {K:Nat→Option (Nat × Pth)} {id:Nat}:∀ (ts:List CT) (x:Tup ts),(∀ (j:Nat) (d:D),(encs ts x)[j]? = some d→∃ v p,RL w K id p v d)→Tup.bd ts x
 | [],_,_=>by rw [Tup.bd];trivial
 | t::ts,x,h=>by
  rw [encs] at h
  rw [Tup.bd]
  obtain ⟨v,p,hv⟩:=h 0 _ rfl
  exact ⟨QGf t _ v p hv,Qim ts _ (fun j d hj=>h (j+1) d (by simpa using hj))⟩
end
theorem Qfy {w:World} {F:Nat→Prop} {ι:Io} {h:Nat→Blk} {v:Value}:∀ {x:TV},VR w F ι h v x.emb1→x.bd1
 | .c t x,hv=>by cases hv with | c v d hr=>exact QqX t x v hr
 | .ow ..,hv=>by cases hv
 | .u,_=>trivial
 | .n _,_=>trivial
 | .r ..,_=>trivial
 | .p ..,_=>trivial
 | .q ..,_=>trivial
 | .a _,_=>trivial
 | .tp _,_=>trivial
 | .bx _,_=>trivial
 | .bs ..,_=>trivial
 | .bq ..,_=>trivial
 | .g ..,_=>trivial
theorem Qqs {w:World} {F:Nat→Prop} {v:Value} {x:Hd} {e:TypeId} {ts:List CT} {m:Mo} {es:List (Tup ts)} (hv:OwnV w F v x e ts.length m (es.map (encs ts))):(TV.ow e ts m es).bd1:=by
 have key:m.full=true→owBd ts es:=by
  intro hf
  have hbr:=hv.br
  rw [hv.hB] at hbr
  generalize hq:es.map (encs ts)=es1 at hbr
  cases hbr with
  | slnil =>
   have:es=[]:=by simpa using hq
   subst this
   exact ⟨Nat.zero_le _,fun x hx=>by cases hx⟩
  | sl bk _ e0 _ _ _ cur hz hi hb htc hle hml hsz hvv =>
   refine ⟨by rw [← hq,List.length_map] at hml;exact hml,fun x hx=>?_⟩
   obtain ⟨i,hi'⟩:=List.getElem?_of_mem hx
   have he:es1[i]? = some (encs ts x):=by rw [← hq,List.getElem?_map,hi'];rfl
   cases m with
   | dp g t H =>
    cases H with
    | nil=>exact Qim ts x (fun j d hj=>let ⟨v,_,h2⟩:=hvv i j _ d he hj;⟨v,_,h2.2 (by simp)⟩)
    | cons=>cases hf
   | _=>exact QkC ts x (fun j d hj=>let ⟨v,_,h2⟩:=hvv i j _ d he hj;⟨v,h2⟩)
 cases m with
 | fz=>trivial
 | ow=>exact key rfl
 | dp g t H =>
  cases H with
  | nil=>exact key rfl
  | cons=>trivial
theorem QhV:∀ {cs:List TV},(∀ (k:Nat) (x:TV),cs[k]? = some x→x.bd1)→TV.bdL cs
 | [],_=>trivial
 | x::xs,h=>⟨h 0 x rfl,QhV fun k y hy=>h (k+1) y (by simpa using hy)⟩
theorem Qch {w:World} {F:Nat→Prop}:∀ {cs:List TV} {vs:List Value} {lb:List Nat} {gb:List Hd},Args w F vs (cs.map TV.emb1) lb gb→TV.bdL cs
 | [],vs,lb,gb,_=>trivial
 | x::cs,vs,lb,gb,hA=>by
  rw [List.map_cons] at hA
  generalize hy:x.emb1=y at hA
  generalize hys:cs.map TV.emb1=ys at hA
  cases hA with
  | dat v _ vs _ lb gb hv hr hx =>
   subst hys;subst hy
   exact ⟨Qfy hv,Qch hr⟩
  | own v o e sz m es vs _ lb gb hv hn hr =>
   subst hys
   refine ⟨?_,Qch hr⟩
   cases x with
   | ow e' ts mm es' =>
    simp only [TV.emb1] at hy
    injection hy with q1 q2 q3 q4
    subst q1;subst q2;subst q3;subst q4
    exact Qqs hv
   | _=>trivial
  | box b e vals cs' vs _ lb gb hb hd hc hn hg hr =>
   subst hys
   refine ⟨?_,Qch hr⟩
   cases x with
   | c t x=>cases hy
   | ow e' ts mm es'=>cases hy
   | _=>trivial
  | agg arr cs' vs _ lb g1 gb hc hk h1 hn hr =>
   subst hys
   refine ⟨?_,Qch hr⟩
   cases x with
   | c t x=>cases hy
   | ow e' ts mm es'=>cases hy
   | _=>trivial
theorem Qcy {w:World} {F:Nat→Prop}:∀ {xs:List TV} {vs:List Value} {lb:List Nat} {gb:List Hd},Args w F vs (xs.map TV.emb) lb gb→xs.all TV.ng=true→QgN xs
 | [],vs,lb,gb,_,_=>trivial
 | x::xs,vs,lb,gb,hA,hok=>by
  rw [List.all_cons,Bool.and_eq_true] at hok
  rw [List.map_cons] at hA
  generalize hy:x.emb=y at hA
  generalize hys:xs.map TV.emb=ys at hA
  cases hA with
  | dat v _ vs _ lb gb hv hr hx =>
   subst hys
   refine ⟨?_,Qcy hr hok.2⟩
   cases x with
   | a cs =>
    subst hy
    cases hv with
    | a va _ hl h1 hv =>
     refine QhV fun k z hz=>?_
     have hlt:k<va.size:=by rw [hl,List.length_map];exact (List.getElem?_eq_some_iff.1 hz).1
     exact Qfy (hv k va[k] z.emb1 (by simp [hlt]) (by rw [List.getElem?_map,hz];rfl))
   | bx cs=>subst hy;simp [TV.emb,AV.dat] at hx
   | ow e ts m es=>subst hy;simp [TV.emb,TV.emb2,TV.emb1,AV.dat] at hx
   | g b v=>exact absurd hok.1 (by simp [TV.ng])
   | c t z=>subst hy;exact Qfy (x:=.c t z) hv
   | _=>trivial
  | own v o e sz m es vs _ lb gb hv hn hr =>
   subst hys
   refine ⟨?_,Qcy hr hok.2⟩
   cases x with
   | ow e' ts mm es' =>
    simp only [TV.emb,TV.emb2,TV.emb1] at hy
    injection hy with q1 q2 q3 q4
    subst q1;subst q2;subst q3;subst q4
    exact Qqs hv
   | g b v=>exact absurd hok.1 (by simp [TV.ng])
   | a cs=>simp only [TV.emb,TV.emb2] at hy;cases hy
   | bx cs=>simp only [TV.emb] at hy;cases hy
   | _=>trivial
  | box b e vals cs vs _ lb gb hb hd hc hn hg hr =>
   subst hys
   refine ⟨?_,Qcy hr hok.2⟩
   cases x with
   | bx ds =>
    simp only [TV.emb] at hy
    injection hy with hy
    subst hy
    refine QhV fun k z hz=>?_
    have hlt:k<vals.size:=by rw [hd.size,List.length_map];exact (List.getElem?_eq_some_iff.1 hz).1
    exact Qfy (hd.vr k vals[k] z.emb1 (by simp [hlt]) (by rw [List.getElem?_map,hz];rfl))
   | g b v=>exact absurd hok.1 (by simp [TV.ng])
   | a cs=>simp only [TV.emb,TV.emb2] at hy;cases hy
   | ow e ts m es=>simp only [TV.emb,TV.emb2,TV.emb1] at hy;cases hy
   | _=>trivial
  | agg arr cs vs _ lb g1 gb hc hk h1 hn hr =>
   subst hys
   refine ⟨?_,Qcy hr hok.2⟩
   cases x with
   | a ds =>
    simp only [TV.emb,TV.emb2] at hy
    injection hy with hy
    subst hy
    exact Qch hc
   | g b v=>exact absurd hok.1 (by simp [TV.ng])
   | bx cs=>simp only [TV.emb] at hy;cases hy
   | ow e ts m es=>simp only [TV.emb,TV.emb2,TV.emb1] at hy;cases hy
   | c t z=>simp only [TV.emb,TV.emb2,TV.emb1] at hy;cases hy
   | _=>trivial
theorem Ql {P:Program} {f:FuncId} {xs:List TV} {r:TRes} (hok:xs.all TV.ng=true) (h:QgN xs→TCon P f xs r):TCon P f xs r :=
 fun w F0 vs lb gb hA hF=>h (Qcy hA hok) w F0 vs lb gb hA hF
end Go.Proofs.YtdplaepmjogjjaaGreat.Am

