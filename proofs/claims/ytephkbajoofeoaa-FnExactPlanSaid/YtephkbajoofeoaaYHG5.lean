/- -/
import Derived.Test.YtephkbajoofeoaaYHG4
set_option linter.all false
namespace Go.Proofs.Ytephkbajoofeoaa.Am
open Go Go.RowKit
inductive Md1 where
 | f
 | d
 | o (e:TypeId)
inductive Md where
 | one (m:Md1)
 | b (ms:List Md1)
 | a (ms:List Md1)
abbrev Acc:=List (Option Nat × TBlk)
def QG:Acc→Nat→Option Nat
 | [],_=>none
 | (some j,_)::r,i=>bif Nat.beq j i then some 0 else (match QG r i with | some k=>some (k+1) | none=>none)
 | (none,_)::r,i=>match QG r i with | some k=>some (k+1) | none=>none
def QQ (nl:Nat) (h:Nat→TBlk) (m:Md1) (v:TV) (acc:Acc):TV × Acc :=
 match v with
 | .c t x=>(.c t x,acc)
 | .q ts x j=>(.q ts x j,acc)
 | .n ts=>match m with
  | .o e=>match ts with
   | []=>(.u,acc)
   | t::ts=>(.r (t::ts) acc.length 0 0,acc++[(none,.sl e (t::ts) true [])])
  | .d=>(.c (.sl ts) [],acc)
  | .f=>(.n ts,acc)
 | .r _ id off len=>match h id with
  | .sl e ts mm es=>match m with
   | .d=>bif mm then (.u,acc) else (.c (.sl ts) ((es.drop off).take len),acc)
   | _=>bif Nat.blt id nl then (.r ts id off len,acc) else match off with
    | 0=>match QG acc id with
     | none=>(.r ts acc.length 0 (es.take len).length,acc++[(some id,.sl e ts mm (es.take len))])
     | some _=>(.u,acc)
    | _=>(.u,acc)
  | _=>(.u,acc)
 | _=>(.u,acc)
def Qu (nl:Nat) (h:Nat→TBlk):List Md1→List TV→Acc→List TV × Acc
 | _,[],acc=>([],acc)
 | [],_::xs,acc=>let r:=Qu nl h [] xs acc;(.u::r.1,r.2)
 | m::ms,x::xs,acc=>let a:=QQ nl h m x acc;let r:=Qu nl h ms xs a.2;(a.1::r.1,r.2)
def conv (nl:Nat) (h:Nat→TBlk) (m:Md) (v:TV) (acc:Acc):TV × Acc :=
 match m with
 | .one m=>QQ nl h m v acc
 | .b ms=>match v with
  | .p id 0 0=>match QG acc id with
   | some k=>(.p k 0 0,acc)
   | none=>match h id with
    | .box cs=>let r:=Qu nl h ms cs acc;match QG r.2 id with
     | none=>(.p r.2.length 0 0,r.2++[(some id,.box r.1)])
     | some _=>(.u,acc)
    | _=>(.u,acc)
  | _=>(.u,acc)
 | .a ms=>match v with
  | .a cs=>let r:=Qu nl h ms cs acc;(.a r.1,r.2)
  | _=>(.u,acc)
def QJ (nl:Nat) (h:Nat→TBlk) (T:Nat→TV):List (Nat × Md)→Acc→List (Nat × TV) × Acc
 | [],acc=>([],acc)
 | (s,m)::r,acc=>let a:=conv nl h m (T s) acc;let q:=QJ nl h T r a.2;((s,a.1)::q.1,q.2)
def Jh:List Md1→List TV→List Nat
 | .d::ms,x::xs=>x.ref1++Jh ms xs
 | _::ms,_::xs=>Jh ms xs
 | _,_=>[]
def ZS (h:Nat→TBlk) (T:Nat→TV):List (Nat × Md)→List Nat
 | []=>[]
 | (s,.one .d)::r=>(T s).ref1++ZS h T r
 | (s,.a ms)::r=>(match T s with | .a cs=>Jh ms cs | _=>[])++ZS h T r
 | (s,.b ms)::r=>(match T s with | .p id _ _=>(match h id with | .box cs=>Jh ms cs | _=>[]) | _=>[])++ZS h T r
 | _::r=>ZS h T r
def JA (h:Nat→TBlk):Nat→List Nat
 | 0=>[]
 | n+1=>JA h n++(match h n with | .box cs=>TV.refsL cs | _=>[])
def alld:List TV→List Md1
 | []=>[]
 | _::xs=>.d::alld xs
def Qs (h:Nat→TBlk):Nat→Acc
 | 0=>[]
 | n+1=>let a:=Qs h n;a++[match h n with | .box cs=>(some n,.box (Qu 0 h (alld cs) cs a).1) | .sl e ts m es=>(some n,.sl e ts m es) | .dead=>(none,.dead) | .none=>(none,.none)]
def Zw:Nat→Acc→List (Nat × TBlk)
 | _,[]=>[]
 | k,(_,b)::r=>(k,b)::Zw (k+1) r
def frzF (h:Nat→TBlk) (ids:List Nat):Nat→TBlk:=fun i=>bif ids.elem i then fzT (h i) else h i
def gc (nl:Nat) (L:List (Nat × Md)) (σ:TSt):TSt :=
 let h:=frzF σ.H (JA σ.H nl++ZS σ.H σ.T L)
 let r:=QJ nl h σ.T L (Qs h nl)
 ⟨r.1,Zw 0 r.2,r.2.length⟩
section
variable {w:World} {F F':Nat→Prop} {ι:Nat→Option Nat} {h:Nat→TBlk}
def aι (ι:Nat→Option Nat) (acc:Acc):Nat→Option Nat:=fun k=>((acc[k]?).bind (·.1)).bind ι
def ah (acc:Acc):Nat→Blk:=fun k=>match acc[k]? with | some (_,b)=>b.emb | none=>.none
def ZV (w:World) (F:Nat→Prop) (ι:Nat→Option Nat) (h:Nat→TBlk) (acc:Acc) (x y:TV):Prop :=
 ∀ (accF:Acc) (F':Nat→Prop),acc <+: accF→(∀ b,F b→F' b)→∀ v,VR w F ι (fun i=>(h i).emb) v x.emb1→VR w F' (aι ι accF) (ah accF) v y.emb1
def Yx (w:World) (F:Nat→Prop) (ι:Nat→Option Nat) (h:Nat→TBlk) (acc:Acc):Option Nat × TBlk→Prop
 | (some id,.sl e ts m es)=>∃ es0 len,h id = .sl e ts m es0∧es=es0.take len
 | (some id,.box cs)=>∃ cs0,h id = .box cs0∧cs.length=cs0.length∧∀ (k:Nat) (x y:TV),cs0[k]? = some x→cs[k]? = some y→ZV w F ι h acc x y
 | (none,.sl _ ts m es)=>es=[]∧0<ts.length∧m=true
 | (none,.none)=>True
 | (none,.dead)=>True
 | _=>False
def Full (nl:Nat) (h:Nat→TBlk) (acc:Acc):Prop:=∀ id e ts m es,id<nl→h id = .sl e ts m es→acc[id]? = some (some id,.sl e ts m es)
theorem Full.mono {nl:Nat} {h:Nat→TBlk} {acc acc':Acc} (hp:acc <+: acc') (hf:Full nl h acc):Full nl h acc':=fun id e ts m es h1 h2=>by
 have h3:=hf id e ts m es h1 h2
 obtain ⟨r,rfl⟩:=hp
 rw [List.getElem?_append_left (List.getElem?_eq_some_iff.1 h3).1]
 exact h3
structure AccOk (w:World) (F:Nat→Prop) (ι:Nat→Option Nat) (h:Nat→TBlk) (acc:Acc):Prop where
 good:∀ (k:Nat) (e:Option Nat × TBlk),acc[k]? = some e→Yx w F ι h acc e
 nodup:∀ (k j id:Nat) (b c:TBlk),acc[k]? = some (some id,b)→acc[j]? = some (some id,c)→k=j
theorem ZV.mono {acc acc':Acc} {x y:TV} (hp:acc <+: acc') (hk:ZV w F ι h acc x y):ZV w F ι h acc' x y :=
 fun accF F' hpF hF v hv=>hk accF F' (hp.trans hpF) hF v hv
theorem Yx.mono {acc acc':Acc} {e:Option Nat × TBlk} (hp:acc <+: acc') (hg:Yx w F ι h acc e):Yx w F ι h acc' e:=by
 obtain ⟨o,b⟩:=e
 cases o with
 | none=>cases b <;> exact hg
 | some id =>
  cases b with
  | box cs=>obtain ⟨cs0,h1,h2,h3⟩:=hg;exact ⟨cs0,h1,h2,fun k x y hx hy=>(h3 k x y hx hy).mono hp⟩
  | _=>exact hg
theorem Jg:∀ {acc:Acc} {id:Nat},QG acc id=none→∀ (k:Nat) (b:TBlk),acc[k]?≠some (some id,b)
 | [],id,_,k,b,hk=>by simp at hk
 | (some j,c)::r,id,hn,k,b,hk=>by
  simp only [QG] at hn
  cases hb:Nat.beq j id with
  | true=>rw [hb] at hn;cases hn
  | false =>
   rw [hb] at hn
   simp only [cond_false] at hn
   split at hn
   ·cases hn
   rename_i hr
   cases k with
   | zero =>
    simp only [List.getElem?_cons_zero,Option.some.injEq,Prod.mk.injEq] at hk
    rw [hk.1] at hb
    simp at hb
   | succ k=>exact Jg hr k b (by simpa using hk)
 | (none,c)::r,id,hn,k,b,hk=>by
  simp only [QG] at hn
  split at hn
  ·cases hn
  rename_i hr
  cases k with
  | zero=>simp at hk
  | succ k=>exact Jg hr k b (by simpa using hk)
theorem Jn:∀ {acc:Acc} {id k:Nat},QG acc id=some k→∃ b,acc[k]? = some (some id,b)
 | [],id,k,hn=>by simp [QG] at hn
 | (some j,c)::r,id,k,hn=>by
  simp only [QG] at hn
  cases hb:Nat.beq j id with
  | true =>
   rw [hb] at hn
   simp only [cond_true,Option.some.injEq] at hn
   subst hn
   exact ⟨c,by rw [Nat.eq_of_beq_eq_true hb];rfl⟩
  | false =>
   rw [hb] at hn
   simp only [cond_false] at hn
   split at hn
   rotate_left
   ·cases hn
   rename_i k' hr
   cases hn
   obtain ⟨b,h⟩:=Jn hr
   exact ⟨b,by simpa using h⟩
 | (none,c)::r,id,k,hn=>by
  simp only [QG] at hn
  split at hn
  rotate_left
  ·cases hn
  rename_i k' hr
  cases hn
  obtain ⟨b,h⟩:=Jn hr
  exact ⟨b,by simpa using h⟩
theorem AccOk.push {acc:Acc} (A:AccOk w F ι h acc) {o:Option Nat} {b:TBlk} (hg:Yx w F ι h (acc++[(o,b)]) (o,b)) (hn:∀ id,o=some id→QG acc id=none):AccOk w F ι h (acc++[(o,b)]):=by
 have hp:acc <+: acc++[(o,b)]:=List.prefix_append _ _
 refine ⟨fun k e he=>?_,fun k j id c d hk hj=>?_⟩
 ·rw [List.getElem?_append] at he
  split at he
  ·exact (A.good k e he).mono hp
  ·have:=List.mem_of_getElem? he
   simp only [List.mem_singleton] at this
   rw [this];exact hg
 ·rw [List.getElem?_append] at hk hj
  split at hk <;> split at hj
  ·exact A.nodup k j id c d hk hj
  ·have h1:=List.mem_of_getElem? hj
   simp only [List.mem_singleton,Prod.mk.injEq] at h1
   exact absurd hk (Jg (hn id h1.1.symm) k c)
  ·have h1:=List.mem_of_getElem? hk
   simp only [List.mem_singleton,Prod.mk.injEq] at h1
   exact absurd hj (Jg (hn id h1.1.symm) j d)
  ·rename_i h1 h2
   have h3:=(List.getElem?_eq_some_iff.1 hk).1
   have h4:=(List.getElem?_eq_some_iff.1 hj).1
   simp at h3 h4
   omega
theorem QaM {acc accF:Acc} {o:Option Nat} {b:TBlk} (hp:acc++[(o,b)] <+: accF):ah accF acc.length=b.emb∧aι ι accF acc.length=o.bind ι:=by
 obtain ⟨r,rfl⟩:=hp
 have:(acc++[(o,b)]++r)[acc.length]? = some (o,b):=by simp
 constructor
 ·simp only [ah,this]
 ·simp only [aι,this,Option.bind_some]
theorem QdS {acc accF:Acc} {k:Nat} {o:Option Nat} {b:TBlk} (hp:acc <+: accF) (hk:acc[k]? = some (o,b)):ah accF k=b.emb∧aι ι accF k=o.bind ι:=by
 obtain ⟨r,rfl⟩:=hp
 have:(acc++r)[k]? = some (o,b):=by
  rw [List.getElem?_append_left (List.getElem?_eq_some_iff.1 hk).1];exact hk
 constructor
 ·simp only [ah,this]
 ·simp only [aι,this,Option.bind_some]
def FzOk (w:World) (F:Nat→Prop) (ι:Nat→Option Nat) (h:Nat→TBlk):Prop :=
 ∀ id e ts es v off len,h id = .sl e ts false es→VR w F ι (fun i=>(h i).emb) v (.r ts.length id off len)→Rd w F v (.sl ts.length (((es.map (encs ts)).drop off).take len))
theorem QdF {nl:Nat} (hz:FzOk w F ι h) (hs:∀ id e ts m es v off len n,h id = .sl e ts m es→VR w F ι (fun i=>(h i).emb) v (.r n id off len)→n=ts.length) {m:Md1} {x:TV} {acc:Acc} (A:AccOk w F ι h acc) (hf:Full nl h acc) :
  acc <+: (QQ nl h m x acc).2∧AccOk w F ι h (QQ nl h m x acc).2∧ZV w F ι h (QQ nl h m x acc).2 x (QQ nl h m x acc).1:=by
 have hu:∀ (a:Acc) (x:TV),ZV w F ι h a x .u:=fun a x accF F' _ _ v _=>.u v
 unfold QQ
 split
 ·exact ⟨List.prefix_refl _,A,fun accF F' hp hF v hv=>hv.data hF⟩
 ·refine ⟨List.prefix_refl _,A,fun accF F' hp hF v hv=>?_⟩
  cases hv with
  | q b o _ _ x hb hc hr=>exact .q b o _ _ x (hF b hb) hc (fun k d hk=>(hr k d hk).mono fun b hb=>⟨hF b hb,rfl⟩)
 ·rename_i ts
  split
  ·split
   ·exact ⟨List.prefix_refl _,A,hu _ _⟩
   ·refine ⟨List.prefix_append _ _,A.push ⟨rfl,by simp,rfl⟩ (by simp),fun accF F' hp hF v hv=>?_⟩
    obtain ⟨h1,h2⟩:=QaM (ι:=ι) hp
    cases hv
    exact .rnil acc.length _ _ true h2 (by rw [h1];rfl)
  ·refine ⟨List.prefix_refl _,A,fun accF F' hp hF v hv=>?_⟩
   cases hv
   exact .c _ _ (by simp only [enc,List.map_nil];exact .nil _)
  ·refine ⟨List.prefix_refl _,A,fun accF F' hp hF v hv=>?_⟩
   cases hv
   exact .n _
 ·rename_i ts0 id off len
  split
  rotate_left
  ·exact ⟨List.prefix_refl _,A,hu _ _⟩
  rename_i e ts mm es hh
  split
  ·cases mm with
   | true=>exact ⟨List.prefix_refl _,A,hu _ _⟩
   | false =>
    refine ⟨List.prefix_refl _,A,fun accF F' hp hF v hv=>?_⟩
    have hn:=hs id e ts false es v off len _ hh hv
    simp only [TV.emb1,hn] at hv
    have:=hz id e ts es v off len hh hv
    refine .c _ _ ?_
    simp only [enc,List.map_take,List.map_drop]
    exact this.mono fun b hb=>⟨hF b hb,rfl⟩
  ·cases hlt:Nat.blt id nl with
   | true =>
    have hb:=hf id e ts mm es (Nat.le_of_ble_eq_true hlt) hh
    refine ⟨List.prefix_refl _,A,fun accF F' hp hF v hv=>?_⟩
    obtain ⟨h1,h2⟩:=QdS (ι:=ι) hp hb
    have hn:=hs id e ts mm es v off len _ hh hv
    simp only [cond_true,TV.emb1,hn] at hv ⊢
    simp only [Option.bind_some] at h2
    have hhA:(fun i=>(h i).emb) id = .sl e ts.length mm (es.map (encs ts)):=by simp only [hh,TBlk.emb_sl]
    generalize hgA:(fun i=>(h i).emb)=hA at hv hhA
    cases hv with
    | rdead v sz id off len h1 hd=>rw [hhA] at hd;cases hd
    | rnil id e' sz m hi hh' =>
     rw [hhA] at hh'
     injection hh' with _ _ _ h4
     exact .rnil _ e ts.length mm (h2.trans hi) (by rw [h1,TBlk.emb_sl,h4])
    | r id off len b ao cap e' sz m es' hi hh' hlen hcap ho htip =>
     rw [hhA] at hh'
     injection hh' with q1 q2 q3 q4
     subst q1
     rw [← q4] at hlen
     exact .r id off len b ao cap e ts.length mm (es.map (encs ts)) (h2.trans hi) (by rw [h1,TBlk.emb_sl]) hlen hcap ho htip
   | false =>
   simp only [cond_false]
   split
   rotate_left
   ·exact ⟨List.prefix_refl _,A,hu _ _⟩
   split
   rotate_left
   ·exact ⟨List.prefix_refl _,A,hu _ _⟩
   rename_i hidx
   refine ⟨List.prefix_append _ _,A.push ⟨es,len,hh,rfl⟩ (fun id' h'=>by cases h';exact hidx),fun accF F' hp hF v hv=>?_⟩
   obtain ⟨h1,h2⟩:=QaM (ι:=ι) hp
   have hn:=hs id e ts mm es v 0 len _ hh hv
   simp only [TV.emb1,hn] at hv
   simp only [Option.bind_some] at h2
   have hhA:(fun i=>(h i).emb) id = .sl e ts.length mm (es.map (encs ts)):=by simp only [hh,TBlk.emb_sl]
   generalize hgA:(fun i=>(h i).emb)=hA at hv hhA
   cases hv with
   | rdead v sz id off len h1 hd=>rw [hhA] at hd;cases hd
   | rnil id e' sz m hi hh' =>
    rw [hhA] at hh'
    have:es=[]:=by injection hh' with _ _ _ h4;simpa using h4
    subst this
    simp only [List.take_nil,List.length_nil]
    exact .rnil _ e ts.length mm (h2.trans hi) (by rw [h1];rfl)
   | r id off len b ao cap e' sz m es' hi hh' hlen hcap ho htip =>
    rw [hhA] at hh'
    injection hh' with q1 q2 q3 q4
    subst q1
    have hle:len≤es.length:=by rw [← q4] at hlen;simpa using hlen
    have hl:(es.take len).length=len:=by simp [hle]
    simp only [TV.emb1]
    rw [hl]
    exact .r acc.length 0 len b ao cap e ts.length mm ((es.take len).map (encs ts)) (h2.trans hi) (by rw [h1];rfl) (by simp [hle]) hcap ho htip
 ·exact ⟨List.prefix_refl _,A,hu _ _⟩
theorem YN {nl:Nat} (hz:FzOk w F ι h) (hs:∀ id e ts m es v off len n,h id = .sl e ts m es→VR w F ι (fun i=>(h i).emb) v (.r n id off len)→n=ts.length) :
  ∀ {ms:List Md1} {xs:List TV} {acc:Acc},AccOk w F ι h acc→Full nl h acc→acc <+: (Qu nl h ms xs acc).2∧AccOk w F ι h (Qu nl h ms xs acc).2∧(Qu nl h ms xs acc).1.length=xs.length ∧
   ∀ (k:Nat) (x y:TV),xs[k]? = some x→(Qu nl h ms xs acc).1[k]? = some y→ZV w F ι h (Qu nl h ms xs acc).2 x y
 | ms,[],acc,A,hf=>by
  cases ms <;> exact ⟨List.prefix_refl _,A,rfl,fun k x y hx=>by simp at hx⟩
 | [],x::xs,acc,A,hf=>by
  obtain ⟨h1,h2,h3,h4⟩:=YN hz hs (ms:=[]) (xs:=xs) A hf
  refine ⟨h1,h2,by simp only [Qu,List.length_cons,h3],fun k a b ha hb=>?_⟩
  simp only [Qu] at hb
  cases k with
  | zero=>simp at hb;subst hb;exact fun accF F' _ _ v _=>.u v
  | succ k=>exact h4 k a b (by simpa using ha) (by simpa using hb)
 | m::ms,x::xs,acc,A,hf=>by
  obtain ⟨g1,g2,g3⟩:=QdF hz hs (m:=m) (x:=x) A hf
  obtain ⟨h1,h2,h3,h4⟩:=YN hz hs (ms:=ms) (xs:=xs) g2 (hf.mono g1)
  refine ⟨g1.trans h1,h2,by simp only [Qu,List.length_cons,h3],fun k a b ha hb=>?_⟩
  simp only [Qu] at hb
  cases k with
  | zero=>simp at ha hb;subst ha;subst hb;exact g3.mono h1
  | succ k=>exact h4 k a b (by simpa using ha) (by simpa using hb)
def Ye (w:World) (F:Nat→Prop) (ι:Nat→Option Nat) (h:Nat→TBlk) (acc:Acc) (x y:TV):Prop :=
 ∀ (accF:Acc) (F':Nat→Prop),acc <+: accF→(∀ b,F b→F' b)→∀ v,VR w F ι (fun i=>(h i).emb) v x.emb→VR w F' (aι ι accF) (ah accF) v y.emb
theorem Ye.mono {acc acc':Acc} {x y:TV} (hp:acc <+: acc') (hk:Ye w F ι h acc x y):Ye w F ι h acc' x y :=
 fun accF F' hpF hF v hv=>hk accF F' (hp.trans hpF) hF v hv
theorem QgJ {nl:Nat} {m:Md1} {x:TV} {acc:Acc}:(QQ nl h m x acc).1.emb=(QQ nl h m x acc).1.emb1:=by
 unfold QQ
 repeat' split
 all_goals first | rfl | (simp only [cond];split <;> rfl)
theorem Qgi {nl:Nat} {m:Md1} {x:TV} {acc:Acc} (hx:x.one=false):QQ nl h m x acc=(.u,acc):=by
 cases x <;> first | rfl | simp [TV.one] at hx
theorem Qf1 {nl:Nat} (hz:FzOk w F ι h) (hs:∀ id e ts m es v off len n,h id = .sl e ts m es→VR w F ι (fun i=>(h i).emb) v (.r n id off len)→n=ts.length) {m:Md} {x:TV} {acc:Acc} (A:AccOk w F ι h acc) (hf:Full nl h acc) :
  acc <+: (conv nl h m x acc).2∧AccOk w F ι h (conv nl h m x acc).2∧Ye w F ι h (conv nl h m x acc).2 x (conv nl h m x acc).1:=by
 have hu:∀ (a:Acc) (x:TV),Ye w F ι h a x .u:=fun a x accF F' _ _ v _=>.u v
 unfold conv
 split
 ·rename_i m
  cases hx:x.one with
  | false=>rw [Qgi hx];exact ⟨List.prefix_refl _,A,hu _ _⟩
  | true =>
   obtain ⟨g1,g2,g3⟩:=QdF hz hs (m:=m) (x:=x) A hf
   refine ⟨g1,g2,fun accF F' hp hF v hv=>?_⟩
   rw [YY hx] at hv
   rw [QgJ]
   exact g3 accF F' hp hF v hv
 ·rename_i ms
  split
  rotate_left
  ·exact ⟨List.prefix_refl _,A,hu _ _⟩
  rename_i id
  split
  ·rename_i k hk
   obtain ⟨b,hb⟩:=Jn hk
   refine ⟨List.prefix_refl _,A,fun accF F' hp hF v hv=>?_⟩
   obtain ⟨h1,h2⟩:=QdS (ι:=ι) hp hb
   have hg:=A.good k _ hb
   have hb':b≠.none∧b≠.dead:=by
    cases b with
    | none=>exact hg.elim
    | dead=>exact hg.elim
    | _=>simp
   have hsz:b.emb.sz=(h id).emb.sz:=by
    cases b with
    | none=>exact hg.elim
    | dead=>exact hg.elim
    | box cs=>obtain ⟨cs0,q,_⟩:=hg;rw [q];rfl
    | sl e ts m es=>obtain ⟨es0,len,q,_⟩:=hg;rw [q];rfl
   simp only [Option.bind_some] at h2
   cases hv with
   | pdead v id i j h3 hd =>
    exfalso
    have hd:(h id).emb = .dead:=hd
    cases b with
    | none=>exact hg
    | dead=>exact hg
    | box cs=>obtain ⟨cs0,q,_⟩:=hg;rw [q] at hd;cases hd
    | sl e ts m es=>obtain ⟨es0,len,q,_⟩:=hg;rw [q] at hd;cases hd
   | p id i j bk hi hn hd =>
    have:VR w F' (aι ι accF) (ah accF) (.pointer (some ⟨bk,0*(ah accF k).sz+0,none⟩)) (.p k 0 0) :=
     .p k 0 0 bk (h2.trans hi) (by rw [h1];cases b <;> simp_all [TBlk.emb]) (by rw [h1];cases b <;> simp_all [TBlk.emb])
    show VR _ _ _ _ _ (AV.p k 0 0)
    simpa using this
  ·rename_i hnone
   split
   rotate_left
   ·exact ⟨List.prefix_refl _,A,hu _ _⟩
   rename_i cs hh
   obtain ⟨g1,g2,g3,g4⟩:=YN hz hs (ms:=ms) (xs:=cs) A hf
   simp only
   split
   rotate_left
   ·exact ⟨List.prefix_refl _,A,hu _ _⟩
   rename_i hnone2
   have hp1:(Qu nl h ms cs acc).2 <+: (Qu nl h ms cs acc).2++[(some id,.box (Qu nl h ms cs acc).1)]:=List.prefix_append _ _
   refine ⟨g1.trans hp1,g2.push ⟨cs,hh,g3,fun k x y hx hy=>(g4 k x y hx hy).mono hp1⟩ (fun id' h'=>by cases h';exact hnone2),fun accF F' hp hF v hv=>?_⟩
   obtain ⟨h1,h2⟩:=QaM (ι:=ι) hp
   simp only [Option.bind_some] at h2
   cases hv with
   | pdead v id i j h3 hd=>have hd:(h id).emb = .dead:=hd;rw [hh] at hd;cases hd
   | p id i j bk hi hn hd =>
    have:VR w F' (aι ι accF) (ah accF) (.pointer (some ⟨bk,0*(ah accF (Qu nl h ms cs acc).2.length).sz+0,none⟩)) (.p (Qu nl h ms cs acc).2.length 0 0) :=
     .p _ 0 0 bk (h2.trans hi) (by rw [h1];simp [TBlk.emb]) (by rw [h1];simp [TBlk.emb])
    show VR _ _ _ _ _ (AV.p (Qu nl h ms cs acc).2.length 0 0)
    simpa using this
 ·rename_i ms
  split
  rotate_left
  ·exact ⟨List.prefix_refl _,A,hu _ _⟩
  rename_i cs
  obtain ⟨g1,g2,g3,g4⟩:=YN hz hs (ms:=ms) (xs:=cs) A hf
  refine ⟨g1,g2,fun accF F' hp hF v hv=>?_⟩
  cases hv with
  | a vs cs' hl h1 hv =>
   refine .a vs _ (by simpa [g3] using hl) h1 (fun k v y hk hy=>?_)
   simp only [List.getElem?_map,Option.map_eq_some_iff] at hy
   obtain ⟨y0,hy0,rfl⟩:=hy
   have hlt:k<cs.length:=by rw [← g3];exact (List.getElem?_eq_some_iff.1 hy0).1
   exact g4 k cs[k] y0 (List.getElem?_eq_getElem hlt) hy0 accF F' hp hF v (hv k v _ hk (by simp [hlt]))
theorem Qcy {nl:Nat} (hz:FzOk w F ι h) (hs:∀ id e ts m es v off len n,h id = .sl e ts m es→VR w F ι (fun i=>(h i).emb) v (.r n id off len)→n=ts.length) {T:Nat→TV} :
  ∀ {L:List (Nat × Md)} {acc:Acc},AccOk w F ι h acc→Full nl h acc→acc <+: (QJ nl h T L acc).2∧AccOk w F ι h (QJ nl h T L acc).2∧∀ s,Ye w F ι h (QJ nl h T L acc).2 (T s) (lkT (QJ nl h T L acc).1 s)
 | [],acc,A,hf=>⟨List.prefix_refl _,A,fun s accF F' _ _ v _=>.u v⟩
 | (s,m)::L,acc,A,hf=>by
  obtain ⟨g1,g2,g3⟩:=Qf1 hz hs (m:=m) (x:=T s) A hf
  obtain ⟨h1,h2,h3⟩:=Qcy hz hs (T:=T) (L:=L) g2 (hf.mono g1)
  refine ⟨g1.trans h1,h2,fun s'=>?_⟩
  simp only [QJ,Q5,upd]
  split
  ·rename_i e;subst e;exact g3.mono h1
  ·exact h3 s'
end
theorem QbB:∀ (acc:Acc) (n k:Nat),lkB (Zw n acc) k=if n≤k then (match acc[k-n]? with | some (_,b)=>b | none=>.none) else .none
 | [],n,k=>by simp [Zw,lkB]
 | (o,b)::r,n,k=>by
  simp only [Zw,Je,upd]
  by_cases h:k=n
  ·subst h;simp
  ·rw [if_neg h,QbB r (n+1) k]
   by_cases h2:n≤k
   ·rw [if_pos h2,if_pos (by omega),show k-n=(k-(n+1))+1 by omega]
    simp
   ·rw [if_neg h2,if_neg (by omega)]
theorem Q0 (h:Nat→TBlk):∀ n,(Qs h n).length=n
 | 0=>rfl
 | n+1=>by simp only [Qs,List.length_append,Q0 h n,List.length_singleton]
theorem QbP {nl:Nat} {h:Nat→TBlk}:∀ {cs:List TV} {acc:Acc},(Qu nl h (alld cs) cs acc).2=acc
 | [],acc=>rfl
 | x::xs,acc=>by
  have:(QQ nl h .d x acc).2=acc:=by
   unfold QQ
   split <;> try rfl
   split <;> try rfl
   simp only
   rename_i mm _ _
   cases mm <;> rfl
  simp only [alld,Qu,this]
  exact QbP
section
variable {C:Ctx} {U:Nat→Prop} {a:Act} {w:World} {ι:Nat→Option Nat}
theorem Qf9 (h:Nat→TBlk) (ids:List Nat):(fun i=>(frzF h ids i).emb)=updL (fun i=>(h i).emb) (frz (fun i=>(h i).emb) ids):=by
 funext i
 rw [QB]
 simp only [frzF]
 by_cases hi:i∈ids
 ·rw [if_pos hi,show ids.elem i=true by simpa using hi];simp only [cond_true];exact QbE _
 ·rw [if_neg hi,show ids.elem i=false by simpa using hi];rfl
theorem Qht {σ:TSt} {nl:Nat} {L:List (Nat × Md)} (S:Sat C U σ.emb a w ι) (hL:∀ i b,C.L i=some b→i<nl) (hO:∀ i o,C.O i=some o→i<nl) (hOb:∀ i o cs,C.O i≠some (o,.box cs)):∃ ι',Sat C (fun i=>(gc nl L σ).nx≤i) (gc nl L σ).emb a w ι':=by
 obtain ⟨t,h0,nx⟩:=σ
 let H:=lkB h0
 let T:=lkT t
 let ids:=JA H nl++ZS H T L
 obtain ⟨S1,_⟩:=S.freeze ids
 have hf:updL (TSt.emb ⟨t,h0,nx⟩).h (frz (TSt.emb ⟨t,h0,nx⟩).h ids)=fun i=>(frzF H ids i).emb:=(Qf9 H ids).symm
 rw [hf] at S1
 generalize hh:frzF H ids=h at S1
 let F:=Fz C w ι fun i=>(h i).emb
 have hs:∀ id e ts m es v off len n,h id = .sl e ts m es→VR w F ι (fun i=>(h i).emb) v (.r n id off len)→n=ts.length:=by
  intro id e ts m es v off len n hid hv
  have hA:(fun i=>(h i).emb) id = .sl e ts.length m (es.map (encs ts)):=by simp only [hid,TBlk.emb_sl]
  generalize (fun i=>(h i).emb)=hB at hv hA
  cases hv with
  | rdead v sz id off len h1 hd=>rw [hA] at hd;cases hd
  | rnil id e' sz m' hi hh'=>rw [hA] at hh';injection hh' with _ q _ _;exact q.symm
  | r id off len b ao cap e' sz m' es' hi hh' hlen hcap ho htip=>rw [hA] at hh';injection hh' with _ q _ _;exact q.symm
 have hz:FzOk w F ι h:=by
  intro id e ts es v off len hid hv
  have hA:(fun i=>(h i).emb) id = .sl e ts.length false (es.map (encs ts)):=by simp only [hid,TBlk.emb_sl]
  refine AV.d_rd S1 (F:=F) (fun b hb=>hb) hv (d:=.sl ts.length (((es.map (encs ts)).drop off).take len)) ?_ (fun id' b hid' hb=>?_)
  ·show (match (h id).emb with | .sl _ sz _ es=>some (D.sl sz ((es.drop off).take len)) | _=>none)=_
   rw [hid]
   rfl
  ·simp only [AV.ref1,List.mem_singleton] at hid'
   subst hid'
   obtain ⟨r1,r2⟩:=S1.rng id' b hb
   refine ⟨r2,?_,fun j hj=>?_⟩
   ·rcases r1 with r1 | ⟨_,cs,q⟩
    ·exact .inr r1
    ·have q:(h id').emb = .box cs:=q
     rw [hid] at q;cases q
   ·have:=S1.inj j id' b hj hb
    subst this
    show ((h j).emb).own=false
    rw [hid];rfl
 have hlent:∀ n,AccOk w F ι h (Qs h n):=by
  intro n
  induction n with
  | zero=>exact ⟨fun k e he=>by simp [Qs] at he,fun k j id b c hk=>by simp [Qs] at hk⟩
  | succ n ih =>
   simp only [Qs]
   have hnone:QG (Qs h n) n=none:=by
    cases hx:QG (Qs h n) n with
    | none=>rfl
    | some k =>
     obtain ⟨b,hb⟩:=Jn hx
     have:∀ (n k j:Nat) (b:TBlk),(Qs h n)[k]? = some (some j,b)→j=k:=by
      intro n
      induction n with
      | zero=>intro k j b hk;simp [Qs] at hk
      | succ n ih =>
       intro k j b hk
       simp only [Qs] at hk
       rw [List.getElem?_append] at hk
       split at hk
       ·exact ih k j b hk
       ·rename_i hge
        have h1:=List.mem_of_getElem? hk
        have h2:=(List.getElem?_eq_some_iff.1 hk).1
        simp only [List.mem_singleton] at h1
        simp only [Q0,List.length_singleton] at hge h2
        split at h1 <;> first | (cases h1;omega) | cases h1
     have h1:=this n k n b hb
     have h2:=(List.getElem?_eq_some_iff.1 hb).1
     rw [Q0] at h2
     omega
   split
   ·rename_i cs hcs
    obtain ⟨g1,g2,g3,g4⟩:=YN (nl:=0) hz hs (ms:=alld cs) (xs:=cs) ih (fun id _ _ _ _ h=>by omega)
    rw [QbP] at g1 g2 g4
    exact ih.push ⟨cs,hcs,g3,fun k x y hx hy=>(g4 k x y hx hy).mono (List.prefix_append _ _)⟩ (fun id hid=>by cases hid;exact hnone)
   ·rename_i e ts m es hq
    exact ih.push ⟨es,es.length,hq,List.take_length.symm⟩ (fun id hid=>by cases hid;exact hnone)
   ·exact ih.push trivial (fun id hid=>by cases hid)
   ·exact ih.push trivial (fun id hid=>by cases hid)
 have hfull:∀ n,Full n h (Qs h n):=by
  intro n
  induction n with
  | zero=>intro id e ts m es hlt;omega
  | succ n ih =>
   intro id e ts m es hlt hid
   simp only [Qs]
   by_cases hin:id<n
   ·rw [List.getElem?_append_left (by rw [Q0];exact hin)]
    exact ih id e ts m es hin hid
   ·have:id=n:=by omega
    subst this
    rw [List.getElem?_append_right (by rw [Q0];omega),Q0,hid]
    simp
 have hnb:∀ i o B,C.O i=some (o,B)→∀ cs,h i≠.box cs:=by
  intro i o B hi cs hq
  rcases S1.hand i o B hi with r1 | ⟨_,r2,_⟩
  ·have r1:(h i).emb = .dead:=r1
   rw [hq] at r1
   cases r1
  ·have r2:Same B (h i).emb:=r2
   rw [hq] at r2
   cases B with
   | box cs'=>exact hOb i o cs' hi
   | _=>exact r2.elim
 have hdead:∀ n i,i<n→h i = .dead→(Qs h n)[i]? = some (none,.dead):=by
  intro n
  induction n with
  | zero=>intro i hlt;omega
  | succ n ih =>
   intro i hlt hid
   simp only [Qs]
   by_cases hin:i<n
   ·rw [List.getElem?_append_left (by rw [Q0];exact hin)]
    exact ih i hin hid
   ·have:i=n:=by omega
    subst this
    rw [List.getElem?_append_right (by rw [Q0];omega),Q0,hid]
    simp
 obtain ⟨g1,g2,g3⟩:=Qcy (nl:=nl) hz hs (T:=T) (L:=L) (hlent nl) (hfull nl)
 have hgc:gc nl L ⟨t,h0,nx⟩=⟨(QJ nl h T L (Qs h nl)).1,Zw 0 (QJ nl h T L (Qs h nl)).2,(QJ nl h T L (Qs h nl)).2.length⟩:=by
  unfold gc
  show TSt.mk _ _ _=_
  simp only [show frzF (TSt.H ⟨t,h0,nx⟩) (JA (TSt.H ⟨t,h0,nx⟩) nl++ZS (TSt.H ⟨t,h0,nx⟩) (TSt.T ⟨t,h0,nx⟩) L)=h from hh]
  rfl
 rw [hgc]
 generalize hacc:(QJ nl h T L (Qs h nl)).2=acc at g1 g2 g3
 have hah:(fun i=>(lkB (Zw 0 acc) i).emb)=ah acc:=by
  funext k
  rw [QbB]
  simp only [Nat.zero_le,if_true,Nat.sub_zero,ah]
  cases acc[k]? with
  | none=>rfl
  | some x=>obtain ⟨o,b⟩:=x;rfl
 have hex:∀ (k b:Nat),aι ι acc k=some b→∃ id B,acc[k]? = some (some id,B)∧ι id=some b:=by
  intro k b hk
  simp only [aι] at hk
  cases hx:acc[k]? with
  | none=>rw [hx] at hk;cases hk
  | some x =>
   obtain ⟨o,B⟩:=x
   rw [hx] at hk
   cases o with
   | none=>cases hk
   | some id=>exact ⟨id,B,rfl,hk⟩
 have hF:∀ b,F b→Fz C w (aι ι acc) (ah acc) b:=by
  intro b ⟨q1,q2,q3⟩
  refine ⟨q1,q2,fun k hk=>?_⟩
  obtain ⟨id,B,h1,h2⟩:=hex k b hk
  have h3:=q3 id h2
  have hg:=g2.good k _ h1
  simp only [ah,h1]
  cases B with
  | none=>rfl
  | dead=>rfl
  | box cs=>obtain ⟨cs0,e,_⟩:=hg;have h3:((h id).emb).own=false:=h3;rw [e] at h3;cases h3
  | sl e ts m es=>obtain ⟨es0,len,e,_⟩:=hg;have h3:((h id).emb).own=false:=h3;rw [e] at h3;exact h3
 have key:Sat C (fun i=>acc.length≤i) ⟨fun s=>(lkT (QJ nl h T L (Qs h nl)).1 s).emb,ah acc,acc.length⟩ a w (aι ι acc):=by
  refine ⟨S1.fra,fun s=>?_,S1.size,S1.defers,fun k=>?_,fun i j b hi hj=>?_,fun i b hi=>?_,fun i hi=>?_,fun i b hi=>?_,fun i b hi=>?_,fun i o B hi=>?_⟩
  ·exact g3 s acc _ (List.prefix_refl _) hF _ (S1.vals s)
  ·show BR w (Fz C w (aι ι acc) (ah acc)) (aι ι acc) (ah acc) k (ah acc k)
   cases hx:acc[k]? with
   | none=>simp only [ah,hx];exact .none
   | some x =>
    obtain ⟨o,B⟩:=x
    have hg:=g2.good k _ hx
    have ha:ah acc k=B.emb:=by simp only [ah,hx]
    have hi:aι ι acc k=o.bind ι:=by simp only [aι,hx,Option.bind_some]
    rw [ha]
    cases o with
    | none =>
     cases B with
     | none=>exact .none
     | dead=>exact .dead
     | box cs=>exact hg.elim
     | sl e ts m es =>
      obtain ⟨e1,e2,e3⟩:=hg
      subst e1
      exact .slnil e ts.length m e2 hi
    | some id =>
     simp only [Option.bind_some] at hi
     have hb:=S1.blk id
     cases B with
     | none=>exact hg.elim
     | dead=>exact hg.elim
     | box cs =>
      obtain ⟨cs0,e1,e2,e3⟩:=hg
      have hb:BR w F ι (fun i=>(h i).emb) id ((h id).emb):=hb
      rw [e1] at hb
      cases hb with
      | box b e vals _ q1 q2 q3 q4 q5 =>
       refine .box b e vals _ (hi.trans q1) q2 (by simpa [e2] using q3) q4 (fun j v y hj hy=>?_)
       simp only [List.getElem?_map,Option.map_eq_some_iff] at hy
       obtain ⟨y0,hy0,rfl⟩:=hy
       have hlt:j<cs0.length:=by rw [← e2];exact (List.getElem?_eq_some_iff.1 hy0).1
       exact e3 j cs0[j] y0 (List.getElem?_eq_getElem hlt) hy0 acc _ (List.prefix_refl _) hF v (q5 j v _ hj (by simp [hlt]))
     | sl e ts m es =>
      obtain ⟨es0,len,e1,e2⟩:=hg
      have hb:BR w F ι (fun i=>(h i).emb) id ((h id).emb):=hb
      rw [e1] at hb
      subst e2
      simp only [TBlk.emb_sl] at hb ⊢
      generalize hes:es0.map (encs ts)=es1 at hb
      have het:(es0.take len).map (encs ts)=es1.take len:=by rw [← hes,List.map_take]
      rw [het]
      cases hb with
      | slnil _ _ _ q1 q2=>simp only [List.take_nil];exact .slnil e ts.length m q1 (hi.trans q2)
      | sl b _ _ _ _ cur Cc q1 q2 q3 q4 q5 q6 q7 q8 =>
       refine .sl b e ts.length m _ cur Cc q1 (hi.trans q2) q3 q4 (by simp;omega) q6 (fun x hx=>q7 x (List.mem_of_mem_take hx)) (fun i j x d hx hd=>?_)
       rw [List.getElem?_take] at hx
       split at hx
       ·obtain ⟨v,r1,r2⟩:=q8 i j x d hx hd
        exact ⟨v,r1,r2.mono fun b hb=>⟨hF b hb,rfl⟩⟩
       ·cases hx
  ·obtain ⟨id,B,h1,h2⟩:=hex i b hi
   obtain ⟨id',B',h3,h4⟩:=hex j b hj
   have:=S1.inj id id' b h2 h4
   subst this
   exact g2.nodup i j id B B' h1 h3
  ·obtain ⟨id,B,h1,h2⟩:=hex i b hi
   obtain ⟨r1,r2⟩:=S1.rng id b h2
   refine ⟨r1.imp (fun x=>x) fun ⟨r3,cs,r4⟩=>⟨r3,?_⟩,r2⟩
   have r4:(h id).emb = .box cs:=r4
   have hg:=g2.good i _ h1
   cases B with
   | none=>exact hg.elim
   | dead=>exact hg.elim
   | box cs'=>exact ⟨cs'.map TV.emb1,by simp only [ah,h1];rfl⟩
   | sl e ts m es=>obtain ⟨es0,len,e1,_⟩:=hg;rw [e1] at r4;cases r4
  ·have:acc[i]? = none:=List.getElem?_eq_none hi
   simp only [ah,aι,this,Option.bind_none,and_self]
  ·obtain ⟨id,B,h1,h2⟩:=hex i b hi
   have hg:=g2.good i _ h1
   simp only [ah,h1]
   cases B with
   | none=>exact hg.elim
   | dead=>exact hg.elim
   | box cs'=>simp [TBlk.emb]
   | sl e ts m es=>simp [TBlk.emb]
  ·obtain ⟨r1,⟨cs,r2⟩,r3⟩:=S1.lent i b hi
   have r2:(h i).emb = .box cs:=r2
   have hlt:=hL i b hi
   have hent:∀ n,i<n→∃ cs',(Qs h n)[i]? = some (some i,.box cs'):=by
    intro n
    induction n with
    | zero=>intro hn;omega
    | succ n ih =>
     intro hn
     simp only [Qs]
     rw [List.getElem?_append]
     by_cases hin:i<n
     ·rw [if_pos (by rw [Q0];exact hin)];exact ih hin
     ·have:i=n:=by omega
      subst this
      rw [if_neg (by rw [Q0];omega),Q0]
      cases hq:h i with
      | box cs0=>simp
      | none=>rw [hq] at r2;cases r2
      | dead=>rw [hq] at r2;cases r2
      | sl e ts m es=>rw [hq] at r2;cases r2
   obtain ⟨cs',h1⟩:=hent nl hlt
   obtain ⟨rr,hrr⟩:=g1
   have h2:acc[i]? = some (some i,.box cs'):=by
    rw [← hrr,List.getElem?_append_left (List.getElem?_eq_some_iff.1 h1).1];exact h1
   exact ⟨by simp only [aι,h2,Option.bind_some];exact r1,⟨cs'.map TV.emb1,by simp only [ah,h2];rfl⟩,r3⟩
  ·have hlt:=hO i _ hi
   obtain ⟨rr,hrr⟩:=g1
   have hin:∀ x,(Qs h nl)[i]? = some x→acc[i]? = some x:=fun x hx=>by
    rw [← hrr,List.getElem?_append_left (List.getElem?_eq_some_iff.1 hx).1];exact hx
   rcases S1.hand i o B hi with r1 | ⟨r1,r2,r3⟩
   ·left
    have r1:(h i).emb = .dead:=r1
    have:h i = .dead:=by cases hq:h i <;> rw [hq] at r1 <;> first | rfl | cases r1
    show ah acc i = .dead
    simp only [ah,hin _ (hdead nl i hlt this)]
    rfl
   ·have r2:Same B (h i).emb:=r2
    right
    cases hq:h i with
    | none=>rw [hq] at r2;exact absurd rfl r2.ne.1
    | dead=>rw [hq] at r2;exact absurd rfl r2.ne.2
    | sl e ts m es =>
     have hx:=hin _ (hfull nl i e ts m es hlt hq)
     refine ⟨by simp only [aι,hx,Option.bind_some];exact r1,?_,r3⟩
     show Same B (ah acc i)
     simp only [ah,hx]
     rw [hq] at r2
     exact r2
    | box cs=>exact absurd hq (hnb i o B hi cs)
 refine ⟨aι ι acc,?_⟩
 have hemb:TSt.emb ⟨(QJ nl h T L (Qs h nl)).1,Zw 0 acc,acc.length⟩=⟨fun s=>(lkT (QJ nl h T L (Qs h nl)).1 s).emb,ah acc,acc.length⟩:=by
  unfold TSt.emb TSt.T TSt.H
  rw [← hah]
 rw [hemb]
 exact key
end
end Go.Proofs.Ytephkbajoofeoaa.Am
namespace Go.Proofs.Ytephkbajoofeoaa.Am
open Go Go.RowKit
inductive TCode where
 | skip
 | reg (ss:List TStm)
 | draw (ss:List TStm) (U:List (Nat × Nat))
 | seq (x y:TCode)
 | cond (c:TOpd) (x y:TCode)
 | block (id:Nat) (x:TCode)
 | loop (L:List (Nat × Md)) (x:TCode)
 | exit (id:Nat)
 | ret
 | wk (L:List (Nat × Md)) (x:TCode)
def TCode.er:TCode→ACode
 | .skip=>.skip
 | .reg ss=>.reg (erL none 0 ss)
 | .draw ss U=>.draw (erL none 0 ss) U
 | .seq x y=>.seq x.er y.er
 | .cond c x y=>.cond c.er x.er y.er
 | .block id x=>.block id x.er
 | .loop _ x=>.loop x.er
 | .exit id=>.exit id
 | .ret=>.ret
 | .wk _ x=>x.er
def Lfp (F:(TSt→Prop)→TSt→Prop) (σ:TSt):Prop:=∀ J:TSt→Prop,(∀ s,F J s→J s)→J σ
abbrev Qg:=AEx→TSt→Prop
def Qseq (next:TSt→Prop) (Q:Qg):Qg:=fun e σ=>match e with
 | .normal=>next σ
 | e=>Q e σ
def Qblk (id:Nat) (Q:Qg):Qg:=fun e σ=>match e with
 | .exit id'=>bif Nat.beq id' id then Q .normal σ else Q (.exit id') σ
 | e=>Q e σ
def TSt.bump (σ:TSt) (n:Nat):TSt:=⟨σ.t,σ.h,σ.nx+n⟩
def tawp (Γ:List TRow) (nl:Nat):TCode→Qg→TSt→Prop
 | .skip,Q,σ=>Q .normal σ
 | .reg ss,Q,σ=>match runR Γ 0 ss σ with
  | some (p,σ',_)=>andP p (Q .normal (σ'.bump (16*lenL ss)))
  | none=>False
 | .draw ss U,Q,σ=>match runR Γ 0 ss σ with
  | some (p,σ',l)=>match ZZ l U with
   | true=>andP p (Q .normal (σ'.bump (16*lenL ss)))
   | false=>False
  | none=>False
 | .seq x y,Q,σ=>tawp Γ nl x (Qseq (tawp Γ nl y Q) Q) σ
 | .cond c x y,Q,σ=>match c.ev σ.T with
  | .c .bool t=>(t=true→tawp Γ nl x Q σ)∧(t=false→tawp Γ nl y Q σ)
  | _=>False
 | .block id x,Q,σ=>tawp Γ nl x (Qblk id Q) σ
 | .loop L x,Q,σ=>Lfp (fun R s=>tawp Γ nl x (Qseq (fun s'=>R (gc nl L s')) Q) s) (gc nl L σ)
 | .exit id,Q,σ=>Q (.exit id) σ
 | .ret,Q,σ=>Q .ret σ
 | .wk L x,Q,σ=>tawp Γ nl x Q (gc nl L σ)
theorem YV {p:Option Prop} {k:Prop}:andP p k↔holds p∧k:=by cases p <;> simp [andP,holds]
theorem Zv {Γ:List TRow} {nl:Nat}:∀ (c:TCode) {Q Q':Qg} {σ:TSt},(∀ e s,Q e s→Q' e s)→tawp Γ nl c Q σ→tawp Γ nl c Q' σ
 | .skip,Q,Q',σ,h,hc=>h _ _ hc
 | .reg ss,Q,Q',σ,h,hc=>by
  simp only [tawp] at hc ⊢
  split at hc
  ·rw [YV] at hc ⊢;exact ⟨hc.1,h _ _ hc.2⟩
  ·exact hc
 | .draw ss U,Q,Q',σ,h,hc=>by
  simp only [tawp] at hc ⊢
  split at hc
  ·split at hc
   ·rw [YV] at hc ⊢;exact ⟨hc.1,h _ _ hc.2⟩
   ·exact hc
  ·exact hc
 | .seq x y,Q,Q',σ,h,hc=>by
  simp only [tawp] at hc ⊢
  refine Zv x (fun e s hq=>?_) hc
  cases e with
  | normal=>exact Zv y h hq
  | exit id=>exact h _ _ hq
  | ret=>exact h _ _ hq
 | .cond c x y,Q,Q',σ,h,hc=>by
  simp only [tawp] at hc ⊢
  split at hc
  ·exact ⟨fun e=>Zv x h (hc.1 e),fun e=>Zv y h (hc.2 e)⟩
  ·exact hc
 | .block id x,Q,Q',σ,h,hc=>by
  simp only [tawp] at hc ⊢
  refine Zv x (fun e s hq=>?_) hc
  cases e with
  | normal=>exact h _ _ hq
  | exit id' =>
   simp only [Qblk] at hq ⊢
   cases hb:Nat.beq id' id with
   | true=>rw [hb] at hq;exact h _ _ hq
   | false=>rw [hb] at hq;exact h _ _ hq
  | ret=>exact h _ _ hq
 | .loop L x,Q,Q',σ,h,hc=>by
  simp only [tawp] at hc ⊢
  intro J hJ
  refine hc J (fun s hs=>hJ s (Zv x (fun e s hq=>?_) hs))
  cases e with
  | normal=>exact hq
  | exit id=>exact h _ _ hq
  | ret=>exact h _ _ hq
 | .exit id,Q,Q',σ,h,hc=>h _ _ hc
 | .ret,Q,Q',σ,h,hc=>h _ _ hc
 | .wk L x,Q,Q',σ,h,hc=>by
  simp only [tawp] at hc ⊢
  exact Zv x h hc
theorem Qe6 {Γ:List TRow} {nl:Nat} {L:List (Nat × Md)} {x:TCode} {Q:Qg} {s:TSt}
  (h:tawp Γ nl x (Qseq (fun s'=>Lfp (fun R s=>tawp Γ nl x (Qseq (fun s'=>R (gc nl L s')) Q) s) (gc nl L s')) Q) s) :
  Lfp (fun R s=>tawp Γ nl x (Qseq (fun s'=>R (gc nl L s')) Q) s) s:=by
 intro J hJ
 refine hJ s (Zv x (fun e s hq=>?_) h)
 cases e with
 | normal=>exact hq J hJ
 | exit id=>exact hq
 | ret=>exact hq
mutual
theorem QeW (g:Option (Nat × Bool)):∀ (x:TStm) (i:Nat),(x.er g i).length=x.len
 | .op d o,i=>rfl
 | .grp s w ss d x,i=>by simp [TStm.er,TStm.len,Yj (some (s,w)) ss i]
 | .gw s w ss d2 o d x,i=>by simp [TStm.er,TStm.len,Yj (some (s,w)) ss i]
theorem Yj (g:Option (Nat × Bool)):∀ (ss:List TStm) (i:Nat),(erL g i ss).length=lenL ss
 | [],i=>rfl
 | x::xs,i=>by simp [erL,lenL,QeW g x i,Yj g xs (i+x.len)]
end
theorem Qf7 {P:Program} {N:Nat} {c:Code} {x y:ACode} (h:comp P N c=some (.seq x y)):∃ c1 c2,c = .seq c1 c2∧comp P N c1=some x∧comp P N c2=some y:=by
 cases c with
 | seq c1 c2 =>
  simp only [comp] at h
  split at h
  ·rename_i h1 h2;cases h;exact ⟨c1,c2,rfl,h1,h2⟩
  ·cases h
 | region id ops draw =>
  simp only [comp] at h
  split at h
  ·split at h
   ·split at h <;> cases h
   ·cases h
  ·cases h
 | cond a b c=>simp only [comp] at h;split at h <;> cases h
 | block id c=>simp only [comp,Option.map_eq_some_iff] at h;obtain ⟨_,_,h⟩:=h;cases h
 | loop c=>simp only [comp,Option.map_eq_some_iff] at h;obtain ⟨_,_,h⟩:=h;cases h
 | _=>simp [comp] at h
theorem Qfa {P:Program} {N:Nat} {c:Code} {b:Opd} {x y:ACode} (h:comp P N c=some (.cond b x y)):∃ b0 c1 c2,c = .cond b0 c1 c2∧cO P 0 b0=some b∧comp P N c1=some x∧comp P N c2=some y:=by
 cases c with
 | cond b0 c1 c2 =>
  simp only [comp] at h
  split at h
  ·rename_i h0 h1 h2;cases h;exact ⟨b0,c1,c2,rfl,h0,h1,h2⟩
  ·cases h
 | region id ops draw =>
  simp only [comp] at h
  split at h
  ·split at h
   ·split at h <;> cases h
   ·cases h
  ·cases h
 | seq a b=>simp only [comp] at h;split at h <;> cases h
 | block id c=>simp only [comp,Option.map_eq_some_iff] at h;obtain ⟨_,_,h⟩:=h;cases h
 | loop c=>simp only [comp,Option.map_eq_some_iff] at h;obtain ⟨_,_,h⟩:=h;cases h
 | _=>simp [comp] at h
theorem Qg6 {P:Program} {N:Nat} {c:Code} {id:Nat} {x:ACode} (h:comp P N c=some (.block id x)):∃ c1,c = .block id c1∧comp P N c1=some x:=by
 cases c with
 | block id' c1 =>
  simp only [comp,Option.map_eq_some_iff] at h
  obtain ⟨_,h1,h⟩:=h
  cases h
  exact ⟨c1,rfl,h1⟩
 | region id ops draw =>
  simp only [comp] at h
  split at h
  ·split at h
   ·split at h <;> cases h
   ·cases h
  ·cases h
 | seq a b=>simp only [comp] at h;split at h <;> cases h
 | cond a b c=>simp only [comp] at h;split at h <;> cases h
 | loop c=>simp only [comp,Option.map_eq_some_iff] at h;obtain ⟨_,_,h⟩:=h;cases h
 | _=>simp [comp] at h
theorem QeM {P:Program} {N:Nat} {c:Code} {x:ACode} (h:comp P N c=some (.loop x)):∃ c1,c = .loop c1∧comp P N c1=some x:=by
 cases c with
 | loop c1 =>
  simp only [comp,Option.map_eq_some_iff] at h
  obtain ⟨_,h1,h⟩:=h
  cases h
  exact ⟨c1,rfl,h1⟩
 | region id ops draw =>
  simp only [comp] at h
  split at h
  ·split at h
   ·split at h <;> cases h
   ·cases h
  ·cases h
 | seq a b=>simp only [comp] at h;split at h <;> cases h
 | cond a b c=>simp only [comp] at h;split at h <;> cases h
 | block id c=>simp only [comp,Option.map_eq_some_iff] at h;obtain ⟨_,_,h⟩:=h;cases h
 | _=>simp [comp] at h
def Qfp (C:Ctx) (Qa:Qg) (Q:Exit→Act→World→Prop):Prop:=∀ e σ a w,Qa e σ→SatE C σ.emb a w→Q e.up a w
theorem QeK {C:Ctx} {U:Nat→Prop} {σ:TSt} {a:Act} {w:World} {ι:Nat→Option Nat} (S:Sat C U σ.emb a w ι) {x:Operand} {x':TOpd} {ty:TypeId} (hx:cO C.P ty x=some x'.er) {b:Bool} (hv:x'.ev σ.T = .c .bool b):a.eval x = .bool b :=
 Qdf S hx (by show x'.er.ev (fun s=>(σ.T s).emb)=_;rw [Qn,hv];rfl)
section
variable {C:Ctx} {Γ:List TRow} {ΓA:Tab} {nl:Nat}
structure Kept (C:Ctx) (nl:Nat):Prop where
 l:∀ i b,C.L i=some b→i<nl
 o:∀ i o,C.O i=some o→i<nl
 b:∀ i o cs,C.O i≠some (o,.box cs)
theorem gcE {σ:TSt} {a:Act} {w:World} {L:List (Nat × Md)} (hL:Kept C nl) (S:SatE C σ.emb a w):SatE C (gc nl L σ).emb a w:=by
 obtain ⟨ι,S⟩:=S
 exact Qht S hL.l hL.o hL.b
theorem Qgb (hm:C.P.follows .mixedOrders=true) (hT:Y0 Γ ΓA) (hΓ:Zp C.P ΓA) (hL:Kept C nl):∀ (tc:TCode) (c:Code) (Qa:Qg) (Q:Exit→Act→World→Prop) (σ:TSt) (a:Act) (w:World),comp C.P C.N c=some tc.er →
  tawp Γ nl tc Qa σ→SatE C σ.emb a w→Qfp C Qa Q→c.wp C.P Q a w:=by
 intro tc
 induction tc with
 | skip =>
  intro c Qa Q σ a w hc h S hQ
  refine Yy hm hΓ c .skip (fun e τ=>e = .normal∧τ=σ.emb) Q σ.emb a w hc ⟨rfl,rfl⟩ S ?_
  rintro e τ a' w' ⟨rfl,rfl⟩ S'
  exact hQ .normal σ a' w' h S'
 | reg ss =>
  intro c Qa Q σ a w hc h S hQ
  simp only [tawp] at h
  split at h
  rotate_left
  ·exact h.elim
  rename_i p σ' l hr
  rw [YV] at h
  obtain ⟨l',h1,_⟩:=YD hT ss hr h.1
  have hlen:(erL none 0 ss).length=lenL ss:=Yj none ss 0
  refine Yy hm hΓ c _ (fun e τ=>e = .normal∧τ=(σ'.bump (16*lenL ss)).emb) Q σ.emb a w hc ?_ S ?_
  ·show regK ΓA (erL none 0 ss) (fun s=>AEx.normal=AEx.normal∧s.bump (16*(erL none 0 ss).length)=_) σ.emb
   exact Qdt _ h1 ⟨rfl,by rw [hlen];rfl⟩
  ·rintro e τ a' w' ⟨rfl,rfl⟩ S'
   exact hQ .normal _ a' w' h.2 S'
 | draw ss U =>
  intro c Qa Q σ a w hc h S hQ
  simp only [tawp] at h
  split at h
  rotate_left
  ·exact h.elim
  rename_i p σ' l hr
  split at h
  rotate_left
  ·exact h.elim
  rename_i hno
  rw [YV] at h
  obtain ⟨l',h1,h2⟩:=YD hT ss hr h.1
  have hlen:(erL none 0 ss).length=lenL ss:=Yj none ss 0
  refine Yy hm hΓ c _ (fun e τ=>e = .normal∧τ=(σ'.bump (16*lenL ss)).emb) Q σ.emb a w hc ?_ S ?_
  ·simp only [TCode.er,awp,h1]
   exact ⟨Qhe h2 hno,trivial,by rw [hlen];rfl⟩
  ·rintro e τ a' w' ⟨rfl,rfl⟩ S'
   exact hQ .normal _ a' w' h.2 S'
 | seq x y ihx ihy =>
  intro c Qa Q σ a w hc h S hQ
  simp only [TCode.er] at hc
  obtain ⟨c1,c2,rfl,h1,h2⟩:=Qf7 hc
  simp only [tawp] at h
  refine wp_seq (ihx _ _ _ σ a w h1 h S ?_)
  intro e σ' a' w' he S'
  cases e with
  | normal=>exact ihy _ _ _ σ' a' w' h2 he S' hQ
  | exit id=>exact hQ _ _ _ _ he S'
  | ret=>exact hQ _ _ _ _ he S'
 | cond b x y ihx ihy =>
  intro c Qa Q σ a w hc h S hQ
  simp only [TCode.er] at hc
  obtain ⟨b0,c1,c2,rfl,h0,h1,h2⟩:=Qfa hc
  simp only [tawp] at h
  split at h
  rotate_left
  ·exact h.elim
  rename_i t ht
  obtain ⟨ι,S0⟩:=S
  exact wp_cond_split (QeK S0 h0 ht) (fun e=>ihx _ _ _ σ a w h1 (h.1 e) ⟨ι,S0⟩ hQ) (fun e=>ihy _ _ _ σ a w h2 (h.2 e) ⟨ι,S0⟩ hQ)
 | block id x ih =>
  intro c Qa Q σ a w hc h S hQ
  simp only [TCode.er] at hc
  obtain ⟨c1,rfl,h1⟩:=Qg6 hc
  simp only [tawp] at h
  refine wp_block (ih _ _ _ σ a w h1 h S ?_)
  intro e σ' a' w' he S'
  cases e with
  | normal=>exact hQ _ _ _ _ he S'
  | ret=>exact hQ _ _ _ _ he S'
  | exit id' =>
   simp only [Qblk] at he
   show Exit.inBlock id Q (.exit id') a' w'
   simp only [Exit.inBlock]
   split
   ·rename_i heq;subst heq;rw [show Nat.beq id' id'=true by simp] at he;exact hQ .normal _ _ _ he S'
   ·rename_i heq;rw [Qbm heq] at he;exact hQ (.exit id') _ _ _ he S'
 | loop L x ih =>
  intro c Qa Q σ a w hc h S hQ
  simp only [TCode.er] at hc
  obtain ⟨c1,rfl,h1⟩:=QeM hc
  simp only [tawp] at h
  have key:=h (fun s=>∀ a w,SatE C s.emb a w→∀ (b:Frame) (k:List Item) (cs:List Frame),∃ e a' w',Q e a' w'∧Arrives C.P (lone (b.at a (.code c1::.inLoop c1::k)) cs w) b k cs e a' w') ?_
  ·intro b k cs
   obtain ⟨e,a',w',hq,harr⟩:=key a w (gcE hL S) b k cs
   exact ⟨e,a',w',hq,.of_steps (.one step_loop) harr⟩
  ·intro s hs a w S b k cs
   have hb:=ih c1 _ (Exit.then (fun a w=>∀ (b:Frame) (k:List Item) (cs:List Frame),∃ e a' w',Q e a' w'∧Arrives C.P (lone (b.at a (.code c1::.inLoop c1::k)) cs w) b k cs e a' w') Q) s a w h1 hs S ?_
   ·obtain ⟨e,a₁,w₁,hq,harr⟩:=hb b (.inLoop c1::k) cs
    cases e with
    | normal =>
     obtain ⟨e₂,a₂,w₂,hq₂,harr₂⟩:=hq b k cs
     exact ⟨e₂,a₂,w₂,hq₂,.of_steps (Steps.trans harr (.one step_inLoop)) harr₂⟩
    | exit id=>exact ⟨_,a₁,w₁,hq,.pass (x:=.inLoop c1) rfl (fun _ _=>.inl (by simp)) harr⟩
    | goto l=>exact ⟨_,a₁,w₁,hq,.pass (x:=.inLoop c1) rfl (fun _ _=>.inl (by simp)) harr⟩
    | ret=>exact ⟨_,a₁,w₁,hq,.pass (x:=.inLoop c1) rfl (fun _ _=>.inl (by simp)) harr⟩
    | panic ch=>exact ⟨_,a₁,w₁,hq,.pass (x:=.inLoop c1) rfl (fun _ _=>.inl (by simp)) harr⟩
    | outgrown=>exact ⟨_,a₁,w₁,hq,.pass (x:=.inLoop c1) rfl (fun _ _=>.inl (by simp)) harr⟩
   ·intro e σ' a' w' he S'
    cases e with
    | normal=>exact he a' w' (gcE hL S')
    | exit id=>exact hQ _ _ _ _ he S'
    | ret=>exact hQ _ _ _ _ he S'
 | exit id =>
  intro c Qa Q σ a w hc h S hQ
  refine Yy hm hΓ c (.exit id) (fun e τ=>e = .exit id∧τ=σ.emb) Q σ.emb a w hc ⟨rfl,rfl⟩ S ?_
  rintro e τ a' w' ⟨rfl,rfl⟩ S'
  exact hQ (.exit id) σ a' w' h S'
 | ret =>
  intro c Qa Q σ a w hc h S hQ
  refine Yy hm hΓ c .ret (fun e τ=>e = .ret∧τ=σ.emb) Q σ.emb a w hc ⟨rfl,rfl⟩ S ?_
  rintro e τ a' w' ⟨rfl,rfl⟩ S'
  exact hQ .ret σ a' w' h S'
 | wk L x ih =>
  intro c Qa Q σ a w hc h S hQ
  exact ih c Qa Q _ a w hc h (gcE hL S) hQ
end
end Go.Proofs.Ytephkbajoofeoaa.Am
namespace Go.Proofs.Ytephkbajoofeoaa.Am
open Go Go.RowKit
mutual
theorem QaY:∀ (t:CT) (x y:t.den),enc t x=enc t y→x=y
 | .int k,x,y,h=>by injection h with h;injection h
 | .bool,x,y,h=>by injection h with h;injection h
 | .str,x,y,h=>by injection h with h;injection h
 | .nilp,x,y,h=>rfl
 | .sl ts,x,y,h=>by
  rw [enc,enc] at h
  injection h with _ h
  exact QaE (fun a b=>Qao ts a b) x y h
theorem Qao:∀ (ts:List CT) (x y:Tup ts),encs ts x=encs ts y→x=y
 | [],x,y,_=>rfl
 | t::ts,x,y,h=>by
  rw [encs,encs] at h
  injection h with h1 h2
  have h1:=QaY t _ _ h1
  have h2:=Qao ts _ _ h2
  cases ts with
  | nil=>exact h1
  | cons u us=>exact Prod.ext h1 h2
theorem QaE {α β:Type} {f:α→β} (hf:∀ a b,f a=f b→a=b):∀ (x y:List α),x.map f=y.map f→x=y
 | [],[],_=>rfl
 | a::x,b::y,h=>by
  rw [List.map_cons,List.map_cons] at h
  injection h with h1 h2
  rw [hf a b h1,QaE hf x y h2]
 | [],b::y,h=>by simp at h
 | a::x,[],h=>by simp at h
end
theorem Qa9:∀ {ts:List CT} {xs ys:List TV},ctL xs=some ts→ctL ys=some ts→xs.map TV.emb1=ys.map TV.emb1→xs=ys
 | ts,[],ys,h1,h2,h=>by
  cases ys with
  | nil=>rfl
  | cons y ys=>simp at h
 | ts,x::xs,ys,h1,h2,h=>by
  cases ys with
  | nil=>simp at h
  | cons y ys =>
   cases x with
   | c t x =>
    cases y with
    | c t' y =>
     simp only [ctL] at h1 h2
     split at h1
     rotate_left
     ·cases h1
     rename_i t1 e1
     split at h2
     rotate_left
     ·cases h2
     rename_i t2 e2
     cases h1
     cases h2
     rw [List.map_cons,List.map_cons] at h
     injection h with h3 h4
     rw [Qa9 e1 e2 h4]
     simp only [TV.emb1] at h3
     injection h3 with h3
     rw [QaY t x y h3]
    | _=>simp [ctL] at h2
   | _=>simp [ctL] at h1
theorem QdU {e:TypeId} {ts:List CT} {x:TV} (hx:(Sh.o e ts).fits x=true):∃ es,x = .ow e ts es:=by
 cases x with
 | ow e' ts' es =>
  simp only [Sh.fits,Bool.and_eq_true] at hx
  obtain rfl:=Nat.eq_of_beq_eq_true hx.1
  obtain rfl:=CT.beqL_eq _ _ hx.2
  exact ⟨es,rfl⟩
 | _=>simp [Sh.fits] at hx
theorem Qhm {s:Sh} {x y:TV} (hx:s.fits x=true) (hy:s.fits y=true) (h:x.emb=y.emb):x=y:=by
 cases s with
 | c t =>
  cases x with
  | c t1 x =>
   cases y with
   | c t2 y =>
    simp only [Sh.fits] at hx hy
    have h1:=CT.beq_eq _ _ hx
    have h2:=CT.beq_eq _ _ hy
    subst h1
    subst h2
    simp only [TV.emb,TV.emb2,TV.emb1] at h
    injection h with h
    rw [QaY _ x y h]
   | _=>simp [Sh.fits] at hy
  | _=>simp [Sh.fits] at hx
 | o e ts =>
  obtain ⟨xs,rfl⟩:=QdU hx
  obtain ⟨ys,rfl⟩:=QdU hy
  simp only [TV.emb,TV.emb2,TV.emb1] at h
  injection h with _ _ h
  rw [QaE (fun a b=>Qao ts a b) _ _ h]
 | a ts =>
  cases x with
  | a xs =>
   cases y with
   | a ys =>
    simp only [Sh.fits] at hx hy
    split at hx
    rotate_left
    ·cases hx
    rename_i t1 e1
    split at hy
    rotate_left
    ·cases hy
    rename_i t2 e2
    have h1:=CT.beqL_eq _ _ hx
    have h2:=CT.beqL_eq _ _ hy
    subst h1
    subst h2
    simp only [TV.emb,TV.emb2] at h
    injection h with h
    rw [Qa9 e1 e2 h]
   | _=>simp [Sh.fits] at hy
  | _=>simp [Sh.fits] at hx
 | b ts =>
  cases x with
  | bx xs =>
   cases y with
   | bx ys =>
    simp only [Sh.fits] at hx hy
    split at hx
    rotate_left
    ·cases hx
    rename_i t1 e1
    split at hy
    rotate_left
    ·cases hy
    rename_i t2 e2
    have h1:=CT.beqL_eq _ _ hx
    have h2:=CT.beqL_eq _ _ hy
    subst h1
    subst h2
    simp only [TV.emb] at h
    injection h with h
    rw [Qa9 e1 e2 h]
   | _=>simp [Sh.fits] at hy
  | _=>simp [Sh.fits] at hx
theorem Qc5:∀ {ss:List Sh} {xs ys:List TV},Qy ss xs=true→Qy ss ys=true→xs.map TV.emb=ys.map TV.emb→xs=ys
 | [],[],[],_,_,_=>rfl
 | [],_::_,_,h,_,_=>by simp [Qy] at h
 | [],[],_::_,_,h,_=>by simp [Qy] at h
 | _::_,[],_,h,_,_=>by simp [Qy] at h
 | _::_,_::_,[],_,h,_=>by simp [Qy] at h
 | s::ss,x::xs,y::ys,h1,h2,h=>by
  simp only [Qy,Bool.and_eq_true] at h1 h2
  rw [List.map_cons,List.map_cons] at h
  injection h with h3 h4
  rw [Qhm h1.1 h2.1 h3,Qc5 h1.2 h2.2 h4]
def TCon (P:Program) (f:FuncId) (xs:List TV) (r:TRes):Prop:=Con P f (xs.map TV.emb) r.emb
def QC (P:Program) (row:TRow):Prop:=∀ vs pre r,Qy row.sg vs=true→row.fn vs=some (pre,r)→holds pre→TCon P row.f vs r
def TOk (P:Program) (Γ:List TRow):Prop:=∀ row,row∈Γ→QC P row
theorem TOk.nil {P:Program}:TOk P []:=fun _ h=>by cases h
theorem TOk.cons {P:Program} {row:TRow} {Γ:List TRow} (h:QC P row) (hs:TOk P Γ):TOk P (row::Γ):=fun r hr=>by
 rcases List.mem_cons.1 hr with rfl | hr
 ·exact h
 ·exact hs r hr
theorem Qd8:∀ {Γ:List TRow} {f:FuncId} {row:TRow},Zb Γ f=some row→row∈Γ∧row.f=f
 | [],f,row,h=>by simp [Zb] at h
 | r::rs,f,row,h=>by
  simp only [Zb] at h
  cases hb:Nat.beq r.f f with
  | true =>
   rw [hb] at h
   simp only [cond_true,Option.some.injEq] at h
   subst h
   exact ⟨List.mem_cons_self,Nat.eq_of_beq_eq_true hb⟩
  | false =>
   rw [hb] at h
   have:=Qd8 (Γ:=rs) h
   exact ⟨List.mem_cons_of_mem _ this.1,this.2⟩
open Classical in
noncomputable def tabOf (Γ:List TRow):Tab:=⟨fun f=>match Zb Γ f with | some row=>mdOf row.sg | none=>[],fun f args =>
 if h:∃ r:TRes,∃ row vs pre,Zb Γ f=some row∧Qy row.sg vs=true∧row.fn vs=some (pre,r)∧holds pre∧vs.map TV.emb=args then some h.choose.emb else none⟩
theorem Qe2 (Γ:List TRow):Y0 Γ (tabOf Γ):=by
 refine ⟨fun f row h=>by simp only [tabOf,h],?_⟩
 intro f row vs pre r h1 h2 h3 h4
 have hex:∃ r:TRes,∃ row vs' pre,Zb Γ f=some row∧Qy row.sg vs'=true∧row.fn vs'=some (pre,r)∧holds pre∧vs'.map TV.emb=vs.map TV.emb:=⟨r,row,vs,pre,h1,h2,h3,h4,rfl⟩
 simp only [tabOf]
 rw [dif_pos hex]
 obtain ⟨row',vs',pre',g1,g2,g3,g4,g5⟩:=hex.choose_spec
 rw [h1] at g1
 cases g1
 have:=Qc5 g2 h2 g5
 subst this
 rw [h3] at g3
 injection g3 with g3
 injection g3 with _ g3
 rw [← g3]
theorem QhP {P:Program} {Γ:List TRow} (h:TOk P Γ):Zp P (tabOf Γ):=by
 intro f args r hr
 simp only [tabOf] at hr
 split at hr
 rotate_left
 ·cases hr
 rename_i hex
 cases hr
 obtain ⟨row,vs,pre,g1,g2,g3,g4,g5⟩:=hex.choose_spec
 obtain ⟨m1,m2⟩:=Qd8 g1
 have:=h row m1 vs pre _ g2 g3 g4
 unfold TCon at this
 rw [m2,g5] at this
 exact this
def ZF:List TV→Nat→Nat→Nat→List (Nat × TV)
 | [],_,_,_=>[]
 | .bx _::r,s,k,m=>(s,.p k 0 0)::ZF r (s+1) (k+1) m
 | .ow _ ts es::r,s,k,m=>(s,.r ts m 0 es.length)::ZF r (s+1) k (m+1)
 | x::r,s,k,m=>(s,x)::ZF r (s+1) k m
def ZK:List TV→Nat→List (Nat × TBlk)
 | [],_=>[]
 | .bx cs::r,k=>(k,.box cs)::ZK r (k+1)
 | _::r,k=>ZK r k
def ZR:List TV→Nat→List (Nat × TBlk)
 | [],_=>[]
 | .ow e ts es::r,k=>(k,.sl e ts true es)::ZR r (k+1)
 | _::r,k=>ZR r k
def tbxs:List TV→Nat
 | []=>0
 | .bx _::r=>tbxs r+1
 | _::r=>tbxs r
def tows:List TV→Nat
 | []=>0
 | .ow _ _ _::r=>tows r+1
 | _::r=>tows r
def Qw (xs:List TV):TSt:=⟨ZF xs 0 0 (tbxs xs),ZK xs 0++ZR xs (tbxs xs),tbxs xs+tows xs⟩
def TV.ng:TV→Bool
 | .g _ _=>false
 | _=>true
theorem Qcr:∀ (xs:List TV) (s k m j:Nat),xs.all TV.ng=true→(lkT (ZF xs s k m) j).emb=if s≤j then ((layS (xs.map TV.emb) k m)[j-s]?).getD .u else .u
 | [],s,k,m,j,_=>by simp [ZF,lkT,layS,TV.emb,TV.emb2,TV.emb1]
 | x::xs,s,k,m,j,hok=>by
  rw [List.all_cons,Bool.and_eq_true] at hok
  have key:∀ (y:TV) (k' m':Nat) (z:AV),y.emb=z→(lkT ((s,y)::ZF xs (s+1) k' m') j).emb=if s≤j then ((z::layS (xs.map TV.emb) k' m')[j-s]?).getD .u else .u:=by
   intro y k' m' z hz
   rw [Q5,upd]
   by_cases h:j=s
   ·subst h;simp [hz]
   ·rw [if_neg h,Qcr xs (s+1) k' m' j hok.2]
    by_cases h2:s≤j
    ·rw [if_pos h2,if_pos (by omega),show j-s=(j-(s+1))+1 by omega]
     simp
    ·rw [if_neg h2,if_neg (by omega)]
  cases x with
  | bx cs=>exact key (.p k 0 0) (k+1) m (.p k 0 0) rfl
  | ow e ts es =>
   have:=key (.r ts m 0 es.length) k (m+1) (.r ts.length m 0 (es.map (encs ts)).length) (by simp [TV.emb,TV.emb2,TV.emb1])
   exact this
  | g b v=>exact absurd hok.1 (by simp [TV.ng])
  | _=>exact key _ k m _ rfl
theorem Qaq:∀ (xs:List TV) (B:List (Nat × TBlk)) (k j:Nat),xs.all TV.ng=true→(lkB (ZK xs k++B) j).emb=if k≤j then (match (layB (xs.map TV.emb))[j-k]? with | some cs=>.box cs | none=>(lkB B j).emb) else (lkB B j).emb
 | [],B,k,j,_=>by simp [ZK,layB]
 | x::xs,B,k,j,hok=>by
  rw [List.all_cons,Bool.and_eq_true] at hok
  cases x with
  | bx cs =>
   simp only [ZK,List.cons_append,Je,upd,List.map_cons,layB,TV.emb]
   by_cases h:j=k
   ·subst h;simp [TBlk.emb]
   ·rw [if_neg h,Qaq xs B (k+1) j hok.2]
    by_cases h2:k≤j
    ·rw [if_pos h2,if_pos (by omega),show j-k=(j-(k+1))+1 by omega]
     simp
    ·rw [if_neg h2,if_neg (by omega)]
  | g b v=>exact absurd hok.1 (by simp [TV.ng])
  | _=>exact Qaq xs B k j hok.2
theorem Qag:∀ (xs:List TV) (k j:Nat),xs.all TV.ng=true→(lkB (ZR xs k) j).emb=if k≤j then ((layG (xs.map TV.emb))[j-k]?).getD .none else .none
 | [],k,j,_=>by simp [ZR,lkB,layG,TBlk.emb]
 | x::xs,k,j,hok=>by
  rw [List.all_cons,Bool.and_eq_true] at hok
  cases x with
  | ow e ts es =>
   simp only [ZR,Je,upd,List.map_cons,layG,TV.emb,TV.emb2,TV.emb1]
   by_cases h:j=k
   ·subst h;simp [TBlk.emb]
   ·rw [if_neg h,Qag xs (k+1) j hok.2]
    by_cases h2:k≤j
    ·rw [if_pos h2,if_pos (by omega),show j-k=(j-(k+1))+1 by omega]
     simp
    ·rw [if_neg h2,if_neg (by omega)]
  | g b v=>exact absurd hok.1 (by simp [TV.ng])
  | _=>exact Qag xs k j hok.2
theorem JI:∀ (xs:List TV),xs.all TV.ng=true→tows xs=(layG (xs.map TV.emb)).length
 | [],_=>rfl
 | x::xs,hok=>by
  rw [List.all_cons,Bool.and_eq_true] at hok
  cases x with
  | ow e ts es=>simp only [tows,List.map_cons,TV.emb,TV.emb2,TV.emb1,layG,List.length_cons,JI xs hok.2]
  | g b v=>exact absurd hok.1 (by simp [TV.ng])
  | _=>exact JI xs hok.2
theorem Jw:∀ (xs:List TV),xs.all TV.ng=true→tbxs xs=(layB (xs.map TV.emb)).length
 | [],_=>rfl
 | x::xs,hok=>by
  rw [List.all_cons,Bool.and_eq_true] at hok
  cases x with
  | bx cs=>simp only [tbxs,List.map_cons,TV.emb,layB,List.length_cons,Jw xs hok.2]
  | g b v=>exact absurd hok.1 (by simp [TV.ng])
  | _=>exact Jw xs hok.2
theorem QeA (xs:List TV) (hok:xs.all TV.ng=true):(Qw xs).emb=Q2 (xs.map TV.emb):=by
 have hB:=Jw xs hok
 have hG:=JI xs hok
 unfold Qw TSt.emb Q2 TSt.T TSt.H
 congr 1
 ·funext s
  rw [Qcr xs 0 0 _ s hok,hB]
  simp
 ·funext i
  show (lkB (ZK xs 0++ZR xs (tbxs xs)) i).emb=_
  rw [Qaq xs _ 0 i hok,Qag xs _ i hok,hB]
  simp only [Nat.zero_le,if_true,Nat.sub_zero]
  cases hx:(layB (xs.map TV.emb))[i]? with
  | some cs=>rfl
  | none =>
   have:(layB (xs.map TV.emb)).length≤i:=by rw [List.getElem?_eq_none_iff] at hx;exact hx
   rw [if_pos this]
 ·rw [hB,hG]
def ARv.slot:ARv→Nat
 | .t s=>s
 | .l s _ _=>s
def tget (σ:TSt):ARv→Option TV
 | .t s=>some (σ.T s)
 | .l s n agg=>match Qh [] σ.T σ.H 0 (.load (.s s) n agg) with
  | some ⟨none,v,_⟩=>some v
  | _=>none
def Yt (σ:TSt):List ARv→Option (List TV)
 | []=>some []
 | x::xs=>match tget σ x,Yt σ xs with
  | some y,some ys=>some (y::ys)
  | _,_=>none
def Zm:List TV→TV
 | [x]=>x
 | xs=>.tp xs
def TV.rn1 (ids:List Nat):TV→TV
 | .r ts id off len=>bif ids.elem id then .r ts (ids.idxOf id) off len else .u
 | .p id i j=>bif ids.elem id then .p (ids.idxOf id) i j else .u
 | .c t x=>.c t x
 | .n ts=>.n ts
 | .q ts x j=>.q ts x j
 | _=>.u
def TV.rn2 (ids:List Nat):TV→TV
 | .a cs=>.a (cs.map (TV.rn1 ids))
 | x=>x.rn1 ids
def TV.rn (ids:List Nat):TV→TV
 | .tp vs=>.tp (vs.map (TV.rn2 ids))
 | x=>x.rn2 ids
def TBlk.rn (ids:List Nat):TBlk→TBlk
 | .box cs=>.box (cs.map (TV.rn1 ids))
 | x=>x
def isCT:TV→Bool
 | .c _ _=>true
 | _=>false
def Yn (h:Nat→TBlk):Nat→Nat→Option (List (List TV))
 | 0,_=>some []
 | n+1,k=>match h k,Yn h n (k+1) with
  | .box cs,some css=>bif cs.all isCT then some (cs::css) else none
  | _,_=>none
def CT.flat:CT→Bool
 | .sl _=>false
 | _=>true
def TV.flat1:TV→Bool
 | .c t _=>t.flat
 | _=>false
def TV.flat2:TV→Bool
 | .a cs=>cs.all TV.flat1
 | x=>x.flat1
def TV.flat:TV→Bool
 | .tp vs=>vs.all TV.flat2
 | x=>x.flat2
def Z5:List Nat→List Nat→List Nat
 | [],acc=>acc
 | x::xs,acc=>bif acc.elem x then Z5 xs acc else Z5 xs (acc++[x])
def YB (h:Nat→TBlk):Nat→Nat→Option (List TBlk)
 | 0,_=>some []
 | n+1,k=>match h k,YB h n (k+1) with
  | .sl e ts m es,some css=>some (.sl e ts m es::css)
  | .dead,some css=>some (.dead::css)
  | _,_=>none
def Qam (nb no:Nat) (rs:List (ARv × Md)) (σ0:TSt):Option TRes :=
 let σ:=gc (nb+no) (rs.map fun x=>(x.1.slot,x.2)) σ0
 match Yt σ (rs.map Prod.fst) with
 | some vs=>bif vs.all TV.st then (match Yn σ.H nb 0,YB σ.H no nb with
  | some css,some gs =>
   let ids:=Z5 (vs.flatMap fun v=>v.refs++v.lent) []
   let v:=(Zm vs).rn ids
   bif Yb ids&&ids.all (Nat.ble (nb+no) ·) then some ⟨v,ids.map fun id=>(σ.H id).rn ids,css,!(v.flat&&css.isEmpty&&ids.isEmpty&&gs.isEmpty),gs⟩ else none
  | _,_=>none) else none
 | none=>none
def TQ (nb no:Nat) (rs:List (ARv × Md)) (K:TRes→Prop):Qg:=fun e σ=>match e with
 | .exit _=>False
 | _=>match Qam nb no rs σ with
  | some r=>K r
  | none=>False
theorem QeD {σ:TSt} {y:ARv} {v:TV} (h:tget σ y=some v):y.get σ.emb=some v.emb:=by
 cases y with
 | t s=>simp only [tget,Option.some.injEq] at h;subst h;rfl
 | l s n agg =>
  simp only [tget] at h
  split at h
  rotate_left
  ·cases h
  rename_i v' bl he
  cases h
  have:=Qbo (ΓA:=Ja) he trivial
  have this:Qc Ja (Opd.ev fun s=>(σ.T s).emb) (fun i=>(σ.H i).emb) 0 (.load (.s s) n agg)=some (TE.emb ⟨none,v,bl⟩):=this
  show (match Qc Ja (Opd.ev fun s=>(σ.T s).emb) (fun i=>(σ.H i).emb) 0 (.load (.s s) n agg) with | some e=>some e.val | none=>none)=_
  rw [this]
  rfl
theorem Qcl {σ:TSt}:∀ {ys:List ARv} {vs:List TV},Yt σ ys=some vs→ZM σ.emb ys=some (vs.map TV.emb)
 | [],vs,h=>by simp only [Yt,Option.some.injEq] at h;subst h;rfl
 | y::ys,vs,h=>by
  simp only [Yt] at h
  split at h
  rotate_left
  ·cases h
  rename_i a b ha hb
  cases h
  simp only [ZM,QeD ha,Qcl hb,List.map_cons]
theorem Qf8 {vs:List TV} (h:vs.all TV.st=true):QbO (vs.map TV.emb)=(Zm vs).emb:=by
 match vs,h with
 | [],_=>rfl
 | [x],_=>rfl
 | x::y::vs,h =>
  show AV.t ((x::y::vs).map TV.emb)=AV.t ((x::y::vs).map TV.emb2)
  congr 1
  exact List.map_congr_left fun a ha=>(Qd3 (List.all_eq_true.1 h a ha)).symm
theorem ZO (ids:List Nat) (x:TV):(x.rn1 ids).emb1=x.emb1.rn1 ids:=by
 cases x with
 | r ts id off len =>
  simp only [TV.rn1,TV.emb1,AV.rn1]
  by_cases h:id∈ids
  ·rw [if_pos h,show ids.elem id=true by simpa using h];rfl
  ·rw [if_neg h,show ids.elem id=false by simpa using h];rfl
 | p id i j =>
  simp only [TV.rn1,TV.emb1,AV.rn1]
  by_cases h:id∈ids
  ·rw [if_pos h,show ids.elem id=true by simpa using h];rfl
  ·rw [if_neg h,show ids.elem id=false by simpa using h];rfl
 | _=>rfl
theorem QbL (ids:List Nat) (x:TV):(x.rn1 ids).emb=(x.rn1 ids).emb1:=by
 cases x with
 | r ts id off len=>simp only [TV.rn1];cases ids.elem id <;> rfl
 | p id i j=>simp only [TV.rn1];cases ids.elem id <;> rfl
 | _=>rfl
theorem QfG (ids:List Nat) (x:TV):(x.rn2 ids).emb2=x.emb2.rn2 ids:=by
 cases x with
 | a cs=>simp only [TV.rn2,TV.emb2,AV.rn2,List.map_map];congr 2;funext y;exact ZO ids y
 | r ts id off len =>
  have:=ZO ids (.r ts id off len)
  simp only [TV.rn2]
  cases hx:(TV.r ts id off len).rn1 ids <;> (simp only [TV.rn1] at hx;cases hb:ids.elem id <;> rw [hb] at hx <;> first | cases hx | skip) <;> (rw [show TV.rn1 ids (.r ts id off len)=_ from by simp only [TV.rn1,hb];rfl] at this;first | exact this | skip)
 | p id i j =>
  have:=ZO ids (.p id i j)
  simp only [TV.rn2]
  cases hx:(TV.p id i j).rn1 ids <;> (simp only [TV.rn1] at hx;cases hb:ids.elem id <;> rw [hb] at hx <;> first | cases hx | skip) <;> (rw [show TV.rn1 ids (.p id i j)=_ from by simp only [TV.rn1,hb];rfl] at this;first | exact this | skip)
 | _=>rfl
theorem Qgu (ids:List Nat):∀ (x:TV),x.st=true∨(∃ vs,x = .tp vs)→(x.rn ids).emb=x.emb.rn ids
 | .tp vs,_=>by simp only [TV.rn,TV.emb,AV.rn,List.map_map];congr 2;funext y;exact QfG ids y
 | .a cs,_=>by simp only [TV.rn,TV.rn2,TV.emb,TV.emb2,AV.rn,AV.rn2,List.map_map];congr 2;funext y;exact ZO ids y
 | .c t x,_=>rfl
 | .n ts,_=>rfl
 | .r ts id off len,_=>(QbL ids (.r ts id off len)).trans (ZO ids (.r ts id off len))
 | .p id i j,_=>(QbL ids (.p id i j)).trans (ZO ids (.p id i j))
 | .q ts x j,_=>rfl
 | .u,h=>by rcases h with h | ⟨vs,h⟩ <;> cases h
 | .bx cs,h=>by rcases h with h | ⟨vs,h⟩ <;> cases h
 | .g b v,h=>by rcases h with h | ⟨vs,h⟩ <;> cases h
theorem Qhr (ids:List Nat) (x:TBlk):(x.rn ids).emb=x.emb.rn ids:=by
 cases x with
 | box cs=>simp only [TBlk.rn,TBlk.emb,Blk.rn,List.map_map];congr 2;funext y;exact ZO ids y
 | _=>rfl
theorem Qhx {cs:List TV} (h:cs.all isCT=true):(cs.map TV.emb1).all isC=true:=by
 rw [List.all_eq_true] at h ⊢
 intro x hx
 obtain ⟨y,hy,rfl⟩:=List.mem_map.1 hx
 have:=h y hy
 cases y <;> first | rfl | simp [isCT] at this
theorem QdX {h:Nat→TBlk}:∀ {n k:Nat} {css:List (List TV)},Yn h n k=some css→Zz (fun i=>(h i).emb) n k=some (css.map (·.map TV.emb1))
 | 0,k,css,e=>by simp only [Yn,Option.some.injEq] at e;subst e;rfl
 | n+1,k,css,e=>by
  simp only [Yn] at e
  split at e
  rotate_left
  ·cases e
  rename_i cs css' h1 h2
  obtain ⟨q,e⟩:=Qo e
  cases e
  have ih:=QdX h2
  have hk:(fun i=>(h i).emb) k = .box (cs.map TV.emb1):=by simp only [h1];rfl
  generalize (fun i=>(h i).emb)=hA at ih hk
  simp only [Zz,hk,ih,Qhx q,if_true,List.map_cons]
def AV.flat1:AV→Bool
 | .c (.v _)=>true
 | _=>false
def AV.flat2:AV→Bool
 | .a cs=>cs.all AV.flat1
 | x=>x.flat1
def AV.flat:AV→Bool
 | .t vs=>vs.all AV.flat2
 | x=>x.flat2
theorem QeY {x:TV} (h:x.flat1=true):x.emb1.flat1=true:=by
 cases x with
 | c t x=>cases t <;> first | rfl | simp [TV.flat1,CT.flat] at h
 | _=>simp [TV.flat1] at h
theorem QbQ {x:TV} (h:x.flat2=true):x.emb2.flat2=true:=by
 cases x with
 | a cs =>
  simp only [TV.flat2,List.all_eq_true] at h
  simp only [TV.emb2,AV.flat2,List.all_eq_true]
  intro y hy
  obtain ⟨z,hz,rfl⟩:=List.mem_map.1 hy
  exact QeY (h z hz)
 | c t x=>exact (by cases t <;> first | rfl | simp [TV.flat2,TV.flat1,CT.flat] at h)
 | _=>simp [TV.flat2,TV.flat1] at h
theorem Qhf {x:TV} (h:x.flat=true):x.emb.flat=true:=by
 cases x with
 | tp vs =>
  simp only [TV.flat,List.all_eq_true] at h
  simp only [TV.emb,AV.flat,List.all_eq_true]
  intro y hy
  obtain ⟨z,hz,rfl⟩:=List.mem_map.1 hy
  exact QbQ (h z hz)
 | a cs=>exact QbQ (x:=.a cs) h
 | c t x=>exact (by cases t <;> first | rfl | simp [TV.flat,TV.flat2,TV.flat1,CT.flat] at h)
 | _=>simp [TV.flat,TV.flat2,TV.flat1] at h
theorem QdP {w:World} {F F':Nat→Prop} {ι ι':Nat→Option Nat} {h h':Nat→Blk} {v:Value} {x:AV} (hx:x.flat1=true) (hv:VR w F ι h v x):VR w F' ι' h' v x:=by
 cases x with
 | c d=>cases d with
  | v y=>cases hv with
   | c v d hr=>cases hr with
    | v x h1=>exact .c _ _ (.v _ h1)
  | sl sz es=>simp [AV.flat1] at hx
 | _=>simp [AV.flat1] at hx
theorem QcX {w:World} {F F':Nat→Prop} {ι ι':Nat→Option Nat} {h h':Nat→Blk} {v:Value} {x:AV} (hx:x.flat2=true) (hv:VR w F ι h v x):VR w F' ι' h' v x:=by
 cases x with
 | a cs =>
  simp only [AV.flat2,List.all_eq_true] at hx
  cases hv with
  | a vs _ hl h1 hv=>exact .a vs cs hl h1 (fun k v x hk hxk=>QdP (hx x (List.mem_of_getElem? hxk)) (hv k v x hk hxk))
 | _=>exact QdP hx hv
theorem Qe5 {w:World} {F F':Nat→Prop} {ι ι':Nat→Option Nat} {h h':Nat→Blk} {v:Value} {x:AV} (hx:x.flat=true) (hv:VR w F ι h v x):VR w F' ι' h' v x:=by
 cases x with
 | t cs =>
  simp only [AV.flat,List.all_eq_true] at hx
  cases hv with
  | t vs _ hl hv=>exact .t vs cs hl (fun k v x hk hxk=>QcX (hx x (List.mem_of_getElem? hxk)) (hv k v x hk hxk))
 | _=>exact QcX hx hv
theorem Post.flat {w:World} {F0:Nat→Prop} {lb:List Nat} {gb:List (Option Nat × Blk)} {v:AV} {al al':Bool} {v':Value} {w':World} {ι:Nat→Option Nat} (hx:v.flat=true) (Q:Post w F0 lb gb ⟨v,[],[],al,[]⟩ v' w' ι):Post w F0 lb gb ⟨v,[],[],al',[]⟩ v' w' ι:=by
 have hgb:gb=[]:=List.eq_nil_of_length_eq_zero Q.gvl.symm
 subst hgb
 have hlb:lb=[]:=List.eq_nil_of_length_eq_zero Q.bxl.symm
 subst hlb
 exact ⟨Q.os,Q.tape,Q.output,Q.size,Q.block,Qe5 hx Q.val,fun i=>by simp only [Res.h,List.getElem?_nil,Option.getD_none];exact .none,Q.inj,fun i b hi=>by
  have:=Q.rng i b hi;simp at this,Q.live,rfl,by simp,rfl,by simp⟩
theorem JV:∀ (l acc:List Nat),acc.Nodup→(Z5 l acc).Nodup
 | [],acc,h=>h
 | x::l,acc,h=>by
  simp only [Z5]
  cases hx:acc.elem x with
  | true=>exact JV l acc h
  | false =>
   refine JV l _ ?_
   rw [List.nodup_append]
   refine ⟨h,by simp,fun a ha b hb=>?_⟩
   simp only [List.mem_singleton] at hb
   rintro rfl
   subst hb
   have:a∉acc:=by simpa using hx
   exact this ha
theorem QcP:∀ {ss:List Sh} {xs:List TV},Qy ss xs=true→xs.all TV.ng=true
 | [],[],_=>rfl
 | [],_::_,h=>by simp [Qy] at h
 | _::_,[],h=>by simp [Qy] at h
 | s::ss,x::xs,h=>by
  simp only [Qy,Bool.and_eq_true] at h
  rw [List.all_cons,QcP h.2,Bool.and_true]
  cases x with
  | g b v=>cases s <;> simp [Sh.fits] at h
  | _=>rfl
theorem JS {h:Nat→TBlk}:∀ {n k:Nat} {css:List TBlk},YB h n k=some css→Zd (fun i=>(h i).emb) n k=some (css.map TBlk.emb)
 | 0,k,css,hx=>by simp only [YB,Option.some.injEq] at hx;subst hx;rfl
 | n+1,k,css,hx=>by
  simp only [YB] at hx
  split at hx
  ·rename_i e ts m es css' h1 h2
   cases hx
   have h3:=JS h2
   simp only [Zd,h1,TBlk.emb_sl,h3,List.map_cons]
  ·rename_i css' h1 h2
   cases hx
   have h3:=JS h2
   simp only [Zd,h1,TBlk.emb_dead,h3,List.map_cons]
  ·cases hx
theorem QgS {P:Program} {Γ:List TRow} {f:FuncId} {tc:TCode} {rs:List (ARv × Md)} {n:Nat} {xs:List TV} {r:TRes} {sg:List Sh} (hm:P.follows .mixedOrders=true) (hΓ:TOk P Γ) (hs:Y8 P f=some (tc.er,rs.map Prod.fst,n))
  (hfit:Qy sg xs=true) (hN:xs.length≤n) (h:tawp Γ (tbxs xs+tows xs) tc (TQ (tbxs xs) (tows xs) rs (fun r'=>r'=r)) (Qw xs)):TCon P f xs r:=by
 have hok:=QcP hfit
 unfold Y8 at hs
 split at hs
 rotate_left
 ·cases hs
 rename_i fn hf
 split at hs
 rotate_left
 ·cases hs
 rename_i c hb
 split at hs
 rotate_left
 ·cases hs
 rename_i ac' rs' hc hrs
 simp only [Option.some.injEq,Prod.mk.injEq] at hs
 obtain ⟨rfl,rfl,rfl⟩:=hs
 intro w F0 vs lb gb hA hF
 have LA:=QbR hA
 have hlb:=LA.len
 have hnl:tbxs xs=lb.length:=(Jw xs hok).trans hlb.symm
 have hgl:tows xs=gb.length:=(JI xs hok).trans LA.gl.symm
 have hL:Kept (QP P w F0 lb gb fn.ntmps) (tbxs xs+tows xs):=by
  refine ⟨fun i b hi=>?_,fun i o hi=>?_,fun i o cs hi=>?_⟩
  ·have:=(List.getElem?_eq_some_iff.1 (show lb[i]? = some b from hi)).1
   omega
  ·simp only [QP] at hi
   split at hi
   ·cases hi
   ·have:=(List.getElem?_eq_some_iff.1 hi).1
    omega
  ·simp only [QP] at hi
   split at hi
   ·cases hi
   ·obtain ⟨_,⟨e,sz,es,q⟩,_⟩:=LA.gget _ _ _ hi
    cases q
 refine calls_of_wp hf hb ?_
 refine Qgb (C:=QP P w F0 lb gb fn.ntmps) (nl:=tbxs xs+tows xs) hm (Qe2 Γ) (QhP hΓ) hL tc c _ _ (Qw xs) _ _ hc h ?_ ?_
 ·rw [QeA xs hok]
  exact Qf3 hA hF (by simpa using hN)
 ·intro e σ0 a w' hK S
  have hK:(match Qam (tbxs xs) (tows xs) rs σ0 with | some r'=>r'=r | none=>False)∧∀ id,e≠.exit id:=by
   cases e with
   | exit id=>exact hK.elim
   | normal=>exact ⟨hK,by simp⟩
   | ret=>exact ⟨hK,by simp⟩
  obtain ⟨hK,he⟩:=hK
  split at hK
  rotate_left
  ·exact hK.elim
  rename_i r' hr
  subst hK
  unfold Qam at hr
  simp only at hr
  split at hr
  rotate_left
  ·cases hr
  rename_i vals hvals
  obtain ⟨q1,hr⟩:=Qo hr
  split at hr
  rotate_left
  ·cases hr
  rename_i css gs hcss hgs
  obtain ⟨q2,hr⟩:=Qo hr
  simp only [Bool.and_eq_true] at q2
  cases hr
  have S':=gcE (L:=rs.map fun x=>(x.1.slot,x.2)) hL S
  generalize hσ:gc (tbxs xs+tows xs) (rs.map fun x=>(x.1.slot,x.2)) σ0=σ at *
  obtain ⟨ι,S'⟩:=S'
  have h1:=Qcl hvals
  obtain ⟨u,h5,h6⟩:=QfH S' hrs h1
  rw [Qf8 q1] at h6
  have hids:=JV (vals.flatMap fun v=>v.refs++v.lent) [] List.nodup_nil
  generalize Z5 (vals.flatMap fun v=>v.refs++v.lent) []=ids at *
  have hge:∀ id,id∈ids→tbxs xs+tows xs≤id:=fun id hid=>Nat.le_of_ble_eq_true (List.all_eq_true.1 q2.2 id hid)
  have hexp:Jr (tbxs xs) (tows xs) ids σ.emb (Zm vals).emb=some ⟨((Zm vals).rn ids).emb,(ids.map fun id=>(σ.H id).rn ids).map TBlk.emb,css.map (·.map TV.emb1),true,gs.map TBlk.emb⟩:=by
   unfold Jr
   have h2:=QdX hcss
   have h2:Zz σ.emb.h (tbxs xs) 0=some (css.map (·.map TV.emb1)):=h2
   have h3:=JS hgs
   have h3:Zd σ.emb.h (tows xs) (tbxs xs)=some (gs.map TBlk.emb):=h3
   rw [h2,h3]
   simp only
   congr 2
   ·rw [Qgu]
    match vals,q1 with
    | [],_=>exact .inr ⟨[],rfl⟩
    | [x],q1=>left;rw [List.all_cons,List.all_nil,Bool.and_true] at q1;exact q1
    | x::y::l,_=>exact .inr ⟨_,rfl⟩
   ·rw [List.map_map]
    congr 1
    funext id
    exact (Qhr ids _).symm
  have post:=Qfn hnl hgl S' hids hge hexp h6
  have post2:Post w F0 lb gb (TRes.emb ⟨(Zm vals).rn ids,ids.map fun id=>(σ.H id).rn ids,css,!(((Zm vals).rn ids).flat&&css.isEmpty&&ids.isEmpty&&gs.isEmpty),gs⟩) u w' (fun i=>(ids[i]?).bind ι):=by
   unfold TRes.emb
   simp only
   cases hal:((Zm vals).rn ids).flat&&css.isEmpty&&ids.isEmpty&&gs.isEmpty with
   | false=>exact post
   | true =>
    simp only [Bool.and_eq_true,List.isEmpty_iff] at hal
    obtain ⟨⟨⟨e1,e2⟩,e3⟩,e4⟩:=hal
    subst e2
    subst e3
    subst e4
    exact Post.flat (Qhf e1) post
  have key:a.defers=[]∧∃ v,(results fn a.tmps).run P w' = .ok v w'∧∃ v1 ι,Ending.returned v = .returned v1∧Post w F0 lb gb (TRes.emb ⟨(Zm vals).rn ids,ids.map fun id=>(σ.H id).rn ids,css,!(((Zm vals).rn ids).flat&&css.isEmpty&&ids.isEmpty&&gs.isEmpty),gs⟩) v1 w' ι :=
   ⟨S'.defers,u,h5,u,_,rfl,post2⟩
  cases e with
  | normal=>exact key
  | ret=>exact key
  | exit id=>exact absurd rfl (he id)
mutual
def CT.bd:(t:CT)→t.den→Prop
 | .int _,_=>True
 | .bool,_=>True
 | .str,_=>True
 | .nilp,_=>True
 | .sl ts,l=>List.length l≤maxLen∧∀ x:Tup ts,x∈(l:List (Tup ts))→Tup.bd ts x
def Tup.bd:(ts:List CT)→Tup ts→Prop
 | [],_=>True
 | t::ts,x=>t.bd (hd ts x)∧Tup.bd ts (tl ts x)
end
def TV.bd1:TV→Prop
 | .c t x=>t.bd x
 | _=>True
def TV.bdL:List TV→Prop
 | []=>True
 | x::xs=>x.bd1∧TV.bdL xs
def TV.bd:TV→Prop
 | .a cs=>TV.bdL cs
 | .bx cs=>TV.bdL cs
 | .ow _ ts es=>List.length es≤maxLen∧∀ x:Tup ts,x∈es→Tup.bd ts x
 | x=>x.bd1
def Qal:List TV→Prop
 | []=>True
 | x::xs=>x.bd∧Qal xs
mutual
theorem Qch {w:World} {F:Nat→Prop}:∀ (t:CT) (x:t.den) (v:Value),Rd w F v (enc t x)→t.bd x
 | .int _,_,_,_=>by rw [CT.bd];trivial
 | .bool,_,_,_=>by rw [CT.bd];trivial
 | .str,_,_,_=>by rw [CT.bd];trivial
 | .nilp,_,_,_=>by rw [CT.bd];trivial
 | .sl ts,l,v,h=>by
  rw [enc] at h
  rw [CT.bd]
  generalize hes:List.map (encs ts) l=es at h
  have hl:List.length l=es.length:=by rw [← hes,List.length_map]
  generalize hsz:ts.length=sz at h
  cases h with
  | nil =>
   have:l=[]:=by simpa using hes
   subst this
   exact ⟨Nat.zero_le _,fun x hx=>by cases hx⟩
  | emp =>
   have:l=[]:=by simpa using hes
   subst this
   exact ⟨Nat.zero_le _,fun x hx=>by cases hx⟩
  | sl b o len cap _ _ xv hlen hcap hml hszs hb hc hr =>
   refine ⟨by rw [hl,hlen];exact hml,fun x hx=>?_⟩
   obtain ⟨i,hi⟩:=List.getElem?_of_mem hx
   have he:es[i]? = some (encs ts x):=by rw [← hes,List.getElem?_map,hi];rfl
   exact Qat ts x (fun j d hj=>⟨_,hr i j _ d he hj⟩)
theorem Qat {w:World} {F:Nat→Prop}:∀ (ts:List CT) (x:Tup ts),(∀ (j:Nat) (d:D),(encs ts x)[j]? = some d→∃ v,Rd w F v d)→Tup.bd ts x
 | [],_,_=>by rw [Tup.bd];trivial
 | t::ts,x,h=>by
  rw [encs] at h
  rw [Tup.bd]
  obtain ⟨v,hv⟩:=h 0 _ rfl
  exact ⟨Qch t _ v hv,Qat ts _ (fun j d hj=>h (j+1) d (by simpa using hj))⟩
end
theorem Qbh {w:World} {F:Nat→Prop} {ι:Nat→Option Nat} {h:Nat→Blk} {v:Value}:∀ {x:TV},VR w F ι h v x.emb1→x.bd1
 | .c t x,hv=>by cases hv with | c v d hr=>exact Qch t x v hr
 | .u,_=>trivial
 | .n _,_=>trivial
 | .r ..,_=>trivial
 | .p ..,_=>trivial
 | .q ..,_=>trivial
 | .a _,_=>trivial
 | .tp _,_=>trivial
 | .bx _,_=>trivial
 | .g ..,_=>trivial
theorem J8:∀ {cs:List TV},(∀ (k:Nat) (x:TV),cs[k]? = some x→x.bd1)→TV.bdL cs
 | [],_=>trivial
 | x::xs,h=>⟨h 0 x rfl,J8 fun k y hy=>h (k+1) y (by simpa using hy)⟩
theorem YU {w:World} {F:Nat→Prop}:∀ {xs:List TV} {vs:List Value} {lb:List Nat} {gb:List (Option Nat × Blk)},Args w F vs (xs.map TV.emb) lb gb→xs.all TV.ng=true→Qal xs
 | [],vs,lb,gb,_,_=>trivial
 | x::xs,vs,lb,gb,hA,hok=>by
  rw [List.all_cons,Bool.and_eq_true] at hok
  rw [List.map_cons] at hA
  generalize hy:x.emb=y at hA
  generalize hys:xs.map TV.emb=ys at hA
  cases hA with
  | dat v _ vs _ lb gb hv hr hx =>
   subst hys
   refine ⟨?_,YU hr hok.2⟩
   cases x with
   | a cs =>
    subst hy
    cases hv with
    | a va _ hl h1 hv =>
     refine J8 fun k z hz=>?_
     have hlt:k<va.size:=by rw [hl,List.length_map];exact (List.getElem?_eq_some_iff.1 hz).1
     exact Qbh (hv k va[k] z.emb1 (by simp [hlt]) (by rw [List.getElem?_map,hz];rfl))
   | bx cs=>subst hy;simp [TV.emb,AV.dat] at hx
   | ow e ts es=>subst hy;simp [TV.emb,TV.emb2,TV.emb1,AV.dat] at hx
   | g b v=>exact absurd hok.1 (by simp [TV.ng])
   | c t z=>subst hy;exact Qbh (x:=.c t z) hv
   | _=>trivial
  | own v o e sz es vs _ lb gb hv hn hr =>
   subst hys
   refine ⟨?_,YU hr hok.2⟩
   cases x with
   | ow e' ts es' =>
    simp only [TV.emb,TV.emb2,TV.emb1] at hy
    injection hy with q1 q2 q3
    subst q1;subst q2
    have hbr:=hv.br
    cases hbr with
    | slnil =>
     have:es'=[]:=by simpa using q3
     subst this
     exact ⟨Nat.zero_le _,fun x hx=>by cases hx⟩
    | sl bk _ _ _ _ cur Cc hz hi hb hC hle hC2 hsz hvv =>
     refine ⟨by rw [← q3,List.length_map] at hle;omega,fun x hx=>?_⟩
     obtain ⟨i,hi'⟩:=List.getElem?_of_mem hx
     have he:es[i]? = some (encs ts x):=by rw [← q3,List.getElem?_map,hi'];rfl
     exact Qat ts x (fun j d hj=>let ⟨v,_,h2⟩:=hvv i j _ d he hj;⟨v,h2⟩)
   | g b v=>exact absurd hok.1 (by simp [TV.ng])
   | a cs=>simp only [TV.emb,TV.emb2] at hy;cases hy
   | bx cs=>simp only [TV.emb] at hy;cases hy
   | _=>trivial
  | box b e vals cs vs _ lb gb hb hd hc hn hg hr =>
   subst hys
   refine ⟨?_,YU hr hok.2⟩
   cases x with
   | bx ds =>
    simp only [TV.emb] at hy
    injection hy with hy
    subst hy
    refine J8 fun k z hz=>?_
    have hlt:k<vals.size:=by rw [hd.size,List.length_map];exact (List.getElem?_eq_some_iff.1 hz).1
    exact Qbh (hd.vr k vals[k] z.emb1 (by simp [hlt]) (by rw [List.getElem?_map,hz];rfl))
   | g b v=>exact absurd hok.1 (by simp [TV.ng])
   | a cs=>simp only [TV.emb,TV.emb2] at hy;cases hy
   | ow e ts es=>simp only [TV.emb,TV.emb2,TV.emb1] at hy;cases hy
   | _=>trivial
theorem QI {P:Program} {f:FuncId} {xs:List TV} {r:TRes} (hok:xs.all TV.ng=true) (h:Qal xs→TCon P f xs r):TCon P f xs r :=
 fun w F0 vs lb gb hA hF=>h (YU hA hok) w F0 vs lb gb hA hF
end Go.Proofs.Ytephkbajoofeoaa.Am

