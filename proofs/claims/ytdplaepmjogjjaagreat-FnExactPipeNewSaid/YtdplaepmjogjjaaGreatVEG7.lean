/- -/
import Derived.Test.YtdplaepmjogjjaaGreatVEG6
import Derived.Carry
import Derived.Deep.Slices
import Derived.ChangeArms
import Derived.ProofKit
import Derived.OpenShut
set_option linter.all false
namespace Go.Proofs.YtdplaepmjogjjaaGreat.Am
open Go Sz
theorem Qko (x:Int):w64 x=if x % 18446744073709551616≥9223372036854775808 then x % 18446744073709551616-18446744073709551616 else x % 18446744073709551616:=by
 show IntKind.i64.wrap x=_
 simp [IntKind.wrap,IntKind.bits,IntKind.signed]
theorem Qft (a b:Int):w64 (w64 a+b)=w64 (a+b):=by
 rw [Qko (w64 a+b),Qko (a+b),Qko a];split <;> split <;> split <;> omega
theorem Qp1 (a:Int):w64 (w64 a)=w64 a:=by have:=Qft a 0;simpa using this
theorem Qxp:w64 0=0:=rfl
theorem QiN {a b:Int} (h1:1≤a) (h2:a≤6) (h3:1≤b) (h4:b≤6):1≤a*b∧a*b≤36:=by
 have:a=1∨a=2∨a=3∨a=4∨a=5∨a=6:=by omega
 rcases this with rfl | rfl | rfl | rfl | rfl | rfl <;> omega
theorem Q6 {x a b:Int}:m_in x a b=true↔a≤x∧x≤b:=by simp [m_in]
theorem QbV {n:Nat} (h1:1≤n) (h2:n≤9223372036854775807):Int.toNat (w64 ((n:Int)-1))=n-1∧(0:Int)≤w64 ((n:Int)-1):=by
 rw [Qx (by omega) (by omega)];omega
theorem Y5 {m:QN} (h:QB m=true):1≤m.length∧m.length≤8:=by
 simp only [QB,Bool.and_eq_true,Q6] at h;omega
def YO (m:QN) (k:Nat):Option Int:=if k=0 then none else some (gtd dOp m (k-1)).2.2.1
def YN (l:List Int) (k:Nat):Option Int:=if k=0 then none else some (gtd 0 l (k-1))
theorem Qg4 {o:TOp'} (h:Q2 o=true):1≤o.2.1∧o.2.1≤6∧1≤o.2.2.1∧o.2.2.1≤6:=by
 simp only [Q2,Bool.and_eq_true,Q6] at h;omega
theorem QaX {α:Type} {l:List α} {i:Nat} (h:i<l.length) (d:α):l[i]? = some (gtd d l i):=by
 unfold gtd;rw [List.getD_eq_getElem?_getD,List.getElem?_eq_getElem h];rfl
theorem Qf6 {n:Int}:∀ {l:List Int} {p:Option Int},Zx n p l=true→∀ (i:Nat) (x:Int),l[i]? = some x→1≤x∧x≤n∧p.getD 0+i+1≤x
 | [],p,h,i,x,hx=>by simp at hx
 | c::r,p,h,i,x,hx=>by
  simp only [Zx,Bool.and_eq_true,Q6] at h
  have hp:p.getD 0<c:=by
   cases p with
   | none=>simp;omega
   | some q=>simpa using h.1.2
  cases i with
  | zero=>simp at hx;subst hx;simp;omega
  | succ i =>
   have:=Qf6 h.2 i x (by simpa using hx)
   simp at this ⊢;omega
theorem QmD {n:Int}:∀ {l:List Int} {p:Option Int},Zx n p l=true→∀ (i:Nat) (x y:Int),l[i]? = some x→l[i+1]? = some y→x<y
 | [],p,h,i,x,y,hx,hy=>by simp at hx
 | c::r,p,h,i,x,y,hx,hy=>by
  simp only [Zx,Bool.and_eq_true] at h
  cases i with
  | zero =>
   simp at hx;subst hx
   have:=(Qf6 h.2 0 y (by simpa using hy)).2.2
   simp at this;omega
  | succ i=>exact QmD h.2 i x y (by simpa using hx) (by simpa using hy)
theorem QbS {m:QN} {cuts:List Int} (h:QE m cuts=true):1≤m.length∧m.length≤8∧cuts.length<m.length:=by
 simp only [QE,Bool.and_eq_true] at h
 have hm:=Y5 h.1
 refine ⟨hm.1,hm.2,?_⟩
 cases hc:cuts.length with
 | zero=>omega
 | succ k =>
  have:=Qf6 h.2 k (gtd 0 cuts k) (QaX (by omega) 0)
  simp at this;omega
theorem QaW (m:QN) (cuts:List Int) (s:Int):0≤(Qo m cuts s).1∧(Qo m cuts s).1≤(Qo m cuts s).2∧(Qo m cuts s).2≤m.length ∧
  ((Qo m cuts s).1<(Qo m cuts s).2↔QE m cuts=true∧0≤s∧s≤cuts.length):=by
 unfold Qo
 by_cases h:(QE m cuts&&m_in s 0 cuts.length)=true
 ·rw [if_pos h]
  simp only [Bool.and_eq_true,Q6] at h
  have hl:=QbS h.1
  have hc:Zx (m.length-1) none cuts=true:=by have:=h.1;simp only [QE,Bool.and_eq_true] at this;exact this.2
  have h1:∀ k:Nat,k<cuts.length→1≤gtd 0 cuts k∧gtd 0 cuts k≤(m.length:Int)-1:=fun k hk=>by
   have:=Qf6 hc k _ (QaX hk 0);omega
  have h2:∀ k:Nat,k+1<cuts.length→gtd 0 cuts k<gtd 0 cuts (k+1):=fun k hk=>QmD hc k _ _ (QaX (by omega) 0) (QaX hk 0)
  by_cases ha:0<s
  ·have h3:=h1 (s.toNat-1) (by omega)
   by_cases hb:s<cuts.length
   ·have h4:=h1 s.toNat (by omega)
    have h5:=h2 (s.toNat-1) (by omega)
    rw [show s.toNat-1+1=s.toNat by omega] at h5
    simp only [if_pos ha,if_pos hb]
    exact ⟨by omega,by omega,by omega,fun _=>⟨h.1,h.2⟩,fun _=>by omega⟩
   ·simp only [if_pos ha,if_neg hb]
    exact ⟨by omega,by omega,by omega,fun _=>⟨h.1,h.2⟩,fun _=>by omega⟩
  ·by_cases hb:s<cuts.length
   ·have h4:=h1 s.toNat (by omega)
    simp only [if_neg ha,if_pos hb]
    exact ⟨by omega,by omega,by omega,fun _=>⟨h.1,h.2⟩,fun _=>by omega⟩
   ·simp only [if_neg ha,if_neg hb]
    exact ⟨by omega,by omega,by omega,fun _=>⟨h.1,h.2⟩,fun _=>by omega⟩
 ·rw [if_neg h]
  refine ⟨by simp,by simp,by simp,fun h'=>by simp at h',fun h'=>?_⟩
  exact absurd (by simp only [Bool.and_eq_true,Q6];exact h') h
theorem Qeb:∀ {l:List TOp'} {p:Option Int},ZO p l=true→∀ (i:Nat) (x:TOp'),l[i]? = some x→Q2 x=true∧(∀ y:TOp',l[i+1]? = some y→y.2.1=x.2.2.1)
 | [],p,h,i,x,hx=>by simp at hx
 | o::r,p,h,i,x,hx=>by
  simp only [ZO,Bool.and_eq_true] at h
  cases i with
  | zero =>
   simp at hx;subst hx
   refine ⟨h.1.1,fun y hy=>?_⟩
   cases r with
   | nil=>simp at hy
   | cons q r =>
    simp at hy;subst hy
    have:=h.2
    simp only [ZO,Bool.and_eq_true] at this
    have:=this.1.2
    simp at this;omega
  | succ i =>
   have:=Qeb h.2 i x (by simpa using hx)
   exact ⟨this.1,fun y hy=>this.2 y (by simpa using hy)⟩
theorem QmO {α:Type} (l:List α) (a b:Int) (h0:0≤a) (h1:a≤b) (h2:b≤l.length) (P:List α→Nat→Prop) (he:P [] b.toNat)
  (hs:∀ (k:Nat) (x:α) (r:List α),a≤k→(k:Int)<b→k<l.length→(∀ d,gtd d l k=x)→P r (k+1)→P (x::r) k):P (slice l a b) a.toNat:=by
 suffices ∀ (n k:Nat),k+n=b.toNat→a.toNat≤k→P ((l.drop k).take n) k from this (b.toNat-a.toNat) a.toNat (by omega) (Nat.le_refl _)
 intro n
 induction n with
 | zero=>intro k hk _;rw [List.take_zero,show k=b.toNat by omega];exact he
 | succ n ih =>
  intro k hk hak
  have hlt:k<l.length:=by omega
  obtain ⟨x,r,hx⟩:∃ x r,l.drop k=x::r:=by
   cases hx:l.drop k with
   | nil=>have:=congrArg List.length hx;simp at this;omega
   | cons x r=>exact ⟨x,r,rfl⟩
  rw [hx,List.take_succ_cons]
  have:=ih (k+1) (by omega) (by omega)
  rw [Qix hx] at this
  exact hs k x _ (by omega) (by omega) hlt (Qiq hx) this
theorem QbR {c:Qf}:0≤Qs c∧Qs c≤8∧(Qs c≠0↔QE c.1 c.2.1=true)∧(QE c.1 c.2.1=true→Qs c=c.2.1.length+1):=by
 unfold Qs
 by_cases h:QE c.1 c.2.1=true
 ·have:=QbS h
  rw [if_pos h,Qx (by omega) (by omega)]
  exact ⟨by omega,by omega,⟨fun _=>h,fun _=>by omega⟩,fun _=>rfl⟩
 ·rw [if_neg h]
  exact ⟨by omega,by omega,⟨fun h0=>absurd rfl h0,fun h1=>absurd h1 h⟩,fun h1=>absurd h1 h⟩
end Go.Proofs.YtdplaepmjogjjaaGreat.Am
namespace Go.Proofs.YtdplaepmjogjjaaGreat.Am
open Go Go.RowKit Go.ChangeShapes Go.WideShapes Go.ChangeAt
def Qck (L:TypeId→Option (List CT)) (P:Program):List Field→Nat→Option (List CT)
 | [],_=>some []
 | f::fs,off=>match L f.type,Qck L P fs (off+P.cellsOf f.type) with
  | some ts,some us=>bif Nat.beq f.offset off&&Nat.beq (P.cellsOf f.type) ts.length then some (ts++us) else none
  | _,_=>none
def lay (P:Program):Nat→TypeId→Option (List CT)
 | 0,_=>none
 | k+1,t=>match P.underlying t with
  | some .bool=>some [.bool]
  | some (.int q)=>some [.int q]
  | some .string=>some [.str]
  | some (.slice e)=>match lay P k e with
   | some ts=>bif Nat.beq (P.cellsOf e) ts.length&&Nat.blt 0 ts.length then some [.sl ts] else none
   | none=>none
  | some (.struct fs)=>match Qck (lay P k) P fs.toList 0 with
   | some ts=>bif Nat.beq (P.cellsOf t) ts.length then some ts else none
   | none=>none
  | _=>none
mutual
def CT.wf:(t:CT)→t.den→Prop
 | .int k,x=>k.min≤(x:Int)∧(x:Int)≤k.max
 | .bool,_=>True
 | .str,_=>True
 | .nilp,_=>True
 | .sl ts,l=>∀ x:Tup ts,x∈(l:List (Tup ts))→Tup.wf ts x
def Tup.wf:(ts:List CT)→Tup ts→Prop
 | [],_=>True
 | t::ts,x=>t.wf (hd ts x)∧Tup.wf ts (tl ts x)
end
def Sh.wf:(s:Sh)→s.den→Prop
 | .c t,x=>t.wf x
 | .a ts,x=>Tup.wf ts x
 | .b ts,x=>Tup.wf ts x
 | .o _ _,_=>False
 | .d _,_=>False
 | .s _,_=>False
def wfL:(ss:List Sh)→DenL ss→Prop
 | [],_=>True
 | s::ss,x=>s.wf x.1∧wfL ss x.2
def Tup.app:(ts:List CT)→{us:List CT}→Tup ts→Tup us→Tup (ts++us)
 | [],_,_,y=>y
 | t::ts,us,x,y=>mkT (ts++us) (hd ts x) (Tup.app ts (tl ts x) y)
theorem QlJ:∀ (ts:List CT) {us:List CT} (x:Tup ts) (y:Tup us),encs (ts++us) (Tup.app ts x y)=encs ts x++encs us y
 | [],us,x,y=>by simp [encs,Tup.app]
 | t::ts,us,x,y=>by
  show encs (t::(ts++us)) (mkT (ts++us) (hd ts x) (Tup.app ts (tl ts x) y))=_
  rw [encs,encs,Qcd,Qc8,QlJ ts]
  rfl
theorem Qpo:∀ (ts:List CT) {us:List CT} {x:Tup ts} {y:Tup us},Tup.wf ts x→Tup.wf us y→Tup.wf (ts++us) (Tup.app ts x y)
 | [],us,x,y,_,hy=>hy
 | t::ts,us,x,y,hx,hy=>by
  rw [Tup.wf] at hx
  show Tup.wf (t::(ts++us)) (mkT (ts++us) (hd ts x) (Tup.app ts (tl ts x) y))
  rw [Tup.wf,Qcd,Qc8]
  exact ⟨hx.1,Qpo ts hx.2 hy⟩
theorem Y2:∀ (ts:List CT) (x:Tup ts),(encs ts x).length=ts.length
 | [],x=>by simp [encs]
 | t::ts,x=>by rw [encs,List.length_cons,Y2 ts,List.length_cons]
section
variable {H:Type} {enc:TypeId × Value→H} {P:Program} {w:World} {held:Bool}
def Old (w:World) (b:Nat):Prop:=b<w.heap.size
theorem Qz0 {k:IntKind} {n:Int} (h:(Lit.int k n).wf=true):k.min≤n∧n≤k.max:=by
 simpa [Lit.wf] using h
theorem QIC {a:Addr} {v:Value} (h:w.cell? a=some v):a.block<w.heap.size∧a.spot=none:=by
 unfold World.cell? at h
 split at h
 ·rename_i hb
  have:=(Array.getElem?_eq_some_iff.1 hb).1
  refine ⟨this,?_⟩
  split at h
  ·cases h
  ·rename_i hs;simpa using hs
 ·cases h
theorem QpU {k n:Nat} (ih:∀ t cs d ps ts,DataW.trod enc P w 0 (fun _=>true) held n t cs=some (d,ps)→lay P k t=some ts→cs.length=ts.length∧∃ x:Tup ts,Tup.wf ts x∧∀ (j:Nat) (v:Value) (d':D),cs[j]? = some v→(encs ts x)[j]? = some d'→Rd w (Old w) v d') {cs:List Value} :
  ∀ (fl:List Field) (off:Nat) (ts:List CT),Qck (lay P k) P fl off=some ts→(∀ f,f∈fl→∃ y,DataW.trod enc P w 0 (fun _=>true) held n f.type ((cs.drop f.offset).take (P.cellsOf f.type))=some y) →
   ∃ x:Tup ts,Tup.wf ts x∧∀ (j:Nat) (v:Value) (d':D),cs[off+j]? = some v→(encs ts x)[j]? = some d'→Rd w (Old w) v d'
 | [],off,ts,h,_=>by
  simp only [Qck,Option.some.injEq] at h
  subst h
  exact ⟨(),by rw [Tup.wf];trivial,fun j v d' _ hd=>by simp [encs] at hd⟩
 | f::fl,off,ts,h,hy=>by
  simp only [Qck] at h
  split at h
  rotate_left
  ·cases h
  rename_i ts1 us h1 h2
  obtain ⟨hb,h⟩:=Qz h
  cases h
  simp only [Bool.and_eq_true] at hb
  have e1:=Nat.eq_of_beq_eq_true hb.1
  have e2:=Nat.eq_of_beq_eq_true hb.2
  obtain ⟨⟨d,ps⟩,hyf⟩:=hy f List.mem_cons_self
  obtain ⟨hl,x,hxw,hx⟩:=ih _ _ _ _ _ hyf h1
  obtain ⟨y,hyw,hyy⟩:=QpU ih fl _ _ h2 (fun g hg=>hy g (List.mem_cons_of_mem _ hg))
  refine ⟨Tup.app ts1 x y,Qpo ts1 hxw hyw,fun j v d' hv hd=>?_⟩
  rw [QlJ] at hd
  by_cases hj:j<ts1.length
  ·rw [List.getElem?_append_left (by rw [Y2];exact hj)] at hd
   refine hx j v d' ?_ hd
   rw [List.getElem?_take,if_pos (by omega),List.getElem?_drop,e1]
   exact hv
  ·rw [List.getElem?_append_right (by rw [Y2];omega),Y2] at hd
   refine hyy (j-ts1.length) v d' ?_ hd
   rw [show off+P.cellsOf f.type+(j-ts1.length)=off+j by omega]
   exact hv
theorem Qev:∀ (k n:Nat) (t:TypeId) (cs:List Value) (d:DataW H) (ps:List MemPlace) (ts:List CT),DataW.trod enc P w 0 (fun _=>true) held n t cs=some (d,ps)→lay P k t=some ts →
  cs.length=ts.length∧∃ x:Tup ts,Tup.wf ts x∧∀ (j:Nat) (v:Value) (d':D),cs[j]? = some v→(encs ts x)[j]? = some d'→Rd w (Old w) v d'
 | 0,n,t,cs,d,ps,ts,_,hl=>by simp [lay] at hl
 | k+1,n,t,cs,d,ps,ts,h,hl=>by
  simp only [lay] at hl
  split at hl
  ·rename_i ht
   cases hl
   obtain ⟨b,rfl,_⟩:=DataW.trod_bool ht h
   refine ⟨rfl,b,by simp [Tup.wf,CT.wf],fun j v d' hv hd=>?_⟩
   cases j with
   | zero=>simp [encs,Am.enc] at hv hd;subst hv;subst hd;exact .v _ rfl
   | succ j=>simp at hv
  ·rename_i q ht
   cases hl
   obtain ⟨b,rfl,_,hwf⟩:=DataW.trod_int ht h
   refine ⟨rfl,b,⟨Qz0 hwf,trivial⟩,fun j v d' hv hd=>?_⟩
   cases j with
   | zero=>simp [encs,Am.enc] at hv hd;subst hv;subst hd;exact .v _ rfl
   | succ j=>simp at hv
  ·rename_i ht
   cases hl
   obtain ⟨b,rfl,_⟩:=DataW.trod_string ht h
   refine ⟨rfl,b,by simp [Tup.wf,CT.wf],fun j v d' hv hd=>?_⟩
   cases j with
   | zero=>simp [encs,Am.enc] at hv hd;subst hv;subst hd;exact .v _ rfl
   | succ j=>simp at hv
  ·rename_i e ht
   split at hl
   rotate_left
   ·cases hl
   rename_i ts he
   obtain ⟨hb,hl⟩:=Qz hl
   cases hl
   simp only [Bool.and_eq_true] at hb
   have e1:=Nat.eq_of_beq_eq_true hb.1
   have e2:0<ts.length:=Nat.le_of_ble_eq_true hb.2
   rcases Deep.open_slice ht h with ⟨rfl,_⟩ | ⟨a,len,cap,m,n',dd,pl,rfl,_,hlc,hcm,hm,_,hx⟩
   ·refine ⟨rfl,([]:List (Tup ts)),⟨(fun x hx=>by cases hx),trivial⟩,fun j v d' hv hd=>?_⟩
    cases j with
    | zero=>simp [encs,Am.enc,Am.hd] at hv hd;subst hv;subst hd;exact .nil _
    | succ j=>simp at hv
   ·simp only [if_true] at hm
    subst hm
    have hx':∀ i,i<len→∃ x:Tup ts,Tup.wf ts x∧∀ (j:Nat) (d':D),(encs ts x)[j]? = some d'→∃ v,w.cell? ((a.add (i*ts.length)).add j)=some v∧Rd w (Old w) v d':=by
     intro i hi
     obtain ⟨cs',h1,h2⟩:=hx i (by omega)
     obtain ⟨hl,x,hxw,hxx⟩:=Qev k _ _ _ _ _ _ h2 he
     refine ⟨x,hxw,fun j d' hd=>?_⟩
     have hj:j<ts.length:=by have:=(List.getElem?_eq_some_iff.1 hd).1;rwa [Y2] at this
     obtain ⟨_,_,hc⟩:=World.cells?_some h1
     rw [e1] at hc
     refine ⟨cs'[j]'(by omega),?_,hxx j _ d' (List.getElem?_eq_getElem _) hd⟩
     rw [hc j hj]
     exact List.getElem?_eq_getElem _
    by_cases hlen:len=0
    ·subst hlen
     refine ⟨rfl,([]:List (Tup ts)),⟨(fun x hx=>by cases hx),trivial⟩,fun j v d' hv hd=>?_⟩
     cases j with
     | zero=>simp [encs,Am.enc,Am.hd] at hv hd;subst hv;subst hd;exact .emp _ _ _
     | succ j=>simp at hv
    ·have hz:∃ v,w.cell? a=some v:=by
      obtain ⟨x,_,hxx⟩:=hx' 0 (by omega)
      have h0:0<(encs ts x).length:=by rw [Y2];exact e2
      obtain ⟨v,hv,_⟩:=hxx 0 _ (List.getElem?_eq_getElem h0)
      simp [Addr.add] at hv
      exact ⟨v,hv⟩
     obtain ⟨v0,hv0⟩:=hz
     obtain ⟨hlt,hsp⟩:=QIC hv0
     obtain ⟨b,o,sp⟩:=a
     simp only at hsp hlt
     subst hsp
     have:Inhabited (Tup ts):=⟨Tup.dft ts⟩
     obtain ⟨f,hf⟩:=Deep.choose_lt hx'
     refine ⟨rfl,((List.range len).map f:List (Tup ts)),by
      refine ⟨fun x hx=>?_,trivial⟩
      obtain ⟨i,hi,rfl⟩:=List.mem_map.1 (show x∈(List.range len).map f from hx)
      exact (hf i (List.mem_range.1 hi)).1,fun j v d' hv hd=>?_⟩
     cases j with
     | succ j=>simp at hv
     | zero =>
      simp only [List.getElem?_cons_zero,Option.some.injEq] at hv
      subst hv
      have hd2:d' = .sl ts.length (List.map (encs ts) ((List.range len).map f)):=by
       simp only [encs,List.getElem?_cons_zero,Option.some.injEq] at hd
       rw [← hd]
       show D.sl ts.length (List.map (encs ts) (Am.hd [] _))=_
       rfl
      subst hd2
      have hg:∀ (i:Nat) (e:List D),(List.map (encs ts) ((List.range len).map f))[i]? = some e→i<len∧e=encs ts (f i):=by
       intro i e hi
       have hlt:=(List.getElem?_eq_some_iff.1 hi).1
       simp only [List.length_map,List.length_range] at hlt
       rw [List.getElem?_map,List.getElem?_map,List.getElem?_range hlt] at hi
       simp at hi
       exact ⟨hlt,hi.symm⟩
      refine Rd.sl b o len m ts.length _ (fun i j=>(w.cell? ⟨b,o+i*ts.length+j,none⟩).getD undef) (by simp) hlc (by omega) (fun e he=>?_) (fun _=>hlt) (fun i j e d hi hj=>?_) (fun i j e d hi hj=>?_)
      ·obtain ⟨x,_,rfl⟩:=List.mem_map.1 he
       exact Y2 ts x
      ·obtain ⟨hi',rfl⟩:=hg i e hi
       obtain ⟨v,hv,_⟩:=(hf i hi').2 j d hj
       rw [ZP,ZP] at hv
       rw [hv];rfl
      ·obtain ⟨hi',rfl⟩:=hg i e hi
       obtain ⟨v,hv,hr⟩:=(hf i hi').2 j d hj
       rw [ZP,ZP] at hv
       rw [hv];exact hr
  ·rename_i fs ht
   split at hl
   rotate_left
   ·cases hl
   rename_i ts hfs
   obtain ⟨hb,hl⟩:=Qz hl
   cases hl
   have e1:=Nat.eq_of_beq_eq_true hb
   obtain ⟨xs,n',_,_,hlen,hxl,hx⟩:=DataW.trod_struct ht h
   refine ⟨by omega,?_⟩
   obtain ⟨x,hxw,hxx⟩:=QpU (n:=n') (fun t cs d ps ts h1 h2=>Qev k n' t cs d ps ts h1 h2) fs.toList 0 ts hfs (fun f hf=>by
    obtain ⟨i,hi⟩:=List.getElem?_of_mem hf
    have hi2:fs[i]? = some f:=by simpa using hi
    have hlt:i<xs.length:=by rw [hxl];exact (Array.getElem?_eq_some_iff.1 hi2).1
    exact ⟨xs[i],by rw [hx i f hi2];exact List.getElem?_eq_getElem _⟩)
   exact ⟨x,hxw,fun j v d' hv hd=>hxx j v d' (by simpa using hv) hd⟩
  ·cases hl
end
end Go.Proofs.YtdplaepmjogjjaaGreat.Am
namespace Go.Proofs.YtdplaepmjogjjaaGreat.Am
open Go Go.RowKit Go.ChangeShapes Go.WideShapes Go.ChangeAt
def shOf (P:Program) (t:TypeId):Option Sh:=match P.underlying t with
 | some (.struct _)=>match lay P 12 t with
  | some ts=>some (.a ts)
  | none=>none
 | some (.array _ _)=>none
 | _=>match lay P 12 t with
  | some [ct]=>some (.c ct)
  | _=>none
def sgOf (P:Program):List TypeId→Option (List Sh)
 | []=>some []
 | t::ts=>match shOf P t,sgOf P ts with
  | some s,some ss=>some (s::ss)
  | _,_=>none
theorem Qhb:∀ (ts:List CT) (x:Tup ts),(Tup.cells ts x).map TV.emb1=(encs ts x).map AV.c
 | [],x=>rfl
 | t::ts,x=>by rw [Tup.cells,encs,List.map_cons,List.map_cons,Qhb ts];rfl
section
variable {H:Type} {enc:TypeId × Value→H} {P:Program} {w:World} {held:Bool}
theorem QFC {r:Reach} {base:Nat} {t:TypeId} {v:Value} {d:DataW H} {p:List MemPlace} {s:Sh} (hs:shOf P t=some s) (hv:Value.okWide P w r base t v) (h:DataW.Trod enc P w 0 (fun _=>true) held t v d p) :
  ∃ x:s.den,s.wf x∧VR w (Old w) noι noh v (s.val x).emb∧(s.val x).emb.dat=true:=by
 obtain ⟨n,h⟩:=h
 unfold shOf at hs
 split at hs
 ·rename_i fs ht
  split at hs
  rotate_left
  ·cases hs
  rename_i ts hl
  cases hs
  obtain ⟨h1,x,hxw,hx⟩:=Qev _ _ _ _ _ _ _ h hl
  unfold Value.okWide at hv
  rw [ht] at hv
  obtain ⟨cs,rfl,_,_⟩:=hv
  refine ⟨x,hxw,?_,?_⟩
  ·show VR w (Old w) noι noh (.agg cs) (.a ((Tup.cells ts x).map TV.emb1))
   rw [Qhb]
   have h1:cs.toList.length=ts.length:=h1
   have hrd:∀ (k:Nat) (v:Value),cs[k]? = some v→∃ d,(encs ts x)[k]? = some d∧Rd w (Old w) v d:=by
    intro k v hk
    have hlt:k<(encs ts x).length:=by
     have:=(Array.getElem?_eq_some_iff.1 hk).1
     rw [Y2]
     simpa [← h1] using this
    exact ⟨_,List.getElem?_eq_getElem hlt,hx k v _ (by show cs.toList[k]? = some v;simpa using hk) (List.getElem?_eq_getElem hlt)⟩
   refine .a cs _ (by rw [List.length_map,Y2,← h1];simp) (fun k v hk=>?_) (fun k v y hk hy=>?_)
   ·obtain ⟨_,_,hr⟩:=hrd k v hk
    exact hr.one
   ·obtain ⟨d,hd,hr⟩:=hrd k v hk
    rw [List.getElem?_map,hd] at hy
    simp at hy
    subst hy
    exact .c _ _ hr
  ·show AV.dat (.a ((Tup.cells ts x).map TV.emb1))=true
   rw [Qhb]
   simp [AV.dat]
 ·cases hs
 ·rename_i hn1 hn2
  split at hs
  rotate_left
  ·cases hs
  rename_i ct hl
  cases hs
  obtain ⟨h1,x,hxw,hx⟩:=Qev _ _ _ _ _ _ _ h hl
  unfold Value.okWide at hv
  have hv:Cell.okWide P w r base t v:=by
   split at hv
   ·rename_i hh;exact absurd hh (hn1 _)
   ·rename_i hh;exact absurd hh (hn2 _ _)
   ·exact hv
  have hc:v.cells.toList=[v]:=by
   cases v with
   | agg cs =>
    exfalso
    unfold Cell.okWide at hv
    split at hv <;> first | (simp_all;done) | skip
    unfold Cell.ok at hv
    split at hv <;> first | (simp_all;done) | exact hv
   | _=>rfl
  have hr:=hx 0 v (Am.enc ct x) (by rw [hc];rfl) (by cases ct <;> rfl)
  exact ⟨x,by rw [Tup.wf] at hxw;exact hxw.1,.c _ _ hr,rfl⟩
theorem Qk3 {r:Reach} {base:Nat}:∀ {ts:List TypeId} {ss:List Sh} {vs:List Value} {ds:List (DataW H)} {ps:List MemPlace},sgOf P ts=some ss→(∀ (j:Nat) (t:TypeId) (v:Value),ts[j]? = some t→vs[j]? = some v→Value.okWide P w r base t v) →
  DataW.TrodAll enc P w 0 (fun _=>true) held ts vs ds ps→∃ x:DenL ss,wfL ss x∧Args w (Old w) vs ((valL ss x).map TV.emb) [] []
 | [],ss,vs,ds,ps,hs,hv,h=>by
  simp only [sgOf,Option.some.injEq] at hs
  subst hs
  obtain ⟨rfl,_,_⟩:=trodAll_nil h
  exact ⟨(),trivial,.nil⟩
 | t::ts,ss,vs,ds,ps,hs,hv,h=>by
  simp only [sgOf] at hs
  split at hs
  rotate_left
  ·cases hs
  rename_i s ss' h1 h2
  cases hs
  obtain ⟨v0,vs0,d0,ds0,p0,q0,rfl,rfl,rfl,h0,hr⟩:=trodAll_cons h
  obtain ⟨x,hxw,hx,hd⟩:=QFC h1 (hv 0 t v0 rfl rfl) h0
  obtain ⟨y,hyw,hy⟩:=Qk3 h2 (fun j t v hj hk=>hv (j+1) t v (by simpa using hj) (by simpa using hk)) hr
  exact ⟨(x,y),⟨hxw,hyw⟩,.dat v0 _ vs0 _ [] [] hx hy hd⟩
theorem QuO {W W':World} (hl:laidOutB P=true) (hb:Below W.heap.size W W') {sp:Nat→Bool}:∀ {ts:List TypeId} {vs:List Value} {ds:List (DataW H)} {ps:List MemPlace},ts.all (fun t=>P.readableRec t&&decide (t<P.types.size))=true →
  DataW.TrodAll enc P W 0 (fun _=>true) true ts vs ds ps→(∀ p,p∈ps→p.block<W.heap.size)→(∀ p,p∈ps→sp p.block=true)→DataW.TrodAll enc P W' 0 sp true ts vs ds ps
 | [],vs,ds,ps,_,h,_,_=>by
  obtain ⟨rfl,rfl,rfl⟩:=trodAll_nil h
  exact rfl
 | t::ts,vs,ds,ps,hr,h,hlt,hsp=>by
  rw [List.all_cons,Bool.and_eq_true,Bool.and_eq_true] at hr
  obtain ⟨v0,vs0,d0,ds0,p0,q0,rfl,rfl,rfl,h0,hrest⟩:=trodAll_cons h
  refine ⟨p0,q0,WideElems.Trod_stays hl hr.1.1 (of_decide_eq_true hr.1.2) h0 (fun x hx=>hb.same (hlt x (List.mem_append_left _ hx))) (fun x hx=>hsp x (List.mem_append_left _ hx)),?_,rfl⟩
  exact QuO hl hb hr.2 hrest (fun p hp=>hlt p (List.mem_append_right _ hp)) (fun p hp=>hsp p (List.mem_append_right _ hp))
end
theorem law_calls {H:Type} {enc:TypeId × Value→H} {P:Program} {f:FuncId} {fn:Func} {s:ChangeSpec} {apart fresh handsOn again:Bool} {sg:List Sh} {W:World} {args:Array Value} {ds gs:List (DataW H)} {before:List MemPlace} {base:Nat} {tb:TypeId} {n:Nat}
  (hl:laidOutB P=true) (hsg:sgOf P fn.params.toList=some sg) (hrd:fn.params.toList.all (fun t=>P.readableRec t&&decide (t<P.types.size))=true) (hbool:P.underlying tb=some .bool) (hrt:fn.resultTypes = #[tb])
  (hcon:∀ x:DenL sg,wfL sg x→TCon P f (valL sg x) ⟨.c .bool true,[],[],false,[]⟩) (hvars:s.vars=[]) (hn:fn.params.size=n) (hfn:∀ ds:List (DataW H),ds.length=n→s.fn H ds = { results:=[.lit (.bool true)],args:=ds })
  (hval:∀ (j:Nat) (t:TypeId) (v:Value),fn.params[j]? = some t→args[j]? = some v→Value.okWide P W .any base t v)
  (hW:DataW.Whole enc P fn.params.toList s.vars apart W args.toList ds gs before) :
  Calls P f args W fun e W'=>∃ v,e = .returned v∧s.post enc P fn apart fresh handsOn again W args v W':=by
 have hW':=hW
 obtain ⟨p,q,hA,hV,rfl,hfz,hnd⟩:=hW
 rw [hvars] at hV
 obtain ⟨rfl,rfl⟩:=trodVars_none hV
 obtain ⟨x,hxw,hx⟩:=Qk3 hsg (fun j t v hj hk=>hval j t v (by simpa using hj) (by simpa using hk)) hA
 have hlen:ds.length=n:=by
  rw [← hn]
  have:∀ {ts:List TypeId} {vs:List Value} {ds:List (DataW H)} {ps:List MemPlace},DataW.TrodAll enc P W 0 (fun _=>true) true ts vs ds ps→ds.length=ts.length:=by
   intro ts
   induction ts with
   | nil=>intro vs ds ps h;obtain ⟨_,rfl,_⟩:=trodAll_nil h;rfl
   | cons t ts ih=>intro vs ds ps h;obtain ⟨v0,vs0,d0,ds0,p0,q0,rfl,rfl,rfl,h0,hr⟩:=trodAll_cons h;simp [ih hr]
  simpa using this hA
 have hlt:∀ p',p'∈p++[]→p'.block<W.heap.size:=fun p' hp=>hW'.lt p' hp
 refine (QHB (x:=.bool true) (al:=false) (hcon x hxw) (F0:=Old W) hx (fun _ h=>h)).mono fun e W' ⟨he,hg⟩=>?_
 subst he
 have hf:=hfn (ds++[]) (by simpa using hlen)
 refine ⟨_,rfl,QAV (pa:=p) (pv:=[]) hW' (fun b sp hd=>?_) (fun sp hsp=>?_) (fun sp _=>?_) rfl hg ?_⟩
 ·rw [hf,hrt]
  exact trodAll_cons_mk (shut_bool hbool _) trodAll_mk0
 ·rw [hf,List.append_nil]
  exact QuO hl hg hrd hA (fun p' hp=>hlt p' (List.mem_append_left _ hp)) (fun p' hp=>hsp p' (List.mem_append_left _ hp))
 ·rw [hvars,hf]
  exact rfl
 ·exact Go.RowKit.ok_one hrt rfl (okWide_bool_mk hbool _)
end Go.Proofs.YtdplaepmjogjjaaGreat.Am
namespace Go.Proofs.YtdplaepmjogjjaaGreat.Am
open Go
theorem and_mk {a b:Bool} (ha:a=true) (hb:b=true):(a&&b)=true:=by rw [ha,hb];rfl
def Qe6 (P:Program) (rk:List Nat):Bool:=(List.range P.funcs.size).all fun g=>((P.funcs[g]?).elim [] P.leadsTo).all fun h=>Nat.blt (rk.getD h 0) (rk.getD g 0)
theorem Qtg {P:Program} {rk:List Nat} (h:Qe6 P rk=true) (g x:Nat) (hx:x∈(P.funcs[g]?).elim [] P.leadsTo):rk.getD x 0<rk.getD g 0:=by
 by_cases hg:g<P.funcs.size
 ·have:=List.all_eq_true.1 h g (List.mem_range.2 hg)
  exact Nat.le_of_ble_eq_true (List.all_eq_true.1 this x hx)
 ·rw [Array.getElem?_eq_none (by omega)] at hx
  simp at hx
theorem QhS {P:Program} {rk:List Nat} (h:Qe6 P rk=true) (r:Nat):∀ (fuel:Nat) (todo seen:List FuncId),(∀ x,x∈todo→rk.getD x 0<r)→(∀ x,x∈seen→rk.getD x 0<r)→∀ x,x∈P.closureVia fuel todo seen→rk.getD x 0<r
 | 0,todo,seen,_,h2,x,hx=>by
  simp only [Program.closureVia,List.mem_reverse] at hx
  exact h2 x hx
 | n+1,[],seen,_,h2,x,hx=>by
  simp only [Program.closureVia,List.mem_reverse] at hx
  exact h2 x hx
 | n+1,f::todo,seen,h1,h2,x,hx=>by
  simp only [Program.closureVia] at hx
  split at hx
  ·exact QhS h r n todo seen (fun y hy=>h1 y (List.mem_cons_of_mem _ hy)) h2 x hx
  ·refine QhS h r n _ _ (fun y hy=>?_) (fun y hy=>?_) x hx
   ·rcases List.mem_append.1 hy with hy | hy
    ·exact Nat.lt_trans (Qtg h f y hy) (h1 f List.mem_cons_self)
    ·exact h1 y (List.mem_cons_of_mem _ hy)
   ·rcases List.mem_cons.1 hy with rfl | hy
    ·exact h1 _ List.mem_cons_self
    ·exact h2 y hy
theorem no_rec {P:Program} {rk:List Nat} (h:Qe6 P rk=true) {f:FuncId} (hu:P.unfollowed f=false):P.recurses f=false:=by
 unfold Program.recurses
 rw [hu,Bool.false_or]
 rw [Bool.eq_false_iff]
 intro hc
 obtain ⟨g,hg,hc⟩:=List.any_eq_true.1 hc
 obtain ⟨x,hx,hc⟩:=List.any_eq_true.1 hc
 have hmem:g∈P.closure x:=by simpa using hc
 have hlt:=Qtg h g x hx
 unfold Program.closure at hmem
 have:=QhS h (rk.getD g 0) _ [x] [] (fun y hy=>by simp at hy;subst hy;exact hlt) (fun y hy=>by simp at hy) g hmem
 omega
def Qaq:List Char:=([99,117,116]:List Nat).map Char.ofNat
theorem Qvu {P:Program} {rest:List (List Char)} (h:behindMainWord (wordsSigns P.initOrder.toList)=Qaq::rest):P.make=some .cut:=by
 unfold Program.make
 rw [h]
 rfl
theorem Qmy (rest:List (List Char)):stripLifts liftWords (Qaq::rest)=([],Qaq::rest):=by
 rfl
theorem QEE {P:Program} {rest:List (List Char)} (h:behindMainWord (wordsSigns P.initOrder.toList)=Qaq::rest):P.headLifts=[]:=by
 unfold Program.headLifts
 rw [h,Qmy]
 rfl
theorem QC4 {P:Program} {rest:List (List Char)} (h:behindMainWord (wordsSigns P.initOrder.toList)=Qaq::rest):P.liftsFinal=false:=by
 unfold Program.liftsFinal
 rw [QEE h,h]
 rfl
theorem Qwm {P:Program} {rest:List (List Char)} (h:behindMainWord (wordsSigns P.initOrder.toList)=Qaq::rest) (h1:P.laysLater=false) (h2:P.bearsReflect=false) (h3:P.doorFits []=true):P.mayEnter=true:=by
 unfold Program.mayEnter
 rw [h]
 simp only [Qmy,h1,h2,h3]
 rfl
end Go.Proofs.YtdplaepmjogjjaaGreat.Am
namespace Go.Proofs.YtdplaepmjogjjaaGreat.Am
open Go Sz
def JZ (x:Int):Int:=iMin (iMax x (-2147483647)) 2147483647
def Qj0 (x:Int):Int × Bool:=(JZ x,!ZB x)
def JP (a b:Int):Int × Bool:=Qj0 (JZ a+JZ b)
def Qxy (a b:Int):Int × Bool:=Qj0 (JZ a-JZ b)
def Qa8 (a b:Int):Int × Bool:=Qj0 (Int.fdiv (JZ a*JZ b) 65536)
def Qzf (a:Int):Int:=iMax 0 (JZ a)
def Qej (a b:List Int):Bool:=Q5 a&&ZH b a.length
def vz (f:Int→Int→Int × Bool):List Int→List Int→List Int × Bool
 | a::aa,b::bb=>((f a b).1::(vz f aa bb).1,(f a b).2||(vz f aa bb).2)
 | _,_=>([],false)
def QcV (a b:List Int):List Int × Bool:=if Qej a b then vz JP a b else ([],false)
def Qa0 (a b:List Int):List Int × Bool:=if Qej a b then vz Qxy a b else ([],false)
def v1 (f:Int→Int × Bool):List Int→List Int × Bool
 | a::aa=>((f a).1::(v1 f aa).1,(f a).2||(v1 f aa).2)
 | []=>([],false)
def Qka (c:Int) (a:List Int):List Int × Bool:=if ZB c&&Q5 a then v1 (Qa8 c) a else ([],false)
def QjH:List Int→List Int→Int→Int × Bool
 | a::aa,b::bb,z=>((QjH aa bb (JP z (Qa8 a b).1).1).1,(Qa8 a b).2||(JP z (Qa8 a b).1).2||(QjH aa bb (JP z (Qa8 a b).1).1).2)
 | _,_,z=>(z,false)
def JS (a b:List Int):Int × Bool:=if Qej a b then QjH a b 0 else (0,false)
def QHM (a:List Int):List Int:=if Q5 a then a.map Qzf else []
def QHG (x d:List Int):List Int:=if Qej x d then List.zipWith (fun a b=>if 0<a then b else 0) x d else []
def QpZ (m:TMat):Bool:=m_in m.1 1 6&&m_in m.2.1 1 6&&((m.2.2.length:Int)==m.1*m.2.1)&&Yz m.2.2
def Qln (m:TMat) (i:Int):List Int:=slice m.2.2 (i*m.2.1) ((i+1)*m.2.1)
def Qnh (m:TMat) (k:Int):List Int:=(List.range m.1.toNat).map fun i:Nat=>gtd 0 m.2.2 ((i:Int)*m.2.1+k).toNat
def Qgl (m:TMat) (x:List Int):List Int × Bool :=
 if QpZ m&&ZH x m.2.1 then
  ((List.range m.1.toNat).map fun i:Nat=>(JS (Qln m i) x).1,(List.range m.1.toNat).any fun i:Nat=>(JS (Qln m i) x).2) else ([],false)
def Qb5 (m:TMat) (d:List Int):List Int × Bool :=
 if QpZ m&&ZH d m.1 then
  ((List.range m.2.1.toNat).map fun k:Nat=>(JS (Qnh m k) d).1,(List.range m.2.1.toNat).any fun k:Nat=>(JS (Qnh m k) d).2) else ([],false)
def QfD (d x:List Int):TMat × Bool :=
 if Q5 d&&Q5 x then (((d.length:Int),(x.length:Int),d.flatMap fun a=>x.map fun b=>(Qa8 a b).1),d.any fun a=>x.any fun b=>(Qa8 a b).2) else ((0,0,[]),false)
def Jj (o:TOp'):TMat:=(o.2.2.1,o.2.1,o.2.2.2)
def QkH (o:TOp') (x:List Int):List Int × Bool :=
 if Q2 o&&ZH x o.2.1 then
  (if o.1=1 then Qgl (Jj o) x else if o.1=2 then QcV x o.2.2.2 else if o.1=4 then Qka (gtd 0 o.2.2.2 0) x
   else if o.1=5 then ((QcV x (Qgl (Jj o) x).1).1,(Qgl (Jj o) x).2||(QcV x (Qgl (Jj o) x).1).2) else (QHM x,false))
 else ([],false)
def QjX (o:TOp') (x d:List Int):List Int × List Int × Bool :=
 if Q2 o&&ZH x o.2.1&&ZH d o.2.2.1 then
  (if o.1=1 then ((Qb5 (Jj o) d).1,(QfD d x).1.2.2,(Qb5 (Jj o) d).2||(QfD d x).2)
   else if o.1=2 then (d,d,false)
   else if o.1=4 then ((Qka (gtd 0 o.2.2.2 0) d).1,[(JS d x).1],(Qka (gtd 0 o.2.2.2 0) d).2||(JS d x).2)
   else if o.1=5 then ((QcV d (Qb5 (Jj o) d).1).1,(QfD d x).1.2.2,(Qb5 (Jj o) d).2||(QfD d x).2||(QcV d (Qb5 (Jj o) d).1).2)
   else (QHG x d,[],false))
 else ([],[],false)
def Qi9 (y t:List Int):Int × Bool:=(Int.fdiv (JS (Qa0 y t).1 (Qa0 y t).1).1 2,(Qa0 y t).2||(JS (Qa0 y t).1 (Qa0 y t).1).2)
abbrev QFt:Z0:=([],0,false)
def QR (m:QN):Z0:=if QB m then (m.map fun o=>List.replicate o.2.2.2.length 0,0,false) else QFt
def Qen:List (List Int)→List (List Int)→List (List Int) × Bool
 | a::aa,b::bb=>((vz JP a b).1::(Qen aa bb).1,(vz JP a b).2||(Qen aa bb).2)
 | _,_=>([],false)
def Qbt:List TOp'→List Int→List (List Int) × Bool
 | [],x=>([x],false)
 | o::r,x=>(x::(Qbt r (QkH o x).1).1,(QkH o x).2||(Qbt r (QkH o x).1).2)
def Qaw:List TOp'→List (List Int)→List Int→List (List Int) × List Int × Bool
 | o::os,r::rs,d =>
  ((QjX o r (Qaw os rs d).2.1).2.1::(Qaw os rs d).1,(QjX o r (Qaw os rs d).2.1).1,(QjX o r (Qaw os rs d).2.1).2.2||(Qaw os rs d).2.2)
 | _,_,d=>([],d,false)
def Yb (ops:QN) (plan:List TIns) (last redo:Bool):Qr :=
 if QB ops then (0,plan,ops,last,redo,[],[],[],[],[],[],(QR ops).1,0,false) else Zq
def Yg (c:Qf) (n micro:Int):Nat→List Qr
 | 0=>[]
 | k+1=>Yg c n micro k++[Yb (slice (ZA c) (Qo (ZA c) (Ze c) k).1 (Qo (ZA c) (Ze c) k).2) (QT (cDs c) n k micro (gtd false (JI c) k)) (decide ((k:Int)=n-1)) (gtd false (JI c) k)]
abbrev Qz2:QO:=([],[],[],[])
def QG (c:Qf) (b:List Qc):QO :=
 if QK c b=0 then (b,Yg c (Qs c) b.length (Qs c).toNat,(YM c).map fun n=>(n,[]),(YM c).map fun n=>(n,[])) else Qz2
end Go.Proofs.YtdplaepmjogjjaaGreat.Am

